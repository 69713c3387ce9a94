import Derived.Test.YtijlnmgondibnaaGreatDoorExK6
import Derived.Orders
set_option linter.unusedVariables false
set_option linter.unusedSimpArgs false
set_option linter.unusedSectionVars false
namespace Go.Ex
section
variable {E:Env} {s t:St}
theorem a49 {o:Oper} {i:Nat} (h:i∈l5 E o s):∃ x∈o.op.operands.toList,(s.ev x).i6 i=true:=by
 have parts:∀ {T:TypeId} {ps:Array (Nat×Operand)},i∈(s.I1 (ps.toList.map (·.2))).E7->∃ x∈ps.toList.map (·.2),(s.ev x).i6 i=true:=by
  intro T ps h;obtain ⟨x,hx,hm⟩:=X9 (G8.1 h);exact ⟨x,by simpa using hx,hm⟩
 unfold l5 at h;cases ho:o.op with
 | store T a x =>
  rw [ho] at h;simp only [List.mem_append,G8] at h;rcases h with h|h
  ·exact ⟨a,by simp [Op.operands],h⟩
  ·exact ⟨x,by simp [Op.operands],h⟩
 | box T x=>rw [ho] at h; exact ⟨x,by simp [Op.operands],G8.1 h⟩
 | mapUpdate T m x y=>rw [ho] at h; exact ⟨m,by simp [Op.operands],G8.1 h⟩
 | build T ps=>rw [ho] at h; simp only [Op.operands]; exact parts (T:=T) h
 | buildSlice T n ps=>rw [ho] at h; simp only [Op.operands]; exact parts (T:=T) h
 | call c =>
  rw [ho] at h;have cT:∀ x∈c.args.toList,x∈(Op.call c).operands.toList:=λ x hx=>by simp only [Op.operands,Call.operands]; simp at hx ⊢; first|exact .inr hx|exact .inl hx
  simp only at h;split at h
  ·rename_i f hc
   split at h
   ·rename_i g caps hg
    split at h
    ·split at h
     ·cases h
     ·rcases a5P (G8.1 h) with h|h
      ·obtain ⟨x,hx,hm⟩:=X9 h
       exact ⟨x,cT x hx,hm⟩
      ·exact ⟨f,by simp [Op.operands,Call.operands,hc],by rw [hg]; exact h⟩
    ·cases h
   ·split at h
    ·split at h
     ·cases h
     ·rcases a5P (G8.1 h) with h|h
      ·obtain ⟨x,hx,hm⟩:=X9 h
       exact ⟨x,cT x hx,hm⟩
      ·cases h
    ·cases h
   ·split at h
    ·split at h
     ·cases h
     ·rcases a5P (G8.1 h) with h|h
      ·obtain ⟨x,hx,hm⟩:=X9 h
       exact ⟨x,cT x hx,hm⟩
      ·cases h
    ·cases h
   ·cases h
  ·obtain ⟨x,hx,hm⟩:=X9 (G8.1 h)
   exact ⟨x,cT x hx,hm⟩
  ·obtain ⟨x,hx,hm⟩:=X9 (G8.1 h)
   exact ⟨x,cT x hx,hm⟩
  ·obtain ⟨x,hx,hm⟩:=X9 (G8.1 h)
   exact ⟨x,cT x hx,hm⟩
  ·cases h
 | _=>rw [ho] at h; cases h
theorem a8x {o:Oper} (h:∀ x∈o.op.operands.toList,t.ev x=s.ev x):l5 E o t=l5 E o s:=by
 unfold l5;cases ho:o.op with
 | store T a x=>rw [ho] at h; simp only [h a (by simp [Op.operands]),h x (by simp [Op.operands])]
 | box T x=>rw [ho] at h; simp only [h x (by simp [Op.operands])]
 | mapUpdate T m x y=>rw [ho] at h; simp only [h m (by simp [Op.operands])]
 | build T ps =>
  rw [ho] at h;simp only;rw [a4N (s:=s) (t:=t) (λ x hx=>h x (by simp only [Op.operands]; simpa using hx))]
 | buildSlice T n ps =>
  rw [ho] at h;simp only;rw [a4N (s:=s) (t:=t) (λ x hx=>h x (by simp only [Op.operands]; simpa using hx))]
 | call c =>
  rw [ho] at h;have cT:∀ x∈c.args.toList,x∈(Op.call c).operands.toList:=λ x hx=>by simp only [Op.operands,Call.operands]; simp at hx ⊢; first|exact .inr hx|exact .inl hx
  have he:=a4N (s:=s) (t:=t) (λ x hx=>h x (cT x hx));simp only [he]
  split
  ·rename_i f hc
   rw [h f (by simp [Op.operands,Call.operands,hc])]
  ·rfl
  ·rfl
  ·rfl
  ·rfl
 | _=>rfl
def C7 (E:Env) (o:Oper) (s:St) (p:Prop) (v:AV):Prop :=
 ∃ ids f h,Trim (l5 E o s) f/\P6 s ids/\(∀ n∈ids,n % 1000=(o.dst.getD 0) % 1000) /\
  (∀ i,v.i6 i=true->(∃ x∈o.op.operands.toList,(s.ev x).i6 i=true)\/i∈ids) /\
  ∀ t,uniq t.fr->W3 s t o.op.operands.toList->P6 t ids->∃ t1,(n7 E o t).get=some (p,v,t1)/\uniq t1.fr/\c5c t t1 (l5 E o s) ids f h
theorem a1m {o:Oper} (ha:W3 s t o.op.operands.toList) {i:Nat} (hi:i∈l5 E o s):look i t.hp=look i s.hp:=by
 obtain ⟨x,hx,hm⟩:=a49 hi;exact (ha x hx).2 i hm
theorem C7.ro {o:Oper} {p:Prop} {v:AV} {s1:St} (h:(n7 E o s).get=some (p,v,s1)) (h1:∀ t,W3 s t o.op.operands.toList->n7 E o t=(n7 E o s).a0E t) (h2:∀ i,(n7 E o s).av.i6 i=true->∃ x∈o.op.operands.toList,(s.ev x).i6 i=true):C7 E o s p v:=by
 refine ⟨[],λ u=>u,λ i=>look i s.hp,Trim.id _,by simp [P6],by simp,?_,?_⟩
 ·intro i hi
  refine .inl (h2 i ?_);cases hr:n7 E o s<;>rw [hr] at h<;>simp [OR.get] at h
  ·rw [<- h.2.1] at hi; exact hi
  ·rw [<- h.2.1] at hi; exact hi
 ·intro t hu ha _
  refine ⟨t,?_,hu,⟨λ n=>by simp,λ i=>?_⟩⟩
  ·rw [h1 t ha]
   cases hr:n7 E o s<;>rw [hr] at h<;>simp only [OR.get,Option.some.injEq,Prod.mk.injEq] at h
   ·cases h
   ·obtain ⟨rfl,rfl,_⟩:=h; rfl
   ·obtain ⟨rfl,rfl,_⟩:=h; rfl
  ·split
   ·rename_i hi; exact a1m ha (by simpa using hi)
   ·rfl
theorem b4j {d:Nat} (hu:uniq t.fr) (h:P6 t [d]):t.fresh d=true:=by
 simp only [St.fresh,Bool.and_eq_true,Option.isNone_iff_eq_none];exact ⟨(h d (by simp)).1,a32 hu (h d (by simp)).2⟩
theorem b1T {d:Nat} (h:s.fresh d=true):P6 s [d]:=by
 obtain ⟨k1,k2⟩:=a4a h;intro n hn;simp only [List.mem_cons,List.not_mem_nil,or_false] at hn;subst hn;exact ⟨k1,k2⟩
theorem c1t {T g:List Nat} {d:Nat} {e:g8} (hg:∀ i∈g,i∈T) (ha:∀ i∈T,look i t.hp=look i s.hp):c5c t ((St.u4 g t).u5 d e) T [d] (a1K g) (λ i=>if i=d then some e else if i∈g then none else look i s.hp):=by
 refine ⟨λ n=>a1D,λ i=>?_⟩;show look i (Ex.put d e (St.u4 g t).hp)=_;rw [o7,H8];by_cases h1:i=d
 ·simp [h1]
 ·by_cases h3:i∈g
  ·have:=hg i h3; simp [h1,h3,this]
  ·by_cases h2:i∈T
   ·simp [h1,h3,h2,ha i h2]
   ·simp [h1,h2,h3]
theorem C7.obj {o:Oper} {p:Prop} {d:Nat} (hd:o.dst=some d) {e:g8} {v:AV} {g:List Nat} (hv:∀ i,v.i6 i=true->i=d) (hf:s.fresh d=true) (hg:∀ i∈g,i∈l5 E o s)
  (h:∀ t,W3 s t o.op.operands.toList->uniq t.fr->t.fresh d=true->(n7 E o t).get=some (p,v,(St.u4 g t).u5 d e)):C7 E o s p v:=by
 refine ⟨[d],a1K g,(λ i=>if i=d then some e else if i∈g then none else look i s.hp),(Trim.u4 g).mono hg,b1T hf,by simp [hd],λ i hi=>.inr (by simp [hv i hi]),?_⟩;intro t hu ha hn;exact ⟨_,h t ha hu (b4j hu hn),a1x (g:=g) hu,c1t hg (λ i hi=>a1m ha hi)⟩
theorem b0R {d:Nat} {g:List Nat} {u:Ty} {x:u.den} {v:AV} {s':St} (hl:s.lay d g u x=.ok v s'):s.fresh d=true/\v=.at_ d []/\s'=(St.u4 g s).u5 d (.own u x)/\(a1C g && (g.all λ i=>!pinned i))=true:=by
 unfold St.lay at hl;split at hl
 ·cases hl
 ·rename_i hc
  simp only [Bool.and_eq_true] at hc;split at hl
  ·cases hl; exact ⟨hc.2,rfl,rfl,by simp only [Bool.and_eq_true]; exact hc.1⟩
  ·cases hl
theorem b4a {d:Nat} {g:List Nat} {u:Ty} {x:u.den} (hf:t.fresh d=true) (hg:(a1C g && (g.all λ i=>!pinned i))=true):t.lay d g u x=.ok (.at_ d []) ((St.u4 g t).u5 d (.own u x)):=by
 unfold St.lay;have h2:(St.u4 g t).fresh d=true:=by
  simp only [St.fresh,Bool.and_eq_true,Option.isNone_iff_eq_none] at hf ⊢;refine ⟨by rw [H8]; split<;>first|rfl|exact hf.1,a3D hf.2⟩
 simp only [hg,hf,h2,Bool.and_self]
theorem C7.lay {o:Oper} {p:Prop} {v:AV} {s1:St} {d:Nat} (hd:o.dst=some d) {g:List Nat} {u:Ty} {x:u.den} {W:OR->OR} (hW:∀ v s,(W (.ok v s)).get=some (p,v,s)) (hF:∀ y,(W (.fail y)).get=none) (hg:∀ i∈g,i∈l5 E o s)
  (h:(n7 E o s).get=some (p,v,s1)) (h1:∀ t,W3 s t o.op.operands.toList->n7 E o t=W (t.lay d g u x)):C7 E o s p v:=by
 rw [h1 s (.refl _ _)] at h;cases hl:s.lay d g u x with
 | fail y=>rw [hl,hF] at h; cases h
 | E5 q v s'=>exact absurd hl S6
 | ok v' s' =>
  rw [hl,hW] at h;cases h;obtain ⟨k1,rfl,rfl,k4⟩:=b0R hl;refine C7.obj hd (e:=.own u x) (g:=g) (λ i hi=>by simpa [AV.i6] using hi) k1 hg (λ t ha hu hf=>?_);rw [h1 t ha,b4a hf k4,hW]
theorem a3z {q p:Prop} {r:OR} {v:AV} {s1:St} (h:(r.f6 q).get=some (p,v,s1)) (hr:∀ q' v' s',r≠.E5 q' v' s'):p=q:=by
 cases r with
 | fail y=>cases h
 | ok v s=>simp only [OR.f6,OR.get,Option.some.injEq,Prod.mk.injEq] at h; exact h.1.symm
 | E5 q' v' s'=>exact absurd rfl (hr q' v' s')
theorem c3v {T:TypeId} {a:AV} (h:Alike s t a):a1a E T a t=(a1a E T a s).a0E t:=by
 unfold a1a;cases a with
 | ptr i p =>
  simp only [H5 (h i (by simp [AV.i6]))]
  repeat' (first|rfl|split)
 | _=>first|rfl|(dsimp only; split<;>rfl)
theorem b85 {T:TypeId} {a:AV} {i:Nat} (h:(a1a E T a s).av.i6 i=true):a.i6 i=true:=by
 unfold a1a at h;cases a with
 | ptr j p =>
  simp only at h
  repeat' (split at h)
  all_goals first|exact h|(cases h; done)
 | _ =>
  simp only at h
  repeat' (split at h)
  all_goals first|exact h|(cases h; done)
theorem a8D {i:Nat}:∀ {n:Nat} {l v:AV},n7.nth n l=some v->v.i6 i=true->l.i6 i=true
 | 0,l,v,h,hv=>by
  cases l<;>simp only [n7.nth] at h<;>first|cases h|skip
  simp [AV.i6,hv]
 | n+1,l,v,h,hv=>by
  cases l<;>simp only [n7.nth] at h<;>first|cases h|skip
  simp [AV.i6,a8D h hv]
theorem c5l (d k:Nat):L9 d k % 1000=d % 1000:=by unfold L9; omega
theorem b7h {d j k:Nat} (h:L9 d j=L9 d k):j=k:=by unfold L9 at h; omega
theorem a5t:∀ {ts:List Ty} {x:DL ts} {d j:Nat} {hp:List (Nat×g8)} {l:AV} {cn:List (Nat×g8)},V6 ts x d j hp=some (l,cn) ->
  (∀ i,l.i6 i=true->∃ k,j<=k/\k<j+ts.length/\i=L9 d k) /\
  ∃ h:Nat->Option g8,∀ h2,(∀ k,j<=k->k<j+ts.length->look (L9 d k) h2=none)->∃ eX,V6 ts x d j h2=some (l,eX)/\∀ i,look i eX=(match h i with|some e=>some e|none=>look i h2)/\((h i).isSome->∃ k,j<=k/\k<j+ts.length/\i=L9 d k)
 | [],x,d,j,hp,l,cn,h=>by
  simp only [V6,Option.some.injEq,Prod.mk.injEq] at h;obtain ⟨rfl,rfl⟩:=h;exact ⟨by simp [AV.i6],λ _=>none,λ h2 _=>⟨h2,rfl,λ i=>⟨rfl,by simp⟩⟩⟩
 | u::ts,x,d,j,hp,l,cn,h=>by
  simp only [V6] at h;split at h
  ·rename_i hs
   split at h
   ·rename_i l' eO eR
    cases h;obtain ⟨k1,h,k2⟩:=a5t eR;refine ⟨λ i hi=>?_,h,λ h2 hh=>?_⟩
    ·obtain ⟨k,m1,m2,m3⟩:=k1 i (by simpa [AV.i6] using hi)
     exact ⟨k,by omega,by simp only [List.length_cons]; omega,m3⟩
    ·obtain ⟨eX,e1,e2⟩:=k2 h2 (λ k iK eo=>hh k (by omega) (by simp only [List.length_cons]; omega))
     refine ⟨eX,by simp only [V6,hs,e1],λ i=>⟨(e2 i).1,λ hi=>?_⟩⟩;obtain ⟨k,m1,m2,m3⟩:=(e2 i).2 hi;exact ⟨k,by omega,by simp only [List.length_cons]; omega,m3⟩
   ·cases h
  ·rename_i hs
   split at h
   ·cases h
   ·rename_i eQ
    split at h
    ·rename_i l' eO eR
     cases h;obtain ⟨k1,h,k2⟩:=a5t eR;refine ⟨λ i hi=>?_,λ i=>if i=L9 d j then some (a1E u x.1 (L9 d j)).1 else h i,λ h2 hh=>?_⟩
     ·simp only [AV.i6,Bool.or_eq_true] at hi
      rcases hi with hi|hi
      ·refine ⟨j,Nat.le_refl _,by simp,?_⟩
       rcases a8L u x.1 (L9 d j) with e|⟨g,_,_,_,e⟩
       ·rw [e] at hi; exact Nat.eq_of_beq_eq_true hi
       ·rw [e] at hi
        cases g with
        | none=>exact Nat.eq_of_beq_eq_true hi
        | some f =>
         have hi:(Nat.beq i (L9 d j) || false)=true:=hi;rw [Bool.or_false] at hi;exact Nat.eq_of_beq_eq_true hi
      ·obtain ⟨k,m1,m2,m3⟩:=k1 i hi
       exact ⟨k,by omega,by simp only [List.length_cons]; omega,m3⟩
     ·have e0:look (L9 d j) h2=none:=hh j (Nat.le_refl _) (by simp)
      obtain ⟨eX,e1,e2⟩:=k2 (put (L9 d j) (a1E u x.1 (L9 d j)).1 h2) (λ k iK eo=>by
       rw [o7,if_neg (λ e=>by have:=b7h e; omega)];exact hh k (by omega) (by simp only [List.length_cons]; omega))
      refine ⟨eX,by simp only [V6,hs,e0,e1],λ i=>⟨?_,λ hi=>?_⟩⟩
      ·rw [(e2 i).1,o7]
       by_cases he:i=L9 d j
       ·simp only [he,if_true]
        cases rj:h (L9 d j) with
        | none=>rfl
        | some e =>
         exfalso;obtain ⟨k,m1,m2,m3⟩:=(e2 (L9 d j)).2 (by rw [rj]; rfl);have:=b7h m3; omega
       ·simp only [if_neg he]
      ·by_cases he:i=L9 d j
       ·exact ⟨j,Nat.le_refl _,by simp,he⟩
       ·simp only [if_neg he] at hi
        obtain ⟨k,m1,m2,m3⟩:=(e2 i).2 hi;exact ⟨k,by omega,by simp only [List.length_cons]; omega,m3⟩
    ·cases h
theorem a5m {d:Nat}:∀ {n:Nat} {fr:List (Nat×AV)},(∀ k,k<n->Y8 (L9 d k) fr=true)->a0T d n fr=true
 | 0,_,_=>rfl
 | n+1,fr,h=>by
  simp only [a0T,Bool.and_eq_true];exact ⟨h n (by omega),a5m (λ k hk=>h k (by omega))⟩
theorem a5l {d:Nat}:∀ {n:Nat} {hp:List (Nat×g8)},a4H d n hp=true↔∀ k,k<n->look (L9 d k) hp=none
 | 0,_=>by simp [a4H]
 | n+1,hp=>by
  simp only [a4H,Bool.and_eq_true,Option.isNone_iff_eq_none,a5l (n:=n)];constructor
  ·rintro ⟨h1,h2⟩ k hk
   by_cases e:k=n
   ·subst e; exact h1
   ·exact h2 k (by omega)
  ·intro h; exact ⟨h n (by omega),λ k hk=>h k (by omega)⟩
theorem c3n {i:Nat} {l:AV} (h:l.one.i6 i=true):l.i6 i=true:=by
 unfold AV.one at h;split at h
 ·simp [AV.i6,h]
 ·exact h
theorem a2s:∀ {ks:List PK} {y:DL (F4 ks)} {m:List Nat} {s1:St},wr ks y m s=some s1 ->
  (m=[]/\∀ t,wr ks y m t=some t)\/∃ i ow e,m=[i]/\∀ t,wr ks y m t=some ((t.U1 i ow).u5 i e)
 | [],y,m,s1,h=>by
  cases m with
  | nil=>exact .inl ⟨rfl,λ t=>rfl⟩
  | cons i m=>cases h
 | k::ks,y,m,s1,h=>by
  cases k with
  | rw u =>
   match m,h with
   | [],h=>cases h
   | [i],h =>
    simp only [wr] at h;split at h
    ·rename_i hw
     exact .inr ⟨i,false,.var u y.1,rfl,λ t=>by simp only [wr,hw]⟩
    ·cases h
   | i::j::m,h=>cases h
  | mu u =>
   match m,h with
   | [],h=>cases h
   | [i],h =>
    simp only [wr] at h;split at h
    ·rename_i hw
     exact .inr ⟨i,true,.own (.d0 true u) y.1,rfl,λ t=>by simp only [wr,hw]⟩
    ·cases h
   | i::j::m,h=>cases h
  | v u=>cases m<;>exact a2s (ks:=ks) h
  | T3=>cases m<;>exact a2s (ks:=ks) h
  | Y6 f n=>cases m<;>exact a2s (ks:=ks) h
  | el q=>cases m<;>exact a2s (ks:=ks) h
  | rd u=>cases m<;>exact a2s (ks:=ks) h
  | B8 f ts=>cases m<;>exact a2s (ks:=ks) h
  | own u=>cases m<;>exact a2s (ks:=ks) h
end
end Go.Ex
namespace Go.Ex
section
variable {E:Env} {s t:St}
theorem a13 {c:Call} {x:Operand} (hx:x∈c.args.toList):x∈(Op.call c).operands.toList:=by
 simp only [Op.operands,Call.operands]; simp at hx ⊢; first|exact .inr hx|exact .inl hx
def gq (m:Nat) (v:AV):AV:=match Nat.beq m H7 with|true=>.any|false=>v
theorem a9W {s:St} {m:Nat}:s.ev (.tmp m)=gq m (s.get m):=rfl
theorem a2k {s:St} {m i:Nat} (h:(s.ev (.tmp m)).i6 i=true):(s.get m).i6 i=true:=by
 rw [a9W] at h;unfold gq at h;split at h
 ·cases h
 ·exact h
theorem a0O {s t:St} {m:Nat} (h:t.get m=s.get m):t.ev (.tmp m)=s.ev (.tmp m):=congrArg (gq m) h
theorem c5R {s:St} {m:Nat} {v:AV} (hb:Nat.beq m H7=false) (h:s.get m=v):s.ev (.tmp m)=v:=by
 rw [a9W,h]; unfold gq; rw [hb]
theorem a2C {s:St} {m:Nat} {v:AV} (h:s.ev (.tmp m)=v) (hv:v≠.any):s.get m=v:=by
 rw [a9W] at h;unfold gq at h;split at h
 ·exact absurd h.symm hv
 ·exact h
theorem b9l {s:St} {m:Nat} {v:AV} (h:s.ev (.tmp m)=v) (hv:v≠.any):Nat.beq m H7=false:=by
 rw [a9W] at h;unfold gq at h;split at h
 ·exact absurd h.symm hv
 ·assumption
theorem a66 {o:Oper} {c:Call} (ho:o.op=.call c) {f:Operand} (hc:c.callee=.value f) {W:OR->OR} {π:Prop->Prop} (hW:∀ r,(W r).get=r.get.map (λ x=>(π x.1,x.2.1,x.2.2))) {g:FuncId} {caps fv:AV} (hg:s.ev f=fv) (dC:∀ i,caps.i6 i=true->fv.i6 i=true)
  (he:∀ t,t.ev f=fv->n7 E o t=W (P0 E g ((t.I1 c.args.toList).app caps) o.dst t))
  (hT:l5 E o s=(match look g E.C0 with
    | some c'=>(match c'.ps.any PK.l5 with
     | false=>[]
     | true=>((s.I1 c.args.toList).app caps).E7)
    | none=>[])) {p:Prop} {v:AV} {s1:St} (h:(n7 E o s).get=some (p,v,s1)):C7 E o s p v:=by
 have ft:f∈o.op.operands.toList:=by rw [ho]; simp [Op.operands,Call.operands,hc]
 have cA:∀ x∈c.args.toList,x∈o.op.operands.toList:=λ x hx=>by rw [ho]; exact a13 hx
 rw [he s hg,hW] at h;obtain ⟨q,h,hq⟩:∃ q,(P0 E g ((s.I1 c.args.toList).app caps) o.dst s).get=some (q,v,s1)/\π q=p:=by
  cases hr:(P0 E g ((s.I1 c.args.toList).app caps) o.dst s).get with
  | none=>rw [hr] at h; cases h
  | some x =>
   rw [hr] at h;simp only [Option.map_some,Option.some.injEq,Prod.mk.injEq] at h;exact ⟨x.1,by rw [<- h.2.1,<- h.2.2],h.1⟩
 have aF:∀ i,((s.I1 c.args.toList).app caps).i6 i=true->∃ x∈o.op.operands.toList,(s.ev x).i6 i=true:=by
  intro i hi;rcases a5P hi with hi|hi
  ·obtain ⟨x,hx,hi⟩:=X9 hi; exact ⟨x,cA x hx,hi⟩
  ·exact ⟨f,ft,by rw [hg]; exact dC i hi⟩
 generalize pT:(s.I1 c.args.toList).app caps=av at h aF hT;unfold P0 at h;split at h
 ·cases h
 ·rename_i c' eQ
  rw [eQ] at hT;simp only at hT;split at h
  ·cases h
  ·rename_i x gs m hx
   obtain ⟨ib,lG⟩:=b2k hx;have ij:∀ i,i∈gs++m->i∈l5 E o s:=by
    intro i hi;rw [hT];cases hp:c'.ps.any PK.l5 with
    | true=>exact G8.2 (ib i hi)
    | false=>obtain ⟨r1,r2⟩:=lG hp; rw [r1,r2] at hi; cases hi
   split at h
   ·cases h
   ·rename_i bR
    obtain ⟨kb,eJ⟩:=(Bool.and_eq_true_iff).1 bR;obtain ⟨gm,qH⟩:=(Bool.and_eq_true_iff).1 eJ;split at h
    ·cases h
    ·rename_i s2 nc
     split at h
     ·cases h
     ·rename_i hm
      split at h
      ·rename_i l hp nX
       simp only [OR.get,Option.some.injEq,Prod.mk.injEq] at h;obtain ⟨rfl,rfl,_⟩:=h;obtain ⟨k3,h3,k4⟩:=a5t nX;simp only [Nat.zero_add,Nat.zero_le,true_and] at k3 k4;have jS:∀ {t:St},P6 t ((List.range c'.rs.length).map (L9 (o.dst.getD 0)))->∀ k,k<c'.rs.length->look (L9 (o.dst.getD 0) k) t.hp=none:=λ hn k hk=>(hn _ (List.mem_map.2 ⟨k,by simpa using hk,rfl⟩)).1;have hw:∃ (f:AV->AV) (h:Nat->Option g8),Trim (l5 E o s) f/\(∀ i,i∉l5 E o s->h i=none)/\∀ t,uniq t.fr->(∀ i∈l5 E o s,look i t.hp=look i s.hp)->∃ t2,wr c'.ps (c'.out x) m (St.u4 gs t)=some t2/\uniq t2.fr/\(∀ n,look n t2.fr=(look n t.fr).map f)/\∀ i,look i t2.hp=if i∈l5 E o s then h i else look i t.hp:=by
        rcases a2s nc with ⟨rfl,hw⟩|⟨i0,ow,e,rfl,hw⟩
        ·refine ⟨a1K gs,λ i=>if i∈l5 E o s then (if i∈gs then none else look i s.hp) else none,(Trim.u4 gs).mono (λ i hi=>ij i (by simp [hi])),λ i hi=>by simp [hi],λ t hu ha=>⟨_,hw _,a1x hu,λ n=>a1D,λ i=>?_⟩⟩
         rw [H8];by_cases h1:i∈gs
         ·simp [h1,ij i (by simp [h1])]
         ·by_cases h2:i∈l5 E o s
          ·simp [h1,h2,ha i h2]
          ·simp [h1,h2]
        ·have lQ:i0∈l5 E o s:=ij i0 (by simp)
         refine ⟨λ u=>AV.map (AV.a1H i0 ow) (a1K gs u),λ i=>if i∈l5 E o s then (if i=i0 then some e else if i∈gs then none else look i s.hp) else none,
          Trim.comp (Trim.u4 gs) (Trim.U1 i0 ow) (λ i hi=>ij i (by simp [hi])) (by simpa using lQ),λ i hi=>by simp [hi],λ t hu ha=>⟨_,hw _,a2u (a1x hu),λ n=>?_,λ i=>?_⟩⟩
         ·show look n (mapA _ (St.u4 gs t).fr)=_
          rw [N5,a1D,Option.map_map]; rfl
         ·show look i (Ex.put i0 e (St.u4 gs t).hp)=_
          rw [o7,H8];by_cases h0:i=i0
          ·subst h0; simp [lQ]
          ·by_cases h1:i∈gs
           ·simp [h0,h1,ij i (by simp [h1])]
           ·by_cases h2:i∈l5 E o s
            ·simp [h0,h1,h2,ha i h2]
            ·simp [h0,h1,h2]
       obtain ⟨f0,h0,w1,w2,w3⟩:=hw;refine ⟨(List.range c'.rs.length).map (L9 (o.dst.getD 0)),f0,λ i=>match h3 i with|some e=>some e|none=>h0 i,w1,?_,?_,?_,?_⟩
       ·intro n hn
        obtain ⟨k,hk,rfl⟩:=List.mem_map.1 hn;exact ⟨a5l.1 qH k (by simpa using hk),λ m w hw=>a05 (a2h gm k (by simpa using hk)) hw⟩
       ·intro n hn
        obtain ⟨k,_,rfl⟩:=List.mem_map.1 hn;exact c5l _ _
       ·intro i hi
        obtain ⟨k,m2,rfl⟩:=k3 i (c3n hi);exact .inr (List.mem_map.2 ⟨k,by simpa using m2,rfl⟩)
       ·intro t hu ha hn
        have ee:Alike s t av:=λ i hi=>by obtain ⟨x,hx,hm⟩:=aF i hi; exact (ha x hx).2 i hm
        obtain ⟨t2,e1,e2,e3,e4⟩:=w3 t hu (λ i hi=>a1m ha hi);have ko:∀ k,k<c'.rs.length->L9 (o.dst.getD 0) k∉l5 E o s:=by
         intro k hk bG;obtain ⟨x,hx,hm⟩:=a49 bG;obtain ⟨m',rfl,fE⟩:∃ m',x=.tmp m'/\(s.get m').i6 (L9 (o.dst.getD 0) k)=true:=by
          cases x with
          | tmp m'=>exact ⟨m',rfl,a2k hm⟩
          | const v =>
           exfalso;simp only [St.ev] at hm;unfold ofConst at hm;split at hm
           ·split at hm<;>cases hm
           ·cases hm
           ·split at hm<;>cases hm
           ·cases hm
          | global g=>cases hm
          | func f=>cases hm
         simp only [St.get] at fE;cases hl:look m' s.fr with
         | none=>rw [hl] at fE; cases fE
         | some w =>
          rw [hl] at fE;have:=a05 (a2h gm k hk) hl;simp only [Option.getD_some] at fE;rw [fE] at this; cases this
        have ec:∀ k,k<c'.rs.length->look (L9 (o.dst.getD 0) k) t2.hp=none:=by
         intro k hk;rw [e4,if_neg (ko k hk)];exact jS hn k hk
        obtain ⟨eX,r1,r2⟩:=k4 t2.hp (λ k _ hk=>ec k hk);have fE:a0T (o.dst.getD 0) c'.rs.length t2.fr=true:=a5m (λ k hk=>a32 e2 (λ n w hw=>by
         rw [e3] at hw;cases hl:look n t.fr with
         | none=>rw [hl] at hw; cases hw
         | some u =>
          rw [hl] at hw;cases hw;cases kK:(f0 u).i6 (L9 (o.dst.getD 0) k) with
          | false=>rfl
          | true =>
           have:=(hn (L9 (o.dst.getD 0) k) (List.mem_map.2 ⟨k,by simpa using hk,rfl⟩)).2 n u hl;rw [w1.i6 u kK] at this; cases this))
        have jI:a0T (o.dst.getD 0) c'.rs.length t.fr=true:=a5m (λ k hk=>a32 hu (hn _ (List.mem_map.2 ⟨k,by simpa using hk,rfl⟩)).2);have nL:a4H (o.dst.getD 0) c'.rs.length t.hp=true:=a5l.2 (λ k hk=>jS hn k hk);have eS:(t.I1 c.args.toList).app caps=av:=by
         rw [a4N (s:=s) (t:=t) (λ x hx=>(ha x (cA x hx)).1)]; exact pT
        have rC:P0 E g av o.dst t=.E5 (c'.pre x) l.one { t2 with hp:=eX }:=by
         unfold P0;simp only [eQ,b7R (s:=s) (t:=t) ee,hx,kb,jI,nL,Bool.and_self,e1,fE,r1]
        refine ⟨{ t2 with hp:=eX },?_,e2,⟨e3,λ i=>?_⟩⟩
        ·rw [he t ((ha f ft).1.trans hg),hW,eS,rC]; simp only [OR.get,Option.map_some,hq]
        ·show look i eX=_
         rw [(r2 i).1,e4];cases hh:h3 i with
         | some e =>
          obtain ⟨k,hk,jR⟩:=(r2 i).2 (by rw [hh]; rfl);simp only;rw [if_pos (.inr (List.mem_map.2 ⟨k,by simpa using hk,jR.symm⟩))]
         | none =>
          simp only;by_cases h1:i∈l5 E o s
          ·rw [if_pos h1,if_pos (.inl h1)]
          ·rw [if_neg h1]
           split
           ·rename_i hi
            rcases hi with hi|hi
            ·exact absurd hi h1
            ·obtain ⟨k,hk,rfl⟩:=List.mem_map.1 hi
             rw [jS hn k (by simpa using hk),w2 _ h1]
           ·rfl
      ·cases h
theorem c36 {o:Oper} {c:Call} (ho:o.op=.call c) {f:Operand} (hc:c.callee=.value f) {p:Prop} {v:AV} {s1:St} (h:(n7 E o s).get=some (p,v,s1)):C7 E o s p v:=by
 have key:(∃ g caps,s.ev f=.B8 g caps)\/(∃ g b,s.ev f=.val (.fn g) b)\/∃ g t y,s.ev f=.val (.box false (some g) t) y:=by
  unfold n7 at h;rw [ho] at h;simp only [hc] at h;split at h
  ·exact .inl ⟨_,_,by assumption⟩
  ·exact .inr (.inl ⟨_,_,by assumption⟩)
  ·exact .inr (.inr ⟨_,_,_,by assumption⟩)
  ·cases h
 rcases key with ⟨g,caps,hg⟩|⟨g,b,hg⟩|⟨g,t0,y0,hg⟩
 ·refine a66 ho hc (W:=λ r=>r) (π:=λ q=>q) (g:=g) (caps:=caps) (λ r=>by cases r<;>rfl) hg (λ i hi=>hi) (λ t ht=>?_) ?_ h
  ·unfold n7
   rw [ho];simp only [hc,ht]
  ·unfold l5; rw [ho]; simp only [hc,hg]; rfl
 ·refine a66 ho hc (W:=λ r=>r.a69 ((b:Bool)=true)) (π:=λ q=>(b:Bool)=true/\q) (g:=g) (caps:=.nil) (λ r=>by cases r<;>rfl) hg (λ i hi=>by cases hi) (λ t ht=>?_) ?_ h
  ·unfold n7
   rw [ho];simp only [hc,ht]
  ·unfold l5; rw [ho]; simp only [hc,hg]; rfl
 ·refine a66 ho hc (W:=λ r=>r.a69 ((y0:Option t0.den).isSome=true)) (π:=λ q=>(y0:Option t0.den).isSome=true/\q) (g:=g) (caps:=.cons (.M4 t0 (Option.getD (y0:Option t0.den) t0.o8)) .nil) (λ r=>by cases r<;>rfl) hg (λ i hi=>by cases hi) (λ t ht=>?_) ?_ h
  ·unfold n7
   rw [ho];simp only [hc,ht]
  ·unfold l5; rw [ho]; simp only [hc,hg]; rfl
end
end Go.Ex
namespace Go.Ex
section
variable {E:Env} {s t:St}
theorem b8B {T:TypeId} {i:Nat} {p:List Step} {x:AV} {q:Prop} {v:AV} {s1:St} (h:(a0k E T i p x s).get=some (q,v,s1)) :
  v=.raw undef/\∃ g ow e,(∀ j∈g,x.i6 j=true)/\∀ t:St,t.obj i=s.obj i->Alike s t x->(a0k E T i p x t).get=some (q,.raw undef,((St.u4 g t).kill i ow p).u5 i e):=by
 unfold a0k at h;split at h
 ·cases h
 ·rename_i e aX
  split at h
  ·cases h
  ·rename_i u y hg
   split at h
   ·cases h
   ·rename_i bE
    have base:∀ t:St,t.obj i=s.obj i->t.obj i=some e:=λ t ht=>ht.trans aX;split at h
    ·split at h
     ·split at h
      ·rename_i r aO
       cases h;refine ⟨rfl,[],e.kd,e.D6 r,by simp,λ t ht _=>?_⟩;unfold a0k;simp only [base t ht,hg,bE,aO];rfl
      ·cases h
     ·split at h
      ·rename_i r aO
       cases h;refine ⟨rfl,[],e.kd,e.D6 r,by simp,λ t ht _=>?_⟩;unfold a0k;simp only [base t ht,hg,bE,aO];rfl
      ·cases h
     ·cases h
    ·rename_i j q' lo hi
     split at h
     ·split at h
      ·rename_i r aO
       split at h
       ·rename_i cd
        cases h;refine ⟨rfl,[],e.kd,e.D6 r,by simp,λ t ht _=>?_⟩;unfold a0k;simp only [base t ht,hg,bE,aO,cd];rfl
       ·cases h
      ·cases h
     ·cases h
    ·rename_i x' nb qh
     split at h
     ·rename_i z g cC
      split at h
      ·rename_i r aO
       split at h
       ·rename_i cd
        cases h;refine ⟨rfl,g,e.kd,e.D6 r,a27 cC,λ t ht ee=>?_⟩;have eH:=(a1h ee).trans cC;unfold a0k;simp only [base t ht,hg,bE];simp only [eH,aO,cd];rfl
       ·cases h
      ·cases h
     ·rename_i cC
      split at h
      ·rename_i j q'
       split at h
       ·rename_i u' y' cM
        split at h
        ·rename_i r aO
         split at h
         ·rename_i cd
          cases h;refine ⟨rfl,[],e.kd,e.D6 r,by simp,λ t ht ee=>?_⟩;have eH:=(a1h ee).trans cC;have nC:=(H5 (p:=q') (ee j (by simp [AV.i6]))).trans cM;unfold a0k;simp only [base t ht,hg,bE];simp only [eH,nC,aO,cd];rfl
         ·cases h
        ·cases h
       ·cases h
      ·cases h
theorem c1b {o:Oper} {T:TypeId} {a x:Operand} (ho:o.op=.store T a x) {p:Prop} {v:AV} {s1:St} (h:(n7 E o s).get=some (p,v,s1)):C7 E o s p v:=by
 have nB:∃ i q,s.ev a=.ptr i q:=by
  unfold n7 at h;rw [ho] at h;simp only at h;split at h
  ·exact ⟨_,_,by assumption⟩
  ·cases h
 obtain ⟨i,q,hp⟩:=nB;have ha:∀ t,t.ev a=.ptr i q->n7 E o t=a0k E T i q (t.ev x) t:=by
  intro t ht;unfold n7;rw [ho];simp only [ht]
 rw [ha s hp] at h;obtain ⟨rfl,g,ow,e,hg,k⟩:=b8B h;have hT:l5 E o s=(s.ev a).E7++(s.ev x).E7:=by unfold l5; rw [ho]
 have pM:i∈l5 E o s:=by rw [hT,hp]; simp [AV.E7]
 have ij:∀ j∈g,j∈l5 E o s:=λ j hj=>by rw [hT]; exact List.mem_append_right _ (G8.2 (hg j hj))
 have pU:a∈o.op.operands.toList:=by rw [ho]; simp [Op.operands]
 have cA:x∈o.op.operands.toList:=by rw [ho]; simp [Op.operands]
 refine ⟨[],λ u=>AV.kill i ow q (a1K g u),λ j=>if j=i then some e else if j∈g then none else look j s.hp,Trim.comp (Trim.u4 g) (Trim.kill i ow q) ij (by simpa using pM),by simp [P6],by simp,by simp [AV.i6],?_⟩;intro t hu cV _;have eS:=(cV x cA).1;have nI:t.obj i=s.obj i:=(cV a pU).2 i (by rw [hp]; simp [AV.i6]);refine ⟨((St.u4 g t).kill i ow q).u5 i e,?_,a2u (a1x hu),⟨λ n=>?_,λ j=>?_⟩⟩
 ·rw [ha t ((cV a pU).1.trans hp),eS]
  exact k t nI (λ j hj=>(cV x cA).2 j hj)
 ·show look n (mapA _ (St.u4 g t).fr)=_
  rw [N5,a1D,Option.map_map]; rfl
 ·show look j (Ex.put i e (St.u4 g t).hp)=_
  rw [o7,H8];by_cases h0:j=i
  ·subst h0; simp [pM]
  ·by_cases h1:j∈g
   ·simp [h0,h1,ij j h1]
   ·by_cases h2:j∈l5 E o s
    ·simp [h0,h1,h2,a1m cV h2]
    ·simp [h0,h1,h2]
theorem a8q {T:TypeId} {x y:AV} {dst:Option Nat} {p:Prop} {v:AV} {s1:St} (h:(Z4 E T x y dst s).get=some (p,v,s1)) :
  ∃ d g u l,dst=some d/\(∀ j∈g,x.i6 j=true\/y.i6 j=true)/\∀ t,Alike s t x->Alike s t y->Z4 E T x y dst t=(St.lay t d g u l).f6 p:=by
 unfold Z4 at h;split at h
 ·rename_i q t0 bts d hT
  split at h
  ·cases h
  ·rename_i tt m g cg
   have gx:=c2t cg;have ha:∀ t,Alike s t y->y.a1j t t0=some (⟨tt,m⟩,g):=λ t ht=>(b1g ht).trans cg;simp only at h;split at h
   ·split at h
    ·rename_i cF
     obtain rfl:=a3z h (λ _ _ _=>S6);refine ⟨d,[]++g,.d0 true t0,(([]:List t0.den)++I3 cF m),rfl,by simpa using λ j hj=>.inr (gx j hj),λ t _ hy=>?_⟩;unfold Z4;simp only [hT,ha t hy,cF,dif_pos]
    ·cases h
   ·split at h
    ·rename_i bE
     split at h
     ·rename_i cF
      obtain rfl:=a3z h (λ _ _ _=>S6);refine ⟨d,[]++g,.d0 true t0,(([]:List t0.den)++I3 cF m),rfl,by simpa using λ j hj=>.inr (gx j hj),λ t _ hy=>?_⟩;unfold Z4;simp only [hT,ha t hy,cF,dif_pos,bE]
     ·cases h
    ·cases h
   ·rename_i nb qh
    split at h
    ·rename_i u l f cC
     split at h
     ·rename_i hu
      split at h
      ·rename_i cF
       obtain rfl:=a3z h (λ _ _ _=>S6);refine ⟨d,f++g,.d0 true t0,(I3 hu l++I3 cF m),rfl,?_,λ t hx hy=>?_⟩
       ·intro j hj
        rcases List.mem_append.1 hj with hj|hj
        ·exact .inl (a36 cC j hj)
        ·exact .inr (gx j hj)
       ·have eH:=(a7E hx).trans cC
        unfold Z4;simp only [hT,ha t hy];simp only [eH,hu,cF,dif_pos]
      ·cases h
     ·cases h
    ·cases h
 ·cases h
theorem c2y {T:TypeId} {x y:AV} {dst:Option Nat} {p:Prop} {v:AV} {s1:St} (h:(a5T E T x y dst s).get=some (p,v,s1)) :
  ∃ d g u l,dst=some d/\(∀ j∈g,x.i6 j=true\/y.i6 j=true)/\∀ t,Alike s t x->Alike s t y->a5T E T x y dst t=(St.lay t d g u l).f6 p:=by
 unfold a5T at h;split at h
 ·rename_i q t0 bts d i hT
  split at h
  ·rename_i u z tt m aX cg
   split at h
   ·rename_i hu
    split at h
    ·rename_i ht
     split at h
     ·rename_i bT
      obtain rfl:=a3z h (λ _ _ _=>S6);refine ⟨d,[i],.w6 t0,(2,I3 hu z.2.1++I3 ht m,(I3 hu z.2.2).drop m.length),rfl,by simp [AV.i6],λ t hx hy=>?_⟩;have ho:t.obj i=some (.own (.w6 u) z):=(hx i (by simp [AV.i6])).trans aX;have ha:y.a1j t t0=some (⟨tt,m⟩,[]):=(b1g hy).trans cg;unfold a5T;simp only [hT,ho,ha,hu,ht,bT,dif_pos]
     ·cases h
    ·cases h
   ·cases h
  ·cases h
 ·cases h
theorem c4d {T:TypeId} {x y:AV} {dst:Option Nat} {p:Prop} {v:AV} {s1:St} (h:(a5Q E T x y dst s).get=some (p,v,s1)) :
  ∃ d g u l,dst=some d/\(∀ j∈g,x.i6 j=true\/y.i6 j=true)/\∀ t,Alike s t x->Alike s t y->a5Q E T x y dst t=(St.lay t d g u l).f6 p:=by
 have hs:∀ t,Alike s t x->b3j t x=b3j s x:=λ t ht=>by
  unfold b3j
  split
  ·rw [ht _ (by simp [AV.i6])]
  ·rfl
 unfold a5Q at h;split at h
 ·rename_i hc
  obtain ⟨d,g,u,l,h1,h2,h3⟩:=c2y h;exact ⟨d,g,u,l,h1,h2,λ t hx hy=>by unfold a5Q; rw [hs t hx,hc]; exact h3 t hx hy⟩
 ·rename_i hc
  obtain ⟨d,g,u,l,h1,h2,h3⟩:=a8q h;exact ⟨d,g,u,l,h1,h2,λ t hx hy=>by unfold a5Q; rw [hs t hx,hc]; exact h3 t hx hy⟩
theorem a6K {i:Nat} {p:List Step} {lo:Nat} {u:Ty} {m:List u.den} {s1:St} (h:a0C s i p lo u m=some s1):∃ ow e',∀ t:St,t.obj i=s.obj i->a0C t i p lo u m=some ((t.U1 i ow).u5 i e'):=by
 unfold a0C at h;split at h
 ·rename_i e he
  split at h
  ·rename_i u' l hg
   split at h
   ·rename_i hu
    split at h
    ·rename_i r aO
     split at h
     ·rename_i hc
      refine ⟨e.X0,e.D6 r,λ t ht=>?_⟩;unfold a0C;rw [ht,he];simp only [hg,hu,dif_pos];subst hu;simp only [aO,hc]
     ·cases h
    ·cases h
   ·cases h
  ·cases h
 ·cases h
theorem C7.c44 {o:Oper} {p:Prop} {v:AV} {i:Nat} {ow:Bool} {e':g8} (hi:i∈l5 E o s) (hv:∀ j,v.i6 j=true->∃ x∈o.op.operands.toList,(s.ev x).i6 j=true) (hr:∀ t,W3 s t o.op.operands.toList->(n7 E o t).get=some (p,v,(t.U1 i ow).u5 i e')):C7 E o s p v:=by
 refine ⟨[],AV.map (AV.a1H i ow),λ j=>if j=i then some e' else look j s.hp,(Trim.U1 i ow).mono (by simpa using hi),by simp [P6],by simp,λ j hj=>.inl (hv j hj),λ t hu ha _=>⟨_,hr t ha,a2u hu,λ n=>?_,λ j=>?_⟩⟩
 ·show look n (mapA _ t.fr)=_
  rw [N5]
 ·show look j (Ex.put i e' t.hp)=_
  rw [o7];by_cases h1:j=i
  ·subst h1; simp [hi]
  ·rw [if_neg h1]
   by_cases h2:j∈l5 E o s
   ·rw [if_pos (.inl h2),if_neg h1]; exact a1m ha h2
   ·rw [if_neg (by simp [h2])]
theorem C7.fill {o:Oper} {p:Prop} {v:AV} {i:Nat} {ow:Bool} {e':g8} (hi:i∈l5 E o s) (hv:∀ j,v.i6 j=false) (hr:∀ t,W3 s t o.op.operands.toList->(n7 E o t).get=some (p,v,(t.U1 i ow).u5 i e')):C7 E o s p v :=
 .c44 hi (λ j hj=>by rw [hv j] at hj; cases hj) hr
theorem c0f {o:Oper} {c:Call} (ho:o.op=.call c) (hc:c.callee=.builtin .append) {p:Prop} {v:AV} {s1:St} (h:(n7 E o s).get=some (p,v,s1)):C7 E o s p v:=by
 have cA:∀ x∈c.args.toList,x∈o.op.operands.toList:=λ x hx=>by rw [ho]; exact a13 hx
 have hT:l5 E o s=(s.I1 c.args.toList).E7:=by unfold l5; rw [ho]; simp only [hc]
 have key:(∃ x y T F,(F=Z4 E T\/F=a5Q E T)/\c.args.toList=[x,y]/\(∀ t,t.ev x=s.ev x->t.ev y=s.ev y->n7 E o t=F (t.ev x) (t.ev y) o.dst t))\/(∃ x y T,c.args.toList=[x,y]/\(∀ t,t.ev x=s.ev x->t.ev y=s.ev y->n7 E o t=Z3 E T (t.ev x) (t.ev y) t))\/(∃ x y T,c.args.toList=[x,y]/\∀ t,n7 E o t=a3o E T (t.ev x) (t.ev y) o.dst t):=by
  unfold n7 at h;rw [ho] at h;simp only [hc] at h;split at h
  ·rename_i x y T U aF fb
   split at h
   ·rename_i hU
    cases iA:(s.ev x).c4P (s.ev y) with
    | true=>exact .inr (.inl ⟨x,y,T,aF,λ t e1 e2=>by unfold n7; rw [ho]; simp only [hc,aF,fb,hU]; rw [e1,e2,iA]⟩)
    | false=>exact .inl ⟨x,y,T,_,.inr rfl,aF,λ t e1 e2=>by unfold n7; rw [ho]; simp only [hc,aF,fb,hU]; rw [e1,e2,iA]⟩
   ·rename_i hU
    exact .inl ⟨x,y,T,_,.inl rfl,aF,λ t _ _=>by unfold n7; rw [ho]; simp only [hc,aF,fb,hU]⟩
   ·rename_i hU
    exact .inr (.inr ⟨x,y,T,aF,λ t=>by unfold n7; rw [ho]; simp only [hc,aF,fb,hU]⟩)
   ·cases h
  ·cases h
 rcases key with key|⟨x,y,T,aF,he⟩|⟨x,y,T,aF,he⟩
 rotate_left
 ·have eG:x∈o.op.operands.toList:=cA x (by rw [aF]; simp)
  have gk:y∈o.op.operands.toList:=cA y (by rw [aF]; simp);rw [he s rfl rfl] at h;have hI:=b6W h;simp only at hI;obtain ⟨i,lo,hi,q,t0,bts,u,m,l,hx,oX,cg,aX,hf,bE,rfl,rfl⟩:=a8p hI;obtain ⟨ow,e',fw⟩:=a6K hf;have hm:(s.ev x).i6 i=true:=by rw [hx]; simp [AV.i6]
  refine C7.c44 (i:=i) (ow:=ow) (e':=e') (by rw [hT,G8,aF]; simp [St.I1,AV.i6,hm]) (λ j hj=>⟨x,eG,by rw [hx]; exact hj⟩) (λ t ha=>?_);rw [he t (ha x eG).1 (ha y gk).1,(ha x eG).1,(ha y gk).1,hx];have nH:t.obj i=some (.own (.d0 true u) l):=((ha x eG).2 i hm).trans aX;unfold Z3;simp only [oX,(b1g (u:=t0) (ha y gk).2).trans cg,nH,fw t ((ha x eG).2 i hm),bE,decide_true];rfl
 ·have h0:=h
  rw [he] at h;have eG:x∈o.op.operands.toList:=cA x (by rw [aF]; simp);have gk:y∈o.op.operands.toList:=cA y (by rw [aF]; simp);unfold a3o at h;split at h
  ·rename_i t0 bts d k n oX jn nb mY
   obtain rfl:=a3z h (λ _ _ _=>S6);refine C7.lay jn (g:=[]) (u:=.d0 true t0) (x:=List.replicate n.toNat t0.o8) (W:=OR.f6 (0<=n/\n<=140737488355328/\n*(t0.wb:Nat)<=140737488355328)) (λ _ _=>rfl) (λ _=>rfl) (by simp) h0 (λ t ha=>?_);rw [he,(ha x eG).1,(ha y gk).1];unfold a3o;simp only [oX,jn,nb,mY]
  ·cases h
 obtain ⟨x,y,T,F,hF,aF,he⟩:=key;have h0:=h;rw [he s rfl rfl] at h;have iI:∃ d g u l,o.dst=some d/\(∀ j∈g,(s.ev x).i6 j=true\/(s.ev y).i6 j=true)/\∀ t,Alike s t (s.ev x)->Alike s t (s.ev y)->F (s.ev x) (s.ev y) o.dst t=(St.lay t d g u l).f6 p:=by
  rcases hF with rfl|rfl
  ·exact a8q h
  ·exact c4d h
 obtain ⟨d,g,u,l,hd,hg,k⟩:=iI;have eG:x∈o.op.operands.toList:=cA x (by rw [aF]; simp);have gk:y∈o.op.operands.toList:=cA y (by rw [aF]; simp);refine C7.lay hd (g:=g) (u:=u) (x:=l) (W:=OR.f6 p) (λ _ _=>rfl) (λ _=>rfl) ?_ h0 (λ t ha=>?_)
 ·intro j hj
  rw [hT,G8,aF];rcases hg j hj with h|h<;>simp [St.I1,AV.i6,h]
 ·rw [he t (ha x eG).1 (ha y gk).1,(ha x eG).1,(ha y gk).1]
  exact k t (ha x eG).2 (ha y gk).2
end
end Go.Ex
namespace Go.Ex
section
variable {E:Env} {s t:St}
theorem ag {o:Oper} {x:Operand} (h:W3 s t o.op.operands.toList) (hx:x∈o.op.operands.toList):t.ev x=s.ev x/\Alike s t (s.ev x):=⟨(h x hx).1,(h x hx).2⟩
theorem ob1 {i:Nat} {p:List Step} (h:Alike s t (.ptr i p)):t.obj i=s.obj i:=h i (by simp [AV.i6])
theorem ob2 {i:Nat} {p:List Step} (h:Alike s t (.at_ i p)):t.obj i=s.obj i:=h i (by simp [AV.i6])
theorem ob3 {i:Nat} {p:List Step} {a b:Int} (h:Alike s t (.sub i p a b)):t.obj i=s.obj i:=h i (by simp [AV.i6])
theorem b2X {o:Oper} {T:TypeId} {x:Operand} {n:Nat} (ho:o.op=.fieldAddr T x n) {p:Prop} {v:AV} {s1:St} (h:(n7 E o s).get=some (p,v,s1)):C7 E o s p v:=by
 have hx:x∈o.op.operands.toList:=by rw [ho]; simp [Op.operands]
 refine .ro h (λ t ha=>?_) (λ i hi=>⟨x,hx,?_⟩)
 ·obtain ⟨e1,e2⟩:=ag ha hx
  unfold n7;rw [ho];simp only [e1];cases hx:s.ev x with
  | ptr i q =>
   rw [hx] at e2;simp only [H5 (e2 i (by simp [AV.i6]))]
   repeat' (first|rfl|split)
  | val u z =>
   cases u with
   | box o0 g0 u0=>cases o0<;>cases g0<;>first|rfl|(dsimp only; repeat' (first|rfl|split))
   | _=>first|rfl|(dsimp only; repeat' (first|rfl|split))
  | _=>first|rfl|(dsimp only; split<;>rfl)
 ·unfold n7 at hi
  rw [ho] at hi;simp only at hi;cases hx:s.ev x with
  | ptr j q =>
   rw [hx] at hi;simp only at hi
   repeat' (split at hi)
   all_goals first|exact hi|(cases hi; done)
  | val u z =>
   rw [hx] at hi;exfalso;cases u with
   | box o0 g0 u0=>cases o0<;>cases g0<;>first|(cases hi; done)|(simp only at hi; repeat' (split at hi))<;>(cases hi)
   | _=>first|(cases hi; done)|(simp only at hi; repeat' (split at hi))<;>(cases hi)
  | _ =>
   rw [hx] at hi;simp only at hi
   repeat' (split at hi)
   all_goals first|exact hi|(cases hi; done)
theorem b2W {o:Oper} {T:TypeId} {x y:Operand} (ho:o.op=.indexAddr T x y) {p:Prop} {v:AV} {s1:St} (h:(n7 E o s).get=some (p,v,s1)):C7 E o s p v:=by
 have cA:x∈o.op.operands.toList:=by rw [ho]; simp [Op.operands]
 have kv:y∈o.op.operands.toList:=by rw [ho]; simp [Op.operands]
 refine .ro h (λ t ha=>?_) (λ i hi=>⟨x,cA,?_⟩)
 ·obtain ⟨e1,e2⟩:=ag ha cA
  have e3:=(ag ha kv).1;unfold n7;rw [ho];simp only [e1,e3]
  split
  ·rename_i hx _; rw [hx] at e2; (first|simp only [H5 (ob1 e2)]|simp only [H5 (ob2 e2)]) ; (generalize s.part _ _=pt; cases pt with|none=>rfl|some q=>(obtain ⟨u,z⟩:=q; cases u<;>first|rfl|(dsimp only; repeat' (first|rfl|split))|(rename_i o0 _; cases o0<;>first|rfl|(dsimp only; repeat' (first|rfl|split)))))
  ·repeat' (first|rfl|split)
  ·repeat' (first|rfl|split)
  ·rename_i hx _; rw [hx] at e2; (first|simp only [H5 (ob1 e2)]|simp only [H5 (ob2 e2)]) ; (generalize s.part _ _=pt; cases pt with|none=>rfl|some q=>(obtain ⟨u,z⟩:=q; cases u<;>first|rfl|(dsimp only; repeat' (first|rfl|split))|(rename_i o0 _; cases o0<;>first|rfl|(dsimp only; repeat' (first|rfl|split)))))
  ·rename_i hx _; rw [hx] at e2; simp only [a7t (ob3 e2)] ; (generalize s.view _ _ _ _=pt; cases pt with|none=>rfl|some q=>(obtain ⟨u,z⟩:=q; dsimp only; repeat' (first|rfl|split)))
  ·rfl
 ·unfold n7 at hi
  rw [ho] at hi;simp only at hi;split at hi
  ·rename_i hx _; rw [hx]; repeat' (split at hi)
   all_goals first|exact hi|(cases hi; done)
  ·repeat' (split at hi)
   all_goals (cases hi; done)
  ·repeat' (split at hi)
   all_goals (cases hi; done)
  ·rename_i hx _; rw [hx]; repeat' (split at hi)
   all_goals first|exact hi|(cases hi; done)
  ·rename_i hx _; rw [hx]; repeat' (split at hi)
   all_goals first|exact hi|(cases hi; done)
  ·cases hi
theorem c1H {o:Oper} {T:TypeId} {x y:Operand} (ho:o.op=.index T x y) {p:Prop} {v:AV} {s1:St} (h:(n7 E o s).get=some (p,v,s1)):C7 E o s p v:=by
 have cA:x∈o.op.operands.toList:=by rw [ho]; simp [Op.operands]
 have kv:y∈o.op.operands.toList:=by rw [ho]; simp [Op.operands]
 refine .ro h (λ t ha=>?_) (λ i hi=>⟨x,cA,?_⟩)
 ·obtain ⟨e1,e2⟩:=ag ha cA
  have e3:=(ag ha kv).1;unfold n7;rw [ho];simp only [e1,e3]
  split
  ·split<;>rfl
  ·split<;>rfl
  ·rename_i hx _; rw [hx] at e2; (first|simp only [H5 (ob1 e2)]|simp only [H5 (ob2 e2)]) ; (generalize s.part _ _=pt; cases pt with|none=>rfl|some q=>(obtain ⟨u,z⟩:=q; cases u<;>first|rfl|(dsimp only; repeat' (first|rfl|split))|(rename_i o0 _; cases o0<;>first|rfl|(dsimp only; repeat' (first|rfl|split)))))
  ·rfl
 ·unfold n7 at hi
  rw [ho] at hi;simp only at hi;split at hi
  ·repeat' (split at hi)
   all_goals (cases hi; done)
  ·repeat' (split at hi)
   all_goals (cases hi; done)
  ·rename_i hx _; rw [hx]; repeat' (split at hi)
   all_goals first|exact hi|(cases hi; done)
  ·cases hi
theorem c1L {o:Oper} {T:TypeId} {x:Operand} {n:Nat} (ho:o.op=.field T x n) {p:Prop} {v:AV} {s1:St} (h:(n7 E o s).get=some (p,v,s1)):C7 E o s p v:=by
 have cA:x∈o.op.operands.toList:=by rw [ho]; simp [Op.operands]
 refine .ro h (λ t ha=>?_) (λ i hi=>⟨x,cA,?_⟩)
 ·obtain ⟨e1,e2⟩:=ag ha cA
  unfold n7;rw [ho];simp only [e1]
  split
  ·split<;>rfl
  ·rename_i hx; rw [hx] at e2; (first|simp only [H5 (ob1 e2)]|simp only [H5 (ob2 e2)]) ; (generalize s.part _ _=pt; cases pt with|none=>rfl|some q=>(obtain ⟨u,z⟩:=q; cases u<;>first|rfl|(dsimp only; repeat' (first|rfl|split))|(rename_i o0 _; cases o0<;>first|rfl|(dsimp only; repeat' (first|rfl|split)))))
  ·rfl
 ·unfold n7 at hi
  rw [ho] at hi;simp only at hi;split at hi
  ·repeat' (split at hi)
   all_goals (cases hi; done)
  ·rename_i hx; rw [hx]; repeat' (split at hi)
   all_goals first|exact hi|(cases hi; done)
  ·cases hi
theorem c5Y {o:Oper} {c:Call} (ho:o.op=.call c) (hc:c.callee=.builtin .cap) {p:Prop} {v:AV} {s1:St} (h:(n7 E o s).get=some (p,v,s1)):C7 E o s p v:=by
 obtain ⟨x,T,ha,hT⟩:∃ x T,c.args.toList=[x]/\c.argTypes.toList=[T]:=by
  unfold n7 at h;rw [ho] at h;simp only [hc] at h;split at h
  ·exact ⟨_,_,by assumption,by assumption⟩
  ·cases h
 have gD:x∈o.op.operands.toList:=by rw [ho]; exact a13 (by rw [ha]; simp)
 refine .ro h (λ t cV=>?_) (λ i hi=>?_)
 ·obtain ⟨e1,e2⟩:=ag cV gD
  unfold n7;rw [ho];simp only [hc,ha,hT,e1]
  repeat' (first|rfl|split)
 ·exfalso
  unfold n7 at hi;rw [ho] at hi;simp only [hc,ha,hT] at hi
  repeat' (split at hi)
  all_goals (cases hi)
theorem c7P {v:AV} (h:Alike s t v):v.mp t=v.mp s:=by
 unfold AV.mp
 split
 ·rfl
 ·rename_i i p; simp only [H5 (h i (by simp [AV.i6]))]
 ·rfl
theorem b82 {o:Oper} {T:TypeId} {x y:Operand} {ok:Bool} (ho:o.op=.lookup T x y ok) {p:Prop} {v:AV} {s1:St} (h:(n7 E o s).get=some (p,v,s1)):C7 E o s p v:=by
 have hx:x∈o.op.operands.toList:=by rw [ho]; simp [Op.operands]
 have hy:y∈o.op.operands.toList:=by rw [ho]; simp [Op.operands]
 have hl:∀ t,n7 E o t=a16 E T (t.ev x) (t.ev y) ok t:=λ t=>by unfold n7; rw [ho]
 refine .ro h (λ t ha=>?_) (λ i hi=>?_)
 ·rw [hl,hl,(ag ha hx).1,(ag ha hy).1]
  unfold a16;rw [c7P (ag ha hx).2]
  repeat' (first|rfl|split)
 ·exfalso
  rw [hl] at hi;unfold a16 at hi
  repeat' (split at hi)
  all_goals (simp [OR.av,AV.i6] at hi)
theorem b6j {o:Oper} {T:TypeId} {r:Option Operand} (ho:o.op=.makeMap T r) {p:Prop} {v:AV} {s1:St} (h:(n7 E o s).get=some (p,v,s1)):C7 E o s p v:=by
 have key:∃ k u b d,r=none/\look T E.tt=some ⟨.map true k u,b⟩/\o.dst=some d:=by
  unfold n7 at h; rw [ho] at h;simp only at h;split at h
  ·exact ⟨_,_,_,_,rfl,by assumption,by assumption⟩
  ·cases h
 obtain ⟨k,u,b,d,rfl,h1,h2⟩:=key;have he:∀ t,n7 E o t=t.lay d [] (.map true k u) (some ([]:List (k.den×u.den))):=λ t=>by unfold n7; rw [ho]; simp only [h1,h2]
 rw [he] at h;cases hl:s.lay d [] (.map true k u) (some ([]:List (k.den×u.den))) with
 | fail y=>rw [hl] at h; cases h
 | E5 q v s'=>exact absurd hl S6
 | ok v' s' =>
  rw [hl] at h;cases h;obtain ⟨k1,rfl,rfl,k4⟩:=b0R hl;exact C7.obj h2 (e:=.own (.map true k u) (some [])) (g:=[]) (λ i hi=>by simpa [AV.i6] using hi) k1 (by simp) (λ t ha hu hf=>by rw [he t,b4a hf k4]; rfl)
theorem c1d {o:Oper} {T:TypeId} {x:Operand} {lo hi mx:Option Operand} (ho:o.op=.slice T x lo hi mx) {p:Prop} {v:AV} {s1:St} (h:(n7 E o s).get=some (p,v,s1)):C7 E o s p v:=by
 have fS:∀ y,y=x\/lo=some y\/hi=some y\/mx=some y->y∈o.op.operands.toList:=by
  rw [ho];rintro y (rfl|rfl|rfl|rfl)<;>simp [Op.operands]
 have cA:x∈o.op.operands.toList:=fS x (.inl rfl);have he:∀ t,n7 E o t=a2w E T (t.ev x) lo hi mx t:=λ t=>by unfold n7; rw [ho]
 refine .ro h (λ t ha=>?_) (λ i cB=>⟨x,cA,?_⟩)
 ·obtain ⟨e1,e2⟩:=ag ha cA
  rw [he,he,e1];have b1:∀ d,Y2 t d lo=Y2 s d lo:=λ d=>b4T (λ y hy=>(ag ha (fS y (.inr (.inl hy)))).1);have b2:∀ d,Y2 t d hi=Y2 s d hi:=λ d=>b4T (λ y hy=>(ag ha (fS y (.inr (.inr (.inl hy))))).1);have b3:∀ d,Y2 t d mx=Y2 s d mx:=λ d=>b4T (λ y hy=>(ag ha (fS y (.inr (.inr (.inr hy))))).1);unfold a2w;simp only [b1,b2,b3]
  split
  ·rfl
  ·split
   ·repeat' (first|rfl|split)
   ·repeat' (first|rfl|split)
   ·repeat' (first|rfl|split)
   ·repeat' (first|rfl|split)
   ·rename_i hx; rw [hx] at e2; (first|simp only [H5 (ob1 e2)]|simp only [H5 (ob2 e2)]) ; (generalize s.part _ _=pt; cases pt with|none=>rfl|some q=>(obtain ⟨u,z⟩:=q; cases u<;>first|rfl|(dsimp only; repeat' (first|rfl|split))|(rename_i o0 _; cases o0<;>first|rfl|(dsimp only; repeat' (first|rfl|split)))))
   ·rename_i hx; rw [hx] at e2; simp only [H5 (ob3 e2)] ; (generalize s.part _ _=pt; cases pt with|none=>rfl|some q=>(obtain ⟨u,z⟩:=q; cases u<;>first|rfl|(dsimp only; repeat' (first|rfl|split))|(rename_i o0 _; cases o0<;>first|rfl|(dsimp only; repeat' (first|rfl|split)))))
   ·rename_i hx; rw [hx] at e2; (first|simp only [H5 (ob1 e2)]|simp only [H5 (ob2 e2)]) ; (generalize s.part _ _=pt; cases pt with|none=>rfl|some q=>(obtain ⟨u,z⟩:=q; cases u<;>first|rfl|(dsimp only; repeat' (first|rfl|split))|(rename_i o0 _; cases o0<;>first|rfl|(dsimp only; repeat' (first|rfl|split)))))
   ·rfl
 ·rw [he] at cB
  unfold a2w at cB;split at cB
  ·cases cB
  ·split at cB
   ·repeat' (split at cB)
    all_goals (cases cB; done)
   ·repeat' (split at cB)
    all_goals (cases cB; done)
   ·repeat' (split at cB)
    all_goals (cases cB; done)
   ·repeat' (split at cB)
    all_goals (cases cB; done)
   ·rename_i hx; rw [hx]; repeat' (split at cB)
    all_goals first|exact cB|(cases cB; done)
   ·rename_i hx; rw [hx]; repeat' (split at cB)
    all_goals first|exact cB|(cases cB; done)
   ·rename_i hx; rw [hx]; repeat' (split at cB)
    all_goals first|exact cB|(cases cB; done)
   ·cases cB
theorem c5L {o:Oper} {c:Call} (ho:o.op=.call c) (hc:c.callee=.builtin .len) {p:Prop} {v:AV} {s1:St} (h:(n7 E o s).get=some (p,v,s1)):C7 E o s p v:=by
 obtain ⟨x,T,ha,hT⟩:∃ x T,c.args.toList=[x]/\c.argTypes.toList=[T]:=by
  unfold n7 at h;rw [ho] at h;simp only [hc] at h;split at h
  ·exact ⟨_,_,by assumption,by assumption⟩
  ·cases h
 have gD:x∈o.op.operands.toList:=by rw [ho]; exact a13 (by rw [ha]; simp)
 refine .ro h (λ t cV=>?_) (λ i hi=>?_)
 ·obtain ⟨e1,e2⟩:=ag cV gD
  unfold n7;rw [ho];simp only [hc,ha,hT,e1]
  split
  ·repeat' (first|rfl|split)
  ·repeat' (first|rfl|split)
  ·repeat' (first|rfl|split)
  ·repeat' (first|rfl|split)
  ·rename_i hx; rw [hx] at e2; (first|simp only [H5 (ob1 e2)]|simp only [H5 (ob2 e2)]) ; (generalize s.part _ _=pt; cases pt with|none=>rfl|some q=>(obtain ⟨u,z⟩:=q; cases u<;>first|rfl|(dsimp only; repeat' (first|rfl|split))|(rename_i o0 _; cases o0<;>first|rfl|(dsimp only; repeat' (first|rfl|split)))|(rename_i o0 _ _; cases o0<;>first|rfl|(dsimp only; repeat' (first|rfl|split)))))
  ·rename_i hx; rw [hx] at e2; simp only [a7t (ob3 e2)] ; (generalize s.view _ _ _ _=pt; cases pt with|none=>rfl|some q=>(obtain ⟨u,z⟩:=q; dsimp only; repeat' (first|rfl|split)))
  ·repeat' (first|rfl|split)
  ·rfl
 ·exfalso
  unfold n7 at hi;rw [ho] at hi;simp only [hc,ha,hT] at hi
  repeat' (split at hi)
  all_goals (cases hi)
theorem b4k {k:IntKind} {f:Int->Int->Int}:∀ {l:List Operand} {n:Int},(∀ x∈l,t.ev x=s.ev x)->foldI t k f n l=(foldI s k f n l).a0E t
 | [],n,_=>rfl
 | x::l,n,h=>by
  simp only [foldI,h x (by simp)]
  split
  ·split
   ·exact b4k (λ y hy=>h y (by simp [hy]))
   ·rfl
  ·rfl
theorem a5B {k:IntKind} {f:Int->Int->Int} {i:Nat}:∀ {l:List Operand} {n:Int},(foldI s k f n l).av.i6 i=true->False
 | [],n,h=>by cases h
 | x::l,n,h=>by
  simp only [foldI] at h;split at h
  ·split at h
   ·exact a5B h
   ·cases h
  ·cases h
theorem a9K {o:Oper} {c:Call} (ho:o.op=.call c) (hc:c.callee=.builtin .max\/c.callee=.builtin .min) {p:Prop} {v:AV} {s1:St} (h:(n7 E o s).get=some (p,v,s1)):C7 E o s p v:=by
 have cA:∀ x∈c.args.toList,x∈o.op.operands.toList:=λ x hx=>by rw [ho]; exact a13 hx
 refine .ro h (λ t cV=>?_) (λ i hi=>?_)
 ·unfold n7
  rw [ho];rcases hc with hc|hc <;>
  ·simp only [hc]
   split
   ·rename_i x l ha
    rw [(cV x (cA x (by rw [ha]; simp))).1]
    split
    ·exact b4k (λ y hy=>(cV y (cA y (by rw [ha]; simp [hy]))).1)
    ·rfl
   ·rfl
 ·exfalso
  unfold n7 at hi;rw [ho] at hi;rcases hc with hc|hc
  ·simp only [hc] at hi
   split at hi
   ·split at hi
    ·exact a5B hi
    ·cases hi
   ·cases hi
  ·simp only [hc] at hi
   split at hi
   ·split at hi
    ·exact a5B hi
    ·cases hi
   ·cases hi
theorem c2h {o:Oper} {T:TypeId} {parts:Array (Nat×Operand)} (ho:o.op=.build T parts) {p:Prop} {v:AV} {s1:St} (h:(n7 E o s).get=some (p,v,s1)):C7 E o s p v:=by
 have fq:∀ t,W3 s t o.op.operands.toList->∀ q∈parts.toList,t.ev q.2=s.ev q.2/\Alike s t (s.ev q.2):=λ t ha q hq=>ag ha (by rw [ho]; simp only [Op.operands]; simpa using ⟨q.1,by simpa using hq⟩);have key:∃ t0 r g,look T E.tt=some t0/\(t0.ty.agg && parts.toList.all (λ q=>a1I t0.ty q.1))=true/\P5 s ⟨t0.ty,t0.ty.o8⟩ parts.toList=some (r,g):=by
  unfold n7 at h; rw [ho] at h;simp only at h;split at h
  ·split at h
   ·split at h
    ·exact ⟨_,_,_,by assumption,by assumption,by assumption⟩
    ·exact ⟨_,_,_,by assumption,by assumption,by assumption⟩
    ·cases h
   ·cases h
  ·cases h
 obtain ⟨t0,⟨u,y⟩,g,h1,h2,h3⟩:=key;have hb:∀ t,W3 s t o.op.operands.toList->P5 t ⟨t0.ty,t0.ty.o8⟩ parts.toList=some (⟨u,y⟩,g):=λ t ha=>(a4d (s:=s) (t:=t) (fq t ha)).trans h3;cases g with
 | nil =>
  have he:∀ t,W3 s t o.op.operands.toList->n7 E o t=.ok (.val u y) t:=λ t ha=>by unfold n7; rw [ho]; simp only [h1,h2,hb t ha]
  refine .ro h (λ t ha=>?_) (λ i hi=>?_)
  ·rw [he t ha,he s (.refl _ _)]; rfl
  ·rw [he s (.refl _ _)] at hi; cases hi
 | cons g0 g =>
  cases hd:o.dst with
  | none =>
   exfalso;unfold n7 at h; rw [ho] at h;simp only [h1,h2,h3,hd] at h;cases h
  | some d =>
   refine C7.lay hd (g:=g0::g) (u:=u) (x:=y) (W:=λ r=>r) (p:=p) (v:=v) (s1:=s1) ?_ (λ _=>rfl) ?_ h (λ t ha=>by unfold n7; rw [ho]; simp only [h1,h2,hb t ha,hd])
   ·have hp:p=True:=by
     unfold n7 at h; rw [ho] at h;simp only [h1,h2,h3,hd] at h;cases hl:s.lay d (g0::g) u y<;>rw [hl] at h
     ·cases h
     ·cases h; rfl
     ·exact absurd hl S6
    intro v s; rw [hp]; rfl
   ·intro i hi
    obtain ⟨q,hq,hm⟩:=a2o h3 i hi;unfold l5;rw [ho];exact G8.2 (a8H (List.mem_map.2 ⟨q,hq,rfl⟩) hm)
theorem b1c {o:Oper} {T:TypeId} {n:Nat} {parts:Array (Nat×Operand)} (ho:o.op=.buildSlice T n parts) {p:Prop} {v:AV} {s1:St} (h:(n7 E o s).get=some (p,v,s1)):C7 E o s p v:=by
 have fq:∀ t,W3 s t o.op.operands.toList->∀ q∈parts.toList,t.ev q.2=s.ev q.2/\Alike s t (s.ev q.2):=λ t ha q hq=>ag ha (by rw [ho]; simp only [Op.operands]; simpa using ⟨q.1,by simpa using hq⟩);have key:∃ t0 b d m t' l g,look T E.tt=some ⟨.d0 true t0,b⟩/\o.dst=some d/\(s.fresh d && parts.toList.all (λ q=>Nat.blt q.1 n) && Nat.ble (n*t0.size) 16777216)=true/\b1d s n t0 parts.toList=some (⟨.arr m t',l⟩,g):=by
  unfold n7 at h; rw [ho] at h;simp only at h;split at h
  ·split at h
   ·split at h
    ·exact ⟨_,_,_,_,_,_,_,by assumption,by assumption,by assumption,by assumption⟩
    ·cases h
   ·cases h
  ·cases h
 obtain ⟨t0,b,d,m,t',l,g,h1,h2,h4,h5⟩:=key;have hb:∀ t,W3 s t o.op.operands.toList->b1d t n t0 parts.toList=some (⟨.arr m t',l⟩,g):=λ t ha=>by
  rw [<- h5]; unfold b1d; rw [a4d (s:=s) (t:=t) (fq t ha),a4d (s:=s) (t:=t) (fq t ha)]
 obtain ⟨t9,_,h9⟩:=b4S h5;have he:∀ t,W3 s t o.op.operands.toList->t.fresh d=true->n7 E o t=t.lay d g (.d0 true t') l:=λ t ha hf=>by
  simp only [Bool.and_eq_true] at h4;unfold n7; rw [ho]; simp only [h1,h2,hf,h4.1.2,h4.2,hb t ha,Bool.and_self]
 have hf:s.fresh d=true:=by simp only [Bool.and_eq_true] at h4; exact h4.1.1
 have ij:∀ i∈g,i∈l5 E o s:=by
  intro i hi;obtain ⟨q,hq,hm⟩:=a2o h9 i hi;unfold l5;rw [ho];exact G8.2 (a8H (List.mem_map.2 ⟨q,hq,rfl⟩) hm)
 rw [he s (.refl _ _) hf] at h;cases hl:s.lay d g (.d0 true t') l with
 | fail y=>rw [hl] at h; cases h
 | E5 q v s'=>exact absurd hl S6
 | ok v' s' =>
  rw [hl] at h;cases h;obtain ⟨k1,rfl,rfl,k4⟩:=b0R hl;exact C7.obj h2 (e:=.own (.d0 true t') l) (g:=g) (λ i hi=>by simpa [AV.i6] using hi) k1 ij (λ t ha hu hf=>by rw [he t ha hf,b4a hf k4]; rfl)
theorem c51 {o:Oper} {T:TypeId} {x:Operand} (ho:o.op=.box T x) {p:Prop} {v:AV} {s1:St} (h:(n7 E o s).get=some (p,v,s1)):C7 E o s p v:=by
 have cA:x∈o.op.operands.toList:=by rw [ho]; simp [Op.operands]
 have hT:l5 E o s=(s.ev x).E7:=by unfold l5; rw [ho]
 have key:∃ t0 d,look T E.tt=some t0/\o.dst=some d/\s.fresh d=true:=by
  unfold n7 at h; rw [ho] at h;simp only at h;split at h
  ·split at h
   ·exact ⟨_,_,by assumption,by assumption,by assumption⟩
   ·cases h
  ·cases h
 obtain ⟨t0,d,h1,h2,h3⟩:=key;have he:∀ t,t.fresh d=true->n7 E o t=(match (t.ev x).a0A t with
    | some (⟨u,y⟩,g)=>if u.O5.sh=t0.ty.O5.sh then (match a1C g && !g.contains d && g.all λ i=>!pinned i with
     | true=>.ok (.ptr d []) ((St.u4 g t).u5 d (.var u y))
     | false=>.fail "box: objects") else .fail "box: value"
    | none=>(match t.ev x,t0.ty with
     | .raw (.slice none 0 0),.d0 o u=>.ok (.ptr d []) (t.u5 d (.var (.d0 o u) ([]:List u.den)))
     | .ptr i p,.box _ none _=>.ok (.bx (.ptr i p)) t
     | _,_=>.fail "box: what")):=λ t ht=>by unfold n7; rw [ho]; simp only [h1,h2,ht]; rfl
 rw [he s h3] at h;split at h
 ·rename_i u y g cC
  split at h
  ·rename_i bT
   split at h
   ·rename_i hc
    cases h;refine C7.obj h2 (e:=.var u y) (g:=g) (λ i hi=>by simpa [AV.i6] using hi) h3 (λ i hi=>by rw [hT]; exact G8.2 (a27 cC i hi)) (λ t ha hu hf=>?_);obtain ⟨e1,e2⟩:=ag ha cA;rw [he t hf,e1];simp only [(a1h e2).trans cC,bT,if_true,hc];rfl
   ·cases h
  ·cases h
 ·rename_i cC
  split at h
  ·rename_i o' u hx jz
   cases h;refine C7.obj h2 (e:=.var (.d0 o' u) ([]:List u.den)) (g:=[]) (λ i hi=>by simpa [AV.i6] using hi) h3 (by simp) (λ t ha hu hf=>?_);obtain ⟨e1,e2⟩:=ag ha cA;have eH:=(a1h e2).trans cC;rw [hx] at e1 eH;rw [he t hf,e1];simp only [eH,jz];rfl
  ·rename_i i q o0 u0 hx jz
   cases h;refine ⟨[d],λ u=>u,λ j=>if j=d then none else look j s.hp,Trim.id _,b1T h3,by simp [h2],λ j hj=>.inl ⟨x,cA,by rw [hx]; exact hj⟩,λ t hu ha hn=>?_⟩;have hf:=b4j hu hn;obtain ⟨e1,e2⟩:=ag ha cA;have eH:=(a1h e2).trans cC;rw [hx] at e1 eH;refine ⟨t,?_,hu,⟨λ n=>by simp,λ j=>?_⟩⟩
   ·rw [he t hf,e1]; simp only [eH,jz]; rfl
   ·by_cases hj:j=d
    ·subst hj
     rw [if_pos (.inr (by simp)),if_pos rfl];exact (hn j (by simp)).1
    ·by_cases ji:j∈l5 E o s
     ·rw [if_pos (.inl ji),if_neg hj]; exact a1m ha ji
     ·rw [if_neg (by simp [ji,hj])]
  ·cases h
theorem b6B {o:Oper} {T' T:TypeId} {x:Operand} (ho:o.op=.convert T' T x) {p:Prop} {v:AV} {s1:St} (h:(n7 E o s).get=some (p,v,s1)):C7 E o s p v:=by
 have cA:x∈o.op.operands.toList:=by rw [ho]; simp [Op.operands]
 by_cases hs:(∃ y,s.ev x=.val .str y)/\(∃ b,look T' E.tt=some ⟨.str,b⟩)/\(∃ b,look T E.tt=some ⟨.d0 true (.int .u8),b⟩)
 ·obtain ⟨⟨y,hy⟩,⟨b,hb⟩,⟨b',cX⟩⟩:=hs
  cases hd:o.dst with
  | none =>
   exfalso;unfold n7 at h; rw [ho] at h;simp only [hy,hb,cX,hd] at h;cases h
  | some d =>
   have he:∀ t,t.ev x=s.ev x->n7 E o t=t.lay d [] (.d0 true (.int .u8)) (List.map (λ b:UInt8=>(b.toNat:Int)) y:List Int):=λ t ht=>by
    unfold n7; rw [ho]; simp only [ht,hy,hb,cX,hd]
   have hp:p=True:=by
    rw [he s rfl] at h;cases hl:s.lay d [] (.d0 true (.int .u8)) (List.map (λ b:UInt8=>(b.toNat:Int)) y:List Int)<;>rw [hl] at h
    ·cases h
    ·cases h; rfl
    ·exact absurd hl S6
   exact C7.lay hd (g:=[]) (W:=λ r=>r) (λ v s=>by rw [hp]; rfl) (λ _=>rfl) (by simp) h (λ t ha=>he t (ag ha cA).1)
 ·refine .ro h (λ t ha=>?_) (λ i hi=>?_)
  ·obtain ⟨e1,e2⟩:=ag ha cA
   unfold n7; rw [ho]; simp only [e1]
   split
   ·rfl
   ·rename_i hx nj ni
    exact absurd ⟨⟨_,hx⟩,⟨_,nj⟩,⟨_,ni⟩⟩ hs
   ·rw [b4p e2]
    repeat' (first|rfl|split)
   ·rfl
  ·exfalso
   unfold n7 at hi; rw [ho] at hi;simp only at hi;split at hi
   ·cases hi
   ·rename_i hx nj ni
    exact absurd ⟨⟨_,hx⟩,⟨_,nj⟩,⟨_,ni⟩⟩ hs
   ·repeat' (split at hi)
    all_goals (cases hi)
   ·cases hi
theorem b2T {o:Oper} {T:TypeId} {x y:Operand} (ho:o.op=.makeSlice T x y) {p:Prop} {v:AV} {s1:St} (h:(n7 E o s).get=some (p,v,s1)):C7 E o s p v:=by
 have cA:x∈o.op.operands.toList:=by rw [ho]; simp [Op.operands]
 have kv:y∈o.op.operands.toList:=by rw [ho]; simp [Op.operands]
 have key:∃ t0 b d k n k' m,look T E.tt=some ⟨.d0 true t0,b⟩/\o.dst=some d/\s.ev x=.val (.int k) n/\s.ev y=.val (.int k') m:=by
  unfold n7 at h; rw [ho] at h;simp only at h;split at h
  ·unfold b0i at h
   split at h
   ·exact ⟨_,_,_,_,_,_,_,by assumption,by assumption,by assumption,by assumption⟩
   ·cases h
  ·split at h
   ·exact ⟨_,_,_,_,_,_,_,by assumption,by assumption,by assumption,by assumption⟩
   ·cases h
 obtain ⟨t0,b,d,k,n,k',m,h1,h2,h3,h4⟩:=key;cases lE:E.rs.any Ty.b9b with
 | true =>
  have he:∀ t,t.ev x=s.ev x->t.ev y=s.ev y->n7 E o t=(t.lay d [] (.w6 t0) (2,List.replicate (Int.toNat n) t0.o8,List.replicate (Int.toNat m - Int.toNat n) t0.o8)).f6 (@LE.le Int Int.instLEInt 1 m/\@LE.le Int Int.instLEInt 0 n/\@LE.le Int Int.instLEInt n m/\@LE.le Int Int.instLEInt m 140737488355328/\@LE.le Int Int.instLEInt (@HMul.hMul Int Int Int _ m (t0.wb:Nat)) 140737488355328):=λ t e1 e2=>by
   unfold n7; rw [ho]; simp only [e1,e2,lE]; unfold b0i; simp only [h1,h2,h3,h4]
  have h0:=h;rw [he s rfl rfl] at h;obtain rfl:=a3z h (λ _ _ _=>S6);exact C7.lay h2 (g:=[]) (W:=OR.f6 _) (λ _ _=>rfl) (λ _=>rfl) (by simp) h0 (λ t ha=>he t (ag ha cA).1 (ag ha kv).1)
 | false =>
  have he:∀ t,t.ev x=s.ev x->t.ev y=s.ev y->n7 E o t=(t.lay d [] (.d0 true t0) (List.replicate (Int.toNat n) t0.o8)).f6 (@LE.le Int Int.instLEInt 0 n/\@LE.le Int Int.instLEInt n m/\@LE.le Int Int.instLEInt m 140737488355328/\@LE.le Int Int.instLEInt (@HMul.hMul Int Int Int _ m (t0.wb:Nat)) 140737488355328):=λ t e1 e2=>by
   unfold n7; rw [ho]; simp only [e1,e2,lE,h1,h2,h3,h4]
  have h0:=h;rw [he s rfl rfl] at h;obtain rfl:=a3z h (λ _ _ _=>S6);exact C7.lay h2 (g:=[]) (W:=OR.f6 _) (λ _ _=>rfl) (λ _=>rfl) (by simp) h0 (λ t ha=>he t (ag ha cA).1 (ag ha kv).1)
theorem b7E {v:AV} (h:Alike s t v):v.a2S t=v.a2S s:=by
 unfold AV.a2S
 split
 ·rw [H5 (ob2 h)]
 ·rw [H5 (ob3 h)]
 ·rfl
theorem b2a {v:AV} {i:Nat} {p:List Step} {lo hi:Int} (h:v.a2S s=some (i,p,lo,hi)):v.i6 i=true:=by
 unfold AV.a2S at h;split at h
 ·split at h
  ·cases h; simp [AV.i6]
  ·cases h
 ·split at h
  ·cases h; simp [AV.i6]
  ·cases h
 ·cases h
theorem c3V {o:Oper} {c:Call} (ho:o.op=.call c) (hc:c.callee=.builtin .copy) {p:Prop} {v:AV} {s1:St} (h:(n7 E o s).get=some (p,v,s1)):C7 E o s p v:=by
 have cA:∀ x∈c.args.toList,x∈o.op.operands.toList:=λ x hx=>by rw [ho]; exact a13 hx
 have hT:l5 E o s=(s.I1 c.args.toList).E7:=by unfold l5; rw [ho]; simp only [hc]
 have key:∃ x y T,c.args.toList=[x,y]/\∀ t,n7 E o t=a7J E T (t.ev x) (t.ev y) t:=by
  unfold n7 at h;rw [ho] at h;simp only [hc] at h;split at h
  ·rename_i x y T U aF fb
   exact ⟨x,y,T,aF,λ t=>by unfold n7; rw [ho]; simp only [hc,aF,fb]⟩
  ·cases h
 obtain ⟨x,y,T,aF,he⟩:=key;rw [he] at h;have eG:x∈o.op.operands.toList:=cA x (by rw [aF]; simp);have gk:y∈o.op.operands.toList:=cA y (by rw [aF]; simp);unfold a7J at h;split at h
 ·rename_i i q lo hi u m hd eI
  split at h
  ·rename_i s' hf bE
   simp only [OR.get,Option.some.injEq,Prod.mk.injEq] at h;obtain ⟨rfl,rfl,_⟩:=h;obtain ⟨ow,e',fw⟩:=a6K hf;have hm:=b2a hd;refine C7.fill (i:=i) (ow:=ow) (e':=e') (by rw [hT,G8,aF]; simp [St.I1,AV.i6,hm]) (λ _=>rfl) (λ t ha=>?_);rw [he,(ha x eG).1,(ha y gk).1];unfold a7J;rw [b7E (ha x eG).2,b4p (ha y gk).2,hd,eI];simp only [fw t ((ha x eG).2 i hm),bE];rfl
  ·cases h
 ·cases h
theorem c1Z {o:Oper} {c:Call} (ho:o.op=.call c) (hc:c.callee=.builtin .clear) {p:Prop} {v:AV} {s1:St} (h:(n7 E o s).get=some (p,v,s1)):C7 E o s p v:=by
 have cA:∀ x∈c.args.toList,x∈o.op.operands.toList:=λ x hx=>by rw [ho]; exact a13 hx
 have hT:l5 E o s=(s.I1 c.args.toList).E7:=by unfold l5; rw [ho]; simp only [hc]
 have key:∃ x T,c.args.toList=[x]/\∀ t,n7 E o t=a4V E T (t.ev x) t:=by
  unfold n7 at h;rw [ho] at h;simp only [hc] at h;split at h
  ·rename_i x T aF fb
   exact ⟨x,T,aF,λ t=>by unfold n7; rw [ho]; simp only [hc,aF,fb]⟩
  ·cases h
 obtain ⟨x,T,aF,he⟩:=key;rw [he] at h;have eG:x∈o.op.operands.toList:=cA x (by rw [aF]; simp);unfold a4V at h;split at h
 ·rename_i i q lo hi b u bts hd eQ
  split at h
  ·rename_i s' hf
   simp only [OR.get,Option.some.injEq,Prod.mk.injEq] at h;obtain ⟨rfl,rfl,_⟩:=h;obtain ⟨ow,e',fw⟩:=a6K hf;have hm:=b2a hd;refine C7.fill (i:=i) (ow:=ow) (e':=e') (by rw [hT,G8,aF]; simp [St.I1,AV.i6,hm]) (λ _=>rfl) (λ t ha=>?_);rw [he,(ha x eG).1];unfold a4V;rw [b7E (ha x eG).2,hd,eQ];simp only [fw t ((ha x eG).2 i hm)];rfl
  ·cases h
 ·cases h
theorem b8l {o:Oper} {T:TypeId} {m x y:Operand} (ho:o.op=.mapUpdate T m x y) {p:Prop} {v:AV} {s1:St} (h:(n7 E o s).get=some (p,v,s1)):C7 E o s p v:=by
 have hm:m∈o.op.operands.toList:=by rw [ho]; simp [Op.operands]
 have hx:x∈o.op.operands.toList:=by rw [ho]; simp [Op.operands]
 have hy:y∈o.op.operands.toList:=by rw [ho]; simp [Op.operands]
 have hl:∀ t,n7 E o t=a6i E T (t.ev m) (t.ev x) (t.ev y) t:=λ t=>by unfold n7; rw [ho]
 have hT:l5 E o s=(s.ev m).E7:=by unfold l5; rw [ho]
 rw [hl] at h;have key:∃ j e',s.ev m=.at_ j []/\p=True/\v=.raw undef/\∀ t:St,t.obj j=s.obj j->a6i E T (s.ev m) (s.ev x) (s.ev y) t=.ok (.raw undef) ((t.U1 j true).u5 j e'):=by
  unfold a6i at h;split at h
  ·rename_i j u a u' z e1 e2 e3
   split at h
   ·rename_i k w l aX
    split at h
    ·rename_i hu
     split at h
     ·rename_i mB
      split at h
      ·rename_i lD
       simp only [OR.get,Option.some.injEq,Prod.mk.injEq] at h;obtain ⟨rfl,rfl,_⟩:=h;refine ⟨j,.own (.map true k w) (some (a6z (H3 k) (G4 hu a) (G4 mB z) l)),e1,rfl,rfl,λ t ht=>?_⟩;unfold a6i;rw [e1,e2,e3];subst hu mB;simp only [ht,aX,lD,dif_pos]
      ·cases h
     ·cases h
    ·cases h
   ·cases h
  ·cases h
 obtain ⟨j,e',e1,rfl,rfl,hk⟩:=key;refine C7.fill (i:=j) (ow:=true) (e':=e') (by rw [hT,e1]; simp [AV.E7]) (λ _=>rfl) (λ t ha=>?_);rw [hl,(ag ha hm).1,(ag ha hx).1,(ag ha hy).1,hk t ((ag ha hm).2 j (by rw [e1]; simp [AV.i6]))];rfl
theorem c6b {o:Oper} (gH:∀ a b c,o.op≠.pick a b c) {p:Prop} {v:AV} {s1:St} (h:(n7 E o s).get=some (p,v,s1)):C7 E o s p v:=by
 have dQ:∀ x,x∈o.op.operands.toList↔x∈o.op.operands.toList:=λ _=>Iff.rfl;cases ho:o.op with
 | move x =>
  have hx:x∈o.op.operands.toList:=by rw [ho]; simp [Op.operands]
  refine .ro h (λ t ha=>?_) (λ i hi=>⟨x,hx,?_⟩)
  ·unfold n7; rw [ho]; simp only [(ag ha hx).1]; rfl
  ·unfold n7 at hi; rw [ho] at hi; exact hi
 | assign x =>
  have hx:x∈o.op.operands.toList:=by rw [ho]; simp [Op.operands]
  refine .ro h (λ t ha=>?_) (λ i hi=>⟨x,hx,?_⟩)
  ·unfold n7; rw [ho]; simp only [(ag ha hx).1]; rfl
  ·unfold n7 at hi; rw [ho] at hi; exact hi
 | load T x =>
  have hx:x∈o.op.operands.toList:=by rw [ho]; simp [Op.operands]
  have hl:∀ t,n7 E o t=a1a E T (t.ev x) t:=λ t=>by unfold n7; rw [ho]
  refine .ro h (λ t ha=>?_) (λ i hi=>⟨x,hx,?_⟩)
  ·obtain ⟨e1,e2⟩:=ag ha hx
   rw [hl,hl,e1]; exact c3v e2
  ·rw [hl] at hi; exact b85 hi
 | nilCheck x =>
  have hx:x∈o.op.operands.toList:=by rw [ho]; simp [Op.operands]
  refine .ro h (λ t ha=>?_) (λ i hi=>⟨x,hx,?_⟩)
  ·unfold n7; rw [ho]; simp only [(ag ha hx).1]; split<;>rfl
  ·unfold n7 at hi; rw [ho] at hi
   simp only at hi;split at hi<;>first|(cases hi; done)|(rename_i e; rw [e]; exact hi)
 | binOp op T x y T' =>
  have hx:x∈o.op.operands.toList:=by rw [ho]; simp [Op.operands]
  have hy:y∈o.op.operands.toList:=by rw [ho]; simp [Op.operands]
  have hl:∀ t,n7 E o t=a5O E T op (t.ev x) (t.ev y) t:=λ t=>by unfold n7; rw [ho]
  refine .ro h (λ t ha=>?_) (λ i hi=>?_)
  ·rw [hl,hl,(ag ha hx).1,(ag ha hy).1]; exact c57 ..
  ·exfalso
   rw [hl] at hi;unfold a5O b36 a81 eqA a8Y a80 a8Z arith at hi
   repeat' (split at hi)
   all_goals (cases hi)
 | unOp op T x =>
  have hx:x∈o.op.operands.toList:=by rw [ho]; simp [Op.operands]
  have hl:∀ t,n7 E o t=unA op (t.ev x) t:=λ t=>by unfold n7; rw [ho]
  refine .ro h (λ t ha=>?_) (λ i hi=>?_)
  ·rw [hl,hl,(ag ha hx).1]; exact c6L ..
  ·exfalso
   rw [hl] at hi;unfold unA arith at hi
   repeat' (split at hi)
   all_goals (cases hi)
 | convert T' T x=>exact b6B ho h
 | fieldAddr T x n=>exact b2X ho h
 | indexAddr T x y=>exact b2W ho h
 | index T x y=>exact c1H ho h
 | field T x n=>exact c1L ho h
 | slice T x lo hi mx=>exact c1d ho h
 | makeSlice T x y=>exact b2T ho h
 | build T parts=>exact c2h ho h
 | buildSlice T n parts=>exact b1c ho h
 | makeMap T r=>exact b6j ho h
 | lookup T x y ok=>exact b82 ho h
 | mapUpdate T m x y=>exact b8l ho h
 | box T x=>exact c51 ho h
 | store T a x=>exact c1b ho h
 | extract x n =>
  have hx:x∈o.op.operands.toList:=by rw [ho]; simp [Op.operands]
  refine .ro h (λ t ha=>?_) (λ i hi=>⟨x,hx,?_⟩)
  ·unfold n7; rw [ho]; simp only [(ag ha hx).1]
   split
   ·split<;>rfl
   ·rfl
  ·unfold n7 at hi; rw [ho] at hi
   simp only at hi;split at hi
   ·rename_i l e
    split at hi
    ·rename_i v hv
     rw [e]; show l.i6 i=true; exact a8D hv hi
    ·cases hi
   ·cases hi
 | makeFunc fn first caps =>
  have dC:∀ x∈caps.toList,x∈o.op.operands.toList:=λ x hx=>by rw [ho]; simp only [Op.operands]; simp at hx ⊢; exact .inr hx
  have hcs:∀ t,W3 s t o.op.operands.toList->t.I1 caps.toList=s.I1 caps.toList:=λ t ha=>a4N (λ x hx=>(ag ha (dC x hx)).1);refine .ro h (λ t ha=>?_) (λ i hi=>?_)
  ·unfold n7; rw [ho]
   cases fn with
   | func f=>simp only [hcs t ha]; split<;>rfl
   | _=>rfl
  ·unfold n7 at hi; rw [ho] at hi
   cases fn with
   | func f =>
    simp only at hi;split at hi
    ·obtain ⟨x,hx,hi⟩:=X9 (s:=s) (i:=i) (xs:=caps.toList) hi
     exact ⟨x,dC x hx,hi⟩
    ·cases hi
   | _=>cases hi
 | alloc T =>
  have key:∃ t0 d,look T E.tt=some t0/\o.dst=some d/\s.fresh d=true:=by
   unfold n7 at h; rw [ho] at h;simp only at h;split at h
   ·split at h
    ·exact ⟨_,_,by assumption,by assumption,by assumption⟩
    ·cases h
   ·cases h
  obtain ⟨t0,d,h1,h2,h3⟩:=key;have he:∀ t,t.fresh d=true->n7 E o t=.ok (.ptr d []) (t.u5 d (.var t0.ty t0.ty.o8)):=λ t ht=>by unfold n7; rw [ho]; simp only [h1,h2,ht]
  rw [he s h3] at h;simp only [OR.get,Option.some.injEq,Prod.mk.injEq] at h;obtain ⟨rfl,rfl,rfl⟩:=h;exact .obj h2 (g:=[]) (λ i hi=>by simpa [AV.i6] using hi) h3 (by simp) (λ t _ _ ht=>by rw [he t ht]; rfl)
 | call c =>
  cases hc:c.callee with
  | value f=>exact c36 ho hc h
  | builtin b =>
   cases b<;>first
    | (exact c5L ho hc h)
    | (exact c5Y ho hc h)
    | (exact c0f ho hc h)
    | (exact c3V ho hc h)
    | (exact c1Z ho hc h)
    | (exact a9K ho (.inl hc) h)
    | (exact a9K ho (.inr hc) h)
    | (exfalso; unfold n7 at h; rw [ho] at h; simp only [hc] at h; cases h)
  | _=>exfalso; unfold n7 at h; rw [ho] at h; simp only [hc] at h; cases h
 | pick a b c=>exact absurd ho (gH a b c)
 | _=>exfalso; unfold n7 at h; rw [ho] at h; cases h
end
end Go.Ex
namespace Go.Ex
def M7 (s t:St):Prop:=(∀ n,look n s.fr=look n t.fr)/\(∀ i,look i s.hp=look i t.hp)
theorem M7.refl (s:St):M7 s s:=⟨λ _=>rfl,λ _=>rfl⟩
theorem M7.symm {s t:St} (h:M7 s t):M7 t s:=⟨λ n=>(h.1 n).symm,λ n=>(h.2 n).symm⟩
theorem M7.trans {s t u:St} (h:M7 s t) (k:M7 t u):M7 s u:=⟨λ n=>(h.1 n).trans (k.1 n),λ n=>(h.2 n).trans (k.2 n)⟩
theorem a0M {m:Nat} {s:St} {d:Option Nat} {v:AV}:look m (s.put d v).fr=if d=some m then some v else look m s.fr:=by
 cases d with
 | none=>simp [St.put]
 | some d =>
  simp only [St.put,o7,Option.some.injEq];by_cases e:m=d
  ·subst e; simp
  ·rw [if_neg e,if_neg (λ h=>e h.symm)]
theorem a18 {s:St} {d:Option Nat} {v:AV}:(s.put d v).hp=s.hp:=by cases d<;>rfl
theorem a0F {s:St} {d:Option Nat} {v:AV} (h:uniq s.fr):uniq (s.put d v).fr:=by
 cases d with
 | none=>exact h
 | some d=>exact b3B _ _ h
theorem M7.put {s t:St} (h:M7 s t) (d:Option Nat) (v:AV):M7 (s.put d v) (t.put d v) :=
 ⟨λ n=>by rw [a0M,a0M,h.1 n],λ i=>by rw [a18,a18,h.2 i]⟩
theorem M7.get {s t:St} (h:M7 s t) (m:Nat):s.get m=t.get m:=by simp only [St.get,h.1 m]
theorem M7.ev {s t:St} (h:M7 s t) (x:Operand):s.ev x=t.ev x:=by cases x<;>first|exact a0O (h.get _)|rfl
theorem P6.eqv {s t:St} (h:M7 s t) {ids:List Nat} (hf:P6 s ids):P6 t ids :=
 λ n hn=>⟨(h.2 n).symm.trans (hf n hn).1,λ m v hv=>(hf n hn).2 m v ((h.1 m).trans hv)⟩
def a7s (s t:St) (L:List Nat):Prop:=∀ m∈L,t.get m=s.get m/\∀ i,(s.get m).i6 i=true->t.obj i=s.obj i
theorem a6y (v:Value) (i:Nat):(ofConst v).i6 i=false:=by
 unfold ofConst
 split
 ·split<;>rfl
 ·rfl
 ·split<;>rfl
 ·rfl
theorem a4O {s:St} {x:Operand} {i:Nat} (h:(s.ev x).i6 i=true):∃ m,x=.tmp m/\(s.get m).i6 i=true:=by
 cases x with
 | tmp m=>exact ⟨m,rfl,a2k h⟩
 | const v=>simp [St.ev,a6y] at h
 | global g=>cases h
 | func f=>cases h
theorem a7s.agree {s t:St} {L:List Nat} (h:a7s s t L) {xs:List Operand} (hL:∀ m,Operand.tmp m∈xs->m∈L):W3 s t xs:=by
 intro x hx;refine ⟨?_,λ i hi=>?_⟩
 ·cases x with
  | tmp m=>exact a0O (h m (hL m hx)).1
  | _=>rfl
 ·obtain ⟨m,rfl,hm⟩:=a4O hi
  exact (h m (hL m hx)).2 i hm
structure Put (s s1:St) (d:Option Nat) (T ids:List Nat) (f:AV->AV) (h:Nat->Option g8) (v:AV):Prop where
 fr:∀ n,look n s1.fr=if d=some n then some v else (look n s.fr).map f
 hp:∀ i,look i s1.hp=if i∈T\/i∈ids then h i else look i s.hp
section
variable {s t s1 t1:St} {d:Option Nat} {T ids:List Nat} {f:AV->AV} {h:Nat->Option g8} {v:AV}
theorem Put.eqv (hp:Put s s1 d T ids f h v) (he:M7 s t):Put t s1 d T ids f h v :=
 ⟨λ n=>by rw [hp.fr,he.1 n],λ i=>by rw [hp.hp,he.2 i]⟩
theorem Put.det (hp:Put s s1 d T ids f h v) (cn:Put t t1 d T ids f h v) (he:M7 s t):M7 s1 t1 :=
 ⟨λ n=>by rw [hp.fr,cn.fr,he.1 n],λ i=>by rw [hp.hp,cn.hp,he.2 i]⟩
theorem Put.get (hp:Put s s1 d T ids f h v) (hf:Trim T f) {m:Nat} (hm:d≠some m):s1.get m=f (s.get m):=by
 simp only [St.get,hp.fr,if_neg hm];cases look m s.fr with
 | none=>exact (hf.plain _ rfl).symm
 | some u=>rfl
end
theorem c2Y {T:List Nat} {f:AV->AV} (hf:Trim T f):∀ {j:Nat} {l:AV},n7.nth j (f l)=(n7.nth j l).map f:=by
 have nope:∀ {j:Nat} {l:AV},(∀ a b,l≠.cons a b)->n7.nth j l=none:=by
  intro j l h;cases l with
  | cons a b=>exact absurd rfl (h a b)
  | _=>cases j<;>rfl
 have hn:∀ u:AV,(∀ a b,u≠.cons a b)->∀ a b,f u≠.cons a b:=by
  intro u hu a b e;cases u with
  | cons a b=>exact absurd rfl (hu a b)
  | J8 l=>rw [hf.J8] at e; cases e
  | B8 g l=>rw [hf.B8] at e; cases e
  | bx l=>rw [hf.bx] at e; cases e
  | rc g l=>rw [hf.rc] at e; cases e
  | ptr i p=>rcases hf.atom _ (rfl:(AV.ptr i p).ref=true) with h|h<;>rw [h] at e<;>cases e
  | at_ i p=>rcases hf.atom _ (rfl:(AV.at_ i p).ref=true) with h|h<;>rw [h] at e<;>cases e
  | sub i p x y=>rcases hf.atom _ (rfl:(AV.sub i p x y).ref=true) with h|h<;>rw [h] at e<;>cases e
  | _=>rw [hf.plain _ rfl] at e; cases e
 intro j
 induction j with
 | zero =>
  intro l;cases l with
  | cons a b=>rw [hf.cons]; rfl
  | _=>rw [nope (hn _ (by intro a b e; cases e)),nope (by intro a b e; cases e)]; rfl
 | succ j ih =>
  intro l;cases l with
  | cons a b=>rw [hf.cons]; exact ih
  | _=>rw [nope (hn _ (by intro a b e; cases e)),nope (by intro a b e; cases e)]; rfl
theorem a2t (o:Oper):(∀ v,I0 o v=v)\/(o.guard=none/\∃ x j,o.op=.extract x j/\∀ v,I0 o v=(match v with
  | .J8 l=>(match n7.nth j l with
   | some v=>.J8 (.cons v .nil)
   | none=>.any)
  | _=>.any)):=by
 unfold I0
 split
 ·rename_i x j hg ho; exact .inr ⟨hg,x,j,ho,λ _=>rfl⟩
 ·exact .inl λ _=>rfl
theorem a8t {T:List Nat} {f:AV->AV} (hf:Trim T f) (o:Oper) (v:AV):I0 o (f v)=f (I0 o v):=by
 rcases a2t o with h|⟨_,x,j,_,h⟩
 ·rw [h,h]
 ·rw [h,h]
  have eB:f .any=.any:=hf.plain _ rfl;cases v with
  | J8 l =>
   rw [hf.J8];simp only [c2Y hf];cases hn:n7.nth j l with
   | none=>exact eB.symm
   | some u =>
    show AV.J8 (.cons (f u) .nil)=f (.J8 (.cons u .nil));rw [hf.J8,hf.cons,hf.plain .nil rfl]
  | cons a b=>rw [hf.cons]; exact eB.symm
  | B8 g l=>rw [hf.B8]; exact eB.symm
  | bx l=>rw [hf.bx]; exact eB.symm
  | rc g l=>rw [hf.rc]; exact eB.symm
  | ptr i p=>rcases hf.atom _ (rfl:(AV.ptr i p).ref=true) with e|e<;>rw [e]<;>exact eB.symm
  | at_ i p=>rcases hf.atom _ (rfl:(AV.at_ i p).ref=true) with e|e<;>rw [e]<;>exact eB.symm
  | sub i p x y=>rcases hf.atom _ (rfl:(AV.sub i p x y).ref=true) with e|e<;>rw [e]<;>exact eB.symm
  | _=>rw [hf.plain _ rfl]; try exact eB.symm
theorem a3q {o:Oper} {v:AV} {i:Nat} (h:(I0 o v).i6 i=true):v.i6 i=true:=by
 rcases a2t o with e|⟨_,x,j,_,e⟩
 ·rwa [e] at h
 ·rw [e] at h
  split at h
  ·rename_i l
   split at h
   ·rename_i u hu
    have:u.i6 i=true:=by simpa [AV.i6] using h
    show l.i6 i=true;exact a8D hu this
   ·cases h
  ·cases h
def a2N (o:Oper) (s t:St) (L:List Nat):Prop:=∀ m∈L,I0 o (t.get m)=I0 o (s.get m)/\∀ i,(I0 o (s.get m)).i6 i=true->t.obj i=s.obj i
theorem a2N.plain {o:Oper} (h:∀ v,I0 o v=v) {s t:St} {L:List Nat} (ha:a2N o s t L):a7s s t L:=λ m hm=>by
 have:=ha m hm;simpa only [h] using this
theorem M7.a7a {s t:St} (h:M7 s t) (o:Oper) (L:List Nat):a2N o s t L:=λ m _=>⟨by rw [h.get m],λ i _=>(h.2 i).symm⟩
def Eff (o:Oper) (run:St->Option (Prop×St)) (d:Option Nat) (L T:List Nat) (s:St) (p:Prop):Prop :=
 ∃ v ids f h,Trim T f/\P6 s ids/\(∀ n∈ids,n % 1000=(d.getD 0) % 1000) /\
  (∀ i,v.i6 i=true->(∃ m∈L,(I0 o (s.get m)).i6 i=true)\/i∈ids) /\
  ∀ t,uniq t.fr->a2N o s t L->P6 t ids->∃ t1,run t=some (p,t1)/\uniq t1.fr/\Put t t1 d T ids f h v
section
variable {E:Env} {ops:Array Oper} {s t:St}
theorem b3K {o:Oper} {p:Prop} {s1:St} (h:a0t E o s=some (p,s1)) {L:List Nat} (hL:∀ m,Operand.tmp m∈o.op.operands.toList->m∈L):Eff o (a0t E o) o.dst L (l5 E o s) s p:=by
 rcases a2t o with dA|⟨ig,x,j,cT,dA⟩
 rotate_left
 ·have hd:J5 E.nt o.dst=true:=by
   unfold a0t at h;split at h
   ·cases h
   ·assumption
  have hr:∀ t,a0t E o t=(match (match t.ev x with|.J8 l=>(match n7.nth j l with|some v=>OR.ok v t|none=>.fail "extract")|_=>.fail "extract").get with|none=>none|some (p,v,s')=>some (p,s'.put o.dst v)):=by
   intro t;unfold a0t n7;rw [hd,cT];rfl
  have hT:l5 E o s=[]:=by unfold l5; rw [cT]
  rw [hT];rw [hr] at h;have key:∃ m l v,x=.tmp m/\Nat.beq m H7=false/\s.get m=.J8 l/\n7.nth j l=some v/\p=True:=by
   cases x with
   | tmp m =>
    cases hv:s.ev (.tmp m) with
    | J8 l =>
     rw [hv] at h;cases hn:n7.nth j l with
     | some v =>
      simp only [hn,OR.get,Option.some.injEq,Prod.mk.injEq] at h;exact ⟨m,l,v,rfl,b9l hv nofun,a2C hv nofun,hn,h.1.symm⟩
     | none=>simp only [hn,OR.get] at h; cases h
    | _ =>
     rw [hv] at h;cases h
   | const c =>
    exfalso;have:∀ l,s.ev (.const c)≠.J8 l:=by
     intro l e;simp only [St.ev] at e;unfold ofConst at e
     repeat' split at e
     all_goals cases e
    revert h;cases hv:s.ev (.const c) with
    | J8 l=>exact absurd hv (this l)
    | _=>intro h; cases h
   | global g=>cases h
   | func f=>cases h
  obtain ⟨m,l,v,rfl,qO,hm,hn,rfl⟩:=key;have pH:m∈L:=hL m (by rw [cT]; simp [Op.operands]);have pr:I0 o (s.get m)=.J8 (.cons v .nil):=by rw [dA,hm]; simp only [hn]
  refine ⟨v,[],λ u=>u,λ _=>none,Trim.id _,by simp [P6],by simp,λ i hi=>.inl ⟨m,pH,by rw [pr]; simpa [AV.i6] using hi⟩,λ t hu ha _=>?_⟩;have e1:=(ha m pH).1;rw [pr,dA] at e1;have qu:∃ l',t.get m=.J8 l'/\n7.nth j l'=some v:=by
   split at e1
   ·rename_i l' eR
    split at e1
    ·rename_i v' fa
     cases e1;exact ⟨l',eR,fa⟩
    ·cases e1
   ·cases e1
  obtain ⟨l',f1,f2⟩:=qu;have qv:t.ev (.tmp m)=.J8 l':=c5R qO f1;exact ⟨t.put o.dst v,by rw [hr,qv]; simp only [f2]; rfl,a0F hu,⟨λ n=>by rw [a0M]; simp,λ i=>by rw [a18]; simp⟩⟩
 have jv:∀ {t:St},a2N o s t L->a7s s t L:=λ ha=>ha.plain dA;by_cases hp:∃ a b c,o.op=.pick a b c
 ·obtain ⟨c,a,b,ho⟩:=hp
  have hd:J5 E.nt o.dst=true:=by
   unfold a0t at h;split at h
   ·cases h
   ·assumption
  have hr:∀ t,a0t E o t=(match t.ev c with|.val .bool g=>some (True,t.put o.dst (match g with|true=>t.ev a|false=>t.ev b))|_=>none):=by
   intro t;unfold a0t;rw [hd,ho];rfl
  have hT:l5 E o s=[]:=by unfold l5; rw [ho]
  rw [hT];rw [hr] at h;have fS:o.op.operands.toList=[c,a,b]:=by rw [ho]; rfl
  rw [fS] at hL;have key:∃ g:Bool,s.ev c=.val .bool g:=by
   split at h
   ·exact ⟨_,by assumption⟩
   ·cases h
  obtain ⟨g,hg⟩:=key;rw [hg] at h;simp only [Option.some.injEq,Prod.mk.injEq] at h;obtain ⟨rfl,rfl⟩:=h;refine ⟨(if g=true then s.ev a else s.ev b),[],λ u=>u,λ _=>none,Trim.id _,by simp [P6],by simp,?_,?_⟩
  ·intro i hi
   cases g with
   | true=>obtain ⟨m,hm,hi⟩:=a4O hi; exact .inl ⟨m,hL m (by simp [<- hm]),by rw [dA]; exact hi⟩
   | false=>obtain ⟨m,hm,hi⟩:=a4O hi; exact .inl ⟨m,hL m (by simp [<- hm]),by rw [dA]; exact hi⟩
  ·intro t hu ha _
   have cV:=(jv ha).agree hL;have e1:=(cV c (by simp)).1;have e2:=(cV a (by simp)).1;have e3:=(cV b (by simp)).1;refine ⟨_,by rw [hr,e1,hg,e2,e3],a0F hu,⟨λ n=>by rw [a0M]; cases g<;>simp,λ i=>by rw [a18]; simp⟩⟩
 ·have cn:∀ a b c,o.op≠.pick a b c:=λ a b c e=>hp ⟨a,b,c,e⟩
  have hd:J5 E.nt o.dst=true:=by
   unfold a0t at h;split at h
   ·cases h
   ·assumption
  have hr:∀ t,a0t E o t=(match (n7 E o t).get with|none=>none|some (p,v,s')=>some (p,s'.put o.dst v)):=by
   intro t;unfold a0t;rw [hd];cases ho:o.op<;>first|rfl|exact absurd ho (cn _ _ _)
  rw [hr] at h;split at h
  ·cases h
  ·rename_i p' v s' hg
   cases h;obtain ⟨ids,f,h,k1,k2,k3,k4,k5⟩:=c6b cn hg;refine ⟨v,ids,f,h,k1,k2,k3,?_,?_⟩
   ·intro i hi
    rcases k4 i hi with ⟨x,hx,hm⟩|hm
    ·obtain ⟨m,rfl,hm⟩:=a4O hm
     exact .inl ⟨m,hL m hx,by rw [dA]; exact a2k hm⟩
    ·exact .inr hm
   ·intro t hu ha hf
    obtain ⟨t1,e1,e2,e3⟩:=k5 t hu ((jv ha).agree hL) hf;exact ⟨t1.put o.dst v,by rw [hr,e1],a0F e2,⟨λ n=>by rw [a0M,e3.fr],λ i=>by rw [a18,e3.hp]⟩⟩
theorem a8B {g:Nat} {v:AV} (hv:s.get g=v) (hn:v≠.any):M7 s (s.put (some g) v):=by
 refine ⟨λ n=>?_,λ i=>rfl⟩;rw [a0M]
 split
 ·rename_i e
  cases e;simp only [St.get] at hv;cases hl:look g s.fr with
  | none=>rw [hl] at hv; exact absurd hv.symm hn
  | some w=>rw [hl] at hv; simp at hv; rw [hv]
 ·rfl
theorem a17 {o:Oper} {m:Nat} (hm:Operand.tmp m∈o.op.operands.toList):m∈looks ops o:=List.mem_append_left _ (List.mem_filterMap.2 ⟨_,hm,rfl⟩)
theorem a9q {o:Oper} {i:Nat} (hi:i∈l5 E o s):∃ m∈looks ops o,(s.get m).i6 i=true:=by
 obtain ⟨x,hx,hm⟩:=a49 hi;obtain ⟨m,rfl,hm⟩:=a4O hm;exact ⟨m,a17 hx,a2k hm⟩
theorem c08 {o:Oper} (h:∀ m∈looks ops o,t.get m=s.get m):l5 E o t=l5 E o s :=
 a8x (λ x hx=>by
  cases x with
  | tmp m=>exact a0O (h m (a17 hx))
  | _=>rfl)
theorem b59 {o:Oper} {i:Nat} (hi:i∈l5 E o s):∃ m∈looks ops o,(I0 o (s.get m)).i6 i=true:=by
 rcases a2t o with h|⟨_,x,j,cT,_⟩
 ·obtain ⟨m,hm,bS⟩:=a9q (ops:=ops) hi
  exact ⟨m,hm,by rw [h]; exact bS⟩
 ·unfold l5 at hi; rw [cT] at hi; cases hi
theorem a9r {o:Oper} (h:∀ m∈looks ops o,I0 o (t.get m)=I0 o (s.get m)):l5 E o t=l5 E o s:=by
 rcases a2t o with e|⟨_,x,j,cT,_⟩
 ·exact c08 (λ m hm=>by have:=h m hm; simpa only [e] using this)
 ·unfold l5; rw [cT]
theorem a3Z {o:Oper} (_hu:uniq s.fr) {p:Prop} {s1:St} (h:K5 E ops o s=some (p,s1)):Eff o (K5 E ops o) o.dst (looks ops o) (l5 E o s) s p:=by
 have hL:∀ m,Operand.tmp m∈o.op.operands.toList->m∈looks ops o:=λ m hm=>a17 hm;cases hg:o.guard with
 | none =>
  have hr:∀ t,K5 E ops o t=a0t E o t:=λ t=>by unfold K5; rw [hg]
  rw [hr] at h;have:=b3K h hL
  rwa [<- (funext hr:K5 E ops o=a0t E o)] at this
 | some jw =>
  obtain ⟨j,want⟩:=jw;have dA:∀ v,I0 o v=v:=by
   rcases a2t o with e|⟨ig,_⟩
   ·exact e
   ·rw [hg] at ig; cases ig
  have jv:∀ {t:St} {L:List Nat},a2N o s t L->a7s s t L:=λ ha=>ha.plain dA;cases hs:a1s ops j with
  | none=>unfold K5 at h; rw [hg] at h; simp [hs] at h
  | some g =>
   have pN:g∈looks ops o:=by unfold looks; rw [hg]; simp [hs]
   have hr:∀ t,K5 E ops o t=(match t.ev (.tmp g) with
    | .raw (.tuple _)=>match J5 E.nt o.dst with
     | true=>some (True,t.put o.dst (.raw undef))
     | false=>none
    | .val .bool b=>match J5 E.nt o.dst with
     | false=>none
     | true=>match b == want with
      | true=>a0t E o (t.put (some g) (.val .bool b))
      | false=>some (True,(t.put (some g) (.val .bool b)).put o.dst (.raw undef))
    | _=>none):=λ t=>by unfold K5; rw [hg]; dsimp only; rw [hs]; rfl
   have skip:(∀ t,uniq t.fr->t.ev (.tmp g)=s.ev (.tmp g)->∃ t1,K5 E ops o t=some (True,t1)/\uniq t1.fr/\M7 t1 (t.put o.dst (.raw undef)))->Eff o (K5 E ops o) o.dst (looks ops o) (l5 E o s) s True:=by
    intro aW;refine ⟨.raw undef,[],λ u=>u,λ i=>look i s.hp,Trim.id _,by simp [P6],by simp,λ i hi=>by simp [AV.i6] at hi,λ t jy ha _=>?_⟩;have ha:=jv ha;obtain ⟨t1,e1,e2,e3⟩:=aW t jy (a0O (ha g pN).1);refine ⟨t1,e1,e2,⟨λ n=>by rw [e3.1,a0M]; simp,λ i=>?_⟩⟩;rw [e3.2,a18]
    split
    ·rename_i hi
     obtain ⟨m,hm,bS⟩:=a9q (ops:=ops) (by simpa using hi:i∈l5 E o s);exact (ha m hm).2 i bS
    ·rfl
   rw [hr] at h;cases hv:s.ev (.tmp g) with
   | raw w =>
    rw [hv] at h;cases w with
    | tuple vs =>
     simp only at h;cases hd:J5 E.nt o.dst with
     | false=>rw [hd] at h; cases h
     | true =>
      rw [hd] at h;simp only [Option.some.injEq,Prod.mk.injEq] at h;obtain ⟨rfl,rfl⟩:=h;exact skip (λ t jy ht=>⟨_,by rw [hr,ht,hv]; simp only [hd],a0F jy,M7.refl _⟩)
    | _=>cases h
   | val u b =>
    rw [hv] at h;cases u with
    | bool =>
     simp only at h;cases hd:J5 E.nt o.dst with
     | false=>rw [hd] at h; cases h
     | true =>
      rw [hd] at h;simp only at h;cases hb:(b == want) with
      | false =>
       rw [hb] at h;simp only [Option.some.injEq,Prod.mk.injEq] at h;obtain ⟨rfl,rfl⟩:=h;exact skip (λ t jy ht=>⟨_,by rw [hr,ht,hv]; simp only [hd,hb],a0F (a0F jy),((a8B (a2C (ht.trans hv) (by simp)) (by simp)).symm.put _ _)⟩)
      | true =>
       rw [hb] at h;simp only at h;have br:=a8B (a2C hv (by simp)) (by simp);obtain ⟨v,ids,f,hh,k1,k2,k3,k4,k5⟩:=b3K h hL;have rN:l5 E o (s.put (some g) (.val .bool b))=l5 E o s:=a8x (λ x _=>(br.ev x).symm);rw [rN] at k1 k5;refine ⟨v,ids,f,hh,k1,k2.eqv br.symm,k3,?_,?_⟩
       ·intro i hi
        rcases k4 i hi with ⟨m,hm,bS⟩|hm
        ·exact .inl ⟨m,hm,by rw [br.get]; exact bS⟩
        ·exact .inr hm
       ·intro t jy ha hf
        have ha:=jv ha;have pz:t.ev (.tmp g)=.val .bool b:=(a0O (ha g pN).1).trans hv;have bN:=a8B (a2C pz (by simp)) (by simp);obtain ⟨t1,e1,e2,e3⟩:=k5 (t.put (some g) (.val .bool b)) (a0F jy) (λ m hm=>by
         rw [<- bN.get,<- br.get,dA,dA];refine ⟨(ha m hm).1,λ i hi=>?_⟩;have:=(ha m hm).2 i hi;simpa [St.obj,a18] using this) (hf.eqv bN)
        refine ⟨t1,by rw [hr,pz]; simp only [hd,hb,e1],e2,e3.eqv bN.symm⟩
    | _=>cases h
   | _=>rw [hv] at h; cases h
theorem b1F {o:Oper} (hu:uniq s.fr) (he:M7 s t) (ht:uniq t.fr) {p:Prop} {s1:St} (h:K5 E ops o s=some (p,s1)):∃ t1,K5 E ops o t=some (p,t1)/\uniq t1.fr/\M7 s1 t1:=by
 obtain ⟨v,ids,f,hh,k1,k2,k3,k4,k5⟩:=a3Z hu h;obtain ⟨s1',e1,_,e3⟩:=k5 s hu ((M7.refl s).a7a _ _) k2;rw [h] at e1; cases e1;obtain ⟨t1,f1,f2,f3⟩:=k5 t ht (he.a7a _ _) (k2.eqv he);exact ⟨t1,f1,f2,e3.det f3 he⟩
theorem a0d {o:Oper} (hu:uniq s.fr) {p:Prop} {s1:St} (h:K5 E ops o s=some (p,s1)):uniq s1.fr:=by
 obtain ⟨t1,h1,h2,_⟩:=b1F hu (M7.refl s) hu h;rw [h] at h1; cases h1; exact h2
theorem a96:∀ {v:AV} {i:Nat},v.clean=true->v.i6 i=false:=by
 intro v
 induction v with
 | cons a b iha ihb =>
  intro i h;simp only [AV.clean,Bool.and_eq_true] at h;simp [AV.i6,iha h.1,ihb h.2]
 | J8 l ih=>intro i h; exact ih h
 | B8 f l ih=>intro i h; exact ih h
 | bx l ih=>intro i h; exact ih h
 | rc f l ih=>intro i h; exact ih h
 | ptr i p=>intro i h; cases h
 | at_ i p=>intro i h; cases h
 | sub i p a b=>intro i h; cases h
 | _=>intro i h; rfl
theorem b6g {o:Oper} (hu:uniq s.fr) {p:Prop} {s1:St} (h:K5 E ops o s=some (p,s1)) {m:Nat} (hm:o.dst≠some m) (hc:(s.get m).clean=true):(s1.get m).clean=true:=by
 obtain ⟨v,ids,f,hh,k1,k2,k3,k4,k5⟩:=a3Z hu h;obtain ⟨s1',e1,_,e3⟩:=k5 s hu ((M7.refl s).a7a _ _) k2;rw [h] at e1; cases e1;rw [e3.get k1 hm,k1.fix _ (λ i _=>a96 hc)];exact hc
end
end Go.Ex
namespace Go.Ex
section
variable {E:Env} {ops:Array Oper} {s t:St}
theorem get_some {m:Nat} {v:AV} (h:look m s.fr=some v):s.get m=v:=by simp [St.get,h]
theorem c3F {m i:Nat} (h:(s.get m).i6 i=true):∃ v,look m s.fr=some v/\v.i6 i=true:=by
 simp only [St.get] at h;cases hl:look m s.fr with
 | none=>rw [hl] at h; cases h
 | some v=>rw [hl] at h; exact ⟨v,rfl,h⟩
theorem b9c {x y:Oper} (h:indep ops x y=true):(∀ d,x.dst=some d->d∉looks ops y)/\(∀ d,y.dst=some d->d∉looks ops x)/\(x.dst.getD 0) % 1000≠(y.dst.getD 0) % 1000:=by
 simp only [indep,Bool.and_eq_true,Bool.not_eq_true',c2u] at h;obtain ⟨⟨h3,h4⟩,h5⟩:=h;refine ⟨?_,?_,λ e=>?_⟩
 ·intro d hd
  rw [hd] at h3;simp only [Bool.and_eq_true,Bool.not_eq_true'] at h3;intro hm;have:=h3.1;simp [hm] at this
 ·intro d hd
  rw [hd] at h4;simp only [Bool.not_eq_true'] at h4;intro hm;simp [hm] at h4
 ·rw [e] at h5
  simp at h5
theorem a5n {ids:List Nat} (hn:P6 s ids) {n m:Nat} (h:n∈ids):(s.get m).i6 n=false:=by
 cases hm:(s.get m).i6 n with
 | false=>rfl
 | true =>
  obtain ⟨v,hv,pv⟩:=c3F hm;rw [(hn n h).2 m v hv] at pv; cases pv
theorem c5p {u:AV} (hr:u.ref=true) {i j:Nat} (h1:u.i6 i=true) (h2:u.i6 j=true):i=j:=by
 cases u<;>simp only [AV.ref] at hr<;>first|(cases hr; done)|(simp only [AV.i6] at h1 h2; exact (Nat.eq_of_beq_eq_true h1).trans (Nat.eq_of_beq_eq_true h2).symm)
theorem b8O {u:AV} (h:u.plain=true) {i:Nat}:u.i6 i=false:=by
 cases u<;>simp only [AV.plain] at h<;>first|rfl|(cases h; done)
theorem Trim.stay {T:List Nat} {f:AV->AV} (hf:Trim T f) {n:Nat} (hn:n∉T):∀ u:AV,u.i6 n=true->(f u).i6 n=true:=by
 refine AV.shape _ (λ u hu h=>?_) (λ u hu h=>?_) ?_ ?_ ?_ ?_ ?_
 ·rw [b8O hu] at h; cases h
 ·rw [hf.a8M u hu (λ i hi=>?_)]
  ·exact h
  ·cases hm:u.i6 i with
   | false=>rfl
   | true=>exact absurd (c5p hu hm h▸hi) hn
 ·intro a b ha hb h
  rw [hf.cons];simp only [AV.i6,Bool.or_eq_true] at h ⊢;exact h.imp ha hb
 ·intro l hl h; rw [hf.J8]; exact hl h
 ·intro k l hl h; rw [hf.B8]; exact hl h
 ·intro l hl h; rw [hf.bx]; exact hl h
 ·intro k l hl h; rw [hf.rc]; exact hl h
theorem swap {x y:Oper} (hi:indep ops x y=true) (hu:uniq s.fr) (hx:∀ d,x.dst=some d->(s.get d).clean=true) {p q:Prop} {s1 s2:St} (h1:K5 E ops x s=some (p,s1)) (h2:K5 E ops y s1=some (q,s2))
  (hP:a3f ops x s (l5 E x s) y (l5 E y s1)) :
  ∃ s1' s2',K5 E ops y s=some (q,s1')/\K5 E ops x s1'=some (p,s2')/\uniq s1'.fr/\uniq s2'.fr/\M7 s2' s2/\l5 E y s=l5 E y s1/\l5 E x s1'=l5 E x s /\
   (∀ m∈looks ops x,I0 x (s1'.get m)=I0 x (s.get m))/\∀ (z:Oper) m,∀ i∈l5 E x s,(I0 z (s1'.get m)).i6 i=true->(I0 z (s.get m)).i6 i=true:=by
 obtain ⟨ax,ay,fW⟩:=b9c hi;obtain ⟨P1,P2,P3⟩:=hP;have kW:=a0d hu h1;obtain ⟨v,ids,f,g,k1,k2,k3,k4,k5⟩:=a3Z hu h1;obtain ⟨_,e1,_,eE⟩:=k5 s hu ((M7.refl s).a7a _ _) k2;rw [h1] at e1; cases e1;obtain ⟨v',ids',f',g',m1,m2,m3,m4,m5⟩:=a3Z kW h2;obtain ⟨_,e2,_,iA⟩:=m5 s1 kW ((M7.refl s1).a7a _ _) m2;rw [h2] at e2; cases e2;have oA:∀ d,x.dst=some d->y.dst=some d->False:=λ d e1 e2=>fW (by rw [e1,e2]);have cH:∀ m∈looks ops y,I0 y (s1.get m)=I0 y (s.get m):=by
  intro m hm;rw [eE.get k1 (λ e=>ax m e hm),a8t k1,k1.fix _ (λ i hi=>P1 m hm i hi)]
 have rL:l5 E y s=l5 E y s1:=(a9r cH).symm;have mg:∀ i∈l5 E y s1,∃ m∈looks ops y,(I0 y (s.get m)).i6 i=true:=by
  intro i hi;obtain ⟨m,hm,bS⟩:=b59 (ops:=ops) hi;exact ⟨m,hm,by rw [<- cH m hm]; exact bS⟩
 have d1:∀ i∈l5 E x s,i∉l5 E y s1:=by
  intro i hi hj;obtain ⟨m,hm,bS⟩:=mg i hj;rw [P1 m hm i hi] at bS; cases bS
 have d2:∀ i∈ids,i∉l5 E y s1:=by
  intro i hi hj;obtain ⟨m,hm,bS⟩:=mg i hj;have bS:=a3q bS;rw [a5n k2 hi] at bS; cases bS
 have d3:∀ i∈l5 E x s,i∉ids':=λ i hi hj=>P3 i hi (m3 i hj);have d4:∀ i∈ids,i∉ids':=λ i hi hj=>fW ((k3 i hi).symm.trans (m3 i hj));have jd:∀ i,i∉l5 E x s->i∉ids->look i s1.hp=look i s.hp:=λ i h1 h2=>by rw [eE.hp,if_neg (by rintro (h|h); exact h1 h; exact h2 h)]
 have cV:a2N y s1 s (looks ops y):=by
  intro m hm;refine ⟨(cH m hm).symm,λ i hi=>?_⟩;rw [cH m hm] at hi;refine (jd i (λ h=>?_) (λ h=>?_)).symm
  ·rw [P1 m hm i h] at hi; cases hi
  ·have hi:=a3q hi
   rw [a5n k2 h] at hi; cases hi
 have iO:P6 s ids':=by
  intro n hn;refine ⟨?_,λ m w hw=>?_⟩
  ·rw [<- jd n (λ h=>d3 n h hn) (λ h=>d4 n h hn)]; exact (m2 n hn).1
  ·by_cases hd:x.dst=some m
   ·have:=hx m hd
    rw [get_some hw] at this;exact a96 this
   ·cases qj:w.i6 n with
    | false=>rfl
    | true =>
     have:=k1.stay (λ h=>d3 n h hn) w qj;have h3:=(m2 n hn).2 m (f w) (by rw [eE.fr,if_neg hd,hw]; rfl);rw [this] at h3; cases h3
 obtain ⟨s1',f1,fu,ff⟩:=m5 s hu cV iO;have gO:∀ m∈looks ops x,I0 x (s1'.get m)=I0 x (s.get m):=by
  intro m hm;rw [ff.get m1 (λ e=>ay m e hm),a8t m1,m1.fix _ (λ i hi=>P2 m hm i hi)]
 have oS:a2N x s s1' (looks ops x):=by
  intro m hm;refine ⟨gO m hm,λ i hi=>?_⟩;show look i s1'.hp=look i s.hp;rw [ff.hp,if_neg];rintro (h|h)
  ·rw [P2 m hm i h] at hi; cases hi
  ·have hi:=a3q hi
   rw [a5n iO h] at hi; cases hi
 have fa:∀ i,v'.i6 i=true->i∉l5 E x s/\i∉ids:=by
  intro i hi;rcases m4 i hi with ⟨m,hm,bS⟩|bS
  ·rw [cH m hm] at bS
   refine ⟨λ h=>?_,λ h=>?_⟩
   ·rw [P1 m hm i h] at bS; cases bS
   ·have bS:=a3q bS
    rw [a5n k2 h] at bS; cases bS
  ·exact ⟨λ h=>d3 i h bS,λ h=>d4 i h bS⟩
 have hv:∀ i,v.i6 i=true->i∉l5 E y s1:=by
  intro i hi;rcases k4 i hi with ⟨m,hm,bS⟩|bS
  ·exact λ h=>by rw [P2 m hm i h] at bS; cases bS
  ·exact d2 i bS
 have ou:P6 s1' ids:=by
  intro n hn;refine ⟨?_,λ m w hw=>?_⟩
  ·rw [ff.hp,if_neg]
   ·exact (k2 n hn).1
   ·rintro (h|h)
    ·exact d2 n hn h
    ·exact d4 n hn h
  ·rw [ff.fr] at hw
   split at hw
   ·cases hw
    cases hm:v'.i6 n with
    | false=>rfl
    | true=>exact absurd hn (fa n hm).2
   ·cases hl:look m s.fr with
    | none=>rw [hl] at hw; cases hw
    | some u =>
     rw [hl] at hw;cases hw;cases hm:(f' u).i6 n with
     | false=>rfl
     | true=>have:=m1.i6 u hm; rw [(k2 n hn).2 m u hl] at this; cases this
 obtain ⟨s2',g1,gu,ld⟩:=k5 s1' fu oS ou;refine ⟨s1',s2',f1,g1,fu,gu,⟨λ n=>?_,λ i=>?_⟩,rL,a9r gO,gO,?_⟩
 ·rw [ld.fr,iA.fr,ff.fr,eE.fr]
  by_cases a:x.dst=some n
  ·rw [if_pos a,if_neg (λ b=>oA n a b),if_pos a,Option.map_some,m1.fix v]
   intro i hi;cases hm:v.i6 i with
   | false=>rfl
   | true=>exact absurd hi (hv i hm)
  ·rw [if_neg a,if_neg a]
   by_cases b:y.dst=some n
   ·rw [if_pos b,if_pos b,Option.map_some,k1.fix v']
    intro i hi;cases hm:v'.i6 i with
    | false=>rfl
    | true=>exact absurd hi (fa i hm).1
   ·rw [if_neg b,if_neg b,Option.map_map,Option.map_map]
    congr 1
    funext u
    exact k1.comm m1 u
 ·rw [ld.hp,iA.hp,ff.hp,eE.hp]
  by_cases a:i∈l5 E x s\/i∈ids
  ·rw [if_pos a,if_neg,if_pos a]
   rintro (b|b)
   ·rcases a with a|a
    ·exact d1 i a b
    ·exact d2 i a b
   ·rcases a with a|a
    ·exact d3 i a b
    ·exact d4 i a b
  ·rw [if_neg a,if_neg a]
 ·intro z m i hi hm
  by_cases b:y.dst=some m
  ·have:s1'.get m=v':=get_some (by rw [ff.fr,if_pos b])
   rw [this] at hm;exact absurd hi (fa i (a3q hm)).1
  ·rw [ff.get m1 b,a8t m1] at hm
   exact m1.i6 _ hm
end
end Go.Ex
namespace Go.Ex
section
variable {E:Env} {ops:Array Oper} {M:Nat->Nat} {s t:St}
def rem (ops:Array Oper) (l:List Nat):List Oper:=l.filterMap λ i=>ops[i]?
theorem a5j {i:Nat} {o:Oper} {l:List Nat} (h:ops[i]?=some o):rem ops (i::l)=o::rem ops l:=by simp [rem,h]
theorem b0I {l m:List Nat}:rem ops (l++m)=rem ops l++rem ops m:=by simp [rem,List.filterMap_append]
def T6 (s:St) (l:List Oper):Prop:=∀ o∈l,∀ d,o.dst=some d->(s.get d).clean=true
def X5:List Oper->Prop
 | []=>True
 | o::l=>(∀ d,o.dst=some d->∀ x∈l,x.dst≠some d)/\X5 l
theorem T6.sub {l l':List Oper} (h:T6 s l) (hs:∀ o∈l',o∈l):T6 s l':=λ o ho=>h o (hs o ho)
def nl (ops:Array Oper) (l:List Nat):List Nat:=l.filter (λ j=>!a19 ops j)
theorem c1o {l m:List Nat}:nl ops (l++m)=nl ops l++nl ops m:=by simp [nl]
theorem c6Y {l:List Nat} {i:Nat} (hi:i<ops.size) (h:∀ j∈l,j<i) (hm:∀ j∈l,((P7 ops.toList []).getD i 0).testBit j=false):nl ops l=l :=
 List.filter_eq_self.2 (λ j hj=>by
  cases e:a19 ops j with
  | false=>rfl
  | true =>
   unfold a19 at e;rw [List.all_eq_true] at e;have:=e i (List.mem_range.2 hi);rw [hm j hj,show Nat.blt j i=true by rw [Nat.blt_eq]; exact h j hj] at this;cases this)
theorem b6t {j:Nat} (h:a19 ops j=false):j+1<ops.size:=by
 rcases Nat.lt_or_ge (j+1) ops.size with h1|h1
 ·exact h1
 ·exfalso
  have:a19 ops j=true:=by
   unfold a19;rw [List.all_eq_true];intro i hi;have:=List.mem_range.1 hi;have:Nat.blt j i=false:=by
    cases e:Nat.blt j i with
    | false=>rfl
    | true=>rw [Nat.blt_eq] at e; omega
   rw [this]; rfl
  rw [this] at h; cases h
theorem c6X {l:List Nat}:∀ o∈rem ops (nl ops l),o∈rem ops l:=λ o ho=>by
 obtain ⟨j,h1,h2⟩:=List.mem_filterMap.1 ho;exact List.mem_filterMap.2 ⟨j,(List.mem_filter.1 h1).1,h2⟩
theorem T6.step {o:Oper} {l:List Oper} (hu:uniq s.fr) (hc:T6 s l) (hd:∀ x∈l,∀ d,x.dst=some d->o.dst≠some d) {p:Prop} {s1:St} (h:K5 E ops o s=some (p,s1)):T6 s1 l :=
 λ x hx d fp=>b6g hu h (hd x hx d fp) (hc x hx d fp)
def c7G (E:Env) (ops:Array Oper) (acc cQ:List (Nat×St)):Prop :=
 ∀ e'∈cQ,∃ e∈acc,e.1=e'.1/\∀ x,ops[e.1]?=some x->(∀ m∈looks ops x,I0 x (e'.2.get m)=I0 x (e.2.get m))/\l5 E x e'.2=l5 E x e.2/\∀ (z:Oper) m,∀ k∈l5 E x e.2,(I0 z (e'.2.get m)).i6 k=true->(I0 z (e.2.get m)).i6 k=true
theorem a3f.b4e {x:Oper} {sx sx':St} {y:Oper} {Ty Ty':List Nat} (h:a3f ops x sx (l5 E x sx) y Ty) (h1:∀ m∈looks ops x,I0 x (sx'.get m)=I0 x (sx.get m)) (h2:l5 E x sx'=l5 E x sx) (h3:∀ (z:Oper) m,∀ k∈l5 E x sx,(I0 z (sx'.get m)).i6 k=true->(I0 z (sx.get m)).i6 k=true) (hT:Ty'=Ty) :
  a3f ops x sx' (l5 E x sx') y Ty':=by
 subst hT;obtain ⟨P1,P2,P3⟩:=h;rw [h2];refine ⟨λ m hm i hi=>?_,λ m hm i hi=>by rw [h1 m hm]; exact P2 m hm i hi,P3⟩;cases hh:(I0 y (sx'.get m)).i6 i with
 | false=>rfl
 | true=>have:=h3 y m i hi hh; rw [P1 m hm i hi] at this; cases this
theorem b1A {o:Oper} (h:M7 s t):l5 E o t=l5 E o s:=a8x (λ x _=>(h.ev x).symm)
theorem a5d:∀ {l:List Nat} {acc cQ:List (Nat×St)} {s t s':St},c7G E ops acc cQ->uniq s.fr->M7 s t->uniq t.fr->a3d E ops M acc l s s'->∃ t',a3d E ops M cQ l t t'/\M7 s' t'
 | [],acc,cQ,s,t,s',_,_,he,_,h=>⟨t,rfl,by rw [<- show s=s' from h]; exact he⟩
 | i::l,acc,cQ,s,t,s',hg,hu,he,ht,⟨o,ho,hc,p,s1,h1,h2,h3⟩=>by
  obtain ⟨t1,k1,k2,k3⟩:=b1F hu he ht h1;obtain ⟨t',m1,m2⟩:=a5d (acc:=(i,s)::acc) (cQ:=(i,t)::cQ) (λ e' dR=>by
   rcases List.mem_cons.1 dR with rfl|dR
   ·exact ⟨(i,s),by simp,rfl,λ x _=>⟨λ m _=>by show I0 x (t.get m)=I0 x (s.get m); rw [he.get m],b1A he,λ z m k _ hm=>by have hm:(I0 z (t.get m)).i6 k=true:=hm; rw [<- he.get m] at hm; exact hm⟩⟩
   ·obtain ⟨e,h4,h5,h6⟩:=hg e' dR; exact ⟨e,by simp [h4],h5,h6⟩) (a0d hu h1) k3 k2 h3
  refine ⟨t',⟨o,ho,λ e' dR=>?_,p,t1,k1,h2,m1⟩,m2⟩;obtain ⟨e,h4,h5,h6⟩:=hg e' dR;rw [<- h5];rcases hc e h4 with h|⟨x,hx,hP⟩
  ·exact .inl h
  ·obtain ⟨g1,g2,g3⟩:=h6 x hx
   exact .inr ⟨x,hx,hP.b4e g1 g2 g3 (b1A he)⟩
theorem c2i {i:Nat} {o:Oper} (ho:ops[i]?=some o) {post:List Nat}:∀ {pre:List Nat} {acc:List (Nat×St)} {s s':St},X5 (rem ops (pre++i::post))->(∀ j∈pre,(M i).testBit j=false/\∀ x,ops[j]?=some x->indep ops x o=true)->uniq s.fr->T6 s (rem ops pre) ->
  a3d E ops M acc (pre++i::post) s s' ->
  ∃ p s1 s2,K5 E ops o s=some (p,s1)/\p/\a3d E ops M acc (pre++post) s1 s2/\M7 s2 s'/\∀ e∈acc,(M i).testBit e.1=true\/∃ x,ops[e.1]?=some x/\a3f ops x e.2 (l5 E x e.2) o (l5 E o s)
 | [],acc,s,s',_,_,hu,_,⟨o',gl,hc,p,s1,h1,h2,h3⟩=>by
  rw [ho] at gl; cases gl;obtain ⟨t',m1,m2⟩:=a5d (acc:=(i,s)::acc) (cQ:=acc) (λ e he=>⟨e,by simp [he],rfl,λ x _=>⟨λ _ _=>rfl,rfl,λ _ _ _ _ h=>h⟩⟩) (a0d hu h1) (M7.refl s1) (a0d hu h1) h3;exact ⟨p,s1,t',h1,h2,m1,m2.symm,hc⟩
 | j::pre,acc,s,s',fH,dQ,hu,df,⟨x,hx,hc,p,s1,h1,h2,h3⟩=>by
  have kW:=a0d hu h1;have er:rem ops (j::pre++i::post)=x::rem ops (pre++i::post):=a5j hx;rw [er] at fH;rw [a5j hx] at df;have lU:∀ y∈rem ops pre,∀ d,y.dst=some d->x.dst≠some d:=λ y hy d qf fp=>fH.1 d fp y (by rw [b0I]; exact List.mem_append_left _ hy) qf;have oI:T6 s1 (rem ops pre):=T6.step hu (λ y hy=>df y (by simp [hy])) lU h1;obtain ⟨q,sa,sb,k1,k2,k3,k4,k5⟩:=c2i ho (pre:=pre) (acc:=(j,s)::acc) fH.2 (λ y hy=>dQ y (by simp [hy])) kW oI h3;obtain ⟨cE,iM⟩:=dQ j (by simp);have hP:a3f ops x s (l5 E x s) o (l5 E o s1):=by
   rcases k5 (j,s) (by simp) with h|⟨x',dP,hP⟩
   ·rw [cE] at h; cases h
   ·have dP:ops[j]?=some x':=dP
    rw [hx] at dP; cases dP; exact hP
  obtain ⟨s1',s2',m1,m2,m3,m4,m5,m6,m7,m8,m9⟩:=swap (iM x hx) hu (λ d hd=>df x (by simp) d hd) h1 k1 hP;obtain ⟨t',n1,n2⟩:=a5d (acc:=(j,s)::acc) (cQ:=(j,s1')::acc) (λ e' dR=>by
   rcases List.mem_cons.1 dR with rfl|dR
   ·refine ⟨(j,s),by simp,rfl,λ y hy=>?_⟩
    have hy:ops[j]?=some y:=hy;rw [hx] at hy; cases hy;exact ⟨m8,m7,m9⟩
   ·exact ⟨e',by simp [dR],rfl,λ y _=>⟨λ _ _=>rfl,rfl,λ _ _ _ _ h=>h⟩⟩) (a0d kW k1) m5.symm m4 k3
  refine ⟨q,s1',t',m1,k2,⟨x,hx,λ e he=>?_,p,s2',m2,h2,n1⟩,n2.symm.trans k4,λ e he=>?_⟩
  ·rcases hc e he with h|⟨y,hy,hP⟩
   ·exact .inl h
   ·exact .inr ⟨y,hy,by rw [m7]; exact hP⟩
  ·rcases k5 e (by simp [he]) with h|⟨y,hy,hP⟩
   ·exact .inl h
   ·exact .inr ⟨y,hy,by rw [m6]; exact hP⟩
end
end Go.Ex
namespace Go.Ex
section
variable {E:Env} {ops:Array Oper} {B:D4} {S:Nat->Prop} {ι:Ix} {s:St} {a:Act} {w:World}
def idxs (n:Nat) (listed:Array Bool):List Nat:=(List.range n).filter λ i=>!listed.getD i true
theorem a3A {n i:Nat} {listed:Array Bool}:i∈idxs n listed↔i<n/\listed.getD i true=false:=by
 simp [idxs]
theorem a71 (n:Nat) (listed:Array Bool):(idxs n listed).Pairwise (·<·):=List.Pairwise.filter _ List.pairwise_lt_range
theorem c3E {n i:Nat} {listed:Array Bool} (hs:listed.size=n) (hi:i<n):idxs n (listed.setIfInBounds i true)=(idxs n listed).filter (λ k=>!(k == i)):=by
 unfold idxs;rw [List.filter_filter];refine List.filter_congr (λ k hk=>?_);by_cases e:k=i
 ·subst e
  have:k<listed.size:=by omega
  simp [this]
 ·have:(listed.setIfInBounds i true).getD k true=listed.getD k true:=getD_set_ne true (Ne.symm e)
  rw [this];simp [e]
theorem b9d {n i:Nat} {listed:Array Bool} (hi:i∈idxs n listed):∃ pre post,idxs n listed=pre++i::post/\(∀ j∈pre,j<i)/\(idxs n listed).filter (λ k=>!(k == i))=pre++post:=by
 obtain ⟨pre,post,e⟩:=List.append_of_mem hi;have hp:=a71 n listed;rw [e,List.pairwise_append] at hp;obtain ⟨h1,h2,h3⟩:=hp;have bo:∀ j∈pre,j<i:=λ j hj=>h3 j hj i (by simp);have eH:∀ j∈post,i<j:=λ j hj=>(List.pairwise_cons.1 h2).1 j hj;refine ⟨pre,post,e,bo,?_⟩;rw [e,List.filter_append,List.filter_cons];simp only [beq_self_eq_true,Bool.not_true,Bool.false_eq_true,if_false];rw [List.filter_eq_self.2 (λ j hj=>by have:=bo j hj; simp; omega),List.filter_eq_self.2 (λ j hj=>by have:=eH j hj; simp; omega)]
theorem c1U (h:a3E ops=true):∀ i o,ops[i]?=some o->(∀ e∈o.after,Region.binds .any e=true->e.on<i) /\
  (∀ j,j<ops.size->((P7 ops.toList []).getD i 0).testBit j=true->∃ e∈o.after,Region.binds .any e=true/\(e.on=j\/((P7 ops.toList []).getD e.on 0).testBit j=true)) /\
  (∀ j x,j<i->ops[j]?=some x->((P7 ops.toList []).getD i 0).testBit j=true\/indep ops x o=true):=by
 intro i o ho;have hi:i<ops.toList.length:=by
  have:=(Array.getElem?_eq_some_iff.1 ho).1;simpa using this
 simp only [a3E,List.all_eq_true,List.mem_range] at h;have h1:=h i hi;have hl:ops.toList[i]?=some o:=by simpa using ho
 rw [hl] at h1;simp only [Bool.and_eq_true,List.all_eq_true,List.mem_range] at h1;obtain ⟨⟨k1,k2⟩,k3⟩:=h1;refine ⟨?_,?_,?_⟩
 ·intro e he hb
  simp only [c48,List.all_eq_true] at k1;have:=k1 e (by simpa using he);rw [hb] at this;simpa [Nat.blt_eq] using this
 ·intro j hj hm
  simp only [c1u,List.all_eq_true,List.mem_range] at k2;have:=k2 j (by simpa using hj);rw [hm] at this;simp only [Bool.not_true,Bool.false_or,List.any_eq_true,Bool.and_eq_true,Bool.or_eq_true] at this;obtain ⟨e,he,hb,h3⟩:=this;exact ⟨e,by simpa using he,hb,h3.imp Nat.eq_of_beq_eq_true id⟩
 ·intro j x hj hx
  have:=k3 j hj;have dP:ops.toList[j]?=some x:=by simpa using hx
  rw [dP] at this;simpa using this
def a41 (ops:Array Oper) (listed:Array Bool):Prop:=∀ k o,ops[k]?=some o->listed.getD k true=true->∀ e∈o.after,Region.binds .any e=true->listed.getD e.on false=true
theorem b1S {listed:Array Bool} {k:Nat} (h:listed.getD k false=true):listed.getD k true=true:=by
 rcases Nat.lt_or_ge k listed.size with h'|h'
 ·simp [h'] at h ⊢; exact h
 ·simp [Array.getElem?_eq_none h'] at h
theorem c0j {M:Nat->Nat} (hM:∀ i o,ops[i]?=some o->(∀ e∈o.after,Region.binds .any e=true->e.on<i)/\(∀ j,j<ops.size->(M i).testBit j=true->∃ e∈o.after,Region.binds .any e=true/\(e.on=j\/(M e.on).testBit j=true)))
  {listed:Array Bool} (hc:a41 ops listed):∀ (i:Nat) (o:Oper),ops[i]?=some o->(∀ e∈o.after,Region.binds .any e=true->listed.getD e.on false=true)->∀ j,j<ops.size->(M i).testBit j=true->listed.getD j false=true:=by
 intro i
 induction i using Nat.strongRecOn with
 | _ i ih =>
  intro o ho hp j hj hm;obtain ⟨e,he,hb,h3⟩:=(hM i o ho).2 j hj hm;have bo:=(hM i o ho).1 e he hb;rcases h3 with rfl|h3
  ·exact hp e he hb
  ·have hi:i<ops.size:=(Array.getElem?_eq_some_iff.1 ho).1
   have mK:ops[e.on]?=some (ops[e.on]'(by omega)):=Array.getElem?_eq_getElem (by omega);exact ih e.on bo _ mK (hc e.on _ mK (b1S (hp e he hb))) j hj h3
theorem a79 (hE:C2 E B) (hn:B.n=E.nt) (hd:a3E ops=true) {Q:Exit->Act->World->Prop} {s0:St} (hQ:∀ S ι a w,RS B S ι s0 a w->Q .normal a w) :
  ∀ (fuel:Nat) (listed:Array Bool) (S:Nat->Prop) (ι:Ix) (s s':St) (a:Act) (w:World),listed.size=ops.size->(idxs ops.size listed).length=fuel->a41 ops listed->X5 (rem ops (idxs ops.size listed))->uniq s.fr->T6 s (rem ops (nl ops (idxs ops.size listed))) ->
   a3d E ops (λ i=>(P7 ops.toList []).getD i 0) [] (idxs ops.size listed) s s'->M7 s' s0->RS B S ι s a w->wpAny E.P .any ops Q fuel listed a w:=by
 have hM:=c1U hd;have c1h:∀ {S:Nat->Prop} {ι:Ix} {s t:St} {a:Act} {w:World},M7 s t->RS B S ι s a w->RS B S ι t a w:=by
  intro S ι s t a w he h;have cY:∀ {v:AV} {vs:List Value},VX w.heap S ι s.hp v vs->VX w.heap S ι t.hp v vs:=by
   intro v vs hv;exact VX.other (λ i _=>(he.2 i).symm) (λ i _=>E0.refl ι i) hv
  exact ⟨⟨h.hs.os,h.hs.tape,h.hs.out,h.hs.size,h.hs.frame,h.hs.slt,h.hs.s0,h.hs.s1,λ i e hi=>h.hs.ob i e ((he.2 i).trans hi),λ i e hi=>h.hs.bl i e ((he.2 i).trans hi),λ i j ei ej hi hj=>h.hs.dj i j ei ej ((he.2 i).trans hi) ((he.2 j).trans hj),λ q hq=>by obtain ⟨r1,⟨e,r2⟩,r3⟩:=h.hs.pin q hq; exact ⟨r1,⟨e,(he.2 q.1).symm.trans r2⟩,r3⟩⟩,h.dfr,h.sz,
   λ m v hv=>cY (h.fr m v ((he.1 m).trans hv))⟩
 intro fuel
 induction fuel with
 | zero =>
  intro listed S ι s s' a w bn hlen df fH hu mM aW he cR;have fU:idxs ops.size listed=[]:=List.length_eq_zero_iff.1 hlen;rw [fU] at aW;have nm:s=s':=aW;subst nm;refine ⟨?_,hQ S ι a w (c1h he cR)⟩;rw [List.eq_nil_iff_forall_not_mem];intro i hi;obtain ⟨h1,o,h2,_⟩:=mem_ready.1 hi;have:i∈idxs ops.size listed:=a3A.2 ⟨(Array.getElem?_eq_some_iff.1 h2).1,h1⟩;rw [fU] at this;cases this
 | succ fuel ih =>
  intro listed S ι s s' a w bn hlen df fH hu mM aW he cR;refine ⟨λ hr=>?_,λ i hi=>?_⟩
  ·exfalso
   cases oh:idxs ops.size listed with
   | nil=>rw [oh] at hlen; cases hlen
   | cons i l =>
    have bG:i∈idxs ops.size listed:=by rw [oh]; simp
    obtain ⟨h1,h2⟩:=a3A.1 bG;have ho:ops[i]?=some ops[i]:=Array.getElem?_eq_getElem h1;have:i∈Region.ready .any ops listed:=by
     refine mem_ready.2 ⟨h2,ops[i],ho,λ e he hb=>?_⟩;have bo:=(hM i _ ho).1 e he hb;cases hle:listed.getD e.on true with
     | true =>
      have:e.on<listed.size:=by omega
      simp [this] at hle ⊢; exact hle
     | false =>
      exfalso;have lG:e.on∈idxs ops.size listed:=a3A.2 ⟨by omega,hle⟩;have hs:=a71 ops.size listed;rw [oh] at hs lG;rcases List.mem_cons.1 lG with e1|e1
      ·omega
      ·have:=(List.pairwise_cons.1 hs).1 _ e1; omega
    rw [hr] at this;cases this
  ·obtain ⟨h1,o,ho,bm⟩:=mem_ready.1 hi
   have dQ:i<ops.size:=(Array.getElem?_eq_some_iff.1 ho).1;have bG:i∈idxs ops.size listed:=a3A.2 ⟨dQ,h1⟩;obtain ⟨pre,post,e1,bo,e2⟩:=b9d bG;have er:rem ops (pre++i::post)=rem ops pre++o::rem ops post:=by simp [rem,List.filterMap_append,ho]
   have er2:rem ops (pre++post)=rem ops pre++rem ops post:=by simp [rem,List.filterMap_append]
   rw [e1] at fH mM aW;have iM:∀ j∈pre,((P7 ops.toList []).getD i 0).testBit j=false/\∀ x,ops[j]?=some x->indep ops x o=true:=by
    intro j hj;have gm:((P7 ops.toList []).getD i 0).testBit j=false:=by
     cases hm:((P7 ops.toList []).getD i 0).testBit j with
     | false=>rfl
     | true =>
      exfalso;have kO:=c0j (M:=λ i=>(P7 ops.toList []).getD i 0) (λ i o ho=>⟨(hM i o ho).1,(hM i o ho).2.1⟩) df i o ho bm j (by have:=bo j hj; omega) hm;have:j∈idxs ops.size listed:=by rw [e1]; simp [hj]
      have:=(a3A.1 this).2;rw [b1S kO] at this;cases this
    refine ⟨gm,λ x hx=>?_⟩;rcases (hM i o ho).2.2 j x (bo j hj) hx with hm|hm
    ·rw [gm] at hm; cases hm
    ·exact hm
   have oJ:T6 s (rem ops (nl ops (pre++post))):=mM.sub (λ y hy=>by
    rw [c1o,b0I] at hy ⊢;rcases List.mem_append.1 hy with hy|hy
    ·exact List.mem_append_left _ hy
    ·refine List.mem_append_right _ ?_
     obtain ⟨j,j1,j2⟩:=List.mem_filterMap.1 hy;obtain ⟨j3,j4⟩:=List.mem_filter.1 j1;exact List.mem_filterMap.2 ⟨j,List.mem_filter.2 ⟨List.mem_cons_of_mem _ j3,j4⟩,j2⟩)
   obtain ⟨p,s1,s2,k1,k2,k3,k4,_⟩:=c2i ho fH iM hu (mM.sub (λ y hy=>by
    rw [c1o,b0I,c6Y dQ bo (λ j hj=>(iM j hj).1)]; exact List.mem_append_left _ hy)) aW
   rw [er] at fH;have aO:=(c3E bn dQ).trans e2;have mb:X5 (rem ops pre++rem ops post)/\∀ x∈rem ops pre++rem ops post,∀ d,x.dst=some d->o.dst≠some d:=by
    have:∀ {A C:List Oper},X5 (A++o::C)->X5 (A++C)/\∀ x∈A++C,∀ d,x.dst=some d->o.dst≠some d:=by
     intro A
     induction A with
     | nil=>intro C h; exact ⟨h.2,λ x hx d fp iD=>h.1 d iD x hx fp⟩
     | cons y A ih =>
      intro C h;obtain ⟨m1,m2⟩:=ih h.2;refine ⟨⟨λ d hd x hx=>h.1 d hd x (by simp at hx ⊢; rcases hx with hx|hx<;>simp [hx]),m1⟩,λ x hx d fp iD=>?_⟩;rcases List.mem_cons.1 hx with rfl|hx
      ·exact h.1 d fp o (by simp) iD
      ·exact m2 x hx d fp iD
    exact this fH
   have fq:=a7V hE hn cR (ops:=ops) o (k:=λ x=>Tree.cut .skip [] x) (L:=λ _ _ x=>x=s1) (Rt:=λ _=>True) (b3Y.2 ⟨p,s1,k1,k2,rfl⟩)
    (next:=wpAny E.P .any ops Q fuel (listed.setIfInBounds i true)) (Q:=Q) (λ S' ι' x a' w' hx mZ=>by
     have mZ:x=s1:=mZ;subst mZ;refine ih (listed.setIfInBounds i true) S' ι' x s2 a' w' (by simp [bn]) ?_ ?_ ?_ (a0d hu k1) ?_ ?_ (k4.trans he) hx
     ·rw [aO]; rw [e1] at hlen; simp at hlen ⊢; omega
     ·intro k y hy hk e' dR cX
      by_cases jP:k=i
      ·subst jP
       rw [ho] at hy; cases hy;exact getD_set_true (bm e' dR cX)
      ·rw [getD_set_ne true (Ne.symm jP)] at hk
       exact getD_set_true (df k y hy hk e' dR cX)
     ·rw [aO,er2]; exact mb.1
     ·rw [aO]
      exact T6.step hu oJ (λ y hy=>mb.2 y (by rw [<- er2]; exact c6X y hy)) k1
     ·rw [aO]; exact k3)
   unfold wpOp;rw [ho];simp only
   split
   ·rename_i hw; rw [if_pos hw] at fq; exact .inl fq
   ·rename_i hw; rw [if_neg hw] at fq; exact fq
theorem filterMap_some {α β:Type _} {f:α->Option β} {g:α->β}:∀ {l:List α},(∀ i∈l,f i=some (g i))->l.filterMap f=l.map g
 | [],_=>rfl
 | x::l,h=>by rw [List.filterMap_cons,h x (by simp)]; simp [filterMap_some (l:=l) (λ i hi=>h i (by simp [hi]))]
theorem b7j:rem ops (idxs ops.size (Array.replicate ops.size false))=ops.toList:=by
 have:idxs ops.size (Array.replicate ops.size false)=List.range ops.size:=by
  unfold idxs;refine List.filter_eq_self.2 (λ i hi=>?_);have:i<ops.size:=List.mem_range.1 hi;simp [this]
 rw [this];unfold rem;apply List.ext_getElem?;intro i;have e:(List.range ops.size).filterMap (λ i=>ops[i]?)=(List.range ops.size).map (λ i=>ops.getD i default):=filterMap_some (λ i hi=>by
  have:i<ops.size:=List.mem_range.1 hi;simp [this])
 rw [e];by_cases hi:i<ops.size
 ·simp [hi]
 ·simp [hi]
theorem a5S:∀ {l:List Oper},a2E (a2R l)=true->X5 l
 | [],_=>trivial
 | o::l,h=>by
  cases hd:o.dst with
  | none =>
   have:a2R (o::l)=a2R l:=by simp [a2R,hd]
   rw [this] at h;exact ⟨λ d dz=>(by rw [hd] at dz; cases dz),a5S h⟩
  | some d =>
   have:a2R (o::l)=d::a2R l:=by simp [a2R,hd]
   rw [this] at h;simp only [a2E,Bool.and_eq_true,Bool.not_eq_true'] at h;refine ⟨λ d' dz x hx fp=>?_,a5S h.2⟩;rw [hd] at dz;cases dz;have:d∈a2R l:=List.mem_filterMap.2 ⟨x,hx,fp⟩;have h1:=h.1;simp [this] at h1
theorem a5w:idxs ops.size (Array.replicate ops.size false)=List.range ops.size:=by
 unfold idxs;refine List.filter_eq_self.2 (λ i hi=>?_);have:i<ops.size:=List.mem_range.1 hi;simp [this]
theorem c1S {o:Oper} {l:List Nat} (ho:o∈rem ops (nl ops l)) {d:Nat} (hd:o.dst=some d):d∈a2R ops.toList.dropLast:=by
 obtain ⟨j,j1,j2⟩:=List.mem_filterMap.1 ho;have j4:j+1<ops.size:=b6t (by simpa using (List.mem_filter.1 j1).2);refine List.mem_filterMap.2 ⟨o,List.mem_of_getElem? (i:=j) ?_,hd⟩;rw [List.getElem?_dropLast,if_pos (by simp; omega)];simpa using j2
theorem b4q (hE:C2 E B) (hn:B.n=E.nt) {id:Nat} (hd:(a3E ops && b0X ops s && E.P.follows .mixedOrders)=true) {Q:Exit->Act->World->Prop} {s':St} (hr:a3d E ops (λ i=>(P7 ops.toList []).getD i 0) [] (List.range' 0 ops.toList.length) s s')
  (hQ:∀ S ι a w,RS B S ι s' a w->Q .normal a w) (h:RS B S ι s a w):(Code.region id ops true).wp E.P Q a w:=by
 simp only [Bool.and_eq_true,b0X,List.all_eq_true] at hd;obtain ⟨⟨h1,⟨h2,h3⟩,h4⟩,h5⟩:=hd;refine wp_region_any h5 ?_;have hlen:(idxs ops.size (Array.replicate ops.size false)).length=ops.size:=by
  rw [a5w]; simp
 refine a79 hE hn h1 hQ ops.size _ S ι s s' a w.drew (by simp) hlen ?_ ?_ (s7 h2) ?_ ?_ (M7.refl _) (h.W5 C9.nil y9.drew)
 ·intro k o hk hl
  have:k<ops.size:=(Array.getElem?_eq_some_iff.1 hk).1;simp [this] at hl
 ·rw [b7j]; exact a5S h3
 ·intro o ho d hd
  exact h4 d (c1S ho hd)
 ·rw [a5w,List.range_eq_range']
  simpa using hr
theorem b2Y (hE:C2 E B) (hn:B.n=E.nt) {id:Nat} (hd:(a3E ops && a8S ops s && E.P.follows .mixedOrders)=true) {Q:Exit->Act->World->Prop} {s':St} (hr:a3d E ops (λ i=>(P7 ops.toList []).getD i 0) [] (List.range' 0 ops.toList.length) s s')
  (hQ:∀ S ι a w,RS B S ι s' a w->Q .normal a w) (h:RS B S ι s a w):(Code.region id ops true).wp E.P Q a w:=by
 simp only [Bool.and_eq_true,a8S,List.all_eq_true,List.mem_range] at hd;obtain ⟨⟨h1,⟨h2,h3⟩,h4⟩,h5⟩:=hd;refine wp_region_any h5 ?_;have hlen:(idxs ops.size (Array.replicate ops.size false)).length=ops.size:=by
  rw [a5w]; simp
 refine a79 hE hn h1 hQ ops.size _ S ι s s' a w.drew (by simp) hlen ?_ ?_ (s7 h2) ?_ ?_ (M7.refl _) (h.W5 C9.nil y9.drew)
 ·intro k o hk hl
  have:k<ops.size:=(Array.getElem?_eq_some_iff.1 hk).1;simp [this] at hl
 ·rw [b7j]; exact a5S h3
 ·intro o ho d hd
  obtain ⟨j,j1,j2⟩:=List.mem_filterMap.1 ho;have j3:=(List.mem_filter.1 j1).2;have hj:j<ops.size:=(Array.getElem?_eq_some_iff.1 j2).1;have:=h4 j hj;simp only [Bool.not_eq_true'] at j3;simp only [j2,hd,j3,Bool.false_or] at this;exact this
 ·rw [a5w,List.range_eq_range']
  simpa using hr
theorem a6v {M:List Nat} {k:St->Tree (E.rs++F4 E.ps)} {L:Code->List Item->St->Prop} {R:DL (E.rs++F4 E.ps)->Prop}:∀ {l:List Oper} {n:Nat} {s:St} {acc:List Met} {cQ:List (Nat×St)},ops.toList.drop n=l ->
  (∀ e∈cQ,∃ m∈acc,m.i=e.1/\ops[e.1]?=some m.o/\m.s=e.2/\m.T=l5 E m.o e.2)->(b3R E ops M n l s acc k).holds L R ->
  ∃ s',a3d E ops (λ i=>M.getD i 0) cQ (List.range' n l.length) s s'/\(k s').holds L R
 | [],n,s,acc,cQ,_,_,h=>⟨s,rfl,h⟩
 | o::l,n,s,acc,cQ,hl,ha,h=>by
  obtain ⟨ho,eR,_⟩:=c1T hl;simp only [b3R] at h;split at h
  ·exact h.elim
  ·rename_i bL
   obtain ⟨p,s1,h1,h2,h3⟩:=b3Y.1 h;obtain ⟨s',k1,k2⟩:=a6v (cQ:=(n,s)::cQ) eR (λ e he=>by
    rcases List.mem_cons.1 he with rfl|he
    ·exact ⟨_,List.mem_cons_self ..,rfl,ho,rfl,rfl⟩
    ·obtain ⟨m,hm,r⟩:=ha e he; exact ⟨m,List.mem_cons_of_mem _ hm,r⟩) h3
   refine ⟨s',⟨o,ho,λ e he=>?_,p,s1,h1,h2,k1⟩,k2⟩;obtain ⟨m,hm,m1,m2,m3,m4⟩:=ha e he;have:=(List.all_eq_true.1 bL) m hm;simp only [Bool.or_eq_true] at this;rcases this with this|this
   ·exact .inl (by rw [<- m1]; exact this)
   ·have hp:=c5v this
    rw [m3,m4] at hp;exact .inr ⟨m.o,m2,hp⟩
end
end Go.Ex
