import Derived.Test.YtijlnmgondibnaaGreatDoorExK6
import Derived.Orders
set_option linter.unusedVariables false
set_option linter.unusedSimpArgs false
set_option linter.unusedSectionVars false
namespace Go.Ex
section
variable {E:Env} {s t:St}
theorem Jn {o:Oper} {i:Nat} (h:i∈j9 E o s):∃ x∈o.op.operands.toList,(s.ev x).i7 i=true:=by
 have parts:∀ {T:TypeId} {ps:Array (Nat×Operand)},i∈(s.J4 (ps.toList.map (·.2))).G6->∃ x∈ps.toList.map (·.2),(s.ev x).i7 i=true:=by
  intro T ps h;obtain ⟨x,hx,hm⟩:=Z0 (I1.1 h);exact ⟨x,by simpa using hx,hm⟩
 unfold j9 at h;cases ho:o.op with
 | store T a x =>
  rw [ho] at h;simp only [List.mem_append,I1] at h;rcases h with h|h
  ·exact ⟨a,by simp [Op.operands],h⟩
  ·exact ⟨x,by simp [Op.operands],h⟩
 | box T x=>rw [ho] at h; exact ⟨x,by simp [Op.operands],I1.1 h⟩
 | mapUpdate T m x y=>rw [ho] at h; exact ⟨m,by simp [Op.operands],I1.1 h⟩
 | build T ps=>rw [ho] at h; simp only [Op.operands]; exact parts (T:=T) h
 | buildSlice T n ps=>rw [ho] at h; simp only [Op.operands]; exact parts (T:=T) h
 | call c =>
  rw [ho] at h;have cy:∀ x∈c.args.toList,x∈(Op.call c).operands.toList:=λ x hx=>by simp only [Op.operands,Call.operands]; simp at hx ⊢; first|exact .inr hx|exact .inl hx
  simp only at h;split at h
  ·rename_i f hc
   split at h
   ·rename_i g caps hg
    split at h
    ·split at h
     ·cases h
     ·rcases Dc (I1.1 h) with h|h
      ·obtain ⟨x,hx,hm⟩:=Z0 h
       exact ⟨x,cy x hx,hm⟩
      ·exact ⟨f,by simp [Op.operands,Call.operands,hc],by rw [hg]; exact h⟩
    ·cases h
   ·split at h
    ·split at h
     ·cases h
     ·rcases Dc (I1.1 h) with h|h
      ·obtain ⟨x,hx,hm⟩:=Z0 h
       exact ⟨x,cy x hx,hm⟩
      ·cases h
    ·cases h
   ·split at h
    ·split at h
     ·cases h
     ·rcases Dc (I1.1 h) with h|h
      ·obtain ⟨x,hx,hm⟩:=Z0 h
       exact ⟨x,cy x hx,hm⟩
      ·cases h
    ·cases h
   ·cases h
  ·obtain ⟨x,hx,hm⟩:=Z0 (I1.1 h)
   exact ⟨x,cy x hx,hm⟩
  ·obtain ⟨x,hx,hm⟩:=Z0 (I1.1 h)
   exact ⟨x,cy x hx,hm⟩
  ·obtain ⟨x,hx,hm⟩:=Z0 (I1.1 h)
   exact ⟨x,cy x hx,hm⟩
  ·cases h
 | _=>rw [ho] at h; cases h
theorem Ip {o:Oper} (h:∀ x∈o.op.operands.toList,t.ev x=s.ev x):j9 E o t=j9 E o s:=by
 unfold j9;cases ho:o.op with
 | store T a x=>rw [ho] at h; simp only [h a (by simp [Op.operands]),h x (by simp [Op.operands])]
 | box T x=>rw [ho] at h; simp only [h x (by simp [Op.operands])]
 | mapUpdate T m x y=>rw [ho] at h; simp only [h m (by simp [Op.operands])]
 | build T ps =>
  rw [ho] at h;simp only;rw [zj (s:=s) (t:=t) (λ x hx=>h x (by simp only [Op.operands]; simpa using hx))]
 | buildSlice T n ps =>
  rw [ho] at h;simp only;rw [zj (s:=s) (t:=t) (λ x hx=>h x (by simp only [Op.operands]; simpa using hx))]
 | call c =>
  rw [ho] at h;have cy:∀ x∈c.args.toList,x∈(Op.call c).operands.toList:=λ x hx=>by simp only [Op.operands,Call.operands]; simp at hx ⊢; first|exact .inr hx|exact .inl hx
  have he:=zj (s:=s) (t:=t) (λ x hx=>h x (cy x hx));simp only [he]
  split
  ·rename_i f hc
   rw [h f (by simp [Op.operands,Call.operands,hc])]
  ·rfl
  ·rfl
  ·rfl
  ·rfl
 | _=>rfl
def D9 (E:Env) (o:Oper) (s:St) (p:Prop) (v:AV):Prop :=
 ∃ ids f h,Trim (j9 E o s) f/\R3 s ids/\(∀ n∈ids,n % 1000=(o.dst.getD 0) % 1000) /\
  (∀ i,v.i7 i=true->(∃ x∈o.op.operands.toList,(s.ev x).i7 i=true)\/i∈ids) /\
  ∀ t,uniq t.fr->X6 s t o.op.operands.toList->R3 t ids->∃ t1,(l7 E o t).get=some (p,v,t1)/\uniq t1.fr/\KD t t1 (j9 E o s) ids f h
theorem zD {o:Oper} (ha:X6 s t o.op.operands.toList) {i:Nat} (hi:i∈j9 E o s):look i t.hp=look i s.hp:=by
 obtain ⟨x,hx,hm⟩:=Jn hi;exact (ha x hx).2 i hm
theorem D9.ro {o:Oper} {p:Prop} {v:AV} {s1:St} (h:(l7 E o s).get=some (p,v,s1)) (h1:∀ t,X6 s t o.op.operands.toList->l7 E o t=(l7 E o s).wh t) (h2:∀ i,(l7 E o s).av.i7 i=true->∃ x∈o.op.operands.toList,(s.ev x).i7 i=true):D9 E o s p v:=by
 refine ⟨[],λ u=>u,λ i=>look i s.hp,Trim.id _,by simp [R3],by simp,?_,?_⟩
 ·intro i hi
  refine .inl (h2 i ?_);cases hr:l7 E o s<;>rw [hr] at h<;>simp [OR.get] at h
  ·rw [<- h.2.1] at hi; exact hi
  ·rw [<- h.2.1] at hi; exact hi
 ·intro t hu ha _
  refine ⟨t,?_,hu,⟨λ n=>by simp,λ i=>?_⟩⟩
  ·rw [h1 t ha]
   cases hr:l7 E o s<;>rw [hr] at h<;>simp only [OR.get,Option.some.injEq,Prod.mk.injEq] at h
   ·cases h
   ·obtain ⟨rfl,rfl,_⟩:=h; rfl
   ·obtain ⟨rfl,rfl,_⟩:=h; rfl
  ·split
   ·rename_i hi; exact zD ha (by simpa using hi)
   ·rfl
theorem Ov {d:Nat} (hu:uniq t.fr) (h:R3 t [d]):t.fresh d=true:=by
 simp only [St.fresh,Bool.and_eq_true,Option.isNone_iff_eq_none];exact ⟨(h d (by simp)).1,Dy hu (h d (by simp)).2⟩
theorem Pc {d:Nat} (h:s.fresh d=true):R3 s [d]:=by
 obtain ⟨k1,k2⟩:=Du h;intro n hn;simp only [List.mem_cons,List.not_mem_nil,or_false] at hn;subst hn;exact ⟨k1,k2⟩
theorem XY {T g:List Nat} {d:Nat} {e:g9} (hg:∀ i∈g,i∈T) (ha:∀ i∈T,look i t.hp=look i s.hp):KD t ((St.w5 g t).w4 d e) T [d] (xa g) (λ i=>if i=d then some e else if i∈g then none else look i s.hp):=by
 refine ⟨λ n=>By,λ i=>?_⟩;show look i (Ex.put d e (St.w5 g t).hp)=_;rw [n9,I9];by_cases h1:i=d
 ·simp [h1]
 ·by_cases h3:i∈g
  ·have:=hg i h3; simp [h1,h3,this]
  ·by_cases h2:i∈T
   ·simp [h1,h3,h2,ha i h2]
   ·simp [h1,h2,h3]
theorem D9.obj {o:Oper} {p:Prop} {d:Nat} (hd:o.dst=some d) {e:g9} {v:AV} {g:List Nat} (hv:∀ i,v.i7 i=true->i=d) (hf:s.fresh d=true) (hg:∀ i∈g,i∈j9 E o s)
  (h:∀ t,X6 s t o.op.operands.toList->uniq t.fr->t.fresh d=true->(l7 E o t).get=some (p,v,(St.w5 g t).w4 d e)):D9 E o s p v:=by
 refine ⟨[d],xa g,(λ i=>if i=d then some e else if i∈g then none else look i s.hp),(Trim.w5 g).mono hg,Pc hf,by simp [hd],λ i hi=>.inr (by simp [hv i hi]),?_⟩;intro t hu ha hn;exact ⟨_,h t ha hu (Ov hu hn),Bz (g:=g) hu,XY hg (λ i hi=>zD ha hi)⟩
theorem LZ {d:Nat} {g:List Nat} {u:Ty} {x:u.den} {v:AV} {s':St} (hl:s.lay d g u x=.ok v s'):s.fresh d=true/\v=.at_ d []/\s'=(St.w5 g s).w4 d (.own u x)/\(vW g && (g.all λ i=>!pinned i))=true:=by
 unfold St.lay at hl;split at hl
 ·cases hl
 ·rename_i hc
  simp only [Bool.and_eq_true] at hc;split at hl
  ·cases hl; exact ⟨hc.2,rfl,rfl,by simp only [Bool.and_eq_true]; exact hc.1⟩
  ·cases hl
theorem Lz {d:Nat} {g:List Nat} {u:Ty} {x:u.den} (hf:t.fresh d=true) (hg:(vW g && (g.all λ i=>!pinned i))=true):t.lay d g u x=.ok (.at_ d []) ((St.w5 g t).w4 d (.own u x)):=by
 unfold St.lay;have h2:(St.w5 g t).fresh d=true:=by
  simp only [St.fresh,Bool.and_eq_true,Option.isNone_iff_eq_none] at hf ⊢;refine ⟨by rw [I9]; split<;>first|rfl|exact hf.1,Kg hf.2⟩
 simp only [hg,hf,h2,Bool.and_self]
theorem D9.lay {o:Oper} {p:Prop} {v:AV} {s1:St} {d:Nat} (hd:o.dst=some d) {g:List Nat} {u:Ty} {x:u.den} {W:OR->OR} (hW:∀ v s,(W (.ok v s)).get=some (p,v,s)) (hF:∀ y,(W (.fail y)).get=none) (hg:∀ i∈g,i∈j9 E o s)
  (h:(l7 E o s).get=some (p,v,s1)) (h1:∀ t,X6 s t o.op.operands.toList->l7 E o t=W (t.lay d g u x)):D9 E o s p v:=by
 rw [h1 s (.refl _ _)] at h;cases hl:s.lay d g u x with
 | fail y=>rw [hl,hF] at h; cases h
 | E9 q v s'=>exact absurd hl we
 | ok v' s' =>
  rw [hl,hW] at h;cases h;obtain ⟨k1,rfl,rfl,k4⟩:=LZ hl;refine D9.obj hd (e:=.own u x) (g:=g) (λ i hi=>by simpa [AV.i7] using hi) k1 hg (λ t ha hu hf=>?_);rw [h1 t ha,Lz hf k4,hW]
theorem Ay {q p:Prop} {r:OR} {v:AV} {s1:St} (h:(r.f7 q).get=some (p,v,s1)) (hr:∀ q' v' s',r≠.E9 q' v' s'):p=q:=by
 cases r with
 | fail y=>cases h
 | ok v s=>simp only [OR.f7,OR.get,Option.some.injEq,Prod.mk.injEq] at h; exact h.1.symm
 | E9 q' v' s'=>exact absurd rfl (hr q' v' s')
theorem Wz {T:TypeId} {a:AV} (h:Alike s t a):X3 E T a t=(X3 E T a s).wh t:=by
 unfold X3;cases a with
 | ptr i p =>
  simp only [J0 (h i (by simp [AV.i7]))]
  repeat' (first|rfl|split)
 | _=>first|rfl|(dsimp only; split<;>rfl)
theorem YS {T:TypeId} {a:AV} {i:Nat} (h:(X3 E T a s).av.i7 i=true):a.i7 i=true:=by
 unfold X3 at h;cases a with
 | ptr j p =>
  simp only at h
  repeat' (split at h)
  all_goals first|exact h|(cases h; done)
 | _ =>
  simp only at h
  repeat' (split at h)
  all_goals first|exact h|(cases h; done)
theorem Ij {i:Nat}:∀ {n:Nat} {l v:AV},l7.nth n l=some v->v.i7 i=true->l.i7 i=true
 | 0,l,v,h,hv=>by
  cases l<;>simp only [l7.nth] at h<;>first|cases h|skip
  simp [AV.i7,hv]
 | n+1,l,v,h,hv=>by
  cases l<;>simp only [l7.nth] at h<;>first|cases h|skip
  simp [AV.i7,Ij h hv]
theorem Uk (d k:Nat):N3 d k % 1000=d % 1000:=by unfold N3; omega
theorem ME {d j k:Nat} (h:N3 d j=N3 d k):j=k:=by unfold N3 at h; omega
theorem Jq:∀ {ts:List Ty} {x:DL ts} {d j:Nat} {hp:List (Nat×g9)} {l:AV} {cG:List (Nat×g9)},W8 ts x d j hp=some (l,cG) ->
  (∀ i,l.i7 i=true->∃ k,j<=k/\k<j+ts.length/\i=N3 d k) /\
  ∃ h:Nat->Option g9,∀ h2,(∀ k,j<=k->k<j+ts.length->look (N3 d k) h2=none)->∃ fC,W8 ts x d j h2=some (l,fC)/\∀ i,look i fC=(match h i with|some e=>some e|none=>look i h2)/\((h i).isSome->∃ k,j<=k/\k<j+ts.length/\i=N3 d k)
 | [],x,d,j,hp,l,cG,h=>by
  simp only [W8,Option.some.injEq,Prod.mk.injEq] at h;obtain ⟨rfl,rfl⟩:=h;exact ⟨by simp [AV.i7],λ _=>none,λ h2 _=>⟨h2,rfl,λ i=>⟨rfl,by simp⟩⟩⟩
 | u::ts,x,d,j,hp,l,cG,h=>by
  simp only [W8] at h;split at h
  ·rename_i hs
   split at h
   ·rename_i l' fL ew
    cases h;obtain ⟨k1,h,k2⟩:=Jq ew;refine ⟨λ i hi=>?_,h,λ h2 hh=>?_⟩
    ·obtain ⟨k,m1,m2,m3⟩:=k1 i (by simpa [AV.i7] using hi)
     exact ⟨k,by omega,by simp only [List.length_cons]; omega,m3⟩
    ·obtain ⟨fC,e1,e2⟩:=k2 h2 (λ k jt fb=>hh k (by omega) (by simp only [List.length_cons]; omega))
     refine ⟨fC,by simp only [W8,hs,e1],λ i=>⟨(e2 i).1,λ hi=>?_⟩⟩;obtain ⟨k,m1,m2,m3⟩:=(e2 i).2 hi;exact ⟨k,by omega,by simp only [List.length_cons]; omega,m3⟩
   ·cases h
  ·rename_i hs
   split at h
   ·cases h
   ·rename_i dm
    split at h
    ·rename_i l' fL ew
     cases h;obtain ⟨k1,h,k2⟩:=Jq ew;refine ⟨λ i hi=>?_,λ i=>if i=N3 d j then some (vd u x.1 (N3 d j)).1 else h i,λ h2 hh=>?_⟩
     ·simp only [AV.i7,Bool.or_eq_true] at hi
      rcases hi with hi|hi
      ·refine ⟨j,Nat.le_refl _,by simp,?_⟩
       rcases HJ u x.1 (N3 d j) with e|⟨g,_,_,_,e⟩
       ·rw [e] at hi; exact Nat.eq_of_beq_eq_true hi
       ·rw [e] at hi
        cases g with
        | none=>exact Nat.eq_of_beq_eq_true hi
        | some f =>
         have hi:(Nat.beq i (N3 d j) || false)=true:=hi;rw [Bool.or_false] at hi;exact Nat.eq_of_beq_eq_true hi
      ·obtain ⟨k,m1,m2,m3⟩:=k1 i hi
       exact ⟨k,by omega,by simp only [List.length_cons]; omega,m3⟩
     ·have e0:look (N3 d j) h2=none:=hh j (Nat.le_refl _) (by simp)
      obtain ⟨fC,e1,e2⟩:=k2 (put (N3 d j) (vd u x.1 (N3 d j)).1 h2) (λ k jt fb=>by
       rw [n9,if_neg (λ e=>by have:=ME e; omega)];exact hh k (by omega) (by simp only [List.length_cons]; omega))
      refine ⟨fC,by simp only [W8,hs,e0,e1],λ i=>⟨?_,λ hi=>?_⟩⟩
      ·rw [(e2 i).1,n9]
       by_cases he:i=N3 d j
       ·simp only [he,if_true]
        cases sG:h (N3 d j) with
        | none=>rfl
        | some e =>
         exfalso;obtain ⟨k,m1,m2,m3⟩:=(e2 (N3 d j)).2 (by rw [sG]; rfl);have:=ME m3; omega
       ·simp only [if_neg he]
      ·by_cases he:i=N3 d j
       ·exact ⟨j,Nat.le_refl _,by simp,he⟩
       ·simp only [if_neg he] at hi
        obtain ⟨k,m1,m2,m3⟩:=(e2 i).2 hi;exact ⟨k,by omega,by simp only [List.length_cons]; omega,m3⟩
    ·cases h
theorem Jt {d:Nat}:∀ {n:Nat} {fr:List (Nat×AV)},(∀ k,k<n->vB (N3 d k) fr=true)->wV d n fr=true
 | 0,_,_=>rfl
 | n+1,fr,h=>by
  simp only [wV,Bool.and_eq_true];exact ⟨h n (by omega),Jt (λ k hk=>h k (by omega))⟩
theorem Ju {d:Nat}:∀ {n:Nat} {hp:List (Nat×g9)},a49 d n hp=true↔∀ k,k<n->look (N3 d k) hp=none
 | 0,_=>by simp [a49]
 | n+1,hp=>by
  simp only [a49,Bool.and_eq_true,Option.isNone_iff_eq_none,Ju (n:=n)];constructor
  ·rintro ⟨h1,h2⟩ k hk
   by_cases e:k=n
   ·subst e; exact h1
   ·exact h2 k (by omega)
  ·intro h; exact ⟨h n (by omega),λ k hk=>h k (by omega)⟩
theorem WG {i:Nat} {l:AV} (h:l.one.i7 i=true):l.i7 i=true:=by
 unfold AV.one at h;split at h
 ·simp [AV.i7,h]
 ·exact h
theorem xF:∀ {ks:List PK} {y:DL (E0 ks)} {m:List Nat} {s1:St},wr ks y m s=some s1 ->
  (m=[]/\∀ t,wr ks y m t=some t)\/∃ i ow e,m=[i]/\∀ t,wr ks y m t=some ((t.Y1 i ow).w4 i e)
 | [],y,m,s1,h=>by
  cases m with
  | nil=>exact .inl ⟨rfl,λ t=>rfl⟩
  | cons i m=>cases h
 | k::ks,y,m,s1,h=>by
  cases k with
  | rw u =>
   match m,h with
   | [],h=>cases h
   | [i],h =>
    simp only [wr] at h;split at h
    ·rename_i hw
     exact .inr ⟨i,false,.var u y.1,rfl,λ t=>by simp only [wr,hw]⟩
    ·cases h
   | i::j::m,h=>cases h
  | mu u =>
   match m,h with
   | [],h=>cases h
   | [i],h =>
    simp only [wr] at h;split at h
    ·rename_i hw
     exact .inr ⟨i,true,.own (.d0 true u) y.1,rfl,λ t=>by simp only [wr,hw]⟩
    ·cases h
   | i::j::m,h=>cases h
  | v u=>cases m<;>exact xF (ks:=ks) h
  | U3=>cases m<;>exact xF (ks:=ks) h
  | Z9 f n=>cases m<;>exact xF (ks:=ks) h
  | el q=>cases m<;>exact xF (ks:=ks) h
  | rd u=>cases m<;>exact xF (ks:=ks) h
  | C0 f ts=>cases m<;>exact xF (ks:=ks) h
  | own u=>cases m<;>exact xF (ks:=ks) h
end
end Go.Ex
namespace Go.Ex
section
variable {E:Env} {s t:St}
theorem wW {c:Call} {x:Operand} (hx:x∈c.args.toList):x∈(Op.call c).operands.toList:=by
 simp only [Op.operands,Call.operands]; simp at hx ⊢; first|exact .inr hx|exact .inl hx
def gq (m:Nat) (v:AV):AV:=match Nat.beq m I3 with|true=>.any|false=>v
theorem zi {s:St} {m:Nat}:s.ev (.tmp m)=gq m (s.get m):=rfl
theorem DW {s:St} {m i:Nat} (h:(s.ev (.tmp m)).i7 i=true):(s.get m).i7 i=true:=by
 rw [zi] at h;unfold gq at h;split at h
 ·cases h
 ·exact h
theorem yA {s t:St} {m:Nat} (h:t.get m=s.get m):t.ev (.tmp m)=s.ev (.tmp m):=congrArg (gq m) h
theorem Uv {s:St} {m:Nat} {v:AV} (hb:Nat.beq m I3=false) (h:s.get m=v):s.ev (.tmp m)=v:=by
 rw [zi,h]; unfold gq; rw [hb]
theorem Bi {s:St} {m:Nat} {v:AV} (h:s.ev (.tmp m)=v) (hv:v≠.any):s.get m=v:=by
 rw [zi] at h;unfold gq at h;split at h
 ·exact absurd h.symm hv
 ·exact h
theorem Zl {s:St} {m:Nat} {v:AV} (h:s.ev (.tmp m)=v) (hv:v≠.any):Nat.beq m I3=false:=by
 rw [zi] at h;unfold gq at h;split at h
 ·exact absurd h.symm hv
 ·assumption
theorem Ir {o:Oper} {c:Call} (ho:o.op=.call c) {f:Operand} (hc:c.callee=.value f) {W:OR->OR} {π:Prop->Prop} (hW:∀ r,(W r).get=r.get.map (λ x=>(π x.1,x.2.1,x.2.2))) {g:FuncId} {caps fv:AV} (hg:s.ev f=fv) (ec:∀ i,caps.i7 i=true->fv.i7 i=true)
  (he:∀ t,t.ev f=fv->l7 E o t=W (R0 E g ((t.J4 c.args.toList).app caps) o.dst t))
  (hT:j9 E o s=(match look g E.C7 with
    | some c'=>(match c'.ps.any PK.j9 with
     | false=>[]
     | true=>((s.J4 c.args.toList).app caps).G6)
    | none=>[])) {p:Prop} {v:AV} {s1:St} (h:(l7 E o s).get=some (p,v,s1)):D9 E o s p v:=by
 have gg:f∈o.op.operands.toList:=by rw [ho]; simp [Op.operands,Call.operands,hc]
 have cQ:∀ x∈c.args.toList,x∈o.op.operands.toList:=λ x hx=>by rw [ho]; exact wW hx
 rw [he s hg,hW] at h;obtain ⟨q,h,hq⟩:∃ q,(R0 E g ((s.J4 c.args.toList).app caps) o.dst s).get=some (q,v,s1)/\π q=p:=by
  cases hr:(R0 E g ((s.J4 c.args.toList).app caps) o.dst s).get with
  | none=>rw [hr] at h; cases h
  | some x =>
   rw [hr] at h;simp only [Option.map_some,Option.some.injEq,Prod.mk.injEq] at h;exact ⟨x.1,by rw [<- h.2.1,<- h.2.2],h.1⟩
 have aF:∀ i,((s.J4 c.args.toList).app caps).i7 i=true->∃ x∈o.op.operands.toList,(s.ev x).i7 i=true:=by
  intro i hi;rcases Dc hi with hi|hi
  ·obtain ⟨x,hx,hi⟩:=Z0 hi; exact ⟨x,cQ x hx,hi⟩
  ·exact ⟨f,gg,by rw [hg]; exact ec i hi⟩
 generalize qW:(s.J4 c.args.toList).app caps=av at h aF hT;unfold R0 at h;split at h
 ·cases h
 ·rename_i c' dm
  rw [dm] at hT;simp only at hT;split at h
  ·cases h
  ·rename_i x gs m hx
   obtain ⟨iB,iQ⟩:=PJ hx;have iW:∀ i,i∈gs++m->i∈j9 E o s:=by
    intro i hi;rw [hT];cases hp:c'.ps.any PK.j9 with
    | true=>exact I1.2 (iB i hi)
    | false=>obtain ⟨r1,r2⟩:=iQ hp; rw [r1,r2] at hi; cases hi
   split at h
   ·cases h
   ·rename_i bY
    obtain ⟨kS,fm⟩:=(Bool.and_eq_true_iff).1 bY;obtain ⟨fZ,rV⟩:=(Bool.and_eq_true_iff).1 fm;split at h
    ·cases h
    ·rename_i s2 oi
     split at h
     ·cases h
     ·rename_i hm
      split at h
      ·rename_i l hp ph
       simp only [OR.get,Option.some.injEq,Prod.mk.injEq] at h;obtain ⟨rfl,rfl,_⟩:=h;obtain ⟨k3,h3,k4⟩:=Jq ph;simp only [Nat.zero_add,Nat.zero_le,true_and] at k3 k4;have kL:∀ {t:St},R3 t ((List.range c'.rs.length).map (N3 (o.dst.getD 0)))->∀ k,k<c'.rs.length->look (N3 (o.dst.getD 0) k) t.hp=none:=λ hn k hk=>(hn _ (List.mem_map.2 ⟨k,by simpa using hk,rfl⟩)).1;have hw:∃ (f:AV->AV) (h:Nat->Option g9),Trim (j9 E o s) f/\(∀ i,i∉j9 E o s->h i=none)/\∀ t,uniq t.fr->(∀ i∈j9 E o s,look i t.hp=look i s.hp)->∃ t2,wr c'.ps (c'.out x) m (St.w5 gs t)=some t2/\uniq t2.fr/\(∀ n,look n t2.fr=(look n t.fr).map f)/\∀ i,look i t2.hp=if i∈j9 E o s then h i else look i t.hp:=by
        rcases xF oi with ⟨rfl,hw⟩|⟨i0,ow,e,rfl,hw⟩
        ·refine ⟨xa gs,λ i=>if i∈j9 E o s then (if i∈gs then none else look i s.hp) else none,(Trim.w5 gs).mono (λ i hi=>iW i (by simp [hi])),λ i hi=>by simp [hi],λ t hu ha=>⟨_,hw _,Bz hu,λ n=>By,λ i=>?_⟩⟩
         rw [I9];by_cases h1:i∈gs
         ·simp [h1,iW i (by simp [h1])]
         ·by_cases h2:i∈j9 E o s
          ·simp [h1,h2,ha i h2]
          ·simp [h1,h2]
        ·have mL:i0∈j9 E o s:=iW i0 (by simp)
         refine ⟨λ u=>AV.map (AV.wY i0 ow) (xa gs u),λ i=>if i∈j9 E o s then (if i=i0 then some e else if i∈gs then none else look i s.hp) else none,
          Trim.comp (Trim.w5 gs) (Trim.Y1 i0 ow) (λ i hi=>iW i (by simp [hi])) (by simpa using mL),λ i hi=>by simp [hi],λ t hu ha=>⟨_,hw _,Bl (Bz hu),λ n=>?_,λ i=>?_⟩⟩
         ·show look n (mapA _ (St.w5 gs t).fr)=_
          rw [N5,By,Option.map_map]; rfl
         ·show look i (Ex.put i0 e (St.w5 gs t).hp)=_
          rw [n9,I9];by_cases h0:i=i0
          ·subst h0; simp [mL]
          ·by_cases h1:i∈gs
           ·simp [h0,h1,iW i (by simp [h1])]
           ·by_cases h2:i∈j9 E o s
            ·simp [h0,h1,h2,ha i h2]
            ·simp [h0,h1,h2]
       obtain ⟨f0,h0,w1,w2,w3⟩:=hw;refine ⟨(List.range c'.rs.length).map (N3 (o.dst.getD 0)),f0,λ i=>match h3 i with|some e=>some e|none=>h0 i,w1,?_,?_,?_,?_⟩
       ·intro n hn
        obtain ⟨k,hk,rfl⟩:=List.mem_map.1 hn;exact ⟨Ju.1 rV k (by simpa using hk),λ m w hw=>Bt (DZ fZ k (by simpa using hk)) hw⟩
       ·intro n hn
        obtain ⟨k,_,rfl⟩:=List.mem_map.1 hn;exact Uk _ _
       ·intro i hi
        obtain ⟨k,m2,rfl⟩:=k3 i (WG hi);exact .inr (List.mem_map.2 ⟨k,by simpa using m2,rfl⟩)
       ·intro t hu ha hn
        have eO:Alike s t av:=λ i hi=>by obtain ⟨x,hx,hm⟩:=aF i hi; exact (ha x hx).2 i hm
        obtain ⟨t2,e1,e2,e3,e4⟩:=w3 t hu (λ i hi=>zD ha hi);have ld:∀ k,k<c'.rs.length->N3 (o.dst.getD 0) k∉j9 E o s:=by
         intro k hk br;obtain ⟨x,hx,hm⟩:=Jn br;obtain ⟨m',rfl,gw⟩:∃ m',x=.tmp m'/\(s.get m').i7 (N3 (o.dst.getD 0) k)=true:=by
          cases x with
          | tmp m'=>exact ⟨m',rfl,DW hm⟩
          | const v =>
           exfalso;simp only [St.ev] at hm;unfold ofConst at hm;split at hm
           ·split at hm<;>cases hm
           ·cases hm
           ·split at hm<;>cases hm
           ·cases hm
          | global g=>cases hm
          | func f=>cases hm
         simp only [St.get] at gw;cases hl:look m' s.fr with
         | none=>rw [hl] at gw; cases gw
         | some w =>
          rw [hl] at gw;have:=Bt (DZ fZ k hk) hl;simp only [Option.getD_some] at gw;rw [gw] at this; cases this
        have eK:∀ k,k<c'.rs.length->look (N3 (o.dst.getD 0) k) t2.hp=none:=by
         intro k hk;rw [e4,if_neg (ld k hk)];exact kL hn k hk
        obtain ⟨fC,r1,r2⟩:=k4 t2.hp (λ k _ hk=>eK k hk);have gw:wV (o.dst.getD 0) c'.rs.length t2.fr=true:=Jt (λ k hk=>Dy e2 (λ n w hw=>by
         rw [e3] at hw;cases hl:look n t.fr with
         | none=>rw [hl] at hw; cases hw
         | some u =>
          rw [hl] at hw;cases hw;cases pb:(f0 u).i7 (N3 (o.dst.getD 0) k) with
          | false=>rfl
          | true =>
           have:=(hn (N3 (o.dst.getD 0) k) (List.mem_map.2 ⟨k,by simpa using hk,rfl⟩)).2 n u hl;rw [w1.i7 u pb] at this; cases this))
        have kz:wV (o.dst.getD 0) c'.rs.length t.fr=true:=Jt (λ k hk=>Dy hu (hn _ (List.mem_map.2 ⟨k,by simpa using hk,rfl⟩)).2);have oU:a49 (o.dst.getD 0) c'.rs.length t.hp=true:=Ju.2 (λ k hk=>kL hn k hk);have de:(t.J4 c.args.toList).app caps=av:=by
         rw [zj (s:=s) (t:=t) (λ x hx=>(ha x (cQ x hx)).1)]; exact qW
        have sY:R0 E g av o.dst t=.E9 (c'.pre x) l.one { t2 with hp:=fC }:=by
         unfold R0;simp only [dm,LJ (s:=s) (t:=t) eO,hx,kS,kz,oU,Bool.and_self,e1,gw,r1]
        refine ⟨{ t2 with hp:=fC },?_,e2,⟨e3,λ i=>?_⟩⟩
        ·rw [he t ((ha f gg).1.trans hg),hW,de,sY]; simp only [OR.get,Option.map_some,hq]
        ·show look i fC=_
         rw [(r2 i).1,e4];cases hh:h3 i with
         | some e =>
          obtain ⟨k,hk,mJ⟩:=(r2 i).2 (by rw [hh]; rfl);simp only;rw [if_pos (.inr (List.mem_map.2 ⟨k,by simpa using hk,mJ.symm⟩))]
         | none =>
          simp only;by_cases h1:i∈j9 E o s
          ·rw [if_pos h1,if_pos (.inl h1)]
          ·rw [if_neg h1]
           split
           ·rename_i hi
            rcases hi with hi|hi
            ·exact absurd hi h1
            ·obtain ⟨k,hk,rfl⟩:=List.mem_map.1 hi
             rw [kL hn k (by simpa using hk),w2 _ h1]
           ·rfl
      ·cases h
theorem Vr {o:Oper} {c:Call} (ho:o.op=.call c) {f:Operand} (hc:c.callee=.value f) {p:Prop} {v:AV} {s1:St} (h:(l7 E o s).get=some (p,v,s1)):D9 E o s p v:=by
 have key:(∃ g caps,s.ev f=.C0 g caps)\/(∃ g b,s.ev f=.val (.fn g) b)\/∃ g t y,s.ev f=.val (.box false (some g) t) y:=by
  unfold l7 at h;rw [ho] at h;simp only [hc] at h;split at h
  ·exact .inl ⟨_,_,by assumption⟩
  ·exact .inr (.inl ⟨_,_,by assumption⟩)
  ·exact .inr (.inr ⟨_,_,_,by assumption⟩)
  ·cases h
 rcases key with ⟨g,caps,hg⟩|⟨g,b,hg⟩|⟨g,t0,y0,hg⟩
 ·refine Ir ho hc (W:=λ r=>r) (π:=λ q=>q) (g:=g) (caps:=caps) (λ r=>by cases r<;>rfl) hg (λ i hi=>hi) (λ t ht=>?_) ?_ h
  ·unfold l7
   rw [ho];simp only [hc,ht]
  ·unfold j9; rw [ho]; simp only [hc,hg]; rfl
 ·refine Ir ho hc (W:=λ r=>r.xh ((b:Bool)=true)) (π:=λ q=>(b:Bool)=true/\q) (g:=g) (caps:=.nil) (λ r=>by cases r<;>rfl) hg (λ i hi=>by cases hi) (λ t ht=>?_) ?_ h
  ·unfold l7
   rw [ho];simp only [hc,ht]
  ·unfold j9; rw [ho]; simp only [hc,hg]; rfl
 ·refine Ir ho hc (W:=λ r=>r.xh ((y0:Option t0.den).isSome=true)) (π:=λ q=>(y0:Option t0.den).isSome=true/\q) (g:=g) (caps:=.cons (.K2 t0 (Option.getD (y0:Option t0.den) t0.p9)) .nil) (λ r=>by cases r<;>rfl) hg (λ i hi=>by cases hi) (λ t ht=>?_) ?_ h
  ·unfold l7
   rw [ho];simp only [hc,ht]
  ·unfold j9; rw [ho]; simp only [hc,hg]; rfl
end
end Go.Ex
namespace Go.Ex
section
variable {E:Env} {s t:St}
theorem Zz {T:TypeId} {i:Nat} {p:List Step} {x:AV} {q:Prop} {v:AV} {s1:St} (h:(N9 E T i p x s).get=some (q,v,s1)) :
  v=.raw undef/\∃ g ow e,(∀ j∈g,x.i7 j=true)/\∀ t:St,t.obj i=s.obj i->Alike s t x->(N9 E T i p x t).get=some (q,.raw undef,((St.w5 g t).kill i ow p).w4 i e):=by
 unfold N9 at h;split at h
 ·cases h
 ·rename_i e aS
  split at h
  ·cases h
  ·rename_i u y hg
   split at h
   ·cases h
   ·rename_i bD
    have base:∀ t:St,t.obj i=s.obj i->t.obj i=some e:=λ t ht=>ht.trans aS;split at h
    ·split at h
     ·split at h
      ·rename_i r aI
       cases h;refine ⟨rfl,[],e.kd,e.D5 r,by simp,λ t ht _=>?_⟩;unfold N9;simp only [base t ht,hg,bD,aI];rfl
      ·cases h
     ·split at h
      ·rename_i r aI
       cases h;refine ⟨rfl,[],e.kd,e.D5 r,by simp,λ t ht _=>?_⟩;unfold N9;simp only [base t ht,hg,bD,aI];rfl
      ·cases h
     ·cases h
    ·rename_i j q' lo hi
     split at h
     ·split at h
      ·rename_i r aI
       split at h
       ·rename_i bS
        cases h;refine ⟨rfl,[],e.kd,e.D5 r,by simp,λ t ht _=>?_⟩;unfold N9;simp only [base t ht,hg,bD,aI,bS];rfl
       ·cases h
      ·cases h
     ·cases h
    ·rename_i x' oh rl
     split at h
     ·rename_i z g cS
      split at h
      ·rename_i r aI
       split at h
       ·rename_i bS
        cases h;refine ⟨rfl,g,e.kd,e.D5 r,DR cS,λ t ht eO=>?_⟩;have fj:=(yv eO).trans cS;unfold N9;simp only [base t ht,hg,bD];simp only [fj,aI,bS];rfl
       ·cases h
      ·cases h
     ·rename_i cS
      split at h
      ·rename_i j q'
       split at h
       ·rename_i u' y' cR
        split at h
        ·rename_i r aI
         split at h
         ·rename_i bS
          cases h;refine ⟨rfl,[],e.kd,e.D5 r,by simp,λ t ht eO=>?_⟩;have fj:=(yv eO).trans cS;have oM:=(J0 (p:=q') (eO j (by simp [AV.i7]))).trans cR;unfold N9;simp only [base t ht,hg,bD];simp only [fj,oM,aI,bS];rfl
         ·cases h
        ·cases h
       ·cases h
      ·cases h
theorem XH {o:Oper} {T:TypeId} {a x:Operand} (ho:o.op=.store T a x) {p:Prop} {v:AV} {s1:St} (h:(l7 E o s).get=some (p,v,s1)):D9 E o s p v:=by
 have oL:∃ i q,s.ev a=.ptr i q:=by
  unfold l7 at h;rw [ho] at h;simp only at h;split at h
  ·exact ⟨_,_,by assumption⟩
  ·cases h
 obtain ⟨i,q,hp⟩:=oL;have ha:∀ t,t.ev a=.ptr i q->l7 E o t=N9 E T i q (t.ev x) t:=by
  intro t ht;unfold l7;rw [ho];simp only [ht]
 rw [ha s hp] at h;obtain ⟨rfl,g,ow,e,hg,k⟩:=Zz h;have hT:j9 E o s=(s.ev a).G6++(s.ev x).G6:=by unfold j9; rw [ho]
 have qP:i∈j9 E o s:=by rw [hT,hp]; simp [AV.G6]
 have iW:∀ j∈g,j∈j9 E o s:=λ j hj=>by rw [hT]; exact List.mem_append_right _ (I1.2 (hg j hj))
 have qX:a∈o.op.operands.toList:=by rw [ho]; simp [Op.operands]
 have cQ:x∈o.op.operands.toList:=by rw [ho]; simp [Op.operands]
 refine ⟨[],λ u=>AV.kill i ow q (xa g u),λ j=>if j=i then some e else if j∈g then none else look j s.hp,Trim.comp (Trim.w5 g) (Trim.kill i ow q) iW (by simpa using qP),by simp [R3],by simp,by simp [AV.i7],?_⟩;intro t hu du _;have de:=(du x cQ).1;have oR:t.obj i=s.obj i:=(du a qX).2 i (by rw [hp]; simp [AV.i7]);refine ⟨((St.w5 g t).kill i ow q).w4 i e,?_,Bl (Bz hu),⟨λ n=>?_,λ j=>?_⟩⟩
 ·rw [ha t ((du a qX).1.trans hp),de]
  exact k t oR (λ j hj=>(du x cQ).2 j hj)
 ·show look n (mapA _ (St.w5 g t).fr)=_
  rw [N5,By,Option.map_map]; rfl
 ·show look j (Ex.put i e (St.w5 g t).hp)=_
  rw [n9,I9];by_cases h0:j=i
  ·subst h0; simp [qP]
  ·by_cases h1:j∈g
   ·simp [h0,h1,iW j h1]
   ·by_cases h2:j∈j9 E o s
    ·simp [h0,h1,h2,zD du h2]
    ·simp [h0,h1,h2]
theorem Rj {T:TypeId} {x y:AV} {dst:Option Nat} {p:Prop} {v:AV} {s1:St} (h:(vZ E T x y dst s).get=some (p,v,s1)) :
  ∃ d g u l,dst=some d/\(∀ j∈g,x.i7 j=true\/y.i7 j=true)/\∀ t,Alike s t x->Alike s t y->vZ E T x y dst t=(St.lay t d g u l).f7 p:=by
 unfold vZ at h;split at h
 ·rename_i q t0 bts d hT
  split at h
  ·cases h
  ·rename_i tt m g cr
   have ia:=PH cr;have ha:∀ t,Alike s t y->y.uN t t0=some (⟨tt,m⟩,g):=λ t ht=>(Hn ht).trans cr;simp only at h;split at h
   ·split at h
    ·rename_i df
     obtain rfl:=Ay h (λ _ _ _=>we);refine ⟨d,[]++g,.d0 true t0,(([]:List t0.den)++N6 df m),rfl,by simpa using λ j hj=>.inr (ia j hj),λ t _ hy=>?_⟩;unfold vZ;simp only [hT,ha t hy,df,dif_pos]
    ·cases h
   ·split at h
    ·rename_i bD
     split at h
     ·rename_i df
      obtain rfl:=Ay h (λ _ _ _=>we);refine ⟨d,[]++g,.d0 true t0,(([]:List t0.den)++N6 df m),rfl,by simpa using λ j hj=>.inr (ia j hj),λ t _ hy=>?_⟩;unfold vZ;simp only [hT,ha t hy,df,dif_pos,bD]
     ·cases h
    ·cases h
   ·rename_i oh rl
    split at h
    ·rename_i u l f cS
     split at h
     ·rename_i hu
      split at h
      ·rename_i df
       obtain rfl:=Ay h (λ _ _ _=>we);refine ⟨d,f++g,.d0 true t0,(N6 hu l++N6 df m),rfl,?_,λ t hx hy=>?_⟩
       ·intro j hj
        rcases List.mem_append.1 hj with hj|hj
        ·exact .inl (Dw cS j hj)
        ·exact .inr (ia j hj)
       ·have fj:=(Da hx).trans cS
        unfold vZ;simp only [hT,ha t hy];simp only [fj,hu,df,dif_pos]
      ·cases h
     ·cases h
    ·cases h
 ·cases h
theorem Xo {T:TypeId} {x y:AV} {dst:Option Nat} {p:Prop} {v:AV} {s1:St} (h:(Cw E T x y dst s).get=some (p,v,s1)) :
  ∃ d g u l,dst=some d/\(∀ j∈g,x.i7 j=true\/y.i7 j=true)/\∀ t,Alike s t x->Alike s t y->Cw E T x y dst t=(St.lay t d g u l).f7 p:=by
 cases h
theorem Vl {T:TypeId} {x y:AV} {dst:Option Nat} {p:Prop} {v:AV} {s1:St} (h:(wF E T x y dst s).get=some (p,v,s1)) :
  ∃ d g u l,dst=some d/\(∀ j∈g,x.i7 j=true\/y.i7 j=true)/\∀ t,Alike s t x->Alike s t y->wF E T x y dst t=(St.lay t d g u l).f7 p:=by
 have hs:∀ t,Alike s t x->Cm t x=Cm s x:=λ t ht=>by
  unfold Cm
  split
  ·rw [ht _ (by simp [AV.i7])]
  ·rfl
 unfold wF at h;split at h
 ·rename_i hc
  obtain ⟨d,g,u,l,h1,h2,h3⟩:=Xo h;exact ⟨d,g,u,l,h1,h2,λ t hx hy=>by unfold wF; rw [hs t hx,hc]; exact h3 t hx hy⟩
 ·rename_i hc
  obtain ⟨d,g,u,l,h1,h2,h3⟩:=Rj h;exact ⟨d,g,u,l,h1,h2,λ t hx hy=>by unfold wF; rw [hs t hx,hc]; exact h3 t hx hy⟩
theorem Ji {i:Nat} {p:List Step} {lo:Nat} {u:Ty} {m:List u.den} {s1:St} (h:vj s i p lo u m=some s1):∃ ow e',∀ t:St,t.obj i=s.obj i->vj t i p lo u m=some ((t.Y1 i ow).w4 i e'):=by
 unfold vj at h;split at h
 ·rename_i e he
  split at h
  ·rename_i u' l hg
   split at h
   ·rename_i hu
    split at h
    ·rename_i r aI
     split at h
     ·rename_i hc
      refine ⟨e.Y2,e.D5 r,λ t ht=>?_⟩;unfold vj;rw [ht,he];simp only [hg,hu,dif_pos];subst hu;simp only [aI,hc]
     ·cases h
    ·cases h
   ·cases h
  ·cases h
 ·cases h
theorem D9.KJ {o:Oper} {p:Prop} {v:AV} {i:Nat} {ow:Bool} {e':g9} (hi:i∈j9 E o s) (hv:∀ j,v.i7 j=true->∃ x∈o.op.operands.toList,(s.ev x).i7 j=true) (hr:∀ t,X6 s t o.op.operands.toList->(l7 E o t).get=some (p,v,(t.Y1 i ow).w4 i e')):D9 E o s p v:=by
 refine ⟨[],AV.map (AV.wY i ow),λ j=>if j=i then some e' else look j s.hp,(Trim.Y1 i ow).mono (by simpa using hi),by simp [R3],by simp,λ j hj=>.inl (hv j hj),λ t hu ha _=>⟨_,hr t ha,Bl hu,λ n=>?_,λ j=>?_⟩⟩
 ·show look n (mapA _ t.fr)=_
  rw [N5]
 ·show look j (Ex.put i e' t.hp)=_
  rw [n9];by_cases h1:j=i
  ·subst h1; simp [hi]
  ·rw [if_neg h1]
   by_cases h2:j∈j9 E o s
   ·rw [if_pos (.inl h2),if_neg h1]; exact zD ha h2
   ·rw [if_neg (by simp [h2])]
theorem D9.fill {o:Oper} {p:Prop} {v:AV} {i:Nat} {ow:Bool} {e':g9} (hi:i∈j9 E o s) (hv:∀ j,v.i7 j=false) (hr:∀ t,X6 s t o.op.operands.toList->(l7 E o t).get=some (p,v,(t.Y1 i ow).w4 i e')):D9 E o s p v :=
 .KJ hi (λ j hj=>by rw [hv j] at hj; cases hj) hr
theorem YI {o:Oper} {c:Call} (ho:o.op=.call c) (hc:c.callee=.builtin .append) {p:Prop} {v:AV} {s1:St} (h:(l7 E o s).get=some (p,v,s1)):D9 E o s p v:=by
 have cQ:∀ x∈c.args.toList,x∈o.op.operands.toList:=λ x hx=>by rw [ho]; exact wW hx
 have hT:j9 E o s=(s.J4 c.args.toList).G6:=by unfold j9; rw [ho]; simp only [hc]
 have key:(∃ x y T F,(F=vZ E T\/F=wF E T)/\c.args.toList=[x,y]/\(∀ t,t.ev x=s.ev x->t.ev y=s.ev y->l7 E o t=F (t.ev x) (t.ev y) o.dst t))\/(∃ x y T,c.args.toList=[x,y]/\(∀ t,t.ev x=s.ev x->t.ev y=s.ev y->l7 E o t=wa E T (t.ev x) (t.ev y) t))\/(∃ x y T,c.args.toList=[x,y]/\∀ t,l7 E o t=zr E T (t.ev x) (t.ev y) o.dst t):=by
  unfold l7 at h;rw [ho] at h;simp only [hc] at h;split at h
  ·rename_i x y T U aF fG
   split at h
   ·rename_i hU
    cases ji:(s.ev x).KX (s.ev y) with
    | true=>exact .inr (.inl ⟨x,y,T,aF,λ t e1 e2=>by unfold l7; rw [ho]; simp only [hc,aF,fG,hU]; rw [e1,e2,ji]⟩)
    | false=>exact .inl ⟨x,y,T,_,.inr rfl,aF,λ t e1 e2=>by unfold l7; rw [ho]; simp only [hc,aF,fG,hU]; rw [e1,e2,ji]⟩
   ·rename_i hU
    exact .inl ⟨x,y,T,_,.inl rfl,aF,λ t _ _=>by unfold l7; rw [ho]; simp only [hc,aF,fG,hU]⟩
   ·rename_i hU
    exact .inr (.inr ⟨x,y,T,aF,λ t=>by unfold l7; rw [ho]; simp only [hc,aF,fG,hU]⟩)
   ·cases h
  ·cases h
 rcases key with key|⟨x,y,T,aF,he⟩|⟨x,y,T,aF,he⟩
 rotate_left
 ·have eT:x∈o.op.operands.toList:=cQ x (by rw [aF]; simp)
  have gI:y∈o.op.operands.toList:=cQ y (by rw [aF]; simp);rw [he s rfl rfl] at h;have hI:=b7A h;simp only at hI;obtain ⟨i,lo,hi,q,t0,bts,u,m,l,hx,pZ,cr,aS,hf,bD,rfl,rfl⟩:=Rk hI;obtain ⟨ow,e',gL⟩:=Ji hf;have hm:(s.ev x).i7 i=true:=by rw [hx]; simp [AV.i7]
  refine D9.KJ (i:=i) (ow:=ow) (e':=e') (by rw [hT,I1,aF]; simp [St.J4,AV.i7,hm]) (λ j hj=>⟨x,eT,by rw [hx]; exact hj⟩) (λ t ha=>?_);rw [he t (ha x eT).1 (ha y gI).1,(ha x eT).1,(ha y gI).1,hx];have oQ:t.obj i=some (.own (.d0 true u) l):=((ha x eT).2 i hm).trans aS;unfold wa;simp only [pZ,(Hn (u:=t0) (ha y gI).2).trans cr,oQ,gL t ((ha x eT).2 i hm),bD,decide_true];rfl
 ·have h0:=h
  rw [he] at h;have eT:x∈o.op.operands.toList:=cQ x (by rw [aF]; simp);have gI:y∈o.op.operands.toList:=cQ y (by rw [aF]; simp);unfold zr at h;split at h
  ·rename_i t0 bts d k n pZ jX oh og
   obtain rfl:=Ay h (λ _ _ _=>we);refine D9.lay jX (g:=[]) (u:=.d0 true t0) (x:=List.replicate n.toNat t0.p9) (W:=OR.f7 (0<=n/\n<=140737488355328/\n*(t0.wb:Nat)<=140737488355328)) (λ _ _=>rfl) (λ _=>rfl) (by simp) h0 (λ t ha=>?_);rw [he,(ha x eT).1,(ha y gI).1];unfold zr;simp only [pZ,jX,oh,og]
  ·cases h
 obtain ⟨x,y,T,F,hF,aF,he⟩:=key;have h0:=h;rw [he s rfl rfl] at h;have gU:∃ d g u l,o.dst=some d/\(∀ j∈g,(s.ev x).i7 j=true\/(s.ev y).i7 j=true)/\∀ t,Alike s t (s.ev x)->Alike s t (s.ev y)->F (s.ev x) (s.ev y) o.dst t=(St.lay t d g u l).f7 p:=by
  rcases hF with rfl|rfl
  ·exact Rj h
  ·exact Vl h
 obtain ⟨d,g,u,l,hd,hg,k⟩:=gU;have eT:x∈o.op.operands.toList:=cQ x (by rw [aF]; simp);have gI:y∈o.op.operands.toList:=cQ y (by rw [aF]; simp);refine D9.lay hd (g:=g) (u:=u) (x:=l) (W:=OR.f7 p) (λ _ _=>rfl) (λ _=>rfl) ?_ h0 (λ t ha=>?_)
 ·intro j hj
  rw [hT,I1,aF];rcases hg j hj with h|h<;>simp [St.J4,AV.i7,h]
 ·rw [he t (ha x eT).1 (ha y gI).1,(ha x eT).1,(ha y gI).1]
  exact k t (ha x eT).2 (ha y gI).2
end
end Go.Ex
namespace Go.Ex
section
variable {E:Env} {s t:St}
theorem ag {o:Oper} {x:Operand} (h:X6 s t o.op.operands.toList) (hx:x∈o.op.operands.toList):t.ev x=s.ev x/\Alike s t (s.ev x):=⟨(h x hx).1,(h x hx).2⟩
theorem ob1 {i:Nat} {p:List Step} (h:Alike s t (.ptr i p)):t.obj i=s.obj i:=h i (by simp [AV.i7])
theorem ob2 {i:Nat} {p:List Step} (h:Alike s t (.at_ i p)):t.obj i=s.obj i:=h i (by simp [AV.i7])
theorem ob3 {i:Nat} {p:List Step} {a b:Int} (h:Alike s t (.sub i p a b)):t.obj i=s.obj i:=h i (by simp [AV.i7])
theorem b3D {o:Oper} {T:TypeId} {x:Operand} {n:Nat} (ho:o.op=.fieldAddr T x n) {p:Prop} {v:AV} {s1:St} (h:(l7 E o s).get=some (p,v,s1)):D9 E o s p v:=by
 have hx:x∈o.op.operands.toList:=by rw [ho]; simp [Op.operands]
 refine .ro h (λ t ha=>?_) (λ i hi=>⟨x,hx,?_⟩)
 ·obtain ⟨e1,e2⟩:=ag ha hx
  unfold l7;rw [ho];simp only [e1];cases hx:s.ev x with
  | ptr i q =>
   rw [hx] at e2;simp only [J0 (e2 i (by simp [AV.i7]))]
   repeat' (first|rfl|split)
  | val u z =>
   cases u with
   | box o0 g0 u0=>cases o0<;>cases g0<;>first|rfl|(dsimp only; repeat' (first|rfl|split))
   | _=>first|rfl|(dsimp only; repeat' (first|rfl|split))
  | _=>first|rfl|(dsimp only; split<;>rfl)
 ·unfold l7 at hi
  rw [ho] at hi;simp only at hi;cases hx:s.ev x with
  | ptr j q =>
   rw [hx] at hi;simp only at hi
   repeat' (split at hi)
   all_goals first|exact hi|(cases hi; done)
  | val u z =>
   rw [hx] at hi;exfalso;cases u with
   | box o0 g0 u0=>cases o0<;>cases g0<;>first|(cases hi; done)|(simp only at hi; repeat' (split at hi))<;>(cases hi)
   | _=>first|(cases hi; done)|(simp only at hi; repeat' (split at hi))<;>(cases hi)
  | _ =>
   rw [hx] at hi;simp only at hi
   repeat' (split at hi)
   all_goals first|exact hi|(cases hi; done)
theorem b3C {o:Oper} {T:TypeId} {x y:Operand} (ho:o.op=.indexAddr T x y) {p:Prop} {v:AV} {s1:St} (h:(l7 E o s).get=some (p,v,s1)):D9 E o s p v:=by
 have cQ:x∈o.op.operands.toList:=by rw [ho]; simp [Op.operands]
 have lH:y∈o.op.operands.toList:=by rw [ho]; simp [Op.operands]
 refine .ro h (λ t ha=>?_) (λ i hi=>⟨x,cQ,?_⟩)
 ·obtain ⟨e1,e2⟩:=ag ha cQ
  have e3:=(ag ha lH).1;unfold l7;rw [ho];simp only [e1,e3]
  split
  ·rename_i hx _; rw [hx] at e2; (first|simp only [J0 (ob1 e2)]|simp only [J0 (ob2 e2)]) ; (generalize s.part _ _=pt; cases pt with|none=>rfl|some q=>(obtain ⟨u,z⟩:=q; cases u<;>first|rfl|(dsimp only; repeat' (first|rfl|split))|(rename_i o0 _; cases o0<;>first|rfl|(dsimp only; repeat' (first|rfl|split)))))
  ·repeat' (first|rfl|split)
  ·repeat' (first|rfl|split)
  ·rename_i hx _; rw [hx] at e2; (first|simp only [J0 (ob1 e2)]|simp only [J0 (ob2 e2)]) ; (generalize s.part _ _=pt; cases pt with|none=>rfl|some q=>(obtain ⟨u,z⟩:=q; cases u<;>first|rfl|(dsimp only; repeat' (first|rfl|split))|(rename_i o0 _; cases o0<;>first|rfl|(dsimp only; repeat' (first|rfl|split)))))
  ·rename_i hx _; rw [hx] at e2; simp only [CV (ob3 e2)] ; (generalize s.view _ _ _ _=pt; cases pt with|none=>rfl|some q=>(obtain ⟨u,z⟩:=q; dsimp only; repeat' (first|rfl|split)))
  ·rfl
 ·unfold l7 at hi
  rw [ho] at hi;simp only at hi;split at hi
  ·rename_i hx _; rw [hx]; repeat' (split at hi)
   all_goals first|exact hi|(cases hi; done)
  ·repeat' (split at hi)
   all_goals (cases hi; done)
  ·repeat' (split at hi)
   all_goals (cases hi; done)
  ·rename_i hx _; rw [hx]; repeat' (split at hi)
   all_goals first|exact hi|(cases hi; done)
  ·rename_i hx _; rw [hx]; repeat' (split at hi)
   all_goals first|exact hi|(cases hi; done)
  ·cases hi
theorem Xd {o:Oper} {T:TypeId} {x y:Operand} (ho:o.op=.index T x y) {p:Prop} {v:AV} {s1:St} (h:(l7 E o s).get=some (p,v,s1)):D9 E o s p v:=by
 have cQ:x∈o.op.operands.toList:=by rw [ho]; simp [Op.operands]
 have lH:y∈o.op.operands.toList:=by rw [ho]; simp [Op.operands]
 refine .ro h (λ t ha=>?_) (λ i hi=>⟨x,cQ,?_⟩)
 ·obtain ⟨e1,e2⟩:=ag ha cQ
  have e3:=(ag ha lH).1;unfold l7;rw [ho];simp only [e1,e3]
  split
  ·split<;>rfl
  ·split<;>rfl
  ·rename_i hx _; rw [hx] at e2; (first|simp only [J0 (ob1 e2)]|simp only [J0 (ob2 e2)]) ; (generalize s.part _ _=pt; cases pt with|none=>rfl|some q=>(obtain ⟨u,z⟩:=q; cases u<;>first|rfl|(dsimp only; repeat' (first|rfl|split))|(rename_i o0 _; cases o0<;>first|rfl|(dsimp only; repeat' (first|rfl|split)))))
  ·rfl
 ·unfold l7 at hi
  rw [ho] at hi;simp only at hi;split at hi
  ·repeat' (split at hi)
   all_goals (cases hi; done)
  ·repeat' (split at hi)
   all_goals (cases hi; done)
  ·rename_i hx _; rw [hx]; repeat' (split at hi)
   all_goals first|exact hi|(cases hi; done)
  ·cases hi
theorem WZ {o:Oper} {T:TypeId} {x:Operand} {n:Nat} (ho:o.op=.field T x n) {p:Prop} {v:AV} {s1:St} (h:(l7 E o s).get=some (p,v,s1)):D9 E o s p v:=by
 have cQ:x∈o.op.operands.toList:=by rw [ho]; simp [Op.operands]
 refine .ro h (λ t ha=>?_) (λ i hi=>⟨x,cQ,?_⟩)
 ·obtain ⟨e1,e2⟩:=ag ha cQ
  unfold l7;rw [ho];simp only [e1]
  split
  ·split<;>rfl
  ·rename_i hx; rw [hx] at e2; (first|simp only [J0 (ob1 e2)]|simp only [J0 (ob2 e2)]) ; (generalize s.part _ _=pt; cases pt with|none=>rfl|some q=>(obtain ⟨u,z⟩:=q; cases u<;>first|rfl|(dsimp only; repeat' (first|rfl|split))|(rename_i o0 _; cases o0<;>first|rfl|(dsimp only; repeat' (first|rfl|split)))))
  ·rfl
 ·unfold l7 at hi
  rw [ho] at hi;simp only at hi;split at hi
  ·repeat' (split at hi)
   all_goals (cases hi; done)
  ·rename_i hx; rw [hx]; repeat' (split at hi)
   all_goals first|exact hi|(cases hi; done)
  ·cases hi
theorem Va {o:Oper} {c:Call} (ho:o.op=.call c) (hc:c.callee=.builtin .cap) {p:Prop} {v:AV} {s1:St} (h:(l7 E o s).get=some (p,v,s1)):D9 E o s p v:=by
 obtain ⟨x,T,ha,hT⟩:∃ x T,c.args.toList=[x]/\c.argTypes.toList=[T]:=by
  unfold l7 at h;rw [ho] at h;simp only [hc] at h;split at h
  ·exact ⟨_,_,by assumption,by assumption⟩
  ·cases h
 have ie:x∈o.op.operands.toList:=by rw [ho]; exact wW (by rw [ha]; simp)
 refine .ro h (λ t du=>?_) (λ i hi=>?_)
 ·obtain ⟨e1,e2⟩:=ag du ie
  unfold l7;rw [ho];simp only [hc,ha,hT,e1]
  repeat' (first|rfl|split)
 ·exfalso
  unfold l7 at hi;rw [ho] at hi;simp only [hc,ha,hT] at hi
  repeat' (split at hi)
  all_goals (cases hi)
theorem YU {o:Oper} {T:TypeId} {x y:Operand} {ok:Bool} (ho:o.op=.lookup T x y ok) {p:Prop} {v:AV} {s1:St} (h:(l7 E o s).get=some (p,v,s1)):D9 E o s p v:=by
 unfold l7 at h; rw [ho] at h; cases h
theorem b6X {o:Oper} {T:TypeId} {r:Option Operand} (ho:o.op=.makeMap T r) {p:Prop} {v:AV} {s1:St} (h:(l7 E o s).get=some (p,v,s1)):D9 E o s p v:=by
 unfold l7 at h; rw [ho] at h; cases h
theorem XG {o:Oper} {T:TypeId} {x:Operand} {lo hi mx:Option Operand} (ho:o.op=.slice T x lo hi mx) {p:Prop} {v:AV} {s1:St} (h:(l7 E o s).get=some (p,v,s1)):D9 E o s p v:=by
 have gQ:∀ y,y=x\/lo=some y\/hi=some y\/mx=some y->y∈o.op.operands.toList:=by
  rw [ho];rintro y (rfl|rfl|rfl|rfl)<;>simp [Op.operands]
 have cQ:x∈o.op.operands.toList:=gQ x (.inl rfl);have he:∀ t,l7 E o t=xC E T (t.ev x) lo hi mx t:=λ t=>by unfold l7; rw [ho]
 refine .ro h (λ t ha=>?_) (λ i cU=>⟨x,cQ,?_⟩)
 ·obtain ⟨e1,e2⟩:=ag ha cQ
  rw [he,he,e1];have b1:∀ d,Z4 t d lo=Z4 s d lo:=λ d=>Gn (λ y hy=>(ag ha (gQ y (.inr (.inl hy)))).1);have b2:∀ d,Z4 t d hi=Z4 s d hi:=λ d=>Gn (λ y hy=>(ag ha (gQ y (.inr (.inr (.inl hy))))).1);have b3:∀ d,Z4 t d mx=Z4 s d mx:=λ d=>Gn (λ y hy=>(ag ha (gQ y (.inr (.inr (.inr hy))))).1);unfold xC;simp only [b1,b2,b3]
  split
  ·rfl
  ·split
   ·repeat' (first|rfl|split)
   ·repeat' (first|rfl|split)
   ·repeat' (first|rfl|split)
   ·repeat' (first|rfl|split)
   ·rename_i hx; rw [hx] at e2; (first|simp only [J0 (ob1 e2)]|simp only [J0 (ob2 e2)]) ; (generalize s.part _ _=pt; cases pt with|none=>rfl|some q=>(obtain ⟨u,z⟩:=q; cases u<;>first|rfl|(dsimp only; repeat' (first|rfl|split))|(rename_i o0 _; cases o0<;>first|rfl|(dsimp only; repeat' (first|rfl|split)))))
   ·rename_i hx; rw [hx] at e2; simp only [J0 (ob3 e2)] ; (generalize s.part _ _=pt; cases pt with|none=>rfl|some q=>(obtain ⟨u,z⟩:=q; cases u<;>first|rfl|(dsimp only; repeat' (first|rfl|split))|(rename_i o0 _; cases o0<;>first|rfl|(dsimp only; repeat' (first|rfl|split)))))
   ·rename_i hx; rw [hx] at e2; (first|simp only [J0 (ob1 e2)]|simp only [J0 (ob2 e2)]) ; (generalize s.part _ _=pt; cases pt with|none=>rfl|some q=>(obtain ⟨u,z⟩:=q; cases u<;>first|rfl|(dsimp only; repeat' (first|rfl|split))|(rename_i o0 _; cases o0<;>first|rfl|(dsimp only; repeat' (first|rfl|split)))))
   ·rfl
 ·rw [he] at cU
  unfold xC at cU;split at cU
  ·cases cU
  ·split at cU
   ·repeat' (split at cU)
    all_goals (cases cU; done)
   ·repeat' (split at cU)
    all_goals (cases cU; done)
   ·repeat' (split at cU)
    all_goals (cases cU; done)
   ·repeat' (split at cU)
    all_goals (cases cU; done)
   ·rename_i hx; rw [hx]; repeat' (split at cU)
    all_goals first|exact cU|(cases cU; done)
   ·rename_i hx; rw [hx]; repeat' (split at cU)
    all_goals first|exact cU|(cases cU; done)
   ·rename_i hx; rw [hx]; repeat' (split at cU)
    all_goals first|exact cU|(cases cU; done)
   ·cases cU
theorem UB {o:Oper} {c:Call} (ho:o.op=.call c) (hc:c.callee=.builtin .len) {p:Prop} {v:AV} {s1:St} (h:(l7 E o s).get=some (p,v,s1)):D9 E o s p v:=by
 obtain ⟨x,T,ha,hT⟩:∃ x T,c.args.toList=[x]/\c.argTypes.toList=[T]:=by
  unfold l7 at h;rw [ho] at h;simp only [hc] at h;split at h
  ·exact ⟨_,_,by assumption,by assumption⟩
  ·cases h
 have ie:x∈o.op.operands.toList:=by rw [ho]; exact wW (by rw [ha]; simp)
 refine .ro h (λ t du=>?_) (λ i hi=>?_)
 ·obtain ⟨e1,e2⟩:=ag du ie
  unfold l7;rw [ho];simp only [hc,ha,hT,e1]
  split
  ·repeat' (first|rfl|split)
  ·repeat' (first|rfl|split)
  ·repeat' (first|rfl|split)
  ·repeat' (first|rfl|split)
  ·rename_i hx; rw [hx] at e2; (first|simp only [J0 (ob1 e2)]|simp only [J0 (ob2 e2)]) ; (generalize s.part _ _=pt; cases pt with|none=>rfl|some q=>(obtain ⟨u,z⟩:=q; cases u<;>first|rfl|(dsimp only; repeat' (first|rfl|split))|(rename_i o0 _; cases o0<;>first|rfl|(dsimp only; repeat' (first|rfl|split)))|(rename_i o0 _ _; cases o0<;>first|rfl|(dsimp only; repeat' (first|rfl|split)))))
  ·rename_i hx; rw [hx] at e2; simp only [CV (ob3 e2)] ; (generalize s.view _ _ _ _=pt; cases pt with|none=>rfl|some q=>(obtain ⟨u,z⟩:=q; dsimp only; repeat' (first|rfl|split)))
  ·repeat' (first|rfl|split)
  ·rfl
 ·exfalso
  unfold l7 at hi;rw [ho] at hi;simp only [hc,ha,hT] at hi
  repeat' (split at hi)
  all_goals (cases hi)
theorem Ou {k:IntKind} {f:Int->Int->Int}:∀ {l:List Operand} {n:Int},(∀ x∈l,t.ev x=s.ev x)->foldI t k f n l=(foldI s k f n l).wh t
 | [],n,_=>rfl
 | x::l,n,h=>by
  simp only [foldI,h x (by simp)]
  split
  ·split
   ·exact Ou (λ y hy=>h y (by simp [hy]))
   ·rfl
  ·rfl
theorem JC {k:IntKind} {f:Int->Int->Int} {i:Nat}:∀ {l:List Operand} {n:Int},(foldI s k f n l).av.i7 i=true->False
 | [],n,h=>by cases h
 | x::l,n,h=>by
  simp only [foldI] at h;split at h
  ·split at h
   ·exact JC h
   ·cases h
  ·cases h
theorem Qi {o:Oper} {c:Call} (ho:o.op=.call c) (hc:c.callee=.builtin .max\/c.callee=.builtin .min) {p:Prop} {v:AV} {s1:St} (h:(l7 E o s).get=some (p,v,s1)):D9 E o s p v:=by
 have cQ:∀ x∈c.args.toList,x∈o.op.operands.toList:=λ x hx=>by rw [ho]; exact wW hx
 refine .ro h (λ t du=>?_) (λ i hi=>?_)
 ·unfold l7
  rw [ho];rcases hc with hc|hc <;>
  ·simp only [hc]
   split
   ·rename_i x l ha
    rw [(du x (cQ x (by rw [ha]; simp))).1]
    split
    ·exact Ou (λ y hy=>(du y (cQ y (by rw [ha]; simp [hy]))).1)
    ·rfl
   ·rfl
 ·exfalso
  unfold l7 at hi;rw [ho] at hi;rcases hc with hc|hc
  ·simp only [hc] at hi
   split at hi
   ·split at hi
    ·exact JC hi
    ·cases hi
   ·cases hi
  ·simp only [hc] at hi
   split at hi
   ·split at hi
    ·exact JC hi
    ·cases hi
   ·cases hi
theorem WO {o:Oper} {T:TypeId} {parts:Array (Nat×Operand)} (ho:o.op=.build T parts) {p:Prop} {v:AV} {s1:St} (h:(l7 E o s).get=some (p,v,s1)):D9 E o s p v:=by
 have eU:∀ t,X6 s t o.op.operands.toList->∀ q∈parts.toList,t.ev q.2=s.ev q.2/\Alike s t (s.ev q.2):=λ t ha q hq=>ag ha (by rw [ho]; simp only [Op.operands]; simpa using ⟨q.1,by simpa using hq⟩);have key:∃ t0 r g,look T E.tt=some t0/\(t0.ty.agg && parts.toList.all (λ q=>vV t0.ty q.1))=true/\R2 s ⟨t0.ty,t0.ty.p9⟩ parts.toList=some (r,g):=by
  unfold l7 at h; rw [ho] at h;simp only at h;split at h
  ·split at h
   ·split at h
    ·exact ⟨_,_,_,by assumption,by assumption,by assumption⟩
    ·exact ⟨_,_,_,by assumption,by assumption,by assumption⟩
    ·cases h
   ·cases h
  ·cases h
 obtain ⟨t0,⟨u,y⟩,g,h1,h2,h3⟩:=key;have hb:∀ t,X6 s t o.op.operands.toList->R2 t ⟨t0.ty,t0.ty.p9⟩ parts.toList=some (⟨u,y⟩,g):=λ t ha=>(DH (s:=s) (t:=t) (eU t ha)).trans h3;cases g with
 | nil =>
  have he:∀ t,X6 s t o.op.operands.toList->l7 E o t=.ok (.val u y) t:=λ t ha=>by unfold l7; rw [ho]; simp only [h1,h2,hb t ha]
  refine .ro h (λ t ha=>?_) (λ i hi=>?_)
  ·rw [he t ha,he s (.refl _ _)]; rfl
  ·rw [he s (.refl _ _)] at hi; cases hi
 | cons g0 g =>
  cases hd:o.dst with
  | none =>
   exfalso;unfold l7 at h; rw [ho] at h;simp only [h1,h2,h3,hd] at h;cases h
  | some d =>
   refine D9.lay hd (g:=g0::g) (u:=u) (x:=y) (W:=λ r=>r) (p:=p) (v:=v) (s1:=s1) ?_ (λ _=>rfl) ?_ h (λ t ha=>by unfold l7; rw [ho]; simp only [h1,h2,hb t ha,hd])
   ·have hp:p=True:=by
     unfold l7 at h; rw [ho] at h;simp only [h1,h2,h3,hd] at h;cases hl:s.lay d (g0::g) u y<;>rw [hl] at h
     ·cases h
     ·cases h; rfl
     ·exact absurd hl we
    intro v s; rw [hp]; rfl
   ·intro i hi
    obtain ⟨q,hq,hm⟩:=Ec h3 i hi;unfold j9;rw [ho];exact I1.2 (HM (List.mem_map.2 ⟨q,hq,rfl⟩) hm)
theorem b1M {o:Oper} {T:TypeId} {n:Nat} {parts:Array (Nat×Operand)} (ho:o.op=.buildSlice T n parts) {p:Prop} {v:AV} {s1:St} (h:(l7 E o s).get=some (p,v,s1)):D9 E o s p v:=by
 have eU:∀ t,X6 s t o.op.operands.toList->∀ q∈parts.toList,t.ev q.2=s.ev q.2/\Alike s t (s.ev q.2):=λ t ha q hq=>ag ha (by rw [ho]; simp only [Op.operands]; simpa using ⟨q.1,by simpa using hq⟩);have key:∃ t0 b d m t' l g,look T E.tt=some ⟨.d0 true t0,b⟩/\o.dst=some d/\(s.fresh d && parts.toList.all (λ q=>Nat.blt q.1 n) && Nat.ble (n*t0.size) 16777216)=true/\yO s n t0 parts.toList=some (⟨.arr m t',l⟩,g):=by
  unfold l7 at h; rw [ho] at h;simp only at h;split at h
  ·split at h
   ·split at h
    ·exact ⟨_,_,_,_,_,_,_,by assumption,by assumption,by assumption,by assumption⟩
    ·cases h
   ·cases h
  ·cases h
 obtain ⟨t0,b,d,m,t',l,g,h1,h2,h4,h5⟩:=key;have hb:∀ t,X6 s t o.op.operands.toList->yO t n t0 parts.toList=some (⟨.arr m t',l⟩,g):=λ t ha=>by
  rw [<- h5]; unfold yO; rw [DH (s:=s) (t:=t) (eU t ha),DH (s:=s) (t:=t) (eU t ha)]
 obtain ⟨t9,_,h9⟩:=No h5;have he:∀ t,X6 s t o.op.operands.toList->t.fresh d=true->l7 E o t=t.lay d g (.d0 true t') l:=λ t ha hf=>by
  simp only [Bool.and_eq_true] at h4;unfold l7; rw [ho]; simp only [h1,h2,hf,h4.1.2,h4.2,hb t ha,Bool.and_self]
 have hf:s.fresh d=true:=by simp only [Bool.and_eq_true] at h4; exact h4.1.1
 have iW:∀ i∈g,i∈j9 E o s:=by
  intro i hi;obtain ⟨q,hq,hm⟩:=Ec h9 i hi;unfold j9;rw [ho];exact I1.2 (HM (List.mem_map.2 ⟨q,hq,rfl⟩) hm)
 rw [he s (.refl _ _) hf] at h;cases hl:s.lay d g (.d0 true t') l with
 | fail y=>rw [hl] at h; cases h
 | E9 q v s'=>exact absurd hl we
 | ok v' s' =>
  rw [hl] at h;cases h;obtain ⟨k1,rfl,rfl,k4⟩:=LZ hl;exact D9.obj h2 (e:=.own (.d0 true t') l) (g:=g) (λ i hi=>by simpa [AV.i7] using hi) k1 iW (λ t ha hu hf=>by rw [he t ha hf,Lz hf k4]; rfl)
theorem UX {o:Oper} {T:TypeId} {x:Operand} (ho:o.op=.box T x) {p:Prop} {v:AV} {s1:St} (h:(l7 E o s).get=some (p,v,s1)):D9 E o s p v:=by
 have cQ:x∈o.op.operands.toList:=by rw [ho]; simp [Op.operands]
 have hT:j9 E o s=(s.ev x).G6:=by unfold j9; rw [ho]
 have key:∃ t0 d,look T E.tt=some t0/\o.dst=some d/\s.fresh d=true:=by
  unfold l7 at h; rw [ho] at h;simp only at h;split at h
  ·split at h
   ·exact ⟨_,_,by assumption,by assumption,by assumption⟩
   ·cases h
  ·cases h
 obtain ⟨t0,d,h1,h2,h3⟩:=key;have he:∀ t,t.fresh d=true->l7 E o t=(match (t.ev x).uW t with
    | some (⟨u,y⟩,g)=>if u.Q7.sh=t0.ty.Q7.sh then (match vW g && !g.contains d && g.all λ i=>!pinned i with
     | true=>.ok (.ptr d []) ((St.w5 g t).w4 d (.var u y))
     | false=>.fail "box: objects") else .fail "box: value"
    | none=>(match t.ev x,t0.ty with
     | .raw (.slice none 0 0),.d0 o u=>.ok (.ptr d []) (t.w4 d (.var (.d0 o u) ([]:List u.den)))
     | .ptr i p,.box _ none _=>.ok (.bx (.ptr i p)) t
     | _,_=>.fail "box: what")):=λ t ht=>by unfold l7; rw [ho]; simp only [h1,h2,ht]; rfl
 rw [he s h3] at h;split at h
 ·rename_i u y g cS
  split at h
  ·rename_i ch
   split at h
   ·rename_i hc
    cases h;refine D9.obj h2 (e:=.var u y) (g:=g) (λ i hi=>by simpa [AV.i7] using hi) h3 (λ i hi=>by rw [hT]; exact I1.2 (DR cS i hi)) (λ t ha hu hf=>?_);obtain ⟨e1,e2⟩:=ag ha cQ;rw [he t hf,e1];simp only [(yv e2).trans cS,ch,if_true,hc];rfl
   ·cases h
  ·cases h
 ·rename_i cS
  split at h
  ·rename_i o' u hx kn
   cases h;refine D9.obj h2 (e:=.var (.d0 o' u) ([]:List u.den)) (g:=[]) (λ i hi=>by simpa [AV.i7] using hi) h3 (by simp) (λ t ha hu hf=>?_);obtain ⟨e1,e2⟩:=ag ha cQ;have fj:=(yv e2).trans cS;rw [hx] at e1 fj;rw [he t hf,e1];simp only [fj,kn];rfl
  ·rename_i i q o0 u0 hx kn
   cases h;refine ⟨[d],λ u=>u,λ j=>if j=d then none else look j s.hp,Trim.id _,Pc h3,by simp [h2],λ j hj=>.inl ⟨x,cQ,by rw [hx]; exact hj⟩,λ t hu ha hn=>?_⟩;have hf:=Ov hu hn;obtain ⟨e1,e2⟩:=ag ha cQ;have fj:=(yv e2).trans cS;rw [hx] at e1 fj;refine ⟨t,?_,hu,⟨λ n=>by simp,λ j=>?_⟩⟩
   ·rw [he t hf,e1]; simp only [fj,kn]; rfl
   ·by_cases hj:j=d
    ·subst hj
     rw [if_pos (.inr (by simp)),if_pos rfl];exact (hn j (by simp)).1
    ·by_cases iU:j∈j9 E o s
     ·rw [if_pos (.inl iU),if_neg hj]; exact zD ha iU
     ·rw [if_neg (by simp [iU,hj])]
  ·cases h
theorem ZZ {o:Oper} {T' T:TypeId} {x:Operand} (ho:o.op=.convert T' T x) {p:Prop} {v:AV} {s1:St} (h:(l7 E o s).get=some (p,v,s1)):D9 E o s p v:=by
 have cQ:x∈o.op.operands.toList:=by rw [ho]; simp [Op.operands]
 by_cases hs:(∃ y,s.ev x=.val .str y)/\(∃ b,look T' E.tt=some ⟨.str,b⟩)/\(∃ b,look T E.tt=some ⟨.d0 true (.int .u8),b⟩)
 ·obtain ⟨⟨y,hy⟩,⟨b,hb⟩,⟨b',cT⟩⟩:=hs
  cases hd:o.dst with
  | none =>
   exfalso;unfold l7 at h; rw [ho] at h;simp only [hy,hb,cT,hd] at h;cases h
  | some d =>
   have he:∀ t,t.ev x=s.ev x->l7 E o t=t.lay d [] (.d0 true (.int .u8)) (List.map (λ b:UInt8=>(b.toNat:Int)) y:List Int):=λ t ht=>by
    unfold l7; rw [ho]; simp only [ht,hy,hb,cT,hd]
   have hp:p=True:=by
    rw [he s rfl] at h;cases hl:s.lay d [] (.d0 true (.int .u8)) (List.map (λ b:UInt8=>(b.toNat:Int)) y:List Int)<;>rw [hl] at h
    ·cases h
    ·cases h; rfl
    ·exact absurd hl we
   exact D9.lay hd (g:=[]) (W:=λ r=>r) (λ v s=>by rw [hp]; rfl) (λ _=>rfl) (by simp) h (λ t ha=>he t (ag ha cQ).1)
 ·refine .ro h (λ t ha=>?_) (λ i hi=>?_)
  ·obtain ⟨e1,e2⟩:=ag ha cQ
   unfold l7; rw [ho]; simp only [e1]
   split
   ·rfl
   ·rename_i hx oy ov
    exact absurd ⟨⟨_,hx⟩,⟨_,oy⟩,⟨_,ov⟩⟩ hs
   ·rw [GD e2]
    repeat' (first|rfl|split)
   ·rfl
  ·exfalso
   unfold l7 at hi; rw [ho] at hi;simp only at hi;split at hi
   ·cases hi
   ·rename_i hx oy ov
    exact absurd ⟨⟨_,hx⟩,⟨_,oy⟩,⟨_,ov⟩⟩ hs
   ·repeat' (split at hi)
    all_goals (cases hi)
   ·cases hi
theorem b3z {o:Oper} {T:TypeId} {x y:Operand} (ho:o.op=.makeSlice T x y) {p:Prop} {v:AV} {s1:St} (h:(l7 E o s).get=some (p,v,s1)):D9 E o s p v:=by
 have cQ:x∈o.op.operands.toList:=by rw [ho]; simp [Op.operands]
 have lH:y∈o.op.operands.toList:=by rw [ho]; simp [Op.operands]
 have key:∃ t0 b d k n k' m,look T E.tt=some ⟨.d0 true t0,b⟩/\o.dst=some d/\s.ev x=.val (.int k) n/\s.ev y=.val (.int k') m/\E.rs.any Ty.FI=false:=by
  unfold l7 at h; rw [ho] at h;simp only at h;split at h
  ·cases h
  ·rename_i sg
   split at h
   ·exact ⟨_,_,_,_,_,_,_,by assumption,by assumption,by assumption,by assumption,sg⟩
   ·cases h
 obtain ⟨t0,b,d,k,n,k',m,h1,h2,h3,h4,pa⟩:=key;have he:∀ t,t.ev x=s.ev x->t.ev y=s.ev y->l7 E o t=(t.lay d [] (.d0 true t0) (List.replicate (Int.toNat n) t0.p9)).f7 (@LE.le Int Int.instLEInt 0 n/\@LE.le Int Int.instLEInt n m/\@LE.le Int Int.instLEInt m 140737488355328/\@LE.le Int Int.instLEInt (@HMul.hMul Int Int Int _ m (t0.wb:Nat)) 140737488355328):=λ t e1 e2=>by
  unfold l7; rw [ho]; simp only [e1,e2,pa,h1,h2,h3,h4]
 have h0:=h;rw [he s rfl rfl] at h;obtain rfl:=Ay h (λ _ _ _=>we);exact D9.lay h2 (g:=[]) (W:=OR.f7 _) (λ _ _=>rfl) (λ _=>rfl) (by simp) h0 (λ t ha=>he t (ag ha cQ).1 (ag ha lH).1)
theorem LW {v:AV} (h:Alike s t v):v.vF t=v.vF s:=by
 unfold AV.vF
 split
 ·rw [J0 (ob2 h)]
 ·rw [J0 (ob3 h)]
 ·rfl
theorem PT {v:AV} {i:Nat} {p:List Step} {lo hi:Int} (h:v.vF s=some (i,p,lo,hi)):v.i7 i=true:=by
 unfold AV.vF at h;split at h
 ·split at h
  ·cases h; simp [AV.i7]
  ·cases h
 ·split at h
  ·cases h; simp [AV.i7]
  ·cases h
 ·cases h
theorem WI {o:Oper} {c:Call} (ho:o.op=.call c) (hc:c.callee=.builtin .copy) {p:Prop} {v:AV} {s1:St} (h:(l7 E o s).get=some (p,v,s1)):D9 E o s p v:=by
 have cQ:∀ x∈c.args.toList,x∈o.op.operands.toList:=λ x hx=>by rw [ho]; exact wW hx
 have hT:j9 E o s=(s.J4 c.args.toList).G6:=by unfold j9; rw [ho]; simp only [hc]
 have key:∃ x y T,c.args.toList=[x,y]/\∀ t,l7 E o t=yW E T (t.ev x) (t.ev y) t:=by
  unfold l7 at h;rw [ho] at h;simp only [hc] at h;split at h
  ·rename_i x y T U aF fG
   exact ⟨x,y,T,aF,λ t=>by unfold l7; rw [ho]; simp only [hc,aF,fG]⟩
  ·cases h
 obtain ⟨x,y,T,aF,he⟩:=key;rw [he] at h;have eT:x∈o.op.operands.toList:=cQ x (by rw [aF]; simp);have gI:y∈o.op.operands.toList:=cQ y (by rw [aF]; simp);unfold yW at h;split at h
 ·rename_i i q lo hi u m hd fk
  split at h
  ·rename_i s' hf bD
   simp only [OR.get,Option.some.injEq,Prod.mk.injEq] at h;obtain ⟨rfl,rfl,_⟩:=h;obtain ⟨ow,e',gL⟩:=Ji hf;have hm:=PT hd;refine D9.fill (i:=i) (ow:=ow) (e':=e') (by rw [hT,I1,aF]; simp [St.J4,AV.i7,hm]) (λ _=>rfl) (λ t ha=>?_);rw [he,(ha x eT).1,(ha y gI).1];unfold yW;rw [LW (ha x eT).2,GD (ha y gI).2,hd,fk];simp only [gL t ((ha x eT).2 i hm),bD];rfl
  ·cases h
 ·cases h
theorem WU {o:Oper} {c:Call} (ho:o.op=.call c) (hc:c.callee=.builtin .clear) {p:Prop} {v:AV} {s1:St} (h:(l7 E o s).get=some (p,v,s1)):D9 E o s p v:=by
 have cQ:∀ x∈c.args.toList,x∈o.op.operands.toList:=λ x hx=>by rw [ho]; exact wW hx
 have hT:j9 E o s=(s.J4 c.args.toList).G6:=by unfold j9; rw [ho]; simp only [hc]
 have key:∃ x T,c.args.toList=[x]/\∀ t,l7 E o t=zf E T (t.ev x) t:=by
  unfold l7 at h;rw [ho] at h;simp only [hc] at h;split at h
  ·rename_i x T aF fG
   exact ⟨x,T,aF,λ t=>by unfold l7; rw [ho]; simp only [hc,aF,fG]⟩
  ·cases h
 obtain ⟨x,T,aF,he⟩:=key;rw [he] at h;have eT:x∈o.op.operands.toList:=cQ x (by rw [aF]; simp);unfold zf at h;split at h
 ·rename_i i q lo hi b u bts hd dm
  split at h
  ·rename_i s' hf
   simp only [OR.get,Option.some.injEq,Prod.mk.injEq] at h;obtain ⟨rfl,rfl,_⟩:=h;obtain ⟨ow,e',gL⟩:=Ji hf;have hm:=PT hd;refine D9.fill (i:=i) (ow:=ow) (e':=e') (by rw [hT,I1,aF]; simp [St.J4,AV.i7,hm]) (λ _=>rfl) (λ t ha=>?_);rw [he,(ha x eT).1];unfold zf;rw [LW (ha x eT).2,hd,dm];simp only [gL t ((ha x eT).2 i hm)];rfl
  ·cases h
 ·cases h
theorem ZD {o:Oper} {T:TypeId} {m x y:Operand} (ho:o.op=.mapUpdate T m x y) {p:Prop} {v:AV} {s1:St} (h:(l7 E o s).get=some (p,v,s1)):D9 E o s p v:=by
 unfold l7 at h; rw [ho] at h; cases h
theorem TB {o:Oper} (iu:∀ a b c,o.op≠.pick a b c) {p:Prop} {v:AV} {s1:St} (h:(l7 E o s).get=some (p,v,s1)):D9 E o s p v:=by
 have dv:∀ x,x∈o.op.operands.toList↔x∈o.op.operands.toList:=λ _=>Iff.rfl;cases ho:o.op with
 | move x =>
  have hx:x∈o.op.operands.toList:=by rw [ho]; simp [Op.operands]
  refine .ro h (λ t ha=>?_) (λ i hi=>⟨x,hx,?_⟩)
  ·unfold l7; rw [ho]; simp only [(ag ha hx).1]; rfl
  ·unfold l7 at hi; rw [ho] at hi; exact hi
 | assign x =>
  have hx:x∈o.op.operands.toList:=by rw [ho]; simp [Op.operands]
  refine .ro h (λ t ha=>?_) (λ i hi=>⟨x,hx,?_⟩)
  ·unfold l7; rw [ho]; simp only [(ag ha hx).1]; rfl
  ·unfold l7 at hi; rw [ho] at hi; exact hi
 | load T x =>
  have hx:x∈o.op.operands.toList:=by rw [ho]; simp [Op.operands]
  have hl:∀ t,l7 E o t=X3 E T (t.ev x) t:=λ t=>by unfold l7; rw [ho]
  refine .ro h (λ t ha=>?_) (λ i hi=>⟨x,hx,?_⟩)
  ·obtain ⟨e1,e2⟩:=ag ha hx
   rw [hl,hl,e1]; exact Wz e2
  ·rw [hl] at hi; exact YS hi
 | nilCheck x =>
  have hx:x∈o.op.operands.toList:=by rw [ho]; simp [Op.operands]
  refine .ro h (λ t ha=>?_) (λ i hi=>⟨x,hx,?_⟩)
  ·unfold l7; rw [ho]; simp only [(ag ha hx).1]; split<;>rfl
  ·unfold l7 at hi; rw [ho] at hi
   simp only at hi;split at hi<;>first|(cases hi; done)|(rename_i e; rw [e]; exact hi)
 | binOp op T x y T' =>
  have hx:x∈o.op.operands.toList:=by rw [ho]; simp [Op.operands]
  have hy:y∈o.op.operands.toList:=by rw [ho]; simp [Op.operands]
  have hl:∀ t,l7 E o t=vU E T op (t.ev x) (t.ev y) t:=λ t=>by unfold l7; rw [ho]
  refine .ro h (λ t ha=>?_) (λ i hi=>?_)
  ·rw [hl,hl,(ag ha hx).1,(ag ha hy).1]; exact UQ ..
  ·exfalso
   rw [hl] at hi;unfold vU yI xk eqA wH wG xU arith at hi
   repeat' (split at hi)
   all_goals (cases hi)
 | unOp op T x =>
  have hx:x∈o.op.operands.toList:=by rw [ho]; simp [Op.operands]
  have hl:∀ t,l7 E o t=unA op (t.ev x) t:=λ t=>by unfold l7; rw [ho]
  refine .ro h (λ t ha=>?_) (λ i hi=>?_)
  ·rw [hl,hl,(ag ha hx).1]; exact TQ ..
  ·exfalso
   rw [hl] at hi;unfold unA arith at hi
   repeat' (split at hi)
   all_goals (cases hi)
 | convert T' T x=>exact ZZ ho h
 | fieldAddr T x n=>exact b3D ho h
 | indexAddr T x y=>exact b3C ho h
 | index T x y=>exact Xd ho h
 | field T x n=>exact WZ ho h
 | slice T x lo hi mx=>exact XG ho h
 | makeSlice T x y=>exact b3z ho h
 | build T parts=>exact WO ho h
 | buildSlice T n parts=>exact b1M ho h
 | makeMap T r=>exact b6X ho h
 | lookup T x y ok=>exact YU ho h
 | mapUpdate T m x y=>exact ZD ho h
 | box T x=>exact UX ho h
 | store T a x=>exact XH ho h
 | extract x n =>
  have hx:x∈o.op.operands.toList:=by rw [ho]; simp [Op.operands]
  refine .ro h (λ t ha=>?_) (λ i hi=>⟨x,hx,?_⟩)
  ·unfold l7; rw [ho]; simp only [(ag ha hx).1]
   split
   ·split<;>rfl
   ·rfl
  ·unfold l7 at hi; rw [ho] at hi
   simp only at hi;split at hi
   ·rename_i l e
    split at hi
    ·rename_i v hv
     rw [e]; show l.i7 i=true; exact Ij hv hi
    ·cases hi
   ·cases hi
 | makeFunc fn first caps =>
  have ec:∀ x∈caps.toList,x∈o.op.operands.toList:=λ x hx=>by rw [ho]; simp only [Op.operands]; simp at hx ⊢; exact .inr hx
  have cE:∀ t,X6 s t o.op.operands.toList->t.J4 caps.toList=s.J4 caps.toList:=λ t ha=>zj (λ x hx=>(ag ha (ec x hx)).1);refine .ro h (λ t ha=>?_) (λ i hi=>?_)
  ·unfold l7; rw [ho]
   cases fn with
   | func f=>simp only [cE t ha]; split<;>rfl
   | _=>rfl
  ·unfold l7 at hi; rw [ho] at hi
   cases fn with
   | func f =>
    simp only at hi;split at hi
    ·obtain ⟨x,hx,hi⟩:=Z0 (s:=s) (i:=i) (xs:=caps.toList) hi
     exact ⟨x,ec x hx,hi⟩
    ·cases hi
   | _=>cases hi
 | alloc T =>
  have key:∃ t0 d,look T E.tt=some t0/\o.dst=some d/\s.fresh d=true:=by
   unfold l7 at h; rw [ho] at h;simp only at h;split at h
   ·split at h
    ·exact ⟨_,_,by assumption,by assumption,by assumption⟩
    ·cases h
   ·cases h
  obtain ⟨t0,d,h1,h2,h3⟩:=key;have he:∀ t,t.fresh d=true->l7 E o t=.ok (.ptr d []) (t.w4 d (.var t0.ty t0.ty.p9)):=λ t ht=>by unfold l7; rw [ho]; simp only [h1,h2,ht]
  rw [he s h3] at h;simp only [OR.get,Option.some.injEq,Prod.mk.injEq] at h;obtain ⟨rfl,rfl,rfl⟩:=h;exact .obj h2 (g:=[]) (λ i hi=>by simpa [AV.i7] using hi) h3 (by simp) (λ t _ _ ht=>by rw [he t ht]; rfl)
 | call c =>
  cases hc:c.callee with
  | value f=>exact Vr ho hc h
  | builtin b =>
   cases b<;>first
    | (exact UB ho hc h)
    | (exact Va ho hc h)
    | (exact YI ho hc h)
    | (exact WI ho hc h)
    | (exact WU ho hc h)
    | (exact Qi ho (.inl hc) h)
    | (exact Qi ho (.inr hc) h)
    | (exfalso; unfold l7 at h; rw [ho] at h; simp only [hc] at h; cases h)
  | _=>exfalso; unfold l7 at h; rw [ho] at h; simp only [hc] at h; cases h
 | pick a b c=>exact absurd ho (iu a b c)
 | _=>exfalso; unfold l7 at h; rw [ho] at h; cases h
end
end Go.Ex
namespace Go.Ex
def K9 (s t:St):Prop:=(∀ n,look n s.fr=look n t.fr)/\(∀ i,look i s.hp=look i t.hp)
theorem K9.refl (s:St):K9 s s:=⟨λ _=>rfl,λ _=>rfl⟩
theorem K9.symm {s t:St} (h:K9 s t):K9 t s:=⟨λ n=>(h.1 n).symm,λ n=>(h.2 n).symm⟩
theorem K9.trans {s t u:St} (h:K9 s t) (k:K9 t u):K9 s u:=⟨λ n=>(h.1 n).trans (k.1 n),λ n=>(h.2 n).trans (k.2 n)⟩
theorem V7 {m:Nat} {s:St} {d:Option Nat} {v:AV}:look m (s.put d v).fr=if d=some m then some v else look m s.fr:=by
 cases d with
 | none=>simp [St.put]
 | some d =>
  simp only [St.put,n9,Option.some.injEq];by_cases e:m=d
  ·subst e; simp
  ·rw [if_neg e,if_neg (λ h=>e h.symm)]
theorem wc {s:St} {d:Option Nat} {v:AV}:(s.put d v).hp=s.hp:=by cases d<;>rfl
theorem yz {s:St} {d:Option Nat} {v:AV} (h:uniq s.fr):uniq (s.put d v).fr:=by
 cases d with
 | none=>exact h
 | some d=>exact Oi _ _ h
theorem K9.put {s t:St} (h:K9 s t) (d:Option Nat) (v:AV):K9 (s.put d v) (t.put d v) :=
 ⟨λ n=>by rw [V7,V7,h.1 n],λ i=>by rw [wc,wc,h.2 i]⟩
theorem K9.get {s t:St} (h:K9 s t) (m:Nat):s.get m=t.get m:=by simp only [St.get,h.1 m]
theorem K9.ev {s t:St} (h:K9 s t) (x:Operand):s.ev x=t.ev x:=by cases x<;>first|exact yA (h.get _)|rfl
theorem R3.eqv {s t:St} (h:K9 s t) {ids:List Nat} (hf:R3 s ids):R3 t ids :=
 λ n hn=>⟨(h.2 n).symm.trans (hf n hn).1,λ m v hv=>(hf n hn).2 m v ((h.1 m).trans hv)⟩
def Aq (s t:St) (L:List Nat):Prop:=∀ m∈L,t.get m=s.get m/\∀ i,(s.get m).i7 i=true->t.obj i=s.obj i
theorem Ki (v:Value) (i:Nat):(ofConst v).i7 i=false:=by
 unfold ofConst
 split
 ·split<;>rfl
 ·rfl
 ·split<;>rfl
 ·rfl
theorem AK {s:St} {x:Operand} {i:Nat} (h:(s.ev x).i7 i=true):∃ m,x=.tmp m/\(s.get m).i7 i=true:=by
 cases x with
 | tmp m=>exact ⟨m,rfl,DW h⟩
 | const v=>simp [St.ev,Ki] at h
 | global g=>cases h
 | func f=>cases h
theorem Aq.agree {s t:St} {L:List Nat} (h:Aq s t L) {xs:List Operand} (hL:∀ m,Operand.tmp m∈xs->m∈L):X6 s t xs:=by
 intro x hx;refine ⟨?_,λ i hi=>?_⟩
 ·cases x with
  | tmp m=>exact yA (h m (hL m hx)).1
  | _=>rfl
 ·obtain ⟨m,rfl,hm⟩:=AK hi
  exact (h m (hL m hx)).2 i hm
structure Put (s s1:St) (d:Option Nat) (T ids:List Nat) (f:AV->AV) (h:Nat->Option g9) (v:AV):Prop where
 fr:∀ n,look n s1.fr=if d=some n then some v else (look n s.fr).map f
 hp:∀ i,look i s1.hp=if i∈T\/i∈ids then h i else look i s.hp
section
variable {s t s1 t1:St} {d:Option Nat} {T ids:List Nat} {f:AV->AV} {h:Nat->Option g9} {v:AV}
theorem Put.eqv (hp:Put s s1 d T ids f h v) (he:K9 s t):Put t s1 d T ids f h v :=
 ⟨λ n=>by rw [hp.fr,he.1 n],λ i=>by rw [hp.hp,he.2 i]⟩
theorem Put.det (hp:Put s s1 d T ids f h v) (cG:Put t t1 d T ids f h v) (he:K9 s t):K9 s1 t1 :=
 ⟨λ n=>by rw [hp.fr,cG.fr,he.1 n],λ i=>by rw [hp.hp,cG.hp,he.2 i]⟩
theorem Put.get (hp:Put s s1 d T ids f h v) (hf:Trim T f) {m:Nat} (hm:d≠some m):s1.get m=f (s.get m):=by
 simp only [St.get,hp.fr,if_neg hm];cases look m s.fr with
 | none=>exact (hf.plain _ rfl).symm
 | some u=>rfl
end
theorem Wb {T:List Nat} {f:AV->AV} (hf:Trim T f):∀ {j:Nat} {l:AV},l7.nth j (f l)=(l7.nth j l).map f:=by
 have nope:∀ {j:Nat} {l:AV},(∀ a b,l≠.cons a b)->l7.nth j l=none:=by
  intro j l h;cases l with
  | cons a b=>exact absurd rfl (h a b)
  | _=>cases j<;>rfl
 have hn:∀ u:AV,(∀ a b,u≠.cons a b)->∀ a b,f u≠.cons a b:=by
  intro u hu a b e;cases u with
  | cons a b=>exact absurd rfl (hu a b)
  | K0 l=>rw [hf.K0] at e; cases e
  | C0 g l=>rw [hf.C0] at e; cases e
  | bx l=>rw [hf.bx] at e; cases e
  | rc g l=>rw [hf.rc] at e; cases e
  | ptr i p=>rcases hf.atom _ (rfl:(AV.ptr i p).ref=true) with h|h<;>rw [h] at e<;>cases e
  | at_ i p=>rcases hf.atom _ (rfl:(AV.at_ i p).ref=true) with h|h<;>rw [h] at e<;>cases e
  | sub i p x y=>rcases hf.atom _ (rfl:(AV.sub i p x y).ref=true) with h|h<;>rw [h] at e<;>cases e
  | _=>rw [hf.plain _ rfl] at e; cases e
 intro j
 induction j with
 | zero =>
  intro l;cases l with
  | cons a b=>rw [hf.cons]; rfl
  | _=>rw [nope (hn _ (by intro a b e; cases e)),nope (by intro a b e; cases e)]; rfl
 | succ j ih =>
  intro l;cases l with
  | cons a b=>rw [hf.cons]; exact ih
  | _=>rw [nope (hn _ (by intro a b e; cases e)),nope (by intro a b e; cases e)]; rfl
theorem xE (o:Oper):(∀ v,J3 o v=v)\/(o.guard=none/\∃ x j,o.op=.extract x j/\∀ v,J3 o v=(match v with
  | .K0 l=>(match l7.nth j l with
   | some v=>.K0 (.cons v .nil)
   | none=>.any)
  | _=>.any)):=by
 unfold J3
 split
 ·rename_i x j hg ho; exact .inr ⟨hg,x,j,ho,λ _=>rfl⟩
 ·exact .inl λ _=>rfl
theorem Ih {T:List Nat} {f:AV->AV} (hf:Trim T f) (o:Oper) (v:AV):J3 o (f v)=f (J3 o v):=by
 rcases xE o with h|⟨_,x,j,_,h⟩
 ·rw [h,h]
 ·rw [h,h]
  have dq:f .any=.any:=hf.plain _ rfl;cases v with
  | K0 l =>
   rw [hf.K0];simp only [Wb hf];cases hn:l7.nth j l with
   | none=>exact dq.symm
   | some u =>
    show AV.K0 (.cons (f u) .nil)=f (.K0 (.cons u .nil));rw [hf.K0,hf.cons,hf.plain .nil rfl]
  | cons a b=>rw [hf.cons]; exact dq.symm
  | C0 g l=>rw [hf.C0]; exact dq.symm
  | bx l=>rw [hf.bx]; exact dq.symm
  | rc g l=>rw [hf.rc]; exact dq.symm
  | ptr i p=>rcases hf.atom _ (rfl:(AV.ptr i p).ref=true) with e|e<;>rw [e]<;>exact dq.symm
  | at_ i p=>rcases hf.atom _ (rfl:(AV.at_ i p).ref=true) with e|e<;>rw [e]<;>exact dq.symm
  | sub i p x y=>rcases hf.atom _ (rfl:(AV.sub i p x y).ref=true) with e|e<;>rw [e]<;>exact dq.symm
  | _=>rw [hf.plain _ rfl]; try exact dq.symm
theorem Bb {o:Oper} {v:AV} {i:Nat} (h:(J3 o v).i7 i=true):v.i7 i=true:=by
 rcases xE o with e|⟨_,x,j,_,e⟩
 ·rwa [e] at h
 ·rw [e] at h
  split at h
  ·rename_i l
   split at h
   ·rename_i u hu
    have:u.i7 i=true:=by simpa [AV.i7] using h
    show l.i7 i=true;exact Ij hu this
   ·cases h
  ·cases h
def a28 (o:Oper) (s t:St) (L:List Nat):Prop:=∀ m∈L,J3 o (t.get m)=J3 o (s.get m)/\∀ i,(J3 o (s.get m)).i7 i=true->t.obj i=s.obj i
theorem a28.plain {o:Oper} (h:∀ v,J3 o v=v) {s t:St} {L:List Nat} (ha:a28 o s t L):Aq s t L:=λ m hm=>by
 have:=ha m hm;simpa only [h] using this
theorem K9.xu {s t:St} (h:K9 s t) (o:Oper) (L:List Nat):a28 o s t L:=λ m _=>⟨by rw [h.get m],λ i _=>(h.2 i).symm⟩
def Eff (o:Oper) (run:St->Option (Prop×St)) (d:Option Nat) (L T:List Nat) (s:St) (p:Prop):Prop :=
 ∃ v ids f h,Trim T f/\R3 s ids/\(∀ n∈ids,n % 1000=(d.getD 0) % 1000) /\
  (∀ i,v.i7 i=true->(∃ m∈L,(J3 o (s.get m)).i7 i=true)\/i∈ids) /\
  ∀ t,uniq t.fr->a28 o s t L->R3 t ids->∃ t1,run t=some (p,t1)/\uniq t1.fr/\Put t t1 d T ids f h v
section
variable {E:Env} {ops:Array Oper} {s t:St}
theorem Od {o:Oper} {p:Prop} {s1:St} (h:W4 E o s=some (p,s1)) {L:List Nat} (hL:∀ m,Operand.tmp m∈o.op.operands.toList->m∈L):Eff o (W4 E o) o.dst L (j9 E o s) s p:=by
 rcases xE o with dY|⟨hY,x,j,cy,dY⟩
 rotate_left
 ·have hd:G1 E.nt o.dst=true:=by
   unfold W4 at h;split at h
   ·cases h
   ·assumption
  have hr:∀ t,W4 E o t=(match (match t.ev x with|.K0 l=>(match l7.nth j l with|some v=>OR.ok v t|none=>.fail "extract")|_=>.fail "extract").get with|none=>none|some (p,v,s')=>some (p,s'.put o.dst v)):=by
   intro t;unfold W4 l7;rw [hd,cy];rfl
  have hT:j9 E o s=[]:=by unfold j9; rw [cy]
  rw [hT];rw [hr] at h;have key:∃ m l v,x=.tmp m/\Nat.beq m I3=false/\s.get m=.K0 l/\l7.nth j l=some v/\p=True:=by
   cases x with
   | tmp m =>
    cases hv:s.ev (.tmp m) with
    | K0 l =>
     rw [hv] at h;cases hn:l7.nth j l with
     | some v =>
      simp only [hn,OR.get,Option.some.injEq,Prod.mk.injEq] at h;exact ⟨m,l,v,rfl,Zl hv nofun,Bi hv nofun,hn,h.1.symm⟩
     | none=>simp only [hn,OR.get] at h; cases h
    | _ =>
     rw [hv] at h;cases h
   | const c =>
    exfalso;have:∀ l,s.ev (.const c)≠.K0 l:=by
     intro l e;simp only [St.ev] at e;unfold ofConst at e
     repeat' split at e
     all_goals cases e
    revert h;cases hv:s.ev (.const c) with
    | K0 l=>exact absurd hv (this l)
    | _=>intro h; cases h
   | global g=>cases h
   | func f=>cases h
  obtain ⟨m,l,v,rfl,si,hm,hn,rfl⟩:=key;have qJ:m∈L:=hL m (by rw [cy]; simp [Op.operands]);have qv:J3 o (s.get m)=.K0 (.cons v .nil):=by rw [dY,hm]; simp only [hn]
  refine ⟨v,[],λ u=>u,λ _=>none,Trim.id _,by simp [R3],by simp,λ i hi=>.inl ⟨m,qJ,by rw [qv]; simpa [AV.i7] using hi⟩,λ t hu ha _=>?_⟩;have e1:=(ha m qJ).1;rw [qv,dY] at e1;have rE:∃ l',t.get m=.K0 l'/\l7.nth j l'=some v:=by
   split at e1
   ·rename_i l' ew
    split at e1
    ·rename_i v' fF
     cases e1;exact ⟨l',ew,fF⟩
    ·cases e1
   ·cases e1
  obtain ⟨l',f1,f2⟩:=rE;have rF:t.ev (.tmp m)=.K0 l':=Uv si f1;exact ⟨t.put o.dst v,by rw [hr,rF]; simp only [f2]; rfl,yz hu,⟨λ n=>by rw [V7]; simp,λ i=>by rw [wc]; simp⟩⟩
 have kl:∀ {t:St},a28 o s t L->Aq s t L:=λ ha=>ha.plain dY;by_cases hp:∃ a b c,o.op=.pick a b c
 ·obtain ⟨c,a,b,ho⟩:=hp
  have hd:G1 E.nt o.dst=true:=by
   unfold W4 at h;split at h
   ·cases h
   ·assumption
  have hr:∀ t,W4 E o t=(match t.ev c with|.val .bool g=>some (True,t.put o.dst (match g with|true=>t.ev a|false=>t.ev b))|_=>none):=by
   intro t;unfold W4;rw [hd,ho];rfl
  have hT:j9 E o s=[]:=by unfold j9; rw [ho]
  rw [hT];rw [hr] at h;have gQ:o.op.operands.toList=[c,a,b]:=by rw [ho]; rfl
  rw [gQ] at hL;have key:∃ g:Bool,s.ev c=.val .bool g:=by
   split at h
   ·exact ⟨_,by assumption⟩
   ·cases h
  obtain ⟨g,hg⟩:=key;rw [hg] at h;simp only [Option.some.injEq,Prod.mk.injEq] at h;obtain ⟨rfl,rfl⟩:=h;refine ⟨(if g=true then s.ev a else s.ev b),[],λ u=>u,λ _=>none,Trim.id _,by simp [R3],by simp,?_,?_⟩
  ·intro i hi
   cases g with
   | true=>obtain ⟨m,hm,hi⟩:=AK hi; exact .inl ⟨m,hL m (by simp [<- hm]),by rw [dY]; exact hi⟩
   | false=>obtain ⟨m,hm,hi⟩:=AK hi; exact .inl ⟨m,hL m (by simp [<- hm]),by rw [dY]; exact hi⟩
  ·intro t hu ha _
   have du:=(kl ha).agree hL;have e1:=(du c (by simp)).1;have e2:=(du a (by simp)).1;have e3:=(du b (by simp)).1;refine ⟨_,by rw [hr,e1,hg,e2,e3],yz hu,⟨λ n=>by rw [V7]; cases g<;>simp,λ i=>by rw [wc]; simp⟩⟩
 ·have cG:∀ a b c,o.op≠.pick a b c:=λ a b c e=>hp ⟨a,b,c,e⟩
  have hd:G1 E.nt o.dst=true:=by
   unfold W4 at h;split at h
   ·cases h
   ·assumption
  have hr:∀ t,W4 E o t=(match (l7 E o t).get with|none=>none|some (p,v,s')=>some (p,s'.put o.dst v)):=by
   intro t;unfold W4;rw [hd];cases ho:o.op<;>first|rfl|exact absurd ho (cG _ _ _)
  rw [hr] at h;split at h
  ·cases h
  ·rename_i p' v s' hg
   cases h;obtain ⟨ids,f,h,k1,k2,k3,k4,k5⟩:=TB cG hg;refine ⟨v,ids,f,h,k1,k2,k3,?_,?_⟩
   ·intro i hi
    rcases k4 i hi with ⟨x,hx,hm⟩|hm
    ·obtain ⟨m,rfl,hm⟩:=AK hm
     exact .inl ⟨m,hL m hx,by rw [dY]; exact DW hm⟩
    ·exact .inr hm
   ·intro t hu ha hf
    obtain ⟨t1,e1,e2,e3⟩:=k5 t hu ((kl ha).agree hL) hf;exact ⟨t1.put o.dst v,by rw [hr,e1],yz e2,⟨λ n=>by rw [V7,e3.fr],λ i=>by rw [wc,e3.hp]⟩⟩
theorem Ik {g:Nat} {v:AV} (hv:s.get g=v) (hn:v≠.any):K9 s (s.put (some g) v):=by
 refine ⟨λ n=>?_,λ i=>rfl⟩;rw [V7]
 split
 ·rename_i e
  cases e;simp only [St.get] at hv;cases hl:look g s.fr with
  | none=>rw [hl] at hv; exact absurd hv.symm hn
  | some w=>rw [hl] at hv; simp at hv; rw [hv]
 ·rfl
theorem xe {o:Oper} {m:Nat} (hm:Operand.tmp m∈o.op.operands.toList):m∈looks ops o:=List.mem_append_left _ (List.mem_filterMap.2 ⟨_,hm,rfl⟩)
theorem QN {o:Oper} {i:Nat} (hi:i∈j9 E o s):∃ m∈looks ops o,(s.get m).i7 i=true:=by
 obtain ⟨x,hx,hm⟩:=Jn hi;obtain ⟨m,rfl,hm⟩:=AK hm;exact ⟨m,xe hx,DW hm⟩
theorem XJ {o:Oper} (h:∀ m∈looks ops o,t.get m=s.get m):j9 E o t=j9 E o s :=
 Ip (λ x hx=>by
  cases x with
  | tmp m=>exact yA (h m (xe hx))
  | _=>rfl)
theorem b6N {o:Oper} {i:Nat} (hi:i∈j9 E o s):∃ m∈looks ops o,(J3 o (s.get m)).i7 i=true:=by
 rcases xE o with h|⟨_,x,j,cy,_⟩
 ·obtain ⟨m,hm,bZ⟩:=QN (ops:=ops) hi
  exact ⟨m,hm,by rw [h]; exact bZ⟩
 ·unfold j9 at hi; rw [cy] at hi; cases hi
theorem QM {o:Oper} (h:∀ m∈looks ops o,J3 o (t.get m)=J3 o (s.get m)):j9 E o t=j9 E o s:=by
 rcases xE o with e|⟨_,x,j,cy,_⟩
 ·exact XJ (λ m hm=>by have:=h m hm; simpa only [e] using this)
 ·unfold j9; rw [cy]
theorem yx {o:Oper} (_hu:uniq s.fr) {p:Prop} {s1:St} (h:G5 E ops o s=some (p,s1)):Eff o (G5 E ops o) o.dst (looks ops o) (j9 E o s) s p:=by
 have hL:∀ m,Operand.tmp m∈o.op.operands.toList->m∈looks ops o:=λ m hm=>xe hm;cases hg:o.guard with
 | none =>
  have hr:∀ t,G5 E ops o t=W4 E o t:=λ t=>by unfold G5; rw [hg]
  rw [hr] at h;have:=Od h hL
  rwa [<- (funext hr:G5 E ops o=W4 E o)] at this
 | some jw =>
  obtain ⟨j,want⟩:=jw;have dY:∀ v,J3 o v=v:=by
   rcases xE o with e|⟨hY,_⟩
   ·exact e
   ·rw [hg] at hY; cases hY
  have kl:∀ {t:St} {L:List Nat},a28 o s t L->Aq s t L:=λ ha=>ha.plain dY;cases hs:zz ops j with
  | none=>unfold G5 at h; rw [hg] at h; simp [hs] at h
  | some g =>
   have qQ:g∈looks ops o:=by unfold looks; rw [hg]; simp [hs]
   have hr:∀ t,G5 E ops o t=(match t.ev (.tmp g) with
    | .raw (.tuple _)=>match G1 E.nt o.dst with
     | true=>some (True,t.put o.dst (.raw undef))
     | false=>none
    | .val .bool b=>match G1 E.nt o.dst with
     | false=>none
     | true=>match b == want with
      | true=>W4 E o (t.put (some g) (.val .bool b))
      | false=>some (True,(t.put (some g) (.val .bool b)).put o.dst (.raw undef))
    | _=>none):=λ t=>by unfold G5; rw [hg]; dsimp only; rw [hs]; rfl
   have skip:(∀ t,uniq t.fr->t.ev (.tmp g)=s.ev (.tmp g)->∃ t1,G5 E ops o t=some (True,t1)/\uniq t1.fr/\K9 t1 (t.put o.dst (.raw undef)))->Eff o (G5 E ops o) o.dst (looks ops o) (j9 E o s) s True:=by
    intro aP;refine ⟨.raw undef,[],λ u=>u,λ i=>look i s.hp,Trim.id _,by simp [R3],by simp,λ i hi=>by simp [AV.i7] at hi,λ t km ha _=>?_⟩;have ha:=kl ha;obtain ⟨t1,e1,e2,e3⟩:=aP t km (yA (ha g qQ).1);refine ⟨t1,e1,e2,⟨λ n=>by rw [e3.1,V7]; simp,λ i=>?_⟩⟩;rw [e3.2,wc]
    split
    ·rename_i hi
     obtain ⟨m,hm,bZ⟩:=QN (ops:=ops) (by simpa using hi:i∈j9 E o s);exact (ha m hm).2 i bZ
    ·rfl
   rw [hr] at h;cases hv:s.ev (.tmp g) with
   | raw w =>
    rw [hv] at h;cases w with
    | tuple vs =>
     simp only at h;cases hd:G1 E.nt o.dst with
     | false=>rw [hd] at h; cases h
     | true =>
      rw [hd] at h;simp only [Option.some.injEq,Prod.mk.injEq] at h;obtain ⟨rfl,rfl⟩:=h;exact skip (λ t km ht=>⟨_,by rw [hr,ht,hv]; simp only [hd],yz km,K9.refl _⟩)
    | _=>cases h
   | val u b =>
    rw [hv] at h;cases u with
    | bool =>
     simp only at h;cases hd:G1 E.nt o.dst with
     | false=>rw [hd] at h; cases h
     | true =>
      rw [hd] at h;simp only at h;cases hb:(b == want) with
      | false =>
       rw [hb] at h;simp only [Option.some.injEq,Prod.mk.injEq] at h;obtain ⟨rfl,rfl⟩:=h;exact skip (λ t km ht=>⟨_,by rw [hr,ht,hv]; simp only [hd,hb],yz (yz km),((Ik (Bi (ht.trans hv) (by simp)) (by simp)).symm.put _ _)⟩)
      | true =>
       rw [hb] at h;simp only at h;have bj:=Ik (Bi hv (by simp)) (by simp);obtain ⟨v,ids,f,hh,k1,k2,k3,k4,k5⟩:=Od h hL;have tq:j9 E o (s.put (some g) (.val .bool b))=j9 E o s:=Ip (λ x _=>(bj.ev x).symm);rw [tq] at k1 k5;refine ⟨v,ids,f,hh,k1,k2.eqv bj.symm,k3,?_,?_⟩
       ·intro i hi
        rcases k4 i hi with ⟨m,hm,bZ⟩|hm
        ·exact .inl ⟨m,hm,by rw [bj.get]; exact bZ⟩
        ·exact .inr hm
       ·intro t km ha hf
        have ha:=kl ha;have qB:t.ev (.tmp g)=.val .bool b:=(yA (ha g qQ).1).trans hv;have bO:=Ik (Bi qB (by simp)) (by simp);obtain ⟨t1,e1,e2,e3⟩:=k5 (t.put (some g) (.val .bool b)) (yz km) (λ m hm=>by
         rw [<- bO.get,<- bj.get,dY,dY];refine ⟨(ha m hm).1,λ i hi=>?_⟩;have:=(ha m hm).2 i hi;simpa [St.obj,wc] using this) (hf.eqv bO)
        refine ⟨t1,by rw [hr,qB]; simp only [hd,hb,e1],e2,e3.eqv bO.symm⟩
    | _=>cases h
   | _=>rw [hv] at h; cases h
theorem Pl {o:Oper} (hu:uniq s.fr) (he:K9 s t) (ht:uniq t.fr) {p:Prop} {s1:St} (h:G5 E ops o s=some (p,s1)):∃ t1,G5 E ops o t=some (p,t1)/\uniq t1.fr/\K9 s1 t1:=by
 obtain ⟨v,ids,f,hh,k1,k2,k3,k4,k5⟩:=yx hu h;obtain ⟨s1',e1,_,e3⟩:=k5 s hu ((K9.refl s).xu _ _) k2;rw [h] at e1; cases e1;obtain ⟨t1,f1,f2,f3⟩:=k5 t ht (he.xu _ _) (k2.eqv he);exact ⟨t1,f1,f2,e3.det f3 he⟩
theorem O8 {o:Oper} (hu:uniq s.fr) {p:Prop} {s1:St} (h:G5 E ops o s=some (p,s1)):uniq s1.fr:=by
 obtain ⟨t1,h1,h2,_⟩:=Pl hu (K9.refl s) hu h;rw [h] at h1; cases h1; exact h2
theorem QC:∀ {v:AV} {i:Nat},v.clean=true->v.i7 i=false:=by
 intro v
 induction v with
 | cons a b iha ihb =>
  intro i h;simp only [AV.clean,Bool.and_eq_true] at h;simp [AV.i7,iha h.1,ihb h.2]
 | K0 l ih=>intro i h; exact ih h
 | C0 f l ih=>intro i h; exact ih h
 | bx l ih=>intro i h; exact ih h
 | rc f l ih=>intro i h; exact ih h
 | ptr i p=>intro i h; cases h
 | at_ i p=>intro i h; cases h
 | sub i p a b=>intro i h; cases h
 | _=>intro i h; rfl
theorem b6U {o:Oper} (hu:uniq s.fr) {p:Prop} {s1:St} (h:G5 E ops o s=some (p,s1)) {m:Nat} (hm:o.dst≠some m) (hc:(s.get m).clean=true):(s1.get m).clean=true:=by
 obtain ⟨v,ids,f,hh,k1,k2,k3,k4,k5⟩:=yx hu h;obtain ⟨s1',e1,_,e3⟩:=k5 s hu ((K9.refl s).xu _ _) k2;rw [h] at e1; cases e1;rw [e3.get k1 hm,k1.fix _ (λ i _=>QC hc)];exact hc
end
end Go.Ex
namespace Go.Ex
section
variable {E:Env} {ops:Array Oper} {s t:St}
theorem get_some {m:Nat} {v:AV} (h:look m s.fr=some v):s.get m=v:=by simp [St.get,h]
theorem Wt {m i:Nat} (h:(s.get m).i7 i=true):∃ v,look m s.fr=some v/\v.i7 i=true:=by
 simp only [St.get] at h;cases hl:look m s.fr with
 | none=>rw [hl] at h; cases h
 | some v=>rw [hl] at h; exact ⟨v,rfl,h⟩
theorem Qf {x y:Oper} (h:indep ops x y=true):(∀ d,x.dst=some d->d∉looks ops y)/\(∀ d,y.dst=some d->d∉looks ops x)/\(x.dst.getD 0) % 1000≠(y.dst.getD 0) % 1000:=by
 simp only [indep,Bool.and_eq_true,Bool.not_eq_true',Lk] at h;obtain ⟨⟨h3,h4⟩,h5⟩:=h;refine ⟨?_,?_,λ e=>?_⟩
 ·intro d hd
  rw [hd] at h3;simp only [Bool.and_eq_true,Bool.not_eq_true'] at h3;intro hm;have:=h3.1;simp [hm] at this
 ·intro d hd
  rw [hd] at h4;simp only [Bool.not_eq_true'] at h4;intro hm;simp [hm] at h4
 ·rw [e] at h5
  simp at h5
theorem Dj {ids:List Nat} (hn:R3 s ids) {n m:Nat} (h:n∈ids):(s.get m).i7 n=false:=by
 cases hm:(s.get m).i7 n with
 | false=>rfl
 | true =>
  obtain ⟨v,hv,qw⟩:=Wt hm;rw [(hn n h).2 m v hv] at qw; cases qw
theorem Ug {u:AV} (hr:u.ref=true) {i j:Nat} (h1:u.i7 i=true) (h2:u.i7 j=true):i=j:=by
 cases u<;>simp only [AV.ref] at hr<;>first|(cases hr; done)|(simp only [AV.i7] at h1 h2; exact (Nat.eq_of_beq_eq_true h1).trans (Nat.eq_of_beq_eq_true h2).symm)
theorem Zb {u:AV} (h:u.plain=true) {i:Nat}:u.i7 i=false:=by
 cases u<;>simp only [AV.plain] at h<;>first|rfl|(cases h; done)
theorem Trim.stay {T:List Nat} {f:AV->AV} (hf:Trim T f) {n:Nat} (hn:n∉T):∀ u:AV,u.i7 n=true->(f u).i7 n=true:=by
 refine AV.shape _ (λ u hu h=>?_) (λ u hu h=>?_) ?_ ?_ ?_ ?_ ?_
 ·rw [Zb hu] at h; cases h
 ·rw [hf.wK u hu (λ i hi=>?_)]
  ·exact h
  ·cases hm:u.i7 i with
   | false=>rfl
   | true=>exact absurd (Ug hu hm h▸hi) hn
 ·intro a b ha hb h
  rw [hf.cons];simp only [AV.i7,Bool.or_eq_true] at h ⊢;exact h.imp ha hb
 ·intro l hl h; rw [hf.K0]; exact hl h
 ·intro k l hl h; rw [hf.C0]; exact hl h
 ·intro l hl h; rw [hf.bx]; exact hl h
 ·intro k l hl h; rw [hf.rc]; exact hl h
theorem swap {x y:Oper} (hi:indep ops x y=true) (hu:uniq s.fr) (hx:∀ d,x.dst=some d->(s.get d).clean=true) {p q:Prop} {s1 s2:St} (h1:G5 E ops x s=some (p,s1)) (h2:G5 E ops y s1=some (q,s2))
  (hP:wz ops x s (j9 E x s) y (j9 E y s1)) :
  ∃ s1' s2',G5 E ops y s=some (q,s1')/\G5 E ops x s1'=some (p,s2')/\uniq s1'.fr/\uniq s2'.fr/\K9 s2' s2/\j9 E y s=j9 E y s1/\j9 E x s1'=j9 E x s /\
   (∀ m∈looks ops x,J3 x (s1'.get m)=J3 x (s.get m))/\∀ (z:Oper) m,∀ i∈j9 E x s,(J3 z (s1'.get m)).i7 i=true->(J3 z (s.get m)).i7 i=true:=by
 obtain ⟨ax,ay,jq⟩:=Qf hi;obtain ⟨P1,P2,P3⟩:=hP;have lL:=O8 hu h1;obtain ⟨v,ids,f,g,k1,k2,k3,k4,k5⟩:=yx hu h1;obtain ⟨_,e1,_,il⟩:=k5 s hu ((K9.refl s).xu _ _) k2;rw [h1] at e1; cases e1;obtain ⟨v',ids',f',g',m1,m2,m3,m4,m5⟩:=yx lL h2;obtain ⟨_,e2,_,ji⟩:=m5 s1 lL ((K9.refl s1).xu _ _) m2;rw [h2] at e2; cases e2;have jW:∀ d,x.dst=some d->y.dst=some d->False:=λ d e1 e2=>jq (by rw [e1,e2]);have cD:∀ m∈looks ops y,J3 y (s1.get m)=J3 y (s.get m):=by
  intro m hm;rw [il.get k1 (λ e=>ax m e hm),Ih k1,k1.fix _ (λ i hi=>P1 m hm i hi)]
 have tj:j9 E y s=j9 E y s1:=(QM cD).symm;have nd:∀ i∈j9 E y s1,∃ m∈looks ops y,(J3 y (s.get m)).i7 i=true:=by
  intro i hi;obtain ⟨m,hm,bZ⟩:=b6N (ops:=ops) hi;exact ⟨m,hm,by rw [<- cD m hm]; exact bZ⟩
 have d1:∀ i∈j9 E x s,i∉j9 E y s1:=by
  intro i hi hj;obtain ⟨m,hm,bZ⟩:=nd i hj;rw [P1 m hm i hi] at bZ; cases bZ
 have d2:∀ i∈ids,i∉j9 E y s1:=by
  intro i hi hj;obtain ⟨m,hm,bZ⟩:=nd i hj;have bZ:=Bb bZ;rw [Dj k2 hi] at bZ; cases bZ
 have d3:∀ i∈j9 E x s,i∉ids':=λ i hi hj=>P3 i hi (m3 i hj);have d4:∀ i∈ids,i∉ids':=λ i hi hj=>jq ((k3 i hi).symm.trans (m3 i hj));have fQ:∀ i,i∉j9 E x s->i∉ids->look i s1.hp=look i s.hp:=λ i h1 h2=>by rw [il.hp,if_neg (by rintro (h|h); exact h1 h; exact h2 h)]
 have du:a28 y s1 s (looks ops y):=by
  intro m hm;refine ⟨(cD m hm).symm,λ i hi=>?_⟩;rw [cD m hm] at hi;refine (fQ i (λ h=>?_) (λ h=>?_)).symm
  ·rw [P1 m hm i h] at hi; cases hi
  ·have hi:=Bb hi
   rw [Dj k2 h] at hi; cases hi
 have jv:R3 s ids':=by
  intro n hn;refine ⟨?_,λ m w hw=>?_⟩
  ·rw [<- fQ n (λ h=>d3 n h hn) (λ h=>d4 n h hn)]; exact (m2 n hn).1
  ·by_cases hd:x.dst=some m
   ·have:=hx m hd
    rw [get_some hw] at this;exact QC this
   ·cases rn:w.i7 n with
    | false=>rfl
    | true =>
     have:=k1.stay (λ h=>d3 n h hn) w rn;have h3:=(m2 n hn).2 m (f w) (by rw [il.fr,if_neg hd,hw]; rfl);rw [this] at h3; cases h3
 obtain ⟨s1',f1,fu,fJ⟩:=m5 s hu du jv;have iC:∀ m∈looks ops x,J3 x (s1'.get m)=J3 x (s.get m):=by
  intro m hm;rw [fJ.get m1 (λ e=>ay m e hm),Ih m1,m1.fix _ (λ i hi=>P2 m hm i hi)]
 have pV:a28 x s s1' (looks ops x):=by
  intro m hm;refine ⟨iC m hm,λ i hi=>?_⟩;show look i s1'.hp=look i s.hp;rw [fJ.hp,if_neg];rintro (h|h)
  ·rw [P2 m hm i h] at hi; cases hi
  ·have hi:=Bb hi
   rw [Dj jv h] at hi; cases hi
 have fF:∀ i,v'.i7 i=true->i∉j9 E x s/\i∉ids:=by
  intro i hi;rcases m4 i hi with ⟨m,hm,bZ⟩|bZ
  ·rw [cD m hm] at bZ
   refine ⟨λ h=>?_,λ h=>?_⟩
   ·rw [P1 m hm i h] at bZ; cases bZ
   ·have bZ:=Bb bZ
    rw [Dj k2 h] at bZ; cases bZ
  ·exact ⟨λ h=>d3 i h bZ,λ h=>d4 i h bZ⟩
 have hv:∀ i,v.i7 i=true->i∉j9 E y s1:=by
  intro i hi;rcases k4 i hi with ⟨m,hm,bZ⟩|bZ
  ·exact λ h=>by rw [P2 m hm i h] at bZ; cases bZ
  ·exact d2 i bZ
 have py:R3 s1' ids:=by
  intro n hn;refine ⟨?_,λ m w hw=>?_⟩
  ·rw [fJ.hp,if_neg]
   ·exact (k2 n hn).1
   ·rintro (h|h)
    ·exact d2 n hn h
    ·exact d4 n hn h
  ·rw [fJ.fr] at hw
   split at hw
   ·cases hw
    cases hm:v'.i7 n with
    | false=>rfl
    | true=>exact absurd hn (fF n hm).2
   ·cases hl:look m s.fr with
    | none=>rw [hl] at hw; cases hw
    | some u =>
     rw [hl] at hw;cases hw;cases hm:(f' u).i7 n with
     | false=>rfl
     | true=>have:=m1.i7 u hm; rw [(k2 n hn).2 m u hl] at this; cases this
 obtain ⟨s2',g1,gu,lP⟩:=k5 s1' fu pV py;refine ⟨s1',s2',f1,g1,fu,gu,⟨λ n=>?_,λ i=>?_⟩,tj,QM iC,iC,?_⟩
 ·rw [lP.fr,ji.fr,fJ.fr,il.fr]
  by_cases a:x.dst=some n
  ·rw [if_pos a,if_neg (λ b=>jW n a b),if_pos a,Option.map_some,m1.fix v]
   intro i hi;cases hm:v.i7 i with
   | false=>rfl
   | true=>exact absurd hi (hv i hm)
  ·rw [if_neg a,if_neg a]
   by_cases b:y.dst=some n
   ·rw [if_pos b,if_pos b,Option.map_some,k1.fix v']
    intro i hi;cases hm:v'.i7 i with
    | false=>rfl
    | true=>exact absurd hi (fF i hm).1
   ·rw [if_neg b,if_neg b,Option.map_map,Option.map_map]
    congr 1
    funext u
    exact k1.comm m1 u
 ·rw [lP.hp,ji.hp,fJ.hp,il.hp]
  by_cases a:i∈j9 E x s\/i∈ids
  ·rw [if_pos a,if_neg,if_pos a]
   rintro (b|b)
   ·rcases a with a|a
    ·exact d1 i a b
    ·exact d2 i a b
   ·rcases a with a|a
    ·exact d3 i a b
    ·exact d4 i a b
  ·rw [if_neg a,if_neg a]
 ·intro z m i hi hm
  by_cases b:y.dst=some m
  ·have:s1'.get m=v':=get_some (by rw [fJ.fr,if_pos b])
   rw [this] at hm;exact absurd hi (fF i (Bb hm)).1
  ·rw [fJ.get m1 b,Ih m1] at hm
   exact m1.i7 _ hm
end
end Go.Ex
namespace Go.Ex
section
variable {E:Env} {ops:Array Oper} {M:Nat->Nat} {s t:St}
def rem (ops:Array Oper) (l:List Nat):List Oper:=l.filterMap λ i=>ops[i]?
theorem Dm {i:Nat} {o:Oper} {l:List Nat} (h:ops[i]?=some o):rem ops (i::l)=o::rem ops l:=by simp [rem,h]
theorem AN {l m:List Nat}:rem ops (l++m)=rem ops l++rem ops m:=by simp [rem,List.filterMap_append]
def M6 (s:St) (l:List Oper):Prop:=∀ o∈l,∀ d,o.dst=some d->(s.get d).clean=true
def N2:List Oper->Prop
 | []=>True
 | o::l=>(∀ d,o.dst=some d->∀ x∈l,x.dst≠some d)/\N2 l
theorem M6.sub {l l':List Oper} (h:M6 s l) (hs:∀ o∈l',o∈l):M6 s l':=λ o ho=>h o (hs o ho)
def nl (ops:Array Oper) (l:List Nat):List Nat:=l.filter (λ j=>!yn ops j)
theorem LD {l m:List Nat}:nl ops (l++m)=nl ops l++nl ops m:=by simp [nl]
theorem TH {l:List Nat} {i:Nat} (hi:i<ops.size) (h:∀ j∈l,j<i) (hm:∀ j∈l,((D3 ops.toList []).getD i 0).testBit j=false):nl ops l=l :=
 List.filter_eq_self.2 (λ j hj=>by
  cases e:yn ops j with
  | false=>rfl
  | true =>
   unfold yn at e;rw [List.all_eq_true] at e;have:=e i (List.mem_range.2 hi);rw [hm j hj,show Nat.blt j i=true by rw [Nat.blt_eq]; exact h j hj] at this;cases this)
theorem b67 {j:Nat} (h:yn ops j=false):j+1<ops.size:=by
 rcases Nat.lt_or_ge (j+1) ops.size with h1|h1
 ·exact h1
 ·exfalso
  have:yn ops j=true:=by
   unfold yn;rw [List.all_eq_true];intro i hi;have:=List.mem_range.1 hi;have:Nat.blt j i=false:=by
    cases e:Nat.blt j i with
    | false=>rfl
    | true=>rw [Nat.blt_eq] at e; omega
   rw [this]; rfl
  rw [this] at h; cases h
theorem TJ {l:List Nat}:∀ o∈rem ops (nl ops l),o∈rem ops l:=λ o ho=>by
 obtain ⟨j,h1,h2⟩:=List.mem_filterMap.1 ho;exact List.mem_filterMap.2 ⟨j,(List.mem_filter.1 h1).1,h2⟩
theorem M6.step {o:Oper} {l:List Oper} (hu:uniq s.fr) (hc:M6 s l) (hd:∀ x∈l,∀ d,x.dst=some d->o.dst≠some d) {p:Prop} {s1:St} (h:G5 E ops o s=some (p,s1)):M6 s1 l :=
 λ x hx d fX=>b6U hu h (hd x hx d fX) (hc x hx d fX)
def SU (E:Env) (ops:Array Oper) (acc bI:List (Nat×St)):Prop :=
 ∀ e'∈bI,∃ e∈acc,e.1=e'.1/\∀ x,ops[e.1]?=some x->(∀ m∈looks ops x,J3 x (e'.2.get m)=J3 x (e.2.get m))/\j9 E x e'.2=j9 E x e.2/\∀ (z:Oper) m,∀ k∈j9 E x e.2,(J3 z (e'.2.get m)).i7 k=true->(J3 z (e.2.get m)).i7 k=true
theorem wz.zR {x:Oper} {sx sx':St} {y:Oper} {Ty Ty':List Nat} (h:wz ops x sx (j9 E x sx) y Ty) (h1:∀ m∈looks ops x,J3 x (sx'.get m)=J3 x (sx.get m)) (h2:j9 E x sx'=j9 E x sx) (h3:∀ (z:Oper) m,∀ k∈j9 E x sx,(J3 z (sx'.get m)).i7 k=true->(J3 z (sx.get m)).i7 k=true) (hT:Ty'=Ty) :
  wz ops x sx' (j9 E x sx') y Ty':=by
 subst hT;obtain ⟨P1,P2,P3⟩:=h;rw [h2];refine ⟨λ m hm i hi=>?_,λ m hm i hi=>by rw [h1 m hm]; exact P2 m hm i hi,P3⟩;cases hh:(J3 y (sx'.get m)).i7 i with
 | false=>rfl
 | true=>have:=h3 y m i hi hh; rw [P1 m hm i hi] at this; cases this
theorem Pt {o:Oper} (h:K9 s t):j9 E o t=j9 E o s:=Ip (λ x _=>(h.ev x).symm)
theorem Jy:∀ {l:List Nat} {acc bI:List (Nat×St)} {s t s':St},SU E ops acc bI->uniq s.fr->K9 s t->uniq t.fr->Z8 E ops M acc l s s'->∃ t',Z8 E ops M bI l t t'/\K9 s' t'
 | [],acc,bI,s,t,s',_,_,he,_,h=>⟨t,rfl,by rw [<- show s=s' from h]; exact he⟩
 | i::l,acc,bI,s,t,s',hg,hu,he,ht,⟨o,ho,hc,p,s1,h1,h2,h3⟩=>by
  obtain ⟨t1,k1,k2,k3⟩:=Pl hu he ht h1;obtain ⟨t',m1,m2⟩:=Jy (acc:=(i,s)::acc) (bI:=(i,t)::bI) (λ e' eB=>by
   rcases List.mem_cons.1 eB with rfl|eB
   ·exact ⟨(i,s),by simp,rfl,λ x _=>⟨λ m _=>by show J3 x (t.get m)=J3 x (s.get m); rw [he.get m],Pt he,λ z m k _ hm=>by have hm:(J3 z (t.get m)).i7 k=true:=hm; rw [<- he.get m] at hm; exact hm⟩⟩
   ·obtain ⟨e,h4,h5,h6⟩:=hg e' eB; exact ⟨e,by simp [h4],h5,h6⟩) (O8 hu h1) k3 k2 h3
  refine ⟨t',⟨o,ho,λ e' eB=>?_,p,t1,k1,h2,m1⟩,m2⟩;obtain ⟨e,h4,h5,h6⟩:=hg e' eB;rw [<- h5];rcases hc e h4 with h|⟨x,hx,hP⟩
  ·exact .inl h
  ·obtain ⟨g1,g2,g3⟩:=h6 x hx
   exact .inr ⟨x,hx,hP.zR g1 g2 g3 (Pt he)⟩
theorem CE {i:Nat} {o:Oper} (ho:ops[i]?=some o) {post:List Nat}:∀ {pre:List Nat} {acc:List (Nat×St)} {s s':St},N2 (rem ops (pre++i::post))->(∀ j∈pre,(M i).testBit j=false/\∀ x,ops[j]?=some x->indep ops x o=true)->uniq s.fr->M6 s (rem ops pre) ->
  Z8 E ops M acc (pre++i::post) s s' ->
  ∃ p s1 s2,G5 E ops o s=some (p,s1)/\p/\Z8 E ops M acc (pre++post) s1 s2/\K9 s2 s'/\∀ e∈acc,(M i).testBit e.1=true\/∃ x,ops[e.1]?=some x/\wz ops x e.2 (j9 E x e.2) o (j9 E o s)
 | [],acc,s,s',_,_,hu,_,⟨o',eS,hc,p,s1,h1,h2,h3⟩=>by
  rw [ho] at eS; cases eS;obtain ⟨t',m1,m2⟩:=Jy (acc:=(i,s)::acc) (bI:=acc) (λ e he=>⟨e,by simp [he],rfl,λ x _=>⟨λ _ _=>rfl,rfl,λ _ _ _ _ h=>h⟩⟩) (O8 hu h1) (K9.refl s1) (O8 hu h1) h3;exact ⟨p,s1,t',h1,h2,m1,m2.symm,hc⟩
 | j::pre,acc,s,s',fc,dv,hu,cO,⟨x,hx,hc,p,s1,h1,h2,h3⟩=>by
  have lL:=O8 hu h1;have er:rem ops (j::pre++i::post)=x::rem ops (pre++i::post):=Dm hx;rw [er] at fc;rw [Dm hx] at cO;have mP:∀ y∈rem ops pre,∀ d,y.dst=some d->x.dst≠some d:=λ y hy d rj fX=>fc.1 d fX y (by rw [AN]; exact List.mem_append_left _ hy) rj;have pL:M6 s1 (rem ops pre):=M6.step hu (λ y hy=>cO y (by simp [hy])) mP h1;obtain ⟨q,sa,sb,k1,k2,k3,k4,k5⟩:=CE ho (pre:=pre) (acc:=(j,s)::acc) fc.2 (λ y hy=>dv y (by simp [hy])) lL pL h3;obtain ⟨cH,fh⟩:=dv j (by simp);have hP:wz ops x s (j9 E x s) o (j9 E o s1):=by
   rcases k5 (j,s) (by simp) with h|⟨x',eg,hP⟩
   ·rw [cH] at h; cases h
   ·have eg:ops[j]?=some x':=eg
    rw [hx] at eg; cases eg; exact hP
  obtain ⟨s1',s2',m1,m2,m3,m4,m5,m6,m7,m8,m9⟩:=swap (fh x hx) hu (λ d hd=>cO x (by simp) d hd) h1 k1 hP;obtain ⟨t',n1,n2⟩:=Jy (acc:=(j,s)::acc) (bI:=(j,s1')::acc) (λ e' eB=>by
   rcases List.mem_cons.1 eB with rfl|eB
   ·refine ⟨(j,s),by simp,rfl,λ y hy=>?_⟩
    have hy:ops[j]?=some y:=hy;rw [hx] at hy; cases hy;exact ⟨m8,m7,m9⟩
   ·exact ⟨e',by simp [eB],rfl,λ y _=>⟨λ _ _=>rfl,rfl,λ _ _ _ _ h=>h⟩⟩) (O8 lL k1) m5.symm m4 k3
  refine ⟨q,s1',t',m1,k2,⟨x,hx,λ e he=>?_,p,s2',m2,h2,n1⟩,n2.symm.trans k4,λ e he=>?_⟩
  ·rcases hc e he with h|⟨y,hy,hP⟩
   ·exact .inl h
   ·exact .inr ⟨y,hy,by rw [m7]; exact hP⟩
  ·rcases k5 e (by simp [he]) with h|⟨y,hy,hP⟩
   ·exact .inl h
   ·exact .inr ⟨y,hy,by rw [m6]; exact hP⟩
end
end Go.Ex
namespace Go.Ex
section
variable {E:Env} {ops:Array Oper} {B:D7} {S:Nat->Prop} {ι:Ix} {s:St} {a:Act} {w:World}
def idxs (n:Nat) (listed:Array Bool):List Nat:=(List.range n).filter λ i=>!listed.getD i true
theorem E4 {n i:Nat} {listed:Array Bool}:i∈idxs n listed↔i<n/\listed.getD i true=false:=by
 simp [idxs]
theorem Bs (n:Nat) (listed:Array Bool):(idxs n listed).Pairwise (·<·):=List.Pairwise.filter _ List.pairwise_lt_range
theorem AT {n i:Nat} {listed:Array Bool} (hs:listed.size=n) (hi:i<n):idxs n (listed.setIfInBounds i true)=(idxs n listed).filter (λ k=>!(k == i)):=by
 unfold idxs;rw [List.filter_filter];refine List.filter_congr (λ k hk=>?_);by_cases e:k=i
 ·subst e
  have:k<listed.size:=by omega
  simp [this]
 ·have:(listed.setIfInBounds i true).getD k true=listed.getD k true:=getD_set_ne true (Ne.symm e)
  rw [this];simp [e]
theorem Jp {n i:Nat} {listed:Array Bool} (hi:i∈idxs n listed):∃ pre post,idxs n listed=pre++i::post/\(∀ j∈pre,j<i)/\(idxs n listed).filter (λ k=>!(k == i))=pre++post:=by
 obtain ⟨pre,post,e⟩:=List.append_of_mem hi;have hp:=Bs n listed;rw [e,List.pairwise_append] at hp;obtain ⟨h1,h2,h3⟩:=hp;have bf:∀ j∈pre,j<i:=λ j hj=>h3 j hj i (by simp);have fj:∀ j∈post,i<j:=λ j hj=>(List.pairwise_cons.1 h2).1 j hj;refine ⟨pre,post,e,bf,?_⟩;rw [e,List.filter_append,List.filter_cons];simp only [beq_self_eq_true,Bool.not_true,Bool.false_eq_true,if_false];rw [List.filter_eq_self.2 (λ j hj=>by have:=bf j hj; simp; omega),List.filter_eq_self.2 (λ j hj=>by have:=fj j hj; simp; omega)]
theorem Dt (h:wi ops=true):∀ i o,ops[i]?=some o->(∀ e∈o.after,Region.binds .any e=true->e.on<i) /\
  (∀ j,j<ops.size->((D3 ops.toList []).getD i 0).testBit j=true->∃ e∈o.after,Region.binds .any e=true/\(e.on=j\/((D3 ops.toList []).getD e.on 0).testBit j=true)) /\
  (∀ j x,j<i->ops[j]?=some x->((D3 ops.toList []).getD i 0).testBit j=true\/indep ops x o=true):=by
 intro i o ho;have hi:i<ops.toList.length:=by
  have:=(Array.getElem?_eq_some_iff.1 ho).1;simpa using this
 simp only [wi,List.all_eq_true,List.mem_range] at h;have h1:=h i hi;have hl:ops.toList[i]?=some o:=by simpa using ho
 rw [hl] at h1;simp only [Bool.and_eq_true,List.all_eq_true,List.mem_range] at h1;obtain ⟨⟨k1,k2⟩,k3⟩:=h1;refine ⟨?_,?_,?_⟩
 ·intro e he hb
  simp only [KH,List.all_eq_true] at k1;have:=k1 e (by simpa using he);rw [hb] at this;simpa [Nat.blt_eq] using this
 ·intro j hj hm
  simp only [LA,List.all_eq_true,List.mem_range] at k2;have:=k2 j (by simpa using hj);rw [hm] at this;simp only [Bool.not_true,Bool.false_or,List.any_eq_true,Bool.and_eq_true,Bool.or_eq_true] at this;obtain ⟨e,he,hb,h3⟩:=this;exact ⟨e,by simpa using he,hb,h3.imp Nat.eq_of_beq_eq_true id⟩
 ·intro j x hj hx
  have:=k3 j hj;have eg:ops.toList[j]?=some x:=by simpa using hx
  rw [eg] at this;simpa using this
def yl (ops:Array Oper) (listed:Array Bool):Prop:=∀ k o,ops[k]?=some o->listed.getD k true=true->∀ e∈o.after,Region.binds .any e=true->listed.getD e.on false=true
theorem T1 {listed:Array Bool} {k:Nat} (h:listed.getD k false=true):listed.getD k true=true:=by
 rcases Nat.lt_or_ge k listed.size with h'|h'
 ·simp [h'] at h ⊢; exact h
 ·simp [Array.getElem?_eq_none h'] at h
theorem DN {M:Nat->Nat} (hM:∀ i o,ops[i]?=some o->(∀ e∈o.after,Region.binds .any e=true->e.on<i)/\(∀ j,j<ops.size->(M i).testBit j=true->∃ e∈o.after,Region.binds .any e=true/\(e.on=j\/(M e.on).testBit j=true)))
  {listed:Array Bool} (hc:yl ops listed):∀ (i:Nat) (o:Oper),ops[i]?=some o->(∀ e∈o.after,Region.binds .any e=true->listed.getD e.on false=true)->∀ j,j<ops.size->(M i).testBit j=true->listed.getD j false=true:=by
 intro i
 induction i using Nat.strongRecOn with
 | _ i ih =>
  intro o ho hp j hj hm;obtain ⟨e,he,hb,h3⟩:=(hM i o ho).2 j hj hm;have bf:=(hM i o ho).1 e he hb;rcases h3 with rfl|h3
  ·exact hp e he hb
  ·have hi:i<ops.size:=(Array.getElem?_eq_some_iff.1 ho).1
   have nL:ops[e.on]?=some (ops[e.on]'(by omega)):=Array.getElem?_eq_getElem (by omega);exact ih e.on bf _ nL (hc e.on _ nL (T1 (hp e he hb))) j hj h3
theorem QW (hE:C4 E B) (hn:B.n=E.nt) (hd:wi ops=true) {Q:Exit->Act->World->Prop} {s0:St} (hQ:∀ S ι a w,RS B S ι s0 a w->Q .normal a w) :
  ∀ (fuel:Nat) (listed:Array Bool) (S:Nat->Prop) (ι:Ix) (s s':St) (a:Act) (w:World),listed.size=ops.size->(idxs ops.size listed).length=fuel->yl ops listed->N2 (rem ops (idxs ops.size listed))->uniq s.fr->M6 s (rem ops (nl ops (idxs ops.size listed))) ->
   Z8 E ops (λ i=>(D3 ops.toList []).getD i 0) [] (idxs ops.size listed) s s'->K9 s' s0->RS B S ι s a w->wpAny E.P .any ops Q fuel listed a w:=by
 have hM:=Dt hd;have a91:∀ {S:Nat->Prop} {ι:Ix} {s t:St} {a:Act} {w:World},K9 s t->RS B S ι s a w->RS B S ι t a w:=by
  intro S ι s t a w he h;have dy:∀ {v:AV} {vs:List Value},VX w.heap S ι s.hp v vs->VX w.heap S ι t.hp v vs:=by
   intro v vs hv;exact VX.other (λ i _=>(he.2 i).symm) (λ i _=>E2.refl ι i) hv
  exact ⟨⟨h.hs.os,h.hs.tape,h.hs.out,h.hs.size,h.hs.frame,h.hs.slt,h.hs.s0,h.hs.s1,λ i e hi=>h.hs.ob i e ((he.2 i).trans hi),λ i e hi=>h.hs.bl i e ((he.2 i).trans hi),λ i j ei ej hi hj=>h.hs.dj i j ei ej ((he.2 i).trans hi) ((he.2 j).trans hj),λ q hq=>by obtain ⟨r1,⟨e,r2⟩,r3⟩:=h.hs.pin q hq; exact ⟨r1,⟨e,(he.2 q.1).symm.trans r2⟩,r3⟩⟩,h.dfr,h.sz,
   λ m v hv=>dy (h.fr m v ((he.1 m).trans hv))⟩
 intro fuel
 induction fuel with
 | zero =>
  intro listed S ι s s' a w aW hlen cO fc hu fx aP he cq;have fM:idxs ops.size listed=[]:=List.length_eq_zero_iff.1 hlen;rw [fM] at aP;have oz:s=s':=aP;subst oz;refine ⟨?_,hQ S ι a w (a91 he cq)⟩;rw [List.eq_nil_iff_forall_not_mem];intro i hi;obtain ⟨h1,o,h2,_⟩:=mem_ready.1 hi;have:i∈idxs ops.size listed:=E4.2 ⟨(Array.getElem?_eq_some_iff.1 h2).1,h1⟩;rw [fM] at this;cases this
 | succ fuel ih =>
  intro listed S ι s s' a w aW hlen cO fc hu fx aP he cq;refine ⟨λ hr=>?_,λ i hi=>?_⟩
  ·exfalso
   cases kK:idxs ops.size listed with
   | nil=>rw [kK] at hlen; cases hlen
   | cons i l =>
    have br:i∈idxs ops.size listed:=by rw [kK]; simp
    obtain ⟨h1,h2⟩:=E4.1 br;have ho:ops[i]?=some ops[i]:=Array.getElem?_eq_getElem h1;have:i∈Region.ready .any ops listed:=by
     refine mem_ready.2 ⟨h2,ops[i],ho,λ e he hb=>?_⟩;have bf:=(hM i _ ho).1 e he hb;cases hle:listed.getD e.on true with
     | true =>
      have:e.on<listed.size:=by omega
      simp [this] at hle ⊢; exact hle
     | false =>
      exfalso;have iQ:e.on∈idxs ops.size listed:=E4.2 ⟨by omega,hle⟩;have hs:=Bs ops.size listed;rw [kK] at hs iQ;rcases List.mem_cons.1 iQ with e1|e1
      ·omega
      ·have:=(List.pairwise_cons.1 hs).1 _ e1; omega
    rw [hr] at this;cases this
  ·obtain ⟨h1,o,ho,bc⟩:=mem_ready.1 hi
   have dv:i<ops.size:=(Array.getElem?_eq_some_iff.1 ho).1;have br:i∈idxs ops.size listed:=E4.2 ⟨dv,h1⟩;obtain ⟨pre,post,e1,bf,e2⟩:=Jp br;have er:rem ops (pre++i::post)=rem ops pre++o::rem ops post:=by simp [rem,List.filterMap_append,ho]
   have er2:rem ops (pre++post)=rem ops pre++rem ops post:=by simp [rem,List.filterMap_append]
   rw [e1] at fc fx aP;have fh:∀ j∈pre,((D3 ops.toList []).getD i 0).testBit j=false/\∀ x,ops[j]?=some x->indep ops x o=true:=by
    intro j hj;have fZ:((D3 ops.toList []).getD i 0).testBit j=false:=by
     cases hm:((D3 ops.toList []).getD i 0).testBit j with
     | false=>rfl
     | true =>
      exfalso;have iT:=DN (M:=λ i=>(D3 ops.toList []).getD i 0) (λ i o ho=>⟨(hM i o ho).1,(hM i o ho).2.1⟩) cO i o ho bc j (by have:=bf j hj; omega) hm;have:j∈idxs ops.size listed:=by rw [e1]; simp [hj]
      have:=(E4.1 this).2;rw [T1 iT] at this;cases this
    refine ⟨fZ,λ x hx=>?_⟩;rcases (hM i o ho).2.2 j x (bf j hj) hx with hm|hm
    ·rw [fZ] at hm; cases hm
    ·exact hm
   have pM:M6 s (rem ops (nl ops (pre++post))):=fx.sub (λ y hy=>by
    rw [LD,AN] at hy ⊢;rcases List.mem_append.1 hy with hy|hy
    ·exact List.mem_append_left _ hy
    ·refine List.mem_append_right _ ?_
     obtain ⟨j,j1,j2⟩:=List.mem_filterMap.1 hy;obtain ⟨j3,j4⟩:=List.mem_filter.1 j1;exact List.mem_filterMap.2 ⟨j,List.mem_filter.2 ⟨List.mem_cons_of_mem _ j3,j4⟩,j2⟩)
   obtain ⟨p,s1,s2,k1,k2,k3,k4,_⟩:=CE ho fc fh hu (fx.sub (λ y hy=>by
    rw [LD,AN,TH dv bf (λ j hj=>(fh j hj).1)]; exact List.mem_append_left _ hy)) aP
   rw [er] at fc;have aI:=(AT aW dv).trans e2;have gD:N2 (rem ops pre++rem ops post)/\∀ x∈rem ops pre++rem ops post,∀ d,x.dst=some d->o.dst≠some d:=by
    have:∀ {A C:List Oper},N2 (A++o::C)->N2 (A++C)/\∀ x∈A++C,∀ d,x.dst=some d->o.dst≠some d:=by
     intro A
     induction A with
     | nil=>intro C h; exact ⟨h.2,λ x hx d fX gR=>h.1 d gR x hx fX⟩
     | cons y A ih =>
      intro C h;obtain ⟨m1,m2⟩:=ih h.2;refine ⟨⟨λ d hd x hx=>h.1 d hd x (by simp at hx ⊢; rcases hx with hx|hx<;>simp [hx]),m1⟩,λ x hx d fX gR=>?_⟩;rcases List.mem_cons.1 hx with rfl|hx
      ·exact h.1 d fX o (by simp) gR
      ·exact m2 x hx d fX gR
    exact this fc
   have eU:=JZ hE hn cq (ops:=ops) o (k:=λ x=>Tree.cut .skip [] x) (L:=λ _ _ x=>x=s1) (Rt:=λ _=>True) (AW.2 ⟨p,s1,k1,k2,rfl⟩)
    (next:=wpAny E.P .any ops Q fuel (listed.setIfInBounds i true)) (Q:=Q) (λ S' ι' x a' w' hx kj=>by
     have kj:x=s1:=kj;subst kj;refine ih (listed.setIfInBounds i true) S' ι' x s2 a' w' (by simp [aW]) ?_ ?_ ?_ (O8 hu k1) ?_ ?_ (k4.trans he) hx
     ·rw [aI]; rw [e1] at hlen; simp at hlen ⊢; omega
     ·intro k y hy hk e' eB cT
      by_cases gy:k=i
      ·subst gy
       rw [ho] at hy; cases hy;exact getD_set_true (bc e' eB cT)
      ·rw [getD_set_ne true (Ne.symm gy)] at hk
       exact getD_set_true (cO k y hy hk e' eB cT)
     ·rw [aI,er2]; exact gD.1
     ·rw [aI]
      exact M6.step hu pM (λ y hy=>gD.2 y (by rw [<- er2]; exact TJ y hy)) k1
     ·rw [aI]; exact k3)
   unfold wpOp;rw [ho];simp only
   split
   ·rename_i hw; rw [if_pos hw] at eU; exact .inl eU
   ·rename_i hw; rw [if_neg hw] at eU; exact eU
theorem filterMap_some {α β:Type _} {f:α->Option β} {g:α->β}:∀ {l:List α},(∀ i∈l,f i=some (g i))->l.filterMap f=l.map g
 | [],_=>rfl
 | x::l,h=>by rw [List.filterMap_cons,h x (by simp)]; simp [filterMap_some (l:=l) (λ i hi=>h i (by simp [hi]))]
theorem CR:rem ops (idxs ops.size (Array.replicate ops.size false))=ops.toList:=by
 have:idxs ops.size (Array.replicate ops.size false)=List.range ops.size:=by
  unfold idxs;refine List.filter_eq_self.2 (λ i hi=>?_);have:i<ops.size:=List.mem_range.1 hi;simp [this]
 rw [this];unfold rem;apply List.ext_getElem?;intro i;have e:(List.range ops.size).filterMap (λ i=>ops[i]?)=(List.range ops.size).map (λ i=>ops.getD i default):=filterMap_some (λ i hi=>by
  have:i<ops.size:=List.mem_range.1 hi;simp [this])
 rw [e];by_cases hi:i<ops.size
 ·simp [hi]
 ·simp [hi]
theorem Be:∀ {l:List Oper},Bg (vG l)=true->N2 l
 | [],_=>trivial
 | o::l,h=>by
  cases hd:o.dst with
  | none =>
   have:vG (o::l)=vG l:=by simp [vG,hd]
   rw [this] at h;exact ⟨λ d dZ=>(by rw [hd] at dZ; cases dZ),Be h⟩
  | some d =>
   have:vG (o::l)=d::vG l:=by simp [vG,hd]
   rw [this] at h;simp only [Bg,Bool.and_eq_true,Bool.not_eq_true'] at h;refine ⟨λ d' dZ x hx fX=>?_,Be h.2⟩;rw [hd] at dZ;cases dZ;have:d∈vG l:=List.mem_filterMap.2 ⟨x,hx,fX⟩;have h1:=h.1;simp [this] at h1
theorem xP:idxs ops.size (Array.replicate ops.size false)=List.range ops.size:=by
 unfold idxs;refine List.filter_eq_self.2 (λ i hi=>?_);have:i<ops.size:=List.mem_range.1 hi;simp [this]
theorem WX {o:Oper} {l:List Nat} (ho:o∈rem ops (nl ops l)) {d:Nat} (hd:o.dst=some d):d∈vG ops.toList.dropLast:=by
 obtain ⟨j,j1,j2⟩:=List.mem_filterMap.1 ho;have j4:j+1<ops.size:=b67 (by simpa using (List.mem_filter.1 j1).2);refine List.mem_filterMap.2 ⟨o,List.mem_of_getElem? (i:=j) ?_,hd⟩;rw [List.getElem?_dropLast,if_pos (by simp; omega)];simpa using j2
theorem b4V (hE:C4 E B) (hn:B.n=E.nt) {id:Nat} (hd:(wi ops && AJ ops s && E.P.follows .mixedOrders)=true) {Q:Exit->Act->World->Prop} {s':St} (hr:Z8 E ops (λ i=>(D3 ops.toList []).getD i 0) [] (List.range' 0 ops.toList.length) s s')
  (hQ:∀ S ι a w,RS B S ι s' a w->Q .normal a w) (h:RS B S ι s a w):(Code.region id ops true).wp E.P Q a w:=by
 simp only [Bool.and_eq_true,AJ,List.all_eq_true] at hd;obtain ⟨⟨h1,⟨h2,h3⟩,h4⟩,h5⟩:=hd;refine wp_region_any h5 ?_;have hlen:(idxs ops.size (Array.replicate ops.size false)).length=ops.size:=by
  rw [xP]; simp
 refine QW hE hn h1 hQ ops.size _ S ι s s' a w.drew (by simp) hlen ?_ ?_ (u7 h2) ?_ ?_ (K9.refl _) (h.uL E8.nil E3.drew)
 ·intro k o hk hl
  have:k<ops.size:=(Array.getElem?_eq_some_iff.1 hk).1;simp [this] at hl
 ·rw [CR]; exact Be h3
 ·intro o ho d hd
  exact h4 d (WX ho hd)
 ·rw [xP,List.range_eq_range']
  simpa using hr
theorem b3E (hE:C4 E B) (hn:B.n=E.nt) {id:Nat} (hd:(wi ops && HE ops s && E.P.follows .mixedOrders)=true) {Q:Exit->Act->World->Prop} {s':St} (hr:Z8 E ops (λ i=>(D3 ops.toList []).getD i 0) [] (List.range' 0 ops.toList.length) s s')
  (hQ:∀ S ι a w,RS B S ι s' a w->Q .normal a w) (h:RS B S ι s a w):(Code.region id ops true).wp E.P Q a w:=by
 simp only [Bool.and_eq_true,HE,List.all_eq_true,List.mem_range] at hd;obtain ⟨⟨h1,⟨h2,h3⟩,h4⟩,h5⟩:=hd;refine wp_region_any h5 ?_;have hlen:(idxs ops.size (Array.replicate ops.size false)).length=ops.size:=by
  rw [xP]; simp
 refine QW hE hn h1 hQ ops.size _ S ι s s' a w.drew (by simp) hlen ?_ ?_ (u7 h2) ?_ ?_ (K9.refl _) (h.uL E8.nil E3.drew)
 ·intro k o hk hl
  have:k<ops.size:=(Array.getElem?_eq_some_iff.1 hk).1;simp [this] at hl
 ·rw [CR]; exact Be h3
 ·intro o ho d hd
  obtain ⟨j,j1,j2⟩:=List.mem_filterMap.1 ho;have j3:=(List.mem_filter.1 j1).2;have hj:j<ops.size:=(Array.getElem?_eq_some_iff.1 j2).1;have:=h4 j hj;simp only [Bool.not_eq_true'] at j3;simp only [j2,hd,j3,Bool.false_or] at this;exact this
 ·rw [xP,List.range_eq_range']
  simpa using hr
theorem Po {M:List Nat} {k:St->Tree (E.rs++E0 E.ps)} {L:Code->List Item->St->Prop} {R:DL (E.rs++E0 E.ps)->Prop}:∀ {l:List Oper} {n:Nat} {s:St} {acc:List Met} {bI:List (Nat×St)},ops.toList.drop n=l ->
  (∀ e∈bI,∃ m∈acc,m.i=e.1/\ops[e.1]?=some m.o/\m.s=e.2/\m.T=j9 E m.o e.2)->(BY E ops M n l s acc k).holds L R ->
  ∃ s',Z8 E ops (λ i=>M.getD i 0) bI (List.range' n l.length) s s'/\(k s').holds L R
 | [],n,s,acc,bI,_,_,h=>⟨s,rfl,h⟩
 | o::l,n,s,acc,bI,hl,ha,h=>by
  obtain ⟨ho,ew,_⟩:=Bh hl;simp only [BY] at h;split at h
  ·exact h.elim
  ·rename_i bF
   obtain ⟨p,s1,h1,h2,h3⟩:=AW.1 h;obtain ⟨s',k1,k2⟩:=Po (bI:=(n,s)::bI) ew (λ e he=>by
    rcases List.mem_cons.1 he with rfl|he
    ·exact ⟨_,List.mem_cons_self ..,rfl,ho,rfl,rfl⟩
    ·obtain ⟨m,hm,r⟩:=ha e he; exact ⟨m,List.mem_cons_of_mem _ hm,r⟩) h3
   refine ⟨s',⟨o,ho,λ e he=>?_,p,s1,h1,h2,k1⟩,k2⟩;obtain ⟨m,hm,m1,m2,m3,m4⟩:=ha e he;have:=(List.all_eq_true.1 bF) m hm;simp only [Bool.or_eq_true] at this;rcases this with this|this
   ·exact .inl (by rw [<- m1]; exact this)
   ·have hp:=Ha this
    rw [m3,m4] at hp;exact .inr ⟨m.o,m2,hp⟩
end
end Go.Ex
