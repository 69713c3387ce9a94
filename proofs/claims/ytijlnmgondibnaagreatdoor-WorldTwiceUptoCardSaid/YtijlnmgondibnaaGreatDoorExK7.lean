import Derived.Test.YtijlnmgondibnaaGreatDoorExK6
import Derived.Orders
set_option linter.unusedVariables false
set_option linter.unusedSimpArgs false
set_option linter.unusedSectionVars false
namespace Go.Ex
section
variable {E:Env} {s t:St}
theorem KA {o:Oper} {i:Nat} (h:i∈l5 E o s):∃ x∈o.op.operands.toList,(s.ev x).j5 i=true:=by
 have parts:∀ {T:TypeId} {ps:Array (Nat×Operand)},i∈(s.K5 (ps.toList.map (·.2))).I1->∃ x∈ps.toList.map (·.2),(s.ev x).j5 i=true:=by
  intro T ps h;obtain ⟨x,hx,hm⟩:=xj (J6.1 h);exact ⟨x,by simpa using hx,hm⟩
 unfold l5 at h;cases ho:o.op with
 | store T a x =>
  rw [ho] at h;simp only [List.mem_append,J6] at h;rcases h with h|h
  ·exact ⟨a,by simp [Op.operands],h⟩
  ·exact ⟨x,by simp [Op.operands],h⟩
 | box T x=>rw [ho] at h; exact ⟨x,by simp [Op.operands],J6.1 h⟩
 | mapUpdate T m x y=>rw [ho] at h; exact ⟨m,by simp [Op.operands],J6.1 h⟩
 | build T ps=>rw [ho] at h; simp only [Op.operands]; exact parts (T:=T) h
 | buildSlice T n ps=>rw [ho] at h; simp only [Op.operands]; exact parts (T:=T) h
 | call c =>
  rw [ho] at h;have cB:∀ x∈c.args.toList,x∈(Op.call c).operands.toList:=λ x hx=>by simp only [Op.operands,Call.operands]; simp at hx ⊢; first|exact .inr hx|exact .inl hx
  simp only at h;split at h
  ·rename_i f hc
   split at h
   ·rename_i g caps hg
    split at h
    ·split at h
     ·cases h
     ·rcases EA (J6.1 h) with h|h
      ·obtain ⟨x,hx,hm⟩:=xj h
       exact ⟨x,cB x hx,hm⟩
      ·exact ⟨f,by simp [Op.operands,Call.operands,hc],by rw [hg]; exact h⟩
    ·cases h
   ·split at h
    ·split at h
     ·cases h
     ·rcases EA (J6.1 h) with h|h
      ·obtain ⟨x,hx,hm⟩:=xj h
       exact ⟨x,cB x hx,hm⟩
      ·cases h
    ·cases h
   ·split at h
    ·split at h
     ·cases h
     ·rcases EA (J6.1 h) with h|h
      ·obtain ⟨x,hx,hm⟩:=xj h
       exact ⟨x,cB x hx,hm⟩
      ·cases h
    ·cases h
   ·cases h
  ·obtain ⟨x,hx,hm⟩:=xj (J6.1 h)
   exact ⟨x,cB x hx,hm⟩
  ·obtain ⟨x,hx,hm⟩:=xj (J6.1 h)
   exact ⟨x,cB x hx,hm⟩
  ·obtain ⟨x,hx,hm⟩:=xj (J6.1 h)
   exact ⟨x,cB x hx,hm⟩
  ·cases h
 | _=>rw [ho] at h; cases h
theorem Jt {o:Oper} (h:∀ x∈o.op.operands.toList,t.ev x=s.ev x):l5 E o t=l5 E o s:=by
 unfold l5;cases ho:o.op with
 | store T a x=>rw [ho] at h; simp only [h a (by simp [Op.operands]),h x (by simp [Op.operands])]
 | box T x=>rw [ho] at h; simp only [h x (by simp [Op.operands])]
 | mapUpdate T m x y=>rw [ho] at h; simp only [h m (by simp [Op.operands])]
 | build T ps =>
  rw [ho] at h;simp only;rw [Ai (s:=s) (t:=t) (λ x hx=>h x (by simp only [Op.operands]; simpa using hx))]
 | buildSlice T n ps =>
  rw [ho] at h;simp only;rw [Ai (s:=s) (t:=t) (λ x hx=>h x (by simp only [Op.operands]; simpa using hx))]
 | call c =>
  rw [ho] at h;have cB:∀ x∈c.args.toList,x∈(Op.call c).operands.toList:=λ x hx=>by simp only [Op.operands,Call.operands]; simp at hx ⊢; first|exact .inr hx|exact .inl hx
  have he:=Ai (s:=s) (t:=t) (λ x hx=>h x (cB x hx));simp only [he]
  split
  ·rename_i f hc
   rw [h f (by simp [Op.operands,Call.operands,hc])]
  ·rfl
  ·rfl
  ·rfl
  ·rfl
 | _=>rfl
def F5 (E:Env) (o:Oper) (s:St) (p:Prop) (v:AV):Prop :=
 ∃ ids f h,Trim (l5 E o s) f/\T8 s ids/\(∀ n∈ids,n % 1000=(o.dst.getD 0) % 1000) /\
  (∀ i,v.j5 i=true->(∃ x∈o.op.operands.toList,(s.ev x).j5 i=true)\/i∈ids) /\
  ∀ t,uniq t.fr->Z4 s t o.op.operands.toList->T8 t ids->∃ t1,(n6 E o t).get=some (p,v,t1)/\uniq t1.fr/\Md t t1 (l5 E o s) ids f h
theorem AD {o:Oper} (ha:Z4 s t o.op.operands.toList) {i:Nat} (hi:i∈l5 E o s):look i t.hp=look i s.hp:=by
 obtain ⟨x,hx,hm⟩:=KA hi;exact (ha x hx).2 i hm
theorem F5.ro {o:Oper} {p:Prop} {v:AV} {s1:St} (h:(n6 E o s).get=some (p,v,s1)) (h1:∀ t,Z4 s t o.op.operands.toList->n6 E o t=(n6 E o s).wP t) (h2:∀ i,(n6 E o s).av.j5 i=true->∃ x∈o.op.operands.toList,(s.ev x).j5 i=true):F5 E o s p v:=by
 refine ⟨[],λ u=>u,λ i=>look i s.hp,Trim.id _,by simp [T8],by simp,?_,?_⟩
 ·intro i hi
  refine .inl (h2 i ?_);cases hr:n6 E o s<;>rw [hr] at h<;>simp [OR.get] at h
  ·rw [<- h.2.1] at hi; exact hi
  ·rw [<- h.2.1] at hi; exact hi
 ·intro t hu ha _
  refine ⟨t,?_,hu,⟨λ n=>by simp,λ i=>?_⟩⟩
  ·rw [h1 t ha]
   cases hr:n6 E o s<;>rw [hr] at h<;>simp only [OR.get,Option.some.injEq,Prod.mk.injEq] at h
   ·cases h
   ·obtain ⟨rfl,rfl,_⟩:=h; rfl
   ·obtain ⟨rfl,rfl,_⟩:=h; rfl
  ·split
   ·rename_i hi; exact AD ha (by simpa using hi)
   ·rfl
theorem Qd {d:Nat} (hu:uniq t.fr) (h:T8 t [d]):t.fresh d=true:=by
 simp only [St.fresh,Bool.and_eq_true,Option.isNone_iff_eq_none];exact ⟨(h d (by simp)).1,Fg hu (h d (by simp)).2⟩
theorem Rk {d:Nat} (h:s.fresh d=true):T8 s [d]:=by
 obtain ⟨k1,k2⟩:=EW h;intro n hn;simp only [List.mem_cons,List.not_mem_nil,or_false] at hn;subst hn;exact ⟨k1,k2⟩
theorem YG {T g:List Nat} {d:Nat} {e:i7} (hg:∀ i∈g,i∈T) (ha:∀ i∈T,look i t.hp=look i s.hp):Md t ((St.B0 g t).y9 d e) T [d] (xG g) (λ i=>if i=d then some e else if i∈g then none else look i s.hp):=by
 refine ⟨λ n=>CH,λ i=>?_⟩;show look i (Ex.put d e (St.B0 g t).hp)=_;rw [o7,K0];by_cases h1:i=d
 ·simp [h1]
 ·by_cases h3:i∈g
  ·have:=hg i h3; simp [h1,h3,this]
  ·by_cases h2:i∈T
   ·simp [h1,h3,h2,ha i h2]
   ·simp [h1,h2,h3]
theorem F5.obj {o:Oper} {p:Prop} {d:Nat} (hd:o.dst=some d) {e:i7} {v:AV} {g:List Nat} (hv:∀ i,v.j5 i=true->i=d) (hf:s.fresh d=true) (hg:∀ i∈g,i∈l5 E o s)
  (h:∀ t,Z4 s t o.op.operands.toList->uniq t.fr->t.fresh d=true->(n6 E o t).get=some (p,v,(St.B0 g t).y9 d e)):F5 E o s p v:=by
 refine ⟨[d],xG g,(λ i=>if i=d then some e else if i∈g then none else look i s.hp),(Trim.B0 g).mono hg,Rk hf,by simp [hd],λ i hi=>.inr (by simp [hv i hi]),?_⟩;intro t hu ha hn;exact ⟨_,h t ha hu (Qd hu hn),CJ (g:=g) hu,YG hg (λ i hi=>AD ha hi)⟩
theorem Nr {d:Nat} {g:List Nat} {u:Ty} {x:u.den} {v:AV} {s':St} (hl:s.lay d g u x=.ok v s'):s.fresh d=true/\v=.at_ d []/\s'=(St.B0 g s).y9 d (.own u x)/\(wI g && (g.all λ i=>!pinned i))=true:=by
 unfold St.lay at hl;split at hl
 ·cases hl
 ·rename_i hc
  simp only [Bool.and_eq_true] at hc;split at hl
  ·cases hl; exact ⟨hc.2,rfl,rfl,by simp only [Bool.and_eq_true]; exact hc.1⟩
  ·cases hl
theorem MF {d:Nat} {g:List Nat} {u:Ty} {x:u.den} (hf:t.fresh d=true) (hg:(wI g && (g.all λ i=>!pinned i))=true):t.lay d g u x=.ok (.at_ d []) ((St.B0 g t).y9 d (.own u x)):=by
 unfold St.lay;have h2:(St.B0 g t).fresh d=true:=by
  simp only [St.fresh,Bool.and_eq_true,Option.isNone_iff_eq_none] at hf ⊢;refine ⟨by rw [K0]; split<;>first|rfl|exact hf.1,Lv hf.2⟩
 simp only [hg,hf,h2,Bool.and_self]
theorem F5.lay {o:Oper} {p:Prop} {v:AV} {s1:St} {d:Nat} (hd:o.dst=some d) {g:List Nat} {u:Ty} {x:u.den} {W:OR->OR} (hW:∀ v s,(W (.ok v s)).get=some (p,v,s)) (hF:∀ y,(W (.fail y)).get=none) (hg:∀ i∈g,i∈l5 E o s)
  (h:(n6 E o s).get=some (p,v,s1)) (h1:∀ t,Z4 s t o.op.operands.toList->n6 E o t=W (t.lay d g u x)):F5 E o s p v:=by
 rw [h1 s (.refl _ _)] at h;cases hl:s.lay d g u x with
 | fail y=>rw [hl,hF] at h; cases h
 | G6 q v s'=>exact absurd hl wR
 | ok v' s' =>
  rw [hl,hW] at h;cases h;obtain ⟨k1,rfl,rfl,k4⟩:=Nr hl;refine F5.obj hd (e:=.own u x) (g:=g) (λ i hi=>by simpa [AV.j5] using hi) k1 hg (λ t ha hu hf=>?_);rw [h1 t ha,MF hf k4,hW]
theorem BE {q p:Prop} {r:OR} {v:AV} {s1:St} (h:(r.f9 q).get=some (p,v,s1)) (hr:∀ q' v' s',r≠.G6 q' v' s'):p=q:=by
 cases r with
 | fail y=>cases h
 | ok v s=>simp only [OR.f9,OR.get,Option.some.injEq,Prod.mk.injEq] at h; exact h.1.symm
 | G6 q' v' s'=>exact absurd rfl (hr q' v' s')
theorem XZ {T:TypeId} {a:AV} (h:Alike s t a):Z1 E T a t=(Z1 E T a s).wP t:=by
 unfold Z1;cases a with
 | ptr i p =>
  simp only [K1 (h i (by simp [AV.j5]))]
  repeat' (first|rfl|split)
 | _=>first|rfl|(dsimp only; split<;>rfl)
theorem c0I {T:TypeId} {a:AV} {i:Nat} (h:(Z1 E T a s).av.j5 i=true):a.j5 i=true:=by
 unfold Z1 at h;cases a with
 | ptr j p =>
  simp only at h
  repeat' (split at h)
  all_goals first|exact h|(cases h; done)
 | _ =>
  simp only at h
  repeat' (split at h)
  all_goals first|exact h|(cases h; done)
theorem JD {i:Nat}:∀ {n:Nat} {l v:AV},n6.nth n l=some v->v.j5 i=true->l.j5 i=true
 | 0,l,v,h,hv=>by
  cases l<;>simp only [n6.nth] at h<;>first|cases h|skip
  simp [AV.j5,hv]
 | n+1,l,v,h,hv=>by
  cases l<;>simp only [n6.nth] at h<;>first|cases h|skip
  simp [AV.j5,JD h hv]
theorem VW (d k:Nat):P7 d k % 1000=d % 1000:=by unfold P7; omega
theorem OE {d j k:Nat} (h:P7 d j=P7 d k):j=k:=by unfold P7 at h; omega
theorem KF:∀ {ts:List Ty} {x:DL ts} {d j:Nat} {hp:List (Nat×i7)} {l:AV} {cK:List (Nat×i7)},Y6 ts x d j hp=some (l,cK) ->
  (∀ i,l.j5 i=true->∃ k,j<=k/\k<j+ts.length/\i=P7 d k) /\
  ∃ h:Nat->Option i7,∀ h2,(∀ k,j<=k->k<j+ts.length->look (P7 d k) h2=none)->∃ fN,Y6 ts x d j h2=some (l,fN)/\∀ i,look i fN=(match h i with|some e=>some e|none=>look i h2)/\((h i).isSome->∃ k,j<=k/\k<j+ts.length/\i=P7 d k)
 | [],x,d,j,hp,l,cK,h=>by
  simp only [Y6,Option.some.injEq,Prod.mk.injEq] at h;obtain ⟨rfl,rfl⟩:=h;exact ⟨by simp [AV.j5],λ _=>none,λ h2 _=>⟨h2,rfl,λ i=>⟨rfl,by simp⟩⟩⟩
 | u::ts,x,d,j,hp,l,cK,h=>by
  simp only [Y6] at h;split at h
  ·rename_i hs
   split at h
   ·rename_i l' fj eD
    cases h;obtain ⟨k1,h,k2⟩:=KF eD;refine ⟨λ i hi=>?_,h,λ h2 hh=>?_⟩
    ·obtain ⟨k,m1,m2,m3⟩:=k1 i (by simpa [AV.j5] using hi)
     exact ⟨k,by omega,by simp only [List.length_cons]; omega,m3⟩
    ·obtain ⟨fN,e1,e2⟩:=k2 h2 (λ k jK fk=>hh k (by omega) (by simp only [List.length_cons]; omega))
     refine ⟨fN,by simp only [Y6,hs,e1],λ i=>⟨(e2 i).1,λ hi=>?_⟩⟩;obtain ⟨k,m1,m2,m3⟩:=(e2 i).2 hi;exact ⟨k,by omega,by simp only [List.length_cons]; omega,m3⟩
   ·cases h
  ·rename_i hs
   split at h
   ·cases h
   ·rename_i dq
    split at h
    ·rename_i l' fj eD
     cases h;obtain ⟨k1,h,k2⟩:=KF eD;refine ⟨λ i hi=>?_,λ i=>if i=P7 d j then some (vH u x.1 (P7 d j)).1 else h i,λ h2 hh=>?_⟩
     ·simp only [AV.j5,Bool.or_eq_true] at hi
      rcases hi with hi|hi
      ·refine ⟨j,Nat.le_refl _,by simp,?_⟩
       rcases Ji u x.1 (P7 d j) with e|⟨g,_,_,_,e⟩
       ·rw [e] at hi; exact Nat.eq_of_beq_eq_true hi
       ·rw [e] at hi
        cases g with
        | none=>exact Nat.eq_of_beq_eq_true hi
        | some f =>
         have hi:(Nat.beq i (P7 d j) || false)=true:=hi;rw [Bool.or_false] at hi;exact Nat.eq_of_beq_eq_true hi
      ·obtain ⟨k,m1,m2,m3⟩:=k1 i hi
       exact ⟨k,by omega,by simp only [List.length_cons]; omega,m3⟩
     ·have e0:look (P7 d j) h2=none:=hh j (Nat.le_refl _) (by simp)
      obtain ⟨fN,e1,e2⟩:=k2 (put (P7 d j) (vH u x.1 (P7 d j)).1 h2) (λ k jK fk=>by
       rw [o7,if_neg (λ e=>by have:=OE e; omega)];exact hh k (by omega) (by simp only [List.length_cons]; omega))
      refine ⟨fN,by simp only [Y6,hs,e0,e1],λ i=>⟨?_,λ hi=>?_⟩⟩
      ·rw [(e2 i).1,o7]
       by_cases he:i=P7 d j
       ·simp only [he,if_true]
        cases th:h (P7 d j) with
        | none=>rfl
        | some e =>
         exfalso;obtain ⟨k,m1,m2,m3⟩:=(e2 (P7 d j)).2 (by rw [th]; rfl);have:=OE m3; omega
       ·simp only [if_neg he]
      ·by_cases he:i=P7 d j
       ·exact ⟨j,Nat.le_refl _,by simp,he⟩
       ·simp only [if_neg he] at hi
        obtain ⟨k,m1,m2,m3⟩:=(e2 i).2 hi;exact ⟨k,by omega,by simp only [List.length_cons]; omega,m3⟩
    ·cases h
theorem KL {d:Nat}:∀ {n:Nat} {fr:List (Nat×AV)},(∀ k,k<n->we (P7 d k) fr=true)->xN d n fr=true
 | 0,_,_=>rfl
 | n+1,fr,h=>by
  simp only [xN,Bool.and_eq_true];exact ⟨h n (by omega),KL (λ k hk=>h k (by omega))⟩
theorem KM {d:Nat}:∀ {n:Nat} {hp:List (Nat×i7)},Am d n hp=true↔∀ k,k<n->look (P7 d k) hp=none
 | 0,_=>by simp [Am]
 | n+1,hp=>by
  simp only [Am,Bool.and_eq_true,Option.isNone_iff_eq_none,KM (n:=n)];constructor
  ·rintro ⟨h1,h2⟩ k hk
   by_cases e:k=n
   ·subst e; exact h1
   ·exact h2 k (by omega)
  ·intro h; exact ⟨h n (by omega),λ k hk=>h k (by omega)⟩
theorem Yc {i:Nat} {l:AV} (h:l.one.j5 i=true):l.j5 i=true:=by
 unfold AV.one at h;split at h
 ·simp [AV.j5,h]
 ·exact h
theorem a28:∀ {ks:List PK} {y:DL (F6 ks)} {m:List Nat} {s1:St},wr ks y m s=some s1 ->
  (m=[]/\∀ t,wr ks y m t=some t)\/∃ i ow e,m=[i]/\∀ t,wr ks y m t=some ((t.Z9 i ow).y9 i e)
 | [],y,m,s1,h=>by
  cases m with
  | nil=>exact .inl ⟨rfl,λ t=>rfl⟩
  | cons i m=>cases h
 | k::ks,y,m,s1,h=>by
  cases k with
  | rw u =>
   match m,h with
   | [],h=>cases h
   | [i],h =>
    simp only [wr] at h;split at h
    ·rename_i hw
     exact .inr ⟨i,false,.var u y.1,rfl,λ t=>by simp only [wr,hw]⟩
    ·cases h
   | i::j::m,h=>cases h
  | mu u =>
   match m,h with
   | [],h=>cases h
   | [i],h =>
    simp only [wr] at h;split at h
    ·rename_i hw
     exact .inr ⟨i,true,.own (.d8 true u) y.1,rfl,λ t=>by simp only [wr,hw]⟩
    ·cases h
   | i::j::m,h=>cases h
  | v u=>cases m<;>exact a28 (ks:=ks) h
  | W3=>cases m<;>exact a28 (ks:=ks) h
  | rcs f n=>cases m<;>exact a28 (ks:=ks) h
  | el q=>cases m<;>exact a28 (ks:=ks) h
  | rd u=>cases m<;>exact a28 (ks:=ks) h
  | D3 f ts=>cases m<;>exact a28 (ks:=ks) h
  | own u=>cases m<;>exact a28 (ks:=ks) h
end
end Go.Ex
namespace Go.Ex
section
variable {E:Env} {s t:St}
theorem xO {c:Call} {x:Operand} (hx:x∈c.args.toList):x∈(Op.call c).operands.toList:=by
 simp only [Op.operands,Call.operands]; simp at hx ⊢; first|exact .inr hx|exact .inl hx
def gq (m:Nat) (v:AV):AV:=match Nat.beq m J7 with|true=>.any|false=>v
theorem Ap {s:St} {m:Nat}:s.ev (.tmp m)=gq m (s.get m):=rfl
theorem Fz {s:St} {m i:Nat} (h:(s.ev (.tmp m)).j5 i=true):(s.get m).j5 i=true:=by
 rw [Ap] at h;unfold gq at h;split at h
 ·cases h
 ·exact h
theorem zt {s t:St} {m:Nat} (h:t.get m=s.get m):t.ev (.tmp m)=s.ev (.tmp m):=congrArg (gq m) h
theorem Wl {s:St} {m:Nat} {v:AV} (hb:Nat.beq m J7=false) (h:s.get m=v):s.ev (.tmp m)=v:=by
 rw [Ap,h]; unfold gq; rw [hb]
theorem Ct {s:St} {m:Nat} {v:AV} (h:s.ev (.tmp m)=v) (hv:v≠.any):s.get m=v:=by
 rw [Ap] at h;unfold gq at h;split at h
 ·exact absurd h.symm hv
 ·exact h
theorem c0X {s:St} {m:Nat} {v:AV} (h:s.ev (.tmp m)=v) (hv:v≠.any):Nat.beq m J7=false:=by
 rw [Ap] at h;unfold gq at h;split at h
 ·exact absurd h.symm hv
 ·assumption
theorem JI {o:Oper} {c:Call} (ho:o.op=.call c) {f:Operand} (hc:c.callee=.value f) {W:OR->OR} {π:Prop->Prop} (hW:∀ r,(W r).get=r.get.map (λ x=>(π x.1,x.2.1,x.2.2))) {g:FuncId} {caps fv:AV} (hg:s.ev f=fv) (eg:∀ i,caps.j5 i=true->fv.j5 i=true)
  (he:∀ t,t.ev f=fv->n6 E o t=W (T6 E g ((t.K5 c.args.toList).app caps) o.dst t))
  (hT:l5 E o s=(match look g E.E4 with
    | some c'=>(match c'.ps.any PK.l5 with
     | false=>[]
     | true=>((s.K5 c.args.toList).app caps).I1)
    | none=>[])) {p:Prop} {v:AV} {s1:St} (h:(n6 E o s).get=some (p,v,s1)):F5 E o s p v:=by
 have gB:f∈o.op.operands.toList:=by rw [ho]; simp [Op.operands,Call.operands,hc]
 have cU:∀ x∈c.args.toList,x∈o.op.operands.toList:=λ x hx=>by rw [ho]; exact xO hx
 rw [he s hg,hW] at h;obtain ⟨q,h,hq⟩:∃ q,(T6 E g ((s.K5 c.args.toList).app caps) o.dst s).get=some (q,v,s1)/\π q=p:=by
  cases hr:(T6 E g ((s.K5 c.args.toList).app caps) o.dst s).get with
  | none=>rw [hr] at h; cases h
  | some x =>
   rw [hr] at h;simp only [Option.map_some,Option.some.injEq,Prod.mk.injEq] at h;exact ⟨x.1,by rw [<- h.2.1,<- h.2.2],h.1⟩
 have aH:∀ i,((s.K5 c.args.toList).app caps).j5 i=true->∃ x∈o.op.operands.toList,(s.ev x).j5 i=true:=by
  intro i hi;rcases EA hi with hi|hi
  ·obtain ⟨x,hx,hi⟩:=xj hi; exact ⟨x,cU x hx,hi⟩
  ·exact ⟨f,gB,by rw [hg]; exact eg i hi⟩
 generalize rG:(s.K5 c.args.toList).app caps=av at h aH hT;unfold T6 at h;split at h
 ·cases h
 ·rename_i c' dq
  rw [dq] at hT;simp only at hT;split at h
  ·cases h
  ·rename_i x gs m hx
   obtain ⟨jH,kj⟩:=RB hx;have ji:∀ i,i∈gs++m->i∈l5 E o s:=by
    intro i hi;rw [hT];cases hp:c'.ps.any PK.l5 with
    | true=>exact J6.2 (jH i hi)
    | false=>obtain ⟨r1,r2⟩:=kj hp; rw [r1,r2] at hi; cases hi
   split at h
   ·cases h
   ·rename_i bY
    obtain ⟨lD,fB⟩:=(Bool.and_eq_true_iff).1 bY;obtain ⟨gz,sG⟩:=(Bool.and_eq_true_iff).1 fB;split at h
    ·cases h
    ·rename_i s2 oV
     split at h
     ·cases h
     ·rename_i hm
      split at h
      ·rename_i l hp pW
       simp only [OR.get,Option.some.injEq,Prod.mk.injEq] at h;obtain ⟨rfl,rfl,_⟩:=h;obtain ⟨k3,h3,k4⟩:=KF pW;simp only [Nat.zero_add,Nat.zero_le,true_and] at k3 k4;have ln:∀ {t:St},T8 t ((List.range c'.rs.length).map (P7 (o.dst.getD 0)))->∀ k,k<c'.rs.length->look (P7 (o.dst.getD 0) k) t.hp=none:=λ hn k hk=>(hn _ (List.mem_map.2 ⟨k,by simpa using hk,rfl⟩)).1;have hw:∃ (f:AV->AV) (h:Nat->Option i7),Trim (l5 E o s) f/\(∀ i,i∉l5 E o s->h i=none)/\∀ t,uniq t.fr->(∀ i∈l5 E o s,look i t.hp=look i s.hp)->∃ t2,wr c'.ps (c'.out x) m (St.B0 gs t)=some t2/\uniq t2.fr/\(∀ n,look n t2.fr=(look n t.fr).map f)/\∀ i,look i t2.hp=if i∈l5 E o s then h i else look i t.hp:=by
        rcases a28 oV with ⟨rfl,hw⟩|⟨i0,ow,e,rfl,hw⟩
        ·refine ⟨xG gs,λ i=>if i∈l5 E o s then (if i∈gs then none else look i s.hp) else none,(Trim.B0 gs).mono (λ i hi=>ji i (by simp [hi])),λ i hi=>by simp [hi],λ t hu ha=>⟨_,hw _,CJ hu,λ n=>CH,λ i=>?_⟩⟩
         rw [K0];by_cases h1:i∈gs
         ·simp [h1,ji i (by simp [h1])]
         ·by_cases h2:i∈l5 E o s
          ·simp [h1,h2,ha i h2]
          ·simp [h1,h2]
        ·have nD:i0∈l5 E o s:=ji i0 (by simp)
         refine ⟨λ u=>AV.map (AV.xI i0 ow) (xG gs u),λ i=>if i∈l5 E o s then (if i=i0 then some e else if i∈gs then none else look i s.hp) else none,
          Trim.comp (Trim.B0 gs) (Trim.Z9 i0 ow) (λ i hi=>ji i (by simp [hi])) (by simpa using nD),λ i hi=>by simp [hi],λ t hu ha=>⟨_,hw _,Cz (CJ hu),λ n=>?_,λ i=>?_⟩⟩
         ·show look n (mapA _ (St.B0 gs t).fr)=_
          rw [P9,CH,Option.map_map]; rfl
         ·show look i (Ex.put i0 e (St.B0 gs t).hp)=_
          rw [o7,K0];by_cases h0:i=i0
          ·subst h0; simp [nD]
          ·by_cases h1:i∈gs
           ·simp [h0,h1,ji i (by simp [h1])]
           ·by_cases h2:i∈l5 E o s
            ·simp [h0,h1,h2,ha i h2]
            ·simp [h0,h1,h2]
       obtain ⟨f0,h0,w1,w2,w3⟩:=hw;refine ⟨(List.range c'.rs.length).map (P7 (o.dst.getD 0)),f0,λ i=>match h3 i with|some e=>some e|none=>h0 i,w1,?_,?_,?_,?_⟩
       ·intro n hn
        obtain ⟨k,hk,rfl⟩:=List.mem_map.1 hn;exact ⟨KM.1 sG k (by simpa using hk),λ m w hw=>CS (FC gz k (by simpa using hk)) hw⟩
       ·intro n hn
        obtain ⟨k,_,rfl⟩:=List.mem_map.1 hn;exact VW _ _
       ·intro i hi
        obtain ⟨k,m2,rfl⟩:=k3 i (Yc hi);exact .inr (List.mem_map.2 ⟨k,by simpa using m2,rfl⟩)
       ·intro t hu ha hn
        have eU:Alike s t av:=λ i hi=>by obtain ⟨x,hx,hm⟩:=aH i hi; exact (ha x hx).2 i hm
        obtain ⟨t2,e1,e2,e3,e4⟩:=w3 t hu (λ i hi=>AD ha hi);have lL:∀ k,k<c'.rs.length->P7 (o.dst.getD 0) k∉l5 E o s:=by
         intro k hk bq;obtain ⟨x,hx,hm⟩:=KA bq;obtain ⟨m',rfl,gH⟩:∃ m',x=.tmp m'/\(s.get m').j5 (P7 (o.dst.getD 0) k)=true:=by
          cases x with
          | tmp m'=>exact ⟨m',rfl,Fz hm⟩
          | const v =>
           exfalso;simp only [St.ev] at hm;unfold ofConst at hm;split at hm
           ·split at hm<;>cases hm
           ·cases hm
           ·split at hm<;>cases hm
           ·cases hm
          | global g=>cases hm
          | func f=>cases hm
         simp only [St.get] at gH;cases hl:look m' s.fr with
         | none=>rw [hl] at gH; cases gH
         | some w =>
          rw [hl] at gH;have:=CS (FC gz k hk) hl;simp only [Option.getD_some] at gH;rw [gH] at this; cases this
        have eP:∀ k,k<c'.rs.length->look (P7 (o.dst.getD 0) k) t2.hp=none:=by
         intro k hk;rw [e4,if_neg (lL k hk)];exact ln hn k hk
        obtain ⟨fN,r1,r2⟩:=k4 t2.hp (λ k _ hk=>eP k hk);have gH:xN (o.dst.getD 0) c'.rs.length t2.fr=true:=KL (λ k hk=>Fg e2 (λ n w hw=>by
         rw [e3] at hw;cases hl:look n t.fr with
         | none=>rw [hl] at hw; cases hw
         | some u =>
          rw [hl] at hw;cases hw;cases pQ:(f0 u).j5 (P7 (o.dst.getD 0) k) with
          | false=>rfl
          | true =>
           have:=(hn (P7 (o.dst.getD 0) k) (List.mem_map.2 ⟨k,by simpa using hk,rfl⟩)).2 n u hl;rw [w1.j5 u pQ] at this; cases this))
        have kX:xN (o.dst.getD 0) c'.rs.length t.fr=true:=KL (λ k hk=>Fg hu (hn _ (List.mem_map.2 ⟨k,by simpa using hk,rfl⟩)).2);have pJ:Am (o.dst.getD 0) c'.rs.length t.hp=true:=KM.2 (λ k hk=>ln hn k hk);have dm:(t.K5 c.args.toList).app caps=av:=by
         rw [Ai (s:=s) (t:=t) (λ x hx=>(ha x (cU x hx)).1)]; exact rG
        have tF:T6 E g av o.dst t=.G6 (c'.pre x) l.one { t2 with hp:=fN }:=by
         unfold T6;simp only [dq,NX (s:=s) (t:=t) eU,hx,lD,kX,pJ,Bool.and_self,e1,gH,r1]
        refine ⟨{ t2 with hp:=fN },?_,e2,⟨e3,λ i=>?_⟩⟩
        ·rw [he t ((ha f gB).1.trans hg),hW,dm,tF]; simp only [OR.get,Option.map_some,hq]
        ·show look i fN=_
         rw [(r2 i).1,e4];cases hh:h3 i with
         | some e =>
          obtain ⟨k,hk,nB⟩:=(r2 i).2 (by rw [hh]; rfl);simp only;rw [if_pos (.inr (List.mem_map.2 ⟨k,by simpa using hk,nB.symm⟩))]
         | none =>
          simp only;by_cases h1:i∈l5 E o s
          ·rw [if_pos h1,if_pos (.inl h1)]
          ·rw [if_neg h1]
           split
           ·rename_i hi
            rcases hi with hi|hi
            ·exact absurd hi h1
            ·obtain ⟨k,hk,rfl⟩:=List.mem_map.1 hi
             rw [ln hn k (by simpa using hk),w2 _ h1]
           ·rfl
      ·cases h
theorem Xf {o:Oper} {c:Call} (ho:o.op=.call c) {f:Operand} (hc:c.callee=.value f) {p:Prop} {v:AV} {s1:St} (h:(n6 E o s).get=some (p,v,s1)):F5 E o s p v:=by
 have key:(∃ g caps,s.ev f=.D3 g caps)\/(∃ g b,s.ev f=.val (.fn g) b)\/∃ g t y,s.ev f=.val (.box false (some g) t) y:=by
  unfold n6 at h;rw [ho] at h;simp only [hc] at h;split at h
  ·exact .inl ⟨_,_,by assumption⟩
  ·exact .inr (.inl ⟨_,_,by assumption⟩)
  ·exact .inr (.inr ⟨_,_,_,by assumption⟩)
  ·cases h
 rcases key with ⟨g,caps,hg⟩|⟨g,b,hg⟩|⟨g,t0,y0,hg⟩
 ·refine JI ho hc (W:=λ r=>r) (π:=λ q=>q) (g:=g) (caps:=caps) (λ r=>by cases r<;>rfl) hg (λ i hi=>hi) (λ t ht=>?_) ?_ h
  ·unfold n6
   rw [ho];simp only [hc,ht]
  ·unfold l5; rw [ho]; simp only [hc,hg]; rfl
 ·refine JI ho hc (W:=λ r=>r.xW ((b:Bool)=true)) (π:=λ q=>(b:Bool)=true/\q) (g:=g) (caps:=.nil) (λ r=>by cases r<;>rfl) hg (λ i hi=>by cases hi) (λ t ht=>?_) ?_ h
  ·unfold n6
   rw [ho];simp only [hc,ht]
  ·unfold l5; rw [ho]; simp only [hc,hg]; rfl
 ·refine JI ho hc (W:=λ r=>r.xW ((y0:Option t0.den).isSome=true)) (π:=λ q=>(y0:Option t0.den).isSome=true/\q) (g:=g) (caps:=.cons (.P8 t0 (Option.getD (y0:Option t0.den) t0.s8)) .nil) (λ r=>by cases r<;>rfl) hg (λ i hi=>by cases hi) (λ t ht=>?_) ?_ h
  ·unfold n6
   rw [ho];simp only [hc,ht]
  ·unfold l5; rw [ho]; simp only [hc,hg]; rfl
end
end Go.Ex
namespace Go.Ex
section
variable {E:Env} {s t:St}
theorem c0f {T:TypeId} {i:Nat} {p:List Step} {x:AV} {q:Prop} {v:AV} {s1:St} (h:(Q7 E T i p x s).get=some (q,v,s1)) :
  v=.raw undef/\∃ g ow e,(∀ j∈g,x.j5 j=true)/\∀ t:St,t.obj i=s.obj i->Alike s t x->(Q7 E T i p x t).get=some (q,.raw undef,((St.B0 g t).kill i ow p).y9 i e):=by
 unfold Q7 at h;split at h
 ·cases h
 ·rename_i e aX
  split at h
  ·cases h
  ·rename_i u y hg
   split at h
   ·cases h
   ·rename_i bD
    have base:∀ t:St,t.obj i=s.obj i->t.obj i=some e:=λ t ht=>ht.trans aX;split at h
    ·split at h
     ·split at h
      ·rename_i r aL
       cases h;refine ⟨rfl,[],e.kd,e.E8 r,by simp,λ t ht _=>?_⟩;unfold Q7;simp only [base t ht,hg,bD,aL];rfl
      ·cases h
     ·split at h
      ·rename_i r aL
       cases h;refine ⟨rfl,[],e.kd,e.E8 r,by simp,λ t ht _=>?_⟩;unfold Q7;simp only [base t ht,hg,bD,aL];rfl
      ·cases h
     ·cases h
    ·rename_i j q' lo hi
     split at h
     ·split at h
      ·rename_i r aL
       split at h
       ·rename_i bS
        cases h;refine ⟨rfl,[],e.kd,e.E8 r,by simp,λ t ht _=>?_⟩;unfold Q7;simp only [base t ht,hg,bD,aL,bS];rfl
       ·cases h
      ·cases h
     ·cases h
    ·rename_i x' oU rT
     split at h
     ·rename_i z g cW
      split at h
      ·rename_i r aL
       split at h
       ·rename_i bS
        cases h;refine ⟨rfl,g,e.kd,e.E8 r,Fo cW,λ t ht eU=>?_⟩;have fy:=(zA eU).trans cW;unfold Q7;simp only [base t ht,hg,bD];simp only [fy,aL,bS];rfl
       ·cases h
      ·cases h
     ·rename_i cW
      split at h
      ·rename_i j q'
       split at h
       ·rename_i u' y' cV
        split at h
        ·rename_i r aL
         split at h
         ·rename_i bS
          cases h;refine ⟨rfl,[],e.kd,e.E8 r,by simp,λ t ht eU=>?_⟩;have fy:=(zA eU).trans cW;have pA:=(K1 (p:=q') (eU j (by simp [AV.j5]))).trans cV;unfold Q7;simp only [base t ht,hg,bD];simp only [fy,pA,aL,bS];rfl
         ·cases h
        ·cases h
       ·cases h
      ·cases h
theorem Zw {o:Oper} {T:TypeId} {a x:Operand} (ho:o.op=.store T a x) {p:Prop} {v:AV} {s1:St} (h:(n6 E o s).get=some (p,v,s1)):F5 E o s p v:=by
 have pz:∃ i q,s.ev a=.ptr i q:=by
  unfold n6 at h;rw [ho] at h;simp only at h;split at h
  ·exact ⟨_,_,by assumption⟩
  ·cases h
 obtain ⟨i,q,hp⟩:=pz;have ha:∀ t,t.ev a=.ptr i q->n6 E o t=Q7 E T i q (t.ev x) t:=by
  intro t ht;unfold n6;rw [ho];simp only [ht]
 rw [ha s hp] at h;obtain ⟨rfl,g,ow,e,hg,k⟩:=c0f h;have hT:l5 E o s=(s.ev a).I1++(s.ev x).I1:=by unfold l5; rw [ho]
 have rz:i∈l5 E o s:=by rw [hT,hp]; simp [AV.I1]
 have ji:∀ j∈g,j∈l5 E o s:=λ j hj=>by rw [hT]; exact List.mem_append_right _ (J6.2 (hg j hj))
 have rH:a∈o.op.operands.toList:=by rw [ho]; simp [Op.operands]
 have cU:x∈o.op.operands.toList:=by rw [ho]; simp [Op.operands]
 refine ⟨[],λ u=>AV.kill i ow q (xG g u),λ j=>if j=i then some e else if j∈g then none else look j s.hp,Trim.comp (Trim.B0 g) (Trim.kill i ow q) ji (by simpa using rz),by simp [T8],by simp,by simp [AV.j5],?_⟩;intro t hu dy _;have dm:=(dy x cU).1;have pG:t.obj i=s.obj i:=(dy a rH).2 i (by rw [hp]; simp [AV.j5]);refine ⟨((St.B0 g t).kill i ow q).y9 i e,?_,Cz (CJ hu),⟨λ n=>?_,λ j=>?_⟩⟩
 ·rw [ha t ((dy a rH).1.trans hp),dm]
  exact k t pG (λ j hj=>(dy x cU).2 j hj)
 ·show look n (mapA _ (St.B0 g t).fr)=_
  rw [P9,CH,Option.map_map]; rfl
 ·show look j (Ex.put i e (St.B0 g t).hp)=_
  rw [o7,K0];by_cases h0:j=i
  ·subst h0; simp [rz]
  ·by_cases h1:j∈g
   ·simp [h0,h1,ji j h1]
   ·by_cases h2:j∈l5 E o s
    ·simp [h0,h1,h2,AD dy h2]
    ·simp [h0,h1,h2]
theorem Td {T:TypeId} {x y:AV} {dst:Option Nat} {p:Prop} {v:AV} {s1:St} (h:(wU E T x y dst s).get=some (p,v,s1)) :
  ∃ d g u l,dst=some d/\(∀ j∈g,x.j5 j=true\/y.j5 j=true)/\∀ t,Alike s t x->Alike s t y->wU E T x y dst t=(St.lay t d g u l).f9 p:=by
 unfold wU at h;split at h
 ·rename_i q t0 bts d hT
  split at h
  ·cases h
  ·rename_i tt m g cw
   have iz:=QI cw;have ha:∀ t,Alike s t y->y.vn t t0=some (⟨tt,m⟩,g):=λ t ht=>(Ij ht).trans cw;simp only at h;split at h
   ·split at h
    ·rename_i dn
     obtain rfl:=BE h (λ _ _ _=>wR);refine ⟨d,[]++g,.d8 true t0,(([]:List t0.den)++Q0 dn m),rfl,by simpa using λ j hj=>.inr (iz j hj),λ t _ hy=>?_⟩;unfold wU;simp only [hT,ha t hy,dn,dif_pos]
    ·cases h
   ·split at h
    ·rename_i bD
     split at h
     ·rename_i dn
      obtain rfl:=BE h (λ _ _ _=>wR);refine ⟨d,[]++g,.d8 true t0,(([]:List t0.den)++Q0 dn m),rfl,by simpa using λ j hj=>.inr (iz j hj),λ t _ hy=>?_⟩;unfold wU;simp only [hT,ha t hy,dn,dif_pos,bD]
     ·cases h
    ·cases h
   ·rename_i oU rT
    split at h
    ·rename_i u l f cW
     split at h
     ·rename_i hu
      split at h
      ·rename_i dn
       obtain rfl:=BE h (λ _ _ _=>wR);refine ⟨d,f++g,.d8 true t0,(Q0 hu l++Q0 dn m),rfl,?_,λ t hx hy=>?_⟩
       ·intro j hj
        rcases List.mem_append.1 hj with hj|hj
        ·exact .inl (Fc cW j hj)
        ·exact .inr (iz j hj)
       ·have fy:=(Ep hx).trans cW
        unfold wU;simp only [hT,ha t hy];simp only [fy,hu,dn,dif_pos]
      ·cases h
     ·cases h
    ·cases h
 ·cases h
theorem YZ {T:TypeId} {x y:AV} {dst:Option Nat} {p:Prop} {v:AV} {s1:St} (h:(DE E T x y dst s).get=some (p,v,s1)) :
  ∃ d g u l,dst=some d/\(∀ j∈g,x.j5 j=true\/y.j5 j=true)/\∀ t,Alike s t x->Alike s t y->DE E T x y dst t=(St.lay t d g u l).f9 p:=by
 cases h
theorem WZ {T:TypeId} {x y:AV} {dst:Option Nat} {p:Prop} {v:AV} {s1:St} (h:(xq E T x y dst s).get=some (p,v,s1)) :
  ∃ d g u l,dst=some d/\(∀ j∈g,x.j5 j=true\/y.j5 j=true)/\∀ t,Alike s t x->Alike s t y->xq E T x y dst t=(St.lay t d g u l).f9 p:=by
 have hs:∀ t,Alike s t x->DS t x=DS s x:=λ t ht=>by
  unfold DS
  split
  ·rw [ht _ (by simp [AV.j5])]
  ·rfl
 unfold xq at h;split at h
 ·rename_i hc
  obtain ⟨d,g,u,l,h1,h2,h3⟩:=YZ h;exact ⟨d,g,u,l,h1,h2,λ t hx hy=>by unfold xq; rw [hs t hx,hc]; exact h3 t hx hy⟩
 ·rename_i hc
  obtain ⟨d,g,u,l,h1,h2,h3⟩:=Td h;exact ⟨d,g,u,l,h1,h2,λ t hx hy=>by unfold xq; rw [hs t hx,hc]; exact h3 t hx hy⟩
theorem a72 {i:Nat} {p:List Step} {lo:Nat} {u:Ty} {m:List u.den} {s1:St} (h:vR s i p lo u m=some s1):∃ ow e',∀ t:St,t.obj i=s.obj i->vR t i p lo u m=some ((t.Z9 i ow).y9 i e'):=by
 unfold vR at h;split at h
 ·rename_i e he
  split at h
  ·rename_i u' l hg
   split at h
   ·rename_i hu
    split at h
    ·rename_i r aL
     split at h
     ·rename_i hc
      refine ⟨e.vu,e.E8 r,λ t ht=>?_⟩;unfold vR;rw [ht,he];simp only [hg,hu,dif_pos];subst hu;simp only [aL,hc]
     ·cases h
    ·cases h
   ·cases h
  ·cases h
 ·cases h
theorem F5.Mj {o:Oper} {p:Prop} {v:AV} {i:Nat} {ow:Bool} {e':i7} (hi:i∈l5 E o s) (hv:∀ j,v.j5 j=true->∃ x∈o.op.operands.toList,(s.ev x).j5 j=true) (hr:∀ t,Z4 s t o.op.operands.toList->(n6 E o t).get=some (p,v,(t.Z9 i ow).y9 i e')):F5 E o s p v:=by
 refine ⟨[],AV.map (AV.xI i ow),λ j=>if j=i then some e' else look j s.hp,(Trim.Z9 i ow).mono (by simpa using hi),by simp [T8],by simp,λ j hj=>.inl (hv j hj),λ t hu ha _=>⟨_,hr t ha,Cz hu,λ n=>?_,λ j=>?_⟩⟩
 ·show look n (mapA _ t.fr)=_
  rw [P9]
 ·show look j (Ex.put i e' t.hp)=_
  rw [o7];by_cases h1:j=i
  ·subst h1; simp [hi]
  ·rw [if_neg h1]
   by_cases h2:j∈l5 E o s
   ·rw [if_pos (.inl h2),if_neg h1]; exact AD ha h2
   ·rw [if_neg (by simp [h2])]
theorem F5.fill {o:Oper} {p:Prop} {v:AV} {i:Nat} {ow:Bool} {e':i7} (hi:i∈l5 E o s) (hv:∀ j,v.j5 j=false) (hr:∀ t,Z4 s t o.op.operands.toList->(n6 E o t).get=some (p,v,(t.Z9 i ow).y9 i e')):F5 E o s p v :=
 .Mj hi (λ j hj=>by rw [hv j] at hj; cases hj) hr
theorem c1O {o:Oper} {c:Call} (ho:o.op=.call c) (hc:c.callee=.builtin .append) {p:Prop} {v:AV} {s1:St} (h:(n6 E o s).get=some (p,v,s1)):F5 E o s p v:=by
 have cU:∀ x∈c.args.toList,x∈o.op.operands.toList:=λ x hx=>by rw [ho]; exact xO hx
 have hT:l5 E o s=(s.K5 c.args.toList).I1:=by unfold l5; rw [ho]; simp only [hc]
 have key:(∃ x y T F,(F=wU E T\/F=xq E T)/\c.args.toList=[x,y]/\(∀ t,t.ev x=s.ev x->t.ev y=s.ev y->n6 E o t=F (t.ev x) (t.ev y) o.dst t))\/(∃ x y T,c.args.toList=[x,y]/\(∀ t,t.ev x=s.ev x->t.ev y=s.ev y->n6 E o t=wV E T (t.ev x) (t.ev y) t))\/(∃ x y T,c.args.toList=[x,y]/\∀ t,n6 E o t=Aq E T (t.ev x) (t.ev y) o.dst t):=by
  unfold n6 at h;rw [ho] at h;simp only [hc] at h;split at h
  ·rename_i x y T U aH fR
   split at h
   ·rename_i hU
    cases jz:(s.ev x).Mw (s.ev y) with
    | true=>exact .inr (.inl ⟨x,y,T,aH,λ t e1 e2=>by unfold n6; rw [ho]; simp only [hc,aH,fR,hU]; rw [e1,e2,jz]⟩)
    | false=>exact .inl ⟨x,y,T,_,.inr rfl,aH,λ t e1 e2=>by unfold n6; rw [ho]; simp only [hc,aH,fR,hU]; rw [e1,e2,jz]⟩
   ·rename_i hU
    exact .inl ⟨x,y,T,_,.inl rfl,aH,λ t _ _=>by unfold n6; rw [ho]; simp only [hc,aH,fR,hU]⟩
   ·rename_i hU
    exact .inr (.inr ⟨x,y,T,aH,λ t=>by unfold n6; rw [ho]; simp only [hc,aH,fR,hU]⟩)
   ·cases h
  ·cases h
 rcases key with key|⟨x,y,T,aH,he⟩|⟨x,y,T,aH,he⟩
 rotate_left
 ·have eZ:x∈o.op.operands.toList:=cU x (by rw [aH]; simp)
  have gW:y∈o.op.operands.toList:=cU y (by rw [aH]; simp);rw [he s rfl rfl] at h;have hI:=b8H h;simp only at hI;obtain ⟨i,lo,hi,q,t0,bts,u,m,l,hx,qK,cw,aX,hf,bD,rfl,rfl⟩:=Te hI;obtain ⟨ow,e',fI⟩:=a72 hf;have hm:(s.ev x).j5 i=true:=by rw [hx]; simp [AV.j5]
  refine F5.Mj (i:=i) (ow:=ow) (e':=e') (by rw [hT,J6,aH]; simp [St.K5,AV.j5,hm]) (λ j hj=>⟨x,eZ,by rw [hx]; exact hj⟩) (λ t ha=>?_);rw [he t (ha x eZ).1 (ha y gW).1,(ha x eZ).1,(ha y gW).1,hx];have pF:t.obj i=some (.own (.d8 true u) l):=((ha x eZ).2 i hm).trans aX;unfold wV;simp only [qK,(Ij (u:=t0) (ha y gW).2).trans cw,pF,fI t ((ha x eZ).2 i hm),bD,decide_true];rfl
 ·have h0:=h
  rw [he] at h;have eZ:x∈o.op.operands.toList:=cU x (by rw [aH]; simp);have gW:y∈o.op.operands.toList:=cU y (by rw [aH]; simp);unfold Aq at h;split at h
  ·rename_i t0 bts d k n qK gM oU oT
   obtain rfl:=BE h (λ _ _ _=>wR);refine F5.lay gM (g:=[]) (u:=.d8 true t0) (x:=List.replicate n.toNat t0.s8) (W:=OR.f9 (0<=n/\n<=140737488355328/\n*(t0.wb:Nat)<=140737488355328)) (λ _ _=>rfl) (λ _=>rfl) (by simp) h0 (λ t ha=>?_);rw [he,(ha x eZ).1,(ha y gW).1];unfold Aq;simp only [qK,gM,oU,oT]
  ·cases h
 obtain ⟨x,y,T,F,hF,aH,he⟩:=key;have h0:=h;rw [he s rfl rfl] at h;have im:∃ d g u l,o.dst=some d/\(∀ j∈g,(s.ev x).j5 j=true\/(s.ev y).j5 j=true)/\∀ t,Alike s t (s.ev x)->Alike s t (s.ev y)->F (s.ev x) (s.ev y) o.dst t=(St.lay t d g u l).f9 p:=by
  rcases hF with rfl|rfl
  ·exact Td h
  ·exact WZ h
 obtain ⟨d,g,u,l,hd,hg,k⟩:=im;have eZ:x∈o.op.operands.toList:=cU x (by rw [aH]; simp);have gW:y∈o.op.operands.toList:=cU y (by rw [aH]; simp);refine F5.lay hd (g:=g) (u:=u) (x:=l) (W:=OR.f9 p) (λ _ _=>rfl) (λ _=>rfl) ?_ h0 (λ t ha=>?_)
 ·intro j hj
  rw [hT,J6,aH];rcases hg j hj with h|h<;>simp [St.K5,AV.j5,h]
 ·rw [he t (ha x eZ).1 (ha y gW).1,(ha x eZ).1,(ha y gW).1]
  exact k t (ha x eZ).2 (ha y gW).2
end
end Go.Ex
namespace Go.Ex
section
variable {E:Env} {s t:St}
theorem ag {o:Oper} {x:Operand} (h:Z4 s t o.op.operands.toList) (hx:x∈o.op.operands.toList):t.ev x=s.ev x/\Alike s t (s.ev x):=⟨(h x hx).1,(h x hx).2⟩
theorem ob1 {i:Nat} {p:List Step} (h:Alike s t (.ptr i p)):t.obj i=s.obj i:=h i (by simp [AV.j5])
theorem ob2 {i:Nat} {p:List Step} (h:Alike s t (.at_ i p)):t.obj i=s.obj i:=h i (by simp [AV.j5])
theorem ob3 {i:Nat} {p:List Step} {a b:Int} (h:Alike s t (.sub i p a b)):t.obj i=s.obj i:=h i (by simp [AV.j5])
theorem b4N {o:Oper} {T:TypeId} {x:Operand} {n:Nat} (ho:o.op=.fieldAddr T x n) {p:Prop} {v:AV} {s1:St} (h:(n6 E o s).get=some (p,v,s1)):F5 E o s p v:=by
 have hx:x∈o.op.operands.toList:=by rw [ho]; simp [Op.operands]
 refine .ro h (λ t ha=>?_) (λ i hi=>⟨x,hx,?_⟩)
 ·obtain ⟨e1,e2⟩:=ag ha hx
  unfold n6;rw [ho];simp only [e1];cases hx:s.ev x with
  | ptr i q =>
   rw [hx] at e2;simp only [K1 (e2 i (by simp [AV.j5]))]
   repeat' (first|rfl|split)
  | val u z =>
   cases u with
   | box o0 g0 u0=>cases o0<;>cases g0<;>first|rfl|(dsimp only; repeat' (first|rfl|split))
   | _=>first|rfl|(dsimp only; repeat' (first|rfl|split))
  | _=>first|rfl|(dsimp only; split<;>rfl)
 ·unfold n6 at hi
  rw [ho] at hi;simp only at hi;cases hx:s.ev x with
  | ptr j q =>
   rw [hx] at hi;simp only at hi
   repeat' (split at hi)
   all_goals first|exact hi|(cases hi; done)
  | val u z =>
   rw [hx] at hi;exfalso;cases u with
   | box o0 g0 u0=>cases o0<;>cases g0<;>first|(cases hi; done)|(simp only at hi; repeat' (split at hi))<;>(cases hi)
   | _=>first|(cases hi; done)|(simp only at hi; repeat' (split at hi))<;>(cases hi)
  | _ =>
   rw [hx] at hi;simp only at hi
   repeat' (split at hi)
   all_goals first|exact hi|(cases hi; done)
theorem b4M {o:Oper} {T:TypeId} {x y:Operand} (ho:o.op=.indexAddr T x y) {p:Prop} {v:AV} {s1:St} (h:(n6 E o s).get=some (p,v,s1)):F5 E o s p v:=by
 have cU:x∈o.op.operands.toList:=by rw [ho]; simp [Op.operands]
 have mm:y∈o.op.operands.toList:=by rw [ho]; simp [Op.operands]
 refine .ro h (λ t ha=>?_) (λ i hi=>⟨x,cU,?_⟩)
 ·obtain ⟨e1,e2⟩:=ag ha cU
  have e3:=(ag ha mm).1;unfold n6;rw [ho];simp only [e1,e3]
  split
  ·rename_i hx _; rw [hx] at e2; (first|simp only [K1 (ob1 e2)]|simp only [K1 (ob2 e2)]) ; (generalize s.part _ _=pt; cases pt with|none=>rfl|some q=>(obtain ⟨u,z⟩:=q; cases u<;>first|rfl|(dsimp only; repeat' (first|rfl|split))|(rename_i o0 _; cases o0<;>first|rfl|(dsimp only; repeat' (first|rfl|split)))))
  ·repeat' (first|rfl|split)
  ·repeat' (first|rfl|split)
  ·rename_i hx _; rw [hx] at e2; (first|simp only [K1 (ob1 e2)]|simp only [K1 (ob2 e2)]) ; (generalize s.part _ _=pt; cases pt with|none=>rfl|some q=>(obtain ⟨u,z⟩:=q; cases u<;>first|rfl|(dsimp only; repeat' (first|rfl|split))|(rename_i o0 _; cases o0<;>first|rfl|(dsimp only; repeat' (first|rfl|split)))))
  ·rename_i hx _; rw [hx] at e2; simp only [Ew (ob3 e2)] ; (generalize s.view _ _ _ _=pt; cases pt with|none=>rfl|some q=>(obtain ⟨u,z⟩:=q; dsimp only; repeat' (first|rfl|split)))
  ·rfl
 ·unfold n6 at hi
  rw [ho] at hi;simp only at hi;split at hi
  ·rename_i hx _; rw [hx]; repeat' (split at hi)
   all_goals first|exact hi|(cases hi; done)
  ·repeat' (split at hi)
   all_goals (cases hi; done)
  ·repeat' (split at hi)
   all_goals (cases hi; done)
  ·rename_i hx _; rw [hx]; repeat' (split at hi)
   all_goals first|exact hi|(cases hi; done)
  ·rename_i hx _; rw [hx]; repeat' (split at hi)
   all_goals first|exact hi|(cases hi; done)
  ·cases hi
theorem Yy {o:Oper} {T:TypeId} {x y:Operand} (ho:o.op=.index T x y) {p:Prop} {v:AV} {s1:St} (h:(n6 E o s).get=some (p,v,s1)):F5 E o s p v:=by
 have cU:x∈o.op.operands.toList:=by rw [ho]; simp [Op.operands]
 have mm:y∈o.op.operands.toList:=by rw [ho]; simp [Op.operands]
 refine .ro h (λ t ha=>?_) (λ i hi=>⟨x,cU,?_⟩)
 ·obtain ⟨e1,e2⟩:=ag ha cU
  have e3:=(ag ha mm).1;unfold n6;rw [ho];simp only [e1,e3]
  split
  ·split<;>rfl
  ·split<;>rfl
  ·rename_i hx _; rw [hx] at e2; (first|simp only [K1 (ob1 e2)]|simp only [K1 (ob2 e2)]) ; (generalize s.part _ _=pt; cases pt with|none=>rfl|some q=>(obtain ⟨u,z⟩:=q; cases u<;>first|rfl|(dsimp only; repeat' (first|rfl|split))|(rename_i o0 _; cases o0<;>first|rfl|(dsimp only; repeat' (first|rfl|split)))))
  ·rfl
 ·unfold n6 at hi
  rw [ho] at hi;simp only at hi;split at hi
  ·repeat' (split at hi)
   all_goals (cases hi; done)
  ·repeat' (split at hi)
   all_goals (cases hi; done)
  ·rename_i hx _; rw [hx]; repeat' (split at hi)
   all_goals first|exact hi|(cases hi; done)
  ·cases hi
theorem YX {o:Oper} {T:TypeId} {x:Operand} {n:Nat} (ho:o.op=.field T x n) {p:Prop} {v:AV} {s1:St} (h:(n6 E o s).get=some (p,v,s1)):F5 E o s p v:=by
 have cU:x∈o.op.operands.toList:=by rw [ho]; simp [Op.operands]
 refine .ro h (λ t ha=>?_) (λ i hi=>⟨x,cU,?_⟩)
 ·obtain ⟨e1,e2⟩:=ag ha cU
  unfold n6;rw [ho];simp only [e1]
  split
  ·split<;>rfl
  ·rename_i hx; rw [hx] at e2; (first|simp only [K1 (ob1 e2)]|simp only [K1 (ob2 e2)]) ; (generalize s.part _ _=pt; cases pt with|none=>rfl|some q=>(obtain ⟨u,z⟩:=q; cases u<;>first|rfl|(dsimp only; repeat' (first|rfl|split))|(rename_i o0 _; cases o0<;>first|rfl|(dsimp only; repeat' (first|rfl|split)))))
  ·rfl
 ·unfold n6 at hi
  rw [ho] at hi;simp only at hi;split at hi
  ·repeat' (split at hi)
   all_goals (cases hi; done)
  ·rename_i hx; rw [hx]; repeat' (split at hi)
   all_goals first|exact hi|(cases hi; done)
  ·cases hi
theorem Wh {o:Oper} {c:Call} (ho:o.op=.call c) (hc:c.callee=.builtin .cap) {p:Prop} {v:AV} {s1:St} (h:(n6 E o s).get=some (p,v,s1)):F5 E o s p v:=by
 obtain ⟨x,T,ha,hT⟩:∃ x T,c.args.toList=[x]/\c.argTypes.toList=[T]:=by
  unfold n6 at h;rw [ho] at h;simp only [hc] at h;split at h
  ·exact ⟨_,_,by assumption,by assumption⟩
  ·cases h
 have iC:x∈o.op.operands.toList:=by rw [ho]; exact xO (by rw [ha]; simp)
 refine .ro h (λ t dy=>?_) (λ i hi=>?_)
 ·obtain ⟨e1,e2⟩:=ag dy iC
  unfold n6;rw [ho];simp only [hc,ha,hT,e1]
  repeat' (first|rfl|split)
 ·exfalso
  unfold n6 at hi;rw [ho] at hi;simp only [hc,ha,hT] at hi
  repeat' (split at hi)
  all_goals (cases hi)
theorem c0F {o:Oper} {T:TypeId} {x y:Operand} {ok:Bool} (ho:o.op=.lookup T x y ok) {p:Prop} {v:AV} {s1:St} (h:(n6 E o s).get=some (p,v,s1)):F5 E o s p v:=by
 unfold n6 at h; rw [ho] at h; cases h
theorem b75 {o:Oper} {T:TypeId} {r:Option Operand} (ho:o.op=.makeMap T r) {p:Prop} {v:AV} {s1:St} (h:(n6 E o s).get=some (p,v,s1)):F5 E o s p v:=by
 unfold n6 at h; rw [ho] at h; cases h
theorem Zv {o:Oper} {T:TypeId} {x:Operand} {lo hi mx:Option Operand} (ho:o.op=.slice T x lo hi mx) {p:Prop} {v:AV} {s1:St} (h:(n6 E o s).get=some (p,v,s1)):F5 E o s p v:=by
 have ig:∀ y,y=x\/lo=some y\/hi=some y\/mx=some y->y∈o.op.operands.toList:=by
  rw [ho];rintro y (rfl|rfl|rfl|rfl)<;>simp [Op.operands]
 have cU:x∈o.op.operands.toList:=ig x (.inl rfl);have he:∀ t,n6 E o t=yu E T (t.ev x) lo hi mx t:=λ t=>by unfold n6; rw [ho]
 refine .ro h (λ t ha=>?_) (λ i cY=>⟨x,cU,?_⟩)
 ·obtain ⟨e1,e2⟩:=ag ha cU
  rw [he,he,e1];have b1:∀ d,bnd t d lo=bnd s d lo:=λ d=>HO (λ y hy=>(ag ha (ig y (.inr (.inl hy)))).1);have b2:∀ d,bnd t d hi=bnd s d hi:=λ d=>HO (λ y hy=>(ag ha (ig y (.inr (.inr (.inl hy))))).1);have b3:∀ d,bnd t d mx=bnd s d mx:=λ d=>HO (λ y hy=>(ag ha (ig y (.inr (.inr (.inr hy))))).1);unfold yu;simp only [b1,b2,b3]
  split
  ·rfl
  ·split
   ·repeat' (first|rfl|split)
   ·repeat' (first|rfl|split)
   ·repeat' (first|rfl|split)
   ·repeat' (first|rfl|split)
   ·rename_i hx; rw [hx] at e2; (first|simp only [K1 (ob1 e2)]|simp only [K1 (ob2 e2)]) ; (generalize s.part _ _=pt; cases pt with|none=>rfl|some q=>(obtain ⟨u,z⟩:=q; cases u<;>first|rfl|(dsimp only; repeat' (first|rfl|split))|(rename_i o0 _; cases o0<;>first|rfl|(dsimp only; repeat' (first|rfl|split)))))
   ·rename_i hx; rw [hx] at e2; simp only [K1 (ob3 e2)] ; (generalize s.part _ _=pt; cases pt with|none=>rfl|some q=>(obtain ⟨u,z⟩:=q; cases u<;>first|rfl|(dsimp only; repeat' (first|rfl|split))|(rename_i o0 _; cases o0<;>first|rfl|(dsimp only; repeat' (first|rfl|split)))))
   ·rename_i hx; rw [hx] at e2; (first|simp only [K1 (ob1 e2)]|simp only [K1 (ob2 e2)]) ; (generalize s.part _ _=pt; cases pt with|none=>rfl|some q=>(obtain ⟨u,z⟩:=q; cases u<;>first|rfl|(dsimp only; repeat' (first|rfl|split))|(rename_i o0 _; cases o0<;>first|rfl|(dsimp only; repeat' (first|rfl|split)))))
   ·rfl
 ·rw [he] at cY
  unfold yu at cY;split at cY
  ·cases cY
  ·split at cY
   ·repeat' (split at cY)
    all_goals (cases cY; done)
   ·repeat' (split at cY)
    all_goals (cases cY; done)
   ·repeat' (split at cY)
    all_goals (cases cY; done)
   ·repeat' (split at cY)
    all_goals (cases cY; done)
   ·rename_i hx; rw [hx]; repeat' (split at cY)
    all_goals first|exact cY|(cases cY; done)
   ·rename_i hx; rw [hx]; repeat' (split at cY)
    all_goals first|exact cY|(cases cY; done)
   ·rename_i hx; rw [hx]; repeat' (split at cY)
    all_goals first|exact cY|(cases cY; done)
   ·cases cY
theorem Wq {o:Oper} {c:Call} (ho:o.op=.call c) (hc:c.callee=.builtin .len) {p:Prop} {v:AV} {s1:St} (h:(n6 E o s).get=some (p,v,s1)):F5 E o s p v:=by
 obtain ⟨x,T,ha,hT⟩:∃ x T,c.args.toList=[x]/\c.argTypes.toList=[T]:=by
  unfold n6 at h;rw [ho] at h;simp only [hc] at h;split at h
  ·exact ⟨_,_,by assumption,by assumption⟩
  ·cases h
 have iC:x∈o.op.operands.toList:=by rw [ho]; exact xO (by rw [ha]; simp)
 refine .ro h (λ t dy=>?_) (λ i hi=>?_)
 ·obtain ⟨e1,e2⟩:=ag dy iC
  unfold n6;rw [ho];simp only [hc,ha,hT,e1]
  split
  ·repeat' (first|rfl|split)
  ·repeat' (first|rfl|split)
  ·repeat' (first|rfl|split)
  ·repeat' (first|rfl|split)
  ·rename_i hx; rw [hx] at e2; (first|simp only [K1 (ob1 e2)]|simp only [K1 (ob2 e2)]) ; (generalize s.part _ _=pt; cases pt with|none=>rfl|some q=>(obtain ⟨u,z⟩:=q; cases u<;>first|rfl|(dsimp only; repeat' (first|rfl|split))|(rename_i o0 _; cases o0<;>first|rfl|(dsimp only; repeat' (first|rfl|split)))|(rename_i o0 _ _; cases o0<;>first|rfl|(dsimp only; repeat' (first|rfl|split)))))
  ·rename_i hx; rw [hx] at e2; simp only [Ew (ob3 e2)] ; (generalize s.view _ _ _ _=pt; cases pt with|none=>rfl|some q=>(obtain ⟨u,z⟩:=q; dsimp only; repeat' (first|rfl|split)))
  ·repeat' (first|rfl|split)
  ·rfl
 ·exfalso
  unfold n6 at hi;rw [ho] at hi;simp only [hc,ha,hT] at hi
  repeat' (split at hi)
  all_goals (cases hi)
theorem Ps {k:IntKind} {f:Int->Int->Int}:∀ {l:List Operand} {n:Int},(∀ x∈l,t.ev x=s.ev x)->foldI t k f n l=(foldI s k f n l).wP t
 | [],n,_=>rfl
 | x::l,n,h=>by
  simp only [foldI,h x (by simp)]
  split
  ·split
   ·exact Ps (λ y hy=>h y (by simp [hy]))
   ·rfl
  ·rfl
theorem KC {k:IntKind} {f:Int->Int->Int} {i:Nat}:∀ {l:List Operand} {n:Int},(foldI s k f n l).av.j5 i=true->False
 | [],n,h=>by cases h
 | x::l,n,h=>by
  simp only [foldI] at h;split at h
  ·split at h
   ·exact KC h
   ·cases h
  ·cases h
theorem SE {o:Oper} {c:Call} (ho:o.op=.call c) (hc:c.callee=.builtin .max\/c.callee=.builtin .min) {p:Prop} {v:AV} {s1:St} (h:(n6 E o s).get=some (p,v,s1)):F5 E o s p v:=by
 have cU:∀ x∈c.args.toList,x∈o.op.operands.toList:=λ x hx=>by rw [ho]; exact xO hx
 refine .ro h (λ t dy=>?_) (λ i hi=>?_)
 ·unfold n6
  rw [ho];rcases hc with hc|hc <;>
  ·simp only [hc]
   split
   ·rename_i x l ha
    rw [(dy x (cU x (by rw [ha]; simp))).1]
    split
    ·exact Ps (λ y hy=>(dy y (cU y (by rw [ha]; simp [hy]))).1)
    ·rfl
   ·rfl
 ·exfalso
  unfold n6 at hi;rw [ho] at hi;rcases hc with hc|hc
  ·simp only [hc] at hi
   split at hi
   ·split at hi
    ·exact KC hi
    ·cases hi
   ·cases hi
  ·simp only [hc] at hi
   split at hi
   ·split at hi
    ·exact KC hi
    ·cases hi
   ·cases hi
theorem YO {o:Oper} {T:TypeId} {parts:Array (Nat×Operand)} (ho:o.op=.build T parts) {p:Prop} {v:AV} {s1:St} (h:(n6 E o s).get=some (p,v,s1)):F5 E o s p v:=by
 have fb:∀ t,Z4 s t o.op.operands.toList->∀ q∈parts.toList,t.ev q.2=s.ev q.2/\Alike s t (s.ev q.2):=λ t ha q hq=>ag ha (by rw [ho]; simp only [Op.operands]; simpa using ⟨q.1,by simpa using hq⟩);have key:∃ t0 r g,look T E.tt=some t0/\(t0.ty.agg && parts.toList.all (λ q=>wH t0.ty q.1))=true/\T7 s ⟨t0.ty,t0.ty.s8⟩ parts.toList=some (r,g):=by
  unfold n6 at h; rw [ho] at h;simp only at h;split at h
  ·split at h
   ·split at h
    ·exact ⟨_,_,_,by assumption,by assumption,by assumption⟩
    ·exact ⟨_,_,_,by assumption,by assumption,by assumption⟩
    ·cases h
   ·cases h
  ·cases h
 obtain ⟨t0,⟨u,y⟩,g,h1,h2,h3⟩:=key;have hb:∀ t,Z4 s t o.op.operands.toList->T7 t ⟨t0.ty,t0.ty.s8⟩ parts.toList=some (⟨u,y⟩,g):=λ t ha=>(ER (s:=s) (t:=t) (fb t ha)).trans h3;cases g with
 | nil =>
  have he:∀ t,Z4 s t o.op.operands.toList->n6 E o t=.ok (.val u y) t:=λ t ha=>by unfold n6; rw [ho]; simp only [h1,h2,hb t ha]
  refine .ro h (λ t ha=>?_) (λ i hi=>?_)
  ·rw [he t ha,he s (.refl _ _)]; rfl
  ·rw [he s (.refl _ _)] at hi; cases hi
 | cons g0 g =>
  cases hd:o.dst with
  | none =>
   exfalso;unfold n6 at h; rw [ho] at h;simp only [h1,h2,h3,hd] at h;cases h
  | some d =>
   refine F5.lay hd (g:=g0::g) (u:=u) (x:=y) (W:=λ r=>r) (p:=p) (v:=v) (s1:=s1) ?_ (λ _=>rfl) ?_ h (λ t ha=>by unfold n6; rw [ho]; simp only [h1,h2,hb t ha,hd])
   ·have hp:p=True:=by
     unfold n6 at h; rw [ho] at h;simp only [h1,h2,h3,hd] at h;cases hl:s.lay d (g0::g) u y<;>rw [hl] at h
     ·cases h
     ·cases h; rfl
     ·exact absurd hl wR
    intro v s; rw [hp]; rfl
   ·intro i hi
    obtain ⟨q,hq,hm⟩:=FE h3 i hi;unfold l5;rw [ho];exact J6.2 (JC (List.mem_map.2 ⟨q,hq,rfl⟩) hm)
theorem b28 {o:Oper} {T:TypeId} {n:Nat} {parts:Array (Nat×Operand)} (ho:o.op=.buildSlice T n parts) {p:Prop} {v:AV} {s1:St} (h:(n6 E o s).get=some (p,v,s1)):F5 E o s p v:=by
 have fb:∀ t,Z4 s t o.op.operands.toList->∀ q∈parts.toList,t.ev q.2=s.ev q.2/\Alike s t (s.ev q.2):=λ t ha q hq=>ag ha (by rw [ho]; simp only [Op.operands]; simpa using ⟨q.1,by simpa using hq⟩);have key:∃ t0 b d m t' l g,look T E.tt=some ⟨.d8 true t0,b⟩/\o.dst=some d/\(s.fresh d && parts.toList.all (λ q=>Nat.blt q.1 n) && Nat.ble (n*t0.size) 16777216)=true/\zS s n t0 parts.toList=some (⟨.arr m t',l⟩,g):=by
  unfold n6 at h; rw [ho] at h;simp only at h;split at h
  ·split at h
   ·split at h
    ·exact ⟨_,_,_,_,_,_,_,by assumption,by assumption,by assumption,by assumption⟩
    ·cases h
   ·cases h
  ·cases h
 obtain ⟨t0,b,d,m,t',l,g,h1,h2,h4,h5⟩:=key;have hb:∀ t,Z4 s t o.op.operands.toList->zS t n t0 parts.toList=some (⟨.arr m t',l⟩,g):=λ t ha=>by
  rw [<- h5]; unfold zS; rw [ER (s:=s) (t:=t) (fb t ha),ER (s:=s) (t:=t) (fb t ha)]
 obtain ⟨t9,_,h9⟩:=Px h5;have he:∀ t,Z4 s t o.op.operands.toList->t.fresh d=true->n6 E o t=t.lay d g (.d8 true t') l:=λ t ha hf=>by
  simp only [Bool.and_eq_true] at h4;unfold n6; rw [ho]; simp only [h1,h2,hf,h4.1.2,h4.2,hb t ha,Bool.and_self]
 have hf:s.fresh d=true:=by simp only [Bool.and_eq_true] at h4; exact h4.1.1
 have ji:∀ i∈g,i∈l5 E o s:=by
  intro i hi;obtain ⟨q,hq,hm⟩:=FE h9 i hi;unfold l5;rw [ho];exact J6.2 (JC (List.mem_map.2 ⟨q,hq,rfl⟩) hm)
 rw [he s (.refl _ _) hf] at h;cases hl:s.lay d g (.d8 true t') l with
 | fail y=>rw [hl] at h; cases h
 | G6 q v s'=>exact absurd hl wR
 | ok v' s' =>
  rw [hl] at h;cases h;obtain ⟨k1,rfl,rfl,k4⟩:=Nr hl;exact F5.obj h2 (e:=.own (.d8 true t') l) (g:=g) (λ i hi=>by simpa [AV.j5] using hi) k1 ji (λ t ha hu hf=>by rw [he t ha hf,MF hf k4]; rfl)
theorem We {o:Oper} {T:TypeId} {x:Operand} (ho:o.op=.box T x) {p:Prop} {v:AV} {s1:St} (h:(n6 E o s).get=some (p,v,s1)):F5 E o s p v:=by
 have cU:x∈o.op.operands.toList:=by rw [ho]; simp [Op.operands]
 have hT:l5 E o s=(s.ev x).I1:=by unfold l5; rw [ho]
 have key:∃ t0 d,look T E.tt=some t0/\o.dst=some d/\s.fresh d=true:=by
  unfold n6 at h; rw [ho] at h;simp only at h;split at h
  ·split at h
   ·exact ⟨_,_,by assumption,by assumption,by assumption⟩
   ·cases h
  ·cases h
 obtain ⟨t0,d,h1,h2,h3⟩:=key;have he:∀ t,t.fresh d=true->n6 E o t=(match (t.ev x).vC t with
    | some (⟨u,y⟩,g)=>if u.T1.sh=t0.ty.T1.sh then (match wI g && !g.contains d && g.all λ i=>!pinned i with
     | true=>.ok (.ptr d []) ((St.B0 g t).y9 d (.var u y))
     | false=>.fail "box: objects") else .fail "box: value"
    | none=>(match t.ev x,t0.ty with
     | .raw (.slice none 0 0),.d8 o u=>.ok (.ptr d []) (t.y9 d (.var (.d8 o u) ([]:List u.den)))
     | .ptr i p,.box _ none _=>.ok (.bx (.ptr i p)) t
     | _,_=>.fail "box: what")):=λ t ht=>by unfold n6; rw [ho]; simp only [h1,h2,ht]; rfl
 rw [he s h3] at h;split at h
 ·rename_i u y g cW
  split at h
  ·rename_i ch
   split at h
   ·rename_i hc
    cases h;refine F5.obj h2 (e:=.var u y) (g:=g) (λ i hi=>by simpa [AV.j5] using hi) h3 (λ i hi=>by rw [hT]; exact J6.2 (Fo cW i hi)) (λ t ha hu hf=>?_);obtain ⟨e1,e2⟩:=ag ha cU;rw [he t hf,e1];simp only [(zA e2).trans cW,ch,if_true,hc];rfl
   ·cases h
  ·cases h
 ·rename_i cW
  split at h
  ·rename_i o' u hx kN
   cases h;refine F5.obj h2 (e:=.var (.d8 o' u) ([]:List u.den)) (g:=[]) (λ i hi=>by simpa [AV.j5] using hi) h3 (by simp) (λ t ha hu hf=>?_);obtain ⟨e1,e2⟩:=ag ha cU;have fy:=(zA e2).trans cW;rw [hx] at e1 fy;rw [he t hf,e1];simp only [fy,kN];rfl
  ·rename_i i q o0 u0 hx kN
   cases h;refine ⟨[d],λ u=>u,λ j=>if j=d then none else look j s.hp,Trim.id _,Rk h3,by simp [h2],λ j hj=>.inl ⟨x,cU,by rw [hx]; exact hj⟩,λ t hu ha hn=>?_⟩;have hf:=Qd hu hn;obtain ⟨e1,e2⟩:=ag ha cU;have fy:=(zA e2).trans cW;rw [hx] at e1 fy;refine ⟨t,?_,hu,⟨λ n=>by simp,λ j=>?_⟩⟩
   ·rw [he t hf,e1]; simp only [fy,kN]; rfl
   ·by_cases hj:j=d
    ·subst hj
     rw [if_pos (.inr (by simp)),if_pos rfl];exact (hn j (by simp)).1
    ·by_cases jh:j∈l5 E o s
     ·rw [if_pos (.inl jh),if_neg hj]; exact AD ha jh
     ·rw [if_neg (by simp [jh,hj])]
  ·cases h
theorem b8l {o:Oper} {T' T:TypeId} {x:Operand} (ho:o.op=.convert T' T x) {p:Prop} {v:AV} {s1:St} (h:(n6 E o s).get=some (p,v,s1)):F5 E o s p v:=by
 have cU:x∈o.op.operands.toList:=by rw [ho]; simp [Op.operands]
 by_cases hs:(∃ y,s.ev x=.val .str y)/\(∃ b,look T' E.tt=some ⟨.str,b⟩)/\(∃ b,look T E.tt=some ⟨.d8 true (.int .u8),b⟩)
 ·obtain ⟨⟨y,hy⟩,⟨b,hb⟩,⟨b',cX⟩⟩:=hs
  cases hd:o.dst with
  | none =>
   exfalso;unfold n6 at h; rw [ho] at h;simp only [hy,hb,cX,hd] at h;cases h
  | some d =>
   have he:∀ t,t.ev x=s.ev x->n6 E o t=t.lay d [] (.d8 true (.int .u8)) (List.map (λ b:UInt8=>(b.toNat:Int)) y:List Int):=λ t ht=>by
    unfold n6; rw [ho]; simp only [ht,hy,hb,cX,hd]
   have hp:p=True:=by
    rw [he s rfl] at h;cases hl:s.lay d [] (.d8 true (.int .u8)) (List.map (λ b:UInt8=>(b.toNat:Int)) y:List Int)<;>rw [hl] at h
    ·cases h
    ·cases h; rfl
    ·exact absurd hl wR
   exact F5.lay hd (g:=[]) (W:=λ r=>r) (λ v s=>by rw [hp]; rfl) (λ _=>rfl) (by simp) h (λ t ha=>he t (ag ha cU).1)
 ·refine .ro h (λ t ha=>?_) (λ i hi=>?_)
  ·obtain ⟨e1,e2⟩:=ag ha cU
   unfold n6; rw [ho]; simp only [e1]
   split
   ·rfl
   ·rename_i hx pb pa
    exact absurd ⟨⟨_,hx⟩,⟨_,pb⟩,⟨_,pa⟩⟩ hs
   ·rw [HF e2]
    repeat' (first|rfl|split)
   ·rfl
  ·exfalso
   unfold n6 at hi; rw [ho] at hi;simp only at hi;split at hi
   ·cases hi
   ·rename_i hx pb pa
    exact absurd ⟨⟨_,hx⟩,⟨_,pb⟩,⟨_,pa⟩⟩ hs
   ·repeat' (split at hi)
    all_goals (cases hi)
   ·cases hi
theorem b4J {o:Oper} {T:TypeId} {x y:Operand} (ho:o.op=.makeSlice T x y) {p:Prop} {v:AV} {s1:St} (h:(n6 E o s).get=some (p,v,s1)):F5 E o s p v:=by
 have cU:x∈o.op.operands.toList:=by rw [ho]; simp [Op.operands]
 have mm:y∈o.op.operands.toList:=by rw [ho]; simp [Op.operands]
 have key:∃ t0 b d k n k' m,look T E.tt=some ⟨.d8 true t0,b⟩/\o.dst=some d/\s.ev x=.val (.int k) n/\s.ev y=.val (.int k') m/\E.rs.any Ty.Hc=false:=by
  unfold n6 at h; rw [ho] at h;simp only at h;split at h
  ·cases h
  ·rename_i sO
   split at h
   ·exact ⟨_,_,_,_,_,_,_,by assumption,by assumption,by assumption,by assumption,sO⟩
   ·cases h
 obtain ⟨t0,b,d,k,n,k',m,h1,h2,h3,h4,pP⟩:=key;have he:∀ t,t.ev x=s.ev x->t.ev y=s.ev y->n6 E o t=(t.lay d [] (.d8 true t0) (List.replicate (Int.toNat n) t0.s8)).f9 (@LE.le Int Int.instLEInt 0 n/\@LE.le Int Int.instLEInt n m/\@LE.le Int Int.instLEInt m 140737488355328/\@LE.le Int Int.instLEInt (@HMul.hMul Int Int Int _ m (t0.wb:Nat)) 140737488355328):=λ t e1 e2=>by
  unfold n6; rw [ho]; simp only [e1,e2,pP,h1,h2,h3,h4]
 have h0:=h;rw [he s rfl rfl] at h;obtain rfl:=BE h (λ _ _ _=>wR);exact F5.lay h2 (g:=[]) (W:=OR.f9 _) (λ _ _=>rfl) (λ _=>rfl) (by simp) h0 (λ t ha=>he t (ag ha cU).1 (ag ha mm).1)
theorem Nn {v:AV} (h:Alike s t v):v.wq t=v.wq s:=by
 unfold AV.wq
 split
 ·rw [K1 (ob2 h)]
 ·rw [K1 (ob3 h)]
 ·rfl
theorem Rf {v:AV} {i:Nat} {p:List Step} {lo hi:Int} (h:v.wq s=some (i,p,lo,hi)):v.j5 i=true:=by
 unfold AV.wq at h;split at h
 ·split at h
  ·cases h; simp [AV.j5]
  ·cases h
 ·split at h
  ·cases h; simp [AV.j5]
  ·cases h
 ·cases h
theorem Xi {o:Oper} {c:Call} (ho:o.op=.call c) (hc:c.callee=.builtin .copy) {p:Prop} {v:AV} {s1:St} (h:(n6 E o s).get=some (p,v,s1)):F5 E o s p v:=by
 have cU:∀ x∈c.args.toList,x∈o.op.operands.toList:=λ x hx=>by rw [ho]; exact xO hx
 have hT:l5 E o s=(s.K5 c.args.toList).I1:=by unfold l5; rw [ho]; simp only [hc]
 have key:∃ x y T,c.args.toList=[x,y]/\∀ t,n6 E o t=Ac E T (t.ev x) (t.ev y) t:=by
  unfold n6 at h;rw [ho] at h;simp only [hc] at h;split at h
  ·rename_i x y T U aH fR
   exact ⟨x,y,T,aH,λ t=>by unfold n6; rw [ho]; simp only [hc,aH,fR]⟩
  ·cases h
 obtain ⟨x,y,T,aH,he⟩:=key;rw [he] at h;have eZ:x∈o.op.operands.toList:=cU x (by rw [aH]; simp);have gW:y∈o.op.operands.toList:=cU y (by rw [aH]; simp);unfold Ac at h;split at h
 ·rename_i i q lo hi u m hd fA
  split at h
  ·rename_i s' hf bD
   simp only [OR.get,Option.some.injEq,Prod.mk.injEq] at h;obtain ⟨rfl,rfl,_⟩:=h;obtain ⟨ow,e',fI⟩:=a72 hf;have hm:=Rf hd;refine F5.fill (i:=i) (ow:=ow) (e':=e') (by rw [hT,J6,aH]; simp [St.K5,AV.j5,hm]) (λ _=>rfl) (λ t ha=>?_);rw [he,(ha x eZ).1,(ha y gW).1];unfold Ac;rw [Nn (ha x eZ).2,HF (ha y gW).2,hd,fA];simp only [fI t ((ha x eZ).2 i hm),bD];rfl
  ·cases h
 ·cases h
theorem YT {o:Oper} {c:Call} (ho:o.op=.call c) (hc:c.callee=.builtin .clear) {p:Prop} {v:AV} {s1:St} (h:(n6 E o s).get=some (p,v,s1)):F5 E o s p v:=by
 have cU:∀ x∈c.args.toList,x∈o.op.operands.toList:=λ x hx=>by rw [ho]; exact xO hx
 have hT:l5 E o s=(s.K5 c.args.toList).I1:=by unfold l5; rw [ho]; simp only [hc]
 have key:∃ x T,c.args.toList=[x]/\∀ t,n6 E o t=Ag E T (t.ev x) t:=by
  unfold n6 at h;rw [ho] at h;simp only [hc] at h;split at h
  ·rename_i x T aH fR
   exact ⟨x,T,aH,λ t=>by unfold n6; rw [ho]; simp only [hc,aH,fR]⟩
  ·cases h
 obtain ⟨x,T,aH,he⟩:=key;rw [he] at h;have eZ:x∈o.op.operands.toList:=cU x (by rw [aH]; simp);unfold Ag at h;split at h
 ·rename_i i q lo hi b u bts hd dq
  split at h
  ·rename_i s' hf
   simp only [OR.get,Option.some.injEq,Prod.mk.injEq] at h;obtain ⟨rfl,rfl,_⟩:=h;obtain ⟨ow,e',fI⟩:=a72 hf;have hm:=Rf hd;refine F5.fill (i:=i) (ow:=ow) (e':=e') (by rw [hT,J6,aH]; simp [St.K5,AV.j5,hm]) (λ _=>rfl) (λ t ha=>?_);rw [he,(ha x eZ).1];unfold Ag;rw [Nn (ha x eZ).2,hd,dq];simp only [fI t ((ha x eZ).2 i hm)];rfl
  ·cases h
 ·cases h
theorem c0b {o:Oper} {T:TypeId} {m x y:Operand} (ho:o.op=.mapUpdate T m x y) {p:Prop} {v:AV} {s1:St} (h:(n6 E o s).get=some (p,v,s1)):F5 E o s p v:=by
 unfold n6 at h; rw [ho] at h; cases h
theorem WG {o:Oper} (iK:∀ a b c,o.op≠.pick a b c) {p:Prop} {v:AV} {s1:St} (h:(n6 E o s).get=some (p,v,s1)):F5 E o s p v:=by
 have dz:∀ x,x∈o.op.operands.toList↔x∈o.op.operands.toList:=λ _=>Iff.rfl;cases ho:o.op with
 | move x =>
  have hx:x∈o.op.operands.toList:=by rw [ho]; simp [Op.operands]
  refine .ro h (λ t ha=>?_) (λ i hi=>⟨x,hx,?_⟩)
  ·unfold n6; rw [ho]; simp only [(ag ha hx).1]; rfl
  ·unfold n6 at hi; rw [ho] at hi; exact hi
 | assign x =>
  have hx:x∈o.op.operands.toList:=by rw [ho]; simp [Op.operands]
  refine .ro h (λ t ha=>?_) (λ i hi=>⟨x,hx,?_⟩)
  ·unfold n6; rw [ho]; simp only [(ag ha hx).1]; rfl
  ·unfold n6 at hi; rw [ho] at hi; exact hi
 | load T x =>
  have hx:x∈o.op.operands.toList:=by rw [ho]; simp [Op.operands]
  have hl:∀ t,n6 E o t=Z1 E T (t.ev x) t:=λ t=>by unfold n6; rw [ho]
  refine .ro h (λ t ha=>?_) (λ i hi=>⟨x,hx,?_⟩)
  ·obtain ⟨e1,e2⟩:=ag ha hx
   rw [hl,hl,e1]; exact XZ e2
  ·rw [hl] at hi; exact c0I hi
 | nilCheck x =>
  have hx:x∈o.op.operands.toList:=by rw [ho]; simp [Op.operands]
  refine .ro h (λ t ha=>?_) (λ i hi=>⟨x,hx,?_⟩)
  ·unfold n6; rw [ho]; simp only [(ag ha hx).1]; split<;>rfl
  ·unfold n6 at hi; rw [ho] at hi
   simp only at hi;split at hi<;>first|(cases hi; done)|(rename_i e; rw [e]; exact hi)
 | binOp op T x y T' =>
  have hx:x∈o.op.operands.toList:=by rw [ho]; simp [Op.operands]
  have hy:y∈o.op.operands.toList:=by rw [ho]; simp [Op.operands]
  have hl:∀ t,n6 E o t=wF E T op (t.ev x) (t.ev y) t:=λ t=>by unfold n6; rw [ho]
  refine .ro h (λ t ha=>?_) (λ i hi=>?_)
  ·rw [hl,hl,(ag ha hx).1,(ag ha hy).1]; exact WK ..
  ·exfalso
   rw [hl] at hi;unfold wF zJ xZ eqA xz xy yR arith at hi
   repeat' (split at hi)
   all_goals (cases hi)
 | unOp op T x =>
  have hx:x∈o.op.operands.toList:=by rw [ho]; simp [Op.operands]
  have hl:∀ t,n6 E o t=unA op (t.ev x) t:=λ t=>by unfold n6; rw [ho]
  refine .ro h (λ t ha=>?_) (λ i hi=>?_)
  ·rw [hl,hl,(ag ha hx).1]; exact VI ..
  ·exfalso
   rw [hl] at hi;unfold unA arith at hi
   repeat' (split at hi)
   all_goals (cases hi)
 | convert T' T x=>exact b8l ho h
 | fieldAddr T x n=>exact b4N ho h
 | indexAddr T x y=>exact b4M ho h
 | index T x y=>exact Yy ho h
 | field T x n=>exact YX ho h
 | slice T x lo hi mx=>exact Zv ho h
 | makeSlice T x y=>exact b4J ho h
 | build T parts=>exact YO ho h
 | buildSlice T n parts=>exact b28 ho h
 | makeMap T r=>exact b75 ho h
 | lookup T x y ok=>exact c0F ho h
 | mapUpdate T m x y=>exact c0b ho h
 | box T x=>exact We ho h
 | store T a x=>exact Zw ho h
 | extract x n =>
  have hx:x∈o.op.operands.toList:=by rw [ho]; simp [Op.operands]
  refine .ro h (λ t ha=>?_) (λ i hi=>⟨x,hx,?_⟩)
  ·unfold n6; rw [ho]; simp only [(ag ha hx).1]
   split
   ·split<;>rfl
   ·rfl
  ·unfold n6 at hi; rw [ho] at hi
   simp only at hi;split at hi
   ·rename_i l e
    split at hi
    ·rename_i v hv
     rw [e]; show l.j5 i=true; exact JD hv hi
    ·cases hi
   ·cases hi
 | makeFunc fn first caps =>
  have eg:∀ x∈caps.toList,x∈o.op.operands.toList:=λ x hx=>by rw [ho]; simp only [Op.operands]; simp at hx ⊢; exact .inr hx
  have cI:∀ t,Z4 s t o.op.operands.toList->t.K5 caps.toList=s.K5 caps.toList:=λ t ha=>Ai (λ x hx=>(ag ha (eg x hx)).1);refine .ro h (λ t ha=>?_) (λ i hi=>?_)
  ·unfold n6; rw [ho]
   cases fn with
   | func f=>simp only [cI t ha]; split<;>rfl
   | _=>rfl
  ·unfold n6 at hi; rw [ho] at hi
   cases fn with
   | func f =>
    simp only at hi;split at hi
    ·obtain ⟨x,hx,hi⟩:=xj (s:=s) (i:=i) (xs:=caps.toList) hi
     exact ⟨x,eg x hx,hi⟩
    ·cases hi
   | _=>cases hi
 | alloc T =>
  have key:∃ t0 d,look T E.tt=some t0/\o.dst=some d/\s.fresh d=true:=by
   unfold n6 at h; rw [ho] at h;simp only at h;split at h
   ·split at h
    ·exact ⟨_,_,by assumption,by assumption,by assumption⟩
    ·cases h
   ·cases h
  obtain ⟨t0,d,h1,h2,h3⟩:=key;have he:∀ t,t.fresh d=true->n6 E o t=.ok (.ptr d []) (t.y9 d (.var t0.ty t0.ty.s8)):=λ t ht=>by unfold n6; rw [ho]; simp only [h1,h2,ht]
  rw [he s h3] at h;simp only [OR.get,Option.some.injEq,Prod.mk.injEq] at h;obtain ⟨rfl,rfl,rfl⟩:=h;exact .obj h2 (g:=[]) (λ i hi=>by simpa [AV.j5] using hi) h3 (by simp) (λ t _ _ ht=>by rw [he t ht]; rfl)
 | call c =>
  cases hc:c.callee with
  | value f=>exact Xf ho hc h
  | builtin b =>
   cases b<;>first
    | (exact Wq ho hc h)
    | (exact Wh ho hc h)
    | (exact c1O ho hc h)
    | (exact Xi ho hc h)
    | (exact YT ho hc h)
    | (exact SE ho (.inl hc) h)
    | (exact SE ho (.inr hc) h)
    | (exfalso; unfold n6 at h; rw [ho] at h; simp only [hc] at h; cases h)
  | _=>exfalso; unfold n6 at h; rw [ho] at h; simp only [hc] at h; cases h
 | pick a b c=>exact absurd ho (iK a b c)
 | _=>exfalso; unfold n6 at h; rw [ho] at h; cases h
end
end Go.Ex
namespace Go.Ex
def M9 (s t:St):Prop:=(∀ n,look n s.fr=look n t.fr)/\(∀ i,look i s.hp=look i t.hp)
theorem M9.refl (s:St):M9 s s:=⟨λ _=>rfl,λ _=>rfl⟩
theorem M9.symm {s t:St} (h:M9 s t):M9 t s:=⟨λ n=>(h.1 n).symm,λ n=>(h.2 n).symm⟩
theorem M9.trans {s t u:St} (h:M9 s t) (k:M9 t u):M9 s u:=⟨λ n=>(h.1 n).trans (k.1 n),λ n=>(h.2 n).trans (k.2 n)⟩
theorem X9 {m:Nat} {s:St} {d:Option Nat} {v:AV}:look m (s.put d v).fr=if d=some m then some v else look m s.fr:=by
 cases d with
 | none=>simp [St.put]
 | some d =>
  simp only [St.put,o7,Option.some.injEq];by_cases e:m=d
  ·subst e; simp
  ·rw [if_neg e,if_neg (λ h=>e h.symm)]
theorem wQ {s:St} {d:Option Nat} {v:AV}:(s.put d v).hp=s.hp:=by cases d<;>rfl
theorem zz {s:St} {d:Option Nat} {v:AV} (h:uniq s.fr):uniq (s.put d v).fr:=by
 cases d with
 | none=>exact h
 | some d=>exact PL _ _ h
theorem M9.put {s t:St} (h:M9 s t) (d:Option Nat) (v:AV):M9 (s.put d v) (t.put d v) :=
 ⟨λ n=>by rw [X9,X9,h.1 n],λ i=>by rw [wQ,wQ,h.2 i]⟩
theorem M9.get {s t:St} (h:M9 s t) (m:Nat):s.get m=t.get m:=by simp only [St.get,h.1 m]
theorem M9.ev {s t:St} (h:M9 s t) (x:Operand):s.ev x=t.ev x:=by cases x<;>first|exact zt (h.get _)|rfl
theorem T8.eqv {s t:St} (h:M9 s t) {ids:List Nat} (hf:T8 s ids):T8 t ids :=
 λ n hn=>⟨(h.2 n).symm.trans (hf n hn).1,λ m v hv=>(hf n hn).2 m v ((h.1 m).trans hv)⟩
def Bx (s t:St) (L:List Nat):Prop:=∀ m∈L,t.get m=s.get m/\∀ i,(s.get m).j5 i=true->t.obj i=s.obj i
theorem Lx (v:Value) (i:Nat):(ofConst v).j5 i=false:=by
 unfold ofConst
 split
 ·split<;>rfl
 ·rfl
 ·split<;>rfl
 ·rfl
theorem BS {s:St} {x:Operand} {i:Nat} (h:(s.ev x).j5 i=true):∃ m,x=.tmp m/\(s.get m).j5 i=true:=by
 cases x with
 | tmp m=>exact ⟨m,rfl,Fz h⟩
 | const v=>simp [St.ev,Lx] at h
 | global g=>cases h
 | func f=>cases h
theorem Bx.agree {s t:St} {L:List Nat} (h:Bx s t L) {xs:List Operand} (hL:∀ m,Operand.tmp m∈xs->m∈L):Z4 s t xs:=by
 intro x hx;refine ⟨?_,λ i hi=>?_⟩
 ·cases x with
  | tmp m=>exact zt (h m (hL m hx)).1
  | _=>rfl
 ·obtain ⟨m,rfl,hm⟩:=BS hi
  exact (h m (hL m hx)).2 i hm
structure Put (s s1:St) (d:Option Nat) (T ids:List Nat) (f:AV->AV) (h:Nat->Option i7) (v:AV):Prop where
 fr:∀ n,look n s1.fr=if d=some n then some v else (look n s.fr).map f
 hp:∀ i,look i s1.hp=if i∈T\/i∈ids then h i else look i s.hp
section
variable {s t s1 t1:St} {d:Option Nat} {T ids:List Nat} {f:AV->AV} {h:Nat->Option i7} {v:AV}
theorem Put.eqv (hp:Put s s1 d T ids f h v) (he:M9 s t):Put t s1 d T ids f h v :=
 ⟨λ n=>by rw [hp.fr,he.1 n],λ i=>by rw [hp.hp,he.2 i]⟩
theorem Put.det (hp:Put s s1 d T ids f h v) (cK:Put t t1 d T ids f h v) (he:M9 s t):M9 s1 t1 :=
 ⟨λ n=>by rw [hp.fr,cK.fr,he.1 n],λ i=>by rw [hp.hp,cK.hp,he.2 i]⟩
theorem Put.get (hp:Put s s1 d T ids f h v) (hf:Trim T f) {m:Nat} (hm:d≠some m):s1.get m=f (s.get m):=by
 simp only [St.get,hp.fr,if_neg hm];cases look m s.fr with
 | none=>exact (hf.plain _ rfl).symm
 | some u=>rfl
end
theorem XA {T:List Nat} {f:AV->AV} (hf:Trim T f):∀ {j:Nat} {l:AV},n6.nth j (f l)=(n6.nth j l).map f:=by
 have nope:∀ {j:Nat} {l:AV},(∀ a b,l≠.cons a b)->n6.nth j l=none:=by
  intro j l h;cases l with
  | cons a b=>exact absurd rfl (h a b)
  | _=>cases j<;>rfl
 have hn:∀ u:AV,(∀ a b,u≠.cons a b)->∀ a b,f u≠.cons a b:=by
  intro u hu a b e;cases u with
  | cons a b=>exact absurd rfl (hu a b)
  | M2 l=>rw [hf.M2] at e; cases e
  | D3 g l=>rw [hf.D3] at e; cases e
  | bx l=>rw [hf.bx] at e; cases e
  | rc g l=>rw [hf.rc] at e; cases e
  | ptr i p=>rcases hf.atom _ (rfl:(AV.ptr i p).ref=true) with h|h<;>rw [h] at e<;>cases e
  | at_ i p=>rcases hf.atom _ (rfl:(AV.at_ i p).ref=true) with h|h<;>rw [h] at e<;>cases e
  | sub i p x y=>rcases hf.atom _ (rfl:(AV.sub i p x y).ref=true) with h|h<;>rw [h] at e<;>cases e
  | _=>rw [hf.plain _ rfl] at e; cases e
 intro j
 induction j with
 | zero =>
  intro l;cases l with
  | cons a b=>rw [hf.cons]; rfl
  | _=>rw [nope (hn _ (by intro a b e; cases e)),nope (by intro a b e; cases e)]; rfl
 | succ j ih =>
  intro l;cases l with
  | cons a b=>rw [hf.cons]; exact ih
  | _=>rw [nope (hn _ (by intro a b e; cases e)),nope (by intro a b e; cases e)]; rfl
theorem yw (o:Oper):(∀ v,K4 o v=v)\/(o.guard=none/\∃ x j,o.op=.extract x j/\∀ v,K4 o v=(match v with
  | .M2 l=>(match n6.nth j l with
   | some v=>.M2 (.cons v .nil)
   | none=>.any)
  | _=>.any)):=by
 unfold K4
 split
 ·rename_i x j hg ho; exact .inr ⟨hg,x,j,ho,λ _=>rfl⟩
 ·exact .inl λ _=>rfl
theorem Jy {T:List Nat} {f:AV->AV} (hf:Trim T f) (o:Oper) (v:AV):K4 o (f v)=f (K4 o v):=by
 rcases yw o with h|⟨_,x,j,_,h⟩
 ·rw [h,h]
 ·rw [h,h]
  have dx:f .any=.any:=hf.plain _ rfl;cases v with
  | M2 l =>
   rw [hf.M2];simp only [XA hf];cases hn:n6.nth j l with
   | none=>exact dx.symm
   | some u =>
    show AV.M2 (.cons (f u) .nil)=f (.M2 (.cons u .nil));rw [hf.M2,hf.cons,hf.plain .nil rfl]
  | cons a b=>rw [hf.cons]; exact dx.symm
  | D3 g l=>rw [hf.D3]; exact dx.symm
  | bx l=>rw [hf.bx]; exact dx.symm
  | rc g l=>rw [hf.rc]; exact dx.symm
  | ptr i p=>rcases hf.atom _ (rfl:(AV.ptr i p).ref=true) with e|e<;>rw [e]<;>exact dx.symm
  | at_ i p=>rcases hf.atom _ (rfl:(AV.at_ i p).ref=true) with e|e<;>rw [e]<;>exact dx.symm
  | sub i p x y=>rcases hf.atom _ (rfl:(AV.sub i p x y).ref=true) with e|e<;>rw [e]<;>exact dx.symm
  | _=>rw [hf.plain _ rfl]; try exact dx.symm
theorem CB {o:Oper} {v:AV} {i:Nat} (h:(K4 o v).j5 i=true):v.j5 i=true:=by
 rcases yw o with e|⟨_,x,j,_,e⟩
 ·rwa [e] at h
 ·rw [e] at h
  split at h
  ·rename_i l
   split at h
   ·rename_i u hu
    have:u.j5 i=true:=by simpa [AV.j5] using h
    show l.j5 i=true;exact JD hu this
   ·cases h
  ·cases h
def yx (o:Oper) (s t:St) (L:List Nat):Prop:=∀ m∈L,K4 o (t.get m)=K4 o (s.get m)/\∀ i,(K4 o (s.get m)).j5 i=true->t.obj i=s.obj i
theorem yx.plain {o:Oper} (h:∀ v,K4 o v=v) {s t:St} {L:List Nat} (ha:yx o s t L):Bx s t L:=λ m hm=>by
 have:=ha m hm;simpa only [h] using this
theorem M9.ym {s t:St} (h:M9 s t) (o:Oper) (L:List Nat):yx o s t L:=λ m _=>⟨by rw [h.get m],λ i _=>(h.2 i).symm⟩
def Eff (o:Oper) (run:St->Option (Prop×St)) (d:Option Nat) (L T:List Nat) (s:St) (p:Prop):Prop :=
 ∃ v ids f h,Trim T f/\T8 s ids/\(∀ n∈ids,n % 1000=(d.getD 0) % 1000) /\
  (∀ i,v.j5 i=true->(∃ m∈L,(K4 o (s.get m)).j5 i=true)\/i∈ids) /\
  ∀ t,uniq t.fr->yx o s t L->T8 t ids->∃ t1,run t=some (p,t1)/\uniq t1.fr/\Put t t1 d T ids f h v
section
variable {E:Env} {ops:Array Oper} {s t:St}
theorem Qa {o:Oper} {p:Prop} {s1:St} (h:Y3 E o s=some (p,s1)) {L:List Nat} (hL:∀ m,Operand.tmp m∈o.op.operands.toList->m∈L):Eff o (Y3 E o) o.dst L (l5 E o s) s p:=by
 rcases yw o with ed|⟨iy,x,j,cB,ed⟩
 rotate_left
 ·have hd:H7 E.nt o.dst=true:=by
   unfold Y3 at h;split at h
   ·cases h
   ·assumption
  have hr:∀ t,Y3 E o t=(match (match t.ev x with|.M2 l=>(match n6.nth j l with|some v=>OR.ok v t|none=>.fail "extract")|_=>.fail "extract").get with|none=>none|some (p,v,s')=>some (p,s'.put o.dst v)):=by
   intro t;unfold Y3 n6;rw [hd,cB];rfl
  have hT:l5 E o s=[]:=by unfold l5; rw [cB]
  rw [hT];rw [hr] at h;have key:∃ m l v,x=.tmp m/\Nat.beq m J7=false/\s.get m=.M2 l/\n6.nth j l=some v/\p=True:=by
   cases x with
   | tmp m =>
    cases hv:s.ev (.tmp m) with
    | M2 l =>
     rw [hv] at h;cases hn:n6.nth j l with
     | some v =>
      simp only [hn,OR.get,Option.some.injEq,Prod.mk.injEq] at h;exact ⟨m,l,v,rfl,c0X hv nofun,Ct hv nofun,hn,h.1.symm⟩
     | none=>simp only [hn,OR.get] at h; cases h
    | _ =>
     rw [hv] at h;cases h
   | const c =>
    exfalso;have:∀ l,s.ev (.const c)≠.M2 l:=by
     intro l e;simp only [St.ev] at e;unfold ofConst at e
     repeat' split at e
     all_goals cases e
    revert h;cases hv:s.ev (.const c) with
    | M2 l=>exact absurd hv (this l)
    | _=>intro h; cases h
   | global g=>cases h
   | func f=>cases h
  obtain ⟨m,l,v,rfl,sP,hm,hn,rfl⟩:=key;have rn:m∈L:=hL m (by rw [cB]; simp [Op.operands]);have kK:K4 o (s.get m)=.M2 (.cons v .nil):=by rw [ed,hm]; simp only [hn]
  refine ⟨v,[],λ u=>u,λ _=>none,Trim.id _,by simp [T8],by simp,λ i hi=>.inl ⟨m,rn,by rw [kK]; simpa [AV.j5] using hi⟩,λ t hu ha _=>?_⟩;have e1:=(ha m rn).1;rw [kK,ed] at e1;have sk:∃ l',t.get m=.M2 l'/\n6.nth j l'=some v:=by
   split at e1
   ·rename_i l' eD
    split at e1
    ·rename_i v' fQ
     cases e1;exact ⟨l',eD,fQ⟩
    ·cases e1
   ·cases e1
  obtain ⟨l',f1,f2⟩:=sk;have sl:t.ev (.tmp m)=.M2 l':=Wl sP f1;exact ⟨t.put o.dst v,by rw [hr,sl]; simp only [f2]; rfl,zz hu,⟨λ n=>by rw [X9]; simp,λ i=>by rw [wQ]; simp⟩⟩
 have kL:∀ {t:St},yx o s t L->Bx s t L:=λ ha=>ha.plain ed;by_cases hp:∃ a b c,o.op=.pick a b c
 ·obtain ⟨c,a,b,ho⟩:=hp
  have hd:H7 E.nt o.dst=true:=by
   unfold Y3 at h;split at h
   ·cases h
   ·assumption
  have hr:∀ t,Y3 E o t=(match t.ev c with|.val .bool g=>some (True,t.put o.dst (match g with|true=>t.ev a|false=>t.ev b))|_=>none):=by
   intro t;unfold Y3;rw [hd,ho];rfl
  have hT:l5 E o s=[]:=by unfold l5; rw [ho]
  rw [hT];rw [hr] at h;have ig:o.op.operands.toList=[c,a,b]:=by rw [ho]; rfl
  rw [ig] at hL;have key:∃ g:Bool,s.ev c=.val .bool g:=by
   split at h
   ·exact ⟨_,by assumption⟩
   ·cases h
  obtain ⟨g,hg⟩:=key;rw [hg] at h;simp only [Option.some.injEq,Prod.mk.injEq] at h;obtain ⟨rfl,rfl⟩:=h;refine ⟨(if g=true then s.ev a else s.ev b),[],λ u=>u,λ _=>none,Trim.id _,by simp [T8],by simp,?_,?_⟩
  ·intro i hi
   cases g with
   | true=>obtain ⟨m,hm,hi⟩:=BS hi; exact .inl ⟨m,hL m (by simp [<- hm]),by rw [ed]; exact hi⟩
   | false=>obtain ⟨m,hm,hi⟩:=BS hi; exact .inl ⟨m,hL m (by simp [<- hm]),by rw [ed]; exact hi⟩
  ·intro t hu ha _
   have dy:=(kL ha).agree hL;have e1:=(dy c (by simp)).1;have e2:=(dy a (by simp)).1;have e3:=(dy b (by simp)).1;refine ⟨_,by rw [hr,e1,hg,e2,e3],zz hu,⟨λ n=>by rw [X9]; cases g<;>simp,λ i=>by rw [wQ]; simp⟩⟩
 ·have cK:∀ a b c,o.op≠.pick a b c:=λ a b c e=>hp ⟨a,b,c,e⟩
  have hd:H7 E.nt o.dst=true:=by
   unfold Y3 at h;split at h
   ·cases h
   ·assumption
  have hr:∀ t,Y3 E o t=(match (n6 E o t).get with|none=>none|some (p,v,s')=>some (p,s'.put o.dst v)):=by
   intro t;unfold Y3;rw [hd];cases ho:o.op<;>first|rfl|exact absurd ho (cK _ _ _)
  rw [hr] at h;split at h
  ·cases h
  ·rename_i p' v s' hg
   cases h;obtain ⟨ids,f,h,k1,k2,k3,k4,k5⟩:=WG cK hg;refine ⟨v,ids,f,h,k1,k2,k3,?_,?_⟩
   ·intro i hi
    rcases k4 i hi with ⟨x,hx,hm⟩|hm
    ·obtain ⟨m,rfl,hm⟩:=BS hm
     exact .inl ⟨m,hL m hx,by rw [ed]; exact Fz hm⟩
    ·exact .inr hm
   ·intro t hu ha hf
    obtain ⟨t1,e1,e2,e3⟩:=k5 t hu ((kL ha).agree hL) hf;exact ⟨t1.put o.dst v,by rw [hr,e1],zz e2,⟨λ n=>by rw [X9,e3.fr],λ i=>by rw [wQ,e3.hp]⟩⟩
theorem a93 {g:Nat} {v:AV} (hv:s.get g=v) (hn:v≠.any):M9 s (s.put (some g) v):=by
 refine ⟨λ n=>?_,λ i=>rfl⟩;rw [X9]
 split
 ·rename_i e
  cases e;simp only [St.get] at hv;cases hl:look g s.fr with
  | none=>rw [hl] at hv; exact absurd hv.symm hn
  | some w=>rw [hl] at hv; simp at hv; rw [hv]
 ·rfl
theorem xS {o:Oper} {m:Nat} (hm:Operand.tmp m∈o.op.operands.toList):m∈looks ops o:=List.mem_append_left _ (List.mem_filterMap.2 ⟨_,hm,rfl⟩)
theorem SB {o:Oper} {i:Nat} (hi:i∈l5 E o s):∃ m∈looks ops o,(s.get m).j5 i=true:=by
 obtain ⟨x,hx,hm⟩:=KA hi;obtain ⟨m,rfl,hm⟩:=BS hm;exact ⟨m,xS hx,Fz hm⟩
theorem Zy {o:Oper} (h:∀ m∈looks ops o,t.get m=s.get m):l5 E o t=l5 E o s :=
 Jt (λ x hx=>by
  cases x with
  | tmp m=>exact zt (h m (xS hx))
  | _=>rfl)
theorem b7V {o:Oper} {i:Nat} (hi:i∈l5 E o s):∃ m∈looks ops o,(K4 o (s.get m)).j5 i=true:=by
 rcases yw o with h|⟨_,x,j,cB,_⟩
 ·obtain ⟨m,hm,ca⟩:=SB (ops:=ops) hi
  exact ⟨m,hm,by rw [h]; exact ca⟩
 ·unfold l5 at hi; rw [cB] at hi; cases hi
theorem SA {o:Oper} (h:∀ m∈looks ops o,K4 o (t.get m)=K4 o (s.get m)):l5 E o t=l5 E o s:=by
 rcases yw o with e|⟨_,x,j,cB,_⟩
 ·exact Zy (λ m hm=>by have:=h m hm; simpa only [e] using this)
 ·unfold l5; rw [cB]
theorem zx {o:Oper} (_hu:uniq s.fr) {p:Prop} {s1:St} (h:I0 E ops o s=some (p,s1)):Eff o (I0 E ops o) o.dst (looks ops o) (l5 E o s) s p:=by
 have hL:∀ m,Operand.tmp m∈o.op.operands.toList->m∈looks ops o:=λ m hm=>xS hm;cases hg:o.guard with
 | none =>
  have hr:∀ t,I0 E ops o t=Y3 E o t:=λ t=>by unfold I0; rw [hg]
  rw [hr] at h;have:=Qa h hL
  rwa [<- (funext hr:I0 E ops o=Y3 E o)] at this
 | some jw =>
  obtain ⟨j,want⟩:=jw;have ed:∀ v,K4 o v=v:=by
   rcases yw o with e|⟨iy,_⟩
   ·exact e
   ·rw [hg] at iy; cases iy
  have kL:∀ {t:St} {L:List Nat},yx o s t L->Bx s t L:=λ ha=>ha.plain ed;cases hs:AH ops j with
  | none=>unfold I0 at h; rw [hg] at h; simp [hs] at h
  | some g =>
   have rA:g∈looks ops o:=by unfold looks; rw [hg]; simp [hs]
   have hr:∀ t,I0 E ops o t=(match t.ev (.tmp g) with
    | .raw (.tuple _)=>match H7 E.nt o.dst with
     | true=>some (True,t.put o.dst (.raw undef))
     | false=>none
    | .val .bool b=>match H7 E.nt o.dst with
     | false=>none
     | true=>match b == want with
      | true=>Y3 E o (t.put (some g) (.val .bool b))
      | false=>some (True,(t.put (some g) (.val .bool b)).put o.dst (.raw undef))
    | _=>none):=λ t=>by unfold I0; rw [hg]; dsimp only; rw [hs]; rfl
   have skip:(∀ t,uniq t.fr->t.ev (.tmp g)=s.ev (.tmp g)->∃ t1,I0 E ops o t=some (True,t1)/\uniq t1.fr/\M9 t1 (t.put o.dst (.raw undef)))->Eff o (I0 E ops o) o.dst (looks ops o) (l5 E o s) s True:=by
    intro aU;refine ⟨.raw undef,[],λ u=>u,λ i=>look i s.hp,Trim.id _,by simp [T8],by simp,λ i hi=>by simp [AV.j5] at hi,λ t kM ha _=>?_⟩;have ha:=kL ha;obtain ⟨t1,e1,e2,e3⟩:=aU t kM (zt (ha g rA).1);refine ⟨t1,e1,e2,⟨λ n=>by rw [e3.1,X9]; simp,λ i=>?_⟩⟩;rw [e3.2,wQ]
    split
    ·rename_i hi
     obtain ⟨m,hm,ca⟩:=SB (ops:=ops) (by simpa using hi:i∈l5 E o s);exact (ha m hm).2 i ca
    ·rfl
   rw [hr] at h;cases hv:s.ev (.tmp g) with
   | raw w =>
    rw [hv] at h;cases w with
    | tuple vs =>
     simp only at h;cases hd:H7 E.nt o.dst with
     | false=>rw [hd] at h; cases h
     | true =>
      rw [hd] at h;simp only [Option.some.injEq,Prod.mk.injEq] at h;obtain ⟨rfl,rfl⟩:=h;exact skip (λ t kM ht=>⟨_,by rw [hr,ht,hv]; simp only [hd],zz kM,M9.refl _⟩)
    | _=>cases h
   | val u b =>
    rw [hv] at h;cases u with
    | bool =>
     simp only at h;cases hd:H7 E.nt o.dst with
     | false=>rw [hd] at h; cases h
     | true =>
      rw [hd] at h;simp only at h;cases hb:(b == want) with
      | false =>
       rw [hb] at h;simp only [Option.some.injEq,Prod.mk.injEq] at h;obtain ⟨rfl,rfl⟩:=h;exact skip (λ t kM ht=>⟨_,by rw [hr,ht,hv]; simp only [hd,hb],zz (zz kM),((a93 (Ct (ht.trans hv) (by simp)) (by simp)).symm.put _ _)⟩)
      | true =>
       rw [hb] at h;simp only at h;have bo:=a93 (Ct hv (by simp)) (by simp);obtain ⟨v,ids,f,hh,k1,k2,k3,k4,k5⟩:=Qa h hL;have tQ:l5 E o (s.put (some g) (.val .bool b))=l5 E o s:=Jt (λ x _=>(bo.ev x).symm);rw [tQ] at k1 k5;refine ⟨v,ids,f,hh,k1,k2.eqv bo.symm,k3,?_,?_⟩
       ·intro i hi
        rcases k4 i hi with ⟨m,hm,ca⟩|hm
        ·exact .inl ⟨m,hm,by rw [bo.get]; exact ca⟩
        ·exact .inr hm
       ·intro t kM ha hf
        have ha:=kL ha;have ri:t.ev (.tmp g)=.val .bool b:=(zt (ha g rA).1).trans hv;have bP:=a93 (Ct ri (by simp)) (by simp);obtain ⟨t1,e1,e2,e3⟩:=k5 (t.put (some g) (.val .bool b)) (zz kM) (λ m hm=>by
         rw [<- bP.get,<- bo.get,ed,ed];refine ⟨(ha m hm).1,λ i hi=>?_⟩;have:=(ha m hm).2 i hi;simpa [St.obj,wQ] using this) (hf.eqv bP)
        refine ⟨t1,by rw [hr,ri]; simp only [hd,hb,e1],e2,e3.eqv bP.symm⟩
    | _=>cases h
   | _=>rw [hv] at h; cases h
theorem Rw {o:Oper} (hu:uniq s.fr) (he:M9 s t) (ht:uniq t.fr) {p:Prop} {s1:St} (h:I0 E ops o s=some (p,s1)):∃ t1,I0 E ops o t=some (p,t1)/\uniq t1.fr/\M9 s1 t1:=by
 obtain ⟨v,ids,f,hh,k1,k2,k3,k4,k5⟩:=zx hu h;obtain ⟨s1',e1,_,e3⟩:=k5 s hu ((M9.refl s).ym _ _) k2;rw [h] at e1; cases e1;obtain ⟨t1,f1,f2,f3⟩:=k5 t ht (he.ym _ _) (k2.eqv he);exact ⟨t1,f1,f2,e3.det f3 he⟩
theorem R3 {o:Oper} (hu:uniq s.fr) {p:Prop} {s1:St} (h:I0 E ops o s=some (p,s1)):uniq s1.fr:=by
 obtain ⟨t1,h1,h2,_⟩:=Rw hu (M9.refl s) hu h;rw [h] at h1; cases h1; exact h2
theorem Sr:∀ {v:AV} {i:Nat},v.clean=true->v.j5 i=false:=by
 intro v
 induction v with
 | cons a b iha ihb =>
  intro i h;simp only [AV.clean,Bool.and_eq_true] at h;simp [AV.j5,iha h.1,ihb h.2]
 | M2 l ih=>intro i h; exact ih h
 | D3 f l ih=>intro i h; exact ih h
 | bx l ih=>intro i h; exact ih h
 | rc f l ih=>intro i h; exact ih h
 | ptr i p=>intro i h; cases h
 | at_ i p=>intro i h; cases h
 | sub i p a b=>intro i h; cases h
 | _=>intro i h; rfl
theorem b72 {o:Oper} (hu:uniq s.fr) {p:Prop} {s1:St} (h:I0 E ops o s=some (p,s1)) {m:Nat} (hm:o.dst≠some m) (hc:(s.get m).clean=true):(s1.get m).clean=true:=by
 obtain ⟨v,ids,f,hh,k1,k2,k3,k4,k5⟩:=zx hu h;obtain ⟨s1',e1,_,e3⟩:=k5 s hu ((M9.refl s).ym _ _) k2;rw [h] at e1; cases e1;rw [e3.get k1 hm,k1.fix _ (λ i _=>Sr hc)];exact hc
end
end Go.Ex
namespace Go.Ex
section
variable {E:Env} {ops:Array Oper} {s t:St}
theorem get_some {m:Nat} {v:AV} (h:look m s.fr=some v):s.get m=v:=by simp [St.get,h]
theorem XT {m i:Nat} (h:(s.get m).j5 i=true):∃ v,look m s.fr=some v/\v.j5 i=true:=by
 simp only [St.get] at h;cases hl:look m s.fr with
 | none=>rw [hl] at h; cases h
 | some v=>rw [hl] at h; exact ⟨v,rfl,h⟩
theorem Sb {x y:Oper} (h:indep ops x y=true):(∀ d,x.dst=some d->d∉looks ops y)/\(∀ d,y.dst=some d->d∉looks ops x)/\(x.dst.getD 0) % 1000≠(y.dst.getD 0) % 1000:=by
 simp only [indep,Bool.and_eq_true,Bool.not_eq_true',MX] at h;obtain ⟨⟨h3,h4⟩,h5⟩:=h;refine ⟨?_,?_,λ e=>?_⟩
 ·intro d hd
  rw [hd] at h3;simp only [Bool.and_eq_true,Bool.not_eq_true'] at h3;intro hm;have:=h3.1;simp [hm] at this
 ·intro d hd
  rw [hd] at h4;simp only [Bool.not_eq_true'] at h4;intro hm;simp [hm] at h4
 ·rw [e] at h5
  simp at h5
theorem EM {ids:List Nat} (hn:T8 s ids) {n m:Nat} (h:n∈ids):(s.get m).j5 n=false:=by
 cases hm:(s.get m).j5 n with
 | false=>rfl
 | true =>
  obtain ⟨v,hv,rb⟩:=XT hm;rw [(hn n h).2 m v hv] at rb; cases rb
theorem VS {u:AV} (hr:u.ref=true) {i j:Nat} (h1:u.j5 i=true) (h2:u.j5 j=true):i=j:=by
 cases u<;>simp only [AV.ref] at hr<;>first|(cases hr; done)|(simp only [AV.j5] at h1 h2; exact (Nat.eq_of_beq_eq_true h1).trans (Nat.eq_of_beq_eq_true h2).symm)
theorem c0u {u:AV} (h:u.plain=true) {i:Nat}:u.j5 i=false:=by
 cases u<;>simp only [AV.plain] at h<;>first|rfl|(cases h; done)
theorem Trim.stay {T:List Nat} {f:AV->AV} (hf:Trim T f) {n:Nat} (hn:n∉T):∀ u:AV,u.j5 n=true->(f u).j5 n=true:=by
 refine AV.shape _ (λ u hu h=>?_) (λ u hu h=>?_) ?_ ?_ ?_ ?_ ?_
 ·rw [c0u hu] at h; cases h
 ·rw [hf.xw u hu (λ i hi=>?_)]
  ·exact h
  ·cases hm:u.j5 i with
   | false=>rfl
   | true=>exact absurd (VS hu hm h▸hi) hn
 ·intro a b ha hb h
  rw [hf.cons];simp only [AV.j5,Bool.or_eq_true] at h ⊢;exact h.imp ha hb
 ·intro l hl h; rw [hf.M2]; exact hl h
 ·intro k l hl h; rw [hf.D3]; exact hl h
 ·intro l hl h; rw [hf.bx]; exact hl h
 ·intro k l hl h; rw [hf.rc]; exact hl h
theorem swap {x y:Oper} (hi:indep ops x y=true) (hu:uniq s.fr) (hx:∀ d,x.dst=some d->(s.get d).clean=true) {p q:Prop} {s1 s2:St} (h1:I0 E ops x s=some (p,s1)) (h2:I0 E ops y s1=some (q,s2))
  (hP:xf ops x s (l5 E x s) y (l5 E y s1)) :
  ∃ s1' s2',I0 E ops y s=some (q,s1')/\I0 E ops x s1'=some (p,s2')/\uniq s1'.fr/\uniq s2'.fr/\M9 s2' s2/\l5 E y s=l5 E y s1/\l5 E x s1'=l5 E x s /\
   (∀ m∈looks ops x,K4 x (s1'.get m)=K4 x (s.get m))/\∀ (z:Oper) m,∀ i∈l5 E x s,(K4 z (s1'.get m)).j5 i=true->(K4 z (s.get m)).j5 i=true:=by
 obtain ⟨ax,ay,jG⟩:=Sb hi;obtain ⟨P1,P2,P3⟩:=hP;have my:=R3 hu h1;obtain ⟨v,ids,f,g,k1,k2,k3,k4,k5⟩:=zx hu h1;obtain ⟨_,e1,_,iG⟩:=k5 s hu ((M9.refl s).ym _ _) k2;rw [h1] at e1; cases e1;obtain ⟨v',ids',f',g',m1,m2,m3,m4,m5⟩:=zx my h2;obtain ⟨_,e2,_,jz⟩:=m5 s1 my ((M9.refl s1).ym _ _) m2;rw [h2] at e2; cases e2;have ku:∀ d,x.dst=some d->y.dst=some d->False:=λ d e1 e2=>jG (by rw [e1,e2]);have cv:∀ m∈looks ops y,K4 y (s1.get m)=K4 y (s.get m):=by
  intro m hm;rw [iG.get k1 (λ e=>ax m e hm),Jy k1,k1.fix _ (λ i hi=>P1 m hm i hi)]
 have tO:l5 E y s=l5 E y s1:=(SA cv).symm;have nS:∀ i∈l5 E y s1,∃ m∈looks ops y,(K4 y (s.get m)).j5 i=true:=by
  intro i hi;obtain ⟨m,hm,ca⟩:=b7V (ops:=ops) hi;exact ⟨m,hm,by rw [<- cv m hm]; exact ca⟩
 have d1:∀ i∈l5 E x s,i∉l5 E y s1:=by
  intro i hi hj;obtain ⟨m,hm,ca⟩:=nS i hj;rw [P1 m hm i hi] at ca; cases ca
 have d2:∀ i∈ids,i∉l5 E y s1:=by
  intro i hi hj;obtain ⟨m,hm,ca⟩:=nS i hj;have ca:=CB ca;rw [EM k2 hi] at ca; cases ca
 have d3:∀ i∈l5 E x s,i∉ids':=λ i hi hj=>P3 i hi (m3 i hj);have d4:∀ i∈ids,i∉ids':=λ i hi hj=>jG ((k3 i hi).symm.trans (m3 i hj));have ga:∀ i,i∉l5 E x s->i∉ids->look i s1.hp=look i s.hp:=λ i h1 h2=>by rw [iG.hp,if_neg (by rintro (h|h); exact h1 h; exact h2 h)]
 have dy:yx y s1 s (looks ops y):=by
  intro m hm;refine ⟨(cv m hm).symm,λ i hi=>?_⟩;rw [cv m hm] at hi;refine (ga i (λ h=>?_) (λ h=>?_)).symm
  ·rw [P1 m hm i h] at hi; cases hi
  ·have hi:=CB hi
   rw [EM k2 h] at hi; cases hi
 have jM:T8 s ids':=by
  intro n hn;refine ⟨?_,λ m w hw=>?_⟩
  ·rw [<- ga n (λ h=>d3 n h hn) (λ h=>d4 n h hn)]; exact (m2 n hn).1
  ·by_cases hd:x.dst=some m
   ·have:=hx m hd
    rw [get_some hw] at this;exact Sr this
   ·cases rV:w.j5 n with
    | false=>rfl
    | true =>
     have:=k1.stay (λ h=>d3 n h hn) w rV;have h3:=(m2 n hn).2 m (f w) (by rw [iG.fr,if_neg hd,hw]; rfl);rw [this] at h3; cases h3
 obtain ⟨s1',f1,fu,fT⟩:=m5 s hu dy jM;have dC:∀ m∈looks ops x,K4 x (s1'.get m)=K4 x (s.get m):=by
  intro m hm;rw [fT.get m1 (λ e=>ay m e hm),Jy m1,m1.fix _ (λ i hi=>P2 m hm i hi)]
 have qG:yx x s s1' (looks ops x):=by
  intro m hm;refine ⟨dC m hm,λ i hi=>?_⟩;show look i s1'.hp=look i s.hp;rw [fT.hp,if_neg];rintro (h|h)
  ·rw [P2 m hm i h] at hi; cases hi
  ·have hi:=CB hi
   rw [EM jM h] at hi; cases hi
 have fQ:∀ i,v'.j5 i=true->i∉l5 E x s/\i∉ids:=by
  intro i hi;rcases m4 i hi with ⟨m,hm,ca⟩|ca
  ·rw [cv m hm] at ca
   refine ⟨λ h=>?_,λ h=>?_⟩
   ·rw [P1 m hm i h] at ca; cases ca
   ·have ca:=CB ca
    rw [EM k2 h] at ca; cases ca
  ·exact ⟨λ h=>d3 i h ca,λ h=>d4 i h ca⟩
 have hv:∀ i,v.j5 i=true->i∉l5 E y s1:=by
  intro i hi;rcases k4 i hi with ⟨m,hm,ca⟩|ca
  ·exact λ h=>by rw [P2 m hm i h] at ca; cases ca
  ·exact d2 i ca
 have qg:T8 s1' ids:=by
  intro n hn;refine ⟨?_,λ m w hw=>?_⟩
  ·rw [fT.hp,if_neg]
   ·exact (k2 n hn).1
   ·rintro (h|h)
    ·exact d2 n hn h
    ·exact d4 n hn h
  ·rw [fT.fr] at hw
   split at hw
   ·cases hw
    cases hm:v'.j5 n with
    | false=>rfl
    | true=>exact absurd hn (fQ n hm).2
   ·cases hl:look m s.fr with
    | none=>rw [hl] at hw; cases hw
    | some u =>
     rw [hl] at hw;cases hw;cases hm:(f' u).j5 n with
     | false=>rfl
     | true=>have:=m1.j5 u hm; rw [(k2 n hn).2 m u hl] at this; cases this
 obtain ⟨s2',g1,gu,mD⟩:=k5 s1' fu qG qg;refine ⟨s1',s2',f1,g1,fu,gu,⟨λ n=>?_,λ i=>?_⟩,tO,SA dC,dC,?_⟩
 ·rw [mD.fr,jz.fr,fT.fr,iG.fr]
  by_cases a:x.dst=some n
  ·rw [if_pos a,if_neg (λ b=>ku n a b),if_pos a,Option.map_some,m1.fix v]
   intro i hi;cases hm:v.j5 i with
   | false=>rfl
   | true=>exact absurd hi (hv i hm)
  ·rw [if_neg a,if_neg a]
   by_cases b:y.dst=some n
   ·rw [if_pos b,if_pos b,Option.map_some,k1.fix v']
    intro i hi;cases hm:v'.j5 i with
    | false=>rfl
    | true=>exact absurd hi (fQ i hm).1
   ·rw [if_neg b,if_neg b,Option.map_map,Option.map_map]
    congr 1
    funext u
    exact k1.comm m1 u
 ·rw [mD.hp,jz.hp,fT.hp,iG.hp]
  by_cases a:i∈l5 E x s\/i∈ids
  ·rw [if_pos a,if_neg,if_pos a]
   rintro (b|b)
   ·rcases a with a|a
    ·exact d1 i a b
    ·exact d2 i a b
   ·rcases a with a|a
    ·exact d3 i a b
    ·exact d4 i a b
  ·rw [if_neg a,if_neg a]
 ·intro z m i hi hm
  by_cases b:y.dst=some m
  ·have:s1'.get m=v':=get_some (by rw [fT.fr,if_pos b])
   rw [this] at hm;exact absurd hi (fQ i (CB hm)).1
  ·rw [fT.get m1 b,Jy m1] at hm
   exact m1.j5 _ hm
end
end Go.Ex
namespace Go.Ex
section
variable {E:Env} {ops:Array Oper} {M:Nat->Nat} {s t:St}
def rem (ops:Array Oper) (l:List Nat):List Oper:=l.filterMap λ i=>ops[i]?
theorem EC {i:Nat} {o:Oper} {l:List Nat} (h:ops[i]?=some o):rem ops (i::l)=o::rem ops l:=by simp [rem,h]
theorem BL {l m:List Nat}:rem ops (l++m)=rem ops l++rem ops m:=by simp [rem,List.filterMap_append]
def O5 (s:St) (l:List Oper):Prop:=∀ o∈l,∀ d,o.dst=some d->(s.get d).clean=true
def P6:List Oper->Prop
 | []=>True
 | o::l=>(∀ d,o.dst=some d->∀ x∈l,x.dst≠some d)/\P6 l
theorem O5.sub {l l':List Oper} (h:O5 s l) (hs:∀ o∈l',o∈l):O5 s l':=λ o ho=>h o (hs o ho)
def nl (ops:Array Oper) (l:List Nat):List Nat:=l.filter (λ j=>!zm ops j)
theorem MI {l m:List Nat}:nl ops (l++m)=nl ops l++nl ops m:=by simp [nl]
theorem Vx {l:List Nat} {i:Nat} (hi:i<ops.size) (h:∀ j∈l,j<i) (hm:∀ j∈l,((E6 ops.toList []).getD i 0).testBit j=false):nl ops l=l :=
 List.filter_eq_self.2 (λ j hj=>by
  cases e:zm ops j with
  | false=>rfl
  | true =>
   unfold zm at e;rw [List.all_eq_true] at e;have:=e i (List.mem_range.2 hi);rw [hm j hj,show Nat.blt j i=true by rw [Nat.blt_eq]; exact h j hj] at this;cases this)
theorem b8e {j:Nat} (h:zm ops j=false):j+1<ops.size:=by
 rcases Nat.lt_or_ge (j+1) ops.size with h1|h1
 ·exact h1
 ·exfalso
  have:zm ops j=true:=by
   unfold zm;rw [List.all_eq_true];intro i hi;have:=List.mem_range.1 hi;have:Nat.blt j i=false:=by
    cases e:Nat.blt j i with
    | false=>rfl
    | true=>rw [Nat.blt_eq] at e; omega
   rw [this]; rfl
  rw [this] at h; cases h
theorem Vy {l:List Nat}:∀ o∈rem ops (nl ops l),o∈rem ops l:=λ o ho=>by
 obtain ⟨j,h1,h2⟩:=List.mem_filterMap.1 ho;exact List.mem_filterMap.2 ⟨j,(List.mem_filter.1 h1).1,h2⟩
theorem O5.step {o:Oper} {l:List Oper} (hu:uniq s.fr) (hc:O5 s l) (hd:∀ x∈l,∀ d,x.dst=some d->o.dst≠some d) {p:Prop} {s1:St} (h:I0 E ops o s=some (p,s1)):O5 s1 l :=
 λ x hx d gx=>b72 hu h (hd x hx d gx) (hc x hx d gx)
def UN (E:Env) (ops:Array Oper) (acc bI:List (Nat×St)):Prop :=
 ∀ e'∈bI,∃ e∈acc,e.1=e'.1/\∀ x,ops[e.1]?=some x->(∀ m∈looks ops x,K4 x (e'.2.get m)=K4 x (e.2.get m))/\l5 E x e'.2=l5 E x e.2/\∀ (z:Oper) m,∀ k∈l5 E x e.2,(K4 z (e'.2.get m)).j5 k=true->(K4 z (e.2.get m)).j5 k=true
theorem xf.yc {x:Oper} {sx sx':St} {y:Oper} {Ty Ty':List Nat} (h:xf ops x sx (l5 E x sx) y Ty) (h1:∀ m∈looks ops x,K4 x (sx'.get m)=K4 x (sx.get m)) (h2:l5 E x sx'=l5 E x sx) (h3:∀ (z:Oper) m,∀ k∈l5 E x sx,(K4 z (sx'.get m)).j5 k=true->(K4 z (sx.get m)).j5 k=true) (hT:Ty'=Ty) :
  xf ops x sx' (l5 E x sx') y Ty':=by
 subst hT;obtain ⟨P1,P2,P3⟩:=h;rw [h2];refine ⟨λ m hm i hi=>?_,λ m hm i hi=>by rw [h1 m hm]; exact P2 m hm i hi,P3⟩;cases hh:(K4 y (sx'.get m)).j5 i with
 | false=>rfl
 | true=>have:=h3 y m i hi hh; rw [P1 m hm i hi] at this; cases this
theorem QW {o:Oper} (h:M9 s t):l5 E o t=l5 E o s:=Jt (λ x _=>(h.ev x).symm)
theorem Ku:∀ {l:List Nat} {acc bI:List (Nat×St)} {s t s':St},UN E ops acc bI->uniq s.fr->M9 s t->uniq t.fr->vx E ops M acc l s s'->∃ t',vx E ops M bI l t t'/\M9 s' t'
 | [],acc,bI,s,t,s',_,_,he,_,h=>⟨t,rfl,by rw [<- show s=s' from h]; exact he⟩
 | i::l,acc,bI,s,t,s',hg,hu,he,ht,⟨o,ho,hc,p,s1,h1,h2,h3⟩=>by
  obtain ⟨t1,k1,k2,k3⟩:=Rw hu he ht h1;obtain ⟨t',m1,m2⟩:=Ku (acc:=(i,s)::acc) (bI:=(i,t)::bI) (λ e' eG=>by
   rcases List.mem_cons.1 eG with rfl|eG
   ·exact ⟨(i,s),by simp,rfl,λ x _=>⟨λ m _=>by show K4 x (t.get m)=K4 x (s.get m); rw [he.get m],QW he,λ z m k _ hm=>by have hm:(K4 z (t.get m)).j5 k=true:=hm; rw [<- he.get m] at hm; exact hm⟩⟩
   ·obtain ⟨e,h4,h5,h6⟩:=hg e' eG; exact ⟨e,by simp [h4],h5,h6⟩) (R3 hu h1) k3 k2 h3
  refine ⟨t',⟨o,ho,λ e' eG=>?_,p,t1,k1,h2,m1⟩,m2⟩;obtain ⟨e,h4,h5,h6⟩:=hg e' eG;rw [<- h5];rcases hc e h4 with h|⟨x,hx,hP⟩
  ·exact .inl h
  ·obtain ⟨g1,g2,g3⟩:=h6 x hx
   exact .inr ⟨x,hx,hP.yc g1 g2 g3 (QW he)⟩
theorem Ec {i:Nat} {o:Oper} (ho:ops[i]?=some o) {post:List Nat}:∀ {pre:List Nat} {acc:List (Nat×St)} {s s':St},P6 (rem ops (pre++i::post))->(∀ j∈pre,(M i).testBit j=false/\∀ x,ops[j]?=some x->indep ops x o=true)->uniq s.fr->O5 s (rem ops pre) ->
  vx E ops M acc (pre++i::post) s s' ->
  ∃ p s1 s2,I0 E ops o s=some (p,s1)/\p/\vx E ops M acc (pre++post) s1 s2/\M9 s2 s'/\∀ e∈acc,(M i).testBit e.1=true\/∃ x,ops[e.1]?=some x/\xf ops x e.2 (l5 E x e.2) o (l5 E o s)
 | [],acc,s,s',_,_,hu,_,⟨o',eY,hc,p,s1,h1,h2,h3⟩=>by
  rw [ho] at eY; cases eY;obtain ⟨t',m1,m2⟩:=Ku (acc:=(i,s)::acc) (bI:=acc) (λ e he=>⟨e,by simp [he],rfl,λ x _=>⟨λ _ _=>rfl,rfl,λ _ _ _ _ h=>h⟩⟩) (R3 hu h1) (M9.refl s1) (R3 hu h1) h3;exact ⟨p,s1,t',h1,h2,m1,m2.symm,hc⟩
 | j::pre,acc,s,s',fo,dz,hu,cM,⟨x,hx,hc,p,s1,h1,h2,h3⟩=>by
  have my:=R3 hu h1;have er:rem ops (j::pre++i::post)=x::rem ops (pre++i::post):=EC hx;rw [er] at fo;rw [EC hx] at cM;have nH:∀ y∈rem ops pre,∀ d,y.dst=some d->x.dst≠some d:=λ y hy d rR gx=>fo.1 d gx y (by rw [BL]; exact List.mem_append_left _ hy) rR;have qv:O5 s1 (rem ops pre):=O5.step hu (λ y hy=>cM y (by simp [hy])) nH h1;obtain ⟨q,sa,sb,k1,k2,k3,k4,k5⟩:=Ec ho (pre:=pre) (acc:=(j,s)::acc) fo.2 (λ y hy=>dz y (by simp [hy])) my qv h3;obtain ⟨cL,fw⟩:=dz j (by simp);have hP:xf ops x s (l5 E x s) o (l5 E o s1):=by
   rcases k5 (j,s) (by simp) with h|⟨x',eu,hP⟩
   ·rw [cL] at h; cases h
   ·have eu:ops[j]?=some x':=eu
    rw [hx] at eu; cases eu; exact hP
  obtain ⟨s1',s2',m1,m2,m3,m4,m5,m6,m7,m8,m9⟩:=swap (fw x hx) hu (λ d hd=>cM x (by simp) d hd) h1 k1 hP;obtain ⟨t',n1,n2⟩:=Ku (acc:=(j,s)::acc) (bI:=(j,s1')::acc) (λ e' eG=>by
   rcases List.mem_cons.1 eG with rfl|eG
   ·refine ⟨(j,s),by simp,rfl,λ y hy=>?_⟩
    have hy:ops[j]?=some y:=hy;rw [hx] at hy; cases hy;exact ⟨m8,m7,m9⟩
   ·exact ⟨e',by simp [eG],rfl,λ y _=>⟨λ _ _=>rfl,rfl,λ _ _ _ _ h=>h⟩⟩) (R3 my k1) m5.symm m4 k3
  refine ⟨q,s1',t',m1,k2,⟨x,hx,λ e he=>?_,p,s2',m2,h2,n1⟩,n2.symm.trans k4,λ e he=>?_⟩
  ·rcases hc e he with h|⟨y,hy,hP⟩
   ·exact .inl h
   ·exact .inr ⟨y,hy,by rw [m7]; exact hP⟩
  ·rcases k5 e (by simp [he]) with h|⟨y,hy,hP⟩
   ·exact .inl h
   ·exact .inr ⟨y,hy,by rw [m6]; exact hP⟩
end
end Go.Ex
namespace Go.Ex
section
variable {E:Env} {ops:Array Oper} {B:F3} {S:Nat->Prop} {ι:Ix} {s:St} {a:Act} {w:World}
def idxs (n:Nat) (listed:Array Bool):List Nat:=(List.range n).filter λ i=>!listed.getD i true
theorem G0 {n i:Nat} {listed:Array Bool}:i∈idxs n listed↔i<n/\listed.getD i true=false:=by
 simp [idxs]
theorem CR (n:Nat) (listed:Array Bool):(idxs n listed).Pairwise (·<·):=List.Pairwise.filter _ List.pairwise_lt_range
theorem BW {n i:Nat} {listed:Array Bool} (hs:listed.size=n) (hi:i<n):idxs n (listed.setIfInBounds i true)=(idxs n listed).filter (λ k=>!(k == i)):=by
 unfold idxs;rw [List.filter_filter];refine List.filter_congr (λ k hk=>?_);by_cases e:k=i
 ·subst e
  have:k<listed.size:=by omega
  simp [this]
 ·have:(listed.setIfInBounds i true).getD k true=listed.getD k true:=getD_set_ne true (Ne.symm e)
  rw [this];simp [e]
theorem KE {n i:Nat} {listed:Array Bool} (hi:i∈idxs n listed):∃ pre post,idxs n listed=pre++i::post/\(∀ j∈pre,j<i)/\(idxs n listed).filter (λ k=>!(k == i))=pre++post:=by
 obtain ⟨pre,post,e⟩:=List.append_of_mem hi;have hp:=CR n listed;rw [e,List.pairwise_append] at hp;obtain ⟨h1,h2,h3⟩:=hp;have bj:∀ j∈pre,j<i:=λ j hj=>h3 j hj i (by simp);have fy:∀ j∈post,i<j:=λ j hj=>(List.pairwise_cons.1 h2).1 j hj;refine ⟨pre,post,e,bj,?_⟩;rw [e,List.filter_append,List.filter_cons];simp only [beq_self_eq_true,Bool.not_true,Bool.false_eq_true,if_false];rw [List.filter_eq_self.2 (λ j hj=>by have:=bj j hj; simp; omega),List.filter_eq_self.2 (λ j hj=>by have:=fy j hj; simp; omega)]
theorem EV (h:wL ops=true):∀ i o,ops[i]?=some o->(∀ e∈o.after,Region.binds .any e=true->e.on<i) /\
  (∀ j,j<ops.size->((E6 ops.toList []).getD i 0).testBit j=true->∃ e∈o.after,Region.binds .any e=true/\(e.on=j\/((E6 ops.toList []).getD e.on 0).testBit j=true)) /\
  (∀ j x,j<i->ops[j]?=some x->((E6 ops.toList []).getD i 0).testBit j=true\/indep ops x o=true):=by
 intro i o ho;have hi:i<ops.toList.length:=by
  have:=(Array.getElem?_eq_some_iff.1 ho).1;simpa using this
 simp only [wL,List.all_eq_true,List.mem_range] at h;have h1:=h i hi;have hl:ops.toList[i]?=some o:=by simpa using ho
 rw [hl] at h1;simp only [Bool.and_eq_true,List.all_eq_true,List.mem_range] at h1;obtain ⟨⟨k1,k2⟩,k3⟩:=h1;refine ⟨?_,?_,?_⟩
 ·intro e he hb
  simp only [Mh,List.all_eq_true] at k1;have:=k1 e (by simpa using he);rw [hb] at this;simpa [Nat.blt_eq] using this
 ·intro j hj hm
  simp only [MG,List.all_eq_true,List.mem_range] at k2;have:=k2 j (by simpa using hj);rw [hm] at this;simp only [Bool.not_true,Bool.false_or,List.any_eq_true,Bool.and_eq_true,Bool.or_eq_true] at this;obtain ⟨e,he,hb,h3⟩:=this;exact ⟨e,by simpa using he,hb,h3.imp Nat.eq_of_beq_eq_true id⟩
 ·intro j x hj hx
  have:=k3 j hj;have eu:ops.toList[j]?=some x:=by simpa using hx
  rw [eu] at this;simpa using this
def zk (ops:Array Oper) (listed:Array Bool):Prop:=∀ k o,ops[k]?=some o->listed.getD k true=true->∀ e∈o.after,Region.binds .any e=true->listed.getD e.on false=true
theorem V6 {listed:Array Bool} {k:Nat} (h:listed.getD k false=true):listed.getD k true=true:=by
 rcases Nat.lt_or_ge k listed.size with h'|h'
 ·simp [h'] at h ⊢; exact h
 ·simp [Array.getElem?_eq_none h'] at h
theorem Fj {M:Nat->Nat} (hM:∀ i o,ops[i]?=some o->(∀ e∈o.after,Region.binds .any e=true->e.on<i)/\(∀ j,j<ops.size->(M i).testBit j=true->∃ e∈o.after,Region.binds .any e=true/\(e.on=j\/(M e.on).testBit j=true)))
  {listed:Array Bool} (hc:zk ops listed):∀ (i:Nat) (o:Oper),ops[i]?=some o->(∀ e∈o.after,Region.binds .any e=true->listed.getD e.on false=true)->∀ j,j<ops.size->(M i).testBit j=true->listed.getD j false=true:=by
 intro i
 induction i using Nat.strongRecOn with
 | _ i ih =>
  intro o ho hp j hj hm;obtain ⟨e,he,hb,h3⟩:=(hM i o ho).2 j hj hm;have bj:=(hM i o ho).1 e he hb;rcases h3 with rfl|h3
  ·exact hp e he hb
  ·have hi:i<ops.size:=(Array.getElem?_eq_some_iff.1 ho).1
   have oD:ops[e.on]?=some (ops[e.on]'(by omega)):=Array.getElem?_eq_getElem (by omega);exact ih e.on bj _ oD (hc e.on _ oD (V6 (hp e he hb))) j hj h3
theorem SO (hE:D9 E B) (hn:B.n=E.nt) (hd:wL ops=true) {Q:Exit->Act->World->Prop} {s0:St} (hQ:∀ S ι a w,RS B S ι s0 a w->Q .normal a w) :
  ∀ (fuel:Nat) (listed:Array Bool) (S:Nat->Prop) (ι:Ix) (s s':St) (a:Act) (w:World),listed.size=ops.size->(idxs ops.size listed).length=fuel->zk ops listed->P6 (rem ops (idxs ops.size listed))->uniq s.fr->O5 s (rem ops (nl ops (idxs ops.size listed))) ->
   vx E ops (λ i=>(E6 ops.toList []).getD i 0) [] (idxs ops.size listed) s s'->M9 s' s0->RS B S ι s a w->wpAny E.P .any ops Q fuel listed a w:=by
 have hM:=EV hd;have Ee:∀ {S:Nat->Prop} {ι:Ix} {s t:St} {a:Act} {w:World},M9 s t->RS B S ι s a w->RS B S ι t a w:=by
  intro S ι s t a w he h;have dB:∀ {v:AV} {vs:List Value},VX w.heap S ι s.hp v vs->VX w.heap S ι t.hp v vs:=by
   intro v vs hv;exact VX.other (λ i _=>(he.2 i).symm) (λ i _=>F8.refl ι i) hv
  exact ⟨⟨h.hs.os,h.hs.tape,h.hs.out,h.hs.size,h.hs.frame,h.hs.slt,h.hs.s0,h.hs.s1,λ i e hi=>h.hs.ob i e ((he.2 i).trans hi),λ i e hi=>h.hs.bl i e ((he.2 i).trans hi),λ i j ei ej hi hj=>h.hs.dj i j ei ej ((he.2 i).trans hi) ((he.2 j).trans hj),λ q hq=>by obtain ⟨r1,⟨e,r2⟩,r3⟩:=h.hs.pin q hq; exact ⟨r1,⟨e,(he.2 q.1).symm.trans r2⟩,r3⟩⟩,h.dfr,h.sz,
   λ m v hv=>dB (h.fr m v ((he.1 m).trans hv))⟩
 intro fuel
 induction fuel with
 | zero =>
  intro listed S ι s s' a w bc hlen cM fo hu fJ aU he cu;have fV:idxs ops.size listed=[]:=List.length_eq_zero_iff.1 hlen;rw [fV] at aU;have pd:s=s':=aU;subst pd;refine ⟨?_,hQ S ι a w (Ee he cu)⟩;rw [List.eq_nil_iff_forall_not_mem];intro i hi;obtain ⟨h1,o,h2,_⟩:=mem_ready.1 hi;have:i∈idxs ops.size listed:=G0.2 ⟨(Array.getElem?_eq_some_iff.1 h2).1,h1⟩;rw [fV] at this;cases this
 | succ fuel ih =>
  intro listed S ι s s' a w bc hlen cM fo hu fJ aU he cu;refine ⟨λ hr=>?_,λ i hi=>?_⟩
  ·exfalso
   cases ll:idxs ops.size listed with
   | nil=>rw [ll] at hlen; cases hlen
   | cons i l =>
    have bq:i∈idxs ops.size listed:=by rw [ll]; simp
    obtain ⟨h1,h2⟩:=G0.1 bq;have ho:ops[i]?=some ops[i]:=Array.getElem?_eq_getElem h1;have:i∈Region.ready .any ops listed:=by
     refine mem_ready.2 ⟨h2,ops[i],ho,λ e he hb=>?_⟩;have bj:=(hM i _ ho).1 e he hb;cases hle:listed.getD e.on true with
     | true =>
      have:e.on<listed.size:=by omega
      simp [this] at hle ⊢; exact hle
     | false =>
      exfalso;have kj:e.on∈idxs ops.size listed:=G0.2 ⟨by omega,hle⟩;have hs:=CR ops.size listed;rw [ll] at hs kj;rcases List.mem_cons.1 kj with e1|e1
      ·omega
      ·have:=(List.pairwise_cons.1 hs).1 _ e1; omega
    rw [hr] at this;cases this
  ·obtain ⟨h1,o,ho,bg⟩:=mem_ready.1 hi
   have dz:i<ops.size:=(Array.getElem?_eq_some_iff.1 ho).1;have bq:i∈idxs ops.size listed:=G0.2 ⟨dz,h1⟩;obtain ⟨pre,post,e1,bj,e2⟩:=KE bq;have er:rem ops (pre++i::post)=rem ops pre++o::rem ops post:=by simp [rem,List.filterMap_append,ho]
   have er2:rem ops (pre++post)=rem ops pre++rem ops post:=by simp [rem,List.filterMap_append]
   rw [e1] at fo fJ aU;have fw:∀ j∈pre,((E6 ops.toList []).getD i 0).testBit j=false/\∀ x,ops[j]?=some x->indep ops x o=true:=by
    intro j hj;have gz:((E6 ops.toList []).getD i 0).testBit j=false:=by
     cases hm:((E6 ops.toList []).getD i 0).testBit j with
     | false=>rfl
     | true =>
      exfalso;have iR:=Fj (M:=λ i=>(E6 ops.toList []).getD i 0) (λ i o ho=>⟨(hM i o ho).1,(hM i o ho).2.1⟩) cM i o ho bg j (by have:=bj j hj; omega) hm;have:j∈idxs ops.size listed:=by rw [e1]; simp [hj]
      have:=(G0.1 this).2;rw [V6 iR] at this;cases this
    refine ⟨gz,λ x hx=>?_⟩;rcases (hM i o ho).2.2 j x (bj j hj) hx with hm|hm
    ·rw [gz] at hm; cases hm
    ·exact hm
   have qw:O5 s (rem ops (nl ops (pre++post))):=fJ.sub (λ y hy=>by
    rw [MI,BL] at hy ⊢;rcases List.mem_append.1 hy with hy|hy
    ·exact List.mem_append_left _ hy
    ·refine List.mem_append_right _ ?_
     obtain ⟨j,j1,j2⟩:=List.mem_filterMap.1 hy;obtain ⟨j3,j4⟩:=List.mem_filter.1 j1;exact List.mem_filterMap.2 ⟨j,List.mem_filter.2 ⟨List.mem_cons_of_mem _ j3,j4⟩,j2⟩)
   obtain ⟨p,s1,s2,k1,k2,k3,k4,_⟩:=Ec ho fo fw hu (fJ.sub (λ y hy=>by
    rw [MI,BL,Vx dz bj (λ j hj=>(fw j hj).1)]; exact List.mem_append_left _ hy)) aU
   rw [er] at fo;have aL:=(BW bc dz).trans e2;have gQ:P6 (rem ops pre++rem ops post)/\∀ x∈rem ops pre++rem ops post,∀ d,x.dst=some d->o.dst≠some d:=by
    have:∀ {A C:List Oper},P6 (A++o::C)->P6 (A++C)/\∀ x∈A++C,∀ d,x.dst=some d->o.dst≠some d:=by
     intro A
     induction A with
     | nil=>intro C h; exact ⟨h.2,λ x hx d gx ij=>h.1 d ij x hx gx⟩
     | cons y A ih =>
      intro C h;obtain ⟨m1,m2⟩:=ih h.2;refine ⟨⟨λ d hd x hx=>h.1 d hd x (by simp at hx ⊢; rcases hx with hx|hx<;>simp [hx]),m1⟩,λ x hx d gx ij=>?_⟩;rcases List.mem_cons.1 hx with rfl|hx
      ·exact h.1 d gx o (by simp) ij
      ·exact m2 x hx d gx ij
    exact this fo
   have fb:=KZ hE hn cu (ops:=ops) o (k:=λ x=>Tree.cut .skip [] x) (L:=λ _ _ x=>x=s1) (Rt:=λ _=>True) (Ca.2 ⟨p,s1,k1,k2,rfl⟩)
    (next:=wpAny E.P .any ops Q fuel (listed.setIfInBounds i true)) (Q:=Q) (λ S' ι' x a' w' hx kH=>by
     have kH:x=s1:=kH;subst kH;refine ih (listed.setIfInBounds i true) S' ι' x s2 a' w' (by simp [bc]) ?_ ?_ ?_ (R3 hu k1) ?_ ?_ (k4.trans he) hx
     ·rw [aL]; rw [e1] at hlen; simp at hlen ⊢; omega
     ·intro k y hy hk e' eG cX
      by_cases gJ:k=i
      ·subst gJ
       rw [ho] at hy; cases hy;exact getD_set_true (bg e' eG cX)
      ·rw [getD_set_ne true (Ne.symm gJ)] at hk
       exact getD_set_true (cM k y hy hk e' eG cX)
     ·rw [aL,er2]; exact gQ.1
     ·rw [aL]
      exact O5.step hu qw (λ y hy=>gQ.2 y (by rw [<- er2]; exact Vy y hy)) k1
     ·rw [aL]; exact k3)
   unfold wpOp;rw [ho];simp only
   split
   ·rename_i hw; rw [if_pos hw] at fb; exact .inl fb
   ·rename_i hw; rw [if_neg hw] at fb; exact fb
theorem filterMap_some {α β:Type _} {f:α->Option β} {g:α->β}:∀ {l:List α},(∀ i∈l,f i=some (g i))->l.filterMap f=l.map g
 | [],_=>rfl
 | x::l,h=>by rw [List.filterMap_cons,h x (by simp)]; simp [filterMap_some (l:=l) (λ i hi=>h i (by simp [hi]))]
theorem Es:rem ops (idxs ops.size (Array.replicate ops.size false))=ops.toList:=by
 have:idxs ops.size (Array.replicate ops.size false)=List.range ops.size:=by
  unfold idxs;refine List.filter_eq_self.2 (λ i hi=>?_);have:i<ops.size:=List.mem_range.1 hi;simp [this]
 rw [this];unfold rem;apply List.ext_getElem?;intro i;have e:(List.range ops.size).filterMap (λ i=>ops[i]?)=(List.range ops.size).map (λ i=>ops.getD i default):=filterMap_some (λ i hi=>by
  have:i<ops.size:=List.mem_range.1 hi;simp [this])
 rw [e];by_cases hi:i<ops.size
 ·simp [hi]
 ·simp [hi]
theorem Cj:∀ {l:List Oper},Cr (wt l)=true->P6 l
 | [],_=>trivial
 | o::l,h=>by
  cases hd:o.dst with
  | none =>
   have:wt (o::l)=wt l:=by simp [wt,hd]
   rw [this] at h;exact ⟨λ d ee=>(by rw [hd] at ee; cases ee),Cj h⟩
  | some d =>
   have:wt (o::l)=d::wt l:=by simp [wt,hd]
   rw [this] at h;simp only [Cr,Bool.and_eq_true,Bool.not_eq_true'] at h;refine ⟨λ d' ee x hx gx=>?_,Cj h.2⟩;rw [hd] at ee;cases ee;have:d∈wt l:=List.mem_filterMap.2 ⟨x,hx,gx⟩;have h1:=h.1;simp [this] at h1
theorem yz:idxs ops.size (Array.replicate ops.size false)=List.range ops.size:=by
 unfold idxs;refine List.filter_eq_self.2 (λ i hi=>?_);have:i<ops.size:=List.mem_range.1 hi;simp [this]
theorem YV {o:Oper} {l:List Nat} (ho:o∈rem ops (nl ops l)) {d:Nat} (hd:o.dst=some d):d∈wt ops.toList.dropLast:=by
 obtain ⟨j,j1,j2⟩:=List.mem_filterMap.1 ho;have j4:j+1<ops.size:=b8e (by simpa using (List.mem_filter.1 j1).2);refine List.mem_filterMap.2 ⟨o,List.mem_of_getElem? (i:=j) ?_,hd⟩;rw [List.getElem?_dropLast,if_pos (by simp; omega)];simpa using j2
theorem b6j (hE:D9 E B) (hn:B.n=E.nt) {id:Nat} (hd:(wL ops && BR ops s && E.P.follows .mixedOrders)=true) {Q:Exit->Act->World->Prop} {s':St} (hr:vx E ops (λ i=>(E6 ops.toList []).getD i 0) [] (List.range' 0 ops.toList.length) s s')
  (hQ:∀ S ι a w,RS B S ι s' a w->Q .normal a w) (h:RS B S ι s a w):(Code.region id ops true).wp E.P Q a w:=by
 simp only [Bool.and_eq_true,BR,List.all_eq_true] at hd;obtain ⟨⟨h1,⟨h2,h3⟩,h4⟩,h5⟩:=hd;refine wp_region_any h5 ?_;have hlen:(idxs ops.size (Array.replicate ops.size false)).length=ops.size:=by
  rw [yz]; simp
 refine SO hE hn h1 hQ ops.size _ S ι s s' a w.drew (by simp) hlen ?_ ?_ (y6 h2) ?_ ?_ (M9.refl _) (h.Z5 G5.nil F9.drew)
 ·intro k o hk hl
  have:k<ops.size:=(Array.getElem?_eq_some_iff.1 hk).1;simp [this] at hl
 ·rw [Es]; exact Cj h3
 ·intro o ho d hd
  exact h4 d (YV ho hd)
 ·rw [yz,List.range_eq_range']
  simpa using hr
theorem b4O (hE:D9 E B) (hn:B.n=E.nt) {id:Nat} (hd:(wL ops && Jd ops s && E.P.follows .mixedOrders)=true) {Q:Exit->Act->World->Prop} {s':St} (hr:vx E ops (λ i=>(E6 ops.toList []).getD i 0) [] (List.range' 0 ops.toList.length) s s')
  (hQ:∀ S ι a w,RS B S ι s' a w->Q .normal a w) (h:RS B S ι s a w):(Code.region id ops true).wp E.P Q a w:=by
 simp only [Bool.and_eq_true,Jd,List.all_eq_true,List.mem_range] at hd;obtain ⟨⟨h1,⟨h2,h3⟩,h4⟩,h5⟩:=hd;refine wp_region_any h5 ?_;have hlen:(idxs ops.size (Array.replicate ops.size false)).length=ops.size:=by
  rw [yz]; simp
 refine SO hE hn h1 hQ ops.size _ S ι s s' a w.drew (by simp) hlen ?_ ?_ (y6 h2) ?_ ?_ (M9.refl _) (h.Z5 G5.nil F9.drew)
 ·intro k o hk hl
  have:k<ops.size:=(Array.getElem?_eq_some_iff.1 hk).1;simp [this] at hl
 ·rw [Es]; exact Cj h3
 ·intro o ho d hd
  obtain ⟨j,j1,j2⟩:=List.mem_filterMap.1 ho;have j3:=(List.mem_filter.1 j1).2;have hj:j<ops.size:=(Array.getElem?_eq_some_iff.1 j2).1;have:=h4 j hj;simp only [Bool.not_eq_true'] at j3;simp only [j2,hd,j3,Bool.false_or] at this;exact this
 ·rw [yz,List.range_eq_range']
  simpa using hr
theorem Rz {M:List Nat} {k:St->Tree (E.rs++F6 E.ps)} {L:Code->List Item->St->Prop} {R:DL (E.rs++F6 E.ps)->Prop}:∀ {l:List Oper} {n:Nat} {s:St} {acc:List Met} {bI:List (Nat×St)},ops.toList.drop n=l ->
  (∀ e∈bI,∃ m∈acc,m.i=e.1/\ops[e.1]?=some m.o/\m.s=e.2/\m.T=l5 E m.o e.2)->(Dm E ops M n l s acc k).holds L R ->
  ∃ s',vx E ops (λ i=>M.getD i 0) bI (List.range' n l.length) s s'/\(k s').holds L R
 | [],n,s,acc,bI,_,_,h=>⟨s,rfl,h⟩
 | o::l,n,s,acc,bI,hl,ha,h=>by
  obtain ⟨ho,eD,_⟩:=Cs hl;simp only [Dm] at h;split at h
  ·exact h.elim
  ·rename_i bH
   obtain ⟨p,s1,h1,h2,h3⟩:=Ca.1 h;obtain ⟨s',k1,k2⟩:=Rz (bI:=(n,s)::bI) eD (λ e he=>by
    rcases List.mem_cons.1 he with rfl|he
    ·exact ⟨_,List.mem_cons_self ..,rfl,ho,rfl,rfl⟩
    ·obtain ⟨m,hm,r⟩:=ha e he; exact ⟨m,List.mem_cons_of_mem _ hm,r⟩) h3
   refine ⟨s',⟨o,ho,λ e he=>?_,p,s1,h1,h2,k1⟩,k2⟩;obtain ⟨m,hm,m1,m2,m3,m4⟩:=ha e he;have:=(List.all_eq_true.1 bH) m hm;simp only [Bool.or_eq_true] at this;rcases this with this|this
   ·exact .inl (by rw [<- m1]; exact this)
   ·have hp:=Ip this
    rw [m3,m4] at hp;exact .inr ⟨m.o,m2,hp⟩
end
end Go.Ex
