import Derived.Test.YtijlnmgondibnaaGreatDoorExK6
import Derived.Orders
set_option linter.unusedVariables false
set_option linter.unusedSimpArgs false
set_option linter.unusedSectionVars false
namespace Go.Ex
section
variable {E:Env} {s t:St}
theorem Kt {o:Oper} {i:Nat} (h:i∈j9 E o s):∃ x∈o.op.operands.toList,(s.ev x).i7 i=true:=by
 have parts:∀ {T:TypeId} {ps:Array (Nat×Operand)},i∈(s.J3 (ps.toList.map (·.2))).G9->∃ x∈ps.toList.map (·.2),(s.ev x).i7 i=true:=by
  intro T ps h;obtain ⟨x,hx,hm⟩:=Z0 (I1.1 h);exact ⟨x,by simpa using hx,hm⟩
 unfold j9 at h;cases ho:o.op with
 | store T a x =>
  rw [ho] at h;simp only [List.mem_append,I1] at h;rcases h with h|h
  ·exact ⟨a,by simp [Op.operands],h⟩
  ·exact ⟨x,by simp [Op.operands],h⟩
 | box T x=>rw [ho] at h; exact ⟨x,by simp [Op.operands],I1.1 h⟩
 | mapUpdate T m x y=>rw [ho] at h; exact ⟨m,by simp [Op.operands],I1.1 h⟩
 | build T ps=>rw [ho] at h; simp only [Op.operands]; exact parts (T:=T) h
 | buildSlice T n ps=>rw [ho] at h; simp only [Op.operands]; exact parts (T:=T) h
 | call c =>
  rw [ho] at h;have cz:∀ x∈c.args.toList,x∈(Op.call c).operands.toList:=λ x hx=>by simp only [Op.operands,Call.operands]; simp at hx ⊢; first|exact .inr hx|exact .inl hx
  simp only at h;split at h
  ·rename_i f hc
   split at h
   ·rename_i g caps hg
    split at h
    ·split at h
     ·cases h
     ·rcases DG (I1.1 h) with h|h
      ·obtain ⟨x,hx,hm⟩:=Z0 h
       exact ⟨x,cz x hx,hm⟩
      ·exact ⟨f,by simp [Op.operands,Call.operands,hc],by rw [hg]; exact h⟩
    ·cases h
   ·split at h
    ·split at h
     ·cases h
     ·rcases DG (I1.1 h) with h|h
      ·obtain ⟨x,hx,hm⟩:=Z0 h
       exact ⟨x,cz x hx,hm⟩
      ·cases h
    ·cases h
   ·split at h
    ·split at h
     ·cases h
     ·rcases DG (I1.1 h) with h|h
      ·obtain ⟨x,hx,hm⟩:=Z0 h
       exact ⟨x,cz x hx,hm⟩
      ·cases h
    ·cases h
   ·cases h
  ·obtain ⟨x,hx,hm⟩:=Z0 (I1.1 h)
   exact ⟨x,cz x hx,hm⟩
  ·obtain ⟨x,hx,hm⟩:=Z0 (I1.1 h)
   exact ⟨x,cz x hx,hm⟩
  ·obtain ⟨x,hx,hm⟩:=Z0 (I1.1 h)
   exact ⟨x,cz x hx,hm⟩
  ·cases h
 | _=>rw [ho] at h; cases h
theorem IC {o:Oper} (h:∀ x∈o.op.operands.toList,t.ev x=s.ev x):j9 E o t=j9 E o s:=by
 unfold j9;cases ho:o.op with
 | store T a x=>rw [ho] at h; simp only [h a (by simp [Op.operands]),h x (by simp [Op.operands])]
 | box T x=>rw [ho] at h; simp only [h x (by simp [Op.operands])]
 | mapUpdate T m x y=>rw [ho] at h; simp only [h m (by simp [Op.operands])]
 | build T ps =>
  rw [ho] at h;simp only;rw [zw (s:=s) (t:=t) (λ x hx=>h x (by simp only [Op.operands]; simpa using hx))]
 | buildSlice T n ps =>
  rw [ho] at h;simp only;rw [zw (s:=s) (t:=t) (λ x hx=>h x (by simp only [Op.operands]; simpa using hx))]
 | call c =>
  rw [ho] at h;have cz:∀ x∈c.args.toList,x∈(Op.call c).operands.toList:=λ x hx=>by simp only [Op.operands,Call.operands]; simp at hx ⊢; first|exact .inr hx|exact .inl hx
  have he:=zw (s:=s) (t:=t) (λ x hx=>h x (cz x hx));simp only [he]
  split
  ·rename_i f hc
   rw [h f (by simp [Op.operands,Call.operands,hc])]
  ·rfl
  ·rfl
  ·rfl
  ·rfl
 | _=>rfl
def E0 (E:Env) (o:Oper) (s:St) (p:Prop) (v:AV):Prop :=
 ∃ ids f h,Trim (j9 E o s) f/\R9 s ids/\(∀ n∈ids,n % 1000=(o.dst.getD 0) % 1000) /\
  (∀ i,v.i7 i=true->(∃ x∈o.op.operands.toList,(s.ev x).i7 i=true)\/i∈ids) /\
  ∀ t,uniq t.fr->X5 s t o.op.operands.toList->R9 t ids->∃ t1,(l7 E o t).get=some (p,v,t1)/\uniq t1.fr/\LD t t1 (j9 E o s) ids f h
theorem zY {o:Oper} (ha:X5 s t o.op.operands.toList) {i:Nat} (hi:i∈j9 E o s):look i t.hp=look i s.hp:=by
 obtain ⟨x,hx,hm⟩:=Kt hi;exact (ha x hx).2 i hm
theorem E0.ro {o:Oper} {p:Prop} {v:AV} {s1:St} (h:(l7 E o s).get=some (p,v,s1)) (h1:∀ t,X5 s t o.op.operands.toList->l7 E o t=(l7 E o s).wC t) (h2:∀ i,(l7 E o s).av.i7 i=true->∃ x∈o.op.operands.toList,(s.ev x).i7 i=true):E0 E o s p v:=by
 refine ⟨[],λ u=>u,λ i=>look i s.hp,Trim.id _,by simp [R9],by simp,?_,?_⟩
 ·intro i hi
  refine .inl (h2 i ?_);cases hr:l7 E o s<;>rw [hr] at h<;>simp [OR.get] at h
  ·rw [<- h.2.1] at hi; exact hi
  ·rw [<- h.2.1] at hi; exact hi
 ·intro t hu ha _
  refine ⟨t,?_,hu,⟨λ n=>by simp,λ i=>?_⟩⟩
  ·rw [h1 t ha]
   cases hr:l7 E o s<;>rw [hr] at h<;>simp only [OR.get,Option.some.injEq,Prod.mk.injEq] at h
   ·cases h
   ·obtain ⟨rfl,rfl,_⟩:=h; rfl
   ·obtain ⟨rfl,rfl,_⟩:=h; rfl
  ·split
   ·rename_i hi; exact zY ha (by simpa using hi)
   ·rfl
theorem OO {d:Nat} (hu:uniq t.fr) (h:R9 t [d]):t.fresh d=true:=by
 simp only [St.fresh,Bool.and_eq_true,Option.isNone_iff_eq_none];exact ⟨(h d (by simp)).1,Ej hu (h d (by simp)).2⟩
theorem QE {d:Nat} (h:s.fresh d=true):R9 s [d]:=by
 obtain ⟨k1,k2⟩:=Ee h;intro n hn;simp only [List.mem_cons,List.not_mem_nil,or_false] at hn;subst hn;exact ⟨k1,k2⟩
theorem YV {T g:List Nat} {d:Nat} {e:g8} (hg:∀ i∈g,i∈T) (ha:∀ i∈T,look i t.hp=look i s.hp):LD t ((St.w6 g t).w4 d e) T [d] (xo g) (λ i=>if i=d then some e else if i∈g then none else look i s.hp):=by
 refine ⟨λ n=>Cg,λ i=>?_⟩;show look i (Ex.put d e (St.w6 g t).hp)=_;rw [o5,I8];by_cases h1:i=d
 ·simp [h1]
 ·by_cases h3:i∈g
  ·have:=hg i h3; simp [h1,h3,this]
  ·by_cases h2:i∈T
   ·simp [h1,h3,h2,ha i h2]
   ·simp [h1,h2,h3]
theorem E0.obj {o:Oper} {p:Prop} {d:Nat} (hd:o.dst=some d) {e:g8} {v:AV} {g:List Nat} (hv:∀ i,v.i7 i=true->i=d) (hf:s.fresh d=true) (hg:∀ i∈g,i∈j9 E o s)
  (h:∀ t,X5 s t o.op.operands.toList->uniq t.fr->t.fresh d=true->(l7 E o t).get=some (p,v,(St.w6 g t).w4 d e)):E0 E o s p v:=by
 refine ⟨[d],xo g,(λ i=>if i=d then some e else if i∈g then none else look i s.hp),(Trim.w6 g).mono hg,QE hf,by simp [hd],λ i hi=>.inr (by simp [hv i hi]),?_⟩;intro t hu ha hn;exact ⟨_,h t ha hu (OO hu hn),Cc (g:=g) hu,YV hg (λ i hi=>zY ha hi)⟩
theorem Nj {d:Nat} {g:List Nat} {u:Ty} {x:u.den} {v:AV} {s':St} (hl:s.lay d g u x=.ok v s'):s.fresh d=true/\v=.at_ d []/\s'=(St.w6 g s).w4 d (.own u x)/\(wt g && (g.all λ i=>!pinned i))=true:=by
 unfold St.lay at hl;split at hl
 ·cases hl
 ·rename_i hc
  simp only [Bool.and_eq_true] at hc;split at hl
  ·cases hl; exact ⟨hc.2,rfl,rfl,by simp only [Bool.and_eq_true]; exact hc.1⟩
  ·cases hl
theorem Mr {d:Nat} {g:List Nat} {u:Ty} {x:u.den} (hf:t.fresh d=true) (hg:(wt g && (g.all λ i=>!pinned i))=true):t.lay d g u x=.ok (.at_ d []) ((St.w6 g t).w4 d (.own u x)):=by
 unfold St.lay;have h2:(St.w6 g t).fresh d=true:=by
  simp only [St.fresh,Bool.and_eq_true,Option.isNone_iff_eq_none] at hf ⊢;refine ⟨by rw [I8]; split<;>first|rfl|exact hf.1,KJ hf.2⟩
 simp only [hg,hf,h2,Bool.and_self]
theorem E0.lay {o:Oper} {p:Prop} {v:AV} {s1:St} {d:Nat} (hd:o.dst=some d) {g:List Nat} {u:Ty} {x:u.den} {W:OR->OR} (hW:∀ v s,(W (.ok v s)).get=some (p,v,s)) (hF:∀ y,(W (.fail y)).get=none) (hg:∀ i∈g,i∈j9 E o s)
  (h:(l7 E o s).get=some (p,v,s1)) (h1:∀ t,X5 s t o.op.operands.toList->l7 E o t=W (t.lay d g u x)):E0 E o s p v:=by
 rw [h1 s (.refl _ _)] at h;cases hl:s.lay d g u x with
 | fail y=>rw [hl,hF] at h; cases h
 | F0 q v s'=>exact absurd hl wB
 | ok v' s' =>
  rw [hl,hW] at h;cases h;obtain ⟨k1,rfl,rfl,k4⟩:=Nj hl;refine E0.obj hd (e:=.own u x) (g:=g) (λ i hi=>by simpa [AV.i7] using hi) k1 hg (λ t ha hu hf=>?_);rw [h1 t ha,Mr hf k4,hW]
theorem AR {q p:Prop} {r:OR} {v:AV} {s1:St} (h:(r.f7 q).get=some (p,v,s1)) (hr:∀ q' v' s',r≠.F0 q' v' s'):p=q:=by
 cases r with
 | fail y=>cases h
 | ok v s=>simp only [OR.f7,OR.get,Option.some.injEq,Prod.mk.injEq] at h; exact h.1.symm
 | F0 q' v' s'=>exact absurd rfl (hr q' v' s')
theorem WK {T:TypeId} {a:AV} (h:Alike s t a):X2 E T a t=(X2 E T a s).wC t:=by
 unfold X2;cases a with
 | ptr i p =>
  simp only [I9 (h i (by simp [AV.i7]))]
  repeat' (first|rfl|split)
 | _=>first|rfl|(dsimp only; split<;>rfl)
theorem c0d {T:TypeId} {a:AV} {i:Nat} (h:(X2 E T a s).av.i7 i=true):a.i7 i=true:=by
 unfold X2 at h;cases a with
 | ptr j p =>
  simp only at h
  repeat' (split at h)
  all_goals first|exact h|(cases h; done)
 | _ =>
  simp only at h
  repeat' (split at h)
  all_goals first|exact h|(cases h; done)
theorem Iv {i:Nat}:∀ {n:Nat} {l v:AV},l7.nth n l=some v->v.i7 i=true->l.i7 i=true
 | 0,l,v,h,hv=>by
  cases l<;>simp only [l7.nth] at h<;>first|cases h|skip
  simp [AV.i7,hv]
 | n+1,l,v,h,hv=>by
  cases l<;>simp only [l7.nth] at h<;>first|cases h|skip
  simp [AV.i7,Iv h hv]
theorem Vm (d k:Nat):N2 d k % 1000=d % 1000:=by unfold N2; omega
theorem NF {d j k:Nat} (h:N2 d j=N2 d k):j=k:=by unfold N2 at h; omega
theorem JO:∀ {ts:List Ty} {x:DL ts} {d j:Nat} {hp:List (Nat×g8)} {l:AV} {cH:List (Nat×g8)},W7 ts x d j hp=some (l,cH) ->
  (∀ i,l.i7 i=true->∃ k,j<=k/\k<j+ts.length/\i=N2 d k) /\
  ∃ h:Nat->Option g8,∀ h2,(∀ k,j<=k->k<j+ts.length->look (N2 d k) h2=none)->∃ fE,W7 ts x d j h2=some (l,fE)/\∀ i,look i fE=(match h i with|some e=>some e|none=>look i h2)/\((h i).isSome->∃ k,j<=k/\k<j+ts.length/\i=N2 d k)
 | [],x,d,j,hp,l,cH,h=>by
  simp only [W7,Option.some.injEq,Prod.mk.injEq] at h;obtain ⟨rfl,rfl⟩:=h;exact ⟨by simp [AV.i7],λ _=>none,λ h2 _=>⟨h2,rfl,λ i=>⟨rfl,by simp⟩⟩⟩
 | u::ts,x,d,j,hp,l,cH,h=>by
  simp only [W7] at h;split at h
  ·rename_i hs
   split at h
   ·rename_i l' fN ez
    cases h;obtain ⟨k1,h,k2⟩:=JO ez;refine ⟨λ i hi=>?_,h,λ h2 hh=>?_⟩
    ·obtain ⟨k,m1,m2,m3⟩:=k1 i (by simpa [AV.i7] using hi)
     exact ⟨k,by omega,by simp only [List.length_cons]; omega,m3⟩
    ·obtain ⟨fE,e1,e2⟩:=k2 h2 (λ k ju fb=>hh k (by omega) (by simp only [List.length_cons]; omega))
     refine ⟨fE,by simp only [W7,hs,e1],λ i=>⟨(e2 i).1,λ hi=>?_⟩⟩;obtain ⟨k,m1,m2,m3⟩:=(e2 i).2 hi;exact ⟨k,by omega,by simp only [List.length_cons]; omega,m3⟩
   ·cases h
  ·rename_i hs
   split at h
   ·cases h
   ·rename_i dm
    split at h
    ·rename_i l' fN ez
     cases h;obtain ⟨k1,h,k2⟩:=JO ez;refine ⟨λ i hi=>?_,λ i=>if i=N2 d j then some (vx u x.1 (N2 d j)).1 else h i,λ h2 hh=>?_⟩
     ·simp only [AV.i7,Bool.or_eq_true] at hi
      rcases hi with hi|hi
      ·refine ⟨j,Nat.le_refl _,by simp,?_⟩
       rcases Iq u x.1 (N2 d j) with e|⟨g,_,_,_,e⟩
       ·rw [e] at hi; exact Nat.eq_of_beq_eq_true hi
       ·rw [e] at hi
        cases g with
        | none=>exact Nat.eq_of_beq_eq_true hi
        | some f =>
         have hi:(Nat.beq i (N2 d j) || false)=true:=hi;rw [Bool.or_false] at hi;exact Nat.eq_of_beq_eq_true hi
      ·obtain ⟨k,m1,m2,m3⟩:=k1 i hi
       exact ⟨k,by omega,by simp only [List.length_cons]; omega,m3⟩
     ·have e0:look (N2 d j) h2=none:=hh j (Nat.le_refl _) (by simp)
      obtain ⟨fE,e1,e2⟩:=k2 (put (N2 d j) (vx u x.1 (N2 d j)).1 h2) (λ k ju fb=>by
       rw [o5,if_neg (λ e=>by have:=NF e; omega)];exact hh k (by omega) (by simp only [List.length_cons]; omega))
      refine ⟨fE,by simp only [W7,hs,e0,e1],λ i=>⟨?_,λ hi=>?_⟩⟩
      ·rw [(e2 i).1,o5]
       by_cases he:i=N2 d j
       ·simp only [he,if_true]
        cases sO:h (N2 d j) with
        | none=>rfl
        | some e =>
         exfalso;obtain ⟨k,m1,m2,m3⟩:=(e2 (N2 d j)).2 (by rw [sO]; rfl);have:=NF m3; omega
       ·simp only [if_neg he]
      ·by_cases he:i=N2 d j
       ·exact ⟨j,Nat.le_refl _,by simp,he⟩
       ·simp only [if_neg he] at hi
        obtain ⟨k,m1,m2,m3⟩:=(e2 i).2 hi;exact ⟨k,by omega,by simp only [List.length_cons]; omega,m3⟩
    ·cases h
theorem Kk {d:Nat}:∀ {n:Nat} {fr:List (Nat×AV)},(∀ k,k<n->vO (N2 d k) fr=true)->xl d n fr=true
 | 0,_,_=>rfl
 | n+1,fr,h=>by
  simp only [xl,Bool.and_eq_true];exact ⟨h n (by omega),Kk (λ k hk=>h k (by omega))⟩
theorem Kl {d:Nat}:∀ {n:Nat} {hp:List (Nat×g8)},zA d n hp=true↔∀ k,k<n->look (N2 d k) hp=none
 | 0,_=>by simp [zA]
 | n+1,hp=>by
  simp only [zA,Bool.and_eq_true,Option.isNone_iff_eq_none,Kl (n:=n)];constructor
  ·rintro ⟨h1,h2⟩ k hk
   by_cases e:k=n
   ·subst e; exact h1
   ·exact h2 k (by omega)
  ·intro h; exact ⟨h n (by omega),λ k hk=>h k (by omega)⟩
theorem WO {i:Nat} {l:AV} (h:l.one.i7 i=true):l.i7 i=true:=by
 unfold AV.one at h;split at h
 ·simp [AV.i7,h]
 ·exact h
theorem xV:∀ {ks:List PK} {y:DL (E1 ks)} {m:List Nat} {s1:St},wr ks y m s=some s1 ->
  (m=[]/\∀ t,wr ks y m t=some t)\/∃ i ow e,m=[i]/\∀ t,wr ks y m t=some ((t.Y1 i ow).w4 i e)
 | [],y,m,s1,h=>by
  cases m with
  | nil=>exact .inl ⟨rfl,λ t=>rfl⟩
  | cons i m=>cases h
 | k::ks,y,m,s1,h=>by
  cases k with
  | rw u =>
   match m,h with
   | [],h=>cases h
   | [i],h =>
    simp only [wr] at h;split at h
    ·rename_i hw
     exact .inr ⟨i,false,.var u y.1,rfl,λ t=>by simp only [wr,hw]⟩
    ·cases h
   | i::j::m,h=>cases h
  | mu u =>
   match m,h with
   | [],h=>cases h
   | [i],h =>
    simp only [wr] at h;split at h
    ·rename_i hw
     exact .inr ⟨i,true,.own (.d0 true u) y.1,rfl,λ t=>by simp only [wr,hw]⟩
    ·cases h
   | i::j::m,h=>cases h
  | v u=>cases m<;>exact xV (ks:=ks) h
  | T1=>cases m<;>exact xV (ks:=ks) h
  | rcs f n=>cases m<;>exact xV (ks:=ks) h
  | el q=>cases m<;>exact xV (ks:=ks) h
  | rd u=>cases m<;>exact xV (ks:=ks) h
  | C1 f ts=>cases m<;>exact xV (ks:=ks) h
  | own u=>cases m<;>exact xV (ks:=ks) h
end
end Go.Ex
namespace Go.Ex
section
variable {E:Env} {s t:St}
theorem xm {c:Call} {x:Operand} (hx:x∈c.args.toList):x∈(Op.call c).operands.toList:=by
 simp only [Op.operands,Call.operands]; simp at hx ⊢; first|exact .inr hx|exact .inl hx
def gq (m:Nat) (v:AV):AV:=match Nat.beq m I3 with|true=>.any|false=>v
theorem zv {s:St} {m:Nat}:s.ev (.tmp m)=gq m (s.get m):=rfl
theorem EH {s:St} {m i:Nat} (h:(s.ev (.tmp m)).i7 i=true):(s.get m).i7 i=true:=by
 rw [zv] at h;unfold gq at h;split at h
 ·cases h
 ·exact h
theorem yL {s t:St} {m:Nat} (h:t.get m=s.get m):t.ev (.tmp m)=s.ev (.tmp m):=congrArg (gq m) h
theorem VM {s:St} {m:Nat} {v:AV} (hb:Nat.beq m I3=false) (h:s.get m=v):s.ev (.tmp m)=v:=by
 rw [zv,h]; unfold gq; rw [hb]
theorem BS {s:St} {m:Nat} {v:AV} (h:s.ev (.tmp m)=v) (hv:v≠.any):s.get m=v:=by
 rw [zv] at h;unfold gq at h;split at h
 ·exact absurd h.symm hv
 ·exact h
theorem ZY {s:St} {m:Nat} {v:AV} (h:s.ev (.tmp m)=v) (hv:v≠.any):Nat.beq m I3=false:=by
 rw [zv] at h;unfold gq at h;split at h
 ·exact absurd h.symm hv
 ·assumption
theorem JB {o:Oper} {c:Call} (ho:o.op=.call c) {f:Operand} (hc:c.callee=.value f) {W:OR->OR} {π:Prop->Prop} (hW:∀ r,(W r).get=r.get.map (λ x=>(π x.1,x.2.1,x.2.2))) {g:FuncId} {caps fv:AV} (hg:s.ev f=fv) (ed:∀ i,caps.i7 i=true->fv.i7 i=true)
  (he:∀ t,t.ev f=fv->l7 E o t=W (R7 E g ((t.J3 c.args.toList).app caps) o.dst t))
  (hT:j9 E o s=(match look g E.C5 with
    | some c'=>(match c'.ps.any PK.j9 with
     | false=>[]
     | true=>((s.J3 c.args.toList).app caps).G9)
    | none=>[])) {p:Prop} {v:AV} {s1:St} (h:(l7 E o s).get=some (p,v,s1)):E0 E o s p v:=by
 have gj:f∈o.op.operands.toList:=by rw [ho]; simp [Op.operands,Call.operands,hc]
 have cR:∀ x∈c.args.toList,x∈o.op.operands.toList:=λ x hx=>by rw [ho]; exact xm hx
 rw [he s hg,hW] at h;obtain ⟨q,h,hq⟩:∃ q,(R7 E g ((s.J3 c.args.toList).app caps) o.dst s).get=some (q,v,s1)/\π q=p:=by
  cases hr:(R7 E g ((s.J3 c.args.toList).app caps) o.dst s).get with
  | none=>rw [hr] at h; cases h
  | some x =>
   rw [hr] at h;simp only [Option.map_some,Option.some.injEq,Prod.mk.injEq] at h;exact ⟨x.1,by rw [<- h.2.1,<- h.2.2],h.1⟩
 have aD:∀ i,((s.J3 c.args.toList).app caps).i7 i=true->∃ x∈o.op.operands.toList,(s.ev x).i7 i=true:=by
  intro i hi;rcases DG hi with hi|hi
  ·obtain ⟨x,hx,hi⟩:=Z0 hi; exact ⟨x,cR x hx,hi⟩
  ·exact ⟨f,gj,by rw [hg]; exact ed i hi⟩
 generalize rb:(s.J3 c.args.toList).app caps=av at h aD hT;unfold R7 at h;split at h
 ·cases h
 ·rename_i c' dm
  rw [dm] at hT;simp only at hT;split at h
  ·cases h
  ·rename_i x gs m hx
   obtain ⟨jq,jS⟩:=PT hx;have iW:∀ i,i∈gs++m->i∈j9 E o s:=by
    intro i hi;rw [hT];cases hp:c'.ps.any PK.j9 with
    | true=>exact I1.2 (jq i hi)
    | false=>obtain ⟨r1,r2⟩:=jS hp; rw [r1,r2] at hi; cases hi
   split at h
   ·cases h
   ·rename_i bZ
    obtain ⟨kY,fo⟩:=(Bool.and_eq_true_iff).1 bZ;obtain ⟨gg,sf⟩:=(Bool.and_eq_true_iff).1 fo;split at h
    ·cases h
    ·rename_i s2 oz
     split at h
     ·cases h
     ·rename_i hm
      split at h
      ·rename_i l hp pv
       simp only [OR.get,Option.some.injEq,Prod.mk.injEq] at h;obtain ⟨rfl,rfl,_⟩:=h;obtain ⟨k3,h3,k4⟩:=JO pv;simp only [Nat.zero_add,Nat.zero_le,true_and] at k3 k4;have kR:∀ {t:St},R9 t ((List.range c'.rs.length).map (N2 (o.dst.getD 0)))->∀ k,k<c'.rs.length->look (N2 (o.dst.getD 0) k) t.hp=none:=λ hn k hk=>(hn _ (List.mem_map.2 ⟨k,by simpa using hk,rfl⟩)).1;have hw:∃ (f:AV->AV) (h:Nat->Option g8),Trim (j9 E o s) f/\(∀ i,i∉j9 E o s->h i=none)/\∀ t,uniq t.fr->(∀ i∈j9 E o s,look i t.hp=look i s.hp)->∃ t2,wr c'.ps (c'.out x) m (St.w6 gs t)=some t2/\uniq t2.fr/\(∀ n,look n t2.fr=(look n t.fr).map f)/\∀ i,look i t2.hp=if i∈j9 E o s then h i else look i t.hp:=by
        rcases xV oz with ⟨rfl,hw⟩|⟨i0,ow,e,rfl,hw⟩
        ·refine ⟨xo gs,λ i=>if i∈j9 E o s then (if i∈gs then none else look i s.hp) else none,(Trim.w6 gs).mono (λ i hi=>iW i (by simp [hi])),λ i hi=>by simp [hi],λ t hu ha=>⟨_,hw _,Cc hu,λ n=>Cg,λ i=>?_⟩⟩
         rw [I8];by_cases h1:i∈gs
         ·simp [h1,iW i (by simp [h1])]
         ·by_cases h2:i∈j9 E o s
          ·simp [h1,h2,ha i h2]
          ·simp [h1,h2]
        ·have mQ:i0∈j9 E o s:=iW i0 (by simp)
         refine ⟨λ u=>AV.map (AV.xq i0 ow) (xo gs u),λ i=>if i∈j9 E o s then (if i=i0 then some e else if i∈gs then none else look i s.hp) else none,
          Trim.comp (Trim.w6 gs) (Trim.Y1 i0 ow) (λ i hi=>iW i (by simp [hi])) (by simpa using mQ),λ i hi=>by simp [hi],λ t hu ha=>⟨_,hw _,BQ (Cc hu),λ n=>?_,λ i=>?_⟩⟩
         ·show look n (mapA _ (St.w6 gs t).fr)=_
          rw [N4,Cg,Option.map_map]; rfl
         ·show look i (Ex.put i0 e (St.w6 gs t).hp)=_
          rw [o5,I8];by_cases h0:i=i0
          ·subst h0; simp [mQ]
          ·by_cases h1:i∈gs
           ·simp [h0,h1,iW i (by simp [h1])]
           ·by_cases h2:i∈j9 E o s
            ·simp [h0,h1,h2,ha i h2]
            ·simp [h0,h1,h2]
       obtain ⟨f0,h0,w1,w2,w3⟩:=hw;refine ⟨(List.range c'.rs.length).map (N2 (o.dst.getD 0)),f0,λ i=>match h3 i with|some e=>some e|none=>h0 i,w1,?_,?_,?_,?_⟩
       ·intro n hn
        obtain ⟨k,hk,rfl⟩:=List.mem_map.1 hn;exact ⟨Kl.1 sf k (by simpa using hk),λ m w hw=>BX (EK gg k (by simpa using hk)) hw⟩
       ·intro n hn
        obtain ⟨k,_,rfl⟩:=List.mem_map.1 hn;exact Vm _ _
       ·intro i hi
        obtain ⟨k,m2,rfl⟩:=k3 i (WO hi);exact .inr (List.mem_map.2 ⟨k,by simpa using m2,rfl⟩)
       ·intro t hu ha hn
        have eP:Alike s t av:=λ i hi=>by obtain ⟨x,hx,hm⟩:=aD i hi; exact (ha x hx).2 i hm
        obtain ⟨t2,e1,e2,e3,e4⟩:=w3 t hu (λ i hi=>zY ha hi);have lk:∀ k,k<c'.rs.length->N2 (o.dst.getD 0) k∉j9 E o s:=by
         intro k hk bn;obtain ⟨x,hx,hm⟩:=Kt bn;obtain ⟨m',rfl,gx⟩:∃ m',x=.tmp m'/\(s.get m').i7 (N2 (o.dst.getD 0) k)=true:=by
          cases x with
          | tmp m'=>exact ⟨m',rfl,EH hm⟩
          | const v =>
           exfalso;simp only [St.ev] at hm;unfold ofConst at hm;split at hm
           ·split at hm<;>cases hm
           ·cases hm
           ·split at hm<;>cases hm
           ·cases hm
          | global g=>cases hm
          | func f=>cases hm
         simp only [St.get] at gx;cases hl:look m' s.fr with
         | none=>rw [hl] at gx; cases gx
         | some w =>
          rw [hl] at gx;have:=BX (EK gg k hk) hl;simp only [Option.getD_some] at gx;rw [gx] at this; cases this
        have eL:∀ k,k<c'.rs.length->look (N2 (o.dst.getD 0) k) t2.hp=none:=by
         intro k hk;rw [e4,if_neg (lk k hk)];exact kR hn k hk
        obtain ⟨fE,r1,r2⟩:=k4 t2.hp (λ k _ hk=>eL k hk);have gx:xl (o.dst.getD 0) c'.rs.length t2.fr=true:=Kk (λ k hk=>Ej e2 (λ n w hw=>by
         rw [e3] at hw;cases hl:look n t.fr with
         | none=>rw [hl] at hw; cases hw
         | some u =>
          rw [hl] at hw;cases hw;cases ph:(f0 u).i7 (N2 (o.dst.getD 0) k) with
          | false=>rfl
          | true =>
           have:=(hn (N2 (o.dst.getD 0) k) (List.mem_map.2 ⟨k,by simpa using hk,rfl⟩)).2 n u hl;rw [w1.i7 u ph] at this; cases this))
        have kI:xl (o.dst.getD 0) c'.rs.length t.fr=true:=Kk (λ k hk=>Ej hu (hn _ (List.mem_map.2 ⟨k,by simpa using hk,rfl⟩)).2);have pa:zA (o.dst.getD 0) c'.rs.length t.hp=true:=Kl.2 (λ k hk=>kR hn k hk);have de:(t.J3 c.args.toList).app caps=av:=by
         rw [zw (s:=s) (t:=t) (λ x hx=>(ha x (cR x hx)).1)]; exact rb
        have tf:R7 E g av o.dst t=.F0 (c'.pre x) l.one { t2 with hp:=fE }:=by
         unfold R7;simp only [dm,MR (s:=s) (t:=t) eP,hx,kY,kI,pa,Bool.and_self,e1,gx,r1]
        refine ⟨{ t2 with hp:=fE },?_,e2,⟨e3,λ i=>?_⟩⟩
        ·rw [he t ((ha f gj).1.trans hg),hW,de,tf]; simp only [OR.get,Option.map_some,hq]
        ·show look i fE=_
         rw [(r2 i).1,e4];cases hh:h3 i with
         | some e =>
          obtain ⟨k,hk,mO⟩:=(r2 i).2 (by rw [hh]; rfl);simp only;rw [if_pos (.inr (List.mem_map.2 ⟨k,by simpa using hk,mO.symm⟩))]
         | none =>
          simp only;by_cases h1:i∈j9 E o s
          ·rw [if_pos h1,if_pos (.inl h1)]
          ·rw [if_neg h1]
           split
           ·rename_i hi
            rcases hi with hi|hi
            ·exact absurd hi h1
            ·obtain ⟨k,hk,rfl⟩:=List.mem_map.1 hi
             rw [kR hn k (by simpa using hk),w2 _ h1]
           ·rfl
      ·cases h
theorem Xf {o:Oper} {c:Call} (ho:o.op=.call c) {f:Operand} (hc:c.callee=.value f) {p:Prop} {v:AV} {s1:St} (h:(l7 E o s).get=some (p,v,s1)):E0 E o s p v:=by
 have key:(∃ g caps,s.ev f=.C1 g caps)\/(∃ g b,s.ev f=.val (.fn g) b)\/∃ g t y,s.ev f=.val (.box false (some g) t) y:=by
  unfold l7 at h;rw [ho] at h;simp only [hc] at h;split at h
  ·exact .inl ⟨_,_,by assumption⟩
  ·exact .inr (.inl ⟨_,_,by assumption⟩)
  ·exact .inr (.inr ⟨_,_,_,by assumption⟩)
  ·cases h
 rcases key with ⟨g,caps,hg⟩|⟨g,b,hg⟩|⟨g,t0,y0,hg⟩
 ·refine JB ho hc (W:=λ r=>r) (π:=λ q=>q) (g:=g) (caps:=caps) (λ r=>by cases r<;>rfl) hg (λ i hi=>hi) (λ t ht=>?_) ?_ h
  ·unfold l7
   rw [ho];simp only [hc,ht]
  ·unfold j9; rw [ho]; simp only [hc,hg]; rfl
 ·refine JB ho hc (W:=λ r=>r.xB ((b:Bool)=true)) (π:=λ q=>(b:Bool)=true/\q) (g:=g) (caps:=.nil) (λ r=>by cases r<;>rfl) hg (λ i hi=>by cases hi) (λ t ht=>?_) ?_ h
  ·unfold l7
   rw [ho];simp only [hc,ht]
  ·unfold j9; rw [ho]; simp only [hc,hg]; rfl
 ·refine JB ho hc (W:=λ r=>r.xB ((y0:Option t0.den).isSome=true)) (π:=λ q=>(y0:Option t0.den).isSome=true/\q) (g:=g) (caps:=.cons (.K2 t0 (Option.getD (y0:Option t0.den) t0.r9)) .nil) (λ r=>by cases r<;>rfl) hg (λ i hi=>by cases hi) (λ t ht=>?_) ?_ h
  ·unfold l7
   rw [ho];simp only [hc,ht]
  ·unfold j9; rw [ho]; simp only [hc,hg]; rfl
end
end Go.Ex
namespace Go.Ex
section
variable {E:Env} {s t:St}
theorem b9J {T:TypeId} {i:Nat} {p:List Step} {x:AV} {q:Prop} {v:AV} {s1:St} (h:(N8 E T i p x s).get=some (q,v,s1)) :
  v=.raw undef/\∃ g ow e,(∀ j∈g,x.i7 j=true)/\∀ t:St,t.obj i=s.obj i->Alike s t x->(N8 E T i p x t).get=some (q,.raw undef,((St.w6 g t).kill i ow p).w4 i e):=by
 unfold N8 at h;split at h
 ·cases h
 ·rename_i e aS
  split at h
  ·cases h
  ·rename_i u y hg
   split at h
   ·cases h
   ·rename_i bD
    have base:∀ t:St,t.obj i=s.obj i->t.obj i=some e:=λ t ht=>ht.trans aS;split at h
    ·split at h
     ·split at h
      ·rename_i r aG
       cases h;refine ⟨rfl,[],e.kd,e.D6 r,by simp,λ t ht _=>?_⟩;unfold N8;simp only [base t ht,hg,bD,aG];rfl
      ·cases h
     ·split at h
      ·rename_i r aG
       cases h;refine ⟨rfl,[],e.kd,e.D6 r,by simp,λ t ht _=>?_⟩;unfold N8;simp only [base t ht,hg,bD,aG];rfl
      ·cases h
     ·cases h
    ·rename_i j q' lo hi
     split at h
     ·split at h
      ·rename_i r aG
       split at h
       ·rename_i bS
        cases h;refine ⟨rfl,[],e.kd,e.D6 r,by simp,λ t ht _=>?_⟩;unfold N8;simp only [base t ht,hg,bD,aG,bS];rfl
       ·cases h
      ·cases h
     ·cases h
    ·rename_i x' oy ru
     split at h
     ·rename_i z g cT
      split at h
      ·rename_i r aG
       split at h
       ·rename_i bS
        cases h;refine ⟨rfl,g,e.kd,e.D6 r,Eo cT,λ t ht eP=>?_⟩;have fk:=(yN eP).trans cT;unfold N8;simp only [base t ht,hg,bD];simp only [fk,aG,bS];rfl
       ·cases h
      ·cases h
     ·rename_i cT
      split at h
      ·rename_i j q'
       split at h
       ·rename_i u' y' cS
        split at h
        ·rename_i r aG
         split at h
         ·rename_i bS
          cases h;refine ⟨rfl,[],e.kd,e.D6 r,by simp,λ t ht eP=>?_⟩;have fk:=(yN eP).trans cT;have oS:=(I9 (p:=q') (eP j (by simp [AV.i7]))).trans cS;unfold N8;simp only [base t ht,hg,bD];simp only [fk,oS,aG,bS];rfl
         ·cases h
        ·cases h
       ·cases h
      ·cases h
theorem Yz {o:Oper} {T:TypeId} {a x:Operand} (ho:o.op=.store T a x) {p:Prop} {v:AV} {s1:St} (h:(l7 E o s).get=some (p,v,s1)):E0 E o s p v:=by
 have oR:∃ i q,s.ev a=.ptr i q:=by
  unfold l7 at h;rw [ho] at h;simp only at h;split at h
  ·exact ⟨_,_,by assumption⟩
  ·cases h
 obtain ⟨i,q,hp⟩:=oR;have ha:∀ t,t.ev a=.ptr i q->l7 E o t=N8 E T i q (t.ev x) t:=by
  intro t ht;unfold l7;rw [ho];simp only [ht]
 rw [ha s hp] at h;obtain ⟨rfl,g,ow,e,hg,k⟩:=b9J h;have hT:j9 E o s=(s.ev a).G9++(s.ev x).G9:=by unfold j9; rw [ho]
 have qU:i∈j9 E o s:=by rw [hT,hp]; simp [AV.G9]
 have iW:∀ j∈g,j∈j9 E o s:=λ j hj=>by rw [hT]; exact List.mem_append_right _ (I1.2 (hg j hj))
 have re:a∈o.op.operands.toList:=by rw [ho]; simp [Op.operands]
 have cR:x∈o.op.operands.toList:=by rw [ho]; simp [Op.operands]
 refine ⟨[],λ u=>AV.kill i ow q (xo g u),λ j=>if j=i then some e else if j∈g then none else look j s.hp,Trim.comp (Trim.w6 g) (Trim.kill i ow q) iW (by simpa using qU),by simp [R9],by simp,by simp [AV.i7],?_⟩;intro t hu du _;have de:=(du x cR).1;have oX:t.obj i=s.obj i:=(du a re).2 i (by rw [hp]; simp [AV.i7]);refine ⟨((St.w6 g t).kill i ow q).w4 i e,?_,BQ (Cc hu),⟨λ n=>?_,λ j=>?_⟩⟩
 ·rw [ha t ((du a re).1.trans hp),de]
  exact k t oX (λ j hj=>(du x cR).2 j hj)
 ·show look n (mapA _ (St.w6 g t).fr)=_
  rw [N4,Cg,Option.map_map]; rfl
 ·show look j (Ex.put i e (St.w6 g t).hp)=_
  rw [o5,I8];by_cases h0:j=i
  ·subst h0; simp [qU]
  ·by_cases h1:j∈g
   ·simp [h0,h1,iW j h1]
   ·by_cases h2:j∈j9 E o s
    ·simp [h0,h1,h2,zY du h2]
    ·simp [h0,h1,h2]
theorem Sv {T:TypeId} {x y:AV} {dst:Option Nat} {p:Prop} {v:AV} {s1:St} (h:(wx E T x y dst s).get=some (p,v,s1)) :
  ∃ d g u l,dst=some d/\(∀ j∈g,x.i7 j=true\/y.i7 j=true)/\∀ t,Alike s t x->Alike s t y->wx E T x y dst t=(St.lay t d g u l).f7 p:=by
 unfold wx at h;split at h
 ·rename_i q t0 bts d hT
  split at h
  ·cases h
  ·rename_i tt m g cu
   have ie:=PR cu;have ha:∀ t,Alike s t y->y.uY t t0=some (⟨tt,m⟩,g):=λ t ht=>(HG ht).trans cu;simp only at h;split at h
   ·split at h
    ·rename_i df
     obtain rfl:=AR h (λ _ _ _=>wB);refine ⟨d,[]++g,.d0 true t0,(([]:List t0.den)++N5 df m),rfl,by simpa using λ j hj=>.inr (ie j hj),λ t _ hy=>?_⟩;unfold wx;simp only [hT,ha t hy,df,dif_pos]
    ·cases h
   ·split at h
    ·rename_i bD
     split at h
     ·rename_i df
      obtain rfl:=AR h (λ _ _ _=>wB);refine ⟨d,[]++g,.d0 true t0,(([]:List t0.den)++N5 df m),rfl,by simpa using λ j hj=>.inr (ie j hj),λ t _ hy=>?_⟩;unfold wx;simp only [hT,ha t hy,df,dif_pos,bD]
     ·cases h
    ·cases h
   ·rename_i oy ru
    split at h
    ·rename_i u l f cT
     split at h
     ·rename_i hu
      split at h
      ·rename_i df
       obtain rfl:=AR h (λ _ _ _=>wB);refine ⟨d,f++g,.d0 true t0,(N5 hu l++N5 df m),rfl,?_,λ t hx hy=>?_⟩
       ·intro j hj
        rcases List.mem_append.1 hj with hj|hj
        ·exact .inl (Eg cT j hj)
        ·exact .inr (ie j hj)
       ·have fk:=(Dz hx).trans cT
        unfold wx;simp only [hT,ha t hy];simp only [fk,hu,df,dif_pos]
      ·cases h
     ·cases h
    ·cases h
 ·cases h
theorem Yi {T:TypeId} {x y:AV} {dst:Option Nat} {p:Prop} {v:AV} {s1:St} (h:(CP E T x y dst s).get=some (p,v,s1)) :
  ∃ d g u l,dst=some d/\(∀ j∈g,x.i7 j=true\/y.i7 j=true)/\∀ t,Alike s t x->Alike s t y->CP E T x y dst t=(St.lay t d g u l).f7 p:=by
 cases h
theorem XB {T:TypeId} {x y:AV} {dst:Option Nat} {p:Prop} {v:AV} {s1:St} (h:(wU E T x y dst s).get=some (p,v,s1)) :
  ∃ d g u l,dst=some d/\(∀ j∈g,x.i7 j=true\/y.i7 j=true)/\∀ t,Alike s t x->Alike s t y->wU E T x y dst t=(St.lay t d g u l).f7 p:=by
 have hs:∀ t,Alike s t x->CX t x=CX s x:=λ t ht=>by
  unfold CX
  split
  ·rw [ht _ (by simp [AV.i7])]
  ·rfl
 unfold wU at h;split at h
 ·rename_i hc
  obtain ⟨d,g,u,l,h1,h2,h3⟩:=Yi h;exact ⟨d,g,u,l,h1,h2,λ t hx hy=>by unfold wU; rw [hs t hx,hc]; exact h3 t hx hy⟩
 ·rename_i hc
  obtain ⟨d,g,u,l,h1,h2,h3⟩:=Sv h;exact ⟨d,g,u,l,h1,h2,λ t hx hy=>by unfold wU; rw [hs t hx,hc]; exact h3 t hx hy⟩
theorem Jm {i:Nat} {p:List Step} {lo:Nat} {u:Ty} {m:List u.den} {s1:St} (h:vD s i p lo u m=some s1):∃ ow e',∀ t:St,t.obj i=s.obj i->vD t i p lo u m=some ((t.Y1 i ow).w4 i e'):=by
 unfold vD at h;split at h
 ·rename_i e he
  split at h
  ·rename_i u' l hg
   split at h
   ·rename_i hu
    split at h
    ·rename_i r aG
     split at h
     ·rename_i hc
      refine ⟨e.Y2,e.D6 r,λ t ht=>?_⟩;unfold vD;rw [ht,he];simp only [hg,hu,dif_pos];subst hu;simp only [aG,hc]
     ·cases h
    ·cases h
   ·cases h
  ·cases h
 ·cases h
theorem E0.LK {o:Oper} {p:Prop} {v:AV} {i:Nat} {ow:Bool} {e':g8} (hi:i∈j9 E o s) (hv:∀ j,v.i7 j=true->∃ x∈o.op.operands.toList,(s.ev x).i7 j=true) (hr:∀ t,X5 s t o.op.operands.toList->(l7 E o t).get=some (p,v,(t.Y1 i ow).w4 i e')):E0 E o s p v:=by
 refine ⟨[],AV.map (AV.xq i ow),λ j=>if j=i then some e' else look j s.hp,(Trim.Y1 i ow).mono (by simpa using hi),by simp [R9],by simp,λ j hj=>.inl (hv j hj),λ t hu ha _=>⟨_,hr t ha,BQ hu,λ n=>?_,λ j=>?_⟩⟩
 ·show look n (mapA _ t.fr)=_
  rw [N4]
 ·show look j (Ex.put i e' t.hp)=_
  rw [o5];by_cases h1:j=i
  ·subst h1; simp [hi]
  ·rw [if_neg h1]
   by_cases h2:j∈j9 E o s
   ·rw [if_pos (.inl h2),if_neg h1]; exact zY ha h2
   ·rw [if_neg (by simp [h2])]
theorem E0.fill {o:Oper} {p:Prop} {v:AV} {i:Nat} {ow:Bool} {e':g8} (hi:i∈j9 E o s) (hv:∀ j,v.i7 j=false) (hr:∀ t,X5 s t o.op.operands.toList->(l7 E o t).get=some (p,v,(t.Y1 i ow).w4 i e')):E0 E o s p v :=
 .LK hi (λ j hj=>by rw [hv j] at hj; cases hj) hr
theorem Zp {o:Oper} {c:Call} (ho:o.op=.call c) (hc:c.callee=.builtin .append) {p:Prop} {v:AV} {s1:St} (h:(l7 E o s).get=some (p,v,s1)):E0 E o s p v:=by
 have cR:∀ x∈c.args.toList,x∈o.op.operands.toList:=λ x hx=>by rw [ho]; exact xm hx
 have hT:j9 E o s=(s.J3 c.args.toList).G9:=by unfold j9; rw [ho]; simp only [hc]
 have key:(∃ x y T F,(F=wx E T\/F=wU E T)/\c.args.toList=[x,y]/\(∀ t,t.ev x=s.ev x->t.ev y=s.ev y->l7 E o t=F (t.ev x) (t.ev y) o.dst t))\/(∃ x y T,c.args.toList=[x,y]/\(∀ t,t.ev x=s.ev x->t.ev y=s.ev y->l7 E o t=wz E T (t.ev x) (t.ev y) t))\/(∃ x y T,c.args.toList=[x,y]/\∀ t,l7 E o t=zG E T (t.ev x) (t.ev y) o.dst t):=by
  unfold l7 at h;rw [ho] at h;simp only [hc] at h;split at h
  ·rename_i x y T U aD fI
   split at h
   ·rename_i hU
    cases jh:(s.ev x).Lx (s.ev y) with
    | true=>exact .inr (.inl ⟨x,y,T,aD,λ t e1 e2=>by unfold l7; rw [ho]; simp only [hc,aD,fI,hU]; rw [e1,e2,jh]⟩)
    | false=>exact .inl ⟨x,y,T,_,.inr rfl,aD,λ t e1 e2=>by unfold l7; rw [ho]; simp only [hc,aD,fI,hU]; rw [e1,e2,jh]⟩
   ·rename_i hU
    exact .inl ⟨x,y,T,_,.inl rfl,aD,λ t _ _=>by unfold l7; rw [ho]; simp only [hc,aD,fI,hU]⟩
   ·rename_i hU
    exact .inr (.inr ⟨x,y,T,aD,λ t=>by unfold l7; rw [ho]; simp only [hc,aD,fI,hU]⟩)
   ·cases h
  ·cases h
 rcases key with key|⟨x,y,T,aD,he⟩|⟨x,y,T,aD,he⟩
 rotate_left
 ·have eG:x∈o.op.operands.toList:=cR x (by rw [aD]; simp)
  have gJ:y∈o.op.operands.toList:=cR y (by rw [aD]; simp);rw [he s rfl rfl] at h;have hI:=b8c h;simp only at hI;obtain ⟨i,lo,hi,q,t0,bts,u,m,l,hx,qg,cu,aS,hf,bD,rfl,rfl⟩:=Sw hI;obtain ⟨ow,e',fy⟩:=Jm hf;have hm:(s.ev x).i7 i=true:=by rw [hx]; simp [AV.i7]
  refine E0.LK (i:=i) (ow:=ow) (e':=e') (by rw [hT,I1,aD]; simp [St.J3,AV.i7,hm]) (λ j hj=>⟨x,eG,by rw [hx]; exact hj⟩) (λ t ha=>?_);rw [he t (ha x eG).1 (ha y gJ).1,(ha x eG).1,(ha y gJ).1,hx];have oW:t.obj i=some (.own (.d0 true u) l):=((ha x eG).2 i hm).trans aS;unfold wz;simp only [qg,(HG (u:=t0) (ha y gJ).2).trans cu,oW,fy t ((ha x eG).2 i hm),bD,decide_true];rfl
 ·have h0:=h
  rw [he] at h;have eG:x∈o.op.operands.toList:=cR x (by rw [aD]; simp);have gJ:y∈o.op.operands.toList:=cR y (by rw [aD]; simp);unfold zG at h;split at h
  ·rename_i t0 bts d k n qg ke oy ov
   obtain rfl:=AR h (λ _ _ _=>wB);refine E0.lay ke (g:=[]) (u:=.d0 true t0) (x:=List.replicate n.toNat t0.r9) (W:=OR.f7 (0<=n/\n<=140737488355328/\n*(t0.wb:Nat)<=140737488355328)) (λ _ _=>rfl) (λ _=>rfl) (by simp) h0 (λ t ha=>?_);rw [he,(ha x eG).1,(ha y gJ).1];unfold zG;simp only [qg,ke,oy,ov]
  ·cases h
 obtain ⟨x,y,T,F,hF,aD,he⟩:=key;have h0:=h;rw [he s rfl rfl] at h;have gW:∃ d g u l,o.dst=some d/\(∀ j∈g,(s.ev x).i7 j=true\/(s.ev y).i7 j=true)/\∀ t,Alike s t (s.ev x)->Alike s t (s.ev y)->F (s.ev x) (s.ev y) o.dst t=(St.lay t d g u l).f7 p:=by
  rcases hF with rfl|rfl
  ·exact Sv h
  ·exact XB h
 obtain ⟨d,g,u,l,hd,hg,k⟩:=gW;have eG:x∈o.op.operands.toList:=cR x (by rw [aD]; simp);have gJ:y∈o.op.operands.toList:=cR y (by rw [aD]; simp);refine E0.lay hd (g:=g) (u:=u) (x:=l) (W:=OR.f7 p) (λ _ _=>rfl) (λ _=>rfl) ?_ h0 (λ t ha=>?_)
 ·intro j hj
  rw [hT,I1,aD];rcases hg j hj with h|h<;>simp [St.J3,AV.i7,h]
 ·rw [he t (ha x eG).1 (ha y gJ).1,(ha x eG).1,(ha y gJ).1]
  exact k t (ha x eG).2 (ha y gJ).2
end
end Go.Ex
namespace Go.Ex
section
variable {E:Env} {s t:St}
theorem ag {o:Oper} {x:Operand} (h:X5 s t o.op.operands.toList) (hx:x∈o.op.operands.toList):t.ev x=s.ev x/\Alike s t (s.ev x):=⟨(h x hx).1,(h x hx).2⟩
theorem ob1 {i:Nat} {p:List Step} (h:Alike s t (.ptr i p)):t.obj i=s.obj i:=h i (by simp [AV.i7])
theorem ob2 {i:Nat} {p:List Step} (h:Alike s t (.at_ i p)):t.obj i=s.obj i:=h i (by simp [AV.i7])
theorem ob3 {i:Nat} {p:List Step} {a b:Int} (h:Alike s t (.sub i p a b)):t.obj i=s.obj i:=h i (by simp [AV.i7])
theorem b32 {o:Oper} {T:TypeId} {x:Operand} {n:Nat} (ho:o.op=.fieldAddr T x n) {p:Prop} {v:AV} {s1:St} (h:(l7 E o s).get=some (p,v,s1)):E0 E o s p v:=by
 have hx:x∈o.op.operands.toList:=by rw [ho]; simp [Op.operands]
 refine .ro h (λ t ha=>?_) (λ i hi=>⟨x,hx,?_⟩)
 ·obtain ⟨e1,e2⟩:=ag ha hx
  unfold l7;rw [ho];simp only [e1];cases hx:s.ev x with
  | ptr i q =>
   rw [hx] at e2;simp only [I9 (e2 i (by simp [AV.i7]))]
   repeat' (first|rfl|split)
  | val u z =>
   cases u with
   | box o0 g0 u0=>cases o0<;>cases g0<;>first|rfl|(dsimp only; repeat' (first|rfl|split))
   | _=>first|rfl|(dsimp only; repeat' (first|rfl|split))
  | _=>first|rfl|(dsimp only; split<;>rfl)
 ·unfold l7 at hi
  rw [ho] at hi;simp only at hi;cases hx:s.ev x with
  | ptr j q =>
   rw [hx] at hi;simp only at hi
   repeat' (split at hi)
   all_goals first|exact hi|(cases hi; done)
  | val u z =>
   rw [hx] at hi;exfalso;cases u with
   | box o0 g0 u0=>cases o0<;>cases g0<;>first|(cases hi; done)|(simp only at hi; repeat' (split at hi))<;>(cases hi)
   | _=>first|(cases hi; done)|(simp only at hi; repeat' (split at hi))<;>(cases hi)
  | _ =>
   rw [hx] at hi;simp only at hi
   repeat' (split at hi)
   all_goals first|exact hi|(cases hi; done)
theorem b31 {o:Oper} {T:TypeId} {x y:Operand} (ho:o.op=.indexAddr T x y) {p:Prop} {v:AV} {s1:St} (h:(l7 E o s).get=some (p,v,s1)):E0 E o s p v:=by
 have cR:x∈o.op.operands.toList:=by rw [ho]; simp [Op.operands]
 have lN:y∈o.op.operands.toList:=by rw [ho]; simp [Op.operands]
 refine .ro h (λ t ha=>?_) (λ i hi=>⟨x,cR,?_⟩)
 ·obtain ⟨e1,e2⟩:=ag ha cR
  have e3:=(ag ha lN).1;unfold l7;rw [ho];simp only [e1,e3]
  split
  ·rename_i hx _; rw [hx] at e2; (first|simp only [I9 (ob1 e2)]|simp only [I9 (ob2 e2)]) ; (generalize s.part _ _=pt; cases pt with|none=>rfl|some q=>(obtain ⟨u,z⟩:=q; cases u<;>first|rfl|(dsimp only; repeat' (first|rfl|split))|(rename_i o0 _; cases o0<;>first|rfl|(dsimp only; repeat' (first|rfl|split)))))
  ·repeat' (first|rfl|split)
  ·repeat' (first|rfl|split)
  ·rename_i hx _; rw [hx] at e2; (first|simp only [I9 (ob1 e2)]|simp only [I9 (ob2 e2)]) ; (generalize s.part _ _=pt; cases pt with|none=>rfl|some q=>(obtain ⟨u,z⟩:=q; cases u<;>first|rfl|(dsimp only; repeat' (first|rfl|split))|(rename_i o0 _; cases o0<;>first|rfl|(dsimp only; repeat' (first|rfl|split)))))
  ·rename_i hx _; rw [hx] at e2; simp only [DE (ob3 e2)] ; (generalize s.view _ _ _ _=pt; cases pt with|none=>rfl|some q=>(obtain ⟨u,z⟩:=q; dsimp only; repeat' (first|rfl|split)))
  ·rfl
 ·unfold l7 at hi
  rw [ho] at hi;simp only at hi;split at hi
  ·rename_i hx _; rw [hx]; repeat' (split at hi)
   all_goals first|exact hi|(cases hi; done)
  ·repeat' (split at hi)
   all_goals (cases hi; done)
  ·repeat' (split at hi)
   all_goals (cases hi; done)
  ·rename_i hx _; rw [hx]; repeat' (split at hi)
   all_goals first|exact hi|(cases hi; done)
  ·rename_i hx _; rw [hx]; repeat' (split at hi)
   all_goals first|exact hi|(cases hi; done)
  ·cases hi
theorem YN {o:Oper} {T:TypeId} {x y:Operand} (ho:o.op=.index T x y) {p:Prop} {v:AV} {s1:St} (h:(l7 E o s).get=some (p,v,s1)):E0 E o s p v:=by
 have cR:x∈o.op.operands.toList:=by rw [ho]; simp [Op.operands]
 have lN:y∈o.op.operands.toList:=by rw [ho]; simp [Op.operands]
 refine .ro h (λ t ha=>?_) (λ i hi=>⟨x,cR,?_⟩)
 ·obtain ⟨e1,e2⟩:=ag ha cR
  have e3:=(ag ha lN).1;unfold l7;rw [ho];simp only [e1,e3]
  split
  ·split<;>rfl
  ·split<;>rfl
  ·rename_i hx _; rw [hx] at e2; (first|simp only [I9 (ob1 e2)]|simp only [I9 (ob2 e2)]) ; (generalize s.part _ _=pt; cases pt with|none=>rfl|some q=>(obtain ⟨u,z⟩:=q; cases u<;>first|rfl|(dsimp only; repeat' (first|rfl|split))|(rename_i o0 _; cases o0<;>first|rfl|(dsimp only; repeat' (first|rfl|split)))))
  ·rfl
 ·unfold l7 at hi
  rw [ho] at hi;simp only at hi;split at hi
  ·repeat' (split at hi)
   all_goals (cases hi; done)
  ·repeat' (split at hi)
   all_goals (cases hi; done)
  ·rename_i hx _; rw [hx]; repeat' (split at hi)
   all_goals first|exact hi|(cases hi; done)
  ·cases hi
theorem YJ {o:Oper} {T:TypeId} {x:Operand} {n:Nat} (ho:o.op=.field T x n) {p:Prop} {v:AV} {s1:St} (h:(l7 E o s).get=some (p,v,s1)):E0 E o s p v:=by
 have cR:x∈o.op.operands.toList:=by rw [ho]; simp [Op.operands]
 refine .ro h (λ t ha=>?_) (λ i hi=>⟨x,cR,?_⟩)
 ·obtain ⟨e1,e2⟩:=ag ha cR
  unfold l7;rw [ho];simp only [e1]
  split
  ·split<;>rfl
  ·rename_i hx; rw [hx] at e2; (first|simp only [I9 (ob1 e2)]|simp only [I9 (ob2 e2)]) ; (generalize s.part _ _=pt; cases pt with|none=>rfl|some q=>(obtain ⟨u,z⟩:=q; cases u<;>first|rfl|(dsimp only; repeat' (first|rfl|split))|(rename_i o0 _; cases o0<;>first|rfl|(dsimp only; repeat' (first|rfl|split)))))
  ·rfl
 ·unfold l7 at hi
  rw [ho] at hi;simp only at hi;split at hi
  ·repeat' (split at hi)
   all_goals (cases hi; done)
  ·rename_i hx; rw [hx]; repeat' (split at hi)
   all_goals first|exact hi|(cases hi; done)
  ·cases hi
theorem VE {o:Oper} {c:Call} (ho:o.op=.call c) (hc:c.callee=.builtin .cap) {p:Prop} {v:AV} {s1:St} (h:(l7 E o s).get=some (p,v,s1)):E0 E o s p v:=by
 obtain ⟨x,T,ha,hT⟩:∃ x T,c.args.toList=[x]/\c.argTypes.toList=[T]:=by
  unfold l7 at h;rw [ho] at h;simp only [hc] at h;split at h
  ·exact ⟨_,_,by assumption,by assumption⟩
  ·cases h
 have ik:x∈o.op.operands.toList:=by rw [ho]; exact xm (by rw [ha]; simp)
 refine .ro h (λ t du=>?_) (λ i hi=>?_)
 ·obtain ⟨e1,e2⟩:=ag du ik
  unfold l7;rw [ho];simp only [hc,ha,hT,e1]
  repeat' (first|rfl|split)
 ·exfalso
  unfold l7 at hi;rw [ho] at hi;simp only [hc,ha,hT] at hi
  repeat' (split at hi)
  all_goals (cases hi)
theorem c0a {o:Oper} {T:TypeId} {x y:Operand} {ok:Bool} (ho:o.op=.lookup T x y ok) {p:Prop} {v:AV} {s1:St} (h:(l7 E o s).get=some (p,v,s1)):E0 E o s p v:=by
 unfold l7 at h; rw [ho] at h; cases h
theorem b7u {o:Oper} {T:TypeId} {r:Option Operand} (ho:o.op=.makeMap T r) {p:Prop} {v:AV} {s1:St} (h:(l7 E o s).get=some (p,v,s1)):E0 E o s p v:=by
 unfold l7 at h; rw [ho] at h; cases h
theorem Yy {o:Oper} {T:TypeId} {x:Operand} {lo hi mx:Option Operand} (ho:o.op=.slice T x lo hi mx) {p:Prop} {v:AV} {s1:St} (h:(l7 E o s).get=some (p,v,s1)):E0 E o s p v:=by
 have gS:∀ y,y=x\/lo=some y\/hi=some y\/mx=some y->y∈o.op.operands.toList:=by
  rw [ho];rintro y (rfl|rfl|rfl|rfl)<;>simp [Op.operands]
 have cR:x∈o.op.operands.toList:=gS x (.inl rfl);have he:∀ t,l7 E o t=xS E T (t.ev x) lo hi mx t:=λ t=>by unfold l7; rw [ho]
 refine .ro h (λ t ha=>?_) (λ i cV=>⟨x,cR,?_⟩)
 ·obtain ⟨e1,e2⟩:=ag ha cR
  rw [he,he,e1];have b1:∀ d,Z4 t d lo=Z4 s d lo:=λ d=>Hj (λ y hy=>(ag ha (gS y (.inr (.inl hy)))).1);have b2:∀ d,Z4 t d hi=Z4 s d hi:=λ d=>Hj (λ y hy=>(ag ha (gS y (.inr (.inr (.inl hy))))).1);have b3:∀ d,Z4 t d mx=Z4 s d mx:=λ d=>Hj (λ y hy=>(ag ha (gS y (.inr (.inr (.inr hy))))).1);unfold xS;simp only [b1,b2,b3]
  split
  ·rfl
  ·split
   ·repeat' (first|rfl|split)
   ·repeat' (first|rfl|split)
   ·repeat' (first|rfl|split)
   ·repeat' (first|rfl|split)
   ·rename_i hx; rw [hx] at e2; (first|simp only [I9 (ob1 e2)]|simp only [I9 (ob2 e2)]) ; (generalize s.part _ _=pt; cases pt with|none=>rfl|some q=>(obtain ⟨u,z⟩:=q; cases u<;>first|rfl|(dsimp only; repeat' (first|rfl|split))|(rename_i o0 _; cases o0<;>first|rfl|(dsimp only; repeat' (first|rfl|split)))))
   ·rename_i hx; rw [hx] at e2; simp only [I9 (ob3 e2)] ; (generalize s.part _ _=pt; cases pt with|none=>rfl|some q=>(obtain ⟨u,z⟩:=q; cases u<;>first|rfl|(dsimp only; repeat' (first|rfl|split))|(rename_i o0 _; cases o0<;>first|rfl|(dsimp only; repeat' (first|rfl|split)))))
   ·rename_i hx; rw [hx] at e2; (first|simp only [I9 (ob1 e2)]|simp only [I9 (ob2 e2)]) ; (generalize s.part _ _=pt; cases pt with|none=>rfl|some q=>(obtain ⟨u,z⟩:=q; cases u<;>first|rfl|(dsimp only; repeat' (first|rfl|split))|(rename_i o0 _; cases o0<;>first|rfl|(dsimp only; repeat' (first|rfl|split)))))
   ·rfl
 ·rw [he] at cV
  unfold xS at cV;split at cV
  ·cases cV
  ·split at cV
   ·repeat' (split at cV)
    all_goals (cases cV; done)
   ·repeat' (split at cV)
    all_goals (cases cV; done)
   ·repeat' (split at cV)
    all_goals (cases cV; done)
   ·repeat' (split at cV)
    all_goals (cases cV; done)
   ·rename_i hx; rw [hx]; repeat' (split at cV)
    all_goals first|exact cV|(cases cV; done)
   ·rename_i hx; rw [hx]; repeat' (split at cV)
    all_goals first|exact cV|(cases cV; done)
   ·rename_i hx; rw [hx]; repeat' (split at cV)
    all_goals first|exact cV|(cases cV; done)
   ·cases cV
theorem VT {o:Oper} {c:Call} (ho:o.op=.call c) (hc:c.callee=.builtin .len) {p:Prop} {v:AV} {s1:St} (h:(l7 E o s).get=some (p,v,s1)):E0 E o s p v:=by
 obtain ⟨x,T,ha,hT⟩:∃ x T,c.args.toList=[x]/\c.argTypes.toList=[T]:=by
  unfold l7 at h;rw [ho] at h;simp only [hc] at h;split at h
  ·exact ⟨_,_,by assumption,by assumption⟩
  ·cases h
 have ik:x∈o.op.operands.toList:=by rw [ho]; exact xm (by rw [ha]; simp)
 refine .ro h (λ t du=>?_) (λ i hi=>?_)
 ·obtain ⟨e1,e2⟩:=ag du ik
  unfold l7;rw [ho];simp only [hc,ha,hT,e1]
  split
  ·repeat' (first|rfl|split)
  ·repeat' (first|rfl|split)
  ·repeat' (first|rfl|split)
  ·repeat' (first|rfl|split)
  ·rename_i hx; rw [hx] at e2; (first|simp only [I9 (ob1 e2)]|simp only [I9 (ob2 e2)]) ; (generalize s.part _ _=pt; cases pt with|none=>rfl|some q=>(obtain ⟨u,z⟩:=q; cases u<;>first|rfl|(dsimp only; repeat' (first|rfl|split))|(rename_i o0 _; cases o0<;>first|rfl|(dsimp only; repeat' (first|rfl|split)))|(rename_i o0 _ _; cases o0<;>first|rfl|(dsimp only; repeat' (first|rfl|split)))))
  ·rename_i hx; rw [hx] at e2; simp only [DE (ob3 e2)] ; (generalize s.view _ _ _ _=pt; cases pt with|none=>rfl|some q=>(obtain ⟨u,z⟩:=q; dsimp only; repeat' (first|rfl|split)))
  ·repeat' (first|rfl|split)
  ·rfl
 ·exfalso
  unfold l7 at hi;rw [ho] at hi;simp only [hc,ha,hT] at hi
  repeat' (split at hi)
  all_goals (cases hi)
theorem ON {k:IntKind} {f:Int->Int->Int}:∀ {l:List Operand} {n:Int},(∀ x∈l,t.ev x=s.ev x)->foldI t k f n l=(foldI s k f n l).wC t
 | [],n,_=>rfl
 | x::l,n,h=>by
  simp only [foldI,h x (by simp)]
  split
  ·split
   ·exact ON (λ y hy=>h y (by simp [hy]))
   ·rfl
  ·rfl
theorem JL {k:IntKind} {f:Int->Int->Int} {i:Nat}:∀ {l:List Operand} {n:Int},(foldI s k f n l).av.i7 i=true->False
 | [],n,h=>by cases h
 | x::l,n,h=>by
  simp only [foldI] at h;split at h
  ·split at h
   ·exact JL h
   ·cases h
  ·cases h
theorem Rm {o:Oper} {c:Call} (ho:o.op=.call c) (hc:c.callee=.builtin .max\/c.callee=.builtin .min) {p:Prop} {v:AV} {s1:St} (h:(l7 E o s).get=some (p,v,s1)):E0 E o s p v:=by
 have cR:∀ x∈c.args.toList,x∈o.op.operands.toList:=λ x hx=>by rw [ho]; exact xm hx
 refine .ro h (λ t du=>?_) (λ i hi=>?_)
 ·unfold l7
  rw [ho];rcases hc with hc|hc <;>
  ·simp only [hc]
   split
   ·rename_i x l ha
    rw [(du x (cR x (by rw [ha]; simp))).1]
    split
    ·exact ON (λ y hy=>(du y (cR y (by rw [ha]; simp [hy]))).1)
    ·rfl
   ·rfl
 ·exfalso
  unfold l7 at hi;rw [ho] at hi;rcases hc with hc|hc
  ·simp only [hc] at hi
   split at hi
   ·split at hi
    ·exact JL hi
    ·cases hi
   ·cases hi
  ·simp only [hc] at hi
   split at hi
   ·split at hi
    ·exact JL hi
    ·cases hi
   ·cases hi
theorem XJ {o:Oper} {T:TypeId} {parts:Array (Nat×Operand)} (ho:o.op=.build T parts) {p:Prop} {v:AV} {s1:St} (h:(l7 E o s).get=some (p,v,s1)):E0 E o s p v:=by
 have eU:∀ t,X5 s t o.op.operands.toList->∀ q∈parts.toList,t.ev q.2=s.ev q.2/\Alike s t (s.ev q.2):=λ t ha q hq=>ag ha (by rw [ho]; simp only [Op.operands]; simpa using ⟨q.1,by simpa using hq⟩);have key:∃ t0 r g,look T E.tt=some t0/\(t0.ty.agg && parts.toList.all (λ q=>wu t0.ty q.1))=true/\R8 s ⟨t0.ty,t0.ty.r9⟩ parts.toList=some (r,g):=by
  unfold l7 at h; rw [ho] at h;simp only at h;split at h
  ·split at h
   ·split at h
    ·exact ⟨_,_,_,by assumption,by assumption,by assumption⟩
    ·exact ⟨_,_,_,by assumption,by assumption,by assumption⟩
    ·cases h
   ·cases h
  ·cases h
 obtain ⟨t0,⟨u,y⟩,g,h1,h2,h3⟩:=key;have hb:∀ t,X5 s t o.op.operands.toList->R8 t ⟨t0.ty,t0.ty.r9⟩ parts.toList=some (⟨u,y⟩,g):=λ t ha=>(Ea (s:=s) (t:=t) (eU t ha)).trans h3;cases g with
 | nil =>
  have he:∀ t,X5 s t o.op.operands.toList->l7 E o t=.ok (.val u y) t:=λ t ha=>by unfold l7; rw [ho]; simp only [h1,h2,hb t ha]
  refine .ro h (λ t ha=>?_) (λ i hi=>?_)
  ·rw [he t ha,he s (.refl _ _)]; rfl
  ·rw [he s (.refl _ _)] at hi; cases hi
 | cons g0 g =>
  cases hd:o.dst with
  | none =>
   exfalso;unfold l7 at h; rw [ho] at h;simp only [h1,h2,h3,hd] at h;cases h
  | some d =>
   refine E0.lay hd (g:=g0::g) (u:=u) (x:=y) (W:=λ r=>r) (p:=p) (v:=v) (s1:=s1) ?_ (λ _=>rfl) ?_ h (λ t ha=>by unfold l7; rw [ho]; simp only [h1,h2,hb t ha,hd])
   ·have hp:p=True:=by
     unfold l7 at h; rw [ho] at h;simp only [h1,h2,h3,hd] at h;cases hl:s.lay d (g0::g) u y<;>rw [hl] at h
     ·cases h
     ·cases h; rfl
     ·exact absurd hl wB
    intro v s; rw [hp]; rfl
   ·intro i hi
    obtain ⟨q,hq,hm⟩:=EF h3 i hi;unfold j9;rw [ho];exact I1.2 (It (List.mem_map.2 ⟨q,hq,rfl⟩) hm)
theorem b2e {o:Oper} {T:TypeId} {n:Nat} {parts:Array (Nat×Operand)} (ho:o.op=.buildSlice T n parts) {p:Prop} {v:AV} {s1:St} (h:(l7 E o s).get=some (p,v,s1)):E0 E o s p v:=by
 have eU:∀ t,X5 s t o.op.operands.toList->∀ q∈parts.toList,t.ev q.2=s.ev q.2/\Alike s t (s.ev q.2):=λ t ha q hq=>ag ha (by rw [ho]; simp only [Op.operands]; simpa using ⟨q.1,by simpa using hq⟩);have key:∃ t0 b d m t' l g,look T E.tt=some ⟨.d0 true t0,b⟩/\o.dst=some d/\(s.fresh d && parts.toList.all (λ q=>Nat.blt q.1 n) && Nat.ble (n*t0.size) 16777216)=true/\yZ s n t0 parts.toList=some (⟨.arr m t',l⟩,g):=by
  unfold l7 at h; rw [ho] at h;simp only at h;split at h
  ·split at h
   ·split at h
    ·exact ⟨_,_,_,_,_,_,_,by assumption,by assumption,by assumption,by assumption⟩
    ·cases h
   ·cases h
  ·cases h
 obtain ⟨t0,b,d,m,t',l,g,h1,h2,h4,h5⟩:=key;have hb:∀ t,X5 s t o.op.operands.toList->yZ t n t0 parts.toList=some (⟨.arr m t',l⟩,g):=λ t ha=>by
  rw [<- h5]; unfold yZ; rw [Ea (s:=s) (t:=t) (eU t ha),Ea (s:=s) (t:=t) (eU t ha)]
 obtain ⟨t9,_,h9⟩:=OV h5;have he:∀ t,X5 s t o.op.operands.toList->t.fresh d=true->l7 E o t=t.lay d g (.d0 true t') l:=λ t ha hf=>by
  simp only [Bool.and_eq_true] at h4;unfold l7; rw [ho]; simp only [h1,h2,hf,h4.1.2,h4.2,hb t ha,Bool.and_self]
 have hf:s.fresh d=true:=by simp only [Bool.and_eq_true] at h4; exact h4.1.1
 have iW:∀ i∈g,i∈j9 E o s:=by
  intro i hi;obtain ⟨q,hq,hm⟩:=EF h9 i hi;unfold j9;rw [ho];exact I1.2 (It (List.mem_map.2 ⟨q,hq,rfl⟩) hm)
 rw [he s (.refl _ _) hf] at h;cases hl:s.lay d g (.d0 true t') l with
 | fail y=>rw [hl] at h; cases h
 | F0 q v s'=>exact absurd hl wB
 | ok v' s' =>
  rw [hl] at h;cases h;obtain ⟨k1,rfl,rfl,k4⟩:=Nj hl;exact E0.obj h2 (e:=.own (.d0 true t') l) (g:=g) (λ i hi=>by simpa [AV.i7] using hi) k1 iW (λ t ha hu hf=>by rw [he t ha hf,Mr hf k4]; rfl)
theorem VB {o:Oper} {T:TypeId} {x:Operand} (ho:o.op=.box T x) {p:Prop} {v:AV} {s1:St} (h:(l7 E o s).get=some (p,v,s1)):E0 E o s p v:=by
 have cR:x∈o.op.operands.toList:=by rw [ho]; simp [Op.operands]
 have hT:j9 E o s=(s.ev x).G9:=by unfold j9; rw [ho]
 have key:∃ t0 d,look T E.tt=some t0/\o.dst=some d/\s.fresh d=true:=by
  unfold l7 at h; rw [ho] at h;simp only at h;split at h
  ·split at h
   ·exact ⟨_,_,by assumption,by assumption,by assumption⟩
   ·cases h
  ·cases h
 obtain ⟨t0,d,h1,h2,h3⟩:=key;have he:∀ t,t.fresh d=true->l7 E o t=(match (t.ev x).vm t with
    | some (⟨u,y⟩,g)=>if u.R4.sh=t0.ty.R4.sh then (match wt g && !g.contains d && g.all λ i=>!pinned i with
     | true=>.ok (.ptr d []) ((St.w6 g t).w4 d (.var u y))
     | false=>.fail "box: objects") else .fail "box: value"
    | none=>(match t.ev x,t0.ty with
     | .raw (.slice none 0 0),.d0 o u=>.ok (.ptr d []) (t.w4 d (.var (.d0 o u) ([]:List u.den)))
     | .ptr i p,.box _ none _=>.ok (.bx (.ptr i p)) t
     | _,_=>.fail "box: what")):=λ t ht=>by unfold l7; rw [ho]; simp only [h1,h2,ht]; rfl
 rw [he s h3] at h;split at h
 ·rename_i u y g cT
  split at h
  ·rename_i cj
   split at h
   ·rename_i hc
    cases h;refine E0.obj h2 (e:=.var u y) (g:=g) (λ i hi=>by simpa [AV.i7] using hi) h3 (λ i hi=>by rw [hT]; exact I1.2 (Eo cT i hi)) (λ t ha hu hf=>?_);obtain ⟨e1,e2⟩:=ag ha cR;rw [he t hf,e1];simp only [(yN e2).trans cT,cj,if_true,hc];rfl
   ·cases h
  ·cases h
 ·rename_i cT
  split at h
  ·rename_i o' u hx kv
   cases h;refine E0.obj h2 (e:=.var (.d0 o' u) ([]:List u.den)) (g:=[]) (λ i hi=>by simpa [AV.i7] using hi) h3 (by simp) (λ t ha hu hf=>?_);obtain ⟨e1,e2⟩:=ag ha cR;have fk:=(yN e2).trans cT;rw [hx] at e1 fk;rw [he t hf,e1];simp only [fk,kv];rfl
  ·rename_i i q o0 u0 hx kv
   cases h;refine ⟨[d],λ u=>u,λ j=>if j=d then none else look j s.hp,Trim.id _,QE h3,by simp [h2],λ j hj=>.inl ⟨x,cR,by rw [hx]; exact hj⟩,λ t hu ha hn=>?_⟩;have hf:=OO hu hn;obtain ⟨e1,e2⟩:=ag ha cR;have fk:=(yN e2).trans cT;rw [hx] at e1 fk;refine ⟨t,?_,hu,⟨λ n=>by simp,λ j=>?_⟩⟩
   ·rw [he t hf,e1]; simp only [fk,kv]; rfl
   ·by_cases hj:j=d
    ·subst hj
     rw [if_pos (.inr (by simp)),if_pos rfl];exact (hn j (by simp)).1
    ·by_cases iV:j∈j9 E o s
     ·rw [if_pos (.inl iV),if_neg hj]; exact zY ha iV
     ·rw [if_neg (by simp [iV,hj])]
  ·cases h
theorem b7L {o:Oper} {T' T:TypeId} {x:Operand} (ho:o.op=.convert T' T x) {p:Prop} {v:AV} {s1:St} (h:(l7 E o s).get=some (p,v,s1)):E0 E o s p v:=by
 have cR:x∈o.op.operands.toList:=by rw [ho]; simp [Op.operands]
 by_cases hs:(∃ y,s.ev x=.val .str y)/\(∃ b,look T' E.tt=some ⟨.str,b⟩)/\(∃ b,look T E.tt=some ⟨.d0 true (.int .u8),b⟩)
 ·obtain ⟨⟨y,hy⟩,⟨b,hb⟩,⟨b',cU⟩⟩:=hs
  cases hd:o.dst with
  | none =>
   exfalso;unfold l7 at h; rw [ho] at h;simp only [hy,hb,cU,hd] at h;cases h
  | some d =>
   have he:∀ t,t.ev x=s.ev x->l7 E o t=t.lay d [] (.d0 true (.int .u8)) (List.map (λ b:UInt8=>(b.toNat:Int)) y:List Int):=λ t ht=>by
    unfold l7; rw [ho]; simp only [ht,hy,hb,cU,hd]
   have hp:p=True:=by
    rw [he s rfl] at h;cases hl:s.lay d [] (.d0 true (.int .u8)) (List.map (λ b:UInt8=>(b.toNat:Int)) y:List Int)<;>rw [hl] at h
    ·cases h
    ·cases h; rfl
    ·exact absurd hl wB
   exact E0.lay hd (g:=[]) (W:=λ r=>r) (λ v s=>by rw [hp]; rfl) (λ _=>rfl) (by simp) h (λ t ha=>he t (ag ha cR).1)
 ·refine .ro h (λ t ha=>?_) (λ i hi=>?_)
  ·obtain ⟨e1,e2⟩:=ag ha cR
   unfold l7; rw [ho]; simp only [e1]
   split
   ·rfl
   ·rename_i hx oE oD
    exact absurd ⟨⟨_,hx⟩,⟨_,oE⟩,⟨_,oD⟩⟩ hs
   ·rw [Hf e2]
    repeat' (first|rfl|split)
   ·rfl
  ·exfalso
   unfold l7 at hi; rw [ho] at hi;simp only at hi;split at hi
   ·cases hi
   ·rename_i hx oE oD
    exact absurd ⟨⟨_,hx⟩,⟨_,oE⟩,⟨_,oD⟩⟩ hs
   ·repeat' (split at hi)
    all_goals (cases hi)
   ·cases hi
theorem b3Y {o:Oper} {T:TypeId} {x y:Operand} (ho:o.op=.makeSlice T x y) {p:Prop} {v:AV} {s1:St} (h:(l7 E o s).get=some (p,v,s1)):E0 E o s p v:=by
 have cR:x∈o.op.operands.toList:=by rw [ho]; simp [Op.operands]
 have lN:y∈o.op.operands.toList:=by rw [ho]; simp [Op.operands]
 have key:∃ t0 b d k n k' m,look T E.tt=some ⟨.d0 true t0,b⟩/\o.dst=some d/\s.ev x=.val (.int k) n/\s.ev y=.val (.int k') m/\E.rs.any Ty.FV=false:=by
  unfold l7 at h; rw [ho] at h;simp only at h;split at h
  ·cases h
  ·rename_i so
   split at h
   ·exact ⟨_,_,_,_,_,_,_,by assumption,by assumption,by assumption,by assumption,so⟩
   ·cases h
 obtain ⟨t0,b,d,k,n,k',m,h1,h2,h3,h4,pg⟩:=key;have he:∀ t,t.ev x=s.ev x->t.ev y=s.ev y->l7 E o t=(t.lay d [] (.d0 true t0) (List.replicate (Int.toNat n) t0.r9)).f7 (@LE.le Int Int.instLEInt 0 n/\@LE.le Int Int.instLEInt n m/\@LE.le Int Int.instLEInt m 140737488355328/\@LE.le Int Int.instLEInt (@HMul.hMul Int Int Int _ m (t0.wb:Nat)) 140737488355328):=λ t e1 e2=>by
  unfold l7; rw [ho]; simp only [e1,e2,pg,h1,h2,h3,h4]
 have h0:=h;rw [he s rfl rfl] at h;obtain rfl:=AR h (λ _ _ _=>wB);exact E0.lay h2 (g:=[]) (W:=OR.f7 _) (λ _ _=>rfl) (λ _=>rfl) (by simp) h0 (λ t ha=>he t (ag ha cR).1 (ag ha lN).1)
theorem Ng {v:AV} (h:Alike s t v):v.vR t=v.vR s:=by
 unfold AV.vR
 split
 ·rw [I9 (ob2 h)]
 ·rw [I9 (ob3 h)]
 ·rfl
theorem Qz {v:AV} {i:Nat} {p:List Step} {lo hi:Int} (h:v.vR s=some (i,p,lo,hi)):v.i7 i=true:=by
 unfold AV.vR at h;split at h
 ·split at h
  ·cases h; simp [AV.i7]
  ·cases h
 ·split at h
  ·cases h; simp [AV.i7]
  ·cases h
 ·cases h
theorem Xi {o:Oper} {c:Call} (ho:o.op=.call c) (hc:c.callee=.builtin .copy) {p:Prop} {v:AV} {s1:St} (h:(l7 E o s).get=some (p,v,s1)):E0 E o s p v:=by
 have cR:∀ x∈c.args.toList,x∈o.op.operands.toList:=λ x hx=>by rw [ho]; exact xm hx
 have hT:j9 E o s=(s.J3 c.args.toList).G9:=by unfold j9; rw [ho]; simp only [hc]
 have key:∃ x y T,c.args.toList=[x,y]/\∀ t,l7 E o t=zn E T (t.ev x) (t.ev y) t:=by
  unfold l7 at h;rw [ho] at h;simp only [hc] at h;split at h
  ·rename_i x y T U aD fI
   exact ⟨x,y,T,aD,λ t=>by unfold l7; rw [ho]; simp only [hc,aD,fI]⟩
  ·cases h
 obtain ⟨x,y,T,aD,he⟩:=key;rw [he] at h;have eG:x∈o.op.operands.toList:=cR x (by rw [aD]; simp);have gJ:y∈o.op.operands.toList:=cR y (by rw [aD]; simp);unfold zn at h;split at h
 ·rename_i i q lo hi u m hd fm
  split at h
  ·rename_i s' hf bD
   simp only [OR.get,Option.some.injEq,Prod.mk.injEq] at h;obtain ⟨rfl,rfl,_⟩:=h;obtain ⟨ow,e',fy⟩:=Jm hf;have hm:=Qz hd;refine E0.fill (i:=i) (ow:=ow) (e':=e') (by rw [hT,I1,aD]; simp [St.J3,AV.i7,hm]) (λ _=>rfl) (λ t ha=>?_);rw [he,(ha x eG).1,(ha y gJ).1];unfold zn;rw [Ng (ha x eG).2,Hf (ha y gJ).2,hd,fm];simp only [fy t ((ha x eG).2 i hm),bD];rfl
  ·cases h
 ·cases h
theorem XO {o:Oper} {c:Call} (ho:o.op=.call c) (hc:c.callee=.builtin .clear) {p:Prop} {v:AV} {s1:St} (h:(l7 E o s).get=some (p,v,s1)):E0 E o s p v:=by
 have cR:∀ x∈c.args.toList,x∈o.op.operands.toList:=λ x hx=>by rw [ho]; exact xm hx
 have hT:j9 E o s=(s.J3 c.args.toList).G9:=by unfold j9; rw [ho]; simp only [hc]
 have key:∃ x T,c.args.toList=[x]/\∀ t,l7 E o t=zE E T (t.ev x) t:=by
  unfold l7 at h;rw [ho] at h;simp only [hc] at h;split at h
  ·rename_i x T aD fI
   exact ⟨x,T,aD,λ t=>by unfold l7; rw [ho]; simp only [hc,aD,fI]⟩
  ·cases h
 obtain ⟨x,T,aD,he⟩:=key;rw [he] at h;have eG:x∈o.op.operands.toList:=cR x (by rw [aD]; simp);unfold zE at h;split at h
 ·rename_i i q lo hi b u bts hd dm
  split at h
  ·rename_i s' hf
   simp only [OR.get,Option.some.injEq,Prod.mk.injEq] at h;obtain ⟨rfl,rfl,_⟩:=h;obtain ⟨ow,e',fy⟩:=Jm hf;have hm:=Qz hd;refine E0.fill (i:=i) (ow:=ow) (e':=e') (by rw [hT,I1,aD]; simp [St.J3,AV.i7,hm]) (λ _=>rfl) (λ t ha=>?_);rw [he,(ha x eG).1];unfold zE;rw [Ng (ha x eG).2,hd,dm];simp only [fy t ((ha x eG).2 i hm)];rfl
  ·cases h
 ·cases h
theorem b9E {o:Oper} {T:TypeId} {m x y:Operand} (ho:o.op=.mapUpdate T m x y) {p:Prop} {v:AV} {s1:St} (h:(l7 E o s).get=some (p,v,s1)):E0 E o s p v:=by
 unfold l7 at h; rw [ho] at h; cases h
theorem Wf {o:Oper} (iw:∀ a b c,o.op≠.pick a b c) {p:Prop} {v:AV} {s1:St} (h:(l7 E o s).get=some (p,v,s1)):E0 E o s p v:=by
 have dv:∀ x,x∈o.op.operands.toList↔x∈o.op.operands.toList:=λ _=>Iff.rfl;cases ho:o.op with
 | move x =>
  have hx:x∈o.op.operands.toList:=by rw [ho]; simp [Op.operands]
  refine .ro h (λ t ha=>?_) (λ i hi=>⟨x,hx,?_⟩)
  ·unfold l7; rw [ho]; simp only [(ag ha hx).1]; rfl
  ·unfold l7 at hi; rw [ho] at hi; exact hi
 | assign x =>
  have hx:x∈o.op.operands.toList:=by rw [ho]; simp [Op.operands]
  refine .ro h (λ t ha=>?_) (λ i hi=>⟨x,hx,?_⟩)
  ·unfold l7; rw [ho]; simp only [(ag ha hx).1]; rfl
  ·unfold l7 at hi; rw [ho] at hi; exact hi
 | load T x =>
  have hx:x∈o.op.operands.toList:=by rw [ho]; simp [Op.operands]
  have hl:∀ t,l7 E o t=X2 E T (t.ev x) t:=λ t=>by unfold l7; rw [ho]
  refine .ro h (λ t ha=>?_) (λ i hi=>⟨x,hx,?_⟩)
  ·obtain ⟨e1,e2⟩:=ag ha hx
   rw [hl,hl,e1]; exact WK e2
  ·rw [hl] at hi; exact c0d hi
 | nilCheck x =>
  have hx:x∈o.op.operands.toList:=by rw [ho]; simp [Op.operands]
  refine .ro h (λ t ha=>?_) (λ i hi=>⟨x,hx,?_⟩)
  ·unfold l7; rw [ho]; simp only [(ag ha hx).1]; split<;>rfl
  ·unfold l7 at hi; rw [ho] at hi
   simp only at hi;split at hi<;>first|(cases hi; done)|(rename_i e; rw [e]; exact hi)
 | binOp op T x y T' =>
  have hx:x∈o.op.operands.toList:=by rw [ho]; simp [Op.operands]
  have hy:y∈o.op.operands.toList:=by rw [ho]; simp [Op.operands]
  have hl:∀ t,l7 E o t=wh E T op (t.ev x) (t.ev y) t:=λ t=>by unfold l7; rw [ho]
  refine .ro h (λ t ha=>?_) (λ i hi=>?_)
  ·rw [hl,hl,(ag ha hx).1,(ag ha hy).1]; exact Vw ..
  ·exfalso
   rw [hl] at hi;unfold wh zh xE eqA wW wV yo arith at hi
   repeat' (split at hi)
   all_goals (cases hi)
 | unOp op T x =>
  have hx:x∈o.op.operands.toList:=by rw [ho]; simp [Op.operands]
  have hl:∀ t,l7 E o t=unA op (t.ev x) t:=λ t=>by unfold l7; rw [ho]
  refine .ro h (λ t ha=>?_) (λ i hi=>?_)
  ·rw [hl,hl,(ag ha hx).1]; exact Ua ..
  ·exfalso
   rw [hl] at hi;unfold unA arith at hi
   repeat' (split at hi)
   all_goals (cases hi)
 | convert T' T x=>exact b7L ho h
 | fieldAddr T x n=>exact b32 ho h
 | indexAddr T x y=>exact b31 ho h
 | index T x y=>exact YN ho h
 | field T x n=>exact YJ ho h
 | slice T x lo hi mx=>exact Yy ho h
 | makeSlice T x y=>exact b3Y ho h
 | build T parts=>exact XJ ho h
 | buildSlice T n parts=>exact b2e ho h
 | makeMap T r=>exact b7u ho h
 | lookup T x y ok=>exact c0a ho h
 | mapUpdate T m x y=>exact b9E ho h
 | box T x=>exact VB ho h
 | store T a x=>exact Yz ho h
 | extract x n =>
  have hx:x∈o.op.operands.toList:=by rw [ho]; simp [Op.operands]
  refine .ro h (λ t ha=>?_) (λ i hi=>⟨x,hx,?_⟩)
  ·unfold l7; rw [ho]; simp only [(ag ha hx).1]
   split
   ·split<;>rfl
   ·rfl
  ·unfold l7 at hi; rw [ho] at hi
   simp only at hi;split at hi
   ·rename_i l e
    split at hi
    ·rename_i v hv
     rw [e]; show l.i7 i=true; exact Iv hv hi
    ·cases hi
   ·cases hi
 | makeFunc fn first caps =>
  have ed:∀ x∈caps.toList,x∈o.op.operands.toList:=λ x hx=>by rw [ho]; simp only [Op.operands]; simp at hx ⊢; exact .inr hx
  have cF:∀ t,X5 s t o.op.operands.toList->t.J3 caps.toList=s.J3 caps.toList:=λ t ha=>zw (λ x hx=>(ag ha (ed x hx)).1);refine .ro h (λ t ha=>?_) (λ i hi=>?_)
  ·unfold l7; rw [ho]
   cases fn with
   | func f=>simp only [cF t ha]; split<;>rfl
   | _=>rfl
  ·unfold l7 at hi; rw [ho] at hi
   cases fn with
   | func f =>
    simp only at hi;split at hi
    ·obtain ⟨x,hx,hi⟩:=Z0 (s:=s) (i:=i) (xs:=caps.toList) hi
     exact ⟨x,ed x hx,hi⟩
    ·cases hi
   | _=>cases hi
 | alloc T =>
  have key:∃ t0 d,look T E.tt=some t0/\o.dst=some d/\s.fresh d=true:=by
   unfold l7 at h; rw [ho] at h;simp only at h;split at h
   ·split at h
    ·exact ⟨_,_,by assumption,by assumption,by assumption⟩
    ·cases h
   ·cases h
  obtain ⟨t0,d,h1,h2,h3⟩:=key;have he:∀ t,t.fresh d=true->l7 E o t=.ok (.ptr d []) (t.w4 d (.var t0.ty t0.ty.r9)):=λ t ht=>by unfold l7; rw [ho]; simp only [h1,h2,ht]
  rw [he s h3] at h;simp only [OR.get,Option.some.injEq,Prod.mk.injEq] at h;obtain ⟨rfl,rfl,rfl⟩:=h;exact .obj h2 (g:=[]) (λ i hi=>by simpa [AV.i7] using hi) h3 (by simp) (λ t _ _ ht=>by rw [he t ht]; rfl)
 | call c =>
  cases hc:c.callee with
  | value f=>exact Xf ho hc h
  | builtin b =>
   cases b<;>first
    | (exact VT ho hc h)
    | (exact VE ho hc h)
    | (exact Zp ho hc h)
    | (exact Xi ho hc h)
    | (exact XO ho hc h)
    | (exact Rm ho (.inl hc) h)
    | (exact Rm ho (.inr hc) h)
    | (exfalso; unfold l7 at h; rw [ho] at h; simp only [hc] at h; cases h)
  | _=>exfalso; unfold l7 at h; rw [ho] at h; simp only [hc] at h; cases h
 | pick a b c=>exact absurd ho (iw a b c)
 | _=>exfalso; unfold l7 at h; rw [ho] at h; cases h
end
end Go.Ex
namespace Go.Ex
def L7 (s t:St):Prop:=(∀ n,look n s.fr=look n t.fr)/\(∀ i,look i s.hp=look i t.hp)
theorem L7.refl (s:St):L7 s s:=⟨λ _=>rfl,λ _=>rfl⟩
theorem L7.symm {s t:St} (h:L7 s t):L7 t s:=⟨λ n=>(h.1 n).symm,λ n=>(h.2 n).symm⟩
theorem L7.trans {s t u:St} (h:L7 s t) (k:L7 t u):L7 s u:=⟨λ n=>(h.1 n).trans (k.1 n),λ n=>(h.2 n).trans (k.2 n)⟩
theorem V9 {m:Nat} {s:St} {d:Option Nat} {v:AV}:look m (s.put d v).fr=if d=some m then some v else look m s.fr:=by
 cases d with
 | none=>simp [St.put]
 | some d =>
  simp only [St.put,o5,Option.some.injEq];by_cases e:m=d
  ·subst e; simp
  ·rw [if_neg e,if_neg (λ h=>e h.symm)]
theorem wA {s:St} {d:Option Nat} {v:AV}:(s.put d v).hp=s.hp:=by cases d<;>rfl
theorem yP {s:St} {d:Option Nat} {v:AV} (h:uniq s.fr):uniq (s.put d v).fr:=by
 cases d with
 | none=>exact h
 | some d=>exact Pr _ _ h
theorem L7.put {s t:St} (h:L7 s t) (d:Option Nat) (v:AV):L7 (s.put d v) (t.put d v) :=
 ⟨λ n=>by rw [V9,V9,h.1 n],λ i=>by rw [wA,wA,h.2 i]⟩
theorem L7.get {s t:St} (h:L7 s t) (m:Nat):s.get m=t.get m:=by simp only [St.get,h.1 m]
theorem L7.ev {s t:St} (h:L7 s t) (x:Operand):s.ev x=t.ev x:=by cases x<;>first|exact yL (h.get _)|rfl
theorem R9.eqv {s t:St} (h:L7 s t) {ids:List Nat} (hf:R9 s ids):R9 t ids :=
 λ n hn=>⟨(h.2 n).symm.trans (hf n hn).1,λ m v hv=>(hf n hn).2 m v ((h.1 m).trans hv)⟩
def AO (s t:St) (L:List Nat):Prop:=∀ m∈L,t.get m=s.get m/\∀ i,(s.get m).i7 i=true->t.obj i=s.obj i
theorem KZ (v:Value) (i:Nat):(ofConst v).i7 i=false:=by
 unfold ofConst
 split
 ·split<;>rfl
 ·rfl
 ·split<;>rfl
 ·rfl
theorem Bh {s:St} {x:Operand} {i:Nat} (h:(s.ev x).i7 i=true):∃ m,x=.tmp m/\(s.get m).i7 i=true:=by
 cases x with
 | tmp m=>exact ⟨m,rfl,EH h⟩
 | const v=>simp [St.ev,KZ] at h
 | global g=>cases h
 | func f=>cases h
theorem AO.agree {s t:St} {L:List Nat} (h:AO s t L) {xs:List Operand} (hL:∀ m,Operand.tmp m∈xs->m∈L):X5 s t xs:=by
 intro x hx;refine ⟨?_,λ i hi=>?_⟩
 ·cases x with
  | tmp m=>exact yL (h m (hL m hx)).1
  | _=>rfl
 ·obtain ⟨m,rfl,hm⟩:=Bh hi
  exact (h m (hL m hx)).2 i hm
structure Put (s s1:St) (d:Option Nat) (T ids:List Nat) (f:AV->AV) (h:Nat->Option g8) (v:AV):Prop where
 fr:∀ n,look n s1.fr=if d=some n then some v else (look n s.fr).map f
 hp:∀ i,look i s1.hp=if i∈T\/i∈ids then h i else look i s.hp
section
variable {s t s1 t1:St} {d:Option Nat} {T ids:List Nat} {f:AV->AV} {h:Nat->Option g8} {v:AV}
theorem Put.eqv (hp:Put s s1 d T ids f h v) (he:L7 s t):Put t s1 d T ids f h v :=
 ⟨λ n=>by rw [hp.fr,he.1 n],λ i=>by rw [hp.hp,he.2 i]⟩
theorem Put.det (hp:Put s s1 d T ids f h v) (cH:Put t t1 d T ids f h v) (he:L7 s t):L7 s1 t1 :=
 ⟨λ n=>by rw [hp.fr,cH.fr,he.1 n],λ i=>by rw [hp.hp,cH.hp,he.2 i]⟩
theorem Put.get (hp:Put s s1 d T ids f h v) (hf:Trim T f) {m:Nat} (hm:d≠some m):s1.get m=f (s.get m):=by
 simp only [St.get,hp.fr,if_neg hm];cases look m s.fr with
 | none=>exact (hf.plain _ rfl).symm
 | some u=>rfl
end
theorem Yl {T:List Nat} {f:AV->AV} (hf:Trim T f):∀ {j:Nat} {l:AV},l7.nth j (f l)=(l7.nth j l).map f:=by
 have nope:∀ {j:Nat} {l:AV},(∀ a b,l≠.cons a b)->l7.nth j l=none:=by
  intro j l h;cases l with
  | cons a b=>exact absurd rfl (h a b)
  | _=>cases j<;>rfl
 have hn:∀ u:AV,(∀ a b,u≠.cons a b)->∀ a b,f u≠.cons a b:=by
  intro u hu a b e;cases u with
  | cons a b=>exact absurd rfl (hu a b)
  | K0 l=>rw [hf.K0] at e; cases e
  | C1 g l=>rw [hf.C1] at e; cases e
  | bx l=>rw [hf.bx] at e; cases e
  | rc g l=>rw [hf.rc] at e; cases e
  | ptr i p=>rcases hf.atom _ (rfl:(AV.ptr i p).ref=true) with h|h<;>rw [h] at e<;>cases e
  | at_ i p=>rcases hf.atom _ (rfl:(AV.at_ i p).ref=true) with h|h<;>rw [h] at e<;>cases e
  | sub i p x y=>rcases hf.atom _ (rfl:(AV.sub i p x y).ref=true) with h|h<;>rw [h] at e<;>cases e
  | _=>rw [hf.plain _ rfl] at e; cases e
 intro j
 induction j with
 | zero =>
  intro l;cases l with
  | cons a b=>rw [hf.cons]; rfl
  | _=>rw [nope (hn _ (by intro a b e; cases e)),nope (by intro a b e; cases e)]; rfl
 | succ j ih =>
  intro l;cases l with
  | cons a b=>rw [hf.cons]; exact ih
  | _=>rw [nope (hn _ (by intro a b e; cases e)),nope (by intro a b e; cases e)]; rfl
theorem xU (o:Oper):(∀ v,J1 o v=v)\/(o.guard=none/\∃ x j,o.op=.extract x j/\∀ v,J1 o v=(match v with
  | .K0 l=>(match l7.nth j l with
   | some v=>.K0 (.cons v .nil)
   | none=>.any)
  | _=>.any)):=by
 unfold J1
 split
 ·rename_i x j hg ho; exact .inr ⟨hg,x,j,ho,λ _=>rfl⟩
 ·exact .inl λ _=>rfl
theorem IH {T:List Nat} {f:AV->AV} (hf:Trim T f) (o:Oper) (v:AV):J1 o (f v)=f (J1 o v):=by
 rcases xU o with h|⟨_,x,j,_,h⟩
 ·rw [h,h]
 ·rw [h,h]
  have dq:f .any=.any:=hf.plain _ rfl;cases v with
  | K0 l =>
   rw [hf.K0];simp only [Yl hf];cases hn:l7.nth j l with
   | none=>exact dq.symm
   | some u =>
    show AV.K0 (.cons (f u) .nil)=f (.K0 (.cons u .nil));rw [hf.K0,hf.cons,hf.plain .nil rfl]
  | cons a b=>rw [hf.cons]; exact dq.symm
  | C1 g l=>rw [hf.C1]; exact dq.symm
  | bx l=>rw [hf.bx]; exact dq.symm
  | rc g l=>rw [hf.rc]; exact dq.symm
  | ptr i p=>rcases hf.atom _ (rfl:(AV.ptr i p).ref=true) with e|e<;>rw [e]<;>exact dq.symm
  | at_ i p=>rcases hf.atom _ (rfl:(AV.at_ i p).ref=true) with e|e<;>rw [e]<;>exact dq.symm
  | sub i p x y=>rcases hf.atom _ (rfl:(AV.sub i p x y).ref=true) with e|e<;>rw [e]<;>exact dq.symm
  | _=>rw [hf.plain _ rfl]; try exact dq.symm
theorem BH {o:Oper} {v:AV} {i:Nat} (h:(J1 o v).i7 i=true):v.i7 i=true:=by
 rcases xU o with e|⟨_,x,j,_,e⟩
 ·rwa [e] at h
 ·rw [e] at h
  split at h
  ·rename_i l
   split at h
   ·rename_i u hu
    have:u.i7 i=true:=by simpa [AV.i7] using h
    show l.i7 i=true;exact Iv hu this
   ·cases h
  ·cases h
def xM (o:Oper) (s t:St) (L:List Nat):Prop:=∀ m∈L,J1 o (t.get m)=J1 o (s.get m)/\∀ i,(J1 o (s.get m)).i7 i=true->t.obj i=s.obj i
theorem xM.plain {o:Oper} (h:∀ v,J1 o v=v) {s t:St} {L:List Nat} (ha:xM o s t L):AO s t L:=λ m hm=>by
 have:=ha m hm;simpa only [h] using this
theorem L7.xW {s t:St} (h:L7 s t) (o:Oper) (L:List Nat):xM o s t L:=λ m _=>⟨by rw [h.get m],λ i _=>(h.2 i).symm⟩
def Eff (o:Oper) (run:St->Option (Prop×St)) (d:Option Nat) (L T:List Nat) (s:St) (p:Prop):Prop :=
 ∃ v ids f h,Trim T f/\R9 s ids/\(∀ n∈ids,n % 1000=(d.getD 0) % 1000) /\
  (∀ i,v.i7 i=true->(∃ m∈L,(J1 o (s.get m)).i7 i=true)\/i∈ids) /\
  ∀ t,uniq t.fr->xM o s t L->R9 t ids->∃ t1,run t=some (p,t1)/\uniq t1.fr/\Put t t1 d T ids f h v
section
variable {E:Env} {ops:Array Oper} {s t:St}
theorem Po {o:Oper} {p:Prop} {s1:St} (h:W3 E o s=some (p,s1)) {L:List Nat} (hL:∀ m,Operand.tmp m∈o.op.operands.toList->m∈L):Eff o (W3 E o) o.dst L (j9 E o s) s p:=by
 rcases xU o with dZ|⟨ic,x,j,cz,dZ⟩
 rotate_left
 ·have hd:G3 E.nt o.dst=true:=by
   unfold W3 at h;split at h
   ·cases h
   ·assumption
  have hr:∀ t,W3 E o t=(match (match t.ev x with|.K0 l=>(match l7.nth j l with|some v=>OR.ok v t|none=>.fail "extract")|_=>.fail "extract").get with|none=>none|some (p,v,s')=>some (p,s'.put o.dst v)):=by
   intro t;unfold W3 l7;rw [hd,cz];rfl
  have hT:j9 E o s=[]:=by unfold j9; rw [cz]
  rw [hT];rw [hr] at h;have key:∃ m l v,x=.tmp m/\Nat.beq m I3=false/\s.get m=.K0 l/\l7.nth j l=some v/\p=True:=by
   cases x with
   | tmp m =>
    cases hv:s.ev (.tmp m) with
    | K0 l =>
     rw [hv] at h;cases hn:l7.nth j l with
     | some v =>
      simp only [hn,OR.get,Option.some.injEq,Prod.mk.injEq] at h;exact ⟨m,l,v,rfl,ZY hv nofun,BS hv nofun,hn,h.1.symm⟩
     | none=>simp only [hn,OR.get] at h; cases h
    | _ =>
     rw [hv] at h;cases h
   | const c =>
    exfalso;have:∀ l,s.ev (.const c)≠.K0 l:=by
     intro l e;simp only [St.ev] at e;unfold ofConst at e
     repeat' split at e
     all_goals cases e
    revert h;cases hv:s.ev (.const c) with
    | K0 l=>exact absurd hv (this l)
    | _=>intro h; cases h
   | global g=>cases h
   | func f=>cases h
  obtain ⟨m,l,v,rfl,sq,hm,hn,rfl⟩:=key;have qO:m∈L:=hL m (by rw [cz]; simp [Op.operands]);have kr:J1 o (s.get m)=.K0 (.cons v .nil):=by rw [dZ,hm]; simp only [hn]
  refine ⟨v,[],λ u=>u,λ _=>none,Trim.id _,by simp [R9],by simp,λ i hi=>.inl ⟨m,qO,by rw [kr]; simpa [AV.i7] using hi⟩,λ t hu ha _=>?_⟩;have e1:=(ha m qO).1;rw [kr,dZ] at e1;have rI:∃ l',t.get m=.K0 l'/\l7.nth j l'=some v:=by
   split at e1
   ·rename_i l' ez
    split at e1
    ·rename_i v' fH
     cases e1;exact ⟨l',ez,fH⟩
    ·cases e1
   ·cases e1
  obtain ⟨l',f1,f2⟩:=rI;have rJ:t.ev (.tmp m)=.K0 l':=VM sq f1;exact ⟨t.put o.dst v,by rw [hr,rJ]; simp only [f2]; rfl,yP hu,⟨λ n=>by rw [V9]; simp,λ i=>by rw [wA]; simp⟩⟩
 have kt:∀ {t:St},xM o s t L->AO s t L:=λ ha=>ha.plain dZ;by_cases hp:∃ a b c,o.op=.pick a b c
 ·obtain ⟨c,a,b,ho⟩:=hp
  have hd:G3 E.nt o.dst=true:=by
   unfold W3 at h;split at h
   ·cases h
   ·assumption
  have hr:∀ t,W3 E o t=(match t.ev c with|.val .bool g=>some (True,t.put o.dst (match g with|true=>t.ev a|false=>t.ev b))|_=>none):=by
   intro t;unfold W3;rw [hd,ho];rfl
  have hT:j9 E o s=[]:=by unfold j9; rw [ho]
  rw [hT];rw [hr] at h;have gS:o.op.operands.toList=[c,a,b]:=by rw [ho]; rfl
  rw [gS] at hL;have key:∃ g:Bool,s.ev c=.val .bool g:=by
   split at h
   ·exact ⟨_,by assumption⟩
   ·cases h
  obtain ⟨g,hg⟩:=key;rw [hg] at h;simp only [Option.some.injEq,Prod.mk.injEq] at h;obtain ⟨rfl,rfl⟩:=h;refine ⟨(if g=true then s.ev a else s.ev b),[],λ u=>u,λ _=>none,Trim.id _,by simp [R9],by simp,?_,?_⟩
  ·intro i hi
   cases g with
   | true=>obtain ⟨m,hm,hi⟩:=Bh hi; exact .inl ⟨m,hL m (by simp [<- hm]),by rw [dZ]; exact hi⟩
   | false=>obtain ⟨m,hm,hi⟩:=Bh hi; exact .inl ⟨m,hL m (by simp [<- hm]),by rw [dZ]; exact hi⟩
  ·intro t hu ha _
   have du:=(kt ha).agree hL;have e1:=(du c (by simp)).1;have e2:=(du a (by simp)).1;have e3:=(du b (by simp)).1;refine ⟨_,by rw [hr,e1,hg,e2,e3],yP hu,⟨λ n=>by rw [V9]; cases g<;>simp,λ i=>by rw [wA]; simp⟩⟩
 ·have cH:∀ a b c,o.op≠.pick a b c:=λ a b c e=>hp ⟨a,b,c,e⟩
  have hd:G3 E.nt o.dst=true:=by
   unfold W3 at h;split at h
   ·cases h
   ·assumption
  have hr:∀ t,W3 E o t=(match (l7 E o t).get with|none=>none|some (p,v,s')=>some (p,s'.put o.dst v)):=by
   intro t;unfold W3;rw [hd];cases ho:o.op<;>first|rfl|exact absurd ho (cH _ _ _)
  rw [hr] at h;split at h
  ·cases h
  ·rename_i p' v s' hg
   cases h;obtain ⟨ids,f,h,k1,k2,k3,k4,k5⟩:=Wf cH hg;refine ⟨v,ids,f,h,k1,k2,k3,?_,?_⟩
   ·intro i hi
    rcases k4 i hi with ⟨x,hx,hm⟩|hm
    ·obtain ⟨m,rfl,hm⟩:=Bh hm
     exact .inl ⟨m,hL m hx,by rw [dZ]; exact EH hm⟩
    ·exact .inr hm
   ·intro t hu ha hf
    obtain ⟨t1,e1,e2,e3⟩:=k5 t hu ((kt ha).agree hL) hf;exact ⟨t1.put o.dst v,by rw [hr,e1],yP e2,⟨λ n=>by rw [V9,e3.fr],λ i=>by rw [wA,e3.hp]⟩⟩
theorem Iy {g:Nat} {v:AV} (hv:s.get g=v) (hn:v≠.any):L7 s (s.put (some g) v):=by
 refine ⟨λ n=>?_,λ i=>rfl⟩;rw [V9]
 split
 ·rename_i e
  cases e;simp only [St.get] at hv;cases hl:look g s.fr with
  | none=>rw [hl] at hv; exact absurd hv.symm hn
  | some w=>rw [hl] at hv; simp at hv; rw [hv]
 ·rfl
theorem xt {o:Oper} {m:Nat} (hm:Operand.tmp m∈o.op.operands.toList):m∈looks ops o:=List.mem_append_left _ (List.mem_filterMap.2 ⟨_,hm,rfl⟩)
theorem RU {o:Oper} {i:Nat} (hi:i∈j9 E o s):∃ m∈looks ops o,(s.get m).i7 i=true:=by
 obtain ⟨x,hx,hm⟩:=Kt hi;obtain ⟨m,rfl,hm⟩:=Bh hm;exact ⟨m,xt hx,EH hm⟩
theorem YB {o:Oper} (h:∀ m∈looks ops o,t.get m=s.get m):j9 E o t=j9 E o s :=
 IC (λ x hx=>by
  cases x with
  | tmp m=>exact yL (h m (xt hx))
  | _=>rfl)
theorem b7k {o:Oper} {i:Nat} (hi:i∈j9 E o s):∃ m∈looks ops o,(J1 o (s.get m)).i7 i=true:=by
 rcases xU o with h|⟨_,x,j,cz,_⟩
 ·obtain ⟨m,hm,ca⟩:=RU (ops:=ops) hi
  exact ⟨m,hm,by rw [h]; exact ca⟩
 ·unfold j9 at hi; rw [cz] at hi; cases hi
theorem RT {o:Oper} (h:∀ m∈looks ops o,J1 o (t.get m)=J1 o (s.get m)):j9 E o t=j9 E o s:=by
 rcases xU o with e|⟨_,x,j,cz,_⟩
 ·exact YB (λ m hm=>by have:=h m hm; simpa only [e] using this)
 ·unfold j9; rw [cz]
theorem yS {o:Oper} (_hu:uniq s.fr) {p:Prop} {s1:St} (h:G8 E ops o s=some (p,s1)):Eff o (G8 E ops o) o.dst (looks ops o) (j9 E o s) s p:=by
 have hL:∀ m,Operand.tmp m∈o.op.operands.toList->m∈looks ops o:=λ m hm=>xt hm;cases hg:o.guard with
 | none =>
  have hr:∀ t,G8 E ops o t=W3 E o t:=λ t=>by unfold G8; rw [hg]
  rw [hr] at h;have:=Po h hL
  rwa [<- (funext hr:G8 E ops o=W3 E o)] at this
 | some jw =>
  obtain ⟨j,want⟩:=jw;have dZ:∀ v,J1 o v=v:=by
   rcases xU o with e|⟨ic,_⟩
   ·exact e
   ·rw [hg] at ic; cases ic
  have kt:∀ {t:St} {L:List Nat},xM o s t L->AO s t L:=λ ha=>ha.plain dZ;cases hs:zU ops j with
  | none=>unfold G8 at h; rw [hg] at h; simp [hs] at h
  | some g =>
   have qV:g∈looks ops o:=by unfold looks; rw [hg]; simp [hs]
   have hr:∀ t,G8 E ops o t=(match t.ev (.tmp g) with
    | .raw (.tuple _)=>match G3 E.nt o.dst with
     | true=>some (True,t.put o.dst (.raw undef))
     | false=>none
    | .val .bool b=>match G3 E.nt o.dst with
     | false=>none
     | true=>match b == want with
      | true=>W3 E o (t.put (some g) (.val .bool b))
      | false=>some (True,(t.put (some g) (.val .bool b)).put o.dst (.raw undef))
    | _=>none):=λ t=>by unfold G8; rw [hg]; dsimp only; rw [hs]; rfl
   have skip:(∀ t,uniq t.fr->t.ev (.tmp g)=s.ev (.tmp g)->∃ t1,G8 E ops o t=some (True,t1)/\uniq t1.fr/\L7 t1 (t.put o.dst (.raw undef)))->Eff o (G8 E ops o) o.dst (looks ops o) (j9 E o s) s True:=by
    intro aP;refine ⟨.raw undef,[],λ u=>u,λ i=>look i s.hp,Trim.id _,by simp [R9],by simp,λ i hi=>by simp [AV.i7] at hi,λ t ku ha _=>?_⟩;have ha:=kt ha;obtain ⟨t1,e1,e2,e3⟩:=aP t ku (yL (ha g qV).1);refine ⟨t1,e1,e2,⟨λ n=>by rw [e3.1,V9]; simp,λ i=>?_⟩⟩;rw [e3.2,wA]
    split
    ·rename_i hi
     obtain ⟨m,hm,ca⟩:=RU (ops:=ops) (by simpa using hi:i∈j9 E o s);exact (ha m hm).2 i ca
    ·rfl
   rw [hr] at h;cases hv:s.ev (.tmp g) with
   | raw w =>
    rw [hv] at h;cases w with
    | tuple vs =>
     simp only at h;cases hd:G3 E.nt o.dst with
     | false=>rw [hd] at h; cases h
     | true =>
      rw [hd] at h;simp only [Option.some.injEq,Prod.mk.injEq] at h;obtain ⟨rfl,rfl⟩:=h;exact skip (λ t ku ht=>⟨_,by rw [hr,ht,hv]; simp only [hd],yP ku,L7.refl _⟩)
    | _=>cases h
   | val u b =>
    rw [hv] at h;cases u with
    | bool =>
     simp only at h;cases hd:G3 E.nt o.dst with
     | false=>rw [hd] at h; cases h
     | true =>
      rw [hd] at h;simp only at h;cases hb:(b == want) with
      | false =>
       rw [hb] at h;simp only [Option.some.injEq,Prod.mk.injEq] at h;obtain ⟨rfl,rfl⟩:=h;exact skip (λ t ku ht=>⟨_,by rw [hr,ht,hv]; simp only [hd,hb],yP (yP ku),((Iy (BS (ht.trans hv) (by simp)) (by simp)).symm.put _ _)⟩)
      | true =>
       rw [hb] at h;simp only at h;have bj:=Iy (BS hv (by simp)) (by simp);obtain ⟨v,ids,f,hh,k1,k2,k3,k4,k5⟩:=Po h hL;have tC:j9 E o (s.put (some g) (.val .bool b))=j9 E o s:=IC (λ x _=>(bj.ev x).symm);rw [tC] at k1 k5;refine ⟨v,ids,f,hh,k1,k2.eqv bj.symm,k3,?_,?_⟩
       ·intro i hi
        rcases k4 i hi with ⟨m,hm,ca⟩|hm
        ·exact .inl ⟨m,hm,by rw [bj.get]; exact ca⟩
        ·exact .inr hm
       ·intro t ku ha hf
        have ha:=kt ha;have qG:t.ev (.tmp g)=.val .bool b:=(yL (ha g qV).1).trans hv;have bK:=Iy (BS qG (by simp)) (by simp);obtain ⟨t1,e1,e2,e3⟩:=k5 (t.put (some g) (.val .bool b)) (yP ku) (λ m hm=>by
         rw [<- bK.get,<- bj.get,dZ,dZ];refine ⟨(ha m hm).1,λ i hi=>?_⟩;have:=(ha m hm).2 i hi;simpa [St.obj,wA] using this) (hf.eqv bK)
        refine ⟨t1,by rw [hr,qG]; simp only [hd,hb,e1],e2,e3.eqv bK.symm⟩
    | _=>cases h
   | _=>rw [hv] at h; cases h
theorem QM {o:Oper} (hu:uniq s.fr) (he:L7 s t) (ht:uniq t.fr) {p:Prop} {s1:St} (h:G8 E ops o s=some (p,s1)):∃ t1,G8 E ops o t=some (p,t1)/\uniq t1.fr/\L7 s1 t1:=by
 obtain ⟨v,ids,f,hh,k1,k2,k3,k4,k5⟩:=yS hu h;obtain ⟨s1',e1,_,e3⟩:=k5 s hu ((L7.refl s).xW _ _) k2;rw [h] at e1; cases e1;obtain ⟨t1,f1,f2,f3⟩:=k5 t ht (he.xW _ _) (k2.eqv he);exact ⟨t1,f1,f2,e3.det f3 he⟩
theorem O7 {o:Oper} (hu:uniq s.fr) {p:Prop} {s1:St} (h:G8 E ops o s=some (p,s1)):uniq s1.fr:=by
 obtain ⟨t1,h1,h2,_⟩:=QM hu (L7.refl s) hu h;rw [h] at h1; cases h1; exact h2
theorem RB:∀ {v:AV} {i:Nat},v.clean=true->v.i7 i=false:=by
 intro v
 induction v with
 | cons a b iha ihb =>
  intro i h;simp only [AV.clean,Bool.and_eq_true] at h;simp [AV.i7,iha h.1,ihb h.2]
 | K0 l ih=>intro i h; exact ih h
 | C1 f l ih=>intro i h; exact ih h
 | bx l ih=>intro i h; exact ih h
 | rc f l ih=>intro i h; exact ih h
 | ptr i p=>intro i h; cases h
 | at_ i p=>intro i h; cases h
 | sub i p a b=>intro i h; cases h
 | _=>intro i h; rfl
theorem b7r {o:Oper} (hu:uniq s.fr) {p:Prop} {s1:St} (h:G8 E ops o s=some (p,s1)) {m:Nat} (hm:o.dst≠some m) (hc:(s.get m).clean=true):(s1.get m).clean=true:=by
 obtain ⟨v,ids,f,hh,k1,k2,k3,k4,k5⟩:=yS hu h;obtain ⟨s1',e1,_,e3⟩:=k5 s hu ((L7.refl s).xW _ _) k2;rw [h] at e1; cases e1;rw [e3.get k1 hm,k1.fix _ (λ i _=>RB hc)];exact hc
end
end Go.Ex
namespace Go.Ex
section
variable {E:Env} {ops:Array Oper} {s t:St}
theorem get_some {m:Nat} {v:AV} (h:look m s.fr=some v):s.get m=v:=by simp [St.get,h]
theorem Xr {m i:Nat} (h:(s.get m).i7 i=true):∃ v,look m s.fr=some v/\v.i7 i=true:=by
 simp only [St.get] at h;cases hl:look m s.fr with
 | none=>rw [hl] at h; cases h
 | some v=>rw [hl] at h; exact ⟨v,rfl,h⟩
theorem RL {x y:Oper} (h:indep ops x y=true):(∀ d,x.dst=some d->d∉looks ops y)/\(∀ d,y.dst=some d->d∉looks ops x)/\(x.dst.getD 0) % 1000≠(y.dst.getD 0) % 1000:=by
 simp only [indep,Bool.and_eq_true,Bool.not_eq_true',Me] at h;obtain ⟨⟨h3,h4⟩,h5⟩:=h;refine ⟨?_,?_,λ e=>?_⟩
 ·intro d hd
  rw [hd] at h3;simp only [Bool.and_eq_true,Bool.not_eq_true'] at h3;intro hm;have:=h3.1;simp [hm] at this
 ·intro d hd
  rw [hd] at h4;simp only [Bool.not_eq_true'] at h4;intro hm;simp [hm] at h4
 ·rw [e] at h5
  simp at h5
theorem DX {ids:List Nat} (hn:R9 s ids) {n m:Nat} (h:n∈ids):(s.get m).i7 n=false:=by
 cases hm:(s.get m).i7 n with
 | false=>rfl
 | true =>
  obtain ⟨v,hv,qC⟩:=Xr hm;rw [(hn n h).2 m v hv] at qC; cases qC
theorem Vi {u:AV} (hr:u.ref=true) {i j:Nat} (h1:u.i7 i=true) (h2:u.i7 j=true):i=j:=by
 cases u<;>simp only [AV.ref] at hr<;>first|(cases hr; done)|(simp only [AV.i7] at h1 h2; exact (Nat.eq_of_beq_eq_true h1).trans (Nat.eq_of_beq_eq_true h2).symm)
theorem b9Y {u:AV} (h:u.plain=true) {i:Nat}:u.i7 i=false:=by
 cases u<;>simp only [AV.plain] at h<;>first|rfl|(cases h; done)
theorem Trim.stay {T:List Nat} {f:AV->AV} (hf:Trim T f) {n:Nat} (hn:n∉T):∀ u:AV,u.i7 n=true->(f u).i7 n=true:=by
 refine AV.shape _ (λ u hu h=>?_) (λ u hu h=>?_) ?_ ?_ ?_ ?_ ?_
 ·rw [b9Y hu] at h; cases h
 ·rw [hf.wZ u hu (λ i hi=>?_)]
  ·exact h
  ·cases hm:u.i7 i with
   | false=>rfl
   | true=>exact absurd (Vi hu hm h▸hi) hn
 ·intro a b ha hb h
  rw [hf.cons];simp only [AV.i7,Bool.or_eq_true] at h ⊢;exact h.imp ha hb
 ·intro l hl h; rw [hf.K0]; exact hl h
 ·intro k l hl h; rw [hf.C1]; exact hl h
 ·intro l hl h; rw [hf.bx]; exact hl h
 ·intro k l hl h; rw [hf.rc]; exact hl h
theorem swap {x y:Oper} (hi:indep ops x y=true) (hu:uniq s.fr) (hx:∀ d,x.dst=some d->(s.get d).clean=true) {p q:Prop} {s1 s2:St} (h1:G8 E ops x s=some (p,s1)) (h2:G8 E ops y s1=some (q,s2))
  (hP:wK ops x s (j9 E x s) y (j9 E y s1)) :
  ∃ s1' s2',G8 E ops y s=some (q,s1')/\G8 E ops x s1'=some (p,s2')/\uniq s1'.fr/\uniq s2'.fr/\L7 s2' s2/\j9 E y s=j9 E y s1/\j9 E x s1'=j9 E x s /\
   (∀ m∈looks ops x,J1 x (s1'.get m)=J1 x (s.get m))/\∀ (z:Oper) m,∀ i∈j9 E x s,(J1 z (s1'.get m)).i7 i=true->(J1 z (s.get m)).i7 i=true:=by
 obtain ⟨ax,ay,jo⟩:=RL hi;obtain ⟨P1,P2,P3⟩:=hP;have lR:=O7 hu h1;obtain ⟨v,ids,f,g,k1,k2,k3,k4,k5⟩:=yS hu h1;obtain ⟨_,e1,_,gR⟩:=k5 s hu ((L7.refl s).xW _ _) k2;rw [h1] at e1; cases e1;obtain ⟨v',ids',f',g',m1,m2,m3,m4,m5⟩:=yS lR h2;obtain ⟨_,e2,_,jh⟩:=m5 s1 lR ((L7.refl s1).xW _ _) m2;rw [h2] at e2; cases e2;have kb:∀ d,x.dst=some d->y.dst=some d->False:=λ d e1 e2=>jo (by rw [e1,e2]);have cE:∀ m∈looks ops y,J1 y (s1.get m)=J1 y (s.get m):=by
  intro m hm;rw [gR.get k1 (λ e=>ax m e hm),IH k1,k1.fix _ (λ i hi=>P1 m hm i hi)]
 have tv:j9 E y s=j9 E y s1:=(RT cE).symm;have np:∀ i∈j9 E y s1,∃ m∈looks ops y,(J1 y (s.get m)).i7 i=true:=by
  intro i hi;obtain ⟨m,hm,ca⟩:=b7k (ops:=ops) hi;exact ⟨m,hm,by rw [<- cE m hm]; exact ca⟩
 have d1:∀ i∈j9 E x s,i∉j9 E y s1:=by
  intro i hi hj;obtain ⟨m,hm,ca⟩:=np i hj;rw [P1 m hm i hi] at ca; cases ca
 have d2:∀ i∈ids,i∉j9 E y s1:=by
  intro i hi hj;obtain ⟨m,hm,ca⟩:=np i hj;have ca:=BH ca;rw [DX k2 hi] at ca; cases ca
 have d3:∀ i∈j9 E x s,i∉ids':=λ i hi hj=>P3 i hi (m3 i hj);have d4:∀ i∈ids,i∉ids':=λ i hi hj=>jo ((k3 i hi).symm.trans (m3 i hj));have fS:∀ i,i∉j9 E x s->i∉ids->look i s1.hp=look i s.hp:=λ i h1 h2=>by rw [gR.hp,if_neg (by rintro (h|h); exact h1 h; exact h2 h)]
 have du:xM y s1 s (looks ops y):=by
  intro m hm;refine ⟨(cE m hm).symm,λ i hi=>?_⟩;rw [cE m hm] at hi;refine (fS i (λ h=>?_) (λ h=>?_)).symm
  ·rw [P1 m hm i h] at hi; cases hi
  ·have hi:=BH hi
   rw [DX k2 h] at hi; cases hi
 have jz:R9 s ids':=by
  intro n hn;refine ⟨?_,λ m w hw=>?_⟩
  ·rw [<- fS n (λ h=>d3 n h hn) (λ h=>d4 n h hn)]; exact (m2 n hn).1
  ·by_cases hd:x.dst=some m
   ·have:=hx m hd
    rw [get_some hw] at this;exact RB this
   ·cases ry:w.i7 n with
    | false=>rfl
    | true =>
     have:=k1.stay (λ h=>d3 n h hn) w ry;have h3:=(m2 n hn).2 m (f w) (by rw [gR.fr,if_neg hd,hw]; rfl);rw [this] at h3; cases h3
 obtain ⟨s1',f1,fu,fL⟩:=m5 s hu du jz;have iD:∀ m∈looks ops x,J1 x (s1'.get m)=J1 x (s.get m):=by
  intro m hm;rw [fL.get m1 (λ e=>ay m e hm),IH m1,m1.fix _ (λ i hi=>P2 m hm i hi)]
 have qc:xM x s s1' (looks ops x):=by
  intro m hm;refine ⟨iD m hm,λ i hi=>?_⟩;show look i s1'.hp=look i s.hp;rw [fL.hp,if_neg];rintro (h|h)
  ·rw [P2 m hm i h] at hi; cases hi
  ·have hi:=BH hi
   rw [DX jz h] at hi; cases hi
 have fH:∀ i,v'.i7 i=true->i∉j9 E x s/\i∉ids:=by
  intro i hi;rcases m4 i hi with ⟨m,hm,ca⟩|ca
  ·rw [cE m hm] at ca
   refine ⟨λ h=>?_,λ h=>?_⟩
   ·rw [P1 m hm i h] at ca; cases ca
   ·have ca:=BH ca
    rw [DX k2 h] at ca; cases ca
  ·exact ⟨λ h=>d3 i h ca,λ h=>d4 i h ca⟩
 have hv:∀ i,v.i7 i=true->i∉j9 E y s1:=by
  intro i hi;rcases k4 i hi with ⟨m,hm,ca⟩|ca
  ·exact λ h=>by rw [P2 m hm i h] at ca; cases ca
  ·exact d2 i ca
 have pD:R9 s1' ids:=by
  intro n hn;refine ⟨?_,λ m w hw=>?_⟩
  ·rw [fL.hp,if_neg]
   ·exact (k2 n hn).1
   ·rintro (h|h)
    ·exact d2 n hn h
    ·exact d4 n hn h
  ·rw [fL.fr] at hw
   split at hw
   ·cases hw
    cases hm:v'.i7 n with
    | false=>rfl
    | true=>exact absurd hn (fH n hm).2
   ·cases hl:look m s.fr with
    | none=>rw [hl] at hw; cases hw
    | some u =>
     rw [hl] at hw;cases hw;cases hm:(f' u).i7 n with
     | false=>rfl
     | true=>have:=m1.i7 u hm; rw [(k2 n hn).2 m u hl] at this; cases this
 obtain ⟨s2',g1,gu,lV⟩:=k5 s1' fu qc pD;refine ⟨s1',s2',f1,g1,fu,gu,⟨λ n=>?_,λ i=>?_⟩,tv,RT iD,iD,?_⟩
 ·rw [lV.fr,jh.fr,fL.fr,gR.fr]
  by_cases a:x.dst=some n
  ·rw [if_pos a,if_neg (λ b=>kb n a b),if_pos a,Option.map_some,m1.fix v]
   intro i hi;cases hm:v.i7 i with
   | false=>rfl
   | true=>exact absurd hi (hv i hm)
  ·rw [if_neg a,if_neg a]
   by_cases b:y.dst=some n
   ·rw [if_pos b,if_pos b,Option.map_some,k1.fix v']
    intro i hi;cases hm:v'.i7 i with
    | false=>rfl
    | true=>exact absurd hi (fH i hm).1
   ·rw [if_neg b,if_neg b,Option.map_map,Option.map_map]
    congr 1
    funext u
    exact k1.comm m1 u
 ·rw [lV.hp,jh.hp,fL.hp,gR.hp]
  by_cases a:i∈j9 E x s\/i∈ids
  ·rw [if_pos a,if_neg,if_pos a]
   rintro (b|b)
   ·rcases a with a|a
    ·exact d1 i a b
    ·exact d2 i a b
   ·rcases a with a|a
    ·exact d3 i a b
    ·exact d4 i a b
  ·rw [if_neg a,if_neg a]
 ·intro z m i hi hm
  by_cases b:y.dst=some m
  ·have:s1'.get m=v':=get_some (by rw [fL.fr,if_pos b])
   rw [this] at hm;exact absurd hi (fH i (BH hm)).1
  ·rw [fL.get m1 b,IH m1] at hm
   exact m1.i7 _ hm
end
end Go.Ex
namespace Go.Ex
section
variable {E:Env} {ops:Array Oper} {M:Nat->Nat} {s t:St}
def rem (ops:Array Oper) (l:List Nat):List Oper:=l.filterMap λ i=>ops[i]?
theorem DS {i:Nat} {o:Oper} {l:List Nat} (h:ops[i]?=some o):rem ops (i::l)=o::rem ops l:=by simp [rem,h]
theorem Bj {l m:List Nat}:rem ops (l++m)=rem ops l++rem ops m:=by simp [rem,List.filterMap_append]
def M6 (s:St) (l:List Oper):Prop:=∀ o∈l,∀ d,o.dst=some d->(s.get d).clean=true
def N1:List Oper->Prop
 | []=>True
 | o::l=>(∀ d,o.dst=some d->∀ x∈l,x.dst≠some d)/\N1 l
theorem M6.sub {l l':List Oper} (h:M6 s l) (hs:∀ o∈l',o∈l):M6 s l':=λ o ho=>h o (hs o ho)
def nl (ops:Array Oper) (l:List Nat):List Nat:=l.filter (λ j=>!yF ops j)
theorem Mt {l m:List Nat}:nl ops (l++m)=nl ops l++nl ops m:=by simp [nl]
theorem UH {l:List Nat} {i:Nat} (hi:i<ops.size) (h:∀ j∈l,j<i) (hm:∀ j∈l,((D4 ops.toList []).getD i 0).testBit j=false):nl ops l=l :=
 List.filter_eq_self.2 (λ j hj=>by
  cases e:yF ops j with
  | false=>rfl
  | true =>
   unfold yF at e;rw [List.all_eq_true] at e;have:=e i (List.mem_range.2 hi);rw [hm j hj,show Nat.blt j i=true by rw [Nat.blt_eq]; exact h j hj] at this;cases this)
theorem b7E {j:Nat} (h:yF ops j=false):j+1<ops.size:=by
 rcases Nat.lt_or_ge (j+1) ops.size with h1|h1
 ·exact h1
 ·exfalso
  have:yF ops j=true:=by
   unfold yF;rw [List.all_eq_true];intro i hi;have:=List.mem_range.1 hi;have:Nat.blt j i=false:=by
    cases e:Nat.blt j i with
    | false=>rfl
    | true=>rw [Nat.blt_eq] at e; omega
   rw [this]; rfl
  rw [this] at h; cases h
theorem UI {l:List Nat}:∀ o∈rem ops (nl ops l),o∈rem ops l:=λ o ho=>by
 obtain ⟨j,h1,h2⟩:=List.mem_filterMap.1 ho;exact List.mem_filterMap.2 ⟨j,(List.mem_filter.1 h1).1,h2⟩
theorem M6.step {o:Oper} {l:List Oper} (hu:uniq s.fr) (hc:M6 s l) (hd:∀ x∈l,∀ d,x.dst=some d->o.dst≠some d) {p:Prop} {s1:St} (h:G8 E ops o s=some (p,s1)):M6 s1 l :=
 λ x hx d fZ=>b7r hu h (hd x hx d fZ) (hc x hx d fZ)
def To (E:Env) (ops:Array Oper) (acc bJ:List (Nat×St)):Prop :=
 ∀ e'∈bJ,∃ e∈acc,e.1=e'.1/\∀ x,ops[e.1]?=some x->(∀ m∈looks ops x,J1 x (e'.2.get m)=J1 x (e.2.get m))/\j9 E x e'.2=j9 E x e.2/\∀ (z:Oper) m,∀ k∈j9 E x e.2,(J1 z (e'.2.get m)).i7 k=true->(J1 z (e.2.get m)).i7 k=true
theorem wK.Aq {x:Oper} {sx sx':St} {y:Oper} {Ty Ty':List Nat} (h:wK ops x sx (j9 E x sx) y Ty) (h1:∀ m∈looks ops x,J1 x (sx'.get m)=J1 x (sx.get m)) (h2:j9 E x sx'=j9 E x sx) (h3:∀ (z:Oper) m,∀ k∈j9 E x sx,(J1 z (sx'.get m)).i7 k=true->(J1 z (sx.get m)).i7 k=true) (hT:Ty'=Ty) :
  wK ops x sx' (j9 E x sx') y Ty':=by
 subst hT;obtain ⟨P1,P2,P3⟩:=h;rw [h2];refine ⟨λ m hm i hi=>?_,λ m hm i hi=>by rw [h1 m hm]; exact P2 m hm i hi,P3⟩;cases hh:(J1 y (sx'.get m)).i7 i with
 | false=>rfl
 | true=>have:=h3 y m i hi hh; rw [P1 m hm i hi] at this; cases this
theorem Qr {o:Oper} (h:L7 s t):j9 E o t=j9 E o s:=IC (λ x _=>(h.ev x).symm)
theorem Kp:∀ {l:List Nat} {acc bJ:List (Nat×St)} {s t s':St},To E ops acc bJ->uniq s.fr->L7 s t->uniq t.fr->Z9 E ops M acc l s s'->∃ t',Z9 E ops M bJ l t t'/\L7 s' t'
 | [],acc,bJ,s,t,s',_,_,he,_,h=>⟨t,rfl,by rw [<- show s=s' from h]; exact he⟩
 | i::l,acc,bJ,s,t,s',hg,hu,he,ht,⟨o,ho,hc,p,s1,h1,h2,h3⟩=>by
  obtain ⟨t1,k1,k2,k3⟩:=QM hu he ht h1;obtain ⟨t',m1,m2⟩:=Kp (acc:=(i,s)::acc) (bJ:=(i,t)::bJ) (λ e' eC=>by
   rcases List.mem_cons.1 eC with rfl|eC
   ·exact ⟨(i,s),by simp,rfl,λ x _=>⟨λ m _=>by show J1 x (t.get m)=J1 x (s.get m); rw [he.get m],Qr he,λ z m k _ hm=>by have hm:(J1 z (t.get m)).i7 k=true:=hm; rw [<- he.get m] at hm; exact hm⟩⟩
   ·obtain ⟨e,h4,h5,h6⟩:=hg e' eC; exact ⟨e,by simp [h4],h5,h6⟩) (O7 hu h1) k3 k2 h3
  refine ⟨t',⟨o,ho,λ e' eC=>?_,p,t1,k1,h2,m1⟩,m2⟩;obtain ⟨e,h4,h5,h6⟩:=hg e' eC;rw [<- h5];rcases hc e h4 with h|⟨x,hx,hP⟩
  ·exact .inl h
  ·obtain ⟨g1,g2,g3⟩:=h6 x hx
   exact .inr ⟨x,hx,hP.Aq g1 g2 g3 (Qr he)⟩
theorem Dq {i:Nat} {o:Oper} (ho:ops[i]?=some o) {post:List Nat}:∀ {pre:List Nat} {acc:List (Nat×St)} {s s':St},N1 (rem ops (pre++i::post))->(∀ j∈pre,(M i).testBit j=false/\∀ x,ops[j]?=some x->indep ops x o=true)->uniq s.fr->M6 s (rem ops pre) ->
  Z9 E ops M acc (pre++i::post) s s' ->
  ∃ p s1 s2,G8 E ops o s=some (p,s1)/\p/\Z9 E ops M acc (pre++post) s1 s2/\L7 s2 s'/\∀ e∈acc,(M i).testBit e.1=true\/∃ x,ops[e.1]?=some x/\wK ops x e.2 (j9 E x e.2) o (j9 E o s)
 | [],acc,s,s',_,_,hu,_,⟨o',eT,hc,p,s1,h1,h2,h3⟩=>by
  rw [ho] at eT; cases eT;obtain ⟨t',m1,m2⟩:=Kp (acc:=(i,s)::acc) (bJ:=acc) (λ e he=>⟨e,by simp [he],rfl,λ x _=>⟨λ _ _=>rfl,rfl,λ _ _ _ _ h=>h⟩⟩) (O7 hu h1) (L7.refl s1) (O7 hu h1) h3;exact ⟨p,s1,t',h1,h2,m1,m2.symm,hc⟩
 | j::pre,acc,s,s',fe,dv,hu,cJ,⟨x,hx,hc,p,s1,h1,h2,h3⟩=>by
  have lR:=O7 hu h1;have er:rem ops (j::pre++i::post)=x::rem ops (pre++i::post):=DS hx;rw [er] at fe;rw [DS hx] at cJ;have mV:∀ y∈rem ops pre,∀ d,y.dst=some d->x.dst≠some d:=λ y hy d rp fZ=>fe.1 d fZ y (by rw [Bj]; exact List.mem_append_left _ hy) rp;have pR:M6 s1 (rem ops pre):=M6.step hu (λ y hy=>cJ y (by simp [hy])) mV h1;obtain ⟨q,sa,sb,k1,k2,k3,k4,k5⟩:=Dq ho (pre:=pre) (acc:=(j,s)::acc) fe.2 (λ y hy=>dv y (by simp [hy])) lR pR h3;obtain ⟨cI,fi⟩:=dv j (by simp);have hP:wK ops x s (j9 E x s) o (j9 E o s1):=by
   rcases k5 (j,s) (by simp) with h|⟨x',eh,hP⟩
   ·rw [cI] at h; cases h
   ·have eh:ops[j]?=some x':=eh
    rw [hx] at eh; cases eh; exact hP
  obtain ⟨s1',s2',m1,m2,m3,m4,m5,m6,m7,m8,m9⟩:=swap (fi x hx) hu (λ d hd=>cJ x (by simp) d hd) h1 k1 hP;obtain ⟨t',n1,n2⟩:=Kp (acc:=(j,s)::acc) (bJ:=(j,s1')::acc) (λ e' eC=>by
   rcases List.mem_cons.1 eC with rfl|eC
   ·refine ⟨(j,s),by simp,rfl,λ y hy=>?_⟩
    have hy:ops[j]?=some y:=hy;rw [hx] at hy; cases hy;exact ⟨m8,m7,m9⟩
   ·exact ⟨e',by simp [eC],rfl,λ y _=>⟨λ _ _=>rfl,rfl,λ _ _ _ _ h=>h⟩⟩) (O7 lR k1) m5.symm m4 k3
  refine ⟨q,s1',t',m1,k2,⟨x,hx,λ e he=>?_,p,s2',m2,h2,n1⟩,n2.symm.trans k4,λ e he=>?_⟩
  ·rcases hc e he with h|⟨y,hy,hP⟩
   ·exact .inl h
   ·exact .inr ⟨y,hy,by rw [m7]; exact hP⟩
  ·rcases k5 e (by simp [he]) with h|⟨y,hy,hP⟩
   ·exact .inl h
   ·exact .inr ⟨y,hy,by rw [m6]; exact hP⟩
end
end Go.Ex
namespace Go.Ex
section
variable {E:Env} {ops:Array Oper} {B:D8} {S:Nat->Prop} {ι:Ix} {s:St} {a:Act} {w:World}
def idxs (n:Nat) (listed:Array Bool):List Nat:=(List.range n).filter λ i=>!listed.getD i true
theorem E5 {n i:Nat} {listed:Array Bool}:i∈idxs n listed↔i<n/\listed.getD i true=false:=by
 simp [idxs]
theorem BW (n:Nat) (listed:Array Bool):(idxs n listed).Pairwise (·<·):=List.Pairwise.filter _ List.pairwise_lt_range
theorem BJ {n i:Nat} {listed:Array Bool} (hs:listed.size=n) (hi:i<n):idxs n (listed.setIfInBounds i true)=(idxs n listed).filter (λ k=>!(k == i)):=by
 unfold idxs;rw [List.filter_filter];refine List.filter_congr (λ k hk=>?_);by_cases e:k=i
 ·subst e
  have:k<listed.size:=by omega
  simp [this]
 ·have:(listed.setIfInBounds i true).getD k true=listed.getD k true:=getD_set_ne true (Ne.symm e)
  rw [this];simp [e]
theorem JN {n i:Nat} {listed:Array Bool} (hi:i∈idxs n listed):∃ pre post,idxs n listed=pre++i::post/\(∀ j∈pre,j<i)/\(idxs n listed).filter (λ k=>!(k == i))=pre++post:=by
 obtain ⟨pre,post,e⟩:=List.append_of_mem hi;have hp:=BW n listed;rw [e,List.pairwise_append] at hp;obtain ⟨h1,h2,h3⟩:=hp;have bf:∀ j∈pre,j<i:=λ j hj=>h3 j hj i (by simp);have fk:∀ j∈post,i<j:=λ j hj=>(List.pairwise_cons.1 h2).1 j hj;refine ⟨pre,post,e,bf,?_⟩;rw [e,List.filter_append,List.filter_cons];simp only [beq_self_eq_true,Bool.not_true,Bool.false_eq_true,if_false];rw [List.filter_eq_self.2 (λ j hj=>by have:=bf j hj; simp; omega),List.filter_eq_self.2 (λ j hj=>by have:=fk j hj; simp; omega)]
theorem Ed (h:wm ops=true):∀ i o,ops[i]?=some o->(∀ e∈o.after,Region.binds .any e=true->e.on<i) /\
  (∀ j,j<ops.size->((D4 ops.toList []).getD i 0).testBit j=true->∃ e∈o.after,Region.binds .any e=true/\(e.on=j\/((D4 ops.toList []).getD e.on 0).testBit j=true)) /\
  (∀ j x,j<i->ops[j]?=some x->((D4 ops.toList []).getD i 0).testBit j=true\/indep ops x o=true):=by
 intro i o ho;have hi:i<ops.toList.length:=by
  have:=(Array.getElem?_eq_some_iff.1 ho).1;simpa using this
 simp only [wm,List.all_eq_true,List.mem_range] at h;have h1:=h i hi;have hl:ops.toList[i]?=some o:=by simpa using ho
 rw [hl] at h1;simp only [Bool.and_eq_true,List.all_eq_true,List.mem_range] at h1;obtain ⟨⟨k1,k2⟩,k3⟩:=h1;refine ⟨?_,?_,?_⟩
 ·intro e he hb
  simp only [LI,List.all_eq_true] at k1;have:=k1 e (by simpa using he);rw [hb] at this;simpa [Nat.blt_eq] using this
 ·intro j hj hm
  simp only [Ms,List.all_eq_true,List.mem_range] at k2;have:=k2 j (by simpa using hj);rw [hm] at this;simp only [Bool.not_true,Bool.false_or,List.any_eq_true,Bool.and_eq_true,Bool.or_eq_true] at this;obtain ⟨e,he,hb,h3⟩:=this;exact ⟨e,by simpa using he,hb,h3.imp Nat.eq_of_beq_eq_true id⟩
 ·intro j x hj hx
  have:=k3 j hj;have eh:ops.toList[j]?=some x:=by simpa using hx
  rw [eh] at this;simpa using this
def yD (ops:Array Oper) (listed:Array Bool):Prop:=∀ k o,ops[k]?=some o->listed.getD k true=true->∀ e∈o.after,Region.binds .any e=true->listed.getD e.on false=true
theorem T9 {listed:Array Bool} {k:Nat} (h:listed.getD k false=true):listed.getD k true=true:=by
 rcases Nat.lt_or_ge k listed.size with h'|h'
 ·simp [h'] at h ⊢; exact h
 ·simp [Array.getElem?_eq_none h'] at h
theorem Ey {M:Nat->Nat} (hM:∀ i o,ops[i]?=some o->(∀ e∈o.after,Region.binds .any e=true->e.on<i)/\(∀ j,j<ops.size->(M i).testBit j=true->∃ e∈o.after,Region.binds .any e=true/\(e.on=j\/(M e.on).testBit j=true)))
  {listed:Array Bool} (hc:yD ops listed):∀ (i:Nat) (o:Oper),ops[i]?=some o->(∀ e∈o.after,Region.binds .any e=true->listed.getD e.on false=true)->∀ j,j<ops.size->(M i).testBit j=true->listed.getD j false=true:=by
 intro i
 induction i using Nat.strongRecOn with
 | _ i ih =>
  intro o ho hp j hj hm;obtain ⟨e,he,hb,h3⟩:=(hM i o ho).2 j hj hm;have bf:=(hM i o ho).1 e he hb;rcases h3 with rfl|h3
  ·exact hp e he hb
  ·have hi:i<ops.size:=(Array.getElem?_eq_some_iff.1 ho).1
   have nS:ops[e.on]?=some (ops[e.on]'(by omega)):=Array.getElem?_eq_getElem (by omega);exact ih e.on bf _ nS (hc e.on _ nS (T9 (hp e he hb))) j hj h3
theorem Sh (hE:C6 E B) (hn:B.n=E.nt) (hd:wm ops=true) {Q:Exit->Act->World->Prop} {s0:St} (hQ:∀ S ι a w,RS B S ι s0 a w->Q .normal a w) :
  ∀ (fuel:Nat) (listed:Array Bool) (S:Nat->Prop) (ι:Ix) (s s':St) (a:Act) (w:World),listed.size=ops.size->(idxs ops.size listed).length=fuel->yD ops listed->N1 (rem ops (idxs ops.size listed))->uniq s.fr->M6 s (rem ops (nl ops (idxs ops.size listed))) ->
   Z9 E ops (λ i=>(D4 ops.toList []).getD i 0) [] (idxs ops.size listed) s s'->L7 s' s0->RS B S ι s a w->wpAny E.P .any ops Q fuel listed a w:=by
 have hM:=Ed hd;have Df:∀ {S:Nat->Prop} {ι:Ix} {s t:St} {a:Act} {w:World},L7 s t->RS B S ι s a w->RS B S ι t a w:=by
  intro S ι s t a w he h;have dy:∀ {v:AV} {vs:List Value},VX w.heap S ι s.hp v vs->VX w.heap S ι t.hp v vs:=by
   intro v vs hv;exact VX.other (λ i _=>(he.2 i).symm) (λ i _=>E3.refl ι i) hv
  exact ⟨⟨h.hs.os,h.hs.tape,h.hs.out,h.hs.size,h.hs.frame,h.hs.slt,h.hs.s0,h.hs.s1,λ i e hi=>h.hs.ob i e ((he.2 i).trans hi),λ i e hi=>h.hs.bl i e ((he.2 i).trans hi),λ i j ei ej hi hj=>h.hs.dj i j ei ej ((he.2 i).trans hi) ((he.2 j).trans hj),λ q hq=>by obtain ⟨r1,⟨e,r2⟩,r3⟩:=h.hs.pin q hq; exact ⟨r1,⟨e,(he.2 q.1).symm.trans r2⟩,r3⟩⟩,h.dfr,h.sz,
   λ m v hv=>dy (h.fr m v ((he.1 m).trans hv))⟩
 intro fuel
 induction fuel with
 | zero =>
  intro listed S ι s s' a w aX hlen cJ fe hu fA aP he cr;have fO:idxs ops.size listed=[]:=List.length_eq_zero_iff.1 hlen;rw [fO] at aP;have oF:s=s':=aP;subst oF;refine ⟨?_,hQ S ι a w (Df he cr)⟩;rw [List.eq_nil_iff_forall_not_mem];intro i hi;obtain ⟨h1,o,h2,_⟩:=mem_ready.1 hi;have:i∈idxs ops.size listed:=E5.2 ⟨(Array.getElem?_eq_some_iff.1 h2).1,h1⟩;rw [fO] at this;cases this
 | succ fuel ih =>
  intro listed S ι s s' a w aX hlen cJ fe hu fA aP he cr;refine ⟨λ hr=>?_,λ i hi=>?_⟩
  ·exfalso
   cases kQ:idxs ops.size listed with
   | nil=>rw [kQ] at hlen; cases hlen
   | cons i l =>
    have bn:i∈idxs ops.size listed:=by rw [kQ]; simp
    obtain ⟨h1,h2⟩:=E5.1 bn;have ho:ops[i]?=some ops[i]:=Array.getElem?_eq_getElem h1;have:i∈Region.ready .any ops listed:=by
     refine mem_ready.2 ⟨h2,ops[i],ho,λ e he hb=>?_⟩;have bf:=(hM i _ ho).1 e he hb;cases hle:listed.getD e.on true with
     | true =>
      have:e.on<listed.size:=by omega
      simp [this] at hle ⊢; exact hle
     | false =>
      exfalso;have jS:e.on∈idxs ops.size listed:=E5.2 ⟨by omega,hle⟩;have hs:=BW ops.size listed;rw [kQ] at hs jS;rcases List.mem_cons.1 jS with e1|e1
      ·omega
      ·have:=(List.pairwise_cons.1 hs).1 _ e1; omega
    rw [hr] at this;cases this
  ·obtain ⟨h1,o,ho,aV⟩:=mem_ready.1 hi
   have dv:i<ops.size:=(Array.getElem?_eq_some_iff.1 ho).1;have bn:i∈idxs ops.size listed:=E5.2 ⟨dv,h1⟩;obtain ⟨pre,post,e1,bf,e2⟩:=JN bn;have er:rem ops (pre++i::post)=rem ops pre++o::rem ops post:=by simp [rem,List.filterMap_append,ho]
   have er2:rem ops (pre++post)=rem ops pre++rem ops post:=by simp [rem,List.filterMap_append]
   rw [e1] at fe fA aP;have fi:∀ j∈pre,((D4 ops.toList []).getD i 0).testBit j=false/\∀ x,ops[j]?=some x->indep ops x o=true:=by
    intro j hj;have gg:((D4 ops.toList []).getD i 0).testBit j=false:=by
     cases hm:((D4 ops.toList []).getD i 0).testBit j with
     | false=>rfl
     | true =>
      exfalso;have iU:=Ey (M:=λ i=>(D4 ops.toList []).getD i 0) (λ i o ho=>⟨(hM i o ho).1,(hM i o ho).2.1⟩) cJ i o ho aV j (by have:=bf j hj; omega) hm;have:j∈idxs ops.size listed:=by rw [e1]; simp [hj]
      have:=(E5.1 this).2;rw [T9 iU] at this;cases this
    refine ⟨gg,λ x hx=>?_⟩;rcases (hM i o ho).2.2 j x (bf j hj) hx with hm|hm
    ·rw [gg] at hm; cases hm
    ·exact hm
   have pS:M6 s (rem ops (nl ops (pre++post))):=fA.sub (λ y hy=>by
    rw [Mt,Bj] at hy ⊢;rcases List.mem_append.1 hy with hy|hy
    ·exact List.mem_append_left _ hy
    ·refine List.mem_append_right _ ?_
     obtain ⟨j,j1,j2⟩:=List.mem_filterMap.1 hy;obtain ⟨j3,j4⟩:=List.mem_filter.1 j1;exact List.mem_filterMap.2 ⟨j,List.mem_filter.2 ⟨List.mem_cons_of_mem _ j3,j4⟩,j2⟩)
   obtain ⟨p,s1,s2,k1,k2,k3,k4,_⟩:=Dq ho fe fi hu (fA.sub (λ y hy=>by
    rw [Mt,Bj,UH dv bf (λ j hj=>(fi j hj).1)]; exact List.mem_append_left _ hy)) aP
   rw [er] at fe;have aG:=(BJ aX dv).trans e2;have gE:N1 (rem ops pre++rem ops post)/\∀ x∈rem ops pre++rem ops post,∀ d,x.dst=some d->o.dst≠some d:=by
    have:∀ {A C:List Oper},N1 (A++o::C)->N1 (A++C)/\∀ x∈A++C,∀ d,x.dst=some d->o.dst≠some d:=by
     intro A
     induction A with
     | nil=>intro C h; exact ⟨h.2,λ x hx d fZ gT=>h.1 d gT x hx fZ⟩
     | cons y A ih =>
      intro C h;obtain ⟨m1,m2⟩:=ih h.2;refine ⟨⟨λ d hd x hx=>h.1 d hd x (by simp at hx ⊢; rcases hx with hx|hx<;>simp [hx]),m1⟩,λ x hx d fZ gT=>?_⟩;rcases List.mem_cons.1 hx with rfl|hx
      ·exact h.1 d fZ o (by simp) gT
      ·exact m2 x hx d fZ gT
    exact this fe
   have eU:=KL hE hn cr (ops:=ops) o (k:=λ x=>Tree.cut .skip [] x) (L:=λ _ _ x=>x=s1) (Rt:=λ _=>True) (BC.2 ⟨p,s1,k1,k2,rfl⟩)
    (next:=wpAny E.P .any ops Q fuel (listed.setIfInBounds i true)) (Q:=Q) (λ S' ι' x a' w' hx kn=>by
     have kn:x=s1:=kn;subst kn;refine ih (listed.setIfInBounds i true) S' ι' x s2 a' w' (by simp [aX]) ?_ ?_ ?_ (O7 hu k1) ?_ ?_ (k4.trans he) hx
     ·rw [aG]; rw [e1] at hlen; simp at hlen ⊢; omega
     ·intro k y hy hk e' eC cU
      by_cases gz:k=i
      ·subst gz
       rw [ho] at hy; cases hy;exact getD_set_true (aV e' eC cU)
      ·rw [getD_set_ne true (Ne.symm gz)] at hk
       exact getD_set_true (cJ k y hy hk e' eC cU)
     ·rw [aG,er2]; exact gE.1
     ·rw [aG]
      exact M6.step hu pS (λ y hy=>gE.2 y (by rw [<- er2]; exact UI y hy)) k1
     ·rw [aG]; exact k3)
   unfold wpOp;rw [ho];simp only
   split
   ·rename_i hw; rw [if_pos hw] at eU; exact .inl eU
   ·rename_i hw; rw [if_neg hw] at eU; exact eU
theorem filterMap_some {α β:Type _} {f:α->Option β} {g:α->β}:∀ {l:List α},(∀ i∈l,f i=some (g i))->l.filterMap f=l.map g
 | [],_=>rfl
 | x::l,h=>by rw [List.filterMap_cons,h x (by simp)]; simp [filterMap_some (l:=l) (λ i hi=>h i (by simp [hi]))]
theorem DA:rem ops (idxs ops.size (Array.replicate ops.size false))=ops.toList:=by
 have:idxs ops.size (Array.replicate ops.size false)=List.range ops.size:=by
  unfold idxs;refine List.filter_eq_self.2 (λ i hi=>?_);have:i<ops.size:=List.mem_range.1 hi;simp [this]
 rw [this];unfold rem;apply List.ext_getElem?;intro i;have e:(List.range ops.size).filterMap (λ i=>ops[i]?)=(List.range ops.size).map (λ i=>ops.getD i default):=filterMap_some (λ i hi=>by
  have:i<ops.size:=List.mem_range.1 hi;simp [this])
 rw [e];by_cases hi:i<ops.size
 ·simp [hi]
 ·simp [hi]
theorem Bt:∀ {l:List Oper},BR (vS l)=true->N1 l
 | [],_=>trivial
 | o::l,h=>by
  cases hd:o.dst with
  | none =>
   have:vS (o::l)=vS l:=by simp [vS,hd]
   rw [this] at h;exact ⟨λ d ec=>(by rw [hd] at ec; cases ec),Bt h⟩
  | some d =>
   have:vS (o::l)=d::vS l:=by simp [vS,hd]
   rw [this] at h;simp only [BR,Bool.and_eq_true,Bool.not_eq_true'] at h;refine ⟨λ d' ec x hx fZ=>?_,Bt h.2⟩;rw [hd] at ec;cases ec;have:d∈vS l:=List.mem_filterMap.2 ⟨x,hx,fZ⟩;have h1:=h.1;simp [this] at h1
theorem xZ:idxs ops.size (Array.replicate ops.size false)=List.range ops.size:=by
 unfold idxs;refine List.filter_eq_self.2 (λ i hi=>?_);have:i<ops.size:=List.mem_range.1 hi;simp [this]
theorem XR {o:Oper} {l:List Nat} (ho:o∈rem ops (nl ops l)) {d:Nat} (hd:o.dst=some d):d∈vS ops.toList.dropLast:=by
 obtain ⟨j,j1,j2⟩:=List.mem_filterMap.1 ho;have j4:j+1<ops.size:=b7E (by simpa using (List.mem_filter.1 j1).2);refine List.mem_filterMap.2 ⟨o,List.mem_of_getElem? (i:=j) ?_,hd⟩;rw [List.getElem?_dropLast,if_pos (by simp; omega)];simpa using j2
theorem b5l (hE:C6 E B) (hn:B.n=E.nt) {id:Nat} (hd:(wm ops && Bg ops s && E.P.follows .mixedOrders)=true) {Q:Exit->Act->World->Prop} {s':St} (hr:Z9 E ops (λ i=>(D4 ops.toList []).getD i 0) [] (List.range' 0 ops.toList.length) s s')
  (hQ:∀ S ι a w,RS B S ι s' a w->Q .normal a w) (h:RS B S ι s a w):(Code.region id ops true).wp E.P Q a w:=by
 simp only [Bool.and_eq_true,Bg,List.all_eq_true] at hd;obtain ⟨⟨h1,⟨h2,h3⟩,h4⟩,h5⟩:=hd;refine wp_region_any h5 ?_;have hlen:(idxs ops.size (Array.replicate ops.size false)).length=ops.size:=by
  rw [xZ]; simp
 refine Sh hE hn h1 hQ ops.size _ S ι s s' a w.drew (by simp) hlen ?_ ?_ (r8 h2) ?_ ?_ (L7.refl _) (h.uW E9.nil E4.drew)
 ·intro k o hk hl
  have:k<ops.size:=(Array.getElem?_eq_some_iff.1 hk).1;simp [this] at hl
 ·rw [DA]; exact Bt h3
 ·intro o ho d hd
  exact h4 d (XR ho hd)
 ·rw [xZ,List.range_eq_range']
  simpa using hr
theorem b33 (hE:C6 E B) (hn:B.n=E.nt) {id:Nat} (hd:(wm ops && Ij ops s && E.P.follows .mixedOrders)=true) {Q:Exit->Act->World->Prop} {s':St} (hr:Z9 E ops (λ i=>(D4 ops.toList []).getD i 0) [] (List.range' 0 ops.toList.length) s s')
  (hQ:∀ S ι a w,RS B S ι s' a w->Q .normal a w) (h:RS B S ι s a w):(Code.region id ops true).wp E.P Q a w:=by
 simp only [Bool.and_eq_true,Ij,List.all_eq_true,List.mem_range] at hd;obtain ⟨⟨h1,⟨h2,h3⟩,h4⟩,h5⟩:=hd;refine wp_region_any h5 ?_;have hlen:(idxs ops.size (Array.replicate ops.size false)).length=ops.size:=by
  rw [xZ]; simp
 refine Sh hE hn h1 hQ ops.size _ S ι s s' a w.drew (by simp) hlen ?_ ?_ (r8 h2) ?_ ?_ (L7.refl _) (h.uW E9.nil E4.drew)
 ·intro k o hk hl
  have:k<ops.size:=(Array.getElem?_eq_some_iff.1 hk).1;simp [this] at hl
 ·rw [DA]; exact Bt h3
 ·intro o ho d hd
  obtain ⟨j,j1,j2⟩:=List.mem_filterMap.1 ho;have j3:=(List.mem_filter.1 j1).2;have hj:j<ops.size:=(Array.getElem?_eq_some_iff.1 j2).1;have:=h4 j hj;simp only [Bool.not_eq_true'] at j3;simp only [j2,hd,j3,Bool.false_or] at this;exact this
 ·rw [xZ,List.range_eq_range']
  simpa using hr
theorem QP {M:List Nat} {k:St->Tree (E.rs++E1 E.ps)} {L:Code->List Item->St->Prop} {R:DL (E.rs++E1 E.ps)->Prop}:∀ {l:List Oper} {n:Nat} {s:St} {acc:List Met} {bJ:List (Nat×St)},ops.toList.drop n=l ->
  (∀ e∈bJ,∃ m∈acc,m.i=e.1/\ops[e.1]?=some m.o/\m.s=e.2/\m.T=j9 E m.o e.2)->(CD E ops M n l s acc k).holds L R ->
  ∃ s',Z9 E ops (λ i=>M.getD i 0) bJ (List.range' n l.length) s s'/\(k s').holds L R
 | [],n,s,acc,bJ,_,_,h=>⟨s,rfl,h⟩
 | o::l,n,s,acc,bJ,hl,ha,h=>by
  obtain ⟨ho,ez,_⟩:=a24 hl;simp only [CD] at h;split at h
  ·exact h.elim
  ·rename_i bH
   obtain ⟨p,s1,h1,h2,h3⟩:=BC.1 h;obtain ⟨s',k1,k2⟩:=QP (bJ:=(n,s)::bJ) ez (λ e he=>by
    rcases List.mem_cons.1 he with rfl|he
    ·exact ⟨_,List.mem_cons_self ..,rfl,ho,rfl,rfl⟩
    ·obtain ⟨m,hm,r⟩:=ha e he; exact ⟨m,List.mem_cons_of_mem _ hm,r⟩) h3
   refine ⟨s',⟨o,ho,λ e he=>?_,p,s1,h1,h2,k1⟩,k2⟩;obtain ⟨m,hm,m1,m2,m3,m4⟩:=ha e he;have:=(List.all_eq_true.1 bH) m hm;simp only [Bool.or_eq_true] at this;rcases this with this|this
   ·exact .inl (by rw [<- m1]; exact this)
   ·have hp:=HI this
    rw [m3,m4] at hp;exact .inr ⟨m.o,m2,hp⟩
end
end Go.Ex
