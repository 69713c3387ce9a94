import Derived.Test.YtijlnmgondibnaaGreatDoorExK6
import Derived.Orders
set_option linter.unusedVariables false
set_option linter.unusedSimpArgs false
set_option linter.unusedSectionVars false
namespace Go.Ex
section
variable {E:Env} {s t:St}
theorem Ma {o:Oper} {i:Nat} (h:i∈l6 E o s):∃ x∈o.op.operands.toList,(s.ev x).i8 i=true:=by
 have parts:∀ {T:TypeId} {ps:Array (Nat×Operand)},i∈(s.M2 (ps.toList.map (·.2))).I9->∃ x∈ps.toList.map (·.2),(s.ev x).i8 i=true:=by
  intro T ps h;obtain ⟨x,hx,hm⟩:=xQ (K2.1 h);exact ⟨x,by simpa using hx,hm⟩
 unfold l6 at h;cases ho:o.op with
 | store T a x =>
  rw [ho] at h;simp only [aAi,K2] at h;rcases h with h|h
  ·exact ⟨a,by simp [Op.operands],h⟩
  ·exact ⟨x,by simp [Op.operands],h⟩
 | box T x=>rw [ho] at h; exact ⟨x,by simp [Op.operands],K2.1 h⟩
 | mapUpdate T m x y=>rw [ho] at h; exact ⟨m,by simp [Op.operands],K2.1 h⟩
 | build T ps=>rw [ho] at h; simp only [Op.operands]; exact parts (T:=T) h
 | buildSlice T n ps=>rw [ho] at h; simp only [Op.operands]; exact parts (T:=T) h
 | call c =>
  rw [ho] at h;have cB:∀ x∈c.args.toList,x∈(Op.call c).operands.toList:=λ x hx=>by simp only [Op.operands,Call.operands]; simp at hx ⊢; first|exact .inr hx|exact .inl hx
  simp only at h;split at h
  ·rename_i f hc
   split at h
   ·rename_i g caps hg
    split at h
    ·split at h
     ·cases h
     ·rcases Fh (K2.1 h) with h|h
      ·obtain ⟨x,hx,hm⟩:=xQ h
       exact ⟨x,cB x hx,hm⟩
      ·exact ⟨f,by simp [Op.operands,Call.operands,hc],by rw [hg]; exact h⟩
    ·cases h
   ·split at h
    ·split at h
     ·cases h
     ·rcases Fh (K2.1 h) with h|h
      ·obtain ⟨x,hx,hm⟩:=xQ h
       exact ⟨x,cB x hx,hm⟩
      ·cases h
    ·cases h
   ·split at h
    ·split at h
     ·cases h
     ·rcases Fh (K2.1 h) with h|h
      ·obtain ⟨x,hx,hm⟩:=xQ h
       exact ⟨x,cB x hx,hm⟩
      ·cases h
    ·cases h
   ·cases h
  ·obtain ⟨x,hx,hm⟩:=xQ (K2.1 h)
   exact ⟨x,cB x hx,hm⟩
  ·obtain ⟨x,hx,hm⟩:=xQ (K2.1 h)
   exact ⟨x,cB x hx,hm⟩
  ·obtain ⟨x,hx,hm⟩:=xQ (K2.1 h)
   exact ⟨x,cB x hx,hm⟩
  ·cases h
 | _=>rw [ho] at h; cases h
theorem Kb {o:Oper} (h:∀ x∈o.op.operands.toList,t.ev x=s.ev x):l6 E o t=l6 E o s:=by
 unfold l6;cases ho:o.op with
 | store T a x=>rw [ho] at h; simp only [h a (by simp [Op.operands]),h x (by simp [Op.operands])]
 | box T x=>rw [ho] at h; simp only [h x (by simp [Op.operands])]
 | mapUpdate T m x y=>rw [ho] at h; simp only [h m (by simp [Op.operands])]
 | build T ps =>
  rw [ho] at h;simp only;rw [AM (s:=s) (t:=t) (λ x hx=>h x (by simp only [Op.operands]; simpa using hx))]
 | buildSlice T n ps =>
  rw [ho] at h;simp only;rw [AM (s:=s) (t:=t) (λ x hx=>h x (by simp only [Op.operands]; simpa using hx))]
 | call c =>
  rw [ho] at h;have cB:∀ x∈c.args.toList,x∈(Op.call c).operands.toList:=λ x hx=>by simp only [Op.operands,Call.operands]; simp at hx ⊢; first|exact .inr hx|exact .inl hx
  have he:=AM (s:=s) (t:=t) (λ x hx=>h x (cB x hx));simp only [he]
  split
  ·rename_i f hc
   rw [h f (by simp [Op.operands,Call.operands,hc])]
  ·rfl
  ·rfl
  ·rfl
  ·rfl
 | _=>rfl
def F8 (E:Env) (o:Oper) (s:St) (p:Prop) (v:AV):Prop :=
 ∃ ids f h,Trim (l6 E o s) f/\V1 s ids/\(∀ n∈ids,n % 1000=(o.dst.getD 0) % 1000) /\
  (∀ i,v.i8 i=true->(∃ x∈o.op.operands.toList,(s.ev x).i8 i=true)\/i∈ids) /\
  ∀ t,uniq t.fr->vL s t o.op.operands.toList->V1 t ids->∃ t1,(n6 E o t).get=some (p,v,t1)/\uniq t1.fr/\Nk t t1 (l6 E o s) ids f h
theorem Be {o:Oper} (ha:vL s t o.op.operands.toList) {i:Nat} (hi:i∈l6 E o s):look i t.hp=look i s.hp:=by
 obtain ⟨x,hx,hm⟩:=Ma hi;exact (ha x hx).2 i hm
theorem F8.ro {o:Oper} {p:Prop} {v:AV} {s1:St} (h:(n6 E o s).get=some (p,v,s1)) (h1:∀ t,vL s t o.op.operands.toList->n6 E o t=(n6 E o s).xu t) (h2:∀ i,(n6 E o s).av.i8 i=true->∃ x∈o.op.operands.toList,(s.ev x).i8 i=true):F8 E o s p v:=by
 refine ⟨[],λ u=>u,λ i=>look i s.hp,Trim.id _,by simp [V1],by simp,?_,?_⟩
 ·intro i hi
  refine .inl (h2 i ?_);cases hr:n6 E o s<;>rw [hr] at h<;>simp [OR.get] at h
  ·rw [<- h.2.1] at hi; exact hi
  ·rw [<- h.2.1] at hi; exact hi
 ·intro t hu ha _
  refine ⟨t,?_,hu,⟨λ n=>by simp,λ i=>?_⟩⟩
  ·rw [h1 t ha]
   cases hr:n6 E o s<;>rw [hr] at h<;>simp only [OR.get,aAc,aBb] at h
   ·cases h
   ·obtain ⟨rfl,rfl,_⟩:=h; rfl
   ·obtain ⟨rfl,rfl,_⟩:=h; rfl
  ·split
   ·rename_i hi; exact Be ha (by simpa using hi)
   ·rfl
theorem Re {d:Nat} (hu:uniq t.fr) (h:V1 t [d]):t.fresh d=true:=by
 simp only [St.fresh,aAa,aCr];exact ⟨(h d (by simp)).1,FN hu (h d (by simp)).2⟩
theorem RH {d:Nat} (h:s.fresh d=true):V1 s [d]:=by
 obtain ⟨k1,k2⟩:=FG h;intro n hn;simp only [aAq,aEq,or_false] at hn;subst hn;exact ⟨k1,k2⟩
theorem c4f {T g:List Nat} {d:Nat} {e:g9} (hg:∀ i∈g,i∈T) (ha:∀ i∈T,look i t.hp=look i s.hp):Nk t ((St.B9 g t).y9 d e) T [d] (yk g) (λ i=>if i=d then some e else if i∈g then none else look i s.hp):=by
 refine ⟨λ n=>Dt,λ i=>?_⟩;show look i (Ex.put d e (St.B9 g t).hp)=_;rw [p9,K7];by_cases h1:i=d
 ·simp [h1]
 ·by_cases h3:i∈g
  ·have:=hg i h3; simp [h1,h3,this]
  ·by_cases h2:i∈T
   ·simp [h1,h3,h2,ha i h2]
   ·simp [h1,h2,h3]
theorem F8.obj {o:Oper} {p:Prop} {d:Nat} (hd:o.dst=some d) {e:g9} {v:AV} {g:List Nat} (hv:∀ i,v.i8 i=true->i=d) (hf:s.fresh d=true) (hg:∀ i∈g,i∈l6 E o s)
  (h:∀ t,vL s t o.op.operands.toList->uniq t.fr->t.fresh d=true->(n6 E o t).get=some (p,v,(St.B9 g t).y9 d e)):F8 E o s p v:=by
 refine ⟨[d],yk g,(λ i=>if i=d then some e else if i∈g then none else look i s.hp),(Trim.B9 g).mono hg,RH hf,by simp [hd],λ i hi=>.inr (by simp [hv i hi]),?_⟩;intro t hu ha hn;exact ⟨_,h t ha hu (Re hu hn),Dn (g:=g) hu,c4f hg (λ i hi=>Be ha hi)⟩
theorem OS {d:Nat} {g:List Nat} {u:Ty} {x:u.den} {v:AV} {s':St} (hl:s.lay d g u x=.ok v s'):s.fresh d=true/\v=.at_ d []/\s'=(St.B9 g s).y9 d (.own u x)/\(xp g && (g.all λ i=>!pinned i))=true:=by
 unfold St.lay at hl;split at hl
 ·cases hl
 ·rename_i hc
  simp only [aAa] at hc;split at hl
  ·cases hl; exact ⟨hc.2,rfl,rfl,by simp only [aAa]; exact hc.1⟩
  ·cases hl
theorem NL {d:Nat} {g:List Nat} {u:Ty} {x:u.den} (hf:t.fresh d=true) (hg:(xp g && (g.all λ i=>!pinned i))=true):t.lay d g u x=.ok (.at_ d []) ((St.B9 g t).y9 d (.own u x)):=by
 unfold St.lay;have h2:(St.B9 g t).fresh d=true:=by
  simp only [St.fresh,aAa,aCr] at hf ⊢;refine ⟨by rw [K7]; split<;>first|rfl|exact hf.1,MN hf.2⟩
 simp only [hg,hf,h2,aHe]
theorem F8.lay {o:Oper} {p:Prop} {v:AV} {s1:St} {d:Nat} (hd:o.dst=some d) {g:List Nat} {u:Ty} {x:u.den} {W:OR->OR} (hW:∀ v s,(W (.ok v s)).get=some (p,v,s)) (hF:∀ y,(W (.fail y)).get=none) (hg:∀ i∈g,i∈l6 E o s)
  (h:(n6 E o s).get=some (p,v,s1)) (h1:∀ t,vL s t o.op.operands.toList->n6 E o t=W (t.lay d g u x)):F8 E o s p v:=by
 rw [h1 s (.refl _ _)] at h;cases hl:s.lay d g u x with
 | fail y=>rw [hl,hF] at h; cases h
 | H3 q v s'=>exact absurd hl xD
 | ok v' s' =>
  rw [hl,hW] at h;cases h;obtain ⟨k1,rfl,rfl,k4⟩:=OS hl;refine F8.obj hd (e:=.own u x) (g:=g) (λ i hi=>by simpa [AV.i8] using hi) k1 hg (λ t ha hu hf=>?_);rw [h1 t ha,NL hf k4,hW]
theorem Ce {q p:Prop} {r:OR} {v:AV} {s1:St} (h:(r.f8 q).get=some (p,v,s1)) (hr:∀ q' v' s',r≠.H3 q' v' s'):p=q:=by
 cases r with
 | fail y=>cases h
 | ok v s=>simp only [OR.f8,OR.get,aAc,aBb] at h; exact h.1.symm
 | H3 q' v' s'=>exact absurd rfl (hr q' v' s')
theorem ZG {T:TypeId} {a:AV} (h:Alike s t a):vN E T a t=(vN E T a s).xu t:=by
 unfold vN;cases a with
 | ptr i p =>
  simp only [L7 (h i (by simp [AV.i8]))]
  repeat' (first|rfl|split)
 | _=>first|rfl|(dsimp only; split<;>rfl)
theorem c1w {T:TypeId} {a:AV} {i:Nat} (h:(vN E T a s).av.i8 i=true):a.i8 i=true:=by
 unfold vN at h;cases a with
 | ptr j p =>
  simp only at h
  repeat' (split at h)
  all_goals first|exact h|(cases h; done)
 | _ =>
  simp only at h
  repeat' (split at h)
  all_goals first|exact h|(cases h; done)
theorem JT {i:Nat}:∀ {n:Nat} {l v:AV},n6.nth n l=some v->v.i8 i=true->l.i8 i=true
 | 0,l,v,h,hv=>by
  cases l<;>simp only [n6.nth] at h<;>first|cases h|skip
  simp [AV.i8,hv]
 | n+1,l,v,h,hv=>by
  cases l<;>simp only [n6.nth] at h<;>first|cases h|skip
  simp [AV.i8,JT h hv]
theorem Xq (d k:Nat):R4 d k % 1000=d % 1000:=by unfold R4; omega
theorem Px {d j k:Nat} (h:R4 d j=R4 d k):j=k:=by unfold R4 at h; omega
theorem Md:∀ {ts:List Ty} {x:DL ts} {d j:Nat} {hp:List (Nat×g9)} {l:AV} {cI:List (Nat×g9)},Z4 ts x d j hp=some (l,cI) ->
  (∀ i,l.i8 i=true->∃ k,j<=k/\k<j+ts.length/\i=R4 d k) /\
  ∃ h:Nat->Option g9,∀ h2,(∀ k,j<=k->k<j+ts.length->look (R4 d k) h2=none)->∃ fQ,Z4 ts x d j h2=some (l,fQ)/\∀ i,look i fQ=(match h i with|some e=>some e|none=>look i h2)/\((h i).isSome->∃ k,j<=k/\k<j+ts.length/\i=R4 d k)
 | [],x,d,j,hp,l,cI,h=>by
  simp only [Z4,aAc,aBb] at h;obtain ⟨rfl,rfl⟩:=h;exact ⟨by simp [AV.i8],λ _=>none,λ h2 _=>⟨h2,rfl,λ i=>⟨rfl,by simp⟩⟩⟩
 | u::ts,x,d,j,hp,l,cI,h=>by
  simp only [Z4] at h;split at h
  ·rename_i hs
   split at h
   ·rename_i l' fo eE
    cases h;obtain ⟨k1,h,k2⟩:=Md eE;refine ⟨λ i hi=>?_,h,λ h2 hh=>?_⟩
    ·obtain ⟨k,m1,m2,m3⟩:=k1 i (by simpa [AV.i8] using hi)
     exact ⟨k,by omega,by simp only [aAh]; omega,m3⟩
    ·obtain ⟨fQ,e1,e2⟩:=k2 h2 (λ k jT fp=>hh k (by omega) (by simp only [aAh]; omega))
     refine ⟨fQ,by simp only [Z4,hs,e1],λ i=>⟨(e2 i).1,λ hi=>?_⟩⟩;obtain ⟨k,m1,m2,m3⟩:=(e2 i).2 hi;exact ⟨k,by omega,by simp only [aAh]; omega,m3⟩
   ·cases h
  ·rename_i hs
   split at h
   ·cases h
   ·rename_i dn
    split at h
    ·rename_i l' fo eE
     cases h;obtain ⟨k1,h,k2⟩:=Md eE;refine ⟨λ i hi=>?_,λ i=>if i=R4 d j then some (wu u x.1 (R4 d j)).1 else h i,λ h2 hh=>?_⟩
     ·simp only [AV.i8,aBr] at hi
      rcases hi with hi|hi
      ·refine ⟨j,aAk _,by simp,?_⟩
       rcases Ky u x.1 (R4 d j) with e|⟨g,_,_,_,e⟩
       ·rw [e] at hi; exact aAe hi
       ·rw [e] at hi
        cases g with
        | none=>exact aAe hi
        | some f =>
         have hi:(Nat.beq i (R4 d j) || false)=true:=hi;rw [aDj] at hi;exact aAe hi
      ·obtain ⟨k,m1,m2,m3⟩:=k1 i hi
       exact ⟨k,by omega,by simp only [aAh]; omega,m3⟩
     ·have e0:look (R4 d j) h2=none:=hh j (aAk _) (by simp)
      obtain ⟨fQ,e1,e2⟩:=k2 (put (R4 d j) (wu u x.1 (R4 d j)).1 h2) (λ k jT fp=>by
       rw [p9,if_neg (λ e=>by have:=Px e; omega)];exact hh k (by omega) (by simp only [aAh]; omega))
      refine ⟨fQ,by simp only [Z4,hs,e0,e1],λ i=>⟨?_,λ hi=>?_⟩⟩
      ·rw [(e2 i).1,p9]
       by_cases he:i=R4 d j
       ·simp only [he,if_true]
        cases tJ:h (R4 d j) with
        | none=>rfl
        | some e =>
         exfalso;obtain ⟨k,m1,m2,m3⟩:=(e2 (R4 d j)).2 (by rw [tJ]; rfl);have:=Px m3; omega
       ·simp only [if_neg he]
      ·by_cases he:i=R4 d j
       ·exact ⟨j,aAk _,by simp,he⟩
       ·simp only [if_neg he] at hi
        obtain ⟨k,m1,m2,m3⟩:=(e2 i).2 hi;exact ⟨k,by omega,by simp only [aAh]; omega,m3⟩
    ·cases h
theorem LQ {d:Nat}:∀ {n:Nat} {fr:List (Nat×AV)},(∀ k,k<n->wP (R4 d k) fr=true)->yq d n fr=true
 | 0,_,_=>rfl
 | n+1,fr,h=>by
  simp only [yq,aAa];exact ⟨h n (by omega),LQ (λ k hk=>h k (by omega))⟩
theorem LR {d:Nat}:∀ {n:Nat} {hp:List (Nat×g9)},AP d n hp=true↔∀ k,k<n->look (R4 d k) hp=none
 | 0,_=>by simp [AP]
 | n+1,hp=>by
  simp only [AP,aAa,aCr,LR (n:=n)];constructor
  ·rintro ⟨h1,h2⟩ k hk
   by_cases e:k=n
   ·subst e; exact h1
   ·exact h2 k (by omega)
  ·intro h; exact ⟨h n (by omega),λ k hk=>h k (by omega)⟩
theorem ZJ {i:Nat} {l:AV} (h:l.one.i8 i=true):l.i8 i=true:=by
 unfold AV.one at h;split at h
 ·simp [AV.i8,h]
 ·exact h
theorem yV:∀ {ks:List PK} {y:DL (F9 ks)} {m:List Nat} {s1:St},wr ks y m s=some s1 ->
  (m=[]/\∀ t,wr ks y m t=some t)\/∃ i ow e,m=[i]/\∀ t,wr ks y m t=some ((t.vR i ow).y9 i e)
 | [],y,m,s1,h=>by
  cases m with
  | nil=>exact .inl ⟨rfl,λ t=>rfl⟩
  | cons i m=>cases h
 | k::ks,y,m,s1,h=>by
  cases k with
  | rw u =>
   match m,h with
   | [],h=>cases h
   | [i],h =>
    simp only [wr] at h;split at h
    ·rename_i hw
     exact .inr ⟨i,false,.var u y.1,rfl,λ t=>by simp only [wr,hw]⟩
    ·cases h
   | i::j::m,h=>cases h
  | mu u =>
   match m,h with
   | [],h=>cases h
   | [i],h =>
    simp only [wr] at h;split at h
    ·rename_i hw
     exact .inr ⟨i,true,.own (.d0 true u) y.1,rfl,λ t=>by simp only [wr,hw]⟩
    ·cases h
   | i::j::m,h=>cases h
  | v u=>cases m<;>exact yV (ks:=ks) h
  | X4=>cases m<;>exact yV (ks:=ks) h
  | rcs f n=>cases m<;>exact yV (ks:=ks) h
  | el q=>cases m<;>exact yV (ks:=ks) h
  | rd u=>cases m<;>exact yV (ks:=ks) h
  | D9 f ts=>cases m<;>exact yV (ks:=ks) h
  | own u=>cases m<;>exact yV (ks:=ks) h
end
end Go.Ex
namespace Go.Ex
section
variable {E:Env} {s t:St}
theorem yr {c:Call} {x:Operand} (hx:x∈c.args.toList):x∈(Op.call c).operands.toList:=by
 simp only [Op.operands,Call.operands]; simp at hx ⊢; first|exact .inr hx|exact .inl hx
def gq (m:Nat) (v:AV):AV:=match Nat.beq m K3 with|true=>.any|false=>v
theorem AL {s:St} {m:Nat}:s.ev (.tmp m)=gq m (s.get m):=rfl
theorem Gg {s:St} {m i:Nat} (h:(s.ev (.tmp m)).i8 i=true):(s.get m).i8 i=true:=by
 rw [AL] at h;unfold gq at h;split at h
 ·cases h
 ·exact h
theorem Aa {s t:St} {m:Nat} (h:t.get m=s.get m):t.ev (.tmp m)=s.ev (.tmp m):=congrArg (gq m) h
theorem XC {s:St} {m:Nat} {v:AV} (hb:Nat.beq m K3=false) (h:s.get m=v):s.ev (.tmp m)=v:=by
 rw [AL,h]; unfold gq; rw [hb]
theorem Dk {s:St} {m:Nat} {v:AV} (h:s.ev (.tmp m)=v) (hv:v≠.any):s.get m=v:=by
 rw [AL] at h;unfold gq at h;split at h
 ·exact absurd h.symm hv
 ·exact h
theorem c1K {s:St} {m:Nat} {v:AV} (h:s.ev (.tmp m)=v) (hv:v≠.any):Nat.beq m K3=false:=by
 rw [AL] at h;unfold gq at h;split at h
 ·exact absurd h.symm hv
 ·assumption
theorem Lc {o:Oper} {c:Call} (ho:o.op=.call c) {f:Operand} (hc:c.callee=.value f) {W:OR->OR} {π:Prop->Prop} (hW:∀ r,(W r).get=r.get.map (λ x=>(π x.1,x.2.1,x.2.2))) {g:FuncId} {caps fv:AV} (hg:s.ev f=fv) (eh:∀ i,caps.i8 i=true->fv.i8 i=true)
  (he:∀ t,t.ev f=fv->n6 E o t=W (U7 E g ((t.M2 c.args.toList).app caps) o.dst t))
  (hT:l6 E o s=(match look g E.E3 with
    | some c'=>(match c'.ps.any PK.l6 with
     | false=>[]
     | true=>((s.M2 c.args.toList).app caps).I9)
    | none=>[])) {p:Prop} {v:AV} {s1:St} (h:(n6 E o s).get=some (p,v,s1)):F8 E o s p v:=by
 have gD:f∈o.op.operands.toList:=by rw [ho]; simp [Op.operands,Call.operands,hc]
 have cS:∀ x∈c.args.toList,x∈o.op.operands.toList:=λ x hx=>by rw [ho]; exact yr hx
 rw [he s hg,hW] at h;obtain ⟨q,h,hq⟩:∃ q,(U7 E g ((s.M2 c.args.toList).app caps) o.dst s).get=some (q,v,s1)/\π q=p:=by
  cases hr:(U7 E g ((s.M2 c.args.toList).app caps) o.dst s).get with
  | none=>rw [hr] at h; cases h
  | some x =>
   rw [hr] at h;simp only [aBh,aAc,aBb] at h;exact ⟨x.1,by rw [<- h.2.1,<- h.2.2],h.1⟩
 have aF:∀ i,((s.M2 c.args.toList).app caps).i8 i=true->∃ x∈o.op.operands.toList,(s.ev x).i8 i=true:=by
  intro i hi;rcases Fh hi with hi|hi
  ·obtain ⟨x,hx,hi⟩:=xQ hi; exact ⟨x,cS x hx,hi⟩
  ·exact ⟨f,gD,by rw [hg]; exact eh i hi⟩
 generalize rT:(s.M2 c.args.toList).app caps=av at h aF hT;unfold U7 at h;split at h
 ·cases h
 ·rename_i c' dn
  rw [dn] at hT;simp only at hT;split at h
  ·cases h
  ·rename_i x gs m hx
   obtain ⟨jQ,kx⟩:=Sm hx;have ju:∀ i,i∈gs++m->i∈l6 E o s:=by
    intro i hi;rw [hT];cases hp:c'.ps.any PK.l6 with
    | true=>exact K2.2 (jQ i hi)
    | false=>obtain ⟨r1,r2⟩:=kx hp; rw [r1,r2] at hi; cases hi
   split at h
   ·cases h
   ·rename_i cd
    obtain ⟨lN,fF⟩:=(aHt).1 cd;obtain ⟨gC,sX⟩:=(aHt).1 fF;split at h
    ·cases h
    ·rename_i s2 oZ
     split at h
     ·cases h
     ·rename_i hm
      split at h
      ·rename_i l hp pZ
       simp only [OR.get,aAc,aBb] at h;obtain ⟨rfl,rfl,_⟩:=h;obtain ⟨k3,h3,k4⟩:=Md pZ;simp only [aEz,aAr,true_and] at k3 k4;have lB:∀ {t:St},V1 t ((List.range c'.rs.length).map (R4 (o.dst.getD 0)))->∀ k,k<c'.rs.length->look (R4 (o.dst.getD 0) k) t.hp=none:=λ hn k hk=>(hn _ (aDa.2 ⟨k,by simpa using hk,rfl⟩)).1;have hw:∃ (f:AV->AV) (h:Nat->Option g9),Trim (l6 E o s) f/\(∀ i,i∉l6 E o s->h i=none)/\∀ t,uniq t.fr->(∀ i∈l6 E o s,look i t.hp=look i s.hp)->∃ t2,wr c'.ps (c'.out x) m (St.B9 gs t)=some t2/\uniq t2.fr/\(∀ n,look n t2.fr=(look n t.fr).map f)/\∀ i,look i t2.hp=if i∈l6 E o s then h i else look i t.hp:=by
        rcases yV oZ with ⟨rfl,hw⟩|⟨i0,ow,e,rfl,hw⟩
        ·refine ⟨yk gs,λ i=>if i∈l6 E o s then (if i∈gs then none else look i s.hp) else none,(Trim.B9 gs).mono (λ i hi=>ju i (by simp [hi])),λ i hi=>by simp [hi],λ t hu ha=>⟨_,hw _,Dn hu,λ n=>Dt,λ i=>?_⟩⟩
         rw [K7];by_cases h1:i∈gs
         ·simp [h1,ju i (by simp [h1])]
         ·by_cases h2:i∈l6 E o s
          ·simp [h1,h2,ha i h2]
          ·simp [h1,h2]
        ·have nH:i0∈l6 E o s:=ju i0 (by simp)
         refine ⟨λ u=>AV.map (AV.ym i0 ow) (yk gs u),λ i=>if i∈l6 E o s then (if i=i0 then some e else if i∈gs then none else look i s.hp) else none,
          Trim.comp (Trim.B9 gs) (Trim.vR i0 ow) (λ i hi=>ju i (by simp [hi])) (by simpa using nH),λ i hi=>by simp [hi],λ t hu ha=>⟨_,hw _,Da (Dn hu),λ n=>?_,λ i=>?_⟩⟩
         ·show look n (mapA _ (St.B9 gs t).fr)=_
          rw [R7,Dt,aEo]; rfl
         ·show look i (Ex.put i0 e (St.B9 gs t).hp)=_
          rw [p9,K7];by_cases h0:i=i0
          ·subst h0; simp [nH]
          ·by_cases h1:i∈gs
           ·simp [h0,h1,ju i (by simp [h1])]
           ·by_cases h2:i∈l6 E o s
            ·simp [h0,h1,h2,ha i h2]
            ·simp [h0,h1,h2]
       obtain ⟨f0,h0,w1,w2,w3⟩:=hw;refine ⟨(List.range c'.rs.length).map (R4 (o.dst.getD 0)),f0,λ i=>match h3 i with|some e=>some e|none=>h0 i,w1,?_,?_,?_,?_⟩
       ·intro n hn
        obtain ⟨k,hk,rfl⟩:=aDa.1 hn;exact ⟨LR.1 sX k (by simpa using hk),λ m w hw=>Dz (Gj gC k (by simpa using hk)) hw⟩
       ·intro n hn
        obtain ⟨k,_,rfl⟩:=aDa.1 hn;exact Xq _ _
       ·intro i hi
        obtain ⟨k,m2,rfl⟩:=k3 i (ZJ hi);exact .inr (aDa.2 ⟨k,by simpa using m2,rfl⟩)
       ·intro t hu ha hn
        have eV:Alike s t av:=λ i hi=>by obtain ⟨x,hx,hm⟩:=aF i hi; exact (ha x hx).2 i hm
        obtain ⟨t2,e1,e2,e3,e4⟩:=w3 t hu (λ i hi=>Be ha hi);have lV:∀ k,k<c'.rs.length->R4 (o.dst.getD 0) k∉l6 E o s:=by
         intro k hk bj;obtain ⟨x,hx,hm⟩:=Ma bj;obtain ⟨m',rfl,gK⟩:∃ m',x=.tmp m'/\(s.get m').i8 (R4 (o.dst.getD 0) k)=true:=by
          cases x with
          | tmp m'=>exact ⟨m',rfl,Gg hm⟩
          | const v =>
           exfalso;simp only [St.ev] at hm;unfold ofConst at hm;split at hm
           ·split at hm<;>cases hm
           ·cases hm
           ·split at hm<;>cases hm
           ·cases hm
          | global g=>cases hm
          | func f=>cases hm
         simp only [St.get] at gK;cases hl:look m' s.fr with
         | none=>rw [hl] at gK; cases gK
         | some w =>
          rw [hl] at gK;have:=Dz (Gj gC k hk) hl;simp only [Option.getD_some] at gK;rw [gK] at this; cases this
        have eQ:∀ k,k<c'.rs.length->look (R4 (o.dst.getD 0) k) t2.hp=none:=by
         intro k hk;rw [e4,if_neg (lV k hk)];exact lB hn k hk
        obtain ⟨fQ,r1,r2⟩:=k4 t2.hp (λ k _ hk=>eQ k hk);have gK:yq (o.dst.getD 0) c'.rs.length t2.fr=true:=LQ (λ k hk=>FN e2 (λ n w hw=>by
         rw [e3] at hw;cases hl:look n t.fr with
         | none=>rw [hl] at hw; cases hw
         | some u =>
          rw [hl] at hw;cases hw;cases pT:(f0 u).i8 (R4 (o.dst.getD 0) k) with
          | false=>rfl
          | true =>
           have:=(hn (R4 (o.dst.getD 0) k) (aDa.2 ⟨k,by simpa using hk,rfl⟩)).2 n u hl;rw [w1.i8 u pT] at this; cases this))
        have ll:yq (o.dst.getD 0) c'.rs.length t.fr=true:=LQ (λ k hk=>FN hu (hn _ (aDa.2 ⟨k,by simpa using hk,rfl⟩)).2);have pM:AP (o.dst.getD 0) c'.rs.length t.hp=true:=LR.2 (λ k hk=>lB hn k hk);have df:(t.M2 c.args.toList).app caps=av:=by
         rw [AM (s:=s) (t:=t) (λ x hx=>(ha x (cS x hx)).1)]; exact rT
        have tX:U7 E g av o.dst t=.H3 (c'.pre x) l.one { t2 with hp:=fQ }:=by
         unfold U7;simp only [dn,Oy (s:=s) (t:=t) eV,hx,lN,ll,pM,aHe,e1,gK,r1]
        refine ⟨{ t2 with hp:=fQ },?_,e2,⟨e3,λ i=>?_⟩⟩
        ·rw [he t ((ha f gD).1.trans hg),hW,df,tX]; simp only [OR.get,aBh,hq]
        ·show look i fQ=_
         rw [(r2 i).1,e4];cases hh:h3 i with
         | some e =>
          obtain ⟨k,hk,nG⟩:=(r2 i).2 (by rw [hh]; rfl);simp only;rw [if_pos (.inr (aDa.2 ⟨k,by simpa using hk,nG.symm⟩))]
         | none =>
          simp only;by_cases h1:i∈l6 E o s
          ·rw [if_pos h1,if_pos (.inl h1)]
          ·rw [if_neg h1]
           split
           ·rename_i hi
            rcases hi with hi|hi
            ·exact absurd hi h1
            ·obtain ⟨k,hk,rfl⟩:=aDa.1 hi
             rw [lB hn k (by simpa using hk),w2 _ h1]
           ·rfl
      ·cases h
theorem Yy {o:Oper} {c:Call} (ho:o.op=.call c) {f:Operand} (hc:c.callee=.value f) {p:Prop} {v:AV} {s1:St} (h:(n6 E o s).get=some (p,v,s1)):F8 E o s p v:=by
 have key:(∃ g caps,s.ev f=.D9 g caps)\/(∃ g b,s.ev f=.val (.fn g) b)\/∃ g t y,s.ev f=.val (.box false (some g) t) y:=by
  unfold n6 at h;rw [ho] at h;simp only [hc] at h;split at h
  ·exact .inl ⟨_,_,by assumption⟩
  ·exact .inr (.inl ⟨_,_,by assumption⟩)
  ·exact .inr (.inr ⟨_,_,_,by assumption⟩)
  ·cases h
 rcases key with ⟨g,caps,hg⟩|⟨g,b,hg⟩|⟨g,t0,y0,hg⟩
 ·refine Lc ho hc (W:=λ r=>r) (π:=λ q=>q) (g:=g) (caps:=caps) (λ r=>by cases r<;>rfl) hg (λ i hi=>hi) (λ t ht=>?_) ?_ h
  ·unfold n6
   rw [ho];simp only [hc,ht]
  ·unfold l6; rw [ho]; simp only [hc,hg]; rfl
 ·refine Lc ho hc (W:=λ r=>r.yF ((b:Bool)=true)) (π:=λ q=>(b:Bool)=true/\q) (g:=g) (caps:=.nil) (λ r=>by cases r<;>rfl) hg (λ i hi=>by cases hi) (λ t ht=>?_) ?_ h
  ·unfold n6
   rw [ho];simp only [hc,ht]
  ·unfold l6; rw [ho]; simp only [hc,hg]; rfl
 ·refine Lc ho hc (W:=λ r=>r.yF ((y0:Option t0.den).isSome=true)) (π:=λ q=>(y0:Option t0.den).isSome=true/\q) (g:=g) (caps:=.cons (.N1 t0 (Option.getD (y0:Option t0.den) t0.w5)) .nil) (λ r=>by cases r<;>rfl) hg (λ i hi=>by cases hi) (λ t ht=>?_) ?_ h
  ·unfold n6
   rw [ho];simp only [hc,ht]
  ·unfold l6; rw [ho]; simp only [hc,hg]; rfl
end
end Go.Ex
namespace Go.Ex
section
variable {E:Env} {s t:St}
theorem c03 {T:TypeId} {i:Nat} {p:List Step} {x:AV} {q:Prop} {v:AV} {s1:St} (h:(S5 E T i p x s).get=some (q,v,s1)) :
  v=.raw undef/\∃ g ow e,(∀ j∈g,x.i8 j=true)/\∀ t:St,t.obj i=s.obj i->Alike s t x->(S5 E T i p x t).get=some (q,.raw undef,((St.B9 g t).kill i ow p).y9 i e):=by
 unfold S5 at h;split at h
 ·cases h
 ·rename_i e aT
  split at h
  ·cases h
  ·rename_i u y hg
   split at h
   ·cases h
   ·rename_i bB
    have base:∀ t:St,t.obj i=s.obj i->t.obj i=some e:=λ t ht=>ht.trans aT;split at h
    ·split at h
     ·split at h
      ·rename_i r aI
       cases h;refine ⟨rfl,[],e.kd,e.F1 r,by simp,λ t ht _=>?_⟩;unfold S5;simp only [base t ht,hg,bB,aI];rfl
      ·cases h
     ·split at h
      ·rename_i r aI
       cases h;refine ⟨rfl,[],e.kd,e.F1 r,by simp,λ t ht _=>?_⟩;unfold S5;simp only [base t ht,hg,bB,aI];rfl
      ·cases h
     ·cases h
    ·rename_i j q' lo hi
     split at h
     ·split at h
      ·rename_i r aI
       split at h
       ·rename_i bS
        cases h;refine ⟨rfl,[],e.kd,e.F1 r,by simp,λ t ht _=>?_⟩;unfold S5;simp only [base t ht,hg,bB,aI,bS];rfl
       ·cases h
      ·cases h
     ·cases h
    ·rename_i x' oY so
     split at h
     ·rename_i z g cU
      split at h
      ·rename_i r aI
       split at h
       ·rename_i bS
        cases h;refine ⟨rfl,g,e.kd,e.F1 r,Gm cU,λ t ht eV=>?_⟩;have fD:=(zP eV).trans cU;unfold S5;simp only [base t ht,hg,bB];simp only [fD,aI,bS];rfl
       ·cases h
      ·cases h
     ·rename_i cU
      split at h
      ·rename_i j q'
       split at h
       ·rename_i u' y' cT
        split at h
        ·rename_i r aI
         split at h
         ·rename_i bS
          cases h;refine ⟨rfl,[],e.kd,e.F1 r,by simp,λ t ht eV=>?_⟩;have fD:=(zP eV).trans cU;have pD:=(L7 (p:=q') (eV j (by simp [AV.i8]))).trans cT;unfold S5;simp only [base t ht,hg,bB];simp only [fD,pD,aI,bS];rfl
         ·cases h
        ·cases h
       ·cases h
      ·cases h
theorem c3V {o:Oper} {T:TypeId} {a x:Operand} (ho:o.op=.store T a x) {p:Prop} {v:AV} {s1:St} (h:(n6 E o s).get=some (p,v,s1)):F8 E o s p v:=by
 have pC:∃ i q,s.ev a=.ptr i q:=by
  unfold n6 at h;rw [ho] at h;simp only at h;split at h
  ·exact ⟨_,_,by assumption⟩
  ·cases h
 obtain ⟨i,q,hp⟩:=pC;have ha:∀ t,t.ev a=.ptr i q->n6 E o t=S5 E T i q (t.ev x) t:=by
  intro t ht;unfold n6;rw [ho];simp only [ht]
 rw [ha s hp] at h;obtain ⟨rfl,g,ow,e,hg,k⟩:=c03 h;have hT:l6 E o s=(s.ev a).I9++(s.ev x).I9:=by unfold l6; rw [ho]
 have rL:i∈l6 E o s:=by rw [hT,hp]; simp [AV.I9]
 have ju:∀ j∈g,j∈l6 E o s:=λ j hj=>by rw [hT]; exact aBs _ (K2.2 (hg j hj))
 have rU:a∈o.op.operands.toList:=by rw [ho]; simp [Op.operands]
 have cS:x∈o.op.operands.toList:=by rw [ho]; simp [Op.operands]
 refine ⟨[],λ u=>AV.kill i ow q (yk g u),λ j=>if j=i then some e else if j∈g then none else look j s.hp,Trim.comp (Trim.B9 g) (Trim.kill i ow q) ju (by simpa using rL),by simp [V1],by simp,by simp [AV.i8],?_⟩;intro t hu dv _;have df:=(dv x cS).1;have pJ:t.obj i=s.obj i:=(dv a rU).2 i (by rw [hp]; simp [AV.i8]);refine ⟨((St.B9 g t).kill i ow q).y9 i e,?_,Da (Dn hu),⟨λ n=>?_,λ j=>?_⟩⟩
 ·rw [ha t ((dv a rU).1.trans hp),df]
  exact k t pJ (λ j hj=>(dv x cS).2 j hj)
 ·show look n (mapA _ (St.B9 g t).fr)=_
  rw [R7,Dt,aEo]; rfl
 ·show look j (Ex.put i e (St.B9 g t).hp)=_
  rw [p9,K7];by_cases h0:j=i
  ·subst h0; simp [rL]
  ·by_cases h1:j∈g
   ·simp [h0,h1,ju j h1]
   ·by_cases h2:j∈l6 E o s
    ·simp [h0,h1,h2,Be dv h2]
    ·simp [h0,h1,h2]
theorem Ud {T:TypeId} {x y:AV} {dst:Option Nat} {p:Prop} {v:AV} {s1:St} (h:(xA E T x y dst s).get=some (p,v,s1)) :
  ∃ d g u l,dst=some d/\(∀ j∈g,x.i8 j=true\/y.i8 j=true)/\∀ t,Alike s t x->Alike s t y->xA E T x y dst t=(St.lay t d g u l).f8 p:=by
 unfold xA at h;split at h
 ·rename_i q t0 bts d hT
  split at h
  ·cases h
  ·rename_i tt m g cw
   have iF:=Sk cw;have ha:∀ t,Alike s t y->y.vJ t t0=some (⟨tt,m⟩,g):=λ t ht=>(JD ht).trans cw;simp only at h;split at h
   ·split at h
    ·rename_i di
     obtain rfl:=Ce h (λ _ _ _=>xD);refine ⟨d,[]++g,.d0 true t0,(([]:List t0.den)++R8 di m),rfl,by simpa using λ j hj=>.inr (iF j hj),λ t _ hy=>?_⟩;unfold xA;simp only [hT,ha t hy,di,dif_pos]
    ·cases h
   ·split at h
    ·rename_i bB
     split at h
     ·rename_i di
      obtain rfl:=Ce h (λ _ _ _=>xD);refine ⟨d,[]++g,.d0 true t0,(([]:List t0.den)++R8 di m),rfl,by simpa using λ j hj=>.inr (iF j hj),λ t _ hy=>?_⟩;unfold xA;simp only [hT,ha t hy,di,dif_pos,bB]
     ·cases h
    ·cases h
   ·rename_i oY so
    split at h
    ·rename_i u l f cU
     split at h
     ·rename_i hu
      split at h
      ·rename_i di
       obtain rfl:=Ce h (λ _ _ _=>xD);refine ⟨d,f++g,.d0 true t0,(R8 hu l++R8 di m),rfl,?_,λ t hx hy=>?_⟩
       ·intro j hj
        rcases aAi.1 hj with hj|hj
        ·exact .inl (FJ cU j hj)
        ·exact .inr (iF j hj)
       ·have fD:=(EU hx).trans cU
        unfold xA;simp only [hT,ha t hy];simp only [fD,hu,di,dif_pos]
      ·cases h
     ·cases h
    ·cases h
 ·cases h
theorem c41 {T:TypeId} {x y:AV} {dst:Option Nat} {p:Prop} {v:AV} {s1:St} (h:(Eh E T x y dst s).get=some (p,v,s1)) :
  ∃ d g u l,dst=some d/\(∀ j∈g,x.i8 j=true\/y.i8 j=true)/\∀ t,Alike s t x->Alike s t y->Eh E T x y dst t=(St.lay t d g u l).f8 p:=by
 cases h
theorem Ys {T:TypeId} {x y:AV} {dst:Option Nat} {p:Prop} {v:AV} {s1:St} (h:(xW E T x y dst s).get=some (p,v,s1)) :
  ∃ d g u l,dst=some d/\(∀ j∈g,x.i8 j=true\/y.i8 j=true)/\∀ t,Alike s t x->Alike s t y->xW E T x y dst t=(St.lay t d g u l).f8 p:=by
 have hs:∀ t,Alike s t x->Er t x=Er s x:=λ t ht=>by
  unfold Er
  split
  ·rw [ht _ (by simp [AV.i8])]
  ·rfl
 unfold xW at h;split at h
 ·rename_i hc
  obtain ⟨d,g,u,l,h1,h2,h3⟩:=c41 h;exact ⟨d,g,u,l,h1,h2,λ t hx hy=>by unfold xW; rw [hs t hx,hc]; exact h3 t hx hy⟩
 ·rename_i hc
  obtain ⟨d,g,u,l,h1,h2,h3⟩:=Ud h;exact ⟨d,g,u,l,h1,h2,λ t hx hy=>by unfold xW; rw [hs t hx,hc]; exact h3 t hx hy⟩
theorem KS {i:Nat} {p:List Step} {lo:Nat} {u:Ty} {m:List u.den} {s1:St} (h:wB s i p lo u m=some s1):∃ ow e',∀ t:St,t.obj i=s.obj i->wB t i p lo u m=some ((t.vR i ow).y9 i e'):=by
 unfold wB at h;split at h
 ·rename_i e he
  split at h
  ·rename_i u' l hg
   split at h
   ·rename_i hu
    split at h
    ·rename_i r aI
     split at h
     ·rename_i hc
      refine ⟨e.vQ,e.F1 r,λ t ht=>?_⟩;unfold wB;rw [ht,he];simp only [hg,hu,dif_pos];subst hu;simp only [aI,hc]
     ·cases h
    ·cases h
   ·cases h
  ·cases h
 ·cases h
theorem F8.Nr {o:Oper} {p:Prop} {v:AV} {i:Nat} {ow:Bool} {e':g9} (hi:i∈l6 E o s) (hv:∀ j,v.i8 j=true->∃ x∈o.op.operands.toList,(s.ev x).i8 j=true) (hr:∀ t,vL s t o.op.operands.toList->(n6 E o t).get=some (p,v,(t.vR i ow).y9 i e')):F8 E o s p v:=by
 refine ⟨[],AV.map (AV.ym i ow),λ j=>if j=i then some e' else look j s.hp,(Trim.vR i ow).mono (by simpa using hi),by simp [V1],by simp,λ j hj=>.inl (hv j hj),λ t hu ha _=>⟨_,hr t ha,Da hu,λ n=>?_,λ j=>?_⟩⟩
 ·show look n (mapA _ t.fr)=_
  rw [R7]
 ·show look j (Ex.put i e' t.hp)=_
  rw [p9];by_cases h1:j=i
  ·subst h1; simp [hi]
  ·rw [if_neg h1]
   by_cases h2:j∈l6 E o s
   ·rw [if_pos (.inl h2),if_neg h1]; exact Be ha h2
   ·rw [if_neg (by simp [h2])]
theorem F8.fill {o:Oper} {p:Prop} {v:AV} {i:Nat} {ow:Bool} {e':g9} (hi:i∈l6 E o s) (hv:∀ j,v.i8 j=false) (hr:∀ t,vL s t o.op.operands.toList->(n6 E o t).get=some (p,v,(t.vR i ow).y9 i e')):F8 E o s p v :=
 .Nr hi (λ j hj=>by rw [hv j] at hj; cases hj) hr
theorem c2O {o:Oper} {c:Call} (ho:o.op=.call c) (hc:c.callee=.builtin .append) {p:Prop} {v:AV} {s1:St} (h:(n6 E o s).get=some (p,v,s1)):F8 E o s p v:=by
 have cS:∀ x∈c.args.toList,x∈o.op.operands.toList:=λ x hx=>by rw [ho]; exact yr hx
 have hT:l6 E o s=(s.M2 c.args.toList).I9:=by unfold l6; rw [ho]; simp only [hc]
 have key:(∃ x y T F,(F=xA E T\/F=xW E T)/\c.args.toList=[x,y]/\(∀ t,t.ev x=s.ev x->t.ev y=s.ev y->n6 E o t=F (t.ev x) (t.ev y) o.dst t))\/(∃ x y T,c.args.toList=[x,y]/\(∀ t,t.ev x=s.ev x->t.ev y=s.ev y->n6 E o t=xB E T (t.ev x) (t.ev y) t))\/(∃ x y T,c.args.toList=[x,y]/\∀ t,n6 E o t=AR E T (t.ev x) (t.ev y) o.dst t):=by
  unfold n6 at h;rw [ho] at h;simp only [hc] at h;split at h
  ·rename_i x y T U aF fU
   split at h
   ·rename_i hU
    cases jI:(s.ev x).ND (s.ev y) with
    | true=>exact .inr (.inl ⟨x,y,T,aF,λ t e1 e2=>by unfold n6; rw [ho]; simp only [hc,aF,fU,hU]; rw [e1,e2,jI]⟩)
    | false=>exact .inl ⟨x,y,T,_,.inr rfl,aF,λ t e1 e2=>by unfold n6; rw [ho]; simp only [hc,aF,fU,hU]; rw [e1,e2,jI]⟩
   ·rename_i hU
    exact .inl ⟨x,y,T,_,.inl rfl,aF,λ t _ _=>by unfold n6; rw [ho]; simp only [hc,aF,fU,hU]⟩
   ·rename_i hU
    exact .inr (.inr ⟨x,y,T,aF,λ t=>by unfold n6; rw [ho]; simp only [hc,aF,fU,hU]⟩)
   ·cases h
  ·cases h
 rcases key with key|⟨x,y,T,aF,he⟩|⟨x,y,T,aF,he⟩
 rotate_left
 ·have fc:x∈o.op.operands.toList:=cS x (by rw [aF]; simp)
  have gZ:y∈o.op.operands.toList:=cS y (by rw [aF]; simp);rw [he s rfl rfl] at h;have hI:=b9w h;simp only at hI;obtain ⟨i,lo,hi,q,t0,bts,u,m,l,hx,qP,cw,aT,hf,bB,rfl,rfl⟩:=Ue hI;obtain ⟨ow,e',fM⟩:=KS hf;have hm:(s.ev x).i8 i=true:=by rw [hx]; simp [AV.i8]
  refine F8.Nr (i:=i) (ow:=ow) (e':=e') (by rw [hT,K2,aF]; simp [St.M2,AV.i8,hm]) (λ j hj=>⟨x,fc,by rw [hx]; exact hj⟩) (λ t ha=>?_);rw [he t (ha x fc).1 (ha y gZ).1,(ha x fc).1,(ha y gZ).1,hx];have pI:t.obj i=some (.own (.d0 true u) l):=((ha x fc).2 i hm).trans aT;unfold xB;simp only [qP,(JD (u:=t0) (ha y gZ).2).trans cw,pI,fM t ((ha x fc).2 i hm),bB,decide_true];rfl
 ·have h0:=h
  rw [he] at h;have fc:x∈o.op.operands.toList:=cS x (by rw [aF]; simp);have gZ:y∈o.op.operands.toList:=cS y (by rw [aF]; simp);unfold AR at h;split at h
  ·rename_i t0 bts d k n qP gQ oY oX
   obtain rfl:=Ce h (λ _ _ _=>xD);refine F8.lay gQ (g:=[]) (u:=.d0 true t0) (x:=List.replicate n.toNat t0.w5) (W:=OR.f8 (0<=n/\n<=140737488355328/\n*(t0.wb:Nat)<=140737488355328)) (λ _ _=>rfl) (λ _=>rfl) (by simp) h0 (λ t ha=>?_);rw [he,(ha x fc).1,(ha y gZ).1];unfold AR;simp only [qP,gQ,oY,oX]
  ·cases h
 obtain ⟨x,y,T,F,hF,aF,he⟩:=key;have h0:=h;rw [he s rfl rfl] at h;have iu:∃ d g u l,o.dst=some d/\(∀ j∈g,(s.ev x).i8 j=true\/(s.ev y).i8 j=true)/\∀ t,Alike s t (s.ev x)->Alike s t (s.ev y)->F (s.ev x) (s.ev y) o.dst t=(St.lay t d g u l).f8 p:=by
  rcases hF with rfl|rfl
  ·exact Ud h
  ·exact Ys h
 obtain ⟨d,g,u,l,hd,hg,k⟩:=iu;have fc:x∈o.op.operands.toList:=cS x (by rw [aF]; simp);have gZ:y∈o.op.operands.toList:=cS y (by rw [aF]; simp);refine F8.lay hd (g:=g) (u:=u) (x:=l) (W:=OR.f8 p) (λ _ _=>rfl) (λ _=>rfl) ?_ h0 (λ t ha=>?_)
 ·intro j hj
  rw [hT,K2,aF];rcases hg j hj with h|h<;>simp [St.M2,AV.i8,h]
 ·rw [he t (ha x fc).1 (ha y gZ).1,(ha x fc).1,(ha y gZ).1]
  exact k t (ha x fc).2 (ha y gZ).2
end
end Go.Ex
namespace Go.Ex
section
variable {E:Env} {s t:St}
theorem ag {o:Oper} {x:Operand} (h:vL s t o.op.operands.toList) (hx:x∈o.op.operands.toList):t.ev x=s.ev x/\Alike s t (s.ev x):=⟨(h x hx).1,(h x hx).2⟩
theorem ob1 {i:Nat} {p:List Step} (h:Alike s t (.ptr i p)):t.obj i=s.obj i:=h i (by simp [AV.i8])
theorem ob2 {i:Nat} {p:List Step} (h:Alike s t (.at_ i p)):t.obj i=s.obj i:=h i (by simp [AV.i8])
theorem ob3 {i:Nat} {p:List Step} {a b:Int} (h:Alike s t (.sub i p a b)):t.obj i=s.obj i:=h i (by simp [AV.i8])
theorem b5w {o:Oper} {T:TypeId} {x:Operand} {n:Nat} (ho:o.op=.fieldAddr T x n) {p:Prop} {v:AV} {s1:St} (h:(n6 E o s).get=some (p,v,s1)):F8 E o s p v:=by
 have hx:x∈o.op.operands.toList:=by rw [ho]; simp [Op.operands]
 refine .ro h (λ t ha=>?_) (λ i hi=>⟨x,hx,?_⟩)
 ·obtain ⟨e1,e2⟩:=ag ha hx
  unfold n6;rw [ho];simp only [e1];cases hx:s.ev x with
  | ptr i q =>
   rw [hx] at e2;simp only [L7 (e2 i (by simp [AV.i8]))]
   repeat' (first|rfl|split)
  | val u z =>
   cases u with
   | box o0 g0 u0=>cases o0<;>cases g0<;>first|rfl|(dsimp only; repeat' (first|rfl|split))
   | _=>first|rfl|(dsimp only; repeat' (first|rfl|split))
  | _=>first|rfl|(dsimp only; split<;>rfl)
 ·unfold n6 at hi
  rw [ho] at hi;simp only at hi;cases hx:s.ev x with
  | ptr j q =>
   rw [hx] at hi;simp only at hi
   repeat' (split at hi)
   all_goals first|exact hi|(cases hi; done)
  | val u z =>
   rw [hx] at hi;exfalso;cases u with
   | box o0 g0 u0=>cases o0<;>cases g0<;>first|(cases hi; done)|(simp only at hi; repeat' (split at hi))<;>(cases hi)
   | _=>first|(cases hi; done)|(simp only at hi; repeat' (split at hi))<;>(cases hi)
  | _ =>
   rw [hx] at hi;simp only at hi
   repeat' (split at hi)
   all_goals first|exact hi|(cases hi; done)
theorem b5v {o:Oper} {T:TypeId} {x y:Operand} (ho:o.op=.indexAddr T x y) {p:Prop} {v:AV} {s1:St} (h:(n6 E o s).get=some (p,v,s1)):F8 E o s p v:=by
 have cS:x∈o.op.operands.toList:=by rw [ho]; simp [Op.operands]
 have mB:y∈o.op.operands.toList:=by rw [ho]; simp [Op.operands]
 refine .ro h (λ t ha=>?_) (λ i hi=>⟨x,cS,?_⟩)
 ·obtain ⟨e1,e2⟩:=ag ha cS
  have e3:=(ag ha mB).1;unfold n6;rw [ho];simp only [e1,e3]
  split
  ·rename_i hx _; rw [hx] at e2; (first|simp only [L7 (ob1 e2)]|simp only [L7 (ob2 e2)]) ; (generalize s.part _ _=pt; cases pt with|none=>rfl|some q=>(obtain ⟨u,z⟩:=q; cases u<;>first|rfl|(dsimp only; repeat' (first|rfl|split))|(rename_i o0 _; cases o0<;>first|rfl|(dsimp only; repeat' (first|rfl|split)))))
  ·repeat' (first|rfl|split)
  ·repeat' (first|rfl|split)
  ·rename_i hx _; rw [hx] at e2; (first|simp only [L7 (ob1 e2)]|simp only [L7 (ob2 e2)]) ; (generalize s.part _ _=pt; cases pt with|none=>rfl|some q=>(obtain ⟨u,z⟩:=q; cases u<;>first|rfl|(dsimp only; repeat' (first|rfl|split))|(rename_i o0 _; cases o0<;>first|rfl|(dsimp only; repeat' (first|rfl|split)))))
  ·rename_i hx _; rw [hx] at e2; simp only [Fb (ob3 e2)] ; (generalize s.view _ _ _ _=pt; cases pt with|none=>rfl|some q=>(obtain ⟨u,z⟩:=q; dsimp only; repeat' (first|rfl|split)))
  ·rfl
 ·unfold n6 at hi
  rw [ho] at hi;simp only at hi;split at hi
  ·rename_i hx _; rw [hx]; repeat' (split at hi)
   all_goals first|exact hi|(cases hi; done)
  ·repeat' (split at hi)
   all_goals (cases hi; done)
  ·repeat' (split at hi)
   all_goals (cases hi; done)
  ·rename_i hx _; rw [hx]; repeat' (split at hi)
   all_goals first|exact hi|(cases hi; done)
  ·rename_i hx _; rw [hx]; repeat' (split at hi)
   all_goals first|exact hi|(cases hi; done)
  ·cases hi
theorem ZX {o:Oper} {T:TypeId} {x y:Operand} (ho:o.op=.index T x y) {p:Prop} {v:AV} {s1:St} (h:(n6 E o s).get=some (p,v,s1)):F8 E o s p v:=by
 have cS:x∈o.op.operands.toList:=by rw [ho]; simp [Op.operands]
 have mB:y∈o.op.operands.toList:=by rw [ho]; simp [Op.operands]
 refine .ro h (λ t ha=>?_) (λ i hi=>⟨x,cS,?_⟩)
 ·obtain ⟨e1,e2⟩:=ag ha cS
  have e3:=(ag ha mB).1;unfold n6;rw [ho];simp only [e1,e3]
  split
  ·split<;>rfl
  ·split<;>rfl
  ·rename_i hx _; rw [hx] at e2; (first|simp only [L7 (ob1 e2)]|simp only [L7 (ob2 e2)]) ; (generalize s.part _ _=pt; cases pt with|none=>rfl|some q=>(obtain ⟨u,z⟩:=q; cases u<;>first|rfl|(dsimp only; repeat' (first|rfl|split))|(rename_i o0 _; cases o0<;>first|rfl|(dsimp only; repeat' (first|rfl|split)))))
  ·rfl
 ·unfold n6 at hi
  rw [ho] at hi;simp only at hi;split at hi
  ·repeat' (split at hi)
   all_goals (cases hi; done)
  ·repeat' (split at hi)
   all_goals (cases hi; done)
  ·rename_i hx _; rw [hx]; repeat' (split at hi)
   all_goals first|exact hi|(cases hi; done)
  ·cases hi
theorem ZT {o:Oper} {T:TypeId} {x:Operand} {n:Nat} (ho:o.op=.field T x n) {p:Prop} {v:AV} {s1:St} (h:(n6 E o s).get=some (p,v,s1)):F8 E o s p v:=by
 have cS:x∈o.op.operands.toList:=by rw [ho]; simp [Op.operands]
 refine .ro h (λ t ha=>?_) (λ i hi=>⟨x,cS,?_⟩)
 ·obtain ⟨e1,e2⟩:=ag ha cS
  unfold n6;rw [ho];simp only [e1]
  split
  ·split<;>rfl
  ·rename_i hx; rw [hx] at e2; (first|simp only [L7 (ob1 e2)]|simp only [L7 (ob2 e2)]) ; (generalize s.part _ _=pt; cases pt with|none=>rfl|some q=>(obtain ⟨u,z⟩:=q; cases u<;>first|rfl|(dsimp only; repeat' (first|rfl|split))|(rename_i o0 _; cases o0<;>first|rfl|(dsimp only; repeat' (first|rfl|split)))))
  ·rfl
 ·unfold n6 at hi
  rw [ho] at hi;simp only at hi;split at hi
  ·repeat' (split at hi)
   all_goals (cases hi; done)
  ·rename_i hx; rw [hx]; repeat' (split at hi)
   all_goals first|exact hi|(cases hi; done)
  ·cases hi
theorem Xy {o:Oper} {c:Call} (ho:o.op=.call c) (hc:c.callee=.builtin .cap) {p:Prop} {v:AV} {s1:St} (h:(n6 E o s).get=some (p,v,s1)):F8 E o s p v:=by
 obtain ⟨x,T,ha,hT⟩:∃ x T,c.args.toList=[x]/\c.argTypes.toList=[T]:=by
  unfold n6 at h;rw [ho] at h;simp only [hc] at h;split at h
  ·exact ⟨_,_,by assumption,by assumption⟩
  ·cases h
 have iJ:x∈o.op.operands.toList:=by rw [ho]; exact yr (by rw [ha]; simp)
 refine .ro h (λ t dv=>?_) (λ i hi=>?_)
 ·obtain ⟨e1,e2⟩:=ag dv iJ
  unfold n6;rw [ho];simp only [hc,ha,hT,e1]
  repeat' (first|rfl|split)
 ·exfalso
  unfold n6 at hi;rw [ho] at hi;simp only [hc,ha,hT] at hi
  repeat' (split at hi)
  all_goals (cases hi)
theorem c1t {o:Oper} {T:TypeId} {x y:Operand} {ok:Bool} (ho:o.op=.lookup T x y ok) {p:Prop} {v:AV} {s1:St} (h:(n6 E o s).get=some (p,v,s1)):F8 E o s p v:=by
 unfold n6 at h; rw [ho] at h; cases h
theorem b8S {o:Oper} {T:TypeId} {r:Option Operand} (ho:o.op=.makeMap T r) {p:Prop} {v:AV} {s1:St} (h:(n6 E o s).get=some (p,v,s1)):F8 E o s p v:=by
 unfold n6 at h; rw [ho] at h; cases h
theorem c3W {o:Oper} {T:TypeId} {x:Operand} {lo hi mx:Option Operand} (ho:o.op=.slice T x lo hi mx) {p:Prop} {v:AV} {s1:St} (h:(n6 E o s).get=some (p,v,s1)):F8 E o s p v:=by
 have il:∀ y,y=x\/lo=some y\/hi=some y\/mx=some y->y∈o.op.operands.toList:=by
  rw [ho];rintro y (rfl|rfl|rfl|rfl)<;>simp [Op.operands]
 have cS:x∈o.op.operands.toList:=il x (.inl rfl);have he:∀ t,n6 E o t=yS E T (t.ev x) lo hi mx t:=λ t=>by unfold n6; rw [ho]
 refine .ro h (λ t ha=>?_) (λ i cW=>⟨x,cS,?_⟩)
 ·obtain ⟨e1,e2⟩:=ag ha cS
  rw [he,he,e1];have b1:∀ d,bnd t d lo=bnd s d lo:=λ d=>IA (λ y hy=>(ag ha (il y (.inr (.inl hy)))).1);have b2:∀ d,bnd t d hi=bnd s d hi:=λ d=>IA (λ y hy=>(ag ha (il y (.inr (.inr (.inl hy))))).1);have b3:∀ d,bnd t d mx=bnd s d mx:=λ d=>IA (λ y hy=>(ag ha (il y (.inr (.inr (.inr hy))))).1);unfold yS;simp only [b1,b2,b3]
  split
  ·rfl
  ·split
   ·repeat' (first|rfl|split)
   ·repeat' (first|rfl|split)
   ·repeat' (first|rfl|split)
   ·repeat' (first|rfl|split)
   ·rename_i hx; rw [hx] at e2; (first|simp only [L7 (ob1 e2)]|simp only [L7 (ob2 e2)]) ; (generalize s.part _ _=pt; cases pt with|none=>rfl|some q=>(obtain ⟨u,z⟩:=q; cases u<;>first|rfl|(dsimp only; repeat' (first|rfl|split))|(rename_i o0 _; cases o0<;>first|rfl|(dsimp only; repeat' (first|rfl|split)))))
   ·rename_i hx; rw [hx] at e2; simp only [L7 (ob3 e2)] ; (generalize s.part _ _=pt; cases pt with|none=>rfl|some q=>(obtain ⟨u,z⟩:=q; cases u<;>first|rfl|(dsimp only; repeat' (first|rfl|split))|(rename_i o0 _; cases o0<;>first|rfl|(dsimp only; repeat' (first|rfl|split)))))
   ·rename_i hx; rw [hx] at e2; (first|simp only [L7 (ob1 e2)]|simp only [L7 (ob2 e2)]) ; (generalize s.part _ _=pt; cases pt with|none=>rfl|some q=>(obtain ⟨u,z⟩:=q; cases u<;>first|rfl|(dsimp only; repeat' (first|rfl|split))|(rename_i o0 _; cases o0<;>first|rfl|(dsimp only; repeat' (first|rfl|split)))))
   ·rfl
 ·rw [he] at cW
  unfold yS at cW;split at cW
  ·cases cW
  ·split at cW
   ·repeat' (split at cW)
    all_goals (cases cW; done)
   ·repeat' (split at cW)
    all_goals (cases cW; done)
   ·repeat' (split at cW)
    all_goals (cases cW; done)
   ·repeat' (split at cW)
    all_goals (cases cW; done)
   ·rename_i hx; rw [hx]; repeat' (split at cW)
    all_goals first|exact cW|(cases cW; done)
   ·rename_i hx; rw [hx]; repeat' (split at cW)
    all_goals first|exact cW|(cases cW; done)
   ·rename_i hx; rw [hx]; repeat' (split at cW)
    all_goals first|exact cW|(cases cW; done)
   ·cases cW
theorem XJ {o:Oper} {c:Call} (ho:o.op=.call c) (hc:c.callee=.builtin .len) {p:Prop} {v:AV} {s1:St} (h:(n6 E o s).get=some (p,v,s1)):F8 E o s p v:=by
 obtain ⟨x,T,ha,hT⟩:∃ x T,c.args.toList=[x]/\c.argTypes.toList=[T]:=by
  unfold n6 at h;rw [ho] at h;simp only [hc] at h;split at h
  ·exact ⟨_,_,by assumption,by assumption⟩
  ·cases h
 have iJ:x∈o.op.operands.toList:=by rw [ho]; exact yr (by rw [ha]; simp)
 refine .ro h (λ t dv=>?_) (λ i hi=>?_)
 ·obtain ⟨e1,e2⟩:=ag dv iJ
  unfold n6;rw [ho];simp only [hc,ha,hT,e1]
  split
  ·repeat' (first|rfl|split)
  ·repeat' (first|rfl|split)
  ·repeat' (first|rfl|split)
  ·repeat' (first|rfl|split)
  ·rename_i hx; rw [hx] at e2; (first|simp only [L7 (ob1 e2)]|simp only [L7 (ob2 e2)]) ; (generalize s.part _ _=pt; cases pt with|none=>rfl|some q=>(obtain ⟨u,z⟩:=q; cases u<;>first|rfl|(dsimp only; repeat' (first|rfl|split))|(rename_i o0 _; cases o0<;>first|rfl|(dsimp only; repeat' (first|rfl|split)))|(rename_i o0 _ _; cases o0<;>first|rfl|(dsimp only; repeat' (first|rfl|split)))))
  ·rename_i hx; rw [hx] at e2; simp only [Fb (ob3 e2)] ; (generalize s.view _ _ _ _=pt; cases pt with|none=>rfl|some q=>(obtain ⟨u,z⟩:=q; dsimp only; repeat' (first|rfl|split)))
  ·repeat' (first|rfl|split)
  ·rfl
 ·exfalso
  unfold n6 at hi;rw [ho] at hi;simp only [hc,ha,hT] at hi
  repeat' (split at hi)
  all_goals (cases hi)
theorem Rd {k:IntKind} {f:Int->Int->Int}:∀ {l:List Operand} {n:Int},(∀ x∈l,t.ev x=s.ev x)->foldI t k f n l=(foldI s k f n l).xu t
 | [],n,_=>rfl
 | x::l,n,h=>by
  simp only [foldI,h x (by simp)]
  split
  ·split
   ·exact Rd (λ y hy=>h y (by simp [hy]))
   ·rfl
  ·rfl
theorem Lx {k:IntKind} {f:Int->Int->Int} {i:Nat}:∀ {l:List Operand} {n:Int},(foldI s k f n l).av.i8 i=true->False
 | [],n,h=>by cases h
 | x::l,n,h=>by
  simp only [foldI] at h;split at h
  ·split at h
   ·exact Lx h
   ·cases h
  ·cases h
theorem TW {o:Oper} {c:Call} (ho:o.op=.call c) (hc:c.callee=.builtin .max\/c.callee=.builtin .min) {p:Prop} {v:AV} {s1:St} (h:(n6 E o s).get=some (p,v,s1)):F8 E o s p v:=by
 have cS:∀ x∈c.args.toList,x∈o.op.operands.toList:=λ x hx=>by rw [ho]; exact yr hx
 refine .ro h (λ t dv=>?_) (λ i hi=>?_)
 ·unfold n6
  rw [ho];rcases hc with hc|hc <;>
  ·simp only [hc]
   split
   ·rename_i x l ha
    rw [(dv x (cS x (by rw [ha]; simp))).1]
    split
    ·exact Rd (λ y hy=>(dv y (cS y (by rw [ha]; simp [hy]))).1)
    ·rfl
   ·rfl
 ·exfalso
  unfold n6 at hi;rw [ho] at hi;rcases hc with hc|hc
  ·simp only [hc] at hi
   split at hi
   ·split at hi
    ·exact Lx hi
    ·cases hi
   ·cases hi
  ·simp only [hc] at hi
   split at hi
   ·split at hi
    ·exact Lx hi
    ·cases hi
   ·cases hi
theorem c4N {o:Oper} {T:TypeId} {parts:Array (Nat×Operand)} (ho:o.op=.build T parts) {p:Prop} {v:AV} {s1:St} (h:(n6 E o s).get=some (p,v,s1)):F8 E o s p v:=by
 have ff:∀ t,vL s t o.op.operands.toList->∀ q∈parts.toList,t.ev q.2=s.ev q.2/\Alike s t (s.ev q.2):=λ t ha q hq=>ag ha (by rw [ho]; simp only [Op.operands]; simpa using ⟨q.1,by simpa using hq⟩);have key:∃ t0 r g,look T E.tt=some t0/\(t0.ty.agg && parts.toList.all (λ q=>xt t0.ty q.1))=true/\V0 s ⟨t0.ty,t0.ty.w5⟩ parts.toList=some (r,g):=by
  unfold n6 at h; rw [ho] at h;simp only at h;split at h
  ·split at h
   ·split at h
    ·exact ⟨_,_,_,by assumption,by assumption,by assumption⟩
    ·exact ⟨_,_,_,by assumption,by assumption,by assumption⟩
    ·cases h
   ·cases h
  ·cases h
 obtain ⟨t0,⟨u,y⟩,g,h1,h2,h3⟩:=key;have hb:∀ t,vL s t o.op.operands.toList->V0 t ⟨t0.ty,t0.ty.w5⟩ parts.toList=some (⟨u,y⟩,g):=λ t ha=>(FA (s:=s) (t:=t) (ff t ha)).trans h3;cases g with
 | nil =>
  have he:∀ t,vL s t o.op.operands.toList->n6 E o t=.ok (.val u y) t:=λ t ha=>by unfold n6; rw [ho]; simp only [h1,h2,hb t ha]
  refine .ro h (λ t ha=>?_) (λ i hi=>?_)
  ·rw [he t ha,he s (.refl _ _)]; rfl
  ·rw [he s (.refl _ _)] at hi; cases hi
 | cons g0 g =>
  cases hd:o.dst with
  | none =>
   exfalso;unfold n6 at h; rw [ho] at h;simp only [h1,h2,h3,hd] at h;cases h
  | some d =>
   refine F8.lay hd (g:=g0::g) (u:=u) (x:=y) (W:=λ r=>r) (p:=p) (v:=v) (s1:=s1) ?_ (λ _=>rfl) ?_ h (λ t ha=>by unfold n6; rw [ho]; simp only [h1,h2,hb t ha,hd])
   ·have hp:p=True:=by
     unfold n6 at h; rw [ho] at h;simp only [h1,h2,h3,hd] at h;cases hl:s.lay d (g0::g) u y<;>rw [hl] at h
     ·cases h
     ·cases h; rfl
     ·exact absurd hl xD
    intro v s; rw [hp]; rfl
   ·intro i hi
    obtain ⟨q,hq,hm⟩:=Ge h3 i hi;unfold l6;rw [ho];exact K2.2 (KC (aDa.2 ⟨q,hq,rfl⟩) hm)
theorem b3G {o:Oper} {T:TypeId} {n:Nat} {parts:Array (Nat×Operand)} (ho:o.op=.buildSlice T n parts) {p:Prop} {v:AV} {s1:St} (h:(n6 E o s).get=some (p,v,s1)):F8 E o s p v:=by
 have ff:∀ t,vL s t o.op.operands.toList->∀ q∈parts.toList,t.ev q.2=s.ev q.2/\Alike s t (s.ev q.2):=λ t ha q hq=>ag ha (by rw [ho]; simp only [Op.operands]; simpa using ⟨q.1,by simpa using hq⟩);have key:∃ t0 b d m t' l g,look T E.tt=some ⟨.d0 true t0,b⟩/\o.dst=some d/\(s.fresh d && parts.toList.all (λ q=>Nat.blt q.1 n) && Nat.ble (n*t0.size) 16777216)=true/\Ap s n t0 parts.toList=some (⟨.arr m t',l⟩,g):=by
  unfold n6 at h; rw [ho] at h;simp only at h;split at h
  ·split at h
   ·split at h
    ·exact ⟨_,_,_,_,_,_,_,by assumption,by assumption,by assumption,by assumption⟩
    ·cases h
   ·cases h
  ·cases h
 obtain ⟨t0,b,d,m,t',l,g,h1,h2,h4,h5⟩:=key;have hb:∀ t,vL s t o.op.operands.toList->Ap t n t0 parts.toList=some (⟨.arr m t',l⟩,g):=λ t ha=>by
  rw [<- h5]; unfold Ap; rw [FA (s:=s) (t:=t) (ff t ha),FA (s:=s) (t:=t) (ff t ha)]
 obtain ⟨t9,_,h9⟩:=Qe h5;have he:∀ t,vL s t o.op.operands.toList->t.fresh d=true->n6 E o t=t.lay d g (.d0 true t') l:=λ t ha hf=>by
  simp only [aAa] at h4;unfold n6; rw [ho]; simp only [h1,h2,hf,h4.1.2,h4.2,hb t ha,aHe]
 have hf:s.fresh d=true:=by simp only [aAa] at h4; exact h4.1.1
 have ju:∀ i∈g,i∈l6 E o s:=by
  intro i hi;obtain ⟨q,hq,hm⟩:=Ge h9 i hi;unfold l6;rw [ho];exact K2.2 (KC (aDa.2 ⟨q,hq,rfl⟩) hm)
 rw [he s (.refl _ _) hf] at h;cases hl:s.lay d g (.d0 true t') l with
 | fail y=>rw [hl] at h; cases h
 | H3 q v s'=>exact absurd hl xD
 | ok v' s' =>
  rw [hl] at h;cases h;obtain ⟨k1,rfl,rfl,k4⟩:=OS hl;exact F8.obj h2 (e:=.own (.d0 true t') l) (g:=g) (λ i hi=>by simpa [AV.i8] using hi) k1 ju (λ t ha hu hf=>by rw [he t ha hf,NL hf k4]; rfl)
theorem Yf {o:Oper} {T:TypeId} {x:Operand} (ho:o.op=.box T x) {p:Prop} {v:AV} {s1:St} (h:(n6 E o s).get=some (p,v,s1)):F8 E o s p v:=by
 have cS:x∈o.op.operands.toList:=by rw [ho]; simp [Op.operands]
 have hT:l6 E o s=(s.ev x).I9:=by unfold l6; rw [ho]
 have key:∃ t0 d,look T E.tt=some t0/\o.dst=some d/\s.fresh d=true:=by
  unfold n6 at h; rw [ho] at h;simp only at h;split at h
  ·split at h
   ·exact ⟨_,_,by assumption,by assumption,by assumption⟩
   ·cases h
  ·cases h
 obtain ⟨t0,d,h1,h2,h3⟩:=key;have he:∀ t,t.fresh d=true->n6 E o t=(match (t.ev x).wi t with
    | some (⟨u,y⟩,g)=>if u.U3.sh=t0.ty.U3.sh then (match xp g && !g.contains d && g.all λ i=>!pinned i with
     | true=>.ok (.ptr d []) ((St.B9 g t).y9 d (.var u y))
     | false=>.fail "box: objects") else .fail "box: value"
    | none=>(match t.ev x,t0.ty with
     | .raw (.slice none 0 0),.d0 o u=>.ok (.ptr d []) (t.y9 d (.var (.d0 o u) ([]:List u.den)))
     | .ptr i p,.box _ none _=>.ok (.bx (.ptr i p)) t
     | _,_=>.fail "box: what")):=λ t ht=>by unfold n6; rw [ho]; simp only [h1,h2,ht]; rfl
 rw [he s h3] at h;split at h
 ·rename_i u y g cU
  split at h
  ·rename_i cj
   split at h
   ·rename_i hc
    cases h;refine F8.obj h2 (e:=.var u y) (g:=g) (λ i hi=>by simpa [AV.i8] using hi) h3 (λ i hi=>by rw [hT]; exact K2.2 (Gm cU i hi)) (λ t ha hu hf=>?_);obtain ⟨e1,e2⟩:=ag ha cS;rw [he t hf,e1];simp only [(zP e2).trans cU,cj,if_true,hc];rfl
   ·cases h
  ·cases h
 ·rename_i cU
  split at h
  ·rename_i o' u hx kX
   cases h;refine F8.obj h2 (e:=.var (.d0 o' u) ([]:List u.den)) (g:=[]) (λ i hi=>by simpa [AV.i8] using hi) h3 (by simp) (λ t ha hu hf=>?_);obtain ⟨e1,e2⟩:=ag ha cS;have fD:=(zP e2).trans cU;rw [hx] at e1 fD;rw [he t hf,e1];simp only [fD,kX];rfl
  ·rename_i i q o0 u0 hx kX
   cases h;refine ⟨[d],λ u=>u,λ j=>if j=d then none else look j s.hp,Trim.id _,RH h3,by simp [h2],λ j hj=>.inl ⟨x,cS,by rw [hx]; exact hj⟩,λ t hu ha hn=>?_⟩;have hf:=Re hu hn;obtain ⟨e1,e2⟩:=ag ha cS;have fD:=(zP e2).trans cU;rw [hx] at e1 fD;refine ⟨t,?_,hu,⟨λ n=>by simp,λ j=>?_⟩⟩
   ·rw [he t hf,e1]; simp only [fD,kX]; rfl
   ·by_cases hj:j=d
    ·subst hj
     rw [if_pos (.inr (by simp)),if_pos rfl];exact (hn j (by simp)).1
    ·by_cases jt:j∈l6 E o s
     ·rw [if_pos (.inl jt),if_neg hj]; exact Be ha jt
     ·rw [if_neg (by simp [jt,hj])]
  ·cases h
theorem b88 {o:Oper} {T' T:TypeId} {x:Operand} (ho:o.op=.convert T' T x) {p:Prop} {v:AV} {s1:St} (h:(n6 E o s).get=some (p,v,s1)):F8 E o s p v:=by
 have cS:x∈o.op.operands.toList:=by rw [ho]; simp [Op.operands]
 by_cases hs:(∃ y,s.ev x=.val .str y)/\(∃ b,look T' E.tt=some ⟨.str,b⟩)/\(∃ b,look T E.tt=some ⟨.d0 true (.int .u8),b⟩)
 ·obtain ⟨⟨y,hy⟩,⟨b,hb⟩,⟨b',cV⟩⟩:=hs
  cases hd:o.dst with
  | none =>
   exfalso;unfold n6 at h; rw [ho] at h;simp only [hy,hb,cV,hd] at h;cases h
  | some d =>
   have he:∀ t,t.ev x=s.ev x->n6 E o t=t.lay d [] (.d0 true (.int .u8)) (List.map (λ b:UInt8=>(b.toNat:Int)) y:List Int):=λ t ht=>by
    unfold n6; rw [ho]; simp only [ht,hy,hb,cV,hd]
   have hp:p=True:=by
    rw [he s rfl] at h;cases hl:s.lay d [] (.d0 true (.int .u8)) (List.map (λ b:UInt8=>(b.toNat:Int)) y:List Int)<;>rw [hl] at h
    ·cases h
    ·cases h; rfl
    ·exact absurd hl xD
   exact F8.lay hd (g:=[]) (W:=λ r=>r) (λ v s=>by rw [hp]; rfl) (λ _=>rfl) (by simp) h (λ t ha=>he t (ag ha cS).1)
 ·refine .ro h (λ t ha=>?_) (λ i hi=>?_)
  ·obtain ⟨e1,e2⟩:=ag ha cS
   unfold n6; rw [ho]; simp only [e1]
   split
   ·rfl
   ·rename_i hx pf pe
    exact absurd ⟨⟨_,hx⟩,⟨_,pf⟩,⟨_,pe⟩⟩ hs
   ·rw [IS e2]
    repeat' (first|rfl|split)
   ·rfl
  ·exfalso
   unfold n6 at hi; rw [ho] at hi;simp only at hi;split at hi
   ·cases hi
   ·rename_i hx pf pe
    exact absurd ⟨⟨_,hx⟩,⟨_,pf⟩,⟨_,pe⟩⟩ hs
   ·repeat' (split at hi)
    all_goals (cases hi)
   ·cases hi
theorem b5s {o:Oper} {T:TypeId} {x y:Operand} (ho:o.op=.makeSlice T x y) {p:Prop} {v:AV} {s1:St} (h:(n6 E o s).get=some (p,v,s1)):F8 E o s p v:=by
 have cS:x∈o.op.operands.toList:=by rw [ho]; simp [Op.operands]
 have mB:y∈o.op.operands.toList:=by rw [ho]; simp [Op.operands]
 have key:∃ t0 b d k n k' m,look T E.tt=some ⟨.d0 true t0,b⟩/\o.dst=some d/\s.ev x=.val (.int k) n/\s.ev y=.val (.int k') m/\E.rs.any Ty.HZ=false:=by
  unfold n6 at h; rw [ho] at h;simp only at h;split at h
  ·cases h
  ·rename_i tf
   split at h
   ·exact ⟨_,_,_,_,_,_,_,by assumption,by assumption,by assumption,by assumption,tf⟩
   ·cases h
 obtain ⟨t0,b,d,k,n,k',m,h1,h2,h3,h4,pS⟩:=key;have he:∀ t,t.ev x=s.ev x->t.ev y=s.ev y->n6 E o t=(t.lay d [] (.d0 true t0) (List.replicate (Int.toNat n) t0.w5)).f8 (@LE.le Int Int.instLEInt 0 n/\@LE.le Int Int.instLEInt n m/\@LE.le Int Int.instLEInt m 140737488355328/\@LE.le Int Int.instLEInt (@HMul.hMul Int Int Int _ m (t0.wb:Nat)) 140737488355328):=λ t e1 e2=>by
  unfold n6; rw [ho]; simp only [e1,e2,pS,h1,h2,h3,h4]
 have h0:=h;rw [he s rfl rfl] at h;obtain rfl:=Ce h (λ _ _ _=>xD);exact F8.lay h2 (g:=[]) (W:=OR.f8 _) (λ _ _=>rfl) (λ _=>rfl) (by simp) h0 (λ t ha=>he t (ag ha cS).1 (ag ha mB).1)
theorem ON {v:AV} (h:Alike s t v):v.wW t=v.wW s:=by
 unfold AV.wW
 split
 ·rw [L7 (ob2 h)]
 ·rw [L7 (ob3 h)]
 ·rfl
theorem RB {v:AV} {i:Nat} {p:List Step} {lo hi:Int} (h:v.wW s=some (i,p,lo,hi)):v.i8 i=true:=by
 unfold AV.wW at h;split at h
 ·split at h
  ·cases h; simp [AV.i8]
  ·cases h
 ·split at h
  ·cases h; simp [AV.i8]
  ·cases h
 ·cases h
theorem ZO {o:Oper} {c:Call} (ho:o.op=.call c) (hc:c.callee=.builtin .copy) {p:Prop} {v:AV} {s1:St} (h:(n6 E o s).get=some (p,v,s1)):F8 E o s p v:=by
 have cS:∀ x∈c.args.toList,x∈o.op.operands.toList:=λ x hx=>by rw [ho]; exact yr hx
 have hT:l6 E o s=(s.M2 c.args.toList).I9:=by unfold l6; rw [ho]; simp only [hc]
 have key:∃ x y T,c.args.toList=[x,y]/\∀ t,n6 E o t=AF E T (t.ev x) (t.ev y) t:=by
  unfold n6 at h;rw [ho] at h;simp only [hc] at h;split at h
  ·rename_i x y T U aF fU
   exact ⟨x,y,T,aF,λ t=>by unfold n6; rw [ho]; simp only [hc,aF,fU]⟩
  ·cases h
 obtain ⟨x,y,T,aF,he⟩:=key;rw [he] at h;have fc:x∈o.op.operands.toList:=cS x (by rw [aF]; simp);have gZ:y∈o.op.operands.toList:=cS y (by rw [aF]; simp);unfold AF at h;split at h
 ·rename_i i q lo hi u m hd fE
  split at h
  ·rename_i s' hf bB
   simp only [OR.get,aAc,aBb] at h;obtain ⟨rfl,rfl,_⟩:=h;obtain ⟨ow,e',fM⟩:=KS hf;have hm:=RB hd;refine F8.fill (i:=i) (ow:=ow) (e':=e') (by rw [hT,K2,aF]; simp [St.M2,AV.i8,hm]) (λ _=>rfl) (λ t ha=>?_);rw [he,(ha x fc).1,(ha y gZ).1];unfold AF;rw [ON (ha x fc).2,IS (ha y gZ).2,hd,fE];simp only [fM t ((ha x fc).2 i hm),bB];rfl
  ·cases h
 ·cases h
theorem c4I {o:Oper} {c:Call} (ho:o.op=.call c) (hc:c.callee=.builtin .clear) {p:Prop} {v:AV} {s1:St} (h:(n6 E o s).get=some (p,v,s1)):F8 E o s p v:=by
 have cS:∀ x∈c.args.toList,x∈o.op.operands.toList:=λ x hx=>by rw [ho]; exact yr hx
 have hT:l6 E o s=(s.M2 c.args.toList).I9:=by unfold l6; rw [ho]; simp only [hc]
 have key:∃ x T,c.args.toList=[x]/\∀ t,n6 E o t=AI E T (t.ev x) t:=by
  unfold n6 at h;rw [ho] at h;simp only [hc] at h;split at h
  ·rename_i x T aF fU
   exact ⟨x,T,aF,λ t=>by unfold n6; rw [ho]; simp only [hc,aF,fU]⟩
  ·cases h
 obtain ⟨x,T,aF,he⟩:=key;rw [he] at h;have fc:x∈o.op.operands.toList:=cS x (by rw [aF]; simp);unfold AI at h;split at h
 ·rename_i i q lo hi b u bts hd dn
  split at h
  ·rename_i s' hf
   simp only [OR.get,aAc,aBb] at h;obtain ⟨rfl,rfl,_⟩:=h;obtain ⟨ow,e',fM⟩:=KS hf;have hm:=RB hd;refine F8.fill (i:=i) (ow:=ow) (e':=e') (by rw [hT,K2,aF]; simp [St.M2,AV.i8,hm]) (λ _=>rfl) (λ t ha=>?_);rw [he,(ha x fc).1];unfold AI;rw [ON (ha x fc).2,hd,dn];simp only [fM t ((ha x fc).2 i hm)];rfl
  ·cases h
 ·cases h
theorem c0Z {o:Oper} {T:TypeId} {m x y:Operand} (ho:o.op=.mapUpdate T m x y) {p:Prop} {v:AV} {s1:St} (h:(n6 E o s).get=some (p,v,s1)):F8 E o s p v:=by
 unfold n6 at h; rw [ho] at h; cases h
theorem WK {o:Oper} (iS:∀ a b c,o.op≠.pick a b c) {p:Prop} {v:AV} {s1:St} (h:(n6 E o s).get=some (p,v,s1)):F8 E o s p v:=by
 have dy:∀ x,x∈o.op.operands.toList↔x∈o.op.operands.toList:=λ _=>aIc;cases ho:o.op with
 | move x =>
  have hx:x∈o.op.operands.toList:=by rw [ho]; simp [Op.operands]
  refine .ro h (λ t ha=>?_) (λ i hi=>⟨x,hx,?_⟩)
  ·unfold n6; rw [ho]; simp only [(ag ha hx).1]; rfl
  ·unfold n6 at hi; rw [ho] at hi; exact hi
 | assign x =>
  have hx:x∈o.op.operands.toList:=by rw [ho]; simp [Op.operands]
  refine .ro h (λ t ha=>?_) (λ i hi=>⟨x,hx,?_⟩)
  ·unfold n6; rw [ho]; simp only [(ag ha hx).1]; rfl
  ·unfold n6 at hi; rw [ho] at hi; exact hi
 | load T x =>
  have hx:x∈o.op.operands.toList:=by rw [ho]; simp [Op.operands]
  have hl:∀ t,n6 E o t=vN E T (t.ev x) t:=λ t=>by unfold n6; rw [ho]
  refine .ro h (λ t ha=>?_) (λ i hi=>⟨x,hx,?_⟩)
  ·obtain ⟨e1,e2⟩:=ag ha hx
   rw [hl,hl,e1]; exact ZG e2
  ·rw [hl] at hi; exact c1w hi
 | nilCheck x =>
  have hx:x∈o.op.operands.toList:=by rw [ho]; simp [Op.operands]
  refine .ro h (λ t ha=>?_) (λ i hi=>⟨x,hx,?_⟩)
  ·unfold n6; rw [ho]; simp only [(ag ha hx).1]; split<;>rfl
  ·unfold n6 at hi; rw [ho] at hi
   simp only at hi;split at hi<;>first|(cases hi; done)|(rename_i e; rw [e]; exact hi)
 | binOp op T x y T' =>
  have hx:x∈o.op.operands.toList:=by rw [ho]; simp [Op.operands]
  have hy:y∈o.op.operands.toList:=by rw [ho]; simp [Op.operands]
  have hl:∀ t,n6 E o t=xm E T op (t.ev x) (t.ev y) t:=λ t=>by unfold n6; rw [ho]
  refine .ro h (λ t ha=>?_) (λ i hi=>?_)
  ·rw [hl,hl,(ag ha hx).1,(ag ha hy).1]; exact Ya ..
  ·exfalso
   rw [hl] at hi;unfold xm Al yI eqA xY xX zA arith at hi
   repeat' (split at hi)
   all_goals (cases hi)
 | unOp op T x =>
  have hx:x∈o.op.operands.toList:=by rw [ho]; simp [Op.operands]
  have hl:∀ t,n6 E o t=unA op (t.ev x) t:=λ t=>by unfold n6; rw [ho]
  refine .ro h (λ t ha=>?_) (λ i hi=>?_)
  ·rw [hl,hl,(ag ha hx).1]; exact WZ ..
  ·exfalso
   rw [hl] at hi;unfold unA arith at hi
   repeat' (split at hi)
   all_goals (cases hi)
 | convert T' T x=>exact b88 ho h
 | fieldAddr T x n=>exact b5w ho h
 | indexAddr T x y=>exact b5v ho h
 | index T x y=>exact ZX ho h
 | field T x n=>exact ZT ho h
 | slice T x lo hi mx=>exact c3W ho h
 | makeSlice T x y=>exact b5s ho h
 | build T parts=>exact c4N ho h
 | buildSlice T n parts=>exact b3G ho h
 | makeMap T r=>exact b8S ho h
 | lookup T x y ok=>exact c1t ho h
 | mapUpdate T m x y=>exact c0Z ho h
 | box T x=>exact Yf ho h
 | store T a x=>exact c3V ho h
 | extract x n =>
  have hx:x∈o.op.operands.toList:=by rw [ho]; simp [Op.operands]
  refine .ro h (λ t ha=>?_) (λ i hi=>⟨x,hx,?_⟩)
  ·unfold n6; rw [ho]; simp only [(ag ha hx).1]
   split
   ·split<;>rfl
   ·rfl
  ·unfold n6 at hi; rw [ho] at hi
   simp only at hi;split at hi
   ·rename_i l e
    split at hi
    ·rename_i v hv
     rw [e]; show l.i8 i=true; exact JT hv hi
    ·cases hi
   ·cases hi
 | makeFunc fn first caps =>
  have eh:∀ x∈caps.toList,x∈o.op.operands.toList:=λ x hx=>by rw [ho]; simp only [Op.operands]; simp at hx ⊢; exact .inr hx
  have cG:∀ t,vL s t o.op.operands.toList->t.M2 caps.toList=s.M2 caps.toList:=λ t ha=>AM (λ x hx=>(ag ha (eh x hx)).1);refine .ro h (λ t ha=>?_) (λ i hi=>?_)
  ·unfold n6; rw [ho]
   cases fn with
   | func f=>simp only [cG t ha]; split<;>rfl
   | _=>rfl
  ·unfold n6 at hi; rw [ho] at hi
   cases fn with
   | func f =>
    simp only at hi;split at hi
    ·obtain ⟨x,hx,hi⟩:=xQ (s:=s) (i:=i) (xs:=caps.toList) hi
     exact ⟨x,eh x hx,hi⟩
    ·cases hi
   | _=>cases hi
 | alloc T =>
  have key:∃ t0 d,look T E.tt=some t0/\o.dst=some d/\s.fresh d=true:=by
   unfold n6 at h; rw [ho] at h;simp only at h;split at h
   ·split at h
    ·exact ⟨_,_,by assumption,by assumption,by assumption⟩
    ·cases h
   ·cases h
  obtain ⟨t0,d,h1,h2,h3⟩:=key;have he:∀ t,t.fresh d=true->n6 E o t=.ok (.ptr d []) (t.y9 d (.var t0.ty t0.ty.w5)):=λ t ht=>by unfold n6; rw [ho]; simp only [h1,h2,ht]
  rw [he s h3] at h;simp only [OR.get,aAc,aBb] at h;obtain ⟨rfl,rfl,rfl⟩:=h;exact .obj h2 (g:=[]) (λ i hi=>by simpa [AV.i8] using hi) h3 (by simp) (λ t _ _ ht=>by rw [he t ht]; rfl)
 | call c =>
  cases hc:c.callee with
  | value f=>exact Yy ho hc h
  | builtin b =>
   cases b<;>first
    | (exact XJ ho hc h)
    | (exact Xy ho hc h)
    | (exact c2O ho hc h)
    | (exact ZO ho hc h)
    | (exact c4I ho hc h)
    | (exact TW ho (.inl hc) h)
    | (exact TW ho (.inr hc) h)
    | (exfalso; unfold n6 at h; rw [ho] at h; simp only [hc] at h; cases h)
  | _=>exfalso; unfold n6 at h; rw [ho] at h; simp only [hc] at h; cases h
 | pick a b c=>exact absurd ho (iS a b c)
 | _=>exfalso; unfold n6 at h; rw [ho] at h; cases h
end
end Go.Ex
namespace Go.Ex
def N7 (s t:St):Prop:=(∀ n,look n s.fr=look n t.fr)/\(∀ i,look i s.hp=look i t.hp)
theorem N7.refl (s:St):N7 s s:=⟨λ _=>rfl,λ _=>rfl⟩
theorem N7.symm {s t:St} (h:N7 s t):N7 t s:=⟨λ n=>(h.1 n).symm,λ n=>(h.2 n).symm⟩
theorem N7.trans {s t u:St} (h:N7 s t) (k:N7 t u):N7 s u:=⟨λ n=>(h.1 n).trans (k.1 n),λ n=>(h.2 n).trans (k.2 n)⟩
theorem Y6 {m:Nat} {s:St} {d:Option Nat} {v:AV}:look m (s.put d v).fr=if d=some m then some v else look m s.fr:=by
 cases d with
 | none=>simp [St.put]
 | some d =>
  simp only [St.put,p9,aAc];by_cases e:m=d
  ·subst e; simp
  ·rw [if_neg e,if_neg (λ h=>e h.symm)]
theorem xC {s:St} {d:Option Nat} {v:AV}:(s.put d v).hp=s.hp:=by cases d<;>rfl
theorem zY {s:St} {d:Option Nat} {v:AV} (h:uniq s.fr):uniq (s.put d v).fr:=by
 cases d with
 | none=>exact h
 | some d=>exact Ry _ _ h
theorem N7.put {s t:St} (h:N7 s t) (d:Option Nat) (v:AV):N7 (s.put d v) (t.put d v) :=
 ⟨λ n=>by rw [Y6,Y6,h.1 n],λ i=>by rw [xC,xC,h.2 i]⟩
theorem N7.get {s t:St} (h:N7 s t) (m:Nat):s.get m=t.get m:=by simp only [St.get,h.1 m]
theorem N7.ev {s t:St} (h:N7 s t) (x:Operand):s.ev x=t.ev x:=by cases x<;>first|exact Aa (h.get _)|rfl
theorem V1.eqv {s t:St} (h:N7 s t) {ids:List Nat} (hf:V1 s ids):V1 t ids :=
 λ n hn=>⟨(h.2 n).symm.trans (hf n hn).1,λ m v hv=>(hf n hn).2 m v ((h.1 m).trans hv)⟩
def BW (s t:St) (L:List Nat):Prop:=∀ m∈L,t.get m=s.get m/\∀ i,(s.get m).i8 i=true->t.obj i=s.obj i
theorem ME (v:Value) (i:Nat):(ofConst v).i8 i=false:=by
 unfold ofConst
 split
 ·split<;>rfl
 ·rfl
 ·split<;>rfl
 ·rfl
theorem Cw {s:St} {x:Operand} {i:Nat} (h:(s.ev x).i8 i=true):∃ m,x=.tmp m/\(s.get m).i8 i=true:=by
 cases x with
 | tmp m=>exact ⟨m,rfl,Gg h⟩
 | const v=>simp [St.ev,ME] at h
 | global g=>cases h
 | func f=>cases h
theorem BW.agree {s t:St} {L:List Nat} (h:BW s t L) {xs:List Operand} (hL:∀ m,Operand.tmp m∈xs->m∈L):vL s t xs:=by
 intro x hx;refine ⟨?_,λ i hi=>?_⟩
 ·cases x with
  | tmp m=>exact Aa (h m (hL m hx)).1
  | _=>rfl
 ·obtain ⟨m,rfl,hm⟩:=Cw hi
  exact (h m (hL m hx)).2 i hm
structure Put (s s1:St) (d:Option Nat) (T ids:List Nat) (f:AV->AV) (h:Nat->Option g9) (v:AV):Prop where
 fr:∀ n,look n s1.fr=if d=some n then some v else (look n s.fr).map f
 hp:∀ i,look i s1.hp=if i∈T\/i∈ids then h i else look i s.hp
section
variable {s t s1 t1:St} {d:Option Nat} {T ids:List Nat} {f:AV->AV} {h:Nat->Option g9} {v:AV}
theorem Put.eqv (hp:Put s s1 d T ids f h v) (he:N7 s t):Put t s1 d T ids f h v :=
 ⟨λ n=>by rw [hp.fr,he.1 n],λ i=>by rw [hp.hp,he.2 i]⟩
theorem Put.det (hp:Put s s1 d T ids f h v) (cI:Put t t1 d T ids f h v) (he:N7 s t):N7 s1 t1 :=
 ⟨λ n=>by rw [hp.fr,cI.fr,he.1 n],λ i=>by rw [hp.hp,cI.hp,he.2 i]⟩
theorem Put.get (hp:Put s s1 d T ids f h v) (hf:Trim T f) {m:Nat} (hm:d≠some m):s1.get m=f (s.get m):=by
 simp only [St.get,hp.fr,if_neg hm];cases look m s.fr with
 | none=>exact (hf.plain _ rfl).symm
 | some u=>rfl
end
theorem Zc {T:List Nat} {f:AV->AV} (hf:Trim T f):∀ {j:Nat} {l:AV},n6.nth j (f l)=(n6.nth j l).map f:=by
 have nope:∀ {j:Nat} {l:AV},(∀ a b,l≠.cons a b)->n6.nth j l=none:=by
  intro j l h;cases l with
  | cons a b=>exact absurd rfl (h a b)
  | _=>cases j<;>rfl
 have hn:∀ u:AV,(∀ a b,u≠.cons a b)->∀ a b,f u≠.cons a b:=by
  intro u hu a b e;cases u with
  | cons a b=>exact absurd rfl (hu a b)
  | M9 l=>rw [hf.M9] at e; cases e
  | D9 g l=>rw [hf.D9] at e; cases e
  | bx l=>rw [hf.bx] at e; cases e
  | rc g l=>rw [hf.rc] at e; cases e
  | ptr i p=>rcases hf.atom _ (rfl:(AV.ptr i p).ref=true) with h|h<;>rw [h] at e<;>cases e
  | at_ i p=>rcases hf.atom _ (rfl:(AV.at_ i p).ref=true) with h|h<;>rw [h] at e<;>cases e
  | sub i p x y=>rcases hf.atom _ (rfl:(AV.sub i p x y).ref=true) with h|h<;>rw [h] at e<;>cases e
  | _=>rw [hf.plain _ rfl] at e; cases e
 intro j
 induction j with
 | zero =>
  intro l;cases l with
  | cons a b=>rw [hf.cons]; rfl
  | _=>rw [nope (hn _ (by intro a b e; cases e)),nope (by intro a b e; cases e)]; rfl
 | succ j ih =>
  intro l;cases l with
  | cons a b=>rw [hf.cons]; exact ih
  | _=>rw [nope (hn _ (by intro a b e; cases e)),nope (by intro a b e; cases e)]; rfl
theorem yU (o:Oper):(∀ v,M1 o v=v)\/(o.guard=none/\∃ x j,o.op=.extract x j/\∀ v,M1 o v=(match v with
  | .M9 l=>(match n6.nth j l with
   | some v=>.M9 (.cons v .nil)
   | none=>.any)
  | _=>.any)):=by
 unfold M1
 split
 ·rename_i x j hg ho; exact .inr ⟨hg,x,j,ho,λ _=>rfl⟩
 ·exact .inl λ _=>rfl
theorem Kg {T:List Nat} {f:AV->AV} (hf:Trim T f) (o:Oper) (v:AV):M1 o (f v)=f (M1 o v):=by
 rcases yU o with h|⟨_,x,j,_,h⟩
 ·rw [h,h]
 ·rw [h,h]
  have du:f .any=.any:=hf.plain _ rfl;cases v with
  | M9 l =>
   rw [hf.M9];simp only [Zc hf];cases hn:n6.nth j l with
   | none=>exact du.symm
   | some u =>
    show AV.M9 (.cons (f u) .nil)=f (.M9 (.cons u .nil));rw [hf.M9,hf.cons,hf.plain .nil rfl]
  | cons a b=>rw [hf.cons]; exact du.symm
  | D9 g l=>rw [hf.D9]; exact du.symm
  | bx l=>rw [hf.bx]; exact du.symm
  | rc g l=>rw [hf.rc]; exact du.symm
  | ptr i p=>rcases hf.atom _ (rfl:(AV.ptr i p).ref=true) with e|e<;>rw [e]<;>exact du.symm
  | at_ i p=>rcases hf.atom _ (rfl:(AV.at_ i p).ref=true) with e|e<;>rw [e]<;>exact du.symm
  | sub i p x y=>rcases hf.atom _ (rfl:(AV.sub i p x y).ref=true) with e|e<;>rw [e]<;>exact du.symm
  | _=>rw [hf.plain _ rfl]; try exact du.symm
theorem CL {o:Oper} {v:AV} {i:Nat} (h:(M1 o v).i8 i=true):v.i8 i=true:=by
 rcases yU o with e|⟨_,x,j,_,e⟩
 ·rwa [e] at h
 ·rw [e] at h
  split at h
  ·rename_i l
   split at h
   ·rename_i u hu
    have:u.i8 i=true:=by simpa [AV.i8] using h
    show l.i8 i=true;exact JT hu this
   ·cases h
  ·cases h
def yW (o:Oper) (s t:St) (L:List Nat):Prop:=∀ m∈L,M1 o (t.get m)=M1 o (s.get m)/\∀ i,(M1 o (s.get m)).i8 i=true->t.obj i=s.obj i
theorem yW.plain {o:Oper} (h:∀ v,M1 o v=v) {s t:St} {L:List Nat} (ha:yW o s t L):BW s t L:=λ m hm=>by
 have:=ha m hm;simpa only [h] using this
theorem N7.yX {s t:St} (h:N7 s t) (o:Oper) (L:List Nat):yW o s t L:=λ m _=>⟨by rw [h.get m],λ i _=>(h.2 i).symm⟩
def Eff (o:Oper) (run:St->Option (Prop×St)) (d:Option Nat) (L T:List Nat) (s:St) (p:Prop):Prop :=
 ∃ v ids f h,Trim T f/\V1 s ids/\(∀ n∈ids,n % 1000=(d.getD 0) % 1000) /\
  (∀ i,v.i8 i=true->(∃ m∈L,(M1 o (s.get m)).i8 i=true)\/i∈ids) /\
  ∀ t,uniq t.fr->yW o s t L->V1 t ids->∃ t1,run t=some (p,t1)/\uniq t1.fr/\Put t t1 d T ids f h v
section
variable {E:Env} {ops:Array Oper} {s t:St}
theorem QY {o:Oper} {p:Prop} {s1:St} (h:Z1 E o s=some (p,s1)) {L:List Nat} (hL:∀ m,Operand.tmp m∈o.op.operands.toList->m∈L):Eff o (Z1 E o) o.dst L (l6 E o s) s p:=by
 rcases yU o with ee|⟨iE,x,j,cB,ee⟩
 rotate_left
 ·have hd:I5 E.nt o.dst=true:=by
   unfold Z1 at h;split at h
   ·cases h
   ·assumption
  have hr:∀ t,Z1 E o t=(match (match t.ev x with|.M9 l=>(match n6.nth j l with|some v=>OR.ok v t|none=>.fail "extract")|_=>.fail "extract").get with|none=>none|some (p,v,s')=>some (p,s'.put o.dst v)):=by
   intro t;unfold Z1 n6;rw [hd,cB];rfl
  have hT:l6 E o s=[]:=by unfold l6; rw [cB]
  rw [hT];rw [hr] at h;have key:∃ m l v,x=.tmp m/\Nat.beq m K3=false/\s.get m=.M9 l/\n6.nth j l=some v/\p=True:=by
   cases x with
   | tmp m =>
    cases hv:s.ev (.tmp m) with
    | M9 l =>
     rw [hv] at h;cases hn:n6.nth j l with
     | some v =>
      simp only [hn,OR.get,aAc,aBb] at h;exact ⟨m,l,v,rfl,c1K hv nofun,Dk hv nofun,hn,h.1.symm⟩
     | none=>simp only [hn,OR.get] at h; cases h
    | _ =>
     rw [hv] at h;cases h
   | const c =>
    exfalso;have:∀ l,s.ev (.const c)≠.M9 l:=by
     intro l e;simp only [St.ev] at e;unfold ofConst at e
     repeat' split at e
     all_goals cases e
    revert h;cases hv:s.ev (.const c) with
    | M9 l=>exact absurd hv (this l)
    | _=>intro h; cases h
   | global g=>cases h
   | func f=>cases h
  obtain ⟨m,l,v,rfl,th,hm,hn,rfl⟩:=key;have rE:m∈L:=hL m (by rw [cB]; simp [Op.operands]);have kT:M1 o (s.get m)=.M9 (.cons v .nil):=by rw [ee,hm]; simp only [hn]
  refine ⟨v,[],λ u=>u,λ _=>none,Trim.id _,by simp [V1],by simp,λ i hi=>.inl ⟨m,rE,by rw [kT]; simpa [AV.i8] using hi⟩,λ t hu ha _=>?_⟩;have e1:=(ha m rE).1;rw [kT,ee] at e1;have sG:∃ l',t.get m=.M9 l'/\n6.nth j l'=some v:=by
   split at e1
   ·rename_i l' eE
    split at e1
    ·rename_i v' fT
     cases e1;exact ⟨l',eE,fT⟩
    ·cases e1
   ·cases e1
  obtain ⟨l',f1,f2⟩:=sG;have sH:t.ev (.tmp m)=.M9 l':=XC th f1;exact ⟨t.put o.dst v,by rw [hr,sH]; simp only [f2]; rfl,zY hu,⟨λ n=>by rw [Y6]; simp,λ i=>by rw [xC]; simp⟩⟩
 have kU:∀ {t:St},yW o s t L->BW s t L:=λ ha=>ha.plain ee;by_cases hp:∃ a b c,o.op=.pick a b c
 ·obtain ⟨c,a,b,ho⟩:=hp
  have hd:I5 E.nt o.dst=true:=by
   unfold Z1 at h;split at h
   ·cases h
   ·assumption
  have hr:∀ t,Z1 E o t=(match t.ev c with|.val .bool g=>some (True,t.put o.dst (match g with|true=>t.ev a|false=>t.ev b))|_=>none):=by
   intro t;unfold Z1;rw [hd,ho];rfl
  have hT:l6 E o s=[]:=by unfold l6; rw [ho]
  rw [hT];rw [hr] at h;have il:o.op.operands.toList=[c,a,b]:=by rw [ho]; rfl
  rw [il] at hL;have key:∃ g:Bool,s.ev c=.val .bool g:=by
   split at h
   ·exact ⟨_,by assumption⟩
   ·cases h
  obtain ⟨g,hg⟩:=key;rw [hg] at h;simp only [aAc,aBb] at h;obtain ⟨rfl,rfl⟩:=h;refine ⟨(if g=true then s.ev a else s.ev b),[],λ u=>u,λ _=>none,Trim.id _,by simp [V1],by simp,?_,?_⟩
  ·intro i hi
   cases g with
   | true=>obtain ⟨m,hm,hi⟩:=Cw hi; exact .inl ⟨m,hL m (by simp [<- hm]),by rw [ee]; exact hi⟩
   | false=>obtain ⟨m,hm,hi⟩:=Cw hi; exact .inl ⟨m,hL m (by simp [<- hm]),by rw [ee]; exact hi⟩
  ·intro t hu ha _
   have dv:=(kU ha).agree hL;have e1:=(dv c (by simp)).1;have e2:=(dv a (by simp)).1;have e3:=(dv b (by simp)).1;refine ⟨_,by rw [hr,e1,hg,e2,e3],zY hu,⟨λ n=>by rw [Y6]; cases g<;>simp,λ i=>by rw [xC]; simp⟩⟩
 ·have cI:∀ a b c,o.op≠.pick a b c:=λ a b c e=>hp ⟨a,b,c,e⟩
  have hd:I5 E.nt o.dst=true:=by
   unfold Z1 at h;split at h
   ·cases h
   ·assumption
  have hr:∀ t,Z1 E o t=(match (n6 E o t).get with|none=>none|some (p,v,s')=>some (p,s'.put o.dst v)):=by
   intro t;unfold Z1;rw [hd];cases ho:o.op<;>first|rfl|exact absurd ho (cI _ _ _)
  rw [hr] at h;split at h
  ·cases h
  ·rename_i p' v s' hg
   cases h;obtain ⟨ids,f,h,k1,k2,k3,k4,k5⟩:=WK cI hg;refine ⟨v,ids,f,h,k1,k2,k3,?_,?_⟩
   ·intro i hi
    rcases k4 i hi with ⟨x,hx,hm⟩|hm
    ·obtain ⟨m,rfl,hm⟩:=Cw hm
     exact .inl ⟨m,hL m hx,by rw [ee]; exact Gg hm⟩
    ·exact .inr hm
   ·intro t hu ha hf
    obtain ⟨t1,e1,e2,e3⟩:=k5 t hu ((kU ha).agree hL) hf;exact ⟨t1.put o.dst v,by rw [hr,e1],zY e2,⟨λ n=>by rw [Y6,e3.fr],λ i=>by rw [xC,e3.hp]⟩⟩
theorem JV {g:Nat} {v:AV} (hv:s.get g=v) (hn:v≠.any):N7 s (s.put (some g) v):=by
 refine ⟨λ n=>?_,λ i=>rfl⟩;rw [Y6]
 split
 ·rename_i e
  cases e;simp only [St.get] at hv;cases hl:look g s.fr with
  | none=>rw [hl] at hv; exact absurd hv.symm hn
  | some w=>rw [hl] at hv; simp at hv; rw [hv]
 ·rfl
theorem yv {o:Oper} {m:Nat} (hm:Operand.tmp m∈o.op.operands.toList):m∈looks ops o:=aBf _ (aBv.2 ⟨_,hm,rfl⟩)
theorem TP {o:Oper} {i:Nat} (hi:i∈l6 E o s):∃ m∈looks ops o,(s.get m).i8 i=true:=by
 obtain ⟨x,hx,hm⟩:=Ma hi;obtain ⟨m,rfl,hm⟩:=Cw hm;exact ⟨m,yv hx,Gg hm⟩
theorem c3T {o:Oper} (h:∀ m∈looks ops o,t.get m=s.get m):l6 E o t=l6 E o s :=
 Kb (λ x hx=>by
  cases x with
  | tmp m=>exact Aa (h m (yv hx))
  | _=>rfl)
theorem b8I {o:Oper} {i:Nat} (hi:i∈l6 E o s):∃ m∈looks ops o,(M1 o (s.get m)).i8 i=true:=by
 rcases yU o with h|⟨_,x,j,cB,_⟩
 ·obtain ⟨m,hm,cf⟩:=TP (ops:=ops) hi
  exact ⟨m,hm,by rw [h]; exact cf⟩
 ·unfold l6 at hi; rw [cB] at hi; cases hi
theorem TO {o:Oper} (h:∀ m∈looks ops o,M1 o (t.get m)=M1 o (s.get m)):l6 E o t=l6 E o s:=by
 rcases yU o with e|⟨_,x,j,cB,_⟩
 ·exact c3T (λ m hm=>by have:=h m hm; simpa only [e] using this)
 ·unfold l6; rw [cB]
theorem zW {o:Oper} (_hu:uniq s.fr) {p:Prop} {s1:St} (h:I8 E ops o s=some (p,s1)):Eff o (I8 E ops o) o.dst (looks ops o) (l6 E o s) s p:=by
 have hL:∀ m,Operand.tmp m∈o.op.operands.toList->m∈looks ops o:=λ m hm=>yv hm;cases hg:o.guard with
 | none =>
  have hr:∀ t,I8 E ops o t=Z1 E o t:=λ t=>by unfold I8; rw [hg]
  rw [hr] at h;have:=QY h hL
  rwa [<- (funext hr:I8 E ops o=Z1 E o)] at this
 | some jw =>
  obtain ⟨j,want⟩:=jw;have ee:∀ v,M1 o v=v:=by
   rcases yU o with e|⟨iE,_⟩
   ·exact e
   ·rw [hg] at iE; cases iE
  have kU:∀ {t:St} {L:List Nat},yW o s t L->BW s t L:=λ ha=>ha.plain ee;cases hs:Ba ops j with
  | none=>unfold I8 at h; rw [hg] at h; simp [hs] at h
  | some g =>
   have rM:g∈looks ops o:=by unfold looks; rw [hg]; simp [hs]
   have hr:∀ t,I8 E ops o t=(match t.ev (.tmp g) with
    | .raw (.tuple _)=>match I5 E.nt o.dst with
     | true=>some (True,t.put o.dst (.raw undef))
     | false=>none
    | .val .bool b=>match I5 E.nt o.dst with
     | false=>none
     | true=>match b == want with
      | true=>Z1 E o (t.put (some g) (.val .bool b))
      | false=>some (True,(t.put (some g) (.val .bool b)).put o.dst (.raw undef))
    | _=>none):=λ t=>by unfold I8; rw [hg]; dsimp only; rw [hs]; rfl
   have skip:(∀ t,uniq t.fr->t.ev (.tmp g)=s.ev (.tmp g)->∃ t1,I8 E ops o t=some (True,t1)/\uniq t1.fr/\N7 t1 (t.put o.dst (.raw undef)))->Eff o (I8 E ops o) o.dst (looks ops o) (l6 E o s) s True:=by
    intro aP;refine ⟨.raw undef,[],λ u=>u,λ i=>look i s.hp,Trim.id _,by simp [V1],by simp,λ i hi=>by simp [AV.i8] at hi,λ t kW ha _=>?_⟩;have ha:=kU ha;obtain ⟨t1,e1,e2,e3⟩:=aP t kW (Aa (ha g rM).1);refine ⟨t1,e1,e2,⟨λ n=>by rw [e3.1,Y6]; simp,λ i=>?_⟩⟩;rw [e3.2,xC]
    split
    ·rename_i hi
     obtain ⟨m,hm,cf⟩:=TP (ops:=ops) (by simpa using hi:i∈l6 E o s);exact (ha m hm).2 i cf
    ·rfl
   rw [hr] at h;cases hv:s.ev (.tmp g) with
   | raw w =>
    rw [hv] at h;cases w with
    | tuple vs =>
     simp only at h;cases hd:I5 E.nt o.dst with
     | false=>rw [hd] at h; cases h
     | true =>
      rw [hd] at h;simp only [aAc,aBb] at h;obtain ⟨rfl,rfl⟩:=h;exact skip (λ t kW ht=>⟨_,by rw [hr,ht,hv]; simp only [hd],zY kW,N7.refl _⟩)
    | _=>cases h
   | val u b =>
    rw [hv] at h;cases u with
    | bool =>
     simp only at h;cases hd:I5 E.nt o.dst with
     | false=>rw [hd] at h; cases h
     | true =>
      rw [hd] at h;simp only at h;cases hb:(b == want) with
      | false =>
       rw [hb] at h;simp only [aAc,aBb] at h;obtain ⟨rfl,rfl⟩:=h;exact skip (λ t kW ht=>⟨_,by rw [hr,ht,hv]; simp only [hd,hb],zY (zY kW),((JV (Dk (ht.trans hv) (by simp)) (by simp)).symm.put _ _)⟩)
      | true =>
       rw [hb] at h;simp only at h;have bm:=JV (Dk hv (by simp)) (by simp);obtain ⟨v,ids,f,hh,k1,k2,k3,k4,k5⟩:=QY h hL;have uk:l6 E o (s.put (some g) (.val .bool b))=l6 E o s:=Kb (λ x _=>(bm.ev x).symm);rw [uk] at k1 k5;refine ⟨v,ids,f,hh,k1,k2.eqv bm.symm,k3,?_,?_⟩
       ·intro i hi
        rcases k4 i hi with ⟨m,hm,cf⟩|hm
        ·exact .inl ⟨m,hm,by rw [bm.get]; exact cf⟩
        ·exact .inr hm
       ·intro t kW ha hf
        have ha:=kU ha;have rv:t.ev (.tmp g)=.val .bool b:=(Aa (ha g rM).1).trans hv;have bO:=JV (Dk rv (by simp)) (by simp);obtain ⟨t1,e1,e2,e3⟩:=k5 (t.put (some g) (.val .bool b)) (zY kW) (λ m hm=>by
         rw [<- bO.get,<- bm.get,ee,ee];refine ⟨(ha m hm).1,λ i hi=>?_⟩;have:=(ha m hm).2 i hi;simpa [St.obj,xC] using this) (hf.eqv bO)
        refine ⟨t1,by rw [hr,rv]; simp only [hd,hb,e1],e2,e3.eqv bO.symm⟩
    | _=>cases h
   | _=>rw [hv] at h; cases h
theorem RT {o:Oper} (hu:uniq s.fr) (he:N7 s t) (ht:uniq t.fr) {p:Prop} {s1:St} (h:I8 E ops o s=some (p,s1)):∃ t1,I8 E ops o t=some (p,t1)/\uniq t1.fr/\N7 s1 t1:=by
 obtain ⟨v,ids,f,hh,k1,k2,k3,k4,k5⟩:=zW hu h;obtain ⟨s1',e1,_,e3⟩:=k5 s hu ((N7.refl s).yX _ _) k2;rw [h] at e1; cases e1;obtain ⟨t1,f1,f2,f3⟩:=k5 t ht (he.yX _ _) (k2.eqv he);exact ⟨t1,f1,f2,e3.det f3 he⟩
theorem S9 {o:Oper} (hu:uniq s.fr) {p:Prop} {s1:St} (h:I8 E ops o s=some (p,s1)):uniq s1.fr:=by
 obtain ⟨t1,h1,h2,_⟩:=RT hu (N7.refl s) hu h;rw [h] at h1; cases h1; exact h2
theorem Th:∀ {v:AV} {i:Nat},v.clean=true->v.i8 i=false:=by
 intro v
 induction v with
 | cons a b iha ihb =>
  intro i h;simp only [AV.clean,aAa] at h;simp [AV.i8,iha h.1,ihb h.2]
 | M9 l ih=>intro i h; exact ih h
 | D9 f l ih=>intro i h; exact ih h
 | bx l ih=>intro i h; exact ih h
 | rc f l ih=>intro i h; exact ih h
 | ptr i p=>intro i h; cases h
 | at_ i p=>intro i h; cases h
 | sub i p a b=>intro i h; cases h
 | _=>intro i h; rfl
theorem b8P {o:Oper} (hu:uniq s.fr) {p:Prop} {s1:St} (h:I8 E ops o s=some (p,s1)) {m:Nat} (hm:o.dst≠some m) (hc:(s.get m).clean=true):(s1.get m).clean=true:=by
 obtain ⟨v,ids,f,hh,k1,k2,k3,k4,k5⟩:=zW hu h;obtain ⟨s1',e1,_,e3⟩:=k5 s hu ((N7.refl s).yX _ _) k2;rw [h] at e1; cases e1;rw [e3.get k1 hm,k1.fix _ (λ i _=>Th hc)];exact hc
end
end Go.Ex
namespace Go.Ex
section
variable {E:Env} {ops:Array Oper} {s t:St}
theorem get_some {m:Nat} {v:AV} (h:look m s.fr=some v):s.get m=v:=by simp [St.get,h]
theorem Zy {m i:Nat} (h:(s.get m).i8 i=true):∃ v,look m s.fr=some v/\v.i8 i=true:=by
 simp only [St.get] at h;cases hl:look m s.fr with
 | none=>rw [hl] at h; cases h
 | some v=>rw [hl] at h; exact ⟨v,rfl,h⟩
theorem TT {x y:Oper} (h:indep ops x y=true):(∀ d,x.dst=some d->d∉looks ops y)/\(∀ d,y.dst=some d->d∉looks ops x)/\(x.dst.getD 0) % 1000≠(y.dst.getD 0) % 1000:=by
 simp only [indep,aAa,aAu,NQ] at h;obtain ⟨⟨h3,h4⟩,h5⟩:=h;refine ⟨?_,?_,λ e=>?_⟩
 ·intro d hd
  rw [hd] at h3;simp only [aAa,aAu] at h3;intro hm;have:=h3.1;simp [hm] at this
 ·intro d hd
  rw [hd] at h4;simp only [aAu] at h4;intro hm;simp [hm] at h4
 ·rw [e] at h5
  simp at h5
theorem Fm {ids:List Nat} (hn:V1 s ids) {n m:Nat} (h:n∈ids):(s.get m).i8 n=false:=by
 cases hm:(s.get m).i8 n with
 | false=>rfl
 | true =>
  obtain ⟨v,hv,rn⟩:=Zy hm;rw [(hn n h).2 m v hv] at rn; cases rn
theorem Xm {u:AV} (hr:u.ref=true) {i j:Nat} (h1:u.i8 i=true) (h2:u.i8 j=true):i=j:=by
 cases u<;>simp only [AV.ref] at hr<;>first|(cases hr; done)|(simp only [AV.i8] at h1 h2; exact (aAe h1).trans (aAe h2).symm)
theorem c1i {u:AV} (h:u.plain=true) {i:Nat}:u.i8 i=false:=by
 cases u<;>simp only [AV.plain] at h<;>first|rfl|(cases h; done)
theorem Trim.stay {T:List Nat} {f:AV->AV} (hf:Trim T f) {n:Nat} (hn:n∉T):∀ u:AV,u.i8 n=true->(f u).i8 n=true:=by
 refine AV.shape _ (λ u hu h=>?_) (λ u hu h=>?_) ?_ ?_ ?_ ?_ ?_
 ·rw [c1i hu] at h; cases h
 ·rw [hf.yd u hu (λ i hi=>?_)]
  ·exact h
  ·cases hm:u.i8 i with
   | false=>rfl
   | true=>exact absurd (Xm hu hm h▸hi) hn
 ·intro a b ha hb h
  rw [hf.cons];simp only [AV.i8,aBr] at h ⊢;exact h.imp ha hb
 ·intro l hl h; rw [hf.M9]; exact hl h
 ·intro k l hl h; rw [hf.D9]; exact hl h
 ·intro l hl h; rw [hf.bx]; exact hl h
 ·intro k l hl h; rw [hf.rc]; exact hl h
theorem swap {x y:Oper} (hi:indep ops x y=true) (hu:uniq s.fr) (hx:∀ d,x.dst=some d->(s.get d).clean=true) {p q:Prop} {s1 s2:St} (h1:I8 E ops x s=some (p,s1)) (h2:I8 E ops y s1=some (q,s2))
  (hP:xK ops x s (l6 E x s) y (l6 E y s1)) :
  ∃ s1' s2',I8 E ops y s=some (q,s1')/\I8 E ops x s1'=some (p,s2')/\uniq s1'.fr/\uniq s2'.fr/\N7 s2' s2/\l6 E y s=l6 E y s1/\l6 E x s1'=l6 E x s /\
   (∀ m∈looks ops x,M1 x (s1'.get m)=M1 x (s.get m))/\∀ (z:Oper) m,∀ i∈l6 E x s,(M1 z (s1'.get m)).i8 i=true->(M1 z (s.get m)).i8 i=true:=by
 obtain ⟨ax,ay,jP⟩:=TT hi;obtain ⟨P1,P2,P3⟩:=hP;have mE:=S9 hu h1;obtain ⟨v,ids,f,g,k1,k2,k3,k4,k5⟩:=zW hu h1;obtain ⟨_,e1,_,iO⟩:=k5 s hu ((N7.refl s).yX _ _) k2;rw [h1] at e1; cases e1;obtain ⟨v',ids',f',g',m1,m2,m3,m4,m5⟩:=zW mE h2;obtain ⟨_,e2,_,jI⟩:=m5 s1 mE ((N7.refl s1).yX _ _) m2;rw [h2] at e2; cases e2;have kI:∀ d,x.dst=some d->y.dst=some d->False:=λ d e1 e2=>jP (by rw [e1,e2]);have bW:∀ m∈looks ops y,M1 y (s1.get m)=M1 y (s.get m):=by
  intro m hm;rw [iO.get k1 (λ e=>ax m e hm),Kg k1,k1.fix _ (λ i hi=>P1 m hm i hi)]
 have ui:l6 E y s=l6 E y s1:=(TO bW).symm;have nZ:∀ i∈l6 E y s1,∃ m∈looks ops y,(M1 y (s.get m)).i8 i=true:=by
  intro i hi;obtain ⟨m,hm,cf⟩:=b8I (ops:=ops) hi;exact ⟨m,hm,by rw [<- bW m hm]; exact cf⟩
 have d1:∀ i∈l6 E x s,i∉l6 E y s1:=by
  intro i hi hj;obtain ⟨m,hm,cf⟩:=nZ i hj;rw [P1 m hm i hi] at cf; cases cf
 have d2:∀ i∈ids,i∉l6 E y s1:=by
  intro i hi hj;obtain ⟨m,hm,cf⟩:=nZ i hj;have cf:=CL cf;rw [Fm k2 hi] at cf; cases cf
 have d3:∀ i∈l6 E x s,i∉ids':=λ i hi hj=>P3 i hi (m3 i hj);have d4:∀ i∈ids,i∉ids':=λ i hi hj=>jP ((k3 i hi).symm.trans (m3 i hj));have gj:∀ i,i∉l6 E x s->i∉ids->look i s1.hp=look i s.hp:=λ i h1 h2=>by rw [iO.hp,if_neg (by rintro (h|h); exact h1 h; exact h2 h)]
 have dv:yW y s1 s (looks ops y):=by
  intro m hm;refine ⟨(bW m hm).symm,λ i hi=>?_⟩;rw [bW m hm] at hi;refine (gj i (λ h=>?_) (λ h=>?_)).symm
  ·rw [P1 m hm i h] at hi; cases hi
  ·have hi:=CL hi
   rw [Fm k2 h] at hi; cases hi
 have jV:V1 s ids':=by
  intro n hn;refine ⟨?_,λ m w hw=>?_⟩
  ·rw [<- gj n (λ h=>d3 n h hn) (λ h=>d4 n h hn)]; exact (m2 n hn).1
  ·by_cases hd:x.dst=some m
   ·have:=hx m hd
    rw [get_some hw] at this;exact Th this
   ·cases sr:w.i8 n with
    | false=>rfl
    | true =>
     have:=k1.stay (λ h=>d3 n h hn) w sr;have h3:=(m2 n hn).2 m (f w) (by rw [iO.fr,if_neg hd,hw]; rfl);rw [this] at h3; cases h3
 obtain ⟨s1',f1,fu,fW⟩:=m5 s hu dv jV;have dC:∀ m∈looks ops x,M1 x (s1'.get m)=M1 x (s.get m):=by
  intro m hm;rw [fW.get m1 (λ e=>ay m e hm),Kg m1,m1.fix _ (λ i hi=>P2 m hm i hi)]
 have qL:yW x s s1' (looks ops x):=by
  intro m hm;refine ⟨dC m hm,λ i hi=>?_⟩;show look i s1'.hp=look i s.hp;rw [fW.hp,if_neg];rintro (h|h)
  ·rw [P2 m hm i h] at hi; cases hi
  ·have hi:=CL hi
   rw [Fm jV h] at hi; cases hi
 have fT:∀ i,v'.i8 i=true->i∉l6 E x s/\i∉ids:=by
  intro i hi;rcases m4 i hi with ⟨m,hm,cf⟩|cf
  ·rw [bW m hm] at cf
   refine ⟨λ h=>?_,λ h=>?_⟩
   ·rw [P1 m hm i h] at cf; cases cf
   ·have cf:=CL cf
    rw [Fm k2 h] at cf; cases cf
  ·exact ⟨λ h=>d3 i h cf,λ h=>d4 i h cf⟩
 have hv:∀ i,v.i8 i=true->i∉l6 E y s1:=by
  intro i hi;rcases k4 i hi with ⟨m,hm,cf⟩|cf
  ·exact λ h=>by rw [P2 m hm i h] at cf; cases cf
  ·exact d2 i cf
 have qk:V1 s1' ids:=by
  intro n hn;refine ⟨?_,λ m w hw=>?_⟩
  ·rw [fW.hp,if_neg]
   ·exact (k2 n hn).1
   ·rintro (h|h)
    ·exact d2 n hn h
    ·exact d4 n hn h
  ·rw [fW.fr] at hw
   split at hw
   ·cases hw
    cases hm:v'.i8 n with
    | false=>rfl
    | true=>exact absurd hn (fT n hm).2
   ·cases hl:look m s.fr with
    | none=>rw [hl] at hw; cases hw
    | some u =>
     rw [hl] at hw;cases hw;cases hm:(f' u).i8 n with
     | false=>rfl
     | true=>have:=m1.i8 u hm; rw [(k2 n hn).2 m u hl] at this; cases this
 obtain ⟨s2',g1,gu,mK⟩:=k5 s1' fu qL qk;refine ⟨s1',s2',f1,g1,fu,gu,⟨λ n=>?_,λ i=>?_⟩,ui,TO dC,dC,?_⟩
 ·rw [mK.fr,jI.fr,fW.fr,iO.fr]
  by_cases a:x.dst=some n
  ·rw [if_pos a,if_neg (λ b=>kI n a b),if_pos a,aBh,m1.fix v]
   intro i hi;cases hm:v.i8 i with
   | false=>rfl
   | true=>exact absurd hi (hv i hm)
  ·rw [if_neg a,if_neg a]
   by_cases b:y.dst=some n
   ·rw [if_pos b,if_pos b,aBh,k1.fix v']
    intro i hi;cases hm:v'.i8 i with
    | false=>rfl
    | true=>exact absurd hi (fT i hm).1
   ·rw [if_neg b,if_neg b,aEo,aEo]
    congr 1
    funext u
    exact k1.comm m1 u
 ·rw [mK.hp,jI.hp,fW.hp,iO.hp]
  by_cases a:i∈l6 E x s\/i∈ids
  ·rw [if_pos a,if_neg,if_pos a]
   rintro (b|b)
   ·rcases a with a|a
    ·exact d1 i a b
    ·exact d2 i a b
   ·rcases a with a|a
    ·exact d3 i a b
    ·exact d4 i a b
  ·rw [if_neg a,if_neg a]
 ·intro z m i hi hm
  by_cases b:y.dst=some m
  ·have:s1'.get m=v':=get_some (by rw [fW.fr,if_pos b])
   rw [this] at hm;exact absurd hi (fT i (CL hm)).1
  ·rw [fW.get m1 b,Kg m1] at hm
   exact m1.i8 _ hm
end
end Go.Ex
namespace Go.Ex
section
variable {E:Env} {ops:Array Oper} {M:Nat->Nat} {s t:St}
def rem (ops:Array Oper) (l:List Nat):List Oper:=l.filterMap λ i=>ops[i]?
theorem Ft {i:Nat} {o:Oper} {l:List Nat} (h:ops[i]?=some o):rem ops (i::l)=o::rem ops l:=by simp [rem,h]
theorem Cz {l m:List Nat}:rem ops (l++m)=rem ops l++rem ops m:=by simp [rem,aCu]
def Q6 (s:St) (l:List Oper):Prop:=∀ o∈l,∀ d,o.dst=some d->(s.get d).clean=true
def R2:List Oper->Prop
 | []=>True
 | o::l=>(∀ d,o.dst=some d->∀ x∈l,x.dst≠some d)/\R2 l
theorem Q6.sub {l l':List Oper} (h:Q6 s l) (hs:∀ o∈l',o∈l):Q6 s l':=λ o ho=>h o (hs o ho)
def nl (ops:Array Oper) (l:List Nat):List Nat:=l.filter (λ j=>!zQ ops j)
theorem NO {l m:List Nat}:nl ops (l++m)=nl ops l++nl ops m:=by simp [nl]
theorem WN {l:List Nat} {i:Nat} (hi:i<ops.size) (h:∀ j∈l,j<i) (hm:∀ j∈l,((E9 ops.toList []).getD i 0).testBit j=false):nl ops l=l :=
 aDe.2 (λ j hj=>by
  cases e:zQ ops j with
  | false=>rfl
  | true =>
   unfold zQ at e;rw [aBk] at e;have:=e i (aCt.2 hi);rw [hm j hj,show Nat.blt j i=true by rw [aDf]; exact h j hj] at this;cases this)
theorem b81 {j:Nat} (h:zQ ops j=false):j+1<ops.size:=by
 rcases aEd (j+1) ops.size with h1|h1
 ·exact h1
 ·exfalso
  have:zQ ops j=true:=by
   unfold zQ;rw [aBk];intro i hi;have:=aCt.1 hi;have:Nat.blt j i=false:=by
    cases e:Nat.blt j i with
    | false=>rfl
    | true=>rw [aDf] at e; omega
   rw [this]; rfl
  rw [this] at h; cases h
theorem WO {l:List Nat}:∀ o∈rem ops (nl ops l),o∈rem ops l:=λ o ho=>by
 obtain ⟨j,h1,h2⟩:=aBv.1 ho;exact aBv.2 ⟨j,(aBw.1 h1).1,h2⟩
theorem Q6.step {o:Oper} {l:List Oper} (hu:uniq s.fr) (hc:Q6 s l) (hd:∀ x∈l,∀ d,x.dst=some d->o.dst≠some d) {p:Prop} {s1:St} (h:I8 E ops o s=some (p,s1)):Q6 s1 l :=
 λ x hx d gz=>b8P hu h (hd x hx d gz) (hc x hx d gz)
def Wb (E:Env) (ops:Array Oper) (acc bJ:List (Nat×St)):Prop :=
 ∀ e'∈bJ,∃ e∈acc,e.1=e'.1/\∀ x,ops[e.1]?=some x->(∀ m∈looks ops x,M1 x (e'.2.get m)=M1 x (e.2.get m))/\l6 E x e'.2=l6 E x e.2/\∀ (z:Oper) m,∀ k∈l6 E x e.2,(M1 z (e'.2.get m)).i8 k=true->(M1 z (e.2.get m)).i8 k=true
theorem xK.Aj {x:Oper} {sx sx':St} {y:Oper} {Ty Ty':List Nat} (h:xK ops x sx (l6 E x sx) y Ty) (h1:∀ m∈looks ops x,M1 x (sx'.get m)=M1 x (sx.get m)) (h2:l6 E x sx'=l6 E x sx) (h3:∀ (z:Oper) m,∀ k∈l6 E x sx,(M1 z (sx'.get m)).i8 k=true->(M1 z (sx.get m)).i8 k=true) (hT:Ty'=Ty) :
  xK ops x sx' (l6 E x sx') y Ty':=by
 subst hT;obtain ⟨P1,P2,P3⟩:=h;rw [h2];refine ⟨λ m hm i hi=>?_,λ m hm i hi=>by rw [h1 m hm]; exact P2 m hm i hi,P3⟩;cases hh:(M1 y (sx'.get m)).i8 i with
 | false=>rfl
 | true=>have:=h3 y m i hi hh; rw [P1 m hm i hi] at this; cases this
theorem SV {o:Oper} (h:N7 s t):l6 E o t=l6 E o s:=Kb (λ x _=>(h.ev x).symm)
theorem LW:∀ {l:List Nat} {acc bJ:List (Nat×St)} {s t s':St},Wb E ops acc bJ->uniq s.fr->N7 s t->uniq t.fr->vW E ops M acc l s s'->∃ t',vW E ops M bJ l t t'/\N7 s' t'
 | [],acc,bJ,s,t,s',_,_,he,_,h=>⟨t,rfl,by rw [<- show s=s' from h]; exact he⟩
 | i::l,acc,bJ,s,t,s',hg,hu,he,ht,⟨o,ho,hc,p,s1,h1,h2,h3⟩=>by
  obtain ⟨t1,k1,k2,k3⟩:=RT hu he ht h1;obtain ⟨t',m1,m2⟩:=LW (acc:=(i,s)::acc) (bJ:=(i,t)::bJ) (λ e' eH=>by
   rcases aAq.1 eH with rfl|eH
   ·exact ⟨(i,s),by simp,rfl,λ x _=>⟨λ m _=>by show M1 x (t.get m)=M1 x (s.get m); rw [he.get m],SV he,λ z m k _ hm=>by have hm:(M1 z (t.get m)).i8 k=true:=hm; rw [<- he.get m] at hm; exact hm⟩⟩
   ·obtain ⟨e,h4,h5,h6⟩:=hg e' eH; exact ⟨e,by simp [h4],h5,h6⟩) (S9 hu h1) k3 k2 h3
  refine ⟨t',⟨o,ho,λ e' eH=>?_,p,t1,k1,h2,m1⟩,m2⟩;obtain ⟨e,h4,h5,h6⟩:=hg e' eH;rw [<- h5];rcases hc e h4 with h|⟨x,hx,hP⟩
  ·exact .inl h
  ·obtain ⟨g1,g2,g3⟩:=h6 x hx
   exact .inr ⟨x,hx,hP.Aj g1 g2 g3 (SV he)⟩
theorem Ez {i:Nat} {o:Oper} (ho:ops[i]?=some o) {post:List Nat}:∀ {pre:List Nat} {acc:List (Nat×St)} {s s':St},R2 (rem ops (pre++i::post))->(∀ j∈pre,(M i).testBit j=false/\∀ x,ops[j]?=some x->indep ops x o=true)->uniq s.fr->Q6 s (rem ops pre) ->
  vW E ops M acc (pre++i::post) s s' ->
  ∃ p s1 s2,I8 E ops o s=some (p,s1)/\p/\vW E ops M acc (pre++post) s1 s2/\N7 s2 s'/\∀ e∈acc,(M i).testBit e.1=true\/∃ x,ops[e.1]?=some x/\xK ops x e.2 (l6 E x e.2) o (l6 E o s)
 | [],acc,s,s',_,_,hu,_,⟨o',fb,hc,p,s1,h1,h2,h3⟩=>by
  rw [ho] at fb; cases fb;obtain ⟨t',m1,m2⟩:=LW (acc:=(i,s)::acc) (bJ:=acc) (λ e he=>⟨e,by simp [he],rfl,λ x _=>⟨λ _ _=>rfl,rfl,λ _ _ _ _ h=>h⟩⟩) (S9 hu h1) (N7.refl s1) (S9 hu h1) h3;exact ⟨p,s1,t',h1,h2,m1,m2.symm,hc⟩
 | j::pre,acc,s,s',ft,dy,hu,cK,⟨x,hx,hc,p,s1,h1,h2,h3⟩=>by
  have mE:=S9 hu h1;have er:rem ops (j::pre++i::post)=x::rem ops (pre++i::post):=Ft hx;rw [er] at ft;rw [Ft hx] at cK;have nM:∀ y∈rem ops pre,∀ d,y.dst=some d->x.dst≠some d:=λ y hy d sl gz=>ft.1 d gz y (by rw [Cz]; exact aBf _ hy) sl;have qB:Q6 s1 (rem ops pre):=Q6.step hu (λ y hy=>cK y (by simp [hy])) nM h1;obtain ⟨q,sa,sb,k1,k2,k3,k4,k5⟩:=Ez ho (pre:=pre) (acc:=(j,s)::acc) ft.2 (λ y hy=>dy y (by simp [hy])) mE qB h3;obtain ⟨cJ,fB⟩:=dy j (by simp);have hP:xK ops x s (l6 E x s) o (l6 E o s1):=by
   rcases k5 (j,s) (by simp) with h|⟨x',ew,hP⟩
   ·rw [cJ] at h; cases h
   ·have ew:ops[j]?=some x':=ew
    rw [hx] at ew; cases ew; exact hP
  obtain ⟨s1',s2',m1,m2,m3,m4,m5,m6,m7,m8,m9⟩:=swap (fB x hx) hu (λ d hd=>cK x (by simp) d hd) h1 k1 hP;obtain ⟨t',n1,n2⟩:=LW (acc:=(j,s)::acc) (bJ:=(j,s1')::acc) (λ e' eH=>by
   rcases aAq.1 eH with rfl|eH
   ·refine ⟨(j,s),by simp,rfl,λ y hy=>?_⟩
    have hy:ops[j]?=some y:=hy;rw [hx] at hy; cases hy;exact ⟨m8,m7,m9⟩
   ·exact ⟨e',by simp [eH],rfl,λ y _=>⟨λ _ _=>rfl,rfl,λ _ _ _ _ h=>h⟩⟩) (S9 mE k1) m5.symm m4 k3
  refine ⟨q,s1',t',m1,k2,⟨x,hx,λ e he=>?_,p,s2',m2,h2,n1⟩,n2.symm.trans k4,λ e he=>?_⟩
  ·rcases hc e he with h|⟨y,hy,hP⟩
   ·exact .inl h
   ·exact .inr ⟨y,hy,by rw [m7]; exact hP⟩
  ·rcases k5 e (by simp [he]) with h|⟨y,hy,hP⟩
   ·exact .inl h
   ·exact .inr ⟨y,hy,by rw [m6]; exact hP⟩
end
end Go.Ex
namespace Go.Ex
section
variable {E:Env} {ops:Array Oper} {B:F5} {S:Nat->Prop} {ι:Ix} {s:St} {a:Act} {w:World}
def idxs (n:Nat) (listed:Array Bool):List Nat:=(List.range n).filter λ i=>!listed.getD i true
theorem G5 {n i:Nat} {listed:Array Bool}:i∈idxs n listed↔i<n/\listed.getD i true=false:=by
 simp [idxs]
theorem a12 (n:Nat) (listed:Array Bool):(idxs n listed).Pairwise (·<·):=List.Pairwise.filter _ List.pairwise_lt_range
theorem CS {n i:Nat} {listed:Array Bool} (hs:listed.size=n) (hi:i<n):idxs n (listed.setIfInBounds i true)=(idxs n listed).filter (λ k=>!(k == i)):=by
 unfold idxs;rw [List.filter_filter];refine aGf (λ k hk=>?_);by_cases e:k=i
 ·subst e
  have:k<listed.size:=by omega
  simp [this]
 ·have:(listed.setIfInBounds i true).getD k true=listed.getD k true:=getD_set_ne true (Ne.symm e)
  rw [this];simp [e]
theorem Mc {n i:Nat} {listed:Array Bool} (hi:i∈idxs n listed):∃ pre post,idxs n listed=pre++i::post/\(∀ j∈pre,j<i)/\(idxs n listed).filter (λ k=>!(k == i))=pre++post:=by
 obtain ⟨pre,post,e⟩:=List.append_of_mem hi;have hp:=a12 n listed;rw [e,aHp] at hp;obtain ⟨h1,h2,h3⟩:=hp;have bf:∀ j∈pre,j<i:=λ j hj=>h3 j hj i (by simp);have fD:∀ j∈post,i<j:=λ j hj=>(aEg.1 h2).1 j hj;refine ⟨pre,post,e,bf,?_⟩;rw [e,aDi,aDg];simp only [beq_self_eq_true,aGc,aFd,if_false];rw [aDe.2 (λ j hj=>by have:=bf j hj; simp; omega),aDe.2 (λ j hj=>by have:=fD j hj; simp; omega)]
theorem FE (h:xx ops=true):∀ i o,ops[i]?=some o->(∀ e∈o.after,Region.binds .any e=true->e.on<i) /\
  (∀ j,j<ops.size->((E9 ops.toList []).getD i 0).testBit j=true->∃ e∈o.after,Region.binds .any e=true/\(e.on=j\/((E9 ops.toList []).getD e.on 0).testBit j=true)) /\
  (∀ j x,j<i->ops[j]?=some x->((E9 ops.toList []).getD i 0).testBit j=true\/indep ops x o=true):=by
 intro i o ho;have hi:i<ops.toList.length:=by
  have:=(aAp.1 ho).1;simpa using this
 simp only [xx,aBk,aCt] at h;have h1:=h i hi;have hl:ops.toList[i]?=some o:=by simpa using ho
 rw [hl] at h1;simp only [aAa,aBk,aCt] at h1;obtain ⟨⟨k1,k2⟩,k3⟩:=h1;refine ⟨?_,?_,?_⟩
 ·intro e he hb
  simp only [Np,aBk] at k1;have:=k1 e (by simpa using he);rw [hb] at this;simpa [aDf] using this
 ·intro j hj hm
  simp only [NM,aBk,aCt] at k2;have:=k2 j (by simpa using hj);rw [hm] at this;simp only [aGc,Bool.false_or,aEr,aAa,aBr] at this;obtain ⟨e,he,hb,h3⟩:=this;exact ⟨e,by simpa using he,hb,h3.imp aAe id⟩
 ·intro j x hj hx
  have:=k3 j hj;have ew:ops.toList[j]?=some x:=by simpa using hx
  rw [ew] at this;simpa using this
def zT (ops:Array Oper) (listed:Array Bool):Prop:=∀ k o,ops[k]?=some o->listed.getD k true=true->∀ e∈o.after,Region.binds .any e=true->listed.getD e.on false=true
theorem W8 {listed:Array Bool} {k:Nat} (h:listed.getD k false=true):listed.getD k true=true:=by
 rcases aEd k listed.size with h'|h'
 ·simp [h'] at h ⊢; exact h
 ·simp [aCj h'] at h
theorem FY {M:Nat->Nat} (hM:∀ i o,ops[i]?=some o->(∀ e∈o.after,Region.binds .any e=true->e.on<i)/\(∀ j,j<ops.size->(M i).testBit j=true->∃ e∈o.after,Region.binds .any e=true/\(e.on=j\/(M e.on).testBit j=true)))
  {listed:Array Bool} (hc:zT ops listed):∀ (i:Nat) (o:Oper),ops[i]?=some o->(∀ e∈o.after,Region.binds .any e=true->listed.getD e.on false=true)->∀ j,j<ops.size->(M i).testBit j=true->listed.getD j false=true:=by
 intro i
 induction i using Nat.strongRecOn with
 | _ i ih =>
  intro o ho hp j hj hm;obtain ⟨e,he,hb,h3⟩:=(hM i o ho).2 j hj hm;have bf:=(hM i o ho).1 e he hb;rcases h3 with rfl|h3
  ·exact hp e he hb
  ·have hi:i<ops.size:=(aAp.1 ho).1
   have nK:ops[e.on]?=some (ops[e.on]'(by omega)):=aCe (by omega);exact ih e.on bf _ nK (hc e.on _ nK (W8 (hp e he hb))) j hj h3
theorem Uk (hE:E2 E B) (hn:B.n=E.nt) (hd:xx ops=true) {Q:Exit->Act->World->Prop} {s0:St} (hQ:∀ S ι a w,RS B S ι s0 a w->Q .normal a w) :
  ∀ (fuel:Nat) (listed:Array Bool) (S:Nat->Prop) (ι:Ix) (s s':St) (a:Act) (w:World),listed.size=ops.size->(idxs ops.size listed).length=fuel->zT ops listed->R2 (rem ops (idxs ops.size listed))->uniq s.fr->Q6 s (rem ops (nl ops (idxs ops.size listed))) ->
   vW E ops (λ i=>(E9 ops.toList []).getD i 0) [] (idxs ops.size listed) s s'->N7 s' s0->RS B S ι s a w->wpAny E.P .any ops Q fuel listed a w:=by
 have hM:=FE hd;have EE:∀ {S:Nat->Prop} {ι:Ix} {s t:St} {a:Act} {w:World},N7 s t->RS B S ι s a w->RS B S ι t a w:=by
  intro S ι s t a w he h;have dB:∀ {v:AV} {vs:List Value},VX w.heap S ι s.hp v vs->VX w.heap S ι t.hp v vs:=by
   intro v vs hv;exact VX.other (λ i _=>(he.2 i).symm) (λ i _=>G1.refl ι i) hv
  exact ⟨⟨h.hs.os,h.hs.tape,h.hs.out,h.hs.size,h.hs.frame,h.hs.slt,h.hs.s0,h.hs.s1,λ i e hi=>h.hs.ob i e ((he.2 i).trans hi),λ i e hi=>h.hs.bl i e ((he.2 i).trans hi),λ i j ei ej hi hj=>h.hs.dj i j ei ej ((he.2 i).trans hi) ((he.2 j).trans hj),λ q hq=>by obtain ⟨r1,⟨e,r2⟩,r3⟩:=h.hs.pin q hq; exact ⟨r1,⟨e,(he.2 q.1).symm.trans r2⟩,r3⟩⟩,h.dfr,h.sz,
   λ m v hv=>dB (h.fr m v ((he.1 m).trans hv))⟩
 intro fuel
 induction fuel with
 | zero =>
  intro listed S ι s s' a w aW hlen cK ft hu fN aP he cv;have fY:idxs ops.size listed=[]:=aCp.1 hlen;rw [fY] at aP;have ph:s=s':=aP;subst ph;refine ⟨?_,hQ S ι a w (EE he cv)⟩;rw [aDl];intro i hi;obtain ⟨h1,o,h2,_⟩:=mem_ready.1 hi;have:i∈idxs ops.size listed:=G5.2 ⟨(aAp.1 h2).1,h1⟩;rw [fY] at this;cases this
 | succ fuel ih =>
  intro listed S ι s s' a w aW hlen cK ft hu fN aP he cv;refine ⟨λ hr=>?_,λ i hi=>?_⟩
  ·exfalso
   cases lA:idxs ops.size listed with
   | nil=>rw [lA] at hlen; cases hlen
   | cons i l =>
    have bj:i∈idxs ops.size listed:=by rw [lA]; simp
    obtain ⟨h1,h2⟩:=G5.1 bj;have ho:ops[i]?=some ops[i]:=aCe h1;have:i∈Region.ready .any ops listed:=by
     refine mem_ready.2 ⟨h2,ops[i],ho,λ e he hb=>?_⟩;have bf:=(hM i _ ho).1 e he hb;cases hle:listed.getD e.on true with
     | true =>
      have:e.on<listed.size:=by omega
      simp [this] at hle ⊢; exact hle
     | false =>
      exfalso;have kx:e.on∈idxs ops.size listed:=G5.2 ⟨by omega,hle⟩;have hs:=a12 ops.size listed;rw [lA] at hs kx;rcases aAq.1 kx with e1|e1
      ·omega
      ·have:=(aEg.1 hs).1 _ e1; omega
    rw [hr] at this;cases this
  ·obtain ⟨h1,o,ho,bc⟩:=mem_ready.1 hi
   have dy:i<ops.size:=(aAp.1 ho).1;have bj:i∈idxs ops.size listed:=G5.2 ⟨dy,h1⟩;obtain ⟨pre,post,e1,bf,e2⟩:=Mc bj;have er:rem ops (pre++i::post)=rem ops pre++o::rem ops post:=by simp [rem,aCu,ho]
   have er2:rem ops (pre++post)=rem ops pre++rem ops post:=by simp [rem,aCu]
   rw [e1] at ft fN aP;have fB:∀ j∈pre,((E9 ops.toList []).getD i 0).testBit j=false/\∀ x,ops[j]?=some x->indep ops x o=true:=by
    intro j hj;have gC:((E9 ops.toList []).getD i 0).testBit j=false:=by
     cases hm:((E9 ops.toList []).getD i 0).testBit j with
     | false=>rfl
     | true =>
      exfalso;have iZ:=FY (M:=λ i=>(E9 ops.toList []).getD i 0) (λ i o ho=>⟨(hM i o ho).1,(hM i o ho).2.1⟩) cK i o ho bc j (by have:=bf j hj; omega) hm;have:j∈idxs ops.size listed:=by rw [e1]; simp [hj]
      have:=(G5.1 this).2;rw [W8 iZ] at this;cases this
    refine ⟨gC,λ x hx=>?_⟩;rcases (hM i o ho).2.2 j x (bf j hj) hx with hm|hm
    ·rw [gC] at hm; cases hm
    ·exact hm
   have qC:Q6 s (rem ops (nl ops (pre++post))):=fN.sub (λ y hy=>by
    rw [NO,Cz] at hy ⊢;rcases aAi.1 hy with hy|hy
    ·exact aBf _ hy
    ·refine aBs _ ?_
     obtain ⟨j,j1,j2⟩:=aBv.1 hy;obtain ⟨j3,j4⟩:=aBw.1 j1;exact aBv.2 ⟨j,aBw.2 ⟨aAz _ j3,j4⟩,j2⟩)
   obtain ⟨p,s1,s2,k1,k2,k3,k4,_⟩:=Ez ho ft fB hu (fN.sub (λ y hy=>by
    rw [NO,Cz,WN dy bf (λ j hj=>(fB j hj).1)]; exact aBf _ hy)) aP
   rw [er] at ft;have aI:=(CS aW dy).trans e2;have gU:R2 (rem ops pre++rem ops post)/\∀ x∈rem ops pre++rem ops post,∀ d,x.dst=some d->o.dst≠some d:=by
    have:∀ {A C:List Oper},R2 (A++o::C)->R2 (A++C)/\∀ x∈A++C,∀ d,x.dst=some d->o.dst≠some d:=by
     intro A
     induction A with
     | nil=>intro C h; exact ⟨h.2,λ x hx d gz im=>h.1 d im x hx gz⟩
     | cons y A ih =>
      intro C h;obtain ⟨m1,m2⟩:=ih h.2;refine ⟨⟨λ d hd x hx=>h.1 d hd x (by simp at hx ⊢; rcases hx with hx|hx<;>simp [hx]),m1⟩,λ x hx d gz im=>?_⟩;rcases aAq.1 hx with rfl|hx
      ·exact h.1 d gz o (by simp) im
      ·exact m2 x hx d gz im
    exact this ft
   have ff:=Mw hE hn cv (ops:=ops) o (k:=λ x=>Tree.cut .skip [] x) (L:=λ _ _ x=>x=s1) (Rt:=λ _=>True) (CF.2 ⟨p,s1,k1,k2,rfl⟩)
    (next:=wpAny E.P .any ops Q fuel (listed.setIfInBounds i true)) (Q:=Q) (λ S' ι' x a' w' hx kR=>by
     have kR:x=s1:=kR;subst kR;refine ih (listed.setIfInBounds i true) S' ι' x s2 a' w' (by simp [aW]) ?_ ?_ ?_ (S9 hu k1) ?_ ?_ (k4.trans he) hx
     ·rw [aI]; rw [e1] at hlen; simp at hlen ⊢; omega
     ·intro k y hy hk e' eH cV
      by_cases gM:k=i
      ·subst gM
       rw [ho] at hy; cases hy;exact getD_set_true (bc e' eH cV)
      ·rw [getD_set_ne true (Ne.symm gM)] at hk
       exact getD_set_true (cK k y hy hk e' eH cV)
     ·rw [aI,er2]; exact gU.1
     ·rw [aI]
      exact Q6.step hu qC (λ y hy=>gU.2 y (by rw [<- er2]; exact WO y hy)) k1
     ·rw [aI]; exact k3)
   unfold wpOp;rw [ho];simp only
   split
   ·rename_i hw; rw [if_pos hw] at ff; exact .inl ff
   ·rename_i hw; rw [if_neg hw] at ff; exact ff
theorem filterMap_some {α β:Type _} {f:α->Option β} {g:α->β}:∀ {l:List α},(∀ i∈l,f i=some (g i))->l.filterMap f=l.map g
 | [],_=>rfl
 | x::l,h=>by rw [aCl,h x (by simp)]; simp [filterMap_some (l:=l) (λ i hi=>h i (by simp [hi]))]
theorem EX:rem ops (idxs ops.size (Array.replicate ops.size false))=ops.toList:=by
 have:idxs ops.size (Array.replicate ops.size false)=List.range ops.size:=by
  unfold idxs;refine aDe.2 (λ i hi=>?_);have:i<ops.size:=aCt.1 hi;simp [this]
 rw [this];unfold rem;apply aEm;intro i;have e:(List.range ops.size).filterMap (λ i=>ops[i]?)=(List.range ops.size).map (λ i=>ops.getD i default):=filterMap_some (λ i hi=>by
  have:i<ops.size:=aCt.1 hi;simp [this])
 rw [e];by_cases hi:i<ops.size
 ·simp [hi]
 ·simp [hi]
theorem CO:∀ {l:List Oper},Di (wX l)=true->R2 l
 | [],_=>trivial
 | o::l,h=>by
  cases hd:o.dst with
  | none =>
   have:wX (o::l)=wX l:=by simp [wX,hd]
   rw [this] at h;exact ⟨λ d eg=>(by rw [hd] at eg; cases eg),CO h⟩
  | some d =>
   have:wX (o::l)=d::wX l:=by simp [wX,hd]
   rw [this] at h;simp only [Di,aAa,aAu] at h;refine ⟨λ d' eg x hx gz=>?_,CO h.2⟩;rw [hd] at eg;cases eg;have:d∈wX l:=aBv.2 ⟨x,hx,gz⟩;have h1:=h.1;simp [this] at h1
theorem zn:idxs ops.size (Array.replicate ops.size false)=List.range ops.size:=by
 unfold idxs;refine aDe.2 (λ i hi=>?_);have:i<ops.size:=aCt.1 hi;simp [this]
theorem c4D {o:Oper} {l:List Nat} (ho:o∈rem ops (nl ops l)) {d:Nat} (hd:o.dst=some d):d∈wX ops.toList.dropLast:=by
 obtain ⟨j,j1,j2⟩:=aBv.1 ho;have j4:j+1<ops.size:=b81 (by simpa using (aBw.1 j1).2);refine aBv.2 ⟨o,aDy (i:=j) ?_,hd⟩;rw [aHi,if_pos (by simp; omega)];simpa using j2
theorem b6P (hE:E2 E B) (hn:B.n=E.nt) {id:Nat} (hd:(xx ops && Cv ops s && E.P.follows .mixedOrders)=true) {Q:Exit->Act->World->Prop} {s':St} (hr:vW E ops (λ i=>(E9 ops.toList []).getD i 0) [] (List.range' 0 ops.toList.length) s s')
  (hQ:∀ S ι a w,RS B S ι s' a w->Q .normal a w) (h:RS B S ι s a w):(Code.region id ops true).wp E.P Q a w:=by
 simp only [aAa,Cv,aBk] at hd;obtain ⟨⟨h1,⟨h2,h3⟩,h4⟩,h5⟩:=hd;refine wp_region_any h5 ?_;have hlen:(idxs ops.size (Array.replicate ops.size false)).length=ops.size:=by
  rw [zn]; simp
 refine Uk hE hn h1 hQ ops.size _ S ι s s' a w.drew (by simp) hlen ?_ ?_ (w6 h2) ?_ ?_ (N7.refl _) (h.vC H2.nil G2.drew)
 ·intro k o hk hl
  have:k<ops.size:=(aAp.1 hk).1;simp [this] at hl
 ·rw [EX]; exact CO h3
 ·intro o ho d hd
  exact h4 d (c4D ho hd)
 ·rw [zn,aEs]
  simpa using hr
theorem b5x (hE:E2 E B) (hn:B.n=E.nt) {id:Nat} (hd:(xx ops && Kr ops s && E.P.follows .mixedOrders)=true) {Q:Exit->Act->World->Prop} {s':St} (hr:vW E ops (λ i=>(E9 ops.toList []).getD i 0) [] (List.range' 0 ops.toList.length) s s')
  (hQ:∀ S ι a w,RS B S ι s' a w->Q .normal a w) (h:RS B S ι s a w):(Code.region id ops true).wp E.P Q a w:=by
 simp only [aAa,Kr,aBk,aCt] at hd;obtain ⟨⟨h1,⟨h2,h3⟩,h4⟩,h5⟩:=hd;refine wp_region_any h5 ?_;have hlen:(idxs ops.size (Array.replicate ops.size false)).length=ops.size:=by
  rw [zn]; simp
 refine Uk hE hn h1 hQ ops.size _ S ι s s' a w.drew (by simp) hlen ?_ ?_ (w6 h2) ?_ ?_ (N7.refl _) (h.vC H2.nil G2.drew)
 ·intro k o hk hl
  have:k<ops.size:=(aAp.1 hk).1;simp [this] at hl
 ·rw [EX]; exact CO h3
 ·intro o ho d hd
  obtain ⟨j,j1,j2⟩:=aBv.1 ho;have j3:=(aBw.1 j1).2;have hj:j<ops.size:=(aAp.1 j2).1;have:=h4 j hj;simp only [aAu] at j3;simp only [j2,hd,j3,Bool.false_or] at this;exact this
 ·rw [zn,aEs]
  simpa using hr
theorem RX {M:List Nat} {k:St->Tree (E.rs++F9 E.ps)} {L:Code->List Item->St->Prop} {R:DL (E.rs++F9 E.ps)->Prop}:∀ {l:List Oper} {n:Nat} {s:St} {acc:List Met} {bJ:List (Nat×St)},ops.toList.drop n=l ->
  (∀ e∈bJ,∃ m∈acc,m.i=e.1/\ops[e.1]?=some m.o/\m.s=e.2/\m.T=l6 E m.o e.2)->(DV E ops M n l s acc k).holds L R ->
  ∃ s',vW E ops (λ i=>M.getD i 0) bJ (List.range' n l.length) s s'/\(k s').holds L R
 | [],n,s,acc,bJ,_,_,h=>⟨s,rfl,h⟩
 | o::l,n,s,acc,bJ,hl,ha,h=>by
  obtain ⟨ho,eE,_⟩:=Dj hl;simp only [DV] at h;split at h
  ·exact h.elim
  ·rename_i bH
   obtain ⟨p,s1,h1,h2,h3⟩:=CF.1 h;obtain ⟨s',k1,k2⟩:=RX (bJ:=(n,s)::bJ) eE (λ e he=>by
    rcases aAq.1 he with rfl|he
    ·exact ⟨_,aBd ..,rfl,ho,rfl,rfl⟩
    ·obtain ⟨m,hm,r⟩:=ha e he; exact ⟨m,aAz _ hm,r⟩) h3
   refine ⟨s',⟨o,ho,λ e he=>?_,p,s1,h1,h2,k1⟩,k2⟩;obtain ⟨m,hm,m1,m2,m3,m4⟩:=ha e he;have:=(aBk.1 bH) m hm;simp only [aBr] at this;rcases this with this|this
   ·exact .inl (by rw [<- m1]; exact this)
   ·have hp:=JL this
    rw [m3,m4] at hp;exact .inr ⟨m.o,m2,hp⟩
end
end Go.Ex
