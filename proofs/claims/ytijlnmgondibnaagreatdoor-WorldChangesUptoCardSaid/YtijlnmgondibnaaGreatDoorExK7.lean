import Derived.Test.YtijlnmgondibnaaGreatDoorExK6
import Derived.Orders
set_option linter.unusedVariables false
set_option linter.unusedSimpArgs false
set_option linter.unusedSectionVars false
namespace Go.Ex
section
variable {E:Env} {s t:St}
theorem KX {o:Oper} {i:Nat} (h:i∈l4 E o s):∃ x∈o.op.operands.toList,(s.ev x).i8 i=true:=by
 have parts:∀ {T:TypeId} {ps:Array (Nat×Operand)},i∈(s.K3 (ps.toList.map (·.2))).G8->∃ x∈ps.toList.map (·.2),(s.ev x).i8 i=true:=by
  intro T ps h;obtain ⟨x,hx,hm⟩:=xt (J1.1 h);exact ⟨x,by simpa using hx,hm⟩
 unfold l4 at h;cases ho:o.op with
 | store T a x =>
  rw [ho] at h;simp only [aAi,J1] at h;rcases h with h|h
  ·exact ⟨a,by simp [Op.operands],h⟩
  ·exact ⟨x,by simp [Op.operands],h⟩
 | box T x=>rw [ho] at h; exact ⟨x,by simp [Op.operands],J1.1 h⟩
 | mapUpdate T m x y=>rw [ho] at h; exact ⟨m,by simp [Op.operands],J1.1 h⟩
 | build T ps=>rw [ho] at h; simp only [Op.operands]; exact parts (T:=T) h
 | buildSlice T n ps=>rw [ho] at h; simp only [Op.operands]; exact parts (T:=T) h
 | call c =>
  rw [ho] at h;have cw:∀ x∈c.args.toList,x∈(Op.call c).operands.toList:=λ x hx=>by simp only [Op.operands,Call.operands]; simp at hx ⊢; first|exact .inr hx|exact .inl hx
  simp only at h;split at h
  ·rename_i f hc
   split at h
   ·rename_i g caps hg
    split at h
    ·split at h
     ·cases h
     ·rcases EO (J1.1 h) with h|h
      ·obtain ⟨x,hx,hm⟩:=xt h
       exact ⟨x,cw x hx,hm⟩
      ·exact ⟨f,by simp [Op.operands,Call.operands,hc],by rw [hg]; exact h⟩
    ·cases h
   ·split at h
    ·split at h
     ·cases h
     ·rcases EO (J1.1 h) with h|h
      ·obtain ⟨x,hx,hm⟩:=xt h
       exact ⟨x,cw x hx,hm⟩
      ·cases h
    ·cases h
   ·split at h
    ·split at h
     ·cases h
     ·rcases EO (J1.1 h) with h|h
      ·obtain ⟨x,hx,hm⟩:=xt h
       exact ⟨x,cw x hx,hm⟩
      ·cases h
    ·cases h
   ·cases h
  ·obtain ⟨x,hx,hm⟩:=xt (J1.1 h)
   exact ⟨x,cw x hx,hm⟩
  ·obtain ⟨x,hx,hm⟩:=xt (J1.1 h)
   exact ⟨x,cw x hx,hm⟩
  ·obtain ⟨x,hx,hm⟩:=xt (J1.1 h)
   exact ⟨x,cw x hx,hm⟩
  ·cases h
 | _=>rw [ho] at h; cases h
theorem JW {o:Oper} (h:∀ x∈o.op.operands.toList,t.ev x=s.ev x):l4 E o t=l4 E o s:=by
 unfold l4;cases ho:o.op with
 | store T a x=>rw [ho] at h; simp only [h a (by simp [Op.operands]),h x (by simp [Op.operands])]
 | box T x=>rw [ho] at h; simp only [h x (by simp [Op.operands])]
 | mapUpdate T m x y=>rw [ho] at h; simp only [h m (by simp [Op.operands])]
 | build T ps =>
  rw [ho] at h;simp only;rw [Aj (s:=s) (t:=t) (λ x hx=>h x (by simp only [Op.operands]; simpa using hx))]
 | buildSlice T n ps =>
  rw [ho] at h;simp only;rw [Aj (s:=s) (t:=t) (λ x hx=>h x (by simp only [Op.operands]; simpa using hx))]
 | call c =>
  rw [ho] at h;have cw:∀ x∈c.args.toList,x∈(Op.call c).operands.toList:=λ x hx=>by simp only [Op.operands,Call.operands]; simp at hx ⊢; first|exact .inr hx|exact .inl hx
  have he:=Aj (s:=s) (t:=t) (λ x hx=>h x (cw x hx));simp only [he]
  split
  ·rename_i f hc
   rw [h f (by simp [Op.operands,Call.operands,hc])]
  ·rfl
  ·rfl
  ·rfl
  ·rfl
 | _=>rfl
def E5 (E:Env) (o:Oper) (s:St) (p:Prop) (v:AV):Prop :=
 ∃ ids f h,Trim (l4 E o s) f/\U1 s ids/\(∀ n∈ids,n % 1000=(o.dst.getD 0) % 1000) /\
  (∀ i,v.i8 i=true->(∃ x∈o.op.operands.toList,(s.ev x).i8 i=true)\/i∈ids) /\
  ∀ t,uniq t.fr->Z3 s t o.op.operands.toList->U1 t ids->∃ t1,(m0 E o t).get=some (p,v,t1)/\uniq t1.fr/\Mv t t1 (l4 E o s) ids f h
theorem AH {o:Oper} (ha:Z3 s t o.op.operands.toList) {i:Nat} (hi:i∈l4 E o s):look i t.hp=look i s.hp:=by
 obtain ⟨x,hx,hm⟩:=KX hi;exact (ha x hx).2 i hm
theorem E5.ro {o:Oper} {p:Prop} {v:AV} {s1:St} (h:(m0 E o s).get=some (p,v,s1)) (h1:∀ t,Z3 s t o.op.operands.toList->m0 E o t=(m0 E o s).wZ t) (h2:∀ i,(m0 E o s).av.i8 i=true->∃ x∈o.op.operands.toList,(s.ev x).i8 i=true):E5 E o s p v:=by
 refine ⟨[],λ u=>u,λ i=>look i s.hp,Trim.id _,by simp [U1],by simp,?_,?_⟩
 ·intro i hi
  refine .inl (h2 i ?_);cases hr:m0 E o s<;>rw [hr] at h<;>simp [OR.get] at h
  ·rw [<- h.2.1] at hi; exact hi
  ·rw [<- h.2.1] at hi; exact hi
 ·intro t hu ha _
  refine ⟨t,?_,hu,⟨λ n=>by simp,λ i=>?_⟩⟩
  ·rw [h1 t ha]
   cases hr:m0 E o s<;>rw [hr] at h<;>simp only [OR.get,aAc,aAx] at h
   ·cases h
   ·obtain ⟨rfl,rfl,_⟩:=h; rfl
   ·obtain ⟨rfl,rfl,_⟩:=h; rfl
  ·split
   ·rename_i hi; exact AH ha (by simpa using hi)
   ·rfl
theorem Qj {d:Nat} (hu:uniq t.fr) (h:U1 t [d]):t.fresh d=true:=by
 simp only [St.fresh,aAa,aCm];exact ⟨(h d (by simp)).1,EX hu (h d (by simp)).2⟩
theorem Sr {d:Nat} (h:s.fresh d=true):U1 s [d]:=by
 obtain ⟨k1,k2⟩:=Ff h;intro n hn;simp only [aAp,aDq,or_false] at hn;subst hn;exact ⟨k1,k2⟩
theorem c34 {T g:List Nat} {d:Nat} {e:i6} (hg:∀ i∈g,i∈T) (ha:∀ i∈T,look i t.hp=look i s.hp):Mv t ((St.w9 g t).w8 d e) T [d] (xO g) (λ i=>if i=d then some e else if i∈g then none else look i s.hp):=by
 refine ⟨λ n=>CJ,λ i=>?_⟩;show look i (Ex.put d e (St.w9 g t).hp)=_;rw [o7,J9];by_cases h1:i=d
 ·simp [h1]
 ·by_cases h3:i∈g
  ·have:=hg i h3; simp [h1,h3,this]
  ·by_cases h2:i∈T
   ·simp [h1,h3,h2,ha i h2]
   ·simp [h1,h2,h3]
theorem E5.obj {o:Oper} {p:Prop} {d:Nat} (hd:o.dst=some d) {e:i6} {v:AV} {g:List Nat} (hv:∀ i,v.i8 i=true->i=d) (hf:s.fresh d=true) (hg:∀ i∈g,i∈l4 E o s)
  (h:∀ t,Z3 s t o.op.operands.toList->uniq t.fr->t.fresh d=true->(m0 E o t).get=some (p,v,(St.w9 g t).w8 d e)):E5 E o s p v:=by
 refine ⟨[d],xO g,(λ i=>if i=d then some e else if i∈g then none else look i s.hp),(Trim.w9 g).mono hg,Sr hf,by simp [hd],λ i hi=>.inr (by simp [hv i hi]),?_⟩;intro t hu ha hn;exact ⟨_,h t ha hu (Qj hu hn),CK (g:=g) hu,c34 hg (λ i hi=>AH ha hi)⟩
theorem Ji {d:Nat} {g:List Nat} {u:Ty} {x:u.den} {v:AV} {s':St} (hl:s.lay d g u x=.ok v s'):s.fresh d=true/\v=.at_ d []/\s'=(St.w9 g s).w8 d (.own u x)/\(wV g && (g.all λ i=>!pinned i))=true:=by
 unfold St.lay at hl;split at hl
 ·cases hl
 ·rename_i hc
  simp only [aAa] at hc;split at hl
  ·cases hl; exact ⟨hc.2,rfl,rfl,by simp only [aAa]; exact hc.1⟩
  ·cases hl
theorem Ig {d:Nat} {g:List Nat} {u:Ty} {x:u.den} (hf:t.fresh d=true) (hg:(wV g && (g.all λ i=>!pinned i))=true):t.lay d g u x=.ok (.at_ d []) ((St.w9 g t).w8 d (.own u x)):=by
 unfold St.lay;have h2:(St.w9 g t).fresh d=true:=by
  simp only [St.fresh,aAa,aCm] at hf ⊢;refine ⟨by rw [J9]; split<;>first|rfl|exact hf.1,LP hf.2⟩
 simp only [hg,hf,h2,aHb]
theorem E5.lay {o:Oper} {p:Prop} {v:AV} {s1:St} {d:Nat} (hd:o.dst=some d) {g:List Nat} {u:Ty} {x:u.den} {W:OR->OR} (hW:∀ v s,(W (.ok v s)).get=some (p,v,s)) (hF:∀ y,(W (.fail y)).get=none) (hg:∀ i∈g,i∈l4 E o s)
  (h:(m0 E o s).get=some (p,v,s1)) (h1:∀ t,Z3 s t o.op.operands.toList->m0 E o t=W (t.lay d g u x)):E5 E o s p v:=by
 rw [h1 s (.refl _ _)] at h;cases hl:s.lay d g u x with
 | fail y=>rw [hl,hF] at h; cases h
 | F8 q v s'=>exact absurd hl Z5
 | ok v' s' =>
  rw [hl,hW] at h;cases h;obtain ⟨k1,rfl,rfl,k4⟩:=Ji hl;refine E5.obj hd (e:=.own u x) (g:=g) (λ i hi=>by simpa [AV.i8] using hi) k1 hg (λ t ha hu hf=>?_);rw [h1 t ha,Ig hf k4,hW]
theorem BN {q p:Prop} {r:OR} {v:AV} {s1:St} (h:(r.f8 q).get=some (p,v,s1)) (hr:∀ q' v' s',r≠.F8 q' v' s'):p=q:=by
 cases r with
 | fail y=>cases h
 | ok v s=>simp only [OR.f8,OR.get,aAc,aAx] at h; exact h.1.symm
 | F8 q' v' s'=>exact absurd rfl (hr q' v' s')
theorem Zt {T:TypeId} {a:AV} (h:Alike s t a):Z0 E T a t=(Z0 E T a s).wZ t:=by
 unfold Z0;cases a with
 | ptr i p =>
  simp only [J7 (h i (by simp [AV.i8]))]
  repeat' (first|rfl|split)
 | _=>first|rfl|(dsimp only; split<;>rfl)
theorem c1h {T:TypeId} {a:AV} {i:Nat} (h:(Z0 E T a s).av.i8 i=true):a.i8 i=true:=by
 unfold Z0 at h;cases a with
 | ptr j p =>
  simp only at h
  repeat' (split at h)
  all_goals first|exact h|(cases h; done)
 | _ =>
  simp only at h
  repeat' (split at h)
  all_goals first|exact h|(cases h; done)
theorem a91 {i:Nat}:∀ {n:Nat} {l v:AV},m0.nth n l=some v->v.i8 i=true->l.i8 i=true
 | 0,l,v,h,hv=>by
  cases l<;>simp only [m0.nth] at h<;>first|cases h|skip
  simp [AV.i8,hv]
 | n+1,l,v,h,hv=>by
  cases l<;>simp only [m0.nth] at h<;>first|cases h|skip
  simp [AV.i8,a91 h hv]
theorem Xd (d k:Nat):P7 d k % 1000=d % 1000:=by unfold P7; omega
theorem On {d j k:Nat} (h:P7 d j=P7 d k):j=k:=by unfold P7 at h; omega
theorem Li:∀ {ts:List Ty} {x:DL ts} {d j:Nat} {hp:List (Nat×i6)} {l:AV} {cE:List (Nat×i6)},Y6 ts x d j hp=some (l,cE) ->
  (∀ i,l.i8 i=true->∃ k,j<=k/\k<j+ts.length/\i=P7 d k) /\
  ∃ h:Nat->Option i6,∀ h2,(∀ k,j<=k->k<j+ts.length->look (P7 d k) h2=none)->∃ fG,Y6 ts x d j h2=some (l,fG)/\∀ i,look i fG=(match h i with|some e=>some e|none=>look i h2)/\((h i).isSome->∃ k,j<=k/\k<j+ts.length/\i=P7 d k)
 | [],x,d,j,hp,l,cE,h=>by
  simp only [Y6,aAc,aAx] at h;obtain ⟨rfl,rfl⟩:=h;exact ⟨by simp [AV.i8],λ _=>none,λ h2 _=>⟨h2,rfl,λ i=>⟨rfl,by simp⟩⟩⟩
 | u::ts,x,d,j,hp,l,cE,h=>by
  simp only [Y6] at h;split at h
  ·rename_i hs
   split at h
   ·rename_i l' eU eA
    cases h;obtain ⟨k1,h,k2⟩:=Li eA;refine ⟨λ i hi=>?_,h,λ h2 hh=>?_⟩
    ·obtain ⟨k,m1,m2,m3⟩:=k1 i (by simpa [AV.i8] using hi)
     exact ⟨k,by omega,by simp only [aAh]; omega,m3⟩
    ·obtain ⟨fG,e1,e2⟩:=k2 h2 (λ k jB eW=>hh k (by omega) (by simp only [aAh]; omega))
     refine ⟨fG,by simp only [Y6,hs,e1],λ i=>⟨(e2 i).1,λ hi=>?_⟩⟩;obtain ⟨k,m1,m2,m3⟩:=(e2 i).2 hi;exact ⟨k,by omega,by simp only [aAh]; omega,m3⟩
   ·cases h
  ·rename_i hs
   split at h
   ·cases h
   ·rename_i df
    split at h
    ·rename_i l' eU eA
     cases h;obtain ⟨k1,h,k2⟩:=Li eA;refine ⟨λ i hi=>?_,λ i=>if i=P7 d j then some (vQ u x.1 (P7 d j)).1 else h i,λ h2 hh=>?_⟩
     ·simp only [AV.i8,aBo] at hi
      rcases hi with hi|hi
      ·refine ⟨j,aAj _,by simp,?_⟩
       rcases Ke u x.1 (P7 d j) with e|⟨g,_,_,_,e⟩
       ·rw [e] at hi; exact aAd hi
       ·rw [e] at hi
        cases g with
        | none=>exact aAd hi
        | some f =>
         have hi:(Nat.beq i (P7 d j) || false)=true:=hi;rw [aDi] at hi;exact aAd hi
      ·obtain ⟨k,m1,m2,m3⟩:=k1 i hi
       exact ⟨k,by omega,by simp only [aAh]; omega,m3⟩
     ·have e0:look (P7 d j) h2=none:=hh j (aAj _) (by simp)
      obtain ⟨fG,e1,e2⟩:=k2 (put (P7 d j) (vQ u x.1 (P7 d j)).1 h2) (λ k jB eW=>by
       rw [o7,if_neg (λ e=>by have:=On e; omega)];exact hh k (by omega) (by simp only [aAh]; omega))
      refine ⟨fG,by simp only [Y6,hs,e0,e1],λ i=>⟨?_,λ hi=>?_⟩⟩
      ·rw [(e2 i).1,o7]
       by_cases he:i=P7 d j
       ·simp only [he,if_true]
        cases tj:h (P7 d j) with
        | none=>rfl
        | some e =>
         exfalso;obtain ⟨k,m1,m2,m3⟩:=(e2 (P7 d j)).2 (by rw [tj]; rfl);have:=On m3; omega
       ·simp only [if_neg he]
      ·by_cases he:i=P7 d j
       ·exact ⟨j,aAj _,by simp,he⟩
       ·simp only [if_neg he] at hi
        obtain ⟨k,m1,m2,m3⟩:=(e2 i).2 hi;exact ⟨k,by omega,by simp only [aAh]; omega,m3⟩
    ·cases h
theorem KO {d:Nat}:∀ {n:Nat} {fr:List (Nat×AV)},(∀ k,k<n->wu (P7 d k) fr=true)->xU d n fr=true
 | 0,_,_=>rfl
 | n+1,fr,h=>by
  simp only [xU,aAa];exact ⟨h n (by omega),KO (λ k hk=>h k (by omega))⟩
theorem KP {d:Nat}:∀ {n:Nat} {hp:List (Nat×i6)},An d n hp=true↔∀ k,k<n->look (P7 d k) hp=none
 | 0,_=>by simp [An]
 | n+1,hp=>by
  simp only [An,aAa,aCm,KP (n:=n)];constructor
  ·rintro ⟨h1,h2⟩ k hk
   by_cases e:k=n
   ·subst e; exact h1
   ·exact h2 k (by omega)
  ·intro h; exact ⟨h n (by omega),λ k hk=>h k (by omega)⟩
theorem YG {i:Nat} {l:AV} (h:l.one.i8 i=true):l.i8 i=true:=by
 unfold AV.one at h;split at h
 ·simp [AV.i8,h]
 ·exact h
theorem yD:∀ {ks:List PK} {y:DL (E8 ks)} {m:List Nat} {s1:St},wr ks y m s=some s1 ->
  (m=[]/\∀ t,wr ks y m t=some t)\/∃ i ow e,m=[i]/\∀ t,wr ks y m t=some ((t.X3 i ow).w8 i e)
 | [],y,m,s1,h=>by
  cases m with
  | nil=>exact .inl ⟨rfl,λ t=>rfl⟩
  | cons i m=>cases h
 | k::ks,y,m,s1,h=>by
  cases k with
  | rw u =>
   match m,h with
   | [],h=>cases h
   | [i],h =>
    simp only [wr] at h;split at h
    ·rename_i hw
     exact .inr ⟨i,false,.var u y.1,rfl,λ t=>by simp only [wr,hw]⟩
    ·cases h
   | i::j::m,h=>cases h
  | mu u =>
   match m,h with
   | [],h=>cases h
   | [i],h =>
    simp only [wr] at h;split at h
    ·rename_i hw
     exact .inr ⟨i,true,.own (.d0 true u) y.1,rfl,λ t=>by simp only [wr,hw]⟩
    ·cases h
   | i::j::m,h=>cases h
  | v u=>cases m<;>exact yD (ks:=ks) h
  | W6=>cases m<;>exact yD (ks:=ks) h
  | rcs f n=>cases m<;>exact yD (ks:=ks) h
  | el q=>cases m<;>exact yD (ks:=ks) h
  | rd u=>cases m<;>exact yD (ks:=ks) h
  | C7 f ts=>cases m<;>exact yD (ks:=ks) h
  | own u=>cases m<;>exact yD (ks:=ks) h
end
end Go.Ex
namespace Go.Ex
section
variable {E:Env} {s t:St}
theorem xV {c:Call} {x:Operand} (hx:x∈c.args.toList):x∈(Op.call c).operands.toList:=by
 simp only [Op.operands,Call.operands]; simp at hx ⊢; first|exact .inr hx|exact .inl hx
def gq (m:Nat) (v:AV):AV:=match Nat.beq m J4 with|true=>.any|false=>v
theorem Ai {s:St} {m:Nat}:s.ev (.tmp m)=gq m (s.get m):=rfl
theorem FK {s:St} {m i:Nat} (h:(s.ev (.tmp m)).i8 i=true):(s.get m).i8 i=true:=by
 rw [Ai] at h;unfold gq at h;split at h
 ·cases h
 ·exact h
theorem zv {s t:St} {m:Nat} (h:t.get m=s.get m):t.ev (.tmp m)=s.ev (.tmp m):=congrArg (gq m) h
theorem Xk {s:St} {m:Nat} {v:AV} (hb:Nat.beq m J4=false) (h:s.get m=v):s.ev (.tmp m)=v:=by
 rw [Ai,h]; unfold gq; rw [hb]
theorem Cz {s:St} {m:Nat} {v:AV} (h:s.ev (.tmp m)=v) (hv:v≠.any):s.get m=v:=by
 rw [Ai] at h;unfold gq at h;split at h
 ·exact absurd h.symm hv
 ·exact h
theorem c1v {s:St} {m:Nat} {v:AV} (h:s.ev (.tmp m)=v) (hv:v≠.any):Nat.beq m J4=false:=by
 rw [Ai] at h;unfold gq at h;split at h
 ·exact absurd h.symm hv
 ·assumption
theorem Kr {o:Oper} {c:Call} (ho:o.op=.call c) {f:Operand} (hc:c.callee=.value f) {W:OR->OR} {π:Prop->Prop} (hW:∀ r,(W r).get=r.get.map (λ x=>(π x.1,x.2.1,x.2.2))) {g:FuncId} {caps fv:AV} (hg:s.ev f=fv) (dY:∀ i,caps.i8 i=true->fv.i8 i=true)
  (he:∀ t,t.ev f=fv->m0 E o t=W (T9 E g ((t.K3 c.args.toList).app caps) o.dst t))
  (hT:l4 E o s=(match look g E.C9 with
    | some c'=>(match c'.ps.any PK.l4 with
     | false=>[]
     | true=>((s.K3 c.args.toList).app caps).G8)
    | none=>[])) {p:Prop} {v:AV} {s1:St} (h:(m0 E o s).get=some (p,v,s1)):E5 E o s p v:=by
 have gm:f∈o.op.operands.toList:=by rw [ho]; simp [Op.operands,Call.operands,hc]
 have cP:∀ x∈c.args.toList,x∈o.op.operands.toList:=λ x hx=>by rw [ho]; exact xV hx
 rw [he s hg,hW] at h;obtain ⟨q,h,hq⟩:∃ q,(T9 E g ((s.K3 c.args.toList).app caps) o.dst s).get=some (q,v,s1)/\π q=p:=by
  cases hr:(T9 E g ((s.K3 c.args.toList).app caps) o.dst s).get with
  | none=>rw [hr] at h; cases h
  | some x =>
   rw [hr] at h;simp only [aBe,aAc,aAx] at h;exact ⟨x.1,by rw [<- h.2.1,<- h.2.2],h.1⟩
 have aH:∀ i,((s.K3 c.args.toList).app caps).i8 i=true->∃ x∈o.op.operands.toList,(s.ev x).i8 i=true:=by
  intro i hi;rcases EO hi with hi|hi
  ·obtain ⟨x,hx,hi⟩:=xt hi; exact ⟨x,cP x hx,hi⟩
  ·exact ⟨f,gm,by rw [hg]; exact dY i hi⟩
 generalize rG:(s.K3 c.args.toList).app caps=av at h aH hT;unfold T9 at h;split at h
 ·cases h
 ·rename_i c' df
  rw [df] at hT;simp only at hT;split at h
  ·cases h
  ·rename_i x gs m hx
   obtain ⟨jy,jZ⟩:=Re hx;have jc:∀ i,i∈gs++m->i∈l4 E o s:=by
    intro i hi;rw [hT];cases hp:c'.ps.any PK.l4 with
    | true=>exact J1.2 (jy i hi)
    | false=>obtain ⟨r1,r2⟩:=jZ hp; rw [r1,r2] at hi; cases hi
   split at h
   ·cases h
   ·rename_i bY
    obtain ⟨ll,ft⟩:=(aHr).1 bY;obtain ⟨gj,sH⟩:=(aHr).1 ft;split at h
    ·cases h
    ·rename_i s2 oL
     split at h
     ·cases h
     ·rename_i hm
      split at h
      ·rename_i l hp pP
       simp only [OR.get,aAc,aAx] at h;obtain ⟨rfl,rfl,_⟩:=h;obtain ⟨k3,h3,k4⟩:=Li pP;simp only [aEo,aAz,true_and] at k3 k4;have la:∀ {t:St},U1 t ((List.range c'.rs.length).map (P7 (o.dst.getD 0)))->∀ k,k<c'.rs.length->look (P7 (o.dst.getD 0) k) t.hp=none:=λ hn k hk=>(hn _ (aCu.2 ⟨k,by simpa using hk,rfl⟩)).1;have hw:∃ (f:AV->AV) (h:Nat->Option i6),Trim (l4 E o s) f/\(∀ i,i∉l4 E o s->h i=none)/\∀ t,uniq t.fr->(∀ i∈l4 E o s,look i t.hp=look i s.hp)->∃ t2,wr c'.ps (c'.out x) m (St.w9 gs t)=some t2/\uniq t2.fr/\(∀ n,look n t2.fr=(look n t.fr).map f)/\∀ i,look i t2.hp=if i∈l4 E o s then h i else look i t.hp:=by
        rcases yD oL with ⟨rfl,hw⟩|⟨i0,ow,e,rfl,hw⟩
        ·refine ⟨xO gs,λ i=>if i∈l4 E o s then (if i∈gs then none else look i s.hp) else none,(Trim.w9 gs).mono (λ i hi=>jc i (by simp [hi])),λ i hi=>by simp [hi],λ t hu ha=>⟨_,hw _,CK hu,λ n=>CJ,λ i=>?_⟩⟩
         rw [J9];by_cases h1:i∈gs
         ·simp [h1,jc i (by simp [h1])]
         ·by_cases h2:i∈l4 E o s
          ·simp [h1,h2,ha i h2]
          ·simp [h1,h2]
        ·have nd:i0∈l4 E o s:=jc i0 (by simp)
         refine ⟨λ u=>AV.map (AV.xQ i0 ow) (xO gs u),λ i=>if i∈l4 E o s then (if i=i0 then some e else if i∈gs then none else look i s.hp) else none,
          Trim.comp (Trim.w9 gs) (Trim.X3 i0 ow) (λ i hi=>jc i (by simp [hi])) (by simpa using nd),λ i hi=>by simp [hi],λ t hu ha=>⟨_,hw _,CC (CK hu),λ n=>?_,λ i=>?_⟩⟩
         ·show look n (mapA _ (St.w9 gs t).fr)=_
          rw [P9,CJ,aDx]; rfl
         ·show look i (Ex.put i0 e (St.w9 gs t).hp)=_
          rw [o7,J9];by_cases h0:i=i0
          ·subst h0; simp [nd]
          ·by_cases h1:i∈gs
           ·simp [h0,h1,jc i (by simp [h1])]
           ·by_cases h2:i∈l4 E o s
            ·simp [h0,h1,h2,ha i h2]
            ·simp [h0,h1,h2]
       obtain ⟨f0,h0,w1,w2,w3⟩:=hw;refine ⟨(List.range c'.rs.length).map (P7 (o.dst.getD 0)),f0,λ i=>match h3 i with|some e=>some e|none=>h0 i,w1,?_,?_,?_,?_⟩
       ·intro n hn
        obtain ⟨k,hk,rfl⟩:=aCu.1 hn;exact ⟨KP.1 sH k (by simpa using hk),λ m w hw=>CR (FF gj k (by simpa using hk)) hw⟩
       ·intro n hn
        obtain ⟨k,_,rfl⟩:=aCu.1 hn;exact Xd _ _
       ·intro i hi
        obtain ⟨k,m2,rfl⟩:=k3 i (YG hi);exact .inr (aCu.2 ⟨k,by simpa using m2,rfl⟩)
       ·intro t hu ha hn
        have eP:Alike s t av:=λ i hi=>by obtain ⟨x,hx,hm⟩:=aH i hi; exact (ha x hx).2 i hm
        obtain ⟨t2,e1,e2,e3,e4⟩:=w3 t hu (λ i hi=>AH ha hi);have lB:∀ k,k<c'.rs.length->P7 (o.dst.getD 0) k∉l4 E o s:=by
         intro k hk bn;obtain ⟨x,hx,hm⟩:=KX bn;obtain ⟨m',rfl,gz⟩:∃ m',x=.tmp m'/\(s.get m').i8 (P7 (o.dst.getD 0) k)=true:=by
          cases x with
          | tmp m'=>exact ⟨m',rfl,FK hm⟩
          | const v =>
           exfalso;simp only [St.ev] at hm;unfold ofConst at hm;split at hm
           ·split at hm<;>cases hm
           ·cases hm
           ·split at hm<;>cases hm
           ·cases hm
          | global g=>cases hm
          | func f=>cases hm
         simp only [St.get] at gz;cases hl:look m' s.fr with
         | none=>rw [hl] at gz; cases gz
         | some w =>
          rw [hl] at gz;have:=CR (FF gj k hk) hl;simp only [aGh] at gz;rw [gz] at this; cases this
        have eM:∀ k,k<c'.rs.length->look (P7 (o.dst.getD 0) k) t2.hp=none:=by
         intro k hk;rw [e4,if_neg (lB k hk)];exact la hn k hk
        obtain ⟨fG,r1,r2⟩:=k4 t2.hp (λ k _ hk=>eM k hk);have gz:xU (o.dst.getD 0) c'.rs.length t2.fr=true:=KO (λ k hk=>EX e2 (λ n w hw=>by
         rw [e3] at hw;cases hl:look n t.fr with
         | none=>rw [hl] at hw; cases hw
         | some u =>
          rw [hl] at hw;cases hw;cases pJ:(f0 u).i8 (P7 (o.dst.getD 0) k) with
          | false=>rfl
          | true =>
           have:=(hn (P7 (o.dst.getD 0) k) (aCu.2 ⟨k,by simpa using hk,rfl⟩)).2 n u hl;rw [w1.i8 u pJ] at this; cases this))
        have kQ:xU (o.dst.getD 0) c'.rs.length t.fr=true:=KO (λ k hk=>EX hu (hn _ (aCu.2 ⟨k,by simpa using hk,rfl⟩)).2);have pB:An (o.dst.getD 0) c'.rs.length t.hp=true:=KP.2 (λ k hk=>la hn k hk);have db:(t.K3 c.args.toList).app caps=av:=by
         rw [Aj (s:=s) (t:=t) (λ x hx=>(ha x (cP x hx)).1)]; exact rG
        have tK:T9 E g av o.dst t=.F8 (c'.pre x) l.one { t2 with hp:=fG }:=by
         unfold T9;simp only [df,Oa (s:=s) (t:=t) eP,hx,ll,kQ,pB,aHb,e1,gz,r1]
        refine ⟨{ t2 with hp:=fG },?_,e2,⟨e3,λ i=>?_⟩⟩
        ·rw [he t ((ha f gm).1.trans hg),hW,db,tK]; simp only [OR.get,aBe,hq]
        ·show look i fG=_
         rw [(r2 i).1,e4];cases hh:h3 i with
         | some e =>
          obtain ⟨k,hk,kZ⟩:=(r2 i).2 (by rw [hh]; rfl);simp only;rw [if_pos (.inr (aCu.2 ⟨k,by simpa using hk,kZ.symm⟩))]
         | none =>
          simp only;by_cases h1:i∈l4 E o s
          ·rw [if_pos h1,if_pos (.inl h1)]
          ·rw [if_neg h1]
           split
           ·rename_i hi
            rcases hi with hi|hi
            ·exact absurd hi h1
            ·obtain ⟨k,hk,rfl⟩:=aCu.1 hi
             rw [la hn k (by simpa using hk),w2 _ h1]
           ·rfl
      ·cases h
theorem Yk {o:Oper} {c:Call} (ho:o.op=.call c) {f:Operand} (hc:c.callee=.value f) {p:Prop} {v:AV} {s1:St} (h:(m0 E o s).get=some (p,v,s1)):E5 E o s p v:=by
 have key:(∃ g caps,s.ev f=.C7 g caps)\/(∃ g b,s.ev f=.val (.fn g) b)\/∃ g t y,s.ev f=.val (.box false (some g) t) y:=by
  unfold m0 at h;rw [ho] at h;simp only [hc] at h;split at h
  ·exact .inl ⟨_,_,by assumption⟩
  ·exact .inr (.inl ⟨_,_,by assumption⟩)
  ·exact .inr (.inr ⟨_,_,_,by assumption⟩)
  ·cases h
 rcases key with ⟨g,caps,hg⟩|⟨g,b,hg⟩|⟨g,t0,y0,hg⟩
 ·refine Kr ho hc (W:=λ r=>r) (π:=λ q=>q) (g:=g) (caps:=caps) (λ r=>by cases r<;>rfl) hg (λ i hi=>hi) (λ t ht=>?_) ?_ h
  ·unfold m0
   rw [ho];simp only [hc,ht]
  ·unfold l4; rw [ho]; simp only [hc,hg]; rfl
 ·refine Kr ho hc (W:=λ r=>r.yd ((b:Bool)=true)) (π:=λ q=>(b:Bool)=true/\q) (g:=g) (caps:=.nil) (λ r=>by cases r<;>rfl) hg (λ i hi=>by cases hi) (λ t ht=>?_) ?_ h
  ·unfold m0
   rw [ho];simp only [hc,ht]
  ·unfold l4; rw [ho]; simp only [hc,hg]; rfl
 ·refine Kr ho hc (W:=λ r=>r.yd ((y0:Option t0.den).isSome=true)) (π:=λ q=>(y0:Option t0.den).isSome=true/\q) (g:=g) (caps:=.cons (.M1 t0 (Option.getD (y0:Option t0.den) t0.s4)) .nil) (λ r=>by cases r<;>rfl) hg (λ i hi=>by cases hi) (λ t ht=>?_) ?_ h
  ·unfold m0
   rw [ho];simp only [hc,ht]
  ·unfold l4; rw [ho]; simp only [hc,hg]; rfl
end
end Go.Ex
namespace Go.Ex
section
variable {E:Env} {s t:St}
theorem c0M {T:TypeId} {i:Nat} {p:List Step} {x:AV} {q:Prop} {v:AV} {s1:St} (h:(Q8 E T i p x s).get=some (q,v,s1)) :
  v=.raw undef/\∃ g ow e,(∀ j∈g,x.i8 j=true)/\∀ t:St,t.obj i=s.obj i->Alike s t x->(Q8 E T i p x t).get=some (q,.raw undef,((St.w9 g t).kill i ow p).w8 i e):=by
 unfold Q8 at h;split at h
 ·cases h
 ·rename_i e aS
  split at h
  ·cases h
  ·rename_i u y hg
   split at h
   ·cases h
   ·rename_i bH
    have base:∀ t:St,t.obj i=s.obj i->t.obj i=some e:=λ t ht=>ht.trans aS;split at h
    ·split at h
     ·split at h
      ·rename_i r aK
       cases h;refine ⟨rfl,[],e.kd,e.E3 r,by simp,λ t ht _=>?_⟩;unfold Q8;simp only [base t ht,hg,bH,aK];rfl
      ·cases h
     ·split at h
      ·rename_i r aK
       cases h;refine ⟨rfl,[],e.kd,e.E3 r,by simp,λ t ht _=>?_⟩;unfold Q8;simp only [base t ht,hg,bH,aK];rfl
      ·cases h
     ·cases h
    ·rename_i j q' lo hi
     split at h
     ·split at h
      ·rename_i r aK
       split at h
       ·rename_i bS
        cases h;refine ⟨rfl,[],e.kd,e.E3 r,by simp,λ t ht _=>?_⟩;unfold Q8;simp only [base t ht,hg,bH,aK,bS];rfl
       ·cases h
      ·cases h
     ·cases h
    ·rename_i x' oK rU
     split at h
     ·rename_i z g cR
      split at h
      ·rename_i r aK
       split at h
       ·rename_i bS
        cases h;refine ⟨rfl,g,e.kd,e.E3 r,Fq cR,λ t ht eP=>?_⟩;have fp:=(zC eP).trans cR;unfold Q8;simp only [base t ht,hg,bH];simp only [fp,aK,bS];rfl
       ·cases h
      ·cases h
     ·rename_i cR
      split at h
      ·rename_i j q'
       split at h
       ·rename_i u' y' cQ
        split at h
        ·rename_i r aK
         split at h
         ·rename_i bS
          cases h;refine ⟨rfl,[],e.kd,e.E3 r,by simp,λ t ht eP=>?_⟩;have fp:=(zC eP).trans cR;have pj:=(J7 (p:=q') (eP j (by simp [AV.i8]))).trans cQ;unfold Q8;simp only [base t ht,hg,bH];simp only [fp,pj,aK,bS];rfl
         ·cases h
        ·cases h
       ·cases h
      ·cases h
theorem c3J {o:Oper} {T:TypeId} {a x:Operand} (ho:o.op=.store T a x) {p:Prop} {v:AV} {s1:St} (h:(m0 E o s).get=some (p,v,s1)):E5 E o s p v:=by
 have ph:∃ i q,s.ev a=.ptr i q:=by
  unfold m0 at h;rw [ho] at h;simp only at h;split at h
  ·exact ⟨_,_,by assumption⟩
  ·cases h
 obtain ⟨i,q,hp⟩:=ph;have ha:∀ t,t.ev a=.ptr i q->m0 E o t=Q8 E T i q (t.ev x) t:=by
  intro t ht;unfold m0;rw [ho];simp only [ht]
 rw [ha s hp] at h;obtain ⟨rfl,g,ow,e,hg,k⟩:=c0M h;have hT:l4 E o s=(s.ev a).G8++(s.ev x).G8:=by unfold l4; rw [ho]
 have ry:i∈l4 E o s:=by rw [hT,hp]; simp [AV.G8]
 have jc:∀ j∈g,j∈l4 E o s:=λ j hj=>by rw [hT]; exact aBr _ (J1.2 (hg j hj))
 have rH:a∈o.op.operands.toList:=by rw [ho]; simp [Op.operands]
 have cP:x∈o.op.operands.toList:=by rw [ho]; simp [Op.operands]
 refine ⟨[],λ u=>AV.kill i ow q (xO g u),λ j=>if j=i then some e else if j∈g then none else look j s.hp,Trim.comp (Trim.w9 g) (Trim.kill i ow q) jc (by simpa using ry),by simp [U1],by simp,by simp [AV.i8],?_⟩;intro t hu dp _;have db:=(dp x cP).1;have px:t.obj i=s.obj i:=(dp a rH).2 i (by rw [hp]; simp [AV.i8]);refine ⟨((St.w9 g t).kill i ow q).w8 i e,?_,CC (CK hu),⟨λ n=>?_,λ j=>?_⟩⟩
 ·rw [ha t ((dp a rH).1.trans hp),db]
  exact k t px (λ j hj=>(dp x cP).2 j hj)
 ·show look n (mapA _ (St.w9 g t).fr)=_
  rw [P9,CJ,aDx]; rfl
 ·show look j (Ex.put i e (St.w9 g t).hp)=_
  rw [o7,J9];by_cases h0:j=i
  ·subst h0; simp [ry]
  ·by_cases h1:j∈g
   ·simp [h0,h1,jc j h1]
   ·by_cases h2:j∈l4 E o s
    ·simp [h0,h1,h2,AH dp h2]
    ·simp [h0,h1,h2]
theorem TV {T:TypeId} {x y:AV} {dst:Option Nat} {p:Prop} {v:AV} {s1:St} (h:(xe E T x y dst s).get=some (p,v,s1)) :
  ∃ d g u l,dst=some d/\(∀ j∈g,x.i8 j=true\/y.i8 j=true)/\∀ t,Alike s t x->Alike s t y->xe E T x y dst t=(St.lay t d g u l).f8 p:=by
 unfold xe at h;split at h
 ·rename_i q t0 bts d hT
  split at h
  ·cases h
  ·rename_i tt m g cp
   have ij:=Rc cp;have ha:∀ t,Alike s t y->y.vw t t0=some (⟨tt,m⟩,g):=λ t ht=>(IK ht).trans cp;simp only at h;split at h
   ·split at h
    ·rename_i dd
     obtain rfl:=BN h (λ _ _ _=>Z5);refine ⟨d,[]++g,.d0 true t0,(([]:List t0.den)++Q4 dd m),rfl,by simpa using λ j hj=>.inr (ij j hj),λ t _ hy=>?_⟩;unfold xe;simp only [hT,ha t hy,dd,dif_pos]
    ·cases h
   ·split at h
    ·rename_i bH
     split at h
     ·rename_i dd
      obtain rfl:=BN h (λ _ _ _=>Z5);refine ⟨d,[]++g,.d0 true t0,(([]:List t0.den)++Q4 dd m),rfl,by simpa using λ j hj=>.inr (ij j hj),λ t _ hy=>?_⟩;unfold xe;simp only [hT,ha t hy,dd,dif_pos,bH]
     ·cases h
    ·cases h
   ·rename_i oK rU
    split at h
    ·rename_i u l f cR
     split at h
     ·rename_i hu
      split at h
      ·rename_i dd
       obtain rfl:=BN h (λ _ _ _=>Z5);refine ⟨d,f++g,.d0 true t0,(Q4 hu l++Q4 dd m),rfl,?_,λ t hx hy=>?_⟩
       ·intro j hj
        rcases aAi.1 hj with hj|hj
        ·exact .inl (Fh cR j hj)
        ·exact .inr (ij j hj)
       ·have fp:=(Em hx).trans cR
        unfold xe;simp only [hT,ha t hy];simp only [fp,hu,dd,dif_pos]
      ·cases h
     ·cases h
    ·cases h
 ·cases h
theorem ZR {T:TypeId} {x y:AV} {dst:Option Nat} {p:Prop} {v:AV} {s1:St} (h:(Dx E T x y dst s).get=some (p,v,s1)) :
  ∃ d g u l,dst=some d/\(∀ j∈g,x.i8 j=true\/y.i8 j=true)/\∀ t,Alike s t x->Alike s t y->Dx E T x y dst t=(St.lay t d g u l).f8 p:=by
 cases h
theorem Ye {T:TypeId} {x y:AV} {dst:Option Nat} {p:Prop} {v:AV} {s1:St} (h:(xH E T x y dst s).get=some (p,v,s1)) :
  ∃ d g u l,dst=some d/\(∀ j∈g,x.i8 j=true\/y.i8 j=true)/\∀ t,Alike s t x->Alike s t y->xH E T x y dst t=(St.lay t d g u l).f8 p:=by
 have hs:∀ t,Alike s t x->DH t x=DH s x:=λ t ht=>by
  unfold DH
  split
  ·rw [ht _ (by simp [AV.i8])]
  ·rfl
 unfold xH at h;split at h
 ·rename_i hc
  obtain ⟨d,g,u,l,h1,h2,h3⟩:=ZR h;exact ⟨d,g,u,l,h1,h2,λ t hx hy=>by unfold xH; rw [hs t hx,hc]; exact h3 t hx hy⟩
 ·rename_i hc
  obtain ⟨d,g,u,l,h1,h2,h3⟩:=TV h;exact ⟨d,g,u,l,h1,h2,λ t hx hy=>by unfold xH; rw [hs t hx,hc]; exact h3 t hx hy⟩
theorem KE {i:Nat} {p:List Step} {lo:Nat} {u:Ty} {m:List u.den} {s1:St} (h:vZ s i p lo u m=some s1):∃ ow e',∀ t:St,t.obj i=s.obj i->vZ t i p lo u m=some ((t.X3 i ow).w8 i e'):=by
 unfold vZ at h;split at h
 ·rename_i e he
  split at h
  ·rename_i u' l hg
   split at h
   ·rename_i hu
    split at h
    ·rename_i r aK
     split at h
     ·rename_i hc
      refine ⟨e.vB,e.E3 r,λ t ht=>?_⟩;unfold vZ;rw [ht,he];simp only [hg,hu,dif_pos];subst hu;simp only [aK,hc]
     ·cases h
    ·cases h
   ·cases h
  ·cases h
 ·cases h
theorem E5.MC {o:Oper} {p:Prop} {v:AV} {i:Nat} {ow:Bool} {e':i6} (hi:i∈l4 E o s) (hv:∀ j,v.i8 j=true->∃ x∈o.op.operands.toList,(s.ev x).i8 j=true) (hr:∀ t,Z3 s t o.op.operands.toList->(m0 E o t).get=some (p,v,(t.X3 i ow).w8 i e')):E5 E o s p v:=by
 refine ⟨[],AV.map (AV.xQ i ow),λ j=>if j=i then some e' else look j s.hp,(Trim.X3 i ow).mono (by simpa using hi),by simp [U1],by simp,λ j hj=>.inl (hv j hj),λ t hu ha _=>⟨_,hr t ha,CC hu,λ n=>?_,λ j=>?_⟩⟩
 ·show look n (mapA _ t.fr)=_
  rw [P9]
 ·show look j (Ex.put i e' t.hp)=_
  rw [o7];by_cases h1:j=i
  ·subst h1; simp [hi]
  ·rw [if_neg h1]
   by_cases h2:j∈l4 E o s
   ·rw [if_pos (.inl h2),if_neg h1]; exact AH ha h2
   ·rw [if_neg (by simp [h2])]
theorem E5.fill {o:Oper} {p:Prop} {v:AV} {i:Nat} {ow:Bool} {e':i6} (hi:i∈l4 E o s) (hv:∀ j,v.i8 j=false) (hr:∀ t,Z3 s t o.op.operands.toList->(m0 E o t).get=some (p,v,(t.X3 i ow).w8 i e')):E5 E o s p v :=
 .MC hi (λ j hj=>by rw [hv j] at hj; cases hj) hr
theorem c2C {o:Oper} {c:Call} (ho:o.op=.call c) (hc:c.callee=.builtin .append) {p:Prop} {v:AV} {s1:St} (h:(m0 E o s).get=some (p,v,s1)):E5 E o s p v:=by
 have cP:∀ x∈c.args.toList,x∈o.op.operands.toList:=λ x hx=>by rw [ho]; exact xV hx
 have hT:l4 E o s=(s.K3 c.args.toList).G8:=by unfold l4; rw [ho]; simp only [hc]
 have key:(∃ x y T F,(F=xe E T\/F=xH E T)/\c.args.toList=[x,y]/\(∀ t,t.ev x=s.ev x->t.ev y=s.ev y->m0 E o t=F (t.ev x) (t.ev y) o.dst t))\/(∃ x y T,c.args.toList=[x,y]/\(∀ t,t.ev x=s.ev x->t.ev y=s.ev y->m0 E o t=xf E T (t.ev x) (t.ev y) t))\/(∃ x y T,c.args.toList=[x,y]/\∀ t,m0 E o t=Au E T (t.ev x) (t.ev y) o.dst t):=by
  unfold m0 at h;rw [ho] at h;simp only [hc] at h;split at h
  ·rename_i x y T U aH fL
   split at h
   ·rename_i hU
    cases jr:(s.ev x).MQ (s.ev y) with
    | true=>exact .inr (.inl ⟨x,y,T,aH,λ t e1 e2=>by unfold m0; rw [ho]; simp only [hc,aH,fL,hU]; rw [e1,e2,jr]⟩)
    | false=>exact .inl ⟨x,y,T,_,.inr rfl,aH,λ t e1 e2=>by unfold m0; rw [ho]; simp only [hc,aH,fL,hU]; rw [e1,e2,jr]⟩
   ·rename_i hU
    exact .inl ⟨x,y,T,_,.inl rfl,aH,λ t _ _=>by unfold m0; rw [ho]; simp only [hc,aH,fL,hU]⟩
   ·rename_i hU
    exact .inr (.inr ⟨x,y,T,aH,λ t=>by unfold m0; rw [ho]; simp only [hc,aH,fL,hU]⟩)
   ·cases h
  ·cases h
 rcases key with key|⟨x,y,T,aH,he⟩|⟨x,y,T,aH,he⟩
 rotate_left
 ·have eX:x∈o.op.operands.toList:=cP x (by rw [aH]; simp)
  have gM:y∈o.op.operands.toList:=cP y (by rw [aH]; simp);rw [he s rfl rfl] at h;have hI:=b89 h;simp only at hI;obtain ⟨i,lo,hi,q,t0,bts,u,m,l,hx,qE,cp,aS,hf,bH,rfl,rfl⟩:=TW hI;obtain ⟨ow,e',gQ⟩:=KE hf;have hm:(s.ev x).i8 i=true:=by rw [hx]; simp [AV.i8]
  refine E5.MC (i:=i) (ow:=ow) (e':=e') (by rw [hT,J1,aH]; simp [St.K3,AV.i8,hm]) (λ j hj=>⟨x,eX,by rw [hx]; exact hj⟩) (λ t ha=>?_);rw [he t (ha x eX).1 (ha y gM).1,(ha x eX).1,(ha y gM).1,hx];have pw:t.obj i=some (.own (.d0 true u) l):=((ha x eX).2 i hm).trans aS;unfold xf;simp only [qE,(IK (u:=t0) (ha y gM).2).trans cp,pw,gQ t ((ha x eX).2 i hm),bH,decide_true];rfl
 ·have h0:=h
  rw [he] at h;have eX:x∈o.op.operands.toList:=cP x (by rw [aH]; simp);have gM:y∈o.op.operands.toList:=cP y (by rw [aH]; simp);unfold Au at h;split at h
  ·rename_i t0 bts d k n qE ko oK oJ
   obtain rfl:=BN h (λ _ _ _=>Z5);refine E5.lay ko (g:=[]) (u:=.d0 true t0) (x:=List.replicate n.toNat t0.s4) (W:=OR.f8 (0<=n/\n<=140737488355328/\n*(t0.wb:Nat)<=140737488355328)) (λ _ _=>rfl) (λ _=>rfl) (by simp) h0 (λ t ha=>?_);rw [he,(ha x eX).1,(ha y gM).1];unfold Au;simp only [qE,ko,oK,oJ]
  ·cases h
 obtain ⟨x,y,T,F,hF,aH,he⟩:=key;have h0:=h;rw [he s rfl rfl] at h;have hJ:∃ d g u l,o.dst=some d/\(∀ j∈g,(s.ev x).i8 j=true\/(s.ev y).i8 j=true)/\∀ t,Alike s t (s.ev x)->Alike s t (s.ev y)->F (s.ev x) (s.ev y) o.dst t=(St.lay t d g u l).f8 p:=by
  rcases hF with rfl|rfl
  ·exact TV h
  ·exact Ye h
 obtain ⟨d,g,u,l,hd,hg,k⟩:=hJ;have eX:x∈o.op.operands.toList:=cP x (by rw [aH]; simp);have gM:y∈o.op.operands.toList:=cP y (by rw [aH]; simp);refine E5.lay hd (g:=g) (u:=u) (x:=l) (W:=OR.f8 p) (λ _ _=>rfl) (λ _=>rfl) ?_ h0 (λ t ha=>?_)
 ·intro j hj
  rw [hT,J1,aH];rcases hg j hj with h|h<;>simp [St.K3,AV.i8,h]
 ·rw [he t (ha x eX).1 (ha y gM).1,(ha x eX).1,(ha y gM).1]
  exact k t (ha x eX).2 (ha y gM).2
end
end Go.Ex
namespace Go.Ex
section
variable {E:Env} {s t:St}
theorem ag {o:Oper} {x:Operand} (h:Z3 s t o.op.operands.toList) (hx:x∈o.op.operands.toList):t.ev x=s.ev x/\Alike s t (s.ev x):=⟨(h x hx).1,(h x hx).2⟩
theorem ob1 {i:Nat} {p:List Step} (h:Alike s t (.ptr i p)):t.obj i=s.obj i:=h i (by simp [AV.i8])
theorem ob2 {i:Nat} {p:List Step} (h:Alike s t (.at_ i p)):t.obj i=s.obj i:=h i (by simp [AV.i8])
theorem ob3 {i:Nat} {p:List Step} {a b:Int} (h:Alike s t (.sub i p a b)):t.obj i=s.obj i:=h i (by simp [AV.i8])
theorem b44 {o:Oper} {T:TypeId} {x:Operand} {n:Nat} (ho:o.op=.fieldAddr T x n) {p:Prop} {v:AV} {s1:St} (h:(m0 E o s).get=some (p,v,s1)):E5 E o s p v:=by
 have hx:x∈o.op.operands.toList:=by rw [ho]; simp [Op.operands]
 refine .ro h (λ t ha=>?_) (λ i hi=>⟨x,hx,?_⟩)
 ·obtain ⟨e1,e2⟩:=ag ha hx
  unfold m0;rw [ho];simp only [e1];cases hx:s.ev x with
  | ptr i q =>
   rw [hx] at e2;simp only [J7 (e2 i (by simp [AV.i8]))]
   repeat' (first|rfl|split)
  | val u z =>
   cases u with
   | box o0 g0 u0=>cases o0<;>cases g0<;>first|rfl|(dsimp only; repeat' (first|rfl|split))
   | _=>first|rfl|(dsimp only; repeat' (first|rfl|split))
  | _=>first|rfl|(dsimp only; split<;>rfl)
 ·unfold m0 at hi
  rw [ho] at hi;simp only at hi;cases hx:s.ev x with
  | ptr j q =>
   rw [hx] at hi;simp only at hi
   repeat' (split at hi)
   all_goals first|exact hi|(cases hi; done)
  | val u z =>
   rw [hx] at hi;exfalso;cases u with
   | box o0 g0 u0=>cases o0<;>cases g0<;>first|(cases hi; done)|(simp only at hi; repeat' (split at hi))<;>(cases hi)
   | _=>first|(cases hi; done)|(simp only at hi; repeat' (split at hi))<;>(cases hi)
  | _ =>
   rw [hx] at hi;simp only at hi
   repeat' (split at hi)
   all_goals first|exact hi|(cases hi; done)
theorem b43 {o:Oper} {T:TypeId} {x y:Operand} (ho:o.op=.indexAddr T x y) {p:Prop} {v:AV} {s1:St} (h:(m0 E o s).get=some (p,v,s1)):E5 E o s p v:=by
 have cP:x∈o.op.operands.toList:=by rw [ho]; simp [Op.operands]
 have lZ:y∈o.op.operands.toList:=by rw [ho]; simp [Op.operands]
 refine .ro h (λ t ha=>?_) (λ i hi=>⟨x,cP,?_⟩)
 ·obtain ⟨e1,e2⟩:=ag ha cP
  have e3:=(ag ha lZ).1;unfold m0;rw [ho];simp only [e1,e3]
  split
  ·rename_i hx _; rw [hx] at e2; (first|simp only [J7 (ob1 e2)]|simp only [J7 (ob2 e2)]) ; (generalize s.part _ _=pt; cases pt with|none=>rfl|some q=>(obtain ⟨u,z⟩:=q; cases u<;>first|rfl|(dsimp only; repeat' (first|rfl|split))|(rename_i o0 _; cases o0<;>first|rfl|(dsimp only; repeat' (first|rfl|split)))))
  ·repeat' (first|rfl|split)
  ·repeat' (first|rfl|split)
  ·rename_i hx _; rw [hx] at e2; (first|simp only [J7 (ob1 e2)]|simp only [J7 (ob2 e2)]) ; (generalize s.part _ _=pt; cases pt with|none=>rfl|some q=>(obtain ⟨u,z⟩:=q; cases u<;>first|rfl|(dsimp only; repeat' (first|rfl|split))|(rename_i o0 _; cases o0<;>first|rfl|(dsimp only; repeat' (first|rfl|split)))))
  ·rename_i hx _; rw [hx] at e2; simp only [Et (ob3 e2)] ; (generalize s.view _ _ _ _=pt; cases pt with|none=>rfl|some q=>(obtain ⟨u,z⟩:=q; dsimp only; repeat' (first|rfl|split)))
  ·rfl
 ·unfold m0 at hi
  rw [ho] at hi;simp only at hi;split at hi
  ·rename_i hx _; rw [hx]; repeat' (split at hi)
   all_goals first|exact hi|(cases hi; done)
  ·repeat' (split at hi)
   all_goals (cases hi; done)
  ·repeat' (split at hi)
   all_goals (cases hi; done)
  ·rename_i hx _; rw [hx]; repeat' (split at hi)
   all_goals first|exact hi|(cases hi; done)
  ·rename_i hx _; rw [hx]; repeat' (split at hi)
   all_goals first|exact hi|(cases hi; done)
  ·cases hi
theorem ZJ {o:Oper} {T:TypeId} {x y:Operand} (ho:o.op=.index T x y) {p:Prop} {v:AV} {s1:St} (h:(m0 E o s).get=some (p,v,s1)):E5 E o s p v:=by
 have cP:x∈o.op.operands.toList:=by rw [ho]; simp [Op.operands]
 have lZ:y∈o.op.operands.toList:=by rw [ho]; simp [Op.operands]
 refine .ro h (λ t ha=>?_) (λ i hi=>⟨x,cP,?_⟩)
 ·obtain ⟨e1,e2⟩:=ag ha cP
  have e3:=(ag ha lZ).1;unfold m0;rw [ho];simp only [e1,e3]
  split
  ·split<;>rfl
  ·split<;>rfl
  ·rename_i hx _; rw [hx] at e2; (first|simp only [J7 (ob1 e2)]|simp only [J7 (ob2 e2)]) ; (generalize s.part _ _=pt; cases pt with|none=>rfl|some q=>(obtain ⟨u,z⟩:=q; cases u<;>first|rfl|(dsimp only; repeat' (first|rfl|split))|(rename_i o0 _; cases o0<;>first|rfl|(dsimp only; repeat' (first|rfl|split)))))
  ·rfl
 ·unfold m0 at hi
  rw [ho] at hi;simp only at hi;split at hi
  ·repeat' (split at hi)
   all_goals (cases hi; done)
  ·repeat' (split at hi)
   all_goals (cases hi; done)
  ·rename_i hx _; rw [hx]; repeat' (split at hi)
   all_goals first|exact hi|(cases hi; done)
  ·cases hi
theorem ZF {o:Oper} {T:TypeId} {x:Operand} {n:Nat} (ho:o.op=.field T x n) {p:Prop} {v:AV} {s1:St} (h:(m0 E o s).get=some (p,v,s1)):E5 E o s p v:=by
 have cP:x∈o.op.operands.toList:=by rw [ho]; simp [Op.operands]
 refine .ro h (λ t ha=>?_) (λ i hi=>⟨x,cP,?_⟩)
 ·obtain ⟨e1,e2⟩:=ag ha cP
  unfold m0;rw [ho];simp only [e1]
  split
  ·split<;>rfl
  ·rename_i hx; rw [hx] at e2; (first|simp only [J7 (ob1 e2)]|simp only [J7 (ob2 e2)]) ; (generalize s.part _ _=pt; cases pt with|none=>rfl|some q=>(obtain ⟨u,z⟩:=q; cases u<;>first|rfl|(dsimp only; repeat' (first|rfl|split))|(rename_i o0 _; cases o0<;>first|rfl|(dsimp only; repeat' (first|rfl|split)))))
  ·rfl
 ·unfold m0 at hi
  rw [ho] at hi;simp only at hi;split at hi
  ·repeat' (split at hi)
   all_goals (cases hi; done)
  ·rename_i hx; rw [hx]; repeat' (split at hi)
   all_goals first|exact hi|(cases hi; done)
  ·cases hi
theorem XN {o:Oper} {c:Call} (ho:o.op=.call c) (hc:c.callee=.builtin .cap) {p:Prop} {v:AV} {s1:St} (h:(m0 E o s).get=some (p,v,s1)):E5 E o s p v:=by
 obtain ⟨x,T,ha,hT⟩:∃ x T,c.args.toList=[x]/\c.argTypes.toList=[T]:=by
  unfold m0 at h;rw [ho] at h;simp only [hc] at h;split at h
  ·exact ⟨_,_,by assumption,by assumption⟩
  ·cases h
 have ir:x∈o.op.operands.toList:=by rw [ho]; exact xV (by rw [ha]; simp)
 refine .ro h (λ t dp=>?_) (λ i hi=>?_)
 ·obtain ⟨e1,e2⟩:=ag dp ir
  unfold m0;rw [ho];simp only [hc,ha,hT,e1]
  repeat' (first|rfl|split)
 ·exfalso
  unfold m0 at hi;rw [ho] at hi;simp only [hc,ha,hT] at hi
  repeat' (split at hi)
  all_goals (cases hi)
theorem VT {v:AV} (h:Alike s t v):v.mp t=v.mp s:=by
 unfold AV.mp
 split
 ·rfl
 ·rename_i i p; simp only [J7 (h i (by simp [AV.i8]))]
 ·rfl
theorem c1e {o:Oper} {T:TypeId} {x y:Operand} {ok:Bool} (ho:o.op=.lookup T x y ok) {p:Prop} {v:AV} {s1:St} (h:(m0 E o s).get=some (p,v,s1)):E5 E o s p v:=by
 have hx:x∈o.op.operands.toList:=by rw [ho]; simp [Op.operands]
 have hy:y∈o.op.operands.toList:=by rw [ho]; simp [Op.operands]
 have hl:∀ t,m0 E o t=zo E T (t.ev x) (t.ev y) ok t:=λ t=>by unfold m0; rw [ho]
 refine .ro h (λ t ha=>?_) (λ i hi=>?_)
 ·rw [hl,hl,(ag ha hx).1,(ag ha hy).1]
  unfold zo;rw [VT (ag ha hx).2]
  repeat' (first|rfl|split)
 ·exfalso
  rw [hl] at hi;unfold zo at hi
  repeat' (split at hi)
  all_goals (simp [OR.av,AV.i8] at hi)
theorem b8t {o:Oper} {T:TypeId} {r:Option Operand} (ho:o.op=.makeMap T r) {p:Prop} {v:AV} {s1:St} (h:(m0 E o s).get=some (p,v,s1)):E5 E o s p v:=by
 have key:∃ k u b d,r=none/\look T E.tt=some ⟨.map true k u,b⟩/\o.dst=some d:=by
  unfold m0 at h; rw [ho] at h;simp only at h;split at h
  ·exact ⟨_,_,_,_,rfl,by assumption,by assumption⟩
  ·cases h
 obtain ⟨k,u,b,d,rfl,h1,h2⟩:=key;have he:∀ t,m0 E o t=t.lay d [] (.map true k u) (some ([]:List (k.den×u.den))):=λ t=>by unfold m0; rw [ho]; simp only [h1,h2]
 rw [he] at h;cases hl:s.lay d [] (.map true k u) (some ([]:List (k.den×u.den))) with
 | fail y=>rw [hl] at h; cases h
 | F8 q v s'=>exact absurd hl Z5
 | ok v' s' =>
  rw [hl] at h;cases h;obtain ⟨k1,rfl,rfl,k4⟩:=Ji hl;exact E5.obj h2 (e:=.own (.map true k u) (some [])) (g:=[]) (λ i hi=>by simpa [AV.i8] using hi) k1 (by simp) (λ t ha hu hf=>by rw [he t,Ig hf k4]; rfl)
theorem c3L {o:Oper} {T:TypeId} {x:Operand} {lo hi mx:Option Operand} (ho:o.op=.slice T x lo hi mx) {p:Prop} {v:AV} {s1:St} (h:(m0 E o s).get=some (p,v,s1)):E5 E o s p v:=by
 have gV:∀ y,y=x\/lo=some y\/hi=some y\/mx=some y->y∈o.op.operands.toList:=by
  rw [ho];rintro y (rfl|rfl|rfl|rfl)<;>simp [Op.operands]
 have cP:x∈o.op.operands.toList:=gV x (.inl rfl);have he:∀ t,m0 E o t=yA E T (t.ev x) lo hi mx t:=λ t=>by unfold m0; rw [ho]
 refine .ro h (λ t ha=>?_) (λ i cN=>⟨x,cP,?_⟩)
 ·obtain ⟨e1,e2⟩:=ag ha cP
  rw [he,he,e1];have b1:∀ d,bnd t d lo=bnd s d lo:=λ d=>Ih (λ y hy=>(ag ha (gV y (.inr (.inl hy)))).1);have b2:∀ d,bnd t d hi=bnd s d hi:=λ d=>Ih (λ y hy=>(ag ha (gV y (.inr (.inr (.inl hy))))).1);have b3:∀ d,bnd t d mx=bnd s d mx:=λ d=>Ih (λ y hy=>(ag ha (gV y (.inr (.inr (.inr hy))))).1);unfold yA;simp only [b1,b2,b3]
  split
  ·rfl
  ·split
   ·repeat' (first|rfl|split)
   ·repeat' (first|rfl|split)
   ·repeat' (first|rfl|split)
   ·repeat' (first|rfl|split)
   ·rename_i hx; rw [hx] at e2; (first|simp only [J7 (ob1 e2)]|simp only [J7 (ob2 e2)]) ; (generalize s.part _ _=pt; cases pt with|none=>rfl|some q=>(obtain ⟨u,z⟩:=q; cases u<;>first|rfl|(dsimp only; repeat' (first|rfl|split))|(rename_i o0 _; cases o0<;>first|rfl|(dsimp only; repeat' (first|rfl|split)))))
   ·rename_i hx; rw [hx] at e2; simp only [J7 (ob3 e2)] ; (generalize s.part _ _=pt; cases pt with|none=>rfl|some q=>(obtain ⟨u,z⟩:=q; cases u<;>first|rfl|(dsimp only; repeat' (first|rfl|split))|(rename_i o0 _; cases o0<;>first|rfl|(dsimp only; repeat' (first|rfl|split)))))
   ·rename_i hx; rw [hx] at e2; (first|simp only [J7 (ob1 e2)]|simp only [J7 (ob2 e2)]) ; (generalize s.part _ _=pt; cases pt with|none=>rfl|some q=>(obtain ⟨u,z⟩:=q; cases u<;>first|rfl|(dsimp only; repeat' (first|rfl|split))|(rename_i o0 _; cases o0<;>first|rfl|(dsimp only; repeat' (first|rfl|split)))))
   ·rfl
 ·rw [he] at cN
  unfold yA at cN;split at cN
  ·cases cN
  ·split at cN
   ·repeat' (split at cN)
    all_goals (cases cN; done)
   ·repeat' (split at cN)
    all_goals (cases cN; done)
   ·repeat' (split at cN)
    all_goals (cases cN; done)
   ·repeat' (split at cN)
    all_goals (cases cN; done)
   ·rename_i hx; rw [hx]; repeat' (split at cN)
    all_goals first|exact cN|(cases cN; done)
   ·rename_i hx; rw [hx]; repeat' (split at cN)
    all_goals first|exact cN|(cases cN; done)
   ·rename_i hx; rw [hx]; repeat' (split at cN)
    all_goals first|exact cN|(cases cN; done)
   ·cases cN
theorem Xq {o:Oper} {c:Call} (ho:o.op=.call c) (hc:c.callee=.builtin .len) {p:Prop} {v:AV} {s1:St} (h:(m0 E o s).get=some (p,v,s1)):E5 E o s p v:=by
 obtain ⟨x,T,ha,hT⟩:∃ x T,c.args.toList=[x]/\c.argTypes.toList=[T]:=by
  unfold m0 at h;rw [ho] at h;simp only [hc] at h;split at h
  ·exact ⟨_,_,by assumption,by assumption⟩
  ·cases h
 have ir:x∈o.op.operands.toList:=by rw [ho]; exact xV (by rw [ha]; simp)
 refine .ro h (λ t dp=>?_) (λ i hi=>?_)
 ·obtain ⟨e1,e2⟩:=ag dp ir
  unfold m0;rw [ho];simp only [hc,ha,hT,e1]
  split
  ·repeat' (first|rfl|split)
  ·repeat' (first|rfl|split)
  ·repeat' (first|rfl|split)
  ·repeat' (first|rfl|split)
  ·rename_i hx; rw [hx] at e2; (first|simp only [J7 (ob1 e2)]|simp only [J7 (ob2 e2)]) ; (generalize s.part _ _=pt; cases pt with|none=>rfl|some q=>(obtain ⟨u,z⟩:=q; cases u<;>first|rfl|(dsimp only; repeat' (first|rfl|split))|(rename_i o0 _; cases o0<;>first|rfl|(dsimp only; repeat' (first|rfl|split)))|(rename_i o0 _ _; cases o0<;>first|rfl|(dsimp only; repeat' (first|rfl|split)))))
  ·rename_i hx; rw [hx] at e2; simp only [Et (ob3 e2)] ; (generalize s.view _ _ _ _=pt; cases pt with|none=>rfl|some q=>(obtain ⟨u,z⟩:=q; dsimp only; repeat' (first|rfl|split)))
  ·repeat' (first|rfl|split)
  ·rfl
 ·exfalso
  unfold m0 at hi;rw [ho] at hi;simp only [hc,ha,hT] at hi
  repeat' (split at hi)
  all_goals (cases hi)
theorem Qi {k:IntKind} {f:Int->Int->Int}:∀ {l:List Operand} {n:Int},(∀ x∈l,t.ev x=s.ev x)->foldI t k f n l=(foldI s k f n l).wZ t
 | [],n,_=>rfl
 | x::l,n,h=>by
  simp only [foldI,h x (by simp)]
  split
  ·split
   ·exact Qi (λ y hy=>h y (by simp [hy]))
   ·rfl
  ·rfl
theorem Lf {k:IntKind} {f:Int->Int->Int} {i:Nat}:∀ {l:List Operand} {n:Int},(foldI s k f n l).av.i8 i=true->False
 | [],n,h=>by cases h
 | x::l,n,h=>by
  simp only [foldI] at h;split at h
  ·split at h
   ·exact Lf h
   ·cases h
  ·cases h
theorem SK {o:Oper} {c:Call} (ho:o.op=.call c) (hc:c.callee=.builtin .max\/c.callee=.builtin .min) {p:Prop} {v:AV} {s1:St} (h:(m0 E o s).get=some (p,v,s1)):E5 E o s p v:=by
 have cP:∀ x∈c.args.toList,x∈o.op.operands.toList:=λ x hx=>by rw [ho]; exact xV hx
 refine .ro h (λ t dp=>?_) (λ i hi=>?_)
 ·unfold m0
  rw [ho];rcases hc with hc|hc <;>
  ·simp only [hc]
   split
   ·rename_i x l ha
    rw [(dp x (cP x (by rw [ha]; simp))).1]
    split
    ·exact Qi (λ y hy=>(dp y (cP y (by rw [ha]; simp [hy]))).1)
    ·rfl
   ·rfl
 ·exfalso
  unfold m0 at hi;rw [ho] at hi;rcases hc with hc|hc
  ·simp only [hc] at hi
   split at hi
   ·split at hi
    ·exact Lf hi
    ·cases hi
   ·cases hi
  ·simp only [hc] at hi
   split at hi
   ·split at hi
    ·exact Lf hi
    ·cases hi
   ·cases hi
theorem ZZ {o:Oper} {T:TypeId} {parts:Array (Nat×Operand)} (ho:o.op=.build T parts) {p:Prop} {v:AV} {s1:St} (h:(m0 E o s).get=some (p,v,s1)):E5 E o s p v:=by
 have eZ:∀ t,Z3 s t o.op.operands.toList->∀ q∈parts.toList,t.ev q.2=s.ev q.2/\Alike s t (s.ev q.2):=λ t ha q hq=>ag ha (by rw [ho]; simp only [Op.operands]; simpa using ⟨q.1,by simpa using hq⟩);have key:∃ t0 r g,look T E.tt=some t0/\(t0.ty.agg && parts.toList.all (λ q=>wU t0.ty q.1))=true/\U0 s ⟨t0.ty,t0.ty.s4⟩ parts.toList=some (r,g):=by
  unfold m0 at h; rw [ho] at h;simp only at h;split at h
  ·split at h
   ·split at h
    ·exact ⟨_,_,_,by assumption,by assumption,by assumption⟩
    ·exact ⟨_,_,_,by assumption,by assumption,by assumption⟩
    ·cases h
   ·cases h
  ·cases h
 obtain ⟨t0,⟨u,y⟩,g,h1,h2,h3⟩:=key;have hb:∀ t,Z3 s t o.op.operands.toList->U0 t ⟨t0.ty,t0.ty.s4⟩ parts.toList=some (⟨u,y⟩,g):=λ t ha=>(EP (s:=s) (t:=t) (eZ t ha)).trans h3;cases g with
 | nil =>
  have he:∀ t,Z3 s t o.op.operands.toList->m0 E o t=.ok (.val u y) t:=λ t ha=>by unfold m0; rw [ho]; simp only [h1,h2,hb t ha]
  refine .ro h (λ t ha=>?_) (λ i hi=>?_)
  ·rw [he t ha,he s (.refl _ _)]; rfl
  ·rw [he s (.refl _ _)] at hi; cases hi
 | cons g0 g =>
  cases hd:o.dst with
  | none =>
   exfalso;unfold m0 at h; rw [ho] at h;simp only [h1,h2,h3,hd] at h;cases h
  | some d =>
   refine E5.lay hd (g:=g0::g) (u:=u) (x:=y) (W:=λ r=>r) (p:=p) (v:=v) (s1:=s1) ?_ (λ _=>rfl) ?_ h (λ t ha=>by unfold m0; rw [ho]; simp only [h1,h2,hb t ha,hd])
   ·have hp:p=True:=by
     unfold m0 at h; rw [ho] at h;simp only [h1,h2,h3,hd] at h;cases hl:s.lay d (g0::g) u y<;>rw [hl] at h
     ·cases h
     ·cases h; rfl
     ·exact absurd hl Z5
    intro v s; rw [hp]; rfl
   ·intro i hi
    obtain ⟨q,hq,hm⟩:=FI h3 i hi;unfold l4;rw [ho];exact J1.2 (a93 (aCu.2 ⟨q,hq,rfl⟩) hm)
theorem b3i {o:Oper} {T:TypeId} {n:Nat} {parts:Array (Nat×Operand)} (ho:o.op=.buildSlice T n parts) {p:Prop} {v:AV} {s1:St} (h:(m0 E o s).get=some (p,v,s1)):E5 E o s p v:=by
 have eZ:∀ t,Z3 s t o.op.operands.toList->∀ q∈parts.toList,t.ev q.2=s.ev q.2/\Alike s t (s.ev q.2):=λ t ha q hq=>ag ha (by rw [ho]; simp only [Op.operands]; simpa using ⟨q.1,by simpa using hq⟩);have key:∃ t0 b d m t' l g,look T E.tt=some ⟨.d0 true t0,b⟩/\o.dst=some d/\(s.fresh d && parts.toList.all (λ q=>Nat.blt q.1 n) && Nat.ble (n*t0.size) 16777216)=true/\zK s n t0 parts.toList=some (⟨.arr m t',l⟩,g):=by
  unfold m0 at h; rw [ho] at h;simp only at h;split at h
  ·split at h
   ·split at h
    ·exact ⟨_,_,_,_,_,_,_,by assumption,by assumption,by assumption,by assumption⟩
    ·cases h
   ·cases h
  ·cases h
 obtain ⟨t0,b,d,m,t',l,g,h1,h2,h4,h5⟩:=key;have hb:∀ t,Z3 s t o.op.operands.toList->zK t n t0 parts.toList=some (⟨.arr m t',l⟩,g):=λ t ha=>by
  rw [<- h5]; unfold zK; rw [EP (s:=s) (t:=t) (eZ t ha),EP (s:=s) (t:=t) (eZ t ha)]
 obtain ⟨t9,_,h9⟩:=Qu h5;have he:∀ t,Z3 s t o.op.operands.toList->t.fresh d=true->m0 E o t=t.lay d g (.d0 true t') l:=λ t ha hf=>by
  simp only [aAa] at h4;unfold m0; rw [ho]; simp only [h1,h2,hf,h4.1.2,h4.2,hb t ha,aHb]
 have hf:s.fresh d=true:=by simp only [aAa] at h4; exact h4.1.1
 have jc:∀ i∈g,i∈l4 E o s:=by
  intro i hi;obtain ⟨q,hq,hm⟩:=FI h9 i hi;unfold l4;rw [ho];exact J1.2 (a93 (aCu.2 ⟨q,hq,rfl⟩) hm)
 rw [he s (.refl _ _) hf] at h;cases hl:s.lay d g (.d0 true t') l with
 | fail y=>rw [hl] at h; cases h
 | F8 q v s'=>exact absurd hl Z5
 | ok v' s' =>
  rw [hl] at h;cases h;obtain ⟨k1,rfl,rfl,k4⟩:=Ji hl;exact E5.obj h2 (e:=.own (.d0 true t') l) (g:=g) (λ i hi=>by simpa [AV.i8] using hi) k1 jc (λ t ha hu hf=>by rw [he t ha hf,Ig hf k4]; rfl)
theorem XK {o:Oper} {T:TypeId} {x:Operand} (ho:o.op=.box T x) {p:Prop} {v:AV} {s1:St} (h:(m0 E o s).get=some (p,v,s1)):E5 E o s p v:=by
 have cP:x∈o.op.operands.toList:=by rw [ho]; simp [Op.operands]
 have hT:l4 E o s=(s.ev x).G8:=by unfold l4; rw [ho]
 have key:∃ t0 d,look T E.tt=some t0/\o.dst=some d/\s.fresh d=true:=by
  unfold m0 at h; rw [ho] at h;simp only at h;split at h
  ·split at h
   ·exact ⟨_,_,by assumption,by assumption,by assumption⟩
   ·cases h
  ·cases h
 obtain ⟨t0,d,h1,h2,h3⟩:=key;have he:∀ t,t.fresh d=true->m0 E o t=(match (t.ev x).vL t with
    | some (⟨u,y⟩,g)=>if u.T5.sh=t0.ty.T5.sh then (match wV g && !g.contains d && g.all λ i=>!pinned i with
     | true=>.ok (.ptr d []) ((St.w9 g t).w8 d (.var u y))
     | false=>.fail "box: objects") else .fail "box: value"
    | none=>(match t.ev x,t0.ty with
     | .raw (.slice none 0 0),.d0 o u=>.ok (.ptr d []) (t.w8 d (.var (.d0 o u) ([]:List u.den)))
     | .ptr i p,.box _ none _=>.ok (.bx (.ptr i p)) t
     | _,_=>.fail "box: what")):=λ t ht=>by unfold m0; rw [ho]; simp only [h1,h2,ht]; rfl
 rw [he s h3] at h;split at h
 ·rename_i u y g cR
  split at h
  ·rename_i cg
   split at h
   ·rename_i hc
    cases h;refine E5.obj h2 (e:=.var u y) (g:=g) (λ i hi=>by simpa [AV.i8] using hi) h3 (λ i hi=>by rw [hT]; exact J1.2 (Fq cR i hi)) (λ t ha hu hf=>?_);obtain ⟨e1,e2⟩:=ag ha cP;rw [he t hf,e1];simp only [(zC e2).trans cR,cg,if_true,hc];rfl
   ·cases h
  ·cases h
 ·rename_i cR
  split at h
  ·rename_i o' u hx kI
   cases h;refine E5.obj h2 (e:=.var (.d0 o' u) ([]:List u.den)) (g:=[]) (λ i hi=>by simpa [AV.i8] using hi) h3 (by simp) (λ t ha hu hf=>?_);obtain ⟨e1,e2⟩:=ag ha cP;have fp:=(zC e2).trans cR;rw [hx] at e1 fp;rw [he t hf,e1];simp only [fp,kI];rfl
  ·rename_i i q o0 u0 hx kI
   cases h;refine ⟨[d],λ u=>u,λ j=>if j=d then none else look j s.hp,Trim.id _,Sr h3,by simp [h2],λ j hj=>.inl ⟨x,cP,by rw [hx]; exact hj⟩,λ t hu ha hn=>?_⟩;have hf:=Qj hu hn;obtain ⟨e1,e2⟩:=ag ha cP;have fp:=(zC e2).trans cR;rw [hx] at e1 fp;refine ⟨t,?_,hu,⟨λ n=>by simp,λ j=>?_⟩⟩
   ·rw [he t hf,e1]; simp only [fp,kI]; rfl
   ·by_cases hj:j=d
    ·subst hj
     rw [if_pos (.inr (by simp)),if_pos rfl];exact (hn j (by simp)).1
    ·by_cases ja:j∈l4 E o s
     ·rw [if_pos (.inl ja),if_neg hj]; exact AH ha ja
     ·rw [if_neg (by simp [ja,hj])]
  ·cases h
theorem b8M {o:Oper} {T' T:TypeId} {x:Operand} (ho:o.op=.convert T' T x) {p:Prop} {v:AV} {s1:St} (h:(m0 E o s).get=some (p,v,s1)):E5 E o s p v:=by
 have cP:x∈o.op.operands.toList:=by rw [ho]; simp [Op.operands]
 by_cases hs:(∃ y,s.ev x=.val .str y)/\(∃ b,look T' E.tt=some ⟨.str,b⟩)/\(∃ b,look T E.tt=some ⟨.d0 true (.int .u8),b⟩)
 ·obtain ⟨⟨y,hy⟩,⟨b,hb⟩,⟨b',cS⟩⟩:=hs
  cases hd:o.dst with
  | none =>
   exfalso;unfold m0 at h; rw [ho] at h;simp only [hy,hb,cS,hd] at h;cases h
  | some d =>
   have he:∀ t,t.ev x=s.ev x->m0 E o t=t.lay d [] (.d0 true (.int .u8)) (List.map (λ b:UInt8=>(b.toNat:Int)) y:List Int):=λ t ht=>by
    unfold m0; rw [ho]; simp only [ht,hy,hb,cS,hd]
   have hp:p=True:=by
    rw [he s rfl] at h;cases hl:s.lay d [] (.d0 true (.int .u8)) (List.map (λ b:UInt8=>(b.toNat:Int)) y:List Int)<;>rw [hl] at h
    ·cases h
    ·cases h; rfl
    ·exact absurd hl Z5
   exact E5.lay hd (g:=[]) (W:=λ r=>r) (λ v s=>by rw [hp]; rfl) (λ _=>rfl) (by simp) h (λ t ha=>he t (ag ha cP).1)
 ·refine .ro h (λ t ha=>?_) (λ i hi=>?_)
  ·obtain ⟨e1,e2⟩:=ag ha cP
   unfold m0; rw [ho]; simp only [e1]
   split
   ·rfl
   ·rename_i hx oR oQ
    exact absurd ⟨⟨_,hx⟩,⟨_,oR⟩,⟨_,oQ⟩⟩ hs
   ·rw [Ib e2]
    repeat' (first|rfl|split)
   ·rfl
  ·exfalso
   unfold m0 at hi; rw [ho] at hi;simp only at hi;split at hi
   ·cases hi
   ·rename_i hx oR oQ
    exact absurd ⟨⟨_,hx⟩,⟨_,oR⟩,⟨_,oQ⟩⟩ hs
   ·repeat' (split at hi)
    all_goals (cases hi)
   ·cases hi
theorem b40 {o:Oper} {T:TypeId} {x y:Operand} (ho:o.op=.makeSlice T x y) {p:Prop} {v:AV} {s1:St} (h:(m0 E o s).get=some (p,v,s1)):E5 E o s p v:=by
 have cP:x∈o.op.operands.toList:=by rw [ho]; simp [Op.operands]
 have lZ:y∈o.op.operands.toList:=by rw [ho]; simp [Op.operands]
 have key:∃ t0 b d k n k' m,look T E.tt=some ⟨.d0 true t0,b⟩/\o.dst=some d/\s.ev x=.val (.int k) n/\s.ev y=.val (.int k') m/\E.rs.any Ty.Hf=false:=by
  unfold m0 at h; rw [ho] at h;simp only at h;split at h
  ·cases h
  ·rename_i sP
   split at h
   ·exact ⟨_,_,_,_,_,_,_,by assumption,by assumption,by assumption,by assumption,sP⟩
   ·cases h
 obtain ⟨t0,b,d,k,n,k',m,h1,h2,h3,h4,pI⟩:=key;have he:∀ t,t.ev x=s.ev x->t.ev y=s.ev y->m0 E o t=(t.lay d [] (.d0 true t0) (List.replicate (Int.toNat n) t0.s4)).f8 (@LE.le Int Int.instLEInt 0 n/\@LE.le Int Int.instLEInt n m/\@LE.le Int Int.instLEInt m 140737488355328/\@LE.le Int Int.instLEInt (@HMul.hMul Int Int Int _ m (t0.wb:Nat)) 140737488355328):=λ t e1 e2=>by
  unfold m0; rw [ho]; simp only [e1,e2,pI,h1,h2,h3,h4]
 have h0:=h;rw [he s rfl rfl] at h;obtain rfl:=BN h (λ _ _ _=>Z5);exact E5.lay h2 (g:=[]) (W:=OR.f8 _) (λ _ _=>rfl) (λ _=>rfl) (by simp) h0 (λ t ha=>he t (ag ha cP).1 (ag ha lZ).1)
theorem OE {v:AV} (h:Alike s t v):v.wC t=v.wC s:=by
 unfold AV.wC
 split
 ·rw [J7 (ob2 h)]
 ·rw [J7 (ob3 h)]
 ·rfl
theorem Rm {v:AV} {i:Nat} {p:List Step} {lo hi:Int} (h:v.wC s=some (i,p,lo,hi)):v.i8 i=true:=by
 unfold AV.wC at h;split at h
 ·split at h
  ·cases h; simp [AV.i8]
  ·cases h
 ·split at h
  ·cases h; simp [AV.i8]
  ·cases h
 ·cases h
theorem Zy {o:Oper} {c:Call} (ho:o.op=.call c) (hc:c.callee=.builtin .copy) {p:Prop} {v:AV} {s1:St} (h:(m0 E o s).get=some (p,v,s1)):E5 E o s p v:=by
 have cP:∀ x∈c.args.toList,x∈o.op.operands.toList:=λ x hx=>by rw [ho]; exact xV hx
 have hT:l4 E o s=(s.K3 c.args.toList).G8:=by unfold l4; rw [ho]; simp only [hc]
 have key:∃ x y T,c.args.toList=[x,y]/\∀ t,m0 E o t=a80 E T (t.ev x) (t.ev y) t:=by
  unfold m0 at h;rw [ho] at h;simp only [hc] at h;split at h
  ·rename_i x y T U aH fL
   exact ⟨x,y,T,aH,λ t=>by unfold m0; rw [ho]; simp only [hc,aH,fL]⟩
  ·cases h
 obtain ⟨x,y,T,aH,he⟩:=key;rw [he] at h;have eX:x∈o.op.operands.toList:=cP x (by rw [aH]; simp);have gM:y∈o.op.operands.toList:=cP y (by rw [aH]; simp);unfold a80 at h;split at h
 ·rename_i i q lo hi u m hd fq
  split at h
  ·rename_i s' hf bH
   simp only [OR.get,aAc,aAx] at h;obtain ⟨rfl,rfl,_⟩:=h;obtain ⟨ow,e',gQ⟩:=KE hf;have hm:=Rm hd;refine E5.fill (i:=i) (ow:=ow) (e':=e') (by rw [hT,J1,aH]; simp [St.K3,AV.i8,hm]) (λ _=>rfl) (λ t ha=>?_);rw [he,(ha x eX).1,(ha y gM).1];unfold a80;rw [OE (ha x eX).2,Ib (ha y gM).2,hd,fq];simp only [gQ t ((ha x eX).2 i hm),bH];rfl
  ·cases h
 ·cases h
theorem ZA {o:Oper} {c:Call} (ho:o.op=.call c) (hc:c.callee=.builtin .clear) {p:Prop} {v:AV} {s1:St} (h:(m0 E o s).get=some (p,v,s1)):E5 E o s p v:=by
 have cP:∀ x∈c.args.toList,x∈o.op.operands.toList:=λ x hx=>by rw [ho]; exact xV hx
 have hT:l4 E o s=(s.K3 c.args.toList).G8:=by unfold l4; rw [ho]; simp only [hc]
 have key:∃ x T,c.args.toList=[x]/\∀ t,m0 E o t=As E T (t.ev x) t:=by
  unfold m0 at h;rw [ho] at h;simp only [hc] at h;split at h
  ·rename_i x T aH fL
   exact ⟨x,T,aH,λ t=>by unfold m0; rw [ho]; simp only [hc,aH,fL]⟩
  ·cases h
 obtain ⟨x,T,aH,he⟩:=key;rw [he] at h;have eX:x∈o.op.operands.toList:=cP x (by rw [aH]; simp);unfold As at h;split at h
 ·rename_i i q lo hi b u bts hd df
  split at h
  ·rename_i s' hf
   simp only [OR.get,aAc,aAx] at h;obtain ⟨rfl,rfl,_⟩:=h;obtain ⟨ow,e',gQ⟩:=KE hf;have hm:=Rm hd;refine E5.fill (i:=i) (ow:=ow) (e':=e') (by rw [hT,J1,aH]; simp [St.K3,AV.i8,hm]) (λ _=>rfl) (λ t ha=>?_);rw [he,(ha x eX).1];unfold As;rw [OE (ha x eX).2,hd,df];simp only [gQ t ((ha x eX).2 i hm)];rfl
  ·cases h
 ·cases h
theorem c0I {o:Oper} {T:TypeId} {m x y:Operand} (ho:o.op=.mapUpdate T m x y) {p:Prop} {v:AV} {s1:St} (h:(m0 E o s).get=some (p,v,s1)):E5 E o s p v:=by
 have hm:m∈o.op.operands.toList:=by rw [ho]; simp [Op.operands]
 have hx:x∈o.op.operands.toList:=by rw [ho]; simp [Op.operands]
 have hy:y∈o.op.operands.toList:=by rw [ho]; simp [Op.operands]
 have hl:∀ t,m0 E o t=yi E T (t.ev m) (t.ev x) (t.ev y) t:=λ t=>by unfold m0; rw [ho]
 have hT:l4 E o s=(s.ev m).G8:=by unfold l4; rw [ho]
 rw [hl] at h;have key:∃ j e',s.ev m=.at_ j []/\p=True/\v=.raw undef/\∀ t:St,t.obj j=s.obj j->yi E T (s.ev m) (s.ev x) (s.ev y) t=.ok (.raw undef) ((t.X3 j true).w8 j e'):=by
  unfold yi at h;split at h
  ·rename_i j u a u' z e1 e2 e3
   split at h
   ·rename_i k w l aS
    split at h
    ·rename_i hu
     split at h
     ·rename_i nS
      split at h
      ·rename_i mO
       simp only [OR.get,aAc,aAx] at h;obtain ⟨rfl,rfl,_⟩:=h;refine ⟨j,.own (.map true k w) (some (vD (F5 k) (I8 hu a) (I8 nS z) l)),e1,rfl,rfl,λ t ht=>?_⟩;unfold yi;rw [e1,e2,e3];subst hu nS;simp only [ht,aS,mO,dif_pos]
      ·cases h
     ·cases h
    ·cases h
   ·cases h
  ·cases h
 obtain ⟨j,e',e1,rfl,rfl,hk⟩:=key;refine E5.fill (i:=j) (ow:=true) (e':=e') (by rw [hT,e1]; simp [AV.G8]) (λ _=>rfl) (λ t ha=>?_);rw [hl,(ag ha hm).1,(ag ha hx).1,(ag ha hy).1,hk t ((ag ha hm).2 j (by rw [e1]; simp [AV.i8]))];rfl
theorem Wo {o:Oper} (iC:∀ a b c,o.op≠.pick a b c) {p:Prop} {v:AV} {s1:St} (h:(m0 E o s).get=some (p,v,s1)):E5 E o s p v:=by
 have cT:∀ x,x∈o.op.operands.toList↔x∈o.op.operands.toList:=λ _=>aIb;cases ho:o.op with
 | move x =>
  have hx:x∈o.op.operands.toList:=by rw [ho]; simp [Op.operands]
  refine .ro h (λ t ha=>?_) (λ i hi=>⟨x,hx,?_⟩)
  ·unfold m0; rw [ho]; simp only [(ag ha hx).1]; rfl
  ·unfold m0 at hi; rw [ho] at hi; exact hi
 | assign x =>
  have hx:x∈o.op.operands.toList:=by rw [ho]; simp [Op.operands]
  refine .ro h (λ t ha=>?_) (λ i hi=>⟨x,hx,?_⟩)
  ·unfold m0; rw [ho]; simp only [(ag ha hx).1]; rfl
  ·unfold m0 at hi; rw [ho] at hi; exact hi
 | load T x =>
  have hx:x∈o.op.operands.toList:=by rw [ho]; simp [Op.operands]
  have hl:∀ t,m0 E o t=Z0 E T (t.ev x) t:=λ t=>by unfold m0; rw [ho]
  refine .ro h (λ t ha=>?_) (λ i hi=>⟨x,hx,?_⟩)
  ·obtain ⟨e1,e2⟩:=ag ha hx
   rw [hl,hl,e1]; exact Zt e2
  ·rw [hl] at hi; exact c1h hi
 | nilCheck x =>
  have hx:x∈o.op.operands.toList:=by rw [ho]; simp [Op.operands]
  refine .ro h (λ t ha=>?_) (λ i hi=>⟨x,hx,?_⟩)
  ·unfold m0; rw [ho]; simp only [(ag ha hx).1]; split<;>rfl
  ·unfold m0 at hi; rw [ho] at hi
   simp only at hi;split at hi<;>first|(cases hi; done)|(rename_i e; rw [e]; exact hi)
 | binOp op T x y T' =>
  have hx:x∈o.op.operands.toList:=by rw [ho]; simp [Op.operands]
  have hy:y∈o.op.operands.toList:=by rw [ho]; simp [Op.operands]
  have hl:∀ t,m0 E o t=wP E T op (t.ev x) (t.ev y) t:=λ t=>by unfold m0; rw [ho]
  refine .ro h (λ t ha=>?_) (λ i hi=>?_)
  ·rw [hl,hl,(ag ha hx).1,(ag ha hy).1]; exact Ws ..
  ·exfalso
   rw [hl] at hi;unfold wP zS yg eqA xJ xI yT arith at hi
   repeat' (split at hi)
   all_goals (cases hi)
 | unOp op T x =>
  have hx:x∈o.op.operands.toList:=by rw [ho]; simp [Op.operands]
  have hl:∀ t,m0 E o t=unA op (t.ev x) t:=λ t=>by unfold m0; rw [ho]
  refine .ro h (λ t ha=>?_) (λ i hi=>?_)
  ·rw [hl,hl,(ag ha hx).1]; exact WB ..
  ·exfalso
   rw [hl] at hi;unfold unA arith at hi
   repeat' (split at hi)
   all_goals (cases hi)
 | convert T' T x=>exact b8M ho h
 | fieldAddr T x n=>exact b44 ho h
 | indexAddr T x y=>exact b43 ho h
 | index T x y=>exact ZJ ho h
 | field T x n=>exact ZF ho h
 | slice T x lo hi mx=>exact c3L ho h
 | makeSlice T x y=>exact b40 ho h
 | build T parts=>exact ZZ ho h
 | buildSlice T n parts=>exact b3i ho h
 | makeMap T r=>exact b8t ho h
 | lookup T x y ok=>exact c1e ho h
 | mapUpdate T m x y=>exact c0I ho h
 | box T x=>exact XK ho h
 | store T a x=>exact c3J ho h
 | extract x n =>
  have hx:x∈o.op.operands.toList:=by rw [ho]; simp [Op.operands]
  refine .ro h (λ t ha=>?_) (λ i hi=>⟨x,hx,?_⟩)
  ·unfold m0; rw [ho]; simp only [(ag ha hx).1]
   split
   ·split<;>rfl
   ·rfl
  ·unfold m0 at hi; rw [ho] at hi
   simp only at hi;split at hi
   ·rename_i l e
    split at hi
    ·rename_i v hv
     rw [e]; show l.i8 i=true; exact a91 hv hi
    ·cases hi
   ·cases hi
 | makeFunc fn first caps =>
  have dY:∀ x∈caps.toList,x∈o.op.operands.toList:=λ x hx=>by rw [ho]; simp only [Op.operands]; simp at hx ⊢; exact .inr hx
  have hcs:∀ t,Z3 s t o.op.operands.toList->t.K3 caps.toList=s.K3 caps.toList:=λ t ha=>Aj (λ x hx=>(ag ha (dY x hx)).1);refine .ro h (λ t ha=>?_) (λ i hi=>?_)
  ·unfold m0; rw [ho]
   cases fn with
   | func f=>simp only [hcs t ha]; split<;>rfl
   | _=>rfl
  ·unfold m0 at hi; rw [ho] at hi
   cases fn with
   | func f =>
    simp only at hi;split at hi
    ·obtain ⟨x,hx,hi⟩:=xt (s:=s) (i:=i) (xs:=caps.toList) hi
     exact ⟨x,dY x hx,hi⟩
    ·cases hi
   | _=>cases hi
 | alloc T =>
  have key:∃ t0 d,look T E.tt=some t0/\o.dst=some d/\s.fresh d=true:=by
   unfold m0 at h; rw [ho] at h;simp only at h;split at h
   ·split at h
    ·exact ⟨_,_,by assumption,by assumption,by assumption⟩
    ·cases h
   ·cases h
  obtain ⟨t0,d,h1,h2,h3⟩:=key;have he:∀ t,t.fresh d=true->m0 E o t=.ok (.ptr d []) (t.w8 d (.var t0.ty t0.ty.s4)):=λ t ht=>by unfold m0; rw [ho]; simp only [h1,h2,ht]
  rw [he s h3] at h;simp only [OR.get,aAc,aAx] at h;obtain ⟨rfl,rfl,rfl⟩:=h;exact .obj h2 (g:=[]) (λ i hi=>by simpa [AV.i8] using hi) h3 (by simp) (λ t _ _ ht=>by rw [he t ht]; rfl)
 | call c =>
  cases hc:c.callee with
  | value f=>exact Yk ho hc h
  | builtin b =>
   cases b<;>first
    | (exact Xq ho hc h)
    | (exact XN ho hc h)
    | (exact c2C ho hc h)
    | (exact Zy ho hc h)
    | (exact ZA ho hc h)
    | (exact SK ho (.inl hc) h)
    | (exact SK ho (.inr hc) h)
    | (exfalso; unfold m0 at h; rw [ho] at h; simp only [hc] at h; cases h)
  | _=>exfalso; unfold m0 at h; rw [ho] at h; simp only [hc] at h; cases h
 | pick a b c=>exact absurd ho (iC a b c)
 | _=>exfalso; unfold m0 at h; rw [ho] at h; cases h
end
end Go.Ex
namespace Go.Ex
def N0 (s t:St):Prop:=(∀ n,look n s.fr=look n t.fr)/\(∀ i,look i s.hp=look i t.hp)
theorem N0.refl (s:St):N0 s s:=⟨λ _=>rfl,λ _=>rfl⟩
theorem N0.symm {s t:St} (h:N0 s t):N0 t s:=⟨λ n=>(h.1 n).symm,λ n=>(h.2 n).symm⟩
theorem N0.trans {s t u:St} (h:N0 s t) (k:N0 t u):N0 s u:=⟨λ n=>(h.1 n).trans (k.1 n),λ n=>(h.2 n).trans (k.2 n)⟩
theorem X8 {m:Nat} {s:St} {d:Option Nat} {v:AV}:look m (s.put d v).fr=if d=some m then some v else look m s.fr:=by
 cases d with
 | none=>simp [St.put]
 | some d =>
  simp only [St.put,o7,aAc];by_cases e:m=d
  ·subst e; simp
  ·rw [if_neg e,if_neg (λ h=>e h.symm)]
theorem xa {s:St} {d:Option Nat} {v:AV}:(s.put d v).hp=s.hp:=by cases d<;>rfl
theorem zB {s:St} {d:Option Nat} {v:AV} (h:uniq s.fr):uniq (s.put d v).fr:=by
 cases d with
 | none=>exact h
 | some d=>exact QK _ _ h
theorem N0.put {s t:St} (h:N0 s t) (d:Option Nat) (v:AV):N0 (s.put d v) (t.put d v) :=
 ⟨λ n=>by rw [X8,X8,h.1 n],λ i=>by rw [xa,xa,h.2 i]⟩
theorem N0.get {s t:St} (h:N0 s t) (m:Nat):s.get m=t.get m:=by simp only [St.get,h.1 m]
theorem N0.ev {s t:St} (h:N0 s t) (x:Operand):s.ev x=t.ev x:=by cases x<;>first|exact zv (h.get _)|rfl
theorem U1.eqv {s t:St} (h:N0 s t) {ids:List Nat} (hf:U1 s ids):U1 t ids :=
 λ n hn=>⟨(h.2 n).symm.trans (hf n hn).1,λ m v hv=>(hf n hn).2 m v ((h.1 m).trans hv)⟩
def BE (s t:St) (L:List Nat):Prop:=∀ m∈L,t.get m=s.get m/\∀ i,(s.get m).i8 i=true->t.obj i=s.obj i
theorem LR (v:Value) (i:Nat):(ofConst v).i8 i=false:=by
 unfold ofConst
 split
 ·split<;>rfl
 ·rfl
 ·split<;>rfl
 ·rfl
theorem BV {s:St} {x:Operand} {i:Nat} (h:(s.ev x).i8 i=true):∃ m,x=.tmp m/\(s.get m).i8 i=true:=by
 cases x with
 | tmp m=>exact ⟨m,rfl,FK h⟩
 | const v=>simp [St.ev,LR] at h
 | global g=>cases h
 | func f=>cases h
theorem BE.agree {s t:St} {L:List Nat} (h:BE s t L) {xs:List Operand} (hL:∀ m,Operand.tmp m∈xs->m∈L):Z3 s t xs:=by
 intro x hx;refine ⟨?_,λ i hi=>?_⟩
 ·cases x with
  | tmp m=>exact zv (h m (hL m hx)).1
  | _=>rfl
 ·obtain ⟨m,rfl,hm⟩:=BV hi
  exact (h m (hL m hx)).2 i hm
structure Put (s s1:St) (d:Option Nat) (T ids:List Nat) (f:AV->AV) (h:Nat->Option i6) (v:AV):Prop where
 fr:∀ n,look n s1.fr=if d=some n then some v else (look n s.fr).map f
 hp:∀ i,look i s1.hp=if i∈T\/i∈ids then h i else look i s.hp
section
variable {s t s1 t1:St} {d:Option Nat} {T ids:List Nat} {f:AV->AV} {h:Nat->Option i6} {v:AV}
theorem Put.eqv (hp:Put s s1 d T ids f h v) (he:N0 s t):Put t s1 d T ids f h v :=
 ⟨λ n=>by rw [hp.fr,he.1 n],λ i=>by rw [hp.hp,he.2 i]⟩
theorem Put.det (hp:Put s s1 d T ids f h v) (cE:Put t t1 d T ids f h v) (he:N0 s t):N0 s1 t1 :=
 ⟨λ n=>by rw [hp.fr,cE.fr,he.1 n],λ i=>by rw [hp.hp,cE.hp,he.2 i]⟩
theorem Put.get (hp:Put s s1 d T ids f h v) (hf:Trim T f) {m:Nat} (hm:d≠some m):s1.get m=f (s.get m):=by
 simp only [St.get,hp.fr,if_neg hm];cases look m s.fr with
 | none=>exact (hf.plain _ rfl).symm
 | some u=>rfl
end
theorem YT {T:List Nat} {f:AV->AV} (hf:Trim T f):∀ {j:Nat} {l:AV},m0.nth j (f l)=(m0.nth j l).map f:=by
 have nope:∀ {j:Nat} {l:AV},(∀ a b,l≠.cons a b)->m0.nth j l=none:=by
  intro j l h;cases l with
  | cons a b=>exact absurd rfl (h a b)
  | _=>cases j<;>rfl
 have hn:∀ u:AV,(∀ a b,u≠.cons a b)->∀ a b,f u≠.cons a b:=by
  intro u hu a b e;cases u with
  | cons a b=>exact absurd rfl (hu a b)
  | K6 l=>rw [hf.K6] at e; cases e
  | C7 g l=>rw [hf.C7] at e; cases e
  | bx l=>rw [hf.bx] at e; cases e
  | rc g l=>rw [hf.rc] at e; cases e
  | ptr i p=>rcases hf.atom _ (rfl:(AV.ptr i p).ref=true) with h|h<;>rw [h] at e<;>cases e
  | at_ i p=>rcases hf.atom _ (rfl:(AV.at_ i p).ref=true) with h|h<;>rw [h] at e<;>cases e
  | sub i p x y=>rcases hf.atom _ (rfl:(AV.sub i p x y).ref=true) with h|h<;>rw [h] at e<;>cases e
  | _=>rw [hf.plain _ rfl] at e; cases e
 intro j
 induction j with
 | zero =>
  intro l;cases l with
  | cons a b=>rw [hf.cons]; rfl
  | _=>rw [nope (hn _ (by intro a b e; cases e)),nope (by intro a b e; cases e)]; rfl
 | succ j ih =>
  intro l;cases l with
  | cons a b=>rw [hf.cons]; exact ih
  | _=>rw [nope (hn _ (by intro a b e; cases e)),nope (by intro a b e; cases e)]; rfl
theorem yC (o:Oper):(∀ v,K2 o v=v)\/(o.guard=none/\∃ x j,o.op=.extract x j/\∀ v,K2 o v=(match v with
  | .K6 l=>(match m0.nth j l with
   | some v=>.K6 (.cons v .nil)
   | none=>.any)
  | _=>.any)):=by
 unfold K2
 split
 ·rename_i x j hg ho; exact .inr ⟨hg,x,j,ho,λ _=>rfl⟩
 ·exact .inl λ _=>rfl
theorem Ka {T:List Nat} {f:AV->AV} (hf:Trim T f) (o:Oper) (v:AV):K2 o (f v)=f (K2 o v):=by
 rcases yC o with h|⟨_,x,j,_,h⟩
 ·rw [h,h]
 ·rw [h,h]
  have dn:f .any=.any:=hf.plain _ rfl;cases v with
  | K6 l =>
   rw [hf.K6];simp only [YT hf];cases hn:m0.nth j l with
   | none=>exact dn.symm
   | some u =>
    show AV.K6 (.cons (f u) .nil)=f (.K6 (.cons u .nil));rw [hf.K6,hf.cons,hf.plain .nil rfl]
  | cons a b=>rw [hf.cons]; exact dn.symm
  | C7 g l=>rw [hf.C7]; exact dn.symm
  | bx l=>rw [hf.bx]; exact dn.symm
  | rc g l=>rw [hf.rc]; exact dn.symm
  | ptr i p=>rcases hf.atom _ (rfl:(AV.ptr i p).ref=true) with e|e<;>rw [e]<;>exact dn.symm
  | at_ i p=>rcases hf.atom _ (rfl:(AV.at_ i p).ref=true) with e|e<;>rw [e]<;>exact dn.symm
  | sub i p x y=>rcases hf.atom _ (rfl:(AV.sub i p x y).ref=true) with e|e<;>rw [e]<;>exact dn.symm
  | _=>rw [hf.plain _ rfl]; try exact dn.symm
theorem CD {o:Oper} {v:AV} {i:Nat} (h:(K2 o v).i8 i=true):v.i8 i=true:=by
 rcases yC o with e|⟨_,x,j,_,e⟩
 ·rwa [e] at h
 ·rw [e] at h
  split at h
  ·rename_i l
   split at h
   ·rename_i u hu
    have:u.i8 i=true:=by simpa [AV.i8] using h
    show l.i8 i=true;exact a91 hu this
   ·cases h
  ·cases h
def yE (o:Oper) (s t:St) (L:List Nat):Prop:=∀ m∈L,K2 o (t.get m)=K2 o (s.get m)/\∀ i,(K2 o (s.get m)).i8 i=true->t.obj i=s.obj i
theorem yE.plain {o:Oper} (h:∀ v,K2 o v=v) {s t:St} {L:List Nat} (ha:yE o s t L):BE s t L:=λ m hm=>by
 have:=ha m hm;simpa only [h] using this
theorem N0.yt {s t:St} (h:N0 s t) (o:Oper) (L:List Nat):yE o s t L:=λ m _=>⟨by rw [h.get m],λ i _=>(h.2 i).symm⟩
def Eff (o:Oper) (run:St->Option (Prop×St)) (d:Option Nat) (L T:List Nat) (s:St) (p:Prop):Prop :=
 ∃ v ids f h,Trim T f/\U1 s ids/\(∀ n∈ids,n % 1000=(d.getD 0) % 1000) /\
  (∀ i,v.i8 i=true->(∃ m∈L,(K2 o (s.get m)).i8 i=true)\/i∈ids) /\
  ∀ t,uniq t.fr->yE o s t L->U1 t ids->∃ t1,run t=some (p,t1)/\uniq t1.fr/\Put t t1 d T ids f h v
section
variable {E:Env} {ops:Array Oper} {s t:St}
theorem QG {o:Oper} {p:Prop} {s1:St} (h:Y2 E o s=some (p,s1)) {L:List Nat} (hL:∀ m,Operand.tmp m∈o.op.operands.toList->m∈L):Eff o (Y2 E o) o.dst L (l4 E o s) s p:=by
 rcases yC o with dX|⟨ig,x,j,cw,dX⟩
 rotate_left
 ·have hd:H7 E.nt o.dst=true:=by
   unfold Y2 at h;split at h
   ·cases h
   ·assumption
  have hr:∀ t,Y2 E o t=(match (match t.ev x with|.K6 l=>(match m0.nth j l with|some v=>OR.ok v t|none=>.fail "extract")|_=>.fail "extract").get with|none=>none|some (p,v,s')=>some (p,s'.put o.dst v)):=by
   intro t;unfold Y2 m0;rw [hd,cw];rfl
  have hT:l4 E o s=[]:=by unfold l4; rw [cw]
  rw [hT];rw [hr] at h;have key:∃ m l v,x=.tmp m/\Nat.beq m J4=false/\s.get m=.K6 l/\m0.nth j l=some v/\p=True:=by
   cases x with
   | tmp m =>
    cases hv:s.ev (.tmp m) with
    | K6 l =>
     rw [hv] at h;cases hn:m0.nth j l with
     | some v =>
      simp only [hn,OR.get,aAc,aAx] at h;exact ⟨m,l,v,rfl,c1v hv nofun,Cz hv nofun,hn,h.1.symm⟩
     | none=>simp only [hn,OR.get] at h; cases h
    | _ =>
     rw [hv] at h;cases h
   | const c =>
    exfalso;have:∀ l,s.ev (.const c)≠.K6 l:=by
     intro l e;simp only [St.ev] at e;unfold ofConst at e
     repeat' split at e
     all_goals cases e
    revert h;cases hv:s.ev (.const c) with
    | K6 l=>exact absurd hv (this l)
    | _=>intro h; cases h
   | global g=>cases h
   | func f=>cases h
  obtain ⟨m,l,v,rfl,sQ,hm,hn,rfl⟩:=key;have rm:m∈L:=hL m (by rw [cw]; simp [Op.operands]);have kE:K2 o (s.get m)=.K6 (.cons v .nil):=by rw [dX,hm]; simp only [hn]
  refine ⟨v,[],λ u=>u,λ _=>none,Trim.id _,by simp [U1],by simp,λ i hi=>.inl ⟨m,rm,by rw [kE]; simpa [AV.i8] using hi⟩,λ t hu ha _=>?_⟩;have e1:=(ha m rm).1;rw [kE,dX] at e1;have sk:∃ l',t.get m=.K6 l'/\m0.nth j l'=some v:=by
   split at e1
   ·rename_i l' eA
    split at e1
    ·rename_i v' fK
     cases e1;exact ⟨l',eA,fK⟩
    ·cases e1
   ·cases e1
  obtain ⟨l',f1,f2⟩:=sk;have sl:t.ev (.tmp m)=.K6 l':=Xk sQ f1;exact ⟨t.put o.dst v,by rw [hr,sl]; simp only [f2]; rfl,zB hu,⟨λ n=>by rw [X8]; simp,λ i=>by rw [xa]; simp⟩⟩
 have kF:∀ {t:St},yE o s t L->BE s t L:=λ ha=>ha.plain dX;by_cases hp:∃ a b c,o.op=.pick a b c
 ·obtain ⟨c,a,b,ho⟩:=hp
  have hd:H7 E.nt o.dst=true:=by
   unfold Y2 at h;split at h
   ·cases h
   ·assumption
  have hr:∀ t,Y2 E o t=(match t.ev c with|.val .bool g=>some (True,t.put o.dst (match g with|true=>t.ev a|false=>t.ev b))|_=>none):=by
   intro t;unfold Y2;rw [hd,ho];rfl
  have hT:l4 E o s=[]:=by unfold l4; rw [ho]
  rw [hT];rw [hr] at h;have gV:o.op.operands.toList=[c,a,b]:=by rw [ho]; rfl
  rw [gV] at hL;have key:∃ g:Bool,s.ev c=.val .bool g:=by
   split at h
   ·exact ⟨_,by assumption⟩
   ·cases h
  obtain ⟨g,hg⟩:=key;rw [hg] at h;simp only [aAc,aAx] at h;obtain ⟨rfl,rfl⟩:=h;refine ⟨(if g=true then s.ev a else s.ev b),[],λ u=>u,λ _=>none,Trim.id _,by simp [U1],by simp,?_,?_⟩
  ·intro i hi
   cases g with
   | true=>obtain ⟨m,hm,hi⟩:=BV hi; exact .inl ⟨m,hL m (by simp [<- hm]),by rw [dX]; exact hi⟩
   | false=>obtain ⟨m,hm,hi⟩:=BV hi; exact .inl ⟨m,hL m (by simp [<- hm]),by rw [dX]; exact hi⟩
  ·intro t hu ha _
   have dp:=(kF ha).agree hL;have e1:=(dp c (by simp)).1;have e2:=(dp a (by simp)).1;have e3:=(dp b (by simp)).1;refine ⟨_,by rw [hr,e1,hg,e2,e3],zB hu,⟨λ n=>by rw [X8]; cases g<;>simp,λ i=>by rw [xa]; simp⟩⟩
 ·have cE:∀ a b c,o.op≠.pick a b c:=λ a b c e=>hp ⟨a,b,c,e⟩
  have hd:H7 E.nt o.dst=true:=by
   unfold Y2 at h;split at h
   ·cases h
   ·assumption
  have hr:∀ t,Y2 E o t=(match (m0 E o t).get with|none=>none|some (p,v,s')=>some (p,s'.put o.dst v)):=by
   intro t;unfold Y2;rw [hd];cases ho:o.op<;>first|rfl|exact absurd ho (cE _ _ _)
  rw [hr] at h;split at h
  ·cases h
  ·rename_i p' v s' hg
   cases h;obtain ⟨ids,f,h,k1,k2,k3,k4,k5⟩:=Wo cE hg;refine ⟨v,ids,f,h,k1,k2,k3,?_,?_⟩
   ·intro i hi
    rcases k4 i hi with ⟨x,hx,hm⟩|hm
    ·obtain ⟨m,rfl,hm⟩:=BV hm
     exact .inl ⟨m,hL m hx,by rw [dX]; exact FK hm⟩
    ·exact .inr hm
   ·intro t hu ha hf
    obtain ⟨t1,e1,e2,e3⟩:=k5 t hu ((kF ha).agree hL) hf;exact ⟨t1.put o.dst v,by rw [hr,e1],zB e2,⟨λ n=>by rw [X8,e3.fr],λ i=>by rw [xa,e3.hp]⟩⟩
theorem JS {g:Nat} {v:AV} (hv:s.get g=v) (hn:v≠.any):N0 s (s.put (some g) v):=by
 refine ⟨λ n=>?_,λ i=>rfl⟩;rw [X8]
 split
 ·rename_i e
  cases e;simp only [St.get] at hv;cases hl:look g s.fr with
  | none=>rw [hl] at hv; exact absurd hv.symm hn
  | some w=>rw [hl] at hv; simp at hv; rw [hv]
 ·rfl
theorem xZ {o:Oper} {m:Nat} (hm:Operand.tmp m∈o.op.operands.toList):m∈looks ops o:=aBb _ (aBz.2 ⟨_,hm,rfl⟩)
theorem Tm {o:Oper} {i:Nat} (hi:i∈l4 E o s):∃ m∈looks ops o,(s.get m).i8 i=true:=by
 obtain ⟨x,hx,hm⟩:=KX hi;obtain ⟨m,rfl,hm⟩:=BV hm;exact ⟨m,xZ hx,FK hm⟩
theorem c3G {o:Oper} (h:∀ m∈looks ops o,t.get m=s.get m):l4 E o t=l4 E o s :=
 JW (λ x hx=>by
  cases x with
  | tmp m=>exact zv (h m (xZ hx))
  | _=>rfl)
theorem b8j {o:Oper} {i:Nat} (hi:i∈l4 E o s):∃ m∈looks ops o,(K2 o (s.get m)).i8 i=true:=by
 rcases yC o with h|⟨_,x,j,cw,_⟩
 ·obtain ⟨m,hm,bZ⟩:=Tm (ops:=ops) hi
  exact ⟨m,hm,by rw [h]; exact bZ⟩
 ·unfold l4 at hi; rw [cw] at hi; cases hi
theorem Tl {o:Oper} (h:∀ m∈looks ops o,K2 o (t.get m)=K2 o (s.get m)):l4 E o t=l4 E o s:=by
 rcases yC o with e|⟨_,x,j,cw,_⟩
 ·exact c3G (λ m hm=>by have:=h m hm; simpa only [e] using this)
 ·unfold l4; rw [cw]
theorem zz {o:Oper} (_hu:uniq s.fr) {p:Prop} {s1:St} (h:I0 E ops o s=some (p,s1)):Eff o (I0 E ops o) o.dst (looks ops o) (l4 E o s) s p:=by
 have hL:∀ m,Operand.tmp m∈o.op.operands.toList->m∈looks ops o:=λ m hm=>xZ hm;cases hg:o.guard with
 | none =>
  have hr:∀ t,I0 E ops o t=Y2 E o t:=λ t=>by unfold I0; rw [hg]
  rw [hr] at h;have:=QG h hL
  rwa [<- (funext hr:I0 E ops o=Y2 E o)] at this
 | some jw =>
  obtain ⟨j,want⟩:=jw;have dX:∀ v,K2 o v=v:=by
   rcases yC o with e|⟨ig,_⟩
   ·exact e
   ·rw [hg] at ig; cases ig
  have kF:∀ {t:St} {L:List Nat},yE o s t L->BE s t L:=λ ha=>ha.plain dX;cases hs:AN ops j with
  | none=>unfold I0 at h; rw [hg] at h; simp [hs] at h
  | some g =>
   have rz:g∈looks ops o:=by unfold looks; rw [hg]; simp [hs]
   have hr:∀ t,I0 E ops o t=(match t.ev (.tmp g) with
    | .raw (.tuple _)=>match H7 E.nt o.dst with
     | true=>some (True,t.put o.dst (.raw undef))
     | false=>none
    | .val .bool b=>match H7 E.nt o.dst with
     | false=>none
     | true=>match b == want with
      | true=>Y2 E o (t.put (some g) (.val .bool b))
      | false=>some (True,(t.put (some g) (.val .bool b)).put o.dst (.raw undef))
    | _=>none):=λ t=>by unfold I0; rw [hg]; dsimp only; rw [hs]; rfl
   have skip:(∀ t,uniq t.fr->t.ev (.tmp g)=s.ev (.tmp g)->∃ t1,I0 E ops o t=some (True,t1)/\uniq t1.fr/\N0 t1 (t.put o.dst (.raw undef)))->Eff o (I0 E ops o) o.dst (looks ops o) (l4 E o s) s True:=by
    intro aP;refine ⟨.raw undef,[],λ u=>u,λ i=>look i s.hp,Trim.id _,by simp [U1],by simp,λ i hi=>by simp [AV.i8] at hi,λ t kH ha _=>?_⟩;have ha:=kF ha;obtain ⟨t1,e1,e2,e3⟩:=aP t kH (zv (ha g rz).1);refine ⟨t1,e1,e2,⟨λ n=>by rw [e3.1,X8]; simp,λ i=>?_⟩⟩;rw [e3.2,xa]
    split
    ·rename_i hi
     obtain ⟨m,hm,bZ⟩:=Tm (ops:=ops) (by simpa using hi:i∈l4 E o s);exact (ha m hm).2 i bZ
    ·rfl
   rw [hr] at h;cases hv:s.ev (.tmp g) with
   | raw w =>
    rw [hv] at h;cases w with
    | tuple vs =>
     simp only at h;cases hd:H7 E.nt o.dst with
     | false=>rw [hd] at h; cases h
     | true =>
      rw [hd] at h;simp only [aAc,aAx] at h;obtain ⟨rfl,rfl⟩:=h;exact skip (λ t kH ht=>⟨_,by rw [hr,ht,hv]; simp only [hd],zB kH,N0.refl _⟩)
    | _=>cases h
   | val u b =>
    rw [hv] at h;cases u with
    | bool =>
     simp only at h;cases hd:H7 E.nt o.dst with
     | false=>rw [hd] at h; cases h
     | true =>
      rw [hd] at h;simp only at h;cases hb:(b == want) with
      | false =>
       rw [hb] at h;simp only [aAc,aAx] at h;obtain ⟨rfl,rfl⟩:=h;exact skip (λ t kH ht=>⟨_,by rw [hr,ht,hv]; simp only [hd,hb],zB (zB kH),((JS (Cz (ht.trans hv) (by simp)) (by simp)).symm.put _ _)⟩)
      | true =>
       rw [hb] at h;simp only at h;have bm:=JS (Cz hv (by simp)) (by simp);obtain ⟨v,ids,f,hh,k1,k2,k3,k4,k5⟩:=QG h hL;have tV:l4 E o (s.put (some g) (.val .bool b))=l4 E o s:=JW (λ x _=>(bm.ev x).symm);rw [tV] at k1 k5;refine ⟨v,ids,f,hh,k1,k2.eqv bm.symm,k3,?_,?_⟩
       ·intro i hi
        rcases k4 i hi with ⟨m,hm,bZ⟩|hm
        ·exact .inl ⟨m,hm,by rw [bm.get]; exact bZ⟩
        ·exact .inr hm
       ·intro t kH ha hf
        have ha:=kF ha;have ra:t.ev (.tmp g)=.val .bool b:=(zv (ha g rz).1).trans hv;have bQ:=JS (Cz ra (by simp)) (by simp);obtain ⟨t1,e1,e2,e3⟩:=k5 (t.put (some g) (.val .bool b)) (zB kH) (λ m hm=>by
         rw [<- bQ.get,<- bm.get,dX,dX];refine ⟨(ha m hm).1,λ i hi=>?_⟩;have:=(ha m hm).2 i hi;simpa [St.obj,xa] using this) (hf.eqv bQ)
        refine ⟨t1,by rw [hr,ra]; simp only [hd,hb,e1],e2,e3.eqv bQ.symm⟩
    | _=>cases h
   | _=>rw [hv] at h; cases h
theorem RW {o:Oper} (hu:uniq s.fr) (he:N0 s t) (ht:uniq t.fr) {p:Prop} {s1:St} (h:I0 E ops o s=some (p,s1)):∃ t1,I0 E ops o t=some (p,t1)/\uniq t1.fr/\N0 s1 t1:=by
 obtain ⟨v,ids,f,hh,k1,k2,k3,k4,k5⟩:=zz hu h;obtain ⟨s1',e1,_,e3⟩:=k5 s hu ((N0.refl s).yt _ _) k2;rw [h] at e1; cases e1;obtain ⟨t1,f1,f2,f3⟩:=k5 t ht (he.yt _ _) (k2.eqv he);exact ⟨t1,f1,f2,e3.det f3 he⟩
theorem R4 {o:Oper} (hu:uniq s.fr) {p:Prop} {s1:St} (h:I0 E ops o s=some (p,s1)):uniq s1.fr:=by
 obtain ⟨t1,h1,h2,_⟩:=RW hu (N0.refl s) hu h;rw [h] at h1; cases h1; exact h2
theorem Te:∀ {v:AV} {i:Nat},v.clean=true->v.i8 i=false:=by
 intro v
 induction v with
 | cons a b iha ihb =>
  intro i h;simp only [AV.clean,aAa] at h;simp [AV.i8,iha h.1,ihb h.2]
 | K6 l ih=>intro i h; exact ih h
 | C7 f l ih=>intro i h; exact ih h
 | bx l ih=>intro i h; exact ih h
 | rc f l ih=>intro i h; exact ih h
 | ptr i p=>intro i h; cases h
 | at_ i p=>intro i h; cases h
 | sub i p a b=>intro i h; cases h
 | _=>intro i h; rfl
theorem b8q {o:Oper} (hu:uniq s.fr) {p:Prop} {s1:St} (h:I0 E ops o s=some (p,s1)) {m:Nat} (hm:o.dst≠some m) (hc:(s.get m).clean=true):(s1.get m).clean=true:=by
 obtain ⟨v,ids,f,hh,k1,k2,k3,k4,k5⟩:=zz hu h;obtain ⟨s1',e1,_,e3⟩:=k5 s hu ((N0.refl s).yt _ _) k2;rw [h] at e1; cases e1;rw [e3.get k1 hm,k1.fix _ (λ i _=>Te hc)];exact hc
end
end Go.Ex
namespace Go.Ex
section
variable {E:Env} {ops:Array Oper} {s t:St}
theorem get_some {m:Nat} {v:AV} (h:look m s.fr=some v):s.get m=v:=by simp [St.get,h]
theorem Zl {m i:Nat} (h:(s.get m).i8 i=true):∃ v,look m s.fr=some v/\v.i8 i=true:=by
 simp only [St.get] at h;cases hl:look m s.fr with
 | none=>rw [hl] at h; cases h
 | some v=>rw [hl] at h; exact ⟨v,rfl,h⟩
theorem SI {x y:Oper} (h:indep ops x y=true):(∀ d,x.dst=some d->d∉looks ops y)/\(∀ d,y.dst=some d->d∉looks ops x)/\(x.dst.getD 0) % 1000≠(y.dst.getD 0) % 1000:=by
 simp only [indep,aAa,aAt,Ng] at h;obtain ⟨⟨h3,h4⟩,h5⟩:=h;refine ⟨?_,?_,λ e=>?_⟩
 ·intro d hd
  rw [hd] at h3;simp only [aAa,aAt] at h3;intro hm;have:=h3.1;simp [hm] at this
 ·intro d hd
  rw [hd] at h4;simp only [aAt] at h4;intro hm;simp [hm] at h4
 ·rw [e] at h5
  simp at h5
theorem EB {ids:List Nat} (hn:U1 s ids) {n m:Nat} (h:n∈ids):(s.get m).i8 n=false:=by
 cases hm:(s.get m).i8 n with
 | false=>rfl
 | true =>
  obtain ⟨v,hv,qW⟩:=Zl hm;rw [(hn n h).2 m v hv] at qW; cases qW
theorem XH {u:AV} (hr:u.ref=true) {i j:Nat} (h1:u.i8 i=true) (h2:u.i8 j=true):i=j:=by
 cases u<;>simp only [AV.ref] at hr<;>first|(cases hr; done)|(simp only [AV.i8] at h1 h2; exact (aAd h1).trans (aAd h2).symm)
theorem c02 {u:AV} (h:u.plain=true) {i:Nat}:u.i8 i=false:=by
 cases u<;>simp only [AV.plain] at h<;>first|rfl|(cases h; done)
theorem Trim.stay {T:List Nat} {f:AV->AV} (hf:Trim T f) {n:Nat} (hn:n∉T):∀ u:AV,u.i8 n=true->(f u).i8 n=true:=by
 refine AV.shape _ (λ u hu h=>?_) (λ u hu h=>?_) ?_ ?_ ?_ ?_ ?_
 ·rw [c02 hu] at h; cases h
 ·rw [hf.xG u hu (λ i hi=>?_)]
  ·exact h
  ·cases hm:u.i8 i with
   | false=>rfl
   | true=>exact absurd (XH hu hm h▸hi) hn
 ·intro a b ha hb h
  rw [hf.cons];simp only [AV.i8,aBo] at h ⊢;exact h.imp ha hb
 ·intro l hl h; rw [hf.K6]; exact hl h
 ·intro k l hl h; rw [hf.C7]; exact hl h
 ·intro l hl h; rw [hf.bx]; exact hl h
 ·intro k l hl h; rw [hf.rc]; exact hl h
theorem swap {x y:Oper} (hi:indep ops x y=true) (hu:uniq s.fr) (hx:∀ d,x.dst=some d->(s.get d).clean=true) {p q:Prop} {s1 s2:St} (h1:I0 E ops x s=some (p,s1)) (h2:I0 E ops y s1=some (q,s2))
  (hP:xp ops x s (l4 E x s) y (l4 E y s1)) :
  ∃ s1' s2',I0 E ops y s=some (q,s1')/\I0 E ops x s1'=some (p,s2')/\uniq s1'.fr/\uniq s2'.fr/\N0 s2' s2/\l4 E y s=l4 E y s1/\l4 E x s1'=l4 E x s /\
   (∀ m∈looks ops x,K2 x (s1'.get m)=K2 x (s.get m))/\∀ (z:Oper) m,∀ i∈l4 E x s,(K2 z (s1'.get m)).i8 i=true->(K2 z (s.get m)).i8 i=true:=by
 obtain ⟨ax,ay,gZ⟩:=SI hi;obtain ⟨P1,P2,P3⟩:=hP;have mc:=R4 hu h1;obtain ⟨v,ids,f,g,k1,k2,k3,k4,k5⟩:=zz hu h1;obtain ⟨_,e1,_,iy⟩:=k5 s hu ((N0.refl s).yt _ _) k2;rw [h1] at e1; cases e1;obtain ⟨v',ids',f',g',m1,m2,m3,m4,m5⟩:=zz mc h2;obtain ⟨_,e2,_,jr⟩:=m5 s1 mc ((N0.refl s1).yt _ _) m2;rw [h2] at e2; cases e2;have kn:∀ d,x.dst=some d->y.dst=some d->False:=λ d e1 e2=>gZ (by rw [e1,e2]);have cB:∀ m∈looks ops y,K2 y (s1.get m)=K2 y (s.get m):=by
  intro m hm;rw [iy.get k1 (λ e=>ax m e hm),Ka k1,k1.fix _ (λ i hi=>P1 m hm i hi)]
 have tT:l4 E y s=l4 E y s1:=(Tl cB).symm;have nF:∀ i∈l4 E y s1,∃ m∈looks ops y,(K2 y (s.get m)).i8 i=true:=by
  intro i hi;obtain ⟨m,hm,bZ⟩:=b8j (ops:=ops) hi;exact ⟨m,hm,by rw [<- cB m hm]; exact bZ⟩
 have d1:∀ i∈l4 E x s,i∉l4 E y s1:=by
  intro i hi hj;obtain ⟨m,hm,bZ⟩:=nF i hj;rw [P1 m hm i hi] at bZ; cases bZ
 have d2:∀ i∈ids,i∉l4 E y s1:=by
  intro i hi hj;obtain ⟨m,hm,bZ⟩:=nF i hj;have bZ:=CD bZ;rw [EB k2 hi] at bZ; cases bZ
 have d3:∀ i∈l4 E x s,i∉ids':=λ i hi hj=>P3 i hi (m3 i hj);have d4:∀ i∈ids,i∉ids':=λ i hi hj=>gZ ((k3 i hi).symm.trans (m3 i hj));have fU:∀ i,i∉l4 E x s->i∉ids->look i s1.hp=look i s.hp:=λ i h1 h2=>by rw [iy.hp,if_neg (by rintro (h|h); exact h1 h; exact h2 h)]
 have dp:yE y s1 s (looks ops y):=by
  intro m hm;refine ⟨(cB m hm).symm,λ i hi=>?_⟩;rw [cB m hm] at hi;refine (fU i (λ h=>?_) (λ h=>?_)).symm
  ·rw [P1 m hm i h] at hi; cases hi
  ·have hi:=CD hi
   rw [EB k2 h] at hi; cases hi
 have jE:U1 s ids':=by
  intro n hn;refine ⟨?_,λ m w hw=>?_⟩
  ·rw [<- fU n (λ h=>d3 n h hn) (λ h=>d4 n h hn)]; exact (m2 n hn).1
  ·by_cases hd:x.dst=some m
   ·have:=hx m hd
    rw [get_some hw] at this;exact Te this
   ·cases rW:w.i8 n with
    | false=>rfl
    | true =>
     have:=k1.stay (λ h=>d3 n h hn) w rW;have h3:=(m2 n hn).2 m (f w) (by rw [iy.fr,if_neg hd,hw]; rfl);rw [this] at h3; cases h3
 obtain ⟨s1',f1,fu,fO⟩:=m5 s hu dp jE;have iJ:∀ m∈looks ops x,K2 x (s1'.get m)=K2 x (s.get m):=by
  intro m hm;rw [fO.get m1 (λ e=>ay m e hm),Ka m1,m1.fix _ (λ i hi=>P2 m hm i hi)]
 have qz:yE x s s1' (looks ops x):=by
  intro m hm;refine ⟨iJ m hm,λ i hi=>?_⟩;show look i s1'.hp=look i s.hp;rw [fO.hp,if_neg];rintro (h|h)
  ·rw [P2 m hm i h] at hi; cases hi
  ·have hi:=CD hi
   rw [EB jE h] at hi; cases hi
 have fK:∀ i,v'.i8 i=true->i∉l4 E x s/\i∉ids:=by
  intro i hi;rcases m4 i hi with ⟨m,hm,bZ⟩|bZ
  ·rw [cB m hm] at bZ
   refine ⟨λ h=>?_,λ h=>?_⟩
   ·rw [P1 m hm i h] at bZ; cases bZ
   ·have bZ:=CD bZ
    rw [EB k2 h] at bZ; cases bZ
  ·exact ⟨λ h=>d3 i h bZ,λ h=>d4 i h bZ⟩
 have hv:∀ i,v.i8 i=true->i∉l4 E y s1:=by
  intro i hi;rcases k4 i hi with ⟨m,hm,bZ⟩|bZ
  ·exact λ h=>by rw [P2 m hm i h] at bZ; cases bZ
  ·exact d2 i bZ
 have pY:U1 s1' ids:=by
  intro n hn;refine ⟨?_,λ m w hw=>?_⟩
  ·rw [fO.hp,if_neg]
   ·exact (k2 n hn).1
   ·rintro (h|h)
    ·exact d2 n hn h
    ·exact d4 n hn h
  ·rw [fO.fr] at hw
   split at hw
   ·cases hw
    cases hm:v'.i8 n with
    | false=>rfl
    | true=>exact absurd hn (fK n hm).2
   ·cases hl:look m s.fr with
    | none=>rw [hl] at hw; cases hw
    | some u =>
     rw [hl] at hw;cases hw;cases hm:(f' u).i8 n with
     | false=>rfl
     | true=>have:=m1.i8 u hm; rw [(k2 n hn).2 m u hl] at this; cases this
 obtain ⟨s2',g1,gu,mh⟩:=k5 s1' fu qz pY;refine ⟨s1',s2',f1,g1,fu,gu,⟨λ n=>?_,λ i=>?_⟩,tT,Tl iJ,iJ,?_⟩
 ·rw [mh.fr,jr.fr,fO.fr,iy.fr]
  by_cases a:x.dst=some n
  ·rw [if_pos a,if_neg (λ b=>kn n a b),if_pos a,aBe,m1.fix v]
   intro i hi;cases hm:v.i8 i with
   | false=>rfl
   | true=>exact absurd hi (hv i hm)
  ·rw [if_neg a,if_neg a]
   by_cases b:y.dst=some n
   ·rw [if_pos b,if_pos b,aBe,k1.fix v']
    intro i hi;cases hm:v'.i8 i with
    | false=>rfl
    | true=>exact absurd hi (fK i hm).1
   ·rw [if_neg b,if_neg b,aDx,aDx]
    congr 1
    funext u
    exact k1.comm m1 u
 ·rw [mh.hp,jr.hp,fO.hp,iy.hp]
  by_cases a:i∈l4 E x s\/i∈ids
  ·rw [if_pos a,if_neg,if_pos a]
   rintro (b|b)
   ·rcases a with a|a
    ·exact d1 i a b
    ·exact d2 i a b
   ·rcases a with a|a
    ·exact d3 i a b
    ·exact d4 i a b
  ·rw [if_neg a,if_neg a]
 ·intro z m i hi hm
  by_cases b:y.dst=some m
  ·have:s1'.get m=v':=get_some (by rw [fO.fr,if_pos b])
   rw [this] at hm;exact absurd hi (fK i (CD hm)).1
  ·rw [fO.get m1 b,Ka m1] at hm
   exact m1.i8 _ hm
end
end Go.Ex
namespace Go.Ex
section
variable {E:Env} {ops:Array Oper} {M:Nat->Nat} {s t:St}
def rem (ops:Array Oper) (l:List Nat):List Oper:=l.filterMap λ i=>ops[i]?
theorem ED {i:Nat} {o:Oper} {l:List Nat} (h:ops[i]?=some o):rem ops (i::l)=o::rem ops l:=by simp [rem,h]
theorem BX {l m:List Nat}:rem ops (l++m)=rem ops l++rem ops m:=by simp [rem,aDa]
def N9 (s:St) (l:List Oper):Prop:=∀ o∈l,∀ d,o.dst=some d->(s.get d).clean=true
def P6:List Oper->Prop
 | []=>True
 | o::l=>(∀ d,o.dst=some d->∀ x∈l,x.dst≠some d)/\P6 l
theorem N9.sub {l l':List Oper} (h:N9 s l) (hs:∀ o∈l',o∈l):N9 s l':=λ o ho=>h o (hs o ho)
def nl (ops:Array Oper) (l:List Nat):List Nat:=l.filter (λ j=>!zn ops j)
theorem Nt {l m:List Nat}:nl ops (l++m)=nl ops l++nl ops m:=by simp [nl]
theorem WY {l:List Nat} {i:Nat} (hi:i<ops.size) (h:∀ j∈l,j<i) (hm:∀ j∈l,((E0 ops.toList []).getD i 0).testBit j=false):nl ops l=l :=
 aDe.2 (λ j hj=>by
  cases e:zn ops j with
  | false=>rfl
  | true =>
   unfold zn at e;rw [aBh] at e;have:=e i (aCo.2 hi);rw [hm j hj,show Nat.blt j i=true by rw [aDf]; exact h j hj] at this;cases this)
theorem b8D {j:Nat} (h:zn ops j=false):j+1<ops.size:=by
 rcases aEd (j+1) ops.size with h1|h1
 ·exact h1
 ·exfalso
  have:zn ops j=true:=by
   unfold zn;rw [aBh];intro i hi;have:=aCo.1 hi;have:Nat.blt j i=false:=by
    cases e:Nat.blt j i with
    | false=>rfl
    | true=>rw [aDf] at e; omega
   rw [this]; rfl
  rw [this] at h; cases h
theorem WZ {l:List Nat}:∀ o∈rem ops (nl ops l),o∈rem ops l:=λ o ho=>by
 obtain ⟨j,h1,h2⟩:=aBz.1 ho;exact aBz.2 ⟨j,(aBt.1 h1).1,h2⟩
theorem N9.step {o:Oper} {l:List Oper} (hu:uniq s.fr) (hc:N9 s l) (hd:∀ x∈l,∀ d,x.dst=some d->o.dst≠some d) {p:Prop} {s1:St} (h:I0 E ops o s=some (p,s1)):N9 s1 l :=
 λ x hx d gg=>b8q hu h (hd x hx d gg) (hc x hx d gg)
def Vv (E:Env) (ops:Array Oper) (acc bK:List (Nat×St)):Prop :=
 ∀ e'∈bK,∃ e∈acc,e.1=e'.1/\∀ x,ops[e.1]?=some x->(∀ m∈looks ops x,K2 x (e'.2.get m)=K2 x (e.2.get m))/\l4 E x e'.2=l4 E x e.2/\∀ (z:Oper) m,∀ k∈l4 E x e.2,(K2 z (e'.2.get m)).i8 k=true->(K2 z (e.2.get m)).i8 k=true
theorem xp.zQ {x:Oper} {sx sx':St} {y:Oper} {Ty Ty':List Nat} (h:xp ops x sx (l4 E x sx) y Ty) (h1:∀ m∈looks ops x,K2 x (sx'.get m)=K2 x (sx.get m)) (h2:l4 E x sx'=l4 E x sx) (h3:∀ (z:Oper) m,∀ k∈l4 E x sx,(K2 z (sx'.get m)).i8 k=true->(K2 z (sx.get m)).i8 k=true) (hT:Ty'=Ty) :
  xp ops x sx' (l4 E x sx') y Ty':=by
 subst hT;obtain ⟨P1,P2,P3⟩:=h;rw [h2];refine ⟨λ m hm i hi=>?_,λ m hm i hi=>by rw [h1 m hm]; exact P2 m hm i hi,P3⟩;cases hh:(K2 y (sx'.get m)).i8 i with
 | false=>rfl
 | true=>have:=h3 y m i hi hh; rw [P1 m hm i hi] at this; cases this
theorem Sg {o:Oper} (h:N0 s t):l4 E o t=l4 E o s:=JW (λ x _=>(h.ev x).symm)
theorem KT:∀ {l:List Nat} {acc bK:List (Nat×St)} {s t s':St},Vv E ops acc bK->uniq s.fr->N0 s t->uniq t.fr->vE E ops M acc l s s'->∃ t',vE E ops M bK l t t'/\N0 s' t'
 | [],acc,bK,s,t,s',_,_,he,_,h=>⟨t,rfl,by rw [<- show s=s' from h]; exact he⟩
 | i::l,acc,bK,s,t,s',hg,hu,he,ht,⟨o,ho,hc,p,s1,h1,h2,h3⟩=>by
  obtain ⟨t1,k1,k2,k3⟩:=RW hu he ht h1;obtain ⟨t',m1,m2⟩:=KT (acc:=(i,s)::acc) (bK:=(i,t)::bK) (λ e' eD=>by
   rcases aAp.1 eD with rfl|eD
   ·exact ⟨(i,s),by simp,rfl,λ x _=>⟨λ m _=>by show K2 x (t.get m)=K2 x (s.get m); rw [he.get m],Sg he,λ z m k _ hm=>by have hm:(K2 z (t.get m)).i8 k=true:=hm; rw [<- he.get m] at hm; exact hm⟩⟩
   ·obtain ⟨e,h4,h5,h6⟩:=hg e' eD; exact ⟨e,by simp [h4],h5,h6⟩) (R4 hu h1) k3 k2 h3
  refine ⟨t',⟨o,ho,λ e' eD=>?_,p,t1,k1,h2,m1⟩,m2⟩;obtain ⟨e,h4,h5,h6⟩:=hg e' eD;rw [<- h5];rcases hc e h4 with h|⟨x,hx,hP⟩
  ·exact .inl h
  ·obtain ⟨g1,g2,g3⟩:=h6 x hx
   exact .inr ⟨x,hx,hP.zQ g1 g2 g3 (Sg he)⟩
theorem Eb {i:Nat} {o:Oper} (ho:ops[i]?=some o) {post:List Nat}:∀ {pre:List Nat} {acc:List (Nat×St)} {s s':St},P6 (rem ops (pre++i::post))->(∀ j∈pre,(M i).testBit j=false/\∀ x,ops[j]?=some x->indep ops x o=true)->uniq s.fr->N9 s (rem ops pre) ->
  vE E ops M acc (pre++i::post) s s' ->
  ∃ p s1 s2,I0 E ops o s=some (p,s1)/\p/\vE E ops M acc (pre++post) s1 s2/\N0 s2 s'/\∀ e∈acc,(M i).testBit e.1=true\/∃ x,ops[e.1]?=some x/\xp ops x e.2 (l4 E x e.2) o (l4 E o s)
 | [],acc,s,s',_,_,hu,_,⟨o',eV,hc,p,s1,h1,h2,h3⟩=>by
  rw [ho] at eV; cases eV;obtain ⟨t',m1,m2⟩:=KT (acc:=(i,s)::acc) (bK:=acc) (λ e he=>⟨e,by simp [he],rfl,λ x _=>⟨λ _ _=>rfl,rfl,λ _ _ _ _ h=>h⟩⟩) (R4 hu h1) (N0.refl s1) (R4 hu h1) h3;exact ⟨p,s1,t',h1,h2,m1,m2.symm,hc⟩
 | j::pre,acc,s,s',fg,cT,hu,cD,⟨x,hx,hc,p,s1,h1,h2,h3⟩=>by
  have mc:=R4 hu h1;have er:rem ops (j::pre++i::post)=x::rem ops (pre++i::post):=ED hx;rw [er] at fg;rw [ED hx] at cD;have nm:∀ y∈rem ops pre,∀ d,y.dst=some d->x.dst≠some d:=λ y hy d rS gg=>fg.1 d gg y (by rw [BX]; exact aBb _ hy) rS;have ql:N9 s1 (rem ops pre):=N9.step hu (λ y hy=>cD y (by simp [hy])) nm h1;obtain ⟨q,sa,sb,k1,k2,k3,k4,k5⟩:=Eb ho (pre:=pre) (acc:=(j,s)::acc) fg.2 (λ y hy=>cT y (by simp [hy])) mc ql h3;obtain ⟨cF,fm⟩:=cT j (by simp);have hP:xp ops x s (l4 E x s) o (l4 E o s1):=by
   rcases k5 (j,s) (by simp) with h|⟨x',eg,hP⟩
   ·rw [cF] at h; cases h
   ·have eg:ops[j]?=some x':=eg
    rw [hx] at eg; cases eg; exact hP
  obtain ⟨s1',s2',m1,m2,m3,m4,m5,m6,m7,m8,m9⟩:=swap (fm x hx) hu (λ d hd=>cD x (by simp) d hd) h1 k1 hP;obtain ⟨t',n1,n2⟩:=KT (acc:=(j,s)::acc) (bK:=(j,s1')::acc) (λ e' eD=>by
   rcases aAp.1 eD with rfl|eD
   ·refine ⟨(j,s),by simp,rfl,λ y hy=>?_⟩
    have hy:ops[j]?=some y:=hy;rw [hx] at hy; cases hy;exact ⟨m8,m7,m9⟩
   ·exact ⟨e',by simp [eD],rfl,λ y _=>⟨λ _ _=>rfl,rfl,λ _ _ _ _ h=>h⟩⟩) (R4 mc k1) m5.symm m4 k3
  refine ⟨q,s1',t',m1,k2,⟨x,hx,λ e he=>?_,p,s2',m2,h2,n1⟩,n2.symm.trans k4,λ e he=>?_⟩
  ·rcases hc e he with h|⟨y,hy,hP⟩
   ·exact .inl h
   ·exact .inr ⟨y,hy,by rw [m7]; exact hP⟩
  ·rcases k5 e (by simp [he]) with h|⟨y,hy,hP⟩
   ·exact .inl h
   ·exact .inr ⟨y,hy,by rw [m6]; exact hP⟩
end
end Go.Ex
namespace Go.Ex
section
variable {E:Env} {ops:Array Oper} {B:E6} {S:Nat->Prop} {ι:Ix} {s:St} {a:Act} {w:World}
def idxs (n:Nat) (listed:Array Bool):List Nat:=(List.range n).filter λ i=>!listed.getD i true
theorem F3 {n i:Nat} {listed:Array Bool}:i∈idxs n listed↔i<n/\listed.getD i true=false:=by
 simp [idxs]
theorem CQ (n:Nat) (listed:Array Bool):(idxs n listed).Pairwise (·<·):=List.Pairwise.filter _ List.pairwise_lt_range
theorem Ci {n i:Nat} {listed:Array Bool} (hs:listed.size=n) (hi:i<n):idxs n (listed.setIfInBounds i true)=(idxs n listed).filter (λ k=>!(k == i)):=by
 unfold idxs;rw [List.filter_filter];refine aGe (λ k hk=>?_);by_cases e:k=i
 ·subst e
  have:k<listed.size:=by omega
  simp [this]
 ·have:(listed.setIfInBounds i true).getD k true=listed.getD k true:=getD_set_ne true (Ne.symm e)
  rw [this];simp [e]
theorem Lh {n i:Nat} {listed:Array Bool} (hi:i∈idxs n listed):∃ pre post,idxs n listed=pre++i::post/\(∀ j∈pre,j<i)/\(idxs n listed).filter (λ k=>!(k == i))=pre++post:=by
 obtain ⟨pre,post,e⟩:=List.append_of_mem hi;have hp:=CQ n listed;rw [e,aHo] at hp;obtain ⟨h1,h2,h3⟩:=hp;have bf:∀ j∈pre,j<i:=λ j hj=>h3 j hj i (by simp);have fp:∀ j∈post,i<j:=λ j hj=>(aEe.1 h2).1 j hj;refine ⟨pre,post,e,bf,?_⟩;rw [e,aDh,aDg];simp only [beq_self_eq_true,aGb,aCk,if_false];rw [aDe.2 (λ j hj=>by have:=bf j hj; simp; omega),aDe.2 (λ j hj=>by have:=fp j hj; simp; omega)]
theorem a49 (h:wW ops=true):∀ i o,ops[i]?=some o->(∀ e∈o.after,Region.binds .any e=true->e.on<i) /\
  (∀ j,j<ops.size->((E0 ops.toList []).getD i 0).testBit j=true->∃ e∈o.after,Region.binds .any e=true/\(e.on=j\/((E0 ops.toList []).getD e.on 0).testBit j=true)) /\
  (∀ j x,j<i->ops[j]?=some x->((E0 ops.toList []).getD i 0).testBit j=true\/indep ops x o=true):=by
 intro i o ho;have hi:i<ops.toList.length:=by
  have:=(aAo.1 ho).1;simpa using this
 simp only [wW,aBh,aCo] at h;have h1:=h i hi;have hl:ops.toList[i]?=some o:=by simpa using ho
 rw [hl] at h1;simp only [aAa,aBh,aCo] at h1;obtain ⟨⟨k1,k2⟩,k3⟩:=h1;refine ⟨?_,?_,?_⟩
 ·intro e he hb
  simp only [MA,aBh] at k1;have:=k1 e (by simpa using he);rw [hb] at this;simpa [aDf] using this
 ·intro j hj hm
  simp only [NB,aBh,aCo] at k2;have:=k2 j (by simpa using hj);rw [hm] at this;simp only [aGb,Bool.false_or,aFn,aAa,aBo] at this;obtain ⟨e,he,hb,h3⟩:=this;exact ⟨e,by simpa using he,hb,h3.imp aAd id⟩
 ·intro j x hj hx
  have:=k3 j hj;have eg:ops.toList[j]?=some x:=by simpa using hx
  rw [eg] at this;simpa using this
def zl (ops:Array Oper) (listed:Array Bool):Prop:=∀ k o,ops[k]?=some o->listed.getD k true=true->∀ e∈o.after,Region.binds .any e=true->listed.getD e.on false=true
theorem V8 {listed:Array Bool} {k:Nat} (h:listed.getD k false=true):listed.getD k true=true:=by
 rcases aEd k listed.size with h'|h'
 ·simp [h'] at h ⊢; exact h
 ·simp [aCf h'] at h
theorem Fl {M:Nat->Nat} (hM:∀ i o,ops[i]?=some o->(∀ e∈o.after,Region.binds .any e=true->e.on<i)/\(∀ j,j<ops.size->(M i).testBit j=true->∃ e∈o.after,Region.binds .any e=true/\(e.on=j\/(M e.on).testBit j=true)))
  {listed:Array Bool} (hc:zl ops listed):∀ (i:Nat) (o:Oper),ops[i]?=some o->(∀ e∈o.after,Region.binds .any e=true->listed.getD e.on false=true)->∀ j,j<ops.size->(M i).testBit j=true->listed.getD j false=true:=by
 intro i
 induction i using Nat.strongRecOn with
 | _ i ih =>
  intro o ho hp j hj hm;obtain ⟨e,he,hb,h3⟩:=(hM i o ho).2 j hj hm;have bf:=(hM i o ho).1 e he hb;rcases h3 with rfl|h3
  ·exact hp e he hb
  ·have hi:i<ops.size:=(aAo.1 ho).1
   have oi:ops[e.on]?=some (ops[e.on]'(by omega)):=aBy (by omega);exact ih e.on bf _ oi (hc e.on _ oi (V8 (hp e he hb))) j hj h3
theorem TF (hE:D3 E B) (hn:B.n=E.nt) (hd:wW ops=true) {Q:Exit->Act->World->Prop} {s0:St} (hQ:∀ S ι a w,RS B S ι s0 a w->Q .normal a w) :
  ∀ (fuel:Nat) (listed:Array Bool) (S:Nat->Prop) (ι:Ix) (s s':St) (a:Act) (w:World),listed.size=ops.size->(idxs ops.size listed).length=fuel->zl ops listed->P6 (rem ops (idxs ops.size listed))->uniq s.fr->N9 s (rem ops (nl ops (idxs ops.size listed))) ->
   vE E ops (λ i=>(E0 ops.toList []).getD i 0) [] (idxs ops.size listed) s s'->N0 s' s0->RS B S ι s a w->wpAny E.P .any ops Q fuel listed a w:=by
 have hM:=a49 hd;have Ed:∀ {S:Nat->Prop} {ι:Ix} {s t:St} {a:Act} {w:World},N0 s t->RS B S ι s a w->RS B S ι t a w:=by
  intro S ι s t a w he h;have dv:∀ {v:AV} {vs:List Value},VX w.heap S ι s.hp v vs->VX w.heap S ι t.hp v vs:=by
   intro v vs hv;exact VX.other (λ i _=>(he.2 i).symm) (λ i _=>F0.refl ι i) hv
  exact ⟨⟨h.hs.os,h.hs.tape,h.hs.out,h.hs.size,h.hs.frame,h.hs.slt,h.hs.s0,h.hs.s1,λ i e hi=>h.hs.ob i e ((he.2 i).trans hi),λ i e hi=>h.hs.bl i e ((he.2 i).trans hi),λ i j ei ej hi hj=>h.hs.dj i j ei ej ((he.2 i).trans hi) ((he.2 j).trans hj),λ q hq=>by obtain ⟨r1,⟨e,r2⟩,r3⟩:=h.hs.pin q hq; exact ⟨r1,⟨e,(he.2 q.1).symm.trans r2⟩,r3⟩⟩,h.dfr,h.sz,
   λ m v hv=>dv (h.fr m v ((he.1 m).trans hv))⟩
 intro fuel
 induction fuel with
 | zero =>
  intro listed S ι s s' a w aW hlen cD fg hu fC aP he cn;have fQ:idxs ops.size listed=[]:=aCj.1 hlen;rw [fQ] at aP;have oS:s=s':=aP;subst oS;refine ⟨?_,hQ S ι a w (Ed he cn)⟩;rw [aDl];intro i hi;obtain ⟨h1,o,h2,_⟩:=mem_ready.1 hi;have:i∈idxs ops.size listed:=F3.2 ⟨(aAo.1 h2).1,h1⟩;rw [fQ] at this;cases this
 | succ fuel ih =>
  intro listed S ι s s' a w aW hlen cD fg hu fC aP he cn;refine ⟨λ hr=>?_,λ i hi=>?_⟩
  ·exfalso
   cases kY:idxs ops.size listed with
   | nil=>rw [kY] at hlen; cases hlen
   | cons i l =>
    have bn:i∈idxs ops.size listed:=by rw [kY]; simp
    obtain ⟨h1,h2⟩:=F3.1 bn;have ho:ops[i]?=some ops[i]:=aBy h1;have:i∈Region.ready .any ops listed:=by
     refine mem_ready.2 ⟨h2,ops[i],ho,λ e he hb=>?_⟩;have bf:=(hM i _ ho).1 e he hb;cases hle:listed.getD e.on true with
     | true =>
      have:e.on<listed.size:=by omega
      simp [this] at hle ⊢; exact hle
     | false =>
      exfalso;have jZ:e.on∈idxs ops.size listed:=F3.2 ⟨by omega,hle⟩;have hs:=CQ ops.size listed;rw [kY] at hs jZ;rcases aAp.1 jZ with e1|e1
      ·omega
      ·have:=(aEe.1 hs).1 _ e1; omega
    rw [hr] at this;cases this
  ·obtain ⟨h1,o,ho,bc⟩:=mem_ready.1 hi
   have cT:i<ops.size:=(aAo.1 ho).1;have bn:i∈idxs ops.size listed:=F3.2 ⟨cT,h1⟩;obtain ⟨pre,post,e1,bf,e2⟩:=Lh bn;have er:rem ops (pre++i::post)=rem ops pre++o::rem ops post:=by simp [rem,aDa,ho]
   have er2:rem ops (pre++post)=rem ops pre++rem ops post:=by simp [rem,aDa]
   rw [e1] at fg fC aP;have fm:∀ j∈pre,((E0 ops.toList []).getD i 0).testBit j=false/\∀ x,ops[j]?=some x->indep ops x o=true:=by
    intro j hj;have gj:((E0 ops.toList []).getD i 0).testBit j=false:=by
     cases hm:((E0 ops.toList []).getD i 0).testBit j with
     | false=>rfl
     | true =>
      exfalso;have iZ:=Fl (M:=λ i=>(E0 ops.toList []).getD i 0) (λ i o ho=>⟨(hM i o ho).1,(hM i o ho).2.1⟩) cD i o ho bc j (by have:=bf j hj; omega) hm;have:j∈idxs ops.size listed:=by rw [e1]; simp [hj]
      have:=(F3.1 this).2;rw [V8 iZ] at this;cases this
    refine ⟨gj,λ x hx=>?_⟩;rcases (hM i o ho).2.2 j x (bf j hj) hx with hm|hm
    ·rw [gj] at hm; cases hm
    ·exact hm
   have qm:N9 s (rem ops (nl ops (pre++post))):=fC.sub (λ y hy=>by
    rw [Nt,BX] at hy ⊢;rcases aAi.1 hy with hy|hy
    ·exact aBb _ hy
    ·refine aBr _ ?_
     obtain ⟨j,j1,j2⟩:=aBz.1 hy;obtain ⟨j3,j4⟩:=aBt.1 j1;exact aBz.2 ⟨j,aBt.2 ⟨aBd _ j3,j4⟩,j2⟩)
   obtain ⟨p,s1,s2,k1,k2,k3,k4,_⟩:=Eb ho fg fm hu (fC.sub (λ y hy=>by
    rw [Nt,BX,WY cT bf (λ j hj=>(fm j hj).1)]; exact aBb _ hy)) aP
   rw [er] at fg;have aK:=(Ci aW cT).trans e2;have gH:P6 (rem ops pre++rem ops post)/\∀ x∈rem ops pre++rem ops post,∀ d,x.dst=some d->o.dst≠some d:=by
    have:∀ {A C:List Oper},P6 (A++o::C)->P6 (A++C)/\∀ x∈A++C,∀ d,x.dst=some d->o.dst≠some d:=by
     intro A
     induction A with
     | nil=>intro C h; exact ⟨h.2,λ x hx d gg gW=>h.1 d gW x hx gg⟩
     | cons y A ih =>
      intro C h;obtain ⟨m1,m2⟩:=ih h.2;refine ⟨⟨λ d hd x hx=>h.1 d hd x (by simp at hx ⊢; rcases hx with hx|hx<;>simp [hx]),m1⟩,λ x hx d gg gW=>?_⟩;rcases aAp.1 hx with rfl|hx
      ·exact h.1 d gg o (by simp) gW
      ·exact m2 x hx d gg gW
    exact this fg
   have eZ:=LD hE hn cn (ops:=ops) o (k:=λ x=>Tree.cut .skip [] x) (L:=λ _ _ x=>x=s1) (Rt:=λ _=>True) (Ck.2 ⟨p,s1,k1,k2,rfl⟩)
    (next:=wpAny E.P .any ops Q fuel (listed.setIfInBounds i true)) (Q:=Q) (λ S' ι' x a' w' hx kC=>by
     have kC:x=s1:=kC;subst kC;refine ih (listed.setIfInBounds i true) S' ι' x s2 a' w' (by simp [aW]) ?_ ?_ ?_ (R4 hu k1) ?_ ?_ (k4.trans he) hx
     ·rw [aK]; rw [e1] at hlen; simp at hlen ⊢; omega
     ·intro k y hy hk e' eD cS
      by_cases gC:k=i
      ·subst gC
       rw [ho] at hy; cases hy;exact getD_set_true (bc e' eD cS)
      ·rw [getD_set_ne true (Ne.symm gC)] at hk
       exact getD_set_true (cD k y hy hk e' eD cS)
     ·rw [aK,er2]; exact gH.1
     ·rw [aK]
      exact N9.step hu qm (λ y hy=>gH.2 y (by rw [<- er2]; exact WZ y hy)) k1
     ·rw [aK]; exact k3)
   unfold wpOp;rw [ho];simp only
   split
   ·rename_i hw; rw [if_pos hw] at eZ; exact .inl eZ
   ·rename_i hw; rw [if_neg hw] at eZ; exact eZ
theorem filterMap_some {α β:Type _} {f:α->Option β} {g:α->β}:∀ {l:List α},(∀ i∈l,f i=some (g i))->l.filterMap f=l.map g
 | [],_=>rfl
 | x::l,h=>by rw [List.filterMap_cons,h x (by simp)]; simp [filterMap_some (l:=l) (λ i hi=>h i (by simp [hi]))]
theorem Eo:rem ops (idxs ops.size (Array.replicate ops.size false))=ops.toList:=by
 have:idxs ops.size (Array.replicate ops.size false)=List.range ops.size:=by
  unfold idxs;refine aDe.2 (λ i hi=>?_);have:i<ops.size:=aCo.1 hi;simp [this]
 rw [this];unfold rem;apply aDu;intro i;have e:(List.range ops.size).filterMap (λ i=>ops[i]?)=(List.range ops.size).map (λ i=>ops.getD i default):=filterMap_some (λ i hi=>by
  have:i<ops.size:=aCo.1 hi;simp [this])
 rw [e];by_cases hi:i<ops.size
 ·simp [hi]
 ·simp [hi]
theorem Cs:∀ {l:List Oper},Cx (wD l)=true->P6 l
 | [],_=>trivial
 | o::l,h=>by
  cases hd:o.dst with
  | none =>
   have:wD (o::l)=wD l:=by simp [wD,hd]
   rw [this] at h;exact ⟨λ d dP=>(by rw [hd] at dP; cases dP),Cs h⟩
  | some d =>
   have:wD (o::l)=d::wD l:=by simp [wD,hd]
   rw [this] at h;simp only [Cx,aAa,aAt] at h;refine ⟨λ d' dP x hx gg=>?_,Cs h.2⟩;rw [hd] at dP;cases dP;have:d∈wD l:=aBz.2 ⟨x,hx,gg⟩;have h1:=h.1;simp [this] at h1
theorem yF:idxs ops.size (Array.replicate ops.size false)=List.range ops.size:=by
 unfold idxs;refine aDe.2 (λ i hi=>?_);have:i<ops.size:=aCo.1 hi;simp [this]
theorem ZD {o:Oper} {l:List Nat} (ho:o∈rem ops (nl ops l)) {d:Nat} (hd:o.dst=some d):d∈wD ops.toList.dropLast:=by
 obtain ⟨j,j1,j2⟩:=aBz.1 ho;have j4:j+1<ops.size:=b8D (by simpa using (aBt.1 j1).2);refine aBz.2 ⟨o,aEu (i:=j) ?_,hd⟩;rw [aHf,if_pos (by simp; omega)];simpa using j2
theorem b6v (hE:D3 E B) (hn:B.n=E.nt) {id:Nat} (hd:(wW ops && BU ops s && E.P.follows .mixedOrders)=true) {Q:Exit->Act->World->Prop} {s':St} (hr:vE E ops (λ i=>(E0 ops.toList []).getD i 0) [] (List.range' 0 ops.toList.length) s s')
  (hQ:∀ S ι a w,RS B S ι s' a w->Q .normal a w) (h:RS B S ι s a w):(Code.region id ops true).wp E.P Q a w:=by
 simp only [aAa,BU,aBh] at hd;obtain ⟨⟨h1,⟨h2,h3⟩,h4⟩,h5⟩:=hd;refine wp_region_any h5 ?_;have hlen:(idxs ops.size (Array.replicate ops.size false)).length=ops.size:=by
  rw [yF]; simp
 refine TF hE hn h1 hQ ops.size _ S ι s s' a w.drew (by simp) hlen ?_ ?_ (s9 h2) ?_ ?_ (N0.refl _) (h.vn F2.nil D0.drew)
 ·intro k o hk hl
  have:k<ops.size:=(aAo.1 hk).1;simp [this] at hl
 ·rw [Eo]; exact Cs h3
 ·intro o ho d hd
  exact h4 d (ZD ho hd)
 ·rw [yF,aEs]
  simpa using hr
theorem b45 (hE:D3 E B) (hn:B.n=E.nt) {id:Nat} (hd:(wW ops && JI ops s && E.P.follows .mixedOrders)=true) {Q:Exit->Act->World->Prop} {s':St} (hr:vE E ops (λ i=>(E0 ops.toList []).getD i 0) [] (List.range' 0 ops.toList.length) s s')
  (hQ:∀ S ι a w,RS B S ι s' a w->Q .normal a w) (h:RS B S ι s a w):(Code.region id ops true).wp E.P Q a w:=by
 simp only [aAa,JI,aBh,aCo] at hd;obtain ⟨⟨h1,⟨h2,h3⟩,h4⟩,h5⟩:=hd;refine wp_region_any h5 ?_;have hlen:(idxs ops.size (Array.replicate ops.size false)).length=ops.size:=by
  rw [yF]; simp
 refine TF hE hn h1 hQ ops.size _ S ι s s' a w.drew (by simp) hlen ?_ ?_ (s9 h2) ?_ ?_ (N0.refl _) (h.vn F2.nil D0.drew)
 ·intro k o hk hl
  have:k<ops.size:=(aAo.1 hk).1;simp [this] at hl
 ·rw [Eo]; exact Cs h3
 ·intro o ho d hd
  obtain ⟨j,j1,j2⟩:=aBz.1 ho;have j3:=(aBt.1 j1).2;have hj:j<ops.size:=(aAo.1 j2).1;have:=h4 j hj;simp only [aAt] at j3;simp only [j2,hd,j3,Bool.false_or] at this;exact this
 ·rw [yF,aEs]
  simpa using hr
theorem RZ {M:List Nat} {k:St->Tree (E.rs++E8 E.ps)} {L:Code->List Item->St->Prop} {R:DL (E.rs++E8 E.ps)->Prop}:∀ {l:List Oper} {n:Nat} {s:St} {acc:List Met} {bK:List (Nat×St)},ops.toList.drop n=l ->
  (∀ e∈bK,∃ m∈acc,m.i=e.1/\ops[e.1]?=some m.o/\m.s=e.2/\m.T=l4 E m.o e.2)->(Dp E ops M n l s acc k).holds L R ->
  ∃ s',vE E ops (λ i=>M.getD i 0) bK (List.range' n l.length) s s'/\(k s').holds L R
 | [],n,s,acc,bK,_,_,h=>⟨s,rfl,h⟩
 | o::l,n,s,acc,bK,hl,ha,h=>by
  obtain ⟨ho,eA,_⟩:=Cy hl;simp only [Dp] at h;split at h
  ·exact h.elim
  ·rename_i bD
   obtain ⟨p,s1,h1,h2,h3⟩:=Ck.1 h;obtain ⟨s',k1,k2⟩:=RZ (bK:=(n,s)::bK) eA (λ e he=>by
    rcases aAp.1 he with rfl|he
    ·exact ⟨_,aBp ..,rfl,ho,rfl,rfl⟩
    ·obtain ⟨m,hm,r⟩:=ha e he; exact ⟨m,aBd _ hm,r⟩) h3
   refine ⟨s',⟨o,ho,λ e he=>?_,p,s1,h1,h2,k1⟩,k2⟩;obtain ⟨m,hm,m1,m2,m3,m4⟩:=ha e he;have:=(aBh.1 bD) m hm;simp only [aBo] at this;rcases this with this|this
   ·exact .inl (by rw [<- m1]; exact this)
   ·have hp:=Jn this
    rw [m3,m4] at hp;exact .inr ⟨m.o,m2,hp⟩
end
end Go.Ex
