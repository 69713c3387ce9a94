import Derived.Test.YtijlnmgondibnaaGreatDoorExK6
import Derived.Orders
set_option linter.unusedVariables false
set_option linter.unusedSimpArgs false
set_option linter.unusedSectionVars false
namespace Go.Ex
section
variable {E:Env} {s t:St}
theorem KG {o:Oper} {i:Nat} (h:i∈l4 E o s):∃ x∈o.op.operands.toList,(s.ev x).i8 i=true:=by
 have parts:∀ {T:TypeId} {ps:Array (Nat×Operand)},i∈(s.J6 (ps.toList.map (·.2))).G8->∃ x∈ps.toList.map (·.2),(s.ev x).i8 i=true:=by
  intro T ps h;obtain ⟨x,hx,hm⟩:=Z8 (I3.1 h);exact ⟨x,by simpa using hx,hm⟩
 unfold l4 at h;cases ho:o.op with
 | store T a x =>
  rw [ho] at h;simp only [List.mem_append,I3] at h;rcases h with h|h
  ·exact ⟨a,by simp [Op.operands],h⟩
  ·exact ⟨x,by simp [Op.operands],h⟩
 | box T x=>rw [ho] at h; exact ⟨x,by simp [Op.operands],I3.1 h⟩
 | mapUpdate T m x y=>rw [ho] at h; exact ⟨m,by simp [Op.operands],I3.1 h⟩
 | build T ps=>rw [ho] at h; simp only [Op.operands]; exact parts (T:=T) h
 | buildSlice T n ps=>rw [ho] at h; simp only [Op.operands]; exact parts (T:=T) h
 | call c =>
  rw [ho] at h;have cv:∀ x∈c.args.toList,x∈(Op.call c).operands.toList:=λ x hx=>by simp only [Op.operands,Call.operands]; simp at hx ⊢; first|exact .inr hx|exact .inl hx
  simp only at h;split at h
  ·rename_i f hc
   split at h
   ·rename_i g caps hg
    split at h
    ·split at h
     ·cases h
     ·rcases Ed (I3.1 h) with h|h
      ·obtain ⟨x,hx,hm⟩:=Z8 h
       exact ⟨x,cv x hx,hm⟩
      ·exact ⟨f,by simp [Op.operands,Call.operands,hc],by rw [hg]; exact h⟩
    ·cases h
   ·split at h
    ·split at h
     ·cases h
     ·rcases Ed (I3.1 h) with h|h
      ·obtain ⟨x,hx,hm⟩:=Z8 h
       exact ⟨x,cv x hx,hm⟩
      ·cases h
    ·cases h
   ·split at h
    ·split at h
     ·cases h
     ·rcases Ed (I3.1 h) with h|h
      ·obtain ⟨x,hx,hm⟩:=Z8 h
       exact ⟨x,cv x hx,hm⟩
      ·cases h
    ·cases h
   ·cases h
  ·obtain ⟨x,hx,hm⟩:=Z8 (I3.1 h)
   exact ⟨x,cv x hx,hm⟩
  ·obtain ⟨x,hx,hm⟩:=Z8 (I3.1 h)
   exact ⟨x,cv x hx,hm⟩
  ·obtain ⟨x,hx,hm⟩:=Z8 (I3.1 h)
   exact ⟨x,cv x hx,hm⟩
  ·cases h
 | _=>rw [ho] at h; cases h
theorem IE {o:Oper} (h:∀ x∈o.op.operands.toList,t.ev x=s.ev x):l4 E o t=l4 E o s:=by
 unfold l4;cases ho:o.op with
 | store T a x=>rw [ho] at h; simp only [h a (by simp [Op.operands]),h x (by simp [Op.operands])]
 | box T x=>rw [ho] at h; simp only [h x (by simp [Op.operands])]
 | mapUpdate T m x y=>rw [ho] at h; simp only [h m (by simp [Op.operands])]
 | build T ps =>
  rw [ho] at h;simp only;rw [zG (s:=s) (t:=t) (λ x hx=>h x (by simp only [Op.operands]; simpa using hx))]
 | buildSlice T n ps =>
  rw [ho] at h;simp only;rw [zG (s:=s) (t:=t) (λ x hx=>h x (by simp only [Op.operands]; simpa using hx))]
 | call c =>
  rw [ho] at h;have cv:∀ x∈c.args.toList,x∈(Op.call c).operands.toList:=λ x hx=>by simp only [Op.operands,Call.operands]; simp at hx ⊢; first|exact .inr hx|exact .inl hx
  have he:=zG (s:=s) (t:=t) (λ x hx=>h x (cv x hx));simp only [he]
  split
  ·rename_i f hc
   rw [h f (by simp [Op.operands,Call.operands,hc])]
  ·rfl
  ·rfl
  ·rfl
  ·rfl
 | _=>rfl
def E3 (E:Env) (o:Oper) (s:St) (p:Prop) (v:AV):Prop :=
 ∃ ids f h,Trim (l4 E o s) f/\S6 s ids/\(∀ n∈ids,n % 1000=(o.dst.getD 0) % 1000) /\
  (∀ i,v.i8 i=true->(∃ x∈o.op.operands.toList,(s.ev x).i8 i=true)\/i∈ids) /\
  ∀ t,uniq t.fr->Y0 s t o.op.operands.toList->S6 t ids->∃ t1,(l8 E o t).get=some (p,v,t1)/\uniq t1.fr/\LP t t1 (l4 E o s) ids f h
theorem Ac {o:Oper} (ha:Y0 s t o.op.operands.toList) {i:Nat} (hi:i∈l4 E o s):look i t.hp=look i s.hp:=by
 obtain ⟨x,hx,hm⟩:=KG hi;exact (ha x hx).2 i hm
theorem E3.ro {o:Oper} {p:Prop} {v:AV} {s1:St} (h:(l8 E o s).get=some (p,v,s1)) (h1:∀ t,Y0 s t o.op.operands.toList->l8 E o t=(l8 E o s).wz t) (h2:∀ i,(l8 E o s).av.i8 i=true->∃ x∈o.op.operands.toList,(s.ev x).i8 i=true):E3 E o s p v:=by
 refine ⟨[],λ u=>u,λ i=>look i s.hp,Trim.id _,by simp [S6],by simp,?_,?_⟩
 ·intro i hi
  refine .inl (h2 i ?_);cases hr:l8 E o s<;>rw [hr] at h<;>simp [OR.get] at h
  ·rw [<- h.2.1] at hi; exact hi
  ·rw [<- h.2.1] at hi; exact hi
 ·intro t hu ha _
  refine ⟨t,?_,hu,⟨λ n=>by simp,λ i=>?_⟩⟩
  ·rw [h1 t ha]
   cases hr:l8 E o s<;>rw [hr] at h<;>simp only [OR.get,Option.some.injEq,Prod.mk.injEq] at h
   ·cases h
   ·obtain ⟨rfl,rfl,_⟩:=h; rfl
   ·obtain ⟨rfl,rfl,_⟩:=h; rfl
  ·split
   ·rename_i hi; exact Ac ha (by simpa using hi)
   ·rfl
theorem PF {d:Nat} (hu:uniq t.fr) (h:S6 t [d]):t.fresh d=true:=by
 simp only [St.fresh,Bool.and_eq_true,Option.isNone_iff_eq_none];exact ⟨(h d (by simp)).1,Ep hu (h d (by simp)).2⟩
theorem Qg {d:Nat} (h:s.fresh d=true):S6 s [d]:=by
 obtain ⟨k1,k2⟩:=Ek h;intro n hn;simp only [List.mem_cons,List.not_mem_nil,or_false] at hn;subst hn;exact ⟨k1,k2⟩
theorem YH {T g:List Nat} {d:Nat} {e:g9} (hg:∀ i∈g,i∈T) (ha:∀ i∈T,look i t.hp=look i s.hp):LP t ((St.w7 g t).w6 d e) T [d] (xf g) (λ i=>if i=d then some e else if i∈g then none else look i s.hp):=by
 refine ⟨λ n=>Cl,λ i=>?_⟩;show look i (Ex.put d e (St.w7 g t).hp)=_;rw [o6,J0];by_cases h1:i=d
 ·simp [h1]
 ·by_cases h3:i∈g
  ·have:=hg i h3; simp [h1,h3,this]
  ·by_cases h2:i∈T
   ·simp [h1,h3,h2,ha i h2]
   ·simp [h1,h2,h3]
theorem E3.obj {o:Oper} {p:Prop} {d:Nat} (hd:o.dst=some d) {e:g9} {v:AV} {g:List Nat} (hv:∀ i,v.i8 i=true->i=d) (hf:s.fresh d=true) (hg:∀ i∈g,i∈l4 E o s)
  (h:∀ t,Y0 s t o.op.operands.toList->uniq t.fr->t.fresh d=true->(l8 E o t).get=some (p,v,(St.w7 g t).w6 d e)):E3 E o s p v:=by
 refine ⟨[d],xf g,(λ i=>if i=d then some e else if i∈g then none else look i s.hp),(Trim.w7 g).mono hg,Qg hf,by simp [hd],λ i hi=>.inr (by simp [hv i hi]),?_⟩;intro t hu ha hn;exact ⟨_,h t ha hu (PF hu hn),Cm (g:=g) hu,YH hg (λ i hi=>Ac ha hi)⟩
theorem MW {d:Nat} {g:List Nat} {u:Ty} {x:u.den} {v:AV} {s':St} (hl:s.lay d g u x=.ok v s'):s.fresh d=true/\v=.at_ d []/\s'=(St.w7 g s).w6 d (.own u x)/\(wm g && (g.all λ i=>!pinned i))=true:=by
 unfold St.lay at hl;split at hl
 ·cases hl
 ·rename_i hc
  simp only [Bool.and_eq_true] at hc;split at hl
  ·cases hl; exact ⟨hc.2,rfl,rfl,by simp only [Bool.and_eq_true]; exact hc.1⟩
  ·cases hl
theorem Mg {d:Nat} {g:List Nat} {u:Ty} {x:u.den} (hf:t.fresh d=true) (hg:(wm g && (g.all λ i=>!pinned i))=true):t.lay d g u x=.ok (.at_ d []) ((St.w7 g t).w6 d (.own u x)):=by
 unfold St.lay;have h2:(St.w7 g t).fresh d=true:=by
  simp only [St.fresh,Bool.and_eq_true,Option.isNone_iff_eq_none] at hf ⊢;refine ⟨by rw [J0]; split<;>first|rfl|exact hf.1,KU hf.2⟩
 simp only [hg,hf,h2,Bool.and_self]
theorem E3.lay {o:Oper} {p:Prop} {v:AV} {s1:St} {d:Nat} (hd:o.dst=some d) {g:List Nat} {u:Ty} {x:u.den} {W:OR->OR} (hW:∀ v s,(W (.ok v s)).get=some (p,v,s)) (hF:∀ y,(W (.fail y)).get=none) (hg:∀ i∈g,i∈l4 E o s)
  (h:(l8 E o s).get=some (p,v,s1)) (h1:∀ t,Y0 s t o.op.operands.toList->l8 E o t=W (t.lay d g u x)):E3 E o s p v:=by
 rw [h1 s (.refl _ _)] at h;cases hl:s.lay d g u x with
 | fail y=>rw [hl,hF] at h; cases h
 | F3 q v s'=>exact absurd hl wx
 | ok v' s' =>
  rw [hl,hW] at h;cases h;obtain ⟨k1,rfl,rfl,k4⟩:=MW hl;refine E3.obj hd (e:=.own u x) (g:=g) (λ i hi=>by simpa [AV.i8] using hi) k1 hg (λ t ha hu hf=>?_);rw [h1 t ha,Mg hf k4,hW]
theorem AY {q p:Prop} {r:OR} {v:AV} {s1:St} (h:(r.f7 q).get=some (p,v,s1)) (hr:∀ q' v' s',r≠.F3 q' v' s'):p=q:=by
 cases r with
 | fail y=>cases h
 | ok v s=>simp only [OR.f7,OR.get,Option.some.injEq,Prod.mk.injEq] at h; exact h.1.symm
 | F3 q' v' s'=>exact absurd rfl (hr q' v' s')
theorem YA {T:TypeId} {a:AV} (h:Alike s t a):X8 E T a t=(X8 E T a s).wz t:=by
 unfold X8;cases a with
 | ptr i p =>
  simp only [J1 (h i (by simp [AV.i8]))]
  repeat' (first|rfl|split)
 | _=>first|rfl|(dsimp only; split<;>rfl)
theorem c0G {T:TypeId} {a:AV} {i:Nat} (h:(X8 E T a s).av.i8 i=true):a.i8 i=true:=by
 unfold X8 at h;cases a with
 | ptr j p =>
  simp only at h
  repeat' (split at h)
  all_goals first|exact h|(cases h; done)
 | _ =>
  simp only at h
  repeat' (split at h)
  all_goals first|exact h|(cases h; done)
theorem Iw {i:Nat}:∀ {n:Nat} {l v:AV},l8.nth n l=some v->v.i8 i=true->l.i8 i=true
 | 0,l,v,h,hv=>by
  cases l<;>simp only [l8.nth] at h<;>first|cases h|skip
  simp [AV.i8,hv]
 | n+1,l,v,h,hv=>by
  cases l<;>simp only [l8.nth] at h<;>first|cases h|skip
  simp [AV.i8,Iw h hv]
theorem Wt (d k:Nat):N5 d k % 1000=d % 1000:=by unfold N5; omega
theorem NM {d j k:Nat} (h:N5 d j=N5 d k):j=k:=by unfold N5 at h; omega
theorem JQ:∀ {ts:List Ty} {x:DL ts} {d j:Nat} {hp:List (Nat×g9)} {l:AV} {cE:List (Nat×g9)},X2 ts x d j hp=some (l,cE) ->
  (∀ i,l.i8 i=true->∃ k,j<=k/\k<j+ts.length/\i=N5 d k) /\
  ∃ h:Nat->Option g9,∀ h2,(∀ k,j<=k->k<j+ts.length->look (N5 d k) h2=none)->∃ fC,X2 ts x d j h2=some (l,fC)/\∀ i,look i fC=(match h i with|some e=>some e|none=>look i h2)/\((h i).isSome->∃ k,j<=k/\k<j+ts.length/\i=N5 d k)
 | [],x,d,j,hp,l,cE,h=>by
  simp only [X2,Option.some.injEq,Prod.mk.injEq] at h;obtain ⟨rfl,rfl⟩:=h;exact ⟨by simp [AV.i8],λ _=>none,λ h2 _=>⟨h2,rfl,λ i=>⟨rfl,by simp⟩⟩⟩
 | u::ts,x,d,j,hp,l,cE,h=>by
  simp only [X2] at h;split at h
  ·rename_i hs
   split at h
   ·rename_i l' ft ep
    cases h;obtain ⟨k1,h,k2⟩:=JQ ep;refine ⟨λ i hi=>?_,h,λ h2 hh=>?_⟩
    ·obtain ⟨k,m1,m2,m3⟩:=k1 i (by simpa [AV.i8] using hi)
     exact ⟨k,by omega,by simp only [List.length_cons]; omega,m3⟩
    ·obtain ⟨fC,e1,e2⟩:=k2 h2 (λ k jr eS=>hh k (by omega) (by simp only [List.length_cons]; omega))
     refine ⟨fC,by simp only [X2,hs,e1],λ i=>⟨(e2 i).1,λ hi=>?_⟩⟩;obtain ⟨k,m1,m2,m3⟩:=(e2 i).2 hi;exact ⟨k,by omega,by simp only [List.length_cons]; omega,m3⟩
   ·cases h
  ·rename_i hs
   split at h
   ·cases h
   ·rename_i de
    split at h
    ·rename_i l' ft ep
     cases h;obtain ⟨k1,h,k2⟩:=JQ ep;refine ⟨λ i hi=>?_,λ i=>if i=N5 d j then some (vn u x.1 (N5 d j)).1 else h i,λ h2 hh=>?_⟩
     ·simp only [AV.i8,Bool.or_eq_true] at hi
      rcases hi with hi|hi
      ·refine ⟨j,Nat.le_refl _,by simp,?_⟩
       rcases Jd u x.1 (N5 d j) with e|⟨g,_,_,_,e⟩
       ·rw [e] at hi; exact Nat.eq_of_beq_eq_true hi
       ·rw [e] at hi
        cases g with
        | none=>exact Nat.eq_of_beq_eq_true hi
        | some f =>
         have hi:(Nat.beq i (N5 d j) || false)=true:=hi;rw [Bool.or_false] at hi;exact Nat.eq_of_beq_eq_true hi
      ·obtain ⟨k,m1,m2,m3⟩:=k1 i hi
       exact ⟨k,by omega,by simp only [List.length_cons]; omega,m3⟩
     ·have e0:look (N5 d j) h2=none:=hh j (Nat.le_refl _) (by simp)
      obtain ⟨fC,e1,e2⟩:=k2 (put (N5 d j) (vn u x.1 (N5 d j)).1 h2) (λ k jr eS=>by
       rw [o6,if_neg (λ e=>by have:=NM e; omega)];exact hh k (by omega) (by simp only [List.length_cons]; omega))
      refine ⟨fC,by simp only [X2,hs,e0,e1],λ i=>⟨?_,λ hi=>?_⟩⟩
      ·rw [(e2 i).1,o6]
       by_cases he:i=N5 d j
       ·simp only [he,if_true]
        cases sH:h (N5 d j) with
        | none=>rfl
        | some e =>
         exfalso;obtain ⟨k,m1,m2,m3⟩:=(e2 (N5 d j)).2 (by rw [sH]; rfl);have:=NM m3; omega
       ·simp only [if_neg he]
      ·by_cases he:i=N5 d j
       ·exact ⟨j,Nat.le_refl _,by simp,he⟩
       ·simp only [if_neg he] at hi
        obtain ⟨k,m1,m2,m3⟩:=(e2 i).2 hi;exact ⟨k,by omega,by simp only [List.length_cons]; omega,m3⟩
    ·cases h
theorem JU {d:Nat}:∀ {n:Nat} {fr:List (Nat×AV)},(∀ k,k<n->vJ (N5 d k) fr=true)->xl d n fr=true
 | 0,_,_=>rfl
 | n+1,fr,h=>by
  simp only [xl,Bool.and_eq_true];exact ⟨h n (by omega),JU (λ k hk=>h k (by omega))⟩
theorem JV {d:Nat}:∀ {n:Nat} {hp:List (Nat×g9)},zK d n hp=true↔∀ k,k<n->look (N5 d k) hp=none
 | 0,_=>by simp [zK]
 | n+1,hp=>by
  simp only [zK,Bool.and_eq_true,Option.isNone_iff_eq_none,JV (n:=n)];constructor
  ·rintro ⟨h1,h2⟩ k hk
   by_cases e:k=n
   ·subst e; exact h1
   ·exact h2 k (by omega)
  ·intro h; exact ⟨h n (by omega),λ k hk=>h k (by omega)⟩
theorem Yc {i:Nat} {l:AV} (h:l.one.i8 i=true):l.i8 i=true:=by
 unfold AV.one at h;split at h
 ·simp [AV.i8,h]
 ·exact h
theorem xT:∀ {ks:List PK} {y:DL (E4 ks)} {m:List Nat} {s1:St},wr ks y m s=some s1 ->
  (m=[]/\∀ t,wr ks y m t=some t)\/∃ i ow e,m=[i]/\∀ t,wr ks y m t=some ((t.Y8 i ow).w6 i e)
 | [],y,m,s1,h=>by
  cases m with
  | nil=>exact .inl ⟨rfl,λ t=>rfl⟩
  | cons i m=>cases h
 | k::ks,y,m,s1,h=>by
  cases k with
  | rw u =>
   match m,h with
   | [],h=>cases h
   | [i],h =>
    simp only [wr] at h;split at h
    ·rename_i hw
     exact .inr ⟨i,false,.var u y.1,rfl,λ t=>by simp only [wr,hw]⟩
    ·cases h
   | i::j::m,h=>cases h
  | mu u =>
   match m,h with
   | [],h=>cases h
   | [i],h =>
    simp only [wr] at h;split at h
    ·rename_i hw
     exact .inr ⟨i,true,.own (.d0 true u) y.1,rfl,λ t=>by simp only [wr,hw]⟩
    ·cases h
   | i::j::m,h=>cases h
  | v u=>cases m<;>exact xT (ks:=ks) h
  | U9=>cases m<;>exact xT (ks:=ks) h
  | rcs f n=>cases m<;>exact xT (ks:=ks) h
  | el q=>cases m<;>exact xT (ks:=ks) h
  | rd u=>cases m<;>exact xT (ks:=ks) h
  | C3 f ts=>cases m<;>exact xT (ks:=ks) h
  | own u=>cases m<;>exact xT (ks:=ks) h
end
end Go.Ex
namespace Go.Ex
section
variable {E:Env} {s t:St}
theorem xm {c:Call} {x:Operand} (hx:x∈c.args.toList):x∈(Op.call c).operands.toList:=by
 simp only [Op.operands,Call.operands]; simp at hx ⊢; first|exact .inr hx|exact .inl hx
def gq (m:Nat) (v:AV):AV:=match Nat.beq m I4 with|true=>.any|false=>v
theorem zF {s:St} {m:Nat}:s.ev (.tmp m)=gq m (s.get m):=rfl
theorem EO {s:St} {m i:Nat} (h:(s.ev (.tmp m)).i8 i=true):(s.get m).i8 i=true:=by
 rw [zF] at h;unfold gq at h;split at h
 ·cases h
 ·exact h
theorem yK {s t:St} {m:Nat} (h:t.get m=s.get m):t.ev (.tmp m)=s.ev (.tmp m):=congrArg (gq m) h
theorem Vi {s:St} {m:Nat} {v:AV} (hb:Nat.beq m I4=false) (h:s.get m=v):s.ev (.tmp m)=v:=by
 rw [zF,h]; unfold gq; rw [hb]
theorem BJ {s:St} {m:Nat} {v:AV} (h:s.ev (.tmp m)=v) (hv:v≠.any):s.get m=v:=by
 rw [zF] at h;unfold gq at h;split at h
 ·exact absurd h.symm hv
 ·exact h
theorem c0V {s:St} {m:Nat} {v:AV} (h:s.ev (.tmp m)=v) (hv:v≠.any):Nat.beq m I4=false:=by
 rw [zF] at h;unfold gq at h;split at h
 ·exact absurd h.symm hv
 ·assumption
theorem JC {o:Oper} {c:Call} (ho:o.op=.call c) {f:Operand} (hc:c.callee=.value f) {W:OR->OR} {π:Prop->Prop} (hW:∀ r,(W r).get=r.get.map (λ x=>(π x.1,x.2.1,x.2.2))) {g:FuncId} {caps fv:AV} (hg:s.ev f=fv) (dW:∀ i,caps.i8 i=true->fv.i8 i=true)
  (he:∀ t,t.ev f=fv->l8 E o t=W (S3 E g ((t.J6 c.args.toList).app caps) o.dst t))
  (hT:l4 E o s=(match look g E.C5 with
    | some c'=>(match c'.ps.any PK.l4 with
     | false=>[]
     | true=>((s.J6 c.args.toList).app caps).G8)
    | none=>[])) {p:Prop} {v:AV} {s1:St} (h:(l8 E o s).get=some (p,v,s1)):E3 E o s p v:=by
 have fZ:f∈o.op.operands.toList:=by rw [ho]; simp [Op.operands,Call.operands,hc]
 have cN:∀ x∈c.args.toList,x∈o.op.operands.toList:=λ x hx=>by rw [ho]; exact xm hx
 rw [he s hg,hW] at h;obtain ⟨q,h,hq⟩:∃ q,(S3 E g ((s.J6 c.args.toList).app caps) o.dst s).get=some (q,v,s1)/\π q=p:=by
  cases hr:(S3 E g ((s.J6 c.args.toList).app caps) o.dst s).get with
  | none=>rw [hr] at h; cases h
  | some x =>
   rw [hr] at h;simp only [Option.map_some,Option.some.injEq,Prod.mk.injEq] at h;exact ⟨x.1,by rw [<- h.2.1,<- h.2.2],h.1⟩
 have aH:∀ i,((s.J6 c.args.toList).app caps).i8 i=true->∃ x∈o.op.operands.toList,(s.ev x).i8 i=true:=by
  intro i hi;rcases Ed hi with hi|hi
  ·obtain ⟨x,hx,hi⟩:=Z8 hi; exact ⟨x,cN x hx,hi⟩
  ·exact ⟨f,fZ,by rw [hg]; exact dW i hi⟩
 generalize qX:(s.J6 c.args.toList).app caps=av at h aH hT;unfold S3 at h;split at h
 ·cases h
 ·rename_i c' de
  rw [de] at hT;simp only at hT;split at h
  ·cases h
  ·rename_i x gs m hx
   obtain ⟨jm,jP⟩:=QO hx;have iV:∀ i,i∈gs++m->i∈l4 E o s:=by
    intro i hi;rw [hT];cases hp:c'.ps.any PK.l4 with
    | true=>exact I3.2 (jm i hi)
    | false=>obtain ⟨r1,r2⟩:=jP hp; rw [r1,r2] at hi; cases hi
   split at h
   ·cases h
   ·rename_i bU
    obtain ⟨kU,fk⟩:=(Bool.and_eq_true_iff).1 bU;obtain ⟨fX,rX⟩:=(Bool.and_eq_true_iff).1 fk;split at h
    ·cases h
    ·rename_i s2 oi
     split at h
     ·cases h
     ·rename_i hm
      split at h
      ·rename_i l hp pk
       simp only [OR.get,Option.some.injEq,Prod.mk.injEq] at h;obtain ⟨rfl,rfl,_⟩:=h;obtain ⟨k3,h3,k4⟩:=JQ pk;simp only [Nat.zero_add,Nat.zero_le,true_and] at k3 k4;have kM:∀ {t:St},S6 t ((List.range c'.rs.length).map (N5 (o.dst.getD 0)))->∀ k,k<c'.rs.length->look (N5 (o.dst.getD 0) k) t.hp=none:=λ hn k hk=>(hn _ (List.mem_map.2 ⟨k,by simpa using hk,rfl⟩)).1;have hw:∃ (f:AV->AV) (h:Nat->Option g9),Trim (l4 E o s) f/\(∀ i,i∉l4 E o s->h i=none)/\∀ t,uniq t.fr->(∀ i∈l4 E o s,look i t.hp=look i s.hp)->∃ t2,wr c'.ps (c'.out x) m (St.w7 gs t)=some t2/\uniq t2.fr/\(∀ n,look n t2.fr=(look n t.fr).map f)/\∀ i,look i t2.hp=if i∈l4 E o s then h i else look i t.hp:=by
        rcases xT oi with ⟨rfl,hw⟩|⟨i0,ow,e,rfl,hw⟩
        ·refine ⟨xf gs,λ i=>if i∈l4 E o s then (if i∈gs then none else look i s.hp) else none,(Trim.w7 gs).mono (λ i hi=>iV i (by simp [hi])),λ i hi=>by simp [hi],λ t hu ha=>⟨_,hw _,Cm hu,λ n=>Cl,λ i=>?_⟩⟩
         rw [J0];by_cases h1:i∈gs
         ·simp [h1,iV i (by simp [h1])]
         ·by_cases h2:i∈l4 E o s
          ·simp [h1,h2,ha i h2]
          ·simp [h1,h2]
        ·have mK:i0∈l4 E o s:=iV i0 (by simp)
         refine ⟨λ u=>AV.map (AV.xh i0 ow) (xf gs u),λ i=>if i∈l4 E o s then (if i=i0 then some e else if i∈gs then none else look i s.hp) else none,
          Trim.comp (Trim.w7 gs) (Trim.Y8 i0 ow) (λ i hi=>iV i (by simp [hi])) (by simpa using mK),λ i hi=>by simp [hi],λ t hu ha=>⟨_,hw _,BY (Cm hu),λ n=>?_,λ i=>?_⟩⟩
         ·show look n (mapA _ (St.w7 gs t).fr)=_
          rw [N8,Cl,Option.map_map]; rfl
         ·show look i (Ex.put i0 e (St.w7 gs t).hp)=_
          rw [o6,J0];by_cases h0:i=i0
          ·subst h0; simp [mK]
          ·by_cases h1:i∈gs
           ·simp [h0,h1,iV i (by simp [h1])]
           ·by_cases h2:i∈l4 E o s
            ·simp [h0,h1,h2,ha i h2]
            ·simp [h0,h1,h2]
       obtain ⟨f0,h0,w1,w2,w3⟩:=hw;refine ⟨(List.range c'.rs.length).map (N5 (o.dst.getD 0)),f0,λ i=>match h3 i with|some e=>some e|none=>h0 i,w1,?_,?_,?_,?_⟩
       ·intro n hn
        obtain ⟨k,hk,rfl⟩:=List.mem_map.1 hn;exact ⟨JV.1 rX k (by simpa using hk),λ m w hw=>Ci (ES fX k (by simpa using hk)) hw⟩
       ·intro n hn
        obtain ⟨k,_,rfl⟩:=List.mem_map.1 hn;exact Wt _ _
       ·intro i hi
        obtain ⟨k,m2,rfl⟩:=k3 i (Yc hi);exact .inr (List.mem_map.2 ⟨k,by simpa using m2,rfl⟩)
       ·intro t hu ha hn
        have eN:Alike s t av:=λ i hi=>by obtain ⟨x,hx,hm⟩:=aH i hi; exact (ha x hx).2 i hm
        obtain ⟨t2,e1,e2,e3,e4⟩:=w3 t hu (λ i hi=>Ac ha hi);have lf:∀ k,k<c'.rs.length->N5 (o.dst.getD 0) k∉l4 E o s:=by
         intro k hk bm;obtain ⟨x,hx,hm⟩:=KG bm;obtain ⟨m',rfl,gm⟩:∃ m',x=.tmp m'/\(s.get m').i8 (N5 (o.dst.getD 0) k)=true:=by
          cases x with
          | tmp m'=>exact ⟨m',rfl,EO hm⟩
          | const v =>
           exfalso;simp only [St.ev] at hm;unfold ofConst at hm;split at hm
           ·split at hm<;>cases hm
           ·cases hm
           ·split at hm<;>cases hm
           ·cases hm
          | global g=>cases hm
          | func f=>cases hm
         simp only [St.get] at gm;cases hl:look m' s.fr with
         | none=>rw [hl] at gm; cases gm
         | some w =>
          rw [hl] at gm;have:=Ci (ES fX k hk) hl;simp only [Option.getD_some] at gm;rw [gm] at this; cases this
        have eJ:∀ k,k<c'.rs.length->look (N5 (o.dst.getD 0) k) t2.hp=none:=by
         intro k hk;rw [e4,if_neg (lf k hk)];exact kM hn k hk
        obtain ⟨fC,r1,r2⟩:=k4 t2.hp (λ k _ hk=>eJ k hk);have gm:xl (o.dst.getD 0) c'.rs.length t2.fr=true:=JU (λ k hk=>Ep e2 (λ n w hw=>by
         rw [e3] at hw;cases hl:look n t.fr with
         | none=>rw [hl] at hw; cases hw
         | some u =>
          rw [hl] at hw;cases hw;cases pd:(f0 u).i8 (N5 (o.dst.getD 0) k) with
          | false=>rfl
          | true =>
           have:=(hn (N5 (o.dst.getD 0) k) (List.mem_map.2 ⟨k,by simpa using hk,rfl⟩)).2 n u hl;rw [w1.i8 u pd] at this; cases this))
        have kD:xl (o.dst.getD 0) c'.rs.length t.fr=true:=JU (λ k hk=>Ep hu (hn _ (List.mem_map.2 ⟨k,by simpa using hk,rfl⟩)).2);have oW:zK (o.dst.getD 0) c'.rs.length t.hp=true:=JV.2 (λ k hk=>kM hn k hk);have da:(t.J6 c.args.toList).app caps=av:=by
         rw [zG (s:=s) (t:=t) (λ x hx=>(ha x (cN x hx)).1)]; exact qX
        have sZ:S3 E g av o.dst t=.F3 (c'.pre x) l.one { t2 with hp:=fC }:=by
         unfold S3;simp only [de,NC (s:=s) (t:=t) eN,hx,kU,kD,oW,Bool.and_self,e1,gm,r1]
        refine ⟨{ t2 with hp:=fC },?_,e2,⟨e3,λ i=>?_⟩⟩
        ·rw [he t ((ha f fZ).1.trans hg),hW,da,sZ]; simp only [OR.get,Option.map_some,hq]
        ·show look i fC=_
         rw [(r2 i).1,e4];cases hh:h3 i with
         | some e =>
          obtain ⟨k,hk,mI⟩:=(r2 i).2 (by rw [hh]; rfl);simp only;rw [if_pos (.inr (List.mem_map.2 ⟨k,by simpa using hk,mI.symm⟩))]
         | none =>
          simp only;by_cases h1:i∈l4 E o s
          ·rw [if_pos h1,if_pos (.inl h1)]
          ·rw [if_neg h1]
           split
           ·rename_i hi
            rcases hi with hi|hi
            ·exact absurd hi h1
            ·obtain ⟨k,hk,rfl⟩:=List.mem_map.1 hi
             rw [kM hn k (by simpa using hk),w2 _ h1]
           ·rfl
      ·cases h
theorem WL {o:Oper} {c:Call} (ho:o.op=.call c) {f:Operand} (hc:c.callee=.value f) {p:Prop} {v:AV} {s1:St} (h:(l8 E o s).get=some (p,v,s1)):E3 E o s p v:=by
 have key:(∃ g caps,s.ev f=.C3 g caps)\/(∃ g b,s.ev f=.val (.fn g) b)\/∃ g t y,s.ev f=.val (.box false (some g) t) y:=by
  unfold l8 at h;rw [ho] at h;simp only [hc] at h;split at h
  ·exact .inl ⟨_,_,by assumption⟩
  ·exact .inr (.inl ⟨_,_,by assumption⟩)
  ·exact .inr (.inr ⟨_,_,_,by assumption⟩)
  ·cases h
 rcases key with ⟨g,caps,hg⟩|⟨g,b,hg⟩|⟨g,t0,y0,hg⟩
 ·refine JC ho hc (W:=λ r=>r) (π:=λ q=>q) (g:=g) (caps:=caps) (λ r=>by cases r<;>rfl) hg (λ i hi=>hi) (λ t ht=>?_) ?_ h
  ·unfold l8
   rw [ho];simp only [hc,ht]
  ·unfold l4; rw [ho]; simp only [hc,hg]; rfl
 ·refine JC ho hc (W:=λ r=>r.xC ((b:Bool)=true)) (π:=λ q=>(b:Bool)=true/\q) (g:=g) (caps:=.nil) (λ r=>by cases r<;>rfl) hg (λ i hi=>by cases hi) (λ t ht=>?_) ?_ h
  ·unfold l8
   rw [ho];simp only [hc,ht]
  ·unfold l4; rw [ho]; simp only [hc,hg]; rfl
 ·refine JC ho hc (W:=λ r=>r.xC ((y0:Option t0.den).isSome=true)) (π:=λ q=>(y0:Option t0.den).isSome=true/\q) (g:=g) (caps:=.cons (.N7 t0 (Option.getD (y0:Option t0.den) t0.s4)) .nil) (λ r=>by cases r<;>rfl) hg (λ i hi=>by cases hi) (λ t ht=>?_) ?_ h
  ·unfold l8
   rw [ho];simp only [hc,ht]
  ·unfold l4; rw [ho]; simp only [hc,hg]; rfl
end
end Go.Ex
namespace Go.Ex
section
variable {E:Env} {s t:St}
theorem c0c {T:TypeId} {i:Nat} {p:List Step} {x:AV} {q:Prop} {v:AV} {s1:St} (h:(O7 E T i p x s).get=some (q,v,s1)) :
  v=.raw undef/\∃ g ow e,(∀ j∈g,x.i8 j=true)/\∀ t:St,t.obj i=s.obj i->Alike s t x->(O7 E T i p x t).get=some (q,.raw undef,((St.w7 g t).kill i ow p).w6 i e):=by
 unfold O7 at h;split at h
 ·cases h
 ·rename_i e aS
  split at h
  ·cases h
  ·rename_i u y hg
   split at h
   ·cases h
   ·rename_i bB
    have base:∀ t:St,t.obj i=s.obj i->t.obj i=some e:=λ t ht=>ht.trans aS;split at h
    ·split at h
     ·split at h
      ·rename_i r aK
       cases h;refine ⟨rfl,[],e.kd,e.D9 r,by simp,λ t ht _=>?_⟩;unfold O7;simp only [base t ht,hg,bB,aK];rfl
      ·cases h
     ·split at h
      ·rename_i r aK
       cases h;refine ⟨rfl,[],e.kd,e.D9 r,by simp,λ t ht _=>?_⟩;unfold O7;simp only [base t ht,hg,bB,aK];rfl
      ·cases h
     ·cases h
    ·rename_i j q' lo hi
     split at h
     ·split at h
      ·rename_i r aK
       split at h
       ·rename_i bO
        cases h;refine ⟨rfl,[],e.kd,e.D9 r,by simp,λ t ht _=>?_⟩;unfold O7;simp only [base t ht,hg,bB,aK,bO];rfl
       ·cases h
      ·cases h
     ·cases h
    ·rename_i x' oh rn
     split at h
     ·rename_i z g cP
      split at h
      ·rename_i r aK
       split at h
       ·rename_i bO
        cases h;refine ⟨rfl,g,e.kd,e.D9 r,EG cP,λ t ht eN=>?_⟩;have fi:=(yO eN).trans cP;unfold O7;simp only [base t ht,hg,bB];simp only [fi,aK,bO];rfl
       ·cases h
      ·cases h
     ·rename_i cP
      split at h
      ·rename_i j q'
       split at h
       ·rename_i u' y' cO
        split at h
        ·rename_i r aK
         split at h
         ·rename_i bO
          cases h;refine ⟨rfl,[],e.kd,e.D9 r,by simp,λ t ht eN=>?_⟩;have fi:=(yO eN).trans cP;have oN:=(J1 (p:=q') (eN j (by simp [AV.i8]))).trans cO;unfold O7;simp only [base t ht,hg,bB];simp only [fi,oN,aK,bO];rfl
         ·cases h
        ·cases h
       ·cases h
      ·cases h
theorem Zz {o:Oper} {T:TypeId} {a x:Operand} (ho:o.op=.store T a x) {p:Prop} {v:AV} {s1:St} (h:(l8 E o s).get=some (p,v,s1)):E3 E o s p v:=by
 have oM:∃ i q,s.ev a=.ptr i q:=by
  unfold l8 at h;rw [ho] at h;simp only at h;split at h
  ·exact ⟨_,_,by assumption⟩
  ·cases h
 obtain ⟨i,q,hp⟩:=oM;have ha:∀ t,t.ev a=.ptr i q->l8 E o t=O7 E T i q (t.ev x) t:=by
  intro t ht;unfold l8;rw [ho];simp only [ht]
 rw [ha s hp] at h;obtain ⟨rfl,g,ow,e,hg,k⟩:=c0c h;have hT:l4 E o s=(s.ev a).G8++(s.ev x).G8:=by unfold l4; rw [ho]
 have qQ:i∈l4 E o s:=by rw [hT,hp]; simp [AV.G8]
 have iV:∀ j∈g,j∈l4 E o s:=λ j hj=>by rw [hT]; exact List.mem_append_right _ (I3.2 (hg j hj))
 have qY:a∈o.op.operands.toList:=by rw [ho]; simp [Op.operands]
 have cN:x∈o.op.operands.toList:=by rw [ho]; simp [Op.operands]
 refine ⟨[],λ u=>AV.kill i ow q (xf g u),λ j=>if j=i then some e else if j∈g then none else look j s.hp,Trim.comp (Trim.w7 g) (Trim.kill i ow q) iV (by simpa using qQ),by simp [S6],by simp,by simp [AV.i8],?_⟩;intro t hu dn _;have da:=(dn x cN).1;have oT:t.obj i=s.obj i:=(dn a qY).2 i (by rw [hp]; simp [AV.i8]);refine ⟨((St.w7 g t).kill i ow q).w6 i e,?_,BY (Cm hu),⟨λ n=>?_,λ j=>?_⟩⟩
 ·rw [ha t ((dn a qY).1.trans hp),da]
  exact k t oT (λ j hj=>(dn x cN).2 j hj)
 ·show look n (mapA _ (St.w7 g t).fr)=_
  rw [N8,Cl,Option.map_map]; rfl
 ·show look j (Ex.put i e (St.w7 g t).hp)=_
  rw [o6,J0];by_cases h0:j=i
  ·subst h0; simp [qQ]
  ·by_cases h1:j∈g
   ·simp [h0,h1,iV j h1]
   ·by_cases h2:j∈l4 E o s
    ·simp [h0,h1,h2,Ac dn h2]
    ·simp [h0,h1,h2]
theorem Sp {T:TypeId} {x y:AV} {dst:Option Nat} {p:Prop} {v:AV} {s1:St} (h:(wq E T x y dst s).get=some (p,v,s1)) :
  ∃ d g u l,dst=some d/\(∀ j∈g,x.i8 j=true\/y.i8 j=true)/\∀ t,Alike s t x->Alike s t y->wq E T x y dst t=(St.lay t d g u l).f7 p:=by
 unfold wq at h;split at h
 ·rename_i q t0 bts d hT
  split at h
  ·cases h
  ·rename_i tt m g cn
   have ia:=QM cn;have ha:∀ t,Alike s t y->y.uR t t0=some (⟨tt,m⟩,g):=λ t ht=>(Ia ht).trans cn;simp only at h;split at h
   ·split at h
    ·rename_i db
     obtain rfl:=AY h (λ _ _ _=>wx);refine ⟨d,[]++g,.d0 true t0,(([]:List t0.den)++N9 db m),rfl,by simpa using λ j hj=>.inr (ia j hj),λ t _ hy=>?_⟩;unfold wq;simp only [hT,ha t hy,db,dif_pos]
    ·cases h
   ·split at h
    ·rename_i bB
     split at h
     ·rename_i db
      obtain rfl:=AY h (λ _ _ _=>wx);refine ⟨d,[]++g,.d0 true t0,(([]:List t0.den)++N9 db m),rfl,by simpa using λ j hj=>.inr (ia j hj),λ t _ hy=>?_⟩;unfold wq;simp only [hT,ha t hy,db,dif_pos,bB]
     ·cases h
    ·cases h
   ·rename_i oh rn
    split at h
    ·rename_i u l f cP
     split at h
     ·rename_i hu
      split at h
      ·rename_i db
       obtain rfl:=AY h (λ _ _ _=>wx);refine ⟨d,f++g,.d0 true t0,(N9 hu l++N9 db m),rfl,?_,λ t hx hy=>?_⟩
       ·intro j hj
        rcases List.mem_append.1 hj with hj|hj
        ·exact .inl (Em cP j hj)
        ·exact .inr (ia j hj)
       ·have fi:=(DF hx).trans cP
        unfold wq;simp only [hT,ha t hy];simp only [fi,hu,db,dif_pos]
      ·cases h
     ·cases h
    ·cases h
 ·cases h
theorem XU {T:TypeId} {x y:AV} {dst:Option Nat} {p:Prop} {v:AV} {s1:St} (h:(CZ E T x y dst s).get=some (p,v,s1)) :
  ∃ d g u l,dst=some d/\(∀ j∈g,x.i8 j=true\/y.i8 j=true)/\∀ t,Alike s t x->Alike s t y->CZ E T x y dst t=(St.lay t d g u l).f7 p:=by
 cases h
theorem Xr {T:TypeId} {x y:AV} {dst:Option Nat} {p:Prop} {v:AV} {s1:St} (h:(wV E T x y dst s).get=some (p,v,s1)) :
  ∃ d g u l,dst=some d/\(∀ j∈g,x.i8 j=true\/y.i8 j=true)/\∀ t,Alike s t x->Alike s t y->wV E T x y dst t=(St.lay t d g u l).f7 p:=by
 have hs:∀ t,Alike s t x->Dj t x=Dj s x:=λ t ht=>by
  unfold Dj
  split
  ·rw [ht _ (by simp [AV.i8])]
  ·rfl
 unfold wV at h;split at h
 ·rename_i hc
  obtain ⟨d,g,u,l,h1,h2,h3⟩:=XU h;exact ⟨d,g,u,l,h1,h2,λ t hx hy=>by unfold wV; rw [hs t hx,hc]; exact h3 t hx hy⟩
 ·rename_i hc
  obtain ⟨d,g,u,l,h1,h2,h3⟩:=Sp h;exact ⟨d,g,u,l,h1,h2,λ t hx hy=>by unfold wV; rw [hs t hx,hc]; exact h3 t hx hy⟩
theorem Js {i:Nat} {p:List Step} {lo:Nat} {u:Ty} {m:List u.den} {s1:St} (h:vv s i p lo u m=some s1):∃ ow e',∀ t:St,t.obj i=s.obj i->vv t i p lo u m=some ((t.Y8 i ow).w6 i e'):=by
 unfold vv at h;split at h
 ·rename_i e he
  split at h
  ·rename_i u' l hg
   split at h
   ·rename_i hu
    split at h
    ·rename_i r aK
     split at h
     ·rename_i hc
      refine ⟨e.Y9,e.D9 r,λ t ht=>?_⟩;unfold vv;rw [ht,he];simp only [hg,hu,dif_pos];subst hu;simp only [aK,hc]
     ·cases h
    ·cases h
   ·cases h
  ·cases h
 ·cases h
theorem E3.LX {o:Oper} {p:Prop} {v:AV} {i:Nat} {ow:Bool} {e':g9} (hi:i∈l4 E o s) (hv:∀ j,v.i8 j=true->∃ x∈o.op.operands.toList,(s.ev x).i8 j=true) (hr:∀ t,Y0 s t o.op.operands.toList->(l8 E o t).get=some (p,v,(t.Y8 i ow).w6 i e')):E3 E o s p v:=by
 refine ⟨[],AV.map (AV.xh i ow),λ j=>if j=i then some e' else look j s.hp,(Trim.Y8 i ow).mono (by simpa using hi),by simp [S6],by simp,λ j hj=>.inl (hv j hj),λ t hu ha _=>⟨_,hr t ha,BY hu,λ n=>?_,λ j=>?_⟩⟩
 ·show look n (mapA _ t.fr)=_
  rw [N8]
 ·show look j (Ex.put i e' t.hp)=_
  rw [o6];by_cases h1:j=i
  ·subst h1; simp [hi]
  ·rw [if_neg h1]
   by_cases h2:j∈l4 E o s
   ·rw [if_pos (.inl h2),if_neg h1]; exact Ac ha h2
   ·rw [if_neg (by simp [h2])]
theorem E3.fill {o:Oper} {p:Prop} {v:AV} {i:Nat} {ow:Bool} {e':g9} (hi:i∈l4 E o s) (hv:∀ j,v.i8 j=false) (hr:∀ t,Y0 s t o.op.operands.toList->(l8 E o t).get=some (p,v,(t.Y8 i ow).w6 i e')):E3 E o s p v :=
 .LX hi (λ j hj=>by rw [hv j] at hj; cases hj) hr
theorem c1S {o:Oper} {c:Call} (ho:o.op=.call c) (hc:c.callee=.builtin .append) {p:Prop} {v:AV} {s1:St} (h:(l8 E o s).get=some (p,v,s1)):E3 E o s p v:=by
 have cN:∀ x∈c.args.toList,x∈o.op.operands.toList:=λ x hx=>by rw [ho]; exact xm hx
 have hT:l4 E o s=(s.J6 c.args.toList).G8:=by unfold l4; rw [ho]; simp only [hc]
 have key:(∃ x y T F,(F=wq E T\/F=wV E T)/\c.args.toList=[x,y]/\(∀ t,t.ev x=s.ev x->t.ev y=s.ev y->l8 E o t=F (t.ev x) (t.ev y) o.dst t))\/(∃ x y T,c.args.toList=[x,y]/\(∀ t,t.ev x=s.ev x->t.ev y=s.ev y->l8 E o t=wt E T (t.ev x) (t.ev y) t))\/(∃ x y T,c.args.toList=[x,y]/\∀ t,l8 E o t=zM E T (t.ev x) (t.ev y) o.dst t):=by
  unfold l8 at h;rw [ho] at h;simp only [hc] at h;split at h
  ·rename_i x y T U aH fF
   split at h
   ·rename_i hU
    cases jg:(s.ev x).LJ (s.ev y) with
    | true=>exact .inr (.inl ⟨x,y,T,aH,λ t e1 e2=>by unfold l8; rw [ho]; simp only [hc,aH,fF,hU]; rw [e1,e2,jg]⟩)
    | false=>exact .inl ⟨x,y,T,_,.inr rfl,aH,λ t e1 e2=>by unfold l8; rw [ho]; simp only [hc,aH,fF,hU]; rw [e1,e2,jg]⟩
   ·rename_i hU
    exact .inl ⟨x,y,T,_,.inl rfl,aH,λ t _ _=>by unfold l8; rw [ho]; simp only [hc,aH,fF,hU]⟩
   ·rename_i hU
    exact .inr (.inr ⟨x,y,T,aH,λ t=>by unfold l8; rw [ho]; simp only [hc,aH,fF,hU]⟩)
   ·cases h
  ·cases h
 rcases key with key|⟨x,y,T,aH,he⟩|⟨x,y,T,aH,he⟩
 rotate_left
 ·have eT:x∈o.op.operands.toList:=cN x (by rw [aH]; simp)
  have gG:y∈o.op.operands.toList:=cN y (by rw [aH]; simp);rw [he s rfl rfl] at h;have hI:=b8z h;simp only at hI;obtain ⟨i,lo,hi,q,t0,bts,u,m,l,hx,qd,cn,aS,hf,bB,rfl,rfl⟩:=Sq hI;obtain ⟨ow,e',gL⟩:=Js hf;have hm:(s.ev x).i8 i=true:=by rw [hx]; simp [AV.i8]
  refine E3.LX (i:=i) (ow:=ow) (e':=e') (by rw [hT,I3,aH]; simp [St.J6,AV.i8,hm]) (λ j hj=>⟨x,eT,by rw [hx]; exact hj⟩) (λ t ha=>?_);rw [he t (ha x eT).1 (ha y gG).1,(ha x eT).1,(ha y gG).1,hx];have oS:t.obj i=some (.own (.d0 true u) l):=((ha x eT).2 i hm).trans aS;unfold wt;simp only [qd,(Ia (u:=t0) (ha y gG).2).trans cn,oS,gL t ((ha x eT).2 i hm),bB,decide_true];rfl
 ·have h0:=h
  rw [he] at h;have eT:x∈o.op.operands.toList:=cN x (by rw [aH]; simp);have gG:y∈o.op.operands.toList:=cN y (by rw [aH]; simp);unfold zM at h;split at h
  ·rename_i t0 bts d k n qd ga oh og
   obtain rfl:=AY h (λ _ _ _=>wx);refine E3.lay ga (g:=[]) (u:=.d0 true t0) (x:=List.replicate n.toNat t0.s4) (W:=OR.f7 (0<=n/\n<=140737488355328/\n*(t0.wb:Nat)<=140737488355328)) (λ _ _=>rfl) (λ _=>rfl) (by simp) h0 (λ t ha=>?_);rw [he,(ha x eT).1,(ha y gG).1];unfold zM;simp only [qd,ga,oh,og]
  ·cases h
 obtain ⟨x,y,T,F,hF,aH,he⟩:=key;have h0:=h;rw [he s rfl rfl] at h;have gU:∃ d g u l,o.dst=some d/\(∀ j∈g,(s.ev x).i8 j=true\/(s.ev y).i8 j=true)/\∀ t,Alike s t (s.ev x)->Alike s t (s.ev y)->F (s.ev x) (s.ev y) o.dst t=(St.lay t d g u l).f7 p:=by
  rcases hF with rfl|rfl
  ·exact Sp h
  ·exact Xr h
 obtain ⟨d,g,u,l,hd,hg,k⟩:=gU;have eT:x∈o.op.operands.toList:=cN x (by rw [aH]; simp);have gG:y∈o.op.operands.toList:=cN y (by rw [aH]; simp);refine E3.lay hd (g:=g) (u:=u) (x:=l) (W:=OR.f7 p) (λ _ _=>rfl) (λ _=>rfl) ?_ h0 (λ t ha=>?_)
 ·intro j hj
  rw [hT,I3,aH];rcases hg j hj with h|h<;>simp [St.J6,AV.i8,h]
 ·rw [he t (ha x eT).1 (ha y gG).1,(ha x eT).1,(ha y gG).1]
  exact k t (ha x eT).2 (ha y gG).2
end
end Go.Ex
namespace Go.Ex
section
variable {E:Env} {s t:St}
theorem ag {o:Oper} {x:Operand} (h:Y0 s t o.op.operands.toList) (hx:x∈o.op.operands.toList):t.ev x=s.ev x/\Alike s t (s.ev x):=⟨(h x hx).1,(h x hx).2⟩
theorem ob1 {i:Nat} {p:List Step} (h:Alike s t (.ptr i p)):t.obj i=s.obj i:=h i (by simp [AV.i8])
theorem ob2 {i:Nat} {p:List Step} (h:Alike s t (.at_ i p)):t.obj i=s.obj i:=h i (by simp [AV.i8])
theorem ob3 {i:Nat} {p:List Step} {a b:Int} (h:Alike s t (.sub i p a b)):t.obj i=s.obj i:=h i (by simp [AV.i8])
theorem b4k {o:Oper} {T:TypeId} {x:Operand} {n:Nat} (ho:o.op=.fieldAddr T x n) {p:Prop} {v:AV} {s1:St} (h:(l8 E o s).get=some (p,v,s1)):E3 E o s p v:=by
 have hx:x∈o.op.operands.toList:=by rw [ho]; simp [Op.operands]
 refine .ro h (λ t ha=>?_) (λ i hi=>⟨x,hx,?_⟩)
 ·obtain ⟨e1,e2⟩:=ag ha hx
  unfold l8;rw [ho];simp only [e1];cases hx:s.ev x with
  | ptr i q =>
   rw [hx] at e2;simp only [J1 (e2 i (by simp [AV.i8]))]
   repeat' (first|rfl|split)
  | val u z =>
   cases u with
   | box o0 g0 u0=>cases o0<;>cases g0<;>first|rfl|(dsimp only; repeat' (first|rfl|split))
   | _=>first|rfl|(dsimp only; repeat' (first|rfl|split))
  | _=>first|rfl|(dsimp only; split<;>rfl)
 ·unfold l8 at hi
  rw [ho] at hi;simp only at hi;cases hx:s.ev x with
  | ptr j q =>
   rw [hx] at hi;simp only at hi
   repeat' (split at hi)
   all_goals first|exact hi|(cases hi; done)
  | val u z =>
   rw [hx] at hi;exfalso;cases u with
   | box o0 g0 u0=>cases o0<;>cases g0<;>first|(cases hi; done)|(simp only at hi; repeat' (split at hi))<;>(cases hi)
   | _=>first|(cases hi; done)|(simp only at hi; repeat' (split at hi))<;>(cases hi)
  | _ =>
   rw [hx] at hi;simp only at hi
   repeat' (split at hi)
   all_goals first|exact hi|(cases hi; done)
theorem b4j {o:Oper} {T:TypeId} {x y:Operand} (ho:o.op=.indexAddr T x y) {p:Prop} {v:AV} {s1:St} (h:(l8 E o s).get=some (p,v,s1)):E3 E o s p v:=by
 have cN:x∈o.op.operands.toList:=by rw [ho]; simp [Op.operands]
 have lJ:y∈o.op.operands.toList:=by rw [ho]; simp [Op.operands]
 refine .ro h (λ t ha=>?_) (λ i hi=>⟨x,cN,?_⟩)
 ·obtain ⟨e1,e2⟩:=ag ha cN
  have e3:=(ag ha lJ).1;unfold l8;rw [ho];simp only [e1,e3]
  split
  ·rename_i hx _; rw [hx] at e2; (first|simp only [J1 (ob1 e2)]|simp only [J1 (ob2 e2)]) ; (generalize s.part _ _=pt; cases pt with|none=>rfl|some q=>(obtain ⟨u,z⟩:=q; cases u<;>first|rfl|(dsimp only; repeat' (first|rfl|split))|(rename_i o0 _; cases o0<;>first|rfl|(dsimp only; repeat' (first|rfl|split)))))
  ·repeat' (first|rfl|split)
  ·repeat' (first|rfl|split)
  ·rename_i hx _; rw [hx] at e2; (first|simp only [J1 (ob1 e2)]|simp only [J1 (ob2 e2)]) ; (generalize s.part _ _=pt; cases pt with|none=>rfl|some q=>(obtain ⟨u,z⟩:=q; cases u<;>first|rfl|(dsimp only; repeat' (first|rfl|split))|(rename_i o0 _; cases o0<;>first|rfl|(dsimp only; repeat' (first|rfl|split)))))
  ·rename_i hx _; rw [hx] at e2; simp only [DN (ob3 e2)] ; (generalize s.view _ _ _ _=pt; cases pt with|none=>rfl|some q=>(obtain ⟨u,z⟩:=q; dsimp only; repeat' (first|rfl|split)))
  ·rfl
 ·unfold l8 at hi
  rw [ho] at hi;simp only at hi;split at hi
  ·rename_i hx _; rw [hx]; repeat' (split at hi)
   all_goals first|exact hi|(cases hi; done)
  ·repeat' (split at hi)
   all_goals (cases hi; done)
  ·repeat' (split at hi)
   all_goals (cases hi; done)
  ·rename_i hx _; rw [hx]; repeat' (split at hi)
   all_goals first|exact hi|(cases hi; done)
  ·rename_i hx _; rw [hx]; repeat' (split at hi)
   all_goals first|exact hi|(cases hi; done)
  ·cases hi
theorem Zf {o:Oper} {T:TypeId} {x y:Operand} (ho:o.op=.index T x y) {p:Prop} {v:AV} {s1:St} (h:(l8 E o s).get=some (p,v,s1)):E3 E o s p v:=by
 have cN:x∈o.op.operands.toList:=by rw [ho]; simp [Op.operands]
 have lJ:y∈o.op.operands.toList:=by rw [ho]; simp [Op.operands]
 refine .ro h (λ t ha=>?_) (λ i hi=>⟨x,cN,?_⟩)
 ·obtain ⟨e1,e2⟩:=ag ha cN
  have e3:=(ag ha lJ).1;unfold l8;rw [ho];simp only [e1,e3]
  split
  ·split<;>rfl
  ·split<;>rfl
  ·rename_i hx _; rw [hx] at e2; (first|simp only [J1 (ob1 e2)]|simp only [J1 (ob2 e2)]) ; (generalize s.part _ _=pt; cases pt with|none=>rfl|some q=>(obtain ⟨u,z⟩:=q; cases u<;>first|rfl|(dsimp only; repeat' (first|rfl|split))|(rename_i o0 _; cases o0<;>first|rfl|(dsimp only; repeat' (first|rfl|split)))))
  ·rfl
 ·unfold l8 at hi
  rw [ho] at hi;simp only at hi;split at hi
  ·repeat' (split at hi)
   all_goals (cases hi; done)
  ·repeat' (split at hi)
   all_goals (cases hi; done)
  ·rename_i hx _; rw [hx]; repeat' (split at hi)
   all_goals first|exact hi|(cases hi; done)
  ·cases hi
theorem Zb {o:Oper} {T:TypeId} {x:Operand} {n:Nat} (ho:o.op=.field T x n) {p:Prop} {v:AV} {s1:St} (h:(l8 E o s).get=some (p,v,s1)):E3 E o s p v:=by
 have cN:x∈o.op.operands.toList:=by rw [ho]; simp [Op.operands]
 refine .ro h (λ t ha=>?_) (λ i hi=>⟨x,cN,?_⟩)
 ·obtain ⟨e1,e2⟩:=ag ha cN
  unfold l8;rw [ho];simp only [e1]
  split
  ·split<;>rfl
  ·rename_i hx; rw [hx] at e2; (first|simp only [J1 (ob1 e2)]|simp only [J1 (ob2 e2)]) ; (generalize s.part _ _=pt; cases pt with|none=>rfl|some q=>(obtain ⟨u,z⟩:=q; cases u<;>first|rfl|(dsimp only; repeat' (first|rfl|split))|(rename_i o0 _; cases o0<;>first|rfl|(dsimp only; repeat' (first|rfl|split)))))
  ·rfl
 ·unfold l8 at hi
  rw [ho] at hi;simp only at hi;split at hi
  ·repeat' (split at hi)
   all_goals (cases hi; done)
  ·rename_i hx; rw [hx]; repeat' (split at hi)
   all_goals first|exact hi|(cases hi; done)
  ·cases hi
theorem Vd {o:Oper} {c:Call} (ho:o.op=.call c) (hc:c.callee=.builtin .cap) {p:Prop} {v:AV} {s1:St} (h:(l8 E o s).get=some (p,v,s1)):E3 E o s p v:=by
 obtain ⟨x,T,ha,hT⟩:∃ x T,c.args.toList=[x]/\c.argTypes.toList=[T]:=by
  unfold l8 at h;rw [ho] at h;simp only [hc] at h;split at h
  ·exact ⟨_,_,by assumption,by assumption⟩
  ·cases h
 have ig:x∈o.op.operands.toList:=by rw [ho]; exact xm (by rw [ha]; simp)
 refine .ro h (λ t dn=>?_) (λ i hi=>?_)
 ·obtain ⟨e1,e2⟩:=ag dn ig
  unfold l8;rw [ho];simp only [hc,ha,hT,e1]
  repeat' (first|rfl|split)
 ·exfalso
  unfold l8 at hi;rw [ho] at hi;simp only [hc,ha,hT] at hi
  repeat' (split at hi)
  all_goals (cases hi)
theorem c0D {o:Oper} {T:TypeId} {x y:Operand} {ok:Bool} (ho:o.op=.lookup T x y ok) {p:Prop} {v:AV} {s1:St} (h:(l8 E o s).get=some (p,v,s1)):E3 E o s p v:=by
 unfold l8 at h; rw [ho] at h; cases h
theorem b7S {o:Oper} {T:TypeId} {r:Option Operand} (ho:o.op=.makeMap T r) {p:Prop} {v:AV} {s1:St} (h:(l8 E o s).get=some (p,v,s1)):E3 E o s p v:=by
 unfold l8 at h; rw [ho] at h; cases h
theorem Zy {o:Oper} {T:TypeId} {x:Operand} {lo hi mx:Option Operand} (ho:o.op=.slice T x lo hi mx) {p:Prop} {v:AV} {s1:St} (h:(l8 E o s).get=some (p,v,s1)):E3 E o s p v:=by
 have gQ:∀ y,y=x\/lo=some y\/hi=some y\/mx=some y->y∈o.op.operands.toList:=by
  rw [ho];rintro y (rfl|rfl|rfl|rfl)<;>simp [Op.operands]
 have cN:x∈o.op.operands.toList:=gQ x (.inl rfl);have he:∀ t,l8 E o t=xQ E T (t.ev x) lo hi mx t:=λ t=>by unfold l8; rw [ho]
 refine .ro h (λ t ha=>?_) (λ i cR=>⟨x,cN,?_⟩)
 ·obtain ⟨e1,e2⟩:=ag ha cN
  rw [he,he,e1];have b1:∀ d,bnd t d lo=bnd s d lo:=λ d=>Hg (λ y hy=>(ag ha (gQ y (.inr (.inl hy)))).1);have b2:∀ d,bnd t d hi=bnd s d hi:=λ d=>Hg (λ y hy=>(ag ha (gQ y (.inr (.inr (.inl hy))))).1);have b3:∀ d,bnd t d mx=bnd s d mx:=λ d=>Hg (λ y hy=>(ag ha (gQ y (.inr (.inr (.inr hy))))).1);unfold xQ;simp only [b1,b2,b3]
  split
  ·rfl
  ·split
   ·repeat' (first|rfl|split)
   ·repeat' (first|rfl|split)
   ·repeat' (first|rfl|split)
   ·repeat' (first|rfl|split)
   ·rename_i hx; rw [hx] at e2; (first|simp only [J1 (ob1 e2)]|simp only [J1 (ob2 e2)]) ; (generalize s.part _ _=pt; cases pt with|none=>rfl|some q=>(obtain ⟨u,z⟩:=q; cases u<;>first|rfl|(dsimp only; repeat' (first|rfl|split))|(rename_i o0 _; cases o0<;>first|rfl|(dsimp only; repeat' (first|rfl|split)))))
   ·rename_i hx; rw [hx] at e2; simp only [J1 (ob3 e2)] ; (generalize s.part _ _=pt; cases pt with|none=>rfl|some q=>(obtain ⟨u,z⟩:=q; cases u<;>first|rfl|(dsimp only; repeat' (first|rfl|split))|(rename_i o0 _; cases o0<;>first|rfl|(dsimp only; repeat' (first|rfl|split)))))
   ·rename_i hx; rw [hx] at e2; (first|simp only [J1 (ob1 e2)]|simp only [J1 (ob2 e2)]) ; (generalize s.part _ _=pt; cases pt with|none=>rfl|some q=>(obtain ⟨u,z⟩:=q; cases u<;>first|rfl|(dsimp only; repeat' (first|rfl|split))|(rename_i o0 _; cases o0<;>first|rfl|(dsimp only; repeat' (first|rfl|split)))))
   ·rfl
 ·rw [he] at cR
  unfold xQ at cR;split at cR
  ·cases cR
  ·split at cR
   ·repeat' (split at cR)
    all_goals (cases cR; done)
   ·repeat' (split at cR)
    all_goals (cases cR; done)
   ·repeat' (split at cR)
    all_goals (cases cR; done)
   ·repeat' (split at cR)
    all_goals (cases cR; done)
   ·rename_i hx; rw [hx]; repeat' (split at cR)
    all_goals first|exact cR|(cases cR; done)
   ·rename_i hx; rw [hx]; repeat' (split at cR)
    all_goals first|exact cR|(cases cR; done)
   ·rename_i hx; rw [hx]; repeat' (split at cR)
    all_goals first|exact cR|(cases cR; done)
   ·cases cR
theorem Vo {o:Oper} {c:Call} (ho:o.op=.call c) (hc:c.callee=.builtin .len) {p:Prop} {v:AV} {s1:St} (h:(l8 E o s).get=some (p,v,s1)):E3 E o s p v:=by
 obtain ⟨x,T,ha,hT⟩:∃ x T,c.args.toList=[x]/\c.argTypes.toList=[T]:=by
  unfold l8 at h;rw [ho] at h;simp only [hc] at h;split at h
  ·exact ⟨_,_,by assumption,by assumption⟩
  ·cases h
 have ig:x∈o.op.operands.toList:=by rw [ho]; exact xm (by rw [ha]; simp)
 refine .ro h (λ t dn=>?_) (λ i hi=>?_)
 ·obtain ⟨e1,e2⟩:=ag dn ig
  unfold l8;rw [ho];simp only [hc,ha,hT,e1]
  split
  ·repeat' (first|rfl|split)
  ·repeat' (first|rfl|split)
  ·repeat' (first|rfl|split)
  ·repeat' (first|rfl|split)
  ·rename_i hx; rw [hx] at e2; (first|simp only [J1 (ob1 e2)]|simp only [J1 (ob2 e2)]) ; (generalize s.part _ _=pt; cases pt with|none=>rfl|some q=>(obtain ⟨u,z⟩:=q; cases u<;>first|rfl|(dsimp only; repeat' (first|rfl|split))|(rename_i o0 _; cases o0<;>first|rfl|(dsimp only; repeat' (first|rfl|split)))|(rename_i o0 _ _; cases o0<;>first|rfl|(dsimp only; repeat' (first|rfl|split)))))
  ·rename_i hx; rw [hx] at e2; simp only [DN (ob3 e2)] ; (generalize s.view _ _ _ _=pt; cases pt with|none=>rfl|some q=>(obtain ⟨u,z⟩:=q; dsimp only; repeat' (first|rfl|split)))
  ·repeat' (first|rfl|split)
  ·rfl
 ·exfalso
  unfold l8 at hi;rw [ho] at hi;simp only [hc,ha,hT] at hi
  repeat' (split at hi)
  all_goals (cases hi)
theorem PE {k:IntKind} {f:Int->Int->Int}:∀ {l:List Operand} {n:Int},(∀ x∈l,t.ev x=s.ev x)->foldI t k f n l=(foldI s k f n l).wz t
 | [],n,_=>rfl
 | x::l,n,h=>by
  simp only [foldI,h x (by simp)]
  split
  ·split
   ·exact PE (λ y hy=>h y (by simp [hy]))
   ·rfl
  ·rfl
theorem JN {k:IntKind} {f:Int->Int->Int} {i:Nat}:∀ {l:List Operand} {n:Int},(foldI s k f n l).av.i8 i=true->False
 | [],n,h=>by cases h
 | x::l,n,h=>by
  simp only [foldI] at h;split at h
  ·split at h
   ·exact JN h
   ·cases h
  ·cases h
theorem RX {o:Oper} {c:Call} (ho:o.op=.call c) (hc:c.callee=.builtin .max\/c.callee=.builtin .min) {p:Prop} {v:AV} {s1:St} (h:(l8 E o s).get=some (p,v,s1)):E3 E o s p v:=by
 have cN:∀ x∈c.args.toList,x∈o.op.operands.toList:=λ x hx=>by rw [ho]; exact xm hx
 refine .ro h (λ t dn=>?_) (λ i hi=>?_)
 ·unfold l8
  rw [ho];rcases hc with hc|hc <;>
  ·simp only [hc]
   split
   ·rename_i x l ha
    rw [(dn x (cN x (by rw [ha]; simp))).1]
    split
    ·exact PE (λ y hy=>(dn y (cN y (by rw [ha]; simp [hy]))).1)
    ·rfl
   ·rfl
 ·exfalso
  unfold l8 at hi;rw [ho] at hi;rcases hc with hc|hc
  ·simp only [hc] at hi
   split at hi
   ·split at hi
    ·exact JN hi
    ·cases hi
   ·cases hi
  ·simp only [hc] at hi
   split at hi
   ·split at hi
    ·exact JN hi
    ·cases hi
   ·cases hi
theorem YR {o:Oper} {T:TypeId} {parts:Array (Nat×Operand)} (ho:o.op=.build T parts) {p:Prop} {v:AV} {s1:St} (h:(l8 E o s).get=some (p,v,s1)):E3 E o s p v:=by
 have ez:∀ t,Y0 s t o.op.operands.toList->∀ q∈parts.toList,t.ev q.2=s.ev q.2/\Alike s t (s.ev q.2):=λ t ha q hq=>ag ha (by rw [ho]; simp only [Op.operands]; simpa using ⟨q.1,by simpa using hq⟩);have key:∃ t0 r g,look T E.tt=some t0/\(t0.ty.agg && parts.toList.all (λ q=>wh t0.ty q.1))=true/\S5 s ⟨t0.ty,t0.ty.s4⟩ parts.toList=some (r,g):=by
  unfold l8 at h; rw [ho] at h;simp only at h;split at h
  ·split at h
   ·split at h
    ·exact ⟨_,_,_,by assumption,by assumption,by assumption⟩
    ·exact ⟨_,_,_,by assumption,by assumption,by assumption⟩
    ·cases h
   ·cases h
  ·cases h
 obtain ⟨t0,⟨u,y⟩,g,h1,h2,h3⟩:=key;have hb:∀ t,Y0 s t o.op.operands.toList->S5 t ⟨t0.ty,t0.ty.s4⟩ parts.toList=some (⟨u,y⟩,g):=λ t ha=>(Eg (s:=s) (t:=t) (ez t ha)).trans h3;cases g with
 | nil =>
  have he:∀ t,Y0 s t o.op.operands.toList->l8 E o t=.ok (.val u y) t:=λ t ha=>by unfold l8; rw [ho]; simp only [h1,h2,hb t ha]
  refine .ro h (λ t ha=>?_) (λ i hi=>?_)
  ·rw [he t ha,he s (.refl _ _)]; rfl
  ·rw [he s (.refl _ _)] at hi; cases hi
 | cons g0 g =>
  cases hd:o.dst with
  | none =>
   exfalso;unfold l8 at h; rw [ho] at h;simp only [h1,h2,h3,hd] at h;cases h
  | some d =>
   refine E3.lay hd (g:=g0::g) (u:=u) (x:=y) (W:=λ r=>r) (p:=p) (v:=v) (s1:=s1) ?_ (λ _=>rfl) ?_ h (λ t ha=>by unfold l8; rw [ho]; simp only [h1,h2,hb t ha,hd])
   ·have hp:p=True:=by
     unfold l8 at h; rw [ho] at h;simp only [h1,h2,h3,hd] at h;cases hl:s.lay d (g0::g) u y<;>rw [hl] at h
     ·cases h
     ·cases h; rfl
     ·exact absurd hl wx
    intro v s; rw [hp]; rfl
   ·intro i hi
    obtain ⟨q,hq,hm⟩:=EM h3 i hi;unfold l4;rw [ho];exact I3.2 (Jf (List.mem_map.2 ⟨q,hq,rfl⟩) hm)
theorem b2A {o:Oper} {T:TypeId} {n:Nat} {parts:Array (Nat×Operand)} (ho:o.op=.buildSlice T n parts) {p:Prop} {v:AV} {s1:St} (h:(l8 E o s).get=some (p,v,s1)):E3 E o s p v:=by
 have ez:∀ t,Y0 s t o.op.operands.toList->∀ q∈parts.toList,t.ev q.2=s.ev q.2/\Alike s t (s.ev q.2):=λ t ha q hq=>ag ha (by rw [ho]; simp only [Op.operands]; simpa using ⟨q.1,by simpa using hq⟩);have key:∃ t0 b d m t' l g,look T E.tt=some ⟨.d0 true t0,b⟩/\o.dst=some d/\(s.fresh d && parts.toList.all (λ q=>Nat.blt q.1 n) && Nat.ble (n*t0.size) 16777216)=true/\zh s n t0 parts.toList=some (⟨.arr m t',l⟩,g):=by
  unfold l8 at h; rw [ho] at h;simp only at h;split at h
  ·split at h
   ·split at h
    ·exact ⟨_,_,_,_,_,_,_,by assumption,by assumption,by assumption,by assumption⟩
    ·cases h
   ·cases h
  ·cases h
 obtain ⟨t0,b,d,m,t',l,g,h1,h2,h4,h5⟩:=key;have hb:∀ t,Y0 s t o.op.operands.toList->zh t n t0 parts.toList=some (⟨.arr m t',l⟩,g):=λ t ha=>by
  rw [<- h5]; unfold zh; rw [Eg (s:=s) (t:=t) (ez t ha),Eg (s:=s) (t:=t) (ez t ha)]
 obtain ⟨t9,_,h9⟩:=OG h5;have he:∀ t,Y0 s t o.op.operands.toList->t.fresh d=true->l8 E o t=t.lay d g (.d0 true t') l:=λ t ha hf=>by
  simp only [Bool.and_eq_true] at h4;unfold l8; rw [ho]; simp only [h1,h2,hf,h4.1.2,h4.2,hb t ha,Bool.and_self]
 have hf:s.fresh d=true:=by simp only [Bool.and_eq_true] at h4; exact h4.1.1
 have iV:∀ i∈g,i∈l4 E o s:=by
  intro i hi;obtain ⟨q,hq,hm⟩:=EM h9 i hi;unfold l4;rw [ho];exact I3.2 (Jf (List.mem_map.2 ⟨q,hq,rfl⟩) hm)
 rw [he s (.refl _ _) hf] at h;cases hl:s.lay d g (.d0 true t') l with
 | fail y=>rw [hl] at h; cases h
 | F3 q v s'=>exact absurd hl wx
 | ok v' s' =>
  rw [hl] at h;cases h;obtain ⟨k1,rfl,rfl,k4⟩:=MW hl;exact E3.obj h2 (e:=.own (.d0 true t') l) (g:=g) (λ i hi=>by simpa [AV.i8] using hi) k1 iV (λ t ha hu hf=>by rw [he t ha hf,Mg hf k4]; rfl)
theorem Va {o:Oper} {T:TypeId} {x:Operand} (ho:o.op=.box T x) {p:Prop} {v:AV} {s1:St} (h:(l8 E o s).get=some (p,v,s1)):E3 E o s p v:=by
 have cN:x∈o.op.operands.toList:=by rw [ho]; simp [Op.operands]
 have hT:l4 E o s=(s.ev x).G8:=by unfold l4; rw [ho]
 have key:∃ t0 d,look T E.tt=some t0/\o.dst=some d/\s.fresh d=true:=by
  unfold l8 at h; rw [ho] at h;simp only at h;split at h
  ·split at h
   ·exact ⟨_,_,by assumption,by assumption,by assumption⟩
   ·cases h
  ·cases h
 obtain ⟨t0,d,h1,h2,h3⟩:=key;have he:∀ t,t.fresh d=true->l8 E o t=(match (t.ev x).vj t with
    | some (⟨u,y⟩,g)=>if u.R6.sh=t0.ty.R6.sh then (match wm g && !g.contains d && g.all λ i=>!pinned i with
     | true=>.ok (.ptr d []) ((St.w7 g t).w6 d (.var u y))
     | false=>.fail "box: objects") else .fail "box: value"
    | none=>(match t.ev x,t0.ty with
     | .raw (.slice none 0 0),.d0 o u=>.ok (.ptr d []) (t.w6 d (.var (.d0 o u) ([]:List u.den)))
     | .ptr i p,.box _ none _=>.ok (.bx (.ptr i p)) t
     | _,_=>.fail "box: what")):=λ t ht=>by unfold l8; rw [ho]; simp only [h1,h2,ht]; rfl
 rw [he s h3] at h;split at h
 ·rename_i u y g cP
  split at h
  ·rename_i bZ
   split at h
   ·rename_i hc
    cases h;refine E3.obj h2 (e:=.var u y) (g:=g) (λ i hi=>by simpa [AV.i8] using hi) h3 (λ i hi=>by rw [hT]; exact I3.2 (EG cP i hi)) (λ t ha hu hf=>?_);obtain ⟨e1,e2⟩:=ag ha cN;rw [he t hf,e1];simp only [(yO e2).trans cP,bZ,if_true,hc];rfl
   ·cases h
  ·cases h
 ·rename_i cP
  split at h
  ·rename_i o' u hx kq
   cases h;refine E3.obj h2 (e:=.var (.d0 o' u) ([]:List u.den)) (g:=[]) (λ i hi=>by simpa [AV.i8] using hi) h3 (by simp) (λ t ha hu hf=>?_);obtain ⟨e1,e2⟩:=ag ha cN;have fi:=(yO e2).trans cP;rw [hx] at e1 fi;rw [he t hf,e1];simp only [fi,kq];rfl
  ·rename_i i q o0 u0 hx kq
   cases h;refine ⟨[d],λ u=>u,λ j=>if j=d then none else look j s.hp,Trim.id _,Qg h3,by simp [h2],λ j hj=>.inl ⟨x,cN,by rw [hx]; exact hj⟩,λ t hu ha hn=>?_⟩;have hf:=PF hu hn;obtain ⟨e1,e2⟩:=ag ha cN;have fi:=(yO e2).trans cP;rw [hx] at e1 fi;refine ⟨t,?_,hu,⟨λ n=>by simp,λ j=>?_⟩⟩
   ·rw [he t hf,e1]; simp only [fi,kq]; rfl
   ·by_cases hj:j=d
    ·subst hj
     rw [if_pos (.inr (by simp)),if_pos rfl];exact (hn j (by simp)).1
    ·by_cases iU:j∈l4 E o s
     ·rw [if_pos (.inl iU),if_neg hj]; exact Ac ha iU
     ·rw [if_neg (by simp [iU,hj])]
  ·cases h
theorem b8b {o:Oper} {T' T:TypeId} {x:Operand} (ho:o.op=.convert T' T x) {p:Prop} {v:AV} {s1:St} (h:(l8 E o s).get=some (p,v,s1)):E3 E o s p v:=by
 have cN:x∈o.op.operands.toList:=by rw [ho]; simp [Op.operands]
 by_cases hs:(∃ y,s.ev x=.val .str y)/\(∃ b,look T' E.tt=some ⟨.str,b⟩)/\(∃ b,look T E.tt=some ⟨.d0 true (.int .u8),b⟩)
 ·obtain ⟨⟨y,hy⟩,⟨b,hb⟩,⟨b',cQ⟩⟩:=hs
  cases hd:o.dst with
  | none =>
   exfalso;unfold l8 at h; rw [ho] at h;simp only [hy,hb,cQ,hd] at h;cases h
  | some d =>
   have he:∀ t,t.ev x=s.ev x->l8 E o t=t.lay d [] (.d0 true (.int .u8)) (List.map (λ b:UInt8=>(b.toNat:Int)) y:List Int):=λ t ht=>by
    unfold l8; rw [ho]; simp only [ht,hy,hb,cQ,hd]
   have hp:p=True:=by
    rw [he s rfl] at h;cases hl:s.lay d [] (.d0 true (.int .u8)) (List.map (λ b:UInt8=>(b.toNat:Int)) y:List Int)<;>rw [hl] at h
    ·cases h
    ·cases h; rfl
    ·exact absurd hl wx
   exact E3.lay hd (g:=[]) (W:=λ r=>r) (λ v s=>by rw [hp]; rfl) (λ _=>rfl) (by simp) h (λ t ha=>he t (ag ha cN).1)
 ·refine .ro h (λ t ha=>?_) (λ i hi=>?_)
  ·obtain ⟨e1,e2⟩:=ag ha cN
   unfold l8; rw [ho]; simp only [e1]
   split
   ·rfl
   ·rename_i hx oz oy
    exact absurd ⟨⟨_,hx⟩,⟨_,oz⟩,⟨_,oy⟩⟩ hs
   ·rw [Hv e2]
    repeat' (first|rfl|split)
   ·rfl
  ·exfalso
   unfold l8 at hi; rw [ho] at hi;simp only at hi;split at hi
   ·cases hi
   ·rename_i hx oz oy
    exact absurd ⟨⟨_,hx⟩,⟨_,oz⟩,⟨_,oy⟩⟩ hs
   ·repeat' (split at hi)
    all_goals (cases hi)
   ·cases hi
theorem b4g {o:Oper} {T:TypeId} {x y:Operand} (ho:o.op=.makeSlice T x y) {p:Prop} {v:AV} {s1:St} (h:(l8 E o s).get=some (p,v,s1)):E3 E o s p v:=by
 have cN:x∈o.op.operands.toList:=by rw [ho]; simp [Op.operands]
 have lJ:y∈o.op.operands.toList:=by rw [ho]; simp [Op.operands]
 have key:∃ t0 b d k n k' m,look T E.tt=some ⟨.d0 true t0,b⟩/\o.dst=some d/\s.ev x=.val (.int k) n/\s.ev y=.val (.int k') m/\E.rs.any Ty.GC=false:=by
  unfold l8 at h; rw [ho] at h;simp only at h;split at h
  ·cases h
  ·rename_i sk
   split at h
   ·exact ⟨_,_,_,_,_,_,_,by assumption,by assumption,by assumption,by assumption,sk⟩
   ·cases h
 obtain ⟨t0,b,d,k,n,k',m,h1,h2,h3,h4,pc⟩:=key;have he:∀ t,t.ev x=s.ev x->t.ev y=s.ev y->l8 E o t=(t.lay d [] (.d0 true t0) (List.replicate (Int.toNat n) t0.s4)).f7 (@LE.le Int Int.instLEInt 0 n/\@LE.le Int Int.instLEInt n m/\@LE.le Int Int.instLEInt m 140737488355328/\@LE.le Int Int.instLEInt (@HMul.hMul Int Int Int _ m (t0.wb:Nat)) 140737488355328):=λ t e1 e2=>by
  unfold l8; rw [ho]; simp only [e1,e2,pc,h1,h2,h3,h4]
 have h0:=h;rw [he s rfl rfl] at h;obtain rfl:=AY h (λ _ _ _=>wx);exact E3.lay h2 (g:=[]) (W:=OR.f7 _) (λ _ _=>rfl) (λ _=>rfl) (by simp) h0 (λ t ha=>he t (ag ha cN).1 (ag ha lJ).1)
theorem MR {v:AV} (h:Alike s t v):v.vO t=v.vO s:=by
 unfold AV.vO
 split
 ·rw [J1 (ob2 h)]
 ·rw [J1 (ob3 h)]
 ·rfl
theorem Qb {v:AV} {i:Nat} {p:List Step} {lo hi:Int} (h:v.vO s=some (i,p,lo,hi)):v.i8 i=true:=by
 unfold AV.vO at h;split at h
 ·split at h
  ·cases h; simp [AV.i8]
  ·cases h
 ·split at h
  ·cases h; simp [AV.i8]
  ·cases h
 ·cases h
theorem WQ {o:Oper} {c:Call} (ho:o.op=.call c) (hc:c.callee=.builtin .copy) {p:Prop} {v:AV} {s1:St} (h:(l8 E o s).get=some (p,v,s1)):E3 E o s p v:=by
 have cN:∀ x∈c.args.toList,x∈o.op.operands.toList:=λ x hx=>by rw [ho]; exact xm hx
 have hT:l4 E o s=(s.J6 c.args.toList).G8:=by unfold l4; rw [ho]; simp only [hc]
 have key:∃ x y T,c.args.toList=[x,y]/\∀ t,l8 E o t=zo E T (t.ev x) (t.ev y) t:=by
  unfold l8 at h;rw [ho] at h;simp only [hc] at h;split at h
  ·rename_i x y T U aH fF
   exact ⟨x,y,T,aH,λ t=>by unfold l8; rw [ho]; simp only [hc,aH,fF]⟩
  ·cases h
 obtain ⟨x,y,T,aH,he⟩:=key;rw [he] at h;have eT:x∈o.op.operands.toList:=cN x (by rw [aH]; simp);have gG:y∈o.op.operands.toList:=cN y (by rw [aH]; simp);unfold zo at h;split at h
 ·rename_i i q lo hi u m hd fj
  split at h
  ·rename_i s' hf bB
   simp only [OR.get,Option.some.injEq,Prod.mk.injEq] at h;obtain ⟨rfl,rfl,_⟩:=h;obtain ⟨ow,e',gL⟩:=Js hf;have hm:=Qb hd;refine E3.fill (i:=i) (ow:=ow) (e':=e') (by rw [hT,I3,aH]; simp [St.J6,AV.i8,hm]) (λ _=>rfl) (λ t ha=>?_);rw [he,(ha x eT).1,(ha y gG).1];unfold zo;rw [MR (ha x eT).2,Hv (ha y gG).2,hd,fj];simp only [gL t ((ha x eT).2 i hm),bB];rfl
  ·cases h
 ·cases h
theorem YX {o:Oper} {c:Call} (ho:o.op=.call c) (hc:c.callee=.builtin .clear) {p:Prop} {v:AV} {s1:St} (h:(l8 E o s).get=some (p,v,s1)):E3 E o s p v:=by
 have cN:∀ x∈c.args.toList,x∈o.op.operands.toList:=λ x hx=>by rw [ho]; exact xm hx
 have hT:l4 E o s=(s.J6 c.args.toList).G8:=by unfold l4; rw [ho]; simp only [hc]
 have key:∃ x T,c.args.toList=[x]/\∀ t,l8 E o t=zC E T (t.ev x) t:=by
  unfold l8 at h;rw [ho] at h;simp only [hc] at h;split at h
  ·rename_i x T aH fF
   exact ⟨x,T,aH,λ t=>by unfold l8; rw [ho]; simp only [hc,aH,fF]⟩
  ·cases h
 obtain ⟨x,T,aH,he⟩:=key;rw [he] at h;have eT:x∈o.op.operands.toList:=cN x (by rw [aH]; simp);unfold zC at h;split at h
 ·rename_i i q lo hi b u bts hd de
  split at h
  ·rename_i s' hf
   simp only [OR.get,Option.some.injEq,Prod.mk.injEq] at h;obtain ⟨rfl,rfl,_⟩:=h;obtain ⟨ow,e',gL⟩:=Js hf;have hm:=Qb hd;refine E3.fill (i:=i) (ow:=ow) (e':=e') (by rw [hT,I3,aH]; simp [St.J6,AV.i8,hm]) (λ _=>rfl) (λ t ha=>?_);rw [he,(ha x eT).1];unfold zC;rw [MR (ha x eT).2,hd,de];simp only [gL t ((ha x eT).2 i hm)];rfl
  ·cases h
 ·cases h
theorem b98 {o:Oper} {T:TypeId} {m x y:Operand} (ho:o.op=.mapUpdate T m x y) {p:Prop} {v:AV} {s1:St} (h:(l8 E o s).get=some (p,v,s1)):E3 E o s p v:=by
 unfold l8 at h; rw [ho] at h; cases h
theorem UQ {o:Oper} (iw:∀ a b c,o.op≠.pick a b c) {p:Prop} {v:AV} {s1:St} (h:(l8 E o s).get=some (p,v,s1)):E3 E o s p v:=by
 have cZ:∀ x,x∈o.op.operands.toList↔x∈o.op.operands.toList:=λ _=>Iff.rfl;cases ho:o.op with
 | move x =>
  have hx:x∈o.op.operands.toList:=by rw [ho]; simp [Op.operands]
  refine .ro h (λ t ha=>?_) (λ i hi=>⟨x,hx,?_⟩)
  ·unfold l8; rw [ho]; simp only [(ag ha hx).1]; rfl
  ·unfold l8 at hi; rw [ho] at hi; exact hi
 | assign x =>
  have hx:x∈o.op.operands.toList:=by rw [ho]; simp [Op.operands]
  refine .ro h (λ t ha=>?_) (λ i hi=>⟨x,hx,?_⟩)
  ·unfold l8; rw [ho]; simp only [(ag ha hx).1]; rfl
  ·unfold l8 at hi; rw [ho] at hi; exact hi
 | load T x =>
  have hx:x∈o.op.operands.toList:=by rw [ho]; simp [Op.operands]
  have hl:∀ t,l8 E o t=X8 E T (t.ev x) t:=λ t=>by unfold l8; rw [ho]
  refine .ro h (λ t ha=>?_) (λ i hi=>⟨x,hx,?_⟩)
  ·obtain ⟨e1,e2⟩:=ag ha hx
   rw [hl,hl,e1]; exact YA e2
  ·rw [hl] at hi; exact c0G hi
 | nilCheck x =>
  have hx:x∈o.op.operands.toList:=by rw [ho]; simp [Op.operands]
  refine .ro h (λ t ha=>?_) (λ i hi=>⟨x,hx,?_⟩)
  ·unfold l8; rw [ho]; simp only [(ag ha hx).1]; split<;>rfl
  ·unfold l8 at hi; rw [ho] at hi
   simp only at hi;split at hi<;>first|(cases hi; done)|(rename_i e; rw [e]; exact hi)
 | binOp op T x y T' =>
  have hx:x∈o.op.operands.toList:=by rw [ho]; simp [Op.operands]
  have hy:y∈o.op.operands.toList:=by rw [ho]; simp [Op.operands]
  have hl:∀ t,l8 E o t=wa E T op (t.ev x) (t.ev y) t:=λ t=>by unfold l8; rw [ho]
  refine .ro h (λ t ha=>?_) (λ i hi=>?_)
  ·rw [hl,hl,(ag ha hx).1,(ag ha hy).1]; exact UU ..
  ·exfalso
   rw [hl] at hi;unfold wa zi xF eqA wX wW yl arith at hi
   repeat' (split at hi)
   all_goals (cases hi)
 | unOp op T x =>
  have hx:x∈o.op.operands.toList:=by rw [ho]; simp [Op.operands]
  have hl:∀ t,l8 E o t=unA op (t.ev x) t:=λ t=>by unfold l8; rw [ho]
  refine .ro h (λ t ha=>?_) (λ i hi=>?_)
  ·rw [hl,hl,(ag ha hx).1]; exact VT ..
  ·exfalso
   rw [hl] at hi;unfold unA arith at hi
   repeat' (split at hi)
   all_goals (cases hi)
 | convert T' T x=>exact b8b ho h
 | fieldAddr T x n=>exact b4k ho h
 | indexAddr T x y=>exact b4j ho h
 | index T x y=>exact Zf ho h
 | field T x n=>exact Zb ho h
 | slice T x lo hi mx=>exact Zy ho h
 | makeSlice T x y=>exact b4g ho h
 | build T parts=>exact YR ho h
 | buildSlice T n parts=>exact b2A ho h
 | makeMap T r=>exact b7S ho h
 | lookup T x y ok=>exact c0D ho h
 | mapUpdate T m x y=>exact b98 ho h
 | box T x=>exact Va ho h
 | store T a x=>exact Zz ho h
 | extract x n =>
  have hx:x∈o.op.operands.toList:=by rw [ho]; simp [Op.operands]
  refine .ro h (λ t ha=>?_) (λ i hi=>⟨x,hx,?_⟩)
  ·unfold l8; rw [ho]; simp only [(ag ha hx).1]
   split
   ·split<;>rfl
   ·rfl
  ·unfold l8 at hi; rw [ho] at hi
   simp only at hi;split at hi
   ·rename_i l e
    split at hi
    ·rename_i v hv
     rw [e]; show l.i8 i=true; exact Iw hv hi
    ·cases hi
   ·cases hi
 | makeFunc fn first caps =>
  have dW:∀ x∈caps.toList,x∈o.op.operands.toList:=λ x hx=>by rw [ho]; simp only [Op.operands]; simp at hx ⊢; exact .inr hx
  have hcs:∀ t,Y0 s t o.op.operands.toList->t.J6 caps.toList=s.J6 caps.toList:=λ t ha=>zG (λ x hx=>(ag ha (dW x hx)).1);refine .ro h (λ t ha=>?_) (λ i hi=>?_)
  ·unfold l8; rw [ho]
   cases fn with
   | func f=>simp only [hcs t ha]; split<;>rfl
   | _=>rfl
  ·unfold l8 at hi; rw [ho] at hi
   cases fn with
   | func f =>
    simp only at hi;split at hi
    ·obtain ⟨x,hx,hi⟩:=Z8 (s:=s) (i:=i) (xs:=caps.toList) hi
     exact ⟨x,dW x hx,hi⟩
    ·cases hi
   | _=>cases hi
 | alloc T =>
  have key:∃ t0 d,look T E.tt=some t0/\o.dst=some d/\s.fresh d=true:=by
   unfold l8 at h; rw [ho] at h;simp only at h;split at h
   ·split at h
    ·exact ⟨_,_,by assumption,by assumption,by assumption⟩
    ·cases h
   ·cases h
  obtain ⟨t0,d,h1,h2,h3⟩:=key;have he:∀ t,t.fresh d=true->l8 E o t=.ok (.ptr d []) (t.w6 d (.var t0.ty t0.ty.s4)):=λ t ht=>by unfold l8; rw [ho]; simp only [h1,h2,ht]
  rw [he s h3] at h;simp only [OR.get,Option.some.injEq,Prod.mk.injEq] at h;obtain ⟨rfl,rfl,rfl⟩:=h;exact .obj h2 (g:=[]) (λ i hi=>by simpa [AV.i8] using hi) h3 (by simp) (λ t _ _ ht=>by rw [he t ht]; rfl)
 | call c =>
  cases hc:c.callee with
  | value f=>exact WL ho hc h
  | builtin b =>
   cases b<;>first
    | (exact Vo ho hc h)
    | (exact Vd ho hc h)
    | (exact c1S ho hc h)
    | (exact WQ ho hc h)
    | (exact YX ho hc h)
    | (exact RX ho (.inl hc) h)
    | (exact RX ho (.inr hc) h)
    | (exfalso; unfold l8 at h; rw [ho] at h; simp only [hc] at h; cases h)
  | _=>exfalso; unfold l8 at h; rw [ho] at h; simp only [hc] at h; cases h
 | pick a b c=>exact absurd ho (iw a b c)
 | _=>exfalso; unfold l8 at h; rw [ho] at h; cases h
end
end Go.Ex
namespace Go.Ex
def M2 (s t:St):Prop:=(∀ n,look n s.fr=look n t.fr)/\(∀ i,look i s.hp=look i t.hp)
theorem M2.refl (s:St):M2 s s:=⟨λ _=>rfl,λ _=>rfl⟩
theorem M2.symm {s t:St} (h:M2 s t):M2 t s:=⟨λ n=>(h.1 n).symm,λ n=>(h.2 n).symm⟩
theorem M2.trans {s t u:St} (h:M2 s t) (k:M2 t u):M2 s u:=⟨λ n=>(h.1 n).trans (k.1 n),λ n=>(h.2 n).trans (k.2 n)⟩
theorem W4 {m:Nat} {s:St} {d:Option Nat} {v:AV}:look m (s.put d v).fr=if d=some m then some v else look m s.fr:=by
 cases d with
 | none=>simp [St.put]
 | some d =>
  simp only [St.put,o6,Option.some.injEq];by_cases e:m=d
  ·subst e; simp
  ·rw [if_neg e,if_neg (λ h=>e h.symm)]
theorem wu {s:St} {d:Option Nat} {v:AV}:(s.put d v).hp=s.hp:=by cases d<;>rfl
theorem yT {s:St} {d:Option Nat} {v:AV} (h:uniq s.fr):uniq (s.put d v).fr:=by
 cases d with
 | none=>exact h
 | some d=>exact PV _ _ h
theorem M2.put {s t:St} (h:M2 s t) (d:Option Nat) (v:AV):M2 (s.put d v) (t.put d v) :=
 ⟨λ n=>by rw [W4,W4,h.1 n],λ i=>by rw [wu,wu,h.2 i]⟩
theorem M2.get {s t:St} (h:M2 s t) (m:Nat):s.get m=t.get m:=by simp only [St.get,h.1 m]
theorem M2.ev {s t:St} (h:M2 s t) (x:Operand):s.ev x=t.ev x:=by cases x<;>first|exact yK (h.get _)|rfl
theorem S6.eqv {s t:St} (h:M2 s t) {ids:List Nat} (hf:S6 s ids):S6 t ids :=
 λ n hn=>⟨(h.2 n).symm.trans (hf n hn).1,λ m v hv=>(hf n hn).2 m v ((h.1 m).trans hv)⟩
def AR (s t:St) (L:List Nat):Prop:=∀ m∈L,t.get m=s.get m/\∀ i,(s.get m).i8 i=true->t.obj i=s.obj i
theorem Lh (v:Value) (i:Nat):(ofConst v).i8 i=false:=by
 unfold ofConst
 split
 ·split<;>rfl
 ·rfl
 ·split<;>rfl
 ·rfl
theorem Bo {s:St} {x:Operand} {i:Nat} (h:(s.ev x).i8 i=true):∃ m,x=.tmp m/\(s.get m).i8 i=true:=by
 cases x with
 | tmp m=>exact ⟨m,rfl,EO h⟩
 | const v=>simp [St.ev,Lh] at h
 | global g=>cases h
 | func f=>cases h
theorem AR.agree {s t:St} {L:List Nat} (h:AR s t L) {xs:List Operand} (hL:∀ m,Operand.tmp m∈xs->m∈L):Y0 s t xs:=by
 intro x hx;refine ⟨?_,λ i hi=>?_⟩
 ·cases x with
  | tmp m=>exact yK (h m (hL m hx)).1
  | _=>rfl
 ·obtain ⟨m,rfl,hm⟩:=Bo hi
  exact (h m (hL m hx)).2 i hm
structure Put (s s1:St) (d:Option Nat) (T ids:List Nat) (f:AV->AV) (h:Nat->Option g9) (v:AV):Prop where
 fr:∀ n,look n s1.fr=if d=some n then some v else (look n s.fr).map f
 hp:∀ i,look i s1.hp=if i∈T\/i∈ids then h i else look i s.hp
section
variable {s t s1 t1:St} {d:Option Nat} {T ids:List Nat} {f:AV->AV} {h:Nat->Option g9} {v:AV}
theorem Put.eqv (hp:Put s s1 d T ids f h v) (he:M2 s t):Put t s1 d T ids f h v :=
 ⟨λ n=>by rw [hp.fr,he.1 n],λ i=>by rw [hp.hp,he.2 i]⟩
theorem Put.det (hp:Put s s1 d T ids f h v) (cE:Put t t1 d T ids f h v) (he:M2 s t):M2 s1 t1 :=
 ⟨λ n=>by rw [hp.fr,cE.fr,he.1 n],λ i=>by rw [hp.hp,cE.hp,he.2 i]⟩
theorem Put.get (hp:Put s s1 d T ids f h v) (hf:Trim T f) {m:Nat} (hm:d≠some m):s1.get m=f (s.get m):=by
 simp only [St.get,hp.fr,if_neg hm];cases look m s.fr with
 | none=>exact (hf.plain _ rfl).symm
 | some u=>rfl
end
theorem Yp {T:List Nat} {f:AV->AV} (hf:Trim T f):∀ {j:Nat} {l:AV},l8.nth j (f l)=(l8.nth j l).map f:=by
 have nope:∀ {j:Nat} {l:AV},(∀ a b,l≠.cons a b)->l8.nth j l=none:=by
  intro j l h;cases l with
  | cons a b=>exact absurd rfl (h a b)
  | _=>cases j<;>rfl
 have hn:∀ u:AV,(∀ a b,u≠.cons a b)->∀ a b,f u≠.cons a b:=by
  intro u hu a b e;cases u with
  | cons a b=>exact absurd rfl (hu a b)
  | K5 l=>rw [hf.K5] at e; cases e
  | C3 g l=>rw [hf.C3] at e; cases e
  | bx l=>rw [hf.bx] at e; cases e
  | rc g l=>rw [hf.rc] at e; cases e
  | ptr i p=>rcases hf.atom _ (rfl:(AV.ptr i p).ref=true) with h|h<;>rw [h] at e<;>cases e
  | at_ i p=>rcases hf.atom _ (rfl:(AV.at_ i p).ref=true) with h|h<;>rw [h] at e<;>cases e
  | sub i p x y=>rcases hf.atom _ (rfl:(AV.sub i p x y).ref=true) with h|h<;>rw [h] at e<;>cases e
  | _=>rw [hf.plain _ rfl] at e; cases e
 intro j
 induction j with
 | zero =>
  intro l;cases l with
  | cons a b=>rw [hf.cons]; rfl
  | _=>rw [nope (hn _ (by intro a b e; cases e)),nope (by intro a b e; cases e)]; rfl
 | succ j ih =>
  intro l;cases l with
  | cons a b=>rw [hf.cons]; exact ih
  | _=>rw [nope (hn _ (by intro a b e; cases e)),nope (by intro a b e; cases e)]; rfl
theorem xS (o:Oper):(∀ v,J4 o v=v)\/(o.guard=none/\∃ x j,o.op=.extract x j/\∀ v,J4 o v=(match v with
  | .K5 l=>(match l8.nth j l with
   | some v=>.K5 (.cons v .nil)
   | none=>.any)
  | _=>.any)):=by
 unfold J4
 split
 ·rename_i x j hg ho; exact .inr ⟨hg,x,j,ho,λ _=>rfl⟩
 ·exact .inl λ _=>rfl
theorem IJ {T:List Nat} {f:AV->AV} (hf:Trim T f) (o:Oper) (v:AV):J4 o (f v)=f (J4 o v):=by
 rcases xS o with h|⟨_,x,j,_,h⟩
 ·rw [h,h]
 ·rw [h,h]
  have dm:f .any=.any:=hf.plain _ rfl;cases v with
  | K5 l =>
   rw [hf.K5];simp only [Yp hf];cases hn:l8.nth j l with
   | none=>exact dm.symm
   | some u =>
    show AV.K5 (.cons (f u) .nil)=f (.K5 (.cons u .nil));rw [hf.K5,hf.cons,hf.plain .nil rfl]
  | cons a b=>rw [hf.cons]; exact dm.symm
  | C3 g l=>rw [hf.C3]; exact dm.symm
  | bx l=>rw [hf.bx]; exact dm.symm
  | rc g l=>rw [hf.rc]; exact dm.symm
  | ptr i p=>rcases hf.atom _ (rfl:(AV.ptr i p).ref=true) with e|e<;>rw [e]<;>exact dm.symm
  | at_ i p=>rcases hf.atom _ (rfl:(AV.at_ i p).ref=true) with e|e<;>rw [e]<;>exact dm.symm
  | sub i p x y=>rcases hf.atom _ (rfl:(AV.sub i p x y).ref=true) with e|e<;>rw [e]<;>exact dm.symm
  | _=>rw [hf.plain _ rfl]; try exact dm.symm
theorem BL {o:Oper} {v:AV} {i:Nat} (h:(J4 o v).i8 i=true):v.i8 i=true:=by
 rcases xS o with e|⟨_,x,j,_,e⟩
 ·rwa [e] at h
 ·rw [e] at h
  split at h
  ·rename_i l
   split at h
   ·rename_i u hu
    have:u.i8 i=true:=by simpa [AV.i8] using h
    show l.i8 i=true;exact Iw hu this
   ·cases h
  ·cases h
def xJ (o:Oper) (s t:St) (L:List Nat):Prop:=∀ m∈L,J4 o (t.get m)=J4 o (s.get m)/\∀ i,(J4 o (s.get m)).i8 i=true->t.obj i=s.obj i
theorem xJ.plain {o:Oper} (h:∀ v,J4 o v=v) {s t:St} {L:List Nat} (ha:xJ o s t L):AR s t L:=λ m hm=>by
 have:=ha m hm;simpa only [h] using this
theorem M2.xL {s t:St} (h:M2 s t) (o:Oper) (L:List Nat):xJ o s t L:=λ m _=>⟨by rw [h.get m],λ i _=>(h.2 i).symm⟩
def Eff (o:Oper) (run:St->Option (Prop×St)) (d:Option Nat) (L T:List Nat) (s:St) (p:Prop):Prop :=
 ∃ v ids f h,Trim T f/\S6 s ids/\(∀ n∈ids,n % 1000=(d.getD 0) % 1000) /\
  (∀ i,v.i8 i=true->(∃ m∈L,(J4 o (s.get m)).i8 i=true)\/i∈ids) /\
  ∀ t,uniq t.fr->xJ o s t L->S6 t ids->∃ t1,run t=some (p,t1)/\uniq t1.fr/\Put t t1 d T ids f h v
section
variable {E:Env} {ops:Array Oper} {s t:St}
theorem Py {o:Oper} {p:Prop} {s1:St} (h:W7 E o s=some (p,s1)) {L:List Nat} (hL:∀ m,Operand.tmp m∈o.op.operands.toList->m∈L):Eff o (W7 E o) o.dst L (l4 E o s) s p:=by
 rcases xS o with dU|⟨hY,x,j,cv,dU⟩
 rotate_left
 ·have hd:G3 E.nt o.dst=true:=by
   unfold W7 at h;split at h
   ·cases h
   ·assumption
  have hr:∀ t,W7 E o t=(match (match t.ev x with|.K5 l=>(match l8.nth j l with|some v=>OR.ok v t|none=>.fail "extract")|_=>.fail "extract").get with|none=>none|some (p,v,s')=>some (p,s'.put o.dst v)):=by
   intro t;unfold W7 l8;rw [hd,cv];rfl
  have hT:l4 E o s=[]:=by unfold l4; rw [cv]
  rw [hT];rw [hr] at h;have key:∃ m l v,x=.tmp m/\Nat.beq m I4=false/\s.get m=.K5 l/\l8.nth j l=some v/\p=True:=by
   cases x with
   | tmp m =>
    cases hv:s.ev (.tmp m) with
    | K5 l =>
     rw [hv] at h;cases hn:l8.nth j l with
     | some v =>
      simp only [hn,OR.get,Option.some.injEq,Prod.mk.injEq] at h;exact ⟨m,l,v,rfl,c0V hv nofun,BJ hv nofun,hn,h.1.symm⟩
     | none=>simp only [hn,OR.get] at h; cases h
    | _ =>
     rw [hv] at h;cases h
   | const c =>
    exfalso;have:∀ l,s.ev (.const c)≠.K5 l:=by
     intro l e;simp only [St.ev] at e;unfold ofConst at e
     repeat' split at e
     all_goals cases e
    revert h;cases hv:s.ev (.const c) with
    | K5 l=>exact absurd hv (this l)
    | _=>intro h; cases h
   | global g=>cases h
   | func f=>cases h
  obtain ⟨m,l,v,rfl,sl,hm,hn,rfl⟩:=key;have qJ:m∈L:=hL m (by rw [cv]; simp [Op.operands]);have km:J4 o (s.get m)=.K5 (.cons v .nil):=by rw [dU,hm]; simp only [hn]
  refine ⟨v,[],λ u=>u,λ _=>none,Trim.id _,by simp [S6],by simp,λ i hi=>.inl ⟨m,qJ,by rw [km]; simpa [AV.i8] using hi⟩,λ t hu ha _=>?_⟩;have e1:=(ha m qJ).1;rw [km,dU] at e1;have rG:∃ l',t.get m=.K5 l'/\l8.nth j l'=some v:=by
   split at e1
   ·rename_i l' ep
    split at e1
    ·rename_i v' fE
     cases e1;exact ⟨l',ep,fE⟩
    ·cases e1
   ·cases e1
  obtain ⟨l',f1,f2⟩:=rG;have rH:t.ev (.tmp m)=.K5 l':=Vi sl f1;exact ⟨t.put o.dst v,by rw [hr,rH]; simp only [f2]; rfl,yT hu,⟨λ n=>by rw [W4]; simp,λ i=>by rw [wu]; simp⟩⟩
 have kn:∀ {t:St},xJ o s t L->AR s t L:=λ ha=>ha.plain dU;by_cases hp:∃ a b c,o.op=.pick a b c
 ·obtain ⟨c,a,b,ho⟩:=hp
  have hd:G3 E.nt o.dst=true:=by
   unfold W7 at h;split at h
   ·cases h
   ·assumption
  have hr:∀ t,W7 E o t=(match t.ev c with|.val .bool g=>some (True,t.put o.dst (match g with|true=>t.ev a|false=>t.ev b))|_=>none):=by
   intro t;unfold W7;rw [hd,ho];rfl
  have hT:l4 E o s=[]:=by unfold l4; rw [ho]
  rw [hT];rw [hr] at h;have gQ:o.op.operands.toList=[c,a,b]:=by rw [ho]; rfl
  rw [gQ] at hL;have key:∃ g:Bool,s.ev c=.val .bool g:=by
   split at h
   ·exact ⟨_,by assumption⟩
   ·cases h
  obtain ⟨g,hg⟩:=key;rw [hg] at h;simp only [Option.some.injEq,Prod.mk.injEq] at h;obtain ⟨rfl,rfl⟩:=h;refine ⟨(if g=true then s.ev a else s.ev b),[],λ u=>u,λ _=>none,Trim.id _,by simp [S6],by simp,?_,?_⟩
  ·intro i hi
   cases g with
   | true=>obtain ⟨m,hm,hi⟩:=Bo hi; exact .inl ⟨m,hL m (by simp [<- hm]),by rw [dU]; exact hi⟩
   | false=>obtain ⟨m,hm,hi⟩:=Bo hi; exact .inl ⟨m,hL m (by simp [<- hm]),by rw [dU]; exact hi⟩
  ·intro t hu ha _
   have dn:=(kn ha).agree hL;have e1:=(dn c (by simp)).1;have e2:=(dn a (by simp)).1;have e3:=(dn b (by simp)).1;refine ⟨_,by rw [hr,e1,hg,e2,e3],yT hu,⟨λ n=>by rw [W4]; cases g<;>simp,λ i=>by rw [wu]; simp⟩⟩
 ·have cE:∀ a b c,o.op≠.pick a b c:=λ a b c e=>hp ⟨a,b,c,e⟩
  have hd:G3 E.nt o.dst=true:=by
   unfold W7 at h;split at h
   ·cases h
   ·assumption
  have hr:∀ t,W7 E o t=(match (l8 E o t).get with|none=>none|some (p,v,s')=>some (p,s'.put o.dst v)):=by
   intro t;unfold W7;rw [hd];cases ho:o.op<;>first|rfl|exact absurd ho (cE _ _ _)
  rw [hr] at h;split at h
  ·cases h
  ·rename_i p' v s' hg
   cases h;obtain ⟨ids,f,h,k1,k2,k3,k4,k5⟩:=UQ cE hg;refine ⟨v,ids,f,h,k1,k2,k3,?_,?_⟩
   ·intro i hi
    rcases k4 i hi with ⟨x,hx,hm⟩|hm
    ·obtain ⟨m,rfl,hm⟩:=Bo hm
     exact .inl ⟨m,hL m hx,by rw [dU]; exact EO hm⟩
    ·exact .inr hm
   ·intro t hu ha hf
    obtain ⟨t1,e1,e2,e3⟩:=k5 t hu ((kn ha).agree hL) hf;exact ⟨t1.put o.dst v,by rw [hr,e1],yT e2,⟨λ n=>by rw [W4,e3.fr],λ i=>by rw [wu,e3.hp]⟩⟩
theorem Iz {g:Nat} {v:AV} (hv:s.get g=v) (hn:v≠.any):M2 s (s.put (some g) v):=by
 refine ⟨λ n=>?_,λ i=>rfl⟩;rw [W4]
 split
 ·rename_i e
  cases e;simp only [St.get] at hv;cases hl:look g s.fr with
  | none=>rw [hl] at hv; exact absurd hv.symm hn
  | some w=>rw [hl] at hv; simp at hv; rw [hv]
 ·rfl
theorem xr {o:Oper} {m:Nat} (hm:Operand.tmp m∈o.op.operands.toList):m∈looks ops o:=List.mem_append_left _ (List.mem_filterMap.2 ⟨_,hm,rfl⟩)
theorem RQ {o:Oper} {i:Nat} (hi:i∈l4 E o s):∃ m∈looks ops o,(s.get m).i8 i=true:=by
 obtain ⟨x,hx,hm⟩:=KG hi;obtain ⟨m,rfl,hm⟩:=Bo hm;exact ⟨m,xr hx,EO hm⟩
theorem ZC {o:Oper} (h:∀ m∈looks ops o,t.get m=s.get m):l4 E o t=l4 E o s :=
 IE (λ x hx=>by
  cases x with
  | tmp m=>exact yK (h m (xr hx))
  | _=>rfl)
theorem b7H {o:Oper} {i:Nat} (hi:i∈l4 E o s):∃ m∈looks ops o,(J4 o (s.get m)).i8 i=true:=by
 rcases xS o with h|⟨_,x,j,cv,_⟩
 ·obtain ⟨m,hm,bV⟩:=RQ (ops:=ops) hi
  exact ⟨m,hm,by rw [h]; exact bV⟩
 ·unfold l4 at hi; rw [cv] at hi; cases hi
theorem RP {o:Oper} (h:∀ m∈looks ops o,J4 o (t.get m)=J4 o (s.get m)):l4 E o t=l4 E o s:=by
 rcases xS o with e|⟨_,x,j,cv,_⟩
 ·exact ZC (λ m hm=>by have:=h m hm; simpa only [e] using this)
 ·unfold l4; rw [cv]
theorem yR {o:Oper} (_hu:uniq s.fr) {p:Prop} {s1:St} (h:G7 E ops o s=some (p,s1)):Eff o (G7 E ops o) o.dst (looks ops o) (l4 E o s) s p:=by
 have hL:∀ m,Operand.tmp m∈o.op.operands.toList->m∈looks ops o:=λ m hm=>xr hm;cases hg:o.guard with
 | none =>
  have hr:∀ t,G7 E ops o t=W7 E o t:=λ t=>by unfold G7; rw [hg]
  rw [hr] at h;have:=Py h hL
  rwa [<- (funext hr:G7 E ops o=W7 E o)] at this
 | some jw =>
  obtain ⟨j,want⟩:=jw;have dU:∀ v,J4 o v=v:=by
   rcases xS o with e|⟨hY,_⟩
   ·exact e
   ·rw [hg] at hY; cases hY
  have kn:∀ {t:St} {L:List Nat},xJ o s t L->AR s t L:=λ ha=>ha.plain dU;cases hs:zY ops j with
  | none=>unfold G7 at h; rw [hg] at h; simp [hs] at h
  | some g =>
   have qR:g∈looks ops o:=by unfold looks; rw [hg]; simp [hs]
   have hr:∀ t,G7 E ops o t=(match t.ev (.tmp g) with
    | .raw (.tuple _)=>match G3 E.nt o.dst with
     | true=>some (True,t.put o.dst (.raw undef))
     | false=>none
    | .val .bool b=>match G3 E.nt o.dst with
     | false=>none
     | true=>match b == want with
      | true=>W7 E o (t.put (some g) (.val .bool b))
      | false=>some (True,(t.put (some g) (.val .bool b)).put o.dst (.raw undef))
    | _=>none):=λ t=>by unfold G7; rw [hg]; dsimp only; rw [hs]; rfl
   have skip:(∀ t,uniq t.fr->t.ev (.tmp g)=s.ev (.tmp g)->∃ t1,G7 E ops o t=some (True,t1)/\uniq t1.fr/\M2 t1 (t.put o.dst (.raw undef)))->Eff o (G7 E ops o) o.dst (looks ops o) (l4 E o s) s True:=by
    intro aP;refine ⟨.raw undef,[],λ u=>u,λ i=>look i s.hp,Trim.id _,by simp [S6],by simp,λ i hi=>by simp [AV.i8] at hi,λ t ko ha _=>?_⟩;have ha:=kn ha;obtain ⟨t1,e1,e2,e3⟩:=aP t ko (yK (ha g qR).1);refine ⟨t1,e1,e2,⟨λ n=>by rw [e3.1,W4]; simp,λ i=>?_⟩⟩;rw [e3.2,wu]
    split
    ·rename_i hi
     obtain ⟨m,hm,bV⟩:=RQ (ops:=ops) (by simpa using hi:i∈l4 E o s);exact (ha m hm).2 i bV
    ·rfl
   rw [hr] at h;cases hv:s.ev (.tmp g) with
   | raw w =>
    rw [hv] at h;cases w with
    | tuple vs =>
     simp only at h;cases hd:G3 E.nt o.dst with
     | false=>rw [hd] at h; cases h
     | true =>
      rw [hd] at h;simp only [Option.some.injEq,Prod.mk.injEq] at h;obtain ⟨rfl,rfl⟩:=h;exact skip (λ t ko ht=>⟨_,by rw [hr,ht,hv]; simp only [hd],yT ko,M2.refl _⟩)
    | _=>cases h
   | val u b =>
    rw [hv] at h;cases u with
    | bool =>
     simp only at h;cases hd:G3 E.nt o.dst with
     | false=>rw [hd] at h; cases h
     | true =>
      rw [hd] at h;simp only at h;cases hb:(b == want) with
      | false =>
       rw [hb] at h;simp only [Option.some.injEq,Prod.mk.injEq] at h;obtain ⟨rfl,rfl⟩:=h;exact skip (λ t ko ht=>⟨_,by rw [hr,ht,hv]; simp only [hd,hb],yT (yT ko),((Iz (BJ (ht.trans hv) (by simp)) (by simp)).symm.put _ _)⟩)
      | true =>
       rw [hb] at h;simp only at h;have bh:=Iz (BJ hv (by simp)) (by simp);obtain ⟨v,ids,f,hh,k1,k2,k3,k4,k5⟩:=Py h hL;have tp:l4 E o (s.put (some g) (.val .bool b))=l4 E o s:=IE (λ x _=>(bh.ev x).symm);rw [tp] at k1 k5;refine ⟨v,ids,f,hh,k1,k2.eqv bh.symm,k3,?_,?_⟩
       ·intro i hi
        rcases k4 i hi with ⟨m,hm,bV⟩|hm
        ·exact .inl ⟨m,hm,by rw [bh.get]; exact bV⟩
        ·exact .inr hm
       ·intro t ko ha hf
        have ha:=kn ha;have qC:t.ev (.tmp g)=.val .bool b:=(yK (ha g qR).1).trans hv;have bL:=Iz (BJ qC (by simp)) (by simp);obtain ⟨t1,e1,e2,e3⟩:=k5 (t.put (some g) (.val .bool b)) (yT ko) (λ m hm=>by
         rw [<- bL.get,<- bh.get,dU,dU];refine ⟨(ha m hm).1,λ i hi=>?_⟩;have:=(ha m hm).2 i hi;simpa [St.obj,wu] using this) (hf.eqv bL)
        refine ⟨t1,by rw [hr,qC]; simp only [hd,hb,e1],e2,e3.eqv bL.symm⟩
    | _=>cases h
   | _=>rw [hv] at h; cases h
theorem Qo {o:Oper} (hu:uniq s.fr) (he:M2 s t) (ht:uniq t.fr) {p:Prop} {s1:St} (h:G7 E ops o s=some (p,s1)):∃ t1,G7 E ops o t=some (p,t1)/\uniq t1.fr/\M2 s1 t1:=by
 obtain ⟨v,ids,f,hh,k1,k2,k3,k4,k5⟩:=yR hu h;obtain ⟨s1',e1,_,e3⟩:=k5 s hu ((M2.refl s).xL _ _) k2;rw [h] at e1; cases e1;obtain ⟨t1,f1,f2,f3⟩:=k5 t ht (he.xL _ _) (k2.eqv he);exact ⟨t1,f1,f2,e3.det f3 he⟩
theorem P6 {o:Oper} (hu:uniq s.fr) {p:Prop} {s1:St} (h:G7 E ops o s=some (p,s1)):uniq s1.fr:=by
 obtain ⟨t1,h1,h2,_⟩:=Qo hu (M2.refl s) hu h;rw [h] at h1; cases h1; exact h2
theorem RD:∀ {v:AV} {i:Nat},v.clean=true->v.i8 i=false:=by
 intro v
 induction v with
 | cons a b iha ihb =>
  intro i h;simp only [AV.clean,Bool.and_eq_true] at h;simp [AV.i8,iha h.1,ihb h.2]
 | K5 l ih=>intro i h; exact ih h
 | C3 f l ih=>intro i h; exact ih h
 | bx l ih=>intro i h; exact ih h
 | rc f l ih=>intro i h; exact ih h
 | ptr i p=>intro i h; cases h
 | at_ i p=>intro i h; cases h
 | sub i p a b=>intro i h; cases h
 | _=>intro i h; rfl
theorem b7P {o:Oper} (hu:uniq s.fr) {p:Prop} {s1:St} (h:G7 E ops o s=some (p,s1)) {m:Nat} (hm:o.dst≠some m) (hc:(s.get m).clean=true):(s1.get m).clean=true:=by
 obtain ⟨v,ids,f,hh,k1,k2,k3,k4,k5⟩:=yR hu h;obtain ⟨s1',e1,_,e3⟩:=k5 s hu ((M2.refl s).xL _ _) k2;rw [h] at e1; cases e1;rw [e3.get k1 hm,k1.fix _ (λ i _=>RD hc)];exact hc
end
end Go.Ex
namespace Go.Ex
section
variable {E:Env} {ops:Array Oper} {s t:St}
theorem get_some {m:Nat} {v:AV} (h:look m s.fr=some v):s.get m=v:=by simp [St.get,h]
theorem Xb {m i:Nat} (h:(s.get m).i8 i=true):∃ v,look m s.fr=some v/\v.i8 i=true:=by
 simp only [St.get] at h;cases hl:look m s.fr with
 | none=>rw [hl] at h; cases h
 | some v=>rw [hl] at h; exact ⟨v,rfl,h⟩
theorem RU {x y:Oper} (h:indep ops x y=true):(∀ d,x.dst=some d->d∉looks ops y)/\(∀ d,y.dst=some d->d∉looks ops x)/\(x.dst.getD 0) % 1000≠(y.dst.getD 0) % 1000:=by
 simp only [indep,Bool.and_eq_true,Bool.not_eq_true',Md] at h;obtain ⟨⟨h3,h4⟩,h5⟩:=h;refine ⟨?_,?_,λ e=>?_⟩
 ·intro d hd
  rw [hd] at h3;simp only [Bool.and_eq_true,Bool.not_eq_true'] at h3;intro hm;have:=h3.1;simp [hm] at this
 ·intro d hd
  rw [hd] at h4;simp only [Bool.not_eq_true'] at h4;intro hm;simp [hm] at h4
 ·rw [e] at h5
  simp at h5
theorem DY {ids:List Nat} (hn:S6 s ids) {n m:Nat} (h:n∈ids):(s.get m).i8 n=false:=by
 cases hm:(s.get m).i8 n with
 | false=>rfl
 | true =>
  obtain ⟨v,hv,qy⟩:=Xb hm;rw [(hn n h).2 m v hv] at qy; cases qy
theorem Wp {u:AV} (hr:u.ref=true) {i j:Nat} (h1:u.i8 i=true) (h2:u.i8 j=true):i=j:=by
 cases u<;>simp only [AV.ref] at hr<;>first|(cases hr; done)|(simp only [AV.i8] at h1 h2; exact (Nat.eq_of_beq_eq_true h1).trans (Nat.eq_of_beq_eq_true h2).symm)
theorem c0s {u:AV} (h:u.plain=true) {i:Nat}:u.i8 i=false:=by
 cases u<;>simp only [AV.plain] at h<;>first|rfl|(cases h; done)
theorem Trim.stay {T:List Nat} {f:AV->AV} (hf:Trim T f) {n:Nat} (hn:n∉T):∀ u:AV,u.i8 n=true->(f u).i8 n=true:=by
 refine AV.shape _ (λ u hu h=>?_) (λ u hu h=>?_) ?_ ?_ ?_ ?_ ?_
 ·rw [c0s hu] at h; cases h
 ·rw [hf.wT u hu (λ i hi=>?_)]
  ·exact h
  ·cases hm:u.i8 i with
   | false=>rfl
   | true=>exact absurd (Wp hu hm h▸hi) hn
 ·intro a b ha hb h
  rw [hf.cons];simp only [AV.i8,Bool.or_eq_true] at h ⊢;exact h.imp ha hb
 ·intro l hl h; rw [hf.K5]; exact hl h
 ·intro k l hl h; rw [hf.C3]; exact hl h
 ·intro l hl h; rw [hf.bx]; exact hl h
 ·intro k l hl h; rw [hf.rc]; exact hl h
theorem swap {x y:Oper} (hi:indep ops x y=true) (hu:uniq s.fr) (hx:∀ d,x.dst=some d->(s.get d).clean=true) {p q:Prop} {s1 s2:St} (h1:G7 E ops x s=some (p,s1)) (h2:G7 E ops y s1=some (q,s2))
  (hP:wG ops x s (l4 E x s) y (l4 E y s1)) :
  ∃ s1' s2',G7 E ops y s=some (q,s1')/\G7 E ops x s1'=some (p,s2')/\uniq s1'.fr/\uniq s2'.fr/\M2 s2' s2/\l4 E y s=l4 E y s1/\l4 E x s1'=l4 E x s /\
   (∀ m∈looks ops x,J4 x (s1'.get m)=J4 x (s.get m))/\∀ (z:Oper) m,∀ i∈l4 E x s,(J4 z (s1'.get m)).i8 i=true->(J4 z (s.get m)).i8 i=true:=by
 obtain ⟨ax,ay,jl⟩:=RU hi;obtain ⟨P1,P2,P3⟩:=hP;have lN:=P6 hu h1;obtain ⟨v,ids,f,g,k1,k2,k3,k4,k5⟩:=yR hu h1;obtain ⟨_,e1,_,iq⟩:=k5 s hu ((M2.refl s).xL _ _) k2;rw [h1] at e1; cases e1;obtain ⟨v',ids',f',g',m1,m2,m3,m4,m5⟩:=yR lN h2;obtain ⟨_,e2,_,jg⟩:=m5 s1 lN ((M2.refl s1).xL _ _) m2;rw [h2] at e2; cases e2;have jY:∀ d,x.dst=some d->y.dst=some d->False:=λ d e1 e2=>jl (by rw [e1,e2]);have cB:∀ m∈looks ops y,J4 y (s1.get m)=J4 y (s.get m):=by
  intro m hm;rw [iq.get k1 (λ e=>ax m e hm),IJ k1,k1.fix _ (λ i hi=>P1 m hm i hi)]
 have tm:l4 E y s=l4 E y s1:=(RP cB).symm;have nc:∀ i∈l4 E y s1,∃ m∈looks ops y,(J4 y (s.get m)).i8 i=true:=by
  intro i hi;obtain ⟨m,hm,bV⟩:=b7H (ops:=ops) hi;exact ⟨m,hm,by rw [<- cB m hm]; exact bV⟩
 have d1:∀ i∈l4 E x s,i∉l4 E y s1:=by
  intro i hi hj;obtain ⟨m,hm,bV⟩:=nc i hj;rw [P1 m hm i hi] at bV; cases bV
 have d2:∀ i∈ids,i∉l4 E y s1:=by
  intro i hi hj;obtain ⟨m,hm,bV⟩:=nc i hj;have bV:=BL bV;rw [DY k2 hi] at bV; cases bV
 have d3:∀ i∈l4 E x s,i∉ids':=λ i hi hj=>P3 i hi (m3 i hj);have d4:∀ i∈ids,i∉ids':=λ i hi hj=>jl ((k3 i hi).symm.trans (m3 i hj));have fO:∀ i,i∉l4 E x s->i∉ids->look i s1.hp=look i s.hp:=λ i h1 h2=>by rw [iq.hp,if_neg (by rintro (h|h); exact h1 h; exact h2 h)]
 have dn:xJ y s1 s (looks ops y):=by
  intro m hm;refine ⟨(cB m hm).symm,λ i hi=>?_⟩;rw [cB m hm] at hi;refine (fO i (λ h=>?_) (λ h=>?_)).symm
  ·rw [P1 m hm i h] at hi; cases hi
  ·have hi:=BL hi
   rw [DY k2 h] at hi; cases hi
 have jt:S6 s ids':=by
  intro n hn;refine ⟨?_,λ m w hw=>?_⟩
  ·rw [<- fO n (λ h=>d3 n h hn) (λ h=>d4 n h hn)]; exact (m2 n hn).1
  ·by_cases hd:x.dst=some m
   ·have:=hx m hd
    rw [get_some hw] at this;exact RD this
   ·cases ru:w.i8 n with
    | false=>rfl
    | true =>
     have:=k1.stay (λ h=>d3 n h hn) w ru;have h3:=(m2 n hn).2 m (f w) (by rw [iq.fr,if_neg hd,hw]; rfl);rw [this] at h3; cases h3
 obtain ⟨s1',f1,fu,fI⟩:=m5 s hu dn jt;have iE:∀ m∈looks ops x,J4 x (s1'.get m)=J4 x (s.get m):=by
  intro m hm;rw [fI.get m1 (λ e=>ay m e hm),IJ m1,m1.fix _ (λ i hi=>P2 m hm i hi)]
 have pY:xJ x s s1' (looks ops x):=by
  intro m hm;refine ⟨iE m hm,λ i hi=>?_⟩;show look i s1'.hp=look i s.hp;rw [fI.hp,if_neg];rintro (h|h)
  ·rw [P2 m hm i h] at hi; cases hi
  ·have hi:=BL hi
   rw [DY jt h] at hi; cases hi
 have fE:∀ i,v'.i8 i=true->i∉l4 E x s/\i∉ids:=by
  intro i hi;rcases m4 i hi with ⟨m,hm,bV⟩|bV
  ·rw [cB m hm] at bV
   refine ⟨λ h=>?_,λ h=>?_⟩
   ·rw [P1 m hm i h] at bV; cases bV
   ·have bV:=BL bV
    rw [DY k2 h] at bV; cases bV
  ·exact ⟨λ h=>d3 i h bV,λ h=>d4 i h bV⟩
 have hv:∀ i,v.i8 i=true->i∉l4 E y s1:=by
  intro i hi;rcases k4 i hi with ⟨m,hm,bV⟩|bV
  ·exact λ h=>by rw [P2 m hm i h] at bV; cases bV
  ·exact d2 i bV
 have pB:S6 s1' ids:=by
  intro n hn;refine ⟨?_,λ m w hw=>?_⟩
  ·rw [fI.hp,if_neg]
   ·exact (k2 n hn).1
   ·rintro (h|h)
    ·exact d2 n hn h
    ·exact d4 n hn h
  ·rw [fI.fr] at hw
   split at hw
   ·cases hw
    cases hm:v'.i8 n with
    | false=>rfl
    | true=>exact absurd hn (fE n hm).2
   ·cases hl:look m s.fr with
    | none=>rw [hl] at hw; cases hw
    | some u =>
     rw [hl] at hw;cases hw;cases hm:(f' u).i8 n with
     | false=>rfl
     | true=>have:=m1.i8 u hm; rw [(k2 n hn).2 m u hl] at this; cases this
 obtain ⟨s2',g1,gu,lR⟩:=k5 s1' fu pY pB;refine ⟨s1',s2',f1,g1,fu,gu,⟨λ n=>?_,λ i=>?_⟩,tm,RP iE,iE,?_⟩
 ·rw [lR.fr,jg.fr,fI.fr,iq.fr]
  by_cases a:x.dst=some n
  ·rw [if_pos a,if_neg (λ b=>jY n a b),if_pos a,Option.map_some,m1.fix v]
   intro i hi;cases hm:v.i8 i with
   | false=>rfl
   | true=>exact absurd hi (hv i hm)
  ·rw [if_neg a,if_neg a]
   by_cases b:y.dst=some n
   ·rw [if_pos b,if_pos b,Option.map_some,k1.fix v']
    intro i hi;cases hm:v'.i8 i with
    | false=>rfl
    | true=>exact absurd hi (fE i hm).1
   ·rw [if_neg b,if_neg b,Option.map_map,Option.map_map]
    congr 1
    funext u
    exact k1.comm m1 u
 ·rw [lR.hp,jg.hp,fI.hp,iq.hp]
  by_cases a:i∈l4 E x s\/i∈ids
  ·rw [if_pos a,if_neg,if_pos a]
   rintro (b|b)
   ·rcases a with a|a
    ·exact d1 i a b
    ·exact d2 i a b
   ·rcases a with a|a
    ·exact d3 i a b
    ·exact d4 i a b
  ·rw [if_neg a,if_neg a]
 ·intro z m i hi hm
  by_cases b:y.dst=some m
  ·have:s1'.get m=v':=get_some (by rw [fI.fr,if_pos b])
   rw [this] at hm;exact absurd hi (fE i (BL hm)).1
  ·rw [fI.get m1 b,IJ m1] at hm
   exact m1.i8 _ hm
end
end Go.Ex
namespace Go.Ex
section
variable {E:Env} {ops:Array Oper} {M:Nat->Nat} {s t:St}
def rem (ops:Array Oper) (l:List Nat):List Oper:=l.filterMap λ i=>ops[i]?
theorem Eb {i:Nat} {o:Oper} {l:List Nat} (h:ops[i]?=some o):rem ops (i::l)=o::rem ops l:=by simp [rem,h]
theorem Bq {l m:List Nat}:rem ops (l++m)=rem ops l++rem ops m:=by simp [rem,List.filterMap_append]
def M9 (s:St) (l:List Oper):Prop:=∀ o∈l,∀ d,o.dst=some d->(s.get d).clean=true
def N4:List Oper->Prop
 | []=>True
 | o::l=>(∀ d,o.dst=some d->∀ x∈l,x.dst≠some d)/\N4 l
theorem M9.sub {l l':List Oper} (h:M9 s l) (hs:∀ o∈l',o∈l):M9 s l':=λ o ho=>h o (hs o ho)
def nl (ops:Array Oper) (l:List Nat):List Nat:=l.filter (λ j=>!yC ops j)
theorem Mj {l m:List Nat}:nl ops (l++m)=nl ops l++nl ops m:=by simp [nl]
theorem Uk {l:List Nat} {i:Nat} (hi:i<ops.size) (h:∀ j∈l,j<i) (hm:∀ j∈l,((D7 ops.toList []).getD i 0).testBit j=false):nl ops l=l :=
 List.filter_eq_self.2 (λ j hj=>by
  cases e:yC ops j with
  | false=>rfl
  | true =>
   unfold yC at e;rw [List.all_eq_true] at e;have:=e i (List.mem_range.2 hi);rw [hm j hj,show Nat.blt j i=true by rw [Nat.blt_eq]; exact h j hj] at this;cases this)
theorem b72 {j:Nat} (h:yC ops j=false):j+1<ops.size:=by
 rcases Nat.lt_or_ge (j+1) ops.size with h1|h1
 ·exact h1
 ·exfalso
  have:yC ops j=true:=by
   unfold yC;rw [List.all_eq_true];intro i hi;have:=List.mem_range.1 hi;have:Nat.blt j i=false:=by
    cases e:Nat.blt j i with
    | false=>rfl
    | true=>rw [Nat.blt_eq] at e; omega
   rw [this]; rfl
  rw [this] at h; cases h
theorem Ul {l:List Nat}:∀ o∈rem ops (nl ops l),o∈rem ops l:=λ o ho=>by
 obtain ⟨j,h1,h2⟩:=List.mem_filterMap.1 ho;exact List.mem_filterMap.2 ⟨j,(List.mem_filter.1 h1).1,h2⟩
theorem M9.step {o:Oper} {l:List Oper} (hu:uniq s.fr) (hc:M9 s l) (hd:∀ x∈l,∀ d,x.dst=some d->o.dst≠some d) {p:Prop} {s1:St} (h:G7 E ops o s=some (p,s1)):M9 s1 l :=
 λ x hx d fV=>b7P hu h (hd x hx d fV) (hc x hx d fV)
def Uc (E:Env) (ops:Array Oper) (acc bF:List (Nat×St)):Prop :=
 ∀ e'∈bF,∃ e∈acc,e.1=e'.1/\∀ x,ops[e.1]?=some x->(∀ m∈looks ops x,J4 x (e'.2.get m)=J4 x (e.2.get m))/\l4 E x e'.2=l4 E x e.2/\∀ (z:Oper) m,∀ k∈l4 E x e.2,(J4 z (e'.2.get m)).i8 k=true->(J4 z (e.2.get m)).i8 k=true
theorem wG.zd {x:Oper} {sx sx':St} {y:Oper} {Ty Ty':List Nat} (h:wG ops x sx (l4 E x sx) y Ty) (h1:∀ m∈looks ops x,J4 x (sx'.get m)=J4 x (sx.get m)) (h2:l4 E x sx'=l4 E x sx) (h3:∀ (z:Oper) m,∀ k∈l4 E x sx,(J4 z (sx'.get m)).i8 k=true->(J4 z (sx.get m)).i8 k=true) (hT:Ty'=Ty) :
  wG ops x sx' (l4 E x sx') y Ty':=by
 subst hT;obtain ⟨P1,P2,P3⟩:=h;rw [h2];refine ⟨λ m hm i hi=>?_,λ m hm i hi=>by rw [h1 m hm]; exact P2 m hm i hi,P3⟩;cases hh:(J4 y (sx'.get m)).i8 i with
 | false=>rfl
 | true=>have:=h3 y m i hi hh; rw [P1 m hm i hi] at this; cases this
theorem Rc {o:Oper} (h:M2 s t):l4 E o t=l4 E o s:=IE (λ x _=>(h.ev x).symm)
theorem KK:∀ {l:List Nat} {acc bF:List (Nat×St)} {s t s':St},Uc E ops acc bF->uniq s.fr->M2 s t->uniq t.fr->uX E ops M acc l s s'->∃ t',uX E ops M bF l t t'/\M2 s' t'
 | [],acc,bF,s,t,s',_,_,he,_,h=>⟨t,rfl,by rw [<- show s=s' from h]; exact he⟩
 | i::l,acc,bF,s,t,s',hg,hu,he,ht,⟨o,ho,hc,p,s1,h1,h2,h3⟩=>by
  obtain ⟨t1,k1,k2,k3⟩:=Qo hu he ht h1;obtain ⟨t',m1,m2⟩:=KK (acc:=(i,s)::acc) (bF:=(i,t)::bF) (λ e' eA=>by
   rcases List.mem_cons.1 eA with rfl|eA
   ·exact ⟨(i,s),by simp,rfl,λ x _=>⟨λ m _=>by show J4 x (t.get m)=J4 x (s.get m); rw [he.get m],Rc he,λ z m k _ hm=>by have hm:(J4 z (t.get m)).i8 k=true:=hm; rw [<- he.get m] at hm; exact hm⟩⟩
   ·obtain ⟨e,h4,h5,h6⟩:=hg e' eA; exact ⟨e,by simp [h4],h5,h6⟩) (P6 hu h1) k3 k2 h3
  refine ⟨t',⟨o,ho,λ e' eA=>?_,p,t1,k1,h2,m1⟩,m2⟩;obtain ⟨e,h4,h5,h6⟩:=hg e' eA;rw [<- h5];rcases hc e h4 with h|⟨x,hx,hP⟩
  ·exact .inl h
  ·obtain ⟨g1,g2,g3⟩:=h6 x hx
   exact .inr ⟨x,hx,hP.zd g1 g2 g3 (Rc he)⟩
theorem Dn {i:Nat} {o:Oper} (ho:ops[i]?=some o) {post:List Nat}:∀ {pre:List Nat} {acc:List (Nat×St)} {s s':St},N4 (rem ops (pre++i::post))->(∀ j∈pre,(M i).testBit j=false/\∀ x,ops[j]?=some x->indep ops x o=true)->uniq s.fr->M9 s (rem ops pre) ->
  uX E ops M acc (pre++i::post) s s' ->
  ∃ p s1 s2,G7 E ops o s=some (p,s1)/\p/\uX E ops M acc (pre++post) s1 s2/\M2 s2 s'/\∀ e∈acc,(M i).testBit e.1=true\/∃ x,ops[e.1]?=some x/\wG ops x e.2 (l4 E x e.2) o (l4 E o s)
 | [],acc,s,s',_,_,hu,_,⟨o',eR,hc,p,s1,h1,h2,h3⟩=>by
  rw [ho] at eR; cases eR;obtain ⟨t',m1,m2⟩:=KK (acc:=(i,s)::acc) (bF:=acc) (λ e he=>⟨e,by simp [he],rfl,λ x _=>⟨λ _ _=>rfl,rfl,λ _ _ _ _ h=>h⟩⟩) (P6 hu h1) (M2.refl s1) (P6 hu h1) h3;exact ⟨p,s1,t',h1,h2,m1,m2.symm,hc⟩
 | j::pre,acc,s,s',fb,cZ,hu,cD,⟨x,hx,hc,p,s1,h1,h2,h3⟩=>by
  have lN:=P6 hu h1;have er:rem ops (j::pre++i::post)=x::rem ops (pre++i::post):=Eb hx;rw [er] at fb;rw [Eb hx] at cD;have mO:∀ y∈rem ops pre,∀ d,y.dst=some d->x.dst≠some d:=λ y hy d rl fV=>fb.1 d fV y (by rw [Bq]; exact List.mem_append_left _ hy) rl;have pO:M9 s1 (rem ops pre):=M9.step hu (λ y hy=>cD y (by simp [hy])) mO h1;obtain ⟨q,sa,sb,k1,k2,k3,k4,k5⟩:=Dn ho (pre:=pre) (acc:=(j,s)::acc) fb.2 (λ y hy=>cZ y (by simp [hy])) lN pO h3;obtain ⟨cF,fg⟩:=cZ j (by simp);have hP:wG ops x s (l4 E x s) o (l4 E o s1):=by
   rcases k5 (j,s) (by simp) with h|⟨x',ed,hP⟩
   ·rw [cF] at h; cases h
   ·have ed:ops[j]?=some x':=ed
    rw [hx] at ed; cases ed; exact hP
  obtain ⟨s1',s2',m1,m2,m3,m4,m5,m6,m7,m8,m9⟩:=swap (fg x hx) hu (λ d hd=>cD x (by simp) d hd) h1 k1 hP;obtain ⟨t',n1,n2⟩:=KK (acc:=(j,s)::acc) (bF:=(j,s1')::acc) (λ e' eA=>by
   rcases List.mem_cons.1 eA with rfl|eA
   ·refine ⟨(j,s),by simp,rfl,λ y hy=>?_⟩
    have hy:ops[j]?=some y:=hy;rw [hx] at hy; cases hy;exact ⟨m8,m7,m9⟩
   ·exact ⟨e',by simp [eA],rfl,λ y _=>⟨λ _ _=>rfl,rfl,λ _ _ _ _ h=>h⟩⟩) (P6 lN k1) m5.symm m4 k3
  refine ⟨q,s1',t',m1,k2,⟨x,hx,λ e he=>?_,p,s2',m2,h2,n1⟩,n2.symm.trans k4,λ e he=>?_⟩
  ·rcases hc e he with h|⟨y,hy,hP⟩
   ·exact .inl h
   ·exact .inr ⟨y,hy,by rw [m7]; exact hP⟩
  ·rcases k5 e (by simp [he]) with h|⟨y,hy,hP⟩
   ·exact .inl h
   ·exact .inr ⟨y,hy,by rw [m6]; exact hP⟩
end
end Go.Ex
namespace Go.Ex
section
variable {E:Env} {ops:Array Oper} {B:E1} {S:Nat->Prop} {ι:Ix} {s:St} {a:Act} {w:World}
def idxs (n:Nat) (listed:Array Bool):List Nat:=(List.range n).filter λ i=>!listed.getD i true
theorem E7 {n i:Nat} {listed:Array Bool}:i∈idxs n listed↔i<n/\listed.getD i true=false:=by
 simp [idxs]
theorem Ch (n:Nat) (listed:Array Bool):(idxs n listed).Pairwise (·<·):=List.Pairwise.filter _ List.pairwise_lt_range
theorem By {n i:Nat} {listed:Array Bool} (hs:listed.size=n) (hi:i<n):idxs n (listed.setIfInBounds i true)=(idxs n listed).filter (λ k=>!(k == i)):=by
 unfold idxs;rw [List.filter_filter];refine List.filter_congr (λ k hk=>?_);by_cases e:k=i
 ·subst e
  have:k<listed.size:=by omega
  simp [this]
 ·have:(listed.setIfInBounds i true).getD k true=listed.getD k true:=getD_set_ne true (Ne.symm e)
  rw [this];simp [e]
theorem JP {n i:Nat} {listed:Array Bool} (hi:i∈idxs n listed):∃ pre post,idxs n listed=pre++i::post/\(∀ j∈pre,j<i)/\(idxs n listed).filter (λ k=>!(k == i))=pre++post:=by
 obtain ⟨pre,post,e⟩:=List.append_of_mem hi;have hp:=Ch n listed;rw [e,List.pairwise_append] at hp;obtain ⟨h1,h2,h3⟩:=hp;have bc:∀ j∈pre,j<i:=λ j hj=>h3 j hj i (by simp);have fi:∀ j∈post,i<j:=λ j hj=>(List.pairwise_cons.1 h2).1 j hj;refine ⟨pre,post,e,bc,?_⟩;rw [e,List.filter_append,List.filter_cons];simp only [beq_self_eq_true,Bool.not_true,Bool.false_eq_true,if_false];rw [List.filter_eq_self.2 (λ j hj=>by have:=bc j hj; simp; omega),List.filter_eq_self.2 (λ j hj=>by have:=fi j hj; simp; omega)]
theorem Ej (h:wi ops=true):∀ i o,ops[i]?=some o->(∀ e∈o.after,Region.binds .any e=true->e.on<i) /\
  (∀ j,j<ops.size->((D7 ops.toList []).getD i 0).testBit j=true->∃ e∈o.after,Region.binds .any e=true/\(e.on=j\/((D7 ops.toList []).getD e.on 0).testBit j=true)) /\
  (∀ j x,j<i->ops[j]?=some x->((D7 ops.toList []).getD i 0).testBit j=true\/indep ops x o=true):=by
 intro i o ho;have hi:i<ops.toList.length:=by
  have:=(Array.getElem?_eq_some_iff.1 ho).1;simpa using this
 simp only [wi,List.all_eq_true,List.mem_range] at h;have h1:=h i hi;have hl:ops.toList[i]?=some o:=by simpa using ho
 rw [hl] at h1;simp only [Bool.and_eq_true,List.all_eq_true,List.mem_range] at h1;obtain ⟨⟨k1,k2⟩,k3⟩:=h1;refine ⟨?_,?_,?_⟩
 ·intro e he hb
  simp only [LV,List.all_eq_true] at k1;have:=k1 e (by simpa using he);rw [hb] at this;simpa [Nat.blt_eq] using this
 ·intro j hj hm
  simp only [Mh,List.all_eq_true,List.mem_range] at k2;have:=k2 j (by simpa using hj);rw [hm] at this;simp only [Bool.not_true,Bool.false_or,List.any_eq_true,Bool.and_eq_true,Bool.or_eq_true] at this;obtain ⟨e,he,hb,h3⟩:=this;exact ⟨e,by simpa using he,hb,h3.imp Nat.eq_of_beq_eq_true id⟩
 ·intro j x hj hx
  have:=k3 j hj;have ed:ops.toList[j]?=some x:=by simpa using hx
  rw [ed] at this;simpa using this
def yG (ops:Array Oper) (listed:Array Bool):Prop:=∀ k o,ops[k]?=some o->listed.getD k true=true->∀ e∈o.after,Region.binds .any e=true->listed.getD e.on false=true
theorem U3 {listed:Array Bool} {k:Nat} (h:listed.getD k false=true):listed.getD k true=true:=by
 rcases Nat.lt_or_ge k listed.size with h'|h'
 ·simp [h'] at h ⊢; exact h
 ·simp [Array.getElem?_eq_none h'] at h
theorem EC {M:Nat->Nat} (hM:∀ i o,ops[i]?=some o->(∀ e∈o.after,Region.binds .any e=true->e.on<i)/\(∀ j,j<ops.size->(M i).testBit j=true->∃ e∈o.after,Region.binds .any e=true/\(e.on=j\/(M e.on).testBit j=true)))
  {listed:Array Bool} (hc:yG ops listed):∀ (i:Nat) (o:Oper),ops[i]?=some o->(∀ e∈o.after,Region.binds .any e=true->listed.getD e.on false=true)->∀ j,j<ops.size->(M i).testBit j=true->listed.getD j false=true:=by
 intro i
 induction i using Nat.strongRecOn with
 | _ i ih =>
  intro o ho hp j hj hm;obtain ⟨e,he,hb,h3⟩:=(hM i o ho).2 j hj hm;have bc:=(hM i o ho).1 e he hb;rcases h3 with rfl|h3
  ·exact hp e he hb
  ·have hi:i<ops.size:=(Array.getElem?_eq_some_iff.1 ho).1
   have nL:ops[e.on]?=some (ops[e.on]'(by omega)):=Array.getElem?_eq_getElem (by omega);exact ih e.on bc _ nL (hc e.on _ nL (U3 (hp e he hb))) j hj h3
theorem a80 (hE:C8 E B) (hn:B.n=E.nt) (hd:wi ops=true) {Q:Exit->Act->World->Prop} {s0:St} (hQ:∀ S ι a w,RS B S ι s0 a w->Q .normal a w) :
  ∀ (fuel:Nat) (listed:Array Bool) (S:Nat->Prop) (ι:Ix) (s s':St) (a:Act) (w:World),listed.size=ops.size->(idxs ops.size listed).length=fuel->yG ops listed->N4 (rem ops (idxs ops.size listed))->uniq s.fr->M9 s (rem ops (nl ops (idxs ops.size listed))) ->
   uX E ops (λ i=>(D7 ops.toList []).getD i 0) [] (idxs ops.size listed) s s'->M2 s' s0->RS B S ι s a w->wpAny E.P .any ops Q fuel listed a w:=by
 have hM:=Ej hd;have Dq:∀ {S:Nat->Prop} {ι:Ix} {s t:St} {a:Act} {w:World},M2 s t->RS B S ι s a w->RS B S ι t a w:=by
  intro S ι s t a w he h;have dq:∀ {v:AV} {vs:List Value},VX w.heap S ι s.hp v vs->VX w.heap S ι t.hp v vs:=by
   intro v vs hv;exact VX.other (λ i _=>(he.2 i).symm) (λ i _=>E6.refl ι i) hv
  exact ⟨⟨h.hs.os,h.hs.tape,h.hs.out,h.hs.size,h.hs.frame,h.hs.slt,h.hs.s0,h.hs.s1,λ i e hi=>h.hs.ob i e ((he.2 i).trans hi),λ i e hi=>h.hs.bl i e ((he.2 i).trans hi),λ i j ei ej hi hj=>h.hs.dj i j ei ej ((he.2 i).trans hi) ((he.2 j).trans hj),λ q hq=>by obtain ⟨r1,⟨e,r2⟩,r3⟩:=h.hs.pin q hq; exact ⟨r1,⟨e,(he.2 q.1).symm.trans r2⟩,r3⟩⟩,h.dfr,h.sz,
   λ m v hv=>dq (h.fr m v ((he.1 m).trans hv))⟩
 intro fuel
 induction fuel with
 | zero =>
  intro listed S ι s s' a w aW hlen cD fb hu fx aP he cm;have fK:idxs ops.size listed=[]:=List.length_eq_zero_iff.1 hlen;rw [fK] at aP;have oA:s=s':=aP;subst oA;refine ⟨?_,hQ S ι a w (Dq he cm)⟩;rw [List.eq_nil_iff_forall_not_mem];intro i hi;obtain ⟨h1,o,h2,_⟩:=mem_ready.1 hi;have:i∈idxs ops.size listed:=E7.2 ⟨(Array.getElem?_eq_some_iff.1 h2).1,h1⟩;rw [fK] at this;cases this
 | succ fuel ih =>
  intro listed S ι s s' a w aW hlen cD fb hu fx aP he cm;refine ⟨λ hr=>?_,λ i hi=>?_⟩
  ·exfalso
   cases kL:idxs ops.size listed with
   | nil=>rw [kL] at hlen; cases hlen
   | cons i l =>
    have bm:i∈idxs ops.size listed:=by rw [kL]; simp
    obtain ⟨h1,h2⟩:=E7.1 bm;have ho:ops[i]?=some ops[i]:=Array.getElem?_eq_getElem h1;have:i∈Region.ready .any ops listed:=by
     refine mem_ready.2 ⟨h2,ops[i],ho,λ e he hb=>?_⟩;have bc:=(hM i _ ho).1 e he hb;cases hle:listed.getD e.on true with
     | true =>
      have:e.on<listed.size:=by omega
      simp [this] at hle ⊢; exact hle
     | false =>
      exfalso;have jP:e.on∈idxs ops.size listed:=E7.2 ⟨by omega,hle⟩;have hs:=Ch ops.size listed;rw [kL] at hs jP;rcases List.mem_cons.1 jP with e1|e1
      ·omega
      ·have:=(List.pairwise_cons.1 hs).1 _ e1; omega
    rw [hr] at this;cases this
  ·obtain ⟨h1,o,ho,aZ⟩:=mem_ready.1 hi
   have cZ:i<ops.size:=(Array.getElem?_eq_some_iff.1 ho).1;have bm:i∈idxs ops.size listed:=E7.2 ⟨cZ,h1⟩;obtain ⟨pre,post,e1,bc,e2⟩:=JP bm;have er:rem ops (pre++i::post)=rem ops pre++o::rem ops post:=by simp [rem,List.filterMap_append,ho]
   have er2:rem ops (pre++post)=rem ops pre++rem ops post:=by simp [rem,List.filterMap_append]
   rw [e1] at fb fx aP;have fg:∀ j∈pre,((D7 ops.toList []).getD i 0).testBit j=false/\∀ x,ops[j]?=some x->indep ops x o=true:=by
    intro j hj;have fX:((D7 ops.toList []).getD i 0).testBit j=false:=by
     cases hm:((D7 ops.toList []).getD i 0).testBit j with
     | false=>rfl
     | true =>
      exfalso;have iT:=EC (M:=λ i=>(D7 ops.toList []).getD i 0) (λ i o ho=>⟨(hM i o ho).1,(hM i o ho).2.1⟩) cD i o ho aZ j (by have:=bc j hj; omega) hm;have:j∈idxs ops.size listed:=by rw [e1]; simp [hj]
      have:=(E7.1 this).2;rw [U3 iT] at this;cases this
    refine ⟨fX,λ x hx=>?_⟩;rcases (hM i o ho).2.2 j x (bc j hj) hx with hm|hm
    ·rw [fX] at hm; cases hm
    ·exact hm
   have pP:M9 s (rem ops (nl ops (pre++post))):=fx.sub (λ y hy=>by
    rw [Mj,Bq] at hy ⊢;rcases List.mem_append.1 hy with hy|hy
    ·exact List.mem_append_left _ hy
    ·refine List.mem_append_right _ ?_
     obtain ⟨j,j1,j2⟩:=List.mem_filterMap.1 hy;obtain ⟨j3,j4⟩:=List.mem_filter.1 j1;exact List.mem_filterMap.2 ⟨j,List.mem_filter.2 ⟨List.mem_cons_of_mem _ j3,j4⟩,j2⟩)
   obtain ⟨p,s1,s2,k1,k2,k3,k4,_⟩:=Dn ho fb fg hu (fx.sub (λ y hy=>by
    rw [Mj,Bq,Uk cZ bc (λ j hj=>(fg j hj).1)]; exact List.mem_append_left _ hy)) aP
   rw [er] at fb;have aK:=(By aW cZ).trans e2;have gB:N4 (rem ops pre++rem ops post)/\∀ x∈rem ops pre++rem ops post,∀ d,x.dst=some d->o.dst≠some d:=by
    have:∀ {A C:List Oper},N4 (A++o::C)->N4 (A++C)/\∀ x∈A++C,∀ d,x.dst=some d->o.dst≠some d:=by
     intro A
     induction A with
     | nil=>intro C h; exact ⟨h.2,λ x hx d fV gR=>h.1 d gR x hx fV⟩
     | cons y A ih =>
      intro C h;obtain ⟨m1,m2⟩:=ih h.2;refine ⟨⟨λ d hd x hx=>h.1 d hd x (by simp at hx ⊢; rcases hx with hx|hx<;>simp [hx]),m1⟩,λ x hx d fV gR=>?_⟩;rcases List.mem_cons.1 hx with rfl|hx
      ·exact h.1 d fV o (by simp) gR
      ·exact m2 x hx d fV gR
    exact this fb
   have ez:=Lb hE hn cm (ops:=ops) o (k:=λ x=>Tree.cut .skip [] x) (L:=λ _ _ x=>x=s1) (Rt:=λ _=>True) (BM.2 ⟨p,s1,k1,k2,rfl⟩)
    (next:=wpAny E.P .any ops Q fuel (listed.setIfInBounds i true)) (Q:=Q) (λ S' ι' x a' w' hx kk=>by
     have kk:x=s1:=kk;subst kk;refine ih (listed.setIfInBounds i true) S' ι' x s2 a' w' (by simp [aW]) ?_ ?_ ?_ (P6 hu k1) ?_ ?_ (k4.trans he) hx
     ·rw [aK]; rw [e1] at hlen; simp at hlen ⊢; omega
     ·intro k y hy hk e' eA cQ
      by_cases gw:k=i
      ·subst gw
       rw [ho] at hy; cases hy;exact getD_set_true (aZ e' eA cQ)
      ·rw [getD_set_ne true (Ne.symm gw)] at hk
       exact getD_set_true (cD k y hy hk e' eA cQ)
     ·rw [aK,er2]; exact gB.1
     ·rw [aK]
      exact M9.step hu pP (λ y hy=>gB.2 y (by rw [<- er2]; exact Ul y hy)) k1
     ·rw [aK]; exact k3)
   unfold wpOp;rw [ho];simp only
   split
   ·rename_i hw; rw [if_pos hw] at ez; exact .inl ez
   ·rename_i hw; rw [if_neg hw] at ez; exact ez
theorem filterMap_some {α β:Type _} {f:α->Option β} {g:α->β}:∀ {l:List α},(∀ i∈l,f i=some (g i))->l.filterMap f=l.map g
 | [],_=>rfl
 | x::l,h=>by rw [List.filterMap_cons,h x (by simp)]; simp [filterMap_some (l:=l) (λ i hi=>h i (by simp [hi]))]
theorem DH:rem ops (idxs ops.size (Array.replicate ops.size false))=ops.toList:=by
 have:idxs ops.size (Array.replicate ops.size false)=List.range ops.size:=by
  unfold idxs;refine List.filter_eq_self.2 (λ i hi=>?_);have:i<ops.size:=List.mem_range.1 hi;simp [this]
 rw [this];unfold rem;apply List.ext_getElem?;intro i;have e:(List.range ops.size).filterMap (λ i=>ops[i]?)=(List.range ops.size).map (λ i=>ops.getD i default):=filterMap_some (λ i hi=>by
  have:i<ops.size:=List.mem_range.1 hi;simp [this])
 rw [e];by_cases hi:i<ops.size
 ·simp [hi]
 ·simp [hi]
theorem Bt:∀ {l:List Oper},BH (vP l)=true->N4 l
 | [],_=>trivial
 | o::l,h=>by
  cases hd:o.dst with
  | none =>
   have:vP (o::l)=vP l:=by simp [vP,hd]
   rw [this] at h;exact ⟨λ d dV=>(by rw [hd] at dV; cases dV),Bt h⟩
  | some d =>
   have:vP (o::l)=d::vP l:=by simp [vP,hd]
   rw [this] at h;simp only [BH,Bool.and_eq_true,Bool.not_eq_true'] at h;refine ⟨λ d' dV x hx fV=>?_,Bt h.2⟩;rw [hd] at dV;cases dV;have:d∈vP l:=List.mem_filterMap.2 ⟨x,hx,fV⟩;have h1:=h.1;simp [this] at h1
theorem xW:idxs ops.size (Array.replicate ops.size false)=List.range ops.size:=by
 unfold idxs;refine List.filter_eq_self.2 (λ i hi=>?_);have:i<ops.size:=List.mem_range.1 hi;simp [this]
theorem YZ {o:Oper} {l:List Nat} (ho:o∈rem ops (nl ops l)) {d:Nat} (hd:o.dst=some d):d∈vP ops.toList.dropLast:=by
 obtain ⟨j,j1,j2⟩:=List.mem_filterMap.1 ho;have j4:j+1<ops.size:=b72 (by simpa using (List.mem_filter.1 j1).2);refine List.mem_filterMap.2 ⟨o,List.mem_of_getElem? (i:=j) ?_,hd⟩;rw [List.getElem?_dropLast,if_pos (by simp; omega)];simpa using j2
theorem b5U (hE:C8 E B) (hn:B.n=E.nt) {id:Nat} (hd:(wi ops && Bn ops s && E.P.follows .mixedOrders)=true) {Q:Exit->Act->World->Prop} {s':St} (hr:uX E ops (λ i=>(D7 ops.toList []).getD i 0) [] (List.range' 0 ops.toList.length) s s')
  (hQ:∀ S ι a w,RS B S ι s' a w->Q .normal a w) (h:RS B S ι s a w):(Code.region id ops true).wp E.P Q a w:=by
 simp only [Bool.and_eq_true,Bn,List.all_eq_true] at hd;obtain ⟨⟨h1,⟨h2,h3⟩,h4⟩,h5⟩:=hd;refine wp_region_any h5 ?_;have hlen:(idxs ops.size (Array.replicate ops.size false)).length=ops.size:=by
  rw [xW]; simp
 refine a80 hE hn h1 hQ ops.size _ S ι s s' a w.drew (by simp) hlen ?_ ?_ (s6 h2) ?_ ?_ (M2.refl _) (h.uO F2.nil D3.drew)
 ·intro k o hk hl
  have:k<ops.size:=(Array.getElem?_eq_some_iff.1 hk).1;simp [this] at hl
 ·rw [DH]; exact Bt h3
 ·intro o ho d hd
  exact h4 d (YZ ho hd)
 ·rw [xW,List.range_eq_range']
  simpa using hr
theorem b4l (hE:C8 E B) (hn:B.n=E.nt) {id:Nat} (hd:(wi ops && IY ops s && E.P.follows .mixedOrders)=true) {Q:Exit->Act->World->Prop} {s':St} (hr:uX E ops (λ i=>(D7 ops.toList []).getD i 0) [] (List.range' 0 ops.toList.length) s s')
  (hQ:∀ S ι a w,RS B S ι s' a w->Q .normal a w) (h:RS B S ι s a w):(Code.region id ops true).wp E.P Q a w:=by
 simp only [Bool.and_eq_true,IY,List.all_eq_true,List.mem_range] at hd;obtain ⟨⟨h1,⟨h2,h3⟩,h4⟩,h5⟩:=hd;refine wp_region_any h5 ?_;have hlen:(idxs ops.size (Array.replicate ops.size false)).length=ops.size:=by
  rw [xW]; simp
 refine a80 hE hn h1 hQ ops.size _ S ι s s' a w.drew (by simp) hlen ?_ ?_ (s6 h2) ?_ ?_ (M2.refl _) (h.uO F2.nil D3.drew)
 ·intro k o hk hl
  have:k<ops.size:=(Array.getElem?_eq_some_iff.1 hk).1;simp [this] at hl
 ·rw [DH]; exact Bt h3
 ·intro o ho d hd
  obtain ⟨j,j1,j2⟩:=List.mem_filterMap.1 ho;have j3:=(List.mem_filter.1 j1).2;have hj:j<ops.size:=(Array.getElem?_eq_some_iff.1 j2).1;have:=h4 j hj;simp only [Bool.not_eq_true'] at j3;simp only [j2,hd,j3,Bool.false_or] at this;exact this
 ·rw [xW,List.range_eq_range']
  simpa using hr
theorem Qr {M:List Nat} {k:St->Tree (E.rs++E4 E.ps)} {L:Code->List Item->St->Prop} {R:DL (E.rs++E4 E.ps)->Prop}:∀ {l:List Oper} {n:Nat} {s:St} {acc:List Met} {bF:List (Nat×St)},ops.toList.drop n=l ->
  (∀ e∈bF,∃ m∈acc,m.i=e.1/\ops[e.1]?=some m.o/\m.s=e.2/\m.T=l4 E m.o e.2)->(CF E ops M n l s acc k).holds L R ->
  ∃ s',uX E ops (λ i=>M.getD i 0) bF (List.range' n l.length) s s'/\(k s').holds L R
 | [],n,s,acc,bF,_,_,h=>⟨s,rfl,h⟩
 | o::l,n,s,acc,bF,hl,ha,h=>by
  obtain ⟨ho,ep,_⟩:=BI hl;simp only [CF] at h;split at h
  ·exact h.elim
  ·rename_i bt
   obtain ⟨p,s1,h1,h2,h3⟩:=BM.1 h;obtain ⟨s',k1,k2⟩:=Qr (bF:=(n,s)::bF) ep (λ e he=>by
    rcases List.mem_cons.1 he with rfl|he
    ·exact ⟨_,List.mem_cons_self ..,rfl,ho,rfl,rfl⟩
    ·obtain ⟨m,hm,r⟩:=ha e he; exact ⟨m,List.mem_cons_of_mem _ hm,r⟩) h3
   refine ⟨s',⟨o,ho,λ e he=>?_,p,s1,h1,h2,k1⟩,k2⟩;obtain ⟨m,hm,m1,m2,m3,m4⟩:=ha e he;have:=(List.all_eq_true.1 bt) m hm;simp only [Bool.or_eq_true] at this;rcases this with this|this
   ·exact .inl (by rw [<- m1]; exact this)
   ·have hp:=Ik this
    rw [m3,m4] at hp;exact .inr ⟨m.o,m2,hp⟩
end
end Go.Ex
