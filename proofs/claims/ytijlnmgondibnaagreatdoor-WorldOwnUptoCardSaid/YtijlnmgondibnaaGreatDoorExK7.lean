import Derived.Test.YtijlnmgondibnaaGreatDoorExK6
import Derived.Orders
set_option linter.unusedVariables false
set_option linter.unusedSimpArgs false
set_option linter.unusedSectionVars false
namespace Go.Ex
section
variable {E:Env} {s t:St}
theorem Lv {o:Oper} {i:Nat} (h:i∈l5 E o s):∃ x∈o.op.operands.toList,(s.ev x).j5 i=true:=by
 have parts:∀ {T:TypeId} {ps:Array (Nat×Operand)},i∈(s.J7 (ps.toList.map (·.2))).H5->∃ x∈ps.toList.map (·.2),(s.ev x).j5 i=true:=by
  intro T ps h;obtain ⟨x,hx,hm⟩:=xq (I5.1 h);exact ⟨x,by simpa using hx,hm⟩
 unfold l5 at h;cases ho:o.op with
 | store T a x =>
  rw [ho] at h;simp only [List.mem_append,I5] at h;rcases h with h|h
  ·exact ⟨a,by simp [Op.operands],h⟩
  ·exact ⟨x,by simp [Op.operands],h⟩
 | box T x=>rw [ho] at h; exact ⟨x,by simp [Op.operands],I5.1 h⟩
 | mapUpdate T m x y=>rw [ho] at h; exact ⟨m,by simp [Op.operands],I5.1 h⟩
 | build T ps=>rw [ho] at h; simp only [Op.operands]; exact parts (T:=T) h
 | buildSlice T n ps=>rw [ho] at h; simp only [Op.operands]; exact parts (T:=T) h
 | call c =>
  rw [ho] at h;have cy:∀ x∈c.args.toList,x∈(Op.call c).operands.toList:=λ x hx=>by simp only [Op.operands,Call.operands]; simp at hx ⊢; first|exact .inr hx|exact .inl hx
  simp only at h;split at h
  ·rename_i f hc
   split at h
   ·rename_i g caps hg
    split at h
    ·split at h
     ·cases h
     ·rcases EC (I5.1 h) with h|h
      ·obtain ⟨x,hx,hm⟩:=xq h
       exact ⟨x,cy x hx,hm⟩
      ·exact ⟨f,by simp [Op.operands,Call.operands,hc],by rw [hg]; exact h⟩
    ·cases h
   ·split at h
    ·split at h
     ·cases h
     ·rcases EC (I5.1 h) with h|h
      ·obtain ⟨x,hx,hm⟩:=xq h
       exact ⟨x,cy x hx,hm⟩
      ·cases h
    ·cases h
   ·split at h
    ·split at h
     ·cases h
     ·rcases EC (I5.1 h) with h|h
      ·obtain ⟨x,hx,hm⟩:=xq h
       exact ⟨x,cy x hx,hm⟩
      ·cases h
    ·cases h
   ·cases h
  ·obtain ⟨x,hx,hm⟩:=xq (I5.1 h)
   exact ⟨x,cy x hx,hm⟩
  ·obtain ⟨x,hx,hm⟩:=xq (I5.1 h)
   exact ⟨x,cy x hx,hm⟩
  ·obtain ⟨x,hx,hm⟩:=xq (I5.1 h)
   exact ⟨x,cy x hx,hm⟩
  ·cases h
 | _=>rw [ho] at h; cases h
theorem Jp {o:Oper} (h:∀ x∈o.op.operands.toList,t.ev x=s.ev x):l5 E o t=l5 E o s:=by
 unfold l5;cases ho:o.op with
 | store T a x=>rw [ho] at h; simp only [h a (by simp [Op.operands]),h x (by simp [Op.operands])]
 | box T x=>rw [ho] at h; simp only [h x (by simp [Op.operands])]
 | mapUpdate T m x y=>rw [ho] at h; simp only [h m (by simp [Op.operands])]
 | build T ps =>
  rw [ho] at h;simp only;rw [Ah (s:=s) (t:=t) (λ x hx=>h x (by simp only [Op.operands]; simpa using hx))]
 | buildSlice T n ps =>
  rw [ho] at h;simp only;rw [Ah (s:=s) (t:=t) (λ x hx=>h x (by simp only [Op.operands]; simpa using hx))]
 | call c =>
  rw [ho] at h;have cy:∀ x∈c.args.toList,x∈(Op.call c).operands.toList:=λ x hx=>by simp only [Op.operands,Call.operands]; simp at hx ⊢; first|exact .inr hx|exact .inl hx
  have he:=Ah (s:=s) (t:=t) (λ x hx=>h x (cy x hx));simp only [he]
  split
  ·rename_i f hc
   rw [h f (by simp [Op.operands,Call.operands,hc])]
  ·rfl
  ·rfl
  ·rfl
  ·rfl
 | _=>rfl
def E5 (E:Env) (o:Oper) (s:St) (p:Prop) (v:AV):Prop :=
 ∃ ids f h,Trim (l5 E o s) f/\T4 s ids/\(∀ n∈ids,n % 1000=(o.dst.getD 0) % 1000) /\
  (∀ i,v.j5 i=true->(∃ x∈o.op.operands.toList,(s.ev x).j5 i=true)\/i∈ids) /\
  ∀ t,uniq t.fr->Y8 s t o.op.operands.toList->T4 t ids->∃ t1,(m0 E o t).get=some (p,v,t1)/\uniq t1.fr/\MF t t1 (l5 E o s) ids f h
theorem AB {o:Oper} (ha:Y8 s t o.op.operands.toList) {i:Nat} (hi:i∈l5 E o s):look i t.hp=look i s.hp:=by
 obtain ⟨x,hx,hm⟩:=Lv hi;exact (ha x hx).2 i hm
theorem E5.ro {o:Oper} {p:Prop} {v:AV} {s1:St} (h:(m0 E o s).get=some (p,v,s1)) (h1:∀ t,Y8 s t o.op.operands.toList->m0 E o t=(m0 E o s).wZ t) (h2:∀ i,(m0 E o s).av.j5 i=true->∃ x∈o.op.operands.toList,(s.ev x).j5 i=true):E5 E o s p v:=by
 refine ⟨[],λ u=>u,λ i=>look i s.hp,Trim.id _,by simp [T4],by simp,?_,?_⟩
 ·intro i hi
  refine .inl (h2 i ?_);cases hr:m0 E o s<;>rw [hr] at h<;>simp [OR.get] at h
  ·rw [<- h.2.1] at hi; exact hi
  ·rw [<- h.2.1] at hi; exact hi
 ·intro t hu ha _
  refine ⟨t,?_,hu,⟨λ n=>by simp,λ i=>?_⟩⟩
  ·rw [h1 t ha]
   cases hr:m0 E o s<;>rw [hr] at h<;>simp only [OR.get,Option.some.injEq,Prod.mk.injEq] at h
   ·cases h
   ·obtain ⟨rfl,rfl,_⟩:=h; rfl
   ·obtain ⟨rfl,rfl,_⟩:=h; rfl
  ·split
   ·rename_i hi; exact AB ha (by simpa using hi)
   ·rfl
theorem Qv {d:Nat} (hu:uniq t.fr) (h:T4 t [d]):t.fresh d=true:=by
 simp only [St.fresh,Bool.and_eq_true,Option.isNone_iff_eq_none];exact ⟨(h d (by simp)).1,EM hu (h d (by simp)).2⟩
theorem QZ {d:Nat} (h:s.fresh d=true):T4 s [d]:=by
 obtain ⟨k1,k2⟩:=EI h;intro n hn;simp only [List.mem_cons,List.not_mem_nil,or_false] at hn;subst hn;exact ⟨k1,k2⟩
theorem c3B {T g:List Nat} {d:Nat} {e:i7} (hg:∀ i∈g,i∈T) (ha:∀ i∈T,look i t.hp=look i s.hp):MF t ((St.w9 g t).w8 d e) T [d] (xI g) (λ i=>if i=d then some e else if i∈g then none else look i s.hp):=by
 refine ⟨λ n=>CB,λ i=>?_⟩;show look i (Ex.put d e (St.w9 g t).hp)=_;rw [p7,J3];by_cases h1:i=d
 ·simp [h1]
 ·by_cases h3:i∈g
  ·have:=hg i h3; simp [h1,h3,this]
  ·by_cases h2:i∈T
   ·simp [h1,h3,h2,ha i h2]
   ·simp [h1,h2,h3]
theorem E5.obj {o:Oper} {p:Prop} {d:Nat} (hd:o.dst=some d) {e:i7} {v:AV} {g:List Nat} (hv:∀ i,v.j5 i=true->i=d) (hf:s.fresh d=true) (hg:∀ i∈g,i∈l5 E o s)
  (h:∀ t,Y8 s t o.op.operands.toList->uniq t.fr->t.fresh d=true->(m0 E o t).get=some (p,v,(St.w9 g t).w8 d e)):E5 E o s p v:=by
 refine ⟨[d],xI g,(λ i=>if i=d then some e else if i∈g then none else look i s.hp),(Trim.w9 g).mono hg,QZ hf,by simp [hd],λ i hi=>.inr (by simp [hv i hi]),?_⟩;intro t hu ha hn;exact ⟨_,h t ha hu (Qv hu hn),CM (g:=g) hu,c3B hg (λ i hi=>AB ha hi)⟩
theorem NK {d:Nat} {g:List Nat} {u:Ty} {x:u.den} {v:AV} {s':St} (hl:s.lay d g u x=.ok v s'):s.fresh d=true/\v=.at_ d []/\s'=(St.w9 g s).w8 d (.own u x)/\(wN g && (g.all λ i=>!pinned i))=true:=by
 unfold St.lay at hl;split at hl
 ·cases hl
 ·rename_i hc
  simp only [Bool.and_eq_true] at hc;split at hl
  ·cases hl; exact ⟨hc.2,rfl,rfl,by simp only [Bool.and_eq_true]; exact hc.1⟩
  ·cases hl
theorem Nl {d:Nat} {g:List Nat} {u:Ty} {x:u.den} (hf:t.fresh d=true) (hg:(wN g && (g.all λ i=>!pinned i))=true):t.lay d g u x=.ok (.at_ d []) ((St.w9 g t).w8 d (.own u x)):=by
 unfold St.lay;have h2:(St.w9 g t).fresh d=true:=by
  simp only [St.fresh,Bool.and_eq_true,Option.isNone_iff_eq_none] at hf ⊢;refine ⟨by rw [J3]; split<;>first|rfl|exact hf.1,Ly hf.2⟩
 simp only [hg,hf,h2,Bool.and_self]
theorem E5.lay {o:Oper} {p:Prop} {v:AV} {s1:St} {d:Nat} (hd:o.dst=some d) {g:List Nat} {u:Ty} {x:u.den} {W:OR->OR} (hW:∀ v s,(W (.ok v s)).get=some (p,v,s)) (hF:∀ y,(W (.fail y)).get=none) (hg:∀ i∈g,i∈l5 E o s)
  (h:(m0 E o s).get=some (p,v,s1)) (h1:∀ t,Y8 s t o.op.operands.toList->m0 E o t=W (t.lay d g u x)):E5 E o s p v:=by
 rw [h1 s (.refl _ _)] at h;cases hl:s.lay d g u x with
 | fail y=>rw [hl,hF] at h; cases h
 | F5 q v s'=>exact absurd hl wY
 | ok v' s' =>
  rw [hl,hW] at h;cases h;obtain ⟨k1,rfl,rfl,k4⟩:=NK hl;refine E5.obj hd (e:=.own u x) (g:=g) (λ i hi=>by simpa [AV.j5] using hi) k1 hg (λ t ha hu hf=>?_);rw [h1 t ha,Nl hf k4,hW]
theorem By {q p:Prop} {r:OR} {v:AV} {s1:St} (h:(r.f7 q).get=some (p,v,s1)) (hr:∀ q' v' s',r≠.F5 q' v' s'):p=q:=by
 cases r with
 | fail y=>cases h
 | ok v s=>simp only [OR.f7,OR.get,Option.some.injEq,Prod.mk.injEq] at h; exact h.1.symm
 | F5 q' v' s'=>exact absurd rfl (hr q' v' s')
theorem Yt {T:TypeId} {a:AV} (h:Alike s t a):Y5 E T a t=(Y5 E T a s).wZ t:=by
 unfold Y5;cases a with
 | ptr i p =>
  simp only [J4 (h i (by simp [AV.j5]))]
  repeat' (first|rfl|split)
 | _=>first|rfl|(dsimp only; split<;>rfl)
theorem c0T {T:TypeId} {a:AV} {i:Nat} (h:(Y5 E T a s).av.j5 i=true):a.j5 i=true:=by
 unfold Y5 at h;cases a with
 | ptr j p =>
  simp only at h
  repeat' (split at h)
  all_goals first|exact h|(cases h; done)
 | _ =>
  simp only at h
  repeat' (split at h)
  all_goals first|exact h|(cases h; done)
theorem JM {i:Nat}:∀ {n:Nat} {l v:AV},m0.nth n l=some v->v.j5 i=true->l.j5 i=true
 | 0,l,v,h,hv=>by
  cases l<;>simp only [m0.nth] at h<;>first|cases h|skip
  simp [AV.j5,hv]
 | n+1,l,v,h,hv=>by
  cases l<;>simp only [m0.nth] at h<;>first|cases h|skip
  simp [AV.j5,JM h hv]
theorem WQ (d k:Nat):N8 d k % 1000=d % 1000:=by unfold N8; omega
theorem OG {d j k:Nat} (h:N8 d j=N8 d k):j=k:=by unfold N8 at h; omega
theorem KC:∀ {ts:List Ty} {x:DL ts} {d j:Nat} {hp:List (Nat×i7)} {l:AV} {cE:List (Nat×i7)},Y0 ts x d j hp=some (l,cE) ->
  (∀ i,l.j5 i=true->∃ k,j<=k/\k<j+ts.length/\i=N8 d k) /\
  ∃ h:Nat->Option i7,∀ h2,(∀ k,j<=k->k<j+ts.length->look (N8 d k) h2=none)->∃ fF,Y0 ts x d j h2=some (l,fF)/\∀ i,look i fF=(match h i with|some e=>some e|none=>look i h2)/\((h i).isSome->∃ k,j<=k/\k<j+ts.length/\i=N8 d k)
 | [],x,d,j,hp,l,cE,h=>by
  simp only [Y0,Option.some.injEq,Prod.mk.injEq] at h;obtain ⟨rfl,rfl⟩:=h;exact ⟨by simp [AV.j5],λ _=>none,λ h2 _=>⟨h2,rfl,λ i=>⟨rfl,by simp⟩⟩⟩
 | u::ts,x,d,j,hp,l,cE,h=>by
  simp only [Y0] at h;split at h
  ·rename_i hs
   split at h
   ·rename_i l' fy ez
    cases h;obtain ⟨k1,h,k2⟩:=KC ez;refine ⟨λ i hi=>?_,h,λ h2 hh=>?_⟩
    ·obtain ⟨k,m1,m2,m3⟩:=k1 i (by simpa [AV.j5] using hi)
     exact ⟨k,by omega,by simp only [List.length_cons]; omega,m3⟩
    ·obtain ⟨fF,e1,e2⟩:=k2 h2 (λ k jv eU=>hh k (by omega) (by simp only [List.length_cons]; omega))
     refine ⟨fF,by simp only [Y0,hs,e1],λ i=>⟨(e2 i).1,λ hi=>?_⟩⟩;obtain ⟨k,m1,m2,m3⟩:=(e2 i).2 hi;exact ⟨k,by omega,by simp only [List.length_cons]; omega,m3⟩
   ·cases h
  ·rename_i hs
   split at h
   ·cases h
   ·rename_i de
    split at h
    ·rename_i l' fy ez
     cases h;obtain ⟨k1,h,k2⟩:=KC ez;refine ⟨λ i hi=>?_,λ i=>if i=N8 d j then some (vL u x.1 (N8 d j)).1 else h i,λ h2 hh=>?_⟩
     ·simp only [AV.j5,Bool.or_eq_true] at hi
      rcases hi with hi|hi
      ·refine ⟨j,Nat.le_refl _,by simp,?_⟩
       rcases JI u x.1 (N8 d j) with e|⟨g,_,_,_,e⟩
       ·rw [e] at hi; exact Nat.eq_of_beq_eq_true hi
       ·rw [e] at hi
        cases g with
        | none=>exact Nat.eq_of_beq_eq_true hi
        | some f =>
         have hi:(Nat.beq i (N8 d j) || false)=true:=hi;rw [Bool.or_false] at hi;exact Nat.eq_of_beq_eq_true hi
      ·obtain ⟨k,m1,m2,m3⟩:=k1 i hi
       exact ⟨k,by omega,by simp only [List.length_cons]; omega,m3⟩
     ·have e0:look (N8 d j) h2=none:=hh j (Nat.le_refl _) (by simp)
      obtain ⟨fF,e1,e2⟩:=k2 (put (N8 d j) (vL u x.1 (N8 d j)).1 h2) (λ k jv eU=>by
       rw [p7,if_neg (λ e=>by have:=OG e; omega)];exact hh k (by omega) (by simp only [List.length_cons]; omega))
      refine ⟨fF,by simp only [Y0,hs,e0,e1],λ i=>⟨?_,λ hi=>?_⟩⟩
      ·rw [(e2 i).1,p7]
       by_cases he:i=N8 d j
       ·simp only [he,if_true]
        cases tc:h (N8 d j) with
        | none=>rfl
        | some e =>
         exfalso;obtain ⟨k,m1,m2,m3⟩:=(e2 (N8 d j)).2 (by rw [tc]; rfl);have:=OG m3; omega
       ·simp only [if_neg he]
      ·by_cases he:i=N8 d j
       ·exact ⟨j,Nat.le_refl _,by simp,he⟩
       ·simp only [if_neg he] at hi
        obtain ⟨k,m1,m2,m3⟩:=(e2 i).2 hi;exact ⟨k,by omega,by simp only [List.length_cons]; omega,m3⟩
    ·cases h
theorem KF {d:Nat}:∀ {n:Nat} {fr:List (Nat×AV)},(∀ k,k<n->wj (N8 d k) fr=true)->xM d n fr=true
 | 0,_,_=>rfl
 | n+1,fr,h=>by
  simp only [xM,Bool.and_eq_true];exact ⟨h n (by omega),KF (λ k hk=>h k (by omega))⟩
theorem KG {d:Nat}:∀ {n:Nat} {hp:List (Nat×i7)},Al d n hp=true↔∀ k,k<n->look (N8 d k) hp=none
 | 0,_=>by simp [Al]
 | n+1,hp=>by
  simp only [Al,Bool.and_eq_true,Option.isNone_iff_eq_none,KG (n:=n)];constructor
  ·rintro ⟨h1,h2⟩ k hk
   by_cases e:k=n
   ·subst e; exact h1
   ·exact h2 k (by omega)
  ·intro h; exact ⟨h n (by omega),λ k hk=>h k (by omega)⟩
theorem Yx {i:Nat} {l:AV} (h:l.one.j5 i=true):l.j5 i=true:=by
 unfold AV.one at h;split at h
 ·simp [AV.j5,h]
 ·exact h
theorem yt:∀ {ks:List PK} {y:DL (E6 ks)} {m:List Nat} {s1:St},wr ks y m s=some s1 ->
  (m=[]/\∀ t,wr ks y m t=some t)\/∃ i ow e,m=[i]/\∀ t,wr ks y m t=some ((t.Z5 i ow).w8 i e)
 | [],y,m,s1,h=>by
  cases m with
  | nil=>exact .inl ⟨rfl,λ t=>rfl⟩
  | cons i m=>cases h
 | k::ks,y,m,s1,h=>by
  cases k with
  | rw u =>
   match m,h with
   | [],h=>cases h
   | [i],h =>
    simp only [wr] at h;split at h
    ·rename_i hw
     exact .inr ⟨i,false,.var u y.1,rfl,λ t=>by simp only [wr,hw]⟩
    ·cases h
   | i::j::m,h=>cases h
  | mu u =>
   match m,h with
   | [],h=>cases h
   | [i],h =>
    simp only [wr] at h;split at h
    ·rename_i hw
     exact .inr ⟨i,true,.own (.d0 true u) y.1,rfl,λ t=>by simp only [wr,hw]⟩
    ·cases h
   | i::j::m,h=>cases h
  | v u=>cases m<;>exact yt (ks:=ks) h
  | V7=>cases m<;>exact yt (ks:=ks) h
  | rcs f n=>cases m<;>exact yt (ks:=ks) h
  | el q=>cases m<;>exact yt (ks:=ks) h
  | rd u=>cases m<;>exact yt (ks:=ks) h
  | C5 f ts=>cases m<;>exact yt (ks:=ks) h
  | own u=>cases m<;>exact yt (ks:=ks) h
end
end Go.Ex
namespace Go.Ex
section
variable {E:Env} {s t:St}
theorem xN {c:Call} {x:Operand} (hx:x∈c.args.toList):x∈(Op.call c).operands.toList:=by
 simp only [Op.operands,Call.operands]; simp at hx ⊢; first|exact .inr hx|exact .inl hx
def gq (m:Nat) (v:AV):AV:=match Nat.beq m I7 with|true=>.any|false=>v
theorem Ag {s:St} {m:Nat}:s.ev (.tmp m)=gq m (s.get m):=rfl
theorem Fv {s:St} {m i:Nat} (h:(s.ev (.tmp m)).j5 i=true):(s.get m).j5 i=true:=by
 rw [Ag] at h;unfold gq at h;split at h
 ·cases h
 ·exact h
theorem zm {s t:St} {m:Nat} (h:t.get m=s.get m):t.ev (.tmp m)=s.ev (.tmp m):=congrArg (gq m) h
theorem Xo {s:St} {m:Nat} {v:AV} (hb:Nat.beq m I7=false) (h:s.get m=v):s.ev (.tmp m)=v:=by
 rw [Ag,h]; unfold gq; rw [hb]
theorem Cp {s:St} {m:Nat} {v:AV} (h:s.ev (.tmp m)=v) (hv:v≠.any):s.get m=v:=by
 rw [Ag] at h;unfold gq at h;split at h
 ·exact absurd h.symm hv
 ·exact h
theorem c07 {s:St} {m:Nat} {v:AV} (h:s.ev (.tmp m)=v) (hv:v≠.any):Nat.beq m I7=false:=by
 rw [Ag] at h;unfold gq at h;split at h
 ·exact absurd h.symm hv
 ·assumption
theorem Kp {o:Oper} {c:Call} (ho:o.op=.call c) {f:Operand} (hc:c.callee=.value f) {W:OR->OR} {π:Prop->Prop} (hW:∀ r,(W r).get=r.get.map (λ x=>(π x.1,x.2.1,x.2.2))) {g:FuncId} {caps fv:AV} (hg:s.ev f=fv) (dQ:∀ i,caps.j5 i=true->fv.j5 i=true)
  (he:∀ t,t.ev f=fv->m0 E o t=W (T1 E g ((t.J7 c.args.toList).app caps) o.dst t))
  (hT:l5 E o s=(match look g E.C7 with
    | some c'=>(match c'.ps.any PK.l5 with
     | false=>[]
     | true=>((s.J7 c.args.toList).app caps).H5)
    | none=>[])) {p:Prop} {v:AV} {s1:St} (h:(m0 E o s).get=some (p,v,s1)):E5 E o s p v:=by
 have gg:f∈o.op.operands.toList:=by rw [ho]; simp [Op.operands,Call.operands,hc]
 have cM:∀ x∈c.args.toList,x∈o.op.operands.toList:=λ x hx=>by rw [ho]; exact xN hx
 rw [he s hg,hW] at h;obtain ⟨q,h,hq⟩:∃ q,(T1 E g ((s.J7 c.args.toList).app caps) o.dst s).get=some (q,v,s1)/\π q=p:=by
  cases hr:(T1 E g ((s.J7 c.args.toList).app caps) o.dst s).get with
  | none=>rw [hr] at h; cases h
  | some x =>
   rw [hr] at h;simp only [Option.map_some,Option.some.injEq,Prod.mk.injEq] at h;exact ⟨x.1,by rw [<- h.2.1,<- h.2.2],h.1⟩
 have aD:∀ i,((s.J7 c.args.toList).app caps).j5 i=true->∃ x∈o.op.operands.toList,(s.ev x).j5 i=true:=by
  intro i hi;rcases EC hi with hi|hi
  ·obtain ⟨x,hx,hi⟩:=xq hi; exact ⟨x,cM x hx,hi⟩
  ·exact ⟨f,gg,by rw [hg]; exact dQ i hi⟩
 generalize rC:(s.J7 c.args.toList).app caps=av at h aD hT;unfold T1 at h;split at h
 ·cases h
 ·rename_i c' de
  rw [de] at hT;simp only at hT;split at h
  ·cases h
  ·rename_i x gs m hx
   obtain ⟨js,jV⟩:=RD hx;have iY:∀ i,i∈gs++m->i∈l5 E o s:=by
    intro i hi;rw [hT];cases hp:c'.ps.any PK.l5 with
    | true=>exact I5.2 (js i hi)
    | false=>obtain ⟨r1,r2⟩:=jV hp; rw [r1,r2] at hi; cases hi
   split at h
   ·cases h
   ·rename_i bT
    obtain ⟨lh,fp⟩:=(Bool.and_eq_true_iff).1 bT;obtain ⟨fZ,sA⟩:=(Bool.and_eq_true_iff).1 fp;split at h
    ·cases h
    ·rename_i s2 lX
     split at h
     ·cases h
     ·rename_i hm
      split at h
      ·rename_i l hp pI
       simp only [OR.get,Option.some.injEq,Prod.mk.injEq] at h;obtain ⟨rfl,rfl,_⟩:=h;obtain ⟨k3,h3,k4⟩:=KC pI;simp only [Nat.zero_add,Nat.zero_le,true_and] at k3 k4;have kV:∀ {t:St},T4 t ((List.range c'.rs.length).map (N8 (o.dst.getD 0)))->∀ k,k<c'.rs.length->look (N8 (o.dst.getD 0) k) t.hp=none:=λ hn k hk=>(hn _ (List.mem_map.2 ⟨k,by simpa using hk,rfl⟩)).1;have hw:∃ (f:AV->AV) (h:Nat->Option i7),Trim (l5 E o s) f/\(∀ i,i∉l5 E o s->h i=none)/\∀ t,uniq t.fr->(∀ i∈l5 E o s,look i t.hp=look i s.hp)->∃ t2,wr c'.ps (c'.out x) m (St.w9 gs t)=some t2/\uniq t2.fr/\(∀ n,look n t2.fr=(look n t.fr).map f)/\∀ i,look i t2.hp=if i∈l5 E o s then h i else look i t.hp:=by
        rcases yt lX with ⟨rfl,hw⟩|⟨i0,ow,e,rfl,hw⟩
        ·refine ⟨xI gs,λ i=>if i∈l5 E o s then (if i∈gs then none else look i s.hp) else none,(Trim.w9 gs).mono (λ i hi=>iY i (by simp [hi])),λ i hi=>by simp [hi],λ t hu ha=>⟨_,hw _,CM hu,λ n=>CB,λ i=>?_⟩⟩
         rw [J3];by_cases h1:i∈gs
         ·simp [h1,iY i (by simp [h1])]
         ·by_cases h2:i∈l5 E o s
          ·simp [h1,h2,ha i h2]
          ·simp [h1,h2]
        ·have mY:i0∈l5 E o s:=iY i0 (by simp)
         refine ⟨λ u=>AV.map (AV.xK i0 ow) (xI gs u),λ i=>if i∈l5 E o s then (if i=i0 then some e else if i∈gs then none else look i s.hp) else none,
          Trim.comp (Trim.w9 gs) (Trim.Z5 i0 ow) (λ i hi=>iY i (by simp [hi])) (by simpa using mY),λ i hi=>by simp [hi],λ t hu ha=>⟨_,hw _,CD (CM hu),λ n=>?_,λ i=>?_⟩⟩
         ·show look n (mapA _ (St.w9 gs t).fr)=_
          rw [O6,CB,Option.map_map]; rfl
         ·show look i (Ex.put i0 e (St.w9 gs t).hp)=_
          rw [p7,J3];by_cases h0:i=i0
          ·subst h0; simp [mY]
          ·by_cases h1:i∈gs
           ·simp [h0,h1,iY i (by simp [h1])]
           ·by_cases h2:i∈l5 E o s
            ·simp [h0,h1,h2,ha i h2]
            ·simp [h0,h1,h2]
       obtain ⟨f0,h0,w1,w2,w3⟩:=hw;refine ⟨(List.range c'.rs.length).map (N8 (o.dst.getD 0)),f0,λ i=>match h3 i with|some e=>some e|none=>h0 i,w1,?_,?_,?_,?_⟩
       ·intro n hn
        obtain ⟨k,hk,rfl⟩:=List.mem_map.1 hn;exact ⟨KG.1 sA k (by simpa using hk),λ m w hw=>CK (Fy fZ k (by simpa using hk)) hw⟩
       ·intro n hn
        obtain ⟨k,_,rfl⟩:=List.mem_map.1 hn;exact WQ _ _
       ·intro i hi
        obtain ⟨k,m2,rfl⟩:=k3 i (Yx hi);exact .inr (List.mem_map.2 ⟨k,by simpa using m2,rfl⟩)
       ·intro t hu ha hn
        have eQ:Alike s t av:=λ i hi=>by obtain ⟨x,hx,hm⟩:=aD i hi; exact (ha x hx).2 i hm
        obtain ⟨t2,e1,e2,e3,e4⟩:=w3 t hu (λ i hi=>AB ha hi);have ly:∀ k,k<c'.rs.length->N8 (o.dst.getD 0) k∉l5 E o s:=by
         intro k hk bj;obtain ⟨x,hx,hm⟩:=Lv bj;obtain ⟨m',rfl,gw⟩:∃ m',x=.tmp m'/\(s.get m').j5 (N8 (o.dst.getD 0) k)=true:=by
          cases x with
          | tmp m'=>exact ⟨m',rfl,Fv hm⟩
          | const v =>
           exfalso;simp only [St.ev] at hm;unfold ofConst at hm;split at hm
           ·split at hm<;>cases hm
           ·cases hm
           ·split at hm<;>cases hm
           ·cases hm
          | global g=>cases hm
          | func f=>cases hm
         simp only [St.get] at gw;cases hl:look m' s.fr with
         | none=>rw [hl] at gw; cases gw
         | some w =>
          rw [hl] at gw;have:=CK (Fy fZ k hk) hl;simp only [Option.getD_some] at gw;rw [gw] at this; cases this
        have eK:∀ k,k<c'.rs.length->look (N8 (o.dst.getD 0) k) t2.hp=none:=by
         intro k hk;rw [e4,if_neg (ly k hk)];exact kV hn k hk
        obtain ⟨fF,r1,r2⟩:=k4 t2.hp (λ k _ hk=>eK k hk);have gw:xM (o.dst.getD 0) c'.rs.length t2.fr=true:=KF (λ k hk=>EM e2 (λ n w hw=>by
         rw [e3] at hw;cases hl:look n t.fr with
         | none=>rw [hl] at hw; cases hw
         | some u =>
          rw [hl] at hw;cases hw;cases pC:(f0 u).j5 (N8 (o.dst.getD 0) k) with
          | false=>rfl
          | true =>
           have:=(hn (N8 (o.dst.getD 0) k) (List.mem_map.2 ⟨k,by simpa using hk,rfl⟩)).2 n u hl;rw [w1.j5 u pC] at this; cases this))
        have kM:xM (o.dst.getD 0) c'.rs.length t.fr=true:=KF (λ k hk=>EM hu (hn _ (List.mem_map.2 ⟨k,by simpa using hk,rfl⟩)).2);have pv:Al (o.dst.getD 0) c'.rs.length t.hp=true:=KG.2 (λ k hk=>kV hn k hk);have cZ:(t.J7 c.args.toList).app caps=av:=by
         rw [Ah (s:=s) (t:=t) (λ x hx=>(ha x (cM x hx)).1)]; exact rC
        have tD:T1 E g av o.dst t=.F5 (c'.pre x) l.one { t2 with hp:=fF }:=by
         unfold T1;simp only [de,Ox (s:=s) (t:=t) eQ,hx,lh,kM,pv,Bool.and_self,e1,gw,r1]
        refine ⟨{ t2 with hp:=fF },?_,e2,⟨e3,λ i=>?_⟩⟩
        ·rw [he t ((ha f gg).1.trans hg),hW,cZ,tD]; simp only [OR.get,Option.map_some,hq]
        ·show look i fF=_
         rw [(r2 i).1,e4];cases hh:h3 i with
         | some e =>
          obtain ⟨k,hk,mW⟩:=(r2 i).2 (by rw [hh]; rfl);simp only;rw [if_pos (.inr (List.mem_map.2 ⟨k,by simpa using hk,mW.symm⟩))]
         | none =>
          simp only;by_cases h1:i∈l5 E o s
          ·rw [if_pos h1,if_pos (.inl h1)]
          ·rw [if_neg h1]
           split
           ·rename_i hi
            rcases hi with hi|hi
            ·exact absurd hi h1
            ·obtain ⟨k,hk,rfl⟩:=List.mem_map.1 hi
             rw [kV hn k (by simpa using hk),w2 _ h1]
           ·rfl
      ·cases h
theorem YI {o:Oper} {c:Call} (ho:o.op=.call c) {f:Operand} (hc:c.callee=.value f) {p:Prop} {v:AV} {s1:St} (h:(m0 E o s).get=some (p,v,s1)):E5 E o s p v:=by
 have key:(∃ g caps,s.ev f=.C5 g caps)\/(∃ g b,s.ev f=.val (.fn g) b)\/∃ g t y,s.ev f=.val (.box false (some g) t) y:=by
  unfold m0 at h;rw [ho] at h;simp only [hc] at h;split at h
  ·exact .inl ⟨_,_,by assumption⟩
  ·exact .inr (.inl ⟨_,_,by assumption⟩)
  ·exact .inr (.inr ⟨_,_,_,by assumption⟩)
  ·cases h
 rcases key with ⟨g,caps,hg⟩|⟨g,b,hg⟩|⟨g,t0,y0,hg⟩
 ·refine Kp ho hc (W:=λ r=>r) (π:=λ q=>q) (g:=g) (caps:=caps) (λ r=>by cases r<;>rfl) hg (λ i hi=>hi) (λ t ht=>?_) ?_ h
  ·unfold m0
   rw [ho];simp only [hc,ht]
  ·unfold l5; rw [ho]; simp only [hc,hg]; rfl
 ·refine Kp ho hc (W:=λ r=>r.yc ((b:Bool)=true)) (π:=λ q=>(b:Bool)=true/\q) (g:=g) (caps:=.nil) (λ r=>by cases r<;>rfl) hg (λ i hi=>by cases hi) (λ t ht=>?_) ?_ h
  ·unfold m0
   rw [ho];simp only [hc,ht]
  ·unfold l5; rw [ho]; simp only [hc,hg]; rfl
 ·refine Kp ho hc (W:=λ r=>r.yc ((y0:Option t0.den).isSome=true)) (π:=λ q=>(y0:Option t0.den).isSome=true/\q) (g:=g) (caps:=.cons (.O5 t0 (Option.getD (y0:Option t0.den) t0.s6)) .nil) (λ r=>by cases r<;>rfl) hg (λ i hi=>by cases hi) (λ t ht=>?_) ?_ h
  ·unfold m0
   rw [ho];simp only [hc,ht]
  ·unfold l5; rw [ho]; simp only [hc,hg]; rfl
end
end Go.Ex
namespace Go.Ex
section
variable {E:Env} {s t:St}
theorem c0o {T:TypeId} {i:Nat} {p:List Step} {x:AV} {q:Prop} {v:AV} {s1:St} (h:(P5 E T i p x s).get=some (q,v,s1)) :
  v=.raw undef/\∃ g ow e,(∀ j∈g,x.j5 j=true)/\∀ t:St,t.obj i=s.obj i->Alike s t x->(P5 E T i p x t).get=some (q,.raw undef,((St.w9 g t).kill i ow p).w8 i e):=by
 unfold P5 at h;split at h
 ·cases h
 ·rename_i e aS
  split at h
  ·cases h
  ·rename_i u y hg
   split at h
   ·cases h
   ·rename_i bz
    have base:∀ t:St,t.obj i=s.obj i->t.obj i=some e:=λ t ht=>ht.trans aS;split at h
    ·split at h
     ·split at h
      ·rename_i r aG
       cases h;refine ⟨rfl,[],e.kd,e.E1 r,by simp,λ t ht _=>?_⟩;unfold P5;simp only [base t ht,hg,bz,aG];rfl
      ·cases h
     ·split at h
      ·rename_i r aG
       cases h;refine ⟨rfl,[],e.kd,e.E1 r,by simp,λ t ht _=>?_⟩;unfold P5;simp only [base t ht,hg,bz,aG];rfl
      ·cases h
     ·cases h
    ·rename_i j q' lo hi
     split at h
     ·split at h
      ·rename_i r aG
       split at h
       ·rename_i bN
        cases h;refine ⟨rfl,[],e.kd,e.E1 r,by simp,λ t ht _=>?_⟩;unfold P5;simp only [base t ht,hg,bz,aG,bN];rfl
       ·cases h
      ·cases h
     ·cases h
    ·rename_i x' je oH
     split at h
     ·rename_i z g cP
      split at h
      ·rename_i r aG
       split at h
       ·rename_i bN
        cases h;refine ⟨rfl,g,e.kd,e.E1 r,Ff cP,λ t ht eQ=>?_⟩;have fm:=(zu eQ).trans cP;unfold P5;simp only [base t ht,hg,bz];simp only [fm,aG,bN];rfl
       ·cases h
      ·cases h
     ·rename_i cP
      split at h
      ·rename_i j q'
       split at h
       ·rename_i u' y' cO
        split at h
        ·rename_i r aG
         split at h
         ·rename_i bN
          cases h;refine ⟨rfl,[],e.kd,e.E1 r,by simp,λ t ht eQ=>?_⟩;have fm:=(zu eQ).trans cP;have pf:=(J4 (p:=q') (eQ j (by simp [AV.j5]))).trans cO;unfold P5;simp only [base t ht,hg,bz];simp only [fm,pf,aG,bN];rfl
         ·cases h
        ·cases h
       ·cases h
      ·cases h
theorem ZW {o:Oper} {T:TypeId} {a x:Operand} (ho:o.op=.store T a x) {p:Prop} {v:AV} {s1:St} (h:(m0 E o s).get=some (p,v,s1)):E5 E o s p v:=by
 have pe:∃ i q,s.ev a=.ptr i q:=by
  unfold m0 at h;rw [ho] at h;simp only at h;split at h
  ·exact ⟨_,_,by assumption⟩
  ·cases h
 obtain ⟨i,q,hp⟩:=pe;have ha:∀ t,t.ev a=.ptr i q->m0 E o t=P5 E T i q (t.ev x) t:=by
  intro t ht;unfold m0;rw [ho];simp only [ht]
 rw [ha s hp] at h;obtain ⟨rfl,g,ow,e,hg,k⟩:=c0o h;have hT:l5 E o s=(s.ev a).H5++(s.ev x).H5:=by unfold l5; rw [ho]
 have rq:i∈l5 E o s:=by rw [hT,hp]; simp [AV.H5]
 have iY:∀ j∈g,j∈l5 E o s:=λ j hj=>by rw [hT]; exact List.mem_append_right _ (I5.2 (hg j hj))
 have rD:a∈o.op.operands.toList:=by rw [ho]; simp [Op.operands]
 have cM:x∈o.op.operands.toList:=by rw [ho]; simp [Op.operands]
 refine ⟨[],λ u=>AV.kill i ow q (xI g u),λ j=>if j=i then some e else if j∈g then none else look j s.hp,Trim.comp (Trim.w9 g) (Trim.kill i ow q) iY (by simpa using rq),by simp [T4],by simp,by simp [AV.j5],?_⟩;intro t hu dn _;have cZ:=(dn x cM).1;have pn:t.obj i=s.obj i:=(dn a rD).2 i (by rw [hp]; simp [AV.j5]);refine ⟨((St.w9 g t).kill i ow q).w8 i e,?_,CD (CM hu),⟨λ n=>?_,λ j=>?_⟩⟩
 ·rw [ha t ((dn a rD).1.trans hp),cZ]
  exact k t pn (λ j hj=>(dn x cM).2 j hj)
 ·show look n (mapA _ (St.w9 g t).fr)=_
  rw [O6,CB,Option.map_map]; rfl
 ·show look j (Ex.put i e (St.w9 g t).hp)=_
  rw [p7,J3];by_cases h0:j=i
  ·subst h0; simp [rq]
  ·by_cases h1:j∈g
   ·simp [h0,h1,iY j h1]
   ·by_cases h2:j∈l5 E o s
    ·simp [h0,h1,h2,AB dn h2]
    ·simp [h0,h1,h2]
theorem Tk {T:TypeId} {x y:AV} {dst:Option Nat} {p:Prop} {v:AV} {s1:St} (h:(wU E T x y dst s).get=some (p,v,s1)) :
  ∃ d g u l,dst=some d/\(∀ j∈g,x.j5 j=true\/y.j5 j=true)/\∀ t,Alike s t x->Alike s t y->wU E T x y dst t=(St.lay t d g u l).f7 p:=by
 unfold wU at h;split at h
 ·rename_i q t0 bts d hT
  split at h
  ·cases h
  ·rename_i tt m g cp
   have ig:=RB cp;have ha:∀ t,Alike s t y->y.vo t t0=some (⟨tt,m⟩,g):=λ t ht=>(IS ht).trans cp;simp only at h;split at h
   ·split at h
    ·rename_i da
     obtain rfl:=By h (λ _ _ _=>wY);refine ⟨d,[]++g,.d0 true t0,(([]:List t0.den)++O7 da m),rfl,by simpa using λ j hj=>.inr (ig j hj),λ t _ hy=>?_⟩;unfold wU;simp only [hT,ha t hy,da,dif_pos]
    ·cases h
   ·split at h
    ·rename_i bz
     split at h
     ·rename_i da
      obtain rfl:=By h (λ _ _ _=>wY);refine ⟨d,[]++g,.d0 true t0,(([]:List t0.den)++O7 da m),rfl,by simpa using λ j hj=>.inr (ig j hj),λ t _ hy=>?_⟩;unfold wU;simp only [hT,ha t hy,da,dif_pos,bz]
     ·cases h
    ·cases h
   ·rename_i je oH
    split at h
    ·rename_i u l f cP
     split at h
     ·rename_i hu
      split at h
      ·rename_i da
       obtain rfl:=By h (λ _ _ _=>wY);refine ⟨d,f++g,.d0 true t0,(O7 hu l++O7 da m),rfl,?_,λ t hx hy=>?_⟩
       ·intro j hj
        rcases List.mem_append.1 hj with hj|hj
        ·exact .inl (EK cP j hj)
        ·exact .inr (ig j hj)
       ·have fm:=(Er hx).trans cP
        unfold wU;simp only [hT,ha t hy];simp only [fm,hu,da,dif_pos]
      ·cases h
     ·cases h
    ·cases h
 ·cases h
theorem YV {T:TypeId} {x y:AV} {dst:Option Nat} {p:Prop} {v:AV} {s1:St} (h:(Dn E T x y dst s).get=some (p,v,s1)) :
  ∃ d g u l,dst=some d/\(∀ j∈g,x.j5 j=true\/y.j5 j=true)/\∀ t,Alike s t x->Alike s t y->Dn E T x y dst t=(St.lay t d g u l).f7 p:=by
 cases h
theorem YC {T:TypeId} {x y:AV} {dst:Option Nat} {p:Prop} {v:AV} {s1:St} (h:(xB E T x y dst s).get=some (p,v,s1)) :
  ∃ d g u l,dst=some d/\(∀ j∈g,x.j5 j=true\/y.j5 j=true)/\∀ t,Alike s t x->Alike s t y->xB E T x y dst t=(St.lay t d g u l).f7 p:=by
 have hs:∀ t,Alike s t x->Dz t x=Dz s x:=λ t ht=>by
  unfold Dz
  split
  ·rw [ht _ (by simp [AV.j5])]
  ·rfl
 unfold xB at h;split at h
 ·rename_i hc
  obtain ⟨d,g,u,l,h1,h2,h3⟩:=YV h;exact ⟨d,g,u,l,h1,h2,λ t hx hy=>by unfold xB; rw [hs t hx,hc]; exact h3 t hx hy⟩
 ·rename_i hc
  obtain ⟨d,g,u,l,h1,h2,h3⟩:=Tk h;exact ⟨d,g,u,l,h1,h2,λ t hx hy=>by unfold xB; rw [hs t hx,hc]; exact h3 t hx hy⟩
theorem Kx {i:Nat} {p:List Step} {lo:Nat} {u:Ty} {m:List u.den} {s1:St} (h:vU s i p lo u m=some s1):∃ ow e',∀ t:St,t.obj i=s.obj i->vU t i p lo u m=some ((t.Z5 i ow).w8 i e'):=by
 unfold vU at h;split at h
 ·rename_i e he
  split at h
  ·rename_i u' l hg
   split at h
   ·rename_i hu
    split at h
    ·rename_i r aG
     split at h
     ·rename_i hc
      refine ⟨e.Z6,e.E1 r,λ t ht=>?_⟩;unfold vU;rw [ht,he];simp only [hg,hu,dif_pos];subst hu;simp only [aG,hc]
     ·cases h
    ·cases h
   ·cases h
  ·cases h
 ·cases h
theorem E5.Mp {o:Oper} {p:Prop} {v:AV} {i:Nat} {ow:Bool} {e':i7} (hi:i∈l5 E o s) (hv:∀ j,v.j5 j=true->∃ x∈o.op.operands.toList,(s.ev x).j5 j=true) (hr:∀ t,Y8 s t o.op.operands.toList->(m0 E o t).get=some (p,v,(t.Z5 i ow).w8 i e')):E5 E o s p v:=by
 refine ⟨[],AV.map (AV.xK i ow),λ j=>if j=i then some e' else look j s.hp,(Trim.Z5 i ow).mono (by simpa using hi),by simp [T4],by simp,λ j hj=>.inl (hv j hj),λ t hu ha _=>⟨_,hr t ha,CD hu,λ n=>?_,λ j=>?_⟩⟩
 ·show look n (mapA _ t.fr)=_
  rw [O6]
 ·show look j (Ex.put i e' t.hp)=_
  rw [p7];by_cases h1:j=i
  ·subst h1; simp [hi]
  ·rw [if_neg h1]
   by_cases h2:j∈l5 E o s
   ·rw [if_pos (.inl h2),if_neg h1]; exact AB ha h2
   ·rw [if_neg (by simp [h2])]
theorem E5.fill {o:Oper} {p:Prop} {v:AV} {i:Nat} {ow:Bool} {e':i7} (hi:i∈l5 E o s) (hv:∀ j,v.j5 j=false) (hr:∀ t,Y8 s t o.op.operands.toList->(m0 E o t).get=some (p,v,(t.Z5 i ow).w8 i e')):E5 E o s p v :=
 .Mp hi (λ j hj=>by rw [hv j] at hj; cases hj) hr
theorem c2e {o:Oper} {c:Call} (ho:o.op=.call c) (hc:c.callee=.builtin .append) {p:Prop} {v:AV} {s1:St} (h:(m0 E o s).get=some (p,v,s1)):E5 E o s p v:=by
 have cM:∀ x∈c.args.toList,x∈o.op.operands.toList:=λ x hx=>by rw [ho]; exact xN hx
 have hT:l5 E o s=(s.J7 c.args.toList).H5:=by unfold l5; rw [ho]; simp only [hc]
 have key:(∃ x y T F,(F=wU E T\/F=xB E T)/\c.args.toList=[x,y]/\(∀ t,t.ev x=s.ev x->t.ev y=s.ev y->m0 E o t=F (t.ev x) (t.ev y) o.dst t))\/(∃ x y T,c.args.toList=[x,y]/\(∀ t,t.ev x=s.ev x->t.ev y=s.ev y->m0 E o t=wV E T (t.ev x) (t.ev y) t))\/(∃ x y T,c.args.toList=[x,y]/\∀ t,m0 E o t=Ao E T (t.ev x) (t.ev y) o.dst t):=by
  unfold m0 at h;rw [ho] at h;simp only [hc] at h;split at h
  ·rename_i x y T U aD fJ
   split at h
   ·rename_i hU
    cases jj:(s.ev x).MA (s.ev y) with
    | true=>exact .inr (.inl ⟨x,y,T,aD,λ t e1 e2=>by unfold m0; rw [ho]; simp only [hc,aD,fJ,hU]; rw [e1,e2,jj]⟩)
    | false=>exact .inl ⟨x,y,T,_,.inr rfl,aD,λ t e1 e2=>by unfold m0; rw [ho]; simp only [hc,aD,fJ,hU]; rw [e1,e2,jj]⟩
   ·rename_i hU
    exact .inl ⟨x,y,T,_,.inl rfl,aD,λ t _ _=>by unfold m0; rw [ho]; simp only [hc,aD,fJ,hU]⟩
   ·rename_i hU
    exact .inr (.inr ⟨x,y,T,aD,λ t=>by unfold m0; rw [ho]; simp only [hc,aD,fJ,hU]⟩)
   ·cases h
  ·cases h
 rcases key with key|⟨x,y,T,aD,he⟩|⟨x,y,T,aD,he⟩
 rotate_left
 ·have eV:x∈o.op.operands.toList:=cM x (by rw [aD]; simp)
  have gI:y∈o.op.operands.toList:=cM y (by rw [aD]; simp);rw [he s rfl rfl] at h;have hI:=b8C h;simp only at hI;obtain ⟨i,lo,hi,q,t0,bts,u,m,l,hx,qE,cp,aS,hf,bz,rfl,rfl⟩:=Tl hI;obtain ⟨ow,e',gN⟩:=Kx hf;have hm:(s.ev x).j5 i=true:=by rw [hx]; simp [AV.j5]
  refine E5.Mp (i:=i) (ow:=ow) (e':=e') (by rw [hT,I5,aD]; simp [St.J7,AV.j5,hm]) (λ j hj=>⟨x,eV,by rw [hx]; exact hj⟩) (λ t ha=>?_);rw [he t (ha x eV).1 (ha y gI).1,(ha x eV).1,(ha y gI).1,hx];have pk:t.obj i=some (.own (.d0 true u) l):=((ha x eV).2 i hm).trans aS;unfold wV;simp only [qE,(IS (u:=t0) (ha y gI).2).trans cp,pk,gN t ((ha x eV).2 i hm),bz,decide_true];rfl
 ·have h0:=h
  rw [he] at h;have eV:x∈o.op.operands.toList:=cM x (by rw [aD]; simp);have gI:y∈o.op.operands.toList:=cM y (by rw [aD]; simp);unfold Ao at h;split at h
  ·rename_i t0 bts d k n qE kj je oG
   obtain rfl:=By h (λ _ _ _=>wY);refine E5.lay kj (g:=[]) (u:=.d0 true t0) (x:=List.replicate n.toNat t0.s6) (W:=OR.f7 (0<=n/\n<=140737488355328/\n*(t0.wb:Nat)<=140737488355328)) (λ _ _=>rfl) (λ _=>rfl) (by simp) h0 (λ t ha=>?_);rw [he,(ha x eV).1,(ha y gI).1];unfold Ao;simp only [qE,kj,je,oG]
  ·cases h
 obtain ⟨x,y,T,F,hF,aD,he⟩:=key;have h0:=h;rw [he s rfl rfl] at h;have gY:∃ d g u l,o.dst=some d/\(∀ j∈g,(s.ev x).j5 j=true\/(s.ev y).j5 j=true)/\∀ t,Alike s t (s.ev x)->Alike s t (s.ev y)->F (s.ev x) (s.ev y) o.dst t=(St.lay t d g u l).f7 p:=by
  rcases hF with rfl|rfl
  ·exact Tk h
  ·exact YC h
 obtain ⟨d,g,u,l,hd,hg,k⟩:=gY;have eV:x∈o.op.operands.toList:=cM x (by rw [aD]; simp);have gI:y∈o.op.operands.toList:=cM y (by rw [aD]; simp);refine E5.lay hd (g:=g) (u:=u) (x:=l) (W:=OR.f7 p) (λ _ _=>rfl) (λ _=>rfl) ?_ h0 (λ t ha=>?_)
 ·intro j hj
  rw [hT,I5,aD];rcases hg j hj with h|h<;>simp [St.J7,AV.j5,h]
 ·rw [he t (ha x eV).1 (ha y gI).1,(ha x eV).1,(ha y gI).1]
  exact k t (ha x eV).2 (ha y gI).2
end
end Go.Ex
namespace Go.Ex
section
variable {E:Env} {s t:St}
theorem ag {o:Oper} {x:Operand} (h:Y8 s t o.op.operands.toList) (hx:x∈o.op.operands.toList):t.ev x=s.ev x/\Alike s t (s.ev x):=⟨(h x hx).1,(h x hx).2⟩
theorem ob1 {i:Nat} {p:List Step} (h:Alike s t (.ptr i p)):t.obj i=s.obj i:=h i (by simp [AV.j5])
theorem ob2 {i:Nat} {p:List Step} (h:Alike s t (.at_ i p)):t.obj i=s.obj i:=h i (by simp [AV.j5])
theorem ob3 {i:Nat} {p:List Step} {a b:Int} (h:Alike s t (.sub i p a b)):t.obj i=s.obj i:=h i (by simp [AV.j5])
theorem b4x {o:Oper} {T:TypeId} {x:Operand} {n:Nat} (ho:o.op=.fieldAddr T x n) {p:Prop} {v:AV} {s1:St} (h:(m0 E o s).get=some (p,v,s1)):E5 E o s p v:=by
 have hx:x∈o.op.operands.toList:=by rw [ho]; simp [Op.operands]
 refine .ro h (λ t ha=>?_) (λ i hi=>⟨x,hx,?_⟩)
 ·obtain ⟨e1,e2⟩:=ag ha hx
  unfold m0;rw [ho];simp only [e1];cases hx:s.ev x with
  | ptr i q =>
   rw [hx] at e2;simp only [J4 (e2 i (by simp [AV.j5]))]
   repeat' (first|rfl|split)
  | val u z =>
   cases u with
   | box o0 g0 u0=>cases o0<;>cases g0<;>first|rfl|(dsimp only; repeat' (first|rfl|split))
   | _=>first|rfl|(dsimp only; repeat' (first|rfl|split))
  | _=>first|rfl|(dsimp only; split<;>rfl)
 ·unfold m0 at hi
  rw [ho] at hi;simp only at hi;cases hx:s.ev x with
  | ptr j q =>
   rw [hx] at hi;simp only at hi
   repeat' (split at hi)
   all_goals first|exact hi|(cases hi; done)
  | val u z =>
   rw [hx] at hi;exfalso;cases u with
   | box o0 g0 u0=>cases o0<;>cases g0<;>first|(cases hi; done)|(simp only at hi; repeat' (split at hi))<;>(cases hi)
   | _=>first|(cases hi; done)|(simp only at hi; repeat' (split at hi))<;>(cases hi)
  | _ =>
   rw [hx] at hi;simp only at hi
   repeat' (split at hi)
   all_goals first|exact hi|(cases hi; done)
theorem b4w {o:Oper} {T:TypeId} {x y:Operand} (ho:o.op=.indexAddr T x y) {p:Prop} {v:AV} {s1:St} (h:(m0 E o s).get=some (p,v,s1)):E5 E o s p v:=by
 have cM:x∈o.op.operands.toList:=by rw [ho]; simp [Op.operands]
 have lU:y∈o.op.operands.toList:=by rw [ho]; simp [Op.operands]
 refine .ro h (λ t ha=>?_) (λ i hi=>⟨x,cM,?_⟩)
 ·obtain ⟨e1,e2⟩:=ag ha cM
  have e3:=(ag ha lU).1;unfold m0;rw [ho];simp only [e1,e3]
  split
  ·rename_i hx _; rw [hx] at e2; (first|simp only [J4 (ob1 e2)]|simp only [J4 (ob2 e2)]) ; (generalize s.part _ _=pt; cases pt with|none=>rfl|some q=>(obtain ⟨u,z⟩:=q; cases u<;>first|rfl|(dsimp only; repeat' (first|rfl|split))|(rename_i o0 _; cases o0<;>first|rfl|(dsimp only; repeat' (first|rfl|split)))))
  ·repeat' (first|rfl|split)
  ·repeat' (first|rfl|split)
  ·rename_i hx _; rw [hx] at e2; (first|simp only [J4 (ob1 e2)]|simp only [J4 (ob2 e2)]) ; (generalize s.part _ _=pt; cases pt with|none=>rfl|some q=>(obtain ⟨u,z⟩:=q; cases u<;>first|rfl|(dsimp only; repeat' (first|rfl|split))|(rename_i o0 _; cases o0<;>first|rfl|(dsimp only; repeat' (first|rfl|split)))))
  ·rename_i hx _; rw [hx] at e2; simp only [Eg (ob3 e2)] ; (generalize s.view _ _ _ _=pt; cases pt with|none=>rfl|some q=>(obtain ⟨u,z⟩:=q; dsimp only; repeat' (first|rfl|split)))
  ·rfl
 ·unfold m0 at hi
  rw [ho] at hi;simp only at hi;split at hi
  ·rename_i hx _; rw [hx]; repeat' (split at hi)
   all_goals first|exact hi|(cases hi; done)
  ·repeat' (split at hi)
   all_goals (cases hi; done)
  ·repeat' (split at hi)
   all_goals (cases hi; done)
  ·rename_i hx _; rw [hx]; repeat' (split at hi)
   all_goals first|exact hi|(cases hi; done)
  ·rename_i hx _; rw [hx]; repeat' (split at hi)
   all_goals first|exact hi|(cases hi; done)
  ·cases hi
theorem c3R {o:Oper} {T:TypeId} {x y:Operand} (ho:o.op=.index T x y) {p:Prop} {v:AV} {s1:St} (h:(m0 E o s).get=some (p,v,s1)):E5 E o s p v:=by
 have cM:x∈o.op.operands.toList:=by rw [ho]; simp [Op.operands]
 have lU:y∈o.op.operands.toList:=by rw [ho]; simp [Op.operands]
 refine .ro h (λ t ha=>?_) (λ i hi=>⟨x,cM,?_⟩)
 ·obtain ⟨e1,e2⟩:=ag ha cM
  have e3:=(ag ha lU).1;unfold m0;rw [ho];simp only [e1,e3]
  split
  ·split<;>rfl
  ·split<;>rfl
  ·rename_i hx _; rw [hx] at e2; (first|simp only [J4 (ob1 e2)]|simp only [J4 (ob2 e2)]) ; (generalize s.part _ _=pt; cases pt with|none=>rfl|some q=>(obtain ⟨u,z⟩:=q; cases u<;>first|rfl|(dsimp only; repeat' (first|rfl|split))|(rename_i o0 _; cases o0<;>first|rfl|(dsimp only; repeat' (first|rfl|split)))))
  ·rfl
 ·unfold m0 at hi
  rw [ho] at hi;simp only at hi;split at hi
  ·repeat' (split at hi)
   all_goals (cases hi; done)
  ·repeat' (split at hi)
   all_goals (cases hi; done)
  ·rename_i hx _; rw [hx]; repeat' (split at hi)
   all_goals first|exact hi|(cases hi; done)
  ·cases hi
theorem c3V {o:Oper} {T:TypeId} {x:Operand} {n:Nat} (ho:o.op=.field T x n) {p:Prop} {v:AV} {s1:St} (h:(m0 E o s).get=some (p,v,s1)):E5 E o s p v:=by
 have cM:x∈o.op.operands.toList:=by rw [ho]; simp [Op.operands]
 refine .ro h (λ t ha=>?_) (λ i hi=>⟨x,cM,?_⟩)
 ·obtain ⟨e1,e2⟩:=ag ha cM
  unfold m0;rw [ho];simp only [e1]
  split
  ·split<;>rfl
  ·rename_i hx; rw [hx] at e2; (first|simp only [J4 (ob1 e2)]|simp only [J4 (ob2 e2)]) ; (generalize s.part _ _=pt; cases pt with|none=>rfl|some q=>(obtain ⟨u,z⟩:=q; cases u<;>first|rfl|(dsimp only; repeat' (first|rfl|split))|(rename_i o0 _; cases o0<;>first|rfl|(dsimp only; repeat' (first|rfl|split)))))
  ·rfl
 ·unfold m0 at hi
  rw [ho] at hi;simp only at hi;split at hi
  ·repeat' (split at hi)
   all_goals (cases hi; done)
  ·rename_i hx; rw [hx]; repeat' (split at hi)
   all_goals first|exact hi|(cases hi; done)
  ·cases hi
theorem Xi {o:Oper} {c:Call} (ho:o.op=.call c) (hc:c.callee=.builtin .cap) {p:Prop} {v:AV} {s1:St} (h:(m0 E o s).get=some (p,v,s1)):E5 E o s p v:=by
 obtain ⟨x,T,ha,hT⟩:∃ x T,c.args.toList=[x]/\c.argTypes.toList=[T]:=by
  unfold m0 at h;rw [ho] at h;simp only [hc] at h;split at h
  ·exact ⟨_,_,by assumption,by assumption⟩
  ·cases h
 have im:x∈o.op.operands.toList:=by rw [ho]; exact xN (by rw [ha]; simp)
 refine .ro h (λ t dn=>?_) (λ i hi=>?_)
 ·obtain ⟨e1,e2⟩:=ag dn im
  unfold m0;rw [ho];simp only [hc,ha,hT,e1]
  repeat' (first|rfl|split)
 ·exfalso
  unfold m0 at hi;rw [ho] at hi;simp only [hc,ha,hT] at hi
  repeat' (split at hi)
  all_goals (cases hi)
theorem c0Q {o:Oper} {T:TypeId} {x y:Operand} {ok:Bool} (ho:o.op=.lookup T x y ok) {p:Prop} {v:AV} {s1:St} (h:(m0 E o s).get=some (p,v,s1)):E5 E o s p v:=by
 unfold m0 at h; rw [ho] at h; cases h
theorem b7W {o:Oper} {T:TypeId} {r:Option Operand} (ho:o.op=.makeMap T r) {p:Prop} {v:AV} {s1:St} (h:(m0 E o s).get=some (p,v,s1)):E5 E o s p v:=by
 unfold m0 at h; rw [ho] at h; cases h
theorem ZV {o:Oper} {T:TypeId} {x:Operand} {lo hi mx:Option Operand} (ho:o.op=.slice T x lo hi mx) {p:Prop} {v:AV} {s1:St} (h:(m0 E o s).get=some (p,v,s1)):E5 E o s p v:=by
 have gU:∀ y,y=x\/lo=some y\/hi=some y\/mx=some y->y∈o.op.operands.toList:=by
  rw [ho];rintro y (rfl|rfl|rfl|rfl)<;>simp [Op.operands]
 have cM:x∈o.op.operands.toList:=gU x (.inl rfl);have he:∀ t,m0 E o t=yq E T (t.ev x) lo hi mx t:=λ t=>by unfold m0; rw [ho]
 refine .ro h (λ t ha=>?_) (λ i cR=>⟨x,cM,?_⟩)
 ·obtain ⟨e1,e2⟩:=ag ha cM
  rw [he,he,e1];have b1:∀ d,bnd t d lo=bnd s d lo:=λ d=>HL (λ y hy=>(ag ha (gU y (.inr (.inl hy)))).1);have b2:∀ d,bnd t d hi=bnd s d hi:=λ d=>HL (λ y hy=>(ag ha (gU y (.inr (.inr (.inl hy))))).1);have b3:∀ d,bnd t d mx=bnd s d mx:=λ d=>HL (λ y hy=>(ag ha (gU y (.inr (.inr (.inr hy))))).1);unfold yq;simp only [b1,b2,b3]
  split
  ·rfl
  ·split
   ·repeat' (first|rfl|split)
   ·repeat' (first|rfl|split)
   ·repeat' (first|rfl|split)
   ·repeat' (first|rfl|split)
   ·rename_i hx; rw [hx] at e2; (first|simp only [J4 (ob1 e2)]|simp only [J4 (ob2 e2)]) ; (generalize s.part _ _=pt; cases pt with|none=>rfl|some q=>(obtain ⟨u,z⟩:=q; cases u<;>first|rfl|(dsimp only; repeat' (first|rfl|split))|(rename_i o0 _; cases o0<;>first|rfl|(dsimp only; repeat' (first|rfl|split)))))
   ·rename_i hx; rw [hx] at e2; simp only [J4 (ob3 e2)] ; (generalize s.part _ _=pt; cases pt with|none=>rfl|some q=>(obtain ⟨u,z⟩:=q; cases u<;>first|rfl|(dsimp only; repeat' (first|rfl|split))|(rename_i o0 _; cases o0<;>first|rfl|(dsimp only; repeat' (first|rfl|split)))))
   ·rename_i hx; rw [hx] at e2; (first|simp only [J4 (ob1 e2)]|simp only [J4 (ob2 e2)]) ; (generalize s.part _ _=pt; cases pt with|none=>rfl|some q=>(obtain ⟨u,z⟩:=q; cases u<;>first|rfl|(dsimp only; repeat' (first|rfl|split))|(rename_i o0 _; cases o0<;>first|rfl|(dsimp only; repeat' (first|rfl|split)))))
   ·rfl
 ·rw [he] at cR
  unfold yq at cR;split at cR
  ·cases cR
  ·split at cR
   ·repeat' (split at cR)
    all_goals (cases cR; done)
   ·repeat' (split at cR)
    all_goals (cases cR; done)
   ·repeat' (split at cR)
    all_goals (cases cR; done)
   ·repeat' (split at cR)
    all_goals (cases cR; done)
   ·rename_i hx; rw [hx]; repeat' (split at cR)
    all_goals first|exact cR|(cases cR; done)
   ·rename_i hx; rw [hx]; repeat' (split at cR)
    all_goals first|exact cR|(cases cR; done)
   ·rename_i hx; rw [hx]; repeat' (split at cR)
    all_goals first|exact cR|(cases cR; done)
   ·cases cR
theorem Ws {o:Oper} {c:Call} (ho:o.op=.call c) (hc:c.callee=.builtin .len) {p:Prop} {v:AV} {s1:St} (h:(m0 E o s).get=some (p,v,s1)):E5 E o s p v:=by
 obtain ⟨x,T,ha,hT⟩:∃ x T,c.args.toList=[x]/\c.argTypes.toList=[T]:=by
  unfold m0 at h;rw [ho] at h;simp only [hc] at h;split at h
  ·exact ⟨_,_,by assumption,by assumption⟩
  ·cases h
 have im:x∈o.op.operands.toList:=by rw [ho]; exact xN (by rw [ha]; simp)
 refine .ro h (λ t dn=>?_) (λ i hi=>?_)
 ·obtain ⟨e1,e2⟩:=ag dn im
  unfold m0;rw [ho];simp only [hc,ha,hT,e1]
  split
  ·repeat' (first|rfl|split)
  ·repeat' (first|rfl|split)
  ·repeat' (first|rfl|split)
  ·repeat' (first|rfl|split)
  ·rename_i hx; rw [hx] at e2; (first|simp only [J4 (ob1 e2)]|simp only [J4 (ob2 e2)]) ; (generalize s.part _ _=pt; cases pt with|none=>rfl|some q=>(obtain ⟨u,z⟩:=q; cases u<;>first|rfl|(dsimp only; repeat' (first|rfl|split))|(rename_i o0 _; cases o0<;>first|rfl|(dsimp only; repeat' (first|rfl|split)))|(rename_i o0 _ _; cases o0<;>first|rfl|(dsimp only; repeat' (first|rfl|split)))))
  ·rename_i hx; rw [hx] at e2; simp only [Eg (ob3 e2)] ; (generalize s.view _ _ _ _=pt; cases pt with|none=>rfl|some q=>(obtain ⟨u,z⟩:=q; dsimp only; repeat' (first|rfl|split)))
  ·repeat' (first|rfl|split)
  ·rfl
 ·exfalso
  unfold m0 at hi;rw [ho] at hi;simp only [hc,ha,hT] at hi
  repeat' (split at hi)
  all_goals (cases hi)
theorem Qu {k:IntKind} {f:Int->Int->Int}:∀ {l:List Operand} {n:Int},(∀ x∈l,t.ev x=s.ev x)->foldI t k f n l=(foldI s k f n l).wZ t
 | [],n,_=>rfl
 | x::l,n,h=>by
  simp only [foldI,h x (by simp)]
  split
  ·split
   ·exact Qu (λ y hy=>h y (by simp [hy]))
   ·rfl
  ·rfl
theorem Kz {k:IntKind} {f:Int->Int->Int} {i:Nat}:∀ {l:List Operand} {n:Int},(foldI s k f n l).av.j5 i=true->False
 | [],n,h=>by cases h
 | x::l,n,h=>by
  simp only [foldI] at h;split at h
  ·split at h
   ·exact Kz h
   ·cases h
  ·cases h
theorem SS {o:Oper} {c:Call} (ho:o.op=.call c) (hc:c.callee=.builtin .max\/c.callee=.builtin .min) {p:Prop} {v:AV} {s1:St} (h:(m0 E o s).get=some (p,v,s1)):E5 E o s p v:=by
 have cM:∀ x∈c.args.toList,x∈o.op.operands.toList:=λ x hx=>by rw [ho]; exact xN hx
 refine .ro h (λ t dn=>?_) (λ i hi=>?_)
 ·unfold m0
  rw [ho];rcases hc with hc|hc <;>
  ·simp only [hc]
   split
   ·rename_i x l ha
    rw [(dn x (cM x (by rw [ha]; simp))).1]
    split
    ·exact Qu (λ y hy=>(dn y (cM y (by rw [ha]; simp [hy]))).1)
    ·rfl
   ·rfl
 ·exfalso
  unfold m0 at hi;rw [ho] at hi;rcases hc with hc|hc
  ·simp only [hc] at hi
   split at hi
   ·split at hi
    ·exact Kz hi
    ·cases hi
   ·cases hi
  ·simp only [hc] at hi
   split at hi
   ·split at hi
    ·exact Kz hi
    ·cases hi
   ·cases hi
theorem Zd {o:Oper} {T:TypeId} {parts:Array (Nat×Operand)} (ho:o.op=.build T parts) {p:Prop} {v:AV} {s1:St} (h:(m0 E o s).get=some (p,v,s1)):E5 E o s p v:=by
 have eW:∀ t,Y8 s t o.op.operands.toList->∀ q∈parts.toList,t.ev q.2=s.ev q.2/\Alike s t (s.ev q.2):=λ t ha q hq=>ag ha (by rw [ho]; simp only [Op.operands]; simpa using ⟨q.1,by simpa using hq⟩);have key:∃ t0 r g,look T E.tt=some t0/\(t0.ty.agg && parts.toList.all (λ q=>wL t0.ty q.1))=true/\T3 s ⟨t0.ty,t0.ty.s6⟩ parts.toList=some (r,g):=by
  unfold m0 at h; rw [ho] at h;simp only at h;split at h
  ·split at h
   ·split at h
    ·exact ⟨_,_,_,by assumption,by assumption,by assumption⟩
    ·exact ⟨_,_,_,by assumption,by assumption,by assumption⟩
    ·cases h
   ·cases h
  ·cases h
 obtain ⟨t0,⟨u,y⟩,g,h1,h2,h3⟩:=key;have hb:∀ t,Y8 s t o.op.operands.toList->T3 t ⟨t0.ty,t0.ty.s6⟩ parts.toList=some (⟨u,y⟩,g):=λ t ha=>(ET (s:=s) (t:=t) (eW t ha)).trans h3;cases g with
 | nil =>
  have he:∀ t,Y8 s t o.op.operands.toList->m0 E o t=.ok (.val u y) t:=λ t ha=>by unfold m0; rw [ho]; simp only [h1,h2,hb t ha]
  refine .ro h (λ t ha=>?_) (λ i hi=>?_)
  ·rw [he t ha,he s (.refl _ _)]; rfl
  ·rw [he s (.refl _ _)] at hi; cases hi
 | cons g0 g =>
  cases hd:o.dst with
  | none =>
   exfalso;unfold m0 at h; rw [ho] at h;simp only [h1,h2,h3,hd] at h;cases h
  | some d =>
   refine E5.lay hd (g:=g0::g) (u:=u) (x:=y) (W:=λ r=>r) (p:=p) (v:=v) (s1:=s1) ?_ (λ _=>rfl) ?_ h (λ t ha=>by unfold m0; rw [ho]; simp only [h1,h2,hb t ha,hd])
   ·have hp:p=True:=by
     unfold m0 at h; rw [ho] at h;simp only [h1,h2,h3,hd] at h;cases hl:s.lay d (g0::g) u y<;>rw [hl] at h
     ·cases h
     ·cases h; rfl
     ·exact absurd hl wY
    intro v s; rw [hp]; rfl
   ·intro i hi
    obtain ⟨q,hq,hm⟩:=Fs h3 i hi;unfold l5;rw [ho];exact I5.2 (JK (List.mem_map.2 ⟨q,hq,rfl⟩) hm)
theorem b2H {o:Oper} {T:TypeId} {n:Nat} {parts:Array (Nat×Operand)} (ho:o.op=.buildSlice T n parts) {p:Prop} {v:AV} {s1:St} (h:(m0 E o s).get=some (p,v,s1)):E5 E o s p v:=by
 have eW:∀ t,Y8 s t o.op.operands.toList->∀ q∈parts.toList,t.ev q.2=s.ev q.2/\Alike s t (s.ev q.2):=λ t ha q hq=>ag ha (by rw [ho]; simp only [Op.operands]; simpa using ⟨q.1,by simpa using hq⟩);have key:∃ t0 b d m t' l g,look T E.tt=some ⟨.d0 true t0,b⟩/\o.dst=some d/\(s.fresh d && parts.toList.all (λ q=>Nat.blt q.1 n) && Nat.ble (n*t0.size) 16777216)=true/\zI s n t0 parts.toList=some (⟨.arr m t',l⟩,g):=by
  unfold m0 at h; rw [ho] at h;simp only at h;split at h
  ·split at h
   ·split at h
    ·exact ⟨_,_,_,_,_,_,_,by assumption,by assumption,by assumption,by assumption⟩
    ·cases h
   ·cases h
  ·cases h
 obtain ⟨t0,b,d,m,t',l,g,h1,h2,h4,h5⟩:=key;have hb:∀ t,Y8 s t o.op.operands.toList->zI t n t0 parts.toList=some (⟨.arr m t',l⟩,g):=λ t ha=>by
  rw [<- h5]; unfold zI; rw [ET (s:=s) (t:=t) (eW t ha),ET (s:=s) (t:=t) (eW t ha)]
 obtain ⟨t9,_,h9⟩:=Px h5;have he:∀ t,Y8 s t o.op.operands.toList->t.fresh d=true->m0 E o t=t.lay d g (.d0 true t') l:=λ t ha hf=>by
  simp only [Bool.and_eq_true] at h4;unfold m0; rw [ho]; simp only [h1,h2,hf,h4.1.2,h4.2,hb t ha,Bool.and_self]
 have hf:s.fresh d=true:=by simp only [Bool.and_eq_true] at h4; exact h4.1.1
 have iY:∀ i∈g,i∈l5 E o s:=by
  intro i hi;obtain ⟨q,hq,hm⟩:=Fs h9 i hi;unfold l5;rw [ho];exact I5.2 (JK (List.mem_map.2 ⟨q,hq,rfl⟩) hm)
 rw [he s (.refl _ _) hf] at h;cases hl:s.lay d g (.d0 true t') l with
 | fail y=>rw [hl] at h; cases h
 | F5 q v s'=>exact absurd hl wY
 | ok v' s' =>
  rw [hl] at h;cases h;obtain ⟨k1,rfl,rfl,k4⟩:=NK hl;exact E5.obj h2 (e:=.own (.d0 true t') l) (g:=g) (λ i hi=>by simpa [AV.j5] using hi) k1 iY (λ t ha hu hf=>by rw [he t ha hf,Nl hf k4]; rfl)
theorem Xf {o:Oper} {T:TypeId} {x:Operand} (ho:o.op=.box T x) {p:Prop} {v:AV} {s1:St} (h:(m0 E o s).get=some (p,v,s1)):E5 E o s p v:=by
 have cM:x∈o.op.operands.toList:=by rw [ho]; simp [Op.operands]
 have hT:l5 E o s=(s.ev x).H5:=by unfold l5; rw [ho]
 have key:∃ t0 d,look T E.tt=some t0/\o.dst=some d/\s.fresh d=true:=by
  unfold m0 at h; rw [ho] at h;simp only at h;split at h
  ·split at h
   ·exact ⟨_,_,by assumption,by assumption,by assumption⟩
   ·cases h
  ·cases h
 obtain ⟨t0,d,h1,h2,h3⟩:=key;have he:∀ t,t.fresh d=true->m0 E o t=(match (t.ev x).vE t with
    | some (⟨u,y⟩,g)=>if u.S6.sh=t0.ty.S6.sh then (match wN g && !g.contains d && g.all λ i=>!pinned i with
     | true=>.ok (.ptr d []) ((St.w9 g t).w8 d (.var u y))
     | false=>.fail "box: objects") else .fail "box: value"
    | none=>(match t.ev x,t0.ty with
     | .raw (.slice none 0 0),.d0 o u=>.ok (.ptr d []) (t.w8 d (.var (.d0 o u) ([]:List u.den)))
     | .ptr i p,.box _ none _=>.ok (.bx (.ptr i p)) t
     | _,_=>.fail "box: what")):=λ t ht=>by unfold m0; rw [ho]; simp only [h1,h2,ht]; rfl
 rw [he s h3] at h;split at h
 ·rename_i u y g cP
  split at h
  ·rename_i cd
   split at h
   ·rename_i hc
    cases h;refine E5.obj h2 (e:=.var u y) (g:=g) (λ i hi=>by simpa [AV.j5] using hi) h3 (λ i hi=>by rw [hT]; exact I5.2 (Ff cP i hi)) (λ t ha hu hf=>?_);obtain ⟨e1,e2⟩:=ag ha cM;rw [he t hf,e1];simp only [(zu e2).trans cP,cd,if_true,hc];rfl
   ·cases h
  ·cases h
 ·rename_i cP
  split at h
  ·rename_i o' u hx kC
   cases h;refine E5.obj h2 (e:=.var (.d0 o' u) ([]:List u.den)) (g:=[]) (λ i hi=>by simpa [AV.j5] using hi) h3 (by simp) (λ t ha hu hf=>?_);obtain ⟨e1,e2⟩:=ag ha cM;have fm:=(zu e2).trans cP;rw [hx] at e1 fm;rw [he t hf,e1];simp only [fm,kC];rfl
  ·rename_i i q o0 u0 hx kC
   cases h;refine ⟨[d],λ u=>u,λ j=>if j=d then none else look j s.hp,Trim.id _,QZ h3,by simp [h2],λ j hj=>.inl ⟨x,cM,by rw [hx]; exact hj⟩,λ t hu ha hn=>?_⟩;have hf:=Qv hu hn;obtain ⟨e1,e2⟩:=ag ha cM;have fm:=(zu e2).trans cP;rw [hx] at e1 fm;refine ⟨t,?_,hu,⟨λ n=>by simp,λ j=>?_⟩⟩
   ·rw [he t hf,e1]; simp only [fm,kC]; rfl
   ·by_cases hj:j=d
    ·subst hj
     rw [if_pos (.inr (by simp)),if_pos rfl];exact (hn j (by simp)).1
    ·by_cases iX:j∈l5 E o s
     ·rw [if_pos (.inl iX),if_neg hj]; exact AB ha iX
     ·rw [if_neg (by simp [iX,hj])]
  ·cases h
theorem b8f {o:Oper} {T' T:TypeId} {x:Operand} (ho:o.op=.convert T' T x) {p:Prop} {v:AV} {s1:St} (h:(m0 E o s).get=some (p,v,s1)):E5 E o s p v:=by
 have cM:x∈o.op.operands.toList:=by rw [ho]; simp [Op.operands]
 by_cases hs:(∃ y,s.ev x=.val .str y)/\(∃ b,look T' E.tt=some ⟨.str,b⟩)/\(∃ b,look T E.tt=some ⟨.d0 true (.int .u8),b⟩)
 ·obtain ⟨⟨y,hy⟩,⟨b,hb⟩,⟨b',cQ⟩⟩:=hs
  cases hd:o.dst with
  | none =>
   exfalso;unfold m0 at h; rw [ho] at h;simp only [hy,hb,cQ,hd] at h;cases h
  | some d =>
   have he:∀ t,t.ev x=s.ev x->m0 E o t=t.lay d [] (.d0 true (.int .u8)) (List.map (λ b:UInt8=>(b.toNat:Int)) y:List Int):=λ t ht=>by
    unfold m0; rw [ho]; simp only [ht,hy,hb,cQ,hd]
   have hp:p=True:=by
    rw [he s rfl] at h;cases hl:s.lay d [] (.d0 true (.int .u8)) (List.map (λ b:UInt8=>(b.toNat:Int)) y:List Int)<;>rw [hl] at h
    ·cases h
    ·cases h; rfl
    ·exact absurd hl wY
   exact E5.lay hd (g:=[]) (W:=λ r=>r) (λ v s=>by rw [hp]; rfl) (λ _=>rfl) (by simp) h (λ t ha=>he t (ag ha cM).1)
 ·refine .ro h (λ t ha=>?_) (λ i hi=>?_)
  ·obtain ⟨e1,e2⟩:=ag ha cM
   unfold m0; rw [ho]; simp only [e1]
   split
   ·rfl
   ·rename_i hx oO oN
    exact absurd ⟨⟨_,hx⟩,⟨_,oO⟩,⟨_,oN⟩⟩ hs
   ·rw [Ic e2]
    repeat' (first|rfl|split)
   ·rfl
  ·exfalso
   unfold m0 at hi; rw [ho] at hi;simp only at hi;split at hi
   ·cases hi
   ·rename_i hx oO oN
    exact absurd ⟨⟨_,hx⟩,⟨_,oO⟩,⟨_,oN⟩⟩ hs
   ·repeat' (split at hi)
    all_goals (cases hi)
   ·cases hi
theorem b4t {o:Oper} {T:TypeId} {x y:Operand} (ho:o.op=.makeSlice T x y) {p:Prop} {v:AV} {s1:St} (h:(m0 E o s).get=some (p,v,s1)):E5 E o s p v:=by
 have cM:x∈o.op.operands.toList:=by rw [ho]; simp [Op.operands]
 have lU:y∈o.op.operands.toList:=by rw [ho]; simp [Op.operands]
 have key:∃ t0 b d k n k' m,look T E.tt=some ⟨.d0 true t0,b⟩/\o.dst=some d/\s.ev x=.val (.int k) n/\s.ev y=.val (.int k') m/\E.rs.any Ty.Hi=false:=by
  unfold m0 at h; rw [ho] at h;simp only at h;split at h
  ·cases h
  ·rename_i sI
   split at h
   ·exact ⟨_,_,_,_,_,_,_,by assumption,by assumption,by assumption,by assumption,sI⟩
   ·cases h
 obtain ⟨t0,b,d,k,n,k',m,h1,h2,h3,h4,pB⟩:=key;have he:∀ t,t.ev x=s.ev x->t.ev y=s.ev y->m0 E o t=(t.lay d [] (.d0 true t0) (List.replicate (Int.toNat n) t0.s6)).f7 (@LE.le Int Int.instLEInt 0 n/\@LE.le Int Int.instLEInt n m/\@LE.le Int Int.instLEInt m 140737488355328/\@LE.le Int Int.instLEInt (@HMul.hMul Int Int Int _ m (t0.wb:Nat)) 140737488355328):=λ t e1 e2=>by
  unfold m0; rw [ho]; simp only [e1,e2,pB,h1,h2,h3,h4]
 have h0:=h;rw [he s rfl rfl] at h;obtain rfl:=By h (λ _ _ _=>wY);exact E5.lay h2 (g:=[]) (W:=OR.f7 _) (λ _ _=>rfl) (λ _=>rfl) (by simp) h0 (λ t ha=>he t (ag ha cM).1 (ag ha lU).1)
theorem NF {v:AV} (h:Alike s t v):v.wu t=v.wu s:=by
 unfold AV.wu
 split
 ·rw [J4 (ob2 h)]
 ·rw [J4 (ob3 h)]
 ·rfl
theorem RN {v:AV} {i:Nat} {p:List Step} {lo hi:Int} (h:v.wu s=some (i,p,lo,hi)):v.j5 i=true:=by
 unfold AV.wu at h;split at h
 ·split at h
  ·cases h; simp [AV.j5]
  ·cases h
 ·split at h
  ·cases h; simp [AV.j5]
  ·cases h
 ·cases h
theorem YM {o:Oper} {c:Call} (ho:o.op=.call c) (hc:c.callee=.builtin .copy) {p:Prop} {v:AV} {s1:St} (h:(m0 E o s).get=some (p,v,s1)):E5 E o s p v:=by
 have cM:∀ x∈c.args.toList,x∈o.op.operands.toList:=λ x hx=>by rw [ho]; exact xN hx
 have hT:l5 E o s=(s.J7 c.args.toList).H5:=by unfold l5; rw [ho]; simp only [hc]
 have key:∃ x y T,c.args.toList=[x,y]/\∀ t,m0 E o t=zY E T (t.ev x) (t.ev y) t:=by
  unfold m0 at h;rw [ho] at h;simp only [hc] at h;split at h
  ·rename_i x y T U aD fJ
   exact ⟨x,y,T,aD,λ t=>by unfold m0; rw [ho]; simp only [hc,aD,fJ]⟩
  ·cases h
 obtain ⟨x,y,T,aD,he⟩:=key;rw [he] at h;have eV:x∈o.op.operands.toList:=cM x (by rw [aD]; simp);have gI:y∈o.op.operands.toList:=cM y (by rw [aD]; simp);unfold zY at h;split at h
 ·rename_i i q lo hi u m hd fo
  split at h
  ·rename_i s' hf bz
   simp only [OR.get,Option.some.injEq,Prod.mk.injEq] at h;obtain ⟨rfl,rfl,_⟩:=h;obtain ⟨ow,e',gN⟩:=Kx hf;have hm:=RN hd;refine E5.fill (i:=i) (ow:=ow) (e':=e') (by rw [hT,I5,aD]; simp [St.J7,AV.j5,hm]) (λ _=>rfl) (λ t ha=>?_);rw [he,(ha x eV).1,(ha y gI).1];unfold zY;rw [NF (ha x eV).2,Ic (ha y gI).2,hd,fo];simp only [gN t ((ha x eV).2 i hm),bz];rfl
  ·cases h
 ·cases h
theorem c39 {o:Oper} {c:Call} (ho:o.op=.call c) (hc:c.callee=.builtin .clear) {p:Prop} {v:AV} {s1:St} (h:(m0 E o s).get=some (p,v,s1)):E5 E o s p v:=by
 have cM:∀ x∈c.args.toList,x∈o.op.operands.toList:=λ x hx=>by rw [ho]; exact xN hx
 have hT:l5 E o s=(s.J7 c.args.toList).H5:=by unfold l5; rw [ho]; simp only [hc]
 have key:∃ x T,c.args.toList=[x]/\∀ t,m0 E o t=Ad E T (t.ev x) t:=by
  unfold m0 at h;rw [ho] at h;simp only [hc] at h;split at h
  ·rename_i x T aD fJ
   exact ⟨x,T,aD,λ t=>by unfold m0; rw [ho]; simp only [hc,aD,fJ]⟩
  ·cases h
 obtain ⟨x,T,aD,he⟩:=key;rw [he] at h;have eV:x∈o.op.operands.toList:=cM x (by rw [aD]; simp);unfold Ad at h;split at h
 ·rename_i i q lo hi b u bts hd de
  split at h
  ·rename_i s' hf
   simp only [OR.get,Option.some.injEq,Prod.mk.injEq] at h;obtain ⟨rfl,rfl,_⟩:=h;obtain ⟨ow,e',gN⟩:=Kx hf;have hm:=RN hd;refine E5.fill (i:=i) (ow:=ow) (e':=e') (by rw [hT,I5,aD]; simp [St.J7,AV.j5,hm]) (λ _=>rfl) (λ t ha=>?_);rw [he,(ha x eV).1];unfold Ad;rw [NF (ha x eV).2,hd,de];simp only [gN t ((ha x eV).2 i hm)];rfl
  ·cases h
 ·cases h
theorem c0k {o:Oper} {T:TypeId} {m x y:Operand} (ho:o.op=.mapUpdate T m x y) {p:Prop} {v:AV} {s1:St} (h:(m0 E o s).get=some (p,v,s1)):E5 E o s p v:=by
 unfold m0 at h; rw [ho] at h; cases h
theorem WW {o:Oper} (iz:∀ a b c,o.op≠.pick a b c) {p:Prop} {v:AV} {s1:St} (h:(m0 E o s).get=some (p,v,s1)):E5 E o s p v:=by
 have cY:∀ x,x∈o.op.operands.toList↔x∈o.op.operands.toList:=λ _=>Iff.rfl;cases ho:o.op with
 | move x =>
  have hx:x∈o.op.operands.toList:=by rw [ho]; simp [Op.operands]
  refine .ro h (λ t ha=>?_) (λ i hi=>⟨x,hx,?_⟩)
  ·unfold m0; rw [ho]; simp only [(ag ha hx).1]; rfl
  ·unfold m0 at hi; rw [ho] at hi; exact hi
 | assign x =>
  have hx:x∈o.op.operands.toList:=by rw [ho]; simp [Op.operands]
  refine .ro h (λ t ha=>?_) (λ i hi=>⟨x,hx,?_⟩)
  ·unfold m0; rw [ho]; simp only [(ag ha hx).1]; rfl
  ·unfold m0 at hi; rw [ho] at hi; exact hi
 | load T x =>
  have hx:x∈o.op.operands.toList:=by rw [ho]; simp [Op.operands]
  have hl:∀ t,m0 E o t=Y5 E T (t.ev x) t:=λ t=>by unfold m0; rw [ho]
  refine .ro h (λ t ha=>?_) (λ i hi=>⟨x,hx,?_⟩)
  ·obtain ⟨e1,e2⟩:=ag ha hx
   rw [hl,hl,e1]; exact Yt e2
  ·rw [hl] at hi; exact c0T hi
 | nilCheck x =>
  have hx:x∈o.op.operands.toList:=by rw [ho]; simp [Op.operands]
  refine .ro h (λ t ha=>?_) (λ i hi=>⟨x,hx,?_⟩)
  ·unfold m0; rw [ho]; simp only [(ag ha hx).1]; split<;>rfl
  ·unfold m0 at hi; rw [ho] at hi
   simp only at hi;split at hi<;>first|(cases hi; done)|(rename_i e; rw [e]; exact hi)
 | binOp op T x y T' =>
  have hx:x∈o.op.operands.toList:=by rw [ho]; simp [Op.operands]
  have hy:y∈o.op.operands.toList:=by rw [ho]; simp [Op.operands]
  have hl:∀ t,m0 E o t=wH E T op (t.ev x) (t.ev y) t:=λ t=>by unfold m0; rw [ho]
  refine .ro h (λ t ha=>?_) (λ i hi=>?_)
  ·rw [hl,hl,(ag ha hx).1,(ag ha hy).1]; exact Xa ..
  ·exfalso
   rw [hl] at hi;unfold wH zF ya eqA xD xC yJ arith at hi
   repeat' (split at hi)
   all_goals (cases hi)
 | unOp op T x =>
  have hx:x∈o.op.operands.toList:=by rw [ho]; simp [Op.operands]
  have hl:∀ t,m0 E o t=unA op (t.ev x) t:=λ t=>by unfold m0; rw [ho]
  refine .ro h (λ t ha=>?_) (λ i hi=>?_)
  ·rw [hl,hl,(ag ha hx).1]; exact Vy ..
  ·exfalso
   rw [hl] at hi;unfold unA arith at hi
   repeat' (split at hi)
   all_goals (cases hi)
 | convert T' T x=>exact b8f ho h
 | fieldAddr T x n=>exact b4x ho h
 | indexAddr T x y=>exact b4w ho h
 | index T x y=>exact c3R ho h
 | field T x n=>exact c3V ho h
 | slice T x lo hi mx=>exact ZV ho h
 | makeSlice T x y=>exact b4t ho h
 | build T parts=>exact Zd ho h
 | buildSlice T n parts=>exact b2H ho h
 | makeMap T r=>exact b7W ho h
 | lookup T x y ok=>exact c0Q ho h
 | mapUpdate T m x y=>exact c0k ho h
 | box T x=>exact Xf ho h
 | store T a x=>exact ZW ho h
 | extract x n =>
  have hx:x∈o.op.operands.toList:=by rw [ho]; simp [Op.operands]
  refine .ro h (λ t ha=>?_) (λ i hi=>⟨x,hx,?_⟩)
  ·unfold m0; rw [ho]; simp only [(ag ha hx).1]
   split
   ·split<;>rfl
   ·rfl
  ·unfold m0 at hi; rw [ho] at hi
   simp only at hi;split at hi
   ·rename_i l e
    split at hi
    ·rename_i v hv
     rw [e]; show l.j5 i=true; exact JM hv hi
    ·cases hi
   ·cases hi
 | makeFunc fn first caps =>
  have dQ:∀ x∈caps.toList,x∈o.op.operands.toList:=λ x hx=>by rw [ho]; simp only [Op.operands]; simp at hx ⊢; exact .inr hx
  have hcs:∀ t,Y8 s t o.op.operands.toList->t.J7 caps.toList=s.J7 caps.toList:=λ t ha=>Ah (λ x hx=>(ag ha (dQ x hx)).1);refine .ro h (λ t ha=>?_) (λ i hi=>?_)
  ·unfold m0; rw [ho]
   cases fn with
   | func f=>simp only [hcs t ha]; split<;>rfl
   | _=>rfl
  ·unfold m0 at hi; rw [ho] at hi
   cases fn with
   | func f =>
    simp only at hi;split at hi
    ·obtain ⟨x,hx,hi⟩:=xq (s:=s) (i:=i) (xs:=caps.toList) hi
     exact ⟨x,dQ x hx,hi⟩
    ·cases hi
   | _=>cases hi
 | alloc T =>
  have key:∃ t0 d,look T E.tt=some t0/\o.dst=some d/\s.fresh d=true:=by
   unfold m0 at h; rw [ho] at h;simp only at h;split at h
   ·split at h
    ·exact ⟨_,_,by assumption,by assumption,by assumption⟩
    ·cases h
   ·cases h
  obtain ⟨t0,d,h1,h2,h3⟩:=key;have he:∀ t,t.fresh d=true->m0 E o t=.ok (.ptr d []) (t.w8 d (.var t0.ty t0.ty.s6)):=λ t ht=>by unfold m0; rw [ho]; simp only [h1,h2,ht]
  rw [he s h3] at h;simp only [OR.get,Option.some.injEq,Prod.mk.injEq] at h;obtain ⟨rfl,rfl,rfl⟩:=h;exact .obj h2 (g:=[]) (λ i hi=>by simpa [AV.j5] using hi) h3 (by simp) (λ t _ _ ht=>by rw [he t ht]; rfl)
 | call c =>
  cases hc:c.callee with
  | value f=>exact YI ho hc h
  | builtin b =>
   cases b<;>first
    | (exact Ws ho hc h)
    | (exact Xi ho hc h)
    | (exact c2e ho hc h)
    | (exact YM ho hc h)
    | (exact c39 ho hc h)
    | (exact SS ho (.inl hc) h)
    | (exact SS ho (.inr hc) h)
    | (exfalso; unfold m0 at h; rw [ho] at h; simp only [hc] at h; cases h)
  | _=>exfalso; unfold m0 at h; rw [ho] at h; simp only [hc] at h; cases h
 | pick a b c=>exact absurd ho (iz a b c)
 | _=>exfalso; unfold m0 at h; rw [ho] at h; cases h
end
end Go.Ex
namespace Go.Ex
def M2 (s t:St):Prop:=(∀ n,look n s.fr=look n t.fr)/\(∀ i,look i s.hp=look i t.hp)
theorem M2.refl (s:St):M2 s s:=⟨λ _=>rfl,λ _=>rfl⟩
theorem M2.symm {s t:St} (h:M2 s t):M2 t s:=⟨λ n=>(h.1 n).symm,λ n=>(h.2 n).symm⟩
theorem M2.trans {s t u:St} (h:M2 s t) (k:M2 t u):M2 s u:=⟨λ n=>(h.1 n).trans (k.1 n),λ n=>(h.2 n).trans (k.2 n)⟩
theorem X1 {m:Nat} {s:St} {d:Option Nat} {v:AV}:look m (s.put d v).fr=if d=some m then some v else look m s.fr:=by
 cases d with
 | none=>simp [St.put]
 | some d =>
  simp only [St.put,p7,Option.some.injEq];by_cases e:m=d
  ·subst e; simp
  ·rw [if_neg e,if_neg (λ h=>e h.symm)]
theorem wW {s:St} {d:Option Nat} {v:AV}:(s.put d v).hp=s.hp:=by cases d<;>rfl
theorem zt {s:St} {d:Option Nat} {v:AV} (h:uniq s.fr):uniq (s.put d v).fr:=by
 cases d with
 | none=>exact h
 | some d=>exact Qo _ _ h
theorem M2.put {s t:St} (h:M2 s t) (d:Option Nat) (v:AV):M2 (s.put d v) (t.put d v) :=
 ⟨λ n=>by rw [X1,X1,h.1 n],λ i=>by rw [wW,wW,h.2 i]⟩
theorem M2.get {s t:St} (h:M2 s t) (m:Nat):s.get m=t.get m:=by simp only [St.get,h.1 m]
theorem M2.ev {s t:St} (h:M2 s t) (x:Operand):s.ev x=t.ev x:=by cases x<;>first|exact zm (h.get _)|rfl
theorem T4.eqv {s t:St} (h:M2 s t) {ids:List Nat} (hf:T4 s ids):T4 t ids :=
 λ n hn=>⟨(h.2 n).symm.trans (hf n hn).1,λ m v hv=>(hf n hn).2 m v ((h.1 m).trans hv)⟩
def Bs (s t:St) (L:List Nat):Prop:=∀ m∈L,t.get m=s.get m/\∀ i,(s.get m).j5 i=true->t.obj i=s.obj i
theorem LA (v:Value) (i:Nat):(ofConst v).j5 i=false:=by
 unfold ofConst
 split
 ·split<;>rfl
 ·rfl
 ·split<;>rfl
 ·rfl
theorem BR {s:St} {x:Operand} {i:Nat} (h:(s.ev x).j5 i=true):∃ m,x=.tmp m/\(s.get m).j5 i=true:=by
 cases x with
 | tmp m=>exact ⟨m,rfl,Fv h⟩
 | const v=>simp [St.ev,LA] at h
 | global g=>cases h
 | func f=>cases h
theorem Bs.agree {s t:St} {L:List Nat} (h:Bs s t L) {xs:List Operand} (hL:∀ m,Operand.tmp m∈xs->m∈L):Y8 s t xs:=by
 intro x hx;refine ⟨?_,λ i hi=>?_⟩
 ·cases x with
  | tmp m=>exact zm (h m (hL m hx)).1
  | _=>rfl
 ·obtain ⟨m,rfl,hm⟩:=BR hi
  exact (h m (hL m hx)).2 i hm
structure Put (s s1:St) (d:Option Nat) (T ids:List Nat) (f:AV->AV) (h:Nat->Option i7) (v:AV):Prop where
 fr:∀ n,look n s1.fr=if d=some n then some v else (look n s.fr).map f
 hp:∀ i,look i s1.hp=if i∈T\/i∈ids then h i else look i s.hp
section
variable {s t s1 t1:St} {d:Option Nat} {T ids:List Nat} {f:AV->AV} {h:Nat->Option i7} {v:AV}
theorem Put.eqv (hp:Put s s1 d T ids f h v) (he:M2 s t):Put t s1 d T ids f h v :=
 ⟨λ n=>by rw [hp.fr,he.1 n],λ i=>by rw [hp.hp,he.2 i]⟩
theorem Put.det (hp:Put s s1 d T ids f h v) (cE:Put t t1 d T ids f h v) (he:M2 s t):M2 s1 t1 :=
 ⟨λ n=>by rw [hp.fr,cE.fr,he.1 n],λ i=>by rw [hp.hp,cE.hp,he.2 i]⟩
theorem Put.get (hp:Put s s1 d T ids f h v) (hf:Trim T f) {m:Nat} (hm:d≠some m):s1.get m=f (s.get m):=by
 simp only [St.get,hp.fr,if_neg hm];cases look m s.fr with
 | none=>exact (hf.plain _ rfl).symm
 | some u=>rfl
end
theorem Zl {T:List Nat} {f:AV->AV} (hf:Trim T f):∀ {j:Nat} {l:AV},m0.nth j (f l)=(m0.nth j l).map f:=by
 have nope:∀ {j:Nat} {l:AV},(∀ a b,l≠.cons a b)->m0.nth j l=none:=by
  intro j l h;cases l with
  | cons a b=>exact absurd rfl (h a b)
  | _=>cases j<;>rfl
 have hn:∀ u:AV,(∀ a b,u≠.cons a b)->∀ a b,f u≠.cons a b:=by
  intro u hu a b e;cases u with
  | cons a b=>exact absurd rfl (hu a b)
  | K4 l=>rw [hf.K4] at e; cases e
  | C5 g l=>rw [hf.C5] at e; cases e
  | bx l=>rw [hf.bx] at e; cases e
  | rc g l=>rw [hf.rc] at e; cases e
  | ptr i p=>rcases hf.atom _ (rfl:(AV.ptr i p).ref=true) with h|h<;>rw [h] at e<;>cases e
  | at_ i p=>rcases hf.atom _ (rfl:(AV.at_ i p).ref=true) with h|h<;>rw [h] at e<;>cases e
  | sub i p x y=>rcases hf.atom _ (rfl:(AV.sub i p x y).ref=true) with h|h<;>rw [h] at e<;>cases e
  | _=>rw [hf.plain _ rfl] at e; cases e
 intro j
 induction j with
 | zero =>
  intro l;cases l with
  | cons a b=>rw [hf.cons]; rfl
  | _=>rw [nope (hn _ (by intro a b e; cases e)),nope (by intro a b e; cases e)]; rfl
 | succ j ih =>
  intro l;cases l with
  | cons a b=>rw [hf.cons]; exact ih
  | _=>rw [nope (hn _ (by intro a b e; cases e)),nope (by intro a b e; cases e)]; rfl
theorem yr (o:Oper):(∀ v,J6 o v=v)\/(o.guard=none/\∃ x j,o.op=.extract x j/\∀ v,J6 o v=(match v with
  | .K4 l=>(match m0.nth j l with
   | some v=>.K4 (.cons v .nil)
   | none=>.any)
  | _=>.any)):=by
 unfold J6
 split
 ·rename_i x j hg ho; exact .inr ⟨hg,x,j,ho,λ _=>rfl⟩
 ·exact .inl λ _=>rfl
theorem Ju {T:List Nat} {f:AV->AV} (hf:Trim T f) (o:Oper) (v:AV):J6 o (f v)=f (J6 o v):=by
 rcases yr o with h|⟨_,x,j,_,h⟩
 ·rw [h,h]
 ·rw [h,h]
  have dm:f .any=.any:=hf.plain _ rfl;cases v with
  | K4 l =>
   rw [hf.K4];simp only [Zl hf];cases hn:m0.nth j l with
   | none=>exact dm.symm
   | some u =>
    show AV.K4 (.cons (f u) .nil)=f (.K4 (.cons u .nil));rw [hf.K4,hf.cons,hf.plain .nil rfl]
  | cons a b=>rw [hf.cons]; exact dm.symm
  | C5 g l=>rw [hf.C5]; exact dm.symm
  | bx l=>rw [hf.bx]; exact dm.symm
  | rc g l=>rw [hf.rc]; exact dm.symm
  | ptr i p=>rcases hf.atom _ (rfl:(AV.ptr i p).ref=true) with e|e<;>rw [e]<;>exact dm.symm
  | at_ i p=>rcases hf.atom _ (rfl:(AV.at_ i p).ref=true) with e|e<;>rw [e]<;>exact dm.symm
  | sub i p x y=>rcases hf.atom _ (rfl:(AV.sub i p x y).ref=true) with e|e<;>rw [e]<;>exact dm.symm
  | _=>rw [hf.plain _ rfl]; try exact dm.symm
theorem Cv {o:Oper} {v:AV} {i:Nat} (h:(J6 o v).j5 i=true):v.j5 i=true:=by
 rcases yr o with e|⟨_,x,j,_,e⟩
 ·rwa [e] at h
 ·rw [e] at h
  split at h
  ·rename_i l
   split at h
   ·rename_i u hu
    have:u.j5 i=true:=by simpa [AV.j5] using h
    show l.j5 i=true;exact JM hu this
   ·cases h
  ·cases h
def yh (o:Oper) (s t:St) (L:List Nat):Prop:=∀ m∈L,J6 o (t.get m)=J6 o (s.get m)/\∀ i,(J6 o (s.get m)).j5 i=true->t.obj i=s.obj i
theorem yh.plain {o:Oper} (h:∀ v,J6 o v=v) {s t:St} {L:List Nat} (ha:yh o s t L):Bs s t L:=λ m hm=>by
 have:=ha m hm;simpa only [h] using this
theorem M2.yj {s t:St} (h:M2 s t) (o:Oper) (L:List Nat):yh o s t L:=λ m _=>⟨by rw [h.get m],λ i _=>(h.2 i).symm⟩
def Eff (o:Oper) (run:St->Option (Prop×St)) (d:Option Nat) (L T:List Nat) (s:St) (p:Prop):Prop :=
 ∃ v ids f h,Trim T f/\T4 s ids/\(∀ n∈ids,n % 1000=(d.getD 0) % 1000) /\
  (∀ i,v.j5 i=true->(∃ m∈L,(J6 o (s.get m)).j5 i=true)\/i∈ids) /\
  ∀ t,uniq t.fr->yh o s t L->T4 t ids->∃ t1,run t=some (p,t1)/\uniq t1.fr/\Put t t1 d T ids f h v
section
variable {E:Env} {ops:Array Oper} {s t:St}
theorem Ql {o:Oper} {p:Prop} {s1:St} (h:X5 E o s=some (p,s1)) {L:List Nat} (hL:∀ m,Operand.tmp m∈o.op.operands.toList->m∈L):Eff o (X5 E o) o.dst L (l5 E o s) s p:=by
 rcases yr o with dX|⟨ie,x,j,cy,dX⟩
 rotate_left
 ·have hd:G8 E.nt o.dst=true:=by
   unfold X5 at h;split at h
   ·cases h
   ·assumption
  have hr:∀ t,X5 E o t=(match (match t.ev x with|.K4 l=>(match m0.nth j l with|some v=>OR.ok v t|none=>.fail "extract")|_=>.fail "extract").get with|none=>none|some (p,v,s')=>some (p,s'.put o.dst v)):=by
   intro t;unfold X5 m0;rw [hd,cy];rfl
  have hT:l5 E o s=[]:=by unfold l5; rw [cy]
  rw [hT];rw [hr] at h;have key:∃ m l v,x=.tmp m/\Nat.beq m I7=false/\s.get m=.K4 l/\m0.nth j l=some v/\p=True:=by
   cases x with
   | tmp m =>
    cases hv:s.ev (.tmp m) with
    | K4 l =>
     rw [hv] at h;cases hn:m0.nth j l with
     | some v =>
      simp only [hn,OR.get,Option.some.injEq,Prod.mk.injEq] at h;exact ⟨m,l,v,rfl,c07 hv nofun,Cp hv nofun,hn,h.1.symm⟩
     | none=>simp only [hn,OR.get] at h; cases h
    | _ =>
     rw [hv] at h;cases h
   | const c =>
    exfalso;have:∀ l,s.ev (.const c)≠.K4 l:=by
     intro l e;simp only [St.ev] at e;unfold ofConst at e
     repeat' split at e
     all_goals cases e
    revert h;cases hv:s.ev (.const c) with
    | K4 l=>exact absurd hv (this l)
    | _=>intro h; cases h
   | global g=>cases h
   | func f=>cases h
  obtain ⟨m,l,v,rfl,sJ,hm,hn,rfl⟩:=key;have rj:m∈L:=hL m (by rw [cy]; simp [Op.operands]);have kx:J6 o (s.get m)=.K4 (.cons v .nil):=by rw [dX,hm]; simp only [hn]
  refine ⟨v,[],λ u=>u,λ _=>none,Trim.id _,by simp [T4],by simp,λ i hi=>.inl ⟨m,rj,by rw [kx]; simpa [AV.j5] using hi⟩,λ t hu ha _=>?_⟩;have e1:=(ha m rj).1;rw [kx,dX] at e1;have sg:∃ l',t.get m=.K4 l'/\m0.nth j l'=some v:=by
   split at e1
   ·rename_i l' ez
    split at e1
    ·rename_i v' fI
     cases e1;exact ⟨l',ez,fI⟩
    ·cases e1
   ·cases e1
  obtain ⟨l',f1,f2⟩:=sg;have si:t.ev (.tmp m)=.K4 l':=Xo sJ f1;exact ⟨t.put o.dst v,by rw [hr,si]; simp only [f2]; rfl,zt hu,⟨λ n=>by rw [X1]; simp,λ i=>by rw [wW]; simp⟩⟩
 have ky:∀ {t:St},yh o s t L->Bs s t L:=λ ha=>ha.plain dX;by_cases hp:∃ a b c,o.op=.pick a b c
 ·obtain ⟨c,a,b,ho⟩:=hp
  have hd:G8 E.nt o.dst=true:=by
   unfold X5 at h;split at h
   ·cases h
   ·assumption
  have hr:∀ t,X5 E o t=(match t.ev c with|.val .bool g=>some (True,t.put o.dst (match g with|true=>t.ev a|false=>t.ev b))|_=>none):=by
   intro t;unfold X5;rw [hd,ho];rfl
  have hT:l5 E o s=[]:=by unfold l5; rw [ho]
  rw [hT];rw [hr] at h;have gU:o.op.operands.toList=[c,a,b]:=by rw [ho]; rfl
  rw [gU] at hL;have key:∃ g:Bool,s.ev c=.val .bool g:=by
   split at h
   ·exact ⟨_,by assumption⟩
   ·cases h
  obtain ⟨g,hg⟩:=key;rw [hg] at h;simp only [Option.some.injEq,Prod.mk.injEq] at h;obtain ⟨rfl,rfl⟩:=h;refine ⟨(if g=true then s.ev a else s.ev b),[],λ u=>u,λ _=>none,Trim.id _,by simp [T4],by simp,?_,?_⟩
  ·intro i hi
   cases g with
   | true=>obtain ⟨m,hm,hi⟩:=BR hi; exact .inl ⟨m,hL m (by simp [<- hm]),by rw [dX]; exact hi⟩
   | false=>obtain ⟨m,hm,hi⟩:=BR hi; exact .inl ⟨m,hL m (by simp [<- hm]),by rw [dX]; exact hi⟩
  ·intro t hu ha _
   have dn:=(ky ha).agree hL;have e1:=(dn c (by simp)).1;have e2:=(dn a (by simp)).1;have e3:=(dn b (by simp)).1;refine ⟨_,by rw [hr,e1,hg,e2,e3],zt hu,⟨λ n=>by rw [X1]; cases g<;>simp,λ i=>by rw [wW]; simp⟩⟩
 ·have cE:∀ a b c,o.op≠.pick a b c:=λ a b c e=>hp ⟨a,b,c,e⟩
  have hd:G8 E.nt o.dst=true:=by
   unfold X5 at h;split at h
   ·cases h
   ·assumption
  have hr:∀ t,X5 E o t=(match (m0 E o t).get with|none=>none|some (p,v,s')=>some (p,s'.put o.dst v)):=by
   intro t;unfold X5;rw [hd];cases ho:o.op<;>first|rfl|exact absurd ho (cE _ _ _)
  rw [hr] at h;split at h
  ·cases h
  ·rename_i p' v s' hg
   cases h;obtain ⟨ids,f,h,k1,k2,k3,k4,k5⟩:=WW cE hg;refine ⟨v,ids,f,h,k1,k2,k3,?_,?_⟩
   ·intro i hi
    rcases k4 i hi with ⟨x,hx,hm⟩|hm
    ·obtain ⟨m,rfl,hm⟩:=BR hm
     exact .inl ⟨m,hL m hx,by rw [dX]; exact Fv hm⟩
    ·exact .inr hm
   ·intro t hu ha hf
    obtain ⟨t1,e1,e2,e3⟩:=k5 t hu ((ky ha).agree hL) hf;exact ⟨t1.put o.dst v,by rw [hr,e1],zt e2,⟨λ n=>by rw [X1,e3.fr],λ i=>by rw [wW,e3.hp]⟩⟩
theorem JO {g:Nat} {v:AV} (hv:s.get g=v) (hn:v≠.any):M2 s (s.put (some g) v):=by
 refine ⟨λ n=>?_,λ i=>rfl⟩;rw [X1]
 split
 ·rename_i e
  cases e;simp only [St.get] at hv;cases hl:look g s.fr with
  | none=>rw [hl] at hv; exact absurd hv.symm hn
  | some w=>rw [hl] at hv; simp at hv; rw [hv]
 ·rfl
theorem xT {o:Oper} {m:Nat} (hm:Operand.tmp m∈o.op.operands.toList):m∈looks ops o:=List.mem_append_left _ (List.mem_filterMap.2 ⟨_,hm,rfl⟩)
theorem SN {o:Oper} {i:Nat} (hi:i∈l5 E o s):∃ m∈looks ops o,(s.get m).j5 i=true:=by
 obtain ⟨x,hx,hm⟩:=Lv hi;obtain ⟨m,rfl,hm⟩:=BR hm;exact ⟨m,xT hx,Fv hm⟩
theorem ZZ {o:Oper} (h:∀ m∈looks ops o,t.get m=s.get m):l5 E o t=l5 E o s :=
 Jp (λ x hx=>by
  cases x with
  | tmp m=>exact zm (h m (xT hx))
  | _=>rfl)
theorem b7L {o:Oper} {i:Nat} (hi:i∈l5 E o s):∃ m∈looks ops o,(J6 o (s.get m)).j5 i=true:=by
 rcases yr o with h|⟨_,x,j,cy,_⟩
 ·obtain ⟨m,hm,bU⟩:=SN (ops:=ops) hi
  exact ⟨m,hm,by rw [h]; exact bU⟩
 ·unfold l5 at hi; rw [cy] at hi; cases hi
theorem SM {o:Oper} (h:∀ m∈looks ops o,J6 o (t.get m)=J6 o (s.get m)):l5 E o t=l5 E o s:=by
 rcases yr o with e|⟨_,x,j,cy,_⟩
 ·exact ZZ (λ m hm=>by have:=h m hm; simpa only [e] using this)
 ·unfold l5; rw [cy]
theorem zq {o:Oper} (_hu:uniq s.fr) {p:Prop} {s1:St} (h:H4 E ops o s=some (p,s1)):Eff o (H4 E ops o) o.dst (looks ops o) (l5 E o s) s p:=by
 have hL:∀ m,Operand.tmp m∈o.op.operands.toList->m∈looks ops o:=λ m hm=>xT hm;cases hg:o.guard with
 | none =>
  have hr:∀ t,H4 E ops o t=X5 E o t:=λ t=>by unfold H4; rw [hg]
  rw [hr] at h;have:=Ql h hL
  rwa [<- (funext hr:H4 E ops o=X5 E o)] at this
 | some jw =>
  obtain ⟨j,want⟩:=jw;have dX:∀ v,J6 o v=v:=by
   rcases yr o with e|⟨ie,_⟩
   ·exact e
   ·rw [hg] at ie; cases ie
  have ky:∀ {t:St} {L:List Nat},yh o s t L->Bs s t L:=λ ha=>ha.plain dX;cases hs:AF ops j with
  | none=>unfold H4 at h; rw [hg] at h; simp [hs] at h
  | some g =>
   have ru:g∈looks ops o:=by unfold looks; rw [hg]; simp [hs]
   have hr:∀ t,H4 E ops o t=(match t.ev (.tmp g) with
    | .raw (.tuple _)=>match G8 E.nt o.dst with
     | true=>some (True,t.put o.dst (.raw undef))
     | false=>none
    | .val .bool b=>match G8 E.nt o.dst with
     | false=>none
     | true=>match b == want with
      | true=>X5 E o (t.put (some g) (.val .bool b))
      | false=>some (True,(t.put (some g) (.val .bool b)).put o.dst (.raw undef))
    | _=>none):=λ t=>by unfold H4; rw [hg]; dsimp only; rw [hs]; rfl
   have skip:(∀ t,uniq t.fr->t.ev (.tmp g)=s.ev (.tmp g)->∃ t1,H4 E ops o t=some (True,t1)/\uniq t1.fr/\M2 t1 (t.put o.dst (.raw undef)))->Eff o (H4 E ops o) o.dst (looks ops o) (l5 E o s) s True:=by
    intro aO;refine ⟨.raw undef,[],λ u=>u,λ i=>look i s.hp,Trim.id _,by simp [T4],by simp,λ i hi=>by simp [AV.j5] at hi,λ t kz ha _=>?_⟩;have ha:=ky ha;obtain ⟨t1,e1,e2,e3⟩:=aO t kz (zm (ha g ru).1);refine ⟨t1,e1,e2,⟨λ n=>by rw [e3.1,X1]; simp,λ i=>?_⟩⟩;rw [e3.2,wW]
    split
    ·rename_i hi
     obtain ⟨m,hm,bU⟩:=SN (ops:=ops) (by simpa using hi:i∈l5 E o s);exact (ha m hm).2 i bU
    ·rfl
   rw [hr] at h;cases hv:s.ev (.tmp g) with
   | raw w =>
    rw [hv] at h;cases w with
    | tuple vs =>
     simp only at h;cases hd:G8 E.nt o.dst with
     | false=>rw [hd] at h; cases h
     | true =>
      rw [hd] at h;simp only [Option.some.injEq,Prod.mk.injEq] at h;obtain ⟨rfl,rfl⟩:=h;exact skip (λ t kz ht=>⟨_,by rw [hr,ht,hv]; simp only [hd],zt kz,M2.refl _⟩)
    | _=>cases h
   | val u b =>
    rw [hv] at h;cases u with
    | bool =>
     simp only at h;cases hd:G8 E.nt o.dst with
     | false=>rw [hd] at h; cases h
     | true =>
      rw [hd] at h;simp only at h;cases hb:(b == want) with
      | false =>
       rw [hb] at h;simp only [Option.some.injEq,Prod.mk.injEq] at h;obtain ⟨rfl,rfl⟩:=h;exact skip (λ t kz ht=>⟨_,by rw [hr,ht,hv]; simp only [hd,hb],zt (zt kz),((JO (Cp (ht.trans hv) (by simp)) (by simp)).symm.put _ _)⟩)
      | true =>
       rw [hb] at h;simp only at h;have bg:=JO (Cp hv (by simp)) (by simp);obtain ⟨v,ids,f,hh,k1,k2,k3,k4,k5⟩:=Ql h hL;have tO:l5 E o (s.put (some g) (.val .bool b))=l5 E o s:=Jp (λ x _=>(bg.ev x).symm);rw [tO] at k1 k5;refine ⟨v,ids,f,hh,k1,k2.eqv bg.symm,k3,?_,?_⟩
       ·intro i hi
        rcases k4 i hi with ⟨m,hm,bU⟩|hm
        ·exact .inl ⟨m,hm,by rw [bg.get]; exact bU⟩
        ·exact .inr hm
       ·intro t kz ha hf
        have ha:=ky ha;have qZ:t.ev (.tmp g)=.val .bool b:=(zm (ha g ru).1).trans hv;have bK:=JO (Cp qZ (by simp)) (by simp);obtain ⟨t1,e1,e2,e3⟩:=k5 (t.put (some g) (.val .bool b)) (zt kz) (λ m hm=>by
         rw [<- bK.get,<- bg.get,dX,dX];refine ⟨(ha m hm).1,λ i hi=>?_⟩;have:=(ha m hm).2 i hi;simpa [St.obj,wW] using this) (hf.eqv bK)
        refine ⟨t1,by rw [hr,qZ]; simp only [hd,hb,e1],e2,e3.eqv bK.symm⟩
    | _=>cases h
   | _=>rw [hv] at h; cases h
theorem Ri {o:Oper} (hu:uniq s.fr) (he:M2 s t) (ht:uniq t.fr) {p:Prop} {s1:St} (h:H4 E ops o s=some (p,s1)):∃ t1,H4 E ops o t=some (p,t1)/\uniq t1.fr/\M2 s1 t1:=by
 obtain ⟨v,ids,f,hh,k1,k2,k3,k4,k5⟩:=zq hu h;obtain ⟨s1',e1,_,e3⟩:=k5 s hu ((M2.refl s).yj _ _) k2;rw [h] at e1; cases e1;obtain ⟨t1,f1,f2,f3⟩:=k5 t ht (he.yj _ _) (k2.eqv he);exact ⟨t1,f1,f2,e3.det f3 he⟩
theorem Q0 {o:Oper} (hu:uniq s.fr) {p:Prop} {s1:St} (h:H4 E ops o s=some (p,s1)):uniq s1.fr:=by
 obtain ⟨t1,h1,h2,_⟩:=Ri hu (M2.refl s) hu h;rw [h] at h1; cases h1; exact h2
theorem Sq:∀ {v:AV} {i:Nat},v.clean=true->v.j5 i=false:=by
 intro v
 induction v with
 | cons a b iha ihb =>
  intro i h;simp only [AV.clean,Bool.and_eq_true] at h;simp [AV.j5,iha h.1,ihb h.2]
 | K4 l ih=>intro i h; exact ih h
 | C5 f l ih=>intro i h; exact ih h
 | bx l ih=>intro i h; exact ih h
 | rc f l ih=>intro i h; exact ih h
 | ptr i p=>intro i h; cases h
 | at_ i p=>intro i h; cases h
 | sub i p a b=>intro i h; cases h
 | _=>intro i h; rfl
theorem b7T {o:Oper} (hu:uniq s.fr) {p:Prop} {s1:St} (h:H4 E ops o s=some (p,s1)) {m:Nat} (hm:o.dst≠some m) (hc:(s.get m).clean=true):(s1.get m).clean=true:=by
 obtain ⟨v,ids,f,hh,k1,k2,k3,k4,k5⟩:=zq hu h;obtain ⟨s1',e1,_,e3⟩:=k5 s hu ((M2.refl s).yj _ _) k2;rw [h] at e1; cases e1;rw [e3.get k1 hm,k1.fix _ (λ i _=>Sq hc)];exact hc
end
end Go.Ex
namespace Go.Ex
section
variable {E:Env} {ops:Array Oper} {s t:St}
theorem get_some {m:Nat} {v:AV} (h:look m s.fr=some v):s.get m=v:=by simp [St.get,h]
theorem Yl {m i:Nat} (h:(s.get m).j5 i=true):∃ v,look m s.fr=some v/\v.j5 i=true:=by
 simp only [St.get] at h;cases hl:look m s.fr with
 | none=>rw [hl] at h; cases h
 | some v=>rw [hl] at h; exact ⟨v,rfl,h⟩
theorem Tf {x y:Oper} (h:indep ops x y=true):(∀ d,x.dst=some d->d∉looks ops y)/\(∀ d,y.dst=some d->d∉looks ops x)/\(x.dst.getD 0) % 1000≠(y.dst.getD 0) % 1000:=by
 simp only [indep,Bool.and_eq_true,Bool.not_eq_true',MM] at h;obtain ⟨⟨h3,h4⟩,h5⟩:=h;refine ⟨?_,?_,λ e=>?_⟩
 ·intro d hd
  rw [hd] at h3;simp only [Bool.and_eq_true,Bool.not_eq_true'] at h3;intro hm;have:=h3.1;simp [hm] at this
 ·intro d hd
  rw [hd] at h4;simp only [Bool.not_eq_true'] at h4;intro hm;simp [hm] at h4
 ·rw [e] at h5
  simp at h5
theorem Ew {ids:List Nat} (hn:T4 s ids) {n m:Nat} (h:n∈ids):(s.get m).j5 n=false:=by
 cases hm:(s.get m).j5 n with
 | false=>rfl
 | true =>
  obtain ⟨v,hv,qV⟩:=Yl hm;rw [(hn n h).2 m v hv] at qV; cases qV
theorem WL {u:AV} (hr:u.ref=true) {i j:Nat} (h1:u.j5 i=true) (h2:u.j5 j=true):i=j:=by
 cases u<;>simp only [AV.ref] at hr<;>first|(cases hr; done)|(simp only [AV.j5] at h1 h2; exact (Nat.eq_of_beq_eq_true h1).trans (Nat.eq_of_beq_eq_true h2).symm)
theorem c0E {u:AV} (h:u.plain=true) {i:Nat}:u.j5 i=false:=by
 cases u<;>simp only [AV.plain] at h<;>first|rfl|(cases h; done)
theorem Trim.stay {T:List Nat} {f:AV->AV} (hf:Trim T f) {n:Nat} (hn:n∉T):∀ u:AV,u.j5 n=true->(f u).j5 n=true:=by
 refine AV.shape _ (λ u hu h=>?_) (λ u hu h=>?_) ?_ ?_ ?_ ?_ ?_
 ·rw [c0E hu] at h; cases h
 ·rw [hf.xy u hu (λ i hi=>?_)]
  ·exact h
  ·cases hm:u.j5 i with
   | false=>rfl
   | true=>exact absurd (WL hu hm h▸hi) hn
 ·intro a b ha hb h
  rw [hf.cons];simp only [AV.j5,Bool.or_eq_true] at h ⊢;exact h.imp ha hb
 ·intro l hl h; rw [hf.K4]; exact hl h
 ·intro k l hl h; rw [hf.C5]; exact hl h
 ·intro l hl h; rw [hf.bx]; exact hl h
 ·intro k l hl h; rw [hf.rc]; exact hl h
theorem swap {x y:Oper} (hi:indep ops x y=true) (hu:uniq s.fr) (hx:∀ d,x.dst=some d->(s.get d).clean=true) {p q:Prop} {s1 s2:St} (h1:H4 E ops x s=some (p,s1)) (h2:H4 E ops y s1=some (q,s2))
  (hP:a24 ops x s (l5 E x s) y (l5 E y s1)) :
  ∃ s1' s2',H4 E ops y s=some (q,s1')/\H4 E ops x s1'=some (p,s2')/\uniq s1'.fr/\uniq s2'.fr/\M2 s2' s2/\l5 E y s=l5 E y s1/\l5 E x s1'=l5 E x s /\
   (∀ m∈looks ops x,J6 x (s1'.get m)=J6 x (s.get m))/\∀ (z:Oper) m,∀ i∈l5 E x s,(J6 z (s1'.get m)).j5 i=true->(J6 z (s.get m)).j5 i=true:=by
 obtain ⟨ax,ay,jr⟩:=Tf hi;obtain ⟨P1,P2,P3⟩:=hP;have lZ:=Q0 hu h1;obtain ⟨v,ids,f,g,k1,k2,k3,k4,k5⟩:=zq hu h1;obtain ⟨_,e1,_,iv⟩:=k5 s hu ((M2.refl s).yj _ _) k2;rw [h1] at e1; cases e1;obtain ⟨v',ids',f',g',m1,m2,m3,m4,m5⟩:=zq lZ h2;obtain ⟨_,e2,_,jj⟩:=m5 s1 lZ ((M2.refl s1).yj _ _) m2;rw [h2] at e2; cases e2;have ki:∀ d,x.dst=some d->y.dst=some d->False:=λ d e1 e2=>jr (by rw [e1,e2]);have cD:∀ m∈looks ops y,J6 y (s1.get m)=J6 y (s.get m):=by
  intro m hm;rw [iv.get k1 (λ e=>ax m e hm),Ju k1,k1.fix _ (λ i hi=>P1 m hm i hi)]
 have tM:l5 E y s=l5 E y s1:=(SM cD).symm;have nD:∀ i∈l5 E y s1,∃ m∈looks ops y,(J6 y (s.get m)).j5 i=true:=by
  intro i hi;obtain ⟨m,hm,bU⟩:=b7L (ops:=ops) hi;exact ⟨m,hm,by rw [<- cD m hm]; exact bU⟩
 have d1:∀ i∈l5 E x s,i∉l5 E y s1:=by
  intro i hi hj;obtain ⟨m,hm,bU⟩:=nD i hj;rw [P1 m hm i hi] at bU; cases bU
 have d2:∀ i∈ids,i∉l5 E y s1:=by
  intro i hi hj;obtain ⟨m,hm,bU⟩:=nD i hj;have bU:=Cv bU;rw [Ew k2 hi] at bU; cases bU
 have d3:∀ i∈l5 E x s,i∉ids':=λ i hi hj=>P3 i hi (m3 i hj);have d4:∀ i∈ids,i∉ids':=λ i hi hj=>jr ((k3 i hi).symm.trans (m3 i hj));have fR:∀ i,i∉l5 E x s->i∉ids->look i s1.hp=look i s.hp:=λ i h1 h2=>by rw [iv.hp,if_neg (by rintro (h|h); exact h1 h; exact h2 h)]
 have dn:yh y s1 s (looks ops y):=by
  intro m hm;refine ⟨(cD m hm).symm,λ i hi=>?_⟩;rw [cD m hm] at hi;refine (fR i (λ h=>?_) (λ h=>?_)).symm
  ·rw [P1 m hm i h] at hi; cases hi
  ·have hi:=Cv hi
   rw [Ew k2 h] at hi; cases hi
 have jz:T4 s ids':=by
  intro n hn;refine ⟨?_,λ m w hw=>?_⟩
  ·rw [<- fR n (λ h=>d3 n h hn) (λ h=>d4 n h hn)]; exact (m2 n hn).1
  ·by_cases hd:x.dst=some m
   ·have:=hx m hd
    rw [get_some hw] at this;exact Sq this
   ·cases rS:w.j5 n with
    | false=>rfl
    | true =>
     have:=k1.stay (λ h=>d3 n h hn) w rS;have h3:=(m2 n hn).2 m (f w) (by rw [iv.fr,if_neg hd,hw]; rfl);rw [this] at h3; cases h3
 obtain ⟨s1',f1,fu,fM⟩:=m5 s hu dn jz;have iG:∀ m∈looks ops x,J6 x (s1'.get m)=J6 x (s.get m):=by
  intro m hm;rw [fM.get m1 (λ e=>ay m e hm),Ju m1,m1.fix _ (λ i hi=>P2 m hm i hi)]
 have qv:yh x s s1' (looks ops x):=by
  intro m hm;refine ⟨iG m hm,λ i hi=>?_⟩;show look i s1'.hp=look i s.hp;rw [fM.hp,if_neg];rintro (h|h)
  ·rw [P2 m hm i h] at hi; cases hi
  ·have hi:=Cv hi
   rw [Ew jz h] at hi; cases hi
 have fI:∀ i,v'.j5 i=true->i∉l5 E x s/\i∉ids:=by
  intro i hi;rcases m4 i hi with ⟨m,hm,bU⟩|bU
  ·rw [cD m hm] at bU
   refine ⟨λ h=>?_,λ h=>?_⟩
   ·rw [P1 m hm i h] at bU; cases bU
   ·have bU:=Cv bU
    rw [Ew k2 h] at bU; cases bU
  ·exact ⟨λ h=>d3 i h bU,λ h=>d4 i h bU⟩
 have hv:∀ i,v.j5 i=true->i∉l5 E y s1:=by
  intro i hi;rcases k4 i hi with ⟨m,hm,bU⟩|bU
  ·exact λ h=>by rw [P2 m hm i h] at bU; cases bU
  ·exact d2 i bU
 have pS:T4 s1' ids:=by
  intro n hn;refine ⟨?_,λ m w hw=>?_⟩
  ·rw [fM.hp,if_neg]
   ·exact (k2 n hn).1
   ·rintro (h|h)
    ·exact d2 n hn h
    ·exact d4 n hn h
  ·rw [fM.fr] at hw
   split at hw
   ·cases hw
    cases hm:v'.j5 n with
    | false=>rfl
    | true=>exact absurd hn (fI n hm).2
   ·cases hl:look m s.fr with
    | none=>rw [hl] at hw; cases hw
    | some u =>
     rw [hl] at hw;cases hw;cases hm:(f' u).j5 n with
     | false=>rfl
     | true=>have:=m1.j5 u hm; rw [(k2 n hn).2 m u hl] at this; cases this
 obtain ⟨s2',g1,gu,mc⟩:=k5 s1' fu qv pS;refine ⟨s1',s2',f1,g1,fu,gu,⟨λ n=>?_,λ i=>?_⟩,tM,SM iG,iG,?_⟩
 ·rw [mc.fr,jj.fr,fM.fr,iv.fr]
  by_cases a:x.dst=some n
  ·rw [if_pos a,if_neg (λ b=>ki n a b),if_pos a,Option.map_some,m1.fix v]
   intro i hi;cases hm:v.j5 i with
   | false=>rfl
   | true=>exact absurd hi (hv i hm)
  ·rw [if_neg a,if_neg a]
   by_cases b:y.dst=some n
   ·rw [if_pos b,if_pos b,Option.map_some,k1.fix v']
    intro i hi;cases hm:v'.j5 i with
    | false=>rfl
    | true=>exact absurd hi (fI i hm).1
   ·rw [if_neg b,if_neg b,Option.map_map,Option.map_map]
    congr 1
    funext u
    exact k1.comm m1 u
 ·rw [mc.hp,jj.hp,fM.hp,iv.hp]
  by_cases a:i∈l5 E x s\/i∈ids
  ·rw [if_pos a,if_neg,if_pos a]
   rintro (b|b)
   ·rcases a with a|a
    ·exact d1 i a b
    ·exact d2 i a b
   ·rcases a with a|a
    ·exact d3 i a b
    ·exact d4 i a b
  ·rw [if_neg a,if_neg a]
 ·intro z m i hi hm
  by_cases b:y.dst=some m
  ·have:s1'.get m=v':=get_some (by rw [fM.fr,if_pos b])
   rw [this] at hm;exact absurd hi (fI i (Cv hm)).1
  ·rw [fM.get m1 b,Ju m1] at hm
   exact m1.j5 _ hm
end
end Go.Ex
namespace Go.Ex
section
variable {E:Env} {ops:Array Oper} {M:Nat->Nat} {s t:St}
def rem (ops:Array Oper) (l:List Nat):List Oper:=l.filterMap λ i=>ops[i]?
theorem EA {i:Nat} {o:Oper} {l:List Nat} (h:ops[i]?=some o):rem ops (i::l)=o::rem ops l:=by simp [rem,h]
theorem BU {l m:List Nat}:rem ops (l++m)=rem ops l++rem ops m:=by simp [rem,List.filterMap_append]
def N3 (s:St) (l:List Oper):Prop:=∀ o∈l,∀ d,o.dst=some d->(s.get d).clean=true
def N7:List Oper->Prop
 | []=>True
 | o::l=>(∀ d,o.dst=some d->∀ x∈l,x.dst≠some d)/\N7 l
theorem N3.sub {l l':List Oper} (h:N3 s l) (hs:∀ o∈l',o∈l):N3 s l':=λ o ho=>h o (hs o ho)
def nl (ops:Array Oper) (l:List Nat):List Nat:=l.filter (λ j=>!zh ops j)
theorem MU {l m:List Nat}:nl ops (l++m)=nl ops l++nl ops m:=by simp [nl]
theorem Wg {l:List Nat} {i:Nat} (hi:i<ops.size) (h:∀ j∈l,j<i) (hm:∀ j∈l,((D9 ops.toList []).getD i 0).testBit j=false):nl ops l=l :=
 List.filter_eq_self.2 (λ j hj=>by
  cases e:zh ops j with
  | false=>rfl
  | true =>
   unfold zh at e;rw [List.all_eq_true] at e;have:=e i (List.mem_range.2 hi);rw [hm j hj,show Nat.blt j i=true by rw [Nat.blt_eq]; exact h j hj] at this;cases this)
theorem b76 {j:Nat} (h:zh ops j=false):j+1<ops.size:=by
 rcases Nat.lt_or_ge (j+1) ops.size with h1|h1
 ·exact h1
 ·exfalso
  have:zh ops j=true:=by
   unfold zh;rw [List.all_eq_true];intro i hi;have:=List.mem_range.1 hi;have:Nat.blt j i=false:=by
    cases e:Nat.blt j i with
    | false=>rfl
    | true=>rw [Nat.blt_eq] at e; omega
   rw [this]; rfl
  rw [this] at h; cases h
theorem Wh {l:List Nat}:∀ o∈rem ops (nl ops l),o∈rem ops l:=λ o ho=>by
 obtain ⟨j,h1,h2⟩:=List.mem_filterMap.1 ho;exact List.mem_filterMap.2 ⟨j,(List.mem_filter.1 h1).1,h2⟩
theorem N3.step {o:Oper} {l:List Oper} (hu:uniq s.fr) (hc:N3 s l) (hd:∀ x∈l,∀ d,x.dst=some d->o.dst≠some d) {p:Prop} {s1:St} (h:H4 E ops o s=some (p,s1)):N3 s1 l :=
 λ x hx d fX=>b7T hu h (hd x hx d fX) (hc x hx d fX)
def Vp (E:Env) (ops:Array Oper) (acc bE:List (Nat×St)):Prop :=
 ∀ e'∈bE,∃ e∈acc,e.1=e'.1/\∀ x,ops[e.1]?=some x->(∀ m∈looks ops x,J6 x (e'.2.get m)=J6 x (e.2.get m))/\l5 E x e'.2=l5 E x e.2/\∀ (z:Oper) m,∀ k∈l5 E x e.2,(J6 z (e'.2.get m)).j5 k=true->(J6 z (e.2.get m)).j5 k=true
theorem a24.AT {x:Oper} {sx sx':St} {y:Oper} {Ty Ty':List Nat} (h:a24 ops x sx (l5 E x sx) y Ty) (h1:∀ m∈looks ops x,J6 x (sx'.get m)=J6 x (sx.get m)) (h2:l5 E x sx'=l5 E x sx) (h3:∀ (z:Oper) m,∀ k∈l5 E x sx,(J6 z (sx'.get m)).j5 k=true->(J6 z (sx.get m)).j5 k=true) (hT:Ty'=Ty) :
  a24 ops x sx' (l5 E x sx') y Ty':=by
 subst hT;obtain ⟨P1,P2,P3⟩:=h;rw [h2];refine ⟨λ m hm i hi=>?_,λ m hm i hi=>by rw [h1 m hm]; exact P2 m hm i hi,P3⟩;cases hh:(J6 y (sx'.get m)).j5 i with
 | false=>rfl
 | true=>have:=h3 y m i hi hh; rw [P1 m hm i hi] at this; cases this
theorem Rs {o:Oper} (h:M2 s t):l5 E o t=l5 E o s:=Jp (λ x _=>(h.ev x).symm)
theorem Lr:∀ {l:List Nat} {acc bE:List (Nat×St)} {s t s':St},Vp E ops acc bE->uniq s.fr->M2 s t->uniq t.fr->vz E ops M acc l s s'->∃ t',vz E ops M bE l t t'/\M2 s' t'
 | [],acc,bE,s,t,s',_,_,he,_,h=>⟨t,rfl,by rw [<- show s=s' from h]; exact he⟩
 | i::l,acc,bE,s,t,s',hg,hu,he,ht,⟨o,ho,hc,p,s1,h1,h2,h3⟩=>by
  obtain ⟨t1,k1,k2,k3⟩:=Ri hu he ht h1;obtain ⟨t',m1,m2⟩:=Lr (acc:=(i,s)::acc) (bE:=(i,t)::bE) (λ e' eC=>by
   rcases List.mem_cons.1 eC with rfl|eC
   ·exact ⟨(i,s),by simp,rfl,λ x _=>⟨λ m _=>by show J6 x (t.get m)=J6 x (s.get m); rw [he.get m],Rs he,λ z m k _ hm=>by have hm:(J6 z (t.get m)).j5 k=true:=hm; rw [<- he.get m] at hm; exact hm⟩⟩
   ·obtain ⟨e,h4,h5,h6⟩:=hg e' eC; exact ⟨e,by simp [h4],h5,h6⟩) (Q0 hu h1) k3 k2 h3
  refine ⟨t',⟨o,ho,λ e' eC=>?_,p,t1,k1,h2,m1⟩,m2⟩;obtain ⟨e,h4,h5,h6⟩:=hg e' eC;rw [<- h5];rcases hc e h4 with h|⟨x,hx,hP⟩
  ·exact .inl h
  ·obtain ⟨g1,g2,g3⟩:=h6 x hx
   exact .inr ⟨x,hx,hP.AT g1 g2 g3 (Rs he)⟩
theorem DM {i:Nat} {o:Oper} (ho:ops[i]?=some o) {post:List Nat}:∀ {pre:List Nat} {acc:List (Nat×St)} {s s':St},N7 (rem ops (pre++i::post))->(∀ j∈pre,(M i).testBit j=false/\∀ x,ops[j]?=some x->indep ops x o=true)->uniq s.fr->N3 s (rem ops pre) ->
  vz E ops M acc (pre++i::post) s s' ->
  ∃ p s1 s2,H4 E ops o s=some (p,s1)/\p/\vz E ops M acc (pre++post) s1 s2/\M2 s2 s'/\∀ e∈acc,(M i).testBit e.1=true\/∃ x,ops[e.1]?=some x/\a24 ops x e.2 (l5 E x e.2) o (l5 E o s)
 | [],acc,s,s',_,_,hu,_,⟨o',eT,hc,p,s1,h1,h2,h3⟩=>by
  rw [ho] at eT; cases eT;obtain ⟨t',m1,m2⟩:=Lr (acc:=(i,s)::acc) (bE:=acc) (λ e he=>⟨e,by simp [he],rfl,λ x _=>⟨λ _ _=>rfl,rfl,λ _ _ _ _ h=>h⟩⟩) (Q0 hu h1) (M2.refl s1) (Q0 hu h1) h3;exact ⟨p,s1,t',h1,h2,m1,m2.symm,hc⟩
 | j::pre,acc,s,s',fe,cY,hu,cr,⟨x,hx,hc,p,s1,h1,h2,h3⟩=>by
  have lZ:=Q0 hu h1;have er:rem ops (j::pre++i::post)=x::rem ops (pre++i::post):=EA hx;rw [er] at fe;rw [EA hx] at cr;have nd:∀ y∈rem ops pre,∀ d,y.dst=some d->x.dst≠some d:=λ y hy d rO fX=>fe.1 d fX y (by rw [BU]; exact List.mem_append_left _ hy) rO;have qi:N3 s1 (rem ops pre):=N3.step hu (λ y hy=>cr y (by simp [hy])) nd h1;obtain ⟨q,sa,sb,k1,k2,k3,k4,k5⟩:=DM ho (pre:=pre) (acc:=(j,s)::acc) fe.2 (λ y hy=>cY y (by simp [hy])) lZ qi h3;obtain ⟨cF,fj⟩:=cY j (by simp);have hP:a24 ops x s (l5 E x s) o (l5 E o s1):=by
   rcases k5 (j,s) (by simp) with h|⟨x',eh,hP⟩
   ·rw [cF] at h; cases h
   ·have eh:ops[j]?=some x':=eh
    rw [hx] at eh; cases eh; exact hP
  obtain ⟨s1',s2',m1,m2,m3,m4,m5,m6,m7,m8,m9⟩:=swap (fj x hx) hu (λ d hd=>cr x (by simp) d hd) h1 k1 hP;obtain ⟨t',n1,n2⟩:=Lr (acc:=(j,s)::acc) (bE:=(j,s1')::acc) (λ e' eC=>by
   rcases List.mem_cons.1 eC with rfl|eC
   ·refine ⟨(j,s),by simp,rfl,λ y hy=>?_⟩
    have hy:ops[j]?=some y:=hy;rw [hx] at hy; cases hy;exact ⟨m8,m7,m9⟩
   ·exact ⟨e',by simp [eC],rfl,λ y _=>⟨λ _ _=>rfl,rfl,λ _ _ _ _ h=>h⟩⟩) (Q0 lZ k1) m5.symm m4 k3
  refine ⟨q,s1',t',m1,k2,⟨x,hx,λ e he=>?_,p,s2',m2,h2,n1⟩,n2.symm.trans k4,λ e he=>?_⟩
  ·rcases hc e he with h|⟨y,hy,hP⟩
   ·exact .inl h
   ·exact .inr ⟨y,hy,by rw [m7]; exact hP⟩
  ·rcases k5 e (by simp [he]) with h|⟨y,hy,hP⟩
   ·exact .inl h
   ·exact .inr ⟨y,hy,by rw [m6]; exact hP⟩
end
end Go.Ex
namespace Go.Ex
section
variable {E:Env} {ops:Array Oper} {B:E3} {S:Nat->Prop} {ι:Ix} {s:St} {a:Act} {w:World}
def idxs (n:Nat) (listed:Array Bool):List Nat:=(List.range n).filter λ i=>!listed.getD i true
theorem E9 {n i:Nat} {listed:Array Bool}:i∈idxs n listed↔i<n/\listed.getD i true=false:=by
 simp [idxs]
theorem CJ (n:Nat) (listed:Array Bool):(idxs n listed).Pairwise (·<·):=List.Pairwise.filter _ List.pairwise_lt_range
theorem Ca {n i:Nat} {listed:Array Bool} (hs:listed.size=n) (hi:i<n):idxs n (listed.setIfInBounds i true)=(idxs n listed).filter (λ k=>!(k == i)):=by
 unfold idxs;rw [List.filter_filter];refine List.filter_congr (λ k hk=>?_);by_cases e:k=i
 ·subst e
  have:k<listed.size:=by omega
  simp [this]
 ·have:(listed.setIfInBounds i true).getD k true=listed.getD k true:=getD_set_ne true (Ne.symm e)
  rw [this];simp [e]
theorem KB {n i:Nat} {listed:Array Bool} (hi:i∈idxs n listed):∃ pre post,idxs n listed=pre++i::post/\(∀ j∈pre,j<i)/\(idxs n listed).filter (λ k=>!(k == i))=pre++post:=by
 obtain ⟨pre,post,e⟩:=List.append_of_mem hi;have hp:=CJ n listed;rw [e,List.pairwise_append] at hp;obtain ⟨h1,h2,h3⟩:=hp;have bc:∀ j∈pre,j<i:=λ j hj=>h3 j hj i (by simp);have fm:∀ j∈post,i<j:=λ j hj=>(List.pairwise_cons.1 h2).1 j hj;refine ⟨pre,post,e,bc,?_⟩;rw [e,List.filter_append,List.filter_cons];simp only [beq_self_eq_true,Bool.not_true,Bool.false_eq_true,if_false];rw [List.filter_eq_self.2 (λ j hj=>by have:=bc j hj; simp; omega),List.filter_eq_self.2 (λ j hj=>by have:=fm j hj; simp; omega)]
theorem EH (h:wO ops=true):∀ i o,ops[i]?=some o->(∀ e∈o.after,Region.binds .any e=true->e.on<i) /\
  (∀ j,j<ops.size->((D9 ops.toList []).getD i 0).testBit j=true->∃ e∈o.after,Region.binds .any e=true/\(e.on=j\/((D9 ops.toList []).getD e.on 0).testBit j=true)) /\
  (∀ j x,j<i->ops[j]?=some x->((D9 ops.toList []).getD i 0).testBit j=true\/indep ops x o=true):=by
 intro i o ho;have hi:i<ops.toList.length:=by
  have:=(Array.getElem?_eq_some_iff.1 ho).1;simpa using this
 simp only [wO,List.all_eq_true,List.mem_range] at h;have h1:=h i hi;have hl:ops.toList[i]?=some o:=by simpa using ho
 rw [hl] at h1;simp only [Bool.and_eq_true,List.all_eq_true,List.mem_range] at h1;obtain ⟨⟨k1,k2⟩,k3⟩:=h1;refine ⟨?_,?_,?_⟩
 ·intro e he hb
  simp only [Mn,List.all_eq_true] at k1;have:=k1 e (by simpa using he);rw [hb] at this;simpa [Nat.blt_eq] using this
 ·intro j hj hm
  simp only [Nn,List.all_eq_true,List.mem_range] at k2;have:=k2 j (by simpa using hj);rw [hm] at this;simp only [Bool.not_true,Bool.false_or,List.any_eq_true,Bool.and_eq_true,Bool.or_eq_true] at this;obtain ⟨e,he,hb,h3⟩:=this;exact ⟨e,by simpa using he,hb,h3.imp Nat.eq_of_beq_eq_true id⟩
 ·intro j x hj hx
  have:=k3 j hj;have eh:ops.toList[j]?=some x:=by simpa using hx
  rw [eh] at this;simpa using this
def zf (ops:Array Oper) (listed:Array Bool):Prop:=∀ k o,ops[k]?=some o->listed.getD k true=true->∀ e∈o.after,Region.binds .any e=true->listed.getD e.on false=true
theorem V1 {listed:Array Bool} {k:Nat} (h:listed.getD k false=true):listed.getD k true=true:=by
 rcases Nat.lt_or_ge k listed.size with h'|h'
 ·simp [h'] at h ⊢; exact h
 ·simp [Array.getElem?_eq_none h'] at h
theorem EZ {M:Nat->Nat} (hM:∀ i o,ops[i]?=some o->(∀ e∈o.after,Region.binds .any e=true->e.on<i)/\(∀ j,j<ops.size->(M i).testBit j=true->∃ e∈o.after,Region.binds .any e=true/\(e.on=j\/(M e.on).testBit j=true)))
  {listed:Array Bool} (hc:zf ops listed):∀ (i:Nat) (o:Oper),ops[i]?=some o->(∀ e∈o.after,Region.binds .any e=true->listed.getD e.on false=true)->∀ j,j<ops.size->(M i).testBit j=true->listed.getD j false=true:=by
 intro i
 induction i using Nat.strongRecOn with
 | _ i ih =>
  intro o ho hp j hj hm;obtain ⟨e,he,hb,h3⟩:=(hM i o ho).2 j hj hm;have bc:=(hM i o ho).1 e he hb;rcases h3 with rfl|h3
  ·exact hp e he hb
  ·have hi:i<ops.size:=(Array.getElem?_eq_some_iff.1 ho).1
   have og:ops[e.on]?=some (ops[e.on]'(by omega)):=Array.getElem?_eq_getElem (by omega);exact ih e.on bc _ og (hc e.on _ og (V1 (hp e he hb))) j hj h3
theorem TL (hE:D0 E B) (hn:B.n=E.nt) (hd:wO ops=true) {Q:Exit->Act->World->Prop} {s0:St} (hQ:∀ S ι a w,RS B S ι s0 a w->Q .normal a w) :
  ∀ (fuel:Nat) (listed:Array Bool) (S:Nat->Prop) (ι:Ix) (s s':St) (a:Act) (w:World),listed.size=ops.size->(idxs ops.size listed).length=fuel->zf ops listed->N7 (rem ops (idxs ops.size listed))->uniq s.fr->N3 s (rem ops (nl ops (idxs ops.size listed))) ->
   vz E ops (λ i=>(D9 ops.toList []).getD i 0) [] (idxs ops.size listed) s s'->M2 s' s0->RS B S ι s a w->wpAny E.P .any ops Q fuel listed a w:=by
 have hM:=EH hd;have DX:∀ {S:Nat->Prop} {ι:Ix} {s t:St} {a:Act} {w:World},M2 s t->RS B S ι s a w->RS B S ι t a w:=by
  intro S ι s t a w he h;have dq:∀ {v:AV} {vs:List Value},VX w.heap S ι s.hp v vs->VX w.heap S ι t.hp v vs:=by
   intro v vs hv;exact VX.other (λ i _=>(he.2 i).symm) (λ i _=>E8.refl ι i) hv
  exact ⟨⟨h.hs.os,h.hs.tape,h.hs.out,h.hs.size,h.hs.frame,h.hs.slt,h.hs.s0,h.hs.s1,λ i e hi=>h.hs.ob i e ((he.2 i).trans hi),λ i e hi=>h.hs.bl i e ((he.2 i).trans hi),λ i j ei ej hi hj=>h.hs.dj i j ei ej ((he.2 i).trans hi) ((he.2 j).trans hj),λ q hq=>by obtain ⟨r1,⟨e,r2⟩,r3⟩:=h.hs.pin q hq; exact ⟨r1,⟨e,(he.2 q.1).symm.trans r2⟩,r3⟩⟩,h.dfr,h.sz,
   λ m v hv=>dq (h.fr m v ((he.1 m).trans hv))⟩
 intro fuel
 induction fuel with
 | zero =>
  intro listed S ι s s' a w aV hlen cr fe hu fB aO he cn;have fO:idxs ops.size listed=[]:=List.length_eq_zero_iff.1 hlen;rw [fO] at aO;have oS:s=s':=aO;subst oS;refine ⟨?_,hQ S ι a w (DX he cn)⟩;rw [List.eq_nil_iff_forall_not_mem];intro i hi;obtain ⟨h1,o,h2,_⟩:=mem_ready.1 hi;have:i∈idxs ops.size listed:=E9.2 ⟨(Array.getElem?_eq_some_iff.1 h2).1,h1⟩;rw [fO] at this;cases this
 | succ fuel ih =>
  intro listed S ι s s' a w aV hlen cr fe hu fB aO he cn;refine ⟨λ hr=>?_,λ i hi=>?_⟩
  ·exfalso
   cases kU:idxs ops.size listed with
   | nil=>rw [kU] at hlen; cases hlen
   | cons i l =>
    have bj:i∈idxs ops.size listed:=by rw [kU]; simp
    obtain ⟨h1,h2⟩:=E9.1 bj;have ho:ops[i]?=some ops[i]:=Array.getElem?_eq_getElem h1;have:i∈Region.ready .any ops listed:=by
     refine mem_ready.2 ⟨h2,ops[i],ho,λ e he hb=>?_⟩;have bc:=(hM i _ ho).1 e he hb;cases hle:listed.getD e.on true with
     | true =>
      have:e.on<listed.size:=by omega
      simp [this] at hle ⊢; exact hle
     | false =>
      exfalso;have jV:e.on∈idxs ops.size listed:=E9.2 ⟨by omega,hle⟩;have hs:=CJ ops.size listed;rw [kU] at hs jV;rcases List.mem_cons.1 jV with e1|e1
      ·omega
      ·have:=(List.pairwise_cons.1 hs).1 _ e1; omega
    rw [hr] at this;cases this
  ·obtain ⟨h1,o,ho,aZ⟩:=mem_ready.1 hi
   have cY:i<ops.size:=(Array.getElem?_eq_some_iff.1 ho).1;have bj:i∈idxs ops.size listed:=E9.2 ⟨cY,h1⟩;obtain ⟨pre,post,e1,bc,e2⟩:=KB bj;have er:rem ops (pre++i::post)=rem ops pre++o::rem ops post:=by simp [rem,List.filterMap_append,ho]
   have er2:rem ops (pre++post)=rem ops pre++rem ops post:=by simp [rem,List.filterMap_append]
   rw [e1] at fe fB aO;have fj:∀ j∈pre,((D9 ops.toList []).getD i 0).testBit j=false/\∀ x,ops[j]?=some x->indep ops x o=true:=by
    intro j hj;have fZ:((D9 ops.toList []).getD i 0).testBit j=false:=by
     cases hm:((D9 ops.toList []).getD i 0).testBit j with
     | false=>rfl
     | true =>
      exfalso;have iW:=EZ (M:=λ i=>(D9 ops.toList []).getD i 0) (λ i o ho=>⟨(hM i o ho).1,(hM i o ho).2.1⟩) cr i o ho aZ j (by have:=bc j hj; omega) hm;have:j∈idxs ops.size listed:=by rw [e1]; simp [hj]
      have:=(E9.1 this).2;rw [V1 iW] at this;cases this
    refine ⟨fZ,λ x hx=>?_⟩;rcases (hM i o ho).2.2 j x (bc j hj) hx with hm|hm
    ·rw [fZ] at hm; cases hm
    ·exact hm
   have qj:N3 s (rem ops (nl ops (pre++post))):=fB.sub (λ y hy=>by
    rw [MU,BU] at hy ⊢;rcases List.mem_append.1 hy with hy|hy
    ·exact List.mem_append_left _ hy
    ·refine List.mem_append_right _ ?_
     obtain ⟨j,j1,j2⟩:=List.mem_filterMap.1 hy;obtain ⟨j3,j4⟩:=List.mem_filter.1 j1;exact List.mem_filterMap.2 ⟨j,List.mem_filter.2 ⟨List.mem_cons_of_mem _ j3,j4⟩,j2⟩)
   obtain ⟨p,s1,s2,k1,k2,k3,k4,_⟩:=DM ho fe fj hu (fB.sub (λ y hy=>by
    rw [MU,BU,Wg cY bc (λ j hj=>(fj j hj).1)]; exact List.mem_append_left _ hy)) aO
   rw [er] at fe;have aG:=(Ca aV cY).trans e2;have gD:N7 (rem ops pre++rem ops post)/\∀ x∈rem ops pre++rem ops post,∀ d,x.dst=some d->o.dst≠some d:=by
    have:∀ {A C:List Oper},N7 (A++o::C)->N7 (A++C)/\∀ x∈A++C,∀ d,x.dst=some d->o.dst≠some d:=by
     intro A
     induction A with
     | nil=>intro C h; exact ⟨h.2,λ x hx d fX gV=>h.1 d gV x hx fX⟩
     | cons y A ih =>
      intro C h;obtain ⟨m1,m2⟩:=ih h.2;refine ⟨⟨λ d hd x hx=>h.1 d hd x (by simp at hx ⊢; rcases hx with hx|hx<;>simp [hx]),m1⟩,λ x hx d fX gV=>?_⟩;rcases List.mem_cons.1 hx with rfl|hx
      ·exact h.1 d fX o (by simp) gV
      ·exact m2 x hx d fX gV
    exact this fe
   have eW:=Lm hE hn cn (ops:=ops) o (k:=λ x=>Tree.cut .skip [] x) (L:=λ _ _ x=>x=s1) (Rt:=λ _=>True) (Cd.2 ⟨p,s1,k1,k2,rfl⟩)
    (next:=wpAny E.P .any ops Q fuel (listed.setIfInBounds i true)) (Q:=Q) (λ S' ι' x a' w' hx ku=>by
     have ku:x=s1:=ku;subst ku;refine ih (listed.setIfInBounds i true) S' ι' x s2 a' w' (by simp [aV]) ?_ ?_ ?_ (Q0 hu k1) ?_ ?_ (k4.trans he) hx
     ·rw [aG]; rw [e1] at hlen; simp at hlen ⊢; omega
     ·intro k y hy hk e' eC cQ
      by_cases gy:k=i
      ·subst gy
       rw [ho] at hy; cases hy;exact getD_set_true (aZ e' eC cQ)
      ·rw [getD_set_ne true (Ne.symm gy)] at hk
       exact getD_set_true (cr k y hy hk e' eC cQ)
     ·rw [aG,er2]; exact gD.1
     ·rw [aG]
      exact N3.step hu qj (λ y hy=>gD.2 y (by rw [<- er2]; exact Wh y hy)) k1
     ·rw [aG]; exact k3)
   unfold wpOp;rw [ho];simp only
   split
   ·rename_i hw; rw [if_pos hw] at eW; exact .inl eW
   ·rename_i hw; rw [if_neg hw] at eW; exact eW
theorem filterMap_some {α β:Type _} {f:α->Option β} {g:α->β}:∀ {l:List α},(∀ i∈l,f i=some (g i))->l.filterMap f=l.map g
 | [],_=>rfl
 | x::l,h=>by rw [List.filterMap_cons,h x (by simp)]; simp [filterMap_some (l:=l) (λ i hi=>h i (by simp [hi]))]
theorem Ec:rem ops (idxs ops.size (Array.replicate ops.size false))=ops.toList:=by
 have:idxs ops.size (Array.replicate ops.size false)=List.range ops.size:=by
  unfold idxs;refine List.filter_eq_self.2 (λ i hi=>?_);have:i<ops.size:=List.mem_range.1 hi;simp [this]
 rw [this];unfold rem;apply List.ext_getElem?;intro i;have e:(List.range ops.size).filterMap (λ i=>ops[i]?)=(List.range ops.size).map (λ i=>ops.getD i default):=filterMap_some (λ i hi=>by
  have:i<ops.size:=List.mem_range.1 hi;simp [this])
 rw [e];by_cases hi:i<ops.size
 ·simp [hi]
 ·simp [hi]
theorem BW:∀ {l:List Oper},Cn (wv l)=true->N7 l
 | [],_=>trivial
 | o::l,h=>by
  cases hd:o.dst with
  | none =>
   have:wv (o::l)=wv l:=by simp [wv,hd]
   rw [this] at h;exact ⟨λ d dY=>(by rw [hd] at dY; cases dY),BW h⟩
  | some d =>
   have:wv (o::l)=d::wv l:=by simp [wv,hd]
   rw [this] at h;simp only [Cn,Bool.and_eq_true,Bool.not_eq_true'] at h;refine ⟨λ d' dY x hx fX=>?_,BW h.2⟩;rw [hd] at dY;cases dY;have:d∈wv l:=List.mem_filterMap.2 ⟨x,hx,fX⟩;have h1:=h.1;simp [this] at h1
theorem yu:idxs ops.size (Array.replicate ops.size false)=List.range ops.size:=by
 unfold idxs;refine List.filter_eq_self.2 (λ i hi=>?_);have:i<ops.size:=List.mem_range.1 hi;simp [this]
theorem c34 {o:Oper} {l:List Nat} (ho:o∈rem ops (nl ops l)) {d:Nat} (hd:o.dst=some d):d∈wv ops.toList.dropLast:=by
 obtain ⟨j,j1,j2⟩:=List.mem_filterMap.1 ho;have j4:j+1<ops.size:=b76 (by simpa using (List.mem_filter.1 j1).2);refine List.mem_filterMap.2 ⟨o,List.mem_of_getElem? (i:=j) ?_,hd⟩;rw [List.getElem?_dropLast,if_pos (by simp; omega)];simpa using j2
theorem b5Z (hE:D0 E B) (hn:B.n=E.nt) {id:Nat} (hd:(wO ops && BQ ops s && E.P.follows .mixedOrders)=true) {Q:Exit->Act->World->Prop} {s':St} (hr:vz E ops (λ i=>(D9 ops.toList []).getD i 0) [] (List.range' 0 ops.toList.length) s s')
  (hQ:∀ S ι a w,RS B S ι s' a w->Q .normal a w) (h:RS B S ι s a w):(Code.region id ops true).wp E.P Q a w:=by
 simp only [Bool.and_eq_true,BQ,List.all_eq_true] at hd;obtain ⟨⟨h1,⟨h2,h3⟩,h4⟩,h5⟩:=hd;refine wp_region_any h5 ?_;have hlen:(idxs ops.size (Array.replicate ops.size false)).length=ops.size:=by
  rw [yu]; simp
 refine TL hE hn h1 hQ ops.size _ S ι s s' a w.drew (by simp) hlen ?_ ?_ (u6 h2) ?_ ?_ (M2.refl _) (h.vm F4.nil C9.drew)
 ·intro k o hk hl
  have:k<ops.size:=(Array.getElem?_eq_some_iff.1 hk).1;simp [this] at hl
 ·rw [Ec]; exact BW h3
 ·intro o ho d hd
  exact h4 d (c34 ho hd)
 ·rw [yu,List.range_eq_range']
  simpa using hr
theorem b4y (hE:D0 E B) (hn:B.n=E.nt) {id:Nat} (hd:(wO ops && JD ops s && E.P.follows .mixedOrders)=true) {Q:Exit->Act->World->Prop} {s':St} (hr:vz E ops (λ i=>(D9 ops.toList []).getD i 0) [] (List.range' 0 ops.toList.length) s s')
  (hQ:∀ S ι a w,RS B S ι s' a w->Q .normal a w) (h:RS B S ι s a w):(Code.region id ops true).wp E.P Q a w:=by
 simp only [Bool.and_eq_true,JD,List.all_eq_true,List.mem_range] at hd;obtain ⟨⟨h1,⟨h2,h3⟩,h4⟩,h5⟩:=hd;refine wp_region_any h5 ?_;have hlen:(idxs ops.size (Array.replicate ops.size false)).length=ops.size:=by
  rw [yu]; simp
 refine TL hE hn h1 hQ ops.size _ S ι s s' a w.drew (by simp) hlen ?_ ?_ (u6 h2) ?_ ?_ (M2.refl _) (h.vm F4.nil C9.drew)
 ·intro k o hk hl
  have:k<ops.size:=(Array.getElem?_eq_some_iff.1 hk).1;simp [this] at hl
 ·rw [Ec]; exact BW h3
 ·intro o ho d hd
  obtain ⟨j,j1,j2⟩:=List.mem_filterMap.1 ho;have j3:=(List.mem_filter.1 j1).2;have hj:j<ops.size:=(Array.getElem?_eq_some_iff.1 j2).1;have:=h4 j hj;simp only [Bool.not_eq_true'] at j3;simp only [j2,hd,j3,Bool.false_or] at this;exact this
 ·rw [yu,List.range_eq_range']
  simpa using hr
theorem Rl {M:List Nat} {k:St->Tree (E.rs++E6 E.ps)} {L:Code->List Item->St->Prop} {R:DL (E.rs++E6 E.ps)->Prop}:∀ {l:List Oper} {n:Nat} {s:St} {acc:List Met} {bE:List (Nat×St)},ops.toList.drop n=l ->
  (∀ e∈bE,∃ m∈acc,m.i=e.1/\ops[e.1]?=some m.o/\m.s=e.2/\m.T=l5 E m.o e.2)->(Df E ops M n l s acc k).holds L R ->
  ∃ s',vz E ops (λ i=>M.getD i 0) bE (List.range' n l.length) s s'/\(k s').holds L R
 | [],n,s,acc,bE,_,_,h=>⟨s,rfl,h⟩
 | o::l,n,s,acc,bE,hl,ha,h=>by
  obtain ⟨ho,ez,_⟩:=Co hl;simp only [Df] at h;split at h
  ·exact h.elim
  ·rename_i bD
   obtain ⟨p,s1,h1,h2,h3⟩:=Cd.1 h;obtain ⟨s',k1,k2⟩:=Rl (bE:=(n,s)::bE) ez (λ e he=>by
    rcases List.mem_cons.1 he with rfl|he
    ·exact ⟨_,List.mem_cons_self ..,rfl,ho,rfl,rfl⟩
    ·obtain ⟨m,hm,r⟩:=ha e he; exact ⟨m,List.mem_cons_of_mem _ hm,r⟩) h3
   refine ⟨s',⟨o,ho,λ e he=>?_,p,s1,h1,h2,k1⟩,k2⟩;obtain ⟨m,hm,m1,m2,m3,m4⟩:=ha e he;have:=(List.all_eq_true.1 bD) m hm;simp only [Bool.or_eq_true] at this;rcases this with this|this
   ·exact .inl (by rw [<- m1]; exact this)
   ·have hp:=IV this
    rw [m3,m4] at hp;exact .inr ⟨m.o,m2,hp⟩
end
end Go.Ex
