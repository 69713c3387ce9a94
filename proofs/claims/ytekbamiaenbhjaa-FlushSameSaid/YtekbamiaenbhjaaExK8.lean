import Derived.Test.YtekbamiaenbhjaaExK7

namespace Go.Ex

section
variable {E:Env} {ops:Array Oper} {B:y9} {S:Nat→Prop} {ι:Ix} {s:St} {a:Act} {w:World}

theorem a1s {s t:St} (he:C1 s t) (h:RS B S ι s a w):RS B S ι t a w:=by
 have hvx:∀ {v:AV} {vs:List Value},VX w.heap S ι s.hp v vs→VX w.heap S ι t.hp v vs:=by
  intro v vs hv
  exact VX.other (fun i _=>(he.2 i).symm) (fun i _=>w6.refl ι i) hv
 exact ⟨⟨h.hs.os,h.hs.tape,h.hs.out,h.hs.size,h.hs.frame,h.hs.slt,h.hs.s0,h.hs.s1,fun i e hi=>h.hs.ob i e ((he.2 i).trans hi),fun i e hi=>h.hs.bl i e ((he.2 i).trans hi),fun i j ei ej hi hj=>h.hs.dj i j ei ej ((he.2 i).trans hi) ((he.2 j).trans hj),fun q hq=>by obtain ⟨r1,⟨e,r2⟩,r3⟩:=h.hs.pin q hq; exact ⟨r1,⟨e,(he.2 q.1).symm.trans r2⟩,r3⟩⟩,h.W7,h.sz,
  fun m v hv=>hvx (h.fr m v ((he.1 m).trans hv))⟩

theorem RS.forget (h:RS B S ι s a w) (d:Nat):RS B S ι { s with fr:=Ex.put d .any s.fr } a w:=by
 refine ⟨h.hs,h.W7,h.sz,fun t v hv=>?_⟩
 rw [l7] at hv
 split at hv
 ·cases hv; exact ⟨_,rfl⟩
 ·exact h.fr t v hv

theorem RS.E0:∀ {l:List Oper} {s:St},RS B S ι s a w→RS B S ι (Ex.E0 l s) a w
 | [],s,h=>h
 | o::l,s,h=>by
  unfold Ex.E0
  split
  ·split
   ·exact RS.E0 (h.forget _)
   ·exact RS.E0 h
  ·exact RS.E0 h

theorem a0J {m:Nat}:∀ {l:List Oper} {s:St},look m (Ex.E0 l s).fr=look m s.fr∨look m (Ex.E0 l s).fr=some .any
 | [],s=>.inl rfl
 | o::l,s=>by
  unfold Ex.E0
  split
  ·split
   ·rename_i d _ _
    rcases a0J (m:=m) (l:=l) (s:={ s with fr:=Ex.put d .any s.fr }) with h|h
    ·rw [l7] at h
     split at h
     ·exact .inr h
     ·exact .inl h
    ·exact .inr h
   ·exact a0J
  ·exact a0J

theorem a1i {o:Oper} {c:Call} {d:Nat} (hop:o.op=.call c) (hc:c.callee=.builtin .append) (hd:o.dst=some d):∀ {l:List Oper} {s:St},o∈l→look d (Ex.E0 l s).fr=some .any
 | [],_,h=>by cases h
 | x::l,s,h=>by
  unfold Ex.E0
  rcases List.mem_cons.1 h with rfl|h
  ·rw [hop]
   simp only [hc,hd]
   rcases a0J (m:=d) (l:=l) (s:={ s with fr:=Ex.put d .any s.fr }) with h|h
   ·rw [h,l7,if_pos rfl]
   ·exact h
  ·split
   ·split
    ·exact a1i hop hc hd h
    ·exact a1i hop hc hd h
   ·exact a1i hop hc hd h

/-! ### what is quiet -/
theorem b4y (hE:t7 E B) (h:RS B S ι s a w) {o:Oper} {T:TypeId} {x:Operand} (ho:o.op=.load T x) {v:AV} {s':St} (hl:K9 E T (s.ev x) s=.ok v s') :
  s'=s∧∃ val,(execOp a.eval o).run E.P w=.ok (.value val) w∧VX w.heap S ι s.hp v [val]:=by
 have he:execOp a.eval o=(do pure (.value (← Instr.loadAt T (a.eval x)))):=by simp [execOp,ho]
 have hv:=h.ev x
 unfold K9 at hl
 split at hl
 ·rename_i t y hx
  rw [hx] at hv
  obtain ⟨b,off,e,hb,hr,hR⟩:=hv
  split at hl
  ·rename_i hc
   cases hl
   have e:a.eval x=.pointer (some ⟨b,off,none⟩):=by simpa using e
   refine ⟨rfl,j7 t (d8 w.heap b off t.size),C9 he (w':=w) ?_,_,rfl,hR⟩
   rw [e]
   simp [Instr.loadAt,Instr.sureAddr,X0 (u7 hE hc) hR]
  ·cases hl
 ·rename_i l hx
  rw [hx] at hv
  split at hl
  ·rename_i ht
   cases hl
   obtain ⟨val,k1,k2⟩:=b2f (hE:=hE) ht hv
   exact ⟨rfl,val,C9 he k1,k2⟩
  ·cases hl
 ·rename_i i p hx
  rw [hx] at hv
  obtain ⟨e,b,off,h1,h2,h3,h4⟩:=hv
  have h4:a.eval x=.pointer (some ⟨b,off,none⟩):=by simpa using h4
  split at hl
  ·rename_i u y hpt
   have hg:=C6 h1 hpt
   obtain ⟨O2,k1,k2,k3,k4,k5⟩:=F3 (E6 h3) (h.hs.ob i e h1) h.hs.slt h2 hg h3
   split at hl
   ·rename_i hc
    have hr:(Instr.loadAt T (a.eval x)).run E.P w=.ok (j7 u (d8 w.heap b off u.size)) w:=by
     rw [h4]; simp [Instr.loadAt,Instr.sureAddr,X0 (u7 hE hc) k3]
    split at hl
    ·rename_i hs
     cases hl
     have:=k3.F4 hs
     subst this
     exact ⟨rfl,_,C9 he hr,_,rfl,k3⟩
    ·cases hl
     have hp:=r9 h3
     exact ⟨rfl,_,C9 he hr,e,u,y,_,h1,h2,hg,⟨b,off,hp.1,(j6 (B7 hp.2) _ _).symm⟩,rfl⟩
   ·cases hl
  ·cases hl
 ·cases hl

theorem b4p (hE:t7 E B) (h:RS B S ι s a w) {o:Oper} (hq:quiet o=true) {p:Prop} {s1:St} (hr:q8 E ops o s=some (p,s1)) (hp:p) :
  o.guard=none∧x3 E.nt o.dst=true∧∃ v val,s1=s.put o.dst v∧(execOp a.eval o).run E.P w=.ok (.value val) w∧VX w.heap S ι s.hp v [val]:=by
 simp only [quiet,Bool.and_eq_true,Option.isNone_iff_eq_none] at hq
 obtain ⟨hg,hq⟩:=hq
 unfold q8 at hr
 rw [hg] at hr
 simp only at hr
 unfold F7 at hr
 split at hr
 ·cases hr
 ·rename_i hd
  refine ⟨hg,hd,?_⟩
  have key:∀ (r:OR),(match r.get with|none=>none|some (p,v,s')=>some (p,s'.put o.dst v))=some (p,s1)→a49 E.P S ι o a w s r→∃ v val,s1=s.put o.dst v∧(execOp a.eval o).run E.P w=.ok (.value val) w∧VX w.heap S ι s.hp v [val]:=by
   intro r hr hpr
   cases r with
   | fail why=>cases hr
   | ok v s' =>
    simp only [OR.get,Option.some.injEq,Prod.mk.injEq] at hr
    obtain ⟨e1,val,k1,k2⟩:=hpr
    exact ⟨v,val,by rw [← hr.2,e1],k1 w,k2⟩
   | B1 p' v s' =>
    simp only [OR.get,Option.some.injEq,Prod.mk.injEq] at hr
    obtain ⟨e1,val,k1,k2⟩:=hpr (by rw [hr.1]; exact hp)
    exact ⟨v,val,by rw [← hr.2,e1],k1 w,k2⟩
  split at hq
  ·rename_i x ho
   rw [ho] at hr
   simp only [l4,ho,OR.get,Option.some.injEq,Prod.mk.injEq] at hr
   exact ⟨s.ev x,a.eval x,hr.2.symm,by simp [execOp,ho],h.ev x⟩
  ·rename_i T x ho
   rw [ho] at hr
   simp only [l4,ho] at hr
   cases hl:K9 E T (s.ev x) s with
   | fail y=>rw [hl] at hr; cases hr
   | ok v s' =>
    rw [hl] at hr
    simp only [OR.get,Option.some.injEq,Prod.mk.injEq] at hr
    obtain ⟨e1,val,k1,k2⟩:=b4y hE h ho hl
    exact ⟨v,val,by rw [← hr.2,e1],k1,k2⟩
   | B1 p' v s' =>
    exfalso
    unfold K9 at hl
    repeat' split at hl
    all_goals cases hl
  ·rename_i T x n ho
   have:=a0A hE h (o:=o) (by rw [ho]; rfl)
   rw [ho] at hr
   exact key _ hr this
  ·rename_i T x n ho
   have:=a0A hE h (o:=o) (by rw [ho]; rfl)
   rw [ho] at hr
   exact key _ hr this
  ·rename_i x ho
   have:=a0A hE h (o:=o) (by rw [ho]; rfl)
   rw [ho] at hr
   exact key _ hr this
  ·cases hq

theorem b4q {o:Oper} (hq:quiet o=true) {p:Prop} {s1:St} (hr:q8 E ops o s=some (p,s1)):∃ v,s1=s.put o.dst v:=by
 simp only [quiet,Bool.and_eq_true,Option.isNone_iff_eq_none] at hq
 obtain ⟨hg,hq⟩:=hq
 unfold q8 at hr
 rw [hg] at hr
 simp only at hr
 unfold F7 at hr
 split at hr
 ·cases hr
 ·rename_i hd
  have key:∀ (r:OR) (t:St),(∀ v s',r=.ok v s'→s'=s)→(∀ p v s',r=.B1 p v s'→s'=s)→(match r.get with|none=>none|some (p,v,s')=>some (p,s'.put o.dst v))=some (p,s1)→∃ v,s1=s.put o.dst v:=by
   intro r t h1 h2 hr
   cases r with
   | fail why=>cases hr
   | ok v s' =>
    simp only [OR.get,Option.some.injEq,Prod.mk.injEq] at hr
    exact ⟨v,by rw [← hr.2,h1 v s' rfl]⟩
   | B1 p' v s' =>
    simp only [OR.get,Option.some.injEq,Prod.mk.injEq] at hr
    exact ⟨v,by rw [← hr.2,h2 p' v s' rfl]⟩
  split at hq
  ·rename_i x ho
   rw [ho] at hr
   refine key _ s ?_ ?_ hr<;>(intros; simp_all [l4])
  ·rename_i T x ho
   rw [ho] at hr
   refine key _ s ?_ ?_ hr
   ·intro v s' e
    simp only [l4,ho] at e
    unfold K9 at e
    repeat' split at e
    all_goals (cases e; try rfl)
   ·intro q v s' e
    simp only [l4,ho] at e
    unfold K9 at e
    repeat' split at e
    all_goals (cases e; try rfl)
  ·rename_i T x n ho
   rw [ho] at hr
   refine key _ s ?_ ?_ hr
   ·intro v s' e
    simp only [l4,ho] at e
    repeat' split at e
    all_goals (cases e; try rfl)
   ·intro q v s' e
    simp only [l4,ho] at e
    repeat' split at e
    all_goals (cases e; try rfl)
  ·rename_i T x n ho
   rw [ho] at hr
   refine key _ s ?_ ?_ hr
   ·intro v s' e
    simp only [l4,ho] at e
    repeat' split at e
    all_goals (cases e; try rfl)
   ·intro q v s' e
    simp only [l4,ho] at e
    repeat' split at e
    all_goals (cases e; try rfl)
  ·rename_i x ho
   rw [ho] at hr
   refine key _ s ?_ ?_ hr
   ·intro v s' e
    simp only [l4,ho] at e
    repeat' split at e
    all_goals (cases e; try rfl)
   ·intro q v s' e
    simp only [l4,ho] at e
    repeat' split at e
    all_goals (cases e; try rfl)
  ·cases hq

/-! ### a store of a plain value between an append and its own store -/
theorem b1L {o:Oper} (hg:o.guard=none) {T:TypeId} {a x:Operand} (ho:o.op=.store T a x) {j:Nat} {q:List Step} {v:Ty} {z:v.den} (ha:s.ev a=.ptr j q) (hx:s.ev x=.val v z) {p:Prop} {s1:St} (h:q8 E ops o s=some (p,s1)) :
  ∃ (e:f9) (r:Sigma Ty.den) (u:Ty) (y:u.den),x3 E.nt o.dst=true∧look j s.hp=some e∧m0 e.ty e.x q (F9 u ⟨v,z⟩).1 (F9 u ⟨v,z⟩).2=some r∧(i6 e.ty e.x q=some ⟨u,y⟩∧D7 E T u=true)∧s1=((s.kill j e.kd q).o7 j (e.w4 r)).put o.dst (.raw undef):=by
 have hr:∀ t,q8 E ops o t=F7 E o t:=fun t=>by unfold q8; rw [hg]
 rw [hr] at h
 have hop:∀ t,l4 E o t=(match t.ev a with|.ptr i p=>D5 E T i p (t.ev x) t|_=>.fail "store"):=fun t=>by unfold l4; rw [ho]; rfl
 have hrun:∀ t,F7 E o t=(match x3 E.nt o.dst with|false=>none|true=>match (l4 E o t).get with|none=>none|some (p,v,s')=>some (p,s'.put o.dst v)):=fun t=>by unfold F7; rw [ho]; rfl
 rw [hrun] at h
 split at h
 ·cases h
 ·rename_i hd
  rw [hop,ha] at h
  simp only at h
  rw [hx] at h
  cases hob:look j s.hp with
  | none =>
   have:D5 E T j q (.val v z) s=.fail "store: object":=by unfold D5 St.obj; rw [hob]
   rw [this] at h; cases h
  | some e =>
   cases hgp:i6 e.ty e.x q with
   | none =>
    have:D5 E T j q (.val v z) s=.fail "store: path":=by unfold D5 St.obj; rw [hob]; simp only [hgp]
    rw [this] at h; cases h
   | some uy =>
    obtain ⟨u,y⟩:=uy
    cases hc:D7 E T u with
    | false =>
     have:D5 E T j q (.val v z) s=.fail "store: type":=by unfold D5 St.obj; rw [hob]; simp only [hgp,hc]
     rw [this] at h; cases h
    | true =>
     have hsA:D5 E T j q (.val v z) s=(match m0 e.ty e.x q (F9 u ⟨v,z⟩).1 (F9 u ⟨v,z⟩).2 with
       | some r=>.ok (.raw undef) ((s.kill j e.kd q).o7 j (e.w4 r))
       | none=>.fail "store: value"):=by
      unfold D5 St.obj; rw [hob]; simp only [hgp,hc,AV.T8,AV.L6,St.p7]
      cases m0 e.ty e.x q (F9 u ⟨v,z⟩).1 (F9 u ⟨v,z⟩).2 with
      | none=>rfl
      | some r=>rfl
     rw [hsA] at h
     cases hset:m0 e.ty e.x q (F9 u ⟨v,z⟩).1 (F9 u ⟨v,z⟩).2 with
     | none=>rw [hset] at h; cases h
     | some r =>
      rw [hset] at h
      simp only [OR.get,Option.some.injEq,Prod.mk.injEq] at h
      obtain ⟨rfl,rfl⟩:=h
      exact ⟨e,r,u,y,hd,rfl,hset,⟨hgp,hc⟩,rfl⟩

theorem b5M (hE:t7 E B) (hn:B.n=E.nt) (h:RS B S ι s a w) {o:Oper} (hg:o.guard=none) {T:TypeId} {ad x:Operand} (ho:o.op=.store T ad x) {j:Nat} {q:List Step} {v:Ty} {z:v.den} (ha:s.ev ad=.ptr j q) (hx:s.ev x=.val v z) {p:Prop} {s1:St} (hr:q8 E ops o s=some (p,s1)) :
  ∃ ι' w',(execOp a.eval o).run E.P w=.ok .skip w'∧RS B S ι' s1 (a.put o.dst undef) w'∧∀ {g:List Nat} {i:Nat} {e:f9} {p0:List Step} {t0:Ty} {l m:List t0.den} {b off:Nat} {v':Value},i≠j→j∉g→look i s.hp=some e→s6 e.ty e.x p0→i6 e.ty e.x p0=some ⟨.d0 true t0,l⟩→a6x B S ι s.hp g i e p0 t0 l m b off v' w→a6x B S ι' s1.hp g i e p0 t0 l m b off v' w':=by
 obtain ⟨ej,r,u,y,hd,hob,hset,⟨hgp,hck⟩,rfl⟩:=b1L hg ho ha hx hr
 have hadr:=h.ev ad
 rw [ha] at hadr
 obtain ⟨e',b0,off0,c1,hok,hl,c4⟩:=hadr
 rw [hob] at c1; cases c1
 have c4:a.eval ad=.pointer (some ⟨b0,off0,none⟩):=by simpa using c4
 have hval:=h.ev x
 rw [hx] at hval
 obtain ⟨cs,hv1,hz⟩:=hval
 have hv1:a.eval x=j7 v cs:=by simpa using hv1
 obtain ⟨hz,hagg⟩:=a9V (u:=u) (q:=⟨v,z⟩) hz
 rw [← a1Z hagg] at hv1
 generalize (F9 u ⟨v,z⟩)=fz at hset hz hagg hv1
 obtain ⟨v,z⟩:=fz
 dsimp only at hset hz hv1
 have hnb:=E6 hl
 obtain ⟨Op,m1,mn,m2,m3,m4,m5⟩:=F3 hnb (h.hs.ob j ej hob) h.hs.slt hok hgp hl
 have hsh:=a1v hgp hset
 have hnS:¬ S b0:=(h.hs.bl j ej hob b0 m4).1
 have hcs:cs.length=u.size:=by rw [hz.length,C5 hsh]
 obtain ⟨ι',⟨O,rfl,hO⟩,h1⟩:=h.a6G hob hok hgp hl (u':=v) (z:=z) (cs:=cs) (O2:=[]) (fun H' hsz hc=>hz.o4 (fun c hc'=>hc.rest c (by
   rintro rfl
   rcases hc' with hc'|hc'
   ·cases hc'
   ·exact hnS hc') (by
   rcases hc' with hc'|hc'
   ·cases hc'
   ·exact h.hs.slt c hc')) (fun _ h=>h)) hcs List.nodup_nil (by simp) hset (fun how _=>a9q hset (b18 hl how))
 have hrun:(execOp a.eval o).run E.P w=.ok .skip (w.setRow b0 (x8 (o6 w.heap b0) off0 cs).toArray):=by
  simp [execOp,ho,c4,hv1,Instr.storeAt,Instr.sureAddr,a0G (u7 hE hck) hsh m5 hz]
 refine ⟨_,_,hrun,h1.put (by rw [hn]; exact hd) (v:=.raw undef) (val:=undef) rfl,?_⟩
 rintro g i e p0 t0 l m b off v' hij hjg hi hok0 hg0 ⟨O',k1,k2,k3,k4,k5⟩
 have hold:∀ c,c≠b0→(w.setRow b0 (x8 (o6 w.heap b0) off0 cs).toArray).heap[c]?=w.heap[c]?:=fun c hc=>setRow_other hc
 have hsame:w6 ι (ι.t8 j O) i:=L8 hij O
 have hnbi:=E6 k1
 have hbO:b0∉O':=fun hc=>(k5 b0 hc).2.1 j ej (Ne.symm hij) hjg hob m4
 refine ⟨O',?_,k2.o4 (fun c hc=>hold c (by
   rintro rfl
   rcases hc with hc|hc
   ·exact hbO hc
   ·exact hnS hc)) (fun _ h=>h),k3,k4,fun c hc=>⟨?_,fun k ek hk hkg hlk=>?_,fun hci=>?_⟩⟩
 ·rw [hsame.loc]
  exact a1T hnbi (h.hs.ob i e hi) h.hs.slt (fun c hc=>hold c (by rintro rfl; exact h.hs.dj i j e ej hi hob hij c hc m4)) hok0 k1
 ·obtain ⟨f1,f2,f3⟩:=(k5 c hc).1
  exact ⟨f1,f2,by rw [setRow_size]; exact f3⟩
 ·rw [E5] at hlk
  simp only [St.o7,l7] at hlk
  by_cases hkj:k=j
  ·subst hkj
   rw [if_pos rfl] at hlk; cases hlk
   intro hcb
   refine (k5 c hc).2.1 k ej hk hkg hob ?_
   cases ej with
   | var t1 x1 =>
    simp only [i8,f9.w4,Ix.t8,if_true,List.mem_cons] at hcb ⊢
    rcases hcb with hcb|hcb
    ·exact .inl hcb
    ·rcases (hO c hcb).1 with h9|h9
     ·exact .inr h9
     ·cases h9
   | own t1 x1 =>
    simp only [i8,f9.w4,Ix.t8,if_true] at hcb ⊢
    rcases (hO c hcb).1 with h9|h9
    ·exact h9
    ·cases h9
   | E8=>exact absurd rfl hnb
  ·rw [if_neg hkj] at hlk
   rw [(L8 hkj O).i8]
   exact (k5 c hc).2.1 k ek hk hkg hlk
 ·rw [hsame.i8] at hci
  obtain ⟨Op',o1,o2⟩:=(k5 c hc).2.2 hci
  obtain ⟨O3,n1,_,n3,_,n5,_⟩:=F3 hnbi (h.hs.ob i e hi) h.hs.slt hok0 hg0 k1
  have hbi:b0≠b:=by
   rintro rfl
   exact h.hs.dj i j e ej hi hob hij b0 n5 m4
  have hO3:O3=Op':=n3.det o1
  have hOpi:∀ c'∈Op',c'≠b0:=by
   rintro c' hc' rfl
   rw [← hO3] at hc'
   exact h.hs.dj i j e ej hi hob hij c' (B4 (n1 c' hc')) m4
  refine ⟨Op',?_,o2⟩
  rw [j6 (hold b hbi.symm)]
  exact o1.o4 (fun c' hc'=>hold c' (by
   rintro rfl
   rcases hc' with hc'|hc'
   ·exact hOpi _ hc' rfl
   ·exact hnS hc')) (fun _ h=>h)

theorem Z5 {T:List Nat} {f:AV→AV} (hf:Trim T f) {u v:AV} (h:f u=v) (hv:v.ref=true∨(v.plain=true∧v≠.any)):u=v:=by
 cases u with
 | cons a b=>rw [hf.cons] at h; subst h; rcases hv with hv|⟨hv,_⟩<;>cases hv
 | F0 l=>rw [hf.F0] at h; subst h; rcases hv with hv|⟨hv,_⟩<;>cases hv
 | y7 g l=>rw [hf.y7] at h; subst h; rcases hv with hv|⟨hv,_⟩<;>cases hv
 | bx l=>rw [hf.bx] at h; subst h; rcases hv with hv|⟨hv,_⟩<;>cases hv
 | rc g l=>rw [hf.rc] at h; subst h; rcases hv with hv|⟨hv,_⟩<;>cases hv
 | ptr i p=>rcases hf.atom _ (rfl:(AV.ptr i p).ref=true) with e|e<;>rw [e] at h<;>first|exact h|(subst h; rcases hv with hv|⟨_,hv⟩<;>first|cases hv|exact absurd rfl hv)
 | at_ i p=>rcases hf.atom _ (rfl:(AV.at_ i p).ref=true) with e|e<;>rw [e] at h<;>first|exact h|(subst h; rcases hv with hv|⟨_,hv⟩<;>first|cases hv|exact absurd rfl hv)
 | sub i p x y=>rcases hf.atom _ (rfl:(AV.sub i p x y).ref=true) with e|e<;>rw [e] at h<;>first|exact h|(subst h; rcases hv with hv|⟨_,hv⟩<;>first|cases hv|exact absurd rfl hv)
 | _=>rw [hf.plain _ rfl] at h; exact h

theorem b3P {u:Ty} {v:AV} {r:Sigma fun t:Ty=>List t.den} {g:List Nat} (h:v.T6 s u=some (r,g)):v.ref=true∨(v.plain=true∧v≠.any):=by
 cases v with
 | ptr i p=>exact .inl rfl
 | at_ i p=>exact .inl rfl
 | sub i p x y=>exact .inl rfl
 | raw v=>exact .inr ⟨rfl,by intro h; cases h⟩
 | val t x=>exact .inr ⟨rfl,by intro h; cases h⟩
 | N1 t x=>exact .inr ⟨rfl,by intro h; cases h⟩
 | nil=>exact .inr ⟨rfl,by intro h; cases h⟩
 | _=>exfalso; simp [AV.T6,AV.els] at h

theorem a8j {M:List Nat} {q:Y1} {n:Nat} (h:a62 ops M q n s=true) {j:Nat} (hj:j<n) (hjk:j≠q.k) {o:Oper} (ho:ops[j]?=some o):(M.getD q.k 0).testBit j=true∨quiet o=true∨a2g ops q n j o s=true:=by
 simp only [a62,List.all_eq_true,List.mem_range] at h
 have:=h j hj
 simp only [Bool.or_eq_true,ho] at this
 rcases this with h|(h|h)|h
 ·exact absurd (Nat.eq_of_beq_eq_true h) hjk
 ·exact .inl h
 ·exact .inr (.inl h)
 ·exact .inr (.inr h)

theorem a5K {q:Y1} {n j:Nat} {o:Oper} (h:a2g ops q n j o s=true):o.guard=none∧o.dst=none∧∃ T ad x j0 q0 v z,o.op=.store T ad x∧s.ev ad=.ptr j0 q0∧s.ev x=.val v z∧(s.ev q.x).e8 j0=false∧(s.ev q.y).e8 j0=false∧∀ j',j<j'→j'<n→∀ o',ops[j']?=some o'→∀ d,o'.dst=some d→d∉looks ops o:=by
 unfold a2g at h
 split at h
 ·rename_i T ad x ho
  simp only [Bool.and_eq_true] at h
  obtain ⟨⟨⟨h1,hg⟩,hd⟩,h2⟩:=h
  split at h1
  ·rename_i j0 q0 v z ha hx
   simp only [Bool.and_eq_true,Bool.not_eq_true'] at h1
   refine ⟨by simpa using hg,by simpa using hd,T,ad,x,j0,q0,v,z,ho,ha,hx,h1.1,h1.2,fun j' hj hj' o' ho' d hd hm=>?_⟩
   simp only [List.all_eq_true,List.mem_range] at h2
   have:=h2 j' hj'
   rw [Bool.or_eq_true] at this
   rcases this with h9|h9
   ·have:=Nat.le_of_ble_eq_true h9; omega
   ·rw [ho'] at h9
    simp [a5r,hd,hm] at h9
  ·cases h1
 ·cases h

theorem Trim.a3X {T T':List Nat} {f g:AV→AV} (hf:Trim T f) (hg:Trim T' g):Trim (T++T') (fun u=>g (f u)):=by
 refine ⟨fun a b=>by rw [hf.cons,hg.cons],fun l=>by rw [hf.F0,hg.F0],fun k l=>by rw [hf.y7,hg.y7],fun l=>by rw [hf.bx,hg.bx],fun k l=>by rw [hf.rc,hg.rc],fun u hu=>?_,fun u hu h=>?_,fun u hu=>by rw [hf.plain u hu,hg.plain u hu]⟩
 ·rcases hf.atom u hu with e|e
  ·rw [e]; exact hg.atom u hu
  ·rw [e]; exact .inr (hg.plain _ rfl)
 ·rw [hf.a4D u hu (fun i hi=>h i (List.mem_append_left _ hi)),hg.a4D u hu (fun i hi=>h i (List.mem_append_right _ hi))]

theorem a7Q {J:List Nat} {F:AV→AV} (hF:Trim J F) {s t:St} {z:Operand} (h:∀ m,z=.tmp m→look m t.fr=(look m s.fr).map F):t.ev z=F (s.ev z):=by
 cases z with
 | tmp m =>
  have hg:t.get m=F (s.get m):=by
   simp only [St.get,h m rfl]
   cases look m s.fr with
   | none=>exact (hF.plain _ rfl).symm
   | some v=>rfl
  rw [a1x,a1x]
  unfold gq
  cases Nat.beq m D9 with
  | true=>exact (hF.plain _ rfl).symm
  | false=>exact hg
 | const c=>exact (hF.fix _ (fun i _=>Y9 c i)).symm
 | global g=>exact (hF.plain _ rfl).symm
 | func f=>exact (hF.fix _ (fun i _=>rfl)).symm

theorem a2E {M:Nat→Nat} {q:Y1} {n:Nat} {sF:St}:∀ {l:List Nat} {acc:List (Nat×St)} {s s':St},O8 E ops M acc l s s'→C1 s' sF→uniq s.fr→l.Pairwise (·<·)→(∀ j∈l,j<n)→(∀ j∈l,∀ o,ops[j]?=some o→quiet o=true∨a2g ops q n j o sF=true) →
  ∃ (J:List Nat) (f:AV→AV),Trim J f∧(∀ j∈J,(sF.ev q.x).e8 j=false∧(sF.ev q.y).e8 j=false)∧(∀ i,i∉J→look i s'.hp=look i s.hp)∧∀ m,(∀ j∈l,∀ o,ops[j]?=some o→o.dst≠some m)→look m s'.fr=(look m s.fr).map f
 | [],acc,s,s',h,_,_,_,_,_=>by
  obtain rfl:s=s':=h
  exact ⟨[],fun u=>u,Trim.id _,by simp,fun _ _=>rfl,fun m _=>by simp⟩
 | j::l,acc,s,s',⟨o,ho,_,p,s1,h1,_,h2⟩,hev,hu,hpw,hlt,hq=>by
  obtain ⟨hpw1,hpw2⟩:=List.pairwise_cons.1 hpw
  obtain ⟨J,f,k1,k2,k3,k4⟩:=a2E h2 hev (y6 hu h1) hpw2 (fun j' hj'=>hlt j' (by simp [hj'])) (fun j' hj'=>hq j' (by simp [hj']))
  rcases hq j (by simp) o ho with hqt|hls
  ·obtain ⟨v,rfl⟩:=b4q hqt h1
   refine ⟨J,f,k1,k2,fun i hi=>(k3 i hi).trans (by rw [E5]),fun m hm=>?_⟩
   rw [k4 m (fun j' hj'=>hm j' (by simp [hj'])),B5,if_neg (hm j (by simp) o ho)]
  ·obtain ⟨hg,hdn,T,ad,x,j0,q0,v,z,g1,g2,g3,g4,g5,g6⟩:=a5K hls
   -- what the store saw
   obtain ⟨v0,ids,f0,h0,z1,z2,z3,z4,z5⟩:=R9 (ops:=ops) hu h1
   obtain ⟨s1',y1,_,y2⟩:=z5 s hu ((C1.refl s).a0m _ _) z2
   rw [h1] at y1; cases y1
   have hsee:∀ y,y∈o.op.operands.toList→sF.ev y=f (f0 (s.ev y)):=by
    intro y hy
    refine a7Q (z1.a3X k1) (fun m hm=>?_)
    subst hm
    have hml:=G5 (ops:=ops) hy
    rw [← hev.1 m,k4 m (fun j' hj' o' ho' hd'=>g6 j' (hpw1 j' hj') (hlt j' (by simp [hj'])) o' ho' m hd' hml),y2.fr,if_neg (by rw [hdn]; intro h; cases h)]
    cases look m s.fr<;>rfl
   have ha:s.ev ad=.ptr j0 q0:=Z5 (z1.a3X k1) ((hsee ad (by rw [g1]; simp [Op.operands])).symm.trans g2) (.inl rfl)
   have hx:s.ev x=.val v z:=Z5 (z1.a3X k1) ((hsee x (by rw [g1]; simp [Op.operands])).symm.trans g3) (.inr ⟨rfl,by intro h; cases h⟩)
   obtain ⟨e,r,_,_,_,_,_,_,rfl⟩:=b1L hg g1 ha hx h1
   refine ⟨[j0]++J,fun u=>f (AV.kill j0 e.kd q0 u),(Trim.kill j0 e.kd q0).a3X k1,fun i hi=>?_,fun i hi=>?_,fun m hm=>?_⟩
   ·rcases List.mem_append.1 hi with hi|hi
    ·rw [List.mem_singleton] at hi; subst hi; exact ⟨g4,g5⟩
    ·exact k2 i hi
   ·rw [k3 i (fun h=>hi (List.mem_append_right _ h)),E5]
    simp only [St.o7,l7]
    rw [if_neg (fun h=>hi (List.mem_append_left _ (by simp [h])))]
    rfl
   ·rw [k4 m (fun j' hj'=>hm j' (by simp [hj'])),B5,if_neg (hm j (by simp) o ho)]
    have e1:look m ((s.kill j0 e.kd q0).o7 j0 (e.w4 r)).fr=(look m s.fr).map (AV.kill j0 e.kd q0):=D3 m _ _
    rw [e1]
    cases look m s.fr<;>rfl

/-! ### what the check of a pending append says -/
theorem a4w {M:List Nat} {k n:Nat} (h:a6S ops M k n=true):n+1=ops.size∧k<n∧∃ ok,ops[k]?=some ok∧∀ j,j<n→(M.getD n 0).testBit j=true∧(j≠k→∃ o,ops[j]?=some o∧(∀ d,ok.dst=some d→o.dst≠some d) ∧
  ((M.getD k 0).testBit j=true∨((quiet o=true∨a9M o=true)∧∀ d,o.dst=some d→d∉looks ops ok))):=by
 simp only [a6S,Bool.and_eq_true] at h
 obtain ⟨⟨h1,h2⟩,h3⟩:=h
 have hn:=Nat.eq_of_beq_eq_true h1
 refine ⟨hn,by simpa [Nat.blt_eq] using h2,?_⟩
 split at h3
 ·rename_i ok hok
  refine ⟨ok,hok,fun j hj=>?_⟩
  simp only [List.all_eq_true,List.mem_range] at h3
  have:=h3 j hj
  simp only [Bool.and_eq_true,Bool.or_eq_true] at this
  obtain ⟨m1,m2⟩:=this
  refine ⟨m1,fun hjk=>?_⟩
  rcases m2 with m2|m2
  ·exact absurd (Nat.eq_of_beq_eq_true m2) hjk
  ·split at m2
   ·rename_i o ho
    simp only [Bool.and_eq_true,Bool.or_eq_true] at m2
    refine ⟨o,ho,fun d hd hod=>?_,m2.2.imp id (fun h=>⟨h.1,fun d hd hdl=>?_⟩)⟩
    ·have:=m2.1
     simp only [a5r,hod,hd,Option.toList] at this
     simp at this
    ·have:=h.2
     simp only [a5r,hd] at this
     simp [hdl] at this
   ·cases m2
 ·cases h3

theorem a6m {M:List Nat} {q:Y1} {n:Nat} {o:Oper} {s:St} {p:Prop} {s2:St} (h:a7N E ops M q n o s=some (p,s2)):∃ T2 ad s3,o.guard=none∧o.op=.store T2 ad (.tmp q.d)∧(∀ t,ad=.tmp t→t≠q.d)∧(a6S ops M q.k n=true∧a62 ops M q n s=true)∧x3 E.nt o.dst=true ∧
  a40 E q.T q.U T2 (s.ev q.x) (s.ev q.y) (s.ev ad) q.d s=some (p,s3)∧s2=s3.put o.dst (.raw undef):=by
 unfold a7N at h
 split at h
 ·rename_i T2 ad d' hg hop
  split at h
  ·rename_i hc
   simp only [Bool.and_eq_true] at hc
   obtain ⟨⟨⟨⟨c1,c2⟩,c3⟩,c5⟩,c4⟩:=hc
   obtain rfl:=Nat.eq_of_beq_eq_true c1
   split at h
   ·rename_i p' s3 hs
    cases h
    exact ⟨T2,ad,s3,hg,hop,fun t e=>by subst e; rintro rfl; simp at c2,⟨c3,c5⟩,c4,hs,rfl⟩
   ·cases h
  ·cases h
 ·cases h

theorem a6w (hE:t7 E B) {x y adv:AV} {T U T2:TypeId} {d:Nat} {p:Prop} {s2:St} (hb:a40 E T U T2 x y adv d s=some (p,s2)) (hp:p) :
  ∃ i p0 e t0 l m g r q bts,x=.at_ i p0∧adv=.ptr i p0∧look i s.hp=some e∧i∉g∧g.Nodup∧(g.all fun i=>!pinned i)=true∧i6 e.ty e.x p0=some ⟨.d0 true t0,l⟩∧D7 E T2 (.d0 true t0)=true ∧
   m0 e.ty e.x p0 (.d0 true t0) (l++m)=some r∧s2=(((St.p7 g (s.put (some d) .any)).kill i e.kd p0).o7 i (e.w4 r))∧look T E.tt=some ⟨.d0 q t0,bts⟩ ∧
   ((∃ e',E.P.underlying U=some (.slice e'))∨E.P.underlying U=some .string)∧y.T6 s t0=some (⟨t0,m⟩,g)∧l.length+m.length≤140737488355328∧(l.length+m.length)*t0.wb≤140737488355328 ∧
   ((∃ t x,e=.var t x)∨∃ t x j q,e=.own (.d0 true t) x∧p0=.idx j::q):=by
 unfold a40 at hb
 split at hb
 ·rename_i i p0 j q q1 t0 bts u1 bts1 hT hU
  split at hb
  ·rename_i e hob hku
   simp only [Bool.and_eq_true] at hku
   obtain ⟨hij,hku⟩:=hku
   have hij:=Nat.eq_of_beq_eq_true hij
   subst hij
   split at hb
   ·rename_i u l hg
    split at hb
    ·rename_i t m g happ
     split at hb
     ·rename_i hu
      split at hb
      ·rename_i ht
       subst hu; subst ht
       split at hb
       ·rename_i r hset
        split at hb
        ·rename_i hck
         cases hb
         simp only [Bool.and_eq_true,Bool.not_eq_true'] at hck
         obtain ⟨⟨⟨⟨hck,hst⟩,hgi⟩,hgn⟩,hgp⟩:=hck
         obtain ⟨rfl,h63,hby⟩:=hp
         have hgi:i∉g:=by intro hm; simp [hm] at hgi
         have hk:(∃ e',E.P.underlying U=some (.slice e'))∨E.P.underlying U=some .string:=by
          cases u1<;>first|cases hku|skip
          ·exact .inr (L3 (w7 hE hU))
          ·obtain ⟨et,k',f1,_⟩:=B3 (w7 hE hU)
           exact .inl ⟨et,f1⟩
         exact ⟨i,q,e,_,l,m,g,r,_,_,rfl,rfl,hob,hgi,X3 hgn,hgp,hg,hck,hset,rfl,hT,hk,happ,h63,hby,(Y4 hst).2⟩
        ·cases hb
       ·cases hb
      ·cases hb
     ·cases hb
    ·cases hb
   ·cases hb
  ·cases hb
 ·cases hb

theorem A6.cut:∀ {A C:List Oper} {o:Oper},A6 (A++o::C)→A6 (A++C)∧∀ x∈A++C,∀ d,x.dst=some d→o.dst≠some d
 | [],C,o,h=>⟨h.2,fun x hx d hxd hod=>h.1 d hod x hx hxd⟩
 | y::A,C,o,h=>by
  obtain ⟨m1,m2⟩:=A6.cut h.2
  refine ⟨⟨fun d hd x hx=>h.1 d hd x (by simp at hx ⊢; rcases hx with hx|hx<;>simp [hx]),m1⟩,fun x hx d hxd hod=>?_⟩
  rcases List.mem_cons.1 hx with rfl|hx
  ·exact h.1 d hxd o (by simp) hod
  ·exact m2 x hx d hxd hod

theorem A6.sub {f:Nat→Bool}:∀ {l:List Nat},A6 (rem ops l)→A6 (rem ops (l.filter f))
 | [],h=>h
 | i::l,h=>by
  cases ho:ops[i]? with
  | none =>
   have e:rem ops (i::l)=rem ops l:=by simp [rem,ho]
   rw [e] at h
   have:=A6.sub (f:=f) h
   rw [List.filter_cons]
   split
   ·have e:rem ops (i::l.filter f)=rem ops (l.filter f):=by simp [rem,ho]
    rw [e]; exact this
   ·exact this
  | some o =>
   rw [a03 ho] at h
   rw [List.filter_cons]
   split
   ·rw [a03 ho]
    refine ⟨fun d hd x hx=>h.1 d hd x ?_,A6.sub h.2⟩
    obtain ⟨j,hj,hjx⟩:=List.mem_filterMap.1 hx
    exact List.mem_filterMap.2 ⟨j,(List.mem_filter.1 hj).1,hjx⟩
   ·exact A6.sub h.2

theorem a4E {n i:Nat} {listed:Array Bool} {f:Nat→Bool} (hs:listed.size=n) (hi:i∈idxs n listed) (hf:f i=true):∃ pre post,(idxs n listed).filter f=pre++i::post∧(∀ j∈pre,j<i) ∧
  (idxs n (listed.setIfInBounds i true)).filter f=pre++post:=by
 obtain ⟨pre,post,e,h1,h2⟩:=S3 hi
 refine ⟨pre.filter f,post.filter f,by rw [e,List.filter_append,List.filter_cons,if_pos hf],fun j hj=>h1 j (List.mem_filter.1 hj).1,?_⟩
 rw [N3 hs (o8.1 hi).1,h2,List.filter_append]

theorem b4J {n i:Nat} {listed:Array Bool} {f g:Nat→Bool} (hs:listed.size=n) (hi:i<n) (hg:∀ j,g j=(f j && !(j == i))):(idxs n (listed.setIfInBounds i true)).filter f=(idxs n listed).filter g:=by
 rw [N3 hs hi,List.filter_filter]
 exact List.filter_congr (fun j _=>(hg j).symm)

theorem a2i {n i fuel:Nat} {listed:Array Bool} (hs:listed.size=n) (hi:i∈idxs n listed) (hl:(idxs n listed).length=fuel+1):(idxs n (listed.setIfInBounds i true)).length=fuel:=by
 obtain ⟨pre,post,e,h1,h2⟩:=S3 hi
 rw [N3 hs (o8.1 hi).1,h2]
 rw [e] at hl
 simp at hl ⊢; omega

section
variable {q:Y1} {n:Nat} {s1:St}

theorem V1.set {listed:Array Bool} (hcl:V1 ops listed) {i:Nat} {o:Oper} (ho:ops[i]?=some o) (hpre:∀ e∈o.after,Region.binds .any e=true→listed.getD e.on false=true):V1 ops (listed.setIfInBounds i true):=by
 intro k y hy hk e' he' hb'
 by_cases hki:k=i
 ·subst hki
  rw [ho] at hy; cases hy
  exact getD_set_true (hpre e' he' hb')
 ·rw [getD_set_ne true (Ne.symm hki)] at hk
  exact getD_set_true (hcl k y hy hk e' he' hb')

theorem b3a {listed:Array Bool} {i:Nat} (hi:i<listed.size):(listed.setIfInBounds i true).getD i true=true:=by simp [hi]
theorem a6f {listed:Array Bool} {i:Nat} (hi:i<listed.size):(listed.setIfInBounds i true).getD i false=true:=by simp [hi]

theorem a6O (hd:M4 ops=true) {listed:Array Bool} (hsz:listed.size=ops.size) (hne:idxs ops.size listed≠[]):Region.ready .any ops listed≠[]:=by
 have hM:=Z1 hd
 intro hr
 cases hix:idxs ops.size listed with
 | nil=>exact hne hix
 | cons i l =>
  have hmem:i∈idxs ops.size listed:=by rw [hix]; simp
  obtain ⟨h1,h2⟩:=o8.1 hmem
  have ho:ops[i]?=some ops[i]:=Array.getElem?_eq_getElem h1
  have:i∈Region.ready .any ops listed:=by
   refine mem_ready.2 ⟨h2,ops[i],ho,fun e he hb=>?_⟩
   have hlt:=(hM i _ ho).1 e he hb
   cases hle:listed.getD e.on true with
   | true =>
    have:e.on<listed.size:=by omega
    simp [this] at hle ⊢; exact hle
   | false =>
    exfalso
    have hm2:e.on∈idxs ops.size listed:=o8.2 ⟨by omega,hle⟩
    have hs:=J8 ops.size listed
    rw [hix] at hs hm2
    rcases List.mem_cons.1 hm2 with e1|e1
    ·omega
    ·have:=(List.pairwise_cons.1 hs).1 _ e1; omega
  rw [hr] at this
  cases this

theorem b3o (hE:t7 E B) (hn:B.n=E.nt) (hd:M4 ops=true) {Q:Exit→Act→World→Prop} (hap:A6 ops.toList) (hA:a7x E ops q) {o2:Oper} (ho2:ops[n]?=some o2) {p:Prop} {s2:St} (hfin:a7N E ops (s4 ops.toList []) q n o2 s1=some (p,s2)) (hp:p)
  (hQ:∀ S ι a w,RS B S ι s2 a w→Q .normal a w) {i:Nat} {e:f9} {p0:List Step} {t0:Ty} {l m:List t0.den} {g:List Nat} (hx:s1.ev q.x=.at_ i p0) (he:look i s1.hp=some e) (hok:s6 e.ty e.x p0) (hg:i6 e.ty e.x p0=some ⟨.d0 true t0,l⟩)
  (happ:(s1.ev q.y).T6 s1 t0=some (⟨t0,m⟩,g)) {v':Value} :
  ∀ (fuel:Nat) (listed:Array Bool) (S:Nat→Prop) (ι:Ix) (s s':St) (a:Act) (w:World),listed.size=ops.size→(idxs ops.size listed).length=fuel→V1 ops listed→listed.getD q.k false=true→listed.getD n true=false→uniq s.fr→B8 s (rem ops ((idxs ops.size listed).filter (fun j=>!(j == n)))) →
   O8 E ops (fun i=>(s4 ops.toList []).getD i 0) [] ((idxs ops.size listed).filter (fun j=>!(j == n))) s s'→C1 s' s1→RS B S ι s a w→a.eval (.tmp q.d)=v'→(∀ b off,Loc w.heap ι i e p0=some (b,off)→a6x B S ι s.hp g i e p0 t0 l m b off v' w) →
   wpAny E.P .any ops Q fuel listed a w:=by
 have hM:=Z1 hd
 obtain ⟨T2,ad,s3,f1,f2,f3,⟨f4,f4'⟩,f5,f6,rfl⟩:=a6m hfin
 obtain ⟨hns,hkn,ok,hok1,hsp⟩:=a4w f4
 obtain ⟨oa,c,a1,a2,a3,a4,a5,a6,a7,a8⟩:=hA
 have e9:oa=ok:=by rw [a1] at hok1; cases hok1; rfl
 subst e9
 have hndst:∀ j o,j<n→j≠q.k→ops[j]?=some o→o.dst≠some q.d:=by
  intro j o hj hjk ho
  obtain ⟨o',h1,h2,_⟩:=(hsp j hj).2 hjk
  rw [ho] at h1; cases h1
  exact h2 q.d a3
 intro fuel
 induction fuel with
 | zero =>
  intro listed S ι s s' a w hsz hlen hcl hlk hln hu hcf hrun hev hrs hv hpd
  exfalso
  have hnil:idxs ops.size listed=[]:=List.length_eq_zero_iff.1 hlen
  have:n∈idxs ops.size listed:=o8.2 ⟨by omega,hln⟩
  rw [hnil] at this; cases this
 | succ fuel ih =>
  intro listed S ι s s' a w hsz hlen hcl hlk hln hu hcf hrun hev hrs hv hpd
  refine ⟨fun hr=>absurd hr (a6O hd hsz (by intro h; rw [h] at hlen; cases hlen)),fun i' hi=>?_⟩
  obtain ⟨h1,o,ho,hpre⟩:=mem_ready.1 hi
  have hin:i'<ops.size:=(Array.getElem?_eq_some_iff.1 ho).1
  have hmem:i'∈idxs ops.size listed:=o8.2 ⟨hin,h1⟩
  have hanc:∀ j,j<ops.size→((s4 ops.toList []).getD i' 0).testBit j=true→listed.getD j false=true:=W2 (M:=fun i=>(s4 ops.toList []).getD i 0) (fun i o ho=>⟨(hM i o ho).1,(hM i o ho).2.1⟩) hcl i' o ho hpre
  by_cases hin2:i'=n
  ·-- the store
   subst hin2
   rw [ho2] at ho; cases ho
   have hall:∀ j,j∈idxs ops.size listed→j=i':=by
    intro j hj
    obtain ⟨j1,j2⟩:=o8.1 hj
    by_cases e:j=i'
    ·exact e
    ·have:=hanc j j1 (hsp j (by omega)).1
     rw [G3 this] at j2; cases j2
   have hnil:(idxs ops.size listed).filter (fun j=>!(j == i'))=[]:=by
    rw [List.filter_eq_nil_iff]
    intro j hj; simp [hall j hj]
   rw [hnil] at hrun
   obtain rfl:s=s':=hrun
   have hrs1:=a1s hev hrs
   have hrs2:RS B S ι (s1.put (some q.d) .any) a w:=hrs1.forget q.d
   obtain ⟨i2,p2,e2,t2,l2,m2,g2,r,qq,bts,b1,b2,b3,b4,b5,b6,b7,b8,b9,b10,b11,b12,b13,b14,b15,b16⟩:=a6w hE f6 hp
   rw [hx] at b1
   obtain ⟨rfl,rfl⟩:i=i2∧p0=p2:=by simpa using b1
   rw [he] at b3; cases b3
   rw [hg] at b7
   simp only [Option.some.injEq,Sigma.mk.injEq,Ty.d0.injEq,true_and] at b7
   obtain ⟨b7,b7'⟩:=b7
   subst b7
   obtain rfl:l=l2:=eq_of_heq b7'
   rw [happ] at b13
   simp only [Option.some.injEq,Prod.mk.injEq,Sigma.mk.injEq,heq_eq_eq,true_and] at b13
   obtain ⟨rfl,rfl⟩:=b13
   have hadr:=hrs1.ev ad
   rw [b2] at hadr
   obtain ⟨e',b,off,c1,c2,c3,c4⟩:=hadr
   rw [he] at c1; cases c1
   have c4:a.eval ad=.pointer (some ⟨b,off,none⟩):=by simpa using c4
   have hst:=a6R hE hrs2 (g:=g) b6 b4 (e:=e) he hok hg (by
    obtain ⟨O',y1,y2,y3,y4,y5⟩:=hpd b off c3
    exact ⟨O',y1,y2,y3,y4,fun cc hc=>⟨(y5 cc hc).1,fun j ej hj hjg hlj=>(y5 cc hc).2.1 j ej hj hjg ((hev.2 j).trans hlj),(y5 cc hc).2.2⟩⟩) f2 c4 hv b8 b9
   have hlen':=a2i hsz hmem hlen
   have hnil2:idxs ops.size (listed.setIfInBounds i' true)=[]:=by
    rw [N3 hsz hin]
    rw [List.filter_eq_nil_iff]
    intro j hj; simp [hall j hj]
   have hf0:fuel=0:=by rw [hnil2] at hlen'; exact hlen'.symm
   subst hf0
   have hw:o2.wp E.P a w (wpAny E.P .any ops Q 0 (listed.setIfInBounds i' true)) Q:=by
    refine hst _ _ (fun S' ι' w' val h1 h2=>⟨?_,hQ S' ι' _ w' ?_⟩)
    ·rw [List.eq_nil_iff_forall_not_mem]
     intro j hj
     obtain ⟨j1,oj,j2,_⟩:=mem_ready.1 hj
     have:j∈idxs ops.size (listed.setIfInBounds i' true):=o8.2 ⟨(Array.getElem?_eq_some_iff.1 j2).1,j1⟩
     rw [hnil2] at this; cases this
    ·rw [← b10] at h1 h2
     exact h1.put (by rw [hn]; exact f5) h2
   unfold wpOp
   rw [ho2]
   simp only [Region.wanted,f1,if_true]
   exact .inl hw
  ·-- something quiet
   have hlt:i'<n:=by omega
   have hki:i'≠q.k:=by rintro rfl; rw [G3 hlk] at h1; cases h1
   obtain ⟨o',ho',hdd,hqq⟩:=(hsp i' hlt).2 hki
   rw [ho] at ho'; cases ho'
   have hnanc:∀ j,j∈idxs ops.size listed→¬ ((s4 ops.toList []).getD q.k 0).testBit j=true:=by
    intro j hj hb
    have hclk:∀ e∈oa.after,Region.binds .any e=true→listed.getD e.on false=true:=hcl q.k oa a1 (G3 hlk)
    have h9:=W2 (M:=fun i=>(s4 ops.toList []).getD i 0) (fun i o ho=>⟨(hM i o ho).1,(hM i o ho).2.1⟩) hcl q.k oa a1 hclk j (o8.1 hj).1 hb
    have h8:=(o8.1 hj).2
    rw [G3 h9] at h8; cases h8
   have hkinds:∀ j∈(idxs ops.size listed).filter (fun j=>!(j == n)),∀ oj,ops[j]?=some oj→quiet oj=true∨a2g ops q n j oj s1=true:=by
    intro j hj oj hoj
    obtain ⟨j1,j2⟩:=List.mem_filter.1 hj
    simp only [Bool.not_eq_true',beq_eq_false_iff_ne,ne_eq] at j2
    have jn:j<n:=by have:=(o8.1 j1).1; omega
    have jk:j≠q.k:=by rintro rfl; have:=(o8.1 j1).2; rw [G3 hlk] at this; cases this
    rcases a8j f4' jn jk hoj with h9|h9|h9
    ·exact absurd h9 (hnanc j j1)
    ·exact .inl h9
    ·exact .inr h9
   have hltn:∀ j∈(idxs ops.size listed).filter (fun j=>!(j == n)),j<n:=by
    intro j hj
    obtain ⟨j1,j2⟩:=List.mem_filter.1 hj
    simp only [Bool.not_eq_true',beq_eq_false_iff_ne,ne_eq] at j2
    have:=(o8.1 j1).1; omega
   have hsort:((idxs ops.size listed).filter (fun j=>!(j == n))).Pairwise (·<·):=(J8 ops.size listed).sublist List.filter_sublist
   have hmemf:i'∈(idxs ops.size listed).filter (fun j=>!(j == n)):=List.mem_filter.2 ⟨hmem,by simpa using hin2⟩
   have hkind:=hkinds i' hmemf o ho
   have hrun0:=hrun
   obtain ⟨pre,post,e1,hlt',e2⟩:=a4E (f:=fun j=>!(j == n)) hsz hmem (by simpa using hin2)
   rw [e1] at hcf hrun
   have er:rem ops (pre++i'::post)=rem ops pre++o::rem ops post:=by simp [rem,List.filterMap_append,ho]
   have er2:rem ops (pre++post)=rem ops pre++rem ops post:=by simp [rem,List.filterMap_append]
   have hapr:A6 (rem ops (pre++i'::post)):=by
    rw [← e1]
    refine A6.sub ?_
    have:rem ops (idxs ops.size listed)=rem ops ((List.range ops.size).filter (fun i=>!listed.getD i true)):=rfl
    rw [this]
    refine A6.sub ?_
    have h9:=a04 (ops:=ops)
    rw [I1] at h9
    rw [h9]; exact hap
   have hind:∀ j∈pre,((s4 ops.toList []).getD i' 0).testBit j=false∧∀ x,ops[j]?=some x→indep ops x o=true:=by
    intro j hj
    have hji:j∈idxs ops.size listed:=by
     have:j∈(idxs ops.size listed).filter (fun j=>!(j == n)):=by rw [e1]; simp [hj]
     exact (List.mem_filter.1 this).1
    have hnm:((s4 ops.toList []).getD i' 0).testBit j=false:=by
     cases hm:((s4 ops.toList []).getD i' 0).testBit j with
     | false=>rfl
     | true =>
      exfalso
      have hjl:=hanc j (o8.1 hji).1 hm
      have:=(o8.1 hji).2
      rw [G3 hjl] at this
      cases this
    refine ⟨hnm,fun x hx=>?_⟩
    rcases (hM i' o ho).2.2 j x (hlt' j hj) hx with hm|hm
    ·rw [hnm] at hm; cases hm
    ·exact hm
   obtain ⟨pp,sa,sb,k1,k2,k3,k4,_⟩:=a4V ho hapr hind hu (hcf.sub (fun y hy=>by rw [Z6]; exact List.mem_append_left _ hy)) hrun
   rw [er] at hapr hcf
   have hap2:=A6.cut hapr
   rcases hkind with hqt|hls
   ·obtain ⟨q1,q2,v,val,rfl,q3,q4⟩:=b4p hE hrs hqt k1 k2
    have hnext:wpAny E.P .any ops Q fuel (listed.setIfInBounds i' true) (a.put o.dst val) w:=by
     refine ih (listed.setIfInBounds i' true) S ι (s.put o.dst v) sb (a.put o.dst val) w (by simp [hsz]) (a2i hsz hmem hlen) (hcl.set ho hpre) (getD_set_true hlk) (by rw [getD_set_ne true hin2]; exact hln) (y6 hu k1) ?_ (by rw [e2]; exact k3) (k4.trans hev) (hrs.put (by rw [hn]; exact q2) q4) ?_ (fun b off hb=>by rw [E5]; exact hpd b off hb)
     ·rw [e2,er2]
      exact B8.step hu (fun y hy=>hcf y (by simp at hy ⊢; rcases hy with hy|hy<;>simp [hy])) hap2.2 k1
     ·rw [← hv]
      have hne:=hndst i' o hlt hki ho
      cases hod:o.dst with
      | none=>rfl
      | some d =>
       rw [hod] at hne
       exact S7 (fun e=>hne (by rw [e]))
    unfold wpOp
    rw [ho]
    simp only [Region.wanted,q1,if_true]
    refine .inl ?_
    unfold Oper.wp
    rw [q3]
    exact hnext
   ·-- a store that goes elsewhere
    obtain ⟨hg0,hdn,T,ad',x',j0,q0,vt,z,g1,g2,g3,g4,g5,g6⟩:=a5K hls
    rw [e1] at hsort hltn hkinds
    have hsub:List.Sublist (pre++post) (pre++i'::post):=List.Sublist.append (List.Sublist.refl _) (List.sublist_cons_self _ _)
    obtain ⟨J,f,t1,t2,t3,t4⟩:=a2E k3 (k4.trans hev) (y6 hu k1) (hsort.sublist hsub) (fun j hj=>hltn j (hsub.subset hj)) (fun j hj=>hkinds j (hsub.subset hj))
    have hpost:∀ j∈post,i'<j:=fun j hj=>(List.pairwise_cons.1 (List.pairwise_append.1 hsort).2.1).1 j hj
    obtain ⟨v0,ids,f0,hh0,z1,z2,z3,z4,z5⟩:=R9 (ops:=ops) hu k1
    obtain ⟨sa',y1,_,y2⟩:=z5 s hu ((C1.refl s).a0m _ _) z2
    rw [k1] at y1; cases y1
    have hsee:∀ y,y∈o.op.operands.toList→s1.ev y=f (f0 (s.ev y)):=by
     intro y hy
     refine a7Q (z1.a3X t1) (fun m' hm=>?_)
     subst hm
     have hml:=G5 (ops:=ops) hy
     rw [← (k4.trans hev).1 m',t4 m' (fun j hj o' ho' hd'=>?_),y2.fr,if_neg (by rw [hdn]; intro h; cases h)]
     ·cases look m' s.fr<;>rfl
     ·rcases List.mem_append.1 hj with hj|hj
      ·exact (a0O ((hind j hj).2 o' ho')).1 m' hd' hml
      ·exact g6 j (hpost j hj) (hltn j (by simp [hj])) o' ho' m' hd' hml
    have ha':s.ev ad'=.ptr j0 q0:=Z5 (z1.a3X t1) ((hsee ad' (by rw [g1]; simp [Op.operands])).symm.trans g2) (.inl rfl)
    have hx':s.ev x'=.val vt z:=Z5 (z1.a3X t1) ((hsee x' (by rw [g1]; simp [Op.operands])).symm.trans g3) (.inr ⟨rfl,by intro h; cases h⟩)
    obtain ⟨ι',w',r1,r2,r3⟩:=b5M hE hn hrs hg0 g1 ha' hx' k1
    have hij:i≠j0:=by
     rintro rfl
     rw [hx] at g4
     simp only [AV.e8,Nat.beq_refl] at g4
     cases g4
    have hjg:j0∉g:=fun hm=>by rw [a8A happ j0 hm] at g5; cases g5
    obtain ⟨J2,f2',u1,u2,u3,u4⟩:=a2E (ops:=ops) (q:=q) (n:=n) hrun hev hu hsort hltn hkinds
    have hes:look i s.hp=some e:=by
     rw [← u3 i (fun hm=>by
      have:=(u2 i hm).1
      rw [hx] at this
      simp only [AV.e8,Nat.beq_refl] at this
      cases this),hev.2 i]
     exact he
    obtain ⟨i2,p2,e2',t2',l2,m2,g2',r',qq,bts,b1,b2,b3,b4,b5,b6,b7,b8,b9,b10,b11,b12,b13,b14,b15,b16⟩:=a6w hE f6 hp
    rw [hx] at b1
    obtain ⟨rfl,rfl⟩:i=i2∧p0=p2:=by simpa using b1
    rw [he] at b3; cases b3
    obtain ⟨b,off,hloc⟩:=a2e (hrs.hs.ob i e hes) hrs.hs.slt b16 hok hg
    have hP:=r3 hij hjg hes hok hg (hpd b off hloc)
    have hnext:wpAny E.P .any ops Q fuel (listed.setIfInBounds i' true) (a.put o.dst undef) w':=by
     refine ih (listed.setIfInBounds i' true) S ι' sa sb (a.put o.dst undef) w' (by simp [hsz]) (a2i hsz hmem hlen) (hcl.set ho hpre) (getD_set_true hlk) (by rw [getD_set_ne true hin2]; exact hln) (y6 hu k1) ?_ (by rw [e2]; exact k3) (k4.trans hev) r2 ?_ (fun b9 off9 hb9=>?_)
     ·rw [e2,er2]
      exact B8.step hu (fun y hy=>hcf y (by simp at hy ⊢; rcases hy with hy|hy<;>simp [hy])) hap2.2 k1
     ·rw [← hv,hdn]; rfl
     ·obtain ⟨_,h9,_⟩:=id hP
      rw [h9] at hb9; cases hb9
      exact hP
    unfold wpOp
    rw [ho]
    simp only [Region.wanted,hg0,if_true]
    refine .inl ?_
    unfold Oper.wp
    rw [r1]
    exact hnext

theorem b1q (hE:t7 E B) (hn:B.n=E.nt) (hd:M4 ops=true) {Q:Exit→Act→World→Prop} (hap:A6 ops.toList) (hA:a7x E ops q) {o2:Oper} (ho2:ops[n]?=some o2) {p:Prop} {s2:St} (hfin:a7N E ops (s4 ops.toList []) q n o2 s1=some (p,s2)) (hp:p)
  (hQ:∀ S ι a w,RS B S ι s2 a w→Q .normal a w) :
  ∀ (fuel:Nat) (listed:Array Bool) (S:Nat→Prop) (ι:Ix) (s s':St) (a:Act) (w:World),listed.size=ops.size→(idxs ops.size listed).length=fuel→V1 ops listed→listed.getD q.k true=false→listed.getD n true=false→uniq s.fr→B8 s (rem ops ((idxs ops.size listed).filter (fun j=>!(j == n) && !(j == q.k)))) →
   O8 E ops (fun i=>(s4 ops.toList []).getD i 0) [] ((idxs ops.size listed).filter (fun j=>!(j == n) && !(j == q.k))) s s'→C1 s' s1→look q.d s.fr=some .any→RS B S ι s a w →
   wpAny E.P .any ops Q fuel listed a w:=by
 have hM:=Z1 hd
 obtain ⟨T2,ad,s3,f1,f2,f3,⟨f4,f4'⟩,f5,f6,_⟩:=a6m hfin
 obtain ⟨hns,hkn,ok,hok1,hsp⟩:=a4w f4
 have hA':=hA
 obtain ⟨oa,c,a1,a2,a3,a4,a5,a6,a7,a8⟩:=hA
 have e9:oa=ok:=by rw [a1] at hok1; cases hok1; rfl
 subst e9
 intro fuel
 induction fuel with
 | zero =>
  intro listed S ι s s' a w hsz hlen hcl hlk hln hu hcf hrun hev hany hrs
  exfalso
  have hnil:idxs ops.size listed=[]:=List.length_eq_zero_iff.1 hlen
  have:n∈idxs ops.size listed:=o8.2 ⟨by omega,hln⟩
  rw [hnil] at this; cases this
 | succ fuel ih =>
  intro listed S ι s s' a w hsz hlen hcl hlk hln hu hcf hrun hev hany hrs
  refine ⟨fun hr=>absurd hr (a6O hd hsz (by intro h; rw [h] at hlen; cases hlen)),fun i' hi=>?_⟩
  obtain ⟨h1,o,ho,hpre⟩:=mem_ready.1 hi
  have hin:i'<ops.size:=(Array.getElem?_eq_some_iff.1 ho).1
  have hmem:i'∈idxs ops.size listed:=o8.2 ⟨hin,h1⟩
  have hanc:∀ j,j<ops.size→((s4 ops.toList []).getD i' 0).testBit j=true→listed.getD j false=true:=W2 (M:=fun i=>(s4 ops.toList []).getD i 0) (fun i o ho=>⟨(hM i o ho).1,(hM i o ho).2.1⟩) hcl i' o ho hpre
  by_cases hin2:i'=n
  ·exfalso
   subst hin2
   have:=hanc q.k (by omega) (hsp q.k hkn).1
   rw [G3 this] at hlk; cases hlk
  have hlt:i'<n:=by omega
  by_cases hki:i'=q.k
  ·-- the append
   subst hki
   rw [a1] at ho; cases ho
   have hltn:∀ j∈(idxs ops.size listed).filter (fun j=>!(j == n) && !(j == q.k)),j<n:=by
    intro j hj
    obtain ⟨j1,j2⟩:=List.mem_filter.1 hj
    simp only [Bool.and_eq_true,Bool.not_eq_true',beq_eq_false_iff_ne,ne_eq] at j2
    have:=(o8.1 j1).1; omega
   have hquiet:∀ j∈(idxs ops.size listed).filter (fun j=>!(j == n) && !(j == q.k)),∀ oj,ops[j]?=some oj→(quiet oj=true∨a2g ops q n j oj s1=true)∧oj.dst≠some q.d∧∀ d,oj.dst=some d→d∉looks ops oa:=by
    intro j hj oj hoj
    have jn:=hltn j hj
    obtain ⟨j1,j2⟩:=List.mem_filter.1 hj
    simp only [Bool.and_eq_true,Bool.not_eq_true',beq_eq_false_iff_ne,ne_eq] at j2
    have hna:¬ ((s4 ops.toList []).getD q.k 0).testBit j=true:=by
     intro g3
     have:=hanc j (by omega) g3
     have h9:=(o8.1 j1).2
     rw [G3 this] at h9; cases h9
    obtain ⟨o',g1,g2,g3⟩:=(hsp j jn).2 j2.2
    rw [hoj] at g1; cases g1
    refine ⟨?_,g2 q.d a3,?_⟩
    ·rcases a8j f4' jn j2.2 hoj with h9|h9|h9
     ·exact absurd h9 hna
     ·exact .inl h9
     ·exact .inr h9
    ·rcases g3 with g3|g3
     ·exact absurd g3 hna
     ·exact g3.2
   have hsort:((idxs ops.size listed).filter (fun j=>!(j == n) && !(j == q.k))).Pairwise (·<·):=(J8 ops.size listed).sublist List.filter_sublist
   obtain ⟨J,f,t1,t2,t3,t4⟩:=a2E (ops:=ops) (q:=q) (n:=n) hrun hev hu hsort hltn (fun j hj oj hoj=>(hquiet j hj oj hoj).1)
   obtain ⟨i,p0,e,t0,l,m,g,r,qq,bts,b1,b2,b3,b4,b5,b6,b7,b8,b9,b10,b11,b12,b13,b14,b15,b16⟩:=a6w hE f6 hp
   have hlook:∀ j,j∉J→look j s.hp=look j s1.hp:=fun j hj=>by rw [← t3 j hj]; exact hev.2 j
   have hget:∀ x,x∈oa.op.operands.toList→s1.ev x=f (s.ev x):=by
    intro x hx
    refine a7Q t1 (fun t ht=>?_)
    subst ht
    rw [← hev.1 t,t4 t (fun j hj oj hoj hd'=>(hquiet j hj oj hoj).2.2 t hd' (G5 hx))]
   have hxm:q.x∈oa.op.operands.toList:=by rw [a5]; exact Z7 (by rw [a7]; simp)
   have hym:q.y∈oa.op.operands.toList:=by rw [a5]; exact Z7 (by rw [a7]; simp)
   have hxs:s.ev q.x=.at_ i p0:=Z5 t1 ((hget _ hxm).symm.trans b1) (.inl rfl)
   have hyy:s.ev q.y=s1.ev q.y:=Z5 t1 (hget _ hym).symm (b3P b13)
   have hes:look i s.hp=some e:=(hlook i (fun hm=>by
    have:=(t2 i hm).1
    rw [b1] at this
    simp only [AV.e8,Nat.beq_refl] at this
    cases this)).trans b3
   have happs:(s.ev q.y).T6 s t0=some (⟨t0,m⟩,g):=by
    rw [hyy,a5z (s:=s1) (t:=s) (fun j hj=>hlook j (fun hm=>by rw [(t2 j hm).2] at hj; cases hj))]
    exact b13
   have hok:s6 e.ty e.x p0:=by
    obtain ⟨e2,u,y2,cs,r1,hok,_⟩:=t6 hrs hxs
    rw [hes] at r1; cases r1
    exact hok
   obtain ⟨b,off,hl⟩:=a2e (hrs.hs.ob i e hes) hrs.hs.slt b16 hok b7
   obtain ⟨v',w',c1,c2,c3,c4⟩:=a5U hE hrs a5 a6 a7 a8 b12 b11 hxs hes b16 b7 hl happs b4 b5 b14 b15
   have hl':Loc w'.heap ι i e p0=some (b,off):=by obtain ⟨_,h9,_⟩:=c4; exact h9
   have hput:RS B S ι s (a.put (some q.d) v') w':=by
    have h9:=c2.put (d:=some q.d) (by rw [hn]; exact a4) (v:=.any) (val:=v') ⟨v',rfl⟩
    refine a1s (s:=s.put (some q.d) .any) (t:=s) ⟨fun t=>?_,fun _=>rfl⟩ h9
    rw [B5]
    split
    ·rename_i e9; cases e9; exact hany.symm
    ·rfl
   have hval:(a.put (some q.d) v').eval (.tmp q.d)=v':=a4Y (by rw [hrs.sz,hn]; simpa [x3,Nat.blt_eq] using a4)
   have hset:(idxs ops.size (listed.setIfInBounds q.k true)).filter (fun j=>!(j == n))=(idxs ops.size listed).filter (fun j=>!(j == n) && !(j == q.k)):=b4J hsz hin (fun j=>rfl)
   have hnext:wpAny E.P .any ops Q fuel (listed.setIfInBounds q.k true) (a.put (some q.d) v') w':=by
    refine b3o hE hn hd hap hA' ho2 hfin hp hQ (i:=i) (e:=e) (p0:=p0) (t0:=t0) (l:=l) (m:=m) (g:=g) b1 b3 hok b7 b13 (v':=v') fuel (listed.setIfInBounds q.k true) S ι s s' _ w' (by simp [hsz]) (a2i hsz hmem hlen) (hcl.set a1 hpre) (a6f (by omega)) (by rw [getD_set_ne true (by omega)]; exact hln) hu (by rw [hset]; exact hcf) (by rw [hset]; exact hrun) hev hput hval ?_
    intro b' off' hb'
    rw [hl'] at hb'; cases hb'
    exact c4
   unfold wpOp
   rw [a1]
   simp only [Region.wanted,a2,if_true]
   refine .inl ?_
   unfold Oper.wp
   rw [c1]
   show wpAny E.P .any ops Q fuel (listed.setIfInBounds q.k true) (a.put oa.dst v') w'
   rw [a3]
   exact hnext
  ·-- another one
   obtain ⟨pre,post,e1,hlt',e2⟩:=a4E (f:=fun j=>!(j == n) && !(j == q.k)) hsz hmem (by simp [hin2,hki])
   rw [e1] at hcf hrun
   have er:rem ops (pre++i'::post)=rem ops pre++o::rem ops post:=by simp [rem,List.filterMap_append,ho]
   have er2:rem ops (pre++post)=rem ops pre++rem ops post:=by simp [rem,List.filterMap_append]
   have hapr:A6 (rem ops (pre++i'::post)):=by
    rw [← e1]
    refine A6.sub ?_
    have:rem ops (idxs ops.size listed)=rem ops ((List.range ops.size).filter (fun i=>!listed.getD i true)):=rfl
    rw [this]
    refine A6.sub ?_
    have h9:=a04 (ops:=ops)
    rw [I1] at h9
    rw [h9]; exact hap
   have hind:∀ j∈pre,((s4 ops.toList []).getD i' 0).testBit j=false∧∀ x,ops[j]?=some x→indep ops x o=true:=by
    intro j hj
    have hji:j∈idxs ops.size listed:=by
     have:j∈(idxs ops.size listed).filter (fun j=>!(j == n) && !(j == q.k)):=by rw [e1]; simp [hj]
     exact (List.mem_filter.1 this).1
    have hnm:((s4 ops.toList []).getD i' 0).testBit j=false:=by
     cases hm:((s4 ops.toList []).getD i' 0).testBit j with
     | false=>rfl
     | true =>
      exfalso
      have hjl:=hanc j (o8.1 hji).1 hm
      have:=(o8.1 hji).2
      rw [G3 hjl] at this
      cases this
    refine ⟨hnm,fun x hx=>?_⟩
    rcases (hM i' o ho).2.2 j x (hlt' j hj) hx with hm|hm
    ·rw [hnm] at hm; cases hm
    ·exact hm
   obtain ⟨pp,sa,sb,k1,k2,k3,k4,_⟩:=a4V ho hapr hind hu (hcf.sub (fun y hy=>by rw [Z6]; exact List.mem_append_left _ hy)) hrun
   have hnd:o.dst≠some q.d:=by
    obtain ⟨o',g1,g2,_⟩:=(hsp i' hlt).2 hki
    rw [ho] at g1; cases g1
    exact g2 q.d a3
   have hany':look q.d sa.fr=some .any:=by
    obtain ⟨v,ids,f,hf,z1,z2,z3,z4,z5⟩:=R9 (ops:=ops) hu k1
    obtain ⟨sa',y1,_,y2⟩:=z5 s hu ((C1.refl s).a0m _ _) z2
    rw [k1] at y1; cases y1
    rw [y2.fr,if_neg hnd,hany]
    simp [z1.plain _ (rfl:AV.plain .any=true)]
   rw [er] at hapr hcf
   have hap2:=A6.cut hapr
   have hps:=X2 hE hn hrs (ops:=ops) o (k:=fun x=>Tree.cut .skip [] x) (L:=fun _ _ x=>x=sa) (Rt:=fun _=>True) (Q7.2 ⟨pp,sa,k1,k2,rfl⟩)
    (next:=wpAny E.P .any ops Q fuel (listed.setIfInBounds i' true)) (Q:=Q) (fun S' ι' x a' w' hx hxe=>by
     have hxe:x=sa:=hxe
     subst hxe
     refine ih (listed.setIfInBounds i' true) S' ι' x sb a' w' (by simp [hsz]) (a2i hsz hmem hlen) (hcl.set ho hpre) (by rw [getD_set_ne true hki]; exact hlk) (by rw [getD_set_ne true hin2]; exact hln) (y6 hu k1) ?_ (by rw [e2]; exact k3) (k4.trans hev) hany' hx
     rw [e2,er2]
     exact B8.step hu (fun y hy=>hcf y (by simp at hy ⊢; rcases hy with hy|hy<;>simp [hy])) hap2.2 k1)
   unfold wpOp
   rw [ho]
   simp only
   split
   ·rename_i hw; rw [if_pos hw] at hps; exact .inl hps
   ·rename_i hw; rw [if_neg hw] at hps; exact hps

theorem b3n (hE:t7 E B) (hn:B.n=E.nt) {id:Nat} (hd:(M4 ops && a0d ops s && E.P.follows .mixedOrders)=true) {Q:Exit→Act→World→Prop} (hA:a7x E ops q) {s':St}
  (hr:O8 E ops (fun i=>(s4 ops.toList []).getD i 0) [] ((List.range' 0 (ops.toList.length - 1)).filter (fun j=>!(j == q.k))) s s') {k:St→Tree (E.rs++u6 E.ps)} {L:Code→List Item→St→Prop} {R:DL (E.rs++u6 E.ps)→Prop}
  (hf:b0x E ops (s4 ops.toList []) q s' k L R) (hany:look q.d s.fr=some .any)
  (hQ:∀ S ι s2 a w,RS B S ι s2 a w→(k s2).holds L R→Q .normal a w) (h:RS B S ι s a w):(Code.region id ops true).wp E.P Q a w:=by
 simp only [Bool.and_eq_true,a0d,List.all_eq_true] at hd
 obtain ⟨⟨h1,⟨h2,h3⟩,h4⟩,h5⟩:=hd
 refine wp_region_any h5 ?_
 obtain ⟨o2,p,s2,g1,g2,g3,g4⟩:=hf
 obtain ⟨T2,ad,s3,f1,f2,f3,⟨f4,_⟩,f5,f6,_⟩:=a6m g2
 obtain ⟨hns,hkn,_⟩:=a4w f4
 have hlen:(idxs ops.size (Array.replicate ops.size false)).length=ops.size:=by
  rw [I1]; simp
 have hset:(idxs ops.size (Array.replicate ops.size false)).filter (fun j=>!(j == ops.size - 1) && !(j == q.k))=(List.range' 0 (ops.toList.length - 1)).filter (fun j=>!(j == q.k)):=by
  rw [I1,show List.range ops.size=List.range (ops.size - 1)++[ops.size - 1] from by rw [← List.range_succ]; congr 1; omega,List.filter_append,List.filter_cons]
  simp only [beq_self_eq_true,Bool.not_true,Bool.false_and,Bool.false_eq_true,if_false,List.filter_nil,List.append_nil,Array.length_toList]
  rw [List.range_eq_range']
  refine List.filter_congr (fun j hj=>?_)
  have:j≠ops.size - 1:=by have:=(List.mem_range'_1.1 hj).2; omega
  simp [this]
 refine b1q (n:=ops.size - 1) hE hn h1 (W1 h3) hA g1 g2 g3 (fun S ι a w hh=>hQ S ι _ a w hh g4) ops.size _ S ι s s' a w.drew (by simp) hlen ?_ ?_ ?_ (A3 h2) ?_ (by rw [hset]; exact hr) (C1.refl _) hany (h.J4 x4.nil w8.drew)
 ·intro k o hk hl
  have:k<ops.size:=(Array.getElem?_eq_some_iff.1 hk).1
  simp [this] at hl
 ·have:q.k<ops.size:=by omega
  simp [this]
 ·have:ops.size - 1<ops.size:=by omega
  simp [this]
 ·intro o ho d hd
  obtain ⟨j,hj,hjo⟩:=List.mem_filterMap.1 ho
  obtain ⟨hj1,hj2⟩:=List.mem_filter.1 hj
  have:=(o8.1 hj1).1
  simp only [Bool.and_eq_true,Bool.not_eq_true',beq_eq_false_iff_ne,ne_eq] at hj2
  refine h4 d (List.mem_filterMap.2 ⟨o,List.mem_of_getElem? (i:=j) ?_,hd⟩)
  rw [List.getElem?_dropLast,if_pos (by simp; omega)]
  simpa using hjo
end
end
end Go.Ex

namespace Go.Ex

/-! ### drawn regions in which addresses of parts stand unordered with stores of plain values -/
theorem a0y:∀ {t:Ty} {x:t.den} {p:List Step} {r:Sigma Ty.den},i6 t x p=some r→B2 t p=some r.1:=by
 intro t
 induction t with
 | pair a b iha ihb =>
  intro x p r h
  match p,h with
  | [],h=>simp only [i6,Option.some.injEq] at h; subst h; rfl
  | .i9 0::p,h=>exact iha (x:=x.1) h
  | .i9 (n+1)::p,h=>exact ihb (x:=x.2) (p:=.i9 n::p) h
  | .idx i::p,h=>simp [i6] at h
 | arr n t ih =>
  intro x p r h
  match p,h with
  | [],h=>simp only [i6,Option.some.injEq] at h; subst h; rfl
  | .i9 i::p,h=>simp [i6] at h
  | .idx i::p,h=>exact ih h
 | d0 o t ih =>
  intro x p r h
  match p,h with
  | [],h=>cases o<;>(simp only [i6,Option.some.injEq] at h; subst h; rfl)
  | .i9 i::p,h=>cases o<;>simp [i6] at h
  | .idx i::p,h =>
   cases o with
   | true=>exact ih h
   | false=>simp [i6] at h
 | _ =>
  intro x p r h
  match p,h with
  | [],h=>simp only [i6,Option.some.injEq] at h; subst h; rfl
  | .i9 i::p,h=>simp [i6] at h
  | .idx i::p,h=>simp [i6] at h

theorem a5v:∀ {t:Ty} {p:List Step} {u:Ty},B2 t p=some u→∀ x:t.den,∃ z,i6 t x p=some ⟨u,z⟩:=by
 intro t
 induction t with
 | pair a b iha ihb =>
  intro p u h x
  match p,h with
  | [],h=>simp only [B2,Option.some.injEq] at h; subst h; exact ⟨x,rfl⟩
  | .i9 0::p,h=>exact iha h x.1
  | .i9 (n+1)::p,h=>exact ihb (p:=.i9 n::p) h x.2
  | .idx i::p,h=>simp [B2] at h
 | arr n t ih =>
  intro p u h x
  match p,h with
  | [],h=>simp only [B2,Option.some.injEq] at h; subst h; exact ⟨x,rfl⟩
  | .i9 i::p,h=>simp [B2] at h
  | .idx i::p,h=>exact ih h _
 | d0 o t ih =>
  intro p u h x
  match p,h with
  | [],h=>cases o<;>(simp only [B2,Option.some.injEq] at h; subst h; exact ⟨x,rfl⟩)
  | .i9 i::p,h=>cases o<;>simp [B2] at h
  | .idx i::p,h =>
   cases o with
   | true=>exact ih h _
   | false=>simp [B2] at h
 | _ =>
  intro p u h x
  match p,h with
  | [],h=>simp only [B2,Option.some.injEq] at h; subst h; exact ⟨x,rfl⟩
  | .i9 i::p,h=>simp [B2] at h
  | .idx i::p,h=>simp [B2] at h

theorem b7I (q:List Step):kp q []=true:=by cases q with
 | nil=>rfl
 | cons s q=>cases s<;>rfl

theorem b6X:∀ {t:Ty} {p:List Step} {u:Ty},t.U3=true→B2 t p=some u→kp [] p=true:=by
 intro t
 induction t with
 | pair a b iha ihb =>
  intro p u hn h
  simp only [Ty.U3,Bool.and_eq_true] at hn
  match p,h with
  | [],_=>rfl
  | .i9 0::p,h =>
   have h:B2 a p=some u:=h
   have:=iha hn.1 h
   simpa [kp] using this
  | .i9 (n+1)::p,h =>
   have:=ihb (p:=.i9 n::p) hn.2 h
   simpa [kp] using this
  | .idx i::p,h=>simp [B2] at h
 | arr n t ih=>intro p u hn; cases hn
 | d0 o t ih=>intro p u hn; cases hn
 | _ =>
  intro p u hn h
  match p,h with
  | [],_=>rfl
  | .i9 i::p,h=>simp [B2] at h
  | .idx i::p,h=>simp [B2] at h

theorem b5D:∀ {t:Ty} {p:List Step} {u:Ty},t.U3=true→B2 t p=some u→u.U3=true:=by
 intro t
 induction t with
 | pair a b iha ihb =>
  intro p u hn h
  match p,h with
  | [],h=>simp only [B2,Option.some.injEq] at h; subst h; exact hn
  | .i9 0::p,h=>simp only [Ty.U3,Bool.and_eq_true] at hn; exact iha hn.1 h
  | .i9 (n+1)::p,h=>simp only [Ty.U3,Bool.and_eq_true] at hn; exact ihb (p:=.i9 n::p) hn.2 h
  | .idx i::p,h=>simp [B2] at h
 | arr n t ih=>intro p u hn; cases hn
 | d0 o t ih=>intro p u hn; cases hn
 | _ =>
  intro p u hn h
  match p,h with
  | [],h=>simp only [B2,Option.some.injEq] at h; subst h; exact hn
  | .i9 i::p,h=>simp [B2] at h
  | .idx i::p,h=>simp [B2] at h

theorem b64:∀ {t:Ty} {q p:List Step} {st:Step} {uq u:Ty},B2 t q=some uq→uq.U3=true→B2 t (p++[st])=some u→kp q p=true→kp q (p++[st])=true:=by
 intro t
 induction t with
 | pair a b iha ihb =>
  intro q p st uq u hq hn hp hk
  match q,hq with
  | [],hq=>simp only [B2,Option.some.injEq] at hq; subst hq; exact b6X hn hp
  | .i9 0::q,hq =>
   match p,hp,hk with
   | [],hp,_ =>
    cases st with
    | i9 m=>cases m with
     | zero=>simp [kp]
     | succ m=>simp [kp]
    | idx i=>simp [B2] at hp
   | .i9 0::p,hp,hk =>
    simp only [kp,if_true,List.cons_append] at hk ⊢
    exact iha hq hn hp hk
   | .i9 (m+1)::p,_,_=>simp [kp]
   | .idx i::p,hp,_=>simp [B2] at hp
  | .i9 (n+1)::q,hq =>
   match p,hp,hk with
   | [],hp,_ =>
    cases st with
    | i9 m=>simp only [List.nil_append,kp]; split<;>simp
    | idx i=>simp [B2] at hp
   | .i9 0::p,_,_=>simp [kp]
   | .i9 (m+1)::p,hp,hk =>
    have:=ihb (q:=.i9 n::q) (p:=.i9 m::p) hq hn hp (by
     simp only [kp,Nat.add_right_cancel_iff] at hk ⊢; exact hk)
    simp only [List.cons_append,kp,Nat.add_right_cancel_iff] at this ⊢; exact this
   | .idx i::p,hp,_=>simp [B2] at hp
  | .idx i::q,hq=>simp [B2] at hq
 | arr n t ih =>
  intro q p st uq u hq hn hp hk
  match q,hq with
  | [],hq=>simp only [B2,Option.some.injEq] at hq; subst hq; cases hn
  | .i9 i::q,hq=>simp [B2] at hq
  | .idx i::q,hq =>
   match p,hp,hk with
   | [],hp,_ =>
    cases st with
    | i9 m=>simp [B2] at hp
    | idx k=>simp [kp]
   | .i9 m::p,hp,_=>simp [B2] at hp
   | .idx k::p,hp,hk =>
    simp only [List.cons_append,kp] at hk ⊢
    exact ih hq hn hp hk
 | d0 o t ih =>
  intro q p st uq u hq hn hp hk
  cases o with
  | false =>
   match q,hq with
   | [],hq=>simp only [B2,Option.some.injEq] at hq; subst hq; cases hn
   | .i9 i::q,hq=>simp [B2] at hq
   | .idx i::q,hq=>simp [B2] at hq
  | true =>
   match q,hq with
   | [],hq=>simp only [B2,Option.some.injEq] at hq; subst hq; cases hn
   | .i9 i::q,hq=>simp [B2] at hq
   | .idx i::q,hq =>
    match p,hp,hk with
    | [],hp,_ =>
     cases st with
     | i9 m=>simp [B2] at hp
     | idx k=>simp [kp]
    | .i9 m::p,hp,_=>simp [B2] at hp
    | .idx k::p,hp,hk =>
     simp only [List.cons_append,kp] at hk ⊢
     exact ih hq hn hp hk
 | _ =>
  intro q p st uq u hq hn hp hk
  exfalso
  cases p with
  | nil=>cases st<;>simp [B2] at hp
  | cons s p=>cases s<;>simp [B2] at hp

theorem U2:∀ {u t:Ty},u.U3=true→u.sh=t.sh→t=u:=by
 intro u
 induction u with
 | pair a b iha ihb =>
  intro t hn h
  simp only [Ty.U3,Bool.and_eq_true] at hn
  cases t<;>simp only [Ty.sh,Ty.pair.injEq,reduceCtorEq] at h
  rw [iha hn.1 h.1,ihb hn.2 h.2]
 | arr n t ih=>intro _ hn; cases hn
 | d0 o t ih=>intro _ hn; cases hn
 | fn f=>intro _ hn; cases hn
 | map o k v=>intro _ hn; cases hn
 | box o g t ih=>intro _ hn; cases hn
 | hole t ih=>intro _ hn; cases hn
 | r7 t ih=>intro _ hn; cases hn
 | int k=>intro t hn h; cases t<;>simp only [Ty.sh,reduceCtorEq] at h; exact h.symm
 | bool=>intro t hn h; cases t<;>simp only [Ty.sh,reduceCtorEq] at h; rfl
 | str=>intro t hn h; cases t<;>simp only [Ty.sh,reduceCtorEq] at h; rfl
 | unit=>intro t hn h; cases t<;>simp only [Ty.sh,reduceCtorEq] at h; rfl

theorem a02:∀ {t:Ty} {x:t.den} {q:List Step} {v:Ty} {y:v.den} {r:Sigma Ty.den},v.U3=true→m0 t x q v y=some r→r.1=t:=by
 intro t
 induction t with
 | pair a b iha ihb =>
  intro x q v y r hn h
  match q,h with
  | [],h =>
   simp only [m0] at h
   split at h
   ·rename_i hs; cases h; exact (U2 hn hs).symm
   ·cases h
  | .i9 0::q,h =>
   simp only [m0] at h
   split at h
   ·rename_i t' z hz; cases h; have:t'=a:=iha hn hz; subst this; rfl
   ·cases h
  | .i9 (n+1)::q,h =>
   simp only [m0] at h
   split at h
   ·rename_i t' z hz; cases h; have:t'=b:=ihb hn hz; subst this; rfl
   ·cases h
  | .idx i::q,h=>simp [m0] at h
 | arr n t ih =>
  intro x q v y r hn h
  match q,h with
  | [],h =>
   simp only [m0] at h
   split at h
   ·rename_i hs; cases h; exact (U2 hn hs).symm
   ·cases h
  | .i9 i::q,h=>simp [m0] at h
  | .idx i::q,h =>
   simp only [m0] at h
   split at h
   ·split at h
    ·cases h; rfl
    ·cases h
   ·cases h
 | d0 o t ih =>
  intro x q v y r hn h
  match q,h with
  | [],h =>
   have h:(if v.sh=(Ty.d0 o t).sh then some (⟨v,y⟩:Sigma Ty.den) else none)=some r:=by cases o<;>exact h
   split at h
   ·rename_i hs; cases h; exact (U2 hn hs).symm
   ·cases h
  | .i9 i::q,h=>cases o<;>simp [m0] at h
  | .idx i::q,h =>
   cases o with
   | false=>simp [m0] at h
   | true =>
    simp only [m0] at h
    split at h
    ·split at h
     ·cases h; rfl
     ·cases h
    ·cases h
 | _ =>
  intro x q v y r hn h
  match q,h with
  | [],h =>
   simp only [m0] at h
   split at h
   ·rename_i hs; cases h; exact (U2 hn hs).symm
   ·cases h
  | .i9 i::q,h=>simp [m0] at h
  | .idx i::q,h=>simp [m0] at h

theorem b5J:∀ {t:Ty} {x x':t.den} {q p:List Step} {v:Ty} {y:v.den} {u:Ty} {z z':List u.den},v.U3=true→m0 t x q v y=some ⟨t,x'⟩→i6 t x p=some ⟨.d0 true u,z⟩→i6 t x' p=some ⟨.d0 true u,z'⟩→z.length=z'.length:=by
 intro t
 induction t with
 | pair a b iha ihb =>
  intro x x' q p v y u z z' hn hs h h'
  match q,hs with
  | [],hs =>
   exfalso
   simp only [m0] at hs
   split at hs
   ·rename_i hsh; have e:=U2 hn hsh; have:=b5D hn (e▸a0y h); cases this
   ·cases hs
  | .i9 0::q,hs =>
   simp only [m0] at hs
   split at hs
   ·rename_i t' w hw
    have et:t'=a:=a02 hn hw
    subst et
    cases hs
    match p,h,h' with
    | [],h,_=>simp [i6] at h
    | .i9 0::p,h,h'=>exact iha hn hw h h'
    | .i9 (m+1)::p,h,h' =>
     have:i6 b x.2 (.i9 m::p)=some ⟨.d0 true u,z⟩:=h
     have h2:i6 b x.2 (.i9 m::p)=some ⟨.d0 true u,z'⟩:=h'
     rw [this] at h2; cases h2; rfl
    | .idx i::p,h,_=>simp [i6] at h
   ·cases hs
  | .i9 (n+1)::q,hs =>
   simp only [m0] at hs
   split at hs
   ·rename_i t' w hw
    have et:t'=b:=a02 hn hw
    subst et
    cases hs
    match p,h,h' with
    | [],h,_=>simp [i6] at h
    | .i9 0::p,h,h' =>
     have:i6 a x.1 p=some ⟨.d0 true u,z⟩:=h
     have h2:i6 a x.1 p=some ⟨.d0 true u,z'⟩:=h'
     rw [this] at h2; cases h2; rfl
    | .i9 (m+1)::p,h,h'=>exact ihb (p:=.i9 m::p) hn hw h h'
    | .idx i::p,h,_=>simp [i6] at h
   ·cases hs
  | .idx i::q,hs=>simp [m0] at hs
 | arr n t ih =>
  intro x x' q p v y u z z' hn hs h h'
  match q,hs with
  | [],hs =>
   exfalso
   simp only [m0] at hs
   split at hs
   ·rename_i hsh; have e:=U2 hn hsh; rw [← e] at hn; cases hn
   ·cases hs
  | .i9 i::q,hs=>simp [m0] at hs
  | .idx i::q,hs =>
   simp only [m0] at hs
   split at hs
   ·rename_i t' w hw
    have et:t'=t:=a02 hn hw
    subst et
    rw [dif_pos rfl] at hs
    cases hs
    match p,h,h' with
    | [],h,_=>simp [i6] at h
    | .i9 m::p,h,_=>simp [i6] at h
    | .idx k::p,h,h' =>
     have h:i6 t' (List.getD x k.toNat t'.n6) p=some ⟨.d0 true u,z⟩:=h
     have h':i6 t' (List.getD (List.set x i.toNat w) k.toNat t'.n6) p=some ⟨.d0 true u,z'⟩:=h'
     rw [List.getD_eq_getElem?_getD,List.getElem?_set] at h'
     split at h'
     ·rename_i hik
      split at h'
      ·rw [← hik] at h; exact ih hn hw h h'
      ·rename_i hlt
       rw [List.getD_eq_getElem?_getD,List.getElem?_eq_none (by omega)] at h
       rw [h] at h'; cases h'; rfl
     ·rw [← List.getD_eq_getElem?_getD] at h'
      rw [h] at h'; cases h'; rfl
   ·cases hs
 | d0 o t ih =>
  intro x x' q p v y u z z' hn hs h h'
  match q,hs with
  | [],hs =>
   exfalso
   have hs:(if v.sh=(Ty.d0 o t).sh then some (⟨v,y⟩:Sigma Ty.den) else none)=some ⟨.d0 o t,x'⟩:=by cases o<;>exact hs
   split at hs
   ·rename_i hsh; have e:=U2 hn hsh; rw [← e] at hn; cases hn
   ·cases hs
  | .i9 i::q,hs=>cases o<;>simp [m0] at hs
  | .idx i::q,hs =>
   cases o with
   | false=>simp [m0] at hs
   | true =>
    simp only [m0] at hs
    split at hs
    ·rename_i t' w hw
     have et:t'=t:=a02 hn hw
     subst et
     rw [dif_pos rfl] at hs
     cases hs
     match p,h,h' with
     | [],h,h' =>
      simp only [i6,Option.some.injEq] at h h'
      cases h
      cases h'
      rw [List.length_set]
     | .i9 m::p,h,_=>simp [i6] at h
     | .idx k::p,h,h' =>
      have h:i6 t' (List.getD x k.toNat t'.n6) p=some ⟨.d0 true u,z⟩:=h
      have h':i6 t' (List.getD (List.set x i.toNat w) k.toNat t'.n6) p=some ⟨.d0 true u,z'⟩:=h'
      rw [List.getD_eq_getElem?_getD,List.getElem?_set] at h'
      split at h'
      ·rename_i hik
       split at h'
       ·rw [← hik] at h; exact ih hn hw h h'
       ·rename_i hlt
        rw [List.getD_eq_getElem?_getD,List.getElem?_eq_none (by omega)] at h
        rw [h] at h'; cases h'; rfl
      ·rw [← List.getD_eq_getElem?_getD] at h'
       rw [h] at h'; cases h'; rfl
    ·cases hs
 | _ =>
  intro x x' q p v y u z z' hn hs h h'
  exfalso
  match p,h with
  | [],h=>simp [i6] at h
  | .i9 i::p,h=>simp [i6] at h
  | .idx i::p,h=>simp [i6] at h
section
variable {E:Env} {ops:Array Oper} {s t:St}

theorem a8f {o:Oper} (hp:M7 o s=true) {p:Prop} {s1:St} (h:q8 E ops o s=some (p,s1)) :
  ∃ (T:TypeId) (a x:Operand) (j:Nat) (q:List Step) (v:Ty) (z:v.den) (e:f9) (r:Sigma Ty.den),o.op=.store T a x∧s.ev a=.ptr j q∧s.ev x=.val v z∧v.U3=true∧look j s.hp=some e∧m0 e.ty e.x q v z=some r∧(∃ u y,i6 e.ty e.x q=some ⟨u,y⟩) ∧
   s1=((s.kill j e.kd q).o7 j (e.w4 r)).put o.dst (.raw undef) ∧
   ∀ t:St,t.ev a=s.ev a→t.ev x=s.ev x→look j t.hp=some e→q8 E ops o t=some (p,((t.kill j e.kd q).o7 j (e.w4 r)).put o.dst (.raw undef)):=by
 unfold M7 at hp
 split at hp
 ·rename_i T a x hg ho
  split at hp
  ·rename_i j q v z ha hx
   have hr:∀ t,q8 E ops o t=F7 E o t:=fun t=>by unfold q8; rw [hg]
   rw [hr] at h
   have hop:∀ t,l4 E o t=(match t.ev a with|.ptr i p=>D5 E T i p (t.ev x) t|_=>.fail "store"):=fun t=>by unfold l4; rw [ho]; rfl
   have hrun:∀ t,F7 E o t=(match x3 E.nt o.dst with|false=>none|true=>match (l4 E o t).get with|none=>none|some (p,v,s')=>some (p,s'.put o.dst v)):=fun t=>by unfold F7; rw [ho]; rfl
   rw [hrun] at h
   split at h
   ·cases h
   ·rename_i hd
    rw [hop,ha] at h
    have hst:∀ t:St,t.ev a=s.ev a→t.ev x=s.ev x→l4 E o t=D5 E T j q (.val v z) t:=fun t h1 h2=>by rw [hop,h1,h2,ha,hx]
    simp only at h
    rw [hx] at h
    cases hob:look j s.hp with
    | none =>
     have:D5 E T j q (.val v z) s=.fail "store: object":=by unfold D5 St.obj; rw [hob]
     rw [this] at h; cases h
    | some e =>
     cases hgp:i6 e.ty e.x q with
     | none =>
      have:D5 E T j q (.val v z) s=.fail "store: path":=by unfold D5 St.obj; rw [hob]; simp only [hgp]
      rw [this] at h; cases h
     | some uy =>
      obtain ⟨u,y⟩:=uy
      cases hc:D7 E T u with
      | false =>
       have:D5 E T j q (.val v z) s=.fail "store: type":=by unfold D5 St.obj; rw [hob]; simp only [hgp,hc]
       rw [this] at h; cases h
      | true =>
       have hsA:∀ t:St,look j t.hp=some e→D5 E T j q (.val v z) t=(match m0 e.ty e.x q v z with
         | some r=>.ok (.raw undef) ((t.kill j e.kd q).o7 j (e.w4 r))
         | none=>.fail "store: value"):=fun t ht=>by
        unfold D5 St.obj; rw [ht]; simp only [hgp,hc,AV.T8,AV.L6,St.p7]
        rw [b4M hp]
        cases m0 e.ty e.x q v z with
        | none=>rfl
        | some r=>rfl
       rw [hsA s hob] at h
       cases hset:m0 e.ty e.x q v z with
       | none=>rw [hset] at h; cases h
       | some r =>
        rw [hset] at h
        simp only [OR.get,Option.some.injEq,Prod.mk.injEq] at h
        obtain ⟨rfl,rfl⟩:=h
        refine ⟨T,a,x,j,q,v,z,e,r,ho,ha,hx,hp,hob,hset,⟨u,y,hgp⟩,rfl,fun t h1 h2 h3=>?_⟩
        rw [hr,hrun,hd]
        simp only
        rw [hst t h1 h2,hsA t h3,hset]
        rfl
  ·cases hp
 ·cases hp

theorem b4c {T:List Nat} {f:AV→AV} (hf:Trim T f) {u v:AV} (h:f u=v) (hv:v.ref=true∨∃ t z,v=.val t z):u=v:=by
 cases u with
 | cons a b=>rw [hf.cons] at h; subst h; rcases hv with hv|⟨_,_,hv⟩<;>cases hv
 | F0 l=>rw [hf.F0] at h; subst h; rcases hv with hv|⟨_,_,hv⟩<;>cases hv
 | y7 g l=>rw [hf.y7] at h; subst h; rcases hv with hv|⟨_,_,hv⟩<;>cases hv
 | bx l=>rw [hf.bx] at h; subst h; rcases hv with hv|⟨_,_,hv⟩<;>cases hv
 | rc g l=>rw [hf.rc] at h; subst h; rcases hv with hv|⟨_,_,hv⟩<;>cases hv
 | ptr i p=>rcases hf.atom _ (rfl:(AV.ptr i p).ref=true) with e|e<;>rw [e] at h<;>first|exact h|(subst h; rcases hv with hv|⟨_,_,hv⟩<;>cases hv)
 | at_ i p=>rcases hf.atom _ (rfl:(AV.at_ i p).ref=true) with e|e<;>rw [e] at h<;>first|exact h|(subst h; rcases hv with hv|⟨_,_,hv⟩<;>cases hv)
 | sub i p x y=>rcases hf.atom _ (rfl:(AV.sub i p x y).ref=true) with e|e<;>rw [e] at h<;>first|exact h|(subst h; rcases hv with hv|⟨_,_,hv⟩<;>cases hv)
 | _=>rw [hf.plain _ rfl] at h; exact h
theorem b6K:∀ {t:Ty} {x:t.den} {q:List Step} {v:Ty} {y:v.den} {r:Sigma Ty.den},v.U3=true→m0 t x q v y=some r→B2 t q=some v:=by
 intro t
 induction t with
 | pair a b iha ihb =>
  intro x q v y r hn h
  match q,h with
  | [],h =>
   simp only [m0] at h
   split at h
   ·rename_i hs; rw [U2 hn hs]; simp [B2]
   ·cases h
  | .i9 0::q,h =>
   simp only [m0] at h
   split at h
   ·rename_i t' z hz; exact iha hn hz
   ·cases h
  | .i9 (n+1)::q,h =>
   simp only [m0] at h
   split at h
   ·rename_i t' z hz; exact ihb hn hz
   ·cases h
  | .idx i::q,h=>simp [m0] at h
 | arr n t ih =>
  intro x q v y r hn h
  match q,h with
  | [],h =>
   simp only [m0] at h
   split at h
   ·rename_i hs; rw [U2 hn hs]; simp [B2]
   ·cases h
  | .i9 i::q,h=>simp [m0] at h
  | .idx i::q,h =>
   simp only [m0] at h
   split at h
   ·rename_i t' z hz; exact ih hn hz
   ·cases h
 | d0 o t ih =>
  intro x q v y r hn h
  match q,h with
  | [],h =>
   have h:(if v.sh=(Ty.d0 o t).sh then some (⟨v,y⟩:Sigma Ty.den) else none)=some r:=by cases o<;>exact h
   split at h
   ·rename_i hs; rw [U2 hn hs]; simp [B2]
   ·cases h
  | .i9 i::q,h=>cases o<;>simp [m0] at h
  | .idx i::q,h =>
   cases o with
   | false=>simp [m0] at h
   | true =>
    simp only [m0] at h
    split at h
    ·rename_i t' z hz; exact ih hn hz
    ·cases h
 | _ =>
  intro x q v y r hn h
  match q,h with
  | [],h =>
   simp only [m0] at h
   split at h
   ·rename_i hs; rw [U2 hn hs]; simp [B2]
   ·cases h
  | .i9 i::q,h=>simp [m0] at h
  | .idx i::q,h=>simp [m0] at h

theorem a8C {y:Oper} {s1:St} (hy:G7 y s1=true) {q:Prop} {s2:St} (h:q8 E ops y s1=some (q,s2)) :
  ∃ (ins:List Operand) (a:Operand) (d:Nat) (pp:List Step) (st:Step) (u:Ty) (z:u.den),(∀ m,Operand.tmp m∈ins→m∈looks ops y)∧a∈ins∧(s1.ev a=.at_ d pp∨s1.ev a=.ptr d pp)∧s1.part d pp=some ⟨u,z⟩∧s2=s1.put y.dst (.ptr d (pp++[st]))∧(∃ w,B2 u [st]=some w) ∧
   (∀ t:St,(∀ i∈ins,t.ev i=s1.ev i)→(∃ z':u.den,t.part d pp=some ⟨u,z'⟩∧∀ v (l l':List v.den),(⟨u,z⟩:Sigma Ty.den)=⟨.d0 true v,l⟩→(⟨u,z'⟩:Sigma Ty.den)=⟨.d0 true v,l'⟩→l'.length=l.length)→G7 y t=true∧∃ q',q8 E ops y t=some (q',t.put y.dst (.ptr d (pp++[st])))∧(q→q')) ∧
   (∀ i∈ins,s1.ev i=s1.ev a∨∃ k n,s1.ev i=.val (.int k) n):=by
 have hr:y.guard=none→∀ t,q8 E ops y t=F7 E y t:=fun hg t=>by unfold q8; rw [hg]
 unfold G7 at hy
 split at hy
 ·rename_i T a i hg ho
  split at hy
  ·rename_i d pp k n ha hi
   rw [hr hg] at h
   have hrun:∀ t,F7 E y t=(match x3 E.nt y.dst with|false=>none|true=>match (l4 E y t).get with|none=>none|some (p,v,s')=>some (p,s'.put y.dst v)):=fun t=>by unfold F7; rw [ho]; rfl
   have hop:∀ t:St,t.ev a=.at_ d pp→t.ev i=.val (.int k) n→l4 E y t=(match t.part d pp with
     | some ⟨.d0 true u,z⟩=>(match D7 E T (.d0 true u) with
      | true=>.B1 (0≤n∧n<List.length z) (.ptr d (pp++[.idx n])) t
      | false=>.fail "indexAddr: type")
     | _=>.fail "indexAddr: type"):=fun t h1 h2=>by unfold l4; rw [ho]; simp only [h1,h2]; rfl
   rw [hrun,hop s1 ha hi] at h
   split at h
   ·cases h
   ·rename_i hd
    split at h
    ·cases h
    ·rename_i p v s' hget
     split at hget
     ·rename_i u z hpt
      split at hget
      ·rename_i hc
       simp only [OR.get,Option.some.injEq,Prod.mk.injEq] at hget h
       obtain ⟨rfl,rfl,rfl⟩:=hget
       obtain ⟨rfl,rfl⟩:=h
       refine ⟨[a,i],a,d,pp,.idx n,.d0 true u,z,?_,by simp,.inl ha,hpt,rfl,⟨u,by simp [B2]⟩,?_,?_⟩
       ·intro m hm
        refine G5 ?_
        rw [ho]; simp [Op.operands] at hm ⊢; rcases hm with hm|hm<;>simp [← hm]
       ·rintro t hin ⟨z',hz',hlen⟩
        have h1:=(hin a (by simp)).trans ha
        have h2:=(hin i (by simp)).trans hi
        have hl:=hlen u z z' rfl rfl
        refine ⟨by unfold G7; rw [hg,ho]; simp only [h1,h2],(0≤n∧n<List.length z'),?_,fun hq=>by rw [hl]; exact hq⟩
        rw [hr hg,hrun,hd,hop t h1 h2,hz']
        simp only [hc,OR.get]
       ·intro o ho'
        simp at ho'
        rcases ho' with rfl|rfl
        ·exact .inl rfl
        ·exact .inr ⟨k,n,hi⟩
      ·cases hget
     ·cases hget
  ·cases hy
 ·rename_i T a n hg ho
  split at hy
  ·rename_i d pp ha
   rw [hr hg] at h
   have hrun:∀ t,F7 E y t=(match x3 E.nt y.dst with|false=>none|true=>match (l4 E y t).get with|none=>none|some (p,v,s')=>some (p,s'.put y.dst v)):=fun t=>by unfold F7; rw [ho]; rfl
   have hop:∀ t:St,t.ev a=.ptr d pp→l4 E y t=(match t.part d pp with
     | some ⟨u,z⟩=>(match D7 E T u,i6 u z [.i9 n] with
      | true,some _=>.ok (.ptr d (pp++[.i9 n])) t
      | _,_=>.fail "fieldAddr: type")
     | none=>.fail "fieldAddr: path"):=fun t h1=>by unfold l4; rw [ho]; simp only [h1]; rfl
   rw [hrun,hop s1 ha] at h
   split at h
   ·cases h
   ·rename_i hd
    split at h
    ·cases h
    ·rename_i p v s' hget
     split at hget
     ·rename_i u z hpt
      split at hget
      ·rename_i r hc hgf
       simp only [OR.get,Option.some.injEq,Prod.mk.injEq] at hget h
       obtain ⟨rfl,rfl,rfl⟩:=hget
       obtain ⟨rfl,rfl⟩:=h
       refine ⟨[a],a,d,pp,.i9 n,u,z,?_,by simp,.inr ha,hpt,rfl,⟨_,a0y hgf⟩,?_,?_⟩
       ·intro m hm
        refine G5 ?_
        rw [ho]; simp [Op.operands] at hm ⊢; simp [← hm]
       ·rintro t hin ⟨z',hz',_⟩
        have h1:=(hin a (by simp)).trans ha
        obtain ⟨w',hw'⟩:=a5v (a0y hgf) z'
        refine ⟨by unfold G7; rw [hg,ho]; simp only [h1],True,?_,fun _=>trivial⟩
        rw [hr hg,hrun,hd,hop t h1,hz']
        simp only [hc,hw',OR.get]
       ·intro o ho'
        simp at ho'
        subst ho'
        exact .inl rfl
      ·cases hget
     ·cases hget
  ·cases hy
 ·cases hy

theorem a6F {y:Oper} (hy:a3o y=true) (s:St):i7 E y s=[]:=by
 unfold a3o at hy
 split at hy
 ·rename_i ho; unfold i7; rw [ho]
 ·rename_i ho; unfold i7; rw [ho]
 ·cases hy

theorem b5d {y:Oper} (hy:G7 y s=true):a3o y=true:=by
 unfold G7 at hy
 unfold a3o
 split at hy
 ·rename_i hg ho; simp only
 ·rename_i hg ho; simp only
 ·cases hy

theorem a4k {o:Oper} {T:TypeId} {a x:Operand} (ho:o.op=.store T a x) (v:AV):x7 o v=v:=by
 rcases a0g o with e|⟨_,x,j,hop,_⟩
 ·exact e v
 ·rw [ho] at hop; cases hop

theorem b7t {x y:Oper} (hym:y∈ops.toList) (hi:indep ops x y=true) (hu:uniq s.fr) {p q:Prop} {s1 s2:St} (h1:q8 E ops x s=some (p,s1)) (h2:q8 E ops y s1=some (q,s2)) (hx:M7 x s=true) (hy:G7 y s1=true) :
  ∃ q' s1' s2',q8 E ops y s=some (q',s1')∧(q→q')∧G7 y s=true∧q8 E ops x s1'=some (p,s2')∧uniq s1'.fr∧uniq s2'.fr∧C1 s2' s2∧i7 E y s=i7 E y s1∧i7 E x s1'=i7 E x s ∧
   (∀ m∈looks ops x,x7 x (s1'.get m)=x7 x (s.get m))∧∀ (z:Oper) m,∀ i∈i7 E x s,(x7 z (s1'.get m)).e8 i=true→(x7 z (s.get m)).e8 i=true∨m∈a70 ops:=by
 obtain ⟨ax,ay,hmod⟩:=a0O hi
 have hdd:∀ d,x.dst=some d→y.dst=some d→False:=fun d e1 e2=>hmod (by rw [e1,e2])
 obtain ⟨T,xa,xx,j,qq,v,z,e,r,ho,hxa,hxx,hnv,hob,hset,⟨u0,y0,hgq⟩,rfl,hback⟩:=a8f hx h1
 obtain ⟨ins,a,d,pp,st,u,zz,hins,hain,hva,hpt,rfl,⟨w,hst⟩,hfwd,hkind⟩:=a8C hy h2
 -- slots in the store's state
 have hfr:∀ n,look n (((s.kill j e.kd qq).o7 j (e.w4 r)).put x.dst (.raw undef)).fr=if x.dst=some n then some (.raw undef) else (look n s.fr).map (AV.kill j e.kd qq):=fun n=>by
  rw [B5]; split
  ·rfl
  ·exact D3 n _ _
 have hget:∀ m,x.dst≠some m→(((s.kill j e.kd qq).o7 j (e.w4 r)).put x.dst (.raw undef)).get m=(s.get m).kill j e.kd qq:=fun m hm=>by
  simp only [St.get,hfr,if_neg hm]
  cases look m s.fr<;>rfl
 have hev:∀ o∈ins,(((s.kill j e.kd qq).o7 j (e.w4 r)).put x.dst (.raw undef)).ev o=(s.ev o).kill j e.kd qq:=by
  intro o hoi
  cases o with
  | tmp m =>
   have hg:=hget m (fun e=>ax m e (hins m hoi))
   rw [a1x,a1x,hg]
   unfold gq
   cases Nat.beq m D9<;>rfl
  | const c =>
   show ofConst c=(ofConst c).kill j e.kd qq
   exact (a5L (Y9 c j)).symm
  | global g=>rfl
  | func f=>rfl
 have hback2:∀ o∈ins,s.ev o=(((s.kill j e.kd qq).o7 j (e.w4 r)).put x.dst (.raw undef)).ev o:=by
  intro o hoi
  refine b4c (Trim.kill j e.kd qq) (hev o hoi).symm ?_
  rcases hkind o hoi with h9|⟨k,n,h9⟩
  ·rw [h9]
   rcases hva with h9|h9<;>rw [h9]<;>exact .inl rfl
  ·rw [h9]; exact .inr ⟨_,_,rfl⟩
 -- the part in the store's state
 have hpart:∃ z':u.den,s.part d pp=some ⟨u,z'⟩∧∀ v (l l':List v.den),(⟨u,zz⟩:Sigma Ty.den)=⟨.d0 true v,l⟩→(⟨u,z'⟩:Sigma Ty.den)=⟨.d0 true v,l'⟩→l'.length=l.length:=by
  by_cases hdj:d=j
  ·subst hdj
   have hobj:look d (((s.kill d e.kd qq).o7 d (e.w4 r)).put x.dst (.raw undef)).hp=some (e.w4 r):=by rw [E5]; simp [St.o7,l7]
   unfold St.part St.obj at hpt ⊢
   rw [hobj] at hpt
   rw [hob]
   simp only at hpt ⊢
   obtain ⟨r1,r2⟩:=r
   have hr1:r1=e.ty:=a02 hnv hset
   have key:∀ (t:Ty) (x0 x1:t.den),m0 t x0 qq v z=some ⟨t,x1⟩→i6 t x1 pp=some ⟨u,zz⟩→∃ z':u.den,i6 t x0 pp=some ⟨u,z'⟩∧∀ v (l l':List v.den),(⟨u,zz⟩:Sigma Ty.den)=⟨.d0 true v,l⟩→(⟨u,z'⟩:Sigma Ty.den)=⟨.d0 true v,l'⟩→l'.length=l.length:=by
    intro t x0 x1 hs hg
    obtain ⟨z',hz'⟩:=a5v (a0y hg) x0
    refine ⟨z',hz',fun v l l' e1 e2=>?_⟩
    cases e1; cases e2
    exact b5J hnv hs hz' hg
   cases e with
   | var t0 x0=>cases hr1; exact key _ x0 r2 hset hpt
   | own t0 x0=>cases hr1; exact key _ x0 r2 hset hpt
   | E8=>exact ⟨zz,hpt,fun v l l' e1 e2=>by rw [e1] at e2; cases e2; rfl⟩
  ·refine ⟨zz,?_,fun v l l' e1 e2=>by rw [e1] at e2; cases e2; rfl⟩
   rw [← hpt]
   unfold St.part St.obj
   rw [E5]
   simp only [St.o7,l7,if_neg hdj]
   rfl
 obtain ⟨hadr,q',hrun,hqq⟩:=hfwd s hback2 hpart
 have hu1:=y6 hu hrun
 have hadO:=b5d hy
 -- the new address stays behind the store
 have hkp:AV.kill j e.kd qq (.ptr d (pp++[st]))=.ptr d (pp++[st]):=by
  by_cases hdj:d=j
  ·subst hdj
   have hsurv:kp qq pp=true:=by
    have h9:=hev a hain
    rw [hback2 a hain] at h9
    rcases hva with hv|hv
    ·rw [hv] at h9
     cases pp with
     | nil=>exact b7I qq
     | cons s0 pp =>
      simp only [AV.kill,AV.map,AV.a0b,AV.e8,Nat.beq_refl] at h9
      split at h9
      ·rename_i hk; rw [Bool.and_eq_true] at hk; exact hk.2
      ·cases h9
    ·rw [hv] at h9
     simp only [AV.kill,AV.map,AV.a0b,AV.e8,Nat.beq_refl] at h9
     split at h9
     ·assumption
     ·cases h9
   obtain ⟨z',hz',_⟩:=hpart
   have hpt2:i6 e.ty e.x pp=some ⟨u,z'⟩:=by
    unfold St.part St.obj at hz'; rw [hob] at hz'; exact hz'
   have htp:B2 e.ty (pp++[st])=some w:=by
    have:∀ {t:Ty} {p:List Step} {u:Ty},B2 t p=some u→B2 t (p++[st])=B2 u [st]:=by
     intro t
     induction t with
     | pair a b iha ihb =>
      intro p u h
      match p,h with
      | [],h=>simp only [B2,Option.some.injEq] at h; subst h; rfl
      | .i9 0::p,h=>exact iha h
      | .i9 (n+1)::p,h=>exact ihb (p:=.i9 n::p) h
      | .idx i::p,h=>simp [B2] at h
     | arr n t ih =>
      intro p u h
      match p,h with
      | [],h=>simp only [B2,Option.some.injEq] at h; subst h; rfl
      | .i9 i::p,h=>simp [B2] at h
      | .idx i::p,h=>exact ih h
     | d0 o t ih =>
      intro p u h
      match p,h with
      | [],h=>cases o<;>(simp only [B2,Option.some.injEq] at h; subst h; rfl)
      | .i9 i::p,h=>cases o<;>simp [B2] at h
      | .idx i::p,h =>
       cases o with
       | true=>exact ih h
       | false=>simp [B2] at h
     | _ =>
      intro p u h
      match p,h with
      | [],h=>simp only [B2,Option.some.injEq] at h; subst h; rfl
      | .i9 i::p,h=>simp [B2] at h
      | .idx i::p,h=>simp [B2] at h
    rw [this (a0y hpt2)]; exact hst
   have:=b64 (b6K hnv hset) hnv htp hsurv
   simp only [AV.kill,AV.map,AV.a0b,AV.e8,Nat.beq_refl,this]
  ·exact a5L (by
    simp only [AV.e8]
    cases hb9:Nat.beq j d with
    | false=>rfl
    | true=>exact absurd (Nat.eq_of_beq_eq_true hb9).symm hdj)
 have hevx:∀ o,(∀ m,o=.tmp m→m∈looks ops x)→(s.put y.dst (.ptr d (pp++[st]))).ev o=s.ev o:=by
  intro o hm
  cases o with
  | tmp m =>
   refine J1 (t:=s.put y.dst _) ?_
   simp only [St.get,B5]
   rw [if_neg (fun e=>ay m e (hm m rfl))]
  | _=>rfl
 have hlx:∀ o,o=xa∨o=xx→∀ m,o=.tmp m→m∈looks ops x:=by
  intro o hoo m hm
  refine G5 ?_
  rw [ho]; simp [Op.operands]
  rcases hoo with rfl|rfl<;>simp [hm]
 have hb:=hback (s.put y.dst (.ptr d (pp++[st]))) (hevx xa (hlx xa (.inl rfl))) (hevx xx (hlx xx (.inr rfl))) (by rw [E5]; exact hob)
 have hgx:∀ m∈looks ops x,(s.put y.dst (.ptr d (pp++[st]))).get m=s.get m:=fun m hm=>by
  simp only [St.get,B5]
  rw [if_neg (fun e=>ay m e hm)]
 refine ⟨q',_,_,hrun,hqq,hadr,hb,hu1,y6 hu1 hb,⟨fun n=>?_,fun i=>?_⟩,?_,?_,fun m hm=>by rw [hgx m hm],?_⟩
 ·rw [B5,B5,hfr]
  have e2:look n ((((s.put y.dst (.ptr d (pp++[st]))).kill j e.kd qq).o7 j (e.w4 r))).fr=(look n (s.put y.dst (.ptr d (pp++[st]))).fr).map (AV.kill j e.kd qq):=D3 n _ _
  rw [e2,B5]
  by_cases c1:x.dst=some n
  ·rw [if_pos c1,if_neg (fun c2=>hdd n c1 c2),if_pos c1]
  ·rw [if_neg c1,if_neg c1]
   by_cases c2:y.dst=some n
   ·rw [if_pos c2,if_pos c2,Option.map_some,hkp]
   ·rw [if_neg c2,if_neg c2]
 ·rw [E5,E5,E5]
  simp only [St.o7,l7,St.kill,E5]
 ·rw [a6F hadO,a6F hadO]
 ·exact a1J (fun m hm=>by rw [hgx m hm])
 ·intro zo m i hi hm
  by_cases c2:y.dst=some m
  ·refine .inr (List.mem_filterMap.2 ⟨y,hym,?_⟩)
   rw [hadO]; exact c2
  ·have:(s.put y.dst (.ptr d (pp++[st]))).get m=s.get m:=by
    simp only [St.get,B5]; rw [if_neg c2]
   rw [this] at hm
   exact .inl hm
end

section
variable {E:Env} {ops:Array Oper} {s t:St}
theorem a4m {y:Oper} {j:Nat} {kd:Bool×Ty} {q:List Step} (h:a0f y s=some (j,kd,q)):M7 y s=true∧∃ T a x e,y.op=.store T a x∧s.ev a=.ptr j q∧look j s.hp=some e∧e.kd=kd:=by
 unfold a0f at h
 split at h
 ·rename_i T a x hp ho
  split at h
  ·rename_i j' q' ha
   cases hl:look j' s.hp with
   | none=>rw [hl] at h; cases h
   | some e =>
    rw [hl] at h
    simp only [Option.map_some,Option.some.injEq,Prod.mk.injEq] at h
    obtain ⟨rfl,rfl,rfl⟩:=h
    exact ⟨hp,T,a,x,e,ho,ha,hl,rfl⟩
  ·cases h
 ·cases h

theorem b1R {y:Oper} (hp:M7 y s=true) {T a x} (ho:y.op=.store T a x) {j:Nat} {q:List Step} (ha:s.ev a=.ptr j q) {e:f9} (he:look j s.hp=some e):a0f y s=some (j,e.kd,q):=by
 unfold a0f
 rw [hp,ho]
 simp only [ha,he,Option.map_some]

theorem b4H {j:Nat} {kd:Bool×Ty} {q:List Step} {s:St} {m:Nat} (h:a2G j kd q (s.ev (.tmp m))=true):s.get m=s.ev (.tmp m) :=
 S4 rfl (fun e=>by rw [e] at h; cases h)

theorem a0N {j:Nat} {kd:Bool×Ty} {q:List Step} {v:AV} (h:a2G j kd q v=true):v.kill j kd q=v:=by
 cases v<;>simp only [a2G] at h<;>try (cases h; done)
 ·rename_i t x; rfl
 ·rename_i i p
  simp only [AV.kill,AV.map,AV.a0b,AV.e8]
  cases hb:Nat.beq j i with
  | false=>rfl
  | true=>rw [hb] at h; simp only [Bool.not_true,Bool.false_or] at h; simp only [h]
 ·rename_i i p
  rcases (Trim.kill j kd q).atom (.at_ i p) rfl with e|e
  ·exact e
  ·have e9:AV.a0b j kd q (.at_ i p)=.any:=e
   rw [e9] at h
   show AV.a0b j kd q (.at_ i p)=.at_ i p
   cases hb:Nat.beq j i with
   | false=>simp only [AV.a0b,AV.e8,hb]
   | true=>rw [hb] at h; cases h

theorem a6e {o:Oper} (hg:o.guard=none) {m:Nat} (h:m∈looks ops o):Operand.tmp m∈o.op.operands.toList:=by
 unfold looks at h
 rw [hg] at h
 simp only [List.append_nil] at h
 obtain ⟨x,hx,hm⟩:=List.mem_filterMap.1 h
 cases x<;>simp at hm
 rw [← hm]; exact hx

theorem b17 {i:Nat} {pp:List Step} {u:Ty} {z:u.den} (hh:N5 t i=N5 s i) (h:s.part i pp=some ⟨u,z⟩):∃ z':u.den,t.part i pp=some ⟨u,z'⟩:=by
 unfold St.part St.obj at h ⊢
 unfold N5 at hh
 cases hl:look i s.hp with
 | none=>rw [hl] at h; cases h
 | some e =>
  rw [hl] at h hh
  cases hl2:look i t.hp with
  | none=>rw [hl2] at hh; cases hh
  | some e' =>
   rw [hl2] at hh
   simp only [Option.map_some,Option.some.injEq,f9.kd,Prod.mk.injEq] at hh
   have h9:=a0y h
   rw [← hh.2] at h9
   exact a5v h9 e'.x

theorem b5O {o:Oper} {j:Nat} {kd:Bool×Ty} {q:List Step} (hk:a1O o s j kd q=true) {p:Prop} {s1:St} (h:q8 E ops o s=some (p,s1)) :
  ∃ v:AV,s1=s.put o.dst v∧v.kill j kd q=v∧(∀ m∈looks ops o,(s.get m).kill j kd q=s.get m)∧(∀ z,x7 o z=z)∧(∀ t,i7 E o t=[]) ∧
   ∀ t:St,(∀ m∈looks ops o,t.get m=s.get m)→(∀ i,N5 t i=N5 s i)→q8 E ops o t=some (p,t.put o.dst v):=by
 have hvw:∀ z,(∀ T a x,o.op≠.store T a x)→(∀ x j,o.op≠.extract x j)→x7 o z=z:=by
  intro z _ he
  rcases a0g o with e|⟨_,x,j,hop,_⟩
  ·exact e z
  ·exact absurd hop (he x j)
 unfold a1O at hk
 split at hk
 ·rename_i a hg ho
  have hr:∀ t,q8 E ops o t=(match x3 E.nt o.dst with|false=>none|true=>some (True,t.put o.dst (t.ev a))):=fun t=>by unfold q8 F7 l4; rw [hg,ho]; rfl
  have hkv:=a0N hk
  have hin:∀ m∈looks ops o,a=.tmp m:=fun m hm=>by
   have:=a6e hg hm
   rw [ho] at this
   simpa [Op.operands,eq_comm] using this
  rw [hr] at h
  split at h
  ·cases h
  ·rename_i hd
   simp only [Option.some.injEq,Prod.mk.injEq] at h
   obtain ⟨rfl,rfl⟩:=h
   refine ⟨s.ev a,rfl,hkv,fun m hm=>?_,fun z=>hvw z (by rw [ho]; intros; nofun) (by rw [ho]; intros; nofun),fun t=>by unfold i7; rw [ho],fun t ht _=>?_⟩
   ·have:=hin m hm; subst this; rw [b4H hk]; exact hkv
   ·rw [hr,hd]
    have:t.ev a=s.ev a:=by
     cases a with
     | tmp m=>exact J1 (ht m (G5 (by rw [ho]; simp [Op.operands])))
     | _=>rfl
    rw [this]
 ·rename_i T a n hg ho
  split at hk
  ·rename_i i pp ha
   rw [Bool.and_eq_true] at hk
   have hr:∀ t,q8 E ops o t=F7 E o t:=fun t=>by unfold q8; rw [hg]
   have hrun:∀ t,F7 E o t=(match x3 E.nt o.dst with|false=>none|true=>match (l4 E o t).get with|none=>none|some (p,v,s')=>some (p,s'.put o.dst v)):=fun t=>by unfold F7; rw [ho]; rfl
   have hop:∀ t:St,t.ev a=.ptr i pp→l4 E o t=(match t.part i pp with
     | some ⟨u,z⟩=>(match D7 E T u,i6 u z [.i9 n] with
      | true,some _=>.ok (.ptr i (pp++[.i9 n])) t
      | _,_=>.fail "fieldAddr: type")
     | none=>.fail "fieldAddr: path"):=fun t h1=>by unfold l4; rw [ho]; simp only [h1]; rfl
   have hin:∀ m∈looks ops o,a=.tmp m:=fun m hm=>by
    have:=a6e hg hm
    rw [ho] at this
    simpa [Op.operands,eq_comm] using this
   rw [hr,hrun,hop s ha] at h
   split at h
   ·cases h
   ·rename_i hd
    split at h
    ·cases h
    ·rename_i p v s' hget
     split at hget
     ·rename_i u z hpt
      split at hget
      ·rename_i r hc hgf
       simp only [OR.get,Option.some.injEq,Prod.mk.injEq] at hget h
       obtain ⟨rfl,rfl,rfl⟩:=hget
       obtain ⟨rfl,rfl⟩:=h
       refine ⟨_,rfl,a0N hk.2,fun m hm=>?_,fun z=>hvw z (by rw [ho]; intros; nofun) (by rw [ho]; intros; nofun),fun t=>by unfold i7; rw [ho],fun t ht hh=>?_⟩
       ·have:=hin m hm; subst this; rw [S4 ha nofun]; exact a0N hk.1
       ·have h1:t.ev a=.ptr i pp:=by
         rw [← ha]
         cases a with
         | tmp m=>exact J1 (ht m (G5 (by rw [ho]; simp [Op.operands])))
         | _=>rfl
        obtain ⟨z',hz'⟩:=b17 (hh i) hpt
        obtain ⟨w',hw'⟩:=a5v (a0y hgf) z'
        rw [hr,hrun,hd,hop t h1,hz']
        simp only [hc,hw',OR.get]
      ·cases hget
     ·cases hget
  ·cases hk
 ·rename_i T a hg ho
  split at hk
  ·rename_i i pp ha
   simp only [Bool.and_eq_true] at hk
   obtain ⟨⟨k1,k2⟩,k3⟩:=hk
   have hr:∀ t,q8 E ops o t=F7 E o t:=fun t=>by unfold q8; rw [hg]
   have hrun:∀ t,F7 E o t=(match x3 E.nt o.dst with|false=>none|true=>match (l4 E o t).get with|none=>none|some (p,v,s')=>some (p,s'.put o.dst v)):=fun t=>by unfold F7; rw [ho]; rfl
   have hop:∀ t:St,t.ev a=.ptr i pp→l4 E o t=(match t.part i pp with
     | some ⟨u,y⟩=>(match D7 E T u with
      | true=>(match u.shared with|true=>.ok (.val u y) t|false=>.ok (.at_ i pp) t)
      | false=>.fail "load: type")
     | none=>.fail "load: path"):=fun t h1=>by unfold l4; rw [ho]; simp only [h1]; rfl
   have hin:∀ m∈looks ops o,a=.tmp m:=fun m hm=>by
    have:=a6e hg hm
    rw [ho] at this
    simpa [Op.operands,eq_comm] using this
   rw [hr,hrun,hop s ha] at h
   split at h
   ·cases h
   ·rename_i hd
    split at h
    ·cases h
    ·rename_i p v s' hget
     split at hget
     ·rename_i u z hpt
      have hus:u.shared=false:=by
       split at k3
       ·rename_i k hk9
        split at k3
        ·rename_i u' hu'
         have:u'=u:=by
          unfold St.part St.obj at hpt
          unfold N5 at hk9
          cases hl:look i s.hp with
          | none=>rw [hl] at hpt; cases hpt
          | some e =>
           rw [hl] at hpt hk9
           simp only [Option.map_some,Option.some.injEq] at hk9
           subst hk9
           have h9:=a0y hpt
           have h8:B2 e.ty pp=some u':=hu'
           rw [h9] at h8; cases h8; rfl
         subst this
         simpa using k3
        ·cases k3
       ·cases k3
      split at hget
      ·rename_i hc
       rw [hus] at hget
       simp only [OR.get,Option.some.injEq,Prod.mk.injEq] at hget h
       obtain ⟨rfl,rfl,rfl⟩:=hget
       obtain ⟨rfl,rfl⟩:=h
       refine ⟨_,rfl,a0N k2,fun m hm=>?_,fun z=>hvw z (by rw [ho]; intros; nofun) (by rw [ho]; intros; nofun),fun t=>by unfold i7; rw [ho],fun t ht hh=>?_⟩
       ·have:=hin m hm; subst this; rw [S4 ha nofun]; exact a0N k1
       ·have h1:t.ev a=.ptr i pp:=by
         rw [← ha]
         cases a with
         | tmp m=>exact J1 (ht m (G5 (by rw [ho]; simp [Op.operands])))
         | _=>rfl
        obtain ⟨z',hz'⟩:=b17 (hh i) hpt
        rw [hr,hrun,hd,hop t h1,hz']
        simp only [hc,hus,OR.get]
      ·cases hget
     ·cases hget
  ·cases hk
 ·cases hk

theorem b7u {x y:Oper} (hi:indep ops x y=true) (hu:uniq s.fr) {p q:Prop} {s1 s2:St} (h1:q8 E ops x s=some (p,s1)) (h2:q8 E ops y s1=some (q,s2)) {j:Nat} {kd:Bool×Ty} {qq:List Step} (hs:a0f y s1=some (j,kd,qq)) (hk:a1O x s j kd qq=true) :
  ∃ s1' s2',q8 E ops y s=some (q,s1')∧q8 E ops x s1'=some (p,s2')∧uniq s1'.fr∧uniq s2'.fr∧C1 s2' s2∧i7 E y s=i7 E y s1∧i7 E x s1'=i7 E x s ∧
   (∀ m∈looks ops x,x7 x (s1'.get m)=x7 x (s.get m))∧i7 E x s=[]∧(∀ i,N5 s1' i=N5 s i)∧a0f y s=some (j,kd,qq)∧G7 y s1=false:=by
 obtain ⟨ax,ay,hmod⟩:=a0O hi
 have hdd:∀ d,x.dst=some d→y.dst=some d→False:=fun d e1 e2=>hmod (by rw [e1,e2])
 obtain ⟨v,rfl,hvk,hlk,hvw,htk,hagain⟩:=b5O hk h1
 obtain ⟨hps,T0,a0,x0,e0,ho0,ha0,he0,hkd0⟩:=a4m hs
 obtain ⟨T,xa,xx,j',qq',v9,z,e,r,ho,hxa,hxx,hnv,hob,hset,⟨u0,y0,hgq⟩,rfl,hback⟩:=a8f hps h2
 rw [ho0] at ho; cases ho
 rw [ha0] at hxa; cases hxa
 rw [he0] at hob; cases hob
 have hgy:∀ m∈looks ops y,(s.put x.dst v).get m=s.get m:=fun m hm=>by
  simp only [St.get,B5]
  rw [if_neg (fun e=>ax m e hm)]
 have hevy:∀ o,o∈y.op.operands.toList→s.ev o=(s.put x.dst v).ev o:=by
  intro o hm
  cases o with
  | tmp m=>exact (J1 (hgy m (G5 hm))).symm
  | _=>rfl
 have heva:=hevy a0 (by rw [ho0]; simp [Op.operands])
 have hevx:=hevy x0 (by rw [ho0]; simp [Op.operands])
 have hob2:look j s.hp=some e0:=by rw [← he0,E5]
 have hb:=hback s heva hevx hob2
 subst hkd0
 have hkk:∀ i,N5 (((s.kill j e0.kd qq).o7 j (e0.w4 r)).put y.dst (.raw undef)) i=N5 s i:=by
  intro i
  unfold N5
  rw [E5]
  simp only [St.o7,l7]
  split
  ·rename_i hij
   subst hij
   rw [hob2]
   have hr1:r.1=e0.ty:=a02 hnv hset
   cases e0 with
   | var t1 x1=>exact congrArg (fun t=>some (false,t)) hr1
   | own t1 x1=>exact congrArg (fun t=>some (true,t)) hr1
   | E8=>rfl
  ·rfl
 have hgx:∀ m∈looks ops x,(((s.kill j e0.kd qq).o7 j (e0.w4 r)).put y.dst (.raw undef)).get m=s.get m:=by
  intro m hm
  have:(((s.kill j e0.kd qq).o7 j (e0.w4 r)).put y.dst (.raw undef)).get m=(s.get m).kill j e0.kd qq:=by
   simp only [St.get,B5]
   rw [if_neg (fun e=>ay m e hm)]
   have e2:look m ((s.kill j e0.kd qq).o7 j (e0.w4 r)).fr=(look m s.fr).map (AV.kill j e0.kd qq):=D3 m _ _
   rw [e2]
   cases look m s.fr<;>rfl
  rw [this]; exact hlk m hm
 have hx2:=hagain _ hgx hkk
 refine ⟨_,_,hb,hx2,y6 hu hb,y6 (y6 hu hb) hx2,⟨fun n=>?_,fun i=>?_⟩,a1J (fun m hm=>by rw [hgy m hm]),by rw [htk,htk],fun m hm=>by rw [hgx m hm],htk s,hkk,?_,?_⟩
 ·rw [B5,B5,B5]
  have e1:look n ((s.kill j e0.kd qq).o7 j (e0.w4 r)).fr=(look n s.fr).map (AV.kill j e0.kd qq):=D3 n _ _
  have e2:look n (((s.put x.dst v).kill j e0.kd qq).o7 j (e0.w4 r)).fr=(look n (s.put x.dst v).fr).map (AV.kill j e0.kd qq):=D3 n _ _
  rw [e1,e2,B5]
  by_cases c1:x.dst=some n
  ·rw [if_pos c1,if_neg (fun c2=>hdd n c1 c2),if_pos c1,Option.map_some,hvk]
  ·rw [if_neg c1,if_neg c1]
 ·rw [E5,E5,E5]
  simp only [St.o7,l7,St.kill,E5]
 ·have hps2:M7 y s=true:=by
   have h0:=hps
   unfold M7 at h0 ⊢
   split at h0
   ·rename_i T' a' x' hg' ho'
    rw [ho0] at ho'; cases ho'
    simp only [heva,hevx]
    exact h0
   ·cases h0
  exact b1R hps2 ho0 (heva.trans ha0) hob2
 ·unfold G7
  rw [ho0]
  split<;>first|rfl|(rename_i e9; cases e9)

end

section
variable {E:Env} {ops:Array Oper} {M:Nat→Nat} {s t:St}

def b7T (ops:Array Oper) (x:Oper) (sx:St) (Tx:List Nat) (y:Oper) (Ty:List Nat):Prop:=a1n ops x sx Tx y Ty∧(Tx≠[]→∀ m∈looks ops y,m∉a70 ops)

def a1X (E:Env) (ops:Array Oper) (x:Oper) (sx:St) (y:Oper) (sy:St):Prop:=b7T ops x sx (i7 E x sx) y (i7 E y sy)∨(M7 x sx=true∧G7 y sy=true)∨∃ j kd q,a0f y sy=some (j,kd,q)∧a1O x sx j kd q=true

def a1S (E:Env) (ops:Array Oper) (M:Nat→Nat):List (Nat×St)→List Nat→St→St→Prop
 | _,[],s,s'=>s=s'
 | acc,i::l,s,s'=>∃ o,ops[i]?=some o∧(∀ e∈acc,(M i).testBit e.1=true∨∃ x,ops[e.1]?=some x∧a1X E ops x e.2 o s) ∧
   ∃ p s1,q8 E ops o s=some (p,s1)∧p∧a1S E ops M ((i,s)::acc) l s1 s'

theorem a8e {M:List Nat} {k:St→Tree (E.rs++u6 E.ps)} {L:Code→List Item→St→Prop} {R:DL (E.rs++u6 E.ps)→Prop}:∀ {l:List Oper} {n:Nat} {s:St} {acc:List Met} {acc':List (Nat×St)},ops.toList.drop n=l →
  (∀ e∈acc',∃ m∈acc,m.i=e.1∧ops[e.1]?=some m.o∧m.s=e.2∧m.T=i7 E m.o e.2)→(b2V E ops M n l s acc k).holds L R →
  ∃ s',a1S E ops (fun i=>M.getD i 0) acc' (List.range' n l.length) s s'∧(k s').holds L R
 | [],n,s,acc,acc',_,_,h=>⟨s,rfl,h⟩
 | o::l,n,s,acc,acc',hl,ha,h=>by
  obtain ⟨ho,hl',_⟩:=P9 hl
  simp only [b2V] at h
  split at h
  ·exact h.elim
  ·rename_i hall
   obtain ⟨p,s1,h1,h2,h3⟩:=Q7.1 h
   have hacc:∀ e∈acc',(M.getD n 0).testBit e.1=true∨∃ x,ops[e.1]?=some x∧a1X E ops x e.2 o s:=by
    intro e he
    obtain ⟨m,hm,m1,m2,m3,m4⟩:=ha e he
    have:=(List.all_eq_true.1 hall) m hm
    simp only [Bool.or_eq_true] at this
    rcases this with this|this
    ·exact .inl (by rw [← m1]; exact this)
    ·simp only [a87,Bool.or_eq_true,Bool.and_eq_true] at this
     rcases this with (⟨h9,h8⟩|⟨h9,h8⟩)|h9
     ·have hp:=a10 h9
      rw [m3,m4] at hp
      refine .inr ⟨m.o,m2,.inl ⟨hp,fun hne x hx hxa=>?_⟩⟩
      rw [m4] at h8
      split at h8
      ·rename_i hnil; exact hne hnil
      ·have:=(List.all_eq_true.1 h8) x hx
       simp at this
       exact this hxa
     ·rw [m3] at h9
      exact .inr ⟨m.o,m2,.inr (.inl ⟨h9,h8⟩)⟩
     ·unfold b3d at h9
      split at h9
      ·rename_i j kd q hst
       rw [m3] at h9
       exact .inr ⟨m.o,m2,.inr (.inr ⟨j,kd,q,hst,h9⟩)⟩
      ·cases h9
   obtain ⟨s',k1,k2⟩:=a8e (acc':=(n,s)::acc') hl' (fun e he=>by
    rcases List.mem_cons.1 he with rfl|he
    ·exact ⟨_,List.mem_cons_self ..,rfl,ho,rfl,rfl⟩
    ·obtain ⟨m,hm,r⟩:=ha e he; exact ⟨m,List.mem_cons_of_mem _ hm,r⟩) h3
   exact ⟨s',⟨o,ho,hacc,p,s1,h1,h2,k1⟩,k2⟩

def b7r (E:Env) (ops:Array Oper) (acc acc':List (Nat×St)):Prop :=
 ∀ e'∈acc',∃ e∈acc,e.1=e'.1∧∀ x,ops[e.1]?=some x→(∀ m∈looks ops x,x7 x (e'.2.get m)=x7 x (e.2.get m))∧i7 E x e'.2=i7 E x e.2∧(∀ (z:Oper) m,∀ k∈i7 E x e.2,(x7 z (e'.2.get m)).e8 k=true→(x7 z (e.2.get m)).e8 k=true∨m∈a70 ops) ∧
  ∀ m∈looks ops x,∀ i,(x7 x (e.2.get m)).e8 i=true→N5 e'.2 i=N5 e.2 i

theorem a5G {x:Oper} {sx sx':St} (h:M7 x sx=true) (h1:∀ m∈looks ops x,x7 x (sx'.get m)=x7 x (sx.get m)):M7 x sx'=true:=by
 have h0:=h
 unfold M7 at h
 split at h
 ·rename_i T a v hg ho
  have hev:∀ o,o=a∨o=v→sx'.ev o=sx.ev o:=by
   intro o hoo
   cases o with
   | tmp m =>
    have:=h1 m (G5 (by rw [ho]; simp [Op.operands]; rcases hoo with e|e<;>simp [← e]))
    rw [a4k ho,a4k ho] at this
    exact J1 this
   | _=>rfl
  unfold M7 at h0 ⊢
  rw [hg,ho] at h0 ⊢
  simp only [hev a (.inl rfl),hev v (.inr rfl)]
  exact h0
 ·cases h

theorem a37 {y:Oper} {sy sy':St} (h:G7 y sy=true) (h1:∀ m∈looks ops y,x7 y (sy'.get m)=x7 y (sy.get m)):G7 y sy'=true:=by
 have hvw:∀ v,x7 y v=v:=by
  intro v
  rcases a0g y with e|⟨_,x,j,hop,_⟩
  ·exact e v
  ·unfold G7 at h; rw [hop] at h; split at h<;>first|(rename_i e9; cases e9; done)|(cases h; done)
 have hev:∀ o∈y.op.operands.toList,sy'.ev o=sy.ev o:=by
  intro o hoo
  cases o with
  | tmp m =>
   have:=h1 m (G5 hoo)
   rw [hvw,hvw] at this
   exact J1 this
  | _=>rfl
 unfold G7 at h ⊢
 split at h
 ·rename_i T a i hg ho
  simp only [hev a (by rw [ho]; simp [Op.operands]),hev i (by rw [ho]; simp [Op.operands])]
  exact h
 ·rename_i T a n hg ho
  simp only [hev a (by rw [ho]; simp [Op.operands])]
  exact h
 ·cases h

theorem a55 {y:Oper} {sy sy':St} {r:Nat×(Bool×Ty)×List Step} (h:a0f y sy=some r) (h1:∀ m∈looks ops y,x7 y (sy'.get m)=x7 y (sy.get m)) (h2:∀ m∈looks ops y,∀ i,(x7 y (sy.get m)).e8 i=true→N5 sy' i=N5 sy i):a0f y sy'=some r:=by
 obtain ⟨j,kd,q⟩:=r
 obtain ⟨hp,T,a,x,e,ho,ha,he,rfl⟩:=a4m h
 have hp':=a5G (ops:=ops) hp h1
 have hvw:∀ v,x7 y v=v:=a4k ho
 cases a with
 | tmp m =>
  have hm:m∈looks ops y:=G5 (by rw [ho]; simp [Op.operands])
  have hg:sy.get m=.ptr j q:=S4 ha nofun
  have hg':sy'.get m=.ptr j q:=by have:=h1 m hm; rw [hvw,hvw] at this; rw [this]; exact hg
  have hh:=h2 m hm j (by rw [hvw,hg]; simp only [AV.e8]; exact Nat.beq_refl j)
  unfold N5 at hh
  rw [he] at hh
  cases hl:look j sy'.hp with
  | none=>rw [hl] at hh; cases hh
  | some e' =>
   rw [hl] at hh
   simp only [Option.map_some,Option.some.injEq] at hh
   rw [← hh]
   exact b1R hp' ho (b2m (a7d ha nofun) hg') hl
 | const c=>exact absurd ha (by intro e9; have:=Y9 c j; rw [show ofConst c=.ptr j q from e9] at this; simp only [AV.e8] at this; rw [Nat.beq_refl] at this; cases this)
 | global g=>cases ha
 | func f=>cases ha

theorem b4G {x:Oper} {sx sx':St} {j:Nat} {kd:Bool×Ty} {q:List Step} (h:a1O x sx j kd q=true) (h1:∀ m∈looks ops x,x7 x (sx'.get m)=x7 x (sx.get m)) (h2:∀ m∈looks ops x,∀ i,(x7 x (sx.get m)).e8 i=true→N5 sx' i=N5 sx i):a1O x sx' j kd q=true:=by
 have hvw:∀ v,x7 x v=v:=by
  intro v
  rcases a0g x with e|⟨_,y,k,hop,_⟩
  ·exact e v
  ·unfold a1O at h; rw [hop] at h; split at h<;>first|(rename_i e9; cases e9; done)|(cases h; done)
 have hev:∀ o∈x.op.operands.toList,sx'.ev o=sx.ev o:=by
  intro o hoo
  cases o with
  | tmp m =>
   have:=h1 m (G5 hoo)
   rw [hvw,hvw] at this
   exact J1 this
  | _=>rfl
 unfold a1O at h ⊢
 split at h
 ·rename_i a hg ho
  simp only [hev a (by rw [ho]; simp [Op.operands])]
  exact h
 ·rename_i T a n hg ho
  simp only [hev a (by rw [ho]; simp [Op.operands])]
  exact h
 ·rename_i T a hg ho
  simp only [hev a (by rw [ho]; simp [Op.operands])]
  split at h
  ·rename_i i p ha
   have:N5 sx' i=N5 sx i:=by
    cases a with
    | tmp m =>
     have hm:m∈looks ops x:=G5 (by rw [ho]; simp [Op.operands])
     have hg9:sx.get m=.ptr i p:=S4 ha nofun
     exact h2 m hm i (by rw [hvw,hg9]; simp only [AV.e8]; exact Nat.beq_refl i)
    | const c=>exact absurd ha (by intro e9; have:=Y9 c i; rw [show ofConst c=.ptr i p from e9] at this; simp only [AV.e8] at this; rw [Nat.beq_refl] at this; cases this)
    | global g=>cases ha
    | func f=>cases ha
   rw [this]
   exact h
  ·cases h
 ·cases h

theorem a1X.a9N {x:Oper} {sx sx':St} {y:Oper} {sy sy':St} (h:a1X E ops x sx y sy) (h1:∀ m∈looks ops x,x7 x (sx'.get m)=x7 x (sx.get m)) (h2:i7 E x sx'=i7 E x sx) (h3:∀ (z:Oper) m,∀ k∈i7 E x sx,(x7 z (sx'.get m)).e8 k=true→(x7 z (sx.get m)).e8 k=true∨m∈a70 ops)
  (h4:∀ m∈looks ops x,∀ i,(x7 x (sx.get m)).e8 i=true→N5 sx' i=N5 sx i) (hT:i7 E y sy'=i7 E y sy) (hA:G7 y sy=true→G7 y sy'=true) (hS:∀ r,a0f y sy=some r→a0f y sy'=some r):a1X E ops x sx' y sy':=by
 rcases h with ⟨⟨P1,P2,P3⟩,hn⟩|⟨k1,k2⟩|⟨j,kd,q,k1,k2⟩
 ·refine .inl ?_
  rw [hT,h2]
  refine ⟨⟨fun m hm i hi=>?_,fun m hm i hi=>by rw [h1 m hm]; exact P2 m hm i hi,P3⟩,hn⟩
  cases hh:(x7 y (sx'.get m)).e8 i with
  | false=>rfl
  | true =>
   rcases h3 y m i hi hh with h9|h9
   ·rw [P1 m hm i hi] at h9; cases h9
   ·exact absurd h9 (hn (fun e=>by rw [e] at hi; cases hi) m hm)
 ·exact .inr (.inl ⟨a5G k1 h1,hA k2⟩)
 ·exact .inr (.inr ⟨j,kd,q,hS _ k1,b4G k2 h1 h4⟩)

theorem b2j (h:C1 s t) (i:Nat):N5 t i=N5 s i:=by unfold N5; rw [h.2 i]
theorem b5t {o:Oper} (h:C1 s t) {r:Nat×(Bool×Ty)×List Step} (ha:a0f o s=some r):a0f o t=some r:=a55 (ops:=#[]) ha (fun m _=>by rw [h.get m]) (fun _ _ i _=>b2j h i)
theorem b3T {o:Oper} (h:C1 s t) (ha:G7 o s=true):G7 o t=true:=a37 (ops:=#[]) ha (fun m _=>by rw [h.get m])

theorem a3z:∀ {l:List Nat} {acc acc':List (Nat×St)} {s t s':St},b7r E ops acc acc'→uniq s.fr→C1 s t→uniq t.fr→a1S E ops M acc l s s'→∃ t',a1S E ops M acc' l t t'∧C1 s' t'
 | [],acc,acc',s,t,s',_,_,he,_,h=>⟨t,rfl,by rw [← show s=s' from h]; exact he⟩
 | i::l,acc,acc',s,t,s',hg,hu,he,ht,⟨o,ho,hc,p,s1,h1,h2,h3⟩=>by
  obtain ⟨t1,k1,k2,k3⟩:=a4v hu he ht h1
  obtain ⟨t',m1,m2⟩:=a3z (acc:=(i,s)::acc) (acc':=(i,t)::acc') (fun e' he'=>by
   rcases List.mem_cons.1 he' with rfl|he'
   ·exact ⟨(i,s),by simp,rfl,fun x _=>⟨fun m _=>by show x7 x (t.get m)=x7 x (s.get m); rw [he.get m],a2z he,fun z m k _ hm=>.inl (by have hm:(x7 z (t.get m)).e8 k=true:=hm; rw [← he.get m] at hm; exact hm),fun _ _ i _=>b2j he i⟩⟩
   ·obtain ⟨e,h4,h5,h6⟩:=hg e' he'; exact ⟨e,by simp [h4],h5,h6⟩) (y6 hu h1) k3 k2 h3
  refine ⟨t',⟨o,ho,fun e' he'=>?_,p,t1,k1,h2,m1⟩,m2⟩
  obtain ⟨e,h4,h5,h6⟩:=hg e' he'
  rw [← h5]
  rcases hc e h4 with h|⟨x,hx,hP⟩
  ·exact .inl h
  ·obtain ⟨g1,g2,g3,g4⟩:=h6 x hx
   exact .inr ⟨x,hx,hP.a9N g1 g2 g3 g4 (a2z he) (b3T he) (fun _=>b5t he)⟩

theorem b77 {x y:Oper} (hym:y∈ops.toList) (hi:indep ops x y=true) (hu:uniq s.fr) (hx:∀ d,x.dst=some d→(s.get d).clean=true) {p q:Prop} {s1 s2:St} (h1:q8 E ops x s=some (p,s1)) (h2:q8 E ops y s1=some (q,s2)) (hP:a1X E ops x s y s1) :
  ∃ q' s1' s2',q8 E ops y s=some (q',s1')∧(q→q')∧((G7 y s1=true→G7 y s=true)∧∀ r,a0f y s1=some r→a0f y s=some r)∧q8 E ops x s1'=some (p,s2')∧uniq s1'.fr∧uniq s2'.fr∧C1 s2' s2∧i7 E y s=i7 E y s1∧i7 E x s1'=i7 E x s ∧
   (∀ m∈looks ops x,x7 x (s1'.get m)=x7 x (s.get m))∧(∀ (z:Oper) m,∀ i∈i7 E x s,(x7 z (s1'.get m)).e8 i=true→(x7 z (s.get m)).e8 i=true∨m∈a70 ops) ∧
   ∀ m∈looks ops x,∀ i,(x7 x (s.get m)).e8 i=true→N5 s1' i=N5 s i:=by
 rcases hP with ⟨hP,_⟩|⟨k1,k2⟩|⟨j,kd,qq,k1,k2⟩
 ·obtain ⟨s1',s2',m1,m2,m3,m4,m5,m6,m7,m8,m9⟩:=swap hi hu hx h1 h2 hP
  obtain ⟨ax,ay,hmod⟩:=a0O hi
  obtain ⟨P1,P2,P3⟩:=hP
  obtain ⟨v,ids,f,g,j1,j2,j3,j4,j5⟩:=R9 hu h1
  obtain ⟨_,e1,_,hs1⟩:=j5 s hu ((C1.refl s).a0m _ _) j2
  rw [h1] at e1; cases e1
  have hgy:∀ m∈looks ops y,x7 y (s.get m)=x7 y (s1.get m):=fun m hm=>by
   rw [hs1.get j1 (fun e=>ax m e hm),a3s j1,j1.fix _ (fun i hi=>P1 m hm i hi)]
  have hhy:∀ m∈looks ops y,∀ i,(x7 y (s1.get m)).e8 i=true→N5 s i=N5 s1 i:=by
   intro m hm i hmi
   rw [← hgy m hm] at hmi
   unfold N5
   rw [hs1.hp,if_neg]
   rintro (h|h)
   ·rw [P1 m hm i h] at hmi; cases hmi
   ·have hmi:=a0p hmi
    rw [a07 j2 h] at hmi; cases hmi
  refine ⟨q,s1',s2',m1,id,⟨fun ha=>a37 (ops:=ops) ha hgy,fun r hr=>a55 hr hgy hhy⟩,m2,m3,m4,m5,m6,m7,m8,fun z m i h9 h8=>.inl (m9 z m i h9 h8),?_⟩
  obtain ⟨v',ids',f',g',n1,n2,n3,n4,n5⟩:=R9 hu m1
  obtain ⟨_,e2,_,hs1'⟩:=n5 s hu ((C1.refl s).a0m _ _) n2
  rw [m1] at e2; cases e2
  intro m hm i hmi
  unfold N5
  rw [hs1'.hp,if_neg]
  rintro (h|h)
  ·rw [m6] at h
   rw [P2 m hm i h] at hmi; cases hmi
  ·have hmi:=a0p hmi
   rw [a07 n2 h] at hmi; cases hmi
 ·obtain ⟨q',s1',s2',m1,m2,m3,m4,m5,m6,m7,m8,m9,m10,m11⟩:=b7t hym hi hu h1 h2 k1 k2
  refine ⟨q',s1',s2',m1,m2,⟨fun _=>m3,fun r hr=>?_⟩,m4,m5,m6,m7,m8,m9,m10,m11,?_⟩
  ·obtain ⟨hp,T,a,x',e,ho,_⟩:=a4m (j:=r.1) (kd:=r.2.1) (q:=r.2.2) hr
   unfold G7 at k2
   rw [ho] at k2
   split at k2<;>first|(rename_i e9; cases e9; done)|(cases k2; done)
  ·obtain ⟨_,_,_,_,_,_,_,_,_,_,_,hs1,_⟩:=a8C m3 m1
   intro m hm i _
   unfold N5
   rw [hs1,E5]
 ·obtain ⟨s1',s2',m1,m2,m3,m4,m5,m6,m7,m8,m9,m10,m11,m12⟩:=b7u hi hu h1 h2 k1 k2
  refine ⟨q,s1',s2',m1,id,⟨fun ha=>?_,fun r hr=>?_⟩,m2,m3,m4,m5,m6,m7,m8,fun z m i h9 _=>?_,fun _ _ i _=>m10 i⟩
  ·rw [m12] at ha; cases ha
  ·rw [k1] at hr; cases hr; exact m11
  ·rw [m9] at h9; cases h9

theorem b2t {i:Nat} {o:Oper} (ho:ops[i]?=some o) {post:List Nat}:∀ {pre:List Nat} {acc:List (Nat×St)} {s s':St},A6 (rem ops (pre++i::post))→(∀ j∈pre,(M i).testBit j=false∧∀ x,ops[j]?=some x→indep ops x o=true)→uniq s.fr→B8 s (rem ops pre) →
  a1S E ops M acc (pre++i::post) s s' →
  ∃ p s1 s2,q8 E ops o s=some (p,s1)∧p∧a1S E ops M acc (pre++post) s1 s2∧C1 s2 s'∧∀ e∈acc,(M i).testBit e.1=true∨∃ x,ops[e.1]?=some x∧a1X E ops x e.2 o s
 | [],acc,s,s',_,_,hu,_,⟨o',ho',hc,p,s1,h1,h2,h3⟩=>by
  rw [ho] at ho'; cases ho'
  obtain ⟨t',m1,m2⟩:=a3z (acc:=(i,s)::acc) (acc':=acc) (fun e he=>⟨e,by simp [he],rfl,fun x _=>⟨fun _ _=>rfl,rfl,fun _ _ _ _ h=>.inl h,fun _ _ _ _=>rfl⟩⟩) (y6 hu h1) (C1.refl s1) (y6 hu h1) h3
  exact ⟨p,s1,t',h1,h2,m1,m2.symm,hc⟩
 | j::pre,acc,s,s',hap,hin,hu,hcl,⟨x,hx,hc,p,s1,h1,h2,h3⟩=>by
  have hu1:=y6 hu h1
  have er:rem ops (j::pre++i::post)=x::rem ops (pre++i::post):=a03 hx
  rw [er] at hap
  rw [a03 hx] at hcl
  have hdj:∀ y∈rem ops pre,∀ d,y.dst=some d→x.dst≠some d:=fun y hy d hyd hxd=>hap.1 d hxd y (by rw [Z6]; exact List.mem_append_left _ hy) hyd
  have hcl1:B8 s1 (rem ops pre):=B8.step hu (fun y hy=>hcl y (by simp [hy])) hdj h1
  obtain ⟨q,sa,sb,k1,k2,k3,k4,k5⟩:=b2t ho (pre:=pre) (acc:=(j,s)::acc) hap.2 (fun y hy=>hin y (by simp [hy])) hu1 hcl1 h3
  obtain ⟨hnb,hind⟩:=hin j (by simp)
  have hP:a1X E ops x s o s1:=by
   rcases k5 (j,s) (by simp) with h|⟨x',hx',hP⟩
   ·rw [hnb] at h; cases h
   ·have hx':ops[j]?=some x':=hx'
    rw [hx] at hx'; cases hx'; exact hP
  have hom:o∈ops.toList:=by have:=Array.mem_of_getElem? ho; simpa using this
  obtain ⟨q',s1',s2',m1,mq,⟨ma,ms⟩,m2,m3,m4,m5,m6,m7,m8,m9,m10⟩:=b77 hom (hind x hx) hu (fun d hd=>hcl x (by simp) d hd) h1 k1 hP
  obtain ⟨t',n1,n2⟩:=a3z (acc:=(j,s)::acc) (acc':=(j,s1')::acc) (fun e' he'=>by
   rcases List.mem_cons.1 he' with rfl|he'
   ·refine ⟨(j,s),by simp,rfl,fun y hy=>?_⟩
    have hy:ops[j]?=some y:=hy
    rw [hx] at hy; cases hy
    exact ⟨m8,m7,m9,m10⟩
   ·exact ⟨e',by simp [he'],rfl,fun y _=>⟨fun _ _=>rfl,rfl,fun _ _ _ _ h=>.inl h,fun _ _ _ _=>rfl⟩⟩) (y6 hu1 k1) m5.symm m4 k3
  refine ⟨q',s1',t',m1,mq k2,⟨x,hx,fun e he=>?_,p,s2',m2,h2,n1⟩,n2.symm.trans k4,fun e he=>?_⟩
  ·rcases hc e he with h|⟨y,hy,hP⟩
   ·exact .inl h
   ·refine .inr ⟨y,hy,hP.a9N (fun _ _=>rfl) rfl (fun _ _ _ _ h=>.inl h) (fun _ _ _ _=>rfl) m7 (fun ha=>a37 (ops:=ops) ha m8) (fun r hr=>a55 hr m8 m10)⟩
  ·rcases k5 e (by simp [he]) with h|⟨y,hy,hP⟩
   ·exact .inl h
   ·exact .inr ⟨y,hy,hP.a9N (fun _ _=>rfl) rfl (fun _ _ _ _ h=>.inl h) (fun _ _ _ _=>rfl) m6 ma ms⟩
end

section
variable {E:Env} {ops:Array Oper} {B:y9} {S:Nat→Prop} {ι:Ix} {s:St} {a:Act} {w:World}
theorem a4N (hE:t7 E B) (hn:B.n=E.nt) (hd:M4 ops=true) {Q:Exit→Act→World→Prop} {s0:St} (hQ:∀ S ι a w,RS B S ι s0 a w→Q .normal a w) :
  ∀ (fuel:Nat) (listed:Array Bool) (S:Nat→Prop) (ι:Ix) (s s':St) (a:Act) (w:World),listed.size=ops.size→(idxs ops.size listed).length=fuel→V1 ops listed→A6 (rem ops (idxs ops.size listed))→uniq s.fr→B8 s (rem ops (nl ops (idxs ops.size listed))) →
   a1S E ops (fun i=>(s4 ops.toList []).getD i 0) [] (idxs ops.size listed) s s'→C1 s' s0→RS B S ι s a w→wpAny E.P .any ops Q fuel listed a w:=by
 have hM:=Z1 hd
 have a1s:∀ {S:Nat→Prop} {ι:Ix} {s t:St} {a:Act} {w:World},C1 s t→RS B S ι s a w→RS B S ι t a w:=by
  intro S ι s t a w he h
  have hvx:∀ {v:AV} {vs:List Value},VX w.heap S ι s.hp v vs→VX w.heap S ι t.hp v vs:=by
   intro v vs hv
   exact VX.other (fun i _=>(he.2 i).symm) (fun i _=>w6.refl ι i) hv
  exact ⟨⟨h.hs.os,h.hs.tape,h.hs.out,h.hs.size,h.hs.frame,h.hs.slt,h.hs.s0,h.hs.s1,fun i e hi=>h.hs.ob i e ((he.2 i).trans hi),fun i e hi=>h.hs.bl i e ((he.2 i).trans hi),fun i j ei ej hi hj=>h.hs.dj i j ei ej ((he.2 i).trans hi) ((he.2 j).trans hj),fun q hq=>by obtain ⟨r1,⟨e,r2⟩,r3⟩:=h.hs.pin q hq; exact ⟨r1,⟨e,(he.2 q.1).symm.trans r2⟩,r3⟩⟩,h.W7,h.sz,
   fun m v hv=>hvx (h.fr m v ((he.1 m).trans hv))⟩
 intro fuel
 induction fuel with
 | zero =>
  intro listed S ι s s' a w hsz hlen hcl hap hu hcf hrun he hrs
  have hnil:idxs ops.size listed=[]:=List.length_eq_zero_iff.1 hlen
  rw [hnil] at hrun
  have hss:s=s':=hrun
  subst hss
  refine ⟨?_,hQ S ι a w (a1s he hrs)⟩
  rw [List.eq_nil_iff_forall_not_mem]
  intro i hi
  obtain ⟨h1,o,h2,_⟩:=mem_ready.1 hi
  have:i∈idxs ops.size listed:=o8.2 ⟨(Array.getElem?_eq_some_iff.1 h2).1,h1⟩
  rw [hnil] at this
  cases this
 | succ fuel ih =>
  intro listed S ι s s' a w hsz hlen hcl hap hu hcf hrun he hrs
  refine ⟨fun hr=>?_,fun i hi=>?_⟩
  ·exfalso
   cases hix:idxs ops.size listed with
   | nil=>rw [hix] at hlen; cases hlen
   | cons i l =>
    have hmem:i∈idxs ops.size listed:=by rw [hix]; simp
    obtain ⟨h1,h2⟩:=o8.1 hmem
    have ho:ops[i]?=some ops[i]:=Array.getElem?_eq_getElem h1
    have:i∈Region.ready .any ops listed:=by
     refine mem_ready.2 ⟨h2,ops[i],ho,fun e he hb=>?_⟩
     have hlt:=(hM i _ ho).1 e he hb
     cases hle:listed.getD e.on true with
     | true =>
      have:e.on<listed.size:=by omega
      simp [this] at hle ⊢; exact hle
     | false =>
      exfalso
      have hm2:e.on∈idxs ops.size listed:=o8.2 ⟨by omega,hle⟩
      have hs:=J8 ops.size listed
      rw [hix] at hs hm2
      rcases List.mem_cons.1 hm2 with e1|e1
      ·omega
      ·have:=(List.pairwise_cons.1 hs).1 _ e1; omega
    rw [hr] at this
    cases this
  ·obtain ⟨h1,o,ho,hpre⟩:=mem_ready.1 hi
   have hin:i<ops.size:=(Array.getElem?_eq_some_iff.1 ho).1
   have hmem:i∈idxs ops.size listed:=o8.2 ⟨hin,h1⟩
   obtain ⟨pre,post,e1,hlt,e2⟩:=S3 hmem
   have er:rem ops (pre++i::post)=rem ops pre++o::rem ops post:=by simp [rem,List.filterMap_append,ho]
   have er2:rem ops (pre++post)=rem ops pre++rem ops post:=by simp [rem,List.filterMap_append]
   rw [e1] at hap hcf hrun
   have hind:∀ j∈pre,((s4 ops.toList []).getD i 0).testBit j=false∧∀ x,ops[j]?=some x→indep ops x o=true:=by
    intro j hj
    have hnm:((s4 ops.toList []).getD i 0).testBit j=false:=by
     cases hm:((s4 ops.toList []).getD i 0).testBit j with
     | false=>rfl
     | true =>
      exfalso
      have hjl:=W2 (M:=fun i=>(s4 ops.toList []).getD i 0) (fun i o ho=>⟨(hM i o ho).1,(hM i o ho).2.1⟩) hcl i o ho hpre j (by have:=hlt j hj; omega) hm
      have:j∈idxs ops.size listed:=by rw [e1]; simp [hj]
      have:=(o8.1 this).2
      rw [G3 hjl] at this
      cases this
    refine ⟨hnm,fun x hx=>?_⟩
    rcases (hM i o ho).2.2 j x (hlt j hj) hx with hm|hm
    ·rw [hnm] at hm; cases hm
    ·exact hm
   have hcl0:B8 s (rem ops (nl ops (pre++post))):=hcf.sub (fun y hy=>by
    rw [a6X,Z6] at hy ⊢
    rcases List.mem_append.1 hy with hy|hy
    ·exact List.mem_append_left _ hy
    ·refine List.mem_append_right _ ?_
     obtain ⟨j,j1,j2⟩:=List.mem_filterMap.1 hy
     obtain ⟨j3,j4⟩:=List.mem_filter.1 j1
     exact List.mem_filterMap.2 ⟨j,List.mem_filter.2 ⟨List.mem_cons_of_mem _ j3,j4⟩,j2⟩)
   obtain ⟨p,s1,s2,k1,k2,k3,k4,_⟩:=b2t ho hap hind hu (hcf.sub (fun y hy=>by
    rw [a6X,Z6,b4v hin hlt (fun j hj=>(hind j hj).1)]; exact List.mem_append_left _ hy)) hrun
   rw [er] at hap
   have hset:=(N3 hsz hin).trans e2
   have hap2:A6 (rem ops pre++rem ops post)∧∀ x∈rem ops pre++rem ops post,∀ d,x.dst=some d→o.dst≠some d:=by
    have:∀ {A C:List Oper},A6 (A++o::C)→A6 (A++C)∧∀ x∈A++C,∀ d,x.dst=some d→o.dst≠some d:=by
     intro A
     induction A with
     | nil=>intro C h; exact ⟨h.2,fun x hx d hxd hod=>h.1 d hod x hx hxd⟩
     | cons y A ih =>
      intro C h
      obtain ⟨m1,m2⟩:=ih h.2
      refine ⟨⟨fun d hd x hx=>h.1 d hd x (by simp at hx ⊢; rcases hx with hx|hx<;>simp [hx]),m1⟩,fun x hx d hxd hod=>?_⟩
      rcases List.mem_cons.1 hx with rfl|hx
      ·exact h.1 d hxd o (by simp) hod
      ·exact m2 x hx d hxd hod
    exact this hap
   have hps:=X2 hE hn hrs (ops:=ops) o (k:=fun x=>Tree.cut .skip [] x) (L:=fun _ _ x=>x=s1) (Rt:=fun _=>True) (Q7.2 ⟨p,s1,k1,k2,rfl⟩)
    (next:=wpAny E.P .any ops Q fuel (listed.setIfInBounds i true)) (Q:=Q) (fun S' ι' x a' w' hx hxe=>by
     have hxe:x=s1:=hxe
     subst hxe
     refine ih (listed.setIfInBounds i true) S' ι' x s2 a' w' (by simp [hsz]) ?_ ?_ ?_ (y6 hu k1) ?_ ?_ (k4.trans he) hx
     ·rw [hset]; rw [e1] at hlen; simp at hlen ⊢; omega
     ·intro k y hy hk e' he' hb'
      by_cases hki:k=i
      ·subst hki
       rw [ho] at hy; cases hy
       exact getD_set_true (hpre e' he' hb')
      ·rw [getD_set_ne true (Ne.symm hki)] at hk
       exact getD_set_true (hcl k y hy hk e' he' hb')
     ·rw [hset,er2]; exact hap2.1
     ·rw [hset]
      exact B8.step hu hcl0 (fun y hy=>hap2.2 y (by rw [← er2]; exact b4u y hy)) k1
     ·rw [hset]; exact k3)
   unfold wpOp
   rw [ho]
   simp only
   split
   ·rename_i hw; rw [if_pos hw] at hps; exact .inl hps
   ·rename_i hw; rw [if_neg hw] at hps; exact hps

theorem a80 (hE:t7 E B) (hn:B.n=E.nt) {id:Nat} (hd:(M4 ops && a0d ops s && E.P.follows .mixedOrders)=true) {Q:Exit→Act→World→Prop} {s':St} (hr:a1S E ops (fun i=>(s4 ops.toList []).getD i 0) [] (List.range' 0 ops.toList.length) s s')
  (hQ:∀ S ι a w,RS B S ι s' a w→Q .normal a w) (h:RS B S ι s a w):(Code.region id ops true).wp E.P Q a w:=by
 simp only [Bool.and_eq_true,a0d,List.all_eq_true] at hd
 obtain ⟨⟨h1,⟨h2,h3⟩,h4⟩,h5⟩:=hd
 refine wp_region_any h5 ?_
 have hlen:(idxs ops.size (Array.replicate ops.size false)).length=ops.size:=by
  rw [I1]; simp
 refine a4N hE hn h1 hQ ops.size _ S ι s s' a w.drew (by simp) hlen ?_ ?_ (A3 h2) ?_ ?_ (C1.refl _) (h.J4 x4.nil w8.drew)
 ·intro k o hk hl
  have:k<ops.size:=(Array.getElem?_eq_some_iff.1 hk).1
  simp [this] at hl
 ·rw [a04]; exact W1 h3
 ·intro o ho d hd
  exact h4 d (a8r ho hd)
 ·rw [I1,List.range_eq_range']
  simpa using hr


/-! ### regions that store what they read -/
theorem a4p:∀ (D:List Nat) (s:St),(W4 D s).hp=s.hp
 | [],_=>rfl
 | _::D,s=>a4p D s
theorem a5D:∀ (D:List Nat) (s:St) (t:Nat),look t (W4 D s).fr=if t∈D then some .any else look t s.fr
 | [],_,t=>by simp [W4]
 | d::D,s,t=>by
  simp only [W4,l7,a5D D s t,List.mem_cons]
  by_cases h:t=d
  ·simp [h]
  ·simp [h]

theorem RS.W4 {a0 a:Act} (h:RS B S ι s a0 w) {D:List Nat} (hd:a.defers=a0.defers) (hz:a.tmps.size=a0.tmps.size) (ht:∀ t,t∉D→a.tmps[t]?=a0.tmps[t]?):RS B S ι (W4 D s) a w:=by
 refine ⟨by rw [a4p]; exact h.hs,hd.trans h.W7,hz.trans h.sz,fun t v hl=>?_⟩
 rw [a5D] at hl
 rw [a4p]
 by_cases hm:t∈D
 ·rw [if_pos hm] at hl; cases hl
  exact ⟨_,rfl⟩
 ·rw [if_neg hm] at hl
  have:=h.fr t v hl
  have e:a.tmps.getD t (B.gd t)=a0.tmps.getD t (B.gd t):=by
   rw [Array.getD_eq_getD_getElem?,Array.getD_eq_getD_getElem?,ht t hm]
  rw [e]; exact this

theorem a2l {a:Act} {t:Nat}:a.eval (.tmp t)=(a.tmps[t]?).getD undef:=by
 show a.tmps.getD t undef=_
 rw [Array.getD_eq_getD_getElem?]

theorem b5A {a:Act} {x:Nat}:a.put (some x) ((a.tmps[x]?).getD undef)=a:=by
 show { a with tmps:=a.tmps.setIfInBounds x ((a.tmps[x]?).getD undef) }=a
 have:a.tmps.setIfInBounds x ((a.tmps[x]?).getD undef)=a.tmps:=by
  apply Array.ext_getElem?
  intro j
  rw [Array.getElem?_setIfInBounds]
  by_cases h:x=j
  ·subst h
   by_cases h2:x<a.tmps.size
   ·simp [h2]
   ·simp [h2]
  ·rw [if_neg h]
 rw [this]

def b70 (P:Program) (a0:Act) (w:World) (c:Nat×Option TypeId×Nat) (val:Value):Prop :=
 (∀ (a:Act) (o:Oper),Y0 o=some c→a.tmps[c.2.2]?=a0.tmps[c.2.2]?→(execOp a.eval o).run P w=.ok (.value val) w) ∧
 ∀ (a:Act) (o:Oper),a3F o=some c→a.tmps[c.2.2]?=a0.tmps[c.2.2]?→a.tmps[c.1]?=some val→∀ (next:Act→World→Prop) (Q:Exit→Act→World→Prop),next a w→o.wp P a w next Q

theorem b1z {o:Oper} {c:Nat×Option TypeId×Nat} (h:Y0 o=some c):o.guard=none∧o.dst=some c.1:=by
 unfold Y0 at h
 split at h
 ·rename_i h1 _ h2; cases h; exact ⟨h1,h2⟩
 ·rename_i h1 _ h2; cases h; exact ⟨h1,h2⟩
 ·cases h
theorem b02 {o:Oper} {c:Nat×Option TypeId×Nat} (h:a3F o=some c):o.guard=none:=by
 unfold a3F at h
 split at h
 ·rename_i h1 _ h2; exact h1
 ·rename_i h1 _ h2; exact h1
 ·cases h

theorem a8u (hE:t7 E B) {a0:Act} (h:RS B S ι s a0 w) {ops:Array Oper} {D:List Nat} {i:Nat} {o:Oper} {d x:Nat} {q:Option TypeId} (hc:Y0 o=some (d,q,x)) (hs:a6J E ops s D i o=true) :
  d<E.nt∧x∉D∧∃ val,b70 E.P a0 w (d,q,x) val:=by
 unfold a6J at hs
 rw [hc] at hs
 simp only [Bool.and_eq_true,Bool.not_eq_true'] at hs
 obtain ⟨⟨h1,h2⟩,h3⟩:=hs
 refine ⟨by simpa [x3,Nat.blt_eq] using h1,by intro hm; simp [hm] at h2,?_⟩
 cases q with
 | none =>
  refine ⟨(a0.tmps[x]?).getD undef,fun a o' ho' hx=>?_,fun a o' ho' hx hd next Q hn=>?_⟩
  ·unfold Y0 at ho'
   split at ho'
   ·rename_i g1 g2 g3
    cases ho'
    simp only [execOp,g2,Sem.run_pure,a2l,hx]
   ·cases ho'
   ·cases ho'
  ·unfold a3F at ho'
   split at ho'
   ·rename_i g1 g2 g3
    cases ho'
    unfold Oper.wp
    have e:(execOp a.eval o').run E.P w=.ok (.value ((a.tmps[x]?).getD undef)) w:=by
     simp only [execOp,g2,Sem.run_pure,a2l]
     have hd:a.tmps[d]?=some ((a0.tmps[x]?).getD undef):=hd
     have hx:a.tmps[x]?=a0.tmps[x]?:=hx
     rw [hd,hx]; rfl
    rw [e]
    show next (a.put o'.dst _) w
    rw [g3,b5A]; exact hn
   ·cases ho'
   ·cases ho'
 | some T =>
  simp only at h3
  split at h3
  ·rename_i j p hx
   split at h3
   ·rename_i u y hpt
    obtain ⟨e,b,off,k1,k2,k3,k4⟩:=t6 h hx
    have k4:a0.eval (.tmp x)=.pointer (some ⟨b,off,none⟩):=by simpa using k4
    have hg:=C6 k1 hpt
    obtain ⟨O2,m1,m2,m3,m4,m5,m6⟩:=F3 (E6 k3) (h.hs.ob j e k1) h.hs.slt k2 hg k3
    have hx0:∀ a:Act,a.tmps[x]?=a0.tmps[x]?→a.eval (.tmp x)=.pointer (some ⟨b,off,none⟩):=by
     intro a ha
     rw [a2l,ha,← a2l]; exact k4
    refine ⟨j7 u (d8 w.heap b off u.size),fun a o' ho' hx=>?_,fun a o' ho' hx hd next Q hn=>?_⟩
    ·unfold Y0 at ho'
     split at ho'
     ·cases ho'
     ·rename_i g1 g2 g3
      cases ho'
      have he:execOp a.eval o'=(do pure (.value (← Instr.loadAt T (a.eval (.tmp x))))):=by simp [execOp,g2]
      refine C9 he ?_
      rw [hx0 a hx]
      simp [Instr.loadAt,Instr.sureAddr,X0 (u7 hE h3) m3]
     ·cases ho'
    ·unfold a3F at ho'
     split at ho'
     ·cases ho'
     ·rename_i g1 g2 g3
      cases ho'
      have hsv:(storeVar T ⟨b,off,none⟩ (j7 u (d8 w.heap b off u.size))).run E.P w=.ok () (w.setRow b (x8 (o6 w.heap b) off (d8 w.heap b off u.size)).toArray):=a0G (u7 hE h3) rfl m6 m3
      have hw:w.setRow b (x8 (o6 w.heap b) off (d8 w.heap b off u.size)).toArray=w:=by
       obtain ⟨arr,T',⟨fz,e1,_⟩,hn⟩:=m6
       have hb:o6 w.heap b=arr.toList:=by simp only [o6,e1]
       have:x8 (o6 w.heap b) off (d8 w.heap b off u.size)=o6 w.heap b:=a4x m4
       rw [this,hb]; exact setRow_self w b arr T' fz (by simpa using e1)
      rw [hw] at hsv
      have hvd:a.eval (.tmp d)=j7 u (d8 w.heap b off u.size):=by rw [a2l,show a.tmps[d]?=some _ from hd]; rfl
      have hrun:(execOp a.eval o').run E.P w=.ok .skip w:=by
       simp [execOp,g2,hx0 a hx,hvd,Instr.storeAt,Instr.sureAddr,hsv]
      unfold Oper.wp
      rw [hrun]
      show next (a.put o'.dst undef) w
      rw [g3]; exact hn
     ·cases ho'
   ·cases h3
  ·cases h3

theorem a4O:∀ {l:List Nat},Q0 l=true→l.Nodup
 | [],_=>List.nodup_nil
 | d::l,h=>by
  simp only [Q0,Bool.and_eq_true,Bool.not_eq_true'] at h
  exact List.nodup_cons.2 ⟨fun hm=>by have:=h.1; simp [hm] at this,a4O h.2⟩
theorem a4j {α:Type} {f:α→Option Nat}:∀ {l:List α},(l.filterMap f).Nodup→∀ {i j:Nat} {x y:α} {d:Nat},l[i]?=some x→l[j]?=some y→f x=some d→f y=some d→i=j
 | [],_,i,_,_,_,_,h,_,_,_=>by simp at h
 | z::l,hn,i,j,x,y,d,hi,hj,hx,hy=>by
  have hn':(l.filterMap f).Nodup:=by
   cases hz:f z with
   | none=>rwa [List.filterMap_cons_none hz] at hn
   | some e=>rw [List.filterMap_cons_some hz] at hn; exact (List.nodup_cons.1 hn).2
  match i,j,hi,hj with
  | 0,0,_,_=>rfl
  | i+1,j+1,hi,hj=>exact congrArg (·+1) (a4j (l:=l) hn' (i:=i) (j:=j) (by simpa using hi) (by simpa using hj) hx hy)
  | 0,j+1,hi,hj =>
   exfalso
   simp at hi hj
   subst hi
   rw [List.filterMap_cons_some hx] at hn
   exact (List.nodup_cons.1 hn).1 (List.mem_filterMap.2 ⟨y,List.mem_of_getElem? hj,hy⟩)
  | i+1,0,hi,hj =>
   exfalso
   simp at hi hj
   subst hj
   rw [List.filterMap_cons_some hy] at hn
   exact (List.nodup_cons.1 hn).1 (List.mem_filterMap.2 ⟨x,List.mem_of_getElem? hi,hx⟩)
theorem b2N {i j:Nat} {o o':Oper} {c c':Nat×Option TypeId×Nat} (h:Q0 (a1K ops)=true) (hi:i<ops.size - 1) (hj:j<ops.size - 1) (hij:i≠j) (ho:ops[i]?=some o) (ho':ops[j]?=some o') (hc:Y0 o=some c) (hc':Y0 o'=some c'):c.1≠c'.1:=by
 intro e
 refine hij (a4j (l:=ops.toList.dropLast) (f:=fun o=>(Y0 o).map (fun c:Nat×Option TypeId×Nat=>c.1)) (a4O h) (x:=o) (y:=o') (d:=c.1) ?_ ?_ (by rw [hc]; rfl) (by rw [hc',e]; rfl))
 ·rw [List.getElem?_dropLast,if_pos (by simp; omega)]; simpa using ho
 ·rw [List.getElem?_dropLast,if_pos (by simp; omega)]; simpa using ho'
theorem b2M (hE:t7 E B) (hn:B.n=E.nt) {a0:Act} (h:RS B S ι s a0 w) (hb:a5o E ops s=true) {oz:Oper} (hz:ops[ops.size - 1]?=some oz) {Q:Exit→Act→World→Prop}
  (hQ:∀ a,RS B S ι (Ex.W4 (a1K ops) s) a w→∀ next:Act→World→Prop,(∀ a' w',Q .normal a' w'→next a' w')→oz.wp E.P a w next Q) :
  ∀ (fuel:Nat) (listed:Array Bool) (a:Act),listed.size=ops.size→(idxs ops.size listed).length=fuel→listed.getD (ops.size - 1) true=false→V1 ops listed→a.defers=a0.defers→a.tmps.size=a0.tmps.size→(∀ t,t∉a1K ops→a.tmps[t]?=a0.tmps[t]?) →
   (∀ j o c,j<ops.size - 1→ops[j]?=some o→Y0 o=some c→listed.getD j false=true→∃ val,b70 E.P a0 w c val∧a.tmps[c.1]?=some val)→wpAny E.P .any ops Q fuel listed a w:=by
 unfold a5o at hb
 simp only [Bool.and_eq_true,List.all_eq_true,List.mem_range,Nat.blt_eq] at hb
 obtain ⟨⟨⟨⟨⟨b0,b1⟩,b2⟩,b3⟩,b4⟩,b5⟩:=hb
 rw [hz] at b5
 simp only [Bool.and_eq_true,List.all_eq_true,List.mem_range] at b5
 obtain ⟨⟨z1,z2⟩,z3⟩:=b5
 have hzs:ops.size - 1<ops.size:=by omega
 -- the dependences lie ahead
 have hdep:∀ i o,ops[i]?=some o→∀ e∈o.after,Region.binds .any e=true→e.on<i:=by
  intro i o ho e he hbd
  have hi:i<ops.size:=(Array.getElem?_eq_some_iff.1 ho).1
  by_cases hiz:i=ops.size - 1
  ·subst hiz
   rw [hz] at ho; cases ho
   have:=z3 e (by simpa using he)
   simpa [hbd,Nat.blt_eq] using this
  ·have:=b4 i (by omega)
   rw [ho] at this
   simp only [Bool.and_eq_true,List.all_eq_true] at this
   have:=this.2 e (by simpa using he)
   simpa [hbd,Nat.blt_eq] using this
 have hbind:∀ {o:Oper} {j:Nat} {listed:Array Bool},a0z o j=true→(∀ e∈o.after,Region.binds .any e=true→listed.getD e.on false=true)→listed.getD j false=true:=by
  intro o j listed hbo hpre
  simp only [a0z,List.any_eq_true,Bool.and_eq_true] at hbo
  obtain ⟨e,he,hbd,hej⟩:=hbo
  rw [← Nat.eq_of_beq_eq_true hej]
  exact hpre e (by simpa using he) hbd
 intro fuel
 induction fuel with
 | zero =>
  intro listed a hsz hlen hzl _ _ _ _ _
  have:ops.size - 1∈idxs ops.size listed:=o8.2 ⟨hzs,hzl⟩
  rw [List.length_eq_zero_iff.1 hlen] at this
  cases this
 | succ fuel ih =>
  intro listed a hsz hlen hzl hcl hdf hts hother hcaps
  refine ⟨fun hr=>?_,fun i hi=>?_⟩
  ·exfalso
   cases hix:idxs ops.size listed with
   | nil=>rw [hix] at hlen; cases hlen
   | cons i l =>
    have hmem:i∈idxs ops.size listed:=by rw [hix]; simp
    obtain ⟨h1,h2⟩:=o8.1 hmem
    have ho:ops[i]?=some ops[i]:=Array.getElem?_eq_getElem h1
    have:i∈Region.ready .any ops listed:=by
     refine mem_ready.2 ⟨h2,ops[i],ho,fun e he hb=>?_⟩
     have hlt:=hdep i _ ho e he hb
     cases hle:listed.getD e.on true with
     | true =>
      have:e.on<listed.size:=by omega
      simp [this] at hle ⊢; exact hle
     | false =>
      exfalso
      have hm2:e.on∈idxs ops.size listed:=o8.2 ⟨by omega,hle⟩
      have hs:=J8 ops.size listed
      rw [hix] at hs hm2
      rcases List.mem_cons.1 hm2 with e1|e1
      ·omega
      ·have:=(List.pairwise_cons.1 hs).1 _ e1; omega
    rw [hr] at this
    cases this
  ·obtain ⟨h1,o,ho,hpre⟩:=mem_ready.1 hi
   have hin:i<ops.size:=(Array.getElem?_eq_some_iff.1 ho).1
   have hmem:i∈idxs ops.size listed:=o8.2 ⟨hin,h1⟩
   have hlen2:(idxs ops.size (listed.setIfInBounds i true)).length=fuel:=by
    rw [N3 hsz hin]
    obtain ⟨pre,post,e1,hlt,e2⟩:=S3 hmem
    rw [e2]; rw [e1] at hlen; simp at hlen ⊢; omega
   have hcl2:V1 ops (listed.setIfInBounds i true):=by
    intro k y hy hk e' he' hb'
    by_cases hki:k=i
    ·subst hki
     rw [ho] at hy; cases hy
     exact getD_set_true (hpre e' he' hb')
    ·rw [getD_set_ne true (Ne.symm hki)] at hk
     exact getD_set_true (hcl k y hy hk e' he' hb')
   unfold wpOp
   rw [ho]
   by_cases hiz:i=ops.size - 1
   ·-- the last
    subst hiz
    rw [hz] at ho; cases ho
    have hg:oz.guard=none:=by cases hq:oz.guard with|none=>rfl|some _=>rw [hq] at z1; cases z1
    have hnil:idxs ops.size (listed.setIfInBounds (ops.size - 1) true)=[]:=by
     rw [List.eq_nil_iff_forall_not_mem]
     intro j hj
     obtain ⟨j1,j2⟩:=o8.1 hj
     by_cases hjz:j=ops.size - 1
     ·rw [hjz,b3a (by omega)] at j2; cases j2
     ·rw [getD_set_ne true (Ne.symm hjz)] at j2
      have:=G3 (hbind (z2 j (by omega)) hpre)
      rw [this] at j2; cases j2
    have hready:Region.ready .any ops (listed.setIfInBounds (ops.size - 1) true)=[]:=by
     rw [List.eq_nil_iff_forall_not_mem]
     intro j hj
     obtain ⟨j1,o',j2,_⟩:=mem_ready.1 hj
     have:j∈idxs ops.size (listed.setIfInBounds (ops.size - 1) true):=o8.2 ⟨(Array.getElem?_eq_some_iff.1 j2).1,j1⟩
     rw [hnil] at this; cases this
    have hw:Region.wanted oz (yielded ops a.tmps)=true:=by simp [Region.wanted,hg]
    simp only [hw,if_true]
    refine .inl (hQ a (h.W4 hdf hts hother) _ (fun a' w' hq=>wpAny_done hready hq fuel))
   ·have hlt:i<ops.size - 1:=by omega
    have hso:=b4 i hlt
    rw [ho] at hso
    simp only [Bool.and_eq_true] at hso
    have hso:=hso.1
    have hzl2:(listed.setIfInBounds i true).getD (ops.size - 1) true=false:=by rw [getD_set_ne true hiz]; exact hzl
    cases hc:Y0 o with
    | some c =>
     obtain ⟨d,q,x⟩:=c
     obtain ⟨hd,hxD,val,hval⟩:=a8u hE h hc hso
     obtain ⟨hg,hdst⟩:=b1z hc
     have hw:Region.wanted o (yielded ops a.tmps)=true:=by simp [Region.wanted,hg]
     simp only [hw,if_true]
     refine .inl ?_
     unfold Oper.wp
     rw [hval.1 a o hc (hother x hxD)]
     have hdD:d∈a1K ops:=by
      refine List.mem_filterMap.2 ⟨o,List.mem_of_getElem? (i:=i) ?_,by rw [hc]; rfl⟩
      rw [List.getElem?_dropLast,if_pos (by simp; omega)]
      simpa using ho
     have hdlt:d<a.tmps.size:=by rw [hts,h.sz,hn]; exact hd
     show wpAny E.P .any ops Q fuel _ (a.put o.dst val) w
     rw [show o.dst=some d from hdst]
     refine ih _ _ (by simp [hsz]) hlen2 hzl2 hcl2 hdf (by simp [Act.put,hts]) (fun t ht=>?_) (fun j o' c' hj ho' hc' hl=>?_)
     ·have htd:t≠d:=fun e=>ht (e▸hdD)
      show (a.tmps.setIfInBounds d val)[t]?=_
      rw [Array.getElem?_setIfInBounds,if_neg (Ne.symm htd)]
      exact hother t ht
     ·by_cases hji:j=i
      ·subst hji
       rw [ho] at ho'; cases ho'
       rw [hc] at hc'; cases hc'
       refine ⟨val,hval,?_⟩
       show (a.tmps.setIfInBounds d val)[d]?=_
       rw [Array.getElem?_setIfInBounds,if_pos rfl,if_pos hdlt]
      ·rw [getD_set_ne false (Ne.symm hji)] at hl
       obtain ⟨val',v1,v2⟩:=hcaps j o' c' hj ho' hc' hl
       refine ⟨val',v1,?_⟩
       have hne:d≠c'.1:=by
        intro e
        exact b2N b1 hlt hj (Ne.symm hji) ho ho' hc hc' e
       show (a.tmps.setIfInBounds d val)[c'.1]?=_
       rw [Array.getElem?_setIfInBounds,if_neg hne]
       exact v2
    | none =>
     unfold a6J at hso
     rw [hc] at hso
     simp only at hso
     split at hso
     ·rename_i c hp
      simp only [List.any_eq_true,List.mem_range] at hso
      obtain ⟨j,hj,hso⟩:=hso
      split at hso
      ·rename_i o' ho'
       simp only [Bool.and_eq_true,decide_eq_true_eq] at hso
       obtain ⟨hc',hbo⟩:=hso
       have hl:=hbind hbo hpre
       obtain ⟨val,v1,v2⟩:=hcaps j o' c (by omega) ho' hc' hl
       have hg:=b02 hp
       have hw:Region.wanted o (yielded ops a.tmps)=true:=by simp [Region.wanted,hg]
       simp only [hw,if_true]
       have hxD:c.2.2∉a1K ops:=by
        have hso':=b4 j (by omega)
        rw [ho'] at hso'
        simp only [Bool.and_eq_true] at hso'
        exact (a8u hE h (d:=c.1) (q:=c.2.1) (x:=c.2.2) hc' hso'.1).2.1
       refine .inl (v1.2 a o hp (hother _ hxD) v2 _ _ ?_)
       refine ih _ _ (by simp [hsz]) hlen2 hzl2 hcl2 hdf hts hother (fun k o2 c2 hk ho2 hc2 hl2=>?_)
       by_cases hki:k=i
       ·subst hki
        rw [ho] at ho2; cases ho2
        rw [hc] at hc2; cases hc2
       ·rw [getD_set_ne false (Ne.symm hki)] at hl2
        exact hcaps k o2 c2 hk ho2 hc2 hl2
      ·cases hso
     ·cases hso

theorem b0X (hE:t7 E B) (hn:B.n=E.nt) {id:Nat} (hb:a5o E ops s=true) {oz:Oper} (hz:ops[ops.size - 1]?=some oz) {Q:Exit→Act→World→Prop}
  (hQ:∀ a w,RS B S ι (Ex.W4 (a1K ops) s) a w→∀ next:Act→World→Prop,(∀ a' w',Q .normal a' w'→next a' w')→oz.wp E.P a w next Q) (h:RS B S ι s a w):(Code.region id ops true).wp E.P Q a w:=by
 have hm:E.P.follows .mixedOrders=true:=by
  unfold a5o at hb
  simp only [Bool.and_eq_true] at hb
  exact hb.1.1.2
 refine wp_region_any hm ?_
 have hpos:0<ops.size:=by have:=(Array.getElem?_eq_some_iff.1 hz).1; omega
 have hlen:(idxs ops.size (Array.replicate ops.size false)).length=ops.size:=by
  rw [I1]; simp
 refine b2M hE hn (w:=w.drew) (h.J4 x4.nil w8.drew) hb hz (fun a' h'=>hQ a' _ h') ops.size _ a (by simp) hlen ?_ ?_ rfl rfl (fun _ _=>rfl) ?_
 ·have:ops.size - 1<ops.size:=by omega
  simp [this]
 ·intro k o hk hl
  have:k<ops.size:=(Array.getElem?_eq_some_iff.1 hk).1
  simp [this] at hl
 ·intro j o c hj ho hc hl
  have:j<ops.size:=by omega
  simp [this] at hl
end
end Go.Ex
