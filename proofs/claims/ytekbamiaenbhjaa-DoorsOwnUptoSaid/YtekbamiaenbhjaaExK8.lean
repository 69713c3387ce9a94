import Derived.Test.YtekbamiaenbhjaaExK7

namespace Go.Ex

section
variable {E:Env} {ops:Array Oper} {B:A5} {S:Nat→Prop} {ι:Ix} {s:St} {a:Act} {w:World}

theorem a2Q {s t:St} (he:G3 s t) (h:RS B S ι s a w):RS B S ι t a w:=by
 have hvx:∀ {v:AV} {vs:List Value},VX w.heap S ι s.hp v vs→VX w.heap S ι t.hp v vs:=by
  intro v vs hv
  exact VX.other (fun i _=>(he.2 i).symm) (fun i _=>w7.refl ι i) hv
 exact ⟨⟨h.hs.os,h.hs.tape,h.hs.out,h.hs.size,h.hs.frame,h.hs.slt,h.hs.s0,h.hs.s1,fun i e hi=>h.hs.ob i e ((he.2 i).trans hi),fun i e hi=>h.hs.bl i e ((he.2 i).trans hi),fun i j ei ej hi hj=>h.hs.dj i j ei ej ((he.2 i).trans hi) ((he.2 j).trans hj),fun q hq=>by obtain ⟨r1,⟨e,r2⟩,r3⟩:=h.hs.pin q hq; exact ⟨r1,⟨e,(he.2 q.1).symm.trans r2⟩,r3⟩⟩,h.X5,h.sz,
  fun m v hv=>hvx (h.fr m v ((he.1 m).trans hv))⟩

theorem RS.forget (h:RS B S ι s a w) (d:Nat):RS B S ι { s with fr:=Ex.put d .any s.fr } a w:=by
 refine ⟨h.hs,h.X5,h.sz,fun t v hv=>?_⟩
 rw [n7] at hv
 split at hv
 ·cases hv; exact ⟨_,rfl⟩
 ·exact h.fr t v hv

theorem RS.F2:∀ {l:List Oper} {s:St},RS B S ι s a w→RS B S ι (Ex.F2 l s) a w
 | [],s,h=>h
 | o::l,s,h=>by
  unfold Ex.F2
  split
  ·split
   ·exact RS.F2 (h.forget _)
   ·exact RS.F2 h
  ·exact RS.F2 h

theorem a0x {m:Nat}:∀ {l:List Oper} {s:St},look m (Ex.F2 l s).fr=look m s.fr∨look m (Ex.F2 l s).fr=some .any
 | [],s=>.inl rfl
 | o::l,s=>by
  unfold Ex.F2
  split
  ·split
   ·rename_i d _ _
    rcases a0x (m:=m) (l:=l) (s:={ s with fr:=Ex.put d .any s.fr }) with h|h
    ·rw [n7] at h
     split at h
     ·exact .inr h
     ·exact .inl h
    ·exact .inr h
   ·exact a0x
  ·exact a0x

theorem a03 {o:Oper} {c:Call} {d:Nat} (hop:o.op=.call c) (hc:c.callee=.builtin .append) (hd:o.dst=some d):∀ {l:List Oper} {s:St},o∈l→look d (Ex.F2 l s).fr=some .any
 | [],_,h=>by cases h
 | x::l,s,h=>by
  unfold Ex.F2
  rcases List.mem_cons.1 h with rfl|h
  ·rw [hop]
   simp only [hc,hd]
   rcases a0x (m:=d) (l:=l) (s:={ s with fr:=Ex.put d .any s.fr }) with h|h
   ·rw [h,n7,if_pos rfl]
   ·exact h
  ·split
   ·split
    ·exact a03 hop hc hd h
    ·exact a03 hop hc hd h
   ·exact a03 hop hc hd h

/-! ### what is quiet -/
theorem b4N (hE:w4 E B) (h:RS B S ι s a w) {o:Oper} {T:TypeId} {x:Operand} (ho:o.op=.load T x) {v:AV} {s':St} (hl:P7 E T (s.ev x) s=.ok v s') :
  s'=s∧∃ val,(execOp a.eval o).run E.P w=.ok (.value val) w∧VX w.heap S ι s.hp v [val]:=by
 have he:execOp a.eval o=(do pure (.value (← Instr.loadAt T (a.eval x)))):=by simp [execOp,ho]
 have hv:=h.ev x
 unfold P7 at hl
 split at hl
 ·rename_i t y hx
  rw [hx] at hv
  obtain ⟨b,off,e,hb,hr,hR⟩:=hv
  split at hl
  ·rename_i hc
   cases hl
   have e:a.eval x=.pointer (some ⟨b,off,none⟩):=by simpa using e
   refine ⟨rfl,i8 t (d8 w.heap b off t.size),F5 he (w':=w) ?_,_,rfl,hR⟩
   rw [e]
   simp [Instr.loadAt,Instr.sureAddr,U9 (w6 hE hc) hR]
  ·cases hl
 ·rename_i l hx
  rw [hx] at hv
  split at hl
  ·rename_i ht
   cases hl
   obtain ⟨val,k1,k2⟩:=b2A (hE:=hE) ht hv
   exact ⟨rfl,val,F5 he k1,k2⟩
  ·cases hl
 ·rename_i i p hx
  rw [hx] at hv
  obtain ⟨e,b,off,h1,h2,h3,h4⟩:=hv
  have h4:a.eval x=.pointer (some ⟨b,off,none⟩):=by simpa using h4
  split at hl
  ·rename_i u y hpt
   have hg:=D9 h1 hpt
   obtain ⟨O2,k1,k2,k3,k4,k5⟩:=G7 (G4 h3) (h.hs.ob i e h1) h.hs.slt h2 hg h3
   split at hl
   ·rename_i hc
    have hr:(Instr.loadAt T (a.eval x)).run E.P w=.ok (i8 u (d8 w.heap b off u.size)) w:=by
     rw [h4]; simp [Instr.loadAt,Instr.sureAddr,U9 (w6 hE hc) k3]
    split at hl
    ·rename_i hs
     cases hl
     have:=k3.G6 hs
     subst this
     exact ⟨rfl,_,F5 he hr,_,rfl,k3⟩
    ·cases hl
     have hp:=s5 h3
     exact ⟨rfl,_,F5 he hr,e,u,y,_,h1,h2,hg,⟨b,off,hp.1,(j9 (B9 hp.2) _ _).symm⟩,rfl⟩
   ·cases hl
  ·cases hl
 ·cases hl

theorem b4I (hE:w4 E B) (h:RS B S ι s a w) {o:Oper} (hq:quiet o=true) {p:Prop} {s1:St} (hr:D7 E ops o s=some (p,s1)) (hp:p) :
  o.guard=none∧B6 E.nt o.dst=true∧∃ v val,s1=s.put o.dst v∧(execOp a.eval o).run E.P w=.ok (.value val) w∧VX w.heap S ι s.hp v [val]:=by
 simp only [quiet,Bool.and_eq_true,Option.isNone_iff_eq_none] at hq
 obtain ⟨hg,hq⟩:=hq
 unfold D7 at hr
 rw [hg] at hr
 simp only at hr
 unfold O8 at hr
 split at hr
 ·cases hr
 ·rename_i hd
  refine ⟨hg,hd,?_⟩
  have key:∀ (r:OR),(match r.get with|none=>none|some (p,v,s')=>some (p,s'.put o.dst v))=some (p,s1)→a4D E.P S ι o a w s r→∃ v val,s1=s.put o.dst v∧(execOp a.eval o).run E.P w=.ok (.value val) w∧VX w.heap S ι s.hp v [val]:=by
   intro r hr hpr
   cases r with
   | fail why=>cases hr
   | ok v s' =>
    simp only [OR.get,Option.some.injEq,Prod.mk.injEq] at hr
    obtain ⟨e1,val,k1,k2⟩:=hpr
    exact ⟨v,val,by rw [← hr.2,e1],k1 w,k2⟩
   | B8 p' v s' =>
    simp only [OR.get,Option.some.injEq,Prod.mk.injEq] at hr
    obtain ⟨e1,val,k1,k2⟩:=hpr (by rw [hr.1]; exact hp)
    exact ⟨v,val,by rw [← hr.2,e1],k1 w,k2⟩
  split at hq
  ·rename_i x ho
   rw [ho] at hr
   simp only [l5,ho,OR.get,Option.some.injEq,Prod.mk.injEq] at hr
   exact ⟨s.ev x,a.eval x,hr.2.symm,by simp [execOp,ho],h.ev x⟩
  ·rename_i T x ho
   rw [ho] at hr
   simp only [l5,ho] at hr
   cases hl:P7 E T (s.ev x) s with
   | fail y=>rw [hl] at hr; cases hr
   | ok v s' =>
    rw [hl] at hr
    simp only [OR.get,Option.some.injEq,Prod.mk.injEq] at hr
    obtain ⟨e1,val,k1,k2⟩:=b4N hE h ho hl
    exact ⟨v,val,by rw [← hr.2,e1],k1,k2⟩
   | B8 p' v s' =>
    exfalso
    unfold P7 at hl
    repeat' split at hl
    all_goals cases hl
  ·rename_i T x n ho
   have:=a1o hE h (o:=o) (by rw [ho]; rfl)
   rw [ho] at hr
   exact key _ hr this
  ·rename_i T x n ho
   have:=a1o hE h (o:=o) (by rw [ho]; rfl)
   rw [ho] at hr
   exact key _ hr this
  ·rename_i x ho
   have:=a1o hE h (o:=o) (by rw [ho]; rfl)
   rw [ho] at hr
   exact key _ hr this
  ·cases hq

theorem b4J {o:Oper} (hq:quiet o=true) {p:Prop} {s1:St} (hr:D7 E ops o s=some (p,s1)):∃ v,s1=s.put o.dst v:=by
 simp only [quiet,Bool.and_eq_true,Option.isNone_iff_eq_none] at hq
 obtain ⟨hg,hq⟩:=hq
 unfold D7 at hr
 rw [hg] at hr
 simp only at hr
 unfold O8 at hr
 split at hr
 ·cases hr
 ·rename_i hd
  have key:∀ (r:OR) (t:St),(∀ v s',r=.ok v s'→s'=s)→(∀ p v s',r=.B8 p v s'→s'=s)→(match r.get with|none=>none|some (p,v,s')=>some (p,s'.put o.dst v))=some (p,s1)→∃ v,s1=s.put o.dst v:=by
   intro r t h1 h2 hr
   cases r with
   | fail why=>cases hr
   | ok v s' =>
    simp only [OR.get,Option.some.injEq,Prod.mk.injEq] at hr
    exact ⟨v,by rw [← hr.2,h1 v s' rfl]⟩
   | B8 p' v s' =>
    simp only [OR.get,Option.some.injEq,Prod.mk.injEq] at hr
    exact ⟨v,by rw [← hr.2,h2 p' v s' rfl]⟩
  split at hq
  ·rename_i x ho
   rw [ho] at hr
   refine key _ s ?_ ?_ hr<;>(intros; simp_all [l5])
  ·rename_i T x ho
   rw [ho] at hr
   refine key _ s ?_ ?_ hr
   ·intro v s' e
    simp only [l5,ho] at e
    unfold P7 at e
    repeat' split at e
    all_goals (cases e; try rfl)
   ·intro q v s' e
    simp only [l5,ho] at e
    unfold P7 at e
    repeat' split at e
    all_goals (cases e; try rfl)
  ·rename_i T x n ho
   rw [ho] at hr
   refine key _ s ?_ ?_ hr
   ·intro v s' e
    simp only [l5,ho] at e
    repeat' split at e
    all_goals (cases e; try rfl)
   ·intro q v s' e
    simp only [l5,ho] at e
    repeat' split at e
    all_goals (cases e; try rfl)
  ·rename_i T x n ho
   rw [ho] at hr
   refine key _ s ?_ ?_ hr
   ·intro v s' e
    simp only [l5,ho] at e
    repeat' split at e
    all_goals (cases e; try rfl)
   ·intro q v s' e
    simp only [l5,ho] at e
    repeat' split at e
    all_goals (cases e; try rfl)
  ·rename_i x ho
   rw [ho] at hr
   refine key _ s ?_ ?_ hr
   ·intro v s' e
    simp only [l5,ho] at e
    repeat' split at e
    all_goals (cases e; try rfl)
   ·intro q v s' e
    simp only [l5,ho] at e
    repeat' split at e
    all_goals (cases e; try rfl)
  ·cases hq

/-! ### a store of a plain value between an append and its own store -/
theorem b2e {o:Oper} (hg:o.guard=none) {T:TypeId} {a x:Operand} (ho:o.op=.store T a x) {j:Nat} {q:List Step} {v:Ty} {z:v.den} (ha:s.ev a=.ptr j q) (hx:s.ev x=.val v z) {p:Prop} {s1:St} (h:D7 E ops o s=some (p,s1)) :
  ∃ (e:f8) (r:Sigma Ty.den) (u:Ty) (y:u.den),B6 E.nt o.dst=true∧look j s.hp=some e∧p7 e.ty e.x q (I4 u ⟨v,z⟩).1 (I4 u ⟨v,z⟩).2=some r∧(j8 e.ty e.x q=some ⟨u,y⟩∧F3 E T u=true)∧s1=((s.kill j e.kd q).q9 j (e.y9 r)).put o.dst (.raw undef):=by
 have hr:∀ t,D7 E ops o t=O8 E o t:=fun t=>by unfold D7; rw [hg]
 rw [hr] at h
 have hop:∀ t,l5 E o t=(match t.ev a with|.ptr i p=>I3 E T i p (t.ev x) t|_=>.fail "store"):=fun t=>by unfold l5; rw [ho]; rfl
 have hrun:∀ t,O8 E o t=(match B6 E.nt o.dst with|false=>none|true=>match (l5 E o t).get with|none=>none|some (p,v,s')=>some (p,s'.put o.dst v)):=fun t=>by unfold O8; rw [ho]; rfl
 rw [hrun] at h
 split at h
 ·cases h
 ·rename_i hd
  rw [hop,ha] at h
  simp only at h
  rw [hx] at h
  cases hob:look j s.hp with
  | none =>
   have:I3 E T j q (.val v z) s=.fail "store: object":=by unfold I3 St.obj; rw [hob]
   rw [this] at h; cases h
  | some e =>
   cases hgp:j8 e.ty e.x q with
   | none =>
    have:I3 E T j q (.val v z) s=.fail "store: path":=by unfold I3 St.obj; rw [hob]; simp only [hgp]
    rw [this] at h; cases h
   | some uy =>
    obtain ⟨u,y⟩:=uy
    cases hc:F3 E T u with
    | false =>
     have:I3 E T j q (.val v z) s=.fail "store: type":=by unfold I3 St.obj; rw [hob]; simp only [hgp,hc]
     rw [this] at h; cases h
    | true =>
     have hsA:I3 E T j q (.val v z) s=(match p7 e.ty e.x q (I4 u ⟨v,z⟩).1 (I4 u ⟨v,z⟩).2 with
       | some r=>.ok (.raw undef) ((s.kill j e.kd q).q9 j (e.y9 r))
       | none=>.fail "store: value"):=by
      unfold I3 St.obj; rw [hob]; simp only [hgp,hc,AV.U4,AV.L9,St.p8]
      cases p7 e.ty e.x q (I4 u ⟨v,z⟩).1 (I4 u ⟨v,z⟩).2 with
      | none=>rfl
      | some r=>rfl
     rw [hsA] at h
     cases hset:p7 e.ty e.x q (I4 u ⟨v,z⟩).1 (I4 u ⟨v,z⟩).2 with
     | none=>rw [hset] at h; cases h
     | some r =>
      rw [hset] at h
      simp only [OR.get,Option.some.injEq,Prod.mk.injEq] at h
      obtain ⟨rfl,rfl⟩:=h
      exact ⟨e,r,u,y,hd,rfl,hset,⟨hgp,hc⟩,rfl⟩

theorem b52 (hE:w4 E B) (hn:B.n=E.nt) (h:RS B S ι s a w) {o:Oper} (hg:o.guard=none) {T:TypeId} {ad x:Operand} (ho:o.op=.store T ad x) {j:Nat} {q:List Step} {v:Ty} {z:v.den} (ha:s.ev ad=.ptr j q) (hx:s.ev x=.val v z) {p:Prop} {s1:St} (hr:D7 E ops o s=some (p,s1)) :
  ∃ ι' w',(execOp a.eval o).run E.P w=.ok .skip w'∧RS B S ι' s1 (a.put o.dst undef) w'∧∀ {g:List Nat} {i:Nat} {e:f8} {p0:List Step} {t0:Ty} {l m:List t0.den} {b off:Nat} {v':Value},i≠j→j∉g→look i s.hp=some e→r8 e.ty e.x p0→j8 e.ty e.x p0=some ⟨.d0 true t0,l⟩→a5T B S ι s.hp g i e p0 t0 l m b off v' w→a5T B S ι' s1.hp g i e p0 t0 l m b off v' w':=by
 obtain ⟨ej,r,u,y,hd,hob,hset,⟨hgp,hck⟩,rfl⟩:=b2e hg ho ha hx hr
 have hadr:=h.ev ad
 rw [ha] at hadr
 obtain ⟨e',b0,off0,c1,hok,hl,c4⟩:=hadr
 rw [hob] at c1; cases c1
 have c4:a.eval ad=.pointer (some ⟨b0,off0,none⟩):=by simpa using c4
 have hval:=h.ev x
 rw [hx] at hval
 obtain ⟨cs,hv1,hz⟩:=hval
 have hv1:a.eval x=i8 v cs:=by simpa using hv1
 obtain ⟨hz,hagg⟩:=b0b (u:=u) (q:=⟨v,z⟩) hz
 rw [← a1P hagg] at hv1
 generalize (I4 u ⟨v,z⟩)=fz at hset hz hagg hv1
 obtain ⟨v,z⟩:=fz
 dsimp only at hset hz hv1
 have hnb:=G4 hl
 obtain ⟨Op,m1,mn,m2,m3,m4,m5⟩:=G7 hnb (h.hs.ob j ej hob) h.hs.slt hok hgp hl
 have hsh:=a1i hgp hset
 have hnS:¬ S b0:=(h.hs.bl j ej hob b0 m4).1
 have hcs:cs.length=u.size:=by rw [hz.length,C4 hsh]
 obtain ⟨ι',⟨O,rfl,hO⟩,h1⟩:=h.a6a hob hok hgp hl (u':=v) (z:=z) (cs:=cs) (O2:=[]) (fun H' hsz hc=>hz.o5 (fun c hc'=>hc.rest c (by
   rintro rfl
   rcases hc' with hc'|hc'
   ·cases hc'
   ·exact hnS hc') (by
   rcases hc' with hc'|hc'
   ·cases hc'
   ·exact h.hs.slt c hc')) (fun _ h=>h)) hcs List.nodup_nil (by simp) hset (fun how _=>a9M hset (b2t hl how))
 have hrun:(execOp a.eval o).run E.P w=.ok .skip (w.setRow b0 (y6 (o6 w.heap b0) off0 cs).toArray):=by
  simp [execOp,ho,c4,hv1,Instr.storeAt,Instr.sureAddr,a0u (w6 hE hck) hsh m5 hz]
 refine ⟨_,_,hrun,h1.put (by rw [hn]; exact hd) (v:=.raw undef) (val:=undef) rfl,?_⟩
 rintro g i e p0 t0 l m b off v' hij hjg hi hok0 hg0 ⟨O',k1,k2,k3,k4,k5⟩
 have hold:∀ c,c≠b0→(w.setRow b0 (y6 (o6 w.heap b0) off0 cs).toArray).heap[c]?=w.heap[c]?:=fun c hc=>setRow_other hc
 have hsame:w7 ι (ι.t5 j O) i:=L6 hij O
 have hnbi:=G4 k1
 have hbO:b0∉O':=fun hc=>(k5 b0 hc).2.1 j ej (Ne.symm hij) hjg hob m4
 refine ⟨O',?_,k2.o5 (fun c hc=>hold c (by
   rintro rfl
   rcases hc with hc|hc
   ·exact hbO hc
   ·exact hnS hc)) (fun _ h=>h),k3,k4,fun c hc=>⟨?_,fun k ek hk hkg hlk=>?_,fun hci=>?_⟩⟩
 ·rw [hsame.loc]
  exact a1I hnbi (h.hs.ob i e hi) h.hs.slt (fun c hc=>hold c (by rintro rfl; exact h.hs.dj i j e ej hi hob hij c hc m4)) hok0 k1
 ·obtain ⟨f1,f2,f3⟩:=(k5 c hc).1
  exact ⟨f1,f2,by rw [setRow_size]; exact f3⟩
 ·rw [S7] at hlk
  simp only [St.q9,n7] at hlk
  by_cases hkj:k=j
  ·subst hkj
   rw [if_pos rfl] at hlk; cases hlk
   intro hcb
   refine (k5 c hc).2.1 k ej hk hkg hob ?_
   cases ej with
   | var t1 x1 =>
    simp only [i7,f8.y9,Ix.t5,if_true,List.mem_cons] at hcb ⊢
    rcases hcb with hcb|hcb
    ·exact .inl hcb
    ·rcases (hO c hcb).1 with h9|h9
     ·exact .inr h9
     ·cases h9
   | own t1 x1 =>
    simp only [i7,f8.y9,Ix.t5,if_true] at hcb ⊢
    rcases (hO c hcb).1 with h9|h9
    ·exact h9
    ·cases h9
   | F4=>exact absurd rfl hnb
  ·rw [if_neg hkj] at hlk
   rw [(L6 hkj O).i7]
   exact (k5 c hc).2.1 k ek hk hkg hlk
 ·rw [hsame.i7] at hci
  obtain ⟨Op',o1,o2⟩:=(k5 c hc).2.2 hci
  obtain ⟨O3,n1,_,n3,_,n5,_⟩:=G7 hnbi (h.hs.ob i e hi) h.hs.slt hok0 hg0 k1
  have hbi:b0≠b:=by
   rintro rfl
   exact h.hs.dj i j e ej hi hob hij b0 n5 m4
  have hO3:O3=Op':=n3.det o1
  have hOpi:∀ c'∈Op',c'≠b0:=by
   rintro c' hc' rfl
   rw [← hO3] at hc'
   exact h.hs.dj i j e ej hi hob hij c' (B7 (n1 c' hc')) m4
  refine ⟨Op',?_,o2⟩
  rw [j9 (hold b hbi.symm)]
  exact o1.o5 (fun c' hc'=>hold c' (by
   rintro rfl
   rcases hc' with hc'|hc'
   ·exact hOpi _ hc' rfl
   ·exact hnS hc')) (fun _ h=>h)

theorem Y3 {T:List Nat} {f:AV→AV} (hf:Trim T f) {u v:AV} (h:f u=v) (hv:v.ref=true∨(v.plain=true∧v≠.any)):u=v:=by
 cases u with
 | cons a b=>rw [hf.cons] at h; subst h; rcases hv with hv|⟨hv,_⟩<;>cases hv
 | F9 l=>rw [hf.F9] at h; subst h; rcases hv with hv|⟨hv,_⟩<;>cases hv
 | y8 g l=>rw [hf.y8] at h; subst h; rcases hv with hv|⟨hv,_⟩<;>cases hv
 | bx l=>rw [hf.bx] at h; subst h; rcases hv with hv|⟨hv,_⟩<;>cases hv
 | rc g l=>rw [hf.rc] at h; subst h; rcases hv with hv|⟨hv,_⟩<;>cases hv
 | ptr i p=>rcases hf.atom _ (rfl:(AV.ptr i p).ref=true) with e|e<;>rw [e] at h<;>first|exact h|(subst h; rcases hv with hv|⟨_,hv⟩<;>first|cases hv|exact absurd rfl hv)
 | at_ i p=>rcases hf.atom _ (rfl:(AV.at_ i p).ref=true) with e|e<;>rw [e] at h<;>first|exact h|(subst h; rcases hv with hv|⟨_,hv⟩<;>first|cases hv|exact absurd rfl hv)
 | sub i p x y=>rcases hf.atom _ (rfl:(AV.sub i p x y).ref=true) with e|e<;>rw [e] at h<;>first|exact h|(subst h; rcases hv with hv|⟨_,hv⟩<;>first|cases hv|exact absurd rfl hv)
 | _=>rw [hf.plain _ rfl] at h; exact h

theorem b4a {u:Ty} {v:AV} {r:Sigma fun t:Ty=>List t.den} {g:List Nat} (h:v.S4 s u=some (r,g)):v.ref=true∨(v.plain=true∧v≠.any):=by
 cases v with
 | ptr i p=>exact .inl rfl
 | at_ i p=>exact .inl rfl
 | sub i p x y=>exact .inl rfl
 | raw v=>exact .inr ⟨rfl,by intro h; cases h⟩
 | val t x=>exact .inr ⟨rfl,by intro h; cases h⟩
 | N3 t x=>exact .inr ⟨rfl,by intro h; cases h⟩
 | nil=>exact .inr ⟨rfl,by intro h; cases h⟩
 | _=>exfalso; simp [AV.S4,AV.els] at h

theorem a8n {M:List Nat} {q:W2} {n:Nat} (h:a6q ops M q n s=true) {j:Nat} (hj:j<n) (hjk:j≠q.k) {o:Oper} (ho:ops[j]?=some o):(M.getD q.k 0).testBit j=true∨quiet o=true∨a17 ops q n j o s=true:=by
 simp only [a6q,List.all_eq_true,List.mem_range] at h
 have:=h j hj
 simp only [Bool.or_eq_true,ho] at this
 rcases this with h|(h|h)|h
 ·exact absurd (Nat.eq_of_beq_eq_true h) hjk
 ·exact .inl h
 ·exact .inr (.inl h)
 ·exact .inr (.inr h)

theorem a5e {q:W2} {n j:Nat} {o:Oper} (h:a17 ops q n j o s=true):o.guard=none∧o.dst=none∧∃ T ad x j0 q0 v z,o.op=.store T ad x∧s.ev ad=.ptr j0 q0∧s.ev x=.val v z∧(s.ev q.x).g9 j0=false∧(s.ev q.y).g9 j0=false∧∀ j',j<j'→j'<n→∀ o',ops[j']?=some o'→∀ d,o'.dst=some d→d∉looks ops o:=by
 unfold a17 at h
 split at h
 ·rename_i T ad x ho
  simp only [Bool.and_eq_true] at h
  obtain ⟨⟨⟨h1,hg⟩,hd⟩,h2⟩:=h
  split at h1
  ·rename_i j0 q0 v z ha hx
   simp only [Bool.and_eq_true,Bool.not_eq_true'] at h1
   refine ⟨by simpa using hg,by simpa using hd,T,ad,x,j0,q0,v,z,ho,ha,hx,h1.1,h1.2,fun j' hj hj' o' ho' d hd hm=>?_⟩
   simp only [List.all_eq_true,List.mem_range] at h2
   have:=h2 j' hj'
   rw [Bool.or_eq_true] at this
   rcases this with h9|h9
   ·have:=Nat.le_of_ble_eq_true h9; omega
   ·rw [ho'] at h9
    simp [a4Y,hd,hm] at h9
  ·cases h1
 ·cases h

theorem Trim.a3G {T T':List Nat} {f g:AV→AV} (hf:Trim T f) (hg:Trim T' g):Trim (T++T') (fun u=>g (f u)):=by
 refine ⟨fun a b=>by rw [hf.cons,hg.cons],fun l=>by rw [hf.F9,hg.F9],fun k l=>by rw [hf.y8,hg.y8],fun l=>by rw [hf.bx,hg.bx],fun k l=>by rw [hf.rc,hg.rc],fun u hu=>?_,fun u hu h=>?_,fun u hu=>by rw [hf.plain u hu,hg.plain u hu]⟩
 ·rcases hf.atom u hu with e|e
  ·rw [e]; exact hg.atom u hu
  ·rw [e]; exact .inr (hg.plain _ rfl)
 ·rw [hf.a4d u hu (fun i hi=>h i (List.mem_append_left _ hi)),hg.a4d u hu (fun i hi=>h i (List.mem_append_right _ hi))]

theorem a7A {J:List Nat} {F:AV→AV} (hF:Trim J F) {s t:St} {z:Operand} (h:∀ m,z=.tmp m→look m t.fr=(look m s.fr).map F):t.ev z=F (s.ev z):=by
 cases z with
 | tmp m =>
  have hg:t.get m=F (s.get m):=by
   simp only [St.get,h m rfl]
   cases look m s.fr with
   | none=>exact (hF.plain _ rfl).symm
   | some v=>rfl
  rw [a2Z,a2Z]
  unfold gq
  cases Nat.beq m E7 with
  | true=>exact (hF.plain _ rfl).symm
  | false=>exact hg
 | const c=>exact (hF.fix _ (fun i _=>a13 c i)).symm
 | global g=>exact (hF.plain _ rfl).symm
 | func f=>exact (hF.fix _ (fun i _=>rfl)).symm

theorem a2q {M:Nat→Nat} {q:W2} {n:Nat} {sF:St}:∀ {l:List Nat} {acc:List (Nat×St)} {s s':St},N6 E ops M acc l s s'→G3 s' sF→uniq s.fr→l.Pairwise (·<·)→(∀ j∈l,j<n)→(∀ j∈l,∀ o,ops[j]?=some o→quiet o=true∨a17 ops q n j o sF=true) →
  ∃ (J:List Nat) (f:AV→AV),Trim J f∧(∀ j∈J,(sF.ev q.x).g9 j=false∧(sF.ev q.y).g9 j=false)∧(∀ i,i∉J→look i s'.hp=look i s.hp)∧∀ m,(∀ j∈l,∀ o,ops[j]?=some o→o.dst≠some m)→look m s'.fr=(look m s.fr).map f
 | [],acc,s,s',h,_,_,_,_,_=>by
  obtain rfl:s=s':=h
  exact ⟨[],fun u=>u,Trim.id _,by simp,fun _ _=>rfl,fun m _=>by simp⟩
 | j::l,acc,s,s',⟨o,ho,_,p,s1,h1,_,h2⟩,hev,hu,hpw,hlt,hq=>by
  obtain ⟨hpw1,hpw2⟩:=List.pairwise_cons.1 hpw
  obtain ⟨J,f,k1,k2,k3,k4⟩:=a2q h2 hev (H5 hu h1) hpw2 (fun j' hj'=>hlt j' (by simp [hj'])) (fun j' hj'=>hq j' (by simp [hj']))
  rcases hq j (by simp) o ho with hqt|hls
  ·obtain ⟨v,rfl⟩:=b4J hqt h1
   refine ⟨J,f,k1,k2,fun i hi=>(k3 i hi).trans (by rw [S7]),fun m hm=>?_⟩
   rw [k4 m (fun j' hj'=>hm j' (by simp [hj'])),N9,if_neg (hm j (by simp) o ho)]
  ·obtain ⟨hg,hdn,T,ad,x,j0,q0,v,z,g1,g2,g3,g4,g5,g6⟩:=a5e hls
   -- what the store saw
   obtain ⟨v0,ids,f0,h0,z1,z2,z3,z4,z5⟩:=W9 (ops:=ops) hu h1
   obtain ⟨s1',y1,_,y2⟩:=z5 s hu ((G3.refl s).a1n _ _) z2
   rw [h1] at y1; cases y1
   have hsee:∀ y,y∈o.op.operands.toList→sF.ev y=f (f0 (s.ev y)):=by
    intro y hy
    refine a7A (z1.a3G k1) (fun m hm=>?_)
    subst hm
    have hml:=U1 (ops:=ops) hy
    rw [← hev.1 m,k4 m (fun j' hj' o' ho' hd'=>g6 j' (hpw1 j' hj') (hlt j' (by simp [hj'])) o' ho' m hd' hml),y2.fr,if_neg (by rw [hdn]; intro h; cases h)]
    cases look m s.fr<;>rfl
   have ha:s.ev ad=.ptr j0 q0:=Y3 (z1.a3G k1) ((hsee ad (by rw [g1]; simp [Op.operands])).symm.trans g2) (.inl rfl)
   have hx:s.ev x=.val v z:=Y3 (z1.a3G k1) ((hsee x (by rw [g1]; simp [Op.operands])).symm.trans g3) (.inr ⟨rfl,by intro h; cases h⟩)
   obtain ⟨e,r,_,_,_,_,_,_,rfl⟩:=b2e hg g1 ha hx h1
   refine ⟨[j0]++J,fun u=>f (AV.kill j0 e.kd q0 u),(Trim.kill j0 e.kd q0).a3G k1,fun i hi=>?_,fun i hi=>?_,fun m hm=>?_⟩
   ·rcases List.mem_append.1 hi with hi|hi
    ·rw [List.mem_singleton] at hi; subst hi; exact ⟨g4,g5⟩
    ·exact k2 i hi
   ·rw [k3 i (fun h=>hi (List.mem_append_right _ h)),S7]
    simp only [St.q9,n7]
    rw [if_neg (fun h=>hi (List.mem_append_left _ (by simp [h])))]
    rfl
   ·rw [k4 m (fun j' hj'=>hm j' (by simp [hj'])),N9,if_neg (hm j (by simp) o ho)]
    have e1:look m ((s.kill j0 e.kd q0).q9 j0 (e.y9 r)).fr=(look m s.fr).map (AV.kill j0 e.kd q0):=G8 m _ _
    rw [e1]
    cases look m s.fr<;>rfl

/-! ### what the check of a pending append says -/
theorem a37 {M:List Nat} {k n:Nat} (h:a6l ops M k n=true):n+1=ops.size∧k<n∧∃ ok,ops[k]?=some ok∧∀ j,j<n→(M.getD n 0).testBit j=true∧(j≠k→∃ o,ops[j]?=some o∧(∀ d,ok.dst=some d→o.dst≠some d) ∧
  ((M.getD k 0).testBit j=true∨((quiet o=true∨b75 o=true)∧∀ d,o.dst=some d→d∉looks ops ok))):=by
 simp only [a6l,Bool.and_eq_true] at h
 obtain ⟨⟨h1,h2⟩,h3⟩:=h
 have hn:=Nat.eq_of_beq_eq_true h1
 refine ⟨hn,by simpa [Nat.blt_eq] using h2,?_⟩
 split at h3
 ·rename_i ok hok
  refine ⟨ok,hok,fun j hj=>?_⟩
  simp only [List.all_eq_true,List.mem_range] at h3
  have:=h3 j hj
  simp only [Bool.and_eq_true,Bool.or_eq_true] at this
  obtain ⟨m1,m2⟩:=this
  refine ⟨m1,fun hjk=>?_⟩
  rcases m2 with m2|m2
  ·exact absurd (Nat.eq_of_beq_eq_true m2) hjk
  ·split at m2
   ·rename_i o ho
    simp only [Bool.and_eq_true,Bool.or_eq_true] at m2
    refine ⟨o,ho,fun d hd hod=>?_,m2.2.imp id (fun h=>⟨h.1,fun d hd hdl=>?_⟩)⟩
    ·have:=m2.1
     simp only [a4Y,hod,hd,Option.toList] at this
     simp at this
    ·have:=h.2
     simp only [a4Y,hd] at this
     simp [hdl] at this
   ·cases m2
 ·cases h3

theorem a5I {M:List Nat} {q:W2} {n:Nat} {o:Oper} {s:St} {p:Prop} {s2:St} (h:a7x E ops M q n o s=some (p,s2)):∃ T2 ad s3,o.guard=none∧o.op=.store T2 ad (.tmp q.d)∧(∀ t,ad=.tmp t→t≠q.d)∧(a6l ops M q.k n=true∧a6q ops M q n s=true)∧B6 E.nt o.dst=true ∧
  a4w E q.T q.U T2 (s.ev q.x) (s.ev q.y) (s.ev ad) q.d s=some (p,s3)∧s2=s3.put o.dst (.raw undef):=by
 unfold a7x at h
 split at h
 ·rename_i T2 ad d' hg hop
  split at h
  ·rename_i hc
   simp only [Bool.and_eq_true] at hc
   obtain ⟨⟨⟨⟨c1,c2⟩,c3⟩,c5⟩,c4⟩:=hc
   obtain rfl:=Nat.eq_of_beq_eq_true c1
   split at h
   ·rename_i p' s3 hs
    cases h
    exact ⟨T2,ad,s3,hg,hop,fun t e=>by subst e; rintro rfl; simp at c2,⟨c3,c5⟩,c4,hs,rfl⟩
   ·cases h
  ·cases h
 ·cases h

theorem a5S (hE:w4 E B) {x y adv:AV} {T U T2:TypeId} {d:Nat} {p:Prop} {s2:St} (hb:a4w E T U T2 x y adv d s=some (p,s2)) (hp:p) :
  ∃ i p0 e t0 l m g r q bts,x=.at_ i p0∧adv=.ptr i p0∧look i s.hp=some e∧i∉g∧g.Nodup∧(g.all fun i=>!pinned i)=true∧j8 e.ty e.x p0=some ⟨.d0 true t0,l⟩∧F3 E T2 (.d0 true t0)=true ∧
   p7 e.ty e.x p0 (.d0 true t0) (l++m)=some r∧s2=(((St.p8 g (s.put (some d) .any)).kill i e.kd p0).q9 i (e.y9 r))∧look T E.tt=some ⟨.d0 q t0,bts⟩ ∧
   ((∃ e',E.P.underlying U=some (.slice e'))∨E.P.underlying U=some .string)∧y.S4 s t0=some (⟨t0,m⟩,g)∧l.length+m.length≤140737488355328∧(l.length+m.length)*t0.wb≤140737488355328 ∧
   ((∃ t x,e=.var t x)∨∃ t x j q,e=.own (.d0 true t) x∧p0=.idx j::q):=by
 unfold a4w at hb
 split at hb
 ·rename_i i p0 j q q1 t0 bts u1 bts1 hT hU
  split at hb
  ·rename_i e hob hku
   simp only [Bool.and_eq_true] at hku
   obtain ⟨hij,hku⟩:=hku
   have hij:=Nat.eq_of_beq_eq_true hij
   subst hij
   split at hb
   ·rename_i u l hg
    split at hb
    ·rename_i t m g happ
     split at hb
     ·rename_i hu
      split at hb
      ·rename_i ht
       subst hu; subst ht
       split at hb
       ·rename_i r hset
        split at hb
        ·rename_i hck
         cases hb
         simp only [Bool.and_eq_true,Bool.not_eq_true'] at hck
         obtain ⟨⟨⟨⟨hck,hst⟩,hgi⟩,hgn⟩,hgp⟩:=hck
         obtain ⟨rfl,h63,hby⟩:=hp
         have hgi:i∉g:=by intro hm; simp [hm] at hgi
         have hk:(∃ e',E.P.underlying U=some (.slice e'))∨E.P.underlying U=some .string:=by
          cases u1<;>first|cases hku|skip
          ·exact .inr (K7 (s7 hE hU))
          ·obtain ⟨et,k',f1,_⟩:=B4 (s7 hE hU)
           exact .inl ⟨et,f1⟩
         exact ⟨i,q,e,_,l,m,g,r,_,_,rfl,rfl,hob,hgi,V1 hgn,hgp,hg,hck,hset,rfl,hT,hk,happ,h63,hby,(W5 hst).2⟩
        ·cases hb
       ·cases hb
      ·cases hb
     ·cases hb
    ·cases hb
   ·cases hb
  ·cases hb
 ·cases hb

theorem F8.cut:∀ {A C:List Oper} {o:Oper},F8 (A++o::C)→F8 (A++C)∧∀ x∈A++C,∀ d,x.dst=some d→o.dst≠some d
 | [],C,o,h=>⟨h.2,fun x hx d hxd hod=>h.1 d hod x hx hxd⟩
 | y::A,C,o,h=>by
  obtain ⟨m1,m2⟩:=F8.cut h.2
  refine ⟨⟨fun d hd x hx=>h.1 d hd x (by simp at hx ⊢; rcases hx with hx|hx<;>simp [hx]),m1⟩,fun x hx d hxd hod=>?_⟩
  rcases List.mem_cons.1 hx with rfl|hx
  ·exact h.1 d hxd o (by simp) hod
  ·exact m2 x hx d hxd hod

theorem F8.sub {f:Nat→Bool}:∀ {l:List Nat},F8 (rem ops l)→F8 (rem ops (l.filter f))
 | [],h=>h
 | i::l,h=>by
  cases ho:ops[i]? with
  | none =>
   have e:rem ops (i::l)=rem ops l:=by simp [rem,ho]
   rw [e] at h
   have:=F8.sub (f:=f) h
   rw [List.filter_cons]
   split
   ·have e:rem ops (i::l.filter f)=rem ops (l.filter f):=by simp [rem,ho]
    rw [e]; exact this
   ·exact this
  | some o =>
   rw [a3o ho] at h
   rw [List.filter_cons]
   split
   ·rw [a3o ho]
    refine ⟨fun d hd x hx=>h.1 d hd x ?_,F8.sub h.2⟩
    obtain ⟨j,hj,hjx⟩:=List.mem_filterMap.1 hx
    exact List.mem_filterMap.2 ⟨j,(List.mem_filter.1 hj).1,hjx⟩
   ·exact F8.sub h.2

theorem a4e {n i:Nat} {listed:Array Bool} {f:Nat→Bool} (hs:listed.size=n) (hi:i∈idxs n listed) (hf:f i=true):∃ pre post,(idxs n listed).filter f=pre++i::post∧(∀ j∈pre,j<i) ∧
  (idxs n (listed.setIfInBounds i true)).filter f=pre++post:=by
 obtain ⟨pre,post,e,h1,h2⟩:=a1E hi
 refine ⟨pre.filter f,post.filter f,by rw [e,List.filter_append,List.filter_cons,if_pos hf],fun j hj=>h1 j (List.mem_filter.1 hj).1,?_⟩
 rw [X2 hs (w5.1 hi).1,h2,List.filter_append]

theorem b4W {n i:Nat} {listed:Array Bool} {f g:Nat→Bool} (hs:listed.size=n) (hi:i<n) (hg:∀ j,g j=(f j && !(j == i))):(idxs n (listed.setIfInBounds i true)).filter f=(idxs n listed).filter g:=by
 rw [X2 hs hi,List.filter_filter]
 exact List.filter_congr (fun j _=>(hg j).symm)

theorem a18 {n i fuel:Nat} {listed:Array Bool} (hs:listed.size=n) (hi:i∈idxs n listed) (hl:(idxs n listed).length=fuel+1):(idxs n (listed.setIfInBounds i true)).length=fuel:=by
 obtain ⟨pre,post,e,h1,h2⟩:=a1E hi
 rw [X2 hs (w5.1 hi).1,h2]
 rw [e] at hl
 simp at hl ⊢; omega

section
variable {q:W2} {n:Nat} {s1:St}

theorem a0p.set {listed:Array Bool} (hcl:a0p ops listed) {i:Nat} {o:Oper} (ho:ops[i]?=some o) (hpre:∀ e∈o.after,Region.binds .any e=true→listed.getD e.on false=true):a0p ops (listed.setIfInBounds i true):=by
 intro k y hy hk e' he' hb'
 by_cases hki:k=i
 ·subst hki
  rw [ho] at hy; cases hy
  exact getD_set_true (hpre e' he' hb')
 ·rw [getD_set_ne true (Ne.symm hki)] at hk
  exact getD_set_true (hcl k y hy hk e' he' hb')

theorem a5E {listed:Array Bool} {i:Nat} (hi:i<listed.size):(listed.setIfInBounds i true).getD i false=true:=by simp [hi]

theorem a6i (hd:T1 ops=true) {listed:Array Bool} (hsz:listed.size=ops.size) (hne:idxs ops.size listed≠[]):Region.ready .any ops listed≠[]:=by
 have hM:=a1k hd
 intro hr
 cases hix:idxs ops.size listed with
 | nil=>exact hne hix
 | cons i l =>
  have hmem:i∈idxs ops.size listed:=by rw [hix]; simp
  obtain ⟨h1,h2⟩:=w5.1 hmem
  have ho:ops[i]?=some ops[i]:=Array.getElem?_eq_getElem h1
  have:i∈Region.ready .any ops listed:=by
   refine mem_ready.2 ⟨h2,ops[i],ho,fun e he hb=>?_⟩
   have hlt:=(hM i _ ho).1 e he hb
   cases hle:listed.getD e.on true with
   | true =>
    have:e.on<listed.size:=by omega
    simp [this] at hle ⊢; exact hle
   | false =>
    exfalso
    have hm2:e.on∈idxs ops.size listed:=w5.2 ⟨by omega,hle⟩
    have hs:=R6 ops.size listed
    rw [hix] at hs hm2
    rcases List.mem_cons.1 hm2 with e1|e1
    ·omega
    ·have:=(List.pairwise_cons.1 hs).1 _ e1; omega
  rw [hr] at this
  cases this

theorem b3z (hE:w4 E B) (hn:B.n=E.nt) (hd:T1 ops=true) {Q:Exit→Act→World→Prop} (hap:F8 ops.toList) (hA:a7i E ops q) {o2:Oper} (ho2:ops[n]?=some o2) {p:Prop} {s2:St} (hfin:a7x E ops (t8 ops.toList []) q n o2 s1=some (p,s2)) (hp:p)
  (hQ:∀ S ι a w,RS B S ι s2 a w→Q .normal a w) {i:Nat} {e:f8} {p0:List Step} {t0:Ty} {l m:List t0.den} {g:List Nat} (hx:s1.ev q.x=.at_ i p0) (he:look i s1.hp=some e) (hok:r8 e.ty e.x p0) (hg:j8 e.ty e.x p0=some ⟨.d0 true t0,l⟩)
  (happ:(s1.ev q.y).S4 s1 t0=some (⟨t0,m⟩,g)) {v':Value} :
  ∀ (fuel:Nat) (listed:Array Bool) (S:Nat→Prop) (ι:Ix) (s s':St) (a:Act) (w:World),listed.size=ops.size→(idxs ops.size listed).length=fuel→a0p ops listed→listed.getD q.k false=true→listed.getD n true=false→uniq s.fr→G0 s (rem ops ((idxs ops.size listed).filter (fun j=>!(j == n)))) →
   N6 E ops (fun i=>(t8 ops.toList []).getD i 0) [] ((idxs ops.size listed).filter (fun j=>!(j == n))) s s'→G3 s' s1→RS B S ι s a w→a.eval (.tmp q.d)=v'→(∀ b off,Loc w.heap ι i e p0=some (b,off)→a5T B S ι s.hp g i e p0 t0 l m b off v' w) →
   wpAny E.P .any ops Q fuel listed a w:=by
 have hM:=a1k hd
 obtain ⟨T2,ad,s3,f1,f2,f3,⟨f4,f4'⟩,f5,f6,rfl⟩:=a5I hfin
 obtain ⟨hns,hkn,ok,hok1,hsp⟩:=a37 f4
 obtain ⟨oa,c,a1,a2,a3,a4,a5,a6,a7,a8⟩:=hA
 have e9:oa=ok:=by rw [a1] at hok1; cases hok1; rfl
 subst e9
 have hndst:∀ j o,j<n→j≠q.k→ops[j]?=some o→o.dst≠some q.d:=by
  intro j o hj hjk ho
  obtain ⟨o',h1,h2,_⟩:=(hsp j hj).2 hjk
  rw [ho] at h1; cases h1
  exact h2 q.d a3
 intro fuel
 induction fuel with
 | zero =>
  intro listed S ι s s' a w hsz hlen hcl hlk hln hu hcf hrun hev hrs hv hpd
  exfalso
  have hnil:idxs ops.size listed=[]:=List.length_eq_zero_iff.1 hlen
  have:n∈idxs ops.size listed:=w5.2 ⟨by omega,hln⟩
  rw [hnil] at this; cases this
 | succ fuel ih =>
  intro listed S ι s s' a w hsz hlen hcl hlk hln hu hcf hrun hev hrs hv hpd
  refine ⟨fun hr=>absurd hr (a6i hd hsz (by intro h; rw [h] at hlen; cases hlen)),fun i' hi=>?_⟩
  obtain ⟨h1,o,ho,hpre⟩:=mem_ready.1 hi
  have hin:i'<ops.size:=(Array.getElem?_eq_some_iff.1 ho).1
  have hmem:i'∈idxs ops.size listed:=w5.2 ⟨hin,h1⟩
  have hanc:∀ j,j<ops.size→((t8 ops.toList []).getD i' 0).testBit j=true→listed.getD j false=true:=Z2 (M:=fun i=>(t8 ops.toList []).getD i 0) (fun i o ho=>⟨(hM i o ho).1,(hM i o ho).2.1⟩) hcl i' o ho hpre
  by_cases hin2:i'=n
  ·-- the store
   subst hin2
   rw [ho2] at ho; cases ho
   have hall:∀ j,j∈idxs ops.size listed→j=i':=by
    intro j hj
    obtain ⟨j1,j2⟩:=w5.1 hj
    by_cases e:j=i'
    ·exact e
    ·have:=hanc j j1 (hsp j (by omega)).1
     rw [J0 this] at j2; cases j2
   have hnil:(idxs ops.size listed).filter (fun j=>!(j == i'))=[]:=by
    rw [List.filter_eq_nil_iff]
    intro j hj; simp [hall j hj]
   rw [hnil] at hrun
   obtain rfl:s=s':=hrun
   have hrs1:=a2Q hev hrs
   have hrs2:RS B S ι (s1.put (some q.d) .any) a w:=hrs1.forget q.d
   obtain ⟨i2,p2,e2,t2,l2,m2,g2,r,qq,bts,b1,b2,b3,b4,b5,b6,b7,b8,b9,b10,b11,b12,b13,b14,b15,b16⟩:=a5S hE f6 hp
   rw [hx] at b1
   obtain ⟨rfl,rfl⟩:i=i2∧p0=p2:=by simpa using b1
   rw [he] at b3; cases b3
   rw [hg] at b7
   simp only [Option.some.injEq,Sigma.mk.injEq,Ty.d0.injEq,true_and] at b7
   obtain ⟨b7,b7'⟩:=b7
   subst b7
   obtain rfl:l=l2:=eq_of_heq b7'
   rw [happ] at b13
   simp only [Option.some.injEq,Prod.mk.injEq,Sigma.mk.injEq,heq_eq_eq,true_and] at b13
   obtain ⟨rfl,rfl⟩:=b13
   have hadr:=hrs1.ev ad
   rw [b2] at hadr
   obtain ⟨e',b,off,c1,c2,c3,c4⟩:=hadr
   rw [he] at c1; cases c1
   have c4:a.eval ad=.pointer (some ⟨b,off,none⟩):=by simpa using c4
   have hst:=a6k hE hrs2 (g:=g) b6 b4 (e:=e) he hok hg (by
    obtain ⟨O',y1,y2,y3,y4,y5⟩:=hpd b off c3
    exact ⟨O',y1,y2,y3,y4,fun cc hc=>⟨(y5 cc hc).1,fun j ej hj hjg hlj=>(y5 cc hc).2.1 j ej hj hjg ((hev.2 j).trans hlj),(y5 cc hc).2.2⟩⟩) f2 c4 hv b8 b9
   have hlen':=a18 hsz hmem hlen
   have hnil2:idxs ops.size (listed.setIfInBounds i' true)=[]:=by
    rw [X2 hsz hin]
    rw [List.filter_eq_nil_iff]
    intro j hj; simp [hall j hj]
   have hf0:fuel=0:=by rw [hnil2] at hlen'; exact hlen'.symm
   subst hf0
   have hw:o2.wp E.P a w (wpAny E.P .any ops Q 0 (listed.setIfInBounds i' true)) Q:=by
    refine hst _ _ (fun S' ι' w' val h1 h2=>⟨?_,hQ S' ι' _ w' ?_⟩)
    ·rw [List.eq_nil_iff_forall_not_mem]
     intro j hj
     obtain ⟨j1,oj,j2,_⟩:=mem_ready.1 hj
     have:j∈idxs ops.size (listed.setIfInBounds i' true):=w5.2 ⟨(Array.getElem?_eq_some_iff.1 j2).1,j1⟩
     rw [hnil2] at this; cases this
    ·rw [← b10] at h1 h2
     exact h1.put (by rw [hn]; exact f5) h2
   unfold wpOp
   rw [ho2]
   simp only [Region.wanted,f1,if_true]
   exact .inl hw
  ·-- something quiet
   have hlt:i'<n:=by omega
   have hki:i'≠q.k:=by rintro rfl; rw [J0 hlk] at h1; cases h1
   obtain ⟨o',ho',hdd,hqq⟩:=(hsp i' hlt).2 hki
   rw [ho] at ho'; cases ho'
   have hnanc:∀ j,j∈idxs ops.size listed→¬ ((t8 ops.toList []).getD q.k 0).testBit j=true:=by
    intro j hj hb
    have hclk:∀ e∈oa.after,Region.binds .any e=true→listed.getD e.on false=true:=hcl q.k oa a1 (J0 hlk)
    have h9:=Z2 (M:=fun i=>(t8 ops.toList []).getD i 0) (fun i o ho=>⟨(hM i o ho).1,(hM i o ho).2.1⟩) hcl q.k oa a1 hclk j (w5.1 hj).1 hb
    have h8:=(w5.1 hj).2
    rw [J0 h9] at h8; cases h8
   have hkinds:∀ j∈(idxs ops.size listed).filter (fun j=>!(j == n)),∀ oj,ops[j]?=some oj→quiet oj=true∨a17 ops q n j oj s1=true:=by
    intro j hj oj hoj
    obtain ⟨j1,j2⟩:=List.mem_filter.1 hj
    simp only [Bool.not_eq_true',beq_eq_false_iff_ne,ne_eq] at j2
    have jn:j<n:=by have:=(w5.1 j1).1; omega
    have jk:j≠q.k:=by rintro rfl; have:=(w5.1 j1).2; rw [J0 hlk] at this; cases this
    rcases a8n f4' jn jk hoj with h9|h9|h9
    ·exact absurd h9 (hnanc j j1)
    ·exact .inl h9
    ·exact .inr h9
   have hltn:∀ j∈(idxs ops.size listed).filter (fun j=>!(j == n)),j<n:=by
    intro j hj
    obtain ⟨j1,j2⟩:=List.mem_filter.1 hj
    simp only [Bool.not_eq_true',beq_eq_false_iff_ne,ne_eq] at j2
    have:=(w5.1 j1).1; omega
   have hsort:((idxs ops.size listed).filter (fun j=>!(j == n))).Pairwise (·<·):=(R6 ops.size listed).sublist List.filter_sublist
   have hmemf:i'∈(idxs ops.size listed).filter (fun j=>!(j == n)):=List.mem_filter.2 ⟨hmem,by simpa using hin2⟩
   have hkind:=hkinds i' hmemf o ho
   have hrun0:=hrun
   obtain ⟨pre,post,e1,hlt',e2⟩:=a4e (f:=fun j=>!(j == n)) hsz hmem (by simpa using hin2)
   rw [e1] at hcf hrun
   have er:rem ops (pre++i'::post)=rem ops pre++o::rem ops post:=by simp [rem,List.filterMap_append,ho]
   have er2:rem ops (pre++post)=rem ops pre++rem ops post:=by simp [rem,List.filterMap_append]
   have hapr:F8 (rem ops (pre++i'::post)):=by
    rw [← e1]
    refine F8.sub ?_
    have:rem ops (idxs ops.size listed)=rem ops ((List.range ops.size).filter (fun i=>!listed.getD i true)):=rfl
    rw [this]
    refine F8.sub ?_
    have h9:=a2R (ops:=ops)
    rw [P5] at h9
    rw [h9]; exact hap
   have hind:∀ j∈pre,((t8 ops.toList []).getD i' 0).testBit j=false∧∀ x,ops[j]?=some x→indep ops x o=true:=by
    intro j hj
    have hji:j∈idxs ops.size listed:=by
     have:j∈(idxs ops.size listed).filter (fun j=>!(j == n)):=by rw [e1]; simp [hj]
     exact (List.mem_filter.1 this).1
    have hnm:((t8 ops.toList []).getD i' 0).testBit j=false:=by
     cases hm:((t8 ops.toList []).getD i' 0).testBit j with
     | false=>rfl
     | true =>
      exfalso
      have hjl:=hanc j (w5.1 hji).1 hm
      have:=(w5.1 hji).2
      rw [J0 hjl] at this
      cases this
    refine ⟨hnm,fun x hx=>?_⟩
    rcases (hM i' o ho).2.2 j x (hlt' j hj) hx with hm|hm
    ·rw [hnm] at hm; cases hm
    ·exact hm
   obtain ⟨pp,sa,sb,k1,k2,k3,k4,_⟩:=a4r ho hapr hind hu (hcf.sub (fun y hy=>by rw [a1Q]; exact List.mem_append_left _ hy)) hrun
   rw [er] at hapr hcf
   have hap2:=F8.cut hapr
   rcases hkind with hqt|hls
   ·obtain ⟨q1,q2,v,val,rfl,q3,q4⟩:=b4I hE hrs hqt k1 k2
    have hnext:wpAny E.P .any ops Q fuel (listed.setIfInBounds i' true) (a.put o.dst val) w:=by
     refine ih (listed.setIfInBounds i' true) S ι (s.put o.dst v) sb (a.put o.dst val) w (by simp [hsz]) (a18 hsz hmem hlen) (hcl.set ho hpre) (getD_set_true hlk) (by rw [getD_set_ne true hin2]; exact hln) (H5 hu k1) ?_ (by rw [e2]; exact k3) (k4.trans hev) (hrs.put (by rw [hn]; exact q2) q4) ?_ (fun b off hb=>by rw [S7]; exact hpd b off hb)
     ·rw [e2,er2]
      exact G0.step hu (fun y hy=>hcf y (by simp at hy ⊢; rcases hy with hy|hy<;>simp [hy])) hap2.2 k1
     ·rw [← hv]
      have hne:=hndst i' o hlt hki ho
      cases hod:o.dst with
      | none=>rfl
      | some d =>
       rw [hod] at hne
       exact R3 (fun e=>hne (by rw [e]))
    unfold wpOp
    rw [ho]
    simp only [Region.wanted,q1,if_true]
    refine .inl ?_
    unfold Oper.wp
    rw [q3]
    exact hnext
   ·-- a store that goes elsewhere
    obtain ⟨hg0,hdn,T,ad',x',j0,q0,vt,z,g1,g2,g3,g4,g5,g6⟩:=a5e hls
    rw [e1] at hsort hltn hkinds
    have hsub:List.Sublist (pre++post) (pre++i'::post):=List.Sublist.append (List.Sublist.refl _) (List.sublist_cons_self _ _)
    obtain ⟨J,f,t1,t2,t3,t4⟩:=a2q k3 (k4.trans hev) (H5 hu k1) (hsort.sublist hsub) (fun j hj=>hltn j (hsub.subset hj)) (fun j hj=>hkinds j (hsub.subset hj))
    have hpost:∀ j∈post,i'<j:=fun j hj=>(List.pairwise_cons.1 (List.pairwise_append.1 hsort).2.1).1 j hj
    obtain ⟨v0,ids,f0,hh0,z1,z2,z3,z4,z5⟩:=W9 (ops:=ops) hu k1
    obtain ⟨sa',y1,_,y2⟩:=z5 s hu ((G3.refl s).a1n _ _) z2
    rw [k1] at y1; cases y1
    have hsee:∀ y,y∈o.op.operands.toList→s1.ev y=f (f0 (s.ev y)):=by
     intro y hy
     refine a7A (z1.a3G t1) (fun m' hm=>?_)
     subst hm
     have hml:=U1 (ops:=ops) hy
     rw [← (k4.trans hev).1 m',t4 m' (fun j hj o' ho' hd'=>?_),y2.fr,if_neg (by rw [hdn]; intro h; cases h)]
     ·cases look m' s.fr<;>rfl
     ·rcases List.mem_append.1 hj with hj|hj
      ·exact (a6y ((hind j hj).2 o' ho')).1 m' hd' hml
      ·exact g6 j (hpost j hj) (hltn j (by simp [hj])) o' ho' m' hd' hml
    have ha':s.ev ad'=.ptr j0 q0:=Y3 (z1.a3G t1) ((hsee ad' (by rw [g1]; simp [Op.operands])).symm.trans g2) (.inl rfl)
    have hx':s.ev x'=.val vt z:=Y3 (z1.a3G t1) ((hsee x' (by rw [g1]; simp [Op.operands])).symm.trans g3) (.inr ⟨rfl,by intro h; cases h⟩)
    obtain ⟨ι',w',r1,r2,r3⟩:=b52 hE hn hrs hg0 g1 ha' hx' k1
    have hij:i≠j0:=by
     rintro rfl
     rw [hx] at g4
     simp only [AV.g9,Nat.beq_refl] at g4
     cases g4
    have hjg:j0∉g:=fun hm=>by rw [a8H happ j0 hm] at g5; cases g5
    obtain ⟨J2,f2',u1,u2,u3,u4⟩:=a2q (ops:=ops) (q:=q) (n:=n) hrun hev hu hsort hltn hkinds
    have hes:look i s.hp=some e:=by
     rw [← u3 i (fun hm=>by
      have:=(u2 i hm).1
      rw [hx] at this
      simp only [AV.g9,Nat.beq_refl] at this
      cases this),hev.2 i]
     exact he
    obtain ⟨i2,p2,e2',t2',l2,m2,g2',r',qq,bts,b1,b2,b3,b4,b5,b6,b7,b8,b9,b10,b11,b12,b13,b14,b15,b16⟩:=a5S hE f6 hp
    rw [hx] at b1
    obtain ⟨rfl,rfl⟩:i=i2∧p0=p2:=by simpa using b1
    rw [he] at b3; cases b3
    obtain ⟨b,off,hloc⟩:=a15 (hrs.hs.ob i e hes) hrs.hs.slt b16 hok hg
    have hP:=r3 hij hjg hes hok hg (hpd b off hloc)
    have hnext:wpAny E.P .any ops Q fuel (listed.setIfInBounds i' true) (a.put o.dst undef) w':=by
     refine ih (listed.setIfInBounds i' true) S ι' sa sb (a.put o.dst undef) w' (by simp [hsz]) (a18 hsz hmem hlen) (hcl.set ho hpre) (getD_set_true hlk) (by rw [getD_set_ne true hin2]; exact hln) (H5 hu k1) ?_ (by rw [e2]; exact k3) (k4.trans hev) r2 ?_ (fun b9 off9 hb9=>?_)
     ·rw [e2,er2]
      exact G0.step hu (fun y hy=>hcf y (by simp at hy ⊢; rcases hy with hy|hy<;>simp [hy])) hap2.2 k1
     ·rw [← hv,hdn]; rfl
     ·obtain ⟨_,h9,_⟩:=id hP
      rw [h9] at hb9; cases hb9
      exact hP
    unfold wpOp
    rw [ho]
    simp only [Region.wanted,hg0,if_true]
    refine .inl ?_
    unfold Oper.wp
    rw [r1]
    exact hnext

theorem b1H (hE:w4 E B) (hn:B.n=E.nt) (hd:T1 ops=true) {Q:Exit→Act→World→Prop} (hap:F8 ops.toList) (hA:a7i E ops q) {o2:Oper} (ho2:ops[n]?=some o2) {p:Prop} {s2:St} (hfin:a7x E ops (t8 ops.toList []) q n o2 s1=some (p,s2)) (hp:p)
  (hQ:∀ S ι a w,RS B S ι s2 a w→Q .normal a w) :
  ∀ (fuel:Nat) (listed:Array Bool) (S:Nat→Prop) (ι:Ix) (s s':St) (a:Act) (w:World),listed.size=ops.size→(idxs ops.size listed).length=fuel→a0p ops listed→listed.getD q.k true=false→listed.getD n true=false→uniq s.fr→G0 s (rem ops ((idxs ops.size listed).filter (fun j=>!(j == n) && !(j == q.k)))) →
   N6 E ops (fun i=>(t8 ops.toList []).getD i 0) [] ((idxs ops.size listed).filter (fun j=>!(j == n) && !(j == q.k))) s s'→G3 s' s1→look q.d s.fr=some .any→RS B S ι s a w →
   wpAny E.P .any ops Q fuel listed a w:=by
 have hM:=a1k hd
 obtain ⟨T2,ad,s3,f1,f2,f3,⟨f4,f4'⟩,f5,f6,_⟩:=a5I hfin
 obtain ⟨hns,hkn,ok,hok1,hsp⟩:=a37 f4
 have hA':=hA
 obtain ⟨oa,c,a1,a2,a3,a4,a5,a6,a7,a8⟩:=hA
 have e9:oa=ok:=by rw [a1] at hok1; cases hok1; rfl
 subst e9
 intro fuel
 induction fuel with
 | zero =>
  intro listed S ι s s' a w hsz hlen hcl hlk hln hu hcf hrun hev hany hrs
  exfalso
  have hnil:idxs ops.size listed=[]:=List.length_eq_zero_iff.1 hlen
  have:n∈idxs ops.size listed:=w5.2 ⟨by omega,hln⟩
  rw [hnil] at this; cases this
 | succ fuel ih =>
  intro listed S ι s s' a w hsz hlen hcl hlk hln hu hcf hrun hev hany hrs
  refine ⟨fun hr=>absurd hr (a6i hd hsz (by intro h; rw [h] at hlen; cases hlen)),fun i' hi=>?_⟩
  obtain ⟨h1,o,ho,hpre⟩:=mem_ready.1 hi
  have hin:i'<ops.size:=(Array.getElem?_eq_some_iff.1 ho).1
  have hmem:i'∈idxs ops.size listed:=w5.2 ⟨hin,h1⟩
  have hanc:∀ j,j<ops.size→((t8 ops.toList []).getD i' 0).testBit j=true→listed.getD j false=true:=Z2 (M:=fun i=>(t8 ops.toList []).getD i 0) (fun i o ho=>⟨(hM i o ho).1,(hM i o ho).2.1⟩) hcl i' o ho hpre
  by_cases hin2:i'=n
  ·exfalso
   subst hin2
   have:=hanc q.k (by omega) (hsp q.k hkn).1
   rw [J0 this] at hlk; cases hlk
  have hlt:i'<n:=by omega
  by_cases hki:i'=q.k
  ·-- the append
   subst hki
   rw [a1] at ho; cases ho
   have hltn:∀ j∈(idxs ops.size listed).filter (fun j=>!(j == n) && !(j == q.k)),j<n:=by
    intro j hj
    obtain ⟨j1,j2⟩:=List.mem_filter.1 hj
    simp only [Bool.and_eq_true,Bool.not_eq_true',beq_eq_false_iff_ne,ne_eq] at j2
    have:=(w5.1 j1).1; omega
   have hquiet:∀ j∈(idxs ops.size listed).filter (fun j=>!(j == n) && !(j == q.k)),∀ oj,ops[j]?=some oj→(quiet oj=true∨a17 ops q n j oj s1=true)∧oj.dst≠some q.d∧∀ d,oj.dst=some d→d∉looks ops oa:=by
    intro j hj oj hoj
    have jn:=hltn j hj
    obtain ⟨j1,j2⟩:=List.mem_filter.1 hj
    simp only [Bool.and_eq_true,Bool.not_eq_true',beq_eq_false_iff_ne,ne_eq] at j2
    have hna:¬ ((t8 ops.toList []).getD q.k 0).testBit j=true:=by
     intro g3
     have:=hanc j (by omega) g3
     have h9:=(w5.1 j1).2
     rw [J0 this] at h9; cases h9
    obtain ⟨o',g1,g2,g3⟩:=(hsp j jn).2 j2.2
    rw [hoj] at g1; cases g1
    refine ⟨?_,g2 q.d a3,?_⟩
    ·rcases a8n f4' jn j2.2 hoj with h9|h9|h9
     ·exact absurd h9 hna
     ·exact .inl h9
     ·exact .inr h9
    ·rcases g3 with g3|g3
     ·exact absurd g3 hna
     ·exact g3.2
   have hsort:((idxs ops.size listed).filter (fun j=>!(j == n) && !(j == q.k))).Pairwise (·<·):=(R6 ops.size listed).sublist List.filter_sublist
   obtain ⟨J,f,t1,t2,t3,t4⟩:=a2q (ops:=ops) (q:=q) (n:=n) hrun hev hu hsort hltn (fun j hj oj hoj=>(hquiet j hj oj hoj).1)
   obtain ⟨i,p0,e,t0,l,m,g,r,qq,bts,b1,b2,b3,b4,b5,b6,b7,b8,b9,b10,b11,b12,b13,b14,b15,b16⟩:=a5S hE f6 hp
   have hlook:∀ j,j∉J→look j s.hp=look j s1.hp:=fun j hj=>by rw [← t3 j hj]; exact hev.2 j
   have hget:∀ x,x∈oa.op.operands.toList→s1.ev x=f (s.ev x):=by
    intro x hx
    refine a7A t1 (fun t ht=>?_)
    subst ht
    rw [← hev.1 t,t4 t (fun j hj oj hoj hd'=>(hquiet j hj oj hoj).2.2 t hd' (U1 hx))]
   have hxm:q.x∈oa.op.operands.toList:=by rw [a5]; exact Y5 (by rw [a7]; simp)
   have hym:q.y∈oa.op.operands.toList:=by rw [a5]; exact Y5 (by rw [a7]; simp)
   have hxs:s.ev q.x=.at_ i p0:=Y3 t1 ((hget _ hxm).symm.trans b1) (.inl rfl)
   have hyy:s.ev q.y=s1.ev q.y:=Y3 t1 (hget _ hym).symm (b4a b13)
   have hes:look i s.hp=some e:=(hlook i (fun hm=>by
    have:=(t2 i hm).1
    rw [b1] at this
    simp only [AV.g9,Nat.beq_refl] at this
    cases this)).trans b3
   have happs:(s.ev q.y).S4 s t0=some (⟨t0,m⟩,g):=by
    rw [hyy,a47 (s:=s1) (t:=s) (fun j hj=>hlook j (fun hm=>by rw [(t2 j hm).2] at hj; cases hj))]
    exact b13
   have hok:r8 e.ty e.x p0:=by
    obtain ⟨e2,u,y2,cs,r1,hok,_⟩:=s8 hrs hxs
    rw [hes] at r1; cases r1
    exact hok
   obtain ⟨b,off,hl⟩:=a15 (hrs.hs.ob i e hes) hrs.hs.slt b16 hok b7
   obtain ⟨v',w',c1,c2,c3,c4⟩:=a5m hE hrs a5 a6 a7 a8 b12 b11 hxs hes b16 b7 hl happs b4 b5 b14 b15
   have hl':Loc w'.heap ι i e p0=some (b,off):=by obtain ⟨_,h9,_⟩:=c4; exact h9
   have hput:RS B S ι s (a.put (some q.d) v') w':=by
    have h9:=c2.put (d:=some q.d) (by rw [hn]; exact a4) (v:=.any) (val:=v') ⟨v',rfl⟩
    refine a2Q (s:=s.put (some q.d) .any) (t:=s) ⟨fun t=>?_,fun _=>rfl⟩ h9
    rw [N9]
    split
    ·rename_i e9; cases e9; exact hany.symm
    ·rfl
   have hval:(a.put (some q.d) v').eval (.tmp q.d)=v':=a4u (by rw [hrs.sz,hn]; simpa [B6,Nat.blt_eq] using a4)
   have hset:(idxs ops.size (listed.setIfInBounds q.k true)).filter (fun j=>!(j == n))=(idxs ops.size listed).filter (fun j=>!(j == n) && !(j == q.k)):=b4W hsz hin (fun j=>rfl)
   have hnext:wpAny E.P .any ops Q fuel (listed.setIfInBounds q.k true) (a.put (some q.d) v') w':=by
    refine b3z hE hn hd hap hA' ho2 hfin hp hQ (i:=i) (e:=e) (p0:=p0) (t0:=t0) (l:=l) (m:=m) (g:=g) b1 b3 hok b7 b13 (v':=v') fuel (listed.setIfInBounds q.k true) S ι s s' _ w' (by simp [hsz]) (a18 hsz hmem hlen) (hcl.set a1 hpre) (a5E (by omega)) (by rw [getD_set_ne true (by omega)]; exact hln) hu (by rw [hset]; exact hcf) (by rw [hset]; exact hrun) hev hput hval ?_
    intro b' off' hb'
    rw [hl'] at hb'; cases hb'
    exact c4
   unfold wpOp
   rw [a1]
   simp only [Region.wanted,a2,if_true]
   refine .inl ?_
   unfold Oper.wp
   rw [c1]
   show wpAny E.P .any ops Q fuel (listed.setIfInBounds q.k true) (a.put oa.dst v') w'
   rw [a3]
   exact hnext
  ·-- another one
   obtain ⟨pre,post,e1,hlt',e2⟩:=a4e (f:=fun j=>!(j == n) && !(j == q.k)) hsz hmem (by simp [hin2,hki])
   rw [e1] at hcf hrun
   have er:rem ops (pre++i'::post)=rem ops pre++o::rem ops post:=by simp [rem,List.filterMap_append,ho]
   have er2:rem ops (pre++post)=rem ops pre++rem ops post:=by simp [rem,List.filterMap_append]
   have hapr:F8 (rem ops (pre++i'::post)):=by
    rw [← e1]
    refine F8.sub ?_
    have:rem ops (idxs ops.size listed)=rem ops ((List.range ops.size).filter (fun i=>!listed.getD i true)):=rfl
    rw [this]
    refine F8.sub ?_
    have h9:=a2R (ops:=ops)
    rw [P5] at h9
    rw [h9]; exact hap
   have hind:∀ j∈pre,((t8 ops.toList []).getD i' 0).testBit j=false∧∀ x,ops[j]?=some x→indep ops x o=true:=by
    intro j hj
    have hji:j∈idxs ops.size listed:=by
     have:j∈(idxs ops.size listed).filter (fun j=>!(j == n) && !(j == q.k)):=by rw [e1]; simp [hj]
     exact (List.mem_filter.1 this).1
    have hnm:((t8 ops.toList []).getD i' 0).testBit j=false:=by
     cases hm:((t8 ops.toList []).getD i' 0).testBit j with
     | false=>rfl
     | true =>
      exfalso
      have hjl:=hanc j (w5.1 hji).1 hm
      have:=(w5.1 hji).2
      rw [J0 hjl] at this
      cases this
    refine ⟨hnm,fun x hx=>?_⟩
    rcases (hM i' o ho).2.2 j x (hlt' j hj) hx with hm|hm
    ·rw [hnm] at hm; cases hm
    ·exact hm
   obtain ⟨pp,sa,sb,k1,k2,k3,k4,_⟩:=a4r ho hapr hind hu (hcf.sub (fun y hy=>by rw [a1Q]; exact List.mem_append_left _ hy)) hrun
   have hnd:o.dst≠some q.d:=by
    obtain ⟨o',g1,g2,_⟩:=(hsp i' hlt).2 hki
    rw [ho] at g1; cases g1
    exact g2 q.d a3
   have hany':look q.d sa.fr=some .any:=by
    obtain ⟨v,ids,f,hf,z1,z2,z3,z4,z5⟩:=W9 (ops:=ops) hu k1
    obtain ⟨sa',y1,_,y2⟩:=z5 s hu ((G3.refl s).a1n _ _) z2
    rw [k1] at y1; cases y1
    rw [y2.fr,if_neg hnd,hany]
    simp [z1.plain _ (rfl:AV.plain .any=true)]
   rw [er] at hapr hcf
   have hap2:=F8.cut hapr
   have hps:=a00 hE hn hrs (ops:=ops) o (k:=fun x=>Tree.cut .skip [] x) (L:=fun _ _ x=>x=sa) (Rt:=fun _=>True) (a0b.2 ⟨pp,sa,k1,k2,rfl⟩)
    (next:=wpAny E.P .any ops Q fuel (listed.setIfInBounds i' true)) (Q:=Q) (fun S' ι' x a' w' hx hxe=>by
     have hxe:x=sa:=hxe
     subst hxe
     refine ih (listed.setIfInBounds i' true) S' ι' x sb a' w' (by simp [hsz]) (a18 hsz hmem hlen) (hcl.set ho hpre) (by rw [getD_set_ne true hki]; exact hlk) (by rw [getD_set_ne true hin2]; exact hln) (H5 hu k1) ?_ (by rw [e2]; exact k3) (k4.trans hev) hany' hx
     rw [e2,er2]
     exact G0.step hu (fun y hy=>hcf y (by simp at hy ⊢; rcases hy with hy|hy<;>simp [hy])) hap2.2 k1)
   unfold wpOp
   rw [ho]
   simp only
   split
   ·rename_i hw; rw [if_pos hw] at hps; exact .inl hps
   ·rename_i hw; rw [if_neg hw] at hps; exact hps

theorem b3y (hE:w4 E B) (hn:B.n=E.nt) {id:Nat} (hd:(T1 ops && a0U ops s && E.P.follows .mixedOrders)=true) {Q:Exit→Act→World→Prop} (hA:a7i E ops q) {s':St}
  (hr:N6 E ops (fun i=>(t8 ops.toList []).getD i 0) [] ((List.range' 0 (ops.toList.length - 1)).filter (fun j=>!(j == q.k))) s s') {k:St→Tree (E.rs++x7 E.ps)} {L:Code→List Item→St→Prop} {R:DL (E.rs++x7 E.ps)→Prop}
  (hf:b02 E ops (t8 ops.toList []) q s' k L R) (hany:look q.d s.fr=some .any)
  (hQ:∀ S ι s2 a w,RS B S ι s2 a w→(k s2).holds L R→Q .normal a w) (h:RS B S ι s a w):(Code.region id ops true).wp E.P Q a w:=by
 simp only [Bool.and_eq_true,a0U,List.all_eq_true] at hd
 obtain ⟨⟨h1,⟨h2,h3⟩,h4⟩,h5⟩:=hd
 refine wp_region_any h5 ?_
 obtain ⟨o2,p,s2,g1,g2,g3,g4⟩:=hf
 obtain ⟨T2,ad,s3,f1,f2,f3,⟨f4,_⟩,f5,f6,_⟩:=a5I g2
 obtain ⟨hns,hkn,_⟩:=a37 f4
 have hlen:(idxs ops.size (Array.replicate ops.size false)).length=ops.size:=by
  rw [P5]; simp
 have hset:(idxs ops.size (Array.replicate ops.size false)).filter (fun j=>!(j == ops.size - 1) && !(j == q.k))=(List.range' 0 (ops.toList.length - 1)).filter (fun j=>!(j == q.k)):=by
  rw [P5,show List.range ops.size=List.range (ops.size - 1)++[ops.size - 1] from by rw [← List.range_succ]; congr 1; omega,List.filter_append,List.filter_cons]
  simp only [beq_self_eq_true,Bool.not_true,Bool.false_and,Bool.false_eq_true,if_false,List.filter_nil,List.append_nil,Array.length_toList]
  rw [List.range_eq_range']
  refine List.filter_congr (fun j hj=>?_)
  have:j≠ops.size - 1:=by have:=(List.mem_range'_1.1 hj).2; omega
  simp [this]
 refine b1H (n:=ops.size - 1) hE hn h1 (a0X h3) hA g1 g2 g3 (fun S ι a w hh=>hQ S ι _ a w hh g4) ops.size _ S ι s s' a w.drew (by simp) hlen ?_ ?_ ?_ (x6 h2) ?_ (by rw [hset]; exact hr) (G3.refl _) hany (h.K8 x8.nil x5.drew)
 ·intro k o hk hl
  have:k<ops.size:=(Array.getElem?_eq_some_iff.1 hk).1
  simp [this] at hl
 ·have:q.k<ops.size:=by omega
  simp [this]
 ·have:ops.size - 1<ops.size:=by omega
  simp [this]
 ·intro o ho d hd
  obtain ⟨j,hj,hjo⟩:=List.mem_filterMap.1 ho
  obtain ⟨hj1,hj2⟩:=List.mem_filter.1 hj
  have:=(w5.1 hj1).1
  simp only [Bool.and_eq_true,Bool.not_eq_true',beq_eq_false_iff_ne,ne_eq] at hj2
  refine h4 d (List.mem_filterMap.2 ⟨o,List.mem_of_getElem? (i:=j) ?_,hd⟩)
  rw [List.getElem?_dropLast,if_pos (by simp; omega)]
  simpa using hjo
end
end
end Go.Ex

namespace Go.Ex

/-! ### drawn regions in which addresses of parts stand unordered with stores of plain values -/
section
variable {E:Env} {ops:Array Oper} {s t:St}

theorem a74 {o:Oper} {T:TypeId} {a x:Operand} (ho:o.op=.store T a x) (v:AV):G1 o v=v:=by
 rcases a1d o with e|⟨_,x,j,hop,_⟩
 ·exact e v
 ·rw [ho] at hop; cases hop

end

section
variable {E:Env} {ops:Array Oper} {s t:St}
end

section
variable {E:Env} {ops:Array Oper} {M:Nat→Nat} {s t:St}

def b8l (ops:Array Oper) (x:Oper) (sx:St) (Tx:List Nat) (y:Oper) (Ty:List Nat):Prop:=a09 ops x sx Tx y Ty∧(Tx≠[]→∀ m∈looks ops y,m∉b8i ops)

def b4p (E:Env) (ops:Array Oper) (x:Oper) (sx:St) (y:Oper) (sy:St):Prop:=b8l ops x sx (j7 E x sx) y (j7 E y sy)∨(a1R x sx=true∧b0V y sy=true)∨∃ j kd q,b5M y sy=some (j,kd,q)∧a6u x sx j kd q=true

theorem b1y {x:Oper} {sx sx':St} (h:a1R x sx=true) (h1:∀ m∈looks ops x,G1 x (sx'.get m)=G1 x (sx.get m)):a1R x sx'=true:=by
 have h0:=h
 unfold a1R at h
 split at h
 ·rename_i T a v hg ho
  have hev:∀ o,o=a∨o=v→sx'.ev o=sx.ev o:=by
   intro o hoo
   cases o with
   | tmp m =>
    have:=h1 m (U1 (by rw [ho]; simp [Op.operands]; rcases hoo with e|e<;>simp [← e]))
    rw [a74 ho,a74 ho] at this
    exact X3 this
   | _=>rfl
  unfold a1R at h0 ⊢
  rw [hg,ho] at h0 ⊢
  simp only [hev a (.inl rfl),hev v (.inr rfl)]
  exact h0
 ·cases h

theorem b4U {x:Oper} {sx sx':St} {j:Nat} {kd:Bool×Ty} {q:List Step} (h:a6u x sx j kd q=true) (h1:∀ m∈looks ops x,G1 x (sx'.get m)=G1 x (sx.get m)) (h2:∀ m∈looks ops x,∀ i,(G1 x (sx.get m)).g9 i=true→hpk sx' i=hpk sx i):a6u x sx' j kd q=true:=by
 have hvw:∀ v,G1 x v=v:=by
  intro v
  rcases a1d x with e|⟨_,y,k,hop,_⟩
  ·exact e v
  ·unfold a6u at h; rw [hop] at h; split at h<;>first|(rename_i e9; cases e9; done)|(cases h; done)
 have hev:∀ o∈x.op.operands.toList,sx'.ev o=sx.ev o:=by
  intro o hoo
  cases o with
  | tmp m =>
   have:=h1 m (U1 hoo)
   rw [hvw,hvw] at this
   exact X3 this
  | _=>rfl
 unfold a6u at h ⊢
 split at h
 ·rename_i a hg ho
  simp only [hev a (by rw [ho]; simp [Op.operands])]
  exact h
 ·rename_i T a n hg ho
  simp only [hev a (by rw [ho]; simp [Op.operands])]
  exact h
 ·rename_i T a hg ho
  simp only [hev a (by rw [ho]; simp [Op.operands])]
  split at h
  ·rename_i i p ha
   have:hpk sx' i=hpk sx i:=by
    cases a with
    | tmp m =>
     have hm:m∈looks ops x:=U1 (by rw [ho]; simp [Op.operands])
     have hg9:sx.get m=.ptr i p:=a1j ha nofun
     exact h2 m hm i (by rw [hvw,hg9]; simp only [AV.g9]; exact Nat.beq_refl i)
    | const c=>exact absurd ha (by intro e9; have:=a13 c i; rw [show ofConst c=.ptr i p from e9] at this; simp only [AV.g9] at this; rw [Nat.beq_refl] at this; cases this)
    | global g=>cases ha
    | func f=>cases ha
   rw [this]
   exact h
  ·cases h
 ·cases h

theorem b4p.b76 {x:Oper} {sx sx':St} {y:Oper} {sy sy':St} (h:b4p E ops x sx y sy) (h1:∀ m∈looks ops x,G1 x (sx'.get m)=G1 x (sx.get m)) (h2:j7 E x sx'=j7 E x sx) (h3:∀ (z:Oper) m,∀ k∈j7 E x sx,(G1 z (sx'.get m)).g9 k=true→(G1 z (sx.get m)).g9 k=true∨m∈b8i ops)
  (h4:∀ m∈looks ops x,∀ i,(G1 x (sx.get m)).g9 i=true→hpk sx' i=hpk sx i) (hT:j7 E y sy'=j7 E y sy) (hA:b0V y sy=true→b0V y sy'=true) (hS:∀ r,b5M y sy=some r→b5M y sy'=some r):b4p E ops x sx' y sy':=by
 rcases h with ⟨⟨P1,P2,P3⟩,hn⟩|⟨k1,k2⟩|⟨j,kd,q,k1,k2⟩
 ·refine .inl ?_
  rw [hT,h2]
  refine ⟨⟨fun m hm i hi=>?_,fun m hm i hi=>by rw [h1 m hm]; exact P2 m hm i hi,P3⟩,hn⟩
  cases hh:(G1 y (sx'.get m)).g9 i with
  | false=>rfl
  | true =>
   rcases h3 y m i hi hh with h9|h9
   ·rw [P1 m hm i hi] at h9; cases h9
   ·exact absurd h9 (hn (fun e=>by rw [e] at hi; cases hi) m hm)
 ·exact .inr (.inl ⟨b1y k1 h1,hA k2⟩)
 ·exact .inr (.inr ⟨j,kd,q,hS _ k1,b4U k2 h1 h4⟩)

end

section
variable {E:Env} {ops:Array Oper} {B:A5} {S:Nat→Prop} {ι:Ix} {s:St} {a:Act} {w:World}
/-! ### regions that store what they read -/
end
end Go.Ex

namespace Go.Ex

section
variable {E:Env} {B:A5} {S S':Nat→Prop} {ι:Ix} {s:St} {a:Act} {w:World} {hp:List (Nat×f8)} {H H':Array Go.Obj}

def At (P:Program) (fn:Func) (R:Ending→World→Prop) (k:List Item) (a:Act) (w:World):Prop :=
 ∀ (b:Frame) (cs:List Frame),∃ (e:Exit) (a':Act) (w':World),bodyPost P fn R e a' w'∧Arrives P (lone (b.at a k) cs w) b [] cs e a' w'

section at_
variable {P:Program} {fn:Func} {R:Ending→World→Prop} {k k':List Item}

theorem At.step (hs:∀ (b:Frame) (cs:List Frame),step P (lone (b.at a k) cs w)=.next (lone (b.at a k') cs w)) (h:At P fn R k' a w):At P fn R k a w :=
 fun b cs=>let ⟨e,a',w',q,r⟩:=h b cs; ⟨e,a',w',q,.of_steps (.one (hs b cs)) r⟩

theorem At.region {id:Nat} {ops:Array Oper} {d:Bool} (h:(Code.region id ops d).wp P (fun e a w=>e=.normal∧At P fn R k a w) a w):At P fn R (.code (.region id ops d)::k) a w:=by
 intro b cs
 obtain ⟨e,a',w',⟨rfl,h2⟩,harr⟩:=h b k cs
 obtain ⟨e,a'',w'',q,r⟩:=h2 b cs
 exact ⟨e,a'',w'',q,.of_steps harr r⟩

theorem At.done (h:bodyPost P fn R .normal a w):At P fn R [] a w:=fun _ _=>⟨.normal,a,w,h,Steps.refl _ _⟩
theorem At.ret (h:bodyPost P fn R .ret a w):At P fn R (.code .ret::k) a w:=fun _ _=>⟨.ret,a,w,h,_,.one step_ret⟩

theorem a2I {f:FuncId} {c:Code} {args:Array Value} (hf:P.funcs[f]?=some fn) (hb:fn.body=some c)
  (h:At P fn R [.code c] { tmps:=args++Array.replicate (fn.ntmps - args.size) undef,defers:=[] } w):Calls P f args w R:=by
 intro cs
 let b:Frame:={ (default:Frame) with fn:=f,kind:=.normal }
 have henter:Frame.enter P f args .normal=b.at { tmps:=args++Array.replicate (fn.ntmps - args.size) undef,defers:=[] } [.code c]:=by
  simp [Frame.enter,Frame.at,hf,hb,b]
 obtain ⟨e,a',w',hq,harr⟩:=h b cs
 rw [← henter] at harr
 cases e with
 | normal =>
  obtain ⟨hd,v,hr,hR⟩:=hq
  exact ⟨.returned v,w',_,hR,Steps.trans harr (.one step_end),rfl,rfl,hd,rfl,fn,hf,hr⟩
 | ret =>
  obtain ⟨hd,v,hr,hR⟩:=hq
  obtain ⟨todo,hs⟩:=harr
  exact ⟨.returned v,w',_,hR,hs,rfl,rfl,hd,rfl,fn,hf,hr⟩
 | panic chain =>
  obtain ⟨hd,hR⟩:=hq
  obtain ⟨todo,hs⟩:=harr
  exact ⟨.panicked chain,w',_,hR,hs,rfl,rfl,hd,fn,hf⟩
 | exit id=>exact hq.elim
 | goto l=>exact hq.elim
 | outgrown=>exact ⟨.outgrown,w',b,hq,harr.resolve_left (by simp [b]),rfl,trivial⟩
end at_

/-! ### what is kept at a cut -/
theorem RS.I2 (live:List Nat) (s0:St):∀ {l:List (Nat×f8)} {s:St},RS B S ι s a w→RS B S ι (I2 live s0 l s) a w
 | [],_,h=>h
 | (i,_)::l,s,h=>by
  simp only [Ex.I2]
  split
  ·exact RS.I2 live s0 h
  ·rename_i hp
   simp only [Bool.or_eq_false_iff] at hp
   exact RS.I2 live s0 (h.drop hp.1)

theorem RS.b3n (h:RS B S ι s a w) {m d:Nat} (hf:s.fresh d=true) {t:Ty} {x:t.den} {O:List Nat} {cs:List Value} (hv:a.tmps.getD m (B.gd m)=i8 t cs) (hR:f7 w.heap S t O cs x) (hF:x8 B S ι s.hp w O) :
  ∃ ι',RS B S ι' { s.q9 d (.own t x) with fr:=Ex.put m (.at_ d []) s.fr } a w :=
 ⟨_,(h.hold hf hR hF).slot (t:=m) (v:=.at_ d []) (by rw [hv]; exact a28 hR.length)⟩

def a2j (ι ι':Ix) (i j:Nat):Prop:=ι'.root j=ι.root i∧ι'.cells j=ι.cells i∧ι'.own j=ι.own i

theorem a2j.place {ι':Ix} {i j:Nat} (h:a2j ι ι' i j) {H:Array Go.Obj} {e:f8} {p:List Step}:Place H ι' j e p=Place H ι i e p:=by
 obtain ⟨h1,h2,h3⟩:=h
 cases e<;>simp only [Place,VH,VR,h1,h2]
theorem a2j.loc {ι':Ix} {i j:Nat} (h:a2j ι ι' i j) {H:Array Go.Obj} {e:f8} {p:List Step}:Loc H ι' j e p=Loc H ι i e p:=by
 simp only [Loc,h.place]
theorem a2j.a4n {ι':Ix} {i j:Nat} (h:a2j ι ι' i j) {H:Array Go.Obj} {e:f8} {p:List Step} {u:Ty} {cs:List Value}:Cells H ι' j e p u cs↔Cells H ι i e p u cs:=by
 have hv:VH H ι' j e=VH H ι i e:=by obtain ⟨h1,h2,h3⟩:=h; cases e<;>simp only [VH,h2]
 simp only [Cells,h.place,hv]

theorem RS.ren (h:RS B S ι s a w) {i j:Nat} (hi:pinned i=false) {u:Ty} {x:u.den} (h1:look i s.hp=some (.own u x)) (hf:s.fresh j=true) :
  ∃ ι',RS B S ι' { fr:=mapA (AV.ren i j) s.fr,hp:=Ex.put j (.own u x) (del i s.hp) } a w:=by
 obtain ⟨f1,f2⟩:=a2w hf
 have hij:i≠j:=by rintro rfl; rw [f1] at h1; cases h1
 let ι':Ix:={ root:=fun k=>if k=j then ι.root i else ι.root k,cells:=fun k=>if k=j then ι.cells i else ι.cells k,own:=fun k=>if k=j then ι.own i else ι.own k }
 have hsj:a2j ι ι' i j:=⟨by simp [ι'],by simp [ι'],by simp [ι']⟩
 have hsk:∀ k,k≠j→w7 ι ι' k:=fun k hk=>⟨by simp [ι',hk],by simp [ι',hk],by simp [ι',hk]⟩
 have hF:x8 B S ι (St.p8 [i] s).hp w (ι.own i):=by
  obtain ⟨⟨O,hO,hR⟩,hnd⟩:=(h.hs.ob i _ h1:OB w.heap S ι i (.own u x))
  exact x8.p8 h.hs hnd (fun b hb=>⟨i,_,by simp,h1,hb⟩)
 have hob:OB w.heap S ι' j (.own u x):=by
  obtain ⟨⟨O,hO,hR⟩,hnd⟩:=(h.hs.ob i _ h1:OB w.heap S ι i (.own u x))
  obtain ⟨e1,e2,e3⟩:=hsj
  exact ⟨⟨O,by rw [e3]; exact hO,by rw [e2]; exact hR⟩,by rw [e3]; exact hnd⟩
 have hd:=h.hs.drop hi
 refine ⟨ι',⟨hd.add (d:=j) (e:=.own u x) (ι':=ι') (O:=ι.own i) ?_ hsk hob ?_ hF,h.X5,h.sz,?_⟩⟩
 ·rw [E4]; split<;>first|rfl|exact f1
 ·intro b hb
  have:ι'.own j=ι.own i:=hsj.2.2
  show b∈ι.own i
  rw [← this]; exact hb
 ·intro t v hv
  simp only [G8,Option.map_eq_some_iff] at hv
  obtain ⟨v0,hv0,rfl⟩:=hv
  have hvj:=f2 t v0 hv0
  refine VX.map (fun _ _=>rfl) (fun _ h=>h) (fun q vs hq hm hv=>?_) (h.fr t v0 hv0)
  have hlk:∀ k,q.g9 k=true→k≠i→look k (Ex.put j (.own u x) (del i s.hp))=look k s.hp:=by
   intro k hk hki
   have hkj:k≠j:=by rintro rfl; rw [hm k hk] at hvj; cases hvj
   rw [n7,if_neg hkj,E4,if_neg hki]
  have hlj:look j (Ex.put j (f8.own u x) (del i s.hp))=some (.own u x):=by rw [n7,if_pos rfl]
  dsimp only
  split
  ·rename_i hmi
   refine VX.other (fun k hk=>hlk k hk ?_) (fun k hk=>hsk k ?_) hv
   ·rintro rfl; rw [hk] at hmi; cases hmi
   ·rintro rfl; rw [hm k hk] at hvj; cases hvj
  ·rename_i hmi
   split
   ·rename_i k p
    have:=Nat.eq_of_beq_eq_true hmi
    subst this
    obtain ⟨e,b,off,k1,k2,k3,k4⟩:=hv
    rw [h1] at k1; cases k1
    exact ⟨_,b,off,hlj,k2,hsj.loc.trans k3,k4⟩
   ·rename_i k p
    have:=Nat.eq_of_beq_eq_true hmi
    subst this
    obtain ⟨e,u',y,cs,k1,k2,k3,k4,k5⟩:=hv
    rw [h1] at k1; cases k1
    exact ⟨_,u',y,cs,hlj,k2,k3,hsj.a4n.2 k4,k5⟩
   ·rename_i k p lo hi'
    have:=Nat.eq_of_beq_eq_true hmi
    subst this
    obtain ⟨e,v,k1,k2,k3,k4,k5,k6⟩:=hv
    rw [h1] at k1; cases k1
    refine ⟨_,v,hlj,k2,k3,k4,k5,?_⟩
    rcases k6 with ⟨t',l,A,cap,q1,q2,q3,q4⟩|⟨n,t',l,b,off,q1,q2,q3,q4⟩
    ·exact .inl ⟨t',l,A,cap,q1,q2,hsj.a4n.2 q3,q4⟩
    ·exact .inr ⟨n,t',l,b,off,q1,q2,hsj.loc.trans q3,q4⟩
   ·obtain ⟨y,e⟩:=VX.one hq hv
    exact ⟨y,e⟩

theorem RS.settle (h:RS B S ι s a w) (m:Nat) (t:Ty):∃ ι',RS B S ι' (settle m t s) a w:=by
 have hg:=h.get m
 unfold Ex.settle
 split
 ·rename_i hm
  rw [hm] at hg
  have hv:a.tmps.getD m (B.gd m)=Value.slice none 0 0:=by
   have:[a.tmps.getD m (B.gd m)]=[Value.slice none 0 0]:=hg
   simpa using this
  split
  ·rename_i u hf
   exact h.b3n hf (t:=.d0 true u) (x:=([]:List u.den)) (O:=[]) (cs:=[.slice none 0 0]) hv (.inl ⟨rfl,⟨none,0,rfl,fun _=>rfl⟩,rfl⟩) x8.nil
  ·exact ⟨ι,h⟩
 ·rename_i i hm
  split
  ·rename_i u x hob
   split
   ·exact ⟨ι,h⟩
   ·rename_i hc
    simp only [Bool.or_eq_false_iff,Bool.not_eq_false'] at hc
    exact h.ren hc.1 hob hc.2
  ·exact ⟨ι,h⟩
 ·rename_i i lo hi hm
  rw [hm] at hg
  split
  ·rename_i u x g hgv
   split
   ·exact ⟨ι,h⟩
   ·rename_i hc
    simp only [Bool.or_eq_false_iff,Bool.not_eq_false'] at hc
    obtain ⟨O,cs,k1,k2,k3,k4⟩:=U3 h.hs hgv hg
    have hgi:g=[i]:=by
     simp only [AV.L9] at hgv
     split at hgv<;>cases hgv
     rfl
    subst hgi
    exact (h.drop hc.1).b3n hc.2 k1 k2 (x8.p8 h.hs k3 k4)
  ·exact ⟨ι,h⟩
 ·rename_i u x hm
  rw [hm] at hg
  split
  ·rename_i hc
   simp only [Bool.and_eq_true] at hc
   obtain ⟨cs,e,hR⟩:=hg
   exact h.b3n hc.2 (by simpa using e) hR x8.nil
  ·exact ⟨ι,h⟩
 ·exact ⟨ι,h⟩

theorem RS.O5:∀ {l:List (Nat×Option Ty)} {ι:Ix} {s:St},RS B S ι s a w→∃ ι',RS B S ι' (O5 l s) a w
 | [],ι,s,h=>⟨ι,h⟩
 | (_,none)::l,ι,s,h=>RS.O5 (l:=l) h
 | (m,some t)::l,ι,s,h=>by
  obtain ⟨ι',h'⟩:=h.settle m t
  exact RS.O5 (l:=l) h'

theorem RS.canon (h:RS B S ι s a w) (x:List (Nat×Option Ty)):∃ ι',RS B S ι' (canon x s) a w:=by
 have h1:RS B S ι (Ex.I2 (x.map (·.1)) s s.hp s) a w:=RS.I2 (x.map (·.1)) s h
 obtain ⟨ι',h2⟩:=RS.O5 (l:=x) h1
 have h3:=RS.I2 (x.map (·.1)) (Ex.O5 x (Ex.I2 (x.map (·.1)) s s.hp s)) (l:=(Ex.O5 x (Ex.I2 (x.map (·.1)) s s.hp s)).hp) h2
 refine ⟨ι',h3.hs,h3.X5,h3.sz,?_⟩
 intro t v hv
 simp only [Ex.canon] at hv
 generalize hs:Ex.I2 (x.map (·.1)) (Ex.O5 x (Ex.I2 (x.map (·.1)) s s.hp s)) (Ex.O5 x (Ex.I2 (x.map (·.1)) s s.hp s)).hp (Ex.O5 x (Ex.I2 (x.map (·.1)) s s.hp s))=s1 at hv h3
 have:v=s1.get t:=by
  generalize x.map (·.1)=ts at hv
  clear h3 hs
  revert hv
  induction ts with
  | nil=>intro hv; cases hv
  | cons t' l ih =>
   intro hv
   simp only [List.map_cons,look] at hv
   cases hb:Nat.beq t t' with
   | true =>
    rw [hb] at hv
    have:=Nat.eq_of_beq_eq_true hb
    subst this
    cases hv; rfl
   | false=>rw [hb] at hv; exact ih hv
 rw [this]
 have:=h3.get t
 simp only [Ex.canon,hs]
 exact this

/-! ### results -/
theorem a3n (hE:w4 E B) (h:RS B S ι s a w):∀ {rs:List ResultVar} {l:AV},a36 E s rs=some l →
  ∃ us,(rs.mapM fun r=>(match r with
   | .tmp t=>pure (a.tmps.getD t undef)
   | .cell c t=>do loadVar t (← asAddr (a.tmps.getD c undef)):Sem Value)).run E.P w=.ok us w∧VX w.heap S ι s.hp l us
 | [],l,hl=>by
  simp only [a36,Option.some.injEq] at hl
  subst hl
  exact ⟨[],rfl,rfl⟩
 | .tmp t::rs,l,hl=>by
  simp only [a36] at hl
  split at hl
  ·rename_i v hv
   cases hl
   obtain ⟨us,h1,h2⟩:=a3n hE h hv
   exact ⟨a.tmps.getD t undef::us,by simp only [List.mapM_cons,Sem.run_bind,Sem.run_pure,Result.andThen,h1],_,us,rfl,h.ev (.tmp t),h2⟩
  ·cases hl
 | .cell c T::rs,l,hl=>by
  simp only [a36] at hl
  split at hl
  ·rename_i i p hc
   have hv:=h.ev (.tmp c)
   rw [hc] at hv
   obtain ⟨e,b,off,k1,k2,k3,k4⟩:=hv
   have k4:a.tmps.getD c undef=.pointer (some ⟨b,off,none⟩):=by
    have k5:[a.tmps.getD c undef]=[.pointer (some ⟨b,off,none⟩)]:=k4
    exact List.head_eq_of_cons_eq k5
   split at hl
   ·rename_i u y hpt
    have hg:=D9 k1 hpt
    split at hl
    ·rename_i hck
     split at hl
     ·rename_i v hv
      obtain ⟨us,h1,h2⟩:=a3n hE h hv
      obtain ⟨O2,m1,mn,m2,m3,m4,m5⟩:=G7 (G4 k3) (h.hs.ob i _ k1) h.hs.slt k2 hg k3
      have hld:(do loadVar T (← asAddr (a.tmps.getD c undef)):Sem Value).run E.P w=.ok (i8 u (d8 w.heap b off u.size)) w:=by
       rw [k4]; simp [asAddr,U9 (w6 hE hck) m2]
      refine ⟨i8 u (d8 w.heap b off u.size)::us,?_,?_⟩
      ·simp only [List.mapM_cons]
       rw [Sem.run_bind,hld]
       simp only [Result.andThen,Sem.run_bind,Sem.run_pure,h1]
      ·split at hl
       ·rename_i hs
        cases hl
        have:=m2.G6 hs
        subst this
        exact ⟨_,us,rfl,⟨_,rfl,m2⟩,h2⟩
       ·cases hl
        obtain ⟨r3,r4⟩:=s5 k3
        exact ⟨_,us,rfl,⟨_,u,y,_,k1,k2,hg,⟨b,off,r3,by rw [j9 (B9 r4)]⟩,rfl⟩,h2⟩
     ·cases hl
    ·cases hl
   ·cases hl
  ·cases hl

theorem b1w (hE:w4 E B) (h:RS B S ι s a w) {fn:Func} (hres:fn.results.toList=E.res) {l:AV} (hl:a36 E s E.res=some l) :
  ∃ us,(results fn a.tmps).run E.P w=.ok (a1Z us) w∧VX w.heap S ι s.hp l us:=by
 obtain ⟨us,h1,h2⟩:=a3n hE h hl
 refine ⟨us,?_,h2⟩
 rw [← hres] at h1
 have:(fn.results.mapM fun r=>(match r with
   | .tmp t=>pure (a.tmps.getD t undef)
   | .cell c t=>do loadVar t (← asAddr (a.tmps.getD c undef)):Sem Value)).run E.P w=.ok us.toArray w:=by
  rw [Array.mapM_eq_mapM_toList,Sem.run_map,h1]; rfl
 simp only [results]
 rw [Sem.run_bind]
 refine (congrArg (fun r:Result (Array Value)=>r.andThen fun vs w'=>Sem.run E.P (pure (if h:vs.size=1 then vs[0] else Value.tuple vs)) w') this).trans ?_
 simp only [Result.andThen,Sem.run_pure]
 match us with
 | []=>rfl
 | [v]=>rfl
 | v::v2::l=>rfl

theorem b28 (h:HS B S ι s.hp w) {t:Ty} {used used':List Nat} {av:AV} {x:t.den} {v:Value} (hr:a9O s t used av=some (x,used')) (hv:VX w.heap S ι s.hp av [v]) :
  ∃ O cs,v=i8 t cs∧f7 w.heap S t O cs x∧O.Nodup∧(∀ b∈O,∃ i e,i∈used'∧i∉used∧pinned i=false∧look i s.hp=some e∧b∈i7 ι i e)∧∀ i∈used,i∈used':=by
 unfold a9O at hr
 split at hr
 ·rename_i i
  split at hr
  ·cases hr
  ·rename_i hc
   simp only [Bool.or_eq_false_iff] at hc
   obtain ⟨hc1,hc2⟩:=hc
   have hnu:i∉used:=by intro hm; simp [hm] at hc1
   obtain ⟨e,u,y,cs,h1,h2,h3,h4,h5⟩:=hv
   have key:∀ {e0:f8},s.obj i=some e0→(hu:e0.ty=t)→∀ {x},x=D8 hu e0.x→∃ O cs,v=i8 t cs∧f7 w.heap S t O cs x∧O.Nodup∧(∀ b∈O,∃ j e,j∈i::used∧j∉used∧pinned j=false∧look j s.hp=some e∧b∈i7 ι j e)∧∀ j∈used,j∈i::used:=by
    rintro e0 hob rfl x rfl
    obtain rfl:=S8 h1 hob
    rw [u5] at h3; cases h3
    obtain ⟨O2,m1,m2,m3⟩:=C3 h h1 h2 u5 h4
    exact ⟨O2,cs,by simpa using h5,m3,m2,fun b hb=>⟨i,_,by simp,hnu,hc2,h1,B7 (m1 b hb)⟩,fun j hj=>by simp [hj]⟩
   split at hr
   ·rename_i u' x' hob
    split at hr
    ·rename_i hu; cases hr; exact key (e0:=.var u' x') hob hu rfl
    ·cases hr
   ·rename_i u' x' hob
    split at hr
    ·rename_i hu; cases hr; exact key (e0:=.own u' x') hob hu rfl
    ·cases hr
   ·cases hr
 ·rename_i i lo hi
  split at hr
  ·cases hr
  ·rename_i hc
   simp only [Bool.or_eq_false_iff] at hc
   obtain ⟨hc1,hc2⟩:=hc
   have hnu:i∉used:=by intro hm; simp [hm] at hc1
   split at hr
   ·rename_i u x' g hgv
    split at hr
    ·rename_i hu
     cases hr
     subst hu
     obtain ⟨O,cs,k1,k2,k3,k4⟩:=U3 h hgv hv
     have hgi:g=[i]:=by
      simp only [AV.L9] at hgv
      split at hgv<;>cases hgv
      rfl
     subst hgi
     refine ⟨O,cs,k1,k2,k3,fun b hb=>?_,fun j hj=>by simp [hj]⟩
     obtain ⟨j,e,j1,j2,j3⟩:=k4 b hb
     simp only [List.mem_cons,List.not_mem_nil,or_false] at j1
     subst j1
     exact ⟨j,e,by simp,hnu,hc2,j2,j3⟩
    ·cases hr
   ·cases hr
 ·rename_i i
  split at hr
  ·cases hr
  ·rename_i hc
   simp only [Bool.or_eq_false_iff] at hc
   obtain ⟨hc1,hc2⟩:=hc
   have hnu:i∉used:=by intro hm; simp [hm] at hc1
   split at hr
   ·rename_i u y hob
    split at hr
    ·rename_i hu
     subst hu
     cases hr
     obtain ⟨e,b,off,h1,h2,h3,h4⟩:=hv
     obtain rfl:=S8 h1 hob
     obtain ⟨⟨O,hO,hR⟩,hf,hnd⟩:=h.ob i _ h1
     have hl:(ι.root i).1=b∧(ι.root i).2=off:=by
      have:=(s5 h3).1
      simp only [Place,s4,VR,Option.some.injEq,Prod.mk.injEq] at this
      exact this
     obtain ⟨rfl,rfl⟩:=hl
     refine ⟨(ι.root i).1::O,[.pointer (some ⟨(ι.root i).1,(ι.root i).2,none⟩)],by simpa [i8,Ty.agg] using h4,.inr ⟨_,_,_,O,rfl,rfl,hf.o6,hR,rfl,hf⟩,((hO.cons _).nodup_iff).2 hnd,fun c hc=>⟨i,_,by simp,hnu,hc2,h1,?_⟩,fun j hj=>by simp [hj]⟩
     simp only [i7]
     exact ((hO.cons _).mem_iff).1 hc
    ·cases hr
   ·cases hr
 ·rename_i f i
  split at hr
  ·cases hr
  ·rename_i hc
   simp only [Bool.or_eq_false_iff] at hc
   obtain ⟨hc1,hc2⟩:=hc
   have hnu:i∉used:=by intro hm; simp [hm] at hc1
   split at hr
   ·rename_i u y hob
    split at hr
    ·rename_i hu
     subst hu
     cases hr
     obtain ⟨us,hv1,v0,us0,rfl,⟨e,b,off,h1,h2,h3,h4⟩,hv2⟩:=hv
     have hv2:us0=[]:=hv2
     subst hv2
     have h4:v0=.pointer (some ⟨b,off,none⟩):=by simpa using h4
     subst h4
     obtain rfl:=S8 h1 hob
     obtain ⟨⟨O,hO,hR⟩,hf,hnd⟩:=h.ob i _ h1
     have hl:(ι.root i).1=b∧(ι.root i).2=off:=by
      have:=(s5 h3).1
      simp only [Place,s4,VR,Option.some.injEq,Prod.mk.injEq] at this
      exact this
     obtain ⟨rfl,rfl⟩:=hl
     refine ⟨(ι.root i).1::O,[a2K (some f) ⟨(ι.root i).1,(ι.root i).2,none⟩],by simpa [i8,Ty.agg,a2K] using hv1,.inr ⟨_,_,_,O,rfl,rfl,hf.o6,hR,rfl,hf⟩,((hO.cons _).nodup_iff).2 hnd,fun c hc=>⟨i,_,by simp,hnu,hc2,h1,?_⟩,fun j hj=>by simp [hj]⟩
     simp only [i7]
     exact ((hO.cons _).mem_iff).1 hc
    ·cases hr
   ·cases hr
 ·split at hr
  ·rename_i x' hx
   cases hr
   obtain ⟨cs,e,hR⟩:=b0Q hx hv
   exact ⟨[],cs,e,hR,List.nodup_nil,by simp,fun _ h=>h⟩
  ·cases hr

theorem a6g (h:HS B S ι s.hp w):∀ {rs:List Ty} {used:List Nat} {l:AV} {y:DL rs} {us:List Value},a9P s rs used l=some y→VX w.heap S ι s.hp l us →
  ∃ O,H3 w.heap S rs O us y∧O.Nodup∧∀ b∈O,∃ i e,i∉used∧pinned i=false∧look i s.hp=some e∧b∈i7 ι i e
 | [],used,l,y,us,hr,hv=>by
  cases l<;>simp only [a9P] at hr<;>first|cases hr|skip
  exact ⟨[],⟨rfl,hv⟩,List.nodup_nil,by simp⟩
 | t::ts,used,l,y,us,hr,hv=>by
  cases l<;>simp only [a9P] at hr<;>first|cases hr|skip
  rename_i av bv
  obtain ⟨v,us',rfl,ha,hb⟩:=hv
  split at hr
  ·rename_i x used' h1
   split at hr
   ·rename_i y' h2
    cases hr
    obtain ⟨O1,cs,k1,k2,k3,k4,k5⟩:=b28 h h1 ha
    obtain ⟨O2,m1,m2,m3⟩:=a6g h h2 hb
    refine ⟨O1++O2,⟨v,us',O1,O2,cs,rfl,rfl,k1,k2,m1⟩,List.nodup_append.2 ⟨k3,m2,?_⟩,?_⟩
    ·rintro c hc d hd rfl
     obtain ⟨i,e,i1,_,_,i2,i3⟩:=k4 c hc
     obtain ⟨j,e',j1,_,j2,j3⟩:=m3 c hd
     exact h.dj i j e e' i2 j2 (by rintro rfl; exact j1 i1) c i3 j3
    ·intro c hc
     rcases List.mem_append.1 hc with hc|hc
     ·obtain ⟨i,e,_,i1,i4,i2,i3⟩:=k4 c hc
      exact ⟨i,e,i1,i4,i2,i3⟩
     ·obtain ⟨j,e',j1,j4,j2,j3⟩:=m3 c hc
      exact ⟨j,e',fun hj=>j1 (k5 j hj),j4,j2,j3⟩
   ·cases hr
  ·cases hr

def H2:(ks:List PK)→List Value→Nat→List (Nat×(Nat×Nat)×List Value)
 | .rw _::ks,v::vs,i=>(match v with
  | .pointer (some a)=>(2000000+i,(a.block,a.off),[])
  | _=>(2000000+i,(0,0),[]))::H2 ks vs (i+1)
 | .mu _::ks,v::vs,i=>(2000000+i,(0,0),[v])::H2 ks vs (i+1)
 | _::ks,_::vs,i=>H2 ks vs (i+1)
 | _,_,_=>[]

theorem a1C (h:HS B S ι s.hp w) {H0:Array Go.Obj} {S0:Nat→Prop}:∀ {ks:List PK} {vs:List Value} {x:DK ks} {L0:List Nat} {j:Nat} {z:DL (x7 ks)},I7 H0 S0 ks vs x L0→(∀ q∈H2 ks vs j,q∈B.pins)→X0 s ks j=some z →
  ∃ Lo,C0 w.heap S ks vs z Lo∧Lo.Nodup∧∀ b∈Lo,∃ i e,2000000+j≤i∧look i s.hp=some e∧b∈i7 ι i e
 | [],vs,x,L0,j,z,hK,_,hz=>⟨[],⟨hK.1,rfl⟩,List.nodup_nil,by simp⟩
 | k::ks,vs,x,L0,j,z,⟨v,us,L1,L2,e1,e2,hk,hK⟩,hp,hz=>by
  subst e1 e2
  have plain:∀ {z':DL (x7 ks)},(∀ q∈H2 ks us (j+1),q∈B.pins)→X0 s ks (j+1)=some z'→∃ Lo,C0 w.heap S ks us z' Lo∧Lo.Nodup∧∀ b∈Lo,∃ i e,2000000+j≤i∧look i s.hp=some e∧b∈i7 ι i e:=by
   intro z' hp hz
   obtain ⟨Lo,k1,k2,k3⟩:=a1C h hK hp hz
   exact ⟨Lo,k1,k2,fun b hb=>by obtain ⟨i,e,i1,i2,i3⟩:=k3 b hb; exact ⟨i,e,by omega,i2,i3⟩⟩
  have join:∀ {L1 Lo:List Nat} {e0:f8},look (2000000+j) s.hp=some e0→L1.Nodup→(∀ b∈L1,b∈i7 ι (2000000+j) e0)→Lo.Nodup→(∀ b∈Lo,∃ i e,2000000+(j+1)≤i∧look i s.hp=some e∧b∈i7 ι i e) →
    (L1++Lo).Nodup∧∀ b∈L1++Lo,∃ i e,2000000+j≤i∧look i s.hp=some e∧b∈i7 ι i e:=by
   intro L1 Lo e0 h1 n1 m1 n2 m2
   refine ⟨List.nodup_append.2 ⟨n1,n2,?_⟩,?_⟩
   ·rintro c hc d hd rfl
    obtain ⟨i,e,i1,i2,i3⟩:=m2 c hd
    exact h.dj (2000000+j) i e0 e h1 i2 (by omega) c (m1 c hc) i3
   ·intro b hb
    rcases List.mem_append.1 hb with hb|hb
    ·exact ⟨_,e0,Nat.le_refl _,h1,m1 b hb⟩
    ·obtain ⟨i,e,i1,i2,i3⟩:=m2 b hb; exact ⟨i,e,by omega,i2,i3⟩
  cases k with
  | v t=>obtain ⟨Lo,k1,k2⟩:=plain hp hz; exact ⟨Lo,⟨v,us,rfl,k1⟩,k2⟩
  | rd t=>obtain ⟨Lo,k1,k2⟩:=plain hp hz; exact ⟨Lo,⟨v,us,rfl,k1⟩,k2⟩
  | y8 f ts=>obtain ⟨Lo,k1,k2⟩:=plain hp hz; exact ⟨Lo,⟨v,us,rfl,k1⟩,k2⟩
  | M9=>obtain ⟨Lo,k1,k2⟩:=plain hp hz; exact ⟨Lo,⟨v,us,rfl,k1⟩,k2⟩
  | Q5 f n=>obtain ⟨Lo,k1,k2⟩:=plain hp hz; exact ⟨Lo,⟨v,us,rfl,k1⟩,k2⟩
  | el q=>obtain ⟨Lo,k1,k2⟩:=plain hp hz; exact ⟨Lo,⟨v,us,rfl,k1⟩,k2⟩
  | own t=>obtain ⟨Lo,k1,k2⟩:=plain hp hz; exact ⟨Lo,⟨v,us,rfl,k1⟩,k2⟩
  | rw t =>
   obtain ⟨b0,off0,O0,rfl,_,_,_⟩:=hk
   simp only [X0] at hz
   split at hz
   ·rename_i u x' y' hob hz'
    split at hz
    ·rename_i hu
     cases hz
     subst hu
     have hob:look (2000000+j) s.hp=some (.var u x'):=hob
     obtain ⟨Lo,k1,k2,k3⟩:=a1C h hK (fun q hq=>hp q (by simp only [H2]; exact List.mem_cons_of_mem _ hq)) hz'
     obtain ⟨_,_,p3,p4⟩:=h.pin (2000000+j,(b0,off0),[]) (hp _ (by simp [H2]))
     have p3:ι.root (2000000+j)=(b0,off0):=p3
     obtain ⟨⟨O,hO,hR⟩,hfr,hnd⟩:=(h.ob _ _ hob:OB w.heap S ι (2000000+j) (.var u x'))
     rw [p3] at hR hfr hnd
     have hnd':(b0::O).Nodup:=List.nodup_cons.2 ⟨fun hb=>(List.nodup_cons.1 hnd).1 (hO.mem_iff.1 hb),hO.nodup_iff.2 (List.nodup_cons.1 hnd).2⟩
     obtain ⟨j1,j2⟩:=join hob hnd' (fun b hb=>by
      rcases List.mem_cons.1 hb with rfl|hb
      ·simp [i7,p3]
      ·simp [i7,hO.mem_iff.1 hb]) k2 k3
     exact ⟨(b0::O)++Lo,⟨b0,off0,O,us,Lo,rfl,hR,hfr,rfl,k1⟩,j1,j2⟩
    ·cases hz
   ·cases hz
  | mu t =>
   obtain ⟨cs0,rfl,hR0⟩:=hk
   simp only [X0] at hz
   split at hz
   ·rename_i u x' y' hob hz'
    split at hz
    ·rename_i hu
     cases hz
     subst hu
     have hob:look (2000000+j) s.hp=some (.own (.d0 true t) x'):=hob
     obtain ⟨Lo,k1,k2,k3⟩:=a1C h hK (fun q hq=>hp q (by simp only [H2]; exact List.mem_cons_of_mem _ hq)) hz'
     obtain ⟨_,_,p3,p4⟩:=h.pin (2000000+j,(0,0),[i8 (.d0 true t) cs0]) (hp _ (by simp [H2]))
     have p4:ι.cells (2000000+j)=[i8 (.d0 true t) cs0]:=p4
     obtain ⟨⟨O,hO,hR⟩,hnd⟩:=(h.ob _ _ hob:OB w.heap S ι (2000000+j) (.own (.d0 true t) x'))
     rw [p4] at hR
     obtain ⟨j1,j2⟩:=join hob (hO.nodup_iff.2 hnd) (fun b hb=>hO.mem_iff.1 hb) k2 k3
     exact ⟨O++Lo,⟨[i8 (.d0 true t) cs0],O,us,Lo,rfl,rfl,hR,rfl,k1⟩,j1,j2⟩
    ·cases hz
   ·cases hz

end
end Go.Ex
