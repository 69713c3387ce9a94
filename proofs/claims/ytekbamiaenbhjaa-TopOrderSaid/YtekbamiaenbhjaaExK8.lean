import Derived.Test.YtekbamiaenbhjaaExK7

namespace Go.Ex

section
variable {E:Env} {ops:Array Oper} {B:C6} {S:Nat→Prop} {ι:Ix} {s:St} {a:Act} {w:World}

theorem a4F {s t:St} (he:F0 s t) (h:RS B S ι s a w):RS B S ι t a w:=by
 have hvx:∀ {v:AV} {vs:List Value},VX w.heap S ι s.hp v vs→VX w.heap S ι t.hp v vs:=by
  intro v vs hv
  exact VX.other (fun i _=>(he.2 i).symm) (fun i _=>C7.refl ι i) hv
 exact ⟨⟨h.hs.os,h.hs.tape,h.hs.out,h.hs.size,h.hs.frame,h.hs.slt,h.hs.s0,h.hs.s1,fun i e hi=>h.hs.ob i e ((he.2 i).trans hi),fun i e hi=>h.hs.bl i e ((he.2 i).trans hi),fun i j ei ej hi hj=>h.hs.dj i j ei ej ((he.2 i).trans hi) ((he.2 j).trans hj),fun q hq=>by obtain ⟨r1,⟨e,r2⟩,r3⟩:=h.hs.pin q hq; exact ⟨r1,⟨e,(he.2 q.1).symm.trans r2⟩,r3⟩⟩,h.dfr,h.sz,
  fun m v hv=>hvx (h.fr m v ((he.1 m).trans hv))⟩

theorem RS.forget (h:RS B S ι s a w) (d:Nat):RS B S ι { s with fr:=Ex.put d .any s.fr } a w:=by
 refine ⟨h.hs,h.dfr,h.sz,fun t v hv=>?_⟩
 rw [p7] at hv
 split at hv
 ·cases hv; exact ⟨_,rfl⟩
 ·exact h.fr t v hv

theorem RS.H4:∀ {l:List Oper} {s:St},RS B S ι s a w→RS B S ι (Ex.H4 l s) a w
 | [],s,h=>h
 | o::l,s,h=>by
  unfold Ex.H4
  split
  ·split
   ·exact RS.H4 (h.forget _)
   ·exact RS.H4 h
  ·exact RS.H4 h

theorem a1L {m:Nat}:∀ {l:List Oper} {s:St},look m (Ex.H4 l s).fr=look m s.fr∨look m (Ex.H4 l s).fr=some .any
 | [],s=>.inl rfl
 | o::l,s=>by
  unfold Ex.H4
  split
  ·split
   ·rename_i d _ _
    rcases a1L (m:=m) (l:=l) (s:={ s with fr:=Ex.put d .any s.fr }) with h|h
    ·rw [p7] at h
     split at h
     ·exact .inr h
     ·exact .inl h
    ·exact .inr h
   ·exact a1L
  ·exact a1L

theorem a2s {o:Oper} {c:Call} {d:Nat} (hop:o.op=.call c) (hc:c.callee=.builtin .append) (hd:o.dst=some d):∀ {l:List Oper} {s:St},o∈l→look d (Ex.H4 l s).fr=some .any
 | [],_,h=>by cases h
 | x::l,s,h=>by
  unfold Ex.H4
  rcases List.mem_cons.1 h with rfl|h
  ·rw [hop]
   simp only [hc,hd]
   rcases a1L (m:=d) (l:=l) (s:={ s with fr:=Ex.put d .any s.fr }) with h|h
   ·rw [h,p7,if_pos rfl]
   ·exact h
  ·split
   ·split
    ·exact a2s hop hc hd h
    ·exact a2s hop hc hd h
   ·exact a2s hop hc hd h

/-! ### what is quiet -/
theorem b9C (hE:A6 E B) (h:RS B S ι s a w) {o:Oper} {T:TypeId} {x:Operand} (ho:o.op=.load T x) {v:AV} {s':St} (hl:U2 E T (s.ev x) s=.ok v s') :
  s'=s∧∃ val,(execOp a.eval o).run E.P w=.ok (.value val) w∧VX w.heap S ι s.hp v [val]:=by
 have he:execOp a.eval o=(do pure (.value (← Instr.loadAt T (a.eval x)))):=by simp [execOp,ho]
 have hv:=h.ev x
 unfold U2 at hl
 split at hl
 ·rename_i t y hx
  rw [hx] at hv
  obtain ⟨b,off,e,hb,hr,hR⟩:=hv
  split at hl
  ·rename_i hc
   cases hl
   have e:a.eval x=.pointer (some ⟨b,off,none⟩):=by simpa using e
   refine ⟨rfl,j8 t (f8 w.heap b off t.size),J8 he (w':=w) ?_,_,rfl,hR⟩
   rw [e]
   simp [Instr.loadAt,Instr.sureAddr,a01 (B2 hE hc) hR]
  ·cases hl
 ·rename_i l hx
  rw [hx] at hv
  split at hl
  ·rename_i ht
   cases hl
   obtain ⟨val,k1,k2⟩:=b6e (hE:=hE) ht hv
   exact ⟨rfl,val,J8 he k1,k2⟩
  ·cases hl
 ·rename_i i p hx
  rw [hx] at hv
  obtain ⟨e,b,off,h1,h2,h3,h4⟩:=hv
  have h4:a.eval x=.pointer (some ⟨b,off,none⟩):=by simpa using h4
  split at hl
  ·rename_i u y hpt
   have hg:=F6 h1 hpt
   obtain ⟨O2,k1,k2,k3,k4,k5⟩:=M9 (K1 h3) (h.hs.ob i e h1) h.hs.slt h2 hg h3
   split at hl
   ·rename_i hc
    have hr:(Instr.loadAt T (a.eval x)).run E.P w=.ok (j8 u (f8 w.heap b off u.size)) w:=by
     rw [h4]; simp [Instr.loadAt,Instr.sureAddr,a01 (B2 hE hc) k3]
    split at hl
    ·rename_i hs
     cases hl
     have:=k3.M4 hs
     subst this
     exact ⟨rfl,_,J8 he hr,_,rfl,k3⟩
    ·cases hl
     have hp:=A7 h3
     exact ⟨rfl,_,J8 he hr,e,u,y,_,h1,h2,hg,⟨b,off,hp.1,(l5 (G6 hp.2) _ _).symm⟩,rfl⟩
   ·cases hl
  ·cases hl
 ·cases hl

theorem b9r (hE:A6 E B) (h:RS B S ι s a w) {o:Oper} (hq:quiet o=true) {p:Prop} {s1:St} (hr:u6 E ops o s=some (p,s1)) (hp:p) :
  o.guard=none∧E7 E.nt o.dst=true∧∃ v val,s1=s.put o.dst v∧(execOp a.eval o).run E.P w=.ok (.value val) w∧VX w.heap S ι s.hp v [val]:=by
 simp only [quiet,Bool.and_eq_true,Option.isNone_iff_eq_none] at hq
 obtain ⟨hg,hq⟩:=hq
 unfold u6 at hr
 rw [hg] at hr
 simp only at hr
 unfold I9 at hr
 split at hr
 ·cases hr
 ·rename_i hd
  refine ⟨hg,hd,?_⟩
  have key:∀ (r:OR),(match r.get with|none=>none|some (p,v,s')=>some (p,s'.put o.dst v))=some (p,s1)→a6Y E.P S ι o a w s r→∃ v val,s1=s.put o.dst v∧(execOp a.eval o).run E.P w=.ok (.value val) w∧VX w.heap S ι s.hp v [val]:=by
   intro r hr hpr
   cases r with
   | fail why=>cases hr
   | ok v s' =>
    simp only [OR.get,Option.some.injEq,Prod.mk.injEq] at hr
    obtain ⟨e1,val,k1,k2⟩:=hpr
    exact ⟨v,val,by rw [← hr.2,e1],k1 w,k2⟩
   | E0 p' v s' =>
    simp only [OR.get,Option.some.injEq,Prod.mk.injEq] at hr
    obtain ⟨e1,val,k1,k2⟩:=hpr (by rw [hr.1]; exact hp)
    exact ⟨v,val,by rw [← hr.2,e1],k1 w,k2⟩
  split at hq
  ·rename_i x ho
   rw [ho] at hr
   simp only [j9,ho,OR.get,Option.some.injEq,Prod.mk.injEq] at hr
   exact ⟨s.ev x,a.eval x,hr.2.symm,by simp [execOp,ho],h.ev x⟩
  ·rename_i T x ho
   rw [ho] at hr
   simp only [j9,ho] at hr
   cases hl:U2 E T (s.ev x) s with
   | fail y=>rw [hl] at hr; cases hr
   | ok v s' =>
    rw [hl] at hr
    simp only [OR.get,Option.some.injEq,Prod.mk.injEq] at hr
    obtain ⟨e1,val,k1,k2⟩:=b9C hE h ho hl
    exact ⟨v,val,by rw [← hr.2,e1],k1,k2⟩
   | E0 p' v s' =>
    exfalso
    unfold U2 at hl
    repeat' split at hl
    all_goals cases hl
  ·rename_i T x n ho
   have:=a4e hE h (o:=o) (by rw [ho]; rfl)
   rw [ho] at hr
   exact key _ hr this
  ·rename_i T x n ho
   have:=a4e hE h (o:=o) (by rw [ho]; rfl)
   rw [ho] at hr
   exact key _ hr this
  ·rename_i x ho
   have:=a4e hE h (o:=o) (by rw [ho]; rfl)
   rw [ho] at hr
   exact key _ hr this
  ·cases hq

theorem b9s {o:Oper} (hq:quiet o=true) {p:Prop} {s1:St} (hr:u6 E ops o s=some (p,s1)):∃ v,s1=s.put o.dst v:=by
 simp only [quiet,Bool.and_eq_true,Option.isNone_iff_eq_none] at hq
 obtain ⟨hg,hq⟩:=hq
 unfold u6 at hr
 rw [hg] at hr
 simp only at hr
 unfold I9 at hr
 split at hr
 ·cases hr
 ·rename_i hd
  have key:∀ (r:OR) (t:St),(∀ v s',r=.ok v s'→s'=s)→(∀ p v s',r=.E0 p v s'→s'=s)→(match r.get with|none=>none|some (p,v,s')=>some (p,s'.put o.dst v))=some (p,s1)→∃ v,s1=s.put o.dst v:=by
   intro r t h1 h2 hr
   cases r with
   | fail why=>cases hr
   | ok v s' =>
    simp only [OR.get,Option.some.injEq,Prod.mk.injEq] at hr
    exact ⟨v,by rw [← hr.2,h1 v s' rfl]⟩
   | E0 p' v s' =>
    simp only [OR.get,Option.some.injEq,Prod.mk.injEq] at hr
    exact ⟨v,by rw [← hr.2,h2 p' v s' rfl]⟩
  split at hq
  ·rename_i x ho
   rw [ho] at hr
   refine key _ s ?_ ?_ hr<;>(intros; simp_all [j9])
  ·rename_i T x ho
   rw [ho] at hr
   refine key _ s ?_ ?_ hr
   ·intro v s' e
    simp only [j9,ho] at e
    unfold U2 at e
    repeat' split at e
    all_goals (cases e; try rfl)
   ·intro q v s' e
    simp only [j9,ho] at e
    unfold U2 at e
    repeat' split at e
    all_goals (cases e; try rfl)
  ·rename_i T x n ho
   rw [ho] at hr
   refine key _ s ?_ ?_ hr
   ·intro v s' e
    simp only [j9,ho] at e
    repeat' split at e
    all_goals (cases e; try rfl)
   ·intro q v s' e
    simp only [j9,ho] at e
    repeat' split at e
    all_goals (cases e; try rfl)
  ·rename_i T x n ho
   rw [ho] at hr
   refine key _ s ?_ ?_ hr
   ·intro v s' e
    simp only [j9,ho] at e
    repeat' split at e
    all_goals (cases e; try rfl)
   ·intro q v s' e
    simp only [j9,ho] at e
    repeat' split at e
    all_goals (cases e; try rfl)
  ·rename_i x ho
   rw [ho] at hr
   refine key _ s ?_ ?_ hr
   ·intro v s' e
    simp only [j9,ho] at e
    repeat' split at e
    all_goals (cases e; try rfl)
   ·intro q v s' e
    simp only [j9,ho] at e
    repeat' split at e
    all_goals (cases e; try rfl)
  ·cases hq

/-! ### a store of a plain value between an append and its own store -/
theorem b5K {o:Oper} (hg:o.guard=none) {T:TypeId} {a x:Operand} (ho:o.op=.store T a x) {j:Nat} {q:List Step} {v:Ty} {z:v.den} (ha:s.ev a=.ptr j q) (hx:s.ev x=.val v z) {p:Prop} {s1:St} (h:u6 E ops o s=some (p,s1)) :
  ∃ (e:f7) (r:Sigma Ty.den) (u:Ty) (y:u.den),E7 E.nt o.dst=true∧look j s.hp=some e∧l8 e.ty e.x q (H9 u ⟨v,z⟩).1 (H9 u ⟨v,z⟩).2=some r∧(i6 e.ty e.x q=some ⟨u,y⟩∧G1 E T u=true)∧s1=((s.kill j e.kd q).s6 j (e.B0 r)).put o.dst (.raw undef):=by
 have hr:∀ t,u6 E ops o t=I9 E o t:=fun t=>by unfold u6; rw [hg]
 rw [hr] at h
 have hop:∀ t,j9 E o t=(match t.ev a with|.ptr i p=>F1 E T i p (t.ev x) t|_=>.fail "store"):=fun t=>by unfold j9; rw [ho]; rfl
 have hrun:∀ t,I9 E o t=(match E7 E.nt o.dst with|false=>none|true=>match (j9 E o t).get with|none=>none|some (p,v,s')=>some (p,s'.put o.dst v)):=fun t=>by unfold I9; rw [ho]; rfl
 rw [hrun] at h
 split at h
 ·cases h
 ·rename_i hd
  rw [hop,ha] at h
  simp only at h
  rw [hx] at h
  cases hob:look j s.hp with
  | none =>
   have:F1 E T j q (.val v z) s=.fail "store: object":=by unfold F1 St.obj; rw [hob]
   rw [this] at h; cases h
  | some e =>
   cases hgp:i6 e.ty e.x q with
   | none =>
    have:F1 E T j q (.val v z) s=.fail "store: path":=by unfold F1 St.obj; rw [hob]; simp only [hgp]
    rw [this] at h; cases h
   | some uy =>
    obtain ⟨u,y⟩:=uy
    cases hc:G1 E T u with
    | false =>
     have:F1 E T j q (.val v z) s=.fail "store: type":=by unfold F1 St.obj; rw [hob]; simp only [hgp,hc]
     rw [this] at h; cases h
    | true =>
     have hsA:F1 E T j q (.val v z) s=(match l8 e.ty e.x q (H9 u ⟨v,z⟩).1 (H9 u ⟨v,z⟩).2 with
       | some r=>.ok (.raw undef) ((s.kill j e.kd q).s6 j (e.B0 r))
       | none=>.fail "store: value"):=by
      unfold F1 St.obj; rw [hob]; simp only [hgp,hc,AV.W8,AV.U5,St.t6]
      cases l8 e.ty e.x q (H9 u ⟨v,z⟩).1 (H9 u ⟨v,z⟩).2 with
      | none=>rfl
      | some r=>rfl
     rw [hsA] at h
     cases hset:l8 e.ty e.x q (H9 u ⟨v,z⟩).1 (H9 u ⟨v,z⟩).2 with
     | none=>rw [hset] at h; cases h
     | some r =>
      rw [hset] at h
      simp only [OR.get,Option.some.injEq,Prod.mk.injEq] at h
      obtain ⟨rfl,rfl⟩:=h
      exact ⟨e,r,u,y,hd,rfl,hset,⟨hgp,hc⟩,rfl⟩

theorem c1u (hE:A6 E B) (hn:B.n=E.nt) (h:RS B S ι s a w) {o:Oper} (hg:o.guard=none) {T:TypeId} {ad x:Operand} (ho:o.op=.store T ad x) {j:Nat} {q:List Step} {v:Ty} {z:v.den} (ha:s.ev ad=.ptr j q) (hx:s.ev x=.val v z) {p:Prop} {s1:St} (hr:u6 E ops o s=some (p,s1)) :
  ∃ ι' w',(execOp a.eval o).run E.P w=.ok .skip w'∧RS B S ι' s1 (a.put o.dst undef) w'∧∀ {g:List Nat} {i:Nat} {e:f7} {p0:List Step} {t0:Ty} {l m:List t0.den} {b off:Nat} {v':Value},i≠j→j∉g→look i s.hp=some e→w6 e.ty e.x p0→i6 e.ty e.x p0=some ⟨.d0 true t0,l⟩→a8K B S ι s.hp g i e p0 t0 l m b off v' w→a8K B S ι' s1.hp g i e p0 t0 l m b off v' w':=by
 obtain ⟨ej,r,u,y,hd,hob,hset,⟨hgp,hck⟩,rfl⟩:=b5K hg ho ha hx hr
 have hadr:=h.ev ad
 rw [ha] at hadr
 obtain ⟨e',b0,off0,c1,hok,hl,c4⟩:=hadr
 rw [hob] at c1; cases c1
 have c4:a.eval ad=.pointer (some ⟨b0,off0,none⟩):=by simpa using c4
 have hval:=h.ev x
 rw [hx] at hval
 obtain ⟨cs,hv1,hz⟩:=hval
 have hv1:a.eval x=j8 v cs:=by simpa using hv1
 obtain ⟨hz,hagg⟩:=b3C (u:=u) (q:=⟨v,z⟩) hz
 rw [← a7g hagg] at hv1
 generalize (H9 u ⟨v,z⟩)=fz at hset hz hagg hv1
 obtain ⟨v,z⟩:=fz
 dsimp only at hset hz hv1
 have hnb:=K1 hl
 obtain ⟨Op,m1,mn,m2,m3,m4,m5⟩:=M9 hnb (h.hs.ob j ej hob) h.hs.slt hok hgp hl
 have hsh:=a38 hgp hset
 have hnS:¬ S b0:=(h.hs.bl j ej hob b0 m4).1
 have hcs:cs.length=u.size:=by rw [hz.length,E4 hsh]
 obtain ⟨ι',⟨O,rfl,hO⟩,h1⟩:=h.b9e hob hok hgp hl (u':=v) (z:=z) (cs:=cs) (O2:=[]) (fun H' hsz hc=>hz.s7 (fun c hc'=>hc.rest c (by
   rintro rfl
   rcases hc' with hc'|hc'
   ·cases hc'
   ·exact hnS hc') (by
   rcases hc' with hc'|hc'
   ·cases hc'
   ·exact h.hs.slt c hc')) (fun _ h=>h)) hcs List.nodup_nil (by simp) hset (fun how _=>b21 hset (b55 hl how))
 have hrun:(execOp a.eval o).run E.P w=.ok .skip (w.setRow b0 (K3 (w7 w.heap b0) off0 cs).toArray):=by
  simp [execOp,ho,c4,hv1,Instr.storeAt,Instr.sureAddr,a6m (B2 hE hck) hsh m5 hz]
 refine ⟨_,_,hrun,h1.put (by rw [hn]; exact hd) (v:=.raw undef) (val:=undef) rfl,?_⟩
 rintro g i e p0 t0 l m b off v' hij hjg hi hok0 hg0 ⟨O',k1,k2,k3,k4,k5⟩
 have hold:∀ c,c≠b0→(w.setRow b0 (K3 (w7 w.heap b0) off0 cs).toArray).heap[c]?=w.heap[c]?:=fun c hc=>setRow_other hc
 have hsame:C7 ι (ι.B1 j O) i:=a0d hij O
 have hnbi:=K1 k1
 have hbO:b0∉O':=fun hc=>(k5 b0 hc).2.1 j ej (Ne.symm hij) hjg hob m4
 refine ⟨O',?_,k2.s7 (fun c hc=>hold c (by
   rintro rfl
   rcases hc with hc|hc
   ·exact hbO hc
   ·exact hnS hc)) (fun _ h=>h),k3,k4,fun c hc=>⟨?_,fun k ek hk hkg hlk=>?_,fun hci=>?_⟩⟩
 ·rw [hsame.loc]
  exact a3i hnbi (h.hs.ob i e hi) h.hs.slt (fun c hc=>hold c (by rintro rfl; exact h.hs.dj i j e ej hi hob hij c hc m4)) hok0 k1
 ·obtain ⟨f1,f2,f3⟩:=(k5 c hc).1
  exact ⟨f1,f2,by rw [setRow_size]; exact f3⟩
 ·rw [G3] at hlk
  simp only [St.s6,p7] at hlk
  by_cases hkj:k=j
  ·subst hkj
   rw [if_pos rfl] at hlk; cases hlk
   intro hcb
   refine (k5 c hc).2.1 k ej hk hkg hob ?_
   cases ej with
   | var t1 x1 =>
    simp only [l6,f7.B0,Ix.B1,if_true,List.mem_cons] at hcb ⊢
    rcases hcb with hcb|hcb
    ·exact .inl hcb
    ·rcases (hO c hcb).1 with h9|h9
     ·exact .inr h9
     ·cases h9
   | own t1 x1 =>
    simp only [l6,f7.B0,Ix.B1,if_true] at hcb ⊢
    rcases (hO c hcb).1 with h9|h9
    ·exact h9
    ·cases h9
   | J0=>exact absurd rfl hnb
  ·rw [if_neg hkj] at hlk
   rw [(a0d hkj O).l6]
   exact (k5 c hc).2.1 k ek hk hkg hlk
 ·rw [hsame.l6] at hci
  obtain ⟨Op',o1,o2⟩:=(k5 c hc).2.2 hci
  obtain ⟨O3,n1,_,n3,_,n5,_⟩:=M9 hnbi (h.hs.ob i e hi) h.hs.slt hok0 hg0 k1
  have hbi:b0≠b:=by
   rintro rfl
   exact h.hs.dj i j e ej hi hob hij b0 n5 m4
  have hO3:O3=Op':=n3.det o1
  have hOpi:∀ c'∈Op',c'≠b0:=by
   rintro c' hc' rfl
   rw [← hO3] at hc'
   exact h.hs.dj i j e ej hi hob hij c' (G9 (n1 c' hc')) m4
  refine ⟨Op',?_,o2⟩
  rw [l5 (hold b hbi.symm)]
  exact o1.s7 (fun c' hc'=>hold c' (by
   rintro rfl
   rcases hc' with hc'|hc'
   ·exact hOpi _ hc' rfl
   ·exact hnS hc')) (fun _ h=>h)

theorem a0H {T:List Nat} {f:AV→AV} (hf:Trim T f) {u v:AV} (h:f u=v) (hv:v.ref=true∨(v.plain=true∧v≠.any)):u=v:=by
 cases u with
 | cons a b=>rw [hf.cons] at h; subst h; rcases hv with hv|⟨hv,_⟩<;>cases hv
 | H5 l=>rw [hf.H5] at h; subst h; rcases hv with hv|⟨hv,_⟩<;>cases hv
 | s4 g l=>rw [hf.s4] at h; subst h; rcases hv with hv|⟨hv,_⟩<;>cases hv
 | bx l=>rw [hf.bx] at h; subst h; rcases hv with hv|⟨hv,_⟩<;>cases hv
 | rc g l=>rw [hf.rc] at h; subst h; rcases hv with hv|⟨hv,_⟩<;>cases hv
 | ptr i p=>rcases hf.atom _ (rfl:(AV.ptr i p).ref=true) with e|e<;>rw [e] at h<;>first|exact h|(subst h; rcases hv with hv|⟨_,hv⟩<;>first|cases hv|exact absurd rfl hv)
 | at_ i p=>rcases hf.atom _ (rfl:(AV.at_ i p).ref=true) with e|e<;>rw [e] at h<;>first|exact h|(subst h; rcases hv with hv|⟨_,hv⟩<;>first|cases hv|exact absurd rfl hv)
 | sub i p x y=>rcases hf.atom _ (rfl:(AV.sub i p x y).ref=true) with e|e<;>rw [e] at h<;>first|exact h|(subst h; rcases hv with hv|⟨_,hv⟩<;>first|cases hv|exact absurd rfl hv)
 | _=>rw [hf.plain _ rfl] at h; exact h

theorem b8q {u:Ty} {v:AV} {r:Sigma fun t:Ty=>List t.den} {g:List Nat} (h:v.Y2 s u=some (r,g)):v.ref=true∨(v.plain=true∧v≠.any):=by
 cases v with
 | ptr i p=>exact .inl rfl
 | at_ i p=>exact .inl rfl
 | sub i p x y=>exact .inl rfl
 | raw v=>exact .inr ⟨rfl,by intro h; cases h⟩
 | val t x=>exact .inr ⟨rfl,by intro h; cases h⟩
 | u5 t x=>exact .inr ⟨rfl,by intro h; cases h⟩
 | nil=>exact .inr ⟨rfl,by intro h; cases h⟩
 | _=>exfalso; simp [AV.Y2,AV.els] at h

theorem b1i {M:List Nat} {q:a0p} {n:Nat} (h:a9F ops M q n s=true) {j:Nat} (hj:j<n) (hjk:j≠q.k) {o:Oper} (ho:ops[j]?=some o):(M.getD q.k 0).testBit j=true∨quiet o=true∨a3F ops q n j o s=true:=by
 simp only [a9F,List.all_eq_true,List.mem_range] at h
 have:=h j hj
 simp only [Bool.or_eq_true,ho] at this
 rcases this with h|(h|h)|h
 ·exact absurd (Nat.eq_of_beq_eq_true h) hjk
 ·exact .inl h
 ·exact .inr (.inl h)
 ·exact .inr (.inr h)

theorem a7O {q:a0p} {n j:Nat} {o:Oper} (h:a3F ops q n j o s=true):o.guard=none∧o.dst=none∧∃ T ad x j0 q0 v z,o.op=.store T ad x∧s.ev ad=.ptr j0 q0∧s.ev x=.val v z∧(s.ev q.x).g8 j0=false∧(s.ev q.y).g8 j0=false∧∀ j',j<j'→j'<n→∀ o',ops[j']?=some o'→∀ d,o'.dst=some d→d∉looks ops o:=by
 unfold a3F at h
 split at h
 ·rename_i T ad x ho
  simp only [Bool.and_eq_true] at h
  obtain ⟨⟨⟨h1,hg⟩,hd⟩,h2⟩:=h
  split at h1
  ·rename_i j0 q0 v z ha hx
   simp only [Bool.and_eq_true,Bool.not_eq_true'] at h1
   refine ⟨by simpa using hg,by simpa using hd,T,ad,x,j0,q0,v,z,ho,ha,hx,h1.1,h1.2,fun j' hj hj' o' ho' d hd hm=>?_⟩
   simp only [List.all_eq_true,List.mem_range] at h2
   have:=h2 j' hj'
   rw [Bool.or_eq_true] at this
   rcases this with h9|h9
   ·have:=Nat.le_of_ble_eq_true h9; omega
   ·rw [ho'] at h9
    simp [a7n,hd,hm] at h9
  ·cases h1
 ·cases h

theorem Trim.a5D {T T':List Nat} {f g:AV→AV} (hf:Trim T f) (hg:Trim T' g):Trim (T++T') (fun u=>g (f u)):=by
 refine ⟨fun a b=>by rw [hf.cons,hg.cons],fun l=>by rw [hf.H5,hg.H5],fun k l=>by rw [hf.s4,hg.s4],fun l=>by rw [hf.bx,hg.bx],fun k l=>by rw [hf.rc,hg.rc],fun u hu=>?_,fun u hu h=>?_,fun u hu=>by rw [hf.plain u hu,hg.plain u hu]⟩
 ·rcases hf.atom u hu with e|e
  ·rw [e]; exact hg.atom u hu
  ·rw [e]; exact .inr (hg.plain _ rfl)
 ·rw [hf.a5v u hu (fun i hi=>h i (List.mem_append_left _ hi)),hg.a5v u hu (fun i hi=>h i (List.mem_append_right _ hi))]

theorem b0E {J:List Nat} {F:AV→AV} (hF:Trim J F) {s t:St} {z:Operand} (h:∀ m,z=.tmp m→look m t.fr=(look m s.fr).map F):t.ev z=F (s.ev z):=by
 cases z with
 | tmp m =>
  have hg:t.get m=F (s.get m):=by
   simp only [St.get,h m rfl]
   cases look m s.fr with
   | none=>exact (hF.plain _ rfl).symm
   | some v=>rfl
  rw [a2I,a2I]
  unfold gq
  cases Nat.beq m F8 with
  | true=>exact (hF.plain _ rfl).symm
  | false=>exact hg
 | const c=>exact (hF.fix _ (fun i _=>a0w c i)).symm
 | global g=>exact (hF.plain _ rfl).symm
 | func f=>exact (hF.fix _ (fun i _=>rfl)).symm

theorem a33 {M:Nat→Nat} {q:a0p} {n:Nat} {sF:St}:∀ {l:List Nat} {acc:List (Nat×St)} {s s':St},X3 E ops M acc l s s'→F0 s' sF→uniq s.fr→l.Pairwise (·<·)→(∀ j∈l,j<n)→(∀ j∈l,∀ o,ops[j]?=some o→quiet o=true∨a3F ops q n j o sF=true) →
  ∃ (J:List Nat) (f:AV→AV),Trim J f∧(∀ j∈J,(sF.ev q.x).g8 j=false∧(sF.ev q.y).g8 j=false)∧(∀ i,i∉J→look i s'.hp=look i s.hp)∧∀ m,(∀ j∈l,∀ o,ops[j]?=some o→o.dst≠some m)→look m s'.fr=(look m s.fr).map f
 | [],acc,s,s',h,_,_,_,_,_=>by
  obtain rfl:s=s':=h
  exact ⟨[],fun u=>u,Trim.id _,by simp,fun _ _=>rfl,fun m _=>by simp⟩
 | j::l,acc,s,s',⟨o,ho,_,p,s1,h1,_,h2⟩,hev,hu,hpw,hlt,hq=>by
  obtain ⟨hpw1,hpw2⟩:=List.pairwise_cons.1 hpw
  obtain ⟨J,f,k1,k2,k3,k4⟩:=a33 h2 hev (C4 hu h1) hpw2 (fun j' hj'=>hlt j' (by simp [hj'])) (fun j' hj'=>hq j' (by simp [hj']))
  rcases hq j (by simp) o ho with hqt|hls
  ·obtain ⟨v,rfl⟩:=b9s hqt h1
   refine ⟨J,f,k1,k2,fun i hi=>(k3 i hi).trans (by rw [G3]),fun m hm=>?_⟩
   rw [k4 m (fun j' hj'=>hm j' (by simp [hj'])),D7,if_neg (hm j (by simp) o ho)]
  ·obtain ⟨hg,hdn,T,ad,x,j0,q0,v,z,g1,g2,g3,g4,g5,g6⟩:=a7O hls
   -- what the store saw
   obtain ⟨v0,ids,f0,h0,z1,z2,z3,z4,z5⟩:=V2 (ops:=ops) hu h1
   obtain ⟨s1',y1,_,y2⟩:=z5 s hu ((F0.refl s).a07 _ _) z2
   rw [h1] at y1; cases y1
   have hsee:∀ y,y∈o.op.operands.toList→sF.ev y=f (f0 (s.ev y)):=by
    intro y hy
    refine b0E (z1.a5D k1) (fun m hm=>?_)
    subst hm
    have hml:=J3 (ops:=ops) hy
    rw [← hev.1 m,k4 m (fun j' hj' o' ho' hd'=>g6 j' (hpw1 j' hj') (hlt j' (by simp [hj'])) o' ho' m hd' hml),y2.fr,if_neg (by rw [hdn]; intro h; cases h)]
    cases look m s.fr<;>rfl
   have ha:s.ev ad=.ptr j0 q0:=a0H (z1.a5D k1) ((hsee ad (by rw [g1]; simp [Op.operands])).symm.trans g2) (.inl rfl)
   have hx:s.ev x=.val v z:=a0H (z1.a5D k1) ((hsee x (by rw [g1]; simp [Op.operands])).symm.trans g3) (.inr ⟨rfl,by intro h; cases h⟩)
   obtain ⟨e,r,_,_,_,_,_,_,rfl⟩:=b5K hg g1 ha hx h1
   refine ⟨[j0]++J,fun u=>f (AV.kill j0 e.kd q0 u),(Trim.kill j0 e.kd q0).a5D k1,fun i hi=>?_,fun i hi=>?_,fun m hm=>?_⟩
   ·rcases List.mem_append.1 hi with hi|hi
    ·rw [List.mem_singleton] at hi; subst hi; exact ⟨g4,g5⟩
    ·exact k2 i hi
   ·rw [k3 i (fun h=>hi (List.mem_append_right _ h)),G3]
    simp only [St.s6,p7]
    rw [if_neg (fun h=>hi (List.mem_append_left _ (by simp [h])))]
    rfl
   ·rw [k4 m (fun j' hj'=>hm j' (by simp [hj'])),D7,if_neg (hm j (by simp) o ho)]
    have e1:look m ((s.kill j0 e.kd q0).s6 j0 (e.B0 r)).fr=(look m s.fr).map (AV.kill j0 e.kd q0):=H6 m _ _
    rw [e1]
    cases look m s.fr<;>rfl

/-! ### what the check of a pending append says -/
theorem a6t {M:List Nat} {k n:Nat} (h:a9q ops M k n=true):n+1=ops.size∧k<n∧∃ ok,ops[k]?=some ok∧∀ j,j<n→(M.getD n 0).testBit j=true∧(j≠k→∃ o,ops[j]?=some o∧(∀ d,ok.dst=some d→o.dst≠some d) ∧
  ((M.getD k 0).testBit j=true∨((quiet o=true∨b3t o=true)∧∀ d,o.dst=some d→d∉looks ops ok))):=by
 simp only [a9q,Bool.and_eq_true] at h
 obtain ⟨⟨h1,h2⟩,h3⟩:=h
 have hn:=Nat.eq_of_beq_eq_true h1
 refine ⟨hn,by simpa [Nat.blt_eq] using h2,?_⟩
 split at h3
 ·rename_i ok hok
  refine ⟨ok,hok,fun j hj=>?_⟩
  simp only [List.all_eq_true,List.mem_range] at h3
  have:=h3 j hj
  simp only [Bool.and_eq_true,Bool.or_eq_true] at this
  obtain ⟨m1,m2⟩:=this
  refine ⟨m1,fun hjk=>?_⟩
  rcases m2 with m2|m2
  ·exact absurd (Nat.eq_of_beq_eq_true m2) hjk
  ·split at m2
   ·rename_i o ho
    simp only [Bool.and_eq_true,Bool.or_eq_true] at m2
    refine ⟨o,ho,fun d hd hod=>?_,m2.2.imp id (fun h=>⟨h.1,fun d hd hdl=>?_⟩)⟩
    ·have:=m2.1
     simp only [a7n,hod,hd,Option.toList] at this
     simp at this
    ·have:=h.2
     simp only [a7n,hd] at this
     simp [hdl] at this
   ·cases m2
 ·cases h3

theorem a8x {M:List Nat} {q:a0p} {n:Nat} {o:Oper} {s:St} {p:Prop} {s2:St} (h:b0C E ops M q n o s=some (p,s2)):∃ T2 ad s3,o.guard=none∧o.op=.store T2 ad (.tmp q.d)∧(∀ t,ad=.tmp t→t≠q.d)∧(a9q ops M q.k n=true∧a9F ops M q n s=true)∧E7 E.nt o.dst=true ∧
  a6S E q.T q.U T2 (s.ev q.x) (s.ev q.y) (s.ev ad) q.d s=some (p,s3)∧s2=s3.put o.dst (.raw undef):=by
 unfold b0C at h
 split at h
 ·rename_i T2 ad d' hg hop
  split at h
  ·rename_i hc
   simp only [Bool.and_eq_true] at hc
   obtain ⟨⟨⟨⟨c1,c2⟩,c3⟩,c5⟩,c4⟩:=hc
   obtain rfl:=Nat.eq_of_beq_eq_true c1
   split at h
   ·rename_i p' s3 hs
    cases h
    exact ⟨T2,ad,s3,hg,hop,fun t e=>by subst e; rintro rfl; simp at c2,⟨c3,c5⟩,c4,hs,rfl⟩
   ·cases h
  ·cases h
 ·cases h

theorem a8H (hE:A6 E B) {x y adv:AV} {T U T2:TypeId} {d:Nat} {p:Prop} {s2:St} (hb:a6S E T U T2 x y adv d s=some (p,s2)) (hp:p) :
  ∃ i p0 e t0 l m g r q bts,x=.at_ i p0∧adv=.ptr i p0∧look i s.hp=some e∧i∉g∧g.Nodup∧(g.all fun i=>!pinned i)=true∧i6 e.ty e.x p0=some ⟨.d0 true t0,l⟩∧G1 E T2 (.d0 true t0)=true ∧
   l8 e.ty e.x p0 (.d0 true t0) (l++m)=some r∧s2=(((St.t6 g (s.put (some d) .any)).kill i e.kd p0).s6 i (e.B0 r))∧look T E.tt=some ⟨.d0 q t0,bts⟩ ∧
   ((∃ e',E.P.underlying U=some (.slice e'))∨E.P.underlying U=some .string)∧y.Y2 s t0=some (⟨t0,m⟩,g)∧l.length+m.length≤140737488355328∧(l.length+m.length)*t0.wb≤140737488355328 ∧
   ((∃ t x,e=.var t x)∨∃ t x j q,e=.own (.d0 true t) x∧p0=.idx j::q):=by
 unfold a6S at hb
 split at hb
 ·rename_i i p0 j q q1 t0 bts u1 bts1 hT hU
  split at hb
  ·rename_i e hob hku
   simp only [Bool.and_eq_true] at hku
   obtain ⟨hij,hku⟩:=hku
   have hij:=Nat.eq_of_beq_eq_true hij
   subst hij
   split at hb
   ·rename_i u l hg
    split at hb
    ·rename_i t m g happ
     split at hb
     ·rename_i hu
      split at hb
      ·rename_i ht
       subst hu; subst ht
       split at hb
       ·rename_i r hset
        split at hb
        ·rename_i hck
         cases hb
         simp only [Bool.and_eq_true,Bool.not_eq_true'] at hck
         obtain ⟨⟨⟨⟨hck,hst⟩,hgi⟩,hgn⟩,hgp⟩:=hck
         obtain ⟨rfl,h63,hby⟩:=hp
         have hgi:i∉g:=by intro hm; simp [hm] at hgi
         have hk:(∃ e',E.P.underlying U=some (.slice e'))∨E.P.underlying U=some .string:=by
          cases u1<;>first|cases hku|skip
          ·exact .inr (P0 (w5 hE hU))
          ·obtain ⟨et,k',f1,_⟩:=E1 (w5 hE hU)
           exact .inl ⟨et,f1⟩
         exact ⟨i,q,e,_,l,m,g,r,_,_,rfl,rfl,hob,hgi,a04 hgn,hgp,hg,hck,hset,rfl,hT,hk,happ,h63,hby,(a6h hst).2⟩
        ·cases hb
       ·cases hb
      ·cases hb
     ·cases hb
    ·cases hb
   ·cases hb
  ·cases hb
 ·cases hb

theorem I0.cut:∀ {A C:List Oper} {o:Oper},I0 (A++o::C)→I0 (A++C)∧∀ x∈A++C,∀ d,x.dst=some d→o.dst≠some d
 | [],C,o,h=>⟨h.2,fun x hx d hxd hod=>h.1 d hod x hx hxd⟩
 | y::A,C,o,h=>by
  obtain ⟨m1,m2⟩:=I0.cut h.2
  refine ⟨⟨fun d hd x hx=>h.1 d hd x (by simp at hx ⊢; rcases hx with hx|hx<;>simp [hx]),m1⟩,fun x hx d hxd hod=>?_⟩
  rcases List.mem_cons.1 hx with rfl|hx
  ·exact h.1 d hxd o (by simp) hod
  ·exact m2 x hx d hxd hod

theorem I0.sub {f:Nat→Bool}:∀ {l:List Nat},I0 (rem ops l)→I0 (rem ops (l.filter f))
 | [],h=>h
 | i::l,h=>by
  cases ho:ops[i]? with
  | none =>
   have e:rem ops (i::l)=rem ops l:=by simp [rem,ho]
   rw [e] at h
   have:=I0.sub (f:=f) h
   rw [List.filter_cons]
   split
   ·have e:rem ops (i::l.filter f)=rem ops (l.filter f):=by simp [rem,ho]
    rw [e]; exact this
   ·exact this
  | some o =>
   rw [a2a ho] at h
   rw [List.filter_cons]
   split
   ·rw [a2a ho]
    refine ⟨fun d hd x hx=>h.1 d hd x ?_,I0.sub h.2⟩
    obtain ⟨j,hj,hjx⟩:=List.mem_filterMap.1 hx
    exact List.mem_filterMap.2 ⟨j,(List.mem_filter.1 hj).1,hjx⟩
   ·exact I0.sub h.2

theorem a6B {n i:Nat} {listed:Array Bool} {f:Nat→Bool} (hs:listed.size=n) (hi:i∈idxs n listed) (hf:f i=true):∃ pre post,(idxs n listed).filter f=pre++i::post∧(∀ j∈pre,j<i) ∧
  (idxs n (listed.setIfInBounds i true)).filter f=pre++post:=by
 obtain ⟨pre,post,e,h1,h2⟩:=a3d hi
 refine ⟨pre.filter f,post.filter f,by rw [e,List.filter_append,List.filter_cons,if_pos hf],fun j hj=>h1 j (List.mem_filter.1 hj).1,?_⟩
 rw [a2g hs (B3.1 hi).1,h2,List.filter_append]

theorem b9M {n i:Nat} {listed:Array Bool} {f g:Nat→Bool} (hs:listed.size=n) (hi:i<n) (hg:∀ j,g j=(f j && !(j == i))):(idxs n (listed.setIfInBounds i true)).filter f=(idxs n listed).filter g:=by
 rw [a2g hs hi,List.filter_filter]
 exact List.filter_congr (fun j _=>(hg j).symm)

theorem a3I {n i fuel:Nat} {listed:Array Bool} (hs:listed.size=n) (hi:i∈idxs n listed) (hl:(idxs n listed).length=fuel+1):(idxs n (listed.setIfInBounds i true)).length=fuel:=by
 obtain ⟨pre,post,e,h1,h2⟩:=a3d hi
 rw [a2g hs (B3.1 hi).1,h2]
 rw [e] at hl
 simp at hl ⊢; omega

section
variable {q:a0p} {n:Nat} {s1:St}

theorem a1A.set {listed:Array Bool} (hcl:a1A ops listed) {i:Nat} {o:Oper} (ho:ops[i]?=some o) (hpre:∀ e∈o.after,Region.binds .any e=true→listed.getD e.on false=true):a1A ops (listed.setIfInBounds i true):=by
 intro k y hy hk e' he' hb'
 by_cases hki:k=i
 ·subst hki
  rw [ho] at hy; cases hy
  exact getD_set_true (hpre e' he' hb')
 ·rw [getD_set_ne true (Ne.symm hki)] at hk
  exact getD_set_true (hcl k y hy hk e' he' hb')

theorem a8s {listed:Array Bool} {i:Nat} (hi:i<listed.size):(listed.setIfInBounds i true).getD i false=true:=by simp [hi]

theorem a9m (hd:X9 ops=true) {listed:Array Bool} (hsz:listed.size=ops.size) (hne:idxs ops.size listed≠[]):Region.ready .any ops listed≠[]:=by
 have hM:=a2J hd
 intro hr
 cases hix:idxs ops.size listed with
 | nil=>exact hne hix
 | cons i l =>
  have hmem:i∈idxs ops.size listed:=by rw [hix]; simp
  obtain ⟨h1,h2⟩:=B3.1 hmem
  have ho:ops[i]?=some ops[i]:=Array.getElem?_eq_getElem h1
  have:i∈Region.ready .any ops listed:=by
   refine mem_ready.2 ⟨h2,ops[i],ho,fun e he hb=>?_⟩
   have hlt:=(hM i _ ho).1 e he hb
   cases hle:listed.getD e.on true with
   | true =>
    have:e.on<listed.size:=by omega
    simp [this] at hle ⊢; exact hle
   | false =>
    exfalso
    have hm2:e.on∈idxs ops.size listed:=B3.2 ⟨by omega,hle⟩
    have hs:=a0g ops.size listed
    rw [hix] at hs hm2
    rcases List.mem_cons.1 hm2 with e1|e1
    ·omega
    ·have:=(List.pairwise_cons.1 hs).1 _ e1; omega
  rw [hr] at this
  cases this

theorem b7K (hE:A6 E B) (hn:B.n=E.nt) (hd:X9 ops=true) {Q:Exit→Act→World→Prop} (hap:I0 ops.toList) (hA:b0k E ops q) {o2:Oper} (ho2:ops[n]?=some o2) {p:Prop} {s2:St} (hfin:b0C E ops (A3 ops.toList []) q n o2 s1=some (p,s2)) (hp:p)
  (hQ:∀ S ι a w,RS B S ι s2 a w→Q .normal a w) {i:Nat} {e:f7} {p0:List Step} {t0:Ty} {l m:List t0.den} {g:List Nat} (hx:s1.ev q.x=.at_ i p0) (he:look i s1.hp=some e) (hok:w6 e.ty e.x p0) (hg:i6 e.ty e.x p0=some ⟨.d0 true t0,l⟩)
  (happ:(s1.ev q.y).Y2 s1 t0=some (⟨t0,m⟩,g)) {v':Value} :
  ∀ (fuel:Nat) (listed:Array Bool) (S:Nat→Prop) (ι:Ix) (s s':St) (a:Act) (w:World),listed.size=ops.size→(idxs ops.size listed).length=fuel→a1A ops listed→listed.getD q.k false=true→listed.getD n true=false→uniq s.fr→F4 s (rem ops ((idxs ops.size listed).filter (fun j=>!(j == n)))) →
   X3 E ops (fun i=>(A3 ops.toList []).getD i 0) [] ((idxs ops.size listed).filter (fun j=>!(j == n))) s s'→F0 s' s1→RS B S ι s a w→a.eval (.tmp q.d)=v'→(∀ b off,Loc w.heap ι i e p0=some (b,off)→a8K B S ι s.hp g i e p0 t0 l m b off v' w) →
   wpAny E.P .any ops Q fuel listed a w:=by
 have hM:=a2J hd
 obtain ⟨T2,ad,s3,f1,f2,f3,⟨f4,f4'⟩,f5,f6,rfl⟩:=a8x hfin
 obtain ⟨hns,hkn,ok,hok1,hsp⟩:=a6t f4
 obtain ⟨oa,c,a1,a2,a3,a4,a5,a6,a7,a8⟩:=hA
 have e9:oa=ok:=by rw [a1] at hok1; cases hok1; rfl
 subst e9
 have hndst:∀ j o,j<n→j≠q.k→ops[j]?=some o→o.dst≠some q.d:=by
  intro j o hj hjk ho
  obtain ⟨o',h1,h2,_⟩:=(hsp j hj).2 hjk
  rw [ho] at h1; cases h1
  exact h2 q.d a3
 intro fuel
 induction fuel with
 | zero =>
  intro listed S ι s s' a w hsz hlen hcl hlk hln hu hcf hrun hev hrs hv hpd
  exfalso
  have hnil:idxs ops.size listed=[]:=List.length_eq_zero_iff.1 hlen
  have:n∈idxs ops.size listed:=B3.2 ⟨by omega,hln⟩
  rw [hnil] at this; cases this
 | succ fuel ih =>
  intro listed S ι s s' a w hsz hlen hcl hlk hln hu hcf hrun hev hrs hv hpd
  refine ⟨fun hr=>absurd hr (a9m hd hsz (by intro h; rw [h] at hlen; cases hlen)),fun i' hi=>?_⟩
  obtain ⟨h1,o,ho,hpre⟩:=mem_ready.1 hi
  have hin:i'<ops.size:=(Array.getElem?_eq_some_iff.1 ho).1
  have hmem:i'∈idxs ops.size listed:=B3.2 ⟨hin,h1⟩
  have hanc:∀ j,j<ops.size→((A3 ops.toList []).getD i' 0).testBit j=true→listed.getD j false=true:=a1W (M:=fun i=>(A3 ops.toList []).getD i 0) (fun i o ho=>⟨(hM i o ho).1,(hM i o ho).2.1⟩) hcl i' o ho hpre
  by_cases hin2:i'=n
  ·-- the store
   subst hin2
   rw [ho2] at ho; cases ho
   have hall:∀ j,j∈idxs ops.size listed→j=i':=by
    intro j hj
    obtain ⟨j1,j2⟩:=B3.1 hj
    by_cases e:j=i'
    ·exact e
    ·have:=hanc j j1 (hsp j (by omega)).1
     rw [O6 this] at j2; cases j2
   have hnil:(idxs ops.size listed).filter (fun j=>!(j == i'))=[]:=by
    rw [List.filter_eq_nil_iff]
    intro j hj; simp [hall j hj]
   rw [hnil] at hrun
   obtain rfl:s=s':=hrun
   have hrs1:=a4F hev hrs
   have hrs2:RS B S ι (s1.put (some q.d) .any) a w:=hrs1.forget q.d
   obtain ⟨i2,p2,e2,t2,l2,m2,g2,r,qq,bts,b1,b2,b3,b4,b5,b6,b7,b8,b9,b10,b11,b12,b13,b14,b15,b16⟩:=a8H hE f6 hp
   rw [hx] at b1
   obtain ⟨rfl,rfl⟩:i=i2∧p0=p2:=by simpa using b1
   rw [he] at b3; cases b3
   rw [hg] at b7
   simp only [Option.some.injEq,Sigma.mk.injEq,Ty.d0.injEq,true_and] at b7
   obtain ⟨b7,b7'⟩:=b7
   subst b7
   obtain rfl:l=l2:=eq_of_heq b7'
   rw [happ] at b13
   simp only [Option.some.injEq,Prod.mk.injEq,Sigma.mk.injEq,heq_eq_eq,true_and] at b13
   obtain ⟨rfl,rfl⟩:=b13
   have hadr:=hrs1.ev ad
   rw [b2] at hadr
   obtain ⟨e',b,off,c1,c2,c3,c4⟩:=hadr
   rw [he] at c1; cases c1
   have c4:a.eval ad=.pointer (some ⟨b,off,none⟩):=by simpa using c4
   have hst:=a9p hE hrs2 (g:=g) b6 b4 (e:=e) he hok hg (by
    obtain ⟨O',y1,y2,y3,y4,y5⟩:=hpd b off c3
    exact ⟨O',y1,y2,y3,y4,fun cc hc=>⟨(y5 cc hc).1,fun j ej hj hjg hlj=>(y5 cc hc).2.1 j ej hj hjg ((hev.2 j).trans hlj),(y5 cc hc).2.2⟩⟩) f2 c4 hv b8 b9
   have hlen':=a3I hsz hmem hlen
   have hnil2:idxs ops.size (listed.setIfInBounds i' true)=[]:=by
    rw [a2g hsz hin]
    rw [List.filter_eq_nil_iff]
    intro j hj; simp [hall j hj]
   have hf0:fuel=0:=by rw [hnil2] at hlen'; exact hlen'.symm
   subst hf0
   have hw:o2.wp E.P a w (wpAny E.P .any ops Q 0 (listed.setIfInBounds i' true)) Q:=by
    refine hst _ _ (fun S' ι' w' val h1 h2=>⟨?_,hQ S' ι' _ w' ?_⟩)
    ·rw [List.eq_nil_iff_forall_not_mem]
     intro j hj
     obtain ⟨j1,oj,j2,_⟩:=mem_ready.1 hj
     have:j∈idxs ops.size (listed.setIfInBounds i' true):=B3.2 ⟨(Array.getElem?_eq_some_iff.1 j2).1,j1⟩
     rw [hnil2] at this; cases this
    ·rw [← b10] at h1 h2
     exact h1.put (by rw [hn]; exact f5) h2
   unfold wpOp
   rw [ho2]
   simp only [Region.wanted,f1,if_true]
   exact .inl hw
  ·-- something quiet
   have hlt:i'<n:=by omega
   have hki:i'≠q.k:=by rintro rfl; rw [O6 hlk] at h1; cases h1
   obtain ⟨o',ho',hdd,hqq⟩:=(hsp i' hlt).2 hki
   rw [ho] at ho'; cases ho'
   have hnanc:∀ j,j∈idxs ops.size listed→¬ ((A3 ops.toList []).getD q.k 0).testBit j=true:=by
    intro j hj hb
    have hclk:∀ e∈oa.after,Region.binds .any e=true→listed.getD e.on false=true:=hcl q.k oa a1 (O6 hlk)
    have h9:=a1W (M:=fun i=>(A3 ops.toList []).getD i 0) (fun i o ho=>⟨(hM i o ho).1,(hM i o ho).2.1⟩) hcl q.k oa a1 hclk j (B3.1 hj).1 hb
    have h8:=(B3.1 hj).2
    rw [O6 h9] at h8; cases h8
   have hkinds:∀ j∈(idxs ops.size listed).filter (fun j=>!(j == n)),∀ oj,ops[j]?=some oj→quiet oj=true∨a3F ops q n j oj s1=true:=by
    intro j hj oj hoj
    obtain ⟨j1,j2⟩:=List.mem_filter.1 hj
    simp only [Bool.not_eq_true',beq_eq_false_iff_ne,ne_eq] at j2
    have jn:j<n:=by have:=(B3.1 j1).1; omega
    have jk:j≠q.k:=by rintro rfl; have:=(B3.1 j1).2; rw [O6 hlk] at this; cases this
    rcases b1i f4' jn jk hoj with h9|h9|h9
    ·exact absurd h9 (hnanc j j1)
    ·exact .inl h9
    ·exact .inr h9
   have hltn:∀ j∈(idxs ops.size listed).filter (fun j=>!(j == n)),j<n:=by
    intro j hj
    obtain ⟨j1,j2⟩:=List.mem_filter.1 hj
    simp only [Bool.not_eq_true',beq_eq_false_iff_ne,ne_eq] at j2
    have:=(B3.1 j1).1; omega
   have hsort:((idxs ops.size listed).filter (fun j=>!(j == n))).Pairwise (·<·):=(a0g ops.size listed).sublist List.filter_sublist
   have hmemf:i'∈(idxs ops.size listed).filter (fun j=>!(j == n)):=List.mem_filter.2 ⟨hmem,by simpa using hin2⟩
   have hkind:=hkinds i' hmemf o ho
   have hrun0:=hrun
   obtain ⟨pre,post,e1,hlt',e2⟩:=a6B (f:=fun j=>!(j == n)) hsz hmem (by simpa using hin2)
   rw [e1] at hcf hrun
   have er:rem ops (pre++i'::post)=rem ops pre++o::rem ops post:=by simp [rem,List.filterMap_append,ho]
   have er2:rem ops (pre++post)=rem ops pre++rem ops post:=by simp [rem,List.filterMap_append]
   have hapr:I0 (rem ops (pre++i'::post)):=by
    rw [← e1]
    refine I0.sub ?_
    have:rem ops (idxs ops.size listed)=rem ops ((List.range ops.size).filter (fun i=>!listed.getD i true)):=rfl
    rw [this]
    refine I0.sub ?_
    have h9:=a4G (ops:=ops)
    rw [W2] at h9
    rw [h9]; exact hap
   have hind:∀ j∈pre,((A3 ops.toList []).getD i' 0).testBit j=false∧∀ x,ops[j]?=some x→indep ops x o=true:=by
    intro j hj
    have hji:j∈idxs ops.size listed:=by
     have:j∈(idxs ops.size listed).filter (fun j=>!(j == n)):=by rw [e1]; simp [hj]
     exact (List.mem_filter.1 this).1
    have hnm:((A3 ops.toList []).getD i' 0).testBit j=false:=by
     cases hm:((A3 ops.toList []).getD i' 0).testBit j with
     | false=>rfl
     | true =>
      exfalso
      have hjl:=hanc j (B3.1 hji).1 hm
      have:=(B3.1 hji).2
      rw [O6 hjl] at this
      cases this
    refine ⟨hnm,fun x hx=>?_⟩
    rcases (hM i' o ho).2.2 j x (hlt' j hj) hx with hm|hm
    ·rw [hnm] at hm; cases hm
    ·exact hm
   obtain ⟨pp,sa,sb,k1,k2,k3,k4,_⟩:=a9U ho hapr hind hu (hcf.sub (fun y hy=>by rw [a1r]; exact List.mem_append_left _ hy)) hrun
   rw [er] at hapr hcf
   have hap2:=I0.cut hapr
   rcases hkind with hqt|hls
   ·obtain ⟨q1,q2,v,val,rfl,q3,q4⟩:=b9r hE hrs hqt k1 k2
    have hnext:wpAny E.P .any ops Q fuel (listed.setIfInBounds i' true) (a.put o.dst val) w:=by
     refine ih (listed.setIfInBounds i' true) S ι (s.put o.dst v) sb (a.put o.dst val) w (by simp [hsz]) (a3I hsz hmem hlen) (hcl.set ho hpre) (getD_set_true hlk) (by rw [getD_set_ne true hin2]; exact hln) (C4 hu k1) ?_ (by rw [e2]; exact k3) (k4.trans hev) (hrs.put (by rw [hn]; exact q2) q4) ?_ (fun b off hb=>by rw [G3]; exact hpd b off hb)
     ·rw [e2,er2]
      exact F4.step hu (fun y hy=>hcf y (by simp at hy ⊢; rcases hy with hy|hy<;>simp [hy])) hap2.2 k1
     ·rw [← hv]
      have hne:=hndst i' o hlt hki ho
      cases hod:o.dst with
      | none=>rfl
      | some d =>
       rw [hod] at hne
       exact a0R (fun e=>hne (by rw [e]))
    unfold wpOp
    rw [ho]
    simp only [Region.wanted,q1,if_true]
    refine .inl ?_
    unfold Oper.wp
    rw [q3]
    exact hnext
   ·-- a store that goes elsewhere
    obtain ⟨hg0,hdn,T,ad',x',j0,q0,vt,z,g1,g2,g3,g4,g5,g6⟩:=a7O hls
    rw [e1] at hsort hltn hkinds
    have hsub:List.Sublist (pre++post) (pre++i'::post):=List.Sublist.append (List.Sublist.refl _) (List.sublist_cons_self _ _)
    obtain ⟨J,f,t1,t2,t3,t4⟩:=a33 k3 (k4.trans hev) (C4 hu k1) (hsort.sublist hsub) (fun j hj=>hltn j (hsub.subset hj)) (fun j hj=>hkinds j (hsub.subset hj))
    have hpost:∀ j∈post,i'<j:=fun j hj=>(List.pairwise_cons.1 (List.pairwise_append.1 hsort).2.1).1 j hj
    obtain ⟨v0,ids,f0,hh0,z1,z2,z3,z4,z5⟩:=V2 (ops:=ops) hu k1
    obtain ⟨sa',y1,_,y2⟩:=z5 s hu ((F0.refl s).a07 _ _) z2
    rw [k1] at y1; cases y1
    have hsee:∀ y,y∈o.op.operands.toList→s1.ev y=f (f0 (s.ev y)):=by
     intro y hy
     refine b0E (z1.a5D t1) (fun m' hm=>?_)
     subst hm
     have hml:=J3 (ops:=ops) hy
     rw [← (k4.trans hev).1 m',t4 m' (fun j hj o' ho' hd'=>?_),y2.fr,if_neg (by rw [hdn]; intro h; cases h)]
     ·cases look m' s.fr<;>rfl
     ·rcases List.mem_append.1 hj with hj|hj
      ·exact (a1Q ((hind j hj).2 o' ho')).1 m' hd' hml
      ·exact g6 j (hpost j hj) (hltn j (by simp [hj])) o' ho' m' hd' hml
    have ha':s.ev ad'=.ptr j0 q0:=a0H (z1.a5D t1) ((hsee ad' (by rw [g1]; simp [Op.operands])).symm.trans g2) (.inl rfl)
    have hx':s.ev x'=.val vt z:=a0H (z1.a5D t1) ((hsee x' (by rw [g1]; simp [Op.operands])).symm.trans g3) (.inr ⟨rfl,by intro h; cases h⟩)
    obtain ⟨ι',w',r1,r2,r3⟩:=c1u hE hn hrs hg0 g1 ha' hx' k1
    have hij:i≠j0:=by
     rintro rfl
     rw [hx] at g4
     simp only [AV.g8,Nat.beq_refl] at g4
     cases g4
    have hjg:j0∉g:=fun hm=>by rw [b1F happ j0 hm] at g5; cases g5
    obtain ⟨J2,f2',u1,u2,u3,u4⟩:=a33 (ops:=ops) (q:=q) (n:=n) hrun hev hu hsort hltn hkinds
    have hes:look i s.hp=some e:=by
     rw [← u3 i (fun hm=>by
      have:=(u2 i hm).1
      rw [hx] at this
      simp only [AV.g8,Nat.beq_refl] at this
      cases this),hev.2 i]
     exact he
    obtain ⟨i2,p2,e2',t2',l2,m2,g2',r',qq,bts,b1,b2,b3,b4,b5,b6,b7,b8,b9,b10,b11,b12,b13,b14,b15,b16⟩:=a8H hE f6 hp
    rw [hx] at b1
    obtain ⟨rfl,rfl⟩:i=i2∧p0=p2:=by simpa using b1
    rw [he] at b3; cases b3
    obtain ⟨b,off,hloc⟩:=a3D (hrs.hs.ob i e hes) hrs.hs.slt b16 hok hg
    have hP:=r3 hij hjg hes hok hg (hpd b off hloc)
    have hnext:wpAny E.P .any ops Q fuel (listed.setIfInBounds i' true) (a.put o.dst undef) w':=by
     refine ih (listed.setIfInBounds i' true) S ι' sa sb (a.put o.dst undef) w' (by simp [hsz]) (a3I hsz hmem hlen) (hcl.set ho hpre) (getD_set_true hlk) (by rw [getD_set_ne true hin2]; exact hln) (C4 hu k1) ?_ (by rw [e2]; exact k3) (k4.trans hev) r2 ?_ (fun b9 off9 hb9=>?_)
     ·rw [e2,er2]
      exact F4.step hu (fun y hy=>hcf y (by simp at hy ⊢; rcases hy with hy|hy<;>simp [hy])) hap2.2 k1
     ·rw [← hv,hdn]; rfl
     ·obtain ⟨_,h9,_⟩:=id hP
      rw [h9] at hb9; cases hb9
      exact hP
    unfold wpOp
    rw [ho]
    simp only [Region.wanted,hg0,if_true]
    refine .inl ?_
    unfold Oper.wp
    rw [r1]
    exact hnext

theorem b5e (hE:A6 E B) (hn:B.n=E.nt) (hd:X9 ops=true) {Q:Exit→Act→World→Prop} (hap:I0 ops.toList) (hA:b0k E ops q) {o2:Oper} (ho2:ops[n]?=some o2) {p:Prop} {s2:St} (hfin:b0C E ops (A3 ops.toList []) q n o2 s1=some (p,s2)) (hp:p)
  (hQ:∀ S ι a w,RS B S ι s2 a w→Q .normal a w) :
  ∀ (fuel:Nat) (listed:Array Bool) (S:Nat→Prop) (ι:Ix) (s s':St) (a:Act) (w:World),listed.size=ops.size→(idxs ops.size listed).length=fuel→a1A ops listed→listed.getD q.k true=false→listed.getD n true=false→uniq s.fr→F4 s (rem ops ((idxs ops.size listed).filter (fun j=>!(j == n) && !(j == q.k)))) →
   X3 E ops (fun i=>(A3 ops.toList []).getD i 0) [] ((idxs ops.size listed).filter (fun j=>!(j == n) && !(j == q.k))) s s'→F0 s' s1→look q.d s.fr=some .any→RS B S ι s a w →
   wpAny E.P .any ops Q fuel listed a w:=by
 have hM:=a2J hd
 obtain ⟨T2,ad,s3,f1,f2,f3,⟨f4,f4'⟩,f5,f6,_⟩:=a8x hfin
 obtain ⟨hns,hkn,ok,hok1,hsp⟩:=a6t f4
 have hA':=hA
 obtain ⟨oa,c,a1,a2,a3,a4,a5,a6,a7,a8⟩:=hA
 have e9:oa=ok:=by rw [a1] at hok1; cases hok1; rfl
 subst e9
 intro fuel
 induction fuel with
 | zero =>
  intro listed S ι s s' a w hsz hlen hcl hlk hln hu hcf hrun hev hany hrs
  exfalso
  have hnil:idxs ops.size listed=[]:=List.length_eq_zero_iff.1 hlen
  have:n∈idxs ops.size listed:=B3.2 ⟨by omega,hln⟩
  rw [hnil] at this; cases this
 | succ fuel ih =>
  intro listed S ι s s' a w hsz hlen hcl hlk hln hu hcf hrun hev hany hrs
  refine ⟨fun hr=>absurd hr (a9m hd hsz (by intro h; rw [h] at hlen; cases hlen)),fun i' hi=>?_⟩
  obtain ⟨h1,o,ho,hpre⟩:=mem_ready.1 hi
  have hin:i'<ops.size:=(Array.getElem?_eq_some_iff.1 ho).1
  have hmem:i'∈idxs ops.size listed:=B3.2 ⟨hin,h1⟩
  have hanc:∀ j,j<ops.size→((A3 ops.toList []).getD i' 0).testBit j=true→listed.getD j false=true:=a1W (M:=fun i=>(A3 ops.toList []).getD i 0) (fun i o ho=>⟨(hM i o ho).1,(hM i o ho).2.1⟩) hcl i' o ho hpre
  by_cases hin2:i'=n
  ·exfalso
   subst hin2
   have:=hanc q.k (by omega) (hsp q.k hkn).1
   rw [O6 this] at hlk; cases hlk
  have hlt:i'<n:=by omega
  by_cases hki:i'=q.k
  ·-- the append
   subst hki
   rw [a1] at ho; cases ho
   have hltn:∀ j∈(idxs ops.size listed).filter (fun j=>!(j == n) && !(j == q.k)),j<n:=by
    intro j hj
    obtain ⟨j1,j2⟩:=List.mem_filter.1 hj
    simp only [Bool.and_eq_true,Bool.not_eq_true',beq_eq_false_iff_ne,ne_eq] at j2
    have:=(B3.1 j1).1; omega
   have hquiet:∀ j∈(idxs ops.size listed).filter (fun j=>!(j == n) && !(j == q.k)),∀ oj,ops[j]?=some oj→(quiet oj=true∨a3F ops q n j oj s1=true)∧oj.dst≠some q.d∧∀ d,oj.dst=some d→d∉looks ops oa:=by
    intro j hj oj hoj
    have jn:=hltn j hj
    obtain ⟨j1,j2⟩:=List.mem_filter.1 hj
    simp only [Bool.and_eq_true,Bool.not_eq_true',beq_eq_false_iff_ne,ne_eq] at j2
    have hna:¬ ((A3 ops.toList []).getD q.k 0).testBit j=true:=by
     intro g3
     have:=hanc j (by omega) g3
     have h9:=(B3.1 j1).2
     rw [O6 this] at h9; cases h9
    obtain ⟨o',g1,g2,g3⟩:=(hsp j jn).2 j2.2
    rw [hoj] at g1; cases g1
    refine ⟨?_,g2 q.d a3,?_⟩
    ·rcases b1i f4' jn j2.2 hoj with h9|h9|h9
     ·exact absurd h9 hna
     ·exact .inl h9
     ·exact .inr h9
    ·rcases g3 with g3|g3
     ·exact absurd g3 hna
     ·exact g3.2
   have hsort:((idxs ops.size listed).filter (fun j=>!(j == n) && !(j == q.k))).Pairwise (·<·):=(a0g ops.size listed).sublist List.filter_sublist
   obtain ⟨J,f,t1,t2,t3,t4⟩:=a33 (ops:=ops) (q:=q) (n:=n) hrun hev hu hsort hltn (fun j hj oj hoj=>(hquiet j hj oj hoj).1)
   obtain ⟨i,p0,e,t0,l,m,g,r,qq,bts,b1,b2,b3,b4,b5,b6,b7,b8,b9,b10,b11,b12,b13,b14,b15,b16⟩:=a8H hE f6 hp
   have hlook:∀ j,j∉J→look j s.hp=look j s1.hp:=fun j hj=>by rw [← t3 j hj]; exact hev.2 j
   have hget:∀ x,x∈oa.op.operands.toList→s1.ev x=f (s.ev x):=by
    intro x hx
    refine b0E t1 (fun t ht=>?_)
    subst ht
    rw [← hev.1 t,t4 t (fun j hj oj hoj hd'=>(hquiet j hj oj hoj).2.2 t hd' (J3 hx))]
   have hxm:q.x∈oa.op.operands.toList:=by rw [a5]; exact a0K (by rw [a7]; simp)
   have hym:q.y∈oa.op.operands.toList:=by rw [a5]; exact a0K (by rw [a7]; simp)
   have hxs:s.ev q.x=.at_ i p0:=a0H t1 ((hget _ hxm).symm.trans b1) (.inl rfl)
   have hyy:s.ev q.y=s1.ev q.y:=a0H t1 (hget _ hym).symm (b8q b13)
   have hes:look i s.hp=some e:=(hlook i (fun hm=>by
    have:=(t2 i hm).1
    rw [b1] at this
    simp only [AV.g8,Nat.beq_refl] at this
    cases this)).trans b3
   have happs:(s.ev q.y).Y2 s t0=some (⟨t0,m⟩,g):=by
    rw [hyy,a7x (s:=s1) (t:=s) (fun j hj=>hlook j (fun hm=>by rw [(t2 j hm).2] at hj; cases hj))]
    exact b13
   have hok:w6 e.ty e.x p0:=by
    obtain ⟨e2,u,y2,cs,r1,hok,_⟩:=y9 hrs hxs
    rw [hes] at r1; cases r1
    exact hok
   obtain ⟨b,off,hl⟩:=a3D (hrs.hs.ob i e hes) hrs.hs.slt b16 hok b7
   obtain ⟨v',w',c1,c2,c3,c4⟩:=a74 hE hrs a5 a6 a7 a8 b12 b11 hxs hes b16 b7 hl happs b4 b5 b14 b15
   have hl':Loc w'.heap ι i e p0=some (b,off):=by obtain ⟨_,h9,_⟩:=c4; exact h9
   have hput:RS B S ι s (a.put (some q.d) v') w':=by
    have h9:=c2.put (d:=some q.d) (by rw [hn]; exact a4) (v:=.any) (val:=v') ⟨v',rfl⟩
    refine a4F (s:=s.put (some q.d) .any) (t:=s) ⟨fun t=>?_,fun _=>rfl⟩ h9
    rw [D7]
    split
    ·rename_i e9; cases e9; exact hany.symm
    ·rfl
   have hval:(a.put (some q.d) v').eval (.tmp q.d)=v':=b1E (by rw [hrs.sz,hn]; simpa [E7,Nat.blt_eq] using a4)
   have hset:(idxs ops.size (listed.setIfInBounds q.k true)).filter (fun j=>!(j == n))=(idxs ops.size listed).filter (fun j=>!(j == n) && !(j == q.k)):=b9M hsz hin (fun j=>rfl)
   have hnext:wpAny E.P .any ops Q fuel (listed.setIfInBounds q.k true) (a.put (some q.d) v') w':=by
    refine b7K hE hn hd hap hA' ho2 hfin hp hQ (i:=i) (e:=e) (p0:=p0) (t0:=t0) (l:=l) (m:=m) (g:=g) b1 b3 hok b7 b13 (v':=v') fuel (listed.setIfInBounds q.k true) S ι s s' _ w' (by simp [hsz]) (a3I hsz hmem hlen) (hcl.set a1 hpre) (a8s (by omega)) (by rw [getD_set_ne true (by omega)]; exact hln) hu (by rw [hset]; exact hcf) (by rw [hset]; exact hrun) hev hput hval ?_
    intro b' off' hb'
    rw [hl'] at hb'; cases hb'
    exact c4
   unfold wpOp
   rw [a1]
   simp only [Region.wanted,a2,if_true]
   refine .inl ?_
   unfold Oper.wp
   rw [c1]
   show wpAny E.P .any ops Q fuel (listed.setIfInBounds q.k true) (a.put oa.dst v') w'
   rw [a3]
   exact hnext
  ·-- another one
   obtain ⟨pre,post,e1,hlt',e2⟩:=a6B (f:=fun j=>!(j == n) && !(j == q.k)) hsz hmem (by simp [hin2,hki])
   rw [e1] at hcf hrun
   have er:rem ops (pre++i'::post)=rem ops pre++o::rem ops post:=by simp [rem,List.filterMap_append,ho]
   have er2:rem ops (pre++post)=rem ops pre++rem ops post:=by simp [rem,List.filterMap_append]
   have hapr:I0 (rem ops (pre++i'::post)):=by
    rw [← e1]
    refine I0.sub ?_
    have:rem ops (idxs ops.size listed)=rem ops ((List.range ops.size).filter (fun i=>!listed.getD i true)):=rfl
    rw [this]
    refine I0.sub ?_
    have h9:=a4G (ops:=ops)
    rw [W2] at h9
    rw [h9]; exact hap
   have hind:∀ j∈pre,((A3 ops.toList []).getD i' 0).testBit j=false∧∀ x,ops[j]?=some x→indep ops x o=true:=by
    intro j hj
    have hji:j∈idxs ops.size listed:=by
     have:j∈(idxs ops.size listed).filter (fun j=>!(j == n) && !(j == q.k)):=by rw [e1]; simp [hj]
     exact (List.mem_filter.1 this).1
    have hnm:((A3 ops.toList []).getD i' 0).testBit j=false:=by
     cases hm:((A3 ops.toList []).getD i' 0).testBit j with
     | false=>rfl
     | true =>
      exfalso
      have hjl:=hanc j (B3.1 hji).1 hm
      have:=(B3.1 hji).2
      rw [O6 hjl] at this
      cases this
    refine ⟨hnm,fun x hx=>?_⟩
    rcases (hM i' o ho).2.2 j x (hlt' j hj) hx with hm|hm
    ·rw [hnm] at hm; cases hm
    ·exact hm
   obtain ⟨pp,sa,sb,k1,k2,k3,k4,_⟩:=a9U ho hapr hind hu (hcf.sub (fun y hy=>by rw [a1r]; exact List.mem_append_left _ hy)) hrun
   have hnd:o.dst≠some q.d:=by
    obtain ⟨o',g1,g2,_⟩:=(hsp i' hlt).2 hki
    rw [ho] at g1; cases g1
    exact g2 q.d a3
   have hany':look q.d sa.fr=some .any:=by
    obtain ⟨v,ids,f,hf,z1,z2,z3,z4,z5⟩:=V2 (ops:=ops) hu k1
    obtain ⟨sa',y1,_,y2⟩:=z5 s hu ((F0.refl s).a07 _ _) z2
    rw [k1] at y1; cases y1
    rw [y2.fr,if_neg hnd,hany]
    simp [z1.plain _ (rfl:AV.plain .any=true)]
   rw [er] at hapr hcf
   have hap2:=I0.cut hapr
   have hps:=a2q hE hn hrs (ops:=ops) o (k:=fun x=>Tree.cut .skip [] x) (L:=fun _ _ x=>x=sa) (Rt:=fun _=>True) (a1g.2 ⟨pp,sa,k1,k2,rfl⟩)
    (next:=wpAny E.P .any ops Q fuel (listed.setIfInBounds i' true)) (Q:=Q) (fun S' ι' x a' w' hx hxe=>by
     have hxe:x=sa:=hxe
     subst hxe
     refine ih (listed.setIfInBounds i' true) S' ι' x sb a' w' (by simp [hsz]) (a3I hsz hmem hlen) (hcl.set ho hpre) (by rw [getD_set_ne true hki]; exact hlk) (by rw [getD_set_ne true hin2]; exact hln) (C4 hu k1) ?_ (by rw [e2]; exact k3) (k4.trans hev) hany' hx
     rw [e2,er2]
     exact F4.step hu (fun y hy=>hcf y (by simp at hy ⊢; rcases hy with hy|hy<;>simp [hy])) hap2.2 k1)
   unfold wpOp
   rw [ho]
   simp only
   split
   ·rename_i hw; rw [if_pos hw] at hps; exact .inl hps
   ·rename_i hw; rw [if_neg hw] at hps; exact hps

theorem b7J (hE:A6 E B) (hn:B.n=E.nt) {id:Nat} (hd:(X9 ops && a2i ops s && E.P.follows .mixedOrders)=true) {Q:Exit→Act→World→Prop} (hA:b0k E ops q) {s':St}
  (hr:X3 E ops (fun i=>(A3 ops.toList []).getD i 0) [] ((List.range' 0 (ops.toList.length - 1)).filter (fun j=>!(j == q.k))) s s') {k:St→Tree (E.rs++C9 E.ps)} {L:Code→List Item→St→Prop} {R:DL (E.rs++C9 E.ps)→Prop}
  (hf:b4o E ops (A3 ops.toList []) q s' k L R) (hany:look q.d s.fr=some .any)
  (hQ:∀ S ι s2 a w,RS B S ι s2 a w→(k s2).holds L R→Q .normal a w) (h:RS B S ι s a w):(Code.region id ops true).wp E.P Q a w:=by
 simp only [Bool.and_eq_true,a2i,List.all_eq_true] at hd
 obtain ⟨⟨h1,⟨h2,h3⟩,h4⟩,h5⟩:=hd
 refine wp_region_any h5 ?_
 obtain ⟨o2,p,s2,g1,g2,g3,g4⟩:=hf
 obtain ⟨T2,ad,s3,f1,f2,f3,⟨f4,_⟩,f5,f6,_⟩:=a8x g2
 obtain ⟨hns,hkn,_⟩:=a6t f4
 have hlen:(idxs ops.size (Array.replicate ops.size false)).length=ops.size:=by
  rw [W2]; simp
 have hset:(idxs ops.size (Array.replicate ops.size false)).filter (fun j=>!(j == ops.size - 1) && !(j == q.k))=(List.range' 0 (ops.toList.length - 1)).filter (fun j=>!(j == q.k)):=by
  rw [W2,show List.range ops.size=List.range (ops.size - 1)++[ops.size - 1] from by rw [← List.range_succ]; congr 1; omega,List.filter_append,List.filter_cons]
  simp only [beq_self_eq_true,Bool.not_true,Bool.false_and,Bool.false_eq_true,if_false,List.filter_nil,List.append_nil,Array.length_toList]
  rw [List.range_eq_range']
  refine List.filter_congr (fun j hj=>?_)
  have:j≠ops.size - 1:=by have:=(List.mem_range'_1.1 hj).2; omega
  simp [this]
 refine b5e (n:=ops.size - 1) hE hn h1 (a2l h3) hA g1 g2 g3 (fun S ι a w hh=>hQ S ι _ a w hh g4) ops.size _ S ι s s' a w.drew (by simp) hlen ?_ ?_ ?_ (j7 h2) ?_ (by rw [hset]; exact hr) (F0.refl _) hany (h.R6 C5.nil C0.drew)
 ·intro k o hk hl
  have:k<ops.size:=(Array.getElem?_eq_some_iff.1 hk).1
  simp [this] at hl
 ·have:q.k<ops.size:=by omega
  simp [this]
 ·have:ops.size - 1<ops.size:=by omega
  simp [this]
 ·intro o ho d hd
  obtain ⟨j,hj,hjo⟩:=List.mem_filterMap.1 ho
  obtain ⟨hj1,hj2⟩:=List.mem_filter.1 hj
  have:=(B3.1 hj1).1
  simp only [Bool.and_eq_true,Bool.not_eq_true',beq_eq_false_iff_ne,ne_eq] at hj2
  refine h4 d (List.mem_filterMap.2 ⟨o,List.mem_of_getElem? (i:=j) ?_,hd⟩)
  rw [List.getElem?_dropLast,if_pos (by simp; omega)]
  simpa using hjo
end
end
end Go.Ex

namespace Go.Ex

/-! ### drawn regions in which addresses of parts stand unordered with stores of plain values -/
theorem a1v:∀ {t:Ty} {x:t.den} {p:List Step} {r:Sigma Ty.den},i6 t x p=some r→D5 t p=some r.1:=by
 intro t
 induction t with
 | pair a b iha ihb =>
  intro x p r h
  match p,h with
  | [],h=>simp only [i6,Option.some.injEq] at h; subst h; rfl
  | .j6 0::p,h=>exact iha (x:=x.1) h
  | .j6 (n+1)::p,h=>exact ihb (x:=x.2) (p:=.j6 n::p) h
  | .idx i::p,h=>simp [i6] at h
 | arr n t ih =>
  intro x p r h
  match p,h with
  | [],h=>simp only [i6,Option.some.injEq] at h; subst h; rfl
  | .j6 i::p,h=>simp [i6] at h
  | .idx i::p,h=>exact ih h
 | d0 o t ih =>
  intro x p r h
  match p,h with
  | [],h=>cases o<;>(simp only [i6,Option.some.injEq] at h; subst h; rfl)
  | .j6 i::p,h=>cases o<;>simp [i6] at h
  | .idx i::p,h =>
   cases o with
   | true=>exact ih h
   | false=>simp [i6] at h
 | _ =>
  intro x p r h
  match p,h with
  | [],h=>simp only [i6,Option.some.injEq] at h; subst h; rfl
  | .j6 i::p,h=>simp [i6] at h
  | .idx i::p,h=>simp [i6] at h

theorem a7s:∀ {t:Ty} {p:List Step} {u:Ty},D5 t p=some u→∀ x:t.den,∃ z,i6 t x p=some ⟨u,z⟩:=by
 intro t
 induction t with
 | pair a b iha ihb =>
  intro p u h x
  match p,h with
  | [],h=>simp only [D5,Option.some.injEq] at h; subst h; exact ⟨x,rfl⟩
  | .j6 0::p,h=>exact iha h x.1
  | .j6 (n+1)::p,h=>exact ihb (p:=.j6 n::p) h x.2
  | .idx i::p,h=>simp [D5] at h
 | arr n t ih =>
  intro p u h x
  match p,h with
  | [],h=>simp only [D5,Option.some.injEq] at h; subst h; exact ⟨x,rfl⟩
  | .j6 i::p,h=>simp [D5] at h
  | .idx i::p,h=>exact ih h _
 | d0 o t ih =>
  intro p u h x
  match p,h with
  | [],h=>cases o<;>(simp only [D5,Option.some.injEq] at h; subst h; exact ⟨x,rfl⟩)
  | .j6 i::p,h=>cases o<;>simp [D5] at h
  | .idx i::p,h =>
   cases o with
   | true=>exact ih h _
   | false=>simp [D5] at h
 | _ =>
  intro p u h x
  match p,h with
  | [],h=>simp only [D5,Option.some.injEq] at h; subst h; exact ⟨x,rfl⟩
  | .j6 i::p,h=>simp [D5] at h
  | .idx i::p,h=>simp [D5] at h

theorem c4A (q:List Step):kp q []=true:=by cases q with
 | nil=>rfl
 | cons s q=>cases s<;>rfl

theorem c3E:∀ {t:Ty} {p:List Step} {u:Ty},t.X8=true→D5 t p=some u→kp [] p=true:=by
 intro t
 induction t with
 | pair a b iha ihb =>
  intro p u hn h
  simp only [Ty.X8,Bool.and_eq_true] at hn
  match p,h with
  | [],_=>rfl
  | .j6 0::p,h =>
   have h:D5 a p=some u:=h
   have:=iha hn.1 h
   simpa [kp] using this
  | .j6 (n+1)::p,h =>
   have:=ihb (p:=.j6 n::p) hn.2 h
   simpa [kp] using this
  | .idx i::p,h=>simp [D5] at h
 | arr n t ih=>intro p u hn; cases hn
 | d0 o t ih=>intro p u hn; cases hn
 | _ =>
  intro p u hn h
  match p,h with
  | [],_=>rfl
  | .j6 i::p,h=>simp [D5] at h
  | .idx i::p,h=>simp [D5] at h

theorem c1c:∀ {t:Ty} {p:List Step} {u:Ty},t.X8=true→D5 t p=some u→u.X8=true:=by
 intro t
 induction t with
 | pair a b iha ihb =>
  intro p u hn h
  match p,h with
  | [],h=>simp only [D5,Option.some.injEq] at h; subst h; exact hn
  | .j6 0::p,h=>simp only [Ty.X8,Bool.and_eq_true] at hn; exact iha hn.1 h
  | .j6 (n+1)::p,h=>simp only [Ty.X8,Bool.and_eq_true] at hn; exact ihb (p:=.j6 n::p) hn.2 h
  | .idx i::p,h=>simp [D5] at h
 | arr n t ih=>intro p u hn; cases hn
 | d0 o t ih=>intro p u hn; cases hn
 | _ =>
  intro p u hn h
  match p,h with
  | [],h=>simp only [D5,Option.some.injEq] at h; subst h; exact hn
  | .j6 i::p,h=>simp [D5] at h
  | .idx i::p,h=>simp [D5] at h

theorem c3K:∀ {t:Ty} {q p:List Step} {st:Step} {uq u:Ty},D5 t q=some uq→uq.X8=true→D5 t (p++[st])=some u→kp q p=true→kp q (p++[st])=true:=by
 intro t
 induction t with
 | pair a b iha ihb =>
  intro q p st uq u hq hn hp hk
  match q,hq with
  | [],hq=>simp only [D5,Option.some.injEq] at hq; subst hq; exact c3E hn hp
  | .j6 0::q,hq =>
   match p,hp,hk with
   | [],hp,_ =>
    cases st with
    | j6 m=>cases m with
     | zero=>simp [kp]
     | succ m=>simp [kp]
    | idx i=>simp [D5] at hp
   | .j6 0::p,hp,hk =>
    simp only [kp,if_true,List.cons_append] at hk ⊢
    exact iha hq hn hp hk
   | .j6 (m+1)::p,_,_=>simp [kp]
   | .idx i::p,hp,_=>simp [D5] at hp
  | .j6 (n+1)::q,hq =>
   match p,hp,hk with
   | [],hp,_ =>
    cases st with
    | j6 m=>simp only [List.nil_append,kp]; split<;>simp
    | idx i=>simp [D5] at hp
   | .j6 0::p,_,_=>simp [kp]
   | .j6 (m+1)::p,hp,hk =>
    have:=ihb (q:=.j6 n::q) (p:=.j6 m::p) hq hn hp (by
     simp only [kp,Nat.add_right_cancel_iff] at hk ⊢; exact hk)
    simp only [List.cons_append,kp,Nat.add_right_cancel_iff] at this ⊢; exact this
   | .idx i::p,hp,_=>simp [D5] at hp
  | .idx i::q,hq=>simp [D5] at hq
 | arr n t ih =>
  intro q p st uq u hq hn hp hk
  match q,hq with
  | [],hq=>simp only [D5,Option.some.injEq] at hq; subst hq; cases hn
  | .j6 i::q,hq=>simp [D5] at hq
  | .idx i::q,hq =>
   match p,hp,hk with
   | [],hp,_ =>
    cases st with
    | j6 m=>simp [D5] at hp
    | idx k=>simp [kp]
   | .j6 m::p,hp,_=>simp [D5] at hp
   | .idx k::p,hp,hk =>
    simp only [List.cons_append,kp] at hk ⊢
    exact ih hq hn hp hk
 | d0 o t ih =>
  intro q p st uq u hq hn hp hk
  cases o with
  | false =>
   match q,hq with
   | [],hq=>simp only [D5,Option.some.injEq] at hq; subst hq; cases hn
   | .j6 i::q,hq=>simp [D5] at hq
   | .idx i::q,hq=>simp [D5] at hq
  | true =>
   match q,hq with
   | [],hq=>simp only [D5,Option.some.injEq] at hq; subst hq; cases hn
   | .j6 i::q,hq=>simp [D5] at hq
   | .idx i::q,hq =>
    match p,hp,hk with
    | [],hp,_ =>
     cases st with
     | j6 m=>simp [D5] at hp
     | idx k=>simp [kp]
    | .j6 m::p,hp,_=>simp [D5] at hp
    | .idx k::p,hp,hk =>
     simp only [List.cons_append,kp] at hk ⊢
     exact ih hq hn hp hk
 | _ =>
  intro q p st uq u hq hn hp hk
  exfalso
  cases p with
  | nil=>cases st<;>simp [D5] at hp
  | cons s p=>cases s<;>simp [D5] at hp

theorem X7:∀ {u t:Ty},u.X8=true→u.sh=t.sh→t=u:=by
 intro u
 induction u with
 | pair a b iha ihb =>
  intro t hn h
  simp only [Ty.X8,Bool.and_eq_true] at hn
  cases t<;>simp only [Ty.sh,Ty.pair.injEq,reduceCtorEq] at h
  rw [iha hn.1 h.1,ihb hn.2 h.2]
 | arr n t ih=>intro _ hn; cases hn
 | d0 o t ih=>intro _ hn; cases hn
 | fn f=>intro _ hn; cases hn
 | map o k v=>intro _ hn; cases hn
 | box o g t ih=>intro _ hn; cases hn
 | hole t ih=>intro _ hn; cases hn
 | y7 t ih=>intro _ hn; cases hn
 | int k=>intro t hn h; cases t<;>simp only [Ty.sh,reduceCtorEq] at h; exact h.symm
 | bool=>intro t hn h; cases t<;>simp only [Ty.sh,reduceCtorEq] at h; rfl
 | str=>intro t hn h; cases t<;>simp only [Ty.sh,reduceCtorEq] at h; rfl
 | unit=>intro t hn h; cases t<;>simp only [Ty.sh,reduceCtorEq] at h; rfl

theorem a18:∀ {t:Ty} {x:t.den} {q:List Step} {v:Ty} {y:v.den} {r:Sigma Ty.den},v.X8=true→l8 t x q v y=some r→r.1=t:=by
 intro t
 induction t with
 | pair a b iha ihb =>
  intro x q v y r hn h
  match q,h with
  | [],h =>
   simp only [l8] at h
   split at h
   ·rename_i hs; cases h; exact (X7 hn hs).symm
   ·cases h
  | .j6 0::q,h =>
   simp only [l8] at h
   split at h
   ·rename_i t' z hz; cases h; have:t'=a:=iha hn hz; subst this; rfl
   ·cases h
  | .j6 (n+1)::q,h =>
   simp only [l8] at h
   split at h
   ·rename_i t' z hz; cases h; have:t'=b:=ihb hn hz; subst this; rfl
   ·cases h
  | .idx i::q,h=>simp [l8] at h
 | arr n t ih =>
  intro x q v y r hn h
  match q,h with
  | [],h =>
   simp only [l8] at h
   split at h
   ·rename_i hs; cases h; exact (X7 hn hs).symm
   ·cases h
  | .j6 i::q,h=>simp [l8] at h
  | .idx i::q,h =>
   simp only [l8] at h
   split at h
   ·split at h
    ·cases h; rfl
    ·cases h
   ·cases h
 | d0 o t ih =>
  intro x q v y r hn h
  match q,h with
  | [],h =>
   have h:(if v.sh=(Ty.d0 o t).sh then some (⟨v,y⟩:Sigma Ty.den) else none)=some r:=by cases o<;>exact h
   split at h
   ·rename_i hs; cases h; exact (X7 hn hs).symm
   ·cases h
  | .j6 i::q,h=>cases o<;>simp [l8] at h
  | .idx i::q,h =>
   cases o with
   | false=>simp [l8] at h
   | true =>
    simp only [l8] at h
    split at h
    ·split at h
     ·cases h; rfl
     ·cases h
    ·cases h
 | _ =>
  intro x q v y r hn h
  match q,h with
  | [],h =>
   simp only [l8] at h
   split at h
   ·rename_i hs; cases h; exact (X7 hn hs).symm
   ·cases h
  | .j6 i::q,h=>simp [l8] at h
  | .idx i::q,h=>simp [l8] at h

theorem c1r:∀ {t:Ty} {x x':t.den} {q p:List Step} {v:Ty} {y:v.den} {u:Ty} {z z':List u.den},v.X8=true→l8 t x q v y=some ⟨t,x'⟩→i6 t x p=some ⟨.d0 true u,z⟩→i6 t x' p=some ⟨.d0 true u,z'⟩→z.length=z'.length:=by
 intro t
 induction t with
 | pair a b iha ihb =>
  intro x x' q p v y u z z' hn hs h h'
  match q,hs with
  | [],hs =>
   exfalso
   simp only [l8] at hs
   split at hs
   ·rename_i hsh; have e:=X7 hn hsh; have:=c1c hn (e▸a1v h); cases this
   ·cases hs
  | .j6 0::q,hs =>
   simp only [l8] at hs
   split at hs
   ·rename_i t' w hw
    have et:t'=a:=a18 hn hw
    subst et
    cases hs
    match p,h,h' with
    | [],h,_=>simp [i6] at h
    | .j6 0::p,h,h'=>exact iha hn hw h h'
    | .j6 (m+1)::p,h,h' =>
     have:i6 b x.2 (.j6 m::p)=some ⟨.d0 true u,z⟩:=h
     have h2:i6 b x.2 (.j6 m::p)=some ⟨.d0 true u,z'⟩:=h'
     rw [this] at h2; cases h2; rfl
    | .idx i::p,h,_=>simp [i6] at h
   ·cases hs
  | .j6 (n+1)::q,hs =>
   simp only [l8] at hs
   split at hs
   ·rename_i t' w hw
    have et:t'=b:=a18 hn hw
    subst et
    cases hs
    match p,h,h' with
    | [],h,_=>simp [i6] at h
    | .j6 0::p,h,h' =>
     have:i6 a x.1 p=some ⟨.d0 true u,z⟩:=h
     have h2:i6 a x.1 p=some ⟨.d0 true u,z'⟩:=h'
     rw [this] at h2; cases h2; rfl
    | .j6 (m+1)::p,h,h'=>exact ihb (p:=.j6 m::p) hn hw h h'
    | .idx i::p,h,_=>simp [i6] at h
   ·cases hs
  | .idx i::q,hs=>simp [l8] at hs
 | arr n t ih =>
  intro x x' q p v y u z z' hn hs h h'
  match q,hs with
  | [],hs =>
   exfalso
   simp only [l8] at hs
   split at hs
   ·rename_i hsh; have e:=X7 hn hsh; rw [← e] at hn; cases hn
   ·cases hs
  | .j6 i::q,hs=>simp [l8] at hs
  | .idx i::q,hs =>
   simp only [l8] at hs
   split at hs
   ·rename_i t' w hw
    have et:t'=t:=a18 hn hw
    subst et
    rw [dif_pos rfl] at hs
    cases hs
    match p,h,h' with
    | [],h,_=>simp [i6] at h
    | .j6 m::p,h,_=>simp [i6] at h
    | .idx k::p,h,h' =>
     have h:i6 t' (List.getD x k.toNat t'.p8) p=some ⟨.d0 true u,z⟩:=h
     have h':i6 t' (List.getD (List.set x i.toNat w) k.toNat t'.p8) p=some ⟨.d0 true u,z'⟩:=h'
     rw [List.getD_eq_getElem?_getD,List.getElem?_set] at h'
     split at h'
     ·rename_i hik
      split at h'
      ·rw [← hik] at h; exact ih hn hw h h'
      ·rename_i hlt
       rw [List.getD_eq_getElem?_getD,List.getElem?_eq_none (by omega)] at h
       rw [h] at h'; cases h'; rfl
     ·rw [← List.getD_eq_getElem?_getD] at h'
      rw [h] at h'; cases h'; rfl
   ·cases hs
 | d0 o t ih =>
  intro x x' q p v y u z z' hn hs h h'
  match q,hs with
  | [],hs =>
   exfalso
   have hs:(if v.sh=(Ty.d0 o t).sh then some (⟨v,y⟩:Sigma Ty.den) else none)=some ⟨.d0 o t,x'⟩:=by cases o<;>exact hs
   split at hs
   ·rename_i hsh; have e:=X7 hn hsh; rw [← e] at hn; cases hn
   ·cases hs
  | .j6 i::q,hs=>cases o<;>simp [l8] at hs
  | .idx i::q,hs =>
   cases o with
   | false=>simp [l8] at hs
   | true =>
    simp only [l8] at hs
    split at hs
    ·rename_i t' w hw
     have et:t'=t:=a18 hn hw
     subst et
     rw [dif_pos rfl] at hs
     cases hs
     match p,h,h' with
     | [],h,h' =>
      simp only [i6,Option.some.injEq] at h h'
      cases h
      cases h'
      rw [List.length_set]
     | .j6 m::p,h,_=>simp [i6] at h
     | .idx k::p,h,h' =>
      have h:i6 t' (List.getD x k.toNat t'.p8) p=some ⟨.d0 true u,z⟩:=h
      have h':i6 t' (List.getD (List.set x i.toNat w) k.toNat t'.p8) p=some ⟨.d0 true u,z'⟩:=h'
      rw [List.getD_eq_getElem?_getD,List.getElem?_set] at h'
      split at h'
      ·rename_i hik
       split at h'
       ·rw [← hik] at h; exact ih hn hw h h'
       ·rename_i hlt
        rw [List.getD_eq_getElem?_getD,List.getElem?_eq_none (by omega)] at h
        rw [h] at h'; cases h'; rfl
      ·rw [← List.getD_eq_getElem?_getD] at h'
       rw [h] at h'; cases h'; rfl
    ·cases hs
 | _ =>
  intro x x' q p v y u z z' hn hs h h'
  exfalso
  match p,h with
  | [],h=>simp [i6] at h
  | .j6 i::p,h=>simp [i6] at h
  | .idx i::p,h=>simp [i6] at h
section
variable {E:Env} {ops:Array Oper} {s t:St}

theorem b1b {o:Oper} (hp:R2 o s=true) {p:Prop} {s1:St} (h:u6 E ops o s=some (p,s1)) :
  ∃ (T:TypeId) (a x:Operand) (j:Nat) (q:List Step) (v:Ty) (z:v.den) (e:f7) (r:Sigma Ty.den),o.op=.store T a x∧s.ev a=.ptr j q∧s.ev x=.val v z∧v.X8=true∧look j s.hp=some e∧l8 e.ty e.x q v z=some r∧(∃ u y,i6 e.ty e.x q=some ⟨u,y⟩) ∧
   s1=((s.kill j e.kd q).s6 j (e.B0 r)).put o.dst (.raw undef) ∧
   ∀ t:St,t.ev a=s.ev a→t.ev x=s.ev x→look j t.hp=some e→u6 E ops o t=some (p,((t.kill j e.kd q).s6 j (e.B0 r)).put o.dst (.raw undef)):=by
 unfold R2 at hp
 split at hp
 ·rename_i T a x hg ho
  split at hp
  ·rename_i j q v z ha hx
   have hr:∀ t,u6 E ops o t=I9 E o t:=fun t=>by unfold u6; rw [hg]
   rw [hr] at h
   have hop:∀ t,j9 E o t=(match t.ev a with|.ptr i p=>F1 E T i p (t.ev x) t|_=>.fail "store"):=fun t=>by unfold j9; rw [ho]; rfl
   have hrun:∀ t,I9 E o t=(match E7 E.nt o.dst with|false=>none|true=>match (j9 E o t).get with|none=>none|some (p,v,s')=>some (p,s'.put o.dst v)):=fun t=>by unfold I9; rw [ho]; rfl
   rw [hrun] at h
   split at h
   ·cases h
   ·rename_i hd
    rw [hop,ha] at h
    have hst:∀ t:St,t.ev a=s.ev a→t.ev x=s.ev x→j9 E o t=F1 E T j q (.val v z) t:=fun t h1 h2=>by rw [hop,h1,h2,ha,hx]
    simp only at h
    rw [hx] at h
    cases hob:look j s.hp with
    | none =>
     have:F1 E T j q (.val v z) s=.fail "store: object":=by unfold F1 St.obj; rw [hob]
     rw [this] at h; cases h
    | some e =>
     cases hgp:i6 e.ty e.x q with
     | none =>
      have:F1 E T j q (.val v z) s=.fail "store: path":=by unfold F1 St.obj; rw [hob]; simp only [hgp]
      rw [this] at h; cases h
     | some uy =>
      obtain ⟨u,y⟩:=uy
      cases hc:G1 E T u with
      | false =>
       have:F1 E T j q (.val v z) s=.fail "store: type":=by unfold F1 St.obj; rw [hob]; simp only [hgp,hc]
       rw [this] at h; cases h
      | true =>
       have hsA:∀ t:St,look j t.hp=some e→F1 E T j q (.val v z) t=(match l8 e.ty e.x q v z with
         | some r=>.ok (.raw undef) ((t.kill j e.kd q).s6 j (e.B0 r))
         | none=>.fail "store: value"):=fun t ht=>by
        unfold F1 St.obj; rw [ht]; simp only [hgp,hc,AV.W8,AV.U5,St.t6]
        rw [b9Q hp]
        cases l8 e.ty e.x q v z with
        | none=>rfl
        | some r=>rfl
       rw [hsA s hob] at h
       cases hset:l8 e.ty e.x q v z with
       | none=>rw [hset] at h; cases h
       | some r =>
        rw [hset] at h
        simp only [OR.get,Option.some.injEq,Prod.mk.injEq] at h
        obtain ⟨rfl,rfl⟩:=h
        refine ⟨T,a,x,j,q,v,z,e,r,ho,ha,hx,hp,hob,hset,⟨u,y,hgp⟩,rfl,fun t h1 h2 h3=>?_⟩
        rw [hr,hrun,hd]
        simp only
        rw [hst t h1 h2,hsA t h3,hset]
        rfl
  ·cases hp
 ·cases hp

theorem b83 {T:List Nat} {f:AV→AV} (hf:Trim T f) {u v:AV} (h:f u=v) (hv:v.ref=true∨∃ t z,v=.val t z):u=v:=by
 cases u with
 | cons a b=>rw [hf.cons] at h; subst h; rcases hv with hv|⟨_,_,hv⟩<;>cases hv
 | H5 l=>rw [hf.H5] at h; subst h; rcases hv with hv|⟨_,_,hv⟩<;>cases hv
 | s4 g l=>rw [hf.s4] at h; subst h; rcases hv with hv|⟨_,_,hv⟩<;>cases hv
 | bx l=>rw [hf.bx] at h; subst h; rcases hv with hv|⟨_,_,hv⟩<;>cases hv
 | rc g l=>rw [hf.rc] at h; subst h; rcases hv with hv|⟨_,_,hv⟩<;>cases hv
 | ptr i p=>rcases hf.atom _ (rfl:(AV.ptr i p).ref=true) with e|e<;>rw [e] at h<;>first|exact h|(subst h; rcases hv with hv|⟨_,_,hv⟩<;>cases hv)
 | at_ i p=>rcases hf.atom _ (rfl:(AV.at_ i p).ref=true) with e|e<;>rw [e] at h<;>first|exact h|(subst h; rcases hv with hv|⟨_,_,hv⟩<;>cases hv)
 | sub i p x y=>rcases hf.atom _ (rfl:(AV.sub i p x y).ref=true) with e|e<;>rw [e] at h<;>first|exact h|(subst h; rcases hv with hv|⟨_,_,hv⟩<;>cases hv)
 | _=>rw [hf.plain _ rfl] at h; exact h
theorem c3r:∀ {t:Ty} {x:t.den} {q:List Step} {v:Ty} {y:v.den} {r:Sigma Ty.den},v.X8=true→l8 t x q v y=some r→D5 t q=some v:=by
 intro t
 induction t with
 | pair a b iha ihb =>
  intro x q v y r hn h
  match q,h with
  | [],h =>
   simp only [l8] at h
   split at h
   ·rename_i hs; rw [X7 hn hs]; simp [D5]
   ·cases h
  | .j6 0::q,h =>
   simp only [l8] at h
   split at h
   ·rename_i t' z hz; exact iha hn hz
   ·cases h
  | .j6 (n+1)::q,h =>
   simp only [l8] at h
   split at h
   ·rename_i t' z hz; exact ihb hn hz
   ·cases h
  | .idx i::q,h=>simp [l8] at h
 | arr n t ih =>
  intro x q v y r hn h
  match q,h with
  | [],h =>
   simp only [l8] at h
   split at h
   ·rename_i hs; rw [X7 hn hs]; simp [D5]
   ·cases h
  | .j6 i::q,h=>simp [l8] at h
  | .idx i::q,h =>
   simp only [l8] at h
   split at h
   ·rename_i t' z hz; exact ih hn hz
   ·cases h
 | d0 o t ih =>
  intro x q v y r hn h
  match q,h with
  | [],h =>
   have h:(if v.sh=(Ty.d0 o t).sh then some (⟨v,y⟩:Sigma Ty.den) else none)=some r:=by cases o<;>exact h
   split at h
   ·rename_i hs; rw [X7 hn hs]; simp [D5]
   ·cases h
  | .j6 i::q,h=>cases o<;>simp [l8] at h
  | .idx i::q,h =>
   cases o with
   | false=>simp [l8] at h
   | true =>
    simp only [l8] at h
    split at h
    ·rename_i t' z hz; exact ih hn hz
    ·cases h
 | _ =>
  intro x q v y r hn h
  match q,h with
  | [],h =>
   simp only [l8] at h
   split at h
   ·rename_i hs; rw [X7 hn hs]; simp [D5]
   ·cases h
  | .j6 i::q,h=>simp [l8] at h
  | .idx i::q,h=>simp [l8] at h

theorem b1G {y:Oper} {s1:St} (hy:J9 y s1=true) {q:Prop} {s2:St} (h:u6 E ops y s1=some (q,s2)) :
  ∃ (ins:List Operand) (a:Operand) (d:Nat) (pp:List Step) (st:Step) (u:Ty) (z:u.den),(∀ m,Operand.tmp m∈ins→m∈looks ops y)∧a∈ins∧(s1.ev a=.at_ d pp∨s1.ev a=.ptr d pp)∧s1.part d pp=some ⟨u,z⟩∧s2=s1.put y.dst (.ptr d (pp++[st]))∧(∃ w,D5 u [st]=some w) ∧
   (∀ t:St,(∀ i∈ins,t.ev i=s1.ev i)→(∃ z':u.den,t.part d pp=some ⟨u,z'⟩∧∀ v (l l':List v.den),(⟨u,z⟩:Sigma Ty.den)=⟨.d0 true v,l⟩→(⟨u,z'⟩:Sigma Ty.den)=⟨.d0 true v,l'⟩→l'.length=l.length)→J9 y t=true∧∃ q',u6 E ops y t=some (q',t.put y.dst (.ptr d (pp++[st])))∧(q→q')) ∧
   (∀ i∈ins,s1.ev i=s1.ev a∨∃ k n,s1.ev i=.val (.int k) n):=by
 have hr:y.guard=none→∀ t,u6 E ops y t=I9 E y t:=fun hg t=>by unfold u6; rw [hg]
 unfold J9 at hy
 split at hy
 ·rename_i T a i hg ho
  split at hy
  ·rename_i d pp k n ha hi
   rw [hr hg] at h
   have hrun:∀ t,I9 E y t=(match E7 E.nt y.dst with|false=>none|true=>match (j9 E y t).get with|none=>none|some (p,v,s')=>some (p,s'.put y.dst v)):=fun t=>by unfold I9; rw [ho]; rfl
   have hop:∀ t:St,t.ev a=.at_ d pp→t.ev i=.val (.int k) n→j9 E y t=(match t.part d pp with
     | some ⟨.d0 true u,z⟩=>(match G1 E T (.d0 true u) with
      | true=>.E0 (0≤n∧n<List.length z) (.ptr d (pp++[.idx n])) t
      | false=>.fail "indexAddr: type")
     | _=>.fail "indexAddr: type"):=fun t h1 h2=>by unfold j9; rw [ho]; simp only [h1,h2]; rfl
   rw [hrun,hop s1 ha hi] at h
   split at h
   ·cases h
   ·rename_i hd
    split at h
    ·cases h
    ·rename_i p v s' hget
     split at hget
     ·rename_i u z hpt
      split at hget
      ·rename_i hc
       simp only [OR.get,Option.some.injEq,Prod.mk.injEq] at hget h
       obtain ⟨rfl,rfl,rfl⟩:=hget
       obtain ⟨rfl,rfl⟩:=h
       refine ⟨[a,i],a,d,pp,.idx n,.d0 true u,z,?_,by simp,.inl ha,hpt,rfl,⟨u,by simp [D5]⟩,?_,?_⟩
       ·intro m hm
        refine J3 ?_
        rw [ho]; simp [Op.operands] at hm ⊢; rcases hm with hm|hm<;>simp [← hm]
       ·rintro t hin ⟨z',hz',hlen⟩
        have h1:=(hin a (by simp)).trans ha
        have h2:=(hin i (by simp)).trans hi
        have hl:=hlen u z z' rfl rfl
        refine ⟨by unfold J9; rw [hg,ho]; simp only [h1,h2],(0≤n∧n<List.length z'),?_,fun hq=>by rw [hl]; exact hq⟩
        rw [hr hg,hrun,hd,hop t h1 h2,hz']
        simp only [hc,OR.get]
       ·intro o ho'
        simp at ho'
        rcases ho' with rfl|rfl
        ·exact .inl rfl
        ·exact .inr ⟨k,n,hi⟩
      ·cases hget
     ·cases hget
  ·cases hy
 ·rename_i T a n hg ho
  split at hy
  ·rename_i d pp ha
   rw [hr hg] at h
   have hrun:∀ t,I9 E y t=(match E7 E.nt y.dst with|false=>none|true=>match (j9 E y t).get with|none=>none|some (p,v,s')=>some (p,s'.put y.dst v)):=fun t=>by unfold I9; rw [ho]; rfl
   have hop:∀ t:St,t.ev a=.ptr d pp→j9 E y t=(match t.part d pp with
     | some ⟨u,z⟩=>(match G1 E T u,i6 u z [.j6 n] with
      | true,some _=>.ok (.ptr d (pp++[.j6 n])) t
      | _,_=>.fail "fieldAddr: type")
     | none=>.fail "fieldAddr: path"):=fun t h1=>by unfold j9; rw [ho]; simp only [h1]; rfl
   rw [hrun,hop s1 ha] at h
   split at h
   ·cases h
   ·rename_i hd
    split at h
    ·cases h
    ·rename_i p v s' hget
     split at hget
     ·rename_i u z hpt
      split at hget
      ·rename_i r hc hgf
       simp only [OR.get,Option.some.injEq,Prod.mk.injEq] at hget h
       obtain ⟨rfl,rfl,rfl⟩:=hget
       obtain ⟨rfl,rfl⟩:=h
       refine ⟨[a],a,d,pp,.j6 n,u,z,?_,by simp,.inr ha,hpt,rfl,⟨_,a1v hgf⟩,?_,?_⟩
       ·intro m hm
        refine J3 ?_
        rw [ho]; simp [Op.operands] at hm ⊢; simp [← hm]
       ·rintro t hin ⟨z',hz',_⟩
        have h1:=(hin a (by simp)).trans ha
        obtain ⟨w',hw'⟩:=a7s (a1v hgf) z'
        refine ⟨by unfold J9; rw [hg,ho]; simp only [h1],True,?_,fun _=>trivial⟩
        rw [hr hg,hrun,hd,hop t h1,hz']
        simp only [hc,hw',OR.get]
       ·intro o ho'
        simp at ho'
        subst ho'
        exact .inl rfl
      ·cases hget
     ·cases hget
  ·cases hy
 ·cases hy

theorem a9c {y:Oper} (hy:a4W y=true) (s:St):i7 E y s=[]:=by
 unfold a4W at hy
 split at hy
 ·rename_i ho; unfold i7; rw [ho]
 ·rename_i ho; unfold i7; rw [ho]
 ·cases hy

theorem c0k {y:Oper} (hy:J9 y s=true):a4W y=true:=by
 unfold J9 at hy
 unfold a4W
 split at hy
 ·rename_i hg ho; simp only
 ·rename_i hg ho; simp only
 ·cases hy

theorem a6c {o:Oper} {T:TypeId} {a x:Operand} (ho:o.op=.store T a x) (v:AV):B7 o v=v:=by
 rcases a00 o with e|⟨_,x,j,hop,_⟩
 ·exact e v
 ·rw [ho] at hop; cases hop

theorem c4s {x y:Oper} (hym:y∈ops.toList) (hi:indep ops x y=true) (hu:uniq s.fr) {p q:Prop} {s1 s2:St} (h1:u6 E ops x s=some (p,s1)) (h2:u6 E ops y s1=some (q,s2)) (hx:R2 x s=true) (hy:J9 y s1=true) :
  ∃ q' s1' s2',u6 E ops y s=some (q',s1')∧(q→q')∧J9 y s=true∧u6 E ops x s1'=some (p,s2')∧uniq s1'.fr∧uniq s2'.fr∧F0 s2' s2∧i7 E y s=i7 E y s1∧i7 E x s1'=i7 E x s ∧
   (∀ m∈looks ops x,B7 x (s1'.get m)=B7 x (s.get m))∧∀ (z:Oper) m,∀ i∈i7 E x s,(B7 z (s1'.get m)).g8 i=true→(B7 z (s.get m)).g8 i=true∨m∈b0R ops:=by
 obtain ⟨ax,ay,hmod⟩:=a1Q hi
 have hdd:∀ d,x.dst=some d→y.dst=some d→False:=fun d e1 e2=>hmod (by rw [e1,e2])
 obtain ⟨T,xa,xx,j,qq,v,z,e,r,ho,hxa,hxx,hnv,hob,hset,⟨u0,y0,hgq⟩,rfl,hback⟩:=b1b hx h1
 obtain ⟨ins,a,d,pp,st,u,zz,hins,hain,hva,hpt,rfl,⟨w,hst⟩,hfwd,hkind⟩:=b1G hy h2
 -- slots in the store's state
 have hfr:∀ n,look n (((s.kill j e.kd qq).s6 j (e.B0 r)).put x.dst (.raw undef)).fr=if x.dst=some n then some (.raw undef) else (look n s.fr).map (AV.kill j e.kd qq):=fun n=>by
  rw [D7]; split
  ·rfl
  ·exact H6 n _ _
 have hget:∀ m,x.dst≠some m→(((s.kill j e.kd qq).s6 j (e.B0 r)).put x.dst (.raw undef)).get m=(s.get m).kill j e.kd qq:=fun m hm=>by
  simp only [St.get,hfr,if_neg hm]
  cases look m s.fr<;>rfl
 have hev:∀ o∈ins,(((s.kill j e.kd qq).s6 j (e.B0 r)).put x.dst (.raw undef)).ev o=(s.ev o).kill j e.kd qq:=by
  intro o hoi
  cases o with
  | tmp m =>
   have hg:=hget m (fun e=>ax m e (hins m hoi))
   rw [a2I,a2I,hg]
   unfold gq
   cases Nat.beq m F8<;>rfl
  | const c =>
   show ofConst c=(ofConst c).kill j e.kd qq
   exact (a7P (a0w c j)).symm
  | global g=>rfl
  | func f=>rfl
 have hback2:∀ o∈ins,s.ev o=(((s.kill j e.kd qq).s6 j (e.B0 r)).put x.dst (.raw undef)).ev o:=by
  intro o hoi
  refine b83 (Trim.kill j e.kd qq) (hev o hoi).symm ?_
  rcases hkind o hoi with h9|⟨k,n,h9⟩
  ·rw [h9]
   rcases hva with h9|h9<;>rw [h9]<;>exact .inl rfl
  ·rw [h9]; exact .inr ⟨_,_,rfl⟩
 -- the part in the store's state
 have hpart:∃ z':u.den,s.part d pp=some ⟨u,z'⟩∧∀ v (l l':List v.den),(⟨u,zz⟩:Sigma Ty.den)=⟨.d0 true v,l⟩→(⟨u,z'⟩:Sigma Ty.den)=⟨.d0 true v,l'⟩→l'.length=l.length:=by
  by_cases hdj:d=j
  ·subst hdj
   have hobj:look d (((s.kill d e.kd qq).s6 d (e.B0 r)).put x.dst (.raw undef)).hp=some (e.B0 r):=by rw [G3]; simp [St.s6,p7]
   unfold St.part St.obj at hpt ⊢
   rw [hobj] at hpt
   rw [hob]
   simp only at hpt ⊢
   obtain ⟨r1,r2⟩:=r
   have hr1:r1=e.ty:=a18 hnv hset
   have key:∀ (t:Ty) (x0 x1:t.den),l8 t x0 qq v z=some ⟨t,x1⟩→i6 t x1 pp=some ⟨u,zz⟩→∃ z':u.den,i6 t x0 pp=some ⟨u,z'⟩∧∀ v (l l':List v.den),(⟨u,zz⟩:Sigma Ty.den)=⟨.d0 true v,l⟩→(⟨u,z'⟩:Sigma Ty.den)=⟨.d0 true v,l'⟩→l'.length=l.length:=by
    intro t x0 x1 hs hg
    obtain ⟨z',hz'⟩:=a7s (a1v hg) x0
    refine ⟨z',hz',fun v l l' e1 e2=>?_⟩
    cases e1; cases e2
    exact c1r hnv hs hz' hg
   cases e with
   | var t0 x0=>cases hr1; exact key _ x0 r2 hset hpt
   | own t0 x0=>cases hr1; exact key _ x0 r2 hset hpt
   | J0=>exact ⟨zz,hpt,fun v l l' e1 e2=>by rw [e1] at e2; cases e2; rfl⟩
  ·refine ⟨zz,?_,fun v l l' e1 e2=>by rw [e1] at e2; cases e2; rfl⟩
   rw [← hpt]
   unfold St.part St.obj
   rw [G3]
   simp only [St.s6,p7,if_neg hdj]
   rfl
 obtain ⟨hadr,q',hrun,hqq⟩:=hfwd s hback2 hpart
 have hu1:=C4 hu hrun
 have hadO:=c0k hy
 -- the new address stays behind the store
 have hkp:AV.kill j e.kd qq (.ptr d (pp++[st]))=.ptr d (pp++[st]):=by
  by_cases hdj:d=j
  ·subst hdj
   have hsurv:kp qq pp=true:=by
    have h9:=hev a hain
    rw [hback2 a hain] at h9
    rcases hva with hv|hv
    ·rw [hv] at h9
     cases pp with
     | nil=>exact c4A qq
     | cons s0 pp =>
      simp only [AV.kill,AV.map,AV.a0O,AV.g8,Nat.beq_refl] at h9
      split at h9
      ·rename_i hk; rw [Bool.and_eq_true] at hk; exact hk.2
      ·cases h9
    ·rw [hv] at h9
     simp only [AV.kill,AV.map,AV.a0O,AV.g8,Nat.beq_refl] at h9
     split at h9
     ·assumption
     ·cases h9
   obtain ⟨z',hz',_⟩:=hpart
   have hpt2:i6 e.ty e.x pp=some ⟨u,z'⟩:=by
    unfold St.part St.obj at hz'; rw [hob] at hz'; exact hz'
   have htp:D5 e.ty (pp++[st])=some w:=by
    have:∀ {t:Ty} {p:List Step} {u:Ty},D5 t p=some u→D5 t (p++[st])=D5 u [st]:=by
     intro t
     induction t with
     | pair a b iha ihb =>
      intro p u h
      match p,h with
      | [],h=>simp only [D5,Option.some.injEq] at h; subst h; rfl
      | .j6 0::p,h=>exact iha h
      | .j6 (n+1)::p,h=>exact ihb (p:=.j6 n::p) h
      | .idx i::p,h=>simp [D5] at h
     | arr n t ih =>
      intro p u h
      match p,h with
      | [],h=>simp only [D5,Option.some.injEq] at h; subst h; rfl
      | .j6 i::p,h=>simp [D5] at h
      | .idx i::p,h=>exact ih h
     | d0 o t ih =>
      intro p u h
      match p,h with
      | [],h=>cases o<;>(simp only [D5,Option.some.injEq] at h; subst h; rfl)
      | .j6 i::p,h=>cases o<;>simp [D5] at h
      | .idx i::p,h =>
       cases o with
       | true=>exact ih h
       | false=>simp [D5] at h
     | _ =>
      intro p u h
      match p,h with
      | [],h=>simp only [D5,Option.some.injEq] at h; subst h; rfl
      | .j6 i::p,h=>simp [D5] at h
      | .idx i::p,h=>simp [D5] at h
    rw [this (a1v hpt2)]; exact hst
   have:=c3K (c3r hnv hset) hnv htp hsurv
   simp only [AV.kill,AV.map,AV.a0O,AV.g8,Nat.beq_refl,this]
  ·exact a7P (by
    simp only [AV.g8]
    cases hb9:Nat.beq j d with
    | false=>rfl
    | true=>exact absurd (Nat.eq_of_beq_eq_true hb9).symm hdj)
 have hevx:∀ o,(∀ m,o=.tmp m→m∈looks ops x)→(s.put y.dst (.ptr d (pp++[st]))).ev o=s.ev o:=by
  intro o hm
  cases o with
  | tmp m =>
   refine M8 (t:=s.put y.dst _) ?_
   simp only [St.get,D7]
   rw [if_neg (fun e=>ay m e (hm m rfl))]
  | _=>rfl
 have hlx:∀ o,o=xa∨o=xx→∀ m,o=.tmp m→m∈looks ops x:=by
  intro o hoo m hm
  refine J3 ?_
  rw [ho]; simp [Op.operands]
  rcases hoo with rfl|rfl<;>simp [hm]
 have hb:=hback (s.put y.dst (.ptr d (pp++[st]))) (hevx xa (hlx xa (.inl rfl))) (hevx xx (hlx xx (.inr rfl))) (by rw [G3]; exact hob)
 have hgx:∀ m∈looks ops x,(s.put y.dst (.ptr d (pp++[st]))).get m=s.get m:=fun m hm=>by
  simp only [St.get,D7]
  rw [if_neg (fun e=>ay m e hm)]
 refine ⟨q',_,_,hrun,hqq,hadr,hb,hu1,C4 hu1 hb,⟨fun n=>?_,fun i=>?_⟩,?_,?_,fun m hm=>by rw [hgx m hm],?_⟩
 ·rw [D7,D7,hfr]
  have e2:look n ((((s.put y.dst (.ptr d (pp++[st]))).kill j e.kd qq).s6 j (e.B0 r))).fr=(look n (s.put y.dst (.ptr d (pp++[st]))).fr).map (AV.kill j e.kd qq):=H6 n _ _
  rw [e2,D7]
  by_cases c1:x.dst=some n
  ·rw [if_pos c1,if_neg (fun c2=>hdd n c1 c2),if_pos c1]
  ·rw [if_neg c1,if_neg c1]
   by_cases c2:y.dst=some n
   ·rw [if_pos c2,if_pos c2,Option.map_some,hkp]
   ·rw [if_neg c2,if_neg c2]
 ·rw [G3,G3,G3]
  simp only [St.s6,p7,St.kill,G3]
 ·rw [a9c hadO,a9c hadO]
 ·exact a23 (fun m hm=>by rw [hgx m hm])
 ·intro zo m i hi hm
  by_cases c2:y.dst=some m
  ·refine .inr (List.mem_filterMap.2 ⟨y,hym,?_⟩)
   rw [hadO]; exact c2
  ·have:(s.put y.dst (.ptr d (pp++[st]))).get m=s.get m:=by
    simp only [St.get,D7]; rw [if_neg c2]
   rw [this] at hm
   exact .inl hm
end

section
variable {E:Env} {ops:Array Oper} {s t:St}
theorem a6i {y:Oper} {j:Nat} {kd:Bool×Ty} {q:List Step} (h:a0Y y s=some (j,kd,q)):R2 y s=true∧∃ T a x e,y.op=.store T a x∧s.ev a=.ptr j q∧look j s.hp=some e∧e.kd=kd:=by
 unfold a0Y at h
 split at h
 ·rename_i T a x hp ho
  split at h
  ·rename_i j' q' ha
   cases hl:look j' s.hp with
   | none=>rw [hl] at h; cases h
   | some e =>
    rw [hl] at h
    simp only [Option.map_some,Option.some.injEq,Prod.mk.injEq] at h
    obtain ⟨rfl,rfl,rfl⟩:=h
    exact ⟨hp,T,a,x,e,ho,ha,hl,rfl⟩
  ·cases h
 ·cases h

theorem b5U {y:Oper} (hp:R2 y s=true) {T a x} (ho:y.op=.store T a x) {j:Nat} {q:List Step} (ha:s.ev a=.ptr j q) {e:f7} (he:look j s.hp=some e):a0Y y s=some (j,e.kd,q):=by
 unfold a0Y
 rw [hp,ho]
 simp only [ha,he,Option.map_some]

theorem b9J {j:Nat} {kd:Bool×Ty} {q:List Step} {s:St} {m:Nat} (h:a35 j kd q (s.ev (.tmp m))=true):s.get m=s.ev (.tmp m) :=
 V4 rfl (fun e=>by rw [e] at h; cases h)

theorem a1P {j:Nat} {kd:Bool×Ty} {q:List Step} {v:AV} (h:a35 j kd q v=true):v.kill j kd q=v:=by
 cases v<;>simp only [a35] at h<;>try (cases h; done)
 ·rename_i t x; rfl
 ·rename_i i p
  simp only [AV.kill,AV.map,AV.a0O,AV.g8]
  cases hb:Nat.beq j i with
  | false=>rfl
  | true=>rw [hb] at h; simp only [Bool.not_true,Bool.false_or] at h; simp only [h]
 ·rename_i i p
  rcases (Trim.kill j kd q).atom (.at_ i p) rfl with e|e
  ·exact e
  ·have e9:AV.a0O j kd q (.at_ i p)=.any:=e
   rw [e9] at h
   show AV.a0O j kd q (.at_ i p)=.at_ i p
   cases hb:Nat.beq j i with
   | false=>simp only [AV.a0O,AV.g8,hb]
   | true=>rw [hb] at h; cases h

theorem a8r {o:Oper} (hg:o.guard=none) {m:Nat} (h:m∈looks ops o):Operand.tmp m∈o.op.operands.toList:=by
 unfold looks at h
 rw [hg] at h
 simp only [List.append_nil] at h
 obtain ⟨x,hx,hm⟩:=List.mem_filterMap.1 h
 cases x<;>simp at hm
 rw [← hm]; exact hx

theorem b54 {i:Nat} {pp:List Step} {u:Ty} {z:u.den} (hh:Q8 t i=Q8 s i) (h:s.part i pp=some ⟨u,z⟩):∃ z':u.den,t.part i pp=some ⟨u,z'⟩:=by
 unfold St.part St.obj at h ⊢
 unfold Q8 at hh
 cases hl:look i s.hp with
 | none=>rw [hl] at h; cases h
 | some e =>
  rw [hl] at h hh
  cases hl2:look i t.hp with
  | none=>rw [hl2] at hh; cases hh
  | some e' =>
   rw [hl2] at hh
   simp only [Option.map_some,Option.some.injEq,f7.kd,Prod.mk.injEq] at hh
   have h9:=a1v h
   rw [← hh.2] at h9
   exact a7s h9 e'.x

theorem c1w {o:Oper} {j:Nat} {kd:Bool×Ty} {q:List Step} (hk:a3c o s j kd q=true) {p:Prop} {s1:St} (h:u6 E ops o s=some (p,s1)) :
  ∃ v:AV,s1=s.put o.dst v∧v.kill j kd q=v∧(∀ m∈looks ops o,(s.get m).kill j kd q=s.get m)∧(∀ z,B7 o z=z)∧(∀ t,i7 E o t=[]) ∧
   ∀ t:St,(∀ m∈looks ops o,t.get m=s.get m)→(∀ i,Q8 t i=Q8 s i)→u6 E ops o t=some (p,t.put o.dst v):=by
 have hvw:∀ z,(∀ T a x,o.op≠.store T a x)→(∀ x j,o.op≠.extract x j)→B7 o z=z:=by
  intro z _ he
  rcases a00 o with e|⟨_,x,j,hop,_⟩
  ·exact e z
  ·exact absurd hop (he x j)
 unfold a3c at hk
 split at hk
 ·rename_i a hg ho
  have hr:∀ t,u6 E ops o t=(match E7 E.nt o.dst with|false=>none|true=>some (True,t.put o.dst (t.ev a))):=fun t=>by unfold u6 I9 j9; rw [hg,ho]; rfl
  have hkv:=a1P hk
  have hin:∀ m∈looks ops o,a=.tmp m:=fun m hm=>by
   have:=a8r hg hm
   rw [ho] at this
   simpa [Op.operands,eq_comm] using this
  rw [hr] at h
  split at h
  ·cases h
  ·rename_i hd
   simp only [Option.some.injEq,Prod.mk.injEq] at h
   obtain ⟨rfl,rfl⟩:=h
   refine ⟨s.ev a,rfl,hkv,fun m hm=>?_,fun z=>hvw z (by rw [ho]; intros; nofun) (by rw [ho]; intros; nofun),fun t=>by unfold i7; rw [ho],fun t ht _=>?_⟩
   ·have:=hin m hm; subst this; rw [b9J hk]; exact hkv
   ·rw [hr,hd]
    have:t.ev a=s.ev a:=by
     cases a with
     | tmp m=>exact M8 (ht m (J3 (by rw [ho]; simp [Op.operands])))
     | _=>rfl
    rw [this]
 ·rename_i T a n hg ho
  split at hk
  ·rename_i i pp ha
   rw [Bool.and_eq_true] at hk
   have hr:∀ t,u6 E ops o t=I9 E o t:=fun t=>by unfold u6; rw [hg]
   have hrun:∀ t,I9 E o t=(match E7 E.nt o.dst with|false=>none|true=>match (j9 E o t).get with|none=>none|some (p,v,s')=>some (p,s'.put o.dst v)):=fun t=>by unfold I9; rw [ho]; rfl
   have hop:∀ t:St,t.ev a=.ptr i pp→j9 E o t=(match t.part i pp with
     | some ⟨u,z⟩=>(match G1 E T u,i6 u z [.j6 n] with
      | true,some _=>.ok (.ptr i (pp++[.j6 n])) t
      | _,_=>.fail "fieldAddr: type")
     | none=>.fail "fieldAddr: path"):=fun t h1=>by unfold j9; rw [ho]; simp only [h1]; rfl
   have hin:∀ m∈looks ops o,a=.tmp m:=fun m hm=>by
    have:=a8r hg hm
    rw [ho] at this
    simpa [Op.operands,eq_comm] using this
   rw [hr,hrun,hop s ha] at h
   split at h
   ·cases h
   ·rename_i hd
    split at h
    ·cases h
    ·rename_i p v s' hget
     split at hget
     ·rename_i u z hpt
      split at hget
      ·rename_i r hc hgf
       simp only [OR.get,Option.some.injEq,Prod.mk.injEq] at hget h
       obtain ⟨rfl,rfl,rfl⟩:=hget
       obtain ⟨rfl,rfl⟩:=h
       refine ⟨_,rfl,a1P hk.2,fun m hm=>?_,fun z=>hvw z (by rw [ho]; intros; nofun) (by rw [ho]; intros; nofun),fun t=>by unfold i7; rw [ho],fun t ht hh=>?_⟩
       ·have:=hin m hm; subst this; rw [V4 ha nofun]; exact a1P hk.1
       ·have h1:t.ev a=.ptr i pp:=by
         rw [← ha]
         cases a with
         | tmp m=>exact M8 (ht m (J3 (by rw [ho]; simp [Op.operands])))
         | _=>rfl
        obtain ⟨z',hz'⟩:=b54 (hh i) hpt
        obtain ⟨w',hw'⟩:=a7s (a1v hgf) z'
        rw [hr,hrun,hd,hop t h1,hz']
        simp only [hc,hw',OR.get]
      ·cases hget
     ·cases hget
  ·cases hk
 ·rename_i T a hg ho
  split at hk
  ·rename_i i pp ha
   simp only [Bool.and_eq_true] at hk
   obtain ⟨⟨k1,k2⟩,k3⟩:=hk
   have hr:∀ t,u6 E ops o t=I9 E o t:=fun t=>by unfold u6; rw [hg]
   have hrun:∀ t,I9 E o t=(match E7 E.nt o.dst with|false=>none|true=>match (j9 E o t).get with|none=>none|some (p,v,s')=>some (p,s'.put o.dst v)):=fun t=>by unfold I9; rw [ho]; rfl
   have hop:∀ t:St,t.ev a=.ptr i pp→j9 E o t=(match t.part i pp with
     | some ⟨u,y⟩=>(match G1 E T u with
      | true=>(match u.shared with|true=>.ok (.val u y) t|false=>.ok (.at_ i pp) t)
      | false=>.fail "load: type")
     | none=>.fail "load: path"):=fun t h1=>by unfold j9; rw [ho]; simp only [h1]; rfl
   have hin:∀ m∈looks ops o,a=.tmp m:=fun m hm=>by
    have:=a8r hg hm
    rw [ho] at this
    simpa [Op.operands,eq_comm] using this
   rw [hr,hrun,hop s ha] at h
   split at h
   ·cases h
   ·rename_i hd
    split at h
    ·cases h
    ·rename_i p v s' hget
     split at hget
     ·rename_i u z hpt
      have hus:u.shared=false:=by
       split at k3
       ·rename_i k hk9
        split at k3
        ·rename_i u' hu'
         have:u'=u:=by
          unfold St.part St.obj at hpt
          unfold Q8 at hk9
          cases hl:look i s.hp with
          | none=>rw [hl] at hpt; cases hpt
          | some e =>
           rw [hl] at hpt hk9
           simp only [Option.map_some,Option.some.injEq] at hk9
           subst hk9
           have h9:=a1v hpt
           have h8:D5 e.ty pp=some u':=hu'
           rw [h9] at h8; cases h8; rfl
         subst this
         simpa using k3
        ·cases k3
       ·cases k3
      split at hget
      ·rename_i hc
       rw [hus] at hget
       simp only [OR.get,Option.some.injEq,Prod.mk.injEq] at hget h
       obtain ⟨rfl,rfl,rfl⟩:=hget
       obtain ⟨rfl,rfl⟩:=h
       refine ⟨_,rfl,a1P k2,fun m hm=>?_,fun z=>hvw z (by rw [ho]; intros; nofun) (by rw [ho]; intros; nofun),fun t=>by unfold i7; rw [ho],fun t ht hh=>?_⟩
       ·have:=hin m hm; subst this; rw [V4 ha nofun]; exact a1P k1
       ·have h1:t.ev a=.ptr i pp:=by
         rw [← ha]
         cases a with
         | tmp m=>exact M8 (ht m (J3 (by rw [ho]; simp [Op.operands])))
         | _=>rfl
        obtain ⟨z',hz'⟩:=b54 (hh i) hpt
        rw [hr,hrun,hd,hop t h1,hz']
        simp only [hc,hus,OR.get]
      ·cases hget
     ·cases hget
  ·cases hk
 ·cases hk

theorem c4t {x y:Oper} (hi:indep ops x y=true) (hu:uniq s.fr) {p q:Prop} {s1 s2:St} (h1:u6 E ops x s=some (p,s1)) (h2:u6 E ops y s1=some (q,s2)) {j:Nat} {kd:Bool×Ty} {qq:List Step} (hs:a0Y y s1=some (j,kd,qq)) (hk:a3c x s j kd qq=true) :
  ∃ s1' s2',u6 E ops y s=some (q,s1')∧u6 E ops x s1'=some (p,s2')∧uniq s1'.fr∧uniq s2'.fr∧F0 s2' s2∧i7 E y s=i7 E y s1∧i7 E x s1'=i7 E x s ∧
   (∀ m∈looks ops x,B7 x (s1'.get m)=B7 x (s.get m))∧i7 E x s=[]∧(∀ i,Q8 s1' i=Q8 s i)∧a0Y y s=some (j,kd,qq)∧J9 y s1=false:=by
 obtain ⟨ax,ay,hmod⟩:=a1Q hi
 have hdd:∀ d,x.dst=some d→y.dst=some d→False:=fun d e1 e2=>hmod (by rw [e1,e2])
 obtain ⟨v,rfl,hvk,hlk,hvw,htk,hagain⟩:=c1w hk h1
 obtain ⟨hps,T0,a0,x0,e0,ho0,ha0,he0,hkd0⟩:=a6i hs
 obtain ⟨T,xa,xx,j',qq',v9,z,e,r,ho,hxa,hxx,hnv,hob,hset,⟨u0,y0,hgq⟩,rfl,hback⟩:=b1b hps h2
 rw [ho0] at ho; cases ho
 rw [ha0] at hxa; cases hxa
 rw [he0] at hob; cases hob
 have hgy:∀ m∈looks ops y,(s.put x.dst v).get m=s.get m:=fun m hm=>by
  simp only [St.get,D7]
  rw [if_neg (fun e=>ax m e hm)]
 have hevy:∀ o,o∈y.op.operands.toList→s.ev o=(s.put x.dst v).ev o:=by
  intro o hm
  cases o with
  | tmp m=>exact (M8 (hgy m (J3 hm))).symm
  | _=>rfl
 have heva:=hevy a0 (by rw [ho0]; simp [Op.operands])
 have hevx:=hevy x0 (by rw [ho0]; simp [Op.operands])
 have hob2:look j s.hp=some e0:=by rw [← he0,G3]
 have hb:=hback s heva hevx hob2
 subst hkd0
 have hkk:∀ i,Q8 (((s.kill j e0.kd qq).s6 j (e0.B0 r)).put y.dst (.raw undef)) i=Q8 s i:=by
  intro i
  unfold Q8
  rw [G3]
  simp only [St.s6,p7]
  split
  ·rename_i hij
   subst hij
   rw [hob2]
   have hr1:r.1=e0.ty:=a18 hnv hset
   cases e0 with
   | var t1 x1=>exact congrArg (fun t=>some (false,t)) hr1
   | own t1 x1=>exact congrArg (fun t=>some (true,t)) hr1
   | J0=>rfl
  ·rfl
 have hgx:∀ m∈looks ops x,(((s.kill j e0.kd qq).s6 j (e0.B0 r)).put y.dst (.raw undef)).get m=s.get m:=by
  intro m hm
  have:(((s.kill j e0.kd qq).s6 j (e0.B0 r)).put y.dst (.raw undef)).get m=(s.get m).kill j e0.kd qq:=by
   simp only [St.get,D7]
   rw [if_neg (fun e=>ay m e hm)]
   have e2:look m ((s.kill j e0.kd qq).s6 j (e0.B0 r)).fr=(look m s.fr).map (AV.kill j e0.kd qq):=H6 m _ _
   rw [e2]
   cases look m s.fr<;>rfl
  rw [this]; exact hlk m hm
 have hx2:=hagain _ hgx hkk
 refine ⟨_,_,hb,hx2,C4 hu hb,C4 (C4 hu hb) hx2,⟨fun n=>?_,fun i=>?_⟩,a23 (fun m hm=>by rw [hgy m hm]),by rw [htk,htk],fun m hm=>by rw [hgx m hm],htk s,hkk,?_,?_⟩
 ·rw [D7,D7,D7]
  have e1:look n ((s.kill j e0.kd qq).s6 j (e0.B0 r)).fr=(look n s.fr).map (AV.kill j e0.kd qq):=H6 n _ _
  have e2:look n (((s.put x.dst v).kill j e0.kd qq).s6 j (e0.B0 r)).fr=(look n (s.put x.dst v).fr).map (AV.kill j e0.kd qq):=H6 n _ _
  rw [e1,e2,D7]
  by_cases c1:x.dst=some n
  ·rw [if_pos c1,if_neg (fun c2=>hdd n c1 c2),if_pos c1,Option.map_some,hvk]
  ·rw [if_neg c1,if_neg c1]
 ·rw [G3,G3,G3]
  simp only [St.s6,p7,St.kill,G3]
 ·have hps2:R2 y s=true:=by
   have h0:=hps
   unfold R2 at h0 ⊢
   split at h0
   ·rename_i T' a' x' hg' ho'
    rw [ho0] at ho'; cases ho'
    simp only [heva,hevx]
    exact h0
   ·cases h0
  exact b5U hps2 ho0 (heva.trans ha0) hob2
 ·unfold J9
  rw [ho0]
  split<;>first|rfl|(rename_i e9; cases e9)

end

section
variable {E:Env} {ops:Array Oper} {M:Nat→Nat} {s t:St}

def c4R (ops:Array Oper) (x:Oper) (sx:St) (Tx:List Nat) (y:Oper) (Ty:List Nat):Prop:=a2y ops x sx Tx y Ty∧(Tx≠[]→∀ m∈looks ops y,m∉b0R ops)

def a4g (E:Env) (ops:Array Oper) (x:Oper) (sx:St) (y:Oper) (sy:St):Prop:=c4R ops x sx (i7 E x sx) y (i7 E y sy)∨(R2 x sx=true∧J9 y sy=true)∨∃ j kd q,a0Y y sy=some (j,kd,q)∧a3c x sx j kd q=true

def a4f (E:Env) (ops:Array Oper) (M:Nat→Nat):List (Nat×St)→List Nat→St→St→Prop
 | _,[],s,s'=>s=s'
 | acc,i::l,s,s'=>∃ o,ops[i]?=some o∧(∀ e∈acc,(M i).testBit e.1=true∨∃ x,ops[e.1]?=some x∧a4g E ops x e.2 o s) ∧
   ∃ p s1,u6 E ops o s=some (p,s1)∧p∧a4f E ops M ((i,s)::acc) l s1 s'

theorem b09 {M:List Nat} {k:St→Tree (E.rs++C9 E.ps)} {L:Code→List Item→St→Prop} {R:DL (E.rs++C9 E.ps)→Prop}:∀ {l:List Oper} {n:Nat} {s:St} {acc:List Met} {acc':List (Nat×St)},ops.toList.drop n=l →
  (∀ e∈acc',∃ m∈acc,m.i=e.1∧ops[e.1]?=some m.o∧m.s=e.2∧m.T=i7 E m.o e.2)→(b7b E ops M n l s acc k).holds L R →
  ∃ s',a4f E ops (fun i=>M.getD i 0) acc' (List.range' n l.length) s s'∧(k s').holds L R
 | [],n,s,acc,acc',_,_,h=>⟨s,rfl,h⟩
 | o::l,n,s,acc,acc',hl,ha,h=>by
  obtain ⟨ho,hl',_⟩:=a1w hl
  simp only [b7b] at h
  split at h
  ·exact h.elim
  ·rename_i hall
   obtain ⟨p,s1,h1,h2,h3⟩:=a1g.1 h
   have hacc:∀ e∈acc',(M.getD n 0).testBit e.1=true∨∃ x,ops[e.1]?=some x∧a4g E ops x e.2 o s:=by
    intro e he
    obtain ⟨m,hm,m1,m2,m3,m4⟩:=ha e he
    have:=(List.all_eq_true.1 hall) m hm
    simp only [Bool.or_eq_true] at this
    rcases this with this|this
    ·exact .inl (by rw [← m1]; exact this)
    ·simp only [c2S,Bool.or_eq_true,Bool.and_eq_true] at this
     rcases this with (⟨h9,h8⟩|⟨h9,h8⟩)|h9
     ·have hp:=a7l h9
      rw [m3,m4] at hp
      refine .inr ⟨m.o,m2,.inl ⟨hp,fun hne x hx hxa=>?_⟩⟩
      rw [m4] at h8
      split at h8
      ·rename_i hnil; exact hne hnil
      ·have:=(List.all_eq_true.1 h8) x hx
       simp at this
       exact this hxa
     ·rw [m3] at h9
      exact .inr ⟨m.o,m2,.inr (.inl ⟨h9,h8⟩)⟩
     ·unfold c2X at h9
      split at h9
      ·rename_i j kd q hst
       rw [m3] at h9
       exact .inr ⟨m.o,m2,.inr (.inr ⟨j,kd,q,hst,h9⟩)⟩
      ·cases h9
   obtain ⟨s',k1,k2⟩:=b09 (acc':=(n,s)::acc') hl' (fun e he=>by
    rcases List.mem_cons.1 he with rfl|he
    ·exact ⟨_,List.mem_cons_self ..,rfl,ho,rfl,rfl⟩
    ·obtain ⟨m,hm,r⟩:=ha e he; exact ⟨m,List.mem_cons_of_mem _ hm,r⟩) h3
   exact ⟨s',⟨o,ho,hacc,p,s1,h1,h2,k1⟩,k2⟩

def c4n (E:Env) (ops:Array Oper) (acc acc':List (Nat×St)):Prop :=
 ∀ e'∈acc',∃ e∈acc,e.1=e'.1∧∀ x,ops[e.1]?=some x→(∀ m∈looks ops x,B7 x (e'.2.get m)=B7 x (e.2.get m))∧i7 E x e'.2=i7 E x e.2∧(∀ (z:Oper) m,∀ k∈i7 E x e.2,(B7 z (e'.2.get m)).g8 k=true→(B7 z (e.2.get m)).g8 k=true∨m∈b0R ops) ∧
  ∀ m∈looks ops x,∀ i,(B7 x (e.2.get m)).g8 i=true→Q8 e'.2 i=Q8 e.2 i

theorem a7L {x:Oper} {sx sx':St} (h:R2 x sx=true) (h1:∀ m∈looks ops x,B7 x (sx'.get m)=B7 x (sx.get m)):R2 x sx'=true:=by
 have h0:=h
 unfold R2 at h
 split at h
 ·rename_i T a v hg ho
  have hev:∀ o,o=a∨o=v→sx'.ev o=sx.ev o:=by
   intro o hoo
   cases o with
   | tmp m =>
    have:=h1 m (J3 (by rw [ho]; simp [Op.operands]; rcases hoo with e|e<;>simp [← e]))
    rw [a6c ho,a6c ho] at this
    exact M8 this
   | _=>rfl
  unfold R2 at h0 ⊢
  rw [hg,ho] at h0 ⊢
  simp only [hev a (.inl rfl),hev v (.inr rfl)]
  exact h0
 ·cases h

theorem a5K {y:Oper} {sy sy':St} (h:J9 y sy=true) (h1:∀ m∈looks ops y,B7 y (sy'.get m)=B7 y (sy.get m)):J9 y sy'=true:=by
 have hvw:∀ v,B7 y v=v:=by
  intro v
  rcases a00 y with e|⟨_,x,j,hop,_⟩
  ·exact e v
  ·unfold J9 at h; rw [hop] at h; split at h<;>first|(rename_i e9; cases e9; done)|(cases h; done)
 have hev:∀ o∈y.op.operands.toList,sy'.ev o=sy.ev o:=by
  intro o hoo
  cases o with
  | tmp m =>
   have:=h1 m (J3 hoo)
   rw [hvw,hvw] at this
   exact M8 this
  | _=>rfl
 unfold J9 at h ⊢
 split at h
 ·rename_i T a i hg ho
  simp only [hev a (by rw [ho]; simp [Op.operands]),hev i (by rw [ho]; simp [Op.operands])]
  exact h
 ·rename_i T a n hg ho
  simp only [hev a (by rw [ho]; simp [Op.operands])]
  exact h
 ·cases h

theorem a8g {y:Oper} {sy sy':St} {r:Nat×(Bool×Ty)×List Step} (h:a0Y y sy=some r) (h1:∀ m∈looks ops y,B7 y (sy'.get m)=B7 y (sy.get m)) (h2:∀ m∈looks ops y,∀ i,(B7 y (sy.get m)).g8 i=true→Q8 sy' i=Q8 sy i):a0Y y sy'=some r:=by
 obtain ⟨j,kd,q⟩:=r
 obtain ⟨hp,T,a,x,e,ho,ha,he,rfl⟩:=a6i h
 have hp':=a7L (ops:=ops) hp h1
 have hvw:∀ v,B7 y v=v:=a6c ho
 cases a with
 | tmp m =>
  have hm:m∈looks ops y:=J3 (by rw [ho]; simp [Op.operands])
  have hg:sy.get m=.ptr j q:=V4 ha nofun
  have hg':sy'.get m=.ptr j q:=by have:=h1 m hm; rw [hvw,hvw] at this; rw [this]; exact hg
  have hh:=h2 m hm j (by rw [hvw,hg]; simp only [AV.g8]; exact Nat.beq_refl j)
  unfold Q8 at hh
  rw [he] at hh
  cases hl:look j sy'.hp with
  | none=>rw [hl] at hh; cases hh
  | some e' =>
   rw [hl] at hh
   simp only [Option.map_some,Option.some.injEq] at hh
   rw [← hh]
   exact b5U hp' ho (b6o (a9P ha nofun) hg') hl
 | const c=>exact absurd ha (by intro e9; have:=a0w c j; rw [show ofConst c=.ptr j q from e9] at this; simp only [AV.g8] at this; rw [Nat.beq_refl] at this; cases this)
 | global g=>cases ha
 | func f=>cases ha

theorem b9I {x:Oper} {sx sx':St} {j:Nat} {kd:Bool×Ty} {q:List Step} (h:a3c x sx j kd q=true) (h1:∀ m∈looks ops x,B7 x (sx'.get m)=B7 x (sx.get m)) (h2:∀ m∈looks ops x,∀ i,(B7 x (sx.get m)).g8 i=true→Q8 sx' i=Q8 sx i):a3c x sx' j kd q=true:=by
 have hvw:∀ v,B7 x v=v:=by
  intro v
  rcases a00 x with e|⟨_,y,k,hop,_⟩
  ·exact e v
  ·unfold a3c at h; rw [hop] at h; split at h<;>first|(rename_i e9; cases e9; done)|(cases h; done)
 have hev:∀ o∈x.op.operands.toList,sx'.ev o=sx.ev o:=by
  intro o hoo
  cases o with
  | tmp m =>
   have:=h1 m (J3 hoo)
   rw [hvw,hvw] at this
   exact M8 this
  | _=>rfl
 unfold a3c at h ⊢
 split at h
 ·rename_i a hg ho
  simp only [hev a (by rw [ho]; simp [Op.operands])]
  exact h
 ·rename_i T a n hg ho
  simp only [hev a (by rw [ho]; simp [Op.operands])]
  exact h
 ·rename_i T a hg ho
  simp only [hev a (by rw [ho]; simp [Op.operands])]
  split at h
  ·rename_i i p ha
   have:Q8 sx' i=Q8 sx i:=by
    cases a with
    | tmp m =>
     have hm:m∈looks ops x:=J3 (by rw [ho]; simp [Op.operands])
     have hg9:sx.get m=.ptr i p:=V4 ha nofun
     exact h2 m hm i (by rw [hvw,hg9]; simp only [AV.g8]; exact Nat.beq_refl i)
    | const c=>exact absurd ha (by intro e9; have:=a0w c i; rw [show ofConst c=.ptr i p from e9] at this; simp only [AV.g8] at this; rw [Nat.beq_refl] at this; cases this)
    | global g=>cases ha
    | func f=>cases ha
   rw [this]
   exact h
  ·cases h
 ·cases h

theorem a4g.b3w {x:Oper} {sx sx':St} {y:Oper} {sy sy':St} (h:a4g E ops x sx y sy) (h1:∀ m∈looks ops x,B7 x (sx'.get m)=B7 x (sx.get m)) (h2:i7 E x sx'=i7 E x sx) (h3:∀ (z:Oper) m,∀ k∈i7 E x sx,(B7 z (sx'.get m)).g8 k=true→(B7 z (sx.get m)).g8 k=true∨m∈b0R ops)
  (h4:∀ m∈looks ops x,∀ i,(B7 x (sx.get m)).g8 i=true→Q8 sx' i=Q8 sx i) (hT:i7 E y sy'=i7 E y sy) (hA:J9 y sy=true→J9 y sy'=true) (hS:∀ r,a0Y y sy=some r→a0Y y sy'=some r):a4g E ops x sx' y sy':=by
 rcases h with ⟨⟨P1,P2,P3⟩,hn⟩|⟨k1,k2⟩|⟨j,kd,q,k1,k2⟩
 ·refine .inl ?_
  rw [hT,h2]
  refine ⟨⟨fun m hm i hi=>?_,fun m hm i hi=>by rw [h1 m hm]; exact P2 m hm i hi,P3⟩,hn⟩
  cases hh:(B7 y (sx'.get m)).g8 i with
  | false=>rfl
  | true =>
   rcases h3 y m i hi hh with h9|h9
   ·rw [P1 m hm i hi] at h9; cases h9
   ·exact absurd h9 (hn (fun e=>by rw [e] at hi; cases hi) m hm)
 ·exact .inr (.inl ⟨a7L k1 h1,hA k2⟩)
 ·exact .inr (.inr ⟨j,kd,q,hS _ k1,b9I k2 h1 h4⟩)

theorem b6j (h:F0 s t) (i:Nat):Q8 t i=Q8 s i:=by unfold Q8; rw [h.2 i]
theorem c0S {o:Oper} (h:F0 s t) {r:Nat×(Bool×Ty)×List Step} (ha:a0Y o s=some r):a0Y o t=some r:=a8g (ops:=#[]) ha (fun m _=>by rw [h.get m]) (fun _ _ i _=>b6j h i)
theorem b8r {o:Oper} (h:F0 s t) (ha:J9 o s=true):J9 o t=true:=a5K (ops:=#[]) ha (fun m _=>by rw [h.get m])

theorem a5b:∀ {l:List Nat} {acc acc':List (Nat×St)} {s t s':St},c4n E ops acc acc'→uniq s.fr→F0 s t→uniq t.fr→a4f E ops M acc l s s'→∃ t',a4f E ops M acc' l t t'∧F0 s' t'
 | [],acc,acc',s,t,s',_,_,he,_,h=>⟨t,rfl,by rw [← show s=s' from h]; exact he⟩
 | i::l,acc,acc',s,t,s',hg,hu,he,ht,⟨o,ho,hc,p,s1,h1,h2,h3⟩=>by
  obtain ⟨t1,k1,k2,k3⟩:=a6s hu he ht h1
  obtain ⟨t',m1,m2⟩:=a5b (acc:=(i,s)::acc) (acc':=(i,t)::acc') (fun e' he'=>by
   rcases List.mem_cons.1 he' with rfl|he'
   ·exact ⟨(i,s),by simp,rfl,fun x _=>⟨fun m _=>by show B7 x (t.get m)=B7 x (s.get m); rw [he.get m],a3X he,fun z m k _ hm=>.inl (by have hm:(B7 z (t.get m)).g8 k=true:=hm; rw [← he.get m] at hm; exact hm),fun _ _ i _=>b6j he i⟩⟩
   ·obtain ⟨e,h4,h5,h6⟩:=hg e' he'; exact ⟨e,by simp [h4],h5,h6⟩) (C4 hu h1) k3 k2 h3
  refine ⟨t',⟨o,ho,fun e' he'=>?_,p,t1,k1,h2,m1⟩,m2⟩
  obtain ⟨e,h4,h5,h6⟩:=hg e' he'
  rw [← h5]
  rcases hc e h4 with h|⟨x,hx,hP⟩
  ·exact .inl h
  ·obtain ⟨g1,g2,g3,g4⟩:=h6 x hx
   exact .inr ⟨x,hx,hP.b3w g1 g2 g3 g4 (a3X he) (b8r he) (fun _=>c0S he)⟩

theorem c5a {x y:Oper} (hym:y∈ops.toList) (hi:indep ops x y=true) (hu:uniq s.fr) (hx:∀ d,x.dst=some d→(s.get d).clean=true) {p q:Prop} {s1 s2:St} (h1:u6 E ops x s=some (p,s1)) (h2:u6 E ops y s1=some (q,s2)) (hP:a4g E ops x s y s1) :
  ∃ q' s1' s2',u6 E ops y s=some (q',s1')∧(q→q')∧((J9 y s1=true→J9 y s=true)∧∀ r,a0Y y s1=some r→a0Y y s=some r)∧u6 E ops x s1'=some (p,s2')∧uniq s1'.fr∧uniq s2'.fr∧F0 s2' s2∧i7 E y s=i7 E y s1∧i7 E x s1'=i7 E x s ∧
   (∀ m∈looks ops x,B7 x (s1'.get m)=B7 x (s.get m))∧(∀ (z:Oper) m,∀ i∈i7 E x s,(B7 z (s1'.get m)).g8 i=true→(B7 z (s.get m)).g8 i=true∨m∈b0R ops) ∧
   ∀ m∈looks ops x,∀ i,(B7 x (s.get m)).g8 i=true→Q8 s1' i=Q8 s i:=by
 rcases hP with ⟨hP,_⟩|⟨k1,k2⟩|⟨j,kd,qq,k1,k2⟩
 ·obtain ⟨s1',s2',m1,m2,m3,m4,m5,m6,m7,m8,m9⟩:=swap hi hu hx h1 h2 hP
  obtain ⟨ax,ay,hmod⟩:=a1Q hi
  obtain ⟨P1,P2,P3⟩:=hP
  obtain ⟨v,ids,f,g,j1,j2,j3,j4,j5⟩:=V2 hu h1
  obtain ⟨_,e1,_,hs1⟩:=j5 s hu ((F0.refl s).a07 _ _) j2
  rw [h1] at e1; cases e1
  have hgy:∀ m∈looks ops y,B7 y (s.get m)=B7 y (s1.get m):=fun m hm=>by
   rw [hs1.get j1 (fun e=>ax m e hm),a41 j1,j1.fix _ (fun i hi=>P1 m hm i hi)]
  have hhy:∀ m∈looks ops y,∀ i,(B7 y (s1.get m)).g8 i=true→Q8 s i=Q8 s1 i:=by
   intro m hm i hmi
   rw [← hgy m hm] at hmi
   unfold Q8
   rw [hs1.hp,if_neg]
   rintro (h|h)
   ·rw [P1 m hm i h] at hmi; cases hmi
   ·have hmi:=a1c hmi
    rw [a2b j2 h] at hmi; cases hmi
  refine ⟨q,s1',s2',m1,id,⟨fun ha=>a5K (ops:=ops) ha hgy,fun r hr=>a8g hr hgy hhy⟩,m2,m3,m4,m5,m6,m7,m8,fun z m i h9 h8=>.inl (m9 z m i h9 h8),?_⟩
  obtain ⟨v',ids',f',g',n1,n2,n3,n4,n5⟩:=V2 hu m1
  obtain ⟨_,e2,_,hs1'⟩:=n5 s hu ((F0.refl s).a07 _ _) n2
  rw [m1] at e2; cases e2
  intro m hm i hmi
  unfold Q8
  rw [hs1'.hp,if_neg]
  rintro (h|h)
  ·rw [m6] at h
   rw [P2 m hm i h] at hmi; cases hmi
  ·have hmi:=a1c hmi
   rw [a2b n2 h] at hmi; cases hmi
 ·obtain ⟨q',s1',s2',m1,m2,m3,m4,m5,m6,m7,m8,m9,m10,m11⟩:=c4s hym hi hu h1 h2 k1 k2
  refine ⟨q',s1',s2',m1,m2,⟨fun _=>m3,fun r hr=>?_⟩,m4,m5,m6,m7,m8,m9,m10,m11,?_⟩
  ·obtain ⟨hp,T,a,x',e,ho,_⟩:=a6i (j:=r.1) (kd:=r.2.1) (q:=r.2.2) hr
   unfold J9 at k2
   rw [ho] at k2
   split at k2<;>first|(rename_i e9; cases e9; done)|(cases k2; done)
  ·obtain ⟨_,_,_,_,_,_,_,_,_,_,_,hs1,_⟩:=b1G m3 m1
   intro m hm i _
   unfold Q8
   rw [hs1,G3]
 ·obtain ⟨s1',s2',m1,m2,m3,m4,m5,m6,m7,m8,m9,m10,m11,m12⟩:=c4t hi hu h1 h2 k1 k2
  refine ⟨q,s1',s2',m1,id,⟨fun ha=>?_,fun r hr=>?_⟩,m2,m3,m4,m5,m6,m7,m8,fun z m i h9 _=>?_,fun _ _ i _=>m10 i⟩
  ·rw [m12] at ha; cases ha
  ·rw [k1] at hr; cases hr; exact m11
  ·rw [m9] at h9; cases h9

theorem b6t {i:Nat} {o:Oper} (ho:ops[i]?=some o) {post:List Nat}:∀ {pre:List Nat} {acc:List (Nat×St)} {s s':St},I0 (rem ops (pre++i::post))→(∀ j∈pre,(M i).testBit j=false∧∀ x,ops[j]?=some x→indep ops x o=true)→uniq s.fr→F4 s (rem ops pre) →
  a4f E ops M acc (pre++i::post) s s' →
  ∃ p s1 s2,u6 E ops o s=some (p,s1)∧p∧a4f E ops M acc (pre++post) s1 s2∧F0 s2 s'∧∀ e∈acc,(M i).testBit e.1=true∨∃ x,ops[e.1]?=some x∧a4g E ops x e.2 o s
 | [],acc,s,s',_,_,hu,_,⟨o',ho',hc,p,s1,h1,h2,h3⟩=>by
  rw [ho] at ho'; cases ho'
  obtain ⟨t',m1,m2⟩:=a5b (acc:=(i,s)::acc) (acc':=acc) (fun e he=>⟨e,by simp [he],rfl,fun x _=>⟨fun _ _=>rfl,rfl,fun _ _ _ _ h=>.inl h,fun _ _ _ _=>rfl⟩⟩) (C4 hu h1) (F0.refl s1) (C4 hu h1) h3
  exact ⟨p,s1,t',h1,h2,m1,m2.symm,hc⟩
 | j::pre,acc,s,s',hap,hin,hu,hcl,⟨x,hx,hc,p,s1,h1,h2,h3⟩=>by
  have hu1:=C4 hu h1
  have er:rem ops (j::pre++i::post)=x::rem ops (pre++i::post):=a2a hx
  rw [er] at hap
  rw [a2a hx] at hcl
  have hdj:∀ y∈rem ops pre,∀ d,y.dst=some d→x.dst≠some d:=fun y hy d hyd hxd=>hap.1 d hxd y (by rw [a1r]; exact List.mem_append_left _ hy) hyd
  have hcl1:F4 s1 (rem ops pre):=F4.step hu (fun y hy=>hcl y (by simp [hy])) hdj h1
  obtain ⟨q,sa,sb,k1,k2,k3,k4,k5⟩:=b6t ho (pre:=pre) (acc:=(j,s)::acc) hap.2 (fun y hy=>hin y (by simp [hy])) hu1 hcl1 h3
  obtain ⟨hnb,hind⟩:=hin j (by simp)
  have hP:a4g E ops x s o s1:=by
   rcases k5 (j,s) (by simp) with h|⟨x',hx',hP⟩
   ·rw [hnb] at h; cases h
   ·have hx':ops[j]?=some x':=hx'
    rw [hx] at hx'; cases hx'; exact hP
  have hom:o∈ops.toList:=by have:=Array.mem_of_getElem? ho; simpa using this
  obtain ⟨q',s1',s2',m1,mq,⟨ma,ms⟩,m2,m3,m4,m5,m6,m7,m8,m9,m10⟩:=c5a hom (hind x hx) hu (fun d hd=>hcl x (by simp) d hd) h1 k1 hP
  obtain ⟨t',n1,n2⟩:=a5b (acc:=(j,s)::acc) (acc':=(j,s1')::acc) (fun e' he'=>by
   rcases List.mem_cons.1 he' with rfl|he'
   ·refine ⟨(j,s),by simp,rfl,fun y hy=>?_⟩
    have hy:ops[j]?=some y:=hy
    rw [hx] at hy; cases hy
    exact ⟨m8,m7,m9,m10⟩
   ·exact ⟨e',by simp [he'],rfl,fun y _=>⟨fun _ _=>rfl,rfl,fun _ _ _ _ h=>.inl h,fun _ _ _ _=>rfl⟩⟩) (C4 hu1 k1) m5.symm m4 k3
  refine ⟨q',s1',t',m1,mq k2,⟨x,hx,fun e he=>?_,p,s2',m2,h2,n1⟩,n2.symm.trans k4,fun e he=>?_⟩
  ·rcases hc e he with h|⟨y,hy,hP⟩
   ·exact .inl h
   ·refine .inr ⟨y,hy,hP.b3w (fun _ _=>rfl) rfl (fun _ _ _ _ h=>.inl h) (fun _ _ _ _=>rfl) m7 (fun ha=>a5K (ops:=ops) ha m8) (fun r hr=>a8g hr m8 m10)⟩
  ·rcases k5 e (by simp [he]) with h|⟨y,hy,hP⟩
   ·exact .inl h
   ·exact .inr ⟨y,hy,hP.b3w (fun _ _=>rfl) rfl (fun _ _ _ _ h=>.inl h) (fun _ _ _ _=>rfl) m6 ma ms⟩
end

section
variable {E:Env} {ops:Array Oper} {B:C6} {S:Nat→Prop} {ι:Ix} {s:St} {a:Act} {w:World}
theorem b3G (hE:A6 E B) (hn:B.n=E.nt) (hd:X9 ops=true) {Q:Exit→Act→World→Prop} {s0:St} (hQ:∀ S ι a w,RS B S ι s0 a w→Q .normal a w) :
  ∀ (fuel:Nat) (listed:Array Bool) (S:Nat→Prop) (ι:Ix) (s s':St) (a:Act) (w:World),listed.size=ops.size→(idxs ops.size listed).length=fuel→a1A ops listed→I0 (rem ops (idxs ops.size listed))→uniq s.fr→F4 s (rem ops (nl ops (idxs ops.size listed))) →
   a4f E ops (fun i=>(A3 ops.toList []).getD i 0) [] (idxs ops.size listed) s s'→F0 s' s0→RS B S ι s a w→wpAny E.P .any ops Q fuel listed a w:=by
 have hM:=a2J hd
 have a4F:∀ {S:Nat→Prop} {ι:Ix} {s t:St} {a:Act} {w:World},F0 s t→RS B S ι s a w→RS B S ι t a w:=by
  intro S ι s t a w he h
  have hvx:∀ {v:AV} {vs:List Value},VX w.heap S ι s.hp v vs→VX w.heap S ι t.hp v vs:=by
   intro v vs hv
   exact VX.other (fun i _=>(he.2 i).symm) (fun i _=>C7.refl ι i) hv
  exact ⟨⟨h.hs.os,h.hs.tape,h.hs.out,h.hs.size,h.hs.frame,h.hs.slt,h.hs.s0,h.hs.s1,fun i e hi=>h.hs.ob i e ((he.2 i).trans hi),fun i e hi=>h.hs.bl i e ((he.2 i).trans hi),fun i j ei ej hi hj=>h.hs.dj i j ei ej ((he.2 i).trans hi) ((he.2 j).trans hj),fun q hq=>by obtain ⟨r1,⟨e,r2⟩,r3⟩:=h.hs.pin q hq; exact ⟨r1,⟨e,(he.2 q.1).symm.trans r2⟩,r3⟩⟩,h.dfr,h.sz,
   fun m v hv=>hvx (h.fr m v ((he.1 m).trans hv))⟩
 intro fuel
 induction fuel with
 | zero =>
  intro listed S ι s s' a w hsz hlen hcl hap hu hcf hrun he hrs
  have hnil:idxs ops.size listed=[]:=List.length_eq_zero_iff.1 hlen
  rw [hnil] at hrun
  have hss:s=s':=hrun
  subst hss
  refine ⟨?_,hQ S ι a w (a4F he hrs)⟩
  rw [List.eq_nil_iff_forall_not_mem]
  intro i hi
  obtain ⟨h1,o,h2,_⟩:=mem_ready.1 hi
  have:i∈idxs ops.size listed:=B3.2 ⟨(Array.getElem?_eq_some_iff.1 h2).1,h1⟩
  rw [hnil] at this
  cases this
 | succ fuel ih =>
  intro listed S ι s s' a w hsz hlen hcl hap hu hcf hrun he hrs
  refine ⟨fun hr=>?_,fun i hi=>?_⟩
  ·exfalso
   cases hix:idxs ops.size listed with
   | nil=>rw [hix] at hlen; cases hlen
   | cons i l =>
    have hmem:i∈idxs ops.size listed:=by rw [hix]; simp
    obtain ⟨h1,h2⟩:=B3.1 hmem
    have ho:ops[i]?=some ops[i]:=Array.getElem?_eq_getElem h1
    have:i∈Region.ready .any ops listed:=by
     refine mem_ready.2 ⟨h2,ops[i],ho,fun e he hb=>?_⟩
     have hlt:=(hM i _ ho).1 e he hb
     cases hle:listed.getD e.on true with
     | true =>
      have:e.on<listed.size:=by omega
      simp [this] at hle ⊢; exact hle
     | false =>
      exfalso
      have hm2:e.on∈idxs ops.size listed:=B3.2 ⟨by omega,hle⟩
      have hs:=a0g ops.size listed
      rw [hix] at hs hm2
      rcases List.mem_cons.1 hm2 with e1|e1
      ·omega
      ·have:=(List.pairwise_cons.1 hs).1 _ e1; omega
    rw [hr] at this
    cases this
  ·obtain ⟨h1,o,ho,hpre⟩:=mem_ready.1 hi
   have hin:i<ops.size:=(Array.getElem?_eq_some_iff.1 ho).1
   have hmem:i∈idxs ops.size listed:=B3.2 ⟨hin,h1⟩
   obtain ⟨pre,post,e1,hlt,e2⟩:=a3d hmem
   have er:rem ops (pre++i::post)=rem ops pre++o::rem ops post:=by simp [rem,List.filterMap_append,ho]
   have er2:rem ops (pre++post)=rem ops pre++rem ops post:=by simp [rem,List.filterMap_append]
   rw [e1] at hap hcf hrun
   have hind:∀ j∈pre,((A3 ops.toList []).getD i 0).testBit j=false∧∀ x,ops[j]?=some x→indep ops x o=true:=by
    intro j hj
    have hnm:((A3 ops.toList []).getD i 0).testBit j=false:=by
     cases hm:((A3 ops.toList []).getD i 0).testBit j with
     | false=>rfl
     | true =>
      exfalso
      have hjl:=a1W (M:=fun i=>(A3 ops.toList []).getD i 0) (fun i o ho=>⟨(hM i o ho).1,(hM i o ho).2.1⟩) hcl i o ho hpre j (by have:=hlt j hj; omega) hm
      have:j∈idxs ops.size listed:=by rw [e1]; simp [hj]
      have:=(B3.1 this).2
      rw [O6 hjl] at this
      cases this
    refine ⟨hnm,fun x hx=>?_⟩
    rcases (hM i o ho).2.2 j x (hlt j hj) hx with hm|hm
    ·rw [hnm] at hm; cases hm
    ·exact hm
   have hcl0:F4 s (rem ops (nl ops (pre++post))):=hcf.sub (fun y hy=>by
    rw [a9x,a1r] at hy ⊢
    rcases List.mem_append.1 hy with hy|hy
    ·exact List.mem_append_left _ hy
    ·refine List.mem_append_right _ ?_
     obtain ⟨j,j1,j2⟩:=List.mem_filterMap.1 hy
     obtain ⟨j3,j4⟩:=List.mem_filter.1 j1
     exact List.mem_filterMap.2 ⟨j,List.mem_filter.2 ⟨List.mem_cons_of_mem _ j3,j4⟩,j2⟩)
   obtain ⟨p,s1,s2,k1,k2,k3,k4,_⟩:=b6t ho hap hind hu (hcf.sub (fun y hy=>by
    rw [a9x,a1r,b9x hin hlt (fun j hj=>(hind j hj).1)]; exact List.mem_append_left _ hy)) hrun
   rw [er] at hap
   have hset:=(a2g hsz hin).trans e2
   have hap2:I0 (rem ops pre++rem ops post)∧∀ x∈rem ops pre++rem ops post,∀ d,x.dst=some d→o.dst≠some d:=by
    have:∀ {A C:List Oper},I0 (A++o::C)→I0 (A++C)∧∀ x∈A++C,∀ d,x.dst=some d→o.dst≠some d:=by
     intro A
     induction A with
     | nil=>intro C h; exact ⟨h.2,fun x hx d hxd hod=>h.1 d hod x hx hxd⟩
     | cons y A ih =>
      intro C h
      obtain ⟨m1,m2⟩:=ih h.2
      refine ⟨⟨fun d hd x hx=>h.1 d hd x (by simp at hx ⊢; rcases hx with hx|hx<;>simp [hx]),m1⟩,fun x hx d hxd hod=>?_⟩
      rcases List.mem_cons.1 hx with rfl|hx
      ·exact h.1 d hxd o (by simp) hod
      ·exact m2 x hx d hxd hod
    exact this hap
   have hps:=a2q hE hn hrs (ops:=ops) o (k:=fun x=>Tree.cut .skip [] x) (L:=fun _ _ x=>x=s1) (Rt:=fun _=>True) (a1g.2 ⟨p,s1,k1,k2,rfl⟩)
    (next:=wpAny E.P .any ops Q fuel (listed.setIfInBounds i true)) (Q:=Q) (fun S' ι' x a' w' hx hxe=>by
     have hxe:x=s1:=hxe
     subst hxe
     refine ih (listed.setIfInBounds i true) S' ι' x s2 a' w' (by simp [hsz]) ?_ ?_ ?_ (C4 hu k1) ?_ ?_ (k4.trans he) hx
     ·rw [hset]; rw [e1] at hlen; simp at hlen ⊢; omega
     ·intro k y hy hk e' he' hb'
      by_cases hki:k=i
      ·subst hki
       rw [ho] at hy; cases hy
       exact getD_set_true (hpre e' he' hb')
      ·rw [getD_set_ne true (Ne.symm hki)] at hk
       exact getD_set_true (hcl k y hy hk e' he' hb')
     ·rw [hset,er2]; exact hap2.1
     ·rw [hset]
      exact F4.step hu hcl0 (fun y hy=>hap2.2 y (by rw [← er2]; exact b9w y hy)) k1
     ·rw [hset]; exact k3)
   unfold wpOp
   rw [ho]
   simp only
   split
   ·rename_i hw; rw [if_pos hw] at hps; exact .inl hps
   ·rename_i hw; rw [if_neg hw] at hps; exact hps

theorem b2k (hE:A6 E B) (hn:B.n=E.nt) {id:Nat} (hd:(X9 ops && a2i ops s && E.P.follows .mixedOrders)=true) {Q:Exit→Act→World→Prop} {s':St} (hr:a4f E ops (fun i=>(A3 ops.toList []).getD i 0) [] (List.range' 0 ops.toList.length) s s')
  (hQ:∀ S ι a w,RS B S ι s' a w→Q .normal a w) (h:RS B S ι s a w):(Code.region id ops true).wp E.P Q a w:=by
 simp only [Bool.and_eq_true,a2i,List.all_eq_true] at hd
 obtain ⟨⟨h1,⟨h2,h3⟩,h4⟩,h5⟩:=hd
 refine wp_region_any h5 ?_
 have hlen:(idxs ops.size (Array.replicate ops.size false)).length=ops.size:=by
  rw [W2]; simp
 refine b3G hE hn h1 hQ ops.size _ S ι s s' a w.drew (by simp) hlen ?_ ?_ (j7 h2) ?_ ?_ (F0.refl _) (h.R6 C5.nil C0.drew)
 ·intro k o hk hl
  have:k<ops.size:=(Array.getElem?_eq_some_iff.1 hk).1
  simp [this] at hl
 ·rw [a4G]; exact a2l h3
 ·intro o ho d hd
  exact h4 d (b1w ho hd)
 ·rw [W2,List.range_eq_range']
  simpa using hr


/-! ### regions that store what they read -/
end
end Go.Ex

namespace Go.Ex

section
variable {E:Env} {B:C6} {S S':Nat→Prop} {ι:Ix} {s:St} {a:Act} {w:World} {hp:List (Nat×f7)} {H H':Array Go.Obj}

def At (P:Program) (fn:Func) (R:Ending→World→Prop) (k:List Item) (a:Act) (w:World):Prop :=
 ∀ (b:Frame) (cs:List Frame),∃ (e:Exit) (a':Act) (w':World),bodyPost P fn R e a' w'∧Arrives P (lone (b.at a k) cs w) b [] cs e a' w'

section at_
variable {P:Program} {fn:Func} {R:Ending→World→Prop} {k k':List Item}

theorem At.step (hs:∀ (b:Frame) (cs:List Frame),step P (lone (b.at a k) cs w)=.next (lone (b.at a k') cs w)) (h:At P fn R k' a w):At P fn R k a w :=
 fun b cs=>let ⟨e,a',w',q,r⟩:=h b cs; ⟨e,a',w',q,.of_steps (.one (hs b cs)) r⟩

theorem At.region {id:Nat} {ops:Array Oper} {d:Bool} (h:(Code.region id ops d).wp P (fun e a w=>e=.normal∧At P fn R k a w) a w):At P fn R (.code (.region id ops d)::k) a w:=by
 intro b cs
 obtain ⟨e,a',w',⟨rfl,h2⟩,harr⟩:=h b k cs
 obtain ⟨e,a'',w'',q,r⟩:=h2 b cs
 exact ⟨e,a'',w'',q,.of_steps harr r⟩

theorem At.done (h:bodyPost P fn R .normal a w):At P fn R [] a w:=fun _ _=>⟨.normal,a,w,h,Steps.refl _ _⟩
theorem At.ret (h:bodyPost P fn R .ret a w):At P fn R (.code .ret::k) a w:=fun _ _=>⟨.ret,a,w,h,_,.one step_ret⟩

theorem b5t {f:FuncId} {c:Code} {args:Array Value} (hf:P.funcs[f]?=some fn) (hb:fn.body=some c)
  (h:At P fn R [.code c] { tmps:=args++Array.replicate (fn.ntmps - args.size) undef,defers:=[] } w):Calls P f args w R:=by
 intro cs
 let b:Frame:={ (default:Frame) with fn:=f,kind:=.normal }
 have henter:Frame.enter P f args .normal=b.at { tmps:=args++Array.replicate (fn.ntmps - args.size) undef,defers:=[] } [.code c]:=by
  simp [Frame.enter,Frame.at,hf,hb,b]
 obtain ⟨e,a',w',hq,harr⟩:=h b cs
 rw [← henter] at harr
 cases e with
 | normal =>
  obtain ⟨hd,v,hr,hR⟩:=hq
  exact ⟨.returned v,w',_,hR,Steps.trans harr (.one step_end),rfl,rfl,hd,rfl,fn,hf,hr⟩
 | ret =>
  obtain ⟨hd,v,hr,hR⟩:=hq
  obtain ⟨todo,hs⟩:=harr
  exact ⟨.returned v,w',_,hR,hs,rfl,rfl,hd,rfl,fn,hf,hr⟩
 | panic chain =>
  obtain ⟨hd,hR⟩:=hq
  obtain ⟨todo,hs⟩:=harr
  exact ⟨.panicked chain,w',_,hR,hs,rfl,rfl,hd,fn,hf⟩
 | exit id=>exact hq.elim
 | goto l=>exact hq.elim
 | outgrown=>exact ⟨.outgrown,w',b,hq,harr.resolve_left (by simp [b]),rfl,trivial⟩
end at_

/-! ### what is kept at a cut -/
theorem RS.L8 (live:List Nat) (s0:St):∀ {l:List (Nat×f7)} {s:St},RS B S ι s a w→RS B S ι (L8 live s0 l s) a w
 | [],_,h=>h
 | (i,_)::l,s,h=>by
  simp only [Ex.L8]
  split
  ·exact RS.L8 live s0 h
  ·rename_i hp
   simp only [Bool.or_eq_false_iff] at hp
   exact RS.L8 live s0 (h.drop hp.1)

theorem RS.b7v (h:RS B S ι s a w) {m d:Nat} (hf:s.fresh d=true) {t:Ty} {x:t.den} {O:List Nat} {cs:List Value} (hv:a.tmps.getD m (B.gd m)=j8 t cs) (hR:f9 w.heap S t O cs x) (hF:C5 B S ι s.hp w O) :
  ∃ ι',RS B S ι' { s.s6 d (.own t x) with fr:=Ex.put m (.at_ d []) s.fr } a w :=
 ⟨_,(h.hold hf hR hF).slot (t:=m) (v:=.at_ d []) (by rw [hv]; exact a6P hR.length)⟩

def a3O (ι ι':Ix) (i j:Nat):Prop:=ι'.root j=ι.root i∧ι'.cells j=ι.cells i∧ι'.own j=ι.own i

theorem a3O.place {ι':Ix} {i j:Nat} (h:a3O ι ι' i j) {H:Array Go.Obj} {e:f7} {p:List Step}:Place H ι' j e p=Place H ι i e p:=by
 obtain ⟨h1,h2,h3⟩:=h
 cases e<;>simp only [Place,VH,VR,h1,h2]
theorem a3O.loc {ι':Ix} {i j:Nat} (h:a3O ι ι' i j) {H:Array Go.Obj} {e:f7} {p:List Step}:Loc H ι' j e p=Loc H ι i e p:=by
 simp only [Loc,h.place]
theorem a3O.a6M {ι':Ix} {i j:Nat} (h:a3O ι ι' i j) {H:Array Go.Obj} {e:f7} {p:List Step} {u:Ty} {cs:List Value}:Cells H ι' j e p u cs↔Cells H ι i e p u cs:=by
 have hv:VH H ι' j e=VH H ι i e:=by obtain ⟨h1,h2,h3⟩:=h; cases e<;>simp only [VH,h2]
 simp only [Cells,h.place,hv]

theorem RS.ren (h:RS B S ι s a w) {i j:Nat} (hi:pinned i=false) {u:Ty} {x:u.den} (h1:look i s.hp=some (.own u x)) (hf:s.fresh j=true) :
  ∃ ι',RS B S ι' { fr:=mapA (AV.ren i j) s.fr,hp:=Ex.put j (.own u x) (del i s.hp) } a w:=by
 obtain ⟨f1,f2⟩:=a4a hf
 have hij:i≠j:=by rintro rfl; rw [f1] at h1; cases h1
 let ι':Ix:={ root:=fun k=>if k=j then ι.root i else ι.root k,cells:=fun k=>if k=j then ι.cells i else ι.cells k,own:=fun k=>if k=j then ι.own i else ι.own k }
 have hsj:a3O ι ι' i j:=⟨by simp [ι'],by simp [ι'],by simp [ι']⟩
 have hsk:∀ k,k≠j→C7 ι ι' k:=fun k hk=>⟨by simp [ι',hk],by simp [ι',hk],by simp [ι',hk]⟩
 have hF:C5 B S ι (St.t6 [i] s).hp w (ι.own i):=by
  obtain ⟨⟨O,hO,hR⟩,hnd⟩:=(h.hs.ob i _ h1:OB w.heap S ι i (.own u x))
  exact C5.t6 h.hs hnd (fun b hb=>⟨i,_,by simp,h1,hb⟩)
 have hob:OB w.heap S ι' j (.own u x):=by
  obtain ⟨⟨O,hO,hR⟩,hnd⟩:=(h.hs.ob i _ h1:OB w.heap S ι i (.own u x))
  obtain ⟨e1,e2,e3⟩:=hsj
  exact ⟨⟨O,by rw [e3]; exact hO,by rw [e2]; exact hR⟩,by rw [e3]; exact hnd⟩
 have hd:=h.hs.drop hi
 refine ⟨ι',⟨hd.add (d:=j) (e:=.own u x) (ι':=ι') (O:=ι.own i) ?_ hsk hob ?_ hF,h.dfr,h.sz,?_⟩⟩
 ·rw [I6]; split<;>first|rfl|exact f1
 ·intro b hb
  have:ι'.own j=ι.own i:=hsj.2.2
  show b∈ι.own i
  rw [← this]; exact hb
 ·intro t v hv
  simp only [H6,Option.map_eq_some_iff] at hv
  obtain ⟨v0,hv0,rfl⟩:=hv
  have hvj:=f2 t v0 hv0
  refine VX.map (fun _ _=>rfl) (fun _ h=>h) (fun q vs hq hm hv=>?_) (h.fr t v0 hv0)
  have hlk:∀ k,q.g8 k=true→k≠i→look k (Ex.put j (.own u x) (del i s.hp))=look k s.hp:=by
   intro k hk hki
   have hkj:k≠j:=by rintro rfl; rw [hm k hk] at hvj; cases hvj
   rw [p7,if_neg hkj,I6,if_neg hki]
  have hlj:look j (Ex.put j (f7.own u x) (del i s.hp))=some (.own u x):=by rw [p7,if_pos rfl]
  dsimp only
  split
  ·rename_i hmi
   refine VX.other (fun k hk=>hlk k hk ?_) (fun k hk=>hsk k ?_) hv
   ·rintro rfl; rw [hk] at hmi; cases hmi
   ·rintro rfl; rw [hm k hk] at hvj; cases hvj
  ·rename_i hmi
   split
   ·rename_i k p
    have:=Nat.eq_of_beq_eq_true hmi
    subst this
    obtain ⟨e,b,off,k1,k2,k3,k4⟩:=hv
    rw [h1] at k1; cases k1
    exact ⟨_,b,off,hlj,k2,hsj.loc.trans k3,k4⟩
   ·rename_i k p
    have:=Nat.eq_of_beq_eq_true hmi
    subst this
    obtain ⟨e,u',y,cs,k1,k2,k3,k4,k5⟩:=hv
    rw [h1] at k1; cases k1
    exact ⟨_,u',y,cs,hlj,k2,k3,hsj.a6M.2 k4,k5⟩
   ·rename_i k p lo hi'
    have:=Nat.eq_of_beq_eq_true hmi
    subst this
    obtain ⟨e,v,k1,k2,k3,k4,k5,k6⟩:=hv
    rw [h1] at k1; cases k1
    refine ⟨_,v,hlj,k2,k3,k4,k5,?_⟩
    rcases k6 with ⟨t',l,A,cap,q1,q2,q3,q4⟩|⟨n,t',l,b,off,q1,q2,q3,q4⟩
    ·exact .inl ⟨t',l,A,cap,q1,q2,hsj.a6M.2 q3,q4⟩
    ·exact .inr ⟨n,t',l,b,off,q1,q2,hsj.loc.trans q3,q4⟩
   ·obtain ⟨y,e⟩:=VX.one hq hv
    exact ⟨y,e⟩

theorem RS.settle (h:RS B S ι s a w) (m:Nat) (t:Ty):∃ ι',RS B S ι' (settle m t s) a w:=by
 have hg:=h.get m
 unfold Ex.settle
 split
 ·rename_i hm
  rw [hm] at hg
  have hv:a.tmps.getD m (B.gd m)=Value.slice none 0 0:=by
   have:[a.tmps.getD m (B.gd m)]=[Value.slice none 0 0]:=hg
   simpa using this
  split
  ·rename_i u hf
   exact h.b7v hf (t:=.d0 true u) (x:=([]:List u.den)) (O:=[]) (cs:=[.slice none 0 0]) hv (.inl ⟨rfl,⟨none,0,rfl,fun _=>rfl⟩,rfl⟩) C5.nil
  ·exact ⟨ι,h⟩
 ·rename_i i hm
  split
  ·rename_i u x hob
   split
   ·exact ⟨ι,h⟩
   ·rename_i hc
    simp only [Bool.or_eq_false_iff,Bool.not_eq_false'] at hc
    exact h.ren hc.1 hob hc.2
  ·exact ⟨ι,h⟩
 ·rename_i i lo hi hm
  rw [hm] at hg
  split
  ·rename_i u x g hgv
   split
   ·exact ⟨ι,h⟩
   ·rename_i hc
    simp only [Bool.or_eq_false_iff,Bool.not_eq_false'] at hc
    obtain ⟨O,cs,k1,k2,k3,k4⟩:=a1i h.hs hgv hg
    have hgi:g=[i]:=by
     simp only [AV.U5] at hgv
     split at hgv<;>cases hgv
     rfl
    subst hgi
    exact (h.drop hc.1).b7v hc.2 k1 k2 (C5.t6 h.hs k3 k4)
  ·exact ⟨ι,h⟩
 ·rename_i u x hm
  rw [hm] at hg
  split
  ·rename_i hc
   simp only [Bool.and_eq_true] at hc
   obtain ⟨cs,e,hR⟩:=hg
   exact h.b7v hc.2 (by simpa using e) hR C5.nil
  ·exact ⟨ι,h⟩
 ·exact ⟨ι,h⟩

theorem RS.S6:∀ {l:List (Nat×Option Ty)} {ι:Ix} {s:St},RS B S ι s a w→∃ ι',RS B S ι' (S6 l s) a w
 | [],ι,s,h=>⟨ι,h⟩
 | (_,none)::l,ι,s,h=>RS.S6 (l:=l) h
 | (m,some t)::l,ι,s,h=>by
  obtain ⟨ι',h'⟩:=h.settle m t
  exact RS.S6 (l:=l) h'

theorem RS.canon (h:RS B S ι s a w) (x:List (Nat×Option Ty)):∃ ι',RS B S ι' (canon x s) a w:=by
 have h1:RS B S ι (Ex.L8 (x.map (·.1)) s s.hp s) a w:=RS.L8 (x.map (·.1)) s h
 obtain ⟨ι',h2⟩:=RS.S6 (l:=x) h1
 have h3:=RS.L8 (x.map (·.1)) (Ex.S6 x (Ex.L8 (x.map (·.1)) s s.hp s)) (l:=(Ex.S6 x (Ex.L8 (x.map (·.1)) s s.hp s)).hp) h2
 refine ⟨ι',h3.hs,h3.dfr,h3.sz,?_⟩
 intro t v hv
 simp only [Ex.canon] at hv
 generalize hs:Ex.L8 (x.map (·.1)) (Ex.S6 x (Ex.L8 (x.map (·.1)) s s.hp s)) (Ex.S6 x (Ex.L8 (x.map (·.1)) s s.hp s)).hp (Ex.S6 x (Ex.L8 (x.map (·.1)) s s.hp s))=s1 at hv h3
 have:v=s1.get t:=by
  generalize x.map (·.1)=ts at hv
  clear h3 hs
  revert hv
  induction ts with
  | nil=>intro hv; cases hv
  | cons t' l ih =>
   intro hv
   simp only [List.map_cons,look] at hv
   cases hb:Nat.beq t t' with
   | true =>
    rw [hb] at hv
    have:=Nat.eq_of_beq_eq_true hb
    subst this
    cases hv; rfl
   | false=>rw [hb] at hv; exact ih hv
 rw [this]
 have:=h3.get t
 simp only [Ex.canon,hs]
 exact this

/-! ### results -/
theorem a5i (hE:A6 E B) (h:RS B S ι s a w):∀ {rs:List ResultVar} {l:AV},a6q E s rs=some l →
  ∃ us,(rs.mapM fun r=>(match r with
   | .tmp t=>pure (a.tmps.getD t undef)
   | .cell c t=>do loadVar t (← asAddr (a.tmps.getD c undef)):Sem Value)).run E.P w=.ok us w∧VX w.heap S ι s.hp l us
 | [],l,hl=>by
  simp only [a6q,Option.some.injEq] at hl
  subst hl
  exact ⟨[],rfl,rfl⟩
 | .tmp t::rs,l,hl=>by
  simp only [a6q] at hl
  split at hl
  ·rename_i v hv
   cases hl
   obtain ⟨us,h1,h2⟩:=a5i hE h hv
   exact ⟨a.tmps.getD t undef::us,by simp only [List.mapM_cons,Sem.run_bind,Sem.run_pure,Result.andThen,h1],_,us,rfl,h.ev (.tmp t),h2⟩
  ·cases hl
 | .cell c T::rs,l,hl=>by
  simp only [a6q] at hl
  split at hl
  ·rename_i i p hc
   have hv:=h.ev (.tmp c)
   rw [hc] at hv
   obtain ⟨e,b,off,k1,k2,k3,k4⟩:=hv
   have k4:a.tmps.getD c undef=.pointer (some ⟨b,off,none⟩):=by
    have k5:[a.tmps.getD c undef]=[.pointer (some ⟨b,off,none⟩)]:=k4
    exact List.head_eq_of_cons_eq k5
   split at hl
   ·rename_i u y hpt
    have hg:=F6 k1 hpt
    split at hl
    ·rename_i hck
     split at hl
     ·rename_i v hv
      obtain ⟨us,h1,h2⟩:=a5i hE h hv
      obtain ⟨O2,m1,mn,m2,m3,m4,m5⟩:=M9 (K1 k3) (h.hs.ob i _ k1) h.hs.slt k2 hg k3
      have hld:(do loadVar T (← asAddr (a.tmps.getD c undef)):Sem Value).run E.P w=.ok (j8 u (f8 w.heap b off u.size)) w:=by
       rw [k4]; simp [asAddr,a01 (B2 hE hck) m2]
      refine ⟨j8 u (f8 w.heap b off u.size)::us,?_,?_⟩
      ·simp only [List.mapM_cons]
       rw [Sem.run_bind,hld]
       simp only [Result.andThen,Sem.run_bind,Sem.run_pure,h1]
      ·split at hl
       ·rename_i hs
        cases hl
        have:=m2.M4 hs
        subst this
        exact ⟨_,us,rfl,⟨_,rfl,m2⟩,h2⟩
       ·cases hl
        obtain ⟨r3,r4⟩:=A7 k3
        exact ⟨_,us,rfl,⟨_,u,y,_,k1,k2,hg,⟨b,off,r3,by rw [l5 (G6 r4)]⟩,rfl⟩,h2⟩
     ·cases hl
    ·cases hl
   ·cases hl
  ·cases hl

theorem b40 (hE:A6 E B) (h:RS B S ι s a w) {fn:Func} (hres:fn.results.toList=E.res) {l:AV} (hl:a6q E s E.res=some l) :
  ∃ us,(results fn a.tmps).run E.P w=.ok (a3s us) w∧VX w.heap S ι s.hp l us:=by
 obtain ⟨us,h1,h2⟩:=a5i hE h hl
 refine ⟨us,?_,h2⟩
 rw [← hres] at h1
 have:(fn.results.mapM fun r=>(match r with
   | .tmp t=>pure (a.tmps.getD t undef)
   | .cell c t=>do loadVar t (← asAddr (a.tmps.getD c undef)):Sem Value)).run E.P w=.ok us.toArray w:=by
  rw [Array.mapM_eq_mapM_toList,Sem.run_map,h1]; rfl
 simp only [results]
 rw [Sem.run_bind]
 refine (congrArg (fun r:Result (Array Value)=>r.andThen fun vs w'=>Sem.run E.P (pure (if h:vs.size=1 then vs[0] else Value.tuple vs)) w') this).trans ?_
 simp only [Result.andThen,Sem.run_pure]
 match us with
 | []=>rfl
 | [v]=>rfl
 | v::v2::l=>rfl

theorem b67 (h:HS B S ι s.hp w) {t:Ty} {used used':List Nat} {av:AV} {x:t.den} {v:Value} (hr:b23 s t used av=some (x,used')) (hv:VX w.heap S ι s.hp av [v]) :
  ∃ O cs,v=j8 t cs∧f9 w.heap S t O cs x∧O.Nodup∧(∀ b∈O,∃ i e,i∈used'∧i∉used∧pinned i=false∧look i s.hp=some e∧b∈l6 ι i e)∧∀ i∈used,i∈used':=by
 unfold b23 at hr
 split at hr
 ·rename_i i
  split at hr
  ·cases hr
  ·rename_i hc
   simp only [Bool.or_eq_false_iff] at hc
   obtain ⟨hc1,hc2⟩:=hc
   have hnu:i∉used:=by intro hm; simp [hm] at hc1
   obtain ⟨e,u,y,cs,h1,h2,h3,h4,h5⟩:=hv
   have key:∀ {e0:f7},s.obj i=some e0→(hu:e0.ty=t)→∀ {x},x=I7 hu e0.x→∃ O cs,v=j8 t cs∧f9 w.heap S t O cs x∧O.Nodup∧(∀ b∈O,∃ j e,j∈i::used∧j∉used∧pinned j=false∧look j s.hp=some e∧b∈l6 ι j e)∧∀ j∈used,j∈i::used:=by
    rintro e0 hob rfl x rfl
    obtain rfl:=a0a h1 hob
    rw [x9] at h3; cases h3
    obtain ⟨O2,m1,m2,m3⟩:=G2 h h1 h2 x9 h4
    exact ⟨O2,cs,by simpa using h5,m3,m2,fun b hb=>⟨i,_,by simp,hnu,hc2,h1,G9 (m1 b hb)⟩,fun j hj=>by simp [hj]⟩
   split at hr
   ·rename_i u' x' hob
    split at hr
    ·rename_i hu; cases hr; exact key (e0:=.var u' x') hob hu rfl
    ·cases hr
   ·rename_i u' x' hob
    split at hr
    ·rename_i hu; cases hr; exact key (e0:=.own u' x') hob hu rfl
    ·cases hr
   ·cases hr
 ·rename_i i lo hi
  split at hr
  ·cases hr
  ·rename_i hc
   simp only [Bool.or_eq_false_iff] at hc
   obtain ⟨hc1,hc2⟩:=hc
   have hnu:i∉used:=by intro hm; simp [hm] at hc1
   split at hr
   ·rename_i u x' g hgv
    split at hr
    ·rename_i hu
     cases hr
     subst hu
     obtain ⟨O,cs,k1,k2,k3,k4⟩:=a1i h hgv hv
     have hgi:g=[i]:=by
      simp only [AV.U5] at hgv
      split at hgv<;>cases hgv
      rfl
     subst hgi
     refine ⟨O,cs,k1,k2,k3,fun b hb=>?_,fun j hj=>by simp [hj]⟩
     obtain ⟨j,e,j1,j2,j3⟩:=k4 b hb
     simp only [List.mem_cons,List.not_mem_nil,or_false] at j1
     subst j1
     exact ⟨j,e,by simp,hnu,hc2,j2,j3⟩
    ·cases hr
   ·cases hr
 ·rename_i i
  split at hr
  ·cases hr
  ·rename_i hc
   simp only [Bool.or_eq_false_iff] at hc
   obtain ⟨hc1,hc2⟩:=hc
   have hnu:i∉used:=by intro hm; simp [hm] at hc1
   split at hr
   ·rename_i u y hob
    split at hr
    ·rename_i hu
     subst hu
     cases hr
     obtain ⟨e,b,off,h1,h2,h3,h4⟩:=hv
     obtain rfl:=a0a h1 hob
     obtain ⟨⟨O,hO,hR⟩,hf,hnd⟩:=h.ob i _ h1
     have hl:(ι.root i).1=b∧(ι.root i).2=off:=by
      have:=(A7 h3).1
      simp only [Place,x8,VR,Option.some.injEq,Prod.mk.injEq] at this
      exact this
     obtain ⟨rfl,rfl⟩:=hl
     refine ⟨(ι.root i).1::O,[.pointer (some ⟨(ι.root i).1,(ι.root i).2,none⟩)],by simpa [j8,Ty.agg] using h4,.inr ⟨_,_,_,O,rfl,rfl,hf.w7,hR,rfl,hf⟩,((hO.cons _).nodup_iff).2 hnd,fun c hc=>⟨i,_,by simp,hnu,hc2,h1,?_⟩,fun j hj=>by simp [hj]⟩
     simp only [l6]
     exact ((hO.cons _).mem_iff).1 hc
    ·cases hr
   ·cases hr
 ·rename_i f i
  split at hr
  ·cases hr
  ·rename_i hc
   simp only [Bool.or_eq_false_iff] at hc
   obtain ⟨hc1,hc2⟩:=hc
   have hnu:i∉used:=by intro hm; simp [hm] at hc1
   split at hr
   ·rename_i u y hob
    split at hr
    ·rename_i hu
     subst hu
     cases hr
     obtain ⟨us,hv1,v0,us0,rfl,⟨e,b,off,h1,h2,h3,h4⟩,hv2⟩:=hv
     have hv2:us0=[]:=hv2
     subst hv2
     have h4:v0=.pointer (some ⟨b,off,none⟩):=by simpa using h4
     subst h4
     obtain rfl:=a0a h1 hob
     obtain ⟨⟨O,hO,hR⟩,hf,hnd⟩:=h.ob i _ h1
     have hl:(ι.root i).1=b∧(ι.root i).2=off:=by
      have:=(A7 h3).1
      simp only [Place,x8,VR,Option.some.injEq,Prod.mk.injEq] at this
      exact this
     obtain ⟨rfl,rfl⟩:=hl
     refine ⟨(ι.root i).1::O,[a4u (some f) ⟨(ι.root i).1,(ι.root i).2,none⟩],by simpa [j8,Ty.agg,a4u] using hv1,.inr ⟨_,_,_,O,rfl,rfl,hf.w7,hR,rfl,hf⟩,((hO.cons _).nodup_iff).2 hnd,fun c hc=>⟨i,_,by simp,hnu,hc2,h1,?_⟩,fun j hj=>by simp [hj]⟩
     simp only [l6]
     exact ((hO.cons _).mem_iff).1 hc
    ·cases hr
   ·cases hr
 ·split at hr
  ·rename_i x' hx
   cases hr
   obtain ⟨cs,e,hR⟩:=b4c hx hv
   exact ⟨[],cs,e,hR,List.nodup_nil,by simp,fun _ h=>h⟩
  ·cases hr

theorem a9k (h:HS B S ι s.hp w):∀ {rs:List Ty} {used:List Nat} {l:AV} {y:DL rs} {us:List Value},b24 s rs used l=some y→VX w.heap S ι s.hp l us →
  ∃ O,K4 w.heap S rs O us y∧O.Nodup∧∀ b∈O,∃ i e,i∉used∧pinned i=false∧look i s.hp=some e∧b∈l6 ι i e
 | [],used,l,y,us,hr,hv=>by
  cases l<;>simp only [b24] at hr<;>first|cases hr|skip
  exact ⟨[],⟨rfl,hv⟩,List.nodup_nil,by simp⟩
 | t::ts,used,l,y,us,hr,hv=>by
  cases l<;>simp only [b24] at hr<;>first|cases hr|skip
  rename_i av bv
  obtain ⟨v,us',rfl,ha,hb⟩:=hv
  split at hr
  ·rename_i x used' h1
   split at hr
   ·rename_i y' h2
    cases hr
    obtain ⟨O1,cs,k1,k2,k3,k4,k5⟩:=b67 h h1 ha
    obtain ⟨O2,m1,m2,m3⟩:=a9k h h2 hb
    refine ⟨O1++O2,⟨v,us',O1,O2,cs,rfl,rfl,k1,k2,m1⟩,List.nodup_append.2 ⟨k3,m2,?_⟩,?_⟩
    ·rintro c hc d hd rfl
     obtain ⟨i,e,i1,_,_,i2,i3⟩:=k4 c hc
     obtain ⟨j,e',j1,_,j2,j3⟩:=m3 c hd
     exact h.dj i j e e' i2 j2 (by rintro rfl; exact j1 i1) c i3 j3
    ·intro c hc
     rcases List.mem_append.1 hc with hc|hc
     ·obtain ⟨i,e,_,i1,i4,i2,i3⟩:=k4 c hc
      exact ⟨i,e,i1,i4,i2,i3⟩
     ·obtain ⟨j,e',j1,j4,j2,j3⟩:=m3 c hc
      exact ⟨j,e',fun hj=>j1 (k5 j hj),j4,j2,j3⟩
   ·cases hr
  ·cases hr

def J5:(ks:List PK)→List Value→Nat→List (Nat×(Nat×Nat)×List Value)
 | .rw _::ks,v::vs,i=>(match v with
  | .pointer (some a)=>(2000000+i,(a.block,a.off),[])
  | _=>(2000000+i,(0,0),[]))::J5 ks vs (i+1)
 | .mu _::ks,v::vs,i=>(2000000+i,(0,0),[v])::J5 ks vs (i+1)
 | _::ks,_::vs,i=>J5 ks vs (i+1)
 | _,_,_=>[]

theorem a29 (h:HS B S ι s.hp w) {H0:Array Go.Obj} {S0:Nat→Prop}:∀ {ks:List PK} {vs:List Value} {x:DK ks} {L0:List Nat} {j:Nat} {z:DL (C9 ks)},R8 H0 S0 ks vs x L0→(∀ q∈J5 ks vs j,q∈B.pins)→a0v s ks j=some z →
  ∃ Lo,E9 w.heap S ks vs z Lo∧Lo.Nodup∧∀ b∈Lo,∃ i e,2000000+j≤i∧look i s.hp=some e∧b∈l6 ι i e
 | [],vs,x,L0,j,z,hK,_,hz=>⟨[],⟨hK.1,rfl⟩,List.nodup_nil,by simp⟩
 | k::ks,vs,x,L0,j,z,⟨v,us,L1,L2,e1,e2,hk,hK⟩,hp,hz=>by
  subst e1 e2
  have plain:∀ {z':DL (C9 ks)},(∀ q∈J5 ks us (j+1),q∈B.pins)→a0v s ks (j+1)=some z'→∃ Lo,E9 w.heap S ks us z' Lo∧Lo.Nodup∧∀ b∈Lo,∃ i e,2000000+j≤i∧look i s.hp=some e∧b∈l6 ι i e:=by
   intro z' hp hz
   obtain ⟨Lo,k1,k2,k3⟩:=a29 h hK hp hz
   exact ⟨Lo,k1,k2,fun b hb=>by obtain ⟨i,e,i1,i2,i3⟩:=k3 b hb; exact ⟨i,e,by omega,i2,i3⟩⟩
  have join:∀ {L1 Lo:List Nat} {e0:f7},look (2000000+j) s.hp=some e0→L1.Nodup→(∀ b∈L1,b∈l6 ι (2000000+j) e0)→Lo.Nodup→(∀ b∈Lo,∃ i e,2000000+(j+1)≤i∧look i s.hp=some e∧b∈l6 ι i e) →
    (L1++Lo).Nodup∧∀ b∈L1++Lo,∃ i e,2000000+j≤i∧look i s.hp=some e∧b∈l6 ι i e:=by
   intro L1 Lo e0 h1 n1 m1 n2 m2
   refine ⟨List.nodup_append.2 ⟨n1,n2,?_⟩,?_⟩
   ·rintro c hc d hd rfl
    obtain ⟨i,e,i1,i2,i3⟩:=m2 c hd
    exact h.dj (2000000+j) i e0 e h1 i2 (by omega) c (m1 c hc) i3
   ·intro b hb
    rcases List.mem_append.1 hb with hb|hb
    ·exact ⟨_,e0,Nat.le_refl _,h1,m1 b hb⟩
    ·obtain ⟨i,e,i1,i2,i3⟩:=m2 b hb; exact ⟨i,e,by omega,i2,i3⟩
  cases k with
  | v t=>obtain ⟨Lo,k1,k2⟩:=plain hp hz; exact ⟨Lo,⟨v,us,rfl,k1⟩,k2⟩
  | rd t=>obtain ⟨Lo,k1,k2⟩:=plain hp hz; exact ⟨Lo,⟨v,us,rfl,k1⟩,k2⟩
  | s4 f ts=>obtain ⟨Lo,k1,k2⟩:=plain hp hz; exact ⟨Lo,⟨v,us,rfl,k1⟩,k2⟩
  | R4=>obtain ⟨Lo,k1,k2⟩:=plain hp hz; exact ⟨Lo,⟨v,us,rfl,k1⟩,k2⟩
  | X5 f n=>obtain ⟨Lo,k1,k2⟩:=plain hp hz; exact ⟨Lo,⟨v,us,rfl,k1⟩,k2⟩
  | el q=>obtain ⟨Lo,k1,k2⟩:=plain hp hz; exact ⟨Lo,⟨v,us,rfl,k1⟩,k2⟩
  | own t=>obtain ⟨Lo,k1,k2⟩:=plain hp hz; exact ⟨Lo,⟨v,us,rfl,k1⟩,k2⟩
  | rw t =>
   obtain ⟨b0,off0,O0,rfl,_,_,_⟩:=hk
   simp only [a0v] at hz
   split at hz
   ·rename_i u x' y' hob hz'
    split at hz
    ·rename_i hu
     cases hz
     subst hu
     have hob:look (2000000+j) s.hp=some (.var u x'):=hob
     obtain ⟨Lo,k1,k2,k3⟩:=a29 h hK (fun q hq=>hp q (by simp only [J5]; exact List.mem_cons_of_mem _ hq)) hz'
     obtain ⟨_,_,p3,p4⟩:=h.pin (2000000+j,(b0,off0),[]) (hp _ (by simp [J5]))
     have p3:ι.root (2000000+j)=(b0,off0):=p3
     obtain ⟨⟨O,hO,hR⟩,hfr,hnd⟩:=(h.ob _ _ hob:OB w.heap S ι (2000000+j) (.var u x'))
     rw [p3] at hR hfr hnd
     have hnd':(b0::O).Nodup:=List.nodup_cons.2 ⟨fun hb=>(List.nodup_cons.1 hnd).1 (hO.mem_iff.1 hb),hO.nodup_iff.2 (List.nodup_cons.1 hnd).2⟩
     obtain ⟨j1,j2⟩:=join hob hnd' (fun b hb=>by
      rcases List.mem_cons.1 hb with rfl|hb
      ·simp [l6,p3]
      ·simp [l6,hO.mem_iff.1 hb]) k2 k3
     exact ⟨(b0::O)++Lo,⟨b0,off0,O,us,Lo,rfl,hR,hfr,rfl,k1⟩,j1,j2⟩
    ·cases hz
   ·cases hz
  | mu t =>
   obtain ⟨cs0,rfl,hR0⟩:=hk
   simp only [a0v] at hz
   split at hz
   ·rename_i u x' y' hob hz'
    split at hz
    ·rename_i hu
     cases hz
     subst hu
     have hob:look (2000000+j) s.hp=some (.own (.d0 true t) x'):=hob
     obtain ⟨Lo,k1,k2,k3⟩:=a29 h hK (fun q hq=>hp q (by simp only [J5]; exact List.mem_cons_of_mem _ hq)) hz'
     obtain ⟨_,_,p3,p4⟩:=h.pin (2000000+j,(0,0),[j8 (.d0 true t) cs0]) (hp _ (by simp [J5]))
     have p4:ι.cells (2000000+j)=[j8 (.d0 true t) cs0]:=p4
     obtain ⟨⟨O,hO,hR⟩,hnd⟩:=(h.ob _ _ hob:OB w.heap S ι (2000000+j) (.own (.d0 true t) x'))
     rw [p4] at hR
     obtain ⟨j1,j2⟩:=join hob (hO.nodup_iff.2 hnd) (fun b hb=>hO.mem_iff.1 hb) k2 k3
     exact ⟨O++Lo,⟨[j8 (.d0 true t) cs0],O,us,Lo,rfl,rfl,hR,rfl,k1⟩,j1,j2⟩
    ·cases hz
   ·cases hz

end
end Go.Ex
