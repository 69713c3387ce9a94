import Derived.Test.YtekbamiaenbhjaaExK7

namespace Go.Ex

section
variable {E:Env} {ops:Array Oper} {B:B6} {S:Nat→Prop} {ι:Ix} {s:St} {a:Act} {w:World}

theorem a1V {s t:St} (he:D3 s t) (h:RS B S ι s a w):RS B S ι t a w:=by
 have hvx:∀ {v:AV} {vs:List Value},VX w.heap S ι s.hp v vs→VX w.heap S ι t.hp v vs:=by
  intro v vs hv
  exact VX.other (fun i _=>(he.2 i).symm) (fun i _=>A3.refl ι i) hv
 exact ⟨⟨h.hs.os,h.hs.tape,h.hs.out,h.hs.size,h.hs.frame,h.hs.slt,h.hs.s0,h.hs.s1,fun i e hi=>h.hs.ob i e ((he.2 i).trans hi),fun i e hi=>h.hs.bl i e ((he.2 i).trans hi),fun i j ei ej hi hj=>h.hs.dj i j ei ej ((he.2 i).trans hi) ((he.2 j).trans hj),fun q hq=>by obtain ⟨r1,⟨e,r2⟩,r3⟩:=h.hs.pin q hq; exact ⟨r1,⟨e,(he.2 q.1).symm.trans r2⟩,r3⟩⟩,h.X3,h.sz,
  fun m v hv=>hvx (h.fr m v ((he.1 m).trans hv))⟩

theorem RS.forget (h:RS B S ι s a w) (d:Nat):RS B S ι { s with fr:=Ex.put d .any s.fr } a w:=by
 refine ⟨h.hs,h.X3,h.sz,fun t v hv=>?_⟩
 rw [l7] at hv
 split at hv
 ·cases hv; exact ⟨_,rfl⟩
 ·exact h.fr t v hv

theorem RS.F2:∀ {l:List Oper} {s:St},RS B S ι s a w→RS B S ι (Ex.F2 l s) a w
 | [],s,h=>h
 | o::l,s,h=>by
  unfold Ex.F2
  split
  ·split
   ·exact RS.F2 (h.forget _)
   ·exact RS.F2 h
  ·exact RS.F2 h

theorem a02 {m:Nat}:∀ {l:List Oper} {s:St},look m (Ex.F2 l s).fr=look m s.fr∨look m (Ex.F2 l s).fr=some .any
 | [],s=>.inl rfl
 | o::l,s=>by
  unfold Ex.F2
  split
  ·split
   ·rename_i d _ _
    rcases a02 (m:=m) (l:=l) (s:={ s with fr:=Ex.put d .any s.fr }) with h|h
    ·rw [l7] at h
     split at h
     ·exact .inr h
     ·exact .inl h
    ·exact .inr h
   ·exact a02
  ·exact a02

theorem a1I {o:Oper} {c:Call} {d:Nat} (hop:o.op=.call c) (hc:c.callee=.builtin .append) (hd:o.dst=some d):∀ {l:List Oper} {s:St},o∈l→look d (Ex.F2 l s).fr=some .any
 | [],_,h=>by cases h
 | x::l,s,h=>by
  unfold Ex.F2
  rcases List.mem_cons.1 h with rfl|h
  ·rw [hop]
   simp only [hc,hd]
   rcases a02 (m:=d) (l:=l) (s:={ s with fr:=Ex.put d .any s.fr }) with h|h
   ·rw [h,l7,if_pos rfl]
   ·exact h
  ·split
   ·split
    ·exact a1I hop hc hd h
    ·exact a1I hop hc hd h
   ·exact a1I hop hc hd h

/-! ### what is quiet -/
theorem b5A (hE:w5 E B) (h:RS B S ι s a w) {o:Oper} {T:TypeId} {x:Operand} (ho:o.op=.load T x) {v:AV} {s':St} (hl:M7 E T (s.ev x) s=.ok v s') :
  s'=s∧∃ val,(execOp a.eval o).run E.P w=.ok (.value val) w∧VX w.heap S ι s.hp v [val]:=by
 have he:execOp a.eval o=(do pure (.value (← Instr.loadAt T (a.eval x)))):=by simp [execOp,ho]
 have hv:=h.ev x
 unfold M7 at hl
 split at hl
 ·rename_i t y hx
  rw [hx] at hv
  obtain ⟨b,off,e,hb,hr,hR⟩:=hv
  split at hl
  ·rename_i hc
   cases hl
   have e:a.eval x=.pointer (some ⟨b,off,none⟩):=by simpa using e
   refine ⟨rfl,j8 t (d8 w.heap b off t.size),E3 he (w':=w) ?_,_,rfl,hR⟩
   rw [e]
   simp [Instr.loadAt,Instr.sureAddr,X5 (x7 hE hc) hR]
  ·cases hl
 ·rename_i l hx
  rw [hx] at hv
  split at hl
  ·rename_i ht
   cases hl
   obtain ⟨val,k1,k2⟩:=b20 (hE:=hE) ht hv
   exact ⟨rfl,val,E3 he k1,k2⟩
  ·cases hl
 ·rename_i i p hx
  rw [hx] at hv
  obtain ⟨e,b,off,h1,h2,h3,h4⟩:=hv
  have h4:a.eval x=.pointer (some ⟨b,off,none⟩):=by simpa using h4
  split at hl
  ·rename_i u y hpt
   have hg:=E0 h1 hpt
   obtain ⟨O2,k1,k2,k3,k4,k5⟩:=G7 (F8 h3) (h.hs.ob i e h1) h.hs.slt h2 hg h3
   split at hl
   ·rename_i hc
    have hr:(Instr.loadAt T (a.eval x)).run E.P w=.ok (j8 u (d8 w.heap b off u.size)) w:=by
     rw [h4]; simp [Instr.loadAt,Instr.sureAddr,X5 (x7 hE hc) k3]
    split at hl
    ·rename_i hs
     cases hl
     have:=k3.H6 hs
     subst this
     exact ⟨rfl,_,E3 he hr,_,rfl,k3⟩
    ·cases hl
     have hp:=t6 h3
     exact ⟨rfl,_,E3 he hr,e,u,y,_,h1,h2,hg,⟨b,off,hp.1,(j7 (C7 hp.2) _ _).symm⟩,rfl⟩
   ·cases hl
  ·cases hl
 ·cases hl

theorem b5t (hE:w5 E B) (h:RS B S ι s a w) {o:Oper} (hq:quiet o=true) {p:Prop} {s1:St} (hr:s8 E ops o s=some (p,s1)) (hp:p) :
  o.guard=none∧A5 E.nt o.dst=true∧∃ v val,s1=s.put o.dst v∧(execOp a.eval o).run E.P w=.ok (.value val) w∧VX w.heap S ι s.hp v [val]:=by
 simp only [quiet,Bool.and_eq_true,Option.isNone_iff_eq_none] at hq
 obtain ⟨hg,hq⟩:=hq
 unfold s8 at hr
 rw [hg] at hr
 simp only at hr
 unfold G9 at hr
 split at hr
 ·cases hr
 ·rename_i hd
  refine ⟨hg,hd,?_⟩
  have key:∀ (r:OR),(match r.get with|none=>none|some (p,v,s')=>some (p,s'.put o.dst v))=some (p,s1)→a5B E.P S ι o a w s r→∃ v val,s1=s.put o.dst v∧(execOp a.eval o).run E.P w=.ok (.value val) w∧VX w.heap S ι s.hp v [val]:=by
   intro r hr hpr
   cases r with
   | fail why=>cases hr
   | ok v s' =>
    simp only [OR.get,Option.some.injEq,Prod.mk.injEq] at hr
    obtain ⟨e1,val,k1,k2⟩:=hpr
    exact ⟨v,val,by rw [← hr.2,e1],k1 w,k2⟩
   | C1 p' v s' =>
    simp only [OR.get,Option.some.injEq,Prod.mk.injEq] at hr
    obtain ⟨e1,val,k1,k2⟩:=hpr (by rw [hr.1]; exact hp)
    exact ⟨v,val,by rw [← hr.2,e1],k1 w,k2⟩
  split at hq
  ·rename_i x ho
   rw [ho] at hr
   simp only [l4,ho,OR.get,Option.some.injEq,Prod.mk.injEq] at hr
   exact ⟨s.ev x,a.eval x,hr.2.symm,by simp [execOp,ho],h.ev x⟩
  ·rename_i T x ho
   rw [ho] at hr
   simp only [l4,ho] at hr
   cases hl:M7 E T (s.ev x) s with
   | fail y=>rw [hl] at hr; cases hr
   | ok v s' =>
    rw [hl] at hr
    simp only [OR.get,Option.some.injEq,Prod.mk.injEq] at hr
    obtain ⟨e1,val,k1,k2⟩:=b5A hE h ho hl
    exact ⟨v,val,by rw [← hr.2,e1],k1,k2⟩
   | C1 p' v s' =>
    exfalso
    unfold M7 at hl
    repeat' split at hl
    all_goals cases hl
  ·rename_i T x n ho
   have:=a0S hE h (o:=o) (by rw [ho]; rfl)
   rw [ho] at hr
   exact key _ hr this
  ·rename_i T x n ho
   have:=a0S hE h (o:=o) (by rw [ho]; rfl)
   rw [ho] at hr
   exact key _ hr this
  ·rename_i x ho
   have:=a0S hE h (o:=o) (by rw [ho]; rfl)
   rw [ho] at hr
   exact key _ hr this
  ·cases hq

theorem b5u {o:Oper} (hq:quiet o=true) {p:Prop} {s1:St} (hr:s8 E ops o s=some (p,s1)):∃ v,s1=s.put o.dst v:=by
 simp only [quiet,Bool.and_eq_true,Option.isNone_iff_eq_none] at hq
 obtain ⟨hg,hq⟩:=hq
 unfold s8 at hr
 rw [hg] at hr
 simp only at hr
 unfold G9 at hr
 split at hr
 ·cases hr
 ·rename_i hd
  have key:∀ (r:OR) (t:St),(∀ v s',r=.ok v s'→s'=s)→(∀ p v s',r=.C1 p v s'→s'=s)→(match r.get with|none=>none|some (p,v,s')=>some (p,s'.put o.dst v))=some (p,s1)→∃ v,s1=s.put o.dst v:=by
   intro r t h1 h2 hr
   cases r with
   | fail why=>cases hr
   | ok v s' =>
    simp only [OR.get,Option.some.injEq,Prod.mk.injEq] at hr
    exact ⟨v,by rw [← hr.2,h1 v s' rfl]⟩
   | C1 p' v s' =>
    simp only [OR.get,Option.some.injEq,Prod.mk.injEq] at hr
    exact ⟨v,by rw [← hr.2,h2 p' v s' rfl]⟩
  split at hq
  ·rename_i x ho
   rw [ho] at hr
   refine key _ s ?_ ?_ hr<;>(intros; simp_all [l4])
  ·rename_i T x ho
   rw [ho] at hr
   refine key _ s ?_ ?_ hr
   ·intro v s' e
    simp only [l4,ho] at e
    unfold M7 at e
    repeat' split at e
    all_goals (cases e; try rfl)
   ·intro q v s' e
    simp only [l4,ho] at e
    unfold M7 at e
    repeat' split at e
    all_goals (cases e; try rfl)
  ·rename_i T x n ho
   rw [ho] at hr
   refine key _ s ?_ ?_ hr
   ·intro v s' e
    simp only [l4,ho] at e
    repeat' split at e
    all_goals (cases e; try rfl)
   ·intro q v s' e
    simp only [l4,ho] at e
    repeat' split at e
    all_goals (cases e; try rfl)
  ·rename_i T x n ho
   rw [ho] at hr
   refine key _ s ?_ ?_ hr
   ·intro v s' e
    simp only [l4,ho] at e
    repeat' split at e
    all_goals (cases e; try rfl)
   ·intro q v s' e
    simp only [l4,ho] at e
    repeat' split at e
    all_goals (cases e; try rfl)
  ·rename_i x ho
   rw [ho] at hr
   refine key _ s ?_ ?_ hr
   ·intro v s' e
    simp only [l4,ho] at e
    repeat' split at e
    all_goals (cases e; try rfl)
   ·intro q v s' e
    simp only [l4,ho] at e
    repeat' split at e
    all_goals (cases e; try rfl)
  ·cases hq

/-! ### a store of a plain value between an append and its own store -/
theorem b2B {o:Oper} (hg:o.guard=none) {T:TypeId} {a x:Operand} (ho:o.op=.store T a x) {j:Nat} {q:List Step} {v:Ty} {z:v.den} (ha:s.ev a=.ptr j q) (hx:s.ev x=.val v z) {p:Prop} {s1:St} (h:s8 E ops o s=some (p,s1)) :
  ∃ (e:g9) (r:Sigma Ty.den) (u:Ty) (y:u.den),A5 E.nt o.dst=true∧look j s.hp=some e∧n6 e.ty e.x q (H2 u ⟨v,z⟩).1 (H2 u ⟨v,z⟩).2=some r∧(i6 e.ty e.x q=some ⟨u,y⟩∧E9 E T u=true)∧s1=((s.kill j e.kd q).p9 j (e.x8 r)).put o.dst (.raw undef):=by
 have hr:∀ t,s8 E ops o t=G9 E o t:=fun t=>by unfold s8; rw [hg]
 rw [hr] at h
 have hop:∀ t,l4 E o t=(match t.ev a with|.ptr i p=>E7 E T i p (t.ev x) t|_=>.fail "store"):=fun t=>by unfold l4; rw [ho]; rfl
 have hrun:∀ t,G9 E o t=(match A5 E.nt o.dst with|false=>none|true=>match (l4 E o t).get with|none=>none|some (p,v,s')=>some (p,s'.put o.dst v)):=fun t=>by unfold G9; rw [ho]; rfl
 rw [hrun] at h
 split at h
 ·cases h
 ·rename_i hd
  rw [hop,ha] at h
  simp only at h
  rw [hx] at h
  cases hob:look j s.hp with
  | none =>
   have:E7 E T j q (.val v z) s=.fail "store: object":=by unfold E7 St.obj; rw [hob]
   rw [this] at h; cases h
  | some e =>
   cases hgp:i6 e.ty e.x q with
   | none =>
    have:E7 E T j q (.val v z) s=.fail "store: path":=by unfold E7 St.obj; rw [hob]; simp only [hgp]
    rw [this] at h; cases h
   | some uy =>
    obtain ⟨u,y⟩:=uy
    cases hc:E9 E T u with
    | false =>
     have:E7 E T j q (.val v z) s=.fail "store: type":=by unfold E7 St.obj; rw [hob]; simp only [hgp,hc]
     rw [this] at h; cases h
    | true =>
     have hsA:E7 E T j q (.val v z) s=(match n6 e.ty e.x q (H2 u ⟨v,z⟩).1 (H2 u ⟨v,z⟩).2 with
       | some r=>.ok (.raw undef) ((s.kill j e.kd q).p9 j (e.x8 r))
       | none=>.fail "store: value"):=by
      unfold E7 St.obj; rw [hob]; simp only [hgp,hc,AV.U5,AV.N3,St.r8]
      cases n6 e.ty e.x q (H2 u ⟨v,z⟩).1 (H2 u ⟨v,z⟩).2 with
      | none=>rfl
      | some r=>rfl
     rw [hsA] at h
     cases hset:n6 e.ty e.x q (H2 u ⟨v,z⟩).1 (H2 u ⟨v,z⟩).2 with
     | none=>rw [hset] at h; cases h
     | some r =>
      rw [hset] at h
      simp only [OR.get,Option.some.injEq,Prod.mk.injEq] at h
      obtain ⟨rfl,rfl⟩:=h
      exact ⟨e,r,u,y,hd,rfl,hset,⟨hgp,hc⟩,rfl⟩

theorem b67 (hE:w5 E B) (hn:B.n=E.nt) (h:RS B S ι s a w) {o:Oper} (hg:o.guard=none) {T:TypeId} {ad x:Operand} (ho:o.op=.store T ad x) {j:Nat} {q:List Step} {v:Ty} {z:v.den} (ha:s.ev ad=.ptr j q) (hx:s.ev x=.val v z) {p:Prop} {s1:St} (hr:s8 E ops o s=some (p,s1)) :
  ∃ ι' w',(execOp a.eval o).run E.P w=.ok .skip w'∧RS B S ι' s1 (a.put o.dst undef) w'∧∀ {g:List Nat} {i:Nat} {e:g9} {p0:List Step} {t0:Ty} {l m:List t0.den} {b off:Nat} {v':Value},i≠j→j∉g→look i s.hp=some e→t8 e.ty e.x p0→i6 e.ty e.x p0=some ⟨.d0 true t0,l⟩→a7a B S ι s.hp g i e p0 t0 l m b off v' w→a7a B S ι' s1.hp g i e p0 t0 l m b off v' w':=by
 obtain ⟨ej,r,u,y,hd,hob,hset,⟨hgp,hck⟩,rfl⟩:=b2B hg ho ha hx hr
 have hadr:=h.ev ad
 rw [ha] at hadr
 obtain ⟨e',b0,off0,c1,hok,hl,c4⟩:=hadr
 rw [hob] at c1; cases c1
 have c4:a.eval ad=.pointer (some ⟨b0,off0,none⟩):=by simpa using c4
 have hval:=h.ev x
 rw [hx] at hval
 obtain ⟨cs,hv1,hz⟩:=hval
 have hv1:a.eval x=j8 v cs:=by simpa using hv1
 obtain ⟨hz,hagg⟩:=b0T (u:=u) (q:=⟨v,z⟩) hz
 rw [← a2q hagg] at hv1
 generalize (H2 u ⟨v,z⟩)=fz at hset hz hagg hv1
 obtain ⟨v,z⟩:=fz
 dsimp only at hset hz hv1
 have hnb:=F8 hl
 obtain ⟨Op,m1,mn,m2,m3,m4,m5⟩:=G7 hnb (h.hs.ob j ej hob) h.hs.slt hok hgp hl
 have hsh:=a1Y hgp hset
 have hnS:¬ S b0:=(h.hs.bl j ej hob b0 m4).1
 have hcs:cs.length=u.size:=by rw [hz.length,D9 hsh]
 obtain ⟨ι',⟨O,rfl,hO⟩,h1⟩:=h.a7r hob hok hgp hl (u':=v) (z:=z) (cs:=cs) (O2:=[]) (fun H' hsz hc=>hz.o8 (fun c hc'=>hc.rest c (by
   rintro rfl
   rcases hc' with hc'|hc'
   ·cases hc'
   ·exact hnS hc') (by
   rcases hc' with hc'|hc'
   ·cases hc'
   ·exact h.hs.slt c hc')) (fun _ h=>h)) hcs List.nodup_nil (by simp) hset (fun how _=>b0o hset (b2T hl how))
 have hrun:(execOp a.eval o).run E.P w=.ok .skip (w.setRow b0 (B3 (p8 w.heap b0) off0 cs).toArray):=by
  simp [execOp,ho,c4,hv1,Instr.storeAt,Instr.sureAddr,a0Z (x7 hE hck) hsh m5 hz]
 refine ⟨_,_,hrun,h1.put (by rw [hn]; exact hd) (v:=.raw undef) (val:=undef) rfl,?_⟩
 rintro g i e p0 t0 l m b off v' hij hjg hi hok0 hg0 ⟨O',k1,k2,k3,k4,k5⟩
 have hold:∀ c,c≠b0→(w.setRow b0 (B3 (p8 w.heap b0) off0 cs).toArray).heap[c]?=w.heap[c]?:=fun c hc=>setRow_other hc
 have hsame:A3 ι (ι.w6 j O) i:=N4 hij O
 have hnbi:=F8 k1
 have hbO:b0∉O':=fun hc=>(k5 b0 hc).2.1 j ej (Ne.symm hij) hjg hob m4
 refine ⟨O',?_,k2.o8 (fun c hc=>hold c (by
   rintro rfl
   rcases hc with hc|hc
   ·exact hbO hc
   ·exact hnS hc)) (fun _ h=>h),k3,k4,fun c hc=>⟨?_,fun k ek hk hkg hlk=>?_,fun hci=>?_⟩⟩
 ·rw [hsame.loc]
  exact a2n hnbi (h.hs.ob i e hi) h.hs.slt (fun c hc=>hold c (by rintro rfl; exact h.hs.dj i j e ej hi hob hij c hc m4)) hok0 k1
 ·obtain ⟨f1,f2,f3⟩:=(k5 c hc).1
  exact ⟨f1,f2,by rw [setRow_size]; exact f3⟩
 ·rw [F7] at hlk
  simp only [St.p9,l7] at hlk
  by_cases hkj:k=j
  ·subst hkj
   rw [if_pos rfl] at hlk; cases hlk
   intro hcb
   refine (k5 c hc).2.1 k ej hk hkg hob ?_
   cases ej with
   | var t1 x1 =>
    simp only [i9,g9.x8,Ix.w6,if_true,List.mem_cons] at hcb ⊢
    rcases hcb with hcb|hcb
    ·exact .inl hcb
    ·rcases (hO c hcb).1 with h9|h9
     ·exact .inr h9
     ·cases h9
   | own t1 x1 =>
    simp only [i9,g9.x8,Ix.w6,if_true] at hcb ⊢
    rcases (hO c hcb).1 with h9|h9
    ·exact h9
    ·cases h9
   | G1=>exact absurd rfl hnb
  ·rw [if_neg hkj] at hlk
   rw [(N4 hkj O).i9]
   exact (k5 c hc).2.1 k ek hk hkg hlk
 ·rw [hsame.i9] at hci
  obtain ⟨Op',o1,o2⟩:=(k5 c hc).2.2 hci
  obtain ⟨O3,n1,_,n3,_,n5,_⟩:=G7 hnbi (h.hs.ob i e hi) h.hs.slt hok0 hg0 k1
  have hbi:b0≠b:=by
   rintro rfl
   exact h.hs.dj i j e ej hi hob hij b0 n5 m4
  have hO3:O3=Op':=n3.det o1
  have hOpi:∀ c'∈Op',c'≠b0:=by
   rintro c' hc' rfl
   rw [← hO3] at hc'
   exact h.hs.dj i j e ej hi hob hij c' (C4 (n1 c' hc')) m4
  refine ⟨Op',?_,o2⟩
  rw [j7 (hold b hbi.symm)]
  exact o1.o8 (fun c' hc'=>hold c' (by
   rintro rfl
   rcases hc' with hc'|hc'
   ·exact hOpi _ hc' rfl
   ·exact hnS hc')) (fun _ h=>h)

theorem a0i {T:List Nat} {f:AV→AV} (hf:Trim T f) {u v:AV} (h:f u=v) (hv:v.ref=true∨(v.plain=true∧v≠.any)):u=v:=by
 cases u with
 | cons a b=>rw [hf.cons] at h; subst h; rcases hv with hv|⟨hv,_⟩<;>cases hv
 | G4 l=>rw [hf.G4] at h; subst h; rcases hv with hv|⟨hv,_⟩<;>cases hv
 | s5 g l=>rw [hf.s5] at h; subst h; rcases hv with hv|⟨hv,_⟩<;>cases hv
 | bx l=>rw [hf.bx] at h; subst h; rcases hv with hv|⟨hv,_⟩<;>cases hv
 | rc g l=>rw [hf.rc] at h; subst h; rcases hv with hv|⟨hv,_⟩<;>cases hv
 | ptr i p=>rcases hf.atom _ (rfl:(AV.ptr i p).ref=true) with e|e<;>rw [e] at h<;>first|exact h|(subst h; rcases hv with hv|⟨_,hv⟩<;>first|cases hv|exact absurd rfl hv)
 | at_ i p=>rcases hf.atom _ (rfl:(AV.at_ i p).ref=true) with e|e<;>rw [e] at h<;>first|exact h|(subst h; rcases hv with hv|⟨_,hv⟩<;>first|cases hv|exact absurd rfl hv)
 | sub i p x y=>rcases hf.atom _ (rfl:(AV.sub i p x y).ref=true) with e|e<;>rw [e] at h<;>first|exact h|(subst h; rcases hv with hv|⟨_,hv⟩<;>first|cases hv|exact absurd rfl hv)
 | _=>rw [hf.plain _ rfl] at h; exact h

theorem b4J {u:Ty} {v:AV} {r:Sigma fun t:Ty=>List t.den} {g:List Nat} (h:v.U4 s u=some (r,g)):v.ref=true∨(v.plain=true∧v≠.any):=by
 cases v with
 | ptr i p=>exact .inl rfl
 | at_ i p=>exact .inl rfl
 | sub i p x y=>exact .inl rfl
 | raw v=>exact .inr ⟨rfl,by intro h; cases h⟩
 | val t x=>exact .inr ⟨rfl,by intro h; cases h⟩
 | s9 t x=>exact .inr ⟨rfl,by intro h; cases h⟩
 | nil=>exact .inr ⟨rfl,by intro h; cases h⟩
 | _=>exfalso; simp [AV.U4,AV.els] at h

theorem a8Z {M:List Nat} {q:Y8} {n:Nat} (h:a7Q ops M q n s=true) {j:Nat} (hj:j<n) (hjk:j≠q.k) {o:Oper} (ho:ops[j]?=some o):(M.getD q.k 0).testBit j=true∨quiet o=true∨a2I ops q n j o s=true:=by
 simp only [a7Q,List.all_eq_true,List.mem_range] at h
 have:=h j hj
 simp only [Bool.or_eq_true,ho] at this
 rcases this with h|(h|h)|h
 ·exact absurd (Nat.eq_of_beq_eq_true h) hjk
 ·exact .inl h
 ·exact .inr (.inl h)
 ·exact .inr (.inr h)

theorem a6r {q:Y8} {n j:Nat} {o:Oper} (h:a2I ops q n j o s=true):o.guard=none∧o.dst=none∧∃ T ad x j0 q0 v z,o.op=.store T ad x∧s.ev ad=.ptr j0 q0∧s.ev x=.val v z∧(s.ev q.x).f9 j0=false∧(s.ev q.y).f9 j0=false∧∀ j',j<j'→j'<n→∀ o',ops[j']?=some o'→∀ d,o'.dst=some d→d∉looks ops o:=by
 unfold a2I at h
 split at h
 ·rename_i T ad x ho
  simp only [Bool.and_eq_true] at h
  obtain ⟨⟨⟨h1,hg⟩,hd⟩,h2⟩:=h
  split at h1
  ·rename_i j0 q0 v z ha hx
   simp only [Bool.and_eq_true,Bool.not_eq_true'] at h1
   refine ⟨by simpa using hg,by simpa using hd,T,ad,x,j0,q0,v,z,ho,ha,hx,h1.1,h1.2,fun j' hj hj' o' ho' d hd hm=>?_⟩
   simp only [List.all_eq_true,List.mem_range] at h2
   have:=h2 j' hj'
   rw [Bool.or_eq_true] at this
   rcases this with h9|h9
   ·have:=Nat.le_of_ble_eq_true h9; omega
   ·rw [ho'] at h9
    simp [a5Z,hd,hm] at h9
  ·cases h1
 ·cases h

theorem Trim.a4l {T T':List Nat} {f g:AV→AV} (hf:Trim T f) (hg:Trim T' g):Trim (T++T') (fun u=>g (f u)):=by
 refine ⟨fun a b=>by rw [hf.cons,hg.cons],fun l=>by rw [hf.G4,hg.G4],fun k l=>by rw [hf.s5,hg.s5],fun l=>by rw [hf.bx,hg.bx],fun k l=>by rw [hf.rc,hg.rc],fun u hu=>?_,fun u hu h=>?_,fun u hu=>by rw [hf.plain u hu,hg.plain u hu]⟩
 ·rcases hf.atom u hu with e|e
  ·rw [e]; exact hg.atom u hu
  ·rw [e]; exact .inr (hg.plain _ rfl)
 ·rw [hf.a47 u hu (fun i hi=>h i (List.mem_append_left _ hi)),hg.a47 u hu (fun i hi=>h i (List.mem_append_right _ hi))]

theorem a8w {J:List Nat} {F:AV→AV} (hF:Trim J F) {s t:St} {z:Operand} (h:∀ m,z=.tmp m→look m t.fr=(look m s.fr).map F):t.ev z=F (s.ev z):=by
 cases z with
 | tmp m =>
  have hg:t.get m=F (s.get m):=by
   simp only [St.get,h m rfl]
   cases look m s.fr with
   | none=>exact (hF.plain _ rfl).symm
   | some v=>rfl
  rw [a10,a10]
  unfold gq
  cases Nat.beq m F1 with
  | true=>exact (hF.plain _ rfl).symm
  | false=>exact hg
 | const c=>exact (hF.fix _ (fun i _=>Z8 c i)).symm
 | global g=>exact (hF.plain _ rfl).symm
 | func f=>exact (hF.fix _ (fun i _=>rfl)).symm

theorem a26 {M:Nat→Nat} {q:Y8} {n:Nat} {sF:St}:∀ {l:List Nat} {acc:List (Nat×St)} {s s':St},Q8 E ops M acc l s s'→D3 s' sF→uniq s.fr→l.Pairwise (·<·)→(∀ j∈l,j<n)→(∀ j∈l,∀ o,ops[j]?=some o→quiet o=true∨a2I ops q n j o sF=true) →
  ∃ (J:List Nat) (f:AV→AV),Trim J f∧(∀ j∈J,(sF.ev q.x).f9 j=false∧(sF.ev q.y).f9 j=false)∧(∀ i,i∉J→look i s'.hp=look i s.hp)∧∀ m,(∀ j∈l,∀ o,ops[j]?=some o→o.dst≠some m)→look m s'.fr=(look m s.fr).map f
 | [],acc,s,s',h,_,_,_,_,_=>by
  obtain rfl:s=s':=h
  exact ⟨[],fun u=>u,Trim.id _,by simp,fun _ _=>rfl,fun m _=>by simp⟩
 | j::l,acc,s,s',⟨o,ho,_,p,s1,h1,_,h2⟩,hev,hu,hpw,hlt,hq=>by
  obtain ⟨hpw1,hpw2⟩:=List.pairwise_cons.1 hpw
  obtain ⟨J,f,k1,k2,k3,k4⟩:=a26 h2 hev (B4 hu h1) hpw2 (fun j' hj'=>hlt j' (by simp [hj'])) (fun j' hj'=>hq j' (by simp [hj']))
  rcases hq j (by simp) o ho with hqt|hls
  ·obtain ⟨v,rfl⟩:=b5u hqt h1
   refine ⟨J,f,k1,k2,fun i hi=>(k3 i hi).trans (by rw [F7]),fun m hm=>?_⟩
   rw [k4 m (fun j' hj'=>hm j' (by simp [hj'])),C5,if_neg (hm j (by simp) o ho)]
  ·obtain ⟨hg,hdn,T,ad,x,j0,q0,v,z,g1,g2,g3,g4,g5,g6⟩:=a6r hls
   -- what the store saw
   obtain ⟨v0,ids,f0,h0,z1,z2,z3,z4,z5⟩:=T4 (ops:=ops) hu h1
   obtain ⟨s1',y1,_,y2⟩:=z5 s hu ((D3.refl s).a0A _ _) z2
   rw [h1] at y1; cases y1
   have hsee:∀ y,y∈o.op.operands.toList→sF.ev y=f (f0 (s.ev y)):=by
    intro y hy
    refine a8w (z1.a4l k1) (fun m hm=>?_)
    subst hm
    have hml:=I1 (ops:=ops) hy
    rw [← hev.1 m,k4 m (fun j' hj' o' ho' hd'=>g6 j' (hpw1 j' hj') (hlt j' (by simp [hj'])) o' ho' m hd' hml),y2.fr,if_neg (by rw [hdn]; intro h; cases h)]
    cases look m s.fr<;>rfl
   have ha:s.ev ad=.ptr j0 q0:=a0i (z1.a4l k1) ((hsee ad (by rw [g1]; simp [Op.operands])).symm.trans g2) (.inl rfl)
   have hx:s.ev x=.val v z:=a0i (z1.a4l k1) ((hsee x (by rw [g1]; simp [Op.operands])).symm.trans g3) (.inr ⟨rfl,by intro h; cases h⟩)
   obtain ⟨e,r,_,_,_,_,_,_,rfl⟩:=b2B hg g1 ha hx h1
   refine ⟨[j0]++J,fun u=>f (AV.kill j0 e.kd q0 u),(Trim.kill j0 e.kd q0).a4l k1,fun i hi=>?_,fun i hi=>?_,fun m hm=>?_⟩
   ·rcases List.mem_append.1 hi with hi|hi
    ·rw [List.mem_singleton] at hi; subst hi; exact ⟨g4,g5⟩
    ·exact k2 i hi
   ·rw [k3 i (fun h=>hi (List.mem_append_right _ h)),F7]
    simp only [St.p9,l7]
    rw [if_neg (fun h=>hi (List.mem_append_left _ (by simp [h])))]
    rfl
   ·rw [k4 m (fun j' hj'=>hm j' (by simp [hj'])),C5,if_neg (hm j (by simp) o ho)]
    have e1:look m ((s.kill j0 e.kd q0).p9 j0 (e.x8 r)).fr=(look m s.fr).map (AV.kill j0 e.kd q0):=E5 m _ _
    rw [e1]
    cases look m s.fr<;>rfl

/-! ### what the check of a pending append says -/
theorem a4Y {M:List Nat} {k n:Nat} (h:a7F ops M k n=true):n+1=ops.size∧k<n∧∃ ok,ops[k]?=some ok∧∀ j,j<n→(M.getD n 0).testBit j=true∧(j≠k→∃ o,ops[j]?=some o∧(∀ d,ok.dst=some d→o.dst≠some d) ∧
  ((M.getD k 0).testBit j=true∨((quiet o=true∨b0L o=true)∧∀ d,o.dst=some d→d∉looks ops ok))):=by
 simp only [a7F,Bool.and_eq_true] at h
 obtain ⟨⟨h1,h2⟩,h3⟩:=h
 have hn:=Nat.eq_of_beq_eq_true h1
 refine ⟨hn,by simpa [Nat.blt_eq] using h2,?_⟩
 split at h3
 ·rename_i ok hok
  refine ⟨ok,hok,fun j hj=>?_⟩
  simp only [List.all_eq_true,List.mem_range] at h3
  have:=h3 j hj
  simp only [Bool.and_eq_true,Bool.or_eq_true] at this
  obtain ⟨m1,m2⟩:=this
  refine ⟨m1,fun hjk=>?_⟩
  rcases m2 with m2|m2
  ·exact absurd (Nat.eq_of_beq_eq_true m2) hjk
  ·split at m2
   ·rename_i o ho
    simp only [Bool.and_eq_true,Bool.or_eq_true] at m2
    refine ⟨o,ho,fun d hd hod=>?_,m2.2.imp id (fun h=>⟨h.1,fun d hd hdl=>?_⟩)⟩
    ·have:=m2.1
     simp only [a5Z,hod,hd,Option.toList] at this
     simp at this
    ·have:=h.2
     simp only [a5Z,hd] at this
     simp [hdl] at this
   ·cases m2
 ·cases h3

theorem a61 {M:List Nat} {q:Y8} {n:Nat} {o:Oper} {s:St} {p:Prop} {s2:St} (h:a8t E ops M q n o s=some (p,s2)):∃ T2 ad s3,o.guard=none∧o.op=.store T2 ad (.tmp q.d)∧(∀ t,ad=.tmp t→t≠q.d)∧(a7F ops M q.k n=true∧a7Q ops M q n s=true)∧A5 E.nt o.dst=true ∧
  a5u E q.T q.U T2 (s.ev q.x) (s.ev q.y) (s.ev ad) q.d s=some (p,s3)∧s2=s3.put o.dst (.raw undef):=by
 unfold a8t at h
 split at h
 ·rename_i T2 ad d' hg hop
  split at h
  ·rename_i hc
   simp only [Bool.and_eq_true] at hc
   obtain ⟨⟨⟨⟨c1,c2⟩,c3⟩,c5⟩,c4⟩:=hc
   obtain rfl:=Nat.eq_of_beq_eq_true c1
   split at h
   ·rename_i p' s3 hs
    cases h
    exact ⟨T2,ad,s3,hg,hop,fun t e=>by subst e; rintro rfl; simp at c2,⟨c3,c5⟩,c4,hs,rfl⟩
   ·cases h
  ·cases h
 ·cases h

theorem a69 (hE:w5 E B) {x y adv:AV} {T U T2:TypeId} {d:Nat} {p:Prop} {s2:St} (hb:a5u E T U T2 x y adv d s=some (p,s2)) (hp:p) :
  ∃ i p0 e t0 l m g r q bts,x=.at_ i p0∧adv=.ptr i p0∧look i s.hp=some e∧i∉g∧g.Nodup∧(g.all fun i=>!pinned i)=true∧i6 e.ty e.x p0=some ⟨.d0 true t0,l⟩∧E9 E T2 (.d0 true t0)=true ∧
   n6 e.ty e.x p0 (.d0 true t0) (l++m)=some r∧s2=(((St.r8 g (s.put (some d) .any)).kill i e.kd p0).p9 i (e.x8 r))∧look T E.tt=some ⟨.d0 q t0,bts⟩ ∧
   ((∃ e',E.P.underlying U=some (.slice e'))∨E.P.underlying U=some .string)∧y.U4 s t0=some (⟨t0,m⟩,g)∧l.length+m.length≤140737488355328∧(l.length+m.length)*t0.wb≤140737488355328 ∧
   ((∃ t x,e=.var t x)∨∃ t x j q,e=.own (.d0 true t) x∧p0=.idx j::q):=by
 unfold a5u at hb
 split at hb
 ·rename_i i p0 j q q1 t0 bts u1 bts1 hT hU
  split at hb
  ·rename_i e hob hku
   simp only [Bool.and_eq_true] at hku
   obtain ⟨hij,hku⟩:=hku
   have hij:=Nat.eq_of_beq_eq_true hij
   subst hij
   split at hb
   ·rename_i u l hg
    split at hb
    ·rename_i t m g happ
     split at hb
     ·rename_i hu
      split at hb
      ·rename_i ht
       subst hu; subst ht
       split at hb
       ·rename_i r hset
        split at hb
        ·rename_i hck
         cases hb
         simp only [Bool.and_eq_true,Bool.not_eq_true'] at hck
         obtain ⟨⟨⟨⟨hck,hst⟩,hgi⟩,hgn⟩,hgp⟩:=hck
         obtain ⟨rfl,h63,hby⟩:=hp
         have hgi:i∉g:=by intro hm; simp [hm] at hgi
         have hk:(∃ e',E.P.underlying U=some (.slice e'))∨E.P.underlying U=some .string:=by
          cases u1<;>first|cases hku|skip
          ·exact .inr (M9 (y7 hE hU))
          ·obtain ⟨et,k',f1,_⟩:=C3 (y7 hE hU)
           exact .inl ⟨et,f1⟩
         exact ⟨i,q,e,_,l,m,g,r,_,_,rfl,rfl,hob,hgi,X9 hgn,hgp,hg,hck,hset,rfl,hT,hk,happ,h63,hby,(Z1 hst).2⟩
        ·cases hb
       ·cases hb
      ·cases hb
     ·cases hb
    ·cases hb
   ·cases hb
  ·cases hb
 ·cases hb

theorem B8.cut:∀ {A C:List Oper} {o:Oper},B8 (A++o::C)→B8 (A++C)∧∀ x∈A++C,∀ d,x.dst=some d→o.dst≠some d
 | [],C,o,h=>⟨h.2,fun x hx d hxd hod=>h.1 d hod x hx hxd⟩
 | y::A,C,o,h=>by
  obtain ⟨m1,m2⟩:=B8.cut h.2
  refine ⟨⟨fun d hd x hx=>h.1 d hd x (by simp at hx ⊢; rcases hx with hx|hx<;>simp [hx]),m1⟩,fun x hx d hxd hod=>?_⟩
  rcases List.mem_cons.1 hx with rfl|hx
  ·exact h.1 d hxd o (by simp) hod
  ·exact m2 x hx d hxd hod

theorem B8.sub {f:Nat→Bool}:∀ {l:List Nat},B8 (rem ops l)→B8 (rem ops (l.filter f))
 | [],h=>h
 | i::l,h=>by
  cases ho:ops[i]? with
  | none =>
   have e:rem ops (i::l)=rem ops l:=by simp [rem,ho]
   rw [e] at h
   have:=B8.sub (f:=f) h
   rw [List.filter_cons]
   split
   ·have e:rem ops (i::l.filter f)=rem ops (l.filter f):=by simp [rem,ho]
    rw [e]; exact this
   ·exact this
  | some o =>
   rw [a1o ho] at h
   rw [List.filter_cons]
   split
   ·rw [a1o ho]
    refine ⟨fun d hd x hx=>h.1 d hd x ?_,B8.sub h.2⟩
    obtain ⟨j,hj,hjx⟩:=List.mem_filterMap.1 hx
    exact List.mem_filterMap.2 ⟨j,(List.mem_filter.1 hj).1,hjx⟩
   ·exact B8.sub h.2

theorem a49 {n i:Nat} {listed:Array Bool} {f:Nat→Bool} (hs:listed.size=n) (hi:i∈idxs n listed) (hf:f i=true):∃ pre post,(idxs n listed).filter f=pre++i::post∧(∀ j∈pre,j<i) ∧
  (idxs n (listed.setIfInBounds i true)).filter f=pre++post:=by
 obtain ⟨pre,post,e,h1,h2⟩:=T5 hi
 refine ⟨pre.filter f,post.filter f,by rw [e,List.filter_append,List.filter_cons,if_pos hf],fun j hj=>h1 j (List.mem_filter.1 hj).1,?_⟩
 rw [P7 hs (r7.1 hi).1,h2,List.filter_append]

theorem b5M {n i:Nat} {listed:Array Bool} {f g:Nat→Bool} (hs:listed.size=n) (hi:i<n) (hg:∀ j,g j=(f j && !(j == i))):(idxs n (listed.setIfInBounds i true)).filter f=(idxs n listed).filter g:=by
 rw [P7 hs hi,List.filter_filter]
 exact List.filter_congr (fun j _=>(hg j).symm)

theorem a2K {n i fuel:Nat} {listed:Array Bool} (hs:listed.size=n) (hi:i∈idxs n listed) (hl:(idxs n listed).length=fuel+1):(idxs n (listed.setIfInBounds i true)).length=fuel:=by
 obtain ⟨pre,post,e,h1,h2⟩:=T5 hi
 rw [P7 hs (r7.1 hi).1,h2]
 rw [e] at hl
 simp at hl ⊢; omega

section
variable {q:Y8} {n:Nat} {s1:St}

theorem V6.set {listed:Array Bool} (hcl:V6 ops listed) {i:Nat} {o:Oper} (ho:ops[i]?=some o) (hpre:∀ e∈o.after,Region.binds .any e=true→listed.getD e.on false=true):V6 ops (listed.setIfInBounds i true):=by
 intro k y hy hk e' he' hb'
 by_cases hki:k=i
 ·subst hki
  rw [ho] at hy; cases hy
  exact getD_set_true (hpre e' he' hb')
 ·rw [getD_set_ne true (Ne.symm hki)] at hk
  exact getD_set_true (hcl k y hy hk e' he' hb')

theorem b30 {listed:Array Bool} {i:Nat} (hi:i<listed.size):(listed.setIfInBounds i true).getD i true=true:=by simp [hi]
theorem a6X {listed:Array Bool} {i:Nat} (hi:i<listed.size):(listed.setIfInBounds i true).getD i false=true:=by simp [hi]

theorem a7B (hd:N9 ops=true) {listed:Array Bool} (hsz:listed.size=ops.size) (hne:idxs ops.size listed≠[]):Region.ready .any ops listed≠[]:=by
 have hM:=a0b hd
 intro hr
 cases hix:idxs ops.size listed with
 | nil=>exact hne hix
 | cons i l =>
  have hmem:i∈idxs ops.size listed:=by rw [hix]; simp
  obtain ⟨h1,h2⟩:=r7.1 hmem
  have ho:ops[i]?=some ops[i]:=Array.getElem?_eq_getElem h1
  have:i∈Region.ready .any ops listed:=by
   refine mem_ready.2 ⟨h2,ops[i],ho,fun e he hb=>?_⟩
   have hlt:=(hM i _ ho).1 e he hb
   cases hle:listed.getD e.on true with
   | true =>
    have:e.on<listed.size:=by omega
    simp [this] at hle ⊢; exact hle
   | false =>
    exfalso
    have hm2:e.on∈idxs ops.size listed:=r7.2 ⟨by omega,hle⟩
    have hs:=L3 ops.size listed
    rw [hix] at hs hm2
    rcases List.mem_cons.1 hm2 with e1|e1
    ·omega
    ·have:=(List.pairwise_cons.1 hs).1 _ e1; omega
  rw [hr] at this
  cases this

theorem b4d (hE:w5 E B) (hn:B.n=E.nt) (hd:N9 ops=true) {Q:Exit→Act→World→Prop} (hap:B8 ops.toList) (hA:a8g E ops q) {o2:Oper} (ho2:ops[n]?=some o2) {p:Prop} {s2:St} (hfin:a8t E ops (t7 ops.toList []) q n o2 s1=some (p,s2)) (hp:p)
  (hQ:∀ S ι a w,RS B S ι s2 a w→Q .normal a w) {i:Nat} {e:g9} {p0:List Step} {t0:Ty} {l m:List t0.den} {g:List Nat} (hx:s1.ev q.x=.at_ i p0) (he:look i s1.hp=some e) (hok:t8 e.ty e.x p0) (hg:i6 e.ty e.x p0=some ⟨.d0 true t0,l⟩)
  (happ:(s1.ev q.y).U4 s1 t0=some (⟨t0,m⟩,g)) {v':Value} :
  ∀ (fuel:Nat) (listed:Array Bool) (S:Nat→Prop) (ι:Ix) (s s':St) (a:Act) (w:World),listed.size=ops.size→(idxs ops.size listed).length=fuel→V6 ops listed→listed.getD q.k false=true→listed.getD n true=false→uniq s.fr→C9 s (rem ops ((idxs ops.size listed).filter (fun j=>!(j == n)))) →
   Q8 E ops (fun i=>(t7 ops.toList []).getD i 0) [] ((idxs ops.size listed).filter (fun j=>!(j == n))) s s'→D3 s' s1→RS B S ι s a w→a.eval (.tmp q.d)=v'→(∀ b off,Loc w.heap ι i e p0=some (b,off)→a7a B S ι s.hp g i e p0 t0 l m b off v' w) →
   wpAny E.P .any ops Q fuel listed a w:=by
 have hM:=a0b hd
 obtain ⟨T2,ad,s3,f1,f2,f3,⟨f4,f4'⟩,f5,f6,rfl⟩:=a61 hfin
 obtain ⟨hns,hkn,ok,hok1,hsp⟩:=a4Y f4
 obtain ⟨oa,c,a1,a2,a3,a4,a5,a6,a7,a8⟩:=hA
 have e9:oa=ok:=by rw [a1] at hok1; cases hok1; rfl
 subst e9
 have hndst:∀ j o,j<n→j≠q.k→ops[j]?=some o→o.dst≠some q.d:=by
  intro j o hj hjk ho
  obtain ⟨o',h1,h2,_⟩:=(hsp j hj).2 hjk
  rw [ho] at h1; cases h1
  exact h2 q.d a3
 intro fuel
 induction fuel with
 | zero =>
  intro listed S ι s s' a w hsz hlen hcl hlk hln hu hcf hrun hev hrs hv hpd
  exfalso
  have hnil:idxs ops.size listed=[]:=List.length_eq_zero_iff.1 hlen
  have:n∈idxs ops.size listed:=r7.2 ⟨by omega,hln⟩
  rw [hnil] at this; cases this
 | succ fuel ih =>
  intro listed S ι s s' a w hsz hlen hcl hlk hln hu hcf hrun hev hrs hv hpd
  refine ⟨fun hr=>absurd hr (a7B hd hsz (by intro h; rw [h] at hlen; cases hlen)),fun i' hi=>?_⟩
  obtain ⟨h1,o,ho,hpre⟩:=mem_ready.1 hi
  have hin:i'<ops.size:=(Array.getElem?_eq_some_iff.1 ho).1
  have hmem:i'∈idxs ops.size listed:=r7.2 ⟨hin,h1⟩
  have hanc:∀ j,j<ops.size→((t7 ops.toList []).getD i' 0).testBit j=true→listed.getD j false=true:=W7 (M:=fun i=>(t7 ops.toList []).getD i 0) (fun i o ho=>⟨(hM i o ho).1,(hM i o ho).2.1⟩) hcl i' o ho hpre
  by_cases hin2:i'=n
  ·-- the store
   subst hin2
   rw [ho2] at ho; cases ho
   have hall:∀ j,j∈idxs ops.size listed→j=i':=by
    intro j hj
    obtain ⟨j1,j2⟩:=r7.1 hj
    by_cases e:j=i'
    ·exact e
    ·have:=hanc j j1 (hsp j (by omega)).1
     rw [H4 this] at j2; cases j2
   have hnil:(idxs ops.size listed).filter (fun j=>!(j == i'))=[]:=by
    rw [List.filter_eq_nil_iff]
    intro j hj; simp [hall j hj]
   rw [hnil] at hrun
   obtain rfl:s=s':=hrun
   have hrs1:=a1V hev hrs
   have hrs2:RS B S ι (s1.put (some q.d) .any) a w:=hrs1.forget q.d
   obtain ⟨i2,p2,e2,t2,l2,m2,g2,r,qq,bts,b1,b2,b3,b4,b5,b6,b7,b8,b9,b10,b11,b12,b13,b14,b15,b16⟩:=a69 hE f6 hp
   rw [hx] at b1
   obtain ⟨rfl,rfl⟩:i=i2∧p0=p2:=by simpa using b1
   rw [he] at b3; cases b3
   rw [hg] at b7
   simp only [Option.some.injEq,Sigma.mk.injEq,Ty.d0.injEq,true_and] at b7
   obtain ⟨b7,b7'⟩:=b7
   subst b7
   obtain rfl:l=l2:=eq_of_heq b7'
   rw [happ] at b13
   simp only [Option.some.injEq,Prod.mk.injEq,Sigma.mk.injEq,heq_eq_eq,true_and] at b13
   obtain ⟨rfl,rfl⟩:=b13
   have hadr:=hrs1.ev ad
   rw [b2] at hadr
   obtain ⟨e',b,off,c1,c2,c3,c4⟩:=hadr
   rw [he] at c1; cases c1
   have c4:a.eval ad=.pointer (some ⟨b,off,none⟩):=by simpa using c4
   have hst:=a7E hE hrs2 (g:=g) b6 b4 (e:=e) he hok hg (by
    obtain ⟨O',y1,y2,y3,y4,y5⟩:=hpd b off c3
    exact ⟨O',y1,y2,y3,y4,fun cc hc=>⟨(y5 cc hc).1,fun j ej hj hjg hlj=>(y5 cc hc).2.1 j ej hj hjg ((hev.2 j).trans hlj),(y5 cc hc).2.2⟩⟩) f2 c4 hv b8 b9
   have hlen':=a2K hsz hmem hlen
   have hnil2:idxs ops.size (listed.setIfInBounds i' true)=[]:=by
    rw [P7 hsz hin]
    rw [List.filter_eq_nil_iff]
    intro j hj; simp [hall j hj]
   have hf0:fuel=0:=by rw [hnil2] at hlen'; exact hlen'.symm
   subst hf0
   have hw:o2.wp E.P a w (wpAny E.P .any ops Q 0 (listed.setIfInBounds i' true)) Q:=by
    refine hst _ _ (fun S' ι' w' val h1 h2=>⟨?_,hQ S' ι' _ w' ?_⟩)
    ·rw [List.eq_nil_iff_forall_not_mem]
     intro j hj
     obtain ⟨j1,oj,j2,_⟩:=mem_ready.1 hj
     have:j∈idxs ops.size (listed.setIfInBounds i' true):=r7.2 ⟨(Array.getElem?_eq_some_iff.1 j2).1,j1⟩
     rw [hnil2] at this; cases this
    ·rw [← b10] at h1 h2
     exact h1.put (by rw [hn]; exact f5) h2
   unfold wpOp
   rw [ho2]
   simp only [Region.wanted,f1,if_true]
   exact .inl hw
  ·-- something quiet
   have hlt:i'<n:=by omega
   have hki:i'≠q.k:=by rintro rfl; rw [H4 hlk] at h1; cases h1
   obtain ⟨o',ho',hdd,hqq⟩:=(hsp i' hlt).2 hki
   rw [ho] at ho'; cases ho'
   have hnanc:∀ j,j∈idxs ops.size listed→¬ ((t7 ops.toList []).getD q.k 0).testBit j=true:=by
    intro j hj hb
    have hclk:∀ e∈oa.after,Region.binds .any e=true→listed.getD e.on false=true:=hcl q.k oa a1 (H4 hlk)
    have h9:=W7 (M:=fun i=>(t7 ops.toList []).getD i 0) (fun i o ho=>⟨(hM i o ho).1,(hM i o ho).2.1⟩) hcl q.k oa a1 hclk j (r7.1 hj).1 hb
    have h8:=(r7.1 hj).2
    rw [H4 h9] at h8; cases h8
   have hkinds:∀ j∈(idxs ops.size listed).filter (fun j=>!(j == n)),∀ oj,ops[j]?=some oj→quiet oj=true∨a2I ops q n j oj s1=true:=by
    intro j hj oj hoj
    obtain ⟨j1,j2⟩:=List.mem_filter.1 hj
    simp only [Bool.not_eq_true',beq_eq_false_iff_ne,ne_eq] at j2
    have jn:j<n:=by have:=(r7.1 j1).1; omega
    have jk:j≠q.k:=by rintro rfl; have:=(r7.1 j1).2; rw [H4 hlk] at this; cases this
    rcases a8Z f4' jn jk hoj with h9|h9|h9
    ·exact absurd h9 (hnanc j j1)
    ·exact .inl h9
    ·exact .inr h9
   have hltn:∀ j∈(idxs ops.size listed).filter (fun j=>!(j == n)),j<n:=by
    intro j hj
    obtain ⟨j1,j2⟩:=List.mem_filter.1 hj
    simp only [Bool.not_eq_true',beq_eq_false_iff_ne,ne_eq] at j2
    have:=(r7.1 j1).1; omega
   have hsort:((idxs ops.size listed).filter (fun j=>!(j == n))).Pairwise (·<·):=(L3 ops.size listed).sublist List.filter_sublist
   have hmemf:i'∈(idxs ops.size listed).filter (fun j=>!(j == n)):=List.mem_filter.2 ⟨hmem,by simpa using hin2⟩
   have hkind:=hkinds i' hmemf o ho
   have hrun0:=hrun
   obtain ⟨pre,post,e1,hlt',e2⟩:=a49 (f:=fun j=>!(j == n)) hsz hmem (by simpa using hin2)
   rw [e1] at hcf hrun
   have er:rem ops (pre++i'::post)=rem ops pre++o::rem ops post:=by simp [rem,List.filterMap_append,ho]
   have er2:rem ops (pre++post)=rem ops pre++rem ops post:=by simp [rem,List.filterMap_append]
   have hapr:B8 (rem ops (pre++i'::post)):=by
    rw [← e1]
    refine B8.sub ?_
    have:rem ops (idxs ops.size listed)=rem ops ((List.range ops.size).filter (fun i=>!listed.getD i true)):=rfl
    rw [this]
    refine B8.sub ?_
    have h9:=a1p (ops:=ops)
    rw [J4] at h9
    rw [h9]; exact hap
   have hind:∀ j∈pre,((t7 ops.toList []).getD i' 0).testBit j=false∧∀ x,ops[j]?=some x→indep ops x o=true:=by
    intro j hj
    have hji:j∈idxs ops.size listed:=by
     have:j∈(idxs ops.size listed).filter (fun j=>!(j == n)):=by rw [e1]; simp [hj]
     exact (List.mem_filter.1 this).1
    have hnm:((t7 ops.toList []).getD i' 0).testBit j=false:=by
     cases hm:((t7 ops.toList []).getD i' 0).testBit j with
     | false=>rfl
     | true =>
      exfalso
      have hjl:=hanc j (r7.1 hji).1 hm
      have:=(r7.1 hji).2
      rw [H4 hjl] at this
      cases this
    refine ⟨hnm,fun x hx=>?_⟩
    rcases (hM i' o ho).2.2 j x (hlt' j hj) hx with hm|hm
    ·rw [hnm] at hm; cases hm
    ·exact hm
   obtain ⟨pp,sa,sb,k1,k2,k3,k4,_⟩:=a5p ho hapr hind hu (hcf.sub (fun y hy=>by rw [a0j]; exact List.mem_append_left _ hy)) hrun
   rw [er] at hapr hcf
   have hap2:=B8.cut hapr
   rcases hkind with hqt|hls
   ·obtain ⟨q1,q2,v,val,rfl,q3,q4⟩:=b5t hE hrs hqt k1 k2
    have hnext:wpAny E.P .any ops Q fuel (listed.setIfInBounds i' true) (a.put o.dst val) w:=by
     refine ih (listed.setIfInBounds i' true) S ι (s.put o.dst v) sb (a.put o.dst val) w (by simp [hsz]) (a2K hsz hmem hlen) (hcl.set ho hpre) (getD_set_true hlk) (by rw [getD_set_ne true hin2]; exact hln) (B4 hu k1) ?_ (by rw [e2]; exact k3) (k4.trans hev) (hrs.put (by rw [hn]; exact q2) q4) ?_ (fun b off hb=>by rw [F7]; exact hpd b off hb)
     ·rw [e2,er2]
      exact C9.step hu (fun y hy=>hcf y (by simp at hy ⊢; rcases hy with hy|hy<;>simp [hy])) hap2.2 k1
     ·rw [← hv]
      have hne:=hndst i' o hlt hki ho
      cases hod:o.dst with
      | none=>rfl
      | some d =>
       rw [hod] at hne
       exact T9 (fun e=>hne (by rw [e]))
    unfold wpOp
    rw [ho]
    simp only [Region.wanted,q1,if_true]
    refine .inl ?_
    unfold Oper.wp
    rw [q3]
    exact hnext
   ·-- a store that goes elsewhere
    obtain ⟨hg0,hdn,T,ad',x',j0,q0,vt,z,g1,g2,g3,g4,g5,g6⟩:=a6r hls
    rw [e1] at hsort hltn hkinds
    have hsub:List.Sublist (pre++post) (pre++i'::post):=List.Sublist.append (List.Sublist.refl _) (List.sublist_cons_self _ _)
    obtain ⟨J,f,t1,t2,t3,t4⟩:=a26 k3 (k4.trans hev) (B4 hu k1) (hsort.sublist hsub) (fun j hj=>hltn j (hsub.subset hj)) (fun j hj=>hkinds j (hsub.subset hj))
    have hpost:∀ j∈post,i'<j:=fun j hj=>(List.pairwise_cons.1 (List.pairwise_append.1 hsort).2.1).1 j hj
    obtain ⟨v0,ids,f0,hh0,z1,z2,z3,z4,z5⟩:=T4 (ops:=ops) hu k1
    obtain ⟨sa',y1,_,y2⟩:=z5 s hu ((D3.refl s).a0A _ _) z2
    rw [k1] at y1; cases y1
    have hsee:∀ y,y∈o.op.operands.toList→s1.ev y=f (f0 (s.ev y)):=by
     intro y hy
     refine a8w (z1.a4l t1) (fun m' hm=>?_)
     subst hm
     have hml:=I1 (ops:=ops) hy
     rw [← (k4.trans hev).1 m',t4 m' (fun j hj o' ho' hd'=>?_),y2.fr,if_neg (by rw [hdn]; intro h; cases h)]
     ·cases look m' s.fr<;>rfl
     ·rcases List.mem_append.1 hj with hj|hj
      ·exact (a07 ((hind j hj).2 o' ho')).1 m' hd' hml
      ·exact g6 j (hpost j hj) (hltn j (by simp [hj])) o' ho' m' hd' hml
    have ha':s.ev ad'=.ptr j0 q0:=a0i (z1.a4l t1) ((hsee ad' (by rw [g1]; simp [Op.operands])).symm.trans g2) (.inl rfl)
    have hx':s.ev x'=.val vt z:=a0i (z1.a4l t1) ((hsee x' (by rw [g1]; simp [Op.operands])).symm.trans g3) (.inr ⟨rfl,by intro h; cases h⟩)
    obtain ⟨ι',w',r1,r2,r3⟩:=b67 hE hn hrs hg0 g1 ha' hx' k1
    have hij:i≠j0:=by
     rintro rfl
     rw [hx] at g4
     simp only [AV.f9,Nat.beq_refl] at g4
     cases g4
    have hjg:j0∉g:=fun hm=>by rw [a9j happ j0 hm] at g5; cases g5
    obtain ⟨J2,f2',u1,u2,u3,u4⟩:=a26 (ops:=ops) (q:=q) (n:=n) hrun hev hu hsort hltn hkinds
    have hes:look i s.hp=some e:=by
     rw [← u3 i (fun hm=>by
      have:=(u2 i hm).1
      rw [hx] at this
      simp only [AV.f9,Nat.beq_refl] at this
      cases this),hev.2 i]
     exact he
    obtain ⟨i2,p2,e2',t2',l2,m2,g2',r',qq,bts,b1,b2,b3,b4,b5,b6,b7,b8,b9,b10,b11,b12,b13,b14,b15,b16⟩:=a69 hE f6 hp
    rw [hx] at b1
    obtain ⟨rfl,rfl⟩:i=i2∧p0=p2:=by simpa using b1
    rw [he] at b3; cases b3
    obtain ⟨b,off,hloc⟩:=a2G (hrs.hs.ob i e hes) hrs.hs.slt b16 hok hg
    have hP:=r3 hij hjg hes hok hg (hpd b off hloc)
    have hnext:wpAny E.P .any ops Q fuel (listed.setIfInBounds i' true) (a.put o.dst undef) w':=by
     refine ih (listed.setIfInBounds i' true) S ι' sa sb (a.put o.dst undef) w' (by simp [hsz]) (a2K hsz hmem hlen) (hcl.set ho hpre) (getD_set_true hlk) (by rw [getD_set_ne true hin2]; exact hln) (B4 hu k1) ?_ (by rw [e2]; exact k3) (k4.trans hev) r2 ?_ (fun b9 off9 hb9=>?_)
     ·rw [e2,er2]
      exact C9.step hu (fun y hy=>hcf y (by simp at hy ⊢; rcases hy with hy|hy<;>simp [hy])) hap2.2 k1
     ·rw [← hv,hdn]; rfl
     ·obtain ⟨_,h9,_⟩:=id hP
      rw [h9] at hb9; cases hb9
      exact hP
    unfold wpOp
    rw [ho]
    simp only [Region.wanted,hg0,if_true]
    refine .inl ?_
    unfold Oper.wp
    rw [r1]
    exact hnext

theorem b2f (hE:w5 E B) (hn:B.n=E.nt) (hd:N9 ops=true) {Q:Exit→Act→World→Prop} (hap:B8 ops.toList) (hA:a8g E ops q) {o2:Oper} (ho2:ops[n]?=some o2) {p:Prop} {s2:St} (hfin:a8t E ops (t7 ops.toList []) q n o2 s1=some (p,s2)) (hp:p)
  (hQ:∀ S ι a w,RS B S ι s2 a w→Q .normal a w) :
  ∀ (fuel:Nat) (listed:Array Bool) (S:Nat→Prop) (ι:Ix) (s s':St) (a:Act) (w:World),listed.size=ops.size→(idxs ops.size listed).length=fuel→V6 ops listed→listed.getD q.k true=false→listed.getD n true=false→uniq s.fr→C9 s (rem ops ((idxs ops.size listed).filter (fun j=>!(j == n) && !(j == q.k)))) →
   Q8 E ops (fun i=>(t7 ops.toList []).getD i 0) [] ((idxs ops.size listed).filter (fun j=>!(j == n) && !(j == q.k))) s s'→D3 s' s1→look q.d s.fr=some .any→RS B S ι s a w →
   wpAny E.P .any ops Q fuel listed a w:=by
 have hM:=a0b hd
 obtain ⟨T2,ad,s3,f1,f2,f3,⟨f4,f4'⟩,f5,f6,_⟩:=a61 hfin
 obtain ⟨hns,hkn,ok,hok1,hsp⟩:=a4Y f4
 have hA':=hA
 obtain ⟨oa,c,a1,a2,a3,a4,a5,a6,a7,a8⟩:=hA
 have e9:oa=ok:=by rw [a1] at hok1; cases hok1; rfl
 subst e9
 intro fuel
 induction fuel with
 | zero =>
  intro listed S ι s s' a w hsz hlen hcl hlk hln hu hcf hrun hev hany hrs
  exfalso
  have hnil:idxs ops.size listed=[]:=List.length_eq_zero_iff.1 hlen
  have:n∈idxs ops.size listed:=r7.2 ⟨by omega,hln⟩
  rw [hnil] at this; cases this
 | succ fuel ih =>
  intro listed S ι s s' a w hsz hlen hcl hlk hln hu hcf hrun hev hany hrs
  refine ⟨fun hr=>absurd hr (a7B hd hsz (by intro h; rw [h] at hlen; cases hlen)),fun i' hi=>?_⟩
  obtain ⟨h1,o,ho,hpre⟩:=mem_ready.1 hi
  have hin:i'<ops.size:=(Array.getElem?_eq_some_iff.1 ho).1
  have hmem:i'∈idxs ops.size listed:=r7.2 ⟨hin,h1⟩
  have hanc:∀ j,j<ops.size→((t7 ops.toList []).getD i' 0).testBit j=true→listed.getD j false=true:=W7 (M:=fun i=>(t7 ops.toList []).getD i 0) (fun i o ho=>⟨(hM i o ho).1,(hM i o ho).2.1⟩) hcl i' o ho hpre
  by_cases hin2:i'=n
  ·exfalso
   subst hin2
   have:=hanc q.k (by omega) (hsp q.k hkn).1
   rw [H4 this] at hlk; cases hlk
  have hlt:i'<n:=by omega
  by_cases hki:i'=q.k
  ·-- the append
   subst hki
   rw [a1] at ho; cases ho
   have hltn:∀ j∈(idxs ops.size listed).filter (fun j=>!(j == n) && !(j == q.k)),j<n:=by
    intro j hj
    obtain ⟨j1,j2⟩:=List.mem_filter.1 hj
    simp only [Bool.and_eq_true,Bool.not_eq_true',beq_eq_false_iff_ne,ne_eq] at j2
    have:=(r7.1 j1).1; omega
   have hquiet:∀ j∈(idxs ops.size listed).filter (fun j=>!(j == n) && !(j == q.k)),∀ oj,ops[j]?=some oj→(quiet oj=true∨a2I ops q n j oj s1=true)∧oj.dst≠some q.d∧∀ d,oj.dst=some d→d∉looks ops oa:=by
    intro j hj oj hoj
    have jn:=hltn j hj
    obtain ⟨j1,j2⟩:=List.mem_filter.1 hj
    simp only [Bool.and_eq_true,Bool.not_eq_true',beq_eq_false_iff_ne,ne_eq] at j2
    have hna:¬ ((t7 ops.toList []).getD q.k 0).testBit j=true:=by
     intro g3
     have:=hanc j (by omega) g3
     have h9:=(r7.1 j1).2
     rw [H4 this] at h9; cases h9
    obtain ⟨o',g1,g2,g3⟩:=(hsp j jn).2 j2.2
    rw [hoj] at g1; cases g1
    refine ⟨?_,g2 q.d a3,?_⟩
    ·rcases a8Z f4' jn j2.2 hoj with h9|h9|h9
     ·exact absurd h9 hna
     ·exact .inl h9
     ·exact .inr h9
    ·rcases g3 with g3|g3
     ·exact absurd g3 hna
     ·exact g3.2
   have hsort:((idxs ops.size listed).filter (fun j=>!(j == n) && !(j == q.k))).Pairwise (·<·):=(L3 ops.size listed).sublist List.filter_sublist
   obtain ⟨J,f,t1,t2,t3,t4⟩:=a26 (ops:=ops) (q:=q) (n:=n) hrun hev hu hsort hltn (fun j hj oj hoj=>(hquiet j hj oj hoj).1)
   obtain ⟨i,p0,e,t0,l,m,g,r,qq,bts,b1,b2,b3,b4,b5,b6,b7,b8,b9,b10,b11,b12,b13,b14,b15,b16⟩:=a69 hE f6 hp
   have hlook:∀ j,j∉J→look j s.hp=look j s1.hp:=fun j hj=>by rw [← t3 j hj]; exact hev.2 j
   have hget:∀ x,x∈oa.op.operands.toList→s1.ev x=f (s.ev x):=by
    intro x hx
    refine a8w t1 (fun t ht=>?_)
    subst ht
    rw [← hev.1 t,t4 t (fun j hj oj hoj hd'=>(hquiet j hj oj hoj).2.2 t hd' (I1 hx))]
   have hxm:q.x∈oa.op.operands.toList:=by rw [a5]; exact a0l (by rw [a7]; simp)
   have hym:q.y∈oa.op.operands.toList:=by rw [a5]; exact a0l (by rw [a7]; simp)
   have hxs:s.ev q.x=.at_ i p0:=a0i t1 ((hget _ hxm).symm.trans b1) (.inl rfl)
   have hyy:s.ev q.y=s1.ev q.y:=a0i t1 (hget _ hym).symm (b4J b13)
   have hes:look i s.hp=some e:=(hlook i (fun hm=>by
    have:=(t2 i hm).1
    rw [b1] at this
    simp only [AV.f9,Nat.beq_refl] at this
    cases this)).trans b3
   have happs:(s.ev q.y).U4 s t0=some (⟨t0,m⟩,g):=by
    rw [hyy,a6b (s:=s1) (t:=s) (fun j hj=>hlook j (fun hm=>by rw [(t2 j hm).2] at hj; cases hj))]
    exact b13
   have hok:t8 e.ty e.x p0:=by
    obtain ⟨e2,u,y2,cs,r1,hok,_⟩:=w4 hrs hxs
    rw [hes] at r1; cases r1
    exact hok
   obtain ⟨b,off,hl⟩:=a2G (hrs.hs.ob i e hes) hrs.hs.slt b16 hok b7
   obtain ⟨v',w',c1,c2,c3,c4⟩:=a6F hE hrs a5 a6 a7 a8 b12 b11 hxs hes b16 b7 hl happs b4 b5 b14 b15
   have hl':Loc w'.heap ι i e p0=some (b,off):=by obtain ⟨_,h9,_⟩:=c4; exact h9
   have hput:RS B S ι s (a.put (some q.d) v') w':=by
    have h9:=c2.put (d:=some q.d) (by rw [hn]; exact a4) (v:=.any) (val:=v') ⟨v',rfl⟩
    refine a1V (s:=s.put (some q.d) .any) (t:=s) ⟨fun t=>?_,fun _=>rfl⟩ h9
    rw [C5]
    split
    ·rename_i e9; cases e9; exact hany.symm
    ·rfl
   have hval:(a.put (some q.d) v').eval (.tmp q.d)=v':=a5s (by rw [hrs.sz,hn]; simpa [A5,Nat.blt_eq] using a4)
   have hset:(idxs ops.size (listed.setIfInBounds q.k true)).filter (fun j=>!(j == n))=(idxs ops.size listed).filter (fun j=>!(j == n) && !(j == q.k)):=b5M hsz hin (fun j=>rfl)
   have hnext:wpAny E.P .any ops Q fuel (listed.setIfInBounds q.k true) (a.put (some q.d) v') w':=by
    refine b4d hE hn hd hap hA' ho2 hfin hp hQ (i:=i) (e:=e) (p0:=p0) (t0:=t0) (l:=l) (m:=m) (g:=g) b1 b3 hok b7 b13 (v':=v') fuel (listed.setIfInBounds q.k true) S ι s s' _ w' (by simp [hsz]) (a2K hsz hmem hlen) (hcl.set a1 hpre) (a6X (by omega)) (by rw [getD_set_ne true (by omega)]; exact hln) hu (by rw [hset]; exact hcf) (by rw [hset]; exact hrun) hev hput hval ?_
    intro b' off' hb'
    rw [hl'] at hb'; cases hb'
    exact c4
   unfold wpOp
   rw [a1]
   simp only [Region.wanted,a2,if_true]
   refine .inl ?_
   unfold Oper.wp
   rw [c1]
   show wpAny E.P .any ops Q fuel (listed.setIfInBounds q.k true) (a.put oa.dst v') w'
   rw [a3]
   exact hnext
  ·-- another one
   obtain ⟨pre,post,e1,hlt',e2⟩:=a49 (f:=fun j=>!(j == n) && !(j == q.k)) hsz hmem (by simp [hin2,hki])
   rw [e1] at hcf hrun
   have er:rem ops (pre++i'::post)=rem ops pre++o::rem ops post:=by simp [rem,List.filterMap_append,ho]
   have er2:rem ops (pre++post)=rem ops pre++rem ops post:=by simp [rem,List.filterMap_append]
   have hapr:B8 (rem ops (pre++i'::post)):=by
    rw [← e1]
    refine B8.sub ?_
    have:rem ops (idxs ops.size listed)=rem ops ((List.range ops.size).filter (fun i=>!listed.getD i true)):=rfl
    rw [this]
    refine B8.sub ?_
    have h9:=a1p (ops:=ops)
    rw [J4] at h9
    rw [h9]; exact hap
   have hind:∀ j∈pre,((t7 ops.toList []).getD i' 0).testBit j=false∧∀ x,ops[j]?=some x→indep ops x o=true:=by
    intro j hj
    have hji:j∈idxs ops.size listed:=by
     have:j∈(idxs ops.size listed).filter (fun j=>!(j == n) && !(j == q.k)):=by rw [e1]; simp [hj]
     exact (List.mem_filter.1 this).1
    have hnm:((t7 ops.toList []).getD i' 0).testBit j=false:=by
     cases hm:((t7 ops.toList []).getD i' 0).testBit j with
     | false=>rfl
     | true =>
      exfalso
      have hjl:=hanc j (r7.1 hji).1 hm
      have:=(r7.1 hji).2
      rw [H4 hjl] at this
      cases this
    refine ⟨hnm,fun x hx=>?_⟩
    rcases (hM i' o ho).2.2 j x (hlt' j hj) hx with hm|hm
    ·rw [hnm] at hm; cases hm
    ·exact hm
   obtain ⟨pp,sa,sb,k1,k2,k3,k4,_⟩:=a5p ho hapr hind hu (hcf.sub (fun y hy=>by rw [a0j]; exact List.mem_append_left _ hy)) hrun
   have hnd:o.dst≠some q.d:=by
    obtain ⟨o',g1,g2,_⟩:=(hsp i' hlt).2 hki
    rw [ho] at g1; cases g1
    exact g2 q.d a3
   have hany':look q.d sa.fr=some .any:=by
    obtain ⟨v,ids,f,hf,z1,z2,z3,z4,z5⟩:=T4 (ops:=ops) hu k1
    obtain ⟨sa',y1,_,y2⟩:=z5 s hu ((D3.refl s).a0A _ _) z2
    rw [k1] at y1; cases y1
    rw [y2.fr,if_neg hnd,hany]
    simp [z1.plain _ (rfl:AV.plain .any=true)]
   rw [er] at hapr hcf
   have hap2:=B8.cut hapr
   have hps:=X8 hE hn hrs (ops:=ops) o (k:=fun x=>Tree.cut .skip [] x) (L:=fun _ _ x=>x=sa) (Rt:=fun _=>True) (R8.2 ⟨pp,sa,k1,k2,rfl⟩)
    (next:=wpAny E.P .any ops Q fuel (listed.setIfInBounds i' true)) (Q:=Q) (fun S' ι' x a' w' hx hxe=>by
     have hxe:x=sa:=hxe
     subst hxe
     refine ih (listed.setIfInBounds i' true) S' ι' x sb a' w' (by simp [hsz]) (a2K hsz hmem hlen) (hcl.set ho hpre) (by rw [getD_set_ne true hki]; exact hlk) (by rw [getD_set_ne true hin2]; exact hln) (B4 hu k1) ?_ (by rw [e2]; exact k3) (k4.trans hev) hany' hx
     rw [e2,er2]
     exact C9.step hu (fun y hy=>hcf y (by simp at hy ⊢; rcases hy with hy|hy<;>simp [hy])) hap2.2 k1)
   unfold wpOp
   rw [ho]
   simp only
   split
   ·rename_i hw; rw [if_pos hw] at hps; exact .inl hps
   ·rename_i hw; rw [if_neg hw] at hps; exact hps

theorem b4c (hE:w5 E B) (hn:B.n=E.nt) {id:Nat} (hd:(N9 ops && a0q ops s && E.P.follows .mixedOrders)=true) {Q:Exit→Act→World→Prop} (hA:a8g E ops q) {s':St}
  (hr:Q8 E ops (fun i=>(t7 ops.toList []).getD i 0) [] ((List.range' 0 (ops.toList.length - 1)).filter (fun j=>!(j == q.k))) s s') {k:St→Tree (E.rs++x5 E.ps)} {L:Code→List Item→St→Prop} {R:DL (E.rs++x5 E.ps)→Prop}
  (hf:b1w E ops (t7 ops.toList []) q s' k L R) (hany:look q.d s.fr=some .any)
  (hQ:∀ S ι s2 a w,RS B S ι s2 a w→(k s2).holds L R→Q .normal a w) (h:RS B S ι s a w):(Code.region id ops true).wp E.P Q a w:=by
 simp only [Bool.and_eq_true,a0q,List.all_eq_true] at hd
 obtain ⟨⟨h1,⟨h2,h3⟩,h4⟩,h5⟩:=hd
 refine wp_region_any h5 ?_
 obtain ⟨o2,p,s2,g1,g2,g3,g4⟩:=hf
 obtain ⟨T2,ad,s3,f1,f2,f3,⟨f4,_⟩,f5,f6,_⟩:=a61 g2
 obtain ⟨hns,hkn,_⟩:=a4Y f4
 have hlen:(idxs ops.size (Array.replicate ops.size false)).length=ops.size:=by
  rw [J4]; simp
 have hset:(idxs ops.size (Array.replicate ops.size false)).filter (fun j=>!(j == ops.size - 1) && !(j == q.k))=(List.range' 0 (ops.toList.length - 1)).filter (fun j=>!(j == q.k)):=by
  rw [J4,show List.range ops.size=List.range (ops.size - 1)++[ops.size - 1] from by rw [← List.range_succ]; congr 1; omega,List.filter_append,List.filter_cons]
  simp only [beq_self_eq_true,Bool.not_true,Bool.false_and,Bool.false_eq_true,if_false,List.filter_nil,List.append_nil,Array.length_toList]
  rw [List.range_eq_range']
  refine List.filter_congr (fun j hj=>?_)
  have:j≠ops.size - 1:=by have:=(List.mem_range'_1.1 hj).2; omega
  simp [this]
 refine b2f (n:=ops.size - 1) hE hn h1 (W6 h3) hA g1 g2 g3 (fun S ι a w hh=>hQ S ι _ a w hh g4) ops.size _ S ι s s' a w.drew (by simp) hlen ?_ ?_ ?_ (s6 h2) ?_ (by rw [hset]; exact hr) (D3.refl _) hany (h.K7 A6.nil A7.drew)
 ·intro k o hk hl
  have:k<ops.size:=(Array.getElem?_eq_some_iff.1 hk).1
  simp [this] at hl
 ·have:q.k<ops.size:=by omega
  simp [this]
 ·have:ops.size - 1<ops.size:=by omega
  simp [this]
 ·intro o ho d hd
  obtain ⟨j,hj,hjo⟩:=List.mem_filterMap.1 ho
  obtain ⟨hj1,hj2⟩:=List.mem_filter.1 hj
  have:=(r7.1 hj1).1
  simp only [Bool.and_eq_true,Bool.not_eq_true',beq_eq_false_iff_ne,ne_eq] at hj2
  refine h4 d (List.mem_filterMap.2 ⟨o,List.mem_of_getElem? (i:=j) ?_,hd⟩)
  rw [List.getElem?_dropLast,if_pos (by simp; omega)]
  simpa using hjo
end
end
end Go.Ex

namespace Go.Ex

/-! ### drawn regions in which addresses of parts stand unordered with stores of plain values -/
theorem a0Q:∀ {t:Ty} {x:t.den} {p:List Step} {r:Sigma Ty.den},i6 t x p=some r→C2 t p=some r.1:=by
 intro t
 induction t with
 | pair a b iha ihb =>
  intro x p r h
  match p,h with
  | [],h=>simp only [i6,Option.some.injEq] at h; subst h; rfl
  | .j6 0::p,h=>exact iha (x:=x.1) h
  | .j6 (n+1)::p,h=>exact ihb (x:=x.2) (p:=.j6 n::p) h
  | .idx i::p,h=>simp [i6] at h
 | arr n t ih =>
  intro x p r h
  match p,h with
  | [],h=>simp only [i6,Option.some.injEq] at h; subst h; rfl
  | .j6 i::p,h=>simp [i6] at h
  | .idx i::p,h=>exact ih h
 | d0 o t ih =>
  intro x p r h
  match p,h with
  | [],h=>cases o<;>(simp only [i6,Option.some.injEq] at h; subst h; rfl)
  | .j6 i::p,h=>cases o<;>simp [i6] at h
  | .idx i::p,h =>
   cases o with
   | true=>exact ih h
   | false=>simp [i6] at h
 | _ =>
  intro x p r h
  match p,h with
  | [],h=>simp only [i6,Option.some.injEq] at h; subst h; rfl
  | .j6 i::p,h=>simp [i6] at h
  | .idx i::p,h=>simp [i6] at h

theorem a55:∀ {t:Ty} {p:List Step} {u:Ty},C2 t p=some u→∀ x:t.den,∃ z,i6 t x p=some ⟨u,z⟩:=by
 intro t
 induction t with
 | pair a b iha ihb =>
  intro p u h x
  match p,h with
  | [],h=>simp only [C2,Option.some.injEq] at h; subst h; exact ⟨x,rfl⟩
  | .j6 0::p,h=>exact iha h x.1
  | .j6 (n+1)::p,h=>exact ihb (p:=.j6 n::p) h x.2
  | .idx i::p,h=>simp [C2] at h
 | arr n t ih =>
  intro p u h x
  match p,h with
  | [],h=>simp only [C2,Option.some.injEq] at h; subst h; exact ⟨x,rfl⟩
  | .j6 i::p,h=>simp [C2] at h
  | .idx i::p,h=>exact ih h _
 | d0 o t ih =>
  intro p u h x
  match p,h with
  | [],h=>cases o<;>(simp only [C2,Option.some.injEq] at h; subst h; exact ⟨x,rfl⟩)
  | .j6 i::p,h=>cases o<;>simp [C2] at h
  | .idx i::p,h =>
   cases o with
   | true=>exact ih h _
   | false=>simp [C2] at h
 | _ =>
  intro p u h x
  match p,h with
  | [],h=>simp only [C2,Option.some.injEq] at h; subst h; exact ⟨x,rfl⟩
  | .j6 i::p,h=>simp [C2] at h
  | .idx i::p,h=>simp [C2] at h

theorem b9p (q:List Step):kp q []=true:=by cases q with
 | nil=>rfl
 | cons s q=>cases s<;>rfl

theorem b8y:∀ {t:Ty} {p:List Step} {u:Ty},t.V0=true→C2 t p=some u→kp [] p=true:=by
 intro t
 induction t with
 | pair a b iha ihb =>
  intro p u hn h
  simp only [Ty.V0,Bool.and_eq_true] at hn
  match p,h with
  | [],_=>rfl
  | .j6 0::p,h =>
   have h:C2 a p=some u:=h
   have:=iha hn.1 h
   simpa [kp] using this
  | .j6 (n+1)::p,h =>
   have:=ihb (p:=.j6 n::p) hn.2 h
   simpa [kp] using this
  | .idx i::p,h=>simp [C2] at h
 | arr n t ih=>intro p u hn; cases hn
 | d0 o t ih=>intro p u hn; cases hn
 | _ =>
  intro p u hn h
  match p,h with
  | [],_=>rfl
  | .j6 i::p,h=>simp [C2] at h
  | .idx i::p,h=>simp [C2] at h

theorem b6T:∀ {t:Ty} {p:List Step} {u:Ty},t.V0=true→C2 t p=some u→u.V0=true:=by
 intro t
 induction t with
 | pair a b iha ihb =>
  intro p u hn h
  match p,h with
  | [],h=>simp only [C2,Option.some.injEq] at h; subst h; exact hn
  | .j6 0::p,h=>simp only [Ty.V0,Bool.and_eq_true] at hn; exact iha hn.1 h
  | .j6 (n+1)::p,h=>simp only [Ty.V0,Bool.and_eq_true] at hn; exact ihb (p:=.j6 n::p) hn.2 h
  | .idx i::p,h=>simp [C2] at h
 | arr n t ih=>intro p u hn; cases hn
 | d0 o t ih=>intro p u hn; cases hn
 | _ =>
  intro p u hn h
  match p,h with
  | [],h=>simp only [C2,Option.some.injEq] at h; subst h; exact hn
  | .j6 i::p,h=>simp [C2] at h
  | .idx i::p,h=>simp [C2] at h

theorem b8G:∀ {t:Ty} {q p:List Step} {st:Step} {uq u:Ty},C2 t q=some uq→uq.V0=true→C2 t (p++[st])=some u→kp q p=true→kp q (p++[st])=true:=by
 intro t
 induction t with
 | pair a b iha ihb =>
  intro q p st uq u hq hn hp hk
  match q,hq with
  | [],hq=>simp only [C2,Option.some.injEq] at hq; subst hq; exact b8y hn hp
  | .j6 0::q,hq =>
   match p,hp,hk with
   | [],hp,_ =>
    cases st with
    | j6 m=>cases m with
     | zero=>simp [kp]
     | succ m=>simp [kp]
    | idx i=>simp [C2] at hp
   | .j6 0::p,hp,hk =>
    simp only [kp,if_true,List.cons_append] at hk ⊢
    exact iha hq hn hp hk
   | .j6 (m+1)::p,_,_=>simp [kp]
   | .idx i::p,hp,_=>simp [C2] at hp
  | .j6 (n+1)::q,hq =>
   match p,hp,hk with
   | [],hp,_ =>
    cases st with
    | j6 m=>simp only [List.nil_append,kp]; split<;>simp
    | idx i=>simp [C2] at hp
   | .j6 0::p,_,_=>simp [kp]
   | .j6 (m+1)::p,hp,hk =>
    have:=ihb (q:=.j6 n::q) (p:=.j6 m::p) hq hn hp (by
     simp only [kp,Nat.add_right_cancel_iff] at hk ⊢; exact hk)
    simp only [List.cons_append,kp,Nat.add_right_cancel_iff] at this ⊢; exact this
   | .idx i::p,hp,_=>simp [C2] at hp
  | .idx i::q,hq=>simp [C2] at hq
 | arr n t ih =>
  intro q p st uq u hq hn hp hk
  match q,hq with
  | [],hq=>simp only [C2,Option.some.injEq] at hq; subst hq; cases hn
  | .j6 i::q,hq=>simp [C2] at hq
  | .idx i::q,hq =>
   match p,hp,hk with
   | [],hp,_ =>
    cases st with
    | j6 m=>simp [C2] at hp
    | idx k=>simp [kp]
   | .j6 m::p,hp,_=>simp [C2] at hp
   | .idx k::p,hp,hk =>
    simp only [List.cons_append,kp] at hk ⊢
    exact ih hq hn hp hk
 | d0 o t ih =>
  intro q p st uq u hq hn hp hk
  cases o with
  | false =>
   match q,hq with
   | [],hq=>simp only [C2,Option.some.injEq] at hq; subst hq; cases hn
   | .j6 i::q,hq=>simp [C2] at hq
   | .idx i::q,hq=>simp [C2] at hq
  | true =>
   match q,hq with
   | [],hq=>simp only [C2,Option.some.injEq] at hq; subst hq; cases hn
   | .j6 i::q,hq=>simp [C2] at hq
   | .idx i::q,hq =>
    match p,hp,hk with
    | [],hp,_ =>
     cases st with
     | j6 m=>simp [C2] at hp
     | idx k=>simp [kp]
    | .j6 m::p,hp,_=>simp [C2] at hp
    | .idx k::p,hp,hk =>
     simp only [List.cons_append,kp] at hk ⊢
     exact ih hq hn hp hk
 | _ =>
  intro q p st uq u hq hn hp hk
  exfalso
  cases p with
  | nil=>cases st<;>simp [C2] at hp
  | cons s p=>cases s<;>simp [C2] at hp

theorem U9:∀ {u t:Ty},u.V0=true→u.sh=t.sh→t=u:=by
 intro u
 induction u with
 | pair a b iha ihb =>
  intro t hn h
  simp only [Ty.V0,Bool.and_eq_true] at hn
  cases t<;>simp only [Ty.sh,Ty.pair.injEq,reduceCtorEq] at h
  rw [iha hn.1 h.1,ihb hn.2 h.2]
 | arr n t ih=>intro _ hn; cases hn
 | d0 o t ih=>intro _ hn; cases hn
 | fn f=>intro _ hn; cases hn
 | map o k v=>intro _ hn; cases hn
 | box o g t ih=>intro _ hn; cases hn
 | hole t ih=>intro _ hn; cases hn
 | v4 t ih=>intro _ hn; cases hn
 | int k=>intro t hn h; cases t<;>simp only [Ty.sh,reduceCtorEq] at h; exact h.symm
 | bool=>intro t hn h; cases t<;>simp only [Ty.sh,reduceCtorEq] at h; rfl
 | str=>intro t hn h; cases t<;>simp only [Ty.sh,reduceCtorEq] at h; rfl
 | unit=>intro t hn h; cases t<;>simp only [Ty.sh,reduceCtorEq] at h; rfl

theorem a1m:∀ {t:Ty} {x:t.den} {q:List Step} {v:Ty} {y:v.den} {r:Sigma Ty.den},v.V0=true→n6 t x q v y=some r→r.1=t:=by
 intro t
 induction t with
 | pair a b iha ihb =>
  intro x q v y r hn h
  match q,h with
  | [],h =>
   simp only [n6] at h
   split at h
   ·rename_i hs; cases h; exact (U9 hn hs).symm
   ·cases h
  | .j6 0::q,h =>
   simp only [n6] at h
   split at h
   ·rename_i t' z hz; cases h; have:t'=a:=iha hn hz; subst this; rfl
   ·cases h
  | .j6 (n+1)::q,h =>
   simp only [n6] at h
   split at h
   ·rename_i t' z hz; cases h; have:t'=b:=ihb hn hz; subst this; rfl
   ·cases h
  | .idx i::q,h=>simp [n6] at h
 | arr n t ih =>
  intro x q v y r hn h
  match q,h with
  | [],h =>
   simp only [n6] at h
   split at h
   ·rename_i hs; cases h; exact (U9 hn hs).symm
   ·cases h
  | .j6 i::q,h=>simp [n6] at h
  | .idx i::q,h =>
   simp only [n6] at h
   split at h
   ·split at h
    ·cases h; rfl
    ·cases h
   ·cases h
 | d0 o t ih =>
  intro x q v y r hn h
  match q,h with
  | [],h =>
   have h:(if v.sh=(Ty.d0 o t).sh then some (⟨v,y⟩:Sigma Ty.den) else none)=some r:=by cases o<;>exact h
   split at h
   ·rename_i hs; cases h; exact (U9 hn hs).symm
   ·cases h
  | .j6 i::q,h=>cases o<;>simp [n6] at h
  | .idx i::q,h =>
   cases o with
   | false=>simp [n6] at h
   | true =>
    simp only [n6] at h
    split at h
    ·split at h
     ·cases h; rfl
     ·cases h
    ·cases h
 | _ =>
  intro x q v y r hn h
  match q,h with
  | [],h =>
   simp only [n6] at h
   split at h
   ·rename_i hs; cases h; exact (U9 hn hs).symm
   ·cases h
  | .j6 i::q,h=>simp [n6] at h
  | .idx i::q,h=>simp [n6] at h

theorem b65:∀ {t:Ty} {x x':t.den} {q p:List Step} {v:Ty} {y:v.den} {u:Ty} {z z':List u.den},v.V0=true→n6 t x q v y=some ⟨t,x'⟩→i6 t x p=some ⟨.d0 true u,z⟩→i6 t x' p=some ⟨.d0 true u,z'⟩→z.length=z'.length:=by
 intro t
 induction t with
 | pair a b iha ihb =>
  intro x x' q p v y u z z' hn hs h h'
  match q,hs with
  | [],hs =>
   exfalso
   simp only [n6] at hs
   split at hs
   ·rename_i hsh; have e:=U9 hn hsh; have:=b6T hn (e▸a0Q h); cases this
   ·cases hs
  | .j6 0::q,hs =>
   simp only [n6] at hs
   split at hs
   ·rename_i t' w hw
    have et:t'=a:=a1m hn hw
    subst et
    cases hs
    match p,h,h' with
    | [],h,_=>simp [i6] at h
    | .j6 0::p,h,h'=>exact iha hn hw h h'
    | .j6 (m+1)::p,h,h' =>
     have:i6 b x.2 (.j6 m::p)=some ⟨.d0 true u,z⟩:=h
     have h2:i6 b x.2 (.j6 m::p)=some ⟨.d0 true u,z'⟩:=h'
     rw [this] at h2; cases h2; rfl
    | .idx i::p,h,_=>simp [i6] at h
   ·cases hs
  | .j6 (n+1)::q,hs =>
   simp only [n6] at hs
   split at hs
   ·rename_i t' w hw
    have et:t'=b:=a1m hn hw
    subst et
    cases hs
    match p,h,h' with
    | [],h,_=>simp [i6] at h
    | .j6 0::p,h,h' =>
     have:i6 a x.1 p=some ⟨.d0 true u,z⟩:=h
     have h2:i6 a x.1 p=some ⟨.d0 true u,z'⟩:=h'
     rw [this] at h2; cases h2; rfl
    | .j6 (m+1)::p,h,h'=>exact ihb (p:=.j6 m::p) hn hw h h'
    | .idx i::p,h,_=>simp [i6] at h
   ·cases hs
  | .idx i::q,hs=>simp [n6] at hs
 | arr n t ih =>
  intro x x' q p v y u z z' hn hs h h'
  match q,hs with
  | [],hs =>
   exfalso
   simp only [n6] at hs
   split at hs
   ·rename_i hsh; have e:=U9 hn hsh; rw [← e] at hn; cases hn
   ·cases hs
  | .j6 i::q,hs=>simp [n6] at hs
  | .idx i::q,hs =>
   simp only [n6] at hs
   split at hs
   ·rename_i t' w hw
    have et:t'=t:=a1m hn hw
    subst et
    rw [dif_pos rfl] at hs
    cases hs
    match p,h,h' with
    | [],h,_=>simp [i6] at h
    | .j6 m::p,h,_=>simp [i6] at h
    | .idx k::p,h,h' =>
     have h:i6 t' (List.getD x k.toNat t'.n7) p=some ⟨.d0 true u,z⟩:=h
     have h':i6 t' (List.getD (List.set x i.toNat w) k.toNat t'.n7) p=some ⟨.d0 true u,z'⟩:=h'
     rw [List.getD_eq_getElem?_getD,List.getElem?_set] at h'
     split at h'
     ·rename_i hik
      split at h'
      ·rw [← hik] at h; exact ih hn hw h h'
      ·rename_i hlt
       rw [List.getD_eq_getElem?_getD,List.getElem?_eq_none (by omega)] at h
       rw [h] at h'; cases h'; rfl
     ·rw [← List.getD_eq_getElem?_getD] at h'
      rw [h] at h'; cases h'; rfl
   ·cases hs
 | d0 o t ih =>
  intro x x' q p v y u z z' hn hs h h'
  match q,hs with
  | [],hs =>
   exfalso
   have hs:(if v.sh=(Ty.d0 o t).sh then some (⟨v,y⟩:Sigma Ty.den) else none)=some ⟨.d0 o t,x'⟩:=by cases o<;>exact hs
   split at hs
   ·rename_i hsh; have e:=U9 hn hsh; rw [← e] at hn; cases hn
   ·cases hs
  | .j6 i::q,hs=>cases o<;>simp [n6] at hs
  | .idx i::q,hs =>
   cases o with
   | false=>simp [n6] at hs
   | true =>
    simp only [n6] at hs
    split at hs
    ·rename_i t' w hw
     have et:t'=t:=a1m hn hw
     subst et
     rw [dif_pos rfl] at hs
     cases hs
     match p,h,h' with
     | [],h,h' =>
      simp only [i6,Option.some.injEq] at h h'
      cases h
      cases h'
      rw [List.length_set]
     | .j6 m::p,h,_=>simp [i6] at h
     | .idx k::p,h,h' =>
      have h:i6 t' (List.getD x k.toNat t'.n7) p=some ⟨.d0 true u,z⟩:=h
      have h':i6 t' (List.getD (List.set x i.toNat w) k.toNat t'.n7) p=some ⟨.d0 true u,z'⟩:=h'
      rw [List.getD_eq_getElem?_getD,List.getElem?_set] at h'
      split at h'
      ·rename_i hik
       split at h'
       ·rw [← hik] at h; exact ih hn hw h h'
       ·rename_i hlt
        rw [List.getD_eq_getElem?_getD,List.getElem?_eq_none (by omega)] at h
        rw [h] at h'; cases h'; rfl
      ·rw [← List.getD_eq_getElem?_getD] at h'
       rw [h] at h'; cases h'; rfl
    ·cases hs
 | _ =>
  intro x x' q p v y u z z' hn hs h h'
  exfalso
  match p,h with
  | [],h=>simp [i6] at h
  | .j6 i::p,h=>simp [i6] at h
  | .idx i::p,h=>simp [i6] at h
section
variable {E:Env} {ops:Array Oper} {s t:St}

theorem a8V {o:Oper} (hp:O7 o s=true) {p:Prop} {s1:St} (h:s8 E ops o s=some (p,s1)) :
  ∃ (T:TypeId) (a x:Operand) (j:Nat) (q:List Step) (v:Ty) (z:v.den) (e:g9) (r:Sigma Ty.den),o.op=.store T a x∧s.ev a=.ptr j q∧s.ev x=.val v z∧v.V0=true∧look j s.hp=some e∧n6 e.ty e.x q v z=some r∧(∃ u y,i6 e.ty e.x q=some ⟨u,y⟩) ∧
   s1=((s.kill j e.kd q).p9 j (e.x8 r)).put o.dst (.raw undef) ∧
   ∀ t:St,t.ev a=s.ev a→t.ev x=s.ev x→look j t.hp=some e→s8 E ops o t=some (p,((t.kill j e.kd q).p9 j (e.x8 r)).put o.dst (.raw undef)):=by
 unfold O7 at hp
 split at hp
 ·rename_i T a x hg ho
  split at hp
  ·rename_i j q v z ha hx
   have hr:∀ t,s8 E ops o t=G9 E o t:=fun t=>by unfold s8; rw [hg]
   rw [hr] at h
   have hop:∀ t,l4 E o t=(match t.ev a with|.ptr i p=>E7 E T i p (t.ev x) t|_=>.fail "store"):=fun t=>by unfold l4; rw [ho]; rfl
   have hrun:∀ t,G9 E o t=(match A5 E.nt o.dst with|false=>none|true=>match (l4 E o t).get with|none=>none|some (p,v,s')=>some (p,s'.put o.dst v)):=fun t=>by unfold G9; rw [ho]; rfl
   rw [hrun] at h
   split at h
   ·cases h
   ·rename_i hd
    rw [hop,ha] at h
    have hst:∀ t:St,t.ev a=s.ev a→t.ev x=s.ev x→l4 E o t=E7 E T j q (.val v z) t:=fun t h1 h2=>by rw [hop,h1,h2,ha,hx]
    simp only at h
    rw [hx] at h
    cases hob:look j s.hp with
    | none =>
     have:E7 E T j q (.val v z) s=.fail "store: object":=by unfold E7 St.obj; rw [hob]
     rw [this] at h; cases h
    | some e =>
     cases hgp:i6 e.ty e.x q with
     | none =>
      have:E7 E T j q (.val v z) s=.fail "store: path":=by unfold E7 St.obj; rw [hob]; simp only [hgp]
      rw [this] at h; cases h
     | some uy =>
      obtain ⟨u,y⟩:=uy
      cases hc:E9 E T u with
      | false =>
       have:E7 E T j q (.val v z) s=.fail "store: type":=by unfold E7 St.obj; rw [hob]; simp only [hgp,hc]
       rw [this] at h; cases h
      | true =>
       have hsA:∀ t:St,look j t.hp=some e→E7 E T j q (.val v z) t=(match n6 e.ty e.x q v z with
         | some r=>.ok (.raw undef) ((t.kill j e.kd q).p9 j (e.x8 r))
         | none=>.fail "store: value"):=fun t ht=>by
        unfold E7 St.obj; rw [ht]; simp only [hgp,hc,AV.U5,AV.N3,St.r8]
        rw [b5O hp]
        cases n6 e.ty e.x q v z with
        | none=>rfl
        | some r=>rfl
       rw [hsA s hob] at h
       cases hset:n6 e.ty e.x q v z with
       | none=>rw [hset] at h; cases h
       | some r =>
        rw [hset] at h
        simp only [OR.get,Option.some.injEq,Prod.mk.injEq] at h
        obtain ⟨rfl,rfl⟩:=h
        refine ⟨T,a,x,j,q,v,z,e,r,ho,ha,hx,hp,hob,hset,⟨u,y,hgp⟩,rfl,fun t h1 h2 h3=>?_⟩
        rw [hr,hrun,hd]
        simp only
        rw [hst t h1 h2,hsA t h3,hset]
        rfl
  ·cases hp
 ·cases hp

theorem b5a {T:List Nat} {f:AV→AV} (hf:Trim T f) {u v:AV} (h:f u=v) (hv:v.ref=true∨∃ t z,v=.val t z):u=v:=by
 cases u with
 | cons a b=>rw [hf.cons] at h; subst h; rcases hv with hv|⟨_,_,hv⟩<;>cases hv
 | G4 l=>rw [hf.G4] at h; subst h; rcases hv with hv|⟨_,_,hv⟩<;>cases hv
 | s5 g l=>rw [hf.s5] at h; subst h; rcases hv with hv|⟨_,_,hv⟩<;>cases hv
 | bx l=>rw [hf.bx] at h; subst h; rcases hv with hv|⟨_,_,hv⟩<;>cases hv
 | rc g l=>rw [hf.rc] at h; subst h; rcases hv with hv|⟨_,_,hv⟩<;>cases hv
 | ptr i p=>rcases hf.atom _ (rfl:(AV.ptr i p).ref=true) with e|e<;>rw [e] at h<;>first|exact h|(subst h; rcases hv with hv|⟨_,_,hv⟩<;>cases hv)
 | at_ i p=>rcases hf.atom _ (rfl:(AV.at_ i p).ref=true) with e|e<;>rw [e] at h<;>first|exact h|(subst h; rcases hv with hv|⟨_,_,hv⟩<;>cases hv)
 | sub i p x y=>rcases hf.atom _ (rfl:(AV.sub i p x y).ref=true) with e|e<;>rw [e] at h<;>first|exact h|(subst h; rcases hv with hv|⟨_,_,hv⟩<;>cases hv)
 | _=>rw [hf.plain _ rfl] at h; exact h
theorem b8o:∀ {t:Ty} {x:t.den} {q:List Step} {v:Ty} {y:v.den} {r:Sigma Ty.den},v.V0=true→n6 t x q v y=some r→C2 t q=some v:=by
 intro t
 induction t with
 | pair a b iha ihb =>
  intro x q v y r hn h
  match q,h with
  | [],h =>
   simp only [n6] at h
   split at h
   ·rename_i hs; rw [U9 hn hs]; simp [C2]
   ·cases h
  | .j6 0::q,h =>
   simp only [n6] at h
   split at h
   ·rename_i t' z hz; exact iha hn hz
   ·cases h
  | .j6 (n+1)::q,h =>
   simp only [n6] at h
   split at h
   ·rename_i t' z hz; exact ihb hn hz
   ·cases h
  | .idx i::q,h=>simp [n6] at h
 | arr n t ih =>
  intro x q v y r hn h
  match q,h with
  | [],h =>
   simp only [n6] at h
   split at h
   ·rename_i hs; rw [U9 hn hs]; simp [C2]
   ·cases h
  | .j6 i::q,h=>simp [n6] at h
  | .idx i::q,h =>
   simp only [n6] at h
   split at h
   ·rename_i t' z hz; exact ih hn hz
   ·cases h
 | d0 o t ih =>
  intro x q v y r hn h
  match q,h with
  | [],h =>
   have h:(if v.sh=(Ty.d0 o t).sh then some (⟨v,y⟩:Sigma Ty.den) else none)=some r:=by cases o<;>exact h
   split at h
   ·rename_i hs; rw [U9 hn hs]; simp [C2]
   ·cases h
  | .j6 i::q,h=>cases o<;>simp [n6] at h
  | .idx i::q,h =>
   cases o with
   | false=>simp [n6] at h
   | true =>
    simp only [n6] at h
    split at h
    ·rename_i t' z hz; exact ih hn hz
    ·cases h
 | _ =>
  intro x q v y r hn h
  match q,h with
  | [],h =>
   simp only [n6] at h
   split at h
   ·rename_i hs; rw [U9 hn hs]; simp [C2]
   ·cases h
  | .j6 i::q,h=>simp [n6] at h
  | .idx i::q,h=>simp [n6] at h

theorem a9k {y:Oper} {s1:St} (hy:I4 y s1=true) {q:Prop} {s2:St} (h:s8 E ops y s1=some (q,s2)) :
  ∃ (ins:List Operand) (a:Operand) (d:Nat) (pp:List Step) (st:Step) (u:Ty) (z:u.den),(∀ m,Operand.tmp m∈ins→m∈looks ops y)∧a∈ins∧(s1.ev a=.at_ d pp∨s1.ev a=.ptr d pp)∧s1.part d pp=some ⟨u,z⟩∧s2=s1.put y.dst (.ptr d (pp++[st]))∧(∃ w,C2 u [st]=some w) ∧
   (∀ t:St,(∀ i∈ins,t.ev i=s1.ev i)→(∃ z':u.den,t.part d pp=some ⟨u,z'⟩∧∀ v (l l':List v.den),(⟨u,z⟩:Sigma Ty.den)=⟨.d0 true v,l⟩→(⟨u,z'⟩:Sigma Ty.den)=⟨.d0 true v,l'⟩→l'.length=l.length)→I4 y t=true∧∃ q',s8 E ops y t=some (q',t.put y.dst (.ptr d (pp++[st])))∧(q→q')) ∧
   (∀ i∈ins,s1.ev i=s1.ev a∨∃ k n,s1.ev i=.val (.int k) n):=by
 have hr:y.guard=none→∀ t,s8 E ops y t=G9 E y t:=fun hg t=>by unfold s8; rw [hg]
 unfold I4 at hy
 split at hy
 ·rename_i T a i hg ho
  split at hy
  ·rename_i d pp k n ha hi
   rw [hr hg] at h
   have hrun:∀ t,G9 E y t=(match A5 E.nt y.dst with|false=>none|true=>match (l4 E y t).get with|none=>none|some (p,v,s')=>some (p,s'.put y.dst v)):=fun t=>by unfold G9; rw [ho]; rfl
   have hop:∀ t:St,t.ev a=.at_ d pp→t.ev i=.val (.int k) n→l4 E y t=(match t.part d pp with
     | some ⟨.d0 true u,z⟩=>(match E9 E T (.d0 true u) with
      | true=>.C1 (0≤n∧n<List.length z) (.ptr d (pp++[.idx n])) t
      | false=>.fail "indexAddr: type")
     | _=>.fail "indexAddr: type"):=fun t h1 h2=>by unfold l4; rw [ho]; simp only [h1,h2]; rfl
   rw [hrun,hop s1 ha hi] at h
   split at h
   ·cases h
   ·rename_i hd
    split at h
    ·cases h
    ·rename_i p v s' hget
     split at hget
     ·rename_i u z hpt
      split at hget
      ·rename_i hc
       simp only [OR.get,Option.some.injEq,Prod.mk.injEq] at hget h
       obtain ⟨rfl,rfl,rfl⟩:=hget
       obtain ⟨rfl,rfl⟩:=h
       refine ⟨[a,i],a,d,pp,.idx n,.d0 true u,z,?_,by simp,.inl ha,hpt,rfl,⟨u,by simp [C2]⟩,?_,?_⟩
       ·intro m hm
        refine I1 ?_
        rw [ho]; simp [Op.operands] at hm ⊢; rcases hm with hm|hm<;>simp [← hm]
       ·rintro t hin ⟨z',hz',hlen⟩
        have h1:=(hin a (by simp)).trans ha
        have h2:=(hin i (by simp)).trans hi
        have hl:=hlen u z z' rfl rfl
        refine ⟨by unfold I4; rw [hg,ho]; simp only [h1,h2],(0≤n∧n<List.length z'),?_,fun hq=>by rw [hl]; exact hq⟩
        rw [hr hg,hrun,hd,hop t h1 h2,hz']
        simp only [hc,OR.get]
       ·intro o ho'
        simp at ho'
        rcases ho' with rfl|rfl
        ·exact .inl rfl
        ·exact .inr ⟨k,n,hi⟩
      ·cases hget
     ·cases hget
  ·cases hy
 ·rename_i T a n hg ho
  split at hy
  ·rename_i d pp ha
   rw [hr hg] at h
   have hrun:∀ t,G9 E y t=(match A5 E.nt y.dst with|false=>none|true=>match (l4 E y t).get with|none=>none|some (p,v,s')=>some (p,s'.put y.dst v)):=fun t=>by unfold G9; rw [ho]; rfl
   have hop:∀ t:St,t.ev a=.ptr d pp→l4 E y t=(match t.part d pp with
     | some ⟨u,z⟩=>(match E9 E T u,i6 u z [.j6 n] with
      | true,some _=>.ok (.ptr d (pp++[.j6 n])) t
      | _,_=>.fail "fieldAddr: type")
     | none=>.fail "fieldAddr: path"):=fun t h1=>by unfold l4; rw [ho]; simp only [h1]; rfl
   rw [hrun,hop s1 ha] at h
   split at h
   ·cases h
   ·rename_i hd
    split at h
    ·cases h
    ·rename_i p v s' hget
     split at hget
     ·rename_i u z hpt
      split at hget
      ·rename_i r hc hgf
       simp only [OR.get,Option.some.injEq,Prod.mk.injEq] at hget h
       obtain ⟨rfl,rfl,rfl⟩:=hget
       obtain ⟨rfl,rfl⟩:=h
       refine ⟨[a],a,d,pp,.j6 n,u,z,?_,by simp,.inr ha,hpt,rfl,⟨_,a0Q hgf⟩,?_,?_⟩
       ·intro m hm
        refine I1 ?_
        rw [ho]; simp [Op.operands] at hm ⊢; simp [← hm]
       ·rintro t hin ⟨z',hz',_⟩
        have h1:=(hin a (by simp)).trans ha
        obtain ⟨w',hw'⟩:=a55 (a0Q hgf) z'
        refine ⟨by unfold I4; rw [hg,ho]; simp only [h1],True,?_,fun _=>trivial⟩
        rw [hr hg,hrun,hd,hop t h1,hz']
        simp only [hc,hw',OR.get]
       ·intro o ho'
        simp at ho'
        subst ho'
        exact .inl rfl
      ·cases hget
     ·cases hget
  ·cases hy
 ·cases hy

theorem a7p {y:Oper} (hy:a3O y=true) (s:St):i7 E y s=[]:=by
 unfold a3O at hy
 split at hy
 ·rename_i ho; unfold i7; rw [ho]
 ·rename_i ho; unfold i7; rw [ho]
 ·cases hy

theorem b6d {y:Oper} (hy:I4 y s=true):a3O y=true:=by
 unfold I4 at hy
 unfold a3O
 split at hy
 ·rename_i hg ho; simp only
 ·rename_i hg ho; simp only
 ·cases hy

theorem a4M {o:Oper} {T:TypeId} {a x:Operand} (ho:o.op=.store T a x) (v:AV):B2 o v=v:=by
 rcases a0u o with e|⟨_,x,j,hop,_⟩
 ·exact e v
 ·rw [ho] at hop; cases hop

theorem b9b {x y:Oper} (hym:y∈ops.toList) (hi:indep ops x y=true) (hu:uniq s.fr) {p q:Prop} {s1 s2:St} (h1:s8 E ops x s=some (p,s1)) (h2:s8 E ops y s1=some (q,s2)) (hx:O7 x s=true) (hy:I4 y s1=true) :
  ∃ q' s1' s2',s8 E ops y s=some (q',s1')∧(q→q')∧I4 y s=true∧s8 E ops x s1'=some (p,s2')∧uniq s1'.fr∧uniq s2'.fr∧D3 s2' s2∧i7 E y s=i7 E y s1∧i7 E x s1'=i7 E x s ∧
   (∀ m∈looks ops x,B2 x (s1'.get m)=B2 x (s.get m))∧∀ (z:Oper) m,∀ i∈i7 E x s,(B2 z (s1'.get m)).f9 i=true→(B2 z (s.get m)).f9 i=true∨m∈a8H ops:=by
 obtain ⟨ax,ay,hmod⟩:=a07 hi
 have hdd:∀ d,x.dst=some d→y.dst=some d→False:=fun d e1 e2=>hmod (by rw [e1,e2])
 obtain ⟨T,xa,xx,j,qq,v,z,e,r,ho,hxa,hxx,hnv,hob,hset,⟨u0,y0,hgq⟩,rfl,hback⟩:=a8V hx h1
 obtain ⟨ins,a,d,pp,st,u,zz,hins,hain,hva,hpt,rfl,⟨w,hst⟩,hfwd,hkind⟩:=a9k hy h2
 -- slots in the store's state
 have hfr:∀ n,look n (((s.kill j e.kd qq).p9 j (e.x8 r)).put x.dst (.raw undef)).fr=if x.dst=some n then some (.raw undef) else (look n s.fr).map (AV.kill j e.kd qq):=fun n=>by
  rw [C5]; split
  ·rfl
  ·exact E5 n _ _
 have hget:∀ m,x.dst≠some m→(((s.kill j e.kd qq).p9 j (e.x8 r)).put x.dst (.raw undef)).get m=(s.get m).kill j e.kd qq:=fun m hm=>by
  simp only [St.get,hfr,if_neg hm]
  cases look m s.fr<;>rfl
 have hev:∀ o∈ins,(((s.kill j e.kd qq).p9 j (e.x8 r)).put x.dst (.raw undef)).ev o=(s.ev o).kill j e.kd qq:=by
  intro o hoi
  cases o with
  | tmp m =>
   have hg:=hget m (fun e=>ax m e (hins m hoi))
   rw [a10,a10,hg]
   unfold gq
   cases Nat.beq m F1<;>rfl
  | const c =>
   show ofConst c=(ofConst c).kill j e.kd qq
   exact (a6s (Z8 c j)).symm
  | global g=>rfl
  | func f=>rfl
 have hback2:∀ o∈ins,s.ev o=(((s.kill j e.kd qq).p9 j (e.x8 r)).put x.dst (.raw undef)).ev o:=by
  intro o hoi
  refine b5a (Trim.kill j e.kd qq) (hev o hoi).symm ?_
  rcases hkind o hoi with h9|⟨k,n,h9⟩
  ·rw [h9]
   rcases hva with h9|h9<;>rw [h9]<;>exact .inl rfl
  ·rw [h9]; exact .inr ⟨_,_,rfl⟩
 -- the part in the store's state
 have hpart:∃ z':u.den,s.part d pp=some ⟨u,z'⟩∧∀ v (l l':List v.den),(⟨u,zz⟩:Sigma Ty.den)=⟨.d0 true v,l⟩→(⟨u,z'⟩:Sigma Ty.den)=⟨.d0 true v,l'⟩→l'.length=l.length:=by
  by_cases hdj:d=j
  ·subst hdj
   have hobj:look d (((s.kill d e.kd qq).p9 d (e.x8 r)).put x.dst (.raw undef)).hp=some (e.x8 r):=by rw [F7]; simp [St.p9,l7]
   unfold St.part St.obj at hpt ⊢
   rw [hobj] at hpt
   rw [hob]
   simp only at hpt ⊢
   obtain ⟨r1,r2⟩:=r
   have hr1:r1=e.ty:=a1m hnv hset
   have key:∀ (t:Ty) (x0 x1:t.den),n6 t x0 qq v z=some ⟨t,x1⟩→i6 t x1 pp=some ⟨u,zz⟩→∃ z':u.den,i6 t x0 pp=some ⟨u,z'⟩∧∀ v (l l':List v.den),(⟨u,zz⟩:Sigma Ty.den)=⟨.d0 true v,l⟩→(⟨u,z'⟩:Sigma Ty.den)=⟨.d0 true v,l'⟩→l'.length=l.length:=by
    intro t x0 x1 hs hg
    obtain ⟨z',hz'⟩:=a55 (a0Q hg) x0
    refine ⟨z',hz',fun v l l' e1 e2=>?_⟩
    cases e1; cases e2
    exact b65 hnv hs hz' hg
   cases e with
   | var t0 x0=>cases hr1; exact key _ x0 r2 hset hpt
   | own t0 x0=>cases hr1; exact key _ x0 r2 hset hpt
   | G1=>exact ⟨zz,hpt,fun v l l' e1 e2=>by rw [e1] at e2; cases e2; rfl⟩
  ·refine ⟨zz,?_,fun v l l' e1 e2=>by rw [e1] at e2; cases e2; rfl⟩
   rw [← hpt]
   unfold St.part St.obj
   rw [F7]
   simp only [St.p9,l7,if_neg hdj]
   rfl
 obtain ⟨hadr,q',hrun,hqq⟩:=hfwd s hback2 hpart
 have hu1:=B4 hu hrun
 have hadO:=b6d hy
 -- the new address stays behind the store
 have hkp:AV.kill j e.kd qq (.ptr d (pp++[st]))=.ptr d (pp++[st]):=by
  by_cases hdj:d=j
  ·subst hdj
   have hsurv:kp qq pp=true:=by
    have h9:=hev a hain
    rw [hback2 a hain] at h9
    rcases hva with hv|hv
    ·rw [hv] at h9
     cases pp with
     | nil=>exact b9p qq
     | cons s0 pp =>
      simp only [AV.kill,AV.map,AV.a0o,AV.f9,Nat.beq_refl] at h9
      split at h9
      ·rename_i hk; rw [Bool.and_eq_true] at hk; exact hk.2
      ·cases h9
    ·rw [hv] at h9
     simp only [AV.kill,AV.map,AV.a0o,AV.f9,Nat.beq_refl] at h9
     split at h9
     ·assumption
     ·cases h9
   obtain ⟨z',hz',_⟩:=hpart
   have hpt2:i6 e.ty e.x pp=some ⟨u,z'⟩:=by
    unfold St.part St.obj at hz'; rw [hob] at hz'; exact hz'
   have htp:C2 e.ty (pp++[st])=some w:=by
    have:∀ {t:Ty} {p:List Step} {u:Ty},C2 t p=some u→C2 t (p++[st])=C2 u [st]:=by
     intro t
     induction t with
     | pair a b iha ihb =>
      intro p u h
      match p,h with
      | [],h=>simp only [C2,Option.some.injEq] at h; subst h; rfl
      | .j6 0::p,h=>exact iha h
      | .j6 (n+1)::p,h=>exact ihb (p:=.j6 n::p) h
      | .idx i::p,h=>simp [C2] at h
     | arr n t ih =>
      intro p u h
      match p,h with
      | [],h=>simp only [C2,Option.some.injEq] at h; subst h; rfl
      | .j6 i::p,h=>simp [C2] at h
      | .idx i::p,h=>exact ih h
     | d0 o t ih =>
      intro p u h
      match p,h with
      | [],h=>cases o<;>(simp only [C2,Option.some.injEq] at h; subst h; rfl)
      | .j6 i::p,h=>cases o<;>simp [C2] at h
      | .idx i::p,h =>
       cases o with
       | true=>exact ih h
       | false=>simp [C2] at h
     | _ =>
      intro p u h
      match p,h with
      | [],h=>simp only [C2,Option.some.injEq] at h; subst h; rfl
      | .j6 i::p,h=>simp [C2] at h
      | .idx i::p,h=>simp [C2] at h
    rw [this (a0Q hpt2)]; exact hst
   have:=b8G (b8o hnv hset) hnv htp hsurv
   simp only [AV.kill,AV.map,AV.a0o,AV.f9,Nat.beq_refl,this]
  ·exact a6s (by
    simp only [AV.f9]
    cases hb9:Nat.beq j d with
    | false=>rfl
    | true=>exact absurd (Nat.eq_of_beq_eq_true hb9).symm hdj)
 have hevx:∀ o,(∀ m,o=.tmp m→m∈looks ops x)→(s.put y.dst (.ptr d (pp++[st]))).ev o=s.ev o:=by
  intro o hm
  cases o with
  | tmp m =>
   refine K6 (t:=s.put y.dst _) ?_
   simp only [St.get,C5]
   rw [if_neg (fun e=>ay m e (hm m rfl))]
  | _=>rfl
 have hlx:∀ o,o=xa∨o=xx→∀ m,o=.tmp m→m∈looks ops x:=by
  intro o hoo m hm
  refine I1 ?_
  rw [ho]; simp [Op.operands]
  rcases hoo with rfl|rfl<;>simp [hm]
 have hb:=hback (s.put y.dst (.ptr d (pp++[st]))) (hevx xa (hlx xa (.inl rfl))) (hevx xx (hlx xx (.inr rfl))) (by rw [F7]; exact hob)
 have hgx:∀ m∈looks ops x,(s.put y.dst (.ptr d (pp++[st]))).get m=s.get m:=fun m hm=>by
  simp only [St.get,C5]
  rw [if_neg (fun e=>ay m e hm)]
 refine ⟨q',_,_,hrun,hqq,hadr,hb,hu1,B4 hu1 hb,⟨fun n=>?_,fun i=>?_⟩,?_,?_,fun m hm=>by rw [hgx m hm],?_⟩
 ·rw [C5,C5,hfr]
  have e2:look n ((((s.put y.dst (.ptr d (pp++[st]))).kill j e.kd qq).p9 j (e.x8 r))).fr=(look n (s.put y.dst (.ptr d (pp++[st]))).fr).map (AV.kill j e.kd qq):=E5 n _ _
  rw [e2,C5]
  by_cases c1:x.dst=some n
  ·rw [if_pos c1,if_neg (fun c2=>hdd n c1 c2),if_pos c1]
  ·rw [if_neg c1,if_neg c1]
   by_cases c2:y.dst=some n
   ·rw [if_pos c2,if_pos c2,Option.map_some,hkp]
   ·rw [if_neg c2,if_neg c2]
 ·rw [F7,F7,F7]
  simp only [St.p9,l7,St.kill,F7]
 ·rw [a7p hadO,a7p hadO]
 ·exact a19 (fun m hm=>by rw [hgx m hm])
 ·intro zo m i hi hm
  by_cases c2:y.dst=some m
  ·refine .inr (List.mem_filterMap.2 ⟨y,hym,?_⟩)
   rw [hadO]; exact c2
  ·have:(s.put y.dst (.ptr d (pp++[st]))).get m=s.get m:=by
    simp only [St.get,C5]; rw [if_neg c2]
   rw [this] at hm
   exact .inl hm
end

section
variable {E:Env} {ops:Array Oper} {s t:St}
theorem a4O {y:Oper} {j:Nat} {kd:Bool×Ty} {q:List Step} (h:a0s y s=some (j,kd,q)):O7 y s=true∧∃ T a x e,y.op=.store T a x∧s.ev a=.ptr j q∧look j s.hp=some e∧e.kd=kd:=by
 unfold a0s at h
 split at h
 ·rename_i T a x hp ho
  split at h
  ·rename_i j' q' ha
   cases hl:look j' s.hp with
   | none=>rw [hl] at h; cases h
   | some e =>
    rw [hl] at h
    simp only [Option.map_some,Option.some.injEq,Prod.mk.injEq] at h
    obtain ⟨rfl,rfl,rfl⟩:=h
    exact ⟨hp,T,a,x,e,ho,ha,hl,rfl⟩
  ·cases h
 ·cases h

theorem b2J {y:Oper} (hp:O7 y s=true) {T a x} (ho:y.op=.store T a x) {j:Nat} {q:List Step} (ha:s.ev a=.ptr j q) {e:g9} (he:look j s.hp=some e):a0s y s=some (j,e.kd,q):=by
 unfold a0s
 rw [hp,ho]
 simp only [ha,he,Option.map_some]

theorem b5J {j:Nat} {kd:Bool×Ty} {q:List Step} {s:St} {m:Nat} (h:a28 j kd q (s.ev (.tmp m))=true):s.get m=s.ev (.tmp m) :=
 T6 rfl (fun e=>by rw [e] at h; cases h)

theorem a06 {j:Nat} {kd:Bool×Ty} {q:List Step} {v:AV} (h:a28 j kd q v=true):v.kill j kd q=v:=by
 cases v<;>simp only [a28] at h<;>try (cases h; done)
 ·rename_i t x; rfl
 ·rename_i i p
  simp only [AV.kill,AV.map,AV.a0o,AV.f9]
  cases hb:Nat.beq j i with
  | false=>rfl
  | true=>rw [hb] at h; simp only [Bool.not_true,Bool.false_or] at h; simp only [h]
 ·rename_i i p
  rcases (Trim.kill j kd q).atom (.at_ i p) rfl with e|e
  ·exact e
  ·have e9:AV.a0o j kd q (.at_ i p)=.any:=e
   rw [e9] at h
   show AV.a0o j kd q (.at_ i p)=.at_ i p
   cases hb:Nat.beq j i with
   | false=>simp only [AV.a0o,AV.f9,hb]
   | true=>rw [hb] at h; cases h

theorem a6W {o:Oper} (hg:o.guard=none) {m:Nat} (h:m∈looks ops o):Operand.tmp m∈o.op.operands.toList:=by
 unfold looks at h
 rw [hg] at h
 simp only [List.append_nil] at h
 obtain ⟨x,hx,hm⟩:=List.mem_filterMap.1 h
 cases x<;>simp at hm
 rw [← hm]; exact hx

theorem b2S {i:Nat} {pp:List Step} {u:Ty} {z:u.den} (hh:P9 t i=P9 s i) (h:s.part i pp=some ⟨u,z⟩):∃ z':u.den,t.part i pp=some ⟨u,z'⟩:=by
 unfold St.part St.obj at h ⊢
 unfold P9 at hh
 cases hl:look i s.hp with
 | none=>rw [hl] at h; cases h
 | some e =>
  rw [hl] at h hh
  cases hl2:look i t.hp with
  | none=>rw [hl2] at hh; cases hh
  | some e' =>
   rw [hl2] at hh
   simp only [Option.map_some,Option.some.injEq,g9.kd,Prod.mk.injEq] at hh
   have h9:=a0Q h
   rw [← hh.2] at h9
   exact a55 h9 e'.x

theorem b69 {o:Oper} {j:Nat} {kd:Bool×Ty} {q:List Step} (hk:a2h o s j kd q=true) {p:Prop} {s1:St} (h:s8 E ops o s=some (p,s1)) :
  ∃ v:AV,s1=s.put o.dst v∧v.kill j kd q=v∧(∀ m∈looks ops o,(s.get m).kill j kd q=s.get m)∧(∀ z,B2 o z=z)∧(∀ t,i7 E o t=[]) ∧
   ∀ t:St,(∀ m∈looks ops o,t.get m=s.get m)→(∀ i,P9 t i=P9 s i)→s8 E ops o t=some (p,t.put o.dst v):=by
 have hvw:∀ z,(∀ T a x,o.op≠.store T a x)→(∀ x j,o.op≠.extract x j)→B2 o z=z:=by
  intro z _ he
  rcases a0u o with e|⟨_,x,j,hop,_⟩
  ·exact e z
  ·exact absurd hop (he x j)
 unfold a2h at hk
 split at hk
 ·rename_i a hg ho
  have hr:∀ t,s8 E ops o t=(match A5 E.nt o.dst with|false=>none|true=>some (True,t.put o.dst (t.ev a))):=fun t=>by unfold s8 G9 l4; rw [hg,ho]; rfl
  have hkv:=a06 hk
  have hin:∀ m∈looks ops o,a=.tmp m:=fun m hm=>by
   have:=a6W hg hm
   rw [ho] at this
   simpa [Op.operands,eq_comm] using this
  rw [hr] at h
  split at h
  ·cases h
  ·rename_i hd
   simp only [Option.some.injEq,Prod.mk.injEq] at h
   obtain ⟨rfl,rfl⟩:=h
   refine ⟨s.ev a,rfl,hkv,fun m hm=>?_,fun z=>hvw z (by rw [ho]; intros; nofun) (by rw [ho]; intros; nofun),fun t=>by unfold i7; rw [ho],fun t ht _=>?_⟩
   ·have:=hin m hm; subst this; rw [b5J hk]; exact hkv
   ·rw [hr,hd]
    have:t.ev a=s.ev a:=by
     cases a with
     | tmp m=>exact K6 (ht m (I1 (by rw [ho]; simp [Op.operands])))
     | _=>rfl
    rw [this]
 ·rename_i T a n hg ho
  split at hk
  ·rename_i i pp ha
   rw [Bool.and_eq_true] at hk
   have hr:∀ t,s8 E ops o t=G9 E o t:=fun t=>by unfold s8; rw [hg]
   have hrun:∀ t,G9 E o t=(match A5 E.nt o.dst with|false=>none|true=>match (l4 E o t).get with|none=>none|some (p,v,s')=>some (p,s'.put o.dst v)):=fun t=>by unfold G9; rw [ho]; rfl
   have hop:∀ t:St,t.ev a=.ptr i pp→l4 E o t=(match t.part i pp with
     | some ⟨u,z⟩=>(match E9 E T u,i6 u z [.j6 n] with
      | true,some _=>.ok (.ptr i (pp++[.j6 n])) t
      | _,_=>.fail "fieldAddr: type")
     | none=>.fail "fieldAddr: path"):=fun t h1=>by unfold l4; rw [ho]; simp only [h1]; rfl
   have hin:∀ m∈looks ops o,a=.tmp m:=fun m hm=>by
    have:=a6W hg hm
    rw [ho] at this
    simpa [Op.operands,eq_comm] using this
   rw [hr,hrun,hop s ha] at h
   split at h
   ·cases h
   ·rename_i hd
    split at h
    ·cases h
    ·rename_i p v s' hget
     split at hget
     ·rename_i u z hpt
      split at hget
      ·rename_i r hc hgf
       simp only [OR.get,Option.some.injEq,Prod.mk.injEq] at hget h
       obtain ⟨rfl,rfl,rfl⟩:=hget
       obtain ⟨rfl,rfl⟩:=h
       refine ⟨_,rfl,a06 hk.2,fun m hm=>?_,fun z=>hvw z (by rw [ho]; intros; nofun) (by rw [ho]; intros; nofun),fun t=>by unfold i7; rw [ho],fun t ht hh=>?_⟩
       ·have:=hin m hm; subst this; rw [T6 ha nofun]; exact a06 hk.1
       ·have h1:t.ev a=.ptr i pp:=by
         rw [← ha]
         cases a with
         | tmp m=>exact K6 (ht m (I1 (by rw [ho]; simp [Op.operands])))
         | _=>rfl
        obtain ⟨z',hz'⟩:=b2S (hh i) hpt
        obtain ⟨w',hw'⟩:=a55 (a0Q hgf) z'
        rw [hr,hrun,hd,hop t h1,hz']
        simp only [hc,hw',OR.get]
      ·cases hget
     ·cases hget
  ·cases hk
 ·rename_i T a hg ho
  split at hk
  ·rename_i i pp ha
   simp only [Bool.and_eq_true] at hk
   obtain ⟨⟨k1,k2⟩,k3⟩:=hk
   have hr:∀ t,s8 E ops o t=G9 E o t:=fun t=>by unfold s8; rw [hg]
   have hrun:∀ t,G9 E o t=(match A5 E.nt o.dst with|false=>none|true=>match (l4 E o t).get with|none=>none|some (p,v,s')=>some (p,s'.put o.dst v)):=fun t=>by unfold G9; rw [ho]; rfl
   have hop:∀ t:St,t.ev a=.ptr i pp→l4 E o t=(match t.part i pp with
     | some ⟨u,y⟩=>(match E9 E T u with
      | true=>(match u.shared with|true=>.ok (.val u y) t|false=>.ok (.at_ i pp) t)
      | false=>.fail "load: type")
     | none=>.fail "load: path"):=fun t h1=>by unfold l4; rw [ho]; simp only [h1]; rfl
   have hin:∀ m∈looks ops o,a=.tmp m:=fun m hm=>by
    have:=a6W hg hm
    rw [ho] at this
    simpa [Op.operands,eq_comm] using this
   rw [hr,hrun,hop s ha] at h
   split at h
   ·cases h
   ·rename_i hd
    split at h
    ·cases h
    ·rename_i p v s' hget
     split at hget
     ·rename_i u z hpt
      have hus:u.shared=false:=by
       split at k3
       ·rename_i k hk9
        split at k3
        ·rename_i u' hu'
         have:u'=u:=by
          unfold St.part St.obj at hpt
          unfold P9 at hk9
          cases hl:look i s.hp with
          | none=>rw [hl] at hpt; cases hpt
          | some e =>
           rw [hl] at hpt hk9
           simp only [Option.map_some,Option.some.injEq] at hk9
           subst hk9
           have h9:=a0Q hpt
           have h8:C2 e.ty pp=some u':=hu'
           rw [h9] at h8; cases h8; rfl
         subst this
         simpa using k3
        ·cases k3
       ·cases k3
      split at hget
      ·rename_i hc
       rw [hus] at hget
       simp only [OR.get,Option.some.injEq,Prod.mk.injEq] at hget h
       obtain ⟨rfl,rfl,rfl⟩:=hget
       obtain ⟨rfl,rfl⟩:=h
       refine ⟨_,rfl,a06 k2,fun m hm=>?_,fun z=>hvw z (by rw [ho]; intros; nofun) (by rw [ho]; intros; nofun),fun t=>by unfold i7; rw [ho],fun t ht hh=>?_⟩
       ·have:=hin m hm; subst this; rw [T6 ha nofun]; exact a06 k1
       ·have h1:t.ev a=.ptr i pp:=by
         rw [← ha]
         cases a with
         | tmp m=>exact K6 (ht m (I1 (by rw [ho]; simp [Op.operands])))
         | _=>rfl
        obtain ⟨z',hz'⟩:=b2S (hh i) hpt
        rw [hr,hrun,hd,hop t h1,hz']
        simp only [hc,hus,OR.get]
      ·cases hget
     ·cases hget
  ·cases hk
 ·cases hk

theorem b9c {x y:Oper} (hi:indep ops x y=true) (hu:uniq s.fr) {p q:Prop} {s1 s2:St} (h1:s8 E ops x s=some (p,s1)) (h2:s8 E ops y s1=some (q,s2)) {j:Nat} {kd:Bool×Ty} {qq:List Step} (hs:a0s y s1=some (j,kd,qq)) (hk:a2h x s j kd qq=true) :
  ∃ s1' s2',s8 E ops y s=some (q,s1')∧s8 E ops x s1'=some (p,s2')∧uniq s1'.fr∧uniq s2'.fr∧D3 s2' s2∧i7 E y s=i7 E y s1∧i7 E x s1'=i7 E x s ∧
   (∀ m∈looks ops x,B2 x (s1'.get m)=B2 x (s.get m))∧i7 E x s=[]∧(∀ i,P9 s1' i=P9 s i)∧a0s y s=some (j,kd,qq)∧I4 y s1=false:=by
 obtain ⟨ax,ay,hmod⟩:=a07 hi
 have hdd:∀ d,x.dst=some d→y.dst=some d→False:=fun d e1 e2=>hmod (by rw [e1,e2])
 obtain ⟨v,rfl,hvk,hlk,hvw,htk,hagain⟩:=b69 hk h1
 obtain ⟨hps,T0,a0,x0,e0,ho0,ha0,he0,hkd0⟩:=a4O hs
 obtain ⟨T,xa,xx,j',qq',v9,z,e,r,ho,hxa,hxx,hnv,hob,hset,⟨u0,y0,hgq⟩,rfl,hback⟩:=a8V hps h2
 rw [ho0] at ho; cases ho
 rw [ha0] at hxa; cases hxa
 rw [he0] at hob; cases hob
 have hgy:∀ m∈looks ops y,(s.put x.dst v).get m=s.get m:=fun m hm=>by
  simp only [St.get,C5]
  rw [if_neg (fun e=>ax m e hm)]
 have hevy:∀ o,o∈y.op.operands.toList→s.ev o=(s.put x.dst v).ev o:=by
  intro o hm
  cases o with
  | tmp m=>exact (K6 (hgy m (I1 hm))).symm
  | _=>rfl
 have heva:=hevy a0 (by rw [ho0]; simp [Op.operands])
 have hevx:=hevy x0 (by rw [ho0]; simp [Op.operands])
 have hob2:look j s.hp=some e0:=by rw [← he0,F7]
 have hb:=hback s heva hevx hob2
 subst hkd0
 have hkk:∀ i,P9 (((s.kill j e0.kd qq).p9 j (e0.x8 r)).put y.dst (.raw undef)) i=P9 s i:=by
  intro i
  unfold P9
  rw [F7]
  simp only [St.p9,l7]
  split
  ·rename_i hij
   subst hij
   rw [hob2]
   have hr1:r.1=e0.ty:=a1m hnv hset
   cases e0 with
   | var t1 x1=>exact congrArg (fun t=>some (false,t)) hr1
   | own t1 x1=>exact congrArg (fun t=>some (true,t)) hr1
   | G1=>rfl
  ·rfl
 have hgx:∀ m∈looks ops x,(((s.kill j e0.kd qq).p9 j (e0.x8 r)).put y.dst (.raw undef)).get m=s.get m:=by
  intro m hm
  have:(((s.kill j e0.kd qq).p9 j (e0.x8 r)).put y.dst (.raw undef)).get m=(s.get m).kill j e0.kd qq:=by
   simp only [St.get,C5]
   rw [if_neg (fun e=>ay m e hm)]
   have e2:look m ((s.kill j e0.kd qq).p9 j (e0.x8 r)).fr=(look m s.fr).map (AV.kill j e0.kd qq):=E5 m _ _
   rw [e2]
   cases look m s.fr<;>rfl
  rw [this]; exact hlk m hm
 have hx2:=hagain _ hgx hkk
 refine ⟨_,_,hb,hx2,B4 hu hb,B4 (B4 hu hb) hx2,⟨fun n=>?_,fun i=>?_⟩,a19 (fun m hm=>by rw [hgy m hm]),by rw [htk,htk],fun m hm=>by rw [hgx m hm],htk s,hkk,?_,?_⟩
 ·rw [C5,C5,C5]
  have e1:look n ((s.kill j e0.kd qq).p9 j (e0.x8 r)).fr=(look n s.fr).map (AV.kill j e0.kd qq):=E5 n _ _
  have e2:look n (((s.put x.dst v).kill j e0.kd qq).p9 j (e0.x8 r)).fr=(look n (s.put x.dst v).fr).map (AV.kill j e0.kd qq):=E5 n _ _
  rw [e1,e2,C5]
  by_cases c1:x.dst=some n
  ·rw [if_pos c1,if_neg (fun c2=>hdd n c1 c2),if_pos c1,Option.map_some,hvk]
  ·rw [if_neg c1,if_neg c1]
 ·rw [F7,F7,F7]
  simp only [St.p9,l7,St.kill,F7]
 ·have hps2:O7 y s=true:=by
   have h0:=hps
   unfold O7 at h0 ⊢
   split at h0
   ·rename_i T' a' x' hg' ho'
    rw [ho0] at ho'; cases ho'
    simp only [heva,hevx]
    exact h0
   ·cases h0
  exact b2J hps2 ho0 (heva.trans ha0) hob2
 ·unfold I4
  rw [ho0]
  split<;>first|rfl|(rename_i e9; cases e9)

end

section
variable {E:Env} {ops:Array Oper} {M:Nat→Nat} {s t:St}

def b9D (ops:Array Oper) (x:Oper) (sx:St) (Tx:List Nat) (y:Oper) (Ty:List Nat):Prop:=a1N ops x sx Tx y Ty∧(Tx≠[]→∀ m∈looks ops y,m∉a8H ops)

def a2o (E:Env) (ops:Array Oper) (x:Oper) (sx:St) (y:Oper) (sy:St):Prop:=b9D ops x sx (i7 E x sx) y (i7 E y sy)∨(O7 x sx=true∧I4 y sy=true)∨∃ j kd q,a0s y sy=some (j,kd,q)∧a2h x sx j kd q=true

def a2l (E:Env) (ops:Array Oper) (M:Nat→Nat):List (Nat×St)→List Nat→St→St→Prop
 | _,[],s,s'=>s=s'
 | acc,i::l,s,s'=>∃ o,ops[i]?=some o∧(∀ e∈acc,(M i).testBit e.1=true∨∃ x,ops[e.1]?=some x∧a2o E ops x e.2 o s) ∧
   ∃ p s1,s8 E ops o s=some (p,s1)∧p∧a2l E ops M ((i,s)::acc) l s1 s'

theorem a8U {M:List Nat} {k:St→Tree (E.rs++x5 E.ps)} {L:Code→List Item→St→Prop} {R:DL (E.rs++x5 E.ps)→Prop}:∀ {l:List Oper} {n:Nat} {s:St} {acc:List Met} {acc':List (Nat×St)},ops.toList.drop n=l →
  (∀ e∈acc',∃ m∈acc,m.i=e.1∧ops[e.1]?=some m.o∧m.s=e.2∧m.T=i7 E m.o e.2)→(b3K E ops M n l s acc k).holds L R →
  ∃ s',a2l E ops (fun i=>M.getD i 0) acc' (List.range' n l.length) s s'∧(k s').holds L R
 | [],n,s,acc,acc',_,_,h=>⟨s,rfl,h⟩
 | o::l,n,s,acc,acc',hl,ha,h=>by
  obtain ⟨ho,hl',_⟩:=R3 hl
  simp only [b3K] at h
  split at h
  ·exact h.elim
  ·rename_i hall
   obtain ⟨p,s1,h1,h2,h3⟩:=R8.1 h
   have hacc:∀ e∈acc',(M.getD n 0).testBit e.1=true∨∃ x,ops[e.1]?=some x∧a2o E ops x e.2 o s:=by
    intro e he
    obtain ⟨m,hm,m1,m2,m3,m4⟩:=ha e he
    have:=(List.all_eq_true.1 hall) m hm
    simp only [Bool.or_eq_true] at this
    rcases this with this|this
    ·exact .inl (by rw [← m1]; exact this)
    ·simp only [a9P,Bool.or_eq_true,Bool.and_eq_true] at this
     rcases this with (⟨h9,h8⟩|⟨h9,h8⟩)|h9
     ·have hp:=a2r h9
      rw [m3,m4] at hp
      refine .inr ⟨m.o,m2,.inl ⟨hp,fun hne x hx hxa=>?_⟩⟩
      rw [m4] at h8
      split at h8
      ·rename_i hnil; exact hne hnil
      ·have:=(List.all_eq_true.1 h8) x hx
       simp at this
       exact this hxa
     ·rw [m3] at h9
      exact .inr ⟨m.o,m2,.inr (.inl ⟨h9,h8⟩)⟩
     ·unfold b33 at h9
      split at h9
      ·rename_i j kd q hst
       rw [m3] at h9
       exact .inr ⟨m.o,m2,.inr (.inr ⟨j,kd,q,hst,h9⟩)⟩
      ·cases h9
   obtain ⟨s',k1,k2⟩:=a8U (acc':=(n,s)::acc') hl' (fun e he=>by
    rcases List.mem_cons.1 he with rfl|he
    ·exact ⟨_,List.mem_cons_self ..,rfl,ho,rfl,rfl⟩
    ·obtain ⟨m,hm,r⟩:=ha e he; exact ⟨m,List.mem_cons_of_mem _ hm,r⟩) h3
   exact ⟨s',⟨o,ho,hacc,p,s1,h1,h2,k1⟩,k2⟩

def b88 (E:Env) (ops:Array Oper) (acc acc':List (Nat×St)):Prop :=
 ∀ e'∈acc',∃ e∈acc,e.1=e'.1∧∀ x,ops[e.1]?=some x→(∀ m∈looks ops x,B2 x (e'.2.get m)=B2 x (e.2.get m))∧i7 E x e'.2=i7 E x e.2∧(∀ (z:Oper) m,∀ k∈i7 E x e.2,(B2 z (e'.2.get m)).f9 k=true→(B2 z (e.2.get m)).f9 k=true∨m∈a8H ops) ∧
  ∀ m∈looks ops x,∀ i,(B2 x (e.2.get m)).f9 i=true→P9 e'.2 i=P9 e.2 i

theorem a6n {x:Oper} {sx sx':St} (h:O7 x sx=true) (h1:∀ m∈looks ops x,B2 x (sx'.get m)=B2 x (sx.get m)):O7 x sx'=true:=by
 have h0:=h
 unfold O7 at h
 split at h
 ·rename_i T a v hg ho
  have hev:∀ o,o=a∨o=v→sx'.ev o=sx.ev o:=by
   intro o hoo
   cases o with
   | tmp m =>
    have:=h1 m (I1 (by rw [ho]; simp [Op.operands]; rcases hoo with e|e<;>simp [← e]))
    rw [a4M ho,a4M ho] at this
    exact K6 this
   | _=>rfl
  unfold O7 at h0 ⊢
  rw [hg,ho] at h0 ⊢
  simp only [hev a (.inl rfl),hev v (.inr rfl)]
  exact h0
 ·cases h

theorem a4s {y:Oper} {sy sy':St} (h:I4 y sy=true) (h1:∀ m∈looks ops y,B2 y (sy'.get m)=B2 y (sy.get m)):I4 y sy'=true:=by
 have hvw:∀ v,B2 y v=v:=by
  intro v
  rcases a0u y with e|⟨_,x,j,hop,_⟩
  ·exact e v
  ·unfold I4 at h; rw [hop] at h; split at h<;>first|(rename_i e9; cases e9; done)|(cases h; done)
 have hev:∀ o∈y.op.operands.toList,sy'.ev o=sy.ev o:=by
  intro o hoo
  cases o with
  | tmp m =>
   have:=h1 m (I1 hoo)
   rw [hvw,hvw] at this
   exact K6 this
  | _=>rfl
 unfold I4 at h ⊢
 split at h
 ·rename_i T a i hg ho
  simp only [hev a (by rw [ho]; simp [Op.operands]),hev i (by rw [ho]; simp [Op.operands])]
  exact h
 ·rename_i T a n hg ho
  simp only [hev a (by rw [ho]; simp [Op.operands])]
  exact h
 ·cases h

theorem a6N {y:Oper} {sy sy':St} {r:Nat×(Bool×Ty)×List Step} (h:a0s y sy=some r) (h1:∀ m∈looks ops y,B2 y (sy'.get m)=B2 y (sy.get m)) (h2:∀ m∈looks ops y,∀ i,(B2 y (sy.get m)).f9 i=true→P9 sy' i=P9 sy i):a0s y sy'=some r:=by
 obtain ⟨j,kd,q⟩:=r
 obtain ⟨hp,T,a,x,e,ho,ha,he,rfl⟩:=a4O h
 have hp':=a6n (ops:=ops) hp h1
 have hvw:∀ v,B2 y v=v:=a4M ho
 cases a with
 | tmp m =>
  have hm:m∈looks ops y:=I1 (by rw [ho]; simp [Op.operands])
  have hg:sy.get m=.ptr j q:=T6 ha nofun
  have hg':sy'.get m=.ptr j q:=by have:=h1 m hm; rw [hvw,hvw] at this; rw [this]; exact hg
  have hh:=h2 m hm j (by rw [hvw,hg]; simp only [AV.f9]; exact Nat.beq_refl j)
  unfold P9 at hh
  rw [he] at hh
  cases hl:look j sy'.hp with
  | none=>rw [hl] at hh; cases hh
  | some e' =>
   rw [hl] at hh
   simp only [Option.map_some,Option.some.injEq] at hh
   rw [← hh]
   exact b2J hp' ho (b28 (a7Z ha nofun) hg') hl
 | const c=>exact absurd ha (by intro e9; have:=Z8 c j; rw [show ofConst c=.ptr j q from e9] at this; simp only [AV.f9] at this; rw [Nat.beq_refl] at this; cases this)
 | global g=>cases ha
 | func f=>cases ha

theorem b5I {x:Oper} {sx sx':St} {j:Nat} {kd:Bool×Ty} {q:List Step} (h:a2h x sx j kd q=true) (h1:∀ m∈looks ops x,B2 x (sx'.get m)=B2 x (sx.get m)) (h2:∀ m∈looks ops x,∀ i,(B2 x (sx.get m)).f9 i=true→P9 sx' i=P9 sx i):a2h x sx' j kd q=true:=by
 have hvw:∀ v,B2 x v=v:=by
  intro v
  rcases a0u x with e|⟨_,y,k,hop,_⟩
  ·exact e v
  ·unfold a2h at h; rw [hop] at h; split at h<;>first|(rename_i e9; cases e9; done)|(cases h; done)
 have hev:∀ o∈x.op.operands.toList,sx'.ev o=sx.ev o:=by
  intro o hoo
  cases o with
  | tmp m =>
   have:=h1 m (I1 hoo)
   rw [hvw,hvw] at this
   exact K6 this
  | _=>rfl
 unfold a2h at h ⊢
 split at h
 ·rename_i a hg ho
  simp only [hev a (by rw [ho]; simp [Op.operands])]
  exact h
 ·rename_i T a n hg ho
  simp only [hev a (by rw [ho]; simp [Op.operands])]
  exact h
 ·rename_i T a hg ho
  simp only [hev a (by rw [ho]; simp [Op.operands])]
  split at h
  ·rename_i i p ha
   have:P9 sx' i=P9 sx i:=by
    cases a with
    | tmp m =>
     have hm:m∈looks ops x:=I1 (by rw [ho]; simp [Op.operands])
     have hg9:sx.get m=.ptr i p:=T6 ha nofun
     exact h2 m hm i (by rw [hvw,hg9]; simp only [AV.f9]; exact Nat.beq_refl i)
    | const c=>exact absurd ha (by intro e9; have:=Z8 c i; rw [show ofConst c=.ptr i p from e9] at this; simp only [AV.f9] at this; rw [Nat.beq_refl] at this; cases this)
    | global g=>cases ha
    | func f=>cases ha
   rw [this]
   exact h
  ·cases h
 ·cases h

theorem a2o.b0N {x:Oper} {sx sx':St} {y:Oper} {sy sy':St} (h:a2o E ops x sx y sy) (h1:∀ m∈looks ops x,B2 x (sx'.get m)=B2 x (sx.get m)) (h2:i7 E x sx'=i7 E x sx) (h3:∀ (z:Oper) m,∀ k∈i7 E x sx,(B2 z (sx'.get m)).f9 k=true→(B2 z (sx.get m)).f9 k=true∨m∈a8H ops)
  (h4:∀ m∈looks ops x,∀ i,(B2 x (sx.get m)).f9 i=true→P9 sx' i=P9 sx i) (hT:i7 E y sy'=i7 E y sy) (hA:I4 y sy=true→I4 y sy'=true) (hS:∀ r,a0s y sy=some r→a0s y sy'=some r):a2o E ops x sx' y sy':=by
 rcases h with ⟨⟨P1,P2,P3⟩,hn⟩|⟨k1,k2⟩|⟨j,kd,q,k1,k2⟩
 ·refine .inl ?_
  rw [hT,h2]
  refine ⟨⟨fun m hm i hi=>?_,fun m hm i hi=>by rw [h1 m hm]; exact P2 m hm i hi,P3⟩,hn⟩
  cases hh:(B2 y (sx'.get m)).f9 i with
  | false=>rfl
  | true =>
   rcases h3 y m i hi hh with h9|h9
   ·rw [P1 m hm i hi] at h9; cases h9
   ·exact absurd h9 (hn (fun e=>by rw [e] at hi; cases hi) m hm)
 ·exact .inr (.inl ⟨a6n k1 h1,hA k2⟩)
 ·exact .inr (.inr ⟨j,kd,q,hS _ k1,b5I k2 h1 h4⟩)

theorem b25 (h:D3 s t) (i:Nat):P9 t i=P9 s i:=by unfold P9; rw [h.2 i]
theorem b6z {o:Oper} (h:D3 s t) {r:Nat×(Bool×Ty)×List Step} (ha:a0s o s=some r):a0s o t=some r:=a6N (ops:=#[]) ha (fun m _=>by rw [h.get m]) (fun _ _ i _=>b25 h i)
theorem b4M {o:Oper} (h:D3 s t) (ha:I4 o s=true):I4 o t=true:=a4s (ops:=#[]) ha (fun m _=>by rw [h.get m])

theorem a3X:∀ {l:List Nat} {acc acc':List (Nat×St)} {s t s':St},b88 E ops acc acc'→uniq s.fr→D3 s t→uniq t.fr→a2l E ops M acc l s s'→∃ t',a2l E ops M acc' l t t'∧D3 s' t'
 | [],acc,acc',s,t,s',_,_,he,_,h=>⟨t,rfl,by rw [← show s=s' from h]; exact he⟩
 | i::l,acc,acc',s,t,s',hg,hu,he,ht,⟨o,ho,hc,p,s1,h1,h2,h3⟩=>by
  obtain ⟨t1,k1,k2,k3⟩:=a4X hu he ht h1
  obtain ⟨t',m1,m2⟩:=a3X (acc:=(i,s)::acc) (acc':=(i,t)::acc') (fun e' he'=>by
   rcases List.mem_cons.1 he' with rfl|he'
   ·exact ⟨(i,s),by simp,rfl,fun x _=>⟨fun m _=>by show B2 x (t.get m)=B2 x (s.get m); rw [he.get m],a21 he,fun z m k _ hm=>.inl (by have hm:(B2 z (t.get m)).f9 k=true:=hm; rw [← he.get m] at hm; exact hm),fun _ _ i _=>b25 he i⟩⟩
   ·obtain ⟨e,h4,h5,h6⟩:=hg e' he'; exact ⟨e,by simp [h4],h5,h6⟩) (B4 hu h1) k3 k2 h3
  refine ⟨t',⟨o,ho,fun e' he'=>?_,p,t1,k1,h2,m1⟩,m2⟩
  obtain ⟨e,h4,h5,h6⟩:=hg e' he'
  rw [← h5]
  rcases hc e h4 with h|⟨x,hx,hP⟩
  ·exact .inl h
  ·obtain ⟨g1,g2,g3,g4⟩:=h6 x hx
   exact .inr ⟨x,hx,hP.b0N g1 g2 g3 g4 (a21 he) (b4M he) (fun _=>b6z he)⟩

theorem b9S {x y:Oper} (hym:y∈ops.toList) (hi:indep ops x y=true) (hu:uniq s.fr) (hx:∀ d,x.dst=some d→(s.get d).clean=true) {p q:Prop} {s1 s2:St} (h1:s8 E ops x s=some (p,s1)) (h2:s8 E ops y s1=some (q,s2)) (hP:a2o E ops x s y s1) :
  ∃ q' s1' s2',s8 E ops y s=some (q',s1')∧(q→q')∧((I4 y s1=true→I4 y s=true)∧∀ r,a0s y s1=some r→a0s y s=some r)∧s8 E ops x s1'=some (p,s2')∧uniq s1'.fr∧uniq s2'.fr∧D3 s2' s2∧i7 E y s=i7 E y s1∧i7 E x s1'=i7 E x s ∧
   (∀ m∈looks ops x,B2 x (s1'.get m)=B2 x (s.get m))∧(∀ (z:Oper) m,∀ i∈i7 E x s,(B2 z (s1'.get m)).f9 i=true→(B2 z (s.get m)).f9 i=true∨m∈a8H ops) ∧
   ∀ m∈looks ops x,∀ i,(B2 x (s.get m)).f9 i=true→P9 s1' i=P9 s i:=by
 rcases hP with ⟨hP,_⟩|⟨k1,k2⟩|⟨j,kd,qq,k1,k2⟩
 ·obtain ⟨s1',s2',m1,m2,m3,m4,m5,m6,m7,m8,m9⟩:=swap hi hu hx h1 h2 hP
  obtain ⟨ax,ay,hmod⟩:=a07 hi
  obtain ⟨P1,P2,P3⟩:=hP
  obtain ⟨v,ids,f,g,j1,j2,j3,j4,j5⟩:=T4 hu h1
  obtain ⟨_,e1,_,hs1⟩:=j5 s hu ((D3.refl s).a0A _ _) j2
  rw [h1] at e1; cases e1
  have hgy:∀ m∈looks ops y,B2 y (s.get m)=B2 y (s1.get m):=fun m hm=>by
   rw [hs1.get j1 (fun e=>ax m e hm),a3Q j1,j1.fix _ (fun i hi=>P1 m hm i hi)]
  have hhy:∀ m∈looks ops y,∀ i,(B2 y (s1.get m)).f9 i=true→P9 s i=P9 s1 i:=by
   intro m hm i hmi
   rw [← hgy m hm] at hmi
   unfold P9
   rw [hs1.hp,if_neg]
   rintro (h|h)
   ·rw [P1 m hm i h] at hmi; cases hmi
   ·have hmi:=a0E hmi
    rw [a1r j2 h] at hmi; cases hmi
  refine ⟨q,s1',s2',m1,id,⟨fun ha=>a4s (ops:=ops) ha hgy,fun r hr=>a6N hr hgy hhy⟩,m2,m3,m4,m5,m6,m7,m8,fun z m i h9 h8=>.inl (m9 z m i h9 h8),?_⟩
  obtain ⟨v',ids',f',g',n1,n2,n3,n4,n5⟩:=T4 hu m1
  obtain ⟨_,e2,_,hs1'⟩:=n5 s hu ((D3.refl s).a0A _ _) n2
  rw [m1] at e2; cases e2
  intro m hm i hmi
  unfold P9
  rw [hs1'.hp,if_neg]
  rintro (h|h)
  ·rw [m6] at h
   rw [P2 m hm i h] at hmi; cases hmi
  ·have hmi:=a0E hmi
   rw [a1r n2 h] at hmi; cases hmi
 ·obtain ⟨q',s1',s2',m1,m2,m3,m4,m5,m6,m7,m8,m9,m10,m11⟩:=b9b hym hi hu h1 h2 k1 k2
  refine ⟨q',s1',s2',m1,m2,⟨fun _=>m3,fun r hr=>?_⟩,m4,m5,m6,m7,m8,m9,m10,m11,?_⟩
  ·obtain ⟨hp,T,a,x',e,ho,_⟩:=a4O (j:=r.1) (kd:=r.2.1) (q:=r.2.2) hr
   unfold I4 at k2
   rw [ho] at k2
   split at k2<;>first|(rename_i e9; cases e9; done)|(cases k2; done)
  ·obtain ⟨_,_,_,_,_,_,_,_,_,_,_,hs1,_⟩:=a9k m3 m1
   intro m hm i _
   unfold P9
   rw [hs1,F7]
 ·obtain ⟨s1',s2',m1,m2,m3,m4,m5,m6,m7,m8,m9,m10,m11,m12⟩:=b9c hi hu h1 h2 k1 k2
  refine ⟨q,s1',s2',m1,id,⟨fun ha=>?_,fun r hr=>?_⟩,m2,m3,m4,m5,m6,m7,m8,fun z m i h9 _=>?_,fun _ _ i _=>m10 i⟩
  ·rw [m12] at ha; cases ha
  ·rw [k1] at hr; cases hr; exact m11
  ·rw [m9] at h9; cases h9

theorem b3e {i:Nat} {o:Oper} (ho:ops[i]?=some o) {post:List Nat}:∀ {pre:List Nat} {acc:List (Nat×St)} {s s':St},B8 (rem ops (pre++i::post))→(∀ j∈pre,(M i).testBit j=false∧∀ x,ops[j]?=some x→indep ops x o=true)→uniq s.fr→C9 s (rem ops pre) →
  a2l E ops M acc (pre++i::post) s s' →
  ∃ p s1 s2,s8 E ops o s=some (p,s1)∧p∧a2l E ops M acc (pre++post) s1 s2∧D3 s2 s'∧∀ e∈acc,(M i).testBit e.1=true∨∃ x,ops[e.1]?=some x∧a2o E ops x e.2 o s
 | [],acc,s,s',_,_,hu,_,⟨o',ho',hc,p,s1,h1,h2,h3⟩=>by
  rw [ho] at ho'; cases ho'
  obtain ⟨t',m1,m2⟩:=a3X (acc:=(i,s)::acc) (acc':=acc) (fun e he=>⟨e,by simp [he],rfl,fun x _=>⟨fun _ _=>rfl,rfl,fun _ _ _ _ h=>.inl h,fun _ _ _ _=>rfl⟩⟩) (B4 hu h1) (D3.refl s1) (B4 hu h1) h3
  exact ⟨p,s1,t',h1,h2,m1,m2.symm,hc⟩
 | j::pre,acc,s,s',hap,hin,hu,hcl,⟨x,hx,hc,p,s1,h1,h2,h3⟩=>by
  have hu1:=B4 hu h1
  have er:rem ops (j::pre++i::post)=x::rem ops (pre++i::post):=a1o hx
  rw [er] at hap
  rw [a1o hx] at hcl
  have hdj:∀ y∈rem ops pre,∀ d,y.dst=some d→x.dst≠some d:=fun y hy d hyd hxd=>hap.1 d hxd y (by rw [a0j]; exact List.mem_append_left _ hy) hyd
  have hcl1:C9 s1 (rem ops pre):=C9.step hu (fun y hy=>hcl y (by simp [hy])) hdj h1
  obtain ⟨q,sa,sb,k1,k2,k3,k4,k5⟩:=b3e ho (pre:=pre) (acc:=(j,s)::acc) hap.2 (fun y hy=>hin y (by simp [hy])) hu1 hcl1 h3
  obtain ⟨hnb,hind⟩:=hin j (by simp)
  have hP:a2o E ops x s o s1:=by
   rcases k5 (j,s) (by simp) with h|⟨x',hx',hP⟩
   ·rw [hnb] at h; cases h
   ·have hx':ops[j]?=some x':=hx'
    rw [hx] at hx'; cases hx'; exact hP
  have hom:o∈ops.toList:=by have:=Array.mem_of_getElem? ho; simpa using this
  obtain ⟨q',s1',s2',m1,mq,⟨ma,ms⟩,m2,m3,m4,m5,m6,m7,m8,m9,m10⟩:=b9S hom (hind x hx) hu (fun d hd=>hcl x (by simp) d hd) h1 k1 hP
  obtain ⟨t',n1,n2⟩:=a3X (acc:=(j,s)::acc) (acc':=(j,s1')::acc) (fun e' he'=>by
   rcases List.mem_cons.1 he' with rfl|he'
   ·refine ⟨(j,s),by simp,rfl,fun y hy=>?_⟩
    have hy:ops[j]?=some y:=hy
    rw [hx] at hy; cases hy
    exact ⟨m8,m7,m9,m10⟩
   ·exact ⟨e',by simp [he'],rfl,fun y _=>⟨fun _ _=>rfl,rfl,fun _ _ _ _ h=>.inl h,fun _ _ _ _=>rfl⟩⟩) (B4 hu1 k1) m5.symm m4 k3
  refine ⟨q',s1',t',m1,mq k2,⟨x,hx,fun e he=>?_,p,s2',m2,h2,n1⟩,n2.symm.trans k4,fun e he=>?_⟩
  ·rcases hc e he with h|⟨y,hy,hP⟩
   ·exact .inl h
   ·refine .inr ⟨y,hy,hP.b0N (fun _ _=>rfl) rfl (fun _ _ _ _ h=>.inl h) (fun _ _ _ _=>rfl) m7 (fun ha=>a4s (ops:=ops) ha m8) (fun r hr=>a6N hr m8 m10)⟩
  ·rcases k5 e (by simp [he]) with h|⟨y,hy,hP⟩
   ·exact .inl h
   ·exact .inr ⟨y,hy,hP.b0N (fun _ _=>rfl) rfl (fun _ _ _ _ h=>.inl h) (fun _ _ _ _=>rfl) m6 ma ms⟩
end

section
variable {E:Env} {ops:Array Oper} {B:B6} {S:Nat→Prop} {ι:Ix} {s:St} {a:Act} {w:World}
theorem a5i (hE:w5 E B) (hn:B.n=E.nt) (hd:N9 ops=true) {Q:Exit→Act→World→Prop} {s0:St} (hQ:∀ S ι a w,RS B S ι s0 a w→Q .normal a w) :
  ∀ (fuel:Nat) (listed:Array Bool) (S:Nat→Prop) (ι:Ix) (s s':St) (a:Act) (w:World),listed.size=ops.size→(idxs ops.size listed).length=fuel→V6 ops listed→B8 (rem ops (idxs ops.size listed))→uniq s.fr→C9 s (rem ops (nl ops (idxs ops.size listed))) →
   a2l E ops (fun i=>(t7 ops.toList []).getD i 0) [] (idxs ops.size listed) s s'→D3 s' s0→RS B S ι s a w→wpAny E.P .any ops Q fuel listed a w:=by
 have hM:=a0b hd
 have a1V:∀ {S:Nat→Prop} {ι:Ix} {s t:St} {a:Act} {w:World},D3 s t→RS B S ι s a w→RS B S ι t a w:=by
  intro S ι s t a w he h
  have hvx:∀ {v:AV} {vs:List Value},VX w.heap S ι s.hp v vs→VX w.heap S ι t.hp v vs:=by
   intro v vs hv
   exact VX.other (fun i _=>(he.2 i).symm) (fun i _=>A3.refl ι i) hv
  exact ⟨⟨h.hs.os,h.hs.tape,h.hs.out,h.hs.size,h.hs.frame,h.hs.slt,h.hs.s0,h.hs.s1,fun i e hi=>h.hs.ob i e ((he.2 i).trans hi),fun i e hi=>h.hs.bl i e ((he.2 i).trans hi),fun i j ei ej hi hj=>h.hs.dj i j ei ej ((he.2 i).trans hi) ((he.2 j).trans hj),fun q hq=>by obtain ⟨r1,⟨e,r2⟩,r3⟩:=h.hs.pin q hq; exact ⟨r1,⟨e,(he.2 q.1).symm.trans r2⟩,r3⟩⟩,h.X3,h.sz,
   fun m v hv=>hvx (h.fr m v ((he.1 m).trans hv))⟩
 intro fuel
 induction fuel with
 | zero =>
  intro listed S ι s s' a w hsz hlen hcl hap hu hcf hrun he hrs
  have hnil:idxs ops.size listed=[]:=List.length_eq_zero_iff.1 hlen
  rw [hnil] at hrun
  have hss:s=s':=hrun
  subst hss
  refine ⟨?_,hQ S ι a w (a1V he hrs)⟩
  rw [List.eq_nil_iff_forall_not_mem]
  intro i hi
  obtain ⟨h1,o,h2,_⟩:=mem_ready.1 hi
  have:i∈idxs ops.size listed:=r7.2 ⟨(Array.getElem?_eq_some_iff.1 h2).1,h1⟩
  rw [hnil] at this
  cases this
 | succ fuel ih =>
  intro listed S ι s s' a w hsz hlen hcl hap hu hcf hrun he hrs
  refine ⟨fun hr=>?_,fun i hi=>?_⟩
  ·exfalso
   cases hix:idxs ops.size listed with
   | nil=>rw [hix] at hlen; cases hlen
   | cons i l =>
    have hmem:i∈idxs ops.size listed:=by rw [hix]; simp
    obtain ⟨h1,h2⟩:=r7.1 hmem
    have ho:ops[i]?=some ops[i]:=Array.getElem?_eq_getElem h1
    have:i∈Region.ready .any ops listed:=by
     refine mem_ready.2 ⟨h2,ops[i],ho,fun e he hb=>?_⟩
     have hlt:=(hM i _ ho).1 e he hb
     cases hle:listed.getD e.on true with
     | true =>
      have:e.on<listed.size:=by omega
      simp [this] at hle ⊢; exact hle
     | false =>
      exfalso
      have hm2:e.on∈idxs ops.size listed:=r7.2 ⟨by omega,hle⟩
      have hs:=L3 ops.size listed
      rw [hix] at hs hm2
      rcases List.mem_cons.1 hm2 with e1|e1
      ·omega
      ·have:=(List.pairwise_cons.1 hs).1 _ e1; omega
    rw [hr] at this
    cases this
  ·obtain ⟨h1,o,ho,hpre⟩:=mem_ready.1 hi
   have hin:i<ops.size:=(Array.getElem?_eq_some_iff.1 ho).1
   have hmem:i∈idxs ops.size listed:=r7.2 ⟨hin,h1⟩
   obtain ⟨pre,post,e1,hlt,e2⟩:=T5 hmem
   have er:rem ops (pre++i::post)=rem ops pre++o::rem ops post:=by simp [rem,List.filterMap_append,ho]
   have er2:rem ops (pre++post)=rem ops pre++rem ops post:=by simp [rem,List.filterMap_append]
   rw [e1] at hap hcf hrun
   have hind:∀ j∈pre,((t7 ops.toList []).getD i 0).testBit j=false∧∀ x,ops[j]?=some x→indep ops x o=true:=by
    intro j hj
    have hnm:((t7 ops.toList []).getD i 0).testBit j=false:=by
     cases hm:((t7 ops.toList []).getD i 0).testBit j with
     | false=>rfl
     | true =>
      exfalso
      have hjl:=W7 (M:=fun i=>(t7 ops.toList []).getD i 0) (fun i o ho=>⟨(hM i o ho).1,(hM i o ho).2.1⟩) hcl i o ho hpre j (by have:=hlt j hj; omega) hm
      have:j∈idxs ops.size listed:=by rw [e1]; simp [hj]
      have:=(r7.1 this).2
      rw [H4 hjl] at this
      cases this
    refine ⟨hnm,fun x hx=>?_⟩
    rcases (hM i o ho).2.2 j x (hlt j hj) hx with hm|hm
    ·rw [hnm] at hm; cases hm
    ·exact hm
   have hcl0:C9 s (rem ops (nl ops (pre++post))):=hcf.sub (fun y hy=>by
    rw [a7J,a0j] at hy ⊢
    rcases List.mem_append.1 hy with hy|hy
    ·exact List.mem_append_left _ hy
    ·refine List.mem_append_right _ ?_
     obtain ⟨j,j1,j2⟩:=List.mem_filterMap.1 hy
     obtain ⟨j3,j4⟩:=List.mem_filter.1 j1
     exact List.mem_filterMap.2 ⟨j,List.mem_filter.2 ⟨List.mem_cons_of_mem _ j3,j4⟩,j2⟩)
   obtain ⟨p,s1,s2,k1,k2,k3,k4,_⟩:=b3e ho hap hind hu (hcf.sub (fun y hy=>by
    rw [a7J,a0j,b5w hin hlt (fun j hj=>(hind j hj).1)]; exact List.mem_append_left _ hy)) hrun
   rw [er] at hap
   have hset:=(P7 hsz hin).trans e2
   have hap2:B8 (rem ops pre++rem ops post)∧∀ x∈rem ops pre++rem ops post,∀ d,x.dst=some d→o.dst≠some d:=by
    have:∀ {A C:List Oper},B8 (A++o::C)→B8 (A++C)∧∀ x∈A++C,∀ d,x.dst=some d→o.dst≠some d:=by
     intro A
     induction A with
     | nil=>intro C h; exact ⟨h.2,fun x hx d hxd hod=>h.1 d hod x hx hxd⟩
     | cons y A ih =>
      intro C h
      obtain ⟨m1,m2⟩:=ih h.2
      refine ⟨⟨fun d hd x hx=>h.1 d hd x (by simp at hx ⊢; rcases hx with hx|hx<;>simp [hx]),m1⟩,fun x hx d hxd hod=>?_⟩
      rcases List.mem_cons.1 hx with rfl|hx
      ·exact h.1 d hxd o (by simp) hod
      ·exact m2 x hx d hxd hod
    exact this hap
   have hps:=X8 hE hn hrs (ops:=ops) o (k:=fun x=>Tree.cut .skip [] x) (L:=fun _ _ x=>x=s1) (Rt:=fun _=>True) (R8.2 ⟨p,s1,k1,k2,rfl⟩)
    (next:=wpAny E.P .any ops Q fuel (listed.setIfInBounds i true)) (Q:=Q) (fun S' ι' x a' w' hx hxe=>by
     have hxe:x=s1:=hxe
     subst hxe
     refine ih (listed.setIfInBounds i true) S' ι' x s2 a' w' (by simp [hsz]) ?_ ?_ ?_ (B4 hu k1) ?_ ?_ (k4.trans he) hx
     ·rw [hset]; rw [e1] at hlen; simp at hlen ⊢; omega
     ·intro k y hy hk e' he' hb'
      by_cases hki:k=i
      ·subst hki
       rw [ho] at hy; cases hy
       exact getD_set_true (hpre e' he' hb')
      ·rw [getD_set_ne true (Ne.symm hki)] at hk
       exact getD_set_true (hcl k y hy hk e' he' hb')
     ·rw [hset,er2]; exact hap2.1
     ·rw [hset]
      exact C9.step hu hcl0 (fun y hy=>hap2.2 y (by rw [← er2]; exact b5v y hy)) k1
     ·rw [hset]; exact k3)
   unfold wpOp
   rw [ho]
   simp only
   split
   ·rename_i hw; rw [if_pos hw] at hps; exact .inl hps
   ·rename_i hw; rw [if_neg hw] at hps; exact hps

theorem a9H (hE:w5 E B) (hn:B.n=E.nt) {id:Nat} (hd:(N9 ops && a0q ops s && E.P.follows .mixedOrders)=true) {Q:Exit→Act→World→Prop} {s':St} (hr:a2l E ops (fun i=>(t7 ops.toList []).getD i 0) [] (List.range' 0 ops.toList.length) s s')
  (hQ:∀ S ι a w,RS B S ι s' a w→Q .normal a w) (h:RS B S ι s a w):(Code.region id ops true).wp E.P Q a w:=by
 simp only [Bool.and_eq_true,a0q,List.all_eq_true] at hd
 obtain ⟨⟨h1,⟨h2,h3⟩,h4⟩,h5⟩:=hd
 refine wp_region_any h5 ?_
 have hlen:(idxs ops.size (Array.replicate ops.size false)).length=ops.size:=by
  rw [J4]; simp
 refine a5i hE hn h1 hQ ops.size _ S ι s s' a w.drew (by simp) hlen ?_ ?_ (s6 h2) ?_ ?_ (D3.refl _) (h.K7 A6.nil A7.drew)
 ·intro k o hk hl
  have:k<ops.size:=(Array.getElem?_eq_some_iff.1 hk).1
  simp [this] at hl
 ·rw [a1p]; exact W6 h3
 ·intro o ho d hd
  exact h4 d (a9a ho hd)
 ·rw [J4,List.range_eq_range']
  simpa using hr


/-! ### regions that store what they read -/
theorem a4R:∀ (D:List Nat) (s:St),(W8 D s).hp=s.hp
 | [],_=>rfl
 | _::D,s=>a4R D s
theorem a6k:∀ (D:List Nat) (s:St) (t:Nat),look t (W8 D s).fr=if t∈D then some .any else look t s.fr
 | [],_,t=>by simp [W8]
 | d::D,s,t=>by
  simp only [W8,l7,a6k D s t,List.mem_cons]
  by_cases h:t=d
  ·simp [h]
  ·simp [h]

theorem RS.W8 {a0 a:Act} (h:RS B S ι s a0 w) {D:List Nat} (hd:a.defers=a0.defers) (hz:a.tmps.size=a0.tmps.size) (ht:∀ t,t∉D→a.tmps[t]?=a0.tmps[t]?):RS B S ι (W8 D s) a w:=by
 refine ⟨by rw [a4R]; exact h.hs,hd.trans h.X3,hz.trans h.sz,fun t v hl=>?_⟩
 rw [a6k] at hl
 rw [a4R]
 by_cases hm:t∈D
 ·rw [if_pos hm] at hl; cases hl
  exact ⟨_,rfl⟩
 ·rw [if_neg hm] at hl
  have:=h.fr t v hl
  have e:a.tmps.getD t (B.gd t)=a0.tmps.getD t (B.gd t):=by
   rw [Array.getD_eq_getD_getElem?,Array.getD_eq_getD_getElem?,ht t hm]
  rw [e]; exact this

theorem a2N {a:Act} {t:Nat}:a.eval (.tmp t)=(a.tmps[t]?).getD undef:=by
 show a.tmps.getD t undef=_
 rw [Array.getD_eq_getD_getElem?]

theorem b6M {a:Act} {x:Nat}:a.put (some x) ((a.tmps[x]?).getD undef)=a:=by
 show { a with tmps:=a.tmps.setIfInBounds x ((a.tmps[x]?).getD undef) }=a
 have:a.tmps.setIfInBounds x ((a.tmps[x]?).getD undef)=a.tmps:=by
  apply Array.ext_getElem?
  intro j
  rw [Array.getElem?_setIfInBounds]
  by_cases h:x=j
  ·subst h
   by_cases h2:x<a.tmps.size
   ·simp [h2]
   ·simp [h2]
  ·rw [if_neg h]
 rw [this]

def b9M (P:Program) (a0:Act) (w:World) (c:Nat×Option TypeId×Nat) (val:Value):Prop :=
 (∀ (a:Act) (o:Oper),Y7 o=some c→a.tmps[c.2.2]?=a0.tmps[c.2.2]?→(execOp a.eval o).run P w=.ok (.value val) w) ∧
 ∀ (a:Act) (o:Oper),a34 o=some c→a.tmps[c.2.2]?=a0.tmps[c.2.2]?→a.tmps[c.1]?=some val→∀ (next:Act→World→Prop) (Q:Exit→Act→World→Prop),next a w→o.wp P a w next Q

theorem b2r {o:Oper} {c:Nat×Option TypeId×Nat} (h:Y7 o=some c):o.guard=none∧o.dst=some c.1:=by
 unfold Y7 at h
 split at h
 ·rename_i h1 _ h2; cases h; exact ⟨h1,h2⟩
 ·rename_i h1 _ h2; cases h; exact ⟨h1,h2⟩
 ·cases h
theorem b1Y {o:Oper} {c:Nat×Option TypeId×Nat} (h:a34 o=some c):o.guard=none:=by
 unfold a34 at h
 split at h
 ·rename_i h1 _ h2; exact h1
 ·rename_i h1 _ h2; exact h1
 ·cases h

theorem a9d (hE:w5 E B) {a0:Act} (h:RS B S ι s a0 w) {ops:Array Oper} {D:List Nat} {i:Nat} {o:Oper} {d x:Nat} {q:Option TypeId} (hc:Y7 o=some (d,q,x)) (hs:a7w E ops s D i o=true) :
  d<E.nt∧x∉D∧∃ val,b9M E.P a0 w (d,q,x) val:=by
 unfold a7w at hs
 rw [hc] at hs
 simp only [Bool.and_eq_true,Bool.not_eq_true'] at hs
 obtain ⟨⟨h1,h2⟩,h3⟩:=hs
 refine ⟨by simpa [A5,Nat.blt_eq] using h1,by intro hm; simp [hm] at h2,?_⟩
 cases q with
 | none =>
  refine ⟨(a0.tmps[x]?).getD undef,fun a o' ho' hx=>?_,fun a o' ho' hx hd next Q hn=>?_⟩
  ·unfold Y7 at ho'
   split at ho'
   ·rename_i g1 g2 g3
    cases ho'
    simp only [execOp,g2,Sem.run_pure,a2N,hx]
   ·cases ho'
   ·cases ho'
  ·unfold a34 at ho'
   split at ho'
   ·rename_i g1 g2 g3
    cases ho'
    unfold Oper.wp
    have e:(execOp a.eval o').run E.P w=.ok (.value ((a.tmps[x]?).getD undef)) w:=by
     simp only [execOp,g2,Sem.run_pure,a2N]
     have hd:a.tmps[d]?=some ((a0.tmps[x]?).getD undef):=hd
     have hx:a.tmps[x]?=a0.tmps[x]?:=hx
     rw [hd,hx]; rfl
    rw [e]
    show next (a.put o'.dst _) w
    rw [g3,b6M]; exact hn
   ·cases ho'
   ·cases ho'
 | some T =>
  simp only at h3
  split at h3
  ·rename_i j p hx
   split at h3
   ·rename_i u y hpt
    obtain ⟨e,b,off,k1,k2,k3,k4⟩:=w4 h hx
    have k4:a0.eval (.tmp x)=.pointer (some ⟨b,off,none⟩):=by simpa using k4
    have hg:=E0 k1 hpt
    obtain ⟨O2,m1,m2,m3,m4,m5,m6⟩:=G7 (F8 k3) (h.hs.ob j e k1) h.hs.slt k2 hg k3
    have hx0:∀ a:Act,a.tmps[x]?=a0.tmps[x]?→a.eval (.tmp x)=.pointer (some ⟨b,off,none⟩):=by
     intro a ha
     rw [a2N,ha,← a2N]; exact k4
    refine ⟨j8 u (d8 w.heap b off u.size),fun a o' ho' hx=>?_,fun a o' ho' hx hd next Q hn=>?_⟩
    ·unfold Y7 at ho'
     split at ho'
     ·cases ho'
     ·rename_i g1 g2 g3
      cases ho'
      have he:execOp a.eval o'=(do pure (.value (← Instr.loadAt T (a.eval (.tmp x))))):=by simp [execOp,g2]
      refine E3 he ?_
      rw [hx0 a hx]
      simp [Instr.loadAt,Instr.sureAddr,X5 (x7 hE h3) m3]
     ·cases ho'
    ·unfold a34 at ho'
     split at ho'
     ·cases ho'
     ·rename_i g1 g2 g3
      cases ho'
      have hsv:(storeVar T ⟨b,off,none⟩ (j8 u (d8 w.heap b off u.size))).run E.P w=.ok () (w.setRow b (B3 (p8 w.heap b) off (d8 w.heap b off u.size)).toArray):=a0Z (x7 hE h3) rfl m6 m3
      have hw:w.setRow b (B3 (p8 w.heap b) off (d8 w.heap b off u.size)).toArray=w:=by
       obtain ⟨arr,T',⟨fz,e1,_⟩,hn⟩:=m6
       have hb:p8 w.heap b=arr.toList:=by simp only [p8,e1]
       have:B3 (p8 w.heap b) off (d8 w.heap b off u.size)=p8 w.heap b:=a4Z m4
       rw [this,hb]; exact setRow_self w b arr T' fz (by simpa using e1)
      rw [hw] at hsv
      have hvd:a.eval (.tmp d)=j8 u (d8 w.heap b off u.size):=by rw [a2N,show a.tmps[d]?=some _ from hd]; rfl
      have hrun:(execOp a.eval o').run E.P w=.ok .skip w:=by
       simp [execOp,g2,hx0 a hx,hvd,Instr.storeAt,Instr.sureAddr,hsv]
      unfold Oper.wp
      rw [hrun]
      show next (a.put o'.dst undef) w
      rw [g3]; exact hn
     ·cases ho'
   ·cases h3
  ·cases h3

theorem a5j:∀ {l:List Nat},R4 l=true→l.Nodup
 | [],_=>List.nodup_nil
 | d::l,h=>by
  simp only [R4,Bool.and_eq_true,Bool.not_eq_true'] at h
  exact List.nodup_cons.2 ⟨fun hm=>by have:=h.1; simp [hm] at this,a5j h.2⟩
theorem a4K {α:Type} {f:α→Option Nat}:∀ {l:List α},(l.filterMap f).Nodup→∀ {i j:Nat} {x y:α} {d:Nat},l[i]?=some x→l[j]?=some y→f x=some d→f y=some d→i=j
 | [],_,i,_,_,_,_,h,_,_,_=>by simp at h
 | z::l,hn,i,j,x,y,d,hi,hj,hx,hy=>by
  have hn':(l.filterMap f).Nodup:=by
   cases hz:f z with
   | none=>rwa [List.filterMap_cons_none hz] at hn
   | some e=>rw [List.filterMap_cons_some hz] at hn; exact (List.nodup_cons.1 hn).2
  match i,j,hi,hj with
  | 0,0,_,_=>rfl
  | i+1,j+1,hi,hj=>exact congrArg (·+1) (a4K (l:=l) hn' (i:=i) (j:=j) (by simpa using hi) (by simpa using hj) hx hy)
  | 0,j+1,hi,hj =>
   exfalso
   simp at hi hj
   subst hi
   rw [List.filterMap_cons_some hx] at hn
   exact (List.nodup_cons.1 hn).1 (List.mem_filterMap.2 ⟨y,List.mem_of_getElem? hj,hy⟩)
  | i+1,0,hi,hj =>
   exfalso
   simp at hi hj
   subst hj
   rw [List.filterMap_cons_some hy] at hn
   exact (List.nodup_cons.1 hn).1 (List.mem_filterMap.2 ⟨x,List.mem_of_getElem? hi,hx⟩)
theorem b3B {i j:Nat} {o o':Oper} {c c':Nat×Option TypeId×Nat} (h:R4 (a2b ops)=true) (hi:i<ops.size - 1) (hj:j<ops.size - 1) (hij:i≠j) (ho:ops[i]?=some o) (ho':ops[j]?=some o') (hc:Y7 o=some c) (hc':Y7 o'=some c'):c.1≠c'.1:=by
 intro e
 refine hij (a4K (l:=ops.toList.dropLast) (f:=fun o=>(Y7 o).map (fun c:Nat×Option TypeId×Nat=>c.1)) (a5j h) (x:=o) (y:=o') (d:=c.1) ?_ ?_ (by rw [hc]; rfl) (by rw [hc',e]; rfl))
 ·rw [List.getElem?_dropLast,if_pos (by simp; omega)]; simpa using ho
 ·rw [List.getElem?_dropLast,if_pos (by simp; omega)]; simpa using ho'
theorem b3A (hE:w5 E B) (hn:B.n=E.nt) {a0:Act} (h:RS B S ι s a0 w) (hb:a5V E ops s=true) {oz:Oper} (hz:ops[ops.size - 1]?=some oz) {Q:Exit→Act→World→Prop}
  (hQ:∀ a,RS B S ι (Ex.W8 (a2b ops) s) a w→∀ next:Act→World→Prop,(∀ a' w',Q .normal a' w'→next a' w')→oz.wp E.P a w next Q) :
  ∀ (fuel:Nat) (listed:Array Bool) (a:Act),listed.size=ops.size→(idxs ops.size listed).length=fuel→listed.getD (ops.size - 1) true=false→V6 ops listed→a.defers=a0.defers→a.tmps.size=a0.tmps.size→(∀ t,t∉a2b ops→a.tmps[t]?=a0.tmps[t]?) →
   (∀ j o c,j<ops.size - 1→ops[j]?=some o→Y7 o=some c→listed.getD j false=true→∃ val,b9M E.P a0 w c val∧a.tmps[c.1]?=some val)→wpAny E.P .any ops Q fuel listed a w:=by
 unfold a5V at hb
 simp only [Bool.and_eq_true,List.all_eq_true,List.mem_range,Nat.blt_eq] at hb
 obtain ⟨⟨⟨⟨⟨b0,b1⟩,b2⟩,b3⟩,b4⟩,b5⟩:=hb
 rw [hz] at b5
 simp only [Bool.and_eq_true,List.all_eq_true,List.mem_range] at b5
 obtain ⟨⟨z1,z2⟩,z3⟩:=b5
 have hzs:ops.size - 1<ops.size:=by omega
 -- the dependences lie ahead
 have hdep:∀ i o,ops[i]?=some o→∀ e∈o.after,Region.binds .any e=true→e.on<i:=by
  intro i o ho e he hbd
  have hi:i<ops.size:=(Array.getElem?_eq_some_iff.1 ho).1
  by_cases hiz:i=ops.size - 1
  ·subst hiz
   rw [hz] at ho; cases ho
   have:=z3 e (by simpa using he)
   simpa [hbd,Nat.blt_eq] using this
  ·have:=b4 i (by omega)
   rw [ho] at this
   simp only [Bool.and_eq_true,List.all_eq_true] at this
   have:=this.2 e (by simpa using he)
   simpa [hbd,Nat.blt_eq] using this
 have hbind:∀ {o:Oper} {j:Nat} {listed:Array Bool},a0R o j=true→(∀ e∈o.after,Region.binds .any e=true→listed.getD e.on false=true)→listed.getD j false=true:=by
  intro o j listed hbo hpre
  simp only [a0R,List.any_eq_true,Bool.and_eq_true] at hbo
  obtain ⟨e,he,hbd,hej⟩:=hbo
  rw [← Nat.eq_of_beq_eq_true hej]
  exact hpre e (by simpa using he) hbd
 intro fuel
 induction fuel with
 | zero =>
  intro listed a hsz hlen hzl _ _ _ _ _
  have:ops.size - 1∈idxs ops.size listed:=r7.2 ⟨hzs,hzl⟩
  rw [List.length_eq_zero_iff.1 hlen] at this
  cases this
 | succ fuel ih =>
  intro listed a hsz hlen hzl hcl hdf hts hother hcaps
  refine ⟨fun hr=>?_,fun i hi=>?_⟩
  ·exfalso
   cases hix:idxs ops.size listed with
   | nil=>rw [hix] at hlen; cases hlen
   | cons i l =>
    have hmem:i∈idxs ops.size listed:=by rw [hix]; simp
    obtain ⟨h1,h2⟩:=r7.1 hmem
    have ho:ops[i]?=some ops[i]:=Array.getElem?_eq_getElem h1
    have:i∈Region.ready .any ops listed:=by
     refine mem_ready.2 ⟨h2,ops[i],ho,fun e he hb=>?_⟩
     have hlt:=hdep i _ ho e he hb
     cases hle:listed.getD e.on true with
     | true =>
      have:e.on<listed.size:=by omega
      simp [this] at hle ⊢; exact hle
     | false =>
      exfalso
      have hm2:e.on∈idxs ops.size listed:=r7.2 ⟨by omega,hle⟩
      have hs:=L3 ops.size listed
      rw [hix] at hs hm2
      rcases List.mem_cons.1 hm2 with e1|e1
      ·omega
      ·have:=(List.pairwise_cons.1 hs).1 _ e1; omega
    rw [hr] at this
    cases this
  ·obtain ⟨h1,o,ho,hpre⟩:=mem_ready.1 hi
   have hin:i<ops.size:=(Array.getElem?_eq_some_iff.1 ho).1
   have hmem:i∈idxs ops.size listed:=r7.2 ⟨hin,h1⟩
   have hlen2:(idxs ops.size (listed.setIfInBounds i true)).length=fuel:=by
    rw [P7 hsz hin]
    obtain ⟨pre,post,e1,hlt,e2⟩:=T5 hmem
    rw [e2]; rw [e1] at hlen; simp at hlen ⊢; omega
   have hcl2:V6 ops (listed.setIfInBounds i true):=by
    intro k y hy hk e' he' hb'
    by_cases hki:k=i
    ·subst hki
     rw [ho] at hy; cases hy
     exact getD_set_true (hpre e' he' hb')
    ·rw [getD_set_ne true (Ne.symm hki)] at hk
     exact getD_set_true (hcl k y hy hk e' he' hb')
   unfold wpOp
   rw [ho]
   by_cases hiz:i=ops.size - 1
   ·-- the last
    subst hiz
    rw [hz] at ho; cases ho
    have hg:oz.guard=none:=by cases hq:oz.guard with|none=>rfl|some _=>rw [hq] at z1; cases z1
    have hnil:idxs ops.size (listed.setIfInBounds (ops.size - 1) true)=[]:=by
     rw [List.eq_nil_iff_forall_not_mem]
     intro j hj
     obtain ⟨j1,j2⟩:=r7.1 hj
     by_cases hjz:j=ops.size - 1
     ·rw [hjz,b30 (by omega)] at j2; cases j2
     ·rw [getD_set_ne true (Ne.symm hjz)] at j2
      have:=H4 (hbind (z2 j (by omega)) hpre)
      rw [this] at j2; cases j2
    have hready:Region.ready .any ops (listed.setIfInBounds (ops.size - 1) true)=[]:=by
     rw [List.eq_nil_iff_forall_not_mem]
     intro j hj
     obtain ⟨j1,o',j2,_⟩:=mem_ready.1 hj
     have:j∈idxs ops.size (listed.setIfInBounds (ops.size - 1) true):=r7.2 ⟨(Array.getElem?_eq_some_iff.1 j2).1,j1⟩
     rw [hnil] at this; cases this
    have hw:Region.wanted oz (yielded ops a.tmps)=true:=by simp [Region.wanted,hg]
    simp only [hw,if_true]
    refine .inl (hQ a (h.W8 hdf hts hother) _ (fun a' w' hq=>wpAny_done hready hq fuel))
   ·have hlt:i<ops.size - 1:=by omega
    have hso:=b4 i hlt
    rw [ho] at hso
    simp only [Bool.and_eq_true] at hso
    have hso:=hso.1
    have hzl2:(listed.setIfInBounds i true).getD (ops.size - 1) true=false:=by rw [getD_set_ne true hiz]; exact hzl
    cases hc:Y7 o with
    | some c =>
     obtain ⟨d,q,x⟩:=c
     obtain ⟨hd,hxD,val,hval⟩:=a9d hE h hc hso
     obtain ⟨hg,hdst⟩:=b2r hc
     have hw:Region.wanted o (yielded ops a.tmps)=true:=by simp [Region.wanted,hg]
     simp only [hw,if_true]
     refine .inl ?_
     unfold Oper.wp
     rw [hval.1 a o hc (hother x hxD)]
     have hdD:d∈a2b ops:=by
      refine List.mem_filterMap.2 ⟨o,List.mem_of_getElem? (i:=i) ?_,by rw [hc]; rfl⟩
      rw [List.getElem?_dropLast,if_pos (by simp; omega)]
      simpa using ho
     have hdlt:d<a.tmps.size:=by rw [hts,h.sz,hn]; exact hd
     show wpAny E.P .any ops Q fuel _ (a.put o.dst val) w
     rw [show o.dst=some d from hdst]
     refine ih _ _ (by simp [hsz]) hlen2 hzl2 hcl2 hdf (by simp [Act.put,hts]) (fun t ht=>?_) (fun j o' c' hj ho' hc' hl=>?_)
     ·have htd:t≠d:=fun e=>ht (e▸hdD)
      show (a.tmps.setIfInBounds d val)[t]?=_
      rw [Array.getElem?_setIfInBounds,if_neg (Ne.symm htd)]
      exact hother t ht
     ·by_cases hji:j=i
      ·subst hji
       rw [ho] at ho'; cases ho'
       rw [hc] at hc'; cases hc'
       refine ⟨val,hval,?_⟩
       show (a.tmps.setIfInBounds d val)[d]?=_
       rw [Array.getElem?_setIfInBounds,if_pos rfl,if_pos hdlt]
      ·rw [getD_set_ne false (Ne.symm hji)] at hl
       obtain ⟨val',v1,v2⟩:=hcaps j o' c' hj ho' hc' hl
       refine ⟨val',v1,?_⟩
       have hne:d≠c'.1:=by
        intro e
        exact b3B b1 hlt hj (Ne.symm hji) ho ho' hc hc' e
       show (a.tmps.setIfInBounds d val)[c'.1]?=_
       rw [Array.getElem?_setIfInBounds,if_neg hne]
       exact v2
    | none =>
     unfold a7w at hso
     rw [hc] at hso
     simp only at hso
     split at hso
     ·rename_i c hp
      simp only [List.any_eq_true,List.mem_range] at hso
      obtain ⟨j,hj,hso⟩:=hso
      split at hso
      ·rename_i o' ho'
       simp only [Bool.and_eq_true,decide_eq_true_eq] at hso
       obtain ⟨hc',hbo⟩:=hso
       have hl:=hbind hbo hpre
       obtain ⟨val,v1,v2⟩:=hcaps j o' c (by omega) ho' hc' hl
       have hg:=b1Y hp
       have hw:Region.wanted o (yielded ops a.tmps)=true:=by simp [Region.wanted,hg]
       simp only [hw,if_true]
       have hxD:c.2.2∉a2b ops:=by
        have hso':=b4 j (by omega)
        rw [ho'] at hso'
        simp only [Bool.and_eq_true] at hso'
        exact (a9d hE h (d:=c.1) (q:=c.2.1) (x:=c.2.2) hc' hso'.1).2.1
       refine .inl (v1.2 a o hp (hother _ hxD) v2 _ _ ?_)
       refine ih _ _ (by simp [hsz]) hlen2 hzl2 hcl2 hdf hts hother (fun k o2 c2 hk ho2 hc2 hl2=>?_)
       by_cases hki:k=i
       ·subst hki
        rw [ho] at ho2; cases ho2
        rw [hc] at hc2; cases hc2
       ·rw [getD_set_ne false (Ne.symm hki)] at hl2
        exact hcaps k o2 c2 hk ho2 hc2 hl2
      ·cases hso
     ·cases hso

theorem b1S (hE:w5 E B) (hn:B.n=E.nt) {id:Nat} (hb:a5V E ops s=true) {oz:Oper} (hz:ops[ops.size - 1]?=some oz) {Q:Exit→Act→World→Prop}
  (hQ:∀ a w,RS B S ι (Ex.W8 (a2b ops) s) a w→∀ next:Act→World→Prop,(∀ a' w',Q .normal a' w'→next a' w')→oz.wp E.P a w next Q) (h:RS B S ι s a w):(Code.region id ops true).wp E.P Q a w:=by
 have hm:E.P.follows .mixedOrders=true:=by
  unfold a5V at hb
  simp only [Bool.and_eq_true] at hb
  exact hb.1.1.2
 refine wp_region_any hm ?_
 have hpos:0<ops.size:=by have:=(Array.getElem?_eq_some_iff.1 hz).1; omega
 have hlen:(idxs ops.size (Array.replicate ops.size false)).length=ops.size:=by
  rw [J4]; simp
 refine b3A hE hn (w:=w.drew) (h.K7 A6.nil A7.drew) hb hz (fun a' h'=>hQ a' _ h') ops.size _ a (by simp) hlen ?_ ?_ rfl rfl (fun _ _=>rfl) ?_
 ·have:ops.size - 1<ops.size:=by omega
  simp [this]
 ·intro k o hk hl
  have:k<ops.size:=(Array.getElem?_eq_some_iff.1 hk).1
  simp [this] at hl
 ·intro j o c hj ho hc hl
  have:j<ops.size:=by omega
  simp [this] at hl
end
end Go.Ex
