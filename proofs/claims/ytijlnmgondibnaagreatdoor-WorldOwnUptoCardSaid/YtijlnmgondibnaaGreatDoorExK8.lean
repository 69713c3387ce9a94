import Derived.Test.YtijlnmgondibnaaGreatDoorExK7
set_option linter.unusedVariables false
set_option linter.unusedSimpArgs false
set_option linter.unusedSectionVars false
namespace Go.Ex
section
variable {E:Env} {ops:Array Oper} {B:E3} {S:Nat->Prop} {ι:Ix} {s:St} {a:Act} {w:World}
theorem DX {s t:St} (he:M2 s t) (h:RS B S ι s a w):RS B S ι t a w:=by
 have dq:∀ {v:AV} {vs:List Value},VX w.heap S ι s.hp v vs->VX w.heap S ι t.hp v vs:=by
  intro v vs hv;exact VX.other (λ i _=>(he.2 i).symm) (λ i _=>E8.refl ι i) hv
 exact ⟨⟨h.hs.os,h.hs.tape,h.hs.out,h.hs.size,h.hs.frame,h.hs.slt,h.hs.s0,h.hs.s1,λ i e hi=>h.hs.ob i e ((he.2 i).trans hi),λ i e hi=>h.hs.bl i e ((he.2 i).trans hi),λ i j ei ej hi hj=>h.hs.dj i j ei ej ((he.2 i).trans hi) ((he.2 j).trans hj),λ q hq=>by obtain ⟨r1,⟨e,r2⟩,r3⟩:=h.hs.pin q hq; exact ⟨r1,⟨e,(he.2 q.1).symm.trans r2⟩,r3⟩⟩,h.dfr,h.sz,
  λ m v hv=>dq (h.fr m v ((he.1 m).trans hv))⟩
theorem RS.forget (h:RS B S ι s a w) (d:Nat):RS B S ι { s with fr:=Ex.put d .any s.fr } a w:=by
 refine ⟨h.hs,h.dfr,h.sz,λ t v hv=>?_⟩;rw [p7] at hv;split at hv
 ·cases hv; exact ⟨_,rfl⟩
 ·exact h.fr t v hv
theorem RS.K1:∀ {l:List Oper} {s:St},RS B S ι s a w->RS B S ι (Ex.K1 l s) a w
 | [],s,h=>h
 | o::l,s,h=>by
  unfold Ex.K1
  split
  ·split
   ·exact RS.K1 (h.forget _)
   ·exact RS.K1 h
  ·exact RS.K1 h
theorem Fo {m:Nat}:∀ {l:List Oper} {s:St},look m (Ex.K1 l s).fr=look m s.fr\/look m (Ex.K1 l s).fr=some .any
 | [],s=>.inl rfl
 | o::l,s=>by
  unfold Ex.K1
  split
  ·split
   ·rename_i d _ _
    rcases Fo (m:=m) (l:=l) (s:={ s with fr:=Ex.put d .any s.fr }) with h|h
    ·rw [p7] at h
     split at h
     ·exact .inr h
     ·exact .inl h
    ·exact .inr h
   ·exact Fo
  ·exact Fo
theorem Fx {o:Oper} {c:Call} {d:Nat} (cy:o.op=.call c) (hc:c.callee=.builtin .append) (hd:o.dst=some d):∀ {l:List Oper} {s:St},o∈l->look d (Ex.K1 l s).fr=some .any
 | [],_,h=>by cases h
 | x::l,s,h=>by
  unfold Ex.K1;rcases List.mem_cons.1 h with rfl|h
  ·rw [cy]
   simp only [hc,hd];rcases Fo (m:=d) (l:=l) (s:={ s with fr:=Ex.put d .any s.fr }) with h|h
   ·rw [h,p7,if_pos rfl]
   ·exact h
  ·split
   ·split
    ·exact Fx cy hc hd h
    ·exact Fx cy hc hd h
   ·exact Fx cy hc hd h
theorem c3E (hE:D0 E B) (h:RS B S ι s a w) {o:Oper} {T:TypeId} {x:Operand} (ho:o.op=.load T x) {v:AV} {s':St} (hl:Y5 E T (s.ev x) s=.ok v s') :
  s'=s/\∃ val,(execOp a.eval o).run E.P w=.ok (.value val) w/\VX w.heap S ι s.hp v [val]:=by
 have he:execOp a.eval o=(do pure (.value (<- Instr.loadAt T (a.eval x)))):=by simp [execOp,ho]
 have hv:=h.ev x;unfold Y5 at hl;split at hl
 ·rename_i t y hx
  rw [hx] at hv;obtain ⟨b,off,e,hb,hr,hR⟩:=hv;split at hl
  ·rename_i hc
   cases hl;have e:a.eval x=.pointer (some ⟨b,off,none⟩):=by simpa using e
   refine ⟨rfl,n8 t (d9 w.heap b off t.size),N6 he (w':=w) ?_,_,rfl,hR⟩;rw [e];simp [Instr.loadAt,Instr.sureAddr,AI (D4 hE hc) hR]
  ·cases hl
 ·rename_i l hx
  rw [hx] at hv;split at hl
  ·rename_i ht
   cases hl;obtain ⟨val,k1,k2⟩:=NM (hE:=hE) ht hv;exact ⟨rfl,val,N6 he k1,k2⟩
  ·cases hl
 ·rename_i i p hx
  rw [hx] at hv;obtain ⟨e,b,off,h1,h2,h3,h4⟩:=hv;have h4:a.eval x=.pointer (some ⟨b,off,none⟩):=by simpa using h4
  split at hl
  ·rename_i u y cO
   have hg:=H8 h1 cO;obtain ⟨O2,k1,k2,k3,k4,k5⟩:=M7 (K2 h3) (h.hs.ob i e h1) h.hs.slt h2 hg h3;split at hl
   ·rename_i hc
    have hr:(Instr.loadAt T (a.eval x)).run E.P w=.ok (n8 u (d9 w.heap b off u.size)) w:=by
     rw [h4]; simp [Instr.loadAt,Instr.sureAddr,AI (D4 hE hc) k3]
    split at hl
    ·rename_i hs
     cases hl;have:=k3.N5 hs;subst this;exact ⟨rfl,_,N6 he hr,_,rfl,k3⟩
    ·cases hl
     have hp:=C6 h3;exact ⟨rfl,_,N6 he hr,e,u,y,_,h1,h2,hg,⟨b,off,hp.1,(l6 (G0 hp.2) _ _).symm⟩,rfl⟩
   ·cases hl
  ·cases hl
 ·cases hl
theorem XZ {k:IntKind} {m n:Int} (bx:r9 k m) (hn:0<n):r9 k (m.tmod n):=by
 have h0:k.min<=0:=by cases k<;>decide
 have h1:0<=k.max:=by cases k<;>decide
 unfold r9 at *
 by_cases hm:m<0
 ·have e:m.tmod n=-((-m) % n):=by rw [<- Int.neg_neg m,Int.neg_tmod,Int.tmod_eq_emod_of_nonneg (by omega)]; simp
  have:=Int.emod_nonneg (-m) (b:=n) (by omega);have:(-m) % n<=-m:=by
   have:=Int.emod_add_mul_ediv (-m) n;have:=Int.mul_nonneg (Int.le_of_lt hn) (Int.ediv_nonneg (a:=-m) (b:=n) (by omega) (by omega));omega
  omega
 ·rw [Int.tmod_eq_emod_of_nonneg (by omega)]
  have:=Int.emod_nonneg m (b:=n) (by omega);have:m % n<=m:=by
   have:=Int.emod_add_mul_ediv m n;have:=Int.mul_nonneg (Int.le_of_lt hn) (Int.ediv_nonneg (a:=m) (b:=n) (by omega) (by omega));omega
  omega
theorem Pa {o:Oper} {T T':TypeId} {x y:Operand} (ho:o.op=.binOp .rem T x y T'):(∃ k m n,s.ev x=.val (.int k) m/\s.ev y=.val (.int k) n/\m0 E o s=.F5 (0<n) (.val (.int k) (Int.tmod m n)) s)\/∃ why,m0 E o s=.fail why:=by
 have e:m0 E o s=wH E T .rem (s.ev x) (s.ev y) s:=by unfold m0; rw [ho]
 rw [e];unfold wH
 split
 ·refine .inr ?_
  unfold zF
  split
  ·rename_i h; cases h
  ·rename_i h; cases h
  ·exact ⟨_,rfl⟩
 ·refine .inr ?_
  unfold eqA
  split
  ·split
   ·rename_i h; cases h
   ·rename_i h; cases h
   ·exact ⟨_,rfl⟩
  ·exact ⟨_,rfl⟩
 ·refine .inr ?_
  unfold eqA
  split
  ·split
   ·rename_i h; cases h
   ·rename_i h; cases h
   ·exact ⟨_,rfl⟩
  ·exact ⟨_,rfl⟩
 ·unfold ya
  split
  ·rename_i k m k' n e1 e2
   have hw:xD (MC E) .rem k m k' n s=xC .rem k m k' n s:=by
    unfold xD
    split
    ·rename_i h; cases h
    ·rfl
   rw [hw];unfold xC;simp only
   split
   ·rename_i hk; subst hk
    exact .inl ⟨k,m,n,e1,e2,rfl⟩
   ·exact .inr ⟨_,rfl⟩
  ·refine .inr ?_
   split
   ·rename_i h; cases h
   ·rename_i h; cases h
   ·exact ⟨_,rfl⟩
  ·exact .inr ⟨_,rfl⟩
  ·exact .inr ⟨_,rfl⟩
theorem ZI (h:RS B S ι s a w) {o:Oper} {T T':TypeId} {x y:Operand} (ho:o.op=.binOp .rem T x y T'):Ab E.P S ι o a w s (m0 E o s):=by
 have hx:=h.ev x;have hy:=h.ev y;rcases Pa (E:=E) (s:=s) ho with ⟨k,m,n,e1,e2,e3⟩|⟨why,e3⟩
 ·rw [e3]
  rw [e1] at hx; rw [e2] at hy;obtain ⟨hx,bx⟩:=VX.H9 hx;obtain ⟨hy,by_⟩:=VX.H9 hy;intro hn;refine ⟨rfl,.int k (m.tmod n),λ w'=>?_,VX.int (XZ bx hn)⟩;have hg:(eqGuard .rem T x y (a.eval x) (a.eval y)).run E.P w'=.ok () w':=by rw [hx,hy]; rfl
  rw [N0 ho hg (r:=.ok (.int k (m.tmod n)) w')]
  ·rfl
  ·rw [hx,hy]
   have bC:n≠0:=λ e=>by subst e; exact absurd hn (Int.lt_irrefl _)
   simp [binOp,Op.intDiv,bC]
 ·rw [e3]; trivial
theorem ZQ (hE:D0 E B) (h:RS B S ι s a w) {o:Oper} (hq:quiet o=true) {p:Prop} {s1:St} (hr:H4 E ops o s=some (p,s1)) (hp:p) :
  o.guard=none/\G8 E.nt o.dst=true/\∃ v val,s1=s.put o.dst v/\(execOp a.eval o).run E.P w=.ok (.value val) w/\VX w.heap S ι s.hp v [val]:=by
 simp only [quiet,Bool.and_eq_true,Option.isNone_iff_eq_none] at hq;obtain ⟨hg,hq⟩:=hq;unfold H4 at hr;rw [hg] at hr;simp only at hr;unfold X5 at hr;split at hr
 ·cases hr
 ·rename_i hd
  refine ⟨hg,hd,?_⟩;have key:∀ (r:OR),(match r.get with|none=>none|some (p,v,s')=>some (p,s'.put o.dst v))=some (p,s1)->Ab E.P S ι o a w s r->∃ v val,s1=s.put o.dst v/\(execOp a.eval o).run E.P w=.ok (.value val) w/\VX w.heap S ι s.hp v [val]:=by
   intro r hr rf;cases r with
   | fail why=>cases hr
   | ok v s' =>
    simp only [OR.get,Option.some.injEq,Prod.mk.injEq] at hr;obtain ⟨e1,val,k1,k2⟩:=rf;exact ⟨v,val,by rw [<- hr.2,e1],k1 w,k2⟩
   | F5 p' v s' =>
    simp only [OR.get,Option.some.injEq,Prod.mk.injEq] at hr;obtain ⟨e1,val,k1,k2⟩:=rf (by rw [hr.1]; exact hp);exact ⟨v,val,by rw [<- hr.2,e1],k1 w,k2⟩
  split at hq
  ·rename_i x ho
   rw [ho] at hr;simp only [m0,ho,OR.get,Option.some.injEq,Prod.mk.injEq] at hr;exact ⟨s.ev x,a.eval x,hr.2.symm,by simp [execOp,ho],h.ev x⟩
  ·rename_i T x ho
   rw [ho] at hr;simp only [m0,ho] at hr;cases hl:Y5 E T (s.ev x) s with
   | fail y=>rw [hl] at hr; cases hr
   | ok v s' =>
    rw [hl] at hr;simp only [OR.get,Option.some.injEq,Prod.mk.injEq] at hr;obtain ⟨e1,val,k1,k2⟩:=c3E hE h ho hl;exact ⟨v,val,by rw [<- hr.2,e1],k1,k2⟩
   | F5 p' v s' =>
    exfalso;unfold Y5 at hl
    repeat' split at hl
    all_goals cases hl
  ·rename_i T x n ho
   have:=Cm hE h (o:=o) (by rw [ho]; rfl);rw [ho] at hr;exact key _ hr this
  ·rename_i T x n ho
   have:=Cm hE h (o:=o) (by rw [ho]; rfl);rw [ho] at hr;exact key _ hr this
  ·rename_i x ho
   have:=Cm hE h (o:=o) (by rw [ho]; rfl);rw [ho] at hr;exact key _ hr this
  ·rename_i T x y T' ho
   have:=ZI (E:=E) h ho;rw [ho] at hr;exact key _ hr this
  ·cases hq
theorem ZP {o:Oper} (hq:quiet o=true) {p:Prop} {s1:St} (hr:H4 E ops o s=some (p,s1)):∃ v,s1=s.put o.dst v:=by
 simp only [quiet,Bool.and_eq_true,Option.isNone_iff_eq_none] at hq;obtain ⟨hg,hq⟩:=hq;unfold H4 at hr;rw [hg] at hr;simp only at hr;unfold X5 at hr;split at hr
 ·cases hr
 ·rename_i hd
  have key:∀ (r:OR) (t:St),(∀ v s',r=.ok v s'->s'=s)->(∀ p v s',r=.F5 p v s'->s'=s)->(match r.get with|none=>none|some (p,v,s')=>some (p,s'.put o.dst v))=some (p,s1)->∃ v,s1=s.put o.dst v:=by
   intro r t h1 h2 hr;cases r with
   | fail why=>cases hr
   | ok v s' =>
    simp only [OR.get,Option.some.injEq,Prod.mk.injEq] at hr;exact ⟨v,by rw [<- hr.2,h1 v s' rfl]⟩
   | F5 p' v s' =>
    simp only [OR.get,Option.some.injEq,Prod.mk.injEq] at hr;exact ⟨v,by rw [<- hr.2,h2 p' v s' rfl]⟩
  split at hq
  ·rename_i x ho
   rw [ho] at hr;refine key _ s ?_ ?_ hr<;>(intros; simp_all [m0])
  ·rename_i T x ho
   rw [ho] at hr;refine key _ s ?_ ?_ hr
   ·intro v s' e
    simp only [m0,ho] at e;unfold Y5 at e
    repeat' split at e
    all_goals (cases e; try rfl)
   ·intro q v s' e
    simp only [m0,ho] at e;unfold Y5 at e
    repeat' split at e
    all_goals (cases e; try rfl)
  ·rename_i T x n ho
   rw [ho] at hr;refine key _ s ?_ ?_ hr
   ·intro v s' e
    simp only [m0,ho] at e
    repeat' split at e
    all_goals (cases e; try rfl)
   ·intro q v s' e
    simp only [m0,ho] at e
    repeat' split at e
    all_goals (cases e; try rfl)
  ·rename_i T x n ho
   rw [ho] at hr;refine key _ s ?_ ?_ hr
   ·intro v s' e
    simp only [m0,ho] at e
    repeat' split at e
    all_goals (cases e; try rfl)
   ·intro q v s' e
    simp only [m0,ho] at e
    repeat' split at e
    all_goals (cases e; try rfl)
  ·rename_i x ho
   rw [ho] at hr;refine key _ s ?_ ?_ hr
   ·intro v s' e
    simp only [m0,ho] at e
    repeat' split at e
    all_goals (cases e; try rfl)
   ·intro q v s' e
    simp only [m0,ho] at e
    repeat' split at e
    all_goals (cases e; try rfl)
  ·rename_i T x y T' ho
   have hb:=Pa (E:=E) (s:=s) ho;rw [ho] at hr;refine key _ s ?_ ?_ hr
   ·intro v s' e
    rcases hb with ⟨k,m,n,-,-,e3⟩|⟨why,e3⟩
    ·rw [e3] at e; cases e
    ·rw [e3] at e; cases e
   ·intro q v s' e
    rcases hb with ⟨k,m,n,-,-,e3⟩|⟨why,e3⟩
    ·rw [e3] at e; cases e; rfl
    ·rw [e3] at e; cases e
  ·cases hq
theorem OQ {o:Oper} (hg:o.guard=none) {T:TypeId} {a x:Operand} (ho:o.op=.store T a x) {j:Nat} {q:List Step} {v:Ty} {z:v.den} (ha:s.ev a=.ptr j q) (hx:s.ev x=.val v z) {p:Prop} {s1:St} (h:H4 E ops o s=some (p,s1)) :
  ∃ (e:i7) (r:Sigma Ty.den) (u:Ty) (y:u.den),G8 E.nt o.dst=true/\look j s.hp=some e/\s9 e.ty e.x q (P7 u ⟨v,z⟩).1 (P7 u ⟨v,z⟩).2=some r/\(l4 e.ty e.x q=some ⟨u,y⟩/\I8 E T u=true)/\s1=((s.kill j e.kd q).w8 j (e.E1 r)).put o.dst (.raw undef):=by
 have hr:∀ t,H4 E ops o t=X5 E o t:=λ t=>by unfold H4; rw [hg]
 rw [hr] at h;have cy:∀ t,m0 E o t=(match t.ev a with|.ptr i p=>P5 E T i p (t.ev x) t|_=>.fail "store"):=λ t=>by unfold m0; rw [ho]; rfl
 have aO:∀ t,X5 E o t=(match G8 E.nt o.dst with|false=>none|true=>match (m0 E o t).get with|none=>none|some (p,v,s')=>some (p,s'.put o.dst v)):=λ t=>by unfold X5; rw [ho]; rfl
 rw [aO] at h;split at h
 ·cases h
 ·rename_i hd
  rw [cy,ha] at h;simp only at h;rw [hx] at h;cases aS:look j s.hp with
  | none =>
   have:P5 E T j q (.val v z) s=.fail "store: object":=by unfold P5 St.obj; rw [aS]
   rw [this] at h; cases h
  | some e =>
   cases dP:l4 e.ty e.x q with
   | none =>
    have:P5 E T j q (.val v z) s=.fail "store: path":=by unfold P5 St.obj; rw [aS]; simp only [dP]
    rw [this] at h; cases h
   | some uy =>
    obtain ⟨u,y⟩:=uy;cases hc:I8 E T u with
    | false =>
     have:P5 E T j q (.val v z) s=.fail "store: type":=by unfold P5 St.obj; rw [aS]; simp only [dP,hc]
     rw [this] at h; cases h
    | true =>
     have sn:P5 E T j q (.val v z) s=(match s9 e.ty e.x q (P7 u ⟨v,z⟩).1 (P7 u ⟨v,z⟩).2 with
       | some r=>.ok (.raw undef) ((s.kill j e.kd q).w8 j (e.E1 r))
       | none=>.fail "store: value"):=by
      unfold P5 St.obj; rw [aS]; simp only [dP,hc,AV.vE,AV.vj,St.w9];cases s9 e.ty e.x q (P7 u ⟨v,z⟩).1 (P7 u ⟨v,z⟩).2 with
      | none=>rfl
      | some r=>rfl
     rw [sn] at h;cases aG:s9 e.ty e.x q (P7 u ⟨v,z⟩).1 (P7 u ⟨v,z⟩).2 with
     | none=>rw [aG] at h; cases h
     | some r =>
      rw [aG] at h;simp only [OR.get,Option.some.injEq,Prod.mk.injEq] at h;obtain ⟨rfl,rfl⟩:=h;exact ⟨e,r,u,y,hd,rfl,aG,⟨dP,hc⟩,rfl⟩
theorem Yq (hE:D0 E B) (hn:B.n=E.nt) (h:RS B S ι s a w) {o:Oper} (hg:o.guard=none) {T:TypeId} {ad x:Operand} (ho:o.op=.store T ad x) {j:Nat} {q:List Step} {v:Ty} {z:v.den} (ha:s.ev ad=.ptr j q) (hx:s.ev x=.val v z) {p:Prop} {s1:St} (hr:H4 E ops o s=some (p,s1)) :
  ∃ ι' w',(execOp a.eval o).run E.P w=.ok .skip w'/\RS B S ι' s1 (a.put o.dst undef) w'/\∀ {g:List Nat} {i:Nat} {e:i7} {p0:List Step} {t0:Ty} {l m:List t0.den} {b off:Nat} {v':Value},i≠j->j∉g->look i s.hp=some e->x7 e.ty e.x p0->l4 e.ty e.x p0=some ⟨.d0 true t0,l⟩->yO B S ι s.hp g i e p0 t0 l m b off v' w->yO B S ι' s1.hp g i e p0 t0 l m b off v' w':=by
 obtain ⟨ej,r,u,y,hd,aS,aG,⟨dP,bz⟩,rfl⟩:=OQ hg ho ha hx hr;have gE:=h.ev ad;rw [ha] at gE;obtain ⟨e',b0,off0,c1,aM,hl,c4⟩:=gE;rw [aS] at c1; cases c1;have c4:a.eval ad=.pointer (some ⟨b0,off0,none⟩):=by simpa using c4
 have dD:=h.ev x;rw [hx] at dD;obtain ⟨cs,fa,hz⟩:=dD;have fa:a.eval x=n8 v cs:=by simpa using fa
 obtain ⟨hz,nu⟩:=Qs (u:=u) (q:=⟨v,z⟩) hz;rw [<- BJ nu] at fa;generalize (P7 u ⟨v,z⟩)=fz at aG hz nu fa;obtain ⟨v,z⟩:=fz;dsimp only at aG hz fa;have cF:=K2 hl;obtain ⟨Op,m1,mn,m2,m3,m4,m5⟩:=M7 cF (h.hs.ob j ej aS) h.hs.slt aM dP hl;have cd:=Cq dP aG;have gX:¬ S b0:=(h.hs.bl j ej aS b0 m4).1;have hcs:cs.length=u.size:=by rw [hz.length,F6 cd]
 obtain ⟨ι',⟨O,rfl,hO⟩,h1⟩:=h.DS aS aM dP hl (u':=v) (z:=z) (cs:=cs) (O2:=[]) (λ H' aV hc=>hz.s4 (λ c dF=>hc.rest c (by
   rintro rfl;rcases dF with dF|dF
   ·cases dF
   ·exact gX dF) (by
   rcases dF with dF|dF
   ·cases dF
   ·exact h.hs.slt c dF)) (λ _ h=>h)) hcs List.nodup_nil (by simp) aG (λ bs _=>Qm aG (OU hl bs))
 have aO:(execOp a.eval o).run E.P w=.ok .skip (w.setRow b0 (over (u5 w.heap b0) off0 cs).toArray):=by
  simp [execOp,ho,c4,fa,Instr.storeAt,Instr.sureAddr,Fp (D4 hE bz) cd m5 hz]
 refine ⟨_,_,aO,h1.put (by rw [hn]; exact hd) (v:=.raw undef) (val:=undef) rfl,?_⟩;rintro g i e p0 t0 l m b off v' bN fS hi my dE ⟨O',k1,k2,k3,k4,k5⟩;have hold:∀ c,c≠b0->(w.setRow b0 (over (u5 w.heap b0) off0 cs).toArray).heap[c]?=w.heap[c]?:=λ c hc=>setRow_other hc;have bg:E8 ι (ι.C8 j O) i:=W9 bN O;have mH:=K2 k1;have bL:b0∉O':=λ hc=>(k5 b0 hc).2.1 j ej (Ne.symm bN) fS aS m4;refine ⟨O',?_,k2.s4 (λ c hc=>hold c (by
   rintro rfl;rcases hc with hc|hc
   ·exact bL hc
   ·exact gX hc)) (λ _ h=>h),k3,k4,λ c hc=>⟨?_,λ k ek hk rm de=>?_,λ kk=>?_⟩⟩
 ·rw [bg.loc]
  exact EY mH (h.hs.ob i e hi) h.hs.slt (λ c hc=>hold c (by rintro rfl; exact h.hs.dj i j e ej hi aS bN c hc m4)) my k1
 ·obtain ⟨f1,f2,f3⟩:=(k5 c hc).1
  exact ⟨f1,f2,by rw [setRow_size]; exact f3⟩
 ·rw [wW] at de
  simp only [St.w8,p7] at de;by_cases mS:k=j
  ·subst mS
   rw [if_pos rfl] at de; cases de;intro cv;refine (k5 c hc).2.1 k ej hk rm aS ?_;cases ej with
   | var t1 x1 =>
    simp only [l7,i7.E1,Ix.C8,if_true,List.mem_cons] at cv ⊢;rcases cv with cv|cv
    ·exact .inl cv
    ·rcases (hO c cv).1 with h9|h9
     ·exact .inr h9
     ·cases h9
   | own t1 x1 =>
    simp only [l7,i7.E1,Ix.C8,if_true] at cv ⊢;rcases (hO c cv).1 with h9|h9
    ·exact h9
    ·cases h9
   | K5=>exact absurd rfl cF
  ·rw [if_neg mS] at de
   rw [(W9 mS O).l7];exact (k5 c hc).2.1 k ek hk rm de
 ·rw [bg.l7] at kk
  obtain ⟨Op',o1,o2⟩:=(k5 c hc).2.2 kk;obtain ⟨O3,n1,_,n3,_,n5,_⟩:=M7 mH (h.hs.ob i e hi) h.hs.slt my dE k1;have kn:b0≠b:=by
   rintro rfl;exact h.hs.dj i j e ej hi aS bN b0 n5 m4
  have oy:O3=Op':=n3.det o1;have qJ:∀ c'∈Op',c'≠b0:=by
   rintro c' dF rfl;rw [<- oy] at dF;exact h.hs.dj i j e ej hi aS bN c' (I2 (n1 c' dF)) m4
  refine ⟨Op',?_,o2⟩;rw [l6 (hold b kn.symm)];exact o1.s4 (λ c' dF=>hold c' (by
   rintro rfl;rcases dF with dF|dF
   ·exact qJ _ dF rfl
   ·exact gX dF)) (λ _ h=>h)
theorem Aw {T:List Nat} {f:AV->AV} (hf:Trim T f) {u v:AV} (h:f u=v) (hv:v.ref=true\/(v.plain=true/\v≠.any)):u=v:=by
 cases u with
 | cons a b=>rw [hf.cons] at h; subst h; rcases hv with hv|⟨hv,_⟩<;>cases hv
 | K4 l=>rw [hf.K4] at h; subst h; rcases hv with hv|⟨hv,_⟩<;>cases hv
 | C5 g l=>rw [hf.C5] at h; subst h; rcases hv with hv|⟨hv,_⟩<;>cases hv
 | bx l=>rw [hf.bx] at h; subst h; rcases hv with hv|⟨hv,_⟩<;>cases hv
 | rc g l=>rw [hf.rc] at h; subst h; rcases hv with hv|⟨hv,_⟩<;>cases hv
 | ptr i p=>rcases hf.atom _ (rfl:(AV.ptr i p).ref=true) with e|e<;>rw [e] at h<;>first|exact h|(subst h; rcases hv with hv|⟨_,hv⟩<;>first|cases hv|exact absurd rfl hv)
 | at_ i p=>rcases hf.atom _ (rfl:(AV.at_ i p).ref=true) with e|e<;>rw [e] at h<;>first|exact h|(subst h; rcases hv with hv|⟨_,hv⟩<;>first|cases hv|exact absurd rfl hv)
 | sub i p x y=>rcases hf.atom _ (rfl:(AV.sub i p x y).ref=true) with e|e<;>rw [e] at h<;>first|exact h|(subst h; rcases hv with hv|⟨_,hv⟩<;>first|cases hv|exact absurd rfl hv)
 | _=>rw [hf.plain _ rfl] at h; exact h
theorem c2i {u:Ty} {v:AV} {r:Sigma λ t:Ty=>List t.den} {g:List Nat} (h:v.vo s u=some (r,g)):v.ref=true\/(v.plain=true/\v≠.any):=by
 cases v with
 | ptr i p=>exact .inl rfl
 | at_ i p=>exact .inl rfl
 | sub i p x y=>exact .inl rfl
 | raw v=>exact .inr ⟨rfl,by intro h; cases h⟩
 | val t x=>exact .inr ⟨rfl,by intro h; cases h⟩
 | O5 t x=>exact .inr ⟨rfl,by intro h; cases h⟩
 | nil=>exact .inr ⟨rfl,by intro h; cases h⟩
 | _=>exfalso; simp [AV.vo,AV.els] at h
theorem Re {M:List Nat} {q:vQ} {n:Nat} (h:DU ops M q n s=true) {j:Nat} (hj:j<n) (fA:j≠q.k) {o:Oper} (ho:ops[j]?=some o):(M.getD q.k 0).testBit j=true\/quiet o=true\/zb ops q n j o s=true:=by
 simp only [DU,List.all_eq_true,List.mem_range] at h;have:=h j hj;simp only [Bool.or_eq_true,ho] at this;rcases this with h|(h|h)|h
 ·exact absurd (Nat.eq_of_beq_eq_true h) fA
 ·exact .inl h
 ·exact .inr (.inl h)
 ·exact .inr (.inr h)
theorem TA {q:vQ} {n j:Nat} {o:Oper} (h:zb ops q n j o s=true):o.guard=none/\o.dst=none/\∃ T ad x j0 q0 v z,o.op=.store T ad x/\s.ev ad=.ptr j0 q0/\s.ev x=.val v z/\(s.ev q.x).j5 j0=false/\(s.ev q.y).j5 j0=false/\∀ j',j<j'->j'<n->∀ o',ops[j']?=some o'->∀ d,o'.dst=some d->d∉looks ops o:=by
 unfold zb at h;split at h
 ·rename_i T ad x ho
  simp only [Bool.and_eq_true] at h;obtain ⟨⟨⟨h1,hg⟩,hd⟩,h2⟩:=h;split at h1
  ·rename_i j0 q0 v z ha hx
   simp only [Bool.and_eq_true,Bool.not_eq_true'] at h1;refine ⟨by simpa using hg,by simpa using hd,T,ad,x,j0,q0,v,z,ho,ha,hx,h1.1,h1.2,λ j' hj ic o' eT d hd hm=>?_⟩;simp only [List.all_eq_true,List.mem_range] at h2;have:=h2 j' ic;rw [Bool.or_eq_true] at this;rcases this with h9|h9
   ·have:=Nat.le_of_ble_eq_true h9; omega
   ·rw [eT] at h9
    simp [zQ,hd,hm] at h9
  ·cases h1
 ·cases h
theorem Trim.yT {T T':List Nat} {f g:AV->AV} (hf:Trim T f) (hg:Trim T' g):Trim (T++T') (λ u=>g (f u)):=by
 refine ⟨λ a b=>by rw [hf.cons,hg.cons],λ l=>by rw [hf.K4,hg.K4],λ k l=>by rw [hf.C5,hg.C5],λ l=>by rw [hf.bx,hg.bx],λ k l=>by rw [hf.rc,hg.rc],λ u hu=>?_,λ u hu h=>?_,λ u hu=>by rw [hf.plain u hu,hg.plain u hu]⟩
 ·rcases hf.atom u hu with e|e
  ·rw [e]; exact hg.atom u hu
  ·rw [e]; exact .inr (hg.plain _ rfl)
 ·rw [hf.xy u hu (λ i hi=>h i (List.mem_append_left _ hi)),hg.xy u hu (λ i hi=>h i (List.mem_append_right _ hi))]
theorem Iw {J:List Nat} {F:AV->AV} (hF:Trim J F) {s t:St} {z:Operand} (h:∀ m,z=.tmp m->look m t.fr=(look m s.fr).map F):t.ev z=F (s.ev z):=by
 cases z with
 | tmp m =>
  have hg:t.get m=F (s.get m):=by
   simp only [St.get,h m rfl];cases look m s.fr with
   | none=>exact (hF.plain _ rfl).symm
   | some v=>rfl
  rw [Ag,Ag];unfold gq;cases Nat.beq m I7 with
  | true=>exact (hF.plain _ rfl).symm
  | false=>exact hg
 | const c=>exact (hF.fix _ (λ i _=>LA c i)).symm
 | global g=>exact (hF.plain _ rfl).symm
 | func f=>exact (hF.fix _ (λ i _=>rfl)).symm
theorem EL {M:Nat->Nat} {q:vQ} {n:Nat} {sF:St}:∀ {l:List Nat} {acc:List (Nat×St)} {s s':St},vz E ops M acc l s s'->M2 s' sF->uniq s.fr->l.Pairwise (·<·)->(∀ j∈l,j<n)->(∀ j∈l,∀ o,ops[j]?=some o->quiet o=true\/zb ops q n j o sF=true) ->
  ∃ (J:List Nat) (f:AV->AV),Trim J f/\(∀ j∈J,(sF.ev q.x).j5 j=false/\(sF.ev q.y).j5 j=false)/\(∀ i,i∉J->look i s'.hp=look i s.hp)/\∀ m,(∀ j∈l,∀ o,ops[j]?=some o->o.dst≠some m)->look m s'.fr=(look m s.fr).map f
 | [],acc,s,s',h,_,_,_,_,_=>by
  obtain rfl:s=s':=h;exact ⟨[],λ u=>u,Trim.id _,by simp,λ _ _=>rfl,λ m _=>by simp⟩
 | j::l,acc,s,s',⟨o,ho,_,p,s1,h1,_,h2⟩,cZ,hu,ss,bc,hq=>by
  obtain ⟨pd,pc⟩:=List.pairwise_cons.1 ss;obtain ⟨J,f,k1,k2,k3,k4⟩:=EL h2 cZ (Q0 hu h1) pc (λ j' ic=>bc j' (by simp [ic])) (λ j' ic=>hq j' (by simp [ic]));rcases hq j (by simp) o ho with pb|pF
  ·obtain ⟨v,rfl⟩:=ZP pb h1
   refine ⟨J,f,k1,k2,λ i hi=>(k3 i hi).trans (by rw [wW]),λ m hm=>?_⟩;rw [k4 m (λ j' ic=>hm j' (by simp [ic])),X1,if_neg (hm j (by simp) o ho)]
  ·obtain ⟨hg,oi,T,ad,x,j0,q0,v,z,g1,g2,g3,g4,g5,g6⟩:=TA pF
   obtain ⟨v0,ids,f0,h0,z1,z2,z3,z4,z5⟩:=zq (ops:=ops) hu h1;obtain ⟨s1',y1,_,y2⟩:=z5 s hu ((M2.refl s).yj _ _) z2;rw [h1] at y1; cases y1;have iu:∀ y,y∈o.op.operands.toList->sF.ev y=f (f0 (s.ev y)):=by
    intro y hy;refine Iw (z1.yT k1) (λ m hm=>?_);subst hm;have ia:=xT (ops:=ops) hy;rw [<- cZ.1 m,k4 m (λ j' ic o' eT dY=>g6 j' (pd j' ic) (bc j' (by simp [ic])) o' eT m dY ia),y2.fr,if_neg (by rw [oi]; intro h; cases h)];cases look m s.fr<;>rfl
   have ha:s.ev ad=.ptr j0 q0:=Aw (z1.yT k1) ((iu ad (by rw [g1]; simp [Op.operands])).symm.trans g2) (.inl rfl);have hx:s.ev x=.val v z:=Aw (z1.yT k1) ((iu x (by rw [g1]; simp [Op.operands])).symm.trans g3) (.inr ⟨rfl,by intro h; cases h⟩);obtain ⟨e,r,_,_,_,_,_,_,rfl⟩:=OQ hg g1 ha hx h1;refine ⟨[j0]++J,λ u=>f (AV.kill j0 e.kd q0 u),(Trim.kill j0 e.kd q0).yT k1,λ i hi=>?_,λ i hi=>?_,λ m hm=>?_⟩
   ·rcases List.mem_append.1 hi with hi|hi
    ·rw [List.mem_singleton] at hi; subst hi; exact ⟨g4,g5⟩
    ·exact k2 i hi
   ·rw [k3 i (λ h=>hi (List.mem_append_right _ h)),wW]
    simp only [St.w8,p7];rw [if_neg (λ h=>hi (List.mem_append_left _ (by simp [h])))];rfl
   ·rw [k4 m (λ j' ic=>hm j' (by simp [ic])),X1,if_neg (hm j (by simp) o ho)]
    have e1:look m ((s.kill j0 e.kd q0).w8 j0 (e.E1 r)).fr=(look m s.fr).map (AV.kill j0 e.kd q0):=O6 m _ _;rw [e1];cases look m s.fr<;>rfl
theorem Kk {M:List Nat} {k n:Nat} (h:DW ops M k n=true):n+1=ops.size/\k<n/\∃ ok,ops[k]?=some ok/\∀ j,j<n->(M.getD n 0).testBit j=true/\(j≠k->∃ o,ops[j]?=some o/\(∀ d,ok.dst=some d->o.dst≠some d) /\
  ((M.getD k 0).testBit j=true\/((quiet o=true\/LZ o=true)/\∀ d,o.dst=some d->d∉looks ops ok))):=by
 simp only [DW,Bool.and_eq_true] at h;obtain ⟨⟨h1,h2⟩,h3⟩:=h;have hn:=Nat.eq_of_beq_eq_true h1;refine ⟨hn,by simpa [Nat.blt_eq] using h2,?_⟩;split at h3
 ·rename_i ok aM
  refine ⟨ok,aM,λ j hj=>?_⟩;simp only [List.all_eq_true,List.mem_range] at h3;have:=h3 j hj;simp only [Bool.and_eq_true,Bool.or_eq_true] at this;obtain ⟨m1,m2⟩:=this;refine ⟨m1,λ fA=>?_⟩;rcases m2 with m2|m2
  ·exact absurd (Nat.eq_of_beq_eq_true m2) fA
  ·split at m2
   ·rename_i o ho
    simp only [Bool.and_eq_true,Bool.or_eq_true] at m2;refine ⟨o,ho,λ d hd gV=>?_,m2.2.imp id (λ h=>⟨h.1,λ d hd ij=>?_⟩)⟩
    ·have:=m2.1
     simp only [zQ,gV,hd,Option.toList] at this;simp at this
    ·have:=h.2
     simp only [zQ,hd] at this;simp [ij] at this
   ·cases m2
 ·cases h3
theorem JE {M:List Nat} {q:vQ} {n:Nat} {o:Oper} {s:St} {p:Prop} {s2:St} (h:zD E ops M q n o s=some (p,s2)):∃ T2 ad s3,o.guard=none/\o.op=.store T2 ad (.tmp q.d)/\(∀ t,ad=.tmp t->t≠q.d)/\(DW ops M q.k n=true/\DU ops M q n s=true)/\G8 E.nt o.dst=true /\
  yd E q.T q.U T2 (s.ev q.x) (s.ev q.y) (s.ev ad) q.d s=some (p,s3)/\s2=s3.put o.dst (.raw undef):=by
 unfold zD at h;split at h
 ·rename_i T2 ad d' hg cy
  split at h
  ·rename_i hc
   simp only [Bool.and_eq_true] at hc;obtain ⟨⟨⟨⟨c1,c2⟩,c3⟩,c5⟩,c4⟩:=hc;obtain rfl:=Nat.eq_of_beq_eq_true c1;split at h
   ·rename_i p' s3 hs
    cases h;exact ⟨T2,ad,s3,hg,cy,λ t e=>by subst e; rintro rfl; simp at c2,⟨c3,c5⟩,c4,hs,rfl⟩
   ·cases h
  ·cases h
 ·cases h
theorem Jx (hE:D0 E B) {x y adv:AV} {T U T2:TypeId} {d:Nat} {p:Prop} {s2:St} (hb:yd E T U T2 x y adv d s=some (p,s2)) (hp:p) :
  ∃ i p0 e t0 l m g r q bts,x=.at_ i p0/\adv=.ptr i p0/\look i s.hp=some e/\i∉g/\g.Nodup/\(g.all λ i=>!pinned i)=true/\l4 e.ty e.x p0=some ⟨.d0 true t0,l⟩/\I8 E T2 (.d0 true t0)=true /\
   s9 e.ty e.x p0 (.d0 true t0) (l++m)=some r/\s2=(((St.w9 g (s.put (some d) .any)).kill i e.kd p0).w8 i (e.E1 r))/\look T E.tt=some ⟨.d0 q t0,bts⟩ /\
   ((∃ e',E.P.underlying U=some (.slice e'))\/E.P.underlying U=some .string)/\y.vo s t0=some (⟨t0,m⟩,g)/\l.length+m.length<=140737488355328/\(l.length+m.length)*t0.wb<=140737488355328 /\
   ((∃ t x,e=.var t x)\/∃ t x j q,e=.own (.d0 true t) x/\p0=.idx j::q):=by
 unfold yd at hb;split at hb
 ·rename_i i p0 j q q1 t0 bts u1 bts1 hT hU
  split at hb
  ·rename_i e aS ju
   simp only [Bool.and_eq_true] at ju;obtain ⟨bN,ju⟩:=ju;have bN:=Nat.eq_of_beq_eq_true bN;subst bN;split at hb
   ·rename_i u l hg
    split at hb
    ·rename_i t m g cp
     split at hb
     ·rename_i hu
      split at hb
      ·rename_i ht
       subst hu; subst ht;split at hb
       ·rename_i r aG
        split at hb
        ·rename_i bz
         cases hb;simp only [Bool.and_eq_true,Bool.not_eq_true'] at bz;obtain ⟨⟨⟨⟨bz,bK⟩,eo⟩,ie⟩,dP⟩:=bz;obtain ⟨rfl,iQ,gP⟩:=hp;have eo:i∉g:=by intro hm; simp [hm] at eo
         have hk:(∃ e',E.P.underlying U=some (.slice e'))\/E.P.underlying U=some .string:=by
          cases u1<;>first|cases ju|skip
          ·exact .inr (X3 (r7 hE hU))
          ·obtain ⟨et,k',f1,_⟩:=F7 (r7 hE hU)
           exact .inl ⟨et,f1⟩
         exact ⟨i,q,e,_,l,m,g,r,_,_,rfl,rfl,aS,eo,CL ie,dP,hg,bz,aG,rfl,hT,hk,cp,iQ,gP,(Cs bK).2⟩
        ·cases hb
       ·cases hb
      ·cases hb
     ·cases hb
    ·cases hb
   ·cases hb
  ·cases hb
 ·cases hb
theorem N7.cut:∀ {A C:List Oper} {o:Oper},N7 (A++o::C)->N7 (A++C)/\∀ x∈A++C,∀ d,x.dst=some d->o.dst≠some d
 | [],C,o,h=>⟨h.2,λ x hx d fX gV=>h.1 d gV x hx fX⟩
 | y::A,C,o,h=>by
  obtain ⟨m1,m2⟩:=N7.cut h.2;refine ⟨⟨λ d hd x hx=>h.1 d hd x (by simp at hx ⊢; rcases hx with hx|hx<;>simp [hx]),m1⟩,λ x hx d fX gV=>?_⟩;rcases List.mem_cons.1 hx with rfl|hx
  ·exact h.1 d fX o (by simp) gV
  ·exact m2 x hx d fX gV
theorem N7.sub {f:Nat->Bool}:∀ {l:List Nat},N7 (rem ops l)->N7 (rem ops (l.filter f))
 | [],h=>h
 | i::l,h=>by
  cases ho:ops[i]? with
  | none =>
   have e:rem ops (i::l)=rem ops l:=by simp [rem,ho]
   rw [e] at h;have:=N7.sub (f:=f) h;rw [List.filter_cons]
   split
   ·have e:rem ops (i::l.filter f)=rem ops (l.filter f):=by simp [rem,ho]
    rw [e]; exact this
   ·exact this
  | some o =>
   rw [EA ho] at h;rw [List.filter_cons]
   split
   ·rw [EA ho]
    refine ⟨λ d hd x hx=>h.1 d hd x ?_,N7.sub h.2⟩;obtain ⟨j,hj,sV⟩:=List.mem_filterMap.1 hx;exact List.mem_filterMap.2 ⟨j,(List.mem_filter.1 hj).1,sV⟩
   ·exact N7.sub h.2
theorem TP {n i:Nat} {listed:Array Bool} {f:Nat->Bool} (hs:listed.size=n) (hi:i∈idxs n listed) (hf:f i=true):∃ pre post,(idxs n listed).filter f=pre++i::post/\(∀ j∈pre,j<i) /\
  (idxs n (listed.setIfInBounds i true)).filter f=pre++post:=by
 obtain ⟨pre,post,e,h1,h2⟩:=KB hi;refine ⟨pre.filter f,post.filter f,by rw [e,List.filter_append,List.filter_cons,if_pos hf],λ j hj=>h1 j (List.mem_filter.1 hj).1,?_⟩;rw [Ca hs (E9.1 hi).1,h2,List.filter_append]
theorem c3S {n i:Nat} {listed:Array Bool} {f g:Nat->Bool} (hs:listed.size=n) (hi:i<n) (hg:∀ j,g j=(f j && !(j == i))):(idxs n (listed.setIfInBounds i true)).filter f=(idxs n listed).filter g:=by
 rw [Ca hs hi,List.filter_filter];exact List.filter_congr (λ j _=>(hg j).symm)
theorem BZ {n i fuel:Nat} {listed:Array Bool} (hs:listed.size=n) (hi:i∈idxs n listed) (hl:(idxs n listed).length=fuel+1):(idxs n (listed.setIfInBounds i true)).length=fuel:=by
 obtain ⟨pre,post,e,h1,h2⟩:=KB hi;rw [Ca hs (E9.1 hi).1,h2];rw [e] at hl;simp at hl ⊢; omega
section
variable {q:vQ} {n:Nat} {s1:St}
theorem zf.set {listed:Array Bool} (cr:zf ops listed) {i:Nat} {o:Oper} (ho:ops[i]?=some o) (aZ:∀ e∈o.after,Region.binds .any e=true->listed.getD e.on false=true):zf ops (listed.setIfInBounds i true):=by
 intro k y hy hk e' eC cQ;by_cases gy:k=i
 ·subst gy
  rw [ho] at hy; cases hy;exact getD_set_true (aZ e' eC cQ)
 ·rw [getD_set_ne true (Ne.symm gy)] at hk
  exact getD_set_true (cr k y hy hk e' eC cQ)
theorem a9G {listed:Array Bool} {i:Nat} (hi:i<listed.size):(listed.setIfInBounds i true).getD i false=true:=by simp [hi]
theorem Tb (hd:wO ops=true) {listed:Array Bool} (aV:listed.size=ops.size) (bC:idxs ops.size listed≠[]):Region.ready .any ops listed≠[]:=by
 have hM:=EH hd;intro hr;cases kU:idxs ops.size listed with
 | nil=>exact bC kU
 | cons i l =>
  have bj:i∈idxs ops.size listed:=by rw [kU]; simp
  obtain ⟨h1,h2⟩:=E9.1 bj;have ho:ops[i]?=some ops[i]:=Array.getElem?_eq_getElem h1;have:i∈Region.ready .any ops listed:=by
   refine mem_ready.2 ⟨h2,ops[i],ho,λ e he hb=>?_⟩;have bc:=(hM i _ ho).1 e he hb;cases hle:listed.getD e.on true with
   | true =>
    have:e.on<listed.size:=by omega
    simp [this] at hle ⊢; exact hle
   | false =>
    exfalso;have jV:e.on∈idxs ops.size listed:=E9.2 ⟨by omega,hle⟩;have hs:=CJ ops.size listed;rw [kU] at hs jV;rcases List.mem_cons.1 jV with e1|e1
    ·omega
    ·have:=(List.pairwise_cons.1 hs).1 _ e1; omega
  rw [hr] at this;cases this
theorem c09 (hE:D0 E B) (hn:B.n=E.nt) (hd:wO ops=true) {Q:Exit->Act->World->Prop} (fe:N7 ops.toList) (hA:Ba E ops q) {o2:Oper} (iD:ops[n]?=some o2) {p:Prop} {s2:St} (eM:zD E ops (D9 ops.toList []) q n o2 s1=some (p,s2)) (hp:p)
  (hQ:∀ S ι a w,RS B S ι s2 a w->Q .normal a w) {i:Nat} {e:i7} {p0:List Step} {t0:Ty} {l m:List t0.den} {g:List Nat} (hx:s1.ev q.x=.at_ i p0) (he:look i s1.hp=some e) (aM:x7 e.ty e.x p0) (hg:l4 e.ty e.x p0=some ⟨.d0 true t0,l⟩)
  (cp:(s1.ev q.y).vo s1 t0=some (⟨t0,m⟩,g)) {v':Value} :
  ∀ (fuel:Nat) (listed:Array Bool) (S:Nat->Prop) (ι:Ix) (s s':St) (a:Act) (w:World),listed.size=ops.size->(idxs ops.size listed).length=fuel->zf ops listed->listed.getD q.k false=true->listed.getD n true=false->uniq s.fr->N3 s (rem ops ((idxs ops.size listed).filter (λ j=>!(j == n)))) ->
   vz E ops (λ i=>(D9 ops.toList []).getD i 0) [] ((idxs ops.size listed).filter (λ j=>!(j == n))) s s'->M2 s' s1->RS B S ι s a w->a.eval (.tmp q.d)=v'->(∀ b off,Loc w.heap ι i e p0=some (b,off)->yO B S ι s.hp g i e p0 t0 l m b off v' w) ->
   wpAny E.P .any ops Q fuel listed a w:=by
 have hM:=EH hd;obtain ⟨T2,ad,s3,f1,f2,f3,⟨f4,f4'⟩,f5,f6,rfl⟩:=JE eM;obtain ⟨fY,nZ,ok,iC,fx⟩:=Kk f4;obtain ⟨oa,c,a1,a2,a3,a4,a5,a6,a7,a8⟩:=hA;have e9:oa=ok:=by rw [a1] at iC; cases iC; rfl
 subst e9;have mF:∀ j o,j<n->j≠q.k->ops[j]?=some o->o.dst≠some q.d:=by
  intro j o hj fA ho;obtain ⟨o',h1,h2,_⟩:=(fx j hj).2 fA;rw [ho] at h1; cases h1;exact h2 q.d a3
 intro fuel
 induction fuel with
 | zero =>
  intro listed S ι s s' a w aV hlen cr de ga hu fB aO cZ cn hv nU;exfalso;have fO:idxs ops.size listed=[]:=List.length_eq_zero_iff.1 hlen;have:n∈idxs ops.size listed:=E9.2 ⟨by omega,ga⟩;rw [fO] at this; cases this
 | succ fuel ih =>
  intro listed S ι s s' a w aV hlen cr de ga hu fB aO cZ cn hv nU;refine ⟨λ hr=>absurd hr (Tb hd aV (by intro h; rw [h] at hlen; cases hlen)),λ i' hi=>?_⟩;obtain ⟨h1,o,ho,aZ⟩:=mem_ready.1 hi;have cY:i'<ops.size:=(Array.getElem?_eq_some_iff.1 ho).1;have bj:i'∈idxs ops.size listed:=E9.2 ⟨cY,h1⟩;have gZ:∀ j,j<ops.size->((D9 ops.toList []).getD i' 0).testBit j=true->listed.getD j false=true:=EZ (M:=λ i=>(D9 ops.toList []).getD i 0) (λ i o ho=>⟨(hM i o ho).1,(hM i o ho).2.1⟩) cr i' o ho aZ;by_cases fk:i'=n
  ·
   subst fk;rw [iD] at ho; cases ho;have bD:∀ j,j∈idxs ops.size listed->j=i':=by
    intro j hj;obtain ⟨j1,j2⟩:=E9.1 hj;by_cases e:j=i'
    ·exact e
    ·have:=gZ j j1 (fx j (by omega)).1
     rw [V1 this] at j2; cases j2
   have fO:(idxs ops.size listed).filter (λ j=>!(j == i'))=[]:=by
    rw [List.filter_eq_nil_iff];intro j hj; simp [bD j hj]
   rw [fO] at aO;obtain rfl:s=s':=aO;have me:=DX cZ cn;have oW:RS B S ι (s1.put (some q.d) .any) a w:=me.forget q.d;obtain ⟨i2,p2,e2,t2,l2,m2,g2,r,qq,bts,b1,b2,b3,b4,b5,b6,b7,b8,b9,Bh,Bg,Bf,xb,Be,Bd,yH⟩:=Jx hE f6 hp;rw [hx] at b1;obtain ⟨rfl,rfl⟩:i=i2/\p0=p2:=by simpa using b1
   rw [he] at b3; cases b3;rw [hg] at b7;simp only [Option.some.injEq,Sigma.mk.injEq,Ty.d0.injEq,true_and] at b7;obtain ⟨b7,b7'⟩:=b7;subst b7;obtain rfl:l=l2:=eq_of_heq b7';rw [cp] at xb;simp only [Option.some.injEq,Prod.mk.injEq,Sigma.mk.injEq,heq_eq_eq,true_and] at xb;obtain ⟨rfl,rfl⟩:=xb;have gE:=me.ev ad;rw [b2] at gE;obtain ⟨e',b,off,c1,c2,c3,c4⟩:=gE;rw [he] at c1; cases c1;have c4:a.eval ad=.pointer (some ⟨b,off,none⟩):=by simpa using c4
   have bK:=SZ hE oW (g:=g) b6 b4 (e:=e) he aM hg (by
    obtain ⟨O',y1,y2,y3,y4,y5⟩:=nU b off c3;exact ⟨O',y1,y2,y3,y4,λ cc hc=>⟨(y5 cc hc).1,λ j ej hj fS df=>(y5 cc hc).2.1 j ej hj fS ((cZ.2 j).trans df),(y5 cc hc).2.2⟩⟩) f2 c4 hv b8 b9
   have jX:=BZ aV bj hlen;have jT:idxs ops.size (listed.setIfInBounds i' true)=[]:=by
    rw [Ca aV cY];rw [List.filter_eq_nil_iff];intro j hj; simp [bD j hj]
   have tr:fuel=0:=by rw [jT] at jX; exact jX.symm
   subst tr;have hw:o2.wp E.P a w (wpAny E.P .any ops Q 0 (listed.setIfInBounds i' true)) Q:=by
    refine bK _ _ (λ S' ι' w' val h1 h2=>⟨?_,hQ S' ι' _ w' ?_⟩)
    ·rw [List.eq_nil_iff_forall_not_mem]
     intro j hj;obtain ⟨j1,oj,j2,_⟩:=mem_ready.1 hj;have:j∈idxs ops.size (listed.setIfInBounds i' true):=E9.2 ⟨(Array.getElem?_eq_some_iff.1 j2).1,j1⟩;rw [jT] at this; cases this
    ·rw [<- Bh] at h1 h2
     exact h1.put (by rw [hn]; exact f5) h2
   unfold wpOp;rw [iD];simp only [Region.wanted,f1,if_true];exact .inl hw
  ·
   have bc:i'<n:=by omega
   have gy:i'≠q.k:=by rintro rfl; rw [V1 de] at h1; cases h1
   obtain ⟨o',eT,ki,uI⟩:=(fx i' bc).2 gy;rw [ho] at eT; cases eT;have mJ:∀ j,j∈idxs ops.size listed->¬ ((D9 ops.toList []).getD q.k 0).testBit j=true:=by
    intro j hj hb;have qh:∀ e∈oa.after,Region.binds .any e=true->listed.getD e.on false=true:=cr q.k oa a1 (V1 de);have h9:=EZ (M:=λ i=>(D9 ops.toList []).getD i 0) (λ i o ho=>⟨(hM i o ho).1,(hM i o ho).2.1⟩) cr q.k oa a1 qh j (E9.1 hj).1 hb;have h8:=(E9.1 hj).2;rw [V1 h9] at h8; cases h8
   have fi:∀ j∈(idxs ops.size listed).filter (λ j=>!(j == n)),∀ oj,ops[j]?=some oj->quiet oj=true\/zb ops q n j oj s1=true:=by
    intro j hj oj jR;obtain ⟨j1,j2⟩:=List.mem_filter.1 hj;simp only [Bool.not_eq_true',beq_eq_false_iff_ne,ne_eq] at j2;have jn:j<n:=by have:=(E9.1 j1).1; omega
    have jk:j≠q.k:=by rintro rfl; have:=(E9.1 j1).2; rw [V1 de] at this; cases this
    rcases Re f4' jn jk jR with h9|h9|h9
    ·exact absurd h9 (mJ j j1)
    ·exact .inl h9
    ·exact .inr h9
   have gx:∀ j∈(idxs ops.size listed).filter (λ j=>!(j == n)),j<n:=by
    intro j hj;obtain ⟨j1,j2⟩:=List.mem_filter.1 hj;simp only [Bool.not_eq_true',beq_eq_false_iff_ne,ne_eq] at j2;have:=(E9.1 j1).1; omega
   have fc:((idxs ops.size listed).filter (λ j=>!(j == n))).Pairwise (·<·):=(CJ ops.size listed).sublist List.filter_sublist;have mL:i'∈(idxs ops.size listed).filter (λ j=>!(j == n)):=List.mem_filter.2 ⟨bj,by simpa using fk⟩;have mT:=fi i' mL o ho;have rb:=aO;obtain ⟨pre,post,e1,kQ,e2⟩:=TP (f:=λ j=>!(j == n)) aV bj (by simpa using fk);rw [e1] at fB aO;have er:rem ops (pre++i'::post)=rem ops pre++o::rem ops post:=by simp [rem,List.filterMap_append,ho]
   have er2:rem ops (pre++post)=rem ops pre++rem ops post:=by simp [rem,List.filterMap_append]
   have gC:N7 (rem ops (pre++i'::post)):=by
    rw [<- e1];refine N7.sub ?_;have:rem ops (idxs ops.size listed)=rem ops ((List.range ops.size).filter (λ i=>!listed.getD i true)):=rfl;rw [this];refine N7.sub ?_;have h9:=Ec (ops:=ops);rw [yu] at h9;rw [h9]; exact fe
   have fj:∀ j∈pre,((D9 ops.toList []).getD i' 0).testBit j=false/\∀ x,ops[j]?=some x->indep ops x o=true:=by
    intro j hj;have dH:j∈idxs ops.size listed:=by
     have:j∈(idxs ops.size listed).filter (λ j=>!(j == n)):=by rw [e1]; simp [hj]
     exact (List.mem_filter.1 this).1
    have fZ:((D9 ops.toList []).getD i' 0).testBit j=false:=by
     cases hm:((D9 ops.toList []).getD i' 0).testBit j with
     | false=>rfl
     | true =>
      exfalso;have iW:=gZ j (E9.1 dH).1 hm;have:=(E9.1 dH).2;rw [V1 iW] at this;cases this
    refine ⟨fZ,λ x hx=>?_⟩;rcases (hM i' o ho).2.2 j x (kQ j hj) hx with hm|hm
    ·rw [fZ] at hm; cases hm
    ·exact hm
   obtain ⟨pp,sa,sb,k1,k2,k3,k4,_⟩:=DM ho gC fj hu (fB.sub (λ y hy=>by rw [BU]; exact List.mem_append_left _ hy)) aO;rw [er] at gC fB;have gD:=N7.cut gC;rcases mT with pb|pF
   ·obtain ⟨q1,q2,v,val,rfl,q3,q4⟩:=ZQ hE cn pb k1 k2
    have fP:wpAny E.P .any ops Q fuel (listed.setIfInBounds i' true) (a.put o.dst val) w:=by
     refine ih (listed.setIfInBounds i' true) S ι (s.put o.dst v) sb (a.put o.dst val) w (by simp [aV]) (BZ aV bj hlen) (cr.set ho aZ) (getD_set_true de) (by rw [getD_set_ne true fk]; exact ga) (Q0 hu k1) ?_ (by rw [e2]; exact k3) (k4.trans cZ) (cn.put (by rw [hn]; exact q2) q4) ?_ (λ b off hb=>by rw [wW]; exact nU b off hb)
     ·rw [e2,er2]
      exact N3.step hu (λ y hy=>fB y (by simp at hy ⊢; rcases hy with hy|hy<;>simp [hy])) gD.2 k1
     ·rw [<- hv]
      have bC:=mF i' o bc gy ho;cases gV:o.dst with
      | none=>rfl
      | some d =>
       rw [gV] at bC;exact Z8 (λ e=>bC (by rw [e]))
    unfold wpOp;rw [ho];simp only [Region.wanted,q1,if_true];refine .inl ?_;unfold Oper.wp;rw [q3];exact fP
   ·
    obtain ⟨dE,oi,T,ad',x',j0,q0,vt,z,g1,g2,g3,g4,g5,g6⟩:=TA pF;rw [e1] at fc gx fi;have bP:List.Sublist (pre++post) (pre++i'::post):=List.Sublist.append (List.Sublist.refl _) (List.sublist_cons_self _ _);obtain ⟨J,f,t1,t2,t3,t4⟩:=EL k3 (k4.trans cZ) (Q0 hu k1) (fc.sublist bP) (λ j hj=>gx j (bP.subset hj)) (λ j hj=>fi j (bP.subset hj));have hpost:∀ j∈post,i'<j:=λ j hj=>(List.pairwise_cons.1 (List.pairwise_append.1 fc).2.1).1 j hj;obtain ⟨v0,ids,f0,uN,z1,z2,z3,z4,z5⟩:=zq (ops:=ops) hu k1;obtain ⟨sa',y1,_,y2⟩:=z5 s hu ((M2.refl s).yj _ _) z2;rw [k1] at y1; cases y1;have iu:∀ y,y∈o.op.operands.toList->s1.ev y=f (f0 (s.ev y)):=by
     intro y hy;refine Iw (z1.yT t1) (λ m' hm=>?_);subst hm;have ia:=xT (ops:=ops) hy;rw [<- (k4.trans cZ).1 m',t4 m' (λ j hj o' eT dY=>?_),y2.fr,if_neg (by rw [oi]; intro h; cases h)]
     ·cases look m' s.fr<;>rfl
     ·rcases List.mem_append.1 hj with hj|hj
      ·exact (Tf ((fj j hj).2 o' eT)).1 m' dY ia
      ·exact g6 j (hpost j hj) (gx j (by simp [hj])) o' eT m' dY ia
    have tJ:s.ev ad'=.ptr j0 q0:=Aw (z1.yT t1) ((iu ad' (by rw [g1]; simp [Op.operands])).symm.trans g2) (.inl rfl);have eh:s.ev x'=.val vt z:=Aw (z1.yT t1) ((iu x' (by rw [g1]; simp [Op.operands])).symm.trans g3) (.inr ⟨rfl,by intro h; cases h⟩);obtain ⟨ι',w',r1,r2,r3⟩:=Yq hE hn cn dE g1 tJ eh k1;have bN:i≠j0:=by
     rintro rfl;rw [hx] at g4;simp only [AV.j5,Nat.beq_refl] at g4;cases g4
    have fS:j0∉g:=λ hm=>by rw [RB cp j0 hm] at g5; cases g5
    obtain ⟨J2,f2',u1,u2,u3,u4⟩:=EL (ops:=ops) (q:=q) (n:=n) aO cZ hu fc gx fi;have lP:look i s.hp=some e:=by
     rw [<- u3 i (λ hm=>by
      have:=(u2 i hm).1;rw [hx] at this;simp only [AV.j5,Nat.beq_refl] at this;cases this),cZ.2 i]
     exact he
    obtain ⟨i2,p2,e2',t2',l2,m2,g2',r',qq,bts,b1,b2,b3,b4,b5,b6,b7,b8,b9,Bh,Bg,Bf,xb,Be,Bd,yH⟩:=Jx hE f6 hp;rw [hx] at b1;obtain ⟨rfl,rfl⟩:i=i2/\p0=p2:=by simpa using b1
    rw [he] at b3; cases b3;obtain ⟨b,off,gY⟩:=Cc (cn.hs.ob i e lP) cn.hs.slt yH aM hg;have hP:=r3 bN fS lP aM hg (nU b off gY);have fP:wpAny E.P .any ops Q fuel (listed.setIfInBounds i' true) (a.put o.dst undef) w':=by
     refine ih (listed.setIfInBounds i' true) S ι' sa sb (a.put o.dst undef) w' (by simp [aV]) (BZ aV bj hlen) (cr.set ho aZ) (getD_set_true de) (by rw [getD_set_ne true fk]; exact ga) (Q0 hu k1) ?_ (by rw [e2]; exact k3) (k4.trans cZ) r2 ?_ (λ b9 off9 rB=>?_)
     ·rw [e2,er2]
      exact N3.step hu (λ y hy=>fB y (by simp at hy ⊢; rcases hy with hy|hy<;>simp [hy])) gD.2 k1
     ·rw [<- hv,oi]; rfl
     ·obtain ⟨_,h9,_⟩:=id hP
      rw [h9] at rB; cases rB;exact hP
    unfold wpOp;rw [ho];simp only [Region.wanted,dE,if_true];refine .inl ?_;unfold Oper.wp;rw [r1];exact fP
theorem b77 (hE:D0 E B) (hn:B.n=E.nt) (hd:wO ops=true) {Q:Exit->Act->World->Prop} (fe:N7 ops.toList) (hA:Ba E ops q) {o2:Oper} (iD:ops[n]?=some o2) {p:Prop} {s2:St} (eM:zD E ops (D9 ops.toList []) q n o2 s1=some (p,s2)) (hp:p)
  (hQ:∀ S ι a w,RS B S ι s2 a w->Q .normal a w) :
  ∀ (fuel:Nat) (listed:Array Bool) (S:Nat->Prop) (ι:Ix) (s s':St) (a:Act) (w:World),listed.size=ops.size->(idxs ops.size listed).length=fuel->zf ops listed->listed.getD q.k true=false->listed.getD n true=false->uniq s.fr->N3 s (rem ops ((idxs ops.size listed).filter (λ j=>!(j == n) && !(j == q.k)))) ->
   vz E ops (λ i=>(D9 ops.toList []).getD i 0) [] ((idxs ops.size listed).filter (λ j=>!(j == n) && !(j == q.k))) s s'->M2 s' s1->look q.d s.fr=some .any->RS B S ι s a w ->
   wpAny E.P .any ops Q fuel listed a w:=by
 have hM:=EH hd;obtain ⟨T2,ad,s3,f1,f2,f3,⟨f4,f4'⟩,f5,f6,_⟩:=JE eM;obtain ⟨fY,nZ,ok,iC,fx⟩:=Kk f4;have uk:=hA;obtain ⟨oa,c,a1,a2,a3,a4,a5,a6,a7,a8⟩:=hA;have e9:oa=ok:=by rw [a1] at iC; cases iC; rfl
 subst e9;intro fuel
 induction fuel with
 | zero =>
  intro listed S ι s s' a w aV hlen cr de ga hu fB aO cZ dm cn;exfalso;have fO:idxs ops.size listed=[]:=List.length_eq_zero_iff.1 hlen;have:n∈idxs ops.size listed:=E9.2 ⟨by omega,ga⟩;rw [fO] at this; cases this
 | succ fuel ih =>
  intro listed S ι s s' a w aV hlen cr de ga hu fB aO cZ dm cn;refine ⟨λ hr=>absurd hr (Tb hd aV (by intro h; rw [h] at hlen; cases hlen)),λ i' hi=>?_⟩;obtain ⟨h1,o,ho,aZ⟩:=mem_ready.1 hi;have cY:i'<ops.size:=(Array.getElem?_eq_some_iff.1 ho).1;have bj:i'∈idxs ops.size listed:=E9.2 ⟨cY,h1⟩;have gZ:∀ j,j<ops.size->((D9 ops.toList []).getD i' 0).testBit j=true->listed.getD j false=true:=EZ (M:=λ i=>(D9 ops.toList []).getD i 0) (λ i o ho=>⟨(hM i o ho).1,(hM i o ho).2.1⟩) cr i' o ho aZ;by_cases fk:i'=n
  ·exfalso
   subst fk;have:=gZ q.k (by omega) (fx q.k nZ).1;rw [V1 this] at de; cases de
  have bc:i'<n:=by omega
  by_cases gy:i'=q.k
  ·
   subst gy;rw [a1] at ho; cases ho;have gx:∀ j∈(idxs ops.size listed).filter (λ j=>!(j == n) && !(j == q.k)),j<n:=by
    intro j hj;obtain ⟨j1,j2⟩:=List.mem_filter.1 hj;simp only [Bool.and_eq_true,Bool.not_eq_true',beq_eq_false_iff_ne,ne_eq] at j2;have:=(E9.1 j1).1; omega
   have iw:∀ j∈(idxs ops.size listed).filter (λ j=>!(j == n) && !(j == q.k)),∀ oj,ops[j]?=some oj->(quiet oj=true\/zb ops q n j oj s1=true)/\oj.dst≠some q.d/\∀ d,oj.dst=some d->d∉looks ops oa:=by
    intro j hj oj jR;have jn:=gx j hj;obtain ⟨j1,j2⟩:=List.mem_filter.1 hj;simp only [Bool.and_eq_true,Bool.not_eq_true',beq_eq_false_iff_ne,ne_eq] at j2;have lK:¬ ((D9 ops.toList []).getD q.k 0).testBit j=true:=by
     intro g3;have:=gZ j (by omega) g3;have h9:=(E9.1 j1).2;rw [V1 this] at h9; cases h9
    obtain ⟨o',g1,g2,g3⟩:=(fx j jn).2 j2.2;rw [jR] at g1; cases g1;refine ⟨?_,g2 q.d a3,?_⟩
    ·rcases Re f4' jn j2.2 jR with h9|h9|h9
     ·exact absurd h9 lK
     ·exact .inl h9
     ·exact .inr h9
    ·rcases g3 with g3|g3
     ·exact absurd g3 lK
     ·exact g3.2
   have fc:((idxs ops.size listed).filter (λ j=>!(j == n) && !(j == q.k))).Pairwise (·<·):=(CJ ops.size listed).sublist List.filter_sublist;obtain ⟨J,f,t1,t2,t3,t4⟩:=EL (ops:=ops) (q:=q) (n:=n) aO cZ hu fc gx (λ j hj oj jR=>(iw j hj oj jR).1);obtain ⟨i,p0,e,t0,l,m,g,r,qq,bts,b1,b2,b3,b4,b5,b6,b7,b8,b9,Bh,Bg,Bf,xb,Be,Bd,yH⟩:=Jx hE f6 hp;have fR:∀ j,j∉J->look j s.hp=look j s1.hp:=λ j hj=>by rw [<- t3 j hj]; exact cZ.2 j
   have cD:∀ x,x∈oa.op.operands.toList->s1.ev x=f (s.ev x):=by
    intro x hx;refine Iw t1 (λ t ht=>?_);subst ht;rw [<- cZ.1 t,t4 t (λ j hj oj jR dY=>(iw j hj oj jR).2.2 t dY (xT hx))]
   have eV:q.x∈oa.op.operands.toList:=by rw [a5]; exact xN (by rw [a7]; simp)
   have gI:q.y∈oa.op.operands.toList:=by rw [a5]; exact xN (by rw [a7]; simp)
   have qQ:s.ev q.x=.at_ i p0:=Aw t1 ((cD _ eV).symm.trans b1) (.inl rfl);have rN:s.ev q.y=s1.ev q.y:=Aw t1 (cD _ gI).symm (c2i xb);have lP:look i s.hp=some e:=(fR i (λ hm=>by
    have:=(t2 i hm).1;rw [b1] at this;simp only [AV.j5,Nat.beq_refl] at this;cases this)).trans b3
   have nq:(s.ev q.y).vo s t0=some (⟨t0,m⟩,g):=by
    rw [rN,IS (s:=s1) (t:=s) (λ j hj=>fR j (λ hm=>by rw [(t2 j hm).2] at hj; cases hj))];exact xb
   have aM:x7 e.ty e.x p0:=by
    obtain ⟨e2,u,y2,cs,r1,aM,_⟩:=C4 cn qQ;rw [lP] at r1; cases r1;exact aM
   obtain ⟨b,off,hl⟩:=Cc (cn.hs.ob i e lP) cn.hs.slt yH aM b7;obtain ⟨v',w',c1,c2,c3,c4⟩:=Tn hE cn a5 a6 a7 a8 Bf Bg qQ lP yH b7 hl nq b4 b5 Be Bd;have ez:Loc w'.heap ι i e p0=some (b,off):=by obtain ⟨_,h9,_⟩:=c4; exact h9
   have ix:RS B S ι s (a.put (some q.d) v') w':=by
    have h9:=c2.put (d:=some q.d) (by rw [hn]; exact a4) (v:=.any) (val:=v') ⟨v',rfl⟩;refine DX (s:=s.put (some q.d) .any) (t:=s) ⟨λ t=>?_,λ _=>rfl⟩ h9;rw [X1]
    split
    ·rename_i e9; cases e9; exact dm.symm
    ·rfl
   have dD:(a.put (some q.d) v').eval (.tmp q.d)=v':=Ky (by rw [cn.sz,hn]; simpa [G8,Nat.blt_eq] using a4);have aG:(idxs ops.size (listed.setIfInBounds q.k true)).filter (λ j=>!(j == n))=(idxs ops.size listed).filter (λ j=>!(j == n) && !(j == q.k)):=c3S aV cY (λ j=>rfl);have fP:wpAny E.P .any ops Q fuel (listed.setIfInBounds q.k true) (a.put (some q.d) v') w':=by
    refine c09 hE hn hd fe uk iD eM hp hQ (i:=i) (e:=e) (p0:=p0) (t0:=t0) (l:=l) (m:=m) (g:=g) b1 b3 aM b7 xb (v':=v') fuel (listed.setIfInBounds q.k true) S ι s s' _ w' (by simp [aV]) (BZ aV bj hlen) (cr.set a1 aZ) (a9G (by omega)) (by rw [getD_set_ne true (by omega)]; exact ga) hu (by rw [aG]; exact fB) (by rw [aG]; exact aO) cZ ix dD ?_;intro b' aq cQ;rw [ez] at cQ; cases cQ;exact c4
   unfold wpOp;rw [a1];simp only [Region.wanted,a2,if_true];refine .inl ?_;unfold Oper.wp;rw [c1];show wpAny E.P .any ops Q fuel (listed.setIfInBounds q.k true) (a.put oa.dst v') w';rw [a3];exact fP
  ·
   obtain ⟨pre,post,e1,kQ,e2⟩:=TP (f:=λ j=>!(j == n) && !(j == q.k)) aV bj (by simp [fk,gy]);rw [e1] at fB aO;have er:rem ops (pre++i'::post)=rem ops pre++o::rem ops post:=by simp [rem,List.filterMap_append,ho]
   have er2:rem ops (pre++post)=rem ops pre++rem ops post:=by simp [rem,List.filterMap_append]
   have gC:N7 (rem ops (pre++i'::post)):=by
    rw [<- e1];refine N7.sub ?_;have:rem ops (idxs ops.size listed)=rem ops ((List.range ops.size).filter (λ i=>!listed.getD i true)):=rfl;rw [this];refine N7.sub ?_;have h9:=Ec (ops:=ops);rw [yu] at h9;rw [h9]; exact fe
   have fj:∀ j∈pre,((D9 ops.toList []).getD i' 0).testBit j=false/\∀ x,ops[j]?=some x->indep ops x o=true:=by
    intro j hj;have dH:j∈idxs ops.size listed:=by
     have:j∈(idxs ops.size listed).filter (λ j=>!(j == n) && !(j == q.k)):=by rw [e1]; simp [hj]
     exact (List.mem_filter.1 this).1
    have fZ:((D9 ops.toList []).getD i' 0).testBit j=false:=by
     cases hm:((D9 ops.toList []).getD i' 0).testBit j with
     | false=>rfl
     | true =>
      exfalso;have iW:=gZ j (E9.1 dH).1 hm;have:=(E9.1 dH).2;rw [V1 iW] at this;cases this
    refine ⟨fZ,λ x hx=>?_⟩;rcases (hM i' o ho).2.2 j x (kQ j hj) hx with hm|hm
    ·rw [fZ] at hm; cases hm
    ·exact hm
   obtain ⟨pp,sa,sb,k1,k2,k3,k4,_⟩:=DM ho gC fj hu (fB.sub (λ y hy=>by rw [BU]; exact List.mem_append_left _ hy)) aO;have aF:o.dst≠some q.d:=by
    obtain ⟨o',g1,g2,_⟩:=(fx i' bc).2 gy;rw [ho] at g1; cases g1;exact g2 q.d a3
   have nr:look q.d sa.fr=some .any:=by
    obtain ⟨v,ids,f,hf,z1,z2,z3,z4,z5⟩:=zq (ops:=ops) hu k1;obtain ⟨sa',y1,_,y2⟩:=z5 s hu ((M2.refl s).yj _ _) z2;rw [k1] at y1; cases y1;rw [y2.fr,if_neg aF,dm];simp [z1.plain _ (rfl:AV.plain .any=true)]
   rw [er] at gC fB;have gD:=N7.cut gC;have eW:=Lm hE hn cn (ops:=ops) o (k:=λ x=>Tree.cut .skip [] x) (L:=λ _ _ x=>x=sa) (Rt:=λ _=>True) (Cd.2 ⟨pp,sa,k1,k2,rfl⟩)
    (next:=wpAny E.P .any ops Q fuel (listed.setIfInBounds i' true)) (Q:=Q) (λ S' ι' x a' w' hx ku=>by
     have ku:x=sa:=ku;subst ku;refine ih (listed.setIfInBounds i' true) S' ι' x sb a' w' (by simp [aV]) (BZ aV bj hlen) (cr.set ho aZ) (by rw [getD_set_ne true gy]; exact de) (by rw [getD_set_ne true fk]; exact ga) (Q0 hu k1) ?_ (by rw [e2]; exact k3) (k4.trans cZ) nr hx;rw [e2,er2];exact N3.step hu (λ y hy=>fB y (by simp at hy ⊢; rcases hy with hy|hy<;>simp [hy])) gD.2 k1)
   unfold wpOp;rw [ho];simp only
   split
   ·rename_i hw; rw [if_pos hw] at eW; exact .inl eW
   ·rename_i hw; rw [if_neg hw] at eW; exact eW
theorem c08 (hE:D0 E B) (hn:B.n=E.nt) {id:Nat} (hd:(wO ops && BQ ops s && E.P.follows .mixedOrders)=true) {Q:Exit->Act->World->Prop} (hA:Ba E ops q) {s':St}
  (hr:vz E ops (λ i=>(D9 ops.toList []).getD i 0) [] ((List.range' 0 (ops.toList.length - 1)).filter (λ j=>!(j == q.k))) s s') {k:St->Tree (E.rs++E6 E.ps)} {L:Code->List Item->St->Prop} {R:DL (E.rs++E6 E.ps)->Prop}
  (hf:HR E ops (D9 ops.toList []) q s' k L R) (dm:look q.d s.fr=some .any)
  (hQ:∀ S ι s2 a w,RS B S ι s2 a w->(k s2).holds L R->Q .normal a w) (h:RS B S ι s a w):(Code.region id ops true).wp E.P Q a w:=by
 simp only [Bool.and_eq_true,BQ,List.all_eq_true] at hd;obtain ⟨⟨h1,⟨h2,h3⟩,h4⟩,h5⟩:=hd;refine wp_region_any h5 ?_;obtain ⟨o2,p,s2,g1,g2,g3,g4⟩:=hf;obtain ⟨T2,ad,s3,f1,f2,f3,⟨f4,_⟩,f5,f6,_⟩:=JE g2;obtain ⟨fY,nZ,_⟩:=Kk f4;have hlen:(idxs ops.size (Array.replicate ops.size false)).length=ops.size:=by
  rw [yu]; simp
 have aG:(idxs ops.size (Array.replicate ops.size false)).filter (λ j=>!(j == ops.size - 1) && !(j == q.k))=(List.range' 0 (ops.toList.length - 1)).filter (λ j=>!(j == q.k)):=by
  rw [yu,show List.range ops.size=List.range (ops.size - 1)++[ops.size - 1] from by rw [<- List.range_succ]; congr 1; omega,List.filter_append,List.filter_cons];simp only [beq_self_eq_true,Bool.not_true,Bool.false_and,Bool.false_eq_true,if_false,List.filter_nil,List.append_nil,Array.length_toList];rw [List.range_eq_range'];refine List.filter_congr (λ j hj=>?_);have:j≠ops.size - 1:=by have:=(List.mem_range'_1.1 hj).2; omega
  simp [this]
 refine b77 (n:=ops.size - 1) hE hn h1 (BW h3) hA g1 g2 g3 (λ S ι a w hh=>hQ S ι _ a w hh g4) ops.size _ S ι s s' a w.drew (by simp) hlen ?_ ?_ ?_ (u6 h2) ?_ (by rw [aG]; exact hr) (M2.refl _) dm (h.vm F4.nil C9.drew)
 ·intro k o hk hl
  have:k<ops.size:=(Array.getElem?_eq_some_iff.1 hk).1;simp [this] at hl
 ·have:q.k<ops.size:=by omega
  simp [this]
 ·have:ops.size - 1<ops.size:=by omega
  simp [this]
 ·intro o ho d hd
  obtain ⟨j,hj,sW⟩:=List.mem_filterMap.1 ho;obtain ⟨pM,iX⟩:=List.mem_filter.1 hj;have:=(E9.1 pM).1;simp only [Bool.and_eq_true,Bool.not_eq_true',beq_eq_false_iff_ne,ne_eq] at iX;refine h4 d (List.mem_filterMap.2 ⟨o,List.mem_of_getElem? (i:=j) ?_,hd⟩);rw [List.getElem?_dropLast,if_pos (by simp; omega)];simpa using sW
end
end
end Go.Ex
namespace Go.Ex
section
variable {E:Env} {ops:Array Oper} {s t:St}
theorem Sh {o:Oper} {T:TypeId} {a x:Operand} (ho:o.op=.store T a x) (v:AV):J6 o v=v:=by
 rcases yr o with e|⟨_,x,j,cy,_⟩
 ·exact e v
 ·rw [ho] at cy; cases cy
end
section
variable {E:Env} {ops:Array Oper} {s t:St}
end
section
variable {E:Env} {ops:Array Oper} {M:Nat->Nat} {s t:St}
def UQ (ops:Array Oper) (x:Oper) (sx:St) (Tx:List Nat) (y:Oper) (Ty:List Nat):Prop:=a24 ops x sx Tx y Ty/\(Tx≠[]->∀ m∈looks ops y,m∉LW ops)
def Gv (E:Env) (ops:Array Oper) (x:Oper) (sx:St) (y:Oper) (sy:St):Prop:=UQ ops x sx (l5 E x sx) y (l5 E y sy)\/(Am x sx=true/\HJ y sy=true)\/∃ j kd q,Gd y sy=some (j,kd,q)/\Br x sx j kd q=true
theorem b7S {x:Oper} {sx sx':St} (h:Am x sx=true) (h1:∀ m∈looks ops x,J6 x (sx'.get m)=J6 x (sx.get m)):Am x sx'=true:=by
 have h0:=h;unfold Am at h;split at h
 ·rename_i T a v hg ho
  have cZ:∀ o,o=a\/o=v->sx'.ev o=sx.ev o:=by
   intro o pj;cases o with
   | tmp m =>
    have:=h1 m (xT (by rw [ho]; simp [Op.operands]; rcases pj with e|e<;>simp [<- e]));rw [Sh ho,Sh ho] at this;exact zm this
   | _=>rfl
  unfold Am at h0 ⊢;rw [hg,ho] at h0 ⊢;simp only [cZ a (.inl rfl),cZ v (.inr rfl)];exact h0
 ·cases h
theorem c3P {x:Oper} {sx sx':St} {j:Nat} {kd:Bool×Ty} {q:List Step} (h:Br x sx j kd q=true) (h1:∀ m∈looks ops x,J6 x (sx'.get m)=J6 x (sx.get m)) (h2:∀ m∈looks ops x,∀ i,(J6 x (sx.get m)).j5 i=true->hpk sx' i=hpk sx i):Br x sx' j kd q=true:=by
 have dX:∀ v,J6 x v=v:=by
  intro v;rcases yr x with e|⟨_,y,k,cy,_⟩
  ·exact e v
  ·unfold Br at h; rw [cy] at h; split at h<;>first|(rename_i e9; cases e9; done)|(cases h; done)
 have cZ:∀ o∈x.op.operands.toList,sx'.ev o=sx.ev o:=by
  intro o pj;cases o with
  | tmp m =>
   have:=h1 m (xT pj);rw [dX,dX] at this;exact zm this
  | _=>rfl
 unfold Br at h ⊢;split at h
 ·rename_i a hg ho
  simp only [cZ a (by rw [ho]; simp [Op.operands])];exact h
 ·rename_i T a n hg ho
  simp only [cZ a (by rw [ho]; simp [Op.operands])];exact h
 ·rename_i T a hg ho
  simp only [cZ a (by rw [ho]; simp [Op.operands])];split at h
  ·rename_i i p ha
   have:hpk sx' i=hpk sx i:=by
    cases a with
    | tmp m =>
     have hm:m∈looks ops x:=xT (by rw [ho]; simp [Op.operands]);have tg:sx.get m=.ptr i p:=Cp ha nofun
     exact h2 m hm i (by rw [dX,tg]; simp only [AV.j5]; exact Nat.beq_refl i)
    | const c=>exact absurd ha (by intro e9; have:=LA c i; rw [show ofConst c=.ptr i p from e9] at this; simp only [AV.j5] at this; rw [Nat.beq_refl] at this; cases this)
    | global g=>cases ha
    | func f=>cases ha
   rw [this];exact h
  ·cases h
 ·cases h
theorem Gv.AT {x:Oper} {sx sx':St} {y:Oper} {sy sy':St} (h:Gv E ops x sx y sy) (h1:∀ m∈looks ops x,J6 x (sx'.get m)=J6 x (sx.get m)) (h2:l5 E x sx'=l5 E x sx) (h3:∀ (z:Oper) m,∀ k∈l5 E x sx,(J6 z (sx'.get m)).j5 k=true->(J6 z (sx.get m)).j5 k=true\/m∈LW ops)
  (h4:∀ m∈looks ops x,∀ i,(J6 x (sx.get m)).j5 i=true->hpk sx' i=hpk sx i) (hT:l5 E y sy'=l5 E y sy) (hA:HJ y sy=true->HJ y sy'=true) (hS:∀ r,Gd y sy=some r->Gd y sy'=some r):Gv E ops x sx' y sy':=by
 rcases h with ⟨⟨P1,P2,P3⟩,hn⟩|⟨k1,k2⟩|⟨j,kd,q,k1,k2⟩
 ·refine .inl ?_
  rw [hT,h2];refine ⟨⟨λ m hm i hi=>?_,λ m hm i hi=>by rw [h1 m hm]; exact P2 m hm i hi,P3⟩,hn⟩;cases hh:(J6 y (sx'.get m)).j5 i with
  | false=>rfl
  | true =>
   rcases h3 y m i hi hh with h9|h9
   ·rw [P1 m hm i hi] at h9; cases h9
   ·exact absurd h9 (hn (λ e=>by rw [e] at hi; cases hi) m hm)
 ·exact .inr (.inl ⟨b7S k1 h1,hA k2⟩)
 ·exact .inr (.inr ⟨j,kd,q,hS _ k1,c3P k2 h1 h4⟩)
end
section
variable {E:Env} {ops:Array Oper} {B:E3} {S:Nat->Prop} {ι:Ix} {s:St} {a:Act} {w:World}
end
end Go.Ex
