import Derived.Test.YtijlnmgondibnaaGreatDoorExK7
set_option linter.unusedVariables false
set_option linter.unusedSimpArgs false
set_option linter.unusedSectionVars false
namespace Go.Ex
section
variable {E:Env} {ops:Array Oper} {B:F3} {S:Nat->Prop} {ι:Ix} {s:St} {a:Act} {w:World}
theorem Ee {s t:St} (he:M9 s t) (h:RS B S ι s a w):RS B S ι t a w:=by
 have dB:∀ {v:AV} {vs:List Value},VX w.heap S ι s.hp v vs->VX w.heap S ι t.hp v vs:=by
  intro v vs hv;exact VX.other (λ i _=>(he.2 i).symm) (λ i _=>F8.refl ι i) hv
 exact ⟨⟨h.hs.os,h.hs.tape,h.hs.out,h.hs.size,h.hs.frame,h.hs.slt,h.hs.s0,h.hs.s1,λ i e hi=>h.hs.ob i e ((he.2 i).trans hi),λ i e hi=>h.hs.bl i e ((he.2 i).trans hi),λ i j ei ej hi hj=>h.hs.dj i j ei ej ((he.2 i).trans hi) ((he.2 j).trans hj),λ q hq=>by obtain ⟨r1,⟨e,r2⟩,r3⟩:=h.hs.pin q hq; exact ⟨r1,⟨e,(he.2 q.1).symm.trans r2⟩,r3⟩⟩,h.dfr,h.sz,
  λ m v hv=>dB (h.fr m v ((he.1 m).trans hv))⟩
theorem RS.forget (h:RS B S ι s a w) (d:Nat):RS B S ι { s with fr:=Ex.put d .any s.fr } a w:=by
 refine ⟨h.hs,h.dfr,h.sz,λ t v hv=>?_⟩;rw [o7] at hv;split at hv
 ·cases hv; exact ⟨_,rfl⟩
 ·exact h.fr t v hv
theorem RS.L7:∀ {l:List Oper} {s:St},RS B S ι s a w->RS B S ι (Ex.L7 l s) a w
 | [],s,h=>h
 | o::l,s,h=>by
  unfold Ex.L7
  split
  ·split
   ·exact RS.L7 (h.forget _)
   ·exact RS.L7 h
  ·exact RS.L7 h
theorem Fw {m:Nat}:∀ {l:List Oper} {s:St},look m (Ex.L7 l s).fr=look m s.fr\/look m (Ex.L7 l s).fr=some .any
 | [],s=>.inl rfl
 | o::l,s=>by
  unfold Ex.L7
  split
  ·split
   ·rename_i d _ _
    rcases Fw (m:=m) (l:=l) (s:={ s with fr:=Ex.put d .any s.fr }) with h|h
    ·rw [o7] at h
     split at h
     ·exact .inr h
     ·exact .inl h
    ·exact .inr h
   ·exact Fw
  ·exact Fw
theorem FB {o:Oper} {c:Call} {d:Nat} (cB:o.op=.call c) (hc:c.callee=.builtin .append) (hd:o.dst=some d):∀ {l:List Oper} {s:St},o∈l->look d (Ex.L7 l s).fr=some .any
 | [],_,h=>by cases h
 | x::l,s,h=>by
  unfold Ex.L7;rcases List.mem_cons.1 h with rfl|h
  ·rw [cB]
   simp only [hc,hd];rcases Fw (m:=d) (l:=l) (s:={ s with fr:=Ex.put d .any s.fr }) with h|h
   ·rw [h,o7,if_pos rfl]
   ·exact h
  ·split
   ·split
    ·exact FB cB hc hd h
    ·exact FB cB hc hd h
   ·exact FB cB hc hd h
theorem YE (hE:D9 E B) (h:RS B S ι s a w) {o:Oper} {T:TypeId} {x:Operand} (ho:o.op=.load T x) {v:AV} {s':St} (hl:Z1 E T (s.ev x) s=.ok v s') :
  s'=s/\∃ val,(execOp a.eval o).run E.P w=.ok (.value val) w/\VX w.heap S ι s.hp v [val]:=by
 have he:execOp a.eval o=(do pure (.value (<- Instr.loadAt T (a.eval x)))):=by simp [execOp,ho]
 have hv:=h.ev x;unfold Z1 at hl;split at hl
 ·rename_i t y hx
  rw [hx] at hv;obtain ⟨b,off,e,hb,hr,hR⟩:=hv;split at hl
  ·rename_i hc
   cases hl;have e:a.eval x=.pointer (some ⟨b,off,none⟩):=by simpa using e
   refine ⟨rfl,s5 t (e8 w.heap b off t.size),P0 he (w':=w) ?_,_,rfl,hR⟩;rw [e];simp [Instr.loadAt,Instr.sureAddr,CU (E1 hE hc) hR]
  ·cases hl
 ·rename_i l hx
  rw [hx] at hv;split at hl
  ·rename_i ht
   cases hl;obtain ⟨val,k1,k2⟩:=Nu (hE:=hE) ht hv;exact ⟨rfl,val,P0 he k1,k2⟩
  ·cases hl
 ·rename_i i p hx
  rw [hx] at hv;obtain ⟨e,b,off,h1,h2,h3,h4⟩:=hv;have h4:a.eval x=.pointer (some ⟨b,off,none⟩):=by simpa using h4
  split at hl
  ·rename_i u y cV
   have hg:=I5 h1 cV;obtain ⟨O2,k1,k2,k3,k4,k5⟩:=N5 (L8 h3) (h.hs.ob i e h1) h.hs.slt h2 hg h3;split at hl
   ·rename_i hc
    have hr:(Instr.loadAt T (a.eval x)).run E.P w=.ok (s5 u (e8 w.heap b off u.size)) w:=by
     rw [h4]; simp [Instr.loadAt,Instr.sureAddr,CU (E1 hE hc) k3]
    split at hl
    ·rename_i hs
     cases hl;have:=k3.O7 hs;subst this;exact ⟨rfl,_,P0 he hr,_,rfl,k3⟩
    ·cases hl
     have hp:=D4 h3;exact ⟨rfl,_,P0 he hr,e,u,y,_,h1,h2,hg,⟨b,off,hp.1,(l6 (G8 hp.2) _ _).symm⟩,rfl⟩
   ·cases hl
  ·cases hl
 ·cases hl
theorem Wb {k:IntKind} {m n:Int} (bx:u7 k m) (hn:0<n):u7 k (m.tmod n):=by
 have h0:k.min<=0:=by cases k<;>decide
 have h1:0<=k.max:=by cases k<;>decide
 unfold u7 at *
 by_cases hm:m<0
 ·have e:m.tmod n=-((-m) % n):=by rw [<- Int.neg_neg m,Int.neg_tmod,Int.tmod_eq_emod_of_nonneg (by omega)]; simp
  have:=Int.emod_nonneg (-m) (b:=n) (by omega);have:(-m) % n<=-m:=by
   have:=Int.emod_add_mul_ediv (-m) n;have:=Int.mul_nonneg (Int.le_of_lt hn) (Int.ediv_nonneg (a:=-m) (b:=n) (by omega) (by omega));omega
  omega
 ·rw [Int.tmod_eq_emod_of_nonneg (by omega)]
  have:=Int.emod_nonneg m (b:=n) (by omega);have:m % n<=m:=by
   have:=Int.emod_add_mul_ediv m n;have:=Int.mul_nonneg (Int.le_of_lt hn) (Int.ediv_nonneg (a:=m) (b:=n) (by omega) (by omega));omega
  omega
theorem OC {o:Oper} {T T':TypeId} {x y:Operand} (ho:o.op=.binOp .rem T x y T'):(∃ k m n,s.ev x=.val (.int k) m/\s.ev y=.val (.int k) n/\n6 E o s=.G6 (0<n) (.val (.int k) (Int.tmod m n)) s)\/∃ why,n6 E o s=.fail why:=by
 have e:n6 E o s=wF E T .rem (s.ev x) (s.ev y) s:=by unfold n6; rw [ho]
 rw [e];unfold wF
 split
 ·refine .inr ?_
  unfold zJ
  split
  ·rename_i h; cases h
  ·rename_i h; cases h
  ·exact ⟨_,rfl⟩
 ·refine .inr ?_
  unfold eqA
  split
  ·split
   ·rename_i h; cases h
   ·rename_i h; cases h
   ·exact ⟨_,rfl⟩
  ·exact ⟨_,rfl⟩
 ·refine .inr ?_
  unfold eqA
  split
  ·split
   ·rename_i h; cases h
   ·rename_i h; cases h
   ·exact ⟨_,rfl⟩
  ·exact ⟨_,rfl⟩
 ·unfold xZ
  split
  ·rename_i k m k' n e1 e2
   have hw:xz (Mq E) .rem k m k' n s=xy .rem k m k' n s:=by
    unfold xz
    split
    ·rename_i h; cases h
    ·rfl
   rw [hw];unfold xy;simp only
   split
   ·rename_i hk; subst hk
    exact .inl ⟨k,m,n,e1,e2,rfl⟩
   ·exact .inr ⟨_,rfl⟩
  ·refine .inr ?_
   split
   ·rename_i h; cases h
   ·rename_i h; cases h
   ·exact ⟨_,rfl⟩
  ·exact .inr ⟨_,rfl⟩
  ·exact .inr ⟨_,rfl⟩
theorem Yg (h:RS B S ι s a w) {o:Oper} {T T':TypeId} {x y:Operand} (ho:o.op=.binOp .rem T x y T'):Ae E.P S ι o a w s (n6 E o s):=by
 have hx:=h.ev x;have hy:=h.ev y;rcases OC (E:=E) (s:=s) ho with ⟨k,m,n,e1,e2,e3⟩|⟨why,e3⟩
 ·rw [e3]
  rw [e1] at hx; rw [e2] at hy;obtain ⟨hx,bx⟩:=VX.I6 hx;obtain ⟨hy,by_⟩:=VX.I6 hy;intro hn;refine ⟨rfl,.int k (m.tmod n),λ w'=>?_,VX.int (Wb bx hn)⟩;have hg:(eqGuard .rem T x y (a.eval x) (a.eval y)).run E.P w'=.ok () w':=by rw [hx,hy]; rfl
  rw [U1 ho hg (r:=.ok (.int k (m.tmod n)) w')]
  ·rfl
  ·rw [hx,hy]
   have bG:n≠0:=λ e=>by subst e; exact absurd hn (Int.lt_irrefl _)
   simp [binOp,Op.intDiv,bG]
 ·rw [e3]; trivial
theorem Zr (hE:D9 E B) (h:RS B S ι s a w) {o:Oper} (hq:quiet o=true) {p:Prop} {s1:St} (hr:I0 E ops o s=some (p,s1)) (hp:p) :
  o.guard=none/\H7 E.nt o.dst=true/\∃ v val,s1=s.put o.dst v/\(execOp a.eval o).run E.P w=.ok (.value val) w/\VX w.heap S ι s.hp v [val]:=by
 simp only [quiet,Bool.and_eq_true,Option.isNone_iff_eq_none] at hq;obtain ⟨hg,hq⟩:=hq;unfold I0 at hr;rw [hg] at hr;simp only at hr;unfold Y3 at hr;split at hr
 ·cases hr
 ·rename_i hd
  refine ⟨hg,hd,?_⟩;have key:∀ (r:OR),(match r.get with|none=>none|some (p,v,s')=>some (p,s'.put o.dst v))=some (p,s1)->Ae E.P S ι o a w s r->∃ v val,s1=s.put o.dst v/\(execOp a.eval o).run E.P w=.ok (.value val) w/\VX w.heap S ι s.hp v [val]:=by
   intro r hr rk;cases r with
   | fail why=>cases hr
   | ok v s' =>
    simp only [OR.get,Option.some.injEq,Prod.mk.injEq] at hr;obtain ⟨e1,val,k1,k2⟩:=rk;exact ⟨v,val,by rw [<- hr.2,e1],k1 w,k2⟩
   | G6 p' v s' =>
    simp only [OR.get,Option.some.injEq,Prod.mk.injEq] at hr;obtain ⟨e1,val,k1,k2⟩:=rk (by rw [hr.1]; exact hp);exact ⟨v,val,by rw [<- hr.2,e1],k1 w,k2⟩
  split at hq
  ·rename_i x ho
   rw [ho] at hr;simp only [n6,ho,OR.get,Option.some.injEq,Prod.mk.injEq] at hr;exact ⟨s.ev x,a.eval x,hr.2.symm,by simp [execOp,ho],h.ev x⟩
  ·rename_i T x ho
   rw [ho] at hr;simp only [n6,ho] at hr;cases hl:Z1 E T (s.ev x) s with
   | fail y=>rw [hl] at hr; cases hr
   | ok v s' =>
    rw [hl] at hr;simp only [OR.get,Option.some.injEq,Prod.mk.injEq] at hr;obtain ⟨e1,val,k1,k2⟩:=YE hE h ho hl;exact ⟨v,val,by rw [<- hr.2,e1],k1,k2⟩
   | G6 p' v s' =>
    exfalso;unfold Z1 at hl
    repeat' split at hl
    all_goals cases hl
  ·rename_i T x n ho
   have:=Cp hE h (o:=o) (by rw [ho]; rfl);rw [ho] at hr;exact key _ hr this
  ·rename_i T x n ho
   have:=Cp hE h (o:=o) (by rw [ho]; rfl);rw [ho] at hr;exact key _ hr this
  ·rename_i x ho
   have:=Cp hE h (o:=o) (by rw [ho]; rfl);rw [ho] at hr;exact key _ hr this
  ·rename_i T x y T' ho
   have:=Yg (E:=E) h ho;rw [ho] at hr;exact key _ hr this
  ·cases hq
theorem YK {o:Oper} (hq:quiet o=true) {p:Prop} {s1:St} (hr:I0 E ops o s=some (p,s1)):∃ v,s1=s.put o.dst v:=by
 simp only [quiet,Bool.and_eq_true,Option.isNone_iff_eq_none] at hq;obtain ⟨hg,hq⟩:=hq;unfold I0 at hr;rw [hg] at hr;simp only at hr;unfold Y3 at hr;split at hr
 ·cases hr
 ·rename_i hd
  have key:∀ (r:OR) (t:St),(∀ v s',r=.ok v s'->s'=s)->(∀ p v s',r=.G6 p v s'->s'=s)->(match r.get with|none=>none|some (p,v,s')=>some (p,s'.put o.dst v))=some (p,s1)->∃ v,s1=s.put o.dst v:=by
   intro r t h1 h2 hr;cases r with
   | fail why=>cases hr
   | ok v s' =>
    simp only [OR.get,Option.some.injEq,Prod.mk.injEq] at hr;exact ⟨v,by rw [<- hr.2,h1 v s' rfl]⟩
   | G6 p' v s' =>
    simp only [OR.get,Option.some.injEq,Prod.mk.injEq] at hr;exact ⟨v,by rw [<- hr.2,h2 p' v s' rfl]⟩
  split at hq
  ·rename_i x ho
   rw [ho] at hr;refine key _ s ?_ ?_ hr<;>(intros; simp_all [n6])
  ·rename_i T x ho
   rw [ho] at hr;refine key _ s ?_ ?_ hr
   ·intro v s' e
    simp only [n6,ho] at e;unfold Z1 at e
    repeat' split at e
    all_goals (cases e; try rfl)
   ·intro q v s' e
    simp only [n6,ho] at e;unfold Z1 at e
    repeat' split at e
    all_goals (cases e; try rfl)
  ·rename_i T x n ho
   rw [ho] at hr;refine key _ s ?_ ?_ hr
   ·intro v s' e
    simp only [n6,ho] at e
    repeat' split at e
    all_goals (cases e; try rfl)
   ·intro q v s' e
    simp only [n6,ho] at e
    repeat' split at e
    all_goals (cases e; try rfl)
  ·rename_i T x n ho
   rw [ho] at hr;refine key _ s ?_ ?_ hr
   ·intro v s' e
    simp only [n6,ho] at e
    repeat' split at e
    all_goals (cases e; try rfl)
   ·intro q v s' e
    simp only [n6,ho] at e
    repeat' split at e
    all_goals (cases e; try rfl)
  ·rename_i x ho
   rw [ho] at hr;refine key _ s ?_ ?_ hr
   ·intro v s' e
    simp only [n6,ho] at e
    repeat' split at e
    all_goals (cases e; try rfl)
   ·intro q v s' e
    simp only [n6,ho] at e
    repeat' split at e
    all_goals (cases e; try rfl)
  ·rename_i T x y T' ho
   have hb:=OC (E:=E) (s:=s) ho;rw [ho] at hr;refine key _ s ?_ ?_ hr
   ·intro v s' e
    rcases hb with ⟨k,m,n,-,-,e3⟩|⟨why,e3⟩
    ·rw [e3] at e; cases e
    ·rw [e3] at e; cases e
   ·intro q v s' e
    rcases hb with ⟨k,m,n,-,-,e3⟩|⟨why,e3⟩
    ·rw [e3] at e; cases e; rfl
    ·rw [e3] at e; cases e
  ·cases hq
theorem Oz {o:Oper} (hg:o.guard=none) {T:TypeId} {a x:Operand} (ho:o.op=.store T a x) {j:Nat} {q:List Step} {v:Ty} {z:v.den} (ha:s.ev a=.ptr j q) (hx:s.ev x=.val v z) {p:Prop} {s1:St} (h:I0 E ops o s=some (p,s1)) :
  ∃ (e:i7) (r:Sigma Ty.den) (u:Ty) (y:u.den),H7 E.nt o.dst=true/\look j s.hp=some e/\w5 e.ty e.x q (Q8 u ⟨v,z⟩).1 (Q8 u ⟨v,z⟩).2=some r/\(j9 e.ty e.x q=some ⟨u,y⟩/\J8 E T u=true)/\s1=((s.kill j e.kd q).y9 j (e.E8 r)).put o.dst (.raw undef):=by
 have hr:∀ t,I0 E ops o t=Y3 E o t:=λ t=>by unfold I0; rw [hg]
 rw [hr] at h;have cB:∀ t,n6 E o t=(match t.ev a with|.ptr i p=>Q7 E T i p (t.ev x) t|_=>.fail "store"):=λ t=>by unfold n6; rw [ho]; rfl
 have aU:∀ t,Y3 E o t=(match H7 E.nt o.dst with|false=>none|true=>match (n6 E o t).get with|none=>none|some (p,v,s')=>some (p,s'.put o.dst v)):=λ t=>by unfold Y3; rw [ho]; rfl
 rw [aU] at h;split at h
 ·cases h
 ·rename_i hd
  rw [cB,ha] at h;simp only at h;rw [hx] at h;cases aX:look j s.hp with
  | none =>
   have:Q7 E T j q (.val v z) s=.fail "store: object":=by unfold Q7 St.obj; rw [aX]
   rw [this] at h; cases h
  | some e =>
   cases cC:j9 e.ty e.x q with
   | none =>
    have:Q7 E T j q (.val v z) s=.fail "store: path":=by unfold Q7 St.obj; rw [aX]; simp only [cC]
    rw [this] at h; cases h
   | some uy =>
    obtain ⟨u,y⟩:=uy;cases hc:J8 E T u with
    | false =>
     have:Q7 E T j q (.val v z) s=.fail "store: type":=by unfold Q7 St.obj; rw [aX]; simp only [cC,hc]
     rw [this] at h; cases h
    | true =>
     have su:Q7 E T j q (.val v z) s=(match w5 e.ty e.x q (Q8 u ⟨v,z⟩).1 (Q8 u ⟨v,z⟩).2 with
       | some r=>.ok (.raw undef) ((s.kill j e.kd q).y9 j (e.E8 r))
       | none=>.fail "store: value"):=by
      unfold Q7 St.obj; rw [aX]; simp only [cC,hc,AV.vC,AV.vg,St.B0];cases w5 e.ty e.x q (Q8 u ⟨v,z⟩).1 (Q8 u ⟨v,z⟩).2 with
      | none=>rfl
      | some r=>rfl
     rw [su] at h;cases aL:w5 e.ty e.x q (Q8 u ⟨v,z⟩).1 (Q8 u ⟨v,z⟩).2 with
     | none=>rw [aL] at h; cases h
     | some r =>
      rw [aL] at h;simp only [OR.get,Option.some.injEq,Prod.mk.injEq] at h;obtain ⟨rfl,rfl⟩:=h;exact ⟨e,r,u,y,hd,rfl,aL,⟨cC,hc⟩,rfl⟩
theorem XX (hE:D9 E B) (hn:B.n=E.nt) (h:RS B S ι s a w) {o:Oper} (hg:o.guard=none) {T:TypeId} {ad x:Operand} (ho:o.op=.store T ad x) {j:Nat} {q:List Step} {v:Ty} {z:v.den} (ha:s.ev ad=.ptr j q) (hx:s.ev x=.val v z) {p:Prop} {s1:St} (hr:I0 E ops o s=some (p,s1)) :
  ∃ ι' w',(execOp a.eval o).run E.P w=.ok .skip w'/\RS B S ι' s1 (a.put o.dst undef) w'/\∀ {g:List Nat} {i:Nat} {e:i7} {p0:List Step} {t0:Ty} {l m:List t0.den} {b off:Nat} {v':Value},i≠j->j∉g->look i s.hp=some e->B8 e.ty e.x p0->j9 e.ty e.x p0=some ⟨.d8 true t0,l⟩->yQ B S ι s.hp g i e p0 t0 l m b off v' w->yQ B S ι' s1.hp g i e p0 t0 l m b off v' w':=by
 obtain ⟨ej,r,u,y,hd,aX,aL,⟨cC,bD⟩,rfl⟩:=Oz hg ho ha hx hr;have gR:=h.ev ad;rw [ha] at gR;obtain ⟨e',b0,off0,c1,aK,hl,c4⟩:=gR;rw [aX] at c1; cases c1;have c4:a.eval ad=.pointer (some ⟨b0,off0,none⟩):=by simpa using c4
 have dH:=h.ev x;rw [hx] at dH;obtain ⟨cs,fg,hz⟩:=dH;have fg:a.eval x=s5 v cs:=by simpa using fg
 obtain ⟨hz,nO⟩:=Pr (u:=u) (q:=⟨v,z⟩) hz;rw [<- BN nO] at fg;generalize (Q8 u ⟨v,z⟩)=fz at aL hz nO fg;obtain ⟨v,z⟩:=fz;dsimp only at aL hz fg;have cL:=L8 hl;obtain ⟨Op,m1,mn,m2,m3,m4,m5⟩:=N5 cL (h.hs.ob j ej aX) h.hs.slt aK cC hl;have ch:=Cu cC aL;have il:¬ S b0:=(h.hs.bl j ej aX b0 m4).1;have cI:cs.length=u.size:=by rw [hz.length,G7 ch]
 obtain ⟨ι',⟨O,rfl,hO⟩,h1⟩:=h.Eg aX aK cC hl (u':=v) (z:=z) (cs:=cs) (O2:=[]) (λ H' bc hc=>hz.w6 (λ c dJ=>hc.rest c (by
   rintro rfl;rcases dJ with dJ|dJ
   ·cases dJ
   ·exact il dJ) (by
   rcases dJ with dJ|dJ
   ·cases dJ
   ·exact h.hs.slt c dJ)) (λ _ h=>h)) cI List.nodup_nil (by simp) aL (λ bA _=>Qb aL (NB hl bA))
 have aU:(execOp a.eval o).run E.P w=.ok .skip (w.setRow b0 (over (x8 w.heap b0) off0 cs).toArray):=by
  simp [execOp,ho,c4,fg,Instr.storeAt,Instr.sureAddr,Ly (E1 hE bD) ch m5 hz]
 refine ⟨_,_,aU,h1.put (by rw [hn]; exact hd) (v:=.raw undef) (val:=undef) rfl,?_⟩;rintro g i e p0 t0 l m b off v' bS gi hi mT dI ⟨O',k1,k2,k3,k4,k5⟩;have hold:∀ c,c≠b0->(w.setRow b0 (over (x8 w.heap b0) off0 cs).toArray).heap[c]?=w.heap[c]?:=λ c hc=>setRow_other hc;have bo:F8 ι (ι.D8 j O) i:=X7 bS O;have nb:=L8 k1;have bQ:b0∉O':=λ hc=>(k5 b0 hc).2.1 j ej (Ne.symm bS) gi aX m4;refine ⟨O',?_,k2.w6 (λ c hc=>hold c (by
   rintro rfl;rcases hc with hc|hc
   ·exact bQ hc
   ·exact il hc)) (λ _ h=>h),k3,k4,λ c hc=>⟨?_,λ k ek hk rv dq=>?_,λ kx=>?_⟩⟩
 ·rw [bo.loc]
  exact Fi nb (h.hs.ob i e hi) h.hs.slt (λ c hc=>hold c (by rintro rfl; exact h.hs.dj i j e ej hi aX bS c hc m4)) mT k1
 ·obtain ⟨f1,f2,f3⟩:=(k5 c hc).1
  exact ⟨f1,f2,by rw [setRow_size]; exact f3⟩
 ·rw [wQ] at dq
  simp only [St.y9,o7] at dq;by_cases nu:k=j
  ·subst nu
   rw [if_pos rfl] at dq; cases dq;intro cD;refine (k5 c hc).2.1 k ej hk rv aX ?_;cases ej with
   | var t1 x1 =>
    simp only [l7,i7.E8,Ix.D8,if_true,List.mem_cons] at cD ⊢;rcases cD with cD|cD
    ·exact .inl cD
    ·rcases (hO c cD).1 with h9|h9
     ·exact .inr h9
     ·cases h9
   | own t1 x1 =>
    simp only [l7,i7.E8,Ix.D8,if_true] at cD ⊢;rcases (hO c cD).1 with h9|h9
    ·exact h9
    ·cases h9
   | M3=>exact absurd rfl cL
  ·rw [if_neg nu] at dq
   rw [(X7 nu O).l7];exact (k5 c hc).2.1 k ek hk rv dq
 ·rw [bo.l7] at kx
  obtain ⟨Op',o1,o2⟩:=(k5 c hc).2.2 kx;obtain ⟨O3,n1,_,n3,_,n5,_⟩:=N5 nb (h.hs.ob i e hi) h.hs.slt mT dI k1;have kz:b0≠b:=by
   rintro rfl;exact h.hs.dj i j e ej hi aX bS b0 n5 m4
  have oM:O3=Op':=n3.det o1;have qQ:∀ c'∈Op',c'≠b0:=by
   rintro c' dJ rfl;rw [<- oM] at dJ;exact h.hs.dj i j e ej hi aX bS c' (J1 (n1 c' dJ)) m4
  refine ⟨Op',?_,o2⟩;rw [l6 (hold b kz.symm)];exact o1.w6 (λ c' dJ=>hold c' (by
   rintro rfl;rcases dJ with dJ|dJ
   ·exact qQ _ dJ rfl
   ·exact il dJ)) (λ _ h=>h)
theorem AE {T:List Nat} {f:AV->AV} (hf:Trim T f) {u v:AV} (h:f u=v) (hv:v.ref=true\/(v.plain=true/\v≠.any)):u=v:=by
 cases u with
 | cons a b=>rw [hf.cons] at h; subst h; rcases hv with hv|⟨hv,_⟩<;>cases hv
 | M2 l=>rw [hf.M2] at h; subst h; rcases hv with hv|⟨hv,_⟩<;>cases hv
 | D3 g l=>rw [hf.D3] at h; subst h; rcases hv with hv|⟨hv,_⟩<;>cases hv
 | bx l=>rw [hf.bx] at h; subst h; rcases hv with hv|⟨hv,_⟩<;>cases hv
 | rc g l=>rw [hf.rc] at h; subst h; rcases hv with hv|⟨hv,_⟩<;>cases hv
 | ptr i p=>rcases hf.atom _ (rfl:(AV.ptr i p).ref=true) with e|e<;>rw [e] at h<;>first|exact h|(subst h; rcases hv with hv|⟨_,hv⟩<;>first|cases hv|exact absurd rfl hv)
 | at_ i p=>rcases hf.atom _ (rfl:(AV.at_ i p).ref=true) with e|e<;>rw [e] at h<;>first|exact h|(subst h; rcases hv with hv|⟨_,hv⟩<;>first|cases hv|exact absurd rfl hv)
 | sub i p x y=>rcases hf.atom _ (rfl:(AV.sub i p x y).ref=true) with e|e<;>rw [e] at h<;>first|exact h|(subst h; rcases hv with hv|⟨_,hv⟩<;>first|cases hv|exact absurd rfl hv)
 | _=>rw [hf.plain _ rfl] at h; exact h
theorem c1S {u:Ty} {v:AV} {r:Sigma λ t:Ty=>List t.den} {g:List Nat} (h:v.vn s u=some (r,g)):v.ref=true\/(v.plain=true/\v≠.any):=by
 cases v with
 | ptr i p=>exact .inl rfl
 | at_ i p=>exact .inl rfl
 | sub i p x y=>exact .inl rfl
 | raw v=>exact .inr ⟨rfl,by intro h; cases h⟩
 | val t x=>exact .inr ⟨rfl,by intro h; cases h⟩
 | P8 t x=>exact .inr ⟨rfl,by intro h; cases h⟩
 | nil=>exact .inr ⟨rfl,by intro h; cases h⟩
 | _=>exfalso; simp [AV.vn,AV.els] at h
theorem Ro {M:List Nat} {q:vO} {n:Nat} (h:Ea ops M q n s=true) {j:Nat} (hj:j<n) (fH:j≠q.k) {o:Oper} (ho:ops[j]?=some o):(M.getD q.k 0).testBit j=true\/quiet o=true\/zf ops q n j o s=true:=by
 simp only [Ea,List.all_eq_true,List.mem_range] at h;have:=h j hj;simp only [Bool.or_eq_true,ho] at this;rcases this with h|(h|h)|h
 ·exact absurd (Nat.eq_of_beq_eq_true h) fH
 ·exact .inl h
 ·exact .inr (.inl h)
 ·exact .inr (.inr h)
theorem SV {q:vO} {n j:Nat} {o:Oper} (h:zf ops q n j o s=true):o.guard=none/\o.dst=none/\∃ T ad x j0 q0 v z,o.op=.store T ad x/\s.ev ad=.ptr j0 q0/\s.ev x=.val v z/\(s.ev q.x).j5 j0=false/\(s.ev q.y).j5 j0=false/\∀ j',j<j'->j'<n->∀ o',ops[j']?=some o'->∀ d,o'.dst=some d->d∉looks ops o:=by
 unfold zf at h;split at h
 ·rename_i T ad x ho
  simp only [Bool.and_eq_true] at h;obtain ⟨⟨⟨h1,hg⟩,hd⟩,h2⟩:=h;split at h1
  ·rename_i j0 q0 v z ha hx
   simp only [Bool.and_eq_true,Bool.not_eq_true'] at h1;refine ⟨by simpa using hg,by simpa using hd,T,ad,x,j0,q0,v,z,ho,ha,hx,h1.1,h1.2,λ j' hj ix o' eY d hd hm=>?_⟩;simp only [List.all_eq_true,List.mem_range] at h2;have:=h2 j' ix;rw [Bool.or_eq_true] at this;rcases this with h9|h9
   ·have:=Nat.le_of_ble_eq_true h9; omega
   ·rw [eY] at h9
    simp [zW,hd,hm] at h9
  ·cases h1
 ·cases h
theorem Trim.zd {T T':List Nat} {f g:AV->AV} (hf:Trim T f) (hg:Trim T' g):Trim (T++T') (λ u=>g (f u)):=by
 refine ⟨λ a b=>by rw [hf.cons,hg.cons],λ l=>by rw [hf.M2,hg.M2],λ k l=>by rw [hf.D3,hg.D3],λ l=>by rw [hf.bx,hg.bx],λ k l=>by rw [hf.rc,hg.rc],λ u hu=>?_,λ u hu h=>?_,λ u hu=>by rw [hf.plain u hu,hg.plain u hu]⟩
 ·rcases hf.atom u hu with e|e
  ·rw [e]; exact hg.atom u hu
  ·rw [e]; exact .inr (hg.plain _ rfl)
 ·rw [hf.xw u hu (λ i hi=>h i (List.mem_append_left _ hi)),hg.xw u hu (λ i hi=>h i (List.mem_append_right _ hi))]
theorem IJ {J:List Nat} {F:AV->AV} (hF:Trim J F) {s t:St} {z:Operand} (h:∀ m,z=.tmp m->look m t.fr=(look m s.fr).map F):t.ev z=F (s.ev z):=by
 cases z with
 | tmp m =>
  have hg:t.get m=F (s.get m):=by
   simp only [St.get,h m rfl];cases look m s.fr with
   | none=>exact (hF.plain _ rfl).symm
   | some v=>rfl
  rw [Ap,Ap];unfold gq;cases Nat.beq m J7 with
  | true=>exact (hF.plain _ rfl).symm
  | false=>exact hg
 | const c=>exact (hF.fix _ (λ i _=>Lx c i)).symm
 | global g=>exact (hF.plain _ rfl).symm
 | func f=>exact (hF.fix _ (λ i _=>rfl)).symm
theorem Fe {M:Nat->Nat} {q:vO} {n:Nat} {sF:St}:∀ {l:List Nat} {acc:List (Nat×St)} {s s':St},vx E ops M acc l s s'->M9 s' sF->uniq s.fr->l.Pairwise (·<·)->(∀ j∈l,j<n)->(∀ j∈l,∀ o,ops[j]?=some o->quiet o=true\/zf ops q n j o sF=true) ->
  ∃ (J:List Nat) (f:AV->AV),Trim J f/\(∀ j∈J,(sF.ev q.x).j5 j=false/\(sF.ev q.y).j5 j=false)/\(∀ i,i∉J->look i s'.hp=look i s.hp)/\∀ m,(∀ j∈l,∀ o,ops[j]?=some o->o.dst≠some m)->look m s'.fr=(look m s.fr).map f
 | [],acc,s,s',h,_,_,_,_,_=>by
  obtain rfl:s=s':=h;exact ⟨[],λ u=>u,Trim.id _,by simp,λ _ _=>rfl,λ m _=>by simp⟩
 | j::l,acc,s,s',⟨o,ho,_,p,s1,h1,_,h2⟩,dm,hu,sB,bj,hq=>by
  obtain ⟨py,px⟩:=List.pairwise_cons.1 sB;obtain ⟨J,f,k1,k2,k3,k4⟩:=Fe h2 dm (R3 hu h1) px (λ j' ix=>bj j' (by simp [ix])) (λ j' ix=>hq j' (by simp [ix]));rcases hq j (by simp) o ho with pv|pT
  ·obtain ⟨v,rfl⟩:=YK pv h1
   refine ⟨J,f,k1,k2,λ i hi=>(k3 i hi).trans (by rw [wQ]),λ m hm=>?_⟩;rw [k4 m (λ j' ix=>hm j' (by simp [ix])),X9,if_neg (hm j (by simp) o ho)]
  ·obtain ⟨hg,oE,T,ad,x,j0,q0,v,z,g1,g2,g3,g4,g5,g6⟩:=SV pT
   obtain ⟨v0,ids,f0,h0,z1,z2,z3,z4,z5⟩:=zx (ops:=ops) hu h1;obtain ⟨s1',y1,_,y2⟩:=z5 s hu ((M9.refl s).ym _ _) z2;rw [h1] at y1; cases y1;have iF:∀ y,y∈o.op.operands.toList->sF.ev y=f (f0 (s.ev y)):=by
    intro y hy;refine IJ (z1.zd k1) (λ m hm=>?_);subst hm;have iv:=xS (ops:=ops) hy;rw [<- dm.1 m,k4 m (λ j' ix o' eY ee=>g6 j' (py j' ix) (bj j' (by simp [ix])) o' eY m ee iv),y2.fr,if_neg (by rw [oE]; intro h; cases h)];cases look m s.fr<;>rfl
   have ha:s.ev ad=.ptr j0 q0:=AE (z1.zd k1) ((iF ad (by rw [g1]; simp [Op.operands])).symm.trans g2) (.inl rfl);have hx:s.ev x=.val v z:=AE (z1.zd k1) ((iF x (by rw [g1]; simp [Op.operands])).symm.trans g3) (.inr ⟨rfl,by intro h; cases h⟩);obtain ⟨e,r,_,_,_,_,_,_,rfl⟩:=Oz hg g1 ha hx h1;refine ⟨[j0]++J,λ u=>f (AV.kill j0 e.kd q0 u),(Trim.kill j0 e.kd q0).zd k1,λ i hi=>?_,λ i hi=>?_,λ m hm=>?_⟩
   ·rcases List.mem_append.1 hi with hi|hi
    ·rw [List.mem_singleton] at hi; subst hi; exact ⟨g4,g5⟩
    ·exact k2 i hi
   ·rw [k3 i (λ h=>hi (List.mem_append_right _ h)),wQ]
    simp only [St.y9,o7];rw [if_neg (λ h=>hi (List.mem_append_left _ (by simp [h])))];rfl
   ·rw [k4 m (λ j' ix=>hm j' (by simp [ix])),X9,if_neg (hm j (by simp) o ho)]
    have e1:look m ((s.kill j0 e.kd q0).y9 j0 (e.E8 r)).fr=(look m s.fr).map (AV.kill j0 e.kd q0):=P9 m _ _;rw [e1];cases look m s.fr<;>rfl
theorem Kk {M:List Nat} {k n:Nat} (h:Ek ops M k n=true):n+1=ops.size/\k<n/\∃ ok,ops[k]?=some ok/\∀ j,j<n->(M.getD n 0).testBit j=true/\(j≠k->∃ o,ops[j]?=some o/\(∀ d,ok.dst=some d->o.dst≠some d) /\
  ((M.getD k 0).testBit j=true\/((quiet o=true\/LU o=true)/\∀ d,o.dst=some d->d∉looks ops ok))):=by
 simp only [Ek,Bool.and_eq_true] at h;obtain ⟨⟨h1,h2⟩,h3⟩:=h;have hn:=Nat.eq_of_beq_eq_true h1;refine ⟨hn,by simpa [Nat.blt_eq] using h2,?_⟩;split at h3
 ·rename_i ok aK
  refine ⟨ok,aK,λ j hj=>?_⟩;simp only [List.all_eq_true,List.mem_range] at h3;have:=h3 j hj;simp only [Bool.and_eq_true,Bool.or_eq_true] at this;obtain ⟨m1,m2⟩:=this;refine ⟨m1,λ fH=>?_⟩;rcases m2 with m2|m2
  ·exact absurd (Nat.eq_of_beq_eq_true m2) fH
  ·split at m2
   ·rename_i o ho
    simp only [Bool.and_eq_true,Bool.or_eq_true] at m2;refine ⟨o,ho,λ d hd ij=>?_,m2.2.imp id (λ h=>⟨h.1,λ d hd iV=>?_⟩)⟩
    ·have:=m2.1
     simp only [zW,ij,hd,Option.toList] at this;simp at this
    ·have:=h.2
     simp only [zW,hd] at this;simp [iV] at this
   ·cases m2
 ·cases h3
theorem Je {M:List Nat} {q:vO} {n:Nat} {o:Oper} {s:St} {p:Prop} {s2:St} (h:zQ E ops M q n o s=some (p,s2)):∃ T2 ad s3,o.guard=none/\o.op=.store T2 ad (.tmp q.d)/\(∀ t,ad=.tmp t->t≠q.d)/\(Ek ops M q.k n=true/\Ea ops M q n s=true)/\H7 E.nt o.dst=true /\
  xX E q.T q.U T2 (s.ev q.x) (s.ev q.y) (s.ev ad) q.d s=some (p,s3)/\s2=s3.put o.dst (.raw undef):=by
 unfold zQ at h;split at h
 ·rename_i T2 ad d' hg cB
  split at h
  ·rename_i hc
   simp only [Bool.and_eq_true] at hc;obtain ⟨⟨⟨⟨c1,c2⟩,c3⟩,c5⟩,c4⟩:=hc;obtain rfl:=Nat.eq_of_beq_eq_true c1;split at h
   ·rename_i p' s3 hs
    cases h;exact ⟨T2,ad,s3,hg,cB,λ t e=>by subst e; rintro rfl; simp at c2,⟨c3,c5⟩,c4,hs,rfl⟩
   ·cases h
  ·cases h
 ·cases h
theorem IX (hE:D9 E B) {x y adv:AV} {T U T2:TypeId} {d:Nat} {p:Prop} {s2:St} (hb:xX E T U T2 x y adv d s=some (p,s2)) (hp:p) :
  ∃ i p0 e t0 l m g r q bts,x=.at_ i p0/\adv=.ptr i p0/\look i s.hp=some e/\i∉g/\g.Nodup/\(g.all λ i=>!pinned i)=true/\j9 e.ty e.x p0=some ⟨.d8 true t0,l⟩/\J8 E T2 (.d8 true t0)=true /\
   w5 e.ty e.x p0 (.d8 true t0) (l++m)=some r/\s2=(((St.B0 g (s.put (some d) .any)).kill i e.kd p0).y9 i (e.E8 r))/\look T E.tt=some ⟨.d8 q t0,bts⟩ /\
   ((∃ e',E.P.underlying U=some (.slice e'))\/E.P.underlying U=some .string)/\y.vn s t0=some (⟨t0,m⟩,g)/\l.length+m.length<=140737488355328/\(l.length+m.length)*t0.wb<=140737488355328 /\
   ((∃ t x,e=.var t x)\/∃ t x j q,e=.own (.d8 true t) x/\p0=.idx j::q):=by
 unfold xX at hb;split at hb
 ·rename_i i p0 j q q1 t0 bts u1 bts1 hT hU
  split at hb
  ·rename_i e aX jJ
   simp only [Bool.and_eq_true] at jJ;obtain ⟨bS,jJ⟩:=jJ;have bS:=Nat.eq_of_beq_eq_true bS;subst bS;split at hb
   ·rename_i u l hg
    split at hb
    ·rename_i t m g cw
     split at hb
     ·rename_i hu
      split at hb
      ·rename_i ht
       subst hu; subst ht;split at hb
       ·rename_i r aL
        split at hb
        ·rename_i bD
         cases hb;simp only [Bool.and_eq_true,Bool.not_eq_true'] at bD;obtain ⟨⟨⟨⟨bD,bP⟩,ew⟩,iy⟩,cC⟩:=bD;obtain ⟨rfl,jb,ia⟩:=hp;have ew:i∉g:=by intro hm; simp [hm] at ew
         have hk:(∃ e',E.P.underlying U=some (.slice e'))\/E.P.underlying U=some .string:=by
          cases u1<;>first|cases jJ|skip
          ·exact .inr (Y2 (s9 hE hU))
          ·obtain ⟨et,k',f1,_⟩:=H2 (s9 hE hU)
           exact .inl ⟨et,f1⟩
         exact ⟨i,q,e,_,l,m,g,r,_,_,rfl,rfl,aX,ew,CT iy,cC,hg,bD,aL,rfl,hT,hk,cw,jb,ia,(Cy bP).2⟩
        ·cases hb
       ·cases hb
      ·cases hb
     ·cases hb
    ·cases hb
   ·cases hb
  ·cases hb
 ·cases hb
theorem P6.cut:∀ {A C:List Oper} {o:Oper},P6 (A++o::C)->P6 (A++C)/\∀ x∈A++C,∀ d,x.dst=some d->o.dst≠some d
 | [],C,o,h=>⟨h.2,λ x hx d gx ij=>h.1 d ij x hx gx⟩
 | y::A,C,o,h=>by
  obtain ⟨m1,m2⟩:=P6.cut h.2;refine ⟨⟨λ d hd x hx=>h.1 d hd x (by simp at hx ⊢; rcases hx with hx|hx<;>simp [hx]),m1⟩,λ x hx d gx ij=>?_⟩;rcases List.mem_cons.1 hx with rfl|hx
  ·exact h.1 d gx o (by simp) ij
  ·exact m2 x hx d gx ij
theorem P6.sub {f:Nat->Bool}:∀ {l:List Nat},P6 (rem ops l)->P6 (rem ops (l.filter f))
 | [],h=>h
 | i::l,h=>by
  cases ho:ops[i]? with
  | none =>
   have e:rem ops (i::l)=rem ops l:=by simp [rem,ho]
   rw [e] at h;have:=P6.sub (f:=f) h;rw [List.filter_cons]
   split
   ·have e:rem ops (i::l.filter f)=rem ops (l.filter f):=by simp [rem,ho]
    rw [e]; exact this
   ·exact this
  | some o =>
   rw [EC ho] at h;rw [List.filter_cons]
   split
   ·rw [EC ho]
    refine ⟨λ d hd x hx=>h.1 d hd x ?_,P6.sub h.2⟩;obtain ⟨j,hj,ta⟩:=List.mem_filterMap.1 hx;exact List.mem_filterMap.2 ⟨j,(List.mem_filter.1 hj).1,ta⟩
   ·exact P6.sub h.2
theorem TO {n i:Nat} {listed:Array Bool} {f:Nat->Bool} (hs:listed.size=n) (hi:i∈idxs n listed) (hf:f i=true):∃ pre post,(idxs n listed).filter f=pre++i::post/\(∀ j∈pre,j<i) /\
  (idxs n (listed.setIfInBounds i true)).filter f=pre++post:=by
 obtain ⟨pre,post,e,h1,h2⟩:=KE hi;refine ⟨pre.filter f,post.filter f,by rw [e,List.filter_append,List.filter_cons,if_pos hf],λ j hj=>h1 j (List.mem_filter.1 hj).1,?_⟩;rw [BW hs (G0.1 hi).1,h2,List.filter_append]
theorem Yx {n i:Nat} {listed:Array Bool} {f g:Nat->Bool} (hs:listed.size=n) (hi:i<n) (hg:∀ j,g j=(f j && !(j == i))):(idxs n (listed.setIfInBounds i true)).filter f=(idxs n listed).filter g:=by
 rw [BW hs hi,List.filter_filter];exact List.filter_congr (λ j _=>(hg j).symm)
theorem BV {n i fuel:Nat} {listed:Array Bool} (hs:listed.size=n) (hi:i∈idxs n listed) (hl:(idxs n listed).length=fuel+1):(idxs n (listed.setIfInBounds i true)).length=fuel:=by
 obtain ⟨pre,post,e,h1,h2⟩:=KE hi;rw [BW hs (G0.1 hi).1,h2];rw [e] at hl;simp at hl ⊢; omega
section
variable {q:vO} {n:Nat} {s1:St}
theorem zk.set {listed:Array Bool} (cM:zk ops listed) {i:Nat} {o:Oper} (ho:ops[i]?=some o) (bg:∀ e∈o.after,Region.binds .any e=true->listed.getD e.on false=true):zk ops (listed.setIfInBounds i true):=by
 intro k y hy hk e' eG cX;by_cases gJ:k=i
 ·subst gJ
  rw [ho] at hy; cases hy;exact getD_set_true (bg e' eG cX)
 ·rw [getD_set_ne true (Ne.symm gJ)] at hk
  exact getD_set_true (cM k y hy hk e' eG cX)
theorem b0a {listed:Array Bool} {i:Nat} (hi:i<listed.size):(listed.setIfInBounds i true).getD i false=true:=by simp [hi]
theorem SJ (hd:wL ops=true) {listed:Array Bool} (bc:listed.size=ops.size) (bG:idxs ops.size listed≠[]):Region.ready .any ops listed≠[]:=by
 have hM:=EV hd;intro hr;cases ll:idxs ops.size listed with
 | nil=>exact bG ll
 | cons i l =>
  have bq:i∈idxs ops.size listed:=by rw [ll]; simp
  obtain ⟨h1,h2⟩:=G0.1 bq;have ho:ops[i]?=some ops[i]:=Array.getElem?_eq_getElem h1;have:i∈Region.ready .any ops listed:=by
   refine mem_ready.2 ⟨h2,ops[i],ho,λ e he hb=>?_⟩;have bj:=(hM i _ ho).1 e he hb;cases hle:listed.getD e.on true with
   | true =>
    have:e.on<listed.size:=by omega
    simp [this] at hle ⊢; exact hle
   | false =>
    exfalso;have kj:e.on∈idxs ops.size listed:=G0.2 ⟨by omega,hle⟩;have hs:=CR ops.size listed;rw [ll] at hs kj;rcases List.mem_cons.1 kj with e1|e1
    ·omega
    ·have:=(List.pairwise_cons.1 hs).1 _ e1; omega
  rw [hr] at this;cases this
theorem c0Z (hE:D9 E B) (hn:B.n=E.nt) (hd:wL ops=true) {Q:Exit->Act->World->Prop} (fo:P6 ops.toList) (hA:AZ E ops q) {o2:Oper} (iO:ops[n]?=some o2) {p:Prop} {s2:St} (eR:zQ E ops (E6 ops.toList []) q n o2 s1=some (p,s2)) (hp:p)
  (hQ:∀ S ι a w,RS B S ι s2 a w->Q .normal a w) {i:Nat} {e:i7} {p0:List Step} {t0:Ty} {l m:List t0.den} {g:List Nat} (hx:s1.ev q.x=.at_ i p0) (he:look i s1.hp=some e) (aK:B8 e.ty e.x p0) (hg:j9 e.ty e.x p0=some ⟨.d8 true t0,l⟩)
  (cw:(s1.ev q.y).vn s1 t0=some (⟨t0,m⟩,g)) {v':Value} :
  ∀ (fuel:Nat) (listed:Array Bool) (S:Nat->Prop) (ι:Ix) (s s':St) (a:Act) (w:World),listed.size=ops.size->(idxs ops.size listed).length=fuel->zk ops listed->listed.getD q.k false=true->listed.getD n true=false->uniq s.fr->O5 s (rem ops ((idxs ops.size listed).filter (λ j=>!(j == n)))) ->
   vx E ops (λ i=>(E6 ops.toList []).getD i 0) [] ((idxs ops.size listed).filter (λ j=>!(j == n))) s s'->M9 s' s1->RS B S ι s a w->a.eval (.tmp q.d)=v'->(∀ b off,Loc w.heap ι i e p0=some (b,off)->yQ B S ι s.hp g i e p0 t0 l m b off v' w) ->
   wpAny E.P .any ops Q fuel listed a w:=by
 have hM:=EV hd;obtain ⟨T2,ad,s3,f1,f2,f3,⟨f4,f4'⟩,f5,f6,rfl⟩:=Je eR;obtain ⟨gy,lh,ok,iN,fG⟩:=Kk f4;obtain ⟨oa,c,a1,a2,a3,a4,a5,a6,a7,a8⟩:=hA;have e9:oa=ok:=by rw [a1] at iN; cases iN; rfl
 subst e9;have mY:∀ j o,j<n->j≠q.k->ops[j]?=some o->o.dst≠some q.d:=by
  intro j o hj fH ho;obtain ⟨o',h1,h2,_⟩:=(fG j hj).2 fH;rw [ho] at h1; cases h1;exact h2 q.d a3
 intro fuel
 induction fuel with
 | zero =>
  intro listed S ι s s' a w bc hlen cM dq gA hu fJ aU dm cu hv ov;exfalso;have fV:idxs ops.size listed=[]:=List.length_eq_zero_iff.1 hlen;have:n∈idxs ops.size listed:=G0.2 ⟨by omega,gA⟩;rw [fV] at this; cases this
 | succ fuel ih =>
  intro listed S ι s s' a w bc hlen cM dq gA hu fJ aU dm cu hv ov;refine ⟨λ hr=>absurd hr (SJ hd bc (by intro h; rw [h] at hlen; cases hlen)),λ i' hi=>?_⟩;obtain ⟨h1,o,ho,bg⟩:=mem_ready.1 hi;have dz:i'<ops.size:=(Array.getElem?_eq_some_iff.1 ho).1;have bq:i'∈idxs ops.size listed:=G0.2 ⟨dz,h1⟩;have iq:∀ j,j<ops.size->((E6 ops.toList []).getD i' 0).testBit j=true->listed.getD j false=true:=Fj (M:=λ i=>(E6 ops.toList []).getD i 0) (λ i o ho=>⟨(hM i o ho).1,(hM i o ho).2.1⟩) cM i' o ho bg;by_cases fx:i'=n
  ·
   subst fx;rw [iO] at ho; cases ho;have bH:∀ j,j∈idxs ops.size listed->j=i':=by
    intro j hj;obtain ⟨j1,j2⟩:=G0.1 hj;by_cases e:j=i'
    ·exact e
    ·have:=iq j j1 (fG j (by omega)).1
     rw [V6 this] at j2; cases j2
   have fV:(idxs ops.size listed).filter (λ j=>!(j == i'))=[]:=by
    rw [List.filter_eq_nil_iff];intro j hj; simp [bH j hj]
   rw [fV] at aU;obtain rfl:s=s':=aU;have mE:=Ee dm cu;have pj:RS B S ι (s1.put (some q.d) .any) a w:=mE.forget q.d;obtain ⟨i2,p2,e2,t2,l2,m2,g2,r,qq,bts,b1,b2,b3,b4,b5,b6,b7,b8,b9,Bp,Bo,Bn,wX,Bm,Bl,yP⟩:=IX hE f6 hp;rw [hx] at b1;obtain ⟨rfl,rfl⟩:i=i2/\p0=p2:=by simpa using b1
   rw [he] at b3; cases b3;rw [hg] at b7;simp only [Option.some.injEq,Sigma.mk.injEq,Ty.d8.injEq,true_and] at b7;obtain ⟨b7,b7'⟩:=b7;subst b7;obtain rfl:l=l2:=eq_of_heq b7';rw [cw] at wX;simp only [Option.some.injEq,Prod.mk.injEq,Sigma.mk.injEq,heq_eq_eq,true_and] at wX;obtain ⟨rfl,rfl⟩:=wX;have gR:=mE.ev ad;rw [b2] at gR;obtain ⟨e',b,off,c1,c2,c3,c4⟩:=gR;rw [he] at c1; cases c1;have c4:a.eval ad=.pointer (some ⟨b,off,none⟩):=by simpa using c4
   have bP:=SH hE pj (g:=g) b6 b4 (e:=e) he aK hg (by
    obtain ⟨O',y1,y2,y3,y4,y5⟩:=ov b off c3;exact ⟨O',y1,y2,y3,y4,λ cc hc=>⟨(y5 cc hc).1,λ j ej hj gi du=>(y5 cc hc).2.1 j ej hj gi ((dm.2 j).trans du),(y5 cc hc).2.2⟩⟩) f2 c4 hv b8 b9
   have kk:=BV bc bq hlen;have ki:idxs ops.size (listed.setIfInBounds i' true)=[]:=by
    rw [BW bc dz];rw [List.filter_eq_nil_iff];intro j hj; simp [bH j hj]
   have tu:fuel=0:=by rw [ki] at kk; exact kk.symm
   subst tu;have hw:o2.wp E.P a w (wpAny E.P .any ops Q 0 (listed.setIfInBounds i' true)) Q:=by
    refine bP _ _ (λ S' ι' w' val h1 h2=>⟨?_,hQ S' ι' _ w' ?_⟩)
    ·rw [List.eq_nil_iff_forall_not_mem]
     intro j hj;obtain ⟨j1,oj,j2,_⟩:=mem_ready.1 hj;have:j∈idxs ops.size (listed.setIfInBounds i' true):=G0.2 ⟨(Array.getElem?_eq_some_iff.1 j2).1,j1⟩;rw [ki] at this; cases this
    ·rw [<- Bp] at h1 h2
     exact h1.put (by rw [hn]; exact f5) h2
   unfold wpOp;rw [iO];simp only [Region.wanted,f1,if_true];exact .inl hw
  ·
   have bj:i'<n:=by omega
   have gJ:i'≠q.k:=by rintro rfl; rw [V6 dq] at h1; cases h1
   obtain ⟨o',eY,ku,uJ⟩:=(fG i' bj).2 gJ;rw [ho] at eY; cases eY;have nd:∀ j,j∈idxs ops.size listed->¬ ((E6 ops.toList []).getD q.k 0).testBit j=true:=by
    intro j hj hb;have qu:∀ e∈oa.after,Region.binds .any e=true->listed.getD e.on false=true:=cM q.k oa a1 (V6 dq);have h9:=Fj (M:=λ i=>(E6 ops.toList []).getD i 0) (λ i o ho=>⟨(hM i o ho).1,(hM i o ho).2.1⟩) cM q.k oa a1 qu j (G0.1 hj).1 hb;have h8:=(G0.1 hj).2;rw [V6 h9] at h8; cases h8
   have ft:∀ j∈(idxs ops.size listed).filter (λ j=>!(j == n)),∀ oj,ops[j]?=some oj->quiet oj=true\/zf ops q n j oj s1=true:=by
    intro j hj oj kg;obtain ⟨j1,j2⟩:=List.mem_filter.1 hj;simp only [Bool.not_eq_true',beq_eq_false_iff_ne,ne_eq] at j2;have jn:j<n:=by have:=(G0.1 j1).1; omega
    have jk:j≠q.k:=by rintro rfl; have:=(G0.1 j1).2; rw [V6 dq] at this; cases this
    rcases Ro f4' jn jk kg with h9|h9|h9
    ·exact absurd h9 (nd j j1)
    ·exact .inl h9
    ·exact .inr h9
   have gI:∀ j∈(idxs ops.size listed).filter (λ j=>!(j == n)),j<n:=by
    intro j hj;obtain ⟨j1,j2⟩:=List.mem_filter.1 hj;simp only [Bool.not_eq_true',beq_eq_false_iff_ne,ne_eq] at j2;have:=(G0.1 j1).1; omega
   have fi:((idxs ops.size listed).filter (λ j=>!(j == n))).Pairwise (·<·):=(CR ops.size listed).sublist List.filter_sublist;have nh:i'∈(idxs ops.size listed).filter (λ j=>!(j == n)):=List.mem_filter.2 ⟨bq,by simpa using fx⟩;have ny:=ft i' nh o ho;have rj:=aU;obtain ⟨pre,post,e1,lf,e2⟩:=TO (f:=λ j=>!(j == n)) bc bq (by simpa using fx);rw [e1] at fJ aU;have er:rem ops (pre++i'::post)=rem ops pre++o::rem ops post:=by simp [rem,List.filterMap_append,ho]
   have er2:rem ops (pre++post)=rem ops pre++rem ops post:=by simp [rem,List.filterMap_append]
   have gP:P6 (rem ops (pre++i'::post)):=by
    rw [<- e1];refine P6.sub ?_;have:rem ops (idxs ops.size listed)=rem ops ((List.range ops.size).filter (λ i=>!listed.getD i true)):=rfl;rw [this];refine P6.sub ?_;have h9:=Es (ops:=ops);rw [yz] at h9;rw [h9]; exact fo
   have fw:∀ j∈pre,((E6 ops.toList []).getD i' 0).testBit j=false/\∀ x,ops[j]?=some x->indep ops x o=true:=by
    intro j hj;have dN:j∈idxs ops.size listed:=by
     have:j∈(idxs ops.size listed).filter (λ j=>!(j == n)):=by rw [e1]; simp [hj]
     exact (List.mem_filter.1 this).1
    have gz:((E6 ops.toList []).getD i' 0).testBit j=false:=by
     cases hm:((E6 ops.toList []).getD i' 0).testBit j with
     | false=>rfl
     | true =>
      exfalso;have iR:=iq j (G0.1 dN).1 hm;have:=(G0.1 dN).2;rw [V6 iR] at this;cases this
    refine ⟨gz,λ x hx=>?_⟩;rcases (hM i' o ho).2.2 j x (lf j hj) hx with hm|hm
    ·rw [gz] at hm; cases hm
    ·exact hm
   obtain ⟨pp,sa,sb,k1,k2,k3,k4,_⟩:=Ec ho gP fw hu (fJ.sub (λ y hy=>by rw [BL]; exact List.mem_append_left _ hy)) aU;rw [er] at gP fJ;have gQ:=P6.cut gP;rcases ny with pv|pT
   ·obtain ⟨q1,q2,v,val,rfl,q3,q4⟩:=Zr hE cu pv k1 k2
    have fW:wpAny E.P .any ops Q fuel (listed.setIfInBounds i' true) (a.put o.dst val) w:=by
     refine ih (listed.setIfInBounds i' true) S ι (s.put o.dst v) sb (a.put o.dst val) w (by simp [bc]) (BV bc bq hlen) (cM.set ho bg) (getD_set_true dq) (by rw [getD_set_ne true fx]; exact gA) (R3 hu k1) ?_ (by rw [e2]; exact k3) (k4.trans dm) (cu.put (by rw [hn]; exact q2) q4) ?_ (λ b off hb=>by rw [wQ]; exact ov b off hb)
     ·rw [e2,er2]
      exact O5.step hu (λ y hy=>fJ y (by simp at hy ⊢; rcases hy with hy|hy<;>simp [hy])) gQ.2 k1
     ·rw [<- hv]
      have bG:=mY i' o bj gJ ho;cases ij:o.dst with
      | none=>rfl
      | some d =>
       rw [ij] at bG;exact yJ (λ e=>bG (by rw [e]))
    unfold wpOp;rw [ho];simp only [Region.wanted,q1,if_true];refine .inl ?_;unfold Oper.wp;rw [q3];exact fW
   ·
    obtain ⟨dI,oE,T,ad',x',j0,q0,vt,z,g1,g2,g3,g4,g5,g6⟩:=SV pT;rw [e1] at fi gI ft;have bU:List.Sublist (pre++post) (pre++i'::post):=List.Sublist.append (List.Sublist.refl _) (List.sublist_cons_self _ _);obtain ⟨J,f,t1,t2,t3,t4⟩:=Fe k3 (k4.trans dm) (R3 hu k1) (fi.sublist bU) (λ j hj=>gI j (bU.subset hj)) (λ j hj=>ft j (bU.subset hj));have mM:∀ j∈post,i'<j:=λ j hj=>(List.pairwise_cons.1 (List.pairwise_append.1 fi).2.1).1 j hj;obtain ⟨v0,ids,f0,uN,z1,z2,z3,z4,z5⟩:=zx (ops:=ops) hu k1;obtain ⟨sa',y1,_,y2⟩:=z5 s hu ((M9.refl s).ym _ _) z2;rw [k1] at y1; cases y1;have iF:∀ y,y∈o.op.operands.toList->s1.ev y=f (f0 (s.ev y)):=by
     intro y hy;refine IJ (z1.zd t1) (λ m' hm=>?_);subst hm;have iv:=xS (ops:=ops) hy;rw [<- (k4.trans dm).1 m',t4 m' (λ j hj o' eY ee=>?_),y2.fr,if_neg (by rw [oE]; intro h; cases h)]
     ·cases look m' s.fr<;>rfl
     ·rcases List.mem_append.1 hj with hj|hj
      ·exact (Sb ((fw j hj).2 o' eY)).1 m' ee iv
      ·exact g6 j (mM j hj) (gI j (by simp [hj])) o' eY m' ee iv
    have tM:s.ev ad'=.ptr j0 q0:=AE (z1.zd t1) ((iF ad' (by rw [g1]; simp [Op.operands])).symm.trans g2) (.inl rfl);have eu:s.ev x'=.val vt z:=AE (z1.zd t1) ((iF x' (by rw [g1]; simp [Op.operands])).symm.trans g3) (.inr ⟨rfl,by intro h; cases h⟩);obtain ⟨ι',w',r1,r2,r3⟩:=XX hE hn cu dI g1 tM eu k1;have bS:i≠j0:=by
     rintro rfl;rw [hx] at g4;simp only [AV.j5,Nat.beq_refl] at g4;cases g4
    have gi:j0∉g:=λ hm=>by rw [QI cw j0 hm] at g5; cases g5
    obtain ⟨J2,f2',u1,u2,u3,u4⟩:=Fe (ops:=ops) (q:=q) (n:=n) aU dm hu fi gI ft;have mg:look i s.hp=some e:=by
     rw [<- u3 i (λ hm=>by
      have:=(u2 i hm).1;rw [hx] at this;simp only [AV.j5,Nat.beq_refl] at this;cases this),dm.2 i]
     exact he
    obtain ⟨i2,p2,e2',t2',l2,m2,g2',r',qq,bts,b1,b2,b3,b4,b5,b6,b7,b8,b9,Bp,Bo,Bn,wX,Bm,Bl,yP⟩:=IX hE f6 hp;rw [hx] at b1;obtain ⟨rfl,rfl⟩:i=i2/\p0=p2:=by simpa using b1
    rw [he] at b3; cases b3;obtain ⟨b,off,im⟩:=BY (cu.hs.ob i e mg) cu.hs.slt yP aK hg;have hP:=r3 bS gi mg aK hg (ov b off im);have fW:wpAny E.P .any ops Q fuel (listed.setIfInBounds i' true) (a.put o.dst undef) w':=by
     refine ih (listed.setIfInBounds i' true) S ι' sa sb (a.put o.dst undef) w' (by simp [bc]) (BV bc bq hlen) (cM.set ho bg) (getD_set_true dq) (by rw [getD_set_ne true fx]; exact gA) (R3 hu k1) ?_ (by rw [e2]; exact k3) (k4.trans dm) r2 ?_ (λ b9 off9 rF=>?_)
     ·rw [e2,er2]
      exact O5.step hu (λ y hy=>fJ y (by simp at hy ⊢; rcases hy with hy|hy<;>simp [hy])) gQ.2 k1
     ·rw [<- hv,oE]; rfl
     ·obtain ⟨_,h9,_⟩:=id hP
      rw [h9] at rF; cases rF;exact hP
    unfold wpOp;rw [ho];simp only [Region.wanted,dI,if_true];refine .inl ?_;unfold Oper.wp;rw [r1];exact fW
theorem b8f (hE:D9 E B) (hn:B.n=E.nt) (hd:wL ops=true) {Q:Exit->Act->World->Prop} (fo:P6 ops.toList) (hA:AZ E ops q) {o2:Oper} (iO:ops[n]?=some o2) {p:Prop} {s2:St} (eR:zQ E ops (E6 ops.toList []) q n o2 s1=some (p,s2)) (hp:p)
  (hQ:∀ S ι a w,RS B S ι s2 a w->Q .normal a w) :
  ∀ (fuel:Nat) (listed:Array Bool) (S:Nat->Prop) (ι:Ix) (s s':St) (a:Act) (w:World),listed.size=ops.size->(idxs ops.size listed).length=fuel->zk ops listed->listed.getD q.k true=false->listed.getD n true=false->uniq s.fr->O5 s (rem ops ((idxs ops.size listed).filter (λ j=>!(j == n) && !(j == q.k)))) ->
   vx E ops (λ i=>(E6 ops.toList []).getD i 0) [] ((idxs ops.size listed).filter (λ j=>!(j == n) && !(j == q.k))) s s'->M9 s' s1->look q.d s.fr=some .any->RS B S ι s a w ->
   wpAny E.P .any ops Q fuel listed a w:=by
 have hM:=EV hd;obtain ⟨T2,ad,s3,f1,f2,f3,⟨f4,f4'⟩,f5,f6,_⟩:=Je eR;obtain ⟨gy,lh,ok,iN,fG⟩:=Kk f4;have um:=hA;obtain ⟨oa,c,a1,a2,a3,a4,a5,a6,a7,a8⟩:=hA;have e9:oa=ok:=by rw [a1] at iN; cases iN; rfl
 subst e9;intro fuel
 induction fuel with
 | zero =>
  intro listed S ι s s' a w bc hlen cM dq gA hu fJ aU dm dx cu;exfalso;have fV:idxs ops.size listed=[]:=List.length_eq_zero_iff.1 hlen;have:n∈idxs ops.size listed:=G0.2 ⟨by omega,gA⟩;rw [fV] at this; cases this
 | succ fuel ih =>
  intro listed S ι s s' a w bc hlen cM dq gA hu fJ aU dm dx cu;refine ⟨λ hr=>absurd hr (SJ hd bc (by intro h; rw [h] at hlen; cases hlen)),λ i' hi=>?_⟩;obtain ⟨h1,o,ho,bg⟩:=mem_ready.1 hi;have dz:i'<ops.size:=(Array.getElem?_eq_some_iff.1 ho).1;have bq:i'∈idxs ops.size listed:=G0.2 ⟨dz,h1⟩;have iq:∀ j,j<ops.size->((E6 ops.toList []).getD i' 0).testBit j=true->listed.getD j false=true:=Fj (M:=λ i=>(E6 ops.toList []).getD i 0) (λ i o ho=>⟨(hM i o ho).1,(hM i o ho).2.1⟩) cM i' o ho bg;by_cases fx:i'=n
  ·exfalso
   subst fx;have:=iq q.k (by omega) (fG q.k lh).1;rw [V6 this] at dq; cases dq
  have bj:i'<n:=by omega
  by_cases gJ:i'=q.k
  ·
   subst gJ;rw [a1] at ho; cases ho;have gI:∀ j∈(idxs ops.size listed).filter (λ j=>!(j == n) && !(j == q.k)),j<n:=by
    intro j hj;obtain ⟨j1,j2⟩:=List.mem_filter.1 hj;simp only [Bool.and_eq_true,Bool.not_eq_true',beq_eq_false_iff_ne,ne_eq] at j2;have:=(G0.1 j1).1; omega
   have iH:∀ j∈(idxs ops.size listed).filter (λ j=>!(j == n) && !(j == q.k)),∀ oj,ops[j]?=some oj->(quiet oj=true\/zf ops q n j oj s1=true)/\oj.dst≠some q.d/\∀ d,oj.dst=some d->d∉looks ops oa:=by
    intro j hj oj kg;have jn:=gI j hj;obtain ⟨j1,j2⟩:=List.mem_filter.1 hj;simp only [Bool.and_eq_true,Bool.not_eq_true',beq_eq_false_iff_ne,ne_eq] at j2;have lZ:¬ ((E6 ops.toList []).getD q.k 0).testBit j=true:=by
     intro g3;have:=iq j (by omega) g3;have h9:=(G0.1 j1).2;rw [V6 this] at h9; cases h9
    obtain ⟨o',g1,g2,g3⟩:=(fG j jn).2 j2.2;rw [kg] at g1; cases g1;refine ⟨?_,g2 q.d a3,?_⟩
    ·rcases Ro f4' jn j2.2 kg with h9|h9|h9
     ·exact absurd h9 lZ
     ·exact .inl h9
     ·exact .inr h9
    ·rcases g3 with g3|g3
     ·exact absurd g3 lZ
     ·exact g3.2
   have fi:((idxs ops.size listed).filter (λ j=>!(j == n) && !(j == q.k))).Pairwise (·<·):=(CR ops.size listed).sublist List.filter_sublist;obtain ⟨J,f,t1,t2,t3,t4⟩:=Fe (ops:=ops) (q:=q) (n:=n) aU dm hu fi gI (λ j hj oj kg=>(iH j hj oj kg).1);obtain ⟨i,p0,e,t0,l,m,g,r,qq,bts,b1,b2,b3,b4,b5,b6,b7,b8,b9,Bp,Bo,Bn,wX,Bm,Bl,yP⟩:=IX hE f6 hp;have ga:∀ j,j∉J->look j s.hp=look j s1.hp:=λ j hj=>by rw [<- t3 j hj]; exact dm.2 j
   have cv:∀ x,x∈oa.op.operands.toList->s1.ev x=f (s.ev x):=by
    intro x hx;refine IJ t1 (λ t ht=>?_);subst ht;rw [<- dm.1 t,t4 t (λ j hj oj kg ee=>(iH j hj oj kg).2.2 t ee (xS hx))]
   have eZ:q.x∈oa.op.operands.toList:=by rw [a5]; exact xO (by rw [a7]; simp)
   have gW:q.y∈oa.op.operands.toList:=by rw [a5]; exact xO (by rw [a7]; simp)
   have qY:s.ev q.x=.at_ i p0:=AE t1 ((cv _ eZ).symm.trans b1) (.inl rfl);have rQ:s.ev q.y=s1.ev q.y:=AE t1 (cv _ gW).symm (c1S wX);have mg:look i s.hp=some e:=(ga i (λ hm=>by
    have:=(t2 i hm).1;rw [b1] at this;simp only [AV.j5,Nat.beq_refl] at this;cases this)).trans b3
   have nM:(s.ev q.y).vn s t0=some (⟨t0,m⟩,g):=by
    rw [rQ,Ij (s:=s1) (t:=s) (λ j hj=>ga j (λ hm=>by rw [(t2 j hm).2] at hj; cases hj))];exact wX
   have aK:B8 e.ty e.x p0:=by
    obtain ⟨e2,u,y2,cs,r1,aK,_⟩:=D0 cu qY;rw [mg] at r1; cases r1;exact aK
   obtain ⟨b,off,hl⟩:=BY (cu.hs.ob i e mg) cu.hs.slt yP aK b7;obtain ⟨v',w',c1,c2,c3,c4⟩:=Tg hE cu a5 a6 a7 a8 Bn Bo qY mg yP b7 hl nM b4 b5 Bm Bl;have eD:Loc w'.heap ι i e p0=some (b,off):=by obtain ⟨_,h9,_⟩:=c4; exact h9
   have iI:RS B S ι s (a.put (some q.d) v') w':=by
    have h9:=c2.put (d:=some q.d) (by rw [hn]; exact a4) (v:=.any) (val:=v') ⟨v',rfl⟩;refine Ee (s:=s.put (some q.d) .any) (t:=s) ⟨λ t=>?_,λ _=>rfl⟩ h9;rw [X9]
    split
    ·rename_i e9; cases e9; exact dx.symm
    ·rfl
   have dH:(a.put (some q.d) v').eval (.tmp q.d)=v':=JH (by rw [cu.sz,hn]; simpa [H7,Nat.blt_eq] using a4);have aL:(idxs ops.size (listed.setIfInBounds q.k true)).filter (λ j=>!(j == n))=(idxs ops.size listed).filter (λ j=>!(j == n) && !(j == q.k)):=Yx bc dz (λ j=>rfl);have fW:wpAny E.P .any ops Q fuel (listed.setIfInBounds q.k true) (a.put (some q.d) v') w':=by
    refine c0Z hE hn hd fo um iO eR hp hQ (i:=i) (e:=e) (p0:=p0) (t0:=t0) (l:=l) (m:=m) (g:=g) b1 b3 aK b7 wX (v':=v') fuel (listed.setIfInBounds q.k true) S ι s s' _ w' (by simp [bc]) (BV bc bq hlen) (cM.set a1 bg) (b0a (by omega)) (by rw [getD_set_ne true (by omega)]; exact gA) hu (by rw [aL]; exact fJ) (by rw [aL]; exact aU) dm iI dH ?_;intro b' ar cX;rw [eD] at cX; cases cX;exact c4
   unfold wpOp;rw [a1];simp only [Region.wanted,a2,if_true];refine .inl ?_;unfold Oper.wp;rw [c1];show wpAny E.P .any ops Q fuel (listed.setIfInBounds q.k true) (a.put oa.dst v') w';rw [a3];exact fW
  ·
   obtain ⟨pre,post,e1,lf,e2⟩:=TO (f:=λ j=>!(j == n) && !(j == q.k)) bc bq (by simp [fx,gJ]);rw [e1] at fJ aU;have er:rem ops (pre++i'::post)=rem ops pre++o::rem ops post:=by simp [rem,List.filterMap_append,ho]
   have er2:rem ops (pre++post)=rem ops pre++rem ops post:=by simp [rem,List.filterMap_append]
   have gP:P6 (rem ops (pre++i'::post)):=by
    rw [<- e1];refine P6.sub ?_;have:rem ops (idxs ops.size listed)=rem ops ((List.range ops.size).filter (λ i=>!listed.getD i true)):=rfl;rw [this];refine P6.sub ?_;have h9:=Es (ops:=ops);rw [yz] at h9;rw [h9]; exact fo
   have fw:∀ j∈pre,((E6 ops.toList []).getD i' 0).testBit j=false/\∀ x,ops[j]?=some x->indep ops x o=true:=by
    intro j hj;have dN:j∈idxs ops.size listed:=by
     have:j∈(idxs ops.size listed).filter (λ j=>!(j == n) && !(j == q.k)):=by rw [e1]; simp [hj]
     exact (List.mem_filter.1 this).1
    have gz:((E6 ops.toList []).getD i' 0).testBit j=false:=by
     cases hm:((E6 ops.toList []).getD i' 0).testBit j with
     | false=>rfl
     | true =>
      exfalso;have iR:=iq j (G0.1 dN).1 hm;have:=(G0.1 dN).2;rw [V6 iR] at this;cases this
    refine ⟨gz,λ x hx=>?_⟩;rcases (hM i' o ho).2.2 j x (lf j hj) hx with hm|hm
    ·rw [gz] at hm; cases hm
    ·exact hm
   obtain ⟨pp,sa,sb,k1,k2,k3,k4,_⟩:=Ec ho gP fw hu (fJ.sub (λ y hy=>by rw [BL]; exact List.mem_append_left _ hy)) aU;have aN:o.dst≠some q.d:=by
    obtain ⟨o',g1,g2,_⟩:=(fG i' bj).2 gJ;rw [ho] at g1; cases g1;exact g2 q.d a3
   have nN:look q.d sa.fr=some .any:=by
    obtain ⟨v,ids,f,hf,z1,z2,z3,z4,z5⟩:=zx (ops:=ops) hu k1;obtain ⟨sa',y1,_,y2⟩:=z5 s hu ((M9.refl s).ym _ _) z2;rw [k1] at y1; cases y1;rw [y2.fr,if_neg aN,dx];simp [z1.plain _ (rfl:AV.plain .any=true)]
   rw [er] at gP fJ;have gQ:=P6.cut gP;have fb:=KZ hE hn cu (ops:=ops) o (k:=λ x=>Tree.cut .skip [] x) (L:=λ _ _ x=>x=sa) (Rt:=λ _=>True) (Ca.2 ⟨pp,sa,k1,k2,rfl⟩)
    (next:=wpAny E.P .any ops Q fuel (listed.setIfInBounds i' true)) (Q:=Q) (λ S' ι' x a' w' hx kH=>by
     have kH:x=sa:=kH;subst kH;refine ih (listed.setIfInBounds i' true) S' ι' x sb a' w' (by simp [bc]) (BV bc bq hlen) (cM.set ho bg) (by rw [getD_set_ne true gJ]; exact dq) (by rw [getD_set_ne true fx]; exact gA) (R3 hu k1) ?_ (by rw [e2]; exact k3) (k4.trans dm) nN hx;rw [e2,er2];exact O5.step hu (λ y hy=>fJ y (by simp at hy ⊢; rcases hy with hy|hy<;>simp [hy])) gQ.2 k1)
   unfold wpOp;rw [ho];simp only
   split
   ·rename_i hw; rw [if_pos hw] at fb; exact .inl fb
   ·rename_i hw; rw [if_neg hw] at fb; exact fb
theorem c0Y (hE:D9 E B) (hn:B.n=E.nt) {id:Nat} (hd:(wL ops && BR ops s && E.P.follows .mixedOrders)=true) {Q:Exit->Act->World->Prop} (hA:AZ E ops q) {s':St}
  (hr:vx E ops (λ i=>(E6 ops.toList []).getD i 0) [] ((List.range' 0 (ops.toList.length - 1)).filter (λ j=>!(j == q.k))) s s') {k:St->Tree (E.rs++F6 E.ps)} {L:Code->List Item->St->Prop} {R:DL (E.rs++F6 E.ps)->Prop}
  (hf:HT E ops (E6 ops.toList []) q s' k L R) (dx:look q.d s.fr=some .any)
  (hQ:∀ S ι s2 a w,RS B S ι s2 a w->(k s2).holds L R->Q .normal a w) (h:RS B S ι s a w):(Code.region id ops true).wp E.P Q a w:=by
 simp only [Bool.and_eq_true,BR,List.all_eq_true] at hd;obtain ⟨⟨h1,⟨h2,h3⟩,h4⟩,h5⟩:=hd;refine wp_region_any h5 ?_;obtain ⟨o2,p,s2,g1,g2,g3,g4⟩:=hf;obtain ⟨T2,ad,s3,f1,f2,f3,⟨f4,_⟩,f5,f6,_⟩:=Je g2;obtain ⟨gy,lh,_⟩:=Kk f4;have hlen:(idxs ops.size (Array.replicate ops.size false)).length=ops.size:=by
  rw [yz]; simp
 have aL:(idxs ops.size (Array.replicate ops.size false)).filter (λ j=>!(j == ops.size - 1) && !(j == q.k))=(List.range' 0 (ops.toList.length - 1)).filter (λ j=>!(j == q.k)):=by
  rw [yz,show List.range ops.size=List.range (ops.size - 1)++[ops.size - 1] from by rw [<- List.range_succ]; congr 1; omega,List.filter_append,List.filter_cons];simp only [beq_self_eq_true,Bool.not_true,Bool.false_and,Bool.false_eq_true,if_false,List.filter_nil,List.append_nil,Array.length_toList];rw [List.range_eq_range'];refine List.filter_congr (λ j hj=>?_);have:j≠ops.size - 1:=by have:=(List.mem_range'_1.1 hj).2; omega
  simp [this]
 refine b8f (n:=ops.size - 1) hE hn h1 (Cj h3) hA g1 g2 g3 (λ S ι a w hh=>hQ S ι _ a w hh g4) ops.size _ S ι s s' a w.drew (by simp) hlen ?_ ?_ ?_ (y6 h2) ?_ (by rw [aL]; exact hr) (M9.refl _) dx (h.Z5 G5.nil F9.drew)
 ·intro k o hk hl
  have:k<ops.size:=(Array.getElem?_eq_some_iff.1 hk).1;simp [this] at hl
 ·have:q.k<ops.size:=by omega
  simp [this]
 ·have:ops.size - 1<ops.size:=by omega
  simp [this]
 ·intro o ho d hd
  obtain ⟨j,hj,tc⟩:=List.mem_filterMap.1 ho;obtain ⟨pZ,jh⟩:=List.mem_filter.1 hj;have:=(G0.1 pZ).1;simp only [Bool.and_eq_true,Bool.not_eq_true',beq_eq_false_iff_ne,ne_eq] at jh;refine h4 d (List.mem_filterMap.2 ⟨o,List.mem_of_getElem? (i:=j) ?_,hd⟩);rw [List.getElem?_dropLast,if_pos (by simp; omega)];simpa using tc
end
end
end Go.Ex
namespace Go.Ex
section
variable {E:Env} {ops:Array Oper} {s t:St}
theorem Ra {o:Oper} {T:TypeId} {a x:Operand} (ho:o.op=.store T a x) (v:AV):K4 o v=v:=by
 rcases yw o with e|⟨_,x,j,cB,_⟩
 ·exact e v
 ·rw [ho] at cB; cases cB
end
section
variable {E:Env} {ops:Array Oper} {s t:St}
end
section
variable {E:Env} {ops:Array Oper} {M:Nat->Nat} {s t:St}
def Un (ops:Array Oper) (x:Oper) (sx:St) (Tx:List Nat) (y:Oper) (Ty:List Nat):Prop:=xf ops x sx Tx y Ty/\(Tx≠[]->∀ m∈looks ops y,m∉LR ops)
def Ge (E:Env) (ops:Array Oper) (x:Oper) (sx:St) (y:Oper) (sy:St):Prop:=Un ops x sx (l5 E x sx) y (l5 E y sy)\/(As x sx=true/\HM y sy=true)\/∃ j kd q,Gc y sy=some (j,kd,q)/\Bf x sx j kd q=true
theorem b71 {x:Oper} {sx sx':St} (h:As x sx=true) (h1:∀ m∈looks ops x,K4 x (sx'.get m)=K4 x (sx.get m)):As x sx'=true:=by
 have h0:=h;unfold As at h;split at h
 ·rename_i T a v hg ho
  have dm:∀ o,o=a\/o=v->sx'.ev o=sx.ev o:=by
   intro o pE;cases o with
   | tmp m =>
    have:=h1 m (xS (by rw [ho]; simp [Op.operands]; rcases pE with e|e<;>simp [<- e]));rw [Ra ho,Ra ho] at this;exact zt this
   | _=>rfl
  unfold As at h0 ⊢;rw [hg,ho] at h0 ⊢;simp only [dm a (.inl rfl),dm v (.inr rfl)];exact h0
 ·cases h
theorem YA {x:Oper} {sx sx':St} {j:Nat} {kd:Bool×Ty} {q:List Step} (h:Bf x sx j kd q=true) (h1:∀ m∈looks ops x,K4 x (sx'.get m)=K4 x (sx.get m)) (h2:∀ m∈looks ops x,∀ i,(K4 x (sx.get m)).j5 i=true->hpk sx' i=hpk sx i):Bf x sx' j kd q=true:=by
 have ed:∀ v,K4 x v=v:=by
  intro v;rcases yw x with e|⟨_,y,k,cB,_⟩
  ·exact e v
  ·unfold Bf at h; rw [cB] at h; split at h<;>first|(rename_i e9; cases e9; done)|(cases h; done)
 have dm:∀ o∈x.op.operands.toList,sx'.ev o=sx.ev o:=by
  intro o pE;cases o with
  | tmp m =>
   have:=h1 m (xS pE);rw [ed,ed] at this;exact zt this
  | _=>rfl
 unfold Bf at h ⊢;split at h
 ·rename_i a hg ho
  simp only [dm a (by rw [ho]; simp [Op.operands])];exact h
 ·rename_i T a n hg ho
  simp only [dm a (by rw [ho]; simp [Op.operands])];exact h
 ·rename_i T a hg ho
  simp only [dm a (by rw [ho]; simp [Op.operands])];split at h
  ·rename_i i p ha
   have:hpk sx' i=hpk sx i:=by
    cases a with
    | tmp m =>
     have hm:m∈looks ops x:=xS (by rw [ho]; simp [Op.operands]);have tn:sx.get m=.ptr i p:=Ct ha nofun
     exact h2 m hm i (by rw [ed,tn]; simp only [AV.j5]; exact Nat.beq_refl i)
    | const c=>exact absurd ha (by intro e9; have:=Lx c i; rw [show ofConst c=.ptr i p from e9] at this; simp only [AV.j5] at this; rw [Nat.beq_refl] at this; cases this)
    | global g=>cases ha
    | func f=>cases ha
   rw [this];exact h
  ·cases h
 ·cases h
theorem Ge.yc {x:Oper} {sx sx':St} {y:Oper} {sy sy':St} (h:Ge E ops x sx y sy) (h1:∀ m∈looks ops x,K4 x (sx'.get m)=K4 x (sx.get m)) (h2:l5 E x sx'=l5 E x sx) (h3:∀ (z:Oper) m,∀ k∈l5 E x sx,(K4 z (sx'.get m)).j5 k=true->(K4 z (sx.get m)).j5 k=true\/m∈LR ops)
  (h4:∀ m∈looks ops x,∀ i,(K4 x (sx.get m)).j5 i=true->hpk sx' i=hpk sx i) (hT:l5 E y sy'=l5 E y sy) (hA:HM y sy=true->HM y sy'=true) (hS:∀ r,Gc y sy=some r->Gc y sy'=some r):Ge E ops x sx' y sy':=by
 rcases h with ⟨⟨P1,P2,P3⟩,hn⟩|⟨k1,k2⟩|⟨j,kd,q,k1,k2⟩
 ·refine .inl ?_
  rw [hT,h2];refine ⟨⟨λ m hm i hi=>?_,λ m hm i hi=>by rw [h1 m hm]; exact P2 m hm i hi,P3⟩,hn⟩;cases hh:(K4 y (sx'.get m)).j5 i with
  | false=>rfl
  | true =>
   rcases h3 y m i hi hh with h9|h9
   ·rw [P1 m hm i hi] at h9; cases h9
   ·exact absurd h9 (hn (λ e=>by rw [e] at hi; cases hi) m hm)
 ·exact .inr (.inl ⟨b71 k1 h1,hA k2⟩)
 ·exact .inr (.inr ⟨j,kd,q,hS _ k1,YA k2 h1 h4⟩)
end
section
variable {E:Env} {ops:Array Oper} {B:F3} {S:Nat->Prop} {ι:Ix} {s:St} {a:Act} {w:World}
end
end Go.Ex
