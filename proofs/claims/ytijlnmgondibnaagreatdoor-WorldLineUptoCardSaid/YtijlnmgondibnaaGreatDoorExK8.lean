import Derived.Test.YtijlnmgondibnaaGreatDoorExK7
set_option linter.unusedVariables false
set_option linter.unusedSimpArgs false
set_option linter.unusedSectionVars false
namespace Go.Ex
section
variable {E:Env} {ops:Array Oper} {B:D8} {S:Nat->Prop} {ι:Ix} {s:St} {a:Act} {w:World}
theorem Df {s t:St} (he:L7 s t) (h:RS B S ι s a w):RS B S ι t a w:=by
 have dy:∀ {v:AV} {vs:List Value},VX w.heap S ι s.hp v vs->VX w.heap S ι t.hp v vs:=by
  intro v vs hv;exact VX.other (λ i _=>(he.2 i).symm) (λ i _=>E3.refl ι i) hv
 exact ⟨⟨h.hs.os,h.hs.tape,h.hs.out,h.hs.size,h.hs.frame,h.hs.slt,h.hs.s0,h.hs.s1,λ i e hi=>h.hs.ob i e ((he.2 i).trans hi),λ i e hi=>h.hs.bl i e ((he.2 i).trans hi),λ i j ei ej hi hj=>h.hs.dj i j ei ej ((he.2 i).trans hi) ((he.2 j).trans hj),λ q hq=>by obtain ⟨r1,⟨e,r2⟩,r3⟩:=h.hs.pin q hq; exact ⟨r1,⟨e,(he.2 q.1).symm.trans r2⟩,r3⟩⟩,h.dfr,h.sz,
  λ m v hv=>dy (h.fr m v ((he.1 m).trans hv))⟩
theorem RS.forget (h:RS B S ι s a w) (d:Nat):RS B S ι { s with fr:=Ex.put d .any s.fr } a w:=by
 refine ⟨h.hs,h.dfr,h.sz,λ t v hv=>?_⟩;rw [o5] at hv;split at hv
 ·cases hv; exact ⟨_,rfl⟩
 ·exact h.fr t v hv
theorem RS.J6:∀ {l:List Oper} {s:St},RS B S ι s a w->RS B S ι (Ex.J6 l s) a w
 | [],s,h=>h
 | o::l,s,h=>by
  unfold Ex.J6
  split
  ·split
   ·exact RS.J6 (h.forget _)
   ·exact RS.J6 h
  ·exact RS.J6 h
theorem EL {m:Nat}:∀ {l:List Oper} {s:St},look m (Ex.J6 l s).fr=look m s.fr\/look m (Ex.J6 l s).fr=some .any
 | [],s=>.inl rfl
 | o::l,s=>by
  unfold Ex.J6
  split
  ·split
   ·rename_i d _ _
    rcases EL (m:=m) (l:=l) (s:={ s with fr:=Ex.put d .any s.fr }) with h|h
    ·rw [o5] at h
     split at h
     ·exact .inr h
     ·exact .inl h
    ·exact .inr h
   ·exact EL
  ·exact EL
theorem EJ {o:Oper} {c:Call} {d:Nat} (cz:o.op=.call c) (hc:c.callee=.builtin .append) (hd:o.dst=some d):∀ {l:List Oper} {s:St},o∈l->look d (Ex.J6 l s).fr=some .any
 | [],_,h=>by cases h
 | x::l,s,h=>by
  unfold Ex.J6;rcases List.mem_cons.1 h with rfl|h
  ·rw [cz]
   simp only [hc,hd];rcases EL (m:=d) (l:=l) (s:={ s with fr:=Ex.put d .any s.fr }) with h|h
   ·rw [h,o5,if_pos rfl]
   ·exact h
  ·split
   ·split
    ·exact EJ cz hc hd h
    ·exact EJ cz hc hd h
   ·exact EJ cz hc hd h
theorem YT (hE:C6 E B) (h:RS B S ι s a w) {o:Oper} {T:TypeId} {x:Operand} (ho:o.op=.load T x) {v:AV} {s':St} (hl:X2 E T (s.ev x) s=.ok v s') :
  s'=s/\∃ val,(execOp a.eval o).run E.P w=.ok (.value val) w/\VX w.heap S ι s.hp v [val]:=by
 have he:execOp a.eval o=(do pure (.value (<- Instr.loadAt T (a.eval x)))):=by simp [execOp,ho]
 have hv:=h.ev x;unfold X2 at hl;split at hl
 ·rename_i t y hx
  rw [hx] at hv;obtain ⟨b,off,e,hb,hr,hR⟩:=hv;split at hl
  ·rename_i hc
   cases hl;have e:a.eval x=.pointer (some ⟨b,off,none⟩):=by simpa using e
   refine ⟨rfl,o8 t (e8 w.heap b off t.size),M9 he (w':=w) ?_,_,rfl,hR⟩;rw [e];simp [Instr.loadAt,Instr.sureAddr,BZ (C8 hE hc) hR]
  ·cases hl
 ·rename_i l hx
  rw [hx] at hv;split at hl
  ·rename_i ht
   cases hl;obtain ⟨val,k1,k2⟩:=Nn (hE:=hE) ht hv;exact ⟨rfl,val,M9 he k1,k2⟩
  ·cases hl
 ·rename_i i p hx
  rw [hx] at hv;obtain ⟨e,b,off,h1,h2,h3,h4⟩:=hv;have h4:a.eval x=.pointer (some ⟨b,off,none⟩):=by simpa using h4
  split at hl
  ·rename_i u y cS
   have hg:=H4 h1 cS;obtain ⟨O2,k1,k2,k3,k4,k5⟩:=M2 (J7 h3) (h.hs.ob i e h1) h.hs.slt h2 hg h3;split at hl
   ·rename_i hc
    have hr:(Instr.loadAt T (a.eval x)).run E.P w=.ok (o8 u (e8 w.heap b off u.size)) w:=by
     rw [h4]; simp [Instr.loadAt,Instr.sureAddr,BZ (C8 hE hc) k3]
    split at hl
    ·rename_i hs
     cases hl;have:=k3.M8 hs;subst this;exact ⟨rfl,_,M9 he hr,_,rfl,k3⟩
    ·cases hl
     have hp:=C2 h3;exact ⟨rfl,_,M9 he hr,e,u,y,_,h1,h2,hg,⟨b,off,hp.1,(l4 (F4 hp.2) _ _).symm⟩,rfl⟩
   ·cases hl
  ·cases hl
 ·cases hl
theorem Vq {k:IntKind} {m n:Int} (bx:r7 k m) (hn:0<n):r7 k (m.tmod n):=by
 have h0:k.min<=0:=by cases k<;>decide
 have h1:0<=k.max:=by cases k<;>decide
 unfold r7 at *
 by_cases hm:m<0
 ·have e:m.tmod n=-((-m) % n):=by rw [<- Int.neg_neg m,Int.neg_tmod,Int.tmod_eq_emod_of_nonneg (by omega)]; simp
  have:=Int.emod_nonneg (-m) (b:=n) (by omega);have:(-m) % n<=-m:=by
   have:=Int.emod_add_mul_ediv (-m) n;have:=Int.mul_nonneg (Int.le_of_lt hn) (Int.ediv_nonneg (a:=-m) (b:=n) (by omega) (by omega));omega
  omega
 ·rw [Int.tmod_eq_emod_of_nonneg (by omega)]
  have:=Int.emod_nonneg m (b:=n) (by omega);have:m % n<=m:=by
   have:=Int.emod_add_mul_ediv m n;have:=Int.mul_nonneg (Int.le_of_lt hn) (Int.ediv_nonneg (a:=m) (b:=n) (by omega) (by omega));omega
  omega
theorem NC {o:Oper} {T T':TypeId} {x y:Operand} (ho:o.op=.binOp .rem T x y T'):(∃ k m n,s.ev x=.val (.int k) m/\s.ev y=.val (.int k) n/\l7 E o s=.F0 (0<n) (.val (.int k) (Int.tmod m n)) s)\/∃ why,l7 E o s=.fail why:=by
 have e:l7 E o s=wh E T .rem (s.ev x) (s.ev y) s:=by unfold l7; rw [ho]
 rw [e];unfold wh
 split
 ·refine .inr ?_
  unfold zh
  split
  ·rename_i h; cases h
  ·rename_i h; cases h
  ·exact ⟨_,rfl⟩
 ·refine .inr ?_
  unfold eqA
  split
  ·split
   ·rename_i h; cases h
   ·rename_i h; cases h
   ·exact ⟨_,rfl⟩
  ·exact ⟨_,rfl⟩
 ·refine .inr ?_
  unfold eqA
  split
  ·split
   ·rename_i h; cases h
   ·rename_i h; cases h
   ·exact ⟨_,rfl⟩
  ·exact ⟨_,rfl⟩
 ·unfold xE
  split
  ·rename_i k m k' n e1 e2
   have hw:wW (Lz E) .rem k m k' n s=wV .rem k m k' n s:=by
    unfold wW
    split
    ·rename_i h; cases h
    ·rfl
   rw [hw];unfold wV;simp only
   split
   ·rename_i hk; subst hk
    exact .inl ⟨k,m,n,e1,e2,rfl⟩
   ·exact .inr ⟨_,rfl⟩
  ·refine .inr ?_
   split
   ·rename_i h; cases h
   ·rename_i h; cases h
   ·exact ⟨_,rfl⟩
  ·exact .inr ⟨_,rfl⟩
  ·exact .inr ⟨_,rfl⟩
theorem WV (h:RS B S ι s a w) {o:Oper} {T T':TypeId} {x y:Operand} (ho:o.op=.binOp .rem T x y T'):zC E.P S ι o a w s (l7 E o s):=by
 have hx:=h.ev x;have hy:=h.ev y;rcases NC (E:=E) (s:=s) ho with ⟨k,m,n,e1,e2,e3⟩|⟨why,e3⟩
 ·rw [e3]
  rw [e1] at hx; rw [e2] at hy;obtain ⟨hx,bx⟩:=VX.H5 hx;obtain ⟨hy,by_⟩:=VX.H5 hy;intro hn;refine ⟨rfl,.int k (m.tmod n),λ w'=>?_,VX.int (Vq bx hn)⟩;have hg:(eqGuard .rem T x y (a.eval x) (a.eval y)).run E.P w'=.ok () w':=by rw [hx,hy]; rfl
  rw [S5 ho hg (r:=.ok (.int k (m.tmod n)) w')]
  ·rfl
  ·rw [hx,hy]
   have bG:n≠0:=λ e=>by subst e; exact absurd hn (Int.lt_irrefl _)
   simp [binOp,Op.intDiv,bG]
 ·rw [e3]; trivial
theorem Yt (hE:C6 E B) (h:RS B S ι s a w) {o:Oper} (hq:quiet o=true) {p:Prop} {s1:St} (hr:G8 E ops o s=some (p,s1)) (hp:p) :
  o.guard=none/\G3 E.nt o.dst=true/\∃ v val,s1=s.put o.dst v/\(execOp a.eval o).run E.P w=.ok (.value val) w/\VX w.heap S ι s.hp v [val]:=by
 simp only [quiet,Bool.and_eq_true,Option.isNone_iff_eq_none] at hq;obtain ⟨hg,hq⟩:=hq;unfold G8 at hr;rw [hg] at hr;simp only at hr;unfold W3 at hr;split at hr
 ·cases hr
 ·rename_i hd
  refine ⟨hg,hd,?_⟩;have key:∀ (r:OR),(match r.get with|none=>none|some (p,v,s')=>some (p,s'.put o.dst v))=some (p,s1)->zC E.P S ι o a w s r->∃ v val,s1=s.put o.dst v/\(execOp a.eval o).run E.P w=.ok (.value val) w/\VX w.heap S ι s.hp v [val]:=by
   intro r hr qL;cases r with
   | fail why=>cases hr
   | ok v s' =>
    simp only [OR.get,Option.some.injEq,Prod.mk.injEq] at hr;obtain ⟨e1,val,k1,k2⟩:=qL;exact ⟨v,val,by rw [<- hr.2,e1],k1 w,k2⟩
   | F0 p' v s' =>
    simp only [OR.get,Option.some.injEq,Prod.mk.injEq] at hr;obtain ⟨e1,val,k1,k2⟩:=qL (by rw [hr.1]; exact hp);exact ⟨v,val,by rw [<- hr.2,e1],k1 w,k2⟩
  split at hq
  ·rename_i x ho
   rw [ho] at hr;simp only [l7,ho,OR.get,Option.some.injEq,Prod.mk.injEq] at hr;exact ⟨s.ev x,a.eval x,hr.2.symm,by simp [execOp,ho],h.ev x⟩
  ·rename_i T x ho
   rw [ho] at hr;simp only [l7,ho] at hr;cases hl:X2 E T (s.ev x) s with
   | fail y=>rw [hl] at hr; cases hr
   | ok v s' =>
    rw [hl] at hr;simp only [OR.get,Option.some.injEq,Prod.mk.injEq] at hr;obtain ⟨e1,val,k1,k2⟩:=YT hE h ho hl;exact ⟨v,val,by rw [<- hr.2,e1],k1,k2⟩
   | F0 p' v s' =>
    exfalso;unfold X2 at hl
    repeat' split at hl
    all_goals cases hl
  ·rename_i T x n ho
   have:=BB hE h (o:=o) (by rw [ho]; rfl);rw [ho] at hr;exact key _ hr this
  ·rename_i T x n ho
   have:=BB hE h (o:=o) (by rw [ho]; rfl);rw [ho] at hr;exact key _ hr this
  ·rename_i x ho
   have:=BB hE h (o:=o) (by rw [ho]; rfl);rw [ho] at hr;exact key _ hr this
  ·rename_i T x y T' ho
   have:=WV (E:=E) h ho;rw [ho] at hr;exact key _ hr this
  ·cases hq
theorem YZ {o:Oper} (hq:quiet o=true) {p:Prop} {s1:St} (hr:G8 E ops o s=some (p,s1)):∃ v,s1=s.put o.dst v:=by
 simp only [quiet,Bool.and_eq_true,Option.isNone_iff_eq_none] at hq;obtain ⟨hg,hq⟩:=hq;unfold G8 at hr;rw [hg] at hr;simp only at hr;unfold W3 at hr;split at hr
 ·cases hr
 ·rename_i hd
  have key:∀ (r:OR) (t:St),(∀ v s',r=.ok v s'->s'=s)->(∀ p v s',r=.F0 p v s'->s'=s)->(match r.get with|none=>none|some (p,v,s')=>some (p,s'.put o.dst v))=some (p,s1)->∃ v,s1=s.put o.dst v:=by
   intro r t h1 h2 hr;cases r with
   | fail why=>cases hr
   | ok v s' =>
    simp only [OR.get,Option.some.injEq,Prod.mk.injEq] at hr;exact ⟨v,by rw [<- hr.2,h1 v s' rfl]⟩
   | F0 p' v s' =>
    simp only [OR.get,Option.some.injEq,Prod.mk.injEq] at hr;exact ⟨v,by rw [<- hr.2,h2 p' v s' rfl]⟩
  split at hq
  ·rename_i x ho
   rw [ho] at hr;refine key _ s ?_ ?_ hr<;>(intros; simp_all [l7])
  ·rename_i T x ho
   rw [ho] at hr;refine key _ s ?_ ?_ hr
   ·intro v s' e
    simp only [l7,ho] at e;unfold X2 at e
    repeat' split at e
    all_goals (cases e; try rfl)
   ·intro q v s' e
    simp only [l7,ho] at e;unfold X2 at e
    repeat' split at e
    all_goals (cases e; try rfl)
  ·rename_i T x n ho
   rw [ho] at hr;refine key _ s ?_ ?_ hr
   ·intro v s' e
    simp only [l7,ho] at e
    repeat' split at e
    all_goals (cases e; try rfl)
   ·intro q v s' e
    simp only [l7,ho] at e
    repeat' split at e
    all_goals (cases e; try rfl)
  ·rename_i T x n ho
   rw [ho] at hr;refine key _ s ?_ ?_ hr
   ·intro v s' e
    simp only [l7,ho] at e
    repeat' split at e
    all_goals (cases e; try rfl)
   ·intro q v s' e
    simp only [l7,ho] at e
    repeat' split at e
    all_goals (cases e; try rfl)
  ·rename_i x ho
   rw [ho] at hr;refine key _ s ?_ ?_ hr
   ·intro v s' e
    simp only [l7,ho] at e
    repeat' split at e
    all_goals (cases e; try rfl)
   ·intro q v s' e
    simp only [l7,ho] at e
    repeat' split at e
    all_goals (cases e; try rfl)
  ·rename_i T x y T' ho
   have hb:=NC (E:=E) (s:=s) ho;rw [ho] at hr;refine key _ s ?_ ?_ hr
   ·intro v s' e
    rcases hb with ⟨k,m,n,-,-,e3⟩|⟨why,e3⟩
    ·rw [e3] at e; cases e
    ·rw [e3] at e; cases e
   ·intro q v s' e
    rcases hb with ⟨k,m,n,-,-,e3⟩|⟨why,e3⟩
    ·rw [e3] at e; cases e; rfl
    ·rw [e3] at e; cases e
  ·cases hq
theorem Nd {o:Oper} (hg:o.guard=none) {T:TypeId} {a x:Operand} (ho:o.op=.store T a x) {j:Nat} {q:List Step} {v:Ty} {z:v.den} (ha:s.ev a=.ptr j q) (hx:s.ev x=.val v z) {p:Prop} {s1:St} (h:G8 E ops o s=some (p,s1)) :
  ∃ (e:g8) (r:Sigma Ty.den) (u:Ty) (y:u.den),G3 E.nt o.dst=true/\look j s.hp=some e/\s6 e.ty e.x q (N9 u ⟨v,z⟩).1 (N9 u ⟨v,z⟩).2=some r/\(j8 e.ty e.x q=some ⟨u,y⟩/\I4 E T u=true)/\s1=((s.kill j e.kd q).w4 j (e.D6 r)).put o.dst (.raw undef):=by
 have hr:∀ t,G8 E ops o t=W3 E o t:=λ t=>by unfold G8; rw [hg]
 rw [hr] at h;have cz:∀ t,l7 E o t=(match t.ev a with|.ptr i p=>N8 E T i p (t.ev x) t|_=>.fail "store"):=λ t=>by unfold l7; rw [ho]; rfl
 have aP:∀ t,W3 E o t=(match G3 E.nt o.dst with|false=>none|true=>match (l7 E o t).get with|none=>none|some (p,v,s')=>some (p,s'.put o.dst v)):=λ t=>by unfold W3; rw [ho]; rfl
 rw [aP] at h;split at h
 ·cases h
 ·rename_i hd
  rw [cz,ha] at h;simp only at h;rw [hx] at h;cases aS:look j s.hp with
  | none =>
   have:N8 E T j q (.val v z) s=.fail "store: object":=by unfold N8 St.obj; rw [aS]
   rw [this] at h; cases h
  | some e =>
   cases dQ:j8 e.ty e.x q with
   | none =>
    have:N8 E T j q (.val v z) s=.fail "store: path":=by unfold N8 St.obj; rw [aS]; simp only [dQ]
    rw [this] at h; cases h
   | some uy =>
    obtain ⟨u,y⟩:=uy;cases hc:I4 E T u with
    | false =>
     have:N8 E T j q (.val v z) s=.fail "store: type":=by unfold N8 St.obj; rw [aS]; simp only [dQ,hc]
     rw [this] at h; cases h
    | true =>
     have rQ:N8 E T j q (.val v z) s=(match s6 e.ty e.x q (N9 u ⟨v,z⟩).1 (N9 u ⟨v,z⟩).2 with
       | some r=>.ok (.raw undef) ((s.kill j e.kd q).w4 j (e.D6 r))
       | none=>.fail "store: value"):=by
      unfold N8 St.obj; rw [aS]; simp only [dQ,hc,AV.vm,AV.uT,St.w6];cases s6 e.ty e.x q (N9 u ⟨v,z⟩).1 (N9 u ⟨v,z⟩).2 with
      | none=>rfl
      | some r=>rfl
     rw [rQ] at h;cases aG:s6 e.ty e.x q (N9 u ⟨v,z⟩).1 (N9 u ⟨v,z⟩).2 with
     | none=>rw [aG] at h; cases h
     | some r =>
      rw [aG] at h;simp only [OR.get,Option.some.injEq,Prod.mk.injEq] at h;obtain ⟨rfl,rfl⟩:=h;exact ⟨e,r,u,y,hd,rfl,aG,⟨dQ,hc⟩,rfl⟩
theorem WI (hE:C6 E B) (hn:B.n=E.nt) (h:RS B S ι s a w) {o:Oper} (hg:o.guard=none) {T:TypeId} {ad x:Operand} (ho:o.op=.store T ad x) {j:Nat} {q:List Step} {v:Ty} {z:v.den} (ha:s.ev ad=.ptr j q) (hx:s.ev x=.val v z) {p:Prop} {s1:St} (hr:G8 E ops o s=some (p,s1)) :
  ∃ ι' w',(execOp a.eval o).run E.P w=.ok .skip w'/\RS B S ι' s1 (a.put o.dst undef) w'/\∀ {g:List Nat} {i:Nat} {e:g8} {p0:List Step} {t0:Ty} {l m:List t0.den} {b off:Nat} {v':Value},i≠j->j∉g->look i s.hp=some e->w8 e.ty e.x p0->j8 e.ty e.x p0=some ⟨.d0 true t0,l⟩->yn B S ι s.hp g i e p0 t0 l m b off v' w->yn B S ι' s1.hp g i e p0 t0 l m b off v' w':=by
 obtain ⟨ej,r,u,y,hd,aS,aG,⟨dQ,bD⟩,rfl⟩:=Nd hg ho ha hx hr;have gF:=h.ev ad;rw [ha] at gF;obtain ⟨e',b0,off0,c1,aL,hl,c4⟩:=gF;rw [aS] at c1; cases c1;have c4:a.eval ad=.pointer (some ⟨b0,off0,none⟩):=by simpa using c4
 have dD:=h.ev x;rw [hx] at dD;obtain ⟨cs,eY,hz⟩:=dD;have eY:a.eval x=o8 v cs:=by simpa using eY
 obtain ⟨hz,ng⟩:=OM (u:=u) (q:=⟨v,z⟩) hz;rw [<- Bl ng] at eY;generalize (N9 u ⟨v,z⟩)=fz at aG hz ng eY;obtain ⟨v,z⟩:=fz;dsimp only at aG hz eY;have cI:=J7 hl;obtain ⟨Op,m1,mn,m2,m3,m4,m5⟩:=M2 cI (h.hs.ob j ej aS) h.hs.slt aL dQ hl;have cj:=BU dQ aG;have gV:¬ S b0:=(h.hs.bl j ej aS b0 m4).1;have cF:cs.length=u.size:=by rw [hz.length,F1 cj]
 obtain ⟨ι',⟨O,rfl,hO⟩,h1⟩:=h.Dh aS aL dQ hl (u':=v) (z:=z) (cs:=cs) (O2:=[]) (λ H' aX hc=>hz.s8 (λ c dF=>hc.rest c (by
   rintro rfl;rcases dF with dF|dF
   ·cases dF
   ·exact gV dF) (by
   rcases dF with dF|dF
   ·cases dF
   ·exact h.hs.slt c dF)) (λ _ h=>h)) cF List.nodup_nil (by simp) aG (λ bA _=>Pp aG (Nw hl bA))
 have aP:(execOp a.eval o).run E.P w=.ok .skip (w.setRow b0 (over (u7 w.heap b0) off0 cs).toArray):=by
  simp [execOp,ho,c4,eY,Instr.storeAt,Instr.sureAddr,KW (C8 hE bD) cj m5 hz]
 refine ⟨_,_,aP,h1.put (by rw [hn]; exact hd) (v:=.raw undef) (val:=undef) rfl,?_⟩;rintro g i e p0 t0 l m b off v' bS fT hi mm dE ⟨O',k1,k2,k3,k4,k5⟩;have hold:∀ c,c≠b0->(w.setRow b0 (over (u7 w.heap b0) off0 cs).toArray).heap[c]?=w.heap[c]?:=λ c hc=>setRow_other hc;have bj:E3 ι (ι.C3 j O) i:=V7 bS O;have mA:=J7 k1;have bQ:b0∉O':=λ hc=>(k5 b0 hc).2.1 j ej (Ne.symm bS) fT aS m4;refine ⟨O',?_,k2.s8 (λ c hc=>hold c (by
   rintro rfl;rcases hc with hc|hc
   ·exact bQ hc
   ·exact gV hc)) (λ _ h=>h),k3,k4,λ c hc=>⟨?_,λ k ek hk qS dm=>?_,λ kg=>?_⟩⟩
 ·rw [bj.loc]
  exact Ew mA (h.hs.ob i e hi) h.hs.slt (λ c hc=>hold c (by rintro rfl; exact h.hs.dj i j e ej hi aS bS c hc m4)) mm k1
 ·obtain ⟨f1,f2,f3⟩:=(k5 c hc).1
  exact ⟨f1,f2,by rw [setRow_size]; exact f3⟩
 ·rw [wA] at dm
  simp only [St.w4,o5] at dm;by_cases mK:k=j
  ·subst mK
   rw [if_pos rfl] at dm; cases dm;intro cA;refine (k5 c hc).2.1 k ej hk qS aS ?_;cases ej with
   | var t1 x1 =>
    simp only [l5,g8.D6,Ix.C3,if_true,List.mem_cons] at cA ⊢;rcases cA with cA|cA
    ·exact .inl cA
    ·rcases (hO c cA).1 with h9|h9
     ·exact .inr h9
     ·cases h9
   | own t1 x1 =>
    simp only [l5,g8.D6,Ix.C3,if_true] at cA ⊢;rcases (hO c cA).1 with h9|h9
    ·exact h9
    ·cases h9
   | K1=>exact absurd rfl cI
  ·rw [if_neg mK] at dm
   rw [(V7 mK O).l5];exact (k5 c hc).2.1 k ek hk qS dm
 ·rw [bj.l5] at kg
  obtain ⟨Op',o1,o2⟩:=(k5 c hc).2.2 kg;obtain ⟨O3,n1,_,n3,_,n5,_⟩:=M2 mA (h.hs.ob i e hi) h.hs.slt mm dE k1;have ki:b0≠b:=by
   rintro rfl;exact h.hs.dj i j e ej hi aS bS b0 n5 m4
  have oe:O3=Op':=n3.det o1;have qm:∀ c'∈Op',c'≠b0:=by
   rintro c' dF rfl;rw [<- oe] at dF;exact h.hs.dj i j e ej hi aS bS c' (H8 (n1 c' dF)) m4
  refine ⟨Op',?_,o2⟩;rw [l4 (hold b ki.symm)];exact o1.s8 (λ c' dF=>hold c' (by
   rintro rfl;rcases dF with dF|dF
   ·exact qm _ dF rfl
   ·exact gV dF)) (λ _ h=>h)
theorem zR {T:List Nat} {f:AV->AV} (hf:Trim T f) {u v:AV} (h:f u=v) (hv:v.ref=true\/(v.plain=true/\v≠.any)):u=v:=by
 cases u with
 | cons a b=>rw [hf.cons] at h; subst h; rcases hv with hv|⟨hv,_⟩<;>cases hv
 | K0 l=>rw [hf.K0] at h; subst h; rcases hv with hv|⟨hv,_⟩<;>cases hv
 | C1 g l=>rw [hf.C1] at h; subst h; rcases hv with hv|⟨hv,_⟩<;>cases hv
 | bx l=>rw [hf.bx] at h; subst h; rcases hv with hv|⟨hv,_⟩<;>cases hv
 | rc g l=>rw [hf.rc] at h; subst h; rcases hv with hv|⟨hv,_⟩<;>cases hv
 | ptr i p=>rcases hf.atom _ (rfl:(AV.ptr i p).ref=true) with e|e<;>rw [e] at h<;>first|exact h|(subst h; rcases hv with hv|⟨_,hv⟩<;>first|cases hv|exact absurd rfl hv)
 | at_ i p=>rcases hf.atom _ (rfl:(AV.at_ i p).ref=true) with e|e<;>rw [e] at h<;>first|exact h|(subst h; rcases hv with hv|⟨_,hv⟩<;>first|cases hv|exact absurd rfl hv)
 | sub i p x y=>rcases hf.atom _ (rfl:(AV.sub i p x y).ref=true) with e|e<;>rw [e] at h<;>first|exact h|(subst h; rcases hv with hv|⟨_,hv⟩<;>first|cases hv|exact absurd rfl hv)
 | _=>rw [hf.plain _ rfl] at h; exact h
theorem Zm {u:Ty} {v:AV} {r:Sigma λ t:Ty=>List t.den} {g:List Nat} (h:v.uY s u=some (r,g)):v.ref=true\/(v.plain=true/\v≠.any):=by
 cases v with
 | ptr i p=>exact .inl rfl
 | at_ i p=>exact .inl rfl
 | sub i p x y=>exact .inl rfl
 | raw v=>exact .inr ⟨rfl,by intro h; cases h⟩
 | val t x=>exact .inr ⟨rfl,by intro h; cases h⟩
 | K2 t x=>exact .inr ⟨rfl,by intro h; cases h⟩
 | nil=>exact .inr ⟨rfl,by intro h; cases h⟩
 | _=>exfalso; simp [AV.uY,AV.els] at h
theorem QI {M:List Nat} {q:vz} {n:Nat} (h:Dc ops M q n s=true) {j:Nat} (hj:j<n) (fx:j≠q.k) {o:Oper} (ho:ops[j]?=some o):(M.getD q.k 0).testBit j=true\/quiet o=true\/yC ops q n j o s=true:=by
 simp only [Dc,List.all_eq_true,List.mem_range] at h;have:=h j hj;simp only [Bool.or_eq_true,ho] at this;rcases this with h|(h|h)|h
 ·exact absurd (Nat.eq_of_beq_eq_true h) fx
 ·exact .inl h
 ·exact .inr (.inl h)
 ·exact .inr (.inr h)
theorem Sm {q:vz} {n j:Nat} {o:Oper} (h:yC ops q n j o s=true):o.guard=none/\o.dst=none/\∃ T ad x j0 q0 v z,o.op=.store T ad x/\s.ev ad=.ptr j0 q0/\s.ev x=.val v z/\(s.ev q.x).i7 j0=false/\(s.ev q.y).i7 j0=false/\∀ j',j<j'->j'<n->∀ o',ops[j']?=some o'->∀ d,o'.dst=some d->d∉looks ops o:=by
 unfold yC at h;split at h
 ·rename_i T ad x ho
  simp only [Bool.and_eq_true] at h;obtain ⟨⟨⟨h1,hg⟩,hd⟩,h2⟩:=h;split at h1
  ·rename_i j0 q0 v z ha hx
   simp only [Bool.and_eq_true,Bool.not_eq_true'] at h1;refine ⟨by simpa using hg,by simpa using hd,T,ad,x,j0,q0,v,z,ho,ha,hx,h1.1,h1.2,λ j' hj ib o' eT d hd hm=>?_⟩;simp only [List.all_eq_true,List.mem_range] at h2;have:=h2 j' ib;rw [Bool.or_eq_true] at this;rcases this with h9|h9
   ·have:=Nat.le_of_ble_eq_true h9; omega
   ·rw [eT] at h9
    simp [zp,hd,hm] at h9
  ·cases h1
 ·cases h
theorem Trim.yt {T T':List Nat} {f g:AV->AV} (hf:Trim T f) (hg:Trim T' g):Trim (T++T') (λ u=>g (f u)):=by
 refine ⟨λ a b=>by rw [hf.cons,hg.cons],λ l=>by rw [hf.K0,hg.K0],λ k l=>by rw [hf.C1,hg.C1],λ l=>by rw [hf.bx,hg.bx],λ k l=>by rw [hf.rc,hg.rc],λ u hu=>?_,λ u hu h=>?_,λ u hu=>by rw [hf.plain u hu,hg.plain u hu]⟩
 ·rcases hf.atom u hu with e|e
  ·rw [e]; exact hg.atom u hu
  ·rw [e]; exact .inr (hg.plain _ rfl)
 ·rw [hf.wZ u hu (λ i hi=>h i (List.mem_append_left _ hi)),hg.wZ u hu (λ i hi=>h i (List.mem_append_right _ hi))]
theorem Ia {J:List Nat} {F:AV->AV} (hF:Trim J F) {s t:St} {z:Operand} (h:∀ m,z=.tmp m->look m t.fr=(look m s.fr).map F):t.ev z=F (s.ev z):=by
 cases z with
 | tmp m =>
  have hg:t.get m=F (s.get m):=by
   simp only [St.get,h m rfl];cases look m s.fr with
   | none=>exact (hF.plain _ rfl).symm
   | some v=>rfl
  rw [zv,zv];unfold gq;cases Nat.beq m I3 with
  | true=>exact (hF.plain _ rfl).symm
  | false=>exact hg
 | const c=>exact (hF.fix _ (λ i _=>KZ c i)).symm
 | global g=>exact (hF.plain _ rfl).symm
 | func f=>exact (hF.fix _ (λ i _=>rfl)).symm
theorem Ei {M:Nat->Nat} {q:vz} {n:Nat} {sF:St}:∀ {l:List Nat} {acc:List (Nat×St)} {s s':St},Z9 E ops M acc l s s'->L7 s' sF->uniq s.fr->l.Pairwise (·<·)->(∀ j∈l,j<n)->(∀ j∈l,∀ o,ops[j]?=some o->quiet o=true\/yC ops q n j o sF=true) ->
  ∃ (J:List Nat) (f:AV->AV),Trim J f/\(∀ j∈J,(sF.ev q.x).i7 j=false/\(sF.ev q.y).i7 j=false)/\(∀ i,i∉J->look i s'.hp=look i s.hp)/\∀ m,(∀ j∈l,∀ o,ops[j]?=some o->o.dst≠some m)->look m s'.fr=(look m s.fr).map f
 | [],acc,s,s',h,_,_,_,_,_=>by
  obtain rfl:s=s':=h;exact ⟨[],λ u=>u,Trim.id _,by simp,λ _ _=>rfl,λ m _=>by simp⟩
 | j::l,acc,s,s',⟨o,ho,_,p,s1,h1,_,h2⟩,de,hu,rU,bf,hq=>by
  obtain ⟨oQ,oP⟩:=List.pairwise_cons.1 rU;obtain ⟨J,f,k1,k2,k3,k4⟩:=Ei h2 de (O7 hu h1) oP (λ j' ib=>bf j' (by simp [ib])) (λ j' ib=>hq j' (by simp [ib]));rcases hq j (by simp) o ho with oO|pn
  ·obtain ⟨v,rfl⟩:=YZ oO h1
   refine ⟨J,f,k1,k2,λ i hi=>(k3 i hi).trans (by rw [wA]),λ m hm=>?_⟩;rw [k4 m (λ j' ib=>hm j' (by simp [ib])),V9,if_neg (hm j (by simp) o ho)]
  ·obtain ⟨hg,nT,T,ad,x,j0,q0,v,z,g1,g2,g3,g4,g5,g6⟩:=Sm pn
   obtain ⟨v0,ids,f0,h0,z1,z2,z3,z4,z5⟩:=yS (ops:=ops) hu h1;obtain ⟨s1',y1,_,y2⟩:=z5 s hu ((L7.refl s).xW _ _) z2;rw [h1] at y1; cases y1;have iq:∀ y,y∈o.op.operands.toList->sF.ev y=f (f0 (s.ev y)):=by
    intro y hy;refine Ia (z1.yt k1) (λ m hm=>?_);subst hm;have hY:=xt (ops:=ops) hy;rw [<- de.1 m,k4 m (λ j' ib o' eT ec=>g6 j' (oQ j' ib) (bf j' (by simp [ib])) o' eT m ec hY),y2.fr,if_neg (by rw [nT]; intro h; cases h)];cases look m s.fr<;>rfl
   have ha:s.ev ad=.ptr j0 q0:=zR (z1.yt k1) ((iq ad (by rw [g1]; simp [Op.operands])).symm.trans g2) (.inl rfl);have hx:s.ev x=.val v z:=zR (z1.yt k1) ((iq x (by rw [g1]; simp [Op.operands])).symm.trans g3) (.inr ⟨rfl,by intro h; cases h⟩);obtain ⟨e,r,_,_,_,_,_,_,rfl⟩:=Nd hg g1 ha hx h1;refine ⟨[j0]++J,λ u=>f (AV.kill j0 e.kd q0 u),(Trim.kill j0 e.kd q0).yt k1,λ i hi=>?_,λ i hi=>?_,λ m hm=>?_⟩
   ·rcases List.mem_append.1 hi with hi|hi
    ·rw [List.mem_singleton] at hi; subst hi; exact ⟨g4,g5⟩
    ·exact k2 i hi
   ·rw [k3 i (λ h=>hi (List.mem_append_right _ h)),wA]
    simp only [St.w4,o5];rw [if_neg (λ h=>hi (List.mem_append_left _ (by simp [h])))];rfl
   ·rw [k4 m (λ j' ib=>hm j' (by simp [ib])),V9,if_neg (hm j (by simp) o ho)]
    have e1:look m ((s.kill j0 e.kd q0).w4 j0 (e.D6 r)).fr=(look m s.fr).map (AV.kill j0 e.kd q0):=N4 m _ _;rw [e1];cases look m s.fr<;>rfl
theorem JZ {M:List Nat} {k n:Nat} (h:De ops M k n=true):n+1=ops.size/\k<n/\∃ ok,ops[k]?=some ok/\∀ j,j<n->(M.getD n 0).testBit j=true/\(j≠k->∃ o,ops[j]?=some o/\(∀ d,ok.dst=some d->o.dst≠some d) /\
  ((M.getD k 0).testBit j=true\/((quiet o=true\/Lh o=true)/\∀ d,o.dst=some d->d∉looks ops ok))):=by
 simp only [De,Bool.and_eq_true] at h;obtain ⟨⟨h1,h2⟩,h3⟩:=h;have hn:=Nat.eq_of_beq_eq_true h1;refine ⟨hn,by simpa [Nat.blt_eq] using h2,?_⟩;split at h3
 ·rename_i ok aL
  refine ⟨ok,aL,λ j hj=>?_⟩;simp only [List.all_eq_true,List.mem_range] at h3;have:=h3 j hj;simp only [Bool.and_eq_true,Bool.or_eq_true] at this;obtain ⟨m1,m2⟩:=this;refine ⟨m1,λ fx=>?_⟩;rcases m2 with m2|m2
  ·exact absurd (Nat.eq_of_beq_eq_true m2) fx
  ·split at m2
   ·rename_i o ho
    simp only [Bool.and_eq_true,Bool.or_eq_true] at m2;refine ⟨o,ho,λ d hd gT=>?_,m2.2.imp id (λ h=>⟨h.1,λ d hd iH=>?_⟩)⟩
    ·have:=m2.1
     simp only [zp,gT,hd,Option.toList] at this;simp at this
    ·have:=h.2
     simp only [zp,hd] at this;simp [iH] at this
   ·cases m2
 ·cases h3
theorem Ik {M:List Nat} {q:vz} {n:Nat} {o:Oper} {s:St} {p:Prop} {s2:St} (h:zf E ops M q n o s=some (p,s2)):∃ T2 ad s3,o.guard=none/\o.op=.store T2 ad (.tmp q.d)/\(∀ t,ad=.tmp t->t≠q.d)/\(De ops M q.k n=true/\Dc ops M q n s=true)/\G3 E.nt o.dst=true /\
  xC E q.T q.U T2 (s.ev q.x) (s.ev q.y) (s.ev ad) q.d s=some (p,s3)/\s2=s3.put o.dst (.raw undef):=by
 unfold zf at h;split at h
 ·rename_i T2 ad d' hg cz
  split at h
  ·rename_i hc
   simp only [Bool.and_eq_true] at hc;obtain ⟨⟨⟨⟨c1,c2⟩,c3⟩,c5⟩,c4⟩:=hc;obtain rfl:=Nat.eq_of_beq_eq_true c1;split at h
   ·rename_i p' s3 hs
    cases h;exact ⟨T2,ad,s3,hg,cz,λ t e=>by subst e; rintro rfl; simp at c2,⟨c3,c5⟩,c4,hs,rfl⟩
   ·cases h
  ·cases h
 ·cases h
theorem IY (hE:C6 E B) {x y adv:AV} {T U T2:TypeId} {d:Nat} {p:Prop} {s2:St} (hb:xC E T U T2 x y adv d s=some (p,s2)) (hp:p) :
  ∃ i p0 e t0 l m g r q bts,x=.at_ i p0/\adv=.ptr i p0/\look i s.hp=some e/\i∉g/\g.Nodup/\(g.all λ i=>!pinned i)=true/\j8 e.ty e.x p0=some ⟨.d0 true t0,l⟩/\I4 E T2 (.d0 true t0)=true /\
   s6 e.ty e.x p0 (.d0 true t0) (l++m)=some r/\s2=(((St.w6 g (s.put (some d) .any)).kill i e.kd p0).w4 i (e.D6 r))/\look T E.tt=some ⟨.d0 q t0,bts⟩ /\
   ((∃ e',E.P.underlying U=some (.slice e'))\/E.P.underlying U=some .string)/\y.uY s t0=some (⟨t0,m⟩,g)/\l.length+m.length<=140737488355328/\(l.length+m.length)*t0.wb<=140737488355328 /\
   ((∃ t x,e=.var t x)\/∃ t x j q,e=.own (.d0 true t) x/\p0=.idx j::q):=by
 unfold xC at hb;split at hb
 ·rename_i i p0 j q q1 t0 bts u1 bts1 hT hU
  split at hb
  ·rename_i e aS jt
   simp only [Bool.and_eq_true] at jt;obtain ⟨bS,jt⟩:=jt;have bS:=Nat.eq_of_beq_eq_true bS;subst bS;split at hb
   ·rename_i u l hg
    split at hb
    ·rename_i t m g cu
     split at hb
     ·rename_i hu
      split at hb
      ·rename_i ht
       subst hu; subst ht;split at hb
       ·rename_i r aG
        split at hb
        ·rename_i bD
         cases hb;simp only [Bool.and_eq_true,Bool.not_eq_true'] at bD;obtain ⟨⟨⟨⟨bD,bK⟩,eo⟩,ic⟩,dQ⟩:=bD;obtain ⟨rfl,iN,gO⟩:=hp;have eo:i∉g:=by intro hm; simp [hm] at eo
         have hk:(∃ e',E.P.underlying U=some (.slice e'))\/E.P.underlying U=some .string:=by
          cases u1<;>first|cases jt|skip
          ·exact .inr (W2 (p7 hE hU))
          ·obtain ⟨et,k',f1,_⟩:=F5 (p7 hE hU)
           exact .inl ⟨et,f1⟩
         exact ⟨i,q,e,_,l,m,g,r,_,_,rfl,rfl,aS,eo,BY ic,dQ,hg,bD,aG,rfl,hT,hk,cu,iN,gO,(BO bK).2⟩
        ·cases hb
       ·cases hb
      ·cases hb
     ·cases hb
    ·cases hb
   ·cases hb
  ·cases hb
 ·cases hb
theorem N1.cut:∀ {A C:List Oper} {o:Oper},N1 (A++o::C)->N1 (A++C)/\∀ x∈A++C,∀ d,x.dst=some d->o.dst≠some d
 | [],C,o,h=>⟨h.2,λ x hx d fZ gT=>h.1 d gT x hx fZ⟩
 | y::A,C,o,h=>by
  obtain ⟨m1,m2⟩:=N1.cut h.2;refine ⟨⟨λ d hd x hx=>h.1 d hd x (by simp at hx ⊢; rcases hx with hx|hx<;>simp [hx]),m1⟩,λ x hx d fZ gT=>?_⟩;rcases List.mem_cons.1 hx with rfl|hx
  ·exact h.1 d fZ o (by simp) gT
  ·exact m2 x hx d fZ gT
theorem N1.sub {f:Nat->Bool}:∀ {l:List Nat},N1 (rem ops l)->N1 (rem ops (l.filter f))
 | [],h=>h
 | i::l,h=>by
  cases ho:ops[i]? with
  | none =>
   have e:rem ops (i::l)=rem ops l:=by simp [rem,ho]
   rw [e] at h;have:=N1.sub (f:=f) h;rw [List.filter_cons]
   split
   ·have e:rem ops (i::l.filter f)=rem ops (l.filter f):=by simp [rem,ho]
    rw [e]; exact this
   ·exact this
  | some o =>
   rw [DS ho] at h;rw [List.filter_cons]
   split
   ·rw [DS ho]
    refine ⟨λ d hd x hx=>h.1 d hd x ?_,N1.sub h.2⟩;obtain ⟨j,hj,sG⟩:=List.mem_filterMap.1 hx;exact List.mem_filterMap.2 ⟨j,(List.mem_filter.1 hj).1,sG⟩
   ·exact N1.sub h.2
theorem SI {n i:Nat} {listed:Array Bool} {f:Nat->Bool} (hs:listed.size=n) (hi:i∈idxs n listed) (hf:f i=true):∃ pre post,(idxs n listed).filter f=pre++i::post/\(∀ j∈pre,j<i) /\
  (idxs n (listed.setIfInBounds i true)).filter f=pre++post:=by
 obtain ⟨pre,post,e,h1,h2⟩:=JN hi;refine ⟨pre.filter f,post.filter f,by rw [e,List.filter_append,List.filter_cons,if_pos hf],λ j hj=>h1 j (List.mem_filter.1 hj).1,?_⟩;rw [BJ hs (E5.1 hi).1,h2,List.filter_append]
theorem YM {n i:Nat} {listed:Array Bool} {f g:Nat->Bool} (hs:listed.size=n) (hi:i<n) (hg:∀ j,g j=(f j && !(j == i))):(idxs n (listed.setIfInBounds i true)).filter f=(idxs n listed).filter g:=by
 rw [BJ hs hi,List.filter_filter];exact List.filter_congr (λ j _=>(hg j).symm)
theorem BI {n i fuel:Nat} {listed:Array Bool} (hs:listed.size=n) (hi:i∈idxs n listed) (hl:(idxs n listed).length=fuel+1):(idxs n (listed.setIfInBounds i true)).length=fuel:=by
 obtain ⟨pre,post,e,h1,h2⟩:=JN hi;rw [BJ hs (E5.1 hi).1,h2];rw [e] at hl;simp at hl ⊢; omega
section
variable {q:vz} {n:Nat} {s1:St}
theorem yD.set {listed:Array Bool} (cJ:yD ops listed) {i:Nat} {o:Oper} (ho:ops[i]?=some o) (aV:∀ e∈o.after,Region.binds .any e=true->listed.getD e.on false=true):yD ops (listed.setIfInBounds i true):=by
 intro k y hy hk e' eC cU;by_cases gz:k=i
 ·subst gz
  rw [ho] at hy; cases hy;exact getD_set_true (aV e' eC cU)
 ·rw [getD_set_ne true (Ne.symm gz)] at hk
  exact getD_set_true (cJ k y hy hk e' eC cU)
theorem a9r {listed:Array Bool} {i:Nat} (hi:i<listed.size):(listed.setIfInBounds i true).getD i false=true:=by simp [hi]
theorem Rv (hd:wm ops=true) {listed:Array Bool} (aX:listed.size=ops.size) (bG:idxs ops.size listed≠[]):Region.ready .any ops listed≠[]:=by
 have hM:=Ed hd;intro hr;cases kQ:idxs ops.size listed with
 | nil=>exact bG kQ
 | cons i l =>
  have bn:i∈idxs ops.size listed:=by rw [kQ]; simp
  obtain ⟨h1,h2⟩:=E5.1 bn;have ho:ops[i]?=some ops[i]:=Array.getElem?_eq_getElem h1;have:i∈Region.ready .any ops listed:=by
   refine mem_ready.2 ⟨h2,ops[i],ho,λ e he hb=>?_⟩;have bf:=(hM i _ ho).1 e he hb;cases hle:listed.getD e.on true with
   | true =>
    have:e.on<listed.size:=by omega
    simp [this] at hle ⊢; exact hle
   | false =>
    exfalso;have jS:e.on∈idxs ops.size listed:=E5.2 ⟨by omega,hle⟩;have hs:=BW ops.size listed;rw [kQ] at hs jS;rcases List.mem_cons.1 jS with e1|e1
    ·omega
    ·have:=(List.pairwise_cons.1 hs).1 _ e1; omega
  rw [hr] at this;cases this
theorem ZW (hE:C6 E B) (hn:B.n=E.nt) (hd:wm ops=true) {Q:Exit->Act->World->Prop} (fe:N1 ops.toList) (hA:Ar E ops q) {o2:Oper} (iA:ops[n]?=some o2) {p:Prop} {s2:St} (eM:zf E ops (D4 ops.toList []) q n o2 s1=some (p,s2)) (hp:p)
  (hQ:∀ S ι a w,RS B S ι s2 a w->Q .normal a w) {i:Nat} {e:g8} {p0:List Step} {t0:Ty} {l m:List t0.den} {g:List Nat} (hx:s1.ev q.x=.at_ i p0) (he:look i s1.hp=some e) (aL:w8 e.ty e.x p0) (hg:j8 e.ty e.x p0=some ⟨.d0 true t0,l⟩)
  (cu:(s1.ev q.y).uY s1 t0=some (⟨t0,m⟩,g)) {v':Value} :
  ∀ (fuel:Nat) (listed:Array Bool) (S:Nat->Prop) (ι:Ix) (s s':St) (a:Act) (w:World),listed.size=ops.size->(idxs ops.size listed).length=fuel->yD ops listed->listed.getD q.k false=true->listed.getD n true=false->uniq s.fr->M6 s (rem ops ((idxs ops.size listed).filter (λ j=>!(j == n)))) ->
   Z9 E ops (λ i=>(D4 ops.toList []).getD i 0) [] ((idxs ops.size listed).filter (λ j=>!(j == n))) s s'->L7 s' s1->RS B S ι s a w->a.eval (.tmp q.d)=v'->(∀ b off,Loc w.heap ι i e p0=some (b,off)->yn B S ι s.hp g i e p0 t0 l m b off v' w) ->
   wpAny E.P .any ops Q fuel listed a w:=by
 have hM:=Ed hd;obtain ⟨T2,ad,s3,f1,f2,f3,⟨f4,f4'⟩,f5,f6,rfl⟩:=Ik eM;obtain ⟨ga,nP,ok,iz,fw⟩:=JZ f4;obtain ⟨oa,c,a1,a2,a3,a4,a5,a6,a7,a8⟩:=hA;have e9:oa=ok:=by rw [a1] at iz; cases iz; rfl
 subst e9;have my:∀ j o,j<n->j≠q.k->ops[j]?=some o->o.dst≠some q.d:=by
  intro j o hj fx ho;obtain ⟨o',h1,h2,_⟩:=(fw j hj).2 fx;rw [ho] at h1; cases h1;exact h2 q.d a3
 intro fuel
 induction fuel with
 | zero =>
  intro listed S ι s s' a w aX hlen cJ dm gi hu fA aP de cr hv nL;exfalso;have fO:idxs ops.size listed=[]:=List.length_eq_zero_iff.1 hlen;have:n∈idxs ops.size listed:=E5.2 ⟨by omega,gi⟩;rw [fO] at this; cases this
 | succ fuel ih =>
  intro listed S ι s s' a w aX hlen cJ dm gi hu fA aP de cr hv nL;refine ⟨λ hr=>absurd hr (Rv hd aX (by intro h; rw [h] at hlen; cases hlen)),λ i' hi=>?_⟩;obtain ⟨h1,o,ho,aV⟩:=mem_ready.1 hi;have dv:i'<ops.size:=(Array.getElem?_eq_some_iff.1 ho).1;have bn:i'∈idxs ops.size listed:=E5.2 ⟨dv,h1⟩;have gY:∀ j,j<ops.size->((D4 ops.toList []).getD i' 0).testBit j=true->listed.getD j false=true:=Ey (M:=λ i=>(D4 ops.toList []).getD i 0) (λ i o ho=>⟨(hM i o ho).1,(hM i o ho).2.1⟩) cJ i' o ho aV;by_cases fj:i'=n
  ·
   subst fj;rw [iA] at ho; cases ho;have bH:∀ j,j∈idxs ops.size listed->j=i':=by
    intro j hj;obtain ⟨j1,j2⟩:=E5.1 hj;by_cases e:j=i'
    ·exact e
    ·have:=gY j j1 (fw j (by omega)).1
     rw [T9 this] at j2; cases j2
   have fO:(idxs ops.size listed).filter (λ j=>!(j == i'))=[]:=by
    rw [List.filter_eq_nil_iff];intro j hj; simp [bH j hj]
   rw [fO] at aP;obtain rfl:s=s':=aP;have lW:=Df de cr;have oJ:RS B S ι (s1.put (some q.d) .any) a w:=lW.forget q.d;obtain ⟨i2,p2,e2,t2,l2,m2,g2,r,qq,bts,b1,b2,b3,b4,b5,b6,b7,b8,b9,AB,Az,Ay,wF,Ax,Aw,yl⟩:=IY hE f6 hp;rw [hx] at b1;obtain ⟨rfl,rfl⟩:i=i2/\p0=p2:=by simpa using b1
   rw [he] at b3; cases b3;rw [hg] at b7;simp only [Option.some.injEq,Sigma.mk.injEq,Ty.d0.injEq,true_and] at b7;obtain ⟨b7,b7'⟩:=b7;subst b7;obtain rfl:l=l2:=eq_of_heq b7';rw [cu] at wF;simp only [Option.some.injEq,Prod.mk.injEq,Sigma.mk.injEq,heq_eq_eq,true_and] at wF;obtain ⟨rfl,rfl⟩:=wF;have gF:=lW.ev ad;rw [b2] at gF;obtain ⟨e',b,off,c1,c2,c3,c4⟩:=gF;rw [he] at c1; cases c1;have c4:a.eval ad=.pointer (some ⟨b,off,none⟩):=by simpa using c4
   have bK:=Rs hE oJ (g:=g) b6 b4 (e:=e) he aL hg (by
    obtain ⟨O',y1,y2,y3,y4,y5⟩:=nL b off c3;exact ⟨O',y1,y2,y3,y4,λ cc hc=>⟨(y5 cc hc).1,λ j ej hj fT dn=>(y5 cc hc).2.1 j ej hj fT ((de.2 j).trans dn),(y5 cc hc).2.2⟩⟩) f2 c4 hv b8 b9
   have jT:=BI aX bn hlen;have jQ:idxs ops.size (listed.setIfInBounds i' true)=[]:=by
    rw [BJ aX dv];rw [List.filter_eq_nil_iff];intro j hj; simp [bH j hj]
   have sZ:fuel=0:=by rw [jQ] at jT; exact jT.symm
   subst sZ;have hw:o2.wp E.P a w (wpAny E.P .any ops Q 0 (listed.setIfInBounds i' true)) Q:=by
    refine bK _ _ (λ S' ι' w' val h1 h2=>⟨?_,hQ S' ι' _ w' ?_⟩)
    ·rw [List.eq_nil_iff_forall_not_mem]
     intro j hj;obtain ⟨j1,oj,j2,_⟩:=mem_ready.1 hj;have:j∈idxs ops.size (listed.setIfInBounds i' true):=E5.2 ⟨(Array.getElem?_eq_some_iff.1 j2).1,j1⟩;rw [jQ] at this; cases this
    ·rw [<- AB] at h1 h2
     exact h1.put (by rw [hn]; exact f5) h2
   unfold wpOp;rw [iA];simp only [Region.wanted,f1,if_true];exact .inl hw
  ·
   have bf:i'<n:=by omega
   have gz:i'≠q.k:=by rintro rfl; rw [T9 dm] at h1; cases h1
   obtain ⟨o',eT,kb,uq⟩:=(fw i' bf).2 gz;rw [ho] at eT; cases eT;have mC:∀ j,j∈idxs ops.size listed->¬ ((D4 ops.toList []).getD q.k 0).testBit j=true:=by
    intro j hj hb;have pQ:∀ e∈oa.after,Region.binds .any e=true->listed.getD e.on false=true:=cJ q.k oa a1 (T9 dm);have h9:=Ey (M:=λ i=>(D4 ops.toList []).getD i 0) (λ i o ho=>⟨(hM i o ho).1,(hM i o ho).2.1⟩) cJ q.k oa a1 pQ j (E5.1 hj).1 hb;have h8:=(E5.1 hj).2;rw [T9 h9] at h8; cases h8
   have fh:∀ j∈(idxs ops.size listed).filter (λ j=>!(j == n)),∀ oj,ops[j]?=some oj->quiet oj=true\/yC ops q n j oj s1=true:=by
    intro j hj oj jO;obtain ⟨j1,j2⟩:=List.mem_filter.1 hj;simp only [Bool.not_eq_true',beq_eq_false_iff_ne,ne_eq] at j2;have jn:j<n:=by have:=(E5.1 j1).1; omega
    have jk:j≠q.k:=by rintro rfl; have:=(E5.1 j1).2; rw [T9 dm] at this; cases this
    rcases QI f4' jn jk jO with h9|h9|h9
    ·exact absurd h9 (mC j j1)
    ·exact .inl h9
    ·exact .inr h9
   have gy:∀ j∈(idxs ops.size listed).filter (λ j=>!(j == n)),j<n:=by
    intro j hj;obtain ⟨j1,j2⟩:=List.mem_filter.1 hj;simp only [Bool.not_eq_true',beq_eq_false_iff_ne,ne_eq] at j2;have:=(E5.1 j1).1; omega
   have fa:((idxs ops.size listed).filter (λ j=>!(j == n))).Pairwise (·<·):=(BW ops.size listed).sublist List.filter_sublist;have mE:i'∈(idxs ops.size listed).filter (λ j=>!(j == n)):=List.mem_filter.2 ⟨bn,by simpa using fj⟩;have mL:=fh i' mE o ho;have qI:=aP;obtain ⟨pre,post,e1,kM,e2⟩:=SI (f:=λ j=>!(j == n)) aX bn (by simpa using fj);rw [e1] at fA aP;have er:rem ops (pre++i'::post)=rem ops pre++o::rem ops post:=by simp [rem,List.filterMap_append,ho]
   have er2:rem ops (pre++post)=rem ops pre++rem ops post:=by simp [rem,List.filterMap_append]
   have gD:N1 (rem ops (pre++i'::post)):=by
    rw [<- e1];refine N1.sub ?_;have:rem ops (idxs ops.size listed)=rem ops ((List.range ops.size).filter (λ i=>!listed.getD i true)):=rfl;rw [this];refine N1.sub ?_;have h9:=DA (ops:=ops);rw [xZ] at h9;rw [h9]; exact fe
   have fi:∀ j∈pre,((D4 ops.toList []).getD i' 0).testBit j=false/\∀ x,ops[j]?=some x->indep ops x o=true:=by
    intro j hj;have dI:j∈idxs ops.size listed:=by
     have:j∈(idxs ops.size listed).filter (λ j=>!(j == n)):=by rw [e1]; simp [hj]
     exact (List.mem_filter.1 this).1
    have gg:((D4 ops.toList []).getD i' 0).testBit j=false:=by
     cases hm:((D4 ops.toList []).getD i' 0).testBit j with
     | false=>rfl
     | true =>
      exfalso;have iU:=gY j (E5.1 dI).1 hm;have:=(E5.1 dI).2;rw [T9 iU] at this;cases this
    refine ⟨gg,λ x hx=>?_⟩;rcases (hM i' o ho).2.2 j x (kM j hj) hx with hm|hm
    ·rw [gg] at hm; cases hm
    ·exact hm
   obtain ⟨pp,sa,sb,k1,k2,k3,k4,_⟩:=Dq ho gD fi hu (fA.sub (λ y hy=>by rw [Bj]; exact List.mem_append_left _ hy)) aP;rw [er] at gD fA;have gE:=N1.cut gD;rcases mL with oO|pn
   ·obtain ⟨q1,q2,v,val,rfl,q3,q4⟩:=Yt hE cr oO k1 k2
    have fP:wpAny E.P .any ops Q fuel (listed.setIfInBounds i' true) (a.put o.dst val) w:=by
     refine ih (listed.setIfInBounds i' true) S ι (s.put o.dst v) sb (a.put o.dst val) w (by simp [aX]) (BI aX bn hlen) (cJ.set ho aV) (getD_set_true dm) (by rw [getD_set_ne true fj]; exact gi) (O7 hu k1) ?_ (by rw [e2]; exact k3) (k4.trans de) (cr.put (by rw [hn]; exact q2) q4) ?_ (λ b off hb=>by rw [wA]; exact nL b off hb)
     ·rw [e2,er2]
      exact M6.step hu (λ y hy=>fA y (by simp at hy ⊢; rcases hy with hy|hy<;>simp [hy])) gE.2 k1
     ·rw [<- hv]
      have bG:=my i' o bf gz ho;cases gT:o.dst with
      | none=>rfl
      | some d =>
       rw [gT] at bG;exact Y4 (λ e=>bG (by rw [e]))
    unfold wpOp;rw [ho];simp only [Region.wanted,q1,if_true];refine .inl ?_;unfold Oper.wp;rw [q3];exact fP
   ·
    obtain ⟨dE,nT,T,ad',x',j0,q0,vt,z,g1,g2,g3,g4,g5,g6⟩:=Sm pn;rw [e1] at fa gy fh;have bU:List.Sublist (pre++post) (pre++i'::post):=List.Sublist.append (List.Sublist.refl _) (List.sublist_cons_self _ _);obtain ⟨J,f,t1,t2,t3,t4⟩:=Ei k3 (k4.trans de) (O7 hu k1) (fa.sublist bU) (λ j hj=>gy j (bU.subset hj)) (λ j hj=>fh j (bU.subset hj));have mc:∀ j∈post,i'<j:=λ j hj=>(List.pairwise_cons.1 (List.pairwise_append.1 fa).2.1).1 j hj;obtain ⟨v0,ids,f0,uw,z1,z2,z3,z4,z5⟩:=yS (ops:=ops) hu k1;obtain ⟨sa',y1,_,y2⟩:=z5 s hu ((L7.refl s).xW _ _) z2;rw [k1] at y1; cases y1;have iq:∀ y,y∈o.op.operands.toList->s1.ev y=f (f0 (s.ev y)):=by
     intro y hy;refine Ia (z1.yt t1) (λ m' hm=>?_);subst hm;have hY:=xt (ops:=ops) hy;rw [<- (k4.trans de).1 m',t4 m' (λ j hj o' eT ec=>?_),y2.fr,if_neg (by rw [nT]; intro h; cases h)]
     ·cases look m' s.fr<;>rfl
     ·rcases List.mem_append.1 hj with hj|hj
      ·exact (RL ((fi j hj).2 o' eT)).1 m' ec hY
      ·exact g6 j (mc j hj) (gy j (by simp [hj])) o' eT m' ec hY
    have tr:s.ev ad'=.ptr j0 q0:=zR (z1.yt t1) ((iq ad' (by rw [g1]; simp [Op.operands])).symm.trans g2) (.inl rfl);have eh:s.ev x'=.val vt z:=zR (z1.yt t1) ((iq x' (by rw [g1]; simp [Op.operands])).symm.trans g3) (.inr ⟨rfl,by intro h; cases h⟩);obtain ⟨ι',w',r1,r2,r3⟩:=WI hE hn cr dE g1 tr eh k1;have bS:i≠j0:=by
     rintro rfl;rw [hx] at g4;simp only [AV.i7,Nat.beq_refl] at g4;cases g4
    have fT:j0∉g:=λ hm=>by rw [PR cu j0 hm] at g5; cases g5
    obtain ⟨J2,f2',u1,u2,u3,u4⟩:=Ei (ops:=ops) (q:=q) (n:=n) aP de hu fa gy fh;have lJ:look i s.hp=some e:=by
     rw [<- u3 i (λ hm=>by
      have:=(u2 i hm).1;rw [hx] at this;simp only [AV.i7,Nat.beq_refl] at this;cases this),de.2 i]
     exact he
    obtain ⟨i2,p2,e2',t2',l2,m2,g2',r',qq,bts,b1,b2,b3,b4,b5,b6,b7,b8,b9,AB,Az,Ay,wF,Ax,Aw,yl⟩:=IY hE f6 hp;rw [hx] at b1;obtain ⟨rfl,rfl⟩:i=i2/\p0=p2:=by simpa using b1
    rw [he] at b3; cases b3;obtain ⟨b,off,gW⟩:=BL (cr.hs.ob i e lJ) cr.hs.slt yl aL hg;have hP:=r3 bS fT lJ aL hg (nL b off gW);have fP:wpAny E.P .any ops Q fuel (listed.setIfInBounds i' true) (a.put o.dst undef) w':=by
     refine ih (listed.setIfInBounds i' true) S ι' sa sb (a.put o.dst undef) w' (by simp [aX]) (BI aX bn hlen) (cJ.set ho aV) (getD_set_true dm) (by rw [getD_set_ne true fj]; exact gi) (O7 hu k1) ?_ (by rw [e2]; exact k3) (k4.trans de) r2 ?_ (λ b9 off9 ra=>?_)
     ·rw [e2,er2]
      exact M6.step hu (λ y hy=>fA y (by simp at hy ⊢; rcases hy with hy|hy<;>simp [hy])) gE.2 k1
     ·rw [<- hv,nT]; rfl
     ·obtain ⟨_,h9,_⟩:=id hP
      rw [h9] at ra; cases ra;exact hP
    unfold wpOp;rw [ho];simp only [Region.wanted,dE,if_true];refine .inl ?_;unfold Oper.wp;rw [r1];exact fP
theorem b7F (hE:C6 E B) (hn:B.n=E.nt) (hd:wm ops=true) {Q:Exit->Act->World->Prop} (fe:N1 ops.toList) (hA:Ar E ops q) {o2:Oper} (iA:ops[n]?=some o2) {p:Prop} {s2:St} (eM:zf E ops (D4 ops.toList []) q n o2 s1=some (p,s2)) (hp:p)
  (hQ:∀ S ι a w,RS B S ι s2 a w->Q .normal a w) :
  ∀ (fuel:Nat) (listed:Array Bool) (S:Nat->Prop) (ι:Ix) (s s':St) (a:Act) (w:World),listed.size=ops.size->(idxs ops.size listed).length=fuel->yD ops listed->listed.getD q.k true=false->listed.getD n true=false->uniq s.fr->M6 s (rem ops ((idxs ops.size listed).filter (λ j=>!(j == n) && !(j == q.k)))) ->
   Z9 E ops (λ i=>(D4 ops.toList []).getD i 0) [] ((idxs ops.size listed).filter (λ j=>!(j == n) && !(j == q.k))) s s'->L7 s' s1->look q.d s.fr=some .any->RS B S ι s a w ->
   wpAny E.P .any ops Q fuel listed a w:=by
 have hM:=Ed hd;obtain ⟨T2,ad,s3,f1,f2,f3,⟨f4,f4'⟩,f5,f6,_⟩:=Ik eM;obtain ⟨ga,nP,ok,iz,fw⟩:=JZ f4;have tV:=hA;obtain ⟨oa,c,a1,a2,a3,a4,a5,a6,a7,a8⟩:=hA;have e9:oa=ok:=by rw [a1] at iz; cases iz; rfl
 subst e9;intro fuel
 induction fuel with
 | zero =>
  intro listed S ι s s' a w aX hlen cJ dm gi hu fA aP de dq cr;exfalso;have fO:idxs ops.size listed=[]:=List.length_eq_zero_iff.1 hlen;have:n∈idxs ops.size listed:=E5.2 ⟨by omega,gi⟩;rw [fO] at this; cases this
 | succ fuel ih =>
  intro listed S ι s s' a w aX hlen cJ dm gi hu fA aP de dq cr;refine ⟨λ hr=>absurd hr (Rv hd aX (by intro h; rw [h] at hlen; cases hlen)),λ i' hi=>?_⟩;obtain ⟨h1,o,ho,aV⟩:=mem_ready.1 hi;have dv:i'<ops.size:=(Array.getElem?_eq_some_iff.1 ho).1;have bn:i'∈idxs ops.size listed:=E5.2 ⟨dv,h1⟩;have gY:∀ j,j<ops.size->((D4 ops.toList []).getD i' 0).testBit j=true->listed.getD j false=true:=Ey (M:=λ i=>(D4 ops.toList []).getD i 0) (λ i o ho=>⟨(hM i o ho).1,(hM i o ho).2.1⟩) cJ i' o ho aV;by_cases fj:i'=n
  ·exfalso
   subst fj;have:=gY q.k (by omega) (fw q.k nP).1;rw [T9 this] at dm; cases dm
  have bf:i'<n:=by omega
  by_cases gz:i'=q.k
  ·
   subst gz;rw [a1] at ho; cases ho;have gy:∀ j∈(idxs ops.size listed).filter (λ j=>!(j == n) && !(j == q.k)),j<n:=by
    intro j hj;obtain ⟨j1,j2⟩:=List.mem_filter.1 hj;simp only [Bool.and_eq_true,Bool.not_eq_true',beq_eq_false_iff_ne,ne_eq] at j2;have:=(E5.1 j1).1; omega
   have ir:∀ j∈(idxs ops.size listed).filter (λ j=>!(j == n) && !(j == q.k)),∀ oj,ops[j]?=some oj->(quiet oj=true\/yC ops q n j oj s1=true)/\oj.dst≠some q.d/\∀ d,oj.dst=some d->d∉looks ops oa:=by
    intro j hj oj jO;have jn:=gy j hj;obtain ⟨j1,j2⟩:=List.mem_filter.1 hj;simp only [Bool.and_eq_true,Bool.not_eq_true',beq_eq_false_iff_ne,ne_eq] at j2;have lD:¬ ((D4 ops.toList []).getD q.k 0).testBit j=true:=by
     intro g3;have:=gY j (by omega) g3;have h9:=(E5.1 j1).2;rw [T9 this] at h9; cases h9
    obtain ⟨o',g1,g2,g3⟩:=(fw j jn).2 j2.2;rw [jO] at g1; cases g1;refine ⟨?_,g2 q.d a3,?_⟩
    ·rcases QI f4' jn j2.2 jO with h9|h9|h9
     ·exact absurd h9 lD
     ·exact .inl h9
     ·exact .inr h9
    ·rcases g3 with g3|g3
     ·exact absurd g3 lD
     ·exact g3.2
   have fa:((idxs ops.size listed).filter (λ j=>!(j == n) && !(j == q.k))).Pairwise (·<·):=(BW ops.size listed).sublist List.filter_sublist;obtain ⟨J,f,t1,t2,t3,t4⟩:=Ei (ops:=ops) (q:=q) (n:=n) aP de hu fa gy (λ j hj oj jO=>(ir j hj oj jO).1);obtain ⟨i,p0,e,t0,l,m,g,r,qq,bts,b1,b2,b3,b4,b5,b6,b7,b8,b9,AB,Az,Ay,wF,Ax,Aw,yl⟩:=IY hE f6 hp;have fS:∀ j,j∉J->look j s.hp=look j s1.hp:=λ j hj=>by rw [<- t3 j hj]; exact de.2 j
   have cE:∀ x,x∈oa.op.operands.toList->s1.ev x=f (s.ev x):=by
    intro x hx;refine Ia t1 (λ t ht=>?_);subst ht;rw [<- de.1 t,t4 t (λ j hj oj jO ec=>(ir j hj oj jO).2.2 t ec (xt hx))]
   have eG:q.x∈oa.op.operands.toList:=by rw [a5]; exact xm (by rw [a7]; simp)
   have gJ:q.y∈oa.op.operands.toList:=by rw [a5]; exact xm (by rw [a7]; simp)
   have qw:s.ev q.x=.at_ i p0:=zR t1 ((cE _ eG).symm.trans b1) (.inl rfl);have rn:s.ev q.y=s1.ev q.y:=zR t1 (cE _ gJ).symm (Zm wF);have lJ:look i s.hp=some e:=(fS i (λ hm=>by
    have:=(t2 i hm).1;rw [b1] at this;simp only [AV.i7,Nat.beq_refl] at this;cases this)).trans b3
   have nc:(s.ev q.y).uY s t0=some (⟨t0,m⟩,g):=by
    rw [rn,HG (s:=s1) (t:=s) (λ j hj=>fS j (λ hm=>by rw [(t2 j hm).2] at hj; cases hj))];exact wF
   have aL:w8 e.ty e.x p0:=by
    obtain ⟨e2,u,y2,cs,r1,aL,_⟩:=C0 cr qw;rw [lJ] at r1; cases r1;exact aL
   obtain ⟨b,off,hl⟩:=BL (cr.hs.ob i e lJ) cr.hs.slt yl aL b7;obtain ⟨v',w',c1,c2,c3,c4⟩:=Sy hE cr a5 a6 a7 a8 Ay Az qw lJ yl b7 hl nc b4 b5 Ax Aw;have ez:Loc w'.heap ι i e p0=some (b,off):=by obtain ⟨_,h9,_⟩:=c4; exact h9
   have iu:RS B S ι s (a.put (some q.d) v') w':=by
    have h9:=c2.put (d:=some q.d) (by rw [hn]; exact a4) (v:=.any) (val:=v') ⟨v',rfl⟩;refine Df (s:=s.put (some q.d) .any) (t:=s) ⟨λ t=>?_,λ _=>rfl⟩ h9;rw [V9]
    split
    ·rename_i e9; cases e9; exact dq.symm
    ·rfl
   have dD:(a.put (some q.d) v').eval (.tmp q.d)=v':=JA (by rw [cr.sz,hn]; simpa [G3,Nat.blt_eq] using a4);have aG:(idxs ops.size (listed.setIfInBounds q.k true)).filter (λ j=>!(j == n))=(idxs ops.size listed).filter (λ j=>!(j == n) && !(j == q.k)):=YM aX dv (λ j=>rfl);have fP:wpAny E.P .any ops Q fuel (listed.setIfInBounds q.k true) (a.put (some q.d) v') w':=by
    refine ZW hE hn hd fe tV iA eM hp hQ (i:=i) (e:=e) (p0:=p0) (t0:=t0) (l:=l) (m:=m) (g:=g) b1 b3 aL b7 wF (v':=v') fuel (listed.setIfInBounds q.k true) S ι s s' _ w' (by simp [aX]) (BI aX bn hlen) (cJ.set a1 aV) (a9r (by omega)) (by rw [getD_set_ne true (by omega)]; exact gi) hu (by rw [aG]; exact fA) (by rw [aG]; exact aP) de iu dD ?_;intro b' aq cU;rw [ez] at cU; cases cU;exact c4
   unfold wpOp;rw [a1];simp only [Region.wanted,a2,if_true];refine .inl ?_;unfold Oper.wp;rw [c1];show wpAny E.P .any ops Q fuel (listed.setIfInBounds q.k true) (a.put oa.dst v') w';rw [a3];exact fP
  ·
   obtain ⟨pre,post,e1,kM,e2⟩:=SI (f:=λ j=>!(j == n) && !(j == q.k)) aX bn (by simp [fj,gz]);rw [e1] at fA aP;have er:rem ops (pre++i'::post)=rem ops pre++o::rem ops post:=by simp [rem,List.filterMap_append,ho]
   have er2:rem ops (pre++post)=rem ops pre++rem ops post:=by simp [rem,List.filterMap_append]
   have gD:N1 (rem ops (pre++i'::post)):=by
    rw [<- e1];refine N1.sub ?_;have:rem ops (idxs ops.size listed)=rem ops ((List.range ops.size).filter (λ i=>!listed.getD i true)):=rfl;rw [this];refine N1.sub ?_;have h9:=DA (ops:=ops);rw [xZ] at h9;rw [h9]; exact fe
   have fi:∀ j∈pre,((D4 ops.toList []).getD i' 0).testBit j=false/\∀ x,ops[j]?=some x->indep ops x o=true:=by
    intro j hj;have dI:j∈idxs ops.size listed:=by
     have:j∈(idxs ops.size listed).filter (λ j=>!(j == n) && !(j == q.k)):=by rw [e1]; simp [hj]
     exact (List.mem_filter.1 this).1
    have gg:((D4 ops.toList []).getD i' 0).testBit j=false:=by
     cases hm:((D4 ops.toList []).getD i' 0).testBit j with
     | false=>rfl
     | true =>
      exfalso;have iU:=gY j (E5.1 dI).1 hm;have:=(E5.1 dI).2;rw [T9 iU] at this;cases this
    refine ⟨gg,λ x hx=>?_⟩;rcases (hM i' o ho).2.2 j x (kM j hj) hx with hm|hm
    ·rw [gg] at hm; cases hm
    ·exact hm
   obtain ⟨pp,sa,sb,k1,k2,k3,k4,_⟩:=Dq ho gD fi hu (fA.sub (λ y hy=>by rw [Bj]; exact List.mem_append_left _ hy)) aP;have aF:o.dst≠some q.d:=by
    obtain ⟨o',g1,g2,_⟩:=(fw i' bf).2 gz;rw [ho] at g1; cases g1;exact g2 q.d a3
   have nd:look q.d sa.fr=some .any:=by
    obtain ⟨v,ids,f,hf,z1,z2,z3,z4,z5⟩:=yS (ops:=ops) hu k1;obtain ⟨sa',y1,_,y2⟩:=z5 s hu ((L7.refl s).xW _ _) z2;rw [k1] at y1; cases y1;rw [y2.fr,if_neg aF,dq];simp [z1.plain _ (rfl:AV.plain .any=true)]
   rw [er] at gD fA;have gE:=N1.cut gD;have eU:=KL hE hn cr (ops:=ops) o (k:=λ x=>Tree.cut .skip [] x) (L:=λ _ _ x=>x=sa) (Rt:=λ _=>True) (BC.2 ⟨pp,sa,k1,k2,rfl⟩)
    (next:=wpAny E.P .any ops Q fuel (listed.setIfInBounds i' true)) (Q:=Q) (λ S' ι' x a' w' hx kn=>by
     have kn:x=sa:=kn;subst kn;refine ih (listed.setIfInBounds i' true) S' ι' x sb a' w' (by simp [aX]) (BI aX bn hlen) (cJ.set ho aV) (by rw [getD_set_ne true gz]; exact dm) (by rw [getD_set_ne true fj]; exact gi) (O7 hu k1) ?_ (by rw [e2]; exact k3) (k4.trans de) nd hx;rw [e2,er2];exact M6.step hu (λ y hy=>fA y (by simp at hy ⊢; rcases hy with hy|hy<;>simp [hy])) gE.2 k1)
   unfold wpOp;rw [ho];simp only
   split
   ·rename_i hw; rw [if_pos hw] at eU; exact .inl eU
   ·rename_i hw; rw [if_neg hw] at eU; exact eU
theorem ZX (hE:C6 E B) (hn:B.n=E.nt) {id:Nat} (hd:(wm ops && Bg ops s && E.P.follows .mixedOrders)=true) {Q:Exit->Act->World->Prop} (hA:Ar E ops q) {s':St}
  (hr:Z9 E ops (λ i=>(D4 ops.toList []).getD i 0) [] ((List.range' 0 (ops.toList.length - 1)).filter (λ j=>!(j == q.k))) s s') {k:St->Tree (E.rs++E1 E.ps)} {L:Code->List Item->St->Prop} {R:DL (E.rs++E1 E.ps)->Prop}
  (hf:GJ E ops (D4 ops.toList []) q s' k L R) (dq:look q.d s.fr=some .any)
  (hQ:∀ S ι s2 a w,RS B S ι s2 a w->(k s2).holds L R->Q .normal a w) (h:RS B S ι s a w):(Code.region id ops true).wp E.P Q a w:=by
 simp only [Bool.and_eq_true,Bg,List.all_eq_true] at hd;obtain ⟨⟨h1,⟨h2,h3⟩,h4⟩,h5⟩:=hd;refine wp_region_any h5 ?_;obtain ⟨o2,p,s2,g1,g2,g3,g4⟩:=hf;obtain ⟨T2,ad,s3,f1,f2,f3,⟨f4,_⟩,f5,f6,_⟩:=Ik g2;obtain ⟨ga,nP,_⟩:=JZ f4;have hlen:(idxs ops.size (Array.replicate ops.size false)).length=ops.size:=by
  rw [xZ]; simp
 have aG:(idxs ops.size (Array.replicate ops.size false)).filter (λ j=>!(j == ops.size - 1) && !(j == q.k))=(List.range' 0 (ops.toList.length - 1)).filter (λ j=>!(j == q.k)):=by
  rw [xZ,show List.range ops.size=List.range (ops.size - 1)++[ops.size - 1] from by rw [<- List.range_succ]; congr 1; omega,List.filter_append,List.filter_cons];simp only [beq_self_eq_true,Bool.not_true,Bool.false_and,Bool.false_eq_true,if_false,List.filter_nil,List.append_nil,Array.length_toList];rw [List.range_eq_range'];refine List.filter_congr (λ j hj=>?_);have:j≠ops.size - 1:=by have:=(List.mem_range'_1.1 hj).2; omega
  simp [this]
 refine b7F (n:=ops.size - 1) hE hn h1 (Bt h3) hA g1 g2 g3 (λ S ι a w hh=>hQ S ι _ a w hh g4) ops.size _ S ι s s' a w.drew (by simp) hlen ?_ ?_ ?_ (r8 h2) ?_ (by rw [aG]; exact hr) (L7.refl _) dq (h.uW E9.nil E4.drew)
 ·intro k o hk hl
  have:k<ops.size:=(Array.getElem?_eq_some_iff.1 hk).1;simp [this] at hl
 ·have:q.k<ops.size:=by omega
  simp [this]
 ·have:ops.size - 1<ops.size:=by omega
  simp [this]
 ·intro o ho d hd
  obtain ⟨j,hj,sH⟩:=List.mem_filterMap.1 ho;obtain ⟨py,iV⟩:=List.mem_filter.1 hj;have:=(E5.1 py).1;simp only [Bool.and_eq_true,Bool.not_eq_true',beq_eq_false_iff_ne,ne_eq] at iV;refine h4 d (List.mem_filterMap.2 ⟨o,List.mem_of_getElem? (i:=j) ?_,hd⟩);rw [List.getElem?_dropLast,if_pos (by simp; omega)];simpa using sH
end
end
end Go.Ex
namespace Go.Ex
section
variable {E:Env} {ops:Array Oper} {s t:St}
theorem Qw {o:Oper} {T:TypeId} {a x:Operand} (ho:o.op=.store T a x) (v:AV):J1 o v=v:=by
 rcases xU o with e|⟨_,x,j,cz,_⟩
 ·exact e v
 ·rw [ho] at cz; cases cz
end
section
variable {E:Env} {ops:Array Oper} {s t:St}
end
section
variable {E:Env} {ops:Array Oper} {M:Nat->Nat} {s t:St}
def TD (ops:Array Oper) (x:Oper) (sx:St) (Tx:List Nat) (y:Oper) (Ty:List Nat):Prop:=wK ops x sx Tx y Ty/\(Tx≠[]->∀ m∈looks ops y,m∉Lf ops)
def FC (E:Env) (ops:Array Oper) (x:Oper) (sx:St) (y:Oper) (sy:St):Prop:=TD ops x sx (j9 E x sx) y (j9 E y sy)\/(zK x sx=true/\Hh y sy=true)\/∃ j kd q,Fq y sy=some (j,kd,q)/\AJ x sx j kd q=true
theorem b7q {x:Oper} {sx sx':St} (h:zK x sx=true) (h1:∀ m∈looks ops x,J1 x (sx'.get m)=J1 x (sx.get m)):zK x sx'=true:=by
 have h0:=h;unfold zK at h;split at h
 ·rename_i T a v hg ho
  have de:∀ o,o=a\/o=v->sx'.ev o=sx.ev o:=by
   intro o oV;cases o with
   | tmp m =>
    have:=h1 m (xt (by rw [ho]; simp [Op.operands]; rcases oV with e|e<;>simp [<- e]));rw [Qw ho,Qw ho] at this;exact yL this
   | _=>rfl
  unfold zK at h0 ⊢;rw [hg,ho] at h0 ⊢;simp only [de a (.inl rfl),de v (.inr rfl)];exact h0
 ·cases h
theorem YP {x:Oper} {sx sx':St} {j:Nat} {kd:Bool×Ty} {q:List Step} (h:AJ x sx j kd q=true) (h1:∀ m∈looks ops x,J1 x (sx'.get m)=J1 x (sx.get m)) (h2:∀ m∈looks ops x,∀ i,(J1 x (sx.get m)).i7 i=true->hpk sx' i=hpk sx i):AJ x sx' j kd q=true:=by
 have dZ:∀ v,J1 x v=v:=by
  intro v;rcases xU x with e|⟨_,y,k,cz,_⟩
  ·exact e v
  ·unfold AJ at h; rw [cz] at h; split at h<;>first|(rename_i e9; cases e9; done)|(cases h; done)
 have de:∀ o∈x.op.operands.toList,sx'.ev o=sx.ev o:=by
  intro o oV;cases o with
  | tmp m =>
   have:=h1 m (xt oV);rw [dZ,dZ] at this;exact yL this
  | _=>rfl
 unfold AJ at h ⊢;split at h
 ·rename_i a hg ho
  simp only [de a (by rw [ho]; simp [Op.operands])];exact h
 ·rename_i T a n hg ho
  simp only [de a (by rw [ho]; simp [Op.operands])];exact h
 ·rename_i T a hg ho
  simp only [de a (by rw [ho]; simp [Op.operands])];split at h
  ·rename_i i p ha
   have:hpk sx' i=hpk sx i:=by
    cases a with
    | tmp m =>
     have hm:m∈looks ops x:=xt (by rw [ho]; simp [Op.operands]);have sS:sx.get m=.ptr i p:=BS ha nofun
     exact h2 m hm i (by rw [dZ,sS]; simp only [AV.i7]; exact Nat.beq_refl i)
    | const c=>exact absurd ha (by intro e9; have:=KZ c i; rw [show ofConst c=.ptr i p from e9] at this; simp only [AV.i7] at this; rw [Nat.beq_refl] at this; cases this)
    | global g=>cases ha
    | func f=>cases ha
   rw [this];exact h
  ·cases h
 ·cases h
theorem FC.Aq {x:Oper} {sx sx':St} {y:Oper} {sy sy':St} (h:FC E ops x sx y sy) (h1:∀ m∈looks ops x,J1 x (sx'.get m)=J1 x (sx.get m)) (h2:j9 E x sx'=j9 E x sx) (h3:∀ (z:Oper) m,∀ k∈j9 E x sx,(J1 z (sx'.get m)).i7 k=true->(J1 z (sx.get m)).i7 k=true\/m∈Lf ops)
  (h4:∀ m∈looks ops x,∀ i,(J1 x (sx.get m)).i7 i=true->hpk sx' i=hpk sx i) (hT:j9 E y sy'=j9 E y sy) (hA:Hh y sy=true->Hh y sy'=true) (hS:∀ r,Fq y sy=some r->Fq y sy'=some r):FC E ops x sx' y sy':=by
 rcases h with ⟨⟨P1,P2,P3⟩,hn⟩|⟨k1,k2⟩|⟨j,kd,q,k1,k2⟩
 ·refine .inl ?_
  rw [hT,h2];refine ⟨⟨λ m hm i hi=>?_,λ m hm i hi=>by rw [h1 m hm]; exact P2 m hm i hi,P3⟩,hn⟩;cases hh:(J1 y (sx'.get m)).i7 i with
  | false=>rfl
  | true =>
   rcases h3 y m i hi hh with h9|h9
   ·rw [P1 m hm i hi] at h9; cases h9
   ·exact absurd h9 (hn (λ e=>by rw [e] at hi; cases hi) m hm)
 ·exact .inr (.inl ⟨b7q k1 h1,hA k2⟩)
 ·exact .inr (.inr ⟨j,kd,q,hS _ k1,YP k2 h1 h4⟩)
end
section
variable {E:Env} {ops:Array Oper} {B:D8} {S:Nat->Prop} {ι:Ix} {s:St} {a:Act} {w:World}
end
end Go.Ex
