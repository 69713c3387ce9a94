import Derived.Test.YtijlnmgondibnaaGreatDoorExK7
set_option linter.unusedVariables false
set_option linter.unusedSimpArgs false
set_option linter.unusedSectionVars false
namespace Go.Ex
section
variable {E:Env} {ops:Array Oper} {B:E6} {S:Nat->Prop} {ι:Ix} {s:St} {a:Act} {w:World}
theorem Ed {s t:St} (he:N0 s t) (h:RS B S ι s a w):RS B S ι t a w:=by
 have dv:∀ {v:AV} {vs:List Value},VX w.heap S ι s.hp v vs->VX w.heap S ι t.hp v vs:=by
  intro v vs hv;exact VX.other (λ i _=>(he.2 i).symm) (λ i _=>F0.refl ι i) hv
 exact ⟨⟨h.hs.os,h.hs.tape,h.hs.out,h.hs.size,h.hs.frame,h.hs.slt,h.hs.s0,h.hs.s1,λ i e hi=>h.hs.ob i e ((he.2 i).trans hi),λ i e hi=>h.hs.bl i e ((he.2 i).trans hi),λ i j ei ej hi hj=>h.hs.dj i j ei ej ((he.2 i).trans hi) ((he.2 j).trans hj),λ q hq=>by obtain ⟨r1,⟨e,r2⟩,r3⟩:=h.hs.pin q hq; exact ⟨r1,⟨e,(he.2 q.1).symm.trans r2⟩,r3⟩⟩,h.dfr,h.sz,
  λ m v hv=>dv (h.fr m v ((he.1 m).trans hv))⟩
theorem RS.forget (h:RS B S ι s a w) (d:Nat):RS B S ι { s with fr:=Ex.put d .any s.fr } a w:=by
 refine ⟨h.hs,h.dfr,h.sz,λ t v hv=>?_⟩;rw [o7] at hv;split at hv
 ·cases hv; exact ⟨_,rfl⟩
 ·exact h.fr t v hv
theorem RS.K8:∀ {l:List Oper} {s:St},RS B S ι s a w->RS B S ι (Ex.K8 l s) a w
 | [],s,h=>h
 | o::l,s,h=>by
  unfold Ex.K8
  split
  ·split
   ·exact RS.K8 (h.forget _)
   ·exact RS.K8 h
  ·exact RS.K8 h
theorem FC {m:Nat}:∀ {l:List Oper} {s:St},look m (Ex.K8 l s).fr=look m s.fr\/look m (Ex.K8 l s).fr=some .any
 | [],s=>.inl rfl
 | o::l,s=>by
  unfold Ex.K8
  split
  ·split
   ·rename_i d _ _
    rcases FC (m:=m) (l:=l) (s:={ s with fr:=Ex.put d .any s.fr }) with h|h
    ·rw [o7] at h
     split at h
     ·exact .inr h
     ·exact .inl h
    ·exact .inr h
   ·exact FC
  ·exact FC
theorem FE {o:Oper} {c:Call} {d:Nat} (cw:o.op=.call c) (hc:c.callee=.builtin .append) (hd:o.dst=some d):∀ {l:List Oper} {s:St},o∈l->look d (Ex.K8 l s).fr=some .any
 | [],_,h=>by cases h
 | x::l,s,h=>by
  unfold Ex.K8;rcases aAp.1 h with rfl|h
  ·rw [cw]
   simp only [hc,hd];rcases FC (m:=d) (l:=l) (s:={ s with fr:=Ex.put d .any s.fr }) with h|h
   ·rw [h,o7,if_pos rfl]
   ·exact h
  ·split
   ·split
    ·exact FE cw hc hd h
    ·exact FE cw hc hd h
   ·exact FE cw hc hd h
theorem c37 (hE:D3 E B) (h:RS B S ι s a w) {o:Oper} {T:TypeId} {x:Operand} (ho:o.op=.load T x) {v:AV} {s':St} (hl:Z0 E T (s.ev x) s=.ok v s') :
  s'=s/\∃ val,(execOp a.eval o).run E.P w=.ok (.value val) w/\VX w.heap S ι s.hp v [val]:=by
 have he:execOp a.eval o=(do pure (.value (<- Instr.loadAt T (a.eval x)))):=by simp [execOp,ho]
 have hv:=h.ev x;unfold Z0 at hl;split at hl
 ·rename_i t y hx
  rw [hx] at hv;obtain ⟨b,off,e,hb,hr,hR⟩:=hv;split at hl
  ·rename_i hc
   cases hl;have e:a.eval x=.pointer (some ⟨b,off,none⟩):=by simpa using e
   refine ⟨rfl,l5 t (e8 w.heap b off t.size),P0 he (w':=w) ?_,_,rfl,hR⟩;rw [e];simp [Instr.loadAt,Instr.sureAddr,CT (D6 hE hc) hR]
  ·cases hl
 ·rename_i l hx
  rw [hx] at hv;split at hl
  ·rename_i ht
   cases hl;obtain ⟨val,k1,k2⟩:=ON (hE:=hE) ht hv;exact ⟨rfl,val,P0 he k1,k2⟩
  ·cases hl
 ·rename_i i p hx
  rw [hx] at hv;obtain ⟨e,b,off,h1,h2,h3,h4⟩:=hv;have h4:a.eval x=.pointer (some ⟨b,off,none⟩):=by simpa using h4
  split at hl
  ·rename_i u y cQ
   have hg:=I3 h1 cQ;obtain ⟨O2,k1,k2,k3,k4,k5⟩:=N5 (K9 h3) (h.hs.ob i e h1) h.hs.slt h2 hg h3;split at hl
   ·rename_i hc
    have hr:(Instr.loadAt T (a.eval x)).run E.P w=.ok (l5 u (e8 w.heap b off u.size)) w:=by
     rw [h4]; simp [Instr.loadAt,Instr.sureAddr,CT (D6 hE hc) k3]
    split at hl
    ·rename_i hs
     cases hl;have:=k3.O7 hs;subst this;exact ⟨rfl,_,P0 he hr,_,rfl,k3⟩
    ·cases hl
     have hp:=C8 h3;exact ⟨rfl,_,P0 he hr,e,u,y,_,h1,h2,hg,⟨b,off,hp.1,(l6 (G4 hp.2) _ _).symm⟩,rfl⟩
   ·cases hl
  ·cases hl
 ·cases hl
theorem Xh {k:IntKind} {m n:Int} (bx:r9 k m) (hn:0<n):r9 k (m.tmod n):=by
 have h0:k.min<=0:=by cases k<;>decide
 have h1:0<=k.max:=by cases k<;>decide
 unfold r9 at *
 by_cases hm:m<0
 ·have e:m.tmod n=-((-m) % n):=by rw [<- aIa m,aGf,aDw (by omega)]; simp
  have:=aEz (-m) (b:=n) (by omega);have:(-m) % n<=-m:=by
   have:=aEp (-m) n;have:=aFw (aFd hn) (aEi (a:=-m) (b:=n) (by omega) (by omega));omega
  omega
 ·rw [aDw (by omega)]
  have:=aEz m (b:=n) (by omega);have:m % n<=m:=by
   have:=aEp m n;have:=aFw (aFd hn) (aEi (a:=m) (b:=n) (by omega) (by omega));omega
  omega
theorem Oj {o:Oper} {T T':TypeId} {x y:Operand} (ho:o.op=.binOp .rem T x y T'):(∃ k m n,s.ev x=.val (.int k) m/\s.ev y=.val (.int k) n/\m0 E o s=.F8 (0<n) (.val (.int k) (Int.tmod m n)) s)\/∃ why,m0 E o s=.fail why:=by
 have e:m0 E o s=wP E T .rem (s.ev x) (s.ev y) s:=by unfold m0; rw [ho]
 rw [e];unfold wP
 split
 ·refine .inr ?_
  unfold zS
  split
  ·rename_i h; cases h
  ·rename_i h; cases h
  ·exact ⟨_,rfl⟩
 ·refine .inr ?_
  unfold eqA
  split
  ·split
   ·rename_i h; cases h
   ·rename_i h; cases h
   ·exact ⟨_,rfl⟩
  ·exact ⟨_,rfl⟩
 ·refine .inr ?_
  unfold eqA
  split
  ·split
   ·rename_i h; cases h
   ·rename_i h; cases h
   ·exact ⟨_,rfl⟩
  ·exact ⟨_,rfl⟩
 ·unfold yg
  split
  ·rename_i k m k' n e1 e2
   have hw:xJ (MK E) .rem k m k' n s=xI .rem k m k' n s:=by
    unfold xJ
    split
    ·rename_i h; cases h
    ·rfl
   rw [hw];unfold xI;simp only
   split
   ·rename_i hk; subst hk
    exact .inl ⟨k,m,n,e1,e2,rfl⟩
   ·exact .inr ⟨_,rfl⟩
  ·refine .inr ?_
   split
   ·rename_i h; cases h
   ·rename_i h; cases h
   ·exact ⟨_,rfl⟩
  ·exact .inr ⟨_,rfl⟩
  ·exact .inr ⟨_,rfl⟩
theorem YM (h:RS B S ι s a w) {o:Oper} {T T':TypeId} {x y:Operand} (ho:o.op=.binOp .rem T x y T'):Ap E.P S ι o a w s (m0 E o s):=by
 have hx:=h.ev x;have hy:=h.ev y;rcases Oj (E:=E) (s:=s) ho with ⟨k,m,n,e1,e2,e3⟩|⟨why,e3⟩
 ·rw [e3]
  rw [e1] at hx; rw [e2] at hy;obtain ⟨hx,bx⟩:=VX.I4 hx;obtain ⟨hy,by_⟩:=VX.I4 hy;intro hn;refine ⟨rfl,.int k (m.tmod n),λ w'=>?_,VX.int (Xh bx hn)⟩;have hg:(eqGuard .rem T x y (a.eval x) (a.eval y)).run E.P w'=.ok () w':=by rw [hx,hy]; rfl
  rw [U3 ho hg (r:=.ok (.int k (m.tmod n)) w')]
  ·rfl
  ·rw [hx,hy]
   have bt:n≠0:=λ e=>by subst e; exact absurd hn (Int.lt_irrefl _)
   simp [binOp,Op.intDiv,bt]
 ·rw [e3]; trivial
theorem c3S (hE:D3 E B) (h:RS B S ι s a w) {o:Oper} (hq:quiet o=true) {p:Prop} {s1:St} (hr:I0 E ops o s=some (p,s1)) (hp:p) :
  o.guard=none/\H7 E.nt o.dst=true/\∃ v val,s1=s.put o.dst v/\(execOp a.eval o).run E.P w=.ok (.value val) w/\VX w.heap S ι s.hp v [val]:=by
 simp only [quiet,aAa,aCm] at hq;obtain ⟨hg,hq⟩:=hq;unfold I0 at hr;rw [hg] at hr;simp only at hr;unfold Y2 at hr;split at hr
 ·cases hr
 ·rename_i hd
  refine ⟨hg,hd,?_⟩;have key:∀ (r:OR),(match r.get with|none=>none|some (p,v,s')=>some (p,s'.put o.dst v))=some (p,s1)->Ap E.P S ι o a w s r->∃ v val,s1=s.put o.dst v/\(execOp a.eval o).run E.P w=.ok (.value val) w/\VX w.heap S ι s.hp v [val]:=by
   intro r hr rk;cases r with
   | fail why=>cases hr
   | ok v s' =>
    simp only [OR.get,aAc,aAx] at hr;obtain ⟨e1,val,k1,k2⟩:=rk;exact ⟨v,val,by rw [<- hr.2,e1],k1 w,k2⟩
   | F8 p' v s' =>
    simp only [OR.get,aAc,aAx] at hr;obtain ⟨e1,val,k1,k2⟩:=rk (by rw [hr.1]; exact hp);exact ⟨v,val,by rw [<- hr.2,e1],k1 w,k2⟩
  split at hq
  ·rename_i x ho
   rw [ho] at hr;simp only [m0,ho,OR.get,aAc,aAx] at hr;exact ⟨s.ev x,a.eval x,hr.2.symm,by simp [execOp,ho],h.ev x⟩
  ·rename_i T x ho
   rw [ho] at hr;simp only [m0,ho] at hr;cases hl:Z0 E T (s.ev x) s with
   | fail y=>rw [hl] at hr; cases hr
   | ok v s' =>
    rw [hl] at hr;simp only [OR.get,aAc,aAx] at hr;obtain ⟨e1,val,k1,k2⟩:=c37 hE h ho hl;exact ⟨v,val,by rw [<- hr.2,e1],k1,k2⟩
   | F8 p' v s' =>
    exfalso;unfold Z0 at hl
    repeat' split at hl
    all_goals cases hl
  ·rename_i T x n ho
   have:=Cw hE h (o:=o) (by rw [ho]; rfl);rw [ho] at hr;exact key _ hr this
  ·rename_i T x n ho
   have:=Cw hE h (o:=o) (by rw [ho]; rfl);rw [ho] at hr;exact key _ hr this
  ·rename_i x ho
   have:=Cw hE h (o:=o) (by rw [ho]; rfl);rw [ho] at hr;exact key _ hr this
  ·rename_i T x y T' ho
   have:=YM (E:=E) h ho;rw [ho] at hr;exact key _ hr this
  ·cases hq
theorem c3T {o:Oper} (hq:quiet o=true) {p:Prop} {s1:St} (hr:I0 E ops o s=some (p,s1)):∃ v,s1=s.put o.dst v:=by
 simp only [quiet,aAa,aCm] at hq;obtain ⟨hg,hq⟩:=hq;unfold I0 at hr;rw [hg] at hr;simp only at hr;unfold Y2 at hr;split at hr
 ·cases hr
 ·rename_i hd
  have key:∀ (r:OR) (t:St),(∀ v s',r=.ok v s'->s'=s)->(∀ p v s',r=.F8 p v s'->s'=s)->(match r.get with|none=>none|some (p,v,s')=>some (p,s'.put o.dst v))=some (p,s1)->∃ v,s1=s.put o.dst v:=by
   intro r t h1 h2 hr;cases r with
   | fail why=>cases hr
   | ok v s' =>
    simp only [OR.get,aAc,aAx] at hr;exact ⟨v,by rw [<- hr.2,h1 v s' rfl]⟩
   | F8 p' v s' =>
    simp only [OR.get,aAc,aAx] at hr;exact ⟨v,by rw [<- hr.2,h2 p' v s' rfl]⟩
  split at hq
  ·rename_i x ho
   rw [ho] at hr;refine key _ s ?_ ?_ hr<;>(intros; simp_all [m0])
  ·rename_i T x ho
   rw [ho] at hr;refine key _ s ?_ ?_ hr
   ·intro v s' e
    simp only [m0,ho] at e;unfold Z0 at e
    repeat' split at e
    all_goals (cases e; try rfl)
   ·intro q v s' e
    simp only [m0,ho] at e;unfold Z0 at e
    repeat' split at e
    all_goals (cases e; try rfl)
  ·rename_i T x n ho
   rw [ho] at hr;refine key _ s ?_ ?_ hr
   ·intro v s' e
    simp only [m0,ho] at e
    repeat' split at e
    all_goals (cases e; try rfl)
   ·intro q v s' e
    simp only [m0,ho] at e
    repeat' split at e
    all_goals (cases e; try rfl)
  ·rename_i T x n ho
   rw [ho] at hr;refine key _ s ?_ ?_ hr
   ·intro v s' e
    simp only [m0,ho] at e
    repeat' split at e
    all_goals (cases e; try rfl)
   ·intro q v s' e
    simp only [m0,ho] at e
    repeat' split at e
    all_goals (cases e; try rfl)
  ·rename_i x ho
   rw [ho] at hr;refine key _ s ?_ ?_ hr
   ·intro v s' e
    simp only [m0,ho] at e
    repeat' split at e
    all_goals (cases e; try rfl)
   ·intro q v s' e
    simp only [m0,ho] at e
    repeat' split at e
    all_goals (cases e; try rfl)
  ·rename_i T x y T' ho
   have hb:=Oj (E:=E) (s:=s) ho;rw [ho] at hr;refine key _ s ?_ ?_ hr
   ·intro v s' e
    rcases hb with ⟨k,m,n,-,-,e3⟩|⟨why,e3⟩
    ·rw [e3] at e; cases e
    ·rw [e3] at e; cases e
   ·intro q v s' e
    rcases hb with ⟨k,m,n,-,-,e3⟩|⟨why,e3⟩
    ·rw [e3] at e; cases e; rfl
    ·rw [e3] at e; cases e
  ·cases hq
theorem OC {o:Oper} (hg:o.guard=none) {T:TypeId} {a x:Operand} (ho:o.op=.store T a x) {j:Nat} {q:List Step} {v:Ty} {z:v.den} (ha:s.ev a=.ptr j q) (hx:s.ev x=.val v z) {p:Prop} {s1:St} (h:I0 E ops o s=some (p,s1)) :
  ∃ (e:i6) (r:Sigma Ty.den) (u:Ty) (y:u.den),H7 E.nt o.dst=true/\look j s.hp=some e/\u6 e.ty e.x q (Q9 u ⟨v,z⟩).1 (Q9 u ⟨v,z⟩).2=some r/\(j9 e.ty e.x q=some ⟨u,y⟩/\I6 E T u=true)/\s1=((s.kill j e.kd q).w8 j (e.E3 r)).put o.dst (.raw undef):=by
 have hr:∀ t,I0 E ops o t=Y2 E o t:=λ t=>by unfold I0; rw [hg]
 rw [hr] at h;have cw:∀ t,m0 E o t=(match t.ev a with|.ptr i p=>Q8 E T i p (t.ev x) t|_=>.fail "store"):=λ t=>by unfold m0; rw [ho]; rfl
 have aP:∀ t,Y2 E o t=(match H7 E.nt o.dst with|false=>none|true=>match (m0 E o t).get with|none=>none|some (p,v,s')=>some (p,s'.put o.dst v)):=λ t=>by unfold Y2; rw [ho]; rfl
 rw [aP] at h;split at h
 ·cases h
 ·rename_i hd
  rw [cw,ha] at h;simp only at h;rw [hx] at h;cases aS:look j s.hp with
  | none =>
   have:Q8 E T j q (.val v z) s=.fail "store: object":=by unfold Q8 St.obj; rw [aS]
   rw [this] at h; cases h
  | some e =>
   cases dO:j9 e.ty e.x q with
   | none =>
    have:Q8 E T j q (.val v z) s=.fail "store: path":=by unfold Q8 St.obj; rw [aS]; simp only [dO]
    rw [this] at h; cases h
   | some uy =>
    obtain ⟨u,y⟩:=uy;cases hc:I6 E T u with
    | false =>
     have:Q8 E T j q (.val v z) s=.fail "store: type":=by unfold Q8 St.obj; rw [aS]; simp only [dO,hc]
     rw [this] at h; cases h
    | true =>
     have su:Q8 E T j q (.val v z) s=(match u6 e.ty e.x q (Q9 u ⟨v,z⟩).1 (Q9 u ⟨v,z⟩).2 with
       | some r=>.ok (.raw undef) ((s.kill j e.kd q).w8 j (e.E3 r))
       | none=>.fail "store: value"):=by
      unfold Q8 St.obj; rw [aS]; simp only [dO,hc,AV.vL,AV.vl,St.w9];cases u6 e.ty e.x q (Q9 u ⟨v,z⟩).1 (Q9 u ⟨v,z⟩).2 with
      | none=>rfl
      | some r=>rfl
     rw [su] at h;cases aK:u6 e.ty e.x q (Q9 u ⟨v,z⟩).1 (Q9 u ⟨v,z⟩).2 with
     | none=>rw [aK] at h; cases h
     | some r =>
      rw [aK] at h;simp only [OR.get,aAc,aAx] at h;obtain ⟨rfl,rfl⟩:=h;exact ⟨e,r,u,y,hd,rfl,aK,⟨dO,hc⟩,rfl⟩
theorem Zq (hE:D3 E B) (hn:B.n=E.nt) (h:RS B S ι s a w) {o:Oper} (hg:o.guard=none) {T:TypeId} {ad x:Operand} (ho:o.op=.store T ad x) {j:Nat} {q:List Step} {v:Ty} {z:v.den} (ha:s.ev ad=.ptr j q) (hx:s.ev x=.val v z) {p:Prop} {s1:St} (hr:I0 E ops o s=some (p,s1)) :
  ∃ ι' w',(execOp a.eval o).run E.P w=.ok .skip w'/\RS B S ι' s1 (a.put o.dst undef) w'/\∀ {g:List Nat} {i:Nat} {e:i6} {p0:List Step} {t0:Ty} {l m:List t0.den} {b off:Nat} {v':Value},i≠j->j∉g->look i s.hp=some e->x8 e.ty e.x p0->j9 e.ty e.x p0=some ⟨.d0 true t0,l⟩->yS B S ι s.hp g i e p0 t0 l m b off v' w->yS B S ι' s1.hp g i e p0 t0 l m b off v' w':=by
 obtain ⟨ej,r,u,y,hd,aS,aK,⟨dO,bH⟩,rfl⟩:=OC hg ho ha hx hr;have gI:=h.ev ad;rw [ha] at gI;obtain ⟨e',b0,off0,c1,aM,hl,c4⟩:=gI;rw [aS] at c1; cases c1;have c4:a.eval ad=.pointer (some ⟨b0,off0,none⟩):=by simpa using c4
 have dB:=h.ev x;rw [hx] at dB;obtain ⟨cs,eT,hz⟩:=dB;have eT:a.eval x=l5 v cs:=by simpa using eT
 obtain ⟨hz,nB⟩:=Qh (u:=u) (q:=⟨v,z⟩) hz;rw [<- BZ nB] at eT;generalize (Q9 u ⟨v,z⟩)=fz at aK hz nB eT;obtain ⟨v,z⟩:=fz;dsimp only at aK hz eT;have cF:=K9 hl;obtain ⟨Op,m1,mn,m2,m3,m4,m5⟩:=N5 cF (h.hs.ob j ej aS) h.hs.slt aM dO hl;have cg:=CA dO aK;have gY:¬ S b0:=(h.hs.bl j ej aS b0 m4).1;have hcs:cs.length=u.size:=by rw [hz.length,F9 cg]
 obtain ⟨ι',⟨O,rfl,hO⟩,h1⟩:=h.Ef aS aM dO hl (u':=v) (z:=z) (cs:=cs) (O2:=[]) (λ H' aW hc=>hz.u5 (λ c dD=>hc.rest c (by
   rintro rfl;rcases dD with dD|dD
   ·cases dD
   ·exact gY dD) (by
   rcases dD with dD|dD
   ·cases dD
   ·exact h.hs.slt c dD)) (λ _ h=>h)) hcs aAw (by simp) aK (λ bC _=>QH aK (OX hl bC))
 have aP:(execOp a.eval o).run E.P w=.ok .skip (w.setRow b0 (over (w6 w.heap b0) off0 cs).toArray):=by
  simp [execOp,ho,c4,eT,Instr.storeAt,Instr.sureAddr,LS (D6 hE bH) cg m5 hz]
 refine ⟨_,_,aP,h1.put (by rw [hn]; exact hd) (v:=.raw undef) (val:=undef) rfl,?_⟩;rintro g i e p0 t0 l m b off v' bS fV hi mD dC ⟨O',k1,k2,k3,k4,k5⟩;have hold:∀ c,c≠b0->(w.setRow b0 (over (w6 w.heap b0) off0 cs).toArray).heap[c]?=w.heap[c]?:=λ c hc=>setRow_other hc;have bm:F0 ι (ι.C6 j O) i:=X6 bS O;have mL:=K9 k1;have bR:b0∉O':=λ hc=>(k5 b0 hc).2.1 j ej (Ne.symm bS) fV aS m4;refine ⟨O',?_,k2.u5 (λ c hc=>hold c (by
   rintro rfl;rcases hc with hc|hc
   ·exact bR hc
   ·exact gY hc)) (λ _ h=>h),k3,k4,λ c hc=>⟨?_,λ k ek hk ru df=>?_,λ kr=>?_⟩⟩
 ·rw [bm.loc]
  exact Fk mL (h.hs.ob i e hi) h.hs.slt (λ c hc=>hold c (by rintro rfl; exact h.hs.dj i j e ej hi aS bS c hc m4)) mD k1
 ·obtain ⟨f1,f2,f3⟩:=(k5 c hc).1
  exact ⟨f1,f2,by rw [setRow_size]; exact f3⟩
 ·rw [xa] at df
  simp only [St.w8,o7] at df;by_cases mX:k=j
  ·subst mX
   rw [if_pos rfl] at df; cases df;intro cx;refine (k5 c hc).2.1 k ej hk ru aS ?_;cases ej with
   | var t1 x1 =>
    simp only [l7,i6.E3,Ix.C6,if_true,aAp] at cx ⊢;rcases cx with cx|cx
    ·exact .inl cx
    ·rcases (hO c cx).1 with h9|h9
     ·exact .inr h9
     ·cases h9
   | own t1 x1 =>
    simp only [l7,i6.E3,Ix.C6,if_true] at cx ⊢;rcases (hO c cx).1 with h9|h9
    ·exact h9
    ·cases h9
   | M0=>exact absurd rfl cF
  ·rw [if_neg mX] at df
   rw [(X6 mX O).l7];exact (k5 c hc).2.1 k ek hk ru df
 ·rw [bm.l7] at kr
  obtain ⟨Op',o1,o2⟩:=(k5 c hc).2.2 kr;obtain ⟨O3,n1,_,n3,_,n5,_⟩:=N5 mL (h.hs.ob i e hi) h.hs.slt mD dC k1;have ku:b0≠b:=by
   rintro rfl;exact h.hs.dj i j e ej hi aS bS b0 n5 m4
  have oB:O3=Op':=n3.det o1;have qK:∀ c'∈Op',c'≠b0:=by
   rintro c' dD rfl;rw [<- oB] at dD;exact h.hs.dj i j e ej hi aS bS c' (G6 (n1 c' dD)) m4
  refine ⟨Op',?_,o2⟩;rw [l6 (hold b ku.symm)];exact o1.u5 (λ c' dD=>hold c' (by
   rintro rfl;rcases dD with dD|dD
   ·exact qK _ dD rfl
   ·exact gY dD)) (λ _ h=>h)
theorem AG {T:List Nat} {f:AV->AV} (hf:Trim T f) {u v:AV} (h:f u=v) (hv:v.ref=true\/(v.plain=true/\v≠.any)):u=v:=by
 cases u with
 | cons a b=>rw [hf.cons] at h; subst h; rcases hv with hv|⟨hv,_⟩<;>cases hv
 | K6 l=>rw [hf.K6] at h; subst h; rcases hv with hv|⟨hv,_⟩<;>cases hv
 | C7 g l=>rw [hf.C7] at h; subst h; rcases hv with hv|⟨hv,_⟩<;>cases hv
 | bx l=>rw [hf.bx] at h; subst h; rcases hv with hv|⟨hv,_⟩<;>cases hv
 | rc g l=>rw [hf.rc] at h; subst h; rcases hv with hv|⟨hv,_⟩<;>cases hv
 | ptr i p=>rcases hf.atom _ (rfl:(AV.ptr i p).ref=true) with e|e<;>rw [e] at h<;>first|exact h|(subst h; rcases hv with hv|⟨_,hv⟩<;>first|cases hv|exact absurd rfl hv)
 | at_ i p=>rcases hf.atom _ (rfl:(AV.at_ i p).ref=true) with e|e<;>rw [e] at h<;>first|exact h|(subst h; rcases hv with hv|⟨_,hv⟩<;>first|cases hv|exact absurd rfl hv)
 | sub i p x y=>rcases hf.atom _ (rfl:(AV.sub i p x y).ref=true) with e|e<;>rw [e] at h<;>first|exact h|(subst h; rcases hv with hv|⟨_,hv⟩<;>first|cases hv|exact absurd rfl hv)
 | _=>rw [hf.plain _ rfl] at h; exact h
theorem c2G {u:Ty} {v:AV} {r:Sigma λ t:Ty=>List t.den} {g:List Nat} (h:v.vw s u=some (r,g)):v.ref=true\/(v.plain=true/\v≠.any):=by
 cases v with
 | ptr i p=>exact .inl rfl
 | at_ i p=>exact .inl rfl
 | sub i p x y=>exact .inl rfl
 | raw v=>exact .inr ⟨rfl,by intro h; cases h⟩
 | val t x=>exact .inr ⟨rfl,by intro h; cases h⟩
 | M1 t x=>exact .inr ⟨rfl,by intro h; cases h⟩
 | nil=>exact .inr ⟨rfl,by intro h; cases h⟩
 | _=>exfalso; simp [AV.vw,AV.els] at h
theorem RP {M:List Nat} {q:vW} {n:Nat} (h:DY ops M q n s=true) {j:Nat} (hj:j<n) (fB:j≠q.k) {o:Oper} (ho:ops[j]?=some o):(M.getD q.k 0).testBit j=true\/quiet o=true\/zi ops q n j o s=true:=by
 simp only [DY,aBh,aCo] at h;have:=h j hj;simp only [aBo,ho] at this;rcases this with h|(h|h)|h
 ·exact absurd (aAd h) fB
 ·exact .inl h
 ·exact .inr (.inl h)
 ·exact .inr (.inr h)
theorem TL {q:vW} {n j:Nat} {o:Oper} (h:zi ops q n j o s=true):o.guard=none/\o.dst=none/\∃ T ad x j0 q0 v z,o.op=.store T ad x/\s.ev ad=.ptr j0 q0/\s.ev x=.val v z/\(s.ev q.x).i8 j0=false/\(s.ev q.y).i8 j0=false/\∀ j',j<j'->j'<n->∀ o',ops[j']?=some o'->∀ d,o'.dst=some d->d∉looks ops o:=by
 unfold zi at h;split at h
 ·rename_i T ad x ho
  simp only [aAa] at h;obtain ⟨⟨⟨h1,hg⟩,hd⟩,h2⟩:=h;split at h1
  ·rename_i j0 q0 v z ha hx
   simp only [aAa,aAt] at h1;refine ⟨by simpa using hg,by simpa using hd,T,ad,x,j0,q0,v,z,ho,ha,hx,h1.1,h1.2,λ j' hj gl o' eV d hd hm=>?_⟩;simp only [aBh,aCo] at h2;have:=h2 j' gl;rw [aBo] at this;rcases this with h9|h9
   ·have:=aCy h9; omega
   ·rw [eV] at h9
    simp [zZ,hd,hm] at h9
  ·cases h1
 ·cases h
theorem Trim.zd {T T':List Nat} {f g:AV->AV} (hf:Trim T f) (hg:Trim T' g):Trim (T++T') (λ u=>g (f u)):=by
 refine ⟨λ a b=>by rw [hf.cons,hg.cons],λ l=>by rw [hf.K6,hg.K6],λ k l=>by rw [hf.C7,hg.C7],λ l=>by rw [hf.bx,hg.bx],λ k l=>by rw [hf.rc,hg.rc],λ u hu=>?_,λ u hu h=>?_,λ u hu=>by rw [hf.plain u hu,hg.plain u hu]⟩
 ·rcases hf.atom u hu with e|e
  ·rw [e]; exact hg.atom u hu
  ·rw [e]; exact .inr (hg.plain _ rfl)
 ·rw [hf.xG u hu (λ i hi=>h i (aBb _ hi)),hg.xG u hu (λ i hi=>h i (aBr _ hi))]
theorem Je {J:List Nat} {F:AV->AV} (hF:Trim J F) {s t:St} {z:Operand} (h:∀ m,z=.tmp m->look m t.fr=(look m s.fr).map F):t.ev z=F (s.ev z):=by
 cases z with
 | tmp m =>
  have hg:t.get m=F (s.get m):=by
   simp only [St.get,h m rfl];cases look m s.fr with
   | none=>exact (hF.plain _ rfl).symm
   | some v=>rfl
  rw [Ai,Ai];unfold gq;cases Nat.beq m J4 with
  | true=>exact (hF.plain _ rfl).symm
  | false=>exact hg
 | const c=>exact (hF.fix _ (λ i _=>LR c i)).symm
 | global g=>exact (hF.plain _ rfl).symm
 | func f=>exact (hF.fix _ (λ i _=>rfl)).symm
theorem EV {M:Nat->Nat} {q:vW} {n:Nat} {sF:St}:∀ {l:List Nat} {acc:List (Nat×St)} {s s':St},vE E ops M acc l s s'->N0 s' sF->uniq s.fr->l.Pairwise (·<·)->(∀ j∈l,j<n)->(∀ j∈l,∀ o,ops[j]?=some o->quiet o=true\/zi ops q n j o sF=true) ->
  ∃ (J:List Nat) (f:AV->AV),Trim J f/\(∀ j∈J,(sF.ev q.x).i8 j=false/\(sF.ev q.y).i8 j=false)/\(∀ i,i∉J->look i s'.hp=look i s.hp)/\∀ m,(∀ j∈l,∀ o,ops[j]?=some o->o.dst≠some m)->look m s'.fr=(look m s.fr).map f
 | [],acc,s,s',h,_,_,_,_,_=>by
  obtain rfl:s=s':=h;exact ⟨[],λ u=>u,Trim.id _,by simp,λ _ _=>rfl,λ m _=>by simp⟩
 | j::l,acc,s,s',⟨o,ho,_,p,s1,h1,_,h2⟩,db,hu,sB,bf,hq=>by
  obtain ⟨pg,pf⟩:=aEe.1 sB;obtain ⟨J,f,k1,k2,k3,k4⟩:=EV h2 db (R4 hu h1) pf (λ j' gl=>bf j' (by simp [gl])) (λ j' gl=>hq j' (by simp [gl]));rcases hq j (by simp) o ho with pc|pM
  ·obtain ⟨v,rfl⟩:=c3T pc h1
   refine ⟨J,f,k1,k2,λ i hi=>(k3 i hi).trans (by rw [xa]),λ m hm=>?_⟩;rw [k4 m (λ j' gl=>hm j' (by simp [gl])),X8,if_neg (hm j (by simp) o ho)]
  ·obtain ⟨hg,om,T,ad,x,j0,q0,v,z,g1,g2,g3,g4,g5,g6⟩:=TL pM
   obtain ⟨v0,ids,f0,h0,z1,z2,z3,z4,z5⟩:=zz (ops:=ops) hu h1;obtain ⟨s1',y1,_,y2⟩:=z5 s hu ((N0.refl s).yt _ _) z2;rw [h1] at y1; cases y1;have ix:∀ y,y∈o.op.operands.toList->sF.ev y=f (f0 (s.ev y)):=by
    intro y hy;refine Je (z1.zd k1) (λ m hm=>?_);subst hm;have ic:=xZ (ops:=ops) hy;rw [<- db.1 m,k4 m (λ j' gl o' eV dP=>g6 j' (pg j' gl) (bf j' (by simp [gl])) o' eV m dP ic),y2.fr,if_neg (by rw [om]; intro h; cases h)];cases look m s.fr<;>rfl
   have ha:s.ev ad=.ptr j0 q0:=AG (z1.zd k1) ((ix ad (by rw [g1]; simp [Op.operands])).symm.trans g2) (.inl rfl);have hx:s.ev x=.val v z:=AG (z1.zd k1) ((ix x (by rw [g1]; simp [Op.operands])).symm.trans g3) (.inr ⟨rfl,by intro h; cases h⟩);obtain ⟨e,r,_,_,_,_,_,_,rfl⟩:=OC hg g1 ha hx h1;refine ⟨[j0]++J,λ u=>f (AV.kill j0 e.kd q0 u),(Trim.kill j0 e.kd q0).zd k1,λ i hi=>?_,λ i hi=>?_,λ m hm=>?_⟩
   ·rcases aAi.1 hi with hi|hi
    ·rw [aBg] at hi; subst hi; exact ⟨g4,g5⟩
    ·exact k2 i hi
   ·rw [k3 i (λ h=>hi (aBr _ h)),xa]
    simp only [St.w8,o7];rw [if_neg (λ h=>hi (aBb _ (by simp [h])))];rfl
   ·rw [k4 m (λ j' gl=>hm j' (by simp [gl])),X8,if_neg (hm j (by simp) o ho)]
    have e1:look m ((s.kill j0 e.kd q0).w8 j0 (e.E3 r)).fr=(look m s.fr).map (AV.kill j0 e.kd q0):=P9 m _ _;rw [e1];cases look m s.fr<;>rfl
theorem KK {M:List Nat} {k n:Nat} (h:Ei ops M k n=true):n+1=ops.size/\k<n/\∃ ok,ops[k]?=some ok/\∀ j,j<n->(M.getD n 0).testBit j=true/\(j≠k->∃ o,ops[j]?=some o/\(∀ d,ok.dst=some d->o.dst≠some d) /\
  ((M.getD k 0).testBit j=true\/((quiet o=true\/Mp o=true)/\∀ d,o.dst=some d->d∉looks ops ok))):=by
 simp only [Ei,aAa] at h;obtain ⟨⟨h1,h2⟩,h3⟩:=h;have hn:=aAd h1;refine ⟨hn,by simpa [aDf] using h2,?_⟩;split at h3
 ·rename_i ok aM
  refine ⟨ok,aM,λ j hj=>?_⟩;simp only [aBh,aCo] at h3;have:=h3 j hj;simp only [aAa,aBo] at this;obtain ⟨m1,m2⟩:=this;refine ⟨m1,λ fB=>?_⟩;rcases m2 with m2|m2
  ·exact absurd (aAd m2) fB
  ·split at m2
   ·rename_i o ho
    simp only [aAa,aBo] at m2;refine ⟨o,ho,λ d hd gW=>?_,m2.2.imp id (λ h=>⟨h.1,λ d hd ik=>?_⟩)⟩
    ·have:=m2.1
     simp only [zZ,gW,hd,Option.toList] at this;simp at this
    ·have:=h.2
     simp only [zZ,hd] at this;simp [ik] at this
   ·cases m2
 ·cases h3
theorem JJ {M:List Nat} {q:vW} {n:Nat} {o:Oper} {s:St} {p:Prop} {s2:St} (h:zP E ops M q n o s=some (p,s2)):∃ T2 ad s3,o.guard=none/\o.op=.store T2 ad (.tmp q.d)/\(∀ t,ad=.tmp t->t≠q.d)/\(Ei ops M q.k n=true/\DY ops M q n s=true)/\H7 E.nt o.dst=true /\
  ye E q.T q.U T2 (s.ev q.x) (s.ev q.y) (s.ev ad) q.d s=some (p,s3)/\s2=s3.put o.dst (.raw undef):=by
 unfold zP at h;split at h
 ·rename_i T2 ad d' hg cw
  split at h
  ·rename_i hc
   simp only [aAa] at hc;obtain ⟨⟨⟨⟨c1,c2⟩,c3⟩,c5⟩,c4⟩:=hc;obtain rfl:=aAd c1;split at h
   ·rename_i p' s3 hs
    cases h;exact ⟨T2,ad,s3,hg,cw,λ t e=>by subst e; rintro rfl; simp at c2,⟨c3,c5⟩,c4,hs,rfl⟩
   ·cases h
  ·cases h
 ·cases h
theorem JB (hE:D3 E B) {x y adv:AV} {T U T2:TypeId} {d:Nat} {p:Prop} {s2:St} (hb:ye E T U T2 x y adv d s=some (p,s2)) (hp:p) :
  ∃ i p0 e t0 l m g r q bts,x=.at_ i p0/\adv=.ptr i p0/\look i s.hp=some e/\i∉g/\g.Nodup/\(g.all λ i=>!pinned i)=true/\j9 e.ty e.x p0=some ⟨.d0 true t0,l⟩/\I6 E T2 (.d0 true t0)=true /\
   u6 e.ty e.x p0 (.d0 true t0) (l++m)=some r/\s2=(((St.w9 g (s.put (some d) .any)).kill i e.kd p0).w8 i (e.E3 r))/\look T E.tt=some ⟨.d0 q t0,bts⟩ /\
   ((∃ e',E.P.underlying U=some (.slice e'))\/E.P.underlying U=some .string)/\y.vw s t0=some (⟨t0,m⟩,g)/\l.length+m.length<=140737488355328/\(l.length+m.length)*t0.wb<=140737488355328 /\
   ((∃ t x,e=.var t x)\/∃ t x j q,e=.own (.d0 true t) x/\p0=.idx j::q):=by
 unfold ye at hb;split at hb
 ·rename_i i p0 j q q1 t0 bts u1 bts1 hT hU
  split at hb
  ·rename_i e aS jA
   simp only [aAa] at jA;obtain ⟨bS,jA⟩:=jA;have bS:=aAd bS;subst bS;split at hb
   ·rename_i u l hg
    split at hb
    ·rename_i t m g cp
     split at hb
     ·rename_i hu
      split at hb
      ·rename_i ht
       subst hu; subst ht;split at hb
       ·rename_i r aK
        split at hb
        ·rename_i bH
         cases hb;simp only [aAa,aAt] at bH;obtain ⟨⟨⟨⟨bH,bQ⟩,eh⟩,ig⟩,dO⟩:=bH;obtain ⟨rfl,iT,gS⟩:=hp;have eh:i∉g:=by intro hm; simp [hm] at eh
         have hk:(∃ e',E.P.underlying U=some (.slice e'))\/E.P.underlying U=some .string:=by
          cases u1<;>first|cases jA|skip
          ·exact .inr (U9 (r7 hE hU))
          ·obtain ⟨et,k',f1,_⟩:=G5 (r7 hE hU)
           exact .inl ⟨et,f1⟩
         exact ⟨i,q,e,_,l,m,g,r,_,_,rfl,rfl,aS,eh,CS ig,dO,hg,bH,aK,rfl,hT,hk,cp,iT,gS,(CB bQ).2⟩
        ·cases hb
       ·cases hb
      ·cases hb
     ·cases hb
    ·cases hb
   ·cases hb
  ·cases hb
 ·cases hb
theorem P6.cut:∀ {A C:List Oper} {o:Oper},P6 (A++o::C)->P6 (A++C)/\∀ x∈A++C,∀ d,x.dst=some d->o.dst≠some d
 | [],C,o,h=>⟨h.2,λ x hx d gg gW=>h.1 d gW x hx gg⟩
 | y::A,C,o,h=>by
  obtain ⟨m1,m2⟩:=P6.cut h.2;refine ⟨⟨λ d hd x hx=>h.1 d hd x (by simp at hx ⊢; rcases hx with hx|hx<;>simp [hx]),m1⟩,λ x hx d gg gW=>?_⟩;rcases aAp.1 hx with rfl|hx
  ·exact h.1 d gg o (by simp) gW
  ·exact m2 x hx d gg gW
theorem P6.sub {f:Nat->Bool}:∀ {l:List Nat},P6 (rem ops l)->P6 (rem ops (l.filter f))
 | [],h=>h
 | i::l,h=>by
  cases ho:ops[i]? with
  | none =>
   have e:rem ops (i::l)=rem ops l:=by simp [rem,ho]
   rw [e] at h;have:=P6.sub (f:=f) h;rw [aDg]
   split
   ·have e:rem ops (i::l.filter f)=rem ops (l.filter f):=by simp [rem,ho]
    rw [e]; exact this
   ·exact this
  | some o =>
   rw [ED ho] at h;rw [aDg]
   split
   ·rw [ED ho]
    refine ⟨λ d hd x hx=>h.1 d hd x ?_,P6.sub h.2⟩;obtain ⟨j,hj,td⟩:=aBz.1 hx;exact aBz.2 ⟨j,(aBt.1 hj).1,td⟩
   ·exact P6.sub h.2
theorem UE {n i:Nat} {listed:Array Bool} {f:Nat->Bool} (hs:listed.size=n) (hi:i∈idxs n listed) (hf:f i=true):∃ pre post,(idxs n listed).filter f=pre++i::post/\(∀ j∈pre,j<i) /\
  (idxs n (listed.setIfInBounds i true)).filter f=pre++post:=by
 obtain ⟨pre,post,e,h1,h2⟩:=Lh hi;refine ⟨pre.filter f,post.filter f,by rw [e,aDh,aDg,if_pos hf],λ j hj=>h1 j (aBt.1 hj).1,?_⟩;rw [Ci hs (F3.1 hi).1,h2,aDh]
theorem ZI {n i:Nat} {listed:Array Bool} {f g:Nat->Bool} (hs:listed.size=n) (hi:i<n) (hg:∀ j,g j=(f j && !(j == i))):(idxs n (listed.setIfInBounds i true)).filter f=(idxs n listed).filter g:=by
 rw [Ci hs hi,List.filter_filter];exact aGe (λ j _=>(hg j).symm)
theorem Ch {n i fuel:Nat} {listed:Array Bool} (hs:listed.size=n) (hi:i∈idxs n listed) (hl:(idxs n listed).length=fuel+1):(idxs n (listed.setIfInBounds i true)).length=fuel:=by
 obtain ⟨pre,post,e,h1,h2⟩:=Lh hi;rw [Ci hs (F3.1 hi).1,h2];rw [e] at hl;simp at hl ⊢; omega
section
variable {q:vW} {n:Nat} {s1:St}
theorem zl.set {listed:Array Bool} (cD:zl ops listed) {i:Nat} {o:Oper} (ho:ops[i]?=some o) (bc:∀ e∈o.after,Region.binds .any e=true->listed.getD e.on false=true):zl ops (listed.setIfInBounds i true):=by
 intro k y hy hk e' eD cS;by_cases gC:k=i
 ·subst gC
  rw [ho] at hy; cases hy;exact getD_set_true (bc e' eD cS)
 ·rw [getD_set_ne true (Ne.symm gC)] at hk
  exact getD_set_true (cD k y hy hk e' eD cS)
theorem a95 {listed:Array Bool} {i:Nat} (hi:i<listed.size):(listed.setIfInBounds i true).getD i false=true:=by simp [hi]
theorem Tu (hd:wW ops=true) {listed:Array Bool} (aW:listed.size=ops.size) (bt:idxs ops.size listed≠[]):Region.ready .any ops listed≠[]:=by
 have hM:=a49 hd;intro hr;cases kY:idxs ops.size listed with
 | nil=>exact bt kY
 | cons i l =>
  have bn:i∈idxs ops.size listed:=by rw [kY]; simp
  obtain ⟨h1,h2⟩:=F3.1 bn;have ho:ops[i]?=some ops[i]:=aBy h1;have:i∈Region.ready .any ops listed:=by
   refine mem_ready.2 ⟨h2,ops[i],ho,λ e he hb=>?_⟩;have bf:=(hM i _ ho).1 e he hb;cases hle:listed.getD e.on true with
   | true =>
    have:e.on<listed.size:=by omega
    simp [this] at hle ⊢; exact hle
   | false =>
    exfalso;have jZ:e.on∈idxs ops.size listed:=F3.2 ⟨by omega,hle⟩;have hs:=CQ ops.size listed;rw [kY] at hs jZ;rcases aAp.1 jZ with e1|e1
    ·omega
    ·have:=(aEe.1 hs).1 _ e1; omega
  rw [hr] at this;cases this
theorem c1x (hE:D3 E B) (hn:B.n=E.nt) (hd:wW ops=true) {Q:Exit->Act->World->Prop} (fg:P6 ops.toList) (hA:Bg E ops q) {o2:Oper} (iG:ops[n]?=some o2) {p:Prop} {s2:St} (eN:zP E ops (E0 ops.toList []) q n o2 s1=some (p,s2)) (hp:p)
  (hQ:∀ S ι a w,RS B S ι s2 a w->Q .normal a w) {i:Nat} {e:i6} {p0:List Step} {t0:Ty} {l m:List t0.den} {g:List Nat} (hx:s1.ev q.x=.at_ i p0) (he:look i s1.hp=some e) (aM:x8 e.ty e.x p0) (hg:j9 e.ty e.x p0=some ⟨.d0 true t0,l⟩)
  (cp:(s1.ev q.y).vw s1 t0=some (⟨t0,m⟩,g)) {v':Value} :
  ∀ (fuel:Nat) (listed:Array Bool) (S:Nat->Prop) (ι:Ix) (s s':St) (a:Act) (w:World),listed.size=ops.size->(idxs ops.size listed).length=fuel->zl ops listed->listed.getD q.k false=true->listed.getD n true=false->uniq s.fr->N9 s (rem ops ((idxs ops.size listed).filter (λ j=>!(j == n)))) ->
   vE E ops (λ i=>(E0 ops.toList []).getD i 0) [] ((idxs ops.size listed).filter (λ j=>!(j == n))) s s'->N0 s' s1->RS B S ι s a w->a.eval (.tmp q.d)=v'->(∀ b off,Loc w.heap ι i e p0=some (b,off)->yS B S ι s.hp g i e p0 t0 l m b off v' w) ->
   wpAny E.P .any ops Q fuel listed a w:=by
 have hM:=a49 hd;obtain ⟨T2,ad,s3,f1,f2,f3,⟨f4,f4'⟩,f5,f6,rfl⟩:=JJ eN;obtain ⟨gi,nZ,ok,iF,fA⟩:=KK f4;obtain ⟨oa,c,a1,a2,a3,a4,a5,a6,a7,a8⟩:=hA;have e9:oa=ok:=by rw [a1] at iF; cases iF; rfl
 subst e9;have mJ:∀ j o,j<n->j≠q.k->ops[j]?=some o->o.dst≠some q.d:=by
  intro j o hj fB ho;obtain ⟨o',h1,h2,_⟩:=(fA j hj).2 fB;rw [ho] at h1; cases h1;exact h2 q.d a3
 intro fuel
 induction fuel with
 | zero =>
  intro listed S ι s s' a w aW hlen cD df gk hu fC aP db cn hv nW;exfalso;have fQ:idxs ops.size listed=[]:=aCj.1 hlen;have:n∈idxs ops.size listed:=F3.2 ⟨by omega,gk⟩;rw [fQ] at this; cases this
 | succ fuel ih =>
  intro listed S ι s s' a w aW hlen cD df gk hu fC aP db cn hv nW;refine ⟨λ hr=>absurd hr (Tu hd aW (by intro h; rw [h] at hlen; cases hlen)),λ i' hi=>?_⟩;obtain ⟨h1,o,ho,bc⟩:=mem_ready.1 hi;have cT:i'<ops.size:=(aAo.1 ho).1;have bn:i'∈idxs ops.size listed:=F3.2 ⟨cT,h1⟩;have hY:∀ j,j<ops.size->((E0 ops.toList []).getD i' 0).testBit j=true->listed.getD j false=true:=Fl (M:=λ i=>(E0 ops.toList []).getD i 0) (λ i o ho=>⟨(hM i o ho).1,(hM i o ho).2.1⟩) cD i' o ho bc;by_cases fo:i'=n
  ·
   subst fo;rw [iG] at ho; cases ho;have bD:∀ j,j∈idxs ops.size listed->j=i':=by
    intro j hj;obtain ⟨j1,j2⟩:=F3.1 hj;by_cases e:j=i'
    ·exact e
    ·have:=hY j j1 (fA j (by omega)).1
     rw [V8 this] at j2; cases j2
   have fQ:(idxs ops.size listed).filter (λ j=>!(j == i'))=[]:=by
    rw [aHg];intro j hj; simp [bD j hj]
   rw [fQ] at aP;obtain rfl:s=s':=aP;have mi:=Ed db cn;have oW:RS B S ι (s1.put (some q.d) .any) a w:=mi.forget q.d;obtain ⟨i2,p2,e2,t2,l2,m2,g2,r,qq,bts,b1,b2,b3,b4,b5,b6,b7,b8,b9,Bv,Bu,Bt,xh,Bs,Br,yR⟩:=JB hE f6 hp;rw [hx] at b1;obtain ⟨rfl,rfl⟩:i=i2/\p0=p2:=by simpa using b1
   rw [he] at b3; cases b3;rw [hg] at b7;simp only [aAc,Sigma.mk.injEq,Ty.d0.injEq,true_and] at b7;obtain ⟨b7,b7'⟩:=b7;subst b7;obtain rfl:l=l2:=eq_of_heq b7';rw [cp] at xh;simp only [aAc,aAx,Sigma.mk.injEq,heq_eq_eq,true_and] at xh;obtain ⟨rfl,rfl⟩:=xh;have gI:=mi.ev ad;rw [b2] at gI;obtain ⟨e',b,off,c1,c2,c3,c4⟩:=gI;rw [he] at c1; cases c1;have c4:a.eval ad=.pointer (some ⟨b,off,none⟩):=by simpa using c4
   have bQ:=Ts hE oW (g:=g) b6 b4 (e:=e) he aM hg (by
    obtain ⟨O',y1,y2,y3,y4,y5⟩:=nW b off c3;exact ⟨O',y1,y2,y3,y4,λ cc hc=>⟨(y5 cc hc).1,λ j ej hj fV di=>(y5 cc hc).2.1 j ej hj fV ((db.2 j).trans di),(y5 cc hc).2.2⟩⟩) f2 c4 hv b8 b9
   have ke:=Ch aW bn hlen;have jX:idxs ops.size (listed.setIfInBounds i' true)=[]:=by
    rw [Ci aW cT];rw [aHg];intro j hj; simp [bD j hj]
   have tD:fuel=0:=by rw [jX] at ke; exact ke.symm
   subst tD;have hw:o2.wp E.P a w (wpAny E.P .any ops Q 0 (listed.setIfInBounds i' true)) Q:=by
    refine bQ _ _ (λ S' ι' w' val h1 h2=>⟨?_,hQ S' ι' _ w' ?_⟩)
    ·rw [aDl]
     intro j hj;obtain ⟨j1,oj,j2,_⟩:=mem_ready.1 hj;have:j∈idxs ops.size (listed.setIfInBounds i' true):=F3.2 ⟨(aAo.1 j2).1,j1⟩;rw [jX] at this; cases this
    ·rw [<- Bv] at h1 h2
     exact h1.put (by rw [hn]; exact f5) h2
   unfold wpOp;rw [iG];simp only [Region.wanted,f1,if_true];exact .inl hw
  ·
   have bf:i'<n:=by omega
   have gC:i'≠q.k:=by rintro rfl; rw [V8 df] at h1; cases h1
   obtain ⟨o',eV,kn,uN⟩:=(fA i' bf).2 gC;rw [ho] at eV; cases eV;have mN:∀ j,j∈idxs ops.size listed->¬ ((E0 ops.toList []).getD q.k 0).testBit j=true:=by
    intro j hj hb;have qk:∀ e∈oa.after,Region.binds .any e=true->listed.getD e.on false=true:=cD q.k oa a1 (V8 df);have h9:=Fl (M:=λ i=>(E0 ops.toList []).getD i 0) (λ i o ho=>⟨(hM i o ho).1,(hM i o ho).2.1⟩) cD q.k oa a1 qk j (F3.1 hj).1 hb;have h8:=(F3.1 hj).2;rw [V8 h9] at h8; cases h8
   have fk:∀ j∈(idxs ops.size listed).filter (λ j=>!(j == n)),∀ oj,ops[j]?=some oj->quiet oj=true\/zi ops q n j oj s1=true:=by
    intro j hj oj jV;obtain ⟨j1,j2⟩:=aBt.1 hj;simp only [aAt,beq_eq_false_iff_ne,ne_eq] at j2;have jn:j<n:=by have:=(F3.1 j1).1; omega
    have jk:j≠q.k:=by rintro rfl; have:=(F3.1 j1).2; rw [V8 df] at this; cases this
    rcases RP f4' jn jk jV with h9|h9|h9
    ·exact absurd h9 (mN j j1)
    ·exact .inl h9
    ·exact .inr h9
   have gA:∀ j∈(idxs ops.size listed).filter (λ j=>!(j == n)),j<n:=by
    intro j hj;obtain ⟨j1,j2⟩:=aBt.1 hj;simp only [aAt,beq_eq_false_iff_ne,ne_eq] at j2;have:=(F3.1 j1).1; omega
   have fe:((idxs ops.size listed).filter (λ j=>!(j == n))).Pairwise (·<·):=(CQ ops.size listed).sublist aHy;have mQ:i'∈(idxs ops.size listed).filter (λ j=>!(j == n)):=aBt.2 ⟨bn,by simpa using fo⟩;have mY:=fk i' mQ o ho;have rh:=aP;obtain ⟨pre,post,e1,kU,e2⟩:=UE (f:=λ j=>!(j == n)) aW bn (by simpa using fo);rw [e1] at fC aP;have er:rem ops (pre++i'::post)=rem ops pre++o::rem ops post:=by simp [rem,aDa,ho]
   have er2:rem ops (pre++post)=rem ops pre++rem ops post:=by simp [rem,aDa]
   have gG:P6 (rem ops (pre++i'::post)):=by
    rw [<- e1];refine P6.sub ?_;have:rem ops (idxs ops.size listed)=rem ops ((List.range ops.size).filter (λ i=>!listed.getD i true)):=rfl;rw [this];refine P6.sub ?_;have h9:=Eo (ops:=ops);rw [yF] at h9;rw [h9]; exact fg
   have fm:∀ j∈pre,((E0 ops.toList []).getD i' 0).testBit j=false/\∀ x,ops[j]?=some x->indep ops x o=true:=by
    intro j hj;have dG:j∈idxs ops.size listed:=by
     have:j∈(idxs ops.size listed).filter (λ j=>!(j == n)):=by rw [e1]; simp [hj]
     exact (aBt.1 this).1
    have gj:((E0 ops.toList []).getD i' 0).testBit j=false:=by
     cases hm:((E0 ops.toList []).getD i' 0).testBit j with
     | false=>rfl
     | true =>
      exfalso;have iZ:=hY j (F3.1 dG).1 hm;have:=(F3.1 dG).2;rw [V8 iZ] at this;cases this
    refine ⟨gj,λ x hx=>?_⟩;rcases (hM i' o ho).2.2 j x (kU j hj) hx with hm|hm
    ·rw [gj] at hm; cases hm
    ·exact hm
   obtain ⟨pp,sa,sb,k1,k2,k3,k4,_⟩:=Eb ho gG fm hu (fC.sub (λ y hy=>by rw [BX]; exact aBb _ hy)) aP;rw [er] at gG fC;have gH:=P6.cut gG;rcases mY with pc|pM
   ·obtain ⟨q1,q2,v,val,rfl,q3,q4⟩:=c3S hE cn pc k1 k2
    have fR:wpAny E.P .any ops Q fuel (listed.setIfInBounds i' true) (a.put o.dst val) w:=by
     refine ih (listed.setIfInBounds i' true) S ι (s.put o.dst v) sb (a.put o.dst val) w (by simp [aW]) (Ch aW bn hlen) (cD.set ho bc) (getD_set_true df) (by rw [getD_set_ne true fo]; exact gk) (R4 hu k1) ?_ (by rw [e2]; exact k3) (k4.trans db) (cn.put (by rw [hn]; exact q2) q4) ?_ (λ b off hb=>by rw [xa]; exact nW b off hb)
     ·rw [e2,er2]
      exact N9.step hu (λ y hy=>fC y (by simp at hy ⊢; rcases hy with hy|hy<;>simp [hy])) gH.2 k1
     ·rw [<- hv]
      have bt:=mJ i' o bf gC ho;cases gW:o.dst with
      | none=>rfl
      | some d =>
       rw [gW] at bt;exact yK (λ e=>bt (by rw [e]))
    unfold wpOp;rw [ho];simp only [Region.wanted,q1,if_true];refine .inl ?_;unfold Oper.wp;rw [q3];exact fR
   ·
    obtain ⟨dC,om,T,ad',x',j0,q0,vt,z,g1,g2,g3,g4,g5,g6⟩:=TL pM;rw [e1] at fe gA fk;have bU:List.Sublist (pre++post) (pre++i'::post):=List.Sublist.append (List.Sublist.refl _) (List.sublist_cons_self _ _);obtain ⟨J,f,t1,t2,t3,t4⟩:=EV k3 (k4.trans db) (R4 hu k1) (fe.sublist bU) (λ j hj=>gA j (bU.subset hj)) (λ j hj=>fk j (bU.subset hj));have hpost:∀ j∈post,i'<j:=λ j hj=>(aEe.1 (aHo.1 fe).2.1).1 j hj;obtain ⟨v0,ids,f0,uS,z1,z2,z3,z4,z5⟩:=zz (ops:=ops) hu k1;obtain ⟨sa',y1,_,y2⟩:=z5 s hu ((N0.refl s).yt _ _) z2;rw [k1] at y1; cases y1;have ix:∀ y,y∈o.op.operands.toList->s1.ev y=f (f0 (s.ev y)):=by
     intro y hy;refine Je (z1.zd t1) (λ m' hm=>?_);subst hm;have ic:=xZ (ops:=ops) hy;rw [<- (k4.trans db).1 m',t4 m' (λ j hj o' eV dP=>?_),y2.fr,if_neg (by rw [om]; intro h; cases h)]
     ·cases look m' s.fr<;>rfl
     ·rcases aAi.1 hj with hj|hj
      ·exact (SI ((fm j hj).2 o' eV)).1 m' dP ic
      ·exact g6 j (hpost j hj) (gA j (by simp [hj])) o' eV m' dP ic
    have tR:s.ev ad'=.ptr j0 q0:=AG (z1.zd t1) ((ix ad' (by rw [g1]; simp [Op.operands])).symm.trans g2) (.inl rfl);have eg:s.ev x'=.val vt z:=AG (z1.zd t1) ((ix x' (by rw [g1]; simp [Op.operands])).symm.trans g3) (.inr ⟨rfl,by intro h; cases h⟩);obtain ⟨ι',w',r1,r2,r3⟩:=Zq hE hn cn dC g1 tR eg k1;have bS:i≠j0:=by
     rintro rfl;rw [hx] at g4;simp only [AV.i8,aFp] at g4;cases g4
    have fV:j0∉g:=λ hm=>by rw [Rc cp j0 hm] at g5; cases g5
    obtain ⟨J2,f2',u1,u2,u3,u4⟩:=EV (ops:=ops) (q:=q) (n:=n) aP db hu fe gA fk;have lU:look i s.hp=some e:=by
     rw [<- u3 i (λ hm=>by
      have:=(u2 i hm).1;rw [hx] at this;simp only [AV.i8,aFp] at this;cases this),db.2 i]
     exact he
    obtain ⟨i2,p2,e2',t2',l2,m2,g2',r',qq,bts,b1,b2,b3,b4,b5,b6,b7,b8,b9,Bv,Bu,Bt,xh,Bs,Br,yR⟩:=JB hE f6 hp;rw [hx] at b1;obtain ⟨rfl,rfl⟩:i=i2/\p0=p2:=by simpa using b1
    rw [he] at b3; cases b3;obtain ⟨b,off,hJ⟩:=Cj (cn.hs.ob i e lU) cn.hs.slt yR aM hg;have hP:=r3 bS fV lU aM hg (nW b off hJ);have fR:wpAny E.P .any ops Q fuel (listed.setIfInBounds i' true) (a.put o.dst undef) w':=by
     refine ih (listed.setIfInBounds i' true) S ι' sa sb (a.put o.dst undef) w' (by simp [aW]) (Ch aW bn hlen) (cD.set ho bc) (getD_set_true df) (by rw [getD_set_ne true fo]; exact gk) (R4 hu k1) ?_ (by rw [e2]; exact k3) (k4.trans db) r2 ?_ (λ b9 off9 rF=>?_)
     ·rw [e2,er2]
      exact N9.step hu (λ y hy=>fC y (by simp at hy ⊢; rcases hy with hy|hy<;>simp [hy])) gH.2 k1
     ·rw [<- hv,om]; rfl
     ·obtain ⟨_,h9,_⟩:=id hP
      rw [h9] at rF; cases rF;exact hP
    unfold wpOp;rw [ho];simp only [Region.wanted,dC,if_true];refine .inl ?_;unfold Oper.wp;rw [r1];exact fR
theorem b8E (hE:D3 E B) (hn:B.n=E.nt) (hd:wW ops=true) {Q:Exit->Act->World->Prop} (fg:P6 ops.toList) (hA:Bg E ops q) {o2:Oper} (iG:ops[n]?=some o2) {p:Prop} {s2:St} (eN:zP E ops (E0 ops.toList []) q n o2 s1=some (p,s2)) (hp:p)
  (hQ:∀ S ι a w,RS B S ι s2 a w->Q .normal a w) :
  ∀ (fuel:Nat) (listed:Array Bool) (S:Nat->Prop) (ι:Ix) (s s':St) (a:Act) (w:World),listed.size=ops.size->(idxs ops.size listed).length=fuel->zl ops listed->listed.getD q.k true=false->listed.getD n true=false->uniq s.fr->N9 s (rem ops ((idxs ops.size listed).filter (λ j=>!(j == n) && !(j == q.k)))) ->
   vE E ops (λ i=>(E0 ops.toList []).getD i 0) [] ((idxs ops.size listed).filter (λ j=>!(j == n) && !(j == q.k))) s s'->N0 s' s1->look q.d s.fr=some .any->RS B S ι s a w ->
   wpAny E.P .any ops Q fuel listed a w:=by
 have hM:=a49 hd;obtain ⟨T2,ad,s3,f1,f2,f3,⟨f4,f4'⟩,f5,f6,_⟩:=JJ eN;obtain ⟨gi,nZ,ok,iF,fA⟩:=KK f4;have uu:=hA;obtain ⟨oa,c,a1,a2,a3,a4,a5,a6,a7,a8⟩:=hA;have e9:oa=ok:=by rw [a1] at iF; cases iF; rfl
 subst e9;intro fuel
 induction fuel with
 | zero =>
  intro listed S ι s s' a w aW hlen cD df gk hu fC aP db dn cn;exfalso;have fQ:idxs ops.size listed=[]:=aCj.1 hlen;have:n∈idxs ops.size listed:=F3.2 ⟨by omega,gk⟩;rw [fQ] at this; cases this
 | succ fuel ih =>
  intro listed S ι s s' a w aW hlen cD df gk hu fC aP db dn cn;refine ⟨λ hr=>absurd hr (Tu hd aW (by intro h; rw [h] at hlen; cases hlen)),λ i' hi=>?_⟩;obtain ⟨h1,o,ho,bc⟩:=mem_ready.1 hi;have cT:i'<ops.size:=(aAo.1 ho).1;have bn:i'∈idxs ops.size listed:=F3.2 ⟨cT,h1⟩;have hY:∀ j,j<ops.size->((E0 ops.toList []).getD i' 0).testBit j=true->listed.getD j false=true:=Fl (M:=λ i=>(E0 ops.toList []).getD i 0) (λ i o ho=>⟨(hM i o ho).1,(hM i o ho).2.1⟩) cD i' o ho bc;by_cases fo:i'=n
  ·exfalso
   subst fo;have:=hY q.k (by omega) (fA q.k nZ).1;rw [V8 this] at df; cases df
  have bf:i'<n:=by omega
  by_cases gC:i'=q.k
  ·
   subst gC;rw [a1] at ho; cases ho;have gA:∀ j∈(idxs ops.size listed).filter (λ j=>!(j == n) && !(j == q.k)),j<n:=by
    intro j hj;obtain ⟨j1,j2⟩:=aBt.1 hj;simp only [aAa,aAt,beq_eq_false_iff_ne,ne_eq] at j2;have:=(F3.1 j1).1; omega
   have iz:∀ j∈(idxs ops.size listed).filter (λ j=>!(j == n) && !(j == q.k)),∀ oj,ops[j]?=some oj->(quiet oj=true\/zi ops q n j oj s1=true)/\oj.dst≠some q.d/\∀ d,oj.dst=some d->d∉looks ops oa:=by
    intro j hj oj jV;have jn:=gA j hj;obtain ⟨j1,j2⟩:=aBt.1 hj;simp only [aAa,aAt,beq_eq_false_iff_ne,ne_eq] at j2;have lO:¬ ((E0 ops.toList []).getD q.k 0).testBit j=true:=by
     intro g3;have:=hY j (by omega) g3;have h9:=(F3.1 j1).2;rw [V8 this] at h9; cases h9
    obtain ⟨o',g1,g2,g3⟩:=(fA j jn).2 j2.2;rw [jV] at g1; cases g1;refine ⟨?_,g2 q.d a3,?_⟩
    ·rcases RP f4' jn j2.2 jV with h9|h9|h9
     ·exact absurd h9 lO
     ·exact .inl h9
     ·exact .inr h9
    ·rcases g3 with g3|g3
     ·exact absurd g3 lO
     ·exact g3.2
   have fe:((idxs ops.size listed).filter (λ j=>!(j == n) && !(j == q.k))).Pairwise (·<·):=(CQ ops.size listed).sublist aHy;obtain ⟨J,f,t1,t2,t3,t4⟩:=EV (ops:=ops) (q:=q) (n:=n) aP db hu fe gA (λ j hj oj jV=>(iz j hj oj jV).1);obtain ⟨i,p0,e,t0,l,m,g,r,qq,bts,b1,b2,b3,b4,b5,b6,b7,b8,b9,Bv,Bu,Bt,xh,Bs,Br,yR⟩:=JB hE f6 hp;have fU:∀ j,j∉J->look j s.hp=look j s1.hp:=λ j hj=>by rw [<- t3 j hj]; exact db.2 j
   have cB:∀ x,x∈oa.op.operands.toList->s1.ev x=f (s.ev x):=by
    intro x hx;refine Je t1 (λ t ht=>?_);subst ht;rw [<- db.1 t,t4 t (λ j hj oj jV dP=>(iz j hj oj jV).2.2 t dP (xZ hx))]
   have eX:q.x∈oa.op.operands.toList:=by rw [a5]; exact xV (by rw [a7]; simp)
   have gM:q.y∈oa.op.operands.toList:=by rw [a5]; exact xV (by rw [a7]; simp)
   have qR:s.ev q.x=.at_ i p0:=AG t1 ((cB _ eX).symm.trans b1) (.inl rfl);have rR:s.ev q.y=s1.ev q.y:=AG t1 (cB _ gM).symm (c2G xh);have lU:look i s.hp=some e:=(fU i (λ hm=>by
    have:=(t2 i hm).1;rw [b1] at this;simp only [AV.i8,aFp] at this;cases this)).trans b3
   have nz:(s.ev q.y).vw s t0=some (⟨t0,m⟩,g):=by
    rw [rR,IK (s:=s1) (t:=s) (λ j hj=>fU j (λ hm=>by rw [(t2 j hm).2] at hj; cases hj))];exact xh
   have aM:x8 e.ty e.x p0:=by
    obtain ⟨e2,u,y2,cs,r1,aM,_⟩:=C3 cn qR;rw [lU] at r1; cases r1;exact aM
   obtain ⟨b,off,hl⟩:=Cj (cn.hs.ob i e lU) cn.hs.slt yR aM b7;obtain ⟨v',w',c1,c2,c3,c4⟩:=TY hE cn a5 a6 a7 a8 Bt Bu qR lU yR b7 hl nz b4 b5 Bs Br;have eA:Loc w'.heap ι i e p0=some (b,off):=by obtain ⟨_,h9,_⟩:=c4; exact h9
   have iA:RS B S ι s (a.put (some q.d) v') w':=by
    have h9:=c2.put (d:=some q.d) (by rw [hn]; exact a4) (v:=.any) (val:=v') ⟨v',rfl⟩;refine Ed (s:=s.put (some q.d) .any) (t:=s) ⟨λ t=>?_,λ _=>rfl⟩ h9;rw [X8]
    split
    ·rename_i e9; cases e9; exact dn.symm
    ·rfl
   have dB:(a.put (some q.d) v').eval (.tmp q.d)=v':=Kq (by rw [cn.sz,hn]; simpa [H7,aDf] using a4);have aK:(idxs ops.size (listed.setIfInBounds q.k true)).filter (λ j=>!(j == n))=(idxs ops.size listed).filter (λ j=>!(j == n) && !(j == q.k)):=ZI aW cT (λ j=>rfl);have fR:wpAny E.P .any ops Q fuel (listed.setIfInBounds q.k true) (a.put (some q.d) v') w':=by
    refine c1x hE hn hd fg uu iG eN hp hQ (i:=i) (e:=e) (p0:=p0) (t0:=t0) (l:=l) (m:=m) (g:=g) b1 b3 aM b7 xh (v':=v') fuel (listed.setIfInBounds q.k true) S ι s s' _ w' (by simp [aW]) (Ch aW bn hlen) (cD.set a1 bc) (a95 (by omega)) (by rw [getD_set_ne true (by omega)]; exact gk) hu (by rw [aK]; exact fC) (by rw [aK]; exact aP) db iA dB ?_;intro b' aA cS;rw [eA] at cS; cases cS;exact c4
   unfold wpOp;rw [a1];simp only [Region.wanted,a2,if_true];refine .inl ?_;unfold Oper.wp;rw [c1];show wpAny E.P .any ops Q fuel (listed.setIfInBounds q.k true) (a.put oa.dst v') w';rw [a3];exact fR
  ·
   obtain ⟨pre,post,e1,kU,e2⟩:=UE (f:=λ j=>!(j == n) && !(j == q.k)) aW bn (by simp [fo,gC]);rw [e1] at fC aP;have er:rem ops (pre++i'::post)=rem ops pre++o::rem ops post:=by simp [rem,aDa,ho]
   have er2:rem ops (pre++post)=rem ops pre++rem ops post:=by simp [rem,aDa]
   have gG:P6 (rem ops (pre++i'::post)):=by
    rw [<- e1];refine P6.sub ?_;have:rem ops (idxs ops.size listed)=rem ops ((List.range ops.size).filter (λ i=>!listed.getD i true)):=rfl;rw [this];refine P6.sub ?_;have h9:=Eo (ops:=ops);rw [yF] at h9;rw [h9]; exact fg
   have fm:∀ j∈pre,((E0 ops.toList []).getD i' 0).testBit j=false/\∀ x,ops[j]?=some x->indep ops x o=true:=by
    intro j hj;have dG:j∈idxs ops.size listed:=by
     have:j∈(idxs ops.size listed).filter (λ j=>!(j == n) && !(j == q.k)):=by rw [e1]; simp [hj]
     exact (aBt.1 this).1
    have gj:((E0 ops.toList []).getD i' 0).testBit j=false:=by
     cases hm:((E0 ops.toList []).getD i' 0).testBit j with
     | false=>rfl
     | true =>
      exfalso;have iZ:=hY j (F3.1 dG).1 hm;have:=(F3.1 dG).2;rw [V8 iZ] at this;cases this
    refine ⟨gj,λ x hx=>?_⟩;rcases (hM i' o ho).2.2 j x (kU j hj) hx with hm|hm
    ·rw [gj] at hm; cases hm
    ·exact hm
   obtain ⟨pp,sa,sb,k1,k2,k3,k4,_⟩:=Eb ho gG fm hu (fC.sub (λ y hy=>by rw [BX]; exact aBb _ hy)) aP;have aJ:o.dst≠some q.d:=by
    obtain ⟨o',g1,g2,_⟩:=(fA i' bf).2 gC;rw [ho] at g1; cases g1;exact g2 q.d a3
   have nA:look q.d sa.fr=some .any:=by
    obtain ⟨v,ids,f,hf,z1,z2,z3,z4,z5⟩:=zz (ops:=ops) hu k1;obtain ⟨sa',y1,_,y2⟩:=z5 s hu ((N0.refl s).yt _ _) z2;rw [k1] at y1; cases y1;rw [y2.fr,if_neg aJ,dn];simp [z1.plain _ (rfl:AV.plain .any=true)]
   rw [er] at gG fC;have gH:=P6.cut gG;have eZ:=LD hE hn cn (ops:=ops) o (k:=λ x=>Tree.cut .skip [] x) (L:=λ _ _ x=>x=sa) (Rt:=λ _=>True) (Ck.2 ⟨pp,sa,k1,k2,rfl⟩)
    (next:=wpAny E.P .any ops Q fuel (listed.setIfInBounds i' true)) (Q:=Q) (λ S' ι' x a' w' hx kC=>by
     have kC:x=sa:=kC;subst kC;refine ih (listed.setIfInBounds i' true) S' ι' x sb a' w' (by simp [aW]) (Ch aW bn hlen) (cD.set ho bc) (by rw [getD_set_ne true gC]; exact df) (by rw [getD_set_ne true fo]; exact gk) (R4 hu k1) ?_ (by rw [e2]; exact k3) (k4.trans db) nA hx;rw [e2,er2];exact N9.step hu (λ y hy=>fC y (by simp at hy ⊢; rcases hy with hy|hy<;>simp [hy])) gH.2 k1)
   unfold wpOp;rw [ho];simp only
   split
   ·rename_i hw; rw [if_pos hw] at eZ; exact .inl eZ
   ·rename_i hw; rw [if_neg hw] at eZ; exact eZ
theorem c1w (hE:D3 E B) (hn:B.n=E.nt) {id:Nat} (hd:(wW ops && BU ops s && E.P.follows .mixedOrders)=true) {Q:Exit->Act->World->Prop} (hA:Bg E ops q) {s':St}
  (hr:vE E ops (λ i=>(E0 ops.toList []).getD i 0) [] ((List.range' 0 (ops.toList.length - 1)).filter (λ j=>!(j == q.k))) s s') {k:St->Tree (E.rs++E8 E.ps)} {L:Code->List Item->St->Prop} {R:DL (E.rs++E8 E.ps)->Prop}
  (hf:HL E ops (E0 ops.toList []) q s' k L R) (dn:look q.d s.fr=some .any)
  (hQ:∀ S ι s2 a w,RS B S ι s2 a w->(k s2).holds L R->Q .normal a w) (h:RS B S ι s a w):(Code.region id ops true).wp E.P Q a w:=by
 simp only [aAa,BU,aBh] at hd;obtain ⟨⟨h1,⟨h2,h3⟩,h4⟩,h5⟩:=hd;refine wp_region_any h5 ?_;obtain ⟨o2,p,s2,g1,g2,g3,g4⟩:=hf;obtain ⟨T2,ad,s3,f1,f2,f3,⟨f4,_⟩,f5,f6,_⟩:=JJ g2;obtain ⟨gi,nZ,_⟩:=KK f4;have hlen:(idxs ops.size (Array.replicate ops.size false)).length=ops.size:=by
  rw [yF]; simp
 have aK:(idxs ops.size (Array.replicate ops.size false)).filter (λ j=>!(j == ops.size - 1) && !(j == q.k))=(List.range' 0 (ops.toList.length - 1)).filter (λ j=>!(j == q.k)):=by
  rw [yF,show List.range ops.size=List.range (ops.size - 1)++[ops.size - 1] from by rw [<- List.range_succ]; congr 1; omega,aDh,aDg];simp only [beq_self_eq_true,aGb,aGt,aCk,if_false,List.filter_nil,aBc,aCw];rw [aEs];refine aGe (λ j hj=>?_);have:j≠ops.size - 1:=by have:=(aGd.1 hj).2; omega
  simp [this]
 refine b8E (n:=ops.size - 1) hE hn h1 (Cs h3) hA g1 g2 g3 (λ S ι a w hh=>hQ S ι _ a w hh g4) ops.size _ S ι s s' a w.drew (by simp) hlen ?_ ?_ ?_ (s9 h2) ?_ (by rw [aK]; exact hr) (N0.refl _) dn (h.vn F2.nil D0.drew)
 ·intro k o hk hl
  have:k<ops.size:=(aAo.1 hk).1;simp [this] at hl
 ·have:q.k<ops.size:=by omega
  simp [this]
 ·have:ops.size - 1<ops.size:=by omega
  simp [this]
 ·intro o ho d hd
  obtain ⟨j,hj,te⟩:=aBz.1 ho;obtain ⟨pT,ja⟩:=aBt.1 hj;have:=(F3.1 pT).1;simp only [aAa,aAt,beq_eq_false_iff_ne,ne_eq] at ja;refine h4 d (aBz.2 ⟨o,aEu (i:=j) ?_,hd⟩);rw [aHf,if_pos (by simp; omega)];simpa using te
end
end
end Go.Ex
namespace Go.Ex
section
variable {E:Env} {ops:Array Oper} {s t:St}
theorem Sl {o:Oper} {T:TypeId} {a x:Operand} (ho:o.op=.store T a x) (v:AV):K2 o v=v:=by
 rcases yC o with e|⟨_,x,j,cw,_⟩
 ·exact e v
 ·rw [ho] at cw; cases cw
end
section
variable {E:Env} {ops:Array Oper} {s t:St}
end
section
variable {E:Env} {ops:Array Oper} {M:Nat->Nat} {s t:St}
def Va (ops:Array Oper) (x:Oper) (sx:St) (Tx:List Nat) (y:Oper) (Ty:List Nat):Prop:=xp ops x sx Tx y Ty/\(Tx≠[]->∀ m∈looks ops y,m∉Mj ops)
def Gt (E:Env) (ops:Array Oper) (x:Oper) (sx:St) (y:Oper) (sy:St):Prop:=Va ops x sx (l4 E x sx) y (l4 E y sy)\/(Aw x sx=true/\It y sy=true)\/∃ j kd q,Ge y sy=some (j,kd,q)/\Bl x sx j kd q=true
theorem b8p {x:Oper} {sx sx':St} (h:Aw x sx=true) (h1:∀ m∈looks ops x,K2 x (sx'.get m)=K2 x (sx.get m)):Aw x sx'=true:=by
 have h0:=h;unfold Aw at h;split at h
 ·rename_i T a v hg ho
  have db:∀ o,o=a\/o=v->sx'.ev o=sx.ev o:=by
   intro o pv;cases o with
   | tmp m =>
    have:=h1 m (xZ (by rw [ho]; simp [Op.operands]; rcases pv with e|e<;>simp [<- e]));rw [Sl ho,Sl ho] at this;exact zv this
   | _=>rfl
  unfold Aw at h0 ⊢;rw [hg,ho] at h0 ⊢;simp only [db a (.inl rfl),db v (.inr rfl)];exact h0
 ·cases h
theorem ZL {x:Oper} {sx sx':St} {j:Nat} {kd:Bool×Ty} {q:List Step} (h:Bl x sx j kd q=true) (h1:∀ m∈looks ops x,K2 x (sx'.get m)=K2 x (sx.get m)) (h2:∀ m∈looks ops x,∀ i,(K2 x (sx.get m)).i8 i=true->hpk sx' i=hpk sx i):Bl x sx' j kd q=true:=by
 have dX:∀ v,K2 x v=v:=by
  intro v;rcases yC x with e|⟨_,y,k,cw,_⟩
  ·exact e v
  ·unfold Bl at h; rw [cw] at h; split at h<;>first|(rename_i e9; cases e9; done)|(cases h; done)
 have db:∀ o∈x.op.operands.toList,sx'.ev o=sx.ev o:=by
  intro o pv;cases o with
  | tmp m =>
   have:=h1 m (xZ pv);rw [dX,dX] at this;exact zv this
  | _=>rfl
 unfold Bl at h ⊢;split at h
 ·rename_i a hg ho
  simp only [db a (by rw [ho]; simp [Op.operands])];exact h
 ·rename_i T a n hg ho
  simp only [db a (by rw [ho]; simp [Op.operands])];exact h
 ·rename_i T a hg ho
  simp only [db a (by rw [ho]; simp [Op.operands])];split at h
  ·rename_i i p ha
   have:hpk sx' i=hpk sx i:=by
    cases a with
    | tmp m =>
     have hm:m∈looks ops x:=xZ (by rw [ho]; simp [Op.operands]);have tp:sx.get m=.ptr i p:=Cz ha nofun
     exact h2 m hm i (by rw [dX,tp]; simp only [AV.i8]; exact aFp i)
    | const c=>exact absurd ha (by intro e9; have:=LR c i; rw [show ofConst c=.ptr i p from e9] at this; simp only [AV.i8] at this; rw [aFp] at this; cases this)
    | global g=>cases ha
    | func f=>cases ha
   rw [this];exact h
  ·cases h
 ·cases h
theorem Gt.zQ {x:Oper} {sx sx':St} {y:Oper} {sy sy':St} (h:Gt E ops x sx y sy) (h1:∀ m∈looks ops x,K2 x (sx'.get m)=K2 x (sx.get m)) (h2:l4 E x sx'=l4 E x sx) (h3:∀ (z:Oper) m,∀ k∈l4 E x sx,(K2 z (sx'.get m)).i8 k=true->(K2 z (sx.get m)).i8 k=true\/m∈Mj ops)
  (h4:∀ m∈looks ops x,∀ i,(K2 x (sx.get m)).i8 i=true->hpk sx' i=hpk sx i) (hT:l4 E y sy'=l4 E y sy) (hA:It y sy=true->It y sy'=true) (hS:∀ r,Ge y sy=some r->Ge y sy'=some r):Gt E ops x sx' y sy':=by
 rcases h with ⟨⟨P1,P2,P3⟩,hn⟩|⟨k1,k2⟩|⟨j,kd,q,k1,k2⟩
 ·refine .inl ?_
  rw [hT,h2];refine ⟨⟨λ m hm i hi=>?_,λ m hm i hi=>by rw [h1 m hm]; exact P2 m hm i hi,P3⟩,hn⟩;cases hh:(K2 y (sx'.get m)).i8 i with
  | false=>rfl
  | true =>
   rcases h3 y m i hi hh with h9|h9
   ·rw [P1 m hm i hi] at h9; cases h9
   ·exact absurd h9 (hn (λ e=>by rw [e] at hi; cases hi) m hm)
 ·exact .inr (.inl ⟨b8p k1 h1,hA k2⟩)
 ·exact .inr (.inr ⟨j,kd,q,hS _ k1,ZL k2 h1 h4⟩)
end
section
variable {E:Env} {ops:Array Oper} {B:E6} {S:Nat->Prop} {ι:Ix} {s:St} {a:Act} {w:World}
end
end Go.Ex
