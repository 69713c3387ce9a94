import Derived.Test.YtijlnmgondibnaaGreatDoorExK7
set_option linter.unusedVariables false
set_option linter.unusedSimpArgs false
set_option linter.unusedSectionVars false
namespace Go.Ex
section
variable {E:Env} {ops:Array Oper} {B:F5} {S:Nat->Prop} {ι:Ix} {s:St} {a:Act} {w:World}
theorem EE {s t:St} (he:N7 s t) (h:RS B S ι s a w):RS B S ι t a w:=by
 have dB:∀ {v:AV} {vs:List Value},VX w.heap S ι s.hp v vs->VX w.heap S ι t.hp v vs:=by
  intro v vs hv;exact VX.other (λ i _=>(he.2 i).symm) (λ i _=>G1.refl ι i) hv
 exact ⟨⟨h.hs.os,h.hs.tape,h.hs.out,h.hs.size,h.hs.frame,h.hs.slt,h.hs.s0,h.hs.s1,λ i e hi=>h.hs.ob i e ((he.2 i).trans hi),λ i e hi=>h.hs.bl i e ((he.2 i).trans hi),λ i j ei ej hi hj=>h.hs.dj i j ei ej ((he.2 i).trans hi) ((he.2 j).trans hj),λ q hq=>by obtain ⟨r1,⟨e,r2⟩,r3⟩:=h.hs.pin q hq; exact ⟨r1,⟨e,(he.2 q.1).symm.trans r2⟩,r3⟩⟩,h.dfr,h.sz,
  λ m v hv=>dB (h.fr m v ((he.1 m).trans hv))⟩
theorem RS.forget (h:RS B S ι s a w) (d:Nat):RS B S ι { s with fr:=Ex.put d .any s.fr } a w:=by
 refine ⟨h.hs,h.dfr,h.sz,λ t v hv=>?_⟩;rw [p9] at hv;split at hv
 ·cases hv; exact ⟨_,rfl⟩
 ·exact h.fr t v hv
theorem RS.M5:∀ {l:List Oper} {s:St},RS B S ι s a w->RS B S ι (Ex.M5 l s) a w
 | [],s,h=>h
 | o::l,s,h=>by
  unfold Ex.M5
  split
  ·split
   ·exact RS.M5 (h.forget _)
   ·exact RS.M5 h
  ·exact RS.M5 h
theorem Gu {m:Nat}:∀ {l:List Oper} {s:St},look m (Ex.M5 l s).fr=look m s.fr\/look m (Ex.M5 l s).fr=some .any
 | [],s=>.inl rfl
 | o::l,s=>by
  unfold Ex.M5
  split
  ·split
   ·rename_i d _ _
    rcases Gu (m:=m) (l:=l) (s:={ s with fr:=Ex.put d .any s.fr }) with h|h
    ·rw [p9] at h
     split at h
     ·exact .inr h
     ·exact .inl h
    ·exact .inr h
   ·exact Gu
  ·exact Gu
theorem Gi {o:Oper} {c:Call} {d:Nat} (cB:o.op=.call c) (hc:c.callee=.builtin .append) (hd:o.dst=some d):∀ {l:List Oper} {s:St},o∈l->look d (Ex.M5 l s).fr=some .any
 | [],_,h=>by cases h
 | x::l,s,h=>by
  unfold Ex.M5;rcases aAq.1 h with rfl|h
  ·rw [cB]
   simp only [hc,hd];rcases Gu (m:=d) (l:=l) (s:={ s with fr:=Ex.put d .any s.fr }) with h|h
   ·rw [h,p9,if_pos rfl]
   ·exact h
  ·split
   ·split
    ·exact Gi cB hc hd h
    ·exact Gi cB hc hd h
   ·exact Gi cB hc hd h
theorem c4i (hE:E2 E B) (h:RS B S ι s a w) {o:Oper} {T:TypeId} {x:Operand} (ho:o.op=.load T x) {v:AV} {s':St} (hl:vN E T (s.ev x) s=.ok v s') :
  s'=s/\∃ val,(execOp a.eval o).run E.P w=.ok (.value val) w/\VX w.heap S ι s.hp v [val]:=by
 have he:execOp a.eval o=(do pure (.value (<- Instr.loadAt T (a.eval x)))):=by simp [execOp,ho]
 have hv:=h.ev x;unfold vN at hl;split at hl
 ·rename_i t y hx
  rw [hx] at hv;obtain ⟨b,off,e,hb,hr,hR⟩:=hv;split at hl
  ·rename_i hc
   cases hl;have e:a.eval x=.pointer (some ⟨b,off,none⟩):=by simpa using e
   refine ⟨rfl,s5 t (e8 w.heap b off t.size),Q9 he (w':=w) ?_,_,rfl,hR⟩;rw [e];simp [Instr.loadAt,Instr.sureAddr,Du (E5 hE hc) hR]
  ·cases hl
 ·rename_i l hx
  rw [hx] at hv;split at hl
  ·rename_i ht
   cases hl;obtain ⟨val,k1,k2⟩:=OV (hE:=hE) ht hv;exact ⟨rfl,val,Q9 he k1,k2⟩
  ·cases hl
 ·rename_i i p hx
  rw [hx] at hv;obtain ⟨e,b,off,h1,h2,h3,h4⟩:=hv;have h4:a.eval x=.pointer (some ⟨b,off,none⟩):=by simpa using h4
  split at hl
  ·rename_i u y cT
   have hg:=J5 h1 cT;obtain ⟨O2,k1,k2,k3,k4,k5⟩:=P6 (M6 h3) (h.hs.ob i e h1) h.hs.slt h2 hg h3;split at hl
   ·rename_i hc
    have hr:(Instr.loadAt T (a.eval x)).run E.P w=.ok (s5 u (e8 w.heap b off u.size)) w:=by
     rw [h4]; simp [Instr.loadAt,Instr.sureAddr,Du (E5 hE hc) k3]
    split at hl
    ·rename_i hs
     cases hl;have:=k3.Q8 hs;subst this;exact ⟨rfl,_,Q9 he hr,_,rfl,k3⟩
    ·cases hl
     have hp:=E0 h3;exact ⟨rfl,_,Q9 he hr,e,u,y,_,h1,h2,hg,⟨b,off,hp.1,(l7 (H7 hp.2) _ _).symm⟩,rfl⟩
   ·cases hl
  ·cases hl
 ·cases hl
theorem Xv {k:IntKind} {m n:Int} (bx:w4 k m) (hn:0<n):w4 k (m.tmod n):=by
 have h0:k.min<=0:=by cases k<;>decide
 have h1:0<=k.max:=by cases k<;>decide
 unfold w4 at *
 by_cases hm:m<0
 ·have e:m.tmod n=-((-m) % n):=by rw [<- aIb m,aGh,aDw (by omega)]; simp
  have:=aEw (-m) (b:=n) (by omega);have:(-m) % n<=-m:=by
   have:=aEp (-m) n;have:=aFy (aFb hn) (aEk (a:=-m) (b:=n) (by omega) (by omega));omega
  omega
 ·rw [aDw (by omega)]
  have:=aEw m (b:=n) (by omega);have:m % n<=m:=by
   have:=aEp m n;have:=aFy (aFb hn) (aEk (a:=m) (b:=n) (by omega) (by omega));omega
  omega
theorem Pv {o:Oper} {T T':TypeId} {x y:Operand} (ho:o.op=.binOp .rem T x y T'):(∃ k m n,s.ev x=.val (.int k) m/\s.ev y=.val (.int k) n/\n6 E o s=.H3 (0<n) (.val (.int k) (Int.tmod m n)) s)\/∃ why,n6 E o s=.fail why:=by
 have e:n6 E o s=xm E T .rem (s.ev x) (s.ev y) s:=by unfold n6; rw [ho]
 rw [e];unfold xm
 split
 ·refine .inr ?_
  unfold Al
  split
  ·rename_i h; cases h
  ·rename_i h; cases h
  ·exact ⟨_,rfl⟩
 ·refine .inr ?_
  unfold eqA
  split
  ·split
   ·rename_i h; cases h
   ·rename_i h; cases h
   ·exact ⟨_,rfl⟩
  ·exact ⟨_,rfl⟩
 ·refine .inr ?_
  unfold eqA
  split
  ·split
   ·rename_i h; cases h
   ·rename_i h; cases h
   ·exact ⟨_,rfl⟩
  ·exact ⟨_,rfl⟩
 ·unfold yI
  split
  ·rename_i k m k' n e1 e2
   have hw:xY (Nw E) .rem k m k' n s=xX .rem k m k' n s:=by
    unfold xY
    split
    ·rename_i h; cases h
    ·rfl
   rw [hw];unfold xX;simp only
   split
   ·rename_i hk; subst hk
    exact .inl ⟨k,m,n,e1,e2,rfl⟩
   ·exact .inr ⟨_,rfl⟩
  ·refine .inr ?_
   split
   ·rename_i h; cases h
   ·rename_i h; cases h
   ·exact ⟨_,rfl⟩
  ·exact .inr ⟨_,rfl⟩
  ·exact .inr ⟨_,rfl⟩
theorem ZN (h:RS B S ι s a w) {o:Oper} {T T':TypeId} {x y:Operand} (ho:o.op=.binOp .rem T x y T'):AG E.P S ι o a w s (n6 E o s):=by
 have hx:=h.ev x;have hy:=h.ev y;rcases Pv (E:=E) (s:=s) ho with ⟨k,m,n,e1,e2,e3⟩|⟨why,e3⟩
 ·rw [e3]
  rw [e1] at hx; rw [e2] at hy;obtain ⟨hx,bx⟩:=VX.J6 hx;obtain ⟨hy,by_⟩:=VX.J6 hy;intro hn;refine ⟨rfl,.int k (m.tmod n),λ w'=>?_,VX.int (Xv bx hn)⟩;have hg:(eqGuard .rem T x y (a.eval x) (a.eval y)).run E.P w'=.ok () w':=by rw [hx,hy]; rfl
  rw [V3 ho hg (r:=.ok (.int k (m.tmod n)) w')]
  ·rfl
  ·rw [hx,hy]
   have br:n≠0:=λ e=>by subst e; exact absurd hn (Int.lt_irrefl _)
   simp [binOp,Op.intDiv,br]
 ·rw [e3]; trivial
theorem c37 (hE:E2 E B) (h:RS B S ι s a w) {o:Oper} (hq:quiet o=true) {p:Prop} {s1:St} (hr:I8 E ops o s=some (p,s1)) (hp:p) :
  o.guard=none/\I5 E.nt o.dst=true/\∃ v val,s1=s.put o.dst v/\(execOp a.eval o).run E.P w=.ok (.value val) w/\VX w.heap S ι s.hp v [val]:=by
 simp only [quiet,aAa,aCr] at hq;obtain ⟨hg,hq⟩:=hq;unfold I8 at hr;rw [hg] at hr;simp only at hr;unfold Z1 at hr;split at hr
 ·cases hr
 ·rename_i hd
  refine ⟨hg,hd,?_⟩;have key:∀ (r:OR),(match r.get with|none=>none|some (p,v,s')=>some (p,s'.put o.dst v))=some (p,s1)->AG E.P S ι o a w s r->∃ v val,s1=s.put o.dst v/\(execOp a.eval o).run E.P w=.ok (.value val) w/\VX w.heap S ι s.hp v [val]:=by
   intro r hr rA;cases r with
   | fail why=>cases hr
   | ok v s' =>
    simp only [OR.get,aAc,aBb] at hr;obtain ⟨e1,val,k1,k2⟩:=rA;exact ⟨v,val,by rw [<- hr.2,e1],k1 w,k2⟩
   | H3 p' v s' =>
    simp only [OR.get,aAc,aBb] at hr;obtain ⟨e1,val,k1,k2⟩:=rA (by rw [hr.1]; exact hp);exact ⟨v,val,by rw [<- hr.2,e1],k1 w,k2⟩
  split at hq
  ·rename_i x ho
   rw [ho] at hr;simp only [n6,ho,OR.get,aAc,aBb] at hr;exact ⟨s.ev x,a.eval x,hr.2.symm,by simp [execOp,ho],h.ev x⟩
  ·rename_i T x ho
   rw [ho] at hr;simp only [n6,ho] at hr;cases hl:vN E T (s.ev x) s with
   | fail y=>rw [hl] at hr; cases hr
   | ok v s' =>
    rw [hl] at hr;simp only [OR.get,aAc,aBb] at hr;obtain ⟨e1,val,k1,k2⟩:=c4i hE h ho hl;exact ⟨v,val,by rw [<- hr.2,e1],k1,k2⟩
   | H3 p' v s' =>
    exfalso;unfold vN at hl
    repeat' split at hl
    all_goals cases hl
  ·rename_i T x n ho
   have:=Dg hE h (o:=o) (by rw [ho]; rfl);rw [ho] at hr;exact key _ hr this
  ·rename_i T x n ho
   have:=Dg hE h (o:=o) (by rw [ho]; rfl);rw [ho] at hr;exact key _ hr this
  ·rename_i x ho
   have:=Dg hE h (o:=o) (by rw [ho]; rfl);rw [ho] at hr;exact key _ hr this
  ·rename_i T x y T' ho
   have:=ZN (E:=E) h ho;rw [ho] at hr;exact key _ hr this
  ·cases hq
theorem c38 {o:Oper} (hq:quiet o=true) {p:Prop} {s1:St} (hr:I8 E ops o s=some (p,s1)):∃ v,s1=s.put o.dst v:=by
 simp only [quiet,aAa,aCr] at hq;obtain ⟨hg,hq⟩:=hq;unfold I8 at hr;rw [hg] at hr;simp only at hr;unfold Z1 at hr;split at hr
 ·cases hr
 ·rename_i hd
  have key:∀ (r:OR) (t:St),(∀ v s',r=.ok v s'->s'=s)->(∀ p v s',r=.H3 p v s'->s'=s)->(match r.get with|none=>none|some (p,v,s')=>some (p,s'.put o.dst v))=some (p,s1)->∃ v,s1=s.put o.dst v:=by
   intro r t h1 h2 hr;cases r with
   | fail why=>cases hr
   | ok v s' =>
    simp only [OR.get,aAc,aBb] at hr;exact ⟨v,by rw [<- hr.2,h1 v s' rfl]⟩
   | H3 p' v s' =>
    simp only [OR.get,aAc,aBb] at hr;exact ⟨v,by rw [<- hr.2,h2 p' v s' rfl]⟩
  split at hq
  ·rename_i x ho
   rw [ho] at hr;refine key _ s ?_ ?_ hr<;>(intros; simp_all [n6])
  ·rename_i T x ho
   rw [ho] at hr;refine key _ s ?_ ?_ hr
   ·intro v s' e
    simp only [n6,ho] at e;unfold vN at e
    repeat' split at e
    all_goals (cases e; try rfl)
   ·intro q v s' e
    simp only [n6,ho] at e;unfold vN at e
    repeat' split at e
    all_goals (cases e; try rfl)
  ·rename_i T x n ho
   rw [ho] at hr;refine key _ s ?_ ?_ hr
   ·intro v s' e
    simp only [n6,ho] at e
    repeat' split at e
    all_goals (cases e; try rfl)
   ·intro q v s' e
    simp only [n6,ho] at e
    repeat' split at e
    all_goals (cases e; try rfl)
  ·rename_i T x n ho
   rw [ho] at hr;refine key _ s ?_ ?_ hr
   ·intro v s' e
    simp only [n6,ho] at e
    repeat' split at e
    all_goals (cases e; try rfl)
   ·intro q v s' e
    simp only [n6,ho] at e
    repeat' split at e
    all_goals (cases e; try rfl)
  ·rename_i x ho
   rw [ho] at hr;refine key _ s ?_ ?_ hr
   ·intro v s' e
    simp only [n6,ho] at e
    repeat' split at e
    all_goals (cases e; try rfl)
   ·intro q v s' e
    simp only [n6,ho] at e
    repeat' split at e
    all_goals (cases e; try rfl)
  ·rename_i T x y T' ho
   have hb:=Pv (E:=E) (s:=s) ho;rw [ho] at hr;refine key _ s ?_ ?_ hr
   ·intro v s' e
    rcases hb with ⟨k,m,n,-,-,e3⟩|⟨why,e3⟩
    ·rw [e3] at e; cases e
    ·rw [e3] at e; cases e
   ·intro q v s' e
    rcases hb with ⟨k,m,n,-,-,e3⟩|⟨why,e3⟩
    ·rw [e3] at e; cases e; rfl
    ·rw [e3] at e; cases e
  ·cases hq
theorem PH {o:Oper} (hg:o.guard=none) {T:TypeId} {a x:Operand} (ho:o.op=.store T a x) {j:Nat} {q:List Step} {v:Ty} {z:v.den} (ha:s.ev a=.ptr j q) (hx:s.ev x=.val v z) {p:Prop} {s1:St} (h:I8 E ops o s=some (p,s1)) :
  ∃ (e:g9) (r:Sigma Ty.den) (u:Ty) (y:u.den),I5 E.nt o.dst=true/\look j s.hp=some e/\w7 e.ty e.x q (S6 u ⟨v,z⟩).1 (S6 u ⟨v,z⟩).2=some r/\(j9 e.ty e.x q=some ⟨u,y⟩/\K0 E T u=true)/\s1=((s.kill j e.kd q).y9 j (e.F1 r)).put o.dst (.raw undef):=by
 have hr:∀ t,I8 E ops o t=Z1 E o t:=λ t=>by unfold I8; rw [hg]
 rw [hr] at h;have cB:∀ t,n6 E o t=(match t.ev a with|.ptr i p=>S5 E T i p (t.ev x) t|_=>.fail "store"):=λ t=>by unfold n6; rw [ho]; rfl
 have aP:∀ t,Z1 E o t=(match I5 E.nt o.dst with|false=>none|true=>match (n6 E o t).get with|none=>none|some (p,v,s')=>some (p,s'.put o.dst v)):=λ t=>by unfold Z1; rw [ho]; rfl
 rw [aP] at h;split at h
 ·cases h
 ·rename_i hd
  rw [cB,ha] at h;simp only at h;rw [hx] at h;cases aT:look j s.hp with
  | none =>
   have:S5 E T j q (.val v z) s=.fail "store: object":=by unfold S5 St.obj; rw [aT]
   rw [this] at h; cases h
  | some e =>
   cases cC:j9 e.ty e.x q with
   | none =>
    have:S5 E T j q (.val v z) s=.fail "store: path":=by unfold S5 St.obj; rw [aT]; simp only [cC]
    rw [this] at h; cases h
   | some uy =>
    obtain ⟨u,y⟩:=uy;cases hc:K0 E T u with
    | false =>
     have:S5 E T j q (.val v z) s=.fail "store: type":=by unfold S5 St.obj; rw [aT]; simp only [cC,hc]
     rw [this] at h; cases h
    | true =>
     have sO:S5 E T j q (.val v z) s=(match w7 e.ty e.x q (S6 u ⟨v,z⟩).1 (S6 u ⟨v,z⟩).2 with
       | some r=>.ok (.raw undef) ((s.kill j e.kd q).y9 j (e.F1 r))
       | none=>.fail "store: value"):=by
      unfold S5 St.obj; rw [aT]; simp only [cC,hc,AV.wi,AV.vF,St.B9];cases w7 e.ty e.x q (S6 u ⟨v,z⟩).1 (S6 u ⟨v,z⟩).2 with
      | none=>rfl
      | some r=>rfl
     rw [sO] at h;cases aI:w7 e.ty e.x q (S6 u ⟨v,z⟩).1 (S6 u ⟨v,z⟩).2 with
     | none=>rw [aI] at h; cases h
     | some r =>
      rw [aI] at h;simp only [OR.get,aAc,aBb] at h;obtain ⟨rfl,rfl⟩:=h;exact ⟨e,r,u,y,hd,rfl,aI,⟨cC,hc⟩,rfl⟩
theorem ZD (hE:E2 E B) (hn:B.n=E.nt) (h:RS B S ι s a w) {o:Oper} (hg:o.guard=none) {T:TypeId} {ad x:Operand} (ho:o.op=.store T ad x) {j:Nat} {q:List Step} {v:Ty} {z:v.den} (ha:s.ev ad=.ptr j q) (hx:s.ev x=.val v z) {p:Prop} {s1:St} (hr:I8 E ops o s=some (p,s1)) :
  ∃ ι' w',(execOp a.eval o).run E.P w=.ok .skip w'/\RS B S ι' s1 (a.put o.dst undef) w'/\∀ {g:List Nat} {i:Nat} {e:g9} {p0:List Step} {t0:Ty} {l m:List t0.den} {b off:Nat} {v':Value},i≠j->j∉g->look i s.hp=some e->C1 e.ty e.x p0->j9 e.ty e.x p0=some ⟨.d0 true t0,l⟩->zE B S ι s.hp g i e p0 t0 l m b off v' w->zE B S ι' s1.hp g i e p0 t0 l m b off v' w':=by
 obtain ⟨ej,r,u,y,hd,aT,aI,⟨cC,bB⟩,rfl⟩:=PH hg ho ha hx hr;have gV:=h.ev ad;rw [ha] at gV;obtain ⟨e',b0,off0,c1,aH,hl,c4⟩:=gV;rw [aT] at c1; cases c1;have c4:a.eval ad=.pointer (some ⟨b0,off0,none⟩):=by simpa using c4
 have dH:=h.ev x;rw [hx] at dH;obtain ⟨cs,fa,hz⟩:=dH;have fa:a.eval x=s5 v cs:=by simpa using fa
 obtain ⟨hz,nV⟩:=Rc (u:=u) (q:=⟨v,z⟩) hz;rw [<- CC nV] at fa;generalize (S6 u ⟨v,z⟩)=fz at aI hz nV fa;obtain ⟨v,z⟩:=fz;dsimp only at aI hz fa;have cJ:=M6 hl;obtain ⟨Op,m1,mn,m2,m3,m4,m5⟩:=P6 cJ (h.hs.ob j ej aT) h.hs.slt aH cC hl;have cj:=Dl cC aI;have ir:¬ S b0:=(h.hs.bl j ej aT b0 m4).1;have cG:cs.length=u.size:=by rw [hz.length,H4 cj]
 obtain ⟨ι',⟨O,rfl,hO⟩,h1⟩:=h.EG aT aH cC hl (u':=v) (z:=z) (cs:=cs) (O2:=[]) (λ H' aW hc=>hz.x7 (λ c dJ=>hc.rest c (by
   rintro rfl;rcases dJ with dJ|dJ
   ·cases dJ
   ·exact ir dJ) (by
   rcases dJ with dJ|dJ
   ·cases dJ
   ·exact h.hs.slt c dJ)) (λ _ h=>h)) cG aAy (by simp) aI (λ bC _=>QZ aI (PQ hl bC))
 have aP:(execOp a.eval o).run E.P w=.ok .skip (w.setRow b0 (over (y8 w.heap b0) off0 cs).toArray):=by
  simp [execOp,ho,c4,fa,Instr.storeAt,Instr.sureAddr,MF (E5 hE bB) cj m5 hz]
 refine ⟨_,_,aP,h1.put (by rw [hn]; exact hd) (v:=.raw undef) (val:=undef) rfl,?_⟩;rintro g i e p0 t0 l m b off v' bS gl hi mZ dI ⟨O',k1,k2,k3,k4,k5⟩;have hold:∀ c,c≠b0->(w.setRow b0 (over (y8 w.heap b0) off0 cs).toArray).heap[c]?=w.heap[c]?:=λ c hc=>setRow_other hc;have bm:G1 ι (ι.E1 j O) i:=Y4 bS O;have nj:=M6 k1;have bP:b0∉O':=λ hc=>(k5 b0 hc).2.1 j ej (Ne.symm bS) gl aT m4;refine ⟨O',?_,k2.x7 (λ c hc=>hold c (by
   rintro rfl;rcases hc with hc|hc
   ·exact bP hc
   ·exact ir hc)) (λ _ h=>h),k3,k4,λ c hc=>⟨?_,λ k ek hk rJ dn=>?_,λ kJ=>?_⟩⟩
 ·rw [bm.loc]
  exact FX nj (h.hs.ob i e hi) h.hs.slt (λ c hc=>hold c (by rintro rfl; exact h.hs.dj i j e ej hi aT bS c hc m4)) mZ k1
 ·obtain ⟨f1,f2,f3⟩:=(k5 c hc).1
  exact ⟨f1,f2,by rw [setRow_size]; exact f3⟩
 ·rw [xC] at dn
  simp only [St.y9,p9] at dn;by_cases nC:k=j
  ·subst nC
   rw [if_pos rfl] at dn; cases dn;intro cD;refine (k5 c hc).2.1 k ej hk rJ aT ?_;cases ej with
   | var t1 x1 =>
    simp only [l8,g9.F1,Ix.E1,if_true,aAq] at cD ⊢;rcases cD with cD|cD
    ·exact .inl cD
    ·rcases (hO c cD).1 with h9|h9
     ·exact .inr h9
     ·cases h9
   | own t1 x1 =>
    simp only [l8,g9.F1,Ix.E1,if_true] at cD ⊢;rcases (hO c cD).1 with h9|h9
    ·exact h9
    ·cases h9
   | N0=>exact absurd rfl cJ
  ·rw [if_neg nC] at dn
   rw [(Y4 nC O).l8];exact (k5 c hc).2.1 k ek hk rJ dn
 ·rw [bm.l8] at kJ
  obtain ⟨Op',o1,o2⟩:=(k5 c hc).2.2 kJ;obtain ⟨O3,n1,_,n3,_,n5,_⟩:=P6 nj (h.hs.ob i e hi) h.hs.slt mZ dI k1;have kL:b0≠b:=by
   rintro rfl;exact h.hs.dj i j e ej hi aT bS b0 n5 m4
  have oP:O3=Op':=n3.det o1;have qV:∀ c'∈Op',c'≠b0:=by
   rintro c' dJ rfl;rw [<- oP] at dJ;exact h.hs.dj i j e ej hi aT bS c' (J8 (n1 c' dJ)) m4
  refine ⟨Op',?_,o2⟩;rw [l7 (hold b kL.symm)];exact o1.x7 (λ c' dJ=>hold c' (by
   rintro rfl;rcases dJ with dJ|dJ
   ·exact qV _ dJ rfl
   ·exact ir dJ)) (λ _ h=>h)
theorem Bl {T:List Nat} {f:AV->AV} (hf:Trim T f) {u v:AV} (h:f u=v) (hv:v.ref=true\/(v.plain=true/\v≠.any)):u=v:=by
 cases u with
 | cons a b=>rw [hf.cons] at h; subst h; rcases hv with hv|⟨hv,_⟩<;>cases hv
 | M9 l=>rw [hf.M9] at h; subst h; rcases hv with hv|⟨hv,_⟩<;>cases hv
 | D9 g l=>rw [hf.D9] at h; subst h; rcases hv with hv|⟨hv,_⟩<;>cases hv
 | bx l=>rw [hf.bx] at h; subst h; rcases hv with hv|⟨hv,_⟩<;>cases hv
 | rc g l=>rw [hf.rc] at h; subst h; rcases hv with hv|⟨hv,_⟩<;>cases hv
 | ptr i p=>rcases hf.atom _ (rfl:(AV.ptr i p).ref=true) with e|e<;>rw [e] at h<;>first|exact h|(subst h; rcases hv with hv|⟨_,hv⟩<;>first|cases hv|exact absurd rfl hv)
 | at_ i p=>rcases hf.atom _ (rfl:(AV.at_ i p).ref=true) with e|e<;>rw [e] at h<;>first|exact h|(subst h; rcases hv with hv|⟨_,hv⟩<;>first|cases hv|exact absurd rfl hv)
 | sub i p x y=>rcases hf.atom _ (rfl:(AV.sub i p x y).ref=true) with e|e<;>rw [e] at h<;>first|exact h|(subst h; rcases hv with hv|⟨_,hv⟩<;>first|cases hv|exact absurd rfl hv)
 | _=>rw [hf.plain _ rfl] at h; exact h
theorem c2S {u:Ty} {v:AV} {r:Sigma λ t:Ty=>List t.den} {g:List Nat} (h:v.vJ s u=some (r,g)):v.ref=true\/(v.plain=true/\v≠.any):=by
 cases v with
 | ptr i p=>exact .inl rfl
 | at_ i p=>exact .inl rfl
 | sub i p x y=>exact .inl rfl
 | raw v=>exact .inr ⟨rfl,by intro h; cases h⟩
 | val t x=>exact .inr ⟨rfl,by intro h; cases h⟩
 | N1 t x=>exact .inr ⟨rfl,by intro h; cases h⟩
 | nil=>exact .inr ⟨rfl,by intro h; cases h⟩
 | _=>exfalso; simp [AV.vJ,AV.els] at h
theorem RM {M:List Nat} {q:wz} {n:Nat} (h:EM ops M q n s=true) {j:Nat} (hj:j<n) (fL:j≠q.k) {o:Oper} (ho:ops[j]?=some o):(M.getD q.k 0).testBit j=true\/quiet o=true\/zO ops q n j o s=true:=by
 simp only [EM,aBk,aCt] at h;have:=h j hj;simp only [aBr,ho] at this;rcases this with h|(h|h)|h
 ·exact absurd (aAe h) fL
 ·exact .inl h
 ·exact .inr (.inl h)
 ·exact .inr (.inr h)
theorem Uq {q:wz} {n j:Nat} {o:Oper} (h:zO ops q n j o s=true):o.guard=none/\o.dst=none/\∃ T ad x j0 q0 v z,o.op=.store T ad x/\s.ev ad=.ptr j0 q0/\s.ev x=.val v z/\(s.ev q.x).i8 j0=false/\(s.ev q.y).i8 j0=false/\∀ j',j<j'->j'<n->∀ o',ops[j']?=some o'->∀ d,o'.dst=some d->d∉looks ops o:=by
 unfold zO at h;split at h
 ·rename_i T ad x ho
  simp only [aAa] at h;obtain ⟨⟨⟨h1,hg⟩,hd⟩,h2⟩:=h;split at h1
  ·rename_i j0 q0 v z ha hx
   simp only [aAa,aAu] at h1;refine ⟨by simpa using hg,by simpa using hd,T,ad,x,j0,q0,v,z,ho,ha,hx,h1.1,h1.2,λ j' hj iD o' fb d hd hm=>?_⟩;simp only [aBk,aCt] at h2;have:=h2 j' iD;rw [aBr] at this;rcases this with h9|h9
   ·have:=aCy h9; omega
   ·rw [fb] at h9
    simp [Ax,hd,hm] at h9
  ·cases h1
 ·cases h
theorem Trim.zG {T T':List Nat} {f g:AV->AV} (hf:Trim T f) (hg:Trim T' g):Trim (T++T') (λ u=>g (f u)):=by
 refine ⟨λ a b=>by rw [hf.cons,hg.cons],λ l=>by rw [hf.M9,hg.M9],λ k l=>by rw [hf.D9,hg.D9],λ l=>by rw [hf.bx,hg.bx],λ k l=>by rw [hf.rc,hg.rc],λ u hu=>?_,λ u hu h=>?_,λ u hu=>by rw [hf.plain u hu,hg.plain u hu]⟩
 ·rcases hf.atom u hu with e|e
  ·rw [e]; exact hg.atom u hu
  ·rw [e]; exact .inr (hg.plain _ rfl)
 ·rw [hf.yd u hu (λ i hi=>h i (aBf _ hi)),hg.yd u hu (λ i hi=>h i (aBs _ hi))]
theorem Jl {J:List Nat} {F:AV->AV} (hF:Trim J F) {s t:St} {z:Operand} (h:∀ m,z=.tmp m->look m t.fr=(look m s.fr).map F):t.ev z=F (s.ev z):=by
 cases z with
 | tmp m =>
  have hg:t.get m=F (s.get m):=by
   simp only [St.get,h m rfl];cases look m s.fr with
   | none=>exact (hF.plain _ rfl).symm
   | some v=>rfl
  rw [AL,AL];unfold gq;cases Nat.beq m K3 with
  | true=>exact (hF.plain _ rfl).symm
  | false=>exact hg
 | const c=>exact (hF.fix _ (λ i _=>ME c i)).symm
 | global g=>exact (hF.plain _ rfl).symm
 | func f=>exact (hF.fix _ (λ i _=>rfl)).symm
theorem FK {M:Nat->Nat} {q:wz} {n:Nat} {sF:St}:∀ {l:List Nat} {acc:List (Nat×St)} {s s':St},vW E ops M acc l s s'->N7 s' sF->uniq s.fr->l.Pairwise (·<·)->(∀ j∈l,j<n)->(∀ j∈l,∀ o,ops[j]?=some o->quiet o=true\/zO ops q n j o sF=true) ->
  ∃ (J:List Nat) (f:AV->AV),Trim J f/\(∀ j∈J,(sF.ev q.x).i8 j=false/\(sF.ev q.y).i8 j=false)/\(∀ i,i∉J->look i s'.hp=look i s.hp)/\∀ m,(∀ j∈l,∀ o,ops[j]?=some o->o.dst≠some m)->look m s'.fr=(look m s.fr).map f
 | [],acc,s,s',h,_,_,_,_,_=>by
  obtain rfl:s=s':=h;exact ⟨[],λ u=>u,Trim.id _,by simp,λ _ _=>rfl,λ m _=>by simp⟩
 | j::l,acc,s,s',⟨o,ho,_,p,s1,h1,_,h2⟩,df,hu,sS,bf,hq=>by
  obtain ⟨pB,pA⟩:=aEg.1 sS;obtain ⟨J,f,k1,k2,k3,k4⟩:=FK h2 df (S9 hu h1) pA (λ j' iD=>bf j' (by simp [iD])) (λ j' iD=>hq j' (by simp [iD]));rcases hq j (by simp) o ho with py|pW
  ·obtain ⟨v,rfl⟩:=c38 py h1
   refine ⟨J,f,k1,k2,λ i hi=>(k3 i hi).trans (by rw [xC]),λ m hm=>?_⟩;rw [k4 m (λ j' iD=>hm j' (by simp [iD])),Y6,if_neg (hm j (by simp) o ho)]
  ·obtain ⟨hg,oH,T,ad,x,j0,q0,v,z,g1,g2,g3,g4,g5,g6⟩:=Uq pW
   obtain ⟨v0,ids,f0,h0,z1,z2,z3,z4,z5⟩:=zW (ops:=ops) hu h1;obtain ⟨s1',y1,_,y2⟩:=z5 s hu ((N7.refl s).yX _ _) z2;rw [h1] at y1; cases y1;have iN:∀ y,y∈o.op.operands.toList->sF.ev y=f (f0 (s.ev y)):=by
    intro y hy;refine Jl (z1.zG k1) (λ m hm=>?_);subst hm;have iA:=yv (ops:=ops) hy;rw [<- df.1 m,k4 m (λ j' iD o' fb eg=>g6 j' (pB j' iD) (bf j' (by simp [iD])) o' fb m eg iA),y2.fr,if_neg (by rw [oH]; intro h; cases h)];cases look m s.fr<;>rfl
   have ha:s.ev ad=.ptr j0 q0:=Bl (z1.zG k1) ((iN ad (by rw [g1]; simp [Op.operands])).symm.trans g2) (.inl rfl);have hx:s.ev x=.val v z:=Bl (z1.zG k1) ((iN x (by rw [g1]; simp [Op.operands])).symm.trans g3) (.inr ⟨rfl,by intro h; cases h⟩);obtain ⟨e,r,_,_,_,_,_,_,rfl⟩:=PH hg g1 ha hx h1;refine ⟨[j0]++J,λ u=>f (AV.kill j0 e.kd q0 u),(Trim.kill j0 e.kd q0).zG k1,λ i hi=>?_,λ i hi=>?_,λ m hm=>?_⟩
   ·rcases aAi.1 hi with hi|hi
    ·rw [aBe] at hi; subst hi; exact ⟨g4,g5⟩
    ·exact k2 i hi
   ·rw [k3 i (λ h=>hi (aBs _ h)),xC]
    simp only [St.y9,p9];rw [if_neg (λ h=>hi (aBf _ (by simp [h])))];rfl
   ·rw [k4 m (λ j' iD=>hm j' (by simp [iD])),Y6,if_neg (hm j (by simp) o ho)]
    have e1:look m ((s.kill j0 e.kd q0).y9 j0 (e.F1 r)).fr=(look m s.fr).map (AV.kill j0 e.kd q0):=R7 m _ _;rw [e1];cases look m s.fr<;>rfl
theorem LM {M:List Nat} {k n:Nat} (h:EO ops M k n=true):n+1=ops.size/\k<n/\∃ ok,ops[k]?=some ok/\∀ j,j<n->(M.getD n 0).testBit j=true/\(j≠k->∃ o,ops[j]?=some o/\(∀ d,ok.dst=some d->o.dst≠some d) /\
  ((M.getD k 0).testBit j=true\/((quiet o=true\/Nh o=true)/\∀ d,o.dst=some d->d∉looks ops ok))):=by
 simp only [EO,aAa] at h;obtain ⟨⟨h1,h2⟩,h3⟩:=h;have hn:=aAe h1;refine ⟨hn,by simpa [aDf] using h2,?_⟩;split at h3
 ·rename_i ok aH
  refine ⟨ok,aH,λ j hj=>?_⟩;simp only [aBk,aCt] at h3;have:=h3 j hj;simp only [aAa,aBr] at this;obtain ⟨m1,m2⟩:=this;refine ⟨m1,λ fL=>?_⟩;rcases m2 with m2|m2
  ·exact absurd (aAe m2) fL
  ·split at m2
   ·rename_i o ho
    simp only [aAa,aBr] at m2;refine ⟨o,ho,λ d hd im=>?_,m2.2.imp id (λ h=>⟨h.1,λ d hd jd=>?_⟩)⟩
    ·have:=m2.1
     simp only [Ax,im,hd,Option.toList] at this;simp at this
    ·have:=h.2
     simp only [Ax,hd] at this;simp [jd] at this
   ·cases m2
 ·cases h3
theorem Kt {M:List Nat} {q:wz} {n:Nat} {o:Oper} {s:St} {p:Prop} {s2:St} (h:Ai E ops M q n o s=some (p,s2)):∃ T2 ad s3,o.guard=none/\o.op=.store T2 ad (.tmp q.d)/\(∀ t,ad=.tmp t->t≠q.d)/\(EO ops M q.k n=true/\EM ops M q n s=true)/\I5 E.nt o.dst=true /\
  yG E q.T q.U T2 (s.ev q.x) (s.ev q.y) (s.ev ad) q.d s=some (p,s3)/\s2=s3.put o.dst (.raw undef):=by
 unfold Ai at h;split at h
 ·rename_i T2 ad d' hg cB
  split at h
  ·rename_i hc
   simp only [aAa] at hc;obtain ⟨⟨⟨⟨c1,c2⟩,c3⟩,c5⟩,c4⟩:=hc;obtain rfl:=aAe c1;split at h
   ·rename_i p' s3 hs
    cases h;exact ⟨T2,ad,s3,hg,cB,λ t e=>by subst e; rintro rfl; simp at c2,⟨c3,c5⟩,c4,hs,rfl⟩
   ·cases h
  ·cases h
 ·cases h
theorem Kk (hE:E2 E B) {x y adv:AV} {T U T2:TypeId} {d:Nat} {p:Prop} {s2:St} (hb:yG E T U T2 x y adv d s=some (p,s2)) (hp:p) :
  ∃ i p0 e t0 l m g r q bts,x=.at_ i p0/\adv=.ptr i p0/\look i s.hp=some e/\i∉g/\g.Nodup/\(g.all λ i=>!pinned i)=true/\j9 e.ty e.x p0=some ⟨.d0 true t0,l⟩/\K0 E T2 (.d0 true t0)=true /\
   w7 e.ty e.x p0 (.d0 true t0) (l++m)=some r/\s2=(((St.B9 g (s.put (some d) .any)).kill i e.kd p0).y9 i (e.F1 r))/\look T E.tt=some ⟨.d0 q t0,bts⟩ /\
   ((∃ e',E.P.underlying U=some (.slice e'))\/E.P.underlying U=some .string)/\y.vJ s t0=some (⟨t0,m⟩,g)/\l.length+m.length<=140737488355328/\(l.length+m.length)*t0.wb<=140737488355328 /\
   ((∃ t x,e=.var t x)\/∃ t x j q,e=.own (.d0 true t) x/\p0=.idx j::q):=by
 unfold yG at hb;split at hb
 ·rename_i i p0 j q q1 t0 bts u1 bts1 hT hU
  split at hb
  ·rename_i e aT jS
   simp only [aAa] at jS;obtain ⟨bS,jS⟩:=jS;have bS:=aAe bS;subst bS;split at hb
   ·rename_i u l hg
    split at hb
    ·rename_i t m g cw
     split at hb
     ·rename_i hu
      split at hb
      ·rename_i ht
       subst hu; subst ht;split at hb
       ·rename_i r aI
        split at hb
        ·rename_i bB
         cases hb;simp only [aAa,aAu] at bB;obtain ⟨⟨⟨⟨bB,bO⟩,ez⟩,iE⟩,cC⟩:=bB;obtain ⟨rfl,jj,ig⟩:=hp;have ez:i∉g:=by intro hm; simp [hm] at ez
         have hk:(∃ e',E.P.underlying U=some (.slice e'))\/E.P.underlying U=some .string:=by
          cases u1<;>first|cases jS|skip
          ·exact .inr (Y9 (s7 hE hU))
          ·obtain ⟨et,k',f1,_⟩:=H9 (s7 hE hU)
           exact .inl ⟨et,f1⟩
         exact ⟨i,q,e,_,l,m,g,r,_,_,rfl,rfl,aT,ez,DA iE,cC,hg,bB,aI,rfl,hT,hk,cw,jj,ig,(CZ bO).2⟩
        ·cases hb
       ·cases hb
      ·cases hb
     ·cases hb
    ·cases hb
   ·cases hb
  ·cases hb
 ·cases hb
theorem R2.cut:∀ {A C:List Oper} {o:Oper},R2 (A++o::C)->R2 (A++C)/\∀ x∈A++C,∀ d,x.dst=some d->o.dst≠some d
 | [],C,o,h=>⟨h.2,λ x hx d gz im=>h.1 d im x hx gz⟩
 | y::A,C,o,h=>by
  obtain ⟨m1,m2⟩:=R2.cut h.2;refine ⟨⟨λ d hd x hx=>h.1 d hd x (by simp at hx ⊢; rcases hx with hx|hx<;>simp [hx]),m1⟩,λ x hx d gz im=>?_⟩;rcases aAq.1 hx with rfl|hx
  ·exact h.1 d gz o (by simp) im
  ·exact m2 x hx d gz im
theorem R2.sub {f:Nat->Bool}:∀ {l:List Nat},R2 (rem ops l)->R2 (rem ops (l.filter f))
 | [],h=>h
 | i::l,h=>by
  cases ho:ops[i]? with
  | none =>
   have e:rem ops (i::l)=rem ops l:=by simp [rem,ho]
   rw [e] at h;have:=R2.sub (f:=f) h;rw [aDg]
   split
   ·have e:rem ops (i::l.filter f)=rem ops (l.filter f):=by simp [rem,ho]
    rw [e]; exact this
   ·exact this
  | some o =>
   rw [Ft ho] at h;rw [aDg]
   split
   ·rw [Ft ho]
    refine ⟨λ d hd x hx=>h.1 d hd x ?_,R2.sub h.2⟩;obtain ⟨j,hj,tw⟩:=aBv.1 hx;exact aBv.2 ⟨j,(aBw.1 hj).1,tw⟩
   ·exact R2.sub h.2
theorem UH {n i:Nat} {listed:Array Bool} {f:Nat->Bool} (hs:listed.size=n) (hi:i∈idxs n listed) (hf:f i=true):∃ pre post,(idxs n listed).filter f=pre++i::post/\(∀ j∈pre,j<i) /\
  (idxs n (listed.setIfInBounds i true)).filter f=pre++post:=by
 obtain ⟨pre,post,e,h1,h2⟩:=Mc hi;refine ⟨pre.filter f,post.filter f,by rw [e,aDi,aDg,if_pos hf],λ j hj=>h1 j (aBw.1 hj).1,?_⟩;rw [CS hs (G5.1 hi).1,h2,aDi]
theorem ZW {n i:Nat} {listed:Array Bool} {f g:Nat->Bool} (hs:listed.size=n) (hi:i<n) (hg:∀ j,g j=(f j && !(j == i))):(idxs n (listed.setIfInBounds i true)).filter f=(idxs n listed).filter g:=by
 rw [CS hs hi,List.filter_filter];exact aGf (λ j _=>(hg j).symm)
theorem CR {n i fuel:Nat} {listed:Array Bool} (hs:listed.size=n) (hi:i∈idxs n listed) (hl:(idxs n listed).length=fuel+1):(idxs n (listed.setIfInBounds i true)).length=fuel:=by
 obtain ⟨pre,post,e,h1,h2⟩:=Mc hi;rw [CS hs (G5.1 hi).1,h2];rw [e] at hl;simp at hl ⊢; omega
section
variable {q:wz} {n:Nat} {s1:St}
theorem zT.set {listed:Array Bool} (cK:zT ops listed) {i:Nat} {o:Oper} (ho:ops[i]?=some o) (bc:∀ e∈o.after,Region.binds .any e=true->listed.getD e.on false=true):zT ops (listed.setIfInBounds i true):=by
 intro k y hy hk e' eH cV;by_cases gM:k=i
 ·subst gM
  rw [ho] at hy; cases hy;exact getD_set_true (bc e' eH cV)
 ·rw [getD_set_ne true (Ne.symm gM)] at hk
  exact getD_set_true (cK k y hy hk e' eH cV)
theorem b0E {listed:Array Bool} {i:Nat} (hi:i<listed.size):(listed.setIfInBounds i true).getD i false=true:=by simp [hi]
theorem TH (hd:xx ops=true) {listed:Array Bool} (aW:listed.size=ops.size) (br:idxs ops.size listed≠[]):Region.ready .any ops listed≠[]:=by
 have hM:=FE hd;intro hr;cases lA:idxs ops.size listed with
 | nil=>exact br lA
 | cons i l =>
  have bj:i∈idxs ops.size listed:=by rw [lA]; simp
  obtain ⟨h1,h2⟩:=G5.1 bj;have ho:ops[i]?=some ops[i]:=aCe h1;have:i∈Region.ready .any ops listed:=by
   refine mem_ready.2 ⟨h2,ops[i],ho,λ e he hb=>?_⟩;have bf:=(hM i _ ho).1 e he hb;cases hle:listed.getD e.on true with
   | true =>
    have:e.on<listed.size:=by omega
    simp [this] at hle ⊢; exact hle
   | false =>
    exfalso;have kx:e.on∈idxs ops.size listed:=G5.2 ⟨by omega,hle⟩;have hs:=a12 ops.size listed;rw [lA] at hs kx;rcases aAq.1 kx with e1|e1
    ·omega
    ·have:=(aEg.1 hs).1 _ e1; omega
  rw [hr] at this;cases this
theorem c1N (hE:E2 E B) (hn:B.n=E.nt) (hd:xx ops=true) {Q:Exit->Act->World->Prop} (ft:R2 ops.toList) (hA:BF E ops q) {o2:Oper} (iW:ops[n]?=some o2) {p:Prop} {s2:St} (eS:Ai E ops (E9 ops.toList []) q n o2 s1=some (p,s2)) (hp:p)
  (hQ:∀ S ι a w,RS B S ι s2 a w->Q .normal a w) {i:Nat} {e:g9} {p0:List Step} {t0:Ty} {l m:List t0.den} {g:List Nat} (hx:s1.ev q.x=.at_ i p0) (he:look i s1.hp=some e) (aH:C1 e.ty e.x p0) (hg:j9 e.ty e.x p0=some ⟨.d0 true t0,l⟩)
  (cw:(s1.ev q.y).vJ s1 t0=some (⟨t0,m⟩,g)) {v':Value} :
  ∀ (fuel:Nat) (listed:Array Bool) (S:Nat->Prop) (ι:Ix) (s s':St) (a:Act) (w:World),listed.size=ops.size->(idxs ops.size listed).length=fuel->zT ops listed->listed.getD q.k false=true->listed.getD n true=false->uniq s.fr->Q6 s (rem ops ((idxs ops.size listed).filter (λ j=>!(j == n)))) ->
   vW E ops (λ i=>(E9 ops.toList []).getD i 0) [] ((idxs ops.size listed).filter (λ j=>!(j == n))) s s'->N7 s' s1->RS B S ι s a w->a.eval (.tmp q.d)=v'->(∀ b off,Loc w.heap ι i e p0=some (b,off)->zE B S ι s.hp g i e p0 t0 l m b off v' w) ->
   wpAny E.P .any ops Q fuel listed a w:=by
 have hM:=FE hd;obtain ⟨T2,ad,s3,f1,f2,f3,⟨f4,f4'⟩,f5,f6,rfl⟩:=Kt eS;obtain ⟨gB,lv,ok,iV,fK⟩:=LM f4;obtain ⟨oa,c,a1,a2,a3,a4,a5,a6,a7,a8⟩:=hA;have e9:oa=ok:=by rw [a1] at iV; cases iV; rfl
 subst e9;have nh:∀ j o,j<n->j≠q.k->ops[j]?=some o->o.dst≠some q.d:=by
  intro j o hj fL ho;obtain ⟨o',h1,h2,_⟩:=(fK j hj).2 fL;rw [ho] at h1; cases h1;exact h2 q.d a3
 intro fuel
 induction fuel with
 | zero =>
  intro listed S ι s s' a w aW hlen cK dn fy hu fN aP df cv hv oB;exfalso;have fY:idxs ops.size listed=[]:=aCp.1 hlen;have:n∈idxs ops.size listed:=G5.2 ⟨by omega,fy⟩;rw [fY] at this; cases this
 | succ fuel ih =>
  intro listed S ι s s' a w aW hlen cK dn fy hu fN aP df cv hv oB;refine ⟨λ hr=>absurd hr (TH hd aW (by intro h; rw [h] at hlen; cases hlen)),λ i' hi=>?_⟩;obtain ⟨h1,o,ho,bc⟩:=mem_ready.1 hi;have dy:i'<ops.size:=(aAp.1 ho).1;have bj:i'∈idxs ops.size listed:=G5.2 ⟨dy,h1⟩;have iw:∀ j,j<ops.size->((E9 ops.toList []).getD i' 0).testBit j=true->listed.getD j false=true:=FY (M:=λ i=>(E9 ops.toList []).getD i 0) (λ i o ho=>⟨(hM i o ho).1,(hM i o ho).2.1⟩) cK i' o ho bc;by_cases fC:i'=n
  ·
   subst fC;rw [iW] at ho; cases ho;have bH:∀ j,j∈idxs ops.size listed->j=i':=by
    intro j hj;obtain ⟨j1,j2⟩:=G5.1 hj;by_cases e:j=i'
    ·exact e
    ·have:=iw j j1 (fK j (by omega)).1
     rw [W8 this] at j2; cases j2
   have fY:(idxs ops.size listed).filter (λ j=>!(j == i'))=[]:=by
    rw [aHj];intro j hj; simp [bH j hj]
   rw [fY] at aP;obtain rfl:s=s':=aP;have mL:=EE df cv;have po:RS B S ι (s1.put (some q.d) .any) a w:=mL.forget q.d;obtain ⟨i2,p2,e2,t2,l2,m2,g2,r,qq,bts,b1,b2,b3,b4,b5,b6,b7,b8,b9,BV,BU,BS,xF,BR,BQ,zz⟩:=Kk hE f6 hp;rw [hx] at b1;obtain ⟨rfl,rfl⟩:i=i2/\p0=p2:=by simpa using b1
   rw [he] at b3; cases b3;rw [hg] at b7;simp only [aAc,Sigma.mk.injEq,Ty.d0.injEq,true_and] at b7;obtain ⟨b7,b7'⟩:=b7;subst b7;obtain rfl:l=l2:=eq_of_heq b7';rw [cw] at xF;simp only [aAc,aBb,Sigma.mk.injEq,heq_eq_eq,true_and] at xF;obtain ⟨rfl,rfl⟩:=xF;have gV:=mL.ev ad;rw [b2] at gV;obtain ⟨e',b,off,c1,c2,c3,c4⟩:=gV;rw [he] at c1; cases c1;have c4:a.eval ad=.pointer (some ⟨b,off,none⟩):=by simpa using c4
   have bO:=TZ hE po (g:=g) b6 b4 (e:=e) he aH hg (by
    obtain ⟨O',y1,y2,y3,y4,y5⟩:=oB b off c3;exact ⟨O',y1,y2,y3,y4,λ cc hc=>⟨(y5 cc hc).1,λ j ej hj gl dp=>(y5 cc hc).2.1 j ej hj gl ((df.2 j).trans dp),(y5 cc hc).2.2⟩⟩) f2 c4 hv b8 b9
   have ky:=CR aW bj hlen;have kv:idxs ops.size (listed.setIfInBounds i' true)=[]:=by
    rw [CS aW dy];rw [aHj];intro j hj; simp [bH j hj]
   have tR:fuel=0:=by rw [kv] at ky; exact ky.symm
   subst tR;have hw:o2.wp E.P a w (wpAny E.P .any ops Q 0 (listed.setIfInBounds i' true)) Q:=by
    refine bO _ _ (λ S' ι' w' val h1 h2=>⟨?_,hQ S' ι' _ w' ?_⟩)
    ·rw [aDl]
     intro j hj;obtain ⟨j1,oj,j2,_⟩:=mem_ready.1 hj;have:j∈idxs ops.size (listed.setIfInBounds i' true):=G5.2 ⟨(aAp.1 j2).1,j1⟩;rw [kv] at this; cases this
    ·rw [<- BV] at h1 h2
     exact h1.put (by rw [hn]; exact f5) h2
   unfold wpOp;rw [iW];simp only [Region.wanted,f1,if_true];exact .inl hw
  ·
   have bf:i'<n:=by omega
   have gM:i'≠q.k:=by rintro rfl; rw [W8 dn] at h1; cases h1
   obtain ⟨o',fb,kI,ve⟩:=(fK i' bf).2 gM;rw [ho] at fb; cases fb;have np:∀ j,j∈idxs ops.size listed->¬ ((E9 ops.toList []).getD q.k 0).testBit j=true:=by
    intro j hj hb;have qz:∀ e∈oa.after,Region.binds .any e=true->listed.getD e.on false=true:=cK q.k oa a1 (W8 dn);have h9:=FY (M:=λ i=>(E9 ops.toList []).getD i 0) (λ i o ho=>⟨(hM i o ho).1,(hM i o ho).2.1⟩) cK q.k oa a1 qz j (G5.1 hj).1 hb;have h8:=(G5.1 hj).2;rw [W8 h9] at h8; cases h8
   have fA:∀ j∈(idxs ops.size listed).filter (λ j=>!(j == n)),∀ oj,ops[j]?=some oj->quiet oj=true\/zO ops q n j oj s1=true:=by
    intro j hj oj kt;obtain ⟨j1,j2⟩:=aBw.1 hj;simp only [aAu,beq_eq_false_iff_ne,ne_eq] at j2;have jn:j<n:=by have:=(G5.1 j1).1; omega
    have jk:j≠q.k:=by rintro rfl; have:=(G5.1 j1).2; rw [W8 dn] at this; cases this
    rcases RM f4' jn jk kt with h9|h9|h9
    ·exact absurd h9 (np j j1)
    ·exact .inl h9
    ·exact .inr h9
   have gL:∀ j∈(idxs ops.size listed).filter (λ j=>!(j == n)),j<n:=by
    intro j hj;obtain ⟨j1,j2⟩:=aBw.1 hj;simp only [aAu,beq_eq_false_iff_ne,ne_eq] at j2;have:=(G5.1 j1).1; omega
   have fm:((idxs ops.size listed).filter (λ j=>!(j == n))).Pairwise (·<·):=(a12 ops.size listed).sublist aIa;have nr:i'∈(idxs ops.size listed).filter (λ j=>!(j == n)):=aBw.2 ⟨bj,by simpa using fC⟩;have nD:=fA i' nr o ho;have rz:=aP;obtain ⟨pre,post,e1,lr,e2⟩:=UH (f:=λ j=>!(j == n)) aW bj (by simpa using fC);rw [e1] at fN aP;have er:rem ops (pre++i'::post)=rem ops pre++o::rem ops post:=by simp [rem,aCu,ho]
   have er2:rem ops (pre++post)=rem ops pre++rem ops post:=by simp [rem,aCu]
   have gT:R2 (rem ops (pre++i'::post)):=by
    rw [<- e1];refine R2.sub ?_;have:rem ops (idxs ops.size listed)=rem ops ((List.range ops.size).filter (λ i=>!listed.getD i true)):=rfl;rw [this];refine R2.sub ?_;have h9:=EX (ops:=ops);rw [zn] at h9;rw [h9]; exact ft
   have fB:∀ j∈pre,((E9 ops.toList []).getD i' 0).testBit j=false/\∀ x,ops[j]?=some x->indep ops x o=true:=by
    intro j hj;have dO:j∈idxs ops.size listed:=by
     have:j∈(idxs ops.size listed).filter (λ j=>!(j == n)):=by rw [e1]; simp [hj]
     exact (aBw.1 this).1
    have gC:((E9 ops.toList []).getD i' 0).testBit j=false:=by
     cases hm:((E9 ops.toList []).getD i' 0).testBit j with
     | false=>rfl
     | true =>
      exfalso;have iZ:=iw j (G5.1 dO).1 hm;have:=(G5.1 dO).2;rw [W8 iZ] at this;cases this
    refine ⟨gC,λ x hx=>?_⟩;rcases (hM i' o ho).2.2 j x (lr j hj) hx with hm|hm
    ·rw [gC] at hm; cases hm
    ·exact hm
   obtain ⟨pp,sa,sb,k1,k2,k3,k4,_⟩:=Ez ho gT fB hu (fN.sub (λ y hy=>by rw [Cz]; exact aBf _ hy)) aP;rw [er] at gT fN;have gU:=R2.cut gT;rcases nD with py|pW
   ·obtain ⟨q1,q2,v,val,rfl,q3,q4⟩:=c37 hE cv py k1 k2
    have fZ:wpAny E.P .any ops Q fuel (listed.setIfInBounds i' true) (a.put o.dst val) w:=by
     refine ih (listed.setIfInBounds i' true) S ι (s.put o.dst v) sb (a.put o.dst val) w (by simp [aW]) (CR aW bj hlen) (cK.set ho bc) (getD_set_true dn) (by rw [getD_set_ne true fC]; exact fy) (S9 hu k1) ?_ (by rw [e2]; exact k3) (k4.trans df) (cv.put (by rw [hn]; exact q2) q4) ?_ (λ b off hb=>by rw [xC]; exact oB b off hb)
     ·rw [e2,er2]
      exact Q6.step hu (λ y hy=>fN y (by simp at hy ⊢; rcases hy with hy|hy<;>simp [hy])) gU.2 k1
     ·rw [<- hv]
      have br:=nh i' o bf gM ho;cases im:o.dst with
      | none=>rfl
      | some d =>
       rw [im] at br;exact zq (λ e=>br (by rw [e]))
    unfold wpOp;rw [ho];simp only [Region.wanted,q1,if_true];refine .inl ?_;unfold Oper.wp;rw [q3];exact fZ
   ·
    obtain ⟨dI,oH,T,ad',x',j0,q0,vt,z,g1,g2,g3,g4,g5,g6⟩:=Uq pW;rw [e1] at fm gL fA;have bU:List.Sublist (pre++post) (pre++i'::post):=List.Sublist.append (List.Sublist.refl _) (List.sublist_cons_self _ _);obtain ⟨J,f,t1,t2,t3,t4⟩:=FK k3 (k4.trans df) (S9 hu k1) (fm.sublist bU) (λ j hj=>gL j (bU.subset hj)) (λ j hj=>fA j (bU.subset hj));have mS:∀ j∈post,i'<j:=λ j hj=>(aEg.1 (aHp.1 fm).2.1).1 j hj;obtain ⟨v0,ids,f0,vj,z1,z2,z3,z4,z5⟩:=zW (ops:=ops) hu k1;obtain ⟨sa',y1,_,y2⟩:=z5 s hu ((N7.refl s).yX _ _) z2;rw [k1] at y1; cases y1;have iN:∀ y,y∈o.op.operands.toList->s1.ev y=f (f0 (s.ev y)):=by
     intro y hy;refine Jl (z1.zG t1) (λ m' hm=>?_);subst hm;have iA:=yv (ops:=ops) hy;rw [<- (k4.trans df).1 m',t4 m' (λ j hj o' fb eg=>?_),y2.fr,if_neg (by rw [oH]; intro h; cases h)]
     ·cases look m' s.fr<;>rfl
     ·rcases aAi.1 hj with hj|hj
      ·exact (TT ((fB j hj).2 o' fb)).1 m' eg iA
      ·exact g6 j (mS j hj) (gL j (by simp [hj])) o' fb m' eg iA
    have ug:s.ev ad'=.ptr j0 q0:=Bl (z1.zG t1) ((iN ad' (by rw [g1]; simp [Op.operands])).symm.trans g2) (.inl rfl);have ew:s.ev x'=.val vt z:=Bl (z1.zG t1) ((iN x' (by rw [g1]; simp [Op.operands])).symm.trans g3) (.inr ⟨rfl,by intro h; cases h⟩);obtain ⟨ι',w',r1,r2,r3⟩:=ZD hE hn cv dI g1 ug ew k1;have bS:i≠j0:=by
     rintro rfl;rw [hx] at g4;simp only [AV.i8,aFr] at g4;cases g4
    have gl:j0∉g:=λ hm=>by rw [Sk cw j0 hm] at g5; cases g5
    obtain ⟨J2,f2',u1,u2,u3,u4⟩:=FK (ops:=ops) (q:=q) (n:=n) aP df hu fm gL fA;have mr:look i s.hp=some e:=by
     rw [<- u3 i (λ hm=>by
      have:=(u2 i hm).1;rw [hx] at this;simp only [AV.i8,aFr] at this;cases this),df.2 i]
     exact he
    obtain ⟨i2,p2,e2',t2',l2,m2,g2',r',qq,bts,b1,b2,b3,b4,b5,b6,b7,b8,b9,BV,BU,BS,xF,BR,BQ,zz⟩:=Kk hE f6 hp;rw [hx] at b1;obtain ⟨rfl,rfl⟩:i=i2/\p0=p2:=by simpa using b1
    rw [he] at b3; cases b3;obtain ⟨b,off,iu⟩:=CU (cv.hs.ob i e mr) cv.hs.slt zz aH hg;have hP:=r3 bS gl mr aH hg (oB b off iu);have fZ:wpAny E.P .any ops Q fuel (listed.setIfInBounds i' true) (a.put o.dst undef) w':=by
     refine ih (listed.setIfInBounds i' true) S ι' sa sb (a.put o.dst undef) w' (by simp [aW]) (CR aW bj hlen) (cK.set ho bc) (getD_set_true dn) (by rw [getD_set_ne true fC]; exact fy) (S9 hu k1) ?_ (by rw [e2]; exact k3) (k4.trans df) r2 ?_ (λ b9 off9 rS=>?_)
     ·rw [e2,er2]
      exact Q6.step hu (λ y hy=>fN y (by simp at hy ⊢; rcases hy with hy|hy<;>simp [hy])) gU.2 k1
     ·rw [<- hv,oH]; rfl
     ·obtain ⟨_,h9,_⟩:=id hP
      rw [h9] at rS; cases rS;exact hP
    unfold wpOp;rw [ho];simp only [Region.wanted,dI,if_true];refine .inl ?_;unfold Oper.wp;rw [r1];exact fZ
theorem b82 (hE:E2 E B) (hn:B.n=E.nt) (hd:xx ops=true) {Q:Exit->Act->World->Prop} (ft:R2 ops.toList) (hA:BF E ops q) {o2:Oper} (iW:ops[n]?=some o2) {p:Prop} {s2:St} (eS:Ai E ops (E9 ops.toList []) q n o2 s1=some (p,s2)) (hp:p)
  (hQ:∀ S ι a w,RS B S ι s2 a w->Q .normal a w) :
  ∀ (fuel:Nat) (listed:Array Bool) (S:Nat->Prop) (ι:Ix) (s s':St) (a:Act) (w:World),listed.size=ops.size->(idxs ops.size listed).length=fuel->zT ops listed->listed.getD q.k true=false->listed.getD n true=false->uniq s.fr->Q6 s (rem ops ((idxs ops.size listed).filter (λ j=>!(j == n) && !(j == q.k)))) ->
   vW E ops (λ i=>(E9 ops.toList []).getD i 0) [] ((idxs ops.size listed).filter (λ j=>!(j == n) && !(j == q.k))) s s'->N7 s' s1->look q.d s.fr=some .any->RS B S ι s a w ->
   wpAny E.P .any ops Q fuel listed a w:=by
 have hM:=FE hd;obtain ⟨T2,ad,s3,f1,f2,f3,⟨f4,f4'⟩,f5,f6,_⟩:=Kt eS;obtain ⟨gB,lv,ok,iV,fK⟩:=LM f4;have uL:=hA;obtain ⟨oa,c,a1,a2,a3,a4,a5,a6,a7,a8⟩:=hA;have e9:oa=ok:=by rw [a1] at iV; cases iV; rfl
 subst e9;intro fuel
 induction fuel with
 | zero =>
  intro listed S ι s s' a w aW hlen cK dn fy hu fN aP df du cv;exfalso;have fY:idxs ops.size listed=[]:=aCp.1 hlen;have:n∈idxs ops.size listed:=G5.2 ⟨by omega,fy⟩;rw [fY] at this; cases this
 | succ fuel ih =>
  intro listed S ι s s' a w aW hlen cK dn fy hu fN aP df du cv;refine ⟨λ hr=>absurd hr (TH hd aW (by intro h; rw [h] at hlen; cases hlen)),λ i' hi=>?_⟩;obtain ⟨h1,o,ho,bc⟩:=mem_ready.1 hi;have dy:i'<ops.size:=(aAp.1 ho).1;have bj:i'∈idxs ops.size listed:=G5.2 ⟨dy,h1⟩;have iw:∀ j,j<ops.size->((E9 ops.toList []).getD i' 0).testBit j=true->listed.getD j false=true:=FY (M:=λ i=>(E9 ops.toList []).getD i 0) (λ i o ho=>⟨(hM i o ho).1,(hM i o ho).2.1⟩) cK i' o ho bc;by_cases fC:i'=n
  ·exfalso
   subst fC;have:=iw q.k (by omega) (fK q.k lv).1;rw [W8 this] at dn; cases dn
  have bf:i'<n:=by omega
  by_cases gM:i'=q.k
  ·
   subst gM;rw [a1] at ho; cases ho;have gL:∀ j∈(idxs ops.size listed).filter (λ j=>!(j == n) && !(j == q.k)),j<n:=by
    intro j hj;obtain ⟨j1,j2⟩:=aBw.1 hj;simp only [aAa,aAu,beq_eq_false_iff_ne,ne_eq] at j2;have:=(G5.1 j1).1; omega
   have iP:∀ j∈(idxs ops.size listed).filter (λ j=>!(j == n) && !(j == q.k)),∀ oj,ops[j]?=some oj->(quiet oj=true\/zO ops q n j oj s1=true)/\oj.dst≠some q.d/\∀ d,oj.dst=some d->d∉looks ops oa:=by
    intro j hj oj kt;have jn:=gL j hj;obtain ⟨j1,j2⟩:=aBw.1 hj;simp only [aAa,aAu,beq_eq_false_iff_ne,ne_eq] at j2;have mi:¬ ((E9 ops.toList []).getD q.k 0).testBit j=true:=by
     intro g3;have:=iw j (by omega) g3;have h9:=(G5.1 j1).2;rw [W8 this] at h9; cases h9
    obtain ⟨o',g1,g2,g3⟩:=(fK j jn).2 j2.2;rw [kt] at g1; cases g1;refine ⟨?_,g2 q.d a3,?_⟩
    ·rcases RM f4' jn j2.2 kt with h9|h9|h9
     ·exact absurd h9 mi
     ·exact .inl h9
     ·exact .inr h9
    ·rcases g3 with g3|g3
     ·exact absurd g3 mi
     ·exact g3.2
   have fm:((idxs ops.size listed).filter (λ j=>!(j == n) && !(j == q.k))).Pairwise (·<·):=(a12 ops.size listed).sublist aIa;obtain ⟨J,f,t1,t2,t3,t4⟩:=FK (ops:=ops) (q:=q) (n:=n) aP df hu fm gL (λ j hj oj kt=>(iP j hj oj kt).1);obtain ⟨i,p0,e,t0,l,m,g,r,qq,bts,b1,b2,b3,b4,b5,b6,b7,b8,b9,BV,BU,BS,xF,BR,BQ,zz⟩:=Kk hE f6 hp;have gj:∀ j,j∉J->look j s.hp=look j s1.hp:=λ j hj=>by rw [<- t3 j hj]; exact df.2 j
   have bW:∀ x,x∈oa.op.operands.toList->s1.ev x=f (s.ev x):=by
    intro x hx;refine Jl t1 (λ t ht=>?_);subst ht;rw [<- df.1 t,t4 t (λ j hj oj kt eg=>(iP j hj oj kt).2.2 t eg (yv hx))]
   have fc:q.x∈oa.op.operands.toList:=by rw [a5]; exact yr (by rw [a7]; simp)
   have gZ:q.y∈oa.op.operands.toList:=by rw [a5]; exact yr (by rw [a7]; simp)
   have rh:s.ev q.x=.at_ i p0:=Bl t1 ((bW _ fc).symm.trans b1) (.inl rfl);have sk:s.ev q.y=s1.ev q.y:=Bl t1 (bW _ gZ).symm (c2S xF);have mr:look i s.hp=some e:=(gj i (λ hm=>by
    have:=(t2 i hm).1;rw [b1] at this;simp only [AV.i8,aFr] at this;cases this)).trans b3
   have nT:(s.ev q.y).vJ s t0=some (⟨t0,m⟩,g):=by
    rw [sk,JD (s:=s1) (t:=s) (λ j hj=>gj j (λ hm=>by rw [(t2 j hm).2] at hj; cases hj))];exact xF
   have aH:C1 e.ty e.x p0:=by
    obtain ⟨e2,u,y2,cs,r1,aH,_⟩:=D8 cv rh;rw [mr] at r1; cases r1;exact aH
   obtain ⟨b,off,hl⟩:=CU (cv.hs.ob i e mr) cv.hs.slt zz aH b7;obtain ⟨v',w',c1,c2,c3,c4⟩:=Ug hE cv a5 a6 a7 a8 BS BU rh mr zz b7 hl nT b4 b5 BR BQ;have eE:Loc w'.heap ι i e p0=some (b,off):=by obtain ⟨_,h9,_⟩:=c4; exact h9
   have iQ:RS B S ι s (a.put (some q.d) v') w':=by
    have h9:=c2.put (d:=some q.d) (by rw [hn]; exact a4) (v:=.any) (val:=v') ⟨v',rfl⟩;refine EE (s:=s.put (some q.d) .any) (t:=s) ⟨λ t=>?_,λ _=>rfl⟩ h9;rw [Y6]
    split
    ·rename_i e9; cases e9; exact du.symm
    ·rfl
   have dH:(a.put (some q.d) v').eval (.tmp q.d)=v':=Lb (by rw [cv.sz,hn]; simpa [I5,aDf] using a4);have aI:(idxs ops.size (listed.setIfInBounds q.k true)).filter (λ j=>!(j == n))=(idxs ops.size listed).filter (λ j=>!(j == n) && !(j == q.k)):=ZW aW dy (λ j=>rfl);have fZ:wpAny E.P .any ops Q fuel (listed.setIfInBounds q.k true) (a.put (some q.d) v') w':=by
    refine c1N hE hn hd ft uL iW eS hp hQ (i:=i) (e:=e) (p0:=p0) (t0:=t0) (l:=l) (m:=m) (g:=g) b1 b3 aH b7 xF (v':=v') fuel (listed.setIfInBounds q.k true) S ι s s' _ w' (by simp [aW]) (CR aW bj hlen) (cK.set a1 bc) (b0E (by omega)) (by rw [getD_set_ne true (by omega)]; exact fy) hu (by rw [aI]; exact fN) (by rw [aI]; exact aP) df iQ dH ?_;intro b' ar cV;rw [eE] at cV; cases cV;exact c4
   unfold wpOp;rw [a1];simp only [Region.wanted,a2,if_true];refine .inl ?_;unfold Oper.wp;rw [c1];show wpAny E.P .any ops Q fuel (listed.setIfInBounds q.k true) (a.put oa.dst v') w';rw [a3];exact fZ
  ·
   obtain ⟨pre,post,e1,lr,e2⟩:=UH (f:=λ j=>!(j == n) && !(j == q.k)) aW bj (by simp [fC,gM]);rw [e1] at fN aP;have er:rem ops (pre++i'::post)=rem ops pre++o::rem ops post:=by simp [rem,aCu,ho]
   have er2:rem ops (pre++post)=rem ops pre++rem ops post:=by simp [rem,aCu]
   have gT:R2 (rem ops (pre++i'::post)):=by
    rw [<- e1];refine R2.sub ?_;have:rem ops (idxs ops.size listed)=rem ops ((List.range ops.size).filter (λ i=>!listed.getD i true)):=rfl;rw [this];refine R2.sub ?_;have h9:=EX (ops:=ops);rw [zn] at h9;rw [h9]; exact ft
   have fB:∀ j∈pre,((E9 ops.toList []).getD i' 0).testBit j=false/\∀ x,ops[j]?=some x->indep ops x o=true:=by
    intro j hj;have dO:j∈idxs ops.size listed:=by
     have:j∈(idxs ops.size listed).filter (λ j=>!(j == n) && !(j == q.k)):=by rw [e1]; simp [hj]
     exact (aBw.1 this).1
    have gC:((E9 ops.toList []).getD i' 0).testBit j=false:=by
     cases hm:((E9 ops.toList []).getD i' 0).testBit j with
     | false=>rfl
     | true =>
      exfalso;have iZ:=iw j (G5.1 dO).1 hm;have:=(G5.1 dO).2;rw [W8 iZ] at this;cases this
    refine ⟨gC,λ x hx=>?_⟩;rcases (hM i' o ho).2.2 j x (lr j hj) hx with hm|hm
    ·rw [gC] at hm; cases hm
    ·exact hm
   obtain ⟨pp,sa,sb,k1,k2,k3,k4,_⟩:=Ez ho gT fB hu (fN.sub (λ y hy=>by rw [Cz]; exact aBf _ hy)) aP;have aK:o.dst≠some q.d:=by
    obtain ⟨o',g1,g2,_⟩:=(fK i' bf).2 gM;rw [ho] at g1; cases g1;exact g2 q.d a3
   have nU:look q.d sa.fr=some .any:=by
    obtain ⟨v,ids,f,hf,z1,z2,z3,z4,z5⟩:=zW (ops:=ops) hu k1;obtain ⟨sa',y1,_,y2⟩:=z5 s hu ((N7.refl s).yX _ _) z2;rw [k1] at y1; cases y1;rw [y2.fr,if_neg aK,du];simp [z1.plain _ (rfl:AV.plain .any=true)]
   rw [er] at gT fN;have gU:=R2.cut gT;have ff:=Mw hE hn cv (ops:=ops) o (k:=λ x=>Tree.cut .skip [] x) (L:=λ _ _ x=>x=sa) (Rt:=λ _=>True) (CF.2 ⟨pp,sa,k1,k2,rfl⟩)
    (next:=wpAny E.P .any ops Q fuel (listed.setIfInBounds i' true)) (Q:=Q) (λ S' ι' x a' w' hx kR=>by
     have kR:x=sa:=kR;subst kR;refine ih (listed.setIfInBounds i' true) S' ι' x sb a' w' (by simp [aW]) (CR aW bj hlen) (cK.set ho bc) (by rw [getD_set_ne true gM]; exact dn) (by rw [getD_set_ne true fC]; exact fy) (S9 hu k1) ?_ (by rw [e2]; exact k3) (k4.trans df) nU hx;rw [e2,er2];exact Q6.step hu (λ y hy=>fN y (by simp at hy ⊢; rcases hy with hy|hy<;>simp [hy])) gU.2 k1)
   unfold wpOp;rw [ho];simp only
   split
   ·rename_i hw; rw [if_pos hw] at ff; exact .inl ff
   ·rename_i hw; rw [if_neg hw] at ff; exact ff
theorem c1M (hE:E2 E B) (hn:B.n=E.nt) {id:Nat} (hd:(xx ops && Cv ops s && E.P.follows .mixedOrders)=true) {Q:Exit->Act->World->Prop} (hA:BF E ops q) {s':St}
  (hr:vW E ops (λ i=>(E9 ops.toList []).getD i 0) [] ((List.range' 0 (ops.toList.length - 1)).filter (λ j=>!(j == q.k))) s s') {k:St->Tree (E.rs++F9 E.ps)} {L:Code->List Item->St->Prop} {R:DL (E.rs++F9 E.ps)->Prop}
  (hf:IH E ops (E9 ops.toList []) q s' k L R) (du:look q.d s.fr=some .any)
  (hQ:∀ S ι s2 a w,RS B S ι s2 a w->(k s2).holds L R->Q .normal a w) (h:RS B S ι s a w):(Code.region id ops true).wp E.P Q a w:=by
 simp only [aAa,Cv,aBk] at hd;obtain ⟨⟨h1,⟨h2,h3⟩,h4⟩,h5⟩:=hd;refine wp_region_any h5 ?_;obtain ⟨o2,p,s2,g1,g2,g3,g4⟩:=hf;obtain ⟨T2,ad,s3,f1,f2,f3,⟨f4,_⟩,f5,f6,_⟩:=Kt g2;obtain ⟨gB,lv,_⟩:=LM f4;have hlen:(idxs ops.size (Array.replicate ops.size false)).length=ops.size:=by
  rw [zn]; simp
 have aI:(idxs ops.size (Array.replicate ops.size false)).filter (λ j=>!(j == ops.size - 1) && !(j == q.k))=(List.range' 0 (ops.toList.length - 1)).filter (λ j=>!(j == q.k)):=by
  rw [zn,show List.range ops.size=List.range (ops.size - 1)++[ops.size - 1] from by rw [<- List.range_succ]; congr 1; omega,aDi,aDg];simp only [beq_self_eq_true,aGc,aGw,aFd,if_false,List.filter_nil,aAv,aEx];rw [aEs];refine aGf (λ j hj=>?_);have:j≠ops.size - 1:=by have:=(List.mem_range'_1.1 hj).2; omega
  simp [this]
 refine b82 (n:=ops.size - 1) hE hn h1 (CO h3) hA g1 g2 g3 (λ S ι a w hh=>hQ S ι _ a w hh g4) ops.size _ S ι s s' a w.drew (by simp) hlen ?_ ?_ ?_ (w6 h2) ?_ (by rw [aI]; exact hr) (N7.refl _) du (h.vC H2.nil G2.drew)
 ·intro k o hk hl
  have:k<ops.size:=(aAp.1 hk).1;simp [this] at hl
 ·have:q.k<ops.size:=by omega
  simp [this]
 ·have:ops.size - 1<ops.size:=by omega
  simp [this]
 ·intro o ho d hd
  obtain ⟨j,hj,tC⟩:=aBv.1 ho;obtain ⟨qd,jt⟩:=aBw.1 hj;have:=(G5.1 qd).1;simp only [aAa,aAu,beq_eq_false_iff_ne,ne_eq] at jt;refine h4 d (aBv.2 ⟨o,aDy (i:=j) ?_,hd⟩);rw [aHi,if_pos (by simp; omega)];simpa using tC
end
end
end Go.Ex
namespace Go.Ex
section
variable {E:Env} {ops:Array Oper} {s t:St}
theorem SK {o:Oper} {T:TypeId} {a x:Operand} (ho:o.op=.store T a x) (v:AV):M1 o v=v:=by
 rcases yU o with e|⟨_,x,j,cB,_⟩
 ·exact e v
 ·rw [ho] at cB; cases cB
end
section
variable {E:Env} {ops:Array Oper} {s t:St}
end
section
variable {E:Env} {ops:Array Oper} {M:Nat->Nat} {s t:St}
def Vx (ops:Array Oper) (x:Oper) (sx:St) (Tx:List Nat) (y:Oper) (Ty:List Nat):Prop:=xK ops x sx Tx y Ty/\(Tx≠[]->∀ m∈looks ops y,m∉MY ops)
def Hl (E:Env) (ops:Array Oper) (x:Oper) (sx:St) (y:Oper) (sy:St):Prop:=Vx ops x sx (l6 E x sx) y (l6 E y sy)\/(AT x sx=true/\Iy y sy=true)\/∃ j kd q,GL y sy=some (j,kd,q)/\BN x sx j kd q=true
theorem b8O {x:Oper} {sx sx':St} (h:AT x sx=true) (h1:∀ m∈looks ops x,M1 x (sx'.get m)=M1 x (sx.get m)):AT x sx'=true:=by
 have h0:=h;unfold AT at h;split at h
 ·rename_i T a v hg ho
  have df:∀ o,o=a\/o=v->sx'.ev o=sx.ev o:=by
   intro o pH;cases o with
   | tmp m =>
    have:=h1 m (yv (by rw [ho]; simp [Op.operands]; rcases pH with e|e<;>simp [<- e]));rw [SK ho,SK ho] at this;exact Aa this
   | _=>rfl
  unfold AT at h0 ⊢;rw [hg,ho] at h0 ⊢;simp only [df a (.inl rfl),df v (.inr rfl)];exact h0
 ·cases h
theorem ZZ {x:Oper} {sx sx':St} {j:Nat} {kd:Bool×Ty} {q:List Step} (h:BN x sx j kd q=true) (h1:∀ m∈looks ops x,M1 x (sx'.get m)=M1 x (sx.get m)) (h2:∀ m∈looks ops x,∀ i,(M1 x (sx.get m)).i8 i=true->hpk sx' i=hpk sx i):BN x sx' j kd q=true:=by
 have ee:∀ v,M1 x v=v:=by
  intro v;rcases yU x with e|⟨_,y,k,cB,_⟩
  ·exact e v
  ·unfold BN at h; rw [cB] at h; split at h<;>first|(rename_i e9; cases e9; done)|(cases h; done)
 have df:∀ o∈x.op.operands.toList,sx'.ev o=sx.ev o:=by
  intro o pH;cases o with
  | tmp m =>
   have:=h1 m (yv pH);rw [ee,ee] at this;exact Aa this
  | _=>rfl
 unfold BN at h ⊢;split at h
 ·rename_i a hg ho
  simp only [df a (by rw [ho]; simp [Op.operands])];exact h
 ·rename_i T a n hg ho
  simp only [df a (by rw [ho]; simp [Op.operands])];exact h
 ·rename_i T a hg ho
  simp only [df a (by rw [ho]; simp [Op.operands])];split at h
  ·rename_i i p ha
   have:hpk sx' i=hpk sx i:=by
    cases a with
    | tmp m =>
     have hm:m∈looks ops x:=yv (by rw [ho]; simp [Op.operands]);have tM:sx.get m=.ptr i p:=Dk ha nofun
     exact h2 m hm i (by rw [ee,tM]; simp only [AV.i8]; exact aFr i)
    | const c=>exact absurd ha (by intro e9; have:=ME c i; rw [show ofConst c=.ptr i p from e9] at this; simp only [AV.i8] at this; rw [aFr] at this; cases this)
    | global g=>cases ha
    | func f=>cases ha
   rw [this];exact h
  ·cases h
 ·cases h
theorem Hl.Aj {x:Oper} {sx sx':St} {y:Oper} {sy sy':St} (h:Hl E ops x sx y sy) (h1:∀ m∈looks ops x,M1 x (sx'.get m)=M1 x (sx.get m)) (h2:l6 E x sx'=l6 E x sx) (h3:∀ (z:Oper) m,∀ k∈l6 E x sx,(M1 z (sx'.get m)).i8 k=true->(M1 z (sx.get m)).i8 k=true\/m∈MY ops)
  (h4:∀ m∈looks ops x,∀ i,(M1 x (sx.get m)).i8 i=true->hpk sx' i=hpk sx i) (hT:l6 E y sy'=l6 E y sy) (hA:Iy y sy=true->Iy y sy'=true) (hS:∀ r,GL y sy=some r->GL y sy'=some r):Hl E ops x sx' y sy':=by
 rcases h with ⟨⟨P1,P2,P3⟩,hn⟩|⟨k1,k2⟩|⟨j,kd,q,k1,k2⟩
 ·refine .inl ?_
  rw [hT,h2];refine ⟨⟨λ m hm i hi=>?_,λ m hm i hi=>by rw [h1 m hm]; exact P2 m hm i hi,P3⟩,hn⟩;cases hh:(M1 y (sx'.get m)).i8 i with
  | false=>rfl
  | true =>
   rcases h3 y m i hi hh with h9|h9
   ·rw [P1 m hm i hi] at h9; cases h9
   ·exact absurd h9 (hn (λ e=>by rw [e] at hi; cases hi) m hm)
 ·exact .inr (.inl ⟨b8O k1 h1,hA k2⟩)
 ·exact .inr (.inr ⟨j,kd,q,hS _ k1,ZZ k2 h1 h4⟩)
end
section
variable {E:Env} {ops:Array Oper} {B:F5} {S:Nat->Prop} {ι:Ix} {s:St} {a:Act} {w:World}
end
end Go.Ex
