import Derived.Test.YtijlnmgondibnaaGreatDoorExK7
set_option linter.unusedVariables false
set_option linter.unusedSimpArgs false
set_option linter.unusedSectionVars false
namespace Go.Ex
section
variable {E:Env} {ops:Array Oper} {B:E1} {S:Nat->Prop} {ι:Ix} {s:St} {a:Act} {w:World}
theorem Dq {s t:St} (he:M2 s t) (h:RS B S ι s a w):RS B S ι t a w:=by
 have dq:∀ {v:AV} {vs:List Value},VX w.heap S ι s.hp v vs->VX w.heap S ι t.hp v vs:=by
  intro v vs hv;exact VX.other (λ i _=>(he.2 i).symm) (λ i _=>E6.refl ι i) hv
 exact ⟨⟨h.hs.os,h.hs.tape,h.hs.out,h.hs.size,h.hs.frame,h.hs.slt,h.hs.s0,h.hs.s1,λ i e hi=>h.hs.ob i e ((he.2 i).trans hi),λ i e hi=>h.hs.bl i e ((he.2 i).trans hi),λ i j ei ej hi hj=>h.hs.dj i j ei ej ((he.2 i).trans hi) ((he.2 j).trans hj),λ q hq=>by obtain ⟨r1,⟨e,r2⟩,r3⟩:=h.hs.pin q hq; exact ⟨r1,⟨e,(he.2 q.1).symm.trans r2⟩,r3⟩⟩,h.dfr,h.sz,
  λ m v hv=>dq (h.fr m v ((he.1 m).trans hv))⟩
theorem RS.forget (h:RS B S ι s a w) (d:Nat):RS B S ι { s with fr:=Ex.put d .any s.fr } a w:=by
 refine ⟨h.hs,h.dfr,h.sz,λ t v hv=>?_⟩;rw [o6] at hv;split at hv
 ·cases hv; exact ⟨_,rfl⟩
 ·exact h.fr t v hv
theorem RS.K1:∀ {l:List Oper} {s:St},RS B S ι s a w->RS B S ι (Ex.K1 l s) a w
 | [],s,h=>h
 | o::l,s,h=>by
  unfold Ex.K1
  split
  ·split
   ·exact RS.K1 (h.forget _)
   ·exact RS.K1 h
  ·exact RS.K1 h
theorem EV {m:Nat}:∀ {l:List Oper} {s:St},look m (Ex.K1 l s).fr=look m s.fr\/look m (Ex.K1 l s).fr=some .any
 | [],s=>.inl rfl
 | o::l,s=>by
  unfold Ex.K1
  split
  ·split
   ·rename_i d _ _
    rcases EV (m:=m) (l:=l) (s:={ s with fr:=Ex.put d .any s.fr }) with h|h
    ·rw [o6] at h
     split at h
     ·exact .inr h
     ·exact .inl h
    ·exact .inr h
   ·exact EV
  ·exact EV
theorem ER {o:Oper} {c:Call} {d:Nat} (cv:o.op=.call c) (hc:c.callee=.builtin .append) (hd:o.dst=some d):∀ {l:List Oper} {s:St},o∈l->look d (Ex.K1 l s).fr=some .any
 | [],_,h=>by cases h
 | x::l,s,h=>by
  unfold Ex.K1;rcases List.mem_cons.1 h with rfl|h
  ·rw [cv]
   simp only [hc,hd];rcases EV (m:=d) (l:=l) (s:={ s with fr:=Ex.put d .any s.fr }) with h|h
   ·rw [h,o6,if_pos rfl]
   ·exact h
  ·split
   ·split
    ·exact ER cv hc hd h
    ·exact ER cv hc hd h
   ·exact ER cv hc hd h
theorem YF (hE:C8 E B) (h:RS B S ι s a w) {o:Oper} {T:TypeId} {x:Operand} (ho:o.op=.load T x) {v:AV} {s':St} (hl:X8 E T (s.ev x) s=.ok v s') :
  s'=s/\∃ val,(execOp a.eval o).run E.P w=.ok (.value val) w/\VX w.heap S ι s.hp v [val]:=by
 have he:execOp a.eval o=(do pure (.value (<- Instr.loadAt T (a.eval x)))):=by simp [execOp,ho]
 have hv:=h.ev x;unfold X8 at hl;split at hl
 ·rename_i t y hx
  rw [hx] at hv;obtain ⟨b,off,e,hb,hr,hR⟩:=hv;split at hl
  ·rename_i hc
   cases hl;have e:a.eval x=.pointer (some ⟨b,off,none⟩):=by simpa using e
   refine ⟨rfl,p7 t (d9 w.heap b off t.size),N2 he (w':=w) ?_,_,rfl,hR⟩;rw [e];simp [Instr.loadAt,Instr.sureAddr,Cc (D0 hE hc) hR]
  ·cases hl
 ·rename_i l hx
  rw [hx] at hv;split at hl
  ·rename_i ht
   cases hl;obtain ⟨val,k1,k2⟩:=MZ (hE:=hE) ht hv;exact ⟨rfl,val,N2 he k1,k2⟩
  ·cases hl
 ·rename_i i p hx
  rw [hx] at hv;obtain ⟨e,b,off,h1,h2,h3,h4⟩:=hv;have h4:a.eval x=.pointer (some ⟨b,off,none⟩):=by simpa using h4
  split at hl
  ·rename_i u y cO
   have hg:=H3 h1 cO;obtain ⟨O2,k1,k2,k3,k4,k5⟩:=M6 (K2 h3) (h.hs.ob i e h1) h.hs.slt h2 hg h3;split at hl
   ·rename_i hc
    have hr:(Instr.loadAt T (a.eval x)).run E.P w=.ok (p7 u (d9 w.heap b off u.size)) w:=by
     rw [h4]; simp [Instr.loadAt,Instr.sureAddr,Cc (D0 hE hc) k3]
    split at hl
    ·rename_i hs
     cases hl;have:=k3.N1 hs;subst this;exact ⟨rfl,_,N2 he hr,_,rfl,k3⟩
    ·cases hl
     have hp:=C4 h3;exact ⟨rfl,_,N2 he hr,e,u,y,_,h1,h2,hg,⟨b,off,hp.1,(l5 (F7 hp.2) _ _).symm⟩,rfl⟩
   ·cases hl
  ·cases hl
 ·cases hl
theorem Wx {k:IntKind} {m n:Int} (bx:r7 k m) (hn:0<n):r7 k (m.tmod n):=by
 have h0:k.min<=0:=by cases k<;>decide
 have h1:0<=k.max:=by cases k<;>decide
 unfold r7 at *
 by_cases hm:m<0
 ·have e:m.tmod n=-((-m) % n):=by rw [<- Int.neg_neg m,Int.neg_tmod,Int.tmod_eq_emod_of_nonneg (by omega)]; simp
  have:=Int.emod_nonneg (-m) (b:=n) (by omega);have:(-m) % n<=-m:=by
   have:=Int.emod_add_mul_ediv (-m) n;have:=Int.mul_nonneg (Int.le_of_lt hn) (Int.ediv_nonneg (a:=-m) (b:=n) (by omega) (by omega));omega
  omega
 ·rw [Int.tmod_eq_emod_of_nonneg (by omega)]
  have:=Int.emod_nonneg m (b:=n) (by omega);have:m % n<=m:=by
   have:=Int.emod_add_mul_ediv m n;have:=Int.mul_nonneg (Int.le_of_lt hn) (Int.ediv_nonneg (a:=m) (b:=n) (by omega) (by omega));omega
  omega
theorem NK {o:Oper} {T T':TypeId} {x y:Operand} (ho:o.op=.binOp .rem T x y T'):(∃ k m n,s.ev x=.val (.int k) m/\s.ev y=.val (.int k) n/\l8 E o s=.F3 (0<n) (.val (.int k) (Int.tmod m n)) s)\/∃ why,l8 E o s=.fail why:=by
 have e:l8 E o s=wa E T .rem (s.ev x) (s.ev y) s:=by unfold l8; rw [ho]
 rw [e];unfold wa
 split
 ·refine .inr ?_
  unfold zi
  split
  ·rename_i h; cases h
  ·rename_i h; cases h
  ·exact ⟨_,rfl⟩
 ·refine .inr ?_
  unfold eqA
  split
  ·split
   ·rename_i h; cases h
   ·rename_i h; cases h
   ·exact ⟨_,rfl⟩
  ·exact ⟨_,rfl⟩
 ·refine .inr ?_
  unfold eqA
  split
  ·split
   ·rename_i h; cases h
   ·rename_i h; cases h
   ·exact ⟨_,rfl⟩
  ·exact ⟨_,rfl⟩
 ·unfold xF
  split
  ·rename_i k m k' n e1 e2
   have hw:wX (LL E) .rem k m k' n s=wW .rem k m k' n s:=by
    unfold wX
    split
    ·rename_i h; cases h
    ·rfl
   rw [hw];unfold wW;simp only
   split
   ·rename_i hk; subst hk
    exact .inl ⟨k,m,n,e1,e2,rfl⟩
   ·exact .inr ⟨_,rfl⟩
  ·refine .inr ?_
   split
   ·rename_i h; cases h
   ·rename_i h; cases h
   ·exact ⟨_,rfl⟩
  ·exact .inr ⟨_,rfl⟩
  ·exact .inr ⟨_,rfl⟩
theorem Yi (h:RS B S ι s a w) {o:Oper} {T T':TypeId} {x y:Operand} (ho:o.op=.binOp .rem T x y T'):zA E.P S ι o a w s (l8 E o s):=by
 have hx:=h.ev x;have hy:=h.ev y;rcases NK (E:=E) (s:=s) ho with ⟨k,m,n,e1,e2,e3⟩|⟨why,e3⟩
 ·rw [e3]
  rw [e1] at hx; rw [e2] at hy;obtain ⟨hx,bx⟩:=VX.H4 hx;obtain ⟨hy,by_⟩:=VX.H4 hy;intro hn;refine ⟨rfl,.int k (m.tmod n),λ w'=>?_,VX.int (Wx bx hn)⟩;have hg:(eqGuard .rem T x y (a.eval x) (a.eval y)).run E.P w'=.ok () w':=by rw [hx,hy]; rfl
  rw [S9 ho hg (r:=.ok (.int k (m.tmod n)) w')]
  ·rfl
  ·rw [hx,hy]
   have bE:n≠0:=λ e=>by subst e; exact absurd hn (Int.lt_irrefl _)
   simp [binOp,Op.intDiv,bE]
 ·rw [e3]; trivial
theorem YM (hE:C8 E B) (h:RS B S ι s a w) {o:Oper} (hq:quiet o=true) {p:Prop} {s1:St} (hr:G7 E ops o s=some (p,s1)) (hp:p) :
  o.guard=none/\G3 E.nt o.dst=true/\∃ v val,s1=s.put o.dst v/\(execOp a.eval o).run E.P w=.ok (.value val) w/\VX w.heap S ι s.hp v [val]:=by
 simp only [quiet,Bool.and_eq_true,Option.isNone_iff_eq_none] at hq;obtain ⟨hg,hq⟩:=hq;unfold G7 at hr;rw [hg] at hr;simp only at hr;unfold W7 at hr;split at hr
 ·cases hr
 ·rename_i hd
  refine ⟨hg,hd,?_⟩;have key:∀ (r:OR),(match r.get with|none=>none|some (p,v,s')=>some (p,s'.put o.dst v))=some (p,s1)->zA E.P S ι o a w s r->∃ v val,s1=s.put o.dst v/\(execOp a.eval o).run E.P w=.ok (.value val) w/\VX w.heap S ι s.hp v [val]:=by
   intro r hr qG;cases r with
   | fail why=>cases hr
   | ok v s' =>
    simp only [OR.get,Option.some.injEq,Prod.mk.injEq] at hr;obtain ⟨e1,val,k1,k2⟩:=qG;exact ⟨v,val,by rw [<- hr.2,e1],k1 w,k2⟩
   | F3 p' v s' =>
    simp only [OR.get,Option.some.injEq,Prod.mk.injEq] at hr;obtain ⟨e1,val,k1,k2⟩:=qG (by rw [hr.1]; exact hp);exact ⟨v,val,by rw [<- hr.2,e1],k1 w,k2⟩
  split at hq
  ·rename_i x ho
   rw [ho] at hr;simp only [l8,ho,OR.get,Option.some.injEq,Prod.mk.injEq] at hr;exact ⟨s.ev x,a.eval x,hr.2.symm,by simp [execOp,ho],h.ev x⟩
  ·rename_i T x ho
   rw [ho] at hr;simp only [l8,ho] at hr;cases hl:X8 E T (s.ev x) s with
   | fail y=>rw [hl] at hr; cases hr
   | ok v s' =>
    rw [hl] at hr;simp only [OR.get,Option.some.injEq,Prod.mk.injEq] at hr;obtain ⟨e1,val,k1,k2⟩:=YF hE h ho hl;exact ⟨v,val,by rw [<- hr.2,e1],k1,k2⟩
   | F3 p' v s' =>
    exfalso;unfold X8 at hl
    repeat' split at hl
    all_goals cases hl
  ·rename_i T x n ho
   have:=BG hE h (o:=o) (by rw [ho]; rfl);rw [ho] at hr;exact key _ hr this
  ·rename_i T x n ho
   have:=BG hE h (o:=o) (by rw [ho]; rfl);rw [ho] at hr;exact key _ hr this
  ·rename_i x ho
   have:=BG hE h (o:=o) (by rw [ho]; rfl);rw [ho] at hr;exact key _ hr this
  ·rename_i T x y T' ho
   have:=Yi (E:=E) h ho;rw [ho] at hr;exact key _ hr this
  ·cases hq
theorem YL {o:Oper} (hq:quiet o=true) {p:Prop} {s1:St} (hr:G7 E ops o s=some (p,s1)):∃ v,s1=s.put o.dst v:=by
 simp only [quiet,Bool.and_eq_true,Option.isNone_iff_eq_none] at hq;obtain ⟨hg,hq⟩:=hq;unfold G7 at hr;rw [hg] at hr;simp only at hr;unfold W7 at hr;split at hr
 ·cases hr
 ·rename_i hd
  have key:∀ (r:OR) (t:St),(∀ v s',r=.ok v s'->s'=s)->(∀ p v s',r=.F3 p v s'->s'=s)->(match r.get with|none=>none|some (p,v,s')=>some (p,s'.put o.dst v))=some (p,s1)->∃ v,s1=s.put o.dst v:=by
   intro r t h1 h2 hr;cases r with
   | fail why=>cases hr
   | ok v s' =>
    simp only [OR.get,Option.some.injEq,Prod.mk.injEq] at hr;exact ⟨v,by rw [<- hr.2,h1 v s' rfl]⟩
   | F3 p' v s' =>
    simp only [OR.get,Option.some.injEq,Prod.mk.injEq] at hr;exact ⟨v,by rw [<- hr.2,h2 p' v s' rfl]⟩
  split at hq
  ·rename_i x ho
   rw [ho] at hr;refine key _ s ?_ ?_ hr<;>(intros; simp_all [l8])
  ·rename_i T x ho
   rw [ho] at hr;refine key _ s ?_ ?_ hr
   ·intro v s' e
    simp only [l8,ho] at e;unfold X8 at e
    repeat' split at e
    all_goals (cases e; try rfl)
   ·intro q v s' e
    simp only [l8,ho] at e;unfold X8 at e
    repeat' split at e
    all_goals (cases e; try rfl)
  ·rename_i T x n ho
   rw [ho] at hr;refine key _ s ?_ ?_ hr
   ·intro v s' e
    simp only [l8,ho] at e
    repeat' split at e
    all_goals (cases e; try rfl)
   ·intro q v s' e
    simp only [l8,ho] at e
    repeat' split at e
    all_goals (cases e; try rfl)
  ·rename_i T x n ho
   rw [ho] at hr;refine key _ s ?_ ?_ hr
   ·intro v s' e
    simp only [l8,ho] at e
    repeat' split at e
    all_goals (cases e; try rfl)
   ·intro q v s' e
    simp only [l8,ho] at e
    repeat' split at e
    all_goals (cases e; try rfl)
  ·rename_i x ho
   rw [ho] at hr;refine key _ s ?_ ?_ hr
   ·intro v s' e
    simp only [l8,ho] at e
    repeat' split at e
    all_goals (cases e; try rfl)
   ·intro q v s' e
    simp only [l8,ho] at e
    repeat' split at e
    all_goals (cases e; try rfl)
  ·rename_i T x y T' ho
   have hb:=NK (E:=E) (s:=s) ho;rw [ho] at hr;refine key _ s ?_ ?_ hr
   ·intro v s' e
    rcases hb with ⟨k,m,n,-,-,e3⟩|⟨why,e3⟩
    ·rw [e3] at e; cases e
    ·rw [e3] at e; cases e
   ·intro q v s' e
    rcases hb with ⟨k,m,n,-,-,e3⟩|⟨why,e3⟩
    ·rw [e3] at e; cases e; rfl
    ·rw [e3] at e; cases e
  ·cases hq
theorem NV {o:Oper} (hg:o.guard=none) {T:TypeId} {a x:Operand} (ho:o.op=.store T a x) {j:Nat} {q:List Step} {v:Ty} {z:v.den} (ha:s.ev a=.ptr j q) (hx:s.ev x=.val v z) {p:Prop} {s1:St} (h:G7 E ops o s=some (p,s1)) :
  ∃ (e:g9) (r:Sigma Ty.den) (u:Ty) (y:u.den),G3 E.nt o.dst=true/\look j s.hp=some e/\s8 e.ty e.x q (O8 u ⟨v,z⟩).1 (O8 u ⟨v,z⟩).2=some r/\(j9 e.ty e.x q=some ⟨u,y⟩/\I6 E T u=true)/\s1=((s.kill j e.kd q).w6 j (e.D9 r)).put o.dst (.raw undef):=by
 have hr:∀ t,G7 E ops o t=W7 E o t:=λ t=>by unfold G7; rw [hg]
 rw [hr] at h;have cv:∀ t,l8 E o t=(match t.ev a with|.ptr i p=>O7 E T i p (t.ev x) t|_=>.fail "store"):=λ t=>by unfold l8; rw [ho]; rfl
 have aP:∀ t,W7 E o t=(match G3 E.nt o.dst with|false=>none|true=>match (l8 E o t).get with|none=>none|some (p,v,s')=>some (p,s'.put o.dst v)):=λ t=>by unfold W7; rw [ho]; rfl
 rw [aP] at h;split at h
 ·cases h
 ·rename_i hd
  rw [cv,ha] at h;simp only at h;rw [hx] at h;cases aS:look j s.hp with
  | none =>
   have:O7 E T j q (.val v z) s=.fail "store: object":=by unfold O7 St.obj; rw [aS]
   rw [this] at h; cases h
  | some e =>
   cases dL:j9 e.ty e.x q with
   | none =>
    have:O7 E T j q (.val v z) s=.fail "store: path":=by unfold O7 St.obj; rw [aS]; simp only [dL]
    rw [this] at h; cases h
   | some uy =>
    obtain ⟨u,y⟩:=uy;cases hc:I6 E T u with
    | false =>
     have:O7 E T j q (.val v z) s=.fail "store: type":=by unfold O7 St.obj; rw [aS]; simp only [dL,hc]
     rw [this] at h; cases h
    | true =>
     have rN:O7 E T j q (.val v z) s=(match s8 e.ty e.x q (O8 u ⟨v,z⟩).1 (O8 u ⟨v,z⟩).2 with
       | some r=>.ok (.raw undef) ((s.kill j e.kd q).w6 j (e.D9 r))
       | none=>.fail "store: value"):=by
      unfold O7 St.obj; rw [aS]; simp only [dL,hc,AV.vj,AV.uL,St.w7];cases s8 e.ty e.x q (O8 u ⟨v,z⟩).1 (O8 u ⟨v,z⟩).2 with
      | none=>rfl
      | some r=>rfl
     rw [rN] at h;cases aK:s8 e.ty e.x q (O8 u ⟨v,z⟩).1 (O8 u ⟨v,z⟩).2 with
     | none=>rw [aK] at h; cases h
     | some r =>
      rw [aK] at h;simp only [OR.get,Option.some.injEq,Prod.mk.injEq] at h;obtain ⟨rfl,rfl⟩:=h;exact ⟨e,r,u,y,hd,rfl,aK,⟨dL,hc⟩,rfl⟩
theorem Yw (hE:C8 E B) (hn:B.n=E.nt) (h:RS B S ι s a w) {o:Oper} (hg:o.guard=none) {T:TypeId} {ad x:Operand} (ho:o.op=.store T ad x) {j:Nat} {q:List Step} {v:Ty} {z:v.den} (ha:s.ev ad=.ptr j q) (hx:s.ev x=.val v z) {p:Prop} {s1:St} (hr:G7 E ops o s=some (p,s1)) :
  ∃ ι' w',(execOp a.eval o).run E.P w=.ok .skip w'/\RS B S ι' s1 (a.put o.dst undef) w'/\∀ {g:List Nat} {i:Nat} {e:g9} {p0:List Step} {t0:Ty} {l m:List t0.den} {b off:Nat} {v':Value},i≠j->j∉g->look i s.hp=some e->w9 e.ty e.x p0->j9 e.ty e.x p0=some ⟨.d0 true t0,l⟩->yk B S ι s.hp g i e p0 t0 l m b off v' w->yk B S ι' s1.hp g i e p0 t0 l m b off v' w':=by
 obtain ⟨ej,r,u,y,hd,aS,aK,⟨dL,bB⟩,rfl⟩:=NV hg ho ha hx hr;have gC:=h.ev ad;rw [ha] at gC;obtain ⟨e',b0,off0,c1,aM,hl,c4⟩:=gC;rw [aS] at c1; cases c1;have c4:a.eval ad=.pointer (some ⟨b0,off0,none⟩):=by simpa using c4
 have dz:=h.ev x;rw [hx] at dz;obtain ⟨cs,eX,hz⟩:=dz;have eX:a.eval x=p7 v cs:=by simpa using eX
 obtain ⟨hz,mW⟩:=PD (u:=u) (q:=⟨v,z⟩) hz;rw [<- Bh mW] at eX;generalize (O8 u ⟨v,z⟩)=fz at aK hz mW eX;obtain ⟨v,z⟩:=fz;dsimp only at aK hz eX;have cF:=K2 hl;obtain ⟨Op,m1,mn,m2,m3,m4,m5⟩:=M6 cF (h.hs.ob j ej aS) h.hs.slt aM dL hl;have bZ:=BZ dL aK;have gT:¬ S b0:=(h.hs.bl j ej aS b0 m4).1;have hcs:cs.length=u.size:=by rw [hz.length,F4 bZ]
 obtain ⟨ι',⟨O,rfl,hO⟩,h1⟩:=h.Ds aS aM dL hl (u':=v) (z:=z) (cs:=cs) (O2:=[]) (λ H' aW hc=>hz.s9 (λ c dB=>hc.rest c (by
   rintro rfl;rcases dB with dB|dB
   ·cases dB
   ·exact gT dB) (by
   rcases dB with dB|dB
   ·cases dB
   ·exact h.hs.slt c dB)) (λ _ h=>h)) hcs List.nodup_nil (by simp) aK (λ bu _=>Pz aK (NZ hl bu))
 have aP:(execOp a.eval o).run E.P w=.ok .skip (w.setRow b0 (over (w4 w.heap b0) off0 cs).toArray):=by
  simp [execOp,ho,c4,eX,Instr.storeAt,Instr.sureAddr,Lg (D0 hE bB) bZ m5 hz]
 refine ⟨_,_,aP,h1.put (by rw [hn]; exact hd) (v:=.raw undef) (val:=undef) rfl,?_⟩;rintro g i e p0 t0 l m b off v' bO fP hi mf dA ⟨O',k1,k2,k3,k4,k5⟩;have hold:∀ c,c≠b0->(w.setRow b0 (over (w4 w.heap b0) off0 cs).toArray).heap[c]?=w.heap[c]?:=λ c hc=>setRow_other hc;have bh:E6 ι (ι.C6 j O) i:=W2 bO O;have mq:=K2 k1;have bM:b0∉O':=λ hc=>(k5 b0 hc).2.1 j ej (Ne.symm bO) fP aS m4;refine ⟨O',?_,k2.s9 (λ c hc=>hold c (by
   rintro rfl;rcases hc with hc|hc
   ·exact bM hc
   ·exact gT hc)) (λ _ h=>h),k3,k4,λ c hc=>⟨?_,λ k ek hk qO de=>?_,λ jZ=>?_⟩⟩
 ·rw [bh.loc]
  exact EB mq (h.hs.ob i e hi) h.hs.slt (λ c hc=>hold c (by rintro rfl; exact h.hs.dj i j e ej hi aS bO c hc m4)) mf k1
 ·obtain ⟨f1,f2,f3⟩:=(k5 c hc).1
  exact ⟨f1,f2,by rw [setRow_size]; exact f3⟩
 ·rw [wu] at de
  simp only [St.w6,o6] at de;by_cases mE:k=j
  ·subst mE
   rw [if_pos rfl] at de; cases de;intro cw;refine (k5 c hc).2.1 k ej hk qO aS ?_;cases ej with
   | var t1 x1 =>
    simp only [l6,g9.D9,Ix.C6,if_true,List.mem_cons] at cw ⊢;rcases cw with cw|cw
    ·exact .inl cw
    ·rcases (hO c cw).1 with h9|h9
     ·exact .inr h9
     ·cases h9
   | own t1 x1 =>
    simp only [l6,g9.D9,Ix.C6,if_true] at cw ⊢;rcases (hO c cw).1 with h9|h9
    ·exact h9
    ·cases h9
   | K6=>exact absurd rfl cF
  ·rw [if_neg mE] at de
   rw [(W2 mE O).l6];exact (k5 c hc).2.1 k ek hk qO de
 ·rw [bh.l6] at jZ
  obtain ⟨Op',o1,o2⟩:=(k5 c hc).2.2 jZ;obtain ⟨O3,n1,_,n3,_,n5,_⟩:=M6 mq (h.hs.ob i e hi) h.hs.slt mf dA k1;have ke:b0≠b:=by
   rintro rfl;exact h.hs.dj i j e ej hi aS bO b0 n5 m4
  have nU:O3=Op':=n3.det o1;have qj:∀ c'∈Op',c'≠b0:=by
   rintro c' dB rfl;rw [<- nU] at dB;exact h.hs.dj i j e ej hi aS bO c' (I0 (n1 c' dB)) m4
  refine ⟨Op',?_,o2⟩;rw [l5 (hold b ke.symm)];exact o1.s9 (λ c' dB=>hold c' (by
   rintro rfl;rcases dB with dB|dB
   ·exact qj _ dB rfl
   ·exact gT dB)) (λ _ h=>h)
theorem zV {T:List Nat} {f:AV->AV} (hf:Trim T f) {u v:AV} (h:f u=v) (hv:v.ref=true\/(v.plain=true/\v≠.any)):u=v:=by
 cases u with
 | cons a b=>rw [hf.cons] at h; subst h; rcases hv with hv|⟨hv,_⟩<;>cases hv
 | K5 l=>rw [hf.K5] at h; subst h; rcases hv with hv|⟨hv,_⟩<;>cases hv
 | C3 g l=>rw [hf.C3] at h; subst h; rcases hv with hv|⟨hv,_⟩<;>cases hv
 | bx l=>rw [hf.bx] at h; subst h; rcases hv with hv|⟨hv,_⟩<;>cases hv
 | rc g l=>rw [hf.rc] at h; subst h; rcases hv with hv|⟨hv,_⟩<;>cases hv
 | ptr i p=>rcases hf.atom _ (rfl:(AV.ptr i p).ref=true) with e|e<;>rw [e] at h<;>first|exact h|(subst h; rcases hv with hv|⟨_,hv⟩<;>first|cases hv|exact absurd rfl hv)
 | at_ i p=>rcases hf.atom _ (rfl:(AV.at_ i p).ref=true) with e|e<;>rw [e] at h<;>first|exact h|(subst h; rcases hv with hv|⟨_,hv⟩<;>first|cases hv|exact absurd rfl hv)
 | sub i p x y=>rcases hf.atom _ (rfl:(AV.sub i p x y).ref=true) with e|e<;>rw [e] at h<;>first|exact h|(subst h; rcases hv with hv|⟨_,hv⟩<;>first|cases hv|exact absurd rfl hv)
 | _=>rw [hf.plain _ rfl] at h; exact h
theorem c1W {u:Ty} {v:AV} {r:Sigma λ t:Ty=>List t.den} {g:List Nat} (h:v.uR s u=some (r,g)):v.ref=true\/(v.plain=true/\v≠.any):=by
 cases v with
 | ptr i p=>exact .inl rfl
 | at_ i p=>exact .inl rfl
 | sub i p x y=>exact .inl rfl
 | raw v=>exact .inr ⟨rfl,by intro h; cases h⟩
 | val t x=>exact .inr ⟨rfl,by intro h; cases h⟩
 | N7 t x=>exact .inr ⟨rfl,by intro h; cases h⟩
 | nil=>exact .inr ⟨rfl,by intro h; cases h⟩
 | _=>exfalso; simp [AV.uR,AV.els] at h
theorem Ql {M:List Nat} {q:vz} {n:Nat} (h:Dy ops M q n s=true) {j:Nat} (hj:j<n) (fw:j≠q.k) {o:Oper} (ho:ops[j]?=some o):(M.getD q.k 0).testBit j=true\/quiet o=true\/yA ops q n j o s=true:=by
 simp only [Dy,List.all_eq_true,List.mem_range] at h;have:=h j hj;simp only [Bool.or_eq_true,ho] at this;rcases this with h|(h|h)|h
 ·exact absurd (Nat.eq_of_beq_eq_true h) fw
 ·exact .inl h
 ·exact .inr (.inl h)
 ·exact .inr (.inr h)
theorem SD {q:vz} {n j:Nat} {o:Oper} (h:yA ops q n j o s=true):o.guard=none/\o.dst=none/\∃ T ad x j0 q0 v z,o.op=.store T ad x/\s.ev ad=.ptr j0 q0/\s.ev x=.val v z/\(s.ev q.x).i8 j0=false/\(s.ev q.y).i8 j0=false/\∀ j',j<j'->j'<n->∀ o',ops[j']?=some o'->∀ d,o'.dst=some d->d∉looks ops o:=by
 unfold yA at h;split at h
 ·rename_i T ad x ho
  simp only [Bool.and_eq_true] at h;obtain ⟨⟨⟨h1,hg⟩,hd⟩,h2⟩:=h;split at h1
  ·rename_i j0 q0 v z ha hx
   simp only [Bool.and_eq_true,Bool.not_eq_true'] at h1;refine ⟨by simpa using hg,by simpa using hd,T,ad,x,j0,q0,v,z,ho,ha,hx,h1.1,h1.2,λ j' hj hJ o' eR d hd hm=>?_⟩;simp only [List.all_eq_true,List.mem_range] at h2;have:=h2 j' hJ;rw [Bool.or_eq_true] at this;rcases this with h9|h9
   ·have:=Nat.le_of_ble_eq_true h9; omega
   ·rw [eR] at h9
    simp [zr,hd,hm] at h9
  ·cases h1
 ·cases h
theorem Trim.yt {T T':List Nat} {f g:AV->AV} (hf:Trim T f) (hg:Trim T' g):Trim (T++T') (λ u=>g (f u)):=by
 refine ⟨λ a b=>by rw [hf.cons,hg.cons],λ l=>by rw [hf.K5,hg.K5],λ k l=>by rw [hf.C3,hg.C3],λ l=>by rw [hf.bx,hg.bx],λ k l=>by rw [hf.rc,hg.rc],λ u hu=>?_,λ u hu h=>?_,λ u hu=>by rw [hf.plain u hu,hg.plain u hu]⟩
 ·rcases hf.atom u hu with e|e
  ·rw [e]; exact hg.atom u hu
  ·rw [e]; exact .inr (hg.plain _ rfl)
 ·rw [hf.wT u hu (λ i hi=>h i (List.mem_append_left _ hi)),hg.wT u hu (λ i hi=>h i (List.mem_append_right _ hi))]
theorem HM {J:List Nat} {F:AV->AV} (hF:Trim J F) {s t:St} {z:Operand} (h:∀ m,z=.tmp m->look m t.fr=(look m s.fr).map F):t.ev z=F (s.ev z):=by
 cases z with
 | tmp m =>
  have hg:t.get m=F (s.get m):=by
   simp only [St.get,h m rfl];cases look m s.fr with
   | none=>exact (hF.plain _ rfl).symm
   | some v=>rfl
  rw [zF,zF];unfold gq;cases Nat.beq m I4 with
  | true=>exact (hF.plain _ rfl).symm
  | false=>exact hg
 | const c=>exact (hF.fix _ (λ i _=>Lh c i)).symm
 | global g=>exact (hF.plain _ rfl).symm
 | func f=>exact (hF.fix _ (λ i _=>rfl)).symm
theorem En {M:Nat->Nat} {q:vz} {n:Nat} {sF:St}:∀ {l:List Nat} {acc:List (Nat×St)} {s s':St},uX E ops M acc l s s'->M2 s' sF->uniq s.fr->l.Pairwise (·<·)->(∀ j∈l,j<n)->(∀ j∈l,∀ o,ops[j]?=some o->quiet o=true\/yA ops q n j o sF=true) ->
  ∃ (J:List Nat) (f:AV->AV),Trim J f/\(∀ j∈J,(sF.ev q.x).i8 j=false/\(sF.ev q.y).i8 j=false)/\(∀ i,i∉J->look i s'.hp=look i s.hp)/\∀ m,(∀ j∈l,∀ o,ops[j]?=some o->o.dst≠some m)->look m s'.fr=(look m s.fr).map f
 | [],acc,s,s',h,_,_,_,_,_=>by
  obtain rfl:s=s':=h;exact ⟨[],λ u=>u,Trim.id _,by simp,λ _ _=>rfl,λ m _=>by simp⟩
 | j::l,acc,s,s',⟨o,ho,_,p,s1,h1,_,h2⟩,da,hu,rR,bc,hq=>by
  obtain ⟨oL,oK⟩:=List.pairwise_cons.1 rR;obtain ⟨J,f,k1,k2,k3,k4⟩:=En h2 da (P6 hu h1) oK (λ j' hJ=>bc j' (by simp [hJ])) (λ j' hJ=>hq j' (by simp [hJ]));rcases hq j (by simp) o ho with oJ|pg
  ·obtain ⟨v,rfl⟩:=YL oJ h1
   refine ⟨J,f,k1,k2,λ i hi=>(k3 i hi).trans (by rw [wu]),λ m hm=>?_⟩;rw [k4 m (λ j' hJ=>hm j' (by simp [hJ])),W4,if_neg (hm j (by simp) o ho)]
  ·obtain ⟨hg,nM,T,ad,x,j0,q0,v,z,g1,g2,g3,g4,g5,g6⟩:=SD pg
   obtain ⟨v0,ids,f0,h0,z1,z2,z3,z4,z5⟩:=yR (ops:=ops) hu h1;obtain ⟨s1',y1,_,y2⟩:=z5 s hu ((M2.refl s).xL _ _) z2;rw [h1] at y1; cases y1;have im:∀ y,y∈o.op.operands.toList->sF.ev y=f (f0 (s.ev y)):=by
    intro y hy;refine HM (z1.yt k1) (λ m hm=>?_);subst hm;have gY:=xr (ops:=ops) hy;rw [<- da.1 m,k4 m (λ j' hJ o' eR dV=>g6 j' (oL j' hJ) (bc j' (by simp [hJ])) o' eR m dV gY),y2.fr,if_neg (by rw [nM]; intro h; cases h)];cases look m s.fr<;>rfl
   have ha:s.ev ad=.ptr j0 q0:=zV (z1.yt k1) ((im ad (by rw [g1]; simp [Op.operands])).symm.trans g2) (.inl rfl);have hx:s.ev x=.val v z:=zV (z1.yt k1) ((im x (by rw [g1]; simp [Op.operands])).symm.trans g3) (.inr ⟨rfl,by intro h; cases h⟩);obtain ⟨e,r,_,_,_,_,_,_,rfl⟩:=NV hg g1 ha hx h1;refine ⟨[j0]++J,λ u=>f (AV.kill j0 e.kd q0 u),(Trim.kill j0 e.kd q0).yt k1,λ i hi=>?_,λ i hi=>?_,λ m hm=>?_⟩
   ·rcases List.mem_append.1 hi with hi|hi
    ·rw [List.mem_singleton] at hi; subst hi; exact ⟨g4,g5⟩
    ·exact k2 i hi
   ·rw [k3 i (λ h=>hi (List.mem_append_right _ h)),wu]
    simp only [St.w6,o6];rw [if_neg (λ h=>hi (List.mem_append_left _ (by simp [h])))];rfl
   ·rw [k4 m (λ j' hJ=>hm j' (by simp [hJ])),W4,if_neg (hm j (by simp) o ho)]
    have e1:look m ((s.kill j0 e.kd q0).w6 j0 (e.D9 r)).fr=(look m s.fr).map (AV.kill j0 e.kd q0):=N8 m _ _;rw [e1];cases look m s.fr<;>rfl
theorem Jy {M:List Nat} {k n:Nat} (h:DA ops M k n=true):n+1=ops.size/\k<n/\∃ ok,ops[k]?=some ok/\∀ j,j<n->(M.getD n 0).testBit j=true/\(j≠k->∃ o,ops[j]?=some o/\(∀ d,ok.dst=some d->o.dst≠some d) /\
  ((M.getD k 0).testBit j=true\/((quiet o=true\/Ln o=true)/\∀ d,o.dst=some d->d∉looks ops ok))):=by
 simp only [DA,Bool.and_eq_true] at h;obtain ⟨⟨h1,h2⟩,h3⟩:=h;have hn:=Nat.eq_of_beq_eq_true h1;refine ⟨hn,by simpa [Nat.blt_eq] using h2,?_⟩;split at h3
 ·rename_i ok aM
  refine ⟨ok,aM,λ j hj=>?_⟩;simp only [List.all_eq_true,List.mem_range] at h3;have:=h3 j hj;simp only [Bool.and_eq_true,Bool.or_eq_true] at this;obtain ⟨m1,m2⟩:=this;refine ⟨m1,λ fw=>?_⟩;rcases m2 with m2|m2
  ·exact absurd (Nat.eq_of_beq_eq_true m2) fw
  ·split at m2
   ·rename_i o ho
    simp only [Bool.and_eq_true,Bool.or_eq_true] at m2;refine ⟨o,ho,λ d hd gR=>?_,m2.2.imp id (λ h=>⟨h.1,λ d hd ib=>?_⟩)⟩
    ·have:=m2.1
     simp only [zr,gR,hd,Option.toList] at this;simp at this
    ·have:=h.2
     simp only [zr,hd] at this;simp [ib] at this
   ·cases m2
 ·cases h3
theorem IZ {M:List Nat} {q:vz} {n:Nat} {o:Oper} {s:St} {p:Prop} {s2:St} (h:zb E ops M q n o s=some (p,s2)):∃ T2 ad s3,o.guard=none/\o.op=.store T2 ad (.tmp q.d)/\(∀ t,ad=.tmp t->t≠q.d)/\(DA ops M q.k n=true/\Dy ops M q n s=true)/\G3 E.nt o.dst=true /\
  xD E q.T q.U T2 (s.ev q.x) (s.ev q.y) (s.ev ad) q.d s=some (p,s3)/\s2=s3.put o.dst (.raw undef):=by
 unfold zb at h;split at h
 ·rename_i T2 ad d' hg cv
  split at h
  ·rename_i hc
   simp only [Bool.and_eq_true] at hc;obtain ⟨⟨⟨⟨c1,c2⟩,c3⟩,c5⟩,c4⟩:=hc;obtain rfl:=Nat.eq_of_beq_eq_true c1;split at h
   ·rename_i p' s3 hs
    cases h;exact ⟨T2,ad,s3,hg,cv,λ t e=>by subst e; rintro rfl; simp at c2,⟨c3,c5⟩,c4,hs,rfl⟩
   ·cases h
  ·cases h
 ·cases h
theorem IS (hE:C8 E B) {x y adv:AV} {T U T2:TypeId} {d:Nat} {p:Prop} {s2:St} (hb:xD E T U T2 x y adv d s=some (p,s2)) (hp:p) :
  ∃ i p0 e t0 l m g r q bts,x=.at_ i p0/\adv=.ptr i p0/\look i s.hp=some e/\i∉g/\g.Nodup/\(g.all λ i=>!pinned i)=true/\j9 e.ty e.x p0=some ⟨.d0 true t0,l⟩/\I6 E T2 (.d0 true t0)=true /\
   s8 e.ty e.x p0 (.d0 true t0) (l++m)=some r/\s2=(((St.w7 g (s.put (some d) .any)).kill i e.kd p0).w6 i (e.D9 r))/\look T E.tt=some ⟨.d0 q t0,bts⟩ /\
   ((∃ e',E.P.underlying U=some (.slice e'))\/E.P.underlying U=some .string)/\y.uR s t0=some (⟨t0,m⟩,g)/\l.length+m.length<=140737488355328/\(l.length+m.length)*t0.wb<=140737488355328 /\
   ((∃ t x,e=.var t x)\/∃ t x j q,e=.own (.d0 true t) x/\p0=.idx j::q):=by
 unfold xD at hb;split at hb
 ·rename_i i p0 j q q1 t0 bts u1 bts1 hT hU
  split at hb
  ·rename_i e aS jq
   simp only [Bool.and_eq_true] at jq;obtain ⟨bO,jq⟩:=jq;have bO:=Nat.eq_of_beq_eq_true bO;subst bO;split at hb
   ·rename_i u l hg
    split at hb
    ·rename_i t m g cn
     split at hb
     ·rename_i hu
      split at hb
      ·rename_i ht
       subst hu; subst ht;split at hb
       ·rename_i r aK
        split at hb
        ·rename_i bB
         cases hb;simp only [Bool.and_eq_true,Bool.not_eq_true'] at bB;obtain ⟨⟨⟨⟨bB,bL⟩,ee⟩,hY⟩,dL⟩:=bB;obtain ⟨rfl,iN,gN⟩:=hp;have ee:i∉g:=by intro hm; simp [hm] at ee
         have hk:(∃ e',E.P.underlying U=some (.slice e'))\/E.P.underlying U=some .string:=by
          cases u1<;>first|cases jq|skip
          ·exact .inr (W6 (p9 hE hU))
          ·obtain ⟨et,k',f1,_⟩:=F8 (p9 hE hU)
           exact .inl ⟨et,f1⟩
         exact ⟨i,q,e,_,l,m,g,r,_,_,rfl,rfl,aS,ee,Cj hY,dL,hg,bB,aK,rfl,hT,hk,cn,iN,gN,(BX bL).2⟩
        ·cases hb
       ·cases hb
      ·cases hb
     ·cases hb
    ·cases hb
   ·cases hb
  ·cases hb
 ·cases hb
theorem N4.cut:∀ {A C:List Oper} {o:Oper},N4 (A++o::C)->N4 (A++C)/\∀ x∈A++C,∀ d,x.dst=some d->o.dst≠some d
 | [],C,o,h=>⟨h.2,λ x hx d fV gR=>h.1 d gR x hx fV⟩
 | y::A,C,o,h=>by
  obtain ⟨m1,m2⟩:=N4.cut h.2;refine ⟨⟨λ d hd x hx=>h.1 d hd x (by simp at hx ⊢; rcases hx with hx|hx<;>simp [hx]),m1⟩,λ x hx d fV gR=>?_⟩;rcases List.mem_cons.1 hx with rfl|hx
  ·exact h.1 d fV o (by simp) gR
  ·exact m2 x hx d fV gR
theorem N4.sub {f:Nat->Bool}:∀ {l:List Nat},N4 (rem ops l)->N4 (rem ops (l.filter f))
 | [],h=>h
 | i::l,h=>by
  cases ho:ops[i]? with
  | none =>
   have e:rem ops (i::l)=rem ops l:=by simp [rem,ho]
   rw [e] at h;have:=N4.sub (f:=f) h;rw [List.filter_cons]
   split
   ·have e:rem ops (i::l.filter f)=rem ops (l.filter f):=by simp [rem,ho]
    rw [e]; exact this
   ·exact this
  | some o =>
   rw [Eb ho] at h;rw [List.filter_cons]
   split
   ·rw [Eb ho]
    refine ⟨λ d hd x hx=>h.1 d hd x ?_,N4.sub h.2⟩;obtain ⟨j,hj,sA⟩:=List.mem_filterMap.1 hx;exact List.mem_filterMap.2 ⟨j,(List.mem_filter.1 hj).1,sA⟩
   ·exact N4.sub h.2
theorem SW {n i:Nat} {listed:Array Bool} {f:Nat->Bool} (hs:listed.size=n) (hi:i∈idxs n listed) (hf:f i=true):∃ pre post,(idxs n listed).filter f=pre++i::post/\(∀ j∈pre,j<i) /\
  (idxs n (listed.setIfInBounds i true)).filter f=pre++post:=by
 obtain ⟨pre,post,e,h1,h2⟩:=JP hi;refine ⟨pre.filter f,post.filter f,by rw [e,List.filter_append,List.filter_cons,if_pos hf],λ j hj=>h1 j (List.mem_filter.1 hj).1,?_⟩;rw [By hs (E7.1 hi).1,h2,List.filter_append]
theorem Ze {n i:Nat} {listed:Array Bool} {f g:Nat->Bool} (hs:listed.size=n) (hi:i<n) (hg:∀ j,g j=(f j && !(j == i))):(idxs n (listed.setIfInBounds i true)).filter f=(idxs n listed).filter g:=by
 rw [By hs hi,List.filter_filter];exact List.filter_congr (λ j _=>(hg j).symm)
theorem Bx {n i fuel:Nat} {listed:Array Bool} (hs:listed.size=n) (hi:i∈idxs n listed) (hl:(idxs n listed).length=fuel+1):(idxs n (listed.setIfInBounds i true)).length=fuel:=by
 obtain ⟨pre,post,e,h1,h2⟩:=JP hi;rw [By hs (E7.1 hi).1,h2];rw [e] at hl;simp at hl ⊢; omega
section
variable {q:vz} {n:Nat} {s1:St}
theorem yG.set {listed:Array Bool} (cD:yG ops listed) {i:Nat} {o:Oper} (ho:ops[i]?=some o) (aZ:∀ e∈o.after,Region.binds .any e=true->listed.getD e.on false=true):yG ops (listed.setIfInBounds i true):=by
 intro k y hy hk e' eA cQ;by_cases gw:k=i
 ·subst gw
  rw [ho] at hy; cases hy;exact getD_set_true (aZ e' eA cQ)
 ·rw [getD_set_ne true (Ne.symm gw)] at hk
  exact getD_set_true (cD k y hy hk e' eA cQ)
theorem a9C {listed:Array Bool} {i:Nat} (hi:i<listed.size):(listed.setIfInBounds i true).getD i false=true:=by simp [hi]
theorem RI (hd:wi ops=true) {listed:Array Bool} (aW:listed.size=ops.size) (bE:idxs ops.size listed≠[]):Region.ready .any ops listed≠[]:=by
 have hM:=Ej hd;intro hr;cases kL:idxs ops.size listed with
 | nil=>exact bE kL
 | cons i l =>
  have bm:i∈idxs ops.size listed:=by rw [kL]; simp
  obtain ⟨h1,h2⟩:=E7.1 bm;have ho:ops[i]?=some ops[i]:=Array.getElem?_eq_getElem h1;have:i∈Region.ready .any ops listed:=by
   refine mem_ready.2 ⟨h2,ops[i],ho,λ e he hb=>?_⟩;have bc:=(hM i _ ho).1 e he hb;cases hle:listed.getD e.on true with
   | true =>
    have:e.on<listed.size:=by omega
    simp [this] at hle ⊢; exact hle
   | false =>
    exfalso;have jP:e.on∈idxs ops.size listed:=E7.2 ⟨by omega,hle⟩;have hs:=Ch ops.size listed;rw [kL] at hs jP;rcases List.mem_cons.1 jP with e1|e1
    ·omega
    ·have:=(List.pairwise_cons.1 hs).1 _ e1; omega
  rw [hr] at this;cases this
theorem c0X (hE:C8 E B) (hn:B.n=E.nt) (hd:wi ops=true) {Q:Exit->Act->World->Prop} (fb:N4 ops.toList) (hA:Az E ops q) {o2:Oper} (iA:ops[n]?=some o2) {p:Prop} {s2:St} (eK:zb E ops (D7 ops.toList []) q n o2 s1=some (p,s2)) (hp:p)
  (hQ:∀ S ι a w,RS B S ι s2 a w->Q .normal a w) {i:Nat} {e:g9} {p0:List Step} {t0:Ty} {l m:List t0.den} {g:List Nat} (hx:s1.ev q.x=.at_ i p0) (he:look i s1.hp=some e) (aM:w9 e.ty e.x p0) (hg:j9 e.ty e.x p0=some ⟨.d0 true t0,l⟩)
  (cn:(s1.ev q.y).uR s1 t0=some (⟨t0,m⟩,g)) {v':Value} :
  ∀ (fuel:Nat) (listed:Array Bool) (S:Nat->Prop) (ι:Ix) (s s':St) (a:Act) (w:World),listed.size=ops.size->(idxs ops.size listed).length=fuel->yG ops listed->listed.getD q.k false=true->listed.getD n true=false->uniq s.fr->M9 s (rem ops ((idxs ops.size listed).filter (λ j=>!(j == n)))) ->
   uX E ops (λ i=>(D7 ops.toList []).getD i 0) [] ((idxs ops.size listed).filter (λ j=>!(j == n))) s s'->M2 s' s1->RS B S ι s a w->a.eval (.tmp q.d)=v'->(∀ b off,Loc w.heap ι i e p0=some (b,off)->yk B S ι s.hp g i e p0 t0 l m b off v' w) ->
   wpAny E.P .any ops Q fuel listed a w:=by
 have hM:=Ej hd;obtain ⟨T2,ad,s3,f1,f2,f3,⟨f4,f4'⟩,f5,f6,rfl⟩:=IZ eK;obtain ⟨fW,nI,ok,iz,fq⟩:=Jy f4;obtain ⟨oa,c,a1,a2,a3,a4,a5,a6,a7,a8⟩:=hA;have e9:oa=ok:=by rw [a1] at iz; cases iz; rfl
 subst e9;have mm:∀ j o,j<n->j≠q.k->ops[j]?=some o->o.dst≠some q.d:=by
  intro j o hj fw ho;obtain ⟨o',h1,h2,_⟩:=(fq j hj).2 fw;rw [ho] at h1; cases h1;exact h2 q.d a3
 intro fuel
 induction fuel with
 | zero =>
  intro listed S ι s s' a w aW hlen cD de fY hu fx aP da cm hv nD;exfalso;have fK:idxs ops.size listed=[]:=List.length_eq_zero_iff.1 hlen;have:n∈idxs ops.size listed:=E7.2 ⟨by omega,fY⟩;rw [fK] at this; cases this
 | succ fuel ih =>
  intro listed S ι s s' a w aW hlen cD de fY hu fx aP da cm hv nD;refine ⟨λ hr=>absurd hr (RI hd aW (by intro h; rw [h] at hlen; cases hlen)),λ i' hi=>?_⟩;obtain ⟨h1,o,ho,aZ⟩:=mem_ready.1 hi;have cZ:i'<ops.size:=(Array.getElem?_eq_some_iff.1 ho).1;have bm:i'∈idxs ops.size listed:=E7.2 ⟨cZ,h1⟩;have gV:∀ j,j<ops.size->((D7 ops.toList []).getD i' 0).testBit j=true->listed.getD j false=true:=EC (M:=λ i=>(D7 ops.toList []).getD i 0) (λ i o ho=>⟨(hM i o ho).1,(hM i o ho).2.1⟩) cD i' o ho aZ;by_cases fh:i'=n
  ·
   subst fh;rw [iA] at ho; cases ho;have bt:∀ j,j∈idxs ops.size listed->j=i':=by
    intro j hj;obtain ⟨j1,j2⟩:=E7.1 hj;by_cases e:j=i'
    ·exact e
    ·have:=gV j j1 (fq j (by omega)).1
     rw [U3 this] at j2; cases j2
   have fK:(idxs ops.size listed).filter (λ j=>!(j == i'))=[]:=by
    rw [List.filter_eq_nil_iff];intro j hj; simp [bt j hj]
   rw [fK] at aP;obtain rfl:s=s':=aP;have lS:=Dq da cm;have oE:RS B S ι (s1.put (some q.d) .any) a w:=lS.forget q.d;obtain ⟨i2,p2,e2,t2,l2,m2,g2,r,qq,bts,b1,b2,b3,b4,b5,b6,b7,b8,b9,AG,AF,AE,wB,AD,AB,yi⟩:=IS hE f6 hp;rw [hx] at b1;obtain ⟨rfl,rfl⟩:i=i2/\p0=p2:=by simpa using b1
   rw [he] at b3; cases b3;rw [hg] at b7;simp only [Option.some.injEq,Sigma.mk.injEq,Ty.d0.injEq,true_and] at b7;obtain ⟨b7,b7'⟩:=b7;subst b7;obtain rfl:l=l2:=eq_of_heq b7';rw [cn] at wB;simp only [Option.some.injEq,Prod.mk.injEq,Sigma.mk.injEq,heq_eq_eq,true_and] at wB;obtain ⟨rfl,rfl⟩:=wB;have gC:=lS.ev ad;rw [b2] at gC;obtain ⟨e',b,off,c1,c2,c3,c4⟩:=gC;rw [he] at c1; cases c1;have c4:a.eval ad=.pointer (some ⟨b,off,none⟩):=by simpa using c4
   have bL:=Sc hE oE (g:=g) b6 b4 (e:=e) he aM hg (by
    obtain ⟨O',y1,y2,y3,y4,y5⟩:=nD b off c3;exact ⟨O',y1,y2,y3,y4,λ cc hc=>⟨(y5 cc hc).1,λ j ej hj fP df=>(y5 cc hc).2.1 j ej hj fP ((da.2 j).trans df),(y5 cc hc).2.2⟩⟩) f2 c4 hv b8 b9
   have jR:=Bx aW bm hlen;have jN:idxs ops.size (listed.setIfInBounds i' true)=[]:=by
    rw [By aW cZ];rw [List.filter_eq_nil_iff];intro j hj; simp [bt j hj]
   have sS:fuel=0:=by rw [jN] at jR; exact jR.symm
   subst sS;have hw:o2.wp E.P a w (wpAny E.P .any ops Q 0 (listed.setIfInBounds i' true)) Q:=by
    refine bL _ _ (λ S' ι' w' val h1 h2=>⟨?_,hQ S' ι' _ w' ?_⟩)
    ·rw [List.eq_nil_iff_forall_not_mem]
     intro j hj;obtain ⟨j1,oj,j2,_⟩:=mem_ready.1 hj;have:j∈idxs ops.size (listed.setIfInBounds i' true):=E7.2 ⟨(Array.getElem?_eq_some_iff.1 j2).1,j1⟩;rw [jN] at this; cases this
    ·rw [<- AG] at h1 h2
     exact h1.put (by rw [hn]; exact f5) h2
   unfold wpOp;rw [iA];simp only [Region.wanted,f1,if_true];exact .inl hw
  ·
   have bc:i'<n:=by omega
   have gw:i'≠q.k:=by rintro rfl; rw [U3 de] at h1; cases h1
   obtain ⟨o',eR,jY,uj⟩:=(fq i' bc).2 gw;rw [ho] at eR; cases eR;have mv:∀ j,j∈idxs ops.size listed->¬ ((D7 ops.toList []).getD q.k 0).testBit j=true:=by
    intro j hj hb;have pN:∀ e∈oa.after,Region.binds .any e=true->listed.getD e.on false=true:=cD q.k oa a1 (U3 de);have h9:=EC (M:=λ i=>(D7 ops.toList []).getD i 0) (λ i o ho=>⟨(hM i o ho).1,(hM i o ho).2.1⟩) cD q.k oa a1 pN j (E7.1 hj).1 hb;have h8:=(E7.1 hj).2;rw [U3 h9] at h8; cases h8
   have ff:∀ j∈(idxs ops.size listed).filter (λ j=>!(j == n)),∀ oj,ops[j]?=some oj->quiet oj=true\/yA ops q n j oj s1=true:=by
    intro j hj oj jL;obtain ⟨j1,j2⟩:=List.mem_filter.1 hj;simp only [Bool.not_eq_true',beq_eq_false_iff_ne,ne_eq] at j2;have jn:j<n:=by have:=(E7.1 j1).1; omega
    have jk:j≠q.k:=by rintro rfl; have:=(E7.1 j1).2; rw [U3 de] at this; cases this
    rcases Ql f4' jn jk jL with h9|h9|h9
    ·exact absurd h9 (mv j j1)
    ·exact .inl h9
    ·exact .inr h9
   have gr:∀ j∈(idxs ops.size listed).filter (λ j=>!(j == n)),j<n:=by
    intro j hj;obtain ⟨j1,j2⟩:=List.mem_filter.1 hj;simp only [Bool.not_eq_true',beq_eq_false_iff_ne,ne_eq] at j2;have:=(E7.1 j1).1; omega
   have eZ:((idxs ops.size listed).filter (λ j=>!(j == n))).Pairwise (·<·):=(Ch ops.size listed).sublist List.filter_sublist;have my:i'∈(idxs ops.size listed).filter (λ j=>!(j == n)):=List.mem_filter.2 ⟨bm,by simpa using fh⟩;have mF:=ff i' my o ho;have qE:=aP;obtain ⟨pre,post,e1,kH,e2⟩:=SW (f:=λ j=>!(j == n)) aW bm (by simpa using fh);rw [e1] at fx aP;have er:rem ops (pre++i'::post)=rem ops pre++o::rem ops post:=by simp [rem,List.filterMap_append,ho]
   have er2:rem ops (pre++post)=rem ops pre++rem ops post:=by simp [rem,List.filterMap_append]
   have gA:N4 (rem ops (pre++i'::post)):=by
    rw [<- e1];refine N4.sub ?_;have:rem ops (idxs ops.size listed)=rem ops ((List.range ops.size).filter (λ i=>!listed.getD i true)):=rfl;rw [this];refine N4.sub ?_;have h9:=DH (ops:=ops);rw [xW] at h9;rw [h9]; exact fb
   have fg:∀ j∈pre,((D7 ops.toList []).getD i' 0).testBit j=false/\∀ x,ops[j]?=some x->indep ops x o=true:=by
    intro j hj;have dE:j∈idxs ops.size listed:=by
     have:j∈(idxs ops.size listed).filter (λ j=>!(j == n)):=by rw [e1]; simp [hj]
     exact (List.mem_filter.1 this).1
    have fX:((D7 ops.toList []).getD i' 0).testBit j=false:=by
     cases hm:((D7 ops.toList []).getD i' 0).testBit j with
     | false=>rfl
     | true =>
      exfalso;have iT:=gV j (E7.1 dE).1 hm;have:=(E7.1 dE).2;rw [U3 iT] at this;cases this
    refine ⟨fX,λ x hx=>?_⟩;rcases (hM i' o ho).2.2 j x (kH j hj) hx with hm|hm
    ·rw [fX] at hm; cases hm
    ·exact hm
   obtain ⟨pp,sa,sb,k1,k2,k3,k4,_⟩:=Dn ho gA fg hu (fx.sub (λ y hy=>by rw [Bq]; exact List.mem_append_left _ hy)) aP;rw [er] at gA fx;have gB:=N4.cut gA;rcases mF with oJ|pg
   ·obtain ⟨q1,q2,v,val,rfl,q3,q4⟩:=YM hE cm oJ k1 k2
    have fL:wpAny E.P .any ops Q fuel (listed.setIfInBounds i' true) (a.put o.dst val) w:=by
     refine ih (listed.setIfInBounds i' true) S ι (s.put o.dst v) sb (a.put o.dst val) w (by simp [aW]) (Bx aW bm hlen) (cD.set ho aZ) (getD_set_true de) (by rw [getD_set_ne true fh]; exact fY) (P6 hu k1) ?_ (by rw [e2]; exact k3) (k4.trans da) (cm.put (by rw [hn]; exact q2) q4) ?_ (λ b off hb=>by rw [wu]; exact nD b off hb)
     ·rw [e2,er2]
      exact M9.step hu (λ y hy=>fx y (by simp at hy ⊢; rcases hy with hy|hy<;>simp [hy])) gB.2 k1
     ·rw [<- hv]
      have bE:=mm i' o bc gw ho;cases gR:o.dst with
      | none=>rfl
      | some d =>
       rw [gR] at bE;exact Z1 (λ e=>bE (by rw [e]))
    unfold wpOp;rw [ho];simp only [Region.wanted,q1,if_true];refine .inl ?_;unfold Oper.wp;rw [q3];exact fL
   ·
    obtain ⟨dA,nM,T,ad',x',j0,q0,vt,z,g1,g2,g3,g4,g5,g6⟩:=SD pg;rw [e1] at eZ gr ff;have bQ:List.Sublist (pre++post) (pre++i'::post):=List.Sublist.append (List.Sublist.refl _) (List.sublist_cons_self _ _);obtain ⟨J,f,t1,t2,t3,t4⟩:=En k3 (k4.trans da) (P6 hu k1) (eZ.sublist bQ) (λ j hj=>gr j (bQ.subset hj)) (λ j hj=>ff j (bQ.subset hj));have hpost:∀ j∈post,i'<j:=λ j hj=>(List.pairwise_cons.1 (List.pairwise_append.1 eZ).2.1).1 j hj;obtain ⟨v0,ids,f0,uq,z1,z2,z3,z4,z5⟩:=yR (ops:=ops) hu k1;obtain ⟨sa',y1,_,y2⟩:=z5 s hu ((M2.refl s).xL _ _) z2;rw [k1] at y1; cases y1;have im:∀ y,y∈o.op.operands.toList->s1.ev y=f (f0 (s.ev y)):=by
     intro y hy;refine HM (z1.yt t1) (λ m' hm=>?_);subst hm;have gY:=xr (ops:=ops) hy;rw [<- (k4.trans da).1 m',t4 m' (λ j hj o' eR dV=>?_),y2.fr,if_neg (by rw [nM]; intro h; cases h)]
     ·cases look m' s.fr<;>rfl
     ·rcases List.mem_append.1 hj with hj|hj
      ·exact (RU ((fg j hj).2 o' eR)).1 m' dV gY
      ·exact g6 j (hpost j hj) (gr j (by simp [hj])) o' eR m' dV gY
    have th:s.ev ad'=.ptr j0 q0:=zV (z1.yt t1) ((im ad' (by rw [g1]; simp [Op.operands])).symm.trans g2) (.inl rfl);have ed:s.ev x'=.val vt z:=zV (z1.yt t1) ((im x' (by rw [g1]; simp [Op.operands])).symm.trans g3) (.inr ⟨rfl,by intro h; cases h⟩);obtain ⟨ι',w',r1,r2,r3⟩:=Yw hE hn cm dA g1 th ed k1;have bO:i≠j0:=by
     rintro rfl;rw [hx] at g4;simp only [AV.i8,Nat.beq_refl] at g4;cases g4
    have fP:j0∉g:=λ hm=>by rw [QM cn j0 hm] at g5; cases g5
    obtain ⟨J2,f2',u1,u2,u3,u4⟩:=En (ops:=ops) (q:=q) (n:=n) aP da hu eZ gr ff;have lF:look i s.hp=some e:=by
     rw [<- u3 i (λ hm=>by
      have:=(u2 i hm).1;rw [hx] at this;simp only [AV.i8,Nat.beq_refl] at this;cases this),da.2 i]
     exact he
    obtain ⟨i2,p2,e2',t2',l2,m2,g2',r',qq,bts,b1,b2,b3,b4,b5,b6,b7,b8,b9,AG,AF,AE,wB,AD,AB,yi⟩:=IS hE f6 hp;rw [hx] at b1;obtain ⟨rfl,rfl⟩:i=i2/\p0=p2:=by simpa using b1
    rw [he] at b3; cases b3;obtain ⟨b,off,gU⟩:=BA (cm.hs.ob i e lF) cm.hs.slt yi aM hg;have hP:=r3 bO fP lF aM hg (nD b off gU);have fL:wpAny E.P .any ops Q fuel (listed.setIfInBounds i' true) (a.put o.dst undef) w':=by
     refine ih (listed.setIfInBounds i' true) S ι' sa sb (a.put o.dst undef) w' (by simp [aW]) (Bx aW bm hlen) (cD.set ho aZ) (getD_set_true de) (by rw [getD_set_ne true fh]; exact fY) (P6 hu k1) ?_ (by rw [e2]; exact k3) (k4.trans da) r2 ?_ (λ b9 off9 qW=>?_)
     ·rw [e2,er2]
      exact M9.step hu (λ y hy=>fx y (by simp at hy ⊢; rcases hy with hy|hy<;>simp [hy])) gB.2 k1
     ·rw [<- hv,nM]; rfl
     ·obtain ⟨_,h9,_⟩:=id hP
      rw [h9] at qW; cases qW;exact hP
    unfold wpOp;rw [ho];simp only [Region.wanted,dA,if_true];refine .inl ?_;unfold Oper.wp;rw [r1];exact fL
theorem b73 (hE:C8 E B) (hn:B.n=E.nt) (hd:wi ops=true) {Q:Exit->Act->World->Prop} (fb:N4 ops.toList) (hA:Az E ops q) {o2:Oper} (iA:ops[n]?=some o2) {p:Prop} {s2:St} (eK:zb E ops (D7 ops.toList []) q n o2 s1=some (p,s2)) (hp:p)
  (hQ:∀ S ι a w,RS B S ι s2 a w->Q .normal a w) :
  ∀ (fuel:Nat) (listed:Array Bool) (S:Nat->Prop) (ι:Ix) (s s':St) (a:Act) (w:World),listed.size=ops.size->(idxs ops.size listed).length=fuel->yG ops listed->listed.getD q.k true=false->listed.getD n true=false->uniq s.fr->M9 s (rem ops ((idxs ops.size listed).filter (λ j=>!(j == n) && !(j == q.k)))) ->
   uX E ops (λ i=>(D7 ops.toList []).getD i 0) [] ((idxs ops.size listed).filter (λ j=>!(j == n) && !(j == q.k))) s s'->M2 s' s1->look q.d s.fr=some .any->RS B S ι s a w ->
   wpAny E.P .any ops Q fuel listed a w:=by
 have hM:=Ej hd;obtain ⟨T2,ad,s3,f1,f2,f3,⟨f4,f4'⟩,f5,f6,_⟩:=IZ eK;obtain ⟨fW,nI,ok,iz,fq⟩:=Jy f4;have tQ:=hA;obtain ⟨oa,c,a1,a2,a3,a4,a5,a6,a7,a8⟩:=hA;have e9:oa=ok:=by rw [a1] at iz; cases iz; rfl
 subst e9;intro fuel
 induction fuel with
 | zero =>
  intro listed S ι s s' a w aW hlen cD de fY hu fx aP da dm cm;exfalso;have fK:idxs ops.size listed=[]:=List.length_eq_zero_iff.1 hlen;have:n∈idxs ops.size listed:=E7.2 ⟨by omega,fY⟩;rw [fK] at this; cases this
 | succ fuel ih =>
  intro listed S ι s s' a w aW hlen cD de fY hu fx aP da dm cm;refine ⟨λ hr=>absurd hr (RI hd aW (by intro h; rw [h] at hlen; cases hlen)),λ i' hi=>?_⟩;obtain ⟨h1,o,ho,aZ⟩:=mem_ready.1 hi;have cZ:i'<ops.size:=(Array.getElem?_eq_some_iff.1 ho).1;have bm:i'∈idxs ops.size listed:=E7.2 ⟨cZ,h1⟩;have gV:∀ j,j<ops.size->((D7 ops.toList []).getD i' 0).testBit j=true->listed.getD j false=true:=EC (M:=λ i=>(D7 ops.toList []).getD i 0) (λ i o ho=>⟨(hM i o ho).1,(hM i o ho).2.1⟩) cD i' o ho aZ;by_cases fh:i'=n
  ·exfalso
   subst fh;have:=gV q.k (by omega) (fq q.k nI).1;rw [U3 this] at de; cases de
  have bc:i'<n:=by omega
  by_cases gw:i'=q.k
  ·
   subst gw;rw [a1] at ho; cases ho;have gr:∀ j∈(idxs ops.size listed).filter (λ j=>!(j == n) && !(j == q.k)),j<n:=by
    intro j hj;obtain ⟨j1,j2⟩:=List.mem_filter.1 hj;simp only [Bool.and_eq_true,Bool.not_eq_true',beq_eq_false_iff_ne,ne_eq] at j2;have:=(E7.1 j1).1; omega
   have ir:∀ j∈(idxs ops.size listed).filter (λ j=>!(j == n) && !(j == q.k)),∀ oj,ops[j]?=some oj->(quiet oj=true\/yA ops q n j oj s1=true)/\oj.dst≠some q.d/\∀ d,oj.dst=some d->d∉looks ops oa:=by
    intro j hj oj jL;have jn:=gr j hj;obtain ⟨j1,j2⟩:=List.mem_filter.1 hj;simp only [Bool.and_eq_true,Bool.not_eq_true',beq_eq_false_iff_ne,ne_eq] at j2;have lA:¬ ((D7 ops.toList []).getD q.k 0).testBit j=true:=by
     intro g3;have:=gV j (by omega) g3;have h9:=(E7.1 j1).2;rw [U3 this] at h9; cases h9
    obtain ⟨o',g1,g2,g3⟩:=(fq j jn).2 j2.2;rw [jL] at g1; cases g1;refine ⟨?_,g2 q.d a3,?_⟩
    ·rcases Ql f4' jn j2.2 jL with h9|h9|h9
     ·exact absurd h9 lA
     ·exact .inl h9
     ·exact .inr h9
    ·rcases g3 with g3|g3
     ·exact absurd g3 lA
     ·exact g3.2
   have eZ:((idxs ops.size listed).filter (λ j=>!(j == n) && !(j == q.k))).Pairwise (·<·):=(Ch ops.size listed).sublist List.filter_sublist;obtain ⟨J,f,t1,t2,t3,t4⟩:=En (ops:=ops) (q:=q) (n:=n) aP da hu eZ gr (λ j hj oj jL=>(ir j hj oj jL).1);obtain ⟨i,p0,e,t0,l,m,g,r,qq,bts,b1,b2,b3,b4,b5,b6,b7,b8,b9,AG,AF,AE,wB,AD,AB,yi⟩:=IS hE f6 hp;have fO:∀ j,j∉J->look j s.hp=look j s1.hp:=λ j hj=>by rw [<- t3 j hj]; exact da.2 j
   have cB:∀ x,x∈oa.op.operands.toList->s1.ev x=f (s.ev x):=by
    intro x hx;refine HM t1 (λ t ht=>?_);subst ht;rw [<- da.1 t,t4 t (λ j hj oj jL dV=>(ir j hj oj jL).2.2 t dV (xr hx))]
   have eT:q.x∈oa.op.operands.toList:=by rw [a5]; exact xm (by rw [a7]; simp)
   have gG:q.y∈oa.op.operands.toList:=by rw [a5]; exact xm (by rw [a7]; simp)
   have qt:s.ev q.x=.at_ i p0:=zV t1 ((cB _ eT).symm.trans b1) (.inl rfl);have rk:s.ev q.y=s1.ev q.y:=zV t1 (cB _ gG).symm (c1W wB);have lF:look i s.hp=some e:=(fO i (λ hm=>by
    have:=(t2 i hm).1;rw [b1] at this;simp only [AV.i8,Nat.beq_refl] at this;cases this)).trans b3
   have mU:(s.ev q.y).uR s t0=some (⟨t0,m⟩,g):=by
    rw [rk,Ia (s:=s1) (t:=s) (λ j hj=>fO j (λ hm=>by rw [(t2 j hm).2] at hj; cases hj))];exact wB
   have aM:w9 e.ty e.x p0:=by
    obtain ⟨e2,u,y2,cs,r1,aM,_⟩:=C2 cm qt;rw [lF] at r1; cases r1;exact aM
   obtain ⟨b,off,hl⟩:=BA (cm.hs.ob i e lF) cm.hs.slt yi aM b7;obtain ⟨v',w',c1,c2,c3,c4⟩:=Ss hE cm a5 a6 a7 a8 AE AF qt lF yi b7 hl mU b4 b5 AD AB;have ep:Loc w'.heap ι i e p0=some (b,off):=by obtain ⟨_,h9,_⟩:=c4; exact h9
   have iu:RS B S ι s (a.put (some q.d) v') w':=by
    have h9:=c2.put (d:=some q.d) (by rw [hn]; exact a4) (v:=.any) (val:=v') ⟨v',rfl⟩;refine Dq (s:=s.put (some q.d) .any) (t:=s) ⟨λ t=>?_,λ _=>rfl⟩ h9;rw [W4]
    split
    ·rename_i e9; cases e9; exact dm.symm
    ·rfl
   have dz:(a.put (some q.d) v').eval (.tmp q.d)=v':=JB (by rw [cm.sz,hn]; simpa [G3,Nat.blt_eq] using a4);have aK:(idxs ops.size (listed.setIfInBounds q.k true)).filter (λ j=>!(j == n))=(idxs ops.size listed).filter (λ j=>!(j == n) && !(j == q.k)):=Ze aW cZ (λ j=>rfl);have fL:wpAny E.P .any ops Q fuel (listed.setIfInBounds q.k true) (a.put (some q.d) v') w':=by
    refine c0X hE hn hd fb tQ iA eK hp hQ (i:=i) (e:=e) (p0:=p0) (t0:=t0) (l:=l) (m:=m) (g:=g) b1 b3 aM b7 wB (v':=v') fuel (listed.setIfInBounds q.k true) S ι s s' _ w' (by simp [aW]) (Bx aW bm hlen) (cD.set a1 aZ) (a9C (by omega)) (by rw [getD_set_ne true (by omega)]; exact fY) hu (by rw [aK]; exact fx) (by rw [aK]; exact aP) da iu dz ?_;intro b' ar cQ;rw [ep] at cQ; cases cQ;exact c4
   unfold wpOp;rw [a1];simp only [Region.wanted,a2,if_true];refine .inl ?_;unfold Oper.wp;rw [c1];show wpAny E.P .any ops Q fuel (listed.setIfInBounds q.k true) (a.put oa.dst v') w';rw [a3];exact fL
  ·
   obtain ⟨pre,post,e1,kH,e2⟩:=SW (f:=λ j=>!(j == n) && !(j == q.k)) aW bm (by simp [fh,gw]);rw [e1] at fx aP;have er:rem ops (pre++i'::post)=rem ops pre++o::rem ops post:=by simp [rem,List.filterMap_append,ho]
   have er2:rem ops (pre++post)=rem ops pre++rem ops post:=by simp [rem,List.filterMap_append]
   have gA:N4 (rem ops (pre++i'::post)):=by
    rw [<- e1];refine N4.sub ?_;have:rem ops (idxs ops.size listed)=rem ops ((List.range ops.size).filter (λ i=>!listed.getD i true)):=rfl;rw [this];refine N4.sub ?_;have h9:=DH (ops:=ops);rw [xW] at h9;rw [h9]; exact fb
   have fg:∀ j∈pre,((D7 ops.toList []).getD i' 0).testBit j=false/\∀ x,ops[j]?=some x->indep ops x o=true:=by
    intro j hj;have dE:j∈idxs ops.size listed:=by
     have:j∈(idxs ops.size listed).filter (λ j=>!(j == n) && !(j == q.k)):=by rw [e1]; simp [hj]
     exact (List.mem_filter.1 this).1
    have fX:((D7 ops.toList []).getD i' 0).testBit j=false:=by
     cases hm:((D7 ops.toList []).getD i' 0).testBit j with
     | false=>rfl
     | true =>
      exfalso;have iT:=gV j (E7.1 dE).1 hm;have:=(E7.1 dE).2;rw [U3 iT] at this;cases this
    refine ⟨fX,λ x hx=>?_⟩;rcases (hM i' o ho).2.2 j x (kH j hj) hx with hm|hm
    ·rw [fX] at hm; cases hm
    ·exact hm
   obtain ⟨pp,sa,sb,k1,k2,k3,k4,_⟩:=Dn ho gA fg hu (fx.sub (λ y hy=>by rw [Bq]; exact List.mem_append_left _ hy)) aP;have aJ:o.dst≠some q.d:=by
    obtain ⟨o',g1,g2,_⟩:=(fq i' bc).2 gw;rw [ho] at g1; cases g1;exact g2 q.d a3
   have mV:look q.d sa.fr=some .any:=by
    obtain ⟨v,ids,f,hf,z1,z2,z3,z4,z5⟩:=yR (ops:=ops) hu k1;obtain ⟨sa',y1,_,y2⟩:=z5 s hu ((M2.refl s).xL _ _) z2;rw [k1] at y1; cases y1;rw [y2.fr,if_neg aJ,dm];simp [z1.plain _ (rfl:AV.plain .any=true)]
   rw [er] at gA fx;have gB:=N4.cut gA;have ez:=Lb hE hn cm (ops:=ops) o (k:=λ x=>Tree.cut .skip [] x) (L:=λ _ _ x=>x=sa) (Rt:=λ _=>True) (BM.2 ⟨pp,sa,k1,k2,rfl⟩)
    (next:=wpAny E.P .any ops Q fuel (listed.setIfInBounds i' true)) (Q:=Q) (λ S' ι' x a' w' hx kk=>by
     have kk:x=sa:=kk;subst kk;refine ih (listed.setIfInBounds i' true) S' ι' x sb a' w' (by simp [aW]) (Bx aW bm hlen) (cD.set ho aZ) (by rw [getD_set_ne true gw]; exact de) (by rw [getD_set_ne true fh]; exact fY) (P6 hu k1) ?_ (by rw [e2]; exact k3) (k4.trans da) mV hx;rw [e2,er2];exact M9.step hu (λ y hy=>fx y (by simp at hy ⊢; rcases hy with hy|hy<;>simp [hy])) gB.2 k1)
   unfold wpOp;rw [ho];simp only
   split
   ·rename_i hw; rw [if_pos hw] at ez; exact .inl ez
   ·rename_i hw; rw [if_neg hw] at ez; exact ez
theorem c0W (hE:C8 E B) (hn:B.n=E.nt) {id:Nat} (hd:(wi ops && Bn ops s && E.P.follows .mixedOrders)=true) {Q:Exit->Act->World->Prop} (hA:Az E ops q) {s':St}
  (hr:uX E ops (λ i=>(D7 ops.toList []).getD i 0) [] ((List.range' 0 (ops.toList.length - 1)).filter (λ j=>!(j == q.k))) s s') {k:St->Tree (E.rs++E4 E.ps)} {L:Code->List Item->St->Prop} {R:DL (E.rs++E4 E.ps)->Prop}
  (hf:Hm E ops (D7 ops.toList []) q s' k L R) (dm:look q.d s.fr=some .any)
  (hQ:∀ S ι s2 a w,RS B S ι s2 a w->(k s2).holds L R->Q .normal a w) (h:RS B S ι s a w):(Code.region id ops true).wp E.P Q a w:=by
 simp only [Bool.and_eq_true,Bn,List.all_eq_true] at hd;obtain ⟨⟨h1,⟨h2,h3⟩,h4⟩,h5⟩:=hd;refine wp_region_any h5 ?_;obtain ⟨o2,p,s2,g1,g2,g3,g4⟩:=hf;obtain ⟨T2,ad,s3,f1,f2,f3,⟨f4,_⟩,f5,f6,_⟩:=IZ g2;obtain ⟨fW,nI,_⟩:=Jy f4;have hlen:(idxs ops.size (Array.replicate ops.size false)).length=ops.size:=by
  rw [xW]; simp
 have aK:(idxs ops.size (Array.replicate ops.size false)).filter (λ j=>!(j == ops.size - 1) && !(j == q.k))=(List.range' 0 (ops.toList.length - 1)).filter (λ j=>!(j == q.k)):=by
  rw [xW,show List.range ops.size=List.range (ops.size - 1)++[ops.size - 1] from by rw [<- List.range_succ]; congr 1; omega,List.filter_append,List.filter_cons];simp only [beq_self_eq_true,Bool.not_true,Bool.false_and,Bool.false_eq_true,if_false,List.filter_nil,List.append_nil,Array.length_toList];rw [List.range_eq_range'];refine List.filter_congr (λ j hj=>?_);have:j≠ops.size - 1:=by have:=(List.mem_range'_1.1 hj).2; omega
  simp [this]
 refine b73 (n:=ops.size - 1) hE hn h1 (Bt h3) hA g1 g2 g3 (λ S ι a w hh=>hQ S ι _ a w hh g4) ops.size _ S ι s s' a w.drew (by simp) hlen ?_ ?_ ?_ (s6 h2) ?_ (by rw [aK]; exact hr) (M2.refl _) dm (h.uO F2.nil D3.drew)
 ·intro k o hk hl
  have:k<ops.size:=(Array.getElem?_eq_some_iff.1 hk).1;simp [this] at hl
 ·have:q.k<ops.size:=by omega
  simp [this]
 ·have:ops.size - 1<ops.size:=by omega
  simp [this]
 ·intro o ho d hd
  obtain ⟨j,hj,sB⟩:=List.mem_filterMap.1 ho;obtain ⟨pv,iU⟩:=List.mem_filter.1 hj;have:=(E7.1 pv).1;simp only [Bool.and_eq_true,Bool.not_eq_true',beq_eq_false_iff_ne,ne_eq] at iU;refine h4 d (List.mem_filterMap.2 ⟨o,List.mem_of_getElem? (i:=j) ?_,hd⟩);rw [List.getElem?_dropLast,if_pos (by simp; omega)];simpa using sB
end
end
end Go.Ex
namespace Go.Ex
section
variable {E:Env} {ops:Array Oper} {s t:St}
theorem Rh {o:Oper} {T:TypeId} {a x:Operand} (ho:o.op=.store T a x) (v:AV):J4 o v=v:=by
 rcases xS o with e|⟨_,x,j,cv,_⟩
 ·exact e v
 ·rw [ho] at cv; cases cv
end
section
variable {E:Env} {ops:Array Oper} {s t:St}
end
section
variable {E:Env} {ops:Array Oper} {M:Nat->Nat} {s t:St}
def Ux (ops:Array Oper) (x:Oper) (sx:St) (Tx:List Nat) (y:Oper) (Ty:List Nat):Prop:=wG ops x sx Tx y Ty/\(Tx≠[]->∀ m∈looks ops y,m∉Lt ops)
def FQ (E:Env) (ops:Array Oper) (x:Oper) (sx:St) (y:Oper) (sy:St):Prop:=Ux ops x sx (l4 E x sx) y (l4 E y sy)\/(zO x sx=true/\He y sy=true)\/∃ j kd q,Fw y sy=some (j,kd,q)/\AO x sx j kd q=true
theorem b7O {x:Oper} {sx sx':St} (h:zO x sx=true) (h1:∀ m∈looks ops x,J4 x (sx'.get m)=J4 x (sx.get m)):zO x sx'=true:=by
 have h0:=h;unfold zO at h;split at h
 ·rename_i T a v hg ho
  have da:∀ o,o=a\/o=v->sx'.ev o=sx.ev o:=by
   intro o oR;cases o with
   | tmp m =>
    have:=h1 m (xr (by rw [ho]; simp [Op.operands]; rcases oR with e|e<;>simp [<- e]));rw [Rh ho,Rh ho] at this;exact yK this
   | _=>rfl
  unfold zO at h0 ⊢;rw [hg,ho] at h0 ⊢;simp only [da a (.inl rfl),da v (.inr rfl)];exact h0
 ·cases h
theorem Zh {x:Oper} {sx sx':St} {j:Nat} {kd:Bool×Ty} {q:List Step} (h:AO x sx j kd q=true) (h1:∀ m∈looks ops x,J4 x (sx'.get m)=J4 x (sx.get m)) (h2:∀ m∈looks ops x,∀ i,(J4 x (sx.get m)).i8 i=true->hpk sx' i=hpk sx i):AO x sx' j kd q=true:=by
 have dU:∀ v,J4 x v=v:=by
  intro v;rcases xS x with e|⟨_,y,k,cv,_⟩
  ·exact e v
  ·unfold AO at h; rw [cv] at h; split at h<;>first|(rename_i e9; cases e9; done)|(cases h; done)
 have da:∀ o∈x.op.operands.toList,sx'.ev o=sx.ev o:=by
  intro o oR;cases o with
  | tmp m =>
   have:=h1 m (xr oR);rw [dU,dU] at this;exact yK this
  | _=>rfl
 unfold AO at h ⊢;split at h
 ·rename_i a hg ho
  simp only [da a (by rw [ho]; simp [Op.operands])];exact h
 ·rename_i T a n hg ho
  simp only [da a (by rw [ho]; simp [Op.operands])];exact h
 ·rename_i T a hg ho
  simp only [da a (by rw [ho]; simp [Op.operands])];split at h
  ·rename_i i p ha
   have:hpk sx' i=hpk sx i:=by
    cases a with
    | tmp m =>
     have hm:m∈looks ops x:=xr (by rw [ho]; simp [Op.operands]);have sM:sx.get m=.ptr i p:=BJ ha nofun
     exact h2 m hm i (by rw [dU,sM]; simp only [AV.i8]; exact Nat.beq_refl i)
    | const c=>exact absurd ha (by intro e9; have:=Lh c i; rw [show ofConst c=.ptr i p from e9] at this; simp only [AV.i8] at this; rw [Nat.beq_refl] at this; cases this)
    | global g=>cases ha
    | func f=>cases ha
   rw [this];exact h
  ·cases h
 ·cases h
theorem FQ.zd {x:Oper} {sx sx':St} {y:Oper} {sy sy':St} (h:FQ E ops x sx y sy) (h1:∀ m∈looks ops x,J4 x (sx'.get m)=J4 x (sx.get m)) (h2:l4 E x sx'=l4 E x sx) (h3:∀ (z:Oper) m,∀ k∈l4 E x sx,(J4 z (sx'.get m)).i8 k=true->(J4 z (sx.get m)).i8 k=true\/m∈Lt ops)
  (h4:∀ m∈looks ops x,∀ i,(J4 x (sx.get m)).i8 i=true->hpk sx' i=hpk sx i) (hT:l4 E y sy'=l4 E y sy) (hA:He y sy=true->He y sy'=true) (hS:∀ r,Fw y sy=some r->Fw y sy'=some r):FQ E ops x sx' y sy':=by
 rcases h with ⟨⟨P1,P2,P3⟩,hn⟩|⟨k1,k2⟩|⟨j,kd,q,k1,k2⟩
 ·refine .inl ?_
  rw [hT,h2];refine ⟨⟨λ m hm i hi=>?_,λ m hm i hi=>by rw [h1 m hm]; exact P2 m hm i hi,P3⟩,hn⟩;cases hh:(J4 y (sx'.get m)).i8 i with
  | false=>rfl
  | true =>
   rcases h3 y m i hi hh with h9|h9
   ·rw [P1 m hm i hi] at h9; cases h9
   ·exact absurd h9 (hn (λ e=>by rw [e] at hi; cases hi) m hm)
 ·exact .inr (.inl ⟨b7O k1 h1,hA k2⟩)
 ·exact .inr (.inr ⟨j,kd,q,hS _ k1,Zh k2 h1 h4⟩)
end
section
variable {E:Env} {ops:Array Oper} {B:E1} {S:Nat->Prop} {ι:Ix} {s:St} {a:Act} {w:World}
end
end Go.Ex
