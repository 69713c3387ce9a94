import Derived.Test.YtijlnmgondibnaaGreatDoorExK5
set_option linter.unusedVariables false
set_option linter.unusedSimpArgs false
set_option linter.unusedSectionVars false
namespace Go.Ex
section
variable {E:Env} {B:E3} {S:Nat->Prop} {ι:Ix} {s:St} {a:Act} {w:World}
def BH (P:Program) (S:Nat->Prop) (ι:Ix) (o:Oper) (a:Act) (w:World) (s:St) (v:AV):Prop :=
 ∃ val,(∀ w',(execOp a.eval o).run P w'=.ok (.value val) w')/\VX w.heap S ι s.hp v [val]
def Ab (P:Program) (S:Nat->Prop) (ι:Ix) (o:Oper) (a:Act) (w:World) (s:St):OR->Prop
 | .fail _=>True
 | .ok v s'=>s'=s/\BH P S ι o a w s v
 | .F5 p v s'=>p->s'=s/\BH P S ι o a w s v
theorem yv {P:Program} {o:Oper} {sem:Sem Value} (he:execOp a.eval o=(do pure (.value (<- sem)))) {v:AV} {val:Value} (hr:∀ w',sem.run P w'=.ok val w')
  (hv:VX w.heap S ι s.hp v [val]):s=s/\BH P S ι o a w s v:=⟨rfl,val,λ w'=>by rw [he]; simp [hr w',Result.andThen],hv⟩
theorem b2l (hE:D0 E B) (h:RS B S ι s a w) {o:Oper} {T:TypeId} {x:Operand} {n:Nat} (ho:o.op=.fieldAddr T x n):Ab E.P S ι o a w s (m0 E o s):=by
 have he:execOp a.eval o=(do pure (.value (<- Instr.fieldAt T (a.eval x) n))):=by simp [execOp,ho]
 unfold m0;rw [ho];simp only
 split
 ·rename_i i p hx
  split
  ·rename_i u z cO
   split
   ·rename_i r hc gz
    obtain ⟨e,b,off,h1,h2,h3,h4⟩:=C4 h hx;have hg:=H8 h1 cO;have h4:a.eval x=.pointer (some ⟨b,off,none⟩):=by simpa using h4
    obtain ⟨u2,z2⟩:=r;exact yv he (λ _=>by rw [h4]; exact AH (D4 hE hc) gz b off) ⟨e,b,off+R9 u n,h1,X0 hg h2 (yn gz),Cw hg h3 (λ G=>yA gz),rfl⟩
   ·trivial
  ·trivial
 ·rename_i t y hx
  split
  ·rename_i u z hc hg
   obtain ⟨b,off,e,h1,h2,h3⟩:=C4 h hx;have e:a.eval x=.pointer (some ⟨b,off,none⟩):=by simpa using e
   have aM:=yn hg;obtain ⟨O1,O2,b',aq,e1,e2,e3,e4,e5,e6⟩:=focus h3 h2 aM hg
   have hO:O1=[]/\O2=[]:=by have:=e1.nil_eq; simpa using this.symm
   rw [yA hg] at e3; cases e3;refine yv he (λ _=>by rw [e]; exact AH (D4 hE hc) hg b off) ⟨b,off+R9 t n,rfl,h1,e5,?_⟩;rw [hO.2] at e4; exact e4
  ·trivial
 ·rename_i t y hx
  split
  ·rename_i u z hc hg
   intro hy;obtain ⟨b,off,e,h1,h2,h3⟩:=Ef (C4 h hx) hy;have e:a.eval x=.pointer (some ⟨b,off,none⟩):=by simpa using e
   have aM:=yn hg;obtain ⟨O1,O2,b',aq,e1,e2,e3,e4,e5,e6⟩:=focus h3 h2 aM hg
   have hO:O1=[]/\O2=[]:=by have:=e1.nil_eq; simpa using this.symm
   rw [yA hg] at e3; cases e3;refine yv he (λ _=>by rw [e]; exact AH (D4 hE hc) hg b off) ⟨b,off+R9 t n,rfl,h1,e5,?_⟩;rw [hO.2] at e4; exact e4
  ·trivial
 ·trivial
theorem b2h (hE:D0 E B) (h:RS B S ι s a w) {o:Oper} {T:TypeId} {x y:Operand} (ho:o.op=.indexAddr T x y):Ab E.P S ι o a w s (m0 E o s):=by
 have he:execOp a.eval o=(do pure (.value (<- Instr.indexAt T (a.eval x) (a.eval y)))):=by simp [execOp,ho]
 unfold m0;rw [ho];simp only
 split
 ·rename_i d p k n hx hy
  split
  ·rename_i m u z cO
   split
   ·rename_i hc
    intro hn;obtain ⟨e,b,off,h1,h2,h3,h4⟩:=C4 h hx;have hg:=H8 h1 cO;have h4:a.eval x=.pointer (some ⟨b,off,none⟩):=by simpa using h4
    obtain ⟨dG,_⟩:=VX.H9 (C4 h hy);exact yv he (λ _=>by rw [h4,dG]; exact FC (D4 hE hc) b off hn) ⟨e,b,off+n.toNat*u.size,h1,X0 hg h2 ⟨hn,N4⟩,Cw hg h3 (λ G=>by simp only [y7,y8]),rfl⟩
   ·trivial
  ·trivial
 ·rename_i m t z k n hx hy
  split
  ·rename_i hc
   intro hn;obtain ⟨b,off,e,h1,h2,h3⟩:=C4 h hx;have e:a.eval x=.pointer (some ⟨b,off,none⟩):=by simpa using e
   obtain ⟨dG,_⟩:=VX.H9 (C4 h hy);have aM:x7 (.arr m t) z [.idx n]:=⟨hn,by cases t<;>trivial⟩;have hg:l4 (.arr m t) z [.idx n]=some ⟨t,List.getD z (Int.toNat n) t.s6⟩:=by simp only [l4]
   obtain ⟨O1,O2,b',aq,e1,e2,e3,e4,e5,e6⟩:=focus h3 h2 aM hg
   have hO:O1=[]/\O2=[]:=by have:=e1.nil_eq; simpa using this.symm
   have e3':y7 w.heap (.arr m t) [.idx n] b off=some (b,off+Int.toNat n*t.size):=by simp only [y7]
   rw [e3'] at e3; cases e3;refine yv he (λ _=>by rw [e,dG]; exact FC (D4 hE hc) b off hn) ⟨b,off+Int.toNat n*t.size,rfl,h1,e5,?_⟩;rw [hO.2] at e4; exact e4
  ·trivial
 ·rename_i t z k n hx hy
  split
  ·rename_i hc
   intro hn;obtain ⟨cs,e,hR⟩:=C4 h hx;have e:a.eval x=n8 (.d0 false t) cs:=by simpa using e
   obtain ⟨dG,_⟩:=VX.H9 (C4 h hy);rcases hR with ⟨_,_,hz⟩|⟨b1,o1,cap,O',c1,c2,c3,c4,c5,c6,c7,c8⟩
   ·subst hz; exact (DV hn).elim
   ·have fg:a.eval x=.slice (some ⟨b1,o1,none⟩) (List.length z) cap:=by rw [e,c1]; rfl
    obtain ⟨b1',b2,b3,b4⟩:=E0 (sz:=t.size) hn;obtain ⟨P1,P2,P3,e1,g1,g2,g3⟩:=j6.split (d:=t.s6) (i:=Int.toNat n) b1' c5;have hle:t.size<=List.length z*t.size - Int.toNat n*t.size:=by omega
    rw [o7,n7 _ _ _ _ hle] at g2;have hP:P2=[]:=by rw [c7] at e1; have:=List.append_eq_nil_iff.1 e1.symm; exact (List.append_eq_nil_iff.1 this.2).1
    refine yv he (λ _=>by rw [fg,dG]; exact S7 (D4 hE hc) b1 o1 _ cap hn) ⟨b1,o1+Int.toNat n*t.size,rfl,c8,by omega,?_⟩;rw [hP] at g2; exact g2
  ·trivial
 ·rename_i d p k n hx hy
  split
  ·rename_i u z cO
   split
   ·rename_i hc
    intro hn;obtain ⟨e,u',y',cs,h1,h2,h3,h4,h5⟩:=C4 h hx;have hg:=H8 h1 cO;rw [h3] at hg; cases hg;obtain ⟨dG,_⟩:=VX.H9 (C4 h hy);have h5:a.eval x=n8 (.d0 true u) cs:=by simpa using h5
    obtain ⟨O2,m1,m2,m3⟩:=G4 h.hs h1 h2 h3 h4;rcases m3 with ⟨_,_,hz⟩|⟨b1,o1,cap,O',rfl,c2,c3,c4,c5,c6,c7⟩
    ·subst hz; exact (DV hn).elim
    ·have fg:a.eval x=.slice (some ⟨b1,o1,none⟩) (List.length z) cap:=h5
     obtain ⟨b0,off0,q1,q2⟩:=h4;have hh:=(P9 b0 off0 _).1 q2.symm;refine yv he (λ _=>by rw [fg,dG]; exact S7 (D4 hE hc) b1 o1 _ cap hn) ⟨e,b1,o1+n.toNat*u.size,h1,X0 h3 h2 ⟨hn,N4⟩,wh (AG h3 q1 ?_) c7.free.lt,rfl⟩;simp only [y7,hh,y8]
   ·trivial
  ·trivial
 ·rename_i d p lo hi k n hx hy
  split
  ·rename_i u l dX
   split
   ·rename_i hc
    intro hn;have fh:@LE.le Int Int.instLEInt 0 n:=hn.1;have lM:@LT.lt Int Int.instLTInt n (hi - lo):=hn.2;obtain ⟨A,c,k1,k2,k3,k4,k5,e,k6,k7,k8⟩:=Ed h.hs (C4 h hx) dX;obtain ⟨dG,_⟩:=VX.H9 (C4 h hy);have hz:l≠[]:=by rintro rfl; have k3:((0:Nat):Int)=hi - lo:=k3; omega
    obtain ⟨b,off,rfl,k9⟩:=k8 hz;obtain ⟨off2,q1,rfl,q3⟩:=k9 n hn.1 (by omega);exact yv he (λ _=>by rw [k1,dG]; exact S7 (D4 hE hc) b off _ c (by omega)) ⟨e,b,_,k6,q3,q1,rfl⟩
   ·trivial
  ·trivial
 ·trivial
theorem b4s (_hE:D0 E B) (h:RS B S ι s a w) {o:Oper} {x:Operand} (ho:o.op=.nilCheck x):Ab E.P S ι o a w s (m0 E o s):=by
 unfold m0; rw [ho];simp only
 split
 ·rename_i i p hx
  obtain ⟨e,b,off,h1,h2,h3,h4⟩:=C4 h hx;have h4:a.eval x=.pointer (some ⟨b,off,none⟩):=by simpa using h4
  exact ⟨rfl,.pointer (some ⟨b,off,none⟩),λ w'=>by simp only [execOp,ho,h4]; rfl,e,b,off,h1,h2,h3,rfl⟩
 ·rename_i t y hx
  obtain ⟨b,off,e,h1,h2,h3⟩:=C4 h hx;have e:a.eval x=.pointer (some ⟨b,off,none⟩):=by simpa using e
  exact ⟨rfl,.pointer (some ⟨b,off,none⟩),λ w'=>by simp only [execOp,ho,e]; rfl,b,off,rfl,h1,h2,h3⟩
 ·rename_i t y hx
  intro hy;obtain ⟨b,off,e,h1,h2,h3⟩:=Ef (C4 h hx) hy;have e:a.eval x=.pointer (some ⟨b,off,none⟩):=by simpa using e
  exact ⟨rfl,.pointer (some ⟨b,off,none⟩),λ w'=>by simp only [execOp,ho,e]; rfl,b,off,rfl,h1,h2,h3⟩
 ·rename_i f t y hx
  intro hy;have hv:=C4 h hx;obtain ⟨p,e,-⟩:=Jt hv hy;exact ⟨rfl,a.eval x,λ w'=>by simp only [execOp,ho,e]; rfl,hv⟩
 ·rename_i f l hx
  obtain ⟨us,e,h1⟩:=C4 h hx;have e:a.eval x=.func (.func f) #[] us.toArray:=by simpa using e
  exact ⟨rfl,.func (.func f) #[] us.toArray,λ w'=>by simp only [execOp,ho,e]; rfl,us,rfl,h1⟩
 ·rename_i g b hx
  intro hb;have hv:=Ie h hx;have hb:b=true:=hb;subst hb;exact ⟨rfl,.func (.func g) #[] #[],λ w'=>by simp only [execOp,ho,hv]; rfl,[fnV g true],rfl,rfl,rfl⟩
 ·trivial
theorem Cm (hE:D0 E B) (h:RS B S ι s a w) {o:Oper} (ho:Ak o.op=true):Ab E.P S ι o a w s (m0 E o s):=by
 unfold Ak at ho;split at ho
 ·rename_i e; exact b2l hE h e
 ·rename_i e; exact b2h hE h e
 ·rename_i e; exact b4s hE h e
 ·cases ho
end
section
variable {S:Nat->Prop} {H H':Array Go.Obj}
theorem sib {t:Ty} {O:List Nat} {b off:Nat} {x:t.den} (hR:i6 H S t O (d9 H b off t.size) x) (hb:off+t.size<=(u5 H b).length) (hc:d9 H' b off t.size=d9 H b off t.size) (hO:∀ c∈O,H'[c]?=H[c]?)
  {q:List Step} (ho:x7 t x q) {u:Ty} {y:u.den} (hg:l4 t x q=some ⟨u,y⟩) {b' aq:Nat} (hn:y7 H t q b off=some (b',aq)):y7 H' t q b off=some (b',aq)/\d9 H' b' aq u.size=d9 H b' aq u.size :=
 ⟨(zi hR hb ho hc hO).trans hn,yX hR hb ho hc hO hg hn⟩
theorem Xg:∀ {t:Ty} {p:List Step} {b off:Nat} {O1:List Nat} {x:t.den},w4 H S t p b off O1 x->off+t.size<=(u5 H b).length->d9 H' b off t.size=d9 H b off t.size->(∀ c∈O1,H'[c]?=H[c]?) ->
  ∀ {u0:Ty} {y0:u0.den},l4 t x p=some ⟨u0,y0⟩->∀ {b0 off0:Nat},y7 H t p b off=some (b0,off0) ->
  (∀ {q:List Step},x7 u0 y0 q->∀ {u:Ty} {y:u.den},l4 u0 y0 q=some ⟨u,y⟩->∀ {b' aq:Nat},y7 H u0 q b0 off0=some (b',aq)->y7 H' u0 q b0 off0=some (b',aq)/\d9 H' b' aq u.size=d9 H b' aq u.size) ->
  ∀ {q:List Step},x7 t x q->∀ {u:Ty} {y:u.den},l4 t x q=some ⟨u,y⟩->∀ {b' aq:Nat},y7 H t q b off=some (b',aq)->y7 H' t q b off=some (b',aq)/\d9 H' b' aq u.size=d9 H b' aq u.size:=by
 intro t;have here:∀ {t:Ty} {x:t.den} {b off:Nat},d9 H' b off t.size=d9 H b off t.size->∀ {u:Ty} {y:u.den},l4 t x []=some ⟨u,y⟩->∀ {b' aq:Nat},y7 H t [] b off=some (b',aq)->y7 H' t [] b off=some (b',aq)/\d9 H' b' aq u.size=d9 H b' aq u.size:=by
  intro t x b off hc u y hg b' aq hn;rw [C2] at hg; cases hg;rw [y8] at hn; cases hn;exact ⟨y8 ..,hc⟩
 induction t with
 | pair a c iha ihc =>
  intro p b off O1 x hR hb hc hO u0 y0 dE b0 off0 cX hP q ho u y hg b' aq hn
  match p,hR,dE,cX with
  | [],_,dE,cX =>
   rw [C2] at dE; cases dE;rw [y8] at cX; cases cX;exact hP ho hg hn
  | .l8 0::p,⟨P1,P2,e,h1,h2⟩,dE,cX =>
   subst e;simp only [Ty.size] at hb hc
   match q,ho,hg,hn with
   | [],_,hg,hn=>exact here hc hg hn
   | .l8 0::q,ho,hg,hn=>exact iha h1 (by omega) (Z7 hc (by omega) (by omega)) (λ c hc=>hO c (by simp [hc])) dE cX hP ho hg hn
   | .l8 (m+1)::q,ho,hg,hn=>exact sib h2 (by omega) (Z7 hc (by omega) (by omega)) (λ c hc=>hO c (by simp [hc])) (q:=.l8 m::q) ho hg hn
   | .idx i::q,ho,_,_=>simp [x7] at ho
  | .l8 (n+1)::p,⟨P1,P2,e,h1,h2⟩,dE,cX =>
   subst e;simp only [Ty.size] at hb hc
   match q,ho,hg,hn with
   | [],_,hg,hn=>exact here hc hg hn
   | .l8 0::q,ho,hg,hn=>exact sib h1 (by omega) (Z7 hc (by omega) (by omega)) (λ c hc=>hO c (by simp [hc])) (q:=q) ho hg hn
   | .l8 (m+1)::q,ho,hg,hn=>exact ihc h2 (by omega) (Z7 hc (by omega) (by omega)) (λ c hc=>hO c (by simp [hc])) dE cX hP (q:=.l8 m::q) ho hg hn
   | .idx i::q,ho,_,_=>simp [x7] at ho
  | .idx i::p,hR,_,_=>simp [w4] at hR
 | arr n t ih =>
  intro p b off O1 x hR hb hc hO u0 y0 dE b0 off0 cX hP q ho u y hg b' aq hn
  match p,hR,dE,cX with
  | [],_,dE,cX =>
   rw [C2] at dE; cases dE;rw [y8] at cX; cases cX;exact hP ho hg hn
  | .l8 i::p,hR,_,_=>simp [w4] at hR
  | .idx i::p,⟨hl,hi,P1,P2,P3,e,h1,h2,h3⟩,dE,cX =>
   subst e;obtain ⟨b1,b2,b3,b4⟩:=E0 (sz:=t.size) hi;simp only [Ty.size] at hb hc
   match q,ho,hg,hn with
   | [],_,hg,hn=>exact here hc hg hn
   | .l8 j::q,ho,_,_=>simp [x7] at ho
   | .idx j::q,⟨hj,ho⟩,hg,hn =>
    obtain ⟨d1,d2,d3,d4⟩:=E0 (sz:=t.size) hj;simp only [y7] at hn ⊢;simp only [l4] at hg;have gO:d9 H' b (off+j.toNat*t.size) t.size=d9 H b (off+j.toNat*t.size) t.size:=Z7 hc (by omega) (by omega);by_cases bN:i.toNat=j.toNat
    ·rw [<- bN] at ho hg hn gO ⊢
     exact ih h2 (by omega) gO (λ c hc=>hO c (by simp [hc])) dE cX hP ho hg hn
    ·rcases Nat.lt_or_gt_of_ne bN with bc|fm
     ·have hd:j.toNat - (i.toNat+1)<(List.drop (i.toNat+1) x).length:=by simp only [List.length_drop]; omega
      obtain ⟨Q1,Q2,Q3,e,k1,k2,k3⟩:=j6.split (d:=t.s6) hd h3;have e1:(i.toNat+1)*t.size+(j.toNat - (i.toNat+1))*t.size=j.toNat*t.size:=by rw [<- Nat.add_mul]; congr 1; omega
      have hm:(j.toNat - (i.toNat+1))*t.size+t.size<=(n - (i.toNat+1))*t.size:=by omega
      rw [o7,n7 _ _ _ _ (by omega),Nat.add_assoc,e1] at k2;have e2:(List.drop (i.toNat+1) x).getD (j.toNat - (i.toNat+1)) t.s6=List.getD x j.toNat t.s6:=by
       simp only [List.getD_eq_getElem?_getD,List.getElem?_drop];rw [show i.toNat+1+(j.toNat - (i.toNat+1))=j.toNat from by omega]
      rw [e2] at k2;exact sib k2 (by omega) gO (λ d hd=>hO d (by rw [e]; simp [hd])) ho hg hn
     ·have hd:j.toNat<(List.take i.toNat x).length:=by simp only [List.length_take]; omega
      obtain ⟨Q1,Q2,Q3,e,k1,k2,k3⟩:=j6.split (d:=t.s6) hd h1;have hm:j.toNat*t.size+t.size<=i.toNat*t.size:=by
       rw [<- Nat.succ_mul]; exact Nat.mul_le_mul_right _ (by omega)
      rw [o7,n7 _ _ _ _ (by omega)] at k2;have e2:(List.take i.toNat x).getD j.toNat t.s6=List.getD x j.toNat t.s6:=by
       simp only [List.getD_eq_getElem?_getD,List.getElem?_take];rw [if_pos (by omega)]
      rw [e2] at k2;exact sib k2 (by omega) gO (λ d hd=>hO d (by rw [e]; simp [hd])) ho hg hn
 | d0 o t ih =>
  intro p b off O1 x hR hb hc hO u0 y0 dE b0 off0 cX hP q ho u y hg b' aq hn
  match p,hR,dE,cX with
  | [],_,dE,cX =>
   rw [C2] at dE; cases dE;rw [y8] at cX; cases cX;exact hP ho hg hn
  | .l8 i::p,hR,_,_=>cases o<;>simp [w4] at hR
  | .idx i::p,hR,dE,cX =>
   cases o with
   | false=>simp [w4] at hR
   | true =>
    obtain ⟨hi,c1,o1,cap,P1,P2,P3,e,e1,e2,e3,e4,e5,e6,e7⟩:=hR;subst e;obtain ⟨b1,b2,b3,b4⟩:=E0 (sz:=t.size) hi;have bZ:List.length x*t.size<=cap*t.size:=Nat.mul_le_mul_right _ e2;have pU:=e4.free.u5;simp only [Ty.size] at hb hc
    match q,ho,hg,hn with
    | [],_,hg,hn=>exact here (t:=.d0 true t) hc hg hn
    | .l8 j::q,ho,_,_=>simp [x7] at ho
    | .idx j::q,⟨hj,ho⟩,hg,hn =>
     obtain ⟨d1,d2,d3,d4⟩:=E0 (sz:=t.size) hj;have kW:(u5 H' b)[off]?=some (.slice (some ⟨c1,o1,none⟩) (List.length x) cap):=by
      rw [b6s hc (j:=off) (by omega) (by omega)]; exact e1
     simp only [y7,e1] at hn cX;simp only [y7,kW];simp only [l4] at hg;have gO:d9 H' c1 (o1+j.toNat*t.size) t.size=d9 H c1 (o1+j.toNat*t.size) t.size:=l6 (hO c1 (by simp)) _ _;by_cases bN:i.toNat=j.toNat
     ·rw [<- bN] at ho hg hn gO ⊢
      exact ih e6 (by omega) gO (λ c hc=>hO c (by simp [hc])) dE cX hP ho hg hn
     ·rcases Nat.lt_or_gt_of_ne bN with bc|fm
      ·have hd:j.toNat - (i.toNat+1)<(List.drop (i.toNat+1) x).length:=by simp only [List.length_drop]; omega
       obtain ⟨Q1,Q2,Q3,e,k1,k2,k3⟩:=j6.split (d:=t.s6) hd e7;have f1:(i.toNat+1)*t.size+(j.toNat - (i.toNat+1))*t.size=j.toNat*t.size:=by rw [<- Nat.add_mul]; congr 1; omega
       have hm:(j.toNat - (i.toNat+1))*t.size+t.size<=(List.length x - (i.toNat+1))*t.size:=by omega
       rw [o7,n7 _ _ _ _ (by omega),Nat.add_assoc,f1] at k2;have f2:(List.drop (i.toNat+1) x).getD (j.toNat - (i.toNat+1)) t.s6=List.getD x j.toNat t.s6:=by
        simp only [List.getD_eq_getElem?_getD,List.getElem?_drop];rw [show i.toNat+1+(j.toNat - (i.toNat+1))=j.toNat from by omega]
       rw [f2] at k2;exact sib k2 (by omega) gO (λ d hd=>hO d (by rw [e]; simp [hd])) ho hg hn
      ·have hd:j.toNat<(List.take i.toNat x).length:=by simp only [List.length_take]; omega
       obtain ⟨Q1,Q2,Q3,e,k1,k2,k3⟩:=j6.split (d:=t.s6) hd e5;have hm:j.toNat*t.size+t.size<=i.toNat*t.size:=by
        rw [<- Nat.succ_mul]; exact Nat.mul_le_mul_right _ (by omega)
       rw [o7,n7 _ _ _ _ (by omega)] at k2;have f2:(List.take i.toNat x).getD j.toNat t.s6=List.getD x j.toNat t.s6:=by
        simp only [List.getD_eq_getElem?_getD,List.getElem?_take];rw [if_pos (by omega)]
       rw [f2] at k2;exact sib k2 (by omega) gO (λ d hd=>hO d (by rw [e]; simp [hd])) ho hg hn
 | _ =>
  intro p b off O1 x hR hb hc hO u0 y0 dE b0 off0 cX hP q ho u y hg b' aq hn
  match p,hR,dE,cX with
  | [],_,dE,cX =>
   rw [C2] at dE; cases dE;rw [y8] at cX; cases cX;exact hP ho hg hn
  | .idx i::p,hR,_,_=>simp [w4] at hR
  | .l8 i::p,hR,_,_=>simp [w4] at hR
theorem c0r {t0:Ty} {l:List t0.den} {b off b1 o1 cap n:Nat} {Op:List Nat} (hR:i6 H S (.d0 true t0) Op (d9 H b off 1) l) (gF:∀ c∈Op,c<H.size) (aF:Op.Nodup) (hb:b<H.size) (bL:b∉Op)
  (hh:d9 H b off 1=[.slice (some ⟨b1,o1,none⟩) l.length cap]) (h1:1<=cap) (hc:W4 H H' b1 (o1+l.length*t0.size) n) :
  ∀ {q:List Step},x7 (.d0 true t0) l q->∀ {u:Ty} {y:u.den},l4 (.d0 true t0) l q=some ⟨u,y⟩->∀ {b' aq:Nat},y7 H (.d0 true t0) q b off=some (b',aq)->y7 H' (.d0 true t0) q b off=some (b',aq)/\d9 H' b' aq u.size=d9 H b' aq u.size:=by
 intro q ho u y hg b' aq hn;rcases hR with ⟨_,⟨A,c,e,eO⟩,_⟩|⟨b2,o2,cap2,O',c1,c2,c3,c4,c5,rfl,c7⟩
 ·rw [hh] at e
  simp only [List.cons.injEq,Value.slice.injEq,and_true] at e;have:=eO rfl; omega
 ·rw [hh] at c1
  simp only [List.cons.injEq,Value.slice.injEq,Option.some.injEq,Addr.mk.injEq,and_true] at c1;obtain ⟨⟨rfl,rfl⟩,-,rfl⟩:=c1;have bC:b≠b1:=λ e=>bL (by simp [e]);have cv:d9 H' b off 1=d9 H b off 1:=hc.cells hb (λ e=>absurd e bC)
  match q,ho,hg,hn with
  | [],_,hg,hn =>
   rw [C2] at hg; cases hg;rw [y8] at hn; cases hn;exact ⟨y8 ..,cv⟩
  | .l8 j::q,ho,_,_=>simp [x7] at ho
  | .idx j::q,⟨hj,ho⟩,hg,hn =>
   obtain ⟨d1,d2,d3,d4⟩:=E0 (sz:=t0.size) hj;have kW:=(P9 b off _).1 hh;have pO:=(P9 b off _).1 (cv.trans hh);simp only [y7,kW] at hn;simp only [y7,pO];simp only [l4] at hg;obtain ⟨P1,P2,P3,e,g1,g2,g3⟩:=j6.split (d:=t0.s6) d1 c5;subst e;rw [o7,n7 _ _ _ _ (by omega)] at g2;have bZ:=c7.free.u5;have dQ:List.length l*t0.size<=cap*t0.size:=Nat.mul_le_mul_right _ c2;refine sib g2 (by omega) (hc.cells (gF b1 (by simp)) (λ _=>.inl (by omega))) (λ d hd=>hc.rest d ?_ (gF d (by simp [hd]))) ho hg hn;rintro rfl;exact (List.nodup_cons.1 aF).1 (by simp [hd])
end
section
variable {E:Env} {B:E3} {S:Nat->Prop} {ι:Ix} {s:St} {a:Act} {w:World}
theorem RS.spare (h:RS B S ι s a w) {i:Nat} {e:i7} (he:look i s.hp=some e) (_hnb:e≠.K5) {w':World} (k:C9 (l7 ι i e) w w') (aS:OB w'.heap S ι i e) (aV:w'.heap.size=w.heap.size)
  (jo:∀ {q:List Step},x7 e.ty e.x q->∀ {u:Ty} {y:u.den},l4 e.ty e.x q=some ⟨u,y⟩->∀ {b off:Nat},Place w.heap ι i e q=some (b,off)->Place w'.heap ι i e q=some (b,off)/\d9 (VH w'.heap ι i e) b off u.size=d9 (VH w.heap ι i e) b off u.size) :
  RS B S ι s a w':=by
 have hold:∀ {b:Nat},((∃ j ej,j≠i/\look j s.hp=some ej/\b∈l7 ι j ej)\/S b)->w'.heap[b]?=w.heap[b]?:=by
  intro b hb;refine k.frame b (hb.elim (λ⟨j,ej,_,h1,h2⟩=>(h.hs.bl j ej h1 b h2).2.2) (h.hs.slt b)) (λ lq=>?_);rcases hb with ⟨j,ej,h0,h1,h2⟩|hb
  ·exact h.hs.dj i j e ej he h1 (Ne.symm h0) b lq h2
  ·exact (h.hs.bl i e he b lq).1 hb
 have qO:HS B S ι s.hp w':=by
  refine ⟨k.os.trans h.hs.os,k.tape.trans h.hs.tape,k.out.trans h.hs.out,by rw [aV]; exact h.hs.size,?_,λ b hb=>by rw [aV]; exact h.hs.slt b hb,h.hs.s0,h.hs.s1,?_,λ j ej hj c hc=>?_,h.hs.dj,h.hs.pin⟩
  ·intro c hc hm
   rw [k.frame c (Nat.lt_of_lt_of_le hc h.hs.size) (λ qo=>by rcases (h.hs.bl i e he c qo).2.1 with h1|h1; omega; exact hm h1)];exact h.hs.frame c hc hm
  ·intro j ej hj
   by_cases e1:j=i
   ·subst e1; rw [he] at hj; cases hj; exact aS
   ·exact (h.hs.ob j ej hj).s4 (λ b hb=>hold (hb.imp (λ hb=>⟨j,ej,e1,hj,hb⟩) id)) (λ _ h=>h)
  ·rw [aV]; exact h.hs.bl j ej hj c hc
 have gY:∀ {j:Nat} {ej:i7},look j s.hp=some ej->∀ {q:List Step},x7 ej.ty ej.x q->∀ {r:Nat×Nat},Loc w.heap ι j ej q=some r->Loc w'.heap ι j ej q=some r:=by
  intro j ej hj q aM r hl;by_cases e1:j=i
  ·subst e1; rw [he] at hj; cases hj
   obtain ⟨u,y,hg⟩:=Ra aM;obtain ⟨g1,g2⟩:=C6 (b:=r.1) (off:=r.2) hl;exact wh (jo aM hg g1).1 (by rw [aV]; exact g2)
  ·exact EY (K2 hl) (h.hs.ob j ej hj) h.hs.slt (λ b hb=>hold (.inl ⟨j,ej,e1,hj,hb⟩)) aM hl
 have iK:∀ {j:Nat} {ej:i7},look j s.hp=some ej->∀ {q:List Step},x7 ej.ty ej.x q->∀ {u:Ty} {y:u.den},l4 ej.ty ej.x q=some ⟨u,y⟩->∀ {cs:List Value},Cells w.heap ι j ej q u cs->Cells w'.heap ι j ej q u cs:=by
  intro j ej hj q aM u y hg cs hc;by_cases e1:j=i
  ·subst e1; rw [he] at hj; cases hj
   obtain ⟨b0,o0,g1,g2⟩:=hc;obtain ⟨m1,m2⟩:=jo aM hg g1;exact ⟨b0,o0,m1,g2.trans m2.symm⟩
  ·exact LC (Cj hc) (h.hs.ob j ej hj) h.hs.slt (λ b hb=>hold (.inl ⟨j,ej,e1,hj,hb⟩)) aM hg hc
 refine ⟨qO,h.dfr,h.sz,λ t v hv=>?_⟩;have:=VX.map (H':=w'.heap) (S':=S) (ι':=ι) (cE:=s.hp) (f:=λ u=>u) (λ b hb=>hold (.inr hb)) (λ _ h=>h) ?_ (h.fr t v hv)
 ·rwa [AV.map_id] at this
 ·intro u vs hu _ h
  cases u<;>simp only [AV.ref] at hu<;>try cases hu
  ·obtain ⟨e',b,off,h1,h2,h3,h4⟩:=h
   exact ⟨e',b,off,h1,h2,gY h1 h2 h3,h4⟩
  ·obtain ⟨e',u,y,cs,h1,h2,h3,h4,h5⟩:=h
   exact ⟨e',u,y,cs,h1,h2,h3,iK h1 h2 h3 h4,h5⟩
  ·obtain ⟨e',v',h1,h2,h3,h4,h5,h6⟩:=h
   refine ⟨e',v',h1,h2,h3,h4,h5,?_⟩;rcases h6 with ⟨t,l,a,cap,k1,k2,k3,k4⟩|⟨n,t,l,b,off,k1,k2,k3,k4⟩
   ·exact .inl ⟨t,l,a,cap,k1,k2,iK h1 h2 k1 k3,k4⟩
   ·exact .inr ⟨n,t,l,b,off,k1,k2,gY h1 h2 k3,k4⟩
def yO (B:E3) (S:Nat->Prop) (ι:Ix) (hp:List (Nat×i7)) (g:List Nat) (i:Nat) (e:i7) (p:List Step) (t0:Ty) (l m:List t0.den) (b off:Nat) (v':Value) (w:World):Prop :=
 ∃ O',Loc w.heap ι i e p=some (b,off)/\i6 w.heap S (.d0 true t0) O' [v'] (l++m)/\O'.Nodup/\b∉O' /\
  ∀ c∈O',(¬ S c/\(B.w0.heap.size<=c\/B.M c)/\c<w.heap.size)/\(∀ j ej,j≠i->j∉g->look j hp=some ej->c∉l7 ι j ej) /\
   (c∈l7 ι i e->∃ Op,i6 w.heap S (.d0 true t0) Op (d9 w.heap b off 1) l/\c∈Op)
theorem Tn (hE:D0 E B) (h:RS B S ι s a w) {o:Oper} {c:Call} (ho:o.op=.call c) (hc:c.callee=.builtin .append) {x y:Operand} {T U:TypeId} (ha:c.args.toList=[x,y]) (eY:c.argTypes.toList=[T,U])
  (hk:(∃ e',E.P.underlying U=some (.slice e'))\/E.P.underlying U=some .string) {q:Bool} {t0:Ty} {bts:Nat} (hT:look T E.tt=some ⟨.d0 q t0,bts⟩) {i:Nat} {p:List Step} (hx:s.ev x=.at_ i p)
  {e:i7} (he:look i s.hp=some e) (kb:(∃ t x,e=.var t x)\/∃ t x j q,e=.own (.d0 true t) x/\p=.idx j::q) {l:List t0.den} (hg:l4 e.ty e.x p=some ⟨.d0 true t0,l⟩)
  {b off:Nat} (hl:Loc w.heap ι i e p=some (b,off)) {m:List t0.den} {g:List Nat} (cp:(s.ev y).vo s t0=some (⟨t0,m⟩,g)) (eo:i∉g) (_hgn:g.Nodup)
  (iQ:l.length+m.length<=140737488355328) (gP:(l.length+m.length)*t0.wb<=140737488355328) :
  ∃ v' w',(execOp a.eval o).run E.P w=.ok (.value v') w'/\RS B S ι s a w'/\x7 e.ty e.x p/\yO B S ι s.hp g i e p t0 l m b off v' w':=by
 have cF:e≠.K5:=K2 hl;obtain ⟨Og,news,k1,k2,k3,k4⟩:=Jw (P:=E.P) h hk cp (h.ev y);obtain ⟨e2,u,y2,cs,r1,aM,r3,r4,r5⟩:=C4 h hx;rw [he] at r1; cases r1;rw [hg] at r3; cases r3;obtain ⟨Op,m1,mn,m2,m3,m4,m5⟩:=M7 cF (h.hs.ob i e he) h.hs.slt aM hg hl;have fq:=(h.hs.ob i e he).zp cF h.hs.slt aM hg hl m2;obtain ⟨bX,di⟩:=C6 hl;have hcs:cs=d9 w.heap b off 1:=by
  obtain ⟨b0,off0,q1,q2⟩:=r4;rw [bX] at q1; cases q1;rw [l6 (G0 di)] at q2;exact q2
 have fa:d9 w.heap b off 1=[a.eval x]:=by
  have ga:(d9 w.heap b off 1).length=1:=m2.length;have r5':a.eval x=n8 (.d0 true t0) cs:=by simpa using r5
  rw [r5',hcs]
  match cN:d9 w.heap b off 1,ga with
  | [z],_=>rfl
 have m2':i6 w.heap S (.d0 true t0) Op [a.eval x] l:=by rw [<- fa]; exact m2
 have da:o6 E.P 100 T (.d0 true t0)=true:=Ee (t:=.d0 q t0) (u:=.d0 true t0) rfl (r7 hE hT);have dA:∀ c∈Op,c∈l7 ι i e:=λ c hc=>I2 (m1 c hc);have aF:(Op++Og).Nodup:=List.nodup_append.2 ⟨mn,k3,by
  rintro c h1 c' h2 rfl;obtain ⟨j,e',j1,j2,j3⟩:=k4 c h2;exact h.hs.dj i j e e' he j2 (by rintro rfl; exact eo j1) c (dA c h1) j3⟩
 have lS:∀ c∈Og,¬ S c/\(B.w0.heap.size<=c\/B.M c)/\c<w.heap.size:=λ c hc=>by
  obtain ⟨j,e',_,j2,j3⟩:=k4 c hc;exact h.hs.bl j e' j2 c j3
 have lA:=λ c hc=>h.hs.bl i e he c (dA c hc);obtain ⟨v',w',O',q1,q2,q3,q4,q5,q6,q7⟩:=Sk da o.type h.hs.slt m2' k1 k2 aF (λ c hc=>(List.mem_append.1 hc).elim (λ h=>⟨(lA c h).1,(lA c h).2.2⟩) (λ h=>⟨(lS c h).1,(lS c h).2.2⟩)) iQ gP;have aD:c.args=#[x,y]:=by rw [<- ha]
 have eB:c.argTypes=#[T,U]:=by rw [<- eY]
 have aO:(execOp a.eval o).run E.P w=.ok (.value v') w':=by
  simp [execOp,ho,resolve,hc,invoke,builtin,aD,eB,q1]
 have fU:∀ c∈l7 ι i e,¬ S c/\c<w.heap.size:=λ c hc=>⟨(h.hs.bl i e he c hc).1,(h.hs.bl i e he c hc).2.2⟩;have bI:d9 w'.heap b off 1=[a.eval x]:=by rw [l6 (q4.frame b di fq)]; exact fa
 obtain ⟨n2,n3⟩:=OB.same (H':=w'.heap) (h.hs.ob i e he) fU h.hs.slt kb aM hg hl q4.size m2 (λ c hc hn=>q4.frame c hc hn) (by
  show i6 w'.heap S (.d0 true t0) Op (d9 w'.heap b off 1) l;rw [bI]; exact q6)
 have tR:RS B S ι s a w':=by
  rcases q7 with q7|⟨b1,o1,cap,n,f1,f2,f3,f4,f5⟩
  ·exact h.vm F4.nil q7
  ·have dy:b1∈Op:=by
    rcases m2' with ⟨_,⟨A,c,e0,eO⟩,_⟩|⟨b2,o2,cap2,O2,c1,_,_,_,_,rfl,_⟩
    ·rw [f1] at e0
     simp only [List.cons.injEq,Value.slice.injEq,and_true] at e0;have:=eO rfl; omega
    ·rw [f1] at c1
     simp only [List.cons.injEq,Value.slice.injEq,Option.some.injEq,Addr.mk.injEq,and_true] at c1;rw [c1.1.1]; simp
   refine h.spare he cF (q4.mono dA) n2 f5 ?_;obtain ⟨O,hO,hR,eu,gr,pE,fY,dI⟩:=(h.hs.ob i e he).see cF h.hs.slt;obtain ⟨O1,O3,b',aq,g1,g2,g3,g4,g5,g6⟩:=focus hR eu aM hg
   have mm:=bX;rw [H7 cF,g3] at mm; cases mm;have g4':i6 w.heap S (.d0 true t0) O3 (d9 w.heap b off 1) l:=by
    have g4:i6 (VH w.heap ι i e) S (.d0 true t0) O3 (d9 (VH w.heap ι i e) b off 1) l:=g4;rw [l6 (G0 di)] at g4;exact (wi (λ c hc=>(h.hs.ob i e he).U0 cF (hO.mem_iff.1 (g1.mem_iff.2 (by simp [hc])))) h.hs.slt).1 g4
   obtain rfl:Op=O3:=m2.det g4';have cq:(O1++Op).Nodup:=(g1.nodup_iff).1 ((hO.nodup_iff).2 (List.nodup_cons.1 gr).2);have gR:b1<w.heap.size:=(fU b1 (dA b1 dy)).2;have bB:b1≠(VR w.heap ι i e).1:=by
    rintro rfl;exact (List.nodup_cons.1 gr).1 (hO.mem_iff.1 (g1.mem_iff.2 (by simp [dy])))
   have qD:(VR w'.heap ι i e)=(VR w.heap ι i e):=by cases e<;>simp [VR,f5]
   have hV:∀ c,c≠b1->(VH w'.heap ι i e)[c]?=(VH w.heap ι i e)[c]?:=by
    intro c cv;have hr:∀ c,c≠b1->w'.heap[c]?=w.heap[c]?:=by
     intro c cv;rcases Nat.lt_or_ge c w.heap.size with h1|h1
     ·exact f4.rest c cv h1
     ·rw [Array.getElem?_eq_none h1,Array.getElem?_eq_none (by omega)]
    cases e with
    | own t x =>
     simp only [VH,gh];rw [Array.getElem?_push,Array.getElem?_push,f5]
     split
     ·rfl
     ·exact hr c cv
    | _=>exact hr c cv
   have tL:W4 (VH w.heap ι i e) (VH w'.heap ι i e) b1 (o1+l.length*t0.size) n:=by
    obtain ⟨arr,cW,T',⟨fz,⟨z1,z2⟩,z3⟩,z4,z5⟩:=f4.at_;exact ⟨⟨arr,cW,T',⟨fz,⟨(G0 gR).trans z1,z2⟩,(G0 (by omega)).trans z3⟩,z4,z5⟩,λ c cv _=>hV c cv⟩
   intro q' mz u' y' kh b' o' cE;rw [H7 cF] at cE ⊢;rw [qD];have tF:b<(VH w.heap ι i e).size:=Nat.lt_of_lt_of_le di xi;refine Xg g2 eu (l6 (hV _ (Ne.symm bB)) _ _) (λ c hc=>hV c ?_) hg g3 ?_ mz kh cE
   ·rintro rfl
    exact (List.nodup_append.1 cq).2.2 c hc c dy rfl
   ·have tC:d9 (VH w.heap ι i e) b off 1=[.slice (some ⟨b1,o1,none⟩) l.length cap]:=by
     rw [l6 (G0 di),fa,f1]
    intro q2 sr u2 y2 td b2 off2 lM;exact c0r (H':=VH w'.heap ι i e) g4 (λ c hc=>Nat.lt_of_lt_of_le (fU c (dA c hc)).2 xi) mn tF fq tC f3 tL sr td lM
 refine ⟨v',w',aO,tR,aM,O',n3,q2,q3,?_,?_⟩
 ·intro hb
  rcases (q5 b hb).1 with h1|h1
  ·omega
  ·rcases List.mem_append.1 h1 with h1|h1
   ·exact fq h1
   ·obtain ⟨j,e',j1,j2,j3⟩:=k4 b h1
    exact h.hs.dj i j e e' he j2 (by rintro rfl; exact eo j1) b m4 j3
 ·intro c hc
  obtain ⟨f1,f2⟩:=q5 c hc;have fact:(¬ S c/\(B.w0.heap.size<=c\/B.M c)/\c<w'.heap.size)/\(∀ j ej,j≠i->j∉g->look j s.hp=some ej->c∉l7 ι j ej)/\(c∈l7 ι i e->c∈Op):=by
   rcases f1 with f1|f1
   ·exact ⟨⟨λ hs=>by have:=h.hs.slt c hs; omega,.inl (Nat.le_trans h.hs.size f1),f2⟩,λ j ej _ _ hj cv=>by have:=(h.hs.bl j ej hj c cv).2.2; omega,λ cv=>by have:=(fU c cv).2; omega⟩
   ·rcases List.mem_append.1 f1 with f1|f1
    ·have:=lA c f1
     exact ⟨⟨this.1,this.2.1,f2⟩,λ j ej hj _ df=>h.hs.dj i j e ej he df (Ne.symm hj) c (dA c f1),λ _=>f1⟩
    ·have:=lS c f1
     obtain ⟨j0,e0,j1,j2,j3⟩:=k4 c f1;exact ⟨⟨this.1,this.2.1,f2⟩,λ j ej _ fS df=>h.hs.dj j0 j e0 ej j2 df (by rintro rfl; exact fS j1) c j3,λ cv=>absurd cv (h.hs.dj j0 i e0 e j2 he (by rintro rfl; exact eo j1) c j3)⟩
  exact ⟨fact.1,fact.2.1,λ cv=>⟨Op,by rw [bI]; exact q6,fact.2.2 cv⟩⟩
theorem Cs {e:i7} {p:List Step} {r:Sigma Ty.den} (h:zT e p r=true):Bt e e/\((∃ t x,e=.var t x)\/∃ t x j q,e=.own (.d0 true t) x/\p=.idx j::q):=by
 unfold zT at h;split at h
 ·exact ⟨.inl ⟨_,_,_,rfl,rfl⟩,.inl ⟨_,_,rfl⟩⟩
 ·split at h
  ·exact ⟨.inr (.inl ⟨_,_,_,rfl,rfl⟩),.inr ⟨_,_,_,_,rfl,rfl⟩⟩
  ·cases h
 ·cases h
theorem Z8 {a:Act} {t d:Nat} {v:Value} (h:t≠d):(a.put (some d) v).eval (.tmp t)=a.eval (.tmp t):=by
 show (a.tmps.setIfInBounds d v).getD t undef=a.tmps.getD t undef;simp only [Array.getD_eq_getD_getElem?,Array.getElem?_setIfInBounds,if_neg (Ne.symm h)]
theorem Ky {a:Act} {d:Nat} {v:Value} (h:d<a.tmps.size):(a.put (some d) v).eval (.tmp d)=v:=by
 show (a.tmps.setIfInBounds d v).getD d undef=v;simp only [Array.getD_eq_getD_getElem?,Array.getElem?_setIfInBounds,if_pos h]; rfl
theorem SZ (hE:D0 E B) (h:RS B S ι s a w) {g:List Nat} (dP:(g.all λ i=>!pinned i)=true) {i:Nat} (eo:i∉g) {e:i7} (he:look i s.hp=some e) {p:List Step} (aM:x7 e.ty e.x p) {t0:Ty} {l m:List t0.den} (hg:l4 e.ty e.x p=some ⟨.d0 true t0,l⟩) {b off:Nat} {v':Value}
  (hP:yO B S ι s.hp g i e p t0 l m b off v' w) {o:Oper} {T:TypeId} {ad:Operand} {d:Nat} (ho:o.op=.store T ad (.tmp d)) (lv:a.eval ad=.pointer (some ⟨b,off,none⟩)) (hv:a.eval (.tmp d)=v') (bz:I8 E T (.d0 true t0)=true)
  {r:Sigma Ty.den} (aG:s9 e.ty e.x p (.d0 true t0) (l++m)=some r):y9 E.P B o a w (.raw undef) (((St.w9 g s).kill i e.kd p).w8 i (e.E1 r)):=by
 obtain ⟨O',hl,k5,k6,k7,k8⟩:=hP;have hd:=h.w9 (g:=g) dP;have jt:look i (St.w9 g s).hp=some e:=by rw [J3,if_neg eo]; exact he
 refine Az hE hd ho (i:=i) (e:=e) jt aM hl lv hg bz (u':=.d0 true _) (O2:=O') (cs:=[v']) k5 k6 (by rw [hv]; rfl) aG (λ c hc=>?_) k7;obtain ⟨f1,f2,f3⟩:=k8 c hc;refine ⟨f1,λ j ej hj df=>?_,f3⟩;rw [J3] at df;split at df
 ·cases df
 ·rename_i fS; exact f2 j ej hj fS df
theorem YX (hE:D0 E B) (h:RS B S ι s a w) {o:Oper} {c:Call} (ho:o.op=.call c) (hc:c.callee=.builtin .append) {x y:Operand} {T U:TypeId} (ha:c.args.toList=[x,y]) (eY:c.argTypes.toList=[T,U])
  {o2:Oper} {T2:TypeId} {adv:AV} {ad:Operand} {d:Nat} (_ho2:o2.op=.store T2 ad (.tmp d)) {p:Prop} {s2:St} (hb:yd E T U T2 (s.ev x) (s.ev y) adv d s=some (p,s2)) (hp:p) :
  ∃ i p0 e t0 l m g r v' w',s.ev x=.at_ i p0/\adv=.ptr i p0/\look i s.hp=some e/\i∉g/\(g.all λ i=>!pinned i)=true/\l4 e.ty e.x p0=some ⟨.d0 true t0,l⟩/\I8 E T2 (.d0 true t0)=true /\
   s9 e.ty e.x p0 (.d0 true t0) (l++m)=some r/\s2=(((St.w9 g (s.put (some d) .any)).kill i e.kd p0).w8 i (e.E1 r)) /\
   (execOp a.eval o).run E.P w=.ok (.value v') w'/\RS B S ι s a w'/\x7 e.ty e.x p0/\∀ b off,Loc w.heap ι i e p0=some (b,off)->yO B S ι s.hp g i e p0 t0 l m b off v' w':=by
 unfold yd at hb;split at hb
 ·rename_i i p0 j q q1 t0 bts u1 bts1 hx hT hU
  split at hb
  ·rename_i e aS ju
   simp only [Bool.and_eq_true] at ju;obtain ⟨bN,ju⟩:=ju;have bN:=Nat.eq_of_beq_eq_true bN;subst bN;split at hb
   ·rename_i u l hg
    split at hb
    ·rename_i t m g cp
     split at hb
     ·rename_i hu
      split at hb
      ·rename_i ht
       subst hu; subst ht;split at hb
       ·rename_i r aG
        split at hb
        ·rename_i bz
         cases hb;simp only [Bool.and_eq_true,Bool.not_eq_true'] at bz;obtain ⟨⟨⟨⟨bz,bK⟩,eo⟩,ie⟩,dP⟩:=bz;obtain ⟨rfl,iQ,gP⟩:=hp;obtain ⟨_,kb⟩:=Cs bK;have eo:i∉g:=by intro hm; simp [hm] at eo
         have hk:(∃ e',E.P.underlying U=some (.slice e'))\/E.P.underlying U=some .string:=by
          cases u1<;>first|cases ju|skip
          ·exact .inr (X3 (r7 hE hU))
          ·obtain ⟨et,k',f1,_⟩:=F7 (r7 hE hU)
           exact .inl ⟨et,f1⟩
         have aS:look i s.hp=some e:=aS;have key:∀ b off,Loc w.heap ι i e q=some (b,off)->∃ v' w',(execOp a.eval o).run E.P w=.ok (.value v') w'/\RS B S ι s a w'/\x7 e.ty e.x q/\yO B S ι s.hp g i e q _ l m b off v' w' :=
          λ b off hl=>Tn hE h ho hc ha eY hk hT hx aS kb hg hl cp eo (CL ie) iQ gP
         obtain ⟨e2,u,y2,cs,r1,aM,r3,r4,r5⟩:=C4 h hx;rw [aS] at r1; cases r1;obtain ⟨b,off,hl⟩:=Cc (h.hs.ob i e aS) h.hs.slt (Cs bK).2 aM hg;obtain ⟨v',w',k1,k2,k3,k4⟩:=key b off hl;exact ⟨i,q,e,_,l,m,g,r,v',w',hx,rfl,aS,eo,dP,hg,bz,aG,rfl,k1,k2,k3,λ b' aq ez=>by rw [hl] at ez; cases ez; exact k4⟩
        ·cases hb
       ·cases hb
      ·cases hb
     ·cases hb
    ·cases hb
   ·cases hb
  ·cases hb
 ·cases hb
theorem c2g (hE:D0 E B) (h:RS B S ι s a w) {o:Oper} {c:Call} (ho:o.op=.call c) (hc:c.callee=.builtin .append) {x y:Operand} {T U:TypeId} (ha:c.args.toList=[x,y]) (eY:c.argTypes.toList=[T,U])
  {o2:Oper} {T2:TypeId} {ad:Operand} {d:Nat} (hd:G8 B.n (some d)=true) (iD:o2.op=.store T2 ad (.tmp d)) (lv:∀ t,ad=.tmp t->t≠d) {p:Prop} {s2:St} (hb:yd E T U T2 (s.ev x) (s.ev y) (s.ev ad) d s=some (p,s2)) (hp:p) :
  ∃ v' w',(execOp a.eval o).run E.P w=.ok (.value v') w'/\y9 E.P B o2 (a.put (some d) v') w' (.raw undef) s2:=by
 obtain ⟨i,p0,e,t0,l,m,g,r,v',w',hx,qw,aS,eo,dP,hg,bz,aG,rfl,k1,k2,k3,k4⟩:=YX hE h ho hc ha eY iD hb hp;refine ⟨v',w',k1,?_⟩;obtain ⟨e',b,off,h1,h2,h3,h4⟩:=C4 h qw;rw [aS] at h1; cases h1;have ix:=k2.put hd (v:=.any) (val:=v') ⟨v',rfl⟩;have lr:(a.put (some d) v').eval ad=.pointer (some ⟨b,off,none⟩):=by
  have uo:a.eval ad=.pointer (some ⟨b,off,none⟩):=by simpa using h4
  rw [<- uo];cases ad with
  | tmp t=>exact Z8 (lv t rfl)
  | _=>rfl
 have dD:(a.put (some d) v').eval (.tmp d)=v':=Ky (by rw [h.sz]; simpa [G8,Nat.blt_eq] using hd);exact SZ hE ix (g:=g) dP eo (e:=e) (by simpa [St.put] using aS) h2 hg (k4 b off h3) iD lr dD bz aG
theorem Pt {o:Oper} (ho:Ak o.op=true) {a a':Act} (h:∀ t∈Bz o,a'.eval (.tmp t)=a.eval (.tmp t)):execOp a'.eval o=execOp a.eval o:=by
 have cy:∀ x∈o.op.operands.toList,a'.eval x=a.eval x:=by
  intro x hx;cases x with
  | tmp t=>exact h t (List.mem_filterMap.2 ⟨.tmp t,hx,rfl⟩)
  | _=>rfl
 unfold Ak at ho;split at ho
 ·rename_i e; rw [e] at cy; simp [Op.operands] at cy; simp [execOp,e,cy]
 ·rename_i e; rw [e] at cy; simp [Op.operands] at cy; simp [execOp,e,cy]
 ·rename_i e; rw [e] at cy; simp [Op.operands] at cy; simp [execOp,e,cy]
 ·cases ho
theorem RC {a:Act} {d e:Nat} {v u:Value} (h:d≠e):(a.put (some d) v).put (some e) u=(a.put (some e) u).put (some d) v:=by
 simp only [Act.put];congr 1;apply Array.ext_getElem?;intro i;simp only [Array.getElem?_setIfInBounds,Array.size_setIfInBounds];by_cases h1:e=i
 ·subst h1; simp [h]
 ·simp [h1]
theorem TO (hE:D0 E B) (hn:B.n=E.nt) {ops:Array Oper} {Q:Exit->Act->World->Prop} {oa:Oper} {c:Call} (ho:oa.op=.call c) (hc:c.callee=.builtin .append) {x y:Operand} {T U:TypeId} (ha:c.args.toList=[x,y]) (eY:c.argTypes.toList=[T,U])
  {d:Nat} (hd:G8 B.n (some d)=true):∀ {l:List Oper} {S:Nat->Prop} {ι:Ix} {s:St} {a:Act} {w:World} {p:Prop} {s2:St} {n:Nat},RS B S ι s a w->DZ E T U x y d l s=some (p,s2,n)->p ->
  ∃ v' w',(execOp a.eval oa).run E.P w=.ok (.value v') w'/\((∀ S' ι' a' w'',RS B S' ι' s2 a' w''->wpList E.P ops Q (l.drop n) a' w'')->wpList E.P ops Q l (a.put (some d) v') w')
 | [],S,ι,s,a,w,p,s2,n,_,hf,_=>by cases hf
 | o::rest,S,ι,s,a,w,p,s2,n,h,hf,hp=>by
  have aD:c.args=#[x,y]:=by rw [<- ha]
  have eB:c.argTypes=#[T,U]:=by rw [<- eY]
  unfold DZ at hf;split at hf
  ·rename_i hg gA
   split at hf
   ·rename_i mX
    split at hf
    ·rename_i d1 kj
     split at hf
     ·rename_i p1 v bT hv
      split at hf
      ·rename_i p2 s3 n2 kF
       cases hf;simp only [Bool.and_eq_true,Bool.not_eq_true'] at bT;obtain ⟨⟨⟨c1,c2⟩,c3⟩,c4⟩:=bT;have bC:d1≠d:=by rintro rfl; simp at c1
       have dV:=Cm hE h mX;have dD:BH E.P S ι o a w s v:=by
        split at hv
        ·cases hv
        ·rename_i v0 s0 e0; cases hv; rw [e0] at dV; exact dV.2
        ·rename_i q0 v0 s0 e0; cases hv; rw [e0] at dV; exact (dV hp.1).2
       obtain ⟨val,aO,dq⟩:=dD;rw [kj] at gA;have cn:=h.put (d:=some d1) (by rw [hn]; exact gA) dq;obtain ⟨v',w',g1,g2⟩:=TO hE hn ho hc ha eY hd (ops:=ops) (Q:=Q) cn kF hp.2;have ex:(a.put (some d1) val).eval x=a.eval x:=by
        cases x with
        | tmp t=>exact Z8 (by rintro rfl; simp at c3)
        | _=>rfl
       have ey:(a.put (some d1) val).eval y=a.eval y:=by
        cases y with
        | tmp t=>exact Z8 (by rintro rfl; simp at c4)
        | _=>rfl
       refine ⟨v',w',?_,λ hk=>?_⟩
       ·rw [<- g1]; simp [execOp,ho,resolve,hc,invoke,builtin,aD,eB,ex,ey]
       ·unfold wpList
        simp only [Region.wanted,hg,if_true];refine .inl ?_;unfold Oper.wp;have mh:(execOp (a.put (some d) v').eval o).run E.P w'=.ok (.value val) w':=by
         have sv:∀ t∈Bz o,(a.put (some d) v').eval (.tmp t)=a.eval (.tmp t):=by
          intro t ht;refine Z8 (λ e=>?_);rw [e] at ht;have h5:(Bz o).contains d=true:=by simpa using ht
          rw [h5] at c2; cases c2
         rw [Pt mX sv]; exact aO w'
        rw [mh];show wpList E.P ops Q rest ((a.put (some d) v').put o.dst val) w';rw [kj,RC (Ne.symm bC)];exact g2 hk
      ·cases hf
     ·cases hf
    ·cases hf
   ·split at hf
    ·rename_i T2 ad d' iD
     split at hf
     ·rename_i bT
      split at hf
      ·rename_i p1 s3 cp
       cases hf;simp only [Bool.and_eq_true] at bT;obtain ⟨c1,c2⟩:=bT;obtain rfl:=Nat.eq_of_beq_eq_true c1;obtain ⟨v',w',g1,g2⟩:=c2g hE h ho hc ha eY hd iD (λ t e=>by subst e; rintro rfl; simp at c2) cp hp;refine ⟨v',w',g1,λ hk=>?_⟩;unfold wpList;simp only [Region.wanted,hg,if_true];refine .inl (g2 _ _ (λ S' ι' w2 val h1 h2=>?_));exact hk S' ι' _ w2 (h1.put (by rw [hn]; exact gA) h2)
      ·cases hf
     ·cases hf
    ·cases hf
  ·cases hf
theorem c0q {e:i7} {p:List Step} {r:Sigma Ty.den} (h:zT e p r=true):Bt e (e.E1 r):=by
 unfold zT at h;obtain ⟨r1,r2⟩:=r;split at h
 ·rename_i t x
  obtain rfl:r1=t:=of_decide_eq_true h;exact .inl ⟨r1,x,r2,rfl,rfl⟩
 ·rename_i t x
  split at h
  ·obtain rfl:r1=.d0 true t:=of_decide_eq_true h
   exact .inr (.inl ⟨t,x,r2,rfl,rfl⟩)
  ·cases h
 ·cases h
theorem OB.swap {H H1 H':Array Go.Obj} {i:Nat} {e:i7} (ho:OB H S ι i e) (bM:∀ c∈l7 ι i e,¬ S c/\c<H.size) (hS:∀ c,S c->c<H.size) {p:List Step} (hk:(∃ t x,e=.var t x)\/∃ t x j q,e=.own (.d0 true t) x/\p=.idx j::q) (aM:x7 e.ty e.x p) {u:Ty} {y:u.den} (hg:l4 e.ty e.x p=some ⟨u,y⟩)
  {b off:Nat} (hl:Loc H ι i e p=some (b,off)) (aV:H.size<=H1.size) {Op:List Nat} (gF:i6 H S u Op (d9 H b off u.size) y) (hH:∀ c,c<H.size->c∉Op->H1[c]?=H[c]?) (hc:W4 H1 H' b off u.size) (gT:H'.size=H1.size)
  {u':Ty} {z:u'.den} {O2:List Nat} (hz:i6 H' S u' O2 (d9 H' b off u'.size) z) (eR:∀ c∈O2,c<H'.size/\(c<H.size->c∈Op)) (cV:O2.Nodup) {r:Sigma Ty.den} (aG:s9 e.ty e.x p u' z=some r) :
  ∃ O,(∀ c∈O,c∈ι.own i\/c∈O2)/\OB H' S (ι.C8 i O) i (e.E1 r):=by
 have he:e≠.K5:=K2 hl;have fq:=ho.zp he hS aM hg hl gF;obtain ⟨Om,m1,mn,m2,m3,m4,m5⟩:=M7 he ho hS aM hg hl;obtain ⟨O,hO,hR,hb,aF,bc,fY,dI⟩:=ho.see he hS;obtain ⟨O1,O3,b',aq,e1,e2,e3,e4,e5,e6⟩:=focus hR hb aM hg
 obtain ⟨bX,di⟩:=C6 hl;rw [H7 he] at bX;rw [e3] at bX; cases bX;have cq:(O1++O3).Nodup:=(e1.nodup_iff).1 ((hO.nodup_iff).2 (List.nodup_cons.1 aF).2);have bj:∀ c∈O1,c∈ι.own i:=λ c hc=>hO.mem_iff.1 (e1.mem_iff.2 (by simp [hc]));have cJ:∀ c∈O3,c∈ι.own i:=λ c hc=>hO.mem_iff.1 (e1.mem_iff.2 (by simp [hc]));have bB:=(List.nodup_cons.1 aF).1;have db:∀ c∈ι.own i,c∈l7 ι i e:=by intro c hc; cases e<;>simp [l7,hc]
 have e4':i6 H S u O3 (d9 H b off u.size) y:=by
  rw [l6 (G0 di)] at e4;exact (wi (λ c hc=>ho.U0 he (cJ c hc)) hS).1 e4
 obtain rfl:Op=O3:=gF.det e4';have eX:∀ c∈O1,c<H.size:=λ c hc=>ho.U0 he (bj c hc);have dO:∀ c,(c=(VR H ι i e).1/\c<H.size)\/c∈O1\/S c->H1[c]?=H[c]?:=by
  rintro c (⟨rfl,h1⟩|h1|h1)
  ·exact hH _ h1 (λ h=>bB (cJ _ h))
  ·exact hH c (eX c h1) (λ h=>(List.nodup_append.1 cq).2.2 c h1 c h rfl)
  ·exact hH c (hS c h1) (λ h=>(bM c (db c (cJ c h))).1 h1)
 have jK:(∃ t x,e=.var t x)->(VR H ι i e).1<H.size:=by rintro ⟨t,x,rfl⟩; exact bc
 obtain ⟨n1,n2⟩:=w4.move (H':=H1) hk e2 eX hS aV dO jK;have cQ:(VR H1 ι i e).2+e.ty.size<=(u5 (VH H1 ι i e) (VR H1 ι i e).1).length/\(VR H1 ι i e).1<(VH H1 ι i e).size/\¬ S (VR H1 ι i e).1/\(VR H1 ι i e).1∉O1:=by
  rcases hk with ⟨t,x,rfl⟩|⟨t,x,j,q,rfl,rfl⟩
  ·have hr:=jK ⟨_,_,rfl⟩
   refine ⟨?_,Nat.lt_of_lt_of_le hr aV,(bM _ (by simp [l7,VR])).1,λ h=>bB (bj _ h)⟩;have:=O8 (dO _ (.inl ⟨rfl,hr⟩));show (VR H ι i (.var t x)).2+_<=(u5 H1 (VR H ι i (.var t x)).1).length;rw [this]; exact hb
  ·refine ⟨?_,by simp [VH,VR,BS],λ h=>by have:=hS _ h; simp only [VR] at this; omega,λ h=>by have:=eX _ h; simp only [VR] at this; omega⟩
   simp only [VH,VR,wz] at hb ⊢; exact hb
 have pJ:∀ c∈O2,c<H'.size:=λ c hc=>(eR c hc).1;have rG:∀ c,S c->c<H'.size:=λ c hc=>by have:=hS c hc; omega
 have il:i6 (VH H' ι i e) S u' O2 (d9 (VH H' ι i e) b off u'.size) z:=by
  rw [l6 (G0 (by omega))];exact (wi pJ rG).2 hz
 obtain ⟨O4,f1,f2,f3⟩:=BK n1 hg (n2.trans e3) cQ.1 cQ.2.1 (List.nodup_append.1 cq).1 cQ.2.2.2 (λ c hc=>⟨(bM c (db c (bj c hc))).1,Nat.lt_of_lt_of_le (eX c hc) (Nat.le_trans aV xi)⟩) cQ.2.2.1
  (λ c hc=>Nat.lt_of_lt_of_le (hS c hc) (Nat.le_trans aV xi)) (λ _ h=>h) (BI hc gT) il aG
 have gW:O4.Nodup:=(f1.nodup_iff).2 (List.nodup_append.2 ⟨(List.nodup_append.1 cq).1,cV,by
  rintro c h1 d h2 rfl;exact (List.nodup_append.1 cq).2.2 c h1 c ((eR c h2).2 (eX c h1)) rfl⟩)
 have bP:∀ c∈O4,c∈ι.own i\/c∈O2:=by
  intro c hc;rcases List.mem_append.1 (f1.mem_iff.1 hc) with h|h
  ·exact .inl (bj c h)
  ·exact .inr h
 have kO:∀ c∈O4,c<H'.size:=by
  intro c hc;rcases bP c hc with h|h
  ·have:=ho.U0 he h; omega
  ·exact (eR c h).1
 have f2':=(wi kO rG).1 f2;refine ⟨O4,bP,?_⟩;cases e with
 | var t x =>
  simp only [i7.E1,OB,Ix.C8,if_true];obtain ⟨_,hf,_⟩:=ho;refine ⟨⟨O4,List.Perm.refl _,f2'⟩,?_,?_⟩
  ·rw [F6 f3]; exact hc.free (hf.s4 (dO _ (.inl ⟨rfl,jK ⟨_,_,rfl⟩⟩)))
  ·refine List.nodup_cons.2 ⟨λ h=>?_,gW⟩
   rcases bP _ h with h1|h1
   ·exact bB h1
   ·exact bB (cJ _ ((eR _ h1).2 (jK ⟨_,_,rfl⟩)))
 | own t x =>
  simp only [i7.E1,OB,Ix.C8,if_true];refine ⟨⟨O4,List.Perm.refl _,?_⟩,gW⟩;obtain ⟨⟨O',_,fD⟩,_⟩:=ho;have fK:r.1.size=t.size:=F6 f3;have:d9 (VH H' ι i (.own t x)) (VR H1 ι i (.own t x)).1 (VR H1 ι i (.own t x)).2 r.1.size=ι.cells i:=by
   simp only [VH,VR];rw [<- gT];simp only [d9,wz,List.drop_zero];exact List.take_of_length_le (by rw [fD.length,fK]; exact Nat.le_refl _)
  rw [this] at f2';exact f2'
 | K5=>exact absurd rfl he
def wT (P:Program) (o:Oper) (a:Act) (w:World) (R:Value->World->Prop):Prop :=
 ∃ g vs,(execOp a.eval o).run P w=.ok (.enter g vs) w/\Calls P g vs w (λ e w'=>∃ v,e=.returned v/\R v w')
theorem wT.wp {P:Program} {o:Oper} {R:Value->World->Prop} (h:wT P o a w R) {next:Act->World->Prop} {Q:Exit->Act->World->Prop} (hn:∀ v w',R v w'->next (a.put o.dst v) w'):o.wp P a w next Q:=by
 obtain ⟨g,vs,h1,h2⟩:=h;unfold Oper.wp;rw [h1];refine Calls.mono h2 ?_;rintro e w' ⟨v,rfl,hr⟩;exact hn v w' hr
theorem wT.mono {P:Program} {o:Oper} {R R':Value->World->Prop} (h:wT P o a w R) (hr:∀ v w',R v w'->R' v w'):wT P o a w R':=by
 obtain ⟨g,vs,h1,h2⟩:=h;exact ⟨g,vs,h1,h2.mono (λ e w' ⟨v,e1,k⟩=>⟨v,e1,hr v w' k⟩)⟩
theorem over_self {cur:List Value} {off n:Nat} (h:off+n<=cur.length):over cur off ((cur.drop off).take n)=cur:=by
 rw [over,List.length_take,List.length_drop,Nat.min_eq_left (by omega),List.append_assoc]
 conv=>rhs; rw [<- List.take_append_drop off cur,<- List.take_append_drop n (cur.drop off)]
 rw [List.drop_drop]
theorem YZ (h:RS B S ι s a w) {i:Nat} {e:i7} (aS:look i s.hp=some e) {p:List Step} (aM:x7 e.ty e.x p) {t:Ty} {l:(Ty.d0 true t).den} (hg:l4 e.ty e.x p=some ⟨.d0 true t,l⟩) {b off:Nat} (hl:Loc w.heap ι i e p=some (b,off))
  {Op:List Nat} (gF:i6 w.heap S (.d0 true t) Op (d9 w.heap b off (Ty.d0 true t).size) l) (kr:∀ c∈Op,c∈ι.own i) {ks:List PK} {ys:List Operand} {y:DK ks} (hy:AY s ks i e p t ys=some (y,[],[])) :
  ∃ S1:Nat->Prop,(∀ b,S b->S1 b)/\(∀ b,S1 b->b<w.heap.size)/\(∀ c∈Op,¬ S1 c)/\U6 w.heap S1 ks (ys.map a.eval) y []:=by
 have dA:∀ c∈Op,c∈l7 ι i e:=λ c hc=>I2 (kr c hc);have fin:∀ {ι':Ix} {s0:St},RS B S ι' s0 a w->AV.vl s0 ks (s0.J7 ys)=some (y,[],[])->(∀ j ej,j∈T1.loose ks (s0.J7 ys)->look j s0.hp=some ej->∀ c∈Op,c∉l7 ι' j ej)->∃ S1:Nat->Prop,(∀ b,S b->S1 b)/\(∀ b,S1 b->b<w.heap.size)/\(∀ c∈Op,¬ S1 c)/\U6 w.heap S1 ks (ys.map a.eval) y []:=by
  intro ι' s0 h0 rP hd
  let S1:Nat->Prop:=λ b=>S b\/M6 ι' s0.hp (T1.loose ks (s0.J7 ys)) b
  obtain ⟨L2,qN,_,qL,_⟩:=Jy (S1:=S1) h0.hs (λ b hb=>.inl hb) rP (h0.J7 ys) (by simp) (λ b hb=>.inr hb);have qM:L2=[]:=by
   rw [List.eq_nil_iff_forall_not_mem];intro b hb;obtain ⟨i,e,h1,_⟩:=qL b hb;cases h1
  subst qM;refine ⟨S1,λ _ h=>.inl h,?_,?_,qN⟩
  ·rintro b (hb|⟨j,ej,h1,h2,h3⟩)
   ·exact h0.hs.slt b hb
   ·exact (h0.hs.bl j ej h2 b h3).2.2
  ·rintro c hc (hs|⟨j,ej,r1,r2,r3⟩)
   ·exact (h.hs.bl i e aS c (dA c hc)).1 hs
   ·exact hd j ej r1 r2 c hc r3
 unfold AY at hy;split at hy
 ·rename_i mE
  have mE:i∉T1.loose ks (s.J7 ys):=by intro hm; simp [hm] at mE
  exact fin h hy (λ j ej r1 r2 c hc r3=>h.hs.dj i j e ej aS r2 (by rintro rfl; exact mE r1) c (dA c hc) r3)
 ·split at hy
  ·rename_i u x
   split at hy
   ·rename_i r aG
    have bY:∃ c0,d9 w.heap b off (Ty.d0 true t).size=[c0]/\Dh c0=true:=by
     rcases gF with ⟨_,⟨a1,c1,e1,_⟩,_⟩|⟨b1,o1,cap1,O1,e1,_⟩
     ·exact ⟨_,e1,rfl⟩
     ·exact ⟨_,e1,rfl⟩
    obtain ⟨c0,eO,jL⟩:=bY;obtain ⟨ι',⟨O,rfl,hO⟩,h0⟩:=h.DS aS aM hg hl (u':=.hole t) (z:=([]:List t.den)) (cs:=[c0]) (O2:=[]) (λ H' _ _=>⟨rfl,c0,rfl,jL⟩) rfl List.nodup_nil (by simp) aG (by intro h; cases h);have hw:w.setRow b (over (u5 w.heap b) off [c0]).toArray=w:=by
     obtain ⟨O2,m1,m2,m3,m4,m5,arr,T,⟨fz,e1,_⟩,hn⟩:=M7 (K2 hl) (h.hs.ob i _ aS) h.hs.slt aM hg hl;have hb:u5 w.heap b=arr.toList:=by simp only [u5,e1]
     have:over (u5 w.heap b) off [c0]=u5 w.heap b:=by
      rw [<- eO]; exact over_self m4
     rw [this,hb]; exact setRow_self w b arr T fz (by simpa using e1)
    rw [hw] at h0;refine fin h0 hy (λ j ej r1 r2 c hc r3=>?_);simp only [St.w8,p7] at r2;by_cases hj:j=i
    ·subst hj
     rw [if_pos rfl] at r2; cases r2;have r3:c∈(ι.root j).1::(ι.C8 j O).own j:=r3;simp only [Ix.C8,if_true] at r3;refine (List.mem_cons.1 r3).elim (λ g3=>?_) (λ g3=>?_)
     ·obtain ⟨_,_,aF⟩:=h.hs.ob j _ aS
      exact (List.nodup_cons.1 aF).1 (g3▸kr c hc)
     ·rcases (hO c g3).2 with h9|h9
      ·cases h9
      ·exact h9 Op gF hc
    ·rw [if_neg hj] at r2
     rw [(W9 hj O).l7] at r3;exact h.hs.dj i j _ ej aS r2 (Ne.symm hj) c (dA c hc) r3
   ·cases hy
  ·cases hy
theorem YY {i:Nat} {e:i7} {p:List Step} {t:Ty} {ks:List PK} {ys:List Operand} {r:DK ks×List Nat×List Nat} (hy:AY s ks i e p t ys=some r):ks.any PK.lnk=false:=by
 unfold AY at hy;split at hy
 ·exact BX hy
 ·split at hy
  ·split at hy
   ·exact BX hy
   ·cases hy
  ·cases hy
theorem b8y (hE:D0 E B) (h:RS B S ι s a w) {o:Oper} {c:Call} (ho:o.op=.call c) {g:FuncId} (hf:c.callee=.value (.func g)) {x:Operand} {ys:List Operand} (ha:c.args.toList=x::ys)
  {o2:Oper} {T2:TypeId} {ad:Operand} {d:Nat} (hd:G8 B.n (some d)=true) (iD:o2.op=.store T2 ad (.tmp d)) (lv:∀ t,ad=.tmp t->t≠d) {p:Prop} {s2:St} (hb:GV E T2 g (s.ev x) ys (s.ev ad) d s=some (p,s2)) (hp:p) :
  wT E.P o a w (λ v' w'=>y9 E.P B o2 (a.put (some d) v') w' (.raw undef) s2):=by
 unfold GV at hb;split at hb
 ·rename_i t ks t' pre fn out nw i p0 j q om hx lr
  split at hb
  ·rename_i e aS bT
   simp only [Bool.and_eq_true] at bT;obtain ⟨⟨⟨bN,kv⟩,pr⟩,ql⟩:=bT;have bN:=Nat.eq_of_beq_eq_true bN;subst bN;have kv:E6 ks=[]:=by
    revert kv;cases E6 ks with
    | nil=>intro _; rfl
    | cons a b=>intro h; cases h
   split at hb
   ·rename_i u l y hg hy
    split at hb
    ·rename_i hu
     subst hu;split at hb
     ·rename_i r aG
      split at hb
      ·rename_i fp
       cases hb;simp only [Bool.and_eq_true] at fp;obtain ⟨bz,bK⟩:=fp;obtain ⟨rfl,aZ⟩:=hp;have aS:look i s.hp=some e:=aS;have cF:e≠.K5:=by rcases (Cs bK).2 with ⟨_,_,rfl⟩|⟨_,_,_,_,rfl,_⟩<;>(intro h; cases h)
       have kb:=(Cs bK).2;obtain ⟨e1,u1,y1,cs,r1,aM,r3,hcs,r5⟩:=C4 h hx;rw [aS] at r1; cases r1;rw [hg] at r3; cases r3;have dD:a.eval x=n8 (.d0 true t) cs:=by simpa using r5
       obtain ⟨Op,m1,mn,kq⟩:=G4 h.hs aS aM hg hcs;obtain ⟨e2,b,off,z1,z2,hl,z4⟩:=C4 h lr;rw [aS] at z1; cases z1;have z4:a.eval ad=.pointer (some ⟨b,off,none⟩):=by simpa using z4
       have hV:=hE.C7 g _ om;obtain ⟨fnn,jA,dW,gQ⟩:=hV.ent;have hJ:i6 w.heap S (.d0 true t) Op (d9 w.heap b off (Ty.d0 true t).size) l:=by
        have bX:=C6 hl;obtain ⟨b9,o9,k1,k2⟩:=id hcs;rw [bX.1] at k1; cases k1;rw [k2,l6 (G0 bX.2)] at kq;exact kq
       obtain ⟨S1,lz,gj,qG,qN⟩:=YZ h aS aM hg hl hJ m1 hy;have dA:∀ c∈Op,c∈l7 ι i e:=λ c hc=>I2 (m1 c hc);have oA:∀ b∈Op++[],¬ S1 b/\b<w.heap.size:=by
        intro b hb;have hb:b∈Op:=by simpa using hb
        exact ⟨qG b hb,(h.hs.bl i e aS b (dA b hb)).2.2⟩
       have iL:=hV.run w S1 (a.eval x::ys.map a.eval) (W6 rfl l,y) (Op++[]) gj ((hE.gb.at_ h.hs).sub lz) aZ ⟨_,_,Op,[],rfl,rfl,⟨cs,dD,kq.s4 (λ _ _=>rfl) lz⟩,qN⟩ (CA (by rw [List.any_cons,YY hy]; rfl)) (by simpa using mn) oA;refine ⟨g,(a.eval x::ys.map a.eval).toArray,?_,?_⟩
       ·have pA:fnn.body.isNone=false:=gQ
        have hq:(fnn.name == "runtime.NumGoroutine")=false:=dW
        have aD:c.args.map a.eval=(a.eval x::ys.map a.eval).toArray:=by
         rw [<- Array.toList_inj,Array.toList_map,ha]; simp
        have cZ:a.eval (.func g)=.func (.func g) #[] #[]:=by simp [Act.eval]
        simp only [execOp,ho,resolve,hf,cZ,Deferred.ofValue,Sem.run_bind,Sem.run_pure,Result.andThen,invoke,callFunc,program];simp [Sem.run,jA,hq,pA];exact aD
       ·refine Calls.mono iL ?_
        rintro en w' ⟨us,O,Lo,S',rfl,bh,iv,jj,du,eJ,aF,hO⟩;obtain ⟨v',us',O1,O2,cs',rfl,rfl,fI,nF,rfl,rfl⟩:=du;refine ⟨v',rfl,?_⟩;have lT:=X7 (show E6 (.own (.d0 true t)::ks)=[] from kv) eJ;subst lT;have nF:=i6.J5 (S':=S) pr nF;have pz:O1.Nodup:=by simpa using aF
        have cf:∀ c∈O1,(w.heap.size<=c\/c∈Op)/\c<w'.heap.size:=λ c hc=>by
         obtain ⟨_,q2,q3⟩:=hO c (by simp [hc]);exact ⟨by simpa using q2,q3⟩
        have bh:C9 Op w w':=by simpa using bh
        have bM:∀ c∈l7 ι i e,¬ S c/\c<w.heap.size:=λ c hc=>⟨(h.hs.bl i e aS c hc).1,(h.hs.bl i e aS c hc).2.2⟩;obtain ⟨Om,p1,p2,p3,p4,p5,p6⟩:=M7 cF (h.hs.ob i e aS) h.hs.slt aM hg hl;have tU:Om=Op:=by
         have bX:=C6 hl;obtain ⟨b9,o9,k1,k2⟩:=hcs;rw [bX.1] at k1; cases k1;rw [k2,l6 (G0 bX.2)] at kq;exact p3.det kq
        subst tU;have fq:=(h.hs.ob i e aS).zp cF h.hs.slt aM hg hl p3;have dL:=(bM b p5).2;have iH:N2 w'.heap b (off+(Ty.d0 true t).size):=p6.s4 (bh.frame b dL fq);intro next Q hn
        have ix:=h.put (d:=some d) hd (v:=.any) (val:=v') ⟨_,rfl⟩;have ny:(a.put (some d) v').eval ad=.pointer (some ⟨b,off,none⟩):=by
         rw [<- z4];cases ad with
         | tmp t9=>exact Z8 (lv t9 rfl)
         | _=>rfl
        have rX:(a.put (some d) v').eval (.tmp d)=v':=Ky (by
         rw [h.sz]; simpa [G8,Nat.blt_eq] using hd)
        have qa:∃ c1,cs'=[c1]:=by
         have:=nF.length
         match cs',this with
         | [c1],_=>exact ⟨c1,rfl⟩
        obtain ⟨c1,rfl⟩:=qa;obtain rfl:c1=v':=fI.symm;have oU:(Ty.d0 true t').sh=(Ty.d0 true t).sh:=Cq hg aG;have aO:(execOp (a.put (some d) c1).eval o2).run E.P w'=.ok .skip (w'.setRow b (over (u5 w'.heap b) off [c1]).toArray):=by
         have oR:(storeVar T2 ⟨b,off,none⟩ c1).run E.P w'=.ok () (w'.setRow b (over (u5 w'.heap b) off [c1]).toArray):=Fp (D4 hE ql) oU iH nF;simp [execOp,iD,ny,rX,Instr.storeAt,Instr.sureAddr,oR]
        unfold Oper.wp;rw [aO];obtain ⟨eN,bI⟩:=CC (w:=w') (b:=b) (off:=off) (cs:=[c1]) iH;have gS:(w'.setRow b (over (u5 w'.heap b) off [c1]).toArray).heap.size=w'.heap.size:=setRow_size;have hold:∀ c,c≠b->(w'.setRow b (over (u5 w'.heap b) off [c1]).toArray).heap[c]?=w'.heap[c]?:=λ c cv=>setRow_other cv;have jI:(w'.setRow b (over (u5 w'.heap b) off [c1]).toArray).os=w'.os/\V9 w' (w'.setRow b (over (u5 w'.heap b) off [c1]).toArray)/\(w'.setRow b (over (u5 w'.heap b) off [c1]).toArray).output=w'.output:=⟨rfl,.of rfl rfl,rfl⟩;generalize rW:w'.setRow b (over (u5 w'.heap b) off [c1]).toArray=w'' at *
        have qt:b∉O1:=λ dy=>by
         rcases (cf b dy).1 with q|q
         ·omega
         ·exact fq q
        have oF:i6 w''.heap S (.d0 true t') O1 (d9 w''.heap b off (Ty.d0 true t').size) (fn (W6 rfl l,y)).1:=by
         have:d9 w''.heap b off (Ty.d0 true t').size=[c1]:=bI;rw [this];refine nF.s4 (λ c hc=>hold c ?_) (λ _ h=>h);rintro rfl;rcases hc with hc|hc
         ·exact qt hc
         ·exact (bM c p5).1 hc
        obtain ⟨O,n1,n2⟩:=OB.swap (h.hs.ob i e aS) bM h.hs.slt kb aM hg hl bh.size p3 (λ c hc hn=>bh.frame c hc hn) eN gS oF (λ c hc=>by
         obtain ⟨q1,q2⟩:=cf c hc;exact ⟨by omega,λ bc=>q1.resolve_left (by omega)⟩) pz aG
        have kJ:C9 (l7 ι i e) w w'':=by
         refine ⟨jI.1.trans bh.os,jI.2.1.trans bh.tape,jI.2.2.trans bh.out,by rw [gS]; exact bh.size,λ c hc hn=>?_⟩;rw [hold c (by rintro rfl; exact hn p5)];exact bh.frame c hc (λ qm=>hn (dA c qm))
        have cn:=ix.renew (by simpa [St.put] using aS) (c0q bK) F4.nil (L:=l7 ι i e) kJ (λ b hb=>.inl hb) (λ _ h=>h) (λ _ h=>.inl h) (O':=O) n2 (λ c hc=>by
         have cN:c∈l7 ι i e\/c∈O1:=by
          cases e with
          | var t9 x9 =>
           simp only [l7,i7.E1,Ix.C8,if_true,List.mem_cons] at hc ⊢;rcases hc with hc|hc
           ·exact .inl (.inl hc)
           ·exact (n1 c hc).imp .inr id
          | own t9 x9 =>
           simp only [l7,i7.E1,Ix.C8,if_true] at hc ⊢;exact n1 c hc
          | K5=>exact absurd rfl cF
         rcases cN with cN|cN
         ·exact ⟨(bM c cN).1,.inr cN,by have:=(bM c cN).2; have:=bh.size; omega⟩
         ·obtain ⟨q1,q2⟩:=cf c cN
          have gX:¬ S c:=by
           have:=(hO c (by simp [cN])).1;exact λ hs=>this (iv c (lz c hs))
          exact ⟨gX,q1.imp id (dA c),by omega⟩)
        exact hn S _ w'' undef cn rfl
      ·cases hb
     ·cases hb
    ·cases hb
   ·cases hb
  ·cases hb
 ·cases hb
theorem wT.put {P:Program} {o:Oper} {c:Call} (ho:o.op=.call c) {g:FuncId} (hf:c.callee=.value (.func g)) {d:Nat} {val:Value} (hd:∀ z∈c.args.toList,z≠.tmp d) {R:Value->World->Prop} (h:wT P o (a.put (some d) val) w R):wT P o a w R:=by
 obtain ⟨g',vs,h1,h2⟩:=h;refine ⟨g',vs,?_,h2⟩;rw [<- h1];have aD:c.args.map (a.put (some d) val).eval=c.args.map a.eval:=by
  apply Array.map_congr_left;intro z hz;cases z with
  | tmp t=>exact Z8 (λ e=>hd _ (by simpa using hz) (by rw [e]))
  | _=>rfl
 have cZ:(a.put (some d) val).eval (.func g)=a.eval (.func g):=rfl;simp only [execOp,ho,resolve,hf,cZ,aD]
theorem Up (hE:D0 E B) (hn:B.n=E.nt) {ops:Array Oper} {Q:Exit->Act->World->Prop} {oa:Oper} {c:Call} (ho:oa.op=.call c) {g:FuncId} (hf:c.callee=.value (.func g)) {x:Operand} {ys:List Operand} (ha:c.args.toList=x::ys)
  {d:Nat} (hd:G8 B.n (some d)=true):∀ {l:List Oper} {S:Nat->Prop} {ι:Ix} {s:St} {a:Act} {w:World} {p:Prop} {s2:St} {n:Nat},RS B S ι s a w->Ep E g x ys d l s=some (p,s2,n)->p->(∀ S' ι' a' w'',RS B S' ι' s2 a' w''->wpList E.P ops Q (l.drop n) a' w'') ->
  wT E.P oa a w (λ v' w'=>wpList E.P ops Q l (a.put (some d) v') w')
 | [],S,ι,s,a,w,p,s2,n,_,hb,_,_=>by cases hb
 | o::rest,S,ι,s,a,w,p,s2,n,h,hb,hp,hk=>by
  unfold Ep at hb;split at hb
  ·rename_i hg gA
   split at hb
   ·rename_i mX
    split at hb
    ·rename_i d1 kj
     split at hb
     ·rename_i p1 v bT hv
      split at hb
      ·rename_i p2 s3 n2 kF
       cases hb;simp only [Bool.and_eq_true,Bool.not_eq_true'] at bT;obtain ⟨⟨c1,c2⟩,c3⟩:=bT;have bC:d1≠d:=by rintro rfl; simp at c1
       have dV:=Cm hE h mX;have dD:BH E.P S ι o a w s v:=by
        split at hv
        ·cases hv
        ·rename_i v0 s0 e0; cases hv; rw [e0] at dV; exact dV.2
        ·rename_i q0 v0 s0 e0; cases hv; rw [e0] at dV; exact (dV hp.1).2
       obtain ⟨val,aO,dq⟩:=dD;rw [kj] at gA;have cn:=h.put (d:=some d1) (by rw [hn]; exact gA) dq;have mg:=Up hE hn ho hf ha hd (ops:=ops) (Q:=Q) cn kF hp.2 hk;refine (mg.put ho hf (λ z hz=>?_)).mono (λ v' w' hw=>?_)
       ·rw [ha] at hz
        rintro rfl;have:=List.all_eq_true.1 c3 _ hz;simp at this
       ·unfold wpList
        simp only [Region.wanted,hg,if_true];refine .inl ?_;unfold Oper.wp;have ex:execOp (a.put (some d) v').eval o=execOp a.eval o:=Pt mX (λ t ht=>Z8 (by
         rintro rfl;simp [ht] at c2))
        rw [ex,aO w'];show wpList E.P ops Q rest ((a.put (some d) v').put o.dst val) w';rw [kj,RC (Ne.symm bC)];exact hw
      ·cases hb
     ·cases hb
    ·cases hb
   ·split at hb
    ·rename_i T2 ad d' cy
     split at hb
     ·rename_i bT
      simp only [Bool.and_eq_true] at bT;obtain ⟨c1,c2⟩:=bT;obtain rfl:=Nat.eq_of_beq_eq_true c1;split at hb
      ·rename_i p2 s3 hcs
       cases hb;have lv:∀ t,ad=.tmp t->t≠d':=by
        intro t e;subst e;rintro rfl;simp at c2
       refine (b8y hE h ho hf ha hd cy lv hcs hp).mono (λ v' w' hw=>?_);unfold wpList;simp only [Region.wanted,hg,if_true];refine .inl (hw _ _ (λ S' ι' w2 val h1 h2=>?_));exact hk S' ι' _ w2 (h1.put (by rw [hn]; exact gA) h2)
      ·cases hb
     ·cases hb
    ·cases hb
  ·cases hb
theorem c0J {H:Array Go.Obj} {t:Ty} {y:(Ty.B8 t).den} (cd:t.shared=true) (h1:1<=y.1) (h2:y.1<=2) {O:List Nat} {cs:List Value} (hr:i6 H S (.B8 t) O cs y):i6 H S (.d0 true t) O cs y.2.1:=by
 obtain ⟨n,l,m⟩:=y
 match n,h1,h2,hr with
 | 1,_,_,hr=>exact hr
 | 2,_,_,⟨b,off,O',c1,c2,c3,c4,c5,c6⟩ =>
  obtain rfl:O'=[]:=j6.N5 (λ _ _ _ hr=>hr.N5 cd) c4;have bc:(l++m).length=l.length+m.length:=List.length_append;rw [bc,Nat.add_mul] at c3 c4;have s1:=(j6.two (λ _ _ _ hr=>hr.length) (λ _ _ _ hr=>hr.N5 cd) c4).1;rw [n7 _ _ _ _ (by omega)] at s1;exact .inr ⟨b,off,List.length l+List.length m,[],c1,by show List.length l<=_; omega,c2,by show off+List.length l*t.size<=_; omega,s1,c5,c6⟩
theorem b8z (hE:D0 E B) (hn:B.n=E.nt) (h:RS B S ι s a w) {o:Oper} {p:Prop} {s2:St} (hb:GU E o s=some (p,s2)) (hp:p) :
  o.guard=none/\wT E.P o a w (λ v' w'=>∃ ι',RS B S ι' s2 (a.put o.dst v') w'):=by
 unfold GU at hb; cases hb
def HU (H:Array Go.Obj) (S:Nat->Prop) (tl:Option (FuncId×Nat)) (pre us0 vs:List Value):Prop :=
 match tl with
 | none=>vs=us0
 | some (f,k)=>k<=pre.length/\∃ b off,vs=us0++[.pointer (some ⟨b,off,none⟩)]/\S b/\off+1<=(u5 H b).length/\d9 H b off 1=[.func (.func f) #[] ((pre.take k).reverse++vs).toArray]
theorem HU.next {H:Array Go.Obj} {tl:Option (FuncId×Nat)} {pre us0 vs:List Value} {v:Value} (h:HU H S tl pre (v::us0) vs):∃ vs',vs=v::vs'/\HU H S (tl.map λ q=>(q.1,q.2+1)) (v::pre) us0 vs':=by
 cases tl with
 | none=>exact ⟨us0,h,rfl⟩
 | some q =>
  obtain ⟨f,k⟩:=q;obtain ⟨hk,b,off,rfl,h1,h2,h3⟩:=h;refine ⟨_,rfl,by simpa using hk,b,off,rfl,h1,h2,?_⟩;rw [h3];simp [List.take_succ_cons]
theorem RS.slot (h:RS B S ι s a w) {t:Nat} {v:AV} (hv:VX w.heap S ι s.hp v [a.tmps.getD t (B.gd t)]):RS B S ι { s with fr:=Ex.put t v s.fr } a w:=by
 refine ⟨h.hs,h.dfr,h.sz,?_⟩;intro t' v' ht;simp only [p7] at ht;by_cases e:t'=t
 ·subst e
  rw [if_pos rfl] at ht; cases ht; exact hv
 ·rw [if_neg e] at ht; exact h.fr t' v' ht
theorem b7Y (hE:D0 E B) (hn:B.n=E.nt) (hM:E.ps.any PK.l5=false->∀ b,¬ B.M b) (h:RS B S ι s a w) {o:Oper} {p:Prop} {s2:St} (hb:Hk E o s=some (p,s2)) (hp:p) :
  o.guard=none/\∀ (next:Act->World->Prop) (Q:Exit->Act->World->Prop),(∀ S' ι' a' w',RS B S' ι' s2 a' w'->next a' w')->o.wp E.P a w next Q:=by
 unfold Hk at hb; cases hb
theorem RS.ND (h:RS B S ι s a w) {i:Nat} {u t:Ty} {y:u.den} {z:t.den} (he:look i s.hp=some (.var u y)) {O1 D:List Nat} (hp:(ι.own i).Perm (O1++D)) (p2:t.size=u.size)
  (hz:i6 w.heap (λ b=>S b\/b∈D) t O1 (d9 w.heap (ι.root i).1 (ι.root i).2 t.size) z):RS B (λ b=>S b\/b∈D) (ι.C8 i O1) ((s.xG i).w8 i (.var t z)) a w:=by
 obtain ⟨-,hf,aF⟩:=h.hs.ob i _ he;have oC:∀ b∈D,b∈ι.own i:=λ b hb=>hp.mem_iff.2 (by simp [hb]);have kr:∀ b∈O1,b∈ι.own i:=λ b hb=>hp.mem_iff.2 (by simp [hb]);have cV:(O1++D).Nodup:=(hp.nodup_iff).1 (List.nodup_cons.1 aF).2;have bB:=(List.nodup_cons.1 aF).1;have bM:=h.hs.bl i _ he;have db:∀ b∈ι.own i,b∈l7 ι i (.var u y):=λ b hb=>by simp [l7,hb]
 have bg:∀ j,j≠i->E8 ι (ι.C8 i O1) j:=λ j hj=>W9 hj _;have bP:∀ b∈l7 (ι.C8 i O1) i (.var t z),b∈l7 ι i (.var u y)/\b∉D:=by
  intro b hb;have hb:b∈(ι.root i).1::(ι.C8 i O1).own i:=hb;simp only [Ix.C8,if_true] at hb;refine (List.mem_cons.1 hb).elim (λ e=>⟨by simp [l7,e],λ hD=>bB (e▸oC b hD)⟩) (λ e=>⟨db b (kr b e),λ hD=>(List.nodup_append.1 cV).2.2 b e b hD rfl⟩)
 refine ⟨⟨h.hs.os,h.hs.tape,h.hs.out,h.hs.size,h.hs.frame,?_,λ b hb=>.inl (h.hs.s0 b hb),?_,?_,?_,?_,?_⟩,h.dfr,h.sz,?_⟩
 ·rintro b (hb|hb)
  ·exact h.hs.slt b hb
  ·exact (bM b (db b (oC b hb))).2.2
 ·rintro b (hb|hb)
  ·exact h.hs.s1 b hb
  ·rcases (bM b (db b (oC b hb))).2.1 with q|q
   ·exact .inr (.inl q)
   ·exact .inr (.inr q)
 ·intro j ej hj
  simp only [St.w8,p7] at hj;by_cases e1:j=i
  ·subst e1; rw [if_pos rfl] at hj; cases hj
   refine ⟨⟨O1,by simp [Ix.C8],?_⟩,?_,?_⟩
   ·exact hz
   ·rw [p2]; exact hf
   ·show ((ι.root j).1::(ι.C8 j O1).own j).Nodup
    simp only [Ix.C8,if_true];exact List.nodup_cons.2 ⟨λ h=>bB (kr _ h),(List.nodup_append.1 cV).1⟩
  ·rw [if_neg e1] at hj
   exact (bg j e1).ob.2 ((h.hs.ob j ej hj).s4 (λ _ _=>rfl) (λ _ h=>.inl h))
 ·intro j ej hj b hb
  simp only [St.w8,p7] at hj;by_cases e1:j=i
  ·subst e1; rw [if_pos rfl] at hj; cases hj
   obtain ⟨q1,q2⟩:=bP b hb;obtain ⟨r1,r2,r3⟩:=bM b q1;exact ⟨λ hs=>hs.elim r1 q2,r2,r3⟩
  ·rw [if_neg e1] at hj
   rw [(bg j e1).l7] at hb;obtain ⟨r1,r2,r3⟩:=h.hs.bl j ej hj b hb;exact ⟨λ hs=>hs.elim r1 (λ hD=>h.hs.dj j i ej _ hj he e1 b hb (db b (oC b hD))),r2,r3⟩
 ·intro j k ej ek hj hk fA c hc
  simp only [St.w8,p7] at hj hk;by_cases e1:j=i
  ·subst e1
   rw [if_pos rfl] at hj; cases hj;rw [if_neg (Ne.symm fA)] at hk;rw [(bg k (Ne.symm fA)).l7];exact h.hs.dj j k _ ek he hk fA c (bP c hc).1
  ·rw [if_neg e1] at hj
   rw [(bg j e1).l7] at hc;by_cases e2:k=i
   ·subst e2
    rw [if_pos rfl] at hk; cases hk;exact λ cN=>h.hs.dj j k ej _ hj he fA c hc (bP c cN).1
   ·rw [if_neg e2] at hk
    rw [(bg k e2).l7];exact h.hs.dj j k ej ek hj hk fA c hc
 ·intro q hq
  obtain ⟨k0,⟨e',k1⟩,k2,k3⟩:=h.hs.pin q hq;refine ⟨k0,?_,k2,k3⟩;simp only [St.w8,p7];by_cases e1:q.1=i
  ·exact ⟨_,by rw [if_pos e1]⟩
  ·exact ⟨e',by rw [if_neg e1]; exact k1⟩
 ·intro t9 v hv
  simp only [St.w8,St.xG,O6,Option.map_eq_some_iff] at hv;obtain ⟨v0,fb,rfl⟩:=hv;refine VX.map (λ _ _=>rfl) (λ _ h=>.inl h) (λ v vs hr hm dq=>?_) (h.fr t9 v0 fb);unfold AV.Mt;cases bU:v.j5 i with
  | false =>
   have bC:∀ j,v.j5 j=true->j≠i:=by rintro j hj rfl; rw [bU] at hj; cases hj
   have bK:VX w.heap (λ b=>S b\/b∈D) ι s.hp v vs:=VX.grow (λ _ _=>rfl) (λ _ h=>.inl h) h.hs.slt h.hs.ob dq;exact VX.other (λ j hj=>by simp only [St.w8,p7,if_neg (bC j hj)]; rfl) (λ j hj=>bg j (bC j hj)) bK
  | true =>
   have cC:=VX.one hr dq;simp only
   split
   ·rename_i j
    have dH:i=j:=Nat.eq_of_beq_eq_true bU;subst dH;obtain ⟨ej,b2,off2,k1,k2,k3,k4⟩:=dq;rw [he] at k1; cases k1;refine ⟨.var t z,b2,off2,by simp [St.w8,p7],N4,?_,k4⟩;simp only [Loc,Place,VR,VH,y8] at k3 ⊢;exact k3
   ·exact cC
theorem RS.Np (h:RS B S ι s a w) {i:Nat} {u t:Ty} {y:u.den} {z:t.den} (he:look i s.hp=some (.var u y)) (hz:yL u t y=some z):∃ S' ι',RS B S' ι' ((s.xG i).w8 i (.var t z)) a w:=by
 obtain ⟨⟨O,hO,hR⟩,hf,aF⟩:=h.hs.ob i _ he;obtain ⟨O1,D,p1,p2,p3⟩:=YN hz hR;refine ⟨_,_,h.ND he (hO.symm.trans p1) p2 ?_⟩;rw [p2];exact p3 (λ b=>S b\/b∈D) (λ _ h=>.inl h) (λ _ h=>.inr h)
theorem c3A {H:Array Go.Obj} {S S':Nat->Prop} {t0:Ty} {O:List Nat} {cs:List Value} {z:(Ty.B8 t0).den} (hR:i6 H S (.B8 t0) O cs z) (cd:t0.shared=true) (hD:∀ b∈O,S' b) (hS:∀ b,S b->S' b):i6 H S' (.d0 false t0) [] cs z.2.1:=by
 have h0:∀ O cs x,i6 H S t0 O cs x->O=[]:=λ O cs x h=>i6.N5 cd h;have bK:∀ {O cs l},j6 (i6 H S t0) t0.size O cs l->j6 (i6 H S' t0) t0.size [] cs l:=λ {O cs l} h=>by
  obtain rfl:=j6.N5 h0 h;exact j6.mono (L:=[]) (λ _ h=>h) (λ _ _ _ _ hr=>hr.s4 (λ _ _=>rfl) hS) h
 obtain ⟨n,l,m⟩:=z
 match n,hR with
 | 0,hR =>
  rcases hR with ⟨_,⟨a,c,h1,_⟩,h2⟩|⟨b,off,cap,O',c1,c2,c3,c4,c5,_,_,c8⟩
  ·exact .inl ⟨rfl,⟨a,c,h1,λ h=>by cases h⟩,h2⟩
  ·exact .inr ⟨b,off,cap,[],c1,c2,c3,c4,bK c5,rfl,rfl,hS b c8⟩
 | 1,hR =>
  rcases hR with ⟨_,⟨a,c,h1,_⟩,h2⟩|⟨b,off,cap,O',c1,c2,c3,c4,c5,c6,_⟩
  ·exact .inl ⟨rfl,⟨a,c,h1,λ h=>by cases h⟩,h2⟩
  ·exact .inr ⟨b,off,cap,[],c1,c2,⟨c3.1,λ h=>by cases h⟩,c4,bK c5,rfl,rfl,hD b (by rw [c6]; simp)⟩
 | n+2,⟨b,off,O',c1,c2,c3,c4,c5⟩ =>
  have hl:List.length l*t0.size<=List.length (l++m)*t0.size:=Nat.mul_le_mul_right _ (by rw [List.length_append]; omega);have c6:=(j6.two (λ _ _ _ h=>h.length) h0 c4).1;rw [n7 _ _ _ _ hl] at c6;refine .inr ⟨b,off,_,[],c1,Nat.le_add_right _ _,⟨c2.1,λ h=>by cases h⟩,Nat.le_trans (Nat.add_le_add_left hl off) c3,bK c6,rfl,rfl,?_⟩
  match n,c5 with
  | 0,c5=>exact hD b (by rw [c5.1]; simp)
  | n+1,c5=>exact hS b c5.2.2
theorem RS.Ve (h:RS B S ι s a w) {i k:Nat} {u:Ty} {y:u.den} (he:look i s.hp=some (.var u y)) {p:List Step} {t0:Ty} {z:(Ty.B8 t0).den} (hg:l4 u y p=some ⟨.B8 t0,z⟩) (cd:t0.shared=true)
  {r:Sigma Ty.den} (hr:s9 u y p (.B8 t0) ((0,z.2.1,[]):Nat×(List t0.den×List t0.den))=some r) (hk:look k s.fr=some (.at_ i p)) :
  ∃ S' ι',RS B S' ι' { ((s.xG i).w8 i (.var r.1 r.2)) with fr:=Ex.put k (.val (.d0 false t0) z.2.1) ((s.xG i).w8 i (.var r.1 r.2)).fr } a w:=by
 have cF:(i7.var u y)≠.K5:=λ h=>by cases h
 obtain ⟨e2,u2,y2,cs,r1,aM,r3,r4,r5⟩:=h.fr k _ hk;rw [he] at r1; cases r1;have r3:l4 u y p=some ⟨u2,y2⟩:=r3;rw [hg] at r3; cases r3;obtain ⟨O,hO,hR,eu,aF,bc,fY,dI⟩:=(h.hs.ob i _ he).see cF h.hs.slt;obtain ⟨O1,O3,b',aq,g1,g2,g3,g4,g5,g6⟩:=focus hR eu aM hg
 obtain ⟨b0,off0,q1,q2⟩:=r4;rw [H7 cF,g3] at q1; cases q1;have kr:∀ b∈O1++O3,b∈ι.own i:=λ b hb=>hO.mem_iff.1 (g1.mem_iff.2 hb);have cq:(O1++O3).Nodup:=(g1.nodup_iff).1 ((hO.nodup_iff).2 (List.nodup_cons.1 aF).2);have bB:=(List.nodup_cons.1 aF).1;have bM:=h.hs.bl i _ he;have jY:i6 w.heap (λ b=>S b\/b∈O3) (.d0 false t0) [] cs z.2.1:=by
  rw [q2]; exact c3A g4 cd (λ _ hb=>.inr hb) (λ _ hb=>.inl hb)
 have jz:N2 w.heap b' (aq+(Ty.B8 t0).size):=by
  rcases g6 with ⟨rfl,_,g7⟩|⟨_,g7⟩
  ·obtain ⟨arr,T,hl,hn⟩:=dI
   exact ⟨arr,T,hl,Nat.le_trans g7 hn⟩
  ·exact g7
 have kR:i6 w.heap (λ b=>S b\/b∈O3) (.B8 t0) [] (d9 w.heap b' aq (Ty.B8 t0).size) ((0,z.2.1,[]):Nat×(List t0.den×List t0.den)):=by
  have:=jY; rw [q2] at this; exact this
 obtain ⟨O',k1,k2,k3⟩:=BK g2 hg g3 eu bc (List.nodup_append.1 cq).1 (λ hc=>bB (kr _ (List.mem_append_left _ hc))) (λ c hc=>by
  obtain ⟨q1,q2,q3⟩:=bM c (by simp [l7,kr c (List.mem_append_left _ hc)]);exact ⟨q1,q3⟩) (bM _ (show (ι.root i).1∈(ι.root i).1::ι.own i from List.mem_cons_self)).1 h.hs.slt (λ _ hb=>.inl hb) (W4.refl jz) kR hr
 have aV:r.1.size=u.size:=F6 k3;have hD:=h.ND he (t:=r.1) (z:=r.2) (O1:=O') (D:=O3) ((hO.symm.trans g1).trans (by
  refine List.Perm.append_right _ ?_;rw [List.append_nil] at k1; exact k1.symm)) aV k2
 refine ⟨_,_,⟨hD.hs,hD.dfr,hD.sz,λ t v hv=>?_⟩⟩;simp only [p7] at hv;by_cases e:t=k
 ·subst e
  rw [if_pos rfl] at hv; cases hv;exact ⟨cs,r5,jY⟩
 ·rw [if_neg e] at hv
  exact hD.fr t v hv
theorem RS.wI (h:RS B S ι s a w) {i:Nat} (hp:pinned i=false) (t:Ty):∃ S' ι',RS B S' ι' (s.wI i t) a w:=by
 have hl:∀ {j:Nat} {e:i7},look j (del i s.hp)=some e->look j s.hp=some e/\j≠i:=by
  intro j e hj;rw [K3] at hj;split at hj
  ·cases hj
  ·rename_i h9; exact ⟨hj,h9⟩
 have gj:∀ b,S b->(S b\/M6 ι s.hp [i] b):=λ _ h=>.inl h;refine ⟨λ b=>S b\/M6 ι s.hp [i] b,ι,⟨h.hs.os,h.hs.tape,h.hs.out,h.hs.size,h.hs.frame,?_,λ b hb=>.inl (h.hs.s0 b hb),?_,?_,?_,?_,?_⟩,h.dfr,h.sz,?_⟩
 ·rintro b (hb|⟨j,e,hj,he,hb⟩)
  ·exact h.hs.slt b hb
  ·exact (h.hs.bl j e he b hb).2.2
 ·rintro b (hb|⟨j,e,hj,he,hb⟩)
  ·exact h.hs.s1 b hb
  ·rcases (h.hs.bl j e he b hb).2.1 with q|q
   ·exact .inr (.inl q)
   ·exact .inr (.inr q)
 ·intro j e hj
  exact (h.hs.ob j e (hl hj).1).s4 (λ _ _=>rfl) gj
 ·intro j e hj b hb
  obtain ⟨r1,r2,r3⟩:=h.hs.bl j e (hl hj).1 b hb;refine ⟨λ hs=>hs.elim r1 ?_,r2,r3⟩;rintro ⟨k,ek,hk,he,km⟩;rw [List.mem_singleton] at hk;subst hk;exact h.hs.dj j k e ek (hl hj).1 he (hl hj).2 b hb km
 ·intro j k ej ek hj hk
  exact h.hs.dj j k ej ek (hl hj).1 (hl hk).1
 ·intro q hq
  obtain ⟨k0,⟨e',k1⟩,k2⟩:=h.hs.pin q hq;refine ⟨k0,⟨e',?_⟩,k2⟩;show look q.1 (del i s.hp)=_;rw [K3,if_neg (by rintro e1; rw [e1,hp] at k0; cases k0)]; exact k1
 ·intro t9 v hv
  simp only [St.wI,O6,Option.map_eq_some_iff] at hv;obtain ⟨v0,fb,rfl⟩:=hv;refine VX.map (λ _ _=>rfl) (λ _ h=>.inl h) (λ v vs hr hm dq=>?_) (h.fr t9 v0 fb);unfold AV.LY;cases bU:v.j5 i with
  | false =>
   have bC:∀ j,v.j5 j=true->j≠i:=by rintro j hj rfl; rw [bU] at hj; cases hj
   have bK:VX w.heap (λ b=>S b\/M6 ι s.hp [i] b) ι s.hp v vs:=VX.grow (λ _ _=>rfl) (λ _ h=>.inl h) h.hs.slt h.hs.ob dq;exact VX.other (λ j hj=>by show look j (del i s.hp)=_; rw [K3,if_neg (bC j hj)]) (λ j hj=>E8.refl ι j) bK
  | true =>
   obtain ⟨x1,rfl⟩:=VX.one hr dq;have lR:∀ b,M6 ι s.hp v.H5 b->(S b\/M6 ι s.hp [i] b):=by
    intro b hb;obtain ⟨j,e,hj,he,iZ⟩:=hb;have dH:j=i:=by
     cases v<;>simp only [AV.ref] at hr<;>try cases hr
     all_goals (simp only [AV.H5,List.mem_singleton] at hj; simp only [AV.j5] at bU; exact hj.trans (Nat.eq_of_beq_eq_true bU).symm)
    subst dH;exact .inr ⟨j,e,by simp,he,iZ⟩
   simp only
   split
   ·rename_i x hx
    obtain ⟨cs,e1,e2⟩:=Oz h.hs hx dq gj lR;exact ⟨cs,by rw [e1],e2⟩
   ·split
    ·split
     ·rename_i x hx
      obtain ⟨b,off,e1,e2,e3,e4⟩:=IT h.hs (show AV.asR s t (.ptr _ _)=some x from hx) dq gj lR;exact ⟨b,off,by rw [e1],e2,e3,e4⟩
     ·exact ⟨_,rfl⟩
    ·exact ⟨_,rfl⟩
theorem RS.xx (hM:∀ b,¬ B.M b):∀ {l:List Nat} {S:Nat->Prop} {ι:Ix} {s:St} {a:Act} {w:World},RS B S ι s a w->∃ S' ι',RS B S' ι' (s.xx l) a w
 | [],S,ι,s,a,w,h=>⟨S,ι,h⟩
 | i::l,S,ι,s,a,w,h=>by
  unfold St.xx
  split
  ·rename_i u y aS hp
   obtain ⟨S2,ι2,h2⟩:=h.wI hp (.d0 false u.sh);exact RS.xx hM h2
  ·exact RS.xx hM h
theorem c1b (hM:E.ps.any PK.l5=false->∀ b,¬ B.M b) (h:RS B S ι s a w) (o:Oper):∃ S' ι',RS B S' ι' ((AW E o s).getD s) a w:=by
 cases hd:AW E o s with
 | none=>exact ⟨S,ι,h⟩
 | some s2 =>
  show ∃ S' ι',RS B S' ι' s2 a w;unfold AW at hd;split at hd
  ·rename_i c hp ho
   split at hd
   ·split at hd
    ·split at hd
     ·rename_i i u y aS
      split at hd
      ·cases hd
      ·split at hd
       ·rename_i z hz
        cases hd;exact h.Np aS hz
       ·cases hd
     ·cases hd
    ·split at hd
     ·rename_i mo _
      cases hd;exact h.wI mo _
     ·cases hd
    ·split at hd
     ·cases hd
     ·cases hd
      exact RS.xx (hM hp) h
    ·cases hd
   ·cases hd
  ·rename_i hp ho
   split at hd
   ·split at hd
    ·rename_i mo
     cases hd;exact h.wI mo _
    ·cases hd
   ·cases hd
  ·cases hd
theorem Y2 (hM:E.ps.any PK.l5=false->∀ b,¬ B.M b):∀ {l:List (Nat×Option Ty)} {S:Nat->Prop} {ι:Ix} {s:St} {a:Act} {w:World},RS B S ι s a w->∃ S' ι',RS B S' ι' (Af E l s) a w
 | [],S,ι,s,a,w,h=>⟨S,ι,h⟩
 | (m,none)::l,S,ι,s,a,w,h=>Y2 hM (l:=l) h
 | (m,some t)::l,S,ι,s,a,w,h=>by
  have key:∃ S' ι',RS B S' ι' (FY E m t s) a w:=by
   unfold FY
   split
   ·rename_i i hp _
    split
    ·rename_i u y aS
     split
     ·exact ⟨S,ι,h⟩
     ·split
      ·rename_i z hz
       exact h.Np aS hz
      ·exact ⟨S,ι,h⟩
    ·exact ⟨S,ι,h⟩
   ·rename_i i p hm
    split
    case h_2=>exact ⟨S,ι,h⟩
    unfold Mu
    split
    ·rename_i u y aS
     split
     ·rename_i t0 z hg
      split
      ·rename_i r cd hr
       have hk:look m s.fr=some (.at_ i p):=by
        unfold St.get at hm;cases hl:look m s.fr with
        | none=>rw [hl] at hm; cases hm
        | some v=>rw [hl] at hm; exact congrArg some hm
       exact h.Ve aS hg cd hr hk
      ·exact ⟨S,ι,h⟩
     ·exact ⟨S,ι,h⟩
    ·exact ⟨S,ι,h⟩
   ·rename_i hm
    split
    ·rename_i u
     have hg:=h.get m;rw [hm] at hg;have hv:a.tmps.getD m (B.gd m)=Value.slice none 0 0:=by
      have:[a.tmps.getD m (B.gd m)]=[Value.slice none 0 0]:=hg;simpa using this
     exact ⟨S,ι,h.slot (t:=m) (v:=.val (.d0 false u) ([]:List u.den)) ⟨[.slice none 0 0],by rw [hv]; rfl,.inl ⟨rfl,⟨none,0,rfl,λ _=>rfl⟩,rfl⟩⟩⟩
    ·exact ⟨S,ι,h⟩
   ·exact ⟨S,ι,h⟩
  obtain ⟨S',ι',h'⟩:=key;exact Y2 hM (l:=l) h'
theorem b7V (h:RS B S ι s a w) (o:Oper):∃ ι',RS B S ι' ((DA E o s).getD s) a w:=by
 cases hd:DA E o s with
 | none=>exact ⟨ι,h⟩
 | some s' =>
  show ∃ ι',RS B S ι' s' a w;unfold DA at hd;split at hd
  ·split at hd
   ·rename_i g tx ys hc ha
    split at hd
    ·rename_i t ks rs pre fn out nw i st p om hx
     split at hd
     ·rename_i u y aS
      split at hd
      ·rename_i v l r hg aG
       split at hd
       ·rename_i hv
        subst hv;split at hd
        ·rename_i bT
         cases hd;simp only [Bool.and_eq_true] at bT;have aS:look i s.hp=some (.var u y):=aS;have cZ:=h.fr tx _ hx;obtain ⟨e1,u1,y1,cs,r1,aM,r3,hcs,r5⟩:=cZ;rw [aS] at r1; cases r1;have hg:l4 (i7.var u y).ty (i7.var u y).x (st::p)=some ⟨.d0 true t,l⟩:=hg;rw [hg] at r3; cases r3;obtain ⟨Op,m1,mn,kq⟩:=G4 h.hs aS aM hg hcs;obtain ⟨b,off,k1,k2⟩:=id hcs;have cF:(i7.var u y)≠.K5:=by intro h; cases h
         have dL:b<w.heap.size:=by
          obtain ⟨b',aq,O2,q1,q2,q3,q4,q5,q6⟩:=(h.hs.ob i _ aS).part cF h.hs.slt aM hg;rw [q1] at k1; cases k1;rcases Nat.lt_or_ge b w.heap.size with h9|h9
          ·exact h9
          ·have q5:off+1<=(u5 w.heap b).length:=q5
           simp only [u5,Array.getElem?_eq_none h9,List.length_nil] at q5;omega
         have hl:Loc w.heap ι i (.var u y) (st::p)=some (b,off):=wh k1 dL;have hJ:i6 w.heap S (.d0 true t) Op (d9 w.heap b off (Ty.d0 true t).size) l:=by
          rw [k2,l6 (G0 dL)] at kq;exact kq
         have bY:∃ c0,d9 w.heap b off (Ty.d0 true t).size=[c0]/\Dh c0=true:=by
          rcases hJ with ⟨_,⟨a1,c1,e1,_⟩,_⟩|⟨b1,o1,cap1,O1,e1,_⟩
          ·exact ⟨_,e1,rfl⟩
          ·exact ⟨_,e1,rfl⟩
         obtain ⟨c0,eO,jL⟩:=bY;obtain ⟨ι',⟨O,rfl,hO⟩,h0⟩:=h.DS aS aM hg hl (u':=.hole t) (z:=([]:List t.den)) (cs:=[c0]) (O2:=[]) (λ H' _ _=>⟨rfl,c0,rfl,jL⟩) rfl List.nodup_nil (by simp) aG (by intro h; cases h);have hw:w.setRow b (over (u5 w.heap b) off [c0]).toArray=w:=by
          obtain ⟨O2,q1,q2,q3,m4,m5,arr,T,⟨fz,e1,_⟩,hn⟩:=M7 (K2 hl) (h.hs.ob i _ aS) h.hs.slt aM hg hl;have hb:u5 w.heap b=arr.toList:=by simp only [u5,e1]
          have:over (u5 w.heap b) off [c0]=u5 w.heap b:=by
           rw [<- eO]; exact over_self m4
          rw [this,hb]; exact setRow_self w b arr T fz (by simpa using e1)
         rw [hw] at h0;have dA:∀ c∈Op,c∈l7 ι i (.var u y):=λ c hc=>I2 (m1 c hc);have hF:F4 B S (ι.C8 i O) ((s.kill i (i7.var u y).kd (st::p)).w8 i (.var r.1 r.2)).hp w Op:=by
          refine ⟨mn,λ c hc=>?_⟩;obtain ⟨z1,z2,z3⟩:=h.hs.bl i _ aS c (dA c hc);refine ⟨z1,z2,z3,λ j ej r2 r3=>?_⟩;simp only [St.w8,p7] at r2;by_cases hj:j=i
          ·subst hj
           rw [if_pos rfl] at r2; cases r2;have r3:c∈(ι.root j).1::(ι.C8 j O).own j:=r3;simp only [Ix.C8,if_true] at r3;refine (List.mem_cons.1 r3).elim (λ g3=>?_) (λ g3=>?_)
           ·obtain ⟨_,_,aF⟩:=h.hs.ob j _ aS
            exact (List.nodup_cons.1 aF).1 (g3▸m1 c hc)
           ·rcases (hO c g3).2 with h9|h9
            ·cases h9
            ·exact h9 Op hJ hc
          ·rw [if_neg hj] at r2
           rw [(W9 hj O).l7] at r3;exact h.hs.dj i j _ ej aS r2 (Ne.symm hj) c (dA c hc) r3
         have h1:=h0.hold bT.2 hJ hF;refine ⟨_,h1.slot (t:=tx) (v:=.at_ (1600000+tx) []) ?_⟩;have e9:[a.tmps.getD tx (B.gd tx)]=[n8 (.d0 true t) (d9 w.heap b off (Ty.d0 true t).size)]:=by
          rw [r5,k2,l6 (G0 dL)]
         rw [e9];exact Ac hJ.length
        ·cases hd
       ·cases hd
      ·cases hd
     ·cases hd
    ·cases hd
   ·cases hd
  ·cases hd
theorem RS.Wk (h:RS B S ι s a w) {i:Nat} {u t:Ty} {y:u.den} {z:t.den} (he:look i s.hp=some (.own u y)) (so:∀ {O:List Nat} {cs:List Value},i6 w.heap S u O cs y->i6 w.heap S t O cs z) (dn:u.agg=t.agg) (aV:u.size=t.size) :
  RS B S ι { fr:=mapA (AV.map λ v=>match v.j5 i with|false=>v|true=>match v with|.at_ j []=>.at_ j []|_=>.any) s.fr,hp:=Ex.put i (.own t z) s.hp } a w:=by
 obtain ⟨⟨O,hO,hR⟩,aF⟩:=h.hs.ob i _ he;have km:∀ j ej,look j (Ex.put i (.own t z) s.hp)=some ej->∃ e0,look j s.hp=some e0/\l7 ι j ej=l7 ι j e0:=by
  intro j ej hj;rw [p7] at hj;by_cases e1:j=i
  ·subst e1; rw [if_pos rfl] at hj; cases hj; exact ⟨_,he,rfl⟩
  ·rw [if_neg e1] at hj; exact ⟨_,hj,rfl⟩
 refine ⟨⟨h.hs.os,h.hs.tape,h.hs.out,h.hs.size,h.hs.frame,h.hs.slt,h.hs.s0,h.hs.s1,?_,?_,?_,?_⟩,h.dfr,h.sz,?_⟩
 ·intro j ej hj
  rw [p7] at hj;by_cases e1:j=i
  ·subst e1; rw [if_pos rfl] at hj; cases hj
   exact ⟨⟨O,hO,so hR⟩,aF⟩
  ·rw [if_neg e1] at hj; exact h.hs.ob j ej hj
 ·intro j ej hj b hb
  obtain ⟨e0,h1,h2⟩:=km j ej hj;rw [h2] at hb;exact h.hs.bl j e0 h1 b hb
 ·intro j k ej ek hj hk fA c hc
  obtain ⟨e0,h1,h2⟩:=km j ej hj;obtain ⟨e3,h4,h5⟩:=km k ek hk;rw [h2] at hc;rw [h5];exact h.hs.dj j k e0 e3 h1 h4 fA c hc
 ·intro q hq
  obtain ⟨k0,⟨e',k1⟩,k2,k3⟩:=h.hs.pin q hq;refine ⟨k0,?_,k2,k3⟩;rw [p7];by_cases e1:q.1=i
  ·exact ⟨_,by rw [if_pos e1]⟩
  ·exact ⟨e',by rw [if_neg e1]; exact k1⟩
 ·intro t9 v hv
  simp only [O6,Option.map_eq_some_iff] at hv;obtain ⟨v0,fb,rfl⟩:=hv;refine VX.map (λ _ _=>rfl) (λ _ h=>h) (λ v vs hr hm dq=>?_) (h.fr t9 v0 fb);cases bU:v.j5 i with
  | false =>
   have bC:∀ j,v.j5 j=true->j≠i:=by rintro j hj rfl; rw [bU] at hj; cases hj
   exact VX.other (λ j hj=>by rw [p7,if_neg (bC j hj)]) (λ j hj=>⟨rfl,rfl,rfl⟩) dq
  | true =>
   have cC:=VX.one hr dq;simp only
   split
   ·rename_i j
    have dH:i=j:=Nat.eq_of_beq_eq_true bU;subst dH;obtain ⟨e,u',y',cs,k1,k2,k3,⟨b,off,k4,k5⟩,k6⟩:=dq;rw [he] at k1; cases k1;simp only [l4,Option.some.injEq,Sigma.mk.injEq] at k3;obtain ⟨rfl,_⟩:=k3;refine ⟨.own t z,t,z,cs,by rw [p7,if_pos rfl],N4,by simp only [l4]; rfl,⟨b,off,?_,?_⟩,?_⟩
    ·simp only [Place,VR,VH,y8] at k4 ⊢
     exact k4
    ·rw [<- aV]; exact k5
    ·rw [k6]; exact congrArg (λ v=>[v]) (BJ dn cs)
   ·exact cC
theorem c0K (h:RS B S ι s a w) (o:Oper):RS B S ι (Dj E o s) a w:=by
 unfold Dj
 split
 ·split
  ·split
   ·rename_i i _
    split
    ·rename_i t z aS
     split
     ·rename_i hc
      simp only [Bool.and_eq_true] at hc
      split
      ·exact h
      ·rename_i cd
       exact h.Wk (t:=.d0 true t) (z:=z.2.1) aS (λ hr=>c0J cd (Nat.le_of_ble_eq_true hc.1) (Nat.le_of_ble_eq_true hc.2) hr) rfl rfl
     ·exact h
    ·exact h
   ·exact h
  ·exact h
 ·exact h
theorem c0C (hM:E.ps.any PK.l5=false->∀ b,¬ B.M b) (h0:RS B S ι s a w) (o:Oper):∃ S' ι',RS B S' ι' (Dl E o s) a w:=by
 have h:=c0K (E:=E) h0 o;unfold Dl Mx;generalize Dj E o s=s at h;obtain ⟨S',ι',h1⟩:=c1b hM h o;obtain ⟨ι2,h2⟩:=b7V (E:=E) h1 o;exact ⟨S',ι2,h2⟩
theorem b7R (hM:E.ps.any PK.l5=false->∀ b,¬ B.M b) (h:RS B S ι s a w) (ops:Array Oper):∃ S' ι',RS B S' ι' (Hp E ops s) a w:=by
 unfold Hp
 split
 ·rename_i hp _
  split
  ·rename_i mo
   exact h.wI mo _
  ·exact ⟨S,ι,h⟩
 ·exact ⟨S,ι,h⟩
theorem Ta (hM:E.ps.any PK.l5=false->∀ b,¬ B.M b) (h:RS B S ι s a w) (ops:Array Oper):∃ S' ι',RS B S' ι' (Dd E ops s) a w:=by
 unfold Dd
 split
 ·exact Y2 hM h
 ·exact ⟨S,ι,h⟩
theorem c0A (hM:E.ps.any PK.l5=false->∀ b,¬ B.M b) (h:RS B S ι s a w) (ops:Array Oper):∃ S' ι',RS B S' ι' (zM E ops s) a w:=by
 obtain ⟨S',ι',h'⟩:=Ta (E:=E) hM h ops;exact b7R hM h' ops
theorem W5 (hE:D0 E B) (hn:B.n=E.nt) (hM:E.ps.any PK.l5=false->∀ b,¬ B.M b) {ops:Array Oper} {k:St->Tree (E.rs++E6 E.ps)} {L:Code->List Item->St->Prop} {Rt:DL (E.rs++E6 E.ps)->Prop} {Q:Exit->Act->World->Prop} (hk:∀ S' ι' s' a' w',RS B S' ι' s' a' w'->(k s').holds L Rt->Q .normal a' w') :
  ∀ {l:List Oper} {m:Nat} {S:Nat->Prop} {ι:Ix} {s:St} {a:Act} {w:World},RS B S ι s a w->(wm E ops m l s k).holds L Rt->wpList E.P ops Q (l.drop m) a w
 | [],m,S,ι,s,a,w,h,ht=>by
  rw [List.drop_nil];cases m<;>exact hk S ι s a w h ht
 | o::l,m+1,S,ι,s,a,w,h,ht=>W5 hE hn hM hk (l:=l) (m:=m) h ht
 | o::l,0,S0,ι0,s0,a,w,h0,ht=>by
  show wpList E.P ops Q (o::l) a w;unfold wm at ht;obtain ⟨S,ι,h⟩:=c0C hM h0 o;dsimp only at ht;generalize Dl E o s0=s at h ht;split at ht
  ·rename_i p s' n hf
   unfold Mq at hf;split at hf
   ·rename_i d c hg hd gA ho
    split at hf
    ·rename_i x y T U hc ha hT
     split at hf
     ·split at hf
      ·cases hf
      ·rw [<- hn,hd] at gA
       obtain ⟨v',w',g1,g2⟩:=TO hE hn ho hc ha hT gA (ops:=ops) (Q:=Q) h hf ht.1;unfold wpList;simp only [Region.wanted,hg,if_true];refine .inl ?_;unfold Oper.wp;rw [g1];show wpList E.P ops Q l (a.put o.dst v') w';rw [hd];exact g2 (λ S' ι' a' w'' h'=>W5 hE hn hM hk (l:=l) (m:=n) h' (ht.2 ht.1))
     ·cases hf
    ·cases hf
   ·cases hf
  ·split at ht
   ·rename_i p s' n hf
    unfold Mr at hf;split at hf
    ·rename_i d c hg hd gA ho
     split at hf
     ·rename_i g x ys hc ha
      split at hf
      ·split at hf
       ·cases hf
       ·rw [<- hn,hd] at gA
        unfold wpList;simp only [Region.wanted,hg,if_true];refine .inl ((Up hE hn ho hc ha gA (ops:=ops) (Q:=Q) h hf ht.1 (λ S' ι' a' w'' h'=>W5 hE hn hM hk (l:=l) (m:=n) h' (ht.2 ht.1))).wp (λ v' w' hw=>?_));rw [hd]; exact hw
      ·cases hf
     ·cases hf
    ·cases hf
   ·split at ht
    ·rename_i p s' hf
     obtain ⟨hg,aO⟩:=b8z hE hn h hf ht.1;unfold wpList;simp only [Region.wanted,hg,if_true];refine .inl (aO.wp (λ v' w' hw=>?_));obtain ⟨ι',h'⟩:=hw;exact W5 hE hn hM hk (l:=l) (m:=0) h' (ht.2 ht.1)
    ·split at ht
     ·rename_i p s' hf
      obtain ⟨hg,aO⟩:=b7Y hE hn hM h hf ht.1;unfold wpList;simp only [Region.wanted,hg,if_true];exact .inl (aO _ Q (λ S' ι' a' w' h'=>W5 hE hn hM hk (l:=l) (m:=0) h' (ht.2 ht.1)))
     ·split at ht
      ·rename_i p v1 v2 hg hd hb
       rw [<- hn] at hd;obtain ⟨val,aO,hv⟩:=Zc hE h hb;unfold wpList;simp only [Region.wanted,hg,if_true];refine .inl ?_;unfold Oper.wp;rw [aO];rcases hv with ⟨hp,hv⟩|hv
       ·exact W5 hE hn hM hk (l:=l) (m:=0) (h.put hd hv) (ht.1 hp)
       ·exact W5 hE hn hM hk (l:=l) (m:=0) (h.put hd hv) ht.2
      ·have:=Lm hE hn h (ops:=ops) o (k:=λ s'=>wm E ops 0 l s' k) ht (next:=wpList E.P ops Q l) (Q:=Q) (λ S' ι' s' a' w' h1 h2=>W5 hE hn hM hk (l:=l) (m:=0) h1 h2)
       unfold wpList
       split
       ·rename_i hw; rw [if_pos hw] at this; exact .inl this
       ·rename_i hw; rw [if_neg hw] at this; exact this
end
end Go.Ex
namespace Go.Ex
section
variable {E:Env} {ops:Array Oper}
theorem Ay {α:Type _} {Y:α->Prop} {a:α}:Y a↔∃ (p:Prop) (s:α),some (True,a)=some (p,s)/\p/\Y s:=by
 constructor
 ·intro h; exact ⟨_,_,rfl,trivial,h⟩
 ·rintro ⟨p,s,h,_,h2⟩; cases h; exact h2
theorem HZ {o:Oper} {s:St} {k:St->Tree (E.rs++E6 E.ps)} {L:Code->List Item->St->Prop} {R:DL (E.rs++E6 E.ps)->Prop}:(yR E o s k).holds L R↔∃ p s',X5 E o s=some (p,s')/\p/\(k s').holds L R:=by
 unfold yR X5;cases hd:G8 E.nt o.dst with
 | false=>simp [Tree.holds]
 | true =>
  simp only;have other:∀ r:OR,(match r with|.fail why=>Tree.stuck why|.ok v s'=>k (s'.put o.dst v)|.F5 p v s'=>Tree.f7 p (k (s'.put o.dst v))).holds L R ↔
    ∃ p s',(match r.get with|none=>none|some (p,v,s')=>some (p,s'.put o.dst v))=some (p,s')/\p/\(k s').holds L R:=by
   intro r;cases r with
   | fail why=>simp [Tree.holds,OR.get]
   | ok v s'=>exact Ay (Y:=λ s'=>(k s').holds L R)
   | F5 p v s' =>
    simp only [Tree.holds,OR.get,Option.some.injEq,Prod.mk.injEq];constructor
    ·rintro ⟨h1,h2⟩; exact ⟨_,_,⟨rfl,rfl⟩,h1,h2 h1⟩
    ·rintro ⟨_,_,⟨rfl,rfl⟩,h1,h2⟩; exact ⟨h1,λ _=>h2⟩
  cases ho:o.op with
  | pick c a b =>
   simp only;cases hc:s.ev c with
   | val t x =>
    cases t with
    | bool =>
     cases x with
     | true=>exact Ay (Y:=λ s'=>(k s').holds L R)
     | false=>exact Ay (Y:=λ s'=>(k s').holds L R)
    | _=>simp [Tree.holds]
   | _=>simp [Tree.holds]
  | _=>exact other _
theorem Cd {o:Oper} {s:St} {k:St->Tree (E.rs++E6 E.ps)} {L:Code->List Item->St->Prop} {R:DL (E.rs++E6 E.ps)->Prop}:(yo E ops o s k).holds L R↔∃ p s',H4 E ops o s=some (p,s')/\p/\(k s').holds L R:=by
 unfold yo H4;cases hg:o.guard with
 | none=>exact HZ
 | some jw =>
  obtain ⟨j,want⟩:=jw;simp only;cases hs:AF ops j with
  | none=>simp [Tree.holds]
  | some g =>
   simp only;cases hv:s.ev (.tmp g) with
   | raw v =>
    cases v with
    | tuple vs =>
     simp only;cases hd:G8 E.nt o.dst with
     | false=>simp [Tree.holds]
     | true=>exact Ay (Y:=λ s'=>(k s').holds L R)
    | _=>simp [Tree.holds]
   | val t x =>
    cases t with
    | bool =>
     simp only;cases hd:G8 E.nt o.dst with
     | false=>simp [Tree.holds]
     | true =>
      simp only;cases x with
      | true =>
       cases want with
       | true=>exact HZ
       | false=>exact Ay (Y:=λ s'=>(k s').holds L R)
      | false =>
       cases want with
       | true=>exact Ay (Y:=λ s'=>(k s').holds L R)
       | false=>exact HZ
    | _=>simp [Tree.holds]
   | _=>simp [Tree.holds]
def a24 (ops:Array Oper) (x:Oper) (sx:St) (Tx:List Nat) (y:Oper) (Ty:List Nat):Prop :=
 (∀ m∈looks ops y,∀ i∈Tx,(J6 y (sx.get m)).j5 i=false)/\(∀ m∈looks ops x,∀ i∈Ty,(J6 x (sx.get m)).j5 i=false)/\(∀ i∈Tx,i % 1000≠(y.dst.getD 0) % 1000)
theorem IV {e:Met} {y:Oper} {Ty:List Nat} (h:Bk ops e y Ty=true):a24 ops e.o e.s e.T y Ty:=by
 simp only [Bk,Bool.and_eq_true] at h;obtain ⟨h1,h2⟩:=h;refine ⟨?_,?_,?_⟩
 ·intro m hm i hi
  split at h1
  ·rename_i he; rw [he] at hi; cases hi
  ·simp only [Bool.and_eq_true,List.all_eq_true,Bool.not_eq_true'] at h1
   exact h1.1 m hm i hi
 ·intro m hm i hi
  split at h2
  ·cases hi
  ·simp only [List.all_eq_true,Bool.not_eq_true'] at h2
   exact h2 m hm i hi
 ·intro i hi jr
  split at h1
  ·rename_i he; rw [he] at hi; cases hi
  ·simp only [Bool.and_eq_true,List.all_eq_true,Bool.not_eq_true'] at h1
   have:=h1.2 i hi;rw [jr] at this;simp at this
def vz (E:Env) (ops:Array Oper) (M:Nat->Nat):List (Nat×St)->List Nat->St->St->Prop
 | _,[],s,s'=>s=s'
 | acc,i::l,s,s'=>∃ o,ops[i]?=some o/\(∀ e∈acc,(M i).testBit e.1=true\/∃ x,ops[e.1]?=some x/\a24 ops x e.2 (l5 E x e.2) o (l5 E o s)) /\
   ∃ p s1,H4 E ops o s=some (p,s1)/\p/\vz E ops M ((i,s)::acc) l s1 s'
def Ba (E:Env) (ops:Array Oper) (q:vQ):Prop:=∃ oa c,ops[q.k]?=some oa/\oa.guard=none/\oa.dst=some q.d/\G8 E.nt (some q.d)=true/\oa.op=.call c/\c.callee=.builtin .append/\c.args.toList=[q.x,q.y]/\c.argTypes.toList=[q.T,q.U]
theorem YB {o:Oper} {s:St} {i:Nat} {q:vQ} (h:Gu E o s i=some q) (ho:ops[i]?=some o):Ba E ops q/\q.k=i:=by
 unfold Gu at h;split at h
 ·rename_i d c hg hd gA cy
  split at h
  ·rename_i x y T U hc ha hT
   split at h
   ·split at h
    ·cases h
    ·cases h
     exact ⟨⟨o,c,ho,hg,hd,by rw [<- hd]; exact gA,cy,hc,ha,hT⟩,rfl⟩
   ·cases h
  ·cases h
 ·cases h
def HR (E:Env) (ops:Array Oper) (M:List Nat) (q:vQ) (s1:St) (k:St->Tree (E.rs++E6 E.ps)) (L:Code->List Item->St->Prop) (R:DL (E.rs++E6 E.ps)->Prop):Prop :=
 ∃ o p s2,ops[ops.size - 1]?=some o/\zD E ops M q (ops.size - 1) o s1=some (p,s2)/\p/\(k s2).holds L R
theorem Co {o:Oper} {l:List Oper} {n:Nat} (hl:ops.toList.drop n=o::l):ops[n]?=some o/\ops.toList.drop (n+1)=l/\ops.size=n+1+l.length:=by
 have h1:(ops.toList.drop n)[0]?=some o:=by rw [hl]; rfl
 have h2:(ops.toList.drop n).length=(o::l).length:=by rw [hl]
 simp only [List.length_drop,List.length_cons,Array.length_toList] at h2;refine ⟨by simpa using h1,?_,by omega⟩;rw [<- List.drop_drop,hl]; rfl
theorem Rj {M:List Nat} {q:vQ} {k:St->Tree (E.rs++E6 E.ps)} {L:Code->List Item->St->Prop} {R:DL (E.rs++E6 E.ps)->Prop}:∀ {l:List Oper} {n:Nat} {s:St} {acc:List Met} {bE:List (Nat×St)},ops.toList.drop n=l ->
  (∀ e∈bE,∃ m∈acc,m.i=e.1/\ops[e.1]?=some m.o/\m.s=e.2/\m.T=l5 E m.o e.2)->(AR E ops M q n l s acc k).holds L R->∃ s',vz E ops (λ i=>M.getD i 0) bE (List.range' n (l.length - 1)) s s'/\HR E ops M q s' k L R
 | [],n,s,acc,bE,_,_,h=>h.elim
 | [o],n,s,acc,bE,hl,ha,h=>by
  obtain ⟨h1,h2,h3⟩:=Co hl;simp only [AR] at h;split at h
  ·rename_i p s2 hf
   have e:ops.size - 1=n:=by simp at h3; omega
   exact ⟨s,rfl,o,p,s2,by rw [e]; exact h1,by rw [e]; exact hf,h.1,h.2 h.1⟩
  ·exact h.elim
 | o::o2::l,n,s,acc,bE,hl,ha,h=>by
  obtain ⟨ho,ez,_⟩:=Co hl;simp only [AR] at h;split at h
  ·exact h.elim
  ·rename_i bD
   obtain ⟨p,s1,h1,h2,h3⟩:=Cd.1 h;obtain ⟨s',k1,k2⟩:=Rj (bE:=(n,s)::bE) ez (λ e he=>by
    rcases List.mem_cons.1 he with rfl|he
    ·exact ⟨_,List.mem_cons_self ..,rfl,ho,rfl,rfl⟩
    ·obtain ⟨m,hm,r⟩:=ha e he; exact ⟨m,List.mem_cons_of_mem _ hm,r⟩) h3
   refine ⟨s',⟨o,ho,λ e he=>?_,p,s1,h1,h2,k1⟩,k2⟩;obtain ⟨m,hm,m1,m2,m3,m4⟩:=ha e he;have:=(List.all_eq_true.1 bD) m hm;simp only [Bool.or_eq_true] at this;rcases this with this|this
   ·exact .inl (by rw [<- m1]; exact this)
   ·have hp:=IV this
    rw [m3,m4] at hp;exact .inr ⟨m.o,m2,hp⟩
theorem Rk {M:List Nat} {k:St->Tree (E.rs++E6 E.ps)} {L:Code->List Item->St->Prop} {R:DL (E.rs++E6 E.ps)->Prop}:∀ {l:List Oper} {n:Nat} {s:St} {acc:List Met} {bE:List (Nat×St)},ops.toList.drop n=l ->
  (∀ e∈bE,∃ m∈acc,m.i=e.1/\ops[e.1]?=some m.o/\m.s=e.2/\m.T=l5 E m.o e.2)->(De E ops M n l s acc k).holds L R ->
  (∃ s',vz E ops (λ i=>M.getD i 0) bE (List.range' n l.length) s s'/\(k s').holds L R) \/
  ∃ q s',n<=q.k/\Ba E ops q/\vz E ops (λ i=>M.getD i 0) bE ((List.range' n (l.length - 1)).filter (λ j=>!(j == q.k))) s s'/\HR E ops M q s' k L R
 | [],n,s,acc,bE,_,_,h=>.inl ⟨s,rfl,h⟩
 | o::l,n,s,acc,bE,hl,ha,h=>by
  obtain ⟨ho,ez,_⟩:=Co hl;simp only [De] at h;split at h
  ·rename_i q hq
   obtain ⟨a1,a2⟩:=YB hq ho;obtain ⟨s',k1,k2⟩:=Rj ez ha h;refine .inr ⟨q,s',by omega,a1,?_,k2⟩;cases l with
   | nil =>
    simp only [List.length_nil,Nat.zero_sub,List.range'_zero] at k1;simpa using k1
   | cons o2 l =>
    simp only [List.length_cons,Nat.add_sub_cancel] at k1 ⊢;rw [List.range'_succ,List.filter_cons];simp only [a2,beq_self_eq_true,Bool.not_true,Bool.false_eq_true,if_false];rw [List.filter_eq_self.2 (λ j hj=>by have:=(List.mem_range'_1.1 hj).1; simp; omega)];exact k1
  ·split at h
   ·exact h.elim
   ·rename_i bD
    obtain ⟨p,s1,h1,h2,h3⟩:=Cd.1 h;have nA:∀ e∈bE,(M.getD n 0).testBit e.1=true\/∃ x,ops[e.1]?=some x/\a24 ops x e.2 (l5 E x e.2) o (l5 E o s):=by
     intro e he;obtain ⟨m,hm,m1,m2,m3,m4⟩:=ha e he;have:=(List.all_eq_true.1 bD) m hm;simp only [Bool.or_eq_true] at this;rcases this with this|this
     ·exact .inl (by rw [<- m1]; exact this)
     ·have hp:=IV this
      rw [m3,m4] at hp;exact .inr ⟨m.o,m2,hp⟩
    rcases Rk (bE:=(n,s)::bE) ez (λ e he=>by
     rcases List.mem_cons.1 he with rfl|he
     ·exact ⟨_,List.mem_cons_self ..,rfl,ho,rfl,rfl⟩
     ·obtain ⟨m,hm,r⟩:=ha e he; exact ⟨m,List.mem_cons_of_mem _ hm,r⟩) h3 with ⟨s',k1,k2⟩|⟨q,s',k0,k1,k2,k3⟩
    ·exact .inl ⟨s',⟨o,ho,nA,p,s1,h1,h2,k1⟩,k2⟩
    ·refine .inr ⟨q,s',by omega,k1,?_,k3⟩
     cases l with
     | nil =>
      exfalso;obtain ⟨oa,c,a1,_⟩:=k1;have:=(Array.getElem?_eq_some_iff.1 a1).1;have h9:=(Co hl).2.2;simp at h9; omega
     | cons o2 l =>
      simp only [List.length_cons,Nat.add_sub_cancel] at k2 ⊢;rw [List.range'_succ,List.filter_cons];have bC:(!(n == q.k))=true:=by simp; omega
      rw [if_pos bC];exact ⟨o,ho,nA,p,s1,h1,h2,k2⟩
end
end Go.Ex
namespace Go.Ex
def uniq {α:Type _}:List (Nat×α)->Prop
 | []=>True
 | (n,_)::l=>(∀ q∈l,n<q.1)/\uniq l
theorem ES {α:Type _} {n:Nat}:∀ {l:List (Nat×α)},(∀ q∈l,n<q.1)->look n l=none
 | [],_=>rfl
 | (m,x)::l,h=>by
  have:=h (m,x) (by simp);simp only [look,yk (Nat.ne_of_lt this)];exact ES (λ q hq=>h q (by simp [hq]))
theorem OY {α:Type _} {n:Nat} {x:α} {q:Nat×α}:∀ {l:List (Nat×α)},q∈put n x l->q.1=n\/q∈l
 | [],h=>by simp [put] at h; exact .inl (by rw [h])
 | (m,y)::l,h=>by
  simp only [put] at h;split at h
  ·rcases List.mem_cons.1 h with rfl|h
   ·exact .inl rfl
   ·exact .inr (by simp [h])
  ·split at h
   ·rcases List.mem_cons.1 h with rfl|h
    ·exact .inl rfl
    ·exact .inr h
   ·rcases List.mem_cons.1 h with rfl|h
    ·exact .inr (by simp)
    ·exact (OY h).imp id (λ h=>by simp [h])
theorem Qo {α:Type _} (n:Nat) (x:α):∀ {l:List (Nat×α)},uniq l->uniq (put n x l)
 | [],_=>⟨by simp,trivial⟩
 | (m,y)::l,⟨h1,h2⟩=>by
  simp only [put];cases hb:Nat.beq n m with
  | true=>have:=Nat.eq_of_beq_eq_true hb; subst this; exact ⟨h1,h2⟩
  | false =>
   have bC:n≠m:=by rintro rfl; simp at hb
   simp only;cases bc:Nat.blt n m with
   | true =>
    have bc:n<m:=by simpa [Nat.blt_eq] using bc
    exact ⟨λ q hq=>by
     rcases List.mem_cons.1 hq with rfl|hq
     ·exact bc
     ·exact Nat.lt_trans bc (h1 q hq),h1,h2⟩
   | false =>
    have bc:¬ n<m:=by
     intro hl;have h3:Nat.blt n m=true:=by simpa [Nat.blt_eq] using hl
     rw [h3] at bc; cases bc
    refine ⟨λ q hq=>?_,Qo n x h2⟩;rcases OY hq with e|hq
    ·omega
    ·exact h1 q hq
theorem u6 {α:Type _}:∀ {l:List (Nat×α)},Bi l=true->uniq l
 | [],_=>trivial
 | (n,x)::l,h=>by
  simp only [Bi,Bool.and_eq_true] at h;have ih:=u6 h.2;refine ⟨?_,ih⟩;cases l with
  | nil=>simp
  | cons q l =>
   obtain ⟨m,y⟩:=q;have bc:n<m:=by simpa [Nat.blt_eq] using h.1
   intro q hq;rcases List.mem_cons.1 hq with rfl|hq
   ·exact bc
   ·exact Nat.lt_trans bc (ih.1 q hq)
theorem EM {d:Nat}:∀ {l:List (Nat×AV)},uniq l->(∀ n v,look n l=some v->v.j5 d=false)->wj d l=true
 | [],_,_=>rfl
 | (m,v)::l,⟨h0,h2⟩,h=>by
  have h1:=ES h0;simp only [wj,Bool.and_eq_true,Bool.not_eq_true'];refine ⟨h m v (by simp [look]),EM h2 (λ n w hw=>h n w ?_)⟩;simp only [look];cases hb:Nat.beq n m with
  | true=>have:=Nat.eq_of_beq_eq_true hb; subst this; rw [h1] at hw; cases hw
  | false=>exact hw
theorem I5:∀ {v:AV} {i:Nat},i∈v.H5↔v.j5 i=true:=by
 intro v
 induction v with
 | cons a b iha ihb=>intro i; simp only [AV.H5,List.mem_append,AV.j5,Bool.or_eq_true,iha,ihb]
 | K4 l ih=>intro i; exact ih
 | C5 f l ih=>intro i; exact ih
 | bx l ih=>intro i; exact ih
 | rc f l ih=>intro i; exact ih
 | ptr j p=>intro i; simp [AV.H5,AV.j5]
 | at_ j p=>intro i; simp [AV.H5,AV.j5]
 | sub j p a b=>intro i; simp [AV.H5,AV.j5]
 | _=>intro i; simp [AV.H5,AV.j5]
def AV.plain:AV->Bool
 | .any|.raw _|.val _ _|.O5 _ _|.nil=>true
 | _=>false
structure Trim (T:List Nat) (f:AV->AV):Prop where
 cons:∀ a b,f (.cons a b)=.cons (f a) (f b)
 K4:∀ l,f (.K4 l)=.K4 (f l)
 C5:∀ g l,f (.C5 g l)=.C5 g (f l)
 bx:∀ l,f (.bx l)=.bx (f l)
 rc:∀ g l,f (.rc g l)=.rc g (f l)
 atom:∀ u,u.ref=true->f u=u\/f u=.any
 xy:∀ u,u.ref=true->(∀ i∈T,u.j5 i=false)->f u=u
 plain:∀ u,u.plain=true->f u=u
theorem AV.shape (P:AV->Prop) (hp:∀ u,u.plain=true->P u) (ha:∀ u,u.ref=true->P u) (hc:∀ a b,P a->P b->P (.cons a b)) (ht:∀ l,P l->P (.K4 l)) (hf:∀ g l,P l->P (.C5 g l)) (hb:∀ l,P l->P (.bx l)) (hr:∀ g l,P l->P (.rc g l)):∀ u,P u:=by
 intro u
 induction u with
 | cons a b iha ihb=>exact hc a b iha ihb
 | K4 l ih=>exact ht l ih
 | C5 f l ih=>exact hf f l ih
 | bx l ih=>exact hb l ih
 | rc f l ih=>exact hr f l ih
 | ptr j p=>exact ha _ rfl
 | at_ j p=>exact ha _ rfl
 | sub j p a b=>exact ha _ rfl
 | _=>exact hp _ rfl
section
variable {T T':List Nat} {f g:AV->AV}
theorem Trim.id (T:List Nat):Trim T (λ u=>u):=⟨λ _ _=>rfl,λ _=>rfl,λ _ _=>rfl,λ _=>rfl,λ _ _=>rfl,λ _ _=>.inl rfl,λ _ _ _=>rfl,λ _ _=>rfl⟩
theorem Trim.map {g:AV->AV} (h1:∀ u,u.ref=true->g u=u\/g u=.any) (h2:∀ u,u.ref=true->(∀ i∈T,u.j5 i=false)->g u=u):Trim T (AV.map g):=by
 have e:∀ u:AV,u.ref=true->u.map g=g u:=by intro u hu; cases u<;>simp only [AV.ref] at hu<;>first|rfl|cases hu
 exact ⟨λ _ _=>rfl,λ _=>rfl,λ _ _=>rfl,λ _=>rfl,λ _ _=>rfl,λ u hu=>by rw [e u hu]; exact h1 u hu,λ u hu hm=>by rw [e u hu]; exact h2 u hu hm,λ u hu=>by cases u<;>simp only [AV.plain] at hu<;>first|rfl|cases hu⟩
theorem Trim.comp (hf:Trim T f) (hg:Trim T' g) {U:List Nat} (h1:∀ i∈T,i∈U) (h2:∀ i∈T',i∈U):Trim U (λ u=>g (f u)):=by
 refine ⟨λ a b=>by rw [hf.cons,hg.cons],λ l=>by rw [hf.K4,hg.K4],λ k l=>by rw [hf.C5,hg.C5],λ l=>by rw [hf.bx,hg.bx],λ k l=>by rw [hf.rc,hg.rc],?_,?_,λ u hu=>by rw [hf.plain u hu,hg.plain u hu]⟩
 ·intro u hu
  rcases hf.atom u hu with h|h
  ·rw [h]; exact hg.atom u hu
  ·rw [h]; exact .inr (hg.plain _ rfl)
 ·intro u hu hm
  rw [hf.xy u hu (λ i hi=>hm i (h1 i hi)),hg.xy u hu (λ i hi=>hm i (h2 i hi))]
theorem Trim.mono (hf:Trim T f) (h:∀ i∈T,i∈T'):Trim T' f:=⟨hf.cons,hf.K4,hf.C5,hf.bx,hf.rc,hf.atom,λ u hu hm=>hf.xy u hu (λ i hi=>hm i (h i hi)),hf.plain⟩
theorem Trim.fix (hf:Trim T f):∀ u,(∀ i∈T,u.j5 i=false)->f u=u:=by
 refine AV.shape _ (λ u hu _=>hf.plain u hu) (λ u hu hm=>hf.xy u hu hm) ?_ ?_ ?_ ?_ ?_
 ·intro a b ha hb hm
  simp only [AV.j5,Bool.or_eq_false_iff] at hm;rw [hf.cons,ha (λ i hi=>(hm i hi).1),hb (λ i hi=>(hm i hi).2)]
 ·intro l hl hm; rw [hf.K4,hl hm]
 ·intro k l hl hm; rw [hf.C5,hl hm]
 ·intro l hl hm; rw [hf.bx,hl hm]
 ·intro k l hl hm; rw [hf.rc,hl hm]
theorem Trim.j5 (hf:Trim T f) {i:Nat}:∀ u,(f u).j5 i=true->u.j5 i=true:=by
 refine AV.shape _ (λ u hu h=>by rw [hf.plain u hu] at h; exact h) (λ u hu h=>?_) ?_ ?_ ?_ ?_ ?_
 ·rcases hf.atom u hu with e|e
  ·rw [e] at h; exact h
  ·rw [e] at h; cases h
 ·intro a b ha hb h
  rw [hf.cons] at h;simp only [AV.j5,Bool.or_eq_true] at h ⊢;exact h.imp ha hb
 ·intro l hl h; rw [hf.K4] at h; exact hl h
 ·intro k l hl h; rw [hf.C5] at h; exact hl h
 ·intro l hl h; rw [hf.bx] at h; exact hl h
 ·intro k l hl h; rw [hf.rc] at h; exact hl h
theorem Trim.comm (hf:Trim T f) (hg:Trim T' g):∀ u,f (g u)=g (f u):=by
 refine AV.shape _ (λ u hu=>by rw [hf.plain u hu,hg.plain u hu,hf.plain u hu]) (λ u hu=>?_) ?_ ?_ ?_ ?_ ?_
 ·have ha:f .any=.any:=hf.plain _ rfl
  have hb:g .any=.any:=hg.plain _ rfl;rcases hf.atom u hu with e|e<;>rcases hg.atom u hu with e'|e'<;>simp only [e,e',ha,hb]
 ·intro a b ha hb; rw [hg.cons,hf.cons,hf.cons,hg.cons,ha,hb]
 ·intro l hl; rw [hg.K4,hf.K4,hf.K4,hg.K4,hl]
 ·intro k l hl; rw [hg.C5,hf.C5,hf.C5,hg.C5,hl]
 ·intro l hl; rw [hg.bx,hf.bx,hf.bx,hg.bx,hl]
 ·intro k l hl; rw [hg.rc,hf.rc,hf.rc,hg.rc,hl]
theorem Trim.drop (i:Nat):Trim [i] (AV.drop i):=by
 refine Trim.map (λ u _=>?_) (λ u _ hm=>?_)
 ·cases hm:u.j5 i with
  | true=>exact .inr (by simp only)
  | false=>exact .inl (by simp only)
 ·simp only [hm i (by simp)]
theorem Trim.kill (i:Nat) (ow:Bool×Ty) (q:List Step):Trim [i] (AV.kill i ow q):=by
 refine Trim.map (λ u hu=>?_) (λ u _ hm=>?_)
 ·unfold AV.Bj
  split
  ·exact .inl rfl
  ·split
   ·split<;>first|exact .inl rfl|exact .inr rfl
   ·split
    ·exact .inl rfl
    ·split<;>first|exact .inl rfl|exact .inr rfl
   ·split<;>first|exact .inl rfl|exact .inr rfl
   ·split<;>first|exact .inl rfl|exact .inr rfl
   ·exact .inr rfl
 ·unfold AV.Bj; rw [hm i (by simp)]
theorem Trim.Z5 (i:Nat) (ow:Bool):Trim [i] (AV.map (AV.xK i ow)):=by
 refine Trim.map (λ u hu=>?_) (λ u _ hm=>?_)
 ·unfold AV.xK
  split
  ·exact .inl rfl
  ·split
   ·split<;>first|exact .inl rfl|exact .inr rfl
   ·split<;>first|exact .inl rfl|exact .inr rfl
   ·split<;>first|exact .inl rfl|exact .inr rfl
   ·exact .inr rfl
 ·unfold AV.xK; rw [hm i (by simp)]
def xI:List Nat->AV->AV
 | [],u=>u
 | i::g,u=>xI g (u.drop i)
theorem Trim.w9:∀ g:List Nat,Trim g (xI g)
 | []=>Trim.id []
 | i::g=>Trim.comp (Trim.drop i) (Trim.w9 g) (by simp) (λ j hj=>List.mem_cons_of_mem _ hj)
end
structure MF (s s1:St) (T ids:List Nat) (f:AV->AV) (h:Nat->Option i7):Prop where
 fr:∀ n,look n s1.fr=(look n s.fr).map f
 hp:∀ i,look i s1.hp=if i∈T\/i∈ids then h i else look i s.hp
def T4 (s:St) (ids:List Nat):Prop:=∀ n∈ids,look n s.hp=none/\∀ m v,look m s.fr=some v->v.j5 n=false
theorem CB:∀ {g:List Nat} {s:St} {n:Nat},look n (St.w9 g s).fr=(look n s.fr).map (xI g)
 | [],s,n=>by simp [St.w9,xI]
 | i::g,s,n=>by
  simp only [St.w9];rw [CB (g:=g) (s:=s.drop i)];simp only [St.drop,O6,Option.map_map];rfl
theorem QB {f:AV->AV} {q:Nat×AV}:∀ {l:List (Nat×AV)},q∈mapA f l->∃ r∈l,r.1=q.1
 | (n,x)::l,h=>by
  rcases List.mem_cons.1 h with rfl|h
  ·exact ⟨_,List.mem_cons_self ..,rfl⟩
  ·obtain ⟨r,hr,e⟩:=QB h; exact ⟨r,by simp [hr],e⟩
theorem CD {f:AV->AV}:∀ {l:List (Nat×AV)},uniq l->uniq (mapA f l)
 | [],_=>trivial
 | (n,x)::l,⟨h1,h2⟩=>⟨λ q hq=>by obtain ⟨r,hr,e⟩:=QB hq; rw [<- e]; exact h1 r hr,CD h2⟩
theorem CM:∀ {g:List Nat} {s:St},uniq s.fr->uniq (St.w9 g s).fr
 | [],_,h=>h
 | i::g,s,h=>CM (g:=g) (s:=s.drop i) (CD h)
def Y8 (s t:St) (xs:List Operand):Prop:=∀ x∈xs,t.ev x=s.ev x/\∀ i,(s.ev x).j5 i=true->t.obj i=s.obj i
theorem Y8.refl (s:St) (xs:List Operand):Y8 s s xs:=λ _ _=>⟨rfl,λ _ _=>rfl⟩
def OR.wZ (t:St):OR->OR
 | .fail w=>.fail w
 | .ok v _=>.ok v t
 | .F5 p v _=>.F5 p v t
def OR.av:OR->AV
 | .ok v _=>v
 | .F5 _ v _=>v
 | .fail _=>.any
section
variable {E:Env} {s t:St}
theorem Pv (k:IntKind) (r:Int):arith k r t=(arith k r s).wZ t:=by unfold arith; split<;>rfl
theorem Xb (op:BinOp) (k k':IntKind) (a b:Int):xC op k a k' b t=(xC op k a k' b s).wZ t:=by
 unfold xC
 split
 ·rfl
 ·rfl
 ·split
  ·split<;>first|rfl|exact Pv _ _
  ·rfl
theorem Xd (W:Bool) (op:BinOp) (k k':IntKind) (a b:Int):xD W op k a k' b t=(xD W op k a k' b s).wZ t:=by
 unfold xD
 split
 ·split<;>rfl
 ·exact Xb ..
theorem Xc (op:BinOp) (a b:yY):yJ op a b t=(yJ op a b s).wZ t:=by unfold yJ; split<;>rfl
theorem WZ (T:TypeId) (op:BinOp) (x y:AV):ya E T op x y t=(ya E T op x y s).wZ t:=by
 unfold ya
 split
 ·exact Xd ..
 ·split<;>rfl
 ·exact Xc ..
 ·rfl
theorem Nq (T:TypeId) (op:BinOp) (a:Ty) (x:a.den) (u:Ty) (y:u.den):eqA E T op a x u y t=(eqA E T op a x u y s).wZ t:=by
 unfold eqA
 split
 ·split<;>rfl
 ·rfl
theorem Xa (T:TypeId) (op:BinOp) (x y:AV):wH E T op x y t=(wH E T op x y s).wZ t:=by
 unfold wH
 split
 ·unfold zF; split<;>rfl
 ·exact Nq ..
 ·exact Nq ..
 ·exact WZ ..
theorem Vy (op:UnOp) (x:AV):unA op x t=(unA op x s).wZ t:=by
 unfold unA
 repeat' (first|rfl|exact Pv _ _|split)
theorem Ah:∀ {xs:List Operand},(∀ x∈xs,t.ev x=s.ev x)->t.J7 xs=s.J7 xs
 | [],_=>rfl
 | x::xs,h=>by simp only [St.J7,h x (by simp),Ah (xs:=xs) (λ y hy=>h y (by simp [hy]))]
theorem xq {i:Nat}:∀ {xs:List Operand},(s.J7 xs).j5 i=true->∃ x∈xs,(s.ev x).j5 i=true
 | [],h=>by cases h
 | x::xs,h=>by
  simp only [St.J7,AV.j5,Bool.or_eq_true] at h;rcases h with h|h
  ·exact ⟨x,by simp,h⟩
  ·obtain ⟨y,hy,h⟩:=xq h; exact ⟨y,by simp [hy],h⟩
theorem JK {i:Nat} {x:Operand}:∀ {xs:List Operand},x∈xs->(s.ev x).j5 i=true->(s.J7 xs).j5 i=true
 | y::xs,hx,h=>by
  simp only [St.J7,AV.j5,Bool.or_eq_true];rcases List.mem_cons.1 hx with rfl|hx
  ·exact .inl h
  ·exact .inr (JK hx h)
theorem EC {i:Nat}:∀ {a b:AV},(a.app b).j5 i=true->a.j5 i=true\/b.j5 i=true:=by
 intro a
 induction a with
 | cons x l _ ih =>
  intro b h;simp only [AV.app,AV.j5,Bool.or_eq_true] at h ⊢;rcases h with h|h
  ·exact .inl (.inl h)
  ·rcases ih h with h|h
   ·exact .inl (.inr h)
   ·exact .inr h
 | _=>intro b h; exact .inr h
def Alike (s t:St) (v:AV):Prop:=∀ i,v.j5 i=true->t.obj i=s.obj i
theorem J4 {i:Nat} {p:List Step} (h:t.obj i=s.obj i):t.part i p=s.part i p:=by simp only [St.part,h]
theorem Eg {i:Nat} {p:List Step} {a b:Int} (h:t.obj i=s.obj i):t.view i p a b=s.view i p a b:=by simp only [St.view,J4 h]
theorem IB {u:Ty} {i:Nat} {p:List Step} (h:t.obj i=s.obj i):t.vC u i p=s.vC u i p:=by simp only [St.vC,J4 h]
theorem UW {u:Ty} {v:AV} (h:Alike s t v):v.asV t u=v.asV s u:=by
 cases v<;>first|rfl|exact IB (h _ (by simp [AV.j5]))|(simp only [AV.asV]; rw [Eg (h _ (by simp [AV.j5]))])
theorem MN {u:Ty} {v:AV} (h:Alike s t v):v.asR t u=v.asR s u:=by
 unfold AV.asR
 split
 ·exact IB (h _ (by simp [AV.j5]))
 ·rfl
 ·rename_i i p
  have e:∀ u,t.vC u i p=s.vC u i p:=λ u=>IB (h i (show AV.j5 i (AV.bx (.ptr i p))=true by simp [AV.j5]));simp only [e]
 ·rfl
theorem Oy:∀ {ts:List Ty} {v:AV},Alike s t v->AV.a70 t ts v=AV.a70 s ts v
 | [],v,_=>by cases v<;>rfl
 | u::ts,v,h=>by
  cases v<;>try rfl
  rename_i a b;simp only [AV.a70,MN (v:=a) (λ i hi=>h i (by simp [AV.j5,hi])),Oy (v:=b) (λ i hi=>h i (by simp [AV.j5,hi]))]
theorem Er {v:AV} (h:Alike s t v):v.vj t=v.vj s:=by
 cases v<;>try rfl
 ·rename_i i p; cases p<;>simp only [AV.vj,h i (by simp [AV.j5])]
 ·rename_i i p a b; cases p<;>simp only [AV.vj,h i (by simp [AV.j5])]
theorem Ic {v:AV} (h:Alike s t v):v.els t=v.els s:=by
 unfold AV.els
 split
 ·rfl
 ·rename_i i p; simp only [J4 (h i (by simp [AV.j5]))]
 ·rename_i i p a b; simp only [Eg (h i (by simp [AV.j5]))]
 ·rfl
theorem EK {v:AV} {r:Sigma Ty.den} {g:List Nat} (h:v.vj s=some (r,g)):∀ i∈g,v.j5 i=true:=by
 unfold AV.vj at h;split at h
 ·cases h; simp
 ·split at h
  ·cases h; simp [AV.j5]
  ·cases h
 ·split at h
  ·cases h; simp [AV.j5]
  ·cases h
 ·cases h
theorem zu {v:AV} (h:Alike s t v):v.vE t=v.vE s:=by
 unfold AV.vE
 split
 ·rename_i i
  rw [h i (by simp [AV.j5]),Er h]
 ·rfl
 ·exact Er h
theorem Ff {v:AV} {r:Sigma Ty.den} {g:List Nat} (h:v.vE s=some (r,g)):∀ i∈g,v.j5 i=true:=by
 unfold AV.vE at h;split at h
 ·split at h
  ·cases h; simp [AV.j5]
  ·exact EK h
 ·cases h; simp
 ·exact EK h
theorem IS {u:Ty} {v:AV} (h:Alike s t v):v.vo t u=v.vo s u:=by
 unfold AV.vo
 split
 ·rfl
 ·rfl
 ·simp only [Ic h,Er h]
theorem RB {u:Ty} {v:AV} {r:Sigma λ t:Ty=>List t.den} {g:List Nat} (h:v.vo s u=some (r,g)):∀ i∈g,v.j5 i=true:=by
 unfold AV.vo at h;split at h
 ·cases h; simp
 ·cases h; simp
 ·split at h
  ·cases h
  ·split at h
   ·cases h; simp
   ·split at h
    ·rename_i hg; cases h; exact EK hg
    ·cases h
theorem HL {d:Int} {x:Option Operand} (h:∀ y,x=some y->t.ev y=s.ev y):bnd t d x=bnd s d x:=by
 cases x with
 | none=>rfl
 | some y=>simp only [bnd,h y rfl]
theorem UU {k:PK} {v:AV} (h:Alike s t v):v.Q5 t k=v.Q5 s k:=by
 cases k with
 | v u=>simp only [AV.Q5,UW h]
 | rd u=>simp only [AV.Q5,MN h]
 | V7=>cases v<;>rfl
 | rcs f n=>rfl
 | el q=>rfl
 | C5 f ts =>
  cases v<;>try rfl
  simp only [AV.Q5]; rw [Oy (λ i hi=>h i (by simpa [AV.j5] using hi))]
 | own u =>
  have hg:=zu h;unfold AV.Q5;dsimp only
  split
  ·rfl
  ·rw [hg]
 | rw u =>
  cases v<;>try rfl
  rename_i i p; cases p<;>simp only [AV.Q5,h i (by simp [AV.j5])]
 | mu u =>
  cases v<;>try rfl
  rename_i i p; cases p<;>simp only [AV.Q5,h i (by simp [AV.j5])]
theorem Ox:∀ {ks:List PK} {v:AV},Alike s t v->AV.vl t ks v=AV.vl s ks v
 | [],v,_=>by cases v<;>rfl
 | k::ks,v,h=>by
  cases v<;>try rfl
  rename_i a b;simp only [AV.vl,UU (v:=a) (λ i hi=>h i (by simp [AV.j5,hi])),Ox (v:=b) (λ i hi=>h i (by simp [AV.j5,hi]))]
theorem YD {k:PK} {v:AV} {x:k.den} {g m:List Nat} (h:v.Q5 s k=some (x,g,m)):(∀ i∈g++m,v.j5 i=true)/\(k.l5=false->g=[]/\m=[]):=by
 cases k with
 | v u=>simp only [AV.Q5] at h; split at h<;>cases h; simp
 | rd u=>simp only [AV.Q5] at h; split at h<;>cases h; simp
 | V7=>simp only [AV.Q5] at h; split at h<;>cases h; simp
 | rcs f n=>simp only [AV.Q5] at h; cases h
 | el q=>simp only [AV.Q5] at h; cases h
 | C5 f ts =>
  simp only [AV.Q5] at h;split at h
  ·split at h
   ·split at h<;>cases h; simp
   ·cases h
  ·cases h
 | own u =>
  refine ⟨?_,λ h=>by cases h⟩;simp only [AV.Q5] at h;split at h
  ·split at h<;>cases h; simp
  ·split at h
   ·rename_i hg
    split at h
    ·cases h
     intro i hi;exact Ff hg i (by simpa using hi)
    ·cases h
   ·cases h
 | rw u =>
  refine ⟨?_,λ h=>by cases h⟩;simp only [AV.Q5] at h;split at h
  ·split at h
   ·split at h
    ·cases h; simp [AV.j5]
    ·cases h
   ·cases h
  ·cases h
 | mu u =>
  refine ⟨?_,λ h=>by cases h⟩;simp only [AV.Q5] at h;split at h
  ·split at h
   ·split at h
    ·cases h; simp [AV.j5]
    ·cases h
   ·cases h
  ·cases h
theorem RD:∀ {ks:List PK} {v:AV} {x:DK ks} {g m:List Nat},AV.vl s ks v=some (x,g,m)->(∀ i∈g++m,v.j5 i=true)/\(ks.any PK.l5=false->g=[]/\m=[])
 | [],v,x,g,m,h=>by
  cases v<;>simp only [AV.vl] at h<;>cases h;simp
 | k::ks,v,x,g,m,h=>by
  cases v<;>simp only [AV.vl] at h<;>try (cases h; done)
  split at h
  ·rename_i h1 h2
   cases h;obtain ⟨a1,a2⟩:=YD h1;obtain ⟨b1,b2⟩:=RD h2;refine ⟨?_,?_⟩
   ·intro i hi
    simp only [List.mem_append] at hi a1 b1;simp only [AV.j5,Bool.or_eq_true];rcases hi with (hi|hi)|(hi|hi)
    ·exact .inl (a1 i (.inl hi))
    ·exact .inr (b1 i (.inl hi))
    ·exact .inl (a1 i (.inr hi))
    ·exact .inr (b1 i (.inr hi))
   ·intro ht
    simp only [List.any_cons,Bool.or_eq_false_iff] at ht;obtain ⟨r1,r2⟩:=a2 ht.1;obtain ⟨r3,r4⟩:=b2 ht.2;simp [r1,r2,r3,r4]
  ·cases h
theorem ET:∀ {parts:List (Nat×Operand)} {r:Sigma Ty.den},(∀ q∈parts,t.ev q.2=s.ev q.2/\Alike s t (s.ev q.2))->T3 t r parts=T3 s r parts
 | [],⟨_,_⟩,_=>rfl
 | (i,v)::parts,⟨u,x⟩,h=>by
  have ih:=λ r=>ET (parts:=parts) (r:=r) (λ q hq=>h q (by simp [hq]));obtain ⟨h1,h2⟩:=h (i,v) (by simp);have h1:t.ev v=s.ev v:=h1;have h2:=zu h2;have h2:(s.ev v).vE t=(s.ev v).vE s:=h2;simp only [T3,h1,ih]
  split
  ·rfl
  ·split
   ·rfl
   ·rw [h2]
theorem Fs:∀ {parts:List (Nat×Operand)} {r r':Sigma Ty.den} {g:List Nat},T3 s r parts=some (r',g)->∀ i∈g,∃ q∈parts,(s.ev q.2).j5 i=true
 | [],⟨_,_⟩,r',g,h=>by simp only [T3] at h; cases h; simp
 | (j,v)::parts,⟨u,x⟩,r',g,h=>by
  simp only [T3] at h;split at h
  ·cases h
  ·split at h
   ·split at h
    ·split at h
     ·intro i hi
      obtain ⟨q,hq,hm⟩:=Fs h i hi;exact ⟨q,by simp [hq],hm⟩
     ·cases h
    ·cases h
   ·split at h
    ·rename_i hg
     split at h
     ·split at h
      ·rename_i hb
       cases h;intro i hi;rcases List.mem_append.1 hi with hi|hi
       ·exact ⟨(j,v),by simp,Ff hg i hi⟩
       ·obtain ⟨q,hq,hm⟩:=Fs hb i hi
        exact ⟨q,by simp [hq],hm⟩
      ·cases h
     ·cases h
    ·cases h
end
end Go.Ex
