import Derived.Test.YtijlnmgondibnaaGreatDoorExK5
set_option linter.unusedVariables false
set_option linter.unusedSimpArgs false
set_option linter.unusedSectionVars false
namespace Go.Ex
section
variable {E:Env} {B:D4} {S:Nat->Prop} {ι:Ix} {s:St} {a:Act} {w:World}
def a7c (P:Program) (S:Nat->Prop) (ι:Ix) (o:Oper) (a:Act) (w:World) (s:St) (v:AV):Prop :=
 ∃ val,(∀ w',(execOp a.eval o).run P w'=.ok (.value val) w')/\VX w.heap S ι s.hp v [val]
def b0l (P:Program) (S:Nat->Prop) (ι:Ix) (o:Oper) (a:Act) (w:World) (s:St):OR->Prop
 | .fail _=>True
 | .ok v s'=>s'=s/\a7c P S ι o a w s v
 | .E5 p v s'=>p->s'=s/\a7c P S ι o a w s v
theorem a0H {P:Program} {o:Oper} {sem:Sem Value} (he:execOp a.eval o=(do pure (.value (<- sem)))) {v:AV} {val:Value} (hr:∀ w',sem.run P w'=.ok val w')
  (hv:VX w.heap S ι s.hp v [val]):s=s/\a7c P S ι o a w s v:=⟨rfl,val,λ w'=>by rw [he]; simp [hr w',Result.andThen],hv⟩
theorem b0V (hE:C2 E B) (h:RS B S ι s a w) {o:Oper} {T:TypeId} {x:Operand} {n:Nat} (ho:o.op=.fieldAddr T x n):b0l E.P S ι o a w s (n7 E o s):=by
 have he:execOp a.eval o=(do pure (.value (<- Instr.fieldAt T (a.eval x) n))):=by simp [execOp,ho]
 unfold n7;rw [ho];simp only
 split
 ·rename_i i p hx
  split
  ·rename_i u z cM
   split
   ·rename_i r hc fF
    obtain ⟨e,b,off,h1,h2,h3,h4⟩:=x8 h hx;have hg:=G6 h1 cM;have h4:a.eval x=.pointer (some ⟨b,off,none⟩):=by simpa using h4
    obtain ⟨u2,z2⟩:=r;exact a0H he (λ _=>by rw [h4]; exact a0q (C1 hE hc) fF b off) ⟨e,b,off+N9 u n,h1,U4 hg h2 (a2B fF),a1S hg h3 (λ G=>a1u fF),rfl⟩
   ·trivial
  ·trivial
 ·rename_i t y hx
  split
  ·rename_i u z hc hg
   obtain ⟨b,off,e,h1,h2,h3⟩:=x8 h hx;have e:a.eval x=.pointer (some ⟨b,off,none⟩):=by simpa using e
   have aP:=a2B hg;obtain ⟨O1,O2,b',aq,e1,e2,e3,e4,e5,e6⟩:=focus h3 h2 aP hg
   have hO:O1=[]/\O2=[]:=by have:=e1.nil_eq; simpa using this.symm
   rw [a1u hg] at e3; cases e3;refine a0H he (λ _=>by rw [e]; exact a0q (C1 hE hc) hg b off) ⟨b,off+N9 t n,rfl,h1,e5,?_⟩;rw [hO.2] at e4; exact e4
  ·trivial
 ·rename_i t y hx
  split
  ·rename_i u z hc hg
   intro hy;obtain ⟨b,off,e,h1,h2,h3⟩:=a7u (x8 h hx) hy;have e:a.eval x=.pointer (some ⟨b,off,none⟩):=by simpa using e
   have aP:=a2B hg;obtain ⟨O1,O2,b',aq,e1,e2,e3,e4,e5,e6⟩:=focus h3 h2 aP hg
   have hO:O1=[]/\O2=[]:=by have:=e1.nil_eq; simpa using this.symm
   rw [a1u hg] at e3; cases e3;refine a0H he (λ _=>by rw [e]; exact a0q (C1 hE hc) hg b off) ⟨b,off+N9 t n,rfl,h1,e5,?_⟩;rw [hO.2] at e4; exact e4
  ·trivial
 ·trivial
theorem b0S (hE:C2 E B) (h:RS B S ι s a w) {o:Oper} {T:TypeId} {x y:Operand} (ho:o.op=.indexAddr T x y):b0l E.P S ι o a w s (n7 E o s):=by
 have he:execOp a.eval o=(do pure (.value (<- Instr.indexAt T (a.eval x) (a.eval y)))):=by simp [execOp,ho]
 unfold n7;rw [ho];simp only
 split
 ·rename_i d p k n hx hy
  split
  ·rename_i m u z cM
   split
   ·rename_i hc
    intro hn;obtain ⟨e,b,off,h1,h2,h3,h4⟩:=x8 h hx;have hg:=G6 h1 cM;have h4:a.eval x=.pointer (some ⟨b,off,none⟩):=by simpa using h4
    obtain ⟨de,_⟩:=VX.G0 (x8 h hy);exact a0H he (λ _=>by rw [h4,de]; exact a0x (C1 hE hc) b off hn) ⟨e,b,off+n.toNat*u.size,h1,U4 hg h2 ⟨hn,K9⟩,a1S hg h3 (λ G=>by simp only [w8,x6]),rfl⟩
   ·trivial
  ·trivial
 ·rename_i m t z k n hx hy
  split
  ·rename_i hc
   intro hn;obtain ⟨b,off,e,h1,h2,h3⟩:=x8 h hx;have e:a.eval x=.pointer (some ⟨b,off,none⟩):=by simpa using e
   obtain ⟨de,_⟩:=VX.G0 (x8 h hy);have aP:w5 (.arr m t) z [.idx n]:=⟨hn,by cases t<;>trivial⟩;have hg:j8 (.arr m t) z [.idx n]=some ⟨t,List.getD z (Int.toNat n) t.o8⟩:=by simp only [j8]
   obtain ⟨O1,O2,b',aq,e1,e2,e3,e4,e5,e6⟩:=focus h3 h2 aP hg
   have hO:O1=[]/\O2=[]:=by have:=e1.nil_eq; simpa using this.symm
   have e3':w8 w.heap (.arr m t) [.idx n] b off=some (b,off+Int.toNat n*t.size):=by simp only [w8]
   rw [e3'] at e3; cases e3;refine a0H he (λ _=>by rw [e,de]; exact a0x (C1 hE hc) b off hn) ⟨b,off+Int.toNat n*t.size,rfl,h1,e5,?_⟩;rw [hO.2] at e4; exact e4
  ·trivial
 ·rename_i t z k n hx hy
  split
  ·rename_i hc
   intro hn;obtain ⟨cs,e,hR⟩:=x8 h hx;have e:a.eval x=j9 (.d0 false t) cs:=by simpa using e
   obtain ⟨de,_⟩:=VX.G0 (x8 h hy);rcases hR with ⟨_,_,hz⟩|⟨b1,o1,cap,O',c1,c2,c3,c4,c5,c6,c7,c8⟩
   ·subst hz; exact (a9E hn).elim
   ·have eN:a.eval x=.slice (some ⟨b1,o1,none⟩) (List.length z) cap:=by rw [e,c1]; rfl
    obtain ⟨b1',b2,b3,b4⟩:=C4 (sz:=t.size) hn;obtain ⟨P1,P2,P3,e1,g1,g2,g3⟩:=i7.split (d:=t.o8) (i:=Int.toNat n) b1' c5;have hle:t.size<=List.length z*t.size - Int.toNat n*t.size:=by omega
    rw [n6,m0 _ _ _ _ hle] at g2;have hP:P2=[]:=by rw [c7] at e1; have:=List.append_eq_nil_iff.1 e1.symm; exact (List.append_eq_nil_iff.1 this.2).1
    refine a0H he (λ _=>by rw [eN,de]; exact S3 (C1 hE hc) b1 o1 _ cap hn) ⟨b1,o1+Int.toNat n*t.size,rfl,c8,by omega,?_⟩;rw [hP] at g2; exact g2
  ·trivial
 ·rename_i d p k n hx hy
  split
  ·rename_i u z cM
   split
   ·rename_i hc
    intro hn;obtain ⟨e,u',y',cs,h1,h2,h3,h4,h5⟩:=x8 h hx;have hg:=G6 h1 cM;rw [h3] at hg; cases hg;obtain ⟨de,_⟩:=VX.G0 (x8 h hy);have h5:a.eval x=j9 (.d0 true u) cs:=by simpa using h5
    obtain ⟨O2,m1,m2,m3⟩:=F1 h.hs h1 h2 h3 h4;rcases m3 with ⟨_,_,hz⟩|⟨b1,o1,cap,O',rfl,c2,c3,c4,c5,c6,c7⟩
    ·subst hz; exact (a9E hn).elim
    ·have eN:a.eval x=.slice (some ⟨b1,o1,none⟩) (List.length z) cap:=h5
     obtain ⟨b0,off0,q1,q2⟩:=h4;have hh:=(M6 b0 off0 _).1 q2.symm;refine a0H he (λ _=>by rw [eN,de]; exact S3 (C1 hE hc) b1 o1 _ cap hn) ⟨e,b1,o1+n.toNat*u.size,h1,U4 h3 h2 ⟨hn,K9⟩,Z7 (Z6 h3 q1 ?_) c7.free.lt,rfl⟩;simp only [w8,hh,x6]
   ·trivial
  ·trivial
 ·rename_i d p lo hi k n hx hy
  split
  ·rename_i u l dA
   split
   ·rename_i hc
    intro hn;have eP:@LE.le Int Int.instLEInt 0 n:=hn.1;have lC:@LT.lt Int Int.instLTInt n (hi - lo):=hn.2;obtain ⟨A,c,k1,k2,k3,k4,k5,e,k6,k7,k8⟩:=a7w h.hs (x8 h hx) dA;obtain ⟨de,_⟩:=VX.G0 (x8 h hy);have hz:l≠[]:=by rintro rfl; have k3:((0:Nat):Int)=hi - lo:=k3; omega
    obtain ⟨b,off,rfl,k9⟩:=k8 hz;obtain ⟨off2,q1,rfl,q3⟩:=k9 n hn.1 (by omega);exact a0H he (λ _=>by rw [k1,de]; exact S3 (C1 hE hc) b off _ c (by omega)) ⟨e,b,_,k6,q3,q1,rfl⟩
   ·trivial
  ·trivial
 ·trivial
theorem b2S (_hE:C2 E B) (h:RS B S ι s a w) {o:Oper} {x:Operand} (ho:o.op=.nilCheck x):b0l E.P S ι o a w s (n7 E o s):=by
 unfold n7; rw [ho];simp only
 split
 ·rename_i i p hx
  obtain ⟨e,b,off,h1,h2,h3,h4⟩:=x8 h hx;have h4:a.eval x=.pointer (some ⟨b,off,none⟩):=by simpa using h4
  exact ⟨rfl,.pointer (some ⟨b,off,none⟩),λ w'=>by simp only [execOp,ho,h4]; rfl,e,b,off,h1,h2,h3,rfl⟩
 ·rename_i t y hx
  obtain ⟨b,off,e,h1,h2,h3⟩:=x8 h hx;have e:a.eval x=.pointer (some ⟨b,off,none⟩):=by simpa using e
  exact ⟨rfl,.pointer (some ⟨b,off,none⟩),λ w'=>by simp only [execOp,ho,e]; rfl,b,off,rfl,h1,h2,h3⟩
 ·rename_i t y hx
  intro hy;obtain ⟨b,off,e,h1,h2,h3⟩:=a7u (x8 h hx) hy;have e:a.eval x=.pointer (some ⟨b,off,none⟩):=by simpa using e
  exact ⟨rfl,.pointer (some ⟨b,off,none⟩),λ w'=>by simp only [execOp,ho,e]; rfl,b,off,rfl,h1,h2,h3⟩
 ·rename_i f t y hx
  intro hy;have hv:=x8 h hx;obtain ⟨p,e,-⟩:=a8u hv hy;exact ⟨rfl,a.eval x,λ w'=>by simp only [execOp,ho,e]; rfl,hv⟩
 ·rename_i f l hx
  obtain ⟨us,e,h1⟩:=x8 h hx;have e:a.eval x=.func (.func f) #[] us.toArray:=by simpa using e
  exact ⟨rfl,.func (.func f) #[] us.toArray,λ w'=>by simp only [execOp,ho,e]; rfl,us,rfl,h1⟩
 ·rename_i g b hx
  intro hb;have hv:=b4l h hx;have hb:b=true:=hb;subst hb;exact ⟨rfl,.func (.func g) #[] #[],λ w'=>by simp only [execOp,ho,hv]; rfl,[fnV g true],rfl,rfl,rfl⟩
 ·trivial
theorem b2o (hE:C2 E B) (h:RS B S ι s a w) {o:Oper} (ho:a4J o.op=true):b0l E.P S ι o a w s (n7 E o s):=by
 unfold a4J at ho;split at ho
 ·rename_i e; exact b0V hE h e
 ·rename_i e; exact b0S hE h e
 ·rename_i e; exact b2S hE h e
 ·cases ho
end
section
variable {S:Nat->Prop} {H H':Array Go.Obj}
theorem sib {t:Ty} {O:List Nat} {b off:Nat} {x:t.den} (hR:f8 H S t O (d9 H b off t.size) x) (hb:off+t.size<=(s9 H b).length) (hc:d9 H' b off t.size=d9 H b off t.size) (hO:∀ c∈O,H'[c]?=H[c]?)
  {q:List Step} (ho:w5 t x q) {u:Ty} {y:u.den} (hg:j8 t x q=some ⟨u,y⟩) {b' aq:Nat} (hn:w8 H t q b off=some (b',aq)):w8 H' t q b off=some (b',aq)/\d9 H' b' aq u.size=d9 H b' aq u.size :=
 ⟨(a15 hR hb ho hc hO).trans hn,a3J hR hb ho hc hO hg hn⟩
theorem c50:∀ {t:Ty} {p:List Step} {b off:Nat} {O1:List Nat} {x:t.den},s8 H S t p b off O1 x->off+t.size<=(s9 H b).length->d9 H' b off t.size=d9 H b off t.size->(∀ c∈O1,H'[c]?=H[c]?) ->
  ∀ {u0:Ty} {y0:u0.den},j8 t x p=some ⟨u0,y0⟩->∀ {b0 off0:Nat},w8 H t p b off=some (b0,off0) ->
  (∀ {q:List Step},w5 u0 y0 q->∀ {u:Ty} {y:u.den},j8 u0 y0 q=some ⟨u,y⟩->∀ {b' aq:Nat},w8 H u0 q b0 off0=some (b',aq)->w8 H' u0 q b0 off0=some (b',aq)/\d9 H' b' aq u.size=d9 H b' aq u.size) ->
  ∀ {q:List Step},w5 t x q->∀ {u:Ty} {y:u.den},j8 t x q=some ⟨u,y⟩->∀ {b' aq:Nat},w8 H t q b off=some (b',aq)->w8 H' t q b off=some (b',aq)/\d9 H' b' aq u.size=d9 H b' aq u.size:=by
 intro t;have here:∀ {t:Ty} {x:t.den} {b off:Nat},d9 H' b off t.size=d9 H b off t.size->∀ {u:Ty} {y:u.den},j8 t x []=some ⟨u,y⟩->∀ {b' aq:Nat},w8 H t [] b off=some (b',aq)->w8 H' t [] b off=some (b',aq)/\d9 H' b' aq u.size=d9 H b' aq u.size:=by
  intro t x b off hc u y hg b' aq hn;rw [x7] at hg; cases hg;rw [x6] at hn; cases hn;exact ⟨x6 ..,hc⟩
 induction t with
 | pair a c iha ihc =>
  intro p b off O1 x hR hb hc hO u0 y0 dy b0 off0 cG hP q ho u y hg b' aq hn
  match p,hR,dy,cG with
  | [],_,dy,cG =>
   rw [x7] at dy; cases dy;rw [x6] at cG; cases cG;exact hP ho hg hn
  | .l7 0::p,⟨P1,P2,e,h1,h2⟩,dy,cG =>
   subst e;simp only [Ty.size] at hb hc
   match q,ho,hg,hn with
   | [],_,hg,hn=>exact here hc hg hn
   | .l7 0::q,ho,hg,hn=>exact iha h1 (by omega) (X1 hc (by omega) (by omega)) (λ c hc=>hO c (by simp [hc])) dy cG hP ho hg hn
   | .l7 (m+1)::q,ho,hg,hn=>exact sib h2 (by omega) (X1 hc (by omega) (by omega)) (λ c hc=>hO c (by simp [hc])) (q:=.l7 m::q) ho hg hn
   | .idx i::q,ho,_,_=>simp [w5] at ho
  | .l7 (n+1)::p,⟨P1,P2,e,h1,h2⟩,dy,cG =>
   subst e;simp only [Ty.size] at hb hc
   match q,ho,hg,hn with
   | [],_,hg,hn=>exact here hc hg hn
   | .l7 0::q,ho,hg,hn=>exact sib h1 (by omega) (X1 hc (by omega) (by omega)) (λ c hc=>hO c (by simp [hc])) (q:=q) ho hg hn
   | .l7 (m+1)::q,ho,hg,hn=>exact ihc h2 (by omega) (X1 hc (by omega) (by omega)) (λ c hc=>hO c (by simp [hc])) dy cG hP (q:=.l7 m::q) ho hg hn
   | .idx i::q,ho,_,_=>simp [w5] at ho
  | .idx i::p,hR,_,_=>simp [s8] at hR
 | arr n t ih =>
  intro p b off O1 x hR hb hc hO u0 y0 dy b0 off0 cG hP q ho u y hg b' aq hn
  match p,hR,dy,cG with
  | [],_,dy,cG =>
   rw [x7] at dy; cases dy;rw [x6] at cG; cases cG;exact hP ho hg hn
  | .l7 i::p,hR,_,_=>simp [s8] at hR
  | .idx i::p,⟨hl,hi,P1,P2,P3,e,h1,h2,h3⟩,dy,cG =>
   subst e;obtain ⟨b1,b2,b3,b4⟩:=C4 (sz:=t.size) hi;simp only [Ty.size] at hb hc
   match q,ho,hg,hn with
   | [],_,hg,hn=>exact here hc hg hn
   | .l7 j::q,ho,_,_=>simp [w5] at ho
   | .idx j::q,⟨hj,ho⟩,hg,hn =>
    obtain ⟨d1,d2,d3,d4⟩:=C4 (sz:=t.size) hj;simp only [w8] at hn ⊢;simp only [j8] at hg;have fO:d9 H' b (off+j.toNat*t.size) t.size=d9 H b (off+j.toNat*t.size) t.size:=X1 hc (by omega) (by omega);by_cases cd:i.toNat=j.toNat
    ·rw [<- cd] at ho hg hn fO ⊢
     exact ih h2 (by omega) fO (λ c hc=>hO c (by simp [hc])) dy cG hP ho hg hn
    ·rcases Nat.lt_or_gt_of_ne cd with bo|eH
     ·have hd:j.toNat - (i.toNat+1)<(List.drop (i.toNat+1) x).length:=by simp only [List.length_drop]; omega
      obtain ⟨Q1,Q2,Q3,e,k1,k2,k3⟩:=i7.split (d:=t.o8) hd h3;have e1:(i.toNat+1)*t.size+(j.toNat - (i.toNat+1))*t.size=j.toNat*t.size:=by rw [<- Nat.add_mul]; congr 1; omega
      have hm:(j.toNat - (i.toNat+1))*t.size+t.size<=(n - (i.toNat+1))*t.size:=by omega
      rw [n6,m0 _ _ _ _ (by omega),Nat.add_assoc,e1] at k2;have e2:(List.drop (i.toNat+1) x).getD (j.toNat - (i.toNat+1)) t.o8=List.getD x j.toNat t.o8:=by
       simp only [List.getD_eq_getElem?_getD,List.getElem?_drop];rw [show i.toNat+1+(j.toNat - (i.toNat+1))=j.toNat from by omega]
      rw [e2] at k2;exact sib k2 (by omega) fO (λ d hd=>hO d (by rw [e]; simp [hd])) ho hg hn
     ·have hd:j.toNat<(List.take i.toNat x).length:=by simp only [List.length_take]; omega
      obtain ⟨Q1,Q2,Q3,e,k1,k2,k3⟩:=i7.split (d:=t.o8) hd h1;have hm:j.toNat*t.size+t.size<=i.toNat*t.size:=by
       rw [<- Nat.succ_mul]; exact Nat.mul_le_mul_right _ (by omega)
      rw [n6,m0 _ _ _ _ (by omega)] at k2;have e2:(List.take i.toNat x).getD j.toNat t.o8=List.getD x j.toNat t.o8:=by
       simp only [List.getD_eq_getElem?_getD,List.getElem?_take];rw [if_pos (by omega)]
      rw [e2] at k2;exact sib k2 (by omega) fO (λ d hd=>hO d (by rw [e]; simp [hd])) ho hg hn
 | d0 o t ih =>
  intro p b off O1 x hR hb hc hO u0 y0 dy b0 off0 cG hP q ho u y hg b' aq hn
  match p,hR,dy,cG with
  | [],_,dy,cG =>
   rw [x7] at dy; cases dy;rw [x6] at cG; cases cG;exact hP ho hg hn
  | .l7 i::p,hR,_,_=>cases o<;>simp [s8] at hR
  | .idx i::p,hR,dy,cG =>
   cases o with
   | false=>simp [s8] at hR
   | true =>
    obtain ⟨hi,c1,o1,cap,P1,P2,P3,e,e1,e2,e3,e4,e5,e6,e7⟩:=hR;subst e;obtain ⟨b1,b2,b3,b4⟩:=C4 (sz:=t.size) hi;have cD:List.length x*t.size<=cap*t.size:=Nat.mul_le_mul_right _ e2;have oy:=e4.free.s9;simp only [Ty.size] at hb hc
    match q,ho,hg,hn with
    | [],_,hg,hn=>exact here (t:=.d0 true t) hc hg hn
    | .l7 j::q,ho,_,_=>simp [w5] at ho
    | .idx j::q,⟨hj,ho⟩,hg,hn =>
     obtain ⟨d1,d2,d3,d4⟩:=C4 (sz:=t.size) hj;have jT:(s9 H' b)[off]?=some (.slice (some ⟨c1,o1,none⟩) (List.length x) cap):=by
      rw [b4U hc (j:=off) (by omega) (by omega)]; exact e1
     simp only [w8,e1] at hn cG;simp only [w8,jT];simp only [j8] at hg;have fO:d9 H' c1 (o1+j.toNat*t.size) t.size=d9 H c1 (o1+j.toNat*t.size) t.size:=l4 (hO c1 (by simp)) _ _;by_cases cd:i.toNat=j.toNat
     ·rw [<- cd] at ho hg hn fO ⊢
      exact ih e6 (by omega) fO (λ c hc=>hO c (by simp [hc])) dy cG hP ho hg hn
     ·rcases Nat.lt_or_gt_of_ne cd with bo|eH
      ·have hd:j.toNat - (i.toNat+1)<(List.drop (i.toNat+1) x).length:=by simp only [List.length_drop]; omega
       obtain ⟨Q1,Q2,Q3,e,k1,k2,k3⟩:=i7.split (d:=t.o8) hd e7;have f1:(i.toNat+1)*t.size+(j.toNat - (i.toNat+1))*t.size=j.toNat*t.size:=by rw [<- Nat.add_mul]; congr 1; omega
       have hm:(j.toNat - (i.toNat+1))*t.size+t.size<=(List.length x - (i.toNat+1))*t.size:=by omega
       rw [n6,m0 _ _ _ _ (by omega),Nat.add_assoc,f1] at k2;have f2:(List.drop (i.toNat+1) x).getD (j.toNat - (i.toNat+1)) t.o8=List.getD x j.toNat t.o8:=by
        simp only [List.getD_eq_getElem?_getD,List.getElem?_drop];rw [show i.toNat+1+(j.toNat - (i.toNat+1))=j.toNat from by omega]
       rw [f2] at k2;exact sib k2 (by omega) fO (λ d hd=>hO d (by rw [e]; simp [hd])) ho hg hn
      ·have hd:j.toNat<(List.take i.toNat x).length:=by simp only [List.length_take]; omega
       obtain ⟨Q1,Q2,Q3,e,k1,k2,k3⟩:=i7.split (d:=t.o8) hd e5;have hm:j.toNat*t.size+t.size<=i.toNat*t.size:=by
        rw [<- Nat.succ_mul]; exact Nat.mul_le_mul_right _ (by omega)
       rw [n6,m0 _ _ _ _ (by omega)] at k2;have f2:(List.take i.toNat x).getD j.toNat t.o8=List.getD x j.toNat t.o8:=by
        simp only [List.getD_eq_getElem?_getD,List.getElem?_take];rw [if_pos (by omega)]
       rw [f2] at k2;exact sib k2 (by omega) fO (λ d hd=>hO d (by rw [e]; simp [hd])) ho hg hn
 | _ =>
  intro p b off O1 x hR hb hc hO u0 y0 dy b0 off0 cG hP q ho u y hg b' aq hn
  match p,hR,dy,cG with
  | [],_,dy,cG =>
   rw [x7] at dy; cases dy;rw [x6] at cG; cases cG;exact hP ho hg hn
  | .idx i::p,hR,_,_=>simp [s8] at hR
  | .l7 i::p,hR,_,_=>simp [s8] at hR
theorem b8E {t0:Ty} {l:List t0.den} {b off b1 o1 cap n:Nat} {Op:List Nat} (hR:f8 H S (.d0 true t0) Op (d9 H b off 1) l) (fI:∀ c∈Op,c<H.size) (aI:Op.Nodup) (hb:b<H.size) (bM:b∉Op)
  (hh:d9 H b off 1=[.slice (some ⟨b1,o1,none⟩) l.length cap]) (h1:1<=cap) (hc:T9 H H' b1 (o1+l.length*t0.size) n) :
  ∀ {q:List Step},w5 (.d0 true t0) l q->∀ {u:Ty} {y:u.den},j8 (.d0 true t0) l q=some ⟨u,y⟩->∀ {b' aq:Nat},w8 H (.d0 true t0) q b off=some (b',aq)->w8 H' (.d0 true t0) q b off=some (b',aq)/\d9 H' b' aq u.size=d9 H b' aq u.size:=by
 intro q ho u y hg b' aq hn;rcases hR with ⟨_,⟨A,c,e,dO⟩,_⟩|⟨b2,o2,cap2,O',c1,c2,c3,c4,c5,rfl,c7⟩
 ·rw [hh] at e
  simp only [List.cons.injEq,Value.slice.injEq,and_true] at e;have:=dO rfl; omega
 ·rw [hh] at c1
  simp only [List.cons.injEq,Value.slice.injEq,Option.some.injEq,Addr.mk.injEq,and_true] at c1;obtain ⟨⟨rfl,rfl⟩,-,rfl⟩:=c1;have bK:b≠b1:=λ e=>bM (by simp [e]);have cO:d9 H' b off 1=d9 H b off 1:=hc.cells hb (λ e=>absurd e bK)
  match q,ho,hg,hn with
  | [],_,hg,hn =>
   rw [x7] at hg; cases hg;rw [x6] at hn; cases hn;exact ⟨x6 ..,cO⟩
  | .l7 j::q,ho,_,_=>simp [w5] at ho
  | .idx j::q,⟨hj,ho⟩,hg,hn =>
   obtain ⟨d1,d2,d3,d4⟩:=C4 (sz:=t0.size) hj;have jT:=(M6 b off _).1 hh;have oj:=(M6 b off _).1 (cO.trans hh);simp only [w8,jT] at hn;simp only [w8,oj];simp only [j8] at hg;obtain ⟨P1,P2,P3,e,g1,g2,g3⟩:=i7.split (d:=t0.o8) d1 c5;subst e;rw [n6,m0 _ _ _ _ (by omega)] at g2;have cD:=c7.free.s9;have dC:List.length l*t0.size<=cap*t0.size:=Nat.mul_le_mul_right _ c2;refine sib g2 (by omega) (hc.cells (fI b1 (by simp)) (λ _=>.inl (by omega))) (λ d hd=>hc.rest d ?_ (fI d (by simp [hd]))) ho hg hn;rintro rfl;exact (List.nodup_cons.1 aI).1 (by simp [hd])
end
section
variable {E:Env} {B:D4} {S:Nat->Prop} {ι:Ix} {s:St} {a:Act} {w:World}
theorem RS.spare (h:RS B S ι s a w) {i:Nat} {e:g8} (he:look i s.hp=some e) (_hnb:e≠.J0) {w':World} (k:y9 (l6 ι i e) w w') (aX:OB w'.heap S ι i e) (bn:w'.heap.size=w.heap.size)
  (iF:∀ {q:List Step},w5 e.ty e.x q->∀ {u:Ty} {y:u.den},j8 e.ty e.x q=some ⟨u,y⟩->∀ {b off:Nat},Place w.heap ι i e q=some (b,off)->Place w'.heap ι i e q=some (b,off)/\d9 (VH w'.heap ι i e) b off u.size=d9 (VH w.heap ι i e) b off u.size) :
  RS B S ι s a w':=by
 have hold:∀ {b:Nat},((∃ j ej,j≠i/\look j s.hp=some ej/\b∈l6 ι j ej)\/S b)->w'.heap[b]?=w.heap[b]?:=by
  intro b hb;refine k.frame b (hb.elim (λ⟨j,ej,_,h1,h2⟩=>(h.hs.bl j ej h1 b h2).2.2) (h.hs.slt b)) (λ mN=>?_);rcases hb with ⟨j,ej,h0,h1,h2⟩|hb
  ·exact h.hs.dj i j e ej he h1 (Ne.symm h0) b mN h2
  ·exact (h.hs.bl i e he b mN).1 hb
 have ph:HS B S ι s.hp w':=by
  refine ⟨k.os.trans h.hs.os,k.tape.trans h.hs.tape,k.out.trans h.hs.out,by rw [bn]; exact h.hs.size,?_,λ b hb=>by rw [bn]; exact h.hs.slt b hb,h.hs.s0,h.hs.s1,?_,λ j ej hj c hc=>?_,h.hs.dj,h.hs.pin⟩
  ·intro c hc hm
   rw [k.frame c (Nat.lt_of_lt_of_le hc h.hs.size) (λ oN=>by rcases (h.hs.bl i e he c oN).2.1 with h1|h1; omega; exact hm h1)];exact h.hs.frame c hc hm
  ·intro j ej hj
   by_cases e1:j=i
   ·subst e1; rw [he] at hj; cases hj; exact aX
   ·exact (h.hs.ob j ej hj).r8 (λ b hb=>hold (hb.imp (λ hb=>⟨j,ej,e1,hj,hb⟩) id)) (λ _ h=>h)
  ·rw [bn]; exact h.hs.bl j ej hj c hc
 have iI:∀ {j:Nat} {ej:g8},look j s.hp=some ej->∀ {q:List Step},w5 ej.ty ej.x q->∀ {r:Nat×Nat},Loc w.heap ι j ej q=some r->Loc w'.heap ι j ej q=some r:=by
  intro j ej hj q aP r hl;by_cases e1:j=i
  ·subst e1; rw [he] at hj; cases hj
   obtain ⟨u,y,hg⟩:=b1R aP;obtain ⟨g1,g2⟩:=B0 (b:=r.1) (off:=r.2) hl;exact Z7 (iF aP hg g1).1 (by rw [bn]; exact g2)
  ·exact a5U (L7 hl) (h.hs.ob j ej hj) h.hs.slt (λ b hb=>hold (.inl ⟨j,ej,e1,hj,hb⟩)) aP hl
 have gS:∀ {j:Nat} {ej:g8},look j s.hp=some ej->∀ {q:List Step},w5 ej.ty ej.x q->∀ {u:Ty} {y:u.den},j8 ej.ty ej.x q=some ⟨u,y⟩->∀ {cs:List Value},Cells w.heap ι j ej q u cs->Cells w'.heap ι j ej q u cs:=by
  intro j ej hj q aP u y hg cs hc;by_cases e1:j=i
  ·subst e1; rw [he] at hj; cases hj
   obtain ⟨b0,o0,g1,g2⟩:=hc;obtain ⟨m1,m2⟩:=iF aP hg g1;exact ⟨b0,o0,m1,g2.trans m2.symm⟩
  ·exact a3S (a2M hc) (h.hs.ob j ej hj) h.hs.slt (λ b hb=>hold (.inl ⟨j,ej,e1,hj,hb⟩)) aP hg hc
 refine ⟨ph,h.dfr,h.sz,λ t v hv=>?_⟩;have:=VX.map (H':=w'.heap) (S':=S) (ι':=ι) (cn:=s.hp) (f:=λ u=>u) (λ b hb=>hold (.inr hb)) (λ _ h=>h) ?_ (h.fr t v hv)
 ·rwa [AV.map_id] at this
 ·intro u vs hu _ h
  cases u<;>simp only [AV.ref] at hu<;>try cases hu
  ·obtain ⟨e',b,off,h1,h2,h3,h4⟩:=h
   exact ⟨e',b,off,h1,h2,iI h1 h2 h3,h4⟩
  ·obtain ⟨e',u,y,cs,h1,h2,h3,h4,h5⟩:=h
   exact ⟨e',u,y,cs,h1,h2,h3,gS h1 h2 h3 h4,h5⟩
  ·obtain ⟨e',v',h1,h2,h3,h4,h5,h6⟩:=h
   refine ⟨e',v',h1,h2,h3,h4,h5,?_⟩;rcases h6 with ⟨t,l,a,cap,k1,k2,k3,k4⟩|⟨n,t,l,b,off,k1,k2,k3,k4⟩
   ·exact .inl ⟨t,l,a,cap,k1,k2,gS h1 h2 k1 k3,k4⟩
   ·exact .inr ⟨n,t,l,b,off,k1,k2,iI h1 h2 k3,k4⟩
def c0m (B:D4) (S:Nat->Prop) (ι:Ix) (hp:List (Nat×g8)) (g:List Nat) (i:Nat) (e:g8) (p:List Step) (t0:Ty) (l m:List t0.den) (b off:Nat) (v':Value) (w:World):Prop :=
 ∃ O',Loc w.heap ι i e p=some (b,off)/\f8 w.heap S (.d0 true t0) O' [v'] (l++m)/\O'.Nodup/\b∉O' /\
  ∀ c∈O',(¬ S c/\(B.w0.heap.size<=c\/B.M c)/\c<w.heap.size)/\(∀ j ej,j≠i->j∉g->look j hp=some ej->c∉l6 ι j ej) /\
   (c∈l6 ι i e->∃ Op,f8 w.heap S (.d0 true t0) Op (d9 w.heap b off 1) l/\c∈Op)
theorem b6V (hE:C2 E B) (h:RS B S ι s a w) {o:Oper} {c:Call} (ho:o.op=.call c) (hc:c.callee=.builtin .append) {x y:Operand} {T U:TypeId} (ha:c.args.toList=[x,y]) (eu:c.argTypes.toList=[T,U])
  (hk:(∃ e',E.P.underlying U=some (.slice e'))\/E.P.underlying U=some .string) {q:Bool} {t0:Ty} {bts:Nat} (hT:look T E.tt=some ⟨.d0 q t0,bts⟩) {i:Nat} {p:List Step} (hx:s.ev x=.at_ i p)
  {e:g8} (he:look i s.hp=some e) (jh:(∃ t x,e=.var t x)\/∃ t x j q,e=.own (.d0 true t) x/\p=.idx j::q) {l:List t0.den} (hg:j8 e.ty e.x p=some ⟨.d0 true t0,l⟩)
  {b off:Nat} (hl:Loc w.heap ι i e p=some (b,off)) {m:List t0.den} {g:List Nat} (cg:(s.ev y).a1j s t0=some (⟨t0,m⟩,g)) (ep:i∉g) (_hgn:g.Nodup)
  (iT:l.length+m.length<=140737488355328) (gz:(l.length+m.length)*t0.wb<=140737488355328) :
  ∃ v' w',(execOp a.eval o).run E.P w=.ok (.value v') w'/\RS B S ι s a w'/\w5 e.ty e.x p/\c0m B S ι s.hp g i e p t0 l m b off v' w':=by
 have cE:e≠.J0:=L7 hl;obtain ⟨Og,news,k1,k2,k3,k4⟩:=a5R (P:=E.P) h hk cg (h.ev y);obtain ⟨e2,u,y2,cs,r1,aP,r3,r4,r5⟩:=x8 h hx;rw [he] at r1; cases r1;rw [hg] at r3; cases r3;obtain ⟨Op,m1,mn,m2,m3,m4,m5⟩:=N7 cE (h.hs.ob i e he) h.hs.slt aP hg hl;have eK:=(h.hs.ob i e he).a0I cE h.hs.slt aP hg hl m2;obtain ⟨bW,cU⟩:=B0 hl;have hcs:cs=d9 w.heap b off 1:=by
  obtain ⟨b0,off0,q1,q2⟩:=r4;rw [bW] at q1; cases q1;rw [l4 (E9 cU)] at q2;exact q2
 have fR:d9 w.heap b off 1=[a.eval x]:=by
  have kL:(d9 w.heap b off 1).length=1:=m2.length;have r5':a.eval x=j9 (.d0 true t0) cs:=by simpa using r5
  rw [r5',hcs]
  match cI:d9 w.heap b off 1,kL with
  | [z],_=>rfl
 have m2':f8 w.heap S (.d0 true t0) Op [a.eval x] l:=by rw [<- fR]; exact m2
 have cF:n8 E.P 100 T (.d0 true t0)=true:=a4C (t:=.d0 q t0) (u:=.d0 true t0) rfl (q9 hE hT);have dd:∀ c∈Op,c∈l6 ι i e:=λ c hc=>F6 (m1 c hc);have aI:(Op++Og).Nodup:=List.nodup_append.2 ⟨mn,k3,by
  rintro c h1 c' h2 rfl;obtain ⟨j,e',j1,j2,j3⟩:=k4 c h2;exact h.hs.dj i j e e' he j2 (by rintro rfl; exact ep j1) c (dd c h1) j3⟩
 have kR:∀ c∈Og,¬ S c/\(B.w0.heap.size<=c\/B.M c)/\c<w.heap.size:=λ c hc=>by
  obtain ⟨j,e',_,j2,j3⟩:=k4 c hc;exact h.hs.bl j e' j2 c j3
 have kr:=λ c hc=>h.hs.bl i e he c (dd c hc);obtain ⟨v',w',O',q1,q2,q3,q4,q5,q6,q7⟩:=b0h cF o.type h.hs.slt m2' k1 k2 aI (λ c hc=>(List.mem_append.1 hc).elim (λ h=>⟨(kr c h).1,(kr c h).2.2⟩) (λ h=>⟨(kR c h).1,(kR c h).2.2⟩)) iT gz;have aF:c.args=#[x,y]:=by rw [<- ha]
 have dI:c.argTypes=#[T,U]:=by rw [<- eu]
 have aW:(execOp a.eval o).run E.P w=.ok (.value v') w':=by
  simp [execOp,ho,resolve,hc,invoke,builtin,aF,dI,q1]
 have fm:∀ c∈l6 ι i e,¬ S c/\c<w.heap.size:=λ c hc=>⟨(h.hs.bl i e he c hc).1,(h.hs.bl i e he c hc).2.2⟩;have bH:d9 w'.heap b off 1=[a.eval x]:=by rw [l4 (q4.frame b cU eK)]; exact fR
 obtain ⟨n2,n3⟩:=OB.same (H':=w'.heap) (h.hs.ob i e he) fm h.hs.slt jh aP hg hl q4.size m2 (λ c hc hn=>q4.frame c hc hn) (by
  show f8 w'.heap S (.d0 true t0) Op (d9 w'.heap b off 1) l;rw [bH]; exact q6)
 have rQ:RS B S ι s a w':=by
  rcases q7 with q7|⟨b1,o1,cap,n,f1,f2,f3,f4,f5⟩
  ·exact h.W5 C9.nil q7
  ·have dh:b1∈Op:=by
    rcases m2' with ⟨_,⟨A,c,e0,dO⟩,_⟩|⟨b2,o2,cap2,O2,c1,_,_,_,_,rfl,_⟩
    ·rw [f1] at e0
     simp only [List.cons.injEq,Value.slice.injEq,and_true] at e0;have:=dO rfl; omega
    ·rw [f1] at c1
     simp only [List.cons.injEq,Value.slice.injEq,Option.some.injEq,Addr.mk.injEq,and_true] at c1;rw [c1.1.1]; simp
   refine h.spare he cE (q4.mono dd) n2 f5 ?_;obtain ⟨O,hO,hR,dL,fD,nU,fT,dw⟩:=(h.hs.ob i e he).see cE h.hs.slt;obtain ⟨O1,O3,b',aq,g1,g2,g3,g4,g5,g6⟩:=focus hR dL aP hg
   have ln:=bW;rw [F9 cE,g3] at ln; cases ln;have g4':f8 w.heap S (.d0 true t0) O3 (d9 w.heap b off 1) l:=by
    have g4:f8 (VH w.heap ι i e) S (.d0 true t0) O3 (d9 (VH w.heap ι i e) b off 1) l:=g4;rw [l4 (E9 cU)] at g4;exact (Z5 (λ c hc=>(h.hs.ob i e he).Q0 cE (hO.mem_iff.1 (g1.mem_iff.2 (by simp [hc])))) h.hs.slt).1 g4
   obtain rfl:Op=O3:=m2.det g4';have cf:(O1++Op).Nodup:=(g1.nodup_iff).1 ((hO.nodup_iff).2 (List.nodup_cons.1 fD).2);have fQ:b1<w.heap.size:=(fm b1 (dd b1 dh)).2;have bD:b1≠(VR w.heap ι i e).1:=by
    rintro rfl;exact (List.nodup_cons.1 fD).1 (hO.mem_iff.1 (g1.mem_iff.2 (by simp [dh])))
   have oW:(VR w'.heap ι i e)=(VR w.heap ι i e):=by cases e<;>simp [VR,f5]
   have hV:∀ c,c≠b1->(VH w'.heap ι i e)[c]?=(VH w.heap ι i e)[c]?:=by
    intro c cO;have hr:∀ c,c≠b1->w'.heap[c]?=w.heap[c]?:=by
     intro c cO;rcases Nat.lt_or_ge c w.heap.size with h1|h1
     ·exact f4.rest c cO h1
     ·rw [Array.getElem?_eq_none h1,Array.getElem?_eq_none (by omega)]
    cases e with
    | own t x =>
     simp only [VH,gh];rw [Array.getElem?_push,Array.getElem?_push,f5]
     split
     ·rfl
     ·exact hr c cO
    | _=>exact hr c cO
   have rK:T9 (VH w.heap ι i e) (VH w'.heap ι i e) b1 (o1+l.length*t0.size) n:=by
    obtain ⟨arr,cP,T',⟨fz,⟨z1,z2⟩,z3⟩,z4,z5⟩:=f4.at_;exact ⟨⟨arr,cP,T',⟨fz,⟨(E9 fQ).trans z1,z2⟩,(E9 (by omega)).trans z3⟩,z4,z5⟩,λ c cO _=>hV c cO⟩
   intro q' gK u' y' jm b' o' cn;rw [F9 cE] at cn ⊢;rw [oW];have rF:b<(VH w.heap ι i e).size:=Nat.lt_of_lt_of_le cU a2q;refine c50 g2 dL (l4 (hV _ (Ne.symm bD)) _ _) (λ c hc=>hV c ?_) hg g3 ?_ gK jm cn
   ·rintro rfl
    exact (List.nodup_append.1 cf).2.2 c hc c dh rfl
   ·have rB:d9 (VH w.heap ι i e) b off 1=[.slice (some ⟨b1,o1,none⟩) l.length cap]:=by
     rw [l4 (E9 cU),fR,f1]
    intro q2 qC u2 y2 rk b2 off2 lC;exact b8E (H':=VH w'.heap ι i e) g4 (λ c hc=>Nat.lt_of_lt_of_le (fm c (dd c hc)).2 a2q) mn rF eK rB f3 rK qC rk lC
 refine ⟨v',w',aW,rQ,aP,O',n3,q2,q3,?_,?_⟩
 ·intro hb
  rcases (q5 b hb).1 with h1|h1
  ·omega
  ·rcases List.mem_append.1 h1 with h1|h1
   ·exact eK h1
   ·obtain ⟨j,e',j1,j2,j3⟩:=k4 b h1
    exact h.hs.dj i j e e' he j2 (by rintro rfl; exact ep j1) b m4 j3
 ·intro c hc
  obtain ⟨f1,f2⟩:=q5 c hc;have fact:(¬ S c/\(B.w0.heap.size<=c\/B.M c)/\c<w'.heap.size)/\(∀ j ej,j≠i->j∉g->look j s.hp=some ej->c∉l6 ι j ej)/\(c∈l6 ι i e->c∈Op):=by
   rcases f1 with f1|f1
   ·exact ⟨⟨λ hs=>by have:=h.hs.slt c hs; omega,.inl (Nat.le_trans h.hs.size f1),f2⟩,λ j ej _ _ hj cO=>by have:=(h.hs.bl j ej hj c cO).2.2; omega,λ cO=>by have:=(fm c cO).2; omega⟩
   ·rcases List.mem_append.1 f1 with f1|f1
    ·have:=kr c f1
     exact ⟨⟨this.1,this.2.1,f2⟩,λ j ej hj _ cZ=>h.hs.dj i j e ej he cZ (Ne.symm hj) c (dd c f1),λ _=>f1⟩
    ·have:=kR c f1
     obtain ⟨j0,e0,j1,j2,j3⟩:=k4 c f1;exact ⟨⟨this.1,this.2.1,f2⟩,λ j ej _ gN cZ=>h.hs.dj j0 j e0 ej j2 cZ (by rintro rfl; exact gN j1) c j3,λ cO=>absurd cO (h.hs.dj j0 i e0 e j2 he (by rintro rfl; exact ep j1) c j3)⟩
  exact ⟨fact.1,fact.2.1,λ cO=>⟨Op,by rw [bH]; exact q6,fact.2.2 cO⟩⟩
theorem a3W {e:g8} {p:List Step} {r:Sigma Ty.den} (h:a7x e p r=true):a7r e e/\((∃ t x,e=.var t x)\/∃ t x j q,e=.own (.d0 true t) x/\p=.idx j::q):=by
 unfold a7x at h;split at h
 ·exact ⟨.inl ⟨_,_,_,rfl,rfl⟩,.inl ⟨_,_,rfl⟩⟩
 ·split at h
  ·exact ⟨.inr (.inl ⟨_,_,_,rfl,rfl⟩),.inr ⟨_,_,_,_,rfl,rfl⟩⟩
  ·cases h
 ·cases h
theorem a0g {a:Act} {t d:Nat} {v:Value} (h:t≠d):(a.put (some d) v).eval (.tmp t)=a.eval (.tmp t):=by
 show (a.tmps.setIfInBounds d v).getD t undef=a.tmps.getD t undef;simp only [Array.getD_eq_getD_getElem?,Array.getElem?_setIfInBounds,if_neg (Ne.symm h)]
theorem b2m {a:Act} {d:Nat} {v:Value} (h:d<a.tmps.size):(a.put (some d) v).eval (.tmp d)=v:=by
 show (a.tmps.setIfInBounds d v).getD d undef=v;simp only [Array.getD_eq_getD_getElem?,Array.getElem?_setIfInBounds,if_pos h]; rfl
theorem b8P (hE:C2 E B) (h:RS B S ι s a w) {g:List Nat} (eA:(g.all λ i=>!pinned i)=true) {i:Nat} (ep:i∉g) {e:g8} (he:look i s.hp=some e) {p:List Step} (aP:w5 e.ty e.x p) {t0:Ty} {l m:List t0.den} (hg:j8 e.ty e.x p=some ⟨.d0 true t0,l⟩) {b off:Nat} {v':Value}
  (hP:c0m B S ι s.hp g i e p t0 l m b off v' w) {o:Oper} {T:TypeId} {ad:Operand} {d:Nat} (ho:o.op=.store T ad (.tmp d)) (kn:a.eval ad=.pointer (some ⟨b,off,none⟩)) (hv:a.eval (.tmp d)=v') (bE:I2 E T (.d0 true t0)=true)
  {r:Sigma Ty.den} (aO:s6 e.ty e.x p (.d0 true t0) (l++m)=some r):w4 E.P B o a w (.raw undef) (((St.u4 g s).kill i e.kd p).u5 i (e.D6 r)):=by
 obtain ⟨O',hl,k5,k6,k7,k8⟩:=hP;have hd:=h.u4 (g:=g) eA;have iJ:look i (St.u4 g s).hp=some e:=by rw [H8,if_neg ep]; exact he
 refine a1n hE hd ho (i:=i) (e:=e) iJ aP hl kn hg bE (u':=.d0 true _) (O2:=O') (cs:=[v']) k5 k6 (by rw [hv]; rfl) aO (λ c hc=>?_) k7;obtain ⟨f1,f2,f3⟩:=k8 c hc;refine ⟨f1,λ j ej hj cZ=>?_,f3⟩;rw [H8] at cZ;split at cZ
 ·cases cZ
 ·rename_i gN; exact f2 j ej hj gN cZ
theorem c2s (hE:C2 E B) (h:RS B S ι s a w) {o:Oper} {c:Call} (ho:o.op=.call c) (hc:c.callee=.builtin .append) {x y:Operand} {T U:TypeId} (ha:c.args.toList=[x,y]) (eu:c.argTypes.toList=[T,U])
  {o2:Oper} {T2:TypeId} {adv:AV} {ad:Operand} {d:Nat} (_ho2:o2.op=.store T2 ad (.tmp d)) {p:Prop} {s2:St} (hb:c0i E T U T2 (s.ev x) (s.ev y) adv d s=some (p,s2)) (hp:p) :
  ∃ i p0 e t0 l m g r v' w',s.ev x=.at_ i p0/\adv=.ptr i p0/\look i s.hp=some e/\i∉g/\(g.all λ i=>!pinned i)=true/\j8 e.ty e.x p0=some ⟨.d0 true t0,l⟩/\I2 E T2 (.d0 true t0)=true /\
   s6 e.ty e.x p0 (.d0 true t0) (l++m)=some r/\s2=(((St.u4 g (s.put (some d) .any)).kill i e.kd p0).u5 i (e.D6 r)) /\
   (execOp a.eval o).run E.P w=.ok (.value v') w'/\RS B S ι s a w'/\w5 e.ty e.x p0/\∀ b off,Loc w.heap ι i e p0=some (b,off)->c0m B S ι s.hp g i e p0 t0 l m b off v' w':=by
 unfold c0i at hb;split at hb
 ·rename_i i p0 j q q1 t0 bts u1 bts1 hx hT hU
  split at hb
  ·rename_i e aX mG
   simp only [Bool.and_eq_true] at mG;obtain ⟨cd,mG⟩:=mG;have cd:=Nat.eq_of_beq_eq_true cd;subst cd;split at hb
   ·rename_i u l hg
    split at hb
    ·rename_i t m g cg
     split at hb
     ·rename_i hu
      split at hb
      ·rename_i ht
       subst hu; subst ht;split at hb
       ·rename_i r aO
        split at hb
        ·rename_i bE
         cases hb;simp only [Bool.and_eq_true,Bool.not_eq_true'] at bE;obtain ⟨⟨⟨⟨bE,bN⟩,ep⟩,ig⟩,eA⟩:=bE;obtain ⟨rfl,iT,gz⟩:=hp;obtain ⟨_,jh⟩:=a3W bN;have ep:i∉g:=by intro hm; simp [hm] at ep
         have hk:(∃ e',E.P.underlying U=some (.slice e'))\/E.P.underlying U=some .string:=by
          cases u1<;>first|cases mG|skip
          ·exact .inr (S9 (q9 hE hU))
          ·obtain ⟨et,k',f1,_⟩:=E6 (q9 hE hU)
           exact .inl ⟨et,f1⟩
         have aX:look i s.hp=some e:=aX;have key:∀ b off,Loc w.heap ι i e q=some (b,off)->∃ v' w',(execOp a.eval o).run E.P w=.ok (.value v') w'/\RS B S ι s a w'/\w5 e.ty e.x q/\c0m B S ι s.hp g i e q _ l m b off v' w' :=
          λ b off hl=>b6V hE h ho hc ha eu hk hT hx aX jh hg hl cg ep (a2i ig) iT gz
         obtain ⟨e2,u,y2,cs,r1,aP,r3,r4,r5⟩:=x8 h hx;rw [aX] at r1; cases r1;obtain ⟨b,off,hl⟩:=a8K (h.hs.ob i e aX) h.hs.slt (a3W bN).2 aP hg;obtain ⟨v',w',k1,k2,k3,k4⟩:=key b off hl;exact ⟨i,q,e,_,l,m,g,r,v',w',hx,rfl,aX,ep,eA,hg,bE,aO,rfl,k1,k2,k3,λ b' aq eR=>by rw [hl] at eR; cases eR; exact k4⟩
        ·cases hb
       ·cases hb
      ·cases hb
     ·cases hb
    ·cases hb
   ·cases hb
  ·cases hb
 ·cases hb
theorem c0h (hE:C2 E B) (h:RS B S ι s a w) {o:Oper} {c:Call} (ho:o.op=.call c) (hc:c.callee=.builtin .append) {x y:Operand} {T U:TypeId} (ha:c.args.toList=[x,y]) (eu:c.argTypes.toList=[T,U])
  {o2:Oper} {T2:TypeId} {ad:Operand} {d:Nat} (hd:J5 B.n (some d)=true) (kI:o2.op=.store T2 ad (.tmp d)) (kn:∀ t,ad=.tmp t->t≠d) {p:Prop} {s2:St} (hb:c0i E T U T2 (s.ev x) (s.ev y) (s.ev ad) d s=some (p,s2)) (hp:p) :
  ∃ v' w',(execOp a.eval o).run E.P w=.ok (.value v') w'/\w4 E.P B o2 (a.put (some d) v') w' (.raw undef) s2:=by
 obtain ⟨i,p0,e,t0,l,m,g,r,v',w',hx,oU,aX,ep,eA,hg,bE,aO,rfl,k1,k2,k3,k4⟩:=c2s hE h ho hc ha eu kI hb hp;refine ⟨v',w',k1,?_⟩;obtain ⟨e',b,off,h1,h2,h3,h4⟩:=x8 h oU;rw [aX] at h1; cases h1;have jD:=k2.put hd (v:=.any) (val:=v') ⟨v',rfl⟩;have kl:(a.put (some d) v').eval ad=.pointer (some ⟨b,off,none⟩):=by
  have sn:a.eval ad=.pointer (some ⟨b,off,none⟩):=by simpa using h4
  rw [<- sn];cases ad with
  | tmp t=>exact a0g (kn t rfl)
  | _=>rfl
 have dV:(a.put (some d) v').eval (.tmp d)=v':=b2m (by rw [h.sz]; simpa [J5,Nat.blt_eq] using hd);exact b8P hE jD (g:=g) eA ep (e:=e) (by simpa [St.put] using aX) h2 hg (k4 b off h3) kI kl dV bE aO
theorem b41 {o:Oper} (ho:a4J o.op=true) {a a':Act} (h:∀ t∈a6w o,a'.eval (.tmp t)=a.eval (.tmp t)):execOp a'.eval o=execOp a.eval o:=by
 have cT:∀ x∈o.op.operands.toList,a'.eval x=a.eval x:=by
  intro x hx;cases x with
  | tmp t=>exact h t (List.mem_filterMap.2 ⟨.tmp t,hx,rfl⟩)
  | _=>rfl
 unfold a4J at ho;split at ho
 ·rename_i e; rw [e] at cT; simp [Op.operands] at cT; simp [execOp,e,cT]
 ·rename_i e; rw [e] at cT; simp [Op.operands] at cT; simp [execOp,e,cT]
 ·rename_i e; rw [e] at cT; simp [Op.operands] at cT; simp [execOp,e,cT]
 ·cases ho
theorem b2l {a:Act} {d e:Nat} {v u:Value} (h:d≠e):(a.put (some d) v).put (some e) u=(a.put (some e) u).put (some d) v:=by
 simp only [Act.put];congr 1;apply Array.ext_getElem?;intro i;simp only [Array.getElem?_setIfInBounds,Array.size_setIfInBounds];by_cases h1:e=i
 ·subst h1; simp [h]
 ·simp [h1]
theorem a6H (hE:C2 E B) (hn:B.n=E.nt) {ops:Array Oper} {Q:Exit->Act->World->Prop} {oa:Oper} {c:Call} (ho:oa.op=.call c) (hc:c.callee=.builtin .append) {x y:Operand} {T U:TypeId} (ha:c.args.toList=[x,y]) (eu:c.argTypes.toList=[T,U])
  {d:Nat} (hd:J5 B.n (some d)=true):∀ {l:List Oper} {S:Nat->Prop} {ι:Ix} {s:St} {a:Act} {w:World} {p:Prop} {s2:St} {n:Nat},RS B S ι s a w->a9U E T U x y d l s=some (p,s2,n)->p ->
  ∃ v' w',(execOp a.eval oa).run E.P w=.ok (.value v') w'/\((∀ S' ι' a' w'',RS B S' ι' s2 a' w''->wpList E.P ops Q (l.drop n) a' w'')->wpList E.P ops Q l (a.put (some d) v') w')
 | [],S,ι,s,a,w,p,s2,n,_,hf,_=>by cases hf
 | o::rest,S,ι,s,a,w,p,s2,n,h,hf,hp=>by
  have aF:c.args=#[x,y]:=by rw [<- ha]
  have dI:c.argTypes=#[T,U]:=by rw [<- eu]
  unfold a9U at hf;split at hf
  ·rename_i hg fY
   split at hf
   ·rename_i lP
    split at hf
    ·rename_i d1 jn
     split at hf
     ·rename_i p1 v bR hv
      split at hf
      ·rename_i p2 s3 n2 jB
       cases hf;simp only [Bool.and_eq_true,Bool.not_eq_true'] at bR;obtain ⟨⟨⟨c1,c2⟩,c3⟩,c4⟩:=bR;have bK:d1≠d:=by rintro rfl; simp at c1
       have dv:=b2o hE h lP;have dV:a7c E.P S ι o a w s v:=by
        split at hv
        ·cases hv
        ·rename_i v0 s0 e0; cases hv; rw [e0] at dv; exact dv.2
        ·rename_i q0 v0 s0 e0; cases hv; rw [e0] at dv; exact (dv hp.1).2
       obtain ⟨val,aW,cY⟩:=dV;rw [jn] at fY;have cR:=h.put (d:=some d1) (by rw [hn]; exact fY) cY;obtain ⟨v',w',g1,g2⟩:=a6H hE hn ho hc ha eu hd (ops:=ops) (Q:=Q) cR jB hp.2;have ex:(a.put (some d1) val).eval x=a.eval x:=by
        cases x with
        | tmp t=>exact a0g (by rintro rfl; simp at c3)
        | _=>rfl
       have ey:(a.put (some d1) val).eval y=a.eval y:=by
        cases y with
        | tmp t=>exact a0g (by rintro rfl; simp at c4)
        | _=>rfl
       refine ⟨v',w',?_,λ hk=>?_⟩
       ·rw [<- g1]; simp [execOp,ho,resolve,hc,invoke,builtin,aF,dI,ex,ey]
       ·unfold wpList
        simp only [Region.wanted,hg,if_true];refine .inl ?_;unfold Oper.wp;have lh:(execOp (a.put (some d) v').eval o).run E.P w'=.ok (.value val) w':=by
         have qE:∀ t∈a6w o,(a.put (some d) v').eval (.tmp t)=a.eval (.tmp t):=by
          intro t ht;refine a0g (λ e=>?_);rw [e] at ht;have h5:(a6w o).contains d=true:=by simpa using ht
          rw [h5] at c2; cases c2
         rw [b41 lP qE]; exact aW w'
        rw [lh];show wpList E.P ops Q rest ((a.put (some d) v').put o.dst val) w';rw [jn,b2l (Ne.symm bK)];exact g2 hk
      ·cases hf
     ·cases hf
    ·cases hf
   ·split at hf
    ·rename_i T2 ad d' kI
     split at hf
     ·rename_i bR
      split at hf
      ·rename_i p1 s3 cg
       cases hf;simp only [Bool.and_eq_true] at bR;obtain ⟨c1,c2⟩:=bR;obtain rfl:=Nat.eq_of_beq_eq_true c1;obtain ⟨v',w',g1,g2⟩:=c0h hE h ho hc ha eu hd kI (λ t e=>by subst e; rintro rfl; simp at c2) cg hp;refine ⟨v',w',g1,λ hk=>?_⟩;unfold wpList;simp only [Region.wanted,hg,if_true];refine .inl (g2 _ _ (λ S' ι' w2 val h1 h2=>?_));exact hk S' ι' _ w2 (h1.put (by rw [hn]; exact fY) h2)
      ·cases hf
     ·cases hf
    ·cases hf
  ·cases hf
theorem b8D {e:g8} {p:List Step} {r:Sigma Ty.den} (h:a7x e p r=true):a7r e (e.D6 r):=by
 unfold a7x at h;obtain ⟨r1,r2⟩:=r;split at h
 ·rename_i t x
  obtain rfl:r1=t:=of_decide_eq_true h;exact .inl ⟨r1,x,r2,rfl,rfl⟩
 ·rename_i t x
  split at h
  ·obtain rfl:r1=.d0 true t:=of_decide_eq_true h
   exact .inr (.inl ⟨t,x,r2,rfl,rfl⟩)
  ·cases h
 ·cases h
theorem OB.swap {H H1 H':Array Go.Obj} {i:Nat} {e:g8} (ho:OB H S ι i e) (bI:∀ c∈l6 ι i e,¬ S c/\c<H.size) (hS:∀ c,S c->c<H.size) {p:List Step} (hk:(∃ t x,e=.var t x)\/∃ t x j q,e=.own (.d0 true t) x/\p=.idx j::q) (aP:w5 e.ty e.x p) {u:Ty} {y:u.den} (hg:j8 e.ty e.x p=some ⟨u,y⟩)
  {b off:Nat} (hl:Loc H ι i e p=some (b,off)) (bn:H.size<=H1.size) {Op:List Nat} (fI:f8 H S u Op (d9 H b off u.size) y) (hH:∀ c,c<H.size->c∉Op->H1[c]?=H[c]?) (hc:T9 H1 H' b off u.size) (iy:H'.size=H1.size)
  {u':Ty} {z:u'.den} {O2:List Nat} (hz:f8 H' S u' O2 (d9 H' b off u'.size) z) (eg:∀ c∈O2,c<H'.size/\(c<H.size->c∈Op)) (cN:O2.Nodup) {r:Sigma Ty.den} (aO:s6 e.ty e.x p u' z=some r) :
  ∃ O,(∀ c∈O,c∈ι.own i\/c∈O2)/\OB H' S (ι.y8 i O) i (e.D6 r):=by
 have he:e≠.J0:=L7 hl;have eK:=ho.a0I he hS aP hg hl fI;obtain ⟨Om,m1,mn,m2,m3,m4,m5⟩:=N7 he ho hS aP hg hl;obtain ⟨O,hO,hR,hb,aI,bo,fT,dw⟩:=ho.see he hS;obtain ⟨O1,O3,b',aq,e1,e2,e3,e4,e5,e6⟩:=focus hR hb aP hg
 obtain ⟨bW,cU⟩:=B0 hl;rw [F9 he] at bW;rw [e3] at bW; cases bW;have cf:(O1++O3).Nodup:=(e1.nodup_iff).1 ((hO.nodup_iff).2 (List.nodup_cons.1 aI).2);have bG:∀ c∈O1,c∈ι.own i:=λ c hc=>hO.mem_iff.1 (e1.mem_iff.2 (by simp [hc]));have cx:∀ c∈O3,c∈ι.own i:=λ c hc=>hO.mem_iff.1 (e1.mem_iff.2 (by simp [hc]));have bD:=(List.nodup_cons.1 aI).1;have cS:∀ c∈ι.own i,c∈l6 ι i e:=by intro c hc; cases e<;>simp [l6,hc]
 have e4':f8 H S u O3 (d9 H b off u.size) y:=by
  rw [l4 (E9 cU)] at e4;exact (Z5 (λ c hc=>ho.Q0 he (cx c hc)) hS).1 e4
 obtain rfl:Op=O3:=fI.det e4';have ez:∀ c∈O1,c<H.size:=λ c hc=>ho.Q0 he (bG c hc);have dp:∀ c,(c=(VR H ι i e).1/\c<H.size)\/c∈O1\/S c->H1[c]?=H[c]?:=by
  rintro c (⟨rfl,h1⟩|h1|h1)
  ·exact hH _ h1 (λ h=>bD (cx _ h))
  ·exact hH c (ez c h1) (λ h=>(List.nodup_append.1 cf).2.2 c h1 c h rfl)
  ·exact hH c (hS c h1) (λ h=>(bI c (cS c (cx c h))).1 h1)
 have iU:(∃ t x,e=.var t x)->(VR H ι i e).1<H.size:=by rintro ⟨t,x,rfl⟩; exact bo
 obtain ⟨n1,n2⟩:=s8.move (H':=H1) hk e2 ez hS bn dp iU;have cX:(VR H1 ι i e).2+e.ty.size<=(s9 (VH H1 ι i e) (VR H1 ι i e).1).length/\(VR H1 ι i e).1<(VH H1 ι i e).size/\¬ S (VR H1 ι i e).1/\(VR H1 ι i e).1∉O1:=by
  rcases hk with ⟨t,x,rfl⟩|⟨t,x,j,q,rfl,rfl⟩
  ·have hr:=iU ⟨_,_,rfl⟩
   refine ⟨?_,Nat.lt_of_lt_of_le hr bn,(bI _ (by simp [l6,VR])).1,λ h=>bD (bG _ h)⟩;have:=M2 (dp _ (.inl ⟨rfl,hr⟩));show (VR H ι i (.var t x)).2+_<=(s9 H1 (VR H ι i (.var t x)).1).length;rw [this]; exact hb
  ·refine ⟨?_,by simp [VH,VR,a4K],λ h=>by have:=hS _ h; simp only [VR] at this; omega,λ h=>by have:=ez _ h; simp only [VR] at this; omega⟩
   simp only [VH,VR,a0n] at hb ⊢; exact hb
 have nY:∀ c∈O2,c<H'.size:=λ c hc=>(eg c hc).1;have pW:∀ c,S c->c<H'.size:=λ c hc=>by have:=hS c hc; omega
 have gC:f8 (VH H' ι i e) S u' O2 (d9 (VH H' ι i e) b off u'.size) z:=by
  rw [l4 (E9 (by omega))];exact (Z5 nY pW).2 hz
 obtain ⟨O4,f1,f2,f3⟩:=a4B n1 hg (n2.trans e3) cX.1 cX.2.1 (List.nodup_append.1 cf).1 cX.2.2.2 (λ c hc=>⟨(bI c (cS c (bG c hc))).1,Nat.lt_of_lt_of_le (ez c hc) (Nat.le_trans bn a2q)⟩) cX.2.2.1
  (λ c hc=>Nat.lt_of_lt_of_le (hS c hc) (Nat.le_trans bn a2q)) (λ _ h=>h) (a7b hc iy) gC aO
 have fV:O4.Nodup:=(f1.nodup_iff).2 (List.nodup_append.2 ⟨(List.nodup_append.1 cf).1,cN,by
  rintro c h1 d h2 rfl;exact (List.nodup_append.1 cf).2.2 c h1 c ((eg c h2).2 (ez c h1)) rfl⟩)
 have bV:∀ c∈O4,c∈ι.own i\/c∈O2:=by
  intro c hc;rcases List.mem_append.1 (f1.mem_iff.1 hc) with h|h
  ·exact .inl (bG c h)
  ·exact .inr h
 have jM:∀ c∈O4,c<H'.size:=by
  intro c hc;rcases bV c hc with h|h
  ·have:=ho.Q0 he h; omega
  ·exact (eg c h).1
 have f2':=(Z5 jM pW).1 f2;refine ⟨O4,bV,?_⟩;cases e with
 | var t x =>
  simp only [g8.D6,OB,Ix.y8,if_true];obtain ⟨_,hf,_⟩:=ho;refine ⟨⟨O4,List.Perm.refl _,f2'⟩,?_,?_⟩
  ·rw [E4 f3]; exact hc.free (hf.r8 (dp _ (.inl ⟨rfl,iU ⟨_,_,rfl⟩⟩)))
  ·refine List.nodup_cons.2 ⟨λ h=>?_,fV⟩
   rcases bV _ h with h1|h1
   ·exact bD h1
   ·exact bD (cx _ ((eg _ h1).2 (iU ⟨_,_,rfl⟩)))
 | own t x =>
  simp only [g8.D6,OB,Ix.y8,if_true];refine ⟨⟨O4,List.Perm.refl _,?_⟩,fV⟩;obtain ⟨⟨O',_,eV⟩,_⟩:=ho;have fc:r.1.size=t.size:=E4 f3;have:d9 (VH H' ι i (.own t x)) (VR H1 ι i (.own t x)).1 (VR H1 ι i (.own t x)).2 r.1.size=ι.cells i:=by
   simp only [VH,VR];rw [<- iy];simp only [d9,a0n,List.drop_zero];exact List.take_of_length_le (by rw [eV.length,fc]; exact Nat.le_refl _)
  rw [this] at f2';exact f2'
 | J0=>exact absurd rfl he
def Z8 (P:Program) (o:Oper) (a:Act) (w:World) (R:Value->World->Prop):Prop :=
 ∃ g vs,(execOp a.eval o).run P w=.ok (.enter g vs) w/\Calls P g vs w (λ e w'=>∃ v,e=.returned v/\R v w')
theorem Z8.wp {P:Program} {o:Oper} {R:Value->World->Prop} (h:Z8 P o a w R) {next:Act->World->Prop} {Q:Exit->Act->World->Prop} (hn:∀ v w',R v w'->next (a.put o.dst v) w'):o.wp P a w next Q:=by
 obtain ⟨g,vs,h1,h2⟩:=h;unfold Oper.wp;rw [h1];refine Calls.mono h2 ?_;rintro e w' ⟨v,rfl,hr⟩;exact hn v w' hr
theorem Z8.mono {P:Program} {o:Oper} {R R':Value->World->Prop} (h:Z8 P o a w R) (hr:∀ v w',R v w'->R' v w'):Z8 P o a w R':=by
 obtain ⟨g,vs,h1,h2⟩:=h;exact ⟨g,vs,h1,h2.mono (λ e w' ⟨v,e1,k⟩=>⟨v,e1,hr v w' k⟩)⟩
theorem over_self {cur:List Value} {off n:Nat} (h:off+n<=cur.length):over cur off ((cur.drop off).take n)=cur:=by
 rw [over,List.length_take,List.length_drop,Nat.min_eq_left (by omega),List.append_assoc]
 conv=>rhs; rw [<- List.take_append_drop off cur,<- List.take_append_drop n (cur.drop off)]
 rw [List.drop_drop]
theorem c2q (h:RS B S ι s a w) {i:Nat} {e:g8} (aX:look i s.hp=some e) {p:List Step} (aP:w5 e.ty e.x p) {t:Ty} {l:(Ty.d0 true t).den} (hg:j8 e.ty e.x p=some ⟨.d0 true t,l⟩) {b off:Nat} (hl:Loc w.heap ι i e p=some (b,off))
  {Op:List Nat} (fI:f8 w.heap S (.d0 true t) Op (d9 w.heap b off (Ty.d0 true t).size) l) (js:∀ c∈Op,c∈ι.own i) {ks:List PK} {ys:List Operand} {y:DK ks} (hy:b0g s ks i e p t ys=some (y,[],[])) :
  ∃ S1:Nat->Prop,(∀ b,S b->S1 b)/\(∀ b,S1 b->b<w.heap.size)/\(∀ c∈Op,¬ S1 c)/\R2 w.heap S1 ks (ys.map a.eval) y []:=by
 have dd:∀ c∈Op,c∈l6 ι i e:=λ c hc=>F6 (js c hc);have fin:∀ {ι':Ix} {s0:St},RS B S ι' s0 a w->AV.a0f s0 ks (s0.I1 ys)=some (y,[],[])->(∀ j ej,j∈P0.loose ks (s0.I1 ys)->look j s0.hp=some ej->∀ c∈Op,c∉l6 ι' j ej)->∃ S1:Nat->Prop,(∀ b,S b->S1 b)/\(∀ b,S1 b->b<w.heap.size)/\(∀ c∈Op,¬ S1 c)/\R2 w.heap S1 ks (ys.map a.eval) y []:=by
  intro ι' s0 h0 qg hd
  let S1:Nat->Prop:=λ b=>S b\/K2 ι' s0.hp (P0.loose ks (s0.I1 ys)) b
  obtain ⟨L2,pg,_,pe,_⟩:=a82 (S1:=S1) h0.hs (λ b hb=>.inl hb) qg (h0.I1 ys) (by simp) (λ b hb=>.inr hb);have pf:L2=[]:=by
   rw [List.eq_nil_iff_forall_not_mem];intro b hb;obtain ⟨i,e,h1,_⟩:=pe b hb;cases h1
  subst pf;refine ⟨S1,λ _ h=>.inl h,?_,?_,pg⟩
  ·rintro b (hb|⟨j,ej,h1,h2,h3⟩)
   ·exact h0.hs.slt b hb
   ·exact (h0.hs.bl j ej h2 b h3).2.2
  ·rintro c hc (hs|⟨j,ej,r1,r2,r3⟩)
   ·exact (h.hs.bl i e aX c (dd c hc)).1 hs
   ·exact hd j ej r1 r2 c hc r3
 unfold b0g at hy;split at hy
 ·rename_i jb
  have jb:i∉P0.loose ks (s.I1 ys):=by intro hm; simp [hm] at jb
  exact fin h hy (λ j ej r1 r2 c hc r3=>h.hs.dj i j e ej aX r2 (by rintro rfl; exact jb r1) c (dd c hc) r3)
 ·split at hy
  ·rename_i u x
   split at hy
   ·rename_i r aO
    have cv:∃ c0,d9 w.heap b off (Ty.d0 true t).size=[c0]/\b9a c0=true:=by
     rcases fI with ⟨_,⟨a1,c1,e1,_⟩,_⟩|⟨b1,o1,cap1,O1,e1,_⟩
     ·exact ⟨_,e1,rfl⟩
     ·exact ⟨_,e1,rfl⟩
    obtain ⟨c0,dO,mD⟩:=cv;obtain ⟨ι',⟨O,rfl,hO⟩,h0⟩:=h.b3G aX aP hg hl (u':=.hole t) (z:=([]:List t.den)) (cs:=[c0]) (O2:=[]) (λ H' _ _=>⟨rfl,c0,rfl,mD⟩) rfl List.nodup_nil (by simp) aO (by intro h; cases h);have hw:w.setRow b (over (s9 w.heap b) off [c0]).toArray=w:=by
     obtain ⟨O2,m1,m2,m3,m4,m5,arr,T,⟨fz,e1,_⟩,hn⟩:=N7 (L7 hl) (h.hs.ob i _ aX) h.hs.slt aP hg hl;have hb:s9 w.heap b=arr.toList:=by simp only [s9,e1]
     have:over (s9 w.heap b) off [c0]=s9 w.heap b:=by
      rw [<- dO]; exact over_self m4
     rw [this,hb]; exact setRow_self w b arr T fz (by simpa using e1)
    rw [hw] at h0;refine fin h0 hy (λ j ej r1 r2 c hc r3=>?_);simp only [St.u5,o7] at r2;by_cases hj:j=i
    ·subst hj
     rw [if_pos rfl] at r2; cases r2;have r3:c∈(ι.root j).1::(ι.y8 j O).own j:=r3;simp only [Ix.y8,if_true] at r3;refine (List.mem_cons.1 r3).elim (λ g3=>?_) (λ g3=>?_)
     ·obtain ⟨_,_,aI⟩:=h.hs.ob j _ aX
      exact (List.nodup_cons.1 aI).1 (g3▸js c hc)
     ·rcases (hO c g3).2 with h9|h9
      ·cases h9
      ·exact h9 Op fI hc
    ·rw [if_neg hj] at r2
     rw [(a0p hj O).l6] at r3;exact h.hs.dj i j _ ej aX r2 (Ne.symm hj) c (dd c hc) r3
   ·cases hy
  ·cases hy
theorem c2r {i:Nat} {e:g8} {p:List Step} {t:Ty} {ks:List PK} {ys:List Operand} {r:DK ks×List Nat×List Nat} (hy:b0g s ks i e p t ys=some r):ks.any PK.lnk=false:=by
 unfold b0g at hy;split at hy
 ·exact a3K hy
 ·split at hy
  ·split at hy
   ·exact a3K hy
   ·cases hy
  ·cases hy
theorem b6S (hE:C2 E B) (h:RS B S ι s a w) {o:Oper} {c:Call} (ho:o.op=.call c) {g:FuncId} (hf:c.callee=.value (.func g)) {x:Operand} {ys:List Operand} (ha:c.args.toList=x::ys)
  {o2:Oper} {T2:TypeId} {ad:Operand} {d:Nat} (hd:J5 B.n (some d)=true) (kI:o2.op=.store T2 ad (.tmp d)) (kn:∀ t,ad=.tmp t->t≠d) {p:Prop} {s2:St} (hb:b91 E T2 g (s.ev x) ys (s.ev ad) d s=some (p,s2)) (hp:p) :
  Z8 E.P o a w (λ v' w'=>w4 E.P B o2 (a.put (some d) v') w' (.raw undef) s2):=by
 unfold b91 at hb;split at hb
 ·rename_i t ks t' pre fn out nw i p0 j q mL hx kl
  split at hb
  ·rename_i e aX bR
   simp only [Bool.and_eq_true] at bR;obtain ⟨⟨⟨cd,ju⟩,nK⟩,oL⟩:=bR;have cd:=Nat.eq_of_beq_eq_true cd;subst cd;have ju:F4 ks=[]:=by
    revert ju;cases F4 ks with
    | nil=>intro _; rfl
    | cons a b=>intro h; cases h
   split at hb
   ·rename_i u l y hg hy
    split at hb
    ·rename_i hu
     subst hu;split at hb
     ·rename_i r aO
      split at hb
      ·rename_i eJ
       cases hb;simp only [Bool.and_eq_true] at eJ;obtain ⟨bE,bN⟩:=eJ;obtain ⟨rfl,bm⟩:=hp;have aX:look i s.hp=some e:=aX;have cE:e≠.J0:=by rcases (a3W bN).2 with ⟨_,_,rfl⟩|⟨_,_,_,_,rfl,_⟩<;>(intro h; cases h)
       have jh:=(a3W bN).2;obtain ⟨e1,u1,y1,cs,r1,aP,r3,hcs,r5⟩:=x8 h hx;rw [aX] at r1; cases r1;rw [hg] at r3; cases r3;have dV:a.eval x=j9 (.d0 true t) cs:=by simpa using r5
       obtain ⟨Op,m1,mn,jr⟩:=F1 h.hs aX aP hg hcs;obtain ⟨e2,b,off,z1,z2,hl,z4⟩:=x8 h kl;rw [aX] at z1; cases z1;have z4:a.eval ad=.pointer (some ⟨b,off,none⟩):=by simpa using z4
       have hV:=hE.C0 g _ mL;obtain ⟨fnn,iP,fh,fP⟩:=hV.ent;have gi:f8 w.heap S (.d0 true t) Op (d9 w.heap b off (Ty.d0 true t).size) l:=by
        have bW:=B0 hl;obtain ⟨b9,o9,k1,k2⟩:=id hcs;rw [bW.1] at k1; cases k1;rw [k2,l4 (E9 bW.2)] at jr;exact jr
       obtain ⟨S1,kq,fA,oZ,pg⟩:=c2q h aX aP hg hl gi m1 hy;have dd:∀ c∈Op,c∈l6 ι i e:=λ c hc=>F6 (m1 c hc);have mT:∀ b∈Op++[],¬ S1 b/\b<w.heap.size:=by
        intro b hb;have hb:b∈Op:=by simpa using hb
        exact ⟨oZ b hb,(h.hs.bl i e aX b (dd b hb)).2.2⟩
       have gT:=hV.run w S1 (a.eval x::ys.map a.eval) (G4 rfl l,y) (Op++[]) fA ((hE.gb.at_ h.hs).sub kq) bm ⟨_,_,Op,[],rfl,rfl,⟨cs,dV,jr.r8 (λ _ _=>rfl) kq⟩,pg⟩ (a1F (by rw [List.any_cons,c2r hy]; rfl)) (by simpa using mn) mT;refine ⟨g,(a.eval x::ys.map a.eval).toArray,?_,?_⟩
       ·have nR:fnn.body.isNone=false:=fP
        have hq:(fnn.name == "runtime.NumGoroutine")=false:=fh
        have aF:c.args.map a.eval=(a.eval x::ys.map a.eval).toArray:=by
         rw [<- Array.toList_inj,Array.toList_map,ha]; simp
        have eS:a.eval (.func g)=.func (.func g) #[] #[]:=by simp [Act.eval]
        simp only [execOp,ho,resolve,hf,eS,Deferred.ofValue,Sem.run_bind,Sem.run_pure,Result.andThen,invoke,callFunc,program];simp [Sem.run,iP,hq,nR];exact aF
       ·refine Calls.mono gT ?_
        rintro en w' ⟨us,O,Lo,S',rfl,bj,eE,iA,dY,dZ,aI,hO⟩;obtain ⟨v',us',O1,O2,cs',rfl,rfl,fa,mi,rfl,rfl⟩:=dY;refine ⟨v',rfl,?_⟩;have kS:=V3 (show F4 (.own (.d0 true t)::ks)=[] from ju) dZ;subst kS;have mi:=f8.H9 (S':=S) nK mi;have nQ:O1.Nodup:=by simpa using aI
        have bX:∀ c∈O1,(w.heap.size<=c\/c∈Op)/\c<w'.heap.size:=λ c hc=>by
         obtain ⟨_,q2,q3⟩:=hO c (by simp [hc]);exact ⟨by simpa using q2,q3⟩
        have bj:y9 Op w w':=by simpa using bj
        have bI:∀ c∈l6 ι i e,¬ S c/\c<w.heap.size:=λ c hc=>⟨(h.hs.bl i e aX c hc).1,(h.hs.bl i e aX c hc).2.2⟩;obtain ⟨Om,p1,p2,p3,p4,p5,p6⟩:=N7 cE (h.hs.ob i e aX) h.hs.slt aP hg hl;have rT:Om=Op:=by
         have bW:=B0 hl;obtain ⟨b9,o9,k1,k2⟩:=hcs;rw [bW.1] at k1; cases k1;rw [k2,l4 (E9 bW.2)] at jr;exact p3.det jr
        subst rT;have eK:=(h.hs.ob i e aX).a0I cE h.hs.slt aP hg hl p3;have db:=(bI b p5).2;have gP:L8 w'.heap b (off+(Ty.d0 true t).size):=p6.r8 (bj.frame b db eK);intro next Q hn
        have jD:=h.put (d:=some d) hd (v:=.any) (val:=v') ⟨_,rfl⟩;have mc:(a.put (some d) v').eval ad=.pointer (some ⟨b,off,none⟩):=by
         rw [<- z4];cases ad with
         | tmp t9=>exact a0g (kn t9 rfl)
         | _=>rfl
        have qo:(a.put (some d) v').eval (.tmp d)=v':=b2m (by
         rw [h.sz]; simpa [J5,Nat.blt_eq] using hd)
        have oC:∃ c1,cs'=[c1]:=by
         have:=mi.length
         match cs',this with
         | [c1],_=>exact ⟨c1,rfl⟩
        obtain ⟨c1,rfl⟩:=oC;obtain rfl:c1=v':=fa.symm;have nq:(Ty.d0 true t').sh=(Ty.d0 true t).sh:=a39 hg aO;have aW:(execOp (a.put (some d) c1).eval o2).run E.P w'=.ok .skip (w'.setRow b (over (s9 w'.heap b) off [c1]).toArray):=by
         have qx:(storeVar T2 ⟨b,off,none⟩ c1).run E.P w'=.ok () (w'.setRow b (over (s9 w'.heap b) off [c1]).toArray):=a6p (C1 hE oL) nq gP mi;simp [execOp,kI,mc,qo,Instr.storeAt,Instr.sureAddr,qx]
        unfold Oper.wp;rw [aW];obtain ⟨fx,bH⟩:=a3U (w:=w') (b:=b) (off:=off) (cs:=[c1]) gP;have kX:(w'.setRow b (over (s9 w'.heap b) off [c1]).toArray).heap.size=w'.heap.size:=setRow_size;have hold:∀ c,c≠b->(w'.setRow b (over (s9 w'.heap b) off [c1]).toArray).heap[c]?=w'.heap[c]?:=λ c cO=>setRow_other cO;have gX:(w'.setRow b (over (s9 w'.heap b) off [c1]).toArray).os=w'.os/\T5 w' (w'.setRow b (over (s9 w'.heap b) off [c1]).toArray)/\(w'.setRow b (over (s9 w'.heap b) off [c1]).toArray).output=w'.output:=⟨rfl,.of rfl rfl,rfl⟩;generalize qm:w'.setRow b (over (s9 w'.heap b) off [c1]).toArray=w'' at *
        have oP:b∉O1:=λ dh=>by
         rcases (bX b dh).1 with q|q
         ·omega
         ·exact eK q
        have mX:f8 w''.heap S (.d0 true t') O1 (d9 w''.heap b off (Ty.d0 true t').size) (fn (G4 rfl l,y)).1:=by
         have:d9 w''.heap b off (Ty.d0 true t').size=[c1]:=bH;rw [this];refine mi.r8 (λ c hc=>hold c ?_) (λ _ h=>h);rintro rfl;rcases hc with hc|hc
         ·exact oP hc
         ·exact (bI c p5).1 hc
        obtain ⟨O,n1,n2⟩:=OB.swap (h.hs.ob i e aX) bI h.hs.slt jh aP hg hl bj.size p3 (λ c hc hn=>bj.frame c hc hn) fx kX mX (λ c hc=>by
         obtain ⟨q1,q2⟩:=bX c hc;exact ⟨by omega,λ bo=>q1.resolve_left (by omega)⟩) nQ aO
        have jG:y9 (l6 ι i e) w w'':=by
         refine ⟨gX.1.trans bj.os,gX.2.1.trans bj.tape,gX.2.2.trans bj.out,by rw [kX]; exact bj.size,λ c hc hn=>?_⟩;rw [hold c (by rintro rfl; exact hn p5)];exact bj.frame c hc (λ oM=>hn (dd c oM))
        have cR:=jD.renew (by simpa [St.put] using aX) (b8D bN) C9.nil (L:=l6 ι i e) jG (λ b hb=>.inl hb) (λ _ h=>h) (λ _ h=>.inl h) (O':=O) n2 (λ c hc=>by
         have cI:c∈l6 ι i e\/c∈O1:=by
          cases e with
          | var t9 x9 =>
           simp only [l6,g8.D6,Ix.y8,if_true,List.mem_cons] at hc ⊢;rcases hc with hc|hc
           ·exact .inl (.inl hc)
           ·exact (n1 c hc).imp .inr id
          | own t9 x9 =>
           simp only [l6,g8.D6,Ix.y8,if_true] at hc ⊢;exact n1 c hc
          | J0=>exact absurd rfl cE
         rcases cI with cI|cI
         ·exact ⟨(bI c cI).1,.inr cI,by have:=(bI c cI).2; have:=bj.size; omega⟩
         ·obtain ⟨q1,q2⟩:=bX c cI
          have iG:¬ S c:=by
           have:=(hO c (by simp [cI])).1;exact λ hs=>this (eE c (kq c hs))
          exact ⟨iG,q1.imp id (dd c),by omega⟩)
        exact hn S _ w'' undef cR rfl
      ·cases hb
     ·cases hb
    ·cases hb
   ·cases hb
  ·cases hb
 ·cases hb
theorem Z8.put {P:Program} {o:Oper} {c:Call} (ho:o.op=.call c) {g:FuncId} (hf:c.callee=.value (.func g)) {d:Nat} {val:Value} (hd:∀ z∈c.args.toList,z≠.tmp d) {R:Value->World->Prop} (h:Z8 P o (a.put (some d) val) w R):Z8 P o a w R:=by
 obtain ⟨g',vs,h1,h2⟩:=h;refine ⟨g',vs,?_,h2⟩;rw [<- h1];have aF:c.args.map (a.put (some d) val).eval=c.args.map a.eval:=by
  apply Array.map_congr_left;intro z hz;cases z with
  | tmp t=>exact a0g (λ e=>hd _ (by simpa using hz) (by rw [e]))
  | _=>rfl
 have eS:(a.put (some d) val).eval (.func g)=a.eval (.func g):=rfl;simp only [execOp,ho,resolve,hf,eS,aF]
theorem a58 (hE:C2 E B) (hn:B.n=E.nt) {ops:Array Oper} {Q:Exit->Act->World->Prop} {oa:Oper} {c:Call} (ho:oa.op=.call c) {g:FuncId} (hf:c.callee=.value (.func g)) {x:Operand} {ys:List Operand} (ha:c.args.toList=x::ys)
  {d:Nat} (hd:J5 B.n (some d)=true):∀ {l:List Oper} {S:Nat->Prop} {ι:Ix} {s:St} {a:Act} {w:World} {p:Prop} {s2:St} {n:Nat},RS B S ι s a w->a7F E g x ys d l s=some (p,s2,n)->p->(∀ S' ι' a' w'',RS B S' ι' s2 a' w''->wpList E.P ops Q (l.drop n) a' w'') ->
  Z8 E.P oa a w (λ v' w'=>wpList E.P ops Q l (a.put (some d) v') w')
 | [],S,ι,s,a,w,p,s2,n,_,hb,_,_=>by cases hb
 | o::rest,S,ι,s,a,w,p,s2,n,h,hb,hp,hk=>by
  unfold a7F at hb;split at hb
  ·rename_i hg fY
   split at hb
   ·rename_i lP
    split at hb
    ·rename_i d1 jn
     split at hb
     ·rename_i p1 v bR hv
      split at hb
      ·rename_i p2 s3 n2 jB
       cases hb;simp only [Bool.and_eq_true,Bool.not_eq_true'] at bR;obtain ⟨⟨c1,c2⟩,c3⟩:=bR;have bK:d1≠d:=by rintro rfl; simp at c1
       have dv:=b2o hE h lP;have dV:a7c E.P S ι o a w s v:=by
        split at hv
        ·cases hv
        ·rename_i v0 s0 e0; cases hv; rw [e0] at dv; exact dv.2
        ·rename_i q0 v0 s0 e0; cases hv; rw [e0] at dv; exact (dv hp.1).2
       obtain ⟨val,aW,cY⟩:=dV;rw [jn] at fY;have cR:=h.put (d:=some d1) (by rw [hn]; exact fY) cY;have lg:=a58 hE hn ho hf ha hd (ops:=ops) (Q:=Q) cR jB hp.2 hk;refine (lg.put ho hf (λ z hz=>?_)).mono (λ v' w' hw=>?_)
       ·rw [ha] at hz
        rintro rfl;have:=List.all_eq_true.1 c3 _ hz;simp at this
       ·unfold wpList
        simp only [Region.wanted,hg,if_true];refine .inl ?_;unfold Oper.wp;have ex:execOp (a.put (some d) v').eval o=execOp a.eval o:=b41 lP (λ t ht=>a0g (by
         rintro rfl;simp [ht] at c2))
        rw [ex,aW w'];show wpList E.P ops Q rest ((a.put (some d) v').put o.dst val) w';rw [jn,b2l (Ne.symm bK)];exact hw
      ·cases hb
     ·cases hb
    ·cases hb
   ·split at hb
    ·rename_i T2 ad d' cT
     split at hb
     ·rename_i bR
      simp only [Bool.and_eq_true] at bR;obtain ⟨c1,c2⟩:=bR;obtain rfl:=Nat.eq_of_beq_eq_true c1;split at hb
      ·rename_i p2 s3 hcs
       cases hb;have kn:∀ t,ad=.tmp t->t≠d':=by
        intro t e;subst e;rintro rfl;simp at c2
       refine (b6S hE h ho hf ha hd cT kn hcs hp).mono (λ v' w' hw=>?_);unfold wpList;simp only [Region.wanted,hg,if_true];refine .inl (hw _ _ (λ S' ι' w2 val h1 h2=>?_));exact hk S' ι' _ w2 (h1.put (by rw [hn]; exact fY) h2)
      ·cases hb
     ·cases hb
    ·cases hb
  ·cases hb
theorem b8V {H:Array Go.Obj} {t:Ty} {y:(Ty.w6 t).den} (bT:t.shared=true) (h1:1<=y.1) (h2:y.1<=2) {O:List Nat} {cs:List Value} (hr:f8 H S (.w6 t) O cs y):f8 H S (.d0 true t) O cs y.2.1:=by
 obtain ⟨n,l,m⟩:=y
 match n,h1,h2,hr with
 | 1,_,_,hr=>exact hr
 | 2,_,_,⟨b,off,O',c1,c2,c3,c4,c5,c6⟩ =>
  obtain rfl:O'=[]:=i7.J7 (λ _ _ _ hr=>hr.J7 bT) c4;have bo:(l++m).length=l.length+m.length:=List.length_append;rw [bo,Nat.add_mul] at c3 c4;have s1:=(i7.two (λ _ _ _ hr=>hr.length) (λ _ _ _ hr=>hr.J7 bT) c4).1;rw [m0 _ _ _ _ (by omega)] at s1;exact .inr ⟨b,off,List.length l+List.length m,[],c1,by show List.length l<=_; omega,c2,by show off+List.length l*t.size<=_; omega,s1,c5,c6⟩
theorem b6T (hE:C2 E B) (hn:B.n=E.nt) (h:RS B S ι s a w) {o:Oper} {p:Prop} {s2:St} (hb:b92 E o s=some (p,s2)) (hp:p) :
  o.guard=none/\Z8 E.P o a w (λ v' w'=>∃ ι',RS B S ι' s2 (a.put o.dst v') w'):=by
 unfold b92 at hb; cases hb
def b47 (H:Array Go.Obj) (S:Nat->Prop) (tl:Option (FuncId×Nat)) (pre us0 vs:List Value):Prop :=
 match tl with
 | none=>vs=us0
 | some (f,k)=>k<=pre.length/\∃ b off,vs=us0++[.pointer (some ⟨b,off,none⟩)]/\S b/\off+1<=(s9 H b).length/\d9 H b off 1=[.func (.func f) #[] ((pre.take k).reverse++vs).toArray]
theorem b47.next {H:Array Go.Obj} {tl:Option (FuncId×Nat)} {pre us0 vs:List Value} {v:Value} (h:b47 H S tl pre (v::us0) vs):∃ vs',vs=v::vs'/\b47 H S (tl.map λ q=>(q.1,q.2+1)) (v::pre) us0 vs':=by
 cases tl with
 | none=>exact ⟨us0,h,rfl⟩
 | some q =>
  obtain ⟨f,k⟩:=q;obtain ⟨hk,b,off,rfl,h1,h2,h3⟩:=h;refine ⟨_,rfl,by simpa using hk,b,off,rfl,h1,h2,?_⟩;rw [h3];simp [List.take_succ_cons]
theorem RS.slot (h:RS B S ι s a w) {t:Nat} {v:AV} (hv:VX w.heap S ι s.hp v [a.tmps.getD t (B.gd t)]):RS B S ι { s with fr:=Ex.put t v s.fr } a w:=by
 refine ⟨h.hs,h.dfr,h.sz,?_⟩;intro t' v' ht;simp only [o7] at ht;by_cases e:t'=t
 ·subst e
  rw [if_pos rfl] at ht; cases ht; exact hv
 ·rw [if_neg e] at ht; exact h.fr t' v' ht
theorem b6l (hE:C2 E B) (hn:B.n=E.nt) (hM:E.ps.any PK.l5=false->∀ b,¬ B.M b) (h:RS B S ι s a w) {o:Oper} {p:Prop} {s2:St} (hb:b86 E o s=some (p,s2)) (hp:p) :
  o.guard=none/\∀ (next:Act->World->Prop) (Q:Exit->Act->World->Prop),(∀ S' ι' a' w',RS B S' ι' s2 a' w'->next a' w')->o.wp E.P a w next Q:=by
 unfold b86 at hb; cases hb
theorem RS.b7F (h:RS B S ι s a w) {i:Nat} {u t:Ty} {y:u.den} {z:t.den} (he:look i s.hp=some (.var u y)) {O1 D:List Nat} (hp:(ι.own i).Perm (O1++D)) (p2:t.size=u.size)
  (hz:f8 w.heap (λ b=>S b\/b∈D) t O1 (d9 w.heap (ι.root i).1 (ι.root i).2 t.size) z):RS B (λ b=>S b\/b∈D) (ι.y8 i O1) ((s.a26 i).u5 i (.var t z)) a w:=by
 obtain ⟨-,hf,aI⟩:=h.hs.ob i _ he;have mV:∀ b∈D,b∈ι.own i:=λ b hb=>hp.mem_iff.2 (by simp [hb]);have js:∀ b∈O1,b∈ι.own i:=λ b hb=>hp.mem_iff.2 (by simp [hb]);have cN:(O1++D).Nodup:=(hp.nodup_iff).1 (List.nodup_cons.1 aI).2;have bD:=(List.nodup_cons.1 aI).1;have bI:=h.hs.bl i _ he;have cS:∀ b∈ι.own i,b∈l6 ι i (.var u y):=λ b hb=>by simp [l6,hb]
 have br:∀ j,j≠i->E0 ι (ι.y8 i O1) j:=λ j hj=>a0p hj _;have bV:∀ b∈l6 (ι.y8 i O1) i (.var t z),b∈l6 ι i (.var u y)/\b∉D:=by
  intro b hb;have hb:b∈(ι.root i).1::(ι.y8 i O1).own i:=hb;simp only [Ix.y8,if_true] at hb;refine (List.mem_cons.1 hb).elim (λ e=>⟨by simp [l6,e],λ hD=>bD (e▸mV b hD)⟩) (λ e=>⟨cS b (js b e),λ hD=>(List.nodup_append.1 cN).2.2 b e b hD rfl⟩)
 refine ⟨⟨h.hs.os,h.hs.tape,h.hs.out,h.hs.size,h.hs.frame,?_,λ b hb=>.inl (h.hs.s0 b hb),?_,?_,?_,?_,?_⟩,h.dfr,h.sz,?_⟩
 ·rintro b (hb|hb)
  ·exact h.hs.slt b hb
  ·exact (bI b (cS b (mV b hb))).2.2
 ·rintro b (hb|hb)
  ·exact h.hs.s1 b hb
  ·rcases (bI b (cS b (mV b hb))).2.1 with q|q
   ·exact .inr (.inl q)
   ·exact .inr (.inr q)
 ·intro j ej hj
  simp only [St.u5,o7] at hj;by_cases e1:j=i
  ·subst e1; rw [if_pos rfl] at hj; cases hj
   refine ⟨⟨O1,by simp [Ix.y8],?_⟩,?_,?_⟩
   ·exact hz
   ·rw [p2]; exact hf
   ·show ((ι.root j).1::(ι.y8 j O1).own j).Nodup
    simp only [Ix.y8,if_true];exact List.nodup_cons.2 ⟨λ h=>bD (js _ h),(List.nodup_append.1 cN).1⟩
  ·rw [if_neg e1] at hj
   exact (br j e1).ob.2 ((h.hs.ob j ej hj).r8 (λ _ _=>rfl) (λ _ h=>.inl h))
 ·intro j ej hj b hb
  simp only [St.u5,o7] at hj;by_cases e1:j=i
  ·subst e1; rw [if_pos rfl] at hj; cases hj
   obtain ⟨q1,q2⟩:=bV b hb;obtain ⟨r1,r2,r3⟩:=bI b q1;exact ⟨λ hs=>hs.elim r1 q2,r2,r3⟩
  ·rw [if_neg e1] at hj
   rw [(br j e1).l6] at hb;obtain ⟨r1,r2,r3⟩:=h.hs.bl j ej hj b hb;exact ⟨λ hs=>hs.elim r1 (λ hD=>h.hs.dj j i ej _ hj he e1 b hb (cS b (mV b hD))),r2,r3⟩
 ·intro j k ej ek hj hk gw c hc
  simp only [St.u5,o7] at hj hk;by_cases e1:j=i
  ·subst e1
   rw [if_pos rfl] at hj; cases hj;rw [if_neg (Ne.symm gw)] at hk;rw [(br k (Ne.symm gw)).l6];exact h.hs.dj j k _ ek he hk gw c (bV c hc).1
  ·rw [if_neg e1] at hj
   rw [(br j e1).l6] at hc;by_cases e2:k=i
   ·subst e2
    rw [if_pos rfl] at hk; cases hk;exact λ cI=>h.hs.dj j k ej _ hj he gw c hc (bV c cI).1
   ·rw [if_neg e2] at hk
    rw [(br k e2).l6];exact h.hs.dj j k ej ek hj hk gw c hc
 ·intro q hq
  obtain ⟨k0,⟨e',k1⟩,k2,k3⟩:=h.hs.pin q hq;refine ⟨k0,?_,k2,k3⟩;simp only [St.u5,o7];by_cases e1:q.1=i
  ·exact ⟨_,by rw [if_pos e1]⟩
  ·exact ⟨e',by rw [if_neg e1]; exact k1⟩
 ·intro t9 v hv
  simp only [St.u5,St.a26,N5,Option.map_eq_some_iff] at hv;obtain ⟨v0,eD,rfl⟩:=hv;refine VX.map (λ _ _=>rfl) (λ _ h=>.inl h) (λ v vs hr hm cY=>?_) (h.fr t9 v0 eD);unfold AV.c40;cases bS:v.i6 i with
  | false =>
   have bK:∀ j,v.i6 j=true->j≠i:=by rintro j hj rfl; rw [bS] at hj; cases hj
   have bN:VX w.heap (λ b=>S b\/b∈D) ι s.hp v vs:=VX.grow (λ _ _=>rfl) (λ _ h=>.inl h) h.hs.slt h.hs.ob cY;exact VX.other (λ j hj=>by simp only [St.u5,o7,if_neg (bK j hj)]; rfl) (λ j hj=>br j (bK j hj)) bN
  | true =>
   have cu:=VX.one hr cY;simp only
   split
   ·rename_i j
    have dJ:i=j:=Nat.eq_of_beq_eq_true bS;subst dJ;obtain ⟨ej,b2,off2,k1,k2,k3,k4⟩:=cY;rw [he] at k1; cases k1;refine ⟨.var t z,b2,off2,by simp [St.u5,o7],K9,?_,k4⟩;simp only [Loc,Place,VR,VH,x6] at k3 ⊢;exact k3
   ·exact cu
theorem RS.c1V (h:RS B S ι s a w) {i:Nat} {u t:Ty} {y:u.den} {z:t.den} (he:look i s.hp=some (.var u y)) (hz:a8T u t y=some z):∃ S' ι',RS B S' ι' ((s.a26 i).u5 i (.var t z)) a w:=by
 obtain ⟨⟨O,hO,hR⟩,hf,aI⟩:=h.hs.ob i _ he;obtain ⟨O1,D,p1,p2,p3⟩:=c3P hz hR;refine ⟨_,_,h.b7F he (hO.symm.trans p1) p2 ?_⟩;rw [p2];exact p3 (λ b=>S b\/b∈D) (λ _ h=>.inl h) (λ _ h=>.inr h)
theorem c1r {H:Array Go.Obj} {S S':Nat->Prop} {t0:Ty} {O:List Nat} {cs:List Value} {z:(Ty.w6 t0).den} (hR:f8 H S (.w6 t0) O cs z) (bT:t0.shared=true) (hD:∀ b∈O,S' b) (hS:∀ b,S b->S' b):f8 H S' (.d0 false t0) [] cs z.2.1:=by
 have h0:∀ O cs x,f8 H S t0 O cs x->O=[]:=λ O cs x h=>f8.J7 bT h;have bN:∀ {O cs l},i7 (f8 H S t0) t0.size O cs l->i7 (f8 H S' t0) t0.size [] cs l:=λ {O cs l} h=>by
  obtain rfl:=i7.J7 h0 h;exact i7.mono (L:=[]) (λ _ h=>h) (λ _ _ _ _ hr=>hr.r8 (λ _ _=>rfl) hS) h
 obtain ⟨n,l,m⟩:=z
 match n,hR with
 | 0,hR =>
  rcases hR with ⟨_,⟨a,c,h1,_⟩,h2⟩|⟨b,off,cap,O',c1,c2,c3,c4,c5,_,_,c8⟩
  ·exact .inl ⟨rfl,⟨a,c,h1,λ h=>by cases h⟩,h2⟩
  ·exact .inr ⟨b,off,cap,[],c1,c2,c3,c4,bN c5,rfl,rfl,hS b c8⟩
 | 1,hR =>
  rcases hR with ⟨_,⟨a,c,h1,_⟩,h2⟩|⟨b,off,cap,O',c1,c2,c3,c4,c5,c6,_⟩
  ·exact .inl ⟨rfl,⟨a,c,h1,λ h=>by cases h⟩,h2⟩
  ·exact .inr ⟨b,off,cap,[],c1,c2,⟨c3.1,λ h=>by cases h⟩,c4,bN c5,rfl,rfl,hD b (by rw [c6]; simp)⟩
 | n+2,⟨b,off,O',c1,c2,c3,c4,c5⟩ =>
  have hl:List.length l*t0.size<=List.length (l++m)*t0.size:=Nat.mul_le_mul_right _ (by rw [List.length_append]; omega);have c6:=(i7.two (λ _ _ _ h=>h.length) h0 c4).1;rw [m0 _ _ _ _ hl] at c6;refine .inr ⟨b,off,_,[],c1,Nat.le_add_right _ _,⟨c2.1,λ h=>by cases h⟩,Nat.le_trans (Nat.add_le_add_left hl off) c3,bN c6,rfl,rfl,?_⟩
  match n,c5 with
  | 0,c5=>exact hD b (by rw [c5.1]; simp)
  | n+1,c5=>exact hS b c5.2.2
theorem RS.c7S (h:RS B S ι s a w) {i k:Nat} {u:Ty} {y:u.den} (he:look i s.hp=some (.var u y)) {p:List Step} {t0:Ty} {z:(Ty.w6 t0).den} (hg:j8 u y p=some ⟨.w6 t0,z⟩) (bT:t0.shared=true)
  {r:Sigma Ty.den} (hr:s6 u y p (.w6 t0) ((0,z.2.1,[]):Nat×(List t0.den×List t0.den))=some r) (hk:look k s.fr=some (.at_ i p)) :
  ∃ S' ι',RS B S' ι' { ((s.a26 i).u5 i (.var r.1 r.2)) with fr:=Ex.put k (.val (.d0 false t0) z.2.1) ((s.a26 i).u5 i (.var r.1 r.2)).fr } a w:=by
 have cE:(g8.var u y)≠.J0:=λ h=>by cases h
 obtain ⟨e2,u2,y2,cs,r1,aP,r3,r4,r5⟩:=h.fr k _ hk;rw [he] at r1; cases r1;have r3:j8 u y p=some ⟨u2,y2⟩:=r3;rw [hg] at r3; cases r3;obtain ⟨O,hO,hR,dL,aI,bo,fT,dw⟩:=(h.hs.ob i _ he).see cE h.hs.slt;obtain ⟨O1,O3,b',aq,g1,g2,g3,g4,g5,g6⟩:=focus hR dL aP hg
 obtain ⟨b0,off0,q1,q2⟩:=r4;rw [F9 cE,g3] at q1; cases q1;have js:∀ b∈O1++O3,b∈ι.own i:=λ b hb=>hO.mem_iff.1 (g1.mem_iff.2 hb);have cf:(O1++O3).Nodup:=(g1.nodup_iff).1 ((hO.nodup_iff).2 (List.nodup_cons.1 aI).2);have bD:=(List.nodup_cons.1 aI).1;have bI:=h.hs.bl i _ he;have jf:f8 w.heap (λ b=>S b\/b∈O3) (.d0 false t0) [] cs z.2.1:=by
  rw [q2]; exact c1r g4 bT (λ _ hb=>.inr hb) (λ _ hb=>.inl hb)
 have iO:L8 w.heap b' (aq+(Ty.w6 t0).size):=by
  rcases g6 with ⟨rfl,_,g7⟩|⟨_,g7⟩
  ·obtain ⟨arr,T,hl,hn⟩:=dw
   exact ⟨arr,T,hl,Nat.le_trans g7 hn⟩
  ·exact g7
 have jO:f8 w.heap (λ b=>S b\/b∈O3) (.w6 t0) [] (d9 w.heap b' aq (Ty.w6 t0).size) ((0,z.2.1,[]):Nat×(List t0.den×List t0.den)):=by
  have:=jf; rw [q2] at this; exact this
 obtain ⟨O',k1,k2,k3⟩:=a4B g2 hg g3 dL bo (List.nodup_append.1 cf).1 (λ hc=>bD (js _ (List.mem_append_left _ hc))) (λ c hc=>by
  obtain ⟨q1,q2,q3⟩:=bI c (by simp [l6,js c (List.mem_append_left _ hc)]);exact ⟨q1,q3⟩) (bI _ (show (ι.root i).1∈(ι.root i).1::ι.own i from List.mem_cons_self)).1 h.hs.slt (λ _ hb=>.inl hb) (T9.refl iO) jO hr
 have bn:r.1.size=u.size:=E4 k3;have hD:=h.b7F he (t:=r.1) (z:=r.2) (O1:=O') (D:=O3) ((hO.symm.trans g1).trans (by
  refine List.Perm.append_right _ ?_;rw [List.append_nil] at k1; exact k1.symm)) bn k2
 refine ⟨_,_,⟨hD.hs,hD.dfr,hD.sz,λ t v hv=>?_⟩⟩;simp only [o7] at hv;by_cases e:t=k
 ·subst e
  rw [if_pos rfl] at hv; cases hv;exact ⟨cs,r5,jf⟩
 ·rw [if_neg e] at hv
  exact hD.fr t v hv
theorem RS.a3C (h:RS B S ι s a w) {i:Nat} (hp:pinned i=false) (t:Ty):∃ S' ι',RS B S' ι' (s.a3C i t) a w:=by
 have hl:∀ {j:Nat} {e:g8},look j (del i s.hp)=some e->look j s.hp=some e/\j≠i:=by
  intro j e hj;rw [I8] at hj;split at hj
  ·cases hj
  ·rename_i h9; exact ⟨hj,h9⟩
 have fA:∀ b,S b->(S b\/K2 ι s.hp [i] b):=λ _ h=>.inl h;refine ⟨λ b=>S b\/K2 ι s.hp [i] b,ι,⟨h.hs.os,h.hs.tape,h.hs.out,h.hs.size,h.hs.frame,?_,λ b hb=>.inl (h.hs.s0 b hb),?_,?_,?_,?_,?_⟩,h.dfr,h.sz,?_⟩
 ·rintro b (hb|⟨j,e,hj,he,hb⟩)
  ·exact h.hs.slt b hb
  ·exact (h.hs.bl j e he b hb).2.2
 ·rintro b (hb|⟨j,e,hj,he,hb⟩)
  ·exact h.hs.s1 b hb
  ·rcases (h.hs.bl j e he b hb).2.1 with q|q
   ·exact .inr (.inl q)
   ·exact .inr (.inr q)
 ·intro j e hj
  exact (h.hs.ob j e (hl hj).1).r8 (λ _ _=>rfl) fA
 ·intro j e hj b hb
  obtain ⟨r1,r2,r3⟩:=h.hs.bl j e (hl hj).1 b hb;refine ⟨λ hs=>hs.elim r1 ?_,r2,r3⟩;rintro ⟨k,ek,hk,he,ki⟩;rw [List.mem_singleton] at hk;subst hk;exact h.hs.dj j k e ek (hl hj).1 he (hl hj).2 b hb ki
 ·intro j k ej ek hj hk
  exact h.hs.dj j k ej ek (hl hj).1 (hl hk).1
 ·intro q hq
  obtain ⟨k0,⟨e',k1⟩,k2⟩:=h.hs.pin q hq;refine ⟨k0,⟨e',?_⟩,k2⟩;show look q.1 (del i s.hp)=_;rw [I8,if_neg (by rintro e1; rw [e1,hp] at k0; cases k0)]; exact k1
 ·intro t9 v hv
  simp only [St.a3C,N5,Option.map_eq_some_iff] at hv;obtain ⟨v0,eD,rfl⟩:=hv;refine VX.map (λ _ _=>rfl) (λ _ h=>.inl h) (λ v vs hr hm cY=>?_) (h.fr t9 v0 eD);unfold AV.c63;cases bS:v.i6 i with
  | false =>
   have bK:∀ j,v.i6 j=true->j≠i:=by rintro j hj rfl; rw [bS] at hj; cases hj
   have bN:VX w.heap (λ b=>S b\/K2 ι s.hp [i] b) ι s.hp v vs:=VX.grow (λ _ _=>rfl) (λ _ h=>.inl h) h.hs.slt h.hs.ob cY;exact VX.other (λ j hj=>by show look j (del i s.hp)=_; rw [I8,if_neg (bK j hj)]) (λ j hj=>E0.refl ι j) bN
  | true =>
   obtain ⟨x1,rfl⟩:=VX.one hr cY;have kQ:∀ b,K2 ι s.hp v.E7 b->(S b\/K2 ι s.hp [i] b):=by
    intro b hb;obtain ⟨j,e,hj,he,ik⟩:=hb;have dJ:j=i:=by
     cases v<;>simp only [AV.ref] at hr<;>try cases hr
     all_goals (simp only [AV.E7,List.mem_singleton] at hj; simp only [AV.i6] at bS; exact hj.trans (Nat.eq_of_beq_eq_true bS).symm)
    subst dJ;exact .inr ⟨j,e,by simp,he,ik⟩
   simp only
   split
   ·rename_i x hx
    obtain ⟨cs,e1,e2⟩:=b7P h.hs hx cY fA kQ;exact ⟨cs,by rw [e1],e2⟩
   ·split
    ·split
     ·rename_i x hx
      obtain ⟨b,off,e1,e2,e3,e4⟩:=b1f h.hs (show AV.asR s t (.ptr _ _)=some x from hx) cY fA kQ;exact ⟨b,off,by rw [e1],e2,e3,e4⟩
     ·exact ⟨_,rfl⟩
    ·exact ⟨_,rfl⟩
theorem RS.a5y (hM:∀ b,¬ B.M b):∀ {l:List Nat} {S:Nat->Prop} {ι:Ix} {s:St} {a:Act} {w:World},RS B S ι s a w->∃ S' ι',RS B S' ι' (s.a5y l) a w
 | [],S,ι,s,a,w,h=>⟨S,ι,h⟩
 | i::l,S,ι,s,a,w,h=>by
  unfold St.a5y
  split
  ·rename_i u y aX hp
   obtain ⟨S2,ι2,h2⟩:=h.a3C hp (.d0 false u.sh);exact RS.a5y hM h2
  ·exact RS.a5y hM h
theorem b9n (hM:E.ps.any PK.l5=false->∀ b,¬ B.M b) (h:RS B S ι s a w) (o:Oper):∃ S' ι',RS B S' ι' ((b4r E o s).getD s) a w:=by
 cases hd:b4r E o s with
 | none=>exact ⟨S,ι,h⟩
 | some s2 =>
  show ∃ S' ι',RS B S' ι' s2 a w;unfold b4r at hd;split at hd
  ·rename_i c hp ho
   split at hd
   ·split at hd
    ·split at hd
     ·rename_i i u y aX
      split at hd
      ·cases hd
      ·split at hd
       ·rename_i z hz
        cases hd;exact h.c1V aX hz
       ·cases hd
     ·cases hd
    ·split at hd
     ·rename_i lp _
      cases hd;exact h.a3C lp _
     ·cases hd
    ·split at hd
     ·cases hd
     ·cases hd
      exact RS.a5y (hM hp) h
    ·cases hd
   ·cases hd
  ·rename_i hp ho
   split at hd
   ·split at hd
    ·rename_i lp
     cases hd;exact h.a3C lp _
    ·cases hd
   ·cases hd
  ·cases hd
theorem V8 (hM:E.ps.any PK.l5=false->∀ b,¬ B.M b):∀ {l:List (Nat×Option Ty)} {S:Nat->Prop} {ι:Ix} {s:St} {a:Act} {w:World},RS B S ι s a w->∃ S' ι',RS B S' ι' (a4R E l s) a w
 | [],S,ι,s,a,w,h=>⟨S,ι,h⟩
 | (m,none)::l,S,ι,s,a,w,h=>V8 hM (l:=l) h
 | (m,some t)::l,S,ι,s,a,w,h=>by
  have key:∃ S' ι',RS B S' ι' (c3Q E m t s) a w:=by
   unfold c3Q
   split
   ·rename_i i hp _
    split
    ·rename_i u y aX
     split
     ·exact ⟨S,ι,h⟩
     ·split
      ·rename_i z hz
       exact h.c1V aX hz
      ·exact ⟨S,ι,h⟩
    ·exact ⟨S,ι,h⟩
   ·rename_i i p hm
    split
    case h_2=>exact ⟨S,ι,h⟩
    unfold c4Z
    split
    ·rename_i u y aX
     split
     ·rename_i t0 z hg
      split
      ·rename_i r bT hr
       have hk:look m s.fr=some (.at_ i p):=by
        unfold St.get at hm;cases hl:look m s.fr with
        | none=>rw [hl] at hm; cases hm
        | some v=>rw [hl] at hm; exact congrArg some hm
       exact h.c7S aX hg bT hr hk
      ·exact ⟨S,ι,h⟩
     ·exact ⟨S,ι,h⟩
    ·exact ⟨S,ι,h⟩
   ·rename_i hm
    split
    ·rename_i u
     have hg:=h.get m;rw [hm] at hg;have hv:a.tmps.getD m (B.gd m)=Value.slice none 0 0:=by
      have:[a.tmps.getD m (B.gd m)]=[Value.slice none 0 0]:=hg;simpa using this
     exact ⟨S,ι,h.slot (t:=m) (v:=.val (.d0 false u) ([]:List u.den)) ⟨[.slice none 0 0],by rw [hv]; rfl,.inl ⟨rfl,⟨none,0,rfl,λ _=>rfl⟩,rfl⟩⟩⟩
    ·exact ⟨S,ι,h⟩
   ·exact ⟨S,ι,h⟩
  obtain ⟨S',ι',h'⟩:=key;exact V8 hM (l:=l) h'
theorem b6i (h:RS B S ι s a w) (o:Oper):∃ ι',RS B S ι' ((b3h E o s).getD s) a w:=by
 cases hd:b3h E o s with
 | none=>exact ⟨ι,h⟩
 | some s' =>
  show ∃ ι',RS B S ι' s' a w;unfold b3h at hd;split at hd
  ·split at hd
   ·rename_i g tx ys hc ha
    split at hd
    ·rename_i t ks rs pre fn out nw i st p mL hx
     split at hd
     ·rename_i u y aX
      split at hd
      ·rename_i v l r hg aO
       split at hd
       ·rename_i hv
        subst hv;split at hd
        ·rename_i bR
         cases hd;simp only [Bool.and_eq_true] at bR;have aX:look i s.hp=some (.var u y):=aX;have eS:=h.fr tx _ hx;obtain ⟨e1,u1,y1,cs,r1,aP,r3,hcs,r5⟩:=eS;rw [aX] at r1; cases r1;have hg:j8 (g8.var u y).ty (g8.var u y).x (st::p)=some ⟨.d0 true t,l⟩:=hg;rw [hg] at r3; cases r3;obtain ⟨Op,m1,mn,jr⟩:=F1 h.hs aX aP hg hcs;obtain ⟨b,off,k1,k2⟩:=id hcs;have cE:(g8.var u y)≠.J0:=by intro h; cases h
         have db:b<w.heap.size:=by
          obtain ⟨b',aq,O2,q1,q2,q3,q4,q5,q6⟩:=(h.hs.ob i _ aX).part cE h.hs.slt aP hg;rw [q1] at k1; cases k1;rcases Nat.lt_or_ge b w.heap.size with h9|h9
          ·exact h9
          ·have q5:off+1<=(s9 w.heap b).length:=q5
           simp only [s9,Array.getElem?_eq_none h9,List.length_nil] at q5;omega
         have hl:Loc w.heap ι i (.var u y) (st::p)=some (b,off):=Z7 k1 db;have gi:f8 w.heap S (.d0 true t) Op (d9 w.heap b off (Ty.d0 true t).size) l:=by
          rw [k2,l4 (E9 db)] at jr;exact jr
         have cv:∃ c0,d9 w.heap b off (Ty.d0 true t).size=[c0]/\b9a c0=true:=by
          rcases gi with ⟨_,⟨a1,c1,e1,_⟩,_⟩|⟨b1,o1,cap1,O1,e1,_⟩
          ·exact ⟨_,e1,rfl⟩
          ·exact ⟨_,e1,rfl⟩
         obtain ⟨c0,dO,mD⟩:=cv;obtain ⟨ι',⟨O,rfl,hO⟩,h0⟩:=h.b3G aX aP hg hl (u':=.hole t) (z:=([]:List t.den)) (cs:=[c0]) (O2:=[]) (λ H' _ _=>⟨rfl,c0,rfl,mD⟩) rfl List.nodup_nil (by simp) aO (by intro h; cases h);have hw:w.setRow b (over (s9 w.heap b) off [c0]).toArray=w:=by
          obtain ⟨O2,q1,q2,q3,m4,m5,arr,T,⟨fz,e1,_⟩,hn⟩:=N7 (L7 hl) (h.hs.ob i _ aX) h.hs.slt aP hg hl;have hb:s9 w.heap b=arr.toList:=by simp only [s9,e1]
          have:over (s9 w.heap b) off [c0]=s9 w.heap b:=by
           rw [<- dO]; exact over_self m4
          rw [this,hb]; exact setRow_self w b arr T fz (by simpa using e1)
         rw [hw] at h0;have dd:∀ c∈Op,c∈l6 ι i (.var u y):=λ c hc=>F6 (m1 c hc);have hF:C9 B S (ι.y8 i O) ((s.kill i (g8.var u y).kd (st::p)).u5 i (.var r.1 r.2)).hp w Op:=by
          refine ⟨mn,λ c hc=>?_⟩;obtain ⟨z1,z2,z3⟩:=h.hs.bl i _ aX c (dd c hc);refine ⟨z1,z2,z3,λ j ej r2 r3=>?_⟩;simp only [St.u5,o7] at r2;by_cases hj:j=i
          ·subst hj
           rw [if_pos rfl] at r2; cases r2;have r3:c∈(ι.root j).1::(ι.y8 j O).own j:=r3;simp only [Ix.y8,if_true] at r3;refine (List.mem_cons.1 r3).elim (λ g3=>?_) (λ g3=>?_)
           ·obtain ⟨_,_,aI⟩:=h.hs.ob j _ aX
            exact (List.nodup_cons.1 aI).1 (g3▸m1 c hc)
           ·rcases (hO c g3).2 with h9|h9
            ·cases h9
            ·exact h9 Op gi hc
          ·rw [if_neg hj] at r2
           rw [(a0p hj O).l6] at r3;exact h.hs.dj i j _ ej aX r2 (Ne.symm hj) c (dd c hc) r3
         have h1:=h0.hold bR.2 gi hF;refine ⟨_,h1.slot (t:=tx) (v:=.at_ (1600000+tx) []) ?_⟩;have e9:[a.tmps.getD tx (B.gd tx)]=[j9 (.d0 true t) (d9 w.heap b off (Ty.d0 true t).size)]:=by
          rw [r5,k2,l4 (E9 db)]
         rw [e9];exact a4X gi.length
        ·cases hd
       ·cases hd
      ·cases hd
     ·cases hd
    ·cases hd
   ·cases hd
  ·cases hd
theorem RS.c6R (h:RS B S ι s a w) {i:Nat} {u t:Ty} {y:u.den} {z:t.den} (he:look i s.hp=some (.own u y)) (qB:∀ {O:List Nat} {cs:List Value},f8 w.heap S u O cs y->f8 w.heap S t O cs z) (cV:u.agg=t.agg) (bn:u.size=t.size) :
  RS B S ι { fr:=mapA (AV.map λ v=>match v.i6 i with|false=>v|true=>match v with|.at_ j []=>.at_ j []|_=>.any) s.fr,hp:=Ex.put i (.own t z) s.hp } a w:=by
 obtain ⟨⟨O,hO,hR⟩,aI⟩:=h.hs.ob i _ he;have ki:∀ j ej,look j (Ex.put i (.own t z) s.hp)=some ej->∃ e0,look j s.hp=some e0/\l6 ι j ej=l6 ι j e0:=by
  intro j ej hj;rw [o7] at hj;by_cases e1:j=i
  ·subst e1; rw [if_pos rfl] at hj; cases hj; exact ⟨_,he,rfl⟩
  ·rw [if_neg e1] at hj; exact ⟨_,hj,rfl⟩
 refine ⟨⟨h.hs.os,h.hs.tape,h.hs.out,h.hs.size,h.hs.frame,h.hs.slt,h.hs.s0,h.hs.s1,?_,?_,?_,?_⟩,h.dfr,h.sz,?_⟩
 ·intro j ej hj
  rw [o7] at hj;by_cases e1:j=i
  ·subst e1; rw [if_pos rfl] at hj; cases hj
   exact ⟨⟨O,hO,qB hR⟩,aI⟩
  ·rw [if_neg e1] at hj; exact h.hs.ob j ej hj
 ·intro j ej hj b hb
  obtain ⟨e0,h1,h2⟩:=ki j ej hj;rw [h2] at hb;exact h.hs.bl j e0 h1 b hb
 ·intro j k ej ek hj hk gw c hc
  obtain ⟨e0,h1,h2⟩:=ki j ej hj;obtain ⟨e3,h4,h5⟩:=ki k ek hk;rw [h2] at hc;rw [h5];exact h.hs.dj j k e0 e3 h1 h4 gw c hc
 ·intro q hq
  obtain ⟨k0,⟨e',k1⟩,k2,k3⟩:=h.hs.pin q hq;refine ⟨k0,?_,k2,k3⟩;rw [o7];by_cases e1:q.1=i
  ·exact ⟨_,by rw [if_pos e1]⟩
  ·exact ⟨e',by rw [if_neg e1]; exact k1⟩
 ·intro t9 v hv
  simp only [N5,Option.map_eq_some_iff] at hv;obtain ⟨v0,eD,rfl⟩:=hv;refine VX.map (λ _ _=>rfl) (λ _ h=>h) (λ v vs hr hm cY=>?_) (h.fr t9 v0 eD);cases bS:v.i6 i with
  | false =>
   have bK:∀ j,v.i6 j=true->j≠i:=by rintro j hj rfl; rw [bS] at hj; cases hj
   exact VX.other (λ j hj=>by rw [o7,if_neg (bK j hj)]) (λ j hj=>⟨rfl,rfl,rfl⟩) cY
  | true =>
   have cu:=VX.one hr cY;simp only
   split
   ·rename_i j
    have dJ:i=j:=Nat.eq_of_beq_eq_true bS;subst dJ;obtain ⟨e,u',y',cs,k1,k2,k3,⟨b,off,k4,k5⟩,k6⟩:=cY;rw [he] at k1; cases k1;simp only [j8,Option.some.injEq,Sigma.mk.injEq] at k3;obtain ⟨rfl,_⟩:=k3;refine ⟨.own t z,t,z,cs,by rw [o7,if_pos rfl],K9,by simp only [j8]; rfl,⟨b,off,?_,?_⟩,?_⟩
    ·simp only [Place,VR,VH,x6] at k4 ⊢
     exact k4
    ·rw [<- bn]; exact k5
    ·rw [k6]; exact congrArg (λ v=>[v]) (a7v cV cs)
   ·exact cu
theorem b8W (h:RS B S ι s a w) (o:Oper):RS B S ι (b8X E o s) a w:=by
 unfold b8X
 split
 ·split
  ·split
   ·rename_i i _
    split
    ·rename_i t z aX
     split
     ·rename_i hc
      simp only [Bool.and_eq_true] at hc
      split
      ·exact h
      ·rename_i bT
       exact h.c6R (t:=.d0 true t) (z:=z.2.1) aX (λ hr=>b8V bT (Nat.le_of_ble_eq_true hc.1) (Nat.le_of_ble_eq_true hc.2) hr) rfl rfl
     ·exact h
    ·exact h
   ·exact h
  ·exact h
 ·exact h
theorem b8M (hM:E.ps.any PK.l5=false->∀ b,¬ B.M b) (h0:RS B S ι s a w) (o:Oper):∃ S' ι',RS B S' ι' (b8N E o s) a w:=by
 have h:=b8W (E:=E) h0 o;unfold b8N c4V;generalize b8X E o s=s at h;obtain ⟨S',ι',h1⟩:=b9n hM h o;obtain ⟨ι2,h2⟩:=b6i (E:=E) h1 o;exact ⟨S',ι2,h2⟩
theorem b6e (hM:E.ps.any PK.l5=false->∀ b,¬ B.M b) (h:RS B S ι s a w) (ops:Array Oper):∃ S' ι',RS B S' ι' (b8L E ops s) a w:=by
 unfold b8L
 split
 ·rename_i hp _
  split
  ·rename_i lp
   exact h.a3C lp _
  ·exact ⟨S,ι,h⟩
 ·exact ⟨S,ι,h⟩
theorem a9D (hM:E.ps.any PK.l5=false->∀ b,¬ B.M b) (h:RS B S ι s a w) (ops:Array Oper):∃ S' ι',RS B S' ι' (b8J E ops s) a w:=by
 unfold b8J
 split
 ·exact V8 hM h
 ·exact ⟨S,ι,h⟩
theorem b8K (hM:E.ps.any PK.l5=false->∀ b,¬ B.M b) (h:RS B S ι s a w) (ops:Array Oper):∃ S' ι',RS B S' ι' (b0N E ops s) a w:=by
 obtain ⟨S',ι',h'⟩:=a9D (E:=E) hM h ops;exact b6e hM h' ops
theorem U0 (hE:C2 E B) (hn:B.n=E.nt) (hM:E.ps.any PK.l5=false->∀ b,¬ B.M b) {ops:Array Oper} {k:St->Tree (E.rs++F4 E.ps)} {L:Code->List Item->St->Prop} {Rt:DL (E.rs++F4 E.ps)->Prop} {Q:Exit->Act->World->Prop} (hk:∀ S' ι' s' a' w',RS B S' ι' s' a' w'->(k s').holds L Rt->Q .normal a' w') :
  ∀ {l:List Oper} {m:Nat} {S:Nat->Prop} {ι:Ix} {s:St} {a:Act} {w:World},RS B S ι s a w->(a2O E ops m l s k).holds L Rt->wpList E.P ops Q (l.drop m) a w
 | [],m,S,ι,s,a,w,h,ht=>by
  rw [List.drop_nil];cases m<;>exact hk S ι s a w h ht
 | o::l,m+1,S,ι,s,a,w,h,ht=>U0 hE hn hM hk (l:=l) (m:=m) h ht
 | o::l,0,S0,ι0,s0,a,w,h0,ht=>by
  show wpList E.P ops Q (o::l) a w;unfold a2O at ht;obtain ⟨S,ι,h⟩:=b8M hM h0 o;dsimp only at ht;generalize b8N E o s0=s at h ht;split at ht
  ·rename_i p s' n hf
   unfold c43 at hf;split at hf
   ·rename_i d c hg hd fY ho
    split at hf
    ·rename_i x y T U hc ha hT
     split at hf
     ·split at hf
      ·cases hf
      ·rw [<- hn,hd] at fY
       obtain ⟨v',w',g1,g2⟩:=a6H hE hn ho hc ha hT fY (ops:=ops) (Q:=Q) h hf ht.1;unfold wpList;simp only [Region.wanted,hg,if_true];refine .inl ?_;unfold Oper.wp;rw [g1];show wpList E.P ops Q l (a.put o.dst v') w';rw [hd];exact g2 (λ S' ι' a' w'' h'=>U0 hE hn hM hk (l:=l) (m:=n) h' (ht.2 ht.1))
     ·cases hf
    ·cases hf
   ·cases hf
  ·split at ht
   ·rename_i p s' n hf
    unfold c42 at hf;split at hf
    ·rename_i d c hg hd fY ho
     split at hf
     ·rename_i g x ys hc ha
      split at hf
      ·split at hf
       ·cases hf
       ·rw [<- hn,hd] at fY
        unfold wpList;simp only [Region.wanted,hg,if_true];refine .inl ((a58 hE hn ho hc ha fY (ops:=ops) (Q:=Q) h hf ht.1 (λ S' ι' a' w'' h'=>U0 hE hn hM hk (l:=l) (m:=n) h' (ht.2 ht.1))).wp (λ v' w' hw=>?_));rw [hd]; exact hw
      ·cases hf
     ·cases hf
    ·cases hf
   ·split at ht
    ·rename_i p s' hf
     obtain ⟨hg,aW⟩:=b6T hE hn h hf ht.1;unfold wpList;simp only [Region.wanted,hg,if_true];refine .inl (aW.wp (λ v' w' hw=>?_));obtain ⟨ι',h'⟩:=hw;exact U0 hE hn hM hk (l:=l) (m:=0) h' (ht.2 ht.1)
    ·split at ht
     ·rename_i p s' hf
      obtain ⟨hg,aW⟩:=b6l hE hn hM h hf ht.1;unfold wpList;simp only [Region.wanted,hg,if_true];exact .inl (aW _ Q (λ S' ι' a' w' h'=>U0 hE hn hM hk (l:=l) (m:=0) h' (ht.2 ht.1)))
     ·split at ht
      ·rename_i p v1 v2 hg hd hb
       rw [<- hn] at hd;obtain ⟨val,aW,hv⟩:=c2j hE h hb;unfold wpList;simp only [Region.wanted,hg,if_true];refine .inl ?_;unfold Oper.wp;rw [aW];rcases hv with ⟨hp,hv⟩|hv
       ·exact U0 hE hn hM hk (l:=l) (m:=0) (h.put hd hv) (ht.1 hp)
       ·exact U0 hE hn hM hk (l:=l) (m:=0) (h.put hd hv) ht.2
      ·have:=a7V hE hn h (ops:=ops) o (k:=λ s'=>a2O E ops 0 l s' k) ht (next:=wpList E.P ops Q l) (Q:=Q) (λ S' ι' s' a' w' h1 h2=>U0 hE hn hM hk (l:=l) (m:=0) h1 h2)
       unfold wpList
       split
       ·rename_i hw; rw [if_pos hw] at this; exact .inl this
       ·rename_i hw; rw [if_neg hw] at this; exact this
end
end Go.Ex
namespace Go.Ex
section
variable {E:Env} {ops:Array Oper}
theorem a1o {α:Type _} {Y:α->Prop} {a:α}:Y a↔∃ (p:Prop) (s:α),some (True,a)=some (p,s)/\p/\Y s:=by
 constructor
 ·intro h; exact ⟨_,_,rfl,trivial,h⟩
 ·rintro ⟨p,s,h,_,h2⟩; cases h; exact h2
theorem b3X {o:Oper} {s:St} {k:St->Tree (E.rs++F4 E.ps)} {L:Code->List Item->St->Prop} {R:DL (E.rs++F4 E.ps)->Prop}:(a5g E o s k).holds L R↔∃ p s',a0t E o s=some (p,s')/\p/\(k s').holds L R:=by
 unfold a5g a0t;cases hd:J5 E.nt o.dst with
 | false=>simp [Tree.holds]
 | true =>
  simp only;have other:∀ r:OR,(match r with|.fail why=>Tree.stuck why|.ok v s'=>k (s'.put o.dst v)|.E5 p v s'=>Tree.f6 p (k (s'.put o.dst v))).holds L R ↔
    ∃ p s',(match r.get with|none=>none|some (p,v,s')=>some (p,s'.put o.dst v))=some (p,s')/\p/\(k s').holds L R:=by
   intro r;cases r with
   | fail why=>simp [Tree.holds,OR.get]
   | ok v s'=>exact a1o (Y:=λ s'=>(k s').holds L R)
   | E5 p v s' =>
    simp only [Tree.holds,OR.get,Option.some.injEq,Prod.mk.injEq];constructor
    ·rintro ⟨h1,h2⟩; exact ⟨_,_,⟨rfl,rfl⟩,h1,h2 h1⟩
    ·rintro ⟨_,_,⟨rfl,rfl⟩,h1,h2⟩; exact ⟨h1,λ _=>h2⟩
  cases ho:o.op with
  | pick c a b =>
   simp only;cases hc:s.ev c with
   | val t x =>
    cases t with
    | bool =>
     cases x with
     | true=>exact a1o (Y:=λ s'=>(k s').holds L R)
     | false=>exact a1o (Y:=λ s'=>(k s').holds L R)
    | _=>simp [Tree.holds]
   | _=>simp [Tree.holds]
  | _=>exact other _
theorem b3Y {o:Oper} {s:St} {k:St->Tree (E.rs++F4 E.ps)} {L:Code->List Item->St->Prop} {R:DL (E.rs++F4 E.ps)->Prop}:(a4F E ops o s k).holds L R↔∃ p s',K5 E ops o s=some (p,s')/\p/\(k s').holds L R:=by
 unfold a4F K5;cases hg:o.guard with
 | none=>exact b3X
 | some jw =>
  obtain ⟨j,want⟩:=jw;simp only;cases hs:a1s ops j with
  | none=>simp [Tree.holds]
  | some g =>
   simp only;cases hv:s.ev (.tmp g) with
   | raw v =>
    cases v with
    | tuple vs =>
     simp only;cases hd:J5 E.nt o.dst with
     | false=>simp [Tree.holds]
     | true=>exact a1o (Y:=λ s'=>(k s').holds L R)
    | _=>simp [Tree.holds]
   | val t x =>
    cases t with
    | bool =>
     simp only;cases hd:J5 E.nt o.dst with
     | false=>simp [Tree.holds]
     | true =>
      simp only;cases x with
      | true =>
       cases want with
       | true=>exact b3X
       | false=>exact a1o (Y:=λ s'=>(k s').holds L R)
      | false =>
       cases want with
       | true=>exact a1o (Y:=λ s'=>(k s').holds L R)
       | false=>exact b3X
    | _=>simp [Tree.holds]
   | _=>simp [Tree.holds]
def a3f (ops:Array Oper) (x:Oper) (sx:St) (Tx:List Nat) (y:Oper) (Ty:List Nat):Prop :=
 (∀ m∈looks ops y,∀ i∈Tx,(I0 y (sx.get m)).i6 i=false)/\(∀ m∈looks ops x,∀ i∈Ty,(I0 x (sx.get m)).i6 i=false)/\(∀ i∈Tx,i % 1000≠(y.dst.getD 0) % 1000)
theorem c5v {e:Met} {y:Oper} {Ty:List Nat} (h:b8R ops e y Ty=true):a3f ops e.o e.s e.T y Ty:=by
 simp only [b8R,Bool.and_eq_true] at h;obtain ⟨h1,h2⟩:=h;refine ⟨?_,?_,?_⟩
 ·intro m hm i hi
  split at h1
  ·rename_i he; rw [he] at hi; cases hi
  ·simp only [Bool.and_eq_true,List.all_eq_true,Bool.not_eq_true'] at h1
   exact h1.1 m hm i hi
 ·intro m hm i hi
  split at h2
  ·cases hi
  ·simp only [List.all_eq_true,Bool.not_eq_true'] at h2
   exact h2 m hm i hi
 ·intro i hi fW
  split at h1
  ·rename_i he; rw [he] at hi; cases hi
  ·simp only [Bool.and_eq_true,List.all_eq_true,Bool.not_eq_true'] at h1
   have:=h1.2 i hi;rw [fW] at this;simp at this
def a3d (E:Env) (ops:Array Oper) (M:Nat->Nat):List (Nat×St)->List Nat->St->St->Prop
 | _,[],s,s'=>s=s'
 | acc,i::l,s,s'=>∃ o,ops[i]?=some o/\(∀ e∈acc,(M i).testBit e.1=true\/∃ x,ops[e.1]?=some x/\a3f ops x e.2 (l5 E x e.2) o (l5 E o s)) /\
   ∃ p s1,K5 E ops o s=some (p,s1)/\p/\a3d E ops M ((i,s)::acc) l s1 s'
theorem c1T {o:Oper} {l:List Oper} {n:Nat} (hl:ops.toList.drop n=o::l):ops[n]?=some o/\ops.toList.drop (n+1)=l/\ops.size=n+1+l.length:=by
 have h1:(ops.toList.drop n)[0]?=some o:=by rw [hl]; rfl
 have h2:(ops.toList.drop n).length=(o::l).length:=by rw [hl]
 simp only [List.length_drop,List.length_cons,Array.length_toList] at h2;refine ⟨by simpa using h1,?_,by omega⟩;rw [<- List.drop_drop,hl]; rfl
end
end Go.Ex
namespace Go.Ex
def uniq {α:Type _}:List (Nat×α)->Prop
 | []=>True
 | (n,_)::l=>(∀ q∈l,n<q.1)/\uniq l
theorem a3T {α:Type _} {n:Nat}:∀ {l:List (Nat×α)},(∀ q∈l,n<q.1)->look n l=none
 | [],_=>rfl
 | (m,x)::l,h=>by
  have:=h (m,x) (by simp);simp only [look,a2H (Nat.ne_of_lt this)];exact a3T (λ q hq=>h q (by simp [hq]))
theorem b7l {α:Type _} {n:Nat} {x:α} {q:Nat×α}:∀ {l:List (Nat×α)},q∈put n x l->q.1=n\/q∈l
 | [],h=>by simp [put] at h; exact .inl (by rw [h])
 | (m,y)::l,h=>by
  simp only [put] at h;split at h
  ·rcases List.mem_cons.1 h with rfl|h
   ·exact .inl rfl
   ·exact .inr (by simp [h])
  ·split at h
   ·rcases List.mem_cons.1 h with rfl|h
    ·exact .inl rfl
    ·exact .inr h
   ·rcases List.mem_cons.1 h with rfl|h
    ·exact .inr (by simp)
    ·exact (b7l h).imp id (λ h=>by simp [h])
theorem b3B {α:Type _} (n:Nat) (x:α):∀ {l:List (Nat×α)},uniq l->uniq (put n x l)
 | [],_=>⟨by simp,trivial⟩
 | (m,y)::l,⟨h1,h2⟩=>by
  simp only [put];cases hb:Nat.beq n m with
  | true=>have:=Nat.eq_of_beq_eq_true hb; subst this; exact ⟨h1,h2⟩
  | false =>
   have bK:n≠m:=by rintro rfl; simp at hb
   simp only;cases bo:Nat.blt n m with
   | true =>
    have bo:n<m:=by simpa [Nat.blt_eq] using bo
    exact ⟨λ q hq=>by
     rcases List.mem_cons.1 hq with rfl|hq
     ·exact bo
     ·exact Nat.lt_trans bo (h1 q hq),h1,h2⟩
   | false =>
    have bo:¬ n<m:=by
     intro hl;have h3:Nat.blt n m=true:=by simpa [Nat.blt_eq] using hl
     rw [h3] at bo; cases bo
    refine ⟨λ q hq=>?_,b3B n x h2⟩;rcases b7l hq with e|hq
    ·omega
    ·exact h1 q hq
theorem s7 {α:Type _}:∀ {l:List (Nat×α)},a9k l=true->uniq l
 | [],_=>trivial
 | (n,x)::l,h=>by
  simp only [a9k,Bool.and_eq_true] at h;have ih:=s7 h.2;refine ⟨?_,ih⟩;cases l with
  | nil=>simp
  | cons q l =>
   obtain ⟨m,y⟩:=q;have bo:n<m:=by simpa [Nat.blt_eq] using h.1
   intro q hq;rcases List.mem_cons.1 hq with rfl|hq
   ·exact bo
   ·exact Nat.lt_trans bo (ih.1 q hq)
theorem a32 {d:Nat}:∀ {l:List (Nat×AV)},uniq l->(∀ n v,look n l=some v->v.i6 d=false)->Y8 d l=true
 | [],_,_=>rfl
 | (m,v)::l,⟨h0,h2⟩,h=>by
  have h1:=a3T h0;simp only [Y8,Bool.and_eq_true,Bool.not_eq_true'];refine ⟨h m v (by simp [look]),a32 h2 (λ n w hw=>h n w ?_)⟩;simp only [look];cases hb:Nat.beq n m with
  | true=>have:=Nat.eq_of_beq_eq_true hb; subst this; rw [h1] at hw; cases hw
  | false=>exact hw
theorem G8:∀ {v:AV} {i:Nat},i∈v.E7↔v.i6 i=true:=by
 intro v
 induction v with
 | cons a b iha ihb=>intro i; simp only [AV.E7,List.mem_append,AV.i6,Bool.or_eq_true,iha,ihb]
 | J8 l ih=>intro i; exact ih
 | B8 f l ih=>intro i; exact ih
 | bx l ih=>intro i; exact ih
 | rc f l ih=>intro i; exact ih
 | ptr j p=>intro i; simp [AV.E7,AV.i6]
 | at_ j p=>intro i; simp [AV.E7,AV.i6]
 | sub j p a b=>intro i; simp [AV.E7,AV.i6]
 | _=>intro i; simp [AV.E7,AV.i6]
def AV.plain:AV->Bool
 | .any|.raw _|.val _ _|.M4 _ _|.nil=>true
 | _=>false
structure Trim (T:List Nat) (f:AV->AV):Prop where
 cons:∀ a b,f (.cons a b)=.cons (f a) (f b)
 J8:∀ l,f (.J8 l)=.J8 (f l)
 B8:∀ g l,f (.B8 g l)=.B8 g (f l)
 bx:∀ l,f (.bx l)=.bx (f l)
 rc:∀ g l,f (.rc g l)=.rc g (f l)
 atom:∀ u,u.ref=true->f u=u\/f u=.any
 a8M:∀ u,u.ref=true->(∀ i∈T,u.i6 i=false)->f u=u
 plain:∀ u,u.plain=true->f u=u
theorem AV.shape (P:AV->Prop) (hp:∀ u,u.plain=true->P u) (ha:∀ u,u.ref=true->P u) (hc:∀ a b,P a->P b->P (.cons a b)) (ht:∀ l,P l->P (.J8 l)) (hf:∀ g l,P l->P (.B8 g l)) (hb:∀ l,P l->P (.bx l)) (hr:∀ g l,P l->P (.rc g l)):∀ u,P u:=by
 intro u
 induction u with
 | cons a b iha ihb=>exact hc a b iha ihb
 | J8 l ih=>exact ht l ih
 | B8 f l ih=>exact hf f l ih
 | bx l ih=>exact hb l ih
 | rc f l ih=>exact hr f l ih
 | ptr j p=>exact ha _ rfl
 | at_ j p=>exact ha _ rfl
 | sub j p a b=>exact ha _ rfl
 | _=>exact hp _ rfl
section
variable {T T':List Nat} {f g:AV->AV}
theorem Trim.id (T:List Nat):Trim T (λ u=>u):=⟨λ _ _=>rfl,λ _=>rfl,λ _ _=>rfl,λ _=>rfl,λ _ _=>rfl,λ _ _=>.inl rfl,λ _ _ _=>rfl,λ _ _=>rfl⟩
theorem Trim.map {g:AV->AV} (h1:∀ u,u.ref=true->g u=u\/g u=.any) (h2:∀ u,u.ref=true->(∀ i∈T,u.i6 i=false)->g u=u):Trim T (AV.map g):=by
 have e:∀ u:AV,u.ref=true->u.map g=g u:=by intro u hu; cases u<;>simp only [AV.ref] at hu<;>first|rfl|cases hu
 exact ⟨λ _ _=>rfl,λ _=>rfl,λ _ _=>rfl,λ _=>rfl,λ _ _=>rfl,λ u hu=>by rw [e u hu]; exact h1 u hu,λ u hu hm=>by rw [e u hu]; exact h2 u hu hm,λ u hu=>by cases u<;>simp only [AV.plain] at hu<;>first|rfl|cases hu⟩
theorem Trim.comp (hf:Trim T f) (hg:Trim T' g) {U:List Nat} (h1:∀ i∈T,i∈U) (h2:∀ i∈T',i∈U):Trim U (λ u=>g (f u)):=by
 refine ⟨λ a b=>by rw [hf.cons,hg.cons],λ l=>by rw [hf.J8,hg.J8],λ k l=>by rw [hf.B8,hg.B8],λ l=>by rw [hf.bx,hg.bx],λ k l=>by rw [hf.rc,hg.rc],?_,?_,λ u hu=>by rw [hf.plain u hu,hg.plain u hu]⟩
 ·intro u hu
  rcases hf.atom u hu with h|h
  ·rw [h]; exact hg.atom u hu
  ·rw [h]; exact .inr (hg.plain _ rfl)
 ·intro u hu hm
  rw [hf.a8M u hu (λ i hi=>hm i (h1 i hi)),hg.a8M u hu (λ i hi=>hm i (h2 i hi))]
theorem Trim.mono (hf:Trim T f) (h:∀ i∈T,i∈T'):Trim T' f:=⟨hf.cons,hf.J8,hf.B8,hf.bx,hf.rc,hf.atom,λ u hu hm=>hf.a8M u hu (λ i hi=>hm i (h i hi)),hf.plain⟩
theorem Trim.fix (hf:Trim T f):∀ u,(∀ i∈T,u.i6 i=false)->f u=u:=by
 refine AV.shape _ (λ u hu _=>hf.plain u hu) (λ u hu hm=>hf.a8M u hu hm) ?_ ?_ ?_ ?_ ?_
 ·intro a b ha hb hm
  simp only [AV.i6,Bool.or_eq_false_iff] at hm;rw [hf.cons,ha (λ i hi=>(hm i hi).1),hb (λ i hi=>(hm i hi).2)]
 ·intro l hl hm; rw [hf.J8,hl hm]
 ·intro k l hl hm; rw [hf.B8,hl hm]
 ·intro l hl hm; rw [hf.bx,hl hm]
 ·intro k l hl hm; rw [hf.rc,hl hm]
theorem Trim.i6 (hf:Trim T f) {i:Nat}:∀ u,(f u).i6 i=true->u.i6 i=true:=by
 refine AV.shape _ (λ u hu h=>by rw [hf.plain u hu] at h; exact h) (λ u hu h=>?_) ?_ ?_ ?_ ?_ ?_
 ·rcases hf.atom u hu with e|e
  ·rw [e] at h; exact h
  ·rw [e] at h; cases h
 ·intro a b ha hb h
  rw [hf.cons] at h;simp only [AV.i6,Bool.or_eq_true] at h ⊢;exact h.imp ha hb
 ·intro l hl h; rw [hf.J8] at h; exact hl h
 ·intro k l hl h; rw [hf.B8] at h; exact hl h
 ·intro l hl h; rw [hf.bx] at h; exact hl h
 ·intro k l hl h; rw [hf.rc] at h; exact hl h
theorem Trim.comm (hf:Trim T f) (hg:Trim T' g):∀ u,f (g u)=g (f u):=by
 refine AV.shape _ (λ u hu=>by rw [hf.plain u hu,hg.plain u hu,hf.plain u hu]) (λ u hu=>?_) ?_ ?_ ?_ ?_ ?_
 ·have ha:f .any=.any:=hf.plain _ rfl
  have hb:g .any=.any:=hg.plain _ rfl;rcases hf.atom u hu with e|e<;>rcases hg.atom u hu with e'|e'<;>simp only [e,e',ha,hb]
 ·intro a b ha hb; rw [hg.cons,hf.cons,hf.cons,hg.cons,ha,hb]
 ·intro l hl; rw [hg.J8,hf.J8,hf.J8,hg.J8,hl]
 ·intro k l hl; rw [hg.B8,hf.B8,hf.B8,hg.B8,hl]
 ·intro l hl; rw [hg.bx,hf.bx,hf.bx,hg.bx,hl]
 ·intro k l hl; rw [hg.rc,hf.rc,hf.rc,hg.rc,hl]
theorem Trim.drop (i:Nat):Trim [i] (AV.drop i):=by
 refine Trim.map (λ u _=>?_) (λ u _ hm=>?_)
 ·cases hm:u.i6 i with
  | true=>exact .inr (by simp only)
  | false=>exact .inl (by simp only)
 ·simp only [hm i (by simp)]
theorem Trim.kill (i:Nat) (ow:Bool×Ty) (q:List Step):Trim [i] (AV.kill i ow q):=by
 refine Trim.map (λ u hu=>?_) (λ u _ hm=>?_)
 ·unfold AV.a9N
  split
  ·exact .inl rfl
  ·split
   ·split<;>first|exact .inl rfl|exact .inr rfl
   ·split
    ·exact .inl rfl
    ·split<;>first|exact .inl rfl|exact .inr rfl
   ·split<;>first|exact .inl rfl|exact .inr rfl
   ·split<;>first|exact .inl rfl|exact .inr rfl
   ·exact .inr rfl
 ·unfold AV.a9N; rw [hm i (by simp)]
theorem Trim.U1 (i:Nat) (ow:Bool):Trim [i] (AV.map (AV.a1H i ow)):=by
 refine Trim.map (λ u hu=>?_) (λ u _ hm=>?_)
 ·unfold AV.a1H
  split
  ·exact .inl rfl
  ·split
   ·split<;>first|exact .inl rfl|exact .inr rfl
   ·split<;>first|exact .inl rfl|exact .inr rfl
   ·split<;>first|exact .inl rfl|exact .inr rfl
   ·exact .inr rfl
 ·unfold AV.a1H; rw [hm i (by simp)]
def a1K:List Nat->AV->AV
 | [],u=>u
 | i::g,u=>a1K g (u.drop i)
theorem Trim.u4:∀ g:List Nat,Trim g (a1K g)
 | []=>Trim.id []
 | i::g=>Trim.comp (Trim.drop i) (Trim.u4 g) (by simp) (λ j hj=>List.mem_cons_of_mem _ hj)
end
structure c5c (s s1:St) (T ids:List Nat) (f:AV->AV) (h:Nat->Option g8):Prop where
 fr:∀ n,look n s1.fr=(look n s.fr).map f
 hp:∀ i,look i s1.hp=if i∈T\/i∈ids then h i else look i s.hp
def P6 (s:St) (ids:List Nat):Prop:=∀ n∈ids,look n s.hp=none/\∀ m v,look m s.fr=some v->v.i6 n=false
theorem a1D:∀ {g:List Nat} {s:St} {n:Nat},look n (St.u4 g s).fr=(look n s.fr).map (a1K g)
 | [],s,n=>by simp [St.u4,a1K]
 | i::g,s,n=>by
  simp only [St.u4];rw [a1D (g:=g) (s:=s.drop i)];simp only [St.drop,N5,Option.map_map];rfl
theorem b38 {f:AV->AV} {q:Nat×AV}:∀ {l:List (Nat×AV)},q∈mapA f l->∃ r∈l,r.1=q.1
 | (n,x)::l,h=>by
  rcases List.mem_cons.1 h with rfl|h
  ·exact ⟨_,List.mem_cons_self ..,rfl⟩
  ·obtain ⟨r,hr,e⟩:=b38 h; exact ⟨r,by simp [hr],e⟩
theorem a2u {f:AV->AV}:∀ {l:List (Nat×AV)},uniq l->uniq (mapA f l)
 | [],_=>trivial
 | (n,x)::l,⟨h1,h2⟩=>⟨λ q hq=>by obtain ⟨r,hr,e⟩:=b38 hq; rw [<- e]; exact h1 r hr,a2u h2⟩
theorem a1x:∀ {g:List Nat} {s:St},uniq s.fr->uniq (St.u4 g s).fr
 | [],_,h=>h
 | i::g,s,h=>a1x (g:=g) (s:=s.drop i) (a2u h)
def W3 (s t:St) (xs:List Operand):Prop:=∀ x∈xs,t.ev x=s.ev x/\∀ i,(s.ev x).i6 i=true->t.obj i=s.obj i
theorem W3.refl (s:St) (xs:List Operand):W3 s s xs:=λ _ _=>⟨rfl,λ _ _=>rfl⟩
def OR.a0E (t:St):OR->OR
 | .fail w=>.fail w
 | .ok v _=>.ok v t
 | .E5 p v _=>.E5 p v t
def OR.av:OR->AV
 | .ok v _=>v
 | .E5 _ v _=>v
 | .fail _=>.any
section
variable {E:Env} {s t:St}
theorem b4Z (k:IntKind) (r:Int):arith k r t=(arith k r s).a0E t:=by unfold arith; split<;>rfl
theorem c56 (op:BinOp) (k k':IntKind) (a b:Int):a80 op k a k' b t=(a80 op k a k' b s).a0E t:=by
 unfold a80
 split
 ·rfl
 ·rfl
 ·split
  ·split<;>first|rfl|exact b4Z _ _
  ·rfl
theorem c54 (W:Bool) (op:BinOp) (k k':IntKind) (a b:Int):a8Y W op k a k' b t=(a8Y W op k a k' b s).a0E t:=by
 unfold a8Y
 split
 ·split<;>rfl
 ·exact c56 ..
theorem c55 (op:BinOp) (a b:List UInt8):a8Z op a b t=(a8Z op a b s).a0E t:=by unfold a8Z; split<;>rfl
theorem c58 (T:TypeId) (op:BinOp) (x y:AV):a81 E T op x y t=(a81 E T op x y s).a0E t:=by
 unfold a81
 split
 ·exact c54 ..
 ·split<;>rfl
 ·exact c55 ..
 ·rfl
theorem c1R (T:TypeId) (op:BinOp) (a:Ty) (x:a.den) (u:Ty) (y:u.den):eqA E T op a x u y t=(eqA E T op a x u y s).a0E t:=by
 unfold eqA
 split
 ·split<;>rfl
 ·rfl
theorem c57 (T:TypeId) (op:BinOp) (x y:AV):a5O E T op x y t=(a5O E T op x y s).a0E t:=by
 unfold a5O
 split
 ·unfold b36; split<;>rfl
 ·exact c1R ..
 ·exact c1R ..
 ·exact c58 ..
theorem c6L (op:UnOp) (x:AV):unA op x t=(unA op x s).a0E t:=by
 unfold unA
 repeat' (first|rfl|exact b4Z _ _|split)
theorem a4N:∀ {xs:List Operand},(∀ x∈xs,t.ev x=s.ev x)->t.I1 xs=s.I1 xs
 | [],_=>rfl
 | x::xs,h=>by simp only [St.I1,h x (by simp),a4N (xs:=xs) (λ y hy=>h y (by simp [hy]))]
theorem X9 {i:Nat}:∀ {xs:List Operand},(s.I1 xs).i6 i=true->∃ x∈xs,(s.ev x).i6 i=true
 | [],h=>by cases h
 | x::xs,h=>by
  simp only [St.I1,AV.i6,Bool.or_eq_true] at h;rcases h with h|h
  ·exact ⟨x,by simp,h⟩
  ·obtain ⟨y,hy,h⟩:=X9 h; exact ⟨y,by simp [hy],h⟩
theorem a8H {i:Nat} {x:Operand}:∀ {xs:List Operand},x∈xs->(s.ev x).i6 i=true->(s.I1 xs).i6 i=true
 | y::xs,hx,h=>by
  simp only [St.I1,AV.i6,Bool.or_eq_true];rcases List.mem_cons.1 hx with rfl|hx
  ·exact .inl h
  ·exact .inr (a8H hx h)
theorem a5P {i:Nat}:∀ {a b:AV},(a.app b).i6 i=true->a.i6 i=true\/b.i6 i=true:=by
 intro a
 induction a with
 | cons x l _ ih =>
  intro b h;simp only [AV.app,AV.i6,Bool.or_eq_true] at h ⊢;rcases h with h|h
  ·exact .inl (.inl h)
  ·rcases ih h with h|h
   ·exact .inl (.inr h)
   ·exact .inr h
 | _=>intro b h; exact .inr h
def Alike (s t:St) (v:AV):Prop:=∀ i,v.i6 i=true->t.obj i=s.obj i
theorem H5 {i:Nat} {p:List Step} (h:t.obj i=s.obj i):t.part i p=s.part i p:=by simp only [St.part,h]
theorem a7t {i:Nat} {p:List Step} {a b:Int} (h:t.obj i=s.obj i):t.view i p a b=s.view i p a b:=by simp only [St.view,H5 h]
theorem b0Q {u:Ty} {i:Nat} {p:List Step} (h:t.obj i=s.obj i):t.a1f u i p=s.a1f u i p:=by simp only [St.a1f,H5 h]
theorem c7h {u:Ty} {v:AV} (h:Alike s t v):v.asV t u=v.asV s u:=by
 cases v<;>first|rfl|exact b0Q (h _ (by simp [AV.i6]))|(simp only [AV.asV]; rw [a7t (h _ (by simp [AV.i6]))])
theorem c2p {u:Ty} {v:AV} (h:Alike s t v):v.asR t u=v.asR s u:=by
 unfold AV.asR
 split
 ·exact b0Q (h _ (by simp [AV.i6]))
 ·rfl
 ·rename_i i p
  have e:∀ u,t.a1f u i p=s.a1f u i p:=λ u=>b0Q (h i (show AV.i6 i (AV.bx (.ptr i p))=true by simp [AV.i6]));simp only [e]
 ·rfl
theorem b7Q:∀ {ts:List Ty} {v:AV},Alike s t v->AV.a67 t ts v=AV.a67 s ts v
 | [],v,_=>by cases v<;>rfl
 | u::ts,v,h=>by
  cases v<;>try rfl
  rename_i a b;simp only [AV.a67,c2p (v:=a) (λ i hi=>h i (by simp [AV.i6,hi])),b7Q (v:=b) (λ i hi=>h i (by simp [AV.i6,hi]))]
theorem a7E {v:AV} (h:Alike s t v):v.Z0 t=v.Z0 s:=by
 cases v<;>try rfl
 ·rename_i i p; cases p<;>simp only [AV.Z0,h i (by simp [AV.i6])]
 ·rename_i i p a b; cases p<;>simp only [AV.Z0,h i (by simp [AV.i6])]
theorem b4p {v:AV} (h:Alike s t v):v.els t=v.els s:=by
 unfold AV.els
 split
 ·rfl
 ·rename_i i p; simp only [H5 (h i (by simp [AV.i6]))]
 ·rename_i i p a b; simp only [a7t (h i (by simp [AV.i6]))]
 ·rfl
theorem a36 {v:AV} {r:Sigma Ty.den} {g:List Nat} (h:v.Z0 s=some (r,g)):∀ i∈g,v.i6 i=true:=by
 unfold AV.Z0 at h;split at h
 ·cases h; simp
 ·split at h
  ·cases h; simp [AV.i6]
  ·cases h
 ·split at h
  ·cases h; simp [AV.i6]
  ·cases h
 ·cases h
theorem a1h {v:AV} (h:Alike s t v):v.a0A t=v.a0A s:=by
 unfold AV.a0A
 split
 ·rename_i i
  rw [h i (by simp [AV.i6]),a7E h]
 ·rfl
 ·exact a7E h
theorem a27 {v:AV} {r:Sigma Ty.den} {g:List Nat} (h:v.a0A s=some (r,g)):∀ i∈g,v.i6 i=true:=by
 unfold AV.a0A at h;split at h
 ·split at h
  ·cases h; simp [AV.i6]
  ·exact a36 h
 ·cases h; simp
 ·exact a36 h
theorem b1g {u:Ty} {v:AV} (h:Alike s t v):v.a1j t u=v.a1j s u:=by
 unfold AV.a1j
 split
 ·rfl
 ·rfl
 ·simp only [b4p h,a7E h]
theorem c2t {u:Ty} {v:AV} {r:Sigma λ t:Ty=>List t.den} {g:List Nat} (h:v.a1j s u=some (r,g)):∀ i∈g,v.i6 i=true:=by
 unfold AV.a1j at h;split at h
 ·cases h; simp
 ·cases h; simp
 ·split at h
  ·cases h
  ·split at h
   ·cases h; simp
   ·split at h
    ·rename_i hg; cases h; exact a36 hg
    ·cases h
theorem b4T {d:Int} {x:Option Operand} (h:∀ y,x=some y->t.ev y=s.ev y):Y2 t d x=Y2 s d x:=by
 cases x with
 | none=>rfl
 | some y=>simp only [Y2,h y rfl]
theorem c7i {k:PK} {v:AV} (h:Alike s t v):v.M9 t k=v.M9 s k:=by
 cases k with
 | v u=>simp only [AV.M9,c7h h]
 | rd u=>simp only [AV.M9,c2p h]
 | T3=>cases v<;>rfl
 | Y6 f n=>rfl
 | el q=>rfl
 | B8 f ts =>
  cases v<;>try rfl
  simp only [AV.M9]; rw [b7Q (λ i hi=>h i (by simpa [AV.i6] using hi))]
 | own u =>
  have hg:=a1h h;unfold AV.M9;dsimp only
  split
  ·rfl
  ·rw [hg]
 | rw u =>
  cases v<;>try rfl
  rename_i i p; cases p<;>simp only [AV.M9,h i (by simp [AV.i6])]
 | mu u =>
  cases v<;>try rfl
  rename_i i p; cases p<;>simp only [AV.M9,h i (by simp [AV.i6])]
theorem b7R:∀ {ks:List PK} {v:AV},Alike s t v->AV.a0f t ks v=AV.a0f s ks v
 | [],v,_=>by cases v<;>rfl
 | k::ks,v,h=>by
  cases v<;>try rfl
  rename_i a b;simp only [AV.a0f,c7i (v:=a) (λ i hi=>h i (by simp [AV.i6,hi])),b7R (v:=b) (λ i hi=>h i (by simp [AV.i6,hi]))]
theorem c4c {k:PK} {v:AV} {x:k.den} {g m:List Nat} (h:v.M9 s k=some (x,g,m)):(∀ i∈g++m,v.i6 i=true)/\(k.l5=false->g=[]/\m=[]):=by
 cases k with
 | v u=>simp only [AV.M9] at h; split at h<;>cases h; simp
 | rd u=>simp only [AV.M9] at h; split at h<;>cases h; simp
 | T3=>simp only [AV.M9] at h; split at h<;>cases h; simp
 | Y6 f n=>simp only [AV.M9] at h; cases h
 | el q=>simp only [AV.M9] at h; cases h
 | B8 f ts =>
  simp only [AV.M9] at h;split at h
  ·split at h
   ·split at h<;>cases h; simp
   ·cases h
  ·cases h
 | own u =>
  refine ⟨?_,λ h=>by cases h⟩;simp only [AV.M9] at h;split at h
  ·split at h<;>cases h; simp
  ·split at h
   ·rename_i hg
    split at h
    ·cases h
     intro i hi;exact a27 hg i (by simpa using hi)
    ·cases h
   ·cases h
 | rw u =>
  refine ⟨?_,λ h=>by cases h⟩;simp only [AV.M9] at h;split at h
  ·split at h
   ·split at h
    ·cases h; simp [AV.i6]
    ·cases h
   ·cases h
  ·cases h
 | mu u =>
  refine ⟨?_,λ h=>by cases h⟩;simp only [AV.M9] at h;split at h
  ·split at h
   ·split at h
    ·cases h; simp [AV.i6]
    ·cases h
   ·cases h
  ·cases h
theorem b2k:∀ {ks:List PK} {v:AV} {x:DK ks} {g m:List Nat},AV.a0f s ks v=some (x,g,m)->(∀ i∈g++m,v.i6 i=true)/\(ks.any PK.l5=false->g=[]/\m=[])
 | [],v,x,g,m,h=>by
  cases v<;>simp only [AV.a0f] at h<;>cases h;simp
 | k::ks,v,x,g,m,h=>by
  cases v<;>simp only [AV.a0f] at h<;>try (cases h; done)
  split at h
  ·rename_i h1 h2
   cases h;obtain ⟨a1,a2⟩:=c4c h1;obtain ⟨b1,b2⟩:=b2k h2;refine ⟨?_,?_⟩
   ·intro i hi
    simp only [List.mem_append] at hi a1 b1;simp only [AV.i6,Bool.or_eq_true];rcases hi with (hi|hi)|(hi|hi)
    ·exact .inl (a1 i (.inl hi))
    ·exact .inr (b1 i (.inl hi))
    ·exact .inl (a1 i (.inr hi))
    ·exact .inr (b1 i (.inr hi))
   ·intro ht
    simp only [List.any_cons,Bool.or_eq_false_iff] at ht;obtain ⟨r1,r2⟩:=a2 ht.1;obtain ⟨r3,r4⟩:=b2 ht.2;simp [r1,r2,r3,r4]
  ·cases h
theorem a4d:∀ {parts:List (Nat×Operand)} {r:Sigma Ty.den},(∀ q∈parts,t.ev q.2=s.ev q.2/\Alike s t (s.ev q.2))->P5 t r parts=P5 s r parts
 | [],⟨_,_⟩,_=>rfl
 | (i,v)::parts,⟨u,x⟩,h=>by
  have ih:=λ r=>a4d (parts:=parts) (r:=r) (λ q hq=>h q (by simp [hq]));obtain ⟨h1,h2⟩:=h (i,v) (by simp);have h1:t.ev v=s.ev v:=h1;have h2:=a1h h2;have h2:(s.ev v).a0A t=(s.ev v).a0A s:=h2;simp only [P5,h1,ih]
  split
  ·rfl
  ·split
   ·rfl
   ·rw [h2]
theorem a2o:∀ {parts:List (Nat×Operand)} {r r':Sigma Ty.den} {g:List Nat},P5 s r parts=some (r',g)->∀ i∈g,∃ q∈parts,(s.ev q.2).i6 i=true
 | [],⟨_,_⟩,r',g,h=>by simp only [P5] at h; cases h; simp
 | (j,v)::parts,⟨u,x⟩,r',g,h=>by
  simp only [P5] at h;split at h
  ·cases h
  ·split at h
   ·split at h
    ·split at h
     ·intro i hi
      obtain ⟨q,hq,hm⟩:=a2o h i hi;exact ⟨q,by simp [hq],hm⟩
     ·cases h
    ·cases h
   ·split at h
    ·rename_i hg
     split at h
     ·split at h
      ·rename_i hb
       cases h;intro i hi;rcases List.mem_append.1 hi with hi|hi
       ·exact ⟨(j,v),by simp,a27 hg i hi⟩
       ·obtain ⟨q,hq,hm⟩:=a2o hb i hi
        exact ⟨q,by simp [hq],hm⟩
      ·cases h
     ·cases h
    ·cases h
end
end Go.Ex
