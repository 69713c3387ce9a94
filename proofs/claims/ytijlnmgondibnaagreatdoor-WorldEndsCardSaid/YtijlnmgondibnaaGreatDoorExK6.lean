import Derived.Test.YtijlnmgondibnaaGreatDoorExK5
set_option linter.unusedVariables false
set_option linter.unusedSimpArgs false
set_option linter.unusedSectionVars false
namespace Go.Ex
section
variable {E:Env} {B:F5} {S:Nat->Prop} {ι:Ix} {s:St} {a:Act} {w:World}
def Cf (P:Program) (S:Nat->Prop) (ι:Ix) (o:Oper) (a:Act) (w:World) (s:St) (v:AV):Prop :=
 ∃ val,(∀ w',(execOp a.eval o).run P w'=.ok (.value val) w')/\VX w.heap S ι s.hp v [val]
def AG (P:Program) (S:Nat->Prop) (ι:Ix) (o:Oper) (a:Act) (w:World) (s:St):OR->Prop
 | .fail _=>True
 | .ok v s'=>s'=s/\Cf P S ι o a w s v
 | .H3 p v s'=>p->s'=s/\Cf P S ι o a w s v
theorem zi {P:Program} {o:Oper} {sem:Sem Value} (he:execOp a.eval o=(do pure (.value (<- sem)))) {v:AV} {val:Value} (hr:∀ w',sem.run P w'=.ok val w')
  (hv:VX w.heap S ι s.hp v [val]):s=s/\Cf P S ι o a w s v:=⟨rfl,val,λ w'=>by rw [he]; simp [hr w',Result.andThen],hv⟩
theorem b3n (hE:E2 E B) (h:RS B S ι s a w) {o:Oper} {T:TypeId} {x:Operand} {n:Nat} (ho:o.op=.fieldAddr T x n):AG E.P S ι o a w s (n6 E o s):=by
 have he:execOp a.eval o=(do pure (.value (<- Instr.fieldAt T (a.eval x) n))):=by simp [execOp,ho]
 unfold n6;rw [ho];simp only
 split
 ·rename_i i p hx
  split
  ·rename_i u z cT
   split
   ·rename_i r hc gN
    obtain ⟨e,b,off,h1,h2,h3,h4⟩:=D8 h hx;have hg:=J5 h1 cT;have h4:a.eval x=.pointer (some ⟨b,off,none⟩):=by simpa using h4
    obtain ⟨u2,z2⟩:=r;exact zi he (λ _=>by rw [h4]; exact Bk (E5 hE hc) gN b off) ⟨e,b,off+U1 u n,h1,Y5 hg h2 (yQ gN),Dp hg h3 (λ G=>zd gN),rfl⟩
   ·trivial
  ·trivial
 ·rename_i t y hx
  split
  ·rename_i u z hc hg
   obtain ⟨b,off,e,h1,h2,h3⟩:=D8 h hx;have e:a.eval x=.pointer (some ⟨b,off,none⟩):=by simpa using e
   have aH:=yQ hg;obtain ⟨O1,O2,b',ar,e1,e2,e3,e4,e5,e6⟩:=focus h3 h2 aH hg
   have hO:O1=[]/\O2=[]:=by have:=e1.nil_eq; simpa using this.symm
   rw [zd hg] at e3; cases e3;refine zi he (λ _=>by rw [e]; exact Bk (E5 hE hc) hg b off) ⟨b,off+U1 t n,rfl,h1,e5,?_⟩;rw [hO.2] at e4; exact e4
  ·trivial
 ·rename_i t y hx
  split
  ·rename_i u z hc hg
   intro hy;obtain ⟨b,off,e,h1,h2,h3⟩:=Fa (D8 h hx) hy;have e:a.eval x=.pointer (some ⟨b,off,none⟩):=by simpa using e
   have aH:=yQ hg;obtain ⟨O1,O2,b',ar,e1,e2,e3,e4,e5,e6⟩:=focus h3 h2 aH hg
   have hO:O1=[]/\O2=[]:=by have:=e1.nil_eq; simpa using this.symm
   rw [zd hg] at e3; cases e3;refine zi he (λ _=>by rw [e]; exact Bk (E5 hE hc) hg b off) ⟨b,off+U1 t n,rfl,h1,e5,?_⟩;rw [hO.2] at e4; exact e4
  ·trivial
 ·trivial
theorem b3i (hE:E2 E B) (h:RS B S ι s a w) {o:Oper} {T:TypeId} {x y:Operand} (ho:o.op=.indexAddr T x y):AG E.P S ι o a w s (n6 E o s):=by
 have he:execOp a.eval o=(do pure (.value (<- Instr.indexAt T (a.eval x) (a.eval y)))):=by simp [execOp,ho]
 unfold n6;rw [ho];simp only
 split
 ·rename_i d p k n hx hy
  split
  ·rename_i m u z cT
   split
   ·rename_i hc
    intro hn;obtain ⟨e,b,off,h1,h2,h3,h4⟩:=D8 h hx;have hg:=J5 h1 cT;have h4:a.eval x=.pointer (some ⟨b,off,none⟩):=by simpa using h4
    obtain ⟨dN,_⟩:=VX.J6 (D8 h hy);exact zi he (λ _=>by rw [h4,dN]; exact Gx (E5 hE hc) b off hn) ⟨e,b,off+n.toNat*u.size,h1,Y5 hg h2 ⟨hn,Q7⟩,Dp hg h3 (λ G=>by simp only [C6,C8]),rfl⟩
   ·trivial
  ·trivial
 ·rename_i m t z k n hx hy
  split
  ·rename_i hc
   intro hn;obtain ⟨b,off,e,h1,h2,h3⟩:=D8 h hx;have e:a.eval x=.pointer (some ⟨b,off,none⟩):=by simpa using e
   obtain ⟨dN,_⟩:=VX.J6 (D8 h hy);have aH:C1 (.arr m t) z [.idx n]:=⟨hn,by cases t<;>trivial⟩;have hg:j9 (.arr m t) z [.idx n]=some ⟨t,List.getD z (Int.toNat n) t.w5⟩:=by simp only [j9]
   obtain ⟨O1,O2,b',ar,e1,e2,e3,e4,e5,e6⟩:=focus h3 h2 aH hg
   have hO:O1=[]/\O2=[]:=by have:=e1.nil_eq; simpa using this.symm
   have e3':C6 w.heap (.arr m t) [.idx n] b off=some (b,off+Int.toNat n*t.size):=by simp only [C6]
   rw [e3'] at e3; cases e3;refine zi he (λ _=>by rw [e,dN]; exact Gx (E5 hE hc) b off hn) ⟨b,off+Int.toNat n*t.size,rfl,h1,e5,?_⟩;rw [hO.2] at e4; exact e4
  ·trivial
 ·rename_i t z k n hx hy
  split
  ·rename_i hc
   intro hn;obtain ⟨cs,e,hR⟩:=D8 h hx;have e:a.eval x=s5 (.d0 false t) cs:=by simpa using e
   obtain ⟨dN,_⟩:=VX.J6 (D8 h hy);rcases hR with ⟨_,_,hz⟩|⟨b1,o1,cap,O',c1,c2,c3,c4,c5,c6,c7,c8⟩
   ·subst hz; exact (EN hn).elim
   ·have gy:a.eval x=.slice (some ⟨b1,o1,none⟩) (List.length z) cap:=by rw [e,c1]; rfl
    obtain ⟨b1',b2,b3,b4⟩:=F0 (sz:=t.size) hn;obtain ⟨P1,P2,P3,e1,g1,g2,g3⟩:=j5.split (d:=t.w5) (i:=Int.toNat n) b1' c5;have hle:t.size<=List.length z*t.size - Int.toNat n*t.size:=by omega
    rw [o8,n9 _ _ _ _ hle] at g2;have hP:P2=[]:=by rw [c7] at e1; have:=aBi.1 e1.symm; exact (aBi.1 this.2).1
    refine zi he (λ _=>by rw [gy,dN]; exact X0 (E5 hE hc) b1 o1 _ cap hn) ⟨b1,o1+Int.toNat n*t.size,rfl,c8,by omega,?_⟩;rw [hP] at g2; exact g2
  ·trivial
 ·rename_i d p k n hx hy
  split
  ·rename_i u z cT
   split
   ·rename_i hc
    intro hn;obtain ⟨e,u',y',cs,h1,h2,h3,h4,h5⟩:=D8 h hx;have hg:=J5 h1 cT;rw [h3] at hg; cases hg;obtain ⟨dN,_⟩:=VX.J6 (D8 h hy);have h5:a.eval x=s5 (.d0 true u) cs:=by simpa using h5
    obtain ⟨O2,m1,m2,m3⟩:=I2 h.hs h1 h2 h3 h4;rcases m3 with ⟨_,_,hz⟩|⟨b1,o1,cap,O',rfl,c2,c3,c4,c5,c6,c7⟩
    ·subst hz; exact (EN hn).elim
    ·have gy:a.eval x=.slice (some ⟨b1,o1,none⟩) (List.length z) cap:=h5
     obtain ⟨b0,off0,q1,q2⟩:=h4;have hh:=(S8 b0 off0 _).1 q2.symm;refine zi he (λ _=>by rw [gy,dN]; exact X0 (E5 hE hc) b1 o1 _ cap hn) ⟨e,b1,o1+n.toNat*u.size,h1,Y5 h3 h2 ⟨hn,Q7⟩,wL (Bm h3 q1 ?_) c7.free.lt,rfl⟩;simp only [C6,hh,C8]
   ·trivial
  ·trivial
 ·rename_i d p lo hi k n hx hy
  split
  ·rename_i u l ee
   split
   ·rename_i hc
    intro hn;have fx:@LE.le Int Int.instLEInt 0 n:=hn.1;have ml:@LT.lt Int Int.instLTInt n (hi - lo):=hn.2;obtain ⟨A,c,k1,k2,k3,k4,k5,e,k6,k7,k8⟩:=EY h.hs (D8 h hx) ee;obtain ⟨dN,_⟩:=VX.J6 (D8 h hy);have hz:l≠[]:=by rintro rfl; have k3:((0:Nat):Int)=hi - lo:=k3; omega
    obtain ⟨b,off,rfl,k9⟩:=k8 hz;obtain ⟨off2,q1,rfl,q3⟩:=k9 n hn.1 (by omega);exact zi he (λ _=>by rw [k1,dN]; exact X0 (E5 hE hc) b off _ c (by omega)) ⟨e,b,_,k6,q3,q1,rfl⟩
   ·trivial
  ·trivial
 ·trivial
theorem b5r (_hE:E2 E B) (h:RS B S ι s a w) {o:Oper} {x:Operand} (ho:o.op=.nilCheck x):AG E.P S ι o a w s (n6 E o s):=by
 unfold n6; rw [ho];simp only
 split
 ·rename_i i p hx
  obtain ⟨e,b,off,h1,h2,h3,h4⟩:=D8 h hx;have h4:a.eval x=.pointer (some ⟨b,off,none⟩):=by simpa using h4
  exact ⟨rfl,.pointer (some ⟨b,off,none⟩),λ w'=>by simp only [execOp,ho,h4]; rfl,e,b,off,h1,h2,h3,rfl⟩
 ·rename_i t y hx
  obtain ⟨b,off,e,h1,h2,h3⟩:=D8 h hx;have e:a.eval x=.pointer (some ⟨b,off,none⟩):=by simpa using e
  exact ⟨rfl,.pointer (some ⟨b,off,none⟩),λ w'=>by simp only [execOp,ho,e]; rfl,b,off,rfl,h1,h2,h3⟩
 ·rename_i t y hx
  intro hy;obtain ⟨b,off,e,h1,h2,h3⟩:=Fa (D8 h hx) hy;have e:a.eval x=.pointer (some ⟨b,off,none⟩):=by simpa using e
  exact ⟨rfl,.pointer (some ⟨b,off,none⟩),λ w'=>by simp only [execOp,ho,e]; rfl,b,off,rfl,h1,h2,h3⟩
 ·rename_i f t y hx
  intro hy;have hv:=D8 h hx;obtain ⟨p,e,-⟩:=Kf hv hy;exact ⟨rfl,a.eval x,λ w'=>by simp only [execOp,ho,e]; rfl,hv⟩
 ·rename_i f l hx
  obtain ⟨us,e,h1⟩:=D8 h hx;have e:a.eval x=.func (.func f) #[] us.toArray:=by simpa using e
  exact ⟨rfl,.func (.func f) #[] us.toArray,λ w'=>by simp only [execOp,ho,e]; rfl,us,rfl,h1⟩
 ·rename_i g b hx
  intro hb;have hv:=IU h hx;have hb:b=true:=hb;subst hb;exact ⟨rfl,.func (.func g) #[] #[],λ w'=>by simp only [execOp,ho,hv]; rfl,[fnV g true],rfl,rfl,rfl⟩
 ·trivial
theorem Dg (hE:E2 E B) (h:RS B S ι s a w) {o:Oper} (ho:AO o.op=true):AG E.P S ι o a w s (n6 E o s):=by
 unfold AO at ho;split at ho
 ·rename_i e; exact b3n hE h e
 ·rename_i e; exact b3i hE h e
 ·rename_i e; exact b5r hE h e
 ·cases ho
end
section
variable {S:Nat->Prop} {H H':Array Go.Obj}
theorem sib {t:Ty} {O:List Nat} {b off:Nat} {x:t.den} (hR:i6 H S t O (e8 H b off t.size) x) (hb:off+t.size<=(y8 H b).length) (hc:e8 H' b off t.size=e8 H b off t.size) (hO:∀ c∈O,H'[c]?=H[c]?)
  {q:List Step} (ho:C1 t x q) {u:Ty} {y:u.den} (hg:j9 t x q=some ⟨u,y⟩) {b' ar:Nat} (hn:C6 H t q b off=some (b',ar)):C6 H' t q b off=some (b',ar)/\e8 H' b' ar u.size=e8 H b' ar u.size :=
 ⟨(zR hR hb ho hc hO).trans hn,zL hR hb ho hc hO hg hn⟩
theorem Yg:∀ {t:Ty} {p:List Step} {b off:Nat} {O1:List Nat} {x:t.den},y7 H S t p b off O1 x->off+t.size<=(y8 H b).length->e8 H' b off t.size=e8 H b off t.size->(∀ c∈O1,H'[c]?=H[c]?) ->
  ∀ {u0:Ty} {y0:u0.den},j9 t x p=some ⟨u0,y0⟩->∀ {b0 off0:Nat},C6 H t p b off=some (b0,off0) ->
  (∀ {q:List Step},C1 u0 y0 q->∀ {u:Ty} {y:u.den},j9 u0 y0 q=some ⟨u,y⟩->∀ {b' ar:Nat},C6 H u0 q b0 off0=some (b',ar)->C6 H' u0 q b0 off0=some (b',ar)/\e8 H' b' ar u.size=e8 H b' ar u.size) ->
  ∀ {q:List Step},C1 t x q->∀ {u:Ty} {y:u.den},j9 t x q=some ⟨u,y⟩->∀ {b' ar:Nat},C6 H t q b off=some (b',ar)->C6 H' t q b off=some (b',ar)/\e8 H' b' ar u.size=e8 H b' ar u.size:=by
 intro t;have here:∀ {t:Ty} {x:t.den} {b off:Nat},e8 H' b off t.size=e8 H b off t.size->∀ {u:Ty} {y:u.den},j9 t x []=some ⟨u,y⟩->∀ {b' ar:Nat},C6 H t [] b off=some (b',ar)->C6 H' t [] b off=some (b',ar)/\e8 H' b' ar u.size=e8 H b' ar u.size:=by
  intro t x b off hc u y hg b' ar hn;rw [D6] at hg; cases hg;rw [C8] at hn; cases hn;exact ⟨C8 ..,hc⟩
 induction t with
 | pair a c iha ihc =>
  intro p b off O1 x hR hb hc hO u0 y0 dI b0 off0 de hP q ho u y hg b' ar hn
  match p,hR,dI,de with
  | [],_,dI,de =>
   rw [D6] at dI; cases dI;rw [C8] at de; cases de;exact hP ho hg hn
  | .m0 0::p,⟨P1,P2,e,h1,h2⟩,dI,de =>
   subst e;simp only [Ty.size] at hb hc
   match q,ho,hg,hn with
   | [],_,hg,hn=>exact here hc hg hn
   | .m0 0::q,ho,hg,hn=>exact iha h1 (by omega) (yu hc (by omega) (by omega)) (λ c hc=>hO c (by simp [hc])) dI de hP ho hg hn
   | .m0 (m+1)::q,ho,hg,hn=>exact sib h2 (by omega) (yu hc (by omega) (by omega)) (λ c hc=>hO c (by simp [hc])) (q:=.m0 m::q) ho hg hn
   | .idx i::q,ho,_,_=>simp [C1] at ho
  | .m0 (n+1)::p,⟨P1,P2,e,h1,h2⟩,dI,de =>
   subst e;simp only [Ty.size] at hb hc
   match q,ho,hg,hn with
   | [],_,hg,hn=>exact here hc hg hn
   | .m0 0::q,ho,hg,hn=>exact sib h1 (by omega) (yu hc (by omega) (by omega)) (λ c hc=>hO c (by simp [hc])) (q:=q) ho hg hn
   | .m0 (m+1)::q,ho,hg,hn=>exact ihc h2 (by omega) (yu hc (by omega) (by omega)) (λ c hc=>hO c (by simp [hc])) dI de hP (q:=.m0 m::q) ho hg hn
   | .idx i::q,ho,_,_=>simp [C1] at ho
  | .idx i::p,hR,_,_=>simp [y7] at hR
 | arr n t ih =>
  intro p b off O1 x hR hb hc hO u0 y0 dI b0 off0 de hP q ho u y hg b' ar hn
  match p,hR,dI,de with
  | [],_,dI,de =>
   rw [D6] at dI; cases dI;rw [C8] at de; cases de;exact hP ho hg hn
  | .m0 i::p,hR,_,_=>simp [y7] at hR
  | .idx i::p,⟨hl,hi,P1,P2,P3,e,h1,h2,h3⟩,dI,de =>
   subst e;obtain ⟨b1,b2,b3,b4⟩:=F0 (sz:=t.size) hi;simp only [Ty.size] at hb hc
   match q,ho,hg,hn with
   | [],_,hg,hn=>exact here hc hg hn
   | .m0 j::q,ho,_,_=>simp [C1] at ho
   | .idx j::q,⟨hj,ho⟩,hg,hn =>
    obtain ⟨d1,d2,d3,d4⟩:=F0 (sz:=t.size) hj;simp only [C6] at hn ⊢;simp only [j9] at hg;have ie:e8 H' b (off+j.toNat*t.size) t.size=e8 H b (off+j.toNat*t.size) t.size:=yu hc (by omega) (by omega);by_cases bS:i.toNat=j.toNat
    ·rw [<- bS] at ho hg hn ie ⊢
     exact ih h2 (by omega) ie (λ c hc=>hO c (by simp [hc])) dI de hP ho hg hn
    ·rcases aDt bS with bf|fD
     ·have hd:j.toNat - (i.toNat+1)<(List.drop (i.toNat+1) x).length:=by simp only [aAo]; omega
      obtain ⟨Q1,Q2,Q3,e,k1,k2,k3⟩:=j5.split (d:=t.w5) hd h3;have e1:(i.toNat+1)*t.size+(j.toNat - (i.toNat+1))*t.size=j.toNat*t.size:=by rw [<- aBp]; congr 1; omega
      have hm:(j.toNat - (i.toNat+1))*t.size+t.size<=(n - (i.toNat+1))*t.size:=by omega
      rw [o8,n9 _ _ _ _ (by omega),aBo,e1] at k2;have e2:(List.drop (i.toNat+1) x).getD (j.toNat - (i.toNat+1)) t.w5=List.getD x j.toNat t.w5:=by
       simp only [aAb,aBl];rw [show i.toNat+1+(j.toNat - (i.toNat+1))=j.toNat from by omega]
      rw [e2] at k2;exact sib k2 (by omega) ie (λ d hd=>hO d (by rw [e]; simp [hd])) ho hg hn
     ·have hd:j.toNat<(List.take i.toNat x).length:=by simp only [aAn]; omega
      obtain ⟨Q1,Q2,Q3,e,k1,k2,k3⟩:=j5.split (d:=t.w5) hd h1;have hm:j.toNat*t.size+t.size<=i.toNat*t.size:=by
       rw [<- aBg]; exact aAm _ (by omega)
      rw [o8,n9 _ _ _ _ (by omega)] at k2;have e2:(List.take i.toNat x).getD j.toNat t.w5=List.getD x j.toNat t.w5:=by
       simp only [aAb,aBq];rw [if_pos (by omega)]
      rw [e2] at k2;exact sib k2 (by omega) ie (λ d hd=>hO d (by rw [e]; simp [hd])) ho hg hn
 | d0 o t ih =>
  intro p b off O1 x hR hb hc hO u0 y0 dI b0 off0 de hP q ho u y hg b' ar hn
  match p,hR,dI,de with
  | [],_,dI,de =>
   rw [D6] at dI; cases dI;rw [C8] at de; cases de;exact hP ho hg hn
  | .m0 i::p,hR,_,_=>cases o<;>simp [y7] at hR
  | .idx i::p,hR,dI,de =>
   cases o with
   | false=>simp [y7] at hR
   | true =>
    obtain ⟨hi,c1,o1,cap,P1,P2,P3,e,e1,e2,e3,e4,e5,e6,e7⟩:=hR;subst e;obtain ⟨b1,b2,b3,b4⟩:=F0 (sz:=t.size) hi;have cR:List.length x*t.size<=cap*t.size:=aAm _ e2;have qo:=e4.free.y8;simp only [Ty.size] at hb hc
    match q,ho,hg,hn with
    | [],_,hg,hn=>exact here (t:=.d0 true t) hc hg hn
    | .m0 j::q,ho,_,_=>simp [C1] at ho
    | .idx j::q,⟨hj,ho⟩,hg,hn =>
     obtain ⟨d1,d2,d3,d4⟩:=F0 (sz:=t.size) hj;have lD:(y8 H' b)[off]?=some (.slice (some ⟨c1,o1,none⟩) (List.length x) cap):=by
      rw [b7j hc (j:=off) (by omega) (by omega)]; exact e1
     simp only [C6,e1] at hn de;simp only [C6,lD];simp only [j9] at hg;have ie:e8 H' c1 (o1+j.toNat*t.size) t.size=e8 H c1 (o1+j.toNat*t.size) t.size:=l7 (hO c1 (by simp)) _ _;by_cases bS:i.toNat=j.toNat
     ·rw [<- bS] at ho hg hn ie ⊢
      exact ih e6 (by omega) ie (λ c hc=>hO c (by simp [hc])) dI de hP ho hg hn
     ·rcases aDt bS with bf|fD
      ·have hd:j.toNat - (i.toNat+1)<(List.drop (i.toNat+1) x).length:=by simp only [aAo]; omega
       obtain ⟨Q1,Q2,Q3,e,k1,k2,k3⟩:=j5.split (d:=t.w5) hd e7;have f1:(i.toNat+1)*t.size+(j.toNat - (i.toNat+1))*t.size=j.toNat*t.size:=by rw [<- aBp]; congr 1; omega
       have hm:(j.toNat - (i.toNat+1))*t.size+t.size<=(List.length x - (i.toNat+1))*t.size:=by omega
       rw [o8,n9 _ _ _ _ (by omega),aBo,f1] at k2;have f2:(List.drop (i.toNat+1) x).getD (j.toNat - (i.toNat+1)) t.w5=List.getD x j.toNat t.w5:=by
        simp only [aAb,aBl];rw [show i.toNat+1+(j.toNat - (i.toNat+1))=j.toNat from by omega]
       rw [f2] at k2;exact sib k2 (by omega) ie (λ d hd=>hO d (by rw [e]; simp [hd])) ho hg hn
      ·have hd:j.toNat<(List.take i.toNat x).length:=by simp only [aAn]; omega
       obtain ⟨Q1,Q2,Q3,e,k1,k2,k3⟩:=j5.split (d:=t.w5) hd e5;have hm:j.toNat*t.size+t.size<=i.toNat*t.size:=by
        rw [<- aBg]; exact aAm _ (by omega)
       rw [o8,n9 _ _ _ _ (by omega)] at k2;have f2:(List.take i.toNat x).getD j.toNat t.w5=List.getD x j.toNat t.w5:=by
        simp only [aAb,aBq];rw [if_pos (by omega)]
       rw [f2] at k2;exact sib k2 (by omega) ie (λ d hd=>hO d (by rw [e]; simp [hd])) ho hg hn
 | _ =>
  intro p b off O1 x hR hb hc hO u0 y0 dI b0 off0 de hP q ho u y hg b' ar hn
  match p,hR,dI,de with
  | [],_,dI,de =>
   rw [D6] at dI; cases dI;rw [C8] at de; cases de;exact hP ho hg hn
  | .idx i::p,hR,_,_=>simp [y7] at hR
  | .m0 i::p,hR,_,_=>simp [y7] at hR
theorem c06 {t0:Ty} {l:List t0.den} {b off b1 o1 cap n:Nat} {Op:List Nat} (hR:i6 H S (.d0 true t0) Op (e8 H b off 1) l) (gW:∀ c∈Op,c<H.size) (aK:Op.Nodup) (hb:b<H.size) (bP:b∉Op)
  (hh:e8 H b off 1=[.slice (some ⟨b1,o1,none⟩) l.length cap]) (h1:1<=cap) (hc:X7 H H' b1 (o1+l.length*t0.size) n) :
  ∀ {q:List Step},C1 (.d0 true t0) l q->∀ {u:Ty} {y:u.den},j9 (.d0 true t0) l q=some ⟨u,y⟩->∀ {b' ar:Nat},C6 H (.d0 true t0) q b off=some (b',ar)->C6 H' (.d0 true t0) q b off=some (b',ar)/\e8 H' b' ar u.size=e8 H b' ar u.size:=by
 intro q ho u y hg b' ar hn;rcases hR with ⟨_,⟨A,c,e,eT⟩,_⟩|⟨b2,o2,cap2,O',c1,c2,c3,c4,c5,rfl,c7⟩
 ·rw [hh] at e
  simp only [aBc,Value.slice.injEq,and_true] at e;have:=eT rfl; omega
 ·rw [hh] at c1
  simp only [aBc,Value.slice.injEq,aAc,Addr.mk.injEq,and_true] at c1;obtain ⟨⟨rfl,rfl⟩,-,rfl⟩:=c1;have br:b≠b1:=λ e=>bP (by simp [e]);have cD:e8 H' b off 1=e8 H b off 1:=hc.cells hb (λ e=>absurd e br)
  match q,ho,hg,hn with
  | [],_,hg,hn =>
   rw [D6] at hg; cases hg;rw [C8] at hn; cases hn;exact ⟨C8 ..,cD⟩
  | .m0 j::q,ho,_,_=>simp [C1] at ho
  | .idx j::q,⟨hj,ho⟩,hg,hn =>
   obtain ⟨d1,d2,d3,d4⟩:=F0 (sz:=t0.size) hj;have lD:=(S8 b off _).1 hh;have qg:=(S8 b off _).1 (cD.trans hh);simp only [C6,lD] at hn;simp only [C6,qg];simp only [j9] at hg;obtain ⟨P1,P2,P3,e,g1,g2,g3⟩:=j5.split (d:=t0.w5) d1 c5;subst e;rw [o8,n9 _ _ _ _ (by omega)] at g2;have cR:=c7.free.y8;have eh:List.length l*t0.size<=cap*t0.size:=aAm _ c2;refine sib g2 (by omega) (hc.cells (gW b1 (by simp)) (λ _=>.inl (by omega))) (λ d hd=>hc.rest d ?_ (gW d (by simp [hd]))) ho hg hn;rintro rfl;exact (aAt.1 aK).1 (by simp [hd])
end
section
variable {E:Env} {B:F5} {S:Nat->Prop} {ι:Ix} {s:St} {a:Act} {w:World}
theorem RS.spare (h:RS B S ι s a w) {i:Nat} {e:g9} (he:look i s.hp=some e) (_hnb:e≠.N0) {w':World} (k:G2 (l8 ι i e) w w') (aT:OB w'.heap S ι i e) (aW:w'.heap.size=w.heap.size)
  (jO:∀ {q:List Step},C1 e.ty e.x q->∀ {u:Ty} {y:u.den},j9 e.ty e.x q=some ⟨u,y⟩->∀ {b off:Nat},Place w.heap ι i e q=some (b,off)->Place w'.heap ι i e q=some (b,off)/\e8 (VH w'.heap ι i e) b off u.size=e8 (VH w.heap ι i e) b off u.size) :
  RS B S ι s a w':=by
 have hold:∀ {b:Nat},((∃ j ej,j≠i/\look j s.hp=some ej/\b∈l8 ι j ej)\/S b)->w'.heap[b]?=w.heap[b]?:=by
  intro b hb;refine k.frame b (hb.elim (λ⟨j,ej,_,h1,h2⟩=>(h.hs.bl j ej h1 b h2).2.2) (h.hs.slt b)) (λ oK=>?_);rcases hb with ⟨j,ej,h0,h1,h2⟩|hb
  ·exact h.hs.dj i j e ej he h1 (Ne.symm h0) b oK h2
  ·exact (h.hs.bl i e he b oK).1 hb
 have re:HS B S ι s.hp w':=by
  refine ⟨k.os.trans h.hs.os,k.tape.trans h.hs.tape,k.out.trans h.hs.out,by rw [aW]; exact h.hs.size,?_,λ b hb=>by rw [aW]; exact h.hs.slt b hb,h.hs.s0,h.hs.s1,?_,λ j ej hj c hc=>?_,h.hs.dj,h.hs.pin⟩
  ·intro c hc hm
   rw [k.frame c (aAs hc h.hs.size) (λ qG=>by rcases (h.hs.bl i e he c qG).2.1 with h1|h1; omega; exact hm h1)];exact h.hs.frame c hc hm
  ·intro j ej hj
   by_cases e1:j=i
   ·subst e1; rw [he] at hj; cases hj; exact aT
   ·exact (h.hs.ob j ej hj).x7 (λ b hb=>hold (hb.imp (λ hb=>⟨j,ej,e1,hj,hb⟩) id)) (λ _ h=>h)
  ·rw [aW]; exact h.hs.bl j ej hj c hc
 have iu:∀ {j:Nat} {ej:g9},look j s.hp=some ej->∀ {q:List Step},C1 ej.ty ej.x q->∀ {r:Nat×Nat},Loc w.heap ι j ej q=some r->Loc w'.heap ι j ej q=some r:=by
  intro j ej hj q aH r hl;by_cases e1:j=i
  ·subst e1; rw [he] at hj; cases hj
   obtain ⟨u,y,hg⟩:=RI aH;obtain ⟨g1,g2⟩:=E0 (b:=r.1) (off:=r.2) hl;exact wL (jO aH hg g1).1 (by rw [aW]; exact g2)
  ·exact FX (M6 hl) (h.hs.ob j ej hj) h.hs.slt (λ b hb=>hold (.inl ⟨j,ej,e1,hj,hb⟩)) aH hl
 have je:∀ {j:Nat} {ej:g9},look j s.hp=some ej->∀ {q:List Step},C1 ej.ty ej.x q->∀ {u:Ty} {y:u.den},j9 ej.ty ej.x q=some ⟨u,y⟩->∀ {cs:List Value},Cells w.heap ι j ej q u cs->Cells w'.heap ι j ej q u cs:=by
  intro j ej hj q aH u y hg cs hc;by_cases e1:j=i
  ·subst e1; rw [he] at hj; cases hj
   obtain ⟨b0,o0,g1,g2⟩:=hc;obtain ⟨m1,m2⟩:=jO aH hg g1;exact ⟨b0,o0,m1,g2.trans m2.symm⟩
  ·exact MP (Dd hc) (h.hs.ob j ej hj) h.hs.slt (λ b hb=>hold (.inl ⟨j,ej,e1,hj,hb⟩)) aH hg hc
 refine ⟨re,h.dfr,h.sz,λ t v hv=>?_⟩;have:=VX.map (H':=w'.heap) (S':=S) (ι':=ι) (cI:=s.hp) (f:=λ u=>u) (λ b hb=>hold (.inr hb)) (λ _ h=>h) ?_ (h.fr t v hv)
 ·rwa [AV.map_id] at this
 ·intro u vs hu _ h
  cases u<;>simp only [AV.ref] at hu<;>try cases hu
  ·obtain ⟨e',b,off,h1,h2,h3,h4⟩:=h
   exact ⟨e',b,off,h1,h2,iu h1 h2 h3,h4⟩
  ·obtain ⟨e',u,y,cs,h1,h2,h3,h4,h5⟩:=h
   exact ⟨e',u,y,cs,h1,h2,h3,je h1 h2 h3 h4,h5⟩
  ·obtain ⟨e',v',h1,h2,h3,h4,h5,h6⟩:=h
   refine ⟨e',v',h1,h2,h3,h4,h5,?_⟩;rcases h6 with ⟨t,l,a,cap,k1,k2,k3,k4⟩|⟨n,t,l,b,off,k1,k2,k3,k4⟩
   ·exact .inl ⟨t,l,a,cap,k1,k2,je h1 h2 k1 k3,k4⟩
   ·exact .inr ⟨n,t,l,b,off,k1,k2,iu h1 h2 k3,k4⟩
def zE (B:F5) (S:Nat->Prop) (ι:Ix) (hp:List (Nat×g9)) (g:List Nat) (i:Nat) (e:g9) (p:List Step) (t0:Ty) (l m:List t0.den) (b off:Nat) (v':Value) (w:World):Prop :=
 ∃ O',Loc w.heap ι i e p=some (b,off)/\i6 w.heap S (.d0 true t0) O' [v'] (l++m)/\O'.Nodup/\b∉O' /\
  ∀ c∈O',(¬ S c/\(B.w0.heap.size<=c\/B.M c)/\c<w.heap.size)/\(∀ j ej,j≠i->j∉g->look j hp=some ej->c∉l8 ι j ej) /\
   (c∈l8 ι i e->∃ Op,i6 w.heap S (.d0 true t0) Op (e8 w.heap b off 1) l/\c∈Op)
theorem Ug (hE:E2 E B) (h:RS B S ι s a w) {o:Oper} {c:Call} (ho:o.op=.call c) (hc:c.callee=.builtin .append) {x y:Operand} {T U:TypeId} (ha:c.args.toList=[x,y]) (fi:c.argTypes.toList=[T,U])
  (hk:(∃ e',E.P.underlying U=some (.slice e'))\/E.P.underlying U=some .string) {q:Bool} {t0:Ty} {bts:Nat} (hT:look T E.tt=some ⟨.d0 q t0,bts⟩) {i:Nat} {p:List Step} (hx:s.ev x=.at_ i p)
  {e:g9} (he:look i s.hp=some e) (kE:(∃ t x,e=.var t x)\/∃ t x j q,e=.own (.d0 true t) x/\p=.idx j::q) {l:List t0.den} (hg:j9 e.ty e.x p=some ⟨.d0 true t0,l⟩)
  {b off:Nat} (hl:Loc w.heap ι i e p=some (b,off)) {m:List t0.den} {g:List Nat} (cw:(s.ev y).vJ s t0=some (⟨t0,m⟩,g)) (ez:i∉g) (_hgn:g.Nodup)
  (jj:l.length+m.length<=140737488355328) (ig:(l.length+m.length)*t0.wb<=140737488355328) :
  ∃ v' w',(execOp a.eval o).run E.P w=.ok (.value v') w'/\RS B S ι s a w'/\C1 e.ty e.x p/\zE B S ι s.hp g i e p t0 l m b off v' w':=by
 have cJ:e≠.N0:=M6 hl;obtain ⟨Og,news,k1,k2,k3,k4⟩:=Kj (P:=E.P) h hk cw (h.ev y);obtain ⟨e2,u,y2,cs,r1,aH,r3,r4,r5⟩:=D8 h hx;rw [he] at r1; cases r1;rw [hg] at r3; cases r3;obtain ⟨Op,m1,mn,m2,m3,m4,m5⟩:=P6 cJ (h.hs.ob i e he) h.hs.slt aH hg hl;have fH:=(h.hs.ob i e he).zV cJ h.hs.slt aH hg hl m2;obtain ⟨bV,dq⟩:=E0 hl;have cG:cs=e8 w.heap b off 1:=by
  obtain ⟨b0,off0,q1,q2⟩:=r4;rw [bV] at q1; cases q1;rw [l7 (H7 dq)] at q2;exact q2
 have fa:e8 w.heap b off 1=[a.eval x]:=by
  have fy:(e8 w.heap b off 1).length=1:=m2.length;have r5':a.eval x=s5 (.d0 true t0) cs:=by simpa using r5
  rw [r5',cG]
  match cX:e8 w.heap b off 1,fy with
  | [z],_=>rfl
 have m2':i6 w.heap S (.d0 true t0) Op [a.eval x] l:=by rw [<- fa]; exact m2
 have di:r8 E.P 100 T (.d0 true t0)=true:=EZ (t:=.d0 q t0) (u:=.d0 true t0) rfl (s7 hE hT);have dE:∀ c∈Op,c∈l8 ι i e:=λ c hc=>J8 (m1 c hc);have aK:(Op++Og).Nodup:=aAg.2 ⟨mn,k3,by
  rintro c h1 c' h2 rfl;obtain ⟨j,e',j1,j2,j3⟩:=k4 c h2;exact h.hs.dj i j e e' he j2 (by rintro rfl; exact ez j1) c (dE c h1) j3⟩
 have mw:∀ c∈Og,¬ S c/\(B.w0.heap.size<=c\/B.M c)/\c<w.heap.size:=λ c hc=>by
  obtain ⟨j,e',_,j2,j3⟩:=k4 c hc;exact h.hs.bl j e' j2 c j3
 have lX:=λ c hc=>h.hs.bl i e he c (dE c hc);obtain ⟨v',w',O',q1,q2,q3,q4,q5,q6,q7⟩:=SY di o.type h.hs.slt m2' k1 k2 aK (λ c hc=>(aAi.1 hc).elim (λ h=>⟨(lX c h).1,(lX c h).2.2⟩) (λ h=>⟨(mw c h).1,(mw c h).2.2⟩)) jj ig;have aF:c.args=#[x,y]:=by rw [<- ha]
 have eG:c.argTypes=#[T,U]:=by rw [<- fi]
 have aP:(execOp a.eval o).run E.P w=.ok (.value v') w':=by
  simp [execOp,ho,resolve,hc,invoke,builtin,aF,eG,q1]
 have gw:∀ c∈l8 ι i e,¬ S c/\c<w.heap.size:=λ c hc=>⟨(h.hs.bl i e he c hc).1,(h.hs.bl i e he c hc).2.2⟩;have bM:e8 w'.heap b off 1=[a.eval x]:=by rw [l7 (q4.frame b dq fH)]; exact fa
 obtain ⟨n2,n3⟩:=OB.same (H':=w'.heap) (h.hs.ob i e he) gw h.hs.slt kE aH hg hl q4.size m2 (λ c hc hn=>q4.frame c hc hn) (by
  show i6 w'.heap S (.d0 true t0) Op (e8 w'.heap b off 1) l;rw [bM]; exact q6)
 have ur:RS B S ι s a w':=by
  rcases q7 with q7|⟨b1,o1,cap,n,f1,f2,f3,f4,f5⟩
  ·exact h.vC H2.nil q7
  ·have dK:b1∈Op:=by
    rcases m2' with ⟨_,⟨A,c,e0,eT⟩,_⟩|⟨b2,o2,cap2,O2,c1,_,_,_,_,rfl,_⟩
    ·rw [f1] at e0
     simp only [aBc,Value.slice.injEq,and_true] at e0;have:=eT rfl; omega
    ·rw [f1] at c1
     simp only [aBc,Value.slice.injEq,aAc,Addr.mk.injEq,and_true] at c1;rw [c1.1.1]; simp
   refine h.spare he cJ (q4.mono dE) n2 f5 ?_;obtain ⟨O,hO,hR,eB,gJ,pV,gB,dZ⟩:=(h.hs.ob i e he).see cJ h.hs.slt;obtain ⟨O1,O3,b',ar,g1,g2,g3,g4,g5,g6⟩:=focus hR eB aH hg
   have mU:=bV;rw [J1 cJ,g3] at mU; cases mU;have g4':i6 w.heap S (.d0 true t0) O3 (e8 w.heap b off 1) l:=by
    have g4:i6 (VH w.heap ι i e) S (.d0 true t0) O3 (e8 (VH w.heap ι i e) b off 1) l:=g4;rw [l7 (H7 dq)] at g4;exact (wN (λ c hc=>(h.hs.ob i e he).V6 cJ (hO.mem_iff.1 (g1.mem_iff.2 (by simp [hc])))) h.hs.slt).1 g4
   obtain rfl:Op=O3:=m2.det g4';have cx:(O1++Op).Nodup:=(g1.nodup_iff).1 ((hO.nodup_iff).2 (aAt.1 gJ).2);have ik:b1<w.heap.size:=(gw b1 (dE b1 dK)).2;have bG:b1≠(VR w.heap ι i e).1:=by
    rintro rfl;exact (aAt.1 gJ).1 (hO.mem_iff.1 (g1.mem_iff.2 (by simp [dK])))
   have qO:(VR w'.heap ι i e)=(VR w.heap ι i e):=by cases e<;>simp [VR,f5]
   have hV:∀ c,c≠b1->(VH w'.heap ι i e)[c]?=(VH w.heap ι i e)[c]?:=by
    intro c cD;have hr:∀ c,c≠b1->w'.heap[c]?=w.heap[c]?:=by
     intro c cD;rcases aEd c w.heap.size with h1|h1
     ·exact f4.rest c cD h1
     ·rw [aCj h1,aCj (by omega)]
    cases e with
    | own t x =>
     simp only [VH,gh];rw [aEc,aEc,f5]
     split
     ·rfl
     ·exact hr c cD
    | _=>exact hr c cD
   have uh:X7 (VH w.heap ι i e) (VH w'.heap ι i e) b1 (o1+l.length*t0.size) n:=by
    obtain ⟨arr,dd,T',⟨fz,⟨z1,z2⟩,z3⟩,z4,z5⟩:=f4.at_;exact ⟨⟨arr,dd,T',⟨fz,⟨(H7 ik).trans z1,z2⟩,(H7 (by omega)).trans z3⟩,z4,z5⟩,λ c cD _=>hV c cD⟩
   intro q' nb u' y' kH b' o' cI;rw [J1 cJ] at cI ⊢;rw [qO];have uc:b<(VH w.heap ι i e).size:=aAs dq xM;refine Yg g2 eB (l7 (hV _ (Ne.symm bG)) _ _) (λ c hc=>hV c ?_) hg g3 ?_ nb kH cI
   ·rintro rfl
    exact (aAg.1 cx).2.2 c hc c dK rfl
   ·have tW:e8 (VH w.heap ι i e) b off 1=[.slice (some ⟨b1,o1,none⟩) l.length cap]:=by
     rw [l7 (H7 dq),fa,f1]
    intro q2 sR u2 y2 tK b2 off2 ml;exact c06 (H':=VH w'.heap ι i e) g4 (λ c hc=>aAs (gw c (dE c hc)).2 xM) mn uc fH tW f3 uh sR tK ml
 refine ⟨v',w',aP,ur,aH,O',n3,q2,q3,?_,?_⟩
 ·intro hb
  rcases (q5 b hb).1 with h1|h1
  ·omega
  ·rcases aAi.1 h1 with h1|h1
   ·exact fH h1
   ·obtain ⟨j,e',j1,j2,j3⟩:=k4 b h1
    exact h.hs.dj i j e e' he j2 (by rintro rfl; exact ez j1) b m4 j3
 ·intro c hc
  obtain ⟨f1,f2⟩:=q5 c hc;have fact:(¬ S c/\(B.w0.heap.size<=c\/B.M c)/\c<w'.heap.size)/\(∀ j ej,j≠i->j∉g->look j s.hp=some ej->c∉l8 ι j ej)/\(c∈l8 ι i e->c∈Op):=by
   rcases f1 with f1|f1
   ·exact ⟨⟨λ hs=>by have:=h.hs.slt c hs; omega,.inl (aAx h.hs.size f1),f2⟩,λ j ej _ _ hj cD=>by have:=(h.hs.bl j ej hj c cD).2.2; omega,λ cD=>by have:=(gw c cD).2; omega⟩
   ·rcases aAi.1 f1 with f1|f1
    ·have:=lX c f1
     exact ⟨⟨this.1,this.2.1,f2⟩,λ j ej hj _ dp=>h.hs.dj i j e ej he dp (Ne.symm hj) c (dE c f1),λ _=>f1⟩
    ·have:=mw c f1
     obtain ⟨j0,e0,j1,j2,j3⟩:=k4 c f1;exact ⟨⟨this.1,this.2.1,f2⟩,λ j ej _ gl dp=>h.hs.dj j0 j e0 ej j2 dp (by rintro rfl; exact gl j1) c j3,λ cD=>absurd cD (h.hs.dj j0 i e0 e j2 he (by rintro rfl; exact ez j1) c j3)⟩
  exact ⟨fact.1,fact.2.1,λ cD=>⟨Op,by rw [bM]; exact q6,fact.2.2 cD⟩⟩
theorem CZ {e:g9} {p:List Step} {r:Sigma Ty.den} (h:Az e p r=true):BX e e/\((∃ t x,e=.var t x)\/∃ t x j q,e=.own (.d0 true t) x/\p=.idx j::q):=by
 unfold Az at h;split at h
 ·exact ⟨.inl ⟨_,_,_,rfl,rfl⟩,.inl ⟨_,_,rfl⟩⟩
 ·split at h
  ·exact ⟨.inr (.inl ⟨_,_,_,rfl,rfl⟩),.inr ⟨_,_,_,_,rfl,rfl⟩⟩
  ·cases h
 ·cases h
theorem zq {a:Act} {t d:Nat} {v:Value} (h:t≠d):(a.put (some d) v).eval (.tmp t)=a.eval (.tmp t):=by
 show (a.tmps.setIfInBounds d v).getD t undef=a.tmps.getD t undef;simp only [aCm,aDc,if_neg (Ne.symm h)]
theorem Lb {a:Act} {d:Nat} {v:Value} (h:d<a.tmps.size):(a.put (some d) v).eval (.tmp d)=v:=by
 show (a.tmps.setIfInBounds d v).getD d undef=v;simp only [aCm,aDc,if_pos h]; rfl
theorem TZ (hE:E2 E B) (h:RS B S ι s a w) {g:List Nat} (cC:(g.all λ i=>!pinned i)=true) {i:Nat} (ez:i∉g) {e:g9} (he:look i s.hp=some e) {p:List Step} (aH:C1 e.ty e.x p) {t0:Ty} {l m:List t0.den} (hg:j9 e.ty e.x p=some ⟨.d0 true t0,l⟩) {b off:Nat} {v':Value}
  (hP:zE B S ι s.hp g i e p t0 l m b off v' w) {o:Oper} {T:TypeId} {ad:Operand} {d:Nat} (ho:o.op=.store T ad (.tmp d)) (lU:a.eval ad=.pointer (some ⟨b,off,none⟩)) (hv:a.eval (.tmp d)=v') (bB:K0 E T (.d0 true t0)=true)
  {r:Sigma Ty.den} (aI:w7 e.ty e.x p (.d0 true t0) (l++m)=some r):D0 E.P B o a w (.raw undef) (((St.B9 g s).kill i e.kd p).y9 i (e.F1 r)):=by
 obtain ⟨O',hl,k5,k6,k7,k8⟩:=hP;have hd:=h.B9 (g:=g) cC;have jR:look i (St.B9 g s).hp=some e:=by rw [K7,if_neg ez]; exact he
 refine Bd hE hd ho (i:=i) (e:=e) jR aH hl lU hg bB (u':=.d0 true _) (O2:=O') (cs:=[v']) k5 k6 (by rw [hv]; rfl) aI (λ c hc=>?_) k7;obtain ⟨f1,f2,f3⟩:=k8 c hc;refine ⟨f1,λ j ej hj dp=>?_,f3⟩;rw [K7] at dp;split at dp
 ·cases dp
 ·rename_i gl; exact f2 j ej hj gl dp
theorem c4X (hE:E2 E B) (h:RS B S ι s a w) {o:Oper} {c:Call} (ho:o.op=.call c) (hc:c.callee=.builtin .append) {x y:Operand} {T U:TypeId} (ha:c.args.toList=[x,y]) (fi:c.argTypes.toList=[T,U])
  {o2:Oper} {T2:TypeId} {adv:AV} {ad:Operand} {d:Nat} (_ho2:o2.op=.store T2 ad (.tmp d)) {p:Prop} {s2:St} (hb:yG E T U T2 (s.ev x) (s.ev y) adv d s=some (p,s2)) (hp:p) :
  ∃ i p0 e t0 l m g r v' w',s.ev x=.at_ i p0/\adv=.ptr i p0/\look i s.hp=some e/\i∉g/\(g.all λ i=>!pinned i)=true/\j9 e.ty e.x p0=some ⟨.d0 true t0,l⟩/\K0 E T2 (.d0 true t0)=true /\
   w7 e.ty e.x p0 (.d0 true t0) (l++m)=some r/\s2=(((St.B9 g (s.put (some d) .any)).kill i e.kd p0).y9 i (e.F1 r)) /\
   (execOp a.eval o).run E.P w=.ok (.value v') w'/\RS B S ι s a w'/\C1 e.ty e.x p0/\∀ b off,Loc w.heap ι i e p0=some (b,off)->zE B S ι s.hp g i e p0 t0 l m b off v' w':=by
 unfold yG at hb;split at hb
 ·rename_i i p0 j q q1 t0 bts u1 bts1 hx hT hU
  split at hb
  ·rename_i e aT jS
   simp only [aAa] at jS;obtain ⟨bS,jS⟩:=jS;have bS:=aAe bS;subst bS;split at hb
   ·rename_i u l hg
    split at hb
    ·rename_i t m g cw
     split at hb
     ·rename_i hu
      split at hb
      ·rename_i ht
       subst hu; subst ht;split at hb
       ·rename_i r aI
        split at hb
        ·rename_i bB
         cases hb;simp only [aAa,aAu] at bB;obtain ⟨⟨⟨⟨bB,bO⟩,ez⟩,iE⟩,cC⟩:=bB;obtain ⟨rfl,jj,ig⟩:=hp;obtain ⟨_,kE⟩:=CZ bO;have ez:i∉g:=by intro hm; simp [hm] at ez
         have hk:(∃ e',E.P.underlying U=some (.slice e'))\/E.P.underlying U=some .string:=by
          cases u1<;>first|cases jS|skip
          ·exact .inr (Y9 (s7 hE hU))
          ·obtain ⟨et,k',f1,_⟩:=H9 (s7 hE hU)
           exact .inl ⟨et,f1⟩
         have aT:look i s.hp=some e:=aT;have key:∀ b off,Loc w.heap ι i e q=some (b,off)->∃ v' w',(execOp a.eval o).run E.P w=.ok (.value v') w'/\RS B S ι s a w'/\C1 e.ty e.x q/\zE B S ι s.hp g i e q _ l m b off v' w' :=
          λ b off hl=>Ug hE h ho hc ha fi hk hT hx aT kE hg hl cw ez (DA iE) jj ig
         obtain ⟨e2,u,y2,cs,r1,aH,r3,r4,r5⟩:=D8 h hx;rw [aT] at r1; cases r1;obtain ⟨b,off,hl⟩:=CU (h.hs.ob i e aT) h.hs.slt (CZ bO).2 aH hg;obtain ⟨v',w',k1,k2,k3,k4⟩:=key b off hl;exact ⟨i,q,e,_,l,m,g,r,v',w',hx,rfl,aT,ez,cC,hg,bB,aI,rfl,k1,k2,k3,λ b' ar eE=>by rw [hl] at eE; cases eE; exact k4⟩
        ·cases hb
       ·cases hb
      ·cases hb
     ·cases hb
    ·cases hb
   ·cases hb
  ·cases hb
 ·cases hb
theorem c2Q (hE:E2 E B) (h:RS B S ι s a w) {o:Oper} {c:Call} (ho:o.op=.call c) (hc:c.callee=.builtin .append) {x y:Operand} {T U:TypeId} (ha:c.args.toList=[x,y]) (fi:c.argTypes.toList=[T,U])
  {o2:Oper} {T2:TypeId} {ad:Operand} {d:Nat} (hd:I5 B.n (some d)=true) (iW:o2.op=.store T2 ad (.tmp d)) (lU:∀ t,ad=.tmp t->t≠d) {p:Prop} {s2:St} (hb:yG E T U T2 (s.ev x) (s.ev y) (s.ev ad) d s=some (p,s2)) (hp:p) :
  ∃ v' w',(execOp a.eval o).run E.P w=.ok (.value v') w'/\D0 E.P B o2 (a.put (some d) v') w' (.raw undef) s2:=by
 obtain ⟨i,p0,e,t0,l,m,g,r,v',w',hx,qM,aT,ez,cC,hg,bB,aI,rfl,k1,k2,k3,k4⟩:=c4X hE h ho hc ha fi iW hb hp;refine ⟨v',w',k1,?_⟩;obtain ⟨e',b,off,h1,h2,h3,h4⟩:=D8 h qM;rw [aT] at h1; cases h1;have iQ:=k2.put hd (v:=.any) (val:=v') ⟨v',rfl⟩;have lS:(a.put (some d) v').eval ad=.pointer (some ⟨b,off,none⟩):=by
  have uM:a.eval ad=.pointer (some ⟨b,off,none⟩):=by simpa using h4
  rw [<- uM];cases ad with
  | tmp t=>exact zq (lU t rfl)
  | _=>rfl
 have dH:(a.put (some d) v').eval (.tmp d)=v':=Lb (by rw [h.sz]; simpa [I5,aDf] using hd);exact TZ hE iQ (g:=g) cC ez (e:=e) (by simpa [St.put] using aT) h2 hg (k4 b off h3) iW lS dH bB aI
theorem Qa {o:Oper} (ho:AO o.op=true) {a a':Act} (h:∀ t∈Cm o,a'.eval (.tmp t)=a.eval (.tmp t)):execOp a'.eval o=execOp a.eval o:=by
 have cB:∀ x∈o.op.operands.toList,a'.eval x=a.eval x:=by
  intro x hx;cases x with
  | tmp t=>exact h t (aBv.2 ⟨.tmp t,hx,rfl⟩)
  | _=>rfl
 unfold AO at ho;split at ho
 ·rename_i e; rw [e] at cB; simp [Op.operands] at cB; simp [execOp,e,cB]
 ·rename_i e; rw [e] at cB; simp [Op.operands] at cB; simp [execOp,e,cB]
 ·rename_i e; rw [e] at cB; simp [Op.operands] at cB; simp [execOp,e,cB]
 ·cases ho
theorem Sl {a:Act} {d e:Nat} {v u:Value} (h:d≠e):(a.put (some d) v).put (some e) u=(a.put (some e) u).put (some d) v:=by
 simp only [Act.put];congr 1;apply Array.ext_getElem?;intro i;simp only [aDc,aGy];by_cases h1:e=i
 ·subst h1; simp [h]
 ·simp [h1]
theorem UG (hE:E2 E B) (hn:B.n=E.nt) {ops:Array Oper} {Q:Exit->Act->World->Prop} {oa:Oper} {c:Call} (ho:oa.op=.call c) (hc:c.callee=.builtin .append) {x y:Operand} {T U:TypeId} (ha:c.args.toList=[x,y]) (fi:c.argTypes.toList=[T,U])
  {d:Nat} (hd:I5 B.n (some d)=true):∀ {l:List Oper} {S:Nat->Prop} {ι:Ix} {s:St} {a:Act} {w:World} {p:Prop} {s2:St} {n:Nat},RS B S ι s a w->EK E T U x y d l s=some (p,s2,n)->p ->
  ∃ v' w',(execOp a.eval oa).run E.P w=.ok (.value v') w'/\((∀ S' ι' a' w'',RS B S' ι' s2 a' w''->wpList E.P ops Q (l.drop n) a' w'')->wpList E.P ops Q l (a.put (some d) v') w')
 | [],S,ι,s,a,w,p,s2,n,_,hf,_=>by cases hf
 | o::rest,S,ι,s,a,w,p,s2,n,h,hf,hp=>by
  have aF:c.args=#[x,y]:=by rw [<- ha]
  have eG:c.argTypes=#[T,U]:=by rw [<- fi]
  unfold EK at hf;split at hf
  ·rename_i hg gP
   split at hf
   ·rename_i lC
    split at hf
    ·rename_i d1 gQ
     split at hf
     ·rename_i p1 v cd hv
      split at hf
      ·rename_i p2 s3 n2 kZ
       cases hf;simp only [aAa,aAu] at cd;obtain ⟨⟨⟨c1,c2⟩,c3⟩,c4⟩:=cd;have br:d1≠d:=by rintro rfl; simp at c1
       have dY:=Dg hE h lC;have dH:Cf E.P S ι o a w s v:=by
        split at hv
        ·cases hv
        ·rename_i v0 s0 e0; cases hv; rw [e0] at dY; exact dY.2
        ·rename_i q0 v0 s0 e0; cases hv; rw [e0] at dY; exact (dY hp.1).2
       obtain ⟨val,aP,dB⟩:=dH;rw [gQ] at gP;have cv:=h.put (d:=some d1) (by rw [hn]; exact gP) dB;obtain ⟨v',w',g1,g2⟩:=UG hE hn ho hc ha fi hd (ops:=ops) (Q:=Q) cv kZ hp.2;have ex:(a.put (some d1) val).eval x=a.eval x:=by
        cases x with
        | tmp t=>exact zq (by rintro rfl; simp at c3)
        | _=>rfl
       have ey:(a.put (some d1) val).eval y=a.eval y:=by
        cases y with
        | tmp t=>exact zq (by rintro rfl; simp at c4)
        | _=>rfl
       refine ⟨v',w',?_,λ hk=>?_⟩
       ·rw [<- g1]; simp [execOp,ho,resolve,hc,invoke,builtin,aF,eG,ex,ey]
       ·unfold wpList
        simp only [Region.wanted,hg,if_true];refine .inl ?_;unfold Oper.wp;have mO:(execOp (a.put (some d) v').eval o).run E.P w'=.ok (.value val) w':=by
         have sV:∀ t∈Cm o,(a.put (some d) v').eval (.tmp t)=a.eval (.tmp t):=by
          intro t ht;refine zq (λ e=>?_);rw [e] at ht;have h5:(Cm o).contains d=true:=by simpa using ht
          rw [h5] at c2; cases c2
         rw [Qa lC sV]; exact aP w'
        rw [mO];show wpList E.P ops Q rest ((a.put (some d) v').put o.dst val) w';rw [gQ,Sl (Ne.symm br)];exact g2 hk
      ·cases hf
     ·cases hf
    ·cases hf
   ·split at hf
    ·rename_i T2 ad d' iW
     split at hf
     ·rename_i cd
      split at hf
      ·rename_i p1 s3 cw
       cases hf;simp only [aAa] at cd;obtain ⟨c1,c2⟩:=cd;obtain rfl:=aAe c1;obtain ⟨v',w',g1,g2⟩:=c2Q hE h ho hc ha fi hd iW (λ t e=>by subst e; rintro rfl; simp at c2) cw hp;refine ⟨v',w',g1,λ hk=>?_⟩;unfold wpList;simp only [Region.wanted,hg,if_true];refine .inl (g2 _ _ (λ S' ι' w2 val h1 h2=>?_));exact hk S' ι' _ w2 (h1.put (by rw [hn]; exact gP) h2)
      ·cases hf
     ·cases hf
    ·cases hf
  ·cases hf
theorem c05 {e:g9} {p:List Step} {r:Sigma Ty.den} (h:Az e p r=true):BX e (e.F1 r):=by
 unfold Az at h;obtain ⟨r1,r2⟩:=r;split at h
 ·rename_i t x
  obtain rfl:r1=t:=of_decide_eq_true h;exact .inl ⟨r1,x,r2,rfl,rfl⟩
 ·rename_i t x
  split at h
  ·obtain rfl:r1=.d0 true t:=of_decide_eq_true h
   exact .inr (.inl ⟨t,x,r2,rfl,rfl⟩)
  ·cases h
 ·cases h
theorem OB.swap {H H1 H':Array Go.Obj} {i:Nat} {e:g9} (ho:OB H S ι i e) (bQ:∀ c∈l8 ι i e,¬ S c/\c<H.size) (hS:∀ c,S c->c<H.size) {p:List Step} (hk:(∃ t x,e=.var t x)\/∃ t x j q,e=.own (.d0 true t) x/\p=.idx j::q) (aH:C1 e.ty e.x p) {u:Ty} {y:u.den} (hg:j9 e.ty e.x p=some ⟨u,y⟩)
  {b off:Nat} (hl:Loc H ι i e p=some (b,off)) (aW:H.size<=H1.size) {Op:List Nat} (gW:i6 H S u Op (e8 H b off u.size) y) (hH:∀ c,c<H.size->c∉Op->H1[c]?=H[c]?) (hc:X7 H1 H' b off u.size) (jG:H'.size=H1.size)
  {u':Ty} {z:u'.den} {O2:List Nat} (hz:i6 H' S u' O2 (e8 H' b off u'.size) z) (eY:∀ c∈O2,c<H'.size/\(c<H.size->c∈Op)) (db:O2.Nodup) {r:Sigma Ty.den} (aI:w7 e.ty e.x p u' z=some r) :
  ∃ O,(∀ c∈O,c∈ι.own i\/c∈O2)/\OB H' S (ι.E1 i O) i (e.F1 r):=by
 have he:e≠.N0:=M6 hl;have fH:=ho.zV he hS aH hg hl gW;obtain ⟨Om,m1,mn,m2,m3,m4,m5⟩:=P6 he ho hS aH hg hl;obtain ⟨O,hO,hR,hb,aK,bf,gB,dZ⟩:=ho.see he hS;obtain ⟨O1,O3,b',ar,e1,e2,e3,e4,e5,e6⟩:=focus hR hb aH hg
 obtain ⟨bV,dq⟩:=E0 hl;rw [J1 he] at bV;rw [e3] at bV; cases bV;have cx:(O1++O3).Nodup:=(e1.nodup_iff).1 ((hO.nodup_iff).2 (aAt.1 aK).2);have bj:∀ c∈O1,c∈ι.own i:=λ c hc=>hO.mem_iff.1 (e1.mem_iff.2 (by simp [hc]));have cO:∀ c∈O3,c∈ι.own i:=λ c hc=>hO.mem_iff.1 (e1.mem_iff.2 (by simp [hc]));have bG:=(aAt.1 aK).1;have dm:∀ c∈ι.own i,c∈l8 ι i e:=by intro c hc; cases e<;>simp [l8,hc]
 have e4':i6 H S u O3 (e8 H b off u.size) y:=by
  rw [l7 (H7 dq)] at e4;exact (wN (λ c hc=>ho.V6 he (cO c hc)) hS).1 e4
 obtain rfl:Op=O3:=gW.det e4';have fh:∀ c∈O1,c<H.size:=λ c hc=>ho.V6 he (bj c hc);have dU:∀ c,(c=(VR H ι i e).1/\c<H.size)\/c∈O1\/S c->H1[c]?=H[c]?:=by
  rintro c (⟨rfl,h1⟩|h1|h1)
  ·exact hH _ h1 (λ h=>bG (cO _ h))
  ·exact hH c (fh c h1) (λ h=>(aAg.1 cx).2.2 c h1 c h rfl)
  ·exact hH c (hS c h1) (λ h=>(bQ c (dm c (cO c h))).1 h1)
 have kk:(∃ t x,e=.var t x)->(VR H ι i e).1<H.size:=by rintro ⟨t,x,rfl⟩; exact bf
 obtain ⟨n1,n2⟩:=y7.move (H':=H1) hk e2 fh hS aW dU kk;have cV:(VR H1 ι i e).2+e.ty.size<=(y8 (VH H1 ι i e) (VR H1 ι i e).1).length/\(VR H1 ι i e).1<(VH H1 ι i e).size/\¬ S (VR H1 ι i e).1/\(VR H1 ι i e).1∉O1:=by
  rcases hk with ⟨t,x,rfl⟩|⟨t,x,j,q,rfl,rfl⟩
  ·have hr:=kk ⟨_,_,rfl⟩
   refine ⟨?_,aAs hr aW,(bQ _ (by simp [l8,VR])).1,λ h=>bG (bj _ h)⟩;have:=R9 (dU _ (.inl ⟨rfl,hr⟩));show (VR H ι i (.var t x)).2+_<=(y8 H1 (VR H ι i (.var t x)).1).length;rw [this]; exact hb
  ·refine ⟨?_,by simp [VH,VR,Cx],λ h=>by have:=hS _ h; simp only [VR] at this; omega,λ h=>by have:=fh _ h; simp only [VR] at this; omega⟩
   simp only [VH,VR,xb] at hb ⊢; exact hb
 have qa:∀ c∈O2,c<H'.size:=λ c hc=>(eY c hc).1;have rX:∀ c,S c->c<H'.size:=λ c hc=>by have:=hS c hc; omega
 have iI:i6 (VH H' ι i e) S u' O2 (e8 (VH H' ι i e) b off u'.size) z:=by
  rw [l7 (H7 (by omega))];exact (wN qa rX).2 hz
 obtain ⟨O4,f1,f2,f3⟩:=CD n1 hg (n2.trans e3) cV.1 cV.2.1 (aAg.1 cx).1 cV.2.2.2 (λ c hc=>⟨(bQ c (dm c (bj c hc))).1,aAs (fh c hc) (aAx aW xM)⟩) cV.2.2.1
  (λ c hc=>aAs (hS c hc) (aAx aW xM)) (λ _ h=>h) (Cg hc jG) iI aI
 have iq:O4.Nodup:=(f1.nodup_iff).2 (aAg.2 ⟨(aAg.1 cx).1,db,by
  rintro c h1 d h2 rfl;exact (aAg.1 cx).2.2 c h1 c ((eY c h2).2 (fh c h1)) rfl⟩)
 have bU:∀ c∈O4,c∈ι.own i\/c∈O2:=by
  intro c hc;rcases aAi.1 (f1.mem_iff.1 hc) with h|h
  ·exact .inl (bj c h)
  ·exact .inr h
 have lp:∀ c∈O4,c<H'.size:=by
  intro c hc;rcases bU c hc with h|h
  ·have:=ho.V6 he h; omega
  ·exact (eY c h).1
 have f2':=(wN lp rX).1 f2;refine ⟨O4,bU,?_⟩;cases e with
 | var t x =>
  simp only [g9.F1,OB,Ix.E1,if_true];obtain ⟨_,hf,_⟩:=ho;refine ⟨⟨O4,aFh _,f2'⟩,?_,?_⟩
  ·rw [H4 f3]; exact hc.free (hf.x7 (dU _ (.inl ⟨rfl,kk ⟨_,_,rfl⟩⟩)))
  ·refine aAt.2 ⟨λ h=>?_,iq⟩
   rcases bU _ h with h1|h1
   ·exact bG h1
   ·exact bG (cO _ ((eY _ h1).2 (kk ⟨_,_,rfl⟩)))
 | own t x =>
  simp only [g9.F1,OB,Ix.E1,if_true];refine ⟨⟨O4,aFh _,?_⟩,iq⟩;obtain ⟨⟨O',_,fO⟩,_⟩:=ho;have fV:r.1.size=t.size:=H4 f3;have:e8 (VH H' ι i (.own t x)) (VR H1 ι i (.own t x)).1 (VR H1 ι i (.own t x)).2 r.1.size=ι.cells i:=by
   simp only [VH,VR];rw [<- jG];simp only [e8,xb,aBz];exact aAw (by rw [fO.length,fV]; exact aAk _)
  rw [this] at f2';exact f2'
 | N0=>exact absurd rfl he
def xz (P:Program) (o:Oper) (a:Act) (w:World) (R:Value->World->Prop):Prop :=
 ∃ g vs,(execOp a.eval o).run P w=.ok (.enter g vs) w/\Calls P g vs w (λ e w'=>∃ v,e=.returned v/\R v w')
theorem xz.wp {P:Program} {o:Oper} {R:Value->World->Prop} (h:xz P o a w R) {next:Act->World->Prop} {Q:Exit->Act->World->Prop} (hn:∀ v w',R v w'->next (a.put o.dst v) w'):o.wp P a w next Q:=by
 obtain ⟨g,vs,h1,h2⟩:=h;unfold Oper.wp;rw [h1];refine Calls.mono h2 ?_;rintro e w' ⟨v,rfl,hr⟩;exact hn v w' hr
theorem xz.mono {P:Program} {o:Oper} {R R':Value->World->Prop} (h:xz P o a w R) (hr:∀ v w',R v w'->R' v w'):xz P o a w R':=by
 obtain ⟨g,vs,h1,h2⟩:=h;exact ⟨g,vs,h1,h2.mono (λ e w' ⟨v,e1,k⟩=>⟨v,e1,hr v w' k⟩)⟩
theorem over_self {cur:List Value} {off n:Nat} (h:off+n<=cur.length):over cur off ((cur.drop off).take n)=cur:=by
 rw [over,aAn,aAo,aCb (by omega),aAj]
 conv=>rhs; rw [<- aBy off cur,<- aBy n (cur.drop off)]
 rw [aBm]
theorem c4V (h:RS B S ι s a w) {i:Nat} {e:g9} (aT:look i s.hp=some e) {p:List Step} (aH:C1 e.ty e.x p) {t:Ty} {l:(Ty.d0 true t).den} (hg:j9 e.ty e.x p=some ⟨.d0 true t,l⟩) {b off:Nat} (hl:Loc w.heap ι i e p=some (b,off))
  {Op:List Nat} (gW:i6 w.heap S (.d0 true t) Op (e8 w.heap b off (Ty.d0 true t).size) l) (kO:∀ c∈Op,c∈ι.own i) {ks:List PK} {ys:List Operand} {y:DK ks} (hy:BC s ks i e p t ys=some (y,[],[])) :
  ∃ S1:Nat->Prop,(∀ b,S b->S1 b)/\(∀ b,S1 b->b<w.heap.size)/\(∀ c∈Op,¬ S1 c)/\W2 w.heap S1 ks (ys.map a.eval) y []:=by
 have dE:∀ c∈Op,c∈l8 ι i e:=λ c hc=>J8 (kO c hc);have fin:∀ {ι':Ix} {s0:St},RS B S ι' s0 a w->AV.vH s0 ks (s0.M2 ys)=some (y,[],[])->(∀ j ej,j∈U7.loose ks (s0.M2 ys)->look j s0.hp=some ej->∀ c∈Op,c∉l8 ι' j ej)->∃ S1:Nat->Prop,(∀ b,S b->S1 b)/\(∀ b,S1 b->b<w.heap.size)/\(∀ c∈Op,¬ S1 c)/\W2 w.heap S1 ks (ys.map a.eval) y []:=by
  intro ι' s0 h0 sn hd
  let S1:Nat->Prop:=λ b=>S b\/P0 ι' s0.hp (U7.loose ks (s0.M2 ys)) b
  obtain ⟨L2,ra,_,qY,_⟩:=Kl (S1:=S1) h0.hs (λ b hb=>.inl hb) sn (h0.M2 ys) (by simp) (λ b hb=>.inr hb);have qZ:L2=[]:=by
   rw [aDl];intro b hb;obtain ⟨i,e,h1,_⟩:=qY b hb;cases h1
  subst qZ;refine ⟨S1,λ _ h=>.inl h,?_,?_,ra⟩
  ·rintro b (hb|⟨j,ej,h1,h2,h3⟩)
   ·exact h0.hs.slt b hb
   ·exact (h0.hs.bl j ej h2 b h3).2.2
  ·rintro c hc (hs|⟨j,ej,r1,r2,r3⟩)
   ·exact (h.hs.bl i e aT c (dE c hc)).1 hs
   ·exact hd j ej r1 r2 c hc r3
 unfold BC at hy;split at hy
 ·rename_i ng
  have ng:i∉U7.loose ks (s.M2 ys):=by intro hm; simp [hm] at ng
  exact fin h hy (λ j ej r1 r2 c hc r3=>h.hs.dj i j e ej aT r2 (by rintro rfl; exact ng r1) c (dE c hc) r3)
 ·split at hy
  ·rename_i u x
   split at hy
   ·rename_i r aI
    have cH:∃ c0,e8 w.heap b off (Ty.d0 true t).size=[c0]/\Ea c0=true:=by
     rcases gW with ⟨_,⟨a1,c1,e1,_⟩,_⟩|⟨b1,o1,cap1,O1,e1,_⟩
     ·exact ⟨_,e1,rfl⟩
     ·exact ⟨_,e1,rfl⟩
    obtain ⟨c0,eT,mb⟩:=cH;obtain ⟨ι',⟨O,rfl,hO⟩,h0⟩:=h.EG aT aH hg hl (u':=.hole t) (z:=([]:List t.den)) (cs:=[c0]) (O2:=[]) (λ H' _ _=>⟨rfl,c0,rfl,mb⟩) rfl aAy (by simp) aI (by intro h; cases h);have hw:w.setRow b (over (y8 w.heap b) off [c0]).toArray=w:=by
     obtain ⟨O2,m1,m2,m3,m4,m5,arr,T,⟨fz,e1,_⟩,hn⟩:=P6 (M6 hl) (h.hs.ob i _ aT) h.hs.slt aH hg hl;have hb:y8 w.heap b=arr.toList:=by simp only [y8,e1]
     have:over (y8 w.heap b) off [c0]=y8 w.heap b:=by
      rw [<- eT]; exact over_self m4
     rw [this,hb]; exact setRow_self w b arr T fz (by simpa using e1)
    rw [hw] at h0;refine fin h0 hy (λ j ej r1 r2 c hc r3=>?_);simp only [St.y9,p9] at r2;by_cases hj:j=i
    ·subst hj
     rw [if_pos rfl] at r2; cases r2;have r3:c∈(ι.root j).1::(ι.E1 j O).own j:=r3;simp only [Ix.E1,if_true] at r3;refine (aAq.1 r3).elim (λ g3=>?_) (λ g3=>?_)
     ·obtain ⟨_,_,aK⟩:=h.hs.ob j _ aT
      exact (aAt.1 aK).1 (g3▸kO c hc)
     ·rcases (hO c g3).2 with h9|h9
      ·cases h9
      ·exact h9 Op gW hc
    ·rw [if_neg hj] at r2
     rw [(Y4 hj O).l8] at r3;exact h.hs.dj i j _ ej aT r2 (Ne.symm hj) c (dE c hc) r3
   ·cases hy
  ·cases hy
theorem c4W {i:Nat} {e:g9} {p:List Step} {t:Ty} {ks:List PK} {ys:List Operand} {r:DK ks×List Nat×List Nat} (hy:BC s ks i e p t ys=some r):ks.any PK.lnk=false:=by
 unfold BC at hy;split at hy
 ·exact CP hy
 ·split at hy
  ·split at hy
   ·exact CP hy
   ·cases hy
  ·cases hy
theorem b9s (hE:E2 E B) (h:RS B S ι s a w) {o:Oper} {c:Call} (ho:o.op=.call c) {g:FuncId} (hf:c.callee=.value (.func g)) {x:Operand} {ys:List Operand} (ha:c.args.toList=x::ys)
  {o2:Oper} {T2:TypeId} {ad:Operand} {d:Nat} (hd:I5 B.n (some d)=true) (iW:o2.op=.store T2 ad (.tmp d)) (lU:∀ t,ad=.tmp t->t≠d) {p:Prop} {s2:St} (hb:HJ E T2 g (s.ev x) ys (s.ev ad) d s=some (p,s2)) (hp:p) :
  xz E.P o a w (λ v' w'=>D0 E.P B o2 (a.put (some d) v') w' (.raw undef) s2):=by
 unfold HJ at hb;split at hb
 ·rename_i t ks t' pre fn out nw i p0 j q oI hx lS
  split at hb
  ·rename_i e aT cd
   simp only [aAa] at cd;obtain ⟨⟨⟨bS,kS⟩,pL⟩,qE⟩:=cd;have bS:=aAe bS;subst bS;have kS:F9 ks=[]:=by
    revert kS;cases F9 ks with
    | nil=>intro _; rfl
    | cons a b=>intro h; cases h
   split at hb
   ·rename_i u l y hg hy
    split at hb
    ·rename_i hu
     subst hu;split at hb
     ·rename_i r aI
      split at hb
      ·rename_i fF
       cases hb;simp only [aAa] at fF;obtain ⟨bB,bO⟩:=fF;obtain ⟨rfl,bc⟩:=hp;have aT:look i s.hp=some e:=aT;have cJ:e≠.N0:=by rcases (CZ bO).2 with ⟨_,_,rfl⟩|⟨_,_,_,_,rfl,_⟩<;>(intro h; cases h)
       have kE:=(CZ bO).2;obtain ⟨e1,u1,y1,cs,r1,aH,r3,cG,r5⟩:=D8 h hx;rw [aT] at r1; cases r1;rw [hg] at r3; cases r3;have dH:a.eval x=s5 (.d0 true t) cs:=by simpa using r5
       obtain ⟨Op,m1,mn,kN⟩:=I2 h.hs aT aH hg cG;obtain ⟨e2,b,off,z1,z2,hl,z4⟩:=D8 h lS;rw [aT] at z1; cases z1;have z4:a.eval ad=.pointer (some ⟨b,off,none⟩):=by simpa using z4
       have hV:=hE.E3 g _ oI;obtain ⟨fnn,jW,ga,ij⟩:=hV.ent;have ix:i6 w.heap S (.d0 true t) Op (e8 w.heap b off (Ty.d0 true t).size) l:=by
        have bV:=E0 hl;obtain ⟨b9,o9,k1,k2⟩:=id cG;rw [bV.1] at k1; cases k1;rw [k2,l7 (H7 bV.2)] at kN;exact kN
       obtain ⟨S1,lW,gF,qR,ra⟩:=c4V h aT aH hg hl ix m1 hy;have dE:∀ c∈Op,c∈l8 ι i e:=λ c hc=>J8 (m1 c hc);have oS:∀ b∈Op++[],¬ S1 b/\b<w.heap.size:=by
        intro b hb;have hb:b∈Op:=by simpa using hb
        exact ⟨qR b hb,(h.hs.bl i e aT b (dE b hb)).2.2⟩
       have jf:=hV.run w S1 (a.eval x::ys.map a.eval) (Y1 rfl l,y) (Op++[]) gF ((hE.gb.at_ h.hs).sub lW) bc ⟨_,_,Op,[],rfl,rfl,⟨cs,dH,kN.x7 (λ _ _=>rfl) lW⟩,ra⟩ (Ds (by rw [aFn,c4W hy]; rfl)) (by simpa using mn) oS;refine ⟨g,(a.eval x::ys.map a.eval).toArray,?_,?_⟩
       ·have pR:fnn.body.isNone=false:=ij
        have hq:(fnn.name == "runtime.NumGoroutine")=false:=ga
        have aF:c.args.map a.eval=(a.eval x::ys.map a.eval).toArray:=by
         rw [<- Array.toList_inj,Array.toList_map,ha]; simp
        have df:a.eval (.func g)=.func (.func g) #[] #[]:=by simp [Act.eval]
        simp only [execOp,ho,resolve,hf,df,Deferred.ofValue,Sem.run_bind,Sem.run_pure,Result.andThen,invoke,callFunc,program];simp [Sem.run,jW,hq,pR];exact aF
       ·refine Calls.mono jf ?_
        rintro en w' ⟨us,O,Lo,S',rfl,bn,iO,jI,eO,eP,aK,hO⟩;obtain ⟨v',us',O1,O2,cs',rfl,rfl,fT,oe,rfl,rfl⟩:=eO;refine ⟨v',rfl,?_⟩;have my:=Z3 (show F9 (.own (.d0 true t)::ks)=[] from kS) eP;subst my;have oe:=i6.L8 (S':=S) pL oe;have pQ:O1.Nodup:=by simpa using aK
        have cp:∀ c∈O1,(w.heap.size<=c\/c∈Op)/\c<w'.heap.size:=λ c hc=>by
         obtain ⟨_,q2,q3⟩:=hO c (by simp [hc]);exact ⟨by simpa using q2,q3⟩
        have bn:G2 Op w w':=by simpa using bn
        have bQ:∀ c∈l8 ι i e,¬ S c/\c<w.heap.size:=λ c hc=>⟨(h.hs.bl i e aT c hc).1,(h.hs.bl i e aT c hc).2.2⟩;obtain ⟨Om,p1,p2,p3,p4,p5,p6⟩:=P6 cJ (h.hs.ob i e aT) h.hs.slt aH hg hl;have ux:Om=Op:=by
         have bV:=E0 hl;obtain ⟨b9,o9,k1,k2⟩:=cG;rw [bV.1] at k1; cases k1;rw [k2,l7 (H7 bV.2)] at kN;exact p3.det kN
        subst ux;have fH:=(h.hs.ob i e aT).zV cJ h.hs.slt aH hg hl p3;have dR:=(bQ b p5).2;have ja:R0 w'.heap b (off+(Ty.d0 true t).size):=p6.x7 (bn.frame b dR fH);intro next Q hn
        have iQ:=h.put (d:=some d) hd (v:=.any) (val:=v') ⟨_,rfl⟩;have nW:(a.put (some d) v').eval ad=.pointer (some ⟨b,off,none⟩):=by
         rw [<- z4];cases ad with
         | tmp t9=>exact zq (lU t9 rfl)
         | _=>rfl
        have sA:(a.put (some d) v').eval (.tmp d)=v':=Lb (by
         rw [h.sz]; simpa [I5,aDf] using hd)
        have qv:∃ c1,cs'=[c1]:=by
         have:=oe.length
         match cs',this with
         | [c1],_=>exact ⟨c1,rfl⟩
        obtain ⟨c1,rfl⟩:=qv;obtain rfl:c1=v':=fT.symm;have pk:(Ty.d0 true t').sh=(Ty.d0 true t).sh:=Dl hg aI;have aP:(execOp (a.put (some d) c1).eval o2).run E.P w'=.ok .skip (w'.setRow b (over (y8 w'.heap b) off [c1]).toArray):=by
         have sJ:(storeVar T2 ⟨b,off,none⟩ c1).run E.P w'=.ok () (w'.setRow b (over (y8 w'.heap b) off [c1]).toArray):=MF (E5 hE qE) pk ja oe;simp [execOp,iW,nW,sA,Instr.storeAt,Instr.sureAddr,sJ]
        unfold Oper.wp;rw [aP];obtain ⟨fq,bM⟩:=FU (w:=w') (b:=b) (off:=off) (cs:=[c1]) ja;have mG:(w'.setRow b (over (y8 w'.heap b) off [c1]).toArray).heap.size=w'.heap.size:=setRow_size;have hold:∀ c,c≠b->(w'.setRow b (over (y8 w'.heap b) off [c1]).toArray).heap[c]?=w'.heap[c]?:=λ c cD=>setRow_other cD;have ki:(w'.setRow b (over (y8 w'.heap b) off [c1]).toArray).os=w'.os/\X5 w' (w'.setRow b (over (y8 w'.heap b) off [c1]).toArray)/\(w'.setRow b (over (y8 w'.heap b) off [c1]).toArray).output=w'.output:=⟨rfl,.of rfl rfl,rfl⟩;generalize sw:w'.setRow b (over (y8 w'.heap b) off [c1]).toArray=w'' at *
        have qJ:b∉O1:=λ dK=>by
         rcases (cp b dK).1 with q|q
         ·omega
         ·exact fH q
        have mA:i6 w''.heap S (.d0 true t') O1 (e8 w''.heap b off (Ty.d0 true t').size) (fn (Y1 rfl l,y)).1:=by
         have:e8 w''.heap b off (Ty.d0 true t').size=[c1]:=bM;rw [this];refine oe.x7 (λ c hc=>hold c ?_) (λ _ h=>h);rintro rfl;rcases hc with hc|hc
         ·exact qJ hc
         ·exact (bQ c p5).1 hc
        obtain ⟨O,n1,n2⟩:=OB.swap (h.hs.ob i e aT) bQ h.hs.slt kE aH hg hl bn.size p3 (λ c hc hn=>bn.frame c hc hn) fq mG mA (λ c hc=>by
         obtain ⟨q1,q2⟩:=cp c hc;exact ⟨by omega,λ bf=>q1.resolve_left (by omega)⟩) pQ aI
        have lh:G2 (l8 ι i e) w w'':=by
         refine ⟨ki.1.trans bn.os,ki.2.1.trans bn.tape,ki.2.2.trans bn.out,by rw [mG]; exact bn.size,λ c hc hn=>?_⟩;rw [hold c (by rintro rfl; exact hn p5)];exact bn.frame c hc (λ qF=>hn (dE c qF))
        have cv:=iQ.renew (by simpa [St.put] using aT) (c05 bO) H2.nil (L:=l8 ι i e) lh (λ b hb=>.inl hb) (λ _ h=>h) (λ _ h=>.inl h) (O':=O) n2 (λ c hc=>by
         have cX:c∈l8 ι i e\/c∈O1:=by
          cases e with
          | var t9 x9 =>
           simp only [l8,g9.F1,Ix.E1,if_true,aAq] at hc ⊢;rcases hc with hc|hc
           ·exact .inl (.inl hc)
           ·exact (n1 c hc).imp .inr id
          | own t9 x9 =>
           simp only [l8,g9.F1,Ix.E1,if_true] at hc ⊢;exact n1 c hc
          | N0=>exact absurd rfl cJ
         rcases cX with cX|cX
         ·exact ⟨(bQ c cX).1,.inr cX,by have:=(bQ c cX).2; have:=bn.size; omega⟩
         ·obtain ⟨q1,q2⟩:=cp c cX
          have ir:¬ S c:=by
           have:=(hO c (by simp [cX])).1;exact λ hs=>this (iO c (lW c hs))
          exact ⟨ir,q1.imp id (dE c),by omega⟩)
        exact hn S _ w'' undef cv rfl
      ·cases hb
     ·cases hb
    ·cases hb
   ·cases hb
  ·cases hb
 ·cases hb
theorem xz.put {P:Program} {o:Oper} {c:Call} (ho:o.op=.call c) {g:FuncId} (hf:c.callee=.value (.func g)) {d:Nat} {val:Value} (hd:∀ z∈c.args.toList,z≠.tmp d) {R:Value->World->Prop} (h:xz P o (a.put (some d) val) w R):xz P o a w R:=by
 obtain ⟨g',vs,h1,h2⟩:=h;refine ⟨g',vs,?_,h2⟩;rw [<- h1];have aF:c.args.map (a.put (some d) val).eval=c.args.map a.eval:=by
  apply Array.map_congr_left;intro z hz;cases z with
  | tmp t=>exact zq (λ e=>hd _ (by simpa using hz) (by rw [e]))
  | _=>rfl
 have df:(a.put (some d) val).eval (.func g)=a.eval (.func g):=rfl;simp only [execOp,ho,resolve,hf,df,aF]
theorem Ve (hE:E2 E B) (hn:B.n=E.nt) {ops:Array Oper} {Q:Exit->Act->World->Prop} {oa:Oper} {c:Call} (ho:oa.op=.call c) {g:FuncId} (hf:c.callee=.value (.func g)) {x:Operand} {ys:List Operand} (ha:c.args.toList=x::ys)
  {d:Nat} (hd:I5 B.n (some d)=true):∀ {l:List Oper} {S:Nat->Prop} {ι:Ix} {s:St} {a:Act} {w:World} {p:Prop} {s2:St} {n:Nat},RS B S ι s a w->ET E g x ys d l s=some (p,s2,n)->p->(∀ S' ι' a' w'',RS B S' ι' s2 a' w''->wpList E.P ops Q (l.drop n) a' w'') ->
  xz E.P oa a w (λ v' w'=>wpList E.P ops Q l (a.put (some d) v') w')
 | [],S,ι,s,a,w,p,s2,n,_,hb,_,_=>by cases hb
 | o::rest,S,ι,s,a,w,p,s2,n,h,hb,hp,hk=>by
  unfold ET at hb;split at hb
  ·rename_i hg gP
   split at hb
   ·rename_i lC
    split at hb
    ·rename_i d1 gQ
     split at hb
     ·rename_i p1 v cd hv
      split at hb
      ·rename_i p2 s3 n2 kZ
       cases hb;simp only [aAa,aAu] at cd;obtain ⟨⟨c1,c2⟩,c3⟩:=cd;have br:d1≠d:=by rintro rfl; simp at c1
       have dY:=Dg hE h lC;have dH:Cf E.P S ι o a w s v:=by
        split at hv
        ·cases hv
        ·rename_i v0 s0 e0; cases hv; rw [e0] at dY; exact dY.2
        ·rename_i q0 v0 s0 e0; cases hv; rw [e0] at dY; exact (dY hp.1).2
       obtain ⟨val,aP,dB⟩:=dH;rw [gQ] at gP;have cv:=h.put (d:=some d1) (by rw [hn]; exact gP) dB;have mN:=Ve hE hn ho hf ha hd (ops:=ops) (Q:=Q) cv kZ hp.2 hk;refine (mN.put ho hf (λ z hz=>?_)).mono (λ v' w' hw=>?_)
       ·rw [ha] at hz
        rintro rfl;have:=aBk.1 c3 _ hz;simp at this
       ·unfold wpList
        simp only [Region.wanted,hg,if_true];refine .inl ?_;unfold Oper.wp;have ex:execOp (a.put (some d) v').eval o=execOp a.eval o:=Qa lC (λ t ht=>zq (by
         rintro rfl;simp [ht] at c2))
        rw [ex,aP w'];show wpList E.P ops Q rest ((a.put (some d) v').put o.dst val) w';rw [gQ,Sl (Ne.symm br)];exact hw
      ·cases hb
     ·cases hb
    ·cases hb
   ·split at hb
    ·rename_i T2 ad d' cB
     split at hb
     ·rename_i cd
      simp only [aAa] at cd;obtain ⟨c1,c2⟩:=cd;obtain rfl:=aAe c1;split at hb
      ·rename_i p2 s3 cG
       cases hb;have lU:∀ t,ad=.tmp t->t≠d':=by
        intro t e;subst e;rintro rfl;simp at c2
       refine (b9s hE h ho hf ha hd cB lU cG hp).mono (λ v' w' hw=>?_);unfold wpList;simp only [Region.wanted,hg,if_true];refine .inl (hw _ _ (λ S' ι' w2 val h1 h2=>?_));exact hk S' ι' _ w2 (h1.put (by rw [hn]; exact gP) h2)
      ·cases hb
     ·cases hb
    ·cases hb
  ·cases hb
theorem c1n {H:Array Go.Obj} {t:Ty} {y:(Ty.D4 t).den} (cj:t.shared=true) (h1:1<=y.1) (h2:y.1<=2) {O:List Nat} {cs:List Value} (hr:i6 H S (.D4 t) O cs y):i6 H S (.d0 true t) O cs y.2.1:=by
 obtain ⟨n,l,m⟩:=y
 match n,h1,h2,hr with
 | 1,_,_,hr=>exact hr
 | 2,_,_,⟨b,off,O',c1,c2,c3,c4,c5,c6⟩ =>
  obtain rfl:O'=[]:=j5.Q8 (λ _ _ _ hr=>hr.Q8 cj) c4;have bf:(l++m).length=l.length+m.length:=aAd;rw [bf,aBp] at c3 c4;have s1:=(j5.two (λ _ _ _ hr=>hr.length) (λ _ _ _ hr=>hr.Q8 cj) c4).1;rw [n9 _ _ _ _ (by omega)] at s1;exact .inr ⟨b,off,List.length l+List.length m,[],c1,by show List.length l<=_; omega,c2,by show off+List.length l*t.size<=_; omega,s1,c5,c6⟩
theorem b9t (hE:E2 E B) (hn:B.n=E.nt) (h:RS B S ι s a w) {o:Oper} {p:Prop} {s2:St} (hb:HI E o s=some (p,s2)) (hp:p) :
  o.guard=none/\xz E.P o a w (λ v' w'=>∃ ι',RS B S ι' s2 (a.put o.dst v') w'):=by
 unfold HI at hb; cases hb
def Iv (H:Array Go.Obj) (S:Nat->Prop) (tl:Option (FuncId×Nat)) (pre us0 vs:List Value):Prop :=
 match tl with
 | none=>vs=us0
 | some (f,k)=>k<=pre.length/\∃ b off,vs=us0++[.pointer (some ⟨b,off,none⟩)]/\S b/\off+1<=(y8 H b).length/\e8 H b off 1=[.func (.func f) #[] ((pre.take k).reverse++vs).toArray]
theorem Iv.next {H:Array Go.Obj} {tl:Option (FuncId×Nat)} {pre us0 vs:List Value} {v:Value} (h:Iv H S tl pre (v::us0) vs):∃ vs',vs=v::vs'/\Iv H S (tl.map λ q=>(q.1,q.2+1)) (v::pre) us0 vs':=by
 cases tl with
 | none=>exact ⟨us0,h,rfl⟩
 | some q =>
  obtain ⟨f,k⟩:=q;obtain ⟨hk,b,off,rfl,h1,h2,h3⟩:=h;refine ⟨_,rfl,by simpa using hk,b,off,rfl,h1,h2,?_⟩;rw [h3];simp [aHw]
theorem RS.slot (h:RS B S ι s a w) {t:Nat} {v:AV} (hv:VX w.heap S ι s.hp v [a.tmps.getD t (B.gd t)]):RS B S ι { s with fr:=Ex.put t v s.fr } a w:=by
 refine ⟨h.hs,h.dfr,h.sz,?_⟩;intro t' v' ht;simp only [p9] at ht;by_cases e:t'=t
 ·subst e
  rw [if_pos rfl] at ht; cases ht; exact hv
 ·rw [if_neg e] at ht; exact h.fr t' v' ht
theorem b8U (hE:E2 E B) (hn:B.n=E.nt) (hM:E.ps.any PK.l6=false->∀ b,¬ B.M b) (h:RS B S ι s a w) {o:Oper} {p:Prop} {s2:St} (hb:HL E o s=some (p,s2)) (hp:p) :
  o.guard=none/\∀ (next:Act->World->Prop) (Q:Exit->Act->World->Prop),(∀ S' ι' a' w',RS B S' ι' s2 a' w'->next a' w')->o.wp E.P a w next Q:=by
 unfold HL at hb; cases hb
theorem RS.OL (h:RS B S ι s a w) {i:Nat} {u t:Ty} {y:u.den} {z:t.den} (he:look i s.hp=some (.var u y)) {O1 D:List Nat} (hp:(ι.own i).Perm (O1++D)) (p2:t.size=u.size)
  (hz:i6 w.heap (λ b=>S b\/b∈D) t O1 (e8 w.heap (ι.root i).1 (ι.root i).2 t.size) z):RS B (λ b=>S b\/b∈D) (ι.E1 i O1) ((s.yi i).y9 i (.var t z)) a w:=by
 obtain ⟨-,hf,aK⟩:=h.hs.ob i _ he;have oV:∀ b∈D,b∈ι.own i:=λ b hb=>hp.mem_iff.2 (by simp [hb]);have kO:∀ b∈O1,b∈ι.own i:=λ b hb=>hp.mem_iff.2 (by simp [hb]);have db:(O1++D).Nodup:=(hp.nodup_iff).1 (aAt.1 aK).2;have bG:=(aAt.1 aK).1;have bQ:=h.hs.bl i _ he;have dm:∀ b∈ι.own i,b∈l8 ι i (.var u y):=λ b hb=>by simp [l8,hb]
 have bm:∀ j,j≠i->G1 ι (ι.E1 i O1) j:=λ j hj=>Y4 hj _;have bU:∀ b∈l8 (ι.E1 i O1) i (.var t z),b∈l8 ι i (.var u y)/\b∉D:=by
  intro b hb;have hb:b∈(ι.root i).1::(ι.E1 i O1).own i:=hb;simp only [Ix.E1,if_true] at hb;refine (aAq.1 hb).elim (λ e=>⟨by simp [l8,e],λ hD=>bG (e▸oV b hD)⟩) (λ e=>⟨dm b (kO b e),λ hD=>(aAg.1 db).2.2 b e b hD rfl⟩)
 refine ⟨⟨h.hs.os,h.hs.tape,h.hs.out,h.hs.size,h.hs.frame,?_,λ b hb=>.inl (h.hs.s0 b hb),?_,?_,?_,?_,?_⟩,h.dfr,h.sz,?_⟩
 ·rintro b (hb|hb)
  ·exact h.hs.slt b hb
  ·exact (bQ b (dm b (oV b hb))).2.2
 ·rintro b (hb|hb)
  ·exact h.hs.s1 b hb
  ·rcases (bQ b (dm b (oV b hb))).2.1 with q|q
   ·exact .inr (.inl q)
   ·exact .inr (.inr q)
 ·intro j ej hj
  simp only [St.y9,p9] at hj;by_cases e1:j=i
  ·subst e1; rw [if_pos rfl] at hj; cases hj
   refine ⟨⟨O1,by simp [Ix.E1],?_⟩,?_,?_⟩
   ·exact hz
   ·rw [p2]; exact hf
   ·show ((ι.root j).1::(ι.E1 j O1).own j).Nodup
    simp only [Ix.E1,if_true];exact aAt.2 ⟨λ h=>bG (kO _ h),(aAg.1 db).1⟩
  ·rw [if_neg e1] at hj
   exact (bm j e1).ob.2 ((h.hs.ob j ej hj).x7 (λ _ _=>rfl) (λ _ h=>.inl h))
 ·intro j ej hj b hb
  simp only [St.y9,p9] at hj;by_cases e1:j=i
  ·subst e1; rw [if_pos rfl] at hj; cases hj
   obtain ⟨q1,q2⟩:=bU b hb;obtain ⟨r1,r2,r3⟩:=bQ b q1;exact ⟨λ hs=>hs.elim r1 q2,r2,r3⟩
  ·rw [if_neg e1] at hj
   rw [(bm j e1).l8] at hb;obtain ⟨r1,r2,r3⟩:=h.hs.bl j ej hj b hb;exact ⟨λ hs=>hs.elim r1 (λ hD=>h.hs.dj j i ej _ hj he e1 b hb (dm b (oV b hD))),r2,r3⟩
 ·intro j k ej ek hj hk fL c hc
  simp only [St.y9,p9] at hj hk;by_cases e1:j=i
  ·subst e1
   rw [if_pos rfl] at hj; cases hj;rw [if_neg (Ne.symm fL)] at hk;rw [(bm k (Ne.symm fL)).l8];exact h.hs.dj j k _ ek he hk fL c (bU c hc).1
  ·rw [if_neg e1] at hj
   rw [(bm j e1).l8] at hc;by_cases e2:k=i
   ·subst e2
    rw [if_pos rfl] at hk; cases hk;exact λ cX=>h.hs.dj j k ej _ hj he fL c hc (bU c cX).1
   ·rw [if_neg e2] at hk
    rw [(bm k e2).l8];exact h.hs.dj j k ej ek hj hk fL c hc
 ·intro q hq
  obtain ⟨k0,⟨e',k1⟩,k2,k3⟩:=h.hs.pin q hq;refine ⟨k0,?_,k2,k3⟩;simp only [St.y9,p9];by_cases e1:q.1=i
  ·exact ⟨_,by rw [if_pos e1]⟩
  ·exact ⟨e',by rw [if_neg e1]; exact k1⟩
 ·intro t9 v hv
  simp only [St.y9,St.yi,R7,aCq] at hv;obtain ⟨v0,fk,rfl⟩:=hv;refine VX.map (λ _ _=>rfl) (λ _ h=>.inl h) (λ v vs hr hm dB=>?_) (h.fr t9 v0 fk);unfold AV.Nu;cases cf:v.i8 i with
  | false =>
   have br:∀ j,v.i8 j=true->j≠i:=by rintro j hj rfl; rw [cf] at hj; cases hj
   have bO:VX w.heap (λ b=>S b\/b∈D) ι s.hp v vs:=VX.grow (λ _ _=>rfl) (λ _ h=>.inl h) h.hs.slt h.hs.ob dB;exact VX.other (λ j hj=>by simp only [St.y9,p9,if_neg (br j hj)]; rfl) (λ j hj=>bm j (br j hj)) bO
  | true =>
   have cF:=VX.one hr dB;simp only
   split
   ·rename_i j
    have dO:i=j:=aAe cf;subst dO;obtain ⟨ej,b2,off2,k1,k2,k3,k4⟩:=dB;rw [he] at k1; cases k1;refine ⟨.var t z,b2,off2,by simp [St.y9,p9],Q7,?_,k4⟩;simp only [Loc,Place,VR,VH,C8] at k3 ⊢;exact k3
   ·exact cF
theorem RS.NX (h:RS B S ι s a w) {i:Nat} {u t:Ty} {y:u.den} {z:t.den} (he:look i s.hp=some (.var u y)) (hz:zC u t y=some z):∃ S' ι',RS B S' ι' ((s.yi i).y9 i (.var t z)) a w:=by
 obtain ⟨⟨O,hO,hR⟩,hf,aK⟩:=h.hs.ob i _ he;obtain ⟨O1,D,p1,p2,p3⟩:=ZP hz hR;refine ⟨_,_,h.OL he (hO.symm.trans p1) p2 ?_⟩;rw [p2];exact p3 (λ b=>S b\/b∈D) (λ _ h=>.inl h) (λ _ h=>.inr h)
theorem c4e {H:Array Go.Obj} {S S':Nat->Prop} {t0:Ty} {O:List Nat} {cs:List Value} {z:(Ty.D4 t0).den} (hR:i6 H S (.D4 t0) O cs z) (cj:t0.shared=true) (hD:∀ b∈O,S' b) (hS:∀ b,S b->S' b):i6 H S' (.d0 false t0) [] cs z.2.1:=by
 have h0:∀ O cs x,i6 H S t0 O cs x->O=[]:=λ O cs x h=>i6.Q8 cj h;have bO:∀ {O cs l},j5 (i6 H S t0) t0.size O cs l->j5 (i6 H S' t0) t0.size [] cs l:=λ {O cs l} h=>by
  obtain rfl:=j5.Q8 h0 h;exact j5.mono (L:=[]) (λ _ h=>h) (λ _ _ _ _ hr=>hr.x7 (λ _ _=>rfl) hS) h
 obtain ⟨n,l,m⟩:=z
 match n,hR with
 | 0,hR =>
  rcases hR with ⟨_,⟨a,c,h1,_⟩,h2⟩|⟨b,off,cap,O',c1,c2,c3,c4,c5,_,_,c8⟩
  ·exact .inl ⟨rfl,⟨a,c,h1,λ h=>by cases h⟩,h2⟩
  ·exact .inr ⟨b,off,cap,[],c1,c2,c3,c4,bO c5,rfl,rfl,hS b c8⟩
 | 1,hR =>
  rcases hR with ⟨_,⟨a,c,h1,_⟩,h2⟩|⟨b,off,cap,O',c1,c2,c3,c4,c5,c6,_⟩
  ·exact .inl ⟨rfl,⟨a,c,h1,λ h=>by cases h⟩,h2⟩
  ·exact .inr ⟨b,off,cap,[],c1,c2,⟨c3.1,λ h=>by cases h⟩,c4,bO c5,rfl,rfl,hD b (by rw [c6]; simp)⟩
 | n+2,⟨b,off,O',c1,c2,c3,c4,c5⟩ =>
  have hl:List.length l*t0.size<=List.length (l++m)*t0.size:=aAm _ (by rw [aAd]; omega);have c6:=(j5.two (λ _ _ _ h=>h.length) h0 c4).1;rw [n9 _ _ _ _ hl] at c6;refine .inr ⟨b,off,_,[],c1,aDb _ _,⟨c2.1,λ h=>by cases h⟩,aAx (aHv hl off) c3,bO c6,rfl,rfl,?_⟩
  match n,c5 with
  | 0,c5=>exact hD b (by rw [c5.1]; simp)
  | n+1,c5=>exact hS b c5.2.2
theorem RS.VN (h:RS B S ι s a w) {i k:Nat} {u:Ty} {y:u.den} (he:look i s.hp=some (.var u y)) {p:List Step} {t0:Ty} {z:(Ty.D4 t0).den} (hg:j9 u y p=some ⟨.D4 t0,z⟩) (cj:t0.shared=true)
  {r:Sigma Ty.den} (hr:w7 u y p (.D4 t0) ((0,z.2.1,[]):Nat×(List t0.den×List t0.den))=some r) (hk:look k s.fr=some (.at_ i p)) :
  ∃ S' ι',RS B S' ι' { ((s.yi i).y9 i (.var r.1 r.2)) with fr:=Ex.put k (.val (.d0 false t0) z.2.1) ((s.yi i).y9 i (.var r.1 r.2)).fr } a w:=by
 have cJ:(g9.var u y)≠.N0:=λ h=>by cases h
 obtain ⟨e2,u2,y2,cs,r1,aH,r3,r4,r5⟩:=h.fr k _ hk;rw [he] at r1; cases r1;have r3:j9 u y p=some ⟨u2,y2⟩:=r3;rw [hg] at r3; cases r3;obtain ⟨O,hO,hR,eB,aK,bf,gB,dZ⟩:=(h.hs.ob i _ he).see cJ h.hs.slt;obtain ⟨O1,O3,b',ar,g1,g2,g3,g4,g5,g6⟩:=focus hR eB aH hg
 obtain ⟨b0,off0,q1,q2⟩:=r4;rw [J1 cJ,g3] at q1; cases q1;have kO:∀ b∈O1++O3,b∈ι.own i:=λ b hb=>hO.mem_iff.1 (g1.mem_iff.2 hb);have cx:(O1++O3).Nodup:=(g1.nodup_iff).1 ((hO.nodup_iff).2 (aAt.1 aK).2);have bG:=(aAt.1 aK).1;have bQ:=h.hs.bl i _ he;have kz:i6 w.heap (λ b=>S b\/b∈O3) (.d0 false t0) [] cs z.2.1:=by
  rw [q2]; exact c4e g4 cj (λ _ hb=>.inr hb) (λ _ hb=>.inl hb)
 have jV:R0 w.heap b' (ar+(Ty.D4 t0).size):=by
  rcases g6 with ⟨rfl,_,g7⟩|⟨_,g7⟩
  ·obtain ⟨arr,T,hl,hn⟩:=dZ
   exact ⟨arr,T,hl,aAx g7 hn⟩
  ·exact g7
 have lu:i6 w.heap (λ b=>S b\/b∈O3) (.D4 t0) [] (e8 w.heap b' ar (Ty.D4 t0).size) ((0,z.2.1,[]):Nat×(List t0.den×List t0.den)):=by
  have:=kz; rw [q2] at this; exact this
 obtain ⟨O',k1,k2,k3⟩:=CD g2 hg g3 eB bf (aAg.1 cx).1 (λ hc=>bG (kO _ (aBf _ hc))) (λ c hc=>by
  obtain ⟨q1,q2,q3⟩:=bQ c (by simp [l8,kO c (aBf _ hc)]);exact ⟨q1,q3⟩) (bQ _ (show (ι.root i).1∈(ι.root i).1::ι.own i from aBd)).1 h.hs.slt (λ _ hb=>.inl hb) (X7.refl jV) lu hr
 have aW:r.1.size=u.size:=H4 k3;have hD:=h.OL he (t:=r.1) (z:=r.2) (O1:=O') (D:=O3) ((hO.symm.trans g1).trans (by
  refine aHk _ ?_;rw [aAv] at k1; exact k1.symm)) aW k2
 refine ⟨_,_,⟨hD.hs,hD.dfr,hD.sz,λ t v hv=>?_⟩⟩;simp only [p9] at hv;by_cases e:t=k
 ·subst e
  rw [if_pos rfl] at hv; cases hv;exact ⟨cs,r5,kz⟩
 ·rw [if_neg e] at hv
  exact hD.fr t v hv
theorem RS.xn (h:RS B S ι s a w) {i:Nat} (hp:pinned i=false) (t:Ty):∃ S' ι',RS B S' ι' (s.xn i t) a w:=by
 have hl:∀ {j:Nat} {e:g9},look j (del i s.hp)=some e->look j s.hp=some e/\j≠i:=by
  intro j e hj;rw [M8] at hj;split at hj
  ·cases hj
  ·rename_i h9; exact ⟨hj,h9⟩
 have gF:∀ b,S b->(S b\/P0 ι s.hp [i] b):=λ _ h=>.inl h;refine ⟨λ b=>S b\/P0 ι s.hp [i] b,ι,⟨h.hs.os,h.hs.tape,h.hs.out,h.hs.size,h.hs.frame,?_,λ b hb=>.inl (h.hs.s0 b hb),?_,?_,?_,?_,?_⟩,h.dfr,h.sz,?_⟩
 ·rintro b (hb|⟨j,e,hj,he,hb⟩)
  ·exact h.hs.slt b hb
  ·exact (h.hs.bl j e he b hb).2.2
 ·rintro b (hb|⟨j,e,hj,he,hb⟩)
  ·exact h.hs.s1 b hb
  ·rcases (h.hs.bl j e he b hb).2.1 with q|q
   ·exact .inr (.inl q)
   ·exact .inr (.inr q)
 ·intro j e hj
  exact (h.hs.ob j e (hl hj).1).x7 (λ _ _=>rfl) gF
 ·intro j e hj b hb
  obtain ⟨r1,r2,r3⟩:=h.hs.bl j e (hl hj).1 b hb;refine ⟨λ hs=>hs.elim r1 ?_,r2,r3⟩;rintro ⟨k,ek,hk,he,lQ⟩;rw [aBe] at hk;subst hk;exact h.hs.dj j k e ek (hl hj).1 he (hl hj).2 b hb lQ
 ·intro j k ej ek hj hk
  exact h.hs.dj j k ej ek (hl hj).1 (hl hk).1
 ·intro q hq
  obtain ⟨k0,⟨e',k1⟩,k2⟩:=h.hs.pin q hq;refine ⟨k0,⟨e',?_⟩,k2⟩;show look q.1 (del i s.hp)=_;rw [M8,if_neg (by rintro e1; rw [e1,hp] at k0; cases k0)]; exact k1
 ·intro t9 v hv
  simp only [St.xn,R7,aCq] at hv;obtain ⟨v0,fk,rfl⟩:=hv;refine VX.map (λ _ _=>rfl) (λ _ h=>.inl h) (λ v vs hr hm dB=>?_) (h.fr t9 v0 fk);unfold AV.Ng;cases cf:v.i8 i with
  | false =>
   have br:∀ j,v.i8 j=true->j≠i:=by rintro j hj rfl; rw [cf] at hj; cases hj
   have bO:VX w.heap (λ b=>S b\/P0 ι s.hp [i] b) ι s.hp v vs:=VX.grow (λ _ _=>rfl) (λ _ h=>.inl h) h.hs.slt h.hs.ob dB;exact VX.other (λ j hj=>by show look j (del i s.hp)=_; rw [M8,if_neg (br j hj)]) (λ j hj=>G1.refl ι j) bO
  | true =>
   obtain ⟨x1,rfl⟩:=VX.one hr dB;have mv:∀ b,P0 ι s.hp v.I9 b->(S b\/P0 ι s.hp [i] b):=by
    intro b hb;obtain ⟨j,e,hj,he,jy⟩:=hb;have dO:j=i:=by
     cases v<;>simp only [AV.ref] at hr<;>try cases hr
     all_goals (simp only [AV.I9,aBe] at hj; simp only [AV.i8] at cf; exact hj.trans (aAe cf).symm)
    subst dO;exact .inr ⟨j,e,by simp,he,jy⟩
   simp only
   split
   ·rename_i x hx
    obtain ⟨cs,e1,e2⟩:=OA h.hs hx dB gF mv;exact ⟨cs,by rw [e1],e2⟩
   ·split
    ·split
     ·rename_i x hx
      obtain ⟨b,off,e1,e2,e3,e4⟩:=JE h.hs (show AV.asR s t (.ptr _ _)=some x from hx) dB gF mv;exact ⟨b,off,by rw [e1],e2,e3,e4⟩
     ·exact ⟨_,rfl⟩
    ·exact ⟨_,rfl⟩
theorem RS.ya (hM:∀ b,¬ B.M b):∀ {l:List Nat} {S:Nat->Prop} {ι:Ix} {s:St} {a:Act} {w:World},RS B S ι s a w->∃ S' ι',RS B S' ι' (s.ya l) a w
 | [],S,ι,s,a,w,h=>⟨S,ι,h⟩
 | i::l,S,ι,s,a,w,h=>by
  unfold St.ya
  split
  ·rename_i u y aT hp
   obtain ⟨S2,ι2,h2⟩:=h.xn hp (.d0 false u.sh);exact RS.ya hM h2
  ·exact RS.ya hM h
theorem c1P (hM:E.ps.any PK.l6=false->∀ b,¬ B.M b) (h:RS B S ι s a w) (o:Oper):∃ S' ι',RS B S' ι' ((Bw E o s).getD s) a w:=by
 cases hd:Bw E o s with
 | none=>exact ⟨S,ι,h⟩
 | some s2 =>
  show ∃ S' ι',RS B S' ι' s2 a w;unfold Bw at hd;split at hd
  ·rename_i c hp ho
   split at hd
   ·split at hd
    ·split at hd
     ·rename_i i u y aT
      split at hd
      ·cases hd
      ·split at hd
       ·rename_i z hz
        cases hd;exact h.NX aT hz
       ·cases hd
     ·cases hd
    ·split at hd
     ·rename_i mV _
      cases hd;exact h.xn mV _
     ·cases hd
    ·split at hd
     ·cases hd
     ·cases hd
      exact RS.ya (hM hp) h
    ·cases hd
   ·cases hd
  ·rename_i hp ho
   split at hd
   ·split at hd
    ·rename_i mV
     cases hd;exact h.xn mV _
    ·cases hd
   ·cases hd
  ·cases hd
theorem Z6 (hM:E.ps.any PK.l6=false->∀ b,¬ B.M b):∀ {l:List (Nat×Option Ty)} {S:Nat->Prop} {ι:Ix} {s:St} {a:Act} {w:World},RS B S ι s a w->∃ S' ι',RS B S' ι' (AK E l s) a w
 | [],S,ι,s,a,w,h=>⟨S,ι,h⟩
 | (m,none)::l,S,ι,s,a,w,h=>Z6 hM (l:=l) h
 | (m,some t)::l,S,ι,s,a,w,h=>by
  have key:∃ S' ι',RS B S' ι' (GX E m t s) a w:=by
   unfold GX
   split
   ·rename_i i hp _
    split
    ·rename_i u y aT
     split
     ·exact ⟨S,ι,h⟩
     ·split
      ·rename_i z hz
       exact h.NX aT hz
      ·exact ⟨S,ι,h⟩
    ·exact ⟨S,ι,h⟩
   ·rename_i i p hm
    split
    case h_2=>exact ⟨S,ι,h⟩
    unfold Nv
    split
    ·rename_i u y aT
     split
     ·rename_i t0 z hg
      split
      ·rename_i r cj hr
       have hk:look m s.fr=some (.at_ i p):=by
        unfold St.get at hm;cases hl:look m s.fr with
        | none=>rw [hl] at hm; cases hm
        | some v=>rw [hl] at hm; exact congrArg some hm
       exact h.VN aT hg cj hr hk
      ·exact ⟨S,ι,h⟩
     ·exact ⟨S,ι,h⟩
    ·exact ⟨S,ι,h⟩
   ·rename_i hm
    split
    ·rename_i u
     have hg:=h.get m;rw [hm] at hg;have hv:a.tmps.getD m (B.gd m)=Value.slice none 0 0:=by
      have:[a.tmps.getD m (B.gd m)]=[Value.slice none 0 0]:=hg;simpa using this
     exact ⟨S,ι,h.slot (t:=m) (v:=.val (.d0 false u) ([]:List u.den)) ⟨[.slice none 0 0],by rw [hv]; rfl,.inl ⟨rfl,⟨none,0,rfl,λ _=>rfl⟩,rfl⟩⟩⟩
    ·exact ⟨S,ι,h⟩
   ·exact ⟨S,ι,h⟩
  obtain ⟨S',ι',h'⟩:=key;exact Z6 hM (l:=l) h'
theorem b8R (h:RS B S ι s a w) (o:Oper):∃ ι',RS B S ι' ((Es E o s).getD s) a w:=by
 cases hd:Es E o s with
 | none=>exact ⟨ι,h⟩
 | some s' =>
  show ∃ ι',RS B S ι' s' a w;unfold Es at hd;split at hd
  ·split at hd
   ·rename_i g tx ys hc ha
    split at hd
    ·rename_i t ks rs pre fn out nw i st p oI hx
     split at hd
     ·rename_i u y aT
      split at hd
      ·rename_i v l r hg aI
       split at hd
       ·rename_i hv
        subst hv;split at hd
        ·rename_i cd
         cases hd;simp only [aAa] at cd;have aT:look i s.hp=some (.var u y):=aT;have df:=h.fr tx _ hx;obtain ⟨e1,u1,y1,cs,r1,aH,r3,cG,r5⟩:=df;rw [aT] at r1; cases r1;have hg:j9 (g9.var u y).ty (g9.var u y).x (st::p)=some ⟨.d0 true t,l⟩:=hg;rw [hg] at r3; cases r3;obtain ⟨Op,m1,mn,kN⟩:=I2 h.hs aT aH hg cG;obtain ⟨b,off,k1,k2⟩:=id cG;have cJ:(g9.var u y)≠.N0:=by intro h; cases h
         have dR:b<w.heap.size:=by
          obtain ⟨b',ar,O2,q1,q2,q3,q4,q5,q6⟩:=(h.hs.ob i _ aT).part cJ h.hs.slt aH hg;rw [q1] at k1; cases k1;rcases aEd b w.heap.size with h9|h9
          ·exact h9
          ·have q5:off+1<=(y8 w.heap b).length:=q5
           simp only [y8,aCj h9,aCi] at q5;omega
         have hl:Loc w.heap ι i (.var u y) (st::p)=some (b,off):=wL k1 dR;have ix:i6 w.heap S (.d0 true t) Op (e8 w.heap b off (Ty.d0 true t).size) l:=by
          rw [k2,l7 (H7 dR)] at kN;exact kN
         have cH:∃ c0,e8 w.heap b off (Ty.d0 true t).size=[c0]/\Ea c0=true:=by
          rcases ix with ⟨_,⟨a1,c1,e1,_⟩,_⟩|⟨b1,o1,cap1,O1,e1,_⟩
          ·exact ⟨_,e1,rfl⟩
          ·exact ⟨_,e1,rfl⟩
         obtain ⟨c0,eT,mb⟩:=cH;obtain ⟨ι',⟨O,rfl,hO⟩,h0⟩:=h.EG aT aH hg hl (u':=.hole t) (z:=([]:List t.den)) (cs:=[c0]) (O2:=[]) (λ H' _ _=>⟨rfl,c0,rfl,mb⟩) rfl aAy (by simp) aI (by intro h; cases h);have hw:w.setRow b (over (y8 w.heap b) off [c0]).toArray=w:=by
          obtain ⟨O2,q1,q2,q3,m4,m5,arr,T,⟨fz,e1,_⟩,hn⟩:=P6 (M6 hl) (h.hs.ob i _ aT) h.hs.slt aH hg hl;have hb:y8 w.heap b=arr.toList:=by simp only [y8,e1]
          have:over (y8 w.heap b) off [c0]=y8 w.heap b:=by
           rw [<- eT]; exact over_self m4
          rw [this,hb]; exact setRow_self w b arr T fz (by simpa using e1)
         rw [hw] at h0;have dE:∀ c∈Op,c∈l8 ι i (.var u y):=λ c hc=>J8 (m1 c hc);have hF:H2 B S (ι.E1 i O) ((s.kill i (g9.var u y).kd (st::p)).y9 i (.var r.1 r.2)).hp w Op:=by
          refine ⟨mn,λ c hc=>?_⟩;obtain ⟨z1,z2,z3⟩:=h.hs.bl i _ aT c (dE c hc);refine ⟨z1,z2,z3,λ j ej r2 r3=>?_⟩;simp only [St.y9,p9] at r2;by_cases hj:j=i
          ·subst hj
           rw [if_pos rfl] at r2; cases r2;have r3:c∈(ι.root j).1::(ι.E1 j O).own j:=r3;simp only [Ix.E1,if_true] at r3;refine (aAq.1 r3).elim (λ g3=>?_) (λ g3=>?_)
           ·obtain ⟨_,_,aK⟩:=h.hs.ob j _ aT
            exact (aAt.1 aK).1 (g3▸m1 c hc)
           ·rcases (hO c g3).2 with h9|h9
            ·cases h9
            ·exact h9 Op ix hc
          ·rw [if_neg hj] at r2
           rw [(Y4 hj O).l8] at r3;exact h.hs.dj i j _ ej aT r2 (Ne.symm hj) c (dE c hc) r3
         have h1:=h0.hold cd.2 ix hF;refine ⟨_,h1.slot (t:=tx) (v:=.at_ (1600000+tx) []) ?_⟩;have e9:[a.tmps.getD tx (B.gd tx)]=[s5 (.d0 true t) (e8 w.heap b off (Ty.d0 true t).size)]:=by
          rw [r5,k2,l7 (H7 dR)]
         rw [e9];exact AH ix.length
        ·cases hd
       ·cases hd
      ·cases hd
     ·cases hd
    ·cases hd
   ·cases hd
  ·cases hd
theorem RS.WS (h:RS B S ι s a w) {i:Nat} {u t:Ty} {y:u.den} {z:t.den} (he:look i s.hp=some (.own u y)) (sP:∀ {O:List Nat} {cs:List Value},i6 w.heap S u O cs y->i6 w.heap S t O cs z) (dv:u.agg=t.agg) (aW:u.size=t.size) :
  RS B S ι { fr:=mapA (AV.map λ v=>match v.i8 i with|false=>v|true=>match v with|.at_ j []=>.at_ j []|_=>.any) s.fr,hp:=Ex.put i (.own t z) s.hp } a w:=by
 obtain ⟨⟨O,hO,hR⟩,aK⟩:=h.hs.ob i _ he;have lQ:∀ j ej,look j (Ex.put i (.own t z) s.hp)=some ej->∃ e0,look j s.hp=some e0/\l8 ι j ej=l8 ι j e0:=by
  intro j ej hj;rw [p9] at hj;by_cases e1:j=i
  ·subst e1; rw [if_pos rfl] at hj; cases hj; exact ⟨_,he,rfl⟩
  ·rw [if_neg e1] at hj; exact ⟨_,hj,rfl⟩
 refine ⟨⟨h.hs.os,h.hs.tape,h.hs.out,h.hs.size,h.hs.frame,h.hs.slt,h.hs.s0,h.hs.s1,?_,?_,?_,?_⟩,h.dfr,h.sz,?_⟩
 ·intro j ej hj
  rw [p9] at hj;by_cases e1:j=i
  ·subst e1; rw [if_pos rfl] at hj; cases hj
   exact ⟨⟨O,hO,sP hR⟩,aK⟩
  ·rw [if_neg e1] at hj; exact h.hs.ob j ej hj
 ·intro j ej hj b hb
  obtain ⟨e0,h1,h2⟩:=lQ j ej hj;rw [h2] at hb;exact h.hs.bl j e0 h1 b hb
 ·intro j k ej ek hj hk fL c hc
  obtain ⟨e0,h1,h2⟩:=lQ j ej hj;obtain ⟨e3,h4,h5⟩:=lQ k ek hk;rw [h2] at hc;rw [h5];exact h.hs.dj j k e0 e3 h1 h4 fL c hc
 ·intro q hq
  obtain ⟨k0,⟨e',k1⟩,k2,k3⟩:=h.hs.pin q hq;refine ⟨k0,?_,k2,k3⟩;rw [p9];by_cases e1:q.1=i
  ·exact ⟨_,by rw [if_pos e1]⟩
  ·exact ⟨e',by rw [if_neg e1]; exact k1⟩
 ·intro t9 v hv
  simp only [R7,aCq] at hv;obtain ⟨v0,fk,rfl⟩:=hv;refine VX.map (λ _ _=>rfl) (λ _ h=>h) (λ v vs hr hm dB=>?_) (h.fr t9 v0 fk);cases cf:v.i8 i with
  | false =>
   have br:∀ j,v.i8 j=true->j≠i:=by rintro j hj rfl; rw [cf] at hj; cases hj
   exact VX.other (λ j hj=>by rw [p9,if_neg (br j hj)]) (λ j hj=>⟨rfl,rfl,rfl⟩) dB
  | true =>
   have cF:=VX.one hr dB;simp only
   split
   ·rename_i j
    have dO:i=j:=aAe cf;subst dO;obtain ⟨e,u',y',cs,k1,k2,k3,⟨b,off,k4,k5⟩,k6⟩:=dB;rw [he] at k1; cases k1;simp only [j9,aAc,Sigma.mk.injEq] at k3;obtain ⟨rfl,_⟩:=k3;refine ⟨.own t z,t,z,cs,by rw [p9,if_pos rfl],Q7,by simp only [j9]; rfl,⟨b,off,?_,?_⟩,?_⟩
    ·simp only [Place,VR,VH,C8] at k4 ⊢
     exact k4
    ·rw [<- aW]; exact k5
    ·rw [k6]; exact congrArg (λ v=>[v]) (CC dv cs)
   ·exact cF
theorem c1o (h:RS B S ι s a w) (o:Oper):RS B S ι (DQ E o s) a w:=by
 unfold DQ
 split
 ·split
  ·split
   ·rename_i i _
    split
    ·rename_i t z aT
     split
     ·rename_i hc
      simp only [aAa] at hc
      split
      ·exact h
      ·rename_i cj
       exact h.WS (t:=.d0 true t) (z:=z.2.1) aT (λ hr=>c1n cj (aCy hc.1) (aCy hc.2) hr) rfl rfl
     ·exact h
    ·exact h
   ·exact h
  ·exact h
 ·exact h
theorem c1g (hM:E.ps.any PK.l6=false->∀ b,¬ B.M b) (h0:RS B S ι s a w) (o:Oper):∃ S' ι',RS B S' ι' (DS E o s) a w:=by
 have h:=c1o (E:=E) h0 o;unfold DS NB;generalize DQ E o s=s at h;obtain ⟨S',ι',h1⟩:=c1P hM h o;obtain ⟨ι2,h2⟩:=b8R (E:=E) h1 o;exact ⟨S',ι2,h2⟩
theorem b8N (hM:E.ps.any PK.l6=false->∀ b,¬ B.M b) (h:RS B S ι s a w) (ops:Array Oper):∃ S' ι',RS B S' ι' (HP E ops s) a w:=by
 unfold HP
 split
 ·rename_i hp _
  split
  ·rename_i mV
   exact h.xn mV _
  ·exact ⟨S,ι,h⟩
 ·exact ⟨S,ι,h⟩
theorem TG (hM:E.ps.any PK.l6=false->∀ b,¬ B.M b) (h:RS B S ι s a w) (ops:Array Oper):∃ S' ι',RS B S' ι' (DT E ops s) a w:=by
 unfold DT
 split
 ·exact Z6 hM h
 ·exact ⟨S,ι,h⟩
theorem c1e (hM:E.ps.any PK.l6=false->∀ b,¬ B.M b) (h:RS B S ι s a w) (ops:Array Oper):∃ S' ι',RS B S' ι' (As E ops s) a w:=by
 obtain ⟨S',ι',h'⟩:=TG (E:=E) hM h ops;exact b8N hM h' ops
theorem X8 (hE:E2 E B) (hn:B.n=E.nt) (hM:E.ps.any PK.l6=false->∀ b,¬ B.M b) {ops:Array Oper} {k:St->Tree (E.rs++F9 E.ps)} {L:Code->List Item->St->Prop} {Rt:DL (E.rs++F9 E.ps)->Prop} {Q:Exit->Act->World->Prop} (hk:∀ S' ι' s' a' w',RS B S' ι' s' a' w'->(k s').holds L Rt->Q .normal a' w') :
  ∀ {l:List Oper} {m:Nat} {S:Nat->Prop} {ι:Ix} {s:St} {a:Act} {w:World},RS B S ι s a w->(xa E ops m l s k).holds L Rt->wpList E.P ops Q (l.drop m) a w
 | [],m,S,ι,s,a,w,h,ht=>by
  rw [List.drop_nil];cases m<;>exact hk S ι s a w h ht
 | o::l,m+1,S,ι,s,a,w,h,ht=>X8 hE hn hM hk (l:=l) (m:=m) h ht
 | o::l,0,S0,ι0,s0,a,w,h0,ht=>by
  show wpList E.P ops Q (o::l) a w;unfold xa at ht;obtain ⟨S,ι,h⟩:=c1g hM h0 o;dsimp only at ht;generalize DS E o s0=s at h ht;split at ht
  ·rename_i p s' n hf
   unfold Ns at hf;split at hf
   ·rename_i d c hg hd gP ho
    split at hf
    ·rename_i x y T U hc ha hT
     split at hf
     ·split at hf
      ·cases hf
      ·rw [<- hn,hd] at gP
       obtain ⟨v',w',g1,g2⟩:=UG hE hn ho hc ha hT gP (ops:=ops) (Q:=Q) h hf ht.1;unfold wpList;simp only [Region.wanted,hg,if_true];refine .inl ?_;unfold Oper.wp;rw [g1];show wpList E.P ops Q l (a.put o.dst v') w';rw [hd];exact g2 (λ S' ι' a' w'' h'=>X8 hE hn hM hk (l:=l) (m:=n) h' (ht.2 ht.1))
     ·cases hf
    ·cases hf
   ·cases hf
  ·split at ht
   ·rename_i p s' n hf
    unfold Nt at hf;split at hf
    ·rename_i d c hg hd gP ho
     split at hf
     ·rename_i g x ys hc ha
      split at hf
      ·split at hf
       ·cases hf
       ·rw [<- hn,hd] at gP
        unfold wpList;simp only [Region.wanted,hg,if_true];refine .inl ((Ve hE hn ho hc ha gP (ops:=ops) (Q:=Q) h hf ht.1 (λ S' ι' a' w'' h'=>X8 hE hn hM hk (l:=l) (m:=n) h' (ht.2 ht.1))).wp (λ v' w' hw=>?_));rw [hd]; exact hw
      ·cases hf
     ·cases hf
    ·cases hf
   ·split at ht
    ·rename_i p s' hf
     obtain ⟨hg,aP⟩:=b9t hE hn h hf ht.1;unfold wpList;simp only [Region.wanted,hg,if_true];refine .inl (aP.wp (λ v' w' hw=>?_));obtain ⟨ι',h'⟩:=hw;exact X8 hE hn hM hk (l:=l) (m:=0) h' (ht.2 ht.1)
    ·split at ht
     ·rename_i p s' hf
      obtain ⟨hg,aP⟩:=b8U hE hn hM h hf ht.1;unfold wpList;simp only [Region.wanted,hg,if_true];exact .inl (aP _ Q (λ S' ι' a' w' h'=>X8 hE hn hM hk (l:=l) (m:=0) h' (ht.2 ht.1)))
     ·split at ht
      ·rename_i p v1 v2 hg hd hb
       rw [<- hn] at hd;obtain ⟨val,aP,hv⟩:=c4O hE h hb;unfold wpList;simp only [Region.wanted,hg,if_true];refine .inl ?_;unfold Oper.wp;rw [aP];rcases hv with ⟨hp,hv⟩|hv
       ·exact X8 hE hn hM hk (l:=l) (m:=0) (h.put hd hv) (ht.1 hp)
       ·exact X8 hE hn hM hk (l:=l) (m:=0) (h.put hd hv) ht.2
      ·have:=Mw hE hn h (ops:=ops) o (k:=λ s'=>xa E ops 0 l s' k) ht (next:=wpList E.P ops Q l) (Q:=Q) (λ S' ι' s' a' w' h1 h2=>X8 hE hn hM hk (l:=l) (m:=0) h1 h2)
       unfold wpList
       split
       ·rename_i hw; rw [if_pos hw] at this; exact .inl this
       ·rename_i hw; rw [if_neg hw] at this; exact this
end
end Go.Ex
namespace Go.Ex
section
variable {E:Env} {ops:Array Oper}
theorem Bc {α:Type _} {Y:α->Prop} {a:α}:Y a↔∃ (p:Prop) (s:α),some (True,a)=some (p,s)/\p/\Y s:=by
 constructor
 ·intro h; exact ⟨_,_,rfl,trivial,h⟩
 ·rintro ⟨p,s,h,_,h2⟩; cases h; exact h2
theorem IL {o:Oper} {s:St} {k:St->Tree (E.rs++F9 E.ps)} {L:Code->List Item->St->Prop} {R:DL (E.rs++F9 E.ps)->Prop}:(zI E o s k).holds L R↔∃ p s',Z1 E o s=some (p,s')/\p/\(k s').holds L R:=by
 unfold zI Z1;cases hd:I5 E.nt o.dst with
 | false=>simp [Tree.holds]
 | true =>
  simp only;have other:∀ r:OR,(match r with|.fail why=>Tree.stuck why|.ok v s'=>k (s'.put o.dst v)|.H3 p v s'=>Tree.f8 p (k (s'.put o.dst v))).holds L R ↔
    ∃ p s',(match r.get with|none=>none|some (p,v,s')=>some (p,s'.put o.dst v))=some (p,s')/\p/\(k s').holds L R:=by
   intro r;cases r with
   | fail why=>simp [Tree.holds,OR.get]
   | ok v s'=>exact Bc (Y:=λ s'=>(k s').holds L R)
   | H3 p v s' =>
    simp only [Tree.holds,OR.get,aAc,aBb];constructor
    ·rintro ⟨h1,h2⟩; exact ⟨_,_,⟨rfl,rfl⟩,h1,h2 h1⟩
    ·rintro ⟨_,_,⟨rfl,rfl⟩,h1,h2⟩; exact ⟨h1,λ _=>h2⟩
  cases ho:o.op with
  | pick c a b =>
   simp only;cases hc:s.ev c with
   | val t x =>
    cases t with
    | bool =>
     cases x with
     | true=>exact Bc (Y:=λ s'=>(k s').holds L R)
     | false=>exact Bc (Y:=λ s'=>(k s').holds L R)
    | _=>simp [Tree.holds]
   | _=>simp [Tree.holds]
  | _=>exact other _
theorem CF {o:Oper} {s:St} {k:St->Tree (E.rs++F9 E.ps)} {L:Code->List Item->St->Prop} {R:DL (E.rs++F9 E.ps)->Prop}:(yR E ops o s k).holds L R↔∃ p s',I8 E ops o s=some (p,s')/\p/\(k s').holds L R:=by
 unfold yR I8;cases hg:o.guard with
 | none=>exact IL
 | some jw =>
  obtain ⟨j,want⟩:=jw;simp only;cases hs:Ba ops j with
  | none=>simp [Tree.holds]
  | some g =>
   simp only;cases hv:s.ev (.tmp g) with
   | raw v =>
    cases v with
    | tuple vs =>
     simp only;cases hd:I5 E.nt o.dst with
     | false=>simp [Tree.holds]
     | true=>exact Bc (Y:=λ s'=>(k s').holds L R)
    | _=>simp [Tree.holds]
   | val t x =>
    cases t with
    | bool =>
     simp only;cases hd:I5 E.nt o.dst with
     | false=>simp [Tree.holds]
     | true =>
      simp only;cases x with
      | true =>
       cases want with
       | true=>exact IL
       | false=>exact Bc (Y:=λ s'=>(k s').holds L R)
      | false =>
       cases want with
       | true=>exact Bc (Y:=λ s'=>(k s').holds L R)
       | false=>exact IL
    | _=>simp [Tree.holds]
   | _=>simp [Tree.holds]
def xK (ops:Array Oper) (x:Oper) (sx:St) (Tx:List Nat) (y:Oper) (Ty:List Nat):Prop :=
 (∀ m∈looks ops y,∀ i∈Tx,(M1 y (sx.get m)).i8 i=false)/\(∀ m∈looks ops x,∀ i∈Ty,(M1 x (sx.get m)).i8 i=false)/\(∀ i∈Tx,i % 1000≠(y.dst.getD 0) % 1000)
theorem JL {e:Met} {y:Oper} {Ty:List Nat} (h:BP ops e y Ty=true):xK ops e.o e.s e.T y Ty:=by
 simp only [BP,aAa] at h;obtain ⟨h1,h2⟩:=h;refine ⟨?_,?_,?_⟩
 ·intro m hm i hi
  split at h1
  ·rename_i he; rw [he] at hi; cases hi
  ·simp only [aAa,aBk,aAu] at h1
   exact h1.1 m hm i hi
 ·intro m hm i hi
  split at h2
  ·cases hi
  ·simp only [aBk,aAu] at h2
   exact h2 m hm i hi
 ·intro i hi jP
  split at h1
  ·rename_i he; rw [he] at hi; cases hi
  ·simp only [aAa,aBk,aAu] at h1
   have:=h1.2 i hi;rw [jP] at this;simp at this
def vW (E:Env) (ops:Array Oper) (M:Nat->Nat):List (Nat×St)->List Nat->St->St->Prop
 | _,[],s,s'=>s=s'
 | acc,i::l,s,s'=>∃ o,ops[i]?=some o/\(∀ e∈acc,(M i).testBit e.1=true\/∃ x,ops[e.1]?=some x/\xK ops x e.2 (l6 E x e.2) o (l6 E o s)) /\
   ∃ p s1,I8 E ops o s=some (p,s1)/\p/\vW E ops M ((i,s)::acc) l s1 s'
def BF (E:Env) (ops:Array Oper) (q:wz):Prop:=∃ oa c,ops[q.k]?=some oa/\oa.guard=none/\oa.dst=some q.d/\I5 E.nt (some q.d)=true/\oa.op=.call c/\c.callee=.builtin .append/\c.args.toList=[q.x,q.y]/\c.argTypes.toList=[q.T,q.U]
theorem Yr {o:Oper} {s:St} {i:Nat} {q:wz} (h:HH E o s i=some q) (ho:ops[i]?=some o):BF E ops q/\q.k=i:=by
 unfold HH at h;split at h
 ·rename_i d c hg hd gP cB
  split at h
  ·rename_i x y T U hc ha hT
   split at h
   ·split at h
    ·cases h
    ·cases h
     exact ⟨⟨o,c,ho,hg,hd,by rw [<- hd]; exact gP,cB,hc,ha,hT⟩,rfl⟩
   ·cases h
  ·cases h
 ·cases h
def IH (E:Env) (ops:Array Oper) (M:List Nat) (q:wz) (s1:St) (k:St->Tree (E.rs++F9 E.ps)) (L:Code->List Item->St->Prop) (R:DL (E.rs++F9 E.ps)->Prop):Prop :=
 ∃ o p s2,ops[ops.size - 1]?=some o/\Ai E ops M q (ops.size - 1) o s1=some (p,s2)/\p/\(k s2).holds L R
theorem Dj {o:Oper} {l:List Oper} {n:Nat} (hl:ops.toList.drop n=o::l):ops[n]?=some o/\ops.toList.drop (n+1)=l/\ops.size=n+1+l.length:=by
 have h1:(ops.toList.drop n)[0]?=some o:=by rw [hl]; rfl
 have h2:(ops.toList.drop n).length=(o::l).length:=by rw [hl]
 simp only [aAo,aAh,aEx] at h2;refine ⟨by simpa using h1,?_,by omega⟩;rw [<- aBm,hl]; rfl
theorem RV {M:List Nat} {q:wz} {k:St->Tree (E.rs++F9 E.ps)} {L:Code->List Item->St->Prop} {R:DL (E.rs++F9 E.ps)->Prop}:∀ {l:List Oper} {n:Nat} {s:St} {acc:List Met} {bJ:List (Nat×St)},ops.toList.drop n=l ->
  (∀ e∈bJ,∃ m∈acc,m.i=e.1/\ops[e.1]?=some m.o/\m.s=e.2/\m.T=l6 E m.o e.2)->(Bt E ops M q n l s acc k).holds L R->∃ s',vW E ops (λ i=>M.getD i 0) bJ (List.range' n (l.length - 1)) s s'/\IH E ops M q s' k L R
 | [],n,s,acc,bJ,_,_,h=>h.elim
 | [o],n,s,acc,bJ,hl,ha,h=>by
  obtain ⟨h1,h2,h3⟩:=Dj hl;simp only [Bt] at h;split at h
  ·rename_i p s2 hf
   have e:ops.size - 1=n:=by simp at h3; omega
   exact ⟨s,rfl,o,p,s2,by rw [e]; exact h1,by rw [e]; exact hf,h.1,h.2 h.1⟩
  ·exact h.elim
 | o::o2::l,n,s,acc,bJ,hl,ha,h=>by
  obtain ⟨ho,eE,_⟩:=Dj hl;simp only [Bt] at h;split at h
  ·exact h.elim
  ·rename_i bH
   obtain ⟨p,s1,h1,h2,h3⟩:=CF.1 h;obtain ⟨s',k1,k2⟩:=RV (bJ:=(n,s)::bJ) eE (λ e he=>by
    rcases aAq.1 he with rfl|he
    ·exact ⟨_,aBd ..,rfl,ho,rfl,rfl⟩
    ·obtain ⟨m,hm,r⟩:=ha e he; exact ⟨m,aAz _ hm,r⟩) h3
   refine ⟨s',⟨o,ho,λ e he=>?_,p,s1,h1,h2,k1⟩,k2⟩;obtain ⟨m,hm,m1,m2,m3,m4⟩:=ha e he;have:=(aBk.1 bH) m hm;simp only [aBr] at this;rcases this with this|this
   ·exact .inl (by rw [<- m1]; exact this)
   ·have hp:=JL this
    rw [m3,m4] at hp;exact .inr ⟨m.o,m2,hp⟩
theorem RW {M:List Nat} {k:St->Tree (E.rs++F9 E.ps)} {L:Code->List Item->St->Prop} {R:DL (E.rs++F9 E.ps)->Prop}:∀ {l:List Oper} {n:Nat} {s:St} {acc:List Met} {bJ:List (Nat×St)},ops.toList.drop n=l ->
  (∀ e∈bJ,∃ m∈acc,m.i=e.1/\ops[e.1]?=some m.o/\m.s=e.2/\m.T=l6 E m.o e.2)->(DU E ops M n l s acc k).holds L R ->
  (∃ s',vW E ops (λ i=>M.getD i 0) bJ (List.range' n l.length) s s'/\(k s').holds L R) \/
  ∃ q s',n<=q.k/\BF E ops q/\vW E ops (λ i=>M.getD i 0) bJ ((List.range' n (l.length - 1)).filter (λ j=>!(j == q.k))) s s'/\IH E ops M q s' k L R
 | [],n,s,acc,bJ,_,_,h=>.inl ⟨s,rfl,h⟩
 | o::l,n,s,acc,bJ,hl,ha,h=>by
  obtain ⟨ho,eE,_⟩:=Dj hl;simp only [DU] at h;split at h
  ·rename_i q hq
   obtain ⟨a1,a2⟩:=Yr hq ho;obtain ⟨s',k1,k2⟩:=RV eE ha h;refine .inr ⟨q,s',by omega,a1,?_,k2⟩;cases l with
   | nil =>
    simp only [aCi,Nat.zero_sub,List.range'_zero] at k1;simpa using k1
   | cons o2 l =>
    simp only [aAh,aGa] at k1 ⊢;rw [aGk,aDg];simp only [a2,beq_self_eq_true,aGc,aFd,if_false];rw [aDe.2 (λ j hj=>by have:=(List.mem_range'_1.1 hj).1; simp; omega)];exact k1
  ·split at h
   ·exact h.elim
   ·rename_i bH
    obtain ⟨p,s1,h1,h2,h3⟩:=CF.1 h;have nX:∀ e∈bJ,(M.getD n 0).testBit e.1=true\/∃ x,ops[e.1]?=some x/\xK ops x e.2 (l6 E x e.2) o (l6 E o s):=by
     intro e he;obtain ⟨m,hm,m1,m2,m3,m4⟩:=ha e he;have:=(aBk.1 bH) m hm;simp only [aBr] at this;rcases this with this|this
     ·exact .inl (by rw [<- m1]; exact this)
     ·have hp:=JL this
      rw [m3,m4] at hp;exact .inr ⟨m.o,m2,hp⟩
    rcases RW (bJ:=(n,s)::bJ) eE (λ e he=>by
     rcases aAq.1 he with rfl|he
     ·exact ⟨_,aBd ..,rfl,ho,rfl,rfl⟩
     ·obtain ⟨m,hm,r⟩:=ha e he; exact ⟨m,aAz _ hm,r⟩) h3 with ⟨s',k1,k2⟩|⟨q,s',k0,k1,k2,k3⟩
    ·exact .inl ⟨s',⟨o,ho,nX,p,s1,h1,h2,k1⟩,k2⟩
    ·refine .inr ⟨q,s',by omega,k1,?_,k3⟩
     cases l with
     | nil =>
      exfalso;obtain ⟨oa,c,a1,_⟩:=k1;have:=(aAp.1 a1).1;have h9:=(Dj hl).2.2;simp at h9; omega
     | cons o2 l =>
      simp only [aAh,aGa] at k2 ⊢;rw [aGk,aDg];have br:(!(n == q.k))=true:=by simp; omega
      rw [if_pos br];exact ⟨o,ho,nX,p,s1,h1,h2,k2⟩
end
end Go.Ex
namespace Go.Ex
def uniq {α:Type _}:List (Nat×α)->Prop
 | []=>True
 | (n,_)::l=>(∀ q∈l,n<q.1)/\uniq l
theorem Gc {α:Type _} {n:Nat}:∀ {l:List (Nat×α)},(∀ q∈l,n<q.1)->look n l=none
 | [],_=>rfl
 | (m,x)::l,h=>by
  have:=h (m,x) (by simp);simp only [look,yZ (Nat.ne_of_lt this)];exact Gc (λ q hq=>h q (by simp [hq]))
theorem Ps {α:Type _} {n:Nat} {x:α} {q:Nat×α}:∀ {l:List (Nat×α)},q∈put n x l->q.1=n\/q∈l
 | [],h=>by simp [put] at h; exact .inl (by rw [h])
 | (m,y)::l,h=>by
  simp only [put] at h;split at h
  ·rcases aAq.1 h with rfl|h
   ·exact .inl rfl
   ·exact .inr (by simp [h])
  ·split at h
   ·rcases aAq.1 h with rfl|h
    ·exact .inl rfl
    ·exact .inr h
   ·rcases aAq.1 h with rfl|h
    ·exact .inr (by simp)
    ·exact (Ps h).imp id (λ h=>by simp [h])
theorem Ry {α:Type _} (n:Nat) (x:α):∀ {l:List (Nat×α)},uniq l->uniq (put n x l)
 | [],_=>⟨by simp,trivial⟩
 | (m,y)::l,⟨h1,h2⟩=>by
  simp only [put];cases hb:Nat.beq n m with
  | true=>have:=aAe hb; subst this; exact ⟨h1,h2⟩
  | false =>
   have br:n≠m:=by rintro rfl; simp at hb
   simp only;cases bf:Nat.blt n m with
   | true =>
    have bf:n<m:=by simpa [aDf] using bf
    exact ⟨λ q hq=>by
     rcases aAq.1 hq with rfl|hq
     ·exact bf
     ·exact Nat.lt_trans bf (h1 q hq),h1,h2⟩
   | false =>
    have bf:¬ n<m:=by
     intro hl;have h3:Nat.blt n m=true:=by simpa [aDf] using hl
     rw [h3] at bf; cases bf
    refine ⟨λ q hq=>?_,Ry n x h2⟩;rcases Ps hq with e|hq
    ·omega
    ·exact h1 q hq
theorem w6 {α:Type _}:∀ {l:List (Nat×α)},BI l=true->uniq l
 | [],_=>trivial
 | (n,x)::l,h=>by
  simp only [BI,aAa] at h;have ih:=w6 h.2;refine ⟨?_,ih⟩;cases l with
  | nil=>simp
  | cons q l =>
   obtain ⟨m,y⟩:=q;have bf:n<m:=by simpa [aDf] using h.1
   intro q hq;rcases aAq.1 hq with rfl|hq
   ·exact bf
   ·exact Nat.lt_trans bf (ih.1 q hq)
theorem FN {d:Nat}:∀ {l:List (Nat×AV)},uniq l->(∀ n v,look n l=some v->v.i8 d=false)->wP d l=true
 | [],_,_=>rfl
 | (m,v)::l,⟨h0,h2⟩,h=>by
  have h1:=Gc h0;simp only [wP,aAa,aAu];refine ⟨h m v (by simp [look]),FN h2 (λ n w hw=>h n w ?_)⟩;simp only [look];cases hb:Nat.beq n m with
  | true=>have:=aAe hb; subst this; rw [h1] at hw; cases hw
  | false=>exact hw
theorem K2:∀ {v:AV} {i:Nat},i∈v.I9↔v.i8 i=true:=by
 intro v
 induction v with
 | cons a b iha ihb=>intro i; simp only [AV.I9,aAi,AV.i8,aBr,iha,ihb]
 | M9 l ih=>intro i; exact ih
 | D9 f l ih=>intro i; exact ih
 | bx l ih=>intro i; exact ih
 | rc f l ih=>intro i; exact ih
 | ptr j p=>intro i; simp [AV.I9,AV.i8]
 | at_ j p=>intro i; simp [AV.I9,AV.i8]
 | sub j p a b=>intro i; simp [AV.I9,AV.i8]
 | _=>intro i; simp [AV.I9,AV.i8]
def AV.plain:AV->Bool
 | .any|.raw _|.val _ _|.N1 _ _|.nil=>true
 | _=>false
structure Trim (T:List Nat) (f:AV->AV):Prop where
 cons:∀ a b,f (.cons a b)=.cons (f a) (f b)
 M9:∀ l,f (.M9 l)=.M9 (f l)
 D9:∀ g l,f (.D9 g l)=.D9 g (f l)
 bx:∀ l,f (.bx l)=.bx (f l)
 rc:∀ g l,f (.rc g l)=.rc g (f l)
 atom:∀ u,u.ref=true->f u=u\/f u=.any
 yd:∀ u,u.ref=true->(∀ i∈T,u.i8 i=false)->f u=u
 plain:∀ u,u.plain=true->f u=u
theorem AV.shape (P:AV->Prop) (hp:∀ u,u.plain=true->P u) (ha:∀ u,u.ref=true->P u) (hc:∀ a b,P a->P b->P (.cons a b)) (ht:∀ l,P l->P (.M9 l)) (hf:∀ g l,P l->P (.D9 g l)) (hb:∀ l,P l->P (.bx l)) (hr:∀ g l,P l->P (.rc g l)):∀ u,P u:=by
 intro u
 induction u with
 | cons a b iha ihb=>exact hc a b iha ihb
 | M9 l ih=>exact ht l ih
 | D9 f l ih=>exact hf f l ih
 | bx l ih=>exact hb l ih
 | rc f l ih=>exact hr f l ih
 | ptr j p=>exact ha _ rfl
 | at_ j p=>exact ha _ rfl
 | sub j p a b=>exact ha _ rfl
 | _=>exact hp _ rfl
section
variable {T T':List Nat} {f g:AV->AV}
theorem Trim.id (T:List Nat):Trim T (λ u=>u):=⟨λ _ _=>rfl,λ _=>rfl,λ _ _=>rfl,λ _=>rfl,λ _ _=>rfl,λ _ _=>.inl rfl,λ _ _ _=>rfl,λ _ _=>rfl⟩
theorem Trim.map {g:AV->AV} (h1:∀ u,u.ref=true->g u=u\/g u=.any) (h2:∀ u,u.ref=true->(∀ i∈T,u.i8 i=false)->g u=u):Trim T (AV.map g):=by
 have e:∀ u:AV,u.ref=true->u.map g=g u:=by intro u hu; cases u<;>simp only [AV.ref] at hu<;>first|rfl|cases hu
 exact ⟨λ _ _=>rfl,λ _=>rfl,λ _ _=>rfl,λ _=>rfl,λ _ _=>rfl,λ u hu=>by rw [e u hu]; exact h1 u hu,λ u hu hm=>by rw [e u hu]; exact h2 u hu hm,λ u hu=>by cases u<;>simp only [AV.plain] at hu<;>first|rfl|cases hu⟩
theorem Trim.comp (hf:Trim T f) (hg:Trim T' g) {U:List Nat} (h1:∀ i∈T,i∈U) (h2:∀ i∈T',i∈U):Trim U (λ u=>g (f u)):=by
 refine ⟨λ a b=>by rw [hf.cons,hg.cons],λ l=>by rw [hf.M9,hg.M9],λ k l=>by rw [hf.D9,hg.D9],λ l=>by rw [hf.bx,hg.bx],λ k l=>by rw [hf.rc,hg.rc],?_,?_,λ u hu=>by rw [hf.plain u hu,hg.plain u hu]⟩
 ·intro u hu
  rcases hf.atom u hu with h|h
  ·rw [h]; exact hg.atom u hu
  ·rw [h]; exact .inr (hg.plain _ rfl)
 ·intro u hu hm
  rw [hf.yd u hu (λ i hi=>hm i (h1 i hi)),hg.yd u hu (λ i hi=>hm i (h2 i hi))]
theorem Trim.mono (hf:Trim T f) (h:∀ i∈T,i∈T'):Trim T' f:=⟨hf.cons,hf.M9,hf.D9,hf.bx,hf.rc,hf.atom,λ u hu hm=>hf.yd u hu (λ i hi=>hm i (h i hi)),hf.plain⟩
theorem Trim.fix (hf:Trim T f):∀ u,(∀ i∈T,u.i8 i=false)->f u=u:=by
 refine AV.shape _ (λ u hu _=>hf.plain u hu) (λ u hu hm=>hf.yd u hu hm) ?_ ?_ ?_ ?_ ?_
 ·intro a b ha hb hm
  simp only [AV.i8,aBx] at hm;rw [hf.cons,ha (λ i hi=>(hm i hi).1),hb (λ i hi=>(hm i hi).2)]
 ·intro l hl hm; rw [hf.M9,hl hm]
 ·intro k l hl hm; rw [hf.D9,hl hm]
 ·intro l hl hm; rw [hf.bx,hl hm]
 ·intro k l hl hm; rw [hf.rc,hl hm]
theorem Trim.i8 (hf:Trim T f) {i:Nat}:∀ u,(f u).i8 i=true->u.i8 i=true:=by
 refine AV.shape _ (λ u hu h=>by rw [hf.plain u hu] at h; exact h) (λ u hu h=>?_) ?_ ?_ ?_ ?_ ?_
 ·rcases hf.atom u hu with e|e
  ·rw [e] at h; exact h
  ·rw [e] at h; cases h
 ·intro a b ha hb h
  rw [hf.cons] at h;simp only [AV.i8,aBr] at h ⊢;exact h.imp ha hb
 ·intro l hl h; rw [hf.M9] at h; exact hl h
 ·intro k l hl h; rw [hf.D9] at h; exact hl h
 ·intro l hl h; rw [hf.bx] at h; exact hl h
 ·intro k l hl h; rw [hf.rc] at h; exact hl h
theorem Trim.comm (hf:Trim T f) (hg:Trim T' g):∀ u,f (g u)=g (f u):=by
 refine AV.shape _ (λ u hu=>by rw [hf.plain u hu,hg.plain u hu,hf.plain u hu]) (λ u hu=>?_) ?_ ?_ ?_ ?_ ?_
 ·have ha:f .any=.any:=hf.plain _ rfl
  have hb:g .any=.any:=hg.plain _ rfl;rcases hf.atom u hu with e|e<;>rcases hg.atom u hu with e'|e'<;>simp only [e,e',ha,hb]
 ·intro a b ha hb; rw [hg.cons,hf.cons,hf.cons,hg.cons,ha,hb]
 ·intro l hl; rw [hg.M9,hf.M9,hf.M9,hg.M9,hl]
 ·intro k l hl; rw [hg.D9,hf.D9,hf.D9,hg.D9,hl]
 ·intro l hl; rw [hg.bx,hf.bx,hf.bx,hg.bx,hl]
 ·intro k l hl; rw [hg.rc,hf.rc,hf.rc,hg.rc,hl]
theorem Trim.drop (i:Nat):Trim [i] (AV.drop i):=by
 refine Trim.map (λ u _=>?_) (λ u _ hm=>?_)
 ·cases hm:u.i8 i with
  | true=>exact .inr (by simp only)
  | false=>exact .inl (by simp only)
 ·simp only [hm i (by simp)]
theorem Trim.kill (i:Nat) (ow:Bool×Ty) (q:List Step):Trim [i] (AV.kill i ow q):=by
 refine Trim.map (λ u hu=>?_) (λ u _ hm=>?_)
 ·unfold AV.BO
  split
  ·exact .inl rfl
  ·split
   ·split<;>first|exact .inl rfl|exact .inr rfl
   ·split
    ·exact .inl rfl
    ·split<;>first|exact .inl rfl|exact .inr rfl
   ·split<;>first|exact .inl rfl|exact .inr rfl
   ·split<;>first|exact .inl rfl|exact .inr rfl
   ·exact .inr rfl
 ·unfold AV.BO; rw [hm i (by simp)]
theorem Trim.vR (i:Nat) (ow:Bool):Trim [i] (AV.map (AV.ym i ow)):=by
 refine Trim.map (λ u hu=>?_) (λ u _ hm=>?_)
 ·unfold AV.ym
  split
  ·exact .inl rfl
  ·split
   ·split<;>first|exact .inl rfl|exact .inr rfl
   ·split<;>first|exact .inl rfl|exact .inr rfl
   ·split<;>first|exact .inl rfl|exact .inr rfl
   ·exact .inr rfl
 ·unfold AV.ym; rw [hm i (by simp)]
def yk:List Nat->AV->AV
 | [],u=>u
 | i::g,u=>yk g (u.drop i)
theorem Trim.B9:∀ g:List Nat,Trim g (yk g)
 | []=>Trim.id []
 | i::g=>Trim.comp (Trim.drop i) (Trim.B9 g) (by simp) (λ j hj=>aAz _ hj)
end
structure Nk (s s1:St) (T ids:List Nat) (f:AV->AV) (h:Nat->Option g9):Prop where
 fr:∀ n,look n s1.fr=(look n s.fr).map f
 hp:∀ i,look i s1.hp=if i∈T\/i∈ids then h i else look i s.hp
def V1 (s:St) (ids:List Nat):Prop:=∀ n∈ids,look n s.hp=none/\∀ m v,look m s.fr=some v->v.i8 n=false
theorem Dt:∀ {g:List Nat} {s:St} {n:Nat},look n (St.B9 g s).fr=(look n s.fr).map (yk g)
 | [],s,n=>by simp [St.B9,yk]
 | i::g,s,n=>by
  simp only [St.B9];rw [Dt (g:=g) (s:=s.drop i)];simp only [St.drop,R7,aEo];rfl
theorem QM {f:AV->AV} {q:Nat×AV}:∀ {l:List (Nat×AV)},q∈mapA f l->∃ r∈l,r.1=q.1
 | (n,x)::l,h=>by
  rcases aAq.1 h with rfl|h
  ·exact ⟨_,aBd ..,rfl⟩
  ·obtain ⟨r,hr,e⟩:=QM h; exact ⟨r,by simp [hr],e⟩
theorem Da {f:AV->AV}:∀ {l:List (Nat×AV)},uniq l->uniq (mapA f l)
 | [],_=>trivial
 | (n,x)::l,⟨h1,h2⟩=>⟨λ q hq=>by obtain ⟨r,hr,e⟩:=QM hq; rw [<- e]; exact h1 r hr,Da h2⟩
theorem Dn:∀ {g:List Nat} {s:St},uniq s.fr->uniq (St.B9 g s).fr
 | [],_,h=>h
 | i::g,s,h=>Dn (g:=g) (s:=s.drop i) (Da h)
def vL (s t:St) (xs:List Operand):Prop:=∀ x∈xs,t.ev x=s.ev x/\∀ i,(s.ev x).i8 i=true->t.obj i=s.obj i
theorem vL.refl (s:St) (xs:List Operand):vL s s xs:=λ _ _=>⟨rfl,λ _ _=>rfl⟩
def OR.xu (t:St):OR->OR
 | .fail w=>.fail w
 | .ok v _=>.ok v t
 | .H3 p v _=>.H3 p v t
def OR.av:OR->AV
 | .ok v _=>v
 | .H3 _ v _=>v
 | .fail _=>.any
section
variable {E:Env} {s t:St}
theorem Qc (k:IntKind) (r:Int):arith k r t=(arith k r s).xu t:=by unfold arith; split<;>rfl
theorem Yb (op:BinOp) (k k':IntKind) (a b:Int):xX op k a k' b t=(xX op k a k' b s).xu t:=by
 unfold xX
 split
 ·rfl
 ·rfl
 ·split
  ·split<;>first|rfl|exact Qc _ _
  ·rfl
theorem Yd (W:Bool) (op:BinOp) (k k':IntKind) (a b:Int):xY W op k a k' b t=(xY W op k a k' b s).xu t:=by
 unfold xY
 split
 ·split<;>rfl
 ·exact Yb ..
theorem Yc (op:BinOp) (a b:yY):zA op a b t=(zA op a b s).xu t:=by unfold zA; split<;>rfl
theorem XZ (T:TypeId) (op:BinOp) (x y:AV):yI E T op x y t=(yI E T op x y s).xu t:=by
 unfold yI
 split
 ·exact Yd ..
 ·split<;>rfl
 ·exact Yc ..
 ·rfl
theorem NY (T:TypeId) (op:BinOp) (a:Ty) (x:a.den) (u:Ty) (y:u.den):eqA E T op a x u y t=(eqA E T op a x u y s).xu t:=by
 unfold eqA
 split
 ·split<;>rfl
 ·rfl
theorem Ya (T:TypeId) (op:BinOp) (x y:AV):xm E T op x y t=(xm E T op x y s).xu t:=by
 unfold xm
 split
 ·unfold Al; split<;>rfl
 ·exact NY ..
 ·exact NY ..
 ·exact XZ ..
theorem WZ (op:UnOp) (x:AV):unA op x t=(unA op x s).xu t:=by
 unfold unA
 repeat' (first|rfl|exact Qc _ _|split)
theorem AM:∀ {xs:List Operand},(∀ x∈xs,t.ev x=s.ev x)->t.M2 xs=s.M2 xs
 | [],_=>rfl
 | x::xs,h=>by simp only [St.M2,h x (by simp),AM (xs:=xs) (λ y hy=>h y (by simp [hy]))]
theorem xQ {i:Nat}:∀ {xs:List Operand},(s.M2 xs).i8 i=true->∃ x∈xs,(s.ev x).i8 i=true
 | [],h=>by cases h
 | x::xs,h=>by
  simp only [St.M2,AV.i8,aBr] at h;rcases h with h|h
  ·exact ⟨x,by simp,h⟩
  ·obtain ⟨y,hy,h⟩:=xQ h; exact ⟨y,by simp [hy],h⟩
theorem KC {i:Nat} {x:Operand}:∀ {xs:List Operand},x∈xs->(s.ev x).i8 i=true->(s.M2 xs).i8 i=true
 | y::xs,hx,h=>by
  simp only [St.M2,AV.i8,aBr];rcases aAq.1 hx with rfl|hx
  ·exact .inl h
  ·exact .inr (KC hx h)
theorem Fh {i:Nat}:∀ {a b:AV},(a.app b).i8 i=true->a.i8 i=true\/b.i8 i=true:=by
 intro a
 induction a with
 | cons x l _ ih =>
  intro b h;simp only [AV.app,AV.i8,aBr] at h ⊢;rcases h with h|h
  ·exact .inl (.inl h)
  ·rcases ih h with h|h
   ·exact .inl (.inr h)
   ·exact .inr h
 | _=>intro b h; exact .inr h
def Alike (s t:St) (v:AV):Prop:=∀ i,v.i8 i=true->t.obj i=s.obj i
theorem L7 {i:Nat} {p:List Step} (h:t.obj i=s.obj i):t.part i p=s.part i p:=by simp only [St.part,h]
theorem Fb {i:Nat} {p:List Step} {a b:Int} (h:t.obj i=s.obj i):t.view i p a b=s.view i p a b:=by simp only [St.view,L7 h]
theorem Jo {u:Ty} {i:Nat} {p:List Step} (h:t.obj i=s.obj i):t.wa u i p=s.wa u i p:=by simp only [St.wa,L7 h]
theorem VC {u:Ty} {v:AV} (h:Alike s t v):v.asV t u=v.asV s u:=by
 cases v<;>first|rfl|exact Jo (h _ (by simp [AV.i8]))|(simp only [AV.asV]; rw [Fb (h _ (by simp [AV.i8]))])
theorem NR {u:Ty} {v:AV} (h:Alike s t v):v.asR t u=v.asR s u:=by
 unfold AV.asR
 split
 ·exact Jo (h _ (by simp [AV.i8]))
 ·rfl
 ·rename_i i p
  have e:∀ u,t.wa u i p=s.wa u i p:=λ u=>Jo (h i (show AV.i8 i (AV.bx (.ptr i p))=true by simp [AV.i8]));simp only [e]
 ·rfl
theorem Oz:∀ {ts:List Ty} {v:AV},Alike s t v->AV.yH t ts v=AV.yH s ts v
 | [],v,_=>by cases v<;>rfl
 | u::ts,v,h=>by
  cases v<;>try rfl
  rename_i a b;simp only [AV.yH,NR (v:=a) (λ i hi=>h i (by simp [AV.i8,hi])),Oz (v:=b) (λ i hi=>h i (by simp [AV.i8,hi]))]
theorem EU {v:AV} (h:Alike s t v):v.vF t=v.vF s:=by
 cases v<;>try rfl
 ·rename_i i p; cases p<;>simp only [AV.vF,h i (by simp [AV.i8])]
 ·rename_i i p a b; cases p<;>simp only [AV.vF,h i (by simp [AV.i8])]
theorem IS {v:AV} (h:Alike s t v):v.els t=v.els s:=by
 unfold AV.els
 split
 ·rfl
 ·rename_i i p; simp only [L7 (h i (by simp [AV.i8]))]
 ·rename_i i p a b; simp only [Fb (h i (by simp [AV.i8]))]
 ·rfl
theorem FJ {v:AV} {r:Sigma Ty.den} {g:List Nat} (h:v.vF s=some (r,g)):∀ i∈g,v.i8 i=true:=by
 unfold AV.vF at h;split at h
 ·cases h; simp
 ·split at h
  ·cases h; simp [AV.i8]
  ·cases h
 ·split at h
  ·cases h; simp [AV.i8]
  ·cases h
 ·cases h
theorem zP {v:AV} (h:Alike s t v):v.wi t=v.wi s:=by
 unfold AV.wi
 split
 ·rename_i i
  rw [h i (by simp [AV.i8]),EU h]
 ·rfl
 ·exact EU h
theorem Gm {v:AV} {r:Sigma Ty.den} {g:List Nat} (h:v.wi s=some (r,g)):∀ i∈g,v.i8 i=true:=by
 unfold AV.wi at h;split at h
 ·split at h
  ·cases h; simp [AV.i8]
  ·exact FJ h
 ·cases h; simp
 ·exact FJ h
theorem JD {u:Ty} {v:AV} (h:Alike s t v):v.vJ t u=v.vJ s u:=by
 unfold AV.vJ
 split
 ·rfl
 ·rfl
 ·simp only [IS h,EU h]
theorem Sk {u:Ty} {v:AV} {r:Sigma λ t:Ty=>List t.den} {g:List Nat} (h:v.vJ s u=some (r,g)):∀ i∈g,v.i8 i=true:=by
 unfold AV.vJ at h;split at h
 ·cases h; simp
 ·cases h; simp
 ·split at h
  ·cases h
  ·split at h
   ·cases h; simp
   ·split at h
    ·rename_i hg; cases h; exact FJ hg
    ·cases h
theorem IA {d:Int} {x:Option Operand} (h:∀ y,x=some y->t.ev y=s.ev y):bnd t d x=bnd s d x:=by
 cases x with
 | none=>rfl
 | some y=>simp only [bnd,h y rfl]
theorem VB {k:PK} {v:AV} (h:Alike s t v):v.T3 t k=v.T3 s k:=by
 cases k with
 | v u=>simp only [AV.T3,VC h]
 | rd u=>simp only [AV.T3,NR h]
 | X4=>cases v<;>rfl
 | rcs f n=>rfl
 | el q=>rfl
 | D9 f ts =>
  cases v<;>try rfl
  simp only [AV.T3]; rw [Oz (λ i hi=>h i (by simpa [AV.i8] using hi))]
 | own u =>
  have hg:=zP h;unfold AV.T3;dsimp only
  split
  ·rfl
  ·rw [hg]
 | rw u =>
  cases v<;>try rfl
  rename_i i p; cases p<;>simp only [AV.T3,h i (by simp [AV.i8])]
 | mu u =>
  cases v<;>try rfl
  rename_i i p; cases p<;>simp only [AV.T3,h i (by simp [AV.i8])]
theorem Oy:∀ {ks:List PK} {v:AV},Alike s t v->AV.vH t ks v=AV.vH s ks v
 | [],v,_=>by cases v<;>rfl
 | k::ks,v,h=>by
  cases v<;>try rfl
  rename_i a b;simp only [AV.vH,VB (v:=a) (λ i hi=>h i (by simp [AV.i8,hi])),Oy (v:=b) (λ i hi=>h i (by simp [AV.i8,hi]))]
theorem Yt {k:PK} {v:AV} {x:k.den} {g m:List Nat} (h:v.T3 s k=some (x,g,m)):(∀ i∈g++m,v.i8 i=true)/\(k.l6=false->g=[]/\m=[]):=by
 cases k with
 | v u=>simp only [AV.T3] at h; split at h<;>cases h; simp
 | rd u=>simp only [AV.T3] at h; split at h<;>cases h; simp
 | X4=>simp only [AV.T3] at h; split at h<;>cases h; simp
 | rcs f n=>simp only [AV.T3] at h; cases h
 | el q=>simp only [AV.T3] at h; cases h
 | D9 f ts =>
  simp only [AV.T3] at h;split at h
  ·split at h
   ·split at h<;>cases h; simp
   ·cases h
  ·cases h
 | own u =>
  refine ⟨?_,λ h=>by cases h⟩;simp only [AV.T3] at h;split at h
  ·split at h<;>cases h; simp
  ·split at h
   ·rename_i hg
    split at h
    ·cases h
     intro i hi;exact Gm hg i (by simpa using hi)
    ·cases h
   ·cases h
 | rw u =>
  refine ⟨?_,λ h=>by cases h⟩;simp only [AV.T3] at h;split at h
  ·split at h
   ·split at h
    ·cases h; simp [AV.i8]
    ·cases h
   ·cases h
  ·cases h
 | mu u =>
  refine ⟨?_,λ h=>by cases h⟩;simp only [AV.T3] at h;split at h
  ·split at h
   ·split at h
    ·cases h; simp [AV.i8]
    ·cases h
   ·cases h
  ·cases h
theorem Sm:∀ {ks:List PK} {v:AV} {x:DK ks} {g m:List Nat},AV.vH s ks v=some (x,g,m)->(∀ i∈g++m,v.i8 i=true)/\(ks.any PK.l6=false->g=[]/\m=[])
 | [],v,x,g,m,h=>by
  cases v<;>simp only [AV.vH] at h<;>cases h;simp
 | k::ks,v,x,g,m,h=>by
  cases v<;>simp only [AV.vH] at h<;>try (cases h; done)
  split at h
  ·rename_i h1 h2
   cases h;obtain ⟨a1,a2⟩:=Yt h1;obtain ⟨b1,b2⟩:=Sm h2;refine ⟨?_,?_⟩
   ·intro i hi
    simp only [aAi] at hi a1 b1;simp only [AV.i8,aBr];rcases hi with (hi|hi)|(hi|hi)
    ·exact .inl (a1 i (.inl hi))
    ·exact .inr (b1 i (.inl hi))
    ·exact .inl (a1 i (.inr hi))
    ·exact .inr (b1 i (.inr hi))
   ·intro ht
    simp only [aFn,aBx] at ht;obtain ⟨r1,r2⟩:=a2 ht.1;obtain ⟨r3,r4⟩:=b2 ht.2;simp [r1,r2,r3,r4]
  ·cases h
theorem FA:∀ {parts:List (Nat×Operand)} {r:Sigma Ty.den},(∀ q∈parts,t.ev q.2=s.ev q.2/\Alike s t (s.ev q.2))->V0 t r parts=V0 s r parts
 | [],⟨_,_⟩,_=>rfl
 | (i,v)::parts,⟨u,x⟩,h=>by
  have ih:=λ r=>FA (parts:=parts) (r:=r) (λ q hq=>h q (by simp [hq]));obtain ⟨h1,h2⟩:=h (i,v) (by simp);have h1:t.ev v=s.ev v:=h1;have h2:=zP h2;have h2:(s.ev v).wi t=(s.ev v).wi s:=h2;simp only [V0,h1,ih]
  split
  ·rfl
  ·split
   ·rfl
   ·rw [h2]
theorem Ge:∀ {parts:List (Nat×Operand)} {r r':Sigma Ty.den} {g:List Nat},V0 s r parts=some (r',g)->∀ i∈g,∃ q∈parts,(s.ev q.2).i8 i=true
 | [],⟨_,_⟩,r',g,h=>by simp only [V0] at h; cases h; simp
 | (j,v)::parts,⟨u,x⟩,r',g,h=>by
  simp only [V0] at h;split at h
  ·cases h
  ·split at h
   ·split at h
    ·split at h
     ·intro i hi
      obtain ⟨q,hq,hm⟩:=Ge h i hi;exact ⟨q,by simp [hq],hm⟩
     ·cases h
    ·cases h
   ·split at h
    ·rename_i hg
     split at h
     ·split at h
      ·rename_i hb
       cases h;intro i hi;rcases aAi.1 hi with hi|hi
       ·exact ⟨(j,v),by simp,Gm hg i hi⟩
       ·obtain ⟨q,hq,hm⟩:=Ge hb i hi
        exact ⟨q,by simp [hq],hm⟩
      ·cases h
     ·cases h
    ·cases h
end
end Go.Ex
