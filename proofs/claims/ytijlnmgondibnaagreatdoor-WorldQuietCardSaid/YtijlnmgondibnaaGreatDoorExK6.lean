import Derived.Test.YtijlnmgondibnaaGreatDoorExK5
set_option linter.unusedVariables false
set_option linter.unusedSimpArgs false
set_option linter.unusedSectionVars false
namespace Go.Ex
section
variable {E:Env} {B:E1} {S:Nat->Prop} {ι:Ix} {s:St} {a:Act} {w:World}
def Ba (P:Program) (S:Nat->Prop) (ι:Ix) (o:Oper) (a:Act) (w:World) (s:St) (v:AV):Prop :=
 ∃ val,(∀ w',(execOp a.eval o).run P w'=.ok (.value val) w')/\VX w.heap S ι s.hp v [val]
def zA (P:Program) (S:Nat->Prop) (ι:Ix) (o:Oper) (a:Act) (w:World) (s:St):OR->Prop
 | .fail _=>True
 | .ok v s'=>s'=s/\Ba P S ι o a w s v
 | .F3 p v s'=>p->s'=s/\Ba P S ι o a w s v
theorem yc {P:Program} {o:Oper} {sem:Sem Value} (he:execOp a.eval o=(do pure (.value (<- sem)))) {v:AV} {val:Value} (hr:∀ w',sem.run P w'=.ok val w')
  (hv:VX w.heap S ι s.hp v [val]):s=s/\Ba P S ι o a w s v:=⟨rfl,val,λ w'=>by rw [he]; simp [hr w',Result.andThen],hv⟩
theorem b2f (hE:C8 E B) (h:RS B S ι s a w) {o:Oper} {T:TypeId} {x:Operand} {n:Nat} (ho:o.op=.fieldAddr T x n):zA E.P S ι o a w s (l8 E o s):=by
 have he:execOp a.eval o=(do pure (.value (<- Instr.fieldAt T (a.eval x) n))):=by simp [execOp,ho]
 unfold l8;rw [ho];simp only
 split
 ·rename_i i p hx
  split
  ·rename_i u z cO
   split
   ·rename_i r hc gx
    obtain ⟨e,b,off,h1,h2,h3,h4⟩:=C2 h hx;have hg:=H3 h1 cO;have h4:a.eval x=.pointer (some ⟨b,off,none⟩):=by simpa using h4
    obtain ⟨u2,z2⟩:=r;exact yc he (λ _=>by rw [h4]; exact Af (D0 hE hc) gx b off) ⟨e,b,off+R3 u n,h1,W3 hg h2 (xU gx),BS hg h3 (λ G=>xX gx),rfl⟩
   ·trivial
  ·trivial
 ·rename_i t y hx
  split
  ·rename_i u z hc hg
   obtain ⟨b,off,e,h1,h2,h3⟩:=C2 h hx;have e:a.eval x=.pointer (some ⟨b,off,none⟩):=by simpa using e
   have aM:=xU hg;obtain ⟨O1,O2,b',ar,e1,e2,e3,e4,e5,e6⟩:=focus h3 h2 aM hg
   have hO:O1=[]/\O2=[]:=by have:=e1.nil_eq; simpa using this.symm
   rw [xX hg] at e3; cases e3;refine yc he (λ _=>by rw [e]; exact Af (D0 hE hc) hg b off) ⟨b,off+R3 t n,rfl,h1,e5,?_⟩;rw [hO.2] at e4; exact e4
  ·trivial
 ·rename_i t y hx
  split
  ·rename_i u z hc hg
   intro hy;obtain ⟨b,off,e,h1,h2,h3⟩:=DM (C2 h hx) hy;have e:a.eval x=.pointer (some ⟨b,off,none⟩):=by simpa using e
   have aM:=xU hg;obtain ⟨O1,O2,b',ar,e1,e2,e3,e4,e5,e6⟩:=focus h3 h2 aM hg
   have hO:O1=[]/\O2=[]:=by have:=e1.nil_eq; simpa using this.symm
   rw [xX hg] at e3; cases e3;refine yc he (λ _=>by rw [e]; exact Af (D0 hE hc) hg b off) ⟨b,off+R3 t n,rfl,h1,e5,?_⟩;rw [hO.2] at e4; exact e4
  ·trivial
 ·trivial
theorem b2a (hE:C8 E B) (h:RS B S ι s a w) {o:Oper} {T:TypeId} {x y:Operand} (ho:o.op=.indexAddr T x y):zA E.P S ι o a w s (l8 E o s):=by
 have he:execOp a.eval o=(do pure (.value (<- Instr.indexAt T (a.eval x) (a.eval y)))):=by simp [execOp,ho]
 unfold l8;rw [ho];simp only
 split
 ·rename_i d p k n hx hy
  split
  ·rename_i m u z cO
   split
   ·rename_i hc
    intro hn;obtain ⟨e,b,off,h1,h2,h3,h4⟩:=C2 h hx;have hg:=H3 h1 cO;have h4:a.eval x=.pointer (some ⟨b,off,none⟩):=by simpa using h4
    obtain ⟨dD,_⟩:=VX.H4 (C2 h hy);exact yc he (λ _=>by rw [h4,dD]; exact EY (D0 hE hc) b off hn) ⟨e,b,off+n.toNat*u.size,h1,W3 hg h2 ⟨hn,N0⟩,BS hg h3 (λ G=>by simp only [x8,y6]),rfl⟩
   ·trivial
  ·trivial
 ·rename_i m t z k n hx hy
  split
  ·rename_i hc
   intro hn;obtain ⟨b,off,e,h1,h2,h3⟩:=C2 h hx;have e:a.eval x=.pointer (some ⟨b,off,none⟩):=by simpa using e
   obtain ⟨dD,_⟩:=VX.H4 (C2 h hy);have aM:w9 (.arr m t) z [.idx n]:=⟨hn,by cases t<;>trivial⟩;have hg:j9 (.arr m t) z [.idx n]=some ⟨t,List.getD z (Int.toNat n) t.s4⟩:=by simp only [j9]
   obtain ⟨O1,O2,b',ar,e1,e2,e3,e4,e5,e6⟩:=focus h3 h2 aM hg
   have hO:O1=[]/\O2=[]:=by have:=e1.nil_eq; simpa using this.symm
   have e3':x8 w.heap (.arr m t) [.idx n] b off=some (b,off+Int.toNat n*t.size):=by simp only [x8]
   rw [e3'] at e3; cases e3;refine yc he (λ _=>by rw [e,dD]; exact EY (D0 hE hc) b off hn) ⟨b,off+Int.toNat n*t.size,rfl,h1,e5,?_⟩;rw [hO.2] at e4; exact e4
  ·trivial
 ·rename_i t z k n hx hy
  split
  ·rename_i hc
   intro hn;obtain ⟨cs,e,hR⟩:=C2 h hx;have e:a.eval x=p7 (.d0 false t) cs:=by simpa using e
   obtain ⟨dD,_⟩:=VX.H4 (C2 h hy);rcases hR with ⟨_,_,hz⟩|⟨b1,o1,cap,O',c1,c2,c3,c4,c5,c6,c7,c8⟩
   ·subst hz; exact (Dz hn).elim
   ·have fU:a.eval x=.slice (some ⟨b1,o1,none⟩) (List.length z) cap:=by rw [e,c1]; rfl
    obtain ⟨b1',b2,b3,b4⟩:=D8 (sz:=t.size) hn;obtain ⟨P1,P2,P3,e1,g1,g2,g3⟩:=j5.split (d:=t.s4) (i:=Int.toNat n) b1' c5;have hle:t.size<=List.length z*t.size - Int.toNat n*t.size:=by omega
    rw [o5,n6 _ _ _ _ hle] at g2;have hP:P2=[]:=by rw [c7] at e1; have:=List.append_eq_nil_iff.1 e1.symm; exact (List.append_eq_nil_iff.1 this.2).1
    refine yc he (λ _=>by rw [fU,dD]; exact U4 (D0 hE hc) b1 o1 _ cap hn) ⟨b1,o1+Int.toNat n*t.size,rfl,c8,by omega,?_⟩;rw [hP] at g2; exact g2
  ·trivial
 ·rename_i d p k n hx hy
  split
  ·rename_i u z cO
   split
   ·rename_i hc
    intro hn;obtain ⟨e,u',y',cs,h1,h2,h3,h4,h5⟩:=C2 h hx;have hg:=H3 h1 cO;rw [h3] at hg; cases hg;obtain ⟨dD,_⟩:=VX.H4 (C2 h hy);have h5:a.eval x=p7 (.d0 true u) cs:=by simpa using h5
    obtain ⟨O2,m1,m2,m3⟩:=G1 h.hs h1 h2 h3 h4;rcases m3 with ⟨_,_,hz⟩|⟨b1,o1,cap,O',rfl,c2,c3,c4,c5,c6,c7⟩
    ·subst hz; exact (Dz hn).elim
    ·have fU:a.eval x=.slice (some ⟨b1,o1,none⟩) (List.length z) cap:=h5
     obtain ⟨b0,off0,q1,q2⟩:=h4;have hh:=(P5 b0 off0 _).1 q2.symm;refine yc he (λ _=>by rw [fU,dD]; exact U4 (D0 hE hc) b1 o1 _ cap hn) ⟨e,b1,o1+n.toNat*u.size,h1,W3 h3 h2 ⟨hn,N0⟩,vH (Ae h3 q1 ?_) c7.free.lt,rfl⟩;simp only [x8,hh,y6]
   ·trivial
  ·trivial
 ·rename_i d p lo hi k n hx hy
  split
  ·rename_i u l dU
   split
   ·rename_i hc
    intro hn;have fe:@LE.le Int Int.instLEInt 0 n:=hn.1;have lC:@LT.lt Int Int.instLTInt n (hi - lo):=hn.2;obtain ⟨A,c,k1,k2,k3,k4,k5,e,k6,k7,k8⟩:=DI h.hs (C2 h hx) dU;obtain ⟨dD,_⟩:=VX.H4 (C2 h hy);have hz:l≠[]:=by rintro rfl; have k3:((0:Nat):Int)=hi - lo:=k3; omega
    obtain ⟨b,off,rfl,k9⟩:=k8 hz;obtain ⟨off2,q1,rfl,q3⟩:=k9 n hn.1 (by omega);exact yc he (λ _=>by rw [k1,dD]; exact U4 (D0 hE hc) b off _ c (by omega)) ⟨e,b,_,k6,q3,q1,rfl⟩
   ·trivial
  ·trivial
 ·trivial
theorem b4f (_hE:C8 E B) (h:RS B S ι s a w) {o:Oper} {x:Operand} (ho:o.op=.nilCheck x):zA E.P S ι o a w s (l8 E o s):=by
 unfold l8; rw [ho];simp only
 split
 ·rename_i i p hx
  obtain ⟨e,b,off,h1,h2,h3,h4⟩:=C2 h hx;have h4:a.eval x=.pointer (some ⟨b,off,none⟩):=by simpa using h4
  exact ⟨rfl,.pointer (some ⟨b,off,none⟩),λ w'=>by simp only [execOp,ho,h4]; rfl,e,b,off,h1,h2,h3,rfl⟩
 ·rename_i t y hx
  obtain ⟨b,off,e,h1,h2,h3⟩:=C2 h hx;have e:a.eval x=.pointer (some ⟨b,off,none⟩):=by simpa using e
  exact ⟨rfl,.pointer (some ⟨b,off,none⟩),λ w'=>by simp only [execOp,ho,e]; rfl,b,off,rfl,h1,h2,h3⟩
 ·rename_i t y hx
  intro hy;obtain ⟨b,off,e,h1,h2,h3⟩:=DM (C2 h hx) hy;have e:a.eval x=.pointer (some ⟨b,off,none⟩):=by simpa using e
  exact ⟨rfl,.pointer (some ⟨b,off,none⟩),λ w'=>by simp only [execOp,ho,e]; rfl,b,off,rfl,h1,h2,h3⟩
 ·rename_i f t y hx
  intro hy;have hv:=C2 h hx;obtain ⟨p,e,-⟩:=II hv hy;exact ⟨rfl,a.eval x,λ w'=>by simp only [execOp,ho,e]; rfl,hv⟩
 ·rename_i f l hx
  obtain ⟨us,e,h1⟩:=C2 h hx;have e:a.eval x=.func (.func f) #[] us.toArray:=by simpa using e
  exact ⟨rfl,.func (.func f) #[] us.toArray,λ w'=>by simp only [execOp,ho,e]; rfl,us,rfl,h1⟩
 ·rename_i g b hx
  intro hb;have hv:=Hw h hx;have hb:b=true:=hb;subst hb;exact ⟨rfl,.func (.func g) #[] #[],λ w'=>by simp only [execOp,ho,hv]; rfl,[fnV g true],rfl,rfl,rfl⟩
 ·trivial
theorem BG (hE:C8 E B) (h:RS B S ι s a w) {o:Oper} (ho:zJ o.op=true):zA E.P S ι o a w s (l8 E o s):=by
 unfold zJ at ho;split at ho
 ·rename_i e; exact b2f hE h e
 ·rename_i e; exact b2a hE h e
 ·rename_i e; exact b4f hE h e
 ·cases ho
end
section
variable {S:Nat->Prop} {H H':Array Go.Obj}
theorem sib {t:Ty} {O:List Nat} {b off:Nat} {x:t.den} (hR:i6 H S t O (d9 H b off t.size) x) (hb:off+t.size<=(w4 H b).length) (hc:d9 H' b off t.size=d9 H b off t.size) (hO:∀ c∈O,H'[c]?=H[c]?)
  {q:List Step} (ho:w9 t x q) {u:Ty} {y:u.den} (hg:j9 t x q=some ⟨u,y⟩) {b' ar:Nat} (hn:x8 H t q b off=some (b',ar)):x8 H' t q b off=some (b',ar)/\d9 H' b' ar u.size=d9 H b' ar u.size :=
 ⟨(yD hR hb ho hc hO).trans hn,yx hR hb ho hc hO hg hn⟩
theorem Vb:∀ {t:Ty} {p:List Step} {b off:Nat} {O1:List Nat} {x:t.den},u7 H S t p b off O1 x->off+t.size<=(w4 H b).length->d9 H' b off t.size=d9 H b off t.size->(∀ c∈O1,H'[c]?=H[c]?) ->
  ∀ {u0:Ty} {y0:u0.den},j9 t x p=some ⟨u0,y0⟩->∀ {b0 off0:Nat},x8 H t p b off=some (b0,off0) ->
  (∀ {q:List Step},w9 u0 y0 q->∀ {u:Ty} {y:u.den},j9 u0 y0 q=some ⟨u,y⟩->∀ {b' ar:Nat},x8 H u0 q b0 off0=some (b',ar)->x8 H' u0 q b0 off0=some (b',ar)/\d9 H' b' ar u.size=d9 H b' ar u.size) ->
  ∀ {q:List Step},w9 t x q->∀ {u:Ty} {y:u.den},j9 t x q=some ⟨u,y⟩->∀ {b' ar:Nat},x8 H t q b off=some (b',ar)->x8 H' t q b off=some (b',ar)/\d9 H' b' ar u.size=d9 H b' ar u.size:=by
 intro t;have here:∀ {t:Ty} {x:t.den} {b off:Nat},d9 H' b off t.size=d9 H b off t.size->∀ {u:Ty} {y:u.den},j9 t x []=some ⟨u,y⟩->∀ {b' ar:Nat},x8 H t [] b off=some (b',ar)->x8 H' t [] b off=some (b',ar)/\d9 H' b' ar u.size=d9 H b' ar u.size:=by
  intro t x b off hc u y hg b' ar hn;rw [B9] at hg; cases hg;rw [y6] at hn; cases hn;exact ⟨y6 ..,hc⟩
 induction t with
 | pair a c iha ihc =>
  intro p b off O1 x hR hb hc hO u0 y0 dA b0 off0 cY hP q ho u y hg b' ar hn
  match p,hR,dA,cY with
  | [],_,dA,cY =>
   rw [B9] at dA; cases dA;rw [y6] at cY; cases cY;exact hP ho hg hn
  | .l7 0::p,⟨P1,P2,e,h1,h2⟩,dA,cY =>
   subst e;simp only [Ty.size] at hb hc
   match q,ho,hg,hn with
   | [],_,hg,hn=>exact here hc hg hn
   | .l7 0::q,ho,hg,hn=>exact iha h1 (by omega) (Z0 hc (by omega) (by omega)) (λ c hc=>hO c (by simp [hc])) dA cY hP ho hg hn
   | .l7 (m+1)::q,ho,hg,hn=>exact sib h2 (by omega) (Z0 hc (by omega) (by omega)) (λ c hc=>hO c (by simp [hc])) (q:=.l7 m::q) ho hg hn
   | .idx i::q,ho,_,_=>simp [w9] at ho
  | .l7 (n+1)::p,⟨P1,P2,e,h1,h2⟩,dA,cY =>
   subst e;simp only [Ty.size] at hb hc
   match q,ho,hg,hn with
   | [],_,hg,hn=>exact here hc hg hn
   | .l7 0::q,ho,hg,hn=>exact sib h1 (by omega) (Z0 hc (by omega) (by omega)) (λ c hc=>hO c (by simp [hc])) (q:=q) ho hg hn
   | .l7 (m+1)::q,ho,hg,hn=>exact ihc h2 (by omega) (Z0 hc (by omega) (by omega)) (λ c hc=>hO c (by simp [hc])) dA cY hP (q:=.l7 m::q) ho hg hn
   | .idx i::q,ho,_,_=>simp [w9] at ho
  | .idx i::p,hR,_,_=>simp [u7] at hR
 | arr n t ih =>
  intro p b off O1 x hR hb hc hO u0 y0 dA b0 off0 cY hP q ho u y hg b' ar hn
  match p,hR,dA,cY with
  | [],_,dA,cY =>
   rw [B9] at dA; cases dA;rw [y6] at cY; cases cY;exact hP ho hg hn
  | .l7 i::p,hR,_,_=>simp [u7] at hR
  | .idx i::p,⟨hl,hi,P1,P2,P3,e,h1,h2,h3⟩,dA,cY =>
   subst e;obtain ⟨b1,b2,b3,b4⟩:=D8 (sz:=t.size) hi;simp only [Ty.size] at hb hc
   match q,ho,hg,hn with
   | [],_,hg,hn=>exact here hc hg hn
   | .l7 j::q,ho,_,_=>simp [w9] at ho
   | .idx j::q,⟨hj,ho⟩,hg,hn =>
    obtain ⟨d1,d2,d3,d4⟩:=D8 (sz:=t.size) hj;simp only [x8] at hn ⊢;simp only [j9] at hg;have gM:d9 H' b (off+j.toNat*t.size) t.size=d9 H b (off+j.toNat*t.size) t.size:=Z0 hc (by omega) (by omega);by_cases bO:i.toNat=j.toNat
    ·rw [<- bO] at ho hg hn gM ⊢
     exact ih h2 (by omega) gM (λ c hc=>hO c (by simp [hc])) dA cY hP ho hg hn
    ·rcases Nat.lt_or_gt_of_ne bO with bc|fi
     ·have hd:j.toNat - (i.toNat+1)<(List.drop (i.toNat+1) x).length:=by simp only [List.length_drop]; omega
      obtain ⟨Q1,Q2,Q3,e,k1,k2,k3⟩:=j5.split (d:=t.s4) hd h3;have e1:(i.toNat+1)*t.size+(j.toNat - (i.toNat+1))*t.size=j.toNat*t.size:=by rw [<- Nat.add_mul]; congr 1; omega
      have hm:(j.toNat - (i.toNat+1))*t.size+t.size<=(n - (i.toNat+1))*t.size:=by omega
      rw [o5,n6 _ _ _ _ (by omega),Nat.add_assoc,e1] at k2;have e2:(List.drop (i.toNat+1) x).getD (j.toNat - (i.toNat+1)) t.s4=List.getD x j.toNat t.s4:=by
       simp only [List.getD_eq_getElem?_getD,List.getElem?_drop];rw [show i.toNat+1+(j.toNat - (i.toNat+1))=j.toNat from by omega]
      rw [e2] at k2;exact sib k2 (by omega) gM (λ d hd=>hO d (by rw [e]; simp [hd])) ho hg hn
     ·have hd:j.toNat<(List.take i.toNat x).length:=by simp only [List.length_take]; omega
      obtain ⟨Q1,Q2,Q3,e,k1,k2,k3⟩:=j5.split (d:=t.s4) hd h1;have hm:j.toNat*t.size+t.size<=i.toNat*t.size:=by
       rw [<- Nat.succ_mul]; exact Nat.mul_le_mul_right _ (by omega)
      rw [o5,n6 _ _ _ _ (by omega)] at k2;have e2:(List.take i.toNat x).getD j.toNat t.s4=List.getD x j.toNat t.s4:=by
       simp only [List.getD_eq_getElem?_getD,List.getElem?_take];rw [if_pos (by omega)]
      rw [e2] at k2;exact sib k2 (by omega) gM (λ d hd=>hO d (by rw [e]; simp [hd])) ho hg hn
 | d0 o t ih =>
  intro p b off O1 x hR hb hc hO u0 y0 dA b0 off0 cY hP q ho u y hg b' ar hn
  match p,hR,dA,cY with
  | [],_,dA,cY =>
   rw [B9] at dA; cases dA;rw [y6] at cY; cases cY;exact hP ho hg hn
  | .l7 i::p,hR,_,_=>cases o<;>simp [u7] at hR
  | .idx i::p,hR,dA,cY =>
   cases o with
   | false=>simp [u7] at hR
   | true =>
    obtain ⟨hi,c1,o1,cap,P1,P2,P3,e,e1,e2,e3,e4,e5,e6,e7⟩:=hR;subst e;obtain ⟨b1,b2,b3,b4⟩:=D8 (sz:=t.size) hi;have cM:List.length x*t.size<=cap*t.size:=Nat.mul_le_mul_right _ e2;have pD:=e4.free.w4;simp only [Ty.size] at hb hc
    match q,ho,hg,hn with
    | [],_,hg,hn=>exact here (t:=.d0 true t) hc hg hn
    | .l7 j::q,ho,_,_=>simp [w9] at ho
    | .idx j::q,⟨hj,ho⟩,hg,hn =>
     obtain ⟨d1,d2,d3,d4⟩:=D8 (sz:=t.size) hj;have kN:(w4 H' b)[off]?=some (.slice (some ⟨c1,o1,none⟩) (List.length x) cap):=by
      rw [b6o hc (j:=off) (by omega) (by omega)]; exact e1
     simp only [x8,e1] at hn cY;simp only [x8,kN];simp only [j9] at hg;have gM:d9 H' c1 (o1+j.toNat*t.size) t.size=d9 H c1 (o1+j.toNat*t.size) t.size:=l5 (hO c1 (by simp)) _ _;by_cases bO:i.toNat=j.toNat
     ·rw [<- bO] at ho hg hn gM ⊢
      exact ih e6 (by omega) gM (λ c hc=>hO c (by simp [hc])) dA cY hP ho hg hn
     ·rcases Nat.lt_or_gt_of_ne bO with bc|fi
      ·have hd:j.toNat - (i.toNat+1)<(List.drop (i.toNat+1) x).length:=by simp only [List.length_drop]; omega
       obtain ⟨Q1,Q2,Q3,e,k1,k2,k3⟩:=j5.split (d:=t.s4) hd e7;have f1:(i.toNat+1)*t.size+(j.toNat - (i.toNat+1))*t.size=j.toNat*t.size:=by rw [<- Nat.add_mul]; congr 1; omega
       have hm:(j.toNat - (i.toNat+1))*t.size+t.size<=(List.length x - (i.toNat+1))*t.size:=by omega
       rw [o5,n6 _ _ _ _ (by omega),Nat.add_assoc,f1] at k2;have f2:(List.drop (i.toNat+1) x).getD (j.toNat - (i.toNat+1)) t.s4=List.getD x j.toNat t.s4:=by
        simp only [List.getD_eq_getElem?_getD,List.getElem?_drop];rw [show i.toNat+1+(j.toNat - (i.toNat+1))=j.toNat from by omega]
       rw [f2] at k2;exact sib k2 (by omega) gM (λ d hd=>hO d (by rw [e]; simp [hd])) ho hg hn
      ·have hd:j.toNat<(List.take i.toNat x).length:=by simp only [List.length_take]; omega
       obtain ⟨Q1,Q2,Q3,e,k1,k2,k3⟩:=j5.split (d:=t.s4) hd e5;have hm:j.toNat*t.size+t.size<=i.toNat*t.size:=by
        rw [<- Nat.succ_mul]; exact Nat.mul_le_mul_right _ (by omega)
       rw [o5,n6 _ _ _ _ (by omega)] at k2;have f2:(List.take i.toNat x).getD j.toNat t.s4=List.getD x j.toNat t.s4:=by
        simp only [List.getD_eq_getElem?_getD,List.getElem?_take];rw [if_pos (by omega)]
       rw [f2] at k2;exact sib k2 (by omega) gM (λ d hd=>hO d (by rw [e]; simp [hd])) ho hg hn
 | _ =>
  intro p b off O1 x hR hb hc hO u0 y0 dA b0 off0 cY hP q ho u y hg b' ar hn
  match p,hR,dA,cY with
  | [],_,dA,cY =>
   rw [B9] at dA; cases dA;rw [y6] at cY; cases cY;exact hP ho hg hn
  | .idx i::p,hR,_,_=>simp [u7] at hR
  | .l7 i::p,hR,_,_=>simp [u7] at hR
theorem c0f {t0:Ty} {l:List t0.den} {b off b1 o1 cap n:Nat} {Op:List Nat} (hR:i6 H S (.d0 true t0) Op (d9 H b off 1) l) (gD:∀ c∈Op,c<H.size) (aJ:Op.Nodup) (hb:b<H.size) (bM:b∉Op)
  (hh:d9 H b off 1=[.slice (some ⟨b1,o1,none⟩) l.length cap]) (h1:1<=cap) (hc:V6 H H' b1 (o1+l.length*t0.size) n) :
  ∀ {q:List Step},w9 (.d0 true t0) l q->∀ {u:Ty} {y:u.den},j9 (.d0 true t0) l q=some ⟨u,y⟩->∀ {b' ar:Nat},x8 H (.d0 true t0) q b off=some (b',ar)->x8 H' (.d0 true t0) q b off=some (b',ar)/\d9 H' b' ar u.size=d9 H b' ar u.size:=by
 intro q ho u y hg b' ar hn;rcases hR with ⟨_,⟨A,c,e,eL⟩,_⟩|⟨b2,o2,cap2,O',c1,c2,c3,c4,c5,rfl,c7⟩
 ·rw [hh] at e
  simp only [List.cons.injEq,Value.slice.injEq,and_true] at e;have:=eL rfl; omega
 ·rw [hh] at c1
  simp only [List.cons.injEq,Value.slice.injEq,Option.some.injEq,Addr.mk.injEq,and_true] at c1;obtain ⟨⟨rfl,rfl⟩,-,rfl⟩:=c1;have bE:b≠b1:=λ e=>bM (by simp [e]);have cw:d9 H' b off 1=d9 H b off 1:=hc.cells hb (λ e=>absurd e bE)
  match q,ho,hg,hn with
  | [],_,hg,hn =>
   rw [B9] at hg; cases hg;rw [y6] at hn; cases hn;exact ⟨y6 ..,cw⟩
  | .l7 j::q,ho,_,_=>simp [w9] at ho
  | .idx j::q,⟨hj,ho⟩,hg,hn =>
   obtain ⟨d1,d2,d3,d4⟩:=D8 (sz:=t0.size) hj;have kN:=(P5 b off _).1 hh;have px:=(P5 b off _).1 (cw.trans hh);simp only [x8,kN] at hn;simp only [x8,px];simp only [j9] at hg;obtain ⟨P1,P2,P3,e,g1,g2,g3⟩:=j5.split (d:=t0.s4) d1 c5;subst e;rw [o5,n6 _ _ _ _ (by omega)] at g2;have cM:=c7.free.w4;have dW:List.length l*t0.size<=cap*t0.size:=Nat.mul_le_mul_right _ c2;refine sib g2 (by omega) (hc.cells (gD b1 (by simp)) (λ _=>.inl (by omega))) (λ d hd=>hc.rest d ?_ (gD d (by simp [hd]))) ho hg hn;rintro rfl;exact (List.nodup_cons.1 aJ).1 (by simp [hd])
end
section
variable {E:Env} {B:E1} {S:Nat->Prop} {ι:Ix} {s:St} {a:Act} {w:World}
theorem RS.spare (h:RS B S ι s a w) {i:Nat} {e:g9} (he:look i s.hp=some e) (_hnb:e≠.K6) {w':World} (k:D3 (l6 ι i e) w w') (aS:OB w'.heap S ι i e) (aW:w'.heap.size=w.heap.size)
  (jj:∀ {q:List Step},w9 e.ty e.x q->∀ {u:Ty} {y:u.den},j9 e.ty e.x q=some ⟨u,y⟩->∀ {b off:Nat},Place w.heap ι i e q=some (b,off)->Place w'.heap ι i e q=some (b,off)/\d9 (VH w'.heap ι i e) b off u.size=d9 (VH w.heap ι i e) b off u.size) :
  RS B S ι s a w':=by
 have hold:∀ {b:Nat},((∃ j ej,j≠i/\look j s.hp=some ej/\b∈l6 ι j ej)\/S b)->w'.heap[b]?=w.heap[b]?:=by
  intro b hb;refine k.frame b (hb.elim (λ⟨j,ej,_,h1,h2⟩=>(h.hs.bl j ej h1 b h2).2.2) (h.hs.slt b)) (λ nP=>?_);rcases hb with ⟨j,ej,h0,h1,h2⟩|hb
  ·exact h.hs.dj i j e ej he h1 (Ne.symm h0) b nP h2
  ·exact (h.hs.bl i e he b nP).1 hb
 have qp:HS B S ι s.hp w':=by
  refine ⟨k.os.trans h.hs.os,k.tape.trans h.hs.tape,k.out.trans h.hs.out,by rw [aW]; exact h.hs.size,?_,λ b hb=>by rw [aW]; exact h.hs.slt b hb,h.hs.s0,h.hs.s1,?_,λ j ej hj c hc=>?_,h.hs.dj,h.hs.pin⟩
  ·intro c hc hm
   rw [k.frame c (Nat.lt_of_lt_of_le hc h.hs.size) (λ pT=>by rcases (h.hs.bl i e he c pT).2.1 with h1|h1; omega; exact hm h1)];exact h.hs.frame c hc hm
  ·intro j ej hj
   by_cases e1:j=i
   ·subst e1; rw [he] at hj; cases hj; exact aS
   ·exact (h.hs.ob j ej hj).s9 (λ b hb=>hold (hb.imp (λ hb=>⟨j,ej,e1,hj,hb⟩) id)) (λ _ h=>h)
  ·rw [aW]; exact h.hs.bl j ej hj c hc
 have gU:∀ {j:Nat} {ej:g9},look j s.hp=some ej->∀ {q:List Step},w9 ej.ty ej.x q->∀ {r:Nat×Nat},Loc w.heap ι j ej q=some r->Loc w'.heap ι j ej q=some r:=by
  intro j ej hj q aM r hl;by_cases e1:j=i
  ·subst e1; rw [he] at hj; cases hj
   obtain ⟨u,y,hg⟩:=Qh aM;obtain ⟨g1,g2⟩:=C4 (b:=r.1) (off:=r.2) hl;exact vH (jj aM hg g1).1 (by rw [aW]; exact g2)
  ·exact EB (K2 hl) (h.hs.ob j ej hj) h.hs.slt (λ b hb=>hold (.inl ⟨j,ej,e1,hj,hb⟩)) aM hl
 have iI:∀ {j:Nat} {ej:g9},look j s.hp=some ej->∀ {q:List Step},w9 ej.ty ej.x q->∀ {u:Ty} {y:u.den},j9 ej.ty ej.x q=some ⟨u,y⟩->∀ {cs:List Value},Cells w.heap ι j ej q u cs->Cells w'.heap ι j ej q u cs:=by
  intro j ej hj q aM u y hg cs hc;by_cases e1:j=i
  ·subst e1; rw [he] at hj; cases hj
   obtain ⟨b0,o0,g1,g2⟩:=hc;obtain ⟨m1,m2⟩:=jj aM hg g1;exact ⟨b0,o0,m1,g2.trans m2.symm⟩
  ·exact KW (BD hc) (h.hs.ob j ej hj) h.hs.slt (λ b hb=>hold (.inl ⟨j,ej,e1,hj,hb⟩)) aM hg hc
 refine ⟨qp,h.dfr,h.sz,λ t v hv=>?_⟩;have:=VX.map (H':=w'.heap) (S':=S) (ι':=ι) (cE:=s.hp) (f:=λ u=>u) (λ b hb=>hold (.inr hb)) (λ _ h=>h) ?_ (h.fr t v hv)
 ·rwa [AV.map_id] at this
 ·intro u vs hu _ h
  cases u<;>simp only [AV.ref] at hu<;>try cases hu
  ·obtain ⟨e',b,off,h1,h2,h3,h4⟩:=h
   exact ⟨e',b,off,h1,h2,gU h1 h2 h3,h4⟩
  ·obtain ⟨e',u,y,cs,h1,h2,h3,h4,h5⟩:=h
   exact ⟨e',u,y,cs,h1,h2,h3,iI h1 h2 h3 h4,h5⟩
  ·obtain ⟨e',v',h1,h2,h3,h4,h5,h6⟩:=h
   refine ⟨e',v',h1,h2,h3,h4,h5,?_⟩;rcases h6 with ⟨t,l,a,cap,k1,k2,k3,k4⟩|⟨n,t,l,b,off,k1,k2,k3,k4⟩
   ·exact .inl ⟨t,l,a,cap,k1,k2,iI h1 h2 k1 k3,k4⟩
   ·exact .inr ⟨n,t,l,b,off,k1,k2,gU h1 h2 k3,k4⟩
def yk (B:E1) (S:Nat->Prop) (ι:Ix) (hp:List (Nat×g9)) (g:List Nat) (i:Nat) (e:g9) (p:List Step) (t0:Ty) (l m:List t0.den) (b off:Nat) (v':Value) (w:World):Prop :=
 ∃ O',Loc w.heap ι i e p=some (b,off)/\i6 w.heap S (.d0 true t0) O' [v'] (l++m)/\O'.Nodup/\b∉O' /\
  ∀ c∈O',(¬ S c/\(B.w0.heap.size<=c\/B.M c)/\c<w.heap.size)/\(∀ j ej,j≠i->j∉g->look j hp=some ej->c∉l6 ι j ej) /\
   (c∈l6 ι i e->∃ Op,i6 w.heap S (.d0 true t0) Op (d9 w.heap b off 1) l/\c∈Op)
theorem Ss (hE:C8 E B) (h:RS B S ι s a w) {o:Oper} {c:Call} (ho:o.op=.call c) (hc:c.callee=.builtin .append) {x y:Operand} {T U:TypeId} (ha:c.args.toList=[x,y]) (eV:c.argTypes.toList=[T,U])
  (hk:(∃ e',E.P.underlying U=some (.slice e'))\/E.P.underlying U=some .string) {q:Bool} {t0:Ty} {bts:Nat} (hT:look T E.tt=some ⟨.d0 q t0,bts⟩) {i:Nat} {p:List Step} (hx:s.ev x=.at_ i p)
  {e:g9} (he:look i s.hp=some e) (jU:(∃ t x,e=.var t x)\/∃ t x j q,e=.own (.d0 true t) x/\p=.idx j::q) {l:List t0.den} (hg:j9 e.ty e.x p=some ⟨.d0 true t0,l⟩)
  {b off:Nat} (hl:Loc w.heap ι i e p=some (b,off)) {m:List t0.den} {g:List Nat} (cn:(s.ev y).uR s t0=some (⟨t0,m⟩,g)) (ee:i∉g) (_hgn:g.Nodup)
  (iN:l.length+m.length<=140737488355328) (gN:(l.length+m.length)*t0.wb<=140737488355328) :
  ∃ v' w',(execOp a.eval o).run E.P w=.ok (.value v') w'/\RS B S ι s a w'/\w9 e.ty e.x p/\yk B S ι s.hp g i e p t0 l m b off v' w':=by
 have cF:e≠.K6:=K2 hl;obtain ⟨Og,news,k1,k2,k3,k4⟩:=IQ (P:=E.P) h hk cn (h.ev y);obtain ⟨e2,u,y2,cs,r1,aM,r3,r4,r5⟩:=C2 h hx;rw [he] at r1; cases r1;rw [hg] at r3; cases r3;obtain ⟨Op,m1,mn,m2,m3,m4,m5⟩:=M6 cF (h.hs.ob i e he) h.hs.slt aM hg hl;have fm:=(h.hs.ob i e he).yN cF h.hs.slt aM hg hl m2;obtain ⟨bW,di⟩:=C4 hl;have hcs:cs=d9 w.heap b off 1:=by
  obtain ⟨b0,off0,q1,q2⟩:=r4;rw [bW] at q1; cases q1;rw [l5 (F7 di)] at q2;exact q2
 have eX:d9 w.heap b off 1=[a.eval x]:=by
  have fY:(d9 w.heap b off 1).length=1:=m2.length;have r5':a.eval x=p7 (.d0 true t0) cs:=by simpa using r5
  rw [r5',hcs]
  match cS:d9 w.heap b off 1,fY with
  | [z],_=>rfl
 have m2':i6 w.heap S (.d0 true t0) Op [a.eval x] l:=by rw [<- eX]; exact m2
 have db:o8 E.P 100 T (.d0 true t0)=true:=DJ (t:=.d0 q t0) (u:=.d0 true t0) rfl (p9 hE hT);have dv:∀ c∈Op,c∈l6 ι i e:=λ c hc=>I0 (m1 c hc);have aJ:(Op++Og).Nodup:=List.nodup_append.2 ⟨mn,k3,by
  rintro c h1 c' h2 rfl;obtain ⟨j,e',j1,j2,j3⟩:=k4 c h2;exact h.hs.dj i j e e' he j2 (by rintro rfl; exact ee j1) c (dv c h1) j3⟩
 have lH:∀ c∈Og,¬ S c/\(B.w0.heap.size<=c\/B.M c)/\c<w.heap.size:=λ c hc=>by
  obtain ⟨j,e',_,j2,j3⟩:=k4 c hc;exact h.hs.bl j e' j2 c j3
 have lj:=λ c hc=>h.hs.bl i e he c (dv c hc);obtain ⟨v',w',O',q1,q2,q3,q4,q5,q6,q7⟩:=Rx db o.type h.hs.slt m2' k1 k2 aJ (λ c hc=>(List.mem_append.1 hc).elim (λ h=>⟨(lj c h).1,(lj c h).2.2⟩) (λ h=>⟨(lH c h).1,(lH c h).2.2⟩)) iN gN;have aH:c.args=#[x,y]:=by rw [<- ha]
 have ew:c.argTypes=#[T,U]:=by rw [<- eV]
 have aP:(execOp a.eval o).run E.P w=.ok (.value v') w':=by
  simp [execOp,ho,resolve,hc,invoke,builtin,aH,ew,q1]
 have fS:∀ c∈l6 ι i e,¬ S c/\c<w.heap.size:=λ c hc=>⟨(h.hs.bl i e he c hc).1,(h.hs.bl i e he c hc).2.2⟩;have bJ:d9 w'.heap b off 1=[a.eval x]:=by rw [l5 (q4.frame b di fm)]; exact eX
 obtain ⟨n2,n3⟩:=OB.same (H':=w'.heap) (h.hs.ob i e he) fS h.hs.slt jU aM hg hl q4.size m2 (λ c hc hn=>q4.frame c hc hn) (by
  show i6 w'.heap S (.d0 true t0) Op (d9 w'.heap b off 1) l;rw [bJ]; exact q6)
 have tu:RS B S ι s a w':=by
  rcases q7 with q7|⟨b1,o1,cap,n,f1,f2,f3,f4,f5⟩
  ·exact h.uO F2.nil q7
  ·have dC:b1∈Op:=by
    rcases m2' with ⟨_,⟨A,c,e0,eL⟩,_⟩|⟨b2,o2,cap2,O2,c1,_,_,_,_,rfl,_⟩
    ·rw [f1] at e0
     simp only [List.cons.injEq,Value.slice.injEq,and_true] at e0;have:=eL rfl; omega
    ·rw [f1] at c1
     simp only [List.cons.injEq,Value.slice.injEq,Option.some.injEq,Addr.mk.injEq,and_true] at c1;rw [c1.1.1]; simp
   refine h.spare he cF (q4.mono dv) n2 f5 ?_;obtain ⟨O,hO,hR,eh,gl,pf,fW,dR⟩:=(h.hs.ob i e he).see cF h.hs.slt;obtain ⟨O1,O3,b',ar,g1,g2,g3,g4,g5,g6⟩:=focus hR eh aM hg
   have lZ:=bW;rw [H2 cF,g3] at lZ; cases lZ;have g4':i6 w.heap S (.d0 true t0) O3 (d9 w.heap b off 1) l:=by
    have g4:i6 (VH w.heap ι i e) S (.d0 true t0) O3 (d9 (VH w.heap ι i e) b off 1) l:=g4;rw [l5 (F7 di)] at g4;exact (vI (λ c hc=>(h.hs.ob i e he).T4 cF (hO.mem_iff.1 (g1.mem_iff.2 (by simp [hc])))) h.hs.slt).1 g4
   obtain rfl:Op=O3:=m2.det g4';have cp:(O1++Op).Nodup:=(g1.nodup_iff).1 ((hO.nodup_iff).2 (List.nodup_cons.1 gl).2);have gP:b1<w.heap.size:=(fS b1 (dv b1 dC)).2;have bD:b1≠(VR w.heap ι i e).1:=by
    rintro rfl;exact (List.nodup_cons.1 gl).1 (hO.mem_iff.1 (g1.mem_iff.2 (by simp [dC])))
   have qc:(VR w'.heap ι i e)=(VR w.heap ι i e):=by cases e<;>simp [VR,f5]
   have hV:∀ c,c≠b1->(VH w'.heap ι i e)[c]?=(VH w.heap ι i e)[c]?:=by
    intro c cw;have hr:∀ c,c≠b1->w'.heap[c]?=w.heap[c]?:=by
     intro c cw;rcases Nat.lt_or_ge c w.heap.size with h1|h1
     ·exact f4.rest c cw h1
     ·rw [Array.getElem?_eq_none h1,Array.getElem?_eq_none (by omega)]
    cases e with
    | own t x =>
     simp only [VH,gh];rw [Array.getElem?_push,Array.getElem?_push,f5]
     split
     ·rfl
     ·exact hr c cw
    | _=>exact hr c cw
   have tj:V6 (VH w.heap ι i e) (VH w'.heap ι i e) b1 (o1+l.length*t0.size) n:=by
    obtain ⟨arr,cX,T',⟨fz,⟨z1,z2⟩,z3⟩,z4,z5⟩:=f4.at_;exact ⟨⟨arr,cX,T',⟨fz,⟨(F7 gP).trans z1,z2⟩,(F7 (by omega)).trans z3⟩,z4,z5⟩,λ c cw _=>hV c cw⟩
   intro q' mg u' y' jX b' o' cE;rw [H2 cF] at cE ⊢;rw [qc];have td:b<(VH w.heap ι i e).size:=Nat.lt_of_lt_of_le di wI;refine Vb g2 eh (l5 (hV _ (Ne.symm bD)) _ _) (λ c hc=>hV c ?_) hg g3 ?_ mg jX cE
   ·rintro rfl
    exact (List.nodup_append.1 cp).2.2 c hc c dC rfl
   ·have sY:d9 (VH w.heap ι i e) b off 1=[.slice (some ⟨b1,o1,none⟩) l.length cap]:=by
     rw [l5 (F7 di),eX,f1]
    intro q2 rQ u2 y2 sI b2 off2 lC;exact c0f (H':=VH w'.heap ι i e) g4 (λ c hc=>Nat.lt_of_lt_of_le (fS c (dv c hc)).2 wI) mn td fm sY f3 tj rQ sI lC
 refine ⟨v',w',aP,tu,aM,O',n3,q2,q3,?_,?_⟩
 ·intro hb
  rcases (q5 b hb).1 with h1|h1
  ·omega
  ·rcases List.mem_append.1 h1 with h1|h1
   ·exact fm h1
   ·obtain ⟨j,e',j1,j2,j3⟩:=k4 b h1
    exact h.hs.dj i j e e' he j2 (by rintro rfl; exact ee j1) b m4 j3
 ·intro c hc
  obtain ⟨f1,f2⟩:=q5 c hc;have fact:(¬ S c/\(B.w0.heap.size<=c\/B.M c)/\c<w'.heap.size)/\(∀ j ej,j≠i->j∉g->look j s.hp=some ej->c∉l6 ι j ej)/\(c∈l6 ι i e->c∈Op):=by
   rcases f1 with f1|f1
   ·exact ⟨⟨λ hs=>by have:=h.hs.slt c hs; omega,.inl (Nat.le_trans h.hs.size f1),f2⟩,λ j ej _ _ hj cw=>by have:=(h.hs.bl j ej hj c cw).2.2; omega,λ cw=>by have:=(fS c cw).2; omega⟩
   ·rcases List.mem_append.1 f1 with f1|f1
    ·have:=lj c f1
     exact ⟨⟨this.1,this.2.1,f2⟩,λ j ej hj _ df=>h.hs.dj i j e ej he df (Ne.symm hj) c (dv c f1),λ _=>f1⟩
    ·have:=lH c f1
     obtain ⟨j0,e0,j1,j2,j3⟩:=k4 c f1;exact ⟨⟨this.1,this.2.1,f2⟩,λ j ej _ fP df=>h.hs.dj j0 j e0 ej j2 df (by rintro rfl; exact fP j1) c j3,λ cw=>absurd cw (h.hs.dj j0 i e0 e j2 he (by rintro rfl; exact ee j1) c j3)⟩
  exact ⟨fact.1,fact.2.1,λ cw=>⟨Op,by rw [bJ]; exact q6,fact.2.2 cw⟩⟩
theorem BX {e:g9} {p:List Step} {r:Sigma Ty.den} (h:zv e p r=true):AS e e/\((∃ t x,e=.var t x)\/∃ t x j q,e=.own (.d0 true t) x/\p=.idx j::q):=by
 unfold zv at h;split at h
 ·exact ⟨.inl ⟨_,_,_,rfl,rfl⟩,.inl ⟨_,_,rfl⟩⟩
 ·split at h
  ·exact ⟨.inr (.inl ⟨_,_,_,rfl,rfl⟩),.inr ⟨_,_,_,_,rfl,rfl⟩⟩
  ·cases h
 ·cases h
theorem Z1 {a:Act} {t d:Nat} {v:Value} (h:t≠d):(a.put (some d) v).eval (.tmp t)=a.eval (.tmp t):=by
 show (a.tmps.setIfInBounds d v).getD t undef=a.tmps.getD t undef;simp only [Array.getD_eq_getD_getElem?,Array.getElem?_setIfInBounds,if_neg (Ne.symm h)]
theorem JB {a:Act} {d:Nat} {v:Value} (h:d<a.tmps.size):(a.put (some d) v).eval (.tmp d)=v:=by
 show (a.tmps.setIfInBounds d v).getD d undef=v;simp only [Array.getD_eq_getD_getElem?,Array.getElem?_setIfInBounds,if_pos h]; rfl
theorem Sc (hE:C8 E B) (h:RS B S ι s a w) {g:List Nat} (dL:(g.all λ i=>!pinned i)=true) {i:Nat} (ee:i∉g) {e:g9} (he:look i s.hp=some e) {p:List Step} (aM:w9 e.ty e.x p) {t0:Ty} {l m:List t0.den} (hg:j9 e.ty e.x p=some ⟨.d0 true t0,l⟩) {b off:Nat} {v':Value}
  (hP:yk B S ι s.hp g i e p t0 l m b off v' w) {o:Oper} {T:TypeId} {ad:Operand} {d:Nat} (ho:o.op=.store T ad (.tmp d)) (ld:a.eval ad=.pointer (some ⟨b,off,none⟩)) (hv:a.eval (.tmp d)=v') (bB:I6 E T (.d0 true t0)=true)
  {r:Sigma Ty.den} (aK:s8 e.ty e.x p (.d0 true t0) (l++m)=some r):y7 E.P B o a w (.raw undef) (((St.w7 g s).kill i e.kd p).w6 i (e.D9 r)):=by
 obtain ⟨O',hl,k5,k6,k7,k8⟩:=hP;have hd:=h.w7 (g:=g) dL;have jo:look i (St.w7 g s).hp=some e:=by rw [J0,if_neg ee]; exact he
 refine Ab hE hd ho (i:=i) (e:=e) jo aM hl ld hg bB (u':=.d0 true _) (O2:=O') (cs:=[v']) k5 k6 (by rw [hv]; rfl) aK (λ c hc=>?_) k7;obtain ⟨f1,f2,f3⟩:=k8 c hc;refine ⟨f1,λ j ej hj df=>?_,f3⟩;rw [J0] at df;split at df
 ·cases df
 ·rename_i fP; exact f2 j ej hj fP df
theorem XW (hE:C8 E B) (h:RS B S ι s a w) {o:Oper} {c:Call} (ho:o.op=.call c) (hc:c.callee=.builtin .append) {x y:Operand} {T U:TypeId} (ha:c.args.toList=[x,y]) (eV:c.argTypes.toList=[T,U])
  {o2:Oper} {T2:TypeId} {adv:AV} {ad:Operand} {d:Nat} (_ho2:o2.op=.store T2 ad (.tmp d)) {p:Prop} {s2:St} (hb:xD E T U T2 (s.ev x) (s.ev y) adv d s=some (p,s2)) (hp:p) :
  ∃ i p0 e t0 l m g r v' w',s.ev x=.at_ i p0/\adv=.ptr i p0/\look i s.hp=some e/\i∉g/\(g.all λ i=>!pinned i)=true/\j9 e.ty e.x p0=some ⟨.d0 true t0,l⟩/\I6 E T2 (.d0 true t0)=true /\
   s8 e.ty e.x p0 (.d0 true t0) (l++m)=some r/\s2=(((St.w7 g (s.put (some d) .any)).kill i e.kd p0).w6 i (e.D9 r)) /\
   (execOp a.eval o).run E.P w=.ok (.value v') w'/\RS B S ι s a w'/\w9 e.ty e.x p0/\∀ b off,Loc w.heap ι i e p0=some (b,off)->yk B S ι s.hp g i e p0 t0 l m b off v' w':=by
 unfold xD at hb;split at hb
 ·rename_i i p0 j q q1 t0 bts u1 bts1 hx hT hU
  split at hb
  ·rename_i e aS jq
   simp only [Bool.and_eq_true] at jq;obtain ⟨bO,jq⟩:=jq;have bO:=Nat.eq_of_beq_eq_true bO;subst bO;split at hb
   ·rename_i u l hg
    split at hb
    ·rename_i t m g cn
     split at hb
     ·rename_i hu
      split at hb
      ·rename_i ht
       subst hu; subst ht;split at hb
       ·rename_i r aK
        split at hb
        ·rename_i bB
         cases hb;simp only [Bool.and_eq_true,Bool.not_eq_true'] at bB;obtain ⟨⟨⟨⟨bB,bL⟩,ee⟩,hY⟩,dL⟩:=bB;obtain ⟨rfl,iN,gN⟩:=hp;obtain ⟨_,jU⟩:=BX bL;have ee:i∉g:=by intro hm; simp [hm] at ee
         have hk:(∃ e',E.P.underlying U=some (.slice e'))\/E.P.underlying U=some .string:=by
          cases u1<;>first|cases jq|skip
          ·exact .inr (W6 (p9 hE hU))
          ·obtain ⟨et,k',f1,_⟩:=F8 (p9 hE hU)
           exact .inl ⟨et,f1⟩
         have aS:look i s.hp=some e:=aS;have key:∀ b off,Loc w.heap ι i e q=some (b,off)->∃ v' w',(execOp a.eval o).run E.P w=.ok (.value v') w'/\RS B S ι s a w'/\w9 e.ty e.x q/\yk B S ι s.hp g i e q _ l m b off v' w' :=
          λ b off hl=>Ss hE h ho hc ha eV hk hT hx aS jU hg hl cn ee (Cj hY) iN gN
         obtain ⟨e2,u,y2,cs,r1,aM,r3,r4,r5⟩:=C2 h hx;rw [aS] at r1; cases r1;obtain ⟨b,off,hl⟩:=BA (h.hs.ob i e aS) h.hs.slt (BX bL).2 aM hg;obtain ⟨v',w',k1,k2,k3,k4⟩:=key b off hl;exact ⟨i,q,e,_,l,m,g,r,v',w',hx,rfl,aS,ee,dL,hg,bB,aK,rfl,k1,k2,k3,λ b' ar ep=>by rw [hl] at ep; cases ep; exact k4⟩
        ·cases hb
       ·cases hb
      ·cases hb
     ·cases hb
    ·cases hb
   ·cases hb
  ·cases hb
 ·cases hb
theorem c1U (hE:C8 E B) (h:RS B S ι s a w) {o:Oper} {c:Call} (ho:o.op=.call c) (hc:c.callee=.builtin .append) {x y:Operand} {T U:TypeId} (ha:c.args.toList=[x,y]) (eV:c.argTypes.toList=[T,U])
  {o2:Oper} {T2:TypeId} {ad:Operand} {d:Nat} (hd:G3 B.n (some d)=true) (iA:o2.op=.store T2 ad (.tmp d)) (ld:∀ t,ad=.tmp t->t≠d) {p:Prop} {s2:St} (hb:xD E T U T2 (s.ev x) (s.ev y) (s.ev ad) d s=some (p,s2)) (hp:p) :
  ∃ v' w',(execOp a.eval o).run E.P w=.ok (.value v') w'/\y7 E.P B o2 (a.put (some d) v') w' (.raw undef) s2:=by
 obtain ⟨i,p0,e,t0,l,m,g,r,v',w',hx,pZ,aS,ee,dL,hg,bB,aK,rfl,k1,k2,k3,k4⟩:=XW hE h ho hc ha eV iA hb hp;refine ⟨v',w',k1,?_⟩;obtain ⟨e',b,off,h1,h2,h3,h4⟩:=C2 h pZ;rw [aS] at h1; cases h1;have iu:=k2.put hd (v:=.any) (val:=v') ⟨v',rfl⟩;have kZ:(a.put (some d) v').eval ad=.pointer (some ⟨b,off,none⟩):=by
  have tS:a.eval ad=.pointer (some ⟨b,off,none⟩):=by simpa using h4
  rw [<- tS];cases ad with
  | tmp t=>exact Z1 (ld t rfl)
  | _=>rfl
 have dz:(a.put (some d) v').eval (.tmp d)=v':=JB (by rw [h.sz]; simpa [G3,Nat.blt_eq] using hd);exact Sc hE iu (g:=g) dL ee (e:=e) (by simpa [St.put] using aS) h2 hg (k4 b off h3) iA kZ dz bB aK
theorem OC {o:Oper} (ho:zJ o.op=true) {a a':Act} (h:∀ t∈AZ o,a'.eval (.tmp t)=a.eval (.tmp t)):execOp a'.eval o=execOp a.eval o:=by
 have cv:∀ x∈o.op.operands.toList,a'.eval x=a.eval x:=by
  intro x hx;cases x with
  | tmp t=>exact h t (List.mem_filterMap.2 ⟨.tmp t,hx,rfl⟩)
  | _=>rfl
 unfold zJ at ho;split at ho
 ·rename_i e; rw [e] at cv; simp [Op.operands] at cv; simp [execOp,e,cv]
 ·rename_i e; rw [e] at cv; simp [Op.operands] at cv; simp [execOp,e,cv]
 ·rename_i e; rw [e] at cv; simp [Op.operands] at cv; simp [execOp,e,cv]
 ·cases ho
theorem QN {a:Act} {d e:Nat} {v u:Value} (h:d≠e):(a.put (some d) v).put (some e) u=(a.put (some e) u).put (some d) v:=by
 simp only [Act.put];congr 1;apply Array.ext_getElem?;intro i;simp only [Array.getElem?_setIfInBounds,Array.size_setIfInBounds];by_cases h1:e=i
 ·subst h1; simp [h]
 ·simp [h1]
theorem SV (hE:C8 E B) (hn:B.n=E.nt) {ops:Array Oper} {Q:Exit->Act->World->Prop} {oa:Oper} {c:Call} (ho:oa.op=.call c) (hc:c.callee=.builtin .append) {x y:Operand} {T U:TypeId} (ha:c.args.toList=[x,y]) (eV:c.argTypes.toList=[T,U])
  {d:Nat} (hd:G3 B.n (some d)=true):∀ {l:List Oper} {S:Nat->Prop} {ι:Ix} {s:St} {a:Act} {w:World} {p:Prop} {s2:St} {n:Nat},RS B S ι s a w->Dw E T U x y d l s=some (p,s2,n)->p ->
  ∃ v' w',(execOp a.eval oa).run E.P w=.ok (.value v') w'/\((∀ S' ι' a' w'',RS B S' ι' s2 a' w''->wpList E.P ops Q (l.drop n) a' w'')->wpList E.P ops Q l (a.put (some d) v') w')
 | [],S,ι,s,a,w,p,s2,n,_,hf,_=>by cases hf
 | o::rest,S,ι,s,a,w,p,s2,n,h,hf,hp=>by
  have aH:c.args=#[x,y]:=by rw [<- ha]
  have ew:c.argTypes=#[T,U]:=by rw [<- eV]
  unfold Dw at hf;split at hf
  ·rename_i hg gy
   split at hf
   ·rename_i mJ
    split at hf
    ·rename_i d1 ga
     split at hf
     ·rename_i p1 v bU hv
      split at hf
      ·rename_i p2 s3 n2 kt
       cases hf;simp only [Bool.and_eq_true,Bool.not_eq_true'] at bU;obtain ⟨⟨⟨c1,c2⟩,c3⟩,c4⟩:=bU;have bE:d1≠d:=by rintro rfl; simp at c1
       have dQ:=BG hE h mJ;have dz:Ba E.P S ι o a w s v:=by
        split at hv
        ·cases hv
        ·rename_i v0 s0 e0; cases hv; rw [e0] at dQ; exact dQ.2
        ·rename_i q0 v0 s0 e0; cases hv; rw [e0] at dQ; exact (dQ hp.1).2
       obtain ⟨val,aP,dq⟩:=dz;rw [ga] at gy;have cm:=h.put (d:=some d1) (by rw [hn]; exact gy) dq;obtain ⟨v',w',g1,g2⟩:=SV hE hn ho hc ha eV hd (ops:=ops) (Q:=Q) cm kt hp.2;have ex:(a.put (some d1) val).eval x=a.eval x:=by
        cases x with
        | tmp t=>exact Z1 (by rintro rfl; simp at c3)
        | _=>rfl
       have ey:(a.put (some d1) val).eval y=a.eval y:=by
        cases y with
        | tmp t=>exact Z1 (by rintro rfl; simp at c4)
        | _=>rfl
       refine ⟨v',w',?_,λ hk=>?_⟩
       ·rw [<- g1]; simp [execOp,ho,resolve,hc,invoke,builtin,aH,ew,ex,ey]
       ·unfold wpList
        simp only [Region.wanted,hg,if_true];refine .inl ?_;unfold Oper.wp;have lV:(execOp (a.put (some d) v').eval o).run E.P w'=.ok (.value val) w':=by
         have rU:∀ t∈AZ o,(a.put (some d) v').eval (.tmp t)=a.eval (.tmp t):=by
          intro t ht;refine Z1 (λ e=>?_);rw [e] at ht;have h5:(AZ o).contains d=true:=by simpa using ht
          rw [h5] at c2; cases c2
         rw [OC mJ rU]; exact aP w'
        rw [lV];show wpList E.P ops Q rest ((a.put (some d) v').put o.dst val) w';rw [ga,QN (Ne.symm bE)];exact g2 hk
      ·cases hf
     ·cases hf
    ·cases hf
   ·split at hf
    ·rename_i T2 ad d' iA
     split at hf
     ·rename_i bU
      split at hf
      ·rename_i p1 s3 cn
       cases hf;simp only [Bool.and_eq_true] at bU;obtain ⟨c1,c2⟩:=bU;obtain rfl:=Nat.eq_of_beq_eq_true c1;obtain ⟨v',w',g1,g2⟩:=c1U hE h ho hc ha eV hd iA (λ t e=>by subst e; rintro rfl; simp at c2) cn hp;refine ⟨v',w',g1,λ hk=>?_⟩;unfold wpList;simp only [Region.wanted,hg,if_true];refine .inl (g2 _ _ (λ S' ι' w2 val h1 h2=>?_));exact hk S' ι' _ w2 (h1.put (by rw [hn]; exact gy) h2)
      ·cases hf
     ·cases hf
    ·cases hf
  ·cases hf
theorem c0e {e:g9} {p:List Step} {r:Sigma Ty.den} (h:zv e p r=true):AS e (e.D9 r):=by
 unfold zv at h;obtain ⟨r1,r2⟩:=r;split at h
 ·rename_i t x
  obtain rfl:r1=t:=of_decide_eq_true h;exact .inl ⟨r1,x,r2,rfl,rfl⟩
 ·rename_i t x
  split at h
  ·obtain rfl:r1=.d0 true t:=of_decide_eq_true h
   exact .inr (.inl ⟨t,x,r2,rfl,rfl⟩)
  ·cases h
 ·cases h
theorem OB.swap {H H1 H':Array Go.Obj} {i:Nat} {e:g9} (ho:OB H S ι i e) (bN:∀ c∈l6 ι i e,¬ S c/\c<H.size) (hS:∀ c,S c->c<H.size) {p:List Step} (hk:(∃ t x,e=.var t x)\/∃ t x j q,e=.own (.d0 true t) x/\p=.idx j::q) (aM:w9 e.ty e.x p) {u:Ty} {y:u.den} (hg:j9 e.ty e.x p=some ⟨u,y⟩)
  {b off:Nat} (hl:Loc H ι i e p=some (b,off)) (aW:H.size<=H1.size) {Op:List Nat} (gD:i6 H S u Op (d9 H b off u.size) y) (hH:∀ c,c<H.size->c∉Op->H1[c]?=H[c]?) (hc:V6 H1 H' b off u.size) (je:H'.size=H1.size)
  {u':Ty} {z:u'.den} {O2:List Nat} (hz:i6 H' S u' O2 (d9 H' b off u'.size) z) (eP:∀ c∈O2,c<H'.size/\(c<H.size->c∈Op)) (cW:O2.Nodup) {r:Sigma Ty.den} (aK:s8 e.ty e.x p u' z=some r) :
  ∃ O,(∀ c∈O,c∈ι.own i\/c∈O2)/\OB H' S (ι.C6 i O) i (e.D9 r):=by
 have he:e≠.K6:=K2 hl;have fm:=ho.yN he hS aM hg hl gD;obtain ⟨Om,m1,mn,m2,m3,m4,m5⟩:=M6 he ho hS aM hg hl;obtain ⟨O,hO,hR,hb,aJ,bc,fW,dR⟩:=ho.see he hS;obtain ⟨O1,O3,b',ar,e1,e2,e3,e4,e5,e6⟩:=focus hR hb aM hg
 obtain ⟨bW,di⟩:=C4 hl;rw [H2 he] at bW;rw [e3] at bW; cases bW;have cp:(O1++O3).Nodup:=(e1.nodup_iff).1 ((hO.nodup_iff).2 (List.nodup_cons.1 aJ).2);have bm:∀ c∈O1,c∈ι.own i:=λ c hc=>hO.mem_iff.1 (e1.mem_iff.2 (by simp [hc]));have cJ:∀ c∈O3,c∈ι.own i:=λ c hc=>hO.mem_iff.1 (e1.mem_iff.2 (by simp [hc]));have bD:=(List.nodup_cons.1 aJ).1;have dd:∀ c∈ι.own i,c∈l6 ι i e:=by intro c hc; cases e<;>simp [l6,hc]
 have e4':i6 H S u O3 (d9 H b off u.size) y:=by
  rw [l5 (F7 di)] at e4;exact (vI (λ c hc=>ho.T4 he (cJ c hc)) hS).1 e4
 obtain rfl:Op=O3:=gD.det e4';have eU:∀ c∈O1,c<H.size:=λ c hc=>ho.T4 he (bm c hc);have dK:∀ c,(c=(VR H ι i e).1/\c<H.size)\/c∈O1\/S c->H1[c]?=H[c]?:=by
  rintro c (⟨rfl,h1⟩|h1|h1)
  ·exact hH _ h1 (λ h=>bD (cJ _ h))
  ·exact hH c (eU c h1) (λ h=>(List.nodup_append.1 cp).2.2 c h1 c h rfl)
  ·exact hH c (hS c h1) (λ h=>(bN c (dd c (cJ c h))).1 h1)
 have jG:(∃ t x,e=.var t x)->(VR H ι i e).1<H.size:=by rintro ⟨t,x,rfl⟩; exact bc
 obtain ⟨n1,n2⟩:=u7.move (H':=H1) hk e2 eU hS aW dK jG;have cQ:(VR H1 ι i e).2+e.ty.size<=(w4 (VH H1 ι i e) (VR H1 ι i e).1).length/\(VR H1 ι i e).1<(VH H1 ι i e).size/\¬ S (VR H1 ι i e).1/\(VR H1 ι i e).1∉O1:=by
  rcases hk with ⟨t,x,rfl⟩|⟨t,x,j,q,rfl,rfl⟩
  ·have hr:=jG ⟨_,_,rfl⟩
   refine ⟨?_,Nat.lt_of_lt_of_le hr aW,(bN _ (by simp [l6,VR])).1,λ h=>bD (bm _ h)⟩;have:=O5 (dK _ (.inl ⟨rfl,hr⟩));show (VR H ι i (.var t x)).2+_<=(w4 H1 (VR H ι i (.var t x)).1).length;rw [this]; exact hb
  ·refine ⟨?_,by simp [VH,VR,Bp],λ h=>by have:=hS _ h; simp only [VR] at this; omega,λ h=>by have:=eU _ h; simp only [VR] at this; omega⟩
   simp only [VH,VR,vU] at hb ⊢; exact hb
 have pn:∀ c∈O2,c<H'.size:=λ c hc=>(eP c hc).1;have ra:∀ c,S c->c<H'.size:=λ c hc=>by have:=hS c hc; omega
 have ie:i6 (VH H' ι i e) S u' O2 (d9 (VH H' ι i e) b off u'.size) z:=by
  rw [l5 (F7 (by omega))];exact (vI pn ra).2 hz
 obtain ⟨O4,f1,f2,f3⟩:=Bi n1 hg (n2.trans e3) cQ.1 cQ.2.1 (List.nodup_append.1 cp).1 cQ.2.2.2 (λ c hc=>⟨(bN c (dd c (bm c hc))).1,Nat.lt_of_lt_of_le (eU c hc) (Nat.le_trans aW wI)⟩) cQ.2.2.1
  (λ c hc=>Nat.lt_of_lt_of_le (hS c hc) (Nat.le_trans aW wI)) (λ _ h=>h) (Bb hc je) ie aK
 have gS:O4.Nodup:=(f1.nodup_iff).2 (List.nodup_append.2 ⟨(List.nodup_append.1 cp).1,cW,by
  rintro c h1 d h2 rfl;exact (List.nodup_append.1 cp).2.2 c h1 c ((eP c h2).2 (eU c h1)) rfl⟩)
 have bQ:∀ c∈O4,c∈ι.own i\/c∈O2:=by
  intro c hc;rcases List.mem_append.1 (f1.mem_iff.1 hc) with h|h
  ·exact .inl (bm c h)
  ·exact .inr h
 have kF:∀ c∈O4,c<H'.size:=by
  intro c hc;rcases bQ c hc with h|h
  ·have:=ho.T4 he h; omega
  ·exact (eP c h).1
 have f2':=(vI kF ra).1 f2;refine ⟨O4,bQ,?_⟩;cases e with
 | var t x =>
  simp only [g9.D9,OB,Ix.C6,if_true];obtain ⟨_,hf,_⟩:=ho;refine ⟨⟨O4,List.Perm.refl _,f2'⟩,?_,?_⟩
  ·rw [F4 f3]; exact hc.free (hf.s9 (dK _ (.inl ⟨rfl,jG ⟨_,_,rfl⟩⟩)))
  ·refine List.nodup_cons.2 ⟨λ h=>?_,gS⟩
   rcases bQ _ h with h1|h1
   ·exact bD h1
   ·exact bD (cJ _ ((eP _ h1).2 (jG ⟨_,_,rfl⟩)))
 | own t x =>
  simp only [g9.D9,OB,Ix.C6,if_true];refine ⟨⟨O4,List.Perm.refl _,?_⟩,gS⟩;obtain ⟨⟨O',_,fA⟩,_⟩:=ho;have fG:r.1.size=t.size:=F4 f3;have:d9 (VH H' ι i (.own t x)) (VR H1 ι i (.own t x)).1 (VR H1 ι i (.own t x)).2 r.1.size=ι.cells i:=by
   simp only [VH,VR];rw [<- je];simp only [d9,vU,List.drop_zero];exact List.take_of_length_le (by rw [fA.length,fG]; exact Nat.le_refl _)
  rw [this] at f2';exact f2'
 | K6=>exact absurd rfl he
def wo (P:Program) (o:Oper) (a:Act) (w:World) (R:Value->World->Prop):Prop :=
 ∃ g vs,(execOp a.eval o).run P w=.ok (.enter g vs) w/\Calls P g vs w (λ e w'=>∃ v,e=.returned v/\R v w')
theorem wo.wp {P:Program} {o:Oper} {R:Value->World->Prop} (h:wo P o a w R) {next:Act->World->Prop} {Q:Exit->Act->World->Prop} (hn:∀ v w',R v w'->next (a.put o.dst v) w'):o.wp P a w next Q:=by
 obtain ⟨g,vs,h1,h2⟩:=h;unfold Oper.wp;rw [h1];refine Calls.mono h2 ?_;rintro e w' ⟨v,rfl,hr⟩;exact hn v w' hr
theorem wo.mono {P:Program} {o:Oper} {R R':Value->World->Prop} (h:wo P o a w R) (hr:∀ v w',R v w'->R' v w'):wo P o a w R':=by
 obtain ⟨g,vs,h1,h2⟩:=h;exact ⟨g,vs,h1,h2.mono (λ e w' ⟨v,e1,k⟩=>⟨v,e1,hr v w' k⟩)⟩
theorem over_self {cur:List Value} {off n:Nat} (h:off+n<=cur.length):over cur off ((cur.drop off).take n)=cur:=by
 rw [over,List.length_take,List.length_drop,Nat.min_eq_left (by omega),List.append_assoc]
 conv=>rhs; rw [<- List.take_append_drop off cur,<- List.take_append_drop n (cur.drop off)]
 rw [List.drop_drop]
theorem XY (h:RS B S ι s a w) {i:Nat} {e:g9} (aS:look i s.hp=some e) {p:List Step} (aM:w9 e.ty e.x p) {t:Ty} {l:(Ty.d0 true t).den} (hg:j9 e.ty e.x p=some ⟨.d0 true t,l⟩) {b off:Nat} (hl:Loc w.heap ι i e p=some (b,off))
  {Op:List Nat} (gD:i6 w.heap S (.d0 true t) Op (d9 w.heap b off (Ty.d0 true t).size) l) (ki:∀ c∈Op,c∈ι.own i) {ks:List PK} {ys:List Operand} {y:DK ks} (hy:Aw s ks i e p t ys=some (y,[],[])) :
  ∃ S1:Nat->Prop,(∀ b,S b->S1 b)/\(∀ b,S1 b->b<w.heap.size)/\(∀ c∈Op,¬ S1 c)/\T9 w.heap S1 ks (ys.map a.eval) y []:=by
 have dv:∀ c∈Op,c∈l6 ι i e:=λ c hc=>I0 (ki c hc);have fin:∀ {ι':Ix} {s0:St},RS B S ι' s0 a w->AV.uP s0 ks (s0.J6 ys)=some (y,[],[])->(∀ j ej,j∈S3.loose ks (s0.J6 ys)->look j s0.hp=some ej->∀ c∈Op,c∉l6 ι' j ej)->∃ S1:Nat->Prop,(∀ b,S b->S1 b)/\(∀ b,S1 b->b<w.heap.size)/\(∀ c∈Op,¬ S1 c)/\T9 w.heap S1 ks (ys.map a.eval) y []:=by
  intro ι' s0 h0 rm hd
  let S1:Nat->Prop:=λ b=>S b\/M5 ι' s0.hp (S3.loose ks (s0.J6 ys)) b
  obtain ⟨L2,qo,_,ql,_⟩:=IT (S1:=S1) h0.hs (λ b hb=>.inl hb) rm (h0.J6 ys) (by simp) (λ b hb=>.inr hb);have qm:L2=[]:=by
   rw [List.eq_nil_iff_forall_not_mem];intro b hb;obtain ⟨i,e,h1,_⟩:=ql b hb;cases h1
  subst qm;refine ⟨S1,λ _ h=>.inl h,?_,?_,qo⟩
  ·rintro b (hb|⟨j,ej,h1,h2,h3⟩)
   ·exact h0.hs.slt b hb
   ·exact (h0.hs.bl j ej h2 b h3).2.2
  ·rintro c hc (hs|⟨j,ej,r1,r2,r3⟩)
   ·exact (h.hs.bl i e aS c (dv c hc)).1 hs
   ·exact hd j ej r1 r2 c hc r3
 unfold Aw at hy;split at hy
 ·rename_i ml
  have ml:i∉S3.loose ks (s.J6 ys):=by intro hm; simp [hm] at ml
  exact fin h hy (λ j ej r1 r2 c hc r3=>h.hs.dj i j e ej aS r2 (by rintro rfl; exact ml r1) c (dv c hc) r3)
 ·split at hy
  ·rename_i u x
   split at hy
   ·rename_i r aK
    have cC:∃ c0,d9 w.heap b off (Ty.d0 true t).size=[c0]/\CI c0=true:=by
     rcases gD with ⟨_,⟨a1,c1,e1,_⟩,_⟩|⟨b1,o1,cap1,O1,e1,_⟩
     ·exact ⟨_,e1,rfl⟩
     ·exact ⟨_,e1,rfl⟩
    obtain ⟨c0,eL,lr⟩:=cC;obtain ⟨ι',⟨O,rfl,hO⟩,h0⟩:=h.Ds aS aM hg hl (u':=.hole t) (z:=([]:List t.den)) (cs:=[c0]) (O2:=[]) (λ H' _ _=>⟨rfl,c0,rfl,lr⟩) rfl List.nodup_nil (by simp) aK (by intro h; cases h);have hw:w.setRow b (over (w4 w.heap b) off [c0]).toArray=w:=by
     obtain ⟨O2,m1,m2,m3,m4,m5,arr,T,⟨fz,e1,_⟩,hn⟩:=M6 (K2 hl) (h.hs.ob i _ aS) h.hs.slt aM hg hl;have hb:w4 w.heap b=arr.toList:=by simp only [w4,e1]
     have:over (w4 w.heap b) off [c0]=w4 w.heap b:=by
      rw [<- eL]; exact over_self m4
     rw [this,hb]; exact setRow_self w b arr T fz (by simpa using e1)
    rw [hw] at h0;refine fin h0 hy (λ j ej r1 r2 c hc r3=>?_);simp only [St.w6,o6] at r2;by_cases hj:j=i
    ·subst hj
     rw [if_pos rfl] at r2; cases r2;have r3:c∈(ι.root j).1::(ι.C6 j O).own j:=r3;simp only [Ix.C6,if_true] at r3;refine (List.mem_cons.1 r3).elim (λ g3=>?_) (λ g3=>?_)
     ·obtain ⟨_,_,aJ⟩:=h.hs.ob j _ aS
      exact (List.nodup_cons.1 aJ).1 (g3▸ki c hc)
     ·rcases (hO c g3).2 with h9|h9
      ·cases h9
      ·exact h9 Op gD hc
    ·rw [if_neg hj] at r2
     rw [(W2 hj O).l6] at r3;exact h.hs.dj i j _ ej aS r2 (Ne.symm hj) c (dv c hc) r3
   ·cases hy
  ·cases hy
theorem XX {i:Nat} {e:g9} {p:List Step} {t:Ty} {ks:List PK} {ys:List Operand} {r:DK ks×List Nat×List Nat} (hy:Aw s ks i e p t ys=some r):ks.any PK.lnk=false:=by
 unfold Aw at hy;split at hy
 ·exact Bu hy
 ·split at hy
  ·split at hy
   ·exact Bu hy
   ·cases hy
  ·cases hy
theorem b8v (hE:C8 E B) (h:RS B S ι s a w) {o:Oper} {c:Call} (ho:o.op=.call c) {g:FuncId} (hf:c.callee=.value (.func g)) {x:Operand} {ys:List Operand} (ha:c.args.toList=x::ys)
  {o2:Oper} {T2:TypeId} {ad:Operand} {d:Nat} (hd:G3 B.n (some d)=true) (iA:o2.op=.store T2 ad (.tmp d)) (ld:∀ t,ad=.tmp t->t≠d) {p:Prop} {s2:St} (hb:Gr E T2 g (s.ev x) ys (s.ev ad) d s=some (p,s2)) (hp:p) :
  wo E.P o a w (λ v' w'=>y7 E.P B o2 (a.put (some d) v') w' (.raw undef) s2):=by
 unfold Gr at hb;split at hb
 ·rename_i t ks t' pre fn out nw i p0 j q nN hx kZ
  split at hb
  ·rename_i e aS bU
   simp only [Bool.and_eq_true] at bU;obtain ⟨⟨⟨bO,kl⟩,oV⟩,pR⟩:=bU;have bO:=Nat.eq_of_beq_eq_true bO;subst bO;have kl:E4 ks=[]:=by
    revert kl;cases E4 ks with
    | nil=>intro _; rfl
    | cons a b=>intro h; cases h
   split at hb
   ·rename_i u l y hg hy
    split at hb
    ·rename_i hu
     subst hu;split at hb
     ·rename_i r aK
      split at hb
      ·rename_i fk
       cases hb;simp only [Bool.and_eq_true] at fk;obtain ⟨bB,bL⟩:=fk;obtain ⟨rfl,aZ⟩:=hp;have aS:look i s.hp=some e:=aS;have cF:e≠.K6:=by rcases (BX bL).2 with ⟨_,_,rfl⟩|⟨_,_,_,_,rfl,_⟩<;>(intro h; cases h)
       have jU:=(BX bL).2;obtain ⟨e1,u1,y1,cs,r1,aM,r3,hcs,r5⟩:=C2 h hx;rw [aS] at r1; cases r1;rw [hg] at r3; cases r3;have dz:a.eval x=p7 (.d0 true t) cs:=by simpa using r5
       obtain ⟨Op,m1,mn,kh⟩:=G1 h.hs aS aM hg hcs;obtain ⟨e2,b,off,z1,z2,hl,z4⟩:=C2 h kZ;rw [aS] at z1; cases z1;have z4:a.eval ad=.pointer (some ⟨b,off,none⟩):=by simpa using z4
       have hV:=hE.C5 g _ nN;obtain ⟨fnn,ju,fM,gO⟩:=hV.ent;have gW:i6 w.heap S (.d0 true t) Op (d9 w.heap b off (Ty.d0 true t).size) l:=by
        have bW:=C4 hl;obtain ⟨b9,o9,k1,k2⟩:=id hcs;rw [bW.1] at k1; cases k1;rw [k2,l5 (F7 bW.2)] at kh;exact kh
       obtain ⟨S1,lh,gi,qf,qo⟩:=XY h aS aM hg hl gW m1 hy;have dv:∀ c∈Op,c∈l6 ι i e:=λ c hc=>I0 (m1 c hc);have nW:∀ b∈Op++[],¬ S1 b/\b<w.heap.size:=by
        intro b hb;have hb:b∈Op:=by simpa using hb
        exact ⟨qf b hb,(h.hs.bl i e aS b (dv b hb)).2.2⟩
       have iJ:=hV.run w S1 (a.eval x::ys.map a.eval) (V8 rfl l,y) (Op++[]) gi ((hE.gb.at_ h.hs).sub lh) aZ ⟨_,_,Op,[],rfl,rfl,⟨cs,dz,kh.s9 (λ _ _=>rfl) lh⟩,qo⟩ (Ck (by rw [List.any_cons,XX hy]; rfl)) (by simpa using mn) nW;refine ⟨g,(a.eval x::ys.map a.eval).toArray,?_,?_⟩
       ·have pb:fnn.body.isNone=false:=gO
        have hq:(fnn.name == "runtime.NumGoroutine")=false:=fM
        have aH:c.args.map a.eval=(a.eval x::ys.map a.eval).toArray:=by
         rw [<- Array.toList_inj,Array.toList_map,ha]; simp
        have da:a.eval (.func g)=.func (.func g) #[] #[]:=by simp [Act.eval]
        simp only [execOp,ho,resolve,hf,da,Deferred.ofValue,Sem.run_bind,Sem.run_pure,Result.andThen,invoke,callFunc,program];simp [Sem.run,ju,hq,pb];exact aH
       ·refine Calls.mono iJ ?_
        rintro en w' ⟨us,O,Lo,S',rfl,bj,iq,jg,eH,eI,aJ,hO⟩;obtain ⟨v',us',O1,O2,cs',rfl,rfl,fE,ng,rfl,rfl⟩:=eH;refine ⟨v',rfl,?_⟩;have lI:=W9 (show E4 (.own (.d0 true t)::ks)=[] from kl) eI;subst lI;have ng:=i6.J3 (S':=S) oV ng;have pa:O1.Nodup:=by simpa using aJ
        have cd:∀ c∈O1,(w.heap.size<=c\/c∈Op)/\c<w'.heap.size:=λ c hc=>by
         obtain ⟨_,q2,q3⟩:=hO c (by simp [hc]);exact ⟨by simpa using q2,q3⟩
        have bj:D3 Op w w':=by simpa using bj
        have bN:∀ c∈l6 ι i e,¬ S c/\c<w.heap.size:=λ c hc=>⟨(h.hs.bl i e aS c hc).1,(h.hs.bl i e aS c hc).2.2⟩;obtain ⟨Om,p1,p2,p3,p4,p5,p6⟩:=M6 cF (h.hs.ob i e aS) h.hs.slt aM hg hl;have tC:Om=Op:=by
         have bW:=C4 hl;obtain ⟨b9,o9,k1,k2⟩:=hcs;rw [bW.1] at k1; cases k1;rw [k2,l5 (F7 bW.2)] at kh;exact p3.det kh
        subst tC;have fm:=(h.hs.ob i e aS).yN cF h.hs.slt aM hg hl p3;have dI:=(bN b p5).2;have iF:N3 w'.heap b (off+(Ty.d0 true t).size):=p6.s9 (bj.frame b dI fm);intro next Q hn
        have iu:=h.put (d:=some d) hd (v:=.any) (val:=v') ⟨_,rfl⟩;have mX:(a.put (some d) v').eval ad=.pointer (some ⟨b,off,none⟩):=by
         rw [<- z4];cases ad with
         | tmp t9=>exact Z1 (ld t9 rfl)
         | _=>rfl
        have rB:(a.put (some d) v').eval (.tmp d)=v':=JB (by
         rw [h.sz]; simpa [G3,Nat.blt_eq] using hd)
        have pH:∃ c1,cs'=[c1]:=by
         have:=ng.length
         match cs',this with
         | [c1],_=>exact ⟨c1,rfl⟩
        obtain ⟨c1,rfl⟩:=pH;obtain rfl:c1=v':=fE.symm;have oC:(Ty.d0 true t').sh=(Ty.d0 true t).sh:=BZ hg aK;have aP:(execOp (a.put (some d) c1).eval o2).run E.P w'=.ok .skip (w'.setRow b (over (w4 w'.heap b) off [c1]).toArray):=by
         have rJ:(storeVar T2 ⟨b,off,none⟩ c1).run E.P w'=.ok () (w'.setRow b (over (w4 w'.heap b) off [c1]).toArray):=Lg (D0 hE pR) oC iF ng;simp [execOp,iA,mX,rB,Instr.storeAt,Instr.sureAddr,rJ]
        unfold Oper.wp;rw [aP];obtain ⟨fa,bJ⟩:=Et (w:=w') (b:=b) (off:=off) (cs:=[c1]) iF;have lO:(w'.setRow b (over (w4 w'.heap b) off [c1]).toArray).heap.size=w'.heap.size:=setRow_size;have hold:∀ c,c≠b->(w'.setRow b (over (w4 w'.heap b) off [c1]).toArray).heap[c]?=w'.heap[c]?:=λ c cw=>setRow_other cw;have jE:(w'.setRow b (over (w4 w'.heap b) off [c1]).toArray).os=w'.os/\V2 w' (w'.setRow b (over (w4 w'.heap b) off [c1]).toArray)/\(w'.setRow b (over (w4 w'.heap b) off [c1]).toArray).output=w'.output:=⟨rfl,.of rfl rfl,rfl⟩;generalize rA:w'.setRow b (over (w4 w'.heap b) off [c1]).toArray=w'' at *
        have pW:b∉O1:=λ dC=>by
         rcases (cd b dC).1 with q|q
         ·omega
         ·exact fm q
        have oe:i6 w''.heap S (.d0 true t') O1 (d9 w''.heap b off (Ty.d0 true t').size) (fn (V8 rfl l,y)).1:=by
         have:d9 w''.heap b off (Ty.d0 true t').size=[c1]:=bJ;rw [this];refine ng.s9 (λ c hc=>hold c ?_) (λ _ h=>h);rintro rfl;rcases hc with hc|hc
         ·exact pW hc
         ·exact (bN c p5).1 hc
        obtain ⟨O,n1,n2⟩:=OB.swap (h.hs.ob i e aS) bN h.hs.slt jU aM hg hl bj.size p3 (λ c hc hn=>bj.frame c hc hn) fa lO oe (λ c hc=>by
         obtain ⟨q1,q2⟩:=cd c hc;exact ⟨by omega,λ bc=>q1.resolve_left (by omega)⟩) pa aK
        have ky:D3 (l6 ι i e) w w'':=by
         refine ⟨jE.1.trans bj.os,jE.2.1.trans bj.tape,jE.2.2.trans bj.out,by rw [lO]; exact bj.size,λ c hc hn=>?_⟩;rw [hold c (by rintro rfl; exact hn p5)];exact bj.frame c hc (λ pS=>hn (dv c pS))
        have cm:=iu.renew (by simpa [St.put] using aS) (c0e bL) F2.nil (L:=l6 ι i e) ky (λ b hb=>.inl hb) (λ _ h=>h) (λ _ h=>.inl h) (O':=O) n2 (λ c hc=>by
         have cS:c∈l6 ι i e\/c∈O1:=by
          cases e with
          | var t9 x9 =>
           simp only [l6,g9.D9,Ix.C6,if_true,List.mem_cons] at hc ⊢;rcases hc with hc|hc
           ·exact .inl (.inl hc)
           ·exact (n1 c hc).imp .inr id
          | own t9 x9 =>
           simp only [l6,g9.D9,Ix.C6,if_true] at hc ⊢;exact n1 c hc
          | K6=>exact absurd rfl cF
         rcases cS with cS|cS
         ·exact ⟨(bN c cS).1,.inr cS,by have:=(bN c cS).2; have:=bj.size; omega⟩
         ·obtain ⟨q1,q2⟩:=cd c cS
          have gT:¬ S c:=by
           have:=(hO c (by simp [cS])).1;exact λ hs=>this (iq c (lh c hs))
          exact ⟨gT,q1.imp id (dv c),by omega⟩)
        exact hn S _ w'' undef cm rfl
      ·cases hb
     ·cases hb
    ·cases hb
   ·cases hb
  ·cases hb
 ·cases hb
theorem wo.put {P:Program} {o:Oper} {c:Call} (ho:o.op=.call c) {g:FuncId} (hf:c.callee=.value (.func g)) {d:Nat} {val:Value} (hd:∀ z∈c.args.toList,z≠.tmp d) {R:Value->World->Prop} (h:wo P o (a.put (some d) val) w R):wo P o a w R:=by
 obtain ⟨g',vs,h1,h2⟩:=h;refine ⟨g',vs,?_,h2⟩;rw [<- h1];have aH:c.args.map (a.put (some d) val).eval=c.args.map a.eval:=by
  apply Array.map_congr_left;intro z hz;cases z with
  | tmp t=>exact Z1 (λ e=>hd _ (by simpa using hz) (by rw [e]))
  | _=>rfl
 have da:(a.put (some d) val).eval (.func g)=a.eval (.func g):=rfl;simp only [execOp,ho,resolve,hf,da,aH]
theorem Tl (hE:C8 E B) (hn:B.n=E.nt) {ops:Array Oper} {Q:Exit->Act->World->Prop} {oa:Oper} {c:Call} (ho:oa.op=.call c) {g:FuncId} (hf:c.callee=.value (.func g)) {x:Operand} {ys:List Operand} (ha:c.args.toList=x::ys)
  {d:Nat} (hd:G3 B.n (some d)=true):∀ {l:List Oper} {S:Nat->Prop} {ι:Ix} {s:St} {a:Act} {w:World} {p:Prop} {s2:St} {n:Nat},RS B S ι s a w->DE E g x ys d l s=some (p,s2,n)->p->(∀ S' ι' a' w'',RS B S' ι' s2 a' w''->wpList E.P ops Q (l.drop n) a' w'') ->
  wo E.P oa a w (λ v' w'=>wpList E.P ops Q l (a.put (some d) v') w')
 | [],S,ι,s,a,w,p,s2,n,_,hb,_,_=>by cases hb
 | o::rest,S,ι,s,a,w,p,s2,n,h,hb,hp,hk=>by
  unfold DE at hb;split at hb
  ·rename_i hg gy
   split at hb
   ·rename_i mJ
    split at hb
    ·rename_i d1 ga
     split at hb
     ·rename_i p1 v bU hv
      split at hb
      ·rename_i p2 s3 n2 kt
       cases hb;simp only [Bool.and_eq_true,Bool.not_eq_true'] at bU;obtain ⟨⟨c1,c2⟩,c3⟩:=bU;have bE:d1≠d:=by rintro rfl; simp at c1
       have dQ:=BG hE h mJ;have dz:Ba E.P S ι o a w s v:=by
        split at hv
        ·cases hv
        ·rename_i v0 s0 e0; cases hv; rw [e0] at dQ; exact dQ.2
        ·rename_i q0 v0 s0 e0; cases hv; rw [e0] at dQ; exact (dQ hp.1).2
       obtain ⟨val,aP,dq⟩:=dz;rw [ga] at gy;have cm:=h.put (d:=some d1) (by rw [hn]; exact gy) dq;have lU:=Tl hE hn ho hf ha hd (ops:=ops) (Q:=Q) cm kt hp.2 hk;refine (lU.put ho hf (λ z hz=>?_)).mono (λ v' w' hw=>?_)
       ·rw [ha] at hz
        rintro rfl;have:=List.all_eq_true.1 c3 _ hz;simp at this
       ·unfold wpList
        simp only [Region.wanted,hg,if_true];refine .inl ?_;unfold Oper.wp;have ex:execOp (a.put (some d) v').eval o=execOp a.eval o:=OC mJ (λ t ht=>Z1 (by
         rintro rfl;simp [ht] at c2))
        rw [ex,aP w'];show wpList E.P ops Q rest ((a.put (some d) v').put o.dst val) w';rw [ga,QN (Ne.symm bE)];exact hw
      ·cases hb
     ·cases hb
    ·cases hb
   ·split at hb
    ·rename_i T2 ad d' cv
     split at hb
     ·rename_i bU
      simp only [Bool.and_eq_true] at bU;obtain ⟨c1,c2⟩:=bU;obtain rfl:=Nat.eq_of_beq_eq_true c1;split at hb
      ·rename_i p2 s3 hcs
       cases hb;have ld:∀ t,ad=.tmp t->t≠d':=by
        intro t e;subst e;rintro rfl;simp at c2
       refine (b8v hE h ho hf ha hd cv ld hcs hp).mono (λ v' w' hw=>?_);unfold wpList;simp only [Region.wanted,hg,if_true];refine .inl (hw _ _ (λ S' ι' w2 val h1 h2=>?_));exact hk S' ι' _ w2 (h1.put (by rw [hn]; exact gy) h2)
      ·cases hb
     ·cases hb
    ·cases hb
  ·cases hb
theorem c0x {H:Array Go.Obj} {t:Ty} {y:(Ty.y8 t).den} (bZ:t.shared=true) (h1:1<=y.1) (h2:y.1<=2) {O:List Nat} {cs:List Value} (hr:i6 H S (.y8 t) O cs y):i6 H S (.d0 true t) O cs y.2.1:=by
 obtain ⟨n,l,m⟩:=y
 match n,h1,h2,hr with
 | 1,_,_,hr=>exact hr
 | 2,_,_,⟨b,off,O',c1,c2,c3,c4,c5,c6⟩ =>
  obtain rfl:O'=[]:=j5.N1 (λ _ _ _ hr=>hr.N1 bZ) c4;have bc:(l++m).length=l.length+m.length:=List.length_append;rw [bc,Nat.add_mul] at c3 c4;have s1:=(j5.two (λ _ _ _ hr=>hr.length) (λ _ _ _ hr=>hr.N1 bZ) c4).1;rw [n6 _ _ _ _ (by omega)] at s1;exact .inr ⟨b,off,List.length l+List.length m,[],c1,by show List.length l<=_; omega,c2,by show off+List.length l*t.size<=_; omega,s1,c5,c6⟩
theorem b8w (hE:C8 E B) (hn:B.n=E.nt) (h:RS B S ι s a w) {o:Oper} {p:Prop} {s2:St} (hb:Gq E o s=some (p,s2)) (hp:p) :
  o.guard=none/\wo E.P o a w (λ v' w'=>∃ ι',RS B S ι' s2 (a.put o.dst v') w'):=by
 unfold Gq at hb; cases hb
def Ho (H:Array Go.Obj) (S:Nat->Prop) (tl:Option (FuncId×Nat)) (pre us0 vs:List Value):Prop :=
 match tl with
 | none=>vs=us0
 | some (f,k)=>k<=pre.length/\∃ b off,vs=us0++[.pointer (some ⟨b,off,none⟩)]/\S b/\off+1<=(w4 H b).length/\d9 H b off 1=[.func (.func f) #[] ((pre.take k).reverse++vs).toArray]
theorem Ho.next {H:Array Go.Obj} {tl:Option (FuncId×Nat)} {pre us0 vs:List Value} {v:Value} (h:Ho H S tl pre (v::us0) vs):∃ vs',vs=v::vs'/\Ho H S (tl.map λ q=>(q.1,q.2+1)) (v::pre) us0 vs':=by
 cases tl with
 | none=>exact ⟨us0,h,rfl⟩
 | some q =>
  obtain ⟨f,k⟩:=q;obtain ⟨hk,b,off,rfl,h1,h2,h3⟩:=h;refine ⟨_,rfl,by simpa using hk,b,off,rfl,h1,h2,?_⟩;rw [h3];simp [List.take_succ_cons]
theorem RS.slot (h:RS B S ι s a w) {t:Nat} {v:AV} (hv:VX w.heap S ι s.hp v [a.tmps.getD t (B.gd t)]):RS B S ι { s with fr:=Ex.put t v s.fr } a w:=by
 refine ⟨h.hs,h.dfr,h.sz,?_⟩;intro t' v' ht;simp only [o6] at ht;by_cases e:t'=t
 ·subst e
  rw [if_pos rfl] at ht; cases ht; exact hv
 ·rw [if_neg e] at ht; exact h.fr t' v' ht
theorem b7U (hE:C8 E B) (hn:B.n=E.nt) (hM:E.ps.any PK.l4=false->∀ b,¬ B.M b) (h:RS B S ι s a w) {o:Oper} {p:Prop} {s2:St} (hb:GF E o s=some (p,s2)) (hp:p) :
  o.guard=none/\∀ (next:Act->World->Prop) (Q:Exit->Act->World->Prop),(∀ S' ι' a' w',RS B S' ι' s2 a' w'->next a' w')->o.wp E.P a w next Q:=by
 unfold GF at hb; cases hb
theorem RS.MP (h:RS B S ι s a w) {i:Nat} {u t:Ty} {y:u.den} {z:t.den} (he:look i s.hp=some (.var u y)) {O1 D:List Nat} (hp:(ι.own i).Perm (O1++D)) (p2:t.size=u.size)
  (hz:i6 w.heap (λ b=>S b\/b∈D) t O1 (d9 w.heap (ι.root i).1 (ι.root i).2 t.size) z):RS B (λ b=>S b\/b∈D) (ι.C6 i O1) ((s.xb i).w6 i (.var t z)) a w:=by
 obtain ⟨-,hf,aJ⟩:=h.hs.ob i _ he;have nY:∀ b∈D,b∈ι.own i:=λ b hb=>hp.mem_iff.2 (by simp [hb]);have ki:∀ b∈O1,b∈ι.own i:=λ b hb=>hp.mem_iff.2 (by simp [hb]);have cW:(O1++D).Nodup:=(hp.nodup_iff).1 (List.nodup_cons.1 aJ).2;have bD:=(List.nodup_cons.1 aJ).1;have bN:=h.hs.bl i _ he;have dd:∀ b∈ι.own i,b∈l6 ι i (.var u y):=λ b hb=>by simp [l6,hb]
 have bh:∀ j,j≠i->E6 ι (ι.C6 i O1) j:=λ j hj=>W2 hj _;have bQ:∀ b∈l6 (ι.C6 i O1) i (.var t z),b∈l6 ι i (.var u y)/\b∉D:=by
  intro b hb;have hb:b∈(ι.root i).1::(ι.C6 i O1).own i:=hb;simp only [Ix.C6,if_true] at hb;refine (List.mem_cons.1 hb).elim (λ e=>⟨by simp [l6,e],λ hD=>bD (e▸nY b hD)⟩) (λ e=>⟨dd b (ki b e),λ hD=>(List.nodup_append.1 cW).2.2 b e b hD rfl⟩)
 refine ⟨⟨h.hs.os,h.hs.tape,h.hs.out,h.hs.size,h.hs.frame,?_,λ b hb=>.inl (h.hs.s0 b hb),?_,?_,?_,?_,?_⟩,h.dfr,h.sz,?_⟩
 ·rintro b (hb|hb)
  ·exact h.hs.slt b hb
  ·exact (bN b (dd b (nY b hb))).2.2
 ·rintro b (hb|hb)
  ·exact h.hs.s1 b hb
  ·rcases (bN b (dd b (nY b hb))).2.1 with q|q
   ·exact .inr (.inl q)
   ·exact .inr (.inr q)
 ·intro j ej hj
  simp only [St.w6,o6] at hj;by_cases e1:j=i
  ·subst e1; rw [if_pos rfl] at hj; cases hj
   refine ⟨⟨O1,by simp [Ix.C6],?_⟩,?_,?_⟩
   ·exact hz
   ·rw [p2]; exact hf
   ·show ((ι.root j).1::(ι.C6 j O1).own j).Nodup
    simp only [Ix.C6,if_true];exact List.nodup_cons.2 ⟨λ h=>bD (ki _ h),(List.nodup_append.1 cW).1⟩
  ·rw [if_neg e1] at hj
   exact (bh j e1).ob.2 ((h.hs.ob j ej hj).s9 (λ _ _=>rfl) (λ _ h=>.inl h))
 ·intro j ej hj b hb
  simp only [St.w6,o6] at hj;by_cases e1:j=i
  ·subst e1; rw [if_pos rfl] at hj; cases hj
   obtain ⟨q1,q2⟩:=bQ b hb;obtain ⟨r1,r2,r3⟩:=bN b q1;exact ⟨λ hs=>hs.elim r1 q2,r2,r3⟩
  ·rw [if_neg e1] at hj
   rw [(bh j e1).l6] at hb;obtain ⟨r1,r2,r3⟩:=h.hs.bl j ej hj b hb;exact ⟨λ hs=>hs.elim r1 (λ hD=>h.hs.dj j i ej _ hj he e1 b hb (dd b (nY b hD))),r2,r3⟩
 ·intro j k ej ek hj hk fw c hc
  simp only [St.w6,o6] at hj hk;by_cases e1:j=i
  ·subst e1
   rw [if_pos rfl] at hj; cases hj;rw [if_neg (Ne.symm fw)] at hk;rw [(bh k (Ne.symm fw)).l6];exact h.hs.dj j k _ ek he hk fw c (bQ c hc).1
  ·rw [if_neg e1] at hj
   rw [(bh j e1).l6] at hc;by_cases e2:k=i
   ·subst e2
    rw [if_pos rfl] at hk; cases hk;exact λ cS=>h.hs.dj j k ej _ hj he fw c hc (bQ c cS).1
   ·rw [if_neg e2] at hk
    rw [(bh k e2).l6];exact h.hs.dj j k ej ek hj hk fw c hc
 ·intro q hq
  obtain ⟨k0,⟨e',k1⟩,k2,k3⟩:=h.hs.pin q hq;refine ⟨k0,?_,k2,k3⟩;simp only [St.w6,o6];by_cases e1:q.1=i
  ·exact ⟨_,by rw [if_pos e1]⟩
  ·exact ⟨e',by rw [if_neg e1]; exact k1⟩
 ·intro t9 v hv
  simp only [St.w6,St.xb,N8,Option.map_eq_some_iff] at hv;obtain ⟨v0,eY,rfl⟩:=hv;refine VX.map (λ _ _=>rfl) (λ _ h=>.inl h) (λ v vs hr hm dq=>?_) (h.fr t9 v0 eY);unfold AV.LC;cases bV:v.i8 i with
  | false =>
   have bE:∀ j,v.i8 j=true->j≠i:=by rintro j hj rfl; rw [bV] at hj; cases hj
   have bL:VX w.heap (λ b=>S b\/b∈D) ι s.hp v vs:=VX.grow (λ _ _=>rfl) (λ _ h=>.inl h) h.hs.slt h.hs.ob dq;exact VX.other (λ j hj=>by simp only [St.w6,o6,if_neg (bE j hj)]; rfl) (λ j hj=>bh j (bE j hj)) bL
  | true =>
   have cA:=VX.one hr dq;simp only
   split
   ·rename_i j
    have dE:i=j:=Nat.eq_of_beq_eq_true bV;subst dE;obtain ⟨ej,b2,off2,k1,k2,k3,k4⟩:=dq;rw [he] at k1; cases k1;refine ⟨.var t z,b2,off2,by simp [St.w6,o6],N0,?_,k4⟩;simp only [Loc,Place,VR,VH,y6] at k3 ⊢;exact k3
   ·exact cA
theorem RS.Mq (h:RS B S ι s a w) {i:Nat} {u t:Ty} {y:u.den} {z:t.den} (he:look i s.hp=some (.var u y)) (hz:yn u t y=some z):∃ S' ι',RS B S' ι' ((s.xb i).w6 i (.var t z)) a w:=by
 obtain ⟨⟨O,hO,hR⟩,hf,aJ⟩:=h.hs.ob i _ he;obtain ⟨O1,D,p1,p2,p3⟩:=WR hz hR;refine ⟨_,_,h.MP he (hO.symm.trans p1) p2 ?_⟩;rw [p2];exact p3 (λ b=>S b\/b∈D) (λ _ h=>.inl h) (λ _ h=>.inr h)
theorem YI {H:Array Go.Obj} {S S':Nat->Prop} {t0:Ty} {O:List Nat} {cs:List Value} {z:(Ty.y8 t0).den} (hR:i6 H S (.y8 t0) O cs z) (bZ:t0.shared=true) (hD:∀ b∈O,S' b) (hS:∀ b,S b->S' b):i6 H S' (.d0 false t0) [] cs z.2.1:=by
 have h0:∀ O cs x,i6 H S t0 O cs x->O=[]:=λ O cs x h=>i6.N1 bZ h;have bL:∀ {O cs l},j5 (i6 H S t0) t0.size O cs l->j5 (i6 H S' t0) t0.size [] cs l:=λ {O cs l} h=>by
  obtain rfl:=j5.N1 h0 h;exact j5.mono (L:=[]) (λ _ h=>h) (λ _ _ _ _ hr=>hr.s9 (λ _ _=>rfl) hS) h
 obtain ⟨n,l,m⟩:=z
 match n,hR with
 | 0,hR =>
  rcases hR with ⟨_,⟨a,c,h1,_⟩,h2⟩|⟨b,off,cap,O',c1,c2,c3,c4,c5,_,_,c8⟩
  ·exact .inl ⟨rfl,⟨a,c,h1,λ h=>by cases h⟩,h2⟩
  ·exact .inr ⟨b,off,cap,[],c1,c2,c3,c4,bL c5,rfl,rfl,hS b c8⟩
 | 1,hR =>
  rcases hR with ⟨_,⟨a,c,h1,_⟩,h2⟩|⟨b,off,cap,O',c1,c2,c3,c4,c5,c6,_⟩
  ·exact .inl ⟨rfl,⟨a,c,h1,λ h=>by cases h⟩,h2⟩
  ·exact .inr ⟨b,off,cap,[],c1,c2,⟨c3.1,λ h=>by cases h⟩,c4,bL c5,rfl,rfl,hD b (by rw [c6]; simp)⟩
 | n+2,⟨b,off,O',c1,c2,c3,c4,c5⟩ =>
  have hl:List.length l*t0.size<=List.length (l++m)*t0.size:=Nat.mul_le_mul_right _ (by rw [List.length_append]; omega);have c6:=(j5.two (λ _ _ _ h=>h.length) h0 c4).1;rw [n6 _ _ _ _ hl] at c6;refine .inr ⟨b,off,_,[],c1,Nat.le_add_right _ _,⟨c2.1,λ h=>by cases h⟩,Nat.le_trans (Nat.add_le_add_left hl off) c3,bL c6,rfl,rfl,?_⟩
  match n,c5 with
  | 0,c5=>exact hD b (by rw [c5.1]; simp)
  | n+1,c5=>exact hS b c5.2.2
theorem RS.TR (h:RS B S ι s a w) {i k:Nat} {u:Ty} {y:u.den} (he:look i s.hp=some (.var u y)) {p:List Step} {t0:Ty} {z:(Ty.y8 t0).den} (hg:j9 u y p=some ⟨.y8 t0,z⟩) (bZ:t0.shared=true)
  {r:Sigma Ty.den} (hr:s8 u y p (.y8 t0) ((0,z.2.1,[]):Nat×(List t0.den×List t0.den))=some r) (hk:look k s.fr=some (.at_ i p)) :
  ∃ S' ι',RS B S' ι' { ((s.xb i).w6 i (.var r.1 r.2)) with fr:=Ex.put k (.val (.d0 false t0) z.2.1) ((s.xb i).w6 i (.var r.1 r.2)).fr } a w:=by
 have cF:(g9.var u y)≠.K6:=λ h=>by cases h
 obtain ⟨e2,u2,y2,cs,r1,aM,r3,r4,r5⟩:=h.fr k _ hk;rw [he] at r1; cases r1;have r3:j9 u y p=some ⟨u2,y2⟩:=r3;rw [hg] at r3; cases r3;obtain ⟨O,hO,hR,eh,aJ,bc,fW,dR⟩:=(h.hs.ob i _ he).see cF h.hs.slt;obtain ⟨O1,O3,b',ar,g1,g2,g3,g4,g5,g6⟩:=focus hR eh aM hg
 obtain ⟨b0,off0,q1,q2⟩:=r4;rw [H2 cF,g3] at q1; cases q1;have ki:∀ b∈O1++O3,b∈ι.own i:=λ b hb=>hO.mem_iff.1 (g1.mem_iff.2 hb);have cp:(O1++O3).Nodup:=(g1.nodup_iff).1 ((hO.nodup_iff).2 (List.nodup_cons.1 aJ).2);have bD:=(List.nodup_cons.1 aJ).1;have bN:=h.hs.bl i _ he;have jS:i6 w.heap (λ b=>S b\/b∈O3) (.d0 false t0) [] cs z.2.1:=by
  rw [q2]; exact YI g4 bZ (λ _ hb=>.inr hb) (λ _ hb=>.inl hb)
 have jt:N3 w.heap b' (ar+(Ty.y8 t0).size):=by
  rcases g6 with ⟨rfl,_,g7⟩|⟨_,g7⟩
  ·obtain ⟨arr,T,hl,hn⟩:=dR
   exact ⟨arr,T,hl,Nat.le_trans g7 hn⟩
  ·exact g7
 have kI:i6 w.heap (λ b=>S b\/b∈O3) (.y8 t0) [] (d9 w.heap b' ar (Ty.y8 t0).size) ((0,z.2.1,[]):Nat×(List t0.den×List t0.den)):=by
  have:=jS; rw [q2] at this; exact this
 obtain ⟨O',k1,k2,k3⟩:=Bi g2 hg g3 eh bc (List.nodup_append.1 cp).1 (λ hc=>bD (ki _ (List.mem_append_left _ hc))) (λ c hc=>by
  obtain ⟨q1,q2,q3⟩:=bN c (by simp [l6,ki c (List.mem_append_left _ hc)]);exact ⟨q1,q3⟩) (bN _ (show (ι.root i).1∈(ι.root i).1::ι.own i from List.mem_cons_self)).1 h.hs.slt (λ _ hb=>.inl hb) (V6.refl jt) kI hr
 have aW:r.1.size=u.size:=F4 k3;have hD:=h.MP he (t:=r.1) (z:=r.2) (O1:=O') (D:=O3) ((hO.symm.trans g1).trans (by
  refine List.Perm.append_right _ ?_;rw [List.append_nil] at k1; exact k1.symm)) aW k2
 refine ⟨_,_,⟨hD.hs,hD.dfr,hD.sz,λ t v hv=>?_⟩⟩;simp only [o6] at hv;by_cases e:t=k
 ·subst e
  rw [if_pos rfl] at hv; cases hv;exact ⟨cs,r5,jS⟩
 ·rw [if_neg e] at hv
  exact hD.fr t v hv
theorem RS.wc (h:RS B S ι s a w) {i:Nat} (hp:pinned i=false) (t:Ty):∃ S' ι',RS B S' ι' (s.wc i t) a w:=by
 have hl:∀ {j:Nat} {e:g9},look j (del i s.hp)=some e->look j s.hp=some e/\j≠i:=by
  intro j e hj;rw [K4] at hj;split at hj
  ·cases hj
  ·rename_i h9; exact ⟨hj,h9⟩
 have gi:∀ b,S b->(S b\/M5 ι s.hp [i] b):=λ _ h=>.inl h;refine ⟨λ b=>S b\/M5 ι s.hp [i] b,ι,⟨h.hs.os,h.hs.tape,h.hs.out,h.hs.size,h.hs.frame,?_,λ b hb=>.inl (h.hs.s0 b hb),?_,?_,?_,?_,?_⟩,h.dfr,h.sz,?_⟩
 ·rintro b (hb|⟨j,e,hj,he,hb⟩)
  ·exact h.hs.slt b hb
  ·exact (h.hs.bl j e he b hb).2.2
 ·rintro b (hb|⟨j,e,hj,he,hb⟩)
  ·exact h.hs.s1 b hb
  ·rcases (h.hs.bl j e he b hb).2.1 with q|q
   ·exact .inr (.inl q)
   ·exact .inr (.inr q)
 ·intro j e hj
  exact (h.hs.ob j e (hl hj).1).s9 (λ _ _=>rfl) gi
 ·intro j e hj b hb
  obtain ⟨r1,r2,r3⟩:=h.hs.bl j e (hl hj).1 b hb;refine ⟨λ hs=>hs.elim r1 ?_,r2,r3⟩;rintro ⟨k,ek,hk,he,kX⟩;rw [List.mem_singleton] at hk;subst hk;exact h.hs.dj j k e ek (hl hj).1 he (hl hj).2 b hb kX
 ·intro j k ej ek hj hk
  exact h.hs.dj j k ej ek (hl hj).1 (hl hk).1
 ·intro q hq
  obtain ⟨k0,⟨e',k1⟩,k2⟩:=h.hs.pin q hq;refine ⟨k0,⟨e',?_⟩,k2⟩;show look q.1 (del i s.hp)=_;rw [K4,if_neg (by rintro e1; rw [e1,hp] at k0; cases k0)]; exact k1
 ·intro t9 v hv
  simp only [St.wc,N8,Option.map_eq_some_iff] at hv;obtain ⟨v0,eY,rfl⟩:=hv;refine VX.map (λ _ _=>rfl) (λ _ h=>.inl h) (λ v vs hr hm dq=>?_) (h.fr t9 v0 eY);unfold AV.Lm;cases bV:v.i8 i with
  | false =>
   have bE:∀ j,v.i8 j=true->j≠i:=by rintro j hj rfl; rw [bV] at hj; cases hj
   have bL:VX w.heap (λ b=>S b\/M5 ι s.hp [i] b) ι s.hp v vs:=VX.grow (λ _ _=>rfl) (λ _ h=>.inl h) h.hs.slt h.hs.ob dq;exact VX.other (λ j hj=>by show look j (del i s.hp)=_; rw [K4,if_neg (bE j hj)]) (λ j hj=>E6.refl ι j) bL
  | true =>
   obtain ⟨x1,rfl⟩:=VX.one hr dq;have lG:∀ b,M5 ι s.hp v.G8 b->(S b\/M5 ι s.hp [i] b):=by
    intro b hb;obtain ⟨j,e,hj,he,iW⟩:=hb;have dE:j=i:=by
     cases v<;>simp only [AV.ref] at hr<;>try cases hr
     all_goals (simp only [AV.G8,List.mem_singleton] at hj; simp only [AV.i8] at bV; exact hj.trans (Nat.eq_of_beq_eq_true bV).symm)
    subst dE;exact .inr ⟨j,e,by simp,he,iW⟩
   simp only
   split
   ·rename_i x hx
    obtain ⟨cs,e1,e2⟩:=NF h.hs hx dq gi lG;exact ⟨cs,by rw [e1],e2⟩
   ·split
    ·split
     ·rename_i x hx
      obtain ⟨b,off,e1,e2,e3,e4⟩:=Ib h.hs (show AV.asR s t (.ptr _ _)=some x from hx) dq gi lG;exact ⟨b,off,by rw [e1],e2,e3,e4⟩
     ·exact ⟨_,rfl⟩
    ·exact ⟨_,rfl⟩
theorem RS.wR (hM:∀ b,¬ B.M b):∀ {l:List Nat} {S:Nat->Prop} {ι:Ix} {s:St} {a:Act} {w:World},RS B S ι s a w->∃ S' ι',RS B S' ι' (s.wR l) a w
 | [],S,ι,s,a,w,h=>⟨S,ι,h⟩
 | i::l,S,ι,s,a,w,h=>by
  unfold St.wR
  split
  ·rename_i u y aS hp
   obtain ⟨S2,ι2,h2⟩:=h.wc hp (.d0 false u.sh);exact RS.wR hM h2
  ·exact RS.wR hM h
theorem c0Z (hM:E.ps.any PK.l4=false->∀ b,¬ B.M b) (h:RS B S ι s a w) (o:Oper):∃ S' ι',RS B S' ι' ((Ap E o s).getD s) a w:=by
 cases hd:Ap E o s with
 | none=>exact ⟨S,ι,h⟩
 | some s2 =>
  show ∃ S' ι',RS B S' ι' s2 a w;unfold Ap at hd;split at hd
  ·rename_i c hp ho
   split at hd
   ·split at hd
    ·split at hd
     ·rename_i i u y aS
      split at hd
      ·cases hd
      ·split at hd
       ·rename_i z hz
        cases hd;exact h.Mq aS hz
       ·cases hd
     ·cases hd
    ·split at hd
     ·rename_i ma _
      cases hd;exact h.wc ma _
     ·cases hd
    ·split at hd
     ·cases hd
     ·cases hd
      exact RS.wR (hM hp) h
    ·cases hd
   ·cases hd
  ·rename_i hp ho
   split at hd
   ·split at hd
    ·rename_i ma
     cases hd;exact h.wc ma _
    ·cases hd
   ·cases hd
  ·cases hd
theorem X4 (hM:E.ps.any PK.l4=false->∀ b,¬ B.M b):∀ {l:List (Nat×Option Ty)} {S:Nat->Prop} {ι:Ix} {s:St} {a:Act} {w:World},RS B S ι s a w->∃ S' ι',RS B S' ι' (zE E l s) a w
 | [],S,ι,s,a,w,h=>⟨S,ι,h⟩
 | (m,none)::l,S,ι,s,a,w,h=>X4 hM (l:=l) h
 | (m,some t)::l,S,ι,s,a,w,h=>by
  have key:∃ S' ι',RS B S' ι' (Fj E m t s) a w:=by
   unfold Fj
   split
   ·rename_i i hp _
    split
    ·rename_i u y aS
     split
     ·exact ⟨S,ι,h⟩
     ·split
      ·rename_i z hz
       exact h.Mq aS hz
      ·exact ⟨S,ι,h⟩
    ·exact ⟨S,ι,h⟩
   ·rename_i i p hm
    split
    case h_2=>exact ⟨S,ι,h⟩
    unfold LD
    split
    ·rename_i u y aS
     split
     ·rename_i t0 z hg
      split
      ·rename_i r bZ hr
       have hk:look m s.fr=some (.at_ i p):=by
        unfold St.get at hm;cases hl:look m s.fr with
        | none=>rw [hl] at hm; cases hm
        | some v=>rw [hl] at hm; exact congrArg some hm
       exact h.TR aS hg bZ hr hk
      ·exact ⟨S,ι,h⟩
     ·exact ⟨S,ι,h⟩
    ·exact ⟨S,ι,h⟩
   ·rename_i hm
    split
    ·rename_i u
     have hg:=h.get m;rw [hm] at hg;have hv:a.tmps.getD m (B.gd m)=Value.slice none 0 0:=by
      have:[a.tmps.getD m (B.gd m)]=[Value.slice none 0 0]:=hg;simpa using this
     exact ⟨S,ι,h.slot (t:=m) (v:=.val (.d0 false u) ([]:List u.den)) ⟨[.slice none 0 0],by rw [hv]; rfl,.inl ⟨rfl,⟨none,0,rfl,λ _=>rfl⟩,rfl⟩⟩⟩
    ·exact ⟨S,ι,h⟩
   ·exact ⟨S,ι,h⟩
  obtain ⟨S',ι',h'⟩:=key;exact X4 hM (l:=l) h'
theorem b7R (h:RS B S ι s a w) (o:Oper):∃ ι',RS B S ι' ((Dk E o s).getD s) a w:=by
 cases hd:Dk E o s with
 | none=>exact ⟨ι,h⟩
 | some s' =>
  show ∃ ι',RS B S ι' s' a w;unfold Dk at hd;split at hd
  ·split at hd
   ·rename_i g tx ys hc ha
    split at hd
    ·rename_i t ks rs pre fn out nw i st p nN hx
     split at hd
     ·rename_i u y aS
      split at hd
      ·rename_i v l r hg aK
       split at hd
       ·rename_i hv
        subst hv;split at hd
        ·rename_i bU
         cases hd;simp only [Bool.and_eq_true] at bU;have aS:look i s.hp=some (.var u y):=aS;have da:=h.fr tx _ hx;obtain ⟨e1,u1,y1,cs,r1,aM,r3,hcs,r5⟩:=da;rw [aS] at r1; cases r1;have hg:j9 (g9.var u y).ty (g9.var u y).x (st::p)=some ⟨.d0 true t,l⟩:=hg;rw [hg] at r3; cases r3;obtain ⟨Op,m1,mn,kh⟩:=G1 h.hs aS aM hg hcs;obtain ⟨b,off,k1,k2⟩:=id hcs;have cF:(g9.var u y)≠.K6:=by intro h; cases h
         have dI:b<w.heap.size:=by
          obtain ⟨b',ar,O2,q1,q2,q3,q4,q5,q6⟩:=(h.hs.ob i _ aS).part cF h.hs.slt aM hg;rw [q1] at k1; cases k1;rcases Nat.lt_or_ge b w.heap.size with h9|h9
          ·exact h9
          ·have q5:off+1<=(w4 w.heap b).length:=q5
           simp only [w4,Array.getElem?_eq_none h9,List.length_nil] at q5;omega
         have hl:Loc w.heap ι i (.var u y) (st::p)=some (b,off):=vH k1 dI;have gW:i6 w.heap S (.d0 true t) Op (d9 w.heap b off (Ty.d0 true t).size) l:=by
          rw [k2,l5 (F7 dI)] at kh;exact kh
         have cC:∃ c0,d9 w.heap b off (Ty.d0 true t).size=[c0]/\CI c0=true:=by
          rcases gW with ⟨_,⟨a1,c1,e1,_⟩,_⟩|⟨b1,o1,cap1,O1,e1,_⟩
          ·exact ⟨_,e1,rfl⟩
          ·exact ⟨_,e1,rfl⟩
         obtain ⟨c0,eL,lr⟩:=cC;obtain ⟨ι',⟨O,rfl,hO⟩,h0⟩:=h.Ds aS aM hg hl (u':=.hole t) (z:=([]:List t.den)) (cs:=[c0]) (O2:=[]) (λ H' _ _=>⟨rfl,c0,rfl,lr⟩) rfl List.nodup_nil (by simp) aK (by intro h; cases h);have hw:w.setRow b (over (w4 w.heap b) off [c0]).toArray=w:=by
          obtain ⟨O2,q1,q2,q3,m4,m5,arr,T,⟨fz,e1,_⟩,hn⟩:=M6 (K2 hl) (h.hs.ob i _ aS) h.hs.slt aM hg hl;have hb:w4 w.heap b=arr.toList:=by simp only [w4,e1]
          have:over (w4 w.heap b) off [c0]=w4 w.heap b:=by
           rw [<- eL]; exact over_self m4
          rw [this,hb]; exact setRow_self w b arr T fz (by simpa using e1)
         rw [hw] at h0;have dv:∀ c∈Op,c∈l6 ι i (.var u y):=λ c hc=>I0 (m1 c hc);have hF:F2 B S (ι.C6 i O) ((s.kill i (g9.var u y).kd (st::p)).w6 i (.var r.1 r.2)).hp w Op:=by
          refine ⟨mn,λ c hc=>?_⟩;obtain ⟨z1,z2,z3⟩:=h.hs.bl i _ aS c (dv c hc);refine ⟨z1,z2,z3,λ j ej r2 r3=>?_⟩;simp only [St.w6,o6] at r2;by_cases hj:j=i
          ·subst hj
           rw [if_pos rfl] at r2; cases r2;have r3:c∈(ι.root j).1::(ι.C6 j O).own j:=r3;simp only [Ix.C6,if_true] at r3;refine (List.mem_cons.1 r3).elim (λ g3=>?_) (λ g3=>?_)
           ·obtain ⟨_,_,aJ⟩:=h.hs.ob j _ aS
            exact (List.nodup_cons.1 aJ).1 (g3▸m1 c hc)
           ·rcases (hO c g3).2 with h9|h9
            ·cases h9
            ·exact h9 Op gW hc
          ·rw [if_neg hj] at r2
           rw [(W2 hj O).l6] at r3;exact h.hs.dj i j _ ej aS r2 (Ne.symm hj) c (dv c hc) r3
         have h1:=h0.hold bU.2 gW hF;refine ⟨_,h1.slot (t:=tx) (v:=.at_ (1600000+tx) []) ?_⟩;have e9:[a.tmps.getD tx (B.gd tx)]=[p7 (.d0 true t) (d9 w.heap b off (Ty.d0 true t).size)]:=by
          rw [r5,k2,l5 (F7 dI)]
         rw [e9];exact zB gW.length
        ·cases hd
       ·cases hd
      ·cases hd
     ·cases hd
    ·cases hd
   ·cases hd
  ·cases hd
theorem RS.Uo (h:RS B S ι s a w) {i:Nat} {u t:Ty} {y:u.den} {z:t.den} (he:look i s.hp=some (.own u y)) (rO:∀ {O:List Nat} {cs:List Value},i6 w.heap S u O cs y->i6 w.heap S t O cs z) (dn:u.agg=t.agg) (aW:u.size=t.size) :
  RS B S ι { fr:=mapA (AV.map λ v=>match v.i8 i with|false=>v|true=>match v with|.at_ j []=>.at_ j []|_=>.any) s.fr,hp:=Ex.put i (.own t z) s.hp } a w:=by
 obtain ⟨⟨O,hO,hR⟩,aJ⟩:=h.hs.ob i _ he;have kX:∀ j ej,look j (Ex.put i (.own t z) s.hp)=some ej->∃ e0,look j s.hp=some e0/\l6 ι j ej=l6 ι j e0:=by
  intro j ej hj;rw [o6] at hj;by_cases e1:j=i
  ·subst e1; rw [if_pos rfl] at hj; cases hj; exact ⟨_,he,rfl⟩
  ·rw [if_neg e1] at hj; exact ⟨_,hj,rfl⟩
 refine ⟨⟨h.hs.os,h.hs.tape,h.hs.out,h.hs.size,h.hs.frame,h.hs.slt,h.hs.s0,h.hs.s1,?_,?_,?_,?_⟩,h.dfr,h.sz,?_⟩
 ·intro j ej hj
  rw [o6] at hj;by_cases e1:j=i
  ·subst e1; rw [if_pos rfl] at hj; cases hj
   exact ⟨⟨O,hO,rO hR⟩,aJ⟩
  ·rw [if_neg e1] at hj; exact h.hs.ob j ej hj
 ·intro j ej hj b hb
  obtain ⟨e0,h1,h2⟩:=kX j ej hj;rw [h2] at hb;exact h.hs.bl j e0 h1 b hb
 ·intro j k ej ek hj hk fw c hc
  obtain ⟨e0,h1,h2⟩:=kX j ej hj;obtain ⟨e3,h4,h5⟩:=kX k ek hk;rw [h2] at hc;rw [h5];exact h.hs.dj j k e0 e3 h1 h4 fw c hc
 ·intro q hq
  obtain ⟨k0,⟨e',k1⟩,k2,k3⟩:=h.hs.pin q hq;refine ⟨k0,?_,k2,k3⟩;rw [o6];by_cases e1:q.1=i
  ·exact ⟨_,by rw [if_pos e1]⟩
  ·exact ⟨e',by rw [if_neg e1]; exact k1⟩
 ·intro t9 v hv
  simp only [N8,Option.map_eq_some_iff] at hv;obtain ⟨v0,eY,rfl⟩:=hv;refine VX.map (λ _ _=>rfl) (λ _ h=>h) (λ v vs hr hm dq=>?_) (h.fr t9 v0 eY);cases bV:v.i8 i with
  | false =>
   have bE:∀ j,v.i8 j=true->j≠i:=by rintro j hj rfl; rw [bV] at hj; cases hj
   exact VX.other (λ j hj=>by rw [o6,if_neg (bE j hj)]) (λ j hj=>⟨rfl,rfl,rfl⟩) dq
  | true =>
   have cA:=VX.one hr dq;simp only
   split
   ·rename_i j
    have dE:i=j:=Nat.eq_of_beq_eq_true bV;subst dE;obtain ⟨e,u',y',cs,k1,k2,k3,⟨b,off,k4,k5⟩,k6⟩:=dq;rw [he] at k1; cases k1;simp only [j9,Option.some.injEq,Sigma.mk.injEq] at k3;obtain ⟨rfl,_⟩:=k3;refine ⟨.own t z,t,z,cs,by rw [o6,if_pos rfl],N0,by simp only [j9]; rfl,⟨b,off,?_,?_⟩,?_⟩
    ·simp only [Place,VR,VH,y6] at k4 ⊢
     exact k4
    ·rw [<- aW]; exact k5
    ·rw [k6]; exact congrArg (λ v=>[v]) (Bh dn cs)
   ·exact cA
theorem c0y (h:RS B S ι s a w) (o:Oper):RS B S ι (CA E o s) a w:=by
 unfold CA
 split
 ·split
  ·split
   ·rename_i i _
    split
    ·rename_i t z aS
     split
     ·rename_i hc
      simp only [Bool.and_eq_true] at hc
      split
      ·exact h
      ·rename_i bZ
       exact h.Uo (t:=.d0 true t) (z:=z.2.1) aS (λ hr=>c0x bZ (Nat.le_of_ble_eq_true hc.1) (Nat.le_of_ble_eq_true hc.2) hr) rfl rfl
     ·exact h
    ·exact h
   ·exact h
  ·exact h
 ·exact h
theorem c0q (hM:E.ps.any PK.l4=false->∀ b,¬ B.M b) (h0:RS B S ι s a w) (o:Oper):∃ S' ι',RS B S' ι' (CC E o s) a w:=by
 have h:=c0y (E:=E) h0 o;unfold CC LH;generalize CA E o s=s at h;obtain ⟨S',ι',h1⟩:=c0Z hM h o;obtain ⟨ι2,h2⟩:=b7R (E:=E) h1 o;exact ⟨S',ι2,h2⟩
theorem b7N (hM:E.ps.any PK.l4=false->∀ b,¬ B.M b) (h:RS B S ι s a w) (ops:Array Oper):∃ S' ι',RS B S' ι' (Gv E ops s) a w:=by
 unfold Gv
 split
 ·rename_i hp _
  split
  ·rename_i ma
   exact h.wc ma _
  ·exact ⟨S,ι,h⟩
 ·exact ⟨S,ι,h⟩
theorem RH (hM:E.ps.any PK.l4=false->∀ b,¬ B.M b) (h:RS B S ι s a w) (ops:Array Oper):∃ S' ι',RS B S' ι' (CD E ops s) a w:=by
 unfold CD
 split
 ·exact X4 hM h
 ·exact ⟨S,ι,h⟩
theorem c0o (hM:E.ps.any PK.l4=false->∀ b,¬ B.M b) (h:RS B S ι s a w) (ops:Array Oper):∃ S' ι',RS B S' ι' (zk E ops s) a w:=by
 obtain ⟨S',ι',h'⟩:=RH (E:=E) hM h ops;exact b7N hM h' ops
theorem V7 (hE:C8 E B) (hn:B.n=E.nt) (hM:E.ps.any PK.l4=false->∀ b,¬ B.M b) {ops:Array Oper} {k:St->Tree (E.rs++E4 E.ps)} {L:Code->List Item->St->Prop} {Rt:DL (E.rs++E4 E.ps)->Prop} {Q:Exit->Act->World->Prop} (hk:∀ S' ι' s' a' w',RS B S' ι' s' a' w'->(k s').holds L Rt->Q .normal a' w') :
  ∀ {l:List Oper} {m:Nat} {S:Nat->Prop} {ι:Ix} {s:St} {a:Act} {w:World},RS B S ι s a w->(vR E ops m l s k).holds L Rt->wpList E.P ops Q (l.drop m) a w
 | [],m,S,ι,s,a,w,h,ht=>by
  rw [List.drop_nil];cases m<;>exact hk S ι s a w h ht
 | o::l,m+1,S,ι,s,a,w,h,ht=>V7 hE hn hM hk (l:=l) (m:=m) h ht
 | o::l,0,S0,ι0,s0,a,w,h0,ht=>by
  show wpList E.P ops Q (o::l) a w;unfold vR at ht;obtain ⟨S,ι,h⟩:=c0q hM h0 o;dsimp only at ht;generalize CC E o s0=s at h ht;split at ht
  ·rename_i p s' n hf
   unfold Ly at hf;split at hf
   ·rename_i d c hg hd gy ho
    split at hf
    ·rename_i x y T U hc ha hT
     split at hf
     ·split at hf
      ·cases hf
      ·rw [<- hn,hd] at gy
       obtain ⟨v',w',g1,g2⟩:=SV hE hn ho hc ha hT gy (ops:=ops) (Q:=Q) h hf ht.1;unfold wpList;simp only [Region.wanted,hg,if_true];refine .inl ?_;unfold Oper.wp;rw [g1];show wpList E.P ops Q l (a.put o.dst v') w';rw [hd];exact g2 (λ S' ι' a' w'' h'=>V7 hE hn hM hk (l:=l) (m:=n) h' (ht.2 ht.1))
     ·cases hf
    ·cases hf
   ·cases hf
  ·split at ht
   ·rename_i p s' n hf
    unfold Lz at hf;split at hf
    ·rename_i d c hg hd gy ho
     split at hf
     ·rename_i g x ys hc ha
      split at hf
      ·split at hf
       ·cases hf
       ·rw [<- hn,hd] at gy
        unfold wpList;simp only [Region.wanted,hg,if_true];refine .inl ((Tl hE hn ho hc ha gy (ops:=ops) (Q:=Q) h hf ht.1 (λ S' ι' a' w'' h'=>V7 hE hn hM hk (l:=l) (m:=n) h' (ht.2 ht.1))).wp (λ v' w' hw=>?_));rw [hd]; exact hw
      ·cases hf
     ·cases hf
    ·cases hf
   ·split at ht
    ·rename_i p s' hf
     obtain ⟨hg,aP⟩:=b8w hE hn h hf ht.1;unfold wpList;simp only [Region.wanted,hg,if_true];refine .inl (aP.wp (λ v' w' hw=>?_));obtain ⟨ι',h'⟩:=hw;exact V7 hE hn hM hk (l:=l) (m:=0) h' (ht.2 ht.1)
    ·split at ht
     ·rename_i p s' hf
      obtain ⟨hg,aP⟩:=b7U hE hn hM h hf ht.1;unfold wpList;simp only [Region.wanted,hg,if_true];exact .inl (aP _ Q (λ S' ι' a' w' h'=>V7 hE hn hM hk (l:=l) (m:=0) h' (ht.2 ht.1)))
     ·split at ht
      ·rename_i p v1 v2 hg hd hb
       rw [<- hn] at hd;obtain ⟨val,aP,hv⟩:=Zk hE h hb;unfold wpList;simp only [Region.wanted,hg,if_true];refine .inl ?_;unfold Oper.wp;rw [aP];rcases hv with ⟨hp,hv⟩|hv
       ·exact V7 hE hn hM hk (l:=l) (m:=0) (h.put hd hv) (ht.1 hp)
       ·exact V7 hE hn hM hk (l:=l) (m:=0) (h.put hd hv) ht.2
      ·have:=Lb hE hn h (ops:=ops) o (k:=λ s'=>vR E ops 0 l s' k) ht (next:=wpList E.P ops Q l) (Q:=Q) (λ S' ι' s' a' w' h1 h2=>V7 hE hn hM hk (l:=l) (m:=0) h1 h2)
       unfold wpList
       split
       ·rename_i hw; rw [if_pos hw] at this; exact .inl this
       ·rename_i hw; rw [if_neg hw] at this; exact this
end
end Go.Ex
namespace Go.Ex
section
variable {E:Env} {ops:Array Oper}
theorem Aa {α:Type _} {Y:α->Prop} {a:α}:Y a↔∃ (p:Prop) (s:α),some (True,a)=some (p,s)/\p/\Y s:=by
 constructor
 ·intro h; exact ⟨_,_,rfl,trivial,h⟩
 ·rintro ⟨p,s,h,_,h2⟩; cases h; exact h2
theorem Hr {o:Oper} {s:St} {k:St->Tree (E.rs++E4 E.ps)} {L:Code->List Item->St->Prop} {R:DL (E.rs++E4 E.ps)->Prop}:(yv E o s k).holds L R↔∃ p s',W7 E o s=some (p,s')/\p/\(k s').holds L R:=by
 unfold yv W7;cases hd:G3 E.nt o.dst with
 | false=>simp [Tree.holds]
 | true =>
  simp only;have other:∀ r:OR,(match r with|.fail why=>Tree.stuck why|.ok v s'=>k (s'.put o.dst v)|.F3 p v s'=>Tree.f7 p (k (s'.put o.dst v))).holds L R ↔
    ∃ p s',(match r.get with|none=>none|some (p,v,s')=>some (p,s'.put o.dst v))=some (p,s')/\p/\(k s').holds L R:=by
   intro r;cases r with
   | fail why=>simp [Tree.holds,OR.get]
   | ok v s'=>exact Aa (Y:=λ s'=>(k s').holds L R)
   | F3 p v s' =>
    simp only [Tree.holds,OR.get,Option.some.injEq,Prod.mk.injEq];constructor
    ·rintro ⟨h1,h2⟩; exact ⟨_,_,⟨rfl,rfl⟩,h1,h2 h1⟩
    ·rintro ⟨_,_,⟨rfl,rfl⟩,h1,h2⟩; exact ⟨h1,λ _=>h2⟩
  cases ho:o.op with
  | pick c a b =>
   simp only;cases hc:s.ev c with
   | val t x =>
    cases t with
    | bool =>
     cases x with
     | true=>exact Aa (Y:=λ s'=>(k s').holds L R)
     | false=>exact Aa (Y:=λ s'=>(k s').holds L R)
    | _=>simp [Tree.holds]
   | _=>simp [Tree.holds]
  | _=>exact other _
theorem BM {o:Oper} {s:St} {k:St->Tree (E.rs++E4 E.ps)} {L:Code->List Item->St->Prop} {R:DL (E.rs++E4 E.ps)->Prop}:(xV E ops o s k).holds L R↔∃ p s',G7 E ops o s=some (p,s')/\p/\(k s').holds L R:=by
 unfold xV G7;cases hg:o.guard with
 | none=>exact Hr
 | some jw =>
  obtain ⟨j,want⟩:=jw;simp only;cases hs:zY ops j with
  | none=>simp [Tree.holds]
  | some g =>
   simp only;cases hv:s.ev (.tmp g) with
   | raw v =>
    cases v with
    | tuple vs =>
     simp only;cases hd:G3 E.nt o.dst with
     | false=>simp [Tree.holds]
     | true=>exact Aa (Y:=λ s'=>(k s').holds L R)
    | _=>simp [Tree.holds]
   | val t x =>
    cases t with
    | bool =>
     simp only;cases hd:G3 E.nt o.dst with
     | false=>simp [Tree.holds]
     | true =>
      simp only;cases x with
      | true =>
       cases want with
       | true=>exact Hr
       | false=>exact Aa (Y:=λ s'=>(k s').holds L R)
      | false =>
       cases want with
       | true=>exact Aa (Y:=λ s'=>(k s').holds L R)
       | false=>exact Hr
    | _=>simp [Tree.holds]
   | _=>simp [Tree.holds]
def wG (ops:Array Oper) (x:Oper) (sx:St) (Tx:List Nat) (y:Oper) (Ty:List Nat):Prop :=
 (∀ m∈looks ops y,∀ i∈Tx,(J4 y (sx.get m)).i8 i=false)/\(∀ m∈looks ops x,∀ i∈Ty,(J4 x (sx.get m)).i8 i=false)/\(∀ i∈Tx,i % 1000≠(y.dst.getD 0) % 1000)
theorem Ik {e:Met} {y:Oper} {Ty:List Nat} (h:AQ ops e y Ty=true):wG ops e.o e.s e.T y Ty:=by
 simp only [AQ,Bool.and_eq_true] at h;obtain ⟨h1,h2⟩:=h;refine ⟨?_,?_,?_⟩
 ·intro m hm i hi
  split at h1
  ·rename_i he; rw [he] at hi; cases hi
  ·simp only [Bool.and_eq_true,List.all_eq_true,Bool.not_eq_true'] at h1
   exact h1.1 m hm i hi
 ·intro m hm i hi
  split at h2
  ·cases hi
  ·simp only [List.all_eq_true,Bool.not_eq_true'] at h2
   exact h2 m hm i hi
 ·intro i hi jl
  split at h1
  ·rename_i he; rw [he] at hi; cases hi
  ·simp only [Bool.and_eq_true,List.all_eq_true,Bool.not_eq_true'] at h1
   have:=h1.2 i hi;rw [jl] at this;simp at this
def uX (E:Env) (ops:Array Oper) (M:Nat->Nat):List (Nat×St)->List Nat->St->St->Prop
 | _,[],s,s'=>s=s'
 | acc,i::l,s,s'=>∃ o,ops[i]?=some o/\(∀ e∈acc,(M i).testBit e.1=true\/∃ x,ops[e.1]?=some x/\wG ops x e.2 (l4 E x e.2) o (l4 E o s)) /\
   ∃ p s1,G7 E ops o s=some (p,s1)/\p/\uX E ops M ((i,s)::acc) l s1 s'
def Az (E:Env) (ops:Array Oper) (q:vz):Prop:=∃ oa c,ops[q.k]?=some oa/\oa.guard=none/\oa.dst=some q.d/\G3 E.nt (some q.d)=true/\oa.op=.call c/\c.callee=.builtin .append/\c.args.toList=[q.x,q.y]/\c.argTypes.toList=[q.T,q.U]
theorem Xq {o:Oper} {s:St} {i:Nat} {q:vz} (h:Gp E o s i=some q) (ho:ops[i]?=some o):Az E ops q/\q.k=i:=by
 unfold Gp at h;split at h
 ·rename_i d c hg hd gy cv
  split at h
  ·rename_i x y T U hc ha hT
   split at h
   ·split at h
    ·cases h
    ·cases h
     exact ⟨⟨o,c,ho,hg,hd,by rw [<- hd]; exact gy,cv,hc,ha,hT⟩,rfl⟩
   ·cases h
  ·cases h
 ·cases h
def Hm (E:Env) (ops:Array Oper) (M:List Nat) (q:vz) (s1:St) (k:St->Tree (E.rs++E4 E.ps)) (L:Code->List Item->St->Prop) (R:DL (E.rs++E4 E.ps)->Prop):Prop :=
 ∃ o p s2,ops[ops.size - 1]?=some o/\zb E ops M q (ops.size - 1) o s1=some (p,s2)/\p/\(k s2).holds L R
theorem BI {o:Oper} {l:List Oper} {n:Nat} (hl:ops.toList.drop n=o::l):ops[n]?=some o/\ops.toList.drop (n+1)=l/\ops.size=n+1+l.length:=by
 have h1:(ops.toList.drop n)[0]?=some o:=by rw [hl]; rfl
 have h2:(ops.toList.drop n).length=(o::l).length:=by rw [hl]
 simp only [List.length_drop,List.length_cons,Array.length_toList] at h2;refine ⟨by simpa using h1,?_,by omega⟩;rw [<- List.drop_drop,hl]; rfl
theorem Qp {M:List Nat} {q:vz} {k:St->Tree (E.rs++E4 E.ps)} {L:Code->List Item->St->Prop} {R:DL (E.rs++E4 E.ps)->Prop}:∀ {l:List Oper} {n:Nat} {s:St} {acc:List Met} {bF:List (Nat×St)},ops.toList.drop n=l ->
  (∀ e∈bF,∃ m∈acc,m.i=e.1/\ops[e.1]?=some m.o/\m.s=e.2/\m.T=l4 E m.o e.2)->(Am E ops M q n l s acc k).holds L R->∃ s',uX E ops (λ i=>M.getD i 0) bF (List.range' n (l.length - 1)) s s'/\Hm E ops M q s' k L R
 | [],n,s,acc,bF,_,_,h=>h.elim
 | [o],n,s,acc,bF,hl,ha,h=>by
  obtain ⟨h1,h2,h3⟩:=BI hl;simp only [Am] at h;split at h
  ·rename_i p s2 hf
   have e:ops.size - 1=n:=by simp at h3; omega
   exact ⟨s,rfl,o,p,s2,by rw [e]; exact h1,by rw [e]; exact hf,h.1,h.2 h.1⟩
  ·exact h.elim
 | o::o2::l,n,s,acc,bF,hl,ha,h=>by
  obtain ⟨ho,ep,_⟩:=BI hl;simp only [Am] at h;split at h
  ·exact h.elim
  ·rename_i bt
   obtain ⟨p,s1,h1,h2,h3⟩:=BM.1 h;obtain ⟨s',k1,k2⟩:=Qp (bF:=(n,s)::bF) ep (λ e he=>by
    rcases List.mem_cons.1 he with rfl|he
    ·exact ⟨_,List.mem_cons_self ..,rfl,ho,rfl,rfl⟩
    ·obtain ⟨m,hm,r⟩:=ha e he; exact ⟨m,List.mem_cons_of_mem _ hm,r⟩) h3
   refine ⟨s',⟨o,ho,λ e he=>?_,p,s1,h1,h2,k1⟩,k2⟩;obtain ⟨m,hm,m1,m2,m3,m4⟩:=ha e he;have:=(List.all_eq_true.1 bt) m hm;simp only [Bool.or_eq_true] at this;rcases this with this|this
   ·exact .inl (by rw [<- m1]; exact this)
   ·have hp:=Ik this
    rw [m3,m4] at hp;exact .inr ⟨m.o,m2,hp⟩
theorem Qq {M:List Nat} {k:St->Tree (E.rs++E4 E.ps)} {L:Code->List Item->St->Prop} {R:DL (E.rs++E4 E.ps)->Prop}:∀ {l:List Oper} {n:Nat} {s:St} {acc:List Met} {bF:List (Nat×St)},ops.toList.drop n=l ->
  (∀ e∈bF,∃ m∈acc,m.i=e.1/\ops[e.1]?=some m.o/\m.s=e.2/\m.T=l4 E m.o e.2)->(CE E ops M n l s acc k).holds L R ->
  (∃ s',uX E ops (λ i=>M.getD i 0) bF (List.range' n l.length) s s'/\(k s').holds L R) \/
  ∃ q s',n<=q.k/\Az E ops q/\uX E ops (λ i=>M.getD i 0) bF ((List.range' n (l.length - 1)).filter (λ j=>!(j == q.k))) s s'/\Hm E ops M q s' k L R
 | [],n,s,acc,bF,_,_,h=>.inl ⟨s,rfl,h⟩
 | o::l,n,s,acc,bF,hl,ha,h=>by
  obtain ⟨ho,ep,_⟩:=BI hl;simp only [CE] at h;split at h
  ·rename_i q hq
   obtain ⟨a1,a2⟩:=Xq hq ho;obtain ⟨s',k1,k2⟩:=Qp ep ha h;refine .inr ⟨q,s',by omega,a1,?_,k2⟩;cases l with
   | nil =>
    simp only [List.length_nil,Nat.zero_sub,List.range'_zero] at k1;simpa using k1
   | cons o2 l =>
    simp only [List.length_cons,Nat.add_sub_cancel] at k1 ⊢;rw [List.range'_succ,List.filter_cons];simp only [a2,beq_self_eq_true,Bool.not_true,Bool.false_eq_true,if_false];rw [List.filter_eq_self.2 (λ j hj=>by have:=(List.mem_range'_1.1 hj).1; simp; omega)];exact k1
  ·split at h
   ·exact h.elim
   ·rename_i bt
    obtain ⟨p,s1,h1,h2,h3⟩:=BM.1 h;have mZ:∀ e∈bF,(M.getD n 0).testBit e.1=true\/∃ x,ops[e.1]?=some x/\wG ops x e.2 (l4 E x e.2) o (l4 E o s):=by
     intro e he;obtain ⟨m,hm,m1,m2,m3,m4⟩:=ha e he;have:=(List.all_eq_true.1 bt) m hm;simp only [Bool.or_eq_true] at this;rcases this with this|this
     ·exact .inl (by rw [<- m1]; exact this)
     ·have hp:=Ik this
      rw [m3,m4] at hp;exact .inr ⟨m.o,m2,hp⟩
    rcases Qq (bF:=(n,s)::bF) ep (λ e he=>by
     rcases List.mem_cons.1 he with rfl|he
     ·exact ⟨_,List.mem_cons_self ..,rfl,ho,rfl,rfl⟩
     ·obtain ⟨m,hm,r⟩:=ha e he; exact ⟨m,List.mem_cons_of_mem _ hm,r⟩) h3 with ⟨s',k1,k2⟩|⟨q,s',k0,k1,k2,k3⟩
    ·exact .inl ⟨s',⟨o,ho,mZ,p,s1,h1,h2,k1⟩,k2⟩
    ·refine .inr ⟨q,s',by omega,k1,?_,k3⟩
     cases l with
     | nil =>
      exfalso;obtain ⟨oa,c,a1,_⟩:=k1;have:=(Array.getElem?_eq_some_iff.1 a1).1;have h9:=(BI hl).2.2;simp at h9; omega
     | cons o2 l =>
      simp only [List.length_cons,Nat.add_sub_cancel] at k2 ⊢;rw [List.range'_succ,List.filter_cons];have bE:(!(n == q.k))=true:=by simp; omega
      rw [if_pos bE];exact ⟨o,ho,mZ,p,s1,h1,h2,k2⟩
end
end Go.Ex
namespace Go.Ex
def uniq {α:Type _}:List (Nat×α)->Prop
 | []=>True
 | (n,_)::l=>(∀ q∈l,n<q.1)/\uniq l
theorem Ev {α:Type _} {n:Nat}:∀ {l:List (Nat×α)},(∀ q∈l,n<q.1)->look n l=none
 | [],_=>rfl
 | (m,x)::l,h=>by
  have:=h (m,x) (by simp);simp only [look,xM (Nat.ne_of_lt this)];exact Ev (λ q hq=>h q (by simp [hq]))
theorem Od {α:Type _} {n:Nat} {x:α} {q:Nat×α}:∀ {l:List (Nat×α)},q∈put n x l->q.1=n\/q∈l
 | [],h=>by simp [put] at h; exact .inl (by rw [h])
 | (m,y)::l,h=>by
  simp only [put] at h;split at h
  ·rcases List.mem_cons.1 h with rfl|h
   ·exact .inl rfl
   ·exact .inr (by simp [h])
  ·split at h
   ·rcases List.mem_cons.1 h with rfl|h
    ·exact .inl rfl
    ·exact .inr h
   ·rcases List.mem_cons.1 h with rfl|h
    ·exact .inr (by simp)
    ·exact (Od h).imp id (λ h=>by simp [h])
theorem PV {α:Type _} (n:Nat) (x:α):∀ {l:List (Nat×α)},uniq l->uniq (put n x l)
 | [],_=>⟨by simp,trivial⟩
 | (m,y)::l,⟨h1,h2⟩=>by
  simp only [put];cases hb:Nat.beq n m with
  | true=>have:=Nat.eq_of_beq_eq_true hb; subst this; exact ⟨h1,h2⟩
  | false =>
   have bE:n≠m:=by rintro rfl; simp at hb
   simp only;cases bc:Nat.blt n m with
   | true =>
    have bc:n<m:=by simpa [Nat.blt_eq] using bc
    exact ⟨λ q hq=>by
     rcases List.mem_cons.1 hq with rfl|hq
     ·exact bc
     ·exact Nat.lt_trans bc (h1 q hq),h1,h2⟩
   | false =>
    have bc:¬ n<m:=by
     intro hl;have h3:Nat.blt n m=true:=by simpa [Nat.blt_eq] using hl
     rw [h3] at bc; cases bc
    refine ⟨λ q hq=>?_,PV n x h2⟩;rcases Od hq with e|hq
    ·omega
    ·exact h1 q hq
theorem s6 {α:Type _}:∀ {l:List (Nat×α)},AK l=true->uniq l
 | [],_=>trivial
 | (n,x)::l,h=>by
  simp only [AK,Bool.and_eq_true] at h;have ih:=s6 h.2;refine ⟨?_,ih⟩;cases l with
  | nil=>simp
  | cons q l =>
   obtain ⟨m,y⟩:=q;have bc:n<m:=by simpa [Nat.blt_eq] using h.1
   intro q hq;rcases List.mem_cons.1 hq with rfl|hq
   ·exact bc
   ·exact Nat.lt_trans bc (ih.1 q hq)
theorem Ep {d:Nat}:∀ {l:List (Nat×AV)},uniq l->(∀ n v,look n l=some v->v.i8 d=false)->vJ d l=true
 | [],_,_=>rfl
 | (m,v)::l,⟨h0,h2⟩,h=>by
  have h1:=Ev h0;simp only [vJ,Bool.and_eq_true,Bool.not_eq_true'];refine ⟨h m v (by simp [look]),Ep h2 (λ n w hw=>h n w ?_)⟩;simp only [look];cases hb:Nat.beq n m with
  | true=>have:=Nat.eq_of_beq_eq_true hb; subst this; rw [h1] at hw; cases hw
  | false=>exact hw
theorem I3:∀ {v:AV} {i:Nat},i∈v.G8↔v.i8 i=true:=by
 intro v
 induction v with
 | cons a b iha ihb=>intro i; simp only [AV.G8,List.mem_append,AV.i8,Bool.or_eq_true,iha,ihb]
 | K5 l ih=>intro i; exact ih
 | C3 f l ih=>intro i; exact ih
 | bx l ih=>intro i; exact ih
 | rc f l ih=>intro i; exact ih
 | ptr j p=>intro i; simp [AV.G8,AV.i8]
 | at_ j p=>intro i; simp [AV.G8,AV.i8]
 | sub j p a b=>intro i; simp [AV.G8,AV.i8]
 | _=>intro i; simp [AV.G8,AV.i8]
def AV.plain:AV->Bool
 | .any|.raw _|.val _ _|.N7 _ _|.nil=>true
 | _=>false
structure Trim (T:List Nat) (f:AV->AV):Prop where
 cons:∀ a b,f (.cons a b)=.cons (f a) (f b)
 K5:∀ l,f (.K5 l)=.K5 (f l)
 C3:∀ g l,f (.C3 g l)=.C3 g (f l)
 bx:∀ l,f (.bx l)=.bx (f l)
 rc:∀ g l,f (.rc g l)=.rc g (f l)
 atom:∀ u,u.ref=true->f u=u\/f u=.any
 wT:∀ u,u.ref=true->(∀ i∈T,u.i8 i=false)->f u=u
 plain:∀ u,u.plain=true->f u=u
theorem AV.shape (P:AV->Prop) (hp:∀ u,u.plain=true->P u) (ha:∀ u,u.ref=true->P u) (hc:∀ a b,P a->P b->P (.cons a b)) (ht:∀ l,P l->P (.K5 l)) (hf:∀ g l,P l->P (.C3 g l)) (hb:∀ l,P l->P (.bx l)) (hr:∀ g l,P l->P (.rc g l)):∀ u,P u:=by
 intro u
 induction u with
 | cons a b iha ihb=>exact hc a b iha ihb
 | K5 l ih=>exact ht l ih
 | C3 f l ih=>exact hf f l ih
 | bx l ih=>exact hb l ih
 | rc f l ih=>exact hr f l ih
 | ptr j p=>exact ha _ rfl
 | at_ j p=>exact ha _ rfl
 | sub j p a b=>exact ha _ rfl
 | _=>exact hp _ rfl
section
variable {T T':List Nat} {f g:AV->AV}
theorem Trim.id (T:List Nat):Trim T (λ u=>u):=⟨λ _ _=>rfl,λ _=>rfl,λ _ _=>rfl,λ _=>rfl,λ _ _=>rfl,λ _ _=>.inl rfl,λ _ _ _=>rfl,λ _ _=>rfl⟩
theorem Trim.map {g:AV->AV} (h1:∀ u,u.ref=true->g u=u\/g u=.any) (h2:∀ u,u.ref=true->(∀ i∈T,u.i8 i=false)->g u=u):Trim T (AV.map g):=by
 have e:∀ u:AV,u.ref=true->u.map g=g u:=by intro u hu; cases u<;>simp only [AV.ref] at hu<;>first|rfl|cases hu
 exact ⟨λ _ _=>rfl,λ _=>rfl,λ _ _=>rfl,λ _=>rfl,λ _ _=>rfl,λ u hu=>by rw [e u hu]; exact h1 u hu,λ u hu hm=>by rw [e u hu]; exact h2 u hu hm,λ u hu=>by cases u<;>simp only [AV.plain] at hu<;>first|rfl|cases hu⟩
theorem Trim.comp (hf:Trim T f) (hg:Trim T' g) {U:List Nat} (h1:∀ i∈T,i∈U) (h2:∀ i∈T',i∈U):Trim U (λ u=>g (f u)):=by
 refine ⟨λ a b=>by rw [hf.cons,hg.cons],λ l=>by rw [hf.K5,hg.K5],λ k l=>by rw [hf.C3,hg.C3],λ l=>by rw [hf.bx,hg.bx],λ k l=>by rw [hf.rc,hg.rc],?_,?_,λ u hu=>by rw [hf.plain u hu,hg.plain u hu]⟩
 ·intro u hu
  rcases hf.atom u hu with h|h
  ·rw [h]; exact hg.atom u hu
  ·rw [h]; exact .inr (hg.plain _ rfl)
 ·intro u hu hm
  rw [hf.wT u hu (λ i hi=>hm i (h1 i hi)),hg.wT u hu (λ i hi=>hm i (h2 i hi))]
theorem Trim.mono (hf:Trim T f) (h:∀ i∈T,i∈T'):Trim T' f:=⟨hf.cons,hf.K5,hf.C3,hf.bx,hf.rc,hf.atom,λ u hu hm=>hf.wT u hu (λ i hi=>hm i (h i hi)),hf.plain⟩
theorem Trim.fix (hf:Trim T f):∀ u,(∀ i∈T,u.i8 i=false)->f u=u:=by
 refine AV.shape _ (λ u hu _=>hf.plain u hu) (λ u hu hm=>hf.wT u hu hm) ?_ ?_ ?_ ?_ ?_
 ·intro a b ha hb hm
  simp only [AV.i8,Bool.or_eq_false_iff] at hm;rw [hf.cons,ha (λ i hi=>(hm i hi).1),hb (λ i hi=>(hm i hi).2)]
 ·intro l hl hm; rw [hf.K5,hl hm]
 ·intro k l hl hm; rw [hf.C3,hl hm]
 ·intro l hl hm; rw [hf.bx,hl hm]
 ·intro k l hl hm; rw [hf.rc,hl hm]
theorem Trim.i8 (hf:Trim T f) {i:Nat}:∀ u,(f u).i8 i=true->u.i8 i=true:=by
 refine AV.shape _ (λ u hu h=>by rw [hf.plain u hu] at h; exact h) (λ u hu h=>?_) ?_ ?_ ?_ ?_ ?_
 ·rcases hf.atom u hu with e|e
  ·rw [e] at h; exact h
  ·rw [e] at h; cases h
 ·intro a b ha hb h
  rw [hf.cons] at h;simp only [AV.i8,Bool.or_eq_true] at h ⊢;exact h.imp ha hb
 ·intro l hl h; rw [hf.K5] at h; exact hl h
 ·intro k l hl h; rw [hf.C3] at h; exact hl h
 ·intro l hl h; rw [hf.bx] at h; exact hl h
 ·intro k l hl h; rw [hf.rc] at h; exact hl h
theorem Trim.comm (hf:Trim T f) (hg:Trim T' g):∀ u,f (g u)=g (f u):=by
 refine AV.shape _ (λ u hu=>by rw [hf.plain u hu,hg.plain u hu,hf.plain u hu]) (λ u hu=>?_) ?_ ?_ ?_ ?_ ?_
 ·have ha:f .any=.any:=hf.plain _ rfl
  have hb:g .any=.any:=hg.plain _ rfl;rcases hf.atom u hu with e|e<;>rcases hg.atom u hu with e'|e'<;>simp only [e,e',ha,hb]
 ·intro a b ha hb; rw [hg.cons,hf.cons,hf.cons,hg.cons,ha,hb]
 ·intro l hl; rw [hg.K5,hf.K5,hf.K5,hg.K5,hl]
 ·intro k l hl; rw [hg.C3,hf.C3,hf.C3,hg.C3,hl]
 ·intro l hl; rw [hg.bx,hf.bx,hf.bx,hg.bx,hl]
 ·intro k l hl; rw [hg.rc,hf.rc,hf.rc,hg.rc,hl]
theorem Trim.drop (i:Nat):Trim [i] (AV.drop i):=by
 refine Trim.map (λ u _=>?_) (λ u _ hm=>?_)
 ·cases hm:u.i8 i with
  | true=>exact .inr (by simp only)
  | false=>exact .inl (by simp only)
 ·simp only [hm i (by simp)]
theorem Trim.kill (i:Nat) (ow:Bool×Ty) (q:List Step):Trim [i] (AV.kill i ow q):=by
 refine Trim.map (λ u hu=>?_) (λ u _ hm=>?_)
 ·unfold AV.AP
  split
  ·exact .inl rfl
  ·split
   ·split<;>first|exact .inl rfl|exact .inr rfl
   ·split
    ·exact .inl rfl
    ·split<;>first|exact .inl rfl|exact .inr rfl
   ·split<;>first|exact .inl rfl|exact .inr rfl
   ·split<;>first|exact .inl rfl|exact .inr rfl
   ·exact .inr rfl
 ·unfold AV.AP; rw [hm i (by simp)]
theorem Trim.Y8 (i:Nat) (ow:Bool):Trim [i] (AV.map (AV.xh i ow)):=by
 refine Trim.map (λ u hu=>?_) (λ u _ hm=>?_)
 ·unfold AV.xh
  split
  ·exact .inl rfl
  ·split
   ·split<;>first|exact .inl rfl|exact .inr rfl
   ·split<;>first|exact .inl rfl|exact .inr rfl
   ·split<;>first|exact .inl rfl|exact .inr rfl
   ·exact .inr rfl
 ·unfold AV.xh; rw [hm i (by simp)]
def xf:List Nat->AV->AV
 | [],u=>u
 | i::g,u=>xf g (u.drop i)
theorem Trim.w7:∀ g:List Nat,Trim g (xf g)
 | []=>Trim.id []
 | i::g=>Trim.comp (Trim.drop i) (Trim.w7 g) (by simp) (λ j hj=>List.mem_cons_of_mem _ hj)
end
structure LP (s s1:St) (T ids:List Nat) (f:AV->AV) (h:Nat->Option g9):Prop where
 fr:∀ n,look n s1.fr=(look n s.fr).map f
 hp:∀ i,look i s1.hp=if i∈T\/i∈ids then h i else look i s.hp
def S6 (s:St) (ids:List Nat):Prop:=∀ n∈ids,look n s.hp=none/\∀ m v,look m s.fr=some v->v.i8 n=false
theorem Cl:∀ {g:List Nat} {s:St} {n:Nat},look n (St.w7 g s).fr=(look n s.fr).map (xf g)
 | [],s,n=>by simp [St.w7,xf]
 | i::g,s,n=>by
  simp only [St.w7];rw [Cl (g:=g) (s:=s.drop i)];simp only [St.drop,N8,Option.map_map];rfl
theorem PM {f:AV->AV} {q:Nat×AV}:∀ {l:List (Nat×AV)},q∈mapA f l->∃ r∈l,r.1=q.1
 | (n,x)::l,h=>by
  rcases List.mem_cons.1 h with rfl|h
  ·exact ⟨_,List.mem_cons_self ..,rfl⟩
  ·obtain ⟨r,hr,e⟩:=PM h; exact ⟨r,by simp [hr],e⟩
theorem BY {f:AV->AV}:∀ {l:List (Nat×AV)},uniq l->uniq (mapA f l)
 | [],_=>trivial
 | (n,x)::l,⟨h1,h2⟩=>⟨λ q hq=>by obtain ⟨r,hr,e⟩:=PM hq; rw [<- e]; exact h1 r hr,BY h2⟩
theorem Cm:∀ {g:List Nat} {s:St},uniq s.fr->uniq (St.w7 g s).fr
 | [],_,h=>h
 | i::g,s,h=>Cm (g:=g) (s:=s.drop i) (BY h)
def Y0 (s t:St) (xs:List Operand):Prop:=∀ x∈xs,t.ev x=s.ev x/\∀ i,(s.ev x).i8 i=true->t.obj i=s.obj i
theorem Y0.refl (s:St) (xs:List Operand):Y0 s s xs:=λ _ _=>⟨rfl,λ _ _=>rfl⟩
def OR.wz (t:St):OR->OR
 | .fail w=>.fail w
 | .ok v _=>.ok v t
 | .F3 p v _=>.F3 p v t
def OR.av:OR->AV
 | .ok v _=>v
 | .F3 _ v _=>v
 | .fail _=>.any
section
variable {E:Env} {s t:St}
theorem OE (k:IntKind) (r:Int):arith k r t=(arith k r s).wz t:=by unfold arith; split<;>rfl
theorem UW (op:BinOp) (k k':IntKind) (a b:Int):wW op k a k' b t=(wW op k a k' b s).wz t:=by
 unfold wW
 split
 ·rfl
 ·rfl
 ·split
  ·split<;>first|rfl|exact OE _ _
  ·rfl
theorem UY (W:Bool) (op:BinOp) (k k':IntKind) (a b:Int):wX W op k a k' b t=(wX W op k a k' b s).wz t:=by
 unfold wX
 split
 ·split<;>rfl
 ·exact UW ..
theorem UX (op:BinOp) (a b:yY):yl op a b t=(yl op a b s).wz t:=by unfold yl; split<;>rfl
theorem UT (T:TypeId) (op:BinOp) (x y:AV):xF E T op x y t=(xF E T op x y s).wz t:=by
 unfold xF
 split
 ·exact UY ..
 ·split<;>rfl
 ·exact UX ..
 ·rfl
theorem Mr (T:TypeId) (op:BinOp) (a:Ty) (x:a.den) (u:Ty) (y:u.den):eqA E T op a x u y t=(eqA E T op a x u y s).wz t:=by
 unfold eqA
 split
 ·split<;>rfl
 ·rfl
theorem UU (T:TypeId) (op:BinOp) (x y:AV):wa E T op x y t=(wa E T op x y s).wz t:=by
 unfold wa
 split
 ·unfold zi; split<;>rfl
 ·exact Mr ..
 ·exact Mr ..
 ·exact UT ..
theorem VT (op:UnOp) (x:AV):unA op x t=(unA op x s).wz t:=by
 unfold unA
 repeat' (first|rfl|exact OE _ _|split)
theorem zG:∀ {xs:List Operand},(∀ x∈xs,t.ev x=s.ev x)->t.J6 xs=s.J6 xs
 | [],_=>rfl
 | x::xs,h=>by simp only [St.J6,h x (by simp),zG (xs:=xs) (λ y hy=>h y (by simp [hy]))]
theorem Z8 {i:Nat}:∀ {xs:List Operand},(s.J6 xs).i8 i=true->∃ x∈xs,(s.ev x).i8 i=true
 | [],h=>by cases h
 | x::xs,h=>by
  simp only [St.J6,AV.i8,Bool.or_eq_true] at h;rcases h with h|h
  ·exact ⟨x,by simp,h⟩
  ·obtain ⟨y,hy,h⟩:=Z8 h; exact ⟨y,by simp [hy],h⟩
theorem Jf {i:Nat} {x:Operand}:∀ {xs:List Operand},x∈xs->(s.ev x).i8 i=true->(s.J6 xs).i8 i=true
 | y::xs,hx,h=>by
  simp only [St.J6,AV.i8,Bool.or_eq_true];rcases List.mem_cons.1 hx with rfl|hx
  ·exact .inl h
  ·exact .inr (Jf hx h)
theorem Ed {i:Nat}:∀ {a b:AV},(a.app b).i8 i=true->a.i8 i=true\/b.i8 i=true:=by
 intro a
 induction a with
 | cons x l _ ih =>
  intro b h;simp only [AV.app,AV.i8,Bool.or_eq_true] at h ⊢;rcases h with h|h
  ·exact .inl (.inl h)
  ·rcases ih h with h|h
   ·exact .inl (.inr h)
   ·exact .inr h
 | _=>intro b h; exact .inr h
def Alike (s t:St) (v:AV):Prop:=∀ i,v.i8 i=true->t.obj i=s.obj i
theorem J1 {i:Nat} {p:List Step} (h:t.obj i=s.obj i):t.part i p=s.part i p:=by simp only [St.part,h]
theorem DN {i:Nat} {p:List Step} {a b:Int} (h:t.obj i=s.obj i):t.view i p a b=s.view i p a b:=by simp only [St.view,J1 h]
theorem Ie {u:Ty} {i:Nat} {p:List Step} (h:t.obj i=s.obj i):t.vd u i p=s.vd u i p:=by simp only [St.vd,J1 h]
theorem UC {u:Ty} {v:AV} (h:Alike s t v):v.asV t u=v.asV s u:=by
 cases v<;>first|rfl|exact Ie (h _ (by simp [AV.i8]))|(simp only [AV.asV]; rw [DN (h _ (by simp [AV.i8]))])
theorem Mw {u:Ty} {v:AV} (h:Alike s t v):v.asR t u=v.asR s u:=by
 unfold AV.asR
 split
 ·exact Ie (h _ (by simp [AV.i8]))
 ·rfl
 ·rename_i i p
  have e:∀ u,t.vd u i p=s.vd u i p:=λ u=>Ie (h i (show AV.i8 i (AV.bx (.ptr i p))=true by simp [AV.i8]));simp only [e]
 ·rfl
theorem ND:∀ {ts:List Ty} {v:AV},Alike s t v->AV.xE t ts v=AV.xE s ts v
 | [],v,_=>by cases v<;>rfl
 | u::ts,v,h=>by
  cases v<;>try rfl
  rename_i a b;simp only [AV.xE,Mw (v:=a) (λ i hi=>h i (by simp [AV.i8,hi])),ND (v:=b) (λ i hi=>h i (by simp [AV.i8,hi]))]
theorem DF {v:AV} (h:Alike s t v):v.uL t=v.uL s:=by
 cases v<;>try rfl
 ·rename_i i p; cases p<;>simp only [AV.uL,h i (by simp [AV.i8])]
 ·rename_i i p a b; cases p<;>simp only [AV.uL,h i (by simp [AV.i8])]
theorem Hv {v:AV} (h:Alike s t v):v.els t=v.els s:=by
 unfold AV.els
 split
 ·rfl
 ·rename_i i p; simp only [J1 (h i (by simp [AV.i8]))]
 ·rename_i i p a b; simp only [DN (h i (by simp [AV.i8]))]
 ·rfl
theorem Em {v:AV} {r:Sigma Ty.den} {g:List Nat} (h:v.uL s=some (r,g)):∀ i∈g,v.i8 i=true:=by
 unfold AV.uL at h;split at h
 ·cases h; simp
 ·split at h
  ·cases h; simp [AV.i8]
  ·cases h
 ·split at h
  ·cases h; simp [AV.i8]
  ·cases h
 ·cases h
theorem yO {v:AV} (h:Alike s t v):v.vj t=v.vj s:=by
 unfold AV.vj
 split
 ·rename_i i
  rw [h i (by simp [AV.i8]),DF h]
 ·rfl
 ·exact DF h
theorem EG {v:AV} {r:Sigma Ty.den} {g:List Nat} (h:v.vj s=some (r,g)):∀ i∈g,v.i8 i=true:=by
 unfold AV.vj at h;split at h
 ·split at h
  ·cases h; simp [AV.i8]
  ·exact Em h
 ·cases h; simp
 ·exact Em h
theorem Ia {u:Ty} {v:AV} (h:Alike s t v):v.uR t u=v.uR s u:=by
 unfold AV.uR
 split
 ·rfl
 ·rfl
 ·simp only [Hv h,DF h]
theorem QM {u:Ty} {v:AV} {r:Sigma λ t:Ty=>List t.den} {g:List Nat} (h:v.uR s u=some (r,g)):∀ i∈g,v.i8 i=true:=by
 unfold AV.uR at h;split at h
 ·cases h; simp
 ·cases h; simp
 ·split at h
  ·cases h
  ·split at h
   ·cases h; simp
   ·split at h
    ·rename_i hg; cases h; exact Em hg
    ·cases h
theorem Hg {d:Int} {x:Option Operand} (h:∀ y,x=some y->t.ev y=s.ev y):bnd t d x=bnd s d x:=by
 cases x with
 | none=>rfl
 | some y=>simp only [bnd,h y rfl]
theorem UB {k:PK} {v:AV} (h:Alike s t v):v.P8 t k=v.P8 s k:=by
 cases k with
 | v u=>simp only [AV.P8,UC h]
 | rd u=>simp only [AV.P8,Mw h]
 | U9=>cases v<;>rfl
 | rcs f n=>rfl
 | el q=>rfl
 | C3 f ts =>
  cases v<;>try rfl
  simp only [AV.P8]; rw [ND (λ i hi=>h i (by simpa [AV.i8] using hi))]
 | own u =>
  have hg:=yO h;unfold AV.P8;dsimp only
  split
  ·rfl
  ·rw [hg]
 | rw u =>
  cases v<;>try rfl
  rename_i i p; cases p<;>simp only [AV.P8,h i (by simp [AV.i8])]
 | mu u =>
  cases v<;>try rfl
  rename_i i p; cases p<;>simp only [AV.P8,h i (by simp [AV.i8])]
theorem NC:∀ {ks:List PK} {v:AV},Alike s t v->AV.uP t ks v=AV.uP s ks v
 | [],v,_=>by cases v<;>rfl
 | k::ks,v,h=>by
  cases v<;>try rfl
  rename_i a b;simp only [AV.uP,UB (v:=a) (λ i hi=>h i (by simp [AV.i8,hi])),NC (v:=b) (λ i hi=>h i (by simp [AV.i8,hi]))]
theorem Xs {k:PK} {v:AV} {x:k.den} {g m:List Nat} (h:v.P8 s k=some (x,g,m)):(∀ i∈g++m,v.i8 i=true)/\(k.l4=false->g=[]/\m=[]):=by
 cases k with
 | v u=>simp only [AV.P8] at h; split at h<;>cases h; simp
 | rd u=>simp only [AV.P8] at h; split at h<;>cases h; simp
 | U9=>simp only [AV.P8] at h; split at h<;>cases h; simp
 | rcs f n=>simp only [AV.P8] at h; cases h
 | el q=>simp only [AV.P8] at h; cases h
 | C3 f ts =>
  simp only [AV.P8] at h;split at h
  ·split at h
   ·split at h<;>cases h; simp
   ·cases h
  ·cases h
 | own u =>
  refine ⟨?_,λ h=>by cases h⟩;simp only [AV.P8] at h;split at h
  ·split at h<;>cases h; simp
  ·split at h
   ·rename_i hg
    split at h
    ·cases h
     intro i hi;exact EG hg i (by simpa using hi)
    ·cases h
   ·cases h
 | rw u =>
  refine ⟨?_,λ h=>by cases h⟩;simp only [AV.P8] at h;split at h
  ·split at h
   ·split at h
    ·cases h; simp [AV.i8]
    ·cases h
   ·cases h
  ·cases h
 | mu u =>
  refine ⟨?_,λ h=>by cases h⟩;simp only [AV.P8] at h;split at h
  ·split at h
   ·split at h
    ·cases h; simp [AV.i8]
    ·cases h
   ·cases h
  ·cases h
theorem QO:∀ {ks:List PK} {v:AV} {x:DK ks} {g m:List Nat},AV.uP s ks v=some (x,g,m)->(∀ i∈g++m,v.i8 i=true)/\(ks.any PK.l4=false->g=[]/\m=[])
 | [],v,x,g,m,h=>by
  cases v<;>simp only [AV.uP] at h<;>cases h;simp
 | k::ks,v,x,g,m,h=>by
  cases v<;>simp only [AV.uP] at h<;>try (cases h; done)
  split at h
  ·rename_i h1 h2
   cases h;obtain ⟨a1,a2⟩:=Xs h1;obtain ⟨b1,b2⟩:=QO h2;refine ⟨?_,?_⟩
   ·intro i hi
    simp only [List.mem_append] at hi a1 b1;simp only [AV.i8,Bool.or_eq_true];rcases hi with (hi|hi)|(hi|hi)
    ·exact .inl (a1 i (.inl hi))
    ·exact .inr (b1 i (.inl hi))
    ·exact .inl (a1 i (.inr hi))
    ·exact .inr (b1 i (.inr hi))
   ·intro ht
    simp only [List.any_cons,Bool.or_eq_false_iff] at ht;obtain ⟨r1,r2⟩:=a2 ht.1;obtain ⟨r3,r4⟩:=b2 ht.2;simp [r1,r2,r3,r4]
  ·cases h
theorem Eg:∀ {parts:List (Nat×Operand)} {r:Sigma Ty.den},(∀ q∈parts,t.ev q.2=s.ev q.2/\Alike s t (s.ev q.2))->S5 t r parts=S5 s r parts
 | [],⟨_,_⟩,_=>rfl
 | (i,v)::parts,⟨u,x⟩,h=>by
  have ih:=λ r=>Eg (parts:=parts) (r:=r) (λ q hq=>h q (by simp [hq]));obtain ⟨h1,h2⟩:=h (i,v) (by simp);have h1:t.ev v=s.ev v:=h1;have h2:=yO h2;have h2:(s.ev v).vj t=(s.ev v).vj s:=h2;simp only [S5,h1,ih]
  split
  ·rfl
  ·split
   ·rfl
   ·rw [h2]
theorem EM:∀ {parts:List (Nat×Operand)} {r r':Sigma Ty.den} {g:List Nat},S5 s r parts=some (r',g)->∀ i∈g,∃ q∈parts,(s.ev q.2).i8 i=true
 | [],⟨_,_⟩,r',g,h=>by simp only [S5] at h; cases h; simp
 | (j,v)::parts,⟨u,x⟩,r',g,h=>by
  simp only [S5] at h;split at h
  ·cases h
  ·split at h
   ·split at h
    ·split at h
     ·intro i hi
      obtain ⟨q,hq,hm⟩:=EM h i hi;exact ⟨q,by simp [hq],hm⟩
     ·cases h
    ·cases h
   ·split at h
    ·rename_i hg
     split at h
     ·split at h
      ·rename_i hb
       cases h;intro i hi;rcases List.mem_append.1 hi with hi|hi
       ·exact ⟨(j,v),by simp,EG hg i hi⟩
       ·obtain ⟨q,hq,hm⟩:=EM hb i hi
        exact ⟨q,by simp [hq],hm⟩
      ·cases h
     ·cases h
    ·cases h
end
end Go.Ex
