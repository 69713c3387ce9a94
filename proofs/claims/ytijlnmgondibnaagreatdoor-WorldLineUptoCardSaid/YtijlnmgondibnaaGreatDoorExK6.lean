import Derived.Test.YtijlnmgondibnaaGreatDoorExK5
set_option linter.unusedVariables false
set_option linter.unusedSimpArgs false
set_option linter.unusedSectionVars false
namespace Go.Ex
section
variable {E:Env} {B:D8} {S:Nat->Prop} {ι:Ix} {s:St} {a:Act} {w:World}
def AS (P:Program) (S:Nat->Prop) (ι:Ix) (o:Oper) (a:Act) (w:World) (s:St) (v:AV):Prop :=
 ∃ val,(∀ w',(execOp a.eval o).run P w'=.ok (.value val) w')/\VX w.heap S ι s.hp v [val]
def zC (P:Program) (S:Nat->Prop) (ι:Ix) (o:Oper) (a:Act) (w:World) (s:St):OR->Prop
 | .fail _=>True
 | .ok v s'=>s'=s/\AS P S ι o a w s v
 | .F0 p v s'=>p->s'=s/\AS P S ι o a w s v
theorem yg {P:Program} {o:Oper} {sem:Sem Value} (he:execOp a.eval o=(do pure (.value (<- sem)))) {v:AV} {val:Value} (hr:∀ w',sem.run P w'=.ok val w')
  (hv:VX w.heap S ι s.hp v [val]):s=s/\AS P S ι o a w s v:=⟨rfl,val,λ w'=>by rw [he]; simp [hr w',Result.andThen],hv⟩
theorem b1L (hE:C6 E B) (h:RS B S ι s a w) {o:Oper} {T:TypeId} {x:Operand} {n:Nat} (ho:o.op=.fieldAddr T x n):zC E.P S ι o a w s (l7 E o s):=by
 have he:execOp a.eval o=(do pure (.value (<- Instr.fieldAt T (a.eval x) n))):=by simp [execOp,ho]
 unfold l7;rw [ho];simp only
 split
 ·rename_i i p hx
  split
  ·rename_i u z cS
   split
   ·rename_i r hc gA
    obtain ⟨e,b,off,h1,h2,h3,h4⟩:=C0 h hx;have hg:=H4 h1 cS;have h4:a.eval x=.pointer (some ⟨b,off,none⟩):=by simpa using h4
    obtain ⟨u2,z2⟩:=r;exact yg he (λ _=>by rw [h4]; exact Ac (C8 hE hc) gA b off) ⟨e,b,off+Q8 u n,h1,V8 hg h2 (xO gA),BM hg h3 (λ G=>ya gA),rfl⟩
   ·trivial
  ·trivial
 ·rename_i t y hx
  split
  ·rename_i u z hc hg
   obtain ⟨b,off,e,h1,h2,h3⟩:=C0 h hx;have e:a.eval x=.pointer (some ⟨b,off,none⟩):=by simpa using e
   have aL:=xO hg;obtain ⟨O1,O2,b',aq,e1,e2,e3,e4,e5,e6⟩:=focus h3 h2 aL hg
   have hO:O1=[]/\O2=[]:=by have:=e1.nil_eq; simpa using this.symm
   rw [ya hg] at e3; cases e3;refine yg he (λ _=>by rw [e]; exact Ac (C8 hE hc) hg b off) ⟨b,off+Q8 t n,rfl,h1,e5,?_⟩;rw [hO.2] at e4; exact e4
  ·trivial
 ·rename_i t y hx
  split
  ·rename_i u z hc hg
   intro hy;obtain ⟨b,off,e,h1,h2,h3⟩:=DD (C0 h hx) hy;have e:a.eval x=.pointer (some ⟨b,off,none⟩):=by simpa using e
   have aL:=xO hg;obtain ⟨O1,O2,b',aq,e1,e2,e3,e4,e5,e6⟩:=focus h3 h2 aL hg
   have hO:O1=[]/\O2=[]:=by have:=e1.nil_eq; simpa using this.symm
   rw [ya hg] at e3; cases e3;refine yg he (λ _=>by rw [e]; exact Ac (C8 hE hc) hg b off) ⟨b,off+Q8 t n,rfl,h1,e5,?_⟩;rw [hO.2] at e4; exact e4
  ·trivial
 ·trivial
theorem b1G (hE:C6 E B) (h:RS B S ι s a w) {o:Oper} {T:TypeId} {x y:Operand} (ho:o.op=.indexAddr T x y):zC E.P S ι o a w s (l7 E o s):=by
 have he:execOp a.eval o=(do pure (.value (<- Instr.indexAt T (a.eval x) (a.eval y)))):=by simp [execOp,ho]
 unfold l7;rw [ho];simp only
 split
 ·rename_i d p k n hx hy
  split
  ·rename_i m u z cS
   split
   ·rename_i hc
    intro hn;obtain ⟨e,b,off,h1,h2,h3,h4⟩:=C0 h hx;have hg:=H4 h1 cS;have h4:a.eval x=.pointer (some ⟨b,off,none⟩):=by simpa using h4
    obtain ⟨dH,_⟩:=VX.H5 (C0 h hy);exact yg he (λ _=>by rw [h4,dH]; exact EP (C8 hE hc) b off hn) ⟨e,b,off+n.toNat*u.size,h1,V8 hg h2 ⟨hn,M7⟩,BM hg h3 (λ G=>by simp only [x7,x8]),rfl⟩
   ·trivial
  ·trivial
 ·rename_i m t z k n hx hy
  split
  ·rename_i hc
   intro hn;obtain ⟨b,off,e,h1,h2,h3⟩:=C0 h hx;have e:a.eval x=.pointer (some ⟨b,off,none⟩):=by simpa using e
   obtain ⟨dH,_⟩:=VX.H5 (C0 h hy);have aL:w8 (.arr m t) z [.idx n]:=⟨hn,by cases t<;>trivial⟩;have hg:j8 (.arr m t) z [.idx n]=some ⟨t,List.getD z (Int.toNat n) t.r9⟩:=by simp only [j8]
   obtain ⟨O1,O2,b',aq,e1,e2,e3,e4,e5,e6⟩:=focus h3 h2 aL hg
   have hO:O1=[]/\O2=[]:=by have:=e1.nil_eq; simpa using this.symm
   have e3':x7 w.heap (.arr m t) [.idx n] b off=some (b,off+Int.toNat n*t.size):=by simp only [x7]
   rw [e3'] at e3; cases e3;refine yg he (λ _=>by rw [e,dH]; exact EP (C8 hE hc) b off hn) ⟨b,off+Int.toNat n*t.size,rfl,h1,e5,?_⟩;rw [hO.2] at e4; exact e4
  ·trivial
 ·rename_i t z k n hx hy
  split
  ·rename_i hc
   intro hn;obtain ⟨cs,e,hR⟩:=C0 h hx;have e:a.eval x=o8 (.d0 false t) cs:=by simpa using e
   obtain ⟨dH,_⟩:=VX.H5 (C0 h hy);rcases hR with ⟨_,_,hz⟩|⟨b1,o1,cap,O',c1,c2,c3,c4,c5,c6,c7,c8⟩
   ·subst hz; exact (Dd hn).elim
   ·have fY:a.eval x=.slice (some ⟨b1,o1,none⟩) (List.length z) cap:=by rw [e,c1]; rfl
    obtain ⟨b1',b2,b3,b4⟩:=D5 (sz:=t.size) hn;obtain ⟨P1,P2,P3,e1,g1,g2,g3⟩:=i8.split (d:=t.r9) (i:=Int.toNat n) b1' c5;have hle:t.size<=List.length z*t.size - Int.toNat n*t.size:=by omega
    rw [n9,m0 _ _ _ _ hle] at g2;have hP:P2=[]:=by rw [c7] at e1; have:=List.append_eq_nil_iff.1 e1.symm; exact (List.append_eq_nil_iff.1 this.2).1
    refine yg he (λ _=>by rw [fY,dH]; exact U2 (C8 hE hc) b1 o1 _ cap hn) ⟨b1,o1+Int.toNat n*t.size,rfl,c8,by omega,?_⟩;rw [hP] at g2; exact g2
  ·trivial
 ·rename_i d p k n hx hy
  split
  ·rename_i u z cS
   split
   ·rename_i hc
    intro hn;obtain ⟨e,u',y',cs,h1,h2,h3,h4,h5⟩:=C0 h hx;have hg:=H4 h1 cS;rw [h3] at hg; cases hg;obtain ⟨dH,_⟩:=VX.H5 (C0 h hy);have h5:a.eval x=o8 (.d0 true u) cs:=by simpa using h5
    obtain ⟨O2,m1,m2,m3⟩:=F9 h.hs h1 h2 h3 h4;rcases m3 with ⟨_,_,hz⟩|⟨b1,o1,cap,O',rfl,c2,c3,c4,c5,c6,c7⟩
    ·subst hz; exact (Dd hn).elim
    ·have fY:a.eval x=.slice (some ⟨b1,o1,none⟩) (List.length z) cap:=h5
     obtain ⟨b0,off0,q1,q2⟩:=h4;have hh:=(O6 b0 off0 _).1 q2.symm;refine yg he (λ _=>by rw [fY,dH]; exact U2 (C8 hE hc) b1 o1 _ cap hn) ⟨e,b1,o1+n.toNat*u.size,h1,V8 h3 h2 ⟨hn,M7⟩,vM (Ab h3 q1 ?_) c7.free.lt,rfl⟩;simp only [x7,hh,x8]
   ·trivial
  ·trivial
 ·rename_i d p lo hi k n hx hy
  split
  ·rename_i u l dZ
   split
   ·rename_i hc
    intro hn;have fg:@LE.le Int Int.instLEInt 0 n:=hn.1;have lF:@LT.lt Int Int.instLTInt n (hi - lo):=hn.2;obtain ⟨A,c,k1,k2,k3,k4,k5,e,k6,k7,k8⟩:=DB h.hs (C0 h hx) dZ;obtain ⟨dH,_⟩:=VX.H5 (C0 h hy);have hz:l≠[]:=by rintro rfl; have k3:((0:Nat):Int)=hi - lo:=k3; omega
    obtain ⟨b,off,rfl,k9⟩:=k8 hz;obtain ⟨off2,q1,rfl,q3⟩:=k9 n hn.1 (by omega);exact yg he (λ _=>by rw [k1,dH]; exact U2 (C8 hE hc) b off _ c (by omega)) ⟨e,b,_,k6,q3,q1,rfl⟩
   ·trivial
  ·trivial
 ·trivial
theorem b3X (_hE:C6 E B) (h:RS B S ι s a w) {o:Oper} {x:Operand} (ho:o.op=.nilCheck x):zC E.P S ι o a w s (l7 E o s):=by
 unfold l7; rw [ho];simp only
 split
 ·rename_i i p hx
  obtain ⟨e,b,off,h1,h2,h3,h4⟩:=C0 h hx;have h4:a.eval x=.pointer (some ⟨b,off,none⟩):=by simpa using h4
  exact ⟨rfl,.pointer (some ⟨b,off,none⟩),λ w'=>by simp only [execOp,ho,h4]; rfl,e,b,off,h1,h2,h3,rfl⟩
 ·rename_i t y hx
  obtain ⟨b,off,e,h1,h2,h3⟩:=C0 h hx;have e:a.eval x=.pointer (some ⟨b,off,none⟩):=by simpa using e
  exact ⟨rfl,.pointer (some ⟨b,off,none⟩),λ w'=>by simp only [execOp,ho,e]; rfl,b,off,rfl,h1,h2,h3⟩
 ·rename_i t y hx
  intro hy;obtain ⟨b,off,e,h1,h2,h3⟩:=DD (C0 h hx) hy;have e:a.eval x=.pointer (some ⟨b,off,none⟩):=by simpa using e
  exact ⟨rfl,.pointer (some ⟨b,off,none⟩),λ w'=>by simp only [execOp,ho,e]; rfl,b,off,rfl,h1,h2,h3⟩
 ·rename_i f t y hx
  intro hy;have hv:=C0 h hx;obtain ⟨p,e,-⟩:=IG hv hy;exact ⟨rfl,a.eval x,λ w'=>by simp only [execOp,ho,e]; rfl,hv⟩
 ·rename_i f l hx
  obtain ⟨us,e,h1⟩:=C0 h hx;have e:a.eval x=.func (.func f) #[] us.toArray:=by simpa using e
  exact ⟨rfl,.func (.func f) #[] us.toArray,λ w'=>by simp only [execOp,ho,e]; rfl,us,rfl,h1⟩
 ·rename_i g b hx
  intro hb;have hv:=Hg h hx;have hb:b=true:=hb;subst hb;exact ⟨rfl,.func (.func g) #[] #[],λ w'=>by simp only [execOp,ho,hv]; rfl,[fnV g true],rfl,rfl,rfl⟩
 ·trivial
theorem BB (hE:C6 E B) (h:RS B S ι s a w) {o:Oper} (ho:zz o.op=true):zC E.P S ι o a w s (l7 E o s):=by
 unfold zz at ho;split at ho
 ·rename_i e; exact b1L hE h e
 ·rename_i e; exact b1G hE h e
 ·rename_i e; exact b3X hE h e
 ·cases ho
end
section
variable {S:Nat->Prop} {H H':Array Go.Obj}
theorem sib {t:Ty} {O:List Nat} {b off:Nat} {x:t.den} (hR:g9 H S t O (e8 H b off t.size) x) (hb:off+t.size<=(u7 H b).length) (hc:e8 H' b off t.size=e8 H b off t.size) (hO:∀ c∈O,H'[c]?=H[c]?)
  {q:List Step} (ho:w8 t x q) {u:Ty} {y:u.den} (hg:j8 t x q=some ⟨u,y⟩) {b' aq:Nat} (hn:x7 H t q b off=some (b',aq)):x7 H' t q b off=some (b',aq)/\e8 H' b' aq u.size=e8 H b' aq u.size :=
 ⟨(yG hR hb ho hc hO).trans hn,yz hR hb ho hc hO hg hn⟩
theorem VC:∀ {t:Ty} {p:List Step} {b off:Nat} {O1:List Nat} {x:t.den},u6 H S t p b off O1 x->off+t.size<=(u7 H b).length->e8 H' b off t.size=e8 H b off t.size->(∀ c∈O1,H'[c]?=H[c]?) ->
  ∀ {u0:Ty} {y0:u0.den},j8 t x p=some ⟨u0,y0⟩->∀ {b0 off0:Nat},x7 H t p b off=some (b0,off0) ->
  (∀ {q:List Step},w8 u0 y0 q->∀ {u:Ty} {y:u.den},j8 u0 y0 q=some ⟨u,y⟩->∀ {b' aq:Nat},x7 H u0 q b0 off0=some (b',aq)->x7 H' u0 q b0 off0=some (b',aq)/\e8 H' b' aq u.size=e8 H b' aq u.size) ->
  ∀ {q:List Step},w8 t x q->∀ {u:Ty} {y:u.den},j8 t x q=some ⟨u,y⟩->∀ {b' aq:Nat},x7 H t q b off=some (b',aq)->x7 H' t q b off=some (b',aq)/\e8 H' b' aq u.size=e8 H b' aq u.size:=by
 intro t;have here:∀ {t:Ty} {x:t.den} {b off:Nat},e8 H' b off t.size=e8 H b off t.size->∀ {u:Ty} {y:u.den},j8 t x []=some ⟨u,y⟩->∀ {b' aq:Nat},x7 H t [] b off=some (b',aq)->x7 H' t [] b off=some (b',aq)/\e8 H' b' aq u.size=e8 H b' aq u.size:=by
  intro t x b off hc u y hg b' aq hn;rw [B0] at hg; cases hg;rw [x8] at hn; cases hn;exact ⟨x8 ..,hc⟩
 induction t with
 | pair a c iha ihc =>
  intro p b off O1 x hR hb hc hO u0 y0 dE b0 off0 dd hP q ho u y hg b' aq hn
  match p,hR,dE,dd with
  | [],_,dE,dd =>
   rw [B0] at dE; cases dE;rw [x8] at dd; cases dd;exact hP ho hg hn
  | .l6 0::p,⟨P1,P2,e,h1,h2⟩,dE,dd =>
   subst e;simp only [Ty.size] at hb hc
   match q,ho,hg,hn with
   | [],_,hg,hn=>exact here hc hg hn
   | .l6 0::q,ho,hg,hn=>exact iha h1 (by omega) (Y3 hc (by omega) (by omega)) (λ c hc=>hO c (by simp [hc])) dE dd hP ho hg hn
   | .l6 (m+1)::q,ho,hg,hn=>exact sib h2 (by omega) (Y3 hc (by omega) (by omega)) (λ c hc=>hO c (by simp [hc])) (q:=.l6 m::q) ho hg hn
   | .idx i::q,ho,_,_=>simp [w8] at ho
  | .l6 (n+1)::p,⟨P1,P2,e,h1,h2⟩,dE,dd =>
   subst e;simp only [Ty.size] at hb hc
   match q,ho,hg,hn with
   | [],_,hg,hn=>exact here hc hg hn
   | .l6 0::q,ho,hg,hn=>exact sib h1 (by omega) (Y3 hc (by omega) (by omega)) (λ c hc=>hO c (by simp [hc])) (q:=q) ho hg hn
   | .l6 (m+1)::q,ho,hg,hn=>exact ihc h2 (by omega) (Y3 hc (by omega) (by omega)) (λ c hc=>hO c (by simp [hc])) dE dd hP (q:=.l6 m::q) ho hg hn
   | .idx i::q,ho,_,_=>simp [w8] at ho
  | .idx i::p,hR,_,_=>simp [u6] at hR
 | arr n t ih =>
  intro p b off O1 x hR hb hc hO u0 y0 dE b0 off0 dd hP q ho u y hg b' aq hn
  match p,hR,dE,dd with
  | [],_,dE,dd =>
   rw [B0] at dE; cases dE;rw [x8] at dd; cases dd;exact hP ho hg hn
  | .l6 i::p,hR,_,_=>simp [u6] at hR
  | .idx i::p,⟨hl,hi,P1,P2,P3,e,h1,h2,h3⟩,dE,dd =>
   subst e;obtain ⟨b1,b2,b3,b4⟩:=D5 (sz:=t.size) hi;simp only [Ty.size] at hb hc
   match q,ho,hg,hn with
   | [],_,hg,hn=>exact here hc hg hn
   | .l6 j::q,ho,_,_=>simp [w8] at ho
   | .idx j::q,⟨hj,ho⟩,hg,hn =>
    obtain ⟨d1,d2,d3,d4⟩:=D5 (sz:=t.size) hj;simp only [x7] at hn ⊢;simp only [j8] at hg;have gN:e8 H' b (off+j.toNat*t.size) t.size=e8 H b (off+j.toNat*t.size) t.size:=Y3 hc (by omega) (by omega);by_cases bS:i.toNat=j.toNat
    ·rw [<- bS] at ho hg hn gN ⊢
     exact ih h2 (by omega) gN (λ c hc=>hO c (by simp [hc])) dE dd hP ho hg hn
    ·rcases Nat.lt_or_gt_of_ne bS with bf|fk
     ·have hd:j.toNat - (i.toNat+1)<(List.drop (i.toNat+1) x).length:=by simp only [List.length_drop]; omega
      obtain ⟨Q1,Q2,Q3,e,k1,k2,k3⟩:=i8.split (d:=t.r9) hd h3;have e1:(i.toNat+1)*t.size+(j.toNat - (i.toNat+1))*t.size=j.toNat*t.size:=by rw [<- Nat.add_mul]; congr 1; omega
      have hm:(j.toNat - (i.toNat+1))*t.size+t.size<=(n - (i.toNat+1))*t.size:=by omega
      rw [n9,m0 _ _ _ _ (by omega),Nat.add_assoc,e1] at k2;have e2:(List.drop (i.toNat+1) x).getD (j.toNat - (i.toNat+1)) t.r9=List.getD x j.toNat t.r9:=by
       simp only [List.getD_eq_getElem?_getD,List.getElem?_drop];rw [show i.toNat+1+(j.toNat - (i.toNat+1))=j.toNat from by omega]
      rw [e2] at k2;exact sib k2 (by omega) gN (λ d hd=>hO d (by rw [e]; simp [hd])) ho hg hn
     ·have hd:j.toNat<(List.take i.toNat x).length:=by simp only [List.length_take]; omega
      obtain ⟨Q1,Q2,Q3,e,k1,k2,k3⟩:=i8.split (d:=t.r9) hd h1;have hm:j.toNat*t.size+t.size<=i.toNat*t.size:=by
       rw [<- Nat.succ_mul]; exact Nat.mul_le_mul_right _ (by omega)
      rw [n9,m0 _ _ _ _ (by omega)] at k2;have e2:(List.take i.toNat x).getD j.toNat t.r9=List.getD x j.toNat t.r9:=by
       simp only [List.getD_eq_getElem?_getD,List.getElem?_take];rw [if_pos (by omega)]
      rw [e2] at k2;exact sib k2 (by omega) gN (λ d hd=>hO d (by rw [e]; simp [hd])) ho hg hn
 | d0 o t ih =>
  intro p b off O1 x hR hb hc hO u0 y0 dE b0 off0 dd hP q ho u y hg b' aq hn
  match p,hR,dE,dd with
  | [],_,dE,dd =>
   rw [B0] at dE; cases dE;rw [x8] at dd; cases dd;exact hP ho hg hn
  | .l6 i::p,hR,_,_=>cases o<;>simp [u6] at hR
  | .idx i::p,hR,dE,dd =>
   cases o with
   | false=>simp [u6] at hR
   | true =>
    obtain ⟨hi,c1,o1,cap,P1,P2,P3,e,e1,e2,e3,e4,e5,e6,e7⟩:=hR;subst e;obtain ⟨b1,b2,b3,b4⟩:=D5 (sz:=t.size) hi;have cQ:List.length x*t.size<=cap*t.size:=Nat.mul_le_mul_right _ e2;have pF:=e4.free.u7;simp only [Ty.size] at hb hc
    match q,ho,hg,hn with
    | [],_,hg,hn=>exact here (t:=.d0 true t) hc hg hn
    | .l6 j::q,ho,_,_=>simp [w8] at ho
    | .idx j::q,⟨hj,ho⟩,hg,hn =>
     obtain ⟨d1,d2,d3,d4⟩:=D5 (sz:=t.size) hj;have jy:(u7 H' b)[off]?=some (.slice (some ⟨c1,o1,none⟩) (List.length x) cap):=by
      rw [b5R hc (j:=off) (by omega) (by omega)]; exact e1
     simp only [x7,e1] at hn dd;simp only [x7,jy];simp only [j8] at hg;have gN:e8 H' c1 (o1+j.toNat*t.size) t.size=e8 H c1 (o1+j.toNat*t.size) t.size:=l4 (hO c1 (by simp)) _ _;by_cases bS:i.toNat=j.toNat
     ·rw [<- bS] at ho hg hn gN ⊢
      exact ih e6 (by omega) gN (λ c hc=>hO c (by simp [hc])) dE dd hP ho hg hn
     ·rcases Nat.lt_or_gt_of_ne bS with bf|fk
      ·have hd:j.toNat - (i.toNat+1)<(List.drop (i.toNat+1) x).length:=by simp only [List.length_drop]; omega
       obtain ⟨Q1,Q2,Q3,e,k1,k2,k3⟩:=i8.split (d:=t.r9) hd e7;have f1:(i.toNat+1)*t.size+(j.toNat - (i.toNat+1))*t.size=j.toNat*t.size:=by rw [<- Nat.add_mul]; congr 1; omega
       have hm:(j.toNat - (i.toNat+1))*t.size+t.size<=(List.length x - (i.toNat+1))*t.size:=by omega
       rw [n9,m0 _ _ _ _ (by omega),Nat.add_assoc,f1] at k2;have f2:(List.drop (i.toNat+1) x).getD (j.toNat - (i.toNat+1)) t.r9=List.getD x j.toNat t.r9:=by
        simp only [List.getD_eq_getElem?_getD,List.getElem?_drop];rw [show i.toNat+1+(j.toNat - (i.toNat+1))=j.toNat from by omega]
       rw [f2] at k2;exact sib k2 (by omega) gN (λ d hd=>hO d (by rw [e]; simp [hd])) ho hg hn
      ·have hd:j.toNat<(List.take i.toNat x).length:=by simp only [List.length_take]; omega
       obtain ⟨Q1,Q2,Q3,e,k1,k2,k3⟩:=i8.split (d:=t.r9) hd e5;have hm:j.toNat*t.size+t.size<=i.toNat*t.size:=by
        rw [<- Nat.succ_mul]; exact Nat.mul_le_mul_right _ (by omega)
       rw [n9,m0 _ _ _ _ (by omega)] at k2;have f2:(List.take i.toNat x).getD j.toNat t.r9=List.getD x j.toNat t.r9:=by
        simp only [List.getD_eq_getElem?_getD,List.getElem?_take];rw [if_pos (by omega)]
       rw [f2] at k2;exact sib k2 (by omega) gN (λ d hd=>hO d (by rw [e]; simp [hd])) ho hg hn
 | _ =>
  intro p b off O1 x hR hb hc hO u0 y0 dE b0 off0 dd hP q ho u y hg b' aq hn
  match p,hR,dE,dd with
  | [],_,dE,dd =>
   rw [B0] at dE; cases dE;rw [x8] at dd; cases dd;exact hP ho hg hn
  | .idx i::p,hR,_,_=>simp [u6] at hR
  | .l6 i::p,hR,_,_=>simp [u6] at hR
theorem b9M {t0:Ty} {l:List t0.den} {b off b1 o1 cap n:Nat} {Op:List Nat} (hR:g9 H S (.d0 true t0) Op (e8 H b off 1) l) (gG:∀ c∈Op,c<H.size) (aF:Op.Nodup) (hb:b<H.size) (bQ:b∉Op)
  (hh:e8 H b off 1=[.slice (some ⟨b1,o1,none⟩) l.length cap]) (h1:1<=cap) (hc:V2 H H' b1 (o1+l.length*t0.size) n) :
  ∀ {q:List Step},w8 (.d0 true t0) l q->∀ {u:Ty} {y:u.den},j8 (.d0 true t0) l q=some ⟨u,y⟩->∀ {b' aq:Nat},x7 H (.d0 true t0) q b off=some (b',aq)->x7 H' (.d0 true t0) q b off=some (b',aq)/\e8 H' b' aq u.size=e8 H b' aq u.size:=by
 intro q ho u y hg b' aq hn;rcases hR with ⟨_,⟨A,c,e,eN⟩,_⟩|⟨b2,o2,cap2,O',c1,c2,c3,c4,c5,rfl,c7⟩
 ·rw [hh] at e
  simp only [List.cons.injEq,Value.slice.injEq,and_true] at e;have:=eN rfl; omega
 ·rw [hh] at c1
  simp only [List.cons.injEq,Value.slice.injEq,Option.some.injEq,Addr.mk.injEq,and_true] at c1;obtain ⟨⟨rfl,rfl⟩,-,rfl⟩:=c1;have bG:b≠b1:=λ e=>bQ (by simp [e]);have cA:e8 H' b off 1=e8 H b off 1:=hc.cells hb (λ e=>absurd e bG)
  match q,ho,hg,hn with
  | [],_,hg,hn =>
   rw [B0] at hg; cases hg;rw [x8] at hn; cases hn;exact ⟨x8 ..,cA⟩
  | .l6 j::q,ho,_,_=>simp [w8] at ho
  | .idx j::q,⟨hj,ho⟩,hg,hn =>
   obtain ⟨d1,d2,d3,d4⟩:=D5 (sz:=t0.size) hj;have jy:=(O6 b off _).1 hh;have pA:=(O6 b off _).1 (cA.trans hh);simp only [x7,jy] at hn;simp only [x7,pA];simp only [j8] at hg;obtain ⟨P1,P2,P3,e,g1,g2,g3⟩:=i8.split (d:=t0.r9) d1 c5;subst e;rw [n9,m0 _ _ _ _ (by omega)] at g2;have cQ:=c7.free.u7;have ed:List.length l*t0.size<=cap*t0.size:=Nat.mul_le_mul_right _ c2;refine sib g2 (by omega) (hc.cells (gG b1 (by simp)) (λ _=>.inl (by omega))) (λ d hd=>hc.rest d ?_ (gG d (by simp [hd]))) ho hg hn;rintro rfl;exact (List.nodup_cons.1 aF).1 (by simp [hd])
end
section
variable {E:Env} {B:D8} {S:Nat->Prop} {ι:Ix} {s:St} {a:Act} {w:World}
theorem RS.spare (h:RS B S ι s a w) {i:Nat} {e:g8} (he:look i s.hp=some e) (_hnb:e≠.K1) {w':World} (k:E4 (l5 ι i e) w w') (aS:OB w'.heap S ι i e) (aX:w'.heap.size=w.heap.size)
  (jl:∀ {q:List Step},w8 e.ty e.x q->∀ {u:Ty} {y:u.den},j8 e.ty e.x q=some ⟨u,y⟩->∀ {b off:Nat},Place w.heap ι i e q=some (b,off)->Place w'.heap ι i e q=some (b,off)/\e8 (VH w'.heap ι i e) b off u.size=e8 (VH w.heap ι i e) b off u.size) :
  RS B S ι s a w':=by
 have hold:∀ {b:Nat},((∃ j ej,j≠i/\look j s.hp=some ej/\b∈l5 ι j ej)\/S b)->w'.heap[b]?=w.heap[b]?:=by
  intro b hb;refine k.frame b (hb.elim (λ⟨j,ej,_,h1,h2⟩=>(h.hs.bl j ej h1 b h2).2.2) (h.hs.slt b)) (λ nW=>?_);rcases hb with ⟨j,ej,h0,h1,h2⟩|hb
  ·exact h.hs.dj i j e ej he h1 (Ne.symm h0) b nW h2
  ·exact (h.hs.bl i e he b nW).1 hb
 have qu:HS B S ι s.hp w':=by
  refine ⟨k.os.trans h.hs.os,k.tape.trans h.hs.tape,k.out.trans h.hs.out,by rw [aX]; exact h.hs.size,?_,λ b hb=>by rw [aX]; exact h.hs.slt b hb,h.hs.s0,h.hs.s1,?_,λ j ej hj c hc=>?_,h.hs.dj,h.hs.pin⟩
  ·intro c hc hm
   rw [k.frame c (Nat.lt_of_lt_of_le hc h.hs.size) (λ pW=>by rcases (h.hs.bl i e he c pW).2.1 with h1|h1; omega; exact hm h1)];exact h.hs.frame c hc hm
  ·intro j ej hj
   by_cases e1:j=i
   ·subst e1; rw [he] at hj; cases hj; exact aS
   ·exact (h.hs.ob j ej hj).s8 (λ b hb=>hold (hb.imp (λ hb=>⟨j,ej,e1,hj,hb⟩) id)) (λ _ h=>h)
  ·rw [aX]; exact h.hs.bl j ej hj c hc
 have gW:∀ {j:Nat} {ej:g8},look j s.hp=some ej->∀ {q:List Step},w8 ej.ty ej.x q->∀ {r:Nat×Nat},Loc w.heap ι j ej q=some r->Loc w'.heap ι j ej q=some r:=by
  intro j ej hj q aL r hl;by_cases e1:j=i
  ·subst e1; rw [he] at hj; cases hj
   obtain ⟨u,y,hg⟩:=QF aL;obtain ⟨g1,g2⟩:=C2 (b:=r.1) (off:=r.2) hl;exact vM (jl aL hg g1).1 (by rw [aX]; exact g2)
  ·exact Ew (J7 hl) (h.hs.ob j ej hj) h.hs.slt (λ b hb=>hold (.inl ⟨j,ej,e1,hj,hb⟩)) aL hl
 have iI:∀ {j:Nat} {ej:g8},look j s.hp=some ej->∀ {q:List Step},w8 ej.ty ej.x q->∀ {u:Ty} {y:u.den},j8 ej.ty ej.x q=some ⟨u,y⟩->∀ {cs:List Value},Cells w.heap ι j ej q u cs->Cells w'.heap ι j ej q u cs:=by
  intro j ej hj q aL u y hg cs hc;by_cases e1:j=i
  ·subst e1; rw [he] at hj; cases hj
   obtain ⟨b0,o0,g1,g2⟩:=hc;obtain ⟨m1,m2⟩:=jl aL hg g1;exact ⟨b0,o0,m1,g2.trans m2.symm⟩
  ·exact Ky (Bw hc) (h.hs.ob j ej hj) h.hs.slt (λ b hb=>hold (.inl ⟨j,ej,e1,hj,hb⟩)) aL hg hc
 refine ⟨qu,h.dfr,h.sz,λ t v hv=>?_⟩;have:=VX.map (H':=w'.heap) (S':=S) (ι':=ι) (cH:=s.hp) (f:=λ u=>u) (λ b hb=>hold (.inr hb)) (λ _ h=>h) ?_ (h.fr t v hv)
 ·rwa [AV.map_id] at this
 ·intro u vs hu _ h
  cases u<;>simp only [AV.ref] at hu<;>try cases hu
  ·obtain ⟨e',b,off,h1,h2,h3,h4⟩:=h
   exact ⟨e',b,off,h1,h2,gW h1 h2 h3,h4⟩
  ·obtain ⟨e',u,y,cs,h1,h2,h3,h4,h5⟩:=h
   exact ⟨e',u,y,cs,h1,h2,h3,iI h1 h2 h3 h4,h5⟩
  ·obtain ⟨e',v',h1,h2,h3,h4,h5,h6⟩:=h
   refine ⟨e',v',h1,h2,h3,h4,h5,?_⟩;rcases h6 with ⟨t,l,a,cap,k1,k2,k3,k4⟩|⟨n,t,l,b,off,k1,k2,k3,k4⟩
   ·exact .inl ⟨t,l,a,cap,k1,k2,iI h1 h2 k1 k3,k4⟩
   ·exact .inr ⟨n,t,l,b,off,k1,k2,gW h1 h2 k3,k4⟩
def yn (B:D8) (S:Nat->Prop) (ι:Ix) (hp:List (Nat×g8)) (g:List Nat) (i:Nat) (e:g8) (p:List Step) (t0:Ty) (l m:List t0.den) (b off:Nat) (v':Value) (w:World):Prop :=
 ∃ O',Loc w.heap ι i e p=some (b,off)/\g9 w.heap S (.d0 true t0) O' [v'] (l++m)/\O'.Nodup/\b∉O' /\
  ∀ c∈O',(¬ S c/\(B.w0.heap.size<=c\/B.M c)/\c<w.heap.size)/\(∀ j ej,j≠i->j∉g->look j hp=some ej->c∉l5 ι j ej) /\
   (c∈l5 ι i e->∃ Op,g9 w.heap S (.d0 true t0) Op (e8 w.heap b off 1) l/\c∈Op)
theorem Sy (hE:C6 E B) (h:RS B S ι s a w) {o:Oper} {c:Call} (ho:o.op=.call c) (hc:c.callee=.builtin .append) {x y:Operand} {T U:TypeId} (ha:c.args.toList=[x,y]) (eW:c.argTypes.toList=[T,U])
  (hk:(∃ e',E.P.underlying U=some (.slice e'))\/E.P.underlying U=some .string) {q:Bool} {t0:Ty} {bts:Nat} (hT:look T E.tt=some ⟨.d0 q t0,bts⟩) {i:Nat} {p:List Step} (hx:s.ev x=.at_ i p)
  {e:g8} (he:look i s.hp=some e) (jW:(∃ t x,e=.var t x)\/∃ t x j q,e=.own (.d0 true t) x/\p=.idx j::q) {l:List t0.den} (hg:j8 e.ty e.x p=some ⟨.d0 true t0,l⟩)
  {b off:Nat} (hl:Loc w.heap ι i e p=some (b,off)) {m:List t0.den} {g:List Nat} (cu:(s.ev y).uY s t0=some (⟨t0,m⟩,g)) (eo:i∉g) (_hgn:g.Nodup)
  (iN:l.length+m.length<=140737488355328) (gO:(l.length+m.length)*t0.wb<=140737488355328) :
  ∃ v' w',(execOp a.eval o).run E.P w=.ok (.value v') w'/\RS B S ι s a w'/\w8 e.ty e.x p/\yn B S ι s.hp g i e p t0 l m b off v' w':=by
 have cI:e≠.K1:=J7 hl;obtain ⟨Og,news,k1,k2,k3,k4⟩:=IX (P:=E.P) h hk cu (h.ev y);obtain ⟨e2,u,y2,cs,r1,aL,r3,r4,r5⟩:=C0 h hx;rw [he] at r1; cases r1;rw [hg] at r3; cases r3;obtain ⟨Op,m1,mn,m2,m3,m4,m5⟩:=M2 cI (h.hs.ob i e he) h.hs.slt aL hg hl;have fp:=(h.hs.ob i e he).yR cI h.hs.slt aL hg hl m2;obtain ⟨cg,dp⟩:=C2 hl;have cF:cs=e8 w.heap b off 1:=by
  obtain ⟨b0,off0,q1,q2⟩:=r4;rw [cg] at q1; cases q1;rw [l4 (F4 dp)] at q2;exact q2
 have eY:e8 w.heap b off 1=[a.eval x]:=by
  have gi:(e8 w.heap b off 1).length=1:=m2.length;have r5':a.eval x=o8 (.d0 true t0) cs:=by simpa using r5
  rw [r5',cF]
  match cW:e8 w.heap b off 1,gi with
  | [z],_=>rfl
 have m2':g9 w.heap S (.d0 true t0) Op [a.eval x] l:=by rw [<- eY]; exact m2
 have df:o6 E.P 100 T (.d0 true t0)=true:=DC (t:=.d0 q t0) (u:=.d0 true t0) rfl (p7 hE hT);have dA:∀ c∈Op,c∈l5 ι i e:=λ c hc=>H8 (m1 c hc);have aF:(Op++Og).Nodup:=List.nodup_append.2 ⟨mn,k3,by
  rintro c h1 c' h2 rfl;obtain ⟨j,e',j1,j2,j3⟩:=k4 c h2;exact h.hs.dj i j e e' he j2 (by rintro rfl; exact eo j1) c (dA c h1) j3⟩
 have lL:∀ c∈Og,¬ S c/\(B.w0.heap.size<=c\/B.M c)/\c<w.heap.size:=λ c hc=>by
  obtain ⟨j,e',_,j2,j3⟩:=k4 c hc;exact h.hs.bl j e' j2 c j3
 have ln:=λ c hc=>h.hs.bl i e he c (dA c hc);obtain ⟨v',w',O',q1,q2,q3,q4,q5,q6,q7⟩:=RN df o.type h.hs.slt m2' k1 k2 aF (λ c hc=>(List.mem_append.1 hc).elim (λ h=>⟨(ln c h).1,(ln c h).2.2⟩) (λ h=>⟨(lL c h).1,(lL c h).2.2⟩)) iN gO;have aD:c.args=#[x,y]:=by rw [<- ha]
 have eB:c.argTypes=#[T,U]:=by rw [<- eW]
 have aP:(execOp a.eval o).run E.P w=.ok (.value v') w':=by
  simp [execOp,ho,resolve,hc,invoke,builtin,aD,eB,q1]
 have fW:∀ c∈l5 ι i e,¬ S c/\c<w.heap.size:=λ c hc=>⟨(h.hs.bl i e he c hc).1,(h.hs.bl i e he c hc).2.2⟩;have bO:e8 w'.heap b off 1=[a.eval x]:=by rw [l4 (q4.frame b dp fp)]; exact eY
 obtain ⟨n2,n3⟩:=OB.same (H':=w'.heap) (h.hs.ob i e he) fW h.hs.slt jW aL hg hl q4.size m2 (λ c hc hn=>q4.frame c hc hn) (by
  show g9 w'.heap S (.d0 true t0) Op (e8 w'.heap b off 1) l;rw [bO]; exact q6)
 have tF:RS B S ι s a w':=by
  rcases q7 with q7|⟨b1,o1,cap,n,f1,f2,f3,f4,f5⟩
  ·exact h.uW E9.nil q7
  ·have dG:b1∈Op:=by
    rcases m2' with ⟨_,⟨A,c,e0,eN⟩,_⟩|⟨b2,o2,cap2,O2,c1,_,_,_,_,rfl,_⟩
    ·rw [f1] at e0
     simp only [List.cons.injEq,Value.slice.injEq,and_true] at e0;have:=eN rfl; omega
    ·rw [f1] at c1
     simp only [List.cons.injEq,Value.slice.injEq,Option.some.injEq,Addr.mk.injEq,and_true] at c1;rw [c1.1.1]; simp
   refine h.spare he cI (q4.mono dA) n2 f5 ?_;obtain ⟨O,hO,hR,eu,gw,pk,ga,dK⟩:=(h.hs.ob i e he).see cI h.hs.slt;obtain ⟨O1,O3,b',aq,g1,g2,g3,g4,g5,g6⟩:=focus hR eu aL hg
   have mf:=cg;rw [H3 cI,g3] at mf; cases mf;have g4':g9 w.heap S (.d0 true t0) O3 (e8 w.heap b off 1) l:=by
    have g4:g9 (VH w.heap ι i e) S (.d0 true t0) O3 (e8 (VH w.heap ι i e) b off 1) l:=g4;rw [l4 (F4 dp)] at g4;exact (vN (λ c hc=>(h.hs.ob i e he).S6 cI (hO.mem_iff.1 (g1.mem_iff.2 (by simp [hc])))) h.hs.slt).1 g4
   obtain rfl:Op=O3:=m2.det g4';have cv:(O1++Op).Nodup:=(g1.nodup_iff).1 ((hO.nodup_iff).2 (List.nodup_cons.1 gw).2);have gQ:b1<w.heap.size:=(fW b1 (dA b1 dG)).2;have bF:b1≠(VR w.heap ι i e).1:=by
    rintro rfl;exact (List.nodup_cons.1 gw).1 (hO.mem_iff.1 (g1.mem_iff.2 (by simp [dG])))
   have qf:(VR w'.heap ι i e)=(VR w.heap ι i e):=by cases e<;>simp [VR,f5]
   have hV:∀ c,c≠b1->(VH w'.heap ι i e)[c]?=(VH w.heap ι i e)[c]?:=by
    intro c cA;have hr:∀ c,c≠b1->w'.heap[c]?=w.heap[c]?:=by
     intro c cA;rcases Nat.lt_or_ge c w.heap.size with h1|h1
     ·exact f4.rest c cA h1
     ·rw [Array.getElem?_eq_none h1,Array.getElem?_eq_none (by omega)]
    cases e with
    | own t x =>
     simp only [VH,gh];rw [Array.getElem?_push,Array.getElem?_push,f5]
     split
     ·rfl
     ·exact hr c cA
    | _=>exact hr c cA
   have tu:V2 (VH w.heap ι i e) (VH w'.heap ι i e) b1 (o1+l.length*t0.size) n:=by
    obtain ⟨arr,db,T',⟨fz,⟨z1,z2⟩,z3⟩,z4,z5⟩:=f4.at_;exact ⟨⟨arr,db,T',⟨fz,⟨(F4 gQ).trans z1,z2⟩,(F4 (by omega)).trans z3⟩,z4,z5⟩,λ c cA _=>hV c cA⟩
   intro q' mo u' y' jZ b' o' cH;rw [H3 cI] at cH ⊢;rw [qf];have tm:b<(VH w.heap ι i e).size:=Nat.lt_of_lt_of_le dp wN;refine VC g2 eu (l4 (hV _ (Ne.symm bF)) _ _) (λ c hc=>hV c ?_) hg g3 ?_ mo jZ cH
   ·rintro rfl
    exact (List.nodup_append.1 cv).2.2 c hc c dG rfl
   ·have te:e8 (VH w.heap ι i e) b off 1=[.slice (some ⟨b1,o1,none⟩) l.length cap]:=by
     rw [l4 (F4 dp),eY,f1]
    intro q2 rT u2 y2 sP b2 off2 lF;exact b9M (H':=VH w'.heap ι i e) g4 (λ c hc=>Nat.lt_of_lt_of_le (fW c (dA c hc)).2 wN) mn tm fp te f3 tu rT sP lF
 refine ⟨v',w',aP,tF,aL,O',n3,q2,q3,?_,?_⟩
 ·intro hb
  rcases (q5 b hb).1 with h1|h1
  ·omega
  ·rcases List.mem_append.1 h1 with h1|h1
   ·exact fp h1
   ·obtain ⟨j,e',j1,j2,j3⟩:=k4 b h1
    exact h.hs.dj i j e e' he j2 (by rintro rfl; exact eo j1) b m4 j3
 ·intro c hc
  obtain ⟨f1,f2⟩:=q5 c hc;have fact:(¬ S c/\(B.w0.heap.size<=c\/B.M c)/\c<w'.heap.size)/\(∀ j ej,j≠i->j∉g->look j s.hp=some ej->c∉l5 ι j ej)/\(c∈l5 ι i e->c∈Op):=by
   rcases f1 with f1|f1
   ·exact ⟨⟨λ hs=>by have:=h.hs.slt c hs; omega,.inl (Nat.le_trans h.hs.size f1),f2⟩,λ j ej _ _ hj cA=>by have:=(h.hs.bl j ej hj c cA).2.2; omega,λ cA=>by have:=(fW c cA).2; omega⟩
   ·rcases List.mem_append.1 f1 with f1|f1
    ·have:=ln c f1
     exact ⟨⟨this.1,this.2.1,f2⟩,λ j ej hj _ dn=>h.hs.dj i j e ej he dn (Ne.symm hj) c (dA c f1),λ _=>f1⟩
    ·have:=lL c f1
     obtain ⟨j0,e0,j1,j2,j3⟩:=k4 c f1;exact ⟨⟨this.1,this.2.1,f2⟩,λ j ej _ fT dn=>h.hs.dj j0 j e0 ej j2 dn (by rintro rfl; exact fT j1) c j3,λ cA=>absurd cA (h.hs.dj j0 i e0 e j2 he (by rintro rfl; exact eo j1) c j3)⟩
  exact ⟨fact.1,fact.2.1,λ cA=>⟨Op,by rw [bO]; exact q6,fact.2.2 cA⟩⟩
theorem BO {e:g8} {p:List Step} {r:Sigma Ty.den} (h:zt e p r=true):AY e e/\((∃ t x,e=.var t x)\/∃ t x j q,e=.own (.d0 true t) x/\p=.idx j::q):=by
 unfold zt at h;split at h
 ·exact ⟨.inl ⟨_,_,_,rfl,rfl⟩,.inl ⟨_,_,rfl⟩⟩
 ·split at h
  ·exact ⟨.inr (.inl ⟨_,_,_,rfl,rfl⟩),.inr ⟨_,_,_,_,rfl,rfl⟩⟩
  ·cases h
 ·cases h
theorem Y4 {a:Act} {t d:Nat} {v:Value} (h:t≠d):(a.put (some d) v).eval (.tmp t)=a.eval (.tmp t):=by
 show (a.tmps.setIfInBounds d v).getD t undef=a.tmps.getD t undef;simp only [Array.getD_eq_getD_getElem?,Array.getElem?_setIfInBounds,if_neg (Ne.symm h)]
theorem JA {a:Act} {d:Nat} {v:Value} (h:d<a.tmps.size):(a.put (some d) v).eval (.tmp d)=v:=by
 show (a.tmps.setIfInBounds d v).getD d undef=v;simp only [Array.getD_eq_getD_getElem?,Array.getElem?_setIfInBounds,if_pos h]; rfl
theorem Rs (hE:C6 E B) (h:RS B S ι s a w) {g:List Nat} (dQ:(g.all λ i=>!pinned i)=true) {i:Nat} (eo:i∉g) {e:g8} (he:look i s.hp=some e) {p:List Step} (aL:w8 e.ty e.x p) {t0:Ty} {l m:List t0.den} (hg:j8 e.ty e.x p=some ⟨.d0 true t0,l⟩) {b off:Nat} {v':Value}
  (hP:yn B S ι s.hp g i e p t0 l m b off v' w) {o:Oper} {T:TypeId} {ad:Operand} {d:Nat} (ho:o.op=.store T ad (.tmp d)) (lj:a.eval ad=.pointer (some ⟨b,off,none⟩)) (hv:a.eval (.tmp d)=v') (bD:I4 E T (.d0 true t0)=true)
  {r:Sigma Ty.den} (aG:s6 e.ty e.x p (.d0 true t0) (l++m)=some r):y6 E.P B o a w (.raw undef) (((St.w6 g s).kill i e.kd p).w4 i (e.D6 r)):=by
 obtain ⟨O',hl,k5,k6,k7,k8⟩:=hP;have hd:=h.w6 (g:=g) dQ;have js:look i (St.w6 g s).hp=some e:=by rw [I8,if_neg eo]; exact he
 refine zX hE hd ho (i:=i) (e:=e) js aL hl lj hg bD (u':=.d0 true _) (O2:=O') (cs:=[v']) k5 k6 (by rw [hv]; rfl) aG (λ c hc=>?_) k7;obtain ⟨f1,f2,f3⟩:=k8 c hc;refine ⟨f1,λ j ej hj dn=>?_,f3⟩;rw [I8] at dn;split at dn
 ·cases dn
 ·rename_i fT; exact f2 j ej hj fT dn
theorem Yk (hE:C6 E B) (h:RS B S ι s a w) {o:Oper} {c:Call} (ho:o.op=.call c) (hc:c.callee=.builtin .append) {x y:Operand} {T U:TypeId} (ha:c.args.toList=[x,y]) (eW:c.argTypes.toList=[T,U])
  {o2:Oper} {T2:TypeId} {adv:AV} {ad:Operand} {d:Nat} (_ho2:o2.op=.store T2 ad (.tmp d)) {p:Prop} {s2:St} (hb:xC E T U T2 (s.ev x) (s.ev y) adv d s=some (p,s2)) (hp:p) :
  ∃ i p0 e t0 l m g r v' w',s.ev x=.at_ i p0/\adv=.ptr i p0/\look i s.hp=some e/\i∉g/\(g.all λ i=>!pinned i)=true/\j8 e.ty e.x p0=some ⟨.d0 true t0,l⟩/\I4 E T2 (.d0 true t0)=true /\
   s6 e.ty e.x p0 (.d0 true t0) (l++m)=some r/\s2=(((St.w6 g (s.put (some d) .any)).kill i e.kd p0).w4 i (e.D6 r)) /\
   (execOp a.eval o).run E.P w=.ok (.value v') w'/\RS B S ι s a w'/\w8 e.ty e.x p0/\∀ b off,Loc w.heap ι i e p0=some (b,off)->yn B S ι s.hp g i e p0 t0 l m b off v' w':=by
 unfold xC at hb;split at hb
 ·rename_i i p0 j q q1 t0 bts u1 bts1 hx hT hU
  split at hb
  ·rename_i e aS jt
   simp only [Bool.and_eq_true] at jt;obtain ⟨bS,jt⟩:=jt;have bS:=Nat.eq_of_beq_eq_true bS;subst bS;split at hb
   ·rename_i u l hg
    split at hb
    ·rename_i t m g cu
     split at hb
     ·rename_i hu
      split at hb
      ·rename_i ht
       subst hu; subst ht;split at hb
       ·rename_i r aG
        split at hb
        ·rename_i bD
         cases hb;simp only [Bool.and_eq_true,Bool.not_eq_true'] at bD;obtain ⟨⟨⟨⟨bD,bK⟩,eo⟩,ic⟩,dQ⟩:=bD;obtain ⟨rfl,iN,gO⟩:=hp;obtain ⟨_,jW⟩:=BO bK;have eo:i∉g:=by intro hm; simp [hm] at eo
         have hk:(∃ e',E.P.underlying U=some (.slice e'))\/E.P.underlying U=some .string:=by
          cases u1<;>first|cases jt|skip
          ·exact .inr (W2 (p7 hE hU))
          ·obtain ⟨et,k',f1,_⟩:=F5 (p7 hE hU)
           exact .inl ⟨et,f1⟩
         have aS:look i s.hp=some e:=aS;have key:∀ b off,Loc w.heap ι i e q=some (b,off)->∃ v' w',(execOp a.eval o).run E.P w=.ok (.value v') w'/\RS B S ι s a w'/\w8 e.ty e.x q/\yn B S ι s.hp g i e q _ l m b off v' w' :=
          λ b off hl=>Sy hE h ho hc ha eW hk hT hx aS jW hg hl cu eo (BY ic) iN gO
         obtain ⟨e2,u,y2,cs,r1,aL,r3,r4,r5⟩:=C0 h hx;rw [aS] at r1; cases r1;obtain ⟨b,off,hl⟩:=BL (h.hs.ob i e aS) h.hs.slt (BO bK).2 aL hg;obtain ⟨v',w',k1,k2,k3,k4⟩:=key b off hl;exact ⟨i,q,e,_,l,m,g,r,v',w',hx,rfl,aS,eo,dQ,hg,bD,aG,rfl,k1,k2,k3,λ b' aq ez=>by rw [hl] at ez; cases ez; exact k4⟩
        ·cases hb
       ·cases hb
      ·cases hb
     ·cases hb
    ·cases hb
   ·cases hb
  ·cases hb
 ·cases hb
theorem Zn (hE:C6 E B) (h:RS B S ι s a w) {o:Oper} {c:Call} (ho:o.op=.call c) (hc:c.callee=.builtin .append) {x y:Operand} {T U:TypeId} (ha:c.args.toList=[x,y]) (eW:c.argTypes.toList=[T,U])
  {o2:Oper} {T2:TypeId} {ad:Operand} {d:Nat} (hd:G3 B.n (some d)=true) (iA:o2.op=.store T2 ad (.tmp d)) (lj:∀ t,ad=.tmp t->t≠d) {p:Prop} {s2:St} (hb:xC E T U T2 (s.ev x) (s.ev y) (s.ev ad) d s=some (p,s2)) (hp:p) :
  ∃ v' w',(execOp a.eval o).run E.P w=.ok (.value v') w'/\y6 E.P B o2 (a.put (some d) v') w' (.raw undef) s2:=by
 obtain ⟨i,p0,e,t0,l,m,g,r,v',w',hx,qd,aS,eo,dQ,hg,bD,aG,rfl,k1,k2,k3,k4⟩:=Yk hE h ho hc ha eW iA hb hp;refine ⟨v',w',k1,?_⟩;obtain ⟨e',b,off,h1,h2,h3,h4⟩:=C0 h qd;rw [aS] at h1; cases h1;have iu:=k2.put hd (v:=.any) (val:=v') ⟨v',rfl⟩;have lg:(a.put (some d) v').eval ad=.pointer (some ⟨b,off,none⟩):=by
  have tW:a.eval ad=.pointer (some ⟨b,off,none⟩):=by simpa using h4
  rw [<- tW];cases ad with
  | tmp t=>exact Y4 (lj t rfl)
  | _=>rfl
 have dD:(a.put (some d) v').eval (.tmp d)=v':=JA (by rw [h.sz]; simpa [G3,Nat.blt_eq] using hd);exact Rs hE iu (g:=g) dQ eo (e:=e) (by simpa [St.put] using aS) h2 hg (k4 b off h3) iA lg dD bD aG
theorem OQ {o:Oper} (ho:zz o.op=true) {a a':Act} (h:∀ t∈Bd o,a'.eval (.tmp t)=a.eval (.tmp t)):execOp a'.eval o=execOp a.eval o:=by
 have cz:∀ x∈o.op.operands.toList,a'.eval x=a.eval x:=by
  intro x hx;cases x with
  | tmp t=>exact h t (List.mem_filterMap.2 ⟨.tmp t,hx,rfl⟩)
  | _=>rfl
 unfold zz at ho;split at ho
 ·rename_i e; rw [e] at cz; simp [Op.operands] at cz; simp [execOp,e,cz]
 ·rename_i e; rw [e] at cz; simp [Op.operands] at cz; simp [execOp,e,cz]
 ·rename_i e; rw [e] at cz; simp [Op.operands] at cz; simp [execOp,e,cz]
 ·cases ho
theorem PS {a:Act} {d e:Nat} {v u:Value} (h:d≠e):(a.put (some d) v).put (some e) u=(a.put (some e) u).put (some d) v:=by
 simp only [Act.put];congr 1;apply Array.ext_getElem?;intro i;simp only [Array.getElem?_setIfInBounds,Array.size_setIfInBounds];by_cases h1:e=i
 ·subst h1; simp [h]
 ·simp [h1]
theorem SH (hE:C6 E B) (hn:B.n=E.nt) {ops:Array Oper} {Q:Exit->Act->World->Prop} {oa:Oper} {c:Call} (ho:oa.op=.call c) (hc:c.callee=.builtin .append) {x y:Operand} {T U:TypeId} (ha:c.args.toList=[x,y]) (eW:c.argTypes.toList=[T,U])
  {d:Nat} (hd:G3 B.n (some d)=true):∀ {l:List Oper} {S:Nat->Prop} {ι:Ix} {s:St} {a:Act} {w:World} {p:Prop} {s2:St} {n:Nat},RS B S ι s a w->Dm E T U x y d l s=some (p,s2,n)->p ->
  ∃ v' w',(execOp a.eval oa).run E.P w=.ok (.value v') w'/\((∀ S' ι' a' w'',RS B S' ι' s2 a' w''->wpList E.P ops Q (l.drop n) a' w'')->wpList E.P ops Q l (a.put (some d) v') w')
 | [],S,ι,s,a,w,p,s2,n,_,hf,_=>by cases hf
 | o::rest,S,ι,s,a,w,p,s2,n,h,hf,hp=>by
  have aD:c.args=#[x,y]:=by rw [<- ha]
  have eB:c.argTypes=#[T,U]:=by rw [<- eW]
  unfold Dm at hf;split at hf
  ·rename_i hg gB
   split at hf
   ·rename_i mP
    split at hf
    ·rename_i d1 ke
     split at hf
     ·rename_i p1 v bZ hv
      split at hf
      ·rename_i p2 s3 n2 kz
       cases hf;simp only [Bool.and_eq_true,Bool.not_eq_true'] at bZ;obtain ⟨⟨⟨c1,c2⟩,c3⟩,c4⟩:=bZ;have bG:d1≠d:=by rintro rfl; simp at c1
       have dW:=BB hE h mP;have dD:AS E.P S ι o a w s v:=by
        split at hv
        ·cases hv
        ·rename_i v0 s0 e0; cases hv; rw [e0] at dW; exact dW.2
        ·rename_i q0 v0 s0 e0; cases hv; rw [e0] at dW; exact (dW hp.1).2
       obtain ⟨val,aP,dy⟩:=dD;rw [ke] at gB;have cr:=h.put (d:=some d1) (by rw [hn]; exact gB) dy;obtain ⟨v',w',g1,g2⟩:=SH hE hn ho hc ha eW hd (ops:=ops) (Q:=Q) cr kz hp.2;have ex:(a.put (some d1) val).eval x=a.eval x:=by
        cases x with
        | tmp t=>exact Y4 (by rintro rfl; simp at c3)
        | _=>rfl
       have ey:(a.put (some d1) val).eval y=a.eval y:=by
        cases y with
        | tmp t=>exact Y4 (by rintro rfl; simp at c4)
        | _=>rfl
       refine ⟨v',w',?_,λ hk=>?_⟩
       ·rw [<- g1]; simp [execOp,ho,resolve,hc,invoke,builtin,aD,eB,ex,ey]
       ·unfold wpList
        simp only [Region.wanted,hg,if_true];refine .inl ?_;unfold Oper.wp;have lZ:(execOp (a.put (some d) v').eval o).run E.P w'=.ok (.value val) w':=by
         have rY:∀ t∈Bd o,(a.put (some d) v').eval (.tmp t)=a.eval (.tmp t):=by
          intro t ht;refine Y4 (λ e=>?_);rw [e] at ht;have h5:(Bd o).contains d=true:=by simpa using ht
          rw [h5] at c2; cases c2
         rw [OQ mP rY]; exact aP w'
        rw [lZ];show wpList E.P ops Q rest ((a.put (some d) v').put o.dst val) w';rw [ke,PS (Ne.symm bG)];exact g2 hk
      ·cases hf
     ·cases hf
    ·cases hf
   ·split at hf
    ·rename_i T2 ad d' iA
     split at hf
     ·rename_i bZ
      split at hf
      ·rename_i p1 s3 cu
       cases hf;simp only [Bool.and_eq_true] at bZ;obtain ⟨c1,c2⟩:=bZ;obtain rfl:=Nat.eq_of_beq_eq_true c1;obtain ⟨v',w',g1,g2⟩:=Zn hE h ho hc ha eW hd iA (λ t e=>by subst e; rintro rfl; simp at c2) cu hp;refine ⟨v',w',g1,λ hk=>?_⟩;unfold wpList;simp only [Region.wanted,hg,if_true];refine .inl (g2 _ _ (λ S' ι' w2 val h1 h2=>?_));exact hk S' ι' _ w2 (h1.put (by rw [hn]; exact gB) h2)
      ·cases hf
     ·cases hf
    ·cases hf
  ·cases hf
theorem b9L {e:g8} {p:List Step} {r:Sigma Ty.den} (h:zt e p r=true):AY e (e.D6 r):=by
 unfold zt at h;obtain ⟨r1,r2⟩:=r;split at h
 ·rename_i t x
  obtain rfl:r1=t:=of_decide_eq_true h;exact .inl ⟨r1,x,r2,rfl,rfl⟩
 ·rename_i t x
  split at h
  ·obtain rfl:r1=.d0 true t:=of_decide_eq_true h
   exact .inr (.inl ⟨t,x,r2,rfl,rfl⟩)
  ·cases h
 ·cases h
theorem OB.swap {H H1 H':Array Go.Obj} {i:Nat} {e:g8} (ho:OB H S ι i e) (bR:∀ c∈l5 ι i e,¬ S c/\c<H.size) (hS:∀ c,S c->c<H.size) {p:List Step} (hk:(∃ t x,e=.var t x)\/∃ t x j q,e=.own (.d0 true t) x/\p=.idx j::q) (aL:w8 e.ty e.x p) {u:Ty} {y:u.den} (hg:j8 e.ty e.x p=some ⟨u,y⟩)
  {b off:Nat} (hl:Loc H ι i e p=some (b,off)) (aX:H.size<=H1.size) {Op:List Nat} (gG:g9 H S u Op (e8 H b off u.size) y) (hH:∀ c,c<H.size->c∉Op->H1[c]?=H[c]?) (hc:V2 H1 H' b off u.size) (jf:H'.size=H1.size)
  {u':Ty} {z:u'.den} {O2:List Nat} (hz:g9 H' S u' O2 (e8 H' b off u'.size) z) (eR:∀ c∈O2,c<H'.size/\(c<H.size->c∈Op)) (da:O2.Nodup) {r:Sigma Ty.den} (aG:s6 e.ty e.x p u' z=some r) :
  ∃ O,(∀ c∈O,c∈ι.own i\/c∈O2)/\OB H' S (ι.C3 i O) i (e.D6 r):=by
 have he:e≠.K1:=J7 hl;have fp:=ho.yR he hS aL hg hl gG;obtain ⟨Om,m1,mn,m2,m3,m4,m5⟩:=M2 he ho hS aL hg hl;obtain ⟨O,hO,hR,hb,aF,bf,ga,dK⟩:=ho.see he hS;obtain ⟨O1,O3,b',aq,e1,e2,e3,e4,e5,e6⟩:=focus hR hb aL hg
 obtain ⟨cg,dp⟩:=C2 hl;rw [H3 he] at cg;rw [e3] at cg; cases cg;have cv:(O1++O3).Nodup:=(e1.nodup_iff).1 ((hO.nodup_iff).2 (List.nodup_cons.1 aF).2);have bn:∀ c∈O1,c∈ι.own i:=λ c hc=>hO.mem_iff.1 (e1.mem_iff.2 (by simp [hc]));have cN:∀ c∈O3,c∈ι.own i:=λ c hc=>hO.mem_iff.1 (e1.mem_iff.2 (by simp [hc]));have bF:=(List.nodup_cons.1 aF).1;have di:∀ c∈ι.own i,c∈l5 ι i e:=by intro c hc; cases e<;>simp [l5,hc]
 have e4':g9 H S u O3 (e8 H b off u.size) y:=by
  rw [l4 (F4 dp)] at e4;exact (vN (λ c hc=>ho.S6 he (cN c hc)) hS).1 e4
 obtain rfl:Op=O3:=gG.det e4';have eV:∀ c∈O1,c<H.size:=λ c hc=>ho.S6 he (bn c hc);have dP:∀ c,(c=(VR H ι i e).1/\c<H.size)\/c∈O1\/S c->H1[c]?=H[c]?:=by
  rintro c (⟨rfl,h1⟩|h1|h1)
  ·exact hH _ h1 (λ h=>bF (cN _ h))
  ·exact hH c (eV c h1) (λ h=>(List.nodup_append.1 cv).2.2 c h1 c h rfl)
  ·exact hH c (hS c h1) (λ h=>(bR c (di c (cN c h))).1 h1)
 have jJ:(∃ t x,e=.var t x)->(VR H ι i e).1<H.size:=by rintro ⟨t,x,rfl⟩; exact bf
 obtain ⟨n1,n2⟩:=u6.move (H':=H1) hk e2 eV hS aX dP jJ;have cU:(VR H1 ι i e).2+e.ty.size<=(u7 (VH H1 ι i e) (VR H1 ι i e).1).length/\(VR H1 ι i e).1<(VH H1 ι i e).size/\¬ S (VR H1 ι i e).1/\(VR H1 ι i e).1∉O1:=by
  rcases hk with ⟨t,x,rfl⟩|⟨t,x,j,q,rfl,rfl⟩
  ·have hr:=jJ ⟨_,_,rfl⟩
   refine ⟨?_,Nat.lt_of_lt_of_le hr aX,(bR _ (by simp [l5,VR])).1,λ h=>bF (bn _ h)⟩;have:=N6 (dP _ (.inl ⟨rfl,hr⟩));show (VR H ι i (.var t x)).2+_<=(u7 H1 (VR H ι i (.var t x)).1).length;rw [this]; exact hb
  ·refine ⟨?_,by simp [VH,VR,Bi],λ h=>by have:=hS _ h; simp only [VR] at this; omega,λ h=>by have:=eV _ h; simp only [VR] at this; omega⟩
   simp only [VH,VR,vW] at hb ⊢; exact hb
 have pw:∀ c∈O2,c<H'.size:=λ c hc=>(eR c hc).1;have rh:∀ c,S c->c<H'.size:=λ c hc=>by have:=hS c hc; omega
 have ij:g9 (VH H' ι i e) S u' O2 (e8 (VH H' ι i e) b off u'.size) z:=by
  rw [l4 (F4 (by omega))];exact (vN pw rh).2 hz
 obtain ⟨O4,f1,f2,f3⟩:=Bm n1 hg (n2.trans e3) cU.1 cU.2.1 (List.nodup_append.1 cv).1 cU.2.2.2 (λ c hc=>⟨(bR c (di c (bn c hc))).1,Nat.lt_of_lt_of_le (eV c hc) (Nat.le_trans aX wN)⟩) cU.2.2.1
  (λ c hc=>Nat.lt_of_lt_of_le (hS c hc) (Nat.le_trans aX wN)) (λ _ h=>h) (AT hc jf) ij aG
 have gU:O4.Nodup:=(f1.nodup_iff).2 (List.nodup_append.2 ⟨(List.nodup_append.1 cv).1,da,by
  rintro c h1 d h2 rfl;exact (List.nodup_append.1 cv).2.2 c h1 c ((eR c h2).2 (eV c h1)) rfl⟩)
 have bU:∀ c∈O4,c∈ι.own i\/c∈O2:=by
  intro c hc;rcases List.mem_append.1 (f1.mem_iff.1 hc) with h|h
  ·exact .inl (bn c h)
  ·exact .inr h
 have kK:∀ c∈O4,c<H'.size:=by
  intro c hc;rcases bU c hc with h|h
  ·have:=ho.S6 he h; omega
  ·exact (eR c h).1
 have f2':=(vN kK rh).1 f2;refine ⟨O4,bU,?_⟩;cases e with
 | var t x =>
  simp only [g8.D6,OB,Ix.C3,if_true];obtain ⟨_,hf,_⟩:=ho;refine ⟨⟨O4,List.Perm.refl _,f2'⟩,?_,?_⟩
  ·rw [F1 f3]; exact hc.free (hf.s8 (dP _ (.inl ⟨rfl,jJ ⟨_,_,rfl⟩⟩)))
  ·refine List.nodup_cons.2 ⟨λ h=>?_,gU⟩
   rcases bU _ h with h1|h1
   ·exact bF h1
   ·exact bF (cN _ ((eR _ h1).2 (jJ ⟨_,_,rfl⟩)))
 | own t x =>
  simp only [g8.D6,OB,Ix.C3,if_true];refine ⟨⟨O4,List.Perm.refl _,?_⟩,gU⟩;obtain ⟨⟨O',_,fC⟩,_⟩:=ho;have fJ:r.1.size=t.size:=F1 f3;have:e8 (VH H' ι i (.own t x)) (VR H1 ι i (.own t x)).1 (VR H1 ι i (.own t x)).2 r.1.size=ι.cells i:=by
   simp only [VH,VR];rw [<- jf];simp only [e8,vW,List.drop_zero];exact List.take_of_length_le (by rw [fC.length,fJ]; exact Nat.le_refl _)
  rw [this] at f2';exact f2'
 | K1=>exact absurd rfl he
def wv (P:Program) (o:Oper) (a:Act) (w:World) (R:Value->World->Prop):Prop :=
 ∃ g vs,(execOp a.eval o).run P w=.ok (.enter g vs) w/\Calls P g vs w (λ e w'=>∃ v,e=.returned v/\R v w')
theorem wv.wp {P:Program} {o:Oper} {R:Value->World->Prop} (h:wv P o a w R) {next:Act->World->Prop} {Q:Exit->Act->World->Prop} (hn:∀ v w',R v w'->next (a.put o.dst v) w'):o.wp P a w next Q:=by
 obtain ⟨g,vs,h1,h2⟩:=h;unfold Oper.wp;rw [h1];refine Calls.mono h2 ?_;rintro e w' ⟨v,rfl,hr⟩;exact hn v w' hr
theorem wv.mono {P:Program} {o:Oper} {R R':Value->World->Prop} (h:wv P o a w R) (hr:∀ v w',R v w'->R' v w'):wv P o a w R':=by
 obtain ⟨g,vs,h1,h2⟩:=h;exact ⟨g,vs,h1,h2.mono (λ e w' ⟨v,e1,k⟩=>⟨v,e1,hr v w' k⟩)⟩
theorem over_self {cur:List Value} {off n:Nat} (h:off+n<=cur.length):over cur off ((cur.drop off).take n)=cur:=by
 rw [over,List.length_take,List.length_drop,Nat.min_eq_left (by omega),List.append_assoc]
 conv=>rhs; rw [<- List.take_append_drop off cur,<- List.take_append_drop n (cur.drop off)]
 rw [List.drop_drop]
theorem XF (h:RS B S ι s a w) {i:Nat} {e:g8} (aS:look i s.hp=some e) {p:List Step} (aL:w8 e.ty e.x p) {t:Ty} {l:(Ty.d0 true t).den} (hg:j8 e.ty e.x p=some ⟨.d0 true t,l⟩) {b off:Nat} (hl:Loc w.heap ι i e p=some (b,off))
  {Op:List Nat} (gG:g9 w.heap S (.d0 true t) Op (e8 w.heap b off (Ty.d0 true t).size) l) (kl:∀ c∈Op,c∈ι.own i) {ks:List PK} {ys:List Operand} {y:DK ks} (hy:AL s ks i e p t ys=some (y,[],[])) :
  ∃ S1:Nat->Prop,(∀ b,S b->S1 b)/\(∀ b,S1 b->b<w.heap.size)/\(∀ c∈Op,¬ S1 c)/\T5 w.heap S1 ks (ys.map a.eval) y []:=by
 have dA:∀ c∈Op,c∈l5 ι i e:=λ c hc=>H8 (kl c hc);have fin:∀ {ι':Ix} {s0:St},RS B S ι' s0 a w->AV.uV s0 ks (s0.J3 ys)=some (y,[],[])->(∀ j ej,j∈R7.loose ks (s0.J3 ys)->look j s0.hp=some ej->∀ c∈Op,c∉l5 ι' j ej)->∃ S1:Nat->Prop,(∀ b,S b->S1 b)/\(∀ b,S1 b->b<w.heap.size)/\(∀ c∈Op,¬ S1 c)/\T5 w.heap S1 ks (ys.map a.eval) y []:=by
  intro ι' s0 h0 rq hd
  let S1:Nat->Prop:=λ b=>S b\/M1 ι' s0.hp (R7.loose ks (s0.J3 ys)) b
  obtain ⟨L2,qt,_,qp,_⟩:=IZ (S1:=S1) h0.hs (λ b hb=>.inl hb) rq (h0.J3 ys) (by simp) (λ b hb=>.inr hb);have qs:L2=[]:=by
   rw [List.eq_nil_iff_forall_not_mem];intro b hb;obtain ⟨i,e,h1,_⟩:=qp b hb;cases h1
  subst qs;refine ⟨S1,λ _ h=>.inl h,?_,?_,qt⟩
  ·rintro b (hb|⟨j,ej,h1,h2,h3⟩)
   ·exact h0.hs.slt b hb
   ·exact (h0.hs.bl j ej h2 b h3).2.2
  ·rintro c hc (hs|⟨j,ej,r1,r2,r3⟩)
   ·exact (h.hs.bl i e aS c (dA c hc)).1 hs
   ·exact hd j ej r1 r2 c hc r3
 unfold AL at hy;split at hy
 ·rename_i mw
  have mw:i∉R7.loose ks (s.J3 ys):=by intro hm; simp [hm] at mw
  exact fin h hy (λ j ej r1 r2 c hc r3=>h.hs.dj i j e ej aS r2 (by rintro rfl; exact mw r1) c (dA c hc) r3)
 ·split at hy
  ·rename_i u x
   split at hy
   ·rename_i r aG
    have cG:∃ c0,e8 w.heap b off (Ty.d0 true t).size=[c0]/\Ct c0=true:=by
     rcases gG with ⟨_,⟨a1,c1,e1,_⟩,_⟩|⟨b1,o1,cap1,O1,e1,_⟩
     ·exact ⟨_,e1,rfl⟩
     ·exact ⟨_,e1,rfl⟩
    obtain ⟨c0,eN,nI⟩:=cG;obtain ⟨ι',⟨O,rfl,hO⟩,h0⟩:=h.Dh aS aL hg hl (u':=.hole t) (z:=([]:List t.den)) (cs:=[c0]) (O2:=[]) (λ H' _ _=>⟨rfl,c0,rfl,nI⟩) rfl List.nodup_nil (by simp) aG (by intro h; cases h);have hw:w.setRow b (over (u7 w.heap b) off [c0]).toArray=w:=by
     obtain ⟨O2,m1,m2,m3,m4,m5,arr,T,⟨fz,e1,_⟩,hn⟩:=M2 (J7 hl) (h.hs.ob i _ aS) h.hs.slt aL hg hl;have hb:u7 w.heap b=arr.toList:=by simp only [u7,e1]
     have:over (u7 w.heap b) off [c0]=u7 w.heap b:=by
      rw [<- eN]; exact over_self m4
     rw [this,hb]; exact setRow_self w b arr T fz (by simpa using e1)
    rw [hw] at h0;refine fin h0 hy (λ j ej r1 r2 c hc r3=>?_);simp only [St.w4,o5] at r2;by_cases hj:j=i
    ·subst hj
     rw [if_pos rfl] at r2; cases r2;have r3:c∈(ι.root j).1::(ι.C3 j O).own j:=r3;simp only [Ix.C3,if_true] at r3;refine (List.mem_cons.1 r3).elim (λ g3=>?_) (λ g3=>?_)
     ·obtain ⟨_,_,aF⟩:=h.hs.ob j _ aS
      exact (List.nodup_cons.1 aF).1 (g3▸kl c hc)
     ·rcases (hO c g3).2 with h9|h9
      ·cases h9
      ·exact h9 Op gG hc
    ·rw [if_neg hj] at r2
     rw [(V7 hj O).l5] at r3;exact h.hs.dj i j _ ej aS r2 (Ne.symm hj) c (dA c hc) r3
   ·cases hy
  ·cases hy
theorem XE {i:Nat} {e:g8} {p:List Step} {t:Ty} {ks:List PK} {ys:List Operand} {r:DK ks×List Nat×List Nat} (hy:AL s ks i e p t ys=some r):ks.any PK.lnk=false:=by
 unfold AL at hy;split at hy
 ·exact Bu hy
 ·split at hy
  ·split at hy
   ·exact Bu hy
   ·cases hy
  ·cases hy
theorem b78 (hE:C6 E B) (h:RS B S ι s a w) {o:Oper} {c:Call} (ho:o.op=.call c) {g:FuncId} (hf:c.callee=.value (.func g)) {x:Operand} {ys:List Operand} (ha:c.args.toList=x::ys)
  {o2:Oper} {T2:TypeId} {ad:Operand} {d:Nat} (hd:G3 B.n (some d)=true) (iA:o2.op=.store T2 ad (.tmp d)) (lj:∀ t,ad=.tmp t->t≠d) {p:Prop} {s2:St} (hb:FA E T2 g (s.ev x) ys (s.ev ad) d s=some (p,s2)) (hp:p) :
  wv E.P o a w (λ v' w'=>y6 E.P B o2 (a.put (some d) v') w' (.raw undef) s2):=by
 unfold FA at hb;split at hb
 ·rename_i t ks t' pre fn out nw i p0 j q nU hx lg
  split at hb
  ·rename_i e aS bZ
   simp only [Bool.and_eq_true] at bZ;obtain ⟨⟨⟨bS,ko⟩,oZ⟩,pU⟩:=bZ;have bS:=Nat.eq_of_beq_eq_true bS;subst bS;have ko:E1 ks=[]:=by
    revert ko;cases E1 ks with
    | nil=>intro _; rfl
    | cons a b=>intro h; cases h
   split at hb
   ·rename_i u l y hg hy
    split at hb
    ·rename_i hu
     subst hu;split at hb
     ·rename_i r aG
      split at hb
      ·rename_i fo
       cases hb;simp only [Bool.and_eq_true] at fo;obtain ⟨bD,bK⟩:=fo;obtain ⟨rfl,aV⟩:=hp;have aS:look i s.hp=some e:=aS;have cI:e≠.K1:=by rcases (BO bK).2 with ⟨_,_,rfl⟩|⟨_,_,_,_,rfl,_⟩<;>(intro h; cases h)
       have jW:=(BO bK).2;obtain ⟨e1,u1,y1,cs,r1,aL,r3,cF,r5⟩:=C0 h hx;rw [aS] at r1; cases r1;rw [hg] at r3; cases r3;have dD:a.eval x=o8 (.d0 true t) cs:=by simpa using r5
       obtain ⟨Op,m1,mn,kk⟩:=F9 h.hs aS aL hg cF;obtain ⟨e2,b,off,z1,z2,hl,z4⟩:=C0 h lg;rw [aS] at z1; cases z1;have z4:a.eval ad=.pointer (some ⟨b,off,none⟩):=by simpa using z4
       have hV:=hE.C5 g _ nU;obtain ⟨fnn,jA,fQ,gP⟩:=hV.ent;have gZ:g9 w.heap S (.d0 true t) Op (e8 w.heap b off (Ty.d0 true t).size) l:=by
        have cg:=C2 hl;obtain ⟨b9,o9,k1,k2⟩:=id cF;rw [cg.1] at k1; cases k1;rw [k2,l4 (F4 cg.2)] at kk;exact kk
       obtain ⟨S1,ll,gl,qi,qt⟩:=XF h aS aL hg hl gZ m1 hy;have dA:∀ c∈Op,c∈l5 ι i e:=λ c hc=>H8 (m1 c hc);have oh:∀ b∈Op++[],¬ S1 b/\b<w.heap.size:=by
        intro b hb;have hb:b∈Op:=by simpa using hb
        exact ⟨qi b hb,(h.hs.bl i e aS b (dA b hb)).2.2⟩
       have iJ:=hV.run w S1 (a.eval x::ys.map a.eval) (V4 rfl l,y) (Op++[]) gl ((hE.gb.at_ h.hs).sub ll) aV ⟨_,_,Op,[],rfl,rfl,⟨cs,dD,kk.s8 (λ _ _=>rfl) ll⟩,qt⟩ (a12 (by rw [List.any_cons,XE hy]; rfl)) (by simpa using mn) oh;refine ⟨g,(a.eval x::ys.map a.eval).toArray,?_,?_⟩
       ·have pf:fnn.body.isNone=false:=gP
        have hq:(fnn.name == "runtime.NumGoroutine")=false:=fQ
        have aD:c.args.map a.eval=(a.eval x::ys.map a.eval).toArray:=by
         rw [<- Array.toList_inj,Array.toList_map,ha]; simp
        have de:a.eval (.func g)=.func (.func g) #[] #[]:=by simp [Act.eval]
        simp only [execOp,ho,resolve,hf,de,Deferred.ofValue,Sem.run_bind,Sem.run_pure,Result.andThen,invoke,callFunc,program];simp [Sem.run,jA,hq,pf];exact aD
       ·refine Calls.mono iJ ?_
        rintro en w' ⟨us,O,Lo,S',rfl,bm,gR,jh,eJ,eK,aF,hO⟩;obtain ⟨v',us',O1,O2,cs',rfl,rfl,fH,nr,rfl,rfl⟩:=eJ;refine ⟨v',rfl,?_⟩;have lM:=W5 (show E1 (.own (.d0 true t)::ks)=[] from ko) eK;subst lM;have nr:=g9.J0 (S':=S) oZ nr;have pe:O1.Nodup:=by simpa using aF
        have cm:∀ c∈O1,(w.heap.size<=c\/c∈Op)/\c<w'.heap.size:=λ c hc=>by
         obtain ⟨_,q2,q3⟩:=hO c (by simp [hc]);exact ⟨by simpa using q2,q3⟩
        have bm:E4 Op w w':=by simpa using bm
        have bR:∀ c∈l5 ι i e,¬ S c/\c<w.heap.size:=λ c hc=>⟨(h.hs.bl i e aS c hc).1,(h.hs.bl i e aS c hc).2.2⟩;obtain ⟨Om,p1,p2,p3,p4,p5,p6⟩:=M2 cI (h.hs.ob i e aS) h.hs.slt aL hg hl;have tI:Om=Op:=by
         have cg:=C2 hl;obtain ⟨b9,o9,k1,k2⟩:=cF;rw [cg.1] at k1; cases k1;rw [k2,l4 (F4 cg.2)] at kk;exact p3.det kk
        subst tI;have fp:=(h.hs.ob i e aS).yR cI h.hs.slt aL hg hl p3;have dN:=(bR b p5).2;have iE:N0 w'.heap b (off+(Ty.d0 true t).size):=p6.s8 (bm.frame b dN fp);intro next Q hn
        have iu:=h.put (d:=some d) hd (v:=.any) (val:=v') ⟨_,rfl⟩;have nh:(a.put (some d) v').eval ad=.pointer (some ⟨b,off,none⟩):=by
         rw [<- z4];cases ad with
         | tmp t9=>exact Y4 (lj t9 rfl)
         | _=>rfl
        have rD:(a.put (some d) v').eval (.tmp d)=v':=JA (by
         rw [h.sz]; simpa [G3,Nat.blt_eq] using hd)
        have pK:∃ c1,cs'=[c1]:=by
         have:=nr.length
         match cs',this with
         | [c1],_=>exact ⟨c1,rfl⟩
        obtain ⟨c1,rfl⟩:=pK;obtain rfl:c1=v':=fH.symm;have oH:(Ty.d0 true t').sh=(Ty.d0 true t).sh:=BU hg aG;have aP:(execOp (a.put (some d) c1).eval o2).run E.P w'=.ok .skip (w'.setRow b (over (u7 w'.heap b) off [c1]).toArray):=by
         have rM:(storeVar T2 ⟨b,off,none⟩ c1).run E.P w'=.ok () (w'.setRow b (over (u7 w'.heap b) off [c1]).toArray):=KW (C8 hE pU) oH iE nr;simp [execOp,iA,nh,rD,Instr.storeAt,Instr.sureAddr,rM]
        unfold Oper.wp;rw [aP];obtain ⟨fc,bO⟩:=En (w:=w') (b:=b) (off:=off) (cs:=[c1]) iE;have lS:(w'.setRow b (over (u7 w'.heap b) off [c1]).toArray).heap.size=w'.heap.size:=setRow_size;have hold:∀ c,c≠b->(w'.setRow b (over (u7 w'.heap b) off [c1]).toArray).heap[c]?=w'.heap[c]?:=λ c cA=>setRow_other cA;have jH:(w'.setRow b (over (u7 w'.heap b) off [c1]).toArray).os=w'.os/\U9 w' (w'.setRow b (over (u7 w'.heap b) off [c1]).toArray)/\(w'.setRow b (over (u7 w'.heap b) off [c1]).toArray).output=w'.output:=⟨rfl,.of rfl rfl,rfl⟩;generalize rC:w'.setRow b (over (u7 w'.heap b) off [c1]).toArray=w'' at *
        have pZ:b∉O1:=λ dG=>by
         rcases (cm b dG).1 with q|q
         ·omega
         ·exact fp q
        have ou:g9 w''.heap S (.d0 true t') O1 (e8 w''.heap b off (Ty.d0 true t').size) (fn (V4 rfl l,y)).1:=by
         have:e8 w''.heap b off (Ty.d0 true t').size=[c1]:=bO;rw [this];refine nr.s8 (λ c hc=>hold c ?_) (λ _ h=>h);rintro rfl;rcases hc with hc|hc
         ·exact pZ hc
         ·exact (bR c p5).1 hc
        obtain ⟨O,n1,n2⟩:=OB.swap (h.hs.ob i e aS) bR h.hs.slt jW aL hg hl bm.size p3 (λ c hc hn=>bm.frame c hc hn) fc lS ou (λ c hc=>by
         obtain ⟨q1,q2⟩:=cm c hc;exact ⟨by omega,λ bf=>q1.resolve_left (by omega)⟩) pe aG
        have kF:E4 (l5 ι i e) w w'':=by
         refine ⟨jH.1.trans bm.os,jH.2.1.trans bm.tape,jH.2.2.trans bm.out,by rw [lS]; exact bm.size,λ c hc hn=>?_⟩;rw [hold c (by rintro rfl; exact hn p5)];exact bm.frame c hc (λ pV=>hn (dA c pV))
        have cr:=iu.renew (by simpa [St.put] using aS) (b9L bK) E9.nil (L:=l5 ι i e) kF (λ b hb=>.inl hb) (λ _ h=>h) (λ _ h=>.inl h) (O':=O) n2 (λ c hc=>by
         have cW:c∈l5 ι i e\/c∈O1:=by
          cases e with
          | var t9 x9 =>
           simp only [l5,g8.D6,Ix.C3,if_true,List.mem_cons] at hc ⊢;rcases hc with hc|hc
           ·exact .inl (.inl hc)
           ·exact (n1 c hc).imp .inr id
          | own t9 x9 =>
           simp only [l5,g8.D6,Ix.C3,if_true] at hc ⊢;exact n1 c hc
          | K1=>exact absurd rfl cI
         rcases cW with cW|cW
         ·exact ⟨(bR c cW).1,.inr cW,by have:=(bR c cW).2; have:=bm.size; omega⟩
         ·obtain ⟨q1,q2⟩:=cm c cW
          have gV:¬ S c:=by
           have:=(hO c (by simp [cW])).1;exact λ hs=>this (gR c (ll c hs))
          exact ⟨gV,q1.imp id (dA c),by omega⟩)
        exact hn S _ w'' undef cr rfl
      ·cases hb
     ·cases hb
    ·cases hb
   ·cases hb
  ·cases hb
 ·cases hb
theorem wv.put {P:Program} {o:Oper} {c:Call} (ho:o.op=.call c) {g:FuncId} (hf:c.callee=.value (.func g)) {d:Nat} {val:Value} (hd:∀ z∈c.args.toList,z≠.tmp d) {R:Value->World->Prop} (h:wv P o (a.put (some d) val) w R):wv P o a w R:=by
 obtain ⟨g',vs,h1,h2⟩:=h;refine ⟨g',vs,?_,h2⟩;rw [<- h1];have aD:c.args.map (a.put (some d) val).eval=c.args.map a.eval:=by
  apply Array.map_congr_left;intro z hz;cases z with
  | tmp t=>exact Y4 (λ e=>hd _ (by simpa using hz) (by rw [e]))
  | _=>rfl
 have de:(a.put (some d) val).eval (.func g)=a.eval (.func g):=rfl;simp only [execOp,ho,resolve,hf,de,aD]
theorem SZ (hE:C6 E B) (hn:B.n=E.nt) {ops:Array Oper} {Q:Exit->Act->World->Prop} {oa:Oper} {c:Call} (ho:oa.op=.call c) {g:FuncId} (hf:c.callee=.value (.func g)) {x:Operand} {ys:List Operand} (ha:c.args.toList=x::ys)
  {d:Nat} (hd:G3 B.n (some d)=true):∀ {l:List Oper} {S:Nat->Prop} {ι:Ix} {s:St} {a:Act} {w:World} {p:Prop} {s2:St} {n:Nat},RS B S ι s a w->Dy E g x ys d l s=some (p,s2,n)->p->(∀ S' ι' a' w'',RS B S' ι' s2 a' w''->wpList E.P ops Q (l.drop n) a' w'') ->
  wv E.P oa a w (λ v' w'=>wpList E.P ops Q l (a.put (some d) v') w')
 | [],S,ι,s,a,w,p,s2,n,_,hb,_,_=>by cases hb
 | o::rest,S,ι,s,a,w,p,s2,n,h,hb,hp,hk=>by
  unfold Dy at hb;split at hb
  ·rename_i hg gB
   split at hb
   ·rename_i mP
    split at hb
    ·rename_i d1 ke
     split at hb
     ·rename_i p1 v bZ hv
      split at hb
      ·rename_i p2 s3 n2 kz
       cases hb;simp only [Bool.and_eq_true,Bool.not_eq_true'] at bZ;obtain ⟨⟨c1,c2⟩,c3⟩:=bZ;have bG:d1≠d:=by rintro rfl; simp at c1
       have dW:=BB hE h mP;have dD:AS E.P S ι o a w s v:=by
        split at hv
        ·cases hv
        ·rename_i v0 s0 e0; cases hv; rw [e0] at dW; exact dW.2
        ·rename_i q0 v0 s0 e0; cases hv; rw [e0] at dW; exact (dW hp.1).2
       obtain ⟨val,aP,dy⟩:=dD;rw [ke] at gB;have cr:=h.put (d:=some d1) (by rw [hn]; exact gB) dy;have lY:=SZ hE hn ho hf ha hd (ops:=ops) (Q:=Q) cr kz hp.2 hk;refine (lY.put ho hf (λ z hz=>?_)).mono (λ v' w' hw=>?_)
       ·rw [ha] at hz
        rintro rfl;have:=List.all_eq_true.1 c3 _ hz;simp at this
       ·unfold wpList
        simp only [Region.wanted,hg,if_true];refine .inl ?_;unfold Oper.wp;have ex:execOp (a.put (some d) v').eval o=execOp a.eval o:=OQ mP (λ t ht=>Y4 (by
         rintro rfl;simp [ht] at c2))
        rw [ex,aP w'];show wpList E.P ops Q rest ((a.put (some d) v').put o.dst val) w';rw [ke,PS (Ne.symm bG)];exact hw
      ·cases hb
     ·cases hb
    ·cases hb
   ·split at hb
    ·rename_i T2 ad d' cz
     split at hb
     ·rename_i bZ
      simp only [Bool.and_eq_true] at bZ;obtain ⟨c1,c2⟩:=bZ;obtain rfl:=Nat.eq_of_beq_eq_true c1;split at hb
      ·rename_i p2 s3 cF
       cases hb;have lj:∀ t,ad=.tmp t->t≠d':=by
        intro t e;subst e;rintro rfl;simp at c2
       refine (b78 hE h ho hf ha hd cz lj cF hp).mono (λ v' w' hw=>?_);unfold wpList;simp only [Region.wanted,hg,if_true];refine .inl (hw _ _ (λ S' ι' w2 val h1 h2=>?_));exact hk S' ι' _ w2 (h1.put (by rw [hn]; exact gB) h2)
      ·cases hb
     ·cases hb
    ·cases hb
  ·cases hb
theorem b93 {H:Array Go.Obj} {t:Ty} {y:(Ty.y7 t).den} (cj:t.shared=true) (h1:1<=y.1) (h2:y.1<=2) {O:List Nat} {cs:List Value} (hr:g9 H S (.y7 t) O cs y):g9 H S (.d0 true t) O cs y.2.1:=by
 obtain ⟨n,l,m⟩:=y
 match n,h1,h2,hr with
 | 1,_,_,hr=>exact hr
 | 2,_,_,⟨b,off,O',c1,c2,c3,c4,c5,c6⟩ =>
  obtain rfl:O'=[]:=i8.M8 (λ _ _ _ hr=>hr.M8 cj) c4;have bf:(l++m).length=l.length+m.length:=List.length_append;rw [bf,Nat.add_mul] at c3 c4;have s1:=(i8.two (λ _ _ _ hr=>hr.length) (λ _ _ _ hr=>hr.M8 cj) c4).1;rw [m0 _ _ _ _ (by omega)] at s1;exact .inr ⟨b,off,List.length l+List.length m,[],c1,by show List.length l<=_; omega,c2,by show off+List.length l*t.size<=_; omega,s1,c5,c6⟩
theorem b79 (hE:C6 E B) (hn:B.n=E.nt) (h:RS B S ι s a w) {o:Oper} {p:Prop} {s2:St} (hb:Fz E o s=some (p,s2)) (hp:p) :
  o.guard=none/\wv E.P o a w (λ v' w'=>∃ ι',RS B S ι' s2 (a.put o.dst v') w'):=by
 unfold Fz at hb; cases hb
def Hq (H:Array Go.Obj) (S:Nat->Prop) (tl:Option (FuncId×Nat)) (pre us0 vs:List Value):Prop :=
 match tl with
 | none=>vs=us0
 | some (f,k)=>k<=pre.length/\∃ b off,vs=us0++[.pointer (some ⟨b,off,none⟩)]/\S b/\off+1<=(u7 H b).length/\e8 H b off 1=[.func (.func f) #[] ((pre.take k).reverse++vs).toArray]
theorem Hq.next {H:Array Go.Obj} {tl:Option (FuncId×Nat)} {pre us0 vs:List Value} {v:Value} (h:Hq H S tl pre (v::us0) vs):∃ vs',vs=v::vs'/\Hq H S (tl.map λ q=>(q.1,q.2+1)) (v::pre) us0 vs':=by
 cases tl with
 | none=>exact ⟨us0,h,rfl⟩
 | some q =>
  obtain ⟨f,k⟩:=q;obtain ⟨hk,b,off,rfl,h1,h2,h3⟩:=h;refine ⟨_,rfl,by simpa using hk,b,off,rfl,h1,h2,?_⟩;rw [h3];simp [List.take_succ_cons]
theorem RS.slot (h:RS B S ι s a w) {t:Nat} {v:AV} (hv:VX w.heap S ι s.hp v [a.tmps.getD t (B.gd t)]):RS B S ι { s with fr:=Ex.put t v s.fr } a w:=by
 refine ⟨h.hs,h.dfr,h.sz,?_⟩;intro t' v' ht;simp only [o5] at ht;by_cases e:t'=t
 ·subst e
  rw [if_pos rfl] at ht; cases ht; exact hv
 ·rw [if_neg e] at ht; exact h.fr t' v' ht
theorem b7w (hE:C6 E B) (hn:B.n=E.nt) (hM:E.ps.any PK.j9=false->∀ b,¬ B.M b) (h:RS B S ι s a w) {o:Oper} {p:Prop} {s2:St} (hb:FX E o s=some (p,s2)) (hp:p) :
  o.guard=none/\∀ (next:Act->World->Prop) (Q:Exit->Act->World->Prop),(∀ S' ι' a' w',RS B S' ι' s2 a' w'->next a' w')->o.wp E.P a w next Q:=by
 unfold FX at hb; cases hb
theorem RS.NO (h:RS B S ι s a w) {i:Nat} {u t:Ty} {y:u.den} {z:t.den} (he:look i s.hp=some (.var u y)) {O1 D:List Nat} (hp:(ι.own i).Perm (O1++D)) (p2:t.size=u.size)
  (hz:g9 w.heap (λ b=>S b\/b∈D) t O1 (e8 w.heap (ι.root i).1 (ι.root i).2 t.size) z):RS B (λ b=>S b\/b∈D) (ι.C3 i O1) ((s.xf i).w4 i (.var t z)) a w:=by
 obtain ⟨-,hf,aF⟩:=h.hs.ob i _ he;have om:∀ b∈D,b∈ι.own i:=λ b hb=>hp.mem_iff.2 (by simp [hb]);have kl:∀ b∈O1,b∈ι.own i:=λ b hb=>hp.mem_iff.2 (by simp [hb]);have da:(O1++D).Nodup:=(hp.nodup_iff).1 (List.nodup_cons.1 aF).2;have bF:=(List.nodup_cons.1 aF).1;have bR:=h.hs.bl i _ he;have di:∀ b∈ι.own i,b∈l5 ι i (.var u y):=λ b hb=>by simp [l5,hb]
 have bj:∀ j,j≠i->E3 ι (ι.C3 i O1) j:=λ j hj=>V7 hj _;have bU:∀ b∈l5 (ι.C3 i O1) i (.var t z),b∈l5 ι i (.var u y)/\b∉D:=by
  intro b hb;have hb:b∈(ι.root i).1::(ι.C3 i O1).own i:=hb;simp only [Ix.C3,if_true] at hb;refine (List.mem_cons.1 hb).elim (λ e=>⟨by simp [l5,e],λ hD=>bF (e▸om b hD)⟩) (λ e=>⟨di b (kl b e),λ hD=>(List.nodup_append.1 da).2.2 b e b hD rfl⟩)
 refine ⟨⟨h.hs.os,h.hs.tape,h.hs.out,h.hs.size,h.hs.frame,?_,λ b hb=>.inl (h.hs.s0 b hb),?_,?_,?_,?_,?_⟩,h.dfr,h.sz,?_⟩
 ·rintro b (hb|hb)
  ·exact h.hs.slt b hb
  ·exact (bR b (di b (om b hb))).2.2
 ·rintro b (hb|hb)
  ·exact h.hs.s1 b hb
  ·rcases (bR b (di b (om b hb))).2.1 with q|q
   ·exact .inr (.inl q)
   ·exact .inr (.inr q)
 ·intro j ej hj
  simp only [St.w4,o5] at hj;by_cases e1:j=i
  ·subst e1; rw [if_pos rfl] at hj; cases hj
   refine ⟨⟨O1,by simp [Ix.C3],?_⟩,?_,?_⟩
   ·exact hz
   ·rw [p2]; exact hf
   ·show ((ι.root j).1::(ι.C3 j O1).own j).Nodup
    simp only [Ix.C3,if_true];exact List.nodup_cons.2 ⟨λ h=>bF (kl _ h),(List.nodup_append.1 da).1⟩
  ·rw [if_neg e1] at hj
   exact (bj j e1).ob.2 ((h.hs.ob j ej hj).s8 (λ _ _=>rfl) (λ _ h=>.inl h))
 ·intro j ej hj b hb
  simp only [St.w4,o5] at hj;by_cases e1:j=i
  ·subst e1; rw [if_pos rfl] at hj; cases hj
   obtain ⟨q1,q2⟩:=bU b hb;obtain ⟨r1,r2,r3⟩:=bR b q1;exact ⟨λ hs=>hs.elim r1 q2,r2,r3⟩
  ·rw [if_neg e1] at hj
   rw [(bj j e1).l5] at hb;obtain ⟨r1,r2,r3⟩:=h.hs.bl j ej hj b hb;exact ⟨λ hs=>hs.elim r1 (λ hD=>h.hs.dj j i ej _ hj he e1 b hb (di b (om b hD))),r2,r3⟩
 ·intro j k ej ek hj hk fx c hc
  simp only [St.w4,o5] at hj hk;by_cases e1:j=i
  ·subst e1
   rw [if_pos rfl] at hj; cases hj;rw [if_neg (Ne.symm fx)] at hk;rw [(bj k (Ne.symm fx)).l5];exact h.hs.dj j k _ ek he hk fx c (bU c hc).1
  ·rw [if_neg e1] at hj
   rw [(bj j e1).l5] at hc;by_cases e2:k=i
   ·subst e2
    rw [if_pos rfl] at hk; cases hk;exact λ cW=>h.hs.dj j k ej _ hj he fx c hc (bU c cW).1
   ·rw [if_neg e2] at hk
    rw [(bj k e2).l5];exact h.hs.dj j k ej ek hj hk fx c hc
 ·intro q hq
  obtain ⟨k0,⟨e',k1⟩,k2,k3⟩:=h.hs.pin q hq;refine ⟨k0,?_,k2,k3⟩;simp only [St.w4,o5];by_cases e1:q.1=i
  ·exact ⟨_,by rw [if_pos e1]⟩
  ·exact ⟨e',by rw [if_neg e1]; exact k1⟩
 ·intro t9 v hv
  simp only [St.w4,St.xf,N4,Option.map_eq_some_iff] at hv;obtain ⟨v0,eZ,rfl⟩:=hv;refine VX.map (λ _ _=>rfl) (λ _ h=>.inl h) (λ v vs hr hm dy=>?_) (h.fr t9 v0 eZ);unfold AV.Lq;cases ca:v.i7 i with
  | false =>
   have bG:∀ j,v.i7 j=true->j≠i:=by rintro j hj rfl; rw [ca] at hj; cases hj
   have bK:VX w.heap (λ b=>S b\/b∈D) ι s.hp v vs:=VX.grow (λ _ _=>rfl) (λ _ h=>.inl h) h.hs.slt h.hs.ob dy;exact VX.other (λ j hj=>by simp only [St.w4,o5,if_neg (bG j hj)]; rfl) (λ j hj=>bj j (bG j hj)) bK
  | true =>
   have cD:=VX.one hr dy;simp only
   split
   ·rename_i j
    have dI:i=j:=Nat.eq_of_beq_eq_true ca;subst dI;obtain ⟨ej,b2,off2,k1,k2,k3,k4⟩:=dy;rw [he] at k1; cases k1;refine ⟨.var t z,b2,off2,by simp [St.w4,o5],M7,?_,k4⟩;simp only [Loc,Place,VR,VH,x8] at k3 ⊢;exact k3
   ·exact cD
theorem RS.LV (h:RS B S ι s a w) {i:Nat} {u t:Ty} {y:u.den} {z:t.den} (he:look i s.hp=some (.var u y)) (hz:yq u t y=some z):∃ S' ι',RS B S' ι' ((s.xf i).w4 i (.var t z)) a w:=by
 obtain ⟨⟨O,hO,hR⟩,hf,aF⟩:=h.hs.ob i _ he;obtain ⟨O1,D,p1,p2,p3⟩:=Xj hz hR;refine ⟨_,_,h.NO he (hO.symm.trans p1) p2 ?_⟩;rw [p2];exact p3 (λ b=>S b\/b∈D) (λ _ h=>.inl h) (λ _ h=>.inr h)
theorem YW {H:Array Go.Obj} {S S':Nat->Prop} {t0:Ty} {O:List Nat} {cs:List Value} {z:(Ty.y7 t0).den} (hR:g9 H S (.y7 t0) O cs z) (cj:t0.shared=true) (hD:∀ b∈O,S' b) (hS:∀ b,S b->S' b):g9 H S' (.d0 false t0) [] cs z.2.1:=by
 have h0:∀ O cs x,g9 H S t0 O cs x->O=[]:=λ O cs x h=>g9.M8 cj h;have bK:∀ {O cs l},i8 (g9 H S t0) t0.size O cs l->i8 (g9 H S' t0) t0.size [] cs l:=λ {O cs l} h=>by
  obtain rfl:=i8.M8 h0 h;exact i8.mono (L:=[]) (λ _ h=>h) (λ _ _ _ _ hr=>hr.s8 (λ _ _=>rfl) hS) h
 obtain ⟨n,l,m⟩:=z
 match n,hR with
 | 0,hR =>
  rcases hR with ⟨_,⟨a,c,h1,_⟩,h2⟩|⟨b,off,cap,O',c1,c2,c3,c4,c5,_,_,c8⟩
  ·exact .inl ⟨rfl,⟨a,c,h1,λ h=>by cases h⟩,h2⟩
  ·exact .inr ⟨b,off,cap,[],c1,c2,c3,c4,bK c5,rfl,rfl,hS b c8⟩
 | 1,hR =>
  rcases hR with ⟨_,⟨a,c,h1,_⟩,h2⟩|⟨b,off,cap,O',c1,c2,c3,c4,c5,c6,_⟩
  ·exact .inl ⟨rfl,⟨a,c,h1,λ h=>by cases h⟩,h2⟩
  ·exact .inr ⟨b,off,cap,[],c1,c2,⟨c3.1,λ h=>by cases h⟩,c4,bK c5,rfl,rfl,hD b (by rw [c6]; simp)⟩
 | n+2,⟨b,off,O',c1,c2,c3,c4,c5⟩ =>
  have hl:List.length l*t0.size<=List.length (l++m)*t0.size:=Nat.mul_le_mul_right _ (by rw [List.length_append]; omega);have c6:=(i8.two (λ _ _ _ h=>h.length) h0 c4).1;rw [m0 _ _ _ _ hl] at c6;refine .inr ⟨b,off,_,[],c1,Nat.le_add_right _ _,⟨c2.1,λ h=>by cases h⟩,Nat.le_trans (Nat.add_le_add_left hl off) c3,bK c6,rfl,rfl,?_⟩
  match n,c5 with
  | 0,c5=>exact hD b (by rw [c5.1]; simp)
  | n+1,c5=>exact hS b c5.2.2
theorem RS.TR (h:RS B S ι s a w) {i k:Nat} {u:Ty} {y:u.den} (he:look i s.hp=some (.var u y)) {p:List Step} {t0:Ty} {z:(Ty.y7 t0).den} (hg:j8 u y p=some ⟨.y7 t0,z⟩) (cj:t0.shared=true)
  {r:Sigma Ty.den} (hr:s6 u y p (.y7 t0) ((0,z.2.1,[]):Nat×(List t0.den×List t0.den))=some r) (hk:look k s.fr=some (.at_ i p)) :
  ∃ S' ι',RS B S' ι' { ((s.xf i).w4 i (.var r.1 r.2)) with fr:=Ex.put k (.val (.d0 false t0) z.2.1) ((s.xf i).w4 i (.var r.1 r.2)).fr } a w:=by
 have cI:(g8.var u y)≠.K1:=λ h=>by cases h
 obtain ⟨e2,u2,y2,cs,r1,aL,r3,r4,r5⟩:=h.fr k _ hk;rw [he] at r1; cases r1;have r3:j8 u y p=some ⟨u2,y2⟩:=r3;rw [hg] at r3; cases r3;obtain ⟨O,hO,hR,eu,aF,bf,ga,dK⟩:=(h.hs.ob i _ he).see cI h.hs.slt;obtain ⟨O1,O3,b',aq,g1,g2,g3,g4,g5,g6⟩:=focus hR eu aL hg
 obtain ⟨b0,off0,q1,q2⟩:=r4;rw [H3 cI,g3] at q1; cases q1;have kl:∀ b∈O1++O3,b∈ι.own i:=λ b hb=>hO.mem_iff.1 (g1.mem_iff.2 hb);have cv:(O1++O3).Nodup:=(g1.nodup_iff).1 ((hO.nodup_iff).2 (List.nodup_cons.1 aF).2);have bF:=(List.nodup_cons.1 aF).1;have bR:=h.hs.bl i _ he;have jU:g9 w.heap (λ b=>S b\/b∈O3) (.d0 false t0) [] cs z.2.1:=by
  rw [q2]; exact YW g4 cj (λ _ hb=>.inr hb) (λ _ hb=>.inl hb)
 have jz:N0 w.heap b' (aq+(Ty.y7 t0).size):=by
  rcases g6 with ⟨rfl,_,g7⟩|⟨_,g7⟩
  ·obtain ⟨arr,T,hl,hn⟩:=dK
   exact ⟨arr,T,hl,Nat.le_trans g7 hn⟩
  ·exact g7
 have kN:g9 w.heap (λ b=>S b\/b∈O3) (.y7 t0) [] (e8 w.heap b' aq (Ty.y7 t0).size) ((0,z.2.1,[]):Nat×(List t0.den×List t0.den)):=by
  have:=jU; rw [q2] at this; exact this
 obtain ⟨O',k1,k2,k3⟩:=Bm g2 hg g3 eu bf (List.nodup_append.1 cv).1 (λ hc=>bF (kl _ (List.mem_append_left _ hc))) (λ c hc=>by
  obtain ⟨q1,q2,q3⟩:=bR c (by simp [l5,kl c (List.mem_append_left _ hc)]);exact ⟨q1,q3⟩) (bR _ (show (ι.root i).1∈(ι.root i).1::ι.own i from List.mem_cons_self)).1 h.hs.slt (λ _ hb=>.inl hb) (V2.refl jz) kN hr
 have aX:r.1.size=u.size:=F1 k3;have hD:=h.NO he (t:=r.1) (z:=r.2) (O1:=O') (D:=O3) ((hO.symm.trans g1).trans (by
  refine List.Perm.append_right _ ?_;rw [List.append_nil] at k1; exact k1.symm)) aX k2
 refine ⟨_,_,⟨hD.hs,hD.dfr,hD.sz,λ t v hv=>?_⟩⟩;simp only [o5] at hv;by_cases e:t=k
 ·subst e
  rw [if_pos rfl] at hv; cases hv;exact ⟨cs,r5,jU⟩
 ·rw [if_neg e] at hv
  exact hD.fr t v hv
theorem RS.wi (h:RS B S ι s a w) {i:Nat} (hp:pinned i=false) (t:Ty):∃ S' ι',RS B S' ι' (s.wi i t) a w:=by
 have hl:∀ {j:Nat} {e:g8},look j (del i s.hp)=some e->look j s.hp=some e/\j≠i:=by
  intro j e hj;rw [J9] at hj;split at hj
  ·cases hj
  ·rename_i h9; exact ⟨hj,h9⟩
 have gl:∀ b,S b->(S b\/M1 ι s.hp [i] b):=λ _ h=>.inl h;refine ⟨λ b=>S b\/M1 ι s.hp [i] b,ι,⟨h.hs.os,h.hs.tape,h.hs.out,h.hs.size,h.hs.frame,?_,λ b hb=>.inl (h.hs.s0 b hb),?_,?_,?_,?_,?_⟩,h.dfr,h.sz,?_⟩
 ·rintro b (hb|⟨j,e,hj,he,hb⟩)
  ·exact h.hs.slt b hb
  ·exact (h.hs.bl j e he b hb).2.2
 ·rintro b (hb|⟨j,e,hj,he,hb⟩)
  ·exact h.hs.s1 b hb
  ·rcases (h.hs.bl j e he b hb).2.1 with q|q
   ·exact .inr (.inl q)
   ·exact .inr (.inr q)
 ·intro j e hj
  exact (h.hs.ob j e (hl hj).1).s8 (λ _ _=>rfl) gl
 ·intro j e hj b hb
  obtain ⟨r1,r2,r3⟩:=h.hs.bl j e (hl hj).1 b hb;refine ⟨λ hs=>hs.elim r1 ?_,r2,r3⟩;rintro ⟨k,ek,hk,he,ld⟩;rw [List.mem_singleton] at hk;subst hk;exact h.hs.dj j k e ek (hl hj).1 he (hl hj).2 b hb ld
 ·intro j k ej ek hj hk
  exact h.hs.dj j k ej ek (hl hj).1 (hl hk).1
 ·intro q hq
  obtain ⟨k0,⟨e',k1⟩,k2⟩:=h.hs.pin q hq;refine ⟨k0,⟨e',?_⟩,k2⟩;show look q.1 (del i s.hp)=_;rw [J9,if_neg (by rintro e1; rw [e1,hp] at k0; cases k0)]; exact k1
 ·intro t9 v hv
  simp only [St.wi,N4,Option.map_eq_some_iff] at hv;obtain ⟨v0,eZ,rfl⟩:=hv;refine VX.map (λ _ _=>rfl) (λ _ h=>.inl h) (λ v vs hr hm dy=>?_) (h.fr t9 v0 eZ);unfold AV.Lg;cases ca:v.i7 i with
  | false =>
   have bG:∀ j,v.i7 j=true->j≠i:=by rintro j hj rfl; rw [ca] at hj; cases hj
   have bK:VX w.heap (λ b=>S b\/M1 ι s.hp [i] b) ι s.hp v vs:=VX.grow (λ _ _=>rfl) (λ _ h=>.inl h) h.hs.slt h.hs.ob dy;exact VX.other (λ j hj=>by show look j (del i s.hp)=_; rw [J9,if_neg (bG j hj)]) (λ j hj=>E3.refl ι j) bK
  | true =>
   obtain ⟨x1,rfl⟩:=VX.one hr dy;have lK:∀ b,M1 ι s.hp v.G9 b->(S b\/M1 ι s.hp [i] b):=by
    intro b hb;obtain ⟨j,e,hj,he,iX⟩:=hb;have dI:j=i:=by
     cases v<;>simp only [AV.ref] at hr<;>try cases hr
     all_goals (simp only [AV.G9,List.mem_singleton] at hj; simp only [AV.i7] at ca; exact hj.trans (Nat.eq_of_beq_eq_true ca).symm)
    subst dI;exact .inr ⟨j,e,by simp,he,iX⟩
   simp only
   split
   ·rename_i x hx
    obtain ⟨cs,e1,e2⟩:=MT h.hs hx dy gl lK;exact ⟨cs,by rw [e1],e2⟩
   ·split
    ·split
     ·rename_i x hx
      obtain ⟨b,off,e1,e2,e3,e4⟩:=HH h.hs (show AV.asR s t (.ptr _ _)=some x from hx) dy gl lK;exact ⟨b,off,by rw [e1],e2,e3,e4⟩
     ·exact ⟨_,rfl⟩
    ·exact ⟨_,rfl⟩
theorem RS.wY (hM:∀ b,¬ B.M b):∀ {l:List Nat} {S:Nat->Prop} {ι:Ix} {s:St} {a:Act} {w:World},RS B S ι s a w->∃ S' ι',RS B S' ι' (s.wY l) a w
 | [],S,ι,s,a,w,h=>⟨S,ι,h⟩
 | i::l,S,ι,s,a,w,h=>by
  unfold St.wY
  split
  ·rename_i u y aS hp
   obtain ⟨S2,ι2,h2⟩:=h.wi hp (.d0 false u.sh);exact RS.wY hM h2
  ·exact RS.wY hM h
theorem ZV (hM:E.ps.any PK.j9=false->∀ b,¬ B.M b) (h:RS B S ι s a w) (o:Oper):∃ S' ι',RS B S' ι' ((Aj E o s).getD s) a w:=by
 cases hd:Aj E o s with
 | none=>exact ⟨S,ι,h⟩
 | some s2 =>
  show ∃ S' ι',RS B S' ι' s2 a w;unfold Aj at hd;split at hd
  ·rename_i c hp ho
   split at hd
   ·split at hd
    ·split at hd
     ·rename_i i u y aS
      split at hd
      ·cases hd
      ·split at hd
       ·rename_i z hz
        cases hd;exact h.LV aS hz
       ·cases hd
     ·cases hd
    ·split at hd
     ·rename_i mg _
      cases hd;exact h.wi mg _
     ·cases hd
    ·split at hd
     ·cases hd
     ·cases hd
      exact RS.wY (hM hp) h
    ·cases hd
   ·cases hd
  ·rename_i hp ho
   split at hd
   ·split at hd
    ·rename_i mg
     cases hd;exact h.wi mg _
    ·cases hd
   ·cases hd
  ·cases hd
theorem W9 (hM:E.ps.any PK.j9=false->∀ b,¬ B.M b):∀ {l:List (Nat×Option Ty)} {S:Nat->Prop} {ι:Ix} {s:St} {a:Act} {w:World},RS B S ι s a w->∃ S' ι',RS B S' ι' (zu E l s) a w
 | [],S,ι,s,a,w,h=>⟨S,ι,h⟩
 | (m,none)::l,S,ι,s,a,w,h=>W9 hM (l:=l) h
 | (m,some t)::l,S,ι,s,a,w,h=>by
  have key:∃ S' ι',RS B S' ι' (Fm E m t s) a w:=by
   unfold Fm
   split
   ·rename_i i hp _
    split
    ·rename_i u y aS
     split
     ·exact ⟨S,ι,h⟩
     ·split
      ·rename_i z hz
       exact h.LV aS hz
      ·exact ⟨S,ι,h⟩
    ·exact ⟨S,ι,h⟩
   ·rename_i i p hm
    split
    case h_2=>exact ⟨S,ι,h⟩
    unfold Lr
    split
    ·rename_i u y aS
     split
     ·rename_i t0 z hg
      split
      ·rename_i r cj hr
       have hk:look m s.fr=some (.at_ i p):=by
        unfold St.get at hm;cases hl:look m s.fr with
        | none=>rw [hl] at hm; cases hm
        | some v=>rw [hl] at hm; exact congrArg some hm
       exact h.TR aS hg cj hr hk
      ·exact ⟨S,ι,h⟩
     ·exact ⟨S,ι,h⟩
    ·exact ⟨S,ι,h⟩
   ·rename_i hm
    split
    ·rename_i u
     have hg:=h.get m;rw [hm] at hg;have hv:a.tmps.getD m (B.gd m)=Value.slice none 0 0:=by
      have:[a.tmps.getD m (B.gd m)]=[Value.slice none 0 0]:=hg;simpa using this
     exact ⟨S,ι,h.slot (t:=m) (v:=.val (.d0 false u) ([]:List u.den)) ⟨[.slice none 0 0],by rw [hv]; rfl,.inl ⟨rfl,⟨none,0,rfl,λ _=>rfl⟩,rfl⟩⟩⟩
    ·exact ⟨S,ι,h⟩
   ·exact ⟨S,ι,h⟩
  obtain ⟨S',ι',h'⟩:=key;exact W9 hM (l:=l) h'
theorem b7t (h:RS B S ι s a w) (o:Oper):∃ ι',RS B S ι' ((CY E o s).getD s) a w:=by
 cases hd:CY E o s with
 | none=>exact ⟨ι,h⟩
 | some s' =>
  show ∃ ι',RS B S ι' s' a w;unfold CY at hd;split at hd
  ·split at hd
   ·rename_i g tx ys hc ha
    split at hd
    ·rename_i t ks rs pre fn out nw i st p nU hx
     split at hd
     ·rename_i u y aS
      split at hd
      ·rename_i v l r hg aG
       split at hd
       ·rename_i hv
        subst hv;split at hd
        ·rename_i bZ
         cases hd;simp only [Bool.and_eq_true] at bZ;have aS:look i s.hp=some (.var u y):=aS;have de:=h.fr tx _ hx;obtain ⟨e1,u1,y1,cs,r1,aL,r3,cF,r5⟩:=de;rw [aS] at r1; cases r1;have hg:j8 (g8.var u y).ty (g8.var u y).x (st::p)=some ⟨.d0 true t,l⟩:=hg;rw [hg] at r3; cases r3;obtain ⟨Op,m1,mn,kk⟩:=F9 h.hs aS aL hg cF;obtain ⟨b,off,k1,k2⟩:=id cF;have cI:(g8.var u y)≠.K1:=by intro h; cases h
         have dN:b<w.heap.size:=by
          obtain ⟨b',aq,O2,q1,q2,q3,q4,q5,q6⟩:=(h.hs.ob i _ aS).part cI h.hs.slt aL hg;rw [q1] at k1; cases k1;rcases Nat.lt_or_ge b w.heap.size with h9|h9
          ·exact h9
          ·have q5:off+1<=(u7 w.heap b).length:=q5
           simp only [u7,Array.getElem?_eq_none h9,List.length_nil] at q5;omega
         have hl:Loc w.heap ι i (.var u y) (st::p)=some (b,off):=vM k1 dN;have gZ:g9 w.heap S (.d0 true t) Op (e8 w.heap b off (Ty.d0 true t).size) l:=by
          rw [k2,l4 (F4 dN)] at kk;exact kk
         have cG:∃ c0,e8 w.heap b off (Ty.d0 true t).size=[c0]/\Ct c0=true:=by
          rcases gZ with ⟨_,⟨a1,c1,e1,_⟩,_⟩|⟨b1,o1,cap1,O1,e1,_⟩
          ·exact ⟨_,e1,rfl⟩
          ·exact ⟨_,e1,rfl⟩
         obtain ⟨c0,eN,nI⟩:=cG;obtain ⟨ι',⟨O,rfl,hO⟩,h0⟩:=h.Dh aS aL hg hl (u':=.hole t) (z:=([]:List t.den)) (cs:=[c0]) (O2:=[]) (λ H' _ _=>⟨rfl,c0,rfl,nI⟩) rfl List.nodup_nil (by simp) aG (by intro h; cases h);have hw:w.setRow b (over (u7 w.heap b) off [c0]).toArray=w:=by
          obtain ⟨O2,q1,q2,q3,m4,m5,arr,T,⟨fz,e1,_⟩,hn⟩:=M2 (J7 hl) (h.hs.ob i _ aS) h.hs.slt aL hg hl;have hb:u7 w.heap b=arr.toList:=by simp only [u7,e1]
          have:over (u7 w.heap b) off [c0]=u7 w.heap b:=by
           rw [<- eN]; exact over_self m4
          rw [this,hb]; exact setRow_self w b arr T fz (by simpa using e1)
         rw [hw] at h0;have dA:∀ c∈Op,c∈l5 ι i (.var u y):=λ c hc=>H8 (m1 c hc);have hF:E9 B S (ι.C3 i O) ((s.kill i (g8.var u y).kd (st::p)).w4 i (.var r.1 r.2)).hp w Op:=by
          refine ⟨mn,λ c hc=>?_⟩;obtain ⟨z1,z2,z3⟩:=h.hs.bl i _ aS c (dA c hc);refine ⟨z1,z2,z3,λ j ej r2 r3=>?_⟩;simp only [St.w4,o5] at r2;by_cases hj:j=i
          ·subst hj
           rw [if_pos rfl] at r2; cases r2;have r3:c∈(ι.root j).1::(ι.C3 j O).own j:=r3;simp only [Ix.C3,if_true] at r3;refine (List.mem_cons.1 r3).elim (λ g3=>?_) (λ g3=>?_)
           ·obtain ⟨_,_,aF⟩:=h.hs.ob j _ aS
            exact (List.nodup_cons.1 aF).1 (g3▸m1 c hc)
           ·rcases (hO c g3).2 with h9|h9
            ·cases h9
            ·exact h9 Op gZ hc
          ·rw [if_neg hj] at r2
           rw [(V7 hj O).l5] at r3;exact h.hs.dj i j _ ej aS r2 (Ne.symm hj) c (dA c hc) r3
         have h1:=h0.hold bZ.2 gZ hF;refine ⟨_,h1.slot (t:=tx) (v:=.at_ (1600000+tx) []) ?_⟩;have e9:[a.tmps.getD tx (B.gd tx)]=[o8 (.d0 true t) (e8 w.heap b off (Ty.d0 true t).size)]:=by
          rw [r5,k2,l4 (F4 dN)]
         rw [e9];exact zD gZ.length
        ·cases hd
       ·cases hd
      ·cases hd
     ·cases hd
    ·cases hd
   ·cases hd
  ·cases hd
theorem RS.UL (h:RS B S ι s a w) {i:Nat} {u t:Ty} {y:u.den} {z:t.den} (he:look i s.hp=some (.own u y)) (rR:∀ {O:List Nat} {cs:List Value},g9 w.heap S u O cs y->g9 w.heap S t O cs z) (du:u.agg=t.agg) (aX:u.size=t.size) :
  RS B S ι { fr:=mapA (AV.map λ v=>match v.i7 i with|false=>v|true=>match v with|.at_ j []=>.at_ j []|_=>.any) s.fr,hp:=Ex.put i (.own t z) s.hp } a w:=by
 obtain ⟨⟨O,hO,hR⟩,aF⟩:=h.hs.ob i _ he;have ld:∀ j ej,look j (Ex.put i (.own t z) s.hp)=some ej->∃ e0,look j s.hp=some e0/\l5 ι j ej=l5 ι j e0:=by
  intro j ej hj;rw [o5] at hj;by_cases e1:j=i
  ·subst e1; rw [if_pos rfl] at hj; cases hj; exact ⟨_,he,rfl⟩
  ·rw [if_neg e1] at hj; exact ⟨_,hj,rfl⟩
 refine ⟨⟨h.hs.os,h.hs.tape,h.hs.out,h.hs.size,h.hs.frame,h.hs.slt,h.hs.s0,h.hs.s1,?_,?_,?_,?_⟩,h.dfr,h.sz,?_⟩
 ·intro j ej hj
  rw [o5] at hj;by_cases e1:j=i
  ·subst e1; rw [if_pos rfl] at hj; cases hj
   exact ⟨⟨O,hO,rR hR⟩,aF⟩
  ·rw [if_neg e1] at hj; exact h.hs.ob j ej hj
 ·intro j ej hj b hb
  obtain ⟨e0,h1,h2⟩:=ld j ej hj;rw [h2] at hb;exact h.hs.bl j e0 h1 b hb
 ·intro j k ej ek hj hk fx c hc
  obtain ⟨e0,h1,h2⟩:=ld j ej hj;obtain ⟨e3,h4,h5⟩:=ld k ek hk;rw [h2] at hc;rw [h5];exact h.hs.dj j k e0 e3 h1 h4 fx c hc
 ·intro q hq
  obtain ⟨k0,⟨e',k1⟩,k2,k3⟩:=h.hs.pin q hq;refine ⟨k0,?_,k2,k3⟩;rw [o5];by_cases e1:q.1=i
  ·exact ⟨_,by rw [if_pos e1]⟩
  ·exact ⟨e',by rw [if_neg e1]; exact k1⟩
 ·intro t9 v hv
  simp only [N4,Option.map_eq_some_iff] at hv;obtain ⟨v0,eZ,rfl⟩:=hv;refine VX.map (λ _ _=>rfl) (λ _ h=>h) (λ v vs hr hm dy=>?_) (h.fr t9 v0 eZ);cases ca:v.i7 i with
  | false =>
   have bG:∀ j,v.i7 j=true->j≠i:=by rintro j hj rfl; rw [ca] at hj; cases hj
   exact VX.other (λ j hj=>by rw [o5,if_neg (bG j hj)]) (λ j hj=>⟨rfl,rfl,rfl⟩) dy
  | true =>
   have cD:=VX.one hr dy;simp only
   split
   ·rename_i j
    have dI:i=j:=Nat.eq_of_beq_eq_true ca;subst dI;obtain ⟨e,u',y',cs,k1,k2,k3,⟨b,off,k4,k5⟩,k6⟩:=dy;rw [he] at k1; cases k1;simp only [j8,Option.some.injEq,Sigma.mk.injEq] at k3;obtain ⟨rfl,_⟩:=k3;refine ⟨.own t z,t,z,cs,by rw [o5,if_pos rfl],M7,by simp only [j8]; rfl,⟨b,off,?_,?_⟩,?_⟩
    ·simp only [Place,VR,VH,x8] at k4 ⊢
     exact k4
    ·rw [<- aX]; exact k5
    ·rw [k6]; exact congrArg (λ v=>[v]) (Bl du cs)
   ·exact cD
theorem b94 (h:RS B S ι s a w) (o:Oper):RS B S ι (CG E o s) a w:=by
 unfold CG
 split
 ·split
  ·split
   ·rename_i i _
    split
    ·rename_i t z aS
     split
     ·rename_i hc
      simp only [Bool.and_eq_true] at hc
      split
      ·exact h
      ·rename_i cj
       exact h.UL (t:=.d0 true t) (z:=z.2.1) aS (λ hr=>b93 cj (Nat.le_of_ble_eq_true hc.1) (Nat.le_of_ble_eq_true hc.2) hr) rfl rfl
     ·exact h
    ·exact h
   ·exact h
  ·exact h
 ·exact h
theorem b9W (hM:E.ps.any PK.j9=false->∀ b,¬ B.M b) (h0:RS B S ι s a w) (o:Oper):∃ S' ι',RS B S' ι' (CA E o s) a w:=by
 have h:=b94 (E:=E) h0 o;unfold CA Lu;generalize CG E o s=s at h;obtain ⟨S',ι',h1⟩:=ZV hM h o;obtain ⟨ι2,h2⟩:=b7t (E:=E) h1 o;exact ⟨S',ι2,h2⟩
theorem b7p (hM:E.ps.any PK.j9=false->∀ b,¬ B.M b) (h:RS B S ι s a w) (ops:Array Oper):∃ S' ι',RS B S' ι' (Gw E ops s) a w:=by
 unfold Gw
 split
 ·rename_i hp _
  split
  ·rename_i mg
   exact h.wi mg _
  ·exact ⟨S,ι,h⟩
 ·exact ⟨S,ι,h⟩
theorem Ru (hM:E.ps.any PK.j9=false->∀ b,¬ B.M b) (h:RS B S ι s a w) (ops:Array Oper):∃ S' ι',RS B S' ι' (CB E ops s) a w:=by
 unfold CB
 split
 ·exact W9 hM h
 ·exact ⟨S,ι,h⟩
theorem b9U (hM:E.ps.any PK.j9=false->∀ b,¬ B.M b) (h:RS B S ι s a w) (ops:Array Oper):∃ S' ι',RS B S' ι' (za E ops s) a w:=by
 obtain ⟨S',ι',h'⟩:=Ru (E:=E) hM h ops;exact b7p hM h' ops
theorem V3 (hE:C6 E B) (hn:B.n=E.nt) (hM:E.ps.any PK.j9=false->∀ b,¬ B.M b) {ops:Array Oper} {k:St->Tree (E.rs++E1 E.ps)} {L:Code->List Item->St->Prop} {Rt:DL (E.rs++E1 E.ps)->Prop} {Q:Exit->Act->World->Prop} (hk:∀ S' ι' s' a' w',RS B S' ι' s' a' w'->(k s').holds L Rt->Q .normal a' w') :
  ∀ {l:List Oper} {m:Nat} {S:Nat->Prop} {ι:Ix} {s:St} {a:Act} {w:World},RS B S ι s a w->(vV E ops m l s k).holds L Rt->wpList E.P ops Q (l.drop m) a w
 | [],m,S,ι,s,a,w,h,ht=>by
  rw [List.drop_nil];cases m<;>exact hk S ι s a w h ht
 | o::l,m+1,S,ι,s,a,w,h,ht=>V3 hE hn hM hk (l:=l) (m:=m) h ht
 | o::l,0,S0,ι0,s0,a,w,h0,ht=>by
  show wpList E.P ops Q (o::l) a w;unfold vV at ht;obtain ⟨S,ι,h⟩:=b9W hM h0 o;dsimp only at ht;generalize CA E o s0=s at h ht;split at ht
  ·rename_i p s' n hf
   unfold LL at hf;split at hf
   ·rename_i d c hg hd gB ho
    split at hf
    ·rename_i x y T U hc ha hT
     split at hf
     ·split at hf
      ·cases hf
      ·rw [<- hn,hd] at gB
       obtain ⟨v',w',g1,g2⟩:=SH hE hn ho hc ha hT gB (ops:=ops) (Q:=Q) h hf ht.1;unfold wpList;simp only [Region.wanted,hg,if_true];refine .inl ?_;unfold Oper.wp;rw [g1];show wpList E.P ops Q l (a.put o.dst v') w';rw [hd];exact g2 (λ S' ι' a' w'' h'=>V3 hE hn hM hk (l:=l) (m:=n) h' (ht.2 ht.1))
     ·cases hf
    ·cases hf
   ·cases hf
  ·split at ht
   ·rename_i p s' n hf
    unfold LM at hf;split at hf
    ·rename_i d c hg hd gB ho
     split at hf
     ·rename_i g x ys hc ha
      split at hf
      ·split at hf
       ·cases hf
       ·rw [<- hn,hd] at gB
        unfold wpList;simp only [Region.wanted,hg,if_true];refine .inl ((SZ hE hn ho hc ha gB (ops:=ops) (Q:=Q) h hf ht.1 (λ S' ι' a' w'' h'=>V3 hE hn hM hk (l:=l) (m:=n) h' (ht.2 ht.1))).wp (λ v' w' hw=>?_));rw [hd]; exact hw
      ·cases hf
     ·cases hf
    ·cases hf
   ·split at ht
    ·rename_i p s' hf
     obtain ⟨hg,aP⟩:=b79 hE hn h hf ht.1;unfold wpList;simp only [Region.wanted,hg,if_true];refine .inl (aP.wp (λ v' w' hw=>?_));obtain ⟨ι',h'⟩:=hw;exact V3 hE hn hM hk (l:=l) (m:=0) h' (ht.2 ht.1)
    ·split at ht
     ·rename_i p s' hf
      obtain ⟨hg,aP⟩:=b7w hE hn hM h hf ht.1;unfold wpList;simp only [Region.wanted,hg,if_true];exact .inl (aP _ Q (λ S' ι' a' w' h'=>V3 hE hn hM hk (l:=l) (m:=0) h' (ht.2 ht.1)))
     ·split at ht
      ·rename_i p v1 v2 hg hd hb
       rw [<- hn] at hd;obtain ⟨val,aP,hv⟩:=XI hE h hb;unfold wpList;simp only [Region.wanted,hg,if_true];refine .inl ?_;unfold Oper.wp;rw [aP];rcases hv with ⟨hp,hv⟩|hv
       ·exact V3 hE hn hM hk (l:=l) (m:=0) (h.put hd hv) (ht.1 hp)
       ·exact V3 hE hn hM hk (l:=l) (m:=0) (h.put hd hv) ht.2
      ·have:=KL hE hn h (ops:=ops) o (k:=λ s'=>vV E ops 0 l s' k) ht (next:=wpList E.P ops Q l) (Q:=Q) (λ S' ι' s' a' w' h1 h2=>V3 hE hn hM hk (l:=l) (m:=0) h1 h2)
       unfold wpList
       split
       ·rename_i hw; rw [if_pos hw] at this; exact .inl this
       ·rename_i hw; rw [if_neg hw] at this; exact this
end
end Go.Ex
namespace Go.Ex
section
variable {E:Env} {ops:Array Oper}
theorem zW {α:Type _} {Y:α->Prop} {a:α}:Y a↔∃ (p:Prop) (s:α),some (True,a)=some (p,s)/\p/\Y s:=by
 constructor
 ·intro h; exact ⟨_,_,rfl,trivial,h⟩
 ·rintro ⟨p,s,h,_,h2⟩; cases h; exact h2
theorem Ht {o:Oper} {s:St} {k:St->Tree (E.rs++E1 E.ps)} {L:Code->List Item->St->Prop} {R:DL (E.rs++E1 E.ps)->Prop}:(yw E o s k).holds L R↔∃ p s',W3 E o s=some (p,s')/\p/\(k s').holds L R:=by
 unfold yw W3;cases hd:G3 E.nt o.dst with
 | false=>simp [Tree.holds]
 | true =>
  simp only;have other:∀ r:OR,(match r with|.fail why=>Tree.stuck why|.ok v s'=>k (s'.put o.dst v)|.F0 p v s'=>Tree.f7 p (k (s'.put o.dst v))).holds L R ↔
    ∃ p s',(match r.get with|none=>none|some (p,v,s')=>some (p,s'.put o.dst v))=some (p,s')/\p/\(k s').holds L R:=by
   intro r;cases r with
   | fail why=>simp [Tree.holds,OR.get]
   | ok v s'=>exact zW (Y:=λ s'=>(k s').holds L R)
   | F0 p v s' =>
    simp only [Tree.holds,OR.get,Option.some.injEq,Prod.mk.injEq];constructor
    ·rintro ⟨h1,h2⟩; exact ⟨_,_,⟨rfl,rfl⟩,h1,h2 h1⟩
    ·rintro ⟨_,_,⟨rfl,rfl⟩,h1,h2⟩; exact ⟨h1,λ _=>h2⟩
  cases ho:o.op with
  | pick c a b =>
   simp only;cases hc:s.ev c with
   | val t x =>
    cases t with
    | bool =>
     cases x with
     | true=>exact zW (Y:=λ s'=>(k s').holds L R)
     | false=>exact zW (Y:=λ s'=>(k s').holds L R)
    | _=>simp [Tree.holds]
   | _=>simp [Tree.holds]
  | _=>exact other _
theorem BC {o:Oper} {s:St} {k:St->Tree (E.rs++E1 E.ps)} {L:Code->List Item->St->Prop} {R:DL (E.rs++E1 E.ps)->Prop}:(xP E ops o s k).holds L R↔∃ p s',G8 E ops o s=some (p,s')/\p/\(k s').holds L R:=by
 unfold xP G8;cases hg:o.guard with
 | none=>exact Ht
 | some jw =>
  obtain ⟨j,want⟩:=jw;simp only;cases hs:zU ops j with
  | none=>simp [Tree.holds]
  | some g =>
   simp only;cases hv:s.ev (.tmp g) with
   | raw v =>
    cases v with
    | tuple vs =>
     simp only;cases hd:G3 E.nt o.dst with
     | false=>simp [Tree.holds]
     | true=>exact zW (Y:=λ s'=>(k s').holds L R)
    | _=>simp [Tree.holds]
   | val t x =>
    cases t with
    | bool =>
     simp only;cases hd:G3 E.nt o.dst with
     | false=>simp [Tree.holds]
     | true =>
      simp only;cases x with
      | true =>
       cases want with
       | true=>exact Ht
       | false=>exact zW (Y:=λ s'=>(k s').holds L R)
      | false =>
       cases want with
       | true=>exact zW (Y:=λ s'=>(k s').holds L R)
       | false=>exact Ht
    | _=>simp [Tree.holds]
   | _=>simp [Tree.holds]
def wK (ops:Array Oper) (x:Oper) (sx:St) (Tx:List Nat) (y:Oper) (Ty:List Nat):Prop :=
 (∀ m∈looks ops y,∀ i∈Tx,(J1 y (sx.get m)).i7 i=false)/\(∀ m∈looks ops x,∀ i∈Ty,(J1 x (sx.get m)).i7 i=false)/\(∀ i∈Tx,i % 1000≠(y.dst.getD 0) % 1000)
theorem HI {e:Met} {y:Oper} {Ty:List Nat} (h:AD ops e y Ty=true):wK ops e.o e.s e.T y Ty:=by
 simp only [AD,Bool.and_eq_true] at h;obtain ⟨h1,h2⟩:=h;refine ⟨?_,?_,?_⟩
 ·intro m hm i hi
  split at h1
  ·rename_i he; rw [he] at hi; cases hi
  ·simp only [Bool.and_eq_true,List.all_eq_true,Bool.not_eq_true'] at h1
   exact h1.1 m hm i hi
 ·intro m hm i hi
  split at h2
  ·cases hi
  ·simp only [List.all_eq_true,Bool.not_eq_true'] at h2
   exact h2 m hm i hi
 ·intro i hi jo
  split at h1
  ·rename_i he; rw [he] at hi; cases hi
  ·simp only [Bool.and_eq_true,List.all_eq_true,Bool.not_eq_true'] at h1
   have:=h1.2 i hi;rw [jo] at this;simp at this
def Z9 (E:Env) (ops:Array Oper) (M:Nat->Nat):List (Nat×St)->List Nat->St->St->Prop
 | _,[],s,s'=>s=s'
 | acc,i::l,s,s'=>∃ o,ops[i]?=some o/\(∀ e∈acc,(M i).testBit e.1=true\/∃ x,ops[e.1]?=some x/\wK ops x e.2 (j9 E x e.2) o (j9 E o s)) /\
   ∃ p s1,G8 E ops o s=some (p,s1)/\p/\Z9 E ops M ((i,s)::acc) l s1 s'
def Ar (E:Env) (ops:Array Oper) (q:vz):Prop:=∃ oa c,ops[q.k]?=some oa/\oa.guard=none/\oa.dst=some q.d/\G3 E.nt (some q.d)=true/\oa.op=.call c/\c.callee=.builtin .append/\c.args.toList=[q.x,q.y]/\c.argTypes.toList=[q.T,q.U]
theorem XA {o:Oper} {s:St} {i:Nat} {q:vz} (h:Fy E o s i=some q) (ho:ops[i]?=some o):Ar E ops q/\q.k=i:=by
 unfold Fy at h;split at h
 ·rename_i d c hg hd gB cz
  split at h
  ·rename_i x y T U hc ha hT
   split at h
   ·split at h
    ·cases h
    ·cases h
     exact ⟨⟨o,c,ho,hg,hd,by rw [<- hd]; exact gB,cz,hc,ha,hT⟩,rfl⟩
   ·cases h
  ·cases h
 ·cases h
def GJ (E:Env) (ops:Array Oper) (M:List Nat) (q:vz) (s1:St) (k:St->Tree (E.rs++E1 E.ps)) (L:Code->List Item->St->Prop) (R:DL (E.rs++E1 E.ps)->Prop):Prop :=
 ∃ o p s2,ops[ops.size - 1]?=some o/\zf E ops M q (ops.size - 1) o s1=some (p,s2)/\p/\(k s2).holds L R
theorem a24 {o:Oper} {l:List Oper} {n:Nat} (hl:ops.toList.drop n=o::l):ops[n]?=some o/\ops.toList.drop (n+1)=l/\ops.size=n+1+l.length:=by
 have h1:(ops.toList.drop n)[0]?=some o:=by rw [hl]; rfl
 have h2:(ops.toList.drop n).length=(o::l).length:=by rw [hl]
 simp only [List.length_drop,List.length_cons,Array.length_toList] at h2;refine ⟨by simpa using h1,?_,by omega⟩;rw [<- List.drop_drop,hl]; rfl
theorem QN {M:List Nat} {q:vz} {k:St->Tree (E.rs++E1 E.ps)} {L:Code->List Item->St->Prop} {R:DL (E.rs++E1 E.ps)->Prop}:∀ {l:List Oper} {n:Nat} {s:St} {acc:List Met} {bJ:List (Nat×St)},ops.toList.drop n=l ->
  (∀ e∈bJ,∃ m∈acc,m.i=e.1/\ops[e.1]?=some m.o/\m.s=e.2/\m.T=j9 E m.o e.2)->(Ao E ops M q n l s acc k).holds L R->∃ s',Z9 E ops (λ i=>M.getD i 0) bJ (List.range' n (l.length - 1)) s s'/\GJ E ops M q s' k L R
 | [],n,s,acc,bJ,_,_,h=>h.elim
 | [o],n,s,acc,bJ,hl,ha,h=>by
  obtain ⟨h1,h2,h3⟩:=a24 hl;simp only [Ao] at h;split at h
  ·rename_i p s2 hf
   have e:ops.size - 1=n:=by simp at h3; omega
   exact ⟨s,rfl,o,p,s2,by rw [e]; exact h1,by rw [e]; exact hf,h.1,h.2 h.1⟩
  ·exact h.elim
 | o::o2::l,n,s,acc,bJ,hl,ha,h=>by
  obtain ⟨ho,ez,_⟩:=a24 hl;simp only [Ao] at h;split at h
  ·exact h.elim
  ·rename_i bH
   obtain ⟨p,s1,h1,h2,h3⟩:=BC.1 h;obtain ⟨s',k1,k2⟩:=QN (bJ:=(n,s)::bJ) ez (λ e he=>by
    rcases List.mem_cons.1 he with rfl|he
    ·exact ⟨_,List.mem_cons_self ..,rfl,ho,rfl,rfl⟩
    ·obtain ⟨m,hm,r⟩:=ha e he; exact ⟨m,List.mem_cons_of_mem _ hm,r⟩) h3
   refine ⟨s',⟨o,ho,λ e he=>?_,p,s1,h1,h2,k1⟩,k2⟩;obtain ⟨m,hm,m1,m2,m3,m4⟩:=ha e he;have:=(List.all_eq_true.1 bH) m hm;simp only [Bool.or_eq_true] at this;rcases this with this|this
   ·exact .inl (by rw [<- m1]; exact this)
   ·have hp:=HI this
    rw [m3,m4] at hp;exact .inr ⟨m.o,m2,hp⟩
theorem QO {M:List Nat} {k:St->Tree (E.rs++E1 E.ps)} {L:Code->List Item->St->Prop} {R:DL (E.rs++E1 E.ps)->Prop}:∀ {l:List Oper} {n:Nat} {s:St} {acc:List Met} {bJ:List (Nat×St)},ops.toList.drop n=l ->
  (∀ e∈bJ,∃ m∈acc,m.i=e.1/\ops[e.1]?=some m.o/\m.s=e.2/\m.T=j9 E m.o e.2)->(CC E ops M n l s acc k).holds L R ->
  (∃ s',Z9 E ops (λ i=>M.getD i 0) bJ (List.range' n l.length) s s'/\(k s').holds L R) \/
  ∃ q s',n<=q.k/\Ar E ops q/\Z9 E ops (λ i=>M.getD i 0) bJ ((List.range' n (l.length - 1)).filter (λ j=>!(j == q.k))) s s'/\GJ E ops M q s' k L R
 | [],n,s,acc,bJ,_,_,h=>.inl ⟨s,rfl,h⟩
 | o::l,n,s,acc,bJ,hl,ha,h=>by
  obtain ⟨ho,ez,_⟩:=a24 hl;simp only [CC] at h;split at h
  ·rename_i q hq
   obtain ⟨a1,a2⟩:=XA hq ho;obtain ⟨s',k1,k2⟩:=QN ez ha h;refine .inr ⟨q,s',by omega,a1,?_,k2⟩;cases l with
   | nil =>
    simp only [List.length_nil,Nat.zero_sub,List.range'_zero] at k1;simpa using k1
   | cons o2 l =>
    simp only [List.length_cons,Nat.add_sub_cancel] at k1 ⊢;rw [List.range'_succ,List.filter_cons];simp only [a2,beq_self_eq_true,Bool.not_true,Bool.false_eq_true,if_false];rw [List.filter_eq_self.2 (λ j hj=>by have:=(List.mem_range'_1.1 hj).1; simp; omega)];exact k1
  ·split at h
   ·exact h.elim
   ·rename_i bH
    obtain ⟨p,s1,h1,h2,h3⟩:=BC.1 h;have nj:∀ e∈bJ,(M.getD n 0).testBit e.1=true\/∃ x,ops[e.1]?=some x/\wK ops x e.2 (j9 E x e.2) o (j9 E o s):=by
     intro e he;obtain ⟨m,hm,m1,m2,m3,m4⟩:=ha e he;have:=(List.all_eq_true.1 bH) m hm;simp only [Bool.or_eq_true] at this;rcases this with this|this
     ·exact .inl (by rw [<- m1]; exact this)
     ·have hp:=HI this
      rw [m3,m4] at hp;exact .inr ⟨m.o,m2,hp⟩
    rcases QO (bJ:=(n,s)::bJ) ez (λ e he=>by
     rcases List.mem_cons.1 he with rfl|he
     ·exact ⟨_,List.mem_cons_self ..,rfl,ho,rfl,rfl⟩
     ·obtain ⟨m,hm,r⟩:=ha e he; exact ⟨m,List.mem_cons_of_mem _ hm,r⟩) h3 with ⟨s',k1,k2⟩|⟨q,s',k0,k1,k2,k3⟩
    ·exact .inl ⟨s',⟨o,ho,nj,p,s1,h1,h2,k1⟩,k2⟩
    ·refine .inr ⟨q,s',by omega,k1,?_,k3⟩
     cases l with
     | nil =>
      exfalso;obtain ⟨oa,c,a1,_⟩:=k1;have:=(Array.getElem?_eq_some_iff.1 a1).1;have h9:=(a24 hl).2.2;simp at h9; omega
     | cons o2 l =>
      simp only [List.length_cons,Nat.add_sub_cancel] at k2 ⊢;rw [List.range'_succ,List.filter_cons];have bG:(!(n == q.k))=true:=by simp; omega
      rw [if_pos bG];exact ⟨o,ho,nj,p,s1,h1,h2,k2⟩
end
end Go.Ex
namespace Go.Ex
def uniq {α:Type _}:List (Nat×α)->Prop
 | []=>True
 | (n,_)::l=>(∀ q∈l,n<q.1)/\uniq l
theorem DZ {α:Type _} {n:Nat}:∀ {l:List (Nat×α)},(∀ q∈l,n<q.1)->look n l=none
 | [],_=>rfl
 | (m,x)::l,h=>by
  have:=h (m,x) (by simp);simp only [look,a28 (Nat.ne_of_lt this)];exact DZ (λ q hq=>h q (by simp [hq]))
theorem NA {α:Type _} {n:Nat} {x:α} {q:Nat×α}:∀ {l:List (Nat×α)},q∈put n x l->q.1=n\/q∈l
 | [],h=>by simp [put] at h; exact .inl (by rw [h])
 | (m,y)::l,h=>by
  simp only [put] at h;split at h
  ·rcases List.mem_cons.1 h with rfl|h
   ·exact .inl rfl
   ·exact .inr (by simp [h])
  ·split at h
   ·rcases List.mem_cons.1 h with rfl|h
    ·exact .inl rfl
    ·exact .inr h
   ·rcases List.mem_cons.1 h with rfl|h
    ·exact .inr (by simp)
    ·exact (NA h).imp id (λ h=>by simp [h])
theorem Pr {α:Type _} (n:Nat) (x:α):∀ {l:List (Nat×α)},uniq l->uniq (put n x l)
 | [],_=>⟨by simp,trivial⟩
 | (m,y)::l,⟨h1,h2⟩=>by
  simp only [put];cases hb:Nat.beq n m with
  | true=>have:=Nat.eq_of_beq_eq_true hb; subst this; exact ⟨h1,h2⟩
  | false =>
   have bG:n≠m:=by rintro rfl; simp at hb
   simp only;cases bf:Nat.blt n m with
   | true =>
    have bf:n<m:=by simpa [Nat.blt_eq] using bf
    exact ⟨λ q hq=>by
     rcases List.mem_cons.1 hq with rfl|hq
     ·exact bf
     ·exact Nat.lt_trans bf (h1 q hq),h1,h2⟩
   | false =>
    have bf:¬ n<m:=by
     intro hl;have h3:Nat.blt n m=true:=by simpa [Nat.blt_eq] using hl
     rw [h3] at bf; cases bf
    refine ⟨λ q hq=>?_,Pr n x h2⟩;rcases NA hq with e|hq
    ·omega
    ·exact h1 q hq
theorem r8 {α:Type _}:∀ {l:List (Nat×α)},AN l=true->uniq l
 | [],_=>trivial
 | (n,x)::l,h=>by
  simp only [AN,Bool.and_eq_true] at h;have ih:=r8 h.2;refine ⟨?_,ih⟩;cases l with
  | nil=>simp
  | cons q l =>
   obtain ⟨m,y⟩:=q;have bf:n<m:=by simpa [Nat.blt_eq] using h.1
   intro q hq;rcases List.mem_cons.1 hq with rfl|hq
   ·exact bf
   ·exact Nat.lt_trans bf (ih.1 q hq)
theorem Ej {d:Nat}:∀ {l:List (Nat×AV)},uniq l->(∀ n v,look n l=some v->v.i7 d=false)->vO d l=true
 | [],_,_=>rfl
 | (m,v)::l,⟨h0,h2⟩,h=>by
  have h1:=DZ h0;simp only [vO,Bool.and_eq_true,Bool.not_eq_true'];refine ⟨h m v (by simp [look]),Ej h2 (λ n w hw=>h n w ?_)⟩;simp only [look];cases hb:Nat.beq n m with
  | true=>have:=Nat.eq_of_beq_eq_true hb; subst this; rw [h1] at hw; cases hw
  | false=>exact hw
theorem I1:∀ {v:AV} {i:Nat},i∈v.G9↔v.i7 i=true:=by
 intro v
 induction v with
 | cons a b iha ihb=>intro i; simp only [AV.G9,List.mem_append,AV.i7,Bool.or_eq_true,iha,ihb]
 | K0 l ih=>intro i; exact ih
 | C1 f l ih=>intro i; exact ih
 | bx l ih=>intro i; exact ih
 | rc f l ih=>intro i; exact ih
 | ptr j p=>intro i; simp [AV.G9,AV.i7]
 | at_ j p=>intro i; simp [AV.G9,AV.i7]
 | sub j p a b=>intro i; simp [AV.G9,AV.i7]
 | _=>intro i; simp [AV.G9,AV.i7]
def AV.plain:AV->Bool
 | .any|.raw _|.val _ _|.K2 _ _|.nil=>true
 | _=>false
structure Trim (T:List Nat) (f:AV->AV):Prop where
 cons:∀ a b,f (.cons a b)=.cons (f a) (f b)
 K0:∀ l,f (.K0 l)=.K0 (f l)
 C1:∀ g l,f (.C1 g l)=.C1 g (f l)
 bx:∀ l,f (.bx l)=.bx (f l)
 rc:∀ g l,f (.rc g l)=.rc g (f l)
 atom:∀ u,u.ref=true->f u=u\/f u=.any
 wZ:∀ u,u.ref=true->(∀ i∈T,u.i7 i=false)->f u=u
 plain:∀ u,u.plain=true->f u=u
theorem AV.shape (P:AV->Prop) (hp:∀ u,u.plain=true->P u) (ha:∀ u,u.ref=true->P u) (hc:∀ a b,P a->P b->P (.cons a b)) (ht:∀ l,P l->P (.K0 l)) (hf:∀ g l,P l->P (.C1 g l)) (hb:∀ l,P l->P (.bx l)) (hr:∀ g l,P l->P (.rc g l)):∀ u,P u:=by
 intro u
 induction u with
 | cons a b iha ihb=>exact hc a b iha ihb
 | K0 l ih=>exact ht l ih
 | C1 f l ih=>exact hf f l ih
 | bx l ih=>exact hb l ih
 | rc f l ih=>exact hr f l ih
 | ptr j p=>exact ha _ rfl
 | at_ j p=>exact ha _ rfl
 | sub j p a b=>exact ha _ rfl
 | _=>exact hp _ rfl
section
variable {T T':List Nat} {f g:AV->AV}
theorem Trim.id (T:List Nat):Trim T (λ u=>u):=⟨λ _ _=>rfl,λ _=>rfl,λ _ _=>rfl,λ _=>rfl,λ _ _=>rfl,λ _ _=>.inl rfl,λ _ _ _=>rfl,λ _ _=>rfl⟩
theorem Trim.map {g:AV->AV} (h1:∀ u,u.ref=true->g u=u\/g u=.any) (h2:∀ u,u.ref=true->(∀ i∈T,u.i7 i=false)->g u=u):Trim T (AV.map g):=by
 have e:∀ u:AV,u.ref=true->u.map g=g u:=by intro u hu; cases u<;>simp only [AV.ref] at hu<;>first|rfl|cases hu
 exact ⟨λ _ _=>rfl,λ _=>rfl,λ _ _=>rfl,λ _=>rfl,λ _ _=>rfl,λ u hu=>by rw [e u hu]; exact h1 u hu,λ u hu hm=>by rw [e u hu]; exact h2 u hu hm,λ u hu=>by cases u<;>simp only [AV.plain] at hu<;>first|rfl|cases hu⟩
theorem Trim.comp (hf:Trim T f) (hg:Trim T' g) {U:List Nat} (h1:∀ i∈T,i∈U) (h2:∀ i∈T',i∈U):Trim U (λ u=>g (f u)):=by
 refine ⟨λ a b=>by rw [hf.cons,hg.cons],λ l=>by rw [hf.K0,hg.K0],λ k l=>by rw [hf.C1,hg.C1],λ l=>by rw [hf.bx,hg.bx],λ k l=>by rw [hf.rc,hg.rc],?_,?_,λ u hu=>by rw [hf.plain u hu,hg.plain u hu]⟩
 ·intro u hu
  rcases hf.atom u hu with h|h
  ·rw [h]; exact hg.atom u hu
  ·rw [h]; exact .inr (hg.plain _ rfl)
 ·intro u hu hm
  rw [hf.wZ u hu (λ i hi=>hm i (h1 i hi)),hg.wZ u hu (λ i hi=>hm i (h2 i hi))]
theorem Trim.mono (hf:Trim T f) (h:∀ i∈T,i∈T'):Trim T' f:=⟨hf.cons,hf.K0,hf.C1,hf.bx,hf.rc,hf.atom,λ u hu hm=>hf.wZ u hu (λ i hi=>hm i (h i hi)),hf.plain⟩
theorem Trim.fix (hf:Trim T f):∀ u,(∀ i∈T,u.i7 i=false)->f u=u:=by
 refine AV.shape _ (λ u hu _=>hf.plain u hu) (λ u hu hm=>hf.wZ u hu hm) ?_ ?_ ?_ ?_ ?_
 ·intro a b ha hb hm
  simp only [AV.i7,Bool.or_eq_false_iff] at hm;rw [hf.cons,ha (λ i hi=>(hm i hi).1),hb (λ i hi=>(hm i hi).2)]
 ·intro l hl hm; rw [hf.K0,hl hm]
 ·intro k l hl hm; rw [hf.C1,hl hm]
 ·intro l hl hm; rw [hf.bx,hl hm]
 ·intro k l hl hm; rw [hf.rc,hl hm]
theorem Trim.i7 (hf:Trim T f) {i:Nat}:∀ u,(f u).i7 i=true->u.i7 i=true:=by
 refine AV.shape _ (λ u hu h=>by rw [hf.plain u hu] at h; exact h) (λ u hu h=>?_) ?_ ?_ ?_ ?_ ?_
 ·rcases hf.atom u hu with e|e
  ·rw [e] at h; exact h
  ·rw [e] at h; cases h
 ·intro a b ha hb h
  rw [hf.cons] at h;simp only [AV.i7,Bool.or_eq_true] at h ⊢;exact h.imp ha hb
 ·intro l hl h; rw [hf.K0] at h; exact hl h
 ·intro k l hl h; rw [hf.C1] at h; exact hl h
 ·intro l hl h; rw [hf.bx] at h; exact hl h
 ·intro k l hl h; rw [hf.rc] at h; exact hl h
theorem Trim.comm (hf:Trim T f) (hg:Trim T' g):∀ u,f (g u)=g (f u):=by
 refine AV.shape _ (λ u hu=>by rw [hf.plain u hu,hg.plain u hu,hf.plain u hu]) (λ u hu=>?_) ?_ ?_ ?_ ?_ ?_
 ·have ha:f .any=.any:=hf.plain _ rfl
  have hb:g .any=.any:=hg.plain _ rfl;rcases hf.atom u hu with e|e<;>rcases hg.atom u hu with e'|e'<;>simp only [e,e',ha,hb]
 ·intro a b ha hb; rw [hg.cons,hf.cons,hf.cons,hg.cons,ha,hb]
 ·intro l hl; rw [hg.K0,hf.K0,hf.K0,hg.K0,hl]
 ·intro k l hl; rw [hg.C1,hf.C1,hf.C1,hg.C1,hl]
 ·intro l hl; rw [hg.bx,hf.bx,hf.bx,hg.bx,hl]
 ·intro k l hl; rw [hg.rc,hf.rc,hf.rc,hg.rc,hl]
theorem Trim.drop (i:Nat):Trim [i] (AV.drop i):=by
 refine Trim.map (λ u _=>?_) (λ u _ hm=>?_)
 ·cases hm:u.i7 i with
  | true=>exact .inr (by simp only)
  | false=>exact .inl (by simp only)
 ·simp only [hm i (by simp)]
theorem Trim.kill (i:Nat) (ow:Bool×Ty) (q:List Step):Trim [i] (AV.kill i ow q):=by
 refine Trim.map (λ u hu=>?_) (λ u _ hm=>?_)
 ·unfold AV.AK
  split
  ·exact .inl rfl
  ·split
   ·split<;>first|exact .inl rfl|exact .inr rfl
   ·split
    ·exact .inl rfl
    ·split<;>first|exact .inl rfl|exact .inr rfl
   ·split<;>first|exact .inl rfl|exact .inr rfl
   ·split<;>first|exact .inl rfl|exact .inr rfl
   ·exact .inr rfl
 ·unfold AV.AK; rw [hm i (by simp)]
theorem Trim.Y1 (i:Nat) (ow:Bool):Trim [i] (AV.map (AV.xq i ow)):=by
 refine Trim.map (λ u hu=>?_) (λ u _ hm=>?_)
 ·unfold AV.xq
  split
  ·exact .inl rfl
  ·split
   ·split<;>first|exact .inl rfl|exact .inr rfl
   ·split<;>first|exact .inl rfl|exact .inr rfl
   ·split<;>first|exact .inl rfl|exact .inr rfl
   ·exact .inr rfl
 ·unfold AV.xq; rw [hm i (by simp)]
def xo:List Nat->AV->AV
 | [],u=>u
 | i::g,u=>xo g (u.drop i)
theorem Trim.w6:∀ g:List Nat,Trim g (xo g)
 | []=>Trim.id []
 | i::g=>Trim.comp (Trim.drop i) (Trim.w6 g) (by simp) (λ j hj=>List.mem_cons_of_mem _ hj)
end
structure LD (s s1:St) (T ids:List Nat) (f:AV->AV) (h:Nat->Option g8):Prop where
 fr:∀ n,look n s1.fr=(look n s.fr).map f
 hp:∀ i,look i s1.hp=if i∈T\/i∈ids then h i else look i s.hp
def R9 (s:St) (ids:List Nat):Prop:=∀ n∈ids,look n s.hp=none/\∀ m v,look m s.fr=some v->v.i7 n=false
theorem Cg:∀ {g:List Nat} {s:St} {n:Nat},look n (St.w6 g s).fr=(look n s.fr).map (xo g)
 | [],s,n=>by simp [St.w6,xo]
 | i::g,s,n=>by
  simp only [St.w6];rw [Cg (g:=g) (s:=s.drop i)];simp only [St.drop,N4,Option.map_map];rfl
theorem Pw {f:AV->AV} {q:Nat×AV}:∀ {l:List (Nat×AV)},q∈mapA f l->∃ r∈l,r.1=q.1
 | (n,x)::l,h=>by
  rcases List.mem_cons.1 h with rfl|h
  ·exact ⟨_,List.mem_cons_self ..,rfl⟩
  ·obtain ⟨r,hr,e⟩:=Pw h; exact ⟨r,by simp [hr],e⟩
theorem BQ {f:AV->AV}:∀ {l:List (Nat×AV)},uniq l->uniq (mapA f l)
 | [],_=>trivial
 | (n,x)::l,⟨h1,h2⟩=>⟨λ q hq=>by obtain ⟨r,hr,e⟩:=Pw hq; rw [<- e]; exact h1 r hr,BQ h2⟩
theorem Cc:∀ {g:List Nat} {s:St},uniq s.fr->uniq (St.w6 g s).fr
 | [],_,h=>h
 | i::g,s,h=>Cc (g:=g) (s:=s.drop i) (BQ h)
def X5 (s t:St) (xs:List Operand):Prop:=∀ x∈xs,t.ev x=s.ev x/\∀ i,(s.ev x).i7 i=true->t.obj i=s.obj i
theorem X5.refl (s:St) (xs:List Operand):X5 s s xs:=λ _ _=>⟨rfl,λ _ _=>rfl⟩
def OR.wC (t:St):OR->OR
 | .fail w=>.fail w
 | .ok v _=>.ok v t
 | .F0 p v _=>.F0 p v t
def OR.av:OR->AV
 | .ok v _=>v
 | .F0 _ v _=>v
 | .fail _=>.any
section
variable {E:Env} {s t:St}
theorem OT (k:IntKind) (r:Int):arith k r t=(arith k r s).wC t:=by unfold arith; split<;>rfl
theorem Vx (op:BinOp) (k k':IntKind) (a b:Int):wV op k a k' b t=(wV op k a k' b s).wC t:=by
 unfold wV
 split
 ·rfl
 ·rfl
 ·split
  ·split<;>first|rfl|exact OT _ _
  ·rfl
theorem Vz (W:Bool) (op:BinOp) (k k':IntKind) (a b:Int):wW W op k a k' b t=(wW W op k a k' b s).wC t:=by
 unfold wW
 split
 ·split<;>rfl
 ·exact Vx ..
theorem Vy (op:BinOp) (a b:yY):yo op a b t=(yo op a b s).wC t:=by unfold yo; split<;>rfl
theorem Vv (T:TypeId) (op:BinOp) (x y:AV):xE E T op x y t=(xE E T op x y s).wC t:=by
 unfold xE
 split
 ·exact Vz ..
 ·split<;>rfl
 ·exact Vy ..
 ·rfl
theorem LW (T:TypeId) (op:BinOp) (a:Ty) (x:a.den) (u:Ty) (y:u.den):eqA E T op a x u y t=(eqA E T op a x u y s).wC t:=by
 unfold eqA
 split
 ·split<;>rfl
 ·rfl
theorem Vw (T:TypeId) (op:BinOp) (x y:AV):wh E T op x y t=(wh E T op x y s).wC t:=by
 unfold wh
 split
 ·unfold zh; split<;>rfl
 ·exact LW ..
 ·exact LW ..
 ·exact Vv ..
theorem Ua (op:UnOp) (x:AV):unA op x t=(unA op x s).wC t:=by
 unfold unA
 repeat' (first|rfl|exact OT _ _|split)
theorem zw:∀ {xs:List Operand},(∀ x∈xs,t.ev x=s.ev x)->t.J3 xs=s.J3 xs
 | [],_=>rfl
 | x::xs,h=>by simp only [St.J3,h x (by simp),zw (xs:=xs) (λ y hy=>h y (by simp [hy]))]
theorem Z0 {i:Nat}:∀ {xs:List Operand},(s.J3 xs).i7 i=true->∃ x∈xs,(s.ev x).i7 i=true
 | [],h=>by cases h
 | x::xs,h=>by
  simp only [St.J3,AV.i7,Bool.or_eq_true] at h;rcases h with h|h
  ·exact ⟨x,by simp,h⟩
  ·obtain ⟨y,hy,h⟩:=Z0 h; exact ⟨y,by simp [hy],h⟩
theorem It {i:Nat} {x:Operand}:∀ {xs:List Operand},x∈xs->(s.ev x).i7 i=true->(s.J3 xs).i7 i=true
 | y::xs,hx,h=>by
  simp only [St.J3,AV.i7,Bool.or_eq_true];rcases List.mem_cons.1 hx with rfl|hx
  ·exact .inl h
  ·exact .inr (It hx h)
theorem DG {i:Nat}:∀ {a b:AV},(a.app b).i7 i=true->a.i7 i=true\/b.i7 i=true:=by
 intro a
 induction a with
 | cons x l _ ih =>
  intro b h;simp only [AV.app,AV.i7,Bool.or_eq_true] at h ⊢;rcases h with h|h
  ·exact .inl (.inl h)
  ·rcases ih h with h|h
   ·exact .inl (.inr h)
   ·exact .inr h
 | _=>intro b h; exact .inr h
def Alike (s t:St) (v:AV):Prop:=∀ i,v.i7 i=true->t.obj i=s.obj i
theorem I9 {i:Nat} {p:List Step} (h:t.obj i=s.obj i):t.part i p=s.part i p:=by simp only [St.part,h]
theorem DE {i:Nat} {p:List Step} {a b:Int} (h:t.obj i=s.obj i):t.view i p a b=s.view i p a b:=by simp only [St.view,I9 h]
theorem Ig {u:Ty} {i:Nat} {p:List Step} (h:t.obj i=s.obj i):t.vj u i p=s.vj u i p:=by simp only [St.vj,I9 h]
theorem UQ {u:Ty} {v:AV} (h:Alike s t v):v.asV t u=v.asV s u:=by
 cases v<;>first|rfl|exact Ig (h _ (by simp [AV.i7]))|(simp only [AV.asV]; rw [DE (h _ (by simp [AV.i7]))])
theorem LN {u:Ty} {v:AV} (h:Alike s t v):v.asR t u=v.asR s u:=by
 unfold AV.asR
 split
 ·exact Ig (h _ (by simp [AV.i7]))
 ·rfl
 ·rename_i i p
  have e:∀ u,t.vj u i p=s.vj u i p:=λ u=>Ig (h i (show AV.i7 i (AV.bx (.ptr i p))=true by simp [AV.i7]));simp only [e]
 ·rfl
theorem MS:∀ {ts:List Ty} {v:AV},Alike s t v->AV.xD t ts v=AV.xD s ts v
 | [],v,_=>by cases v<;>rfl
 | u::ts,v,h=>by
  cases v<;>try rfl
  rename_i a b;simp only [AV.xD,LN (v:=a) (λ i hi=>h i (by simp [AV.i7,hi])),MS (v:=b) (λ i hi=>h i (by simp [AV.i7,hi]))]
theorem Dz {v:AV} (h:Alike s t v):v.uT t=v.uT s:=by
 cases v<;>try rfl
 ·rename_i i p; cases p<;>simp only [AV.uT,h i (by simp [AV.i7])]
 ·rename_i i p a b; cases p<;>simp only [AV.uT,h i (by simp [AV.i7])]
theorem Hf {v:AV} (h:Alike s t v):v.els t=v.els s:=by
 unfold AV.els
 split
 ·rfl
 ·rename_i i p; simp only [I9 (h i (by simp [AV.i7]))]
 ·rename_i i p a b; simp only [DE (h i (by simp [AV.i7]))]
 ·rfl
theorem Eg {v:AV} {r:Sigma Ty.den} {g:List Nat} (h:v.uT s=some (r,g)):∀ i∈g,v.i7 i=true:=by
 unfold AV.uT at h;split at h
 ·cases h; simp
 ·split at h
  ·cases h; simp [AV.i7]
  ·cases h
 ·split at h
  ·cases h; simp [AV.i7]
  ·cases h
 ·cases h
theorem yN {v:AV} (h:Alike s t v):v.vm t=v.vm s:=by
 unfold AV.vm
 split
 ·rename_i i
  rw [h i (by simp [AV.i7]),Dz h]
 ·rfl
 ·exact Dz h
theorem Eo {v:AV} {r:Sigma Ty.den} {g:List Nat} (h:v.vm s=some (r,g)):∀ i∈g,v.i7 i=true:=by
 unfold AV.vm at h;split at h
 ·split at h
  ·cases h; simp [AV.i7]
  ·exact Eg h
 ·cases h; simp
 ·exact Eg h
theorem HG {u:Ty} {v:AV} (h:Alike s t v):v.uY t u=v.uY s u:=by
 unfold AV.uY
 split
 ·rfl
 ·rfl
 ·simp only [Hf h,Dz h]
theorem PR {u:Ty} {v:AV} {r:Sigma λ t:Ty=>List t.den} {g:List Nat} (h:v.uY s u=some (r,g)):∀ i∈g,v.i7 i=true:=by
 unfold AV.uY at h;split at h
 ·cases h; simp
 ·cases h; simp
 ·split at h
  ·cases h
  ·split at h
   ·cases h; simp
   ·split at h
    ·rename_i hg; cases h; exact Eg hg
    ·cases h
theorem Hj {d:Int} {x:Option Operand} (h:∀ y,x=some y->t.ev y=s.ev y):Z4 t d x=Z4 s d x:=by
 cases x with
 | none=>rfl
 | some y=>simp only [Z4,h y rfl]
theorem UP {k:PK} {v:AV} (h:Alike s t v):v.P5 t k=v.P5 s k:=by
 cases k with
 | v u=>simp only [AV.P5,UQ h]
 | rd u=>simp only [AV.P5,LN h]
 | T1=>cases v<;>rfl
 | rcs f n=>rfl
 | el q=>rfl
 | C1 f ts =>
  cases v<;>try rfl
  simp only [AV.P5]; rw [MS (λ i hi=>h i (by simpa [AV.i7] using hi))]
 | own u =>
  have hg:=yN h;unfold AV.P5;dsimp only
  split
  ·rfl
  ·rw [hg]
 | rw u =>
  cases v<;>try rfl
  rename_i i p; cases p<;>simp only [AV.P5,h i (by simp [AV.i7])]
 | mu u =>
  cases v<;>try rfl
  rename_i i p; cases p<;>simp only [AV.P5,h i (by simp [AV.i7])]
theorem MR:∀ {ks:List PK} {v:AV},Alike s t v->AV.uV t ks v=AV.uV s ks v
 | [],v,_=>by cases v<;>rfl
 | k::ks,v,h=>by
  cases v<;>try rfl
  rename_i a b;simp only [AV.uV,UP (v:=a) (λ i hi=>h i (by simp [AV.i7,hi])),MR (v:=b) (λ i hi=>h i (by simp [AV.i7,hi]))]
theorem XC {k:PK} {v:AV} {x:k.den} {g m:List Nat} (h:v.P5 s k=some (x,g,m)):(∀ i∈g++m,v.i7 i=true)/\(k.j9=false->g=[]/\m=[]):=by
 cases k with
 | v u=>simp only [AV.P5] at h; split at h<;>cases h; simp
 | rd u=>simp only [AV.P5] at h; split at h<;>cases h; simp
 | T1=>simp only [AV.P5] at h; split at h<;>cases h; simp
 | rcs f n=>simp only [AV.P5] at h; cases h
 | el q=>simp only [AV.P5] at h; cases h
 | C1 f ts =>
  simp only [AV.P5] at h;split at h
  ·split at h
   ·split at h<;>cases h; simp
   ·cases h
  ·cases h
 | own u =>
  refine ⟨?_,λ h=>by cases h⟩;simp only [AV.P5] at h;split at h
  ·split at h<;>cases h; simp
  ·split at h
   ·rename_i hg
    split at h
    ·cases h
     intro i hi;exact Eo hg i (by simpa using hi)
    ·cases h
   ·cases h
 | rw u =>
  refine ⟨?_,λ h=>by cases h⟩;simp only [AV.P5] at h;split at h
  ·split at h
   ·split at h
    ·cases h; simp [AV.i7]
    ·cases h
   ·cases h
  ·cases h
 | mu u =>
  refine ⟨?_,λ h=>by cases h⟩;simp only [AV.P5] at h;split at h
  ·split at h
   ·split at h
    ·cases h; simp [AV.i7]
    ·cases h
   ·cases h
  ·cases h
theorem PT:∀ {ks:List PK} {v:AV} {x:DK ks} {g m:List Nat},AV.uV s ks v=some (x,g,m)->(∀ i∈g++m,v.i7 i=true)/\(ks.any PK.j9=false->g=[]/\m=[])
 | [],v,x,g,m,h=>by
  cases v<;>simp only [AV.uV] at h<;>cases h;simp
 | k::ks,v,x,g,m,h=>by
  cases v<;>simp only [AV.uV] at h<;>try (cases h; done)
  split at h
  ·rename_i h1 h2
   cases h;obtain ⟨a1,a2⟩:=XC h1;obtain ⟨b1,b2⟩:=PT h2;refine ⟨?_,?_⟩
   ·intro i hi
    simp only [List.mem_append] at hi a1 b1;simp only [AV.i7,Bool.or_eq_true];rcases hi with (hi|hi)|(hi|hi)
    ·exact .inl (a1 i (.inl hi))
    ·exact .inr (b1 i (.inl hi))
    ·exact .inl (a1 i (.inr hi))
    ·exact .inr (b1 i (.inr hi))
   ·intro ht
    simp only [List.any_cons,Bool.or_eq_false_iff] at ht;obtain ⟨r1,r2⟩:=a2 ht.1;obtain ⟨r3,r4⟩:=b2 ht.2;simp [r1,r2,r3,r4]
  ·cases h
theorem Ea:∀ {parts:List (Nat×Operand)} {r:Sigma Ty.den},(∀ q∈parts,t.ev q.2=s.ev q.2/\Alike s t (s.ev q.2))->R8 t r parts=R8 s r parts
 | [],⟨_,_⟩,_=>rfl
 | (i,v)::parts,⟨u,x⟩,h=>by
  have ih:=λ r=>Ea (parts:=parts) (r:=r) (λ q hq=>h q (by simp [hq]));obtain ⟨h1,h2⟩:=h (i,v) (by simp);have h1:t.ev v=s.ev v:=h1;have h2:=yN h2;have h2:(s.ev v).vm t=(s.ev v).vm s:=h2;simp only [R8,h1,ih]
  split
  ·rfl
  ·split
   ·rfl
   ·rw [h2]
theorem EF:∀ {parts:List (Nat×Operand)} {r r':Sigma Ty.den} {g:List Nat},R8 s r parts=some (r',g)->∀ i∈g,∃ q∈parts,(s.ev q.2).i7 i=true
 | [],⟨_,_⟩,r',g,h=>by simp only [R8] at h; cases h; simp
 | (j,v)::parts,⟨u,x⟩,r',g,h=>by
  simp only [R8] at h;split at h
  ·cases h
  ·split at h
   ·split at h
    ·split at h
     ·intro i hi
      obtain ⟨q,hq,hm⟩:=EF h i hi;exact ⟨q,by simp [hq],hm⟩
     ·cases h
    ·cases h
   ·split at h
    ·rename_i hg
     split at h
     ·split at h
      ·rename_i hb
       cases h;intro i hi;rcases List.mem_append.1 hi with hi|hi
       ·exact ⟨(j,v),by simp,Eo hg i hi⟩
       ·obtain ⟨q,hq,hm⟩:=EF hb i hi
        exact ⟨q,by simp [hq],hm⟩
      ·cases h
     ·cases h
    ·cases h
end
end Go.Ex
