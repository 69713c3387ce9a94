import Derived.Test.YtijlnmgondibnaaGreatDoorExK5
set_option linter.unusedVariables false
set_option linter.unusedSimpArgs false
set_option linter.unusedSectionVars false
namespace Go.Ex
section
variable {E:Env} {B:D7} {S:Nat->Prop} {ι:Ix} {s:St} {a:Act} {w:World}
def Aw (P:Program) (S:Nat->Prop) (ι:Ix) (o:Oper) (a:Act) (w:World) (s:St) (v:AV):Prop :=
 ∃ val,(∀ w',(execOp a.eval o).run P w'=.ok (.value val) w')/\VX w.heap S ι s.hp v [val]
def zb (P:Program) (S:Nat->Prop) (ι:Ix) (o:Oper) (a:Act) (w:World) (s:St):OR->Prop
 | .fail _=>True
 | .ok v s'=>s'=s/\Aw P S ι o a w s v
 | .E9 p v s'=>p->s'=s/\Aw P S ι o a w s v
theorem xL {P:Program} {o:Oper} {sem:Sem Value} (he:execOp a.eval o=(do pure (.value (<- sem)))) {v:AV} {val:Value} (hr:∀ w',sem.run P w'=.ok val w')
  (hv:VX w.heap S ι s.hp v [val]):s=s/\Aw P S ι o a w s v:=⟨rfl,val,λ w'=>by rw [he]; simp [hr w',Result.andThen],hv⟩
theorem b1t (hE:C4 E B) (h:RS B S ι s a w) {o:Oper} {T:TypeId} {x:Operand} {n:Nat} (ho:o.op=.fieldAddr T x n):zb E.P S ι o a w s (l7 E o s):=by
 have he:execOp a.eval o=(do pure (.value (<- Instr.fieldAt T (a.eval x) n))):=by simp [execOp,ho]
 unfold l7;rw [ho];simp only
 split
 ·rename_i i p hx
  split
  ·rename_i u z cR
   split
   ·rename_i r hc gz
    obtain ⟨e,b,off,h1,h2,h3,h4⟩:=B9 h hx;have hg:=G9 h1 cR;have h4:a.eval x=.pointer (some ⟨b,off,none⟩):=by simpa using h4
    obtain ⟨u2,z2⟩:=r;exact xL he (λ _=>by rw [h4]; exact zG (C6 hE hc) gz b off) ⟨e,b,off+Q5 u n,h1,V6 hg h2 (xz gz),BA hg h3 (λ G=>xG gz),rfl⟩
   ·trivial
  ·trivial
 ·rename_i t y hx
  split
  ·rename_i u z hc hg
   obtain ⟨b,off,e,h1,h2,h3⟩:=B9 h hx;have e:a.eval x=.pointer (some ⟨b,off,none⟩):=by simpa using e
   have aM:=xz hg;obtain ⟨O1,O2,b',aA,e1,e2,e3,e4,e5,e6⟩:=focus h3 h2 aM hg
   have hO:O1=[]/\O2=[]:=by have:=e1.nil_eq; simpa using this.symm
   rw [xG hg] at e3; cases e3;refine xL he (λ _=>by rw [e]; exact zG (C6 hE hc) hg b off) ⟨b,off+Q5 t n,rfl,h1,e5,?_⟩;rw [hO.2] at e4; exact e4
  ·trivial
 ·rename_i t y hx
  split
  ·rename_i u z hc hg
   intro hy;obtain ⟨b,off,e,h1,h2,h3⟩:=CU (B9 h hx) hy;have e:a.eval x=.pointer (some ⟨b,off,none⟩):=by simpa using e
   have aM:=xz hg;obtain ⟨O1,O2,b',aA,e1,e2,e3,e4,e5,e6⟩:=focus h3 h2 aM hg
   have hO:O1=[]/\O2=[]:=by have:=e1.nil_eq; simpa using this.symm
   rw [xG hg] at e3; cases e3;refine xL he (λ _=>by rw [e]; exact zG (C6 hE hc) hg b off) ⟨b,off+Q5 t n,rfl,h1,e5,?_⟩;rw [hO.2] at e4; exact e4
  ·trivial
 ·trivial
theorem b1o (hE:C4 E B) (h:RS B S ι s a w) {o:Oper} {T:TypeId} {x y:Operand} (ho:o.op=.indexAddr T x y):zb E.P S ι o a w s (l7 E o s):=by
 have he:execOp a.eval o=(do pure (.value (<- Instr.indexAt T (a.eval x) (a.eval y)))):=by simp [execOp,ho]
 unfold l7;rw [ho];simp only
 split
 ·rename_i d p k n hx hy
  split
  ·rename_i m u z cR
   split
   ·rename_i hc
    intro hn;obtain ⟨e,b,off,h1,h2,h3,h4⟩:=B9 h hx;have hg:=G9 h1 cR;have h4:a.eval x=.pointer (some ⟨b,off,none⟩):=by simpa using h4
    obtain ⟨dH,_⟩:=VX.H2 (B9 h hy);exact xL he (λ _=>by rw [h4,dH]; exact Ei (C6 hE hc) b off hn) ⟨e,b,off+n.toNat*u.size,h1,V6 hg h2 ⟨hn,M7⟩,BA hg h3 (λ G=>by simp only [x6,x7]),rfl⟩
   ·trivial
  ·trivial
 ·rename_i m t z k n hx hy
  split
  ·rename_i hc
   intro hn;obtain ⟨b,off,e,h1,h2,h3⟩:=B9 h hx;have e:a.eval x=.pointer (some ⟨b,off,none⟩):=by simpa using e
   obtain ⟨dH,_⟩:=VX.H2 (B9 h hy);have aM:w8 (.arr m t) z [.idx n]:=⟨hn,by cases t<;>trivial⟩;have hg:j8 (.arr m t) z [.idx n]=some ⟨t,List.getD z (Int.toNat n) t.p9⟩:=by simp only [j8]
   obtain ⟨O1,O2,b',aA,e1,e2,e3,e4,e5,e6⟩:=focus h3 h2 aM hg
   have hO:O1=[]/\O2=[]:=by have:=e1.nil_eq; simpa using this.symm
   have e3':x6 w.heap (.arr m t) [.idx n] b off=some (b,off+Int.toNat n*t.size):=by simp only [x6]
   rw [e3'] at e3; cases e3;refine xL he (λ _=>by rw [e,dH]; exact Ei (C6 hE hc) b off hn) ⟨b,off+Int.toNat n*t.size,rfl,h1,e5,?_⟩;rw [hO.2] at e4; exact e4
  ·trivial
 ·rename_i t z k n hx hy
  split
  ·rename_i hc
   intro hn;obtain ⟨cs,e,hR⟩:=B9 h hx;have e:a.eval x=o8 (.d0 false t) cs:=by simpa using e
   obtain ⟨dH,_⟩:=VX.H2 (B9 h hy);rcases hR with ⟨_,_,hz⟩|⟨b1,o1,cap,O',c1,c2,c3,c4,c5,c6,c7,c8⟩
   ·subst hz; exact (CK hn).elim
   ·have fW:a.eval x=.slice (some ⟨b1,o1,none⟩) (List.length z) cap:=by rw [e,c1]; rfl
    obtain ⟨b1',b2,b3,b4⟩:=D4 (sz:=t.size) hn;obtain ⟨P1,P2,P3,e1,g1,g2,g3⟩:=i8.split (d:=t.p9) (i:=Int.toNat n) b1' c5;have hle:t.size<=List.length z*t.size - Int.toNat n*t.size:=by omega
    rw [n8,m0 _ _ _ _ hle] at g2;have hP:P2=[]:=by rw [c7] at e1; have:=List.append_eq_nil_iff.1 e1.symm; exact (List.append_eq_nil_iff.1 this.2).1
    refine xL he (λ _=>by rw [fW,dH]; exact T7 (C6 hE hc) b1 o1 _ cap hn) ⟨b1,o1+Int.toNat n*t.size,rfl,c8,by omega,?_⟩;rw [hP] at g2; exact g2
  ·trivial
 ·rename_i d p k n hx hy
  split
  ·rename_i u z cR
   split
   ·rename_i hc
    intro hn;obtain ⟨e,u',y',cs,h1,h2,h3,h4,h5⟩:=B9 h hx;have hg:=G9 h1 cR;rw [h3] at hg; cases hg;obtain ⟨dH,_⟩:=VX.H2 (B9 h hy);have h5:a.eval x=o8 (.d0 true u) cs:=by simpa using h5
    obtain ⟨O2,m1,m2,m3⟩:=F8 h.hs h1 h2 h3 h4;rcases m3 with ⟨_,_,hz⟩|⟨b1,o1,cap,O',rfl,c2,c3,c4,c5,c6,c7⟩
    ·subst hz; exact (CK hn).elim
    ·have fW:a.eval x=.slice (some ⟨b1,o1,none⟩) (List.length z) cap:=h5
     obtain ⟨b0,off0,q1,q2⟩:=h4;have hh:=(O7 b0 off0 _).1 q2.symm;refine xL he (λ _=>by rw [fW,dH]; exact T7 (C6 hE hc) b1 o1 _ cap hn) ⟨e,b1,o1+n.toNat*u.size,h1,V6 h3 h2 ⟨hn,M7⟩,vy (zF h3 q1 ?_) c7.free.lt,rfl⟩;simp only [x6,hh,x7]
   ·trivial
  ·trivial
 ·rename_i d p lo hi k n hx hy
  split
  ·rename_i u l dY
   split
   ·rename_i hc
    intro hn;have ff:@LE.le Int Int.instLEInt 0 n:=hn.1;have lz:@LT.lt Int Int.instLTInt n (hi - lo):=hn.2;obtain ⟨A,c,k1,k2,k3,k4,k5,e,k6,k7,k8⟩:=CS h.hs (B9 h hx) dY;obtain ⟨dH,_⟩:=VX.H2 (B9 h hy);have hz:l≠[]:=by rintro rfl; have k3:((0:Nat):Int)=hi - lo:=k3; omega
    obtain ⟨b,off,rfl,k9⟩:=k8 hz;obtain ⟨off2,q1,rfl,q3⟩:=k9 n hn.1 (by omega);exact xL he (λ _=>by rw [k1,dH]; exact T7 (C6 hE hc) b off _ c (by omega)) ⟨e,b,_,k6,q3,q1,rfl⟩
   ·trivial
  ·trivial
 ·trivial
theorem b3y (_hE:C4 E B) (h:RS B S ι s a w) {o:Oper} {x:Operand} (ho:o.op=.nilCheck x):zb E.P S ι o a w s (l7 E o s):=by
 unfold l7; rw [ho];simp only
 split
 ·rename_i i p hx
  obtain ⟨e,b,off,h1,h2,h3,h4⟩:=B9 h hx;have h4:a.eval x=.pointer (some ⟨b,off,none⟩):=by simpa using h4
  exact ⟨rfl,.pointer (some ⟨b,off,none⟩),λ w'=>by simp only [execOp,ho,h4]; rfl,e,b,off,h1,h2,h3,rfl⟩
 ·rename_i t y hx
  obtain ⟨b,off,e,h1,h2,h3⟩:=B9 h hx;have e:a.eval x=.pointer (some ⟨b,off,none⟩):=by simpa using e
  exact ⟨rfl,.pointer (some ⟨b,off,none⟩),λ w'=>by simp only [execOp,ho,e]; rfl,b,off,rfl,h1,h2,h3⟩
 ·rename_i t y hx
  intro hy;obtain ⟨b,off,e,h1,h2,h3⟩:=CU (B9 h hx) hy;have e:a.eval x=.pointer (some ⟨b,off,none⟩):=by simpa using e
  exact ⟨rfl,.pointer (some ⟨b,off,none⟩),λ w'=>by simp only [execOp,ho,e]; rfl,b,off,rfl,h1,h2,h3⟩
 ·rename_i f t y hx
  intro hy;have hv:=B9 h hx;obtain ⟨p,e,-⟩:=Ig hv hy;exact ⟨rfl,a.eval x,λ w'=>by simp only [execOp,ho,e]; rfl,hv⟩
 ·rename_i f l hx
  obtain ⟨us,e,h1⟩:=B9 h hx;have e:a.eval x=.func (.func f) #[] us.toArray:=by simpa using e
  exact ⟨rfl,.func (.func f) #[] us.toArray,λ w'=>by simp only [execOp,ho,e]; rfl,us,rfl,h1⟩
 ·rename_i g b hx
  intro hb;have hv:=GF h hx;have hb:b=true:=hb;subst hb;exact ⟨rfl,.func (.func g) #[] #[],λ w'=>by simp only [execOp,ho,hv]; rfl,[fnV g true],rfl,rfl,rfl⟩
 ·trivial
theorem Bp (hE:C4 E B) (h:RS B S ι s a w) {o:Oper} (ho:zm o.op=true):zb E.P S ι o a w s (l7 E o s):=by
 unfold zm at ho;split at ho
 ·rename_i e; exact b1t hE h e
 ·rename_i e; exact b1o hE h e
 ·rename_i e; exact b3y hE h e
 ·cases ho
end
section
variable {S:Nat->Prop} {H H':Array Go.Obj}
theorem sib {t:Ty} {O:List Nat} {b off:Nat} {x:t.den} (hR:g8 H S t O (d9 H b off t.size) x) (hb:off+t.size<=(u6 H b).length) (hc:d9 H' b off t.size=d9 H b off t.size) (hO:∀ c∈O,H'[c]?=H[c]?)
  {q:List Step} (ho:w8 t x q) {u:Ty} {y:u.den} (hg:j8 t x q=some ⟨u,y⟩) {b' aA:Nat} (hn:x6 H t q b off=some (b',aA)):x6 H' t q b off=some (b',aA)/\d9 H' b' aA u.size=d9 H b' aA u.size :=
 ⟨(yo hR hb ho hc hO).trans hn,a31 hR hb ho hc hO hg hn⟩
theorem UY:∀ {t:Ty} {p:List Step} {b off:Nat} {O1:List Nat} {x:t.den},u5 H S t p b off O1 x->off+t.size<=(u6 H b).length->d9 H' b off t.size=d9 H b off t.size->(∀ c∈O1,H'[c]?=H[c]?) ->
  ∀ {u0:Ty} {y0:u0.den},j8 t x p=some ⟨u0,y0⟩->∀ {b0 off0:Nat},x6 H t p b off=some (b0,off0) ->
  (∀ {q:List Step},w8 u0 y0 q->∀ {u:Ty} {y:u.den},j8 u0 y0 q=some ⟨u,y⟩->∀ {b' aA:Nat},x6 H u0 q b0 off0=some (b',aA)->x6 H' u0 q b0 off0=some (b',aA)/\d9 H' b' aA u.size=d9 H b' aA u.size) ->
  ∀ {q:List Step},w8 t x q->∀ {u:Ty} {y:u.den},j8 t x q=some ⟨u,y⟩->∀ {b' aA:Nat},x6 H t q b off=some (b',aA)->x6 H' t q b off=some (b',aA)/\d9 H' b' aA u.size=d9 H b' aA u.size:=by
 intro t;have here:∀ {t:Ty} {x:t.den} {b off:Nat},d9 H' b off t.size=d9 H b off t.size->∀ {u:Ty} {y:u.den},j8 t x []=some ⟨u,y⟩->∀ {b' aA:Nat},x6 H t [] b off=some (b',aA)->x6 H' t [] b off=some (b',aA)/\d9 H' b' aA u.size=d9 H b' aA u.size:=by
  intro t x b off hc u y hg b' aA hn;rw [y9] at hg; cases hg;rw [x7] at hn; cases hn;exact ⟨x7 ..,hc⟩
 induction t with
 | pair a c iha ihc =>
  intro p b off O1 x hR hb hc hO u0 y0 dE b0 off0 dd hP q ho u y hg b' aA hn
  match p,hR,dE,dd with
  | [],_,dE,dd =>
   rw [y9] at dE; cases dE;rw [x7] at dd; cases dd;exact hP ho hg hn
  | .l6 0::p,⟨P1,P2,e,h1,h2⟩,dE,dd =>
   subst e;simp only [Ty.size] at hb hc
   match q,ho,hg,hn with
   | [],_,hg,hn=>exact here hc hg hn
   | .l6 0::q,ho,hg,hn=>exact iha h1 (by omega) (Y3 hc (by omega) (by omega)) (λ c hc=>hO c (by simp [hc])) dE dd hP ho hg hn
   | .l6 (m+1)::q,ho,hg,hn=>exact sib h2 (by omega) (Y3 hc (by omega) (by omega)) (λ c hc=>hO c (by simp [hc])) (q:=.l6 m::q) ho hg hn
   | .idx i::q,ho,_,_=>simp [w8] at ho
  | .l6 (n+1)::p,⟨P1,P2,e,h1,h2⟩,dE,dd =>
   subst e;simp only [Ty.size] at hb hc
   match q,ho,hg,hn with
   | [],_,hg,hn=>exact here hc hg hn
   | .l6 0::q,ho,hg,hn=>exact sib h1 (by omega) (Y3 hc (by omega) (by omega)) (λ c hc=>hO c (by simp [hc])) (q:=q) ho hg hn
   | .l6 (m+1)::q,ho,hg,hn=>exact ihc h2 (by omega) (Y3 hc (by omega) (by omega)) (λ c hc=>hO c (by simp [hc])) dE dd hP (q:=.l6 m::q) ho hg hn
   | .idx i::q,ho,_,_=>simp [w8] at ho
  | .idx i::p,hR,_,_=>simp [u5] at hR
 | arr n t ih =>
  intro p b off O1 x hR hb hc hO u0 y0 dE b0 off0 dd hP q ho u y hg b' aA hn
  match p,hR,dE,dd with
  | [],_,dE,dd =>
   rw [y9] at dE; cases dE;rw [x7] at dd; cases dd;exact hP ho hg hn
  | .l6 i::p,hR,_,_=>simp [u5] at hR
  | .idx i::p,⟨hl,hi,P1,P2,P3,e,h1,h2,h3⟩,dE,dd =>
   subst e;obtain ⟨b1,b2,b3,b4⟩:=D4 (sz:=t.size) hi;simp only [Ty.size] at hb hc
   match q,ho,hg,hn with
   | [],_,hg,hn=>exact here hc hg hn
   | .l6 j::q,ho,_,_=>simp [w8] at ho
   | .idx j::q,⟨hj,ho⟩,hg,hn =>
    obtain ⟨d1,d2,d3,d4⟩:=D4 (sz:=t.size) hj;simp only [x6] at hn ⊢;simp only [j8] at hg;have gM:d9 H' b (off+j.toNat*t.size) t.size=d9 H b (off+j.toNat*t.size) t.size:=Y3 hc (by omega) (by omega);by_cases bS:i.toNat=j.toNat
    ·rw [<- bS] at ho hg hn gM ⊢
     exact ih h2 (by omega) gM (λ c hc=>hO c (by simp [hc])) dE dd hP ho hg hn
    ·rcases Nat.lt_or_gt_of_ne bS with bf|fj
     ·have hd:j.toNat - (i.toNat+1)<(List.drop (i.toNat+1) x).length:=by simp only [List.length_drop]; omega
      obtain ⟨Q1,Q2,Q3,e,k1,k2,k3⟩:=i8.split (d:=t.p9) hd h3;have e1:(i.toNat+1)*t.size+(j.toNat - (i.toNat+1))*t.size=j.toNat*t.size:=by rw [<- Nat.add_mul]; congr 1; omega
      have hm:(j.toNat - (i.toNat+1))*t.size+t.size<=(n - (i.toNat+1))*t.size:=by omega
      rw [n8,m0 _ _ _ _ (by omega),Nat.add_assoc,e1] at k2;have e2:(List.drop (i.toNat+1) x).getD (j.toNat - (i.toNat+1)) t.p9=List.getD x j.toNat t.p9:=by
       simp only [List.getD_eq_getElem?_getD,List.getElem?_drop];rw [show i.toNat+1+(j.toNat - (i.toNat+1))=j.toNat from by omega]
      rw [e2] at k2;exact sib k2 (by omega) gM (λ d hd=>hO d (by rw [e]; simp [hd])) ho hg hn
     ·have hd:j.toNat<(List.take i.toNat x).length:=by simp only [List.length_take]; omega
      obtain ⟨Q1,Q2,Q3,e,k1,k2,k3⟩:=i8.split (d:=t.p9) hd h1;have hm:j.toNat*t.size+t.size<=i.toNat*t.size:=by
       rw [<- Nat.succ_mul]; exact Nat.mul_le_mul_right _ (by omega)
      rw [n8,m0 _ _ _ _ (by omega)] at k2;have e2:(List.take i.toNat x).getD j.toNat t.p9=List.getD x j.toNat t.p9:=by
       simp only [List.getD_eq_getElem?_getD,List.getElem?_take];rw [if_pos (by omega)]
      rw [e2] at k2;exact sib k2 (by omega) gM (λ d hd=>hO d (by rw [e]; simp [hd])) ho hg hn
 | d0 o t ih =>
  intro p b off O1 x hR hb hc hO u0 y0 dE b0 off0 dd hP q ho u y hg b' aA hn
  match p,hR,dE,dd with
  | [],_,dE,dd =>
   rw [y9] at dE; cases dE;rw [x7] at dd; cases dd;exact hP ho hg hn
  | .l6 i::p,hR,_,_=>cases o<;>simp [u5] at hR
  | .idx i::p,hR,dE,dd =>
   cases o with
   | false=>simp [u5] at hR
   | true =>
    obtain ⟨hi,c1,o1,cap,P1,P2,P3,e,e1,e2,e3,e4,e5,e6,e7⟩:=hR;subst e;obtain ⟨b1,b2,b3,b4⟩:=D4 (sz:=t.size) hi;have cP:List.length x*t.size<=cap*t.size:=Nat.mul_le_mul_right _ e2;have pA:=e4.free.u6;simp only [Ty.size] at hb hc
    match q,ho,hg,hn with
    | [],_,hg,hn=>exact here (t:=.d0 true t) hc hg hn
    | .l6 j::q,ho,_,_=>simp [w8] at ho
    | .idx j::q,⟨hj,ho⟩,hg,hn =>
     obtain ⟨d1,d2,d3,d4⟩:=D4 (sz:=t.size) hj;have iV:(u6 H' b)[off]?=some (.slice (some ⟨c1,o1,none⟩) (List.length x) cap):=by
      rw [b5o hc (j:=off) (by omega) (by omega)]; exact e1
     simp only [x6,e1] at hn dd;simp only [x6,iV];simp only [j8] at hg;have gM:d9 H' c1 (o1+j.toNat*t.size) t.size=d9 H c1 (o1+j.toNat*t.size) t.size:=l4 (hO c1 (by simp)) _ _;by_cases bS:i.toNat=j.toNat
     ·rw [<- bS] at ho hg hn gM ⊢
      exact ih e6 (by omega) gM (λ c hc=>hO c (by simp [hc])) dE dd hP ho hg hn
     ·rcases Nat.lt_or_gt_of_ne bS with bf|fj
      ·have hd:j.toNat - (i.toNat+1)<(List.drop (i.toNat+1) x).length:=by simp only [List.length_drop]; omega
       obtain ⟨Q1,Q2,Q3,e,k1,k2,k3⟩:=i8.split (d:=t.p9) hd e7;have f1:(i.toNat+1)*t.size+(j.toNat - (i.toNat+1))*t.size=j.toNat*t.size:=by rw [<- Nat.add_mul]; congr 1; omega
       have hm:(j.toNat - (i.toNat+1))*t.size+t.size<=(List.length x - (i.toNat+1))*t.size:=by omega
       rw [n8,m0 _ _ _ _ (by omega),Nat.add_assoc,f1] at k2;have f2:(List.drop (i.toNat+1) x).getD (j.toNat - (i.toNat+1)) t.p9=List.getD x j.toNat t.p9:=by
        simp only [List.getD_eq_getElem?_getD,List.getElem?_drop];rw [show i.toNat+1+(j.toNat - (i.toNat+1))=j.toNat from by omega]
       rw [f2] at k2;exact sib k2 (by omega) gM (λ d hd=>hO d (by rw [e]; simp [hd])) ho hg hn
      ·have hd:j.toNat<(List.take i.toNat x).length:=by simp only [List.length_take]; omega
       obtain ⟨Q1,Q2,Q3,e,k1,k2,k3⟩:=i8.split (d:=t.p9) hd e5;have hm:j.toNat*t.size+t.size<=i.toNat*t.size:=by
        rw [<- Nat.succ_mul]; exact Nat.mul_le_mul_right _ (by omega)
       rw [n8,m0 _ _ _ _ (by omega)] at k2;have f2:(List.take i.toNat x).getD j.toNat t.p9=List.getD x j.toNat t.p9:=by
        simp only [List.getD_eq_getElem?_getD,List.getElem?_take];rw [if_pos (by omega)]
       rw [f2] at k2;exact sib k2 (by omega) gM (λ d hd=>hO d (by rw [e]; simp [hd])) ho hg hn
 | _ =>
  intro p b off O1 x hR hb hc hO u0 y0 dE b0 off0 dd hP q ho u y hg b' aA hn
  match p,hR,dE,dd with
  | [],_,dE,dd =>
   rw [y9] at dE; cases dE;rw [x7] at dd; cases dd;exact hP ho hg hn
  | .idx i::p,hR,_,_=>simp [u5] at hR
  | .l6 i::p,hR,_,_=>simp [u5] at hR
theorem Zw {t0:Ty} {l:List t0.den} {b off b1 o1 cap n:Nat} {Op:List Nat} (hR:g8 H S (.d0 true t0) Op (d9 H b off 1) l) (gF:∀ c∈Op,c<H.size) (aH:Op.Nodup) (hb:b<H.size) (bP:b∉Op)
  (hh:d9 H b off 1=[.slice (some ⟨b1,o1,none⟩) l.length cap]) (h1:1<=cap) (hc:U9 H H' b1 (o1+l.length*t0.size) n) :
  ∀ {q:List Step},w8 (.d0 true t0) l q->∀ {u:Ty} {y:u.den},j8 (.d0 true t0) l q=some ⟨u,y⟩->∀ {b' aA:Nat},x6 H (.d0 true t0) q b off=some (b',aA)->x6 H' (.d0 true t0) q b off=some (b',aA)/\d9 H' b' aA u.size=d9 H b' aA u.size:=by
 intro q ho u y hg b' aA hn;rcases hR with ⟨_,⟨A,c,e,eM⟩,_⟩|⟨b2,o2,cap2,O',c1,c2,c3,c4,c5,rfl,c7⟩
 ·rw [hh] at e
  simp only [List.cons.injEq,Value.slice.injEq,and_true] at e;have:=eM rfl; omega
 ·rw [hh] at c1
  simp only [List.cons.injEq,Value.slice.injEq,Option.some.injEq,Addr.mk.injEq,and_true] at c1;obtain ⟨⟨rfl,rfl⟩,-,rfl⟩:=c1;have bH:b≠b1:=λ e=>bP (by simp [e]);have cz:d9 H' b off 1=d9 H b off 1:=hc.cells hb (λ e=>absurd e bH)
  match q,ho,hg,hn with
  | [],_,hg,hn =>
   rw [y9] at hg; cases hg;rw [x7] at hn; cases hn;exact ⟨x7 ..,cz⟩
  | .l6 j::q,ho,_,_=>simp [w8] at ho
  | .idx j::q,⟨hj,ho⟩,hg,hn =>
   obtain ⟨d1,d2,d3,d4⟩:=D4 (sz:=t0.size) hj;have iV:=(O7 b off _).1 hh;have pr:=(O7 b off _).1 (cz.trans hh);simp only [x6,iV] at hn;simp only [x6,pr];simp only [j8] at hg;obtain ⟨P1,P2,P3,e,g1,g2,g3⟩:=i8.split (d:=t0.p9) d1 c5;subst e;rw [n8,m0 _ _ _ _ (by omega)] at g2;have cP:=c7.free.u6;have ec:List.length l*t0.size<=cap*t0.size:=Nat.mul_le_mul_right _ c2;refine sib g2 (by omega) (hc.cells (gF b1 (by simp)) (λ _=>.inl (by omega))) (λ d hd=>hc.rest d ?_ (gF d (by simp [hd]))) ho hg hn;rintro rfl;exact (List.nodup_cons.1 aH).1 (by simp [hd])
end
section
variable {E:Env} {B:D7} {S:Nat->Prop} {ι:Ix} {s:St} {a:Act} {w:World}
theorem RS.spare (h:RS B S ι s a w) {i:Nat} {e:g9} (he:look i s.hp=some e) (_hnb:e≠.K1) {w':World} (k:E3 (l5 ι i e) w w') (aS:OB w'.heap S ι i e) (aW:w'.heap.size=w.heap.size)
  (jm:∀ {q:List Step},w8 e.ty e.x q->∀ {u:Ty} {y:u.den},j8 e.ty e.x q=some ⟨u,y⟩->∀ {b off:Nat},Place w.heap ι i e q=some (b,off)->Place w'.heap ι i e q=some (b,off)/\d9 (VH w'.heap ι i e) b off u.size=d9 (VH w.heap ι i e) b off u.size) :
  RS B S ι s a w':=by
 have hold:∀ {b:Nat},((∃ j ej,j≠i/\look j s.hp=some ej/\b∈l5 ι j ej)\/S b)->w'.heap[b]?=w.heap[b]?:=by
  intro b hb;refine k.frame b (hb.elim (λ⟨j,ej,_,h1,h2⟩=>(h.hs.bl j ej h1 b h2).2.2) (h.hs.slt b)) (λ nP=>?_);rcases hb with ⟨j,ej,h0,h1,h2⟩|hb
  ·exact h.hs.dj i j e ej he h1 (Ne.symm h0) b nP h2
  ·exact (h.hs.bl i e he b nP).1 hb
 have ql:HS B S ι s.hp w':=by
  refine ⟨k.os.trans h.hs.os,k.tape.trans h.hs.tape,k.out.trans h.hs.out,by rw [aW]; exact h.hs.size,?_,λ b hb=>by rw [aW]; exact h.hs.slt b hb,h.hs.s0,h.hs.s1,?_,λ j ej hj c hc=>?_,h.hs.dj,h.hs.pin⟩
  ·intro c hc hm
   rw [k.frame c (Nat.lt_of_lt_of_le hc h.hs.size) (λ pQ=>by rcases (h.hs.bl i e he c pQ).2.1 with h1|h1; omega; exact hm h1)];exact h.hs.frame c hc hm
  ·intro j ej hj
   by_cases e1:j=i
   ·subst e1; rw [he] at hj; cases hj; exact aS
   ·exact (h.hs.ob j ej hj).s4 (λ b hb=>hold (hb.imp (λ hb=>⟨j,ej,e1,hj,hb⟩) id)) (λ _ h=>h)
  ·rw [aW]; exact h.hs.bl j ej hj c hc
 have gU:∀ {j:Nat} {ej:g9},look j s.hp=some ej->∀ {q:List Step},w8 ej.ty ej.x q->∀ {r:Nat×Nat},Loc w.heap ι j ej q=some r->Loc w'.heap ι j ej q=some r:=by
  intro j ej hj q aM r hl;by_cases e1:j=i
  ·subst e1; rw [he] at hj; cases hj
   obtain ⟨u,y,hg⟩:=Pd aM;obtain ⟨g1,g2⟩:=C1 (b:=r.1) (off:=r.2) hl;exact vy (jm aM hg g1).1 (by rw [aW]; exact g2)
  ·exact DM (J8 hl) (h.hs.ob j ej hj) h.hs.slt (λ b hb=>hold (.inl ⟨j,ej,e1,hj,hb⟩)) aM hl
 have iH:∀ {j:Nat} {ej:g9},look j s.hp=some ej->∀ {q:List Step},w8 ej.ty ej.x q->∀ {u:Ty} {y:u.den},j8 ej.ty ej.x q=some ⟨u,y⟩->∀ {cs:List Value},Cells w.heap ι j ej q u cs->Cells w'.heap ι j ej q u cs:=by
  intro j ej hj q aM u y hg cs hc;by_cases e1:j=i
  ·subst e1; rw [he] at hj; cases hj
   obtain ⟨b0,o0,g1,g2⟩:=hc;obtain ⟨m1,m2⟩:=jm aM hg g1;exact ⟨b0,o0,m1,g2.trans m2.symm⟩
  ·exact JE (Bm hc) (h.hs.ob j ej hj) h.hs.slt (λ b hb=>hold (.inl ⟨j,ej,e1,hj,hb⟩)) aM hg hc
 refine ⟨ql,h.dfr,h.sz,λ t v hv=>?_⟩;have:=VX.map (H':=w'.heap) (S':=S) (ι':=ι) (cG:=s.hp) (f:=λ u=>u) (λ b hb=>hold (.inr hb)) (λ _ h=>h) ?_ (h.fr t v hv)
 ·rwa [AV.map_id] at this
 ·intro u vs hu _ h
  cases u<;>simp only [AV.ref] at hu<;>try cases hu
  ·obtain ⟨e',b,off,h1,h2,h3,h4⟩:=h
   exact ⟨e',b,off,h1,h2,gU h1 h2 h3,h4⟩
  ·obtain ⟨e',u,y,cs,h1,h2,h3,h4,h5⟩:=h
   exact ⟨e',u,y,cs,h1,h2,h3,iH h1 h2 h3 h4,h5⟩
  ·obtain ⟨e',v',h1,h2,h3,h4,h5,h6⟩:=h
   refine ⟨e',v',h1,h2,h3,h4,h5,?_⟩;rcases h6 with ⟨t,l,a,cap,k1,k2,k3,k4⟩|⟨n,t,l,b,off,k1,k2,k3,k4⟩
   ·exact .inl ⟨t,l,a,cap,k1,k2,iH h1 h2 k1 k3,k4⟩
   ·exact .inr ⟨n,t,l,b,off,k1,k2,gU h1 h2 k3,k4⟩
def xT (B:D7) (S:Nat->Prop) (ι:Ix) (hp:List (Nat×g9)) (g:List Nat) (i:Nat) (e:g9) (p:List Step) (t0:Ty) (l m:List t0.den) (b off:Nat) (v':Value) (w:World):Prop :=
 ∃ O',Loc w.heap ι i e p=some (b,off)/\g8 w.heap S (.d0 true t0) O' [v'] (l++m)/\O'.Nodup/\b∉O' /\
  ∀ c∈O',(¬ S c/\(B.w0.heap.size<=c\/B.M c)/\c<w.heap.size)/\(∀ j ej,j≠i->j∉g->look j hp=some ej->c∉l5 ι j ej) /\
   (c∈l5 ι i e->∃ Op,g8 w.heap S (.d0 true t0) Op (d9 w.heap b off 1) l/\c∈Op)
theorem Rm (hE:C4 E B) (h:RS B S ι s a w) {o:Oper} {c:Call} (ho:o.op=.call c) (hc:c.callee=.builtin .append) {x y:Operand} {T U:TypeId} (ha:c.args.toList=[x,y]) (eW:c.argTypes.toList=[T,U])
  (hk:(∃ e',E.P.underlying U=some (.slice e'))\/E.P.underlying U=some .string) {q:Bool} {t0:Ty} {bts:Nat} (hT:look T E.tt=some ⟨.d0 q t0,bts⟩) {i:Nat} {p:List Step} (hx:s.ev x=.at_ i p)
  {e:g9} (he:look i s.hp=some e) (jT:(∃ t x,e=.var t x)\/∃ t x j q,e=.own (.d0 true t) x/\p=.idx j::q) {l:List t0.den} (hg:j8 e.ty e.x p=some ⟨.d0 true t0,l⟩)
  {b off:Nat} (hl:Loc w.heap ι i e p=some (b,off)) {m:List t0.den} {g:List Nat} (cr:(s.ev y).uN s t0=some (⟨t0,m⟩,g)) (eh:i∉g) (_hgn:g.Nodup)
  (iM:l.length+m.length<=140737488355328) (gN:(l.length+m.length)*t0.wb<=140737488355328) :
  ∃ v' w',(execOp a.eval o).run E.P w=.ok (.value v') w'/\RS B S ι s a w'/\w8 e.ty e.x p/\xT B S ι s.hp g i e p t0 l m b off v' w':=by
 have cH:e≠.K1:=J8 hl;obtain ⟨Og,news,k1,k2,k3,k4⟩:=Hx (P:=E.P) h hk cr (h.ev y);obtain ⟨e2,u,y2,cs,r1,aM,r3,r4,r5⟩:=B9 h hx;rw [he] at r1; cases r1;rw [hg] at r3; cases r3;obtain ⟨Op,m1,mn,m2,m3,m4,m5⟩:=M2 cH (h.hs.ob i e he) h.hs.slt aM hg hl;have fo:=(h.hs.ob i e he).yD cH h.hs.slt aM hg hl m2;obtain ⟨cf,dp⟩:=C1 hl;have cE:cs=d9 w.heap b off 1:=by
  obtain ⟨b0,off0,q1,q2⟩:=r4;rw [cf] at q1; cases q1;rw [l4 (F3 dp)] at q2;exact q2
 have eY:d9 w.heap b off 1=[a.eval x]:=by
  have ga:(d9 w.heap b off 1).length=1:=m2.length;have r5':a.eval x=o8 (.d0 true t0) cs:=by simpa using r5
  rw [r5',cE]
  match cV:d9 w.heap b off 1,ga with
  | [z],_=>rfl
 have m2':g8 w.heap S (.d0 true t0) Op [a.eval x] l:=by rw [<- eY]; exact m2
 have df:o6 E.P 100 T (.d0 true t0)=true:=CT (t:=.d0 q t0) (u:=.d0 true t0) rfl (p7 hE hT);have dA:∀ c∈Op,c∈l5 ι i e:=λ c hc=>H8 (m1 c hc);have aH:(Op++Og).Nodup:=List.nodup_append.2 ⟨mn,k3,by
  rintro c h1 c' h2 rfl;obtain ⟨j,e',j1,j2,j3⟩:=k4 c h2;exact h.hs.dj i j e e' he j2 (by rintro rfl; exact eh j1) c (dA c h1) j3⟩
 have lF:∀ c∈Og,¬ S c/\(B.w0.heap.size<=c\/B.M c)/\c<w.heap.size:=λ c hc=>by
  obtain ⟨j,e',_,j2,j3⟩:=k4 c hc;exact h.hs.bl j e' j2 c j3
 have lg:=λ c hc=>h.hs.bl i e he c (dA c hc);obtain ⟨v',w',O',q1,q2,q3,q4,q5,q6,q7⟩:=Qv df o.type h.hs.slt m2' k1 k2 aH (λ c hc=>(List.mem_append.1 hc).elim (λ h=>⟨(lg c h).1,(lg c h).2.2⟩) (λ h=>⟨(lF c h).1,(lF c h).2.2⟩)) iM gN;have aF:c.args=#[x,y]:=by rw [<- ha]
 have eA:c.argTypes=#[T,U]:=by rw [<- eW]
 have aP:(execOp a.eval o).run E.P w=.ok (.value v') w':=by
  simp [execOp,ho,resolve,hc,invoke,builtin,aF,eA,q1]
 have fU:∀ c∈l5 ι i e,¬ S c/\c<w.heap.size:=λ c hc=>⟨(h.hs.bl i e he c hc).1,(h.hs.bl i e he c hc).2.2⟩;have bM:d9 w'.heap b off 1=[a.eval x]:=by rw [l4 (q4.frame b dp fo)]; exact eY
 obtain ⟨n2,n3⟩:=OB.same (H':=w'.heap) (h.hs.ob i e he) fU h.hs.slt jT aM hg hl q4.size m2 (λ c hc hn=>q4.frame c hc hn) (by
  show g8 w'.heap S (.d0 true t0) Op (d9 w'.heap b off 1) l;rw [bM]; exact q6)
 have tv:RS B S ι s a w':=by
  rcases q7 with q7|⟨b1,o1,cap,n,f1,f2,f3,f4,f5⟩
  ·exact h.uL E8.nil q7
  ·have dG:b1∈Op:=by
    rcases m2' with ⟨_,⟨A,c,e0,eM⟩,_⟩|⟨b2,o2,cap2,O2,c1,_,_,_,_,rfl,_⟩
    ·rw [f1] at e0
     simp only [List.cons.injEq,Value.slice.injEq,and_true] at e0;have:=eM rfl; omega
    ·rw [f1] at c1
     simp only [List.cons.injEq,Value.slice.injEq,Option.some.injEq,Addr.mk.injEq,and_true] at c1;rw [c1.1.1]; simp
   refine h.spare he cH (q4.mono dA) n2 f5 ?_;obtain ⟨O,hO,hR,ep,gr,pd,fY,dV⟩:=(h.hs.ob i e he).see cH h.hs.slt;obtain ⟨O1,O3,b',aA,g1,g2,g3,g4,g5,g6⟩:=focus hR ep aM hg
   have lY:=cf;rw [G8 cH,g3] at lY; cases lY;have g4':g8 w.heap S (.d0 true t0) O3 (d9 w.heap b off 1) l:=by
    have g4:g8 (VH w.heap ι i e) S (.d0 true t0) O3 (d9 (VH w.heap ι i e) b off 1) l:=g4;rw [l4 (F3 dp)] at g4;exact (vz (λ c hc=>(h.hs.ob i e he).R7 cH (hO.mem_iff.1 (g1.mem_iff.2 (by simp [hc])))) h.hs.slt).1 g4
   obtain rfl:Op=O3:=m2.det g4';have cu:(O1++Op).Nodup:=(g1.nodup_iff).1 ((hO.nodup_iff).2 (List.nodup_cons.1 gr).2);have gP:b1<w.heap.size:=(fU b1 (dA b1 dG)).2;have bE:b1≠(VR w.heap ι i e).1:=by
    rintro rfl;exact (List.nodup_cons.1 gr).1 (hO.mem_iff.1 (g1.mem_iff.2 (by simp [dG])))
   have pY:(VR w'.heap ι i e)=(VR w.heap ι i e):=by cases e<;>simp [VR,f5]
   have hV:∀ c,c≠b1->(VH w'.heap ι i e)[c]?=(VH w.heap ι i e)[c]?:=by
    intro c cz;have hr:∀ c,c≠b1->w'.heap[c]?=w.heap[c]?:=by
     intro c cz;rcases Nat.lt_or_ge c w.heap.size with h1|h1
     ·exact f4.rest c cz h1
     ·rw [Array.getElem?_eq_none h1,Array.getElem?_eq_none (by omega)]
    cases e with
    | own t x =>
     simp only [VH,gh];rw [Array.getElem?_push,Array.getElem?_push,f5]
     split
     ·rfl
     ·exact hr c cz
    | _=>exact hr c cz
   have th:U9 (VH w.heap ι i e) (VH w'.heap ι i e) b1 (o1+l.length*t0.size) n:=by
    obtain ⟨arr,da,T',⟨fz,⟨z1,z2⟩,z3⟩,z4,z5⟩:=f4.at_;exact ⟨⟨arr,da,T',⟨fz,⟨(F3 gP).trans z1,z2⟩,(F3 (by omega)).trans z3⟩,z4,z5⟩,λ c cz _=>hV c cz⟩
   intro q' mg u' y' jV b' o' cG;rw [G8 cH] at cG ⊢;rw [pY];have tc:b<(VH w.heap ι i e).size:=Nat.lt_of_lt_of_le dp wB;refine UY g2 ep (l4 (hV _ (Ne.symm bE)) _ _) (λ c hc=>hV c ?_) hg g3 ?_ mg jV cG
   ·rintro rfl
    exact (List.nodup_append.1 cu).2.2 c hc c dG rfl
   ·have sX:d9 (VH w.heap ι i e) b off 1=[.slice (some ⟨b1,o1,none⟩) l.length cap]:=by
     rw [l4 (F3 dp),eY,f1]
    intro q2 qE u2 y2 sH b2 off2 lz;exact Zw (H':=VH w'.heap ι i e) g4 (λ c hc=>Nat.lt_of_lt_of_le (fU c (dA c hc)).2 wB) mn tc fo sX f3 th qE sH lz
 refine ⟨v',w',aP,tv,aM,O',n3,q2,q3,?_,?_⟩
 ·intro hb
  rcases (q5 b hb).1 with h1|h1
  ·omega
  ·rcases List.mem_append.1 h1 with h1|h1
   ·exact fo h1
   ·obtain ⟨j,e',j1,j2,j3⟩:=k4 b h1
    exact h.hs.dj i j e e' he j2 (by rintro rfl; exact eh j1) b m4 j3
 ·intro c hc
  obtain ⟨f1,f2⟩:=q5 c hc;have fact:(¬ S c/\(B.w0.heap.size<=c\/B.M c)/\c<w'.heap.size)/\(∀ j ej,j≠i->j∉g->look j s.hp=some ej->c∉l5 ι j ej)/\(c∈l5 ι i e->c∈Op):=by
   rcases f1 with f1|f1
   ·exact ⟨⟨λ hs=>by have:=h.hs.slt c hs; omega,.inl (Nat.le_trans h.hs.size f1),f2⟩,λ j ej _ _ hj cz=>by have:=(h.hs.bl j ej hj c cz).2.2; omega,λ cz=>by have:=(fU c cz).2; omega⟩
   ·rcases List.mem_append.1 f1 with f1|f1
    ·have:=lg c f1
     exact ⟨⟨this.1,this.2.1,f2⟩,λ j ej hj _ dn=>h.hs.dj i j e ej he dn (Ne.symm hj) c (dA c f1),λ _=>f1⟩
    ·have:=lF c f1
     obtain ⟨j0,e0,j1,j2,j3⟩:=k4 c f1;exact ⟨⟨this.1,this.2.1,f2⟩,λ j ej _ fR dn=>h.hs.dj j0 j e0 ej j2 dn (by rintro rfl; exact fR j1) c j3,λ cz=>absurd cz (h.hs.dj j0 i e0 e j2 he (by rintro rfl; exact eh j1) c j3)⟩
  exact ⟨fact.1,fact.2.1,λ cz=>⟨Op,by rw [bM]; exact q6,fact.2.2 cz⟩⟩
theorem Bk {e:g9} {p:List Step} {r:Sigma Ty.den} (h:yZ e p r=true):Ar e e/\((∃ t x,e=.var t x)\/∃ t x j q,e=.own (.d0 true t) x/\p=.idx j::q):=by
 unfold yZ at h;split at h
 ·exact ⟨.inl ⟨_,_,_,rfl,rfl⟩,.inl ⟨_,_,rfl⟩⟩
 ·split at h
  ·exact ⟨.inr (.inl ⟨_,_,_,rfl,rfl⟩),.inr ⟨_,_,_,_,rfl,rfl⟩⟩
  ·cases h
 ·cases h
theorem Y4 {a:Act} {t d:Nat} {v:Value} (h:t≠d):(a.put (some d) v).eval (.tmp t)=a.eval (.tmp t):=by
 show (a.tmps.setIfInBounds d v).getD t undef=a.tmps.getD t undef;simp only [Array.getD_eq_getD_getElem?,Array.getElem?_setIfInBounds,if_neg (Ne.symm h)]
theorem Iq {a:Act} {d:Nat} {v:Value} (h:d<a.tmps.size):(a.put (some d) v).eval (.tmp d)=v:=by
 show (a.tmps.setIfInBounds d v).getD d undef=v;simp only [Array.getD_eq_getD_getElem?,Array.getElem?_setIfInBounds,if_pos h]; rfl
theorem QQ (hE:C4 E B) (h:RS B S ι s a w) {g:List Nat} (dP:(g.all λ i=>!pinned i)=true) {i:Nat} (eh:i∉g) {e:g9} (he:look i s.hp=some e) {p:List Step} (aM:w8 e.ty e.x p) {t0:Ty} {l m:List t0.den} (hg:j8 e.ty e.x p=some ⟨.d0 true t0,l⟩) {b off:Nat} {v':Value}
  (hP:xT B S ι s.hp g i e p t0 l m b off v' w) {o:Oper} {T:TypeId} {ad:Operand} {d:Nat} (ho:o.op=.store T ad (.tmp d)) (kZ:a.eval ad=.pointer (some ⟨b,off,none⟩)) (hv:a.eval (.tmp d)=v') (bD:I8 E T (.d0 true t0)=true)
  {r:Sigma Ty.den} (aI:r8 e.ty e.x p (.d0 true t0) (l++m)=some r):y6 E.P B o a w (.raw undef) (((St.w5 g s).kill i e.kd p).w4 i (e.D5 r)):=by
 obtain ⟨O',hl,k5,k6,k7,k8⟩:=hP;have hd:=h.w5 (g:=g) dP;have jr:look i (St.w5 g s).hp=some e:=by rw [I9,if_neg eh]; exact he
 refine zC hE hd ho (i:=i) (e:=e) jr aM hl kZ hg bD (u':=.d0 true _) (O2:=O') (cs:=[v']) k5 k6 (by rw [hv]; rfl) aI (λ c hc=>?_) k7;obtain ⟨f1,f2,f3⟩:=k8 c hc;refine ⟨f1,λ j ej hj dn=>?_,f3⟩;rw [I9] at dn;split at dn
 ·cases dn
 ·rename_i fR; exact f2 j ej hj fR dn
theorem Xr (hE:C4 E B) (h:RS B S ι s a w) {o:Oper} {c:Call} (ho:o.op=.call c) (hc:c.callee=.builtin .append) {x y:Operand} {T U:TypeId} (ha:c.args.toList=[x,y]) (eW:c.argTypes.toList=[T,U])
  {o2:Oper} {T2:TypeId} {adv:AV} {ad:Operand} {d:Nat} (_ho2:o2.op=.store T2 ad (.tmp d)) {p:Prop} {s2:St} (hb:xi E T U T2 (s.ev x) (s.ev y) adv d s=some (p,s2)) (hp:p) :
  ∃ i p0 e t0 l m g r v' w',s.ev x=.at_ i p0/\adv=.ptr i p0/\look i s.hp=some e/\i∉g/\(g.all λ i=>!pinned i)=true/\j8 e.ty e.x p0=some ⟨.d0 true t0,l⟩/\I8 E T2 (.d0 true t0)=true /\
   r8 e.ty e.x p0 (.d0 true t0) (l++m)=some r/\s2=(((St.w5 g (s.put (some d) .any)).kill i e.kd p0).w4 i (e.D5 r)) /\
   (execOp a.eval o).run E.P w=.ok (.value v') w'/\RS B S ι s a w'/\w8 e.ty e.x p0/\∀ b off,Loc w.heap ι i e p0=some (b,off)->xT B S ι s.hp g i e p0 t0 l m b off v' w':=by
 unfold xi at hb;split at hb
 ·rename_i i p0 j q q1 t0 bts u1 bts1 hx hT hU
  split at hb
  ·rename_i e aS js
   simp only [Bool.and_eq_true] at js;obtain ⟨bS,js⟩:=js;have bS:=Nat.eq_of_beq_eq_true bS;subst bS;split at hb
   ·rename_i u l hg
    split at hb
    ·rename_i t m g cr
     split at hb
     ·rename_i hu
      split at hb
      ·rename_i ht
       subst hu; subst ht;split at hb
       ·rename_i r aI
        split at hb
        ·rename_i bD
         cases hb;simp only [Bool.and_eq_true,Bool.not_eq_true'] at bD;obtain ⟨⟨⟨⟨bD,bO⟩,eh⟩,hY⟩,dP⟩:=bD;obtain ⟨rfl,iM,gN⟩:=hp;obtain ⟨_,jT⟩:=Bk bO;have eh:i∉g:=by intro hm; simp [hm] at eh
         have hk:(∃ e',E.P.underlying U=some (.slice e'))\/E.P.underlying U=some .string:=by
          cases u1<;>first|cases js|skip
          ·exact .inr (W2 (p7 hE hU))
          ·obtain ⟨et,k',f1,_⟩:=F4 (p7 hE hU)
           exact .inl ⟨et,f1⟩
         have aS:look i s.hp=some e:=aS;have key:∀ b off,Loc w.heap ι i e q=some (b,off)->∃ v' w',(execOp a.eval o).run E.P w=.ok (.value v') w'/\RS B S ι s a w'/\w8 e.ty e.x q/\xT B S ι s.hp g i e q _ l m b off v' w' :=
          λ b off hl=>Rm hE h ho hc ha eW hk hT hx aS jT hg hl cr eh (Bu hY) iM gN
         obtain ⟨e2,u,y2,cs,r1,aM,r3,r4,r5⟩:=B9 h hx;rw [aS] at r1; cases r1;obtain ⟨b,off,hl⟩:=AU (h.hs.ob i e aS) h.hs.slt (Bk bO).2 aM hg;obtain ⟨v',w',k1,k2,k3,k4⟩:=key b off hl;exact ⟨i,q,e,_,l,m,g,r,v',w',hx,rfl,aS,eh,dP,hg,bD,aI,rfl,k1,k2,k3,λ b' aA ew=>by rw [hl] at ew; cases ew; exact k4⟩
        ·cases hb
       ·cases hb
      ·cases hb
     ·cases hb
    ·cases hb
   ·cases hb
  ·cases hb
 ·cases hb
theorem YG (hE:C4 E B) (h:RS B S ι s a w) {o:Oper} {c:Call} (ho:o.op=.call c) (hc:c.callee=.builtin .append) {x y:Operand} {T U:TypeId} (ha:c.args.toList=[x,y]) (eW:c.argTypes.toList=[T,U])
  {o2:Oper} {T2:TypeId} {ad:Operand} {d:Nat} (hd:G1 B.n (some d)=true) (iy:o2.op=.store T2 ad (.tmp d)) (kZ:∀ t,ad=.tmp t->t≠d) {p:Prop} {s2:St} (hb:xi E T U T2 (s.ev x) (s.ev y) (s.ev ad) d s=some (p,s2)) (hp:p) :
  ∃ v' w',(execOp a.eval o).run E.P w=.ok (.value v') w'/\y6 E.P B o2 (a.put (some d) v') w' (.raw undef) s2:=by
 obtain ⟨i,p0,e,t0,l,m,g,r,v',w',hx,pW,aS,eh,dP,hg,bD,aI,rfl,k1,k2,k3,k4⟩:=Xr hE h ho hc ha eW iy hb hp;refine ⟨v',w',k1,?_⟩;obtain ⟨e',b,off,h1,h2,h3,h4⟩:=B9 h pW;rw [aS] at h1; cases h1;have iq:=k2.put hd (v:=.any) (val:=v') ⟨v',rfl⟩;have kX:(a.put (some d) v').eval ad=.pointer (some ⟨b,off,none⟩):=by
  have tR:a.eval ad=.pointer (some ⟨b,off,none⟩):=by simpa using h4
  rw [<- tR];cases ad with
  | tmp t=>exact Y4 (kZ t rfl)
  | _=>rfl
 have dD:(a.put (some d) v').eval (.tmp d)=v':=Iq (by rw [h.sz]; simpa [G1,Nat.blt_eq] using hd);exact QQ hE iq (g:=g) dP eh (e:=e) (by simpa [St.put] using aS) h2 hg (k4 b off h3) iy kX dD bD aI
theorem Ni {o:Oper} (ho:zm o.op=true) {a a':Act} (h:∀ t∈Az o,a'.eval (.tmp t)=a.eval (.tmp t)):execOp a'.eval o=execOp a.eval o:=by
 have cy:∀ x∈o.op.operands.toList,a'.eval x=a.eval x:=by
  intro x hx;cases x with
  | tmp t=>exact h t (List.mem_filterMap.2 ⟨.tmp t,hx,rfl⟩)
  | _=>rfl
 unfold zm at ho;split at ho
 ·rename_i e; rw [e] at cy; simp [Op.operands] at cy; simp [execOp,e,cy]
 ·rename_i e; rw [e] at cy; simp [Op.operands] at cy; simp [execOp,e,cy]
 ·rename_i e; rw [e] at cy; simp [Op.operands] at cy; simp [execOp,e,cy]
 ·cases ho
theorem PI {a:Act} {d e:Nat} {v u:Value} (h:d≠e):(a.put (some d) v).put (some e) u=(a.put (some e) u).put (some d) v:=by
 simp only [Act.put];congr 1;apply Array.ext_getElem?;intro i;simp only [Array.getElem?_setIfInBounds,Array.size_setIfInBounds];by_cases h1:e=i
 ·subst h1; simp [h]
 ·simp [h1]
theorem Sd (hE:C4 E B) (hn:B.n=E.nt) {ops:Array Oper} {Q:Exit->Act->World->Prop} {oa:Oper} {c:Call} (ho:oa.op=.call c) (hc:c.callee=.builtin .append) {x y:Operand} {T U:TypeId} (ha:c.args.toList=[x,y]) (eW:c.argTypes.toList=[T,U])
  {d:Nat} (hd:G1 B.n (some d)=true):∀ {l:List Oper} {S:Nat->Prop} {ι:Ix} {s:St} {a:Act} {w:World} {p:Prop} {s2:St} {n:Nat},RS B S ι s a w->CA E T U x y d l s=some (p,s2,n)->p ->
  ∃ v' w',(execOp a.eval oa).run E.P w=.ok (.value v') w'/\((∀ S' ι' a' w'',RS B S' ι' s2 a' w''->wpList E.P ops Q (l.drop n) a' w'')->wpList E.P ops Q l (a.put (some d) v') w')
 | [],S,ι,s,a,w,p,s2,n,_,hf,_=>by cases hf
 | o::rest,S,ι,s,a,w,p,s2,n,h,hf,hp=>by
  have aF:c.args=#[x,y]:=by rw [<- ha]
  have eA:c.argTypes=#[T,U]:=by rw [<- eW]
  unfold CA at hf;split at hf
  ·rename_i hg gA
   split at hf
   ·rename_i mK
    split at hf
    ·rename_i d1 jX
     split at hf
     ·rename_i p1 v bY hv
      split at hf
      ·rename_i p2 s3 n2 kq
       cases hf;simp only [Bool.and_eq_true,Bool.not_eq_true'] at bY;obtain ⟨⟨⟨c1,c2⟩,c3⟩,c4⟩:=bY;have bH:d1≠d:=by rintro rfl; simp at c1
       have dU:=Bp hE h mK;have dD:Aw E.P S ι o a w s v:=by
        split at hv
        ·cases hv
        ·rename_i v0 s0 e0; cases hv; rw [e0] at dU; exact dU.2
        ·rename_i q0 v0 s0 e0; cases hv; rw [e0] at dU; exact (dU hp.1).2
       obtain ⟨val,aP,dy⟩:=dD;rw [jX] at gA;have cq:=h.put (d:=some d1) (by rw [hn]; exact gA) dy;obtain ⟨v',w',g1,g2⟩:=Sd hE hn ho hc ha eW hd (ops:=ops) (Q:=Q) cq kq hp.2;have ex:(a.put (some d1) val).eval x=a.eval x:=by
        cases x with
        | tmp t=>exact Y4 (by rintro rfl; simp at c3)
        | _=>rfl
       have ey:(a.put (some d1) val).eval y=a.eval y:=by
        cases y with
        | tmp t=>exact Y4 (by rintro rfl; simp at c4)
        | _=>rfl
       refine ⟨v',w',?_,λ hk=>?_⟩
       ·rw [<- g1]; simp [execOp,ho,resolve,hc,invoke,builtin,aF,eA,ex,ey]
       ·unfold wpList
        simp only [Region.wanted,hg,if_true];refine .inl ?_;unfold Oper.wp;have lT:(execOp (a.put (some d) v').eval o).run E.P w'=.ok (.value val) w':=by
         have rS:∀ t∈Az o,(a.put (some d) v').eval (.tmp t)=a.eval (.tmp t):=by
          intro t ht;refine Y4 (λ e=>?_);rw [e] at ht;have h5:(Az o).contains d=true:=by simpa using ht
          rw [h5] at c2; cases c2
         rw [Ni mK rS]; exact aP w'
        rw [lT];show wpList E.P ops Q rest ((a.put (some d) v').put o.dst val) w';rw [jX,PI (Ne.symm bH)];exact g2 hk
      ·cases hf
     ·cases hf
    ·cases hf
   ·split at hf
    ·rename_i T2 ad d' iy
     split at hf
     ·rename_i bY
      split at hf
      ·rename_i p1 s3 cr
       cases hf;simp only [Bool.and_eq_true] at bY;obtain ⟨c1,c2⟩:=bY;obtain rfl:=Nat.eq_of_beq_eq_true c1;obtain ⟨v',w',g1,g2⟩:=YG hE h ho hc ha eW hd iy (λ t e=>by subst e; rintro rfl; simp at c2) cr hp;refine ⟨v',w',g1,λ hk=>?_⟩;unfold wpList;simp only [Region.wanted,hg,if_true];refine .inl (g2 _ _ (λ S' ι' w2 val h1 h2=>?_));exact hk S' ι' _ w2 (h1.put (by rw [hn]; exact gA) h2)
      ·cases hf
     ·cases hf
    ·cases hf
  ·cases hf
theorem Zx {e:g9} {p:List Step} {r:Sigma Ty.den} (h:yZ e p r=true):Ar e (e.D5 r):=by
 unfold yZ at h;obtain ⟨r1,r2⟩:=r;split at h
 ·rename_i t x
  obtain rfl:r1=t:=of_decide_eq_true h;exact .inl ⟨r1,x,r2,rfl,rfl⟩
 ·rename_i t x
  split at h
  ·obtain rfl:r1=.d0 true t:=of_decide_eq_true h
   exact .inr (.inl ⟨t,x,r2,rfl,rfl⟩)
  ·cases h
 ·cases h
theorem OB.swap {H H1 H':Array Go.Obj} {i:Nat} {e:g9} (ho:OB H S ι i e) (bQ:∀ c∈l5 ι i e,¬ S c/\c<H.size) (hS:∀ c,S c->c<H.size) {p:List Step} (hk:(∃ t x,e=.var t x)\/∃ t x j q,e=.own (.d0 true t) x/\p=.idx j::q) (aM:w8 e.ty e.x p) {u:Ty} {y:u.den} (hg:j8 e.ty e.x p=some ⟨u,y⟩)
  {b off:Nat} (hl:Loc H ι i e p=some (b,off)) (aW:H.size<=H1.size) {Op:List Nat} (gF:g8 H S u Op (d9 H b off u.size) y) (hH:∀ c,c<H.size->c∉Op->H1[c]?=H[c]?) (hc:U9 H1 H' b off u.size) (jg:H'.size=H1.size)
  {u':Ty} {z:u'.den} {O2:List Nat} (hz:g8 H' S u' O2 (d9 H' b off u'.size) z) (eQ:∀ c∈O2,c<H'.size/\(c<H.size->c∈Op)) (cZ:O2.Nodup) {r:Sigma Ty.den} (aI:r8 e.ty e.x p u' z=some r) :
  ∃ O,(∀ c∈O,c∈ι.own i\/c∈O2)/\OB H' S (ι.C3 i O) i (e.D5 r):=by
 have he:e≠.K1:=J8 hl;have fo:=ho.yD he hS aM hg hl gF;obtain ⟨Om,m1,mn,m2,m3,m4,m5⟩:=M2 he ho hS aM hg hl;obtain ⟨O,hO,hR,hb,aH,bf,fY,dV⟩:=ho.see he hS;obtain ⟨O1,O3,b',aA,e1,e2,e3,e4,e5,e6⟩:=focus hR hb aM hg
 obtain ⟨cf,dp⟩:=C1 hl;rw [G8 he] at cf;rw [e3] at cf; cases cf;have cu:(O1++O3).Nodup:=(e1.nodup_iff).1 ((hO.nodup_iff).2 (List.nodup_cons.1 aH).2);have br:∀ c∈O1,c∈ι.own i:=λ c hc=>hO.mem_iff.1 (e1.mem_iff.2 (by simp [hc]));have cL:∀ c∈O3,c∈ι.own i:=λ c hc=>hO.mem_iff.1 (e1.mem_iff.2 (by simp [hc]));have bE:=(List.nodup_cons.1 aH).1;have di:∀ c∈ι.own i,c∈l5 ι i e:=by intro c hc; cases e<;>simp [l5,hc]
 have e4':g8 H S u O3 (d9 H b off u.size) y:=by
  rw [l4 (F3 dp)] at e4;exact (vz (λ c hc=>ho.R7 he (cL c hc)) hS).1 e4
 obtain rfl:Op=O3:=gF.det e4';have eV:∀ c∈O1,c<H.size:=λ c hc=>ho.R7 he (br c hc);have dO:∀ c,(c=(VR H ι i e).1/\c<H.size)\/c∈O1\/S c->H1[c]?=H[c]?:=by
  rintro c (⟨rfl,h1⟩|h1|h1)
  ·exact hH _ h1 (λ h=>bE (cL _ h))
  ·exact hH c (eV c h1) (λ h=>(List.nodup_append.1 cu).2.2 c h1 c h rfl)
  ·exact hH c (hS c h1) (λ h=>(bQ c (di c (cL c h))).1 h1)
 have jH:(∃ t x,e=.var t x)->(VR H ι i e).1<H.size:=by rintro ⟨t,x,rfl⟩; exact bf
 obtain ⟨n1,n2⟩:=u5.move (H':=H1) hk e2 eV hS aW dO jH;have cT:(VR H1 ι i e).2+e.ty.size<=(u6 (VH H1 ι i e) (VR H1 ι i e).1).length/\(VR H1 ι i e).1<(VH H1 ι i e).size/\¬ S (VR H1 ι i e).1/\(VR H1 ι i e).1∉O1:=by
  rcases hk with ⟨t,x,rfl⟩|⟨t,x,j,q,rfl,rfl⟩
  ·have hr:=jH ⟨_,_,rfl⟩
   refine ⟨?_,Nat.lt_of_lt_of_le hr aW,(bQ _ (by simp [l5,VR])).1,λ h=>bE (br _ h)⟩;have:=N7 (dO _ (.inl ⟨rfl,hr⟩));show (VR H ι i (.var t x)).2+_<=(u6 H1 (VR H ι i (.var t x)).1).length;rw [this]; exact hb
  ·refine ⟨?_,by simp [VH,VR,AL],λ h=>by have:=hS _ h; simp only [VR] at this; omega,λ h=>by have:=eV _ h; simp only [VR] at this; omega⟩
   simp only [VH,VR,vL] at hb ⊢; exact hb
 have pj:∀ c∈O2,c<H'.size:=λ c hc=>(eQ c hc).1;have qZ:∀ c,S c->c<H'.size:=λ c hc=>by have:=hS c hc; omega
 have ic:g8 (VH H' ι i e) S u' O2 (d9 (VH H' ι i e) b off u'.size) z:=by
  rw [l4 (F3 (by omega))];exact (vz pj qZ).2 hz
 obtain ⟨O4,f1,f2,f3⟩:=AQ n1 hg (n2.trans e3) cT.1 cT.2.1 (List.nodup_append.1 cu).1 cT.2.2.2 (λ c hc=>⟨(bQ c (di c (br c hc))).1,Nat.lt_of_lt_of_le (eV c hc) (Nat.le_trans aW wB)⟩) cT.2.2.1
  (λ c hc=>Nat.lt_of_lt_of_le (hS c hc) (Nat.le_trans aW wB)) (λ _ h=>h) (Al hc jg) ic aI
 have gS:O4.Nodup:=(f1.nodup_iff).2 (List.nodup_append.2 ⟨(List.nodup_append.1 cu).1,cZ,by
  rintro c h1 d h2 rfl;exact (List.nodup_append.1 cu).2.2 c h1 c ((eQ c h2).2 (eV c h1)) rfl⟩)
 have bU:∀ c∈O4,c∈ι.own i\/c∈O2:=by
  intro c hc;rcases List.mem_append.1 (f1.mem_iff.1 hc) with h|h
  ·exact .inl (br c h)
  ·exact .inr h
 have kE:∀ c∈O4,c<H'.size:=by
  intro c hc;rcases bU c hc with h|h
  ·have:=ho.R7 he h; omega
  ·exact (eQ c h).1
 have f2':=(vz kE qZ).1 f2;refine ⟨O4,bU,?_⟩;cases e with
 | var t x =>
  simp only [g9.D5,OB,Ix.C3,if_true];obtain ⟨_,hf,_⟩:=ho;refine ⟨⟨O4,List.Perm.refl _,f2'⟩,?_,?_⟩
  ·rw [F0 f3]; exact hc.free (hf.s4 (dO _ (.inl ⟨rfl,jH ⟨_,_,rfl⟩⟩)))
  ·refine List.nodup_cons.2 ⟨λ h=>?_,gS⟩
   rcases bU _ h with h1|h1
   ·exact bE h1
   ·exact bE (cL _ ((eQ _ h1).2 (jH ⟨_,_,rfl⟩)))
 | own t x =>
  simp only [g9.D5,OB,Ix.C3,if_true];refine ⟨⟨O4,List.Perm.refl _,?_⟩,gS⟩;obtain ⟨⟨O',_,fA⟩,_⟩:=ho;have fH:r.1.size=t.size:=F0 f3;have:d9 (VH H' ι i (.own t x)) (VR H1 ι i (.own t x)).1 (VR H1 ι i (.own t x)).2 r.1.size=ι.cells i:=by
   simp only [VH,VR];rw [<- jg];simp only [d9,vL,List.drop_zero];exact List.take_of_length_le (by rw [fA.length,fH]; exact Nat.le_refl _)
  rw [this] at f2';exact f2'
 | K1=>exact absurd rfl he
def vY (P:Program) (o:Oper) (a:Act) (w:World) (R:Value->World->Prop):Prop :=
 ∃ g vs,(execOp a.eval o).run P w=.ok (.enter g vs) w/\Calls P g vs w (λ e w'=>∃ v,e=.returned v/\R v w')
theorem vY.wp {P:Program} {o:Oper} {R:Value->World->Prop} (h:vY P o a w R) {next:Act->World->Prop} {Q:Exit->Act->World->Prop} (hn:∀ v w',R v w'->next (a.put o.dst v) w'):o.wp P a w next Q:=by
 obtain ⟨g,vs,h1,h2⟩:=h;unfold Oper.wp;rw [h1];refine Calls.mono h2 ?_;rintro e w' ⟨v,rfl,hr⟩;exact hn v w' hr
theorem vY.mono {P:Program} {o:Oper} {R R':Value->World->Prop} (h:vY P o a w R) (hr:∀ v w',R v w'->R' v w'):vY P o a w R':=by
 obtain ⟨g,vs,h1,h2⟩:=h;exact ⟨g,vs,h1,h2.mono (λ e w' ⟨v,e1,k⟩=>⟨v,e1,hr v w' k⟩)⟩
theorem over_self {cur:List Value} {off n:Nat} (h:off+n<=cur.length):over cur off ((cur.drop off).take n)=cur:=by
 rw [over,List.length_take,List.length_drop,Nat.min_eq_left (by omega),List.append_assoc]
 conv=>rhs; rw [<- List.take_append_drop off cur,<- List.take_append_drop n (cur.drop off)]
 rw [List.drop_drop]
theorem Xt (h:RS B S ι s a w) {i:Nat} {e:g9} (aS:look i s.hp=some e) {p:List Step} (aM:w8 e.ty e.x p) {t:Ty} {l:(Ty.d0 true t).den} (hg:j8 e.ty e.x p=some ⟨.d0 true t,l⟩) {b off:Nat} (hl:Loc w.heap ι i e p=some (b,off))
  {Op:List Nat} (gF:g8 w.heap S (.d0 true t) Op (d9 w.heap b off (Ty.d0 true t).size) l) (kh:∀ c∈Op,c∈ι.own i) {ks:List PK} {ys:List Operand} {y:DK ks} (hy:Af s ks i e p t ys=some (y,[],[])) :
  ∃ S1:Nat->Prop,(∀ b,S b->S1 b)/\(∀ b,S1 b->b<w.heap.size)/\(∀ c∈Op,¬ S1 c)/\S6 w.heap S1 ks (ys.map a.eval) y []:=by
 have dA:∀ c∈Op,c∈l5 ι i e:=λ c hc=>H8 (kh c hc);have fin:∀ {ι':Ix} {s0:St},RS B S ι' s0 a w->AV.uK s0 ks (s0.J4 ys)=some (y,[],[])->(∀ j ej,j∈R0.loose ks (s0.J4 ys)->look j s0.hp=some ej->∀ c∈Op,c∉l5 ι' j ej)->∃ S1:Nat->Prop,(∀ b,S b->S1 b)/\(∀ b,S1 b->b<w.heap.size)/\(∀ c∈Op,¬ S1 c)/\S6 w.heap S1 ks (ys.map a.eval) y []:=by
  intro ι' s0 h0 rk hd
  let S1:Nat->Prop:=λ b=>S b\/M1 ι' s0.hp (R0.loose ks (s0.J4 ys)) b
  obtain ⟨L2,qk,_,qi,_⟩:=Hz (S1:=S1) h0.hs (λ b hb=>.inl hb) rk (h0.J4 ys) (by simp) (λ b hb=>.inr hb);have qj:L2=[]:=by
   rw [List.eq_nil_iff_forall_not_mem];intro b hb;obtain ⟨i,e,h1,_⟩:=qi b hb;cases h1
  subst qj;refine ⟨S1,λ _ h=>.inl h,?_,?_,qk⟩
  ·rintro b (hb|⟨j,ej,h1,h2,h3⟩)
   ·exact h0.hs.slt b hb
   ·exact (h0.hs.bl j ej h2 b h3).2.2
  ·rintro c hc (hs|⟨j,ej,r1,r2,r3⟩)
   ·exact (h.hs.bl i e aS c (dA c hc)).1 hs
   ·exact hd j ej r1 r2 c hc r3
 unfold Af at hy;split at hy
 ·rename_i ml
  have ml:i∉R0.loose ks (s.J4 ys):=by intro hm; simp [hm] at ml
  exact fin h hy (λ j ej r1 r2 c hc r3=>h.hs.dj i j e ej aS r2 (by rintro rfl; exact ml r1) c (dA c hc) r3)
 ·split at hy
  ·rename_i u x
   split at hy
   ·rename_i r aI
    have cF:∃ c0,d9 w.heap b off (Ty.d0 true t).size=[c0]/\Cc c0=true:=by
     rcases gF with ⟨_,⟨a1,c1,e1,_⟩,_⟩|⟨b1,o1,cap1,O1,e1,_⟩
     ·exact ⟨_,e1,rfl⟩
     ·exact ⟨_,e1,rfl⟩
    obtain ⟨c0,eM,nC⟩:=cF;obtain ⟨ι',⟨O,rfl,hO⟩,h0⟩:=h.CI aS aM hg hl (u':=.hole t) (z:=([]:List t.den)) (cs:=[c0]) (O2:=[]) (λ H' _ _=>⟨rfl,c0,rfl,nC⟩) rfl List.nodup_nil (by simp) aI (by intro h; cases h);have hw:w.setRow b (over (u6 w.heap b) off [c0]).toArray=w:=by
     obtain ⟨O2,m1,m2,m3,m4,m5,arr,T,⟨fz,e1,_⟩,hn⟩:=M2 (J8 hl) (h.hs.ob i _ aS) h.hs.slt aM hg hl;have hb:u6 w.heap b=arr.toList:=by simp only [u6,e1]
     have:over (u6 w.heap b) off [c0]=u6 w.heap b:=by
      rw [<- eM]; exact over_self m4
     rw [this,hb]; exact setRow_self w b arr T fz (by simpa using e1)
    rw [hw] at h0;refine fin h0 hy (λ j ej r1 r2 c hc r3=>?_);simp only [St.w4,n9] at r2;by_cases hj:j=i
    ·subst hj
     rw [if_pos rfl] at r2; cases r2;have r3:c∈(ι.root j).1::(ι.C3 j O).own j:=r3;simp only [Ix.C3,if_true] at r3;refine (List.mem_cons.1 r3).elim (λ g3=>?_) (λ g3=>?_)
     ·obtain ⟨_,_,aH⟩:=h.hs.ob j _ aS
      exact (List.nodup_cons.1 aH).1 (g3▸kh c hc)
     ·rcases (hO c g3).2 with h9|h9
      ·cases h9
      ·exact h9 Op gF hc
    ·rw [if_neg hj] at r2
     rw [(V5 hj O).l5] at r3;exact h.hs.dj i j _ ej aS r2 (Ne.symm hj) c (dA c hc) r3
   ·cases hy
  ·cases hy
theorem Xs {i:Nat} {e:g9} {p:List Step} {t:Ty} {ks:List PK} {ys:List Operand} {r:DK ks×List Nat×List Nat} (hy:Af s ks i e p t ys=some r):ks.any PK.lnk=false:=by
 unfold Af at hy;split at hy
 ·exact Bf hy
 ·split at hy
  ·split at hy
   ·exact Bf hy
   ·cases hy
  ·cases hy
theorem ZH (hE:C4 E B) (h:RS B S ι s a w) {o:Oper} {c:Call} (ho:o.op=.call c) {g:FuncId} (hf:c.callee=.value (.func g)) {x:Operand} {ys:List Operand} (ha:c.args.toList=x::ys)
  {o2:Oper} {T2:TypeId} {ad:Operand} {d:Nat} (hd:G1 B.n (some d)=true) (iy:o2.op=.store T2 ad (.tmp d)) (kZ:∀ t,ad=.tmp t->t≠d) {p:Prop} {s2:St} (hb:EO E T2 g (s.ev x) ys (s.ev ad) d s=some (p,s2)) (hp:p) :
  vY E.P o a w (λ v' w'=>y6 E.P B o2 (a.put (some d) v') w' (.raw undef) s2):=by
 unfold EO at hb;split at hb
 ·rename_i t ks t' pre fn out nw i p0 j q nN hx kX
  split at hb
  ·rename_i e aS bY
   simp only [Bool.and_eq_true] at bY;obtain ⟨⟨⟨bS,kk⟩,oT⟩,pO⟩:=bY;have bS:=Nat.eq_of_beq_eq_true bS;subst bS;have kk:E0 ks=[]:=by
    revert kk;cases E0 ks with
    | nil=>intro _; rfl
    | cons a b=>intro h; cases h
   split at hb
   ·rename_i u l y hg hy
    split at hb
    ·rename_i hu
     subst hu;split at hb
     ·rename_i r aI
      split at hb
      ·rename_i fm
       cases hb;simp only [Bool.and_eq_true] at fm;obtain ⟨bD,bO⟩:=fm;obtain ⟨rfl,bc⟩:=hp;have aS:look i s.hp=some e:=aS;have cH:e≠.K1:=by rcases (Bk bO).2 with ⟨_,_,rfl⟩|⟨_,_,_,_,rfl,_⟩<;>(intro h; cases h)
       have jT:=(Bk bO).2;obtain ⟨e1,u1,y1,cs,r1,aM,r3,cE,r5⟩:=B9 h hx;rw [aS] at r1; cases r1;rw [hg] at r3; cases r3;have dD:a.eval x=o8 (.d0 true t) cs:=by simpa using r5
       obtain ⟨Op,m1,mn,kg⟩:=F8 h.hs aS aM hg cE;obtain ⟨e2,b,off,z1,z2,hl,z4⟩:=B9 h kX;rw [aS] at z1; cases z1;have z4:a.eval ad=.pointer (some ⟨b,off,none⟩):=by simpa using z4
       have hV:=hE.C7 g _ nN;obtain ⟨fnn,jy,fO,gO⟩:=hV.ent;have gW:g8 w.heap S (.d0 true t) Op (d9 w.heap b off (Ty.d0 true t).size) l:=by
        have cf:=C1 hl;obtain ⟨b9,o9,k1,k2⟩:=id cE;rw [cf.1] at k1; cases k1;rw [k2,l4 (F3 cf.2)] at kg;exact kg
       obtain ⟨S1,lf,gk,qc,qk⟩:=Xt h aS aM hg hl gW m1 hy;have dA:∀ c∈Op,c∈l5 ι i e:=λ c hc=>H8 (m1 c hc);have nW:∀ b∈Op++[],¬ S1 b/\b<w.heap.size:=by
        intro b hb;have hb:b∈Op:=by simpa using hb
        exact ⟨qc b hb,(h.hs.bl i e aS b (dA b hb)).2.2⟩
       have iI:=hV.run w S1 (a.eval x::ys.map a.eval) (V2 rfl l,y) (Op++[]) gk ((hE.gb.at_ h.hs).sub lf) bc ⟨_,_,Op,[],rfl,rfl,⟨cs,dD,kg.s4 (λ _ _=>rfl) lf⟩,qk⟩ (Bx (by rw [List.any_cons,Xs hy]; rfl)) (by simpa using mn) nW;refine ⟨g,(a.eval x::ys.map a.eval).toArray,?_,?_⟩
       ·have oZ:fnn.body.isNone=false:=gO
        have hq:(fnn.name == "runtime.NumGoroutine")=false:=fO
        have aF:c.args.map a.eval=(a.eval x::ys.map a.eval).toArray:=by
         rw [<- Array.toList_inj,Array.toList_map,ha]; simp
        have de:a.eval (.func g)=.func (.func g) #[] #[]:=by simp [Act.eval]
        simp only [execOp,ho,resolve,hf,de,Deferred.ofValue,Sem.run_bind,Sem.run_pure,Result.andThen,invoke,callFunc,program];simp [Sem.run,jy,hq,oZ];exact aF
       ·refine Calls.mono iI ?_
        rintro en w' ⟨us,O,Lo,S',rfl,bm,il,ji,eI,eJ,aH,hO⟩;obtain ⟨v',us',O1,O2,cs',rfl,rfl,fF,nh,rfl,rfl⟩:=eI;refine ⟨v',rfl,?_⟩;have lG:=W6 (show E0 (.own (.d0 true t)::ks)=[] from kk) eJ;subst lG;have nh:=g8.J1 (S':=S) oT nh;have oY:O1.Nodup:=by simpa using aH
        have cj:∀ c∈O1,(w.heap.size<=c\/c∈Op)/\c<w'.heap.size:=λ c hc=>by
         obtain ⟨_,q2,q3⟩:=hO c (by simp [hc]);exact ⟨by simpa using q2,q3⟩
        have bm:E3 Op w w':=by simpa using bm
        have bQ:∀ c∈l5 ι i e,¬ S c/\c<w.heap.size:=λ c hc=>⟨(h.hs.bl i e aS c hc).1,(h.hs.bl i e aS c hc).2.2⟩;obtain ⟨Om,p1,p2,p3,p4,p5,p6⟩:=M2 cH (h.hs.ob i e aS) h.hs.slt aM hg hl;have tD:Om=Op:=by
         have cf:=C1 hl;obtain ⟨b9,o9,k1,k2⟩:=cE;rw [cf.1] at k1; cases k1;rw [k2,l4 (F3 cf.2)] at kg;exact p3.det kg
        subst tD;have fo:=(h.hs.ob i e aS).yD cH h.hs.slt aM hg hl p3;have dL:=(bQ b p5).2;have iD:N1 w'.heap b (off+(Ty.d0 true t).size):=p6.s4 (bm.frame b dL fo);intro next Q hn
        have iq:=h.put (d:=some d) hd (v:=.any) (val:=v') ⟨_,rfl⟩;have mY:(a.put (some d) v').eval ad=.pointer (some ⟨b,off,none⟩):=by
         rw [<- z4];cases ad with
         | tmp t9=>exact Y4 (kZ t9 rfl)
         | _=>rfl
        have rz:(a.put (some d) v').eval (.tmp d)=v':=Iq (by
         rw [h.sz]; simpa [G1,Nat.blt_eq] using hd)
        have pE:∃ c1,cs'=[c1]:=by
         have:=nh.length
         match cs',this with
         | [c1],_=>exact ⟨c1,rfl⟩
        obtain ⟨c1,rfl⟩:=pE;obtain rfl:c1=v':=fF.symm;have oB:(Ty.d0 true t').sh=(Ty.d0 true t).sh:=Bj hg aI;have aP:(execOp (a.put (some d) c1).eval o2).run E.P w'=.ok .skip (w'.setRow b (over (u6 w'.heap b) off [c1]).toArray):=by
         have rH:(storeVar T2 ⟨b,off,none⟩ c1).run E.P w'=.ok () (w'.setRow b (over (u6 w'.heap b) off [c1]).toArray):=Kj (C6 hE pO) oB iD nh;simp [execOp,iy,mY,rz,Instr.storeAt,Instr.sureAddr,rH]
        unfold Oper.wp;rw [aP];obtain ⟨gi,bM⟩:=DC (w:=w') (b:=b) (off:=off) (cs:=[c1]) iD;have lM:(w'.setRow b (over (u6 w'.heap b) off [c1]).toArray).heap.size=w'.heap.size:=setRow_size;have hold:∀ c,c≠b->(w'.setRow b (over (u6 w'.heap b) off [c1]).toArray).heap[c]?=w'.heap[c]?:=λ c cz=>setRow_other cz;have jF:(w'.setRow b (over (u6 w'.heap b) off [c1]).toArray).os=w'.os/\U5 w' (w'.setRow b (over (u6 w'.heap b) off [c1]).toArray)/\(w'.setRow b (over (u6 w'.heap b) off [c1]).toArray).output=w'.output:=⟨rfl,.of rfl rfl,rfl⟩;generalize ry:w'.setRow b (over (u6 w'.heap b) off [c1]).toArray=w'' at *
        have pT:b∉O1:=λ dG=>by
         rcases (cj b dG).1 with q|q
         ·omega
         ·exact fo q
        have oe:g8 w''.heap S (.d0 true t') O1 (d9 w''.heap b off (Ty.d0 true t').size) (fn (V2 rfl l,y)).1:=by
         have:d9 w''.heap b off (Ty.d0 true t').size=[c1]:=bM;rw [this];refine nh.s4 (λ c hc=>hold c ?_) (λ _ h=>h);rintro rfl;rcases hc with hc|hc
         ·exact pT hc
         ·exact (bQ c p5).1 hc
        obtain ⟨O,n1,n2⟩:=OB.swap (h.hs.ob i e aS) bQ h.hs.slt jT aM hg hl bm.size p3 (λ c hc hn=>bm.frame c hc hn) gi lM oe (λ c hc=>by
         obtain ⟨q1,q2⟩:=cj c hc;exact ⟨by omega,λ bf=>q1.resolve_left (by omega)⟩) oY aI
        have kv:E3 (l5 ι i e) w w'':=by
         refine ⟨jF.1.trans bm.os,jF.2.1.trans bm.tape,jF.2.2.trans bm.out,by rw [lM]; exact bm.size,λ c hc hn=>?_⟩;rw [hold c (by rintro rfl; exact hn p5)];exact bm.frame c hc (λ pP=>hn (dA c pP))
        have cq:=iq.renew (by simpa [St.put] using aS) (Zx bO) E8.nil (L:=l5 ι i e) kv (λ b hb=>.inl hb) (λ _ h=>h) (λ _ h=>.inl h) (O':=O) n2 (λ c hc=>by
         have cV:c∈l5 ι i e\/c∈O1:=by
          cases e with
          | var t9 x9 =>
           simp only [l5,g9.D5,Ix.C3,if_true,List.mem_cons] at hc ⊢;rcases hc with hc|hc
           ·exact .inl (.inl hc)
           ·exact (n1 c hc).imp .inr id
          | own t9 x9 =>
           simp only [l5,g9.D5,Ix.C3,if_true] at hc ⊢;exact n1 c hc
          | K1=>exact absurd rfl cH
         rcases cV with cV|cV
         ·exact ⟨(bQ c cV).1,.inr cV,by have:=(bQ c cV).2; have:=bm.size; omega⟩
         ·obtain ⟨q1,q2⟩:=cj c cV
          have gT:¬ S c:=by
           have:=(hO c (by simp [cV])).1;exact λ hs=>this (il c (lf c hs))
          exact ⟨gT,q1.imp id (dA c),by omega⟩)
        exact hn S _ w'' undef cq rfl
      ·cases hb
     ·cases hb
    ·cases hb
   ·cases hb
  ·cases hb
 ·cases hb
theorem vY.put {P:Program} {o:Oper} {c:Call} (ho:o.op=.call c) {g:FuncId} (hf:c.callee=.value (.func g)) {d:Nat} {val:Value} (hd:∀ z∈c.args.toList,z≠.tmp d) {R:Value->World->Prop} (h:vY P o (a.put (some d) val) w R):vY P o a w R:=by
 obtain ⟨g',vs,h1,h2⟩:=h;refine ⟨g',vs,?_,h2⟩;rw [<- h1];have aF:c.args.map (a.put (some d) val).eval=c.args.map a.eval:=by
  apply Array.map_congr_left;intro z hz;cases z with
  | tmp t=>exact Y4 (λ e=>hd _ (by simpa using hz) (by rw [e]))
  | _=>rfl
 have de:(a.put (some d) val).eval (.func g)=a.eval (.func g):=rfl;simp only [execOp,ho,resolve,hf,de,aF]
theorem RQ (hE:C4 E B) (hn:B.n=E.nt) {ops:Array Oper} {Q:Exit->Act->World->Prop} {oa:Oper} {c:Call} (ho:oa.op=.call c) {g:FuncId} (hf:c.callee=.value (.func g)) {x:Operand} {ys:List Operand} (ha:c.args.toList=x::ys)
  {d:Nat} (hd:G1 B.n (some d)=true):∀ {l:List Oper} {S:Nat->Prop} {ι:Ix} {s:St} {a:Act} {w:World} {p:Prop} {s2:St} {n:Nat},RS B S ι s a w->CZ E g x ys d l s=some (p,s2,n)->p->(∀ S' ι' a' w'',RS B S' ι' s2 a' w''->wpList E.P ops Q (l.drop n) a' w'') ->
  vY E.P oa a w (λ v' w'=>wpList E.P ops Q l (a.put (some d) v') w')
 | [],S,ι,s,a,w,p,s2,n,_,hb,_,_=>by cases hb
 | o::rest,S,ι,s,a,w,p,s2,n,h,hb,hp,hk=>by
  unfold CZ at hb;split at hb
  ·rename_i hg gA
   split at hb
   ·rename_i mK
    split at hb
    ·rename_i d1 jX
     split at hb
     ·rename_i p1 v bY hv
      split at hb
      ·rename_i p2 s3 n2 kq
       cases hb;simp only [Bool.and_eq_true,Bool.not_eq_true'] at bY;obtain ⟨⟨c1,c2⟩,c3⟩:=bY;have bH:d1≠d:=by rintro rfl; simp at c1
       have dU:=Bp hE h mK;have dD:Aw E.P S ι o a w s v:=by
        split at hv
        ·cases hv
        ·rename_i v0 s0 e0; cases hv; rw [e0] at dU; exact dU.2
        ·rename_i q0 v0 s0 e0; cases hv; rw [e0] at dU; exact (dU hp.1).2
       obtain ⟨val,aP,dy⟩:=dD;rw [jX] at gA;have cq:=h.put (d:=some d1) (by rw [hn]; exact gA) dy;have lS:=RQ hE hn ho hf ha hd (ops:=ops) (Q:=Q) cq kq hp.2 hk;refine (lS.put ho hf (λ z hz=>?_)).mono (λ v' w' hw=>?_)
       ·rw [ha] at hz
        rintro rfl;have:=List.all_eq_true.1 c3 _ hz;simp at this
       ·unfold wpList
        simp only [Region.wanted,hg,if_true];refine .inl ?_;unfold Oper.wp;have ex:execOp (a.put (some d) v').eval o=execOp a.eval o:=Ni mK (λ t ht=>Y4 (by
         rintro rfl;simp [ht] at c2))
        rw [ex,aP w'];show wpList E.P ops Q rest ((a.put (some d) v').put o.dst val) w';rw [jX,PI (Ne.symm bH)];exact hw
      ·cases hb
     ·cases hb
    ·cases hb
   ·split at hb
    ·rename_i T2 ad d' cy
     split at hb
     ·rename_i bY
      simp only [Bool.and_eq_true] at bY;obtain ⟨c1,c2⟩:=bY;obtain rfl:=Nat.eq_of_beq_eq_true c1;split at hb
      ·rename_i p2 s3 cE
       cases hb;have kZ:∀ t,ad=.tmp t->t≠d':=by
        intro t e;subst e;rintro rfl;simp at c2
       refine (ZH hE h ho hf ha hd cy kZ cE hp).mono (λ v' w' hw=>?_);unfold wpList;simp only [Region.wanted,hg,if_true];refine .inl (hw _ _ (λ S' ι' w2 val h1 h2=>?_));exact hk S' ι' _ w2 (h1.put (by rw [hn]; exact gA) h2)
      ·cases hb
     ·cases hb
    ·cases hb
  ·cases hb
theorem YY {H:Array Go.Obj} {t:Ty} {y:(Ty.y7 t).den} (ch:t.shared=true) (h1:1<=y.1) (h2:y.1<=2) {O:List Nat} {cs:List Value} (hr:g8 H S (.y7 t) O cs y):g8 H S (.d0 true t) O cs y.2.1:=by
 obtain ⟨n,l,m⟩:=y
 match n,h1,h2,hr with
 | 1,_,_,hr=>exact hr
 | 2,_,_,⟨b,off,O',c1,c2,c3,c4,c5,c6⟩ =>
  obtain rfl:O'=[]:=i8.M8 (λ _ _ _ hr=>hr.M8 ch) c4;have bf:(l++m).length=l.length+m.length:=List.length_append;rw [bf,Nat.add_mul] at c3 c4;have s1:=(i8.two (λ _ _ _ hr=>hr.length) (λ _ _ _ hr=>hr.M8 ch) c4).1;rw [m0 _ _ _ _ (by omega)] at s1;exact .inr ⟨b,off,List.length l+List.length m,[],c1,by show List.length l<=_; omega,c2,by show off+List.length l*t.size<=_; omega,s1,c5,c6⟩
theorem ZG (hE:C4 E B) (hn:B.n=E.nt) (h:RS B S ι s a w) {o:Oper} {p:Prop} {s2:St} (hb:EN E o s=some (p,s2)) (hp:p) :
  o.guard=none/\vY E.P o a w (λ v' w'=>∃ ι',RS B S ι' s2 (a.put o.dst v') w'):=by
 unfold EN at hb; cases hb
def Gw (H:Array Go.Obj) (S:Nat->Prop) (tl:Option (FuncId×Nat)) (pre us0 vs:List Value):Prop :=
 match tl with
 | none=>vs=us0
 | some (f,k)=>k<=pre.length/\∃ b off,vs=us0++[.pointer (some ⟨b,off,none⟩)]/\S b/\off+1<=(u6 H b).length/\d9 H b off 1=[.func (.func f) #[] ((pre.take k).reverse++vs).toArray]
theorem Gw.next {H:Array Go.Obj} {tl:Option (FuncId×Nat)} {pre us0 vs:List Value} {v:Value} (h:Gw H S tl pre (v::us0) vs):∃ vs',vs=v::vs'/\Gw H S (tl.map λ q=>(q.1,q.2+1)) (v::pre) us0 vs':=by
 cases tl with
 | none=>exact ⟨us0,h,rfl⟩
 | some q =>
  obtain ⟨f,k⟩:=q;obtain ⟨hk,b,off,rfl,h1,h2,h3⟩:=h;refine ⟨_,rfl,by simpa using hk,b,off,rfl,h1,h2,?_⟩;rw [h3];simp [List.take_succ_cons]
theorem RS.slot (h:RS B S ι s a w) {t:Nat} {v:AV} (hv:VX w.heap S ι s.hp v [a.tmps.getD t (B.gd t)]):RS B S ι { s with fr:=Ex.put t v s.fr } a w:=by
 refine ⟨h.hs,h.dfr,h.sz,?_⟩;intro t' v' ht;simp only [n9] at ht;by_cases e:t'=t
 ·subst e
  rw [if_pos rfl] at ht; cases ht; exact hv
 ·rw [if_neg e] at ht; exact h.fr t' v' ht
theorem b6Z (hE:C4 E B) (hn:B.n=E.nt) (hM:E.ps.any PK.j9=false->∀ b,¬ B.M b) (h:RS B S ι s a w) {o:Oper} {p:Prop} {s2:St} (hb:FK E o s=some (p,s2)) (hp:p) :
  o.guard=none/\∀ (next:Act->World->Prop) (Q:Exit->Act->World->Prop),(∀ S' ι' a' w',RS B S' ι' s2 a' w'->next a' w')->o.wp E.P a w next Q:=by
 unfold FK at hb; cases hb
theorem RS.LV (h:RS B S ι s a w) {i:Nat} {u t:Ty} {y:u.den} {z:t.den} (he:look i s.hp=some (.var u y)) {O1 D:List Nat} (hp:(ι.own i).Perm (O1++D)) (p2:t.size=u.size)
  (hz:g8 w.heap (λ b=>S b\/b∈D) t O1 (d9 w.heap (ι.root i).1 (ι.root i).2 t.size) z):RS B (λ b=>S b\/b∈D) (ι.C3 i O1) ((s.wQ i).w4 i (.var t z)) a w:=by
 obtain ⟨-,hf,aH⟩:=h.hs.ob i _ he;have nY:∀ b∈D,b∈ι.own i:=λ b hb=>hp.mem_iff.2 (by simp [hb]);have kh:∀ b∈O1,b∈ι.own i:=λ b hb=>hp.mem_iff.2 (by simp [hb]);have cZ:(O1++D).Nodup:=(hp.nodup_iff).1 (List.nodup_cons.1 aH).2;have bE:=(List.nodup_cons.1 aH).1;have bQ:=h.hs.bl i _ he;have di:∀ b∈ι.own i,b∈l5 ι i (.var u y):=λ b hb=>by simp [l5,hb]
 have bj:∀ j,j≠i->E2 ι (ι.C3 i O1) j:=λ j hj=>V5 hj _;have bU:∀ b∈l5 (ι.C3 i O1) i (.var t z),b∈l5 ι i (.var u y)/\b∉D:=by
  intro b hb;have hb:b∈(ι.root i).1::(ι.C3 i O1).own i:=hb;simp only [Ix.C3,if_true] at hb;refine (List.mem_cons.1 hb).elim (λ e=>⟨by simp [l5,e],λ hD=>bE (e▸nY b hD)⟩) (λ e=>⟨di b (kh b e),λ hD=>(List.nodup_append.1 cZ).2.2 b e b hD rfl⟩)
 refine ⟨⟨h.hs.os,h.hs.tape,h.hs.out,h.hs.size,h.hs.frame,?_,λ b hb=>.inl (h.hs.s0 b hb),?_,?_,?_,?_,?_⟩,h.dfr,h.sz,?_⟩
 ·rintro b (hb|hb)
  ·exact h.hs.slt b hb
  ·exact (bQ b (di b (nY b hb))).2.2
 ·rintro b (hb|hb)
  ·exact h.hs.s1 b hb
  ·rcases (bQ b (di b (nY b hb))).2.1 with q|q
   ·exact .inr (.inl q)
   ·exact .inr (.inr q)
 ·intro j ej hj
  simp only [St.w4,n9] at hj;by_cases e1:j=i
  ·subst e1; rw [if_pos rfl] at hj; cases hj
   refine ⟨⟨O1,by simp [Ix.C3],?_⟩,?_,?_⟩
   ·exact hz
   ·rw [p2]; exact hf
   ·show ((ι.root j).1::(ι.C3 j O1).own j).Nodup
    simp only [Ix.C3,if_true];exact List.nodup_cons.2 ⟨λ h=>bE (kh _ h),(List.nodup_append.1 cZ).1⟩
  ·rw [if_neg e1] at hj
   exact (bj j e1).ob.2 ((h.hs.ob j ej hj).s4 (λ _ _=>rfl) (λ _ h=>.inl h))
 ·intro j ej hj b hb
  simp only [St.w4,n9] at hj;by_cases e1:j=i
  ·subst e1; rw [if_pos rfl] at hj; cases hj
   obtain ⟨q1,q2⟩:=bU b hb;obtain ⟨r1,r2,r3⟩:=bQ b q1;exact ⟨λ hs=>hs.elim r1 q2,r2,r3⟩
  ·rw [if_neg e1] at hj
   rw [(bj j e1).l5] at hb;obtain ⟨r1,r2,r3⟩:=h.hs.bl j ej hj b hb;exact ⟨λ hs=>hs.elim r1 (λ hD=>h.hs.dj j i ej _ hj he e1 b hb (di b (nY b hD))),r2,r3⟩
 ·intro j k ej ek hj hk fw c hc
  simp only [St.w4,n9] at hj hk;by_cases e1:j=i
  ·subst e1
   rw [if_pos rfl] at hj; cases hj;rw [if_neg (Ne.symm fw)] at hk;rw [(bj k (Ne.symm fw)).l5];exact h.hs.dj j k _ ek he hk fw c (bU c hc).1
  ·rw [if_neg e1] at hj
   rw [(bj j e1).l5] at hc;by_cases e2:k=i
   ·subst e2
    rw [if_pos rfl] at hk; cases hk;exact λ cV=>h.hs.dj j k ej _ hj he fw c hc (bU c cV).1
   ·rw [if_neg e2] at hk
    rw [(bj k e2).l5];exact h.hs.dj j k ej ek hj hk fw c hc
 ·intro q hq
  obtain ⟨k0,⟨e',k1⟩,k2,k3⟩:=h.hs.pin q hq;refine ⟨k0,?_,k2,k3⟩;simp only [St.w4,n9];by_cases e1:q.1=i
  ·exact ⟨_,by rw [if_pos e1]⟩
  ·exact ⟨e',by rw [if_neg e1]; exact k1⟩
 ·intro t9 v hv
  simp only [St.w4,St.wQ,N5,Option.map_eq_some_iff] at hv;obtain ⟨v0,eZ,rfl⟩:=hv;refine VX.map (λ _ _=>rfl) (λ _ h=>.inl h) (λ v vs hr hm dy=>?_) (h.fr t9 v0 eZ);unfold AV.KM;cases bZ:v.i7 i with
  | false =>
   have bH:∀ j,v.i7 j=true->j≠i:=by rintro j hj rfl; rw [bZ] at hj; cases hj
   have bO:VX w.heap (λ b=>S b\/b∈D) ι s.hp v vs:=VX.grow (λ _ _=>rfl) (λ _ h=>.inl h) h.hs.slt h.hs.ob dy;exact VX.other (λ j hj=>by simp only [St.w4,n9,if_neg (bH j hj)]; rfl) (λ j hj=>bj j (bH j hj)) bO
  | true =>
   have cC:=VX.one hr dy;simp only
   split
   ·rename_i j
    have dI:i=j:=Nat.eq_of_beq_eq_true bZ;subst dI;obtain ⟨ej,b2,off2,k1,k2,k3,k4⟩:=dy;rw [he] at k1; cases k1;refine ⟨.var t z,b2,off2,by simp [St.w4,n9],M7,?_,k4⟩;simp only [Loc,Place,VR,VH,x7] at k3 ⊢;exact k3
   ·exact cC
theorem RS.La (h:RS B S ι s a w) {i:Nat} {u t:Ty} {y:u.den} {z:t.den} (he:look i s.hp=some (.var u y)) (hz:xW u t y=some z):∃ S' ι',RS B S' ι' ((s.wQ i).w4 i (.var t z)) a w:=by
 obtain ⟨⟨O,hO,hR⟩,hf,aH⟩:=h.hs.ob i _ he;obtain ⟨O1,D,p1,p2,p3⟩:=Wl hz hR;refine ⟨_,_,h.LV he (hO.symm.trans p1) p2 ?_⟩;rw [p2];exact p3 (λ b=>S b\/b∈D) (λ _ h=>.inl h) (λ _ h=>.inr h)
theorem XZ {H:Array Go.Obj} {S S':Nat->Prop} {t0:Ty} {O:List Nat} {cs:List Value} {z:(Ty.y7 t0).den} (hR:g8 H S (.y7 t0) O cs z) (ch:t0.shared=true) (hD:∀ b∈O,S' b) (hS:∀ b,S b->S' b):g8 H S' (.d0 false t0) [] cs z.2.1:=by
 have h0:∀ O cs x,g8 H S t0 O cs x->O=[]:=λ O cs x h=>g8.M8 ch h;have bO:∀ {O cs l},i8 (g8 H S t0) t0.size O cs l->i8 (g8 H S' t0) t0.size [] cs l:=λ {O cs l} h=>by
  obtain rfl:=i8.M8 h0 h;exact i8.mono (L:=[]) (λ _ h=>h) (λ _ _ _ _ hr=>hr.s4 (λ _ _=>rfl) hS) h
 obtain ⟨n,l,m⟩:=z
 match n,hR with
 | 0,hR =>
  rcases hR with ⟨_,⟨a,c,h1,_⟩,h2⟩|⟨b,off,cap,O',c1,c2,c3,c4,c5,_,_,c8⟩
  ·exact .inl ⟨rfl,⟨a,c,h1,λ h=>by cases h⟩,h2⟩
  ·exact .inr ⟨b,off,cap,[],c1,c2,c3,c4,bO c5,rfl,rfl,hS b c8⟩
 | 1,hR =>
  rcases hR with ⟨_,⟨a,c,h1,_⟩,h2⟩|⟨b,off,cap,O',c1,c2,c3,c4,c5,c6,_⟩
  ·exact .inl ⟨rfl,⟨a,c,h1,λ h=>by cases h⟩,h2⟩
  ·exact .inr ⟨b,off,cap,[],c1,c2,⟨c3.1,λ h=>by cases h⟩,c4,bO c5,rfl,rfl,hD b (by rw [c6]; simp)⟩
 | n+2,⟨b,off,O',c1,c2,c3,c4,c5⟩ =>
  have hl:List.length l*t0.size<=List.length (l++m)*t0.size:=Nat.mul_le_mul_right _ (by rw [List.length_append]; omega);have c6:=(i8.two (λ _ _ _ h=>h.length) h0 c4).1;rw [m0 _ _ _ _ hl] at c6;refine .inr ⟨b,off,_,[],c1,Nat.le_add_right _ _,⟨c2.1,λ h=>by cases h⟩,Nat.le_trans (Nat.add_le_add_left hl off) c3,bO c6,rfl,rfl,?_⟩
  match n,c5 with
  | 0,c5=>exact hD b (by rw [c5.1]; simp)
  | n+1,c5=>exact hS b c5.2.2
theorem RS.SI (h:RS B S ι s a w) {i k:Nat} {u:Ty} {y:u.den} (he:look i s.hp=some (.var u y)) {p:List Step} {t0:Ty} {z:(Ty.y7 t0).den} (hg:j8 u y p=some ⟨.y7 t0,z⟩) (ch:t0.shared=true)
  {r:Sigma Ty.den} (hr:r8 u y p (.y7 t0) ((0,z.2.1,[]):Nat×(List t0.den×List t0.den))=some r) (hk:look k s.fr=some (.at_ i p)) :
  ∃ S' ι',RS B S' ι' { ((s.wQ i).w4 i (.var r.1 r.2)) with fr:=Ex.put k (.val (.d0 false t0) z.2.1) ((s.wQ i).w4 i (.var r.1 r.2)).fr } a w:=by
 have cH:(g9.var u y)≠.K1:=λ h=>by cases h
 obtain ⟨e2,u2,y2,cs,r1,aM,r3,r4,r5⟩:=h.fr k _ hk;rw [he] at r1; cases r1;have r3:j8 u y p=some ⟨u2,y2⟩:=r3;rw [hg] at r3; cases r3;obtain ⟨O,hO,hR,ep,aH,bf,fY,dV⟩:=(h.hs.ob i _ he).see cH h.hs.slt;obtain ⟨O1,O3,b',aA,g1,g2,g3,g4,g5,g6⟩:=focus hR ep aM hg
 obtain ⟨b0,off0,q1,q2⟩:=r4;rw [G8 cH,g3] at q1; cases q1;have kh:∀ b∈O1++O3,b∈ι.own i:=λ b hb=>hO.mem_iff.1 (g1.mem_iff.2 hb);have cu:(O1++O3).Nodup:=(g1.nodup_iff).1 ((hO.nodup_iff).2 (List.nodup_cons.1 aH).2);have bE:=(List.nodup_cons.1 aH).1;have bQ:=h.hs.bl i _ he;have jR:g8 w.heap (λ b=>S b\/b∈O3) (.d0 false t0) [] cs z.2.1:=by
  rw [q2]; exact XZ g4 ch (λ _ hb=>.inr hb) (λ _ hb=>.inl hb)
 have jv:N1 w.heap b' (aA+(Ty.y7 t0).size):=by
  rcases g6 with ⟨rfl,_,g7⟩|⟨_,g7⟩
  ·obtain ⟨arr,T,hl,hn⟩:=dV
   exact ⟨arr,T,hl,Nat.le_trans g7 hn⟩
  ·exact g7
 have kH:g8 w.heap (λ b=>S b\/b∈O3) (.y7 t0) [] (d9 w.heap b' aA (Ty.y7 t0).size) ((0,z.2.1,[]):Nat×(List t0.den×List t0.den)):=by
  have:=jR; rw [q2] at this; exact this
 obtain ⟨O',k1,k2,k3⟩:=AQ g2 hg g3 ep bf (List.nodup_append.1 cu).1 (λ hc=>bE (kh _ (List.mem_append_left _ hc))) (λ c hc=>by
  obtain ⟨q1,q2,q3⟩:=bQ c (by simp [l5,kh c (List.mem_append_left _ hc)]);exact ⟨q1,q3⟩) (bQ _ (show (ι.root i).1∈(ι.root i).1::ι.own i from List.mem_cons_self)).1 h.hs.slt (λ _ hb=>.inl hb) (U9.refl jv) kH hr
 have aW:r.1.size=u.size:=F0 k3;have hD:=h.LV he (t:=r.1) (z:=r.2) (O1:=O') (D:=O3) ((hO.symm.trans g1).trans (by
  refine List.Perm.append_right _ ?_;rw [List.append_nil] at k1; exact k1.symm)) aW k2
 refine ⟨_,_,⟨hD.hs,hD.dfr,hD.sz,λ t v hv=>?_⟩⟩;simp only [n9] at hv;by_cases e:t=k
 ·subst e
  rw [if_pos rfl] at hv; cases hv;exact ⟨cs,r5,jR⟩
 ·rw [if_neg e] at hv
  exact hD.fr t v hv
theorem RS.vR (h:RS B S ι s a w) {i:Nat} (hp:pinned i=false) (t:Ty):∃ S' ι',RS B S' ι' (s.vR i t) a w:=by
 have hl:∀ {j:Nat} {e:g9},look j (del i s.hp)=some e->look j s.hp=some e/\j≠i:=by
  intro j e hj;rw [J9] at hj;split at hj
  ·cases hj
  ·rename_i h9; exact ⟨hj,h9⟩
 have gk:∀ b,S b->(S b\/M1 ι s.hp [i] b):=λ _ h=>.inl h;refine ⟨λ b=>S b\/M1 ι s.hp [i] b,ι,⟨h.hs.os,h.hs.tape,h.hs.out,h.hs.size,h.hs.frame,?_,λ b hb=>.inl (h.hs.s0 b hb),?_,?_,?_,?_,?_⟩,h.dfr,h.sz,?_⟩
 ·rintro b (hb|⟨j,e,hj,he,hb⟩)
  ·exact h.hs.slt b hb
  ·exact (h.hs.bl j e he b hb).2.2
 ·rintro b (hb|⟨j,e,hj,he,hb⟩)
  ·exact h.hs.s1 b hb
  ·rcases (h.hs.bl j e he b hb).2.1 with q|q
   ·exact .inr (.inl q)
   ·exact .inr (.inr q)
 ·intro j e hj
  exact (h.hs.ob j e (hl hj).1).s4 (λ _ _=>rfl) gk
 ·intro j e hj b hb
  obtain ⟨r1,r2,r3⟩:=h.hs.bl j e (hl hj).1 b hb;refine ⟨λ hs=>hs.elim r1 ?_,r2,r3⟩;rintro ⟨k,ek,hk,he,kV⟩;rw [List.mem_singleton] at hk;subst hk;exact h.hs.dj j k e ek (hl hj).1 he (hl hj).2 b hb kV
 ·intro j k ej ek hj hk
  exact h.hs.dj j k ej ek (hl hj).1 (hl hk).1
 ·intro q hq
  obtain ⟨k0,⟨e',k1⟩,k2⟩:=h.hs.pin q hq;refine ⟨k0,⟨e',?_⟩,k2⟩;show look q.1 (del i s.hp)=_;rw [J9,if_neg (by rintro e1; rw [e1,hp] at k0; cases k0)]; exact k1
 ·intro t9 v hv
  simp only [St.vR,N5,Option.map_eq_some_iff] at hv;obtain ⟨v0,eZ,rfl⟩:=hv;refine VX.map (λ _ _=>rfl) (λ _ h=>.inl h) (λ v vs hr hm dy=>?_) (h.fr t9 v0 eZ);unfold AV.Kz;cases bZ:v.i7 i with
  | false =>
   have bH:∀ j,v.i7 j=true->j≠i:=by rintro j hj rfl; rw [bZ] at hj; cases hj
   have bO:VX w.heap (λ b=>S b\/M1 ι s.hp [i] b) ι s.hp v vs:=VX.grow (λ _ _=>rfl) (λ _ h=>.inl h) h.hs.slt h.hs.ob dy;exact VX.other (λ j hj=>by show look j (del i s.hp)=_; rw [J9,if_neg (bH j hj)]) (λ j hj=>E2.refl ι j) bO
  | true =>
   obtain ⟨x1,rfl⟩:=VX.one hr dy;have lE:∀ b,M1 ι s.hp v.G6 b->(S b\/M1 ι s.hp [i] b):=by
    intro b hb;obtain ⟨j,e,hj,he,iX⟩:=hb;have dI:j=i:=by
     cases v<;>simp only [AV.ref] at hr<;>try cases hr
     all_goals (simp only [AV.G6,List.mem_singleton] at hj; simp only [AV.i7] at bZ; exact hj.trans (Nat.eq_of_beq_eq_true bZ).symm)
    subst dI;exact .inr ⟨j,e,by simp,he,iX⟩
   simp only
   split
   ·rename_i x hx
    obtain ⟨cs,e1,e2⟩:=LL h.hs hx dy gk lE;exact ⟨cs,by rw [e1],e2⟩
   ·split
    ·split
     ·rename_i x hx
      obtain ⟨b,off,e1,e2,e3,e4⟩:=Ho h.hs (show AV.asR s t (.ptr _ _)=some x from hx) dy gk lE;exact ⟨b,off,by rw [e1],e2,e3,e4⟩
     ·exact ⟨_,rfl⟩
    ·exact ⟨_,rfl⟩
theorem RS.wJ (hM:∀ b,¬ B.M b):∀ {l:List Nat} {S:Nat->Prop} {ι:Ix} {s:St} {a:Act} {w:World},RS B S ι s a w->∃ S' ι',RS B S' ι' (s.wJ l) a w
 | [],S,ι,s,a,w,h=>⟨S,ι,h⟩
 | i::l,S,ι,s,a,w,h=>by
  unfold St.wJ
  split
  ·rename_i u y aS hp
   obtain ⟨S2,ι2,h2⟩:=h.vR hp (.d0 false u.sh);exact RS.wJ hM h2
  ·exact RS.wJ hM h
theorem Zi (hM:E.ps.any PK.j9=false->∀ b,¬ B.M b) (h:RS B S ι s a w) (o:Oper):∃ S' ι',RS B S' ι' ((zP E o s).getD s) a w:=by
 cases hd:zP E o s with
 | none=>exact ⟨S,ι,h⟩
 | some s2 =>
  show ∃ S' ι',RS B S' ι' s2 a w;unfold zP at hd;split at hd
  ·rename_i c hp ho
   split at hd
   ·split at hd
    ·split at hd
     ·rename_i i u y aS
      split at hd
      ·cases hd
      ·split at hd
       ·rename_i z hz
        cases hd;exact h.La aS hz
       ·cases hd
     ·cases hd
    ·split at hd
     ·rename_i lZ _
      cases hd;exact h.vR lZ _
     ·cases hd
    ·split at hd
     ·cases hd
     ·cases hd
      exact RS.wJ (hM hp) h
    ·cases hd
   ·cases hd
  ·rename_i hp ho
   split at hd
   ·split at hd
    ·rename_i lZ
     cases hd;exact h.vR lZ _
    ·cases hd
   ·cases hd
  ·cases hd
theorem X0 (hM:E.ps.any PK.j9=false->∀ b,¬ B.M b):∀ {l:List (Nat×Option Ty)} {S:Nat->Prop} {ι:Ix} {s:St} {a:Act} {w:World},RS B S ι s a w->∃ S' ι',RS B S' ι' (zh E l s) a w
 | [],S,ι,s,a,w,h=>⟨S,ι,h⟩
 | (m,none)::l,S,ι,s,a,w,h=>X0 hM (l:=l) h
 | (m,some t)::l,S,ι,s,a,w,h=>by
  have key:∃ S' ι',RS B S' ι' (EJ E m t s) a w:=by
   unfold EJ
   split
   ·rename_i i hp _
    split
    ·rename_i u y aS
     split
     ·exact ⟨S,ι,h⟩
     ·split
      ·rename_i z hz
       exact h.La aS hz
      ·exact ⟨S,ι,h⟩
    ·exact ⟨S,ι,h⟩
   ·rename_i i p hm
    split
    case h_2=>exact ⟨S,ι,h⟩
    unfold KN
    split
    ·rename_i u y aS
     split
     ·rename_i t0 z hg
      split
      ·rename_i r ch hr
       have hk:look m s.fr=some (.at_ i p):=by
        unfold St.get at hm;cases hl:look m s.fr with
        | none=>rw [hl] at hm; cases hm
        | some v=>rw [hl] at hm; exact congrArg some hm
       exact h.SI aS hg ch hr hk
      ·exact ⟨S,ι,h⟩
     ·exact ⟨S,ι,h⟩
    ·exact ⟨S,ι,h⟩
   ·rename_i hm
    split
    ·rename_i u
     have hg:=h.get m;rw [hm] at hg;have hv:a.tmps.getD m (B.gd m)=Value.slice none 0 0:=by
      have:[a.tmps.getD m (B.gd m)]=[Value.slice none 0 0]:=hg;simpa using this
     exact ⟨S,ι,h.slot (t:=m) (v:=.val (.d0 false u) ([]:List u.den)) ⟨[.slice none 0 0],by rw [hv]; rfl,.inl ⟨rfl,⟨none,0,rfl,λ _=>rfl⟩,rfl⟩⟩⟩
    ·exact ⟨S,ι,h⟩
   ·exact ⟨S,ι,h⟩
  obtain ⟨S',ι',h'⟩:=key;exact X0 hM (l:=l) h'
theorem b6W (h:RS B S ι s a w) (o:Oper):∃ ι',RS B S ι' ((Cn E o s).getD s) a w:=by
 cases hd:Cn E o s with
 | none=>exact ⟨ι,h⟩
 | some s' =>
  show ∃ ι',RS B S ι' s' a w;unfold Cn at hd;split at hd
  ·split at hd
   ·rename_i g tx ys hc ha
    split at hd
    ·rename_i t ks rs pre fn out nw i st p nN hx
     split at hd
     ·rename_i u y aS
      split at hd
      ·rename_i v l r hg aI
       split at hd
       ·rename_i hv
        subst hv;split at hd
        ·rename_i bY
         cases hd;simp only [Bool.and_eq_true] at bY;have aS:look i s.hp=some (.var u y):=aS;have de:=h.fr tx _ hx;obtain ⟨e1,u1,y1,cs,r1,aM,r3,cE,r5⟩:=de;rw [aS] at r1; cases r1;have hg:j8 (g9.var u y).ty (g9.var u y).x (st::p)=some ⟨.d0 true t,l⟩:=hg;rw [hg] at r3; cases r3;obtain ⟨Op,m1,mn,kg⟩:=F8 h.hs aS aM hg cE;obtain ⟨b,off,k1,k2⟩:=id cE;have cH:(g9.var u y)≠.K1:=by intro h; cases h
         have dL:b<w.heap.size:=by
          obtain ⟨b',aA,O2,q1,q2,q3,q4,q5,q6⟩:=(h.hs.ob i _ aS).part cH h.hs.slt aM hg;rw [q1] at k1; cases k1;rcases Nat.lt_or_ge b w.heap.size with h9|h9
          ·exact h9
          ·have q5:off+1<=(u6 w.heap b).length:=q5
           simp only [u6,Array.getElem?_eq_none h9,List.length_nil] at q5;omega
         have hl:Loc w.heap ι i (.var u y) (st::p)=some (b,off):=vy k1 dL;have gW:g8 w.heap S (.d0 true t) Op (d9 w.heap b off (Ty.d0 true t).size) l:=by
          rw [k2,l4 (F3 dL)] at kg;exact kg
         have cF:∃ c0,d9 w.heap b off (Ty.d0 true t).size=[c0]/\Cc c0=true:=by
          rcases gW with ⟨_,⟨a1,c1,e1,_⟩,_⟩|⟨b1,o1,cap1,O1,e1,_⟩
          ·exact ⟨_,e1,rfl⟩
          ·exact ⟨_,e1,rfl⟩
         obtain ⟨c0,eM,nC⟩:=cF;obtain ⟨ι',⟨O,rfl,hO⟩,h0⟩:=h.CI aS aM hg hl (u':=.hole t) (z:=([]:List t.den)) (cs:=[c0]) (O2:=[]) (λ H' _ _=>⟨rfl,c0,rfl,nC⟩) rfl List.nodup_nil (by simp) aI (by intro h; cases h);have hw:w.setRow b (over (u6 w.heap b) off [c0]).toArray=w:=by
          obtain ⟨O2,q1,q2,q3,m4,m5,arr,T,⟨fz,e1,_⟩,hn⟩:=M2 (J8 hl) (h.hs.ob i _ aS) h.hs.slt aM hg hl;have hb:u6 w.heap b=arr.toList:=by simp only [u6,e1]
          have:over (u6 w.heap b) off [c0]=u6 w.heap b:=by
           rw [<- eM]; exact over_self m4
          rw [this,hb]; exact setRow_self w b arr T fz (by simpa using e1)
         rw [hw] at h0;have dA:∀ c∈Op,c∈l5 ι i (.var u y):=λ c hc=>H8 (m1 c hc);have hF:E8 B S (ι.C3 i O) ((s.kill i (g9.var u y).kd (st::p)).w4 i (.var r.1 r.2)).hp w Op:=by
          refine ⟨mn,λ c hc=>?_⟩;obtain ⟨z1,z2,z3⟩:=h.hs.bl i _ aS c (dA c hc);refine ⟨z1,z2,z3,λ j ej r2 r3=>?_⟩;simp only [St.w4,n9] at r2;by_cases hj:j=i
          ·subst hj
           rw [if_pos rfl] at r2; cases r2;have r3:c∈(ι.root j).1::(ι.C3 j O).own j:=r3;simp only [Ix.C3,if_true] at r3;refine (List.mem_cons.1 r3).elim (λ g3=>?_) (λ g3=>?_)
           ·obtain ⟨_,_,aH⟩:=h.hs.ob j _ aS
            exact (List.nodup_cons.1 aH).1 (g3▸m1 c hc)
           ·rcases (hO c g3).2 with h9|h9
            ·cases h9
            ·exact h9 Op gW hc
          ·rw [if_neg hj] at r2
           rw [(V5 hj O).l5] at r3;exact h.hs.dj i j _ ej aS r2 (Ne.symm hj) c (dA c hc) r3
         have h1:=h0.hold bY.2 gW hF;refine ⟨_,h1.slot (t:=tx) (v:=.at_ (1600000+tx) []) ?_⟩;have e9:[a.tmps.getD tx (B.gd tx)]=[o8 (.d0 true t) (d9 w.heap b off (Ty.d0 true t).size)]:=by
          rw [r5,k2,l4 (F3 dL)]
         rw [e9];exact zd gW.length
        ·cases hd
       ·cases hd
      ·cases hd
     ·cases hd
    ·cases hd
   ·cases hd
  ·cases hd
theorem RS.TM (h:RS B S ι s a w) {i:Nat} {u t:Ty} {y:u.den} {z:t.den} (he:look i s.hp=some (.own u y)) (rL:∀ {O:List Nat} {cs:List Value},g8 w.heap S u O cs y->g8 w.heap S t O cs z) (du:u.agg=t.agg) (aW:u.size=t.size) :
  RS B S ι { fr:=mapA (AV.map λ v=>match v.i7 i with|false=>v|true=>match v with|.at_ j []=>.at_ j []|_=>.any) s.fr,hp:=Ex.put i (.own t z) s.hp } a w:=by
 obtain ⟨⟨O,hO,hR⟩,aH⟩:=h.hs.ob i _ he;have kV:∀ j ej,look j (Ex.put i (.own t z) s.hp)=some ej->∃ e0,look j s.hp=some e0/\l5 ι j ej=l5 ι j e0:=by
  intro j ej hj;rw [n9] at hj;by_cases e1:j=i
  ·subst e1; rw [if_pos rfl] at hj; cases hj; exact ⟨_,he,rfl⟩
  ·rw [if_neg e1] at hj; exact ⟨_,hj,rfl⟩
 refine ⟨⟨h.hs.os,h.hs.tape,h.hs.out,h.hs.size,h.hs.frame,h.hs.slt,h.hs.s0,h.hs.s1,?_,?_,?_,?_⟩,h.dfr,h.sz,?_⟩
 ·intro j ej hj
  rw [n9] at hj;by_cases e1:j=i
  ·subst e1; rw [if_pos rfl] at hj; cases hj
   exact ⟨⟨O,hO,rL hR⟩,aH⟩
  ·rw [if_neg e1] at hj; exact h.hs.ob j ej hj
 ·intro j ej hj b hb
  obtain ⟨e0,h1,h2⟩:=kV j ej hj;rw [h2] at hb;exact h.hs.bl j e0 h1 b hb
 ·intro j k ej ek hj hk fw c hc
  obtain ⟨e0,h1,h2⟩:=kV j ej hj;obtain ⟨e3,h4,h5⟩:=kV k ek hk;rw [h2] at hc;rw [h5];exact h.hs.dj j k e0 e3 h1 h4 fw c hc
 ·intro q hq
  obtain ⟨k0,⟨e',k1⟩,k2,k3⟩:=h.hs.pin q hq;refine ⟨k0,?_,k2,k3⟩;rw [n9];by_cases e1:q.1=i
  ·exact ⟨_,by rw [if_pos e1]⟩
  ·exact ⟨e',by rw [if_neg e1]; exact k1⟩
 ·intro t9 v hv
  simp only [N5,Option.map_eq_some_iff] at hv;obtain ⟨v0,eZ,rfl⟩:=hv;refine VX.map (λ _ _=>rfl) (λ _ h=>h) (λ v vs hr hm dy=>?_) (h.fr t9 v0 eZ);cases bZ:v.i7 i with
  | false =>
   have bH:∀ j,v.i7 j=true->j≠i:=by rintro j hj rfl; rw [bZ] at hj; cases hj
   exact VX.other (λ j hj=>by rw [n9,if_neg (bH j hj)]) (λ j hj=>⟨rfl,rfl,rfl⟩) dy
  | true =>
   have cC:=VX.one hr dy;simp only
   split
   ·rename_i j
    have dI:i=j:=Nat.eq_of_beq_eq_true bZ;subst dI;obtain ⟨e,u',y',cs,k1,k2,k3,⟨b,off,k4,k5⟩,k6⟩:=dy;rw [he] at k1; cases k1;simp only [j8,Option.some.injEq,Sigma.mk.injEq] at k3;obtain ⟨rfl,_⟩:=k3;refine ⟨.own t z,t,z,cs,by rw [n9,if_pos rfl],M7,by simp only [j8]; rfl,⟨b,off,?_,?_⟩,?_⟩
    ·simp only [Place,VR,VH,x7] at k4 ⊢
     exact k4
    ·rw [<- aW]; exact k5
    ·rw [k6]; exact congrArg (λ v=>[v]) (AP du cs)
   ·exact cC
theorem YX (h:RS B S ι s a w) (o:Oper):RS B S ι (BS E o s) a w:=by
 unfold BS
 split
 ·split
  ·split
   ·rename_i i _
    split
    ·rename_i t z aS
     split
     ·rename_i hc
      simp only [Bool.and_eq_true] at hc
      split
      ·exact h
      ·rename_i ch
       exact h.TM (t:=.d0 true t) (z:=z.2.1) aS (λ hr=>YY ch (Nat.le_of_ble_eq_true hc.1) (Nat.le_of_ble_eq_true hc.2) hr) rfl rfl
     ·exact h
    ·exact h
   ·exact h
  ·exact h
 ·exact h
theorem Zc (hM:E.ps.any PK.j9=false->∀ b,¬ B.M b) (h0:RS B S ι s a w) (o:Oper):∃ S' ι',RS B S' ι' (BV E o s) a w:=by
 have h:=YX (E:=E) h0 o;unfold BV KU;generalize BS E o s=s at h;obtain ⟨S',ι',h1⟩:=Zi hM h o;obtain ⟨ι2,h2⟩:=b6W (E:=E) h1 o;exact ⟨S',ι2,h2⟩
theorem b6S (hM:E.ps.any PK.j9=false->∀ b,¬ B.M b) (h:RS B S ι s a w) (ops:Array Oper):∃ S' ι',RS B S' ι' (FA E ops s) a w:=by
 unfold FA
 split
 ·rename_i hp _
  split
  ·rename_i lZ
   exact h.vR lZ _
  ·exact ⟨S,ι,h⟩
 ·exact ⟨S,ι,h⟩
theorem QR (hM:E.ps.any PK.j9=false->∀ b,¬ B.M b) (h:RS B S ι s a w) (ops:Array Oper):∃ S' ι',RS B S' ι' (BW E ops s) a w:=by
 unfold BW
 split
 ·exact X0 hM h
 ·exact ⟨S,ι,h⟩
theorem Zd (hM:E.ps.any PK.j9=false->∀ b,¬ B.M b) (h:RS B S ι s a w) (ops:Array Oper):∃ S' ι',RS B S' ι' (yK E ops s) a w:=by
 obtain ⟨S',ι',h'⟩:=QR (E:=E) hM h ops;exact b6S hM h' ops
theorem V0 (hE:C4 E B) (hn:B.n=E.nt) (hM:E.ps.any PK.j9=false->∀ b,¬ B.M b) {ops:Array Oper} {k:St->Tree (E.rs++E0 E.ps)} {L:Code->List Item->St->Prop} {Rt:DL (E.rs++E0 E.ps)->Prop} {Q:Exit->Act->World->Prop} (hk:∀ S' ι' s' a' w',RS B S' ι' s' a' w'->(k s').holds L Rt->Q .normal a' w') :
  ∀ {l:List Oper} {m:Nat} {S:Nat->Prop} {ι:Ix} {s:St} {a:Act} {w:World},RS B S ι s a w->(vJ E ops m l s k).holds L Rt->wpList E.P ops Q (l.drop m) a w
 | [],m,S,ι,s,a,w,h,ht=>by
  rw [List.drop_nil];cases m<;>exact hk S ι s a w h ht
 | o::l,m+1,S,ι,s,a,w,h,ht=>V0 hE hn hM hk (l:=l) (m:=m) h ht
 | o::l,0,S0,ι0,s0,a,w,h0,ht=>by
  show wpList E.P ops Q (o::l) a w;unfold vJ at ht;obtain ⟨S,ι,h⟩:=Zc hM h0 o;dsimp only at ht;generalize BV E o s0=s at h ht;split at ht
  ·rename_i p s' n hf
   unfold KK at hf;split at hf
   ·rename_i d c hg hd gA ho
    split at hf
    ·rename_i x y T U hc ha hT
     split at hf
     ·split at hf
      ·cases hf
      ·rw [<- hn,hd] at gA
       obtain ⟨v',w',g1,g2⟩:=Sd hE hn ho hc ha hT gA (ops:=ops) (Q:=Q) h hf ht.1;unfold wpList;simp only [Region.wanted,hg,if_true];refine .inl ?_;unfold Oper.wp;rw [g1];show wpList E.P ops Q l (a.put o.dst v') w';rw [hd];exact g2 (λ S' ι' a' w'' h'=>V0 hE hn hM hk (l:=l) (m:=n) h' (ht.2 ht.1))
     ·cases hf
    ·cases hf
   ·cases hf
  ·split at ht
   ·rename_i p s' n hf
    unfold KL at hf;split at hf
    ·rename_i d c hg hd gA ho
     split at hf
     ·rename_i g x ys hc ha
      split at hf
      ·split at hf
       ·cases hf
       ·rw [<- hn,hd] at gA
        unfold wpList;simp only [Region.wanted,hg,if_true];refine .inl ((RQ hE hn ho hc ha gA (ops:=ops) (Q:=Q) h hf ht.1 (λ S' ι' a' w'' h'=>V0 hE hn hM hk (l:=l) (m:=n) h' (ht.2 ht.1))).wp (λ v' w' hw=>?_));rw [hd]; exact hw
      ·cases hf
     ·cases hf
    ·cases hf
   ·split at ht
    ·rename_i p s' hf
     obtain ⟨hg,aP⟩:=ZG hE hn h hf ht.1;unfold wpList;simp only [Region.wanted,hg,if_true];refine .inl (aP.wp (λ v' w' hw=>?_));obtain ⟨ι',h'⟩:=hw;exact V0 hE hn hM hk (l:=l) (m:=0) h' (ht.2 ht.1)
    ·split at ht
     ·rename_i p s' hf
      obtain ⟨hg,aP⟩:=b6Z hE hn hM h hf ht.1;unfold wpList;simp only [Region.wanted,hg,if_true];exact .inl (aP _ Q (λ S' ι' a' w' h'=>V0 hE hn hM hk (l:=l) (m:=0) h' (ht.2 ht.1)))
     ·split at ht
      ·rename_i p v1 v2 hg hd hb
       rw [<- hn] at hd;obtain ⟨val,aP,hv⟩:=WN hE h hb;unfold wpList;simp only [Region.wanted,hg,if_true];refine .inl ?_;unfold Oper.wp;rw [aP];rcases hv with ⟨hp,hv⟩|hv
       ·exact V0 hE hn hM hk (l:=l) (m:=0) (h.put hd hv) (ht.1 hp)
       ·exact V0 hE hn hM hk (l:=l) (m:=0) (h.put hd hv) ht.2
      ·have:=JZ hE hn h (ops:=ops) o (k:=λ s'=>vJ E ops 0 l s' k) ht (next:=wpList E.P ops Q l) (Q:=Q) (λ S' ι' s' a' w' h1 h2=>V0 hE hn hM hk (l:=l) (m:=0) h1 h2)
       unfold wpList
       split
       ·rename_i hw; rw [if_pos hw] at this; exact .inl this
       ·rename_i hw; rw [if_neg hw] at this; exact this
end
end Go.Ex
namespace Go.Ex
section
variable {E:Env} {ops:Array Oper}
theorem zB {α:Type _} {Y:α->Prop} {a:α}:Y a↔∃ (p:Prop) (s:α),some (True,a)=some (p,s)/\p/\Y s:=by
 constructor
 ·intro h; exact ⟨_,_,rfl,trivial,h⟩
 ·rintro ⟨p,s,h,_,h2⟩; cases h; exact h2
theorem Gz {o:Oper} {s:St} {k:St->Tree (E.rs++E0 E.ps)} {L:Code->List Item->St->Prop} {R:DL (E.rs++E0 E.ps)->Prop}:(yd E o s k).holds L R↔∃ p s',W4 E o s=some (p,s')/\p/\(k s').holds L R:=by
 unfold yd W4;cases hd:G1 E.nt o.dst with
 | false=>simp [Tree.holds]
 | true =>
  simp only;have other:∀ r:OR,(match r with|.fail why=>Tree.stuck why|.ok v s'=>k (s'.put o.dst v)|.E9 p v s'=>Tree.f7 p (k (s'.put o.dst v))).holds L R ↔
    ∃ p s',(match r.get with|none=>none|some (p,v,s')=>some (p,s'.put o.dst v))=some (p,s')/\p/\(k s').holds L R:=by
   intro r;cases r with
   | fail why=>simp [Tree.holds,OR.get]
   | ok v s'=>exact zB (Y:=λ s'=>(k s').holds L R)
   | E9 p v s' =>
    simp only [Tree.holds,OR.get,Option.some.injEq,Prod.mk.injEq];constructor
    ·rintro ⟨h1,h2⟩; exact ⟨_,_,⟨rfl,rfl⟩,h1,h2 h1⟩
    ·rintro ⟨_,_,⟨rfl,rfl⟩,h1,h2⟩; exact ⟨h1,λ _=>h2⟩
  cases ho:o.op with
  | pick c a b =>
   simp only;cases hc:s.ev c with
   | val t x =>
    cases t with
    | bool =>
     cases x with
     | true=>exact zB (Y:=λ s'=>(k s').holds L R)
     | false=>exact zB (Y:=λ s'=>(k s').holds L R)
    | _=>simp [Tree.holds]
   | _=>simp [Tree.holds]
  | _=>exact other _
theorem AW {o:Oper} {s:St} {k:St->Tree (E.rs++E0 E.ps)} {L:Code->List Item->St->Prop} {R:DL (E.rs++E0 E.ps)->Prop}:(xA E ops o s k).holds L R↔∃ p s',G5 E ops o s=some (p,s')/\p/\(k s').holds L R:=by
 unfold xA G5;cases hg:o.guard with
 | none=>exact Gz
 | some jw =>
  obtain ⟨j,want⟩:=jw;simp only;cases hs:zz ops j with
  | none=>simp [Tree.holds]
  | some g =>
   simp only;cases hv:s.ev (.tmp g) with
   | raw v =>
    cases v with
    | tuple vs =>
     simp only;cases hd:G1 E.nt o.dst with
     | false=>simp [Tree.holds]
     | true=>exact zB (Y:=λ s'=>(k s').holds L R)
    | _=>simp [Tree.holds]
   | val t x =>
    cases t with
    | bool =>
     simp only;cases hd:G1 E.nt o.dst with
     | false=>simp [Tree.holds]
     | true =>
      simp only;cases x with
      | true =>
       cases want with
       | true=>exact Gz
       | false=>exact zB (Y:=λ s'=>(k s').holds L R)
      | false =>
       cases want with
       | true=>exact zB (Y:=λ s'=>(k s').holds L R)
       | false=>exact Gz
    | _=>simp [Tree.holds]
   | _=>simp [Tree.holds]
def wz (ops:Array Oper) (x:Oper) (sx:St) (Tx:List Nat) (y:Oper) (Ty:List Nat):Prop :=
 (∀ m∈looks ops y,∀ i∈Tx,(J3 y (sx.get m)).i7 i=false)/\(∀ m∈looks ops x,∀ i∈Ty,(J3 x (sx.get m)).i7 i=false)/\(∀ i∈Tx,i % 1000≠(y.dst.getD 0) % 1000)
theorem Ha {e:Met} {y:Oper} {Ty:List Nat} (h:Ak ops e y Ty=true):wz ops e.o e.s e.T y Ty:=by
 simp only [Ak,Bool.and_eq_true] at h;obtain ⟨h1,h2⟩:=h;refine ⟨?_,?_,?_⟩
 ·intro m hm i hi
  split at h1
  ·rename_i he; rw [he] at hi; cases hi
  ·simp only [Bool.and_eq_true,List.all_eq_true,Bool.not_eq_true'] at h1
   exact h1.1 m hm i hi
 ·intro m hm i hi
  split at h2
  ·cases hi
  ·simp only [List.all_eq_true,Bool.not_eq_true'] at h2
   exact h2 m hm i hi
 ·intro i hi jq
  split at h1
  ·rename_i he; rw [he] at hi; cases hi
  ·simp only [Bool.and_eq_true,List.all_eq_true,Bool.not_eq_true'] at h1
   have:=h1.2 i hi;rw [jq] at this;simp at this
def Z8 (E:Env) (ops:Array Oper) (M:Nat->Nat):List (Nat×St)->List Nat->St->St->Prop
 | _,[],s,s'=>s=s'
 | acc,i::l,s,s'=>∃ o,ops[i]?=some o/\(∀ e∈acc,(M i).testBit e.1=true\/∃ x,ops[e.1]?=some x/\wz ops x e.2 (j9 E x e.2) o (j9 E o s)) /\
   ∃ p s1,G5 E ops o s=some (p,s1)/\p/\Z8 E ops M ((i,s)::acc) l s1 s'
def Ah (E:Env) (ops:Array Oper) (q:vi):Prop:=∃ oa c,ops[q.k]?=some oa/\oa.guard=none/\oa.dst=some q.d/\G1 E.nt (some q.d)=true/\oa.op=.call c/\c.callee=.builtin .append/\c.args.toList=[q.x,q.y]/\c.argTypes.toList=[q.T,q.U]
theorem Vk {o:Oper} {s:St} {i:Nat} {q:vi} (h:Fo E o s i=some q) (ho:ops[i]?=some o):Ah E ops q/\q.k=i:=by
 unfold Fo at h;split at h
 ·rename_i d c hg hd gA cy
  split at h
  ·rename_i x y T U hc ha hT
   split at h
   ·split at h
    ·cases h
    ·cases h
     exact ⟨⟨o,c,ho,hg,hd,by rw [<- hd]; exact gA,cy,hc,ha,hT⟩,rfl⟩
   ·cases h
  ·cases h
 ·cases h
def Gu (E:Env) (ops:Array Oper) (M:List Nat) (q:vi) (s1:St) (k:St->Tree (E.rs++E0 E.ps)) (L:Code->List Item->St->Prop) (R:DL (E.rs++E0 E.ps)->Prop):Prop :=
 ∃ o p s2,ops[ops.size - 1]?=some o/\yG E ops M q (ops.size - 1) o s1=some (p,s2)/\p/\(k s2).holds L R
theorem Bh {o:Oper} {l:List Oper} {n:Nat} (hl:ops.toList.drop n=o::l):ops[n]?=some o/\ops.toList.drop (n+1)=l/\ops.size=n+1+l.length:=by
 have h1:(ops.toList.drop n)[0]?=some o:=by rw [hl]; rfl
 have h2:(ops.toList.drop n).length=(o::l).length:=by rw [hl]
 simp only [List.length_drop,List.length_cons,Array.length_toList] at h2;refine ⟨by simpa using h1,?_,by omega⟩;rw [<- List.drop_drop,hl]; rfl
theorem Pm {M:List Nat} {q:vi} {k:St->Tree (E.rs++E0 E.ps)} {L:Code->List Item->St->Prop} {R:DL (E.rs++E0 E.ps)->Prop}:∀ {l:List Oper} {n:Nat} {s:St} {acc:List Met} {bI:List (Nat×St)},ops.toList.drop n=l ->
  (∀ e∈bI,∃ m∈acc,m.i=e.1/\ops[e.1]?=some m.o/\m.s=e.2/\m.T=j9 E m.o e.2)->(zN E ops M q n l s acc k).holds L R->∃ s',Z8 E ops (λ i=>M.getD i 0) bI (List.range' n (l.length - 1)) s s'/\Gu E ops M q s' k L R
 | [],n,s,acc,bI,_,_,h=>h.elim
 | [o],n,s,acc,bI,hl,ha,h=>by
  obtain ⟨h1,h2,h3⟩:=Bh hl;simp only [zN] at h;split at h
  ·rename_i p s2 hf
   have e:ops.size - 1=n:=by simp at h3; omega
   exact ⟨s,rfl,o,p,s2,by rw [e]; exact h1,by rw [e]; exact hf,h.1,h.2 h.1⟩
  ·exact h.elim
 | o::o2::l,n,s,acc,bI,hl,ha,h=>by
  obtain ⟨ho,ew,_⟩:=Bh hl;simp only [zN] at h;split at h
  ·exact h.elim
  ·rename_i bF
   obtain ⟨p,s1,h1,h2,h3⟩:=AW.1 h;obtain ⟨s',k1,k2⟩:=Pm (bI:=(n,s)::bI) ew (λ e he=>by
    rcases List.mem_cons.1 he with rfl|he
    ·exact ⟨_,List.mem_cons_self ..,rfl,ho,rfl,rfl⟩
    ·obtain ⟨m,hm,r⟩:=ha e he; exact ⟨m,List.mem_cons_of_mem _ hm,r⟩) h3
   refine ⟨s',⟨o,ho,λ e he=>?_,p,s1,h1,h2,k1⟩,k2⟩;obtain ⟨m,hm,m1,m2,m3,m4⟩:=ha e he;have:=(List.all_eq_true.1 bF) m hm;simp only [Bool.or_eq_true] at this;rcases this with this|this
   ·exact .inl (by rw [<- m1]; exact this)
   ·have hp:=Ha this
    rw [m3,m4] at hp;exact .inr ⟨m.o,m2,hp⟩
theorem Pn {M:List Nat} {k:St->Tree (E.rs++E0 E.ps)} {L:Code->List Item->St->Prop} {R:DL (E.rs++E0 E.ps)->Prop}:∀ {l:List Oper} {n:Nat} {s:St} {acc:List Met} {bI:List (Nat×St)},ops.toList.drop n=l ->
  (∀ e∈bI,∃ m∈acc,m.i=e.1/\ops[e.1]?=some m.o/\m.s=e.2/\m.T=j9 E m.o e.2)->(BX E ops M n l s acc k).holds L R ->
  (∃ s',Z8 E ops (λ i=>M.getD i 0) bI (List.range' n l.length) s s'/\(k s').holds L R) \/
  ∃ q s',n<=q.k/\Ah E ops q/\Z8 E ops (λ i=>M.getD i 0) bI ((List.range' n (l.length - 1)).filter (λ j=>!(j == q.k))) s s'/\Gu E ops M q s' k L R
 | [],n,s,acc,bI,_,_,h=>.inl ⟨s,rfl,h⟩
 | o::l,n,s,acc,bI,hl,ha,h=>by
  obtain ⟨ho,ew,_⟩:=Bh hl;simp only [BX] at h;split at h
  ·rename_i q hq
   obtain ⟨a1,a2⟩:=Vk hq ho;obtain ⟨s',k1,k2⟩:=Pm ew ha h;refine .inr ⟨q,s',by omega,a1,?_,k2⟩;cases l with
   | nil =>
    simp only [List.length_nil,Nat.zero_sub,List.range'_zero] at k1;simpa using k1
   | cons o2 l =>
    simp only [List.length_cons,Nat.add_sub_cancel] at k1 ⊢;rw [List.range'_succ,List.filter_cons];simp only [a2,beq_self_eq_true,Bool.not_true,Bool.false_eq_true,if_false];rw [List.filter_eq_self.2 (λ j hj=>by have:=(List.mem_range'_1.1 hj).1; simp; omega)];exact k1
  ·split at h
   ·exact h.elim
   ·rename_i bF
    obtain ⟨p,s1,h1,h2,h3⟩:=AW.1 h;have nb:∀ e∈bI,(M.getD n 0).testBit e.1=true\/∃ x,ops[e.1]?=some x/\wz ops x e.2 (j9 E x e.2) o (j9 E o s):=by
     intro e he;obtain ⟨m,hm,m1,m2,m3,m4⟩:=ha e he;have:=(List.all_eq_true.1 bF) m hm;simp only [Bool.or_eq_true] at this;rcases this with this|this
     ·exact .inl (by rw [<- m1]; exact this)
     ·have hp:=Ha this
      rw [m3,m4] at hp;exact .inr ⟨m.o,m2,hp⟩
    rcases Pn (bI:=(n,s)::bI) ew (λ e he=>by
     rcases List.mem_cons.1 he with rfl|he
     ·exact ⟨_,List.mem_cons_self ..,rfl,ho,rfl,rfl⟩
     ·obtain ⟨m,hm,r⟩:=ha e he; exact ⟨m,List.mem_cons_of_mem _ hm,r⟩) h3 with ⟨s',k1,k2⟩|⟨q,s',k0,k1,k2,k3⟩
    ·exact .inl ⟨s',⟨o,ho,nb,p,s1,h1,h2,k1⟩,k2⟩
    ·refine .inr ⟨q,s',by omega,k1,?_,k3⟩
     cases l with
     | nil =>
      exfalso;obtain ⟨oa,c,a1,_⟩:=k1;have:=(Array.getElem?_eq_some_iff.1 a1).1;have h9:=(Bh hl).2.2;simp at h9; omega
     | cons o2 l =>
      simp only [List.length_cons,Nat.add_sub_cancel] at k2 ⊢;rw [List.range'_succ,List.filter_cons];have bH:(!(n == q.k))=true:=by simp; omega
      rw [if_pos bH];exact ⟨o,ho,nb,p,s1,h1,h2,k2⟩
end
end Go.Ex
namespace Go.Ex
def uniq {α:Type _}:List (Nat×α)->Prop
 | []=>True
 | (n,_)::l=>(∀ q∈l,n<q.1)/\uniq l
theorem DE {α:Type _} {n:Nat}:∀ {l:List (Nat×α)},(∀ q∈l,n<q.1)->look n l=none
 | [],_=>rfl
 | (m,x)::l,h=>by
  have:=h (m,x) (by simp);simp only [look,xw (Nat.ne_of_lt this)];exact DE (λ q hq=>h q (by simp [hq]))
theorem MW {α:Type _} {n:Nat} {x:α} {q:Nat×α}:∀ {l:List (Nat×α)},q∈put n x l->q.1=n\/q∈l
 | [],h=>by simp [put] at h; exact .inl (by rw [h])
 | (m,y)::l,h=>by
  simp only [put] at h;split at h
  ·rcases List.mem_cons.1 h with rfl|h
   ·exact .inl rfl
   ·exact .inr (by simp [h])
  ·split at h
   ·rcases List.mem_cons.1 h with rfl|h
    ·exact .inl rfl
    ·exact .inr h
   ·rcases List.mem_cons.1 h with rfl|h
    ·exact .inr (by simp)
    ·exact (MW h).imp id (λ h=>by simp [h])
theorem Oi {α:Type _} (n:Nat) (x:α):∀ {l:List (Nat×α)},uniq l->uniq (put n x l)
 | [],_=>⟨by simp,trivial⟩
 | (m,y)::l,⟨h1,h2⟩=>by
  simp only [put];cases hb:Nat.beq n m with
  | true=>have:=Nat.eq_of_beq_eq_true hb; subst this; exact ⟨h1,h2⟩
  | false =>
   have bH:n≠m:=by rintro rfl; simp at hb
   simp only;cases bf:Nat.blt n m with
   | true =>
    have bf:n<m:=by simpa [Nat.blt_eq] using bf
    exact ⟨λ q hq=>by
     rcases List.mem_cons.1 hq with rfl|hq
     ·exact bf
     ·exact Nat.lt_trans bf (h1 q hq),h1,h2⟩
   | false =>
    have bf:¬ n<m:=by
     intro hl;have h3:Nat.blt n m=true:=by simpa [Nat.blt_eq] using hl
     rw [h3] at bf; cases bf
    refine ⟨λ q hq=>?_,Oi n x h2⟩;rcases MW hq with e|hq
    ·omega
    ·exact h1 q hq
theorem u7 {α:Type _}:∀ {l:List (Nat×α)},Aj l=true->uniq l
 | [],_=>trivial
 | (n,x)::l,h=>by
  simp only [Aj,Bool.and_eq_true] at h;have ih:=u7 h.2;refine ⟨?_,ih⟩;cases l with
  | nil=>simp
  | cons q l =>
   obtain ⟨m,y⟩:=q;have bf:n<m:=by simpa [Nat.blt_eq] using h.1
   intro q hq;rcases List.mem_cons.1 hq with rfl|hq
   ·exact bf
   ·exact Nat.lt_trans bf (ih.1 q hq)
theorem Dy {d:Nat}:∀ {l:List (Nat×AV)},uniq l->(∀ n v,look n l=some v->v.i7 d=false)->vB d l=true
 | [],_,_=>rfl
 | (m,v)::l,⟨h0,h2⟩,h=>by
  have h1:=DE h0;simp only [vB,Bool.and_eq_true,Bool.not_eq_true'];refine ⟨h m v (by simp [look]),Dy h2 (λ n w hw=>h n w ?_)⟩;simp only [look];cases hb:Nat.beq n m with
  | true=>have:=Nat.eq_of_beq_eq_true hb; subst this; rw [h1] at hw; cases hw
  | false=>exact hw
theorem I1:∀ {v:AV} {i:Nat},i∈v.G6↔v.i7 i=true:=by
 intro v
 induction v with
 | cons a b iha ihb=>intro i; simp only [AV.G6,List.mem_append,AV.i7,Bool.or_eq_true,iha,ihb]
 | K0 l ih=>intro i; exact ih
 | C0 f l ih=>intro i; exact ih
 | bx l ih=>intro i; exact ih
 | rc f l ih=>intro i; exact ih
 | ptr j p=>intro i; simp [AV.G6,AV.i7]
 | at_ j p=>intro i; simp [AV.G6,AV.i7]
 | sub j p a b=>intro i; simp [AV.G6,AV.i7]
 | _=>intro i; simp [AV.G6,AV.i7]
def AV.plain:AV->Bool
 | .any|.raw _|.val _ _|.K2 _ _|.nil=>true
 | _=>false
structure Trim (T:List Nat) (f:AV->AV):Prop where
 cons:∀ a b,f (.cons a b)=.cons (f a) (f b)
 K0:∀ l,f (.K0 l)=.K0 (f l)
 C0:∀ g l,f (.C0 g l)=.C0 g (f l)
 bx:∀ l,f (.bx l)=.bx (f l)
 rc:∀ g l,f (.rc g l)=.rc g (f l)
 atom:∀ u,u.ref=true->f u=u\/f u=.any
 wK:∀ u,u.ref=true->(∀ i∈T,u.i7 i=false)->f u=u
 plain:∀ u,u.plain=true->f u=u
theorem AV.shape (P:AV->Prop) (hp:∀ u,u.plain=true->P u) (ha:∀ u,u.ref=true->P u) (hc:∀ a b,P a->P b->P (.cons a b)) (ht:∀ l,P l->P (.K0 l)) (hf:∀ g l,P l->P (.C0 g l)) (hb:∀ l,P l->P (.bx l)) (hr:∀ g l,P l->P (.rc g l)):∀ u,P u:=by
 intro u
 induction u with
 | cons a b iha ihb=>exact hc a b iha ihb
 | K0 l ih=>exact ht l ih
 | C0 f l ih=>exact hf f l ih
 | bx l ih=>exact hb l ih
 | rc f l ih=>exact hr f l ih
 | ptr j p=>exact ha _ rfl
 | at_ j p=>exact ha _ rfl
 | sub j p a b=>exact ha _ rfl
 | _=>exact hp _ rfl
section
variable {T T':List Nat} {f g:AV->AV}
theorem Trim.id (T:List Nat):Trim T (λ u=>u):=⟨λ _ _=>rfl,λ _=>rfl,λ _ _=>rfl,λ _=>rfl,λ _ _=>rfl,λ _ _=>.inl rfl,λ _ _ _=>rfl,λ _ _=>rfl⟩
theorem Trim.map {g:AV->AV} (h1:∀ u,u.ref=true->g u=u\/g u=.any) (h2:∀ u,u.ref=true->(∀ i∈T,u.i7 i=false)->g u=u):Trim T (AV.map g):=by
 have e:∀ u:AV,u.ref=true->u.map g=g u:=by intro u hu; cases u<;>simp only [AV.ref] at hu<;>first|rfl|cases hu
 exact ⟨λ _ _=>rfl,λ _=>rfl,λ _ _=>rfl,λ _=>rfl,λ _ _=>rfl,λ u hu=>by rw [e u hu]; exact h1 u hu,λ u hu hm=>by rw [e u hu]; exact h2 u hu hm,λ u hu=>by cases u<;>simp only [AV.plain] at hu<;>first|rfl|cases hu⟩
theorem Trim.comp (hf:Trim T f) (hg:Trim T' g) {U:List Nat} (h1:∀ i∈T,i∈U) (h2:∀ i∈T',i∈U):Trim U (λ u=>g (f u)):=by
 refine ⟨λ a b=>by rw [hf.cons,hg.cons],λ l=>by rw [hf.K0,hg.K0],λ k l=>by rw [hf.C0,hg.C0],λ l=>by rw [hf.bx,hg.bx],λ k l=>by rw [hf.rc,hg.rc],?_,?_,λ u hu=>by rw [hf.plain u hu,hg.plain u hu]⟩
 ·intro u hu
  rcases hf.atom u hu with h|h
  ·rw [h]; exact hg.atom u hu
  ·rw [h]; exact .inr (hg.plain _ rfl)
 ·intro u hu hm
  rw [hf.wK u hu (λ i hi=>hm i (h1 i hi)),hg.wK u hu (λ i hi=>hm i (h2 i hi))]
theorem Trim.mono (hf:Trim T f) (h:∀ i∈T,i∈T'):Trim T' f:=⟨hf.cons,hf.K0,hf.C0,hf.bx,hf.rc,hf.atom,λ u hu hm=>hf.wK u hu (λ i hi=>hm i (h i hi)),hf.plain⟩
theorem Trim.fix (hf:Trim T f):∀ u,(∀ i∈T,u.i7 i=false)->f u=u:=by
 refine AV.shape _ (λ u hu _=>hf.plain u hu) (λ u hu hm=>hf.wK u hu hm) ?_ ?_ ?_ ?_ ?_
 ·intro a b ha hb hm
  simp only [AV.i7,Bool.or_eq_false_iff] at hm;rw [hf.cons,ha (λ i hi=>(hm i hi).1),hb (λ i hi=>(hm i hi).2)]
 ·intro l hl hm; rw [hf.K0,hl hm]
 ·intro k l hl hm; rw [hf.C0,hl hm]
 ·intro l hl hm; rw [hf.bx,hl hm]
 ·intro k l hl hm; rw [hf.rc,hl hm]
theorem Trim.i7 (hf:Trim T f) {i:Nat}:∀ u,(f u).i7 i=true->u.i7 i=true:=by
 refine AV.shape _ (λ u hu h=>by rw [hf.plain u hu] at h; exact h) (λ u hu h=>?_) ?_ ?_ ?_ ?_ ?_
 ·rcases hf.atom u hu with e|e
  ·rw [e] at h; exact h
  ·rw [e] at h; cases h
 ·intro a b ha hb h
  rw [hf.cons] at h;simp only [AV.i7,Bool.or_eq_true] at h ⊢;exact h.imp ha hb
 ·intro l hl h; rw [hf.K0] at h; exact hl h
 ·intro k l hl h; rw [hf.C0] at h; exact hl h
 ·intro l hl h; rw [hf.bx] at h; exact hl h
 ·intro k l hl h; rw [hf.rc] at h; exact hl h
theorem Trim.comm (hf:Trim T f) (hg:Trim T' g):∀ u,f (g u)=g (f u):=by
 refine AV.shape _ (λ u hu=>by rw [hf.plain u hu,hg.plain u hu,hf.plain u hu]) (λ u hu=>?_) ?_ ?_ ?_ ?_ ?_
 ·have ha:f .any=.any:=hf.plain _ rfl
  have hb:g .any=.any:=hg.plain _ rfl;rcases hf.atom u hu with e|e<;>rcases hg.atom u hu with e'|e'<;>simp only [e,e',ha,hb]
 ·intro a b ha hb; rw [hg.cons,hf.cons,hf.cons,hg.cons,ha,hb]
 ·intro l hl; rw [hg.K0,hf.K0,hf.K0,hg.K0,hl]
 ·intro k l hl; rw [hg.C0,hf.C0,hf.C0,hg.C0,hl]
 ·intro l hl; rw [hg.bx,hf.bx,hf.bx,hg.bx,hl]
 ·intro k l hl; rw [hg.rc,hf.rc,hf.rc,hg.rc,hl]
theorem Trim.drop (i:Nat):Trim [i] (AV.drop i):=by
 refine Trim.map (λ u _=>?_) (λ u _ hm=>?_)
 ·cases hm:u.i7 i with
  | true=>exact .inr (by simp only)
  | false=>exact .inl (by simp only)
 ·simp only [hm i (by simp)]
theorem Trim.kill (i:Nat) (ow:Bool×Ty) (q:List Step):Trim [i] (AV.kill i ow q):=by
 refine Trim.map (λ u hu=>?_) (λ u _ hm=>?_)
 ·unfold AV.Ac
  split
  ·exact .inl rfl
  ·split
   ·split<;>first|exact .inl rfl|exact .inr rfl
   ·split
    ·exact .inl rfl
    ·split<;>first|exact .inl rfl|exact .inr rfl
   ·split<;>first|exact .inl rfl|exact .inr rfl
   ·split<;>first|exact .inl rfl|exact .inr rfl
   ·exact .inr rfl
 ·unfold AV.Ac; rw [hm i (by simp)]
theorem Trim.Y1 (i:Nat) (ow:Bool):Trim [i] (AV.map (AV.wY i ow)):=by
 refine Trim.map (λ u hu=>?_) (λ u _ hm=>?_)
 ·unfold AV.wY
  split
  ·exact .inl rfl
  ·split
   ·split<;>first|exact .inl rfl|exact .inr rfl
   ·split<;>first|exact .inl rfl|exact .inr rfl
   ·split<;>first|exact .inl rfl|exact .inr rfl
   ·exact .inr rfl
 ·unfold AV.wY; rw [hm i (by simp)]
def xa:List Nat->AV->AV
 | [],u=>u
 | i::g,u=>xa g (u.drop i)
theorem Trim.w5:∀ g:List Nat,Trim g (xa g)
 | []=>Trim.id []
 | i::g=>Trim.comp (Trim.drop i) (Trim.w5 g) (by simp) (λ j hj=>List.mem_cons_of_mem _ hj)
end
structure KD (s s1:St) (T ids:List Nat) (f:AV->AV) (h:Nat->Option g9):Prop where
 fr:∀ n,look n s1.fr=(look n s.fr).map f
 hp:∀ i,look i s1.hp=if i∈T\/i∈ids then h i else look i s.hp
def R3 (s:St) (ids:List Nat):Prop:=∀ n∈ids,look n s.hp=none/\∀ m v,look m s.fr=some v->v.i7 n=false
theorem By:∀ {g:List Nat} {s:St} {n:Nat},look n (St.w5 g s).fr=(look n s.fr).map (xa g)
 | [],s,n=>by simp [St.w5,xa]
 | i::g,s,n=>by
  simp only [St.w5];rw [By (g:=g) (s:=s.drop i)];simp only [St.drop,N5,Option.map_map];rfl
theorem OC {f:AV->AV} {q:Nat×AV}:∀ {l:List (Nat×AV)},q∈mapA f l->∃ r∈l,r.1=q.1
 | (n,x)::l,h=>by
  rcases List.mem_cons.1 h with rfl|h
  ·exact ⟨_,List.mem_cons_self ..,rfl⟩
  ·obtain ⟨r,hr,e⟩:=OC h; exact ⟨r,by simp [hr],e⟩
theorem Bl {f:AV->AV}:∀ {l:List (Nat×AV)},uniq l->uniq (mapA f l)
 | [],_=>trivial
 | (n,x)::l,⟨h1,h2⟩=>⟨λ q hq=>by obtain ⟨r,hr,e⟩:=OC hq; rw [<- e]; exact h1 r hr,Bl h2⟩
theorem Bz:∀ {g:List Nat} {s:St},uniq s.fr->uniq (St.w5 g s).fr
 | [],_,h=>h
 | i::g,s,h=>Bz (g:=g) (s:=s.drop i) (Bl h)
def X6 (s t:St) (xs:List Operand):Prop:=∀ x∈xs,t.ev x=s.ev x/\∀ i,(s.ev x).i7 i=true->t.obj i=s.obj i
theorem X6.refl (s:St) (xs:List Operand):X6 s s xs:=λ _ _=>⟨rfl,λ _ _=>rfl⟩
def OR.wh (t:St):OR->OR
 | .fail w=>.fail w
 | .ok v _=>.ok v t
 | .E9 p v _=>.E9 p v t
def OR.av:OR->AV
 | .ok v _=>v
 | .E9 _ v _=>v
 | .fail _=>.any
section
variable {E:Env} {s t:St}
theorem Nk (k:IntKind) (r:Int):arith k r t=(arith k r s).wh t:=by unfold arith; split<;>rfl
theorem UR (op:BinOp) (k k':IntKind) (a b:Int):wG op k a k' b t=(wG op k a k' b s).wh t:=by
 unfold wG
 split
 ·rfl
 ·rfl
 ·split
  ·split<;>first|rfl|exact Nk _ _
  ·rfl
theorem UT (W:Bool) (op:BinOp) (k k':IntKind) (a b:Int):wH W op k a k' b t=(wH W op k a k' b s).wh t:=by
 unfold wH
 split
 ·split<;>rfl
 ·exact UR ..
theorem US (op:BinOp) (a b:yY):xU op a b t=(xU op a b s).wh t:=by unfold xU; split<;>rfl
theorem TE (T:TypeId) (op:BinOp) (x y:AV):xk E T op x y t=(xk E T op x y s).wh t:=by
 unfold xk
 split
 ·exact UT ..
 ·split<;>rfl
 ·exact US ..
 ·rfl
theorem Lb (T:TypeId) (op:BinOp) (a:Ty) (x:a.den) (u:Ty) (y:u.den):eqA E T op a x u y t=(eqA E T op a x u y s).wh t:=by
 unfold eqA
 split
 ·split<;>rfl
 ·rfl
theorem UQ (T:TypeId) (op:BinOp) (x y:AV):vU E T op x y t=(vU E T op x y s).wh t:=by
 unfold vU
 split
 ·unfold yI; split<;>rfl
 ·exact Lb ..
 ·exact Lb ..
 ·exact TE ..
theorem TQ (op:UnOp) (x:AV):unA op x t=(unA op x s).wh t:=by
 unfold unA
 repeat' (first|rfl|exact Nk _ _|split)
theorem zj:∀ {xs:List Operand},(∀ x∈xs,t.ev x=s.ev x)->t.J4 xs=s.J4 xs
 | [],_=>rfl
 | x::xs,h=>by simp only [St.J4,h x (by simp),zj (xs:=xs) (λ y hy=>h y (by simp [hy]))]
theorem Z0 {i:Nat}:∀ {xs:List Operand},(s.J4 xs).i7 i=true->∃ x∈xs,(s.ev x).i7 i=true
 | [],h=>by cases h
 | x::xs,h=>by
  simp only [St.J4,AV.i7,Bool.or_eq_true] at h;rcases h with h|h
  ·exact ⟨x,by simp,h⟩
  ·obtain ⟨y,hy,h⟩:=Z0 h; exact ⟨y,by simp [hy],h⟩
theorem HM {i:Nat} {x:Operand}:∀ {xs:List Operand},x∈xs->(s.ev x).i7 i=true->(s.J4 xs).i7 i=true
 | y::xs,hx,h=>by
  simp only [St.J4,AV.i7,Bool.or_eq_true];rcases List.mem_cons.1 hx with rfl|hx
  ·exact .inl h
  ·exact .inr (HM hx h)
theorem Dc {i:Nat}:∀ {a b:AV},(a.app b).i7 i=true->a.i7 i=true\/b.i7 i=true:=by
 intro a
 induction a with
 | cons x l _ ih =>
  intro b h;simp only [AV.app,AV.i7,Bool.or_eq_true] at h ⊢;rcases h with h|h
  ·exact .inl (.inl h)
  ·rcases ih h with h|h
   ·exact .inl (.inr h)
   ·exact .inr h
 | _=>intro b h; exact .inr h
def Alike (s t:St) (v:AV):Prop:=∀ i,v.i7 i=true->t.obj i=s.obj i
theorem J0 {i:Nat} {p:List Step} (h:t.obj i=s.obj i):t.part i p=s.part i p:=by simp only [St.part,h]
theorem CV {i:Nat} {p:List Step} {a b:Int} (h:t.obj i=s.obj i):t.view i p a b=s.view i p a b:=by simp only [St.view,J0 h]
theorem GW {u:Ty} {i:Nat} {p:List Step} (h:t.obj i=s.obj i):t.uV u i p=s.uV u i p:=by simp only [St.uV,J0 h]
theorem SA {u:Ty} {v:AV} (h:Alike s t v):v.asV t u=v.asV s u:=by
 cases v<;>first|rfl|exact GW (h _ (by simp [AV.i7]))|(simp only [AV.asV]; rw [CV (h _ (by simp [AV.i7]))])
theorem Ll {u:Ty} {v:AV} (h:Alike s t v):v.asR t u=v.asR s u:=by
 unfold AV.asR
 split
 ·exact GW (h _ (by simp [AV.i7]))
 ·rfl
 ·rename_i i p
  have e:∀ u,t.uV u i p=s.uV u i p:=λ u=>GW (h i (show AV.i7 i (AV.bx (.ptr i p))=true by simp [AV.i7]));simp only [e]
 ·rfl
theorem LK:∀ {ts:List Ty} {v:AV},Alike s t v->AV.xj t ts v=AV.xj s ts v
 | [],v,_=>by cases v<;>rfl
 | u::ts,v,h=>by
  cases v<;>try rfl
  rename_i a b;simp only [AV.xj,Ll (v:=a) (λ i hi=>h i (by simp [AV.i7,hi])),LK (v:=b) (λ i hi=>h i (by simp [AV.i7,hi]))]
theorem Da {v:AV} (h:Alike s t v):v.uI t=v.uI s:=by
 cases v<;>try rfl
 ·rename_i i p; cases p<;>simp only [AV.uI,h i (by simp [AV.i7])]
 ·rename_i i p a b; cases p<;>simp only [AV.uI,h i (by simp [AV.i7])]
theorem GD {v:AV} (h:Alike s t v):v.els t=v.els s:=by
 unfold AV.els
 split
 ·rfl
 ·rename_i i p; simp only [J0 (h i (by simp [AV.i7]))]
 ·rename_i i p a b; simp only [CV (h i (by simp [AV.i7]))]
 ·rfl
theorem Dw {v:AV} {r:Sigma Ty.den} {g:List Nat} (h:v.uI s=some (r,g)):∀ i∈g,v.i7 i=true:=by
 unfold AV.uI at h;split at h
 ·cases h; simp
 ·split at h
  ·cases h; simp [AV.i7]
  ·cases h
 ·split at h
  ·cases h; simp [AV.i7]
  ·cases h
 ·cases h
theorem yv {v:AV} (h:Alike s t v):v.uW t=v.uW s:=by
 unfold AV.uW
 split
 ·rename_i i
  rw [h i (by simp [AV.i7]),Da h]
 ·rfl
 ·exact Da h
theorem DR {v:AV} {r:Sigma Ty.den} {g:List Nat} (h:v.uW s=some (r,g)):∀ i∈g,v.i7 i=true:=by
 unfold AV.uW at h;split at h
 ·split at h
  ·cases h; simp [AV.i7]
  ·exact Dw h
 ·cases h; simp
 ·exact Dw h
theorem Hn {u:Ty} {v:AV} (h:Alike s t v):v.uN t u=v.uN s u:=by
 unfold AV.uN
 split
 ·rfl
 ·rfl
 ·simp only [GD h,Da h]
theorem PH {u:Ty} {v:AV} {r:Sigma λ t:Ty=>List t.den} {g:List Nat} (h:v.uN s u=some (r,g)):∀ i∈g,v.i7 i=true:=by
 unfold AV.uN at h;split at h
 ·cases h; simp
 ·cases h; simp
 ·split at h
  ·cases h
  ·split at h
   ·cases h; simp
   ·split at h
    ·rename_i hg; cases h; exact Dw hg
    ·cases h
theorem Gn {d:Int} {x:Option Operand} (h:∀ y,x=some y->t.ev y=s.ev y):Z4 t d x=Z4 s d x:=by
 cases x with
 | none=>rfl
 | some y=>simp only [Z4,h y rfl]
theorem Sy {k:PK} {v:AV} (h:Alike s t v):v.P5 t k=v.P5 s k:=by
 cases k with
 | v u=>simp only [AV.P5,SA h]
 | rd u=>simp only [AV.P5,Ll h]
 | U3=>cases v<;>rfl
 | Z9 f n=>rfl
 | el q=>rfl
 | C0 f ts =>
  cases v<;>try rfl
  simp only [AV.P5]; rw [LK (λ i hi=>h i (by simpa [AV.i7] using hi))]
 | own u =>
  have hg:=yv h;unfold AV.P5;dsimp only
  split
  ·rfl
  ·rw [hg]
 | rw u =>
  cases v<;>try rfl
  rename_i i p; cases p<;>simp only [AV.P5,h i (by simp [AV.i7])]
 | mu u =>
  cases v<;>try rfl
  rename_i i p; cases p<;>simp only [AV.P5,h i (by simp [AV.i7])]
theorem LJ:∀ {ks:List PK} {v:AV},Alike s t v->AV.uK t ks v=AV.uK s ks v
 | [],v,_=>by cases v<;>rfl
 | k::ks,v,h=>by
  cases v<;>try rfl
  rename_i a b;simp only [AV.uK,Sy (v:=a) (λ i hi=>h i (by simp [AV.i7,hi])),LJ (v:=b) (λ i hi=>h i (by simp [AV.i7,hi]))]
theorem Vm {k:PK} {v:AV} {x:k.den} {g m:List Nat} (h:v.P5 s k=some (x,g,m)):(∀ i∈g++m,v.i7 i=true)/\(k.j9=false->g=[]/\m=[]):=by
 cases k with
 | v u=>simp only [AV.P5] at h; split at h<;>cases h; simp
 | rd u=>simp only [AV.P5] at h; split at h<;>cases h; simp
 | U3=>simp only [AV.P5] at h; split at h<;>cases h; simp
 | Z9 f n=>simp only [AV.P5] at h; cases h
 | el q=>simp only [AV.P5] at h; cases h
 | C0 f ts =>
  simp only [AV.P5] at h;split at h
  ·split at h
   ·split at h<;>cases h; simp
   ·cases h
  ·cases h
 | own u =>
  refine ⟨?_,λ h=>by cases h⟩;simp only [AV.P5] at h;split at h
  ·split at h<;>cases h; simp
  ·split at h
   ·rename_i hg
    split at h
    ·cases h
     intro i hi;exact DR hg i (by simpa using hi)
    ·cases h
   ·cases h
 | rw u =>
  refine ⟨?_,λ h=>by cases h⟩;simp only [AV.P5] at h;split at h
  ·split at h
   ·split at h
    ·cases h; simp [AV.i7]
    ·cases h
   ·cases h
  ·cases h
 | mu u =>
  refine ⟨?_,λ h=>by cases h⟩;simp only [AV.P5] at h;split at h
  ·split at h
   ·split at h
    ·cases h; simp [AV.i7]
    ·cases h
   ·cases h
  ·cases h
theorem PJ:∀ {ks:List PK} {v:AV} {x:DK ks} {g m:List Nat},AV.uK s ks v=some (x,g,m)->(∀ i∈g++m,v.i7 i=true)/\(ks.any PK.j9=false->g=[]/\m=[])
 | [],v,x,g,m,h=>by
  cases v<;>simp only [AV.uK] at h<;>cases h;simp
 | k::ks,v,x,g,m,h=>by
  cases v<;>simp only [AV.uK] at h<;>try (cases h; done)
  split at h
  ·rename_i h1 h2
   cases h;obtain ⟨a1,a2⟩:=Vm h1;obtain ⟨b1,b2⟩:=PJ h2;refine ⟨?_,?_⟩
   ·intro i hi
    simp only [List.mem_append] at hi a1 b1;simp only [AV.i7,Bool.or_eq_true];rcases hi with (hi|hi)|(hi|hi)
    ·exact .inl (a1 i (.inl hi))
    ·exact .inr (b1 i (.inl hi))
    ·exact .inl (a1 i (.inr hi))
    ·exact .inr (b1 i (.inr hi))
   ·intro ht
    simp only [List.any_cons,Bool.or_eq_false_iff] at ht;obtain ⟨r1,r2⟩:=a2 ht.1;obtain ⟨r3,r4⟩:=b2 ht.2;simp [r1,r2,r3,r4]
  ·cases h
theorem DH:∀ {parts:List (Nat×Operand)} {r:Sigma Ty.den},(∀ q∈parts,t.ev q.2=s.ev q.2/\Alike s t (s.ev q.2))->R2 t r parts=R2 s r parts
 | [],⟨_,_⟩,_=>rfl
 | (i,v)::parts,⟨u,x⟩,h=>by
  have ih:=λ r=>DH (parts:=parts) (r:=r) (λ q hq=>h q (by simp [hq]));obtain ⟨h1,h2⟩:=h (i,v) (by simp);have h1:t.ev v=s.ev v:=h1;have h2:=yv h2;have h2:(s.ev v).uW t=(s.ev v).uW s:=h2;simp only [R2,h1,ih]
  split
  ·rfl
  ·split
   ·rfl
   ·rw [h2]
theorem Ec:∀ {parts:List (Nat×Operand)} {r r':Sigma Ty.den} {g:List Nat},R2 s r parts=some (r',g)->∀ i∈g,∃ q∈parts,(s.ev q.2).i7 i=true
 | [],⟨_,_⟩,r',g,h=>by simp only [R2] at h; cases h; simp
 | (j,v)::parts,⟨u,x⟩,r',g,h=>by
  simp only [R2] at h;split at h
  ·cases h
  ·split at h
   ·split at h
    ·split at h
     ·intro i hi
      obtain ⟨q,hq,hm⟩:=Ec h i hi;exact ⟨q,by simp [hq],hm⟩
     ·cases h
    ·cases h
   ·split at h
    ·rename_i hg
     split at h
     ·split at h
      ·rename_i hb
       cases h;intro i hi;rcases List.mem_append.1 hi with hi|hi
       ·exact ⟨(j,v),by simp,DR hg i hi⟩
       ·obtain ⟨q,hq,hm⟩:=Ec hb i hi
        exact ⟨q,by simp [hq],hm⟩
      ·cases h
     ·cases h
    ·cases h
end
end Go.Ex
