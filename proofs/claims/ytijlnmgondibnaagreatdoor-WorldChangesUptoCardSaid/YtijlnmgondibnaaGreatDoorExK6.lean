import Derived.Test.YtijlnmgondibnaaGreatDoorExK5
set_option linter.unusedVariables false
set_option linter.unusedSimpArgs false
set_option linter.unusedSectionVars false
namespace Go.Ex
section
variable {E:Env} {B:E6} {S:Nat->Prop} {ι:Ix} {s:St} {a:Act} {w:World}
def BA (P:Program) (S:Nat->Prop) (ι:Ix) (o:Oper) (a:Act) (w:World) (s:St) (v:AV):Prop :=
 ∃ val,(∀ w',(execOp a.eval o).run P w'=.ok (.value val) w')/\VX w.heap S ι s.hp v [val]
def Ap (P:Program) (S:Nat->Prop) (ι:Ix) (o:Oper) (a:Act) (w:World) (s:St):OR->Prop
 | .fail _=>True
 | .ok v s'=>s'=s/\BA P S ι o a w s v
 | .F8 p v s'=>p->s'=s/\BA P S ι o a w s v
theorem yG {P:Program} {o:Oper} {sem:Sem Value} (he:execOp a.eval o=(do pure (.value (<- sem)))) {v:AV} {val:Value} (hr:∀ w',sem.run P w'=.ok val w')
  (hv:VX w.heap S ι s.hp v [val]):s=s/\BA P S ι o a w s v:=⟨rfl,val,λ w'=>by rw [he]; simp [hr w',Result.andThen],hv⟩
theorem b2R (hE:D3 E B) (h:RS B S ι s a w) {o:Oper} {T:TypeId} {x:Operand} {n:Nat} (ho:o.op=.fieldAddr T x n):Ap E.P S ι o a w s (m0 E o s):=by
 have he:execOp a.eval o=(do pure (.value (<- Instr.fieldAt T (a.eval x) n))):=by simp [execOp,ho]
 unfold m0;rw [ho];simp only
 split
 ·rename_i i p hx
  split
  ·rename_i u z cQ
   split
   ·rename_i r hc gD
    obtain ⟨e,b,off,h1,h2,h3,h4⟩:=C3 h hx;have hg:=I3 h1 cQ;have h4:a.eval x=.pointer (some ⟨b,off,none⟩):=by simpa using h4
    obtain ⟨u2,z2⟩:=r;exact yG he (λ _=>by rw [h4]; exact AS (D6 hE hc) gD b off) ⟨e,b,off+S9 u n,h1,X7 hg h2 (yx gD),CE hg h3 (λ G=>yH gD),rfl⟩
   ·trivial
  ·trivial
 ·rename_i t y hx
  split
  ·rename_i u z hc hg
   obtain ⟨b,off,e,h1,h2,h3⟩:=C3 h hx;have e:a.eval x=.pointer (some ⟨b,off,none⟩):=by simpa using e
   have aM:=yx hg;obtain ⟨O1,O2,b',aA,e1,e2,e3,e4,e5,e6⟩:=focus h3 h2 aM hg
   have hO:O1=[]/\O2=[]:=by have:=e1.nil_eq; simpa using this.symm
   rw [yH hg] at e3; cases e3;refine yG he (λ _=>by rw [e]; exact AS (D6 hE hc) hg b off) ⟨b,off+S9 t n,rfl,h1,e5,?_⟩;rw [hO.2] at e4; exact e4
  ·trivial
 ·rename_i t y hx
  split
  ·rename_i u z hc hg
   intro hy;obtain ⟨b,off,e,h1,h2,h3⟩:=Es (C3 h hx) hy;have e:a.eval x=.pointer (some ⟨b,off,none⟩):=by simpa using e
   have aM:=yx hg;obtain ⟨O1,O2,b',aA,e1,e2,e3,e4,e5,e6⟩:=focus h3 h2 aM hg
   have hO:O1=[]/\O2=[]:=by have:=e1.nil_eq; simpa using this.symm
   rw [yH hg] at e3; cases e3;refine yG he (λ _=>by rw [e]; exact AS (D6 hE hc) hg b off) ⟨b,off+S9 t n,rfl,h1,e5,?_⟩;rw [hO.2] at e4; exact e4
  ·trivial
 ·trivial
theorem b2L (hE:D3 E B) (h:RS B S ι s a w) {o:Oper} {T:TypeId} {x y:Operand} (ho:o.op=.indexAddr T x y):Ap E.P S ι o a w s (m0 E o s):=by
 have he:execOp a.eval o=(do pure (.value (<- Instr.indexAt T (a.eval x) (a.eval y)))):=by simp [execOp,ho]
 unfold m0;rw [ho];simp only
 split
 ·rename_i d p k n hx hy
  split
  ·rename_i m u z cQ
   split
   ·rename_i hc
    intro hn;obtain ⟨e,b,off,h1,h2,h3,h4⟩:=C3 h hx;have hg:=I3 h1 cQ;have h4:a.eval x=.pointer (some ⟨b,off,none⟩):=by simpa using h4
    obtain ⟨dF,_⟩:=VX.I4 (C3 h hy);exact yG he (λ _=>by rw [h4,dF]; exact FO (D6 hE hc) b off hn) ⟨e,b,off+n.toNat*u.size,h1,X7 hg h2 ⟨hn,O6⟩,CE hg h3 (λ G=>by simp only [y8,y9]),rfl⟩
   ·trivial
  ·trivial
 ·rename_i m t z k n hx hy
  split
  ·rename_i hc
   intro hn;obtain ⟨b,off,e,h1,h2,h3⟩:=C3 h hx;have e:a.eval x=.pointer (some ⟨b,off,none⟩):=by simpa using e
   obtain ⟨dF,_⟩:=VX.I4 (C3 h hy);have aM:x8 (.arr m t) z [.idx n]:=⟨hn,by cases t<;>trivial⟩;have hg:j9 (.arr m t) z [.idx n]=some ⟨t,List.getD z (Int.toNat n) t.s4⟩:=by simp only [j9]
   obtain ⟨O1,O2,b',aA,e1,e2,e3,e4,e5,e6⟩:=focus h3 h2 aM hg
   have hO:O1=[]/\O2=[]:=by have:=e1.nil_eq; simpa using this.symm
   have e3':y8 w.heap (.arr m t) [.idx n] b off=some (b,off+Int.toNat n*t.size):=by simp only [y8]
   rw [e3'] at e3; cases e3;refine yG he (λ _=>by rw [e,dF]; exact FO (D6 hE hc) b off hn) ⟨b,off+Int.toNat n*t.size,rfl,h1,e5,?_⟩;rw [hO.2] at e4; exact e4
  ·trivial
 ·rename_i t z k n hx hy
  split
  ·rename_i hc
   intro hn;obtain ⟨cs,e,hR⟩:=C3 h hx;have e:a.eval x=l5 (.d0 false t) cs:=by simpa using e
   obtain ⟨dF,_⟩:=VX.I4 (C3 h hy);rcases hR with ⟨_,_,hz⟩|⟨b1,o1,cap,O',c1,c2,c3,c4,c5,c6,c7,c8⟩
   ·subst hz; exact (Eh hn).elim
   ·have ga:a.eval x=.slice (some ⟨b1,o1,none⟩) (List.length z) cap:=by rw [e,c1]; rfl
    obtain ⟨b1',b2,b3,b4⟩:=E1 (sz:=t.size) hn;obtain ⟨P1,P2,P3,e1,g1,g2,g3⟩:=j5.split (d:=t.s4) (i:=Int.toNat n) b1' c5;have hle:t.size<=List.length z*t.size - Int.toNat n*t.size:=by omega
    rw [o6,n7 _ _ _ _ hle] at g2;have hP:P2=[]:=by rw [c7] at e1; have:=aBm.1 e1.symm; exact (aBm.1 this.2).1
    refine yG he (λ _=>by rw [ga,dF]; exact W3 (D6 hE hc) b1 o1 _ cap hn) ⟨b1,o1+Int.toNat n*t.size,rfl,c8,by omega,?_⟩;rw [hP] at g2; exact g2
  ·trivial
 ·rename_i d p k n hx hy
  split
  ·rename_i u z cQ
   split
   ·rename_i hc
    intro hn;obtain ⟨e,u',y',cs,h1,h2,h3,h4,h5⟩:=C3 h hx;have hg:=I3 h1 cQ;rw [h3] at hg; cases hg;obtain ⟨dF,_⟩:=VX.I4 (C3 h hy);have h5:a.eval x=l5 (.d0 true u) cs:=by simpa using h5
    obtain ⟨O2,m1,m2,m3⟩:=H5 h.hs h1 h2 h3 h4;rcases m3 with ⟨_,_,hz⟩|⟨b1,o1,cap,O',rfl,c2,c3,c4,c5,c6,c7⟩
    ·subst hz; exact (Eh hn).elim
    ·have ga:a.eval x=.slice (some ⟨b1,o1,none⟩) (List.length z) cap:=h5
     obtain ⟨b0,off0,q1,q2⟩:=h4;have hh:=(R3 b0 off0 _).1 q2.symm;refine yG he (λ _=>by rw [ga,dF]; exact W3 (D6 hE hc) b1 o1 _ cap hn) ⟨e,b1,o1+n.toNat*u.size,h1,X7 h3 h2 ⟨hn,O6⟩,wv (AR h3 q1 ?_) c7.free.lt,rfl⟩;simp only [y8,hh,y9]
   ·trivial
  ·trivial
 ·rename_i d p lo hi k n hx hy
  split
  ·rename_i u l dX
   split
   ·rename_i hc
    intro hn;have fj:@LE.le Int Int.instLEInt 0 n:=hn.1;have lQ:@LT.lt Int Int.instLTInt n (hi - lo):=hn.2;obtain ⟨A,c,k1,k2,k3,k4,k5,e,k6,k7,k8⟩:=Ep h.hs (C3 h hx) dX;obtain ⟨dF,_⟩:=VX.I4 (C3 h hy);have hz:l≠[]:=by rintro rfl; have k3:((0:Nat):Int)=hi - lo:=k3; omega
    obtain ⟨b,off,rfl,k9⟩:=k8 hz;obtain ⟨off2,q1,rfl,q3⟩:=k9 n hn.1 (by omega);exact yG he (λ _=>by rw [k1,dF]; exact W3 (D6 hE hc) b off _ c (by omega)) ⟨e,b,_,k6,q3,q1,rfl⟩
   ·trivial
  ·trivial
 ·trivial
theorem b4Z (_hE:D3 E B) (h:RS B S ι s a w) {o:Oper} {x:Operand} (ho:o.op=.nilCheck x):Ap E.P S ι o a w s (m0 E o s):=by
 unfold m0; rw [ho];simp only
 split
 ·rename_i i p hx
  obtain ⟨e,b,off,h1,h2,h3,h4⟩:=C3 h hx;have h4:a.eval x=.pointer (some ⟨b,off,none⟩):=by simpa using h4
  exact ⟨rfl,.pointer (some ⟨b,off,none⟩),λ w'=>by simp only [execOp,ho,h4]; rfl,e,b,off,h1,h2,h3,rfl⟩
 ·rename_i t y hx
  obtain ⟨b,off,e,h1,h2,h3⟩:=C3 h hx;have e:a.eval x=.pointer (some ⟨b,off,none⟩):=by simpa using e
  exact ⟨rfl,.pointer (some ⟨b,off,none⟩),λ w'=>by simp only [execOp,ho,e]; rfl,b,off,rfl,h1,h2,h3⟩
 ·rename_i t y hx
  intro hy;obtain ⟨b,off,e,h1,h2,h3⟩:=Es (C3 h hx) hy;have e:a.eval x=.pointer (some ⟨b,off,none⟩):=by simpa using e
  exact ⟨rfl,.pointer (some ⟨b,off,none⟩),λ w'=>by simp only [execOp,ho,e]; rfl,b,off,rfl,h1,h2,h3⟩
 ·rename_i f t y hx
  intro hy;have hv:=C3 h hx;obtain ⟨p,e,-⟩:=JZ hv hy;exact ⟨rfl,a.eval x,λ w'=>by simp only [execOp,ho,e]; rfl,hv⟩
 ·rename_i f l hx
  obtain ⟨us,e,h1⟩:=C3 h hx;have e:a.eval x=.func (.func f) #[] us.toArray:=by simpa using e
  exact ⟨rfl,.func (.func f) #[] us.toArray,λ w'=>by simp only [execOp,ho,e]; rfl,us,rfl,h1⟩
 ·rename_i g b hx
  intro hb;have hv:=Ic h hx;have hb:b=true:=hb;subst hb;exact ⟨rfl,.func (.func g) #[] #[],λ w'=>by simp only [execOp,ho,hv]; rfl,[fnV g true],rfl,rfl,rfl⟩
 ·trivial
theorem Cw (hE:D3 E B) (h:RS B S ι s a w) {o:Oper} (ho:Am o.op=true):Ap E.P S ι o a w s (m0 E o s):=by
 unfold Am at ho;split at ho
 ·rename_i e; exact b2R hE h e
 ·rename_i e; exact b2L hE h e
 ·rename_i e; exact b4Z hE h e
 ·cases ho
end
section
variable {S:Nat->Prop} {H H':Array Go.Obj}
theorem sib {t:Ty} {O:List Nat} {b off:Nat} {x:t.den} (hR:g9 H S t O (e8 H b off t.size) x) (hb:off+t.size<=(w6 H b).length) (hc:e8 H' b off t.size=e8 H b off t.size) (hO:∀ c∈O,H'[c]?=H[c]?)
  {q:List Step} (ho:x8 t x q) {u:Ty} {y:u.den} (hg:j9 t x q=some ⟨u,y⟩) {b' aA:Nat} (hn:y8 H t q b off=some (b',aA)):y8 H' t q b off=some (b',aA)/\e8 H' b' aA u.size=e8 H b' aA u.size :=
 ⟨(zp hR hb ho hc hO).trans hn,zg hR hb ho hc hO hg hn⟩
theorem XL:∀ {t:Ty} {p:List Step} {b off:Nat} {O1:List Nat} {x:t.den},w5 H S t p b off O1 x->off+t.size<=(w6 H b).length->e8 H' b off t.size=e8 H b off t.size->(∀ c∈O1,H'[c]?=H[c]?) ->
  ∀ {u0:Ty} {y0:u0.den},j9 t x p=some ⟨u0,y0⟩->∀ {b0 off0:Nat},y8 H t p b off=some (b0,off0) ->
  (∀ {q:List Step},x8 u0 y0 q->∀ {u:Ty} {y:u.den},j9 u0 y0 q=some ⟨u,y⟩->∀ {b' aA:Nat},y8 H u0 q b0 off0=some (b',aA)->y8 H' u0 q b0 off0=some (b',aA)/\e8 H' b' aA u.size=e8 H b' aA u.size) ->
  ∀ {q:List Step},x8 t x q->∀ {u:Ty} {y:u.den},j9 t x q=some ⟨u,y⟩->∀ {b' aA:Nat},y8 H t q b off=some (b',aA)->y8 H' t q b off=some (b',aA)/\e8 H' b' aA u.size=e8 H b' aA u.size:=by
 intro t;have here:∀ {t:Ty} {x:t.den} {b off:Nat},e8 H' b off t.size=e8 H b off t.size->∀ {u:Ty} {y:u.den},j9 t x []=some ⟨u,y⟩->∀ {b' aA:Nat},y8 H t [] b off=some (b',aA)->y8 H' t [] b off=some (b',aA)/\e8 H' b' aA u.size=e8 H b' aA u.size:=by
  intro t x b off hc u y hg b' aA hn;rw [C1] at hg; cases hg;rw [y9] at hn; cases hn;exact ⟨y9 ..,hc⟩
 induction t with
 | pair a c iha ihc =>
  intro p b off O1 x hR hb hc hO u0 y0 dC b0 off0 da hP q ho u y hg b' aA hn
  match p,hR,dC,da with
  | [],_,dC,da =>
   rw [C1] at dC; cases dC;rw [y9] at da; cases da;exact hP ho hg hn
  | .l8 0::p,⟨P1,P2,e,h1,h2⟩,dC,da =>
   subst e;simp only [Ty.size] at hb hc
   match q,ho,hg,hn with
   | [],_,hg,hn=>exact here hc hg hn
   | .l8 0::q,ho,hg,hn=>exact iha h1 (by omega) (xW hc (by omega) (by omega)) (λ c hc=>hO c (by simp [hc])) dC da hP ho hg hn
   | .l8 (m+1)::q,ho,hg,hn=>exact sib h2 (by omega) (xW hc (by omega) (by omega)) (λ c hc=>hO c (by simp [hc])) (q:=.l8 m::q) ho hg hn
   | .idx i::q,ho,_,_=>simp [x8] at ho
  | .l8 (n+1)::p,⟨P1,P2,e,h1,h2⟩,dC,da =>
   subst e;simp only [Ty.size] at hb hc
   match q,ho,hg,hn with
   | [],_,hg,hn=>exact here hc hg hn
   | .l8 0::q,ho,hg,hn=>exact sib h1 (by omega) (xW hc (by omega) (by omega)) (λ c hc=>hO c (by simp [hc])) (q:=q) ho hg hn
   | .l8 (m+1)::q,ho,hg,hn=>exact ihc h2 (by omega) (xW hc (by omega) (by omega)) (λ c hc=>hO c (by simp [hc])) dC da hP (q:=.l8 m::q) ho hg hn
   | .idx i::q,ho,_,_=>simp [x8] at ho
  | .idx i::p,hR,_,_=>simp [w5] at hR
 | arr n t ih =>
  intro p b off O1 x hR hb hc hO u0 y0 dC b0 off0 da hP q ho u y hg b' aA hn
  match p,hR,dC,da with
  | [],_,dC,da =>
   rw [C1] at dC; cases dC;rw [y9] at da; cases da;exact hP ho hg hn
  | .l8 i::p,hR,_,_=>simp [w5] at hR
  | .idx i::p,⟨hl,hi,P1,P2,P3,e,h1,h2,h3⟩,dC,da =>
   subst e;obtain ⟨b1,b2,b3,b4⟩:=E1 (sz:=t.size) hi;simp only [Ty.size] at hb hc
   match q,ho,hg,hn with
   | [],_,hg,hn=>exact here hc hg hn
   | .l8 j::q,ho,_,_=>simp [x8] at ho
   | .idx j::q,⟨hj,ho⟩,hg,hn =>
    obtain ⟨d1,d2,d3,d4⟩:=E1 (sz:=t.size) hj;simp only [y8] at hn ⊢;simp only [j9] at hg;have gR:e8 H' b (off+j.toNat*t.size) t.size=e8 H b (off+j.toNat*t.size) t.size:=xW hc (by omega) (by omega);by_cases bS:i.toNat=j.toNat
    ·rw [<- bS] at ho hg hn gR ⊢
     exact ih h2 (by omega) gR (λ c hc=>hO c (by simp [hc])) dC da hP ho hg hn
    ·rcases aDs bS with bf|fp
     ·have hd:j.toNat - (i.toNat+1)<(List.drop (i.toNat+1) x).length:=by simp only [aAq]; omega
      obtain ⟨Q1,Q2,Q3,e,k1,k2,k3⟩:=j5.split (d:=t.s4) hd h3;have e1:(i.toNat+1)*t.size+(j.toNat - (i.toNat+1))*t.size=j.toNat*t.size:=by rw [<- aBl]; congr 1; omega
      have hm:(j.toNat - (i.toNat+1))*t.size+t.size<=(n - (i.toNat+1))*t.size:=by omega
      rw [o6,n7 _ _ _ _ (by omega),aBk,e1] at k2;have e2:(List.drop (i.toNat+1) x).getD (j.toNat - (i.toNat+1)) t.s4=List.getD x j.toNat t.s4:=by
       simp only [aAb,aBi];rw [show i.toNat+1+(j.toNat - (i.toNat+1))=j.toNat from by omega]
      rw [e2] at k2;exact sib k2 (by omega) gR (λ d hd=>hO d (by rw [e]; simp [hd])) ho hg hn
     ·have hd:j.toNat<(List.take i.toNat x).length:=by simp only [aAk]; omega
      obtain ⟨Q1,Q2,Q3,e,k1,k2,k3⟩:=j5.split (d:=t.s4) hd h1;have hm:j.toNat*t.size+t.size<=i.toNat*t.size:=by
       rw [<- aBf]; exact aAm _ (by omega)
      rw [o6,n7 _ _ _ _ (by omega)] at k2;have e2:(List.take i.toNat x).getD j.toNat t.s4=List.getD x j.toNat t.s4:=by
       simp only [aAb,aBn];rw [if_pos (by omega)]
      rw [e2] at k2;exact sib k2 (by omega) gR (λ d hd=>hO d (by rw [e]; simp [hd])) ho hg hn
 | d0 o t ih =>
  intro p b off O1 x hR hb hc hO u0 y0 dC b0 off0 da hP q ho u y hg b' aA hn
  match p,hR,dC,da with
  | [],_,dC,da =>
   rw [C1] at dC; cases dC;rw [y9] at da; cases da;exact hP ho hg hn
  | .l8 i::p,hR,_,_=>cases o<;>simp [w5] at hR
  | .idx i::p,hR,dC,da =>
   cases o with
   | false=>simp [w5] at hR
   | true =>
    obtain ⟨hi,c1,o1,cap,P1,P2,P3,e,e1,e2,e3,e4,e5,e6,e7⟩:=hR;subst e;obtain ⟨b1,b2,b3,b4⟩:=E1 (sz:=t.size) hi;have cO:List.length x*t.size<=cap*t.size:=aAm _ e2;have qa:=e4.free.w6;simp only [Ty.size] at hb hc
    match q,ho,hg,hn with
    | [],_,hg,hn=>exact here (t:=.d0 true t) hc hg hn
    | .l8 j::q,ho,_,_=>simp [x8] at ho
    | .idx j::q,⟨hj,ho⟩,hg,hn =>
     obtain ⟨d1,d2,d3,d4⟩:=E1 (sz:=t.size) hj;have jb:(w6 H' b)[off]?=some (.slice (some ⟨c1,o1,none⟩) (List.length x) cap):=by
      rw [b6Z hc (j:=off) (by omega) (by omega)]; exact e1
     simp only [y8,e1] at hn da;simp only [y8,jb];simp only [j9] at hg;have gR:e8 H' c1 (o1+j.toNat*t.size) t.size=e8 H c1 (o1+j.toNat*t.size) t.size:=l6 (hO c1 (by simp)) _ _;by_cases bS:i.toNat=j.toNat
     ·rw [<- bS] at ho hg hn gR ⊢
      exact ih e6 (by omega) gR (λ c hc=>hO c (by simp [hc])) dC da hP ho hg hn
     ·rcases aDs bS with bf|fp
      ·have hd:j.toNat - (i.toNat+1)<(List.drop (i.toNat+1) x).length:=by simp only [aAq]; omega
       obtain ⟨Q1,Q2,Q3,e,k1,k2,k3⟩:=j5.split (d:=t.s4) hd e7;have f1:(i.toNat+1)*t.size+(j.toNat - (i.toNat+1))*t.size=j.toNat*t.size:=by rw [<- aBl]; congr 1; omega
       have hm:(j.toNat - (i.toNat+1))*t.size+t.size<=(List.length x - (i.toNat+1))*t.size:=by omega
       rw [o6,n7 _ _ _ _ (by omega),aBk,f1] at k2;have f2:(List.drop (i.toNat+1) x).getD (j.toNat - (i.toNat+1)) t.s4=List.getD x j.toNat t.s4:=by
        simp only [aAb,aBi];rw [show i.toNat+1+(j.toNat - (i.toNat+1))=j.toNat from by omega]
       rw [f2] at k2;exact sib k2 (by omega) gR (λ d hd=>hO d (by rw [e]; simp [hd])) ho hg hn
      ·have hd:j.toNat<(List.take i.toNat x).length:=by simp only [aAk]; omega
       obtain ⟨Q1,Q2,Q3,e,k1,k2,k3⟩:=j5.split (d:=t.s4) hd e5;have hm:j.toNat*t.size+t.size<=i.toNat*t.size:=by
        rw [<- aBf]; exact aAm _ (by omega)
       rw [o6,n7 _ _ _ _ (by omega)] at k2;have f2:(List.take i.toNat x).getD j.toNat t.s4=List.getD x j.toNat t.s4:=by
        simp only [aAb,aBn];rw [if_pos (by omega)]
       rw [f2] at k2;exact sib k2 (by omega) gR (λ d hd=>hO d (by rw [e]; simp [hd])) ho hg hn
 | _ =>
  intro p b off O1 x hR hb hc hO u0 y0 dC b0 off0 da hP q ho u y hg b' aA hn
  match p,hR,dC,da with
  | [],_,dC,da =>
   rw [C1] at dC; cases dC;rw [y9] at da; cases da;exact hP ho hg hn
  | .idx i::p,hR,_,_=>simp [w5] at hR
  | .l8 i::p,hR,_,_=>simp [w5] at hR
theorem c0P {t0:Ty} {l:List t0.den} {b off b1 o1 cap n:Nat} {Op:List Nat} (hR:g9 H S (.d0 true t0) Op (e8 H b off 1) l) (gJ:∀ c∈Op,c<H.size) (aJ:Op.Nodup) (hb:b<H.size) (bR:b∉Op)
  (hh:e8 H b off 1=[.slice (some ⟨b1,o1,none⟩) l.length cap]) (h1:1<=cap) (hc:X1 H H' b1 (o1+l.length*t0.size) n) :
  ∀ {q:List Step},x8 (.d0 true t0) l q->∀ {u:Ty} {y:u.den},j9 (.d0 true t0) l q=some ⟨u,y⟩->∀ {b' aA:Nat},y8 H (.d0 true t0) q b off=some (b',aA)->y8 H' (.d0 true t0) q b off=some (b',aA)/\e8 H' b' aA u.size=e8 H b' aA u.size:=by
 intro q ho u y hg b' aA hn;rcases hR with ⟨_,⟨A,c,e,ep⟩,_⟩|⟨b2,o2,cap2,O',c1,c2,c3,c4,c5,rfl,c7⟩
 ·rw [hh] at e
  simp only [aBa,Value.slice.injEq,and_true] at e;have:=ep rfl; omega
 ·rw [hh] at c1
  simp only [aBa,Value.slice.injEq,aAc,Addr.mk.injEq,and_true] at c1;obtain ⟨⟨rfl,rfl⟩,-,rfl⟩:=c1;have bt:b≠b1:=λ e=>bR (by simp [e]);have cx:e8 H' b off 1=e8 H b off 1:=hc.cells hb (λ e=>absurd e bt)
  match q,ho,hg,hn with
  | [],_,hg,hn =>
   rw [C1] at hg; cases hg;rw [y9] at hn; cases hn;exact ⟨y9 ..,cx⟩
  | .l8 j::q,ho,_,_=>simp [x8] at ho
  | .idx j::q,⟨hj,ho⟩,hg,hn =>
   obtain ⟨d1,d2,d3,d4⟩:=E1 (sz:=t0.size) hj;have jb:=(R3 b off _).1 hh;have pV:=(R3 b off _).1 (cx.trans hh);simp only [y8,jb] at hn;simp only [y8,pV];simp only [j9] at hg;obtain ⟨P1,P2,P3,e,g1,g2,g3⟩:=j5.split (d:=t0.s4) d1 c5;subst e;rw [o6,n7 _ _ _ _ (by omega)] at g2;have cO:=c7.free.w6;have dY:List.length l*t0.size<=cap*t0.size:=aAm _ c2;refine sib g2 (by omega) (hc.cells (gJ b1 (by simp)) (λ _=>.inl (by omega))) (λ d hd=>hc.rest d ?_ (gJ d (by simp [hd]))) ho hg hn;rintro rfl;exact (aAs.1 aJ).1 (by simp [hd])
end
section
variable {E:Env} {B:E6} {S:Nat->Prop} {ι:Ix} {s:St} {a:Act} {w:World}
theorem RS.spare (h:RS B S ι s a w) {i:Nat} {e:i6} (he:look i s.hp=some e) (_hnb:e≠.M0) {w':World} (k:D0 (l7 ι i e) w w') (aS:OB w'.heap S ι i e) (aW:w'.heap.size=w.heap.size)
  (ju:∀ {q:List Step},x8 e.ty e.x q->∀ {u:Ty} {y:u.den},j9 e.ty e.x q=some ⟨u,y⟩->∀ {b off:Nat},Place w.heap ι i e q=some (b,off)->Place w'.heap ι i e q=some (b,off)/\e8 (VH w'.heap ι i e) b off u.size=e8 (VH w.heap ι i e) b off u.size) :
  RS B S ι s a w':=by
 have hold:∀ {b:Nat},((∃ j ej,j≠i/\look j s.hp=some ej/\b∈l7 ι j ej)\/S b)->w'.heap[b]?=w.heap[b]?:=by
  intro b hb;refine k.frame b (hb.elim (λ⟨j,ej,_,h1,h2⟩=>(h.hs.bl j ej h1 b h2).2.2) (h.hs.slt b)) (λ ou=>?_);rcases hb with ⟨j,ej,h0,h1,h2⟩|hb
  ·exact h.hs.dj i j e ej he h1 (Ne.symm h0) b ou h2
  ·exact (h.hs.bl i e he b ou).1 hb
 have qP:HS B S ι s.hp w':=by
  refine ⟨k.os.trans h.hs.os,k.tape.trans h.hs.tape,k.out.trans h.hs.out,by rw [aW]; exact h.hs.size,?_,λ b hb=>by rw [aW]; exact h.hs.slt b hb,h.hs.s0,h.hs.s1,?_,λ j ej hj c hc=>?_,h.hs.dj,h.hs.pin⟩
  ·intro c hc hm
   rw [k.frame c (aAr hc h.hs.size) (λ qt=>by rcases (h.hs.bl i e he c qt).2.1 with h1|h1; omega; exact hm h1)];exact h.hs.frame c hc hm
  ·intro j ej hj
   by_cases e1:j=i
   ·subst e1; rw [he] at hj; cases hj; exact aS
   ·exact (h.hs.ob j ej hj).u5 (λ b hb=>hold (hb.imp (λ hb=>⟨j,ej,e1,hj,hb⟩) id)) (λ _ h=>h)
  ·rw [aW]; exact h.hs.bl j ej hj c hc
 have hJ:∀ {j:Nat} {ej:i6},look j s.hp=some ej->∀ {q:List Step},x8 ej.ty ej.x q->∀ {r:Nat×Nat},Loc w.heap ι j ej q=some r->Loc w'.heap ι j ej q=some r:=by
  intro j ej hj q aM r hl;by_cases e1:j=i
  ·subst e1; rw [he] at hj; cases hj
   obtain ⟨u,y,hg⟩:=Ss aM;obtain ⟨g1,g2⟩:=C8 (b:=r.1) (off:=r.2) hl;exact wv (ju aM hg g1).1 (by rw [aW]; exact g2)
  ·exact Fk (K9 hl) (h.hs.ob j ej hj) h.hs.slt (λ b hb=>hold (.inl ⟨j,ej,e1,hj,hb⟩)) aM hl
 have iN:∀ {j:Nat} {ej:i6},look j s.hp=some ej->∀ {q:List Step},x8 ej.ty ej.x q->∀ {u:Ty} {y:u.den},j9 ej.ty ej.x q=some ⟨u,y⟩->∀ {cs:List Value},Cells w.heap ι j ej q u cs->Cells w'.heap ι j ej q u cs:=by
  intro j ej hj q aM u y hg cs hc;by_cases e1:j=i
  ·subst e1; rw [he] at hj; cases hj
   obtain ⟨b0,o0,g1,g2⟩:=hc;obtain ⟨m1,m2⟩:=ju aM hg g1;exact ⟨b0,o0,m1,g2.trans m2.symm⟩
  ·exact LU (Ct hc) (h.hs.ob j ej hj) h.hs.slt (λ b hb=>hold (.inl ⟨j,ej,e1,hj,hb⟩)) aM hg hc
 refine ⟨qP,h.dfr,h.sz,λ t v hv=>?_⟩;have:=VX.map (H':=w'.heap) (S':=S) (ι':=ι) (cE:=s.hp) (f:=λ u=>u) (λ b hb=>hold (.inr hb)) (λ _ h=>h) ?_ (h.fr t v hv)
 ·rwa [AV.map_id] at this
 ·intro u vs hu _ h
  cases u<;>simp only [AV.ref] at hu<;>try cases hu
  ·obtain ⟨e',b,off,h1,h2,h3,h4⟩:=h
   exact ⟨e',b,off,h1,h2,hJ h1 h2 h3,h4⟩
  ·obtain ⟨e',u,y,cs,h1,h2,h3,h4,h5⟩:=h
   exact ⟨e',u,y,cs,h1,h2,h3,iN h1 h2 h3 h4,h5⟩
  ·obtain ⟨e',v',h1,h2,h3,h4,h5,h6⟩:=h
   refine ⟨e',v',h1,h2,h3,h4,h5,?_⟩;rcases h6 with ⟨t,l,a,cap,k1,k2,k3,k4⟩|⟨n,t,l,b,off,k1,k2,k3,k4⟩
   ·exact .inl ⟨t,l,a,cap,k1,k2,iN h1 h2 k1 k3,k4⟩
   ·exact .inr ⟨n,t,l,b,off,k1,k2,hJ h1 h2 k3,k4⟩
def yS (B:E6) (S:Nat->Prop) (ι:Ix) (hp:List (Nat×i6)) (g:List Nat) (i:Nat) (e:i6) (p:List Step) (t0:Ty) (l m:List t0.den) (b off:Nat) (v':Value) (w:World):Prop :=
 ∃ O',Loc w.heap ι i e p=some (b,off)/\g9 w.heap S (.d0 true t0) O' [v'] (l++m)/\O'.Nodup/\b∉O' /\
  ∀ c∈O',(¬ S c/\(B.w0.heap.size<=c\/B.M c)/\c<w.heap.size)/\(∀ j ej,j≠i->j∉g->look j hp=some ej->c∉l7 ι j ej) /\
   (c∈l7 ι i e->∃ Op,g9 w.heap S (.d0 true t0) Op (e8 w.heap b off 1) l/\c∈Op)
theorem TY (hE:D3 E B) (h:RS B S ι s a w) {o:Oper} {c:Call} (ho:o.op=.call c) (hc:c.callee=.builtin .append) {x y:Operand} {T U:TypeId} (ha:c.args.toList=[x,y]) (fb:c.argTypes.toList=[T,U])
  (hk:(∃ e',E.P.underlying U=some (.slice e'))\/E.P.underlying U=some .string) {q:Bool} {t0:Ty} {bts:Nat} (hT:look T E.tt=some ⟨.d0 q t0,bts⟩) {i:Nat} {p:List Step} (hx:s.ev x=.at_ i p)
  {e:i6} (he:look i s.hp=some e) (ki:(∃ t x,e=.var t x)\/∃ t x j q,e=.own (.d0 true t) x/\p=.idx j::q) {l:List t0.den} (hg:j9 e.ty e.x p=some ⟨.d0 true t0,l⟩)
  {b off:Nat} (hl:Loc w.heap ι i e p=some (b,off)) {m:List t0.den} {g:List Nat} (cp:(s.ev y).vw s t0=some (⟨t0,m⟩,g)) (eh:i∉g) (_hgn:g.Nodup)
  (iT:l.length+m.length<=140737488355328) (gS:(l.length+m.length)*t0.wb<=140737488355328) :
  ∃ v' w',(execOp a.eval o).run E.P w=.ok (.value v') w'/\RS B S ι s a w'/\x8 e.ty e.x p/\yS B S ι s.hp g i e p t0 l m b off v' w':=by
 have cF:e≠.M0:=K9 hl;obtain ⟨Og,news,k1,k2,k3,k4⟩:=JA (P:=E.P) h hk cp (h.ev y);obtain ⟨e2,u,y2,cs,r1,aM,r3,r4,r5⟩:=C3 h hx;rw [he] at r1; cases r1;rw [hg] at r3; cases r3;obtain ⟨Op,m1,mn,m2,m3,m4,m5⟩:=N5 cF (h.hs.ob i e he) h.hs.slt aM hg hl;have fw:=(h.hs.ob i e he).zy cF h.hs.slt aM hg hl m2;obtain ⟨cd,dm⟩:=C8 hl;have hcs:cs=e8 w.heap b off 1:=by
  obtain ⟨b0,off0,q1,q2⟩:=r4;rw [cd] at q1; cases q1;rw [l6 (G4 dm)] at q2;exact q2
 have eT:e8 w.heap b off 1=[a.eval x]:=by
  have gk:(e8 w.heap b off 1).length=1:=m2.length;have r5':a.eval x=l5 (.d0 true t0) cs:=by simpa using r5
  rw [r5',hcs]
  match cU:e8 w.heap b off 1,gk with
  | [z],_=>rfl
 have m2':g9 w.heap S (.d0 true t0) Op [a.eval x] l:=by rw [<- eT]; exact m2
 have dd:o8 E.P 100 T (.d0 true t0)=true:=Er (t:=.d0 q t0) (u:=.d0 true t0) rfl (r7 hE hT);have dy:∀ c∈Op,c∈l7 ι i e:=λ c hc=>G6 (m1 c hc);have aJ:(Op++Og).Nodup:=aAg.2 ⟨mn,k3,by
  rintro c h1 c' h2 rfl;obtain ⟨j,e',j1,j2,j3⟩:=k4 c h2;exact h.hs.dj i j e e' he j2 (by rintro rfl; exact eh j1) c (dy c h1) j3⟩
 have lX:∀ c∈Og,¬ S c/\(B.w0.heap.size<=c\/B.M c)/\c<w.heap.size:=λ c hc=>by
  obtain ⟨j,e',_,j2,j3⟩:=k4 c hc;exact h.hs.bl j e' j2 c j3
 have lD:=λ c hc=>h.hs.bl i e he c (dy c hc);obtain ⟨v',w',O',q1,q2,q3,q4,q5,q6,q7⟩:=SX dd o.type h.hs.slt m2' k1 k2 aJ (λ c hc=>(aAi.1 hc).elim (λ h=>⟨(lD c h).1,(lD c h).2.2⟩) (λ h=>⟨(lX c h).1,(lX c h).2.2⟩)) iT gS;have aH:c.args=#[x,y]:=by rw [<- ha]
 have eC:c.argTypes=#[T,U]:=by rw [<- fb]
 have aP:(execOp a.eval o).run E.P w=.ok (.value v') w':=by
  simp [execOp,ho,resolve,hc,invoke,builtin,aH,eC,q1]
 have fY:∀ c∈l7 ι i e,¬ S c/\c<w.heap.size:=λ c hc=>⟨(h.hs.bl i e he c hc).1,(h.hs.bl i e he c hc).2.2⟩;have bN:e8 w'.heap b off 1=[a.eval x]:=by rw [l6 (q4.frame b dm fw)]; exact eT
 obtain ⟨n2,n3⟩:=OB.same (H':=w'.heap) (h.hs.ob i e he) fY h.hs.slt ki aM hg hl q4.size m2 (λ c hc hn=>q4.frame c hc hn) (by
  show g9 w'.heap S (.d0 true t0) Op (e8 w'.heap b off 1) l;rw [bN]; exact q6)
 have tY:RS B S ι s a w':=by
  rcases q7 with q7|⟨b1,o1,cap,n,f1,f2,f3,f4,f5⟩
  ·exact h.vn F2.nil q7
  ·have dE:b1∈Op:=by
    rcases m2' with ⟨_,⟨A,c,e0,ep⟩,_⟩|⟨b2,o2,cap2,O2,c1,_,_,_,_,rfl,_⟩
    ·rw [f1] at e0
     simp only [aBa,Value.slice.injEq,and_true] at e0;have:=ep rfl; omega
    ·rw [f1] at c1
     simp only [aBa,Value.slice.injEq,aAc,Addr.mk.injEq,and_true] at c1;rw [c1.1.1]; simp
   refine h.spare he cF (q4.mono dy) n2 f5 ?_;obtain ⟨O,hO,hR,eu,gy,pL,gi,dV⟩:=(h.hs.ob i e he).see cF h.hs.slt;obtain ⟨O1,O3,b',aA,g1,g2,g3,g4,g5,g6⟩:=focus hR eu aM hg
   have mw:=cd;rw [I2 cF,g3] at mw; cases mw;have g4':g9 w.heap S (.d0 true t0) O3 (e8 w.heap b off 1) l:=by
    have g4:g9 (VH w.heap ι i e) S (.d0 true t0) O3 (e8 (VH w.heap ι i e) b off 1) l:=g4;rw [l6 (G4 dm)] at g4;exact (wx (λ c hc=>(h.hs.ob i e he).U5 cF (hO.mem_iff.1 (g1.mem_iff.2 (by simp [hc])))) h.hs.slt).1 g4
   obtain rfl:Op=O3:=m2.det g4';have cq:(O1++Op).Nodup:=(g1.nodup_iff).1 ((hO.nodup_iff).2 (aAs.1 gy).2);have gU:b1<w.heap.size:=(fY b1 (dy b1 dE)).2;have bI:b1≠(VR w.heap ι i e).1:=by
    rintro rfl;exact (aAs.1 gy).1 (hO.mem_iff.1 (g1.mem_iff.2 (by simp [dE])))
   have qD:(VR w'.heap ι i e)=(VR w.heap ι i e):=by cases e<;>simp [VR,f5]
   have hV:∀ c,c≠b1->(VH w'.heap ι i e)[c]?=(VH w.heap ι i e)[c]?:=by
    intro c cx;have hr:∀ c,c≠b1->w'.heap[c]?=w.heap[c]?:=by
     intro c cx;rcases aEd c w.heap.size with h1|h1
     ·exact f4.rest c cx h1
     ·rw [aCf h1,aCf (by omega)]
    cases e with
    | own t x =>
     simp only [VH,gh];rw [aEc,aEc,f5]
     split
     ·rfl
     ·exact hr c cx
    | _=>exact hr c cx
   have tS:X1 (VH w.heap ι i e) (VH w'.heap ι i e) b1 (o1+l.length*t0.size) n:=by
    obtain ⟨arr,cZ,T',⟨fz,⟨z1,z2⟩,z3⟩,z4,z5⟩:=f4.at_;exact ⟨⟨arr,cZ,T',⟨fz,⟨(G4 gU).trans z1,z2⟩,(G4 (by omega)).trans z3⟩,z4,z5⟩,λ c cx _=>hV c cx⟩
   intro q' mE u' y' kl b' o' cE;rw [I2 cF] at cE ⊢;rw [qD];have tN:b<(VH w.heap ι i e).size:=aAr dm xq;refine XL g2 eu (l6 (hV _ (Ne.symm bI)) _ _) (λ c hc=>hV c ?_) hg g3 ?_ mE kl cE
   ·rintro rfl
    exact (aAg.1 cq).2.2 c hc c dE rfl
   ·have tJ:e8 (VH w.heap ι i e) b off 1=[.slice (some ⟨b1,o1,none⟩) l.length cap]:=by
     rw [l6 (G4 dm),eT,f1]
    intro q2 mq u2 y2 tm b2 off2 lQ;exact c0P (H':=VH w'.heap ι i e) g4 (λ c hc=>aAr (fY c (dy c hc)).2 xq) mn tN fw tJ f3 tS mq tm lQ
 refine ⟨v',w',aP,tY,aM,O',n3,q2,q3,?_,?_⟩
 ·intro hb
  rcases (q5 b hb).1 with h1|h1
  ·omega
  ·rcases aAi.1 h1 with h1|h1
   ·exact fw h1
   ·obtain ⟨j,e',j1,j2,j3⟩:=k4 b h1
    exact h.hs.dj i j e e' he j2 (by rintro rfl; exact eh j1) b m4 j3
 ·intro c hc
  obtain ⟨f1,f2⟩:=q5 c hc;have fact:(¬ S c/\(B.w0.heap.size<=c\/B.M c)/\c<w'.heap.size)/\(∀ j ej,j≠i->j∉g->look j s.hp=some ej->c∉l7 ι j ej)/\(c∈l7 ι i e->c∈Op):=by
   rcases f1 with f1|f1
   ·exact ⟨⟨λ hs=>by have:=h.hs.slt c hs; omega,.inl (aAv h.hs.size f1),f2⟩,λ j ej _ _ hj cx=>by have:=(h.hs.bl j ej hj c cx).2.2; omega,λ cx=>by have:=(fY c cx).2; omega⟩
   ·rcases aAi.1 f1 with f1|f1
    ·have:=lD c f1
     exact ⟨⟨this.1,this.2.1,f2⟩,λ j ej hj _ di=>h.hs.dj i j e ej he di (Ne.symm hj) c (dy c f1),λ _=>f1⟩
    ·have:=lX c f1
     obtain ⟨j0,e0,j1,j2,j3⟩:=k4 c f1;exact ⟨⟨this.1,this.2.1,f2⟩,λ j ej _ fV di=>h.hs.dj j0 j e0 ej j2 di (by rintro rfl; exact fV j1) c j3,λ cx=>absurd cx (h.hs.dj j0 i e0 e j2 he (by rintro rfl; exact eh j1) c j3)⟩
  exact ⟨fact.1,fact.2.1,λ cx=>⟨Op,by rw [bN]; exact q6,fact.2.2 cx⟩⟩
theorem CB {e:i6} {p:List Step} {r:Sigma Ty.den} (h:Ac e p r=true):BF e e/\((∃ t x,e=.var t x)\/∃ t x j q,e=.own (.d0 true t) x/\p=.idx j::q):=by
 unfold Ac at h;split at h
 ·exact ⟨.inl ⟨_,_,_,rfl,rfl⟩,.inl ⟨_,_,rfl⟩⟩
 ·split at h
  ·exact ⟨.inr (.inl ⟨_,_,_,rfl,rfl⟩),.inr ⟨_,_,_,_,rfl,rfl⟩⟩
  ·cases h
 ·cases h
theorem yK {a:Act} {t d:Nat} {v:Value} (h:t≠d):(a.put (some d) v).eval (.tmp t)=a.eval (.tmp t):=by
 show (a.tmps.setIfInBounds d v).getD t undef=a.tmps.getD t undef;simp only [aCi,aDc,if_neg (Ne.symm h)]
theorem Kq {a:Act} {d:Nat} {v:Value} (h:d<a.tmps.size):(a.put (some d) v).eval (.tmp d)=v:=by
 show (a.tmps.setIfInBounds d v).getD d undef=v;simp only [aCi,aDc,if_pos h]; rfl
theorem Ts (hE:D3 E B) (h:RS B S ι s a w) {g:List Nat} (dO:(g.all λ i=>!pinned i)=true) {i:Nat} (eh:i∉g) {e:i6} (he:look i s.hp=some e) {p:List Step} (aM:x8 e.ty e.x p) {t0:Ty} {l m:List t0.den} (hg:j9 e.ty e.x p=some ⟨.d0 true t0,l⟩) {b off:Nat} {v':Value}
  (hP:yS B S ι s.hp g i e p t0 l m b off v' w) {o:Oper} {T:TypeId} {ad:Operand} {d:Nat} (ho:o.op=.store T ad (.tmp d)) (lA:a.eval ad=.pointer (some ⟨b,off,none⟩)) (hv:a.eval (.tmp d)=v') (bH:I6 E T (.d0 true t0)=true)
  {r:Sigma Ty.den} (aK:u6 e.ty e.x p (.d0 true t0) (l++m)=some r):y7 E.P B o a w (.raw undef) (((St.w9 g s).kill i e.kd p).w8 i (e.E3 r)):=by
 obtain ⟨O',hl,k5,k6,k7,k8⟩:=hP;have hd:=h.w9 (g:=g) dO;have jz:look i (St.w9 g s).hp=some e:=by rw [J9,if_neg eh]; exact he
 refine AQ hE hd ho (i:=i) (e:=e) jz aM hl lA hg bH (u':=.d0 true _) (O2:=O') (cs:=[v']) k5 k6 (by rw [hv]; rfl) aK (λ c hc=>?_) k7;obtain ⟨f1,f2,f3⟩:=k8 c hc;refine ⟨f1,λ j ej hj di=>?_,f3⟩;rw [J9] at di;split at di
 ·cases di
 ·rename_i fV; exact f2 j ej hj fV di
theorem ZT (hE:D3 E B) (h:RS B S ι s a w) {o:Oper} {c:Call} (ho:o.op=.call c) (hc:c.callee=.builtin .append) {x y:Operand} {T U:TypeId} (ha:c.args.toList=[x,y]) (fb:c.argTypes.toList=[T,U])
  {o2:Oper} {T2:TypeId} {adv:AV} {ad:Operand} {d:Nat} (_ho2:o2.op=.store T2 ad (.tmp d)) {p:Prop} {s2:St} (hb:ye E T U T2 (s.ev x) (s.ev y) adv d s=some (p,s2)) (hp:p) :
  ∃ i p0 e t0 l m g r v' w',s.ev x=.at_ i p0/\adv=.ptr i p0/\look i s.hp=some e/\i∉g/\(g.all λ i=>!pinned i)=true/\j9 e.ty e.x p0=some ⟨.d0 true t0,l⟩/\I6 E T2 (.d0 true t0)=true /\
   u6 e.ty e.x p0 (.d0 true t0) (l++m)=some r/\s2=(((St.w9 g (s.put (some d) .any)).kill i e.kd p0).w8 i (e.E3 r)) /\
   (execOp a.eval o).run E.P w=.ok (.value v') w'/\RS B S ι s a w'/\x8 e.ty e.x p0/\∀ b off,Loc w.heap ι i e p0=some (b,off)->yS B S ι s.hp g i e p0 t0 l m b off v' w':=by
 unfold ye at hb;split at hb
 ·rename_i i p0 j q q1 t0 bts u1 bts1 hx hT hU
  split at hb
  ·rename_i e aS jA
   simp only [aAa] at jA;obtain ⟨bS,jA⟩:=jA;have bS:=aAd bS;subst bS;split at hb
   ·rename_i u l hg
    split at hb
    ·rename_i t m g cp
     split at hb
     ·rename_i hu
      split at hb
      ·rename_i ht
       subst hu; subst ht;split at hb
       ·rename_i r aK
        split at hb
        ·rename_i bH
         cases hb;simp only [aAa,aAt] at bH;obtain ⟨⟨⟨⟨bH,bQ⟩,eh⟩,ig⟩,dO⟩:=bH;obtain ⟨rfl,iT,gS⟩:=hp;obtain ⟨_,ki⟩:=CB bQ;have eh:i∉g:=by intro hm; simp [hm] at eh
         have hk:(∃ e',E.P.underlying U=some (.slice e'))\/E.P.underlying U=some .string:=by
          cases u1<;>first|cases jA|skip
          ·exact .inr (U9 (r7 hE hU))
          ·obtain ⟨et,k',f1,_⟩:=G5 (r7 hE hU)
           exact .inl ⟨et,f1⟩
         have aS:look i s.hp=some e:=aS;have key:∀ b off,Loc w.heap ι i e q=some (b,off)->∃ v' w',(execOp a.eval o).run E.P w=.ok (.value v') w'/\RS B S ι s a w'/\x8 e.ty e.x q/\yS B S ι s.hp g i e q _ l m b off v' w' :=
          λ b off hl=>TY hE h ho hc ha fb hk hT hx aS ki hg hl cp eh (CS ig) iT gS
         obtain ⟨e2,u,y2,cs,r1,aM,r3,r4,r5⟩:=C3 h hx;rw [aS] at r1; cases r1;obtain ⟨b,off,hl⟩:=Cj (h.hs.ob i e aS) h.hs.slt (CB bQ).2 aM hg;obtain ⟨v',w',k1,k2,k3,k4⟩:=key b off hl;exact ⟨i,q,e,_,l,m,g,r,v',w',hx,rfl,aS,eh,dO,hg,bH,aK,rfl,k1,k2,k3,λ b' aA eA=>by rw [hl] at eA; cases eA; exact k4⟩
        ·cases hb
       ·cases hb
      ·cases hb
     ·cases hb
    ·cases hb
   ·cases hb
  ·cases hb
 ·cases hb
theorem c2E (hE:D3 E B) (h:RS B S ι s a w) {o:Oper} {c:Call} (ho:o.op=.call c) (hc:c.callee=.builtin .append) {x y:Operand} {T U:TypeId} (ha:c.args.toList=[x,y]) (fb:c.argTypes.toList=[T,U])
  {o2:Oper} {T2:TypeId} {ad:Operand} {d:Nat} (hd:H7 B.n (some d)=true) (iG:o2.op=.store T2 ad (.tmp d)) (lA:∀ t,ad=.tmp t->t≠d) {p:Prop} {s2:St} (hb:ye E T U T2 (s.ev x) (s.ev y) (s.ev ad) d s=some (p,s2)) (hp:p) :
  ∃ v' w',(execOp a.eval o).run E.P w=.ok (.value v') w'/\y7 E.P B o2 (a.put (some d) v') w' (.raw undef) s2:=by
 obtain ⟨i,p0,e,t0,l,m,g,r,v',w',hx,qB,aS,eh,dO,hg,bH,aK,rfl,k1,k2,k3,k4⟩:=ZT hE h ho hc ha fb iG hb hp;refine ⟨v',w',k1,?_⟩;obtain ⟨e',b,off,h1,h2,h3,h4⟩:=C3 h qB;rw [aS] at h1; cases h1;have iA:=k2.put hd (v:=.any) (val:=v') ⟨v',rfl⟩;have ly:(a.put (some d) v').eval ad=.pointer (some ⟨b,off,none⟩):=by
  have uw:a.eval ad=.pointer (some ⟨b,off,none⟩):=by simpa using h4
  rw [<- uw];cases ad with
  | tmp t=>exact yK (lA t rfl)
  | _=>rfl
 have dB:(a.put (some d) v').eval (.tmp d)=v':=Kq (by rw [h.sz]; simpa [H7,aDf] using hd);exact Ts hE iA (g:=g) dO eh (e:=e) (by simpa [St.put] using aS) h2 hg (k4 b off h3) iG ly dB bH aK
theorem Qw {o:Oper} (ho:Am o.op=true) {a a':Act} (h:∀ t∈BO o,a'.eval (.tmp t)=a.eval (.tmp t)):execOp a'.eval o=execOp a.eval o:=by
 have cw:∀ x∈o.op.operands.toList,a'.eval x=a.eval x:=by
  intro x hx;cases x with
  | tmp t=>exact h t (aBz.2 ⟨.tmp t,hx,rfl⟩)
  | _=>rfl
 unfold Am at ho;split at ho
 ·rename_i e; rw [e] at cw; simp [Op.operands] at cw; simp [execOp,e,cw]
 ·rename_i e; rw [e] at cw; simp [Op.operands] at cw; simp [execOp,e,cw]
 ·rename_i e; rw [e] at cw; simp [Op.operands] at cw; simp [execOp,e,cw]
 ·cases ho
theorem Rd {a:Act} {d e:Nat} {v u:Value} (h:d≠e):(a.put (some d) v).put (some e) u=(a.put (some e) u).put (some d) v:=by
 simp only [Act.put];congr 1;apply Array.ext_getElem?;intro i;simp only [aDc,aGv];by_cases h1:e=i
 ·subst h1; simp [h]
 ·simp [h1]
theorem UD (hE:D3 E B) (hn:B.n=E.nt) {ops:Array Oper} {Q:Exit->Act->World->Prop} {oa:Oper} {c:Call} (ho:oa.op=.call c) (hc:c.callee=.builtin .append) {x y:Operand} {T U:TypeId} (ha:c.args.toList=[x,y]) (fb:c.argTypes.toList=[T,U])
  {d:Nat} (hd:H7 B.n (some d)=true):∀ {l:List Oper} {S:Nat->Prop} {ι:Ix} {s:St} {a:Act} {w:World} {p:Prop} {s2:St} {n:Nat},RS B S ι s a w->DW E T U x y d l s=some (p,s2,n)->p ->
  ∃ v' w',(execOp a.eval oa).run E.P w=.ok (.value v') w'/\((∀ S' ι' a' w'',RS B S' ι' s2 a' w''->wpList E.P ops Q (l.drop n) a' w'')->wpList E.P ops Q l (a.put (some d) v') w')
 | [],S,ι,s,a,w,p,s2,n,_,hf,_=>by cases hf
 | o::rest,S,ι,s,a,w,p,s2,n,h,hf,hp=>by
  have aH:c.args=#[x,y]:=by rw [<- ha]
  have eC:c.argTypes=#[T,U]:=by rw [<- fb]
  unfold DW at hf;split at hf
  ·rename_i hg gE
   split at hf
   ·rename_i nc
    split at hf
    ·rename_i d1 ko
     split at hf
     ·rename_i p1 v bY hv
      split at hf
      ·rename_i p2 s3 n2 kK
       cases hf;simp only [aAa,aAt] at bY;obtain ⟨⟨⟨c1,c2⟩,c3⟩,c4⟩:=bY;have bt:d1≠d:=by rintro rfl; simp at c1
       have dU:=Cw hE h nc;have dB:BA E.P S ι o a w s v:=by
        split at hv
        ·cases hv
        ·rename_i v0 s0 e0; cases hv; rw [e0] at dU; exact dU.2
        ·rename_i q0 v0 s0 e0; cases hv; rw [e0] at dU; exact (dU hp.1).2
       obtain ⟨val,aP,dv⟩:=dB;rw [ko] at gE;have cn:=h.put (d:=some d1) (by rw [hn]; exact gE) dv;obtain ⟨v',w',g1,g2⟩:=UD hE hn ho hc ha fb hd (ops:=ops) (Q:=Q) cn kK hp.2;have ex:(a.put (some d1) val).eval x=a.eval x:=by
        cases x with
        | tmp t=>exact yK (by rintro rfl; simp at c3)
        | _=>rfl
       have ey:(a.put (some d1) val).eval y=a.eval y:=by
        cases y with
        | tmp t=>exact yK (by rintro rfl; simp at c4)
        | _=>rfl
       refine ⟨v',w',?_,λ hk=>?_⟩
       ·rw [<- g1]; simp [execOp,ho,resolve,hc,invoke,builtin,aH,eC,ex,ey]
       ·unfold wpList
        simp only [Region.wanted,hg,if_true];refine .inl ?_;unfold Oper.wp;have mm:(execOp (a.put (some d) v').eval o).run E.P w'=.ok (.value val) w':=by
         have sD:∀ t∈BO o,(a.put (some d) v').eval (.tmp t)=a.eval (.tmp t):=by
          intro t ht;refine yK (λ e=>?_);rw [e] at ht;have h5:(BO o).contains d=true:=by simpa using ht
          rw [h5] at c2; cases c2
         rw [Qw nc sD]; exact aP w'
        rw [mm];show wpList E.P ops Q rest ((a.put (some d) v').put o.dst val) w';rw [ko,Rd (Ne.symm bt)];exact g2 hk
      ·cases hf
     ·cases hf
    ·cases hf
   ·split at hf
    ·rename_i T2 ad d' iG
     split at hf
     ·rename_i bY
      split at hf
      ·rename_i p1 s3 cp
       cases hf;simp only [aAa] at bY;obtain ⟨c1,c2⟩:=bY;obtain rfl:=aAd c1;obtain ⟨v',w',g1,g2⟩:=c2E hE h ho hc ha fb hd iG (λ t e=>by subst e; rintro rfl; simp at c2) cp hp;refine ⟨v',w',g1,λ hk=>?_⟩;unfold wpList;simp only [Region.wanted,hg,if_true];refine .inl (g2 _ _ (λ S' ι' w2 val h1 h2=>?_));exact hk S' ι' _ w2 (h1.put (by rw [hn]; exact gE) h2)
      ·cases hf
     ·cases hf
    ·cases hf
  ·cases hf
theorem c0O {e:i6} {p:List Step} {r:Sigma Ty.den} (h:Ac e p r=true):BF e (e.E3 r):=by
 unfold Ac at h;obtain ⟨r1,r2⟩:=r;split at h
 ·rename_i t x
  obtain rfl:r1=t:=of_decide_eq_true h;exact .inl ⟨r1,x,r2,rfl,rfl⟩
 ·rename_i t x
  split at h
  ·obtain rfl:r1=.d0 true t:=of_decide_eq_true h
   exact .inr (.inl ⟨t,x,r2,rfl,rfl⟩)
  ·cases h
 ·cases h
theorem OB.swap {H H1 H':Array Go.Obj} {i:Nat} {e:i6} (ho:OB H S ι i e) (bO:∀ c∈l7 ι i e,¬ S c/\c<H.size) (hS:∀ c,S c->c<H.size) {p:List Step} (hk:(∃ t x,e=.var t x)\/∃ t x j q,e=.own (.d0 true t) x/\p=.idx j::q) (aM:x8 e.ty e.x p) {u:Ty} {y:u.den} (hg:j9 e.ty e.x p=some ⟨u,y⟩)
  {b off:Nat} (hl:Loc H ι i e p=some (b,off)) (aW:H.size<=H1.size) {Op:List Nat} (gJ:g9 H S u Op (e8 H b off u.size) y) (hH:∀ c,c<H.size->c∉Op->H1[c]?=H[c]?) (hc:X1 H1 H' b off u.size) (jo:H'.size=H1.size)
  {u':Ty} {z:u'.den} {O2:List Nat} (hz:g9 H' S u' O2 (e8 H' b off u'.size) z) (eR:∀ c∈O2,c<H'.size/\(c<H.size->c∈Op)) (cY:O2.Nodup) {r:Sigma Ty.den} (aK:u6 e.ty e.x p u' z=some r) :
  ∃ O,(∀ c∈O,c∈ι.own i\/c∈O2)/\OB H' S (ι.C6 i O) i (e.E3 r):=by
 have he:e≠.M0:=K9 hl;have fw:=ho.zy he hS aM hg hl gJ;obtain ⟨Om,m1,mn,m2,m3,m4,m5⟩:=N5 he ho hS aM hg hl;obtain ⟨O,hO,hR,hb,aJ,bf,gi,dV⟩:=ho.see he hS;obtain ⟨O1,O3,b',aA,e1,e2,e3,e4,e5,e6⟩:=focus hR hb aM hg
 obtain ⟨cd,dm⟩:=C8 hl;rw [I2 he] at cd;rw [e3] at cd; cases cd;have cq:(O1++O3).Nodup:=(e1.nodup_iff).1 ((hO.nodup_iff).2 (aAs.1 aJ).2);have bn:∀ c∈O1,c∈ι.own i:=λ c hc=>hO.mem_iff.1 (e1.mem_iff.2 (by simp [hc]));have cK:∀ c∈O3,c∈ι.own i:=λ c hc=>hO.mem_iff.1 (e1.mem_iff.2 (by simp [hc]));have bI:=(aAs.1 aJ).1;have de:∀ c∈ι.own i,c∈l7 ι i e:=by intro c hc; cases e<;>simp [l7,hc]
 have e4':g9 H S u O3 (e8 H b off u.size) y:=by
  rw [l6 (G4 dm)] at e4;exact (wx (λ c hc=>ho.U5 he (cK c hc)) hS).1 e4
 obtain rfl:Op=O3:=gJ.det e4';have fa:∀ c∈O1,c<H.size:=λ c hc=>ho.U5 he (bn c hc);have dN:∀ c,(c=(VR H ι i e).1/\c<H.size)\/c∈O1\/S c->H1[c]?=H[c]?:=by
  rintro c (⟨rfl,h1⟩|h1|h1)
  ·exact hH _ h1 (λ h=>bI (cK _ h))
  ·exact hH c (fa c h1) (λ h=>(aAg.1 cq).2.2 c h1 c h rfl)
  ·exact hH c (hS c h1) (λ h=>(bO c (de c (cK c h))).1 h1)
 have jO:(∃ t x,e=.var t x)->(VR H ι i e).1<H.size:=by rintro ⟨t,x,rfl⟩; exact bf
 obtain ⟨n1,n2⟩:=w5.move (H':=H1) hk e2 fa hS aW dN jO;have cS:(VR H1 ι i e).2+e.ty.size<=(w6 (VH H1 ι i e) (VR H1 ι i e).1).length/\(VR H1 ι i e).1<(VH H1 ι i e).size/\¬ S (VR H1 ι i e).1/\(VR H1 ι i e).1∉O1:=by
  rcases hk with ⟨t,x,rfl⟩|⟨t,x,j,q,rfl,rfl⟩
  ·have hr:=jO ⟨_,_,rfl⟩
   refine ⟨?_,aAr hr aW,(bO _ (by simp [l7,VR])).1,λ h=>bI (bn _ h)⟩;have:=Q5 (dN _ (.inl ⟨rfl,hr⟩));show (VR H ι i (.var t x)).2+_<=(w6 H1 (VR H ι i (.var t x)).1).length;rw [this]; exact hb
  ·refine ⟨?_,by simp [VH,VR,BW],λ h=>by have:=hS _ h; simp only [VR] at this; omega,λ h=>by have:=fa _ h; simp only [VR] at this; omega⟩
   simp only [VH,VR,wH] at hb ⊢; exact hb
 have pQ:∀ c∈O2,c<H'.size:=λ c hc=>(eR c hc).1;have rJ:∀ c,S c->c<H'.size:=λ c hc=>by have:=hS c hc; omega
 have iq:g9 (VH H' ι i e) S u' O2 (e8 (VH H' ι i e) b off u'.size) z:=by
  rw [l6 (G4 (by omega))];exact (wx pQ rJ).2 hz
 obtain ⟨O4,f1,f2,f3⟩:=Ca n1 hg (n2.trans e3) cS.1 cS.2.1 (aAg.1 cq).1 cS.2.2.2 (λ c hc=>⟨(bO c (de c (bn c hc))).1,aAr (fa c hc) (aAv aW xq)⟩) cS.2.2.1
  (λ c hc=>aAr (hS c hc) (aAv aW xq)) (λ _ h=>h) (BB hc jo) iq aK
 have gX:O4.Nodup:=(f1.nodup_iff).2 (aAg.2 ⟨(aAg.1 cq).1,cY,by
  rintro c h1 d h2 rfl;exact (aAg.1 cq).2.2 c h1 c ((eR c h2).2 (fa c h1)) rfl⟩)
 have bU:∀ c∈O4,c∈ι.own i\/c∈O2:=by
  intro c hc;rcases aAi.1 (f1.mem_iff.1 hc) with h|h
  ·exact .inl (bn c h)
  ·exact .inr h
 have kS:∀ c∈O4,c<H'.size:=by
  intro c hc;rcases bU c hc with h|h
  ·have:=ho.U5 he h; omega
  ·exact (eR c h).1
 have f2':=(wx kS rJ).1 f2;refine ⟨O4,bU,?_⟩;cases e with
 | var t x =>
  simp only [i6.E3,OB,Ix.C6,if_true];obtain ⟨_,hf,_⟩:=ho;refine ⟨⟨O4,aFg _,f2'⟩,?_,?_⟩
  ·rw [F9 f3]; exact hc.free (hf.u5 (dN _ (.inl ⟨rfl,jO ⟨_,_,rfl⟩⟩)))
  ·refine aAs.2 ⟨λ h=>?_,gX⟩
   rcases bU _ h with h1|h1
   ·exact bI h1
   ·exact bI (cK _ ((eR _ h1).2 (jO ⟨_,_,rfl⟩)))
 | own t x =>
  simp only [i6.E3,OB,Ix.C6,if_true];refine ⟨⟨O4,aFg _,?_⟩,gX⟩;obtain ⟨⟨O',_,fE⟩,_⟩:=ho;have fM:r.1.size=t.size:=F9 f3;have:e8 (VH H' ι i (.own t x)) (VR H1 ι i (.own t x)).1 (VR H1 ι i (.own t x)).2 r.1.size=ι.cells i:=by
   simp only [VH,VR];rw [<- jo];simp only [e8,wH,aCb];exact aAu (by rw [fE.length,fM]; exact aAj _)
  rw [this] at f2';exact f2'
 | M0=>exact absurd rfl he
def xd (P:Program) (o:Oper) (a:Act) (w:World) (R:Value->World->Prop):Prop :=
 ∃ g vs,(execOp a.eval o).run P w=.ok (.enter g vs) w/\Calls P g vs w (λ e w'=>∃ v,e=.returned v/\R v w')
theorem xd.wp {P:Program} {o:Oper} {R:Value->World->Prop} (h:xd P o a w R) {next:Act->World->Prop} {Q:Exit->Act->World->Prop} (hn:∀ v w',R v w'->next (a.put o.dst v) w'):o.wp P a w next Q:=by
 obtain ⟨g,vs,h1,h2⟩:=h;unfold Oper.wp;rw [h1];refine Calls.mono h2 ?_;rintro e w' ⟨v,rfl,hr⟩;exact hn v w' hr
theorem xd.mono {P:Program} {o:Oper} {R R':Value->World->Prop} (h:xd P o a w R) (hr:∀ v w',R v w'->R' v w'):xd P o a w R':=by
 obtain ⟨g,vs,h1,h2⟩:=h;exact ⟨g,vs,h1,h2.mono (λ e w' ⟨v,e1,k⟩=>⟨v,e1,hr v w' k⟩)⟩
theorem over_self {cur:List Value} {off n:Nat} (h:off+n<=cur.length):over cur off ((cur.drop off).take n)=cur:=by
 rw [over,aAk,aAq,aCc (by omega),aAl]
 conv=>rhs; rw [<- aBv off cur,<- aBv n (cur.drop off)]
 rw [aBj]
theorem ZV (h:RS B S ι s a w) {i:Nat} {e:i6} (aS:look i s.hp=some e) {p:List Step} (aM:x8 e.ty e.x p) {t:Ty} {l:(Ty.d0 true t).den} (hg:j9 e.ty e.x p=some ⟨.d0 true t,l⟩) {b off:Nat} (hl:Loc w.heap ι i e p=some (b,off))
  {Op:List Nat} (gJ:g9 w.heap S (.d0 true t) Op (e8 w.heap b off (Ty.d0 true t).size) l) (ky:∀ c∈Op,c∈ι.own i) {ks:List PK} {ys:List Operand} {y:DK ks} (hy:Bp s ks i e p t ys=some (y,[],[])) :
  ∃ S1:Nat->Prop,(∀ b,S b->S1 b)/\(∀ b,S1 b->b<w.heap.size)/\(∀ c∈Op,¬ S1 c)/\V3 w.heap S1 ks (ys.map a.eval) y []:=by
 have dy:∀ c∈Op,c∈l7 ι i e:=λ c hc=>G6 (ky c hc);have fin:∀ {ι':Ix} {s0:St},RS B S ι' s0 a w->AV.vu s0 ks (s0.K3 ys)=some (y,[],[])->(∀ j ej,j∈T9.loose ks (s0.K3 ys)->look j s0.hp=some ej->∀ c∈Op,c∉l7 ι' j ej)->∃ S1:Nat->Prop,(∀ b,S b->S1 b)/\(∀ b,S1 b->b<w.heap.size)/\(∀ c∈Op,¬ S1 c)/\V3 w.heap S1 ks (ys.map a.eval) y []:=by
  intro ι' s0 h0 rT hd
  let S1:Nat->Prop:=λ b=>S b\/N4 ι' s0.hp (T9.loose ks (s0.K3 ys)) b
  obtain ⟨L2,qO,_,qM,_⟩:=JC (S1:=S1) h0.hs (λ b hb=>.inl hb) rT (h0.K3 ys) (by simp) (λ b hb=>.inr hb);have qN:L2=[]:=by
   rw [aDl];intro b hb;obtain ⟨i,e,h1,_⟩:=qM b hb;cases h1
  subst qN;refine ⟨S1,λ _ h=>.inl h,?_,?_,qO⟩
  ·rintro b (hb|⟨j,ej,h1,h2,h3⟩)
   ·exact h0.hs.slt b hb
   ·exact (h0.hs.bl j ej h2 b h3).2.2
  ·rintro c hc (hs|⟨j,ej,r1,r2,r3⟩)
   ·exact (h.hs.bl i e aS c (dy c hc)).1 hs
   ·exact hd j ej r1 r2 c hc r3
 unfold Bp at hy;split at hy
 ·rename_i mI
  have mI:i∉T9.loose ks (s.K3 ys):=by intro hm; simp [hm] at mI
  exact fin h hy (λ j ej r1 r2 c hc r3=>h.hs.dj i j e ej aS r2 (by rintro rfl; exact mI r1) c (dy c hc) r3)
 ·split at hy
  ·rename_i u x
   split at hy
   ·rename_i r aK
    have cC:∃ c0,e8 w.heap b off (Ty.d0 true t).size=[c0]/\Dg c0=true:=by
     rcases gJ with ⟨_,⟨a1,c1,e1,_⟩,_⟩|⟨b1,o1,cap1,O1,e1,_⟩
     ·exact ⟨_,e1,rfl⟩
     ·exact ⟨_,e1,rfl⟩
    obtain ⟨c0,ep,nV⟩:=cC;obtain ⟨ι',⟨O,rfl,hO⟩,h0⟩:=h.Ef aS aM hg hl (u':=.hole t) (z:=([]:List t.den)) (cs:=[c0]) (O2:=[]) (λ H' _ _=>⟨rfl,c0,rfl,nV⟩) rfl aAw (by simp) aK (by intro h; cases h);have hw:w.setRow b (over (w6 w.heap b) off [c0]).toArray=w:=by
     obtain ⟨O2,m1,m2,m3,m4,m5,arr,T,⟨fz,e1,_⟩,hn⟩:=N5 (K9 hl) (h.hs.ob i _ aS) h.hs.slt aM hg hl;have hb:w6 w.heap b=arr.toList:=by simp only [w6,e1]
     have:over (w6 w.heap b) off [c0]=w6 w.heap b:=by
      rw [<- ep]; exact over_self m4
     rw [this,hb]; exact setRow_self w b arr T fz (by simpa using e1)
    rw [hw] at h0;refine fin h0 hy (λ j ej r1 r2 c hc r3=>?_);simp only [St.w8,o7] at r2;by_cases hj:j=i
    ·subst hj
     rw [if_pos rfl] at r2; cases r2;have r3:c∈(ι.root j).1::(ι.C6 j O).own j:=r3;simp only [Ix.C6,if_true] at r3;refine (aAp.1 r3).elim (λ g3=>?_) (λ g3=>?_)
     ·obtain ⟨_,_,aJ⟩:=h.hs.ob j _ aS
      exact (aAs.1 aJ).1 (g3▸ky c hc)
     ·rcases (hO c g3).2 with h9|h9
      ·cases h9
      ·exact h9 Op gJ hc
    ·rw [if_neg hj] at r2
     rw [(X6 hj O).l7] at r3;exact h.hs.dj i j _ ej aS r2 (Ne.symm hj) c (dy c hc) r3
   ·cases hy
  ·cases hy
theorem ZU {i:Nat} {e:i6} {p:List Step} {t:Ty} {ks:List PK} {ys:List Operand} {r:DK ks×List Nat×List Nat} (hy:Bp s ks i e p t ys=some r):ks.any PK.lnk=false:=by
 unfold Bp at hy;split at hy
 ·exact Ce hy
 ·split at hy
  ·split at hy
   ·exact Ce hy
   ·cases hy
  ·cases hy
theorem b85 (hE:D3 E B) (h:RS B S ι s a w) {o:Oper} {c:Call} (ho:o.op=.call c) {g:FuncId} (hf:c.callee=.value (.func g)) {x:Operand} {ys:List Operand} (ha:c.args.toList=x::ys)
  {o2:Oper} {T2:TypeId} {ad:Operand} {d:Nat} (hd:H7 B.n (some d)=true) (iG:o2.op=.store T2 ad (.tmp d)) (lA:∀ t,ad=.tmp t->t≠d) {p:Prop} {s2:St} (hb:GD E T2 g (s.ev x) ys (s.ev ad) d s=some (p,s2)) (hp:p) :
  xd E.P o a w (λ v' w'=>y7 E.P B o2 (a.put (some d) v') w' (.raw undef) s2):=by
 unfold GD at hb;split at hb
 ·rename_i t ks t' pre fn out nw i p0 j q oq hx ly
  split at hb
  ·rename_i e aS bY
   simp only [aAa] at bY;obtain ⟨⟨⟨bS,kD⟩,pA⟩,qp⟩:=bY;have bS:=aAd bS;subst bS;have kD:E8 ks=[]:=by
    revert kD;cases E8 ks with
    | nil=>intro _; rfl
    | cons a b=>intro h; cases h
   split at hb
   ·rename_i u l y hg hy
    split at hb
    ·rename_i hu
     subst hu;split at hb
     ·rename_i r aK
      split at hb
      ·rename_i ft
       cases hb;simp only [aAa] at ft;obtain ⟨bH,bQ⟩:=ft;obtain ⟨rfl,bc⟩:=hp;have aS:look i s.hp=some e:=aS;have cF:e≠.M0:=by rcases (CB bQ).2 with ⟨_,_,rfl⟩|⟨_,_,_,_,rfl,_⟩<;>(intro h; cases h)
       have ki:=(CB bQ).2;obtain ⟨e1,u1,y1,cs,r1,aM,r3,hcs,r5⟩:=C3 h hx;rw [aS] at r1; cases r1;rw [hg] at r3; cases r3;have dB:a.eval x=l5 (.d0 true t) cs:=by simpa using r5
       obtain ⟨Op,m1,mn,kx⟩:=H5 h.hs aS aM hg hcs;obtain ⟨e2,b,off,z1,z2,hl,z4⟩:=C3 h ly;rw [aS] at z1; cases z1;have z4:a.eval ad=.pointer (some ⟨b,off,none⟩):=by simpa using z4
       have hV:=hE.C9 g _ oq;obtain ⟨fnn,jF,fS,gT⟩:=hV.ent;have ia:g9 w.heap S (.d0 true t) Op (e8 w.heap b off (Ty.d0 true t).size) l:=by
        have cd:=C8 hl;obtain ⟨b9,o9,k1,k2⟩:=id hcs;rw [cd.1] at k1; cases k1;rw [k2,l6 (G4 cd.2)] at kx;exact kx
       obtain ⟨S1,lC,gw,qG,qO⟩:=ZV h aS aM hg hl ia m1 hy;have dy:∀ c∈Op,c∈l7 ι i e:=λ c hc=>G6 (m1 c hc);have oD:∀ b∈Op++[],¬ S1 b/\b<w.heap.size:=by
        intro b hb;have hb:b∈Op:=by simpa using hb
        exact ⟨qG b hb,(h.hs.bl i e aS b (dy b hb)).2.2⟩
       have iO:=hV.run w S1 (a.eval x::ys.map a.eval) (I8 rfl l,y) (Op++[]) gw ((hE.gb.at_ h.hs).sub lC) bc ⟨_,_,Op,[],rfl,rfl,⟨cs,dB,kx.u5 (λ _ _=>rfl) lC⟩,qO⟩ (CI (by rw [aFl,ZU hy]; rfl)) (by simpa using mn) oD;refine ⟨g,(a.eval x::ys.map a.eval).toArray,?_,?_⟩
       ·have pH:fnn.body.isNone=false:=gT
        have hq:(fnn.name == "runtime.NumGoroutine")=false:=fS
        have aH:c.args.map a.eval=(a.eval x::ys.map a.eval).toArray:=by
         rw [<- Array.toList_inj,Array.toList_map,ha]; simp
        have db:a.eval (.func g)=.func (.func g) #[] #[]:=by simp [Act.eval]
        simp only [execOp,ho,resolve,hf,db,Deferred.ofValue,Sem.run_bind,Sem.run_pure,Result.andThen,invoke,callFunc,program];simp [Sem.run,jF,hq,pH];exact aH
       ·refine Calls.mono iO ?_
        rintro en w' ⟨us,O,Lo,S',rfl,bj,iy,jr,eK,eL,aJ,hO⟩;obtain ⟨v',us',O1,O2,cs',rfl,rfl,fK,nH,rfl,rfl⟩:=eK;refine ⟨v',rfl,?_⟩;have lY:=Y4 (show E8 (.own (.d0 true t)::ks)=[] from kD) eL;subst lY;have nH:=g9.K0 (S':=S) pA nH;have pG:O1.Nodup:=by simpa using aJ
        have ch:∀ c∈O1,(w.heap.size<=c\/c∈Op)/\c<w'.heap.size:=λ c hc=>by
         obtain ⟨_,q2,q3⟩:=hO c (by simp [hc]);exact ⟨by simpa using q2,q3⟩
        have bj:D0 Op w w':=by simpa using bj
        have bO:∀ c∈l7 ι i e,¬ S c/\c<w.heap.size:=λ c hc=>⟨(h.hs.bl i e aS c hc).1,(h.hs.bl i e aS c hc).2.2⟩;obtain ⟨Om,p1,p2,p3,p4,p5,p6⟩:=N5 cF (h.hs.ob i e aS) h.hs.slt aM hg hl;have uc:Om=Op:=by
         have cd:=C8 hl;obtain ⟨b9,o9,k1,k2⟩:=hcs;rw [cd.1] at k1; cases k1;rw [k2,l6 (G4 cd.2)] at kx;exact p3.det kx
        subst uc;have fw:=(h.hs.ob i e aS).zy cF h.hs.slt aM hg hl p3;have dK:=(bO b p5).2;have iK:P5 w'.heap b (off+(Ty.d0 true t).size):=p6.u5 (bj.frame b dK fw);intro next Q hn
        have iA:=h.put (d:=some d) hd (v:=.any) (val:=v') ⟨_,rfl⟩;have nC:(a.put (some d) v').eval ad=.pointer (some ⟨b,off,none⟩):=by
         rw [<- z4];cases ad with
         | tmp t9=>exact yK (lA t9 rfl)
         | _=>rfl
        have sf:(a.put (some d) v').eval (.tmp d)=v':=Kq (by
         rw [h.sz]; simpa [H7,aDf] using hd)
        have qf:∃ c1,cs'=[c1]:=by
         have:=nH.length
         match cs',this with
         | [c1],_=>exact ⟨c1,rfl⟩
        obtain ⟨c1,rfl⟩:=qf;obtain rfl:c1=v':=fK.symm;have oU:(Ty.d0 true t').sh=(Ty.d0 true t).sh:=CA hg aK;have aP:(execOp (a.put (some d) c1).eval o2).run E.P w'=.ok .skip (w'.setRow b (over (w6 w'.heap b) off [c1]).toArray):=by
         have so:(storeVar T2 ⟨b,off,none⟩ c1).run E.P w'=.ok () (w'.setRow b (over (w6 w'.heap b) off [c1]).toArray):=LS (D6 hE qp) oU iK nH;simp [execOp,iG,nC,sf,Instr.storeAt,Instr.sureAddr,so]
        unfold Oper.wp;rw [aP];obtain ⟨ff,bN⟩:=Fb (w:=w') (b:=b) (off:=off) (cs:=[c1]) iK;have me:(w'.setRow b (over (w6 w'.heap b) off [c1]).toArray).heap.size=w'.heap.size:=setRow_size;have hold:∀ c,c≠b->(w'.setRow b (over (w6 w'.heap b) off [c1]).toArray).heap[c]?=w'.heap[c]?:=λ c cx=>setRow_other cx;have jM:(w'.setRow b (over (w6 w'.heap b) off [c1]).toArray).os=w'.os/\W8 w' (w'.setRow b (over (w6 w'.heap b) off [c1]).toArray)/\(w'.setRow b (over (w6 w'.heap b) off [c1]).toArray).output=w'.output:=⟨rfl,.of rfl rfl,rfl⟩;generalize se:w'.setRow b (over (w6 w'.heap b) off [c1]).toArray=w'' at *
        have qw:b∉O1:=λ dE=>by
         rcases (ch b dE).1 with q|q
         ·omega
         ·exact fw q
        have oI:g9 w''.heap S (.d0 true t') O1 (e8 w''.heap b off (Ty.d0 true t').size) (fn (I8 rfl l,y)).1:=by
         have:e8 w''.heap b off (Ty.d0 true t').size=[c1]:=bN;rw [this];refine nH.u5 (λ c hc=>hold c ?_) (λ _ h=>h);rintro rfl;rcases hc with hc|hc
         ·exact qw hc
         ·exact (bO c p5).1 hc
        obtain ⟨O,n1,n2⟩:=OB.swap (h.hs.ob i e aS) bO h.hs.slt ki aM hg hl bj.size p3 (λ c hc hn=>bj.frame c hc hn) ff me oI (λ c hc=>by
         obtain ⟨q1,q2⟩:=ch c hc;exact ⟨by omega,λ bf=>q1.resolve_left (by omega)⟩) pG aK
        have kO:D0 (l7 ι i e) w w'':=by
         refine ⟨jM.1.trans bj.os,jM.2.1.trans bj.tape,jM.2.2.trans bj.out,by rw [me]; exact bj.size,λ c hc hn=>?_⟩;rw [hold c (by rintro rfl; exact hn p5)];exact bj.frame c hc (λ qs=>hn (dy c qs))
        have cn:=iA.renew (by simpa [St.put] using aS) (c0O bQ) F2.nil (L:=l7 ι i e) kO (λ b hb=>.inl hb) (λ _ h=>h) (λ _ h=>.inl h) (O':=O) n2 (λ c hc=>by
         have cU:c∈l7 ι i e\/c∈O1:=by
          cases e with
          | var t9 x9 =>
           simp only [l7,i6.E3,Ix.C6,if_true,aAp] at hc ⊢;rcases hc with hc|hc
           ·exact .inl (.inl hc)
           ·exact (n1 c hc).imp .inr id
          | own t9 x9 =>
           simp only [l7,i6.E3,Ix.C6,if_true] at hc ⊢;exact n1 c hc
          | M0=>exact absurd rfl cF
         rcases cU with cU|cU
         ·exact ⟨(bO c cU).1,.inr cU,by have:=(bO c cU).2; have:=bj.size; omega⟩
         ·obtain ⟨q1,q2⟩:=ch c cU
          have gY:¬ S c:=by
           have:=(hO c (by simp [cU])).1;exact λ hs=>this (iy c (lC c hs))
          exact ⟨gY,q1.imp id (dy c),by omega⟩)
        exact hn S _ w'' undef cn rfl
      ·cases hb
     ·cases hb
    ·cases hb
   ·cases hb
  ·cases hb
 ·cases hb
theorem xd.put {P:Program} {o:Oper} {c:Call} (ho:o.op=.call c) {g:FuncId} (hf:c.callee=.value (.func g)) {d:Nat} {val:Value} (hd:∀ z∈c.args.toList,z≠.tmp d) {R:Value->World->Prop} (h:xd P o (a.put (some d) val) w R):xd P o a w R:=by
 obtain ⟨g',vs,h1,h2⟩:=h;refine ⟨g',vs,?_,h2⟩;rw [<- h1];have aH:c.args.map (a.put (some d) val).eval=c.args.map a.eval:=by
  apply Array.map_congr_left;intro z hz;cases z with
  | tmp t=>exact yK (λ e=>hd _ (by simpa using hz) (by rw [e]))
  | _=>rfl
 have db:(a.put (some d) val).eval (.func g)=a.eval (.func g):=rfl;simp only [execOp,ho,resolve,hf,db,aH]
theorem Uu (hE:D3 E B) (hn:B.n=E.nt) {ops:Array Oper} {Q:Exit->Act->World->Prop} {oa:Oper} {c:Call} (ho:oa.op=.call c) {g:FuncId} (hf:c.callee=.value (.func g)) {x:Operand} {ys:List Operand} (ha:c.args.toList=x::ys)
  {d:Nat} (hd:H7 B.n (some d)=true):∀ {l:List Oper} {S:Nat->Prop} {ι:Ix} {s:St} {a:Act} {w:World} {p:Prop} {s2:St} {n:Nat},RS B S ι s a w->El E g x ys d l s=some (p,s2,n)->p->(∀ S' ι' a' w'',RS B S' ι' s2 a' w''->wpList E.P ops Q (l.drop n) a' w'') ->
  xd E.P oa a w (λ v' w'=>wpList E.P ops Q l (a.put (some d) v') w')
 | [],S,ι,s,a,w,p,s2,n,_,hb,_,_=>by cases hb
 | o::rest,S,ι,s,a,w,p,s2,n,h,hb,hp,hk=>by
  unfold El at hb;split at hb
  ·rename_i hg gE
   split at hb
   ·rename_i nc
    split at hb
    ·rename_i d1 ko
     split at hb
     ·rename_i p1 v bY hv
      split at hb
      ·rename_i p2 s3 n2 kK
       cases hb;simp only [aAa,aAt] at bY;obtain ⟨⟨c1,c2⟩,c3⟩:=bY;have bt:d1≠d:=by rintro rfl; simp at c1
       have dU:=Cw hE h nc;have dB:BA E.P S ι o a w s v:=by
        split at hv
        ·cases hv
        ·rename_i v0 s0 e0; cases hv; rw [e0] at dU; exact dU.2
        ·rename_i q0 v0 s0 e0; cases hv; rw [e0] at dU; exact (dU hp.1).2
       obtain ⟨val,aP,dv⟩:=dB;rw [ko] at gE;have cn:=h.put (d:=some d1) (by rw [hn]; exact gE) dv;have ml:=Uu hE hn ho hf ha hd (ops:=ops) (Q:=Q) cn kK hp.2 hk;refine (ml.put ho hf (λ z hz=>?_)).mono (λ v' w' hw=>?_)
       ·rw [ha] at hz
        rintro rfl;have:=aBh.1 c3 _ hz;simp at this
       ·unfold wpList
        simp only [Region.wanted,hg,if_true];refine .inl ?_;unfold Oper.wp;have ex:execOp (a.put (some d) v').eval o=execOp a.eval o:=Qw nc (λ t ht=>yK (by
         rintro rfl;simp [ht] at c2))
        rw [ex,aP w'];show wpList E.P ops Q rest ((a.put (some d) v').put o.dst val) w';rw [ko,Rd (Ne.symm bt)];exact hw
      ·cases hb
     ·cases hb
    ·cases hb
   ·split at hb
    ·rename_i T2 ad d' cw
     split at hb
     ·rename_i bY
      simp only [aAa] at bY;obtain ⟨c1,c2⟩:=bY;obtain rfl:=aAd c1;split at hb
      ·rename_i p2 s3 hcs
       cases hb;have lA:∀ t,ad=.tmp t->t≠d':=by
        intro t e;subst e;rintro rfl;simp at c2
       refine (b85 hE h ho hf ha hd cw lA hcs hp).mono (λ v' w' hw=>?_);unfold wpList;simp only [Region.wanted,hg,if_true];refine .inl (hw _ _ (λ S' ι' w2 val h1 h2=>?_));exact hk S' ι' _ w2 (h1.put (by rw [hn]; exact gE) h2)
      ·cases hb
     ·cases hb
    ·cases hb
  ·cases hb
theorem c07 {H:Array Go.Obj} {t:Ty} {y:(Ty.B9 t).den} (cg:t.shared=true) (h1:1<=y.1) (h2:y.1<=2) {O:List Nat} {cs:List Value} (hr:g9 H S (.B9 t) O cs y):g9 H S (.d0 true t) O cs y.2.1:=by
 obtain ⟨n,l,m⟩:=y
 match n,h1,h2,hr with
 | 1,_,_,hr=>exact hr
 | 2,_,_,⟨b,off,O',c1,c2,c3,c4,c5,c6⟩ =>
  obtain rfl:O'=[]:=j5.O7 (λ _ _ _ hr=>hr.O7 cg) c4;have bf:(l++m).length=l.length+m.length:=aAe;rw [bf,aBl] at c3 c4;have s1:=(j5.two (λ _ _ _ hr=>hr.length) (λ _ _ _ hr=>hr.O7 cg) c4).1;rw [n7 _ _ _ _ (by omega)] at s1;exact .inr ⟨b,off,List.length l+List.length m,[],c1,by show List.length l<=_; omega,c2,by show off+List.length l*t.size<=_; omega,s1,c5,c6⟩
theorem b86 (hE:D3 E B) (hn:B.n=E.nt) (h:RS B S ι s a w) {o:Oper} {p:Prop} {s2:St} (hb:GC E o s=some (p,s2)) (hp:p) :
  o.guard=none/\xd E.P o a w (λ v' w'=>∃ ι',RS B S ι' s2 (a.put o.dst v') w'):=by
 unfold GC at hb; cases hb
def HN (H:Array Go.Obj) (S:Nat->Prop) (tl:Option (FuncId×Nat)) (pre us0 vs:List Value):Prop :=
 match tl with
 | none=>vs=us0
 | some (f,k)=>k<=pre.length/\∃ b off,vs=us0++[.pointer (some ⟨b,off,none⟩)]/\S b/\off+1<=(w6 H b).length/\e8 H b off 1=[.func (.func f) #[] ((pre.take k).reverse++vs).toArray]
theorem HN.next {H:Array Go.Obj} {tl:Option (FuncId×Nat)} {pre us0 vs:List Value} {v:Value} (h:HN H S tl pre (v::us0) vs):∃ vs',vs=v::vs'/\HN H S (tl.map λ q=>(q.1,q.2+1)) (v::pre) us0 vs':=by
 cases tl with
 | none=>exact ⟨us0,h,rfl⟩
 | some q =>
  obtain ⟨f,k⟩:=q;obtain ⟨hk,b,off,rfl,h1,h2,h3⟩:=h;refine ⟨_,rfl,by simpa using hk,b,off,rfl,h1,h2,?_⟩;rw [h3];simp [aFx]
theorem RS.slot (h:RS B S ι s a w) {t:Nat} {v:AV} (hv:VX w.heap S ι s.hp v [a.tmps.getD t (B.gd t)]):RS B S ι { s with fr:=Ex.put t v s.fr } a w:=by
 refine ⟨h.hs,h.dfr,h.sz,?_⟩;intro t' v' ht;simp only [o7] at ht;by_cases e:t'=t
 ·subst e
  rw [if_pos rfl] at ht; cases ht; exact hv
 ·rw [if_neg e] at ht; exact h.fr t' v' ht
theorem b8v (hE:D3 E B) (hn:B.n=E.nt) (hM:E.ps.any PK.l4=false->∀ b,¬ B.M b) (h:RS B S ι s a w) {o:Oper} {p:Prop} {s2:St} (hb:Hh E o s=some (p,s2)) (hp:p) :
  o.guard=none/\∀ (next:Act->World->Prop) (Q:Exit->Act->World->Prop),(∀ S' ι' a' w',RS B S' ι' s2 a' w'->next a' w')->o.wp E.P a w next Q:=by
 unfold Hh at hb; cases hb
theorem RS.OD (h:RS B S ι s a w) {i:Nat} {u t:Ty} {y:u.den} {z:t.den} (he:look i s.hp=some (.var u y)) {O1 D:List Nat} (hp:(ι.own i).Perm (O1++D)) (p2:t.size=u.size)
  (hz:g9 w.heap (λ b=>S b\/b∈D) t O1 (e8 w.heap (ι.root i).1 (ι.root i).2 t.size) z):RS B (λ b=>S b\/b∈D) (ι.C6 i O1) ((s.xM i).w8 i (.var t z)) a w:=by
 obtain ⟨-,hf,aJ⟩:=h.hs.ob i _ he;have oF:∀ b∈D,b∈ι.own i:=λ b hb=>hp.mem_iff.2 (by simp [hb]);have ky:∀ b∈O1,b∈ι.own i:=λ b hb=>hp.mem_iff.2 (by simp [hb]);have cY:(O1++D).Nodup:=(hp.nodup_iff).1 (aAs.1 aJ).2;have bI:=(aAs.1 aJ).1;have bO:=h.hs.bl i _ he;have de:∀ b∈ι.own i,b∈l7 ι i (.var u y):=λ b hb=>by simp [l7,hb]
 have bm:∀ j,j≠i->F0 ι (ι.C6 i O1) j:=λ j hj=>X6 hj _;have bU:∀ b∈l7 (ι.C6 i O1) i (.var t z),b∈l7 ι i (.var u y)/\b∉D:=by
  intro b hb;have hb:b∈(ι.root i).1::(ι.C6 i O1).own i:=hb;simp only [Ix.C6,if_true] at hb;refine (aAp.1 hb).elim (λ e=>⟨by simp [l7,e],λ hD=>bI (e▸oF b hD)⟩) (λ e=>⟨de b (ky b e),λ hD=>(aAg.1 cY).2.2 b e b hD rfl⟩)
 refine ⟨⟨h.hs.os,h.hs.tape,h.hs.out,h.hs.size,h.hs.frame,?_,λ b hb=>.inl (h.hs.s0 b hb),?_,?_,?_,?_,?_⟩,h.dfr,h.sz,?_⟩
 ·rintro b (hb|hb)
  ·exact h.hs.slt b hb
  ·exact (bO b (de b (oF b hb))).2.2
 ·rintro b (hb|hb)
  ·exact h.hs.s1 b hb
  ·rcases (bO b (de b (oF b hb))).2.1 with q|q
   ·exact .inr (.inl q)
   ·exact .inr (.inr q)
 ·intro j ej hj
  simp only [St.w8,o7] at hj;by_cases e1:j=i
  ·subst e1; rw [if_pos rfl] at hj; cases hj
   refine ⟨⟨O1,by simp [Ix.C6],?_⟩,?_,?_⟩
   ·exact hz
   ·rw [p2]; exact hf
   ·show ((ι.root j).1::(ι.C6 j O1).own j).Nodup
    simp only [Ix.C6,if_true];exact aAs.2 ⟨λ h=>bI (ky _ h),(aAg.1 cY).1⟩
  ·rw [if_neg e1] at hj
   exact (bm j e1).ob.2 ((h.hs.ob j ej hj).u5 (λ _ _=>rfl) (λ _ h=>.inl h))
 ·intro j ej hj b hb
  simp only [St.w8,o7] at hj;by_cases e1:j=i
  ·subst e1; rw [if_pos rfl] at hj; cases hj
   obtain ⟨q1,q2⟩:=bU b hb;obtain ⟨r1,r2,r3⟩:=bO b q1;exact ⟨λ hs=>hs.elim r1 q2,r2,r3⟩
  ·rw [if_neg e1] at hj
   rw [(bm j e1).l7] at hb;obtain ⟨r1,r2,r3⟩:=h.hs.bl j ej hj b hb;exact ⟨λ hs=>hs.elim r1 (λ hD=>h.hs.dj j i ej _ hj he e1 b hb (de b (oF b hD))),r2,r3⟩
 ·intro j k ej ek hj hk fB c hc
  simp only [St.w8,o7] at hj hk;by_cases e1:j=i
  ·subst e1
   rw [if_pos rfl] at hj; cases hj;rw [if_neg (Ne.symm fB)] at hk;rw [(bm k (Ne.symm fB)).l7];exact h.hs.dj j k _ ek he hk fB c (bU c hc).1
  ·rw [if_neg e1] at hj
   rw [(bm j e1).l7] at hc;by_cases e2:k=i
   ·subst e2
    rw [if_pos rfl] at hk; cases hk;exact λ cU=>h.hs.dj j k ej _ hj he fB c hc (bU c cU).1
   ·rw [if_neg e2] at hk
    rw [(bm k e2).l7];exact h.hs.dj j k ej ek hj hk fB c hc
 ·intro q hq
  obtain ⟨k0,⟨e',k1⟩,k2,k3⟩:=h.hs.pin q hq;refine ⟨k0,?_,k2,k3⟩;simp only [St.w8,o7];by_cases e1:q.1=i
  ·exact ⟨_,by rw [if_pos e1]⟩
  ·exact ⟨e',by rw [if_neg e1]; exact k1⟩
 ·intro t9 v hv
  simp only [St.w8,St.xM,P9,aCl] at hv;obtain ⟨v0,eY,rfl⟩:=hv;refine VX.map (λ _ _=>rfl) (λ _ h=>.inl h) (λ v vs hr hm dv=>?_) (h.fr t9 v0 eY);unfold AV.MG;cases bZ:v.i8 i with
  | false =>
   have bt:∀ j,v.i8 j=true->j≠i:=by rintro j hj rfl; rw [bZ] at hj; cases hj
   have bQ:VX w.heap (λ b=>S b\/b∈D) ι s.hp v vs:=VX.grow (λ _ _=>rfl) (λ _ h=>.inl h) h.hs.slt h.hs.ob dv;exact VX.other (λ j hj=>by simp only [St.w8,o7,if_neg (bt j hj)]; rfl) (λ j hj=>bm j (bt j hj)) bQ
  | true =>
   have cA:=VX.one hr dv;simp only
   split
   ·rename_i j
    have dG:i=j:=aAd bZ;subst dG;obtain ⟨ej,b2,off2,k1,k2,k3,k4⟩:=dv;rw [he] at k1; cases k1;refine ⟨.var t z,b2,off2,by simp [St.w8,o7],O6,?_,k4⟩;simp only [Loc,Place,VR,VH,y9] at k3 ⊢;exact k3
   ·exact cA
theorem RS.MT (h:RS B S ι s a w) {i:Nat} {u t:Ty} {y:u.den} {z:t.den} (he:look i s.hp=some (.var u y)) (hz:yV u t y=some z):∃ S' ι',RS B S' ι' ((s.xM i).w8 i (.var t z)) a w:=by
 obtain ⟨⟨O,hO,hR⟩,hf,aJ⟩:=h.hs.ob i _ he;obtain ⟨O1,D,p1,p2,p3⟩:=Zb hz hR;refine ⟨_,_,h.OD he (hO.symm.trans p1) p2 ?_⟩;rw [p2];exact p3 (λ b=>S b\/b∈D) (λ _ h=>.inl h) (λ _ h=>.inr h)
theorem c3Y {H:Array Go.Obj} {S S':Nat->Prop} {t0:Ty} {O:List Nat} {cs:List Value} {z:(Ty.B9 t0).den} (hR:g9 H S (.B9 t0) O cs z) (cg:t0.shared=true) (hD:∀ b∈O,S' b) (hS:∀ b,S b->S' b):g9 H S' (.d0 false t0) [] cs z.2.1:=by
 have h0:∀ O cs x,g9 H S t0 O cs x->O=[]:=λ O cs x h=>g9.O7 cg h;have bQ:∀ {O cs l},j5 (g9 H S t0) t0.size O cs l->j5 (g9 H S' t0) t0.size [] cs l:=λ {O cs l} h=>by
  obtain rfl:=j5.O7 h0 h;exact j5.mono (L:=[]) (λ _ h=>h) (λ _ _ _ _ hr=>hr.u5 (λ _ _=>rfl) hS) h
 obtain ⟨n,l,m⟩:=z
 match n,hR with
 | 0,hR =>
  rcases hR with ⟨_,⟨a,c,h1,_⟩,h2⟩|⟨b,off,cap,O',c1,c2,c3,c4,c5,_,_,c8⟩
  ·exact .inl ⟨rfl,⟨a,c,h1,λ h=>by cases h⟩,h2⟩
  ·exact .inr ⟨b,off,cap,[],c1,c2,c3,c4,bQ c5,rfl,rfl,hS b c8⟩
 | 1,hR =>
  rcases hR with ⟨_,⟨a,c,h1,_⟩,h2⟩|⟨b,off,cap,O',c1,c2,c3,c4,c5,c6,_⟩
  ·exact .inl ⟨rfl,⟨a,c,h1,λ h=>by cases h⟩,h2⟩
  ·exact .inr ⟨b,off,cap,[],c1,c2,⟨c3.1,λ h=>by cases h⟩,c4,bQ c5,rfl,rfl,hD b (by rw [c6]; simp)⟩
 | n+2,⟨b,off,O',c1,c2,c3,c4,c5⟩ =>
  have hl:List.length l*t0.size<=List.length (l++m)*t0.size:=aAm _ (by rw [aAe]; omega);have c6:=(j5.two (λ _ _ _ h=>h.length) h0 c4).1;rw [n7 _ _ _ _ hl] at c6;refine .inr ⟨b,off,_,[],c1,aDn _ _,⟨c2.1,λ h=>by cases h⟩,aAv (aHu hl off) c3,bQ c6,rfl,rfl,?_⟩
  match n,c5 with
  | 0,c5=>exact hD b (by rw [c5.1]; simp)
  | n+1,c5=>exact hS b c5.2.2
theorem RS.VQ (h:RS B S ι s a w) {i k:Nat} {u:Ty} {y:u.den} (he:look i s.hp=some (.var u y)) {p:List Step} {t0:Ty} {z:(Ty.B9 t0).den} (hg:j9 u y p=some ⟨.B9 t0,z⟩) (cg:t0.shared=true)
  {r:Sigma Ty.den} (hr:u6 u y p (.B9 t0) ((0,z.2.1,[]):Nat×(List t0.den×List t0.den))=some r) (hk:look k s.fr=some (.at_ i p)) :
  ∃ S' ι',RS B S' ι' { ((s.xM i).w8 i (.var r.1 r.2)) with fr:=Ex.put k (.val (.d0 false t0) z.2.1) ((s.xM i).w8 i (.var r.1 r.2)).fr } a w:=by
 have cF:(i6.var u y)≠.M0:=λ h=>by cases h
 obtain ⟨e2,u2,y2,cs,r1,aM,r3,r4,r5⟩:=h.fr k _ hk;rw [he] at r1; cases r1;have r3:j9 u y p=some ⟨u2,y2⟩:=r3;rw [hg] at r3; cases r3;obtain ⟨O,hO,hR,eu,aJ,bf,gi,dV⟩:=(h.hs.ob i _ he).see cF h.hs.slt;obtain ⟨O1,O3,b',aA,g1,g2,g3,g4,g5,g6⟩:=focus hR eu aM hg
 obtain ⟨b0,off0,q1,q2⟩:=r4;rw [I2 cF,g3] at q1; cases q1;have ky:∀ b∈O1++O3,b∈ι.own i:=λ b hb=>hO.mem_iff.1 (g1.mem_iff.2 hb);have cq:(O1++O3).Nodup:=(g1.nodup_iff).1 ((hO.nodup_iff).2 (aAs.1 aJ).2);have bI:=(aAs.1 aJ).1;have bO:=h.hs.bl i _ he;have kg:g9 w.heap (λ b=>S b\/b∈O3) (.d0 false t0) [] cs z.2.1:=by
  rw [q2]; exact c3Y g4 cg (λ _ hb=>.inr hb) (λ _ hb=>.inl hb)
 have jE:P5 w.heap b' (aA+(Ty.B9 t0).size):=by
  rcases g6 with ⟨rfl,_,g7⟩|⟨_,g7⟩
  ·obtain ⟨arr,T,hl,hn⟩:=dV
   exact ⟨arr,T,hl,aAv g7 hn⟩
  ·exact g7
 have kV:g9 w.heap (λ b=>S b\/b∈O3) (.B9 t0) [] (e8 w.heap b' aA (Ty.B9 t0).size) ((0,z.2.1,[]):Nat×(List t0.den×List t0.den)):=by
  have:=kg; rw [q2] at this; exact this
 obtain ⟨O',k1,k2,k3⟩:=Ca g2 hg g3 eu bf (aAg.1 cq).1 (λ hc=>bI (ky _ (aBb _ hc))) (λ c hc=>by
  obtain ⟨q1,q2,q3⟩:=bO c (by simp [l7,ky c (aBb _ hc)]);exact ⟨q1,q3⟩) (bO _ (show (ι.root i).1∈(ι.root i).1::ι.own i from aBp)).1 h.hs.slt (λ _ hb=>.inl hb) (X1.refl jE) kV hr
 have aW:r.1.size=u.size:=F9 k3;have hD:=h.OD he (t:=r.1) (z:=r.2) (O1:=O') (D:=O3) ((hO.symm.trans g1).trans (by
  refine aHh _ ?_;rw [aBc] at k1; exact k1.symm)) aW k2
 refine ⟨_,_,⟨hD.hs,hD.dfr,hD.sz,λ t v hv=>?_⟩⟩;simp only [o7] at hv;by_cases e:t=k
 ·subst e
  rw [if_pos rfl] at hv; cases hv;exact ⟨cs,r5,kg⟩
 ·rw [if_neg e] at hv
  exact hD.fr t v hv
theorem RS.wQ (h:RS B S ι s a w) {i:Nat} (hp:pinned i=false) (t:Ty):∃ S' ι',RS B S' ι' (s.wQ i t) a w:=by
 have hl:∀ {j:Nat} {e:i6},look j (del i s.hp)=some e->look j s.hp=some e/\j≠i:=by
  intro j e hj;rw [L8] at hj;split at hj
  ·cases hj
  ·rename_i h9; exact ⟨hj,h9⟩
 have gw:∀ b,S b->(S b\/N4 ι s.hp [i] b):=λ _ h=>.inl h;refine ⟨λ b=>S b\/N4 ι s.hp [i] b,ι,⟨h.hs.os,h.hs.tape,h.hs.out,h.hs.size,h.hs.frame,?_,λ b hb=>.inl (h.hs.s0 b hb),?_,?_,?_,?_,?_⟩,h.dfr,h.sz,?_⟩
 ·rintro b (hb|⟨j,e,hj,he,hb⟩)
  ·exact h.hs.slt b hb
  ·exact (h.hs.bl j e he b hb).2.2
 ·rintro b (hb|⟨j,e,hj,he,hb⟩)
  ·exact h.hs.s1 b hb
  ·rcases (h.hs.bl j e he b hb).2.1 with q|q
   ·exact .inr (.inl q)
   ·exact .inr (.inr q)
 ·intro j e hj
  exact (h.hs.ob j e (hl hj).1).u5 (λ _ _=>rfl) gw
 ·intro j e hj b hb
  obtain ⟨r1,r2,r3⟩:=h.hs.bl j e (hl hj).1 b hb;refine ⟨λ hs=>hs.elim r1 ?_,r2,r3⟩;rintro ⟨k,ek,hk,he,lu⟩;rw [aBg] at hk;subst hk;exact h.hs.dj j k e ek (hl hj).1 he (hl hj).2 b hb lu
 ·intro j k ej ek hj hk
  exact h.hs.dj j k ej ek (hl hj).1 (hl hk).1
 ·intro q hq
  obtain ⟨k0,⟨e',k1⟩,k2⟩:=h.hs.pin q hq;refine ⟨k0,⟨e',?_⟩,k2⟩;show look q.1 (del i s.hp)=_;rw [L8,if_neg (by rintro e1; rw [e1,hp] at k0; cases k0)]; exact k1
 ·intro t9 v hv
  simp only [St.wQ,P9,aCl] at hv;obtain ⟨v0,eY,rfl⟩:=hv;refine VX.map (λ _ _=>rfl) (λ _ h=>.inl h) (λ v vs hr hm dv=>?_) (h.fr t9 v0 eY);unfold AV.Mo;cases bZ:v.i8 i with
  | false =>
   have bt:∀ j,v.i8 j=true->j≠i:=by rintro j hj rfl; rw [bZ] at hj; cases hj
   have bQ:VX w.heap (λ b=>S b\/N4 ι s.hp [i] b) ι s.hp v vs:=VX.grow (λ _ _=>rfl) (λ _ h=>.inl h) h.hs.slt h.hs.ob dv;exact VX.other (λ j hj=>by show look j (del i s.hp)=_; rw [L8,if_neg (bt j hj)]) (λ j hj=>F0.refl ι j) bQ
  | true =>
   obtain ⟨x1,rfl⟩:=VX.one hr dv;have lW:∀ b,N4 ι s.hp v.G8 b->(S b\/N4 ι s.hp [i] b):=by
    intro b hb;obtain ⟨j,e,hj,he,jd⟩:=hb;have dG:j=i:=by
     cases v<;>simp only [AV.ref] at hr<;>try cases hr
     all_goals (simp only [AV.G8,aBg] at hj; simp only [AV.i8] at bZ; exact hj.trans (aAd bZ).symm)
    subst dG;exact .inr ⟨j,e,by simp,he,jd⟩
   simp only
   split
   ·rename_i x hx
    obtain ⟨cs,e1,e2⟩:=Oc h.hs hx dv gw lW;exact ⟨cs,by rw [e1],e2⟩
   ·split
    ·split
     ·rename_i x hx
      obtain ⟨b,off,e1,e2,e3,e4⟩:=IL h.hs (show AV.asR s t (.ptr _ _)=some x from hx) dv gw lW;exact ⟨b,off,by rw [e1],e2,e3,e4⟩
     ·exact ⟨_,rfl⟩
    ·exact ⟨_,rfl⟩
theorem RS.xF (hM:∀ b,¬ B.M b):∀ {l:List Nat} {S:Nat->Prop} {ι:Ix} {s:St} {a:Act} {w:World},RS B S ι s a w->∃ S' ι',RS B S' ι' (s.xF l) a w
 | [],S,ι,s,a,w,h=>⟨S,ι,h⟩
 | i::l,S,ι,s,a,w,h=>by
  unfold St.xF
  split
  ·rename_i u y aS hp
   obtain ⟨S2,ι2,h2⟩:=h.wQ hp (.d0 false u.sh);exact RS.xF hM h2
  ·exact RS.xF hM h
theorem c1A (hM:E.ps.any PK.l4=false->∀ b,¬ B.M b) (h:RS B S ι s a w) (o:Oper):∃ S' ι',RS B S' ι' ((Ba E o s).getD s) a w:=by
 cases hd:Ba E o s with
 | none=>exact ⟨S,ι,h⟩
 | some s2 =>
  show ∃ S' ι',RS B S' ι' s2 a w;unfold Ba at hd;split at hd
  ·rename_i c hp ho
   split at hd
   ·split at hd
    ·split at hd
     ·rename_i i u y aS
      split at hd
      ·cases hd
      ·split at hd
       ·rename_i z hz
        cases hd;exact h.MT aS hz
       ·cases hd
     ·cases hd
    ·split at hd
     ·rename_i my _
      cases hd;exact h.wQ my _
     ·cases hd
    ·split at hd
     ·cases hd
     ·cases hd
      exact RS.xF (hM hp) h
    ·cases hd
   ·cases hd
  ·rename_i hp ho
   split at hd
   ·split at hd
    ·rename_i my
     cases hd;exact h.wQ my _
    ·cases hd
   ·cases hd
  ·cases hd
theorem Y7 (hM:E.ps.any PK.l4=false->∀ b,¬ B.M b):∀ {l:List (Nat×Option Ty)} {S:Nat->Prop} {ι:Ix} {s:St} {a:Act} {w:World},RS B S ι s a w->∃ S' ι',RS B S' ι' (Ah E l s) a w
 | [],S,ι,s,a,w,h=>⟨S,ι,h⟩
 | (m,none)::l,S,ι,s,a,w,h=>Y7 hM (l:=l) h
 | (m,some t)::l,S,ι,s,a,w,h=>by
  have key:∃ S' ι',RS B S' ι' (Gh E m t s) a w:=by
   unfold Gh
   split
   ·rename_i i hp _
    split
    ·rename_i u y aS
     split
     ·exact ⟨S,ι,h⟩
     ·split
      ·rename_i z hz
       exact h.MT aS hz
      ·exact ⟨S,ι,h⟩
    ·exact ⟨S,ι,h⟩
   ·rename_i i p hm
    split
    case h_2=>exact ⟨S,ι,h⟩
    unfold MH
    split
    ·rename_i u y aS
     split
     ·rename_i t0 z hg
      split
      ·rename_i r cg hr
       have hk:look m s.fr=some (.at_ i p):=by
        unfold St.get at hm;cases hl:look m s.fr with
        | none=>rw [hl] at hm; cases hm
        | some v=>rw [hl] at hm; exact congrArg some hm
       exact h.VQ aS hg cg hr hk
      ·exact ⟨S,ι,h⟩
     ·exact ⟨S,ι,h⟩
    ·exact ⟨S,ι,h⟩
   ·rename_i hm
    split
    ·rename_i u
     have hg:=h.get m;rw [hm] at hg;have hv:a.tmps.getD m (B.gd m)=Value.slice none 0 0:=by
      have:[a.tmps.getD m (B.gd m)]=[Value.slice none 0 0]:=hg;simpa using this
     exact ⟨S,ι,h.slot (t:=m) (v:=.val (.d0 false u) ([]:List u.den)) ⟨[.slice none 0 0],by rw [hv]; rfl,.inl ⟨rfl,⟨none,0,rfl,λ _=>rfl⟩,rfl⟩⟩⟩
    ·exact ⟨S,ι,h⟩
   ·exact ⟨S,ι,h⟩
  obtain ⟨S',ι',h'⟩:=key;exact Y7 hM (l:=l) h'
theorem b8s (h:RS B S ι s a w) (o:Oper):∃ ι',RS B S ι' ((DJ E o s).getD s) a w:=by
 cases hd:DJ E o s with
 | none=>exact ⟨ι,h⟩
 | some s' =>
  show ∃ ι',RS B S ι' s' a w;unfold DJ at hd;split at hd
  ·split at hd
   ·rename_i g tx ys hc ha
    split at hd
    ·rename_i t ks rs pre fn out nw i st p oq hx
     split at hd
     ·rename_i u y aS
      split at hd
      ·rename_i v l r hg aK
       split at hd
       ·rename_i hv
        subst hv;split at hd
        ·rename_i bY
         cases hd;simp only [aAa] at bY;have aS:look i s.hp=some (.var u y):=aS;have db:=h.fr tx _ hx;obtain ⟨e1,u1,y1,cs,r1,aM,r3,hcs,r5⟩:=db;rw [aS] at r1; cases r1;have hg:j9 (i6.var u y).ty (i6.var u y).x (st::p)=some ⟨.d0 true t,l⟩:=hg;rw [hg] at r3; cases r3;obtain ⟨Op,m1,mn,kx⟩:=H5 h.hs aS aM hg hcs;obtain ⟨b,off,k1,k2⟩:=id hcs;have cF:(i6.var u y)≠.M0:=by intro h; cases h
         have dK:b<w.heap.size:=by
          obtain ⟨b',aA,O2,q1,q2,q3,q4,q5,q6⟩:=(h.hs.ob i _ aS).part cF h.hs.slt aM hg;rw [q1] at k1; cases k1;rcases aEd b w.heap.size with h9|h9
          ·exact h9
          ·have q5:off+1<=(w6 w.heap b).length:=q5
           simp only [w6,aCf h9,aCh] at q5;omega
         have hl:Loc w.heap ι i (.var u y) (st::p)=some (b,off):=wv k1 dK;have ia:g9 w.heap S (.d0 true t) Op (e8 w.heap b off (Ty.d0 true t).size) l:=by
          rw [k2,l6 (G4 dK)] at kx;exact kx
         have cC:∃ c0,e8 w.heap b off (Ty.d0 true t).size=[c0]/\Dg c0=true:=by
          rcases ia with ⟨_,⟨a1,c1,e1,_⟩,_⟩|⟨b1,o1,cap1,O1,e1,_⟩
          ·exact ⟨_,e1,rfl⟩
          ·exact ⟨_,e1,rfl⟩
         obtain ⟨c0,ep,nV⟩:=cC;obtain ⟨ι',⟨O,rfl,hO⟩,h0⟩:=h.Ef aS aM hg hl (u':=.hole t) (z:=([]:List t.den)) (cs:=[c0]) (O2:=[]) (λ H' _ _=>⟨rfl,c0,rfl,nV⟩) rfl aAw (by simp) aK (by intro h; cases h);have hw:w.setRow b (over (w6 w.heap b) off [c0]).toArray=w:=by
          obtain ⟨O2,q1,q2,q3,m4,m5,arr,T,⟨fz,e1,_⟩,hn⟩:=N5 (K9 hl) (h.hs.ob i _ aS) h.hs.slt aM hg hl;have hb:w6 w.heap b=arr.toList:=by simp only [w6,e1]
          have:over (w6 w.heap b) off [c0]=w6 w.heap b:=by
           rw [<- ep]; exact over_self m4
          rw [this,hb]; exact setRow_self w b arr T fz (by simpa using e1)
         rw [hw] at h0;have dy:∀ c∈Op,c∈l7 ι i (.var u y):=λ c hc=>G6 (m1 c hc);have hF:F2 B S (ι.C6 i O) ((s.kill i (i6.var u y).kd (st::p)).w8 i (.var r.1 r.2)).hp w Op:=by
          refine ⟨mn,λ c hc=>?_⟩;obtain ⟨z1,z2,z3⟩:=h.hs.bl i _ aS c (dy c hc);refine ⟨z1,z2,z3,λ j ej r2 r3=>?_⟩;simp only [St.w8,o7] at r2;by_cases hj:j=i
          ·subst hj
           rw [if_pos rfl] at r2; cases r2;have r3:c∈(ι.root j).1::(ι.C6 j O).own j:=r3;simp only [Ix.C6,if_true] at r3;refine (aAp.1 r3).elim (λ g3=>?_) (λ g3=>?_)
           ·obtain ⟨_,_,aJ⟩:=h.hs.ob j _ aS
            exact (aAs.1 aJ).1 (g3▸m1 c hc)
           ·rcases (hO c g3).2 with h9|h9
            ·cases h9
            ·exact h9 Op ia hc
          ·rw [if_neg hj] at r2
           rw [(X6 hj O).l7] at r3;exact h.hs.dj i j _ ej aS r2 (Ne.symm hj) c (dy c hc) r3
         have h1:=h0.hold bY.2 ia hF;refine ⟨_,h1.slot (t:=tx) (v:=.at_ (1600000+tx) []) ?_⟩;have e9:[a.tmps.getD tx (B.gd tx)]=[l5 (.d0 true t) (e8 w.heap b off (Ty.d0 true t).size)]:=by
          rw [r5,k2,l6 (G4 dK)]
         rw [e9];exact Aq ia.length
        ·cases hd
       ·cases hd
      ·cases hd
     ·cases hd
    ·cases hd
   ·cases hd
  ·cases hd
theorem RS.Wx (h:RS B S ι s a w) {i:Nat} {u t:Ty} {y:u.den} {z:t.den} (he:look i s.hp=some (.own u y)) (sv:∀ {O:List Nat} {cs:List Value},g9 w.heap S u O cs y->g9 w.heap S t O cs z) (dp:u.agg=t.agg) (aW:u.size=t.size) :
  RS B S ι { fr:=mapA (AV.map λ v=>match v.i8 i with|false=>v|true=>match v with|.at_ j []=>.at_ j []|_=>.any) s.fr,hp:=Ex.put i (.own t z) s.hp } a w:=by
 obtain ⟨⟨O,hO,hR⟩,aJ⟩:=h.hs.ob i _ he;have lu:∀ j ej,look j (Ex.put i (.own t z) s.hp)=some ej->∃ e0,look j s.hp=some e0/\l7 ι j ej=l7 ι j e0:=by
  intro j ej hj;rw [o7] at hj;by_cases e1:j=i
  ·subst e1; rw [if_pos rfl] at hj; cases hj; exact ⟨_,he,rfl⟩
  ·rw [if_neg e1] at hj; exact ⟨_,hj,rfl⟩
 refine ⟨⟨h.hs.os,h.hs.tape,h.hs.out,h.hs.size,h.hs.frame,h.hs.slt,h.hs.s0,h.hs.s1,?_,?_,?_,?_⟩,h.dfr,h.sz,?_⟩
 ·intro j ej hj
  rw [o7] at hj;by_cases e1:j=i
  ·subst e1; rw [if_pos rfl] at hj; cases hj
   exact ⟨⟨O,hO,sv hR⟩,aJ⟩
  ·rw [if_neg e1] at hj; exact h.hs.ob j ej hj
 ·intro j ej hj b hb
  obtain ⟨e0,h1,h2⟩:=lu j ej hj;rw [h2] at hb;exact h.hs.bl j e0 h1 b hb
 ·intro j k ej ek hj hk fB c hc
  obtain ⟨e0,h1,h2⟩:=lu j ej hj;obtain ⟨e3,h4,h5⟩:=lu k ek hk;rw [h2] at hc;rw [h5];exact h.hs.dj j k e0 e3 h1 h4 fB c hc
 ·intro q hq
  obtain ⟨k0,⟨e',k1⟩,k2,k3⟩:=h.hs.pin q hq;refine ⟨k0,?_,k2,k3⟩;rw [o7];by_cases e1:q.1=i
  ·exact ⟨_,by rw [if_pos e1]⟩
  ·exact ⟨e',by rw [if_neg e1]; exact k1⟩
 ·intro t9 v hv
  simp only [P9,aCl] at hv;obtain ⟨v0,eY,rfl⟩:=hv;refine VX.map (λ _ _=>rfl) (λ _ h=>h) (λ v vs hr hm dv=>?_) (h.fr t9 v0 eY);cases bZ:v.i8 i with
  | false =>
   have bt:∀ j,v.i8 j=true->j≠i:=by rintro j hj rfl; rw [bZ] at hj; cases hj
   exact VX.other (λ j hj=>by rw [o7,if_neg (bt j hj)]) (λ j hj=>⟨rfl,rfl,rfl⟩) dv
  | true =>
   have cA:=VX.one hr dv;simp only
   split
   ·rename_i j
    have dG:i=j:=aAd bZ;subst dG;obtain ⟨e,u',y',cs,k1,k2,k3,⟨b,off,k4,k5⟩,k6⟩:=dv;rw [he] at k1; cases k1;simp only [j9,aAc,Sigma.mk.injEq] at k3;obtain ⟨rfl,_⟩:=k3;refine ⟨.own t z,t,z,cs,by rw [o7,if_pos rfl],O6,by simp only [j9]; rfl,⟨b,off,?_,?_⟩,?_⟩
    ·simp only [Place,VR,VH,y9] at k4 ⊢
     exact k4
    ·rw [<- aW]; exact k5
    ·rw [k6]; exact congrArg (λ v=>[v]) (BZ dp cs)
   ·exact cA
theorem c08 (h:RS B S ι s a w) (o:Oper):RS B S ι (Dr E o s) a w:=by
 unfold Dr
 split
 ·split
  ·split
   ·rename_i i _
    split
    ·rename_i t z aS
     split
     ·rename_i hc
      simp only [aAa] at hc
      split
      ·exact h
      ·rename_i cg
       exact h.Wx (t:=.d0 true t) (z:=z.2.1) aS (λ hr=>c07 cg (aCy hc.1) (aCy hc.2) hr) rfl rfl
     ·exact h
    ·exact h
   ·exact h
  ·exact h
 ·exact h
theorem c00 (hM:E.ps.any PK.l4=false->∀ b,¬ B.M b) (h0:RS B S ι s a w) (o:Oper):∃ S' ι',RS B S' ι' (Dt E o s) a w:=by
 have h:=c08 (E:=E) h0 o;unfold Dt MN;generalize Dr E o s=s at h;obtain ⟨S',ι',h1⟩:=c1A hM h o;obtain ⟨ι2,h2⟩:=b8s (E:=E) h1 o;exact ⟨S',ι2,h2⟩
theorem b8o (hM:E.ps.any PK.l4=false->∀ b,¬ B.M b) (h:RS B S ι s a w) (ops:Array Oper):∃ S' ι',RS B S' ι' (Hy E ops s) a w:=by
 unfold Hy
 split
 ·rename_i hp _
  split
  ·rename_i my
   exact h.wQ my _
  ·exact ⟨S,ι,h⟩
 ·exact ⟨S,ι,h⟩
theorem Tt (hM:E.ps.any PK.l4=false->∀ b,¬ B.M b) (h:RS B S ι s a w) (ops:Array Oper):∃ S' ι',RS B S' ι' (Dm E ops s) a w:=by
 unfold Dm
 split
 ·exact Y7 hM h
 ·exact ⟨S,ι,h⟩
theorem c0Y (hM:E.ps.any PK.l4=false->∀ b,¬ B.M b) (h:RS B S ι s a w) (ops:Array Oper):∃ S' ι',RS B S' ι' (zU E ops s) a w:=by
 obtain ⟨S',ι',h'⟩:=Tt (E:=E) hM h ops;exact b8o hM h' ops
theorem X2 (hE:D3 E B) (hn:B.n=E.nt) (hM:E.ps.any PK.l4=false->∀ b,¬ B.M b) {ops:Array Oper} {k:St->Tree (E.rs++E8 E.ps)} {L:Code->List Item->St->Prop} {Rt:DL (E.rs++E8 E.ps)->Prop} {Q:Exit->Act->World->Prop} (hk:∀ S' ι' s' a' w',RS B S' ι' s' a' w'->(k s').holds L Rt->Q .normal a' w') :
  ∀ {l:List Oper} {m:Nat} {S:Nat->Prop} {ι:Ix} {s:St} {a:Act} {w:World},RS B S ι s a w->(wF E ops m l s k).holds L Rt->wpList E.P ops Q (l.drop m) a w
 | [],m,S,ι,s,a,w,h,ht=>by
  rw [List.drop_nil];cases m<;>exact hk S ι s a w h ht
 | o::l,m+1,S,ι,s,a,w,h,ht=>X2 hE hn hM hk (l:=l) (m:=m) h ht
 | o::l,0,S0,ι0,s0,a,w,h0,ht=>by
  show wpList E.P ops Q (o::l) a w;unfold wF at ht;obtain ⟨S,ι,h⟩:=c00 hM h0 o;dsimp only at ht;generalize Dt E o s0=s at h ht;split at ht
  ·rename_i p s' n hf
   unfold MD at hf;split at hf
   ·rename_i d c hg hd gE ho
    split at hf
    ·rename_i x y T U hc ha hT
     split at hf
     ·split at hf
      ·cases hf
      ·rw [<- hn,hd] at gE
       obtain ⟨v',w',g1,g2⟩:=UD hE hn ho hc ha hT gE (ops:=ops) (Q:=Q) h hf ht.1;unfold wpList;simp only [Region.wanted,hg,if_true];refine .inl ?_;unfold Oper.wp;rw [g1];show wpList E.P ops Q l (a.put o.dst v') w';rw [hd];exact g2 (λ S' ι' a' w'' h'=>X2 hE hn hM hk (l:=l) (m:=n) h' (ht.2 ht.1))
     ·cases hf
    ·cases hf
   ·cases hf
  ·split at ht
   ·rename_i p s' n hf
    unfold ME at hf;split at hf
    ·rename_i d c hg hd gE ho
     split at hf
     ·rename_i g x ys hc ha
      split at hf
      ·split at hf
       ·cases hf
       ·rw [<- hn,hd] at gE
        unfold wpList;simp only [Region.wanted,hg,if_true];refine .inl ((Uu hE hn ho hc ha gE (ops:=ops) (Q:=Q) h hf ht.1 (λ S' ι' a' w'' h'=>X2 hE hn hM hk (l:=l) (m:=n) h' (ht.2 ht.1))).wp (λ v' w' hw=>?_));rw [hd]; exact hw
      ·cases hf
     ·cases hf
    ·cases hf
   ·split at ht
    ·rename_i p s' hf
     obtain ⟨hg,aP⟩:=b86 hE hn h hf ht.1;unfold wpList;simp only [Region.wanted,hg,if_true];refine .inl (aP.wp (λ v' w' hw=>?_));obtain ⟨ι',h'⟩:=hw;exact X2 hE hn hM hk (l:=l) (m:=0) h' (ht.2 ht.1)
    ·split at ht
     ·rename_i p s' hf
      obtain ⟨hg,aP⟩:=b8v hE hn hM h hf ht.1;unfold wpList;simp only [Region.wanted,hg,if_true];exact .inl (aP _ Q (λ S' ι' a' w' h'=>X2 hE hn hM hk (l:=l) (m:=0) h' (ht.2 ht.1)))
     ·split at ht
      ·rename_i p v1 v2 hg hd hb
       rw [<- hn] at hd;obtain ⟨val,aP,hv⟩:=ZY hE h hb;unfold wpList;simp only [Region.wanted,hg,if_true];refine .inl ?_;unfold Oper.wp;rw [aP];rcases hv with ⟨hp,hv⟩|hv
       ·exact X2 hE hn hM hk (l:=l) (m:=0) (h.put hd hv) (ht.1 hp)
       ·exact X2 hE hn hM hk (l:=l) (m:=0) (h.put hd hv) ht.2
      ·have:=LD hE hn h (ops:=ops) o (k:=λ s'=>wF E ops 0 l s' k) ht (next:=wpList E.P ops Q l) (Q:=Q) (λ S' ι' s' a' w' h1 h2=>X2 hE hn hM hk (l:=l) (m:=0) h1 h2)
       unfold wpList
       split
       ·rename_i hw; rw [if_pos hw] at this; exact .inl this
       ·rename_i hw; rw [if_neg hw] at this; exact this
end
end Go.Ex
namespace Go.Ex
section
variable {E:Env} {ops:Array Oper}
theorem AP {α:Type _} {Y:α->Prop} {a:α}:Y a↔∃ (p:Prop) (s:α),some (True,a)=some (p,s)/\p/\Y s:=by
 constructor
 ·intro h; exact ⟨_,_,rfl,trivial,h⟩
 ·rintro ⟨p,s,h,_,h2⟩; cases h; exact h2
theorem Iy {o:Oper} {s:St} {k:St->Tree (E.rs++E8 E.ps)} {L:Code->List Item->St->Prop} {R:DL (E.rs++E8 E.ps)->Prop}:(yZ E o s k).holds L R↔∃ p s',Y2 E o s=some (p,s')/\p/\(k s').holds L R:=by
 unfold yZ Y2;cases hd:H7 E.nt o.dst with
 | false=>simp [Tree.holds]
 | true =>
  simp only;have other:∀ r:OR,(match r with|.fail why=>Tree.stuck why|.ok v s'=>k (s'.put o.dst v)|.F8 p v s'=>Tree.f8 p (k (s'.put o.dst v))).holds L R ↔
    ∃ p s',(match r.get with|none=>none|some (p,v,s')=>some (p,s'.put o.dst v))=some (p,s')/\p/\(k s').holds L R:=by
   intro r;cases r with
   | fail why=>simp [Tree.holds,OR.get]
   | ok v s'=>exact AP (Y:=λ s'=>(k s').holds L R)
   | F8 p v s' =>
    simp only [Tree.holds,OR.get,aAc,aAx];constructor
    ·rintro ⟨h1,h2⟩; exact ⟨_,_,⟨rfl,rfl⟩,h1,h2 h1⟩
    ·rintro ⟨_,_,⟨rfl,rfl⟩,h1,h2⟩; exact ⟨h1,λ _=>h2⟩
  cases ho:o.op with
  | pick c a b =>
   simp only;cases hc:s.ev c with
   | val t x =>
    cases t with
    | bool =>
     cases x with
     | true=>exact AP (Y:=λ s'=>(k s').holds L R)
     | false=>exact AP (Y:=λ s'=>(k s').holds L R)
    | _=>simp [Tree.holds]
   | _=>simp [Tree.holds]
  | _=>exact other _
theorem Ck {o:Oper} {s:St} {k:St->Tree (E.rs++E8 E.ps)} {L:Code->List Item->St->Prop} {R:DL (E.rs++E8 E.ps)->Prop}:(yy E ops o s k).holds L R↔∃ p s',I0 E ops o s=some (p,s')/\p/\(k s').holds L R:=by
 unfold yy I0;cases hg:o.guard with
 | none=>exact Iy
 | some jw =>
  obtain ⟨j,want⟩:=jw;simp only;cases hs:AN ops j with
  | none=>simp [Tree.holds]
  | some g =>
   simp only;cases hv:s.ev (.tmp g) with
   | raw v =>
    cases v with
    | tuple vs =>
     simp only;cases hd:H7 E.nt o.dst with
     | false=>simp [Tree.holds]
     | true=>exact AP (Y:=λ s'=>(k s').holds L R)
    | _=>simp [Tree.holds]
   | val t x =>
    cases t with
    | bool =>
     simp only;cases hd:H7 E.nt o.dst with
     | false=>simp [Tree.holds]
     | true =>
      simp only;cases x with
      | true =>
       cases want with
       | true=>exact Iy
       | false=>exact AP (Y:=λ s'=>(k s').holds L R)
      | false =>
       cases want with
       | true=>exact AP (Y:=λ s'=>(k s').holds L R)
       | false=>exact Iy
    | _=>simp [Tree.holds]
   | _=>simp [Tree.holds]
def xp (ops:Array Oper) (x:Oper) (sx:St) (Tx:List Nat) (y:Oper) (Ty:List Nat):Prop :=
 (∀ m∈looks ops y,∀ i∈Tx,(K2 y (sx.get m)).i8 i=false)/\(∀ m∈looks ops x,∀ i∈Ty,(K2 x (sx.get m)).i8 i=false)/\(∀ i∈Tx,i % 1000≠(y.dst.getD 0) % 1000)
theorem Jn {e:Met} {y:Oper} {Ty:List Nat} (h:By ops e y Ty=true):xp ops e.o e.s e.T y Ty:=by
 simp only [By,aAa] at h;obtain ⟨h1,h2⟩:=h;refine ⟨?_,?_,?_⟩
 ·intro m hm i hi
  split at h1
  ·rename_i he; rw [he] at hi; cases hi
  ·simp only [aAa,aBh,aAt] at h1
   exact h1.1 m hm i hi
 ·intro m hm i hi
  split at h2
  ·cases hi
  ·simp only [aBh,aAt] at h2
   exact h2 m hm i hi
 ·intro i hi gZ
  split at h1
  ·rename_i he; rw [he] at hi; cases hi
  ·simp only [aAa,aBh,aAt] at h1
   have:=h1.2 i hi;rw [gZ] at this;simp at this
def vE (E:Env) (ops:Array Oper) (M:Nat->Nat):List (Nat×St)->List Nat->St->St->Prop
 | _,[],s,s'=>s=s'
 | acc,i::l,s,s'=>∃ o,ops[i]?=some o/\(∀ e∈acc,(M i).testBit e.1=true\/∃ x,ops[e.1]?=some x/\xp ops x e.2 (l4 E x e.2) o (l4 E o s)) /\
   ∃ p s1,I0 E ops o s=some (p,s1)/\p/\vE E ops M ((i,s)::acc) l s1 s'
def Bg (E:Env) (ops:Array Oper) (q:vW):Prop:=∃ oa c,ops[q.k]?=some oa/\oa.guard=none/\oa.dst=some q.d/\H7 E.nt (some q.d)=true/\oa.op=.call c/\c.callee=.builtin .append/\c.args.toList=[q.x,q.y]/\c.argTypes.toList=[q.T,q.U]
theorem Yd {o:Oper} {s:St} {i:Nat} {q:vW} (h:Hb E o s i=some q) (ho:ops[i]?=some o):Bg E ops q/\q.k=i:=by
 unfold Hb at h;split at h
 ·rename_i d c hg hd gE cw
  split at h
  ·rename_i x y T U hc ha hT
   split at h
   ·split at h
    ·cases h
    ·cases h
     exact ⟨⟨o,c,ho,hg,hd,by rw [<- hd]; exact gE,cw,hc,ha,hT⟩,rfl⟩
   ·cases h
  ·cases h
 ·cases h
def HL (E:Env) (ops:Array Oper) (M:List Nat) (q:vW) (s1:St) (k:St->Tree (E.rs++E8 E.ps)) (L:Code->List Item->St->Prop) (R:DL (E.rs++E8 E.ps)->Prop):Prop :=
 ∃ o p s2,ops[ops.size - 1]?=some o/\zP E ops M q (ops.size - 1) o s1=some (p,s2)/\p/\(k s2).holds L R
theorem Cy {o:Oper} {l:List Oper} {n:Nat} (hl:ops.toList.drop n=o::l):ops[n]?=some o/\ops.toList.drop (n+1)=l/\ops.size=n+1+l.length:=by
 have h1:(ops.toList.drop n)[0]?=some o:=by rw [hl]; rfl
 have h2:(ops.toList.drop n).length=(o::l).length:=by rw [hl]
 simp only [aAq,aAh,aCw] at h2;refine ⟨by simpa using h1,?_,by omega⟩;rw [<- aBj,hl]; rfl
theorem RX {M:List Nat} {q:vW} {k:St->Tree (E.rs++E8 E.ps)} {L:Code->List Item->St->Prop} {R:DL (E.rs++E8 E.ps)->Prop}:∀ {l:List Oper} {n:Nat} {s:St} {acc:List Met} {bK:List (Nat×St)},ops.toList.drop n=l ->
  (∀ e∈bK,∃ m∈acc,m.i=e.1/\ops[e.1]?=some m.o/\m.s=e.2/\m.T=l4 E m.o e.2)->(Be E ops M q n l s acc k).holds L R->∃ s',vE E ops (λ i=>M.getD i 0) bK (List.range' n (l.length - 1)) s s'/\HL E ops M q s' k L R
 | [],n,s,acc,bK,_,_,h=>h.elim
 | [o],n,s,acc,bK,hl,ha,h=>by
  obtain ⟨h1,h2,h3⟩:=Cy hl;simp only [Be] at h;split at h
  ·rename_i p s2 hf
   have e:ops.size - 1=n:=by simp at h3; omega
   exact ⟨s,rfl,o,p,s2,by rw [e]; exact h1,by rw [e]; exact hf,h.1,h.2 h.1⟩
  ·exact h.elim
 | o::o2::l,n,s,acc,bK,hl,ha,h=>by
  obtain ⟨ho,eA,_⟩:=Cy hl;simp only [Be] at h;split at h
  ·exact h.elim
  ·rename_i bD
   obtain ⟨p,s1,h1,h2,h3⟩:=Ck.1 h;obtain ⟨s',k1,k2⟩:=RX (bK:=(n,s)::bK) eA (λ e he=>by
    rcases aAp.1 he with rfl|he
    ·exact ⟨_,aBp ..,rfl,ho,rfl,rfl⟩
    ·obtain ⟨m,hm,r⟩:=ha e he; exact ⟨m,aBd _ hm,r⟩) h3
   refine ⟨s',⟨o,ho,λ e he=>?_,p,s1,h1,h2,k1⟩,k2⟩;obtain ⟨m,hm,m1,m2,m3,m4⟩:=ha e he;have:=(aBh.1 bD) m hm;simp only [aBo] at this;rcases this with this|this
   ·exact .inl (by rw [<- m1]; exact this)
   ·have hp:=Jn this
    rw [m3,m4] at hp;exact .inr ⟨m.o,m2,hp⟩
theorem RY {M:List Nat} {k:St->Tree (E.rs++E8 E.ps)} {L:Code->List Item->St->Prop} {R:DL (E.rs++E8 E.ps)->Prop}:∀ {l:List Oper} {n:Nat} {s:St} {acc:List Met} {bK:List (Nat×St)},ops.toList.drop n=l ->
  (∀ e∈bK,∃ m∈acc,m.i=e.1/\ops[e.1]?=some m.o/\m.s=e.2/\m.T=l4 E m.o e.2)->(Dn E ops M n l s acc k).holds L R ->
  (∃ s',vE E ops (λ i=>M.getD i 0) bK (List.range' n l.length) s s'/\(k s').holds L R) \/
  ∃ q s',n<=q.k/\Bg E ops q/\vE E ops (λ i=>M.getD i 0) bK ((List.range' n (l.length - 1)).filter (λ j=>!(j == q.k))) s s'/\HL E ops M q s' k L R
 | [],n,s,acc,bK,_,_,h=>.inl ⟨s,rfl,h⟩
 | o::l,n,s,acc,bK,hl,ha,h=>by
  obtain ⟨ho,eA,_⟩:=Cy hl;simp only [Dn] at h;split at h
  ·rename_i q hq
   obtain ⟨a1,a2⟩:=Yd hq ho;obtain ⟨s',k1,k2⟩:=RX eA ha h;refine .inr ⟨q,s',by omega,a1,?_,k2⟩;cases l with
   | nil =>
    simp only [aCh,Nat.zero_sub,List.range'_zero] at k1;simpa using k1
   | cons o2 l =>
    simp only [aAh,aFz] at k1 ⊢;rw [aGj,aDg];simp only [a2,beq_self_eq_true,aGb,aCk,if_false];rw [aDe.2 (λ j hj=>by have:=(aGd.1 hj).1; simp; omega)];exact k1
  ·split at h
   ·exact h.elim
   ·rename_i bD
    obtain ⟨p,s1,h1,h2,h3⟩:=Ck.1 h;have nD:∀ e∈bK,(M.getD n 0).testBit e.1=true\/∃ x,ops[e.1]?=some x/\xp ops x e.2 (l4 E x e.2) o (l4 E o s):=by
     intro e he;obtain ⟨m,hm,m1,m2,m3,m4⟩:=ha e he;have:=(aBh.1 bD) m hm;simp only [aBo] at this;rcases this with this|this
     ·exact .inl (by rw [<- m1]; exact this)
     ·have hp:=Jn this
      rw [m3,m4] at hp;exact .inr ⟨m.o,m2,hp⟩
    rcases RY (bK:=(n,s)::bK) eA (λ e he=>by
     rcases aAp.1 he with rfl|he
     ·exact ⟨_,aBp ..,rfl,ho,rfl,rfl⟩
     ·obtain ⟨m,hm,r⟩:=ha e he; exact ⟨m,aBd _ hm,r⟩) h3 with ⟨s',k1,k2⟩|⟨q,s',k0,k1,k2,k3⟩
    ·exact .inl ⟨s',⟨o,ho,nD,p,s1,h1,h2,k1⟩,k2⟩
    ·refine .inr ⟨q,s',by omega,k1,?_,k3⟩
     cases l with
     | nil =>
      exfalso;obtain ⟨oa,c,a1,_⟩:=k1;have:=(aAo.1 a1).1;have h9:=(Cy hl).2.2;simp at h9; omega
     | cons o2 l =>
      simp only [aAh,aFz] at k2 ⊢;rw [aGj,aDg];have bt:(!(n == q.k))=true:=by simp; omega
      rw [if_pos bt];exact ⟨o,ho,nD,p,s1,h1,h2,k2⟩
end
end Go.Ex
namespace Go.Ex
def uniq {α:Type _}:List (Nat×α)->Prop
 | []=>True
 | (n,_)::l=>(∀ q∈l,n<q.1)/\uniq l
theorem Fc {α:Type _} {n:Nat}:∀ {l:List (Nat×α)},(∀ q∈l,n<q.1)->look n l=none
 | [],_=>rfl
 | (m,x)::l,h=>by
  have:=h (m,x) (by simp);simp only [look,yu (Nat.ne_of_lt this)];exact Fc (λ q hq=>h q (by simp [hq]))
theorem Pb {α:Type _} {n:Nat} {x:α} {q:Nat×α}:∀ {l:List (Nat×α)},q∈put n x l->q.1=n\/q∈l
 | [],h=>by simp [put] at h; exact .inl (by rw [h])
 | (m,y)::l,h=>by
  simp only [put] at h;split at h
  ·rcases aAp.1 h with rfl|h
   ·exact .inl rfl
   ·exact .inr (by simp [h])
  ·split at h
   ·rcases aAp.1 h with rfl|h
    ·exact .inl rfl
    ·exact .inr h
   ·rcases aAp.1 h with rfl|h
    ·exact .inr (by simp)
    ·exact (Pb h).imp id (λ h=>by simp [h])
theorem QK {α:Type _} (n:Nat) (x:α):∀ {l:List (Nat×α)},uniq l->uniq (put n x l)
 | [],_=>⟨by simp,trivial⟩
 | (m,y)::l,⟨h1,h2⟩=>by
  simp only [put];cases hb:Nat.beq n m with
  | true=>have:=aAd hb; subst this; exact ⟨h1,h2⟩
  | false =>
   have bt:n≠m:=by rintro rfl; simp at hb
   simp only;cases bf:Nat.blt n m with
   | true =>
    have bf:n<m:=by simpa [aDf] using bf
    exact ⟨λ q hq=>by
     rcases aAp.1 hq with rfl|hq
     ·exact bf
     ·exact Nat.lt_trans bf (h1 q hq),h1,h2⟩
   | false =>
    have bf:¬ n<m:=by
     intro hl;have h3:Nat.blt n m=true:=by simpa [aDf] using hl
     rw [h3] at bf; cases bf
    refine ⟨λ q hq=>?_,QK n x h2⟩;rcases Pb hq with e|hq
    ·omega
    ·exact h1 q hq
theorem s9 {α:Type _}:∀ {l:List (Nat×α)},Bx l=true->uniq l
 | [],_=>trivial
 | (n,x)::l,h=>by
  simp only [Bx,aAa] at h;have ih:=s9 h.2;refine ⟨?_,ih⟩;cases l with
  | nil=>simp
  | cons q l =>
   obtain ⟨m,y⟩:=q;have bf:n<m:=by simpa [aDf] using h.1
   intro q hq;rcases aAp.1 hq with rfl|hq
   ·exact bf
   ·exact Nat.lt_trans bf (ih.1 q hq)
theorem EX {d:Nat}:∀ {l:List (Nat×AV)},uniq l->(∀ n v,look n l=some v->v.i8 d=false)->wu d l=true
 | [],_,_=>rfl
 | (m,v)::l,⟨h0,h2⟩,h=>by
  have h1:=Fc h0;simp only [wu,aAa,aAt];refine ⟨h m v (by simp [look]),EX h2 (λ n w hw=>h n w ?_)⟩;simp only [look];cases hb:Nat.beq n m with
  | true=>have:=aAd hb; subst this; rw [h1] at hw; cases hw
  | false=>exact hw
theorem J1:∀ {v:AV} {i:Nat},i∈v.G8↔v.i8 i=true:=by
 intro v
 induction v with
 | cons a b iha ihb=>intro i; simp only [AV.G8,aAi,AV.i8,aBo,iha,ihb]
 | K6 l ih=>intro i; exact ih
 | C7 f l ih=>intro i; exact ih
 | bx l ih=>intro i; exact ih
 | rc f l ih=>intro i; exact ih
 | ptr j p=>intro i; simp [AV.G8,AV.i8]
 | at_ j p=>intro i; simp [AV.G8,AV.i8]
 | sub j p a b=>intro i; simp [AV.G8,AV.i8]
 | _=>intro i; simp [AV.G8,AV.i8]
def AV.plain:AV->Bool
 | .any|.raw _|.val _ _|.M1 _ _|.nil=>true
 | _=>false
structure Trim (T:List Nat) (f:AV->AV):Prop where
 cons:∀ a b,f (.cons a b)=.cons (f a) (f b)
 K6:∀ l,f (.K6 l)=.K6 (f l)
 C7:∀ g l,f (.C7 g l)=.C7 g (f l)
 bx:∀ l,f (.bx l)=.bx (f l)
 rc:∀ g l,f (.rc g l)=.rc g (f l)
 atom:∀ u,u.ref=true->f u=u\/f u=.any
 xG:∀ u,u.ref=true->(∀ i∈T,u.i8 i=false)->f u=u
 plain:∀ u,u.plain=true->f u=u
theorem AV.shape (P:AV->Prop) (hp:∀ u,u.plain=true->P u) (ha:∀ u,u.ref=true->P u) (hc:∀ a b,P a->P b->P (.cons a b)) (ht:∀ l,P l->P (.K6 l)) (hf:∀ g l,P l->P (.C7 g l)) (hb:∀ l,P l->P (.bx l)) (hr:∀ g l,P l->P (.rc g l)):∀ u,P u:=by
 intro u
 induction u with
 | cons a b iha ihb=>exact hc a b iha ihb
 | K6 l ih=>exact ht l ih
 | C7 f l ih=>exact hf f l ih
 | bx l ih=>exact hb l ih
 | rc f l ih=>exact hr f l ih
 | ptr j p=>exact ha _ rfl
 | at_ j p=>exact ha _ rfl
 | sub j p a b=>exact ha _ rfl
 | _=>exact hp _ rfl
section
variable {T T':List Nat} {f g:AV->AV}
theorem Trim.id (T:List Nat):Trim T (λ u=>u):=⟨λ _ _=>rfl,λ _=>rfl,λ _ _=>rfl,λ _=>rfl,λ _ _=>rfl,λ _ _=>.inl rfl,λ _ _ _=>rfl,λ _ _=>rfl⟩
theorem Trim.map {g:AV->AV} (h1:∀ u,u.ref=true->g u=u\/g u=.any) (h2:∀ u,u.ref=true->(∀ i∈T,u.i8 i=false)->g u=u):Trim T (AV.map g):=by
 have e:∀ u:AV,u.ref=true->u.map g=g u:=by intro u hu; cases u<;>simp only [AV.ref] at hu<;>first|rfl|cases hu
 exact ⟨λ _ _=>rfl,λ _=>rfl,λ _ _=>rfl,λ _=>rfl,λ _ _=>rfl,λ u hu=>by rw [e u hu]; exact h1 u hu,λ u hu hm=>by rw [e u hu]; exact h2 u hu hm,λ u hu=>by cases u<;>simp only [AV.plain] at hu<;>first|rfl|cases hu⟩
theorem Trim.comp (hf:Trim T f) (hg:Trim T' g) {U:List Nat} (h1:∀ i∈T,i∈U) (h2:∀ i∈T',i∈U):Trim U (λ u=>g (f u)):=by
 refine ⟨λ a b=>by rw [hf.cons,hg.cons],λ l=>by rw [hf.K6,hg.K6],λ k l=>by rw [hf.C7,hg.C7],λ l=>by rw [hf.bx,hg.bx],λ k l=>by rw [hf.rc,hg.rc],?_,?_,λ u hu=>by rw [hf.plain u hu,hg.plain u hu]⟩
 ·intro u hu
  rcases hf.atom u hu with h|h
  ·rw [h]; exact hg.atom u hu
  ·rw [h]; exact .inr (hg.plain _ rfl)
 ·intro u hu hm
  rw [hf.xG u hu (λ i hi=>hm i (h1 i hi)),hg.xG u hu (λ i hi=>hm i (h2 i hi))]
theorem Trim.mono (hf:Trim T f) (h:∀ i∈T,i∈T'):Trim T' f:=⟨hf.cons,hf.K6,hf.C7,hf.bx,hf.rc,hf.atom,λ u hu hm=>hf.xG u hu (λ i hi=>hm i (h i hi)),hf.plain⟩
theorem Trim.fix (hf:Trim T f):∀ u,(∀ i∈T,u.i8 i=false)->f u=u:=by
 refine AV.shape _ (λ u hu _=>hf.plain u hu) (λ u hu hm=>hf.xG u hu hm) ?_ ?_ ?_ ?_ ?_
 ·intro a b ha hb hm
  simp only [AV.i8,aBu] at hm;rw [hf.cons,ha (λ i hi=>(hm i hi).1),hb (λ i hi=>(hm i hi).2)]
 ·intro l hl hm; rw [hf.K6,hl hm]
 ·intro k l hl hm; rw [hf.C7,hl hm]
 ·intro l hl hm; rw [hf.bx,hl hm]
 ·intro k l hl hm; rw [hf.rc,hl hm]
theorem Trim.i8 (hf:Trim T f) {i:Nat}:∀ u,(f u).i8 i=true->u.i8 i=true:=by
 refine AV.shape _ (λ u hu h=>by rw [hf.plain u hu] at h; exact h) (λ u hu h=>?_) ?_ ?_ ?_ ?_ ?_
 ·rcases hf.atom u hu with e|e
  ·rw [e] at h; exact h
  ·rw [e] at h; cases h
 ·intro a b ha hb h
  rw [hf.cons] at h;simp only [AV.i8,aBo] at h ⊢;exact h.imp ha hb
 ·intro l hl h; rw [hf.K6] at h; exact hl h
 ·intro k l hl h; rw [hf.C7] at h; exact hl h
 ·intro l hl h; rw [hf.bx] at h; exact hl h
 ·intro k l hl h; rw [hf.rc] at h; exact hl h
theorem Trim.comm (hf:Trim T f) (hg:Trim T' g):∀ u,f (g u)=g (f u):=by
 refine AV.shape _ (λ u hu=>by rw [hf.plain u hu,hg.plain u hu,hf.plain u hu]) (λ u hu=>?_) ?_ ?_ ?_ ?_ ?_
 ·have ha:f .any=.any:=hf.plain _ rfl
  have hb:g .any=.any:=hg.plain _ rfl;rcases hf.atom u hu with e|e<;>rcases hg.atom u hu with e'|e'<;>simp only [e,e',ha,hb]
 ·intro a b ha hb; rw [hg.cons,hf.cons,hf.cons,hg.cons,ha,hb]
 ·intro l hl; rw [hg.K6,hf.K6,hf.K6,hg.K6,hl]
 ·intro k l hl; rw [hg.C7,hf.C7,hf.C7,hg.C7,hl]
 ·intro l hl; rw [hg.bx,hf.bx,hf.bx,hg.bx,hl]
 ·intro k l hl; rw [hg.rc,hf.rc,hf.rc,hg.rc,hl]
theorem Trim.drop (i:Nat):Trim [i] (AV.drop i):=by
 refine Trim.map (λ u _=>?_) (λ u _ hm=>?_)
 ·cases hm:u.i8 i with
  | true=>exact .inr (by simp only)
  | false=>exact .inl (by simp only)
 ·simp only [hm i (by simp)]
theorem Trim.kill (i:Nat) (ow:Bool×Ty) (q:List Step):Trim [i] (AV.kill i ow q):=by
 refine Trim.map (λ u hu=>?_) (λ u _ hm=>?_)
 ·unfold AV.Bm
  split
  ·exact .inl rfl
  ·split
   ·split<;>first|exact .inl rfl|exact .inr rfl
   ·split
    ·exact .inl rfl
    ·split<;>first|exact .inl rfl|exact .inr rfl
   ·split<;>first|exact .inl rfl|exact .inr rfl
   ·split<;>first|exact .inl rfl|exact .inr rfl
   ·exact .inr rfl
 ·unfold AV.Bm; rw [hm i (by simp)]
theorem Trim.X3 (i:Nat) (ow:Bool):Trim [i] (AV.map (AV.xQ i ow)):=by
 refine Trim.map (λ u hu=>?_) (λ u _ hm=>?_)
 ·unfold AV.xQ
  split
  ·exact .inl rfl
  ·split
   ·split<;>first|exact .inl rfl|exact .inr rfl
   ·split<;>first|exact .inl rfl|exact .inr rfl
   ·split<;>first|exact .inl rfl|exact .inr rfl
   ·exact .inr rfl
 ·unfold AV.xQ; rw [hm i (by simp)]
def xO:List Nat->AV->AV
 | [],u=>u
 | i::g,u=>xO g (u.drop i)
theorem Trim.w9:∀ g:List Nat,Trim g (xO g)
 | []=>Trim.id []
 | i::g=>Trim.comp (Trim.drop i) (Trim.w9 g) (by simp) (λ j hj=>aBd _ hj)
end
structure Mv (s s1:St) (T ids:List Nat) (f:AV->AV) (h:Nat->Option i6):Prop where
 fr:∀ n,look n s1.fr=(look n s.fr).map f
 hp:∀ i,look i s1.hp=if i∈T\/i∈ids then h i else look i s.hp
def U1 (s:St) (ids:List Nat):Prop:=∀ n∈ids,look n s.hp=none/\∀ m v,look m s.fr=some v->v.i8 n=false
theorem CJ:∀ {g:List Nat} {s:St} {n:Nat},look n (St.w9 g s).fr=(look n s.fr).map (xO g)
 | [],s,n=>by simp [St.w9,xO]
 | i::g,s,n=>by
  simp only [St.w9];rw [CJ (g:=g) (s:=s.drop i)];simp only [St.drop,P9,aDx];rfl
theorem Qp {f:AV->AV} {q:Nat×AV}:∀ {l:List (Nat×AV)},q∈mapA f l->∃ r∈l,r.1=q.1
 | (n,x)::l,h=>by
  rcases aAp.1 h with rfl|h
  ·exact ⟨_,aBp ..,rfl⟩
  ·obtain ⟨r,hr,e⟩:=Qp h; exact ⟨r,by simp [hr],e⟩
theorem CC {f:AV->AV}:∀ {l:List (Nat×AV)},uniq l->uniq (mapA f l)
 | [],_=>trivial
 | (n,x)::l,⟨h1,h2⟩=>⟨λ q hq=>by obtain ⟨r,hr,e⟩:=Qp hq; rw [<- e]; exact h1 r hr,CC h2⟩
theorem CK:∀ {g:List Nat} {s:St},uniq s.fr->uniq (St.w9 g s).fr
 | [],_,h=>h
 | i::g,s,h=>CK (g:=g) (s:=s.drop i) (CC h)
def Z3 (s t:St) (xs:List Operand):Prop:=∀ x∈xs,t.ev x=s.ev x/\∀ i,(s.ev x).i8 i=true->t.obj i=s.obj i
theorem Z3.refl (s:St) (xs:List Operand):Z3 s s xs:=λ _ _=>⟨rfl,λ _ _=>rfl⟩
def OR.wZ (t:St):OR->OR
 | .fail w=>.fail w
 | .ok v _=>.ok v t
 | .F8 p v _=>.F8 p v t
def OR.av:OR->AV
 | .ok v _=>v
 | .F8 _ v _=>v
 | .fail _=>.any
section
variable {E:Env} {s t:St}
theorem Qy (k:IntKind) (r:Int):arith k r t=(arith k r s).wZ t:=by unfold arith; split<;>rfl
theorem Wt (op:BinOp) (k k':IntKind) (a b:Int):xI op k a k' b t=(xI op k a k' b s).wZ t:=by
 unfold xI
 split
 ·rfl
 ·rfl
 ·split
  ·split<;>first|rfl|exact Qy _ _
  ·rfl
theorem Wv (W:Bool) (op:BinOp) (k k':IntKind) (a b:Int):xJ W op k a k' b t=(xJ W op k a k' b s).wZ t:=by
 unfold xJ
 split
 ·split<;>rfl
 ·exact Wt ..
theorem Wu (op:BinOp) (a b:yY):yT op a b t=(yT op a b s).wZ t:=by unfold yT; split<;>rfl
theorem Wr (T:TypeId) (op:BinOp) (x y:AV):yg E T op x y t=(yg E T op x y s).wZ t:=by
 unfold yg
 split
 ·exact Wv ..
 ·split<;>rfl
 ·exact Wu ..
 ·rfl
theorem MU (T:TypeId) (op:BinOp) (a:Ty) (x:a.den) (u:Ty) (y:u.den):eqA E T op a x u y t=(eqA E T op a x u y s).wZ t:=by
 unfold eqA
 split
 ·split<;>rfl
 ·rfl
theorem Ws (T:TypeId) (op:BinOp) (x y:AV):wP E T op x y t=(wP E T op x y s).wZ t:=by
 unfold wP
 split
 ·unfold zS; split<;>rfl
 ·exact MU ..
 ·exact MU ..
 ·exact Wr ..
theorem WB (op:UnOp) (x:AV):unA op x t=(unA op x s).wZ t:=by
 unfold unA
 repeat' (first|rfl|exact Qy _ _|split)
theorem Aj:∀ {xs:List Operand},(∀ x∈xs,t.ev x=s.ev x)->t.K3 xs=s.K3 xs
 | [],_=>rfl
 | x::xs,h=>by simp only [St.K3,h x (by simp),Aj (xs:=xs) (λ y hy=>h y (by simp [hy]))]
theorem xt {i:Nat}:∀ {xs:List Operand},(s.K3 xs).i8 i=true->∃ x∈xs,(s.ev x).i8 i=true
 | [],h=>by cases h
 | x::xs,h=>by
  simp only [St.K3,AV.i8,aBo] at h;rcases h with h|h
  ·exact ⟨x,by simp,h⟩
  ·obtain ⟨y,hy,h⟩:=xt h; exact ⟨y,by simp [hy],h⟩
theorem a93 {i:Nat} {x:Operand}:∀ {xs:List Operand},x∈xs->(s.ev x).i8 i=true->(s.K3 xs).i8 i=true
 | y::xs,hx,h=>by
  simp only [St.K3,AV.i8,aBo];rcases aAp.1 hx with rfl|hx
  ·exact .inl h
  ·exact .inr (a93 hx h)
theorem EO {i:Nat}:∀ {a b:AV},(a.app b).i8 i=true->a.i8 i=true\/b.i8 i=true:=by
 intro a
 induction a with
 | cons x l _ ih =>
  intro b h;simp only [AV.app,AV.i8,aBo] at h ⊢;rcases h with h|h
  ·exact .inl (.inl h)
  ·rcases ih h with h|h
   ·exact .inl (.inr h)
   ·exact .inr h
 | _=>intro b h; exact .inr h
def Alike (s t:St) (v:AV):Prop:=∀ i,v.i8 i=true->t.obj i=s.obj i
theorem J7 {i:Nat} {p:List Step} (h:t.obj i=s.obj i):t.part i p=s.part i p:=by simp only [St.part,h]
theorem Et {i:Nat} {p:List Step} {a b:Int} (h:t.obj i=s.obj i):t.view i p a b=s.view i p a b:=by simp only [St.view,J7 h]
theorem Jj {u:Ty} {i:Nat} {p:List Step} (h:t.obj i=s.obj i):t.vI u i p=s.vI u i p:=by simp only [St.vI,J7 h]
theorem Vf {u:Ty} {v:AV} (h:Alike s t v):v.asV t u=v.asV s u:=by
 cases v<;>first|rfl|exact Jj (h _ (by simp [AV.i8]))|(simp only [AV.asV]; rw [Et (h _ (by simp [AV.i8]))])
theorem Nh {u:Ty} {v:AV} (h:Alike s t v):v.asR t u=v.asR s u:=by
 unfold AV.asR
 split
 ·exact Jj (h _ (by simp [AV.i8]))
 ·rfl
 ·rename_i i p
  have e:∀ u,t.vI u i p=s.vI u i p:=λ u=>Jj (h i (show AV.i8 i (AV.bx (.ptr i p))=true by simp [AV.i8]));simp only [e]
 ·rfl
theorem Ob:∀ {ts:List Ty} {v:AV},Alike s t v->AV.yf t ts v=AV.yf s ts v
 | [],v,_=>by cases v<;>rfl
 | u::ts,v,h=>by
  cases v<;>try rfl
  rename_i a b;simp only [AV.yf,Nh (v:=a) (λ i hi=>h i (by simp [AV.i8,hi])),Ob (v:=b) (λ i hi=>h i (by simp [AV.i8,hi]))]
theorem Em {v:AV} (h:Alike s t v):v.vl t=v.vl s:=by
 cases v<;>try rfl
 ·rename_i i p; cases p<;>simp only [AV.vl,h i (by simp [AV.i8])]
 ·rename_i i p a b; cases p<;>simp only [AV.vl,h i (by simp [AV.i8])]
theorem Ib {v:AV} (h:Alike s t v):v.els t=v.els s:=by
 unfold AV.els
 split
 ·rfl
 ·rename_i i p; simp only [J7 (h i (by simp [AV.i8]))]
 ·rename_i i p a b; simp only [Et (h i (by simp [AV.i8]))]
 ·rfl
theorem Fh {v:AV} {r:Sigma Ty.den} {g:List Nat} (h:v.vl s=some (r,g)):∀ i∈g,v.i8 i=true:=by
 unfold AV.vl at h;split at h
 ·cases h; simp
 ·split at h
  ·cases h; simp [AV.i8]
  ·cases h
 ·split at h
  ·cases h; simp [AV.i8]
  ·cases h
 ·cases h
theorem zC {v:AV} (h:Alike s t v):v.vL t=v.vL s:=by
 unfold AV.vL
 split
 ·rename_i i
  rw [h i (by simp [AV.i8]),Em h]
 ·rfl
 ·exact Em h
theorem Fq {v:AV} {r:Sigma Ty.den} {g:List Nat} (h:v.vL s=some (r,g)):∀ i∈g,v.i8 i=true:=by
 unfold AV.vL at h;split at h
 ·split at h
  ·cases h; simp [AV.i8]
  ·exact Fh h
 ·cases h; simp
 ·exact Fh h
theorem IK {u:Ty} {v:AV} (h:Alike s t v):v.vw t u=v.vw s u:=by
 unfold AV.vw
 split
 ·rfl
 ·rfl
 ·simp only [Ib h,Em h]
theorem Rc {u:Ty} {v:AV} {r:Sigma λ t:Ty=>List t.den} {g:List Nat} (h:v.vw s u=some (r,g)):∀ i∈g,v.i8 i=true:=by
 unfold AV.vw at h;split at h
 ·cases h; simp
 ·cases h; simp
 ·split at h
  ·cases h
  ·split at h
   ·cases h; simp
   ·split at h
    ·rename_i hg; cases h; exact Fh hg
    ·cases h
theorem Ih {d:Int} {x:Option Operand} (h:∀ y,x=some y->t.ev y=s.ev y):bnd t d x=bnd s d x:=by
 cases x with
 | none=>rfl
 | some y=>simp only [bnd,h y rfl]
theorem Ve {k:PK} {v:AV} (h:Alike s t v):v.R7 t k=v.R7 s k:=by
 cases k with
 | v u=>simp only [AV.R7,Vf h]
 | rd u=>simp only [AV.R7,Nh h]
 | W6=>cases v<;>rfl
 | rcs f n=>rfl
 | el q=>rfl
 | C7 f ts =>
  cases v<;>try rfl
  simp only [AV.R7]; rw [Ob (λ i hi=>h i (by simpa [AV.i8] using hi))]
 | own u =>
  have hg:=zC h;unfold AV.R7;dsimp only
  split
  ·rfl
  ·rw [hg]
 | rw u =>
  cases v<;>try rfl
  rename_i i p; cases p<;>simp only [AV.R7,h i (by simp [AV.i8])]
 | mu u =>
  cases v<;>try rfl
  rename_i i p; cases p<;>simp only [AV.R7,h i (by simp [AV.i8])]
theorem Oa:∀ {ks:List PK} {v:AV},Alike s t v->AV.vu t ks v=AV.vu s ks v
 | [],v,_=>by cases v<;>rfl
 | k::ks,v,h=>by
  cases v<;>try rfl
  rename_i a b;simp only [AV.vu,Ve (v:=a) (λ i hi=>h i (by simp [AV.i8,hi])),Oa (v:=b) (λ i hi=>h i (by simp [AV.i8,hi]))]
theorem Yf {k:PK} {v:AV} {x:k.den} {g m:List Nat} (h:v.R7 s k=some (x,g,m)):(∀ i∈g++m,v.i8 i=true)/\(k.l4=false->g=[]/\m=[]):=by
 cases k with
 | v u=>simp only [AV.R7] at h; split at h<;>cases h; simp
 | rd u=>simp only [AV.R7] at h; split at h<;>cases h; simp
 | W6=>simp only [AV.R7] at h; split at h<;>cases h; simp
 | rcs f n=>simp only [AV.R7] at h; cases h
 | el q=>simp only [AV.R7] at h; cases h
 | C7 f ts =>
  simp only [AV.R7] at h;split at h
  ·split at h
   ·split at h<;>cases h; simp
   ·cases h
  ·cases h
 | own u =>
  refine ⟨?_,λ h=>by cases h⟩;simp only [AV.R7] at h;split at h
  ·split at h<;>cases h; simp
  ·split at h
   ·rename_i hg
    split at h
    ·cases h
     intro i hi;exact Fq hg i (by simpa using hi)
    ·cases h
   ·cases h
 | rw u =>
  refine ⟨?_,λ h=>by cases h⟩;simp only [AV.R7] at h;split at h
  ·split at h
   ·split at h
    ·cases h; simp [AV.i8]
    ·cases h
   ·cases h
  ·cases h
 | mu u =>
  refine ⟨?_,λ h=>by cases h⟩;simp only [AV.R7] at h;split at h
  ·split at h
   ·split at h
    ·cases h; simp [AV.i8]
    ·cases h
   ·cases h
  ·cases h
theorem Re:∀ {ks:List PK} {v:AV} {x:DK ks} {g m:List Nat},AV.vu s ks v=some (x,g,m)->(∀ i∈g++m,v.i8 i=true)/\(ks.any PK.l4=false->g=[]/\m=[])
 | [],v,x,g,m,h=>by
  cases v<;>simp only [AV.vu] at h<;>cases h;simp
 | k::ks,v,x,g,m,h=>by
  cases v<;>simp only [AV.vu] at h<;>try (cases h; done)
  split at h
  ·rename_i h1 h2
   cases h;obtain ⟨a1,a2⟩:=Yf h1;obtain ⟨b1,b2⟩:=Re h2;refine ⟨?_,?_⟩
   ·intro i hi
    simp only [aAi] at hi a1 b1;simp only [AV.i8,aBo];rcases hi with (hi|hi)|(hi|hi)
    ·exact .inl (a1 i (.inl hi))
    ·exact .inr (b1 i (.inl hi))
    ·exact .inl (a1 i (.inr hi))
    ·exact .inr (b1 i (.inr hi))
   ·intro ht
    simp only [aFl,aBu] at ht;obtain ⟨r1,r2⟩:=a2 ht.1;obtain ⟨r3,r4⟩:=b2 ht.2;simp [r1,r2,r3,r4]
  ·cases h
theorem EP:∀ {parts:List (Nat×Operand)} {r:Sigma Ty.den},(∀ q∈parts,t.ev q.2=s.ev q.2/\Alike s t (s.ev q.2))->U0 t r parts=U0 s r parts
 | [],⟨_,_⟩,_=>rfl
 | (i,v)::parts,⟨u,x⟩,h=>by
  have ih:=λ r=>EP (parts:=parts) (r:=r) (λ q hq=>h q (by simp [hq]));obtain ⟨h1,h2⟩:=h (i,v) (by simp);have h1:t.ev v=s.ev v:=h1;have h2:=zC h2;have h2:(s.ev v).vL t=(s.ev v).vL s:=h2;simp only [U0,h1,ih]
  split
  ·rfl
  ·split
   ·rfl
   ·rw [h2]
theorem FI:∀ {parts:List (Nat×Operand)} {r r':Sigma Ty.den} {g:List Nat},U0 s r parts=some (r',g)->∀ i∈g,∃ q∈parts,(s.ev q.2).i8 i=true
 | [],⟨_,_⟩,r',g,h=>by simp only [U0] at h; cases h; simp
 | (j,v)::parts,⟨u,x⟩,r',g,h=>by
  simp only [U0] at h;split at h
  ·cases h
  ·split at h
   ·split at h
    ·split at h
     ·intro i hi
      obtain ⟨q,hq,hm⟩:=FI h i hi;exact ⟨q,by simp [hq],hm⟩
     ·cases h
    ·cases h
   ·split at h
    ·rename_i hg
     split at h
     ·split at h
      ·rename_i hb
       cases h;intro i hi;rcases aAi.1 hi with hi|hi
       ·exact ⟨(j,v),by simp,Fq hg i hi⟩
       ·obtain ⟨q,hq,hm⟩:=FI hb i hi
        exact ⟨q,by simp [hq],hm⟩
      ·cases h
     ·cases h
    ·cases h
end
end Go.Ex
