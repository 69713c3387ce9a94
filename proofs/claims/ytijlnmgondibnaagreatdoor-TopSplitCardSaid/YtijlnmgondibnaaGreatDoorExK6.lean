import Derived.Test.YtijlnmgondibnaaGreatDoorExK5
set_option linter.unusedVariables false
set_option linter.unusedSimpArgs false
set_option linter.unusedSectionVars false

namespace Go.Ex

section
variable {E:Env} {B:D4} {S:Nat→Prop} {ι:Ix} {s:St} {a:Act} {w:World}

def a6S (P:Program) (S:Nat→Prop) (ι:Ix) (o:Oper) (a:Act) (w:World) (s:St) (v:AV):Prop :=
 ∃ val,(∀ w',(execOp a.eval o).run P w'=.ok (.value val) w')∧VX w.heap S ι s.hp v [val]
def a90 (P:Program) (S:Nat→Prop) (ι:Ix) (o:Oper) (a:Act) (w:World) (s:St):OR→Prop
 | .fail _=>True
 | .ok v s'=>s'=s∧a6S P S ι o a w s v
 | .E4 p v s'=>p→s'=s∧a6S P S ι o a w s v
theorem a0D {P:Program} {o:Oper} {sem:Sem Value} (he:execOp a.eval o=(do pure (.value (← sem)))) {v:AV} {val:Value} (hr:∀ w',sem.run P w'=.ok val w')
  (hv:VX w.heap S ι s.hp v [val]):s=s∧a6S P S ι o a w s v:=⟨rfl,val,fun w'=>by rw [he]; simp [hr w',Result.andThen],hv⟩

theorem b0x (hE:C2 E B) (h:RS B S ι s a w) {o:Oper} {T:TypeId} {x:Operand} {n:Nat} (ho:o.op=.fieldAddr T x n):a90 E.P S ι o a w s (n6 E o s):=by
 have he:execOp a.eval o=(do pure (.value (← Instr.fieldAt T (a.eval x) n))):=by simp [execOp,ho]
 unfold n6
 rw [ho]
 simp only
 split
 ·rename_i i p hx
  split
  ·rename_i u z hpt
   split
   ·rename_i r hc hg2
    obtain ⟨e,b,off,h1,h2,h3,h4⟩:=x8 h hx
    have hg:=G3 h1 hpt
    have h4:a.eval x=.pointer (some ⟨b,off,none⟩):=by simpa using h4
    obtain ⟨u2,z2⟩:=r
    exact a0D he (fun _=>by rw [h4]; exact a0n (C1 hE hc) hg2 b off) ⟨e,b,off+N4 u n,h1,T8 hg h2 (a2s hg2),a1M hg h3 (fun G=>a1p hg2),rfl⟩
   ·trivial
  ·trivial
 ·rename_i t y hx
  split
  ·rename_i u z hc hg
   obtain ⟨b,off,e,h1,h2,h3⟩:=x8 h hx
   have e:a.eval x=.pointer (some ⟨b,off,none⟩):=by simpa using e
   have hok:=a2s hg
   obtain ⟨O1,O2,b',off',e1,e2,e3,e4,e5,e6⟩:=focus h3 h2 hok hg
   have hO:O1=[]∧O2=[]:=by have:=e1.nil_eq; simpa using this.symm
   rw [a1p hg] at e3; cases e3
   refine a0D he (fun _=>by rw [e]; exact a0n (C1 hE hc) hg b off) ⟨b,off+N4 t n,rfl,h1,e5,?_⟩
   rw [hO.2] at e4; exact e4
  ·trivial
 ·rename_i t y hx
  split
  ·rename_i u z hc hg
   intro hy
   obtain ⟨b,off,e,h1,h2,h3⟩:=a7a (x8 h hx) hy
   have e:a.eval x=.pointer (some ⟨b,off,none⟩):=by simpa using e
   have hok:=a2s hg
   obtain ⟨O1,O2,b',off',e1,e2,e3,e4,e5,e6⟩:=focus h3 h2 hok hg
   have hO:O1=[]∧O2=[]:=by have:=e1.nil_eq; simpa using this.symm
   rw [a1p hg] at e3; cases e3
   refine a0D he (fun _=>by rw [e]; exact a0n (C1 hE hc) hg b off) ⟨b,off+N4 t n,rfl,h1,e5,?_⟩
   rw [hO.2] at e4; exact e4
  ·trivial
 ·trivial

theorem b0u (hE:C2 E B) (h:RS B S ι s a w) {o:Oper} {T:TypeId} {x y:Operand} (ho:o.op=.indexAddr T x y):a90 E.P S ι o a w s (n6 E o s):=by
 have he:execOp a.eval o=(do pure (.value (← Instr.indexAt T (a.eval x) (a.eval y)))):=by simp [execOp,ho]
 unfold n6
 rw [ho]
 simp only
 split
 ·rename_i d p k n hx hy
  split
  ·rename_i m u z hpt
   split
   ·rename_i hc
    intro hn
    obtain ⟨e,b,off,h1,h2,h3,h4⟩:=x8 h hx
    have hg:=G3 h1 hpt
    have h4:a.eval x=.pointer (some ⟨b,off,none⟩):=by simpa using h4
    obtain ⟨hyv,_⟩:=VX.F8 (x8 h hy)
    exact a0D he (fun _=>by rw [h4,hyv]; exact a0t (C1 hE hc) b off hn) ⟨e,b,off+n.toNat*u.size,h1,T8 hg h2 ⟨hn,K2⟩,a1M hg h3 (fun G=>by simp only [w7,w8]),rfl⟩
   ·trivial
  ·trivial
 ·rename_i m t z k n hx hy
  split
  ·rename_i hc
   intro hn
   obtain ⟨b,off,e,h1,h2,h3⟩:=x8 h hx
   have e:a.eval x=.pointer (some ⟨b,off,none⟩):=by simpa using e
   obtain ⟨hyv,_⟩:=VX.F8 (x8 h hy)
   have hok:w4 (.arr m t) z [.idx n]:=⟨hn,by cases t<;>trivial⟩
   have hg:j6 (.arr m t) z [.idx n]=some ⟨t,List.getD z (Int.toNat n) t.o7⟩:=by simp only [j6]
   obtain ⟨O1,O2,b',off',e1,e2,e3,e4,e5,e6⟩:=focus h3 h2 hok hg
   have hO:O1=[]∧O2=[]:=by have:=e1.nil_eq; simpa using this.symm
   have e3':w7 w.heap (.arr m t) [.idx n] b off=some (b,off+Int.toNat n*t.size):=by simp only [w7]
   rw [e3'] at e3; cases e3
   refine a0D he (fun _=>by rw [e,hyv]; exact a0t (C1 hE hc) b off hn) ⟨b,off+Int.toNat n*t.size,rfl,h1,e5,?_⟩
   rw [hO.2] at e4; exact e4
  ·trivial
 ·rename_i t z k n hx hy
  split
  ·rename_i hc
   intro hn
   obtain ⟨cs,e,hR⟩:=x8 h hx
   have e:a.eval x=j7 (.d0 false t) cs:=by simpa using e
   obtain ⟨hyv,_⟩:=VX.F8 (x8 h hy)
   rcases hR with ⟨_,_,hz⟩|⟨b1,o1,cap,O',c1,c2,c3,c4,c5,c6,c7,c8⟩
   ·subst hz; exact (a9g hn).elim
   ·have hxv:a.eval x=.slice (some ⟨b1,o1,none⟩) (List.length z) cap:=by rw [e,c1]; rfl
    obtain ⟨b1',b2,b3,b4⟩:=C4 (sz:=t.size) hn
    obtain ⟨P1,P2,P3,e1,g1,g2,g3⟩:=i7.split (d:=t.o7) (i:=Int.toNat n) b1' c5
    have hle:t.size≤List.length z*t.size - Int.toNat n*t.size:=by omega
    rw [n5,m0 _ _ _ _ hle] at g2
    have hP:P2=[]:=by rw [c7] at e1; have:=List.append_eq_nil_iff.1 e1.symm; exact (List.append_eq_nil_iff.1 this.2).1
    refine a0D he (fun _=>by rw [hxv,hyv]; exact R7 (C1 hE hc) b1 o1 _ cap hn) ⟨b1,o1+Int.toNat n*t.size,rfl,c8,by omega,?_⟩
    rw [hP] at g2; exact g2
  ·trivial
 ·rename_i d p k n hx hy
  split
  ·rename_i u z hpt
   split
   ·rename_i hc
    intro hn
    obtain ⟨e,u',y',cs,h1,h2,h3,h4,h5⟩:=x8 h hx
    have hg:=G3 h1 hpt
    rw [h3] at hg; cases hg
    obtain ⟨hyv,_⟩:=VX.F8 (x8 h hy)
    have h5:a.eval x=j7 (.d0 true u) cs:=by simpa using h5
    obtain ⟨O2,m1,m2,m3⟩:=F0 h.hs h1 h2 h3 h4
    rcases m3 with ⟨_,_,hz⟩|⟨b1,o1,cap,O',rfl,c2,c3,c4,c5,c6,c7⟩
    ·subst hz; exact (a9g hn).elim
    ·have hxv:a.eval x=.slice (some ⟨b1,o1,none⟩) (List.length z) cap:=h5
     obtain ⟨b0,off0,q1,q2⟩:=h4
     have hh:=(M1 b0 off0 _).1 q2.symm
     refine a0D he (fun _=>by rw [hxv,hyv]; exact R7 (C1 hE hc) b1 o1 _ cap hn) ⟨e,b1,o1+n.toNat*u.size,h1,T8 h3 h2 ⟨hn,K2⟩,Z3 (Z2 h3 q1 ?_) c7.free.lt,rfl⟩
     simp only [w7,hh,w8]
   ·trivial
  ·trivial
 ·rename_i d p lo hi k n hx hy
  split
  ·rename_i u l hvw
   split
   ·rename_i hc
    intro hn
    have hn1:@LE.le Int Int.instLEInt 0 n:=hn.1
    have hn2:@LT.lt Int Int.instLTInt n (hi - lo):=hn.2
    obtain ⟨A,c,k1,k2,k3,k4,k5,e,k6,k7,k8⟩:=a7c h.hs (x8 h hx) hvw
    obtain ⟨hyv,_⟩:=VX.F8 (x8 h hy)
    have hz:l≠[]:=by rintro rfl; have k3:((0:Nat):Int)=hi - lo:=k3; omega
    obtain ⟨b,off,rfl,k9⟩:=k8 hz
    obtain ⟨off2,q1,rfl,q3⟩:=k9 n hn.1 (by omega)
    exact a0D he (fun _=>by rw [k1,hyv]; exact R7 (C1 hE hc) b off _ c (by omega)) ⟨e,b,_,k6,q3,q1,rfl⟩
   ·trivial
  ·trivial
 ·trivial

theorem b2r (_hE:C2 E B) (h:RS B S ι s a w) {o:Oper} {x:Operand} (ho:o.op=.nilCheck x):a90 E.P S ι o a w s (n6 E o s):=by
 unfold n6; rw [ho]
 simp only
 split
 ·rename_i i p hx
  obtain ⟨e,b,off,h1,h2,h3,h4⟩:=x8 h hx
  have h4:a.eval x=.pointer (some ⟨b,off,none⟩):=by simpa using h4
  exact ⟨rfl,.pointer (some ⟨b,off,none⟩),fun w'=>by simp only [execOp,ho,h4]; rfl,e,b,off,h1,h2,h3,rfl⟩
 ·rename_i t y hx
  obtain ⟨b,off,e,h1,h2,h3⟩:=x8 h hx
  have e:a.eval x=.pointer (some ⟨b,off,none⟩):=by simpa using e
  exact ⟨rfl,.pointer (some ⟨b,off,none⟩),fun w'=>by simp only [execOp,ho,e]; rfl,b,off,rfl,h1,h2,h3⟩
 ·rename_i t y hx
  intro hy
  obtain ⟨b,off,e,h1,h2,h3⟩:=a7a (x8 h hx) hy
  have e:a.eval x=.pointer (some ⟨b,off,none⟩):=by simpa using e
  exact ⟨rfl,.pointer (some ⟨b,off,none⟩),fun w'=>by simp only [execOp,ho,e]; rfl,b,off,rfl,h1,h2,h3⟩
 ·rename_i f t y hx
  intro hy
  have hv:=x8 h hx
  obtain ⟨p,e,-⟩:=a74 hv hy
  exact ⟨rfl,a.eval x,fun w'=>by simp only [execOp,ho,e]; rfl,hv⟩
 ·rename_i f l hx
  obtain ⟨us,e,h1⟩:=x8 h hx
  have e:a.eval x=.func (.func f) #[] us.toArray:=by simpa using e
  exact ⟨rfl,.func (.func f) #[] us.toArray,fun w'=>by simp only [execOp,ho,e]; rfl,us,rfl,h1⟩
 ·rename_i g b hx
  intro hb
  have hv:=b3Q h hx
  have hb:b=true:=hb
  subst hb
  exact ⟨rfl,.func (.func g) #[] #[],fun w'=>by simp only [execOp,ho,hv]; rfl,[fnV g true],rfl,rfl,rfl⟩
 ·trivial

theorem b1L (hE:C2 E B) (h:RS B S ι s a w) {o:Oper} (ho:a4u o.op=true):a90 E.P S ι o a w s (n6 E o s):=by
 unfold a4u at ho
 split at ho
 ·rename_i e; exact b0x hE h e
 ·rename_i e; exact b0u hE h e
 ·rename_i e; exact b2r hE h e
 ·cases ho
end

section
variable {S:Nat→Prop} {H H':Array Go.Obj}

theorem sib {t:Ty} {O:List Nat} {b off:Nat} {x:t.den} (hR:f7 H S t O (d8 H b off t.size) x) (hb:off+t.size≤(s5 H b).length) (hc:d8 H' b off t.size=d8 H b off t.size) (hO:∀ c∈O,H'[c]?=H[c]?)
  {q:List Step} (ho:w4 t x q) {u:Ty} {y:u.den} (hg:j6 t x q=some ⟨u,y⟩) {b' off':Nat} (hn:w7 H t q b off=some (b',off')):w7 H' t q b off=some (b',off')∧d8 H' b' off' u.size=d8 H b' off' u.size :=
 ⟨(a1X hR hb ho hc hO).trans hn,a3s hR hb ho hc hO hg hn⟩

theorem c5q:∀ {t:Ty} {p:List Step} {b off:Nat} {O1:List Nat} {x:t.den},s4 H S t p b off O1 x→off+t.size≤(s5 H b).length→d8 H' b off t.size=d8 H b off t.size→(∀ c∈O1,H'[c]?=H[c]?) →
  ∀ {u0:Ty} {y0:u0.den},j6 t x p=some ⟨u0,y0⟩→∀ {b0 off0:Nat},w7 H t p b off=some (b0,off0) →
  (∀ {q:List Step},w4 u0 y0 q→∀ {u:Ty} {y:u.den},j6 u0 y0 q=some ⟨u,y⟩→∀ {b' off':Nat},w7 H u0 q b0 off0=some (b',off')→w7 H' u0 q b0 off0=some (b',off')∧d8 H' b' off' u.size=d8 H b' off' u.size) →
  ∀ {q:List Step},w4 t x q→∀ {u:Ty} {y:u.den},j6 t x q=some ⟨u,y⟩→∀ {b' off':Nat},w7 H t q b off=some (b',off')→w7 H' t q b off=some (b',off')∧d8 H' b' off' u.size=d8 H b' off' u.size:=by
 intro t
 have here:∀ {t:Ty} {x:t.den} {b off:Nat},d8 H' b off t.size=d8 H b off t.size→∀ {u:Ty} {y:u.den},j6 t x []=some ⟨u,y⟩→∀ {b' off':Nat},w7 H t [] b off=some (b',off')→w7 H' t [] b off=some (b',off')∧d8 H' b' off' u.size=d8 H b' off' u.size:=by
  intro t x b off hc u y hg b' off' hn
  rw [x7] at hg; cases hg
  rw [w8] at hn; cases hn
  exact ⟨w8 ..,hc⟩
 induction t with
 | pair a c iha ihc =>
  intro p b off O1 x hR hb hc hO u0 y0 hg0 b0 off0 hn0 hP q ho u y hg b' off' hn
  match p,hR,hg0,hn0 with
  | [],_,hg0,hn0 =>
   rw [x7] at hg0; cases hg0
   rw [w8] at hn0; cases hn0
   exact hP ho hg hn
  | .l7 0::p,⟨P1,P2,e,h1,h2⟩,hg0,hn0 =>
   subst e
   simp only [Ty.size] at hb hc
   match q,ho,hg,hn with
   | [],_,hg,hn=>exact here hc hg hn
   | .l7 0::q,ho,hg,hn=>exact iha h1 (by omega) (W5 hc (by omega) (by omega)) (fun c hc=>hO c (by simp [hc])) hg0 hn0 hP ho hg hn
   | .l7 (m+1)::q,ho,hg,hn=>exact sib h2 (by omega) (W5 hc (by omega) (by omega)) (fun c hc=>hO c (by simp [hc])) (q:=.l7 m::q) ho hg hn
   | .idx i::q,ho,_,_=>simp [w4] at ho
  | .l7 (n+1)::p,⟨P1,P2,e,h1,h2⟩,hg0,hn0 =>
   subst e
   simp only [Ty.size] at hb hc
   match q,ho,hg,hn with
   | [],_,hg,hn=>exact here hc hg hn
   | .l7 0::q,ho,hg,hn=>exact sib h1 (by omega) (W5 hc (by omega) (by omega)) (fun c hc=>hO c (by simp [hc])) (q:=q) ho hg hn
   | .l7 (m+1)::q,ho,hg,hn=>exact ihc h2 (by omega) (W5 hc (by omega) (by omega)) (fun c hc=>hO c (by simp [hc])) hg0 hn0 hP (q:=.l7 m::q) ho hg hn
   | .idx i::q,ho,_,_=>simp [w4] at ho
  | .idx i::p,hR,_,_=>simp [s4] at hR
 | arr n t ih =>
  intro p b off O1 x hR hb hc hO u0 y0 hg0 b0 off0 hn0 hP q ho u y hg b' off' hn
  match p,hR,hg0,hn0 with
  | [],_,hg0,hn0 =>
   rw [x7] at hg0; cases hg0
   rw [w8] at hn0; cases hn0
   exact hP ho hg hn
  | .l7 i::p,hR,_,_=>simp [s4] at hR
  | .idx i::p,⟨hl,hi,P1,P2,P3,e,h1,h2,h3⟩,hg0,hn0 =>
   subst e
   obtain ⟨b1,b2,b3,b4⟩:=C4 (sz:=t.size) hi
   simp only [Ty.size] at hb hc
   match q,ho,hg,hn with
   | [],_,hg,hn=>exact here hc hg hn
   | .l7 j::q,ho,_,_=>simp [w4] at ho
   | .idx j::q,⟨hj,ho⟩,hg,hn =>
    obtain ⟨d1,d2,d3,d4⟩:=C4 (sz:=t.size) hj
    simp only [w7] at hn ⊢
    simp only [j6] at hg
    have hcj:d8 H' b (off+j.toNat*t.size) t.size=d8 H b (off+j.toNat*t.size) t.size:=W5 hc (by omega) (by omega)
    by_cases hij:i.toNat=j.toNat
    ·rw [← hij] at ho hg hn hcj ⊢
     exact ih h2 (by omega) hcj (fun c hc=>hO c (by simp [hc])) hg0 hn0 hP ho hg hn
    ·rcases Nat.lt_or_gt_of_ne hij with hlt|hgt
     ·have hd:j.toNat - (i.toNat+1)<(List.drop (i.toNat+1) x).length:=by simp only [List.length_drop]; omega
      obtain ⟨Q1,Q2,Q3,e,k1,k2,k3⟩:=i7.split (d:=t.o7) hd h3
      have e1:(i.toNat+1)*t.size+(j.toNat - (i.toNat+1))*t.size=j.toNat*t.size:=by rw [← Nat.add_mul]; congr 1; omega
      have hm:(j.toNat - (i.toNat+1))*t.size+t.size≤(n - (i.toNat+1))*t.size:=by omega
      rw [n5,m0 _ _ _ _ (by omega),Nat.add_assoc,e1] at k2
      have e2:(List.drop (i.toNat+1) x).getD (j.toNat - (i.toNat+1)) t.o7=List.getD x j.toNat t.o7:=by
       simp only [List.getD_eq_getElem?_getD,List.getElem?_drop]
       rw [show i.toNat+1+(j.toNat - (i.toNat+1))=j.toNat from by omega]
      rw [e2] at k2
      exact sib k2 (by omega) hcj (fun d hd=>hO d (by rw [e]; simp [hd])) ho hg hn
     ·have hd:j.toNat<(List.take i.toNat x).length:=by simp only [List.length_take]; omega
      obtain ⟨Q1,Q2,Q3,e,k1,k2,k3⟩:=i7.split (d:=t.o7) hd h1
      have hm:j.toNat*t.size+t.size≤i.toNat*t.size:=by
       rw [← Nat.succ_mul]; exact Nat.mul_le_mul_right _ (by omega)
      rw [n5,m0 _ _ _ _ (by omega)] at k2
      have e2:(List.take i.toNat x).getD j.toNat t.o7=List.getD x j.toNat t.o7:=by
       simp only [List.getD_eq_getElem?_getD,List.getElem?_take]
       rw [if_pos (by omega)]
      rw [e2] at k2
      exact sib k2 (by omega) hcj (fun d hd=>hO d (by rw [e]; simp [hd])) ho hg hn
 | d0 o t ih =>
  intro p b off O1 x hR hb hc hO u0 y0 hg0 b0 off0 hn0 hP q ho u y hg b' off' hn
  match p,hR,hg0,hn0 with
  | [],_,hg0,hn0 =>
   rw [x7] at hg0; cases hg0
   rw [w8] at hn0; cases hn0
   exact hP ho hg hn
  | .l7 i::p,hR,_,_=>cases o<;>simp [s4] at hR
  | .idx i::p,hR,hg0,hn0 =>
   cases o with
   | false=>simp [s4] at hR
   | true =>
    obtain ⟨hi,c1,o1,cap,P1,P2,P3,e,e1,e2,e3,e4,e5,e6,e7⟩:=hR
    subst e
    obtain ⟨b1,b2,b3,b4⟩:=C4 (sz:=t.size) hi
    have hcap:List.length x*t.size≤cap*t.size:=Nat.mul_le_mul_right _ e2
    have hfb:=e4.free.s5
    simp only [Ty.size] at hb hc
    match q,ho,hg,hn with
    | [],_,hg,hn=>exact here (t:=.d0 true t) hc hg hn
    | .l7 j::q,ho,_,_=>simp [w4] at ho
    | .idx j::q,⟨hj,ho⟩,hg,hn =>
     obtain ⟨d1,d2,d3,d4⟩:=C4 (sz:=t.size) hj
     have hhd:(s5 H' b)[off]?=some (.slice (some ⟨c1,o1,none⟩) (List.length x) cap):=by
      rw [b4p hc (j:=off) (by omega) (by omega)]; exact e1
     simp only [w7,e1] at hn hn0
     simp only [w7,hhd]
     simp only [j6] at hg
     have hcj:d8 H' c1 (o1+j.toNat*t.size) t.size=d8 H c1 (o1+j.toNat*t.size) t.size:=l4 (hO c1 (by simp)) _ _
     by_cases hij:i.toNat=j.toNat
     ·rw [← hij] at ho hg hn hcj ⊢
      exact ih e6 (by omega) hcj (fun c hc=>hO c (by simp [hc])) hg0 hn0 hP ho hg hn
     ·rcases Nat.lt_or_gt_of_ne hij with hlt|hgt
      ·have hd:j.toNat - (i.toNat+1)<(List.drop (i.toNat+1) x).length:=by simp only [List.length_drop]; omega
       obtain ⟨Q1,Q2,Q3,e,k1,k2,k3⟩:=i7.split (d:=t.o7) hd e7
       have f1:(i.toNat+1)*t.size+(j.toNat - (i.toNat+1))*t.size=j.toNat*t.size:=by rw [← Nat.add_mul]; congr 1; omega
       have hm:(j.toNat - (i.toNat+1))*t.size+t.size≤(List.length x - (i.toNat+1))*t.size:=by omega
       rw [n5,m0 _ _ _ _ (by omega),Nat.add_assoc,f1] at k2
       have f2:(List.drop (i.toNat+1) x).getD (j.toNat - (i.toNat+1)) t.o7=List.getD x j.toNat t.o7:=by
        simp only [List.getD_eq_getElem?_getD,List.getElem?_drop]
        rw [show i.toNat+1+(j.toNat - (i.toNat+1))=j.toNat from by omega]
       rw [f2] at k2
       exact sib k2 (by omega) hcj (fun d hd=>hO d (by rw [e]; simp [hd])) ho hg hn
      ·have hd:j.toNat<(List.take i.toNat x).length:=by simp only [List.length_take]; omega
       obtain ⟨Q1,Q2,Q3,e,k1,k2,k3⟩:=i7.split (d:=t.o7) hd e5
       have hm:j.toNat*t.size+t.size≤i.toNat*t.size:=by
        rw [← Nat.succ_mul]; exact Nat.mul_le_mul_right _ (by omega)
       rw [n5,m0 _ _ _ _ (by omega)] at k2
       have f2:(List.take i.toNat x).getD j.toNat t.o7=List.getD x j.toNat t.o7:=by
        simp only [List.getD_eq_getElem?_getD,List.getElem?_take]
        rw [if_pos (by omega)]
       rw [f2] at k2
       exact sib k2 (by omega) hcj (fun d hd=>hO d (by rw [e]; simp [hd])) ho hg hn
 | _ =>
  intro p b off O1 x hR hb hc hO u0 y0 hg0 b0 off0 hn0 hP q ho u y hg b' off' hn
  match p,hR,hg0,hn0 with
  | [],_,hg0,hn0 =>
   rw [x7] at hg0; cases hg0
   rw [w8] at hn0; cases hn0
   exact hP ho hg hn
  | .idx i::p,hR,_,_=>simp [s4] at hR
  | .l7 i::p,hR,_,_=>simp [s4] at hR

theorem b8a {t0:Ty} {l:List t0.den} {b off b1 o1 cap n:Nat} {Op:List Nat} (hR:f7 H S (.d0 true t0) Op (d8 H b off 1) l) (hOp:∀ c∈Op,c<H.size) (hnd:Op.Nodup) (hb:b<H.size) (hbO:b∉Op)
  (hh:d8 H b off 1=[.slice (some ⟨b1,o1,none⟩) l.length cap]) (h1:1≤cap) (hc:T4 H H' b1 (o1+l.length*t0.size) n) :
  ∀ {q:List Step},w4 (.d0 true t0) l q→∀ {u:Ty} {y:u.den},j6 (.d0 true t0) l q=some ⟨u,y⟩→∀ {b' off':Nat},w7 H (.d0 true t0) q b off=some (b',off')→w7 H' (.d0 true t0) q b off=some (b',off')∧d8 H' b' off' u.size=d8 H b' off' u.size:=by
 intro q ho u y hg b' off' hn
 rcases hR with ⟨_,⟨A,c,e,hc0⟩,_⟩|⟨b2,o2,cap2,O',c1,c2,c3,c4,c5,rfl,c7⟩
 ·rw [hh] at e
  simp only [List.cons.injEq,Value.slice.injEq,and_true] at e
  have:=hc0 rfl; omega
 ·rw [hh] at c1
  simp only [List.cons.injEq,Value.slice.injEq,Option.some.injEq,Addr.mk.injEq,and_true] at c1
  obtain ⟨⟨rfl,rfl⟩,-,rfl⟩:=c1
  have hne:b≠b1:=fun e=>hbO (by simp [e])
  have hcb:d8 H' b off 1=d8 H b off 1:=hc.cells hb (fun e=>absurd e hne)
  match q,ho,hg,hn with
  | [],_,hg,hn =>
   rw [x7] at hg; cases hg
   rw [w8] at hn; cases hn
   exact ⟨w8 ..,hcb⟩
  | .l7 j::q,ho,_,_=>simp [w4] at ho
  | .idx j::q,⟨hj,ho⟩,hg,hn =>
   obtain ⟨d1,d2,d3,d4⟩:=C4 (sz:=t0.size) hj
   have hhd:=(M1 b off _).1 hh
   have hhd':=(M1 b off _).1 (hcb.trans hh)
   simp only [w7,hhd] at hn
   simp only [w7,hhd']
   simp only [j6] at hg
   obtain ⟨P1,P2,P3,e,g1,g2,g3⟩:=i7.split (d:=t0.o7) d1 c5
   subst e
   rw [n5,m0 _ _ _ _ (by omega)] at g2
   have hcap:=c7.free.s5
   have hcm:List.length l*t0.size≤cap*t0.size:=Nat.mul_le_mul_right _ c2
   refine sib g2 (by omega) (hc.cells (hOp b1 (by simp)) (fun _=>.inl (by omega))) (fun d hd=>hc.rest d ?_ (hOp d (by simp [hd]))) ho hg hn
   rintro rfl
   exact (List.nodup_cons.1 hnd).1 (by simp [hd])
end

section
variable {E:Env} {B:D4} {S:Nat→Prop} {ι:Ix} {s:St} {a:Act} {w:World}

theorem RS.spare (h:RS B S ι s a w) {i:Nat} {e:g8} (he:look i s.hp=some e) (_hnb:e≠.I9) {w':World} (k:y8 (l6 ι i e) w w') (hob:OB w'.heap S ι i e) (hsz:w'.heap.size=w.heap.size)
  (hnav:∀ {q:List Step},w4 e.ty e.x q→∀ {u:Ty} {y:u.den},j6 e.ty e.x q=some ⟨u,y⟩→∀ {b off:Nat},Place w.heap ι i e q=some (b,off)→Place w'.heap ι i e q=some (b,off)∧d8 (VH w'.heap ι i e) b off u.size=d8 (VH w.heap ι i e) b off u.size) :
  RS B S ι s a w':=by
 have hold:∀ {b:Nat},((∃ j ej,j≠i∧look j s.hp=some ej∧b∈l6 ι j ej)∨S b)→w'.heap[b]?=w.heap[b]?:=by
  intro b hb
  refine k.frame b (hb.elim (fun ⟨j,ej,_,h1,h2⟩=>(h.hs.bl j ej h1 b h2).2.2) (h.hs.slt b)) (fun hbL=>?_)
  rcases hb with ⟨j,ej,h0,h1,h2⟩|hb
  ·exact h.hs.dj i j e ej he h1 (Ne.symm h0) b hbL h2
  ·exact (h.hs.bl i e he b hbL).1 hb
 have hHS:HS B S ι s.hp w':=by
  refine ⟨k.os.trans h.hs.os,k.tape.trans h.hs.tape,k.out.trans h.hs.out,by rw [hsz]; exact h.hs.size,?_,fun b hb=>by rw [hsz]; exact h.hs.slt b hb,h.hs.s0,h.hs.s1,?_,fun j ej hj c hc=>?_,h.hs.dj,h.hs.pin⟩
  ·intro c hc hm
   rw [k.frame c (Nat.lt_of_lt_of_le hc h.hs.size) (fun hcL=>by rcases (h.hs.bl i e he c hcL).2.1 with h1|h1; omega; exact hm h1)]
   exact h.hs.frame c hc hm
  ·intro j ej hj
   by_cases e1:j=i
   ·subst e1; rw [he] at hj; cases hj; exact hob
   ·exact (h.hs.ob j ej hj).r7 (fun b hb=>hold (hb.imp (fun hb=>⟨j,ej,e1,hj,hb⟩) id)) (fun _ h=>h)
  ·rw [hsz]; exact h.hs.bl j ej hj c hc
 have hloc:∀ {j:Nat} {ej:g8},look j s.hp=some ej→∀ {q:List Step},w4 ej.ty ej.x q→∀ {r:Nat×Nat},Loc w.heap ι j ej q=some r→Loc w'.heap ι j ej q=some r:=by
  intro j ej hj q hok r hl
  by_cases e1:j=i
  ·subst e1; rw [he] at hj; cases hj
   obtain ⟨u,y,hg⟩:=b1p hok
   obtain ⟨g1,g2⟩:=y9 (b:=r.1) (off:=r.2) hl
   exact Z3 (hnav hok hg g1).1 (by rw [hsz]; exact g2)
  ·exact a5B (K3 hl) (h.hs.ob j ej hj) h.hs.slt (fun b hb=>hold (.inl ⟨j,ej,e1,hj,hb⟩)) hok hl
 have hcel:∀ {j:Nat} {ej:g8},look j s.hp=some ej→∀ {q:List Step},w4 ej.ty ej.x q→∀ {u:Ty} {y:u.den},j6 ej.ty ej.x q=some ⟨u,y⟩→∀ {cs:List Value},Cells w.heap ι j ej q u cs→Cells w'.heap ι j ej q u cs:=by
  intro j ej hj q hok u y hg cs hc
  by_cases e1:j=i
  ·subst e1; rw [he] at hj; cases hj
   obtain ⟨b0,o0,g1,g2⟩:=hc
   obtain ⟨m1,m2⟩:=hnav hok hg g1
   exact ⟨b0,o0,m1,g2.trans m2.symm⟩
  ·exact a3C (a2B hc) (h.hs.ob j ej hj) h.hs.slt (fun b hb=>hold (.inl ⟨j,ej,e1,hj,hb⟩)) hok hg hc
 refine ⟨hHS,h.dfr,h.sz,fun t v hv=>?_⟩
 have:=VX.map (H':=w'.heap) (S':=S) (ι':=ι) (hp':=s.hp) (f:=fun u=>u) (fun b hb=>hold (.inr hb)) (fun _ h=>h) ?_ (h.fr t v hv)
 ·rwa [AV.map_id] at this
 ·intro u vs hu _ h
  cases u<;>simp only [AV.ref] at hu<;>try cases hu
  ·obtain ⟨e',b,off,h1,h2,h3,h4⟩:=h
   exact ⟨e',b,off,h1,h2,hloc h1 h2 h3,h4⟩
  ·obtain ⟨e',u,y,cs,h1,h2,h3,h4,h5⟩:=h
   exact ⟨e',u,y,cs,h1,h2,h3,hcel h1 h2 h3 h4,h5⟩
  ·obtain ⟨e',v',h1,h2,h3,h4,h5,h6⟩:=h
   refine ⟨e',v',h1,h2,h3,h4,h5,?_⟩
   rcases h6 with ⟨t,l,a,cap,k1,k2,k3,k4⟩|⟨n,t,l,b,off,k1,k2,k3,k4⟩
   ·exact .inl ⟨t,l,a,cap,k1,k2,hcel h1 h2 k1 k3,k4⟩
   ·exact .inr ⟨n,t,l,b,off,k1,k2,hloc h1 h2 k3,k4⟩

def b9S (B:D4) (S:Nat→Prop) (ι:Ix) (hp:List (Nat×g8)) (g:List Nat) (i:Nat) (e:g8) (p:List Step) (t0:Ty) (l m:List t0.den) (b off:Nat) (v':Value) (w:World):Prop :=
 ∃ O',Loc w.heap ι i e p=some (b,off)∧f7 w.heap S (.d0 true t0) O' [v'] (l++m)∧O'.Nodup∧b∉O' ∧
  ∀ c∈O',(¬ S c∧(B.w0.heap.size≤c∨B.M c)∧c<w.heap.size)∧(∀ j ej,j≠i→j∉g→look j hp=some ej→c∉l6 ι j ej) ∧
   (c∈l6 ι i e→∃ Op,f7 w.heap S (.d0 true t0) Op (d8 w.heap b off 1) l∧c∈Op)

theorem b6r (hE:C2 E B) (h:RS B S ι s a w) {o:Oper} {c:Call} (ho:o.op=.call c) (hc:c.callee=.builtin .append) {x y:Operand} {T U:TypeId} (ha:c.args.toList=[x,y]) (hTs:c.argTypes.toList=[T,U])
  (hk:(∃ e',E.P.underlying U=some (.slice e'))∨E.P.underlying U=some .string) {q:Bool} {t0:Ty} {bts:Nat} (hT:look T E.tt=some ⟨.d0 q t0,bts⟩) {i:Nat} {p:List Step} (hx:s.ev x=.at_ i p)
  {e:g8} (he:look i s.hp=some e) (hkd:(∃ t x,e=.var t x)∨∃ t x j q,e=.own (.d0 true t) x∧p=.idx j::q) {l:List t0.den} (hg:j6 e.ty e.x p=some ⟨.d0 true t0,l⟩)
  {b off:Nat} (hl:Loc w.heap ι i e p=some (b,off)) {m:List t0.den} {g:List Nat} (happ:(s.ev y).a1e s t0=some (⟨t0,m⟩,g)) (hgi:i∉g) (_hgn:g.Nodup)
  (h63:l.length+m.length≤140737488355328) (hby:(l.length+m.length)*t0.wb≤140737488355328) :
  ∃ v' w',(execOp a.eval o).run E.P w=.ok (.value v') w'∧RS B S ι s a w'∧w4 e.ty e.x p∧b9S B S ι s.hp g i e p t0 l m b off v' w':=by
 have hnb:e≠.I9:=K3 hl
 obtain ⟨Og,news,k1,k2,k3,k4⟩:=a5y (P:=E.P) h hk happ (h.ev y)
 obtain ⟨e2,u,y2,cs,r1,hok,r3,r4,r5⟩:=x8 h hx
 rw [he] at r1; cases r1
 rw [hg] at r3; cases r3
 obtain ⟨Op,m1,mn,m2,m3,m4,m5⟩:=N2 hnb (h.hs.ob i e he) h.hs.slt hok hg hl
 have hbOp:=(h.hs.ob i e he).a0E hnb h.hs.slt hok hg hl m2
 obtain ⟨hpl,hbl2⟩:=y9 hl
 have hcs:cs=d8 w.heap b off 1:=by
  obtain ⟨b0,off0,q1,q2⟩:=r4
  rw [hpl] at q1; cases q1
  rw [l4 (E8 hbl2)] at q2
  exact q2
 have hv1:d8 w.heap b off 1=[a.eval x]:=by
  have hln:(d8 w.heap b off 1).length=1:=m2.length
  have r5':a.eval x=j7 (.d0 true t0) cs:=by simpa using r5
  rw [r5',hcs]
  match hcc:d8 w.heap b off 1,hln with
  | [z],_=>rfl
 have m2':f7 w.heap S (.d0 true t0) Op [a.eval x] l:=by rw [← hv1]; exact m2
 have hty:n8 E.P 100 T (.d0 true t0)=true:=a4n (t:=.d0 q t0) (u:=.d0 true t0) rfl (p9 hE hT)
 have hOpb:∀ c∈Op,c∈l6 ι i e:=fun c hc=>F5 (m1 c hc)
 have hnd:(Op++Og).Nodup:=List.nodup_append.2 ⟨mn,k3,by
  rintro c h1 c' h2 rfl
  obtain ⟨j,e',j1,j2,j3⟩:=k4 c h2
  exact h.hs.dj i j e e' he j2 (by rintro rfl; exact hgi j1) c (hOpb c h1) j3⟩
 have hOg:∀ c∈Og,¬ S c∧(B.w0.heap.size≤c∨B.M c)∧c<w.heap.size:=fun c hc=>by
  obtain ⟨j,e',_,j2,j3⟩:=k4 c hc
  exact h.hs.bl j e' j2 c j3
 have hOpS:=fun c hc=>h.hs.bl i e he c (hOpb c hc)
 obtain ⟨v',w',O',q1,q2,q3,q4,q5,q6,q7⟩:=a9V hty o.type h.hs.slt m2' k1 k2 hnd (fun c hc=>(List.mem_append.1 hc).elim (fun h=>⟨(hOpS c h).1,(hOpS c h).2.2⟩) (fun h=>⟨(hOg c h).1,(hOg c h).2.2⟩)) h63 hby
 have hargs:c.args=#[x,y]:=by rw [← ha]
 have hts:c.argTypes=#[T,U]:=by rw [← hTs]
 have hrun:(execOp a.eval o).run E.P w=.ok (.value v') w':=by
  simp [execOp,ho,resolve,hc,invoke,builtin,hargs,hts,q1]
 have hbl':∀ c∈l6 ι i e,¬ S c∧c<w.heap.size:=fun c hc=>⟨(h.hs.bl i e he c hc).1,(h.hs.bl i e he c hc).2.2⟩
 have hcell:d8 w'.heap b off 1=[a.eval x]:=by rw [l4 (q4.frame b hbl2 hbOp)]; exact hv1
 obtain ⟨n2,n3⟩:=OB.same (H':=w'.heap) (h.hs.ob i e he) hbl' h.hs.slt hkd hok hg hl q4.size m2 (fun c hc hn=>q4.frame c hc hn) (by
  show f7 w'.heap S (.d0 true t0) Op (d8 w'.heap b off 1) l
  rw [hcell]; exact q6)
 have hRS:RS B S ι s a w':=by
  rcases q7 with q7|⟨b1,o1,cap,n,f1,f2,f3,f4,f5⟩
  ·exact h.V7 C9.nil q7
  ·have hb1:b1∈Op:=by
    rcases m2' with ⟨_,⟨A,c,e0,hc0⟩,_⟩|⟨b2,o2,cap2,O2,c1,_,_,_,_,rfl,_⟩
    ·rw [f1] at e0
     simp only [List.cons.injEq,Value.slice.injEq,and_true] at e0
     have:=hc0 rfl; omega
    ·rw [f1] at c1
     simp only [List.cons.injEq,Value.slice.injEq,Option.some.injEq,Addr.mk.injEq,and_true] at c1
     rw [c1.1.1]; simp
   refine h.spare he hnb (q4.mono hOpb) n2 f5 ?_
   -- the object's own pointers
   obtain ⟨O,hO,hR,hbb,hnd0,hlt0,hns,hfr⟩:=(h.hs.ob i e he).see hnb h.hs.slt
   obtain ⟨O1,O3,b',off',g1,g2,g3,g4,g5,g6⟩:=focus hR hbb hok hg
   have hpl':=hpl
   rw [F7 hnb,g3] at hpl'; cases hpl'
   have g4':f7 w.heap S (.d0 true t0) O3 (d8 w.heap b off 1) l:=by
    have g4:f7 (VH w.heap ι i e) S (.d0 true t0) O3 (d8 (VH w.heap ι i e) b off 1) l:=g4
    rw [l4 (E8 hbl2)] at g4
    exact (Z1 (fun c hc=>(h.hs.ob i e he).P6 hnb (hO.mem_iff.1 (g1.mem_iff.2 (by simp [hc])))) h.hs.slt).1 g4
   obtain rfl:Op=O3:=m2.det g4'
   have hndO:(O1++Op).Nodup:=(g1.nodup_iff).1 ((hO.nodup_iff).2 (List.nodup_cons.1 hnd0).2)
   have hb1lt:b1<w.heap.size:=(hbl' b1 (hOpb b1 hb1)).2
   have hroot:b1≠(VR w.heap ι i e).1:=by
    rintro rfl
    exact (List.nodup_cons.1 hnd0).1 (hO.mem_iff.1 (g1.mem_iff.2 (by simp [hb1])))
   have hVsz:(VR w'.heap ι i e)=(VR w.heap ι i e):=by cases e<;>simp [VR,f5]
   have hV:∀ c,c≠b1→(VH w'.heap ι i e)[c]?=(VH w.heap ι i e)[c]?:=by
    intro c hcb
    have hr:∀ c,c≠b1→w'.heap[c]?=w.heap[c]?:=by
     intro c hcb
     rcases Nat.lt_or_ge c w.heap.size with h1|h1
     ·exact f4.rest c hcb h1
     ·rw [Array.getElem?_eq_none h1,Array.getElem?_eq_none (by omega)]
    cases e with
    | own t x =>
     simp only [VH,gh]
     rw [Array.getElem?_push,Array.getElem?_push,f5]
     split
     ·rfl
     ·exact hr c hcb
    | _=>exact hr c hcb
   have hVc:T4 (VH w.heap ι i e) (VH w'.heap ι i e) b1 (o1+l.length*t0.size) n:=by
    obtain ⟨arr,arr',T',⟨fz,⟨z1,z2⟩,z3⟩,z4,z5⟩:=f4.at_
    exact ⟨⟨arr,arr',T',⟨fz,⟨(E8 hb1lt).trans z1,z2⟩,(E8 (by omega)).trans z3⟩,z4,z5⟩,fun c hcb _=>hV c hcb⟩
   intro q' hok' u' y' hg' b' o' hp'
   rw [F7 hnb] at hp' ⊢
   rw [hVsz]
   have hbV:b<(VH w.heap ι i e).size:=Nat.lt_of_lt_of_le hbl2 a2h
   refine c5q g2 hbb (l4 (hV _ (Ne.symm hroot)) _ _) (fun c hc=>hV c ?_) hg g3 ?_ hok' hg' hp'
   ·rintro rfl
    exact (List.nodup_append.1 hndO).2.2 c hc c hb1 rfl
   ·have hcv:d8 (VH w.heap ι i e) b off 1=[.slice (some ⟨b1,o1,none⟩) l.length cap]:=by
     rw [l4 (E8 hbl2),hv1,f1]
    intro q2 hq2 u2 y2 hgq b2 off2 hn2
    exact b8a (H':=VH w'.heap ι i e) g4 (fun c hc=>Nat.lt_of_lt_of_le (hbl' c (hOpb c hc)).2 a2h) mn hbV hbOp hcv f3 hVc hq2 hgq hn2
 refine ⟨v',w',hrun,hRS,hok,O',n3,q2,q3,?_,?_⟩
 ·intro hb
  rcases (q5 b hb).1 with h1|h1
  ·omega
  ·rcases List.mem_append.1 h1 with h1|h1
   ·exact hbOp h1
   ·obtain ⟨j,e',j1,j2,j3⟩:=k4 b h1
    exact h.hs.dj i j e e' he j2 (by rintro rfl; exact hgi j1) b m4 j3
 ·intro c hc
  obtain ⟨f1,f2⟩:=q5 c hc
  have fact:(¬ S c∧(B.w0.heap.size≤c∨B.M c)∧c<w'.heap.size)∧(∀ j ej,j≠i→j∉g→look j s.hp=some ej→c∉l6 ι j ej)∧(c∈l6 ι i e→c∈Op):=by
   rcases f1 with f1|f1
   ·exact ⟨⟨fun hs=>by have:=h.hs.slt c hs; omega,.inl (Nat.le_trans h.hs.size f1),f2⟩,fun j ej _ _ hj hcb=>by have:=(h.hs.bl j ej hj c hcb).2.2; omega,fun hcb=>by have:=(hbl' c hcb).2; omega⟩
   ·rcases List.mem_append.1 f1 with f1|f1
    ·have:=hOpS c f1
     exact ⟨⟨this.1,this.2.1,f2⟩,fun j ej hj _ hlj=>h.hs.dj i j e ej he hlj (Ne.symm hj) c (hOpb c f1),fun _=>f1⟩
    ·have:=hOg c f1
     obtain ⟨j0,e0,j1,j2,j3⟩:=k4 c f1
     exact ⟨⟨this.1,this.2.1,f2⟩,fun j ej _ hjg hlj=>h.hs.dj j0 j e0 ej j2 hlj (by rintro rfl; exact hjg j1) c j3,fun hcb=>absurd hcb (h.hs.dj j0 i e0 e j2 he (by rintro rfl; exact hgi j1) c j3)⟩
  exact ⟨fact.1,fact.2.1,fun hcb=>⟨Op,by rw [hcell]; exact q6,fact.2.2 hcb⟩⟩

theorem a3G {e:g8} {p:List Step} {r:Sigma Ty.den} (h:a7d e p r=true):a67 e e∧((∃ t x,e=.var t x)∨∃ t x j q,e=.own (.d0 true t) x∧p=.idx j::q):=by
 unfold a7d at h
 split at h
 ·exact ⟨.inl ⟨_,_,_,rfl,rfl⟩,.inl ⟨_,_,rfl⟩⟩
 ·split at h
  ·exact ⟨.inr (.inl ⟨_,_,_,rfl,rfl⟩),.inr ⟨_,_,_,_,rfl,rfl⟩⟩
  ·cases h
 ·cases h

theorem a0d {a:Act} {t d:Nat} {v:Value} (h:t≠d):(a.put (some d) v).eval (.tmp t)=a.eval (.tmp t):=by
 show (a.tmps.setIfInBounds d v).getD t undef=a.tmps.getD t undef
 simp only [Array.getD_eq_getD_getElem?,Array.getElem?_setIfInBounds,if_neg (Ne.symm h)]
theorem b1J {a:Act} {d:Nat} {v:Value} (h:d<a.tmps.size):(a.put (some d) v).eval (.tmp d)=v:=by
 show (a.tmps.setIfInBounds d v).getD d undef=v
 simp only [Array.getD_eq_getD_getElem?,Array.getElem?_setIfInBounds,if_pos h]; rfl

theorem b8l (hE:C2 E B) (h:RS B S ι s a w) {g:List Nat} (hgp:(g.all fun i=>!pinned i)=true) {i:Nat} (hgi:i∉g) {e:g8} (he:look i s.hp=some e) {p:List Step} (hok:w4 e.ty e.x p) {t0:Ty} {l m:List t0.den} (hg:j6 e.ty e.x p=some ⟨.d0 true t0,l⟩) {b off:Nat} {v':Value}
  (hP:b9S B S ι s.hp g i e p t0 l m b off v' w) {o:Oper} {T:TypeId} {ad:Operand} {d:Nat} (ho:o.op=.store T ad (.tmp d)) (had:a.eval ad=.pointer (some ⟨b,off,none⟩)) (hv:a.eval (.tmp d)=v') (hck:I0 E T (.d0 true t0)=true)
  {r:Sigma Ty.den} (hset:r9 e.ty e.x p (.d0 true t0) (l++m)=some r):u6 E.P B o a w (.raw undef) (((St.s7 g s).kill i e.kd p).s8 i (e.D6 r)):=by
 obtain ⟨O',hl,k5,k6,k7,k8⟩:=hP
 have hd:=h.s7 (g:=g) hgp
 have hl1:look i (St.s7 g s).hp=some e:=by rw [H5,if_neg hgi]; exact he
 refine a1i hE hd ho (i:=i) (e:=e) hl1 hok hl had hg hck (u':=.d0 true _) (O2:=O') (cs:=[v']) k5 k6 (by rw [hv]; rfl) hset (fun c hc=>?_) k7
 obtain ⟨f1,f2,f3⟩:=k8 c hc
 refine ⟨f1,fun j ej hj hlj=>?_,f3⟩
 rw [H5] at hlj
 split at hlj
 ·cases hlj
 ·rename_i hjg; exact f2 j ej hj hjg hlj

theorem c1L (hE:C2 E B) (h:RS B S ι s a w) {o:Oper} {c:Call} (ho:o.op=.call c) (hc:c.callee=.builtin .append) {x y:Operand} {T U:TypeId} (ha:c.args.toList=[x,y]) (hTs:c.argTypes.toList=[T,U])
  {o2:Oper} {T2:TypeId} {adv:AV} {ad:Operand} {d:Nat} (_ho2:o2.op=.store T2 ad (.tmp d)) {p:Prop} {s2:St} (hb:b9O E T U T2 (s.ev x) (s.ev y) adv d s=some (p,s2)) (hp:p) :
  ∃ i p0 e t0 l m g r v' w',s.ev x=.at_ i p0∧adv=.ptr i p0∧look i s.hp=some e∧i∉g∧(g.all fun i=>!pinned i)=true∧j6 e.ty e.x p0=some ⟨.d0 true t0,l⟩∧I0 E T2 (.d0 true t0)=true ∧
   r9 e.ty e.x p0 (.d0 true t0) (l++m)=some r∧s2=(((St.s7 g (s.put (some d) .any)).kill i e.kd p0).s8 i (e.D6 r)) ∧
   (execOp a.eval o).run E.P w=.ok (.value v') w'∧RS B S ι s a w'∧w4 e.ty e.x p0∧∀ b off,Loc w.heap ι i e p0=some (b,off)→b9S B S ι s.hp g i e p0 t0 l m b off v' w':=by
 unfold b9O at hb
 split at hb
 ·rename_i i p0 j q q1 t0 bts u1 bts1 hx hT hU
  split at hb
  ·rename_i e hob hku
   simp only [Bool.and_eq_true] at hku
   obtain ⟨hij,hku⟩:=hku
   have hij:=Nat.eq_of_beq_eq_true hij
   subst hij
   split at hb
   ·rename_i u l hg
    split at hb
    ·rename_i t m g happ
     split at hb
     ·rename_i hu
      split at hb
      ·rename_i ht
       subst hu; subst ht
       split at hb
       ·rename_i r hset
        split at hb
        ·rename_i hck
         cases hb
         simp only [Bool.and_eq_true,Bool.not_eq_true'] at hck
         obtain ⟨⟨⟨⟨hck,hst⟩,hgi⟩,hgn⟩,hgp⟩:=hck
         obtain ⟨rfl,h63,hby⟩:=hp
         obtain ⟨_,hkd⟩:=a3G hst
         have hgi:i∉g:=by intro hm; simp [hm] at hgi
         have hk:(∃ e',E.P.underlying U=some (.slice e'))∨E.P.underlying U=some .string:=by
          cases u1<;>first|cases hku|skip
          ·exact .inr (S6 (p9 hE hU))
          ·obtain ⟨et,k',f1,_⟩:=E5 (p9 hE hU)
           exact .inl ⟨et,f1⟩
         have hob:look i s.hp=some e:=hob
         have key:∀ b off,Loc w.heap ι i e q=some (b,off)→∃ v' w',(execOp a.eval o).run E.P w=.ok (.value v') w'∧RS B S ι s a w'∧w4 e.ty e.x q∧b9S B S ι s.hp g i e q _ l m b off v' w' :=
          fun b off hl=>b6r hE h ho hc ha hTs hk hT hx hob hkd hg hl happ hgi (a2a hgn) h63 hby
         obtain ⟨e2,u,y2,cs,r1,hok,r3,r4,r5⟩:=x8 h hx
         rw [hob] at r1; cases r1
         obtain ⟨b,off,hl⟩:=a8m (h.hs.ob i e hob) h.hs.slt (a3G hst).2 hok hg
         obtain ⟨v',w',k1,k2,k3,k4⟩:=key b off hl
         exact ⟨i,q,e,_,l,m,g,r,v',w',hx,rfl,hob,hgi,hgp,hg,hck,hset,rfl,k1,k2,k3,fun b' off' hl'=>by rw [hl] at hl'; cases hl'; exact k4⟩
        ·cases hb
       ·cases hb
      ·cases hb
     ·cases hb
    ·cases hb
   ·cases hb
  ·cases hb
 ·cases hb

theorem b9N (hE:C2 E B) (h:RS B S ι s a w) {o:Oper} {c:Call} (ho:o.op=.call c) (hc:c.callee=.builtin .append) {x y:Operand} {T U:TypeId} (ha:c.args.toList=[x,y]) (hTs:c.argTypes.toList=[T,U])
  {o2:Oper} {T2:TypeId} {ad:Operand} {d:Nat} (hd:J4 B.n (some d)=true) (ho2:o2.op=.store T2 ad (.tmp d)) (had:∀ t,ad=.tmp t→t≠d) {p:Prop} {s2:St} (hb:b9O E T U T2 (s.ev x) (s.ev y) (s.ev ad) d s=some (p,s2)) (hp:p) :
  ∃ v' w',(execOp a.eval o).run E.P w=.ok (.value v') w'∧u6 E.P B o2 (a.put (some d) v') w' (.raw undef) s2:=by
 obtain ⟨i,p0,e,t0,l,m,g,r,v',w',hx,had1,hob,hgi,hgp,hg,hck,hset,rfl,k1,k2,k3,k4⟩:=c1L hE h ho hc ha hTs ho2 hb hp
 refine ⟨v',w',k1,?_⟩
 obtain ⟨e',b,off,h1,h2,h3,h4⟩:=x8 h had1
 rw [hob] at h1; cases h1
 have hput:=k2.put hd (v:=.any) (val:=v') ⟨v',rfl⟩
 have hadv:(a.put (some d) v').eval ad=.pointer (some ⟨b,off,none⟩):=by
  have h4':a.eval ad=.pointer (some ⟨b,off,none⟩):=by simpa using h4
  rw [← h4']
  cases ad with
  | tmp t=>exact a0d (had t rfl)
  | _=>rfl
 have hval:(a.put (some d) v').eval (.tmp d)=v':=b1J (by rw [h.sz]; simpa [J4,Nat.blt_eq] using hd)
 exact b8l hE hput (g:=g) hgp hgi (e:=e) (by simpa [St.put] using hob) h2 hg (k4 b off h3) ho2 hadv hval hck hset

theorem b4w {o:Oper} (ho:a4u o.op=true) {a a':Act} (h:∀ t∈a6b o,a'.eval (.tmp t)=a.eval (.tmp t)):execOp a'.eval o=execOp a.eval o:=by
 have hop:∀ x∈o.op.operands.toList,a'.eval x=a.eval x:=by
  intro x hx
  cases x with
  | tmp t=>exact h t (List.mem_filterMap.2 ⟨.tmp t,hx,rfl⟩)
  | _=>rfl
 unfold a4u at ho
 split at ho
 ·rename_i e; rw [e] at hop; simp [Op.operands] at hop; simp [execOp,e,hop]
 ·rename_i e; rw [e] at hop; simp [Op.operands] at hop; simp [execOp,e,hop]
 ·rename_i e; rw [e] at hop; simp [Op.operands] at hop; simp [execOp,e,hop]
 ·cases ho

theorem b1I {a:Act} {d e:Nat} {v u:Value} (h:d≠e):(a.put (some d) v).put (some e) u=(a.put (some e) u).put (some d) v:=by
 simp only [Act.put]
 congr 1
 apply Array.ext_getElem?
 intro i
 simp only [Array.getElem?_setIfInBounds,Array.size_setIfInBounds]
 by_cases h1:e=i
 ·subst h1; simp [h]
 ·simp [h1]

theorem a6m (hE:C2 E B) (hn:B.n=E.nt) {ops:Array Oper} {Q:Exit→Act→World→Prop} {oa:Oper} {c:Call} (ho:oa.op=.call c) (hc:c.callee=.builtin .append) {x y:Operand} {T U:TypeId} (ha:c.args.toList=[x,y]) (hTs:c.argTypes.toList=[T,U])
  {d:Nat} (hd:J4 B.n (some d)=true):∀ {l:List Oper} {S:Nat→Prop} {ι:Ix} {s:St} {a:Act} {w:World} {p:Prop} {s2:St} {n:Nat},RS B S ι s a w→a9w E T U x y d l s=some (p,s2,n)→p →
  ∃ v' w',(execOp a.eval oa).run E.P w=.ok (.value v') w'∧((∀ S' ι' a' w'',RS B S' ι' s2 a' w''→wpList E.P ops Q (l.drop n) a' w'')→wpList E.P ops Q l (a.put (some d) v') w')
 | [],S,ι,s,a,w,p,s2,n,_,hf,_=>by cases hf
 | o::rest,S,ι,s,a,w,p,s2,n,h,hf,hp=>by
  have hargs:c.args=#[x,y]:=by rw [← ha]
  have hts:c.argTypes=#[T,U]:=by rw [← hTs]
  unfold a9w at hf
  split at hf
  ·rename_i hg hdo
   split at hf
   ·rename_i hia
    split at hf
    ·rename_i d1 hd1
     split at hf
     ·rename_i p1 v hcond hv
      split at hf
      ·rename_i p2 s3 n2 hrec
       cases hf
       simp only [Bool.and_eq_true,Bool.not_eq_true'] at hcond
       obtain ⟨⟨⟨c1,c2⟩,c3⟩,c4⟩:=hcond
       have hne:d1≠d:=by rintro rfl; simp at c1
       have hpure:=b1L hE h hia
       have hval:a6S E.P S ι o a w s v:=by
        split at hv
        ·cases hv
        ·rename_i v0 s0 e0; cases hv; rw [e0] at hpure; exact hpure.2
        ·rename_i q0 v0 s0 e0; cases hv; rw [e0] at hpure; exact (hpure hp.1).2
       obtain ⟨val,hrun,hvx⟩:=hval
       rw [hd1] at hdo
       have hrs:=h.put (d:=some d1) (by rw [hn]; exact hdo) hvx
       obtain ⟨v',w',g1,g2⟩:=a6m hE hn ho hc ha hTs hd (ops:=ops) (Q:=Q) hrs hrec hp.2
       have ex:(a.put (some d1) val).eval x=a.eval x:=by
        cases x with
        | tmp t=>exact a0d (by rintro rfl; simp at c3)
        | _=>rfl
       have ey:(a.put (some d1) val).eval y=a.eval y:=by
        cases y with
        | tmp t=>exact a0d (by rintro rfl; simp at c4)
        | _=>rfl
       refine ⟨v',w',?_,fun hk=>?_⟩
       ·rw [← g1]; simp [execOp,ho,resolve,hc,invoke,builtin,hargs,hts,ex,ey]
       ·unfold wpList
        simp only [Region.wanted,hg,if_true]
        refine .inl ?_
        unfold Oper.wp
        have hr2:(execOp (a.put (some d) v').eval o).run E.P w'=.ok (.value val) w':=by
         have hot:∀ t∈a6b o,(a.put (some d) v').eval (.tmp t)=a.eval (.tmp t):=by
          intro t ht
          refine a0d (fun e=>?_)
          rw [e] at ht
          have h5:(a6b o).contains d=true:=by simpa using ht
          rw [h5] at c2; cases c2
         rw [b4w hia hot]; exact hrun w'
        rw [hr2]
        show wpList E.P ops Q rest ((a.put (some d) v').put o.dst val) w'
        rw [hd1,b1I (Ne.symm hne)]
        exact g2 hk
      ·cases hf
     ·cases hf
    ·cases hf
   ·split at hf
    ·rename_i T2 ad d' ho2
     split at hf
     ·rename_i hcond
      split at hf
      ·rename_i p1 s3 happ
       cases hf
       simp only [Bool.and_eq_true] at hcond
       obtain ⟨c1,c2⟩:=hcond
       obtain rfl:=Nat.eq_of_beq_eq_true c1
       obtain ⟨v',w',g1,g2⟩:=b9N hE h ho hc ha hTs hd ho2 (fun t e=>by subst e; rintro rfl; simp at c2) happ hp
       refine ⟨v',w',g1,fun hk=>?_⟩
       unfold wpList
       simp only [Region.wanted,hg,if_true]
       refine .inl (g2 _ _ (fun S' ι' w2 val h1 h2=>?_))
       exact hk S' ι' _ w2 (h1.put (by rw [hn]; exact hdo) h2)
      ·cases hf
     ·cases hf
    ·cases hf
  ·cases hf

/-! ### a call whose first argument lies at a place, its answer stored there -/
theorem b79 {e:g8} {p:List Step} {r:Sigma Ty.den} (h:a7d e p r=true):a67 e (e.D6 r):=by
 unfold a7d at h
 obtain ⟨r1,r2⟩:=r
 split at h
 ·rename_i t x
  obtain rfl:r1=t:=of_decide_eq_true h
  exact .inl ⟨r1,x,r2,rfl,rfl⟩
 ·rename_i t x
  split at h
  ·obtain rfl:r1=.d0 true t:=of_decide_eq_true h
   exact .inr (.inl ⟨t,x,r2,rfl,rfl⟩)
  ·cases h
 ·cases h

theorem OB.swap {H H1 H':Array Go.Obj} {i:Nat} {e:g8} (ho:OB H S ι i e) (hbl:∀ c∈l6 ι i e,¬ S c∧c<H.size) (hS:∀ c,S c→c<H.size) {p:List Step} (hk:(∃ t x,e=.var t x)∨∃ t x j q,e=.own (.d0 true t) x∧p=.idx j::q) (hok:w4 e.ty e.x p) {u:Ty} {y:u.den} (hg:j6 e.ty e.x p=some ⟨u,y⟩)
  {b off:Nat} (hl:Loc H ι i e p=some (b,off)) (hsz:H.size≤H1.size) {Op:List Nat} (hOp:f7 H S u Op (d8 H b off u.size) y) (hH:∀ c,c<H.size→c∉Op→H1[c]?=H[c]?) (hc:T4 H1 H' b off u.size) (hsz1:H'.size=H1.size)
  {u':Ty} {z:u'.den} {O2:List Nat} (hz:f7 H' S u' O2 (d8 H' b off u'.size) z) (hO2:∀ c∈O2,c<H'.size∧(c<H.size→c∈Op)) (hnd2:O2.Nodup) {r:Sigma Ty.den} (hset:r9 e.ty e.x p u' z=some r) :
  ∃ O,(∀ c∈O,c∈ι.own i∨c∈O2)∧OB H' S (ι.y7 i O) i (e.D6 r):=by
 have he:e≠.I9:=K3 hl
 have hbOp:=ho.a0E he hS hok hg hl hOp
 obtain ⟨Om,m1,mn,m2,m3,m4,m5⟩:=N2 he ho hS hok hg hl
 obtain ⟨O,hO,hR,hb,hnd,hlt,hns,hfr⟩:=ho.see he hS
 obtain ⟨O1,O3,b',off',e1,e2,e3,e4,e5,e6⟩:=focus hR hb hok hg
 obtain ⟨hpl,hbl2⟩:=y9 hl
 rw [F7 he] at hpl
 rw [e3] at hpl; cases hpl
 have hndO:(O1++O3).Nodup:=(e1.nodup_iff).1 ((hO.nodup_iff).2 (List.nodup_cons.1 hnd).2)
 have hmem:∀ c∈O1,c∈ι.own i:=fun c hc=>hO.mem_iff.1 (e1.mem_iff.2 (by simp [hc]))
 have hmem3:∀ c∈O3,c∈ι.own i:=fun c hc=>hO.mem_iff.1 (e1.mem_iff.2 (by simp [hc]))
 have hroot:=(List.nodup_cons.1 hnd).1
 have hown:∀ c∈ι.own i,c∈l6 ι i e:=by intro c hc; cases e<;>simp [l6,hc]
 have e4':f7 H S u O3 (d8 H b off u.size) y:=by
  rw [l4 (E8 hbl2)] at e4
  exact (Z1 (fun c hc=>ho.P6 he (hmem3 c hc)) hS).1 e4
 obtain rfl:Op=O3:=hOp.det e4'
 have hlt1:∀ c∈O1,c<H.size:=fun c hc=>ho.P6 he (hmem c hc)
 have hagree:∀ c,(c=(VR H ι i e).1∧c<H.size)∨c∈O1∨S c→H1[c]?=H[c]?:=by
  rintro c (⟨rfl,h1⟩|h1|h1)
  ·exact hH _ h1 (fun h=>hroot (hmem3 _ h))
  ·exact hH c (hlt1 c h1) (fun h=>(List.nodup_append.1 hndO).2.2 c h1 c h rfl)
  ·exact hH c (hS c h1) (fun h=>(hbl c (hown c (hmem3 c h))).1 h1)
 have hvr:(∃ t x,e=.var t x)→(VR H ι i e).1<H.size:=by rintro ⟨t,x,rfl⟩; exact hlt
 obtain ⟨n1,n2⟩:=s4.move (H':=H1) hk e2 hlt1 hS hsz hagree hvr
 have hb':(VR H1 ι i e).2+e.ty.size≤(s5 (VH H1 ι i e) (VR H1 ι i e).1).length∧(VR H1 ι i e).1<(VH H1 ι i e).size∧¬ S (VR H1 ι i e).1∧(VR H1 ι i e).1∉O1:=by
  rcases hk with ⟨t,x,rfl⟩|⟨t,x,j,q,rfl,rfl⟩
  ·have hr:=hvr ⟨_,_,rfl⟩
   refine ⟨?_,Nat.lt_of_lt_of_le hr hsz,(hbl _ (by simp [l6,VR])).1,fun h=>hroot (hmem _ h)⟩
   have:=L7 (hagree _ (.inl ⟨rfl,hr⟩))
   show (VR H ι i (.var t x)).2+_≤(s5 H1 (VR H ι i (.var t x)).1).length
   rw [this]; exact hb
  ·refine ⟨?_,by simp [VH,VR,a4v],fun h=>by have:=hS _ h; simp only [VR] at this; omega,fun h=>by have:=hlt1 _ h; simp only [VR] at this; omega⟩
   simp only [VH,VR,a0k] at hb ⊢; exact hb
 have hlO2:∀ c∈O2,c<H'.size:=fun c hc=>(hO2 c hc).1
 have hSz:∀ c,S c→c<H'.size:=fun c hc=>by have:=hS c hc; omega
 have hz':f7 (VH H' ι i e) S u' O2 (d8 (VH H' ι i e) b off u'.size) z:=by
  rw [l4 (E8 (by omega))]
  exact (Z1 hlO2 hSz).2 hz
 obtain ⟨O4,f1,f2,f3⟩:=a4m n1 hg (n2.trans e3) hb'.1 hb'.2.1 (List.nodup_append.1 hndO).1 hb'.2.2.2 (fun c hc=>⟨(hbl c (hown c (hmem c hc))).1,Nat.lt_of_lt_of_le (hlt1 c hc) (Nat.le_trans hsz a2h)⟩) hb'.2.2.1
  (fun c hc=>Nat.lt_of_lt_of_le (hS c hc) (Nat.le_trans hsz a2h)) (fun _ h=>h) (a6R hc hsz1) hz' hset
 have hnd4:O4.Nodup:=(f1.nodup_iff).2 (List.nodup_append.2 ⟨(List.nodup_append.1 hndO).1,hnd2,by
  rintro c h1 d h2 rfl
  exact (List.nodup_append.1 hndO).2.2 c h1 c ((hO2 c h2).2 (hlt1 c h1)) rfl⟩)
 have hsub:∀ c∈O4,c∈ι.own i∨c∈O2:=by
  intro c hc
  rcases List.mem_append.1 (f1.mem_iff.1 hc) with h|h
  ·exact .inl (hmem c h)
  ·exact .inr h
 have hlt4:∀ c∈O4,c<H'.size:=by
  intro c hc
  rcases hsub c hc with h|h
  ·have:=ho.P6 he h; omega
  ·exact (hO2 c h).1
 have f2':=(Z1 hlt4 hSz).1 f2
 refine ⟨O4,hsub,?_⟩
 cases e with
 | var t x =>
  simp only [g8.D6,OB,Ix.y7,if_true]
  obtain ⟨_,hf,_⟩:=ho
  refine ⟨⟨O4,List.Perm.refl _,f2'⟩,?_,?_⟩
  ·rw [E3 f3]; exact hc.free (hf.r7 (hagree _ (.inl ⟨rfl,hvr ⟨_,_,rfl⟩⟩)))
  ·refine List.nodup_cons.2 ⟨fun h=>?_,hnd4⟩
   rcases hsub _ h with h1|h1
   ·exact hroot h1
   ·exact hroot (hmem3 _ ((hO2 _ h1).2 (hvr ⟨_,_,rfl⟩)))
 | own t x =>
  simp only [g8.D6,OB,Ix.y7,if_true]
  refine ⟨⟨O4,List.Perm.refl _,?_⟩,hnd4⟩
  obtain ⟨⟨O',_,hR'⟩,_⟩:=ho
  have hsz9:r.1.size=t.size:=E3 f3
  have:d8 (VH H' ι i (.own t x)) (VR H1 ι i (.own t x)).1 (VR H1 ι i (.own t x)).2 r.1.size=ι.cells i:=by
   simp only [VH,VR]
   rw [← hsz1]
   simp only [d8,a0k,List.drop_zero]
   exact List.take_of_length_le (by rw [hR'.length,hsz9]; exact Nat.le_refl _)
  rw [this] at f2'
  exact f2'
 | I9=>exact absurd rfl he

def Z4 (P:Program) (o:Oper) (a:Act) (w:World) (R:Value→World→Prop):Prop :=
 ∃ g vs,(execOp a.eval o).run P w=.ok (.enter g vs) w∧Calls P g vs w (fun e w'=>∃ v,e=.returned v∧R v w')

theorem Z4.wp {P:Program} {o:Oper} {R:Value→World→Prop} (h:Z4 P o a w R) {next:Act→World→Prop} {Q:Exit→Act→World→Prop} (hn:∀ v w',R v w'→next (a.put o.dst v) w'):o.wp P a w next Q:=by
 obtain ⟨g,vs,h1,h2⟩:=h
 unfold Oper.wp
 rw [h1]
 refine Calls.mono h2 ?_
 rintro e w' ⟨v,rfl,hr⟩
 exact hn v w' hr

theorem Z4.mono {P:Program} {o:Oper} {R R':Value→World→Prop} (h:Z4 P o a w R) (hr:∀ v w',R v w'→R' v w'):Z4 P o a w R':=by
 obtain ⟨g,vs,h1,h2⟩:=h
 exact ⟨g,vs,h1,h2.mono (fun e w' ⟨v,e1,k⟩=>⟨v,e1,hr v w' k⟩)⟩

theorem over_self {cur:List Value} {off n:Nat} (h:off+n≤cur.length):over cur off ((cur.drop off).take n)=cur:=by
 rw [over,List.length_take,List.length_drop,Nat.min_eq_left (by omega),List.append_assoc]
 conv=>rhs; rw [← List.take_append_drop off cur,← List.take_append_drop n (cur.drop off)]
 rw [List.drop_drop]

theorem c1J (h:RS B S ι s a w) {i:Nat} {e:g8} (hob:look i s.hp=some e) {p:List Step} (hok:w4 e.ty e.x p) {t:Ty} {l:(Ty.d0 true t).den} (hg:j6 e.ty e.x p=some ⟨.d0 true t,l⟩) {b off:Nat} (hl:Loc w.heap ι i e p=some (b,off))
  {Op:List Nat} (hOp:f7 w.heap S (.d0 true t) Op (d8 w.heap b off (Ty.d0 true t).size) l) (hOi:∀ c∈Op,c∈ι.own i) {ks:List PK} {ys:List Operand} {y:DK ks} (hy:a9U s ks i e p t ys=some (y,[],[])) :
  ∃ S1:Nat→Prop,(∀ b,S b→S1 b)∧(∀ b,S1 b→b<w.heap.size)∧(∀ c∈Op,¬ S1 c)∧Q7 w.heap S1 ks (ys.map a.eval) y []:=by
 have hOpb:∀ c∈Op,c∈l6 ι i e:=fun c hc=>F5 (hOi c hc)
 have fin:∀ {ι':Ix} {s0:St},RS B S ι' s0 a w→AV.a0c s0 ks (s0.H9 ys)=some (y,[],[])→(∀ j ej,j∈O5.loose ks (s0.H9 ys)→look j s0.hp=some ej→∀ c∈Op,c∉l6 ι' j ej)→∃ S1:Nat→Prop,(∀ b,S b→S1 b)∧(∀ b,S1 b→b<w.heap.size)∧(∀ c∈Op,¬ S1 c)∧Q7 w.heap S1 ks (ys.map a.eval) y []:=by
  intro ι' s0 h0 hy0 hd
  let S1:Nat→Prop:=fun b=>S b∨J9 ι' s0.hp (O5.loose ks (s0.H9 ys)) b
  obtain ⟨L2,hK2,_,hLb2,_⟩:=a8E (S1:=S1) h0.hs (fun b hb=>.inl hb) hy0 (h0.H9 ys) (by simp) (fun b hb=>.inr hb)
  have hL2:L2=[]:=by
   rw [List.eq_nil_iff_forall_not_mem]
   intro b hb
   obtain ⟨i,e,h1,_⟩:=hLb2 b hb
   cases h1
  subst hL2
  refine ⟨S1,fun _ h=>.inl h,?_,?_,hK2⟩
  ·rintro b (hb|⟨j,ej,h1,h2,h3⟩)
   ·exact h0.hs.slt b hb
   ·exact (h0.hs.bl j ej h2 b h3).2.2
  ·rintro c hc (hs|⟨j,ej,r1,r2,r3⟩)
   ·exact (h.hs.bl i e hob c (hOpb c hc)).1 hs
   ·exact hd j ej r1 r2 c hc r3
 unfold a9U at hy
 split at hy
 ·rename_i hnl
  have hnl:i∉O5.loose ks (s.H9 ys):=by intro hm; simp [hm] at hnl
  exact fin h hy (fun j ej r1 r2 c hc r3=>h.hs.dj i j e ej hob r2 (by rintro rfl; exact hnl r1) c (hOpb c hc) r3)
 ·split at hy
  ·rename_i u x
   split at hy
   ·rename_i r hset
    have hcells:∃ c0,d8 w.heap b off (Ty.d0 true t).size=[c0]∧b8G c0=true:=by
     rcases hOp with ⟨_,⟨a1,c1,e1,_⟩,_⟩|⟨b1,o1,cap1,O1,e1,_⟩
     ·exact ⟨_,e1,rfl⟩
     ·exact ⟨_,e1,rfl⟩
    obtain ⟨c0,hc0,hsl⟩:=hcells
    obtain ⟨ι',⟨O,rfl,hO⟩,h0⟩:=h.b3b hob hok hg hl (u':=.hole t) (z:=([]:List t.den)) (cs:=[c0]) (O2:=[]) (fun H' _ _=>⟨rfl,c0,rfl,hsl⟩) rfl List.nodup_nil (by simp) hset (by intro h; cases h)
    have hw:w.setRow b (over (s5 w.heap b) off [c0]).toArray=w:=by
     obtain ⟨O2,m1,m2,m3,m4,m5,arr,T,⟨fz,e1,_⟩,hn⟩:=N2 (K3 hl) (h.hs.ob i _ hob) h.hs.slt hok hg hl
     have hb:s5 w.heap b=arr.toList:=by simp only [s5,e1]
     have:over (s5 w.heap b) off [c0]=s5 w.heap b:=by
      rw [← hc0]; exact over_self m4
     rw [this,hb]; exact setRow_self w b arr T fz (by simpa using e1)
    rw [hw] at h0
    refine fin h0 hy (fun j ej r1 r2 c hc r3=>?_)
    simp only [St.s8,o5] at r2
    by_cases hj:j=i
    ·subst hj
     rw [if_pos rfl] at r2; cases r2
     have r3:c∈(ι.root j).1::(ι.y7 j O).own j:=r3
     simp only [Ix.y7,if_true] at r3
     refine (List.mem_cons.1 r3).elim (fun g3=>?_) (fun g3=>?_)
     ·obtain ⟨_,_,hnd⟩:=h.hs.ob j _ hob
      exact (List.nodup_cons.1 hnd).1 (g3▸hOi c hc)
     ·rcases (hO c g3).2 with h9|h9
      ·cases h9
      ·exact h9 Op hOp hc
    ·rw [if_neg hj] at r2
     rw [(a0m hj O).l6] at r3
     exact h.hs.dj i j _ ej hob r2 (Ne.symm hj) c (hOpb c hc) r3
   ·cases hy
  ·cases hy

theorem c1K {i:Nat} {e:g8} {p:List Step} {t:Ty} {ks:List PK} {ys:List Operand} {r:DK ks×List Nat×List Nat} (hy:a9U s ks i e p t ys=some r):ks.any PK.lnk=false:=by
 unfold a9U at hy
 split at hy
 ·exact a3t hy
 ·split at hy
  ·split at hy
   ·exact a3t hy
   ·cases hy
  ·cases hy

theorem b6o (hE:C2 E B) (h:RS B S ι s a w) {o:Oper} {c:Call} (ho:o.op=.call c) {g:FuncId} (hf:c.callee=.value (.func g)) {x:Operand} {ys:List Operand} (ha:c.args.toList=x::ys)
  {o2:Oper} {T2:TypeId} {ad:Operand} {d:Nat} (hd:J4 B.n (some d)=true) (ho2:o2.op=.store T2 ad (.tmp d)) (had:∀ t,ad=.tmp t→t≠d) {p:Prop} {s2:St} (hb:b9x E T2 g (s.ev x) ys (s.ev ad) d s=some (p,s2)) (hp:p) :
  Z4 E.P o a w (fun v' w'=>u6 E.P B o2 (a.put (some d) v') w' (.raw undef) s2):=by
 unfold b9x at hb
 split at hb
 ·rename_i t ks t' pre fn out nw i p0 j q hct hx hadv
  split at hb
  ·rename_i e hob hcond
   simp only [Bool.and_eq_true] at hcond
   obtain ⟨⟨⟨hij,hwt⟩,hnsh⟩,hck0⟩:=hcond
   have hij:=Nat.eq_of_beq_eq_true hij
   subst hij
   have hwt:F3 ks=[]:=by
    revert hwt
    cases F3 ks with
    | nil=>intro _; rfl
    | cons a b=>intro h; cases h
   split at hb
   ·rename_i u l y hg hy
    split at hb
    ·rename_i hu
     subst hu
     split at hb
     ·rename_i r hset
      split at hb
      ·rename_i hcond2
       cases hb
       simp only [Bool.and_eq_true] at hcond2
       obtain ⟨hck,hst⟩:=hcond2
       obtain ⟨rfl,hpre⟩:=hp
       have hob:look i s.hp=some e:=hob
       have hnb:e≠.I9:=by rcases (a3G hst).2 with ⟨_,_,rfl⟩|⟨_,_,_,_,rfl,_⟩<;>(intro h; cases h)
       have hkd:=(a3G hst).2
       obtain ⟨e1,u1,y1,cs,r1,hok,r3,hcs,r5⟩:=x8 h hx
       rw [hob] at r1; cases r1
       rw [hg] at r3; cases r3
       have hval:a.eval x=j7 (.d0 true t) cs:=by simpa using r5
       obtain ⟨Op,m1,mn,hRo⟩:=F0 h.hs hob hok hg hcs
       obtain ⟨e2,b,off,z1,z2,hl,z4⟩:=x8 h hadv
       rw [hob] at z1; cases z1
       have z4:a.eval ad=.pointer (some ⟨b,off,none⟩):=by simpa using z4
       -- the call
       have hV:=hE.C0 g _ hct
       obtain ⟨fnn,hfn,hname,hbody⟩:=hV.ent
       have hRo':f7 w.heap S (.d0 true t) Op (d8 w.heap b off (Ty.d0 true t).size) l:=by
        have hpl:=y9 hl
        obtain ⟨b9,o9,k1,k2⟩:=id hcs
        rw [hpl.1] at k1; cases k1
        rw [k2,l4 (E8 hpl.2)] at hRo
        exact hRo
       obtain ⟨S1,hS01,hS1,hS1d,hK2⟩:=c1J h hob hok hg hl hRo' m1 hy
       have hOpb:∀ c∈Op,c∈l6 ι i e:=fun c hc=>F5 (m1 c hc)
       have hLS:∀ b∈Op++[],¬ S1 b∧b<w.heap.size:=by
        intro b hb
        have hb:b∈Op:=by simpa using hb
        exact ⟨hS1d b hb,(h.hs.bl i e hob b (hOpb b hb)).2.2⟩
       have hcall:=hV.run w S1 (a.eval x::ys.map a.eval) (G1 rfl l,y) (Op++[]) hS1 ((hE.gb.at_ h.hs).sub hS01) hpre ⟨_,_,Op,[],rfl,rfl,⟨cs,hval,hRo.r7 (fun _ _=>rfl) hS01⟩,hK2⟩ (a1z (by rw [List.any_cons,c1K hy]; rfl)) (by simpa using mn) hLS
       refine ⟨g,(a.eval x::ys.map a.eval).toArray,?_,?_⟩
       ·have hnbd:fnn.body.isNone=false:=hbody
        have hq:(fnn.name == "runtime.NumGoroutine")=false:=hname
        have hargs:c.args.map a.eval=(a.eval x::ys.map a.eval).toArray:=by
         rw [← Array.toList_inj,Array.toList_map,ha]; simp
        have hev:a.eval (.func g)=.func (.func g) #[] #[]:=by simp [Act.eval]
        simp only [execOp,ho,resolve,hf,hev,Deferred.ofValue,Sem.run_bind,Sem.run_pure,Result.andThen,invoke,callFunc,program]
        simp [Sem.run,hfn,hq,hnbd]
        exact hargs
       ·refine Calls.mono hcall ?_
        rintro en w' ⟨us,O,Lo,S',rfl,hpast,hs1,hs2,hres,hout,hnd,hO⟩
        obtain ⟨v',us',O1,O2,cs',rfl,rfl,hv',hRz,rfl,rfl⟩:=hres
        refine ⟨v',rfl,?_⟩
        have hLo:=U5 (show F3 (.own (.d0 true t)::ks)=[] from hwt) hout
        subst hLo
        have hRz:=f7.H6 (S':=S) hnsh hRz
        have hnd1:O1.Nodup:=by simpa using hnd
        have hO1:∀ c∈O1,(w.heap.size≤c∨c∈Op)∧c<w'.heap.size:=fun c hc=>by
         obtain ⟨_,q2,q3⟩:=hO c (by simp [hc])
         exact ⟨by simpa using q2,q3⟩
        have hpast:y8 Op w w':=by simpa using hpast
        have hbl:∀ c∈l6 ι i e,¬ S c∧c<w.heap.size:=fun c hc=>⟨(h.hs.bl i e hob c hc).1,(h.hs.bl i e hob c hc).2.2⟩
        obtain ⟨Om,p1,p2,p3,p4,p5,p6⟩:=N2 hnb (h.hs.ob i e hob) h.hs.slt hok hg hl
        have hOm:Om=Op:=by
         have hpl:=y9 hl
         obtain ⟨b9,o9,k1,k2⟩:=hcs
         rw [hpl.1] at k1; cases k1
         rw [k2,l4 (E8 hpl.2)] at hRo
         exact p3.det hRo
        subst hOm
        have hbOp:=(h.hs.ob i e hob).a0E hnb h.hs.slt hok hg hl p3
        have hblt:=(hbl b p5).2
        have hfree':K4 w'.heap b (off+(Ty.d0 true t).size):=p6.r7 (hpast.frame b hblt hbOp)
        intro next Q hn
        have hput:=h.put (d:=some d) hd (v:=.any) (val:=v') ⟨_,rfl⟩
        have hadv':(a.put (some d) v').eval ad=.pointer (some ⟨b,off,none⟩):=by
         rw [← z4]
         cases ad with
         | tmp t9=>exact a0d (had t9 rfl)
         | _=>rfl
        have hvd:(a.put (some d) v').eval (.tmp d)=v':=b1J (by
         rw [h.sz]; simpa [J4,Nat.blt_eq] using hd)
        have hcs1:∃ c1,cs'=[c1]:=by
         have:=hRz.length
         match cs',this with
         | [c1],_=>exact ⟨c1,rfl⟩
        obtain ⟨c1,rfl⟩:=hcs1
        obtain rfl:c1=v':=hv'.symm
        have hshh:(Ty.d0 true t').sh=(Ty.d0 true t).sh:=a3R hg hset
        have hrun:(execOp (a.put (some d) c1).eval o2).run E.P w'=.ok .skip (w'.setRow b (over (s5 w'.heap b) off [c1]).toArray):=by
         have hsv:(storeVar T2 ⟨b,off,none⟩ c1).run E.P w'=.ok () (w'.setRow b (over (s5 w'.heap b) off [c1]).toArray):=a52 (C1 hE hck0) hshh hfree' hRz
         simp [execOp,ho2,hadv',hvd,Instr.storeAt,Instr.sureAddr,hsv]
        unfold Oper.wp
        rw [hrun]
        obtain ⟨hch,hcell⟩:=a3E (w:=w') (b:=b) (off:=off) (cs:=[c1]) hfree'
        have hsz2:(w'.setRow b (over (s5 w'.heap b) off [c1]).toArray).heap.size=w'.heap.size:=setRow_size
        have hold:∀ c,c≠b→(w'.setRow b (over (s5 w'.heap b) off [c1]).toArray).heap[c]?=w'.heap[c]?:=fun c hcb=>setRow_other hcb
        have hw2:(w'.setRow b (over (s5 w'.heap b) off [c1]).toArray).os=w'.os∧S9 w' (w'.setRow b (over (s5 w'.heap b) off [c1]).toArray)∧(w'.setRow b (over (s5 w'.heap b) off [c1]).toArray).output=w'.output:=⟨rfl,.of rfl rfl,rfl⟩
        generalize hw'':w'.setRow b (over (s5 w'.heap b) off [c1]).toArray=w'' at *
        have hbO1:b∉O1:=fun hb1=>by
         rcases (hO1 b hb1).1 with q|q
         ·omega
         ·exact hbOp q
        have hz2:f7 w''.heap S (.d0 true t') O1 (d8 w''.heap b off (Ty.d0 true t').size) (fn (G1 rfl l,y)).1:=by
         have:d8 w''.heap b off (Ty.d0 true t').size=[c1]:=hcell
         rw [this]
         refine hRz.r7 (fun c hc=>hold c ?_) (fun _ h=>h)
         rintro rfl
         rcases hc with hc|hc
         ·exact hbO1 hc
         ·exact (hbl c p5).1 hc
        obtain ⟨O,n1,n2⟩:=OB.swap (h.hs.ob i e hob) hbl h.hs.slt hkd hok hg hl hpast.size p3 (fun c hc hn=>hpast.frame c hc hn) hch hsz2 hz2 (fun c hc=>by
         obtain ⟨q1,q2⟩:=hO1 c hc
         exact ⟨by omega,fun hlt=>q1.resolve_left (by omega)⟩) hnd1 hset
        have hpast2:y8 (l6 ι i e) w w'':=by
         refine ⟨hw2.1.trans hpast.os,hw2.2.1.trans hpast.tape,hw2.2.2.trans hpast.out,by rw [hsz2]; exact hpast.size,fun c hc hn=>?_⟩
         rw [hold c (by rintro rfl; exact hn p5)]
         exact hpast.frame c hc (fun hcO=>hn (hOpb c hcO))
        have hrs:=hput.renew (by simpa [St.put] using hob) (b79 hst) C9.nil (L:=l6 ι i e) hpast2 (fun b hb=>.inl hb) (fun _ h=>h) (fun _ h=>.inl h) (O':=O) n2 (fun c hc=>by
         have hcc:c∈l6 ι i e∨c∈O1:=by
          cases e with
          | var t9 x9 =>
           simp only [l6,g8.D6,Ix.y7,if_true,List.mem_cons] at hc ⊢
           rcases hc with hc|hc
           ·exact .inl (.inl hc)
           ·exact (n1 c hc).imp .inr id
          | own t9 x9 =>
           simp only [l6,g8.D6,Ix.y7,if_true] at hc ⊢
           exact n1 c hc
          | I9=>exact absurd rfl hnb
         rcases hcc with hcc|hcc
         ·exact ⟨(hbl c hcc).1,.inr hcc,by have:=(hbl c hcc).2; have:=hpast.size; omega⟩
         ·obtain ⟨q1,q2⟩:=hO1 c hcc
          have hnS:¬ S c:=by
           have:=(hO c (by simp [hcc])).1
           exact fun hs=>this (hs1 c (hS01 c hs))
          exact ⟨hnS,q1.imp id (hOpb c),by omega⟩)
        exact hn S _ w'' undef hrs rfl
      ·cases hb
     ·cases hb
    ·cases hb
   ·cases hb
  ·cases hb
 ·cases hb

theorem Z4.put {P:Program} {o:Oper} {c:Call} (ho:o.op=.call c) {g:FuncId} (hf:c.callee=.value (.func g)) {d:Nat} {val:Value} (hd:∀ z∈c.args.toList,z≠.tmp d) {R:Value→World→Prop} (h:Z4 P o (a.put (some d) val) w R):Z4 P o a w R:=by
 obtain ⟨g',vs,h1,h2⟩:=h
 refine ⟨g',vs,?_,h2⟩
 rw [← h1]
 have hargs:c.args.map (a.put (some d) val).eval=c.args.map a.eval:=by
  apply Array.map_congr_left
  intro z hz
  cases z with
  | tmp t=>exact a0d (fun e=>hd _ (by simpa using hz) (by rw [e]))
  | _=>rfl
 have hev:(a.put (some d) val).eval (.func g)=a.eval (.func g):=rfl
 simp only [execOp,ho,resolve,hf,hev,hargs]

theorem a5M (hE:C2 E B) (hn:B.n=E.nt) {ops:Array Oper} {Q:Exit→Act→World→Prop} {oa:Oper} {c:Call} (ho:oa.op=.call c) {g:FuncId} (hf:c.callee=.value (.func g)) {x:Operand} {ys:List Operand} (ha:c.args.toList=x::ys)
  {d:Nat} (hd:J4 B.n (some d)=true):∀ {l:List Oper} {S:Nat→Prop} {ι:Ix} {s:St} {a:Act} {w:World} {p:Prop} {s2:St} {n:Nat},RS B S ι s a w→a7l E g x ys d l s=some (p,s2,n)→p→(∀ S' ι' a' w'',RS B S' ι' s2 a' w''→wpList E.P ops Q (l.drop n) a' w'') →
  Z4 E.P oa a w (fun v' w'=>wpList E.P ops Q l (a.put (some d) v') w')
 | [],S,ι,s,a,w,p,s2,n,_,hb,_,_=>by cases hb
 | o::rest,S,ι,s,a,w,p,s2,n,h,hb,hp,hk=>by
  unfold a7l at hb
  split at hb
  ·rename_i hg hdo
   split at hb
   ·rename_i hia
    split at hb
    ·rename_i d1 hd1
     split at hb
     ·rename_i p1 v hcond hv
      split at hb
      ·rename_i p2 s3 n2 hrec
       cases hb
       simp only [Bool.and_eq_true,Bool.not_eq_true'] at hcond
       obtain ⟨⟨c1,c2⟩,c3⟩:=hcond
       have hne:d1≠d:=by rintro rfl; simp at c1
       have hpure:=b1L hE h hia
       have hval:a6S E.P S ι o a w s v:=by
        split at hv
        ·cases hv
        ·rename_i v0 s0 e0; cases hv; rw [e0] at hpure; exact hpure.2
        ·rename_i q0 v0 s0 e0; cases hv; rw [e0] at hpure; exact (hpure hp.1).2
       obtain ⟨val,hrun,hvx⟩:=hval
       rw [hd1] at hdo
       have hrs:=h.put (d:=some d1) (by rw [hn]; exact hdo) hvx
       have hrec2:=a5M hE hn ho hf ha hd (ops:=ops) (Q:=Q) hrs hrec hp.2 hk
       refine (hrec2.put ho hf (fun z hz=>?_)).mono (fun v' w' hw=>?_)
       ·rw [ha] at hz
        rintro rfl
        have:=List.all_eq_true.1 c3 _ hz
        simp at this
       ·unfold wpList
        simp only [Region.wanted,hg,if_true]
        refine .inl ?_
        unfold Oper.wp
        have ex:execOp (a.put (some d) v').eval o=execOp a.eval o:=b4w hia (fun t ht=>a0d (by
         rintro rfl
         simp [ht] at c2))
        rw [ex,hrun w']
        show wpList E.P ops Q rest ((a.put (some d) v').put o.dst val) w'
        rw [hd1,b1I (Ne.symm hne)]
        exact hw
      ·cases hb
     ·cases hb
    ·cases hb
   ·split at hb
    ·rename_i T2 ad d' hop
     split at hb
     ·rename_i hcond
      simp only [Bool.and_eq_true] at hcond
      obtain ⟨c1,c2⟩:=hcond
      obtain rfl:=Nat.eq_of_beq_eq_true c1
      split at hb
      ·rename_i p2 s3 hcs
       cases hb
       have had:∀ t,ad=.tmp t→t≠d':=by
        intro t e
        subst e
        rintro rfl
        simp at c2
       refine (b6o hE h ho hf ha hd hop had hcs hp).mono (fun v' w' hw=>?_)
       unfold wpList
       simp only [Region.wanted,hg,if_true]
       refine .inl (hw _ _ (fun S' ι' w2 val h1 h2=>?_))
       exact hk S' ι' _ w2 (h1.put (by rw [hn]; exact hdo) h2)
      ·cases hb
     ·cases hb
    ·cases hb
  ·cases hb

theorem b8r {H:Array Go.Obj} {t:Ty} {y:(Ty.w5 t).den} (hsh:t.shared=true) (h1:1≤y.1) (h2:y.1≤2) {O:List Nat} {cs:List Value} (hr:f7 H S (.w5 t) O cs y):f7 H S (.d0 true t) O cs y.2.1:=by
 obtain ⟨n,l,m⟩:=y
 match n,h1,h2,hr with
 | 1,_,_,hr=>exact hr
 | 2,_,_,⟨b,off,O',c1,c2,c3,c4,c5,c6⟩ =>
  obtain rfl:O'=[]:=i7.J5 (fun _ _ _ hr=>hr.J5 hsh) c4
  have hlt:(l++m).length=l.length+m.length:=List.length_append
  rw [hlt,Nat.add_mul] at c3 c4
  have s1:=(i7.two (fun _ _ _ hr=>hr.length) (fun _ _ _ hr=>hr.J5 hsh) c4).1
  rw [m0 _ _ _ _ (by omega)] at s1
  exact .inr ⟨b,off,List.length l+List.length m,[],c1,by show List.length l≤_; omega,c2,by show off+List.length l*t.size≤_; omega,s1,c5,c6⟩

theorem b6p (hE:C2 E B) (hn:B.n=E.nt) (h:RS B S ι s a w) {o:Oper} {p:Prop} {s2:St} (hb:b9y E o s=some (p,s2)) (hp:p) :
  o.guard=none∧Z4 E.P o a w (fun v' w'=>∃ ι',RS B S ι' s2 (a.put o.dst v') w'):=by
 unfold b9y at hb; cases hb

def b4C (H:Array Go.Obj) (S:Nat→Prop) (tl:Option (FuncId×Nat)) (pre us0 vs:List Value):Prop :=
 match tl with
 | none=>vs=us0
 | some (f,k)=>k≤pre.length∧∃ b off,vs=us0++[.pointer (some ⟨b,off,none⟩)]∧S b∧off+1≤(s5 H b).length∧d8 H b off 1=[.func (.func f) #[] ((pre.take k).reverse++vs).toArray]

theorem b4C.next {H:Array Go.Obj} {tl:Option (FuncId×Nat)} {pre us0 vs:List Value} {v:Value} (h:b4C H S tl pre (v::us0) vs):∃ vs',vs=v::vs'∧b4C H S (tl.map fun q=>(q.1,q.2+1)) (v::pre) us0 vs':=by
 cases tl with
 | none=>exact ⟨us0,h,rfl⟩
 | some q =>
  obtain ⟨f,k⟩:=q
  obtain ⟨hk,b,off,rfl,h1,h2,h3⟩:=h
  refine ⟨_,rfl,by simpa using hk,b,off,rfl,h1,h2,?_⟩
  rw [h3]
  simp [List.take_succ_cons]

theorem RS.slot (h:RS B S ι s a w) {t:Nat} {v:AV} (hv:VX w.heap S ι s.hp v [a.tmps.getD t (B.gd t)]):RS B S ι { s with fr:=Ex.put t v s.fr } a w:=by
 refine ⟨h.hs,h.dfr,h.sz,?_⟩
 intro t' v' ht
 simp only [o5] at ht
 by_cases e:t'=t
 ·subst e
  rw [if_pos rfl] at ht; cases ht; exact hv
 ·rw [if_neg e] at ht; exact h.fr t' v' ht

theorem b5Q (hE:C2 E B) (hn:B.n=E.nt) (hM:E.ps.any PK.l5=false→∀ b,¬ B.M b) (h:RS B S ι s a w) {o:Oper} {p:Prop} {s2:St} (hb:b8B E o s=some (p,s2)) (hp:p) :
  o.guard=none∧∀ (next:Act→World→Prop) (Q:Exit→Act→World→Prop),(∀ S' ι' a' w',RS B S' ι' s2 a' w'→next a' w')→o.wp E.P a w next Q:=by
 unfold b8B at hb; cases hb

theorem RS.b7b (h:RS B S ι s a w) {i:Nat} {u t:Ty} {y:u.den} {z:t.den} (he:look i s.hp=some (.var u y)) {O1 D:List Nat} (hp:(ι.own i).Perm (O1++D)) (p2:t.size=u.size)
  (hz:f7 w.heap (fun b=>S b∨b∈D) t O1 (d8 w.heap (ι.root i).1 (ι.root i).2 t.size) z):RS B (fun b=>S b∨b∈D) (ι.y7 i O1) ((s.a2S i).s8 i (.var t z)) a w:=by
 obtain ⟨-,hf,hnd⟩:=h.hs.ob i _ he
 have hDi:∀ b∈D,b∈ι.own i:=fun b hb=>hp.mem_iff.2 (by simp [hb])
 have hOi:∀ b∈O1,b∈ι.own i:=fun b hb=>hp.mem_iff.2 (by simp [hb])
 have hnd2:(O1++D).Nodup:=(hp.nodup_iff).1 (List.nodup_cons.1 hnd).2
 have hroot:=(List.nodup_cons.1 hnd).1
 have hbl:=h.hs.bl i _ he
 have hown:∀ b∈ι.own i,b∈l6 ι i (.var u y):=fun b hb=>by simp [l6,hb]
 have hsame:∀ j,j≠i→E0 ι (ι.y7 i O1) j:=fun j hj=>a0m hj _
 have hsub:∀ b∈l6 (ι.y7 i O1) i (.var t z),b∈l6 ι i (.var u y)∧b∉D:=by
  intro b hb
  have hb:b∈(ι.root i).1::(ι.y7 i O1).own i:=hb
  simp only [Ix.y7,if_true] at hb
  refine (List.mem_cons.1 hb).elim (fun e=>⟨by simp [l6,e],fun hD=>hroot (e▸hDi b hD)⟩) (fun e=>⟨hown b (hOi b e),fun hD=>(List.nodup_append.1 hnd2).2.2 b e b hD rfl⟩)
 refine ⟨⟨h.hs.os,h.hs.tape,h.hs.out,h.hs.size,h.hs.frame,?_,fun b hb=>.inl (h.hs.s0 b hb),?_,?_,?_,?_,?_⟩,h.dfr,h.sz,?_⟩
 ·rintro b (hb|hb)
  ·exact h.hs.slt b hb
  ·exact (hbl b (hown b (hDi b hb))).2.2
 ·rintro b (hb|hb)
  ·exact h.hs.s1 b hb
  ·rcases (hbl b (hown b (hDi b hb))).2.1 with q|q
   ·exact .inr (.inl q)
   ·exact .inr (.inr q)
 ·intro j ej hj
  simp only [St.s8,o5] at hj
  by_cases e1:j=i
  ·subst e1; rw [if_pos rfl] at hj; cases hj
   refine ⟨⟨O1,by simp [Ix.y7],?_⟩,?_,?_⟩
   ·exact hz
   ·rw [p2]; exact hf
   ·show ((ι.root j).1::(ι.y7 j O1).own j).Nodup
    simp only [Ix.y7,if_true]
    exact List.nodup_cons.2 ⟨fun h=>hroot (hOi _ h),(List.nodup_append.1 hnd2).1⟩
  ·rw [if_neg e1] at hj
   exact (hsame j e1).ob.2 ((h.hs.ob j ej hj).r7 (fun _ _=>rfl) (fun _ h=>.inl h))
 ·intro j ej hj b hb
  simp only [St.s8,o5] at hj
  by_cases e1:j=i
  ·subst e1; rw [if_pos rfl] at hj; cases hj
   obtain ⟨q1,q2⟩:=hsub b hb
   obtain ⟨r1,r2,r3⟩:=hbl b q1
   exact ⟨fun hs=>hs.elim r1 q2,r2,r3⟩
  ·rw [if_neg e1] at hj
   rw [(hsame j e1).l6] at hb
   obtain ⟨r1,r2,r3⟩:=h.hs.bl j ej hj b hb
   exact ⟨fun hs=>hs.elim r1 (fun hD=>h.hs.dj j i ej _ hj he e1 b hb (hown b (hDi b hD))),r2,r3⟩
 ·intro j k ej ek hj hk hjk c hc
  simp only [St.s8,o5] at hj hk
  by_cases e1:j=i
  ·subst e1
   rw [if_pos rfl] at hj; cases hj
   rw [if_neg (Ne.symm hjk)] at hk
   rw [(hsame k (Ne.symm hjk)).l6]
   exact h.hs.dj j k _ ek he hk hjk c (hsub c hc).1
  ·rw [if_neg e1] at hj
   rw [(hsame j e1).l6] at hc
   by_cases e2:k=i
   ·subst e2
    rw [if_pos rfl] at hk; cases hk
    exact fun hcc=>h.hs.dj j k ej _ hj he hjk c hc (hsub c hcc).1
   ·rw [if_neg e2] at hk
    rw [(hsame k e2).l6]
    exact h.hs.dj j k ej ek hj hk hjk c hc
 ·intro q hq
  obtain ⟨k0,⟨e',k1⟩,k2,k3⟩:=h.hs.pin q hq
  refine ⟨k0,?_,k2,k3⟩
  simp only [St.s8,o5]
  by_cases e1:q.1=i
  ·exact ⟨_,by rw [if_pos e1]⟩
  ·exact ⟨e',by rw [if_neg e1]; exact k1⟩
 ·intro t9 v hv
  simp only [St.s8,St.a2S,N0,Option.map_eq_some_iff] at hv
  obtain ⟨v0,hv0,rfl⟩:=hv
  refine VX.map (fun _ _=>rfl) (fun _ h=>.inl h) (fun v vs hr hm hvx=>?_) (h.fr t9 v0 hv0)
  unfold AV.c4s
  cases hmi:v.i6 i with
  | false =>
   have hne:∀ j,v.i6 j=true→j≠i:=by rintro j hj rfl; rw [hmi] at hj; cases hj
   have hst:VX w.heap (fun b=>S b∨b∈D) ι s.hp v vs:=VX.grow (fun _ _=>rfl) (fun _ h=>.inl h) h.hs.slt h.hs.ob hvx
   exact VX.other (fun j hj=>by simp only [St.s8,o5,if_neg (hne j hj)]; rfl) (fun j hj=>hsame j (hne j hj)) hst
  | true =>
   have honex:=VX.one hr hvx
   simp only
   split
   ·rename_i j
    have hji:i=j:=Nat.eq_of_beq_eq_true hmi
    subst hji
    obtain ⟨ej,b2,off2,k1,k2,k3,k4⟩:=hvx
    rw [he] at k1; cases k1
    refine ⟨.var t z,b2,off2,by simp [St.s8,o5],K2,?_,k4⟩
    simp only [Loc,Place,VR,VH,w8] at k3 ⊢
    exact k3
   ·exact honex

theorem RS.c1p (h:RS B S ι s a w) {i:Nat} {u t:Ty} {y:u.den} {z:t.den} (he:look i s.hp=some (.var u y)) (hz:a8v u t y=some z):∃ S' ι',RS B S' ι' ((s.a2S i).s8 i (.var t z)) a w:=by
 obtain ⟨⟨O,hO,hR⟩,hf,hnd⟩:=h.hs.ob i _ he
 obtain ⟨O1,D,p1,p2,p3⟩:=c3g hz hR
 refine ⟨_,_,h.b7b he (hO.symm.trans p1) p2 ?_⟩
 rw [p2]
 exact p3 (fun b=>S b∨b∈D) (fun _ h=>.inl h) (fun _ h=>.inr h)

theorem c0W {H:Array Go.Obj} {S S':Nat→Prop} {t0:Ty} {O:List Nat} {cs:List Value} {z:(Ty.w5 t0).den} (hR:f7 H S (.w5 t0) O cs z) (hsh:t0.shared=true) (hD:∀ b∈O,S' b) (hS:∀ b,S b→S' b):f7 H S' (.d0 false t0) [] cs z.2.1:=by
 have h0:∀ O cs x,f7 H S t0 O cs x→O=[]:=fun O cs x h=>f7.J5 hsh h
 have hst:∀ {O cs l},i7 (f7 H S t0) t0.size O cs l→i7 (f7 H S' t0) t0.size [] cs l:=fun {O cs l} h=>by
  obtain rfl:=i7.J5 h0 h
  exact i7.mono (L:=[]) (fun _ h=>h) (fun _ _ _ _ hr=>hr.r7 (fun _ _=>rfl) hS) h
 obtain ⟨n,l,m⟩:=z
 match n,hR with
 | 0,hR =>
  rcases hR with ⟨_,⟨a,c,h1,_⟩,h2⟩|⟨b,off,cap,O',c1,c2,c3,c4,c5,_,_,c8⟩
  ·exact .inl ⟨rfl,⟨a,c,h1,fun h=>by cases h⟩,h2⟩
  ·exact .inr ⟨b,off,cap,[],c1,c2,c3,c4,hst c5,rfl,rfl,hS b c8⟩
 | 1,hR =>
  rcases hR with ⟨_,⟨a,c,h1,_⟩,h2⟩|⟨b,off,cap,O',c1,c2,c3,c4,c5,c6,_⟩
  ·exact .inl ⟨rfl,⟨a,c,h1,fun h=>by cases h⟩,h2⟩
  ·exact .inr ⟨b,off,cap,[],c1,c2,⟨c3.1,fun h=>by cases h⟩,c4,hst c5,rfl,rfl,hD b (by rw [c6]; simp)⟩
 | n+2,⟨b,off,O',c1,c2,c3,c4,c5⟩ =>
  have hl:List.length l*t0.size≤List.length (l++m)*t0.size:=Nat.mul_le_mul_right _ (by rw [List.length_append]; omega)
  have c6:=(i7.two (fun _ _ _ h=>h.length) h0 c4).1
  rw [m0 _ _ _ _ hl] at c6
  refine .inr ⟨b,off,_,[],c1,Nat.le_add_right _ _,⟨c2.1,fun h=>by cases h⟩,Nat.le_trans (Nat.add_le_add_left hl off) c3,hst c6,rfl,rfl,?_⟩
  match n,c5 with
  | 0,c5=>exact hD b (by rw [c5.1]; simp)
  | n+1,c5=>exact hS b c5.2.2

theorem RS.c7h (h:RS B S ι s a w) {i k:Nat} {u:Ty} {y:u.den} (he:look i s.hp=some (.var u y)) {p:List Step} {t0:Ty} {z:(Ty.w5 t0).den} (hg:j6 u y p=some ⟨.w5 t0,z⟩) (hsh:t0.shared=true)
  {r:Sigma Ty.den} (hr:r9 u y p (.w5 t0) ((0,z.2.1,[]):Nat×(List t0.den×List t0.den))=some r) (hk:look k s.fr=some (.at_ i p)) :
  ∃ S' ι',RS B S' ι' { ((s.a2S i).s8 i (.var r.1 r.2)) with fr:=Ex.put k (.val (.d0 false t0) z.2.1) ((s.a2S i).s8 i (.var r.1 r.2)).fr } a w:=by
 have hnb:(g8.var u y)≠.I9:=fun h=>by cases h
 obtain ⟨e2,u2,y2,cs,r1,hok,r3,r4,r5⟩:=h.fr k _ hk
 rw [he] at r1; cases r1
 have r3:j6 u y p=some ⟨u2,y2⟩:=r3
 rw [hg] at r3; cases r3
 obtain ⟨O,hO,hR,hbb,hnd,hlt,hns,hfr⟩:=(h.hs.ob i _ he).see hnb h.hs.slt
 obtain ⟨O1,O3,b',off',g1,g2,g3,g4,g5,g6⟩:=focus hR hbb hok hg
 obtain ⟨b0,off0,q1,q2⟩:=r4
 rw [F7 hnb,g3] at q1; cases q1
 have hOi:∀ b∈O1++O3,b∈ι.own i:=fun b hb=>hO.mem_iff.1 (g1.mem_iff.2 hb)
 have hndO:(O1++O3).Nodup:=(g1.nodup_iff).1 ((hO.nodup_iff).2 (List.nodup_cons.1 hnd).2)
 have hroot:=(List.nodup_cons.1 hnd).1
 have hbl:=h.hs.bl i _ he
 have hleaf:f7 w.heap (fun b=>S b∨b∈O3) (.d0 false t0) [] cs z.2.1:=by
  rw [q2]; exact c0W g4 hsh (fun _ hb=>.inr hb) (fun _ hb=>.inl hb)
 have hfr':K4 w.heap b' (off'+(Ty.w5 t0).size):=by
  rcases g6 with ⟨rfl,_,g7⟩|⟨_,g7⟩
  ·obtain ⟨arr,T,hl,hn⟩:=hfr
   exact ⟨arr,T,hl,Nat.le_trans g7 hn⟩
  ·exact g7
 have hleaf2:f7 w.heap (fun b=>S b∨b∈O3) (.w5 t0) [] (d8 w.heap b' off' (Ty.w5 t0).size) ((0,z.2.1,[]):Nat×(List t0.den×List t0.den)):=by
  have:=hleaf; rw [q2] at this; exact this
 obtain ⟨O',k1,k2,k3⟩:=a4m g2 hg g3 hbb hlt (List.nodup_append.1 hndO).1 (fun hc=>hroot (hOi _ (List.mem_append_left _ hc))) (fun c hc=>by
  obtain ⟨q1,q2,q3⟩:=hbl c (by simp [l6,hOi c (List.mem_append_left _ hc)])
  exact ⟨q1,q3⟩) (hbl _ (show (ι.root i).1∈(ι.root i).1::ι.own i from List.mem_cons_self)).1 h.hs.slt (fun _ hb=>.inl hb) (T4.refl hfr') hleaf2 hr
 have hsz:r.1.size=u.size:=E3 k3
 have hD:=h.b7b he (t:=r.1) (z:=r.2) (O1:=O') (D:=O3) ((hO.symm.trans g1).trans (by
  refine List.Perm.append_right _ ?_
  rw [List.append_nil] at k1; exact k1.symm)) hsz k2
 refine ⟨_,_,⟨hD.hs,hD.dfr,hD.sz,fun t v hv=>?_⟩⟩
 simp only [o5] at hv
 by_cases e:t=k
 ·subst e
  rw [if_pos rfl] at hv; cases hv
  exact ⟨cs,r5,hleaf⟩
 ·rw [if_neg e] at hv
  exact hD.fr t v hv

theorem RS.a3m (h:RS B S ι s a w) {i:Nat} (hp:pinned i=false) (t:Ty):∃ S' ι',RS B S' ι' (s.a3m i t) a w:=by
 have hl:∀ {j:Nat} {e:g8},look j (del i s.hp)=some e→look j s.hp=some e∧j≠i:=by
  intro j e hj
  rw [I6] at hj
  split at hj
  ·cases hj
  ·rename_i h9; exact ⟨hj,h9⟩
 have hS1:∀ b,S b→(S b∨J9 ι s.hp [i] b):=fun _ h=>.inl h
 refine ⟨fun b=>S b∨J9 ι s.hp [i] b,ι,⟨h.hs.os,h.hs.tape,h.hs.out,h.hs.size,h.hs.frame,?_,fun b hb=>.inl (h.hs.s0 b hb),?_,?_,?_,?_,?_⟩,h.dfr,h.sz,?_⟩
 ·rintro b (hb|⟨j,e,hj,he,hb⟩)
  ·exact h.hs.slt b hb
  ·exact (h.hs.bl j e he b hb).2.2
 ·rintro b (hb|⟨j,e,hj,he,hb⟩)
  ·exact h.hs.s1 b hb
  ·rcases (h.hs.bl j e he b hb).2.1 with q|q
   ·exact .inr (.inl q)
   ·exact .inr (.inr q)
 ·intro j e hj
  exact (h.hs.ob j e (hl hj).1).r7 (fun _ _=>rfl) hS1
 ·intro j e hj b hb
  obtain ⟨r1,r2,r3⟩:=h.hs.bl j e (hl hj).1 b hb
  refine ⟨fun hs=>hs.elim r1 ?_,r2,r3⟩
  rintro ⟨k,ek,hk,he,hbk⟩
  rw [List.mem_singleton] at hk
  subst hk
  exact h.hs.dj j k e ek (hl hj).1 he (hl hj).2 b hb hbk
 ·intro j k ej ek hj hk
  exact h.hs.dj j k ej ek (hl hj).1 (hl hk).1
 ·intro q hq
  obtain ⟨k0,⟨e',k1⟩,k2⟩:=h.hs.pin q hq
  refine ⟨k0,⟨e',?_⟩,k2⟩
  show look q.1 (del i s.hp)=_
  rw [I6,if_neg (by rintro e1; rw [e1,hp] at k0; cases k0)]; exact k1
 ·intro t9 v hv
  simp only [St.a3m,N0,Option.map_eq_some_iff] at hv
  obtain ⟨v0,hv0,rfl⟩:=hv
  refine VX.map (fun _ _=>rfl) (fun _ h=>.inl h) (fun v vs hr hm hvx=>?_) (h.fr t9 v0 hv0)
  unfold AV.c6s
  cases hmi:v.i6 i with
  | false =>
   have hne:∀ j,v.i6 j=true→j≠i:=by rintro j hj rfl; rw [hmi] at hj; cases hj
   have hst:VX w.heap (fun b=>S b∨J9 ι s.hp [i] b) ι s.hp v vs:=VX.grow (fun _ _=>rfl) (fun _ h=>.inl h) h.hs.slt h.hs.ob hvx
   exact VX.other (fun j hj=>by show look j (del i s.hp)=_; rw [I6,if_neg (hne j hj)]) (fun j hj=>E0.refl ι j) hst
  | true =>
   obtain ⟨x1,rfl⟩:=VX.one hr hvx
   have hb0:∀ b,J9 ι s.hp v.E6 b→(S b∨J9 ι s.hp [i] b):=by
    intro b hb
    obtain ⟨j,e,hj,he,hbj⟩:=hb
    have hji:j=i:=by
     cases v<;>simp only [AV.ref] at hr<;>try cases hr
     all_goals (simp only [AV.E6,List.mem_singleton] at hj; simp only [AV.i6] at hmi; exact hj.trans (Nat.eq_of_beq_eq_true hmi).symm)
    subst hji
    exact .inr ⟨j,e,by simp,he,hbj⟩
   simp only
   split
   ·rename_i x hx
    obtain ⟨cs,e1,e2⟩:=b7l h.hs hx hvx hS1 hb0
    exact ⟨cs,by rw [e1],e2⟩
   ·split
    ·split
     ·rename_i x hx
      obtain ⟨b,off,e1,e2,e3,e4⟩:=b0P h.hs (show AV.asR s t (.ptr _ _)=some x from hx) hvx hS1 hb0
      exact ⟨b,off,by rw [e1],e2,e3,e4⟩
     ·exact ⟨_,rfl⟩
    ·exact ⟨_,rfl⟩

theorem RS.a5g (hM:∀ b,¬ B.M b):∀ {l:List Nat} {S:Nat→Prop} {ι:Ix} {s:St} {a:Act} {w:World},RS B S ι s a w→∃ S' ι',RS B S' ι' (s.a5g l) a w
 | [],S,ι,s,a,w,h=>⟨S,ι,h⟩
 | i::l,S,ι,s,a,w,h=>by
  unfold St.a5g
  split
  ·rename_i u y hob hp
   obtain ⟨S2,ι2,h2⟩:=h.a3m hp (.d0 false u.sh)
   exact RS.a5g hM h2
  ·exact RS.a5g hM h

theorem b8U (hM:E.ps.any PK.l5=false→∀ b,¬ B.M b) (h:RS B S ι s a w) (o:Oper):∃ S' ι',RS B S' ι' ((b3W E o s).getD s) a w:=by
 cases hd:b3W E o s with
 | none=>exact ⟨S,ι,h⟩
 | some s2 =>
  show ∃ S' ι',RS B S' ι' s2 a w
  unfold b3W at hd
  split at hd
  ·rename_i c hp ho
   split at hd
   ·split at hd
    ·split at hd
     ·rename_i i u y hob
      split at hd
      ·cases hd
      ·split at hd
       ·rename_i z hz
        cases hd
        exact h.c1p hob hz
       ·cases hd
     ·cases hd
    ·split at hd
     ·rename_i hpi _
      cases hd
      exact h.a3m hpi _
     ·cases hd
    ·split at hd
     ·cases hd
     ·cases hd
      exact RS.a5g (hM hp) h
    ·cases hd
   ·cases hd
  ·rename_i hp ho
   split at hd
   ·split at hd
    ·rename_i hpi
     cases hd
     exact h.a3m hpi _
    ·cases hd
   ·cases hd
  ·cases hd

theorem V0 (hM:E.ps.any PK.l5=false→∀ b,¬ B.M b):∀ {l:List (Nat×Option Ty)} {S:Nat→Prop} {ι:Ix} {s:St} {a:Act} {w:World},RS B S ι s a w→∃ S' ι',RS B S' ι' (a4C E l s) a w
 | [],S,ι,s,a,w,h=>⟨S,ι,h⟩
 | (m,none)::l,S,ι,s,a,w,h=>V0 hM (l:=l) h
 | (m,some t)::l,S,ι,s,a,w,h=>by
  have key:∃ S' ι',RS B S' ι' (c3h E m t s) a w:=by
   unfold c3h
   split
   ·rename_i i hp _
    split
    ·rename_i u y hob
     split
     ·exact ⟨S,ι,h⟩
     ·split
      ·rename_i z hz
       exact h.c1p hob hz
      ·exact ⟨S,ι,h⟩
    ·exact ⟨S,ι,h⟩
   ·rename_i i p hm
    split
    case h_2=>exact ⟨S,ι,h⟩
    unfold c4r
    split
    ·rename_i u y hob
     split
     ·rename_i t0 z hg
      split
      ·rename_i r hsh hr
       have hk:look m s.fr=some (.at_ i p):=by
        unfold St.get at hm
        cases hl:look m s.fr with
        | none=>rw [hl] at hm; cases hm
        | some v=>rw [hl] at hm; exact congrArg some hm
       exact h.c7h hob hg hsh hr hk
      ·exact ⟨S,ι,h⟩
     ·exact ⟨S,ι,h⟩
    ·exact ⟨S,ι,h⟩
   ·rename_i hm
    split
    ·rename_i u
     have hg:=h.get m
     rw [hm] at hg
     have hv:a.tmps.getD m (B.gd m)=Value.slice none 0 0:=by
      have:[a.tmps.getD m (B.gd m)]=[Value.slice none 0 0]:=hg
      simpa using this
     exact ⟨S,ι,h.slot (t:=m) (v:=.val (.d0 false u) ([]:List u.den)) ⟨[.slice none 0 0],by rw [hv]; rfl,.inl ⟨rfl,⟨none,0,rfl,fun _=>rfl⟩,rfl⟩⟩⟩
    ·exact ⟨S,ι,h⟩
   ·exact ⟨S,ι,h⟩
  obtain ⟨S',ι',h'⟩:=key
  exact V0 hM (l:=l) h'

theorem b5N (h:RS B S ι s a w) (o:Oper):∃ ι',RS B S ι' ((b2I E o s).getD s) a w:=by
 cases hd:b2I E o s with
 | none=>exact ⟨ι,h⟩
 | some s' =>
  show ∃ ι',RS B S ι' s' a w
  unfold b2I at hd
  split at hd
  ·split at hd
   ·rename_i g tx ys hc ha
    split at hd
    ·rename_i t ks rs pre fn out nw i st p hct hx
     split at hd
     ·rename_i u y hob
      split at hd
      ·rename_i v l r hg hset
       split at hd
       ·rename_i hv
        subst hv
        split at hd
        ·rename_i hcond
         cases hd
         simp only [Bool.and_eq_true] at hcond
         have hob:look i s.hp=some (.var u y):=hob
         have hev:=h.fr tx _ hx
         obtain ⟨e1,u1,y1,cs,r1,hok,r3,hcs,r5⟩:=hev
         rw [hob] at r1; cases r1
         have hg:j6 (g8.var u y).ty (g8.var u y).x (st::p)=some ⟨.d0 true t,l⟩:=hg
         rw [hg] at r3; cases r3
         obtain ⟨Op,m1,mn,hRo⟩:=F0 h.hs hob hok hg hcs
         obtain ⟨b,off,k1,k2⟩:=id hcs
         have hnb:(g8.var u y)≠.I9:=by intro h; cases h
         have hblt:b<w.heap.size:=by
          obtain ⟨b',off',O2,q1,q2,q3,q4,q5,q6⟩:=(h.hs.ob i _ hob).part hnb h.hs.slt hok hg
          rw [q1] at k1; cases k1
          rcases Nat.lt_or_ge b w.heap.size with h9|h9
          ·exact h9
          ·have q5:off+1≤(s5 w.heap b).length:=q5
           simp only [s5,Array.getElem?_eq_none h9,List.length_nil] at q5
           omega
         have hl:Loc w.heap ι i (.var u y) (st::p)=some (b,off):=Z3 k1 hblt
         have hRo':f7 w.heap S (.d0 true t) Op (d8 w.heap b off (Ty.d0 true t).size) l:=by
          rw [k2,l4 (E8 hblt)] at hRo
          exact hRo
         have hcells:∃ c0,d8 w.heap b off (Ty.d0 true t).size=[c0]∧b8G c0=true:=by
          rcases hRo' with ⟨_,⟨a1,c1,e1,_⟩,_⟩|⟨b1,o1,cap1,O1,e1,_⟩
          ·exact ⟨_,e1,rfl⟩
          ·exact ⟨_,e1,rfl⟩
         obtain ⟨c0,hc0,hsl⟩:=hcells
         obtain ⟨ι',⟨O,rfl,hO⟩,h0⟩:=h.b3b hob hok hg hl (u':=.hole t) (z:=([]:List t.den)) (cs:=[c0]) (O2:=[]) (fun H' _ _=>⟨rfl,c0,rfl,hsl⟩) rfl List.nodup_nil (by simp) hset (by intro h; cases h)
         have hw:w.setRow b (over (s5 w.heap b) off [c0]).toArray=w:=by
          obtain ⟨O2,q1,q2,q3,m4,m5,arr,T,⟨fz,e1,_⟩,hn⟩:=N2 (K3 hl) (h.hs.ob i _ hob) h.hs.slt hok hg hl
          have hb:s5 w.heap b=arr.toList:=by simp only [s5,e1]
          have:over (s5 w.heap b) off [c0]=s5 w.heap b:=by
           rw [← hc0]; exact over_self m4
          rw [this,hb]; exact setRow_self w b arr T fz (by simpa using e1)
         rw [hw] at h0
         have hOpb:∀ c∈Op,c∈l6 ι i (.var u y):=fun c hc=>F5 (m1 c hc)
         have hF:C9 B S (ι.y7 i O) ((s.kill i (g8.var u y).kd (st::p)).s8 i (.var r.1 r.2)).hp w Op:=by
          refine ⟨mn,fun c hc=>?_⟩
          obtain ⟨z1,z2,z3⟩:=h.hs.bl i _ hob c (hOpb c hc)
          refine ⟨z1,z2,z3,fun j ej r2 r3=>?_⟩
          simp only [St.s8,o5] at r2
          by_cases hj:j=i
          ·subst hj
           rw [if_pos rfl] at r2; cases r2
           have r3:c∈(ι.root j).1::(ι.y7 j O).own j:=r3
           simp only [Ix.y7,if_true] at r3
           refine (List.mem_cons.1 r3).elim (fun g3=>?_) (fun g3=>?_)
           ·obtain ⟨_,_,hnd⟩:=h.hs.ob j _ hob
            exact (List.nodup_cons.1 hnd).1 (g3▸m1 c hc)
           ·rcases (hO c g3).2 with h9|h9
            ·cases h9
            ·exact h9 Op hRo' hc
          ·rw [if_neg hj] at r2
           rw [(a0m hj O).l6] at r3
           exact h.hs.dj i j _ ej hob r2 (Ne.symm hj) c (hOpb c hc) r3
         have h1:=h0.hold hcond.2 hRo' hF
         refine ⟨_,h1.slot (t:=tx) (v:=.at_ (1600000+tx) []) ?_⟩
         have e9:[a.tmps.getD tx (B.gd tx)]=[j7 (.d0 true t) (d8 w.heap b off (Ty.d0 true t).size)]:=by
          rw [r5,k2,l4 (E8 hblt)]
         rw [e9]
         exact a4I hRo'.length
        ·cases hd
       ·cases hd
      ·cases hd
     ·cases hd
    ·cases hd
   ·cases hd
  ·cases hd

theorem RS.c6g (h:RS B S ι s a w) {i:Nat} {u t:Ty} {y:u.den} {z:t.den} (he:look i s.hp=some (.own u y)) (hre:∀ {O:List Nat} {cs:List Value},f7 w.heap S u O cs y→f7 w.heap S t O cs z) (hag:u.agg=t.agg) (hsz:u.size=t.size) :
  RS B S ι { fr:=mapA (AV.map fun v=>match v.i6 i with|false=>v|true=>match v with|.at_ j []=>.at_ j []|_=>.any) s.fr,hp:=Ex.put i (.own t z) s.hp } a w:=by
 obtain ⟨⟨O,hO,hR⟩,hnd⟩:=h.hs.ob i _ he
 have hbk:∀ j ej,look j (Ex.put i (.own t z) s.hp)=some ej→∃ e0,look j s.hp=some e0∧l6 ι j ej=l6 ι j e0:=by
  intro j ej hj
  rw [o5] at hj
  by_cases e1:j=i
  ·subst e1; rw [if_pos rfl] at hj; cases hj; exact ⟨_,he,rfl⟩
  ·rw [if_neg e1] at hj; exact ⟨_,hj,rfl⟩
 refine ⟨⟨h.hs.os,h.hs.tape,h.hs.out,h.hs.size,h.hs.frame,h.hs.slt,h.hs.s0,h.hs.s1,?_,?_,?_,?_⟩,h.dfr,h.sz,?_⟩
 ·intro j ej hj
  rw [o5] at hj
  by_cases e1:j=i
  ·subst e1; rw [if_pos rfl] at hj; cases hj
   exact ⟨⟨O,hO,hre hR⟩,hnd⟩
  ·rw [if_neg e1] at hj; exact h.hs.ob j ej hj
 ·intro j ej hj b hb
  obtain ⟨e0,h1,h2⟩:=hbk j ej hj
  rw [h2] at hb
  exact h.hs.bl j e0 h1 b hb
 ·intro j k ej ek hj hk hjk c hc
  obtain ⟨e0,h1,h2⟩:=hbk j ej hj
  obtain ⟨e3,h4,h5⟩:=hbk k ek hk
  rw [h2] at hc
  rw [h5]
  exact h.hs.dj j k e0 e3 h1 h4 hjk c hc
 ·intro q hq
  obtain ⟨k0,⟨e',k1⟩,k2,k3⟩:=h.hs.pin q hq
  refine ⟨k0,?_,k2,k3⟩
  rw [o5]
  by_cases e1:q.1=i
  ·exact ⟨_,by rw [if_pos e1]⟩
  ·exact ⟨e',by rw [if_neg e1]; exact k1⟩
 ·intro t9 v hv
  simp only [N0,Option.map_eq_some_iff] at hv
  obtain ⟨v0,hv0,rfl⟩:=hv
  refine VX.map (fun _ _=>rfl) (fun _ h=>h) (fun v vs hr hm hvx=>?_) (h.fr t9 v0 hv0)
  cases hmi:v.i6 i with
  | false =>
   have hne:∀ j,v.i6 j=true→j≠i:=by rintro j hj rfl; rw [hmi] at hj; cases hj
   exact VX.other (fun j hj=>by rw [o5,if_neg (hne j hj)]) (fun j hj=>⟨rfl,rfl,rfl⟩) hvx
  | true =>
   have honex:=VX.one hr hvx
   simp only
   split
   ·rename_i j
    have hji:i=j:=Nat.eq_of_beq_eq_true hmi
    subst hji
    obtain ⟨e,u',y',cs,k1,k2,k3,⟨b,off,k4,k5⟩,k6⟩:=hvx
    rw [he] at k1; cases k1
    simp only [j6,Option.some.injEq,Sigma.mk.injEq] at k3
    obtain ⟨rfl,_⟩:=k3
    refine ⟨.own t z,t,z,cs,by rw [o5,if_pos rfl],K2,by simp only [j6]; rfl,⟨b,off,?_,?_⟩,?_⟩
    ·simp only [Place,VR,VH,w8] at k4 ⊢
     exact k4
    ·rw [← hsz]; exact k5
    ·rw [k6]; exact congrArg (fun v=>[v]) (a7b hag cs)
   ·exact honex

theorem b8s (h:RS B S ι s a w) (o:Oper):RS B S ι (b8t E o s) a w:=by
 unfold b8t
 split
 ·split
  ·split
   ·rename_i i _
    split
    ·rename_i t z hob
     split
     ·rename_i hc
      simp only [Bool.and_eq_true] at hc
      split
      ·exact h
      ·rename_i hsh
       exact h.c6g (t:=.d0 true t) (z:=z.2.1) hob (fun hr=>b8r hsh (Nat.le_of_ble_eq_true hc.1) (Nat.le_of_ble_eq_true hc.2) hr) rfl rfl
     ·exact h
    ·exact h
   ·exact h
  ·exact h
 ·exact h

theorem b8i (hM:E.ps.any PK.l5=false→∀ b,¬ B.M b) (h0:RS B S ι s a w) (o:Oper):∃ S' ι',RS B S' ι' (b8j E o s) a w:=by
 have h:=b8s (E:=E) h0 o
 unfold b8j c4n
 generalize b8t E o s=s at h
 obtain ⟨S',ι',h1⟩:=b8U hM h o
 obtain ⟨ι2,h2⟩:=b5N (E:=E) h1 o
 exact ⟨S',ι2,h2⟩

theorem b5J (hM:E.ps.any PK.l5=false→∀ b,¬ B.M b) (h:RS B S ι s a w) (ops:Array Oper):∃ S' ι',RS B S' ι' (b8h E ops s) a w:=by
 unfold b8h
 split
 ·rename_i hp _
  split
  ·rename_i hpi
   exact h.a3m hpi _
  ·exact ⟨S,ι,h⟩
 ·exact ⟨S,ι,h⟩

theorem a9f (hM:E.ps.any PK.l5=false→∀ b,¬ B.M b) (h:RS B S ι s a w) (ops:Array Oper):∃ S' ι',RS B S' ι' (b8f E ops s) a w:=by
 unfold b8f
 split
 ·exact V0 hM h
 ·exact ⟨S,ι,h⟩

theorem b8g (hM:E.ps.any PK.l5=false→∀ b,¬ B.M b) (h:RS B S ι s a w) (ops:Array Oper):∃ S' ι',RS B S' ι' (b0p E ops s) a w:=by
 obtain ⟨S',ι',h'⟩:=a9f (E:=E) hM h ops
 exact b5J hM h' ops

theorem T5 (hE:C2 E B) (hn:B.n=E.nt) (hM:E.ps.any PK.l5=false→∀ b,¬ B.M b) {ops:Array Oper} {k:St→Tree (E.rs++F3 E.ps)} {L:Code→List Item→St→Prop} {Rt:DL (E.rs++F3 E.ps)→Prop} {Q:Exit→Act→World→Prop} (hk:∀ S' ι' s' a' w',RS B S' ι' s' a' w'→(k s').holds L Rt→Q .normal a' w') :
  ∀ {l:List Oper} {m:Nat} {S:Nat→Prop} {ι:Ix} {s:St} {a:Act} {w:World},RS B S ι s a w→(a2D E ops m l s k).holds L Rt→wpList E.P ops Q (l.drop m) a w
 | [],m,S,ι,s,a,w,h,ht=>by
  rw [List.drop_nil]
  cases m<;>exact hk S ι s a w h ht
 | o::l,m+1,S,ι,s,a,w,h,ht=>T5 hE hn hM hk (l:=l) (m:=m) h ht
 | o::l,0,S0,ι0,s0,a,w,h0,ht=>by
  show wpList E.P ops Q (o::l) a w
  unfold a2D at ht
  obtain ⟨S,ι,h⟩:=b8i hM h0 o
  dsimp only at ht
  generalize b8j E o s0=s at h ht
  split at ht
  ·rename_i p s' n hf
   unfold c4v at hf
   split at hf
   ·rename_i d c hg hd hdo ho
    split at hf
    ·rename_i x y T U hc ha hT
     split at hf
     ·split at hf
      ·cases hf
      ·rw [← hn,hd] at hdo
       obtain ⟨v',w',g1,g2⟩:=a6m hE hn ho hc ha hT hdo (ops:=ops) (Q:=Q) h hf ht.1
       unfold wpList
       simp only [Region.wanted,hg,if_true]
       refine .inl ?_
       unfold Oper.wp
       rw [g1]
       show wpList E.P ops Q l (a.put o.dst v') w'
       rw [hd]
       exact g2 (fun S' ι' a' w'' h'=>T5 hE hn hM hk (l:=l) (m:=n) h' (ht.2 ht.1))
     ·cases hf
    ·cases hf
   ·cases hf
  ·split at ht
   ·rename_i p s' n hf
    unfold c4u at hf
    split at hf
    ·rename_i d c hg hd hdo ho
     split at hf
     ·rename_i g x ys hc ha
      split at hf
      ·split at hf
       ·cases hf
       ·rw [← hn,hd] at hdo
        unfold wpList
        simp only [Region.wanted,hg,if_true]
        refine .inl ((a5M hE hn ho hc ha hdo (ops:=ops) (Q:=Q) h hf ht.1 (fun S' ι' a' w'' h'=>T5 hE hn hM hk (l:=l) (m:=n) h' (ht.2 ht.1))).wp (fun v' w' hw=>?_))
        rw [hd]; exact hw
      ·cases hf
     ·cases hf
    ·cases hf
   ·split at ht
    ·rename_i p s' hf
     obtain ⟨hg,hrun⟩:=b6p hE hn h hf ht.1
     unfold wpList
     simp only [Region.wanted,hg,if_true]
     refine .inl (hrun.wp (fun v' w' hw=>?_))
     obtain ⟨ι',h'⟩:=hw
     exact T5 hE hn hM hk (l:=l) (m:=0) h' (ht.2 ht.1)
    ·split at ht
     ·rename_i p s' hf
      obtain ⟨hg,hrun⟩:=b5Q hE hn hM h hf ht.1
      unfold wpList
      simp only [Region.wanted,hg,if_true]
      exact .inl (hrun _ Q (fun S' ι' a' w' h'=>T5 hE hn hM hk (l:=l) (m:=0) h' (ht.2 ht.1)))
     ·split at ht
      ·rename_i p v1 v2 hg hd hb
       rw [← hn] at hd
       obtain ⟨val,hrun,hv⟩:=c1C hE h hb
       unfold wpList
       simp only [Region.wanted,hg,if_true]
       refine .inl ?_
       unfold Oper.wp
       rw [hrun]
       rcases hv with ⟨hp,hv⟩|hv
       ·exact T5 hE hn hM hk (l:=l) (m:=0) (h.put hd hv) (ht.1 hp)
       ·exact T5 hE hn hM hk (l:=l) (m:=0) (h.put hd hv) ht.2
      ·have:=a7z hE hn h (ops:=ops) o (k:=fun s'=>a2D E ops 0 l s' k) ht (next:=wpList E.P ops Q l) (Q:=Q) (fun S' ι' s' a' w' h1 h2=>T5 hE hn hM hk (l:=l) (m:=0) h1 h2)
       unfold wpList
       split
       ·rename_i hw; rw [if_pos hw] at this; exact .inl this
       ·rename_i hw; rw [if_neg hw] at this; exact this
end
end Go.Ex

namespace Go.Ex

section
variable {E:Env} {ops:Array Oper}

theorem a1j {α:Type _} {Y:α→Prop} {a:α}:Y a↔∃ (p:Prop) (s:α),some (True,a)=some (p,s)∧p∧Y s:=by
 constructor
 ·intro h; exact ⟨_,_,rfl,trivial,h⟩
 ·rintro ⟨p,s,h,_,h2⟩; cases h; exact h2

theorem b3s {o:Oper} {s:St} {k:St→Tree (E.rs++F3 E.ps)} {L:Code→List Item→St→Prop} {R:DL (E.rs++F3 E.ps)→Prop}:(a4X E o s k).holds L R↔∃ p s',a0q E o s=some (p,s')∧p∧(k s').holds L R:=by
 unfold a4X a0q
 cases hd:J4 E.nt o.dst with
 | false=>simp [Tree.holds]
 | true =>
  simp only
  have other:∀ r:OR,(match r with|.fail why=>Tree.stuck why|.ok v s'=>k (s'.put o.dst v)|.E4 p v s'=>Tree.f6 p (k (s'.put o.dst v))).holds L R ↔
    ∃ p s',(match r.get with|none=>none|some (p,v,s')=>some (p,s'.put o.dst v))=some (p,s')∧p∧(k s').holds L R:=by
   intro r
   cases r with
   | fail why=>simp [Tree.holds,OR.get]
   | ok v s'=>exact a1j (Y:=fun s'=>(k s').holds L R)
   | E4 p v s' =>
    simp only [Tree.holds,OR.get,Option.some.injEq,Prod.mk.injEq]
    constructor
    ·rintro ⟨h1,h2⟩; exact ⟨_,_,⟨rfl,rfl⟩,h1,h2 h1⟩
    ·rintro ⟨_,_,⟨rfl,rfl⟩,h1,h2⟩; exact ⟨h1,fun _=>h2⟩
  cases ho:o.op with
  | pick c a b =>
   simp only
   cases hc:s.ev c with
   | val t x =>
    cases t with
    | bool =>
     cases x with
     | true=>exact a1j (Y:=fun s'=>(k s').holds L R)
     | false=>exact a1j (Y:=fun s'=>(k s').holds L R)
    | _=>simp [Tree.holds]
   | _=>simp [Tree.holds]
  | _=>exact other _

theorem b3t {o:Oper} {s:St} {k:St→Tree (E.rs++F3 E.ps)} {L:Code→List Item→St→Prop} {R:DL (E.rs++F3 E.ps)→Prop}:(a4q E ops o s k).holds L R↔∃ p s',K0 E ops o s=some (p,s')∧p∧(k s').holds L R:=by
 unfold a4q K0
 cases hg:o.guard with
 | none=>exact b3s
 | some jw =>
  obtain ⟨j,want⟩:=jw
  simp only
  cases hs:a1n ops j with
  | none=>simp [Tree.holds]
  | some g =>
   simp only
   cases hv:s.ev (.tmp g) with
   | raw v =>
    cases v with
    | tuple vs =>
     simp only
     cases hd:J4 E.nt o.dst with
     | false=>simp [Tree.holds]
     | true=>exact a1j (Y:=fun s'=>(k s').holds L R)
    | _=>simp [Tree.holds]
   | val t x =>
    cases t with
    | bool =>
     simp only
     cases hd:J4 E.nt o.dst with
     | false=>simp [Tree.holds]
     | true =>
      simp only
      cases x with
      | true =>
       cases want with
       | true=>exact b3s
       | false=>exact a1j (Y:=fun s'=>(k s').holds L R)
      | false =>
       cases want with
       | true=>exact a1j (Y:=fun s'=>(k s').holds L R)
       | false=>exact b3s
    | _=>simp [Tree.holds]
   | _=>simp [Tree.holds]

def a22 (ops:Array Oper) (x:Oper) (sx:St) (Tx:List Nat) (y:Oper) (Ty:List Nat):Prop :=
 (∀ m∈looks ops y,∀ i∈Tx,(H8 y (sx.get m)).i6 i=false)∧(∀ m∈looks ops x,∀ i∈Ty,(H8 x (sx.get m)).i6 i=false)∧(∀ i∈Tx,i % 1000≠(y.dst.getD 0) % 1000)

theorem c4X {e:Met} {y:Oper} {Ty:List Nat} (h:b8n ops e y Ty=true):a22 ops e.o e.s e.T y Ty:=by
 simp only [b8n,Bool.and_eq_true] at h
 obtain ⟨h1,h2⟩:=h
 refine ⟨?_,?_,?_⟩
 ·intro m hm i hi
  split at h1
  ·rename_i he; rw [he] at hi; cases hi
  ·simp only [Bool.and_eq_true,List.all_eq_true,Bool.not_eq_true'] at h1
   exact h1.1 m hm i hi
 ·intro m hm i hi
  split at h2
  ·cases hi
  ·simp only [List.all_eq_true,Bool.not_eq_true'] at h2
   exact h2 m hm i hi
 ·intro i hi hmod
  split at h1
  ·rename_i he; rw [he] at hi; cases hi
  ·simp only [Bool.and_eq_true,List.all_eq_true,Bool.not_eq_true'] at h1
   have:=h1.2 i hi
   rw [hmod] at this
   simp at this

def a2Y (E:Env) (ops:Array Oper) (M:Nat→Nat):List (Nat×St)→List Nat→St→St→Prop
 | _,[],s,s'=>s=s'
 | acc,i::l,s,s'=>∃ o,ops[i]?=some o∧(∀ e∈acc,(M i).testBit e.1=true∨∃ x,ops[e.1]?=some x∧a22 ops x e.2 (l5 E x e.2) o (l5 E o s)) ∧
   ∃ p s1,K0 E ops o s=some (p,s1)∧p∧a2Y E ops M ((i,s)::acc) l s1 s'

theorem c1n {o:Oper} {l:List Oper} {n:Nat} (hl:ops.toList.drop n=o::l):ops[n]?=some o∧ops.toList.drop (n+1)=l∧ops.size=n+1+l.length:=by
 have h1:(ops.toList.drop n)[0]?=some o:=by rw [hl]; rfl
 have h2:(ops.toList.drop n).length=(o::l).length:=by rw [hl]
 simp only [List.length_drop,List.length_cons,Array.length_toList] at h2
 refine ⟨by simpa using h1,?_,by omega⟩
 rw [← List.drop_drop,hl]; rfl

end
end Go.Ex

namespace Go.Ex

def uniq {α:Type _}:List (Nat×α)→Prop
 | []=>True
 | (n,_)::l=>(∀ q∈l,n<q.1)∧uniq l

theorem a3D {α:Type _} {n:Nat}:∀ {l:List (Nat×α)},(∀ q∈l,n<q.1)→look n l=none
 | [],_=>rfl
 | (m,x)::l,h=>by
  have:=h (m,x) (by simp)
  simp only [look,a2x (Nat.ne_of_lt this)]
  exact a3D (fun q hq=>h q (by simp [hq]))

theorem b6R {α:Type _} {n:Nat} {x:α} {q:Nat×α}:∀ {l:List (Nat×α)},q∈put n x l→q.1=n∨q∈l
 | [],h=>by simp [put] at h; exact .inl (by rw [h])
 | (m,y)::l,h=>by
  simp only [put] at h
  split at h
  ·rcases List.mem_cons.1 h with rfl|h
   ·exact .inl rfl
   ·exact .inr (by simp [h])
  ·split at h
   ·rcases List.mem_cons.1 h with rfl|h
    ·exact .inl rfl
    ·exact .inr h
   ·rcases List.mem_cons.1 h with rfl|h
    ·exact .inr (by simp)
    ·exact (b6R h).imp id (fun h=>by simp [h])

theorem b2Z {α:Type _} (n:Nat) (x:α):∀ {l:List (Nat×α)},uniq l→uniq (put n x l)
 | [],_=>⟨by simp,trivial⟩
 | (m,y)::l,⟨h1,h2⟩=>by
  simp only [put]
  cases hb:Nat.beq n m with
  | true=>have:=Nat.eq_of_beq_eq_true hb; subst this; exact ⟨h1,h2⟩
  | false =>
   have hne:n≠m:=by rintro rfl; simp at hb
   simp only
   cases hlt:Nat.blt n m with
   | true =>
    have hlt:n<m:=by simpa [Nat.blt_eq] using hlt
    exact ⟨fun q hq=>by
     rcases List.mem_cons.1 hq with rfl|hq
     ·exact hlt
     ·exact Nat.lt_trans hlt (h1 q hq),h1,h2⟩
   | false =>
    have hlt:¬ n<m:=by
     intro hl
     have h3:Nat.blt n m=true:=by simpa [Nat.blt_eq] using hl
     rw [h3] at hlt; cases hlt
    refine ⟨fun q hq=>?_,b2Z n x h2⟩
    rcases b6R hq with e|hq
    ·omega
    ·exact h1 q hq

theorem u3 {α:Type _}:∀ {l:List (Nat×α)},a8U l=true→uniq l
 | [],_=>trivial
 | (n,x)::l,h=>by
  simp only [a8U,Bool.and_eq_true] at h
  have ih:=u3 h.2
  refine ⟨?_,ih⟩
  cases l with
  | nil=>simp
  | cons q l =>
   obtain ⟨m,y⟩:=q
   have hlt:n<m:=by simpa [Nat.blt_eq] using h.1
   intro q hq
   rcases List.mem_cons.1 hq with rfl|hq
   ·exact hlt
   ·exact Nat.lt_trans hlt (ih.1 q hq)

theorem a3L {d:Nat}:∀ {l:List (Nat×AV)},uniq l→(∀ n v,look n l=some v→v.i6 d=false)→Y4 d l=true
 | [],_,_=>rfl
 | (m,v)::l,⟨h0,h2⟩,h=>by
  have h1:=a3D h0
  simp only [Y4,Bool.and_eq_true,Bool.not_eq_true']
  refine ⟨h m v (by simp [look]),a3L h2 (fun n w hw=>h n w ?_)⟩
  simp only [look]
  cases hb:Nat.beq n m with
  | true=>have:=Nat.eq_of_beq_eq_true hb; subst this; rw [h1] at hw; cases hw
  | false=>exact hw

theorem G5:∀ {v:AV} {i:Nat},i∈v.E6↔v.i6 i=true:=by
 intro v
 induction v with
 | cons a b iha ihb=>intro i; simp only [AV.E6,List.mem_append,AV.i6,Bool.or_eq_true,iha,ihb]
 | J6 l ih=>intro i; exact ih
 | B8 f l ih=>intro i; exact ih
 | bx l ih=>intro i; exact ih
 | rc f l ih=>intro i; exact ih
 | ptr j p=>intro i; simp [AV.E6,AV.i6]
 | at_ j p=>intro i; simp [AV.E6,AV.i6]
 | sub j p a b=>intro i; simp [AV.E6,AV.i6]
 | _=>intro i; simp [AV.E6,AV.i6]

def AV.plain:AV→Bool
 | .any|.raw _|.val _ _|.L9 _ _|.nil=>true
 | _=>false

structure Trim (T:List Nat) (f:AV→AV):Prop where
 cons:∀ a b,f (.cons a b)=.cons (f a) (f b)
 J6:∀ l,f (.J6 l)=.J6 (f l)
 B8:∀ g l,f (.B8 g l)=.B8 g (f l)
 bx:∀ l,f (.bx l)=.bx (f l)
 rc:∀ g l,f (.rc g l)=.rc g (f l)
 atom:∀ u,u.ref=true→f u=u∨f u=.any
 a8o:∀ u,u.ref=true→(∀ i∈T,u.i6 i=false)→f u=u
 plain:∀ u,u.plain=true→f u=u

theorem AV.shape (P:AV→Prop) (hp:∀ u,u.plain=true→P u) (ha:∀ u,u.ref=true→P u) (hc:∀ a b,P a→P b→P (.cons a b)) (ht:∀ l,P l→P (.J6 l)) (hf:∀ g l,P l→P (.B8 g l)) (hb:∀ l,P l→P (.bx l)) (hr:∀ g l,P l→P (.rc g l)):∀ u,P u:=by
 intro u
 induction u with
 | cons a b iha ihb=>exact hc a b iha ihb
 | J6 l ih=>exact ht l ih
 | B8 f l ih=>exact hf f l ih
 | bx l ih=>exact hb l ih
 | rc f l ih=>exact hr f l ih
 | ptr j p=>exact ha _ rfl
 | at_ j p=>exact ha _ rfl
 | sub j p a b=>exact ha _ rfl
 | _=>exact hp _ rfl

section
variable {T T':List Nat} {f g:AV→AV}

theorem Trim.id (T:List Nat):Trim T (fun u=>u):=⟨fun _ _=>rfl,fun _=>rfl,fun _ _=>rfl,fun _=>rfl,fun _ _=>rfl,fun _ _=>.inl rfl,fun _ _ _=>rfl,fun _ _=>rfl⟩

theorem Trim.map {g:AV→AV} (h1:∀ u,u.ref=true→g u=u∨g u=.any) (h2:∀ u,u.ref=true→(∀ i∈T,u.i6 i=false)→g u=u):Trim T (AV.map g):=by
 have e:∀ u:AV,u.ref=true→u.map g=g u:=by intro u hu; cases u<;>simp only [AV.ref] at hu<;>first|rfl|cases hu
 exact ⟨fun _ _=>rfl,fun _=>rfl,fun _ _=>rfl,fun _=>rfl,fun _ _=>rfl,fun u hu=>by rw [e u hu]; exact h1 u hu,fun u hu hm=>by rw [e u hu]; exact h2 u hu hm,fun u hu=>by cases u<;>simp only [AV.plain] at hu<;>first|rfl|cases hu⟩

theorem Trim.comp (hf:Trim T f) (hg:Trim T' g) {U:List Nat} (h1:∀ i∈T,i∈U) (h2:∀ i∈T',i∈U):Trim U (fun u=>g (f u)):=by
 refine ⟨fun a b=>by rw [hf.cons,hg.cons],fun l=>by rw [hf.J6,hg.J6],fun k l=>by rw [hf.B8,hg.B8],fun l=>by rw [hf.bx,hg.bx],fun k l=>by rw [hf.rc,hg.rc],?_,?_,fun u hu=>by rw [hf.plain u hu,hg.plain u hu]⟩
 ·intro u hu
  rcases hf.atom u hu with h|h
  ·rw [h]; exact hg.atom u hu
  ·rw [h]; exact .inr (hg.plain _ rfl)
 ·intro u hu hm
  rw [hf.a8o u hu (fun i hi=>hm i (h1 i hi)),hg.a8o u hu (fun i hi=>hm i (h2 i hi))]

theorem Trim.mono (hf:Trim T f) (h:∀ i∈T,i∈T'):Trim T' f:=⟨hf.cons,hf.J6,hf.B8,hf.bx,hf.rc,hf.atom,fun u hu hm=>hf.a8o u hu (fun i hi=>hm i (h i hi)),hf.plain⟩

theorem Trim.fix (hf:Trim T f):∀ u,(∀ i∈T,u.i6 i=false)→f u=u:=by
 refine AV.shape _ (fun u hu _=>hf.plain u hu) (fun u hu hm=>hf.a8o u hu hm) ?_ ?_ ?_ ?_ ?_
 ·intro a b ha hb hm
  simp only [AV.i6,Bool.or_eq_false_iff] at hm
  rw [hf.cons,ha (fun i hi=>(hm i hi).1),hb (fun i hi=>(hm i hi).2)]
 ·intro l hl hm; rw [hf.J6,hl hm]
 ·intro k l hl hm; rw [hf.B8,hl hm]
 ·intro l hl hm; rw [hf.bx,hl hm]
 ·intro k l hl hm; rw [hf.rc,hl hm]

theorem Trim.i6 (hf:Trim T f) {i:Nat}:∀ u,(f u).i6 i=true→u.i6 i=true:=by
 refine AV.shape _ (fun u hu h=>by rw [hf.plain u hu] at h; exact h) (fun u hu h=>?_) ?_ ?_ ?_ ?_ ?_
 ·rcases hf.atom u hu with e|e
  ·rw [e] at h; exact h
  ·rw [e] at h; cases h
 ·intro a b ha hb h
  rw [hf.cons] at h
  simp only [AV.i6,Bool.or_eq_true] at h ⊢
  exact h.imp ha hb
 ·intro l hl h; rw [hf.J6] at h; exact hl h
 ·intro k l hl h; rw [hf.B8] at h; exact hl h
 ·intro l hl h; rw [hf.bx] at h; exact hl h
 ·intro k l hl h; rw [hf.rc] at h; exact hl h

theorem Trim.comm (hf:Trim T f) (hg:Trim T' g):∀ u,f (g u)=g (f u):=by
 refine AV.shape _ (fun u hu=>by rw [hf.plain u hu,hg.plain u hu,hf.plain u hu]) (fun u hu=>?_) ?_ ?_ ?_ ?_ ?_
 ·have ha:f .any=.any:=hf.plain _ rfl
  have hb:g .any=.any:=hg.plain _ rfl
  rcases hf.atom u hu with e|e<;>rcases hg.atom u hu with e'|e'<;>simp only [e,e',ha,hb]
 ·intro a b ha hb; rw [hg.cons,hf.cons,hf.cons,hg.cons,ha,hb]
 ·intro l hl; rw [hg.J6,hf.J6,hf.J6,hg.J6,hl]
 ·intro k l hl; rw [hg.B8,hf.B8,hf.B8,hg.B8,hl]
 ·intro l hl; rw [hg.bx,hf.bx,hf.bx,hg.bx,hl]
 ·intro k l hl; rw [hg.rc,hf.rc,hf.rc,hg.rc,hl]

theorem Trim.drop (i:Nat):Trim [i] (AV.drop i):=by
 refine Trim.map (fun u _=>?_) (fun u _ hm=>?_)
 ·cases hm:u.i6 i with
  | true=>exact .inr (by simp only)
  | false=>exact .inl (by simp only)
 ·simp only [hm i (by simp)]

theorem Trim.kill (i:Nat) (ow:Bool×Ty) (q:List Step):Trim [i] (AV.kill i ow q):=by
 refine Trim.map (fun u hu=>?_) (fun u _ hm=>?_)
 ·unfold AV.a9p
  split
  ·exact .inl rfl
  ·split
   ·split<;>first|exact .inl rfl|exact .inr rfl
   ·split
    ·exact .inl rfl
    ·split<;>first|exact .inl rfl|exact .inr rfl
   ·split<;>first|exact .inl rfl|exact .inr rfl
   ·split<;>first|exact .inl rfl|exact .inr rfl
   ·exact .inr rfl
 ·unfold AV.a9p; rw [hm i (by simp)]

theorem Trim.T6 (i:Nat) (ow:Bool):Trim [i] (AV.map (AV.a1B i ow)):=by
 refine Trim.map (fun u hu=>?_) (fun u _ hm=>?_)
 ·unfold AV.a1B
  split
  ·exact .inl rfl
  ·split
   ·split<;>first|exact .inl rfl|exact .inr rfl
   ·split<;>first|exact .inl rfl|exact .inr rfl
   ·split<;>first|exact .inl rfl|exact .inr rfl
   ·exact .inr rfl
 ·unfold AV.a1B; rw [hm i (by simp)]

def a1E:List Nat→AV→AV
 | [],u=>u
 | i::g,u=>a1E g (u.drop i)

theorem Trim.s7:∀ g:List Nat,Trim g (a1E g)
 | []=>Trim.id []
 | i::g=>Trim.comp (Trim.drop i) (Trim.s7 g) (by simp) (fun j hj=>List.mem_cons_of_mem _ hj)
end

structure c4E (s s1:St) (T ids:List Nat) (f:AV→AV) (h:Nat→Option g8):Prop where
 fr:∀ n,look n s1.fr=(look n s.fr).map f
 hp:∀ i,look i s1.hp=if i∈T∨i∈ids then h i else look i s.hp

def O8 (s:St) (ids:List Nat):Prop:=∀ n∈ids,look n s.hp=none∧∀ m v,look m s.fr=some v→v.i6 n=false

theorem a1w:∀ {g:List Nat} {s:St} {n:Nat},look n (St.s7 g s).fr=(look n s.fr).map (a1E g)
 | [],s,n=>by simp [St.s7,a1E]
 | i::g,s,n=>by
  simp only [St.s7]
  rw [a1w (g:=g) (s:=s.drop i)]
  simp only [St.drop,N0,Option.map_map]
  rfl

theorem b3D {f:AV→AV} {q:Nat×AV}:∀ {l:List (Nat×AV)},q∈mapA f l→∃ r∈l,r.1=q.1
 | (n,x)::l,h=>by
  rcases List.mem_cons.1 h with rfl|h
  ·exact ⟨_,List.mem_cons_self ..,rfl⟩
  ·obtain ⟨r,hr,e⟩:=b3D h; exact ⟨r,by simp [hr],e⟩

theorem a2l {f:AV→AV}:∀ {l:List (Nat×AV)},uniq l→uniq (mapA f l)
 | [],_=>trivial
 | (n,x)::l,⟨h1,h2⟩=>⟨fun q hq=>by obtain ⟨r,hr,e⟩:=b3D hq; rw [← e]; exact h1 r hr,a2l h2⟩

theorem a1r:∀ {g:List Nat} {s:St},uniq s.fr→uniq (St.s7 g s).fr
 | [],_,h=>h
 | i::g,s,h=>a1r (g:=g) (s:=s.drop i) (a2l h)

def V5 (s t:St) (xs:List Operand):Prop:=∀ x∈xs,t.ev x=s.ev x∧∀ i,(s.ev x).i6 i=true→t.obj i=s.obj i

theorem V5.refl (s:St) (xs:List Operand):V5 s s xs:=fun _ _=>⟨rfl,fun _ _=>rfl⟩

def OR.a0z (t:St):OR→OR
 | .fail w=>.fail w
 | .ok v _=>.ok v t
 | .E4 p v _=>.E4 p v t

def OR.av:OR→AV
 | .ok v _=>v
 | .E4 _ v _=>v
 | .fail _=>.any

section
variable {E:Env} {s t:St}

theorem b4u (k:IntKind) (r:Int):arith k r t=(arith k r s).a0z t:=by unfold arith; split<;>rfl
theorem c5w (op:BinOp) (k k':IntKind) (a b:Int):a8C op k a k' b t=(a8C op k a k' b s).a0z t:=by
 unfold a8C
 split
 ·rfl
 ·rfl
 ·split
  ·split<;>first|rfl|exact b4u _ _
  ·rfl
theorem c5u (W:Bool) (op:BinOp) (k k':IntKind) (a b:Int):a8A W op k a k' b t=(a8A W op k a k' b s).a0z t:=by
 unfold a8A
 split
 ·split<;>rfl
 ·exact c5w ..
theorem c5v (op:BinOp) (a b:List UInt8):a8B op a b t=(a8B op a b s).a0z t:=by unfold a8B; split<;>rfl
theorem c5y (T:TypeId) (op:BinOp) (x y:AV):a8D E T op x y t=(a8D E T op x y s).a0z t:=by
 unfold a8D
 split
 ·exact c5u ..
 ·split<;>rfl
 ·exact c5v ..
 ·rfl
theorem c1l (T:TypeId) (op:BinOp) (a:Ty) (x:a.den) (u:Ty) (y:u.den):eqA E T op a x u y t=(eqA E T op a x u y s).a0z t:=by
 unfold eqA
 split
 ·split<;>rfl
 ·rfl
theorem c5x (T:TypeId) (op:BinOp) (x y:AV):a5v E T op x y t=(a5v E T op x y s).a0z t:=by
 unfold a5v
 split
 ·unfold b3B; split<;>rfl
 ·exact c1l ..
 ·exact c1l ..
 ·exact c5y ..
theorem c6a (op:UnOp) (x:AV):unA op x t=(unA op x s).a0z t:=by
 unfold unA
 repeat' (first|rfl|exact b4u _ _|split)

theorem a4y:∀ {xs:List Operand},(∀ x∈xs,t.ev x=s.ev x)→t.H9 xs=s.H9 xs
 | [],_=>rfl
 | x::xs,h=>by simp only [St.H9,h x (by simp),a4y (xs:=xs) (fun y hy=>h y (by simp [hy]))]

theorem X3 {i:Nat}:∀ {xs:List Operand},(s.H9 xs).i6 i=true→∃ x∈xs,(s.ev x).i6 i=true
 | [],h=>by cases h
 | x::xs,h=>by
  simp only [St.H9,AV.i6,Bool.or_eq_true] at h
  rcases h with h|h
  ·exact ⟨x,by simp,h⟩
  ·obtain ⟨y,hy,h⟩:=X3 h; exact ⟨y,by simp [hy],h⟩

theorem a8j {i:Nat} {x:Operand}:∀ {xs:List Operand},x∈xs→(s.ev x).i6 i=true→(s.H9 xs).i6 i=true
 | y::xs,hx,h=>by
  simp only [St.H9,AV.i6,Bool.or_eq_true]
  rcases List.mem_cons.1 hx with rfl|hx
  ·exact .inl h
  ·exact .inr (a8j hx h)

theorem a5w {i:Nat}:∀ {a b:AV},(a.app b).i6 i=true→a.i6 i=true∨b.i6 i=true:=by
 intro a
 induction a with
 | cons x l _ ih =>
  intro b h
  simp only [AV.app,AV.i6,Bool.or_eq_true] at h ⊢
  rcases h with h|h
  ·exact .inl (.inl h)
  ·rcases ih h with h|h
   ·exact .inl (.inr h)
   ·exact .inr h
 | _=>intro b h; exact .inr h

def Alike (s t:St) (v:AV):Prop:=∀ i,v.i6 i=true→t.obj i=s.obj i

theorem H2 {i:Nat} {p:List Step} (h:t.obj i=s.obj i):t.part i p=s.part i p:=by simp only [St.part,h]
theorem a69 {i:Nat} {p:List Step} {a b:Int} (h:t.obj i=s.obj i):t.view i p a b=s.view i p a b:=by simp only [St.view,H2 h]
theorem b0s {u:Ty} {i:Nat} {p:List Step} (h:t.obj i=s.obj i):t.a09 u i p=s.a09 u i p:=by simp only [St.a09,H2 h]
theorem c6G {u:Ty} {v:AV} (h:Alike s t v):v.asV t u=v.asV s u:=by
 cases v<;>first|rfl|exact b0s (h _ (by simp [AV.i6]))|(simp only [AV.asV]; rw [a69 (h _ (by simp [AV.i6]))])
theorem c1I {u:Ty} {v:AV} (h:Alike s t v):v.asR t u=v.asR s u:=by
 unfold AV.asR
 split
 ·exact b0s (h _ (by simp [AV.i6]))
 ·rfl
 ·rename_i i p
  have e:∀ u,t.a09 u i p=s.a09 u i p:=fun u=>b0s (h i (show AV.i6 i (AV.bx (.ptr i p))=true by simp [AV.i6]))
  simp only [e]
 ·rfl
theorem b7m:∀ {ts:List Ty} {v:AV},Alike s t v→AV.a6N t ts v=AV.a6N s ts v
 | [],v,_=>by cases v<;>rfl
 | u::ts,v,h=>by
  cases v<;>try rfl
  rename_i a b
  simp only [AV.a6N,c1I (v:=a) (fun i hi=>h i (by simp [AV.i6,hi])),b7m (v:=b) (fun i hi=>h i (by simp [AV.i6,hi]))]
theorem a7k {v:AV} (h:Alike s t v):v.Y6 t=v.Y6 s:=by
 cases v<;>try rfl
 ·rename_i i p; cases p<;>simp only [AV.Y6,h i (by simp [AV.i6])]
 ·rename_i i p a b; cases p<;>simp only [AV.Y6,h i (by simp [AV.i6])]
theorem b3U {v:AV} (h:Alike s t v):v.els t=v.els s:=by
 unfold AV.els
 split
 ·rfl
 ·rename_i i p; simp only [H2 (h i (by simp [AV.i6]))]
 ·rename_i i p a b; simp only [a69 (h i (by simp [AV.i6]))]
 ·rfl
theorem a3P {v:AV} {r:Sigma Ty.den} {g:List Nat} (h:v.Y6 s=some (r,g)):∀ i∈g,v.i6 i=true:=by
 unfold AV.Y6 at h
 split at h
 ·cases h; simp
 ·split at h
  ·cases h; simp [AV.i6]
  ·cases h
 ·split at h
  ·cases h; simp [AV.i6]
  ·cases h
 ·cases h
theorem a1b {v:AV} (h:Alike s t v):v.a0w t=v.a0w s:=by
 unfold AV.a0w
 split
 ·rename_i i
  rw [h i (by simp [AV.i6]),a7k h]
 ·rfl
 ·exact a7k h
theorem a2T {v:AV} {r:Sigma Ty.den} {g:List Nat} (h:v.a0w s=some (r,g)):∀ i∈g,v.i6 i=true:=by
 unfold AV.a0w at h
 split at h
 ·split at h
  ·cases h; simp [AV.i6]
  ·exact a3P h
 ·cases h; simp
 ·exact a3P h
theorem b0Q {u:Ty} {v:AV} (h:Alike s t v):v.a1e t u=v.a1e s u:=by
 unfold AV.a1e
 split
 ·rfl
 ·rfl
 ·simp only [b3U h,a7k h]
theorem c1M {u:Ty} {v:AV} {r:Sigma fun t:Ty=>List t.den} {g:List Nat} (h:v.a1e s u=some (r,g)):∀ i∈g,v.i6 i=true:=by
 unfold AV.a1e at h
 split at h
 ·cases h; simp
 ·cases h; simp
 ·split at h
  ·cases h
  ·split at h
   ·cases h; simp
   ·split at h
    ·rename_i hg; cases h; exact a3P hg
    ·cases h
theorem b4o {d:Int} {x:Option Operand} (h:∀ y,x=some y→t.ev y=s.ev y):X6 t d x=X6 s d x:=by
 cases x with
 | none=>rfl
 | some y=>simp only [X6,h y rfl]

theorem c6H {k:PK} {v:AV} (h:Alike s t v):v.M3 t k=v.M3 s k:=by
 cases k with
 | v u=>simp only [AV.M3,c6G h]
 | rd u=>simp only [AV.M3,c1I h]
 | S7=>cases v<;>rfl
 | Y2 f n=>rfl
 | el q=>rfl
 | B8 f ts =>
  cases v<;>try rfl
  simp only [AV.M3]; rw [b7m (fun i hi=>h i (by simpa [AV.i6] using hi))]
 | own u =>
  have hg:=a1b h
  unfold AV.M3
  dsimp only
  split
  ·rfl
  ·rw [hg]
 | rw u =>
  cases v<;>try rfl
  rename_i i p; cases p<;>simp only [AV.M3,h i (by simp [AV.i6])]
 | mu u =>
  cases v<;>try rfl
  rename_i i p; cases p<;>simp only [AV.M3,h i (by simp [AV.i6])]
theorem b7n:∀ {ks:List PK} {v:AV},Alike s t v→AV.a0c t ks v=AV.a0c s ks v
 | [],v,_=>by cases v<;>rfl
 | k::ks,v,h=>by
  cases v<;>try rfl
  rename_i a b
  simp only [AV.a0c,c6H (v:=a) (fun i hi=>h i (by simp [AV.i6,hi])),b7n (v:=b) (fun i hi=>h i (by simp [AV.i6,hi]))]

theorem c3C {k:PK} {v:AV} {x:k.den} {g m:List Nat} (h:v.M3 s k=some (x,g,m)):(∀ i∈g++m,v.i6 i=true)∧(k.l5=false→g=[]∧m=[]):=by
 cases k with
 | v u=>simp only [AV.M3] at h; split at h<;>cases h; simp
 | rd u=>simp only [AV.M3] at h; split at h<;>cases h; simp
 | S7=>simp only [AV.M3] at h; split at h<;>cases h; simp
 | Y2 f n=>simp only [AV.M3] at h; cases h
 | el q=>simp only [AV.M3] at h; cases h
 | B8 f ts =>
  simp only [AV.M3] at h
  split at h
  ·split at h
   ·split at h<;>cases h; simp
   ·cases h
  ·cases h
 | own u =>
  refine ⟨?_,fun h=>by cases h⟩
  simp only [AV.M3] at h
  split at h
  ·split at h<;>cases h; simp
  ·split at h
   ·rename_i hg
    split at h
    ·cases h
     intro i hi
     exact a2T hg i (by simpa using hi)
    ·cases h
   ·cases h
 | rw u =>
  refine ⟨?_,fun h=>by cases h⟩
  simp only [AV.M3] at h
  split at h
  ·split at h
   ·split at h
    ·cases h; simp [AV.i6]
    ·cases h
   ·cases h
  ·cases h
 | mu u =>
  refine ⟨?_,fun h=>by cases h⟩
  simp only [AV.M3] at h
  split at h
  ·split at h
   ·split at h
    ·cases h; simp [AV.i6]
    ·cases h
   ·cases h
  ·cases h

theorem b1H:∀ {ks:List PK} {v:AV} {x:DK ks} {g m:List Nat},AV.a0c s ks v=some (x,g,m)→(∀ i∈g++m,v.i6 i=true)∧(ks.any PK.l5=false→g=[]∧m=[])
 | [],v,x,g,m,h=>by
  cases v<;>simp only [AV.a0c] at h<;>cases h
  simp
 | k::ks,v,x,g,m,h=>by
  cases v<;>simp only [AV.a0c] at h<;>try (cases h; done)
  split at h
  ·rename_i h1 h2
   cases h
   obtain ⟨a1,a2⟩:=c3C h1
   obtain ⟨b1,b2⟩:=b1H h2
   refine ⟨?_,?_⟩
   ·intro i hi
    simp only [List.mem_append] at hi a1 b1
    simp only [AV.i6,Bool.or_eq_true]
    rcases hi with (hi|hi)|(hi|hi)
    ·exact .inl (a1 i (.inl hi))
    ·exact .inr (b1 i (.inl hi))
    ·exact .inl (a1 i (.inr hi))
    ·exact .inr (b1 i (.inr hi))
   ·intro ht
    simp only [List.any_cons,Bool.or_eq_false_iff] at ht
    obtain ⟨r1,r2⟩:=a2 ht.1
    obtain ⟨r3,r4⟩:=b2 ht.2
    simp [r1,r2,r3,r4]
  ·cases h

theorem a3V:∀ {parts:List (Nat×Operand)} {r:Sigma Ty.den},(∀ q∈parts,t.ev q.2=s.ev q.2∧Alike s t (s.ev q.2))→O7 t r parts=O7 s r parts
 | [],⟨_,_⟩,_=>rfl
 | (i,v)::parts,⟨u,x⟩,h=>by
  have ih:=fun r=>a3V (parts:=parts) (r:=r) (fun q hq=>h q (by simp [hq]))
  obtain ⟨h1,h2⟩:=h (i,v) (by simp)
  have h1:t.ev v=s.ev v:=h1
  have h2:=a1b h2
  have h2:(s.ev v).a0w t=(s.ev v).a0w s:=h2
  simp only [O7,h1,ih]
  split
  ·rfl
  ·split
   ·rfl
   ·rw [h2]

theorem a2f:∀ {parts:List (Nat×Operand)} {r r':Sigma Ty.den} {g:List Nat},O7 s r parts=some (r',g)→∀ i∈g,∃ q∈parts,(s.ev q.2).i6 i=true
 | [],⟨_,_⟩,r',g,h=>by simp only [O7] at h; cases h; simp
 | (j,v)::parts,⟨u,x⟩,r',g,h=>by
  simp only [O7] at h
  split at h
  ·cases h
  ·split at h
   ·split at h
    ·split at h
     ·intro i hi
      obtain ⟨q,hq,hm⟩:=a2f h i hi
      exact ⟨q,by simp [hq],hm⟩
     ·cases h
    ·cases h
   ·split at h
    ·rename_i hg
     split at h
     ·split at h
      ·rename_i hb
       cases h
       intro i hi
       rcases List.mem_append.1 hi with hi|hi
       ·exact ⟨(j,v),by simp,a2T hg i hi⟩
       ·obtain ⟨q,hq,hm⟩:=a2f hb i hi
        exact ⟨q,by simp [hq],hm⟩
      ·cases h
     ·cases h
    ·cases h

end
end Go.Ex
