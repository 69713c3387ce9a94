import Derived.Test.YtekbamiaenbhjaaExK5

namespace Go.Ex

section
variable {E:Env} {B:y9} {S:Nat→Prop} {ι:Ix} {s:St} {a:Act} {w:World}

def a47 (P:Program) (S:Nat→Prop) (ι:Ix) (o:Oper) (a:Act) (w:World) (s:St) (v:AV):Prop :=
 ∃ val,(∀ w',(execOp a.eval o).run P w'=.ok (.value val) w')∧VX w.heap S ι s.hp v [val]
def a49 (P:Program) (S:Nat→Prop) (ι:Ix) (o:Oper) (a:Act) (w:World) (s:St):OR→Prop
 | .fail _=>True
 | .ok v s'=>s'=s∧a47 P S ι o a w s v
 | .B1 p v s'=>p→s'=s∧a47 P S ι o a w s v
theorem Y7 {P:Program} {o:Oper} {sem:Sem Value} (he:execOp a.eval o=(do pure (.value (← sem)))) {v:AV} {val:Value} (hr:∀ w',sem.run P w'=.ok val w')
  (hv:VX w.heap S ι s.hp v [val]):s=s∧a47 P S ι o a w s v:=⟨rfl,val,fun w'=>by rw [he]; simp [hr w',Result.andThen],hv⟩

theorem a7O (hE:t7 E B) (h:RS B S ι s a w) {o:Oper} {T:TypeId} {x:Operand} {n:Nat} (ho:o.op=.fieldAddr T x n):a49 E.P S ι o a w s (l4 E o s):=by
 have he:execOp a.eval o=(do pure (.value (← Instr.fieldAt T (a.eval x) n))):=by simp [execOp,ho]
 unfold l4
 rw [ho]
 simp only
 split
 ·rename_i i p hx
  split
  ·rename_i u z hpt
   split
   ·rename_i r hc hg2
    obtain ⟨e,b,off,h1,h2,h3,h4⟩:=t6 h hx
    have hg:=C6 h1 hpt
    have h4:a.eval x=.pointer (some ⟨b,off,none⟩):=by simpa using h4
    obtain ⟨u2,z2⟩:=r
    exact Y7 he (fun _=>by rw [h4]; exact X1 (u7 hE hc) hg2 b off) ⟨e,b,off+J5 u n,h1,P0 hg h2 (a1u hg2),a0W hg h3 (fun G=>a0B hg2),rfl⟩
   ·trivial
  ·trivial
 ·rename_i t y hx
  split
  ·rename_i u z hc hg
   obtain ⟨b,off,e,h1,h2,h3⟩:=t6 h hx
   have e:a.eval x=.pointer (some ⟨b,off,none⟩):=by simpa using e
   have hok:=a1u hg
   obtain ⟨O1,O2,b',off',e1,e2,e3,e4,e5,e6⟩:=focus h3 h2 hok hg
   have hO:O1=[]∧O2=[]:=by have:=e1.nil_eq; simpa using this.symm
   rw [a0B hg] at e3; cases e3
   refine Y7 he (fun _=>by rw [e]; exact X1 (u7 hE hc) hg b off) ⟨b,off+J5 t n,rfl,h1,e5,?_⟩
   rw [hO.2] at e4; exact e4
  ·trivial
 ·rename_i t y hx
  split
  ·rename_i u z hc hg
   intro hy
   obtain ⟨b,off,e,h1,h2,h3⟩:=a5j (t6 h hx) hy
   have e:a.eval x=.pointer (some ⟨b,off,none⟩):=by simpa using e
   have hok:=a1u hg
   obtain ⟨O1,O2,b',off',e1,e2,e3,e4,e5,e6⟩:=focus h3 h2 hok hg
   have hO:O1=[]∧O2=[]:=by have:=e1.nil_eq; simpa using this.symm
   rw [a0B hg] at e3; cases e3
   refine Y7 he (fun _=>by rw [e]; exact X1 (u7 hE hc) hg b off) ⟨b,off+J5 t n,rfl,h1,e5,?_⟩
   rw [hO.2] at e4; exact e4
  ·trivial
 ·trivial

theorem a7J (hE:t7 E B) (h:RS B S ι s a w) {o:Oper} {T:TypeId} {x y:Operand} (ho:o.op=.indexAddr T x y):a49 E.P S ι o a w s (l4 E o s):=by
 have he:execOp a.eval o=(do pure (.value (← Instr.indexAt T (a.eval x) (a.eval y)))):=by simp [execOp,ho]
 unfold l4
 rw [ho]
 simp only
 split
 ·rename_i d p k n hx hy
  split
  ·rename_i m u z hpt
   split
   ·rename_i hc
    intro hn
    obtain ⟨e,b,off,h1,h2,h3,h4⟩:=t6 h hx
    have hg:=C6 h1 hpt
    have h4:a.eval x=.pointer (some ⟨b,off,none⟩):=by simpa using h4
    obtain ⟨hyv,_⟩:=VX.C7 (t6 h hy)
    exact Y7 he (fun _=>by rw [h4,hyv]; exact X6 (u7 hE hc) b off hn) ⟨e,b,off+n.toNat*u.size,h1,P0 hg h2 ⟨hn,H5⟩,a0W hg h3 (fun G=>by simp only [s9,s8]),rfl⟩
   ·trivial
  ·trivial
 ·rename_i m t z k n hx hy
  split
  ·rename_i hc
   intro hn
   obtain ⟨b,off,e,h1,h2,h3⟩:=t6 h hx
   have e:a.eval x=.pointer (some ⟨b,off,none⟩):=by simpa using e
   obtain ⟨hyv,_⟩:=VX.C7 (t6 h hy)
   have hok:s6 (.arr m t) z [.idx n]:=⟨hn,by cases t<;>trivial⟩
   have hg:i6 (.arr m t) z [.idx n]=some ⟨t,List.getD z (Int.toNat n) t.n6⟩:=by simp only [i6]
   obtain ⟨O1,O2,b',off',e1,e2,e3,e4,e5,e6⟩:=focus h3 h2 hok hg
   have hO:O1=[]∧O2=[]:=by have:=e1.nil_eq; simpa using this.symm
   have e3':s9 w.heap (.arr m t) [.idx n] b off=some (b,off+Int.toNat n*t.size):=by simp only [s9]
   rw [e3'] at e3; cases e3
   refine Y7 he (fun _=>by rw [e,hyv]; exact X6 (u7 hE hc) b off hn) ⟨b,off+Int.toNat n*t.size,rfl,h1,e5,?_⟩
   rw [hO.2] at e4; exact e4
  ·trivial
 ·rename_i t z k n hx hy
  split
  ·rename_i hc
   intro hn
   obtain ⟨cs,e,hR⟩:=t6 h hx
   have e:a.eval x=j7 (.d0 false t) cs:=by simpa using e
   obtain ⟨hyv,_⟩:=VX.C7 (t6 h hy)
   rcases hR with ⟨_,_,hz⟩|⟨b1,o1,cap,O',c1,c2,c3,c4,c5,c6,c7,c8⟩
   ·subst hz; exact (a6W hn).elim
   ·have hxv:a.eval x=.slice (some ⟨b1,o1,none⟩) (List.length z) cap:=by rw [e,c1]; rfl
    obtain ⟨b1',b2,b3,b4⟩:=x5 (sz:=t.size) hn
    obtain ⟨P1,P2,P3,e1,g1,g2,g3⟩:=i5.split (d:=t.n6) (i:=Int.toNat n) b1' c5
    have hle:t.size≤List.length z*t.size - Int.toNat n*t.size:=by omega
    rw [l6,l5 _ _ _ _ hle] at g2
    have hP:P2=[]:=by rw [c7] at e1; have:=List.append_eq_nil_iff.1 e1.symm; exact (List.append_eq_nil_iff.1 this.2).1
    refine Y7 he (fun _=>by rw [hxv,hyv]; exact M6 (u7 hE hc) b1 o1 _ cap hn) ⟨b1,o1+Int.toNat n*t.size,rfl,c8,by omega,?_⟩
    rw [hP] at g2; exact g2
  ·trivial
 ·rename_i d p k n hx hy
  split
  ·rename_i u z hpt
   split
   ·rename_i hc
    intro hn
    obtain ⟨e,u',y',cs,h1,h2,h3,h4,h5⟩:=t6 h hx
    have hg:=C6 h1 hpt
    rw [h3] at hg; cases hg
    obtain ⟨hyv,_⟩:=VX.C7 (t6 h hy)
    have h5:a.eval x=j7 (.d0 true u) cs:=by simpa using h5
    obtain ⟨O2,m1,m2,m3⟩:=C4 h.hs h1 h2 h3 h4
    rcases m3 with ⟨_,_,hz⟩|⟨b1,o1,cap,O',rfl,c2,c3,c4,c5,c6,c7⟩
    ·subst hz; exact (a6W hn).elim
    ·have hxv:a.eval x=.slice (some ⟨b1,o1,none⟩) (List.length z) cap:=h5
     obtain ⟨b0,off0,q1,q2⟩:=h4
     have hh:=(H4 b0 off0 _).1 q2.symm
     refine Y7 he (fun _=>by rw [hxv,hyv]; exact M6 (u7 hE hc) b1 o1 _ cap hn) ⟨e,b1,o1+n.toNat*u.size,h1,P0 h3 h2 ⟨hn,H5⟩,M5 (V0 h3 q1 ?_) c7.free.lt,rfl⟩
     simp only [s9,hh,s8]
   ·trivial
  ·trivial
 ·rename_i d p lo hi k n hx hy
  split
  ·rename_i u l hvw
   split
   ·rename_i hc
    intro hn
    have hn1:@LE.le Int Int.instLEInt 0 n:=hn.1
    have hn2:@LT.lt Int Int.instLTInt n (hi - lo):=hn.2
    obtain ⟨A,c,k1,k2,k3,k4,k5,e,k6,k7,k8⟩:=a5m h.hs (t6 h hx) hvw
    obtain ⟨hyv,_⟩:=VX.C7 (t6 h hy)
    have hz:l≠[]:=by rintro rfl; have k3:((0:Nat):Int)=hi - lo:=k3; omega
    obtain ⟨b,off,rfl,k9⟩:=k8 hz
    obtain ⟨off2,q1,rfl,q3⟩:=k9 n hn.1 (by omega)
    exact Y7 he (fun _=>by rw [k1,hyv]; exact M6 (u7 hE hc) b off _ c (by omega)) ⟨e,b,_,k6,q3,q1,rfl⟩
   ·trivial
  ·trivial
 ·trivial

theorem a8S (_hE:t7 E B) (h:RS B S ι s a w) {o:Oper} {x:Operand} (ho:o.op=.nilCheck x):a49 E.P S ι o a w s (l4 E o s):=by
 unfold l4; rw [ho]
 simp only
 split
 ·rename_i i p hx
  obtain ⟨e,b,off,h1,h2,h3,h4⟩:=t6 h hx
  have h4:a.eval x=.pointer (some ⟨b,off,none⟩):=by simpa using h4
  exact ⟨rfl,.pointer (some ⟨b,off,none⟩),fun w'=>by simp only [execOp,ho,h4]; rfl,e,b,off,h1,h2,h3,rfl⟩
 ·rename_i t y hx
  obtain ⟨b,off,e,h1,h2,h3⟩:=t6 h hx
  have e:a.eval x=.pointer (some ⟨b,off,none⟩):=by simpa using e
  exact ⟨rfl,.pointer (some ⟨b,off,none⟩),fun w'=>by simp only [execOp,ho,e]; rfl,b,off,rfl,h1,h2,h3⟩
 ·rename_i t y hx
  intro hy
  obtain ⟨b,off,e,h1,h2,h3⟩:=a5j (t6 h hx) hy
  have e:a.eval x=.pointer (some ⟨b,off,none⟩):=by simpa using e
  exact ⟨rfl,.pointer (some ⟨b,off,none⟩),fun w'=>by simp only [execOp,ho,e]; rfl,b,off,rfl,h1,h2,h3⟩
 ·rename_i f t y hx
  intro hy
  have hv:=t6 h hx
  obtain ⟨p,e,-⟩:=a50 hv hy
  exact ⟨rfl,a.eval x,fun w'=>by simp only [execOp,ho,e]; rfl,hv⟩
 ·rename_i f l hx
  obtain ⟨us,e,h1⟩:=t6 h hx
  have e:a.eval x=.func (.func f) #[] us.toArray:=by simpa using e
  exact ⟨rfl,.func (.func f) #[] us.toArray,fun w'=>by simp only [execOp,ho,e]; rfl,us,rfl,h1⟩
 ·rename_i g b hx
  intro hb
  have hv:=a9T h hx
  have hb:b=true:=hb
  subst hb
  exact ⟨rfl,.func (.func g) #[] #[],fun w'=>by simp only [execOp,ho,hv]; rfl,[fnV g true],rfl,rfl,rfl⟩
 ·trivial

theorem a0A (hE:t7 E B) (h:RS B S ι s a w) {o:Oper} (ho:a3c o.op=true):a49 E.P S ι o a w s (l4 E o s):=by
 unfold a3c at ho
 split at ho
 ·rename_i e; exact a7O hE h e
 ·rename_i e; exact a7J hE h e
 ·rename_i e; exact a8S hE h e
 ·cases ho
end

section
variable {S:Nat→Prop} {H H':Array Go.Obj}

theorem sib {t:Ty} {O:List Nat} {b off:Nat} {x:t.den} (hR:d9 H S t O (d8 H b off t.size) x) (hb:off+t.size≤(o6 H b).length) (hc:d8 H' b off t.size=d8 H b off t.size) (hO:∀ c∈O,H'[c]?=H[c]?)
  {q:List Step} (ho:s6 t x q) {u:Ty} {y:u.den} (hg:i6 t x q=some ⟨u,y⟩) {b' off':Nat} (hn:s9 H t q b off=some (b',off')):s9 H' t q b off=some (b',off')∧d8 H' b' off' u.size=d8 H b' off' u.size :=
 ⟨(a08 hR hb ho hc hO).trans hn,a2p hR hb ho hc hO hg hn⟩

theorem b7a:∀ {t:Ty} {p:List Step} {b off:Nat} {O1:List Nat} {x:t.den},p9 H S t p b off O1 x→off+t.size≤(o6 H b).length→d8 H' b off t.size=d8 H b off t.size→(∀ c∈O1,H'[c]?=H[c]?) →
  ∀ {u0:Ty} {y0:u0.den},i6 t x p=some ⟨u0,y0⟩→∀ {b0 off0:Nat},s9 H t p b off=some (b0,off0) →
  (∀ {q:List Step},s6 u0 y0 q→∀ {u:Ty} {y:u.den},i6 u0 y0 q=some ⟨u,y⟩→∀ {b' off':Nat},s9 H u0 q b0 off0=some (b',off')→s9 H' u0 q b0 off0=some (b',off')∧d8 H' b' off' u.size=d8 H b' off' u.size) →
  ∀ {q:List Step},s6 t x q→∀ {u:Ty} {y:u.den},i6 t x q=some ⟨u,y⟩→∀ {b' off':Nat},s9 H t q b off=some (b',off')→s9 H' t q b off=some (b',off')∧d8 H' b' off' u.size=d8 H b' off' u.size:=by
 intro t
 have here:∀ {t:Ty} {x:t.den} {b off:Nat},d8 H' b off t.size=d8 H b off t.size→∀ {u:Ty} {y:u.den},i6 t x []=some ⟨u,y⟩→∀ {b' off':Nat},s9 H t [] b off=some (b',off')→s9 H' t [] b off=some (b',off')∧d8 H' b' off' u.size=d8 H b' off' u.size:=by
  intro t x b off hc u y hg b' off' hn
  rw [u5] at hg; cases hg
  rw [s8] at hn; cases hn
  exact ⟨s8 ..,hc⟩
 induction t with
 | pair a c iha ihc =>
  intro p b off O1 x hR hb hc hO u0 y0 hg0 b0 off0 hn0 hP q ho u y hg b' off' hn
  match p,hR,hg0,hn0 with
  | [],_,hg0,hn0 =>
   rw [u5] at hg0; cases hg0
   rw [s8] at hn0; cases hn0
   exact hP ho hg hn
  | .i9 0::p,⟨P1,P2,e,h1,h2⟩,hg0,hn0 =>
   subst e
   simp only [Ty.size] at hb hc
   match q,ho,hg,hn with
   | [],_,hg,hn=>exact here hc hg hn
   | .i9 0::q,ho,hg,hn=>exact iha h1 (by omega) (S5 hc (by omega) (by omega)) (fun c hc=>hO c (by simp [hc])) hg0 hn0 hP ho hg hn
   | .i9 (m+1)::q,ho,hg,hn=>exact sib h2 (by omega) (S5 hc (by omega) (by omega)) (fun c hc=>hO c (by simp [hc])) (q:=.i9 m::q) ho hg hn
   | .idx i::q,ho,_,_=>simp [s6] at ho
  | .i9 (n+1)::p,⟨P1,P2,e,h1,h2⟩,hg0,hn0 =>
   subst e
   simp only [Ty.size] at hb hc
   match q,ho,hg,hn with
   | [],_,hg,hn=>exact here hc hg hn
   | .i9 0::q,ho,hg,hn=>exact sib h1 (by omega) (S5 hc (by omega) (by omega)) (fun c hc=>hO c (by simp [hc])) (q:=q) ho hg hn
   | .i9 (m+1)::q,ho,hg,hn=>exact ihc h2 (by omega) (S5 hc (by omega) (by omega)) (fun c hc=>hO c (by simp [hc])) hg0 hn0 hP (q:=.i9 m::q) ho hg hn
   | .idx i::q,ho,_,_=>simp [s6] at ho
  | .idx i::p,hR,_,_=>simp [p9] at hR
 | arr n t ih =>
  intro p b off O1 x hR hb hc hO u0 y0 hg0 b0 off0 hn0 hP q ho u y hg b' off' hn
  match p,hR,hg0,hn0 with
  | [],_,hg0,hn0 =>
   rw [u5] at hg0; cases hg0
   rw [s8] at hn0; cases hn0
   exact hP ho hg hn
  | .i9 i::p,hR,_,_=>simp [p9] at hR
  | .idx i::p,⟨hl,hi,P1,P2,P3,e,h1,h2,h3⟩,hg0,hn0 =>
   subst e
   obtain ⟨b1,b2,b3,b4⟩:=x5 (sz:=t.size) hi
   simp only [Ty.size] at hb hc
   match q,ho,hg,hn with
   | [],_,hg,hn=>exact here hc hg hn
   | .i9 j::q,ho,_,_=>simp [s6] at ho
   | .idx j::q,⟨hj,ho⟩,hg,hn =>
    obtain ⟨d1,d2,d3,d4⟩:=x5 (sz:=t.size) hj
    simp only [s9] at hn ⊢
    simp only [i6] at hg
    have hcj:d8 H' b (off+j.toNat*t.size) t.size=d8 H b (off+j.toNat*t.size) t.size:=S5 hc (by omega) (by omega)
    by_cases hij:i.toNat=j.toNat
    ·rw [← hij] at ho hg hn hcj ⊢
     exact ih h2 (by omega) hcj (fun c hc=>hO c (by simp [hc])) hg0 hn0 hP ho hg hn
    ·rcases Nat.lt_or_gt_of_ne hij with hlt|hgt
     ·have hd:j.toNat - (i.toNat+1)<(List.drop (i.toNat+1) x).length:=by simp only [List.length_drop]; omega
      obtain ⟨Q1,Q2,Q3,e,k1,k2,k3⟩:=i5.split (d:=t.n6) hd h3
      have e1:(i.toNat+1)*t.size+(j.toNat - (i.toNat+1))*t.size=j.toNat*t.size:=by rw [← Nat.add_mul]; congr 1; omega
      have hm:(j.toNat - (i.toNat+1))*t.size+t.size≤(n - (i.toNat+1))*t.size:=by omega
      rw [l6,l5 _ _ _ _ (by omega),Nat.add_assoc,e1] at k2
      have e2:(List.drop (i.toNat+1) x).getD (j.toNat - (i.toNat+1)) t.n6=List.getD x j.toNat t.n6:=by
       simp only [List.getD_eq_getElem?_getD,List.getElem?_drop]
       rw [show i.toNat+1+(j.toNat - (i.toNat+1))=j.toNat from by omega]
      rw [e2] at k2
      exact sib k2 (by omega) hcj (fun d hd=>hO d (by rw [e]; simp [hd])) ho hg hn
     ·have hd:j.toNat<(List.take i.toNat x).length:=by simp only [List.length_take]; omega
      obtain ⟨Q1,Q2,Q3,e,k1,k2,k3⟩:=i5.split (d:=t.n6) hd h1
      have hm:j.toNat*t.size+t.size≤i.toNat*t.size:=by
       rw [← Nat.succ_mul]; exact Nat.mul_le_mul_right _ (by omega)
      rw [l6,l5 _ _ _ _ (by omega)] at k2
      have e2:(List.take i.toNat x).getD j.toNat t.n6=List.getD x j.toNat t.n6:=by
       simp only [List.getD_eq_getElem?_getD,List.getElem?_take]
       rw [if_pos (by omega)]
      rw [e2] at k2
      exact sib k2 (by omega) hcj (fun d hd=>hO d (by rw [e]; simp [hd])) ho hg hn
 | d0 o t ih =>
  intro p b off O1 x hR hb hc hO u0 y0 hg0 b0 off0 hn0 hP q ho u y hg b' off' hn
  match p,hR,hg0,hn0 with
  | [],_,hg0,hn0 =>
   rw [u5] at hg0; cases hg0
   rw [s8] at hn0; cases hn0
   exact hP ho hg hn
  | .i9 i::p,hR,_,_=>cases o<;>simp [p9] at hR
  | .idx i::p,hR,hg0,hn0 =>
   cases o with
   | false=>simp [p9] at hR
   | true =>
    obtain ⟨hi,c1,o1,cap,P1,P2,P3,e,e1,e2,e3,e4,e5,e6,e7⟩:=hR
    subst e
    obtain ⟨b1,b2,b3,b4⟩:=x5 (sz:=t.size) hi
    have hcap:List.length x*t.size≤cap*t.size:=Nat.mul_le_mul_right _ e2
    have hfb:=e4.free.o6
    simp only [Ty.size] at hb hc
    match q,ho,hg,hn with
    | [],_,hg,hn=>exact here (t:=.d0 true t) hc hg hn
    | .i9 j::q,ho,_,_=>simp [s6] at ho
    | .idx j::q,⟨hj,ho⟩,hg,hn =>
     obtain ⟨d1,d2,d3,d4⟩:=x5 (sz:=t.size) hj
     have hhd:(o6 H' b)[off]?=some (.slice (some ⟨c1,o1,none⟩) (List.length x) cap):=by
      rw [b0k hc (j:=off) (by omega) (by omega)]; exact e1
     simp only [s9,e1] at hn hn0
     simp only [s9,hhd]
     simp only [i6] at hg
     have hcj:d8 H' c1 (o1+j.toNat*t.size) t.size=d8 H c1 (o1+j.toNat*t.size) t.size:=j6 (hO c1 (by simp)) _ _
     by_cases hij:i.toNat=j.toNat
     ·rw [← hij] at ho hg hn hcj ⊢
      exact ih e6 (by omega) hcj (fun c hc=>hO c (by simp [hc])) hg0 hn0 hP ho hg hn
     ·rcases Nat.lt_or_gt_of_ne hij with hlt|hgt
      ·have hd:j.toNat - (i.toNat+1)<(List.drop (i.toNat+1) x).length:=by simp only [List.length_drop]; omega
       obtain ⟨Q1,Q2,Q3,e,k1,k2,k3⟩:=i5.split (d:=t.n6) hd e7
       have f1:(i.toNat+1)*t.size+(j.toNat - (i.toNat+1))*t.size=j.toNat*t.size:=by rw [← Nat.add_mul]; congr 1; omega
       have hm:(j.toNat - (i.toNat+1))*t.size+t.size≤(List.length x - (i.toNat+1))*t.size:=by omega
       rw [l6,l5 _ _ _ _ (by omega),Nat.add_assoc,f1] at k2
       have f2:(List.drop (i.toNat+1) x).getD (j.toNat - (i.toNat+1)) t.n6=List.getD x j.toNat t.n6:=by
        simp only [List.getD_eq_getElem?_getD,List.getElem?_drop]
        rw [show i.toNat+1+(j.toNat - (i.toNat+1))=j.toNat from by omega]
       rw [f2] at k2
       exact sib k2 (by omega) hcj (fun d hd=>hO d (by rw [e]; simp [hd])) ho hg hn
      ·have hd:j.toNat<(List.take i.toNat x).length:=by simp only [List.length_take]; omega
       obtain ⟨Q1,Q2,Q3,e,k1,k2,k3⟩:=i5.split (d:=t.n6) hd e5
       have hm:j.toNat*t.size+t.size≤i.toNat*t.size:=by
        rw [← Nat.succ_mul]; exact Nat.mul_le_mul_right _ (by omega)
       rw [l6,l5 _ _ _ _ (by omega)] at k2
       have f2:(List.take i.toNat x).getD j.toNat t.n6=List.getD x j.toNat t.n6:=by
        simp only [List.getD_eq_getElem?_getD,List.getElem?_take]
        rw [if_pos (by omega)]
       rw [f2] at k2
       exact sib k2 (by omega) hcj (fun d hd=>hO d (by rw [e]; simp [hd])) ho hg hn
 | _ =>
  intro p b off O1 x hR hb hc hO u0 y0 hg0 b0 off0 hn0 hP q ho u y hg b' off' hn
  match p,hR,hg0,hn0 with
  | [],_,hg0,hn0 =>
   rw [u5] at hg0; cases hg0
   rw [s8] at hn0; cases hn0
   exact hP ho hg hn
  | .idx i::p,hR,_,_=>simp [p9] at hR
  | .i9 i::p,hR,_,_=>simp [p9] at hR

theorem b2K {t0:Ty} {l:List t0.den} {b off b1 o1 cap n:Nat} {Op:List Nat} (hR:d9 H S (.d0 true t0) Op (d8 H b off 1) l) (hOp:∀ c∈Op,c<H.size) (hnd:Op.Nodup) (hb:b<H.size) (hbO:b∉Op)
  (hh:d8 H b off 1=[.slice (some ⟨b1,o1,none⟩) l.length cap]) (h1:1≤cap) (hc:N8 H H' b1 (o1+l.length*t0.size) n) :
  ∀ {q:List Step},s6 (.d0 true t0) l q→∀ {u:Ty} {y:u.den},i6 (.d0 true t0) l q=some ⟨u,y⟩→∀ {b' off':Nat},s9 H (.d0 true t0) q b off=some (b',off')→s9 H' (.d0 true t0) q b off=some (b',off')∧d8 H' b' off' u.size=d8 H b' off' u.size:=by
 intro q ho u y hg b' off' hn
 rcases hR with ⟨_,⟨A,c,e,hc0⟩,_⟩|⟨b2,o2,cap2,O',c1,c2,c3,c4,c5,rfl,c7⟩
 ·rw [hh] at e
  simp only [List.cons.injEq,Value.slice.injEq,and_true] at e
  have:=hc0 rfl; omega
 ·rw [hh] at c1
  simp only [List.cons.injEq,Value.slice.injEq,Option.some.injEq,Addr.mk.injEq,and_true] at c1
  obtain ⟨⟨rfl,rfl⟩,-,rfl⟩:=c1
  have hne:b≠b1:=fun e=>hbO (by simp [e])
  have hcb:d8 H' b off 1=d8 H b off 1:=hc.cells hb (fun e=>absurd e hne)
  match q,ho,hg,hn with
  | [],_,hg,hn =>
   rw [u5] at hg; cases hg
   rw [s8] at hn; cases hn
   exact ⟨s8 ..,hcb⟩
  | .i9 j::q,ho,_,_=>simp [s6] at ho
  | .idx j::q,⟨hj,ho⟩,hg,hn =>
   obtain ⟨d1,d2,d3,d4⟩:=x5 (sz:=t0.size) hj
   have hhd:=(H4 b off _).1 hh
   have hhd':=(H4 b off _).1 (hcb.trans hh)
   simp only [s9,hhd] at hn
   simp only [s9,hhd']
   simp only [i6] at hg
   obtain ⟨P1,P2,P3,e,g1,g2,g3⟩:=i5.split (d:=t0.n6) d1 c5
   subst e
   rw [l6,l5 _ _ _ _ (by omega)] at g2
   have hcap:=c7.free.o6
   have hcm:List.length l*t0.size≤cap*t0.size:=Nat.mul_le_mul_right _ c2
   refine sib g2 (by omega) (hc.cells (hOp b1 (by simp)) (fun _=>.inl (by omega))) (fun d hd=>hc.rest d ?_ (hOp d (by simp [hd]))) ho hg hn
   rintro rfl
   exact (List.nodup_cons.1 hnd).1 (by simp [hd])
end

section
variable {E:Env} {B:y9} {S:Nat→Prop} {ι:Ix} {s:St} {a:Act} {w:World}

theorem RS.spare (h:RS B S ι s a w) {i:Nat} {e:f9} (he:look i s.hp=some e) (_hnb:e≠.E8) {w':World} (k:w8 (i8 ι i e) w w') (hob:OB w'.heap S ι i e) (hsz:w'.heap.size=w.heap.size)
  (hnav:∀ {q:List Step},s6 e.ty e.x q→∀ {u:Ty} {y:u.den},i6 e.ty e.x q=some ⟨u,y⟩→∀ {b off:Nat},Place w.heap ι i e q=some (b,off)→Place w'.heap ι i e q=some (b,off)∧d8 (VH w'.heap ι i e) b off u.size=d8 (VH w.heap ι i e) b off u.size) :
  RS B S ι s a w':=by
 have hold:∀ {b:Nat},((∃ j ej,j≠i∧look j s.hp=some ej∧b∈i8 ι j ej)∨S b)→w'.heap[b]?=w.heap[b]?:=by
  intro b hb
  refine k.frame b (hb.elim (fun ⟨j,ej,_,h1,h2⟩=>(h.hs.bl j ej h1 b h2).2.2) (h.hs.slt b)) (fun hbL=>?_)
  rcases hb with ⟨j,ej,h0,h1,h2⟩|hb
  ·exact h.hs.dj i j e ej he h1 (Ne.symm h0) b hbL h2
  ·exact (h.hs.bl i e he b hbL).1 hb
 have hHS:HS B S ι s.hp w':=by
  refine ⟨k.os.trans h.hs.os,k.tape.trans h.hs.tape,k.out.trans h.hs.out,by rw [hsz]; exact h.hs.size,?_,fun b hb=>by rw [hsz]; exact h.hs.slt b hb,h.hs.s0,h.hs.s1,?_,fun j ej hj c hc=>?_,h.hs.dj,h.hs.pin⟩
  ·intro c hc hm
   rw [k.frame c (Nat.lt_of_lt_of_le hc h.hs.size) (fun hcL=>by rcases (h.hs.bl i e he c hcL).2.1 with h1|h1; omega; exact hm h1)]
   exact h.hs.frame c hc hm
  ·intro j ej hj
   by_cases e1:j=i
   ·subst e1; rw [he] at hj; cases hj; exact hob
   ·exact (h.hs.ob j ej hj).o4 (fun b hb=>hold (hb.imp (fun hb=>⟨j,ej,e1,hj,hb⟩) id)) (fun _ h=>h)
  ·rw [hsz]; exact h.hs.bl j ej hj c hc
 have hloc:∀ {j:Nat} {ej:f9},look j s.hp=some ej→∀ {q:List Step},s6 ej.ty ej.x q→∀ {r:Nat×Nat},Loc w.heap ι j ej q=some r→Loc w'.heap ι j ej q=some r:=by
  intro j ej hj q hok r hl
  by_cases e1:j=i
  ·subst e1; rw [he] at hj; cases hj
   obtain ⟨u,y,hg⟩:=a4H hok
   obtain ⟨g1,g2⟩:=r9 (b:=r.1) (off:=r.2) hl
   exact M5 (hnav hok hg g1).1 (by rw [hsz]; exact g2)
  ·exact a1T (E6 hl) (h.hs.ob j ej hj) h.hs.slt (fun b hb=>hold (.inl ⟨j,ej,e1,hj,hb⟩)) hok hl
 have hcel:∀ {j:Nat} {ej:f9},look j s.hp=some ej→∀ {q:List Step},s6 ej.ty ej.x q→∀ {u:Ty} {y:u.den},i6 ej.ty ej.x q=some ⟨u,y⟩→∀ {cs:List Value},Cells w.heap ι j ej q u cs→Cells w'.heap ι j ej q u cs:=by
  intro j ej hj q hok u y hg cs hc
  by_cases e1:j=i
  ·subst e1; rw [he] at hj; cases hj
   obtain ⟨b0,o0,g1,g2⟩:=hc
   obtain ⟨m1,m2⟩:=hnav hok hg g1
   exact ⟨b0,o0,m1,g2.trans m2.symm⟩
  ·exact a2w (a1z hc) (h.hs.ob j ej hj) h.hs.slt (fun b hb=>hold (.inl ⟨j,ej,e1,hj,hb⟩)) hok hg hc
 refine ⟨hHS,h.W7,h.sz,fun t v hv=>?_⟩
 have:=VX.map (H':=w'.heap) (S':=S) (ι':=ι) (hp':=s.hp) (f:=fun u=>u) (fun b hb=>hold (.inr hb)) (fun _ h=>h) ?_ (h.fr t v hv)
 ·rwa [AV.map_id] at this
 ·intro u vs hu _ h
  cases u<;>simp only [AV.ref] at hu<;>try cases hu
  ·obtain ⟨e',b,off,h1,h2,h3,h4⟩:=h
   exact ⟨e',b,off,h1,h2,hloc h1 h2 h3,h4⟩
  ·obtain ⟨e',u,y,cs,h1,h2,h3,h4,h5⟩:=h
   exact ⟨e',u,y,cs,h1,h2,h3,hcel h1 h2 h3 h4,h5⟩
  ·obtain ⟨e',v',h1,h2,h3,h4,h5,h6⟩:=h
   refine ⟨e',v',h1,h2,h3,h4,h5,?_⟩
   rcases h6 with ⟨t,l,a,cap,k1,k2,k3,k4⟩|⟨n,t,l,b,off,k1,k2,k3,k4⟩
   ·exact .inl ⟨t,l,a,cap,k1,k2,hcel h1 h2 k1 k3,k4⟩
   ·exact .inr ⟨n,t,l,b,off,k1,k2,hloc h1 h2 k3,k4⟩

def a6x (B:y9) (S:Nat→Prop) (ι:Ix) (hp:List (Nat×f9)) (g:List Nat) (i:Nat) (e:f9) (p:List Step) (t0:Ty) (l m:List t0.den) (b off:Nat) (v':Value) (w:World):Prop :=
 ∃ O',Loc w.heap ι i e p=some (b,off)∧d9 w.heap S (.d0 true t0) O' [v'] (l++m)∧O'.Nodup∧b∉O' ∧
  ∀ c∈O',(¬ S c∧(B.w0.heap.size≤c∨B.M c)∧c<w.heap.size)∧(∀ j ej,j≠i→j∉g→look j hp=some ej→c∉i8 ι j ej) ∧
   (c∈i8 ι i e→∃ Op,d9 w.heap S (.d0 true t0) Op (d8 w.heap b off 1) l∧c∈Op)

theorem a5U (hE:t7 E B) (h:RS B S ι s a w) {o:Oper} {c:Call} (ho:o.op=.call c) (hc:c.callee=.builtin .append) {x y:Operand} {T U:TypeId} (ha:c.args.toList=[x,y]) (hTs:c.argTypes.toList=[T,U])
  (hk:(∃ e',E.P.underlying U=some (.slice e'))∨E.P.underlying U=some .string) {q:Bool} {t0:Ty} {bts:Nat} (hT:look T E.tt=some ⟨.d0 q t0,bts⟩) {i:Nat} {p:List Step} (hx:s.ev x=.at_ i p)
  {e:f9} (he:look i s.hp=some e) (hkd:(∃ t x,e=.var t x)∨∃ t x j q,e=.own (.d0 true t) x∧p=.idx j::q) {l:List t0.den} (hg:i6 e.ty e.x p=some ⟨.d0 true t0,l⟩)
  {b off:Nat} (hl:Loc w.heap ι i e p=some (b,off)) {m:List t0.den} {g:List Nat} (happ:(s.ev y).T6 s t0=some (⟨t0,m⟩,g)) (hgi:i∉g) (_hgn:g.Nodup)
  (h63:l.length+m.length≤140737488355328) (hby:(l.length+m.length)*t0.wb≤140737488355328) :
  ∃ v' w',(execOp a.eval o).run E.P w=.ok (.value v') w'∧RS B S ι s a w'∧s6 e.ty e.x p∧a6x B S ι s.hp g i e p t0 l m b off v' w':=by
 have hnb:e≠.E8:=E6 hl
 obtain ⟨Og,news,k1,k2,k3,k4⟩:=a2r (P:=E.P) h hk happ (h.ev y)
 obtain ⟨e2,u,y2,cs,r1,hok,r3,r4,r5⟩:=t6 h hx
 rw [he] at r1; cases r1
 rw [hg] at r3; cases r3
 obtain ⟨Op,m1,mn,m2,m3,m4,m5⟩:=F3 hnb (h.hs.ob i e he) h.hs.slt hok hg hl
 have hbOp:=(h.hs.ob i e he).V3 hnb h.hs.slt hok hg hl m2
 obtain ⟨hpl,hbl2⟩:=r9 hl
 have hcs:cs=d8 w.heap b off 1:=by
  obtain ⟨b0,off0,q1,q2⟩:=r4
  rw [hpl] at q1; cases q1
  rw [j6 (B7 hbl2)] at q2
  exact q2
 have hv1:d8 w.heap b off 1=[a.eval x]:=by
  have hln:(d8 w.heap b off 1).length=1:=m2.length
  have r5':a.eval x=j7 (.d0 true t0) cs:=by simpa using r5
  rw [r5',hcs]
  match hcc:d8 w.heap b off 1,hln with
  | [z],_=>rfl
 have m2':d9 w.heap S (.d0 true t0) Op [a.eval x] l:=by rw [← hv1]; exact m2
 have hty:n7 E.P 100 T (.d0 true t0)=true:=a1Y (t:=.d0 q t0) (u:=.d0 true t0) rfl (w7 hE hT)
 have hOpb:∀ c∈Op,c∈i8 ι i e:=fun c hc=>B4 (m1 c hc)
 have hnd:(Op++Og).Nodup:=List.nodup_append.2 ⟨mn,k3,by
  rintro c h1 c' h2 rfl
  obtain ⟨j,e',j1,j2,j3⟩:=k4 c h2
  exact h.hs.dj i j e e' he j2 (by rintro rfl; exact hgi j1) c (hOpb c h1) j3⟩
 have hOg:∀ c∈Og,¬ S c∧(B.w0.heap.size≤c∨B.M c)∧c<w.heap.size:=fun c hc=>by
  obtain ⟨j,e',_,j2,j3⟩:=k4 c hc
  exact h.hs.bl j e' j2 c j3
 have hOpS:=fun c hc=>h.hs.bl i e he c (hOpb c hc)
 obtain ⟨v',w',O',q1,q2,q3,q4,q5,q6,q7⟩:=a7k hty o.type h.hs.slt m2' k1 k2 hnd (fun c hc=>(List.mem_append.1 hc).elim (fun h=>⟨(hOpS c h).1,(hOpS c h).2.2⟩) (fun h=>⟨(hOg c h).1,(hOg c h).2.2⟩)) h63 hby
 have hargs:c.args=#[x,y]:=by rw [← ha]
 have hts:c.argTypes=#[T,U]:=by rw [← hTs]
 have hrun:(execOp a.eval o).run E.P w=.ok (.value v') w':=by
  simp [execOp,ho,resolve,hc,invoke,builtin,hargs,hts,q1]
 have hbl':∀ c∈i8 ι i e,¬ S c∧c<w.heap.size:=fun c hc=>⟨(h.hs.bl i e he c hc).1,(h.hs.bl i e he c hc).2.2⟩
 have hcell:d8 w'.heap b off 1=[a.eval x]:=by rw [j6 (q4.frame b hbl2 hbOp)]; exact hv1
 obtain ⟨n2,n3⟩:=OB.same (H':=w'.heap) (h.hs.ob i e he) hbl' h.hs.slt hkd hok hg hl q4.size m2 (fun c hc hn=>q4.frame c hc hn) (by
  show d9 w'.heap S (.d0 true t0) Op (d8 w'.heap b off 1) l
  rw [hcell]; exact q6)
 have hRS:RS B S ι s a w':=by
  rcases q7 with q7|⟨b1,o1,cap,n,f1,f2,f3,f4,f5⟩
  ·exact h.J4 x4.nil q7
  ·have hb1:b1∈Op:=by
    rcases m2' with ⟨_,⟨A,c,e0,hc0⟩,_⟩|⟨b2,o2,cap2,O2,c1,_,_,_,_,rfl,_⟩
    ·rw [f1] at e0
     simp only [List.cons.injEq,Value.slice.injEq,and_true] at e0
     have:=hc0 rfl; omega
    ·rw [f1] at c1
     simp only [List.cons.injEq,Value.slice.injEq,Option.some.injEq,Addr.mk.injEq,and_true] at c1
     rw [c1.1.1]; simp
   refine h.spare he hnb (q4.mono hOpb) n2 f5 ?_
   -- the object's own pointers
   obtain ⟨O,hO,hR,hbb,hnd0,hlt0,hns,hfr⟩:=(h.hs.ob i e he).see hnb h.hs.slt
   obtain ⟨O1,O3,b',off',g1,g2,g3,g4,g5,g6⟩:=focus hR hbb hok hg
   have hpl':=hpl
   rw [C3 hnb,g3] at hpl'; cases hpl'
   have g4':d9 w.heap S (.d0 true t0) O3 (d8 w.heap b off 1) l:=by
    have g4:d9 (VH w.heap ι i e) S (.d0 true t0) O3 (d8 (VH w.heap ι i e) b off 1) l:=g4
    rw [j6 (B7 hbl2)] at g4
    exact (U9 (fun c hc=>(h.hs.ob i e he).I9 hnb (hO.mem_iff.1 (g1.mem_iff.2 (by simp [hc])))) h.hs.slt).1 g4
   obtain rfl:Op=O3:=m2.det g4'
   have hndO:(O1++Op).Nodup:=(g1.nodup_iff).1 ((hO.nodup_iff).2 (List.nodup_cons.1 hnd0).2)
   have hb1lt:b1<w.heap.size:=(hbl' b1 (hOpb b1 hb1)).2
   have hroot:b1≠(VR w.heap ι i e).1:=by
    rintro rfl
    exact (List.nodup_cons.1 hnd0).1 (hO.mem_iff.1 (g1.mem_iff.2 (by simp [hb1])))
   have hVsz:(VR w'.heap ι i e)=(VR w.heap ι i e):=by cases e<;>simp [VR,f5]
   have hV:∀ c,c≠b1→(VH w'.heap ι i e)[c]?=(VH w.heap ι i e)[c]?:=by
    intro c hcb
    have hr:∀ c,c≠b1→w'.heap[c]?=w.heap[c]?:=by
     intro c hcb
     rcases Nat.lt_or_ge c w.heap.size with h1|h1
     ·exact f4.rest c hcb h1
     ·rw [Array.getElem?_eq_none h1,Array.getElem?_eq_none (by omega)]
    cases e with
    | own t x =>
     simp only [VH,gh]
     rw [Array.getElem?_push,Array.getElem?_push,f5]
     split
     ·rfl
     ·exact hr c hcb
    | _=>exact hr c hcb
   have hVc:N8 (VH w.heap ι i e) (VH w'.heap ι i e) b1 (o1+l.length*t0.size) n:=by
    obtain ⟨arr,arr',T',⟨fz,⟨z1,z2⟩,z3⟩,z4,z5⟩:=f4.at_
    exact ⟨⟨arr,arr',T',⟨fz,⟨(B7 hb1lt).trans z1,z2⟩,(B7 (by omega)).trans z3⟩,z4,z5⟩,fun c hcb _=>hV c hcb⟩
   intro q' hok' u' y' hg' b' o' hp'
   rw [C3 hnb] at hp' ⊢
   rw [hVsz]
   have hbV:b<(VH w.heap ι i e).size:=Nat.lt_of_lt_of_le hbl2 a1m
   refine b7a g2 hbb (j6 (hV _ (Ne.symm hroot)) _ _) (fun c hc=>hV c ?_) hg g3 ?_ hok' hg' hp'
   ·rintro rfl
    exact (List.nodup_append.1 hndO).2.2 c hc c hb1 rfl
   ·have hcv:d8 (VH w.heap ι i e) b off 1=[.slice (some ⟨b1,o1,none⟩) l.length cap]:=by
     rw [j6 (B7 hbl2),hv1,f1]
    intro q2 hq2 u2 y2 hgq b2 off2 hn2
    exact b2K (H':=VH w'.heap ι i e) g4 (fun c hc=>Nat.lt_of_lt_of_le (hbl' c (hOpb c hc)).2 a1m) mn hbV hbOp hcv f3 hVc hq2 hgq hn2
 refine ⟨v',w',hrun,hRS,hok,O',n3,q2,q3,?_,?_⟩
 ·intro hb
  rcases (q5 b hb).1 with h1|h1
  ·omega
  ·rcases List.mem_append.1 h1 with h1|h1
   ·exact hbOp h1
   ·obtain ⟨j,e',j1,j2,j3⟩:=k4 b h1
    exact h.hs.dj i j e e' he j2 (by rintro rfl; exact hgi j1) b m4 j3
 ·intro c hc
  obtain ⟨f1,f2⟩:=q5 c hc
  have fact:(¬ S c∧(B.w0.heap.size≤c∨B.M c)∧c<w'.heap.size)∧(∀ j ej,j≠i→j∉g→look j s.hp=some ej→c∉i8 ι j ej)∧(c∈i8 ι i e→c∈Op):=by
   rcases f1 with f1|f1
   ·exact ⟨⟨fun hs=>by have:=h.hs.slt c hs; omega,.inl (Nat.le_trans h.hs.size f1),f2⟩,fun j ej _ _ hj hcb=>by have:=(h.hs.bl j ej hj c hcb).2.2; omega,fun hcb=>by have:=(hbl' c hcb).2; omega⟩
   ·rcases List.mem_append.1 f1 with f1|f1
    ·have:=hOpS c f1
     exact ⟨⟨this.1,this.2.1,f2⟩,fun j ej hj _ hlj=>h.hs.dj i j e ej he hlj (Ne.symm hj) c (hOpb c f1),fun _=>f1⟩
    ·have:=hOg c f1
     obtain ⟨j0,e0,j1,j2,j3⟩:=k4 c f1
     exact ⟨⟨this.1,this.2.1,f2⟩,fun j ej _ hjg hlj=>h.hs.dj j0 j e0 ej j2 hlj (by rintro rfl; exact hjg j1) c j3,fun hcb=>absurd hcb (h.hs.dj j0 i e0 e j2 he (by rintro rfl; exact hgi j1) c j3)⟩
  exact ⟨fact.1,fact.2.1,fun hcb=>⟨Op,by rw [hcell]; exact q6,fact.2.2 hcb⟩⟩

theorem Y4 {e:f9} {p:List Step} {r:Sigma Ty.den} (h:a3w e p r=true):a5g e e∧((∃ t x,e=.var t x)∨∃ t x j q,e=.own (.d0 true t) x∧p=.idx j::q):=by
 unfold a3w at h
 split at h
 ·exact ⟨.inl ⟨_,_,_,rfl,rfl⟩,.inl ⟨_,_,rfl⟩⟩
 ·split at h
  ·exact ⟨.inr (.inl ⟨_,_,_,rfl,rfl⟩),.inr ⟨_,_,_,_,rfl,rfl⟩⟩
  ·cases h
 ·cases h

theorem S7 {a:Act} {t d:Nat} {v:Value} (h:t≠d):(a.put (some d) v).eval (.tmp t)=a.eval (.tmp t):=by
 show (a.tmps.setIfInBounds d v).getD t undef=a.tmps.getD t undef
 simp only [Array.getD_eq_getD_getElem?,Array.getElem?_setIfInBounds,if_neg (Ne.symm h)]
theorem a4Y {a:Act} {d:Nat} {v:Value} (h:d<a.tmps.size):(a.put (some d) v).eval (.tmp d)=v:=by
 show (a.tmps.setIfInBounds d v).getD d undef=v
 simp only [Array.getD_eq_getD_getElem?,Array.getElem?_setIfInBounds,if_pos h]; rfl

theorem a6R (hE:t7 E B) (h:RS B S ι s a w) {g:List Nat} (hgp:(g.all fun i=>!pinned i)=true) {i:Nat} (hgi:i∉g) {e:f9} (he:look i s.hp=some e) {p:List Step} (hok:s6 e.ty e.x p) {t0:Ty} {l m:List t0.den} (hg:i6 e.ty e.x p=some ⟨.d0 true t0,l⟩) {b off:Nat} {v':Value}
  (hP:a6x B S ι s.hp g i e p t0 l m b off v' w) {o:Oper} {T:TypeId} {ad:Operand} {d:Nat} (ho:o.op=.store T ad (.tmp d)) (had:a.eval ad=.pointer (some ⟨b,off,none⟩)) (hv:a.eval (.tmp d)=v') (hck:D7 E T (.d0 true t0)=true)
  {r:Sigma Ty.den} (hset:m0 e.ty e.x p (.d0 true t0) (l++m)=some r):s7 E.P B o a w (.raw undef) (((St.p7 g s).kill i e.kd p).o7 i (e.w4 r)):=by
 obtain ⟨O',hl,k5,k6,k7,k8⟩:=hP
 have hd:=h.p7 (g:=g) hgp
 have hl1:look i (St.p7 g s).hp=some e:=by rw [F6,if_neg hgi]; exact he
 refine a0u hE hd ho (i:=i) (e:=e) hl1 hok hl had hg hck (u':=.d0 true _) (O2:=O') (cs:=[v']) k5 k6 (by rw [hv]; rfl) hset (fun c hc=>?_) k7
 obtain ⟨f1,f2,f3⟩:=k8 c hc
 refine ⟨f1,fun j ej hj hlj=>?_,f3⟩
 rw [F6] at hlj
 split at hlj
 ·cases hlj
 ·rename_i hjg; exact f2 j ej hj hjg hlj

theorem b47 (hE:t7 E B) (h:RS B S ι s a w) {o:Oper} {c:Call} (ho:o.op=.call c) (hc:c.callee=.builtin .append) {x y:Operand} {T U:TypeId} (ha:c.args.toList=[x,y]) (hTs:c.argTypes.toList=[T,U])
  {o2:Oper} {T2:TypeId} {adv:AV} {ad:Operand} {d:Nat} (_ho2:o2.op=.store T2 ad (.tmp d)) {p:Prop} {s2:St} (hb:a40 E T U T2 (s.ev x) (s.ev y) adv d s=some (p,s2)) (hp:p) :
  ∃ i p0 e t0 l m g r v' w',s.ev x=.at_ i p0∧adv=.ptr i p0∧look i s.hp=some e∧i∉g∧(g.all fun i=>!pinned i)=true∧i6 e.ty e.x p0=some ⟨.d0 true t0,l⟩∧D7 E T2 (.d0 true t0)=true ∧
   m0 e.ty e.x p0 (.d0 true t0) (l++m)=some r∧s2=(((St.p7 g (s.put (some d) .any)).kill i e.kd p0).o7 i (e.w4 r)) ∧
   (execOp a.eval o).run E.P w=.ok (.value v') w'∧RS B S ι s a w'∧s6 e.ty e.x p0∧∀ b off,Loc w.heap ι i e p0=some (b,off)→a6x B S ι s.hp g i e p0 t0 l m b off v' w':=by
 unfold a40 at hb
 split at hb
 ·rename_i i p0 j q q1 t0 bts u1 bts1 hx hT hU
  split at hb
  ·rename_i e hob hku
   simp only [Bool.and_eq_true] at hku
   obtain ⟨hij,hku⟩:=hku
   have hij:=Nat.eq_of_beq_eq_true hij
   subst hij
   split at hb
   ·rename_i u l hg
    split at hb
    ·rename_i t m g happ
     split at hb
     ·rename_i hu
      split at hb
      ·rename_i ht
       subst hu; subst ht
       split at hb
       ·rename_i r hset
        split at hb
        ·rename_i hck
         cases hb
         simp only [Bool.and_eq_true,Bool.not_eq_true'] at hck
         obtain ⟨⟨⟨⟨hck,hst⟩,hgi⟩,hgn⟩,hgp⟩:=hck
         obtain ⟨rfl,h63,hby⟩:=hp
         obtain ⟨_,hkd⟩:=Y4 hst
         have hgi:i∉g:=by intro hm; simp [hm] at hgi
         have hk:(∃ e',E.P.underlying U=some (.slice e'))∨E.P.underlying U=some .string:=by
          cases u1<;>first|cases hku|skip
          ·exact .inr (L3 (w7 hE hU))
          ·obtain ⟨et,k',f1,_⟩:=B3 (w7 hE hU)
           exact .inl ⟨et,f1⟩
         have hob:look i s.hp=some e:=hob
         have key:∀ b off,Loc w.heap ι i e q=some (b,off)→∃ v' w',(execOp a.eval o).run E.P w=.ok (.value v') w'∧RS B S ι s a w'∧s6 e.ty e.x q∧a6x B S ι s.hp g i e q _ l m b off v' w' :=
          fun b off hl=>a5U hE h ho hc ha hTs hk hT hx hob hkd hg hl happ hgi (X3 hgn) h63 hby
         obtain ⟨e2,u,y2,cs,r1,hok,r3,r4,r5⟩:=t6 h hx
         rw [hob] at r1; cases r1
         obtain ⟨b,off,hl⟩:=a2e (h.hs.ob i e hob) h.hs.slt (Y4 hst).2 hok hg
         obtain ⟨v',w',k1,k2,k3,k4⟩:=key b off hl
         exact ⟨i,q,e,_,l,m,g,r,v',w',hx,rfl,hob,hgi,hgp,hg,hck,hset,rfl,k1,k2,k3,fun b' off' hl'=>by rw [hl] at hl'; cases hl'; exact k4⟩
        ·cases hb
       ·cases hb
      ·cases hb
     ·cases hb
    ·cases hb
   ·cases hb
  ·cases hb
 ·cases hb

theorem b3N (hE:t7 E B) (h:RS B S ι s a w) {o:Oper} {c:Call} (ho:o.op=.call c) (hc:c.callee=.builtin .append) {x y:Operand} {T U:TypeId} (ha:c.args.toList=[x,y]) (hTs:c.argTypes.toList=[T,U])
  {o2:Oper} {T2:TypeId} {ad:Operand} {d:Nat} (hd:x3 B.n (some d)=true) (ho2:o2.op=.store T2 ad (.tmp d)) (had:∀ t,ad=.tmp t→t≠d) {p:Prop} {s2:St} (hb:a40 E T U T2 (s.ev x) (s.ev y) (s.ev ad) d s=some (p,s2)) (hp:p) :
  ∃ v' w',(execOp a.eval o).run E.P w=.ok (.value v') w'∧s7 E.P B o2 (a.put (some d) v') w' (.raw undef) s2:=by
 obtain ⟨i,p0,e,t0,l,m,g,r,v',w',hx,had1,hob,hgi,hgp,hg,hck,hset,rfl,k1,k2,k3,k4⟩:=b47 hE h ho hc ha hTs ho2 hb hp
 refine ⟨v',w',k1,?_⟩
 obtain ⟨e',b,off,h1,h2,h3,h4⟩:=t6 h had1
 rw [hob] at h1; cases h1
 have hput:=k2.put hd (v:=.any) (val:=v') ⟨v',rfl⟩
 have hadv:(a.put (some d) v').eval ad=.pointer (some ⟨b,off,none⟩):=by
  have h4':a.eval ad=.pointer (some ⟨b,off,none⟩):=by simpa using h4
  rw [← h4']
  cases ad with
  | tmp t=>exact S7 (had t rfl)
  | _=>rfl
 have hval:(a.put (some d) v').eval (.tmp d)=v':=a4Y (by rw [h.sz]; simpa [x3,Nat.blt_eq] using hd)
 exact a6R hE hput (g:=g) hgp hgi (e:=e) (by simpa [St.put] using hob) h2 hg (k4 b off h3) ho2 hadv hval hck hset

theorem b0r {o:Oper} (ho:a3c o.op=true) {a a':Act} (h:∀ t∈a4y o,a'.eval (.tmp t)=a.eval (.tmp t)):execOp a'.eval o=execOp a.eval o:=by
 have hop:∀ x∈o.op.operands.toList,a'.eval x=a.eval x:=by
  intro x hx
  cases x with
  | tmp t=>exact h t (List.mem_filterMap.2 ⟨.tmp t,hx,rfl⟩)
  | _=>rfl
 unfold a3c at ho
 split at ho
 ·rename_i e; rw [e] at hop; simp [Op.operands] at hop; simp [execOp,e,hop]
 ·rename_i e; rw [e] at hop; simp [Op.operands] at hop; simp [execOp,e,hop]
 ·rename_i e; rw [e] at hop; simp [Op.operands] at hop; simp [execOp,e,hop]
 ·cases ho

theorem a8z {a:Act} {d e:Nat} {v u:Value} (h:d≠e):(a.put (some d) v).put (some e) u=(a.put (some e) u).put (some d) v:=by
 simp only [Act.put]
 congr 1
 apply Array.ext_getElem?
 intro i
 simp only [Array.getElem?_setIfInBounds,Array.size_setIfInBounds]
 by_cases h1:e=i
 ·subst h1; simp [h]
 ·simp [h1]

theorem a4I (hE:t7 E B) (hn:B.n=E.nt) {ops:Array Oper} {Q:Exit→Act→World→Prop} {oa:Oper} {c:Call} (ho:oa.op=.call c) (hc:c.callee=.builtin .append) {x y:Operand} {T U:TypeId} (ha:c.args.toList=[x,y]) (hTs:c.argTypes.toList=[T,U])
  {d:Nat} (hd:x3 B.n (some d)=true):∀ {l:List Oper} {S:Nat→Prop} {ι:Ix} {s:St} {a:Act} {w:World} {p:Prop} {s2:St} {n:Nat},RS B S ι s a w→a7b E T U x y d l s=some (p,s2,n)→p →
  ∃ v' w',(execOp a.eval oa).run E.P w=.ok (.value v') w'∧((∀ S' ι' a' w'',RS B S' ι' s2 a' w''→wpList E.P ops Q (l.drop n) a' w'')→wpList E.P ops Q l (a.put (some d) v') w')
 | [],S,ι,s,a,w,p,s2,n,_,hf,_=>by cases hf
 | o::rest,S,ι,s,a,w,p,s2,n,h,hf,hp=>by
  have hargs:c.args=#[x,y]:=by rw [← ha]
  have hts:c.argTypes=#[T,U]:=by rw [← hTs]
  unfold a7b at hf
  split at hf
  ·rename_i hg hdo
   split at hf
   ·rename_i hia
    split at hf
    ·rename_i d1 hd1
     split at hf
     ·rename_i p1 v hcond hv
      split at hf
      ·rename_i p2 s3 n2 hrec
       cases hf
       simp only [Bool.and_eq_true,Bool.not_eq_true'] at hcond
       obtain ⟨⟨⟨c1,c2⟩,c3⟩,c4⟩:=hcond
       have hne:d1≠d:=by rintro rfl; simp at c1
       have hpure:=a0A hE h hia
       have hval:a47 E.P S ι o a w s v:=by
        split at hv
        ·cases hv
        ·rename_i v0 s0 e0; cases hv; rw [e0] at hpure; exact hpure.2
        ·rename_i q0 v0 s0 e0; cases hv; rw [e0] at hpure; exact (hpure hp.1).2
       obtain ⟨val,hrun,hvx⟩:=hval
       rw [hd1] at hdo
       have hrs:=h.put (d:=some d1) (by rw [hn]; exact hdo) hvx
       obtain ⟨v',w',g1,g2⟩:=a4I hE hn ho hc ha hTs hd (ops:=ops) (Q:=Q) hrs hrec hp.2
       have ex:(a.put (some d1) val).eval x=a.eval x:=by
        cases x with
        | tmp t=>exact S7 (by rintro rfl; simp at c3)
        | _=>rfl
       have ey:(a.put (some d1) val).eval y=a.eval y:=by
        cases y with
        | tmp t=>exact S7 (by rintro rfl; simp at c4)
        | _=>rfl
       refine ⟨v',w',?_,fun hk=>?_⟩
       ·rw [← g1]; simp [execOp,ho,resolve,hc,invoke,builtin,hargs,hts,ex,ey]
       ·unfold wpList
        simp only [Region.wanted,hg,if_true]
        refine .inl ?_
        unfold Oper.wp
        have hr2:(execOp (a.put (some d) v').eval o).run E.P w'=.ok (.value val) w':=by
         have hot:∀ t∈a4y o,(a.put (some d) v').eval (.tmp t)=a.eval (.tmp t):=by
          intro t ht
          refine S7 (fun e=>?_)
          rw [e] at ht
          have h5:(a4y o).contains d=true:=by simpa using ht
          rw [h5] at c2; cases c2
         rw [b0r hia hot]; exact hrun w'
        rw [hr2]
        show wpList E.P ops Q rest ((a.put (some d) v').put o.dst val) w'
        rw [hd1,a8z (Ne.symm hne)]
        exact g2 hk
      ·cases hf
     ·cases hf
    ·cases hf
   ·split at hf
    ·rename_i T2 ad d' ho2
     split at hf
     ·rename_i hcond
      split at hf
      ·rename_i p1 s3 happ
       cases hf
       simp only [Bool.and_eq_true] at hcond
       obtain ⟨c1,c2⟩:=hcond
       obtain rfl:=Nat.eq_of_beq_eq_true c1
       obtain ⟨v',w',g1,g2⟩:=b3N hE h ho hc ha hTs hd ho2 (fun t e=>by subst e; rintro rfl; simp at c2) happ hp
       refine ⟨v',w',g1,fun hk=>?_⟩
       unfold wpList
       simp only [Region.wanted,hg,if_true]
       refine .inl (g2 _ _ (fun S' ι' w2 val h1 h2=>?_))
       exact hk S' ι' _ w2 (h1.put (by rw [hn]; exact hdo) h2)
      ·cases hf
     ·cases hf
    ·cases hf
  ·cases hf

/-! ### a call whose first argument lies at a place, its answer stored there -/
theorem a6H {e:f9} {p:List Step} {r:Sigma Ty.den} (h:a3w e p r=true):a5g e (e.w4 r):=by
 unfold a3w at h
 obtain ⟨r1,r2⟩:=r
 split at h
 ·rename_i t x
  obtain rfl:r1=t:=of_decide_eq_true h
  exact .inl ⟨r1,x,r2,rfl,rfl⟩
 ·rename_i t x
  split at h
  ·obtain rfl:r1=.d0 true t:=of_decide_eq_true h
   exact .inr (.inl ⟨t,x,r2,rfl,rfl⟩)
  ·cases h
 ·cases h

theorem OB.swap {H H1 H':Array Go.Obj} {i:Nat} {e:f9} (ho:OB H S ι i e) (hbl:∀ c∈i8 ι i e,¬ S c∧c<H.size) (hS:∀ c,S c→c<H.size) {p:List Step} (hk:(∃ t x,e=.var t x)∨∃ t x j q,e=.own (.d0 true t) x∧p=.idx j::q) (hok:s6 e.ty e.x p) {u:Ty} {y:u.den} (hg:i6 e.ty e.x p=some ⟨u,y⟩)
  {b off:Nat} (hl:Loc H ι i e p=some (b,off)) (hsz:H.size≤H1.size) {Op:List Nat} (hOp:d9 H S u Op (d8 H b off u.size) y) (hH:∀ c,c<H.size→c∉Op→H1[c]?=H[c]?) (hc:N8 H1 H' b off u.size) (hsz1:H'.size=H1.size)
  {u':Ty} {z:u'.den} {O2:List Nat} (hz:d9 H' S u' O2 (d8 H' b off u'.size) z) (hO2:∀ c∈O2,c<H'.size∧(c<H.size→c∈Op)) (hnd2:O2.Nodup) {r:Sigma Ty.den} (hset:m0 e.ty e.x p u' z=some r) :
  ∃ O,(∀ c∈O,c∈ι.own i∨c∈O2)∧OB H' S (ι.t8 i O) i (e.w4 r):=by
 have he:e≠.E8:=E6 hl
 have hbOp:=ho.V3 he hS hok hg hl hOp
 obtain ⟨Om,m1,mn,m2,m3,m4,m5⟩:=F3 he ho hS hok hg hl
 obtain ⟨O,hO,hR,hb,hnd,hlt,hns,hfr⟩:=ho.see he hS
 obtain ⟨O1,O3,b',off',e1,e2,e3,e4,e5,e6⟩:=focus hR hb hok hg
 obtain ⟨hpl,hbl2⟩:=r9 hl
 rw [C3 he] at hpl
 rw [e3] at hpl; cases hpl
 have hndO:(O1++O3).Nodup:=(e1.nodup_iff).1 ((hO.nodup_iff).2 (List.nodup_cons.1 hnd).2)
 have hmem:∀ c∈O1,c∈ι.own i:=fun c hc=>hO.mem_iff.1 (e1.mem_iff.2 (by simp [hc]))
 have hmem3:∀ c∈O3,c∈ι.own i:=fun c hc=>hO.mem_iff.1 (e1.mem_iff.2 (by simp [hc]))
 have hroot:=(List.nodup_cons.1 hnd).1
 have hown:∀ c∈ι.own i,c∈i8 ι i e:=by intro c hc; cases e<;>simp [i8,hc]
 have e4':d9 H S u O3 (d8 H b off u.size) y:=by
  rw [j6 (B7 hbl2)] at e4
  exact (U9 (fun c hc=>ho.I9 he (hmem3 c hc)) hS).1 e4
 obtain rfl:Op=O3:=hOp.det e4'
 have hlt1:∀ c∈O1,c<H.size:=fun c hc=>ho.I9 he (hmem c hc)
 have hagree:∀ c,(c=(VR H ι i e).1∧c<H.size)∨c∈O1∨S c→H1[c]?=H[c]?:=by
  rintro c (⟨rfl,h1⟩|h1|h1)
  ·exact hH _ h1 (fun h=>hroot (hmem3 _ h))
  ·exact hH c (hlt1 c h1) (fun h=>(List.nodup_append.1 hndO).2.2 c h1 c h rfl)
  ·exact hH c (hS c h1) (fun h=>(hbl c (hown c (hmem3 c h))).1 h1)
 have hvr:(∃ t x,e=.var t x)→(VR H ι i e).1<H.size:=by rintro ⟨t,x,rfl⟩; exact hlt
 obtain ⟨n1,n2⟩:=p9.move (H':=H1) hk e2 hlt1 hS hsz hagree hvr
 have hb':(VR H1 ι i e).2+e.ty.size≤(o6 (VH H1 ι i e) (VR H1 ι i e).1).length∧(VR H1 ι i e).1<(VH H1 ι i e).size∧¬ S (VR H1 ι i e).1∧(VR H1 ι i e).1∉O1:=by
  rcases hk with ⟨t,x,rfl⟩|⟨t,x,j,q,rfl,rfl⟩
  ·have hr:=hvr ⟨_,_,rfl⟩
   refine ⟨?_,Nat.lt_of_lt_of_le hr hsz,(hbl _ (by simp [i8,VR])).1,fun h=>hroot (hmem _ h)⟩
   have:=I3 (hagree _ (.inl ⟨rfl,hr⟩))
   show (VR H ι i (.var t x)).2+_≤(o6 H1 (VR H ι i (.var t x)).1).length
   rw [this]; exact hb
  ·refine ⟨?_,by simp [VH,VR,a3e],fun h=>by have:=hS _ h; simp only [VR] at this; omega,fun h=>by have:=hlt1 _ h; simp only [VR] at this; omega⟩
   simp only [VH,VR,W6] at hb ⊢; exact hb
 have hlO2:∀ c∈O2,c<H'.size:=fun c hc=>(hO2 c hc).1
 have hSz:∀ c,S c→c<H'.size:=fun c hc=>by have:=hS c hc; omega
 have hz':d9 (VH H' ι i e) S u' O2 (d8 (VH H' ι i e) b off u'.size) z:=by
  rw [j6 (B7 (by omega))]
  exact (U9 hlO2 hSz).2 hz
 obtain ⟨O4,f1,f2,f3⟩:=a5l n1 hg (n2.trans e3) hb'.1 hb'.2.1 (List.nodup_append.1 hndO).1 hb'.2.2.2 (fun c hc=>⟨(hbl c (hown c (hmem c hc))).1,Nat.lt_of_lt_of_le (hlt1 c hc) (Nat.le_trans hsz a1m)⟩) hb'.2.2.1
  (fun c hc=>Nat.lt_of_lt_of_le (hS c hc) (Nat.le_trans hsz a1m)) (fun _ h=>h) (a43 hc hsz1) hz' hset
 have hnd4:O4.Nodup:=(f1.nodup_iff).2 (List.nodup_append.2 ⟨(List.nodup_append.1 hndO).1,hnd2,by
  rintro c h1 d h2 rfl
  exact (List.nodup_append.1 hndO).2.2 c h1 c ((hO2 c h2).2 (hlt1 c h1)) rfl⟩)
 have hsub:∀ c∈O4,c∈ι.own i∨c∈O2:=by
  intro c hc
  rcases List.mem_append.1 (f1.mem_iff.1 hc) with h|h
  ·exact .inl (hmem c h)
  ·exact .inr h
 have hlt4:∀ c∈O4,c<H'.size:=by
  intro c hc
  rcases hsub c hc with h|h
  ·have:=ho.I9 he h; omega
  ·exact (hO2 c h).1
 have f2':=(U9 hlt4 hSz).1 f2
 refine ⟨O4,hsub,?_⟩
 cases e with
 | var t x =>
  simp only [f9.w4,OB,Ix.t8,if_true]
  obtain ⟨_,hf,_⟩:=ho
  refine ⟨⟨O4,List.Perm.refl _,f2'⟩,?_,?_⟩
  ·rw [C5 f3]; exact hc.free (hf.o4 (hagree _ (.inl ⟨rfl,hvr ⟨_,_,rfl⟩⟩)))
  ·refine List.nodup_cons.2 ⟨fun h=>?_,hnd4⟩
   rcases hsub _ h with h1|h1
   ·exact hroot h1
   ·exact hroot (hmem3 _ ((hO2 _ h1).2 (hvr ⟨_,_,rfl⟩)))
 | own t x =>
  simp only [f9.w4,OB,Ix.t8,if_true]
  refine ⟨⟨O4,List.Perm.refl _,?_⟩,hnd4⟩
  obtain ⟨⟨O',_,hR'⟩,_⟩:=ho
  have hsz9:r.1.size=t.size:=C5 f3
  have:d8 (VH H' ι i (.own t x)) (VR H1 ι i (.own t x)).1 (VR H1 ι i (.own t x)).2 r.1.size=ι.cells i:=by
   simp only [VH,VR]
   rw [← hsz1]
   simp only [d8,W6,List.drop_zero]
   exact List.take_of_length_le (by rw [hR'.length,hsz9]; exact Nat.le_refl _)
  rw [this] at f2'
  exact f2'
 | E8=>exact absurd rfl he

def R6 (P:Program) (o:Oper) (a:Act) (w:World) (R:Value→World→Prop):Prop :=
 ∃ g vs,(execOp a.eval o).run P w=.ok (.enter g vs) w∧Calls P g vs w (fun e w'=>∃ v,e=.returned v∧R v w')

theorem R6.wp {P:Program} {o:Oper} {R:Value→World→Prop} (h:R6 P o a w R) {next:Act→World→Prop} {Q:Exit→Act→World→Prop} (hn:∀ v w',R v w'→next (a.put o.dst v) w'):o.wp P a w next Q:=by
 obtain ⟨g,vs,h1,h2⟩:=h
 unfold Oper.wp
 rw [h1]
 refine Calls.mono h2 ?_
 rintro e w' ⟨v,rfl,hr⟩
 exact hn v w' hr

theorem R6.mono {P:Program} {o:Oper} {R R':Value→World→Prop} (h:R6 P o a w R) (hr:∀ v w',R v w'→R' v w'):R6 P o a w R':=by
 obtain ⟨g,vs,h1,h2⟩:=h
 exact ⟨g,vs,h1,h2.mono (fun e w' ⟨v,e1,k⟩=>⟨v,e1,hr v w' k⟩)⟩

theorem a4x {cur:List Value} {off n:Nat} (h:off+n≤cur.length):x8 cur off ((cur.drop off).take n)=cur:=by
 rw [x8,List.length_take,List.length_drop,Nat.min_eq_left (by omega),List.append_assoc]
 conv=>rhs; rw [← List.take_append_drop off cur,← List.take_append_drop n (cur.drop off)]
 rw [List.drop_drop]

theorem b46 (h:RS B S ι s a w) {i:Nat} {e:f9} (hob:look i s.hp=some e) {Op:List Nat} (hOi:∀ c∈Op,c∈ι.own i) {ks:List PK} {ys:List Operand} {y:DK ks} (hnl:i∉H7.loose ks (s.C8 ys)) (hy0:AV.T5 s ks (s.C8 ys)=some (y,[],[])) :
  ∃ S1:Nat→Prop,(∀ b,S b→S1 b)∧(∀ b,S1 b→b<w.heap.size)∧(∀ c∈Op,¬ S1 c)∧I6 w.heap S1 ks (ys.map a.eval) y []:=by
 have hOpb:∀ c∈Op,c∈i8 ι i e:=fun c hc=>B4 (hOi c hc)
 let S1:Nat→Prop:=fun b=>S b∨E9 ι s.hp (H7.loose ks (s.C8 ys)) b
 obtain ⟨L2,hK2,_,hLb2,_⟩:=a3Z (S1:=S1) h.hs (fun b hb=>.inl hb) hy0 (h.C8 ys) (by simp) (fun b hb=>.inr hb)
 have hL2:L2=[]:=by
  rw [List.eq_nil_iff_forall_not_mem]
  intro b hb
  obtain ⟨i,e,h1,_⟩:=hLb2 b hb
  cases h1
 subst hL2
 refine ⟨S1,fun _ h=>.inl h,?_,?_,hK2⟩
 ·rintro b (hb|⟨j,ej,h1,h2,h3⟩)
  ·exact h.hs.slt b hb
  ·exact (h.hs.bl j ej h2 b h3).2.2
 ·rintro c hc (hs|⟨j,ej,r1,r2,r3⟩)
  ·exact (h.hs.bl i e hob c (hOpb c hc)).1 hs
  ·exact h.hs.dj i j e ej hob r2 (by rintro rfl; exact hnl r1) c (hOpb c hc) r3

theorem a8x (h:RS B S ι s a w) {i:Nat} {e:f9} (hob:look i s.hp=some e) {p:List Step} (hok:s6 e.ty e.x p) {t:Ty} {l:(Ty.d0 true t).den} (hg:i6 e.ty e.x p=some ⟨.d0 true t,l⟩) {b off:Nat} (hl:Loc w.heap ι i e p=some (b,off))
  {Op:List Nat} (hOp:d9 w.heap S (.d0 true t) Op (d8 w.heap b off (Ty.d0 true t).size) l) (hOi:∀ c∈Op,c∈ι.own i) {ks:List PK} {ys:List Operand} {y:DK ks} (hy:a30 s ks i e p t ys=some (y,[],[])) :
  ∃ S1:Nat→Prop,(∀ b,S b→S1 b)∧(∀ b,S1 b→b<w.heap.size)∧(∀ c∈Op,¬ S1 c)∧I6 w.heap S1 ks (ys.map a.eval) y []:=by
 have hOpb:∀ c∈Op,c∈i8 ι i e:=fun c hc=>B4 (hOi c hc)
 have fin:∀ {ι':Ix} {s0:St},RS B S ι' s0 a w→AV.T5 s0 ks (s0.C8 ys)=some (y,[],[])→(∀ j ej,j∈H7.loose ks (s0.C8 ys)→look j s0.hp=some ej→∀ c∈Op,c∉i8 ι' j ej)→∃ S1:Nat→Prop,(∀ b,S b→S1 b)∧(∀ b,S1 b→b<w.heap.size)∧(∀ c∈Op,¬ S1 c)∧I6 w.heap S1 ks (ys.map a.eval) y []:=by
  intro ι' s0 h0 hy0 hd
  let S1:Nat→Prop:=fun b=>S b∨E9 ι' s0.hp (H7.loose ks (s0.C8 ys)) b
  obtain ⟨L2,hK2,_,hLb2,_⟩:=a3Z (S1:=S1) h0.hs (fun b hb=>.inl hb) hy0 (h0.C8 ys) (by simp) (fun b hb=>.inr hb)
  have hL2:L2=[]:=by
   rw [List.eq_nil_iff_forall_not_mem]
   intro b hb
   obtain ⟨i,e,h1,_⟩:=hLb2 b hb
   cases h1
  subst hL2
  refine ⟨S1,fun _ h=>.inl h,?_,?_,hK2⟩
  ·rintro b (hb|⟨j,ej,h1,h2,h3⟩)
   ·exact h0.hs.slt b hb
   ·exact (h0.hs.bl j ej h2 b h3).2.2
  ·rintro c hc (hs|⟨j,ej,r1,r2,r3⟩)
   ·exact (h.hs.bl i e hob c (hOpb c hc)).1 hs
   ·exact hd j ej r1 r2 c hc r3
 unfold a30 at hy
 split at hy
 ·rename_i hnl
  have hnl:i∉H7.loose ks (s.C8 ys):=by intro hm; simp [hm] at hnl
  exact fin h hy (fun j ej r1 r2 c hc r3=>h.hs.dj i j e ej hob r2 (by rintro rfl; exact hnl r1) c (hOpb c hc) r3)
 ·split at hy
  ·rename_i u x
   split at hy
   ·rename_i r hset
    have hcells:∃ c0,d8 w.heap b off (Ty.d0 true t).size=[c0]∧b3e c0=true:=by
     rcases hOp with ⟨_,⟨a1,c1,e1,_⟩,_⟩|⟨b1,o1,cap1,O1,e1,_⟩
     ·exact ⟨_,e1,rfl⟩
     ·exact ⟨_,e1,rfl⟩
    obtain ⟨c0,hc0,hsl⟩:=hcells
    obtain ⟨ι',⟨O,rfl,hO⟩,h0⟩:=h.a6G hob hok hg hl (u':=.hole t) (z:=([]:List t.den)) (cs:=[c0]) (O2:=[]) (fun H' _ _=>⟨rfl,c0,rfl,hsl⟩) rfl List.nodup_nil (by simp) hset (by intro h; cases h)
    have hw:w.setRow b (x8 (o6 w.heap b) off [c0]).toArray=w:=by
     obtain ⟨O2,m1,m2,m3,m4,m5,arr,T,⟨fz,e1,_⟩,hn⟩:=F3 (E6 hl) (h.hs.ob i _ hob) h.hs.slt hok hg hl
     have hb:o6 w.heap b=arr.toList:=by simp only [o6,e1]
     have:x8 (o6 w.heap b) off [c0]=o6 w.heap b:=by
      rw [← hc0]; exact a4x m4
     rw [this,hb]; exact setRow_self w b arr T fz (by simpa using e1)
    rw [hw] at h0
    refine fin h0 hy (fun j ej r1 r2 c hc r3=>?_)
    simp only [St.o7,l7] at r2
    by_cases hj:j=i
    ·subst hj
     rw [if_pos rfl] at r2; cases r2
     have r3:c∈(ι.root j).1::(ι.t8 j O).own j:=r3
     simp only [Ix.t8,if_true] at r3
     refine (List.mem_cons.1 r3).elim (fun g3=>?_) (fun g3=>?_)
     ·obtain ⟨_,_,hnd⟩:=h.hs.ob j _ hob
      exact (List.nodup_cons.1 hnd).1 (g3▸hOi c hc)
     ·rcases (hO c g3).2 with h9|h9
      ·cases h9
      ·exact h9 Op hOp hc
    ·rw [if_neg hj] at r2
     rw [(L8 hj O).i8] at r3
     exact h.hs.dj i j _ ej hob r2 (Ne.symm hj) c (hOpb c hc) r3
   ·cases hy
  ·cases hy

theorem a8y {i:Nat} {e:f9} {p:List Step} {t:Ty} {ks:List PK} {ys:List Operand} {r:DK ks×List Nat×List Nat} (hy:a30 s ks i e p t ys=some r):ks.any PK.lnk=false:=by
 unfold a30 at hy
 split at hy
 ·exact a2q hy
 ·split at hy
  ·split at hy
   ·exact a2q hy
   ·cases hy
  ·cases hy

theorem b1B (hE:t7 E B) (h:RS B S ι s a w) {o:Oper} {c:Call} (ho:o.op=.call c) {g:FuncId} (hf:c.callee=.value (.func g)) {x:Operand} {ys:List Operand} (ha:c.args.toList=x::ys)
  {o2:Oper} {T2:TypeId} {ad:Operand} {d:Nat} (hd:x3 B.n (some d)=true) (ho2:o2.op=.store T2 ad (.tmp d)) (had:∀ t,ad=.tmp t→t≠d) {p:Prop} {s2:St} (hb:b3B E T2 g (s.ev x) ys (s.ev ad) d s=some (p,s2)) (hp:p) :
  R6 E.P o a w (fun v' w'=>s7 E.P B o2 (a.put (some d) v') w' (.raw undef) s2):=by
 unfold b3B at hb
 split at hb
 ·rename_i t ks t' pre fn out nw i p0 j q hct hx hadv
  split at hb
  ·rename_i e hob hcond
   simp only [Bool.and_eq_true] at hcond
   obtain ⟨⟨⟨hij,hwt⟩,hnsh⟩,hck0⟩:=hcond
   have hij:=Nat.eq_of_beq_eq_true hij
   subst hij
   have hwt:u6 ks=[]:=by
    revert hwt
    cases u6 ks with
    | nil=>intro _; rfl
    | cons a b=>intro h; cases h
   split at hb
   ·rename_i u l y hg hy
    split at hb
    ·rename_i hu
     subst hu
     split at hb
     ·rename_i r hset
      split at hb
      ·rename_i hcond2
       cases hb
       simp only [Bool.and_eq_true] at hcond2
       obtain ⟨hck,hst⟩:=hcond2
       obtain ⟨rfl,hpre⟩:=hp
       have hob:look i s.hp=some e:=hob
       have hnb:e≠.E8:=by rcases (Y4 hst).2 with ⟨_,_,rfl⟩|⟨_,_,_,_,rfl,_⟩<;>(intro h; cases h)
       have hkd:=(Y4 hst).2
       obtain ⟨e1,u1,y1,cs,r1,hok,r3,hcs,r5⟩:=t6 h hx
       rw [hob] at r1; cases r1
       rw [hg] at r3; cases r3
       have hval:a.eval x=j7 (.d0 true t) cs:=by simpa using r5
       obtain ⟨Op,m1,mn,hRo⟩:=C4 h.hs hob hok hg hcs
       obtain ⟨e2,b,off,z1,z2,hl,z4⟩:=t6 h hadv
       rw [hob] at z1; cases z1
       have z4:a.eval ad=.pointer (some ⟨b,off,none⟩):=by simpa using z4
       -- the call
       have hV:=hE.G8 g _ hct
       obtain ⟨fnn,hfn,hname,hbody⟩:=hV.ent
       have hRo':d9 w.heap S (.d0 true t) Op (d8 w.heap b off (Ty.d0 true t).size) l:=by
        have hpl:=r9 hl
        obtain ⟨b9,o9,k1,k2⟩:=id hcs
        rw [hpl.1] at k1; cases k1
        rw [k2,j6 (B7 hpl.2)] at hRo
        exact hRo
       obtain ⟨S1,hS01,hS1,hS1d,hK2⟩:=a8x h hob hok hg hl hRo' m1 hy
       have hOpb:∀ c∈Op,c∈i8 ι i e:=fun c hc=>B4 (m1 c hc)
       have hLS:∀ b∈Op++[],¬ S1 b∧b<w.heap.size:=by
        intro b hb
        have hb:b∈Op:=by simpa using hb
        exact ⟨hS1d b hb,(h.hs.bl i e hob b (hOpb b hb)).2.2⟩
       have hcall:=hV.run w S1 (a.eval x::ys.map a.eval) (D8 rfl l,y) (Op++[]) hS1 ((hE.gb.at_ h.hs).sub hS01) hpre ⟨_,_,Op,[],rfl,rfl,⟨cs,hval,hRo.o4 (fun _ _=>rfl) hS01⟩,hK2⟩ (a0a (by rw [List.any_cons,a8y hy]; rfl)) (by simpa using mn) hLS
       refine ⟨g,(a.eval x::ys.map a.eval).toArray,?_,?_⟩
       ·have hnbd:fnn.body.isNone=false:=hbody
        have hq:(fnn.name == "runtime.NumGoroutine")=false:=hname
        have hargs:c.args.map a.eval=(a.eval x::ys.map a.eval).toArray:=by
         rw [← Array.toList_inj,Array.toList_map,ha]; simp
        have hev:a.eval (.func g)=.func (.func g) #[] #[]:=by simp [Act.eval]
        simp only [execOp,ho,resolve,hf,hev,Deferred.ofValue,Sem.run_bind,Sem.run_pure,Result.andThen,invoke,callFunc,program]
        simp [Sem.run,hfn,hq,hnbd]
        exact hargs
       ·refine Calls.mono hcall ?_
        rintro en w' ⟨us,O,Lo,S',rfl,hpast,hs1,hs2,hres,hout,hnd,hO⟩
        obtain ⟨v',us',O1,O2,cs',rfl,rfl,hv',hRz,rfl,rfl⟩:=hres
        refine ⟨v',rfl,?_⟩
        have hLo:=N2 (show u6 (.own (.d0 true t)::ks)=[] from hwt) hout
        subst hLo
        have hRz:=d9.E2 (S':=S) hnsh hRz
        have hnd1:O1.Nodup:=by simpa using hnd
        have hO1:∀ c∈O1,(w.heap.size≤c∨c∈Op)∧c<w'.heap.size:=fun c hc=>by
         obtain ⟨_,q2,q3⟩:=hO c (by simp [hc])
         exact ⟨by simpa using q2,q3⟩
        have hpast:w8 Op w w':=by simpa using hpast
        have hbl:∀ c∈i8 ι i e,¬ S c∧c<w.heap.size:=fun c hc=>⟨(h.hs.bl i e hob c hc).1,(h.hs.bl i e hob c hc).2.2⟩
        obtain ⟨Om,p1,p2,p3,p4,p5,p6⟩:=F3 hnb (h.hs.ob i e hob) h.hs.slt hok hg hl
        have hOm:Om=Op:=by
         have hpl:=r9 hl
         obtain ⟨b9,o9,k1,k2⟩:=hcs
         rw [hpl.1] at k1; cases k1
         rw [k2,j6 (B7 hpl.2)] at hRo
         exact p3.det hRo
        subst hOm
        have hbOp:=(h.hs.ob i e hob).V3 hnb h.hs.slt hok hg hl p3
        have hblt:=(hbl b p5).2
        have hfree':I2 w'.heap b (off+(Ty.d0 true t).size):=p6.o4 (hpast.frame b hblt hbOp)
        intro next Q hn
        have hput:=h.put (d:=some d) hd (v:=.any) (val:=v') ⟨_,rfl⟩
        have hadv':(a.put (some d) v').eval ad=.pointer (some ⟨b,off,none⟩):=by
         rw [← z4]
         cases ad with
         | tmp t9=>exact S7 (had t9 rfl)
         | _=>rfl
        have hvd:(a.put (some d) v').eval (.tmp d)=v':=a4Y (by
         rw [h.sz]; simpa [x3,Nat.blt_eq] using hd)
        have hcs1:∃ c1,cs'=[c1]:=by
         have:=hRz.length
         match cs',this with
         | [c1],_=>exact ⟨c1,rfl⟩
        obtain ⟨c1,rfl⟩:=hcs1
        obtain rfl:c1=v':=hv'.symm
        have hshh:(Ty.d0 true t').sh=(Ty.d0 true t).sh:=a1v hg hset
        have hrun:(execOp (a.put (some d) c1).eval o2).run E.P w'=.ok .skip (w'.setRow b (x8 (o6 w'.heap b) off [c1]).toArray):=by
         have hsv:(storeVar T2 ⟨b,off,none⟩ c1).run E.P w'=.ok () (w'.setRow b (x8 (o6 w'.heap b) off [c1]).toArray):=a0G (u7 hE hck0) hshh hfree' hRz
         simp [execOp,ho2,hadv',hvd,Instr.storeAt,Instr.sureAddr,hsv]
        unfold Oper.wp
        rw [hrun]
        obtain ⟨hch,hcell⟩:=a1q (w:=w') (b:=b) (off:=off) (cs:=[c1]) hfree'
        have hsz2:(w'.setRow b (x8 (o6 w'.heap b) off [c1]).toArray).heap.size=w'.heap.size:=setRow_size
        have hold:∀ c,c≠b→(w'.setRow b (x8 (o6 w'.heap b) off [c1]).toArray).heap[c]?=w'.heap[c]?:=fun c hcb=>setRow_other hcb
        have hw2:(w'.setRow b (x8 (o6 w'.heap b) off [c1]).toArray).os=w'.os∧K3 w' (w'.setRow b (x8 (o6 w'.heap b) off [c1]).toArray)∧(w'.setRow b (x8 (o6 w'.heap b) off [c1]).toArray).output=w'.output:=⟨rfl,.of rfl rfl,rfl⟩
        generalize hw'':w'.setRow b (x8 (o6 w'.heap b) off [c1]).toArray=w'' at *
        have hbO1:b∉O1:=fun hb1=>by
         rcases (hO1 b hb1).1 with q|q
         ·omega
         ·exact hbOp q
        have hz2:d9 w''.heap S (.d0 true t') O1 (d8 w''.heap b off (Ty.d0 true t').size) (fn (D8 rfl l,y)).1:=by
         have:d8 w''.heap b off (Ty.d0 true t').size=[c1]:=hcell
         rw [this]
         refine hRz.o4 (fun c hc=>hold c ?_) (fun _ h=>h)
         rintro rfl
         rcases hc with hc|hc
         ·exact hbO1 hc
         ·exact (hbl c p5).1 hc
        obtain ⟨O,n1,n2⟩:=OB.swap (h.hs.ob i e hob) hbl h.hs.slt hkd hok hg hl hpast.size p3 (fun c hc hn=>hpast.frame c hc hn) hch hsz2 hz2 (fun c hc=>by
         obtain ⟨q1,q2⟩:=hO1 c hc
         exact ⟨by omega,fun hlt=>q1.resolve_left (by omega)⟩) hnd1 hset
        have hpast2:w8 (i8 ι i e) w w'':=by
         refine ⟨hw2.1.trans hpast.os,hw2.2.1.trans hpast.tape,hw2.2.2.trans hpast.out,by rw [hsz2]; exact hpast.size,fun c hc hn=>?_⟩
         rw [hold c (by rintro rfl; exact hn p5)]
         exact hpast.frame c hc (fun hcO=>hn (hOpb c hcO))
        have hrs:=hput.renew (by simpa [St.put] using hob) (a6H hst) x4.nil (L:=i8 ι i e) hpast2 (fun b hb=>.inl hb) (fun _ h=>h) (fun _ h=>.inl h) (O':=O) n2 (fun c hc=>by
         have hcc:c∈i8 ι i e∨c∈O1:=by
          cases e with
          | var t9 x9 =>
           simp only [i8,f9.w4,Ix.t8,if_true,List.mem_cons] at hc ⊢
           rcases hc with hc|hc
           ·exact .inl (.inl hc)
           ·exact (n1 c hc).imp .inr id
          | own t9 x9 =>
           simp only [i8,f9.w4,Ix.t8,if_true] at hc ⊢
           exact n1 c hc
          | E8=>exact absurd rfl hnb
         rcases hcc with hcc|hcc
         ·exact ⟨(hbl c hcc).1,.inr hcc,by have:=(hbl c hcc).2; have:=hpast.size; omega⟩
         ·obtain ⟨q1,q2⟩:=hO1 c hcc
          have hnS:¬ S c:=by
           have:=(hO c (by simp [hcc])).1
           exact fun hs=>this (hs1 c (hS01 c hs))
          exact ⟨hnS,q1.imp id (hOpb c),by omega⟩)
        exact hn S _ w'' undef hrs rfl
      ·cases hb
     ·cases hb
    ·cases hb
   ·cases hb
  ·cases hb
 ·cases hb

theorem R6.put {P:Program} {o:Oper} {c:Call} (ho:o.op=.call c) {g:FuncId} (hf:c.callee=.value (.func g)) {d:Nat} {val:Value} (hd:∀ z∈c.args.toList,z≠.tmp d) {R:Value→World→Prop} (h:R6 P o (a.put (some d) val) w R):R6 P o a w R:=by
 obtain ⟨g',vs,h1,h2⟩:=h
 refine ⟨g',vs,?_,h2⟩
 rw [← h1]
 have hargs:c.args.map (a.put (some d) val).eval=c.args.map a.eval:=by
  apply Array.map_congr_left
  intro z hz
  cases z with
  | tmp t=>exact S7 (fun e=>hd _ (by simpa using hz) (by rw [e]))
  | _=>rfl
 have hev:(a.put (some d) val).eval (.func g)=a.eval (.func g):=rfl
 simp only [execOp,ho,resolve,hf,hev,hargs]

theorem a4h (hE:t7 E B) (hn:B.n=E.nt) {ops:Array Oper} {Q:Exit→Act→World→Prop} {oa:Oper} {c:Call} (ho:oa.op=.call c) {g:FuncId} (hf:c.callee=.value (.func g)) {x:Operand} {ys:List Operand} (ha:c.args.toList=x::ys)
  {d:Nat} (hd:x3 B.n (some d)=true):∀ {l:List Oper} {S:Nat→Prop} {ι:Ix} {s:St} {a:Act} {w:World} {p:Prop} {s2:St} {n:Nat},RS B S ι s a w→a5w E g x ys d l s=some (p,s2,n)→p→(∀ S' ι' a' w'',RS B S' ι' s2 a' w''→wpList E.P ops Q (l.drop n) a' w'') →
  R6 E.P oa a w (fun v' w'=>wpList E.P ops Q l (a.put (some d) v') w')
 | [],S,ι,s,a,w,p,s2,n,_,hb,_,_=>by cases hb
 | o::rest,S,ι,s,a,w,p,s2,n,h,hb,hp,hk=>by
  unfold a5w at hb
  split at hb
  ·rename_i hg hdo
   split at hb
   ·rename_i hia
    split at hb
    ·rename_i d1 hd1
     split at hb
     ·rename_i p1 v hcond hv
      split at hb
      ·rename_i p2 s3 n2 hrec
       cases hb
       simp only [Bool.and_eq_true,Bool.not_eq_true'] at hcond
       obtain ⟨⟨c1,c2⟩,c3⟩:=hcond
       have hne:d1≠d:=by rintro rfl; simp at c1
       have hpure:=a0A hE h hia
       have hval:a47 E.P S ι o a w s v:=by
        split at hv
        ·cases hv
        ·rename_i v0 s0 e0; cases hv; rw [e0] at hpure; exact hpure.2
        ·rename_i q0 v0 s0 e0; cases hv; rw [e0] at hpure; exact (hpure hp.1).2
       obtain ⟨val,hrun,hvx⟩:=hval
       rw [hd1] at hdo
       have hrs:=h.put (d:=some d1) (by rw [hn]; exact hdo) hvx
       have hrec2:=a4h hE hn ho hf ha hd (ops:=ops) (Q:=Q) hrs hrec hp.2 hk
       refine (hrec2.put ho hf (fun z hz=>?_)).mono (fun v' w' hw=>?_)
       ·rw [ha] at hz
        rintro rfl
        have:=List.all_eq_true.1 c3 _ hz
        simp at this
       ·unfold wpList
        simp only [Region.wanted,hg,if_true]
        refine .inl ?_
        unfold Oper.wp
        have ex:execOp (a.put (some d) v').eval o=execOp a.eval o:=b0r hia (fun t ht=>S7 (by
         rintro rfl
         simp [ht] at c2))
        rw [ex,hrun w']
        show wpList E.P ops Q rest ((a.put (some d) v').put o.dst val) w'
        rw [hd1,a8z (Ne.symm hne)]
        exact hw
      ·cases hb
     ·cases hb
    ·cases hb
   ·split at hb
    ·rename_i T2 ad d' hop
     split at hb
     ·rename_i hcond
      simp only [Bool.and_eq_true] at hcond
      obtain ⟨c1,c2⟩:=hcond
      obtain rfl:=Nat.eq_of_beq_eq_true c1
      split at hb
      ·rename_i p2 s3 hcs
       cases hb
       have had:∀ t,ad=.tmp t→t≠d':=by
        intro t e
        subst e
        rintro rfl
        simp at c2
       refine (b1B hE h ho hf ha hd hop had hcs hp).mono (fun v' w' hw=>?_)
       unfold wpList
       simp only [Region.wanted,hg,if_true]
       refine .inl (hw _ _ (fun S' ι' w2 val h1 h2=>?_))
       exact hk S' ι' _ w2 (h1.put (by rw [hn]; exact hdo) h2)
      ·cases hb
     ·cases hb
    ·cases hb
  ·cases hb

theorem b6J {H:Array Go.Obj} {i:Nat} {e:f9} (ho:OB H S ι i e) (hS:∀ c,S c→c<H.size) (hk:e.O5=false) {p:List Step} (hok:s6 e.ty e.x p) {u:Ty} {y:u.den} (hg:i6 e.ty e.x p=some ⟨u,y⟩)
  {b off:Nat} (hp:Place H ι i e p=some (b,off)):b<H.size:=by
 have he:=a1y hp
 obtain ⟨O,hO,hR,hb,hnd,hlt,hns,hfr⟩:=ho.see he hS
 obtain ⟨O1,O3,b',off',e1,e2,e3,e4,e5,e6⟩:=focus hR hb hok hg
 rw [C3 he,e3] at hp
 cases hp
 cases e with
 | var t x =>
  rcases e6 with ⟨rfl,_⟩|⟨h1,_⟩
  ·exact hlt
  ·exact ho.I9 he (hO.mem_iff.1 (e1.mem_iff.2 (by simp [h1])))
 | own t x=>cases hk
 | E8=>exact absurd rfl he

theorem a6Y {H:Array Go.Obj} {t:Ty} {y:(Ty.r7 t).den} (hsh:t.shared=true) (h1:1≤y.1) (h2:y.1≤2) {O:List Nat} {cs:List Value} (hr:d9 H S (.r7 t) O cs y):d9 H S (.d0 true t) O cs y.2.1:=by
 obtain ⟨n,l,m⟩:=y
 match n,h1,h2,hr with
 | 1,_,_,hr=>exact hr
 | 2,_,_,⟨b,off,O',c1,c2,c3,c4,c5,c6⟩ =>
  obtain rfl:O'=[]:=i5.F4 (fun _ _ _ hr=>hr.F4 hsh) c4
  have hlt:(l++m).length=l.length+m.length:=List.length_append
  rw [hlt,Nat.add_mul] at c3 c4
  have s1:=(i5.two (fun _ _ _ hr=>hr.length) (fun _ _ _ hr=>hr.F4 hsh) c4).1
  rw [l5 _ _ _ _ (by omega)] at s1
  exact .inr ⟨b,off,List.length l+List.length m,[],c1,by show List.length l≤_; omega,c2,by show off+List.length l*t.size≤_; omega,s1,c5,c6⟩

theorem b60 {H:Array Go.Obj} {t u:Ty} {y:u.den} {q:Prop} {l:List t.den} (h:muV t u y=some (q,l)) (hq:q):u.size=1∧u.agg=false∧(∀ {O:List Nat} {cs:List Value},d9 H S u O cs y→d9 H S (.d0 true t) O cs l) ∧
  (∀ {H':Array Go.Obj} {S':Nat→Prop} {l':List t.den} {O:List Nat} {cs:List Value},d9 H' S' (.d0 true t) O cs l'→d9 H' S' (muB t u l').1 O cs (muB t u l').2)∧∀ l',(muB t u l').1.size=1:=by
 unfold muV at h
 split at h
 ·rename_i b y
  split at h
  ·rename_i e
   subst e
   cases h
   exact ⟨rfl,rfl,fun hr=>hr,fun hr=>hr,fun _=>rfl⟩
  ·cases h
 ·rename_i b y
  split at h
  ·rename_i e
   subst e
   split at h
   ·rename_i hsh
    cases h
    exact ⟨rfl,rfl,fun hr=>a6Y hsh hq.1 hq.2 hr,fun hr=>hr,fun _=>rfl⟩
   ·cases h
  ·cases h
 ·cases h

theorem b6Z {H:Array Go.Obj} {S:Nat→Prop} {t:Ty} {i:Int} {p:List Step} {b off:Nat} {O:List Nat} {x:List t.den} (hR:d9 H S (.d0 true t) O (d8 H b off 1) x) (ho:s6 (.d0 true t) x (.idx i::p)) {u:Ty} {y:u.den}
  (hg:i6 (.d0 true t) x (.idx i::p)=some ⟨u,y⟩) {b' off':Nat} (hn:s9 H (.d0 true t) (.idx i::p) b off=some (b',off')):b'∈O:=by
 obtain ⟨hi,ho⟩:=ho
 rcases hR with ⟨_,_,hn0⟩|⟨b1,o1,cap,O',c1,c2,c3,c4,c5,rfl,c6⟩
 ·have:x=[]:=hn0
  subst this; simp at hi; omega
 ·have hh:=(H4 b off _).1 c1
  obtain ⟨b1',b2,b3,b4⟩:=x5 (sz:=t.size) hi
  obtain ⟨P1,P2,P3,rfl,g1,g2,g3⟩:=i5.split (d:=t.n6) (i:=i.toNat) b1' c5
  rw [l6,l5 _ _ _ _ (by omega)] at g2
  obtain ⟨O1,O2,b2',off2,e1,e2,e3,e4,e5,e6⟩:=focus g2 (by omega) ho hg
  simp only [s9,hh] at hn
  rw [e3] at hn; cases hn
  rcases e6 with ⟨g1,_,_⟩|⟨g1,_⟩
  ·subst g1; simp
  ·have:b'∈P2:=e1.mem_iff.2 (by simp [g1])
   simp [this]

theorem b24 {H:Array Go.Obj} {i:Nat} {t:Ty} {x:List t.den} (ho:OB H S ι i (.own (.d0 true t) x)) (hS:∀ c,S c→c<H.size) {j:Int} {q:List Step} (hok:s6 (.d0 true t) x (.idx j::q)) {u:Ty} {y:u.den} (hg:i6 (.d0 true t) x (.idx j::q)=some ⟨u,y⟩)
  {b off:Nat} (hp:Place H ι i (.own (.d0 true t) x) (.idx j::q)=some (b,off)):b<H.size:=by
 have he:(f9.own (.d0 true t) x)≠.E8:=by intro h; cases h
 obtain ⟨O,hO,hR,hb,hnd,hlt,hns,hfr⟩:=ho.see he hS
 rw [C3 he] at hp
 exact ho.I9 he (hO.mem_iff.1 (b6Z hR hok hg hp))

theorem b1C (hE:t7 E B) (hn:B.n=E.nt) (h:RS B S ι s a w) {o:Oper} {p:Prop} {s2:St} (hb:b3C E o s=some (p,s2)) (hp:p) :
  o.guard=none∧R6 E.P o a w (fun v' w'=>∃ ι',RS B S ι' s2 (a.put o.dst v') w'):=by
 unfold b3C at hb
 split at hb
 ·rename_i c hgd hdo ho
  refine ⟨hgd,?_⟩
  split at hb
  ·rename_i g x ys hf ha
   split at hb
   ·rename_i t ks pre fn out nw i st p0 hct hx
    split at hb
    ·rename_i e hob hcond
     simp only [Bool.and_eq_true] at hcond
     obtain ⟨hwt,hnsh⟩:=hcond
     have hwt:u6 ks=[]:=by
      revert hwt
      cases u6 ks with
      | nil=>intro _; rfl
      | cons a b=>intro h; cases h
     split at hb
     ·rename_i u l0 y hg hy
      split at hb
      ·rename_i qz l hmu
       split at hb
       ·rename_i r hset
        split at hb
        ·rename_i hst
         cases hb
         obtain ⟨hqz,hp⟩:=hp
         obtain ⟨mu1,mu2,mu3,mu4,mu5⟩:=b60 (H:=w.heap) (S:=S) hmu hqz
         simp only [Bool.and_eq_true,Bool.not_eq_true'] at hst
         obtain ⟨hst,hmn⟩:=hst
         have hob:look i s.hp=some e:=hob
         have hnb:e≠.E8:=by rcases (Y4 hst).2 with ⟨_,_,rfl⟩|⟨_,_,_,_,rfl,_⟩<;>(intro h; cases h)
         have hkd:=(Y4 hst).2
         obtain ⟨e1,u1,y1,cs,r1,hok,r3,hcs,r5⟩:=t6 h hx
         rw [hob] at r1; cases r1
         rw [hg] at r3; cases r3
         have hval:a.eval x=j7 (.d0 true t) cs:=by rw [a1Z (show (Ty.d0 true t).agg=u.agg by rw [mu2]; rfl)]; simpa using r5
         obtain ⟨Op,m1,mn,hRo0⟩:=C4 h.hs hob hok hg hcs
         have hRo:=mu3 hRo0
         have hbl:∀ c∈i8 ι i e,¬ S c∧c<w.heap.size:=fun c hc=>⟨(h.hs.bl i e hob c hc).1,(h.hs.bl i e hob c hc).2.2⟩
         -- the header lies in memory
         obtain ⟨b,off,hpl0,hcs0⟩:=hcs
         have hlt:b<w.heap.size:=by
          rcases hkd with ⟨t9,x9,rfl⟩|⟨t9,x9,j9,q9,rfl,hq9⟩
          ·exact b6J (h.hs.ob i _ hob) h.hs.slt rfl hok hg hpl0
          ·rw [hq9] at hok hg hpl0
           exact b24 (h.hs.ob i _ hob) h.hs.slt hok hg hpl0
         have hl:=M5 hpl0 hlt
         have hcse:cs=d8 w.heap b off (Ty.d0 true t).size:=by rw [hcs0,j6 (B7 hlt),mu1]; rfl
         have hRo':d9 w.heap S (.d0 true t) Op (d8 w.heap b off (Ty.d0 true t).size) l:=by rw [← hcse]; exact hRo
         have hargsK:(∃ S1:Nat→Prop,(∀ b,S b→S1 b)∧(∀ b,S1 b→b<w.heap.size)∧(∀ c∈Op,¬ S1 c)∧I6 w.heap S1 ks (ys.map a.eval) y []):=by
          by_cases hc:(H7.loose ks (s.C8 ys)).contains i=false
          ·have hy':AV.T5 s ks (s.C8 ys)=some (y,[],[]):=by
            unfold a30 at hy
            rw [hc] at hy
            exact hy
           exact b46 h hob m1 (by intro hm; simp [hm] at hc) hy'
          ·have hum:u.a5t=false:=by
            simp only [Bool.or_eq_true,Bool.not_eq_true'] at hmn
            exact hmn.resolve_right hc
           obtain ⟨rfl,hl0⟩:u=.d0 true t∧HEq l0 l:=by
            unfold muV at hmu
            split at hmu
            ·split at hmu
             ·rename_i e9; subst e9; cases hmu; exact ⟨rfl,HEq.rfl⟩
             ·cases hmu
            ·cases hum
            ·cases hmu
           obtain rfl:=eq_of_heq hl0
           exact a8x h hob hok hg hl hRo' m1 hy
         obtain ⟨S1,hS01,hS1,hS1d,hK2⟩:=hargsK
         have hOpb:∀ c∈Op,c∈i8 ι i e:=fun c hc=>B4 (m1 c hc)
         have hLS:∀ b∈Op++[],¬ S1 b∧b<w.heap.size:=by
          intro b hb
          have hb:b∈Op:=by simpa using hb
          exact ⟨hS1d b hb,(h.hs.bl i e hob b (hOpb b hb)).2.2⟩
         obtain ⟨Om,p1,p2,p3,p4,p5,p6⟩:=F3 hnb (h.hs.ob i e hob) h.hs.slt hok hg hl
         rw [mu1] at p3 p4 p6
         have hRu:d9 w.heap S u Op (d8 w.heap b off 1) l0:=by
          have:cs=d8 w.heap b off 1:=hcse
          rw [← this]; exact hRo0
         obtain rfl:Om=Op:=p3.det hRu
         rw [← mu1] at p3 p4 p6
         have hbOp:=(h.hs.ob i e hob).V3 hnb h.hs.slt hok hg hl p3
         -- the call
         have hV:=hE.G8 g _ hct
         obtain ⟨fnn,hfn,hname,hbody⟩:=hV.ent
         have hcall:=hV.run w S1 (a.eval x::ys.map a.eval) (l,y) (Om++[]) hS1 ((hE.gb.at_ h.hs).sub hS01) hp ⟨_,_,Om,[],rfl,rfl,⟨cs,hval,hRo.o4 (fun _ _=>rfl) hS01⟩,hK2⟩ (a0a (by rw [List.any_cons,a8y hy]; rfl)) (by simpa using mn) hLS
         refine ⟨g,(a.eval x::ys.map a.eval).toArray,?_,?_⟩
         ·have hnbd:fnn.body.isNone=false:=hbody
          have hq:(fnn.name == "runtime.NumGoroutine")=false:=hname
          have hargs:c.args.map a.eval=(a.eval x::ys.map a.eval).toArray:=by
           rw [← Array.toList_inj,Array.toList_map,ha]; simp
          have hev:a.eval (.func g)=.func (.func g) #[] #[]:=by simp [Act.eval]
          simp only [execOp,ho,resolve,hf,hev,Deferred.ofValue,Sem.run_bind,Sem.run_pure,Result.andThen,invoke,callFunc,program]
          simp [Sem.run,hfn,hq,hnbd]
          exact hargs
         ·refine Calls.mono hcall ?_
          rintro en w' ⟨us,O,Lo,S',rfl,hpast,hs1,hs2,hres,hout,hnd,hO⟩
          obtain ⟨rfl,rfl⟩:=hres
          refine ⟨_,rfl,?_⟩
          obtain ⟨cs1,O1,us1,L1,e1,e2,hRz,rfl,hout2⟩:=hout
          have hL1:=N2 hwt hout2
          subst hL1
          have hRz:=d9.E2 (S':=S) hnsh hRz
          have hnd1:O1.Nodup:=by simpa using hnd
          have hO1:∀ c∈O1,(w.heap.size≤c∨c∈Om)∧c<w'.heap.size:=fun c hc=>by
           obtain ⟨_,q2,q3⟩:=hO c (by simp [hc])
           exact ⟨by simpa using q2,q3⟩
          have hpast:w8 Om w w':=by simpa using hpast
          have hblt:=(hbl b p5).2
          have hbs:w'.heap[b]?=w.heap[b]?:=hpast.frame b hblt hbOp
          have hce:cs1=cs:=by
           have h1:j7 (.d0 true t) cs1=a.eval x:=by simpa using (List.cons.inj e1).1.symm
           rw [hval] at h1
           have h2:=hRo.length
           match cs,cs1,e2,h2,h1 with
           | [c],[c1],_,_,h1=>simpa [j7,Ty.agg] using h1
          subst hce
          have hz2:d9 w'.heap S (.d0 true t) O1 (d8 w'.heap b off (Ty.d0 true t).size) (out (l,y)).1:=by
           rw [j6 hbs,← hcse]; exact hRz
          have hch:N8 w'.heap w'.heap b off u.size:=by
           rw [mu1]
           obtain ⟨arr,T,⟨fz,e3,e4⟩,_⟩:=p6
           exact ⟨⟨arr,arr,T,⟨fz,⟨hbs.trans e3,e4⟩,hbs.trans e3⟩,rfl,fun _ _=>rfl⟩,fun _ _ _=>rfl⟩
          obtain ⟨O,n1,n2⟩:=OB.swap (h.hs.ob i e hob) hbl h.hs.slt hkd hok hg hl hpast.size p3 (fun c hc hn=>hpast.frame c hc hn) hch rfl (u':=(muB t u (out (l,y)).1).1) (z:=(muB t u (out (l,y)).1).2) (by rw [mu5]; exact mu4 hz2) (fun c hc=>by
           obtain ⟨q1,q2⟩:=hO1 c hc
           exact ⟨q2,fun hlt=>q1.resolve_left (by omega)⟩) hnd1 hset
          have hpast2:w8 (i8 ι i e) w w':=⟨hpast.os,hpast.tape,hpast.out,hpast.size,fun c hc hn=>hpast.frame c hc (fun hcO=>hn (hOpb c hcO))⟩
          have hrs:=h.renew hob (a6H hst) x4.nil (L:=i8 ι i e) hpast2 (fun b hb=>.inl hb) (fun _ h=>h) (fun _ h=>.inl h) (O':=O) n2 (fun c hc=>by
           have hcc:c∈i8 ι i e∨c∈O1:=by
            cases e with
            | var t9 x9 =>
             simp only [i8,f9.w4,Ix.t8,if_true,List.mem_cons] at hc ⊢
             rcases hc with hc|hc
             ·exact .inl (.inl hc)
             ·exact (n1 c hc).imp .inr id
            | own t9 x9 =>
             simp only [i8,f9.w4,Ix.t8,if_true] at hc ⊢
             exact n1 c hc
            | E8=>exact absurd rfl hnb
           rcases hcc with hcc|hcc
           ·exact ⟨(hbl c hcc).1,.inr hcc,by have:=(hbl c hcc).2; have:=hpast.size; omega⟩
           ·obtain ⟨q1,q2⟩:=hO1 c hcc
            have hnS:¬ S c:=by
             have:=(hO c (by simp [hcc])).1
             exact fun hs=>this (hs1 c (hS01 c hs))
            exact ⟨hnS,q1.imp id (hOpb c),q2⟩)
          exact ⟨_,hrs.put (by rw [hn]; exact hdo) ⟨[],rfl,rfl⟩⟩
        ·cases hb
       ·cases hb
      ·cases hb
     ·cases hb
    ·cases hb
   ·cases hb
  ·cases hb
 ·cases hb

/-! ### calls whose parameters are bound to one another -/
theorem b1V {i:Nat} {t:Ty} {x:t.den} {m:List Nat} {val:Value} (hx:(AV.ptr i []).G4 s (.rw t)=some (x,[],m)) (hv:VX w.heap S ι s.hp (.ptr i []) [val]) :
  m=[i]∧look i s.hp=some (.var t x)∧val=.pointer (some ⟨(ι.root i).1,(ι.root i).2,none⟩):=by
 simp only [AV.G4] at hx
 split at hx
 ·rename_i u y hob
  split at hx
  ·rename_i hu; subst hu; cases hx
   obtain ⟨e,b,off,h1,h2,h3,h4⟩:=hv
   obtain rfl:=U4 h1 hob
   have hl:(ι.root i).1=b∧(ι.root i).2=off:=by
    have:=(r9 h3).1
    simp only [Place,s8,VR,Option.some.injEq,Prod.mk.injEq] at this
    exact this
   obtain ⟨rfl,rfl⟩:=hl
   exact ⟨rfl,h1,by simpa using h4⟩
  ·cases hx
 ·cases hx

theorem b2p:∀ {q p:List Step} {k:Int},a9Z q p=some k→p=q++[.idx k]
 | [],[.idx k'],k,h=>by simp only [a9Z,Option.some.injEq] at h; rw [h]; rfl
 | .i9 a::q,.i9 b::p,k,h=>by
  simp only [a9Z] at h
  split at h
  ·rename_i hb
   rw [b2p h,Nat.eq_of_beq_eq_true hb]; rfl
  ·cases h
 | [],[],_,h=>by cases h
 | [],.i9 _::_,_,h=>by cases h
 | [],.idx _::_::_,_,h=>by cases h
 | .i9 _::_,[],_,h=>by cases h
 | .i9 _::_,.idx _::_,_,h=>by cases h
 | .idx _::_,_,_,h=>by cases h

def a45 (H:Array Go.Obj) (S:Nat→Prop) (tl:Option (FuncId×Nat)) (pre us0 vs:List Value):Prop :=
 match tl with
 | none=>vs=us0
 | some (f,k)=>k≤pre.length∧∃ b off,vs=us0++[.pointer (some ⟨b,off,none⟩)]∧S b∧off+1≤(o6 H b).length∧d8 H b off 1=[.func (.func f) #[] ((pre.take k).reverse++vs).toArray]

theorem a45.next {H:Array Go.Obj} {tl:Option (FuncId×Nat)} {pre us0 vs:List Value} {v:Value} (h:a45 H S tl pre (v::us0) vs):∃ vs',vs=v::vs'∧a45 H S (tl.map fun q=>(q.1,q.2+1)) (v::pre) us0 vs':=by
 cases tl with
 | none=>exact ⟨us0,h,rfl⟩
 | some q =>
  obtain ⟨f,k⟩:=q
  obtain ⟨hk,b,off,rfl,h1,h2,h3⟩:=h
  refine ⟨_,rfl,by simpa using hk,b,off,rfl,h1,h2,?_⟩
  rw [h3]
  simp [List.take_succ_cons]

theorem b51 (h:HS B S ι s.hp w) {S1:Nat→Prop} (hS:∀ b,S b→S1 b):∀ {v:AV} {ks:List PK} {x:DK ks} {c:Option Nat} {tl:Option (FuncId×Nat)} {pre us0 vs:List Value} {m:List Nat} {cc:Option (Sigma Ty.den)},
  E1 s v ks c tl=some (x,m)→VX w.heap S ι s.hp v us0→a45 w.heap S tl pre us0 vs→(∀ i,c=some i→∃ t y pre',cc=some ⟨t,y⟩∧look i s.hp=some (.var t y)∧pre=.pointer (some ⟨(ι.root i).1,(ι.root i).2,none⟩)::pre') →
  m.Nodup→(∀ b,E9 ι s.hp (a0j v ks) b→S1 b) →
  ∃ L,I6 w.heap S1 ks vs x L∧M0 w.heap S1 ks cc pre vs x∧L.Nodup∧(∀ b∈L,E9 ι s.hp m b)∧∀ i∈m,∀ e,look i s.hp=some e→∀ b∈i8 ι i e,b∈L:=by
 intro v
 induction v with
 | rc f l ih =>
  intro ks x c tl pre us0 vs m cc hx hv ht _ hnd hL
  cases tl with
  | some q=>cases ks<;>simp [E1] at hx
  | none =>
   have hx:E1 s l ks none (some (f,0))=some (x,m):=by cases ks<;>exact hx
   obtain ⟨b,off,us,rfl,h1,h2,h3,h4⟩:=hv
   have ht:vs=us++[.pointer (some ⟨b,off,none⟩)]:=ht
   subst ht
   refine ih hx h4 ⟨Nat.zero_le _,b,off,rfl,h1,h2,by rw [h3]; rfl⟩ (fun i hi=>by cases hi) hnd (fun c hc=>hL c ?_)
   have:a0j (.rc f l) ks=a0j l ks:=by cases ks<;>rfl
   rw [this]; exact hc
 | nil =>
  intro ks x c tl pre us0 vs m cc hx hv ht _ _ _
  have hv:us0=[]:=hv
  subst hv
  cases ks with
  | nil =>
   cases tl with
   | some q=>simp [E1] at hx
   | none =>
    simp only [E1] at hx
    cases hx
    have ht:vs=[]:=ht
    subst ht
    exact ⟨[],⟨rfl,rfl⟩,trivial,List.nodup_nil,by simp,by simp⟩
  | cons k ks =>
   cases k<;>first|(cases tl<;>simp [E1] at hx; done)|skip
   rename_i g n
   cases ks with
   | cons _ _=>cases tl<;>simp [E1] at hx
   | nil =>
    cases tl with
    | none=>simp [E1] at hx
    | some q =>
     obtain ⟨f,k⟩:=q
     simp only [E1] at hx
     split at hx
     ·rename_i hb
      rw [Bool.and_eq_true] at hb
      have e1:=Nat.eq_of_beq_eq_true hb.1
      have e2:=Nat.eq_of_beq_eq_true hb.2
      subst e1 e2
      cases hx
      obtain ⟨hk,b,off,rfl,h1,h2,h3⟩:=ht
      exact ⟨[],⟨_,[],[],[],rfl,rfl,rfl,rfl,rfl⟩,⟨⟨[],b,off,rfl,hS b h1,h2,h3,hk⟩,trivial⟩,List.nodup_nil,by simp,by simp⟩
     ·cases hx
 | cons a b iha ihb =>
  intro ks x c tl pre us0 vs m cc hx hv ht hc hnd hL
  obtain ⟨v,us,rfl,ha,hb⟩:=hv
  obtain ⟨vs',rfl,ht'⟩:=ht.next
  cases ks with
  | nil=>cases tl<;>simp [E1] at hx
  | cons k ks =>
   have read:∀ {x1:k.den} {y:DK ks} {m':List Nat},k.reads=true→a.G4 s k=some (x1,[],[])→E1 s b ks none (tl.map fun q=>(q.1,q.2+1))=some (y,m')→m'.Nodup→(∀ b',E9 ι s.hp (a.C2++a0j b ks) b'→S1 b')→(∀ vs x,M0 w.heap S1 (k::ks) cc pre vs x↔M0 w.heap S1 ks none (vs.take 1++pre) (vs.drop 1) x.2) →
     ∃ L,I6 w.heap S1 (k::ks) (v::vs') (x1,y) L∧M0 w.heap S1 (k::ks) cc pre (v::vs') (x1,y)∧L.Nodup∧(∀ b∈L,E9 ι s.hp m' b)∧∀ i∈m',∀ e,look i s.hp=some e→∀ b∈i8 ι i e,b∈L:=by
    intro x1 y m' hr h1 h2 hnd hL hlk
    obtain ⟨L1,k1,k2,k3,k4⟩:=a7Y h hS h1 ha (fun _ c hc=>hL c (by obtain ⟨i,e,q1,q2⟩:=hc; exact ⟨i,e,List.mem_append_left _ q1,q2⟩))
    have hL1:L1=[]:=by
     rw [List.eq_nil_iff_forall_not_mem]
     intro b hb
     obtain ⟨i,e,q,_⟩:=k3 b hb
     cases q
    subst hL1
    obtain ⟨L2,n1,n2,n3,n4,n5⟩:=ihb (cc:=none) (pre:=v::pre) h2 hb ht' (fun i hi=>by cases hi) hnd (fun c hc=>hL c (by obtain ⟨i,e,q1,q2⟩:=hc; exact ⟨i,e,List.mem_append_right _ q1,q2⟩))
    exact ⟨L2,⟨v,vs',[],L2,rfl,rfl,k1,n1⟩,(hlk _ _).2 n2,n3,n4,n5⟩
   cases k with
   | v t =>
    simp only [E1] at hx
    split at hx
    ·rename_i x1 h1
     split at hx
     ·rename_i y m' h2; cases hx
      exact read rfl h1 h2 hnd hL (fun _ _=>Iff.rfl)
     ·cases hx
    ·cases hx
   | rd t =>
    simp only [E1] at hx
    split at hx
    ·rename_i x1 h1
     split at hx
     ·rename_i y m' h2; cases hx
      exact read rfl h1 h2 hnd hL (fun _ _=>Iff.rfl)
     ·cases hx
    ·cases hx
   | rw t =>
    simp only [E1] at hx
    split at hx
    ·rename_i x1 m1 i h1
     split at hx
     ·rename_i y m' h2; cases hx
      obtain ⟨L1,k1,k2,k3,k4⟩:=a7Y h hS h1 ha (fun hr=>by simp [PK.reads] at hr)
      obtain ⟨rfl,hob,rfl⟩:=b1V h1 ha
      have hn2:=List.nodup_cons.1 hnd
      obtain ⟨L2,n1,n2,n3,n4,n5⟩:=ihb (cc:=some ⟨t,x1⟩) (pre:=_::pre) h2 hb ht' (fun j hj=>by cases hj; exact ⟨t,x1,pre,rfl,hob,rfl⟩) hn2.2 hL
      refine ⟨L1++L2,⟨_,vs',L1,L2,rfl,rfl,k1,n1⟩,n2,List.nodup_append.2 ⟨k2,n3,?_⟩,?_,?_⟩
      ·rintro c hc d hd rfl
       obtain ⟨i1,e,q1,q2,q3⟩:=k3 c hc
       obtain ⟨j,e',r1,r2,r3⟩:=n4 c hd
       have hi1:i1=i:=by simpa using q1
       subst hi1
       exact h.dj i1 j e e' q2 r2 (by rintro rfl; exact hn2.1 r1) c q3 r3
      ·intro c hc
       rcases List.mem_append.1 hc with hc|hc
       ·exact (k3 c hc).mono (by intro i hi; have:i=_:=(by simpa using hi); simp [this])
       ·exact (n4 c hc).mono (by intro i hi; simp [hi])
      ·intro j hj e he c hc
       rcases List.mem_cons.1 hj with rfl|hj
       ·exact List.mem_append_left _ (k4 _ (by simp) e he c hc)
       ·exact List.mem_append_right _ (n5 j hj e he c hc)
     ·cases hx
    ·cases hx
   | el q =>
    cases c with
    | none=>simp [E1] at hx
    | some j =>
     simp only [E1] at hx
     split at hx
     ·rename_i i p
      split at hx
      ·rename_i k hbq hk
       split at hx
       ·rename_i y m' h2; cases hx
        obtain ⟨t,y0,pre',rfl,hob,rfl⟩:=hc j rfl
        have hij:=Nat.eq_of_beq_eq_true hbq
        subst hij
        obtain rfl:=b2p hk
        obtain ⟨e,b1,off,h1,h3,h4,h5⟩:=ha
        rw [hob] at h1; cases h1
        obtain ⟨p1,p2⟩:=r9 h4
        obtain rfl:v=.pointer (some ⟨b1,off,none⟩):=by simpa using h5
        obtain ⟨L2,n1,n2,n3,n4,n5⟩:=ihb (cc:=none) (pre:=_::_) h2 hb ht' (fun i hi=>by cases hi) hnd hL
        exact ⟨L2,⟨_,vs',[],L2,rfl,rfl,rfl,n1⟩,⟨⟨t,y0,_,_,pre',b1,off,vs',rfl,rfl,rfl,h3,p1,p2⟩,n2⟩,n3,n4,n5⟩
       ·cases hx
      ·cases hx
     ·cases hx
   | _=>cases tl<;>cases c<;>simp [E1] at hx
 | _ =>
  intro ks x c tl pre us0 vs m cc hx
  cases ks<;>cases tl<;>simp [E1] at hx

theorem b6F {H':Array Go.Obj} {S':Nat→Prop}:∀ {v:AV} {ks:List PK} {x:DK ks} {c:Option Nat} {tl:Option (FuncId×Nat)} {pre us0 vs:List Value} {m:List Nat} {y:DL (u6 ks)} {l:List (Nat×Sigma Ty.den)} {Lo:List Nat},
  E1 s v ks c tl=some (x,m)→VX w.heap S ι s.hp v us0→a45 w.heap S tl pre us0 vs→wrL ks y m=some l→C0 H' S' ks vs y Lo→Lo.Nodup→m.Nodup →
  ∃ ι',(∀ j,j∉m→w6 ι ι' j)∧(∀ j,ι'.root j=ι.root j)∧(∀ j,ι'.cells j=ι.cells j)∧l.map (·.1)=m∧(∀ q∈l,∃ x0,look q.1 s.hp=some (.var q.2.1 x0))∧(∀ q∈l,OB H' S' ι' q.1 (.var q.2.1 q.2.2)) ∧
   (∀ q∈l,∀ c∈i8 ι' q.1 (.var q.2.1 q.2.2),c∈Lo)∧∀ q∈l,∀ r∈l,q.1≠r.1→∀ c∈i8 ι' q.1 (.var q.2.1 q.2.2),c∉i8 ι' r.1 (.var r.2.1 r.2.2):=by
 intro v
 induction v with
 | rc f l0 ih =>
  intro ks x c tl pre us0 vs m y l Lo hx hv ht hw ho hLn hnd
  cases tl with
  | some q=>cases ks<;>simp [E1] at hx
  | none =>
   have hx:E1 s l0 ks none (some (f,0))=some (x,m):=by cases ks<;>exact hx
   obtain ⟨b,off,us,rfl,h1,h2,h3,h4⟩:=hv
   have ht:vs=us++[.pointer (some ⟨b,off,none⟩)]:=ht
   subst ht
   exact ih (pre:=pre) hx h4 ⟨Nat.zero_le _,b,off,rfl,h1,h2,by rw [h3]; rfl⟩ hw ho hLn hnd
 | nil =>
  intro ks x c tl pre us0 vs m y l Lo hx hv ht hw ho hLn hnd
  have fin:m=[]→wrL ks y []=some l→∃ ι',(∀ j,j∉m→w6 ι ι' j)∧(∀ j,ι'.root j=ι.root j)∧(∀ j,ι'.cells j=ι.cells j)∧l.map (·.1)=m∧(∀ q∈l,∃ x0,look q.1 s.hp=some (.var q.2.1 x0))∧(∀ q∈l,OB H' S' ι' q.1 (.var q.2.1 q.2.2)) ∧
   (∀ q∈l,∀ c∈i8 ι' q.1 (.var q.2.1 q.2.2),c∈Lo)∧∀ q∈l,∀ r∈l,q.1≠r.1→∀ c∈i8 ι' q.1 (.var q.2.1 q.2.2),c∉i8 ι' r.1 (.var r.2.1 r.2.2):=by
   rintro rfl hw
   have hl:l=[]:=by
    cases ks with
    | nil=>simp only [wrL,Option.some.injEq] at hw; exact hw.symm
    | cons k ks =>
     cases k<;>first|(simp [wrL] at hw; done)|skip
     all_goals first|(exfalso; cases tl<;>simp [E1] at hx; done)|skip
     cases ks with
     | cons _ _=>cases tl<;>simp [E1] at hx
     | nil=>simp only [wrL,Option.some.injEq] at hw; exact hw.symm
   subst hl
   exact ⟨ι,fun j _=>w6.refl ι j,fun _=>rfl,fun _=>rfl,rfl,by simp,by simp,by simp,by simp⟩
  have hm:m=[]:=by
   cases ks with
   | nil =>
    cases tl with
    | some q=>simp [E1] at hx
    | none=>simp only [E1] at hx; cases hx; rfl
   | cons k ks =>
    cases k<;>first|(cases tl<;>simp [E1] at hx; done)|skip
    cases ks with
    | cons _ _=>cases tl<;>simp [E1] at hx
    | nil =>
     cases tl with
     | none=>simp [E1] at hx
     | some q =>
      simp only [E1] at hx
      split at hx
      ·cases hx; rfl
      ·cases hx
  exact fin hm (hm▸hw)
 | cons a b iha ihb =>
  intro ks x c tl pre us0 vs m y l Lo hx hv ht hw ho hLn hnd
  obtain ⟨v,us,rfl,ha,hb⟩:=hv
  obtain ⟨vs',rfl,ht'⟩:=ht.next
  cases ks with
  | nil=>cases tl<;>simp [E1] at hx
  | cons k ks =>
   cases k with
   | v t =>
    simp only [E1] at hx
    split at hx
    ·split at hx
     ·rename_i y m' h2; cases hx
      obtain ⟨v',us',e,ho'⟩:=ho
      cases e
      exact ihb h2 hb ht' hw ho' hLn hnd
     ·cases hx
    ·cases hx
   | rd t =>
    simp only [E1] at hx
    split at hx
    ·split at hx
     ·rename_i y m' h2; cases hx
      obtain ⟨v',us',e,ho'⟩:=ho
      cases e
      exact ihb h2 hb ht' hw ho' hLn hnd
     ·cases hx
    ·cases hx
   | el q =>
    cases c with
    | none=>simp [E1] at hx
    | some j =>
     simp only [E1] at hx
     split at hx
     ·split at hx
      ·split at hx
       ·rename_i y m' h2; cases hx
        obtain ⟨v',us',e,ho'⟩:=ho
        cases e
        exact ihb h2 hb ht' hw ho' hLn hnd
       ·cases hx
      ·cases hx
     ·cases hx
   | rw t =>
    simp only [E1] at hx
    split at hx
    ·rename_i x1 m1 i h1
     split at hx
     ·rename_i y' m' h2; cases hx
      obtain ⟨rfl,hob,rfl⟩:=b1V h1 ha
      have hn2:=List.nodup_cons.1 hnd
      obtain ⟨b1,off1,O,us',L',r1,r2,r3,r4,r5⟩:=ho
      simp only [List.cons.injEq,Value.pointer.injEq,Option.some.injEq,Addr.mk.injEq,and_true] at r1
      obtain ⟨⟨rfl,rfl⟩,rfl⟩:=r1
      subst r4
      have hw:(match wrL ks y.2 m' with
       | some l=>some ((i,(⟨t,y.1⟩:Sigma Ty.den))::l)
       | none=>none)=some l:=hw
      split at hw
      ·rename_i l2 hw2
       cases hw
       have hLn2:=List.nodup_append.1 hLn
       obtain ⟨ι2,g1,g2,g3,g4,g5,g6,g7,g8⟩:=ihb h2 hb ht' hw2 r5 hLn2.2.1 hn2.2
       have hne:∀ q∈l2,q.1≠i:=by
        intro q hq e
        apply hn2.1
        show i∈m'
        rw [← g4,← e]; exact List.mem_map.2 ⟨q,hq,rfl⟩
       have hsame:∀ j,j≠i→w6 ι2 (ι2.t8 i O) j:=fun j hj=>L8 hj _
       have hbi:i8 (ι2.t8 i O) i (.var t y.1)=(ι.root i).1::O:=by simp [i8,Ix.t8,g2]
       refine ⟨ι2.t8 i O,fun j hj=>?_,fun j=>g2 j,fun j=>g3 j,by rw [List.map_cons,g4]; rfl,?_,?_,?_,?_⟩
       ·have hj:j≠i∧j∉m':=by simpa using hj
        exact ⟨(hsame j hj.1).1.trans (g1 j hj.2).1,(hsame j hj.1).2.1.trans (g1 j hj.2).2.1,(hsame j hj.1).2.2.trans (g1 j hj.2).2.2⟩
       ·intro q hq
        rcases List.mem_cons.1 hq with rfl|hq
        ·exact ⟨x1,hob⟩
        ·exact g5 q hq
       ·intro q hq
        rcases List.mem_cons.1 hq with rfl|hq
        ·refine ⟨⟨O,by simp [Ix.t8],?_⟩,?_,?_⟩
         ·show d9 H' S' t O (d8 H' (ι2.root i).1 (ι2.root i).2 t.size) y.1
          rw [g2]; exact r2
         ·show I2 H' (ι2.root i).1 ((ι2.root i).2+t.size)
          rw [g2]; exact r3
         ·show ((ι2.root i).1::(ι2.t8 i O).own i).Nodup
          rw [g2]; simpa [Ix.t8] using hLn2.1
        ·exact (hsame q.1 (hne q hq)).ob.2 (g6 q hq)
       ·intro q hq c hc
        rcases List.mem_cons.1 hq with rfl|hq
        ·rw [hbi] at hc; exact List.mem_append_left _ hc
        ·rw [(hsame q.1 (hne q hq)).i8] at hc
         exact List.mem_append_right _ (g7 q hq c hc)
       ·intro q hq r hr hqr c hc
        rcases List.mem_cons.1 hq with rfl|hq
        ·rcases List.mem_cons.1 hr with rfl|hr
         ·exact absurd rfl hqr
         ·rw [hbi] at hc
          rw [(hsame r.1 (hne r hr)).i8]
          exact fun hcc=>hLn2.2.2 c hc c (g7 r hr c hcc) rfl
        ·rw [(hsame q.1 (hne q hq)).i8] at hc
         rcases List.mem_cons.1 hr with rfl|hr
         ·rw [hbi]
          exact fun hcc=>hLn2.2.2 c hcc c (g7 q hq c hc) rfl
         ·rw [(hsame r.1 (hne r hr)).i8]
          exact g8 q hq r hr hqr c hc
      ·cases hw
     ·cases hx
    ·cases hx
   | _=>cases tl<;>cases c<;>simp [E1] at hx
 | _ =>
  intro ks x c tl pre us0 vs m y l Lo hx
  cases ks<;>cases tl<;>simp [E1] at hx

theorem a4X {t:Ty} {ks:List PK} {x:DK (.rw t::ks)} {i j:Nat} {av:AV} (hx:E1 s (.cons (.ptr j []) av) (.rw t::ks) none none=some (x,[i])):look i s.hp=some (.var t x.1)∧i=j:=by
 unfold E1 at hx
 cases hobj:s.obj j with
 | none=>simp only [AV.G4,hobj] at hx; cases hx
 | some e =>
  have k1:look j s.hp=some e:=hobj
  simp only [AV.G4,hobj] at hx
  cases e with
  | var u x1 =>
   by_cases hu:u=t
   ·subst hu
    simp only [dif_pos,D8] at hx
    split at hx
    ·rename_i y m' hr
     have hx0:=Option.some.inj hx
     have hx1:=congrArg Prod.fst hx0
     have hx2:[j]++m'=[i]:=congrArg Prod.snd hx0
     simp only [List.singleton_append,List.cons.injEq] at hx2
     have hji:=hx2.1
     subst hji
     refine ⟨?_,rfl⟩
     have hx2:(x1,y)=x:=hx1
     subst hx2
     exact k1
    ·cases hx
   ·simp only [dif_neg hu] at hx
    cases hx
  | own u x1=>cases hx
  | E8=>cases hx

theorem b4F {t:Ty} {ks:List PK} {x:DK (.rw t::ks)} {i j:Nat} {av:AV} {z:DL (u6 (.rw t::ks))} {l:List (Nat×Sigma Ty.den)} {vs:List Value} {H':Array Go.Obj} {p:List Step} (hx:E1 s (.cons (.ptr j []) av) (.rw t::ks) none none=some (x,[i])) (hw:wrL (.rw t::ks) z [i]=some l)
  (g4:l.map (·.1)=[i]) (hargs:VX w.heap S ι s.hp (.cons (.ptr j []) av) vs) (hK:b0v p w.heap H' (.rw t::ks) vs z) :
  l=[(i,⟨t,z.1⟩)]∧s6 t z.1 p∧s9 H' t p (ι.root i).1 (ι.root i).2=s9 w.heap t p (ι.root i).1 (ι.root i).2:=by
 obtain ⟨hlk,rfl⟩:=a4X hx
 obtain ⟨v,us,rfl,hv,_⟩:=hargs
 obtain ⟨e,b,off,k1,k2,k3,k4⟩:=hv
 rw [hlk] at k1
 cases k1
 have e4:v=.pointer (some ⟨b,off,none⟩):=by simpa using k4
 subst e4
 have hb:ι.root i=(b,off):=by
  obtain ⟨p1,_⟩:=r9 k3
  have hne:=a1y p1
  rw [C3 hne,s8] at p1
  have:=Option.some.inj p1; exact this
 unfold wrL at hw
 split at hw
 ·rename_i l2 hl2
  cases hw
  simp only [List.map_cons,List.cons.injEq,List.map_eq_nil_iff,true_and] at g4
  subst g4
  exact ⟨rfl,by rw [hb]; exact hK⟩
 ·cases hw

theorem RS.slot (h:RS B S ι s a w) {t:Nat} {v:AV} (hv:VX w.heap S ι s.hp v [a.tmps.getD t (B.gd t)]):RS B S ι { s with fr:=Ex.put t v s.fr } a w:=by
 refine ⟨h.hs,h.W7,h.sz,?_⟩
 intro t' v' ht
 simp only [l7] at ht
 by_cases e:t'=t
 ·subst e
  rw [if_pos rfl] at ht; cases ht; exact hv
 ·rw [if_neg e] at ht; exact h.fr t' v' ht

theorem b1D (hE:t7 E B) (hn:B.n=E.nt) (h:RS B S ι s a w) {o:Oper} {p:Prop} {s2:St} (hb:a9f E o s=some (p,s2)) (hp:p) :
  o.guard=none∧R6 E.P o a w (fun v' w'=>∃ ι',RS B S ι' s2 (a.put o.dst v') w'):=by
 unfold a9f at hb
 split at hb
 ·rename_i c hgd hdo ho
  refine ⟨hgd,?_⟩
  split at hb
  ·rename_i f hf
   split at hb
   ·rename_i g caps hfv
    split at hb
    ·rename_i ks pre fn out nw hct
     split at hb
     ·rename_i x m hx
      split at hb
      ·rename_i hck
       split at hb
       ·rename_i l hwl
        cases hb
        simp only [Bool.and_eq_true] at hck
        obtain ⟨⟨hk1,hk2⟩,hk3⟩:=hck
        have hnd:=X3 hk1
        obtain ⟨us,he,hcap⟩:=t6 h hfv
        have he:a.eval f=.func (.func g) #[] us.toArray:=by simpa using he
        have hargs:=VX.app (a7P s _) (h.C8 c.args.toList) hcap
        generalize hav:(s.C8 c.args.toList).app caps=av at *
        let S1:Nat→Prop:=fun b=>S b∨E9 ι s.hp (a0j av ks) b
        obtain ⟨L,hK,hKl,hLn,hLb,hLm⟩:=b51 (S1:=S1) (cc:=none) (pre:=[]) (vs:=c.args.toList.map a.eval++us) h.hs (fun b hb=>.inl hb) hx hargs rfl (fun i hi=>by cases hi) hnd (fun b hb=>.inr hb)
        have hS1:∀ b,S1 b→b<w.heap.size:=by
         rintro b (hb|⟨i,e,h1,h2,h3⟩)
         ·exact h.hs.slt b hb
         ·exact (h.hs.bl i e h2 b h3).2.2
        have hLS:∀ b∈L,¬ S1 b∧b<w.heap.size:=by
         intro b hb
         obtain ⟨i,e,h1,h2,h3⟩:=hLb b hb
         obtain ⟨q1,q2,q3⟩:=h.hs.bl i e h2 b h3
         refine ⟨?_,q3⟩
         rintro (hs|⟨j,ej,r1,r2,r3⟩)
         ·exact q1 hs
         ·have hij:i≠j:=by rintro rfl; exact a4P hk2 i h1 r1
          exact h.hs.dj i j e ej h2 r2 hij b h3 r3
        have hV:=hE.G8 g _ hct
        obtain ⟨fnn,hfn,hname,hbody⟩:=hV.ent
        have hcall:Calls E.P g (c.args.toList.map a.eval++us).toArray w (fun e w'=>a0V w S1 [] ks (c.args.toList.map a.eval++us) L (fn x) (out x) e w'∧∀ t j p,a7I E g ks m av s=some (t,j,p)→∃ t0 ks' av',ks=.rw t0::ks'∧m=[j]∧(∃ j',av=.cons (.ptr j' []) av')∧look t s.fr=some (.ptr j p)∧b0v p w.heap w'.heap ks (c.args.toList.map a.eval++us) (out x)):=by
         cases hkp:a7I E g ks m av s with
         | none=>exact (hV.run w S1 (c.args.toList.map a.eval++us) x L hS1 ((hE.gb.at_ h.hs).sub (fun b hb=>.inl hb)) hp hK hKl hLn hLS).mono (fun e w' hw=>⟨hw,fun _ _ _ hpm=>by cases hpm⟩)
         | some r =>
          obtain ⟨t,j,p⟩:=r
          unfold a7I at hkp
          split at hkp
          ·rename_i pat t0 ks0 i0 j0 av0 hlk _
           split at hkp
           ·rename_i t1 hfk
            split at hkp
            ·rename_i j1 p1 hl1
             split at hkp
             ·rename_i hbq
              simp only [Option.some.injEq,Prod.mk.injEq] at hkp
              obtain ⟨rfl,rfl,rfl⟩:=hkp
              simp only [Bool.and_eq_true] at hbq
              have hji:=Nat.eq_of_beq_eq_true hbq.1
              subst hji
              have hok:b5g p1 (.rw t0::ks0) x:=by
               obtain ⟨hlk1,_⟩:=a4X hx
               obtain ⟨e,b,off,k1,k2,_⟩:=h.fr t1 _ hl1
               rw [hlk1] at k1
               cases k1
               exact k2
              refine (hE.kept g _ pat hct hlk w S1 (c.args.toList.map a.eval++us) x L hS1 ((hE.gb.at_ h.hs).sub (fun b hb=>.inl hb)) hp hK hKl hLn hLS p1 hbq.2 hok).mono (fun e w' hw=>⟨hw.1,?_⟩)
              intro t j p hr
              cases hr
              exact ⟨t0,ks0,av0,rfl,rfl,⟨j0,rfl⟩,hl1,hw.2⟩
             ·cases hkp
            ·cases hkp
           ·cases hkp
          ·cases hkp
        refine ⟨g,(c.args.toList.map a.eval++us).toArray,?_,?_⟩
        ·have hnb:fnn.body.isNone=false:=hbody
         have hq:(fnn.name == "runtime.NumGoroutine")=false:=hname
         simp only [execOp,ho,resolve,hf,he,Deferred.ofValue,Sem.run_bind,Sem.run_pure,Result.andThen,invoke,callFunc,program]
         simp [Sem.run,hfn,hq,hnb]
        ·refine Calls.mono hcall ?_
         rintro en w' ⟨⟨rs,O,Lo,S',rfl,hpast,hs1,hs2,hres,hout,hndO,hO⟩,hkp⟩
         obtain ⟨rfl,rfl⟩:=hres
         refine ⟨_,rfl,?_⟩
         have hout2:=C0.E2 (S':=S) hk3 hout
         rw [List.nil_append] at hndO
         obtain ⟨ι',g1,g2,g3,g4,g5,g6,g7,g8⟩:=b6F (pre:=[]) hx hargs rfl hwl hout2 hndO hnd
         have hrs:=h.b7z (ι':=ι') (S':=S) (by rw [g4]; exact hnd) g5 hpast (fun b hb=>by
          obtain ⟨i,e,h1,h2,h3⟩:=hLb b hb
          rw [← g4] at h1
          obtain ⟨q,hq,rfl⟩:=List.mem_map.1 h1
          exact ⟨q,hq,e,h2,h3⟩) (fun _ h=>h) (fun _ h=>.inl h) (fun j hj=>g1 j (by
           rw [← g4]; intro hm
           obtain ⟨q,hq,e⟩:=List.mem_map.1 hm
           exact hj q hq e)) g2 g3 g6 (fun q hq c hc=>by
           obtain ⟨q1,q2,q3⟩:=hO c (by simpa using g7 q hq c hc)
           exact ⟨fun hs=>q1 (hs1 c (.inl hs)),q2,q3⟩) g8 (kp:=fun _=>false) (fun _ _ _ _ _ hf=>by cases hf)
         rw [g4] at hrs
         rw [← hn] at hdo
         have hrs2:RS B S ι' (St.b6w (a7I E g ks m av s) (s.wrs (fun _=>false) m l)) a w':=by
          cases hkq:a7I E g ks m av s with
          | none=>exact hrs
          | some r =>
           obtain ⟨t,j,p⟩:=r
           obtain ⟨t0,ks',av',rfl,rfl,⟨j',rfl⟩,hl1,hKp⟩:=hkp t j p hkq
           obtain ⟨hl,hz1,hz2⟩:=b4F hx hwl g4 hargs hKp
           obtain ⟨hlk1,_⟩:=a4X hx
           obtain ⟨e,b,off,k1,k2,k3,k4⟩:=h.fr t _ hl1
           rw [hlk1] at k1
           cases k1
           refine hrs.slot ⟨.var t0 (out x).1,b,off,?_,hz1,?_,k4⟩
           ·rw [hl]
            show look j (a2U [(j,⟨t0,(out x).1⟩)] s.hp)=_
            simp only [a2U,l7,if_pos]
           ·obtain ⟨p1,p2⟩:=r9 k3
            exact M5 (e:=.var t0 (out x).1) (by show s9 w'.heap t0 p (ι'.root j).1 (ι'.root j).2=_; rw [g2,hz2]; exact p1) (Nat.lt_of_lt_of_le p2 hpast.size)
         exact ⟨ι',hrs2.put hdo ⟨[],rfl,rfl⟩⟩
       ·cases hb
      ·cases hb
     ·cases hb
    ·cases hb
   ·cases hb
  ·cases hb
 ·cases hb


theorem b0h {d:Nat} {H:Array Go.Obj} {hp:List (Nat×f9)}:∀ {caps l:AV} {vs:List Value},AV.a13 d caps=some l→VX H S ι hp caps vs→∃ us v,vs=us++[v]∧VX H S ι hp l us∧VX H S ι hp (.ptr d []) [v]∧l.e8 d=false:=by
 intro caps
 induction caps with
 | cons a b iha ihb =>
  intro l vs hl hv
  obtain ⟨v,us,rfl,ha,hb⟩:=hv
  have step:(match a.e8 d,AV.a13 d b with|false,some l=>some (AV.cons a l)|_,_=>none)=some l→∃ us' v',v::us=us'++[v']∧VX H S ι hp l us'∧VX H S ι hp (.ptr d []) [v']∧l.e8 d=false:=by
   intro h
   split at h
   ·rename_i l2 hm h2
    cases h
    obtain ⟨us2,v2,rfl,k1,k2,k3⟩:=ihb h2 hb
    exact ⟨v::us2,v2,rfl,⟨v,us2,rfl,ha,k1⟩,k2,by simp [AV.e8,hm,k3]⟩
   ·cases h
  unfold AV.a13 at hl
  split at hl
  ·rename_i j heq
   cases heq
   split at hl
   ·rename_i hj
    cases hl
    have hj:=Nat.eq_of_beq_eq_true hj
    subst hj
    have hb:us=[]:=hb
    subst hb
    exact ⟨[],v,rfl,rfl,ha,rfl⟩
   ·cases hl
  ·rename_i heq
   cases heq
   exact step hl
  ·cases hl
 | _=>intro l vs hl; simp [AV.a13] at hl

theorem RS.shut (h:RS B S ι s a w) (hM:∀ b,¬ B.M b) {d:Nat} {u0:Ty} {x:u0.den} (he:look d s.hp=some (.var u0 x)) (hu0:u0.size=1) (hpd:pinned d=false) {r:AV} {val:Value}
  (hr:∀ {w':World} {S':Nat→Prop},S' (ι.root d).1→(ι.root d).2+1≤(o6 w'.heap (ι.root d).1).length→d8 w'.heap (ι.root d).1 (ι.root d).2 1=[val]→(∀ {u:AV} {vs:List Value},u.e8 d=false→VX w.heap S ι s.hp u vs→VX w'.heap S' ι (del d s.hp) u vs) →
   VX w'.heap S' ι (del d s.hp) r [.pointer (some ⟨(ι.root d).1,(ι.root d).2,none⟩)]) :
  RS B (fun b=>S b∨b=(ι.root d).1) ι { fr:=mapA (AV.map (AV.b2Q d r)) s.fr,hp:=del d s.hp } a
   (w.setRow (ι.root d).1 (x8 (o6 w.heap (ι.root d).1) (ι.root d).2 [val]).toArray):=by
 obtain ⟨⟨O,hO,hR⟩,hf,hnd⟩:=h.hs.ob d _ he
 have hf:I2 w.heap (ι.root d).1 ((ι.root d).2+[val].length):=by
  rw [hu0] at hf; exact hf
 obtain ⟨hc,hcell⟩:=a1q hf
 have hsz:(w.setRow (ι.root d).1 (x8 (o6 w.heap (ι.root d).1) (ι.root d).2 [val]).toArray).heap.size=w.heap.size:=setRow_size
 have hbl:=h.hs.bl d _ he
 have hrb:(ι.root d).1∈i8 ι d (.var u0 x):=by simp [i8]
 obtain ⟨q1,q2,q3⟩:=hbl _ hrb
 have hnew:B.w0.heap.size≤(ι.root d).1:=q2.resolve_right (hM _)
 have hos:(w.setRow (ι.root d).1 (x8 (o6 w.heap (ι.root d).1) (ι.root d).2 [val]).toArray).os=w.os:=rfl
 have htp:K3 w (w.setRow (ι.root d).1 (x8 (o6 w.heap (ι.root d).1) (ι.root d).2 [val]).toArray):=K3.of rfl rfl
 have hou:(w.setRow (ι.root d).1 (x8 (o6 w.heap (ι.root d).1) (ι.root d).2 [val]).toArray).output=w.output:=rfl
 have hold:∀ c,c≠(ι.root d).1→(w.setRow (ι.root d).1 (x8 (o6 w.heap (ι.root d).1) (ι.root d).2 [val]).toArray).heap[c]?=w.heap[c]?:=fun c hcb=>setRow_other hcb
 generalize hw':w.setRow (ι.root d).1 (x8 (o6 w.heap (ι.root d).1) (ι.root d).2 [val]).toArray=w' at *
 have hother:∀ j ej,look j (del d s.hp)=some ej→j≠d∧look j s.hp=some ej:=by
  intro j ej hj
  rw [E3] at hj
  split at hj
  ·cases hj
  ·rename_i hjd; exact ⟨hjd,hj⟩
 have hnb:∀ j ej,look j (del d s.hp)=some ej→(ι.root d).1∉i8 ι j ej:=by
  intro j ej hj
  obtain ⟨h1,h2⟩:=hother j ej hj
  exact h.hs.dj d j _ ej he h2 (Ne.symm h1) _ hrb
 have hSold:∀ b,S b→w'.heap[b]?=w.heap[b]?:=fun b hb=>hold b (by rintro rfl; exact q1 hb)
 have o4:∀ {u:AV} {vs:List Value},u.e8 d=false→VX w.heap S ι s.hp u vs→VX w'.heap (fun b=>S b∨b=(ι.root d).1) ι (del d s.hp) u vs:=by
  intro u vs hm hu
  have h1:VX w.heap S ι (del d s.hp) u vs:=VX.other (fun i hi=>by
   rw [E3,if_neg]
   rintro rfl; rw [hm] at hi; cases hi) (fun j _=>w6.refl ι j) hu
  refine VX.grow (fun c hcm=>hold c ?_) (fun b hb=>.inl hb) h.hs.slt (fun j ej hj=>h.hs.ob j ej (hother j ej hj).2) h1
  rintro rfl
  rcases hcm with ⟨j,ej,hj,hcj⟩|hcm
  ·exact hnb j ej hj hcj
  ·exact q1 hcm
 refine ⟨⟨hos.trans h.hs.os,htp.trans h.hs.tape,hou.trans h.hs.out,by rw [hsz]; exact h.hs.size,?_,?_,fun b hb=>.inl (h.hs.s0 b hb),?_,?_,?_,?_,?_⟩,h.W7,h.sz,?_⟩
 ·intro c hc' hm
  rw [hold c (by rintro rfl; omega)]
  exact h.hs.frame c hc' hm
 ·rintro b (hb|rfl)
  ·rw [hsz]; exact h.hs.slt b hb
  ·rw [hsz]; exact q3
 ·rintro b (hb|rfl)
  ·exact h.hs.s1 b hb
  ·exact .inr hnew
 ·intro j ej hj
  obtain ⟨h1,h2⟩:=hother j ej hj
  refine (h.hs.ob j ej h2).o4 (fun c hc'=>hold c ?_) (fun _ h=>.inl h)
  rintro rfl
  rcases hc' with hc'|hc'
  ·exact hnb j ej hj hc'
  ·exact q1 hc'
 ·intro j ej hj b hb
  obtain ⟨h1,h2⟩:=hother j ej hj
  obtain ⟨r1,r2,r3⟩:=h.hs.bl j ej h2 b hb
  refine ⟨?_,r2,by rw [hsz]; exact r3⟩
  rintro (hs|rfl)
  ·exact r1 hs
  ·exact hnb j ej hj hb
 ·intro j k ej ek hj hk hjk
  exact h.hs.dj j k ej ek (hother j ej hj).2 (hother k ek hk).2 hjk
 ·intro q hq
  obtain ⟨k0,⟨e1,k1⟩,k2,k3⟩:=h.hs.pin q hq
  refine ⟨k0,⟨e1,?_⟩,k2,k3⟩
  rw [E3,if_neg]
  ·exact k1
  ·intro e2; rw [e2,hpd] at k0; cases k0
 ·intro t v hv2
  simp only [D3,Option.map_eq_some_iff] at hv2
  obtain ⟨v1,hv1,rfl⟩:=hv2
  refine VX.map hSold (fun b hb=>.inl hb) (fun u vs hr1 _ hvx=>?_) (h.fr t v1 hv1)
  have honex:=VX.one hr1 hvx
  unfold AV.b2Q
  cases hmd:u.e8 d with
  | false=>exact o4 hmd hvx
  | true =>
   simp only
   split
   ·rename_i j _
    have hj:d=j:=Nat.eq_of_beq_eq_true hmd
    subst hj
    obtain ⟨e,b2,off2,k1,k2,k3,k4⟩:=hvx
    rw [he] at k1; cases k1
    have hl2:(ι.root d).1=b2∧(ι.root d).2=off2:=by
     have:=(r9 k3).1
     simp only [Place,s8,VR,Option.some.injEq,Prod.mk.injEq] at this
     exact this
    obtain ⟨rfl,rfl⟩:=hl2
    have hbound:(ι.root d).2+1≤(o6 w'.heap (ι.root d).1).length:=by
     obtain ⟨arr,arr',T,⟨fz,⟨e1,_⟩,e2⟩,e3,_⟩:=hc.at_
     obtain ⟨arr2,T2,⟨fz2,e4,_⟩,e5⟩:=hf
     rw [e1] at e4; cases e4
     simp only [o6,e2,Array.length_toList,e3]
     simpa using e5
    rw [k4]
    exact hr (.inr rfl) hbound hcell o4
   ·exact honex

theorem b2O (h:RS B S ι s a w) {T:TypeId} {d:Nat} {u0:Ty} {x0:u0.den} (hE:t7 E B) (hob:look d s.hp=some (.var u0 x0)) {x:Operand} {r:AV} (hr:b2P (look T E.tt) d u0 (s.ev x)=some r) :
  u0.size=1∧(∃ t,n7 E.P 100 T t=true∧t.size=1)∧(a.eval x).cells=#[a.eval x]∧(a.eval x).oneCell'=true∧∀ {w':World} {S':Nat→Prop},S' (ι.root d).1→(ι.root d).2+1≤(o6 w'.heap (ι.root d).1).length→d8 w'.heap (ι.root d).1 (ι.root d).2 1=[a.eval x] →
   (∀ {u:AV} {vs:List Value},u.e8 d=false→VX w.heap S ι s.hp u vs→VX w'.heap S' ι (del d s.hp) u vs)→VX w'.heap S' ι (del d s.hp) r [.pointer (some ⟨(ι.root d).1,(ι.root d).2,none⟩)]:=by
 unfold b2P at hr
 split at hr
 ·rename_i hx hT
  split at hr
  ·rename_i l hbl
   cases hr
   obtain ⟨us0,e0,hv⟩:=t6 h hx
   have e0:=(List.cons.inj e0).1
   refine ⟨rfl,⟨_,w7 hE hT,rfl⟩,by rw [e0]; rfl,by rw [e0]; rfl,fun hS hbd hcell o4=>?_⟩
   obtain ⟨us,v0,rfl,hl,hp0,hlm⟩:=b0h hbl hv
   obtain ⟨e',b3,off3,m1,m2,m3,m4⟩:=hp0
   rw [hob] at m1; cases m1
   have hl2:(ι.root d).1=b3∧(ι.root d).2=off3:=by
    have:=(r9 m3).1
    simp only [Place,s8,VR,Option.some.injEq,Prod.mk.injEq] at this
    exact this
   obtain ⟨rfl,rfl⟩:=hl2
   obtain rfl:v0=.pointer (some ⟨(ι.root d).1,(ι.root d).2,none⟩):=by simpa using m4
   rw [e0] at hcell
   exact ⟨_,_,_,rfl,hS,hbd,hcell,us++[_],rfl,_,_,us,rfl,hS,hbd,hcell,o4 hlm hl⟩
  ·cases hr
 ·rename_i hx hT
  split at hr
  ·rename_i hne
   cases hr
   have hv:=t6 h hx
   obtain ⟨e,b,off,h1,h2,h3,h4⟩:=hv
   have h4':a.eval x=.pointer (some ⟨b,off,none⟩):=by simpa using h4
   refine ⟨rfl,⟨_,w7 hE hT,rfl⟩,by rw [h4']; rfl,by rw [h4']; rfl,fun hS hbd hcell o4=>?_⟩
   exact ⟨_,_,_,rfl,hS,hbd,hcell,o4 (a0U (by rintro rfl; simp at hne)) (t6 h hx)⟩
  ·cases hr
 ·cases hr

theorem b0Y (hE:t7 E B) (hn:B.n=E.nt) (hM:E.ps.any PK.i7=false→∀ b,¬ B.M b) (h:RS B S ι s a w) {o:Oper} {s2:St} (hb:a86 E o s=some s2) :
  o.guard=none∧∀ (next:Act→World→Prop) (Q:Exit→Act→World→Prop),(∀ S' ι' a' w',RS B S' ι' s2 a' w'→next a' w')→o.wp E.P a w next Q:=by
 unfold a86 at hb
 split at hb
 ·rename_i T ad x hps hg hdo ho
  refine ⟨hg,fun next Q hn2=>?_⟩
  split at hb
  ·rename_i d had
   split at hb
   ·rename_i u0 y hob hpd
    split at hb
    ·rename_i r hr
     cases hb
     have hob:look d s.hp=some (.var u0 y):=hob
     obtain ⟨hu0,⟨t,hta,hts⟩,hcl,hone,hrr⟩:=b2O h hE hob hr
     obtain ⟨e,b,off,h1,h2,h3,h4⟩:=t6 h had
     rw [hob] at h1; cases h1
     have hl2:(ι.root d).1=b∧(ι.root d).2=off:=by
      have:=(r9 h3).1
      simp only [Place,s8,VR,Option.some.injEq,Prod.mk.injEq] at this
      exact this
     obtain ⟨rfl,rfl⟩:=hl2
     have h4:a.eval ad=.pointer (some ⟨(ι.root d).1,(ι.root d).2,none⟩):=by simpa using h4
     have hs:=h.shut (hM hps) hob hu0 hpd (r:=r) (val:=a.eval x) hrr
     obtain ⟨_,⟨arr,T',⟨fz,e,ef⟩,hnn⟩,_⟩:=h.hs.ob d _ hob
     rw [hu0] at hnn
     have hrun:(execOp a.eval o).run E.P w=.ok .skip (w.setRow (ι.root d).1 (x8 (o6 w.heap (ι.root d).1) (ι.root d).2 [a.eval x]).toArray):=by
      have h9:=N4 (P:=E.P) (ι.root d).1 (ι.root d).2 T' fz [a.eval x] 0 arr w ⟨e,ef⟩ (by simpa using hnn) (by simpa using hone)
      have hbk:o6 w.heap (ι.root d).1=arr.toList:=by simp only [o6,e]
      have hsv:(storeVar T ⟨(ι.root d).1,(ι.root d).2,none⟩ (a.eval x)).run E.P w=.ok () (w.setRow (ι.root d).1 (x8 (o6 w.heap (ι.root d).1) (ι.root d).2 [a.eval x]).toArray):=by
       simp only [storeVar,Sem.run_bind,run_sizeOf hta,Result.andThen,hcl,hts]
       simp only [List.size_toArray,List.length_cons,List.length_nil,Nat.zero_add,ne_eq,not_true_eq_false,if_false]
       simp only [Nat.add_zero] at h9
       rw [hbk,x8]
       simpa [Sem.run] using h9
      simp [execOp,ho,h4,Instr.storeAt,Instr.sureAddr,hsv]
     unfold Oper.wp
     rw [hrun]
     rw [← hn] at hdo
     exact hn2 _ ι _ _ (hs.put hdo (v:=.raw undef) (val:=undef) rfl)
    ·cases hb
   ·cases hb
  ·cases hb
 ·cases hb

theorem a5J (hE:t7 E B) (hn:B.n=E.nt) (hM:E.ps.any PK.i7=false→∀ b,¬ B.M b) (h:RS B S ι s a w) {o:Oper} {p:Prop} {s2:St} (hb:a5s E o s=some (p,s2)) (hp:p) :
  o.guard=none∧∀ (next:Act→World→Prop) (Q:Exit→Act→World→Prop),(∀ S' ι' a' w',RS B S' ι' s2 a' w'→next a' w')→o.wp E.P a w next Q:=by
 unfold a5s at hb
 split at hb
 ·rename_i r hr
  cases hb
  obtain ⟨hg,hrun⟩:=b1D hE hn h hr hp
  exact ⟨hg,fun next Q hn2=>hrun.wp (fun v' w' hw=>by obtain ⟨ι',h'⟩:=hw; exact hn2 S ι' _ w' h')⟩
 ·split at hb
  ·rename_i s' hs
   cases hb
   exact b0Y hE hn hM h hs
  ·exact b3Q hE hn h hb hp


theorem RS.b4V (h:RS B S ι s a w) (hM:∀ b,¬ B.M b) {i:Nat} {u t:Ty} {y:u.den} {z:t.den} (he:look i s.hp=some (.var u y)) (hz:a4Q u t y=some z):∃ S' ι',RS B S' ι' ((s.a67 i).o7 i (.var t z)) a w:=by
 obtain ⟨⟨O,hO,hR⟩,hf,hnd⟩:=h.hs.ob i _ he
 obtain ⟨O1,D,p1,p2,p3⟩:=b5U hz hR
 have hp:(ι.own i).Perm (O1++D):=hO.symm.trans p1
 have hDi:∀ b∈D,b∈ι.own i:=fun b hb=>hp.mem_iff.2 (by simp [hb])
 have hOi:∀ b∈O1,b∈ι.own i:=fun b hb=>hp.mem_iff.2 (by simp [hb])
 have hnd2:(O1++D).Nodup:=(hp.nodup_iff).1 (List.nodup_cons.1 hnd).2
 have hroot:=(List.nodup_cons.1 hnd).1
 have hbl:=h.hs.bl i _ he
 have hown:∀ b∈ι.own i,b∈i8 ι i (.var u y):=fun b hb=>by simp [i8,hb]
 have hsame:∀ j,j≠i→w6 ι (ι.t8 i O1) j:=fun j hj=>L8 hj _
 have hsub:∀ b∈i8 (ι.t8 i O1) i (.var t z),b∈i8 ι i (.var u y)∧b∉D:=by
  intro b hb
  have hb:b∈(ι.root i).1::(ι.t8 i O1).own i:=hb
  simp only [Ix.t8,if_true] at hb
  refine (List.mem_cons.1 hb).elim (fun e=>⟨by simp [i8,e],fun hD=>hroot (e▸hDi b hD)⟩) (fun e=>⟨hown b (hOi b e),fun hD=>(List.nodup_append.1 hnd2).2.2 b e b hD rfl⟩)
 refine ⟨fun b=>S b∨b∈D,ι.t8 i O1,⟨h.hs.os,h.hs.tape,h.hs.out,h.hs.size,h.hs.frame,?_,fun b hb=>.inl (h.hs.s0 b hb),?_,?_,?_,?_,?_⟩,h.W7,h.sz,?_⟩
 ·rintro b (hb|hb)
  ·exact h.hs.slt b hb
  ·exact (hbl b (hown b (hDi b hb))).2.2
 ·rintro b (hb|hb)
  ·exact h.hs.s1 b hb
  ·rcases (hbl b (hown b (hDi b hb))).2.1 with q|q
   ·exact .inr q
   ·exact absurd q (hM b)
 ·intro j ej hj
  simp only [St.o7,l7] at hj
  by_cases e1:j=i
  ·subst e1; rw [if_pos rfl] at hj; cases hj
   refine ⟨⟨O1,by simp [Ix.t8],?_⟩,?_,?_⟩
   ·have:=p3 (fun b=>S b∨b∈D) (fun _ h=>.inl h) (fun _ h=>.inr h)
    rw [← p2] at this
    exact this
   ·rw [p2]; exact hf
   ·show ((ι.root j).1::(ι.t8 j O1).own j).Nodup
    simp only [Ix.t8,if_true]
    exact List.nodup_cons.2 ⟨fun h=>hroot (hOi _ h),(List.nodup_append.1 hnd2).1⟩
  ·rw [if_neg e1] at hj
   exact (hsame j e1).ob.2 ((h.hs.ob j ej hj).o4 (fun _ _=>rfl) (fun _ h=>.inl h))
 ·intro j ej hj b hb
  simp only [St.o7,l7] at hj
  by_cases e1:j=i
  ·subst e1; rw [if_pos rfl] at hj; cases hj
   obtain ⟨q1,q2⟩:=hsub b hb
   obtain ⟨r1,r2,r3⟩:=hbl b q1
   exact ⟨fun hs=>hs.elim r1 q2,r2,r3⟩
  ·rw [if_neg e1] at hj
   rw [(hsame j e1).i8] at hb
   obtain ⟨r1,r2,r3⟩:=h.hs.bl j ej hj b hb
   exact ⟨fun hs=>hs.elim r1 (fun hD=>h.hs.dj j i ej _ hj he e1 b hb (hown b (hDi b hD))),r2,r3⟩
 ·intro j k ej ek hj hk hjk c hc
  simp only [St.o7,l7] at hj hk
  by_cases e1:j=i
  ·subst e1
   rw [if_pos rfl] at hj; cases hj
   rw [if_neg (Ne.symm hjk)] at hk
   rw [(hsame k (Ne.symm hjk)).i8]
   exact h.hs.dj j k _ ek he hk hjk c (hsub c hc).1
  ·rw [if_neg e1] at hj
   rw [(hsame j e1).i8] at hc
   by_cases e2:k=i
   ·subst e2
    rw [if_pos rfl] at hk; cases hk
    exact fun hcc=>h.hs.dj j k ej _ hj he hjk c hc (hsub c hcc).1
   ·rw [if_neg e2] at hk
    rw [(hsame k e2).i8]
    exact h.hs.dj j k ej ek hj hk hjk c hc
 ·intro q hq
  obtain ⟨k0,⟨e',k1⟩,k2,k3⟩:=h.hs.pin q hq
  refine ⟨k0,?_,k2,k3⟩
  simp only [St.o7,l7]
  by_cases e1:q.1=i
  ·exact ⟨_,by rw [if_pos e1]⟩
  ·exact ⟨e',by rw [if_neg e1]; exact k1⟩
 ·intro t9 v hv
  simp only [St.o7,St.a67,D3,Option.map_eq_some_iff] at hv
  obtain ⟨v0,hv0,rfl⟩:=hv
  refine VX.map (fun _ _=>rfl) (fun _ h=>.inl h) (fun v vs hr hm hvx=>?_) (h.fr t9 v0 hv0)
  unfold AV.b6x
  cases hmi:v.e8 i with
  | false =>
   have hne:∀ j,v.e8 j=true→j≠i:=by rintro j hj rfl; rw [hmi] at hj; cases hj
   have hst:VX w.heap (fun b=>S b∨b∈D) ι s.hp v vs:=VX.grow (fun _ _=>rfl) (fun _ h=>.inl h) h.hs.slt h.hs.ob hvx
   exact VX.other (fun j hj=>by simp only [St.o7,l7,if_neg (hne j hj)]; rfl) (fun j hj=>hsame j (hne j hj)) hst
  | true =>
   have honex:=VX.one hr hvx
   simp only
   split
   ·rename_i j
    have hji:i=j:=Nat.eq_of_beq_eq_true hmi
    subst hji
    obtain ⟨ej,b2,off2,k1,k2,k3,k4⟩:=hvx
    rw [he] at k1; cases k1
    refine ⟨.var t z,b2,off2,by simp [St.o7,l7],H5,?_,k4⟩
    simp only [Loc,Place,VR,VH,s8] at k3 ⊢
    exact k3
   ·exact honex

theorem RS.a2j (h:RS B S ι s a w) (hM:∀ b,¬ B.M b) {i:Nat} (hp:pinned i=false) (t:Ty):∃ S' ι',RS B S' ι' (s.a2j i t) a w:=by
 have hl:∀ {j:Nat} {e:f9},look j (del i s.hp)=some e→look j s.hp=some e∧j≠i:=by
  intro j e hj
  rw [E3] at hj
  split at hj
  ·cases hj
  ·rename_i h9; exact ⟨hj,h9⟩
 have hS1:∀ b,S b→(S b∨E9 ι s.hp [i] b):=fun _ h=>.inl h
 refine ⟨fun b=>S b∨E9 ι s.hp [i] b,ι,⟨h.hs.os,h.hs.tape,h.hs.out,h.hs.size,h.hs.frame,?_,fun b hb=>.inl (h.hs.s0 b hb),?_,?_,?_,?_,?_⟩,h.W7,h.sz,?_⟩
 ·rintro b (hb|⟨j,e,hj,he,hb⟩)
  ·exact h.hs.slt b hb
  ·exact (h.hs.bl j e he b hb).2.2
 ·rintro b (hb|⟨j,e,hj,he,hb⟩)
  ·exact h.hs.s1 b hb
  ·rcases (h.hs.bl j e he b hb).2.1 with q|q
   ·exact .inr q
   ·exact absurd q (hM b)
 ·intro j e hj
  exact (h.hs.ob j e (hl hj).1).o4 (fun _ _=>rfl) hS1
 ·intro j e hj b hb
  obtain ⟨r1,r2,r3⟩:=h.hs.bl j e (hl hj).1 b hb
  refine ⟨fun hs=>hs.elim r1 ?_,r2,r3⟩
  rintro ⟨k,ek,hk,he,hbk⟩
  rw [List.mem_singleton] at hk
  subst hk
  exact h.hs.dj j k e ek (hl hj).1 he (hl hj).2 b hb hbk
 ·intro j k ej ek hj hk
  exact h.hs.dj j k ej ek (hl hj).1 (hl hk).1
 ·intro q hq
  obtain ⟨k0,⟨e',k1⟩,k2⟩:=h.hs.pin q hq
  refine ⟨k0,⟨e',?_⟩,k2⟩
  show look q.1 (del i s.hp)=_
  rw [E3,if_neg (by rintro e1; rw [e1,hp] at k0; cases k0)]; exact k1
 ·intro t9 v hv
  simp only [St.a2j,D3,Option.map_eq_some_iff] at hv
  obtain ⟨v0,hv0,rfl⟩:=hv
  refine VX.map (fun _ _=>rfl) (fun _ h=>.inl h) (fun v vs hr hm hvx=>?_) (h.fr t9 v0 hv0)
  unfold AV.b7J
  cases hmi:v.e8 i with
  | false =>
   have hne:∀ j,v.e8 j=true→j≠i:=by rintro j hj rfl; rw [hmi] at hj; cases hj
   have hst:VX w.heap (fun b=>S b∨E9 ι s.hp [i] b) ι s.hp v vs:=VX.grow (fun _ _=>rfl) (fun _ h=>.inl h) h.hs.slt h.hs.ob hvx
   exact VX.other (fun j hj=>by show look j (del i s.hp)=_; rw [E3,if_neg (hne j hj)]) (fun j hj=>w6.refl ι j) hst
  | true =>
   obtain ⟨x1,rfl⟩:=VX.one hr hvx
   have hb0:∀ b,E9 ι s.hp v.C2 b→(S b∨E9 ι s.hp [i] b):=by
    intro b hb
    obtain ⟨j,e,hj,he,hbj⟩:=hb
    have hji:j=i:=by
     cases v<;>simp only [AV.ref] at hr<;>try cases hr
     all_goals (simp only [AV.C2,List.mem_singleton] at hj; simp only [AV.e8] at hmi; exact hj.trans (Nat.eq_of_beq_eq_true hmi).symm)
    subst hji
    exact .inr ⟨j,e,by simp,he,hbj⟩
   simp only
   split
   ·rename_i x hx
    obtain ⟨cs,e1,e2⟩:=b2v h.hs hx hvx hS1 hb0
    exact ⟨cs,by rw [e1],e2⟩
   ·split
    ·split
     ·rename_i x hx
      obtain ⟨b,off,e1,e2,e3,e4⟩:=a7X h.hs (show AV.asR s t (.ptr _ _)=some x from hx) hvx hS1 hb0
      exact ⟨b,off,by rw [e1],e2,e3,e4⟩
     ·exact ⟨_,rfl⟩
    ·exact ⟨_,rfl⟩

theorem RS.a3R (hM:∀ b,¬ B.M b):∀ {l:List Nat} {S:Nat→Prop} {ι:Ix} {s:St} {a:Act} {w:World},RS B S ι s a w→∃ S' ι',RS B S' ι' (s.a3R l) a w
 | [],S,ι,s,a,w,h=>⟨S,ι,h⟩
 | i::l,S,ι,s,a,w,h=>by
  unfold St.a3R
  split
  ·rename_i u y hob hp
   obtain ⟨S2,ι2,h2⟩:=h.a2j hM hp (.d0 false u.sh)
   exact RS.a3R hM h2
  ·exact RS.a3R hM h

theorem b3p (hM:E.ps.any PK.i7=false→∀ b,¬ B.M b) (h:RS B S ι s a w) (o:Oper):∃ S' ι',RS B S' ι' ((a93 E o s).getD s) a w:=by
 cases hd:a93 E o s with
 | none=>exact ⟨S,ι,h⟩
 | some s2 =>
  show ∃ S' ι',RS B S' ι' s2 a w
  unfold a93 at hd
  split at hd
  ·rename_i c hp ho
   split at hd
   ·split at hd
    ·split at hd
     ·rename_i i u y hob
      split at hd
      ·cases hd
      ·split at hd
       ·rename_i z hz
        cases hd
        exact h.b4V (hM hp) hob hz
       ·cases hd
     ·cases hd
    ·split at hd
     ·rename_i hpi _
      cases hd
      exact h.a2j (hM hp) hpi _
     ·cases hd
    ·split at hd
     ·cases hd
     ·cases hd
      exact RS.a3R (hM hp) h
    ·cases hd
   ·cases hd
  ·rename_i hp ho
   split at hd
   ·split at hd
    ·rename_i hpi
     cases hd
     exact h.a2j (hM hp) hpi _
    ·cases hd
   ·cases hd
  ·cases hd

theorem R0 (hM:E.ps.any PK.i7=false→∀ b,¬ B.M b):∀ {l:List (Nat×Option Ty)} {S:Nat→Prop} {ι:Ix} {s:St} {a:Act} {w:World},RS B S ι s a w→∃ S' ι',RS B S' ι' (a3j E l s) a w
 | [],S,ι,s,a,w,h=>⟨S,ι,h⟩
 | (m,none)::l,S,ι,s,a,w,h=>R0 hM (l:=l) h
 | (m,some t)::l,S,ι,s,a,w,h=>by
  have key:∃ S' ι',RS B S' ι' (match E.ps.any PK.i7,s.get m with
  | false,.ptr i []=>(match s.obj i with
   | some (.var u y)=>(match decide (u=t) with
    | true=>s
    | false=>(match a4Q u t y with
     | some z=>(s.a67 i).o7 i (.var t z)
     | none=>s))
   | _=>s)
  | _,_=>s) a w:=by
   split
   ·rename_i i hp _
    split
    ·rename_i u y hob
     split
     ·exact ⟨S,ι,h⟩
     ·split
      ·rename_i z hz
       exact h.b4V (hM hp) hob hz
      ·exact ⟨S,ι,h⟩
    ·exact ⟨S,ι,h⟩
   ·exact ⟨S,ι,h⟩
  obtain ⟨S',ι',h'⟩:=key
  exact R0 hM (l:=l) h'

theorem b05 (h:RS B S ι s a w) (o:Oper):∃ ι',RS B S ι' ((a88 E o s).getD s) a w:=by
 cases hd:a88 E o s with
 | none=>exact ⟨ι,h⟩
 | some s' =>
  show ∃ ι',RS B S ι' s' a w
  unfold a88 at hd
  split at hd
  ·split at hd
   ·rename_i g tx ys hc ha
    split at hd
    ·rename_i t ks rs pre fn out nw i st p hct hx
     split at hd
     ·rename_i u y hob
      split at hd
      ·rename_i v l r hg hset
       split at hd
       ·rename_i hv
        subst hv
        split at hd
        ·rename_i hcond
         cases hd
         simp only [Bool.and_eq_true] at hcond
         have hob:look i s.hp=some (.var u y):=hob
         have hev:=h.fr tx _ hx
         obtain ⟨e1,u1,y1,cs,r1,hok,r3,hcs,r5⟩:=hev
         rw [hob] at r1; cases r1
         have hg:i6 (f9.var u y).ty (f9.var u y).x (st::p)=some ⟨.d0 true t,l⟩:=hg
         rw [hg] at r3; cases r3
         obtain ⟨Op,m1,mn,hRo⟩:=C4 h.hs hob hok hg hcs
         obtain ⟨b,off,k1,k2⟩:=id hcs
         have hnb:(f9.var u y)≠.E8:=by intro h; cases h
         have hblt:b<w.heap.size:=by
          obtain ⟨b',off',O2,q1,q2,q3,q4,q5,q6⟩:=(h.hs.ob i _ hob).part hnb h.hs.slt hok hg
          rw [q1] at k1; cases k1
          rcases Nat.lt_or_ge b w.heap.size with h9|h9
          ·exact h9
          ·have q5:off+1≤(o6 w.heap b).length:=q5
           simp only [o6,Array.getElem?_eq_none h9,List.length_nil] at q5
           omega
         have hl:Loc w.heap ι i (.var u y) (st::p)=some (b,off):=M5 k1 hblt
         have hRo':d9 w.heap S (.d0 true t) Op (d8 w.heap b off (Ty.d0 true t).size) l:=by
          rw [k2,j6 (B7 hblt)] at hRo
          exact hRo
         have hcells:∃ c0,d8 w.heap b off (Ty.d0 true t).size=[c0]∧b3e c0=true:=by
          rcases hRo' with ⟨_,⟨a1,c1,e1,_⟩,_⟩|⟨b1,o1,cap1,O1,e1,_⟩
          ·exact ⟨_,e1,rfl⟩
          ·exact ⟨_,e1,rfl⟩
         obtain ⟨c0,hc0,hsl⟩:=hcells
         obtain ⟨ι',⟨O,rfl,hO⟩,h0⟩:=h.a6G hob hok hg hl (u':=.hole t) (z:=([]:List t.den)) (cs:=[c0]) (O2:=[]) (fun H' _ _=>⟨rfl,c0,rfl,hsl⟩) rfl List.nodup_nil (by simp) hset (by intro h; cases h)
         have hw:w.setRow b (x8 (o6 w.heap b) off [c0]).toArray=w:=by
          obtain ⟨O2,q1,q2,q3,m4,m5,arr,T,⟨fz,e1,_⟩,hn⟩:=F3 (E6 hl) (h.hs.ob i _ hob) h.hs.slt hok hg hl
          have hb:o6 w.heap b=arr.toList:=by simp only [o6,e1]
          have:x8 (o6 w.heap b) off [c0]=o6 w.heap b:=by
           rw [← hc0]; exact a4x m4
          rw [this,hb]; exact setRow_self w b arr T fz (by simpa using e1)
         rw [hw] at h0
         have hOpb:∀ c∈Op,c∈i8 ι i (.var u y):=fun c hc=>B4 (m1 c hc)
         have hF:x4 B S (ι.t8 i O) ((s.kill i (f9.var u y).kd (st::p)).o7 i (.var r.1 r.2)).hp w Op:=by
          refine ⟨mn,fun c hc=>?_⟩
          obtain ⟨z1,z2,z3⟩:=h.hs.bl i _ hob c (hOpb c hc)
          refine ⟨z1,z2,z3,fun j ej r2 r3=>?_⟩
          simp only [St.o7,l7] at r2
          by_cases hj:j=i
          ·subst hj
           rw [if_pos rfl] at r2; cases r2
           have r3:c∈(ι.root j).1::(ι.t8 j O).own j:=r3
           simp only [Ix.t8,if_true] at r3
           refine (List.mem_cons.1 r3).elim (fun g3=>?_) (fun g3=>?_)
           ·obtain ⟨_,_,hnd⟩:=h.hs.ob j _ hob
            exact (List.nodup_cons.1 hnd).1 (g3▸m1 c hc)
           ·rcases (hO c g3).2 with h9|h9
            ·cases h9
            ·exact h9 Op hRo' hc
          ·rw [if_neg hj] at r2
           rw [(L8 hj O).i8] at r3
           exact h.hs.dj i j _ ej hob r2 (Ne.symm hj) c (hOpb c hc) r3
         have h1:=h0.hold hcond.2 hRo' hF
         refine ⟨_,h1.slot (t:=tx) (v:=.at_ (1600000+tx) []) ?_⟩
         have e9:[a.tmps.getD tx (B.gd tx)]=[j7 (.d0 true t) (d8 w.heap b off (Ty.d0 true t).size)]:=by
          rw [r5,k2,j6 (B7 hblt)]
         rw [e9]
         exact a3n hRo'.length
        ·cases hd
       ·cases hd
      ·cases hd
     ·cases hd
    ·cases hd
   ·cases hd
  ·cases hd

theorem RS.b7y (h:RS B S ι s a w) {i:Nat} {u t:Ty} {y:u.den} {z:t.den} (he:look i s.hp=some (.own u y)) (hre:∀ {O:List Nat} {cs:List Value},d9 w.heap S u O cs y→d9 w.heap S t O cs z) (hag:u.agg=t.agg) (hsz:u.size=t.size) :
  RS B S ι { fr:=mapA (AV.map fun v=>match v.e8 i with|false=>v|true=>match v with|.at_ j []=>.at_ j []|_=>.any) s.fr,hp:=Ex.put i (.own t z) s.hp } a w:=by
 obtain ⟨⟨O,hO,hR⟩,hnd⟩:=h.hs.ob i _ he
 have hbk:∀ j ej,look j (Ex.put i (.own t z) s.hp)=some ej→∃ e0,look j s.hp=some e0∧i8 ι j ej=i8 ι j e0:=by
  intro j ej hj
  rw [l7] at hj
  by_cases e1:j=i
  ·subst e1; rw [if_pos rfl] at hj; cases hj; exact ⟨_,he,rfl⟩
  ·rw [if_neg e1] at hj; exact ⟨_,hj,rfl⟩
 refine ⟨⟨h.hs.os,h.hs.tape,h.hs.out,h.hs.size,h.hs.frame,h.hs.slt,h.hs.s0,h.hs.s1,?_,?_,?_,?_⟩,h.W7,h.sz,?_⟩
 ·intro j ej hj
  rw [l7] at hj
  by_cases e1:j=i
  ·subst e1; rw [if_pos rfl] at hj; cases hj
   exact ⟨⟨O,hO,hre hR⟩,hnd⟩
  ·rw [if_neg e1] at hj; exact h.hs.ob j ej hj
 ·intro j ej hj b hb
  obtain ⟨e0,h1,h2⟩:=hbk j ej hj
  rw [h2] at hb
  exact h.hs.bl j e0 h1 b hb
 ·intro j k ej ek hj hk hjk c hc
  obtain ⟨e0,h1,h2⟩:=hbk j ej hj
  obtain ⟨e3,h4,h5⟩:=hbk k ek hk
  rw [h2] at hc
  rw [h5]
  exact h.hs.dj j k e0 e3 h1 h4 hjk c hc
 ·intro q hq
  obtain ⟨k0,⟨e',k1⟩,k2,k3⟩:=h.hs.pin q hq
  refine ⟨k0,?_,k2,k3⟩
  rw [l7]
  by_cases e1:q.1=i
  ·exact ⟨_,by rw [if_pos e1]⟩
  ·exact ⟨e',by rw [if_neg e1]; exact k1⟩
 ·intro t9 v hv
  simp only [D3,Option.map_eq_some_iff] at hv
  obtain ⟨v0,hv0,rfl⟩:=hv
  refine VX.map (fun _ _=>rfl) (fun _ h=>h) (fun v vs hr hm hvx=>?_) (h.fr t9 v0 hv0)
  cases hmi:v.e8 i with
  | false =>
   have hne:∀ j,v.e8 j=true→j≠i:=by rintro j hj rfl; rw [hmi] at hj; cases hj
   exact VX.other (fun j hj=>by rw [l7,if_neg (hne j hj)]) (fun j hj=>⟨rfl,rfl,rfl⟩) hvx
  | true =>
   have honex:=VX.one hr hvx
   simp only
   split
   ·rename_i j
    have hji:i=j:=Nat.eq_of_beq_eq_true hmi
    subst hji
    obtain ⟨e,u',y',cs,k1,k2,k3,⟨b,off,k4,k5⟩,k6⟩:=hvx
    rw [he] at k1; cases k1
    simp only [i6,Option.some.injEq,Sigma.mk.injEq] at k3
    obtain ⟨rfl,_⟩:=k3
    refine ⟨.own t z,t,z,cs,by rw [l7,if_pos rfl],H5,by simp only [i6]; rfl,⟨b,off,?_,?_⟩,?_⟩
    ·simp only [Place,VR,VH,s8] at k4 ⊢
     exact k4
    ·rw [← hsz]; exact k5
    ·rw [k6]; exact congrArg (fun v=>[v]) (a1Z hag cs)
   ·exact honex

theorem b25 (h:RS B S ι s a w) (o:Oper):RS B S ι (b26 E o s) a w:=by
 unfold b26
 split
 ·split
  ·split
   ·rename_i i _
    split
    ·rename_i t z hob
     split
     ·rename_i hc
      simp only [Bool.and_eq_true] at hc
      split
      ·exact h
      ·rename_i hsh
       exact h.b7y (t:=.d0 true t) (z:=z.2.1) hob (fun hr=>a6Y hsh (Nat.le_of_ble_eq_true hc.1) (Nat.le_of_ble_eq_true hc.2) hr) rfl rfl
     ·exact h
    ·exact h
   ·exact h
  ·exact h
 ·exact h

theorem b21 (hM:E.ps.any PK.i7=false→∀ b,¬ B.M b) (h0:RS B S ι s a w) (o:Oper):∃ S' ι',RS B S' ι' (b22 E o s) a w:=by
 have h:=b25 (E:=E) h0 o
 unfold b22 b6r
 generalize b26 E o s=s at h
 obtain ⟨S',ι',h1⟩:=b3p hM h o
 obtain ⟨ι2,h2⟩:=b05 (E:=E) h1 o
 exact ⟨S',ι2,h2⟩

theorem b03 (hM:E.ps.any PK.i7=false→∀ b,¬ B.M b) (h:RS B S ι s a w) (ops:Array Oper):∃ S' ι',RS B S' ι' (b20 E ops s) a w:=by
 unfold b20
 split
 ·rename_i hp _
  split
  ·rename_i hpi
   exact h.a2j (hM hp) hpi _
  ·exact ⟨S,ι,h⟩
 ·exact ⟨S,ι,h⟩

theorem a6P (hM:E.ps.any PK.i7=false→∀ b,¬ B.M b) (h:RS B S ι s a w) (ops:Array Oper):∃ S' ι',RS B S' ι' (b2Z E ops s) a w:=by
 unfold b2Z
 split
 ·exact R0 hM h
 ·exact ⟨S,ι,h⟩

theorem a6Q (hM:E.ps.any PK.i7=false→∀ b,¬ B.M b) (h:RS B S ι s a w) (ops:Array Oper):∃ S' ι',RS B S' ι' (a3G E ops s) a w:=by
 obtain ⟨S',ι',h'⟩:=a6P (E:=E) hM h ops
 exact b03 hM h' ops

theorem N9 (hE:t7 E B) (hn:B.n=E.nt) (hM:E.ps.any PK.i7=false→∀ b,¬ B.M b) {ops:Array Oper} {k:St→Tree (E.rs++u6 E.ps)} {L:Code→List Item→St→Prop} {Rt:DL (E.rs++u6 E.ps)→Prop} {Q:Exit→Act→World→Prop} (hk:∀ S' ι' s' a' w',RS B S' ι' s' a' w'→(k s').holds L Rt→Q .normal a' w') :
  ∀ {l:List Oper} {m:Nat} {S:Nat→Prop} {ι:Ix} {s:St} {a:Act} {w:World},RS B S ι s a w→(a1B E ops m l s k).holds L Rt→wpList E.P ops Q (l.drop m) a w
 | [],m,S,ι,s,a,w,h,ht=>by
  rw [List.drop_nil]
  cases m<;>exact hk S ι s a w h ht
 | o::l,m+1,S,ι,s,a,w,h,ht=>N9 hE hn hM hk (l:=l) (m:=m) h ht
 | o::l,0,S0,ι0,s0,a,w,h0,ht=>by
  show wpList E.P ops Q (o::l) a w
  unfold a1B at ht
  obtain ⟨S,ι,h⟩:=b21 hM h0 o
  dsimp only at ht
  generalize b22 E o s0=s at h ht
  split at ht
  ·rename_i p s' n hf
   unfold b6z at hf
   split at hf
   ·rename_i d c hg hd hdo ho
    split at hf
    ·rename_i x y T U hc ha hT
     split at hf
     ·split at hf
      ·cases hf
      ·rw [← hn,hd] at hdo
       obtain ⟨v',w',g1,g2⟩:=a4I hE hn ho hc ha hT hdo (ops:=ops) (Q:=Q) h hf ht.1
       unfold wpList
       simp only [Region.wanted,hg,if_true]
       refine .inl ?_
       unfold Oper.wp
       rw [g1]
       show wpList E.P ops Q l (a.put o.dst v') w'
       rw [hd]
       exact g2 (fun S' ι' a' w'' h'=>N9 hE hn hM hk (l:=l) (m:=n) h' (ht.2 ht.1))
     ·cases hf
    ·cases hf
   ·cases hf
  ·split at ht
   ·rename_i p s' n hf
    unfold b6y at hf
    split at hf
    ·rename_i d c hg hd hdo ho
     split at hf
     ·rename_i g x ys hc ha
      split at hf
      ·split at hf
       ·cases hf
       ·rw [← hn,hd] at hdo
        unfold wpList
        simp only [Region.wanted,hg,if_true]
        refine .inl ((a4h hE hn ho hc ha hdo (ops:=ops) (Q:=Q) h hf ht.1 (fun S' ι' a' w'' h'=>N9 hE hn hM hk (l:=l) (m:=n) h' (ht.2 ht.1))).wp (fun v' w' hw=>?_))
        rw [hd]; exact hw
      ·cases hf
     ·cases hf
    ·cases hf
   ·split at ht
    ·rename_i p s' hf
     obtain ⟨hg,hrun⟩:=b1C hE hn h hf ht.1
     unfold wpList
     simp only [Region.wanted,hg,if_true]
     refine .inl (hrun.wp (fun v' w' hw=>?_))
     obtain ⟨ι',h'⟩:=hw
     exact N9 hE hn hM hk (l:=l) (m:=0) h' (ht.2 ht.1)
    ·split at ht
     ·rename_i p s' hf
      obtain ⟨hg,hrun⟩:=a5J hE hn hM h hf ht.1
      unfold wpList
      simp only [Region.wanted,hg,if_true]
      exact .inl (hrun _ Q (fun S' ι' a' w' h'=>N9 hE hn hM hk (l:=l) (m:=0) h' (ht.2 ht.1)))
     ·split at ht
      ·rename_i p v1 v2 hg hd hb
       rw [← hn] at hd
       obtain ⟨val,hrun,hv⟩:=b42 hE h hb
       unfold wpList
       simp only [Region.wanted,hg,if_true]
       refine .inl ?_
       unfold Oper.wp
       rw [hrun]
       rcases hv with ⟨hp,hv⟩|hv
       ·exact N9 hE hn hM hk (l:=l) (m:=0) (h.put hd hv) (ht.1 hp)
       ·exact N9 hE hn hM hk (l:=l) (m:=0) (h.put hd hv) ht.2
      ·have:=X2 hE hn h (ops:=ops) o (k:=fun s'=>a1B E ops 0 l s' k) ht (next:=wpList E.P ops Q l) (Q:=Q) (fun S' ι' s' a' w' h1 h2=>N9 hE hn hM hk (l:=l) (m:=0) h1 h2)
       unfold wpList
       split
       ·rename_i hw; rw [if_pos hw] at this; exact .inl this
       ·rename_i hw; rw [if_neg hw] at this; exact this
end
end Go.Ex

namespace Go.Ex

section
variable {E:Env} {ops:Array Oper}

theorem a0v {α:Type _} {Y:α→Prop} {a:α}:Y a↔∃ (p:Prop) (s:α),some (True,a)=some (p,s)∧p∧Y s:=by
 constructor
 ·intro h; exact ⟨_,_,rfl,trivial,h⟩
 ·rintro ⟨p,s,h,_,h2⟩; cases h; exact h2

theorem a9C {o:Oper} {s:St} {k:St→Tree (E.rs++u6 E.ps)} {L:Code→List Item→St→Prop} {R:DL (E.rs++u6 E.ps)→Prop}:(a3C E o s k).holds L R↔∃ p s',F7 E o s=some (p,s')∧p∧(k s').holds L R:=by
 unfold a3C F7
 cases hd:x3 E.nt o.dst with
 | false=>simp [Tree.holds]
 | true =>
  simp only
  have other:∀ r:OR,(match r with|.fail why=>Tree.stuck why|.ok v s'=>k (s'.put o.dst v)|.B1 p v s'=>Tree.n8 p (k (s'.put o.dst v))).holds L R ↔
    ∃ p s',(match r.get with|none=>none|some (p,v,s')=>some (p,s'.put o.dst v))=some (p,s')∧p∧(k s').holds L R:=by
   intro r
   cases r with
   | fail why=>simp [Tree.holds,OR.get]
   | ok v s'=>exact a0v (Y:=fun s'=>(k s').holds L R)
   | B1 p v s' =>
    simp only [Tree.holds,OR.get,Option.some.injEq,Prod.mk.injEq]
    constructor
    ·rintro ⟨h1,h2⟩; exact ⟨_,_,⟨rfl,rfl⟩,h1,h2 h1⟩
    ·rintro ⟨_,_,⟨rfl,rfl⟩,h1,h2⟩; exact ⟨h1,fun _=>h2⟩
  cases ho:o.op with
  | pick c a b =>
   simp only
   cases hc:s.ev c with
   | val t x =>
    cases t with
    | bool =>
     cases x with
     | true=>exact a0v (Y:=fun s'=>(k s').holds L R)
     | false=>exact a0v (Y:=fun s'=>(k s').holds L R)
    | _=>simp [Tree.holds]
   | _=>simp [Tree.holds]
  | _=>exact other _

theorem Q7 {o:Oper} {s:St} {k:St→Tree (E.rs++u6 E.ps)} {L:Code→List Item→St→Prop} {R:DL (E.rs++u6 E.ps)→Prop}:(U0 E ops o s k).holds L R↔∃ p s',q8 E ops o s=some (p,s')∧p∧(k s').holds L R:=by
 unfold U0 q8
 cases hg:o.guard with
 | none=>exact a9C
 | some jw =>
  obtain ⟨j,want⟩:=jw
  simp only
  cases hs:a0x ops j with
  | none=>simp [Tree.holds]
  | some g =>
   simp only
   cases hv:s.ev (.tmp g) with
   | raw v =>
    cases v with
    | tuple vs =>
     simp only
     cases hd:x3 E.nt o.dst with
     | false=>simp [Tree.holds]
     | true=>exact a0v (Y:=fun s'=>(k s').holds L R)
    | _=>simp [Tree.holds]
   | val t x =>
    cases t with
    | bool =>
     simp only
     cases hd:x3 E.nt o.dst with
     | false=>simp [Tree.holds]
     | true =>
      simp only
      cases x with
      | true =>
       cases want with
       | true=>exact a9C
       | false=>exact a0v (Y:=fun s'=>(k s').holds L R)
      | false =>
       cases want with
       | true=>exact a0v (Y:=fun s'=>(k s').holds L R)
       | false=>exact a9C
    | _=>simp [Tree.holds]
   | _=>simp [Tree.holds]

def a1n (ops:Array Oper) (x:Oper) (sx:St) (Tx:List Nat) (y:Oper) (Ty:List Nat):Prop :=
 (∀ m∈looks ops y,∀ i∈Tx,(x7 y (sx.get m)).e8 i=false)∧(∀ m∈looks ops x,∀ i∈Ty,(x7 x (sx.get m)).e8 i=false)∧(∀ i∈Tx,i % 1000≠(y.dst.getD 0) % 1000)

theorem a10 {e:Met} {y:Oper} {Ty:List Nat} (h:a3H ops e y Ty=true):a1n ops e.o e.s e.T y Ty:=by
 simp only [a3H,Bool.and_eq_true] at h
 obtain ⟨h1,h2⟩:=h
 refine ⟨?_,?_,?_⟩
 ·intro m hm i hi
  split at h1
  ·rename_i he; rw [he] at hi; cases hi
  ·simp only [Bool.and_eq_true,List.all_eq_true,Bool.not_eq_true'] at h1
   exact h1.1 m hm i hi
 ·intro m hm i hi
  split at h2
  ·cases hi
  ·simp only [List.all_eq_true,Bool.not_eq_true'] at h2
   exact h2 m hm i hi
 ·intro i hi hmod
  split at h1
  ·rename_i he; rw [he] at hi; cases hi
  ·simp only [Bool.and_eq_true,List.all_eq_true,Bool.not_eq_true'] at h1
   have:=h1.2 i hi
   rw [hmod] at this
   simp at this

def O8 (E:Env) (ops:Array Oper) (M:Nat→Nat):List (Nat×St)→List Nat→St→St→Prop
 | _,[],s,s'=>s=s'
 | acc,i::l,s,s'=>∃ o,ops[i]?=some o∧(∀ e∈acc,(M i).testBit e.1=true∨∃ x,ops[e.1]?=some x∧a1n ops x e.2 (i7 E x e.2) o (i7 E o s)) ∧
   ∃ p s1,q8 E ops o s=some (p,s1)∧p∧O8 E ops M ((i,s)::acc) l s1 s'

def a7x (E:Env) (ops:Array Oper) (q:Y1):Prop:=∃ oa c,ops[q.k]?=some oa∧oa.guard=none∧oa.dst=some q.d∧x3 E.nt (some q.d)=true∧oa.op=.call c∧c.callee=.builtin .append∧c.args.toList=[q.x,q.y]∧c.argTypes.toList=[q.T,q.U]

theorem b53 {o:Oper} {s:St} {i:Nat} {q:Y1} (h:b3O E o s i=some q) (ho:ops[i]?=some o):a7x E ops q∧q.k=i:=by
 unfold b3O at h
 split at h
 ·rename_i d c hg hd hdo hop
  split at h
  ·rename_i x y T U hc ha hT
   split at h
   ·split at h
    ·cases h
    ·cases h
     exact ⟨⟨o,c,ho,hg,hd,by rw [← hd]; exact hdo,hop,hc,ha,hT⟩,rfl⟩
   ·cases h
  ·cases h
 ·cases h

def b0x (E:Env) (ops:Array Oper) (M:List Nat) (q:Y1) (s1:St) (k:St→Tree (E.rs++u6 E.ps)) (L:Code→List Item→St→Prop) (R:DL (E.rs++u6 E.ps)→Prop):Prop :=
 ∃ o p s2,ops[ops.size - 1]?=some o∧a7N E ops M q (ops.size - 1) o s1=some (p,s2)∧p∧(k s2).holds L R

theorem P9 {o:Oper} {l:List Oper} {n:Nat} (hl:ops.toList.drop n=o::l):ops[n]?=some o∧ops.toList.drop (n+1)=l∧ops.size=n+1+l.length:=by
 have h1:(ops.toList.drop n)[0]?=some o:=by rw [hl]; rfl
 have h2:(ops.toList.drop n).length=(o::l).length:=by rw [hl]
 simp only [List.length_drop,List.length_cons,Array.length_toList] at h2
 refine ⟨by simpa using h1,?_,by omega⟩
 rw [← List.drop_drop,hl]; rfl

theorem a8d {M:List Nat} {q:Y1} {k:St→Tree (E.rs++u6 E.ps)} {L:Code→List Item→St→Prop} {R:DL (E.rs++u6 E.ps)→Prop}:∀ {l:List Oper} {n:Nat} {s:St} {acc:List Met} {acc':List (Nat×St)},ops.toList.drop n=l →
  (∀ e∈acc',∃ m∈acc,m.i=e.1∧ops[e.1]?=some m.o∧m.s=e.2∧m.T=i7 E m.o e.2)→(a9y E ops M q n l s acc k).holds L R→∃ s',O8 E ops (fun i=>M.getD i 0) acc' (List.range' n (l.length - 1)) s s'∧b0x E ops M q s' k L R
 | [],n,s,acc,acc',_,_,h=>h.elim
 | [o],n,s,acc,acc',hl,ha,h=>by
  obtain ⟨h1,h2,h3⟩:=P9 hl
  simp only [a9y] at h
  split at h
  ·rename_i p s2 hf
   have e:ops.size - 1=n:=by simp at h3; omega
   exact ⟨s,rfl,o,p,s2,by rw [e]; exact h1,by rw [e]; exact hf,h.1,h.2 h.1⟩
  ·exact h.elim
 | o::o2::l,n,s,acc,acc',hl,ha,h=>by
  obtain ⟨ho,hl',_⟩:=P9 hl
  simp only [a9y] at h
  split at h
  ·exact h.elim
  ·rename_i hall
   obtain ⟨p,s1,h1,h2,h3⟩:=Q7.1 h
   obtain ⟨s',k1,k2⟩:=a8d (acc':=(n,s)::acc') hl' (fun e he=>by
    rcases List.mem_cons.1 he with rfl|he
    ·exact ⟨_,List.mem_cons_self ..,rfl,ho,rfl,rfl⟩
    ·obtain ⟨m,hm,r⟩:=ha e he; exact ⟨m,List.mem_cons_of_mem _ hm,r⟩) h3
   refine ⟨s',⟨o,ho,fun e he=>?_,p,s1,h1,h2,k1⟩,k2⟩
   obtain ⟨m,hm,m1,m2,m3,m4⟩:=ha e he
   have:=(List.all_eq_true.1 hall) m hm
   simp only [Bool.or_eq_true] at this
   rcases this with this|this
   ·exact .inl (by rw [← m1]; exact this)
   ·have hp:=a10 this
    rw [m3,m4] at hp
    exact .inr ⟨m.o,m2,hp⟩

theorem a8c {M:List Nat} {k:St→Tree (E.rs++u6 E.ps)} {L:Code→List Item→St→Prop} {R:DL (E.rs++u6 E.ps)→Prop}:∀ {l:List Oper} {n:Nat} {s:St} {acc:List Met} {acc':List (Nat×St)},ops.toList.drop n=l →
  (∀ e∈acc',∃ m∈acc,m.i=e.1∧ops[e.1]?=some m.o∧m.s=e.2∧m.T=i7 E m.o e.2)→(b2U E ops M n l s acc k).holds L R →
  (∃ s',O8 E ops (fun i=>M.getD i 0) acc' (List.range' n l.length) s s'∧(k s').holds L R) ∨
  ∃ q s',n≤q.k∧a7x E ops q∧O8 E ops (fun i=>M.getD i 0) acc' ((List.range' n (l.length - 1)).filter (fun j=>!(j == q.k))) s s'∧b0x E ops M q s' k L R
 | [],n,s,acc,acc',_,_,h=>.inl ⟨s,rfl,h⟩
 | o::l,n,s,acc,acc',hl,ha,h=>by
  obtain ⟨ho,hl',_⟩:=P9 hl
  simp only [b2U] at h
  split at h
  ·rename_i q hq
   obtain ⟨a1,a2⟩:=b53 hq ho
   obtain ⟨s',k1,k2⟩:=a8d hl' ha h
   refine .inr ⟨q,s',by omega,a1,?_,k2⟩
   cases l with
   | nil =>
    simp only [List.length_nil,Nat.zero_sub,List.range'_zero] at k1
    simpa using k1
   | cons o2 l =>
    simp only [List.length_cons,Nat.add_sub_cancel] at k1 ⊢
    rw [List.range'_succ,List.filter_cons]
    simp only [a2,beq_self_eq_true,Bool.not_true,Bool.false_eq_true,if_false]
    rw [List.filter_eq_self.2 (fun j hj=>by have:=(List.mem_range'_1.1 hj).1; simp; omega)]
    exact k1
  ·split at h
   ·exact h.elim
   ·rename_i hall
    obtain ⟨p,s1,h1,h2,h3⟩:=Q7.1 h
    have hacc:∀ e∈acc',(M.getD n 0).testBit e.1=true∨∃ x,ops[e.1]?=some x∧a1n ops x e.2 (i7 E x e.2) o (i7 E o s):=by
     intro e he
     obtain ⟨m,hm,m1,m2,m3,m4⟩:=ha e he
     have:=(List.all_eq_true.1 hall) m hm
     simp only [Bool.or_eq_true] at this
     rcases this with this|this
     ·exact .inl (by rw [← m1]; exact this)
     ·have hp:=a10 this
      rw [m3,m4] at hp
      exact .inr ⟨m.o,m2,hp⟩
    rcases a8c (acc':=(n,s)::acc') hl' (fun e he=>by
     rcases List.mem_cons.1 he with rfl|he
     ·exact ⟨_,List.mem_cons_self ..,rfl,ho,rfl,rfl⟩
     ·obtain ⟨m,hm,r⟩:=ha e he; exact ⟨m,List.mem_cons_of_mem _ hm,r⟩) h3 with ⟨s',k1,k2⟩|⟨q,s',k0,k1,k2,k3⟩
    ·exact .inl ⟨s',⟨o,ho,hacc,p,s1,h1,h2,k1⟩,k2⟩
    ·refine .inr ⟨q,s',by omega,k1,?_,k3⟩
     cases l with
     | nil =>
      -- the append would stand behind the last operation
      exfalso
      obtain ⟨oa,c,a1,_⟩:=k1
      have:=(Array.getElem?_eq_some_iff.1 a1).1
      have h9:=(P9 hl).2.2
      simp at h9; omega
     | cons o2 l =>
      simp only [List.length_cons,Nat.add_sub_cancel] at k2 ⊢
      rw [List.range'_succ,List.filter_cons]
      have hne:(!(n == q.k))=true:=by simp; omega
      rw [if_pos hne]
      exact ⟨o,ho,hacc,p,s1,h1,h2,k2⟩

end
end Go.Ex
