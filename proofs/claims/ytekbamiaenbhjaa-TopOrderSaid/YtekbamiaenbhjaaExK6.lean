import Derived.Test.YtekbamiaenbhjaaExK5

namespace Go.Ex

section
variable {E:Env} {B:C6} {S:Nat→Prop} {ι:Ix} {s:St} {a:Act} {w:World}

def a91 (P:Program) (S:Nat→Prop) (ι:Ix) (o:Oper) (a:Act) (w:World) (s:St) (v:AV):Prop :=
 ∃ val,(∀ w',(execOp a.eval o).run P w'=.ok (.value val) w')∧VX w.heap S ι s.hp v [val]
def a6Y (P:Program) (S:Nat→Prop) (ι:Ix) (o:Oper) (a:Act) (w:World) (s:St):OR→Prop
 | .fail _=>True
 | .ok v s'=>s'=s∧a91 P S ι o a w s v
 | .E0 p v s'=>p→s'=s∧a91 P S ι o a w s v
theorem a0u {P:Program} {o:Oper} {sem:Sem Value} (he:execOp a.eval o=(do pure (.value (← sem)))) {v:AV} {val:Value} (hr:∀ w',sem.run P w'=.ok val w')
  (hv:VX w.heap S ι s.hp v [val]):s=s∧a91 P S ι o a w s v:=⟨rfl,val,fun w'=>by rw [he]; simp [hr w',Result.andThen],hv⟩

theorem b0D (hE:A6 E B) (h:RS B S ι s a w) {o:Oper} {T:TypeId} {x:Operand} {n:Nat} (ho:o.op=.fieldAddr T x n):a6Y E.P S ι o a w s (j9 E o s):=by
 have he:execOp a.eval o=(do pure (.value (← Instr.fieldAt T (a.eval x) n))):=by simp [execOp,ho]
 unfold j9
 rw [ho]
 simp only
 split
 ·rename_i i p hx
  split
  ·rename_i u z hpt
   split
   ·rename_i r hc hg2
    obtain ⟨e,b,off,h1,h2,h3,h4⟩:=y9 h hx
    have hg:=F6 h1 hpt
    have h4:a.eval x=.pointer (some ⟨b,off,none⟩):=by simpa using h4
    obtain ⟨u2,z2⟩:=r
    exact a0u he (fun _=>by rw [h4]; exact a0e (B2 hE hc) hg2 b off) ⟨e,b,off+N0 u n,h1,R9 hg h2 (a2H hg2),a1Y hg h3 (fun G=>a1y hg2),rfl⟩
   ·trivial
  ·trivial
 ·rename_i t y hx
  split
  ·rename_i u z hc hg
   obtain ⟨b,off,e,h1,h2,h3⟩:=y9 h hx
   have e:a.eval x=.pointer (some ⟨b,off,none⟩):=by simpa using e
   have hok:=a2H hg
   obtain ⟨O1,O2,b',off',e1,e2,e3,e4,e5,e6⟩:=focus h3 h2 hok hg
   have hO:O1=[]∧O2=[]:=by have:=e1.nil_eq; simpa using this.symm
   rw [a1y hg] at e3; cases e3
   refine a0u he (fun _=>by rw [e]; exact a0e (B2 hE hc) hg b off) ⟨b,off+N0 t n,rfl,h1,e5,?_⟩
   rw [hO.2] at e4; exact e4
  ·trivial
 ·rename_i t y hx
  split
  ·rename_i u z hc hg
   intro hy
   obtain ⟨b,off,e,h1,h2,h3⟩:=a7e (y9 h hx) hy
   have e:a.eval x=.pointer (some ⟨b,off,none⟩):=by simpa using e
   have hok:=a2H hg
   obtain ⟨O1,O2,b',off',e1,e2,e3,e4,e5,e6⟩:=focus h3 h2 hok hg
   have hO:O1=[]∧O2=[]:=by have:=e1.nil_eq; simpa using this.symm
   rw [a1y hg] at e3; cases e3
   refine a0u he (fun _=>by rw [e]; exact a0e (B2 hE hc) hg b off) ⟨b,off+N0 t n,rfl,h1,e5,?_⟩
   rw [hO.2] at e4; exact e4
  ·trivial
 ·trivial

theorem b0z (hE:A6 E B) (h:RS B S ι s a w) {o:Oper} {T:TypeId} {x y:Operand} (ho:o.op=.indexAddr T x y):a6Y E.P S ι o a w s (j9 E o s):=by
 have he:execOp a.eval o=(do pure (.value (← Instr.indexAt T (a.eval x) (a.eval y)))):=by simp [execOp,ho]
 unfold j9
 rw [ho]
 simp only
 split
 ·rename_i d p k n hx hy
  split
  ·rename_i m u z hpt
   split
   ·rename_i hc
    intro hn
    obtain ⟨e,b,off,h1,h2,h3,h4⟩:=y9 h hx
    have hg:=F6 h1 hpt
    have h4:a.eval x=.pointer (some ⟨b,off,none⟩):=by simpa using h4
    obtain ⟨hyv,_⟩:=VX.F7 (y9 h hy)
    exact a0u he (fun _=>by rw [h4,hyv]; exact a0k (B2 hE hc) b off hn) ⟨e,b,off+n.toNat*u.size,h1,R9 hg h2 ⟨hn,L7⟩,a1Y hg h3 (fun G=>by simp only [x5,x8]),rfl⟩
   ·trivial
  ·trivial
 ·rename_i m t z k n hx hy
  split
  ·rename_i hc
   intro hn
   obtain ⟨b,off,e,h1,h2,h3⟩:=y9 h hx
   have e:a.eval x=.pointer (some ⟨b,off,none⟩):=by simpa using e
   obtain ⟨hyv,_⟩:=VX.F7 (y9 h hy)
   have hok:w6 (.arr m t) z [.idx n]:=⟨hn,by cases t<;>trivial⟩
   have hg:i6 (.arr m t) z [.idx n]=some ⟨t,List.getD z (Int.toNat n) t.p8⟩:=by simp only [i6]
   obtain ⟨O1,O2,b',off',e1,e2,e3,e4,e5,e6⟩:=focus h3 h2 hok hg
   have hO:O1=[]∧O2=[]:=by have:=e1.nil_eq; simpa using this.symm
   have e3':x5 w.heap (.arr m t) [.idx n] b off=some (b,off+Int.toNat n*t.size):=by simp only [x5]
   rw [e3'] at e3; cases e3
   refine a0u he (fun _=>by rw [e,hyv]; exact a0k (B2 hE hc) b off hn) ⟨b,off+Int.toNat n*t.size,rfl,h1,e5,?_⟩
   rw [hO.2] at e4; exact e4
  ·trivial
 ·rename_i t z k n hx hy
  split
  ·rename_i hc
   intro hn
   obtain ⟨cs,e,hR⟩:=y9 h hx
   have e:a.eval x=j8 (.d0 false t) cs:=by simpa using e
   obtain ⟨hyv,_⟩:=VX.F7 (y9 h hy)
   rcases hR with ⟨_,_,hz⟩|⟨b1,o1,cap,O',c1,c2,c3,c4,c5,c6,c7,c8⟩
   ·subst hz; exact (a9w hn).elim
   ·have hxv:a.eval x=.slice (some ⟨b1,o1,none⟩) (List.length z) cap:=by rw [e,c1]; rfl
    obtain ⟨b1',b2,b3,b4⟩:=B9 (sz:=t.size) hn
    obtain ⟨P1,P2,P3,e1,g1,g2,g3⟩:=i8.split (d:=t.p8) (i:=Int.toNat n) b1' c5
    have hle:t.size≤List.length z*t.size - Int.toNat n*t.size:=by omega
    rw [n9,n8 _ _ _ _ hle] at g2
    have hP:P2=[]:=by rw [c7] at e1; have:=List.append_eq_nil_iff.1 e1.symm; exact (List.append_eq_nil_iff.1 this.2).1
    refine a0u he (fun _=>by rw [hxv,hyv]; exact R0 (B2 hE hc) b1 o1 _ cap hn) ⟨b1,o1+Int.toNat n*t.size,rfl,c8,by omega,?_⟩
    rw [hP] at g2; exact g2
  ·trivial
 ·rename_i d p k n hx hy
  split
  ·rename_i u z hpt
   split
   ·rename_i hc
    intro hn
    obtain ⟨e,u',y',cs,h1,h2,h3,h4,h5⟩:=y9 h hx
    have hg:=F6 h1 hpt
    rw [h3] at hg; cases hg
    obtain ⟨hyv,_⟩:=VX.F7 (y9 h hy)
    have h5:a.eval x=j8 (.d0 true u) cs:=by simpa using h5
    obtain ⟨O2,m1,m2,m3⟩:=G2 h.hs h1 h2 h3 h4
    rcases m3 with ⟨_,_,hz⟩|⟨b1,o1,cap,O',rfl,c2,c3,c4,c5,c6,c7⟩
    ·subst hz; exact (a9w hn).elim
    ·have hxv:a.eval x=.slice (some ⟨b1,o1,none⟩) (List.length z) cap:=h5
     obtain ⟨b0,off0,q1,q2⟩:=h4
     have hh:=(M1 b0 off0 _).1 q2.symm
     refine a0u he (fun _=>by rw [hxv,hyv]; exact R0 (B2 hE hc) b1 o1 _ cap hn) ⟨e,b1,o1+n.toNat*u.size,h1,R9 h3 h2 ⟨hn,L7⟩,a0b (Y4 h3 q1 ?_) c7.free.lt,rfl⟩
     simp only [x5,hh,x8]
   ·trivial
  ·trivial
 ·rename_i d p lo hi k n hx hy
  split
  ·rename_i u l hvw
   split
   ·rename_i hc
    intro hn
    have hn1:@LE.le Int Int.instLEInt 0 n:=hn.1
    have hn2:@LT.lt Int Int.instLTInt n (hi - lo):=hn.2
    obtain ⟨A,c,k1,k2,k3,k4,k5,e,k6,k7,k8⟩:=a7i h.hs (y9 h hx) hvw
    obtain ⟨hyv,_⟩:=VX.F7 (y9 h hy)
    have hz:l≠[]:=by rintro rfl; have k3:((0:Nat):Int)=hi - lo:=k3; omega
    obtain ⟨b,off,rfl,k9⟩:=k8 hz
    obtain ⟨off2,q1,rfl,q3⟩:=k9 n hn.1 (by omega)
    exact a0u he (fun _=>by rw [k1,hyv]; exact R0 (B2 hE hc) b off _ c (by omega)) ⟨e,b,_,k6,q3,q1,rfl⟩
   ·trivial
  ·trivial
 ·trivial

theorem b2c (_hE:A6 E B) (h:RS B S ι s a w) {o:Oper} {x:Operand} (ho:o.op=.nilCheck x):a6Y E.P S ι o a w s (j9 E o s):=by
 unfold j9; rw [ho]
 simp only
 split
 ·rename_i i p hx
  obtain ⟨e,b,off,h1,h2,h3,h4⟩:=y9 h hx
  have h4:a.eval x=.pointer (some ⟨b,off,none⟩):=by simpa using h4
  exact ⟨rfl,.pointer (some ⟨b,off,none⟩),fun w'=>by simp only [execOp,ho,h4]; rfl,e,b,off,h1,h2,h3,rfl⟩
 ·rename_i t y hx
  obtain ⟨b,off,e,h1,h2,h3⟩:=y9 h hx
  have e:a.eval x=.pointer (some ⟨b,off,none⟩):=by simpa using e
  exact ⟨rfl,.pointer (some ⟨b,off,none⟩),fun w'=>by simp only [execOp,ho,e]; rfl,b,off,rfl,h1,h2,h3⟩
 ·rename_i t y hx
  intro hy
  obtain ⟨b,off,e,h1,h2,h3⟩:=a7e (y9 h hx) hy
  have e:a.eval x=.pointer (some ⟨b,off,none⟩):=by simpa using e
  exact ⟨rfl,.pointer (some ⟨b,off,none⟩),fun w'=>by simp only [execOp,ho,e]; rfl,b,off,rfl,h1,h2,h3⟩
 ·rename_i f t y hx
  intro hy
  have hv:=y9 h hx
  obtain ⟨p,e,-⟩:=a8e hv hy
  exact ⟨rfl,a.eval x,fun w'=>by simp only [execOp,ho,e]; rfl,hv⟩
 ·rename_i f l hx
  obtain ⟨us,e,h1⟩:=y9 h hx
  have e:a.eval x=.func (.func f) #[] us.toArray:=by simpa using e
  exact ⟨rfl,.func (.func f) #[] us.toArray,fun w'=>by simp only [execOp,ho,e]; rfl,us,rfl,h1⟩
 ·rename_i g b hx
  intro hb
  have hv:=b3B h hx
  have hb:b=true:=hb
  subst hb
  exact ⟨rfl,.func (.func g) #[] #[],fun w'=>by simp only [execOp,ho,hv]; rfl,[fnV g true],rfl,rfl,rfl⟩
 ·trivial

theorem a4e (hE:A6 E B) (h:RS B S ι s a w) {o:Oper} (ho:a6A o.op=true):a6Y E.P S ι o a w s (j9 E o s):=by
 unfold a6A at ho
 split at ho
 ·rename_i e; exact b0D hE h e
 ·rename_i e; exact b0z hE h e
 ·rename_i e; exact b2c hE h e
 ·cases ho
end

section
variable {S:Nat→Prop} {H H':Array Go.Obj}

theorem sib {t:Ty} {O:List Nat} {b off:Nat} {x:t.den} (hR:f9 H S t O (f8 H b off t.size) x) (hb:off+t.size≤(w7 H b).length) (hc:f8 H' b off t.size=f8 H b off t.size) (hO:∀ c∈O,H'[c]?=H[c]?)
  {q:List Step} (ho:w6 t x q) {u:Ty} {y:u.den} (hg:i6 t x q=some ⟨u,y⟩) {b' off':Nat} (hn:x5 H t q b off=some (b',off')):x5 H' t q b off=some (b',off')∧f8 H' b' off' u.size=f8 H b' off' u.size :=
 ⟨(a2c hR hb ho hc hO).trans hn,a3N hR hb ho hc hO hg hn⟩

theorem c3P:∀ {t:Ty} {p:List Step} {b off:Nat} {O1:List Nat} {x:t.den},s8 H S t p b off O1 x→off+t.size≤(w7 H b).length→f8 H' b off t.size=f8 H b off t.size→(∀ c∈O1,H'[c]?=H[c]?) →
  ∀ {u0:Ty} {y0:u0.den},i6 t x p=some ⟨u0,y0⟩→∀ {b0 off0:Nat},x5 H t p b off=some (b0,off0) →
  (∀ {q:List Step},w6 u0 y0 q→∀ {u:Ty} {y:u.den},i6 u0 y0 q=some ⟨u,y⟩→∀ {b' off':Nat},x5 H u0 q b0 off0=some (b',off')→x5 H' u0 q b0 off0=some (b',off')∧f8 H' b' off' u.size=f8 H b' off' u.size) →
  ∀ {q:List Step},w6 t x q→∀ {u:Ty} {y:u.den},i6 t x q=some ⟨u,y⟩→∀ {b' off':Nat},x5 H t q b off=some (b',off')→x5 H' t q b off=some (b',off')∧f8 H' b' off' u.size=f8 H b' off' u.size:=by
 intro t
 have here:∀ {t:Ty} {x:t.den} {b off:Nat},f8 H' b off t.size=f8 H b off t.size→∀ {u:Ty} {y:u.den},i6 t x []=some ⟨u,y⟩→∀ {b' off':Nat},x5 H t [] b off=some (b',off')→x5 H' t [] b off=some (b',off')∧f8 H' b' off' u.size=f8 H b' off' u.size:=by
  intro t x b off hc u y hg b' off' hn
  rw [x9] at hg; cases hg
  rw [x8] at hn; cases hn
  exact ⟨x8 ..,hc⟩
 induction t with
 | pair a c iha ihc =>
  intro p b off O1 x hR hb hc hO u0 y0 hg0 b0 off0 hn0 hP q ho u y hg b' off' hn
  match p,hR,hg0,hn0 with
  | [],_,hg0,hn0 =>
   rw [x9] at hg0; cases hg0
   rw [x8] at hn0; cases hn0
   exact hP ho hg hn
  | .j6 0::p,⟨P1,P2,e,h1,h2⟩,hg0,hn0 =>
   subst e
   simp only [Ty.size] at hb hc
   match q,ho,hg,hn with
   | [],_,hg,hn=>exact here hc hg hn
   | .j6 0::q,ho,hg,hn=>exact iha h1 (by omega) (V6 hc (by omega) (by omega)) (fun c hc=>hO c (by simp [hc])) hg0 hn0 hP ho hg hn
   | .j6 (m+1)::q,ho,hg,hn=>exact sib h2 (by omega) (V6 hc (by omega) (by omega)) (fun c hc=>hO c (by simp [hc])) (q:=.j6 m::q) ho hg hn
   | .idx i::q,ho,_,_=>simp [w6] at ho
  | .j6 (n+1)::p,⟨P1,P2,e,h1,h2⟩,hg0,hn0 =>
   subst e
   simp only [Ty.size] at hb hc
   match q,ho,hg,hn with
   | [],_,hg,hn=>exact here hc hg hn
   | .j6 0::q,ho,hg,hn=>exact sib h1 (by omega) (V6 hc (by omega) (by omega)) (fun c hc=>hO c (by simp [hc])) (q:=q) ho hg hn
   | .j6 (m+1)::q,ho,hg,hn=>exact ihc h2 (by omega) (V6 hc (by omega) (by omega)) (fun c hc=>hO c (by simp [hc])) hg0 hn0 hP (q:=.j6 m::q) ho hg hn
   | .idx i::q,ho,_,_=>simp [w6] at ho
  | .idx i::p,hR,_,_=>simp [s8] at hR
 | arr n t ih =>
  intro p b off O1 x hR hb hc hO u0 y0 hg0 b0 off0 hn0 hP q ho u y hg b' off' hn
  match p,hR,hg0,hn0 with
  | [],_,hg0,hn0 =>
   rw [x9] at hg0; cases hg0
   rw [x8] at hn0; cases hn0
   exact hP ho hg hn
  | .j6 i::p,hR,_,_=>simp [s8] at hR
  | .idx i::p,⟨hl,hi,P1,P2,P3,e,h1,h2,h3⟩,hg0,hn0 =>
   subst e
   obtain ⟨b1,b2,b3,b4⟩:=B9 (sz:=t.size) hi
   simp only [Ty.size] at hb hc
   match q,ho,hg,hn with
   | [],_,hg,hn=>exact here hc hg hn
   | .j6 j::q,ho,_,_=>simp [w6] at ho
   | .idx j::q,⟨hj,ho⟩,hg,hn =>
    obtain ⟨d1,d2,d3,d4⟩:=B9 (sz:=t.size) hj
    simp only [x5] at hn ⊢
    simp only [i6] at hg
    have hcj:f8 H' b (off+j.toNat*t.size) t.size=f8 H b (off+j.toNat*t.size) t.size:=V6 hc (by omega) (by omega)
    by_cases hij:i.toNat=j.toNat
    ·rw [← hij] at ho hg hn hcj ⊢
     exact ih h2 (by omega) hcj (fun c hc=>hO c (by simp [hc])) hg0 hn0 hP ho hg hn
    ·rcases Nat.lt_or_gt_of_ne hij with hlt|hgt
     ·have hd:j.toNat - (i.toNat+1)<(List.drop (i.toNat+1) x).length:=by simp only [List.length_drop]; omega
      obtain ⟨Q1,Q2,Q3,e,k1,k2,k3⟩:=i8.split (d:=t.p8) hd h3
      have e1:(i.toNat+1)*t.size+(j.toNat - (i.toNat+1))*t.size=j.toNat*t.size:=by rw [← Nat.add_mul]; congr 1; omega
      have hm:(j.toNat - (i.toNat+1))*t.size+t.size≤(n - (i.toNat+1))*t.size:=by omega
      rw [n9,n8 _ _ _ _ (by omega),Nat.add_assoc,e1] at k2
      have e2:(List.drop (i.toNat+1) x).getD (j.toNat - (i.toNat+1)) t.p8=List.getD x j.toNat t.p8:=by
       simp only [List.getD_eq_getElem?_getD,List.getElem?_drop]
       rw [show i.toNat+1+(j.toNat - (i.toNat+1))=j.toNat from by omega]
      rw [e2] at k2
      exact sib k2 (by omega) hcj (fun d hd=>hO d (by rw [e]; simp [hd])) ho hg hn
     ·have hd:j.toNat<(List.take i.toNat x).length:=by simp only [List.length_take]; omega
      obtain ⟨Q1,Q2,Q3,e,k1,k2,k3⟩:=i8.split (d:=t.p8) hd h1
      have hm:j.toNat*t.size+t.size≤i.toNat*t.size:=by
       rw [← Nat.succ_mul]; exact Nat.mul_le_mul_right _ (by omega)
      rw [n9,n8 _ _ _ _ (by omega)] at k2
      have e2:(List.take i.toNat x).getD j.toNat t.p8=List.getD x j.toNat t.p8:=by
       simp only [List.getD_eq_getElem?_getD,List.getElem?_take]
       rw [if_pos (by omega)]
      rw [e2] at k2
      exact sib k2 (by omega) hcj (fun d hd=>hO d (by rw [e]; simp [hd])) ho hg hn
 | d0 o t ih =>
  intro p b off O1 x hR hb hc hO u0 y0 hg0 b0 off0 hn0 hP q ho u y hg b' off' hn
  match p,hR,hg0,hn0 with
  | [],_,hg0,hn0 =>
   rw [x9] at hg0; cases hg0
   rw [x8] at hn0; cases hn0
   exact hP ho hg hn
  | .j6 i::p,hR,_,_=>cases o<;>simp [s8] at hR
  | .idx i::p,hR,hg0,hn0 =>
   cases o with
   | false=>simp [s8] at hR
   | true =>
    obtain ⟨hi,c1,o1,cap,P1,P2,P3,e,e1,e2,e3,e4,e5,e6,e7⟩:=hR
    subst e
    obtain ⟨b1,b2,b3,b4⟩:=B9 (sz:=t.size) hi
    have hcap:List.length x*t.size≤cap*t.size:=Nat.mul_le_mul_right _ e2
    have hfb:=e4.free.w7
    simp only [Ty.size] at hb hc
    match q,ho,hg,hn with
    | [],_,hg,hn=>exact here (t:=.d0 true t) hc hg hn
    | .j6 j::q,ho,_,_=>simp [w6] at ho
    | .idx j::q,⟨hj,ho⟩,hg,hn =>
     obtain ⟨d1,d2,d3,d4⟩:=B9 (sz:=t.size) hj
     have hhd:(w7 H' b)[off]?=some (.slice (some ⟨c1,o1,none⟩) (List.length x) cap):=by
      rw [b4a hc (j:=off) (by omega) (by omega)]; exact e1
     simp only [x5,e1] at hn hn0
     simp only [x5,hhd]
     simp only [i6] at hg
     have hcj:f8 H' c1 (o1+j.toNat*t.size) t.size=f8 H c1 (o1+j.toNat*t.size) t.size:=l5 (hO c1 (by simp)) _ _
     by_cases hij:i.toNat=j.toNat
     ·rw [← hij] at ho hg hn hcj ⊢
      exact ih e6 (by omega) hcj (fun c hc=>hO c (by simp [hc])) hg0 hn0 hP ho hg hn
     ·rcases Nat.lt_or_gt_of_ne hij with hlt|hgt
      ·have hd:j.toNat - (i.toNat+1)<(List.drop (i.toNat+1) x).length:=by simp only [List.length_drop]; omega
       obtain ⟨Q1,Q2,Q3,e,k1,k2,k3⟩:=i8.split (d:=t.p8) hd e7
       have f1:(i.toNat+1)*t.size+(j.toNat - (i.toNat+1))*t.size=j.toNat*t.size:=by rw [← Nat.add_mul]; congr 1; omega
       have hm:(j.toNat - (i.toNat+1))*t.size+t.size≤(List.length x - (i.toNat+1))*t.size:=by omega
       rw [n9,n8 _ _ _ _ (by omega),Nat.add_assoc,f1] at k2
       have f2:(List.drop (i.toNat+1) x).getD (j.toNat - (i.toNat+1)) t.p8=List.getD x j.toNat t.p8:=by
        simp only [List.getD_eq_getElem?_getD,List.getElem?_drop]
        rw [show i.toNat+1+(j.toNat - (i.toNat+1))=j.toNat from by omega]
       rw [f2] at k2
       exact sib k2 (by omega) hcj (fun d hd=>hO d (by rw [e]; simp [hd])) ho hg hn
      ·have hd:j.toNat<(List.take i.toNat x).length:=by simp only [List.length_take]; omega
       obtain ⟨Q1,Q2,Q3,e,k1,k2,k3⟩:=i8.split (d:=t.p8) hd e5
       have hm:j.toNat*t.size+t.size≤i.toNat*t.size:=by
        rw [← Nat.succ_mul]; exact Nat.mul_le_mul_right _ (by omega)
       rw [n9,n8 _ _ _ _ (by omega)] at k2
       have f2:(List.take i.toNat x).getD j.toNat t.p8=List.getD x j.toNat t.p8:=by
        simp only [List.getD_eq_getElem?_getD,List.getElem?_take]
        rw [if_pos (by omega)]
       rw [f2] at k2
       exact sib k2 (by omega) hcj (fun d hd=>hO d (by rw [e]; simp [hd])) ho hg hn
 | _ =>
  intro p b off O1 x hR hb hc hO u0 y0 hg0 b0 off0 hn0 hP q ho u y hg b' off' hn
  match p,hR,hg0,hn0 with
  | [],_,hg0,hn0 =>
   rw [x9] at hg0; cases hg0
   rw [x8] at hn0; cases hn0
   exact hP ho hg hn
  | .idx i::p,hR,_,_=>simp [s8] at hR
  | .j6 i::p,hR,_,_=>simp [s8] at hR

theorem b65 {t0:Ty} {l:List t0.den} {b off b1 o1 cap n:Nat} {Op:List Nat} (hR:f9 H S (.d0 true t0) Op (f8 H b off 1) l) (hOp:∀ c∈Op,c<H.size) (hnd:Op.Nodup) (hb:b<H.size) (hbO:b∉Op)
  (hh:f8 H b off 1=[.slice (some ⟨b1,o1,none⟩) l.length cap]) (h1:1≤cap) (hc:S5 H H' b1 (o1+l.length*t0.size) n) :
  ∀ {q:List Step},w6 (.d0 true t0) l q→∀ {u:Ty} {y:u.den},i6 (.d0 true t0) l q=some ⟨u,y⟩→∀ {b' off':Nat},x5 H (.d0 true t0) q b off=some (b',off')→x5 H' (.d0 true t0) q b off=some (b',off')∧f8 H' b' off' u.size=f8 H b' off' u.size:=by
 intro q ho u y hg b' off' hn
 rcases hR with ⟨_,⟨A,c,e,hc0⟩,_⟩|⟨b2,o2,cap2,O',c1,c2,c3,c4,c5,rfl,c7⟩
 ·rw [hh] at e
  simp only [List.cons.injEq,Value.slice.injEq,and_true] at e
  have:=hc0 rfl; omega
 ·rw [hh] at c1
  simp only [List.cons.injEq,Value.slice.injEq,Option.some.injEq,Addr.mk.injEq,and_true] at c1
  obtain ⟨⟨rfl,rfl⟩,-,rfl⟩:=c1
  have hne:b≠b1:=fun e=>hbO (by simp [e])
  have hcb:f8 H' b off 1=f8 H b off 1:=hc.cells hb (fun e=>absurd e hne)
  match q,ho,hg,hn with
  | [],_,hg,hn =>
   rw [x9] at hg; cases hg
   rw [x8] at hn; cases hn
   exact ⟨x8 ..,hcb⟩
  | .j6 j::q,ho,_,_=>simp [w6] at ho
  | .idx j::q,⟨hj,ho⟩,hg,hn =>
   obtain ⟨d1,d2,d3,d4⟩:=B9 (sz:=t0.size) hj
   have hhd:=(M1 b off _).1 hh
   have hhd':=(M1 b off _).1 (hcb.trans hh)
   simp only [x5,hhd] at hn
   simp only [x5,hhd']
   simp only [i6] at hg
   obtain ⟨P1,P2,P3,e,g1,g2,g3⟩:=i8.split (d:=t0.p8) d1 c5
   subst e
   rw [n9,n8 _ _ _ _ (by omega)] at g2
   have hcap:=c7.free.w7
   have hcm:List.length l*t0.size≤cap*t0.size:=Nat.mul_le_mul_right _ c2
   refine sib g2 (by omega) (hc.cells (hOp b1 (by simp)) (fun _=>.inl (by omega))) (fun d hd=>hc.rest d ?_ (hOp d (by simp [hd]))) ho hg hn
   rintro rfl
   exact (List.nodup_cons.1 hnd).1 (by simp [hd])
end

section
variable {E:Env} {B:C6} {S:Nat→Prop} {ι:Ix} {s:St} {a:Act} {w:World}

theorem RS.spare (h:RS B S ι s a w) {i:Nat} {e:f7} (he:look i s.hp=some e) (_hnb:e≠.J0) {w':World} (k:C0 (l6 ι i e) w w') (hob:OB w'.heap S ι i e) (hsz:w'.heap.size=w.heap.size)
  (hnav:∀ {q:List Step},w6 e.ty e.x q→∀ {u:Ty} {y:u.den},i6 e.ty e.x q=some ⟨u,y⟩→∀ {b off:Nat},Place w.heap ι i e q=some (b,off)→Place w'.heap ι i e q=some (b,off)∧f8 (VH w'.heap ι i e) b off u.size=f8 (VH w.heap ι i e) b off u.size) :
  RS B S ι s a w':=by
 have hold:∀ {b:Nat},((∃ j ej,j≠i∧look j s.hp=some ej∧b∈l6 ι j ej)∨S b)→w'.heap[b]?=w.heap[b]?:=by
  intro b hb
  refine k.frame b (hb.elim (fun ⟨j,ej,_,h1,h2⟩=>(h.hs.bl j ej h1 b h2).2.2) (h.hs.slt b)) (fun hbL=>?_)
  rcases hb with ⟨j,ej,h0,h1,h2⟩|hb
  ·exact h.hs.dj i j e ej he h1 (Ne.symm h0) b hbL h2
  ·exact (h.hs.bl i e he b hbL).1 hb
 have hHS:HS B S ι s.hp w':=by
  refine ⟨k.os.trans h.hs.os,k.tape.trans h.hs.tape,k.out.trans h.hs.out,by rw [hsz]; exact h.hs.size,?_,fun b hb=>by rw [hsz]; exact h.hs.slt b hb,h.hs.s0,h.hs.s1,?_,fun j ej hj c hc=>?_,h.hs.dj,h.hs.pin⟩
  ·intro c hc hm
   rw [k.frame c (Nat.lt_of_lt_of_le hc h.hs.size) (fun hcL=>by rcases (h.hs.bl i e he c hcL).2.1 with h1|h1; omega; exact hm h1)]
   exact h.hs.frame c hc hm
  ·intro j ej hj
   by_cases e1:j=i
   ·subst e1; rw [he] at hj; cases hj; exact hob
   ·exact (h.hs.ob j ej hj).s7 (fun b hb=>hold (hb.imp (fun hb=>⟨j,ej,e1,hj,hb⟩) id)) (fun _ h=>h)
  ·rw [hsz]; exact h.hs.bl j ej hj c hc
 have hloc:∀ {j:Nat} {ej:f7},look j s.hp=some ej→∀ {q:List Step},w6 ej.ty ej.x q→∀ {r:Nat×Nat},Loc w.heap ι j ej q=some r→Loc w'.heap ι j ej q=some r:=by
  intro j ej hj q hok r hl
  by_cases e1:j=i
  ·subst e1; rw [he] at hj; cases hj
   obtain ⟨u,y,hg⟩:=b1m hok
   obtain ⟨g1,g2⟩:=A7 (b:=r.1) (off:=r.2) hl
   exact a0b (hnav hok hg g1).1 (by rw [hsz]; exact g2)
  ·exact a3i (K1 hl) (h.hs.ob j ej hj) h.hs.slt (fun b hb=>hold (.inl ⟨j,ej,e1,hj,hb⟩)) hok hl
 have hcel:∀ {j:Nat} {ej:f7},look j s.hp=some ej→∀ {q:List Step},w6 ej.ty ej.x q→∀ {u:Ty} {y:u.den},i6 ej.ty ej.x q=some ⟨u,y⟩→∀ {cs:List Value},Cells w.heap ι j ej q u cs→Cells w'.heap ι j ej q u cs:=by
  intro j ej hj q hok u y hg cs hc
  by_cases e1:j=i
  ·subst e1; rw [he] at hj; cases hj
   obtain ⟨b0,o0,g1,g2⟩:=hc
   obtain ⟨m1,m2⟩:=hnav hok hg g1
   exact ⟨b0,o0,m1,g2.trans m2.symm⟩
  ·exact a3U (a2P hc) (h.hs.ob j ej hj) h.hs.slt (fun b hb=>hold (.inl ⟨j,ej,e1,hj,hb⟩)) hok hg hc
 refine ⟨hHS,h.dfr,h.sz,fun t v hv=>?_⟩
 have:=VX.map (H':=w'.heap) (S':=S) (ι':=ι) (hp':=s.hp) (f:=fun u=>u) (fun b hb=>hold (.inr hb)) (fun _ h=>h) ?_ (h.fr t v hv)
 ·rwa [AV.map_id] at this
 ·intro u vs hu _ h
  cases u<;>simp only [AV.ref] at hu<;>try cases hu
  ·obtain ⟨e',b,off,h1,h2,h3,h4⟩:=h
   exact ⟨e',b,off,h1,h2,hloc h1 h2 h3,h4⟩
  ·obtain ⟨e',u,y,cs,h1,h2,h3,h4,h5⟩:=h
   exact ⟨e',u,y,cs,h1,h2,h3,hcel h1 h2 h3 h4,h5⟩
  ·obtain ⟨e',v',h1,h2,h3,h4,h5,h6⟩:=h
   refine ⟨e',v',h1,h2,h3,h4,h5,?_⟩
   rcases h6 with ⟨t,l,a,cap,k1,k2,k3,k4⟩|⟨n,t,l,b,off,k1,k2,k3,k4⟩
   ·exact .inl ⟨t,l,a,cap,k1,k2,hcel h1 h2 k1 k3,k4⟩
   ·exact .inr ⟨n,t,l,b,off,k1,k2,hloc h1 h2 k3,k4⟩

def a8K (B:C6) (S:Nat→Prop) (ι:Ix) (hp:List (Nat×f7)) (g:List Nat) (i:Nat) (e:f7) (p:List Step) (t0:Ty) (l m:List t0.den) (b off:Nat) (v':Value) (w:World):Prop :=
 ∃ O',Loc w.heap ι i e p=some (b,off)∧f9 w.heap S (.d0 true t0) O' [v'] (l++m)∧O'.Nodup∧b∉O' ∧
  ∀ c∈O',(¬ S c∧(B.w0.heap.size≤c∨B.M c)∧c<w.heap.size)∧(∀ j ej,j≠i→j∉g→look j hp=some ej→c∉l6 ι j ej) ∧
   (c∈l6 ι i e→∃ Op,f9 w.heap S (.d0 true t0) Op (f8 w.heap b off 1) l∧c∈Op)

theorem a74 (hE:A6 E B) (h:RS B S ι s a w) {o:Oper} {c:Call} (ho:o.op=.call c) (hc:c.callee=.builtin .append) {x y:Operand} {T U:TypeId} (ha:c.args.toList=[x,y]) (hTs:c.argTypes.toList=[T,U])
  (hk:(∃ e',E.P.underlying U=some (.slice e'))∨E.P.underlying U=some .string) {q:Bool} {t0:Ty} {bts:Nat} (hT:look T E.tt=some ⟨.d0 q t0,bts⟩) {i:Nat} {p:List Step} (hx:s.ev x=.at_ i p)
  {e:f7} (he:look i s.hp=some e) (hkd:(∃ t x,e=.var t x)∨∃ t x j q,e=.own (.d0 true t) x∧p=.idx j::q) {l:List t0.den} (hg:i6 e.ty e.x p=some ⟨.d0 true t0,l⟩)
  {b off:Nat} (hl:Loc w.heap ι i e p=some (b,off)) {m:List t0.den} {g:List Nat} (happ:(s.ev y).Y2 s t0=some (⟨t0,m⟩,g)) (hgi:i∉g) (_hgn:g.Nodup)
  (h63:l.length+m.length≤140737488355328) (hby:(l.length+m.length)*t0.wb≤140737488355328) :
  ∃ v' w',(execOp a.eval o).run E.P w=.ok (.value v') w'∧RS B S ι s a w'∧w6 e.ty e.x p∧a8K B S ι s.hp g i e p t0 l m b off v' w':=by
 have hnb:e≠.J0:=K1 hl
 obtain ⟨Og,news,k1,k2,k3,k4⟩:=a5H (P:=E.P) h hk happ (h.ev y)
 obtain ⟨e2,u,y2,cs,r1,hok,r3,r4,r5⟩:=y9 h hx
 rw [he] at r1; cases r1
 rw [hg] at r3; cases r3
 obtain ⟨Op,m1,mn,m2,m3,m4,m5⟩:=M9 hnb (h.hs.ob i e he) h.hs.slt hok hg hl
 have hbOp:=(h.hs.ob i e he).a1s hnb h.hs.slt hok hg hl m2
 obtain ⟨hpl,hbl2⟩:=A7 hl
 have hcs:cs=f8 w.heap b off 1:=by
  obtain ⟨b0,off0,q1,q2⟩:=r4
  rw [hpl] at q1; cases q1
  rw [l5 (G6 hbl2)] at q2
  exact q2
 have hv1:f8 w.heap b off 1=[a.eval x]:=by
  have hln:(f8 w.heap b off 1).length=1:=m2.length
  have r5':a.eval x=j8 (.d0 true t0) cs:=by simpa using r5
  rw [r5',hcs]
  match hcc:f8 w.heap b off 1,hln with
  | [z],_=>rfl
 have m2':f9 w.heap S (.d0 true t0) Op [a.eval x] l:=by rw [← hv1]; exact m2
 have hty:o9 E.P 100 T (.d0 true t0)=true:=a4C (t:=.d0 q t0) (u:=.d0 true t0) rfl (w5 hE hT)
 have hOpb:∀ c∈Op,c∈l6 ι i e:=fun c hc=>G9 (m1 c hc)
 have hnd:(Op++Og).Nodup:=List.nodup_append.2 ⟨mn,k3,by
  rintro c h1 c' h2 rfl
  obtain ⟨j,e',j1,j2,j3⟩:=k4 c h2
  exact h.hs.dj i j e e' he j2 (by rintro rfl; exact hgi j1) c (hOpb c h1) j3⟩
 have hOg:∀ c∈Og,¬ S c∧(B.w0.heap.size≤c∨B.M c)∧c<w.heap.size:=fun c hc=>by
  obtain ⟨j,e',_,j2,j3⟩:=k4 c hc
  exact h.hs.bl j e' j2 c j3
 have hOpS:=fun c hc=>h.hs.bl i e he c (hOpb c hc)
 obtain ⟨v',w',O',q1,q2,q3,q4,q5,q6,q7⟩:=a9W hty o.type h.hs.slt m2' k1 k2 hnd (fun c hc=>(List.mem_append.1 hc).elim (fun h=>⟨(hOpS c h).1,(hOpS c h).2.2⟩) (fun h=>⟨(hOg c h).1,(hOg c h).2.2⟩)) h63 hby
 have hargs:c.args=#[x,y]:=by rw [← ha]
 have hts:c.argTypes=#[T,U]:=by rw [← hTs]
 have hrun:(execOp a.eval o).run E.P w=.ok (.value v') w':=by
  simp [execOp,ho,resolve,hc,invoke,builtin,hargs,hts,q1]
 have hbl':∀ c∈l6 ι i e,¬ S c∧c<w.heap.size:=fun c hc=>⟨(h.hs.bl i e he c hc).1,(h.hs.bl i e he c hc).2.2⟩
 have hcell:f8 w'.heap b off 1=[a.eval x]:=by rw [l5 (q4.frame b hbl2 hbOp)]; exact hv1
 obtain ⟨n2,n3⟩:=OB.same (H':=w'.heap) (h.hs.ob i e he) hbl' h.hs.slt hkd hok hg hl q4.size m2 (fun c hc hn=>q4.frame c hc hn) (by
  show f9 w'.heap S (.d0 true t0) Op (f8 w'.heap b off 1) l
  rw [hcell]; exact q6)
 have hRS:RS B S ι s a w':=by
  rcases q7 with q7|⟨b1,o1,cap,n,f1,f2,f3,f4,f5⟩
  ·exact h.R6 C5.nil q7
  ·have hb1:b1∈Op:=by
    rcases m2' with ⟨_,⟨A,c,e0,hc0⟩,_⟩|⟨b2,o2,cap2,O2,c1,_,_,_,_,rfl,_⟩
    ·rw [f1] at e0
     simp only [List.cons.injEq,Value.slice.injEq,and_true] at e0
     have:=hc0 rfl; omega
    ·rw [f1] at c1
     simp only [List.cons.injEq,Value.slice.injEq,Option.some.injEq,Addr.mk.injEq,and_true] at c1
     rw [c1.1.1]; simp
   refine h.spare he hnb (q4.mono hOpb) n2 f5 ?_
   -- the object's own pointers
   obtain ⟨O,hO,hR,hbb,hnd0,hlt0,hns,hfr⟩:=(h.hs.ob i e he).see hnb h.hs.slt
   obtain ⟨O1,O3,b',off',g1,g2,g3,g4,g5,g6⟩:=focus hR hbb hok hg
   have hpl':=hpl
   rw [G0 hnb,g3] at hpl'; cases hpl'
   have g4':f9 w.heap S (.d0 true t0) O3 (f8 w.heap b off 1) l:=by
    have g4:f9 (VH w.heap ι i e) S (.d0 true t0) O3 (f8 (VH w.heap ι i e) b off 1) l:=g4
    rw [l5 (G6 hbl2)] at g4
    exact (Y3 (fun c hc=>(h.hs.ob i e he).O8 hnb (hO.mem_iff.1 (g1.mem_iff.2 (by simp [hc])))) h.hs.slt).1 g4
   obtain rfl:Op=O3:=m2.det g4'
   have hndO:(O1++Op).Nodup:=(g1.nodup_iff).1 ((hO.nodup_iff).2 (List.nodup_cons.1 hnd0).2)
   have hb1lt:b1<w.heap.size:=(hbl' b1 (hOpb b1 hb1)).2
   have hroot:b1≠(VR w.heap ι i e).1:=by
    rintro rfl
    exact (List.nodup_cons.1 hnd0).1 (hO.mem_iff.1 (g1.mem_iff.2 (by simp [hb1])))
   have hVsz:(VR w'.heap ι i e)=(VR w.heap ι i e):=by cases e<;>simp [VR,f5]
   have hV:∀ c,c≠b1→(VH w'.heap ι i e)[c]?=(VH w.heap ι i e)[c]?:=by
    intro c hcb
    have hr:∀ c,c≠b1→w'.heap[c]?=w.heap[c]?:=by
     intro c hcb
     rcases Nat.lt_or_ge c w.heap.size with h1|h1
     ·exact f4.rest c hcb h1
     ·rw [Array.getElem?_eq_none h1,Array.getElem?_eq_none (by omega)]
    cases e with
    | own t x =>
     simp only [VH,gh]
     rw [Array.getElem?_push,Array.getElem?_push,f5]
     split
     ·rfl
     ·exact hr c hcb
    | _=>exact hr c hcb
   have hVc:S5 (VH w.heap ι i e) (VH w'.heap ι i e) b1 (o1+l.length*t0.size) n:=by
    obtain ⟨arr,arr',T',⟨fz,⟨z1,z2⟩,z3⟩,z4,z5⟩:=f4.at_
    exact ⟨⟨arr,arr',T',⟨fz,⟨(G6 hb1lt).trans z1,z2⟩,(G6 (by omega)).trans z3⟩,z4,z5⟩,fun c hcb _=>hV c hcb⟩
   intro q' hok' u' y' hg' b' o' hp'
   rw [G0 hnb] at hp' ⊢
   rw [hVsz]
   have hbV:b<(VH w.heap ι i e).size:=Nat.lt_of_lt_of_le hbl2 a2x
   refine c3P g2 hbb (l5 (hV _ (Ne.symm hroot)) _ _) (fun c hc=>hV c ?_) hg g3 ?_ hok' hg' hp'
   ·rintro rfl
    exact (List.nodup_append.1 hndO).2.2 c hc c hb1 rfl
   ·have hcv:f8 (VH w.heap ι i e) b off 1=[.slice (some ⟨b1,o1,none⟩) l.length cap]:=by
     rw [l5 (G6 hbl2),hv1,f1]
    intro q2 hq2 u2 y2 hgq b2 off2 hn2
    exact b65 (H':=VH w'.heap ι i e) g4 (fun c hc=>Nat.lt_of_lt_of_le (hbl' c (hOpb c hc)).2 a2x) mn hbV hbOp hcv f3 hVc hq2 hgq hn2
 refine ⟨v',w',hrun,hRS,hok,O',n3,q2,q3,?_,?_⟩
 ·intro hb
  rcases (q5 b hb).1 with h1|h1
  ·omega
  ·rcases List.mem_append.1 h1 with h1|h1
   ·exact hbOp h1
   ·obtain ⟨j,e',j1,j2,j3⟩:=k4 b h1
    exact h.hs.dj i j e e' he j2 (by rintro rfl; exact hgi j1) b m4 j3
 ·intro c hc
  obtain ⟨f1,f2⟩:=q5 c hc
  have fact:(¬ S c∧(B.w0.heap.size≤c∨B.M c)∧c<w'.heap.size)∧(∀ j ej,j≠i→j∉g→look j s.hp=some ej→c∉l6 ι j ej)∧(c∈l6 ι i e→c∈Op):=by
   rcases f1 with f1|f1
   ·exact ⟨⟨fun hs=>by have:=h.hs.slt c hs; omega,.inl (Nat.le_trans h.hs.size f1),f2⟩,fun j ej _ _ hj hcb=>by have:=(h.hs.bl j ej hj c hcb).2.2; omega,fun hcb=>by have:=(hbl' c hcb).2; omega⟩
   ·rcases List.mem_append.1 f1 with f1|f1
    ·have:=hOpS c f1
     exact ⟨⟨this.1,this.2.1,f2⟩,fun j ej hj _ hlj=>h.hs.dj i j e ej he hlj (Ne.symm hj) c (hOpb c f1),fun _=>f1⟩
    ·have:=hOg c f1
     obtain ⟨j0,e0,j1,j2,j3⟩:=k4 c f1
     exact ⟨⟨this.1,this.2.1,f2⟩,fun j ej _ hjg hlj=>h.hs.dj j0 j e0 ej j2 hlj (by rintro rfl; exact hjg j1) c j3,fun hcb=>absurd hcb (h.hs.dj j0 i e0 e j2 he (by rintro rfl; exact hgi j1) c j3)⟩
  exact ⟨fact.1,fact.2.1,fun hcb=>⟨Op,by rw [hcell]; exact q6,fact.2.2 hcb⟩⟩

theorem a6h {e:f7} {p:List Step} {r:Sigma Ty.den} (h:b63 e p r=true):b0l e e∧((∃ t x,e=.var t x)∨∃ t x j q,e=.own (.d0 true t) x∧p=.idx j::q):=by
 unfold b63 at h
 split at h
 ·exact ⟨.inl ⟨_,_,_,rfl,rfl⟩,.inl ⟨_,_,rfl⟩⟩
 ·split at h
  ·exact ⟨.inr (.inl ⟨_,_,_,rfl,rfl⟩),.inr ⟨_,_,_,_,rfl,rfl⟩⟩
  ·cases h
 ·cases h

theorem a0R {a:Act} {t d:Nat} {v:Value} (h:t≠d):(a.put (some d) v).eval (.tmp t)=a.eval (.tmp t):=by
 show (a.tmps.setIfInBounds d v).getD t undef=a.tmps.getD t undef
 simp only [Array.getD_eq_getD_getElem?,Array.getElem?_setIfInBounds,if_neg (Ne.symm h)]
theorem b1E {a:Act} {d:Nat} {v:Value} (h:d<a.tmps.size):(a.put (some d) v).eval (.tmp d)=v:=by
 show (a.tmps.setIfInBounds d v).getD d undef=v
 simp only [Array.getD_eq_getD_getElem?,Array.getElem?_setIfInBounds,if_pos h]; rfl

theorem a9p (hE:A6 E B) (h:RS B S ι s a w) {g:List Nat} (hgp:(g.all fun i=>!pinned i)=true) {i:Nat} (hgi:i∉g) {e:f7} (he:look i s.hp=some e) {p:List Step} (hok:w6 e.ty e.x p) {t0:Ty} {l m:List t0.den} (hg:i6 e.ty e.x p=some ⟨.d0 true t0,l⟩) {b off:Nat} {v':Value}
  (hP:a8K B S ι s.hp g i e p t0 l m b off v' w) {o:Oper} {T:TypeId} {ad:Operand} {d:Nat} (ho:o.op=.store T ad (.tmp d)) (had:a.eval ad=.pointer (some ⟨b,off,none⟩)) (hv:a.eval (.tmp d)=v') (hck:G1 E T (.d0 true t0)=true)
  {r:Sigma Ty.den} (hset:l8 e.ty e.x p (.d0 true t0) (l++m)=some r):x6 E.P B o a w (.raw undef) (((St.t6 g s).kill i e.kd p).s6 i (e.B0 r)):=by
 obtain ⟨O',hl,k5,k6,k7,k8⟩:=hP
 have hd:=h.t6 (g:=g) hgp
 have hl1:look i (St.t6 g s).hp=some e:=by rw [H8,if_neg hgi]; exact he
 refine a1p hE hd ho (i:=i) (e:=e) hl1 hok hl had hg hck (u':=.d0 true _) (O2:=O') (cs:=[v']) k5 k6 (by rw [hv]; rfl) hset (fun c hc=>?_) k7
 obtain ⟨f1,f2,f3⟩:=k8 c hc
 refine ⟨f1,fun j ej hj hlj=>?_,f3⟩
 rw [H8] at hlj
 split at hlj
 ·cases hlj
 ·rename_i hjg; exact f2 j ej hj hjg hlj

theorem c0d (hE:A6 E B) (h:RS B S ι s a w) {o:Oper} {c:Call} (ho:o.op=.call c) (hc:c.callee=.builtin .append) {x y:Operand} {T U:TypeId} (ha:c.args.toList=[x,y]) (hTs:c.argTypes.toList=[T,U])
  {o2:Oper} {T2:TypeId} {adv:AV} {ad:Operand} {d:Nat} (_ho2:o2.op=.store T2 ad (.tmp d)) {p:Prop} {s2:St} (hb:a6S E T U T2 (s.ev x) (s.ev y) adv d s=some (p,s2)) (hp:p) :
  ∃ i p0 e t0 l m g r v' w',s.ev x=.at_ i p0∧adv=.ptr i p0∧look i s.hp=some e∧i∉g∧(g.all fun i=>!pinned i)=true∧i6 e.ty e.x p0=some ⟨.d0 true t0,l⟩∧G1 E T2 (.d0 true t0)=true ∧
   l8 e.ty e.x p0 (.d0 true t0) (l++m)=some r∧s2=(((St.t6 g (s.put (some d) .any)).kill i e.kd p0).s6 i (e.B0 r)) ∧
   (execOp a.eval o).run E.P w=.ok (.value v') w'∧RS B S ι s a w'∧w6 e.ty e.x p0∧∀ b off,Loc w.heap ι i e p0=some (b,off)→a8K B S ι s.hp g i e p0 t0 l m b off v' w':=by
 unfold a6S at hb
 split at hb
 ·rename_i i p0 j q q1 t0 bts u1 bts1 hx hT hU
  split at hb
  ·rename_i e hob hku
   simp only [Bool.and_eq_true] at hku
   obtain ⟨hij,hku⟩:=hku
   have hij:=Nat.eq_of_beq_eq_true hij
   subst hij
   split at hb
   ·rename_i u l hg
    split at hb
    ·rename_i t m g happ
     split at hb
     ·rename_i hu
      split at hb
      ·rename_i ht
       subst hu; subst ht
       split at hb
       ·rename_i r hset
        split at hb
        ·rename_i hck
         cases hb
         simp only [Bool.and_eq_true,Bool.not_eq_true'] at hck
         obtain ⟨⟨⟨⟨hck,hst⟩,hgi⟩,hgn⟩,hgp⟩:=hck
         obtain ⟨rfl,h63,hby⟩:=hp
         obtain ⟨_,hkd⟩:=a6h hst
         have hgi:i∉g:=by intro hm; simp [hm] at hgi
         have hk:(∃ e',E.P.underlying U=some (.slice e'))∨E.P.underlying U=some .string:=by
          cases u1<;>first|cases hku|skip
          ·exact .inr (P0 (w5 hE hU))
          ·obtain ⟨et,k',f1,_⟩:=E1 (w5 hE hU)
           exact .inl ⟨et,f1⟩
         have hob:look i s.hp=some e:=hob
         have key:∀ b off,Loc w.heap ι i e q=some (b,off)→∃ v' w',(execOp a.eval o).run E.P w=.ok (.value v') w'∧RS B S ι s a w'∧w6 e.ty e.x q∧a8K B S ι s.hp g i e q _ l m b off v' w' :=
          fun b off hl=>a74 hE h ho hc ha hTs hk hT hx hob hkd hg hl happ hgi (a04 hgn) h63 hby
         obtain ⟨e2,u,y2,cs,r1,hok,r3,r4,r5⟩:=y9 h hx
         rw [hob] at r1; cases r1
         obtain ⟨b,off,hl⟩:=a3D (h.hs.ob i e hob) h.hs.slt (a6h hst).2 hok hg
         obtain ⟨v',w',k1,k2,k3,k4⟩:=key b off hl
         exact ⟨i,q,e,_,l,m,g,r,v',w',hx,rfl,hob,hgi,hgp,hg,hck,hset,rfl,k1,k2,k3,fun b' off' hl'=>by rw [hl] at hl'; cases hl'; exact k4⟩
        ·cases hb
       ·cases hb
      ·cases hb
     ·cases hb
    ·cases hb
   ·cases hb
  ·cases hb
 ·cases hb

theorem b8o (hE:A6 E B) (h:RS B S ι s a w) {o:Oper} {c:Call} (ho:o.op=.call c) (hc:c.callee=.builtin .append) {x y:Operand} {T U:TypeId} (ha:c.args.toList=[x,y]) (hTs:c.argTypes.toList=[T,U])
  {o2:Oper} {T2:TypeId} {ad:Operand} {d:Nat} (hd:E7 B.n (some d)=true) (ho2:o2.op=.store T2 ad (.tmp d)) (had:∀ t,ad=.tmp t→t≠d) {p:Prop} {s2:St} (hb:a6S E T U T2 (s.ev x) (s.ev y) (s.ev ad) d s=some (p,s2)) (hp:p) :
  ∃ v' w',(execOp a.eval o).run E.P w=.ok (.value v') w'∧x6 E.P B o2 (a.put (some d) v') w' (.raw undef) s2:=by
 obtain ⟨i,p0,e,t0,l,m,g,r,v',w',hx,had1,hob,hgi,hgp,hg,hck,hset,rfl,k1,k2,k3,k4⟩:=c0d hE h ho hc ha hTs ho2 hb hp
 refine ⟨v',w',k1,?_⟩
 obtain ⟨e',b,off,h1,h2,h3,h4⟩:=y9 h had1
 rw [hob] at h1; cases h1
 have hput:=k2.put hd (v:=.any) (val:=v') ⟨v',rfl⟩
 have hadv:(a.put (some d) v').eval ad=.pointer (some ⟨b,off,none⟩):=by
  have h4':a.eval ad=.pointer (some ⟨b,off,none⟩):=by simpa using h4
  rw [← h4']
  cases ad with
  | tmp t=>exact a0R (had t rfl)
  | _=>rfl
 have hval:(a.put (some d) v').eval (.tmp d)=v':=b1E (by rw [h.sz]; simpa [E7,Nat.blt_eq] using hd)
 exact a9p hE hput (g:=g) hgp hgi (e:=e) (by simpa [St.put] using hob) h2 hg (k4 b off h3) ho2 hadv hval hck hset

theorem c1Y {o:Oper} (ho:a6A o.op=true) {a a':Act} (h:∀ t∈a9v o,a'.eval (.tmp t)=a.eval (.tmp t)):execOp a'.eval o=execOp a.eval o:=by
 have hop:∀ x∈o.op.operands.toList,a'.eval x=a.eval x:=by
  intro x hx
  cases x with
  | tmp t=>exact h t (List.mem_filterMap.2 ⟨.tmp t,hx,rfl⟩)
  | _=>rfl
 unfold a6A at ho
 split at ho
 ·rename_i e; rw [e] at hop; simp [Op.operands] at hop; simp [execOp,e,hop]
 ·rename_i e; rw [e] at hop; simp [Op.operands] at hop; simp [execOp,e,hop]
 ·rename_i e; rw [e] at hop; simp [Op.operands] at hop; simp [execOp,e,hop]
 ·cases ho

theorem c0c {a:Act} {d e:Nat} {v u:Value} (h:d≠e):(a.put (some d) v).put (some e) u=(a.put (some e) u).put (some d) v:=by
 simp only [Act.put]
 congr 1
 apply Array.ext_getElem?
 intro i
 simp only [Array.getElem?_setIfInBounds,Array.size_setIfInBounds]
 by_cases h1:e=i
 ·subst h1; simp [h]
 ·simp [h1]

theorem a6E (hE:A6 E B) (hn:B.n=E.nt) {ops:Array Oper} {Q:Exit→Act→World→Prop} {oa:Oper} {c:Call} (ho:oa.op=.call c) (hc:c.callee=.builtin .append) {x y:Operand} {T U:TypeId} (ha:c.args.toList=[x,y]) (hTs:c.argTypes.toList=[T,U])
  {d:Nat} (hd:E7 B.n (some d)=true):∀ {l:List Oper} {S:Nat→Prop} {ι:Ix} {s:St} {a:Act} {w:World} {p:Prop} {s2:St} {n:Nat},RS B S ι s a w→a9M E T U x y d l s=some (p,s2,n)→p →
  ∃ v' w',(execOp a.eval oa).run E.P w=.ok (.value v') w'∧((∀ S' ι' a' w'',RS B S' ι' s2 a' w''→wpList E.P ops Q (l.drop n) a' w'')→wpList E.P ops Q l (a.put (some d) v') w')
 | [],S,ι,s,a,w,p,s2,n,_,hf,_=>by cases hf
 | o::rest,S,ι,s,a,w,p,s2,n,h,hf,hp=>by
  have hargs:c.args=#[x,y]:=by rw [← ha]
  have hts:c.argTypes=#[T,U]:=by rw [← hTs]
  unfold a9M at hf
  split at hf
  ·rename_i hg hdo
   split at hf
   ·rename_i hia
    split at hf
    ·rename_i d1 hd1
     split at hf
     ·rename_i p1 v hcond hv
      split at hf
      ·rename_i p2 s3 n2 hrec
       cases hf
       simp only [Bool.and_eq_true,Bool.not_eq_true'] at hcond
       obtain ⟨⟨⟨c1,c2⟩,c3⟩,c4⟩:=hcond
       have hne:d1≠d:=by rintro rfl; simp at c1
       have hpure:=a4e hE h hia
       have hval:a91 E.P S ι o a w s v:=by
        split at hv
        ·cases hv
        ·rename_i v0 s0 e0; cases hv; rw [e0] at hpure; exact hpure.2
        ·rename_i q0 v0 s0 e0; cases hv; rw [e0] at hpure; exact (hpure hp.1).2
       obtain ⟨val,hrun,hvx⟩:=hval
       rw [hd1] at hdo
       have hrs:=h.put (d:=some d1) (by rw [hn]; exact hdo) hvx
       obtain ⟨v',w',g1,g2⟩:=a6E hE hn ho hc ha hTs hd (ops:=ops) (Q:=Q) hrs hrec hp.2
       have ex:(a.put (some d1) val).eval x=a.eval x:=by
        cases x with
        | tmp t=>exact a0R (by rintro rfl; simp at c3)
        | _=>rfl
       have ey:(a.put (some d1) val).eval y=a.eval y:=by
        cases y with
        | tmp t=>exact a0R (by rintro rfl; simp at c4)
        | _=>rfl
       refine ⟨v',w',?_,fun hk=>?_⟩
       ·rw [← g1]; simp [execOp,ho,resolve,hc,invoke,builtin,hargs,hts,ex,ey]
       ·unfold wpList
        simp only [Region.wanted,hg,if_true]
        refine .inl ?_
        unfold Oper.wp
        have hr2:(execOp (a.put (some d) v').eval o).run E.P w'=.ok (.value val) w':=by
         have hot:∀ t∈a9v o,(a.put (some d) v').eval (.tmp t)=a.eval (.tmp t):=by
          intro t ht
          refine a0R (fun e=>?_)
          rw [e] at ht
          have h5:(a9v o).contains d=true:=by simpa using ht
          rw [h5] at c2; cases c2
         rw [c1Y hia hot]; exact hrun w'
        rw [hr2]
        show wpList E.P ops Q rest ((a.put (some d) v').put o.dst val) w'
        rw [hd1,c0c (Ne.symm hne)]
        exact g2 hk
      ·cases hf
     ·cases hf
    ·cases hf
   ·split at hf
    ·rename_i T2 ad d' ho2
     split at hf
     ·rename_i hcond
      split at hf
      ·rename_i p1 s3 happ
       cases hf
       simp only [Bool.and_eq_true] at hcond
       obtain ⟨c1,c2⟩:=hcond
       obtain rfl:=Nat.eq_of_beq_eq_true c1
       obtain ⟨v',w',g1,g2⟩:=b8o hE h ho hc ha hTs hd ho2 (fun t e=>by subst e; rintro rfl; simp at c2) happ hp
       refine ⟨v',w',g1,fun hk=>?_⟩
       unfold wpList
       simp only [Region.wanted,hg,if_true]
       refine .inl (g2 _ _ (fun S' ι' w2 val h1 h2=>?_))
       exact hk S' ι' _ w2 (h1.put (by rw [hn]; exact hdo) h2)
      ·cases hf
     ·cases hf
    ·cases hf
  ·cases hf

/-! ### a call whose first argument lies at a place, its answer stored there -/
theorem OB.swap {H H1 H':Array Go.Obj} {i:Nat} {e:f7} (ho:OB H S ι i e) (hbl:∀ c∈l6 ι i e,¬ S c∧c<H.size) (hS:∀ c,S c→c<H.size) {p:List Step} (hk:(∃ t x,e=.var t x)∨∃ t x j q,e=.own (.d0 true t) x∧p=.idx j::q) (hok:w6 e.ty e.x p) {u:Ty} {y:u.den} (hg:i6 e.ty e.x p=some ⟨u,y⟩)
  {b off:Nat} (hl:Loc H ι i e p=some (b,off)) (hsz:H.size≤H1.size) {Op:List Nat} (hOp:f9 H S u Op (f8 H b off u.size) y) (hH:∀ c,c<H.size→c∉Op→H1[c]?=H[c]?) (hc:S5 H1 H' b off u.size) (hsz1:H'.size=H1.size)
  {u':Ty} {z:u'.den} {O2:List Nat} (hz:f9 H' S u' O2 (f8 H' b off u'.size) z) (hO2:∀ c∈O2,c<H'.size∧(c<H.size→c∈Op)) (hnd2:O2.Nodup) {r:Sigma Ty.den} (hset:l8 e.ty e.x p u' z=some r) :
  ∃ O,(∀ c∈O,c∈ι.own i∨c∈O2)∧OB H' S (ι.B1 i O) i (e.B0 r):=by
 have he:e≠.J0:=K1 hl
 have hbOp:=ho.a1s he hS hok hg hl hOp
 obtain ⟨Om,m1,mn,m2,m3,m4,m5⟩:=M9 he ho hS hok hg hl
 obtain ⟨O,hO,hR,hb,hnd,hlt,hns,hfr⟩:=ho.see he hS
 obtain ⟨O1,O3,b',off',e1,e2,e3,e4,e5,e6⟩:=focus hR hb hok hg
 obtain ⟨hpl,hbl2⟩:=A7 hl
 rw [G0 he] at hpl
 rw [e3] at hpl; cases hpl
 have hndO:(O1++O3).Nodup:=(e1.nodup_iff).1 ((hO.nodup_iff).2 (List.nodup_cons.1 hnd).2)
 have hmem:∀ c∈O1,c∈ι.own i:=fun c hc=>hO.mem_iff.1 (e1.mem_iff.2 (by simp [hc]))
 have hmem3:∀ c∈O3,c∈ι.own i:=fun c hc=>hO.mem_iff.1 (e1.mem_iff.2 (by simp [hc]))
 have hroot:=(List.nodup_cons.1 hnd).1
 have hown:∀ c∈ι.own i,c∈l6 ι i e:=by intro c hc; cases e<;>simp [l6,hc]
 have e4':f9 H S u O3 (f8 H b off u.size) y:=by
  rw [l5 (G6 hbl2)] at e4
  exact (Y3 (fun c hc=>ho.O8 he (hmem3 c hc)) hS).1 e4
 obtain rfl:Op=O3:=hOp.det e4'
 have hlt1:∀ c∈O1,c<H.size:=fun c hc=>ho.O8 he (hmem c hc)
 have hagree:∀ c,(c=(VR H ι i e).1∧c<H.size)∨c∈O1∨S c→H1[c]?=H[c]?:=by
  rintro c (⟨rfl,h1⟩|h1|h1)
  ·exact hH _ h1 (fun h=>hroot (hmem3 _ h))
  ·exact hH c (hlt1 c h1) (fun h=>(List.nodup_append.1 hndO).2.2 c h1 c h rfl)
  ·exact hH c (hS c h1) (fun h=>(hbl c (hown c (hmem3 c h))).1 h1)
 have hvr:(∃ t x,e=.var t x)→(VR H ι i e).1<H.size:=by rintro ⟨t,x,rfl⟩; exact hlt
 obtain ⟨n1,n2⟩:=s8.move (H':=H1) hk e2 hlt1 hS hsz hagree hvr
 have hb':(VR H1 ι i e).2+e.ty.size≤(w7 (VH H1 ι i e) (VR H1 ι i e).1).length∧(VR H1 ι i e).1<(VH H1 ι i e).size∧¬ S (VR H1 ι i e).1∧(VR H1 ι i e).1∉O1:=by
  rcases hk with ⟨t,x,rfl⟩|⟨t,x,j,q,rfl,rfl⟩
  ·have hr:=hvr ⟨_,_,rfl⟩
   refine ⟨?_,Nat.lt_of_lt_of_le hr hsz,(hbl _ (by simp [l6,VR])).1,fun h=>hroot (hmem _ h)⟩
   have:=L6 (hagree _ (.inl ⟨rfl,hr⟩))
   show (VR H ι i (.var t x)).2+_≤(w7 H1 (VR H ι i (.var t x)).1).length
   rw [this]; exact hb
  ·refine ⟨?_,by simp [VH,VR,a4N],fun h=>by have:=hS _ h; simp only [VR] at this; omega,fun h=>by have:=hlt1 _ h; simp only [VR] at this; omega⟩
   simp only [VH,VR,Z9] at hb ⊢; exact hb
 have hlO2:∀ c∈O2,c<H'.size:=fun c hc=>(hO2 c hc).1
 have hSz:∀ c,S c→c<H'.size:=fun c hc=>by have:=hS c hc; omega
 have hz':f9 (VH H' ι i e) S u' O2 (f8 (VH H' ι i e) b off u'.size) z:=by
  rw [l5 (G6 (by omega))]
  exact (Y3 hlO2 hSz).2 hz
 obtain ⟨O4,f1,f2,f3⟩:=a7f n1 hg (n2.trans e3) hb'.1 hb'.2.1 (List.nodup_append.1 hndO).1 hb'.2.2.2 (fun c hc=>⟨(hbl c (hown c (hmem c hc))).1,Nat.lt_of_lt_of_le (hlt1 c hc) (Nat.le_trans hsz a2x)⟩) hb'.2.2.1
  (fun c hc=>Nat.lt_of_lt_of_le (hS c hc) (Nat.le_trans hsz a2x)) (fun _ h=>h) (a6V hc hsz1) hz' hset
 have hnd4:O4.Nodup:=(f1.nodup_iff).2 (List.nodup_append.2 ⟨(List.nodup_append.1 hndO).1,hnd2,by
  rintro c h1 d h2 rfl
  exact (List.nodup_append.1 hndO).2.2 c h1 c ((hO2 c h2).2 (hlt1 c h1)) rfl⟩)
 have hsub:∀ c∈O4,c∈ι.own i∨c∈O2:=by
  intro c hc
  rcases List.mem_append.1 (f1.mem_iff.1 hc) with h|h
  ·exact .inl (hmem c h)
  ·exact .inr h
 have hlt4:∀ c∈O4,c<H'.size:=by
  intro c hc
  rcases hsub c hc with h|h
  ·have:=ho.O8 he h; omega
  ·exact (hO2 c h).1
 have f2':=(Y3 hlt4 hSz).1 f2
 refine ⟨O4,hsub,?_⟩
 cases e with
 | var t x =>
  simp only [f7.B0,OB,Ix.B1,if_true]
  obtain ⟨_,hf,_⟩:=ho
  refine ⟨⟨O4,List.Perm.refl _,f2'⟩,?_,?_⟩
  ·rw [E4 f3]; exact hc.free (hf.s7 (hagree _ (.inl ⟨rfl,hvr ⟨_,_,rfl⟩⟩)))
  ·refine List.nodup_cons.2 ⟨fun h=>?_,hnd4⟩
   rcases hsub _ h with h1|h1
   ·exact hroot h1
   ·exact hroot (hmem3 _ ((hO2 _ h1).2 (hvr ⟨_,_,rfl⟩)))
 | own t x =>
  simp only [f7.B0,OB,Ix.B1,if_true]
  refine ⟨⟨O4,List.Perm.refl _,?_⟩,hnd4⟩
  obtain ⟨⟨O',_,hR'⟩,_⟩:=ho
  have hsz9:r.1.size=t.size:=E4 f3
  have:f8 (VH H' ι i (.own t x)) (VR H1 ι i (.own t x)).1 (VR H1 ι i (.own t x)).2 r.1.size=ι.cells i:=by
   simp only [VH,VR]
   rw [← hsz1]
   simp only [f8,Z9,List.drop_zero]
   exact List.take_of_length_le (by rw [hR'.length,hsz9]; exact Nat.le_refl _)
  rw [this] at f2'
  exact f2'
 | J0=>exact absurd rfl he

def a0V (P:Program) (o:Oper) (a:Act) (w:World) (R:Value→World→Prop):Prop :=
 ∃ g vs,(execOp a.eval o).run P w=.ok (.enter g vs) w∧Calls P g vs w (fun e w'=>∃ v,e=.returned v∧R v w')

theorem a0V.wp {P:Program} {o:Oper} {R:Value→World→Prop} (h:a0V P o a w R) {next:Act→World→Prop} {Q:Exit→Act→World→Prop} (hn:∀ v w',R v w'→next (a.put o.dst v) w'):o.wp P a w next Q:=by
 obtain ⟨g,vs,h1,h2⟩:=h
 unfold Oper.wp
 rw [h1]
 refine Calls.mono h2 ?_
 rintro e w' ⟨v,rfl,hr⟩
 exact hn v w' hr

theorem a0V.mono {P:Program} {o:Oper} {R R':Value→World→Prop} (h:a0V P o a w R) (hr:∀ v w',R v w'→R' v w'):a0V P o a w R':=by
 obtain ⟨g,vs,h1,h2⟩:=h
 exact ⟨g,vs,h1,h2.mono (fun e w' ⟨v,e1,k⟩=>⟨v,e1,hr v w' k⟩)⟩

theorem a0V.put {P:Program} {o:Oper} {c:Call} (ho:o.op=.call c) {g:FuncId} (hf:c.callee=.value (.func g)) {d:Nat} {val:Value} (hd:∀ z∈c.args.toList,z≠.tmp d) {R:Value→World→Prop} (h:a0V P o (a.put (some d) val) w R):a0V P o a w R:=by
 obtain ⟨g',vs,h1,h2⟩:=h
 refine ⟨g',vs,?_,h2⟩
 rw [← h1]
 have hargs:c.args.map (a.put (some d) val).eval=c.args.map a.eval:=by
  apply Array.map_congr_left
  intro z hz
  cases z with
  | tmp t=>exact a0R (fun e=>hd _ (by simpa using hz) (by rw [e]))
  | _=>rfl
 have hev:(a.put (some d) val).eval (.func g)=a.eval (.func g):=rfl
 simp only [execOp,ho,resolve,hf,hev,hargs]

theorem b5v (hE:A6 E B) (hn:B.n=E.nt) (h:RS B S ι s a w) {o:Oper} {p:Prop} {s2:St} (hb:b8c E o s=some (p,s2)) (hp:p) :
  o.guard=none∧a0V E.P o a w (fun v' w'=>∃ ι',RS B S ι' s2 (a.put o.dst v') w'):=by
 unfold b8c at hb; cases hb

def b4i (H:Array Go.Obj) (S:Nat→Prop) (tl:Option (FuncId×Nat)) (pre us0 vs:List Value):Prop :=
 match tl with
 | none=>vs=us0
 | some (f,k)=>k≤pre.length∧∃ b off,vs=us0++[.pointer (some ⟨b,off,none⟩)]∧S b∧off+1≤(w7 H b).length∧f8 H b off 1=[.func (.func f) #[] ((pre.take k).reverse++vs).toArray]

theorem b4i.next {H:Array Go.Obj} {tl:Option (FuncId×Nat)} {pre us0 vs:List Value} {v:Value} (h:b4i H S tl pre (v::us0) vs):∃ vs',vs=v::vs'∧b4i H S (tl.map fun q=>(q.1,q.2+1)) (v::pre) us0 vs':=by
 cases tl with
 | none=>exact ⟨us0,h,rfl⟩
 | some q =>
  obtain ⟨f,k⟩:=q
  obtain ⟨hk,b,off,rfl,h1,h2,h3⟩:=h
  refine ⟨_,rfl,by simpa using hk,b,off,rfl,h1,h2,?_⟩
  rw [h3]
  simp [List.take_succ_cons]

theorem RS.slot (h:RS B S ι s a w) {t:Nat} {v:AV} (hv:VX w.heap S ι s.hp v [a.tmps.getD t (B.gd t)]):RS B S ι { s with fr:=Ex.put t v s.fr } a w:=by
 refine ⟨h.hs,h.dfr,h.sz,?_⟩
 intro t' v' ht
 simp only [p7] at ht
 by_cases e:t'=t
 ·subst e
  rw [if_pos rfl] at ht; cases ht; exact hv
 ·rw [if_neg e] at ht; exact h.fr t' v' ht

theorem b49 (hE:A6 E B) (hn:B.n=E.nt) (hM:E.ps.any PK.i7=false→∀ b,¬ B.M b) (h:RS B S ι s a w) {o:Oper} {p:Prop} {s2:St} (hb:b7x E o s=some (p,s2)) (hp:p) :
  o.guard=none∧∀ (next:Act→World→Prop) (Q:Exit→Act→World→Prop),(∀ S' ι' a' w',RS B S' ι' s2 a' w'→next a' w')→o.wp E.P a w next Q:=by
 unfold b7x at hb; cases hb

theorem RS.b9Z (h:RS B S ι s a w) (hM:∀ b,¬ B.M b) {i:Nat} {u t:Ty} {y:u.den} {z:t.den} (he:look i s.hp=some (.var u y)) (hz:a6J u t y=some z):∃ S' ι',RS B S' ι' ((s.a9H i).s6 i (.var t z)) a w:=by
 obtain ⟨⟨O,hO,hR⟩,hf,hnd⟩:=h.hs.ob i _ he
 obtain ⟨O1,D,p1,p2,p3⟩:=c1J hz hR
 have hp:(ι.own i).Perm (O1++D):=hO.symm.trans p1
 have hDi:∀ b∈D,b∈ι.own i:=fun b hb=>hp.mem_iff.2 (by simp [hb])
 have hOi:∀ b∈O1,b∈ι.own i:=fun b hb=>hp.mem_iff.2 (by simp [hb])
 have hnd2:(O1++D).Nodup:=(hp.nodup_iff).1 (List.nodup_cons.1 hnd).2
 have hroot:=(List.nodup_cons.1 hnd).1
 have hbl:=h.hs.bl i _ he
 have hown:∀ b∈ι.own i,b∈l6 ι i (.var u y):=fun b hb=>by simp [l6,hb]
 have hsame:∀ j,j≠i→C7 ι (ι.B1 i O1) j:=fun j hj=>a0d hj _
 have hsub:∀ b∈l6 (ι.B1 i O1) i (.var t z),b∈l6 ι i (.var u y)∧b∉D:=by
  intro b hb
  have hb:b∈(ι.root i).1::(ι.B1 i O1).own i:=hb
  simp only [Ix.B1,if_true] at hb
  refine (List.mem_cons.1 hb).elim (fun e=>⟨by simp [l6,e],fun hD=>hroot (e▸hDi b hD)⟩) (fun e=>⟨hown b (hOi b e),fun hD=>(List.nodup_append.1 hnd2).2.2 b e b hD rfl⟩)
 refine ⟨fun b=>S b∨b∈D,ι.B1 i O1,⟨h.hs.os,h.hs.tape,h.hs.out,h.hs.size,h.hs.frame,?_,fun b hb=>.inl (h.hs.s0 b hb),?_,?_,?_,?_,?_⟩,h.dfr,h.sz,?_⟩
 ·rintro b (hb|hb)
  ·exact h.hs.slt b hb
  ·exact (hbl b (hown b (hDi b hb))).2.2
 ·rintro b (hb|hb)
  ·exact h.hs.s1 b hb
  ·rcases (hbl b (hown b (hDi b hb))).2.1 with q|q
   ·exact .inr q
   ·exact absurd q (hM b)
 ·intro j ej hj
  simp only [St.s6,p7] at hj
  by_cases e1:j=i
  ·subst e1; rw [if_pos rfl] at hj; cases hj
   refine ⟨⟨O1,by simp [Ix.B1],?_⟩,?_,?_⟩
   ·have:=p3 (fun b=>S b∨b∈D) (fun _ h=>.inl h) (fun _ h=>.inr h)
    rw [← p2] at this
    exact this
   ·rw [p2]; exact hf
   ·show ((ι.root j).1::(ι.B1 j O1).own j).Nodup
    simp only [Ix.B1,if_true]
    exact List.nodup_cons.2 ⟨fun h=>hroot (hOi _ h),(List.nodup_append.1 hnd2).1⟩
  ·rw [if_neg e1] at hj
   exact (hsame j e1).ob.2 ((h.hs.ob j ej hj).s7 (fun _ _=>rfl) (fun _ h=>.inl h))
 ·intro j ej hj b hb
  simp only [St.s6,p7] at hj
  by_cases e1:j=i
  ·subst e1; rw [if_pos rfl] at hj; cases hj
   obtain ⟨q1,q2⟩:=hsub b hb
   obtain ⟨r1,r2,r3⟩:=hbl b q1
   exact ⟨fun hs=>hs.elim r1 q2,r2,r3⟩
  ·rw [if_neg e1] at hj
   rw [(hsame j e1).l6] at hb
   obtain ⟨r1,r2,r3⟩:=h.hs.bl j ej hj b hb
   exact ⟨fun hs=>hs.elim r1 (fun hD=>h.hs.dj j i ej _ hj he e1 b hb (hown b (hDi b hD))),r2,r3⟩
 ·intro j k ej ek hj hk hjk c hc
  simp only [St.s6,p7] at hj hk
  by_cases e1:j=i
  ·subst e1
   rw [if_pos rfl] at hj; cases hj
   rw [if_neg (Ne.symm hjk)] at hk
   rw [(hsame k (Ne.symm hjk)).l6]
   exact h.hs.dj j k _ ek he hk hjk c (hsub c hc).1
  ·rw [if_neg e1] at hj
   rw [(hsame j e1).l6] at hc
   by_cases e2:k=i
   ·subst e2
    rw [if_pos rfl] at hk; cases hk
    exact fun hcc=>h.hs.dj j k ej _ hj he hjk c hc (hsub c hcc).1
   ·rw [if_neg e2] at hk
    rw [(hsame k e2).l6]
    exact h.hs.dj j k ej ek hj hk hjk c hc
 ·intro q hq
  obtain ⟨k0,⟨e',k1⟩,k2,k3⟩:=h.hs.pin q hq
  refine ⟨k0,?_,k2,k3⟩
  simp only [St.s6,p7]
  by_cases e1:q.1=i
  ·exact ⟨_,by rw [if_pos e1]⟩
  ·exact ⟨e',by rw [if_neg e1]; exact k1⟩
 ·intro t9 v hv
  simp only [St.s6,St.a9H,H6,Option.map_eq_some_iff] at hv
  obtain ⟨v0,hv0,rfl⟩:=hv
  refine VX.map (fun _ _=>rfl) (fun _ h=>.inl h) (fun v vs hr hm hvx=>?_) (h.fr t9 v0 hv0)
  unfold AV.c2Y
  cases hmi:v.g8 i with
  | false =>
   have hne:∀ j,v.g8 j=true→j≠i:=by rintro j hj rfl; rw [hmi] at hj; cases hj
   have hst:VX w.heap (fun b=>S b∨b∈D) ι s.hp v vs:=VX.grow (fun _ _=>rfl) (fun _ h=>.inl h) h.hs.slt h.hs.ob hvx
   exact VX.other (fun j hj=>by simp only [St.s6,p7,if_neg (hne j hj)]; rfl) (fun j hj=>hsame j (hne j hj)) hst
  | true =>
   have honex:=VX.one hr hvx
   simp only
   split
   ·rename_i j
    have hji:i=j:=Nat.eq_of_beq_eq_true hmi
    subst hji
    obtain ⟨ej,b2,off2,k1,k2,k3,k4⟩:=hvx
    rw [he] at k1; cases k1
    refine ⟨.var t z,b2,off2,by simp [St.s6,p7],L7,?_,k4⟩
    simp only [Loc,Place,VR,VH,x8] at k3 ⊢
    exact k3
   ·exact honex

theorem RS.a3J (h:RS B S ι s a w) (hM:∀ b,¬ B.M b) {i:Nat} (hp:pinned i=false) (t:Ty):∃ S' ι',RS B S' ι' (s.a3J i t) a w:=by
 have hl:∀ {j:Nat} {e:f7},look j (del i s.hp)=some e→look j s.hp=some e∧j≠i:=by
  intro j e hj
  rw [I6] at hj
  split at hj
  ·cases hj
  ·rename_i h9; exact ⟨hj,h9⟩
 have hS1:∀ b,S b→(S b∨K2 ι s.hp [i] b):=fun _ h=>.inl h
 refine ⟨fun b=>S b∨K2 ι s.hp [i] b,ι,⟨h.hs.os,h.hs.tape,h.hs.out,h.hs.size,h.hs.frame,?_,fun b hb=>.inl (h.hs.s0 b hb),?_,?_,?_,?_,?_⟩,h.dfr,h.sz,?_⟩
 ·rintro b (hb|⟨j,e,hj,he,hb⟩)
  ·exact h.hs.slt b hb
  ·exact (h.hs.bl j e he b hb).2.2
 ·rintro b (hb|⟨j,e,hj,he,hb⟩)
  ·exact h.hs.s1 b hb
  ·rcases (h.hs.bl j e he b hb).2.1 with q|q
   ·exact .inr q
   ·exact absurd q (hM b)
 ·intro j e hj
  exact (h.hs.ob j e (hl hj).1).s7 (fun _ _=>rfl) hS1
 ·intro j e hj b hb
  obtain ⟨r1,r2,r3⟩:=h.hs.bl j e (hl hj).1 b hb
  refine ⟨fun hs=>hs.elim r1 ?_,r2,r3⟩
  rintro ⟨k,ek,hk,he,hbk⟩
  rw [List.mem_singleton] at hk
  subst hk
  exact h.hs.dj j k e ek (hl hj).1 he (hl hj).2 b hb hbk
 ·intro j k ej ek hj hk
  exact h.hs.dj j k ej ek (hl hj).1 (hl hk).1
 ·intro q hq
  obtain ⟨k0,⟨e',k1⟩,k2⟩:=h.hs.pin q hq
  refine ⟨k0,⟨e',?_⟩,k2⟩
  show look q.1 (del i s.hp)=_
  rw [I6,if_neg (by rintro e1; rw [e1,hp] at k0; cases k0)]; exact k1
 ·intro t9 v hv
  simp only [St.a3J,H6,Option.map_eq_some_iff] at hv
  obtain ⟨v0,hv0,rfl⟩:=hv
  refine VX.map (fun _ _=>rfl) (fun _ h=>.inl h) (fun v vs hr hm hvx=>?_) (h.fr t9 v0 hv0)
  unfold AV.c4C
  cases hmi:v.g8 i with
  | false =>
   have hne:∀ j,v.g8 j=true→j≠i:=by rintro j hj rfl; rw [hmi] at hj; cases hj
   have hst:VX w.heap (fun b=>S b∨K2 ι s.hp [i] b) ι s.hp v vs:=VX.grow (fun _ _=>rfl) (fun _ h=>.inl h) h.hs.slt h.hs.ob hvx
   exact VX.other (fun j hj=>by show look j (del i s.hp)=_; rw [I6,if_neg (hne j hj)]) (fun j hj=>C7.refl ι j) hst
  | true =>
   obtain ⟨x1,rfl⟩:=VX.one hr hvx
   have hb0:∀ b,K2 ι s.hp v.E6 b→(S b∨K2 ι s.hp [i] b):=by
    intro b hb
    obtain ⟨j,e,hj,he,hbj⟩:=hb
    have hji:j=i:=by
     cases v<;>simp only [AV.ref] at hr<;>try cases hr
     all_goals (simp only [AV.E6,List.mem_singleton] at hj; simp only [AV.g8] at hmi; exact hj.trans (Nat.eq_of_beq_eq_true hmi).symm)
    subst hji
    exact .inr ⟨j,e,by simp,he,hbj⟩
   simp only
   split
   ·rename_i x hx
    obtain ⟨cs,e1,e2⟩:=b6v h.hs hx hvx hS1 hb0
    exact ⟨cs,by rw [e1],e2⟩
   ·split
    ·split
     ·rename_i x hx
      obtain ⟨b,off,e1,e2,e3,e4⟩:=b0Q h.hs (show AV.asR s t (.ptr _ _)=some x from hx) hvx hS1 hb0
      exact ⟨b,off,by rw [e1],e2,e3,e4⟩
     ·exact ⟨_,rfl⟩
    ·exact ⟨_,rfl⟩

theorem RS.a5w (hM:∀ b,¬ B.M b):∀ {l:List Nat} {S:Nat→Prop} {ι:Ix} {s:St} {a:Act} {w:World},RS B S ι s a w→∃ S' ι',RS B S' ι' (s.a5w l) a w
 | [],S,ι,s,a,w,h=>⟨S,ι,h⟩
 | i::l,S,ι,s,a,w,h=>by
  unfold St.a5w
  split
  ·rename_i u y hob hp
   obtain ⟨S2,ι2,h2⟩:=h.a3J hM hp (.d0 false u.sh)
   exact RS.a5w hM h2
  ·exact RS.a5w hM h

theorem b7M (hM:E.ps.any PK.i7=false→∀ b,¬ B.M b) (h:RS B S ι s a w) (o:Oper):∃ S' ι',RS B S' ι' ((b3H E o s).getD s) a w:=by
 cases hd:b3H E o s with
 | none=>exact ⟨S,ι,h⟩
 | some s2 =>
  show ∃ S' ι',RS B S' ι' s2 a w
  unfold b3H at hd
  split at hd
  ·rename_i c hp ho
   split at hd
   ·split at hd
    ·split at hd
     ·rename_i i u y hob
      split at hd
      ·cases hd
      ·split at hd
       ·rename_i z hz
        cases hd
        exact h.b9Z (hM hp) hob hz
       ·cases hd
     ·cases hd
    ·split at hd
     ·rename_i hpi _
      cases hd
      exact h.a3J (hM hp) hpi _
     ·cases hd
    ·split at hd
     ·cases hd
     ·cases hd
      exact RS.a5w (hM hp) h
    ·cases hd
   ·cases hd
  ·rename_i hp ho
   split at hd
   ·split at hd
    ·rename_i hpi
     cases hd
     exact h.a3J (hM hp) hpi _
    ·cases hd
   ·cases hd
  ·cases hd

theorem T7 (hM:E.ps.any PK.i7=false→∀ b,¬ B.M b):∀ {l:List (Nat×Option Ty)} {S:Nat→Prop} {ι:Ix} {s:St} {a:Act} {w:World},RS B S ι s a w→∃ S' ι',RS B S' ι' (a4T E l s) a w
 | [],S,ι,s,a,w,h=>⟨S,ι,h⟩
 | (m,none)::l,S,ι,s,a,w,h=>T7 hM (l:=l) h
 | (m,some t)::l,S,ι,s,a,w,h=>by
  have key:∃ S' ι',RS B S' ι' (match E.ps.any PK.i7,s.get m with
  | false,.ptr i []=>(match s.obj i with
   | some (.var u y)=>(match decide (u=t) with
    | true=>s
    | false=>(match a6J u t y with
     | some z=>(s.a9H i).s6 i (.var t z)
     | none=>s))
   | _=>s)
  | _,_=>s) a w:=by
   split
   ·rename_i i hp _
    split
    ·rename_i u y hob
     split
     ·exact ⟨S,ι,h⟩
     ·split
      ·rename_i z hz
       exact h.b9Z (hM hp) hob hz
      ·exact ⟨S,ι,h⟩
    ·exact ⟨S,ι,h⟩
   ·exact ⟨S,ι,h⟩
  obtain ⟨S',ι',h'⟩:=key
  exact T7 hM (l:=l) h'

theorem b45 (h:RS B S ι s a w) (o:Oper):∃ ι',RS B S ι' ((c2V E o s).getD s) a w:=by
 exact ⟨ι,h⟩

theorem b7s (h:RS B S ι s a w) (o:Oper):RS B S ι (c1l E o s) a w:=by
 exact h

theorem b7g (hM:E.ps.any PK.i7=false→∀ b,¬ B.M b) (h0:RS B S ι s a w) (o:Oper):∃ S' ι',RS B S' ι' (b7h E o s) a w:=by
 have h:=b7s (E:=E) h0 o
 unfold b7h c2R
 generalize c1l E o s=s at h
 obtain ⟨S',ι',h1⟩:=b7M hM h o
 obtain ⟨ι2,h2⟩:=b45 (E:=E) h1 o
 exact ⟨S',ι2,h2⟩

theorem b42 (hM:E.ps.any PK.i7=false→∀ b,¬ B.M b) (h:RS B S ι s a w) (ops:Array Oper):∃ S' ι',RS B S' ι' (b7f E ops s) a w:=by
 unfold b7f
 split
 ·rename_i hp _
  split
  ·rename_i hpi
   exact h.a3J (hM hp) hpi _
  ·exact ⟨S,ι,h⟩
 ·exact ⟨S,ι,h⟩

theorem a9o (hM:E.ps.any PK.i7=false→∀ b,¬ B.M b) (h:RS B S ι s a w) (ops:Array Oper):∃ S' ι',RS B S' ι' (b7d E ops s) a w:=by
 unfold b7d
 split
 ·exact T7 hM h
 ·exact ⟨S,ι,h⟩

theorem b7e (hM:E.ps.any PK.i7=false→∀ b,¬ B.M b) (h:RS B S ι s a w) (ops:Array Oper):∃ S' ι',RS B S' ι' (a8k E ops s) a w:=by
 obtain ⟨S',ι',h'⟩:=a9o (E:=E) hM h ops
 exact b42 hM h' ops

theorem V1 (hE:A6 E B) (hn:B.n=E.nt) (hM:E.ps.any PK.i7=false→∀ b,¬ B.M b) {ops:Array Oper} {k:St→Tree (E.rs++C9 E.ps)} {L:Code→List Item→St→Prop} {Rt:DL (E.rs++C9 E.ps)→Prop} {Q:Exit→Act→World→Prop} (hk:∀ S' ι' s' a' w',RS B S' ι' s' a' w'→(k s').holds L Rt→Q .normal a' w') :
  ∀ {l:List Oper} {m:Nat} {S:Nat→Prop} {ι:Ix} {s:St} {a:Act} {w:World},RS B S ι s a w→(a2S E ops m l s k).holds L Rt→wpList E.P ops Q (l.drop m) a w
 | [],m,S,ι,s,a,w,h,ht=>by
  rw [List.drop_nil]
  cases m<;>exact hk S ι s a w h ht
 | o::l,m+1,S,ι,s,a,w,h,ht=>V1 hE hn hM hk (l:=l) (m:=m) h ht
 | o::l,0,S0,ι0,s0,a,w,h0,ht=>by
  show wpList E.P ops Q (o::l) a w
  unfold a2S at ht
  obtain ⟨S,ι,h⟩:=b7g hM h0 o
  dsimp only at ht
  generalize b7h E o s0=s at h ht
  split at ht
  ·rename_i p s' n hf
   unfold c3b at hf
   split at hf
   ·rename_i d c hg hd hdo ho
    split at hf
    ·rename_i x y T U hc ha hT
     split at hf
     ·split at hf
      ·cases hf
      ·rw [← hn,hd] at hdo
       obtain ⟨v',w',g1,g2⟩:=a6E hE hn ho hc ha hT hdo (ops:=ops) (Q:=Q) h hf ht.1
       unfold wpList
       simp only [Region.wanted,hg,if_true]
       refine .inl ?_
       unfold Oper.wp
       rw [g1]
       show wpList E.P ops Q l (a.put o.dst v') w'
       rw [hd]
       exact g2 (fun S' ι' a' w'' h'=>V1 hE hn hM hk (l:=l) (m:=n) h' (ht.2 ht.1))
     ·cases hf
    ·cases hf
   ·cases hf
  ·split at ht
   ·rename_i p s' n hf
    unfold c3a at hf; cases hf
   ·split at ht
    ·rename_i p s' hf
     obtain ⟨hg,hrun⟩:=b5v hE hn h hf ht.1
     unfold wpList
     simp only [Region.wanted,hg,if_true]
     refine .inl (hrun.wp (fun v' w' hw=>?_))
     obtain ⟨ι',h'⟩:=hw
     exact V1 hE hn hM hk (l:=l) (m:=0) h' (ht.2 ht.1)
    ·split at ht
     ·rename_i p s' hf
      obtain ⟨hg,hrun⟩:=b49 hE hn hM h hf ht.1
      unfold wpList
      simp only [Region.wanted,hg,if_true]
      exact .inl (hrun _ Q (fun S' ι' a' w' h'=>V1 hE hn hM hk (l:=l) (m:=0) h' (ht.2 ht.1)))
     ·split at ht
      ·rename_i p v1 v2 hg hd hb
       rw [← hn] at hd
       obtain ⟨val,hrun,hv⟩:=b98 hE h hb
       unfold wpList
       simp only [Region.wanted,hg,if_true]
       refine .inl ?_
       unfold Oper.wp
       rw [hrun]
       rcases hv with ⟨hp,hv⟩|hv
       ·exact V1 hE hn hM hk (l:=l) (m:=0) (h.put hd hv) (ht.1 hp)
       ·exact V1 hE hn hM hk (l:=l) (m:=0) (h.put hd hv) ht.2
      ·have:=a2q hE hn h (ops:=ops) o (k:=fun s'=>a2S E ops 0 l s' k) ht (next:=wpList E.P ops Q l) (Q:=Q) (fun S' ι' s' a' w' h1 h2=>V1 hE hn hM hk (l:=l) (m:=0) h1 h2)
       unfold wpList
       split
       ·rename_i hw; rw [if_pos hw] at this; exact .inl this
       ·rename_i hw; rw [if_neg hw] at this; exact this
end
end Go.Ex

namespace Go.Ex

section
variable {E:Env} {ops:Array Oper}

theorem a1q {α:Type _} {Y:α→Prop} {a:α}:Y a↔∃ (p:Prop) (s:α),some (True,a)=some (p,s)∧p∧Y s:=by
 constructor
 ·intro h; exact ⟨_,_,rfl,trivial,h⟩
 ·rintro ⟨p,s,h,_,h2⟩; cases h; exact h2

theorem b3b {o:Oper} {s:St} {k:St→Tree (E.rs++C9 E.ps)} {L:Code→List Item→St→Prop} {R:DL (E.rs++C9 E.ps)→Prop}:(a5f E o s k).holds L R↔∃ p s',I9 E o s=some (p,s')∧p∧(k s').holds L R:=by
 unfold a5f I9
 cases hd:E7 E.nt o.dst with
 | false=>simp [Tree.holds]
 | true =>
  simp only
  have other:∀ r:OR,(match r with|.fail why=>Tree.stuck why|.ok v s'=>k (s'.put o.dst v)|.E0 p v s'=>Tree.e8 p (k (s'.put o.dst v))).holds L R ↔
    ∃ p s',(match r.get with|none=>none|some (p,v,s')=>some (p,s'.put o.dst v))=some (p,s')∧p∧(k s').holds L R:=by
   intro r
   cases r with
   | fail why=>simp [Tree.holds,OR.get]
   | ok v s'=>exact a1q (Y:=fun s'=>(k s').holds L R)
   | E0 p v s' =>
    simp only [Tree.holds,OR.get,Option.some.injEq,Prod.mk.injEq]
    constructor
    ·rintro ⟨h1,h2⟩; exact ⟨_,_,⟨rfl,rfl⟩,h1,h2 h1⟩
    ·rintro ⟨_,_,⟨rfl,rfl⟩,h1,h2⟩; exact ⟨h1,fun _=>h2⟩
  cases ho:o.op with
  | pick c a b =>
   simp only
   cases hc:s.ev c with
   | val t x =>
    cases t with
    | bool =>
     cases x with
     | true=>exact a1q (Y:=fun s'=>(k s').holds L R)
     | false=>exact a1q (Y:=fun s'=>(k s').holds L R)
    | _=>simp [Tree.holds]
   | _=>simp [Tree.holds]
  | _=>exact other _

theorem a1g {o:Oper} {s:St} {k:St→Tree (E.rs++C9 E.ps)} {L:Code→List Item→St→Prop} {R:DL (E.rs++C9 E.ps)→Prop}:(a1G E ops o s k).holds L R↔∃ p s',u6 E ops o s=some (p,s')∧p∧(k s').holds L R:=by
 unfold a1G u6
 cases hg:o.guard with
 | none=>exact b3b
 | some jw =>
  obtain ⟨j,want⟩:=jw
  simp only
  cases hs:a1u ops j with
  | none=>simp [Tree.holds]
  | some g =>
   simp only
   cases hv:s.ev (.tmp g) with
   | raw v =>
    cases v with
    | tuple vs =>
     simp only
     cases hd:E7 E.nt o.dst with
     | false=>simp [Tree.holds]
     | true=>exact a1q (Y:=fun s'=>(k s').holds L R)
    | _=>simp [Tree.holds]
   | val t x =>
    cases t with
    | bool =>
     simp only
     cases hd:E7 E.nt o.dst with
     | false=>simp [Tree.holds]
     | true =>
      simp only
      cases x with
      | true =>
       cases want with
       | true=>exact b3b
       | false=>exact a1q (Y:=fun s'=>(k s').holds L R)
      | false =>
       cases want with
       | true=>exact a1q (Y:=fun s'=>(k s').holds L R)
       | false=>exact b3b
    | _=>simp [Tree.holds]
   | _=>simp [Tree.holds]

def a2y (ops:Array Oper) (x:Oper) (sx:St) (Tx:List Nat) (y:Oper) (Ty:List Nat):Prop :=
 (∀ m∈looks ops y,∀ i∈Tx,(B7 y (sx.get m)).g8 i=false)∧(∀ m∈looks ops x,∀ i∈Ty,(B7 x (sx.get m)).g8 i=false)∧(∀ i∈Tx,i % 1000≠(y.dst.getD 0) % 1000)

theorem a7l {e:Met} {y:Oper} {Ty:List Nat} (h:a7m ops e y Ty=true):a2y ops e.o e.s e.T y Ty:=by
 simp only [a7m,Bool.and_eq_true] at h
 obtain ⟨h1,h2⟩:=h
 refine ⟨?_,?_,?_⟩
 ·intro m hm i hi
  split at h1
  ·rename_i he; rw [he] at hi; cases hi
  ·simp only [Bool.and_eq_true,List.all_eq_true,Bool.not_eq_true'] at h1
   exact h1.1 m hm i hi
 ·intro m hm i hi
  split at h2
  ·cases hi
  ·simp only [List.all_eq_true,Bool.not_eq_true'] at h2
   exact h2 m hm i hi
 ·intro i hi hmod
  split at h1
  ·rename_i he; rw [he] at hi; cases hi
  ·simp only [Bool.and_eq_true,List.all_eq_true,Bool.not_eq_true'] at h1
   have:=h1.2 i hi
   rw [hmod] at this
   simp at this

def X3 (E:Env) (ops:Array Oper) (M:Nat→Nat):List (Nat×St)→List Nat→St→St→Prop
 | _,[],s,s'=>s=s'
 | acc,i::l,s,s'=>∃ o,ops[i]?=some o∧(∀ e∈acc,(M i).testBit e.1=true∨∃ x,ops[e.1]?=some x∧a2y ops x e.2 (i7 E x e.2) o (i7 E o s)) ∧
   ∃ p s1,u6 E ops o s=some (p,s1)∧p∧X3 E ops M ((i,s)::acc) l s1 s'

def b0k (E:Env) (ops:Array Oper) (q:a0p):Prop:=∃ oa c,ops[q.k]?=some oa∧oa.guard=none∧oa.dst=some q.d∧E7 E.nt (some q.d)=true∧oa.op=.call c∧c.callee=.builtin .append∧c.args.toList=[q.x,q.y]∧c.argTypes.toList=[q.T,q.U]

theorem c1X {o:Oper} {s:St} {i:Nat} {q:a0p} (h:b8p E o s i=some q) (ho:ops[i]?=some o):b0k E ops q∧q.k=i:=by
 unfold b8p at h
 split at h
 ·rename_i d c hg hd hdo hop
  split at h
  ·rename_i x y T U hc ha hT
   split at h
   ·split at h
    ·cases h
    ·cases h
     exact ⟨⟨o,c,ho,hg,hd,by rw [← hd]; exact hdo,hop,hc,ha,hT⟩,rfl⟩
   ·cases h
  ·cases h
 ·cases h

def b4o (E:Env) (ops:Array Oper) (M:List Nat) (q:a0p) (s1:St) (k:St→Tree (E.rs++C9 E.ps)) (L:Code→List Item→St→Prop) (R:DL (E.rs++C9 E.ps)→Prop):Prop :=
 ∃ o p s2,ops[ops.size - 1]?=some o∧b0C E ops M q (ops.size - 1) o s1=some (p,s2)∧p∧(k s2).holds L R

theorem a1w {o:Oper} {l:List Oper} {n:Nat} (hl:ops.toList.drop n=o::l):ops[n]?=some o∧ops.toList.drop (n+1)=l∧ops.size=n+1+l.length:=by
 have h1:(ops.toList.drop n)[0]?=some o:=by rw [hl]; rfl
 have h2:(ops.toList.drop n).length=(o::l).length:=by rw [hl]
 simp only [List.length_drop,List.length_cons,Array.length_toList] at h2
 refine ⟨by simpa using h1,?_,by omega⟩
 rw [← List.drop_drop,hl]; rfl

theorem b08 {M:List Nat} {q:a0p} {k:St→Tree (E.rs++C9 E.ps)} {L:Code→List Item→St→Prop} {R:DL (E.rs++C9 E.ps)→Prop}:∀ {l:List Oper} {n:Nat} {s:St} {acc:List Met} {acc':List (Nat×St)},ops.toList.drop n=l →
  (∀ e∈acc',∃ m∈acc,m.i=e.1∧ops[e.1]?=some m.o∧m.s=e.2∧m.T=i7 E m.o e.2)→(b25 E ops M q n l s acc k).holds L R→∃ s',X3 E ops (fun i=>M.getD i 0) acc' (List.range' n (l.length - 1)) s s'∧b4o E ops M q s' k L R
 | [],n,s,acc,acc',_,_,h=>h.elim
 | [o],n,s,acc,acc',hl,ha,h=>by
  obtain ⟨h1,h2,h3⟩:=a1w hl
  simp only [b25] at h
  split at h
  ·rename_i p s2 hf
   have e:ops.size - 1=n:=by simp at h3; omega
   exact ⟨s,rfl,o,p,s2,by rw [e]; exact h1,by rw [e]; exact hf,h.1,h.2 h.1⟩
  ·exact h.elim
 | o::o2::l,n,s,acc,acc',hl,ha,h=>by
  obtain ⟨ho,hl',_⟩:=a1w hl
  simp only [b25] at h
  split at h
  ·exact h.elim
  ·rename_i hall
   obtain ⟨p,s1,h1,h2,h3⟩:=a1g.1 h
   obtain ⟨s',k1,k2⟩:=b08 (acc':=(n,s)::acc') hl' (fun e he=>by
    rcases List.mem_cons.1 he with rfl|he
    ·exact ⟨_,List.mem_cons_self ..,rfl,ho,rfl,rfl⟩
    ·obtain ⟨m,hm,r⟩:=ha e he; exact ⟨m,List.mem_cons_of_mem _ hm,r⟩) h3
   refine ⟨s',⟨o,ho,fun e he=>?_,p,s1,h1,h2,k1⟩,k2⟩
   obtain ⟨m,hm,m1,m2,m3,m4⟩:=ha e he
   have:=(List.all_eq_true.1 hall) m hm
   simp only [Bool.or_eq_true] at this
   rcases this with this|this
   ·exact .inl (by rw [← m1]; exact this)
   ·have hp:=a7l this
    rw [m3,m4] at hp
    exact .inr ⟨m.o,m2,hp⟩

theorem b07 {M:List Nat} {k:St→Tree (E.rs++C9 E.ps)} {L:Code→List Item→St→Prop} {R:DL (E.rs++C9 E.ps)→Prop}:∀ {l:List Oper} {n:Nat} {s:St} {acc:List Met} {acc':List (Nat×St)},ops.toList.drop n=l →
  (∀ e∈acc',∃ m∈acc,m.i=e.1∧ops[e.1]?=some m.o∧m.s=e.2∧m.T=i7 E m.o e.2)→(b7a E ops M n l s acc k).holds L R →
  (∃ s',X3 E ops (fun i=>M.getD i 0) acc' (List.range' n l.length) s s'∧(k s').holds L R) ∨
  ∃ q s',n≤q.k∧b0k E ops q∧X3 E ops (fun i=>M.getD i 0) acc' ((List.range' n (l.length - 1)).filter (fun j=>!(j == q.k))) s s'∧b4o E ops M q s' k L R
 | [],n,s,acc,acc',_,_,h=>.inl ⟨s,rfl,h⟩
 | o::l,n,s,acc,acc',hl,ha,h=>by
  obtain ⟨ho,hl',_⟩:=a1w hl
  simp only [b7a] at h
  split at h
  ·rename_i q hq
   obtain ⟨a1,a2⟩:=c1X hq ho
   obtain ⟨s',k1,k2⟩:=b08 hl' ha h
   refine .inr ⟨q,s',by omega,a1,?_,k2⟩
   cases l with
   | nil =>
    simp only [List.length_nil,Nat.zero_sub,List.range'_zero] at k1
    simpa using k1
   | cons o2 l =>
    simp only [List.length_cons,Nat.add_sub_cancel] at k1 ⊢
    rw [List.range'_succ,List.filter_cons]
    simp only [a2,beq_self_eq_true,Bool.not_true,Bool.false_eq_true,if_false]
    rw [List.filter_eq_self.2 (fun j hj=>by have:=(List.mem_range'_1.1 hj).1; simp; omega)]
    exact k1
  ·split at h
   ·exact h.elim
   ·rename_i hall
    obtain ⟨p,s1,h1,h2,h3⟩:=a1g.1 h
    have hacc:∀ e∈acc',(M.getD n 0).testBit e.1=true∨∃ x,ops[e.1]?=some x∧a2y ops x e.2 (i7 E x e.2) o (i7 E o s):=by
     intro e he
     obtain ⟨m,hm,m1,m2,m3,m4⟩:=ha e he
     have:=(List.all_eq_true.1 hall) m hm
     simp only [Bool.or_eq_true] at this
     rcases this with this|this
     ·exact .inl (by rw [← m1]; exact this)
     ·have hp:=a7l this
      rw [m3,m4] at hp
      exact .inr ⟨m.o,m2,hp⟩
    rcases b07 (acc':=(n,s)::acc') hl' (fun e he=>by
     rcases List.mem_cons.1 he with rfl|he
     ·exact ⟨_,List.mem_cons_self ..,rfl,ho,rfl,rfl⟩
     ·obtain ⟨m,hm,r⟩:=ha e he; exact ⟨m,List.mem_cons_of_mem _ hm,r⟩) h3 with ⟨s',k1,k2⟩|⟨q,s',k0,k1,k2,k3⟩
    ·exact .inl ⟨s',⟨o,ho,hacc,p,s1,h1,h2,k1⟩,k2⟩
    ·refine .inr ⟨q,s',by omega,k1,?_,k3⟩
     cases l with
     | nil =>
      -- the append would stand behind the last operation
      exfalso
      obtain ⟨oa,c,a1,_⟩:=k1
      have:=(Array.getElem?_eq_some_iff.1 a1).1
      have h9:=(a1w hl).2.2
      simp at h9; omega
     | cons o2 l =>
      simp only [List.length_cons,Nat.add_sub_cancel] at k2 ⊢
      rw [List.range'_succ,List.filter_cons]
      have hne:(!(n == q.k))=true:=by simp; omega
      rw [if_pos hne]
      exact ⟨o,ho,hacc,p,s1,h1,h2,k2⟩

end
end Go.Ex

namespace Go.Ex

def uniq {α:Type _}:List (Nat×α)→Prop
 | []=>True
 | (n,_)::l=>(∀ q∈l,n<q.1)∧uniq l

theorem a3V {α:Type _} {n:Nat}:∀ {l:List (Nat×α)},(∀ q∈l,n<q.1)→look n l=none
 | [],_=>rfl
 | (m,x)::l,h=>by
  have:=h (m,x) (by simp)
  simp only [look,a2M (Nat.ne_of_lt this)]
  exact a3V (fun q hq=>h q (by simp [hq]))

theorem b52 {α:Type _} {n:Nat} {x:α} {q:Nat×α}:∀ {l:List (Nat×α)},q∈put n x l→q.1=n∨q∈l
 | [],h=>by simp [put] at h; exact .inl (by rw [h])
 | (m,y)::l,h=>by
  simp only [put] at h
  split at h
  ·rcases List.mem_cons.1 h with rfl|h
   ·exact .inl rfl
   ·exact .inr (by simp [h])
  ·split at h
   ·rcases List.mem_cons.1 h with rfl|h
    ·exact .inl rfl
    ·exact .inr h
   ·rcases List.mem_cons.1 h with rfl|h
    ·exact .inr (by simp)
    ·exact (b52 h).imp id (fun h=>by simp [h])

theorem b2P {α:Type _} (n:Nat) (x:α):∀ {l:List (Nat×α)},uniq l→uniq (put n x l)
 | [],_=>⟨by simp,trivial⟩
 | (m,y)::l,⟨h1,h2⟩=>by
  simp only [put]
  cases hb:Nat.beq n m with
  | true=>have:=Nat.eq_of_beq_eq_true hb; subst this; exact ⟨h1,h2⟩
  | false =>
   have hne:n≠m:=by rintro rfl; simp at hb
   simp only
   cases hlt:Nat.blt n m with
   | true =>
    have hlt:n<m:=by simpa [Nat.blt_eq] using hlt
    exact ⟨fun q hq=>by
     rcases List.mem_cons.1 hq with rfl|hq
     ·exact hlt
     ·exact Nat.lt_trans hlt (h1 q hq),h1,h2⟩
   | false =>
    have hlt:¬ n<m:=by
     intro hl
     have h3:Nat.blt n m=true:=by simpa [Nat.blt_eq] using hl
     rw [h3] at hlt; cases hlt
    refine ⟨fun q hq=>?_,b2P n x h2⟩
    rcases b52 hq with e|hq
    ·omega
    ·exact h1 q hq

theorem j7 {α:Type _}:∀ {l:List (Nat×α)},a87 l=true→uniq l
 | [],_=>trivial
 | (n,x)::l,h=>by
  simp only [a87,Bool.and_eq_true] at h
  have ih:=j7 h.2
  refine ⟨?_,ih⟩
  cases l with
  | nil=>simp
  | cons q l =>
   obtain ⟨m,y⟩:=q
   have hlt:n<m:=by simpa [Nat.blt_eq] using h.1
   intro q hq
   rcases List.mem_cons.1 hq with rfl|hq
   ·exact hlt
   ·exact Nat.lt_trans hlt (ih.1 q hq)

theorem a31 {d:Nat}:∀ {l:List (Nat×AV)},uniq l→(∀ n v,look n l=some v→v.g8 d=false)→X6 d l=true
 | [],_,_=>rfl
 | (m,v)::l,⟨h0,h2⟩,h=>by
  have h1:=a3V h0
  simp only [X6,Bool.and_eq_true,Bool.not_eq_true']
  refine ⟨h m v (by simp [look]),a31 h2 (fun n w hw=>h n w ?_)⟩
  simp only [look]
  cases hb:Nat.beq n m with
  | true=>have:=Nat.eq_of_beq_eq_true hb; subst this; rw [h1] at hw; cases hw
  | false=>exact hw

theorem G5:∀ {v:AV} {i:Nat},i∈v.E6↔v.g8 i=true:=by
 intro v
 induction v with
 | cons a b iha ihb=>intro i; simp only [AV.E6,List.mem_append,AV.g8,Bool.or_eq_true,iha,ihb]
 | H5 l ih=>intro i; exact ih
 | s4 f l ih=>intro i; exact ih
 | bx l ih=>intro i; exact ih
 | rc f l ih=>intro i; exact ih
 | ptr j p=>intro i; simp [AV.E6,AV.g8]
 | at_ j p=>intro i; simp [AV.E6,AV.g8]
 | sub j p a b=>intro i; simp [AV.E6,AV.g8]
 | _=>intro i; simp [AV.E6,AV.g8]

def AV.plain:AV→Bool
 | .any|.raw _|.val _ _|.u5 _ _|.nil=>true
 | _=>false

structure Trim (T:List Nat) (f:AV→AV):Prop where
 cons:∀ a b,f (.cons a b)=.cons (f a) (f b)
 H5:∀ l,f (.H5 l)=.H5 (f l)
 s4:∀ g l,f (.s4 g l)=.s4 g (f l)
 bx:∀ l,f (.bx l)=.bx (f l)
 rc:∀ g l,f (.rc g l)=.rc g (f l)
 atom:∀ u,u.ref=true→f u=u∨f u=.any
 a5v:∀ u,u.ref=true→(∀ i∈T,u.g8 i=false)→f u=u
 plain:∀ u,u.plain=true→f u=u

theorem AV.shape (P:AV→Prop) (hp:∀ u,u.plain=true→P u) (ha:∀ u,u.ref=true→P u) (hc:∀ a b,P a→P b→P (.cons a b)) (ht:∀ l,P l→P (.H5 l)) (hf:∀ g l,P l→P (.s4 g l)) (hb:∀ l,P l→P (.bx l)) (hr:∀ g l,P l→P (.rc g l)):∀ u,P u:=by
 intro u
 induction u with
 | cons a b iha ihb=>exact hc a b iha ihb
 | H5 l ih=>exact ht l ih
 | s4 f l ih=>exact hf f l ih
 | bx l ih=>exact hb l ih
 | rc f l ih=>exact hr f l ih
 | ptr j p=>exact ha _ rfl
 | at_ j p=>exact ha _ rfl
 | sub j p a b=>exact ha _ rfl
 | _=>exact hp _ rfl

section
variable {T T':List Nat} {f g:AV→AV}

theorem Trim.id (T:List Nat):Trim T (fun u=>u):=⟨fun _ _=>rfl,fun _=>rfl,fun _ _=>rfl,fun _=>rfl,fun _ _=>rfl,fun _ _=>.inl rfl,fun _ _ _=>rfl,fun _ _=>rfl⟩

theorem Trim.map {g:AV→AV} (h1:∀ u,u.ref=true→g u=u∨g u=.any) (h2:∀ u,u.ref=true→(∀ i∈T,u.g8 i=false)→g u=u):Trim T (AV.map g):=by
 have e:∀ u:AV,u.ref=true→u.map g=g u:=by intro u hu; cases u<;>simp only [AV.ref] at hu<;>first|rfl|cases hu
 exact ⟨fun _ _=>rfl,fun _=>rfl,fun _ _=>rfl,fun _=>rfl,fun _ _=>rfl,fun u hu=>by rw [e u hu]; exact h1 u hu,fun u hu hm=>by rw [e u hu]; exact h2 u hu hm,fun u hu=>by cases u<;>simp only [AV.plain] at hu<;>first|rfl|cases hu⟩

theorem Trim.comp (hf:Trim T f) (hg:Trim T' g) {U:List Nat} (h1:∀ i∈T,i∈U) (h2:∀ i∈T',i∈U):Trim U (fun u=>g (f u)):=by
 refine ⟨fun a b=>by rw [hf.cons,hg.cons],fun l=>by rw [hf.H5,hg.H5],fun k l=>by rw [hf.s4,hg.s4],fun l=>by rw [hf.bx,hg.bx],fun k l=>by rw [hf.rc,hg.rc],?_,?_,fun u hu=>by rw [hf.plain u hu,hg.plain u hu]⟩
 ·intro u hu
  rcases hf.atom u hu with h|h
  ·rw [h]; exact hg.atom u hu
  ·rw [h]; exact .inr (hg.plain _ rfl)
 ·intro u hu hm
  rw [hf.a5v u hu (fun i hi=>hm i (h1 i hi)),hg.a5v u hu (fun i hi=>hm i (h2 i hi))]

theorem Trim.mono (hf:Trim T f) (h:∀ i∈T,i∈T'):Trim T' f:=⟨hf.cons,hf.H5,hf.s4,hf.bx,hf.rc,hf.atom,fun u hu hm=>hf.a5v u hu (fun i hi=>hm i (h i hi)),hf.plain⟩

theorem Trim.fix (hf:Trim T f):∀ u,(∀ i∈T,u.g8 i=false)→f u=u:=by
 refine AV.shape _ (fun u hu _=>hf.plain u hu) (fun u hu hm=>hf.a5v u hu hm) ?_ ?_ ?_ ?_ ?_
 ·intro a b ha hb hm
  simp only [AV.g8,Bool.or_eq_false_iff] at hm
  rw [hf.cons,ha (fun i hi=>(hm i hi).1),hb (fun i hi=>(hm i hi).2)]
 ·intro l hl hm; rw [hf.H5,hl hm]
 ·intro k l hl hm; rw [hf.s4,hl hm]
 ·intro l hl hm; rw [hf.bx,hl hm]
 ·intro k l hl hm; rw [hf.rc,hl hm]

theorem Trim.g8 (hf:Trim T f) {i:Nat}:∀ u,(f u).g8 i=true→u.g8 i=true:=by
 refine AV.shape _ (fun u hu h=>by rw [hf.plain u hu] at h; exact h) (fun u hu h=>?_) ?_ ?_ ?_ ?_ ?_
 ·rcases hf.atom u hu with e|e
  ·rw [e] at h; exact h
  ·rw [e] at h; cases h
 ·intro a b ha hb h
  rw [hf.cons] at h
  simp only [AV.g8,Bool.or_eq_true] at h ⊢
  exact h.imp ha hb
 ·intro l hl h; rw [hf.H5] at h; exact hl h
 ·intro k l hl h; rw [hf.s4] at h; exact hl h
 ·intro l hl h; rw [hf.bx] at h; exact hl h
 ·intro k l hl h; rw [hf.rc] at h; exact hl h

theorem Trim.comm (hf:Trim T f) (hg:Trim T' g):∀ u,f (g u)=g (f u):=by
 refine AV.shape _ (fun u hu=>by rw [hf.plain u hu,hg.plain u hu,hf.plain u hu]) (fun u hu=>?_) ?_ ?_ ?_ ?_ ?_
 ·have ha:f .any=.any:=hf.plain _ rfl
  have hb:g .any=.any:=hg.plain _ rfl
  rcases hf.atom u hu with e|e<;>rcases hg.atom u hu with e'|e'<;>simp only [e,e',ha,hb]
 ·intro a b ha hb; rw [hg.cons,hf.cons,hf.cons,hg.cons,ha,hb]
 ·intro l hl; rw [hg.H5,hf.H5,hf.H5,hg.H5,hl]
 ·intro k l hl; rw [hg.s4,hf.s4,hf.s4,hg.s4,hl]
 ·intro l hl; rw [hg.bx,hf.bx,hf.bx,hg.bx,hl]
 ·intro k l hl; rw [hg.rc,hf.rc,hf.rc,hg.rc,hl]

theorem Trim.drop (i:Nat):Trim [i] (AV.drop i):=by
 refine Trim.map (fun u _=>?_) (fun u _ hm=>?_)
 ·cases hm:u.g8 i with
  | true=>exact .inr (by simp only)
  | false=>exact .inl (by simp only)
 ·simp only [hm i (by simp)]

theorem Trim.kill (i:Nat) (ow:Bool×Ty) (q:List Step):Trim [i] (AV.kill i ow q):=by
 refine Trim.map (fun u hu=>?_) (fun u _ hm=>?_)
 ·unfold AV.a0O
  split
  ·exact .inl rfl
  ·split
   ·split<;>first|exact .inl rfl|exact .inr rfl
   ·split
    ·exact .inl rfl
    ·split<;>first|exact .inl rfl|exact .inr rfl
   ·split<;>first|exact .inl rfl|exact .inr rfl
   ·split<;>first|exact .inl rfl|exact .inr rfl
   ·exact .inr rfl
 ·unfold AV.a0O; rw [hm i (by simp)]

theorem Trim.U3 (i:Nat) (ow:Bool):Trim [i] (AV.map (AV.a1O i ow)):=by
 refine Trim.map (fun u hu=>?_) (fun u _ hm=>?_)
 ·unfold AV.a1O
  split
  ·exact .inl rfl
  ·split
   ·split<;>first|exact .inl rfl|exact .inr rfl
   ·split<;>first|exact .inl rfl|exact .inr rfl
   ·split<;>first|exact .inl rfl|exact .inr rfl
   ·exact .inr rfl
 ·unfold AV.a1O; rw [hm i (by simp)]

def a1S:List Nat→AV→AV
 | [],u=>u
 | i::g,u=>a1S g (u.drop i)

theorem Trim.t6:∀ g:List Nat,Trim g (a1S g)
 | []=>Trim.id []
 | i::g=>Trim.comp (Trim.drop i) (Trim.t6 g) (by simp) (fun j hj=>List.mem_cons_of_mem _ hj)
end

structure c3i (s s1:St) (T ids:List Nat) (f:AV→AV) (h:Nat→Option f7):Prop where
 fr:∀ n,look n s1.fr=(look n s.fr).map f
 hp:∀ i,look i s1.hp=if i∈T∨i∈ids then h i else look i s.hp

def N7 (s:St) (ids:List Nat):Prop:=∀ n∈ids,look n s.hp=none∧∀ m v,look m s.fr=some v→v.g8 n=false

theorem a1M:∀ {g:List Nat} {s:St} {n:Nat},look n (St.t6 g s).fr=(look n s.fr).map (a1S g)
 | [],s,n=>by simp [St.t6,a1S]
 | i::g,s,n=>by
  simp only [St.t6]
  rw [a1M (g:=g) (s:=s.drop i)]
  simp only [St.drop,H6,Option.map_map]
  rfl

theorem b3p {f:AV→AV} {q:Nat×AV}:∀ {l:List (Nat×AV)},q∈mapA f l→∃ r∈l,r.1=q.1
 | (n,x)::l,h=>by
  rcases List.mem_cons.1 h with rfl|h
  ·exact ⟨_,List.mem_cons_self ..,rfl⟩
  ·obtain ⟨r,hr,e⟩:=b3p h; exact ⟨r,by simp [hr],e⟩

theorem a2B {f:AV→AV}:∀ {l:List (Nat×AV)},uniq l→uniq (mapA f l)
 | [],_=>trivial
 | (n,x)::l,⟨h1,h2⟩=>⟨fun q hq=>by obtain ⟨r,hr,e⟩:=b3p hq; rw [← e]; exact h1 r hr,a2B h2⟩

theorem a1C:∀ {g:List Nat} {s:St},uniq s.fr→uniq (St.t6 g s).fr
 | [],_,h=>h
 | i::g,s,h=>a1C (g:=g) (s:=s.drop i) (a2B h)

def U4 (s t:St) (xs:List Operand):Prop:=∀ x∈xs,t.ev x=s.ev x∧∀ i,(s.ev x).g8 i=true→t.obj i=s.obj i

theorem U4.refl (s:St) (xs:List Operand):U4 s s xs:=fun _ _=>⟨rfl,fun _ _=>rfl⟩

def OR.a0r (t:St):OR→OR
 | .fail w=>.fail w
 | .ok v _=>.ok v t
 | .E0 p v _=>.E0 p v t

def OR.av:OR→AV
 | .ok v _=>v
 | .E0 _ v _=>v
 | .fail _=>.any

section
variable {E:Env} {s t:St}

theorem b4g (k:IntKind) (r:Int):arith k r t=(arith k r s).a0r t:=by unfold arith; split<;>rfl
theorem c3T (op:BinOp) (k k':IntKind) (a b:Int):a8E op k a k' b t=(a8E op k a k' b s).a0r t:=by
 unfold a8E
 split
 ·rfl
 ·rfl
 ·split
  ·split<;>first|rfl|exact b4g _ _
  ·rfl
theorem c3R (W:Bool) (op:BinOp) (k k':IntKind) (a b:Int):a8C W op k a k' b t=(a8C W op k a k' b s).a0r t:=by
 unfold a8C
 split
 ·split<;>rfl
 ·exact c3T ..
theorem c3S (op:BinOp) (a b:List UInt8):a8D op a b t=(a8D op a b s).a0r t:=by unfold a8D; split<;>rfl
theorem c3V (T:TypeId) (op:BinOp) (x y:AV):a8F E T op x y t=(a8F E T op x y s).a0r t:=by
 unfold a8F
 split
 ·exact c3R ..
 ·split<;>rfl
 ·exact c3S ..
 ·rfl
theorem b9W (T:TypeId) (op:BinOp) (a:Ty) (x:a.den) (u:Ty) (y:u.den):eqA E T op a x u y t=(eqA E T op a x u y s).a0r t:=by
 unfold eqA
 split
 ·split<;>rfl
 ·rfl
theorem c3U (T:TypeId) (op:BinOp) (x y:AV):a5E E T op x y t=(a5E E T op x y s).a0r t:=by
 unfold a5E
 split
 ·exact b9W ..
 ·exact b9W ..
 ·exact c3V ..
theorem c4p (op:UnOp) (x:AV):unA op x t=(unA op x s).a0r t:=by
 unfold unA
 repeat' (first|rfl|exact b4g _ _|split)

theorem a4Q:∀ {xs:List Operand},(∀ x∈xs,t.ev x=s.ev x)→t.K5 xs=s.K5 xs
 | [],_=>rfl
 | x::xs,h=>by simp only [St.K5,h x (by simp),a4Q (xs:=xs) (fun y hy=>h y (by simp [hy]))]

theorem W3 {i:Nat}:∀ {xs:List Operand},(s.K5 xs).g8 i=true→∃ x∈xs,(s.ev x).g8 i=true
 | [],h=>by cases h
 | x::xs,h=>by
  simp only [St.K5,AV.g8,Bool.or_eq_true] at h
  rcases h with h|h
  ·exact ⟨x,by simp,h⟩
  ·obtain ⟨y,hy,h⟩:=W3 h; exact ⟨y,by simp [hy],h⟩

theorem a8o {i:Nat} {x:Operand}:∀ {xs:List Operand},x∈xs→(s.ev x).g8 i=true→(s.K5 xs).g8 i=true
 | y::xs,hx,h=>by
  simp only [St.K5,AV.g8,Bool.or_eq_true]
  rcases List.mem_cons.1 hx with rfl|hx
  ·exact .inl h
  ·exact .inr (a8o hx h)

theorem a5F {i:Nat}:∀ {a b:AV},(a.app b).g8 i=true→a.g8 i=true∨b.g8 i=true:=by
 intro a
 induction a with
 | cons x l _ ih =>
  intro b h
  simp only [AV.app,AV.g8,Bool.or_eq_true] at h ⊢
  rcases h with h|h
  ·exact .inl (.inl h)
  ·rcases ih h with h|h
   ·exact .inl (.inr h)
   ·exact .inr h
 | _=>intro b h; exact .inr h

def Alike (s t:St) (v:AV):Prop:=∀ i,v.g8 i=true→t.obj i=s.obj i

theorem H2 {i:Nat} {p:List Step} (h:t.obj i=s.obj i):t.part i p=s.part i p:=by simp only [St.part,h]
theorem a7d {i:Nat} {p:List Step} {a b:Int} (h:t.obj i=s.obj i):t.view i p a b=s.view i p a b:=by simp only [St.view,H2 h]
theorem b0x {u:Ty} {i:Nat} {p:List Step} (h:t.obj i=s.obj i):t.a2f u i p=s.a2f u i p:=by simp only [St.a2f,H2 h]
theorem c4N {u:Ty} {v:AV} (h:Alike s t v):v.asV t u=v.asV s u:=by
 cases v<;>first|rfl|exact b0x (h _ (by simp [AV.g8]))|(simp only [AV.asV]; rw [a7d (h _ (by simp [AV.g8]))])
theorem c0b {u:Ty} {v:AV} (h:Alike s t v):v.asR t u=v.asR s u:=by
 unfold AV.asR
 split
 ·exact b0x (h _ (by simp [AV.g8]))
 ·rfl
 ·rename_i i p
  have e:∀ u,t.a2f u i p=s.a2f u i p:=fun u=>b0x (h i (show AV.g8 i (AV.bx (.ptr i p))=true by simp [AV.g8]))
  simp only [e]
 ·rfl
theorem b6w:∀ {ts:List Ty} {v:AV},Alike s t v→AV.a6Q t ts v=AV.a6Q s ts v
 | [],v,_=>by cases v<;>rfl
 | u::ts,v,h=>by
  cases v<;>try rfl
  rename_i a b
  simp only [AV.a6Q,c0b (v:=a) (fun i hi=>h i (by simp [AV.g8,hi])),b6w (v:=b) (fun i hi=>h i (by simp [AV.g8,hi]))]
theorem a7r {v:AV} (h:Alike s t v):v.U5 t=v.U5 s:=by
 cases v<;>try rfl
 ·rename_i i p; cases p<;>simp only [AV.U5,h i (by simp [AV.g8])]
 ·rename_i i p a b; cases p<;>simp only [AV.U5,h i (by simp [AV.g8])]
theorem b3E {v:AV} (h:Alike s t v):v.els t=v.els s:=by
 unfold AV.els
 split
 ·rfl
 ·rename_i i p; simp only [H2 (h i (by simp [AV.g8]))]
 ·rename_i i p a b; simp only [a7d (h i (by simp [AV.g8]))]
 ·rfl
theorem a36 {v:AV} {r:Sigma Ty.den} {g:List Nat} (h:v.U5 s=some (r,g)):∀ i∈g,v.g8 i=true:=by
 unfold AV.U5 at h
 split at h
 ·cases h; simp
 ·split at h
  ·cases h; simp [AV.g8]
  ·cases h
 ·split at h
  ·cases h; simp [AV.g8]
  ·cases h
 ·cases h
theorem a1j {v:AV} (h:Alike s t v):v.W8 t=v.W8 s:=by
 unfold AV.W8
 split
 ·rename_i i
  rw [h i (by simp [AV.g8]),a7r h]
 ·rfl
 ·exact a7r h
theorem a3e {v:AV} {r:Sigma Ty.den} {g:List Nat} (h:v.W8 s=some (r,g)):∀ i∈g,v.g8 i=true:=by
 unfold AV.W8 at h
 split at h
 ·split at h
  ·cases h; simp [AV.g8]
  ·exact a36 h
 ·cases h; simp
 ·exact a36 h
theorem a7x {u:Ty} {v:AV} (h:Alike s t v):v.Y2 t u=v.Y2 s u:=by
 unfold AV.Y2
 split
 ·rfl
 ·rfl
 ·simp only [b3E h,a7r h]
theorem b1F {u:Ty} {v:AV} {r:Sigma fun t:Ty=>List t.den} {g:List Nat} (h:v.Y2 s u=some (r,g)):∀ i∈g,v.g8 i=true:=by
 unfold AV.Y2 at h
 split at h
 ·cases h; simp
 ·cases h; simp
 ·split at h
  ·cases h
  ·split at h
   ·cases h; simp
   ·split at h
    ·rename_i hg; cases h; exact a36 hg
    ·cases h
theorem b39 {d:Int} {x:Option Operand} (h:∀ y,x=some y→t.ev y=s.ev y):W6 t d x=W6 s d x:=by
 cases x with
 | none=>rfl
 | some y=>simp only [W6,h y rfl]

theorem c4O {k:PK} {v:AV} (h:Alike s t v):v.M2 t k=v.M2 s k:=by
 cases k with
 | v u=>simp only [AV.M2,c4N h]
 | rd u=>simp only [AV.M2,c0b h]
 | R4=>cases v<;>rfl
 | X5 f n=>rfl
 | el q=>rfl
 | s4 f ts =>
  cases v<;>try rfl
  simp only [AV.M2]; rw [b6w (fun i hi=>h i (by simpa [AV.g8] using hi))]
 | own u =>
  have hg:=a1j h
  unfold AV.M2
  dsimp only
  split
  ·rfl
  ·rw [hg]
 | rw u =>
  cases v<;>try rfl
  rename_i i p; cases p<;>simp only [AV.M2,h i (by simp [AV.g8])]
 | mu u =>
  cases v<;>try rfl
  rename_i i p; cases p<;>simp only [AV.M2,h i (by simp [AV.g8])]
theorem b6x:∀ {ks:List PK} {v:AV},Alike s t v→AV.a0Z t ks v=AV.a0Z s ks v
 | [],v,_=>by cases v<;>rfl
 | k::ks,v,h=>by
  cases v<;>try rfl
  rename_i a b
  simp only [AV.a0Z,c4O (v:=a) (fun i hi=>h i (by simp [AV.g8,hi])),b6x (v:=b) (fun i hi=>h i (by simp [AV.g8,hi]))]

theorem c1V {k:PK} {v:AV} {x:k.den} {g m:List Nat} (h:v.M2 s k=some (x,g,m)):(∀ i∈g++m,v.g8 i=true)∧(k.i7=false→g=[]∧m=[]):=by
 cases k with
 | v u=>simp only [AV.M2] at h; split at h<;>cases h; simp
 | rd u=>simp only [AV.M2] at h; split at h<;>cases h; simp
 | R4=>simp only [AV.M2] at h; split at h<;>cases h; simp
 | X5 f n=>simp only [AV.M2] at h; cases h
 | el q=>simp only [AV.M2] at h; cases h
 | s4 f ts =>
  simp only [AV.M2] at h
  split at h
  ·split at h
   ·split at h<;>cases h; simp
   ·cases h
  ·cases h
 | own u =>
  refine ⟨?_,fun h=>by cases h⟩
  simp only [AV.M2] at h
  split at h
  ·split at h<;>cases h; simp
  ·split at h
   ·rename_i hg
    split at h
    ·cases h
     intro i hi
     exact a3e hg i (by simpa using hi)
    ·cases h
   ·cases h
 | rw u =>
  refine ⟨?_,fun h=>by cases h⟩
  simp only [AV.M2] at h
  split at h
  ·split at h
   ·split at h
    ·cases h; simp [AV.g8]
    ·cases h
   ·cases h
  ·cases h
 | mu u =>
  refine ⟨?_,fun h=>by cases h⟩
  simp only [AV.M2] at h
  split at h
  ·split at h
   ·split at h
    ·cases h; simp [AV.g8]
    ·cases h
   ·cases h
  ·cases h

theorem b1D:∀ {ks:List PK} {v:AV} {x:DK ks} {g m:List Nat},AV.a0Z s ks v=some (x,g,m)→(∀ i∈g++m,v.g8 i=true)∧(ks.any PK.i7=false→g=[]∧m=[])
 | [],v,x,g,m,h=>by
  cases v<;>simp only [AV.a0Z] at h<;>cases h
  simp
 | k::ks,v,x,g,m,h=>by
  cases v<;>simp only [AV.a0Z] at h<;>try (cases h; done)
  split at h
  ·rename_i h1 h2
   cases h
   obtain ⟨a1,a2⟩:=c1V h1
   obtain ⟨b1,b2⟩:=b1D h2
   refine ⟨?_,?_⟩
   ·intro i hi
    simp only [List.mem_append] at hi a1 b1
    simp only [AV.g8,Bool.or_eq_true]
    rcases hi with (hi|hi)|(hi|hi)
    ·exact .inl (a1 i (.inl hi))
    ·exact .inr (b1 i (.inl hi))
    ·exact .inl (a1 i (.inr hi))
    ·exact .inr (b1 i (.inr hi))
   ·intro ht
    simp only [List.any_cons,Bool.or_eq_false_iff] at ht
    obtain ⟨r1,r2⟩:=a2 ht.1
    obtain ⟨r3,r4⟩:=b2 ht.2
    simp [r1,r2,r3,r4]
  ·cases h

theorem a4c:∀ {parts:List (Nat×Operand)} {r:Sigma Ty.den},(∀ q∈parts,t.ev q.2=s.ev q.2∧Alike s t (s.ev q.2))→N6 t r parts=N6 s r parts
 | [],⟨_,_⟩,_=>rfl
 | (i,v)::parts,⟨u,x⟩,h=>by
  have ih:=fun r=>a4c (parts:=parts) (r:=r) (fun q hq=>h q (by simp [hq]))
  obtain ⟨h1,h2⟩:=h (i,v) (by simp)
  have h1:t.ev v=s.ev v:=h1
  have h2:=a1j h2
  have h2:(s.ev v).W8 t=(s.ev v).W8 s:=h2
  simp only [N6,h1,ih]
  split
  ·rfl
  ·split
   ·rfl
   ·rw [h2]

theorem a2v:∀ {parts:List (Nat×Operand)} {r r':Sigma Ty.den} {g:List Nat},N6 s r parts=some (r',g)→∀ i∈g,∃ q∈parts,(s.ev q.2).g8 i=true
 | [],⟨_,_⟩,r',g,h=>by simp only [N6] at h; cases h; simp
 | (j,v)::parts,⟨u,x⟩,r',g,h=>by
  simp only [N6] at h
  split at h
  ·cases h
  ·split at h
   ·split at h
    ·split at h
     ·intro i hi
      obtain ⟨q,hq,hm⟩:=a2v h i hi
      exact ⟨q,by simp [hq],hm⟩
     ·cases h
    ·cases h
   ·split at h
    ·rename_i hg
     split at h
     ·split at h
      ·rename_i hb
       cases h
       intro i hi
       rcases List.mem_append.1 hi with hi|hi
       ·exact ⟨(j,v),by simp,a3e hg i hi⟩
       ·obtain ⟨q,hq,hm⟩:=a2v hb i hi
        exact ⟨q,by simp [hq],hm⟩
      ·cases h
     ·cases h
    ·cases h

end
end Go.Ex
