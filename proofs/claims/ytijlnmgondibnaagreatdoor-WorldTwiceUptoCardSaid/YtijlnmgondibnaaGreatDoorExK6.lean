import Derived.Test.YtijlnmgondibnaaGreatDoorExK5
set_option linter.unusedVariables false
set_option linter.unusedSimpArgs false
set_option linter.unusedSectionVars false
namespace Go.Ex
section
variable {E:Env} {B:F3} {S:Nat->Prop} {ι:Ix} {s:St} {a:Act} {w:World}
def Bs (P:Program) (S:Nat->Prop) (ι:Ix) (o:Oper) (a:Act) (w:World) (s:St) (v:AV):Prop :=
 ∃ val,(∀ w',(execOp a.eval o).run P w'=.ok (.value val) w')/\VX w.heap S ι s.hp v [val]
def Ae (P:Program) (S:Nat->Prop) (ι:Ix) (o:Oper) (a:Act) (w:World) (s:St):OR->Prop
 | .fail _=>True
 | .ok v s'=>s'=s/\Bs P S ι o a w s v
 | .G6 p v s'=>p->s'=s/\Bs P S ι o a w s v
theorem yB {P:Program} {o:Oper} {sem:Sem Value} (he:execOp a.eval o=(do pure (.value (<- sem)))) {v:AV} {val:Value} (hr:∀ w',sem.run P w'=.ok val w')
  (hv:VX w.heap S ι s.hp v [val]):s=s/\Bs P S ι o a w s v:=⟨rfl,val,λ w'=>by rw [he]; simp [hr w',Result.andThen],hv⟩
theorem b2H (hE:D9 E B) (h:RS B S ι s a w) {o:Oper} {T:TypeId} {x:Operand} {n:Nat} (ho:o.op=.fieldAddr T x n):Ae E.P S ι o a w s (n6 E o s):=by
 have he:execOp a.eval o=(do pure (.value (<- Instr.fieldAt T (a.eval x) n))):=by simp [execOp,ho]
 unfold n6;rw [ho];simp only
 split
 ·rename_i i p hx
  split
  ·rename_i u z cV
   split
   ·rename_i r hc gK
    obtain ⟨e,b,off,h1,h2,h3,h4⟩:=D0 h hx;have hg:=I5 h1 cV;have h4:a.eval x=.pointer (some ⟨b,off,none⟩):=by simpa using h4
    obtain ⟨u2,z2⟩:=r;exact yB he (λ _=>by rw [h4]; exact AM (E1 hE hc) gK b off) ⟨e,b,off+S7 u n,h1,X8 hg h2 (yq gK),CD hg h3 (λ G=>yG gK),rfl⟩
   ·trivial
  ·trivial
 ·rename_i t y hx
  split
  ·rename_i u z hc hg
   obtain ⟨b,off,e,h1,h2,h3⟩:=D0 h hx;have e:a.eval x=.pointer (some ⟨b,off,none⟩):=by simpa using e
   have aK:=yq hg;obtain ⟨O1,O2,b',ar,e1,e2,e3,e4,e5,e6⟩:=focus h3 h2 aK hg
   have hO:O1=[]/\O2=[]:=by have:=e1.nil_eq; simpa using this.symm
   rw [yG hg] at e3; cases e3;refine yB he (λ _=>by rw [e]; exact AM (E1 hE hc) hg b off) ⟨b,off+S7 t n,rfl,h1,e5,?_⟩;rw [hO.2] at e4; exact e4
  ·trivial
 ·rename_i t y hx
  split
  ·rename_i u z hc hg
   intro hy;obtain ⟨b,off,e,h1,h2,h3⟩:=Ev (D0 h hx) hy;have e:a.eval x=.pointer (some ⟨b,off,none⟩):=by simpa using e
   have aK:=yq hg;obtain ⟨O1,O2,b',ar,e1,e2,e3,e4,e5,e6⟩:=focus h3 h2 aK hg
   have hO:O1=[]/\O2=[]:=by have:=e1.nil_eq; simpa using this.symm
   rw [yG hg] at e3; cases e3;refine yB he (λ _=>by rw [e]; exact AM (E1 hE hc) hg b off) ⟨b,off+S7 t n,rfl,h1,e5,?_⟩;rw [hO.2] at e4; exact e4
  ·trivial
 ·trivial
theorem b2D (hE:D9 E B) (h:RS B S ι s a w) {o:Oper} {T:TypeId} {x y:Operand} (ho:o.op=.indexAddr T x y):Ae E.P S ι o a w s (n6 E o s):=by
 have he:execOp a.eval o=(do pure (.value (<- Instr.indexAt T (a.eval x) (a.eval y)))):=by simp [execOp,ho]
 unfold n6;rw [ho];simp only
 split
 ·rename_i d p k n hx hy
  split
  ·rename_i m u z cV
   split
   ·rename_i hc
    intro hn;obtain ⟨e,b,off,h1,h2,h3,h4⟩:=D0 h hx;have hg:=I5 h1 cV;have h4:a.eval x=.pointer (some ⟨b,off,none⟩):=by simpa using h4
    obtain ⟨dL,_⟩:=VX.I6 (D0 h hy);exact yB he (λ _=>by rw [h4,dL]; exact FH (E1 hE hc) b off hn) ⟨e,b,off+n.toNat*u.size,h1,X8 hg h2 ⟨hn,O6⟩,CD hg h3 (λ G=>by simp only [C2,C3]),rfl⟩
   ·trivial
  ·trivial
 ·rename_i m t z k n hx hy
  split
  ·rename_i hc
   intro hn;obtain ⟨b,off,e,h1,h2,h3⟩:=D0 h hx;have e:a.eval x=.pointer (some ⟨b,off,none⟩):=by simpa using e
   obtain ⟨dL,_⟩:=VX.I6 (D0 h hy);have aK:B8 (.arr m t) z [.idx n]:=⟨hn,by cases t<;>trivial⟩;have hg:j9 (.arr m t) z [.idx n]=some ⟨t,List.getD z (Int.toNat n) t.s8⟩:=by simp only [j9]
   obtain ⟨O1,O2,b',ar,e1,e2,e3,e4,e5,e6⟩:=focus h3 h2 aK hg
   have hO:O1=[]/\O2=[]:=by have:=e1.nil_eq; simpa using this.symm
   have e3':C2 w.heap (.arr m t) [.idx n] b off=some (b,off+Int.toNat n*t.size):=by simp only [C2]
   rw [e3'] at e3; cases e3;refine yB he (λ _=>by rw [e,dL]; exact FH (E1 hE hc) b off hn) ⟨b,off+Int.toNat n*t.size,rfl,h1,e5,?_⟩;rw [hO.2] at e4; exact e4
  ·trivial
 ·rename_i t z k n hx hy
  split
  ·rename_i hc
   intro hn;obtain ⟨cs,e,hR⟩:=D0 h hx;have e:a.eval x=s5 (.d8 false t) cs:=by simpa using e
   obtain ⟨dL,_⟩:=VX.I6 (D0 h hy);rcases hR with ⟨_,_,hz⟩|⟨b1,o1,cap,O',c1,c2,c3,c4,c5,c6,c7,c8⟩
   ·subst hz; exact (Ej hn).elim
   ·have gw:a.eval x=.slice (some ⟨b1,o1,none⟩) (List.length z) cap:=by rw [e,c1]; rfl
    obtain ⟨b1',b2,b3,b4⟩:=E7 (sz:=t.size) hn;obtain ⟨P1,P2,P3,e1,g1,g2,g3⟩:=j6.split (d:=t.s8) (i:=Int.toNat n) b1' c5;have hle:t.size<=List.length z*t.size - Int.toNat n*t.size:=by omega
    rw [o6,n8 _ _ _ _ hle] at g2;have hP:P2=[]:=by rw [c7] at e1; have:=List.append_eq_nil_iff.1 e1.symm; exact (List.append_eq_nil_iff.1 this.2).1
    refine yB he (λ _=>by rw [gw,dL]; exact V9 (E1 hE hc) b1 o1 _ cap hn) ⟨b1,o1+Int.toNat n*t.size,rfl,c8,by omega,?_⟩;rw [hP] at g2; exact g2
  ·trivial
 ·rename_i d p k n hx hy
  split
  ·rename_i u z cV
   split
   ·rename_i hc
    intro hn;obtain ⟨e,u',y',cs,h1,h2,h3,h4,h5⟩:=D0 h hx;have hg:=I5 h1 cV;rw [h3] at hg; cases hg;obtain ⟨dL,_⟩:=VX.I6 (D0 h hy);have h5:a.eval x=s5 (.d8 true u) cs:=by simpa using h5
    obtain ⟨O2,m1,m2,m3⟩:=H4 h.hs h1 h2 h3 h4;rcases m3 with ⟨_,_,hz⟩|⟨b1,o1,cap,O',rfl,c2,c3,c4,c5,c6,c7⟩
    ·subst hz; exact (Ej hn).elim
    ·have gw:a.eval x=.slice (some ⟨b1,o1,none⟩) (List.length z) cap:=h5
     obtain ⟨b0,off0,q1,q2⟩:=h4;have hh:=(R0 b0 off0 _).1 q2.symm;refine yB he (λ _=>by rw [gw,dL]; exact V9 (E1 hE hc) b1 o1 _ cap hn) ⟨e,b1,o1+n.toNat*u.size,h1,X8 h3 h2 ⟨hn,O6⟩,wi (AN h3 q1 ?_) c7.free.lt,rfl⟩;simp only [C2,hh,C3]
   ·trivial
  ·trivial
 ·rename_i d p lo hi k n hx hy
  split
  ·rename_i u l ed
   split
   ·rename_i hc
    intro hn;have fq:@LE.le Int Int.instLEInt 0 n:=hn.1;have mb:@LT.lt Int Int.instLTInt n (hi - lo):=hn.2;obtain ⟨A,c,k1,k2,k3,k4,k5,e,k6,k7,k8⟩:=Et h.hs (D0 h hx) ed;obtain ⟨dL,_⟩:=VX.I6 (D0 h hy);have hz:l≠[]:=by rintro rfl; have k3:((0:Nat):Int)=hi - lo:=k3; omega
    obtain ⟨b,off,rfl,k9⟩:=k8 hz;obtain ⟨off2,q1,rfl,q3⟩:=k9 n hn.1 (by omega);exact yB he (λ _=>by rw [k1,dL]; exact V9 (E1 hE hc) b off _ c (by omega)) ⟨e,b,_,k6,q3,q1,rfl⟩
   ·trivial
  ·trivial
 ·trivial
theorem b4I (_hE:D9 E B) (h:RS B S ι s a w) {o:Oper} {x:Operand} (ho:o.op=.nilCheck x):Ae E.P S ι o a w s (n6 E o s):=by
 unfold n6; rw [ho];simp only
 split
 ·rename_i i p hx
  obtain ⟨e,b,off,h1,h2,h3,h4⟩:=D0 h hx;have h4:a.eval x=.pointer (some ⟨b,off,none⟩):=by simpa using h4
  exact ⟨rfl,.pointer (some ⟨b,off,none⟩),λ w'=>by simp only [execOp,ho,h4]; rfl,e,b,off,h1,h2,h3,rfl⟩
 ·rename_i t y hx
  obtain ⟨b,off,e,h1,h2,h3⟩:=D0 h hx;have e:a.eval x=.pointer (some ⟨b,off,none⟩):=by simpa using e
  exact ⟨rfl,.pointer (some ⟨b,off,none⟩),λ w'=>by simp only [execOp,ho,e]; rfl,b,off,rfl,h1,h2,h3⟩
 ·rename_i t y hx
  intro hy;obtain ⟨b,off,e,h1,h2,h3⟩:=Ev (D0 h hx) hy;have e:a.eval x=.pointer (some ⟨b,off,none⟩):=by simpa using e
  exact ⟨rfl,.pointer (some ⟨b,off,none⟩),λ w'=>by simp only [execOp,ho,e]; rfl,b,off,rfl,h1,h2,h3⟩
 ·rename_i f t y hx
  intro hy;have hv:=D0 h hx;obtain ⟨p,e,-⟩:=Jx hv hy;exact ⟨rfl,a.eval x,λ w'=>by simp only [execOp,ho,e]; rfl,hv⟩
 ·rename_i f l hx
  obtain ⟨us,e,h1⟩:=D0 h hx;have e:a.eval x=.func (.func f) #[] us.toArray:=by simpa using e
  exact ⟨rfl,.func (.func f) #[] us.toArray,λ w'=>by simp only [execOp,ho,e]; rfl,us,rfl,h1⟩
 ·rename_i g b hx
  intro hb;have hv:=HH h hx;have hb:b=true:=hb;subst hb;exact ⟨rfl,.func (.func g) #[] #[],λ w'=>by simp only [execOp,ho,hv]; rfl,[fnV g true],rfl,rfl,rfl⟩
 ·trivial
theorem Cp (hE:D9 E B) (h:RS B S ι s a w) {o:Oper} (ho:Al o.op=true):Ae E.P S ι o a w s (n6 E o s):=by
 unfold Al at ho;split at ho
 ·rename_i e; exact b2H hE h e
 ·rename_i e; exact b2D hE h e
 ·rename_i e; exact b4I hE h e
 ·cases ho
end
section
variable {S:Nat->Prop} {H H':Array Go.Obj}
theorem sib {t:Ty} {O:List Nat} {b off:Nat} {x:t.den} (hR:i6 H S t O (e8 H b off t.size) x) (hb:off+t.size<=(x8 H b).length) (hc:e8 H' b off t.size=e8 H b off t.size) (hO:∀ c∈O,H'[c]?=H[c]?)
  {q:List Step} (ho:B8 t x q) {u:Ty} {y:u.den} (hg:j9 t x q=some ⟨u,y⟩) {b' ar:Nat} (hn:C2 H t q b off=some (b',ar)):C2 H' t q b off=some (b',ar)/\e8 H' b' ar u.size=e8 H b' ar u.size :=
 ⟨(zo hR hb ho hc hO).trans hn,zi hR hb ho hc hO hg hn⟩
theorem Wf:∀ {t:Ty} {p:List Step} {b off:Nat} {O1:List Nat} {x:t.den},x7 H S t p b off O1 x->off+t.size<=(x8 H b).length->e8 H' b off t.size=e8 H b off t.size->(∀ c∈O1,H'[c]?=H[c]?) ->
  ∀ {u0:Ty} {y0:u0.den},j9 t x p=some ⟨u0,y0⟩->∀ {b0 off0:Nat},C2 H t p b off=some (b0,off0) ->
  (∀ {q:List Step},B8 u0 y0 q->∀ {u:Ty} {y:u.den},j9 u0 y0 q=some ⟨u,y⟩->∀ {b' ar:Nat},C2 H u0 q b0 off0=some (b',ar)->C2 H' u0 q b0 off0=some (b',ar)/\e8 H' b' ar u.size=e8 H b' ar u.size) ->
  ∀ {q:List Step},B8 t x q->∀ {u:Ty} {y:u.den},j9 t x q=some ⟨u,y⟩->∀ {b' ar:Nat},C2 H t q b off=some (b',ar)->C2 H' t q b off=some (b',ar)/\e8 H' b' ar u.size=e8 H b' ar u.size:=by
 intro t;have here:∀ {t:Ty} {x:t.den} {b off:Nat},e8 H' b off t.size=e8 H b off t.size->∀ {u:Ty} {y:u.den},j9 t x []=some ⟨u,y⟩->∀ {b' ar:Nat},C2 H t [] b off=some (b',ar)->C2 H' t [] b off=some (b',ar)/\e8 H' b' ar u.size=e8 H b' ar u.size:=by
  intro t x b off hc u y hg b' ar hn;rw [C9] at hg; cases hg;rw [C3] at hn; cases hn;exact ⟨C3 ..,hc⟩
 induction t with
 | pair a c iha ihc =>
  intro p b off O1 x hR hb hc hO u0 y0 dI b0 off0 di hP q ho u y hg b' ar hn
  match p,hR,dI,di with
  | [],_,dI,di =>
   rw [C9] at dI; cases dI;rw [C3] at di; cases di;exact hP ho hg hn
  | .l8 0::p,⟨P1,P2,e,h1,h2⟩,dI,di =>
   subst e;simp only [Ty.size] at hb hc
   match q,ho,hg,hn with
   | [],_,hg,hn=>exact here hc hg hn
   | .l8 0::q,ho,hg,hn=>exact iha h1 (by omega) (xP hc (by omega) (by omega)) (λ c hc=>hO c (by simp [hc])) dI di hP ho hg hn
   | .l8 (m+1)::q,ho,hg,hn=>exact sib h2 (by omega) (xP hc (by omega) (by omega)) (λ c hc=>hO c (by simp [hc])) (q:=.l8 m::q) ho hg hn
   | .idx i::q,ho,_,_=>simp [B8] at ho
  | .l8 (n+1)::p,⟨P1,P2,e,h1,h2⟩,dI,di =>
   subst e;simp only [Ty.size] at hb hc
   match q,ho,hg,hn with
   | [],_,hg,hn=>exact here hc hg hn
   | .l8 0::q,ho,hg,hn=>exact sib h1 (by omega) (xP hc (by omega) (by omega)) (λ c hc=>hO c (by simp [hc])) (q:=q) ho hg hn
   | .l8 (m+1)::q,ho,hg,hn=>exact ihc h2 (by omega) (xP hc (by omega) (by omega)) (λ c hc=>hO c (by simp [hc])) dI di hP (q:=.l8 m::q) ho hg hn
   | .idx i::q,ho,_,_=>simp [B8] at ho
  | .idx i::p,hR,_,_=>simp [x7] at hR
 | arr n t ih =>
  intro p b off O1 x hR hb hc hO u0 y0 dI b0 off0 di hP q ho u y hg b' ar hn
  match p,hR,dI,di with
  | [],_,dI,di =>
   rw [C9] at dI; cases dI;rw [C3] at di; cases di;exact hP ho hg hn
  | .l8 i::p,hR,_,_=>simp [x7] at hR
  | .idx i::p,⟨hl,hi,P1,P2,P3,e,h1,h2,h3⟩,dI,di =>
   subst e;obtain ⟨b1,b2,b3,b4⟩:=E7 (sz:=t.size) hi;simp only [Ty.size] at hb hc
   match q,ho,hg,hn with
   | [],_,hg,hn=>exact here hc hg hn
   | .l8 j::q,ho,_,_=>simp [B8] at ho
   | .idx j::q,⟨hj,ho⟩,hg,hn =>
    obtain ⟨d1,d2,d3,d4⟩:=E7 (sz:=t.size) hj;simp only [C2] at hn ⊢;simp only [j9] at hg;have hY:e8 H' b (off+j.toNat*t.size) t.size=e8 H b (off+j.toNat*t.size) t.size:=xP hc (by omega) (by omega);by_cases bS:i.toNat=j.toNat
    ·rw [<- bS] at ho hg hn hY ⊢
     exact ih h2 (by omega) hY (λ c hc=>hO c (by simp [hc])) dI di hP ho hg hn
    ·rcases Nat.lt_or_gt_of_ne bS with bj|fy
     ·have hd:j.toNat - (i.toNat+1)<(List.drop (i.toNat+1) x).length:=by simp only [List.length_drop]; omega
      obtain ⟨Q1,Q2,Q3,e,k1,k2,k3⟩:=j6.split (d:=t.s8) hd h3;have e1:(i.toNat+1)*t.size+(j.toNat - (i.toNat+1))*t.size=j.toNat*t.size:=by rw [<- Nat.add_mul]; congr 1; omega
      have hm:(j.toNat - (i.toNat+1))*t.size+t.size<=(n - (i.toNat+1))*t.size:=by omega
      rw [o6,n8 _ _ _ _ (by omega),Nat.add_assoc,e1] at k2;have e2:(List.drop (i.toNat+1) x).getD (j.toNat - (i.toNat+1)) t.s8=List.getD x j.toNat t.s8:=by
       simp only [List.getD_eq_getElem?_getD,List.getElem?_drop];rw [show i.toNat+1+(j.toNat - (i.toNat+1))=j.toNat from by omega]
      rw [e2] at k2;exact sib k2 (by omega) hY (λ d hd=>hO d (by rw [e]; simp [hd])) ho hg hn
     ·have hd:j.toNat<(List.take i.toNat x).length:=by simp only [List.length_take]; omega
      obtain ⟨Q1,Q2,Q3,e,k1,k2,k3⟩:=j6.split (d:=t.s8) hd h1;have hm:j.toNat*t.size+t.size<=i.toNat*t.size:=by
       rw [<- Nat.succ_mul]; exact Nat.mul_le_mul_right _ (by omega)
      rw [o6,n8 _ _ _ _ (by omega)] at k2;have e2:(List.take i.toNat x).getD j.toNat t.s8=List.getD x j.toNat t.s8:=by
       simp only [List.getD_eq_getElem?_getD,List.getElem?_take];rw [if_pos (by omega)]
      rw [e2] at k2;exact sib k2 (by omega) hY (λ d hd=>hO d (by rw [e]; simp [hd])) ho hg hn
 | d8 o t ih =>
  intro p b off O1 x hR hb hc hO u0 y0 dI b0 off0 di hP q ho u y hg b' ar hn
  match p,hR,dI,di with
  | [],_,dI,di =>
   rw [C9] at dI; cases dI;rw [C3] at di; cases di;exact hP ho hg hn
  | .l8 i::p,hR,_,_=>cases o<;>simp [x7] at hR
  | .idx i::p,hR,dI,di =>
   cases o with
   | false=>simp [x7] at hR
   | true =>
    obtain ⟨hi,c1,o1,cap,P1,P2,P3,e,e1,e2,e3,e4,e5,e6,e7⟩:=hR;subst e;obtain ⟨b1,b2,b3,b4⟩:=E7 (sz:=t.size) hi;have cT:List.length x*t.size<=cap*t.size:=Nat.mul_le_mul_right _ e2;have qj:=e4.free.x8;simp only [Ty.size] at hb hc
    match q,ho,hg,hn with
    | [],_,hg,hn=>exact here (t:=.d8 true t) hc hg hn
    | .l8 j::q,ho,_,_=>simp [B8] at ho
    | .idx j::q,⟨hj,ho⟩,hg,hn =>
     obtain ⟨d1,d2,d3,d4⟩:=E7 (sz:=t.size) hj;have lp:(x8 H' b)[off]?=some (.slice (some ⟨c1,o1,none⟩) (List.length x) cap):=by
      rw [b6K hc (j:=off) (by omega) (by omega)]; exact e1
     simp only [C2,e1] at hn di;simp only [C2,lp];simp only [j9] at hg;have hY:e8 H' c1 (o1+j.toNat*t.size) t.size=e8 H c1 (o1+j.toNat*t.size) t.size:=l6 (hO c1 (by simp)) _ _;by_cases bS:i.toNat=j.toNat
     ·rw [<- bS] at ho hg hn hY ⊢
      exact ih e6 (by omega) hY (λ c hc=>hO c (by simp [hc])) dI di hP ho hg hn
     ·rcases Nat.lt_or_gt_of_ne bS with bj|fy
      ·have hd:j.toNat - (i.toNat+1)<(List.drop (i.toNat+1) x).length:=by simp only [List.length_drop]; omega
       obtain ⟨Q1,Q2,Q3,e,k1,k2,k3⟩:=j6.split (d:=t.s8) hd e7;have f1:(i.toNat+1)*t.size+(j.toNat - (i.toNat+1))*t.size=j.toNat*t.size:=by rw [<- Nat.add_mul]; congr 1; omega
       have hm:(j.toNat - (i.toNat+1))*t.size+t.size<=(List.length x - (i.toNat+1))*t.size:=by omega
       rw [o6,n8 _ _ _ _ (by omega),Nat.add_assoc,f1] at k2;have f2:(List.drop (i.toNat+1) x).getD (j.toNat - (i.toNat+1)) t.s8=List.getD x j.toNat t.s8:=by
        simp only [List.getD_eq_getElem?_getD,List.getElem?_drop];rw [show i.toNat+1+(j.toNat - (i.toNat+1))=j.toNat from by omega]
       rw [f2] at k2;exact sib k2 (by omega) hY (λ d hd=>hO d (by rw [e]; simp [hd])) ho hg hn
      ·have hd:j.toNat<(List.take i.toNat x).length:=by simp only [List.length_take]; omega
       obtain ⟨Q1,Q2,Q3,e,k1,k2,k3⟩:=j6.split (d:=t.s8) hd e5;have hm:j.toNat*t.size+t.size<=i.toNat*t.size:=by
        rw [<- Nat.succ_mul]; exact Nat.mul_le_mul_right _ (by omega)
       rw [o6,n8 _ _ _ _ (by omega)] at k2;have f2:(List.take i.toNat x).getD j.toNat t.s8=List.getD x j.toNat t.s8:=by
        simp only [List.getD_eq_getElem?_getD,List.getElem?_take];rw [if_pos (by omega)]
       rw [f2] at k2;exact sib k2 (by omega) hY (λ d hd=>hO d (by rw [e]; simp [hd])) ho hg hn
 | _ =>
  intro p b off O1 x hR hb hc hO u0 y0 dI b0 off0 di hP q ho u y hg b' ar hn
  match p,hR,dI,di with
  | [],_,dI,di =>
   rw [C9] at dI; cases dI;rw [C3] at di; cases di;exact hP ho hg hn
  | .idx i::p,hR,_,_=>simp [x7] at hR
  | .l8 i::p,hR,_,_=>simp [x7] at hR
theorem c0i {t0:Ty} {l:List t0.den} {b off b1 o1 cap n:Nat} {Op:List Nat} (hR:i6 H S (.d8 true t0) Op (e8 H b off 1) l) (gT:∀ c∈Op,c<H.size) (aN:Op.Nodup) (hb:b<H.size) (bQ:b∉Op)
  (hh:e8 H b off 1=[.slice (some ⟨b1,o1,none⟩) l.length cap]) (h1:1<=cap) (hc:X0 H H' b1 (o1+l.length*t0.size) n) :
  ∀ {q:List Step},B8 (.d8 true t0) l q->∀ {u:Ty} {y:u.den},j9 (.d8 true t0) l q=some ⟨u,y⟩->∀ {b' ar:Nat},C2 H (.d8 true t0) q b off=some (b',ar)->C2 H' (.d8 true t0) q b off=some (b',ar)/\e8 H' b' ar u.size=e8 H b' ar u.size:=by
 intro q ho u y hg b' ar hn;rcases hR with ⟨_,⟨A,c,e,eS⟩,_⟩|⟨b2,o2,cap2,O',c1,c2,c3,c4,c5,rfl,c7⟩
 ·rw [hh] at e
  simp only [List.cons.injEq,Value.slice.injEq,and_true] at e;have:=eS rfl; omega
 ·rw [hh] at c1
  simp only [List.cons.injEq,Value.slice.injEq,Option.some.injEq,Addr.mk.injEq,and_true] at c1;obtain ⟨⟨rfl,rfl⟩,-,rfl⟩:=c1;have bG:b≠b1:=λ e=>bQ (by simp [e]);have cD:e8 H' b off 1=e8 H b off 1:=hc.cells hb (λ e=>absurd e bG)
  match q,ho,hg,hn with
  | [],_,hg,hn =>
   rw [C9] at hg; cases hg;rw [C3] at hn; cases hn;exact ⟨C3 ..,cD⟩
  | .l8 j::q,ho,_,_=>simp [B8] at ho
  | .idx j::q,⟨hj,ho⟩,hg,hn =>
   obtain ⟨d1,d2,d3,d4⟩:=E7 (sz:=t0.size) hj;have lp:=(R0 b off _).1 hh;have qc:=(R0 b off _).1 (cD.trans hh);simp only [C2,lp] at hn;simp only [C2,qc];simp only [j9] at hg;obtain ⟨P1,P2,P3,e,g1,g2,g3⟩:=j6.split (d:=t0.s8) d1 c5;subst e;rw [o6,n8 _ _ _ _ (by omega)] at g2;have cT:=c7.free.x8;have eg:List.length l*t0.size<=cap*t0.size:=Nat.mul_le_mul_right _ c2;refine sib g2 (by omega) (hc.cells (gT b1 (by simp)) (λ _=>.inl (by omega))) (λ d hd=>hc.rest d ?_ (gT d (by simp [hd]))) ho hg hn;rintro rfl;exact (List.nodup_cons.1 aN).1 (by simp [hd])
end
section
variable {E:Env} {B:F3} {S:Nat->Prop} {ι:Ix} {s:St} {a:Act} {w:World}
theorem RS.spare (h:RS B S ι s a w) {i:Nat} {e:i7} (he:look i s.hp=some e) (_hnb:e≠.M3) {w':World} (k:F9 (l7 ι i e) w w') (aX:OB w'.heap S ι i e) (bc:w'.heap.size=w.heap.size)
  (jE:∀ {q:List Step},B8 e.ty e.x q->∀ {u:Ty} {y:u.den},j9 e.ty e.x q=some ⟨u,y⟩->∀ {b off:Nat},Place w.heap ι i e q=some (b,off)->Place w'.heap ι i e q=some (b,off)/\e8 (VH w'.heap ι i e) b off u.size=e8 (VH w.heap ι i e) b off u.size) :
  RS B S ι s a w':=by
 have hold:∀ {b:Nat},((∃ j ej,j≠i/\look j s.hp=some ej/\b∈l7 ι j ej)\/S b)->w'.heap[b]?=w.heap[b]?:=by
  intro b hb;refine k.frame b (hb.elim (λ⟨j,ej,_,h1,h2⟩=>(h.hs.bl j ej h1 b h2).2.2) (h.hs.slt b)) (λ oH=>?_);rcases hb with ⟨j,ej,h0,h1,h2⟩|hb
  ·exact h.hs.dj i j e ej he h1 (Ne.symm h0) b oH h2
  ·exact (h.hs.bl i e he b oH).1 hb
 have qW:HS B S ι s.hp w':=by
  refine ⟨k.os.trans h.hs.os,k.tape.trans h.hs.tape,k.out.trans h.hs.out,by rw [bc]; exact h.hs.size,?_,λ b hb=>by rw [bc]; exact h.hs.slt b hb,h.hs.s0,h.hs.s1,?_,λ j ej hj c hc=>?_,h.hs.dj,h.hs.pin⟩
  ·intro c hc hm
   rw [k.frame c (Nat.lt_of_lt_of_le hc h.hs.size) (λ qB=>by rcases (h.hs.bl i e he c qB).2.1 with h1|h1; omega; exact hm h1)];exact h.hs.frame c hc hm
  ·intro j ej hj
   by_cases e1:j=i
   ·subst e1; rw [he] at hj; cases hj; exact aX
   ·exact (h.hs.ob j ej hj).w6 (λ b hb=>hold (hb.imp (λ hb=>⟨j,ej,e1,hj,hb⟩) id)) (λ _ h=>h)
  ·rw [bc]; exact h.hs.bl j ej hj c hc
 have im:∀ {j:Nat} {ej:i7},look j s.hp=some ej->∀ {q:List Step},B8 ej.ty ej.x q->∀ {r:Nat×Nat},Loc w.heap ι j ej q=some r->Loc w'.heap ι j ej q=some r:=by
  intro j ej hj q aK r hl;by_cases e1:j=i
  ·subst e1; rw [he] at hj; cases hj
   obtain ⟨u,y,hg⟩:=Rl aK;obtain ⟨g1,g2⟩:=D4 (b:=r.1) (off:=r.2) hl;exact wi (jE aK hg g1).1 (by rw [bc]; exact g2)
  ·exact Fi (L8 hl) (h.hs.ob j ej hj) h.hs.slt (λ b hb=>hold (.inl ⟨j,ej,e1,hj,hb⟩)) aK hl
 have iW:∀ {j:Nat} {ej:i7},look j s.hp=some ej->∀ {q:List Step},B8 ej.ty ej.x q->∀ {u:Ty} {y:u.den},j9 ej.ty ej.x q=some ⟨u,y⟩->∀ {cs:List Value},Cells w.heap ι j ej q u cs->Cells w'.heap ι j ej q u cs:=by
  intro j ej hj q aK u y hg cs hc;by_cases e1:j=i
  ·subst e1; rw [he] at hj; cases hj
   obtain ⟨b0,o0,g1,g2⟩:=hc;obtain ⟨m1,m2⟩:=jE aK hg g1;exact ⟨b0,o0,m1,g2.trans m2.symm⟩
  ·exact Lz (CA hc) (h.hs.ob j ej hj) h.hs.slt (λ b hb=>hold (.inl ⟨j,ej,e1,hj,hb⟩)) aK hg hc
 refine ⟨qW,h.dfr,h.sz,λ t v hv=>?_⟩;have:=VX.map (H':=w'.heap) (S':=S) (ι':=ι) (cK:=s.hp) (f:=λ u=>u) (λ b hb=>hold (.inr hb)) (λ _ h=>h) ?_ (h.fr t v hv)
 ·rwa [AV.map_id] at this
 ·intro u vs hu _ h
  cases u<;>simp only [AV.ref] at hu<;>try cases hu
  ·obtain ⟨e',b,off,h1,h2,h3,h4⟩:=h
   exact ⟨e',b,off,h1,h2,im h1 h2 h3,h4⟩
  ·obtain ⟨e',u,y,cs,h1,h2,h3,h4,h5⟩:=h
   exact ⟨e',u,y,cs,h1,h2,h3,iW h1 h2 h3 h4,h5⟩
  ·obtain ⟨e',v',h1,h2,h3,h4,h5,h6⟩:=h
   refine ⟨e',v',h1,h2,h3,h4,h5,?_⟩;rcases h6 with ⟨t,l,a,cap,k1,k2,k3,k4⟩|⟨n,t,l,b,off,k1,k2,k3,k4⟩
   ·exact .inl ⟨t,l,a,cap,k1,k2,iW h1 h2 k1 k3,k4⟩
   ·exact .inr ⟨n,t,l,b,off,k1,k2,im h1 h2 k3,k4⟩
def yQ (B:F3) (S:Nat->Prop) (ι:Ix) (hp:List (Nat×i7)) (g:List Nat) (i:Nat) (e:i7) (p:List Step) (t0:Ty) (l m:List t0.den) (b off:Nat) (v':Value) (w:World):Prop :=
 ∃ O',Loc w.heap ι i e p=some (b,off)/\i6 w.heap S (.d8 true t0) O' [v'] (l++m)/\O'.Nodup/\b∉O' /\
  ∀ c∈O',(¬ S c/\(B.w0.heap.size<=c\/B.M c)/\c<w.heap.size)/\(∀ j ej,j≠i->j∉g->look j hp=some ej->c∉l7 ι j ej) /\
   (c∈l7 ι i e->∃ Op,i6 w.heap S (.d8 true t0) Op (e8 w.heap b off 1) l/\c∈Op)
theorem Tg (hE:D9 E B) (h:RS B S ι s a w) {o:Oper} {c:Call} (ho:o.op=.call c) (hc:c.callee=.builtin .append) {x y:Operand} {T U:TypeId} (ha:c.args.toList=[x,y]) (fe:c.argTypes.toList=[T,U])
  (hk:(∃ e',E.P.underlying U=some (.slice e'))\/E.P.underlying U=some .string) {q:Bool} {t0:Ty} {bts:Nat} (hT:look T E.tt=some ⟨.d8 q t0,bts⟩) {i:Nat} {p:List Step} (hx:s.ev x=.at_ i p)
  {e:i7} (he:look i s.hp=some e) (ko:(∃ t x,e=.var t x)\/∃ t x j q,e=.own (.d8 true t) x/\p=.idx j::q) {l:List t0.den} (hg:j9 e.ty e.x p=some ⟨.d8 true t0,l⟩)
  {b off:Nat} (hl:Loc w.heap ι i e p=some (b,off)) {m:List t0.den} {g:List Nat} (cw:(s.ev y).vn s t0=some (⟨t0,m⟩,g)) (ew:i∉g) (_hgn:g.Nodup)
  (jb:l.length+m.length<=140737488355328) (ia:(l.length+m.length)*t0.wb<=140737488355328) :
  ∃ v' w',(execOp a.eval o).run E.P w=.ok (.value v') w'/\RS B S ι s a w'/\B8 e.ty e.x p/\yQ B S ι s.hp g i e p t0 l m b off v' w':=by
 have cL:e≠.M3:=L8 hl;obtain ⟨Og,news,k1,k2,k3,k4⟩:=IW (P:=E.P) h hk cw (h.ev y);obtain ⟨e2,u,y2,cs,r1,aK,r3,r4,r5⟩:=D0 h hx;rw [he] at r1; cases r1;rw [hg] at r3; cases r3;obtain ⟨Op,m1,mn,m2,m3,m4,m5⟩:=N5 cL (h.hs.ob i e he) h.hs.slt aK hg hl;have fD:=(h.hs.ob i e he).zw cL h.hs.slt aK hg hl m2;obtain ⟨bZ,dv⟩:=D4 hl;have cI:cs=e8 w.heap b off 1:=by
  obtain ⟨b0,off0,q1,q2⟩:=r4;rw [bZ] at q1; cases q1;rw [l6 (G8 dv)] at q2;exact q2
 have fg:e8 w.heap b off 1=[a.eval x]:=by
  have gA:(e8 w.heap b off 1).length=1:=m2.length;have r5':a.eval x=s5 (.d8 true t0) cs:=by simpa using r5
  rw [r5',cI]
  match cZ:e8 w.heap b off 1,gA with
  | [z],_=>rfl
 have m2':i6 w.heap S (.d8 true t0) Op [a.eval x] l:=by rw [<- fg]; exact m2
 have dn:p9 E.P 100 T (.d8 true t0)=true:=Eu (t:=.d8 q t0) (u:=.d8 true t0) rfl (s9 hE hT);have dE:∀ c∈Op,c∈l7 ι i e:=λ c hc=>J1 (m1 c hc);have aN:(Op++Og).Nodup:=List.nodup_append.2 ⟨mn,k3,by
  rintro c h1 c' h2 rfl;obtain ⟨j,e',j1,j2,j3⟩:=k4 c h2;exact h.hs.dj i j e e' he j2 (by rintro rfl; exact ew j1) c (dE c h1) j3⟩
 have mi:∀ c∈Og,¬ S c/\(B.w0.heap.size<=c\/B.M c)/\c<w.heap.size:=λ c hc=>by
  obtain ⟨j,e',_,j2,j3⟩:=k4 c hc;exact h.hs.bl j e' j2 c j3
 have lN:=λ c hc=>h.hs.bl i e he c (dE c hc);obtain ⟨v',w',O',q1,q2,q3,q4,q5,q6,q7⟩:=Sj dn o.type h.hs.slt m2' k1 k2 aN (λ c hc=>(List.mem_append.1 hc).elim (λ h=>⟨(lN c h).1,(lN c h).2.2⟩) (λ h=>⟨(mi c h).1,(mi c h).2.2⟩)) jb ia;have aH:c.args=#[x,y]:=by rw [<- ha]
 have eF:c.argTypes=#[T,U]:=by rw [<- fe]
 have aU:(execOp a.eval o).run E.P w=.ok (.value v') w':=by
  simp [execOp,ho,resolve,hc,invoke,builtin,aH,eF,q1]
 have gl:∀ c∈l7 ι i e,¬ S c/\c<w.heap.size:=λ c hc=>⟨(h.hs.bl i e he c hc).1,(h.hs.bl i e he c hc).2.2⟩;have bN:e8 w'.heap b off 1=[a.eval x]:=by rw [l6 (q4.frame b dv fD)]; exact fg
 obtain ⟨n2,n3⟩:=OB.same (H':=w'.heap) (h.hs.ob i e he) gl h.hs.slt ko aK hg hl q4.size m2 (λ c hc hn=>q4.frame c hc hn) (by
  show i6 w'.heap S (.d8 true t0) Op (e8 w'.heap b off 1) l;rw [bN]; exact q6)
 have tT:RS B S ι s a w':=by
  rcases q7 with q7|⟨b1,o1,cap,n,f1,f2,f3,f4,f5⟩
  ·exact h.Z5 G5.nil q7
  ·have dK:b1∈Op:=by
    rcases m2' with ⟨_,⟨A,c,e0,eS⟩,_⟩|⟨b2,o2,cap2,O2,c1,_,_,_,_,rfl,_⟩
    ·rw [f1] at e0
     simp only [List.cons.injEq,Value.slice.injEq,and_true] at e0;have:=eS rfl; omega
    ·rw [f1] at c1
     simp only [List.cons.injEq,Value.slice.injEq,Option.some.injEq,Addr.mk.injEq,and_true] at c1;rw [c1.1.1]; simp
   refine h.spare he cL (q4.mono dE) n2 f5 ?_;obtain ⟨O,hO,hR,eA,gG,pS,gy,dY⟩:=(h.hs.ob i e he).see cL h.hs.slt;obtain ⟨O1,O3,b',ar,g1,g2,g3,g4,g5,g6⟩:=focus hR eA aK hg
   have mO:=bZ;rw [I3 cL,g3] at mO; cases mO;have g4':i6 w.heap S (.d8 true t0) O3 (e8 w.heap b off 1) l:=by
    have g4:i6 (VH w.heap ι i e) S (.d8 true t0) O3 (e8 (VH w.heap ι i e) b off 1) l:=g4;rw [l6 (G8 dv)] at g4;exact (wj (λ c hc=>(h.hs.ob i e he).U5 cL (hO.mem_iff.1 (g1.mem_iff.2 (by simp [hc])))) h.hs.slt).1 g4
   obtain rfl:Op=O3:=m2.det g4';have cx:(O1++Op).Nodup:=(g1.nodup_iff).1 ((hO.nodup_iff).2 (List.nodup_cons.1 gG).2);have ic:b1<w.heap.size:=(gl b1 (dE b1 dK)).2;have bF:b1≠(VR w.heap ι i e).1:=by
    rintro rfl;exact (List.nodup_cons.1 gG).1 (hO.mem_iff.1 (g1.mem_iff.2 (by simp [dK])))
   have qJ:(VR w'.heap ι i e)=(VR w.heap ι i e):=by cases e<;>simp [VR,f5]
   have hV:∀ c,c≠b1->(VH w'.heap ι i e)[c]?=(VH w.heap ι i e)[c]?:=by
    intro c cD;have hr:∀ c,c≠b1->w'.heap[c]?=w.heap[c]?:=by
     intro c cD;rcases Nat.lt_or_ge c w.heap.size with h1|h1
     ·exact f4.rest c cD h1
     ·rw [Array.getElem?_eq_none h1,Array.getElem?_eq_none (by omega)]
    cases e with
    | own t x =>
     simp only [VH,gh];rw [Array.getElem?_push,Array.getElem?_push,f5]
     split
     ·rfl
     ·exact hr c cD
    | _=>exact hr c cD
   have tN:X0 (VH w.heap ι i e) (VH w'.heap ι i e) b1 (o1+l.length*t0.size) n:=by
    obtain ⟨arr,df,T',⟨fz,⟨z1,z2⟩,z3⟩,z4,z5⟩:=f4.at_;exact ⟨⟨arr,df,T',⟨fz,⟨(G8 ic).trans z1,z2⟩,(G8 (by omega)).trans z3⟩,z4,z5⟩,λ c cD _=>hV c cD⟩
   intro q' mU u' y' kt b' o' cK;rw [I3 cL] at cK ⊢;rw [qJ];have tI:b<(VH w.heap ι i e).size:=Nat.lt_of_lt_of_le dv xh;refine Wf g2 eA (l6 (hV _ (Ne.symm bF)) _ _) (λ c hc=>hV c ?_) hg g3 ?_ mU kt cK
   ·rintro rfl
    exact (List.nodup_append.1 cx).2.2 c hc c dK rfl
   ·have tE:e8 (VH w.heap ι i e) b off 1=[.slice (some ⟨b1,o1,none⟩) l.length cap]:=by
     rw [l6 (G8 dv),fg,f1]
    intro q2 sA u2 y2 tj b2 off2 mb;exact c0i (H':=VH w'.heap ι i e) g4 (λ c hc=>Nat.lt_of_lt_of_le (gl c (dE c hc)).2 xh) mn tI fD tE f3 tN sA tj mb
 refine ⟨v',w',aU,tT,aK,O',n3,q2,q3,?_,?_⟩
 ·intro hb
  rcases (q5 b hb).1 with h1|h1
  ·omega
  ·rcases List.mem_append.1 h1 with h1|h1
   ·exact fD h1
   ·obtain ⟨j,e',j1,j2,j3⟩:=k4 b h1
    exact h.hs.dj i j e e' he j2 (by rintro rfl; exact ew j1) b m4 j3
 ·intro c hc
  obtain ⟨f1,f2⟩:=q5 c hc;have fact:(¬ S c/\(B.w0.heap.size<=c\/B.M c)/\c<w'.heap.size)/\(∀ j ej,j≠i->j∉g->look j s.hp=some ej->c∉l7 ι j ej)/\(c∈l7 ι i e->c∈Op):=by
   rcases f1 with f1|f1
   ·exact ⟨⟨λ hs=>by have:=h.hs.slt c hs; omega,.inl (Nat.le_trans h.hs.size f1),f2⟩,λ j ej _ _ hj cD=>by have:=(h.hs.bl j ej hj c cD).2.2; omega,λ cD=>by have:=(gl c cD).2; omega⟩
   ·rcases List.mem_append.1 f1 with f1|f1
    ·have:=lN c f1
     exact ⟨⟨this.1,this.2.1,f2⟩,λ j ej hj _ du=>h.hs.dj i j e ej he du (Ne.symm hj) c (dE c f1),λ _=>f1⟩
    ·have:=mi c f1
     obtain ⟨j0,e0,j1,j2,j3⟩:=k4 c f1;exact ⟨⟨this.1,this.2.1,f2⟩,λ j ej _ gi du=>h.hs.dj j0 j e0 ej j2 du (by rintro rfl; exact gi j1) c j3,λ cD=>absurd cD (h.hs.dj j0 i e0 e j2 he (by rintro rfl; exact ew j1) c j3)⟩
  exact ⟨fact.1,fact.2.1,λ cD=>⟨Op,by rw [bN]; exact q6,fact.2.2 cD⟩⟩
theorem Cy {e:i7} {p:List Step} {r:Sigma Ty.den} (h:zY e p r=true):By e e/\((∃ t x,e=.var t x)\/∃ t x j q,e=.own (.d8 true t) x/\p=.idx j::q):=by
 unfold zY at h;split at h
 ·exact ⟨.inl ⟨_,_,_,rfl,rfl⟩,.inl ⟨_,_,rfl⟩⟩
 ·split at h
  ·exact ⟨.inr (.inl ⟨_,_,_,rfl,rfl⟩),.inr ⟨_,_,_,_,rfl,rfl⟩⟩
  ·cases h
 ·cases h
theorem yJ {a:Act} {t d:Nat} {v:Value} (h:t≠d):(a.put (some d) v).eval (.tmp t)=a.eval (.tmp t):=by
 show (a.tmps.setIfInBounds d v).getD t undef=a.tmps.getD t undef;simp only [Array.getD_eq_getD_getElem?,Array.getElem?_setIfInBounds,if_neg (Ne.symm h)]
theorem JH {a:Act} {d:Nat} {v:Value} (h:d<a.tmps.size):(a.put (some d) v).eval (.tmp d)=v:=by
 show (a.tmps.setIfInBounds d v).getD d undef=v;simp only [Array.getD_eq_getD_getElem?,Array.getElem?_setIfInBounds,if_pos h]; rfl
theorem SH (hE:D9 E B) (h:RS B S ι s a w) {g:List Nat} (cC:(g.all λ i=>!pinned i)=true) {i:Nat} (ew:i∉g) {e:i7} (he:look i s.hp=some e) {p:List Step} (aK:B8 e.ty e.x p) {t0:Ty} {l m:List t0.den} (hg:j9 e.ty e.x p=some ⟨.d8 true t0,l⟩) {b off:Nat} {v':Value}
  (hP:yQ B S ι s.hp g i e p t0 l m b off v' w) {o:Oper} {T:TypeId} {ad:Operand} {d:Nat} (ho:o.op=.store T ad (.tmp d)) (lK:a.eval ad=.pointer (some ⟨b,off,none⟩)) (hv:a.eval (.tmp d)=v') (bD:J8 E T (.d8 true t0)=true)
  {r:Sigma Ty.den} (aL:w5 e.ty e.x p (.d8 true t0) (l++m)=some r):C4 E.P B o a w (.raw undef) (((St.B0 g s).kill i e.kd p).y9 i (e.E8 r)):=by
 obtain ⟨O',hl,k5,k6,k7,k8⟩:=hP;have hd:=h.B0 (g:=g) cC;have jI:look i (St.B0 g s).hp=some e:=by rw [K0,if_neg ew]; exact he
 refine AK hE hd ho (i:=i) (e:=e) jI aK hl lK hg bD (u':=.d8 true _) (O2:=O') (cs:=[v']) k5 k6 (by rw [hv]; rfl) aL (λ c hc=>?_) k7;obtain ⟨f1,f2,f3⟩:=k8 c hc;refine ⟨f1,λ j ej hj du=>?_,f3⟩;rw [K0] at du;split at du
 ·cases du
 ·rename_i gi; exact f2 j ej hj gi du
theorem Zb (hE:D9 E B) (h:RS B S ι s a w) {o:Oper} {c:Call} (ho:o.op=.call c) (hc:c.callee=.builtin .append) {x y:Operand} {T U:TypeId} (ha:c.args.toList=[x,y]) (fe:c.argTypes.toList=[T,U])
  {o2:Oper} {T2:TypeId} {adv:AV} {ad:Operand} {d:Nat} (_ho2:o2.op=.store T2 ad (.tmp d)) {p:Prop} {s2:St} (hb:xX E T U T2 (s.ev x) (s.ev y) adv d s=some (p,s2)) (hp:p) :
  ∃ i p0 e t0 l m g r v' w',s.ev x=.at_ i p0/\adv=.ptr i p0/\look i s.hp=some e/\i∉g/\(g.all λ i=>!pinned i)=true/\j9 e.ty e.x p0=some ⟨.d8 true t0,l⟩/\J8 E T2 (.d8 true t0)=true /\
   w5 e.ty e.x p0 (.d8 true t0) (l++m)=some r/\s2=(((St.B0 g (s.put (some d) .any)).kill i e.kd p0).y9 i (e.E8 r)) /\
   (execOp a.eval o).run E.P w=.ok (.value v') w'/\RS B S ι s a w'/\B8 e.ty e.x p0/\∀ b off,Loc w.heap ι i e p0=some (b,off)->yQ B S ι s.hp g i e p0 t0 l m b off v' w':=by
 unfold xX at hb;split at hb
 ·rename_i i p0 j q q1 t0 bts u1 bts1 hx hT hU
  split at hb
  ·rename_i e aX jJ
   simp only [Bool.and_eq_true] at jJ;obtain ⟨bS,jJ⟩:=jJ;have bS:=Nat.eq_of_beq_eq_true bS;subst bS;split at hb
   ·rename_i u l hg
    split at hb
    ·rename_i t m g cw
     split at hb
     ·rename_i hu
      split at hb
      ·rename_i ht
       subst hu; subst ht;split at hb
       ·rename_i r aL
        split at hb
        ·rename_i bD
         cases hb;simp only [Bool.and_eq_true,Bool.not_eq_true'] at bD;obtain ⟨⟨⟨⟨bD,bP⟩,ew⟩,iy⟩,cC⟩:=bD;obtain ⟨rfl,jb,ia⟩:=hp;obtain ⟨_,ko⟩:=Cy bP;have ew:i∉g:=by intro hm; simp [hm] at ew
         have hk:(∃ e',E.P.underlying U=some (.slice e'))\/E.P.underlying U=some .string:=by
          cases u1<;>first|cases jJ|skip
          ·exact .inr (Y2 (s9 hE hU))
          ·obtain ⟨et,k',f1,_⟩:=H2 (s9 hE hU)
           exact .inl ⟨et,f1⟩
         have aX:look i s.hp=some e:=aX;have key:∀ b off,Loc w.heap ι i e q=some (b,off)->∃ v' w',(execOp a.eval o).run E.P w=.ok (.value v') w'/\RS B S ι s a w'/\B8 e.ty e.x q/\yQ B S ι s.hp g i e q _ l m b off v' w' :=
          λ b off hl=>Tg hE h ho hc ha fe hk hT hx aX ko hg hl cw ew (CT iy) jb ia
         obtain ⟨e2,u,y2,cs,r1,aK,r3,r4,r5⟩:=D0 h hx;rw [aX] at r1; cases r1;obtain ⟨b,off,hl⟩:=BY (h.hs.ob i e aX) h.hs.slt (Cy bP).2 aK hg;obtain ⟨v',w',k1,k2,k3,k4⟩:=key b off hl;exact ⟨i,q,e,_,l,m,g,r,v',w',hx,rfl,aX,ew,cC,hg,bD,aL,rfl,k1,k2,k3,λ b' ar eD=>by rw [hl] at eD; cases eD; exact k4⟩
        ·cases hb
       ·cases hb
      ·cases hb
     ·cases hb
    ·cases hb
   ·cases hb
  ·cases hb
 ·cases hb
theorem c1Q (hE:D9 E B) (h:RS B S ι s a w) {o:Oper} {c:Call} (ho:o.op=.call c) (hc:c.callee=.builtin .append) {x y:Operand} {T U:TypeId} (ha:c.args.toList=[x,y]) (fe:c.argTypes.toList=[T,U])
  {o2:Oper} {T2:TypeId} {ad:Operand} {d:Nat} (hd:H7 B.n (some d)=true) (iO:o2.op=.store T2 ad (.tmp d)) (lK:∀ t,ad=.tmp t->t≠d) {p:Prop} {s2:St} (hb:xX E T U T2 (s.ev x) (s.ev y) (s.ev ad) d s=some (p,s2)) (hp:p) :
  ∃ v' w',(execOp a.eval o).run E.P w=.ok (.value v') w'/\C4 E.P B o2 (a.put (some d) v') w' (.raw undef) s2:=by
 obtain ⟨i,p0,e,t0,l,m,g,r,v',w',hx,qH,aX,ew,cC,hg,bD,aL,rfl,k1,k2,k3,k4⟩:=Zb hE h ho hc ha fe iO hb hp;refine ⟨v',w',k1,?_⟩;obtain ⟨e',b,off,h1,h2,h3,h4⟩:=D0 h qH;rw [aX] at h1; cases h1;have iI:=k2.put hd (v:=.any) (val:=v') ⟨v',rfl⟩;have lI:(a.put (some d) v').eval ad=.pointer (some ⟨b,off,none⟩):=by
  have uq:a.eval ad=.pointer (some ⟨b,off,none⟩):=by simpa using h4
  rw [<- uq];cases ad with
  | tmp t=>exact yJ (lK t rfl)
  | _=>rfl
 have dH:(a.put (some d) v').eval (.tmp d)=v':=JH (by rw [h.sz]; simpa [H7,Nat.blt_eq] using hd);exact SH hE iI (g:=g) cC ew (e:=e) (by simpa [St.put] using aX) h2 hg (k4 b off h3) iO lI dH bD aL
theorem Pt {o:Oper} (ho:Al o.op=true) {a a':Act} (h:∀ t∈BF o,a'.eval (.tmp t)=a.eval (.tmp t)):execOp a'.eval o=execOp a.eval o:=by
 have cB:∀ x∈o.op.operands.toList,a'.eval x=a.eval x:=by
  intro x hx;cases x with
  | tmp t=>exact h t (List.mem_filterMap.2 ⟨.tmp t,hx,rfl⟩)
  | _=>rfl
 unfold Al at ho;split at ho
 ·rename_i e; rw [e] at cB; simp [Op.operands] at cB; simp [execOp,e,cB]
 ·rename_i e; rw [e] at cB; simp [Op.operands] at cB; simp [execOp,e,cB]
 ·rename_i e; rw [e] at cB; simp [Op.operands] at cB; simp [execOp,e,cB]
 ·cases ho
theorem QJ {a:Act} {d e:Nat} {v u:Value} (h:d≠e):(a.put (some d) v).put (some e) u=(a.put (some e) u).put (some d) v:=by
 simp only [Act.put];congr 1;apply Array.ext_getElem?;intro i;simp only [Array.getElem?_setIfInBounds,Array.size_setIfInBounds];by_cases h1:e=i
 ·subst h1; simp [h]
 ·simp [h1]
theorem TN (hE:D9 E B) (hn:B.n=E.nt) {ops:Array Oper} {Q:Exit->Act->World->Prop} {oa:Oper} {c:Call} (ho:oa.op=.call c) (hc:c.callee=.builtin .append) {x y:Operand} {T U:TypeId} (ha:c.args.toList=[x,y]) (fe:c.argTypes.toList=[T,U])
  {d:Nat} (hd:H7 B.n (some d)=true):∀ {l:List Oper} {S:Nat->Prop} {ι:Ix} {s:St} {a:Act} {w:World} {p:Prop} {s2:St} {n:Nat},RS B S ι s a w->DY E T U x y d l s=some (p,s2,n)->p ->
  ∃ v' w',(execOp a.eval oa).run E.P w=.ok (.value v') w'/\((∀ S' ι' a' w'',RS B S' ι' s2 a' w''->wpList E.P ops Q (l.drop n) a' w'')->wpList E.P ops Q l (a.put (some d) v') w')
 | [],S,ι,s,a,w,p,s2,n,_,hf,_=>by cases hf
 | o::rest,S,ι,s,a,w,p,s2,n,h,hf,hp=>by
  have aH:c.args=#[x,y]:=by rw [<- ha]
  have eF:c.argTypes=#[T,U]:=by rw [<- fe]
  unfold DY at hf;split at hf
  ·rename_i hg gL
   split at hf
   ·rename_i nC
    split at hf
    ·rename_i d1 gM
     split at hf
     ·rename_i p1 v bY hv
      split at hf
      ·rename_i p2 s3 n2 kP
       cases hf;simp only [Bool.and_eq_true,Bool.not_eq_true'] at bY;obtain ⟨⟨⟨c1,c2⟩,c3⟩,c4⟩:=bY;have bG:d1≠d:=by rintro rfl; simp at c1
       have dX:=Cp hE h nC;have dH:Bs E.P S ι o a w s v:=by
        split at hv
        ·cases hv
        ·rename_i v0 s0 e0; cases hv; rw [e0] at dX; exact dX.2
        ·rename_i q0 v0 s0 e0; cases hv; rw [e0] at dX; exact (dX hp.1).2
       obtain ⟨val,aU,dB⟩:=dH;rw [gM] at gL;have cu:=h.put (d:=some d1) (by rw [hn]; exact gL) dB;obtain ⟨v',w',g1,g2⟩:=TN hE hn ho hc ha fe hd (ops:=ops) (Q:=Q) cu kP hp.2;have ex:(a.put (some d1) val).eval x=a.eval x:=by
        cases x with
        | tmp t=>exact yJ (by rintro rfl; simp at c3)
        | _=>rfl
       have ey:(a.put (some d1) val).eval y=a.eval y:=by
        cases y with
        | tmp t=>exact yJ (by rintro rfl; simp at c4)
        | _=>rfl
       refine ⟨v',w',?_,λ hk=>?_⟩
       ·rw [<- g1]; simp [execOp,ho,resolve,hc,invoke,builtin,aH,eF,ex,ey]
       ·unfold wpList
        simp only [Region.wanted,hg,if_true];refine .inl ?_;unfold Oper.wp;have mH:(execOp (a.put (some d) v').eval o).run E.P w'=.ok (.value val) w':=by
         have sD:∀ t∈BF o,(a.put (some d) v').eval (.tmp t)=a.eval (.tmp t):=by
          intro t ht;refine yJ (λ e=>?_);rw [e] at ht;have h5:(BF o).contains d=true:=by simpa using ht
          rw [h5] at c2; cases c2
         rw [Pt nC sD]; exact aU w'
        rw [mH];show wpList E.P ops Q rest ((a.put (some d) v').put o.dst val) w';rw [gM,QJ (Ne.symm bG)];exact g2 hk
      ·cases hf
     ·cases hf
    ·cases hf
   ·split at hf
    ·rename_i T2 ad d' iO
     split at hf
     ·rename_i bY
      split at hf
      ·rename_i p1 s3 cw
       cases hf;simp only [Bool.and_eq_true] at bY;obtain ⟨c1,c2⟩:=bY;obtain rfl:=Nat.eq_of_beq_eq_true c1;obtain ⟨v',w',g1,g2⟩:=c1Q hE h ho hc ha fe hd iO (λ t e=>by subst e; rintro rfl; simp at c2) cw hp;refine ⟨v',w',g1,λ hk=>?_⟩;unfold wpList;simp only [Region.wanted,hg,if_true];refine .inl (g2 _ _ (λ S' ι' w2 val h1 h2=>?_));exact hk S' ι' _ w2 (h1.put (by rw [hn]; exact gL) h2)
      ·cases hf
     ·cases hf
    ·cases hf
  ·cases hf
theorem c0h {e:i7} {p:List Step} {r:Sigma Ty.den} (h:zY e p r=true):By e (e.E8 r):=by
 unfold zY at h;obtain ⟨r1,r2⟩:=r;split at h
 ·rename_i t x
  obtain rfl:r1=t:=of_decide_eq_true h;exact .inl ⟨r1,x,r2,rfl,rfl⟩
 ·rename_i t x
  split at h
  ·obtain rfl:r1=.d8 true t:=of_decide_eq_true h
   exact .inr (.inl ⟨t,x,r2,rfl,rfl⟩)
  ·cases h
 ·cases h
theorem OB.swap {H H1 H':Array Go.Obj} {i:Nat} {e:i7} (ho:OB H S ι i e) (bR:∀ c∈l7 ι i e,¬ S c/\c<H.size) (hS:∀ c,S c->c<H.size) {p:List Step} (hk:(∃ t x,e=.var t x)\/∃ t x j q,e=.own (.d8 true t) x/\p=.idx j::q) (aK:B8 e.ty e.x p) {u:Ty} {y:u.den} (hg:j9 e.ty e.x p=some ⟨u,y⟩)
  {b off:Nat} (hl:Loc H ι i e p=some (b,off)) (bc:H.size<=H1.size) {Op:List Nat} (gT:i6 H S u Op (e8 H b off u.size) y) (hH:∀ c,c<H.size->c∉Op->H1[c]?=H[c]?) (hc:X0 H1 H' b off u.size) (jv:H'.size=H1.size)
  {u':Ty} {z:u'.den} {O2:List Nat} (hz:i6 H' S u' O2 (e8 H' b off u'.size) z) (eW:∀ c∈O2,c<H'.size/\(c<H.size->c∈Op)) (de:O2.Nodup) {r:Sigma Ty.den} (aL:w5 e.ty e.x p u' z=some r) :
  ∃ O,(∀ c∈O,c∈ι.own i\/c∈O2)/\OB H' S (ι.D8 i O) i (e.E8 r):=by
 have he:e≠.M3:=L8 hl;have fD:=ho.zw he hS aK hg hl gT;obtain ⟨Om,m1,mn,m2,m3,m4,m5⟩:=N5 he ho hS aK hg hl;obtain ⟨O,hO,hR,hb,aN,bj,gy,dY⟩:=ho.see he hS;obtain ⟨O1,O3,b',ar,e1,e2,e3,e4,e5,e6⟩:=focus hR hb aK hg
 obtain ⟨bZ,dv⟩:=D4 hl;rw [I3 he] at bZ;rw [e3] at bZ; cases bZ;have cx:(O1++O3).Nodup:=(e1.nodup_iff).1 ((hO.nodup_iff).2 (List.nodup_cons.1 aN).2);have bq:∀ c∈O1,c∈ι.own i:=λ c hc=>hO.mem_iff.1 (e1.mem_iff.2 (by simp [hc]));have cQ:∀ c∈O3,c∈ι.own i:=λ c hc=>hO.mem_iff.1 (e1.mem_iff.2 (by simp [hc]));have bF:=(List.nodup_cons.1 aN).1;have dp:∀ c∈ι.own i,c∈l7 ι i e:=by intro c hc; cases e<;>simp [l7,hc]
 have e4':i6 H S u O3 (e8 H b off u.size) y:=by
  rw [l6 (G8 dv)] at e4;exact (wj (λ c hc=>ho.U5 he (cQ c hc)) hS).1 e4
 obtain rfl:Op=O3:=gT.det e4';have fc:∀ c∈O1,c<H.size:=λ c hc=>ho.U5 he (bq c hc);have dS:∀ c,(c=(VR H ι i e).1/\c<H.size)\/c∈O1\/S c->H1[c]?=H[c]?:=by
  rintro c (⟨rfl,h1⟩|h1|h1)
  ·exact hH _ h1 (λ h=>bF (cQ _ h))
  ·exact hH c (fc c h1) (λ h=>(List.nodup_append.1 cx).2.2 c h1 c h rfl)
  ·exact hH c (hS c h1) (λ h=>(bR c (dp c (cQ c h))).1 h1)
 have jX:(∃ t x,e=.var t x)->(VR H ι i e).1<H.size:=by rintro ⟨t,x,rfl⟩; exact bj
 obtain ⟨n1,n2⟩:=x7.move (H':=H1) hk e2 fc hS bc dS jX;have cX:(VR H1 ι i e).2+e.ty.size<=(x8 (VH H1 ι i e) (VR H1 ι i e).1).length/\(VR H1 ι i e).1<(VH H1 ι i e).size/\¬ S (VR H1 ι i e).1/\(VR H1 ι i e).1∉O1:=by
  rcases hk with ⟨t,x,rfl⟩|⟨t,x,j,q,rfl,rfl⟩
  ·have hr:=jX ⟨_,_,rfl⟩
   refine ⟨?_,Nat.lt_of_lt_of_le hr bc,(bR _ (by simp [l7,VR])).1,λ h=>bF (bq _ h)⟩;have:=Q4 (dS _ (.inl ⟨rfl,hr⟩));show (VR H ι i (.var t x)).2+_<=(x8 H1 (VR H ι i (.var t x)).1).length;rw [this]; exact hb
  ·refine ⟨?_,by simp [VH,VR,BK],λ h=>by have:=hS _ h; simp only [VR] at this; omega,λ h=>by have:=fc _ h; simp only [VR] at this; omega⟩
   simp only [VH,VR,wx] at hb ⊢; exact hb
 have pX:∀ c∈O2,c<H'.size:=λ c hc=>(eW c hc).1;have rJ:∀ c,S c->c<H'.size:=λ c hc=>by have:=hS c hc; omega
 have iB:i6 (VH H' ι i e) S u' O2 (e8 (VH H' ι i e) b off u'.size) z:=by
  rw [l6 (G8 (by omega))];exact (wj pX rJ).2 hz
 obtain ⟨O4,f1,f2,f3⟩:=BO n1 hg (n2.trans e3) cX.1 cX.2.1 (List.nodup_append.1 cx).1 cX.2.2.2 (λ c hc=>⟨(bR c (dp c (bq c hc))).1,Nat.lt_of_lt_of_le (fc c hc) (Nat.le_trans bc xh)⟩) cX.2.2.1
  (λ c hc=>Nat.lt_of_lt_of_le (hS c hc) (Nat.le_trans bc xh)) (λ _ h=>h) (Bt hc jv) iB aL
 have ik:O4.Nodup:=(f1.nodup_iff).2 (List.nodup_append.2 ⟨(List.nodup_append.1 cx).1,de,by
  rintro c h1 d h2 rfl;exact (List.nodup_append.1 cx).2.2 c h1 c ((eW c h2).2 (fc c h1)) rfl⟩)
 have bU:∀ c∈O4,c∈ι.own i\/c∈O2:=by
  intro c hc;rcases List.mem_append.1 (f1.mem_iff.1 hc) with h|h
  ·exact .inl (bq c h)
  ·exact .inr h
 have la:∀ c∈O4,c<H'.size:=by
  intro c hc;rcases bU c hc with h|h
  ·have:=ho.U5 he h; omega
  ·exact (eW c h).1
 have f2':=(wj la rJ).1 f2;refine ⟨O4,bU,?_⟩;cases e with
 | var t x =>
  simp only [i7.E8,OB,Ix.D8,if_true];obtain ⟨_,hf,_⟩:=ho;refine ⟨⟨O4,List.Perm.refl _,f2'⟩,?_,?_⟩
  ·rw [G7 f3]; exact hc.free (hf.w6 (dS _ (.inl ⟨rfl,jX ⟨_,_,rfl⟩⟩)))
  ·refine List.nodup_cons.2 ⟨λ h=>?_,ik⟩
   rcases bU _ h with h1|h1
   ·exact bF h1
   ·exact bF (cQ _ ((eW _ h1).2 (jX ⟨_,_,rfl⟩)))
 | own t x =>
  simp only [i7.E8,OB,Ix.D8,if_true];refine ⟨⟨O4,List.Perm.refl _,?_⟩,ik⟩;obtain ⟨⟨O',_,fL⟩,_⟩:=ho;have fS:r.1.size=t.size:=G7 f3;have:e8 (VH H' ι i (.own t x)) (VR H1 ι i (.own t x)).1 (VR H1 ι i (.own t x)).2 r.1.size=ι.cells i:=by
   simp only [VH,VR];rw [<- jv];simp only [e8,wx,List.drop_zero];exact List.take_of_length_le (by rw [fL.length,fS]; exact Nat.le_refl _)
  rw [this] at f2';exact f2'
 | M3=>exact absurd rfl he
def wT (P:Program) (o:Oper) (a:Act) (w:World) (R:Value->World->Prop):Prop :=
 ∃ g vs,(execOp a.eval o).run P w=.ok (.enter g vs) w/\Calls P g vs w (λ e w'=>∃ v,e=.returned v/\R v w')
theorem wT.wp {P:Program} {o:Oper} {R:Value->World->Prop} (h:wT P o a w R) {next:Act->World->Prop} {Q:Exit->Act->World->Prop} (hn:∀ v w',R v w'->next (a.put o.dst v) w'):o.wp P a w next Q:=by
 obtain ⟨g,vs,h1,h2⟩:=h;unfold Oper.wp;rw [h1];refine Calls.mono h2 ?_;rintro e w' ⟨v,rfl,hr⟩;exact hn v w' hr
theorem wT.mono {P:Program} {o:Oper} {R R':Value->World->Prop} (h:wT P o a w R) (hr:∀ v w',R v w'->R' v w'):wT P o a w R':=by
 obtain ⟨g,vs,h1,h2⟩:=h;exact ⟨g,vs,h1,h2.mono (λ e w' ⟨v,e1,k⟩=>⟨v,e1,hr v w' k⟩)⟩
theorem over_self {cur:List Value} {off n:Nat} (h:off+n<=cur.length):over cur off ((cur.drop off).take n)=cur:=by
 rw [over,List.length_take,List.length_drop,Nat.min_eq_left (by omega),List.append_assoc]
 conv=>rhs; rw [<- List.take_append_drop off cur,<- List.take_append_drop n (cur.drop off)]
 rw [List.drop_drop]
theorem Zd (h:RS B S ι s a w) {i:Nat} {e:i7} (aX:look i s.hp=some e) {p:List Step} (aK:B8 e.ty e.x p) {t:Ty} {l:(Ty.d8 true t).den} (hg:j9 e.ty e.x p=some ⟨.d8 true t,l⟩) {b off:Nat} (hl:Loc w.heap ι i e p=some (b,off))
  {Op:List Nat} (gT:i6 w.heap S (.d8 true t) Op (e8 w.heap b off (Ty.d8 true t).size) l) (kE:∀ c∈Op,c∈ι.own i) {ks:List PK} {ys:List Operand} {y:DK ks} (hy:Bi s ks i e p t ys=some (y,[],[])) :
  ∃ S1:Nat->Prop,(∀ b,S b->S1 b)/\(∀ b,S1 b->b<w.heap.size)/\(∀ c∈Op,¬ S1 c)/\V0 w.heap S1 ks (ys.map a.eval) y []:=by
 have dE:∀ c∈Op,c∈l7 ι i e:=λ c hc=>J1 (kE c hc);have fin:∀ {ι':Ix} {s0:St},RS B S ι' s0 a w->AV.vk s0 ks (s0.K5 ys)=some (y,[],[])->(∀ j ej,j∈T6.loose ks (s0.K5 ys)->look j s0.hp=some ej->∀ c∈Op,c∉l7 ι' j ej)->∃ S1:Nat->Prop,(∀ b,S b->S1 b)/\(∀ b,S1 b->b<w.heap.size)/\(∀ c∈Op,¬ S1 c)/\V0 w.heap S1 ks (ys.map a.eval) y []:=by
  intro ι' s0 h0 rS hd
  let S1:Nat->Prop:=λ b=>S b\/N4 ι' s0.hp (T6.loose ks (s0.K5 ys)) b
  obtain ⟨L2,qU,_,qS,_⟩:=IY (S1:=S1) h0.hs (λ b hb=>.inl hb) rS (h0.K5 ys) (by simp) (λ b hb=>.inr hb);have qT:L2=[]:=by
   rw [List.eq_nil_iff_forall_not_mem];intro b hb;obtain ⟨i,e,h1,_⟩:=qS b hb;cases h1
  subst qT;refine ⟨S1,λ _ h=>.inl h,?_,?_,qU⟩
  ·rintro b (hb|⟨j,ej,h1,h2,h3⟩)
   ·exact h0.hs.slt b hb
   ·exact (h0.hs.bl j ej h2 b h3).2.2
  ·rintro c hc (hs|⟨j,ej,r1,r2,r3⟩)
   ·exact (h.hs.bl i e aX c (dE c hc)).1 hs
   ·exact hd j ej r1 r2 c hc r3
 unfold Bi at hy;split at hy
 ·rename_i mX
  have mX:i∉T6.loose ks (s.K5 ys):=by intro hm; simp [hm] at mX
  exact fin h hy (λ j ej r1 r2 c hc r3=>h.hs.dj i j e ej aX r2 (by rintro rfl; exact mX r1) c (dE c hc) r3)
 ·split at hy
  ·rename_i u x
   split at hy
   ·rename_i r aL
    have cJ:∃ c0,e8 w.heap b off (Ty.d8 true t).size=[c0]/\Dp c0=true:=by
     rcases gT with ⟨_,⟨a1,c1,e1,_⟩,_⟩|⟨b1,o1,cap1,O1,e1,_⟩
     ·exact ⟨_,e1,rfl⟩
     ·exact ⟨_,e1,rfl⟩
    obtain ⟨c0,eS,oq⟩:=cJ;obtain ⟨ι',⟨O,rfl,hO⟩,h0⟩:=h.Eg aX aK hg hl (u':=.hole t) (z:=([]:List t.den)) (cs:=[c0]) (O2:=[]) (λ H' _ _=>⟨rfl,c0,rfl,oq⟩) rfl List.nodup_nil (by simp) aL (by intro h; cases h);have hw:w.setRow b (over (x8 w.heap b) off [c0]).toArray=w:=by
     obtain ⟨O2,m1,m2,m3,m4,m5,arr,T,⟨fz,e1,_⟩,hn⟩:=N5 (L8 hl) (h.hs.ob i _ aX) h.hs.slt aK hg hl;have hb:x8 w.heap b=arr.toList:=by simp only [x8,e1]
     have:over (x8 w.heap b) off [c0]=x8 w.heap b:=by
      rw [<- eS]; exact over_self m4
     rw [this,hb]; exact setRow_self w b arr T fz (by simpa using e1)
    rw [hw] at h0;refine fin h0 hy (λ j ej r1 r2 c hc r3=>?_);simp only [St.y9,o7] at r2;by_cases hj:j=i
    ·subst hj
     rw [if_pos rfl] at r2; cases r2;have r3:c∈(ι.root j).1::(ι.D8 j O).own j:=r3;simp only [Ix.D8,if_true] at r3;refine (List.mem_cons.1 r3).elim (λ g3=>?_) (λ g3=>?_)
     ·obtain ⟨_,_,aN⟩:=h.hs.ob j _ aX
      exact (List.nodup_cons.1 aN).1 (g3▸kE c hc)
     ·rcases (hO c g3).2 with h9|h9
      ·cases h9
      ·exact h9 Op gT hc
    ·rw [if_neg hj] at r2
     rw [(X7 hj O).l7] at r3;exact h.hs.dj i j _ ej aX r2 (Ne.symm hj) c (dE c hc) r3
   ·cases hy
  ·cases hy
theorem Zc {i:Nat} {e:i7} {p:List Step} {t:Ty} {ks:List PK} {ys:List Operand} {r:DK ks×List Nat×List Nat} (hy:Bi s ks i e p t ys=some r):ks.any PK.lnk=false:=by
 unfold Bi at hy;split at hy
 ·exact Ck hy
 ·split at hy
  ·split at hy
   ·exact Ck hy
   ·cases hy
  ·cases hy
theorem b8D (hE:D9 E B) (h:RS B S ι s a w) {o:Oper} {c:Call} (ho:o.op=.call c) {g:FuncId} (hf:c.callee=.value (.func g)) {x:Operand} {ys:List Operand} (ha:c.args.toList=x::ys)
  {o2:Oper} {T2:TypeId} {ad:Operand} {d:Nat} (hd:H7 B.n (some d)=true) (iO:o2.op=.store T2 ad (.tmp d)) (lK:∀ t,ad=.tmp t->t≠d) {p:Prop} {s2:St} (hb:GR E T2 g (s.ev x) ys (s.ev ad) d s=some (p,s2)) (hp:p) :
  wT E.P o a w (λ v' w'=>C4 E.P B o2 (a.put (some d) v') w' (.raw undef) s2):=by
 unfold GR at hb;split at hb
 ·rename_i t ks t' pre fn out nw i p0 j q oF hx lI
  split at hb
  ·rename_i e aX bY
   simp only [Bool.and_eq_true] at bY;obtain ⟨⟨⟨bS,kI⟩,pI⟩,qy⟩:=bY;have bS:=Nat.eq_of_beq_eq_true bS;subst bS;have kI:F6 ks=[]:=by
    revert kI;cases F6 ks with
    | nil=>intro _; rfl
    | cons a b=>intro h; cases h
   split at hb
   ·rename_i u l y hg hy
    split at hb
    ·rename_i hu
     subst hu;split at hb
     ·rename_i r aL
      split at hb
      ·rename_i fB
       cases hb;simp only [Bool.and_eq_true] at fB;obtain ⟨bD,bP⟩:=fB;obtain ⟨rfl,bg⟩:=hp;have aX:look i s.hp=some e:=aX;have cL:e≠.M3:=by rcases (Cy bP).2 with ⟨_,_,rfl⟩|⟨_,_,_,_,rfl,_⟩<;>(intro h; cases h)
       have ko:=(Cy bP).2;obtain ⟨e1,u1,y1,cs,r1,aK,r3,cI,r5⟩:=D0 h hx;rw [aX] at r1; cases r1;rw [hg] at r3; cases r3;have dH:a.eval x=s5 (.d8 true t) cs:=by simpa using r5
       obtain ⟨Op,m1,mn,kD⟩:=H4 h.hs aX aK hg cI;obtain ⟨e2,b,off,z1,z2,hl,z4⟩:=D0 h lI;rw [aX] at z1; cases z1;have z4:a.eval ad=.pointer (some ⟨b,off,none⟩):=by simpa using z4
       have hV:=hE.E4 g _ oF;obtain ⟨fnn,jN,fX,ib⟩:=hV.ent;have ir:i6 w.heap S (.d8 true t) Op (e8 w.heap b off (Ty.d8 true t).size) l:=by
        have bZ:=D4 hl;obtain ⟨b9,o9,k1,k2⟩:=id cI;rw [bZ.1] at k1; cases k1;rw [k2,l6 (G8 bZ.2)] at kD;exact kD
       obtain ⟨S1,lM,gD,qM,qU⟩:=Zd h aX aK hg hl ir m1 hy;have dE:∀ c∈Op,c∈l7 ι i e:=λ c hc=>J1 (m1 c hc);have oO:∀ b∈Op++[],¬ S1 b/\b<w.heap.size:=by
        intro b hb;have hb:b∈Op:=by simpa using hb
        exact ⟨qM b hb,(h.hs.bl i e aX b (dE b hb)).2.2⟩
       have iX:=hV.run w S1 (a.eval x::ys.map a.eval) (X3 rfl l,y) (Op++[]) gD ((hE.gb.at_ h.hs).sub lM) bg ⟨_,_,Op,[],rfl,rfl,⟨cs,dH,kD.w6 (λ _ _=>rfl) lM⟩,qU⟩ (CG (by rw [List.any_cons,Zc hy]; rfl)) (by simpa using mn) oO;refine ⟨g,(a.eval x::ys.map a.eval).toArray,?_,?_⟩
       ·have pO:fnn.body.isNone=false:=ib
        have hq:(fnn.name == "runtime.NumGoroutine")=false:=fX
        have aH:c.args.map a.eval=(a.eval x::ys.map a.eval).toArray:=by
         rw [<- Array.toList_inj,Array.toList_map,ha]; simp
        have dm:a.eval (.func g)=.func (.func g) #[] #[]:=by simp [Act.eval]
        simp only [execOp,ho,resolve,hf,dm,Deferred.ofValue,Sem.run_bind,Sem.run_pure,Result.andThen,invoke,callFunc,program];simp [Sem.run,jN,hq,pO];exact aH
       ·refine Calls.mono iX ?_
        rintro en w' ⟨us,O,Lo,S',rfl,bp,iG,jz,eN,eO,aN,hO⟩;obtain ⟨v',us',O1,O2,cs',rfl,rfl,fQ,nU,rfl,rfl⟩:=eN;refine ⟨v',rfl,?_⟩;have mj:=Y5 (show F6 (.own (.d8 true t)::ks)=[] from kI) eO;subst mj;have nU:=i6.K2 (S':=S) pI nU;have pN:O1.Nodup:=by simpa using aN
        have cj:∀ c∈O1,(w.heap.size<=c\/c∈Op)/\c<w'.heap.size:=λ c hc=>by
         obtain ⟨_,q2,q3⟩:=hO c (by simp [hc]);exact ⟨by simpa using q2,q3⟩
        have bp:F9 Op w w':=by simpa using bp
        have bR:∀ c∈l7 ι i e,¬ S c/\c<w.heap.size:=λ c hc=>⟨(h.hs.bl i e aX c hc).1,(h.hs.bl i e aX c hc).2.2⟩;obtain ⟨Om,p1,p2,p3,p4,p5,p6⟩:=N5 cL (h.hs.ob i e aX) h.hs.slt aK hg hl;have tX:Om=Op:=by
         have bZ:=D4 hl;obtain ⟨b9,o9,k1,k2⟩:=cI;rw [bZ.1] at k1; cases k1;rw [k2,l6 (G8 bZ.2)] at kD;exact p3.det kD
        subst tX;have fD:=(h.hs.ob i e aX).zw cL h.hs.slt aK hg hl p3;have dQ:=(bR b p5).2;have iS:P5 w'.heap b (off+(Ty.d8 true t).size):=p6.w6 (bp.frame b dQ fD);intro next Q hn
        have iI:=h.put (d:=some d) hd (v:=.any) (val:=v') ⟨_,rfl⟩;have nP:(a.put (some d) v').eval ad=.pointer (some ⟨b,off,none⟩):=by
         rw [<- z4];cases ad with
         | tmp t9=>exact yJ (lK t9 rfl)
         | _=>rfl
        have rZ:(a.put (some d) v').eval (.tmp d)=v':=JH (by
         rw [h.sz]; simpa [H7,Nat.blt_eq] using hd)
        have qo:∃ c1,cs'=[c1]:=by
         have:=nU.length
         match cs',this with
         | [c1],_=>exact ⟨c1,rfl⟩
        obtain ⟨c1,rfl⟩:=qo;obtain rfl:c1=v':=fQ.symm;have pg:(Ty.d8 true t').sh=(Ty.d8 true t).sh:=Cu hg aL;have aU:(execOp (a.put (some d) c1).eval o2).run E.P w'=.ok .skip (w'.setRow b (over (x8 w'.heap b) off [c1]).toArray):=by
         have so:(storeVar T2 ⟨b,off,none⟩ c1).run E.P w'=.ok () (w'.setRow b (over (x8 w'.heap b) off [c1]).toArray):=Ly (E1 hE qy) pg iS nU;simp [execOp,iO,nP,rZ,Instr.storeAt,Instr.sureAddr,so]
        unfold Oper.wp;rw [aU];obtain ⟨fm,bN⟩:=EY (w:=w') (b:=b) (off:=off) (cs:=[c1]) iS;have mA:(w'.setRow b (over (x8 w'.heap b) off [c1]).toArray).heap.size=w'.heap.size:=setRow_size;have hold:∀ c,c≠b->(w'.setRow b (over (x8 w'.heap b) off [c1]).toArray).heap[c]?=w'.heap[c]?:=λ c cD=>setRow_other cD;have jV:(w'.setRow b (over (x8 w'.heap b) off [c1]).toArray).os=w'.os/\W7 w' (w'.setRow b (over (x8 w'.heap b) off [c1]).toArray)/\(w'.setRow b (over (x8 w'.heap b) off [c1]).toArray).output=w'.output:=⟨rfl,.of rfl rfl,rfl⟩;generalize rY:w'.setRow b (over (x8 w'.heap b) off [c1]).toArray=w'' at *
        have qE:b∉O1:=λ dK=>by
         rcases (cj b dK).1 with q|q
         ·omega
         ·exact fD q
        have ml:i6 w''.heap S (.d8 true t') O1 (e8 w''.heap b off (Ty.d8 true t').size) (fn (X3 rfl l,y)).1:=by
         have:e8 w''.heap b off (Ty.d8 true t').size=[c1]:=bN;rw [this];refine nU.w6 (λ c hc=>hold c ?_) (λ _ h=>h);rintro rfl;rcases hc with hc|hc
         ·exact qE hc
         ·exact (bR c p5).1 hc
        obtain ⟨O,n1,n2⟩:=OB.swap (h.hs.ob i e aX) bR h.hs.slt ko aK hg hl bp.size p3 (λ c hc hn=>bp.frame c hc hn) fm mA ml (λ c hc=>by
         obtain ⟨q1,q2⟩:=cj c hc;exact ⟨by omega,λ bj=>q1.resolve_left (by omega)⟩) pN aL
        have kT:F9 (l7 ι i e) w w'':=by
         refine ⟨jV.1.trans bp.os,jV.2.1.trans bp.tape,jV.2.2.trans bp.out,by rw [mA]; exact bp.size,λ c hc hn=>?_⟩;rw [hold c (by rintro rfl; exact hn p5)];exact bp.frame c hc (λ qz=>hn (dE c qz))
        have cu:=iI.renew (by simpa [St.put] using aX) (c0h bP) G5.nil (L:=l7 ι i e) kT (λ b hb=>.inl hb) (λ _ h=>h) (λ _ h=>.inl h) (O':=O) n2 (λ c hc=>by
         have cZ:c∈l7 ι i e\/c∈O1:=by
          cases e with
          | var t9 x9 =>
           simp only [l7,i7.E8,Ix.D8,if_true,List.mem_cons] at hc ⊢;rcases hc with hc|hc
           ·exact .inl (.inl hc)
           ·exact (n1 c hc).imp .inr id
          | own t9 x9 =>
           simp only [l7,i7.E8,Ix.D8,if_true] at hc ⊢;exact n1 c hc
          | M3=>exact absurd rfl cL
         rcases cZ with cZ|cZ
         ·exact ⟨(bR c cZ).1,.inr cZ,by have:=(bR c cZ).2; have:=bp.size; omega⟩
         ·obtain ⟨q1,q2⟩:=cj c cZ
          have il:¬ S c:=by
           have:=(hO c (by simp [cZ])).1;exact λ hs=>this (iG c (lM c hs))
          exact ⟨il,q1.imp id (dE c),by omega⟩)
        exact hn S _ w'' undef cu rfl
      ·cases hb
     ·cases hb
    ·cases hb
   ·cases hb
  ·cases hb
 ·cases hb
theorem wT.put {P:Program} {o:Oper} {c:Call} (ho:o.op=.call c) {g:FuncId} (hf:c.callee=.value (.func g)) {d:Nat} {val:Value} (hd:∀ z∈c.args.toList,z≠.tmp d) {R:Value->World->Prop} (h:wT P o (a.put (some d) val) w R):wT P o a w R:=by
 obtain ⟨g',vs,h1,h2⟩:=h;refine ⟨g',vs,?_,h2⟩;rw [<- h1];have aH:c.args.map (a.put (some d) val).eval=c.args.map a.eval:=by
  apply Array.map_congr_left;intro z hz;cases z with
  | tmp t=>exact yJ (λ e=>hd _ (by simpa using hz) (by rw [e]))
  | _=>rfl
 have dm:(a.put (some d) val).eval (.func g)=a.eval (.func g):=rfl;simp only [execOp,ho,resolve,hf,dm,aH]
theorem TJ (hE:D9 E B) (hn:B.n=E.nt) {ops:Array Oper} {Q:Exit->Act->World->Prop} {oa:Oper} {c:Call} (ho:oa.op=.call c) {g:FuncId} (hf:c.callee=.value (.func g)) {x:Operand} {ys:List Operand} (ha:c.args.toList=x::ys)
  {d:Nat} (hd:H7 B.n (some d)=true):∀ {l:List Oper} {S:Nat->Prop} {ι:Ix} {s:St} {a:Act} {w:World} {p:Prop} {s2:St} {n:Nat},RS B S ι s a w->Eo E g x ys d l s=some (p,s2,n)->p->(∀ S' ι' a' w'',RS B S' ι' s2 a' w''->wpList E.P ops Q (l.drop n) a' w'') ->
  wT E.P oa a w (λ v' w'=>wpList E.P ops Q l (a.put (some d) v') w')
 | [],S,ι,s,a,w,p,s2,n,_,hb,_,_=>by cases hb
 | o::rest,S,ι,s,a,w,p,s2,n,h,hb,hp,hk=>by
  unfold Eo at hb;split at hb
  ·rename_i hg gL
   split at hb
   ·rename_i nC
    split at hb
    ·rename_i d1 gM
     split at hb
     ·rename_i p1 v bY hv
      split at hb
      ·rename_i p2 s3 n2 kP
       cases hb;simp only [Bool.and_eq_true,Bool.not_eq_true'] at bY;obtain ⟨⟨c1,c2⟩,c3⟩:=bY;have bG:d1≠d:=by rintro rfl; simp at c1
       have dX:=Cp hE h nC;have dH:Bs E.P S ι o a w s v:=by
        split at hv
        ·cases hv
        ·rename_i v0 s0 e0; cases hv; rw [e0] at dX; exact dX.2
        ·rename_i q0 v0 s0 e0; cases hv; rw [e0] at dX; exact (dX hp.1).2
       obtain ⟨val,aU,dB⟩:=dH;rw [gM] at gL;have cu:=h.put (d:=some d1) (by rw [hn]; exact gL) dB;have mG:=TJ hE hn ho hf ha hd (ops:=ops) (Q:=Q) cu kP hp.2 hk;refine (mG.put ho hf (λ z hz=>?_)).mono (λ v' w' hw=>?_)
       ·rw [ha] at hz
        rintro rfl;have:=List.all_eq_true.1 c3 _ hz;simp at this
       ·unfold wpList
        simp only [Region.wanted,hg,if_true];refine .inl ?_;unfold Oper.wp;have ex:execOp (a.put (some d) v').eval o=execOp a.eval o:=Pt nC (λ t ht=>yJ (by
         rintro rfl;simp [ht] at c2))
        rw [ex,aU w'];show wpList E.P ops Q rest ((a.put (some d) v').put o.dst val) w';rw [gM,QJ (Ne.symm bG)];exact hw
      ·cases hb
     ·cases hb
    ·cases hb
   ·split at hb
    ·rename_i T2 ad d' cB
     split at hb
     ·rename_i bY
      simp only [Bool.and_eq_true] at bY;obtain ⟨c1,c2⟩:=bY;obtain rfl:=Nat.eq_of_beq_eq_true c1;split at hb
      ·rename_i p2 s3 cI
       cases hb;have lK:∀ t,ad=.tmp t->t≠d':=by
        intro t e;subst e;rintro rfl;simp at c2
       refine (b8D hE h ho hf ha hd cB lK cI hp).mono (λ v' w' hw=>?_);unfold wpList;simp only [Region.wanted,hg,if_true];refine .inl (hw _ _ (λ S' ι' w2 val h1 h2=>?_));exact hk S' ι' _ w2 (h1.put (by rw [hn]; exact gL) h2)
      ·cases hb
     ·cases hb
    ·cases hb
  ·cases hb
theorem c0z {H:Array Go.Obj} {t:Ty} {y:(Ty.C6 t).den} (ch:t.shared=true) (h1:1<=y.1) (h2:y.1<=2) {O:List Nat} {cs:List Value} (hr:i6 H S (.C6 t) O cs y):i6 H S (.d8 true t) O cs y.2.1:=by
 obtain ⟨n,l,m⟩:=y
 match n,h1,h2,hr with
 | 1,_,_,hr=>exact hr
 | 2,_,_,⟨b,off,O',c1,c2,c3,c4,c5,c6⟩ =>
  obtain rfl:O'=[]:=j6.O7 (λ _ _ _ hr=>hr.O7 ch) c4;have bj:(l++m).length=l.length+m.length:=List.length_append;rw [bj,Nat.add_mul] at c3 c4;have s1:=(j6.two (λ _ _ _ hr=>hr.length) (λ _ _ _ hr=>hr.O7 ch) c4).1;rw [n8 _ _ _ _ (by omega)] at s1;exact .inr ⟨b,off,List.length l+List.length m,[],c1,by show List.length l<=_; omega,c2,by show off+List.length l*t.size<=_; omega,s1,c5,c6⟩
theorem b8E (hE:D9 E B) (hn:B.n=E.nt) (h:RS B S ι s a w) {o:Oper} {p:Prop} {s2:St} (hb:GQ E o s=some (p,s2)) (hp:p) :
  o.guard=none/\wT E.P o a w (λ v' w'=>∃ ι',RS B S ι' s2 (a.put o.dst v') w'):=by
 unfold GQ at hb; cases hb
def HJ (H:Array Go.Obj) (S:Nat->Prop) (tl:Option (FuncId×Nat)) (pre us0 vs:List Value):Prop :=
 match tl with
 | none=>vs=us0
 | some (f,k)=>k<=pre.length/\∃ b off,vs=us0++[.pointer (some ⟨b,off,none⟩)]/\S b/\off+1<=(x8 H b).length/\e8 H b off 1=[.func (.func f) #[] ((pre.take k).reverse++vs).toArray]
theorem HJ.next {H:Array Go.Obj} {tl:Option (FuncId×Nat)} {pre us0 vs:List Value} {v:Value} (h:HJ H S tl pre (v::us0) vs):∃ vs',vs=v::vs'/\HJ H S (tl.map λ q=>(q.1,q.2+1)) (v::pre) us0 vs':=by
 cases tl with
 | none=>exact ⟨us0,h,rfl⟩
 | some q =>
  obtain ⟨f,k⟩:=q;obtain ⟨hk,b,off,rfl,h1,h2,h3⟩:=h;refine ⟨_,rfl,by simpa using hk,b,off,rfl,h1,h2,?_⟩;rw [h3];simp [List.take_succ_cons]
theorem RS.slot (h:RS B S ι s a w) {t:Nat} {v:AV} (hv:VX w.heap S ι s.hp v [a.tmps.getD t (B.gd t)]):RS B S ι { s with fr:=Ex.put t v s.fr } a w:=by
 refine ⟨h.hs,h.dfr,h.sz,?_⟩;intro t' v' ht;simp only [o7] at ht;by_cases e:t'=t
 ·subst e
  rw [if_pos rfl] at ht; cases ht; exact hv
 ·rw [if_neg e] at ht; exact h.fr t' v' ht
theorem b77 (hE:D9 E B) (hn:B.n=E.nt) (hM:E.ps.any PK.l5=false->∀ b,¬ B.M b) (h:RS B S ι s a w) {o:Oper} {p:Prop} {s2:St} (hb:He E o s=some (p,s2)) (hp:p) :
  o.guard=none/\∀ (next:Act->World->Prop) (Q:Exit->Act->World->Prop),(∀ S' ι' a' w',RS B S' ι' s2 a' w'->next a' w')->o.wp E.P a w next Q:=by
 unfold He at hb; cases hb
theorem RS.Nk (h:RS B S ι s a w) {i:Nat} {u t:Ty} {y:u.den} {z:t.den} (he:look i s.hp=some (.var u y)) {O1 D:List Nat} (hp:(ι.own i).Perm (O1++D)) (p2:t.size=u.size)
  (hz:i6 w.heap (λ b=>S b\/b∈D) t O1 (e8 w.heap (ι.root i).1 (ι.root i).2 t.size) z):RS B (λ b=>S b\/b∈D) (ι.D8 i O1) ((s.xD i).y9 i (.var t z)) a w:=by
 obtain ⟨-,hf,aN⟩:=h.hs.ob i _ he;have oQ:∀ b∈D,b∈ι.own i:=λ b hb=>hp.mem_iff.2 (by simp [hb]);have kE:∀ b∈O1,b∈ι.own i:=λ b hb=>hp.mem_iff.2 (by simp [hb]);have de:(O1++D).Nodup:=(hp.nodup_iff).1 (List.nodup_cons.1 aN).2;have bF:=(List.nodup_cons.1 aN).1;have bR:=h.hs.bl i _ he;have dp:∀ b∈ι.own i,b∈l7 ι i (.var u y):=λ b hb=>by simp [l7,hb]
 have bo:∀ j,j≠i->F8 ι (ι.D8 i O1) j:=λ j hj=>X7 hj _;have bU:∀ b∈l7 (ι.D8 i O1) i (.var t z),b∈l7 ι i (.var u y)/\b∉D:=by
  intro b hb;have hb:b∈(ι.root i).1::(ι.D8 i O1).own i:=hb;simp only [Ix.D8,if_true] at hb;refine (List.mem_cons.1 hb).elim (λ e=>⟨by simp [l7,e],λ hD=>bF (e▸oQ b hD)⟩) (λ e=>⟨dp b (kE b e),λ hD=>(List.nodup_append.1 de).2.2 b e b hD rfl⟩)
 refine ⟨⟨h.hs.os,h.hs.tape,h.hs.out,h.hs.size,h.hs.frame,?_,λ b hb=>.inl (h.hs.s0 b hb),?_,?_,?_,?_,?_⟩,h.dfr,h.sz,?_⟩
 ·rintro b (hb|hb)
  ·exact h.hs.slt b hb
  ·exact (bR b (dp b (oQ b hb))).2.2
 ·rintro b (hb|hb)
  ·exact h.hs.s1 b hb
  ·rcases (bR b (dp b (oQ b hb))).2.1 with q|q
   ·exact .inr (.inl q)
   ·exact .inr (.inr q)
 ·intro j ej hj
  simp only [St.y9,o7] at hj;by_cases e1:j=i
  ·subst e1; rw [if_pos rfl] at hj; cases hj
   refine ⟨⟨O1,by simp [Ix.D8],?_⟩,?_,?_⟩
   ·exact hz
   ·rw [p2]; exact hf
   ·show ((ι.root j).1::(ι.D8 j O1).own j).Nodup
    simp only [Ix.D8,if_true];exact List.nodup_cons.2 ⟨λ h=>bF (kE _ h),(List.nodup_append.1 de).1⟩
  ·rw [if_neg e1] at hj
   exact (bo j e1).ob.2 ((h.hs.ob j ej hj).w6 (λ _ _=>rfl) (λ _ h=>.inl h))
 ·intro j ej hj b hb
  simp only [St.y9,o7] at hj;by_cases e1:j=i
  ·subst e1; rw [if_pos rfl] at hj; cases hj
   obtain ⟨q1,q2⟩:=bU b hb;obtain ⟨r1,r2,r3⟩:=bR b q1;exact ⟨λ hs=>hs.elim r1 q2,r2,r3⟩
  ·rw [if_neg e1] at hj
   rw [(bo j e1).l7] at hb;obtain ⟨r1,r2,r3⟩:=h.hs.bl j ej hj b hb;exact ⟨λ hs=>hs.elim r1 (λ hD=>h.hs.dj j i ej _ hj he e1 b hb (dp b (oQ b hD))),r2,r3⟩
 ·intro j k ej ek hj hk fH c hc
  simp only [St.y9,o7] at hj hk;by_cases e1:j=i
  ·subst e1
   rw [if_pos rfl] at hj; cases hj;rw [if_neg (Ne.symm fH)] at hk;rw [(bo k (Ne.symm fH)).l7];exact h.hs.dj j k _ ek he hk fH c (bU c hc).1
  ·rw [if_neg e1] at hj
   rw [(bo j e1).l7] at hc;by_cases e2:k=i
   ·subst e2
    rw [if_pos rfl] at hk; cases hk;exact λ cZ=>h.hs.dj j k ej _ hj he fH c hc (bU c cZ).1
   ·rw [if_neg e2] at hk
    rw [(bo k e2).l7];exact h.hs.dj j k ej ek hj hk fH c hc
 ·intro q hq
  obtain ⟨k0,⟨e',k1⟩,k2,k3⟩:=h.hs.pin q hq;refine ⟨k0,?_,k2,k3⟩;simp only [St.y9,o7];by_cases e1:q.1=i
  ·exact ⟨_,by rw [if_pos e1]⟩
  ·exact ⟨e',by rw [if_neg e1]; exact k1⟩
 ·intro t9 v hv
  simp only [St.y9,St.xD,P9,Option.map_eq_some_iff] at hv;obtain ⟨v0,fh,rfl⟩:=hv;refine VX.map (λ _ _=>rfl) (λ _ h=>.inl h) (λ v vs hr hm dB=>?_) (h.fr t9 v0 fh);unfold AV.Mm;cases ca:v.j5 i with
  | false =>
   have bG:∀ j,v.j5 j=true->j≠i:=by rintro j hj rfl; rw [ca] at hj; cases hj
   have bP:VX w.heap (λ b=>S b\/b∈D) ι s.hp v vs:=VX.grow (λ _ _=>rfl) (λ _ h=>.inl h) h.hs.slt h.hs.ob dB;exact VX.other (λ j hj=>by simp only [St.y9,o7,if_neg (bG j hj)]; rfl) (λ j hj=>bo j (bG j hj)) bP
  | true =>
   have cH:=VX.one hr dB;simp only
   split
   ·rename_i j
    have dN:i=j:=Nat.eq_of_beq_eq_true ca;subst dN;obtain ⟨ej,b2,off2,k1,k2,k3,k4⟩:=dB;rw [he] at k1; cases k1;refine ⟨.var t z,b2,off2,by simp [St.y9,o7],O6,?_,k4⟩;simp only [Loc,Place,VR,VH,C3] at k3 ⊢;exact k3
   ·exact cH
theorem RS.MR (h:RS B S ι s a w) {i:Nat} {u t:Ty} {y:u.den} {z:t.den} (he:look i s.hp=some (.var u y)) (hz:yT u t y=some z):∃ S' ι',RS B S' ι' ((s.xD i).y9 i (.var t z)) a w:=by
 obtain ⟨⟨O,hO,hR⟩,hf,aN⟩:=h.hs.ob i _ he;obtain ⟨O1,D,p1,p2,p3⟩:=Yn hz hR;refine ⟨_,_,h.Nk he (hO.symm.trans p1) p2 ?_⟩;rw [p2];exact p3 (λ b=>S b\/b∈D) (λ _ h=>.inl h) (λ _ h=>.inr h)
theorem YH {H:Array Go.Obj} {S S':Nat->Prop} {t0:Ty} {O:List Nat} {cs:List Value} {z:(Ty.C6 t0).den} (hR:i6 H S (.C6 t0) O cs z) (ch:t0.shared=true) (hD:∀ b∈O,S' b) (hS:∀ b,S b->S' b):i6 H S' (.d8 false t0) [] cs z.2.1:=by
 have h0:∀ O cs x,i6 H S t0 O cs x->O=[]:=λ O cs x h=>i6.O7 ch h;have bP:∀ {O cs l},j6 (i6 H S t0) t0.size O cs l->j6 (i6 H S' t0) t0.size [] cs l:=λ {O cs l} h=>by
  obtain rfl:=j6.O7 h0 h;exact j6.mono (L:=[]) (λ _ h=>h) (λ _ _ _ _ hr=>hr.w6 (λ _ _=>rfl) hS) h
 obtain ⟨n,l,m⟩:=z
 match n,hR with
 | 0,hR =>
  rcases hR with ⟨_,⟨a,c,h1,_⟩,h2⟩|⟨b,off,cap,O',c1,c2,c3,c4,c5,_,_,c8⟩
  ·exact .inl ⟨rfl,⟨a,c,h1,λ h=>by cases h⟩,h2⟩
  ·exact .inr ⟨b,off,cap,[],c1,c2,c3,c4,bP c5,rfl,rfl,hS b c8⟩
 | 1,hR =>
  rcases hR with ⟨_,⟨a,c,h1,_⟩,h2⟩|⟨b,off,cap,O',c1,c2,c3,c4,c5,c6,_⟩
  ·exact .inl ⟨rfl,⟨a,c,h1,λ h=>by cases h⟩,h2⟩
  ·exact .inr ⟨b,off,cap,[],c1,c2,⟨c3.1,λ h=>by cases h⟩,c4,bP c5,rfl,rfl,hD b (by rw [c6]; simp)⟩
 | n+2,⟨b,off,O',c1,c2,c3,c4,c5⟩ =>
  have hl:List.length l*t0.size<=List.length (l++m)*t0.size:=Nat.mul_le_mul_right _ (by rw [List.length_append]; omega);have c6:=(j6.two (λ _ _ _ h=>h.length) h0 c4).1;rw [n8 _ _ _ _ hl] at c6;refine .inr ⟨b,off,_,[],c1,Nat.le_add_right _ _,⟨c2.1,λ h=>by cases h⟩,Nat.le_trans (Nat.add_le_add_left hl off) c3,bP c6,rfl,rfl,?_⟩
  match n,c5 with
  | 0,c5=>exact hD b (by rw [c5.1]; simp)
  | n+1,c5=>exact hS b c5.2.2
theorem RS.UB (h:RS B S ι s a w) {i k:Nat} {u:Ty} {y:u.den} (he:look i s.hp=some (.var u y)) {p:List Step} {t0:Ty} {z:(Ty.C6 t0).den} (hg:j9 u y p=some ⟨.C6 t0,z⟩) (ch:t0.shared=true)
  {r:Sigma Ty.den} (hr:w5 u y p (.C6 t0) ((0,z.2.1,[]):Nat×(List t0.den×List t0.den))=some r) (hk:look k s.fr=some (.at_ i p)) :
  ∃ S' ι',RS B S' ι' { ((s.xD i).y9 i (.var r.1 r.2)) with fr:=Ex.put k (.val (.d8 false t0) z.2.1) ((s.xD i).y9 i (.var r.1 r.2)).fr } a w:=by
 have cL:(i7.var u y)≠.M3:=λ h=>by cases h
 obtain ⟨e2,u2,y2,cs,r1,aK,r3,r4,r5⟩:=h.fr k _ hk;rw [he] at r1; cases r1;have r3:j9 u y p=some ⟨u2,y2⟩:=r3;rw [hg] at r3; cases r3;obtain ⟨O,hO,hR,eA,aN,bj,gy,dY⟩:=(h.hs.ob i _ he).see cL h.hs.slt;obtain ⟨O1,O3,b',ar,g1,g2,g3,g4,g5,g6⟩:=focus hR eA aK hg
 obtain ⟨b0,off0,q1,q2⟩:=r4;rw [I3 cL,g3] at q1; cases q1;have kE:∀ b∈O1++O3,b∈ι.own i:=λ b hb=>hO.mem_iff.1 (g1.mem_iff.2 hb);have cx:(O1++O3).Nodup:=(g1.nodup_iff).1 ((hO.nodup_iff).2 (List.nodup_cons.1 aN).2);have bF:=(List.nodup_cons.1 aN).1;have bR:=h.hs.bl i _ he;have kl:i6 w.heap (λ b=>S b\/b∈O3) (.d8 false t0) [] cs z.2.1:=by
  rw [q2]; exact YH g4 ch (λ _ hb=>.inr hb) (λ _ hb=>.inl hb)
 have jM:P5 w.heap b' (ar+(Ty.C6 t0).size):=by
  rcases g6 with ⟨rfl,_,g7⟩|⟨_,g7⟩
  ·obtain ⟨arr,T,hl,hn⟩:=dY
   exact ⟨arr,T,hl,Nat.le_trans g7 hn⟩
  ·exact g7
 have lg:i6 w.heap (λ b=>S b\/b∈O3) (.C6 t0) [] (e8 w.heap b' ar (Ty.C6 t0).size) ((0,z.2.1,[]):Nat×(List t0.den×List t0.den)):=by
  have:=kl; rw [q2] at this; exact this
 obtain ⟨O',k1,k2,k3⟩:=BO g2 hg g3 eA bj (List.nodup_append.1 cx).1 (λ hc=>bF (kE _ (List.mem_append_left _ hc))) (λ c hc=>by
  obtain ⟨q1,q2,q3⟩:=bR c (by simp [l7,kE c (List.mem_append_left _ hc)]);exact ⟨q1,q3⟩) (bR _ (show (ι.root i).1∈(ι.root i).1::ι.own i from List.mem_cons_self)).1 h.hs.slt (λ _ hb=>.inl hb) (X0.refl jM) lg hr
 have bc:r.1.size=u.size:=G7 k3;have hD:=h.Nk he (t:=r.1) (z:=r.2) (O1:=O') (D:=O3) ((hO.symm.trans g1).trans (by
  refine List.Perm.append_right _ ?_;rw [List.append_nil] at k1; exact k1.symm)) bc k2
 refine ⟨_,_,⟨hD.hs,hD.dfr,hD.sz,λ t v hv=>?_⟩⟩;simp only [o7] at hv;by_cases e:t=k
 ·subst e
  rw [if_pos rfl] at hv; cases hv;exact ⟨cs,r5,kl⟩
 ·rw [if_neg e] at hv
  exact hD.fr t v hv
theorem RS.wC (h:RS B S ι s a w) {i:Nat} (hp:pinned i=false) (t:Ty):∃ S' ι',RS B S' ι' (s.wC i t) a w:=by
 have hl:∀ {j:Nat} {e:i7},look j (del i s.hp)=some e->look j s.hp=some e/\j≠i:=by
  intro j e hj;rw [M1] at hj;split at hj
  ·cases hj
  ·rename_i h9; exact ⟨hj,h9⟩
 have gD:∀ b,S b->(S b\/N4 ι s.hp [i] b):=λ _ h=>.inl h;refine ⟨λ b=>S b\/N4 ι s.hp [i] b,ι,⟨h.hs.os,h.hs.tape,h.hs.out,h.hs.size,h.hs.frame,?_,λ b hb=>.inl (h.hs.s0 b hb),?_,?_,?_,?_,?_⟩,h.dfr,h.sz,?_⟩
 ·rintro b (hb|⟨j,e,hj,he,hb⟩)
  ·exact h.hs.slt b hb
  ·exact (h.hs.bl j e he b hb).2.2
 ·rintro b (hb|⟨j,e,hj,he,hb⟩)
  ·exact h.hs.s1 b hb
  ·rcases (h.hs.bl j e he b hb).2.1 with q|q
   ·exact .inr (.inl q)
   ·exact .inr (.inr q)
 ·intro j e hj
  exact (h.hs.ob j e (hl hj).1).w6 (λ _ _=>rfl) gD
 ·intro j e hj b hb
  obtain ⟨r1,r2,r3⟩:=h.hs.bl j e (hl hj).1 b hb;refine ⟨λ hs=>hs.elim r1 ?_,r2,r3⟩;rintro ⟨k,ek,hk,he,lG⟩;rw [List.mem_singleton] at hk;subst hk;exact h.hs.dj j k e ek (hl hj).1 he (hl hj).2 b hb lG
 ·intro j k ej ek hj hk
  exact h.hs.dj j k ej ek (hl hj).1 (hl hk).1
 ·intro q hq
  obtain ⟨k0,⟨e',k1⟩,k2⟩:=h.hs.pin q hq;refine ⟨k0,⟨e',?_⟩,k2⟩;show look q.1 (del i s.hp)=_;rw [M1,if_neg (by rintro e1; rw [e1,hp] at k0; cases k0)]; exact k1
 ·intro t9 v hv
  simp only [St.wC,P9,Option.map_eq_some_iff] at hv;obtain ⟨v0,fh,rfl⟩:=hv;refine VX.map (λ _ _=>rfl) (λ _ h=>.inl h) (λ v vs hr hm dB=>?_) (h.fr t9 v0 fh);unfold AV.Mb;cases ca:v.j5 i with
  | false =>
   have bG:∀ j,v.j5 j=true->j≠i:=by rintro j hj rfl; rw [ca] at hj; cases hj
   have bP:VX w.heap (λ b=>S b\/N4 ι s.hp [i] b) ι s.hp v vs:=VX.grow (λ _ _=>rfl) (λ _ h=>.inl h) h.hs.slt h.hs.ob dB;exact VX.other (λ j hj=>by show look j (del i s.hp)=_; rw [M1,if_neg (bG j hj)]) (λ j hj=>F8.refl ι j) bP
  | true =>
   obtain ⟨x1,rfl⟩:=VX.one hr dB;have mh:∀ b,N4 ι s.hp v.I1 b->(S b\/N4 ι s.hp [i] b):=by
    intro b hb;obtain ⟨j,e,hj,he,jl⟩:=hb;have dN:j=i:=by
     cases v<;>simp only [AV.ref] at hr<;>try cases hr
     all_goals (simp only [AV.I1,List.mem_singleton] at hj; simp only [AV.j5] at ca; exact hj.trans (Nat.eq_of_beq_eq_true ca).symm)
    subst dN;exact .inr ⟨j,e,by simp,he,jl⟩
   simp only
   split
   ·rename_i x hx
    obtain ⟨cs,e1,e2⟩:=NZ h.hs hx dB gD mh;exact ⟨cs,by rw [e1],e2⟩
   ·split
    ·split
     ·rename_i x hx
      obtain ⟨b,off,e1,e2,e3,e4⟩:=Ik h.hs (show AV.asR s t (.ptr _ _)=some x from hx) dB gD mh;exact ⟨b,off,by rw [e1],e2,e3,e4⟩
     ·exact ⟨_,rfl⟩
    ·exact ⟨_,rfl⟩
theorem RS.xu (hM:∀ b,¬ B.M b):∀ {l:List Nat} {S:Nat->Prop} {ι:Ix} {s:St} {a:Act} {w:World},RS B S ι s a w->∃ S' ι',RS B S' ι' (s.xu l) a w
 | [],S,ι,s,a,w,h=>⟨S,ι,h⟩
 | i::l,S,ι,s,a,w,h=>by
  unfold St.xu
  split
  ·rename_i u y aX hp
   obtain ⟨S2,ι2,h2⟩:=h.wC hp (.d8 false u.sh);exact RS.xu hM h2
  ·exact RS.xu hM h
theorem c01 (hM:E.ps.any PK.l5=false->∀ b,¬ B.M b) (h:RS B S ι s a w) (o:Oper):∃ S' ι',RS B S' ι' ((AS E o s).getD s) a w:=by
 cases hd:AS E o s with
 | none=>exact ⟨S,ι,h⟩
 | some s2 =>
  show ∃ S' ι',RS B S' ι' s2 a w;unfold AS at hd;split at hd
  ·rename_i c hp ho
   split at hd
   ·split at hd
    ·split at hd
     ·rename_i i u y aX
      split at hd
      ·cases hd
      ·split at hd
       ·rename_i z hz
        cases hd;exact h.MR aX hz
       ·cases hd
     ·cases hd
    ·split at hd
     ·rename_i mP _
      cases hd;exact h.wC mP _
     ·cases hd
    ·split at hd
     ·cases hd
     ·cases hd
      exact RS.xu (hM hp) h
    ·cases hd
   ·cases hd
  ·rename_i hp ho
   split at hd
   ·split at hd
    ·rename_i mP
     cases hd;exact h.wC mP _
    ·cases hd
   ·cases hd
  ·cases hd
theorem Y8 (hM:E.ps.any PK.l5=false->∀ b,¬ B.M b):∀ {l:List (Nat×Option Ty)} {S:Nat->Prop} {ι:Ix} {s:St} {a:Act} {w:World},RS B S ι s a w->∃ S' ι',RS B S' ι' (Ao E l s) a w
 | [],S,ι,s,a,w,h=>⟨S,ι,h⟩
 | (m,none)::l,S,ι,s,a,w,h=>Y8 hM (l:=l) h
 | (m,some t)::l,S,ι,s,a,w,h=>by
  have key:∃ S' ι',RS B S' ι' (Gd E m t s) a w:=by
   unfold Gd
   split
   ·rename_i i hp _
    split
    ·rename_i u y aX
     split
     ·exact ⟨S,ι,h⟩
     ·split
      ·rename_i z hz
       exact h.MR aX hz
      ·exact ⟨S,ι,h⟩
    ·exact ⟨S,ι,h⟩
   ·rename_i i p hm
    split
    case h_2=>exact ⟨S,ι,h⟩
    unfold Mn
    split
    ·rename_i u y aX
     split
     ·rename_i t0 z hg
      split
      ·rename_i r ch hr
       have hk:look m s.fr=some (.at_ i p):=by
        unfold St.get at hm;cases hl:look m s.fr with
        | none=>rw [hl] at hm; cases hm
        | some v=>rw [hl] at hm; exact congrArg some hm
       exact h.UB aX hg ch hr hk
      ·exact ⟨S,ι,h⟩
     ·exact ⟨S,ι,h⟩
    ·exact ⟨S,ι,h⟩
   ·rename_i hm
    split
    ·rename_i u
     have hg:=h.get m;rw [hm] at hg;have hv:a.tmps.getD m (B.gd m)=Value.slice none 0 0:=by
      have:[a.tmps.getD m (B.gd m)]=[Value.slice none 0 0]:=hg;simpa using this
     exact ⟨S,ι,h.slot (t:=m) (v:=.val (.d8 false u) ([]:List u.den)) ⟨[.slice none 0 0],by rw [hv]; rfl,.inl ⟨rfl,⟨none,0,rfl,λ _=>rfl⟩,rfl⟩⟩⟩
    ·exact ⟨S,ι,h⟩
   ·exact ⟨S,ι,h⟩
  obtain ⟨S',ι',h'⟩:=key;exact Y8 hM (l:=l) h'
theorem b74 (h:RS B S ι s a w) (o:Oper):∃ ι',RS B S ι' ((DT E o s).getD s) a w:=by
 cases hd:DT E o s with
 | none=>exact ⟨ι,h⟩
 | some s' =>
  show ∃ ι',RS B S ι' s' a w;unfold DT at hd;split at hd
  ·split at hd
   ·rename_i g tx ys hc ha
    split at hd
    ·rename_i t ks rs pre fn out nw i st p oF hx
     split at hd
     ·rename_i u y aX
      split at hd
      ·rename_i v l r hg aL
       split at hd
       ·rename_i hv
        subst hv;split at hd
        ·rename_i bY
         cases hd;simp only [Bool.and_eq_true] at bY;have aX:look i s.hp=some (.var u y):=aX;have dm:=h.fr tx _ hx;obtain ⟨e1,u1,y1,cs,r1,aK,r3,cI,r5⟩:=dm;rw [aX] at r1; cases r1;have hg:j9 (i7.var u y).ty (i7.var u y).x (st::p)=some ⟨.d8 true t,l⟩:=hg;rw [hg] at r3; cases r3;obtain ⟨Op,m1,mn,kD⟩:=H4 h.hs aX aK hg cI;obtain ⟨b,off,k1,k2⟩:=id cI;have cL:(i7.var u y)≠.M3:=by intro h; cases h
         have dQ:b<w.heap.size:=by
          obtain ⟨b',ar,O2,q1,q2,q3,q4,q5,q6⟩:=(h.hs.ob i _ aX).part cL h.hs.slt aK hg;rw [q1] at k1; cases k1;rcases Nat.lt_or_ge b w.heap.size with h9|h9
          ·exact h9
          ·have q5:off+1<=(x8 w.heap b).length:=q5
           simp only [x8,Array.getElem?_eq_none h9,List.length_nil] at q5;omega
         have hl:Loc w.heap ι i (.var u y) (st::p)=some (b,off):=wi k1 dQ;have ir:i6 w.heap S (.d8 true t) Op (e8 w.heap b off (Ty.d8 true t).size) l:=by
          rw [k2,l6 (G8 dQ)] at kD;exact kD
         have cJ:∃ c0,e8 w.heap b off (Ty.d8 true t).size=[c0]/\Dp c0=true:=by
          rcases ir with ⟨_,⟨a1,c1,e1,_⟩,_⟩|⟨b1,o1,cap1,O1,e1,_⟩
          ·exact ⟨_,e1,rfl⟩
          ·exact ⟨_,e1,rfl⟩
         obtain ⟨c0,eS,oq⟩:=cJ;obtain ⟨ι',⟨O,rfl,hO⟩,h0⟩:=h.Eg aX aK hg hl (u':=.hole t) (z:=([]:List t.den)) (cs:=[c0]) (O2:=[]) (λ H' _ _=>⟨rfl,c0,rfl,oq⟩) rfl List.nodup_nil (by simp) aL (by intro h; cases h);have hw:w.setRow b (over (x8 w.heap b) off [c0]).toArray=w:=by
          obtain ⟨O2,q1,q2,q3,m4,m5,arr,T,⟨fz,e1,_⟩,hn⟩:=N5 (L8 hl) (h.hs.ob i _ aX) h.hs.slt aK hg hl;have hb:x8 w.heap b=arr.toList:=by simp only [x8,e1]
          have:over (x8 w.heap b) off [c0]=x8 w.heap b:=by
           rw [<- eS]; exact over_self m4
          rw [this,hb]; exact setRow_self w b arr T fz (by simpa using e1)
         rw [hw] at h0;have dE:∀ c∈Op,c∈l7 ι i (.var u y):=λ c hc=>J1 (m1 c hc);have hF:G5 B S (ι.D8 i O) ((s.kill i (i7.var u y).kd (st::p)).y9 i (.var r.1 r.2)).hp w Op:=by
          refine ⟨mn,λ c hc=>?_⟩;obtain ⟨z1,z2,z3⟩:=h.hs.bl i _ aX c (dE c hc);refine ⟨z1,z2,z3,λ j ej r2 r3=>?_⟩;simp only [St.y9,o7] at r2;by_cases hj:j=i
          ·subst hj
           rw [if_pos rfl] at r2; cases r2;have r3:c∈(ι.root j).1::(ι.D8 j O).own j:=r3;simp only [Ix.D8,if_true] at r3;refine (List.mem_cons.1 r3).elim (λ g3=>?_) (λ g3=>?_)
           ·obtain ⟨_,_,aN⟩:=h.hs.ob j _ aX
            exact (List.nodup_cons.1 aN).1 (g3▸m1 c hc)
           ·rcases (hO c g3).2 with h9|h9
            ·cases h9
            ·exact h9 Op ir hc
          ·rw [if_neg hj] at r2
           rw [(X7 hj O).l7] at r3;exact h.hs.dj i j _ ej aX r2 (Ne.symm hj) c (dE c hc) r3
         have h1:=h0.hold bY.2 ir hF;refine ⟨_,h1.slot (t:=tx) (v:=.at_ (1600000+tx) []) ?_⟩;have e9:[a.tmps.getD tx (B.gd tx)]=[s5 (.d8 true t) (e8 w.heap b off (Ty.d8 true t).size)]:=by
          rw [r5,k2,l6 (G8 dQ)]
         rw [e9];exact Af ir.length
        ·cases hd
       ·cases hd
      ·cases hd
     ·cases hd
    ·cases hd
   ·cases hd
  ·cases hd
theorem RS.VB (h:RS B S ι s a w) {i:Nat} {u t:Ty} {y:u.den} {z:t.den} (he:look i s.hp=some (.own u y)) (sv:∀ {O:List Nat} {cs:List Value},i6 w.heap S u O cs y->i6 w.heap S t O cs z) (dy:u.agg=t.agg) (bc:u.size=t.size) :
  RS B S ι { fr:=mapA (AV.map λ v=>match v.j5 i with|false=>v|true=>match v with|.at_ j []=>.at_ j []|_=>.any) s.fr,hp:=Ex.put i (.own t z) s.hp } a w:=by
 obtain ⟨⟨O,hO,hR⟩,aN⟩:=h.hs.ob i _ he;have lG:∀ j ej,look j (Ex.put i (.own t z) s.hp)=some ej->∃ e0,look j s.hp=some e0/\l7 ι j ej=l7 ι j e0:=by
  intro j ej hj;rw [o7] at hj;by_cases e1:j=i
  ·subst e1; rw [if_pos rfl] at hj; cases hj; exact ⟨_,he,rfl⟩
  ·rw [if_neg e1] at hj; exact ⟨_,hj,rfl⟩
 refine ⟨⟨h.hs.os,h.hs.tape,h.hs.out,h.hs.size,h.hs.frame,h.hs.slt,h.hs.s0,h.hs.s1,?_,?_,?_,?_⟩,h.dfr,h.sz,?_⟩
 ·intro j ej hj
  rw [o7] at hj;by_cases e1:j=i
  ·subst e1; rw [if_pos rfl] at hj; cases hj
   exact ⟨⟨O,hO,sv hR⟩,aN⟩
  ·rw [if_neg e1] at hj; exact h.hs.ob j ej hj
 ·intro j ej hj b hb
  obtain ⟨e0,h1,h2⟩:=lG j ej hj;rw [h2] at hb;exact h.hs.bl j e0 h1 b hb
 ·intro j k ej ek hj hk fH c hc
  obtain ⟨e0,h1,h2⟩:=lG j ej hj;obtain ⟨e3,h4,h5⟩:=lG k ek hk;rw [h2] at hc;rw [h5];exact h.hs.dj j k e0 e3 h1 h4 fH c hc
 ·intro q hq
  obtain ⟨k0,⟨e',k1⟩,k2,k3⟩:=h.hs.pin q hq;refine ⟨k0,?_,k2,k3⟩;rw [o7];by_cases e1:q.1=i
  ·exact ⟨_,by rw [if_pos e1]⟩
  ·exact ⟨e',by rw [if_neg e1]; exact k1⟩
 ·intro t9 v hv
  simp only [P9,Option.map_eq_some_iff] at hv;obtain ⟨v0,fh,rfl⟩:=hv;refine VX.map (λ _ _=>rfl) (λ _ h=>h) (λ v vs hr hm dB=>?_) (h.fr t9 v0 fh);cases ca:v.j5 i with
  | false =>
   have bG:∀ j,v.j5 j=true->j≠i:=by rintro j hj rfl; rw [ca] at hj; cases hj
   exact VX.other (λ j hj=>by rw [o7,if_neg (bG j hj)]) (λ j hj=>⟨rfl,rfl,rfl⟩) dB
  | true =>
   have cH:=VX.one hr dB;simp only
   split
   ·rename_i j
    have dN:i=j:=Nat.eq_of_beq_eq_true ca;subst dN;obtain ⟨e,u',y',cs,k1,k2,k3,⟨b,off,k4,k5⟩,k6⟩:=dB;rw [he] at k1; cases k1;simp only [j9,Option.some.injEq,Sigma.mk.injEq] at k3;obtain ⟨rfl,_⟩:=k3;refine ⟨.own t z,t,z,cs,by rw [o7,if_pos rfl],O6,by simp only [j9]; rfl,⟨b,off,?_,?_⟩,?_⟩
    ·simp only [Place,VR,VH,C3] at k4 ⊢
     exact k4
    ·rw [<- bc]; exact k5
    ·rw [k6]; exact congrArg (λ v=>[v]) (BN dy cs)
   ·exact cH
theorem c0A (h:RS B S ι s a w) (o:Oper):RS B S ι (Dr E o s) a w:=by
 unfold Dr
 split
 ·split
  ·split
   ·rename_i i _
    split
    ·rename_i t z aX
     split
     ·rename_i hc
      simp only [Bool.and_eq_true] at hc
      split
      ·exact h
      ·rename_i ch
       exact h.VB (t:=.d8 true t) (z:=z.2.1) aX (λ hr=>c0z ch (Nat.le_of_ble_eq_true hc.1) (Nat.le_of_ble_eq_true hc.2) hr) rfl rfl
     ·exact h
    ·exact h
   ·exact h
  ·exact h
 ·exact h
theorem c0s (hM:E.ps.any PK.l5=false->∀ b,¬ B.M b) (h0:RS B S ι s a w) (o:Oper):∃ S' ι',RS B S' ι' (Dj E o s) a w:=by
 have h:=c0A (E:=E) h0 o;unfold Dj Mu;generalize Dr E o s=s at h;obtain ⟨S',ι',h1⟩:=c01 hM h o;obtain ⟨ι2,h2⟩:=b74 (E:=E) h1 o;exact ⟨S',ι2,h2⟩
theorem b70 (hM:E.ps.any PK.l5=false->∀ b,¬ B.M b) (h:RS B S ι s a w) (ops:Array Oper):∃ S' ι',RS B S' ι' (GV E ops s) a w:=by
 unfold GV
 split
 ·rename_i hp _
  split
  ·rename_i mP
   exact h.wC mP _
  ·exact ⟨S,ι,h⟩
 ·exact ⟨S,ι,h⟩
theorem SI (hM:E.ps.any PK.l5=false->∀ b,¬ B.M b) (h:RS B S ι s a w) (ops:Array Oper):∃ S' ι',RS B S' ι' (Dk E ops s) a w:=by
 unfold Dk
 split
 ·exact Y8 hM h
 ·exact ⟨S,ι,h⟩
theorem c0q (hM:E.ps.any PK.l5=false->∀ b,¬ B.M b) (h:RS B S ι s a w) (ops:Array Oper):∃ S' ι',RS B S' ι' (zL E ops s) a w:=by
 obtain ⟨S',ι',h'⟩:=SI (E:=E) hM h ops;exact b70 hM h' ops
theorem X1 (hE:D9 E B) (hn:B.n=E.nt) (hM:E.ps.any PK.l5=false->∀ b,¬ B.M b) {ops:Array Oper} {k:St->Tree (E.rs++F6 E.ps)} {L:Code->List Item->St->Prop} {Rt:DL (E.rs++F6 E.ps)->Prop} {Q:Exit->Act->World->Prop} (hk:∀ S' ι' s' a' w',RS B S' ι' s' a' w'->(k s').holds L Rt->Q .normal a' w') :
  ∀ {l:List Oper} {m:Nat} {S:Nat->Prop} {ι:Ix} {s:St} {a:Act} {w:World},RS B S ι s a w->(wv E ops m l s k).holds L Rt->wpList E.P ops Q (l.drop m) a w
 | [],m,S,ι,s,a,w,h,ht=>by
  rw [List.drop_nil];cases m<;>exact hk S ι s a w h ht
 | o::l,m+1,S,ι,s,a,w,h,ht=>X1 hE hn hM hk (l:=l) (m:=m) h ht
 | o::l,0,S0,ι0,s0,a,w,h0,ht=>by
  show wpList E.P ops Q (o::l) a w;unfold wv at ht;obtain ⟨S,ι,h⟩:=c0s hM h0 o;dsimp only at ht;generalize Dj E o s0=s at h ht;split at ht
  ·rename_i p s' n hf
   unfold Mk at hf;split at hf
   ·rename_i d c hg hd gL ho
    split at hf
    ·rename_i x y T U hc ha hT
     split at hf
     ·split at hf
      ·cases hf
      ·rw [<- hn,hd] at gL
       obtain ⟨v',w',g1,g2⟩:=TN hE hn ho hc ha hT gL (ops:=ops) (Q:=Q) h hf ht.1;unfold wpList;simp only [Region.wanted,hg,if_true];refine .inl ?_;unfold Oper.wp;rw [g1];show wpList E.P ops Q l (a.put o.dst v') w';rw [hd];exact g2 (λ S' ι' a' w'' h'=>X1 hE hn hM hk (l:=l) (m:=n) h' (ht.2 ht.1))
     ·cases hf
    ·cases hf
   ·cases hf
  ·split at ht
   ·rename_i p s' n hf
    unfold Ml at hf;split at hf
    ·rename_i d c hg hd gL ho
     split at hf
     ·rename_i g x ys hc ha
      split at hf
      ·split at hf
       ·cases hf
       ·rw [<- hn,hd] at gL
        unfold wpList;simp only [Region.wanted,hg,if_true];refine .inl ((TJ hE hn ho hc ha gL (ops:=ops) (Q:=Q) h hf ht.1 (λ S' ι' a' w'' h'=>X1 hE hn hM hk (l:=l) (m:=n) h' (ht.2 ht.1))).wp (λ v' w' hw=>?_));rw [hd]; exact hw
      ·cases hf
     ·cases hf
    ·cases hf
   ·split at ht
    ·rename_i p s' hf
     obtain ⟨hg,aU⟩:=b8E hE hn h hf ht.1;unfold wpList;simp only [Region.wanted,hg,if_true];refine .inl (aU.wp (λ v' w' hw=>?_));obtain ⟨ι',h'⟩:=hw;exact X1 hE hn hM hk (l:=l) (m:=0) h' (ht.2 ht.1)
    ·split at ht
     ·rename_i p s' hf
      obtain ⟨hg,aU⟩:=b77 hE hn hM h hf ht.1;unfold wpList;simp only [Region.wanted,hg,if_true];exact .inl (aU _ Q (λ S' ι' a' w' h'=>X1 hE hn hM hk (l:=l) (m:=0) h' (ht.2 ht.1)))
     ·split at ht
      ·rename_i p v1 v2 hg hd hb
       rw [<- hn] at hd;obtain ⟨val,aU,hv⟩:=YN hE h hb;unfold wpList;simp only [Region.wanted,hg,if_true];refine .inl ?_;unfold Oper.wp;rw [aU];rcases hv with ⟨hp,hv⟩|hv
       ·exact X1 hE hn hM hk (l:=l) (m:=0) (h.put hd hv) (ht.1 hp)
       ·exact X1 hE hn hM hk (l:=l) (m:=0) (h.put hd hv) ht.2
      ·have:=KZ hE hn h (ops:=ops) o (k:=λ s'=>wv E ops 0 l s' k) ht (next:=wpList E.P ops Q l) (Q:=Q) (λ S' ι' s' a' w' h1 h2=>X1 hE hn hM hk (l:=l) (m:=0) h1 h2)
       unfold wpList
       split
       ·rename_i hw; rw [if_pos hw] at this; exact .inl this
       ·rename_i hw; rw [if_neg hw] at this; exact this
end
end Go.Ex
namespace Go.Ex
section
variable {E:Env} {ops:Array Oper}
theorem AJ {α:Type _} {Y:α->Prop} {a:α}:Y a↔∃ (p:Prop) (s:α),some (True,a)=some (p,s)/\p/\Y s:=by
 constructor
 ·intro h; exact ⟨_,_,rfl,trivial,h⟩
 ·rintro ⟨p,s,h,_,h2⟩; cases h; exact h2
theorem HV {o:Oper} {s:St} {k:St->Tree (E.rs++F6 E.ps)} {L:Code->List Item->St->Prop} {R:DL (E.rs++F6 E.ps)->Prop}:(yX E o s k).holds L R↔∃ p s',Y3 E o s=some (p,s')/\p/\(k s').holds L R:=by
 unfold yX Y3;cases hd:H7 E.nt o.dst with
 | false=>simp [Tree.holds]
 | true =>
  simp only;have other:∀ r:OR,(match r with|.fail why=>Tree.stuck why|.ok v s'=>k (s'.put o.dst v)|.G6 p v s'=>Tree.f9 p (k (s'.put o.dst v))).holds L R ↔
    ∃ p s',(match r.get with|none=>none|some (p,v,s')=>some (p,s'.put o.dst v))=some (p,s')/\p/\(k s').holds L R:=by
   intro r;cases r with
   | fail why=>simp [Tree.holds,OR.get]
   | ok v s'=>exact AJ (Y:=λ s'=>(k s').holds L R)
   | G6 p v s' =>
    simp only [Tree.holds,OR.get,Option.some.injEq,Prod.mk.injEq];constructor
    ·rintro ⟨h1,h2⟩; exact ⟨_,_,⟨rfl,rfl⟩,h1,h2 h1⟩
    ·rintro ⟨_,_,⟨rfl,rfl⟩,h1,h2⟩; exact ⟨h1,λ _=>h2⟩
  cases ho:o.op with
  | pick c a b =>
   simp only;cases hc:s.ev c with
   | val t x =>
    cases t with
    | bool =>
     cases x with
     | true=>exact AJ (Y:=λ s'=>(k s').holds L R)
     | false=>exact AJ (Y:=λ s'=>(k s').holds L R)
    | _=>simp [Tree.holds]
   | _=>simp [Tree.holds]
  | _=>exact other _
theorem Ca {o:Oper} {s:St} {k:St->Tree (E.rs++F6 E.ps)} {L:Code->List Item->St->Prop} {R:DL (E.rs++F6 E.ps)->Prop}:(yr E ops o s k).holds L R↔∃ p s',I0 E ops o s=some (p,s')/\p/\(k s').holds L R:=by
 unfold yr I0;cases hg:o.guard with
 | none=>exact HV
 | some jw =>
  obtain ⟨j,want⟩:=jw;simp only;cases hs:AH ops j with
  | none=>simp [Tree.holds]
  | some g =>
   simp only;cases hv:s.ev (.tmp g) with
   | raw v =>
    cases v with
    | tuple vs =>
     simp only;cases hd:H7 E.nt o.dst with
     | false=>simp [Tree.holds]
     | true=>exact AJ (Y:=λ s'=>(k s').holds L R)
    | _=>simp [Tree.holds]
   | val t x =>
    cases t with
    | bool =>
     simp only;cases hd:H7 E.nt o.dst with
     | false=>simp [Tree.holds]
     | true =>
      simp only;cases x with
      | true =>
       cases want with
       | true=>exact HV
       | false=>exact AJ (Y:=λ s'=>(k s').holds L R)
      | false =>
       cases want with
       | true=>exact AJ (Y:=λ s'=>(k s').holds L R)
       | false=>exact HV
    | _=>simp [Tree.holds]
   | _=>simp [Tree.holds]
def xf (ops:Array Oper) (x:Oper) (sx:St) (Tx:List Nat) (y:Oper) (Ty:List Nat):Prop :=
 (∀ m∈looks ops y,∀ i∈Tx,(K4 y (sx.get m)).j5 i=false)/\(∀ m∈looks ops x,∀ i∈Ty,(K4 x (sx.get m)).j5 i=false)/\(∀ i∈Tx,i % 1000≠(y.dst.getD 0) % 1000)
theorem Ip {e:Met} {y:Oper} {Ty:List Nat} (h:Br ops e y Ty=true):xf ops e.o e.s e.T y Ty:=by
 simp only [Br,Bool.and_eq_true] at h;obtain ⟨h1,h2⟩:=h;refine ⟨?_,?_,?_⟩
 ·intro m hm i hi
  split at h1
  ·rename_i he; rw [he] at hi; cases hi
  ·simp only [Bool.and_eq_true,List.all_eq_true,Bool.not_eq_true'] at h1
   exact h1.1 m hm i hi
 ·intro m hm i hi
  split at h2
  ·cases hi
  ·simp only [List.all_eq_true,Bool.not_eq_true'] at h2
   exact h2 m hm i hi
 ·intro i hi jG
  split at h1
  ·rename_i he; rw [he] at hi; cases hi
  ·simp only [Bool.and_eq_true,List.all_eq_true,Bool.not_eq_true'] at h1
   have:=h1.2 i hi;rw [jG] at this;simp at this
def vx (E:Env) (ops:Array Oper) (M:Nat->Nat):List (Nat×St)->List Nat->St->St->Prop
 | _,[],s,s'=>s=s'
 | acc,i::l,s,s'=>∃ o,ops[i]?=some o/\(∀ e∈acc,(M i).testBit e.1=true\/∃ x,ops[e.1]?=some x/\xf ops x e.2 (l5 E x e.2) o (l5 E o s)) /\
   ∃ p s1,I0 E ops o s=some (p,s1)/\p/\vx E ops M ((i,s)::acc) l s1 s'
def AZ (E:Env) (ops:Array Oper) (q:vO):Prop:=∃ oa c,ops[q.k]?=some oa/\oa.guard=none/\oa.dst=some q.d/\H7 E.nt (some q.d)=true/\oa.op=.call c/\c.callee=.builtin .append/\c.args.toList=[q.x,q.y]/\c.argTypes.toList=[q.T,q.U]
theorem WY {o:Oper} {s:St} {i:Nat} {q:vO} (h:GP E o s i=some q) (ho:ops[i]?=some o):AZ E ops q/\q.k=i:=by
 unfold GP at h;split at h
 ·rename_i d c hg hd gL cB
  split at h
  ·rename_i x y T U hc ha hT
   split at h
   ·split at h
    ·cases h
    ·cases h
     exact ⟨⟨o,c,ho,hg,hd,by rw [<- hd]; exact gL,cB,hc,ha,hT⟩,rfl⟩
   ·cases h
  ·cases h
 ·cases h
def HT (E:Env) (ops:Array Oper) (M:List Nat) (q:vO) (s1:St) (k:St->Tree (E.rs++F6 E.ps)) (L:Code->List Item->St->Prop) (R:DL (E.rs++F6 E.ps)->Prop):Prop :=
 ∃ o p s2,ops[ops.size - 1]?=some o/\zQ E ops M q (ops.size - 1) o s1=some (p,s2)/\p/\(k s2).holds L R
theorem Cs {o:Oper} {l:List Oper} {n:Nat} (hl:ops.toList.drop n=o::l):ops[n]?=some o/\ops.toList.drop (n+1)=l/\ops.size=n+1+l.length:=by
 have h1:(ops.toList.drop n)[0]?=some o:=by rw [hl]; rfl
 have h2:(ops.toList.drop n).length=(o::l).length:=by rw [hl]
 simp only [List.length_drop,List.length_cons,Array.length_toList] at h2;refine ⟨by simpa using h1,?_,by omega⟩;rw [<- List.drop_drop,hl]; rfl
theorem Rx {M:List Nat} {q:vO} {k:St->Tree (E.rs++F6 E.ps)} {L:Code->List Item->St->Prop} {R:DL (E.rs++F6 E.ps)->Prop}:∀ {l:List Oper} {n:Nat} {s:St} {acc:List Met} {bI:List (Nat×St)},ops.toList.drop n=l ->
  (∀ e∈bI,∃ m∈acc,m.i=e.1/\ops[e.1]?=some m.o/\m.s=e.2/\m.T=l5 E m.o e.2)->(AW E ops M q n l s acc k).holds L R->∃ s',vx E ops (λ i=>M.getD i 0) bI (List.range' n (l.length - 1)) s s'/\HT E ops M q s' k L R
 | [],n,s,acc,bI,_,_,h=>h.elim
 | [o],n,s,acc,bI,hl,ha,h=>by
  obtain ⟨h1,h2,h3⟩:=Cs hl;simp only [AW] at h;split at h
  ·rename_i p s2 hf
   have e:ops.size - 1=n:=by simp at h3; omega
   exact ⟨s,rfl,o,p,s2,by rw [e]; exact h1,by rw [e]; exact hf,h.1,h.2 h.1⟩
  ·exact h.elim
 | o::o2::l,n,s,acc,bI,hl,ha,h=>by
  obtain ⟨ho,eD,_⟩:=Cs hl;simp only [AW] at h;split at h
  ·exact h.elim
  ·rename_i bH
   obtain ⟨p,s1,h1,h2,h3⟩:=Ca.1 h;obtain ⟨s',k1,k2⟩:=Rx (bI:=(n,s)::bI) eD (λ e he=>by
    rcases List.mem_cons.1 he with rfl|he
    ·exact ⟨_,List.mem_cons_self ..,rfl,ho,rfl,rfl⟩
    ·obtain ⟨m,hm,r⟩:=ha e he; exact ⟨m,List.mem_cons_of_mem _ hm,r⟩) h3
   refine ⟨s',⟨o,ho,λ e he=>?_,p,s1,h1,h2,k1⟩,k2⟩;obtain ⟨m,hm,m1,m2,m3,m4⟩:=ha e he;have:=(List.all_eq_true.1 bH) m hm;simp only [Bool.or_eq_true] at this;rcases this with this|this
   ·exact .inl (by rw [<- m1]; exact this)
   ·have hp:=Ip this
    rw [m3,m4] at hp;exact .inr ⟨m.o,m2,hp⟩
theorem Ry {M:List Nat} {k:St->Tree (E.rs++F6 E.ps)} {L:Code->List Item->St->Prop} {R:DL (E.rs++F6 E.ps)->Prop}:∀ {l:List Oper} {n:Nat} {s:St} {acc:List Met} {bI:List (Nat×St)},ops.toList.drop n=l ->
  (∀ e∈bI,∃ m∈acc,m.i=e.1/\ops[e.1]?=some m.o/\m.s=e.2/\m.T=l5 E m.o e.2)->(Dl E ops M n l s acc k).holds L R ->
  (∃ s',vx E ops (λ i=>M.getD i 0) bI (List.range' n l.length) s s'/\(k s').holds L R) \/
  ∃ q s',n<=q.k/\AZ E ops q/\vx E ops (λ i=>M.getD i 0) bI ((List.range' n (l.length - 1)).filter (λ j=>!(j == q.k))) s s'/\HT E ops M q s' k L R
 | [],n,s,acc,bI,_,_,h=>.inl ⟨s,rfl,h⟩
 | o::l,n,s,acc,bI,hl,ha,h=>by
  obtain ⟨ho,eD,_⟩:=Cs hl;simp only [Dl] at h;split at h
  ·rename_i q hq
   obtain ⟨a1,a2⟩:=WY hq ho;obtain ⟨s',k1,k2⟩:=Rx eD ha h;refine .inr ⟨q,s',by omega,a1,?_,k2⟩;cases l with
   | nil =>
    simp only [List.length_nil,Nat.zero_sub,List.range'_zero] at k1;simpa using k1
   | cons o2 l =>
    simp only [List.length_cons,Nat.add_sub_cancel] at k1 ⊢;rw [List.range'_succ,List.filter_cons];simp only [a2,beq_self_eq_true,Bool.not_true,Bool.false_eq_true,if_false];rw [List.filter_eq_self.2 (λ j hj=>by have:=(List.mem_range'_1.1 hj).1; simp; omega)];exact k1
  ·split at h
   ·exact h.elim
   ·rename_i bH
    obtain ⟨p,s1,h1,h2,h3⟩:=Ca.1 h;have nQ:∀ e∈bI,(M.getD n 0).testBit e.1=true\/∃ x,ops[e.1]?=some x/\xf ops x e.2 (l5 E x e.2) o (l5 E o s):=by
     intro e he;obtain ⟨m,hm,m1,m2,m3,m4⟩:=ha e he;have:=(List.all_eq_true.1 bH) m hm;simp only [Bool.or_eq_true] at this;rcases this with this|this
     ·exact .inl (by rw [<- m1]; exact this)
     ·have hp:=Ip this
      rw [m3,m4] at hp;exact .inr ⟨m.o,m2,hp⟩
    rcases Ry (bI:=(n,s)::bI) eD (λ e he=>by
     rcases List.mem_cons.1 he with rfl|he
     ·exact ⟨_,List.mem_cons_self ..,rfl,ho,rfl,rfl⟩
     ·obtain ⟨m,hm,r⟩:=ha e he; exact ⟨m,List.mem_cons_of_mem _ hm,r⟩) h3 with ⟨s',k1,k2⟩|⟨q,s',k0,k1,k2,k3⟩
    ·exact .inl ⟨s',⟨o,ho,nQ,p,s1,h1,h2,k1⟩,k2⟩
    ·refine .inr ⟨q,s',by omega,k1,?_,k3⟩
     cases l with
     | nil =>
      exfalso;obtain ⟨oa,c,a1,_⟩:=k1;have:=(Array.getElem?_eq_some_iff.1 a1).1;have h9:=(Cs hl).2.2;simp at h9; omega
     | cons o2 l =>
      simp only [List.length_cons,Nat.add_sub_cancel] at k2 ⊢;rw [List.range'_succ,List.filter_cons];have bG:(!(n == q.k))=true:=by simp; omega
      rw [if_pos bG];exact ⟨o,ho,nQ,p,s1,h1,h2,k2⟩
end
end Go.Ex
namespace Go.Ex
def uniq {α:Type _}:List (Nat×α)->Prop
 | []=>True
 | (n,_)::l=>(∀ q∈l,n<q.1)/\uniq l
theorem Fa {α:Type _} {n:Nat}:∀ {l:List (Nat×α)},(∀ q∈l,n<q.1)->look n l=none
 | [],_=>rfl
 | (m,x)::l,h=>by
  have:=h (m,x) (by simp);simp only [look,yn (Nat.ne_of_lt this)];exact Fa (λ q hq=>h q (by simp [hq]))
theorem NG {α:Type _} {n:Nat} {x:α} {q:Nat×α}:∀ {l:List (Nat×α)},q∈put n x l->q.1=n\/q∈l
 | [],h=>by simp [put] at h; exact .inl (by rw [h])
 | (m,y)::l,h=>by
  simp only [put] at h;split at h
  ·rcases List.mem_cons.1 h with rfl|h
   ·exact .inl rfl
   ·exact .inr (by simp [h])
  ·split at h
   ·rcases List.mem_cons.1 h with rfl|h
    ·exact .inl rfl
    ·exact .inr h
   ·rcases List.mem_cons.1 h with rfl|h
    ·exact .inr (by simp)
    ·exact (NG h).imp id (λ h=>by simp [h])
theorem PL {α:Type _} (n:Nat) (x:α):∀ {l:List (Nat×α)},uniq l->uniq (put n x l)
 | [],_=>⟨by simp,trivial⟩
 | (m,y)::l,⟨h1,h2⟩=>by
  simp only [put];cases hb:Nat.beq n m with
  | true=>have:=Nat.eq_of_beq_eq_true hb; subst this; exact ⟨h1,h2⟩
  | false =>
   have bG:n≠m:=by rintro rfl; simp at hb
   simp only;cases bj:Nat.blt n m with
   | true =>
    have bj:n<m:=by simpa [Nat.blt_eq] using bj
    exact ⟨λ q hq=>by
     rcases List.mem_cons.1 hq with rfl|hq
     ·exact bj
     ·exact Nat.lt_trans bj (h1 q hq),h1,h2⟩
   | false =>
    have bj:¬ n<m:=by
     intro hl;have h3:Nat.blt n m=true:=by simpa [Nat.blt_eq] using hl
     rw [h3] at bj; cases bj
    refine ⟨λ q hq=>?_,PL n x h2⟩;rcases NG hq with e|hq
    ·omega
    ·exact h1 q hq
theorem y6 {α:Type _}:∀ {l:List (Nat×α)},Bq l=true->uniq l
 | [],_=>trivial
 | (n,x)::l,h=>by
  simp only [Bq,Bool.and_eq_true] at h;have ih:=y6 h.2;refine ⟨?_,ih⟩;cases l with
  | nil=>simp
  | cons q l =>
   obtain ⟨m,y⟩:=q;have bj:n<m:=by simpa [Nat.blt_eq] using h.1
   intro q hq;rcases List.mem_cons.1 hq with rfl|hq
   ·exact bj
   ·exact Nat.lt_trans bj (ih.1 q hq)
theorem Fg {d:Nat}:∀ {l:List (Nat×AV)},uniq l->(∀ n v,look n l=some v->v.j5 d=false)->we d l=true
 | [],_,_=>rfl
 | (m,v)::l,⟨h0,h2⟩,h=>by
  have h1:=Fa h0;simp only [we,Bool.and_eq_true,Bool.not_eq_true'];refine ⟨h m v (by simp [look]),Fg h2 (λ n w hw=>h n w ?_)⟩;simp only [look];cases hb:Nat.beq n m with
  | true=>have:=Nat.eq_of_beq_eq_true hb; subst this; rw [h1] at hw; cases hw
  | false=>exact hw
theorem J6:∀ {v:AV} {i:Nat},i∈v.I1↔v.j5 i=true:=by
 intro v
 induction v with
 | cons a b iha ihb=>intro i; simp only [AV.I1,List.mem_append,AV.j5,Bool.or_eq_true,iha,ihb]
 | M2 l ih=>intro i; exact ih
 | D3 f l ih=>intro i; exact ih
 | bx l ih=>intro i; exact ih
 | rc f l ih=>intro i; exact ih
 | ptr j p=>intro i; simp [AV.I1,AV.j5]
 | at_ j p=>intro i; simp [AV.I1,AV.j5]
 | sub j p a b=>intro i; simp [AV.I1,AV.j5]
 | _=>intro i; simp [AV.I1,AV.j5]
def AV.plain:AV->Bool
 | .any|.raw _|.val _ _|.P8 _ _|.nil=>true
 | _=>false
structure Trim (T:List Nat) (f:AV->AV):Prop where
 cons:∀ a b,f (.cons a b)=.cons (f a) (f b)
 M2:∀ l,f (.M2 l)=.M2 (f l)
 D3:∀ g l,f (.D3 g l)=.D3 g (f l)
 bx:∀ l,f (.bx l)=.bx (f l)
 rc:∀ g l,f (.rc g l)=.rc g (f l)
 atom:∀ u,u.ref=true->f u=u\/f u=.any
 xw:∀ u,u.ref=true->(∀ i∈T,u.j5 i=false)->f u=u
 plain:∀ u,u.plain=true->f u=u
theorem AV.shape (P:AV->Prop) (hp:∀ u,u.plain=true->P u) (ha:∀ u,u.ref=true->P u) (hc:∀ a b,P a->P b->P (.cons a b)) (ht:∀ l,P l->P (.M2 l)) (hf:∀ g l,P l->P (.D3 g l)) (hb:∀ l,P l->P (.bx l)) (hr:∀ g l,P l->P (.rc g l)):∀ u,P u:=by
 intro u
 induction u with
 | cons a b iha ihb=>exact hc a b iha ihb
 | M2 l ih=>exact ht l ih
 | D3 f l ih=>exact hf f l ih
 | bx l ih=>exact hb l ih
 | rc f l ih=>exact hr f l ih
 | ptr j p=>exact ha _ rfl
 | at_ j p=>exact ha _ rfl
 | sub j p a b=>exact ha _ rfl
 | _=>exact hp _ rfl
section
variable {T T':List Nat} {f g:AV->AV}
theorem Trim.id (T:List Nat):Trim T (λ u=>u):=⟨λ _ _=>rfl,λ _=>rfl,λ _ _=>rfl,λ _=>rfl,λ _ _=>rfl,λ _ _=>.inl rfl,λ _ _ _=>rfl,λ _ _=>rfl⟩
theorem Trim.map {g:AV->AV} (h1:∀ u,u.ref=true->g u=u\/g u=.any) (h2:∀ u,u.ref=true->(∀ i∈T,u.j5 i=false)->g u=u):Trim T (AV.map g):=by
 have e:∀ u:AV,u.ref=true->u.map g=g u:=by intro u hu; cases u<;>simp only [AV.ref] at hu<;>first|rfl|cases hu
 exact ⟨λ _ _=>rfl,λ _=>rfl,λ _ _=>rfl,λ _=>rfl,λ _ _=>rfl,λ u hu=>by rw [e u hu]; exact h1 u hu,λ u hu hm=>by rw [e u hu]; exact h2 u hu hm,λ u hu=>by cases u<;>simp only [AV.plain] at hu<;>first|rfl|cases hu⟩
theorem Trim.comp (hf:Trim T f) (hg:Trim T' g) {U:List Nat} (h1:∀ i∈T,i∈U) (h2:∀ i∈T',i∈U):Trim U (λ u=>g (f u)):=by
 refine ⟨λ a b=>by rw [hf.cons,hg.cons],λ l=>by rw [hf.M2,hg.M2],λ k l=>by rw [hf.D3,hg.D3],λ l=>by rw [hf.bx,hg.bx],λ k l=>by rw [hf.rc,hg.rc],?_,?_,λ u hu=>by rw [hf.plain u hu,hg.plain u hu]⟩
 ·intro u hu
  rcases hf.atom u hu with h|h
  ·rw [h]; exact hg.atom u hu
  ·rw [h]; exact .inr (hg.plain _ rfl)
 ·intro u hu hm
  rw [hf.xw u hu (λ i hi=>hm i (h1 i hi)),hg.xw u hu (λ i hi=>hm i (h2 i hi))]
theorem Trim.mono (hf:Trim T f) (h:∀ i∈T,i∈T'):Trim T' f:=⟨hf.cons,hf.M2,hf.D3,hf.bx,hf.rc,hf.atom,λ u hu hm=>hf.xw u hu (λ i hi=>hm i (h i hi)),hf.plain⟩
theorem Trim.fix (hf:Trim T f):∀ u,(∀ i∈T,u.j5 i=false)->f u=u:=by
 refine AV.shape _ (λ u hu _=>hf.plain u hu) (λ u hu hm=>hf.xw u hu hm) ?_ ?_ ?_ ?_ ?_
 ·intro a b ha hb hm
  simp only [AV.j5,Bool.or_eq_false_iff] at hm;rw [hf.cons,ha (λ i hi=>(hm i hi).1),hb (λ i hi=>(hm i hi).2)]
 ·intro l hl hm; rw [hf.M2,hl hm]
 ·intro k l hl hm; rw [hf.D3,hl hm]
 ·intro l hl hm; rw [hf.bx,hl hm]
 ·intro k l hl hm; rw [hf.rc,hl hm]
theorem Trim.j5 (hf:Trim T f) {i:Nat}:∀ u,(f u).j5 i=true->u.j5 i=true:=by
 refine AV.shape _ (λ u hu h=>by rw [hf.plain u hu] at h; exact h) (λ u hu h=>?_) ?_ ?_ ?_ ?_ ?_
 ·rcases hf.atom u hu with e|e
  ·rw [e] at h; exact h
  ·rw [e] at h; cases h
 ·intro a b ha hb h
  rw [hf.cons] at h;simp only [AV.j5,Bool.or_eq_true] at h ⊢;exact h.imp ha hb
 ·intro l hl h; rw [hf.M2] at h; exact hl h
 ·intro k l hl h; rw [hf.D3] at h; exact hl h
 ·intro l hl h; rw [hf.bx] at h; exact hl h
 ·intro k l hl h; rw [hf.rc] at h; exact hl h
theorem Trim.comm (hf:Trim T f) (hg:Trim T' g):∀ u,f (g u)=g (f u):=by
 refine AV.shape _ (λ u hu=>by rw [hf.plain u hu,hg.plain u hu,hf.plain u hu]) (λ u hu=>?_) ?_ ?_ ?_ ?_ ?_
 ·have ha:f .any=.any:=hf.plain _ rfl
  have hb:g .any=.any:=hg.plain _ rfl;rcases hf.atom u hu with e|e<;>rcases hg.atom u hu with e'|e'<;>simp only [e,e',ha,hb]
 ·intro a b ha hb; rw [hg.cons,hf.cons,hf.cons,hg.cons,ha,hb]
 ·intro l hl; rw [hg.M2,hf.M2,hf.M2,hg.M2,hl]
 ·intro k l hl; rw [hg.D3,hf.D3,hf.D3,hg.D3,hl]
 ·intro l hl; rw [hg.bx,hf.bx,hf.bx,hg.bx,hl]
 ·intro k l hl; rw [hg.rc,hf.rc,hf.rc,hg.rc,hl]
theorem Trim.drop (i:Nat):Trim [i] (AV.drop i):=by
 refine Trim.map (λ u _=>?_) (λ u _ hm=>?_)
 ·cases hm:u.j5 i with
  | true=>exact .inr (by simp only)
  | false=>exact .inl (by simp only)
 ·simp only [hm i (by simp)]
theorem Trim.kill (i:Nat) (ow:Bool×Ty) (q:List Step):Trim [i] (AV.kill i ow q):=by
 refine Trim.map (λ u hu=>?_) (λ u _ hm=>?_)
 ·unfold AV.Bg
  split
  ·exact .inl rfl
  ·split
   ·split<;>first|exact .inl rfl|exact .inr rfl
   ·split
    ·exact .inl rfl
    ·split<;>first|exact .inl rfl|exact .inr rfl
   ·split<;>first|exact .inl rfl|exact .inr rfl
   ·split<;>first|exact .inl rfl|exact .inr rfl
   ·exact .inr rfl
 ·unfold AV.Bg; rw [hm i (by simp)]
theorem Trim.Z9 (i:Nat) (ow:Bool):Trim [i] (AV.map (AV.xI i ow)):=by
 refine Trim.map (λ u hu=>?_) (λ u _ hm=>?_)
 ·unfold AV.xI
  split
  ·exact .inl rfl
  ·split
   ·split<;>first|exact .inl rfl|exact .inr rfl
   ·split<;>first|exact .inl rfl|exact .inr rfl
   ·split<;>first|exact .inl rfl|exact .inr rfl
   ·exact .inr rfl
 ·unfold AV.xI; rw [hm i (by simp)]
def xG:List Nat->AV->AV
 | [],u=>u
 | i::g,u=>xG g (u.drop i)
theorem Trim.B0:∀ g:List Nat,Trim g (xG g)
 | []=>Trim.id []
 | i::g=>Trim.comp (Trim.drop i) (Trim.B0 g) (by simp) (λ j hj=>List.mem_cons_of_mem _ hj)
end
structure Md (s s1:St) (T ids:List Nat) (f:AV->AV) (h:Nat->Option i7):Prop where
 fr:∀ n,look n s1.fr=(look n s.fr).map f
 hp:∀ i,look i s1.hp=if i∈T\/i∈ids then h i else look i s.hp
def T8 (s:St) (ids:List Nat):Prop:=∀ n∈ids,look n s.hp=none/\∀ m v,look m s.fr=some v->v.j5 n=false
theorem CH:∀ {g:List Nat} {s:St} {n:Nat},look n (St.B0 g s).fr=(look n s.fr).map (xG g)
 | [],s,n=>by simp [St.B0,xG]
 | i::g,s,n=>by
  simp only [St.B0];rw [CH (g:=g) (s:=s.drop i)];simp only [St.drop,P9,Option.map_map];rfl
theorem Qj {f:AV->AV} {q:Nat×AV}:∀ {l:List (Nat×AV)},q∈mapA f l->∃ r∈l,r.1=q.1
 | (n,x)::l,h=>by
  rcases List.mem_cons.1 h with rfl|h
  ·exact ⟨_,List.mem_cons_self ..,rfl⟩
  ·obtain ⟨r,hr,e⟩:=Qj h; exact ⟨r,by simp [hr],e⟩
theorem Cz {f:AV->AV}:∀ {l:List (Nat×AV)},uniq l->uniq (mapA f l)
 | [],_=>trivial
 | (n,x)::l,⟨h1,h2⟩=>⟨λ q hq=>by obtain ⟨r,hr,e⟩:=Qj hq; rw [<- e]; exact h1 r hr,Cz h2⟩
theorem CJ:∀ {g:List Nat} {s:St},uniq s.fr->uniq (St.B0 g s).fr
 | [],_,h=>h
 | i::g,s,h=>CJ (g:=g) (s:=s.drop i) (Cz h)
def Z4 (s t:St) (xs:List Operand):Prop:=∀ x∈xs,t.ev x=s.ev x/\∀ i,(s.ev x).j5 i=true->t.obj i=s.obj i
theorem Z4.refl (s:St) (xs:List Operand):Z4 s s xs:=λ _ _=>⟨rfl,λ _ _=>rfl⟩
def OR.wP (t:St):OR->OR
 | .fail w=>.fail w
 | .ok v _=>.ok v t
 | .G6 p v _=>.G6 p v t
def OR.av:OR->AV
 | .ok v _=>v
 | .G6 _ v _=>v
 | .fail _=>.any
section
variable {E:Env} {s t:St}
theorem Pv (k:IntKind) (r:Int):arith k r t=(arith k r s).wP t:=by unfold arith; split<;>rfl
theorem WL (op:BinOp) (k k':IntKind) (a b:Int):xy op k a k' b t=(xy op k a k' b s).wP t:=by
 unfold xy
 split
 ·rfl
 ·rfl
 ·split
  ·split<;>first|rfl|exact Pv _ _
  ·rfl
theorem WN (W:Bool) (op:BinOp) (k k':IntKind) (a b:Int):xz W op k a k' b t=(xz W op k a k' b s).wP t:=by
 unfold xz
 split
 ·split<;>rfl
 ·exact WL ..
theorem WM (op:BinOp) (a b:yY):yR op a b t=(yR op a b s).wP t:=by unfold yR; split<;>rfl
theorem WJ (T:TypeId) (op:BinOp) (x y:AV):xZ E T op x y t=(xZ E T op x y s).wP t:=by
 unfold xZ
 split
 ·exact WN ..
 ·split<;>rfl
 ·exact WM ..
 ·rfl
theorem MS (T:TypeId) (op:BinOp) (a:Ty) (x:a.den) (u:Ty) (y:u.den):eqA E T op a x u y t=(eqA E T op a x u y s).wP t:=by
 unfold eqA
 split
 ·split<;>rfl
 ·rfl
theorem WK (T:TypeId) (op:BinOp) (x y:AV):wF E T op x y t=(wF E T op x y s).wP t:=by
 unfold wF
 split
 ·unfold zJ; split<;>rfl
 ·exact MS ..
 ·exact MS ..
 ·exact WJ ..
theorem VI (op:UnOp) (x:AV):unA op x t=(unA op x s).wP t:=by
 unfold unA
 repeat' (first|rfl|exact Pv _ _|split)
theorem Ai:∀ {xs:List Operand},(∀ x∈xs,t.ev x=s.ev x)->t.K5 xs=s.K5 xs
 | [],_=>rfl
 | x::xs,h=>by simp only [St.K5,h x (by simp),Ai (xs:=xs) (λ y hy=>h y (by simp [hy]))]
theorem xj {i:Nat}:∀ {xs:List Operand},(s.K5 xs).j5 i=true->∃ x∈xs,(s.ev x).j5 i=true
 | [],h=>by cases h
 | x::xs,h=>by
  simp only [St.K5,AV.j5,Bool.or_eq_true] at h;rcases h with h|h
  ·exact ⟨x,by simp,h⟩
  ·obtain ⟨y,hy,h⟩:=xj h; exact ⟨y,by simp [hy],h⟩
theorem JC {i:Nat} {x:Operand}:∀ {xs:List Operand},x∈xs->(s.ev x).j5 i=true->(s.K5 xs).j5 i=true
 | y::xs,hx,h=>by
  simp only [St.K5,AV.j5,Bool.or_eq_true];rcases List.mem_cons.1 hx with rfl|hx
  ·exact .inl h
  ·exact .inr (JC hx h)
theorem EA {i:Nat}:∀ {a b:AV},(a.app b).j5 i=true->a.j5 i=true\/b.j5 i=true:=by
 intro a
 induction a with
 | cons x l _ ih =>
  intro b h;simp only [AV.app,AV.j5,Bool.or_eq_true] at h ⊢;rcases h with h|h
  ·exact .inl (.inl h)
  ·rcases ih h with h|h
   ·exact .inl (.inr h)
   ·exact .inr h
 | _=>intro b h; exact .inr h
def Alike (s t:St) (v:AV):Prop:=∀ i,v.j5 i=true->t.obj i=s.obj i
theorem K1 {i:Nat} {p:List Step} (h:t.obj i=s.obj i):t.part i p=s.part i p:=by simp only [St.part,h]
theorem Ew {i:Nat} {p:List Step} {a b:Int} (h:t.obj i=s.obj i):t.view i p a b=s.view i p a b:=by simp only [St.view,K1 h]
theorem IM {u:Ty} {i:Nat} {p:List Step} (h:t.obj i=s.obj i):t.vA u i p=s.vA u i p:=by simp only [St.vA,K1 h]
theorem Us {u:Ty} {v:AV} (h:Alike s t v):v.asV t u=v.asV s u:=by
 cases v<;>first|rfl|exact IM (h _ (by simp [AV.j5]))|(simp only [AV.asV]; rw [Ew (h _ (by simp [AV.j5]))])
theorem MK {u:Ty} {v:AV} (h:Alike s t v):v.asR t u=v.asR s u:=by
 unfold AV.asR
 split
 ·exact IM (h _ (by simp [AV.j5]))
 ·rfl
 ·rename_i i p
  have e:∀ u,t.vA u i p=s.vA u i p:=λ u=>IM (h i (show AV.j5 i (AV.bx (.ptr i p))=true by simp [AV.j5]));simp only [e]
 ·rfl
theorem NY:∀ {ts:List Ty} {v:AV},Alike s t v->AV.xY t ts v=AV.xY s ts v
 | [],v,_=>by cases v<;>rfl
 | u::ts,v,h=>by
  cases v<;>try rfl
  rename_i a b;simp only [AV.xY,MK (v:=a) (λ i hi=>h i (by simp [AV.j5,hi])),NY (v:=b) (λ i hi=>h i (by simp [AV.j5,hi]))]
theorem Ep {v:AV} (h:Alike s t v):v.vg t=v.vg s:=by
 cases v<;>try rfl
 ·rename_i i p; cases p<;>simp only [AV.vg,h i (by simp [AV.j5])]
 ·rename_i i p a b; cases p<;>simp only [AV.vg,h i (by simp [AV.j5])]
theorem HF {v:AV} (h:Alike s t v):v.els t=v.els s:=by
 unfold AV.els
 split
 ·rfl
 ·rename_i i p; simp only [K1 (h i (by simp [AV.j5]))]
 ·rename_i i p a b; simp only [Ew (h i (by simp [AV.j5]))]
 ·rfl
theorem Fc {v:AV} {r:Sigma Ty.den} {g:List Nat} (h:v.vg s=some (r,g)):∀ i∈g,v.j5 i=true:=by
 unfold AV.vg at h;split at h
 ·cases h; simp
 ·split at h
  ·cases h; simp [AV.j5]
  ·cases h
 ·split at h
  ·cases h; simp [AV.j5]
  ·cases h
 ·cases h
theorem zA {v:AV} (h:Alike s t v):v.vC t=v.vC s:=by
 unfold AV.vC
 split
 ·rename_i i
  rw [h i (by simp [AV.j5]),Ep h]
 ·rfl
 ·exact Ep h
theorem Fo {v:AV} {r:Sigma Ty.den} {g:List Nat} (h:v.vC s=some (r,g)):∀ i∈g,v.j5 i=true:=by
 unfold AV.vC at h;split at h
 ·split at h
  ·cases h; simp [AV.j5]
  ·exact Fc h
 ·cases h; simp
 ·exact Fc h
theorem Ij {u:Ty} {v:AV} (h:Alike s t v):v.vn t u=v.vn s u:=by
 unfold AV.vn
 split
 ·rfl
 ·rfl
 ·simp only [HF h,Ep h]
theorem QI {u:Ty} {v:AV} {r:Sigma λ t:Ty=>List t.den} {g:List Nat} (h:v.vn s u=some (r,g)):∀ i∈g,v.j5 i=true:=by
 unfold AV.vn at h;split at h
 ·cases h; simp
 ·cases h; simp
 ·split at h
  ·cases h
  ·split at h
   ·cases h; simp
   ·split at h
    ·rename_i hg; cases h; exact Fc hg
    ·cases h
theorem HO {d:Int} {x:Option Operand} (h:∀ y,x=some y->t.ev y=s.ev y):bnd t d x=bnd s d x:=by
 cases x with
 | none=>rfl
 | some y=>simp only [bnd,h y rfl]
theorem Ur {k:PK} {v:AV} (h:Alike s t v):v.R5 t k=v.R5 s k:=by
 cases k with
 | v u=>simp only [AV.R5,Us h]
 | rd u=>simp only [AV.R5,MK h]
 | W3=>cases v<;>rfl
 | rcs f n=>rfl
 | el q=>rfl
 | D3 f ts =>
  cases v<;>try rfl
  simp only [AV.R5]; rw [NY (λ i hi=>h i (by simpa [AV.j5] using hi))]
 | own u =>
  have hg:=zA h;unfold AV.R5;dsimp only
  split
  ·rfl
  ·rw [hg]
 | rw u =>
  cases v<;>try rfl
  rename_i i p; cases p<;>simp only [AV.R5,h i (by simp [AV.j5])]
 | mu u =>
  cases v<;>try rfl
  rename_i i p; cases p<;>simp only [AV.R5,h i (by simp [AV.j5])]
theorem NX:∀ {ks:List PK} {v:AV},Alike s t v->AV.vk t ks v=AV.vk s ks v
 | [],v,_=>by cases v<;>rfl
 | k::ks,v,h=>by
  cases v<;>try rfl
  rename_i a b;simp only [AV.vk,Ur (v:=a) (λ i hi=>h i (by simp [AV.j5,hi])),NX (v:=b) (λ i hi=>h i (by simp [AV.j5,hi]))]
theorem Xa {k:PK} {v:AV} {x:k.den} {g m:List Nat} (h:v.R5 s k=some (x,g,m)):(∀ i∈g++m,v.j5 i=true)/\(k.l5=false->g=[]/\m=[]):=by
 cases k with
 | v u=>simp only [AV.R5] at h; split at h<;>cases h; simp
 | rd u=>simp only [AV.R5] at h; split at h<;>cases h; simp
 | W3=>simp only [AV.R5] at h; split at h<;>cases h; simp
 | rcs f n=>simp only [AV.R5] at h; cases h
 | el q=>simp only [AV.R5] at h; cases h
 | D3 f ts =>
  simp only [AV.R5] at h;split at h
  ·split at h
   ·split at h<;>cases h; simp
   ·cases h
  ·cases h
 | own u =>
  refine ⟨?_,λ h=>by cases h⟩;simp only [AV.R5] at h;split at h
  ·split at h<;>cases h; simp
  ·split at h
   ·rename_i hg
    split at h
    ·cases h
     intro i hi;exact Fo hg i (by simpa using hi)
    ·cases h
   ·cases h
 | rw u =>
  refine ⟨?_,λ h=>by cases h⟩;simp only [AV.R5] at h;split at h
  ·split at h
   ·split at h
    ·cases h; simp [AV.j5]
    ·cases h
   ·cases h
  ·cases h
 | mu u =>
  refine ⟨?_,λ h=>by cases h⟩;simp only [AV.R5] at h;split at h
  ·split at h
   ·split at h
    ·cases h; simp [AV.j5]
    ·cases h
   ·cases h
  ·cases h
theorem RB:∀ {ks:List PK} {v:AV} {x:DK ks} {g m:List Nat},AV.vk s ks v=some (x,g,m)->(∀ i∈g++m,v.j5 i=true)/\(ks.any PK.l5=false->g=[]/\m=[])
 | [],v,x,g,m,h=>by
  cases v<;>simp only [AV.vk] at h<;>cases h;simp
 | k::ks,v,x,g,m,h=>by
  cases v<;>simp only [AV.vk] at h<;>try (cases h; done)
  split at h
  ·rename_i h1 h2
   cases h;obtain ⟨a1,a2⟩:=Xa h1;obtain ⟨b1,b2⟩:=RB h2;refine ⟨?_,?_⟩
   ·intro i hi
    simp only [List.mem_append] at hi a1 b1;simp only [AV.j5,Bool.or_eq_true];rcases hi with (hi|hi)|(hi|hi)
    ·exact .inl (a1 i (.inl hi))
    ·exact .inr (b1 i (.inl hi))
    ·exact .inl (a1 i (.inr hi))
    ·exact .inr (b1 i (.inr hi))
   ·intro ht
    simp only [List.any_cons,Bool.or_eq_false_iff] at ht;obtain ⟨r1,r2⟩:=a2 ht.1;obtain ⟨r3,r4⟩:=b2 ht.2;simp [r1,r2,r3,r4]
  ·cases h
theorem ER:∀ {parts:List (Nat×Operand)} {r:Sigma Ty.den},(∀ q∈parts,t.ev q.2=s.ev q.2/\Alike s t (s.ev q.2))->T7 t r parts=T7 s r parts
 | [],⟨_,_⟩,_=>rfl
 | (i,v)::parts,⟨u,x⟩,h=>by
  have ih:=λ r=>ER (parts:=parts) (r:=r) (λ q hq=>h q (by simp [hq]));obtain ⟨h1,h2⟩:=h (i,v) (by simp);have h1:t.ev v=s.ev v:=h1;have h2:=zA h2;have h2:(s.ev v).vC t=(s.ev v).vC s:=h2;simp only [T7,h1,ih]
  split
  ·rfl
  ·split
   ·rfl
   ·rw [h2]
theorem FE:∀ {parts:List (Nat×Operand)} {r r':Sigma Ty.den} {g:List Nat},T7 s r parts=some (r',g)->∀ i∈g,∃ q∈parts,(s.ev q.2).j5 i=true
 | [],⟨_,_⟩,r',g,h=>by simp only [T7] at h; cases h; simp
 | (j,v)::parts,⟨u,x⟩,r',g,h=>by
  simp only [T7] at h;split at h
  ·cases h
  ·split at h
   ·split at h
    ·split at h
     ·intro i hi
      obtain ⟨q,hq,hm⟩:=FE h i hi;exact ⟨q,by simp [hq],hm⟩
     ·cases h
    ·cases h
   ·split at h
    ·rename_i hg
     split at h
     ·split at h
      ·rename_i hb
       cases h;intro i hi;rcases List.mem_append.1 hi with hi|hi
       ·exact ⟨(j,v),by simp,Fo hg i hi⟩
       ·obtain ⟨q,hq,hm⟩:=FE hb i hi
        exact ⟨q,by simp [hq],hm⟩
      ·cases h
     ·cases h
    ·cases h
end
end Go.Ex
