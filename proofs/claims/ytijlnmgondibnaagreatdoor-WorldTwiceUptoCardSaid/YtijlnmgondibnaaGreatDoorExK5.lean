import Derived.Test.YtijlnmgondibnaaGreatDoorExK4
import Derived.DeepKeys
import Derived.Laws.StructEq
import Derived.MapKept
import Derived.WideKeyRuns
import Derived.Lib.AppendZerosOnto
import Derived.Tactics
set_option linter.unusedVariables false
set_option linter.unusedSimpArgs false
set_option linter.unusedSectionVars false
namespace Go.Ex
section
variable {H H':Array Go.Obj} {S:Nat->Prop}
theorem V1.w6 {q:Bool} {b n:Nat} (h:H'[b]?=H[b]?):V1 q H b n->V1 q H' b n:=by
 rintro ⟨arr,T,⟨fz,e,ef⟩,hn⟩;exact ⟨arr,T,⟨fz,by rw [h]; exact e,ef⟩,hn⟩
theorem P5.w6 {b n:Nat} (h:H'[b]?=H[b]?):P5 H b n->P5 H' b n:=by
 rintro ⟨arr,T,⟨fz,e,ef⟩,hn⟩;exact ⟨arr,T,⟨fz,by rw [h]; exact e,ef⟩,hn⟩
theorem j6.w6 {t:Ty} {O:List Nat} {cs:List Value} {l:List t.den} (h:j6 (i6 H S t) t.size O cs l) (hH:∀ c,c∈O\/S c->H'[c]?=H[c]?):j6 (i6 H' S t) t.size O cs l :=
 j6.mono (L:=O) (λ _ h=>h) (λ _ _ _ hO hr=>hr.w6 (λ c hc=>hH c (hc.imp (hO c) id)) (λ _ h=>h)) h
theorem x7.w6:∀ {t:Ty} {p:List Step} {b off:Nat} {O:List Nat} {x:t.den},x7 H S t p b off O x->(∀ c,c=b\/c∈O\/S c->H'[c]?=H[c]?) ->
  x7 H' S t p b off O x/\C2 H' t p b off=C2 H t p b off:=by
 intro t
 induction t with
 | pair a c iha ihc =>
  intro p b off O x hR hH
  match p,hR with
  | [],hR=>exact ⟨hR,by rw [C3,C3]⟩
  | .l8 0::p,⟨O1,O2,e,h1,h2⟩ =>
   subst e;obtain ⟨k1,k2⟩:=iha h1 (λ c hc=>hH c (hc.imp id (Or.imp (λ h=>by simp [h]) id)));refine ⟨⟨O1,O2,rfl,k1,?_⟩,k2⟩;rw [l6 (hH b (.inl rfl))];exact h2.w6 (λ c hc=>hH c (.inr (hc.imp (λ h=>by simp [h]) id))) (λ _ h=>h)
  | .l8 (n+1)::p,⟨O1,O2,e,h1,h2⟩ =>
   subst e;obtain ⟨k1,k2⟩:=ihc h2 (λ c hc=>hH c (hc.imp id (Or.imp (λ h=>by simp [h]) id)));refine ⟨⟨O1,O2,rfl,?_,k1⟩,k2⟩;rw [l6 (hH b (.inl rfl))];exact h1.w6 (λ c hc=>hH c (.inr (hc.imp (λ h=>by simp [h]) id))) (λ _ h=>h)
  | .idx i::p,hR=>simp [x7] at hR
 | arr n t ih =>
  intro p b off O x hR hH
  match p,hR with
  | [],hR=>exact ⟨hR,by rw [C3,C3]⟩
  | .l8 i::p,hR=>simp [x7] at hR
  | .idx i::p,⟨hl,hi,O1,O2,O3,e,h1,h2,h3⟩ =>
   subst e;obtain ⟨k1,k2⟩:=ih h2 (λ c hc=>hH c (hc.imp id (Or.imp (λ h=>by simp [h]) id)));refine ⟨⟨hl,hi,O1,O2,O3,rfl,?_,k1,?_⟩,k2⟩
   ·rw [l6 (hH b (.inl rfl))]
    exact h1.w6 (λ c hc=>hH c (.inr (hc.imp (λ h=>by simp [h]) id)))
   ·rw [l6 (hH b (.inl rfl))]
    exact h3.w6 (λ c hc=>hH c (.inr (hc.imp (λ h=>by simp [h]) id)))
 | d8 o t ih =>
  intro p b off O x hR hH
  match p,hR with
  | [],hR=>exact ⟨by cases o<;>exact hR,by rw [C3,C3]⟩
  | .l8 i::p,hR=>cases o<;>simp [x7] at hR
  | .idx i::p,hR =>
   cases o with
   | false=>simp [x7] at hR
   | true =>
    obtain ⟨hi,b1,o1,cap,O1,O2,O3,e,e1,e2,e3,e4,h1,h2,h3⟩:=hR;subst e;have dK:H'[b1]?=H[b1]?:=hH b1 (by simp);obtain ⟨k1,k2⟩:=ih h2 (λ c hc=>hH c (hc.elim (λ h=>.inr (.inl (by simp [h]))) (λ h=>.inr (h.imp (λ h=>by simp [h]) id))));refine ⟨⟨hi,b1,o1,cap,O1,O2,O3,rfl,by rw [Q4 (hH b (.inl rfl))]; exact e1,e2,e3,e4.w6 dK,?_,k1,?_⟩,?_⟩
    ·rw [l6 dK]
     exact h1.w6 (λ c hc=>hH c (.inr (hc.imp (λ h=>by simp [h]) id)))
    ·rw [l6 dK]
     exact h3.w6 (λ c hc=>hH c (.inr (hc.imp (λ h=>by simp [h]) id)))
    ·simp only [C2,Q4 (hH b (.inl rfl)),e1]
     exact k2
 | _ =>
  intro p b off O x hR hH
  match p,hR with
  | [],hR=>exact ⟨hR,by rw [C3,C3]⟩
  | .l8 i::p,hR=>simp [x7] at hR
  | .idx i::p,hR=>simp [x7] at hR
end
section
variable {S:Nat->Prop} {ι:Ix} {H H':Array Go.Obj}
theorem x7.move {i:Nat} {e:i7} {p:List Step} (hk:(∃ t x,e=.var t x)\/∃ t x j q,e=.own (.d8 true t) x/\p=.idx j::q) {O:List Nat} (hR:x7 (VH H ι i e) S e.ty p (VR H ι i e).1 (VR H ι i e).2 O e.x)
  (hO:∀ c∈O,c<H.size) (hS:∀ c,S c->c<H.size) (bc:H.size<=H'.size) (hH:∀ c,(c=(VR H ι i e).1/\c<H.size)\/c∈O\/S c->H'[c]?=H[c]?) (bF:(∃ t x,e=.var t x)->(VR H ι i e).1<H.size) :
  x7 (VH H' ι i e) S e.ty p (VR H' ι i e).1 (VR H' ι i e).2 O e.x/\C2 (VH H' ι i e) e.ty p (VR H' ι i e).1 (VR H' ι i e).2=C2 (VH H ι i e) e.ty p (VR H ι i e).1 (VR H ι i e).2:=by
 rcases hk with ⟨t,x,rfl⟩|⟨t,x,j,q,rfl,rfl⟩
 ·exact x7.w6 (H:=H) hR (λ c hc=>hH c (hc.imp (λ h=>⟨h,h▸bF ⟨_,_,rfl⟩⟩) id))
 ·have hg:∀ c,c∈O\/S c->(VH H' ι i (.own (.d8 true t) x))[c]?=(VH H ι i (.own (.d8 true t) x))[c]?:=λ c hc=>by
   have h1:c<H.size:=hc.elim (hO c) (hS c);rw [G8 h1,G8 (Nat.lt_of_lt_of_le h1 bc)];exact hH c (.inr hc)
  obtain ⟨hi,b1,o1,cap,O1,O2,O3,e0,e1,e2,e3,e4,h1,h2,h3⟩:=hR;subst e0;have dK:=hg b1 (by simp);obtain ⟨k1,k2⟩:=x7.w6 h2 (H':=VH H' ι i (.own (.d8 true t) x)) (λ c hc=>hg c (hc.elim (λ h=>.inl (by simp [h])) (λ h=>h.imp (λ h=>by simp [h]) id)));have dR:(x8 (VH H' ι i (.own (.d8 true t) x)) (VR H' ι i (.own (.d8 true t) x)).1)[(VR H' ι i (.own (.d8 true t) x)).2]?=some (.slice (some ⟨b1,o1,none⟩) (List.length x) cap):=by
   refine Eq.trans ?_ (show (x8 (VH H ι i (.own (.d8 true t) x)) (VR H ι i (.own (.d8 true t) x)).1)[(VR H ι i (.own (.d8 true t) x)).2]?=some (.slice (some ⟨b1,o1,none⟩) (List.length x) cap) from e1);simp only [VH,VR,wx]
  refine ⟨⟨hi,b1,o1,cap,O1,O2,O3,rfl,dR,e2,e3,e4.w6 dK,?_,k1,?_⟩,?_⟩
  ·rw [l6 dK]; exact h1.w6 (λ c hc=>hg c (hc.imp (λ h=>by simp [h]) id))
  ·rw [l6 dK]; exact h3.w6 (λ c hc=>hg c (hc.imp (λ h=>by simp [h]) id))
  ·have e1':(x8 (VH H ι i (.own (.d8 true t) x)) (VR H ι i (.own (.d8 true t) x)).1)[(VR H ι i (.own (.d8 true t) x)).2]?=some (.slice (some ⟨b1,o1,none⟩) (List.length x) cap):=e1
   simp only [i7.ty,C2,dR,e1'];exact k2
theorem X0.refl {b off n m:Nat} (h:P5 H b m):X0 H H b off n:=by
 obtain ⟨arr,T,⟨fz,e,ef⟩,_⟩:=h;exact ⟨⟨arr,arr,T,⟨fz,⟨e,ef⟩,e⟩,rfl,λ _ _=>rfl⟩,λ _ _ _=>rfl⟩
theorem QU:∀ {t:Ty} {x:t.den} {p:List Step} {u:Ty} {y:u.den},B8 t x p->j9 t x p=some ⟨u,y⟩->w5 t x p u y=some ⟨t,x⟩:=by
 intro t;have Cf:∀ {α:Type} {l:List α} {i:Int} {d:α},(0<=i/\i<List.length l)->List.set l i.toNat (List.getD l i.toNat d)=l:=by
  intro α l i d h;have h1:i.toNat<l.length:=by omega
  rw [List.getD_eq_getElem?_getD,List.getElem?_eq_getElem h1]; simp
 induction t with
 | pair a c iha ihc =>
  intro x p u y ho hg
  match p,ho,hg with
  | [],_,hg=>simp only [j9,Option.some.injEq] at hg; cases hg; simp [w5]
  | .l8 0::p,ho,hg=>simp only [w5,iha (x:=x.1) ho hg]
  | .l8 (n+1)::p,ho,hg=>simp only [w5,ihc (x:=x.2) (p:=.l8 n::p) ho hg]
  | .idx i::p,ho,_=>simp [B8] at ho
 | arr n t ih =>
  intro x p u y ho hg
  match p,ho,hg with
  | [],_,hg=>simp only [j9,Option.some.injEq] at hg; cases hg; simp [w5]
  | .l8 i::p,ho,_=>simp [B8] at ho
  | .idx i::p,ho,hg =>
   simp only [w5,ih ho.2 hg,dif_pos];by_cases hl:i<List.length x
   ·rw [Cf ⟨ho.1.1,hl⟩]
   ·rw [List.set_eq_of_length_le (by have:=ho.1.1; omega)]
 | d8 o t ih =>
  intro x p u y ho hg
  match p,ho,hg with
  | [],_,hg=>rw [C9] at hg; cases hg; cases o<;>simp [w5]
  | .l8 i::p,ho,_=>cases o<;>simp [B8] at ho
  | .idx i::p,ho,hg =>
   cases o with
   | false=>simp [B8] at ho
   | true =>
    simp only [w5,ih ho.2 hg,dif_pos];rw [Cf ho.1]
 | _ =>
  intro x p u y ho hg
  match p,ho,hg with
  | [],_,hg=>simp only [j9,Option.some.injEq] at hg; cases hg; simp [w5]
  | .idx i::p,ho,_=>simp [B8] at ho
  | .l8 i::p,ho,_=>simp [B8] at ho
theorem OB.set {i:Nat} {e:i7} (ho:OB H S ι i e) (bR:∀ c∈l7 ι i e,¬ S c/\c<H.size) (hS:∀ c,S c->c<H.size) {p:List Step} (hk:(∃ t x,e=.var t x)\/∃ t x j q,e=.own (.d8 true t) x/\p=.idx j::q) (aK:B8 e.ty e.x p) {u:Ty} {y:u.den} (hg:j9 e.ty e.x p=some ⟨u,y⟩)
  {b off:Nat} (hl:Loc H ι i e p=some (b,off)) (bc:H.size<=H'.size) {Op:List Nat} (gT:i6 H S u Op (e8 H b off u.size) y) (hH:∀ c,c<H.size->c∉Op->H'[c]?=H[c]?) {y':u.den} (fL:i6 H' S u Op (e8 H' b off u.size) y') {r:Sigma Ty.den} (aL:w5 e.ty e.x p u y'=some r) :
  OB H' S ι i (e.E8 r)/\Loc H' ι i e p=some (b,off):=by
 have he:e≠.M3:=L8 hl;have fD:=ho.zw he hS aK hg hl gT;obtain ⟨Om,m1,mn,m2,m3,m4,m5⟩:=N5 he ho hS aK hg hl;obtain ⟨O,hO,hR,hb,aN,bj,gy,dY⟩:=ho.see he hS;obtain ⟨O1,O3,b',ar,e1,e2,e3,e4,e5,e6⟩:=focus hR hb aK hg
 obtain ⟨bZ,dv⟩:=D4 hl;rw [I3 he] at bZ;rw [e3] at bZ; cases bZ;have cx:(O1++O3).Nodup:=(e1.nodup_iff).1 ((hO.nodup_iff).2 (List.nodup_cons.1 aN).2);have bq:∀ c∈O1,c∈ι.own i:=λ c hc=>hO.mem_iff.1 (e1.mem_iff.2 (by simp [hc]));have cQ:∀ c∈O3,c∈ι.own i:=λ c hc=>hO.mem_iff.1 (e1.mem_iff.2 (by simp [hc]));have bF:=(List.nodup_cons.1 aN).1;have dp:∀ c∈ι.own i,c∈l7 ι i e:=by intro c hc; cases e<;>simp [l7,hc]
 have e4':i6 H S u O3 (e8 H b off u.size) y:=by
  rw [l6 (G8 dv)] at e4;exact (wj (λ c hc=>ho.U5 he (cQ c hc)) hS).1 e4
 obtain rfl:Op=O3:=gT.det e4';have fc:∀ c∈O1,c<H.size:=λ c hc=>ho.U5 he (bq c hc);have dS:∀ c,(c=(VR H ι i e).1/\c<H.size)\/c∈O1\/S c->H'[c]?=H[c]?:=by
  rintro c (⟨rfl,h1⟩|h1|h1)
  ·exact hH _ h1 (λ h=>bF (cQ _ h))
  ·exact hH c (fc c h1) (λ h=>(List.nodup_append.1 cx).2.2 c h1 c h rfl)
  ·exact hH c (hS c h1) (λ h=>(bR c (dp c (cQ c h))).1 h1)
 have jX:(∃ t x,e=.var t x)->(VR H ι i e).1<H.size:=by rintro ⟨t,x,rfl⟩; exact bj
 obtain ⟨n1,n2⟩:=x7.move (H':=H') hk e2 fc hS bc dS jX;have cX:(VR H' ι i e).2+e.ty.size<=(x8 (VH H' ι i e) (VR H' ι i e).1).length/\(VR H' ι i e).1<(VH H' ι i e).size/\¬ S (VR H' ι i e).1/\(VR H' ι i e).1∉O1:=by
  rcases hk with ⟨t,x,rfl⟩|⟨t,x,j,q,rfl,rfl⟩
  ·have hr:=jX ⟨_,_,rfl⟩
   refine ⟨?_,Nat.lt_of_lt_of_le hr bc,(bR _ (by simp [l7,VR])).1,λ h=>bF (bq _ h)⟩;have:=Q4 (dS _ (.inl ⟨rfl,hr⟩));show (VR H ι i (.var t x)).2+_<=(x8 H' (VR H ι i (.var t x)).1).length;rw [this]; exact hb
  ·refine ⟨?_,by simp [VH,VR,BK],λ h=>by have:=hS _ h; simp only [VR] at this; omega,λ h=>by have:=fc _ h; simp only [VR] at this; omega⟩
   simp only [VH,VR,wx] at hb ⊢; exact hb
 have gk:P5 (VH H' ι i e) b (off+u.size):=P5.w6 (H:=H') (G8 (Nat.lt_of_lt_of_le dv bc)) (m5.w6 (hH b dv fD));have tR:i6 (VH H' ι i e) S u Op (e8 (VH H' ι i e) b off u.size) y':=by
  rw [l6 (G8 (Nat.lt_of_lt_of_le dv bc))];exact (wj (λ c hc=>Nat.lt_of_lt_of_le (ho.U5 he (cQ c hc)) bc) (λ c hc=>Nat.lt_of_lt_of_le (hS c hc) bc)).2 fL
 obtain ⟨O4,f1,f2,f3⟩:=BO n1 hg (n2.trans e3) cX.1 cX.2.1 (List.nodup_append.1 cx).1 cX.2.2.2 (λ c hc=>⟨(bR c (dp c (bq c hc))).1,Nat.lt_of_lt_of_le (fc c hc) (Nat.le_trans bc xh)⟩) cX.2.2.1
  (λ c hc=>Nat.lt_of_lt_of_le (hS c hc) (Nat.le_trans bc xh)) (λ _ h=>h) (X0.refl gk) tR aL
 have bU:∀ c∈O4,c∈ι.own i:=λ c hc=>(List.mem_append.1 (f1.mem_iff.1 hc)).elim (bq c) (cQ c);have ik:O4.Nodup:=(f1.nodup_iff).2 cx;have f2':=(wj (λ c hc=>Nat.lt_of_lt_of_le (ho.U5 he (bU c hc)) bc) (λ c hc=>Nat.lt_of_lt_of_le (hS c hc) bc)).1 f2;have rl:O4.Perm (ι.own i):=f1.trans (e1.symm.trans hO);refine ⟨?_,wi (by rw [I3 he,n2]; exact e3) (Nat.lt_of_lt_of_le dv bc)⟩;have fS:r.1.size=e.ty.size:=G7 f3;cases e with
 | var t x =>
  obtain ⟨_,hf,gG⟩:=ho;have hf:P5 H (ι.root i).1 ((ι.root i).2+t.size):=hf;refine ⟨⟨O4,rl,f2'⟩,?_,gG⟩;have fS:r.1.size=t.size:=fS;show P5 H' (ι.root i).1 ((ι.root i).2+r.1.size);rw [fS];exact hf.w6 (dS _ (.inl ⟨rfl,jX ⟨_,_,rfl⟩⟩))
 | own t x =>
  obtain ⟨⟨O',_,fL⟩,gG⟩:=ho;refine ⟨⟨O4,rl,?_⟩,gG⟩;have fS:r.1.size=t.size:=fS;have:e8 (VH H' ι i (.own t x)) (VR H' ι i (.own t x)).1 (VR H' ι i (.own t x)).2 r.1.size=ι.cells i:=by
   simp only [VH,VR,e8,wx,List.drop_zero];exact List.take_of_length_le (by rw [fL.length,fS]; exact Nat.le_refl _)
  have f2'':i6 H' S r.1 O4 (e8 (VH H' ι i (.own t x)) (VR H' ι i (.own t x)).1 (VR H' ι i (.own t x)).2 r.1.size) r.2:=f2';rw [this] at f2'';exact f2''
 | M3=>exact absurd rfl he
theorem OB.same {i:Nat} {e:i7} (ho:OB H S ι i e) (bR:∀ c∈l7 ι i e,¬ S c/\c<H.size) (hS:∀ c,S c->c<H.size) {p:List Step} (hk:(∃ t x,e=.var t x)\/∃ t x j q,e=.own (.d8 true t) x/\p=.idx j::q) (aK:B8 e.ty e.x p) {u:Ty} {y:u.den} (hg:j9 e.ty e.x p=some ⟨u,y⟩)
  {b off:Nat} (hl:Loc H ι i e p=some (b,off)) (bc:H.size<=H'.size) {Op:List Nat} (gT:i6 H S u Op (e8 H b off u.size) y) (hH:∀ c,c<H.size->c∉Op->H'[c]?=H[c]?) (fL:i6 H' S u Op (e8 H' b off u.size) y) :
  OB H' S ι i e/\Loc H' ι i e p=some (b,off):=by
 have h1:=OB.set ho bR hS hk aK hg hl bc gT hH fL (QU aK hg);have he:=L8 hl;have e9:e.E8 ⟨e.ty,e.x⟩=e:=by cases e<;>first|rfl|exact absurd rfl he
 rw [e9] at h1;exact h1
end
section
variable {E:Env} {B:F3} {S:Nat->Prop} {ι:Ix} {s:St} {a:Act} {w:World}
theorem BY {H:Array Go.Obj} {i:Nat} {e:i7} (ho:OB H S ι i e) (hS:∀ c,S c->c<H.size) {p:List Step} (ko:(∃ t x,e=.var t x)\/∃ t x j q,e=.own (.d8 true t) x/\p=.idx j::q) (aK:B8 e.ty e.x p) {u:Ty} {y:u.den} (hg:j9 e.ty e.x p=some ⟨u,y⟩) :
  ∃ b off,Loc H ι i e p=some (b,off):=by
 have cL:e≠.M3:=by rcases ko with ⟨_,_,rfl⟩|⟨_,_,_,_,rfl,_⟩<;>(intro h; cases h)
 obtain ⟨O,hO,hR,eA,gG,pS,gy,dY⟩:=ho.see cL hS;obtain ⟨O1,O3,b',ar,g1,g2,g3,g4,g5,g6⟩:=focus hR eA aK hg
 have cj:∀ c∈O1,c<H.size:=λ c hc=>ho.U5 cL (hO.mem_iff.1 (g1.mem_iff.2 (by simp [hc])));refine ⟨b',ar,wi (by rw [I3 cL]; exact g3) ?_⟩;rcases ko with ⟨t,x,rfl⟩|⟨t,x,j,q,rfl,rfl⟩
 ·rcases x7.range g2 hg g3 with ⟨h1,_⟩|h1
  ·rw [h1]; exact ho.2.1.lt
  ·exact cj _ h1
 ·obtain ⟨hi,c1,o1,cap,P1,P2,P3,e,e1,e2,e3,e4,e5,e6,e7⟩:=g2
  subst e;have e1':(x8 (VH H ι i (.own (.d8 true t) x)) (VR H ι i (.own (.d8 true t) x)).1)[(VR H ι i (.own (.d8 true t) x)).2]?=some (.slice (some ⟨c1,o1,none⟩) (List.length x) cap):=e1;simp only [i7.ty,C2,e1'] at g3;rcases x7.range e6 hg g3 with ⟨h1,_⟩|h1
  ·rw [h1]; exact cj _ (by simp)
  ·exact cj _ (by simp [h1])
theorem c0W {e:i7} {p:List Step} {r:Sigma Ty.den} (h:za e p r=true):(∃ t x,e=.var t x)\/∃ t x,e=.own (.d8 true t) x/\(p=[]\/∃ j q,p=.idx j::q):=by
 unfold za at h;split at h
 ·exact .inl ⟨_,_,rfl⟩
 ·simp only [Bool.and_eq_true] at h
  obtain ⟨_,h⟩:=h;split at h
  ·exact .inr ⟨_,_,rfl,.inl rfl⟩
  ·exact .inr ⟨_,_,rfl,.inr ⟨_,_,rfl⟩⟩
  ·cases h
 ·cases h
theorem SP {e:i7} {p:List Step} {r:Sigma Ty.den} (h:za e p r=true):By e (e.E8 r):=by
 unfold za at h;obtain ⟨r1,r2⟩:=r;split at h
 ·rename_i t x
  obtain rfl:r1=t:=of_decide_eq_true h;exact .inl ⟨r1,x,r2,rfl,rfl⟩
 ·rename_i t x
  simp only [Bool.and_eq_true] at h;obtain rfl:r1=.d8 true t:=of_decide_eq_true h.1;exact .inr (.inl ⟨t,x,r2,rfl,rfl⟩)
 ·cases h
theorem b8c {P:Program} (h:RS B S ι s a w) {i:Nat} {e:i7} (he:look i s.hp=some e) {p:List Step} (aK:B8 e.ty e.x p) {t0:Ty} {l:List t0.den} (hg:j9 e.ty e.x p=some ⟨.d8 true t0,l⟩) (ch:t0.shared=true)
  {b1 o1 cap:Nat} (hc:Cells w.heap ι i e p (.d8 true t0) [.slice (some ⟨b1,o1,none⟩) l.length cap]) (lO:1<=cap) {lo:Nat} {m:List t0.den} (jf:lo+m.length<=l.length) {news:List Value} (hN:j6 (i6 w.heap S t0) t0.size [] news m)
  {r:Sigma Ty.den} (aL:w5 e.ty e.x p (.d8 true t0) (l.take lo++m++l.drop (lo+m.length))=some r) (bP:za e p r=true) :
  ∃ w' ι',(storeCells ⟨b1,o1+lo*t0.size,none⟩ news).run P w=.ok () w'/\RS B S ι' ((s.Z9 i e.vu).y9 i (e.E8 r)) a w':=by
 have cL:e≠.M3:=CA hc;obtain ⟨Op,m1,mn,hR⟩:=H4 h.hs he aK hg hc;have bR:∀ c∈l7 ι i e,¬ S c/\c<w.heap.size:=λ c cZ=>⟨(h.hs.bl i e he c cZ).1,(h.hs.bl i e he c cZ).2.2⟩;have fK:=hR;rcases hR with ⟨_,⟨A,c,e0,eS⟩,_⟩|⟨b2,o2,cap2,O',c1,c2,c3,c4,c5,rfl,c7⟩
 ·simp only [List.cons.injEq,Value.slice.injEq,and_true] at e0
  have:=eS rfl; omega
 simp only [List.cons.injEq,Value.slice.injEq,Option.some.injEq,Addr.mk.injEq,and_true,true_and] at c1;obtain ⟨⟨rfl,rfl⟩,rfl⟩:=c1;have gU:O'=[]:=j6.O7 (λ _ _ _ hr=>i6.O7 ch hr) c5;subst gU;have dK:b1∈l7 ι i e:=J1 (m1 b1 (by simp));have ic:=(bR b1 dK).2;have gA:news.length=m.length*t0.size:=j6.length (λ _ _ _ h=>h.length) hN;have sR:lo*t0.size+m.length*t0.size<=l.length*t0.size:=by rw [<- Nat.add_mul]; exact Nat.mul_le_mul_right _ jf
 have sQ:l.length*t0.size<=cap*t0.size:=Nat.mul_le_mul_right _ c2;obtain ⟨arr,T',⟨fz,e1,ef⟩,hn⟩:=c7;have dR:x8 w.heap b1=arr.toList:=by simp only [x8,e1]
 have jy:=FF (P:=P) b1 (o1+lo*t0.size) T' fz news 0 arr w ⟨e1,ef.imp id (·.2)⟩ (by omega) (λ v hv=>(j6.plain (λ _ _ _ hr=>hr.plain) hN v hv).1);simp only [Nat.add_zero] at jy;have iL:arr.toList.take (o1+lo*t0.size)++news++arr.toList.drop (o1+lo*t0.size+news.length)=over (x8 w.heap b1) (o1+lo*t0.size) news:=by rw [dR]; rfl
 rw [iL] at jy;obtain ⟨fm,cI⟩:=EY (w:=w) (b:=b1) (off:=o1+lo*t0.size) (cs:=news) ⟨arr,T',⟨fz,e1,ef.imp id (·.2)⟩,by omega⟩;generalize gX:w.setRow b1 (over (x8 w.heap b1) (o1+lo*t0.size) news).toArray=w' at jy fm cI;have bc:w'.heap.size=w.heap.size:=by rw [<- gX]; exact setRow_size
 have bp:F9 [b1] w w':=⟨by rw [<- gX]; rfl,.of (by rw [<- gX]; rfl) (by rw [<- gX]; rfl),by rw [<- gX]; rfl,by rw [bc]; exact Nat.le_refl _,λ c _ cD=>by rw [<- gX]; exact setRow_other (by simpa using cD)⟩;have dY:V1 t0.isB w'.heap b1 (o1+cap*t0.size):=fm.Ha ⟨arr,T',⟨fz,e1,ef⟩,hn⟩;have hlen:(l.take lo++m++l.drop (lo+m.length)).length=l.length:=by simp only [List.length_append,List.length_take,List.length_drop]; omega
 have kR:∀ {O:List Nat} {cs:List Value} {y:t0.den},i6 w.heap S t0 O cs y->i6 w'.heap S t0 O cs y:=by
  intro O cs y hr;have hO:=i6.O7 ch hr;subst hO;refine hr.w6 (λ c cZ=>bp.frame c ?_ ?_) (λ _ h=>h)
  ·rcases cZ with h9|h9
   ·cases h9
   ·exact h.hs.slt c h9
  ·rcases cZ with h9|h9
   ·cases h9
   ·rintro h8
    have:c=b1:=by simpa using h8
    exact (bR b1 dK).1 (this▸h9)
 have iQ:∀ {cs:List Value} {l':List t0.den},j6 (i6 w.heap S t0) t0.size [] cs l'->j6 (i6 w'.heap S t0) t0.size [] cs l':=λ hr=>j6.mono (L:=[]) (λ _ h=>h) (λ _ _ _ _ hr=>kR hr) hr;have eK:∀ {k:Nat} {l':List t0.den} {O:List Nat} {cs:List Value},k<=l'.length->j6 (i6 w.heap S t0) t0.size O cs l'->j6 (i6 w.heap S t0) t0.size [] (cs.take (k*t0.size)) (l'.take k)/\j6 (i6 w.heap S t0) t0.size [] (cs.drop (k*t0.size)) (l'.drop k):=by
  intro k
  induction k with
  | zero =>
   intro l' O cs _ hr;have:=j6.O7 (λ _ _ _ hr=>i6.O7 ch hr) hr;subst this;simp only [Nat.zero_mul,List.take_zero,List.drop_zero];exact ⟨⟨rfl,rfl⟩,hr⟩
  | succ k ih =>
   intro l' O cs hk hr
   match l',hk,hr with
   | x::l',hk,⟨O1,O2,_,r1,r2⟩ =>
    obtain ⟨q1,q2⟩:=ih (by simpa using hk) r2;have e9:=i6.O7 ch r1;subst e9;refine ⟨⟨[],[],rfl,?_,?_⟩,?_⟩
    ·rw [List.take_take,Nat.min_eq_left (by rw [Nat.succ_mul]; omega)]; exact r1
    ·rw [List.drop_take,show (k+1)*t0.size - t0.size=k*t0.size by rw [Nat.succ_mul]; omega]; exact q1
    ·rw [List.drop_drop,show t0.size+k*t0.size=(k+1)*t0.size by rw [Nat.succ_mul]; omega] at q2; exact q2
 have bN:e8 w'.heap b1 o1 (l.length*t0.size)=(e8 w.heap b1 o1 (l.length*t0.size)).take (lo*t0.size)++news++(e8 w.heap b1 o1 (l.length*t0.size)).drop ((lo+m.length)*t0.size):=by
  have e3:l.length*t0.size=lo*t0.size+(news.length+(l.length - (lo+m.length))*t0.size):=by
   rw [gA,<- Nat.add_mul,<- Nat.add_mul]; congr 1; omega
  have e4:o1+lo*t0.size+news.length=o1+(lo+m.length)*t0.size:=by rw [gA,Nat.add_mul]; omega
  rw [n8 _ _ _ _ (by omega),o6];have e5:l.length*t0.size - (lo+m.length)*t0.size=(l.length - (lo+m.length))*t0.size:=by rw [Nat.sub_mul]
  rw [e5]
  conv=>lhs; rw [e3]
  rw [KU,KU,cI,e4,fm.cells ic (λ _=>.inl (Nat.le_refl _)),fm.cells ic (λ _=>.inr (by rw [gA,Nat.add_mul]; omega)),List.append_assoc]
 have qN:j6 (i6 w'.heap S t0) t0.size [] (e8 w'.heap b1 o1 (l.length*t0.size)) (l.take lo++m++l.drop (lo+m.length)):=by
  rw [bN];exact j6.append (λ _ _ _ h=>h.length) (j6.append (λ _ _ _ h=>h.length) (iQ (eK (by omega) c5).1) (iQ hN)) (iQ (eK (by omega) c5).2)
 have fL:i6 w'.heap S (.d8 true t0) [b1] [.slice (some ⟨b1,o1,none⟩) l.length cap] (l.take lo++m++l.drop (lo+m.length)):=by
  refine .inr ⟨b1,o1,cap,[],by rw [hlen],by rw [hlen]; exact c2,c3,?_,by rw [hlen]; exact qN,rfl,dY⟩;rw [hlen];have:=dY.free.x8;omega
 have tY:∃ O,OB w'.heap S (ι.D8 i O) i (e.E8 r)/\∀ c∈l7 (ι.D8 i O) i (e.E8 r),c∈l7 ι i e:=by
  have bo:∀ (ob:OB w'.heap S ι i (e.E8 r)),∃ O,OB w'.heap S (ι.D8 i O) i (e.E8 r)/\∀ c∈l7 (ι.D8 i O) i (e.E8 r),c∈l7 ι i e:=by
   intro ob;refine ⟨ι.own i,?_,?_⟩
   ·cases e<;>simpa [OB,Ix.D8,i7.E8] using ob
   ·intro c cZ
    cases e with
    | var t x=>simpa [l7,Ix.D8,i7.E8] using cZ
    | own t x=>simpa [l7,Ix.D8,i7.E8] using cZ
    | M3=>exact absurd rfl cL
  obtain ⟨b0,off0,bZ,gN⟩:=hc;rcases c0W bP with ⟨t,x,rfl⟩|⟨t,x,rfl,hp⟩
  ·
   have mU:=aK;obtain ⟨b,off,hl⟩:=BY (h.hs.ob i _ he) h.hs.slt (.inl ⟨_,_,rfl⟩) aK hg;have iJ:=(D4 hl).1;rw [bZ] at iJ; cases iJ;have dQ:=(D4 hl).2;obtain ⟨Oq,q1,q2,q3,q4,q5,q6⟩:=N5 cL (h.hs.ob i _ he) h.hs.slt aK hg hl;have jj:e8 w.heap b0 off0 1=[.slice (some ⟨b1,o1,none⟩) l.length cap]:=by
    rw [l6 (G8 dQ)] at gN; exact gN.symm
   have qP:Oq=[b1]:=by
    have q3':i6 w.heap S (.d8 true t0) Oq [.slice (some ⟨b1,o1,none⟩) l.length cap] l:=by rw [<- jj]; exact q3
    exact q3'.det fK
   subst qP;have lF:=(h.hs.ob i _ he).zw cL h.hs.slt aK hg hl q3;have lC:e8 w'.heap b0 off0 1=[.slice (some ⟨b1,o1,none⟩) l.length cap]:=by
    rw [l6 (bp.frame b0 dQ lF)]; exact jj
   exact bo (OB.set (h.hs.ob i _ he) bR h.hs.slt (.inl ⟨_,_,rfl⟩) aK hg hl (by rw [bc]; exact Nat.le_refl _) q3 (λ c cM kv=>bp.frame c cM kv) (by
    show i6 w'.heap S (.d8 true t0) [b1] (e8 w'.heap b0 off0 1) _;rw [lC]; exact fL) aL).1
  ·
   rcases hp with rfl|⟨j,q,rfl⟩
   ·have kt:j9 (.d8 true t) x []=some ⟨.d8 true t0,l⟩:=hg
    rw [C9] at kt;simp only [Option.some.injEq,Sigma.mk.injEq,Ty.d8.injEq,true_and] at kt;obtain ⟨rfl,kG⟩:=kt;obtain rfl:x=l:=eq_of_heq kG;obtain ⟨⟨O9,sC,qO⟩,pM⟩:=h.hs.ob i _ he;have iW:ι.cells i=[.slice (some ⟨b1,o1,none⟩) (List.length x) cap]:=by
     rw [I3 cL,C3] at bZ;cases bZ;have rq:(ι.cells i).length=1:=qO.length;simp only [VH,VR,e8,wx,List.drop_zero,Ty.size] at gN;rw [List.take_of_length_le (by omega)] at gN;exact gN.symm
    have jY:w5 (.d8 true t) x [] (.d8 true t) (x.take lo++m++x.drop (lo+m.length))=some r:=aL;have hr:r=⟨.d8 true t,x.take lo++m++x.drop (lo+m.length)⟩:=by
     simp only [w5,if_true,Option.some.injEq] at jY;exact jY.symm
    subst hr;rw [iW] at qO;have tZ:O9=[b1]:=qO.det fK;subst tZ;refine bo ⟨⟨[b1],sC,?_⟩,pM⟩;rw [iW]; exact fL
   ·obtain ⟨b,off,hl⟩:=BY (h.hs.ob i _ he) h.hs.slt (.inr ⟨_,_,_,_,rfl,rfl⟩) aK hg
    have iJ:=(D4 hl).1;rw [bZ] at iJ; cases iJ;have dQ:=(D4 hl).2;obtain ⟨Oq,q1,q2,q3,q4,q5,q6⟩:=N5 cL (h.hs.ob i _ he) h.hs.slt aK hg hl;have jj:e8 w.heap b0 off0 1=[.slice (some ⟨b1,o1,none⟩) l.length cap]:=by
     rw [l6 (G8 dQ)] at gN; exact gN.symm
    have qP:Oq=[b1]:=by
     have q3':i6 w.heap S (.d8 true t0) Oq [.slice (some ⟨b1,o1,none⟩) l.length cap] l:=by rw [<- jj]; exact q3
     exact q3'.det fK
    subst qP;have lF:=(h.hs.ob i _ he).zw cL h.hs.slt aK hg hl q3;have lC:e8 w'.heap b0 off0 1=[.slice (some ⟨b1,o1,none⟩) l.length cap]:=by
     rw [l6 (bp.frame b0 dQ lF)]; exact jj
    exact bo (OB.set (h.hs.ob i _ he) bR h.hs.slt (.inr ⟨_,_,_,_,rfl,rfl⟩) aK hg hl (by rw [bc]; exact Nat.le_refl _) q3 (λ c cM kv=>bp.frame c cM kv) (by
     show i6 w'.heap S (.d8 true t0) [b1] (e8 w'.heap b0 off0 1) _;rw [lC]; exact fL) aL).1
 obtain ⟨O,aX,oK⟩:=tY;refine ⟨w',_,jy,h.renew he (SP bP) G5.nil (L:=l7 ι i e) (bp.mono (by simpa using dK)) (λ b hb=>.inl hb) (λ _ h=>h) (λ _ h=>.inl h) (O':=O) aX (λ c cZ=>?_)⟩;have:=h.hs.bl i e he c (oK c cZ);exact ⟨this.1,.inr (oK c cZ),by rw [bc]; exact this.2.2⟩
theorem c0V (h:RS B S ι s a w) {i:Nat} {e:i7} (he:look i s.hp=some e) {p:List Step} {r:Sigma Ty.den} (bP:za e p r=true) (hr:e.E8 r=e):∃ ι',RS B S ι' ((s.Z9 i e.vu).y9 i (e.E8 r)) a w:=by
 have eU:=SP bP;rw [hr] at eU ⊢;have hs:ι.D8 i (ι.own i)=ι:=by
  cases ι with
  | mk r c o =>
   simp only [Ix.D8,Ix.mk.injEq,true_and]
   funext j
   split
   ·rename_i e9; rw [e9]
   ·rfl
 exact ⟨_,h.renew he eU G5.nil (L:=l7 ι i e) ⟨rfl,.refl _,rfl,Nat.le_refl _,λ _ _ _=>rfl⟩ (λ b hb=>.inl hb) (λ _ h=>h) (λ _ h=>.inl h) (O':=ι.own i) (by rw [hs]; exact h.hs.ob i e he) (λ c cZ=>by
  rw [hs] at cZ;have:=h.hs.bl i e he c cZ;exact ⟨this.1,.inr cZ,this.2.2⟩)⟩
theorem IH (h:RS B S ι s a w) {v:AV} {val:Value} (hv:VX w.heap S ι s.hp v [val]) {i:Nat} {p:List Step} {lo hi:Int} (hd:v.wq s=some (i,p,lo,hi)) :
  ∃ e t0 l A cap c A',look i s.hp=some e/\B8 e.ty e.x p/\j9 e.ty e.x p=some ⟨.d8 true t0,l⟩/\Cells w.heap ι i e p (.d8 true t0) [.slice A (List.length l) cap]/\0<=lo/\lo<=hi/\hi<=(List.length l:Int) /\
   val=.slice A' (hi - lo).toNat c/\(c≠0->A'=A.map (·.add (lo.toNat*t0.size)))/\(hi - lo).toNat<=c:=by
 unfold AV.wq at hd;split at hd
 ·rename_i j q
  split at hd
  ·rename_i t0 l cV
   cases hd;obtain ⟨e,u,y,cs,h1,h2,h3,h4,h5⟩:=hv;have hg:=I5 h1 cV;rw [h3] at hg; cases hg;obtain ⟨O2,m1,m2,m3⟩:=H4 h.hs h1 h2 h3 h4;obtain ⟨A,cap,cI,hle⟩:∃ A cap,cs=[.slice A (List.length l) cap]/\List.length l<=cap:=by
    rcases m3 with ⟨_,⟨A,c,e0,eS⟩,hl⟩|⟨b2,o2,cap2,O',c1,c2,_⟩
    ·subst hl; exact ⟨A,c,e0,Nat.zero_le _⟩
    ·exact ⟨_,_,c1,c2⟩
   subst cI;refine ⟨e,t0,l,A,cap,cap,A,h1,h2,h3,h4,Int.le_refl _,by omega,Int.le_refl _,?_,λ _=>?_,by omega⟩
   ·have h5:val=.slice A (List.length l) cap:=by simpa [s5,Ty.agg] using h5
    rw [h5,show ((List.length l:Int) - 0).toNat=List.length l by omega]
   ·cases A with
    | none=>rfl
    | some A=>simp [Addr.add]
  ·cases hd
 ·rename_i j q lo' cY
  split at hd
  ·rename_i t0 l cV
   cases hd;obtain ⟨e,v',h1,h2,h3,h4,h5,h6⟩:=hv;have hg:=I5 h1 cV;cases h3;rcases h6 with ⟨t1,l1,A,cap,k1,k2,k3,c,A',k4,k5,k6,k7⟩|⟨n,t1,l1,b,off,k1,_,_,_⟩
   ·rw [k1] at hg; cases hg
    exact ⟨e,t0,l,A,cap,c,A',h1,h2,k1,k3,h4,h5,k2,k4,k5,k6⟩
   ·rw [k1] at hg; cases hg
  ·cases hd
 ·cases hd
theorem Zx {t:Ty} {O:List Nat} {cs:List Value} {l:List t.den} (ch:t.shared=true) (hr:j6 (i6 w.heap S t) t.size O cs l):∀ {k:Nat},j6 (i6 w.heap S t) t.size [] (cs.take (k*t.size)) (l.take k):=by
 have hO:=j6.O7 (λ _ _ _ hr=>i6.O7 ch hr) hr;subst hO;intro k
 induction k generalizing cs l with
 | zero=>simp only [Nat.zero_mul,List.take_zero]; exact ⟨rfl,rfl⟩
 | succ k ih =>
  match l,hr with
  | [],⟨_,e⟩=>subst e; simp only [List.take_nil]; exact ⟨rfl,rfl⟩
  | x::l,⟨O1,O2,e,r1,r2⟩ =>
   obtain ⟨rfl,rfl⟩:=List.append_eq_nil_iff.1 e.symm;refine ⟨[],[],rfl,?_,?_⟩
   ·rw [List.take_take,Nat.min_eq_left (by rw [Nat.succ_mul]; omega)]; exact r1
   ·rw [List.drop_take,show (k+1)*t.size - t.size=k*t.size by rw [Nat.succ_mul]; omega]; exact ih r2
theorem KX {P:Program} (h:RS B S ι s a w) {v:AV} {val:Value} (hv:VX w.heap S ι s.hp v [val]) {i:Nat} {p:List Step} {lo hi:Int} (hd:v.wq s=some (i,p,lo,hi)) {t:Ty} {m:List t.den} (hm:(m.length:Int)<=hi - lo) {news:List Value} (hN:j6 (i6 w.heap S t) t.size [] news m)
  {s':St} (hf:vR s i p lo.toNat t m=some s'):∃ w' ι' A' c,val=.slice A' (hi - lo).toNat c/\RS B S ι' s' a w'/\((A'=none/\m=[]/\w'=w)\/∃ A,A'=some A/\(storeCells A news).run P w=.ok () w'):=by
 obtain ⟨e,t0,l,A,cap,c,A',h1,h2,h3,h4,h5,h6,h7,h8,h9,jo⟩:=IH h hv hd;unfold vR at hf;have aX:s.obj i=some e:=h1;rw [aX] at hf;simp only [h3] at hf;split at hf
 ·rename_i ht
  subst ht;split at hf
  ·rename_i r aL
   split at hf
   ·rename_i hc
    simp only [Bool.and_eq_true] at hc;cases hf;have aL:w5 e.ty e.x p (.d8 true t) (l.take lo.toNat++m++l.drop (lo.toNat+m.length))=some r:=aL;by_cases iw:m=[]
    ·subst iw
     have di:news=[]:=hN.2;subst di;have bo:w5 e.ty e.x p (.d8 true t) l=some r:=by
      rw [<- aL]; congr 1; simp
     have hr:r=⟨e.ty,e.x⟩:=by
      have:=QU h2 h3;rw [bo] at this; cases this; rfl
     have oY:e.E8 r=e:=by
      rw [hr];cases e with
      | M3=>rfl
      | _=>rfl
     obtain ⟨ι',cu⟩:=c0V h h1 hc.2 oY;refine ⟨w,ι',A',c,h8,cu,?_⟩;cases A' with
     | none=>exact .inl ⟨rfl,rfl,rfl⟩
     | some A=>exact .inr ⟨A,rfl,by simp [storeCells]⟩
    ·have iv:1<=m.length:=List.length_pos_iff.2 iw
     have eS:c≠0:=by omega
     have hA:=h9 eS;obtain ⟨Op,m1,mn,hR⟩:=H4 h.hs h1 h2 h3 h4;rcases hR with ⟨_,⟨A9,c9,e0,uP⟩,hl⟩|⟨b2,o2,cap2,O',c1,c2,c3,_⟩
     ·rw [hl] at h7; simp at h7; omega
     ·simp only [List.cons.injEq,Value.slice.injEq,and_true,true_and] at c1
      obtain ⟨rfl,rfl⟩:=c1;obtain ⟨w',ι',k1,k2⟩:=b8c (P:=P) h h1 h2 h3 hc.1 h4 (c3.2 rfl) (lo:=lo.toNat) (m:=m) (by omega) hN aL hc.2;refine ⟨w',ι',A',c,h8,k2,.inr ⟨⟨b2,o2+lo.toNat*t.size,none⟩,by rw [hA]; simp [Addr.I2],k1⟩⟩
   ·cases hf
  ·cases hf
 ·cases hf
end
end Go.Ex
namespace Go.Ex
theorem QZ {P:Program} {k:Nat} {T:TypeId} {t:Ty} (h:p9 P k T (.hole t)=true):∃ e,P.underlying T=some (.slice e):=by
 cases k with
 | zero=>simp [p9] at h
 | succ k =>
  obtain ⟨d,h1,h2⟩:=R6 h;simp only [p9,Bool.and_eq_true,h1] at h;obtain ⟨_,h⟩:=h;cases d<;>first|(exact (Bool.false_ne_true h).elim)|skip
  ·exact ⟨_,h1⟩
  ·rename_i fs
   have h:n7 (p9 P k) fs.toList 0 (.hole t)=true:=h;cases hf:fs.toList<;>(rw [hf] at h; simp [n7] at h)
theorem PJ {P:Program} {k:Nat} {T:TypeId} {t:Ty} (h:p9 P k T (.C6 t)=true):∃ e,P.underlying T=some (.slice e):=by
 cases k with
 | zero=>simp [p9] at h
 | succ k =>
  obtain ⟨d,h1,h2⟩:=R6 h;simp only [p9,Bool.and_eq_true,h1] at h;obtain ⟨_,h⟩:=h;cases d<;>first|(exact (Bool.false_ne_true h).elim)|skip
  ·exact ⟨_,h1⟩
  ·rename_i fs
   have h:n7 (p9 P k) fs.toList 0 (.C6 t)=true:=h;cases hf:fs.toList<;>(rw [hf] at h; simp [n7] at h)
section
variable {E:Env} {B:F3} {S S':Nat->Prop} {ι:Ix} {s:St} {a:Act} {w:World} {hp:List (Nat×i7)} {H H':Array Go.Obj}
theorem SZ {P:Program} {e:TypeId} {t:Ty} {n d:Nat} (hT:p9 P n e t=true)
  (hA:∀ {cs cs':List Value} {x y:t.den},i6 H S t [] cs x->i6 H' S' t [] cs' y->(Op.equalIn d e (s5 t cs) (s5 t cs')).run P w=.ok (eqD t x y) w) {cs cs':List Value} :
  ∀ {l l':List t.den} {k:Nat},l.length=l'.length->j6 (i6 H S t) t.size [] (cs.drop (k*t.size)) l->j6 (i6 H' S' t) t.size [] (cs'.drop (k*t.size)) l' ->
   (Op.eqItems d e t.size cs.toArray cs'.toArray (List.range' k l.length)).run P w=.ok (eqD.AT (eqD t) l l') w
 | [],[],k,_,_,_=>by simp [Op.eqItems,eqD.AT]
 | [],_::_,_,h,_,_=>by cases h
 | _::_,[],_,h,_,_=>by cases h
 | x::l,y::l',k,hl,⟨O1,O2,e1,h1,h2⟩,⟨O3,O4,e2,h3,h4⟩=>by
  obtain ⟨rfl,rfl⟩:=List.append_eq_nil_iff.1 e1.symm;obtain ⟨rfl,rfl⟩:=List.append_eq_nil_iff.1 e2.symm;have p1:=yC (w:=w) hT h1;have p2:=yC (w:=w) hT h3;have e3:=hA h1 h3;have hk:k*t.size+t.size=(k+1)*t.size:=by rw [Nat.succ_mul]
  rw [List.drop_drop,hk] at h2 h4;have ih:=SZ hT hA (l:=l) (l':=l') (k:=k+1) (by simpa using hl) h2 h4;simp only [List.length_cons,List.range'_succ,Op.eqItems,Sem.run_bind,p1,p2,Result.andThen,e3,eqD.AT];cases hq:eqD t x y with
  | true=>simpa using ih
  | false=>simp
theorem run_eq {P:Program}:∀ (t:Ty),
  (∀ {n m d:Nat} {T:TypeId} {cs cs':List Value} {x y:t.den},p9 P n T t=true->Y7 P m T t=true->t.ht<d->i6 H S t [] cs x->i6 H' S' t [] cs' y->(Op.equalIn d T (s5 t cs) (s5 t cs')).run P w=.ok (eqD t x y) w) /\
  (∀ {n m d off:Nat} {fs:List Field} {cs cs':List Value} {x y:t.den},n7 (p9 P n) fs off t=true->yg (Y7 P m) fs t=true->t.ht<=d->i6 H S t [] ((cs.drop off).take t.size) x->i6 H' S' t [] ((cs'.drop off).take t.size) y ->
   (Op.eqFields d cs.toArray cs'.toArray fs).run P w=.ok (eqD t x y) w):=by
 intro t;have strct:∀ {t:Ty},t.agg=true->(∀ n u,t≠.arr n u) ->
  (∀ {n m d off:Nat} {fs:List Field} {cs cs':List Value} {x y:t.den},n7 (p9 P n) fs off t=true->yg (Y7 P m) fs t=true->t.ht<=d->i6 H S t [] ((cs.drop off).take t.size) x->i6 H' S' t [] ((cs'.drop off).take t.size) y ->
   (Op.eqFields d cs.toArray cs'.toArray fs).run P w=.ok (eqD t x y) w) ->
  (∀ {n m d:Nat} {T:TypeId} {cs cs':List Value} {x y:t.den},p9 P n T t=true->Y7 P m T t=true->t.ht<d->i6 H S t [] cs x->i6 H' S' t [] cs' y->(Op.equalIn d T (s5 t cs) (s5 t cs')).run P w=.ok (eqD t x y) w):=by
  intro t dy lZ hB n m d T cs cs' x y hT hq hd h1 h2;obtain ⟨fs,k',g1,g2⟩:=Ld hT dy lZ;have gB:P.underlying T=some (.struct (P.fieldsOf T)):=by simp [Program.fieldsOf,g1]
  have gj:P.fieldsOf T=fs:=by rw [g1] at gB; cases gB; rfl
  cases m with
  | zero=>simp [Y7] at hq
  | succ m =>
   have hq:(!P.stoodInHeld T && yg (Y7 P m) fs.toList t)=true:=by
    simp only [Y7,g1] at hq;exact hq
   simp only [Bool.and_eq_true,Bool.not_eq_true'] at hq;obtain ⟨d,rfl⟩:∃ e,d=e+1:=⟨d - 1,by omega⟩;have hv:∀ cs,s5 t cs=.agg cs.toArray:=by intro cs; simp [s5,dy]
   rw [hv,hv,run_equalIn_struct w d T _ _ gB hq.1,gj];refine hB g2 hq.2 (by omega) ?_ ?_
   ·rw [List.drop_zero,List.take_of_length_le (by rw [h1.length]; exact Nat.le_refl _)]; exact h1
   ·rw [List.drop_zero,List.take_of_length_le (by rw [h2.length]; exact Nat.le_refl _)]; exact h2
 induction t with
 | int k =>
  refine ⟨?_,by intro n m d off fs cs cs' x y h; cases fs<;>simp [n7] at h⟩;rintro n m d T cs cs' x y hT _ hd ⟨_,rfl,_⟩ ⟨_,rfl,_⟩;obtain ⟨d,rfl⟩:∃ e,d=e+1:=⟨d - 1,by omega⟩;exact run_equalIn_int w d T k k x y (yD hT)
 | bool =>
  refine ⟨?_,by intro n m d off fs cs cs' x y h; cases fs<;>simp [n7] at h⟩;rintro n m d T cs cs' x y hT _ hd ⟨_,rfl⟩ ⟨_,rfl⟩;obtain ⟨d,rfl⟩:∃ e,d=e+1:=⟨d - 1,by omega⟩;exact run_equalIn_bool (EZ hT) d x y
 | str =>
  refine ⟨?_,by intro n m d off fs cs cs' x y h; cases fs<;>simp [n7] at h⟩;rintro n m d T cs cs' x y hT _ hd ⟨_,rfl,_⟩ ⟨_,rfl,_⟩;obtain ⟨d,rfl⟩:∃ e,d=e+1:=⟨d - 1,by omega⟩;have:=run_equalIn_string w d T (⟨(x:yY).toArray⟩:ByteArray) ⟨(y:yY).toArray⟩ (Y2 hT);refine Eq.trans this ?_;rw [ByteArray.toList_eq,ByteArray.toList_eq];congr 1;show ((x:yY) == y)=decide ((x:yY)=y);rw [Bool.eq_iff_iff]; simp
 | unit =>
  have hB:∀ {n m d off:Nat} {fs:List Field} {cs cs':List Value} {x y:Ty.unit.den},n7 (p9 P n) fs off .unit=true->yg (Y7 P m) fs .unit=true->Ty.unit.ht<=d->i6 H S .unit [] ((cs.drop off).take Ty.unit.size) x->i6 H' S' .unit [] ((cs'.drop off).take Ty.unit.size) y ->
   (Op.eqFields d cs.toArray cs'.toArray fs).run P w=.ok (eqD .unit x y) w:=by
   intro n m d off fs cs cs' x y h _ _ _ _;cases fs with
   | nil=>simp [Op.eqFields,eqD]
   | cons f fs=>simp [n7] at h
  exact ⟨strct rfl (by simp) hB,hB⟩
 | pair p q ihp ihq =>
  have hB:∀ {n m d off:Nat} {fs:List Field} {cs cs':List Value} {x y:(Ty.pair p q).den},n7 (p9 P n) fs off (.pair p q)=true->yg (Y7 P m) fs (.pair p q)=true->(Ty.pair p q).ht<=d ->
    i6 H S (.pair p q) [] ((cs.drop off).take (Ty.pair p q).size) x->i6 H' S' (.pair p q) [] ((cs'.drop off).take (Ty.pair p q).size) y->(Op.eqFields d cs.toArray cs'.toArray fs).run P w=.ok (eqD (.pair p q) x y) w:=by
   rintro n m d off fs cs cs' x y hf hq hd ⟨O1,O2,e1,h1,h2⟩ ⟨O3,O4,e2,h3,h4⟩;obtain ⟨rfl,rfl⟩:=List.append_eq_nil_iff.1 e1.symm;obtain ⟨rfl,rfl⟩:=List.append_eq_nil_iff.1 e2.symm;cases fs with
   | nil=>simp [n7] at hf
   | cons f fs =>
    simp only [n7,Bool.and_eq_true] at hf;simp only [yg,Bool.and_eq_true] at hq;obtain ⟨⟨⟨⟨g1,_⟩,g3⟩,g4⟩,g5⟩:=hf;have g1:f.offset=off:=Nat.eq_of_beq_eq_true g1;have tg:p.ht+1<=d/\q.ht<=d:=by
     have:max (p.ht+1) q.ht<=d:=hd;omega
    have bc:(Ty.pair p q).size=p.size+q.size:=rfl;rw [List.take_take,Nat.min_eq_left (by omega)] at h1 h3;rw [List.drop_take,List.drop_drop,bc,Nat.add_sub_cancel_left] at h2 h4;rw [<- g1] at h1 h3;have p1:=yC (w:=w) g3 h1;have p2:=yC (w:=w) g3 h3;have e3:=ihp.1 (d:=d) g3 hq.1 (by omega) h1 h3;have ih:=ihq.2 (d:=d) (cs:=cs) (cs':=cs') g5 hq.2 tg.2 h2 h4;have hn:f.name≠ "_":=by simpa using g4
    simp only [Op.eqFields,hn,ne_eq,not_false_eq_true,if_true,Sem.run_bind,p1,p2,Result.andThen,e3,eqD];cases hh:eqD p x.1 y.1 with
    | true=>simpa using ih
    | false=>simp
  exact ⟨strct rfl (by simp) hB,hB⟩
 | arr k t ih =>
  refine ⟨?_,by intro n m d off fs cs cs' x y h; cases fs<;>simp [n7] at h⟩;rintro n m d T cs cs' x y hT hq hd ⟨h1,h2⟩ ⟨h3,h4⟩;obtain ⟨e,k',g1,g2,g3⟩:=xT hT;cases m with
  | zero=>simp [Y7] at hq
  | succ m =>
   have hq:Y7 P m e t=true:=by simpa only [Y7,g1] using hq
   obtain ⟨d,rfl⟩:∃ e,d=e+1:=⟨d - 1,by omega⟩;obtain ⟨i,hi,te,_⟩:=X6 g3;have hc:P.cellsOf e=t.size:=by simp [Program.cellsOf,hi,te]
   have hv:∀ cs,s5 (.arr k t) cs=.agg cs.toArray:=λ cs=>rfl;have ku:t.ht<d:=by have:t.ht+1<d+1:=hd; omega
   rw [hv,hv,run_equalIn_array w d _ _ g1 hi,hc,List.range_eq_range'];have:=SZ (w:=w) (cs:=cs) (cs':=cs') (l:=x) (l':=y) (k:=0) g3 (λ a b=>ih.1 g3 hq ku a b) (by rw [h1,h3]) (by simpa using h2) (by simpa using h4);rw [h1] at this;exact this
 | fn f =>
  refine ⟨?_,by intro n m d off fs cs cs' x y h; cases fs<;>simp [n7] at h⟩;rintro n m d T cs cs' x y hT hq;obtain ⟨_,_,_,g1⟩:=Ox hT;cases m<;>simp [Y7,g1] at hq
 | map o a b =>
  refine ⟨?_,by intro n m d off fs cs cs' x y h; cases fs<;>simp [n7] at h⟩;rintro n m d T cs cs' x y hT hq;obtain ⟨_,_,_,g1,_⟩:=Jw hT;cases m<;>simp [Y7,g1] at hq
 | box o g t =>
  refine ⟨?_,by intro n m d off fs cs cs' x y h; cases fs<;>simp [n7] at h⟩;rintro n m d T cs cs' x y hT hq;cases g with
  | none =>
   obtain ⟨_,_,g1,_⟩:=Jv hT;cases m<;>simp [Y7,g1] at hq
  | some f =>
   obtain ⟨_,_,_,g1⟩:=QY hT;cases m<;>simp [Y7,g1] at hq
 | d8 o t ih =>
  refine ⟨?_,by intro n m d off fs cs cs' x y h; cases fs<;>simp [n7] at h⟩;rintro n m d T cs cs' x y hT hq;obtain ⟨e,k',g1,_⟩:=H2 hT;cases m<;>simp [Y7,g1] at hq
 | hole t ih =>
  refine ⟨?_,by intro n m d off fs cs cs' x y h; cases fs<;>simp [n7] at h⟩;rintro n m d T cs cs' x y hT hq;obtain ⟨e,g1⟩:=QZ hT;cases m<;>simp [Y7,g1] at hq
 | C6 t ih =>
  refine ⟨?_,by intro n m d off fs cs cs' x y h; cases fs<;>simp [n7] at h⟩;rintro n m d T cs cs' x y hT hq;obtain ⟨e,g1⟩:=PJ hT;cases m<;>simp [Y7,g1] at hq
theorem Rg (hE:D9 E B) (h:RS B S ι s a w) {o:Oper} {op:BinOp} {T T':TypeId} {x y:Operand} (ho:o.op=.binOp op T x y T') {t u:Ty} {p:t.den} {q:u.den} (hx:s.ev x=.val t p) (hy:s.ev y=.val u q):G1 E.P B o a w (eqA E T op t p u q s):=by
 unfold eqA
 split
 ·rename_i hu
  subst hu;have core:(u.agg && J8 E T u && Y7 E.P 100 T u && !(E.P.eqGuardType E.P.depth T) && Nat.blt u.ht 100)=true ->
    ∃ cs cs',a.eval x=.agg cs/\a.eval y=.agg cs'/\(∀ op,(eqGuard op T x y (a.eval x) (a.eval y)).run E.P w=.ok () w)/\(Op.equalIn 10000 T (.agg cs) (.agg cs')).run E.P w=.ok (eqD u p q) w:=by
   intro hc;simp only [Bool.and_eq_true,Bool.not_eq_true',Nat.blt_eq] at hc;obtain ⟨⟨⟨⟨c1,c2⟩,c3⟩,c4⟩,c5⟩:=hc;obtain ⟨cs,e1,h1⟩:=D0 h hx;obtain ⟨cs',e2,h2⟩:=D0 h hy;have hv:∀ cs,s5 u cs=.agg cs.toArray:=by intro cs; simp [s5,c1]
   have e1:a.eval x=.agg cs.toArray:=by rw [hv] at e1; simpa using e1
   have e2:a.eval y=.agg cs'.toArray:=by rw [hv] at e2; simpa using e2
   refine ⟨_,_,e1,e2,λ op=>by rw [e1,e2]; exact run_eqGuard_agg w op T x y _ _ c4,?_⟩;have:=(run_eq (P:=E.P) (w:=w) (H:=w.heap) (H':=w.heap) (S:=S) (S':=S) u).1 (d:=10000) (E1 hE c2) c3 (by omega) h1 h2
   rwa [hv,hv] at this
  split
  ·rename_i hc
   obtain ⟨cs,cs',e1,e2,hg,he⟩:=core hc;refine C4.value (val:=.bool (eqD u p q)) ?_ h VX.bool;rw [U1 ho (hg .eql) (r:=.ok (.bool (eqD u p q)) w)]; rfl;rw [e1,e2,run_eql_struct,he]; rfl
  ·rename_i hc
   obtain ⟨cs,cs',e1,e2,hg,he⟩:=core hc;refine C4.value (val:=.bool (!(eqD u p q))) ?_ h VX.bool;rw [U1 ho (hg .neq) (r:=.ok (.bool (!(eqD u p q))) w)]; rfl;rw [e1,e2,run_neq_struct,he]; rfl
  ·trivial
 ·trivial
theorem c0x (hE:D9 E B) (h:RS B S ι s a w) {o:Oper} {op:BinOp} {T T':TypeId} {x y:Operand} (ho:o.op=.binOp op T x y T') {i:Nat} {p:List Step} (ex:s.ev x=.ptr i p) (ey:s.ev y=.raw (.pointer none)):G1 E.P B o a w (zJ E T op s):=by
 have hx:=h.ev x;have hy:=h.ev y;rw [ex] at hx; rw [ey] at hy;obtain ⟨e,b,off,-,-,-,hx⟩:=hx;have hx:a.eval x=.pointer (some ⟨b,off,none⟩):=by simpa using hx
 have hy:a.eval y=.pointer none:=by
  have hy:[a.eval y]=[Value.pointer none]:=hy;simpa using hy
 have hg:(eqGuard op T x y (a.eval x) (a.eval y)).run E.P w=.ok () w:=by rw [hx,hy]; cases op<;>rfl
 have run:∀ {o':Bool} {t:Ty} {n:Nat},look T E.tt=some ⟨.box o' none t,n⟩->(Op.equal T (.pointer (some ⟨b,off,none⟩)) (.pointer none)).run E.P w=.ok false w:=by
  intro o' t n hl;obtain ⟨e',k',h1,-⟩:=Jv (s9 (B:=B) hE hl);have key:∀ d,(Op.equalIn (d+1) T (.pointer (some ⟨b,off,none⟩)) (.pointer none)).run E.P w=.ok false w:=λ d=>by simp [Op.equalIn,w8 h1]
  exact key 9999
 unfold zJ
 split
 ·rename_i hl
  exact C4.value (by rw [U1 ho hg (r:=.ok (.bool false) w)]; rfl; rw [hx,hy]; simp [binOp,run hl]) h VX.bool
 ·rename_i hl
  exact C4.value (by rw [U1 ho hg (r:=.ok (.bool true) w)]; rfl; rw [hx,hy]; simp [binOp,run hl]) h VX.bool
 ·trivial
theorem c1K (hE:D9 E B) (h:RS B S ι s a w) {o:Oper} {op:BinOp} {T T':TypeId} {x y:Operand} (ho:o.op=.binOp op T x y T'):G1 E.P B o a w (wF E T op (s.ev x) (s.ev y) s):=by
 unfold wF
 split
 ·rename_i e1 e2; exact c0x hE h ho e1 e2
 ·rename_i e1 e2; exact Rg hE h ho e1 e2
 ·rename_i e1 e2; exact Rg hE h ho e1 e2
 ·exact c1L hE h ho
end
end Go.Ex
namespace Go.Ex
section
variable {E:Env} {B:F3} {S S':Nat->Prop} {ι:Ix} {s:St} {a:Act} {w:World} {hp:List (Nat×i7)} {H H':Array Go.Obj}
theorem Vw (h:HS B S ι s.hp w) {v:AV} {val:Value} (hv:VX w.heap S ι s.hp v [val]) {k u:Ty} {m:Option (List (k.den×u.den))} (hm:v.mp s=some ⟨(k,u),m⟩) :
  (m=none/\val=.map none)\/∃ l b es ck,m=some l/\val=.map (some b)/\w.heap[b]?=some (.map es ck)/\vj (i6 w.heap S k []) (i6 w.heap S u []) k u es.toList l:=by
 have key:∀ {o:Bool} {O:List Nat} {cs:List Value},i6 w.heap S (.map o k u) O cs m->val=s5 (.map o k u) cs->(m=none/\val=.map none)\/∃ l b es ck,m=some l/\val=.map (some b)/\w.heap[b]?=some (.map es ck)/\vj (i6 w.heap S k []) (i6 w.heap S u []) k u es.toList l:=by
  rintro o O cs (⟨h1,_,rfl⟩|⟨l,b,es,ck,h1,rfl,h3,h4,_⟩) e
  ·exact .inl ⟨h1,by simpa [s5,Ty.agg] using e⟩
  ·exact .inr ⟨l,b,es,ck,h1,by simpa [s5,Ty.agg] using e,h3,h4⟩
 unfold AV.mp at hm;split at hm
 ·cases hm
  obtain ⟨cs,e,hR⟩:=hv;exact key hR (by simpa using e)
 ·rename_i i p
  split at hm
  ·rename_i o k' v' m' cV
   cases hm;obtain ⟨e,u',y,cs,k1,k2,k3,k4,k5⟩:=hv;have hg:=I5 k1 cV;rw [k3] at hg; cases hg;obtain ⟨O2,m1,m2,m3⟩:=H4 h k1 k2 k3 k4;exact key m3 (by simpa using k5)
  ·cases hm
 ·cases hm
theorem b4L (hE:D9 E B) (h:RS B S ι s a w) {o:Oper} {T:TypeId} {x y:Operand} {ok:Bool} (ho:o.op=.lookup T x y ok):G1 E.P B o a w (IN E T (s.ev x) (s.ev y) ok s):=trivial
theorem b4K (_hE:D9 E B) (h:RS B S ι s a w) {o:Oper} {T:TypeId} {r:Option Operand} (ho:o.op=.makeMap T r):G1 E.P B o a w (n6 E o s):=by
 unfold n6; rw [ho]; trivial
theorem b4W (hE:D9 E B) (h:RS B S ι s a w) {o:Oper} {c:Call} (ho:o.op=.call c) (hc:c.callee=.builtin .append) {x y:Operand} {T U:TypeId} (ha:c.args.toList=[x,y]) (fe:c.argTypes.toList=[T,U])
  {kd:IntKind} (hU:E.P.underlying U=some (.int kd)):G1 E.P B o a w (Aq E T (s.ev x) (s.ev y) o.dst s):=by
 unfold Aq
 split
 ·rename_i t0 bts d k n hT hd hx hy
  refine G1.Im (λ v s' hl hp=>?_);have di:@LE.le Int Int.instLEInt 0 n:=hp.1;obtain ⟨N,rfl⟩:∃ N:Nat,n=((N:Nat):Int):=⟨Int.toNat n,(Int.toNat_of_nonneg di).symm⟩;have cL:N<=140737488355328:=by have:@LE.le Int Int.instLEInt (N:Int) 140737488355328:=hp.2.1; omega
  have ia:N*t0.wb<=140737488355328:=by
   have:@LE.le Int Int.instLEInt ((N:Int)*(t0.wb:Nat)) 140737488355328:=hp.2.2;rw [<- Int.natCast_mul] at this;omega
  obtain ⟨et,k2,h1,h2,h3⟩:=H2 (s9 hE hT);obtain ⟨i,hi,eE,lk⟩:=X6 h3;have mf:=KB h3 hi;have eu:a.eval x=.slice none 0 0:=by simpa using (show [a.eval x]=[Value.slice none 0 0] from D0 h hx)
  obtain ⟨dL,_⟩:=VX.I6 (D0 h hy);have aH:c.args=#[x,y]:=by rw [<- ha]
  have eF:c.argTypes=#[T,U]:=by rw [<- fe]
  have ee:=h.B0 (g:=[]) rfl;have e0:List.replicate (Int.toNat (N:Int)) t0.s8=List.replicate N t0.s8:=rfl;by_cases h0:N=0
  ·subst h0
   have aU:(execOp a.eval o).run E.P w=.ok (.value (.slice none 0 0)) w:=by
    have:IntKind.i64.wrap 0=0:=rfl;simp [execOp,ho,resolve,hc,invoke,builtin,aH,eF,Builtin.append_,w8 h1,w8 hU,eu,dL,run_sizeOf h3,asInt,asIntOf,this,typeInfo,hi,Result.andThen]
   exact C4.lay hl aU (O:=[]) (cs:=[.slice none 0 0]) (by simp [s5,Ty.agg]) (.inl ⟨rfl,⟨none,0,rfl,λ _=>rfl⟩,rfl⟩) ee G5.nil
  ·have hr:=Lib.run_append_grow_zeros (P:=E.P) w T U o.type et i (s5 t0 (zc t0)) k kd h1 hU hi lk none 0 0 [] (run_firstCells_none w.drew _ 0 0 0) N (by omega) (by rw [eE]; exact h2) (by omega) (by omega) (by rw [mf]; omega) (by rw [mf]; exact growslice_fits (by omega) (by simpa using ia))
   simp only [Nat.zero_add] at hr;have kr:=grownCap_ge w N 0 et;have fY:=grownCap_le_maxLen w N 0 et (by unfold maxLen; omega);generalize lr:grownCap w N 0 et=gc at hr kr fY;have jr:(s5 t0 (zc t0)).cells=(zc t0).toArray:=(i6.s8 (H:=w.heap) (S:=S) t0).cells;have cJ:(([]:List Value).toArray++Builtin.zeroCells (s5 t0 (zc t0)).cells N++Builtin.zeroCells (s5 t0 (zc t0)).cells (gc - N))=((List.replicate N (zc t0)).flatten++(List.replicate (gc - N) (zc t0)).flatten).toArray:=by
    rw [jr,Fx,Fx]; simp
   rw [cJ] at hr;have jI:((List.replicate N (zc t0)).flatten).length=N*t0.size:=by simp [R7]
   have bp:F9 [] w (w.drew.alloc (.cells ((List.replicate N (zc t0)).flatten++(List.replicate (gc - N) (zc t0)).flatten).toArray et)):=F9.trans F9.drew (F9.push _) (by simp);obtain ⟨O',q1,q2,q3⟩:=ED (w:=w) (t:=t0) (l:=List.replicate N t0.s8) (cap:=gc) h.hs.slt (O:=[]) (cells:=(List.replicate N (zc t0)).flatten++(List.replicate (gc - N) (zc t0)).flatten) (by
    rw [List.length_replicate,List.take_left' jI]; exact j6.Hl N) (by rw [List.length_replicate]; exact kr) fY (by
    simp only [List.length_append,jI,List.length_flatten,List.map_replicate,List.sum_replicate_nat,R7];rw [<- Nat.add_mul]; exact Nat.mul_le_mul_right _ (by omega)) et (by simp) (w':=w.drew.alloc (.cells ((List.replicate N (zc t0)).flatten++(List.replicate (gc - N) (zc t0)).flatten).toArray et)) rfl (.inl rfl)
   rw [List.length_replicate] at q1;have aU:(execOp a.eval o).run E.P w=.ok (.value (.slice (some ⟨w.heap.size,0,none⟩) N gc)) (w.drew.alloc (.cells ((List.replicate N (zc t0)).flatten++(List.replicate (gc - N) (zc t0)).flatten).toArray et)):=by
    simp [execOp,ho,resolve,hc,invoke,builtin,aH,eF,eu,dL,hr]
   have bc:w.heap.size<(w.drew.alloc (.cells ((List.replicate N (zc t0)).flatten++(List.replicate (gc - N) (zc t0)).flatten).toArray et)).heap.size:=by
    show w.heap.size<(w.heap.push _).size;simp
   exact C4.lay hl aU (cs:=[.slice (some ⟨w.heap.size,0,none⟩) N gc]) (by simp [s5,Ty.agg]) q1 (ee.Z5 G5.nil bp) (G5.new ee G5.nil bp bc q2 (q3 List.nodup_nil))
 ·trivial
theorem vj.length {α β:Type} {R:List Value->α->Prop} {R':List Value->β->Prop} {t u:Ty}:∀ {es:List MapEntry} {l:List (α×β)},vj R R' t u es l->es.length=l.length
 | [],l,h=>by rw [show l=[] from h]; rfl
 | _::es,_,⟨x,y,l',cs,ds,rfl,_,_,_,_,h⟩=>by simp [vj.length h]
theorem vj.set {α β:Type} {R:List Value->α->Prop} {R':List Value->β->Prop} {t u:Ty} {e:MapEntry} {x:α} {y:β} {cs ds:List Value} (h1:e.key=s5 t cs) (h2:R cs x) (h3:e.val=s5 u ds) (h4:R' ds y) :
  ∀ {es:List MapEntry} {l:List (α×β)} {i:Nat},i<es.length->vj R R' t u es l->vj R R' t u (es.set i e) (l.set i (x,y))
 | [],_,_,hi,_=>by simp at hi
 | _::es,_,0,_,⟨x',y',l',c,d,rfl,g1,g2,g3,g4,h⟩=>⟨x,y,l',cs,ds,rfl,h1,h2,h3,h4,h⟩
 | _::es,_,i+1,hi,⟨x',y',l',c,d,rfl,g1,g2,g3,g4,h⟩=>⟨x',y',l'.set i (x,y),c,d,rfl,g1,g2,g3,g4,vj.set h1 h2 h3 h4 (by simpa using hi) h⟩
theorem c0c (hE:D9 E B) (h:RS B S ι s a w) {o:Oper} {T:TypeId} {m x y:Operand} (ho:o.op=.mapUpdate T m x y):G1 E.P B o a w (FX E T (s.ev m) (s.ev x) (s.ev y) s):=trivial
end
end Go.Ex
namespace Go.Ex
section
variable {E:Env} {B:F3} {S S':Nat->Prop} {ι:Ix} {s:St} {a:Act} {w:World} {hp:List (Nat×i7)} {H H':Array Go.Obj}
theorem Nx:∀ {n:Nat} {l v:AV} {us:List Value},n6.nth n l=some v->VX H S ι hp l us->∃ u,us[n]?=some u/\VX H S ι hp v [u]
 | 0,l,v,us,h,hl=>by
  cases l<;>simp only [n6.nth] at h<;>first|cases h|skip
  obtain ⟨u,us',rfl,ha,hb⟩:=hl;exact ⟨u,rfl,ha⟩
 | n+1,l,v,us,h,hl=>by
  cases l<;>simp only [n6.nth] at h<;>first|cases h|skip
  obtain ⟨u,us',rfl,ha,hb⟩:=hl;obtain ⟨u2,e,h2⟩:=Nx h hb;exact ⟨u2,by simpa using e,h2⟩
theorem TP (h:RS B S ι s a w) {o:Oper} {c:Call} (ho:o.op=.call c) {P:Program} {x:Operand} {l:List Operand} (ha:c.args.toList=x::l) {k:IntKind} {m:Int} (hx:s.ev x=.val (.int k) m) :
  (c.callee=.builtin .max->G1 P B o a w (foldI s k (λ a b=>if a<b then b else a) m l))/\(c.callee=.builtin .min->G1 P B o a w (foldI s k (λ a b=>if b<a then b else a) m l)):=by
 obtain ⟨gw,bx⟩:=VX.I6 (D0 h hx);have aH:c.args.map a.eval=(a.eval x::l.map a.eval).toArray:=by
  apply Array.ext';simp [ha]
 constructor
 ·intro hc
  cases hl:foldI s k (λ a b=>if a<b then b else a) m l with
  | fail y=>trivial
  | G6 p v s'=>exact absurd hl a70
  | ok v s' =>
   obtain ⟨n,rfl,rfl,hn,aU⟩:=KD (P:=P) (w:=w) h (m2:=Builtin.max2) (by intro x y hx hy; split<;>assumption) (by intro x y; simp [Builtin.max2]) bx hl;refine C4.value (val:=.int k n) ?_ h (VX.int hn);simp [execOp,ho,resolve,hc,invoke,builtin,aH,gw,Builtin.max_,aU]
 ·intro hc
  cases hl:foldI s k (λ a b=>if b<a then b else a) m l with
  | fail y=>trivial
  | G6 p v s'=>exact absurd hl a70
  | ok v s' =>
   obtain ⟨n,rfl,rfl,hn,aU⟩:=KD (P:=P) (w:=w) h (m2:=Builtin.min2) (by intro x y hx hy; split<;>assumption) (by intro x y; simp [Builtin.min2]) bx hl;refine C4.value (val:=.int k n) ?_ h (VX.int hn);simp [execOp,ho,resolve,hc,invoke,builtin,aH,gw,Builtin.min_,aU]
theorem Pq {i:Nat} {p:List Step} {lo:Nat} {t:Ty} {m:List t.den} {s':St} (hf:vR s i p lo t m=some s'):t.shared=true:=by
 unfold vR at hf;split at hf
 ·split at hf
  ·split at hf
   ·split at hf
    ·split at hf
     ·rename_i hc
      simp only [Bool.and_eq_true] at hc;exact hc.1
     ·cases hf
    ·cases hf
   ·cases hf
  ·cases hf
 ·cases hf
theorem Te {T:TypeId} {x y:AV} {p:Prop} {v:AV} {s':St} (hI:wV E T x y s=.G6 p v s'):∃ i lo hi q t0 bts t m l,x=.sub i [] lo hi/\look T E.tt=some ⟨.d8 q t0,bts⟩/\y.vn s t0=some (⟨t,m⟩,[])/\s.obj i=some (.own (.d8 true t) l) /\
  vR s i [] hi.toNat t m=some s'/\J8 E T (.d8 true t)=true/\p=(hi+(List.length m:Int)<=(List.length l:Int))/\v=.sub i [] lo (hi+(List.length m:Int)):=by
 unfold wV at hI;split at hI
 ·rename_i i lo hi q t0 bts hT
  split at hI
  ·rename_i t m u l cw aX
   split at hI
   ·rename_i s1 hf bD hd
    cases hI;obtain rfl:=of_decide_eq_true hd;exact ⟨i,lo,hi,q,t0,bts,t,m,l,rfl,hT,cw,aX,hf,bD,rfl,rfl⟩
   ·cases hI
  ·cases hI
 ·cases hI
theorem b8H {T:TypeId} {x y:AV} {r:Prop×AV×St} (hI:(wV E T x y s).get=some r):wV E T x y s=.G6 r.1 r.2.1 r.2.2:=by
 unfold wV at hI ⊢
 repeat' split at hI
 all_goals first|(cases hI; done)|(cases hI; rfl)
theorem YY {i:Nat} {lo:Nat} {t:Ty} {m l:List t.den} {s':St} (aX:s.obj i=some (.own (.d8 true t) l)) (hf:vR s i [] lo t m=some s'):s'=(s.Z9 i true).y9 i (.own (.d8 true t) (List.take lo l++m++List.drop (lo+m.length) l)):=by
 unfold vR at hf;rw [aX] at hf;simp only [i7.ty,i7.x,C9] at hf;rw [dif_pos trivial] at hf;simp only [w5,if_true] at hf;split at hf
 ·cases hf; rfl
 ·cases hf
theorem b4X (hE:D9 E B) (h:RS B S ι s a w) {o:Oper} {c:Call} (ho:o.op=.call c) (hc:c.callee=.builtin .append) {x y:Operand} {T U:TypeId} (ha:c.args.toList=[x,y]) (fe:c.argTypes.toList=[T,U])
  (hk:(∃ e',E.P.underlying U=some (.slice e'))\/E.P.underlying U=some .string):G1 E.P B o a w (wV E T (s.ev x) (s.ev y) s):=by
 cases hI:wV E T (s.ev x) (s.ev y) s with
 | fail why=>trivial
 | ok v s' =>
  exfalso;unfold wV at hI
  repeat' split at hI
  all_goals cases hI
 | G6 p v s' =>
  intro hp;obtain ⟨i,lo,hi,q,t0,bts,t,m,l,hx,hT,cw,aX,hf,bD,rfl,rfl⟩:=Te hI;obtain ⟨Og,news,eL,hN,_,mi⟩:=IW (P:=E.P) h hk cw (h.ev y);have ch:=Pq hf;have qR:Og=[]:=j6.O7 (λ _ _ _ hr=>i6.O7 ch hr) hN;subst qR;have jC:look i s.hp=some (.own (.d8 true t) l):=aX;obtain ⟨e,v',h1,h2,h3,h4,h5,h6⟩:=D0 h hx;rw [jC] at h1; cases h1;have fQ:a.eval x=v':=by simpa using h3
  rcases h6 with ⟨t1,l1,a0,cap,k1,k2,k3,c0,A,k4,kA,k5,k6⟩|⟨n,t1,l1,b,off,k1,_,k3,_⟩
  rotate_left
  ·exfalso
   simp only [Loc,Place,C3,VR] at k3;simp at k3
  have k1':j9 (.d8 true t) l []=some ⟨.d8 true t1,l1⟩:=k1;rw [C9] at k1'; cases k1';have cT:l.length<=cap:=by
   obtain ⟨O2,_,_,m3⟩:=H4 h.hs jC h2 k1 k3;rcases m3 with ⟨_,_,hl⟩|⟨b2,o2,cap2,O',c1,c2,_⟩
   ·rw [hl]; exact Nat.zero_le _
   ·simp only [List.cons.injEq,Value.slice.injEq,and_true] at c1
    rw [c1.2.2]; exact c2
  have hp:hi+(m.length:Int)<=(l.length:Int):=hp;have ed:VX w.heap S ι s.hp (.sub i [] hi (hi+(m.length:Int))) [.slice (a0.map (·.add (hi.toNat*t.size))) m.length (cap - hi.toNat)] :=
   ⟨_,_,jC,h2,rfl,by omega,by omega,.inl ⟨t,l,a0,cap,k1,hp,k3,cap - hi.toNat,_,by rw [show (hi+(m.length:Int) - hi).toNat=m.length by omega],λ _=>rfl,by omega,by omega⟩⟩
  have ee:(AV.sub i [] hi (hi+(m.length:Int))).wq s=some (i,[],hi,hi+(m.length:Int)):=by
   simp only [AV.wq,St.part,aX,i7.ty,i7.x,C9]
  obtain ⟨w',ι',A',c',e1,cu,bP⟩:=KX (P:=E.P) h ed ee (by omega) hN hf;simp only [Value.slice.injEq] at e1;obtain ⟨e1,_,_⟩:=e1;obtain ⟨et,k',g1,g2,g3⟩:=H2 (E1 hE bD);obtain ⟨inf,nA,eE,lk⟩:=X6 g3;have aH:c.args=#[x,y]:=by rw [<- ha]
  have eF:c.argTypes=#[T,U]:=by rw [<- fe]
  have cy:(hi - lo).toNat+m.length<=c0:=by omega
  have aU:(Builtin.append_ #[T,U] o.type #[a.eval x,a.eval y]).run E.P w=.ok (.slice A ((hi - lo).toNat+m.length) c0) w':=by
   rw [fQ,k4];rw [<- eE] at eL;by_cases iw:m=[]
   ·subst iw
    have di:news=[]:=hN.2;subst di;have rU:w'=w:=by
     rcases bP with ⟨_,_,rfl⟩|⟨A1,_,bP⟩
     ·rfl
     ·simpa [storeCells] using bP.symm
    subst rU;have jg:=eL.len;have eS:=eL.cells;simp only [List.length_nil,Nat.add_zero] at jg eS cy;rcases eL.kind with ⟨e',fk⟩|fk<;>cases A<;>simp [Builtin.append_,run_underlying g1,run_underlying fk,sizeOf,typeInfo,nA,jg,eS,storeCells,cy]
   ·have iv:1<=m.length:=List.length_pos_iff.2 iw
    rcases bP with ⟨_,jH,_⟩|⟨A1,uk,bP⟩
    ·exact absurd jH iw
    subst uk;obtain ⟨O2,_,_,m3⟩:=H4 h.hs jC h2 k1 k3;rcases m3 with ⟨_,_,hl⟩|⟨b2,o2,cap2,O',c1,c2,_⟩
    ·have hl:l=[]:=hl
     rw [hl] at hp; simp at hp; omega
    ·simp only [List.cons.injEq,Value.slice.injEq,and_true,true_and] at c1
     obtain ⟨rfl,rfl⟩:=c1;have hA:=kA (by omega);subst hA;simp only [Option.map_some,Option.some.injEq] at e1;subst e1;have gR:((⟨b2,o2,none⟩:Addr).add (lo.toNat*t.size)).add ((hi - lo).toNat*t.size)=(⟨b2,o2,none⟩:Addr).add (hi.toNat*t.size):=by
      rw [Addr.I2,Addr.I2,Addr.I2,Nat.add_assoc,<- Nat.add_mul,show lo.toNat+(hi - lo).toNat=hi.toNat by omega]
     rw [<- gR] at bP;simp only [Option.map_some];generalize uT:((⟨b2,o2,none⟩:Addr).add (lo.toNat*t.size))=AA at bP ⊢;rw [<- eE] at bP;rcases eL.kind with ⟨e',fk⟩|fk<;>simp [Builtin.append_,run_underlying g1,run_underlying fk,sizeOf,typeInfo,nA,eL.len,cy,eL.cells,bP]
  have fU:(execOp a.eval o).run E.P w=.ok (.value (.slice A ((hi - lo).toNat+m.length) c0)) w':=by
   simp [execOp,ho,resolve,hc,invoke,builtin,aH,eF,aU]
  intro next Q kh
  unfold Oper.wp;rw [fU];refine kh S ι' w' _ cu ?_;have lU:=YY aX hf;have mC:s'.ev x=.sub i [] lo hi:=by
   cases x with
   | tmp n =>
    have rm:Nat.beq n J7=false:=by
     cases hb:Nat.beq n J7 with
     | true=>simp [St.ev,hb] at hx
     | false=>rfl
    have oe:(look n s.fr).getD .any=.sub i [] lo hi:=by
     have h9:=hx;simp only [St.ev,rm] at h9;exact h9
    show (match Nat.beq n J7 with|true=>AV.any|false=>s'.get n)=_;rw [rm];show (look n s'.fr).getD .any=_;rw [lU];show (look n (mapA (AV.map (AV.xI i true)) s.fr)).getD .any=_;rw [P9];cases ru:look n s.fr with
    | none=>rw [ru] at oe; cases oe
    | some u9 =>
     rw [ru] at oe;have:u9=.sub i [] lo hi:=oe;subst this;simp [AV.map,AV.xI,AV.j5]
   | const v9=>exact absurd hx (by
     simp only [St.ev];intro h9;unfold ofConst at h9
     repeat' split at h9
     all_goals cases h9)
   | global g=>cases hx
   | func f=>cases hx
  have re:=cu.ev x;rw [mC,fQ,k4] at re;obtain ⟨e9,v9,r1,r2,r3,r4,r5,r6⟩:=re;have mV:look i s'.hp=some (.own (.d8 true t) (List.take hi.toNat l++m++List.drop (hi.toNat+m.length) l)):=by
   rw [lU];show look i (Ex.put i _ _)=_;rw [o7,if_pos rfl]
  rw [mV] at r1; cases r1;have nj:(List.take hi.toNat l++m++List.drop (hi.toNat+m.length) l).length=l.length:=by
   simp only [List.length_append,List.length_take,List.length_drop]; omega
  rcases r6 with ⟨t2,l2,a2,cap2,q1,q2,q3,c2,A2,q4,qA,q5,q6⟩|⟨n,t2,l2,b,off,q1,_,q3,_⟩
  ·have q1':j9 (.d8 true t) (List.take hi.toNat l++m++List.drop (hi.toNat+m.length) l) []=some ⟨.d8 true t2,l2⟩:=q1
   rw [C9] at q1'; cases q1';have r3':Value.slice A (hi - lo).toNat c0=v9:=by simpa using r3
   rw [q4] at r3';simp only [Value.slice.injEq,true_and] at r3';obtain ⟨rfl,rfl⟩:=r3';exact ⟨_,_,mV,r2,rfl,r4,by omega,.inl ⟨t,_,a2,cap2,q1,by rw [nj]; exact hp,q3,c0,A,by rw [show (hi+(m.length:Int) - lo).toNat=(hi - lo).toNat+m.length by omega],qA,by omega,q6⟩⟩
  ·exfalso
   simp only [Loc,Place,C3,VR] at q3;simp at q3
theorem ZW (hE:D9 E B) (h:RS B S ι s a w) {o:Oper} {c:Call} (ho:o.op=.call c) (hc:c.callee=.builtin .copy) {x y:Operand} {T U:TypeId} (ha:c.args.toList=[x,y]) (hT:c.argTypes.toList=[T,U]):G1 E.P B o a w (Ac E T (s.ev x) (s.ev y) s):=by
 unfold Ac
 split
 ·rename_i i p lo hi t m hd fA
  split
  ·rename_i s' hf bD
   obtain ⟨et,k',g1,_,g3⟩:=H2 (E1 hE bD);obtain ⟨A2,c2,ey,hA⟩:=En h.hs (h.ev y) fA;have hlen:=II h.hs (h.ev y) fA;have aH:c.args=#[x,y]:=by rw [<- ha]
   have eF:c.argTypes=#[T,U]:=by rw [<- hT]
   have ch:t.shared=true:=Pq hf;obtain ⟨e,t9,l9,A9,cap9,c9,A8,z1,z2,z3,z4,z5,z6,z7,z8,z9,TZ⟩:=IH h (h.ev x) hd;have eL:∃ news,(Builtin.firstCells t.size (List.take (hi - lo).toNat m).length (a.eval y)).run E.P w=.ok news.toArray w/\j6 (i6 w.heap S t) t.size [] news (List.take (hi - lo).toNat m):=by
    rw [ey];rcases hA with rfl|⟨b,off,O',rfl,k1,k2,k3,k4⟩
    ·refine ⟨[],?_,by rw [List.take_nil]; exact ⟨rfl,rfl⟩⟩
     rw [List.take_nil];cases A2 with
     | none=>exact run_firstCells_none w t.size 0 0 c2
     | some A=>exact run_firstCells_some w t.size 0 A 0 c2 [] (by simp) (by simp)
    ·have hr:=Zx ch k3 (k:=(List.take (hi - lo).toNat m).length)
     have e9:List.take (List.take (hi - lo).toNat m).length m=List.take (hi - lo).toNat m:=by
      rw [List.length_take];rcases Nat.le_total (hi - lo).toNat m.length with h9|h9
      ·rw [Nat.min_eq_left h9]
      ·rw [Nat.min_eq_right h9,List.take_length,List.take_of_length_le h9]
     rw [e9] at hr;refine ⟨_,run_firstCells_some w t.size _ _ _ c2 _ (j6.length (λ _ _ _ h=>h.length) hr) (λ j u hu=>?_),hr⟩;rw [Addr.I2];refine N3 (n:=List.length m*t.size) ?_;rw [List.getElem?_take] at hu;split at hu
     ·exact hu
     ·cases hu
   obtain ⟨news,fq,mb⟩:=eL;have iv:((List.take (hi - lo).toNat m).length:Int)<=hi - lo:=by rw [List.length_take]; omega
   obtain ⟨w',ι',A',c',e1,cu,bP⟩:=KX (P:=E.P) h (h.ev x) hd iv mb hf;have nc:Nat.min m.length (hi - lo).toNat=(List.take (hi - lo).toNat m).length:=by rw [List.length_take,Nat.min_comm]
   have aU:(Builtin.copy_ #[T,U] o.type #[a.eval x,a.eval y]).run E.P w=.ok (.int .i64 ((List.take (hi - lo).toNat m).length:Int)) w':=by
    have kY:=fq;rw [ey,List.length_take] at kY;rw [e1,ey];rcases bP with ⟨rfl,_,rfl⟩|⟨A,rfl,bP⟩
    ·simp only [Builtin.copy_]
     simp [w8 g1,Builtin.lenOf,nc,run_sizeOf g3,kY,goInt]
    ·simp [Builtin.copy_,w8 g1,Builtin.lenOf,nc,run_sizeOf g3,kY,bP,goInt]
   have fU:(execOp a.eval o).run E.P w=.ok (.value (.int .i64 ((List.take (hi - lo).toNat m).length:Int))) w':=by
    simp [execOp,ho,resolve,hc,invoke,builtin,aH,eF,aU]
   intro next Q kh
   unfold Oper.wp;rw [fU];refine kh S ι' w' _ cu (VX.int ?_);have:(List.take (hi - lo).toNat m).length<=m.length:=by rw [List.length_take]; omega
   unfold maxLen at hlen;unfold u7;simp only [IntKind.min,IntKind.max,IntKind.signed,IntKind.bits];simp;omega
  ·trivial
 ·trivial
theorem b8p (hE:D9 E B) (h:RS B S ι s a w) {o:Oper} {c:Call} (ho:o.op=.call c) (hc:c.callee=.builtin .clear) {x:Operand} {T:TypeId} (ha:c.args.toList=[x]) (hT:c.argTypes.toList=[T]):G1 E.P B o a w (Ag E T (s.ev x) s):=by
 unfold Ag
 split
 ·rename_i i p lo hi q t bts hd tP
  split
  ·rename_i s' hf
   obtain ⟨et,k',g1,_,g3⟩:=H2 (s9 hE tP);have aH:c.args=#[x]:=by rw [<- ha]
   have eF:c.argTypes=#[T]:=by rw [<- hT]
   obtain ⟨e,t9,l9,A9,cap9,c9,A8,z1,z2,z3,z4,z5,z6,z7,z8,z9,TZ⟩:=IH h (h.ev x) hd;have po:j6 (i6 w.heap S t) t.size [] (List.replicate (hi - lo).toNat (zc t)).flatten (List.replicate (hi - lo).toNat t.s8):=(i6.s8 (H:=w.heap) (S:=S) (.arr (hi - lo).toNat t)).2;obtain ⟨w',ι',A',c',e1,cu,bP⟩:=KX (P:=E.P) h (h.ev x) hd (by rw [List.length_replicate]; omega) po hf;have jr:(s5 t (zc t)).cells=(zc t).toArray:=(i6.s8 (H:=w.heap) (S:=S) t).cells;have aU:(Builtin.clear_ #[T] o.type #[a.eval x]).run E.P w=.ok (.tuple #[]) w':=by
    rw [e1];rcases bP with ⟨rfl,_,rfl⟩|⟨A,rfl,bP⟩
    ·simp [Builtin.clear_,w8 g1]
    ·by_cases h0:(hi - lo).toNat=0
     ·rw [h0] at bP ⊢
      simp [storeCells] at bP;subst bP;simp [Builtin.clear_,w8 g1]
     ·obtain ⟨n,hn⟩:∃ n,(hi - lo).toNat=n+1:=⟨(hi - lo).toNat - 1,by omega⟩
      rw [hn] at bP ⊢;simp [Builtin.clear_,w8 g1,Ce g3,jr,Fx,bP]
   have fU:(execOp a.eval o).run E.P w=.ok (.value (.tuple #[])) w':=by
    simp [execOp,ho,resolve,hc,invoke,builtin,aH,eF,aU]
   intro next Q kh
   unfold Oper.wp;rw [fU];exact kh S ι' w' _ cu rfl
  ·trivial
 ·trivial
theorem c1C (hE:D9 E B) (h:RS B S ι s a w) {o:Oper} {c:Call} (ho:o.op=.call c):G1 E.P B o a w (n6 E o s):=by
 unfold n6;rw [ho];simp only
 split
 ·rename_i f hf
  split
  ·rename_i g caps hg
   obtain ⟨us,he,cT⟩:=D0 h hg;exact KT hE h ho hf (by simpa using he) cT
  ·rename_i g b hg
   refine G1.xW (λ hb=>?_);have hv:=HH h hg;rw [hb] at hv;exact KT hE h ho hf (us:=[]) hv rfl
  ·rename_i g t y hg
   refine G1.xW (λ hy=>?_);obtain ⟨p,e,hp⟩:=Jx (D0 h hg) hy;exact KT hE h ho hf (us:=[p]) (by simpa using e) ⟨p,[],rfl,hp,rfl⟩
  ·trivial
 ·rename_i hf
  split
  ·rename_i x T ha hT
   split
   ·rename_i q u y hx
    split
    ·rename_i hk
     obtain ⟨cs,e,hR⟩:=D0 h hx;obtain ⟨b,cap,hv,hl⟩:=BM hR;have e:a.eval x=s5 (.d8 q u) cs:=by simpa using e
     exact zu hE h ho hf ha hT hk (.inl ⟨q,u,b,0,cap,rfl,by rw [e,hv],rfl⟩) hl
    ·trivial
   ·rename_i u y hx
    split
    ·rename_i hk
     obtain ⟨cs,e,hR⟩:=D0 h hx;obtain ⟨b,cap,hv,hl⟩:=Nw hR;have e:a.eval x=s5 (.C6 u) cs:=by simpa using e
     exact zu hE h ho hf ha hT hk (.inl ⟨false,u,b,0,cap,rfl,by rw [e,hv],rfl⟩) hl
    ·trivial
   ·rename_i y hx
    split
    ·rename_i hk
     obtain ⟨hv,hl⟩:=VX.zp (D0 h hx);exact zu hE h ho hf ha hT hk (.inr (.inl ⟨y,rfl,hv,rfl⟩)) (by unfold maxLen at hl; omega)
    ·trivial
   ·rename_i n u y hx
    split
    ·rename_i hk
     split
     ·rename_i hn
      exact zu hE h ho hf ha hT hk (.inr (.inr ⟨u,rfl⟩)) hn
     ·trivial
    ·trivial
   ·rename_i d p hx
    split
    ·rename_i q u z cV
     split
     ·rename_i hk
      obtain ⟨e,u',y,cs,k1,k2,k3,k4,k5⟩:=D0 h hx;have hg:=I5 k1 cV;rw [k3] at hg; cases hg;obtain ⟨O2,m1,m2,m3⟩:=H4 h.hs k1 k2 k3 k4;obtain ⟨b,cap,hv,hl⟩:=BM m3;have k5:a.eval x=s5 (.d8 q u) cs:=by simpa using k5
      exact zu hE h ho hf ha hT hk (.inl ⟨q,u,b,0,cap,rfl,by rw [k5,hv],rfl⟩) hl
     ·trivial
    ·rename_i u z cV
     split
     ·rename_i hk
      obtain ⟨e,u',y,cs,k1,k2,k3,k4,k5⟩:=D0 h hx;have hg:=I5 k1 cV;rw [k3] at hg; cases hg;obtain ⟨O2,m1,m2,m3⟩:=H4 h.hs k1 k2 k3 k4;obtain ⟨b,cap,hv,hl⟩:=Nw m3;have k5:a.eval x=s5 (.C6 u) cs:=by simpa using k5
      exact zu hE h ho hf ha hT hk (.inl ⟨false,u,b,0,cap,rfl,by rw [k5,hv],rfl⟩) hl
     ·trivial
    ·rename_i k u z cV
     split
     ·rename_i hk
      intro hn;have hm:(s.ev x).mp s=some ⟨(k,u),z⟩:=by rw [hx]; simp only [AV.mp,cV]
      have aH:c.args=#[x]:=by rw [<- ha]
      have eF:c.argTypes=#[T]:=by rw [<- hT]
      obtain ⟨K,V,n,h1,_⟩:=Jw (E1 hE hk);refine C4.value (val:=.int .i64 (List.length (Option.getD (z:Option (List (k.den×u.den))) []))) ?_ h (VX.int (by unfold u7; simp [IntKind.min,IntKind.max,IntKind.signed,IntKind.bits]; omega));have aU:(Builtin.len_ #[T] o.type #[a.eval x]).run E.P w=.ok (.int .i64 (List.length (Option.getD (z:Option (List (k.den×u.den))) []))) w:=by
       rcases Vw h.hs (h.ev x) hm with ⟨h2,h3⟩|⟨l,b,es,ck,h2,h3,h4,h5⟩
       ·subst h2
        rw [h3];simp [Builtin.len_,w8 h1,goInt]
       ·subst h2
        rw [h3];have oB:=MapKept.run_getObj_map (P:=E.P) h4;have hl:=vj.length h5;rw [Array.length_toList] at hl;simp [Builtin.len_,w8 h1,goInt,oB,hl]
      simp [execOp,ho,resolve,hf,invoke,builtin,aH,eF,aU]
     ·trivial
    ·trivial
   ·rename_i d p lo hi hx
    split
    ·rename_i u y hw
     split
     ·rename_i hk
      obtain ⟨A,c,e,_,hl,h0,h1,_⟩:=Et h.hs (D0 h hx) hw;have hm:=II h.hs (D0 h hx) (l:=y) hw;have:=zu hE h ho hf ha hT hk (n:=y.length) (.inl ⟨true,u,A,0,c,rfl,e,rfl⟩) (by unfold maxLen at hm; omega);rw [hl] at this;exact this
     ·trivial
    ·trivial
   ·rename_i hx
    split
    ·rename_i q u bts qL
     have eu:[a.eval x]=[Value.slice none 0 0]:=D0 h hx;have eu:a.eval x=Value.slice none 0 0:=by simpa using eu
     have aH:c.args=#[x]:=by rw [<- ha]
     have eF:c.argTypes=#[T]:=by rw [<- hT]
     refine C4.value (val:=.int .i64 0) ?_ h (VX.int (by unfold u7; simp [IntKind.min,IntKind.max,IntKind.signed,IntKind.bits]));have:=Ns (w:=w) (ty:=o.type) (n:=0) (s9 hE qL) (.inl ⟨q,u,none,0,0,rfl,eu,rfl⟩);simp [execOp,ho,resolve,hf,invoke,builtin,aH,eF,this]
    ·trivial
   ·trivial
  ·trivial
 ·rename_i hf
  split
  ·rename_i x T ha hT
   split
   ·rename_i q u bts hx qL
    obtain ⟨et,k',f1,_⟩:=H2 (s9 hE qL);have eu:a.eval x=Value.slice none 0 0:=by simpa using (show [a.eval x]=[Value.slice none 0 0] from D0 h hx)
    have aH:c.args=#[x]:=by rw [<- ha]
    have eF:c.argTypes=#[T]:=by rw [<- hT]
    refine C4.value (val:=.int .i64 0) ?_ h (VX.int (by unfold u7; simp [IntKind.min,IntKind.max,IntKind.signed,IntKind.bits]));simp [execOp,ho,resolve,hf,invoke,builtin,aH,eF,Builtin.cap_,w8 f1,eu,goInt]
   ·trivial
  ·trivial
 ·rename_i hf
  split
  ·rename_i x y T U ha hT
   split
   ·rename_i q u bts hU
    obtain ⟨et,k',f1,_⟩:=H2 (s9 hE hU)
    split
    ·exact b4X hE h ho hf ha hT (.inl ⟨et,f1⟩)
    ·exact c1P hE h ho hf ha hT ⟨et,f1⟩
   ·rename_i bts hU
    exact Tr hE h ho hf ha hT (.inr (Y2 (s9 hE hU)))
   ·rename_i kd bts hU
    exact b4W hE h ho hf ha hT (yD (s9 hE hU))
   ·trivial
  ·trivial
 ·rename_i hf
  split
  ·rename_i x l ha
   split
   ·rename_i k m hx
    exact (TP h ho ha hx).1 hf
   ·trivial
  ·trivial
 ·rename_i hf
  split
  ·rename_i x l ha
   split
   ·rename_i k m hx
    exact (TP h ho ha hx).2 hf
   ·trivial
  ·trivial
 ·rename_i hf
  split
  ·rename_i x y T U ha hT; exact ZW hE h ho hf ha hT
  ·trivial
 ·rename_i hf
  split
  ·rename_i x T ha hT; exact b8p hE h ho hf ha hT
  ·trivial
 ·trivial
theorem Za (hE:D9 E B) (h:RS B S ι s a w) (o:Oper) (iK:∀ c x y,o.op≠.pick c x y):G1 E.P B o a w (n6 E o s):=by
 cases ho:o.op with
 | move x=>unfold n6; rw [ho]; exact C4.value (by simp [execOp,ho]) h (h.ev x)
 | assign x=>unfold n6; rw [ho]; exact C4.value (by simp [execOp,ho]) h (h.ev x)
 | alloc T=>exact b8K hE h ho
 | box T x=>exact YM hE h ho
 | makeSlice T x y=>exact b1a hE h ho
 | slice T x lo hi mx =>
  have:n6 E o s=yu E T (s.ev x) lo hi mx s:=by unfold n6; rw [ho]
  rw [this]; exact b5C hE h ho
 | build T parts=>exact b8F hE h ho
 | buildSlice T n parts=>exact b0m hE h ho
 | makeMap T r=>exact b4K hE h ho
 | lookup T x y ok =>
  have:n6 E o s=IN E T (s.ev x) (s.ev y) ok s:=by unfold n6; rw [ho]
  rw [this]; exact b4L hE h ho
 | mapUpdate T m x y =>
  have:n6 E o s=FX E T (s.ev m) (s.ev x) (s.ev y) s:=by unfold n6; rw [ho]
  rw [this]; exact c0c hE h ho
 | load T x =>
  have:n6 E o s=Z1 E T (s.ev x) s:=by unfold n6; rw [ho]
  rw [this];cases hl:Z1 E T (s.ev x) s with
  | fail why=>trivial
  | ok v s'=>exact b76 hE h ho hl
  | G6 p v s' =>
   exfalso;unfold Z1 at hl
   repeat' split at hl
   all_goals cases hl
 | store T x y =>
  unfold n6; rw [ho];simp only
  split
  ·rename_i i p hx; exact b5B hE h ho hx
  ·trivial
 | nilCheck x =>
  unfold n6; rw [ho];simp only
  split
  ·rename_i i p hx
   have hv:=D0 h hx;obtain ⟨e,b,off,h1,h2,h3,h4⟩:=hv;have h4:a.eval x=.pointer (some ⟨b,off,none⟩):=by simpa using h4
   exact C4.value (val:=.pointer (some ⟨b,off,none⟩)) (by simp only [execOp,ho,h4]; rfl) h ⟨e,b,off,h1,h2,h3,rfl⟩
  ·rename_i t y hx
   obtain ⟨b,off,e,h1,h2,h3⟩:=D0 h hx;have e:a.eval x=.pointer (some ⟨b,off,none⟩):=by simpa using e
   exact C4.value (val:=.pointer (some ⟨b,off,none⟩)) (by simp only [execOp,ho,e]; rfl) h ⟨b,off,rfl,h1,h2,h3⟩
  ·rename_i t y hx
   intro hy;obtain ⟨b,off,e,h1,h2,h3⟩:=Ev (D0 h hx) hy;have e:a.eval x=.pointer (some ⟨b,off,none⟩):=by simpa using e
   exact C4.value (val:=.pointer (some ⟨b,off,none⟩)) (by simp only [execOp,ho,e]; rfl) h ⟨b,off,rfl,h1,h2,h3⟩
  ·rename_i f t y hx
   intro hy;have hv:=D0 h hx;obtain ⟨p,e,-⟩:=Jx hv hy;exact C4.value (val:=a.eval x) (by simp only [execOp,ho,e]; rfl) h hv
  ·rename_i f l hx
   obtain ⟨us,e,h1⟩:=D0 h hx;have e:a.eval x=.func (.func f) #[] us.toArray:=by simpa using e
   exact C4.value (val:=.func (.func f) #[] us.toArray) (by simp only [execOp,ho,e]; rfl) h ⟨us,rfl,h1⟩
  ·rename_i g b hx
   intro hb;have hv:=HH h hx;have hb:b=true:=hb;subst hb;exact C4.value (val:=.func (.func g) #[] #[]) (by simp only [execOp,ho,hv]; rfl) h ⟨[fnV g true],rfl,rfl,rfl⟩
  ·trivial
 | binOp op T x y T' =>
  have:n6 E o s=wF E T op (s.ev x) (s.ev y) s:=by unfold n6; rw [ho]
  rw [this]; exact c1K hE h ho
 | unOp op T x =>
  have:n6 E o s=unA op (s.ev x) s:=by unfold n6; rw [ho]
  rw [this]; exact c0d h ho
 | convert T' T x=>exact b4S hE h ho
 | fieldAddr T x n=>exact b1o hE h ho
 | indexAddr T x y=>exact b1h hE h ho
 | field T x n=>exact b8d hE h ho
 | index T x y=>exact b8b hE h ho
 | extract x n =>
  unfold n6; rw [ho];simp only
  split
  ·rename_i l hx
   split
   ·rename_i v hn
    obtain ⟨us,e,hl⟩:=D0 h hx;have e:a.eval x=.tuple us.toArray:=by simpa using e
    obtain ⟨u,h1,h2⟩:=Nx hn hl;have he:execOp a.eval o=(do pure (.value (<- Instr.extract (a.eval x) n))):=by simp [execOp,ho]
    refine J3 he h (val:=u) ?_ h2;rw [e]; simp [Instr.extract,h1]
   ·trivial
  ·trivial
 | makeFunc fn first caps =>
  unfold n6;rw [ho];cases fn with
  | func f =>
   simp only
   split
   ·rename_i hf
    have hf:first=#[]:=by simpa using hf
    have:=h.K5 caps.toList;refine C4.value (val:=.func (.func f) #[] (caps.toList.map a.eval).toArray) ?_ h ⟨_,rfl,this⟩;simp [execOp,ho,Instr.makeFunc,hf,<- Array.toList_map]
   ·trivial
  | _=>trivial
 | call c=>exact c1C hE h ho
 | pick c x y=>exact absurd ho (iK c x y)
 | _=>unfold n6; rw [ho]; trivial
theorem La (hE:D9 E B) (hn:B.n=E.nt) (h:RS B S ι s a w) (o:Oper) {k:St->Tree (E.rs++F6 E.ps)} {L:Code->List Item->St->Prop} {Rt:DL (E.rs++F6 E.ps)->Prop} (ht:(yX E o s k).holds L Rt) {next:Act->World->Prop} {Q:Exit->Act->World->Prop}
  (hk:∀ S' ι' s' a' w',RS B S' ι' s' a' w'->(k s').holds L Rt->next a' w'):o.wp E.P a w next Q:=by
 unfold yX at ht;split at ht
 ·exact ht.elim
 ·rename_i hd
  rw [<- hn] at hd;split at ht
  ·rename_i c x y ho
   split at ht
   ·rename_i g hg
    have cW:=VX.Aw (D0 h hg);have aU:(execOp a.eval o).run E.P w=.ok (.value (if g then a.eval x else a.eval y)) w:=by
     simp only [execOp,ho,cW,asBool];cases g<;>simp
    unfold Oper.wp;rw [aU];cases g with
    | true=>exact hk S ι _ _ _ (h.put hd (h.ev x)) ht
    | false=>exact hk S ι _ _ _ (h.put hd (h.ev y)) ht
   ·exact ht.elim
  ·rename_i sH
   have hs:=Za hE h o (λ c x y e=>sH c x y e);split at ht
   ·exact ht.elim
   ·rename_i v s' e
    rw [e] at hs;exact hs next Q (λ S' ι' w' val h1 h2=>hk S' ι' _ _ _ (h1.put hd h2) ht)
   ·rename_i p v s' e
    rw [e] at hs;exact hs ht.1 next Q (λ S' ι' w' val h1 h2=>hk S' ι' _ _ _ (h1.put hd h2) (ht.2 ht.1))
theorem ZD {ops:Array Oper} {o:Oper} {j:Nat} {want:Bool} (hg:o.guard=some (j,want)) {g:Nat} (hs:AH ops j=some g) {tmps:Array Value} :
  Region.wanted o (yielded ops tmps)=((match tmps[g]? with|some (.bool b)=>some b|_=>none) == some want):=by
 have:((ops[j]?).bind (·.dst)).bind (tmps[·]?)=tmps[g]?:=by
  have:(ops[j]?).bind (·.dst)=some g:=hs;rw [this]; rfl
 simp only [Region.wanted,hg,yielded,this];rfl
theorem getD_some {l:Array Value} {g:Nat} {v:Value} (h:l.getD g undef=v) (hv:v≠undef):l[g]?=some v:=by
 simp only [Array.getD_eq_getD_getElem?] at h;cases hl:l[g]? with
 | none=>rw [hl] at h; exact absurd h.symm hv
 | some x=>rw [hl] at h; simp at h; rw [h]
theorem KZ (hE:D9 E B) (hn:B.n=E.nt) (h:RS B S ι s a w) {ops:Array Oper} (o:Oper) {k:St->Tree (E.rs++F6 E.ps)} {L:Code->List Item->St->Prop} {Rt:DL (E.rs++F6 E.ps)->Prop} (ht:(yr E ops o s k).holds L Rt) {next:Act->World->Prop} {Q:Exit->Act->World->Prop}
  (hk:∀ S' ι' s' a' w',RS B S' ι' s' a' w'->(k s').holds L Rt->next a' w') :
  if Region.wanted o (yielded ops a.tmps) then o.wp E.P a w next Q else next (a.put o.dst undef) w:=by
 unfold yr at ht;split at ht
 ·rename_i hg
  simp only [Region.wanted,hg,if_true];exact La hE hn h o ht hk
 ·rename_i j want hg
  split at ht
  ·exact ht.elim
  ·rename_i g hs
   rw [ZD hg hs];have hv:=h.ev (.tmp g);split at ht
   ·rename_i vs cW
    rw [cW] at hv;have hv:[a.tmps.getD g undef]=[Value.tuple vs]:=hv;have hv:a.tmps.getD g undef=.tuple vs:=by simpa using hv
    have gZ:((match a.tmps[g]? with|some (.bool b)=>some b|_=>none) == some want)=false:=by
     simp only [Array.getD_eq_getD_getElem?] at hv;cases hl:a.tmps[g]? with
     | none=>rfl
     | some x=>rw [hl] at hv; simp at hv; rw [hv]; rfl
    rw [gZ];split at ht
    ·rename_i hd
     rw [<- hn] at hd;exact hk S ι _ _ _ (h.put hd (v:=.raw undef) (val:=undef) (by rfl)) ht
    ·exact ht.elim
   ·rename_i b cW
    rw [cW] at hv;have hb:=VX.Aw hv;have cr:=getD_some hb (by simp [undef]);rw [cr];split at ht
    ·exact ht.elim
    ·rename_i hd
     rw [<- hn] at hd;have lq:∀ c,b=c->RS B S ι (s.put (some g) (.val .bool c)) a w:=by
      rintro c rfl;have bj:g<a.tmps.size:=by
       rcases Nat.lt_or_ge g a.tmps.size with h1|h1
       ·exact h1
       ·rw [Array.getElem?_eq_none h1] at cr; cases cr
      have:=h.put (d:=some g) (v:=.val .bool b) (val:=.bool b) (by simp [H7,Nat.blt_eq,<- h.sz,bj]) VX.bool;have e:a.put (some g) (.bool b)=a:=by
       simp only [Act.put];have:a.tmps.setIfInBounds g (.bool b)=a.tmps:=by
        apply Array.ext_getElem?;intro i;rw [Array.getElem?_setIfInBounds]
        split
        ·rename_i e; subst e; exact cr.symm
        ·rfl
       rw [this]
      rw [e] at this;exact this
     cases b with
     | true =>
      cases want with
      | true=>exact La hE hn (lq true rfl) o ht hk
      | false=>exact hk S ι _ _ _ ((lq true rfl).put hd (v:=.raw undef) (val:=undef) (by rfl)) ht
     | false =>
      cases want with
      | false=>exact La hE hn (lq false rfl) o ht hk
      | true=>exact hk S ι _ _ _ ((lq false rfl).put hd (v:=.raw undef) (val:=undef) (by rfl)) ht
   ·exact ht.elim
theorem b0V {P:Program} {T et:TypeId} (h1:P.underlying T=some (.slice et)) (d:Nat) (A:Option Addr) (n c:Nat):(Op.equalIn (d+1) T (.slice A n c) (.slice none 0 0)).run P w=.ok A.isNone w:=by
 cases A<;>simp [Op.equalIn,w8 h1]
theorem YN (hE:D9 E B) (h:RS B S ι s a w) {o:Oper} {p:Prop} {v1 v2:AV} (hb:brA E s o=some (p,v1,v2)) :
  ∃ val,(execOp a.eval o).run E.P w=.ok (.value val) w/\((p/\VX w.heap S ι s.hp v1 [val])\/VX w.heap S ι s.hp v2 [val]):=by
 unfold brA at hb;split at hb
 ·rename_i op T x y T' ho
  have key:∀ (b:Bool),(op=.eql/\b=true\/op=.neq/\b=false)->(match s.ev y,look T E.tt with
   | .raw (.slice none 0 0),some ⟨.d8 _ _,_⟩=>(match (s.ev x).els s with
    | some r=>some (r.2=[],AV.val .bool b,AV.val .bool (!b))
    | none=>none)
   | _,_=>none)=some (p,v1,v2)->∃ val,(execOp a.eval o).run E.P w=.ok (.value val) w/\((p/\VX w.heap S ι s.hp v1 [val])\/VX w.heap S ι s.hp v2 [val]):=by
   intro b cB hb;split at hb
   ·rename_i q u bts hy hT
    split at hb
    ·rename_i r hr
     obtain ⟨t0,l0⟩:=r;cases hb;have mo:[a.eval y]=[Value.slice none 0 0]:=D0 h hy;have mo:a.eval y=.slice none 0 0:=by simpa using mo
     obtain ⟨A,c,e,hA⟩:=En h.hs (h.ev x) hr;obtain ⟨et,k2,h1,_,_⟩:=H2 (Eu (t:=.d8 q u) (u:=.d8 true u) rfl (s9 hE hT));have hg:(eqGuard op T x y (a.eval x) (a.eval y)).run E.P w=.ok () w:=by rw [e,mo]; cases op<;>rfl
     have heq:(Op.equal T (.slice A (List.length l0) c) (.slice none 0 0)).run E.P w=.ok A.isNone w:=b0V h1 9999 A _ c;have eP:A=none->l0=[]:=by
      rintro rfl;rcases hA with h2|⟨b2,off2,O2,h2,_⟩
      ·exact h2
      ·cases h2
     have eR:∀ n:Bool,(n=A.isNone/\op=.eql/\b=true\/n=(!A.isNone)/\op=.neq/\b=false)->(l0=[]/\VX w.heap S ι s.hp (.val .bool b) [.bool n])\/VX w.heap S ι s.hp (.val .bool (!b)) [.bool n]:=by
      intro n hn;cases A with
      | none=>rcases hn with ⟨rfl,_,rfl⟩|⟨rfl,_,rfl⟩<;>exact .inl ⟨eP rfl,VX.bool⟩
      | some A=>rcases hn with ⟨rfl,_,rfl⟩|⟨rfl,_,rfl⟩<;>exact .inr VX.bool
     rcases cB with ⟨rfl,rfl⟩|⟨rfl,rfl⟩
     ·exact ⟨.bool A.isNone,by rw [U1 ho hg (r:=.ok (.bool A.isNone) w)]; rfl; rw [e,mo]; simp [binOp,heq],eR _ (.inl ⟨rfl,rfl,rfl⟩)⟩
     ·exact ⟨.bool (!A.isNone),by rw [U1 ho hg (r:=.ok (.bool (!A.isNone)) w)]; rfl; rw [e,mo]; simp [binOp,heq],eR _ (.inr ⟨rfl,rfl,rfl⟩)⟩
    ·cases hb
   ·cases hb
  split at hb
  ·exact key true (.inl ⟨rfl,rfl⟩) hb
  ·exact key false (.inr ⟨rfl,rfl⟩) hb
  ·cases hb
 ·cases hb
end
end Go.Ex
