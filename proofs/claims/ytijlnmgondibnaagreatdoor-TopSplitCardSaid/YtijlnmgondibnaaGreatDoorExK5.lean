import Derived.Test.YtijlnmgondibnaaGreatDoorExK4
import Derived.DeepKeys
import Derived.Laws.StructEq
import Derived.MapKept
import Derived.WideKeyRuns
import Derived.Lib.AppendZerosOnto
import Derived.Tactics
set_option linter.unusedVariables false
set_option linter.unusedSimpArgs false
set_option linter.unusedSectionVars false

namespace Go.Ex

section
variable {H H':Array Go.Obj} {S:Nat→Prop}

theorem Q8.r7 {q:Bool} {b n:Nat} (h:H'[b]?=H[b]?):Q8 q H b n→Q8 q H' b n:=by
 rintro ⟨arr,T,⟨fz,e,ef⟩,hn⟩
 exact ⟨arr,T,⟨fz,by rw [h]; exact e,ef⟩,hn⟩
theorem K4.r7 {b n:Nat} (h:H'[b]?=H[b]?):K4 H b n→K4 H' b n:=by
 rintro ⟨arr,T,⟨fz,e,ef⟩,hn⟩
 exact ⟨arr,T,⟨fz,by rw [h]; exact e,ef⟩,hn⟩

theorem i7.r7 {t:Ty} {O:List Nat} {cs:List Value} {l:List t.den} (h:i7 (f7 H S t) t.size O cs l) (hH:∀ c,c∈O∨S c→H'[c]?=H[c]?):i7 (f7 H' S t) t.size O cs l :=
 i7.mono (L:=O) (fun _ h=>h) (fun _ _ _ hO hr=>hr.r7 (fun c hc=>hH c (hc.imp (hO c) id)) (fun _ h=>h)) h

theorem s4.r7:∀ {t:Ty} {p:List Step} {b off:Nat} {O:List Nat} {x:t.den},s4 H S t p b off O x→(∀ c,c=b∨c∈O∨S c→H'[c]?=H[c]?) →
  s4 H' S t p b off O x∧w7 H' t p b off=w7 H t p b off:=by
 intro t
 induction t with
 | pair a c iha ihc =>
  intro p b off O x hR hH
  match p,hR with
  | [],hR=>exact ⟨hR,by rw [w8,w8]⟩
  | .l7 0::p,⟨O1,O2,e,h1,h2⟩ =>
   subst e
   obtain ⟨k1,k2⟩:=iha h1 (fun c hc=>hH c (hc.imp id (Or.imp (fun h=>by simp [h]) id)))
   refine ⟨⟨O1,O2,rfl,k1,?_⟩,k2⟩
   rw [l4 (hH b (.inl rfl))]
   exact h2.r7 (fun c hc=>hH c (.inr (hc.imp (fun h=>by simp [h]) id))) (fun _ h=>h)
  | .l7 (n+1)::p,⟨O1,O2,e,h1,h2⟩ =>
   subst e
   obtain ⟨k1,k2⟩:=ihc h2 (fun c hc=>hH c (hc.imp id (Or.imp (fun h=>by simp [h]) id)))
   refine ⟨⟨O1,O2,rfl,?_,k1⟩,k2⟩
   rw [l4 (hH b (.inl rfl))]
   exact h1.r7 (fun c hc=>hH c (.inr (hc.imp (fun h=>by simp [h]) id))) (fun _ h=>h)
  | .idx i::p,hR=>simp [s4] at hR
 | arr n t ih =>
  intro p b off O x hR hH
  match p,hR with
  | [],hR=>exact ⟨hR,by rw [w8,w8]⟩
  | .l7 i::p,hR=>simp [s4] at hR
  | .idx i::p,⟨hl,hi,O1,O2,O3,e,h1,h2,h3⟩ =>
   subst e
   obtain ⟨k1,k2⟩:=ih h2 (fun c hc=>hH c (hc.imp id (Or.imp (fun h=>by simp [h]) id)))
   refine ⟨⟨hl,hi,O1,O2,O3,rfl,?_,k1,?_⟩,k2⟩
   ·rw [l4 (hH b (.inl rfl))]
    exact h1.r7 (fun c hc=>hH c (.inr (hc.imp (fun h=>by simp [h]) id)))
   ·rw [l4 (hH b (.inl rfl))]
    exact h3.r7 (fun c hc=>hH c (.inr (hc.imp (fun h=>by simp [h]) id)))
 | d0 o t ih =>
  intro p b off O x hR hH
  match p,hR with
  | [],hR=>exact ⟨by cases o<;>exact hR,by rw [w8,w8]⟩
  | .l7 i::p,hR=>cases o<;>simp [s4] at hR
  | .idx i::p,hR =>
   cases o with
   | false=>simp [s4] at hR
   | true =>
    obtain ⟨hi,b1,o1,cap,O1,O2,O3,e,e1,e2,e3,e4,h1,h2,h3⟩:=hR
    subst e
    have hb1:H'[b1]?=H[b1]?:=hH b1 (by simp)
    obtain ⟨k1,k2⟩:=ih h2 (fun c hc=>hH c (hc.elim (fun h=>.inr (.inl (by simp [h]))) (fun h=>.inr (h.imp (fun h=>by simp [h]) id))))
    refine ⟨⟨hi,b1,o1,cap,O1,O2,O3,rfl,by rw [L7 (hH b (.inl rfl))]; exact e1,e2,e3,e4.r7 hb1,?_,k1,?_⟩,?_⟩
    ·rw [l4 hb1]
     exact h1.r7 (fun c hc=>hH c (.inr (hc.imp (fun h=>by simp [h]) id)))
    ·rw [l4 hb1]
     exact h3.r7 (fun c hc=>hH c (.inr (hc.imp (fun h=>by simp [h]) id)))
    ·simp only [w7,L7 (hH b (.inl rfl)),e1]
     exact k2
 | _ =>
  intro p b off O x hR hH
  match p,hR with
  | [],hR=>exact ⟨hR,by rw [w8,w8]⟩
  | .l7 i::p,hR=>simp [s4] at hR
  | .idx i::p,hR=>simp [s4] at hR
end

section
variable {S:Nat→Prop} {ι:Ix} {H H':Array Go.Obj}

theorem s4.move {i:Nat} {e:g8} {p:List Step} (hk:(∃ t x,e=.var t x)∨∃ t x j q,e=.own (.d0 true t) x∧p=.idx j::q) {O:List Nat} (hR:s4 (VH H ι i e) S e.ty p (VR H ι i e).1 (VR H ι i e).2 O e.x)
  (hO:∀ c∈O,c<H.size) (hS:∀ c,S c→c<H.size) (hsz:H.size≤H'.size) (hH:∀ c,(c=(VR H ι i e).1∧c<H.size)∨c∈O∨S c→H'[c]?=H[c]?) (hroot:(∃ t x,e=.var t x)→(VR H ι i e).1<H.size) :
  s4 (VH H' ι i e) S e.ty p (VR H' ι i e).1 (VR H' ι i e).2 O e.x∧w7 (VH H' ι i e) e.ty p (VR H' ι i e).1 (VR H' ι i e).2=w7 (VH H ι i e) e.ty p (VR H ι i e).1 (VR H ι i e).2:=by
 rcases hk with ⟨t,x,rfl⟩|⟨t,x,j,q,rfl,rfl⟩
 ·exact s4.r7 (H:=H) hR (fun c hc=>hH c (hc.imp (fun h=>⟨h,h▸hroot ⟨_,_,rfl⟩⟩) id))
 ·have hg:∀ c,c∈O∨S c→(VH H' ι i (.own (.d0 true t) x))[c]?=(VH H ι i (.own (.d0 true t) x))[c]?:=fun c hc=>by
   have h1:c<H.size:=hc.elim (hO c) (hS c)
   rw [E8 h1,E8 (Nat.lt_of_lt_of_le h1 hsz)]
   exact hH c (.inr hc)
  obtain ⟨hi,b1,o1,cap,O1,O2,O3,e0,e1,e2,e3,e4,h1,h2,h3⟩:=hR
  subst e0
  have hb1:=hg b1 (by simp)
  obtain ⟨k1,k2⟩:=s4.r7 h2 (H':=VH H' ι i (.own (.d0 true t) x)) (fun c hc=>hg c (hc.elim (fun h=>.inl (by simp [h])) (fun h=>h.imp (fun h=>by simp [h]) id)))
  have hblk:(s5 (VH H' ι i (.own (.d0 true t) x)) (VR H' ι i (.own (.d0 true t) x)).1)[(VR H' ι i (.own (.d0 true t) x)).2]?=some (.slice (some ⟨b1,o1,none⟩) (List.length x) cap):=by
   refine Eq.trans ?_ (show (s5 (VH H ι i (.own (.d0 true t) x)) (VR H ι i (.own (.d0 true t) x)).1)[(VR H ι i (.own (.d0 true t) x)).2]?=some (.slice (some ⟨b1,o1,none⟩) (List.length x) cap) from e1)
   simp only [VH,VR,a0k]
  refine ⟨⟨hi,b1,o1,cap,O1,O2,O3,rfl,hblk,e2,e3,e4.r7 hb1,?_,k1,?_⟩,?_⟩
  ·rw [l4 hb1]; exact h1.r7 (fun c hc=>hg c (hc.imp (fun h=>by simp [h]) id))
  ·rw [l4 hb1]; exact h3.r7 (fun c hc=>hg c (hc.imp (fun h=>by simp [h]) id))
  ·have e1':(s5 (VH H ι i (.own (.d0 true t) x)) (VR H ι i (.own (.d0 true t) x)).1)[(VR H ι i (.own (.d0 true t) x)).2]?=some (.slice (some ⟨b1,o1,none⟩) (List.length x) cap):=e1
   simp only [g8.ty,w7,hblk,e1']
   exact k2

theorem T4.refl {b off n m:Nat} (h:K4 H b m):T4 H H b off n:=by
 obtain ⟨arr,T,⟨fz,e,ef⟩,_⟩:=h
 exact ⟨⟨arr,arr,T,⟨fz,⟨e,ef⟩,e⟩,rfl,fun _ _=>rfl⟩,fun _ _ _=>rfl⟩

theorem b1c:∀ {t:Ty} {x:t.den} {p:List Step} {u:Ty} {y:u.den},w4 t x p→j6 t x p=some ⟨u,y⟩→r9 t x p u y=some ⟨t,x⟩:=by
 intro t
 have set_self:∀ {α:Type} {l:List α} {i:Int} {d:α},(0≤i∧i<List.length l)→List.set l i.toNat (List.getD l i.toNat d)=l:=by
  intro α l i d h
  have h1:i.toNat<l.length:=by omega
  rw [List.getD_eq_getElem?_getD,List.getElem?_eq_getElem h1]; simp
 induction t with
 | pair a c iha ihc =>
  intro x p u y ho hg
  match p,ho,hg with
  | [],_,hg=>simp only [j6,Option.some.injEq] at hg; cases hg; simp [r9]
  | .l7 0::p,ho,hg=>simp only [r9,iha (x:=x.1) ho hg]
  | .l7 (n+1)::p,ho,hg=>simp only [r9,ihc (x:=x.2) (p:=.l7 n::p) ho hg]
  | .idx i::p,ho,_=>simp [w4] at ho
 | arr n t ih =>
  intro x p u y ho hg
  match p,ho,hg with
  | [],_,hg=>simp only [j6,Option.some.injEq] at hg; cases hg; simp [r9]
  | .l7 i::p,ho,_=>simp [w4] at ho
  | .idx i::p,ho,hg =>
   simp only [r9,ih ho.2 hg,dif_pos]
   by_cases hl:i<List.length x
   ·rw [set_self ⟨ho.1.1,hl⟩]
   ·rw [List.set_eq_of_length_le (by have:=ho.1.1; omega)]
 | d0 o t ih =>
  intro x p u y ho hg
  match p,ho,hg with
  | [],_,hg=>rw [x7] at hg; cases hg; cases o<;>simp [r9]
  | .l7 i::p,ho,_=>cases o<;>simp [w4] at ho
  | .idx i::p,ho,hg =>
   cases o with
   | false=>simp [w4] at ho
   | true =>
    simp only [r9,ih ho.2 hg,dif_pos]
    rw [set_self ho.1]
 | _ =>
  intro x p u y ho hg
  match p,ho,hg with
  | [],_,hg=>simp only [j6,Option.some.injEq] at hg; cases hg; simp [r9]
  | .idx i::p,ho,_=>simp [w4] at ho
  | .l7 i::p,ho,_=>simp [w4] at ho

theorem OB.set {i:Nat} {e:g8} (ho:OB H S ι i e) (hbl:∀ c∈l6 ι i e,¬ S c∧c<H.size) (hS:∀ c,S c→c<H.size) {p:List Step} (hk:(∃ t x,e=.var t x)∨∃ t x j q,e=.own (.d0 true t) x∧p=.idx j::q) (hok:w4 e.ty e.x p) {u:Ty} {y:u.den} (hg:j6 e.ty e.x p=some ⟨u,y⟩)
  {b off:Nat} (hl:Loc H ι i e p=some (b,off)) (hsz:H.size≤H'.size) {Op:List Nat} (hOp:f7 H S u Op (d8 H b off u.size) y) (hH:∀ c,c<H.size→c∉Op→H'[c]?=H[c]?) {y':u.den} (hR':f7 H' S u Op (d8 H' b off u.size) y') {r:Sigma Ty.den} (hset:r9 e.ty e.x p u y'=some r) :
  OB H' S ι i (e.D6 r)∧Loc H' ι i e p=some (b,off):=by
 have he:e≠.I9:=K3 hl
 have hbOp:=ho.a0E he hS hok hg hl hOp
 obtain ⟨Om,m1,mn,m2,m3,m4,m5⟩:=N2 he ho hS hok hg hl
 obtain ⟨O,hO,hR,hb,hnd,hlt,hns,hfr⟩:=ho.see he hS
 obtain ⟨O1,O3,b',off',e1,e2,e3,e4,e5,e6⟩:=focus hR hb hok hg
 obtain ⟨hpl,hbl2⟩:=y9 hl
 rw [F7 he] at hpl
 rw [e3] at hpl; cases hpl
 have hndO:(O1++O3).Nodup:=(e1.nodup_iff).1 ((hO.nodup_iff).2 (List.nodup_cons.1 hnd).2)
 have hmem:∀ c∈O1,c∈ι.own i:=fun c hc=>hO.mem_iff.1 (e1.mem_iff.2 (by simp [hc]))
 have hmem3:∀ c∈O3,c∈ι.own i:=fun c hc=>hO.mem_iff.1 (e1.mem_iff.2 (by simp [hc]))
 have hroot:=(List.nodup_cons.1 hnd).1
 have hown:∀ c∈ι.own i,c∈l6 ι i e:=by intro c hc; cases e<;>simp [l6,hc]
 have e4':f7 H S u O3 (d8 H b off u.size) y:=by
  rw [l4 (E8 hbl2)] at e4
  exact (Z1 (fun c hc=>ho.P6 he (hmem3 c hc)) hS).1 e4
 obtain rfl:Op=O3:=hOp.det e4'
 have hlt1:∀ c∈O1,c<H.size:=fun c hc=>ho.P6 he (hmem c hc)
 have hagree:∀ c,(c=(VR H ι i e).1∧c<H.size)∨c∈O1∨S c→H'[c]?=H[c]?:=by
  rintro c (⟨rfl,h1⟩|h1|h1)
  ·exact hH _ h1 (fun h=>hroot (hmem3 _ h))
  ·exact hH c (hlt1 c h1) (fun h=>(List.nodup_append.1 hndO).2.2 c h1 c h rfl)
  ·exact hH c (hS c h1) (fun h=>(hbl c (hown c (hmem3 c h))).1 h1)
 have hvr:(∃ t x,e=.var t x)→(VR H ι i e).1<H.size:=by rintro ⟨t,x,rfl⟩; exact hlt
 obtain ⟨n1,n2⟩:=s4.move (H':=H') hk e2 hlt1 hS hsz hagree hvr
 have hb':(VR H' ι i e).2+e.ty.size≤(s5 (VH H' ι i e) (VR H' ι i e).1).length∧(VR H' ι i e).1<(VH H' ι i e).size∧¬ S (VR H' ι i e).1∧(VR H' ι i e).1∉O1:=by
  rcases hk with ⟨t,x,rfl⟩|⟨t,x,j,q,rfl,rfl⟩
  ·have hr:=hvr ⟨_,_,rfl⟩
   refine ⟨?_,Nat.lt_of_lt_of_le hr hsz,(hbl _ (by simp [l6,VR])).1,fun h=>hroot (hmem _ h)⟩
   have:=L7 (hagree _ (.inl ⟨rfl,hr⟩))
   show (VR H ι i (.var t x)).2+_≤(s5 H' (VR H ι i (.var t x)).1).length
   rw [this]; exact hb
  ·refine ⟨?_,by simp [VH,VR,a4v],fun h=>by have:=hS _ h; simp only [VR] at this; omega,fun h=>by have:=hlt1 _ h; simp only [VR] at this; omega⟩
   simp only [VH,VR,a0k] at hb ⊢; exact hb
 have hfree:K4 (VH H' ι i e) b (off+u.size):=K4.r7 (H:=H') (E8 (Nat.lt_of_lt_of_le hbl2 hsz)) (m5.r7 (hH b hbl2 hbOp))
 have hRv:f7 (VH H' ι i e) S u Op (d8 (VH H' ι i e) b off u.size) y':=by
  rw [l4 (E8 (Nat.lt_of_lt_of_le hbl2 hsz))]
  exact (Z1 (fun c hc=>Nat.lt_of_lt_of_le (ho.P6 he (hmem3 c hc)) hsz) (fun c hc=>Nat.lt_of_lt_of_le (hS c hc) hsz)).2 hR'
 obtain ⟨O4,f1,f2,f3⟩:=a4m n1 hg (n2.trans e3) hb'.1 hb'.2.1 (List.nodup_append.1 hndO).1 hb'.2.2.2 (fun c hc=>⟨(hbl c (hown c (hmem c hc))).1,Nat.lt_of_lt_of_le (hlt1 c hc) (Nat.le_trans hsz a2h)⟩) hb'.2.2.1
  (fun c hc=>Nat.lt_of_lt_of_le (hS c hc) (Nat.le_trans hsz a2h)) (fun _ h=>h) (T4.refl hfree) hRv hset
 have hsub:∀ c∈O4,c∈ι.own i:=fun c hc=>(List.mem_append.1 (f1.mem_iff.1 hc)).elim (hmem c) (hmem3 c)
 have hnd4:O4.Nodup:=(f1.nodup_iff).2 hndO
 have f2':=(Z1 (fun c hc=>Nat.lt_of_lt_of_le (ho.P6 he (hsub c hc)) hsz) (fun c hc=>Nat.lt_of_lt_of_le (hS c hc) hsz)).1 f2
 have hp4:O4.Perm (ι.own i):=f1.trans (e1.symm.trans hO)
 refine ⟨?_,Z3 (by rw [F7 he,n2]; exact e3) (Nat.lt_of_lt_of_le hbl2 hsz)⟩
 have hsz9:r.1.size=e.ty.size:=E3 f3
 cases e with
 | var t x =>
  obtain ⟨_,hf,hnd0⟩:=ho
  have hf:K4 H (ι.root i).1 ((ι.root i).2+t.size):=hf
  refine ⟨⟨O4,hp4,f2'⟩,?_,hnd0⟩
  have hsz9:r.1.size=t.size:=hsz9
  show K4 H' (ι.root i).1 ((ι.root i).2+r.1.size)
  rw [hsz9]
  exact hf.r7 (hagree _ (.inl ⟨rfl,hvr ⟨_,_,rfl⟩⟩))
 | own t x =>
  obtain ⟨⟨O',_,hR'⟩,hnd0⟩:=ho
  refine ⟨⟨O4,hp4,?_⟩,hnd0⟩
  have hsz9:r.1.size=t.size:=hsz9
  have:d8 (VH H' ι i (.own t x)) (VR H' ι i (.own t x)).1 (VR H' ι i (.own t x)).2 r.1.size=ι.cells i:=by
   simp only [VH,VR,d8,a0k,List.drop_zero]
   exact List.take_of_length_le (by rw [hR'.length,hsz9]; exact Nat.le_refl _)
  have f2'':f7 H' S r.1 O4 (d8 (VH H' ι i (.own t x)) (VR H' ι i (.own t x)).1 (VR H' ι i (.own t x)).2 r.1.size) r.2:=f2'
  rw [this] at f2''
  exact f2''
 | I9=>exact absurd rfl he

theorem OB.same {i:Nat} {e:g8} (ho:OB H S ι i e) (hbl:∀ c∈l6 ι i e,¬ S c∧c<H.size) (hS:∀ c,S c→c<H.size) {p:List Step} (hk:(∃ t x,e=.var t x)∨∃ t x j q,e=.own (.d0 true t) x∧p=.idx j::q) (hok:w4 e.ty e.x p) {u:Ty} {y:u.den} (hg:j6 e.ty e.x p=some ⟨u,y⟩)
  {b off:Nat} (hl:Loc H ι i e p=some (b,off)) (hsz:H.size≤H'.size) {Op:List Nat} (hOp:f7 H S u Op (d8 H b off u.size) y) (hH:∀ c,c<H.size→c∉Op→H'[c]?=H[c]?) (hR':f7 H' S u Op (d8 H' b off u.size) y) :
  OB H' S ι i e∧Loc H' ι i e p=some (b,off):=by
 have h1:=OB.set ho hbl hS hk hok hg hl hsz hOp hH hR' (b1c hok hg)
 have he:=K3 hl
 have e9:e.D6 ⟨e.ty,e.x⟩=e:=by cases e<;>first|rfl|exact absurd rfl he
 rw [e9] at h1
 exact h1
end

section
variable {E:Env} {B:D4} {S:Nat→Prop} {ι:Ix} {s:St} {a:Act} {w:World}

theorem a8m {H:Array Go.Obj} {i:Nat} {e:g8} (ho:OB H S ι i e) (hS:∀ c,S c→c<H.size) {p:List Step} (hkd:(∃ t x,e=.var t x)∨∃ t x j q,e=.own (.d0 true t) x∧p=.idx j::q) (hok:w4 e.ty e.x p) {u:Ty} {y:u.den} (hg:j6 e.ty e.x p=some ⟨u,y⟩) :
  ∃ b off,Loc H ι i e p=some (b,off):=by
 have hnb:e≠.I9:=by rcases hkd with ⟨_,_,rfl⟩|⟨_,_,_,_,rfl,_⟩<;>(intro h; cases h)
 obtain ⟨O,hO,hR,hbb,hnd0,hlt0,hns,hfr⟩:=ho.see hnb hS
 obtain ⟨O1,O3,b',off',g1,g2,g3,g4,g5,g6⟩:=focus hR hbb hok hg
 have hO1:∀ c∈O1,c<H.size:=fun c hc=>ho.P6 hnb (hO.mem_iff.1 (g1.mem_iff.2 (by simp [hc])))
 refine ⟨b',off',Z3 (by rw [F7 hnb]; exact g3) ?_⟩
 rcases hkd with ⟨t,x,rfl⟩|⟨t,x,j,q,rfl,rfl⟩
 ·rcases s4.range g2 hg g3 with ⟨h1,_⟩|h1
  ·rw [h1]; exact ho.2.1.lt
  ·exact hO1 _ h1
 ·obtain ⟨hi,c1,o1,cap,P1,P2,P3,e,e1,e2,e3,e4,e5,e6,e7⟩:=g2
  subst e
  have e1':(s5 (VH H ι i (.own (.d0 true t) x)) (VR H ι i (.own (.d0 true t) x)).1)[(VR H ι i (.own (.d0 true t) x)).2]?=some (.slice (some ⟨c1,o1,none⟩) (List.length x) cap):=e1
  simp only [g8.ty,w7,e1'] at g3
  rcases s4.range e6 hg g3 with ⟨h1,_⟩|h1
  ·rw [h1]; exact hO1 _ (by simp)
  ·exact hO1 _ (by simp [h1])

theorem b8Q {e:g8} {p:List Step} {r:Sigma Ty.den} (h:a5l e p r=true):(∃ t x,e=.var t x)∨∃ t x,e=.own (.d0 true t) x∧(p=[]∨∃ j q,p=.idx j::q):=by
 unfold a5l at h
 split at h
 ·exact .inl ⟨_,_,rfl⟩
 ·simp only [Bool.and_eq_true] at h
  obtain ⟨_,h⟩:=h
  split at h
  ·exact .inr ⟨_,_,rfl,.inl rfl⟩
  ·exact .inr ⟨_,_,rfl,.inr ⟨_,_,rfl⟩⟩
  ·cases h
 ·cases h
theorem a7J {e:g8} {p:List Step} {r:Sigma Ty.den} (h:a5l e p r=true):a67 e (e.D6 r):=by
 unfold a5l at h
 obtain ⟨r1,r2⟩:=r
 split at h
 ·rename_i t x
  obtain rfl:r1=t:=of_decide_eq_true h
  exact .inl ⟨r1,x,r2,rfl,rfl⟩
 ·rename_i t x
  simp only [Bool.and_eq_true] at h
  obtain rfl:r1=.d0 true t:=of_decide_eq_true h.1
  exact .inr (.inl ⟨t,x,r2,rfl,rfl⟩)
 ·cases h

theorem b5W {P:Program} (h:RS B S ι s a w) {i:Nat} {e:g8} (he:look i s.hp=some e) {p:List Step} (hok:w4 e.ty e.x p) {t0:Ty} {l:List t0.den} (hg:j6 e.ty e.x p=some ⟨.d0 true t0,l⟩) (hsh:t0.shared=true)
  {b1 o1 cap:Nat} (hc:Cells w.heap ι i e p (.d0 true t0) [.slice (some ⟨b1,o1,none⟩) l.length cap]) (h1c:1≤cap) {lo:Nat} {m:List t0.den} (hlo:lo+m.length≤l.length) {news:List Value} (hN:i7 (f7 w.heap S t0) t0.size [] news m)
  {r:Sigma Ty.den} (hset:r9 e.ty e.x p (.d0 true t0) (l.take lo++m++l.drop (lo+m.length))=some r) (hst:a5l e p r=true) :
  ∃ w' ι',(storeCells ⟨b1,o1+lo*t0.size,none⟩ news).run P w=.ok () w'∧RS B S ι' ((s.T6 i e.W4).s8 i (e.D6 r)) a w':=by
 have hnb:e≠.I9:=a2B hc
 obtain ⟨Op,m1,mn,hR⟩:=F0 h.hs he hok hg hc
 have hbl:∀ c∈l6 ι i e,¬ S c∧c<w.heap.size:=fun c hcc=>⟨(h.hs.bl i e he c hcc).1,(h.hs.bl i e he c hcc).2.2⟩
 have hR0:=hR
 rcases hR with ⟨_,⟨A,c,e0,hc0⟩,_⟩|⟨b2,o2,cap2,O',c1,c2,c3,c4,c5,rfl,c7⟩
 ·simp only [List.cons.injEq,Value.slice.injEq,and_true] at e0
  have:=hc0 rfl; omega
 simp only [List.cons.injEq,Value.slice.injEq,Option.some.injEq,Addr.mk.injEq,and_true,true_and] at c1
 obtain ⟨⟨rfl,rfl⟩,rfl⟩:=c1
 have hO':O'=[]:=i7.J5 (fun _ _ _ hr=>f7.J5 hsh hr) c5
 subst hO'
 have hb1:b1∈l6 ι i e:=F5 (m1 b1 (by simp))
 have hb1lt:=(hbl b1 hb1).2
 have hln:news.length=m.length*t0.size:=i7.length (fun _ _ _ h=>h.length) hN
 have hle1:lo*t0.size+m.length*t0.size≤l.length*t0.size:=by rw [← Nat.add_mul]; exact Nat.mul_le_mul_right _ hlo
 have hle2:l.length*t0.size≤cap*t0.size:=Nat.mul_le_mul_right _ c2
 obtain ⟨arr,T',⟨fz,e1,ef⟩,hn⟩:=c7
 have hblk:s5 w.heap b1=arr.toList:=by simp only [s5,e1]
 have hst':=X7 (P:=P) b1 (o1+lo*t0.size) T' fz news 0 arr w ⟨e1,ef.imp id (·.2)⟩ (by omega) (fun v hv=>(i7.plain (fun _ _ _ hr=>hr.plain) hN v hv).1)
 simp only [Nat.add_zero] at hst'
 have hover:arr.toList.take (o1+lo*t0.size)++news++arr.toList.drop (o1+lo*t0.size+news.length)=over (s5 w.heap b1) (o1+lo*t0.size) news:=by rw [hblk]; rfl
 rw [hover] at hst'
 obtain ⟨hch,hcs⟩:=a3E (w:=w) (b:=b1) (off:=o1+lo*t0.size) (cs:=news) ⟨arr,T',⟨fz,e1,ef.imp id (·.2)⟩,by omega⟩
 generalize hw':w.setRow b1 (over (s5 w.heap b1) (o1+lo*t0.size) news).toArray=w' at hst' hch hcs
 have hsz:w'.heap.size=w.heap.size:=by rw [← hw']; exact setRow_size
 have hpast:y8 [b1] w w':=⟨by rw [← hw']; rfl,.of (by rw [← hw']; rfl) (by rw [← hw']; rfl),by rw [← hw']; rfl,by rw [hsz]; exact Nat.le_refl _,fun c _ hcb=>by rw [← hw']; exact setRow_other (by simpa using hcb)⟩
 have hfr:Q8 t0.isB w'.heap b1 (o1+cap*t0.size):=hch.b8L ⟨arr,T',⟨fz,e1,ef⟩,hn⟩
 have hlen:(l.take lo++m++l.drop (lo+m.length)).length=l.length:=by simp only [List.length_append,List.length_take,List.length_drop]; omega
 have hplain:∀ {O:List Nat} {cs:List Value} {y:t0.den},f7 w.heap S t0 O cs y→f7 w'.heap S t0 O cs y:=by
  intro O cs y hr
  have hO:=f7.J5 hsh hr
  subst hO
  refine hr.r7 (fun c hcc=>hpast.frame c ?_ ?_) (fun _ h=>h)
  ·rcases hcc with h9|h9
   ·cases h9
   ·exact h.hs.slt c h9
  ·rcases hcc with h9|h9
   ·cases h9
   ·rintro h8
    have:c=b1:=by simpa using h8
    exact (hbl b1 hb1).1 (this▸h9)
 have hmono:∀ {cs:List Value} {l':List t0.den},i7 (f7 w.heap S t0) t0.size [] cs l'→i7 (f7 w'.heap S t0) t0.size [] cs l':=fun hr=>i7.mono (L:=[]) (fun _ h=>h) (fun _ _ _ _ hr=>hplain hr) hr
 -- the parts that stay
 have htake:∀ {k:Nat} {l':List t0.den} {O:List Nat} {cs:List Value},k≤l'.length→i7 (f7 w.heap S t0) t0.size O cs l'→i7 (f7 w.heap S t0) t0.size [] (cs.take (k*t0.size)) (l'.take k)∧i7 (f7 w.heap S t0) t0.size [] (cs.drop (k*t0.size)) (l'.drop k):=by
  intro k
  induction k with
  | zero =>
   intro l' O cs _ hr
   have:=i7.J5 (fun _ _ _ hr=>f7.J5 hsh hr) hr
   subst this
   simp only [Nat.zero_mul,List.take_zero,List.drop_zero]
   exact ⟨⟨rfl,rfl⟩,hr⟩
  | succ k ih =>
   intro l' O cs hk hr
   match l',hk,hr with
   | x::l',hk,⟨O1,O2,_,r1,r2⟩ =>
    obtain ⟨q1,q2⟩:=ih (by simpa using hk) r2
    have e9:=f7.J5 hsh r1
    subst e9
    refine ⟨⟨[],[],rfl,?_,?_⟩,?_⟩
    ·rw [List.take_take,Nat.min_eq_left (by rw [Nat.succ_mul]; omega)]; exact r1
    ·rw [List.drop_take,show (k+1)*t0.size - t0.size=k*t0.size by rw [Nat.succ_mul]; omega]; exact q1
    ·rw [List.drop_drop,show t0.size+k*t0.size=(k+1)*t0.size by rw [Nat.succ_mul]; omega] at q2; exact q2
 have hcell:d8 w'.heap b1 o1 (l.length*t0.size)=(d8 w.heap b1 o1 (l.length*t0.size)).take (lo*t0.size)++news++(d8 w.heap b1 o1 (l.length*t0.size)).drop ((lo+m.length)*t0.size):=by
  have e3:l.length*t0.size=lo*t0.size+(news.length+(l.length - (lo+m.length))*t0.size):=by
   rw [hln,← Nat.add_mul,← Nat.add_mul]; congr 1; omega
  have e4:o1+lo*t0.size+news.length=o1+(lo+m.length)*t0.size:=by rw [hln,Nat.add_mul]; omega
  rw [m0 _ _ _ _ (by omega),n5]
  have e5:l.length*t0.size - (lo+m.length)*t0.size=(l.length - (lo+m.length))*t0.size:=by rw [Nat.sub_mul]
  rw [e5]
  conv=>lhs; rw [e3]
  rw [a2d,a2d,hcs,e4,hch.cells hb1lt (fun _=>.inl (Nat.le_refl _)),hch.cells hb1lt (fun _=>.inr (by rw [hln,Nat.add_mul]; omega)),List.append_assoc]
 have hRl:i7 (f7 w'.heap S t0) t0.size [] (d8 w'.heap b1 o1 (l.length*t0.size)) (l.take lo++m++l.drop (lo+m.length)):=by
  rw [hcell]
  exact i7.append (fun _ _ _ h=>h.length) (i7.append (fun _ _ _ h=>h.length) (hmono (htake (by omega) c5).1) (hmono hN)) (hmono (htake (by omega) c5).2)
 have hR':f7 w'.heap S (.d0 true t0) [b1] [.slice (some ⟨b1,o1,none⟩) l.length cap] (l.take lo++m++l.drop (lo+m.length)):=by
  refine .inr ⟨b1,o1,cap,[],by rw [hlen],by rw [hlen]; exact c2,c3,?_,by rw [hlen]; exact hRl,rfl,hfr⟩
  rw [hlen]
  have:=hfr.free.s5
  omega
 have hOB:∃ O,OB w'.heap S (ι.y7 i O) i (e.D6 r)∧∀ c∈l6 (ι.y7 i O) i (e.D6 r),c∈l6 ι i e:=by
  have hsame:∀ (ob:OB w'.heap S ι i (e.D6 r)),∃ O,OB w'.heap S (ι.y7 i O) i (e.D6 r)∧∀ c∈l6 (ι.y7 i O) i (e.D6 r),c∈l6 ι i e:=by
   intro ob
   refine ⟨ι.own i,?_,?_⟩
   ·cases e<;>simpa [OB,Ix.y7,g8.D6] using ob
   ·intro c hcc
    cases e with
    | var t x=>simpa [l6,Ix.y7,g8.D6] using hcc
    | own t x=>simpa [l6,Ix.y7,g8.D6] using hcc
    | I9=>exact absurd rfl hnb
  obtain ⟨b0,off0,hpl,hcs0⟩:=hc
  rcases b8Q hst with ⟨t,x,rfl⟩|⟨t,x,rfl,hp⟩
  ·-- a variable
   have hok':=hok
   obtain ⟨b,off,hl⟩:=a8m (h.hs.ob i _ he) h.hs.slt (.inl ⟨_,_,rfl⟩) hok hg
   have hpl2:=(y9 hl).1
   rw [hpl] at hpl2; cases hpl2
   have hblt:=(y9 hl).2
   obtain ⟨Oq,q1,q2,q3,q4,q5,q6⟩:=N2 hnb (h.hs.ob i _ he) h.hs.slt hok hg hl
   have hcw:d8 w.heap b0 off0 1=[.slice (some ⟨b1,o1,none⟩) l.length cap]:=by
    rw [l4 (E8 hblt)] at hcs0; exact hcs0.symm
   have hOq:Oq=[b1]:=by
    have q3':f7 w.heap S (.d0 true t0) Oq [.slice (some ⟨b1,o1,none⟩) l.length cap] l:=by rw [← hcw]; exact q3
    exact q3'.det hR0
   subst hOq
   have hbne:=(h.hs.ob i _ he).a0E hnb h.hs.slt hok hg hl q3
   have hcw':d8 w'.heap b0 off0 1=[.slice (some ⟨b1,o1,none⟩) l.length cap]:=by
    rw [l4 (hpast.frame b0 hblt hbne)]; exact hcw
   exact hsame (OB.set (h.hs.ob i _ he) hbl h.hs.slt (.inl ⟨_,_,rfl⟩) hok hg hl (by rw [hsz]; exact Nat.le_refl _) q3 (fun c hcl hcn=>hpast.frame c hcl hcn) (by
    show f7 w'.heap S (.d0 true t0) [b1] (d8 w'.heap b0 off0 1) _
    rw [hcw']; exact hR') hset).1
  ·-- a slice of the call's own
   rcases hp with rfl|⟨j,q,rfl⟩
   ·have hg':j6 (.d0 true t) x []=some ⟨.d0 true t0,l⟩:=hg
    rw [x7] at hg'
    simp only [Option.some.injEq,Sigma.mk.injEq,Ty.d0.injEq,true_and] at hg'
    obtain ⟨rfl,hxl⟩:=hg'
    obtain rfl:x=l:=eq_of_heq hxl
    obtain ⟨⟨O9,hp9,hR9⟩,hnd9⟩:=h.hs.ob i _ he
    have hcel:ι.cells i=[.slice (some ⟨b1,o1,none⟩) (List.length x) cap]:=by
     rw [F7 hnb,w8] at hpl
     cases hpl
     have hlc:(ι.cells i).length=1:=hR9.length
     simp only [VH,VR,d8,a0k,List.drop_zero,Ty.size] at hcs0
     rw [List.take_of_length_le (by omega)] at hcs0
     exact hcs0.symm
    have hset':r9 (.d0 true t) x [] (.d0 true t) (x.take lo++m++x.drop (lo+m.length))=some r:=hset
    have hr:r=⟨.d0 true t,x.take lo++m++x.drop (lo+m.length)⟩:=by
     simp only [r9,if_true,Option.some.injEq] at hset'
     exact hset'.symm
    subst hr
    rw [hcel] at hR9
    have hO9:O9=[b1]:=hR9.det hR0
    subst hO9
    refine hsame ⟨⟨[b1],hp9,?_⟩,hnd9⟩
    rw [hcel]; exact hR'
   ·obtain ⟨b,off,hl⟩:=a8m (h.hs.ob i _ he) h.hs.slt (.inr ⟨_,_,_,_,rfl,rfl⟩) hok hg
    have hpl2:=(y9 hl).1
    rw [hpl] at hpl2; cases hpl2
    have hblt:=(y9 hl).2
    obtain ⟨Oq,q1,q2,q3,q4,q5,q6⟩:=N2 hnb (h.hs.ob i _ he) h.hs.slt hok hg hl
    have hcw:d8 w.heap b0 off0 1=[.slice (some ⟨b1,o1,none⟩) l.length cap]:=by
     rw [l4 (E8 hblt)] at hcs0; exact hcs0.symm
    have hOq:Oq=[b1]:=by
     have q3':f7 w.heap S (.d0 true t0) Oq [.slice (some ⟨b1,o1,none⟩) l.length cap] l:=by rw [← hcw]; exact q3
     exact q3'.det hR0
    subst hOq
    have hbne:=(h.hs.ob i _ he).a0E hnb h.hs.slt hok hg hl q3
    have hcw':d8 w'.heap b0 off0 1=[.slice (some ⟨b1,o1,none⟩) l.length cap]:=by
     rw [l4 (hpast.frame b0 hblt hbne)]; exact hcw
    exact hsame (OB.set (h.hs.ob i _ he) hbl h.hs.slt (.inr ⟨_,_,_,_,rfl,rfl⟩) hok hg hl (by rw [hsz]; exact Nat.le_refl _) q3 (fun c hcl hcn=>hpast.frame c hcl hcn) (by
     show f7 w'.heap S (.d0 true t0) [b1] (d8 w'.heap b0 off0 1) _
     rw [hcw']; exact hR') hset).1
 obtain ⟨O,hob,hOb⟩:=hOB
 refine ⟨w',_,hst',h.renew he (a7J hst) C9.nil (L:=l6 ι i e) (hpast.mono (by simpa using hb1)) (fun b hb=>.inl hb) (fun _ h=>h) (fun _ h=>.inl h) (O':=O) hob (fun c hcc=>?_)⟩
 have:=h.hs.bl i e he c (hOb c hcc)
 exact ⟨this.1,.inr (hOb c hcc),by rw [hsz]; exact this.2.2⟩
theorem b8P (h:RS B S ι s a w) {i:Nat} {e:g8} (he:look i s.hp=some e) {p:List Step} {r:Sigma Ty.den} (hst:a5l e p r=true) (hr:e.D6 r=e):∃ ι',RS B S ι' ((s.T6 i e.W4).s8 i (e.D6 r)) a w:=by
 have hal:=a7J hst
 rw [hr] at hal ⊢
 have hs:ι.y7 i (ι.own i)=ι:=by
  cases ι with
  | mk r c o =>
   simp only [Ix.y7,Ix.mk.injEq,true_and]
   funext j
   split
   ·rename_i e9; rw [e9]
   ·rfl
 exact ⟨_,h.renew he hal C9.nil (L:=l6 ι i e) ⟨rfl,.refl _,rfl,Nat.le_refl _,fun _ _ _=>rfl⟩ (fun b hb=>.inl hb) (fun _ h=>h) (fun _ h=>.inl h) (O':=ι.own i) (by rw [hs]; exact h.hs.ob i e he) (fun c hcc=>by
  rw [hs] at hcc
  have:=h.hs.bl i e he c hcc
  exact ⟨this.1,.inr hcc,this.2.2⟩)⟩

theorem b0B (h:RS B S ι s a w) {v:AV} {val:Value} (hv:VX w.heap S ι s.hp v [val]) {i:Nat} {p:List Step} {lo hi:Int} (hd:v.a2H s=some (i,p,lo,hi)) :
  ∃ e t0 l A cap c A',look i s.hp=some e∧w4 e.ty e.x p∧j6 e.ty e.x p=some ⟨.d0 true t0,l⟩∧Cells w.heap ι i e p (.d0 true t0) [.slice A (List.length l) cap]∧0≤lo∧lo≤hi∧hi≤(List.length l:Int) ∧
   val=.slice A' (hi - lo).toNat c∧(c≠0→A'=A.map (·.add (lo.toNat*t0.size)))∧(hi - lo).toNat≤c:=by
 unfold AV.a2H at hd
 split at hd
 ·rename_i j q
  split at hd
  ·rename_i t0 l hpt
   cases hd
   obtain ⟨e,u,y,cs,h1,h2,h3,h4,h5⟩:=hv
   have hg:=G3 h1 hpt
   rw [h3] at hg; cases hg
   obtain ⟨O2,m1,m2,m3⟩:=F0 h.hs h1 h2 h3 h4
   obtain ⟨A,cap,hcs,hle⟩:∃ A cap,cs=[.slice A (List.length l) cap]∧List.length l≤cap:=by
    rcases m3 with ⟨_,⟨A,c,e0,hc0⟩,hl⟩|⟨b2,o2,cap2,O',c1,c2,_⟩
    ·subst hl; exact ⟨A,c,e0,Nat.zero_le _⟩
    ·exact ⟨_,_,c1,c2⟩
   subst hcs
   refine ⟨e,t0,l,A,cap,cap,A,h1,h2,h3,h4,Int.le_refl _,by omega,Int.le_refl _,?_,fun _=>?_,by omega⟩
   ·have h5:val=.slice A (List.length l) cap:=by simpa [j7,Ty.agg] using h5
    rw [h5,show ((List.length l:Int) - 0).toNat=List.length l by omega]
   ·cases A with
    | none=>rfl
    | some A=>simp [Addr.add]
  ·cases hd
 ·rename_i j q lo' hi'
  split at hd
  ·rename_i t0 l hpt
   cases hd
   obtain ⟨e,v',h1,h2,h3,h4,h5,h6⟩:=hv
   have hg:=G3 h1 hpt
   cases h3
   rcases h6 with ⟨t1,l1,A,cap,k1,k2,k3,c,A',k4,k5,k6,k7⟩|⟨n,t1,l1,b,off,k1,_,_,_⟩
   ·rw [k1] at hg; cases hg
    exact ⟨e,t0,l,A,cap,c,A',h1,h2,k1,k3,h4,h5,k2,k4,k5,k6⟩
   ·rw [k1] at hg; cases hg
  ·cases hd
 ·cases hd

theorem c0E {t:Ty} {O:List Nat} {cs:List Value} {l:List t.den} (hsh:t.shared=true) (hr:i7 (f7 w.heap S t) t.size O cs l):∀ {k:Nat},i7 (f7 w.heap S t) t.size [] (cs.take (k*t.size)) (l.take k):=by
 have hO:=i7.J5 (fun _ _ _ hr=>f7.J5 hsh hr) hr
 subst hO
 intro k
 induction k generalizing cs l with
 | zero=>simp only [Nat.zero_mul,List.take_zero]; exact ⟨rfl,rfl⟩
 | succ k ih =>
  match l,hr with
  | [],⟨_,e⟩=>subst e; simp only [List.take_nil]; exact ⟨rfl,rfl⟩
  | x::l,⟨O1,O2,e,r1,r2⟩ =>
   obtain ⟨rfl,rfl⟩:=List.append_eq_nil_iff.1 e.symm
   refine ⟨[],[],rfl,?_,?_⟩
   ·rw [List.take_take,Nat.min_eq_left (by rw [Nat.succ_mul]; omega)]; exact r1
   ·rw [List.drop_take,show (k+1)*t.size - t.size=k*t.size by rw [Nat.succ_mul]; omega]; exact ih r2

theorem a39 {P:Program} (h:RS B S ι s a w) {v:AV} {val:Value} (hv:VX w.heap S ι s.hp v [val]) {i:Nat} {p:List Step} {lo hi:Int} (hd:v.a2H s=some (i,p,lo,hi)) {t:Ty} {m:List t.den} (hm:(m.length:Int)≤hi - lo) {news:List Value} (hN:i7 (f7 w.heap S t) t.size [] news m)
  {s':St} (hf:a0y s i p lo.toNat t m=some s'):∃ w' ι' A' c,val=.slice A' (hi - lo).toNat c∧RS B S ι' s' a w'∧((A'=none∧m=[]∧w'=w)∨∃ A,A'=some A∧(storeCells A news).run P w=.ok () w'):=by
 obtain ⟨e,t0,l,A,cap,c,A',h1,h2,h3,h4,h5,h6,h7,h8,h9,h10⟩:=b0B h hv hd
 unfold a0y at hf
 have hob:s.obj i=some e:=h1
 rw [hob] at hf
 simp only [h3] at hf
 split at hf
 ·rename_i ht
  subst ht
  split at hf
  ·rename_i r hset
   split at hf
   ·rename_i hc
    simp only [Bool.and_eq_true] at hc
    cases hf
    have hset:r9 e.ty e.x p (.d0 true t) (l.take lo.toNat++m++l.drop (lo.toNat+m.length))=some r:=hset
    by_cases hm0:m=[]
    ·subst hm0
     have hn0:news=[]:=hN.2
     subst hn0
     have hsame:r9 e.ty e.x p (.d0 true t) l=some r:=by
      rw [← hset]; congr 1; simp
     have hr:r=⟨e.ty,e.x⟩:=by
      have:=b1c h2 h3
      rw [hsame] at this; cases this; rfl
     have hupd:e.D6 r=e:=by
      rw [hr]
      cases e with
      | I9=>rfl
      | _=>rfl
     obtain ⟨ι',hrs⟩:=b8P h h1 hc.2 hupd
     refine ⟨w,ι',A',c,h8,hrs,?_⟩
     cases A' with
     | none=>exact .inl ⟨rfl,rfl,rfl⟩
     | some A=>exact .inr ⟨A,rfl,by simp [storeCells]⟩
    ·have hml:1≤m.length:=List.length_pos_iff.2 hm0
     have hc0:c≠0:=by omega
     have hA:=h9 hc0
     obtain ⟨Op,m1,mn,hR⟩:=F0 h.hs h1 h2 h3 h4
     rcases hR with ⟨_,⟨A9,c9,e0,hc9⟩,hl⟩|⟨b2,o2,cap2,O',c1,c2,c3,_⟩
     ·rw [hl] at h7; simp at h7; omega
     ·simp only [List.cons.injEq,Value.slice.injEq,and_true,true_and] at c1
      obtain ⟨rfl,rfl⟩:=c1
      obtain ⟨w',ι',k1,k2⟩:=b5W (P:=P) h h1 h2 h3 hc.1 h4 (c3.2 rfl) (lo:=lo.toNat) (m:=m) (by omega) hN hset hc.2
      refine ⟨w',ι',A',c,h8,k2,.inr ⟨⟨b2,o2+lo.toNat*t.size,none⟩,by rw [hA]; simp [Addr.F6],k1⟩⟩
   ·cases hf
  ·cases hf
 ·cases hf
end
end Go.Ex

namespace Go.Ex
theorem b05 {P:Program} {k:Nat} {T:TypeId} {t:Ty} (h:n8 P k T (.hole t)=true):∃ e,P.underlying T=some (.slice e):=by
 cases k with
 | zero=>simp [n8] at h
 | succ k =>
  obtain ⟨d,h1,h2⟩:=M4 h
  simp only [n8,Bool.and_eq_true,h1] at h
  obtain ⟨_,h⟩:=h
  cases d<;>first|(exact (Bool.false_ne_true h).elim)|skip
  ·exact ⟨_,h1⟩
  ·rename_i fs
   have h:l8 (n8 P k) fs.toList 0 (.hole t)=true:=h
   cases hf:fs.toList<;>(rw [hf] at h; simp [l8] at h)

theorem b27 {P:Program} {k:Nat} {T:TypeId} {t:Ty} (h:n8 P k T (.w5 t)=true):∃ e,P.underlying T=some (.slice e):=by
 cases k with
 | zero=>simp [n8] at h
 | succ k =>
  obtain ⟨d,h1,h2⟩:=M4 h
  simp only [n8,Bool.and_eq_true,h1] at h
  obtain ⟨_,h⟩:=h
  cases d<;>first|(exact (Bool.false_ne_true h).elim)|skip
  ·exact ⟨_,h1⟩
  ·rename_i fs
   have h:l8 (n8 P k) fs.toList 0 (.w5 t)=true:=h
   cases hf:fs.toList<;>(rw [hf] at h; simp [l8] at h)


section
variable {E:Env} {B:D4} {S S':Nat→Prop} {ι:Ix} {s:St} {a:Act} {w:World} {hp:List (Nat×g8)} {H H':Array Go.Obj}

theorem a7x {P:Program} {e:TypeId} {t:Ty} {n d:Nat} (hT:n8 P n e t=true)
  (hA:∀ {cs cs':List Value} {x y:t.den},f7 H S t [] cs x→f7 H' S' t [] cs' y→(Op.equalIn d e (j7 t cs) (j7 t cs')).run P w=.ok (H7 t x y) w) {cs cs':List Value} :
  ∀ {l l':List t.den} {k:Nat},l.length=l'.length→i7 (f7 H S t) t.size [] (cs.drop (k*t.size)) l→i7 (f7 H' S' t) t.size [] (cs'.drop (k*t.size)) l' →
   (Op.eqItems d e t.size cs.toArray cs'.toArray (List.range' k l.length)).run P w=.ok (H7.a8s (H7 t) l l') w
 | [],[],k,_,_,_=>by simp [Op.eqItems,H7.a8s]
 | [],_::_,_,h,_,_=>by cases h
 | _::_,[],_,h,_,_=>by cases h
 | x::l,y::l',k,hl,⟨O1,O2,e1,h1,h2⟩,⟨O3,O4,e2,h3,h4⟩=>by
  obtain ⟨rfl,rfl⟩:=List.append_eq_nil_iff.1 e1.symm
  obtain ⟨rfl,rfl⟩:=List.append_eq_nil_iff.1 e2.symm
  have p1:=Z8 (w:=w) hT h1
  have p2:=Z8 (w:=w) hT h3
  have e3:=hA h1 h3
  have hk:k*t.size+t.size=(k+1)*t.size:=by rw [Nat.succ_mul]
  rw [List.drop_drop,hk] at h2 h4
  have ih:=a7x hT hA (l:=l) (l':=l') (k:=k+1) (by simpa using hl) h2 h4
  simp only [List.length_cons,List.range'_succ,Op.eqItems,Sem.run_bind,p1,p2,Result.andThen,e3,H7.a8s]
  cases hq:H7 t x y with
  | true=>simpa using ih
  | false=>simp

theorem run_eq {P:Program}:∀ (t:Ty),
  (∀ {n m d:Nat} {T:TypeId} {cs cs':List Value} {x y:t.den},n8 P n T t=true→R5 P m T t=true→t.ht<d→f7 H S t [] cs x→f7 H' S' t [] cs' y→(Op.equalIn d T (j7 t cs) (j7 t cs')).run P w=.ok (H7 t x y) w) ∧
  (∀ {n m d off:Nat} {fs:List Field} {cs cs':List Value} {x y:t.den},l8 (n8 P n) fs off t=true→a6q (R5 P m) fs t=true→t.ht≤d→f7 H S t [] ((cs.drop off).take t.size) x→f7 H' S' t [] ((cs'.drop off).take t.size) y →
   (Op.eqFields d cs.toArray cs'.toArray fs).run P w=.ok (H7 t x y) w):=by
 intro t
 have strct:∀ {t:Ty},t.agg=true→(∀ n u,t≠.arr n u) →
  (∀ {n m d off:Nat} {fs:List Field} {cs cs':List Value} {x y:t.den},l8 (n8 P n) fs off t=true→a6q (R5 P m) fs t=true→t.ht≤d→f7 H S t [] ((cs.drop off).take t.size) x→f7 H' S' t [] ((cs'.drop off).take t.size) y →
   (Op.eqFields d cs.toArray cs'.toArray fs).run P w=.ok (H7 t x y) w) →
  (∀ {n m d:Nat} {T:TypeId} {cs cs':List Value} {x y:t.den},n8 P n T t=true→R5 P m T t=true→t.ht<d→f7 H S t [] cs x→f7 H' S' t [] cs' y→(Op.equalIn d T (j7 t cs) (j7 t cs')).run P w=.ok (H7 t x y) w):=by
  intro t hag hna hB n m d T cs cs' x y hT hq hd h1 h2
  obtain ⟨fs,k',g1,g2⟩:=a3Z hT hag hna
  have hfo:P.underlying T=some (.struct (P.fieldsOf T)):=by simp [Program.fieldsOf,g1]
  have hfs:P.fieldsOf T=fs:=by rw [g1] at hfo; cases hfo; rfl
  cases m with
  | zero=>simp [R5] at hq
  | succ m =>
   have hq:(!P.stoodInHeld T && a6q (R5 P m) fs.toList t)=true:=by
    simp only [R5,g1] at hq
    exact hq
   simp only [Bool.and_eq_true,Bool.not_eq_true'] at hq
   obtain ⟨d,rfl⟩:∃ e,d=e+1:=⟨d - 1,by omega⟩
   have hv:∀ cs,j7 t cs=.agg cs.toArray:=by intro cs; simp [j7,hag]
   rw [hv,hv,run_equalIn_struct w d T _ _ hfo hq.1,hfs]
   refine hB g2 hq.2 (by omega) ?_ ?_
   ·rw [List.drop_zero,List.take_of_length_le (by rw [h1.length]; exact Nat.le_refl _)]; exact h1
   ·rw [List.drop_zero,List.take_of_length_le (by rw [h2.length]; exact Nat.le_refl _)]; exact h2
 induction t with
 | int k =>
  refine ⟨?_,by intro n m d off fs cs cs' x y h; cases fs<;>simp [l8] at h⟩
  rintro n m d T cs cs' x y hT _ hd ⟨_,rfl,_⟩ ⟨_,rfl,_⟩
  obtain ⟨d,rfl⟩:∃ e,d=e+1:=⟨d - 1,by omega⟩
  exact run_equalIn_int w d T k k x y (X1 hT)
 | bool =>
  refine ⟨?_,by intro n m d off fs cs cs' x y h; cases fs<;>simp [l8] at h⟩
  rintro n m d T cs cs' x y hT _ hd ⟨_,rfl⟩ ⟨_,rfl⟩
  obtain ⟨d,rfl⟩:∃ e,d=e+1:=⟨d - 1,by omega⟩
  exact run_equalIn_bool (a1g hT) d x y
 | str =>
  refine ⟨?_,by intro n m d off fs cs cs' x y h; cases fs<;>simp [l8] at h⟩
  rintro n m d T cs cs' x y hT _ hd ⟨_,rfl,_⟩ ⟨_,rfl,_⟩
  obtain ⟨d,rfl⟩:∃ e,d=e+1:=⟨d - 1,by omega⟩
  have:=run_equalIn_string w d T (⟨(x:List UInt8).toArray⟩:ByteArray) ⟨(y:List UInt8).toArray⟩ (S6 hT)
  refine Eq.trans this ?_
  rw [ByteArray.toList_eq,ByteArray.toList_eq]
  congr 1
  show ((x:List UInt8) == y)=decide ((x:List UInt8)=y)
  rw [Bool.eq_iff_iff]; simp
 | unit =>
  have hB:∀ {n m d off:Nat} {fs:List Field} {cs cs':List Value} {x y:Ty.unit.den},l8 (n8 P n) fs off .unit=true→a6q (R5 P m) fs .unit=true→Ty.unit.ht≤d→f7 H S .unit [] ((cs.drop off).take Ty.unit.size) x→f7 H' S' .unit [] ((cs'.drop off).take Ty.unit.size) y →
   (Op.eqFields d cs.toArray cs'.toArray fs).run P w=.ok (H7 .unit x y) w:=by
   intro n m d off fs cs cs' x y h _ _ _ _
   cases fs with
   | nil=>simp [Op.eqFields,H7]
   | cons f fs=>simp [l8] at h
  exact ⟨strct rfl (by simp) hB,hB⟩
 | pair p q ihp ihq =>
  have hB:∀ {n m d off:Nat} {fs:List Field} {cs cs':List Value} {x y:(Ty.pair p q).den},l8 (n8 P n) fs off (.pair p q)=true→a6q (R5 P m) fs (.pair p q)=true→(Ty.pair p q).ht≤d →
    f7 H S (.pair p q) [] ((cs.drop off).take (Ty.pair p q).size) x→f7 H' S' (.pair p q) [] ((cs'.drop off).take (Ty.pair p q).size) y→(Op.eqFields d cs.toArray cs'.toArray fs).run P w=.ok (H7 (.pair p q) x y) w:=by
   rintro n m d off fs cs cs' x y hf hq hd ⟨O1,O2,e1,h1,h2⟩ ⟨O3,O4,e2,h3,h4⟩
   obtain ⟨rfl,rfl⟩:=List.append_eq_nil_iff.1 e1.symm
   obtain ⟨rfl,rfl⟩:=List.append_eq_nil_iff.1 e2.symm
   cases fs with
   | nil=>simp [l8] at hf
   | cons f fs =>
    simp only [l8,Bool.and_eq_true] at hf
    simp only [a6q,Bool.and_eq_true] at hq
    obtain ⟨⟨⟨⟨g1,_⟩,g3⟩,g4⟩,g5⟩:=hf
    have g1:f.offset=off:=Nat.eq_of_beq_eq_true g1
    have hht:p.ht+1≤d∧q.ht≤d:=by
     have:max (p.ht+1) q.ht≤d:=hd
     omega
    have hsz:(Ty.pair p q).size=p.size+q.size:=rfl
    rw [List.take_take,Nat.min_eq_left (by omega)] at h1 h3
    rw [List.drop_take,List.drop_drop,hsz,Nat.add_sub_cancel_left] at h2 h4
    rw [← g1] at h1 h3
    have p1:=Z8 (w:=w) g3 h1
    have p2:=Z8 (w:=w) g3 h3
    have e3:=ihp.1 (d:=d) g3 hq.1 (by omega) h1 h3
    have ih:=ihq.2 (d:=d) (cs:=cs) (cs':=cs') g5 hq.2 hht.2 h2 h4
    have hn:f.name≠ "_":=by simpa using g4
    simp only [Op.eqFields,hn,ne_eq,not_false_eq_true,if_true,Sem.run_bind,p1,p2,Result.andThen,e3,H7]
    cases hh:H7 p x.1 y.1 with
    | true=>simpa using ih
    | false=>simp
  exact ⟨strct rfl (by simp) hB,hB⟩
 | arr k t ih =>
  refine ⟨?_,by intro n m d off fs cs cs' x y h; cases fs<;>simp [l8] at h⟩
  rintro n m d T cs cs' x y hT hq hd ⟨h1,h2⟩ ⟨h3,h4⟩
  obtain ⟨e,k',g1,g2,g3⟩:=U1 hT
  cases m with
  | zero=>simp [R5] at hq
  | succ m =>
   have hq:R5 P m e t=true:=by simpa only [R5,g1] using hq
   obtain ⟨d,rfl⟩:∃ e,d=e+1:=⟨d - 1,by omega⟩
   obtain ⟨i,hi,his,_⟩:=Q9 g3
   have hc:P.cellsOf e=t.size:=by simp [Program.cellsOf,hi,his]
   have hv:∀ cs,j7 (.arr k t) cs=.agg cs.toArray:=fun cs=>rfl
   have hdd:t.ht<d:=by have:t.ht+1<d+1:=hd; omega
   rw [hv,hv,run_equalIn_array w d _ _ g1 hi,hc,List.range_eq_range']
   have:=a7x (w:=w) (cs:=cs) (cs':=cs') (l:=x) (l':=y) (k:=0) g3 (fun a b=>ih.1 g3 hq hdd a b) (by rw [h1,h3]) (by simpa using h2) (by simpa using h4)
   rw [h1] at this
   exact this
 | fn f =>
  refine ⟨?_,by intro n m d off fs cs cs' x y h; cases fs<;>simp [l8] at h⟩
  rintro n m d T cs cs' x y hT hq
  obtain ⟨_,_,_,g1⟩:=b6E hT
  cases m<;>simp [R5,g1] at hq
 | map o a b =>
  refine ⟨?_,by intro n m d off fs cs cs' x y h; cases fs<;>simp [l8] at h⟩
  rintro n m d T cs cs' x y hT hq
  obtain ⟨_,_,_,g1,_⟩:=a4Q hT
  cases m<;>simp [R5,g1] at hq
 | box o g t =>
  refine ⟨?_,by intro n m d off fs cs cs' x y h; cases fs<;>simp [l8] at h⟩
  rintro n m d T cs cs' x y hT hq
  cases g with
  | none =>
   obtain ⟨_,_,g1,_⟩:=a77 hT
   cases m<;>simp [R5,g1] at hq
  | some f =>
   obtain ⟨_,_,_,g1⟩:=b06 hT
   cases m<;>simp [R5,g1] at hq
 | d0 o t ih =>
  refine ⟨?_,by intro n m d off fs cs cs' x y h; cases fs<;>simp [l8] at h⟩
  rintro n m d T cs cs' x y hT hq
  obtain ⟨e,k',g1,_⟩:=E5 hT
  cases m<;>simp [R5,g1] at hq
 | hole t ih =>
  refine ⟨?_,by intro n m d off fs cs cs' x y h; cases fs<;>simp [l8] at h⟩
  rintro n m d T cs cs' x y hT hq
  obtain ⟨e,g1⟩:=b05 hT
  cases m<;>simp [R5,g1] at hq
 | w5 t ih =>
  refine ⟨?_,by intro n m d off fs cs cs' x y h; cases fs<;>simp [l8] at h⟩
  rintro n m d T cs cs' x y hT hq
  obtain ⟨e,g1⟩:=b27 hT
  cases m<;>simp [R5,g1] at hq

theorem b1w (hE:C2 E B) (h:RS B S ι s a w) {o:Oper} {op:BinOp} {T T':TypeId} {x y:Operand} (ho:o.op=.binOp op T x y T') {t u:Ty} {p:t.den} {q:u.den} (hx:s.ev x=.val t p) (hy:s.ev y=.val u q):D3 E.P B o a w (eqA E T op t p u q s):=by
 unfold eqA
 split
 ·rename_i hu
  subst hu
  have core:(u.agg && I0 E T u && R5 E.P 100 T u && !(E.P.eqGuardType E.P.depth T) && Nat.blt u.ht 100)=true →
    ∃ cs cs',a.eval x=.agg cs∧a.eval y=.agg cs'∧(∀ op,(eqGuard op T x y (a.eval x) (a.eval y)).run E.P w=.ok () w)∧(Op.equalIn 10000 T (.agg cs) (.agg cs')).run E.P w=.ok (H7 u p q) w:=by
   intro hc
   simp only [Bool.and_eq_true,Bool.not_eq_true',Nat.blt_eq] at hc
   obtain ⟨⟨⟨⟨c1,c2⟩,c3⟩,c4⟩,c5⟩:=hc
   obtain ⟨cs,e1,h1⟩:=x8 h hx
   obtain ⟨cs',e2,h2⟩:=x8 h hy
   have hv:∀ cs,j7 u cs=.agg cs.toArray:=by intro cs; simp [j7,c1]
   have e1:a.eval x=.agg cs.toArray:=by rw [hv] at e1; simpa using e1
   have e2:a.eval y=.agg cs'.toArray:=by rw [hv] at e2; simpa using e2
   refine ⟨_,_,e1,e2,fun op=>by rw [e1,e2]; exact run_eqGuard_agg w op T x y _ _ c4,?_⟩
   have:=(run_eq (P:=E.P) (w:=w) (H:=w.heap) (H':=w.heap) (S:=S) (S':=S) u).1 (d:=10000) (C1 hE c2) c3 (by omega) h1 h2
   rwa [hv,hv] at this
  split
  ·rename_i hc
   obtain ⟨cs,cs',e1,e2,hg,he⟩:=core hc
   refine u6.value (val:=.bool (H7 u p q)) ?_ h VX.bool
   rw [R3 ho (hg .eql) (r:=.ok (.bool (H7 u p q)) w)]; rfl
   rw [e1,e2,run_eql_struct,he]; rfl
  ·rename_i hc
   obtain ⟨cs,cs',e1,e2,hg,he⟩:=core hc
   refine u6.value (val:=.bool (!(H7 u p q))) ?_ h VX.bool
   rw [R3 ho (hg .neq) (r:=.ok (.bool (!(H7 u p q))) w)]; rfl
   rw [e1,e2,run_neq_struct,he]; rfl
  ·trivial
 ·trivial

theorem b8p (hE:C2 E B) (h:RS B S ι s a w) {o:Oper} {op:BinOp} {T T':TypeId} {x y:Operand} (ho:o.op=.binOp op T x y T') {i:Nat} {p:List Step} (ex:s.ev x=.ptr i p) (ey:s.ev y=.raw (.pointer none)):D3 E.P B o a w (b3B E T op s):=by
 have hx:=h.ev x
 have hy:=h.ev y
 rw [ex] at hx; rw [ey] at hy
 obtain ⟨e,b,off,-,-,-,hx⟩:=hx
 have hx:a.eval x=.pointer (some ⟨b,off,none⟩):=by simpa using hx
 have hy:a.eval y=.pointer none:=by
  have hy:[a.eval y]=[Value.pointer none]:=hy
  simpa using hy
 have hg:(eqGuard op T x y (a.eval x) (a.eval y)).run E.P w=.ok () w:=by rw [hx,hy]; cases op<;>rfl
 have run:∀ {o':Bool} {t:Ty} {n:Nat},look T E.tt=some ⟨.box o' none t,n⟩→(Op.equal T (.pointer (some ⟨b,off,none⟩)) (.pointer none)).run E.P w=.ok false w:=by
  intro o' t n hl
  obtain ⟨e',k',h1,-⟩:=a77 (p9 (B:=B) hE hl)
  have key:∀ d,(Op.equalIn (d+1) T (.pointer (some ⟨b,off,none⟩)) (.pointer none)).run E.P w=.ok false w:=fun d=>by simp [Op.equalIn,n9 h1]
  exact key 9999
 unfold b3B
 split
 ·rename_i hl
  exact u6.value (by rw [R3 ho hg (r:=.ok (.bool false) w)]; rfl; rw [hx,hy]; simp [binOp,run hl]) h VX.bool
 ·rename_i hl
  exact u6.value (by rw [R3 ho hg (r:=.ok (.bool true) w)]; rfl; rw [hx,hy]; simp [binOp,run hl]) h VX.bool
 ·trivial

theorem b9H (hE:C2 E B) (h:RS B S ι s a w) {o:Oper} {op:BinOp} {T T':TypeId} {x y:Operand} (ho:o.op=.binOp op T x y T'):D3 E.P B o a w (a5v E T op (s.ev x) (s.ev y) s):=by
 unfold a5v
 split
 ·rename_i e1 e2; exact b8p hE h ho e1 e2
 ·rename_i e1 e2; exact b1w hE h ho e1 e2
 ·rename_i e1 e2; exact b1w hE h ho e1 e2
 ·exact b9I hE h ho

end
end Go.Ex

namespace Go.Ex

section
variable {E:Env} {B:D4} {S S':Nat→Prop} {ι:Ix} {s:St} {a:Act} {w:World} {hp:List (Nat×g8)} {H H':Array Go.Obj}

theorem b1l {t:Ty} (hk:t.key=true) {cs cs':List Value} {x y:t.den} (h1:f7 H S t [] cs x) (h2:f7 H' S' t [] cs' y) (he:H7 t x y=true):cs=cs':=by
 unfold Ty.key at hk
 split at hk
 ·obtain ⟨_,rfl,_⟩:=h1
  obtain ⟨_,rfl,_⟩:=h2
  rw [show x=y from of_decide_eq_true he]
 ·obtain ⟨_,rfl⟩:=h1
  obtain ⟨_,rfl⟩:=h2
  rw [show x=y from eq_of_beq he]
 ·obtain ⟨_,rfl,_⟩:=h1
  obtain ⟨_,rfl,_⟩:=h2
  rw [show x=y from of_decide_eq_true he]
 ·rename_i n k
  obtain ⟨_,h1⟩:=h1
  obtain ⟨_,h2⟩:=h2
  rw [a0P h1,a0P h2]
  have:∀ l m:List Int,H7.a8s (H7 (.int k)) l m=true→l=m:=by
   intro l
   induction l with
   | nil=>intro m h; cases m<;>first|rfl|cases h
   | cons a l ih =>
    intro m h
    cases m with
    | nil=>cases h
    | cons b m =>
     simp only [H7.a8s,Bool.and_eq_true] at h
     rw [show a=b from of_decide_eq_true h.1,ih m h.2]
  rw [this x y he]
 ·cases hk

theorem c2Q {t:Ty} (hk:t.key=true) {cs:List Value} {x:t.den} (h1:f7 H S t [] cs x) {P:Program}:(Instr.keyThatStays (j7 t cs) (j7 t cs)).run P w=.ok (j7 t cs) w:=by
 have:Instr.sameBits 10000 (j7 t cs) (j7 t cs)=true:=by
  unfold Ty.key at hk
  split at hk
  ·obtain ⟨_,rfl,_⟩:=h1; simp [j7,Ty.agg,Instr.sameBits]
  ·obtain ⟨_,rfl⟩:=h1; simp [j7,Ty.agg,Instr.sameBits]
  ·obtain ⟨_,rfl,_⟩:=h1; exact MapKept.sameBits_self (d:=.string) (k:=.string ⟨(show List UInt8 from x).toArray⟩) trivial _
  ·rename_i n k
   obtain ⟨_,h1⟩:=h1
   rw [a0P h1]
   show Instr.sameBits (9999+1) (.agg _) (.agg _)=true
   simp only [Instr.sameBits,beq_self_eq_true,Bool.true_and,List.all_eq_true]
   rintro ⟨p,q⟩ hpq
   have hz:∀ l:List Int,(p,q)∈(l.map (Value.int k)).zip (l.map (Value.int k))→∃ n,p=.int k n∧q=.int k n:=by
    intro l
    induction l with
    | nil=>intro h; cases h
    | cons n l ih =>
     intro h
     simp only [List.map_cons,List.zip_cons_cons,List.mem_cons,Prod.mk.injEq] at h
     exact h.elim (fun h=>⟨n,h.1,h.2⟩) ih
   obtain ⟨n,rfl,rfl⟩:=hz _ (by simpa using hpq)
   simp [Instr.sameBits]
  ·cases hk
 simp [Instr.keyThatStays,this]

theorem a3M {t:Ty} {n:Nat} {K:TypeId} (hk:t.key=true) (hT:n8 E.P n K t=true) {cs:List Value} {x:t.den} (h1:f7 H S t [] cs x) (em:Bool):(Instr.checkKey em 10000 K (j7 t cs)).run E.P w=.ok () w:=by
 have simple:∀ {t:Ty} {n:Nat} {K:TypeId} (m:Nat),(t=.bool∨t=.str∨∃ k,t=.int k)→n8 E.P n K t=true→∀ {v:Value},(Instr.checkKey em (m+1) K v).run E.P w=.ok () w:=by
  intro t n K m ht hT v
  rcases ht with rfl|rfl|⟨k,rfl⟩
  ·simp [Instr.checkKey,n9 (a1g hT)]
  ·simp [Instr.checkKey,n9 (S6 hT)]
  ·simp [Instr.checkKey,n9 (X1 hT)]
 unfold Ty.key at hk
 split at hk
 ·exact simple 9999 (.inr (.inr ⟨_,rfl⟩)) hT
 ·exact simple 9999 (.inl rfl) hT
 ·exact simple 9999 (.inr (.inl rfl)) hT
 ·rename_i m k
  obtain ⟨e,k',g1,_,g3⟩:=U1 hT
  obtain ⟨hl,hr⟩:=h1
  have hcs:=a0P hr
  show (Instr.checkKey em (9998+1+1) K (.agg cs.toArray)).run E.P w=.ok () w
  rw [Instr.checkKey]
  simp only [Sem.run_bind,n9 g1,Result.andThen_ok]
  simp only [Std.Legacy.Range.forIn_eq_forIn_range',Std.Legacy.Range.size,Nat.sub_zero,Nat.add_one_sub_one,Nat.div_one]
  have each:∀ j∈List.range' 0 m,(part e cs.toArray (j*1)).run E.P w=.ok (j7 (.int k) ((cs.drop (j*1)).take 1)) w:=by
   intro j hj
   simp only [List.mem_range'_1,Nat.zero_add] at hj
   have hlen:List.length x=m:=hl
   refine Z8 (H:=H) (u:=.int k) (z:=List.getD x j 0) (O:=[]) (S:=S) g3 ?_
   have hj':j<List.length x:=by omega
   have:(cs.drop (j*1)).take 1=[.int k (List.getD x j 0)]:=by
    rw [hcs,Nat.mul_one,← List.map_drop,← List.map_take,List.drop_eq_getElem_cons hj',List.take_succ_cons,List.take_zero]
    simp [List.getD_eq_getElem?_getD,List.getElem?_eq_getElem hj']
   rw [show (Ty.int k).size=1 from rfl,this]
   refine ⟨rfl,rfl,?_⟩
   have hin:=i7.split (d:=(0:Int)) (i:=j) hj' hr
   obtain ⟨_,_,_,_,_,h9,_⟩:=hin
   exact h9.2.2
  generalize List.range' 0 m=is at each
  induction is with
  | nil=>simp
  | cons j is ih =>
   have hs:(sizeOf e).run E.P w=.ok 1 w:=run_sizeOf g3
   have hp:=each j (by simp)
   have hc:=simple 9998 (.inr (.inr ⟨k,rfl⟩)) g3 (v:=j7 (.int k) ((cs.drop (j*1)).take 1))
   simp only [List.forIn_cons,Sem.run_bind,hs,Result.andThen_ok,hp,hc,Sem.run_pure]
   exact ih (fun i hi=>each i (by simp [hi]))
 ·cases hk

theorem a5d {t u:Ty} {n:Nat} {K:TypeId} (hk:t.key=true) (hT:n8 E.P n K t=true) (hq:R5 E.P 100 K t=true) {cs:List Value} {x:t.den} (h1:f7 H S t [] cs x) :
  ∀ {es:List MapEntry} {l:List (t.den×u.den)} (i:Nat),M6 (f7 H' S' t []) (f7 H' S' u []) t u es l →
   ∃ r,(Instr.findAsking K (j7 t cs) es i).run E.P w=.ok r w∧(i=0→(Instr.findKey K (j7 t cs) es).run E.P w=.ok r w) ∧
    ((posOf (H7 t) x l i=none∧r=none)∨∃ j y e ds,posOf (H7 t) x l i=some (i+j,y)∧r=some (i+j,e.val)∧es[j]?=some e∧e.key=j7 t cs∧e.val=j7 u ds∧f7 H' S' u [] ds y):=by
 have hht:t.ht<10000:=by
  unfold Ty.key at hk; split at hk<;>first|(cases hk; done)|simp [Ty.ht]
 have hask:∀ {es:List MapEntry} {l:List (t.den×u.den)} (i:Nat),M6 (f7 H' S' t []) (f7 H' S' u []) t u es l →
   ∃ r,(Instr.findAsking K (j7 t cs) es i).run E.P w=.ok r w ∧
    ((posOf (H7 t) x l i=none∧r=none)∨∃ j y e ds,posOf (H7 t) x l i=some (i+j,y)∧r=some (i+j,e.val)∧es[j]?=some e∧e.key=j7 t cs∧e.val=j7 u ds∧f7 H' S' u [] ds y):=by
  intro es
  induction es with
  | nil =>
   intro l i h
   rw [show l=[] from h]
   exact ⟨none,rfl,.inl ⟨rfl,rfl⟩⟩
  | cons e es ih =>
   rintro l i ⟨x',y',l',c1,d1,rfl,e1,e2,e3,e4,e5⟩
   have hr:(Op.equal K (j7 t cs) e.key).run E.P w=.ok (H7 t x x') w:=by
    rw [e1]; exact (run_eq (w:=w) t).1 hT hq hht h1 e2
   cases hb:H7 t x x' with
   | true =>
    have:j7 t cs=j7 t c1:=by rw [b1l hk h1 e2 hb]
    refine ⟨some (i,e.val),?_,.inr ⟨0,y',e,d1,by simp [posOf,hb],rfl,rfl,by rw [e1,this],e3,e4⟩⟩
    simp only [Instr.findAsking,Sem.run_bind,hr,hb,Result.andThen_ok,if_true,Sem.run_pure]
   | false =>
    obtain ⟨r,r1,r2⟩:=ih (i+1) e5
    refine ⟨r,?_,?_⟩
    ·simp only [Instr.findAsking,Sem.run_bind,hr,hb,Result.andThen_ok,Bool.false_eq_true,if_false]; exact r1
    ·rcases r2 with ⟨r2,r3⟩|⟨j,y,e0,ds,r2,r3,r4,r5⟩
     ·exact .inl ⟨by simp only [posOf,hb]; exact r2,r3⟩
     ·exact .inr ⟨j+1,y,e0,ds,by simp only [posOf,hb]; rw [r2]; congr 2; omega,by rw [r3]; congr 2; omega,by simpa using r4,r5⟩
 have hnow:∀ (d:TypeDesc),E.P.underlying K=some d→MapKept.IsKey d (j7 t cs)→(∀ {cs':List Value} {x':t.den},f7 H' S' t [] cs' x'→MapKept.IsKey d (j7 t cs')∧(j7 t cs'=j7 t cs→H7 t x x'=true))→∀ {es:List MapEntry} {l:List (t.den×u.den)} (i:Nat),M6 (f7 H' S' t []) (f7 H' S' u []) t u es l →
   ∃ r,(Instr.findNow d (j7 t cs) es i)=some r∧(Instr.findAsking K (j7 t cs) es i).run E.P w=.ok r w:=by
  intro d hd hik hall es
  induction es with
  | nil=>intro l i h; exact ⟨none,rfl,rfl⟩
  | cons e es ih =>
   rintro l i ⟨x',y',l',c1,d1,rfl,e1,e2,e3,e4,e5⟩
   have hr:(Op.equal K (j7 t cs) e.key).run E.P w=.ok (H7 t x x') w:=by
    rw [e1]; exact (run_eq (w:=w) t).1 hT hq hht h1 e2
   obtain ⟨a1,a2⟩:=hall e2
   have hsn:Instr.sameNow d (j7 t cs) e.key=some (H7 t x x'):=by
    rw [e1]
    rcases MapKept.findNow_spec hik [⟨j7 t c1,e.val,0⟩] 0 (by intro q hq; simp at hq; subst hq; exact a1) with ⟨b1,b2⟩|⟨j,e9,b1,b2,b3⟩
    ·have hne:=b2 _ (List.mem_singleton.2 rfl)
     have:Instr.sameNow d (j7 t cs) (j7 t c1)=some false:=by
      simp only [Instr.findNow] at b1
      cases hs:Instr.sameNow d (j7 t cs) (j7 t c1) with
      | none=>rw [hs] at b1; cases b1
      | some b=>cases b with
       | true=>rw [hs] at b1; cases b1
       | false=>rfl
     rw [this]
     cases hb:H7 t x x' with
     | false=>rfl
     | true=>exact absurd (by rw [b1l hk h1 e2 hb]) hne
    ·have:j=0:=by
      cases j with
      | zero=>rfl
      | succ j=>simp at b2
     subst this
     simp only [List.getElem?_cons_zero,Option.some.injEq] at b2
     subst b2
     have b3:j7 t c1=j7 t cs:=b3
     rw [a2 b3]
     simp only [Instr.findNow] at b1
     cases hs:Instr.sameNow d (j7 t cs) (j7 t c1) with
     | none=>rw [hs] at b1; cases b1
     | some b=>cases b with
      | true=>rfl
      | false=>rw [hs] at b1; cases b1
   cases hb:H7 t x x' with
   | true =>
    refine ⟨some (i,e.val),?_,?_⟩
    ·simp only [Instr.findNow,hsn,hb]
    ·simp only [Instr.findAsking,Sem.run_bind,hr,hb,Result.andThen_ok,if_true,Sem.run_pure]
   | false =>
    obtain ⟨r,r1,r2⟩:=ih (i+1) e5
    refine ⟨r,?_,?_⟩
    ·simp only [Instr.findNow,hsn,hb]; exact r1
    ·simp only [Instr.findAsking,Sem.run_bind,hr,hb,Result.andThen_ok,Bool.false_eq_true,if_false]; exact r2
 have hkey:∀ {es:List MapEntry} {l:List (t.den×u.den)},M6 (f7 H' S' t []) (f7 H' S' u []) t u es l→(Instr.findKey K (j7 t cs) es).run E.P w=(Instr.findAsking K (j7 t cs) es 0).run E.P w:=by
  intro es l hr
  have simple:∀ d:TypeDesc,E.P.underlying K=some d→MapKept.IsKey d (j7 t cs)→(∀ {cs':List Value} {x':t.den},f7 H' S' t [] cs' x'→MapKept.IsKey d (j7 t cs')∧(j7 t cs'=j7 t cs→H7 t x x'=true))→(Instr.findKey K (j7 t cs) es).run E.P w=(Instr.findAsking K (j7 t cs) es 0).run E.P w:=by
   intro d hd h2 h3
   obtain ⟨r,r1,r2⟩:=hnow d hd h2 h3 0 hr
   rw [r2]
   exact MapKept.run_findKey hd r1
  unfold Ty.key at hk
  split at hk
  ·rename_i k
   obtain ⟨_,rfl,_⟩:=h1
   refine simple _ (X1 hT) rfl (fun hx=>?_)
   obtain ⟨_,rfl,_⟩:=hx
   refine ⟨rfl,fun h=>?_⟩
   simp only [j7,Ty.agg,Bool.false_eq_true,if_false,List.headD_cons,Value.int.injEq,true_and] at h
   exact decide_eq_true h.symm
  ·obtain ⟨_,rfl⟩:=h1
   refine simple _ (a1g hT) trivial (fun hx=>?_)
   obtain ⟨_,rfl⟩:=hx
   refine ⟨trivial,fun h=>?_⟩
   simp only [j7,Ty.agg,Bool.false_eq_true,if_false,List.headD_cons,Value.bool.injEq] at h
   rw [h]; exact beq_self_eq_true _
  ·obtain ⟨_,rfl,_⟩:=h1
   refine simple _ (S6 hT) trivial (fun hx=>?_)
   obtain ⟨_,rfl,_⟩:=hx
   refine ⟨trivial,fun h=>?_⟩
   simp only [j7,Ty.agg,Bool.false_eq_true,if_false,List.headD_cons,Value.string.injEq,ByteArray.mk.injEq] at h
   exact decide_eq_true (List.toArray_inj h).symm
  ·obtain ⟨e,k',g1,_,g3⟩:=U1 hT
   exact run_findKey_eq w (by simp [g1]) _ _
  ·cases hk
 intro es l i hr
 obtain ⟨r,r1,r2⟩:=hask i hr
 refine ⟨r,r1,fun hi=>?_,r2⟩
 subst hi
 rw [hkey hr]; exact r1

theorem b1i (hE:C2 E B) {T:TypeId} {k v:Ty} (h:b2J E T k v=true):∃ K V n,E.P.underlying T=some (.map K V)∧k.key=true∧R5 E.P 100 K k=true∧n8 E.P n K k=true∧n8 E.P n V v=true∧v.shared=true:=by
 unfold b2J at h
 split at h
 ·rename_i o k' v' bts K V hT hu
  simp only [Bool.and_eq_true] at h
  obtain ⟨⟨⟨h1,h2⟩,h3⟩,h4⟩:=h
  have h1:=of_decide_eq_true h1
  have h2:=of_decide_eq_true h2
  subst h1 h2
  obtain ⟨K',V',n,g1,g2,g3,g4,g5⟩:=a4Q (p9 hE hT)
  rw [hu] at g1
  cases g1
  exact ⟨K,V,n,hu,h3,h4,g4,g5,g3⟩
 ·cases h

theorem c0X (h:HS B S ι s.hp w) {v:AV} {val:Value} (hv:VX w.heap S ι s.hp v [val]) {k u:Ty} {m:Option (List (k.den×u.den))} (hm:v.mp s=some ⟨(k,u),m⟩) :
  (m=none∧val=.map none)∨∃ l b es ck,m=some l∧val=.map (some b)∧w.heap[b]?=some (.map es ck)∧M6 (f7 w.heap S k []) (f7 w.heap S u []) k u es.toList l:=by
 have key:∀ {o:Bool} {O:List Nat} {cs:List Value},f7 w.heap S (.map o k u) O cs m→val=j7 (.map o k u) cs→(m=none∧val=.map none)∨∃ l b es ck,m=some l∧val=.map (some b)∧w.heap[b]?=some (.map es ck)∧M6 (f7 w.heap S k []) (f7 w.heap S u []) k u es.toList l:=by
  rintro o O cs (⟨h1,_,rfl⟩|⟨l,b,es,ck,h1,rfl,h3,h4,_⟩) e
  ·exact .inl ⟨h1,by simpa [j7,Ty.agg] using e⟩
  ·exact .inr ⟨l,b,es,ck,h1,by simpa [j7,Ty.agg] using e,h3,h4⟩
 unfold AV.mp at hm
 split at hm
 ·cases hm
  obtain ⟨cs,e,hR⟩:=hv
  exact key hR (by simpa using e)
 ·rename_i i p
  split at hm
  ·rename_i o k' v' m' hpt
   cases hm
   obtain ⟨e,u',y,cs,k1,k2,k3,k4,k5⟩:=hv
   have hg:=G3 k1 hpt
   rw [k3] at hg; cases hg
   obtain ⟨O2,m1,m2,m3⟩:=F0 h k1 k2 k3 k4
   exact key m3 (by simpa using k5)
  ·cases hm
 ·cases hm

theorem b2u (hE:C2 E B) (h:RS B S ι s a w) {o:Oper} {T:TypeId} {x y:Operand} {ok:Bool} (ho:o.op=.lookup T x y ok):D3 E.P B o a w (a1Y E T (s.ev x) (s.ev y) ok s):=by
 have he:execOp a.eval o=(do pure (.value (← Instr.lookup T (a.eval x) (a.eval y) ok))):=by simp [execOp,ho]
 unfold a1Y
 split
 ·rename_i k u m t z hm hy
  split
  ·rename_i ht
   subst ht
   obtain ⟨cs,e,hR⟩:=x8 h hy
   have e:a.eval y=j7 t cs:=by simpa using e
   split
   ·rename_i hmt
    obtain ⟨K,V,n,g1,g2,g3,g4,g5,g6⟩:=b1i hE hmt
    have hz0:(zeroValue V).run E.P w=.ok (j7 u (zc u)) w:=a06 g5
    have core:∃ val,(Instr.lookup T (a.eval x) (a.eval y) true).run E.P w=.ok (.tuple #[val,.bool (a2E (H7 t) z (m.getD [])).isSome]) w∧(Instr.lookup T (a.eval x) (a.eval y) false).run E.P w=.ok val w ∧
      VX w.heap S ι s.hp (.val u ((a2E (H7 t) z (m.getD [])).getD u.o7)) [val]:=by
     rcases c0X h.hs (h.ev x) hm with ⟨rfl,ex⟩|⟨l,b,es,ck,rfl,ex,h3,h4⟩
     ·refine ⟨j7 u (zc u),?_,?_,⟨zc u,rfl,f7.o7 u⟩⟩
      ·rw [ex,e]
       have hc:=a3M (w:=w) g2 g4 hR true
       obtain ⟨r,_,r2,r3⟩:=a5d (w:=w) (u:=u) (es:=[]) (l:=[]) (H':=w.heap) (S':=S) g2 g4 g3 hR 0 rfl
       have hr:r=none:=by rcases r3 with r3|⟨j,y,e0,ds,_,_,q,_⟩; exact r3.2; simp at q
       subst hr
       simp [Instr.lookup,n9 g1,hc,r2 rfl,hz0,Result.andThen,a2E,posOf]
      ·rw [ex,e]
       have hc:=a3M (w:=w) g2 g4 hR true
       obtain ⟨r,_,r2,r3⟩:=a5d (w:=w) (u:=u) (es:=[]) (l:=[]) (H':=w.heap) (S':=S) g2 g4 g3 hR 0 rfl
       have hr:r=none:=by rcases r3 with r3|⟨j,y,e0,ds,_,_,q,_⟩; exact r3.2; simp at q
       subst hr
       simp [Instr.lookup,n9 g1,hc,r2 rfl,hz0,Result.andThen]
     ·have hc:=fun em=>a3M (w:=w) g2 g4 hR em
      obtain ⟨r,_,r2,r3⟩:=a5d (w:=w) g2 g4 g3 hR 0 h4
      have r2:=r2 rfl
      have hgo:=MapKept.run_getObj_map (P:=E.P) h3
      rcases r3 with ⟨p1,rfl⟩|⟨j,y',e0,ds,p1,rfl,p3,p4,p5,p6⟩
      ·refine ⟨j7 u (zc u),?_,?_,⟨zc u,rfl,?_⟩⟩
       ·rw [ex,e]; simp [Instr.lookup,n9 g1,hgo,hc,r2,hz0,Result.andThen,a2E,p1]
       ·rw [ex,e]; simp [Instr.lookup,n9 g1,hgo,hc,r2,hz0,Result.andThen]
       ·simp only [a2E,Option.getD_some,p1,Option.map_none,Option.getD_none]; exact f7.o7 u
      ·refine ⟨e0.val,?_,?_,⟨ds,by rw [p5],?_⟩⟩
       ·rw [ex,e]; simp [Instr.lookup,n9 g1,hgo,hc,r2,Result.andThen,a2E,p1]
       ·rw [ex,e]; simp [Instr.lookup,n9 g1,hgo,hc,r2,Result.andThen]
       ·simp only [a2E,Option.getD_some,p1,Option.map_some]; exact p6
    obtain ⟨val,c1,c2,c3⟩:=core
    split
    ·refine u6.value (val:=.tuple #[val,.bool (a2E (H7 t) z (m.getD [])).isSome]) ?_ h ⟨[val,.bool (a2E (H7 t) z (m.getD [])).isSome],rfl,⟨_,_,rfl,c3,_,_,rfl,⟨[_],rfl,rfl,rfl⟩,rfl⟩⟩
     rw [he]
     simp only [Sem.run_bind,Sem.run_pure]
     rw [c1]; rfl
    ·refine u6.value (val:=val) ?_ h c3
     rw [he]
     simp only [Sem.run_bind,Sem.run_pure]
     rw [c2]; rfl
   ·trivial
  ·trivial
 ·trivial

theorem b2t (_hE:C2 E B) (h:RS B S ι s a w) {o:Oper} {T:TypeId} {r:Option Operand} (ho:o.op=.makeMap T r):D3 E.P B o a w (n6 E o s):=by
 unfold n6
 rw [ho]
 simp only
 split
 ·rename_i k v bts d hT hd
  refine D3.lay (fun v' s' hl=>?_)
  have hrun:(execOp a.eval o).run E.P w=.ok (.value (.map (some w.heap.size))) (C6 w (.map #[] 0)):=by
   simp [execOp,ho,Instr.makeMap,newObj,Sem.run,C6]
  have hd':=h.s7 (g:=[]) rfl
  have hp:y8 [] w (C6 w (.map #[] 0)):=y8.push _
  refine u6.lay hl hrun (O:=[w.heap.size]) (cs:=[.map (some w.heap.size)]) (by simp [j7,Ty.agg]) (.inr ⟨[],w.heap.size,#[],0,rfl,rfl,a3h,rfl,rfl⟩) (hd'.V7 C9.nil hp) (C9.new hd' C9.nil hp (by simp [C6]) (by simp) (by simp))
 ·trivial

theorem b2D (hE:C2 E B) (h:RS B S ι s a w) {o:Oper} {c:Call} (ho:o.op=.call c) (hc:c.callee=.builtin .append) {x y:Operand} {T U:TypeId} (ha:c.args.toList=[x,y]) (hTs:c.argTypes.toList=[T,U])
  {kd:IntKind} (hU:E.P.underlying U=some (.int kd)):D3 E.P B o a w (a28 E T (s.ev x) (s.ev y) o.dst s):=by
 unfold a28
 split
 ·rename_i t0 bts d k n hT hd hx hy
  refine D3.a4t (fun v s' hl hp=>?_)
  have hn0:@LE.le Int Int.instLEInt 0 n:=hp.1
  obtain ⟨N,rfl⟩:∃ N:Nat,n=((N:Nat):Int):=⟨Int.toNat n,(Int.toNat_of_nonneg hn0).symm⟩
  have hnb:N≤140737488355328:=by have:@LE.le Int Int.instLEInt (N:Int) 140737488355328:=hp.2.1; omega
  have hby:N*t0.wb≤140737488355328:=by
   have:@LE.le Int Int.instLEInt ((N:Int)*(t0.wb:Nat)) 140737488355328:=hp.2.2
   rw [← Int.natCast_mul] at this
   omega
  obtain ⟨et,k2,h1,h2,h3⟩:=E5 (p9 hE hT)
  obtain ⟨i,hi,hisz,hiz⟩:=Q9 h3
  have hib:=a2N h3 hi
  have hx':a.eval x=.slice none 0 0:=by simpa using (show [a.eval x]=[Value.slice none 0 0] from x8 h hx)
  obtain ⟨hyv,_⟩:=VX.F8 (x8 h hy)
  have hargs:c.args=#[x,y]:=by rw [← ha]
  have hts:c.argTypes=#[T,U]:=by rw [← hTs]
  have hd':=h.s7 (g:=[]) rfl
  have e0:List.replicate (Int.toNat (N:Int)) t0.o7=List.replicate N t0.o7:=rfl
  by_cases h0:N=0
  ·subst h0
   have hrun:(execOp a.eval o).run E.P w=.ok (.value (.slice none 0 0)) w:=by
    have:IntKind.i64.wrap 0=0:=rfl
    simp [execOp,ho,resolve,hc,invoke,builtin,hargs,hts,Builtin.append_,n9 h1,n9 hU,hx',hyv,run_sizeOf h3,asInt,asIntOf,this,typeInfo,hi,Result.andThen]
   exact u6.lay hl hrun (O:=[]) (cs:=[.slice none 0 0]) (by simp [j7,Ty.agg]) (.inl ⟨rfl,⟨none,0,rfl,fun _=>rfl⟩,rfl⟩) hd' C9.nil
  ·have hr:=Lib.run_append_grow_zeros (P:=E.P) w T U o.type et i (j7 t0 (zc t0)) k kd h1 hU hi hiz none 0 0 [] (run_firstCells_none w.drew _ 0 0 0) N (by omega) (by rw [hisz]; exact h2) (by omega) (by omega) (by rw [hib]; omega) (by rw [hib]; exact growslice_fits (by omega) (by simpa using hby))
   simp only [Nat.zero_add] at hr
   have hge:=grownCap_ge w N 0 et
   have hmax:=grownCap_le_maxLen w N 0 et (by unfold maxLen; omega)
   generalize hgc:grownCap w N 0 et=gc at hr hge hmax
   have hzz:(j7 t0 (zc t0)).cells=(zc t0).toArray:=(f7.o7 (H:=w.heap) (S:=S) t0).cells
   have hcells:(([]:List Value).toArray++Builtin.zeroCells (j7 t0 (zc t0)).cells N++Builtin.zeroCells (j7 t0 (zc t0)).cells (gc - N))=((List.replicate N (zc t0)).flatten++(List.replicate (gc - N) (zc t0)).flatten).toArray:=by
    rw [hzz,a1q,a1q]; simp
   rw [hcells] at hr
   have hl1:((List.replicate N (zc t0)).flatten).length=N*t0.size:=by simp [I3]
   have hpast:y8 [] w (w.drew.alloc (.cells ((List.replicate N (zc t0)).flatten++(List.replicate (gc - N) (zc t0)).flatten).toArray et)):=y8.trans y8.drew (y8.push _) (by simp)
   obtain ⟨O',q1,q2,q3⟩:=a4Y (w:=w) (t:=t0) (l:=List.replicate N t0.o7) (cap:=gc) h.hs.slt (O:=[]) (cells:=(List.replicate N (zc t0)).flatten++(List.replicate (gc - N) (zc t0)).flatten) (by
    rw [List.length_replicate,List.take_left' hl1]; exact i7.b2F N) (by rw [List.length_replicate]; exact hge) hmax (by
    simp only [List.length_append,hl1,List.length_flatten,List.map_replicate,List.sum_replicate_nat,I3]
    rw [← Nat.add_mul]; exact Nat.mul_le_mul_right _ (by omega)) et (by simp) (w':=w.drew.alloc (.cells ((List.replicate N (zc t0)).flatten++(List.replicate (gc - N) (zc t0)).flatten).toArray et)) rfl (.inl rfl)
   rw [List.length_replicate] at q1
   have hrun:(execOp a.eval o).run E.P w=.ok (.value (.slice (some ⟨w.heap.size,0,none⟩) N gc)) (w.drew.alloc (.cells ((List.replicate N (zc t0)).flatten++(List.replicate (gc - N) (zc t0)).flatten).toArray et)):=by
    simp [execOp,ho,resolve,hc,invoke,builtin,hargs,hts,hx',hyv,hr]
   have hsz:w.heap.size<(w.drew.alloc (.cells ((List.replicate N (zc t0)).flatten++(List.replicate (gc - N) (zc t0)).flatten).toArray et)).heap.size:=by
    show w.heap.size<(w.heap.push _).size
    simp
   exact u6.lay hl hrun (cs:=[.slice (some ⟨w.heap.size,0,none⟩) N gc]) (by simp [j7,Ty.agg]) q1 (hd'.V7 C9.nil hpast) (C9.new hd' C9.nil hpast hsz q2 (q3 List.nodup_nil))
 ·trivial

theorem M6.length {α β:Type} {R:List Value→α→Prop} {R':List Value→β→Prop} {t u:Ty}:∀ {es:List MapEntry} {l:List (α×β)},M6 R R' t u es l→es.length=l.length
 | [],l,h=>by rw [show l=[] from h]; rfl
 | _::es,_,⟨x,y,l',cs,ds,rfl,_,_,_,_,h⟩=>by simp [M6.length h]
theorem M6.snoc {α β:Type} {R:List Value→α→Prop} {R':List Value→β→Prop} {t u:Ty} {e:MapEntry} {x:α} {y:β} {cs ds:List Value} (h1:e.key=j7 t cs) (h2:R cs x) (h3:e.val=j7 u ds) (h4:R' ds y) :
  ∀ {es:List MapEntry} {l:List (α×β)},M6 R R' t u es l→M6 R R' t u (es++[e]) (l++[(x,y)])
 | [],l,h=>by rw [show l=[] from h]; exact ⟨x,y,[],cs,ds,rfl,h1,h2,h3,h4,rfl⟩
 | _::es,_,⟨x',y',l',c,d,rfl,g1,g2,g3,g4,h⟩=>⟨x',y',l'++[(x,y)],c,d,rfl,g1,g2,g3,g4,M6.snoc h1 h2 h3 h4 h⟩
theorem M6.set {α β:Type} {R:List Value→α→Prop} {R':List Value→β→Prop} {t u:Ty} {e:MapEntry} {x:α} {y:β} {cs ds:List Value} (h1:e.key=j7 t cs) (h2:R cs x) (h3:e.val=j7 u ds) (h4:R' ds y) :
  ∀ {es:List MapEntry} {l:List (α×β)} {i:Nat},i<es.length→M6 R R' t u es l→M6 R R' t u (es.set i e) (l.set i (x,y))
 | [],_,_,hi,_=>by simp at hi
 | _::es,_,0,_,⟨x',y',l',c,d,rfl,g1,g2,g3,g4,h⟩=>⟨x,y,l',cs,ds,rfl,h1,h2,h3,h4,h⟩
 | _::es,_,i+1,hi,⟨x',y',l',c,d,rfl,g1,g2,g3,g4,h⟩=>⟨x',y',l'.set i (x,y),c,d,rfl,g1,g2,g3,g4,M6.set h1 h2 h3 h4 (by simpa using hi) h⟩

theorem b7S (hE:C2 E B) (h:RS B S ι s a w) {o:Oper} {T:TypeId} {m x y:Operand} (ho:o.op=.mapUpdate T m x y):D3 E.P B o a w (a5V E T (s.ev m) (s.ev x) (s.ev y) s):=by
 have he:execOp a.eval o=(do (Instr.mapUpdate T (a.eval m) (a.eval x) (a.eval y)); pure .skip):=by simp [execOp,ho]
 unfold a5V
 split
 ·rename_i j t z t' q hm hx hy
  split
  ·rename_i k u l hob
   split
   ·rename_i hu
    subst hu
    split
    ·rename_i hu'
     subst hu'
     split
     ·rename_i hmt
      obtain ⟨K,V,n,g1,g2,g3,g4,g5,g6⟩:=b1i hE hmt
      obtain ⟨cs,ex,hR⟩:=x8 h hx
      have ex:a.eval x=j7 t cs:=by simpa using ex
      obtain ⟨ds,ey,hQ⟩:=x8 h hy
      have ey:a.eval y=j7 t' ds:=by simpa using ey
      obtain ⟨e,u0,y0,cs0,k1,k2,k3,k4,k5⟩:=x8 h hm
      obtain rfl:=a0l k1 hob
      rw [x7] at k3; cases k3
      obtain ⟨⟨O0,p0,hO⟩,hnd⟩:=h.hs.ob j _ k1
      have hcs:=P5 k4 hO.length
      rcases hO with ⟨h0,_⟩|⟨l0,b,es,ck,h0,hc0,h3,h4,rfl⟩
      ·cases h0
      cases h0
      have k5:a.eval m=.map (some b):=by
       have:a.eval m=j7 (g8.own (Ty.map true t t') (some l)).ty cs0:=by simpa using k5
       rw [this,hcs,hc0]; rfl
      have hb:b∈ι.own j:=p0.mem_iff.1 (by simp)
      have hbl:b<w.heap.size:=(Array.getElem?_eq_some_iff.1 h3).1
      have hc:=a3M (w:=w) g2 g4 hR false
      obtain ⟨r,_,r2,r3⟩:=a5d (w:=w) g2 g4 g3 hR 0 h4
      have r2:=r2 rfl
      have hgo:=MapKept.run_getObj_map (P:=E.P) h3
      have core:∃ es' ck',(execOp a.eval o).run E.P w=.ok .skip { w with heap:=w.heap.setIfInBounds b (.map es' ck') }∧M6 (f7 w.heap S t []) (f7 w.heap S t' []) t t' es'.toList (a6e (H7 t) (G1 rfl z) (G1 rfl q) l):=by
       have hso:=fun o=>MapKept.run_setObj_map (P:=E.P) o h3
       rcases r3 with ⟨p1,rfl⟩|⟨i,y',e0,ds0,p1,rfl,p3,p4,p5,p6⟩
       ·refine ⟨es.push { key:=j7 t cs,val:=j7 t' ds,born:=ck },ck+1,?_,?_⟩
        ·rw [he,k5,ex,ey]
         simp [Instr.mapUpdate,n9 g1,hgo,hc,r2,hso,Result.andThen]
        ·have:a6e (H7 t) (G1 rfl z) (G1 rfl q) l=l++[(z,q)]:=by simp only [a6e,G1]; rw [p1]
         rw [this,Array.toList_push]
         exact M6.snoc rfl hR rfl hQ h4
       ·have hi:i<es.toList.length:=(List.getElem?_eq_some_iff.1 p3).1
        have hpe:es[i]?=some e0:=by simpa using p3
        refine ⟨es.modify i fun e=>{ e with key:=j7 t cs,val:=j7 t' ds },ck,?_,?_⟩
        ·rw [he,k5,ex,ey]
         have hks:=c2Q (w:=w) (P:=E.P) g2 hR
         simp [Instr.mapUpdate,n9 g1,hgo,hc,r2,hso,hpe,p4,hks,Result.andThen]
        ·have:a6e (H7 t) (G1 rfl z) (G1 rfl q) l=l.set i (z,q):=by simp only [a6e,G1]; rw [p1]; simp
         rw [this]
         have hmod:(es.modify i fun e=>{ e with key:=j7 t cs,val:=j7 t' ds }).toList=es.toList.set i { e0 with key:=j7 t cs,val:=j7 t' ds }:=by
          apply List.ext_getElem?
          intro n
          simp only [Array.getElem?_toList,Array.getElem?_modify,List.getElem?_set]
          by_cases hn:i=n
          ·subst hn
           have hi':i<es.size:=by simpa using hi
           have hei:es[i]=e0:=by rw [Array.getElem?_eq_getElem hi'] at hpe; exact Option.some.inj hpe
           simp [hi',hei]
          ·simp [hn]
         rw [hmod]
         exact M6.set rfl hR rfl hQ hi h4
      obtain ⟨es',ck',c1,c2⟩:=core
      have hpast:y8 [b] w { w with heap:=w.heap.setIfInBounds b (.map es' ck') }:=by
       refine ⟨rfl,.of rfl rfl,rfl,by simp,fun c hc hn=>?_⟩
       simp only [List.mem_cons,List.not_mem_nil,or_false] at hn
       show (w.heap.setIfInBounds b _)[c]?=_
       rw [Array.getElem?_setIfInBounds_ne (Ne.symm hn)]
      have hSb:¬ S b:=(h.hs.bl j _ k1 b (F5 hb)).1
      have hstab:∀ c,c∈([]:List Nat)∨S c→(w.heap.setIfInBounds b (.map es' ck'))[c]?=w.heap[c]?:=by
       intro c hc
       rcases hc with hc|hc
       ·cases hc
       ·rw [Array.getElem?_setIfInBounds_ne (by rintro rfl; exact hSb hc)]
      have hren:=h.renew k1 (.inr (.inr ⟨true,t,t',some l,some (a6e (H7 t) (G1 rfl z) (G1 rfl q) l),rfl,rfl⟩)) C9.nil (L:=[b]) hpast (fun c hc=>.inl (by simp only [List.mem_cons,List.not_mem_nil,or_false] at hc; subst hc; exact F5 hb)) (fun _ h=>h) (fun _ h=>.inl h) (O':=[b])
       ⟨⟨[b],by simp [Ix.y7],by
        refine .inr ⟨_,b,es',ck',rfl,by simpa [Ix.y7] using hc0,?_,c2.mono (fun _ _ h=>h.r7 hstab (fun _ h=>h)) (fun _ _ h=>h.r7 hstab (fun _ h=>h)),rfl⟩
        show (w.heap.setIfInBounds b _)[b]?=_
        rw [Array.getElem?_setIfInBounds_self_of_lt hbl]⟩,by simp [Ix.y7]⟩
       (fun c hc=>by
        have:c=b:=by simpa [l6,Ix.y7] using hc
        subst this
        exact ⟨hSb,.inr (by simp),by simpa using hbl⟩)
      intro next Q hn
      unfold Oper.wp
      rw [c1]
      exact hn S _ _ undef hren rfl
     ·trivial
    ·trivial
   ·trivial
  ·trivial
 ·trivial

end
end Go.Ex

namespace Go.Ex

section
variable {E:Env} {B:D4} {S S':Nat→Prop} {ι:Ix} {s:St} {a:Act} {w:World} {hp:List (Nat×g8)} {H H':Array Go.Obj}

theorem b6Y:∀ {n:Nat} {l v:AV} {us:List Value},n6.nth n l=some v→VX H S ι hp l us→∃ u,us[n]?=some u∧VX H S ι hp v [u]
 | 0,l,v,us,h,hl=>by
  cases l<;>simp only [n6.nth] at h<;>first|cases h|skip
  obtain ⟨u,us',rfl,ha,hb⟩:=hl
  exact ⟨u,rfl,ha⟩
 | n+1,l,v,us,h,hl=>by
  cases l<;>simp only [n6.nth] at h<;>first|cases h|skip
  obtain ⟨u,us',rfl,ha,hb⟩:=hl
  obtain ⟨u2,e,h2⟩:=b6Y h hb
  exact ⟨u2,by simpa using e,h2⟩

theorem a6f (h:RS B S ι s a w) {o:Oper} {c:Call} (ho:o.op=.call c) {P:Program} {x:Operand} {l:List Operand} (ha:c.args.toList=x::l) {k:IntKind} {m:Int} (hx:s.ev x=.val (.int k) m) :
  (c.callee=.builtin .max→D3 P B o a w (foldI s k (fun a b=>if a<b then b else a) m l))∧(c.callee=.builtin .min→D3 P B o a w (foldI s k (fun a b=>if b<a then b else a) m l)):=by
 obtain ⟨hxv,bx⟩:=VX.F8 (x8 h hx)
 have hargs:c.args.map a.eval=(a.eval x::l.map a.eval).toArray:=by
  apply Array.ext'
  simp [ha]
 constructor
 ·intro hc
  cases hl:foldI s k (fun a b=>if a<b then b else a) m l with
  | fail y=>trivial
  | E4 p v s'=>exact absurd hl a6n
  | ok v s' =>
   obtain ⟨n,rfl,rfl,hn,hrun⟩:=a5i (P:=P) (w:=w) h (m2:=Builtin.max2) (by intro x y hx hy; split<;>assumption) (by intro x y; simp [Builtin.max2]) bx hl
   refine u6.value (val:=.int k n) ?_ h (VX.int hn)
   simp [execOp,ho,resolve,hc,invoke,builtin,hargs,hxv,Builtin.max_,hrun]
 ·intro hc
  cases hl:foldI s k (fun a b=>if b<a then b else a) m l with
  | fail y=>trivial
  | E4 p v s'=>exact absurd hl a6n
  | ok v s' =>
   obtain ⟨n,rfl,rfl,hn,hrun⟩:=a5i (P:=P) (w:=w) h (m2:=Builtin.min2) (by intro x y hx hy; split<;>assumption) (by intro x y; simp [Builtin.min2]) bx hl
   refine u6.value (val:=.int k n) ?_ h (VX.int hn)
   simp [execOp,ho,resolve,hc,invoke,builtin,hargs,hxv,Builtin.min_,hrun]

theorem b3R {i:Nat} {p:List Step} {lo:Nat} {t:Ty} {m:List t.den} {s':St} (hf:a0y s i p lo t m=some s'):t.shared=true:=by
 unfold a0y at hf
 split at hf
 ·split at hf
  ·split at hf
   ·split at hf
    ·split at hf
     ·rename_i hc
      simp only [Bool.and_eq_true] at hc
      exact hc.1
     ·cases hf
    ·cases hf
   ·cases hf
  ·cases hf
 ·cases hf

theorem a7Z {T:TypeId} {x y:AV} {p:Prop} {v:AV} {s':St} (hI:Y9 E T x y s=.E4 p v s'):∃ i lo hi q t0 bts t m l,x=.sub i [] lo hi∧look T E.tt=some ⟨.d0 q t0,bts⟩∧y.a1e s t0=some (⟨t,m⟩,[])∧s.obj i=some (.own (.d0 true t) l) ∧
  a0y s i [] hi.toNat t m=some s'∧I0 E T (.d0 true t)=true∧p=(hi+(List.length m:Int)≤(List.length l:Int))∧v=.sub i [] lo (hi+(List.length m:Int)):=by
 unfold Y9 at hI
 split at hI
 ·rename_i i lo hi q t0 bts hT
  split at hI
  ·rename_i t m u l happ hob
   split at hI
   ·rename_i s1 hf hck hd
    cases hI
    obtain rfl:=of_decide_eq_true hd
    exact ⟨i,lo,hi,q,t0,bts,t,m,l,rfl,hT,happ,hob,hf,hck,rfl,rfl⟩
   ·cases hI
  ·cases hI
 ·cases hI

theorem b6s {T:TypeId} {x y:AV} {r:Prop×AV×St} (hI:(Y9 E T x y s).get=some r):Y9 E T x y s=.E4 r.1 r.2.1 r.2.2:=by
 unfold Y9 at hI ⊢
 repeat' split at hI
 all_goals first|(cases hI; done)|(cases hI; rfl)

theorem c1f {i:Nat} {lo:Nat} {t:Ty} {m l:List t.den} {s':St} (hob:s.obj i=some (.own (.d0 true t) l)) (hf:a0y s i [] lo t m=some s'):s'=(s.T6 i true).s8 i (.own (.d0 true t) (List.take lo l++m++List.drop (lo+m.length) l)):=by
 unfold a0y at hf
 rw [hob] at hf
 simp only [g8.ty,g8.x,x7] at hf
 rw [dif_pos trivial] at hf
 simp only [r9,if_true] at hf
 split at hf
 ·cases hf; rfl
 ·cases hf

theorem b2E (hE:C2 E B) (h:RS B S ι s a w) {o:Oper} {c:Call} (ho:o.op=.call c) (hc:c.callee=.builtin .append) {x y:Operand} {T U:TypeId} (ha:c.args.toList=[x,y]) (hTs:c.argTypes.toList=[T,U])
  (hk:(∃ e',E.P.underlying U=some (.slice e'))∨E.P.underlying U=some .string):D3 E.P B o a w (Y9 E T (s.ev x) (s.ev y) s):=by
 cases hI:Y9 E T (s.ev x) (s.ev y) s with
 | fail why=>trivial
 | ok v s' =>
  exfalso
  unfold Y9 at hI
  repeat' split at hI
  all_goals cases hI
 | E4 p v s' =>
  intro hp
  obtain ⟨i,lo,hi,q,t0,bts,t,m,l,hx,hT,happ,hob,hf,hck,rfl,rfl⟩:=a7Z hI
  obtain ⟨Og,news,hsrc,hN,_,hOg⟩:=a5y (P:=E.P) h hk happ (h.ev y)
  have hsh:=b3R hf
  have hOg0:Og=[]:=i7.J5 (fun _ _ _ hr=>f7.J5 hsh hr) hN
  subst hOg0
  have hob':look i s.hp=some (.own (.d0 true t) l):=hob
  obtain ⟨e,v',h1,h2,h3,h4,h5,h6⟩:=x8 h hx
  rw [hob'] at h1; cases h1
  have hv':a.eval x=v':=by simpa using h3
  rcases h6 with ⟨t1,l1,a0,cap,k1,k2,k3,c0,A,k4,kA,k5,k6⟩|⟨n,t1,l1,b,off,k1,_,k3,_⟩
  rotate_left
  ·exfalso
   simp only [Loc,Place,w8,VR] at k3
   simp at k3
  have k1':j6 (.d0 true t) l []=some ⟨.d0 true t1,l1⟩:=k1
  rw [x7] at k1'; cases k1'
  have hcap:l.length≤cap:=by
   obtain ⟨O2,_,_,m3⟩:=F0 h.hs hob' h2 k1 k3
   rcases m3 with ⟨_,_,hl⟩|⟨b2,o2,cap2,O',c1,c2,_⟩
   ·rw [hl]; exact Nat.zero_le _
   ·simp only [List.cons.injEq,Value.slice.injEq,and_true] at c1
    rw [c1.2.2]; exact c2
  have hp:hi+(m.length:Int)≤(l.length:Int):=hp
  have hvw:VX w.heap S ι s.hp (.sub i [] hi (hi+(m.length:Int))) [.slice (a0.map (·.add (hi.toNat*t.size))) m.length (cap - hi.toNat)] :=
   ⟨_,_,hob',h2,rfl,by omega,by omega,.inl ⟨t,l,a0,cap,k1,hp,k3,cap - hi.toNat,_,by rw [show (hi+(m.length:Int) - hi).toNat=m.length by omega],fun _=>rfl,by omega,by omega⟩⟩
  have hd':(AV.sub i [] hi (hi+(m.length:Int))).a2H s=some (i,[],hi,hi+(m.length:Int)):=by
   simp only [AV.a2H,St.part,hob,g8.ty,g8.x,x7]
  obtain ⟨w',ι',A',c',e1,hrs,hst⟩:=a39 (P:=E.P) h hvw hd' (by omega) hN hf
  simp only [Value.slice.injEq] at e1
  obtain ⟨e1,_,_⟩:=e1
  obtain ⟨et,k',g1,g2,g3⟩:=E5 (C1 hE hck)
  obtain ⟨inf,hinf,hisz,hiz⟩:=Q9 g3
  have hargs:c.args=#[x,y]:=by rw [← ha]
  have hts:c.argTypes=#[T,U]:=by rw [← hTs]
  have hroom:(hi - lo).toNat+m.length≤c0:=by omega
  have hrun:(Builtin.append_ #[T,U] o.type #[a.eval x,a.eval y]).run E.P w=.ok (.slice A ((hi - lo).toNat+m.length) c0) w':=by
   rw [hv',k4]
   rw [← hisz] at hsrc
   by_cases hm0:m=[]
   ·subst hm0
    have hn0:news=[]:=hN.2
    subst hn0
    have hww:w'=w:=by
     rcases hst with ⟨_,_,rfl⟩|⟨A1,_,hst⟩
     ·rfl
     ·simpa [storeCells] using hst.symm
    subst hww
    have hl0:=hsrc.len
    have hc0:=hsrc.cells
    simp only [List.length_nil,Nat.add_zero] at hl0 hc0 hroom
    rcases hsrc.kind with ⟨e',hk2⟩|hk2<;>cases A<;>simp [Builtin.append_,run_underlying g1,run_underlying hk2,sizeOf,typeInfo,hinf,hl0,hc0,storeCells,hroom]
   ·have hml:1≤m.length:=List.length_pos_iff.2 hm0
    rcases hst with ⟨_,hm1,_⟩|⟨A1,hA1,hst⟩
    ·exact absurd hm1 hm0
    subst hA1
    obtain ⟨O2,_,_,m3⟩:=F0 h.hs hob' h2 k1 k3
    rcases m3 with ⟨_,_,hl⟩|⟨b2,o2,cap2,O',c1,c2,_⟩
    ·have hl:l=[]:=hl
     rw [hl] at hp; simp at hp; omega
    ·simp only [List.cons.injEq,Value.slice.injEq,and_true,true_and] at c1
     obtain ⟨rfl,rfl⟩:=c1
     have hA:=kA (by omega)
     subst hA
     simp only [Option.map_some,Option.some.injEq] at e1
     subst e1
     have hadr:((⟨b2,o2,none⟩:Addr).add (lo.toNat*t.size)).add ((hi - lo).toNat*t.size)=(⟨b2,o2,none⟩:Addr).add (hi.toNat*t.size):=by
      rw [Addr.F6,Addr.F6,Addr.F6,Nat.add_assoc,← Nat.add_mul,show lo.toNat+(hi - lo).toNat=hi.toNat by omega]
     rw [← hadr] at hst
     simp only [Option.map_some]
     generalize hAA:((⟨b2,o2,none⟩:Addr).add (lo.toNat*t.size))=AA at hst ⊢
     rw [← hisz] at hst
     rcases hsrc.kind with ⟨e',hk2⟩|hk2<;>simp [Builtin.append_,run_underlying g1,run_underlying hk2,sizeOf,typeInfo,hinf,hsrc.len,hroom,hsrc.cells,hst]
  have hrun2:(execOp a.eval o).run E.P w=.ok (.value (.slice A ((hi - lo).toNat+m.length) c0)) w':=by
   simp [execOp,ho,resolve,hc,invoke,builtin,hargs,hts,hrun]
  intro next Q hnx
  unfold Oper.wp
  rw [hrun2]
  refine hnx S ι' w' _ hrs ?_
  have hs':=c1f hob hf
  -- the operand's own slot still views the object
  have hslot:s'.ev x=.sub i [] lo hi:=by
   cases x with
   | tmp n =>
    have hng:Nat.beq n H4=false:=by
     cases hb:Nat.beq n H4 with
     | true=>simp [St.ev,hb] at hx
     | false=>rfl
    have hx9:(look n s.fr).getD .any=.sub i [] lo hi:=by
     have h9:=hx
     simp only [St.ev,hng] at h9
     exact h9
    show (match Nat.beq n H4 with|true=>AV.any|false=>s'.get n)=_
    rw [hng]
    show (look n s'.fr).getD .any=_
    rw [hs']
    show (look n (mapA (AV.map (AV.a1B i true)) s.fr)).getD .any=_
    rw [N0]
    cases hl9:look n s.fr with
    | none=>rw [hl9] at hx9; cases hx9
    | some u9 =>
     rw [hl9] at hx9
     have:u9=.sub i [] lo hi:=hx9
     subst this
     simp [AV.map,AV.a1B,AV.i6]
   | const v9=>exact absurd hx (by
     simp only [St.ev]
     intro h9
     unfold ofConst at h9
     repeat' split at h9
     all_goals cases h9)
   | global g=>cases hx
   | func f=>cases hx
  have hv9:=hrs.ev x
  rw [hslot,hv',k4] at hv9
  obtain ⟨e9,v9,r1,r2,r3,r4,r5,r6⟩:=hv9
  have hob9:look i s'.hp=some (.own (.d0 true t) (List.take hi.toNat l++m++List.drop (hi.toNat+m.length) l)):=by
   rw [hs']
   show look i (Ex.put i _ _)=_
   rw [o5,if_pos rfl]
  rw [hob9] at r1; cases r1
  have hlen9:(List.take hi.toNat l++m++List.drop (hi.toNat+m.length) l).length=l.length:=by
   simp only [List.length_append,List.length_take,List.length_drop]; omega
  rcases r6 with ⟨t2,l2,a2,cap2,q1,q2,q3,c2,A2,q4,qA,q5,q6⟩|⟨n,t2,l2,b,off,q1,_,q3,_⟩
  ·have q1':j6 (.d0 true t) (List.take hi.toNat l++m++List.drop (hi.toNat+m.length) l) []=some ⟨.d0 true t2,l2⟩:=q1
   rw [x7] at q1'; cases q1'
   have r3':Value.slice A (hi - lo).toNat c0=v9:=by simpa using r3
   rw [q4] at r3'
   simp only [Value.slice.injEq,true_and] at r3'
   obtain ⟨rfl,rfl⟩:=r3'
   exact ⟨_,_,hob9,r2,rfl,r4,by omega,.inl ⟨t,_,a2,cap2,q1,by rw [hlen9]; exact hp,q3,c0,A,by rw [show (hi+(m.length:Int) - lo).toNat=(hi - lo).toNat+m.length by omega],qA,by omega,q6⟩⟩
  ·exfalso
   simp only [Loc,Place,w8,VR] at q3
   simp at q3

theorem b9b (hE:C2 E B) (h:RS B S ι s a w) {o:Oper} {c:Call} (ho:o.op=.call c) (hc:c.callee=.builtin .copy) {x y:Operand} {T U:TypeId} (ha:c.args.toList=[x,y]) (hT:c.argTypes.toList=[T,U]):D3 E.P B o a w (a7o E T (s.ev x) (s.ev y) s):=by
 unfold a7o
 split
 ·rename_i i p lo hi t m hd hels
  split
  ·rename_i s' hf hck
   obtain ⟨et,k',g1,_,g3⟩:=E5 (C1 hE hck)
   obtain ⟨A2,c2,ey,hA⟩:=a7m h.hs (h.ev y) hels
   have hlen:=b0A h.hs (h.ev y) hels
   have hargs:c.args=#[x,y]:=by rw [← ha]
   have hts:c.argTypes=#[T,U]:=by rw [← hT]
   have hsh:t.shared=true:=b3R hf
   obtain ⟨e,t9,l9,A9,cap9,c9,A8,z1,z2,z3,z4,z5,z6,z7,z8,z9,z10⟩:=b0B h (h.ev x) hd
   -- what is read
   have hsrc:∃ news,(Builtin.firstCells t.size (List.take (hi - lo).toNat m).length (a.eval y)).run E.P w=.ok news.toArray w∧i7 (f7 w.heap S t) t.size [] news (List.take (hi - lo).toNat m):=by
    rw [ey]
    rcases hA with rfl|⟨b,off,O',rfl,k1,k2,k3,k4⟩
    ·refine ⟨[],?_,by rw [List.take_nil]; exact ⟨rfl,rfl⟩⟩
     rw [List.take_nil]
     cases A2 with
     | none=>exact run_firstCells_none w t.size 0 0 c2
     | some A=>exact run_firstCells_some w t.size 0 A 0 c2 [] (by simp) (by simp)
    ·have hr:=c0E hsh k3 (k:=(List.take (hi - lo).toNat m).length)
     have e9:List.take (List.take (hi - lo).toNat m).length m=List.take (hi - lo).toNat m:=by
      rw [List.length_take]
      rcases Nat.le_total (hi - lo).toNat m.length with h9|h9
      ·rw [Nat.min_eq_left h9]
      ·rw [Nat.min_eq_right h9,List.take_length,List.take_of_length_le h9]
     rw [e9] at hr
     refine ⟨_,run_firstCells_some w t.size _ _ _ c2 _ (i7.length (fun _ _ _ h=>h.length) hr) (fun j u hu=>?_),hr⟩
     rw [Addr.F6]
     refine J8 (n:=List.length m*t.size) ?_
     rw [List.getElem?_take] at hu
     split at hu
     ·exact hu
     ·cases hu
   obtain ⟨news,hn1,hn2⟩:=hsrc
   have hml:((List.take (hi - lo).toNat m).length:Int)≤hi - lo:=by rw [List.length_take]; omega
   obtain ⟨w',ι',A',c',e1,hrs,hst⟩:=a39 (P:=E.P) h (h.ev x) hd hml hn2 hf
   have hnat:Nat.min m.length (hi - lo).toNat=(List.take (hi - lo).toNat m).length:=by rw [List.length_take,Nat.min_comm]
   have hrun:(Builtin.copy_ #[T,U] o.type #[a.eval x,a.eval y]).run E.P w=.ok (.int .i64 ((List.take (hi - lo).toNat m).length:Int)) w':=by
    have hn1':=hn1
    rw [ey,List.length_take] at hn1'
    rw [e1,ey]
    rcases hst with ⟨rfl,_,rfl⟩|⟨A,rfl,hst⟩
    ·simp only [Builtin.copy_]
     simp [n9 g1,Builtin.lenOf,hnat,run_sizeOf g3,hn1',goInt]
    ·simp [Builtin.copy_,n9 g1,Builtin.lenOf,hnat,run_sizeOf g3,hn1',hst,goInt]
   have hrun2:(execOp a.eval o).run E.P w=.ok (.value (.int .i64 ((List.take (hi - lo).toNat m).length:Int))) w':=by
    simp [execOp,ho,resolve,hc,invoke,builtin,hargs,hts,hrun]
   intro next Q hnx
   unfold Oper.wp
   rw [hrun2]
   refine hnx S ι' w' _ hrs (VX.int ?_)
   have:(List.take (hi - lo).toNat m).length≤m.length:=by rw [List.length_take]; omega
   unfold maxLen at hlen
   unfold q9
   simp only [IntKind.min,IntKind.max,IntKind.signed,IntKind.bits]
   simp
   omega
  ·trivial
 ·trivial

theorem b6c (hE:C2 E B) (h:RS B S ι s a w) {o:Oper} {c:Call} (ho:o.op=.call c) (hc:c.callee=.builtin .clear) {x:Operand} {T:TypeId} (ha:c.args.toList=[x]) (hT:c.argTypes.toList=[T]):D3 E.P B o a w (a4G E T (s.ev x) s):=by
 unfold a4G
 split
 ·rename_i i p lo hi q t bts hd hTt
  split
  ·rename_i s' hf
   obtain ⟨et,k',g1,_,g3⟩:=E5 (p9 hE hTt)
   have hargs:c.args=#[x]:=by rw [← ha]
   have hts:c.argTypes=#[T]:=by rw [← hT]
   obtain ⟨e,t9,l9,A9,cap9,c9,A8,z1,z2,z3,z4,z5,z6,z7,z8,z9,z10⟩:=b0B h (h.ev x) hd
   have hrep:i7 (f7 w.heap S t) t.size [] (List.replicate (hi - lo).toNat (zc t)).flatten (List.replicate (hi - lo).toNat t.o7):=(f7.o7 (H:=w.heap) (S:=S) (.arr (hi - lo).toNat t)).2
   obtain ⟨w',ι',A',c',e1,hrs,hst⟩:=a39 (P:=E.P) h (h.ev x) hd (by rw [List.length_replicate]; omega) hrep hf
   have hzz:(j7 t (zc t)).cells=(zc t).toArray:=(f7.o7 (H:=w.heap) (S:=S) t).cells
   have hrun:(Builtin.clear_ #[T] o.type #[a.eval x]).run E.P w=.ok (.tuple #[]) w':=by
    rw [e1]
    rcases hst with ⟨rfl,_,rfl⟩|⟨A,rfl,hst⟩
    ·simp [Builtin.clear_,n9 g1]
    ·by_cases h0:(hi - lo).toNat=0
     ·rw [h0] at hst ⊢
      simp [storeCells] at hst
      subst hst
      simp [Builtin.clear_,n9 g1]
     ·obtain ⟨n,hn⟩:∃ n,(hi - lo).toNat=n+1:=⟨(hi - lo).toNat - 1,by omega⟩
      rw [hn] at hst ⊢
      simp [Builtin.clear_,n9 g1,a06 g3,hzz,a1q,hst]
   have hrun2:(execOp a.eval o).run E.P w=.ok (.value (.tuple #[])) w':=by
    simp [execOp,ho,resolve,hc,invoke,builtin,hargs,hts,hrun]
   intro next Q hnx
   unfold Oper.wp
   rw [hrun2]
   exact hnx S ι' w' _ hrs rfl
  ·trivial
 ·trivial

theorem b9w (hE:C2 E B) (h:RS B S ι s a w) {o:Oper} {c:Call} (ho:o.op=.call c):D3 E.P B o a w (n6 E o s):=by
 unfold n6
 rw [ho]
 simp only
 split
 ·rename_i f hf
  split
  ·rename_i g caps hg
   obtain ⟨us,he,hcap⟩:=x8 h hg
   exact a4c hE h ho hf (by simpa using he) hcap
  ·rename_i g b hg
   refine D3.a6P (fun hb=>?_)
   have hv:=b3Q h hg
   rw [hb] at hv
   exact a4c hE h ho hf (us:=[]) hv rfl
  ·rename_i g t y hg
   refine D3.a6P (fun hy=>?_)
   obtain ⟨p,e,hp⟩:=a74 (x8 h hg) hy
   exact a4c hE h ho hf (us:=[p]) (by simpa using e) ⟨p,[],rfl,hp,rfl⟩
  ·trivial
 ·rename_i hf
  split
  ·rename_i x T ha hT
   split
   ·rename_i q u y hx
    split
    ·rename_i hk
     obtain ⟨cs,e,hR⟩:=x8 h hx
     obtain ⟨b,cap,hv,hl⟩:=a4p hR
     have e:a.eval x=j7 (.d0 q u) cs:=by simpa using e
     exact a0I hE h ho hf ha hT hk (.inl ⟨q,u,b,0,cap,rfl,by rw [e,hv],rfl⟩) hl
    ·trivial
   ·rename_i u y hx
    split
    ·rename_i hk
     obtain ⟨cs,e,hR⟩:=x8 h hx
     obtain ⟨b,cap,hv,hl⟩:=b6Z hR
     have e:a.eval x=j7 (.w5 u) cs:=by simpa using e
     exact a0I hE h ho hf ha hT hk (.inl ⟨false,u,b,0,cap,rfl,by rw [e,hv],rfl⟩) hl
    ·trivial
   ·rename_i y hx
    split
    ·rename_i hk
     obtain ⟨hv,hl⟩:=VX.a1S (x8 h hx)
     exact a0I hE h ho hf ha hT hk (.inr (.inl ⟨y,rfl,hv,rfl⟩)) (by unfold maxLen at hl; omega)
    ·trivial
   ·rename_i n u y hx
    split
    ·rename_i hk
     split
     ·rename_i hn
      exact a0I hE h ho hf ha hT hk (.inr (.inr ⟨u,rfl⟩)) hn
     ·trivial
    ·trivial
   ·rename_i d p hx
    split
    ·rename_i q u z hpt
     split
     ·rename_i hk
      obtain ⟨e,u',y,cs,k1,k2,k3,k4,k5⟩:=x8 h hx
      have hg:=G3 k1 hpt
      rw [k3] at hg; cases hg
      obtain ⟨O2,m1,m2,m3⟩:=F0 h.hs k1 k2 k3 k4
      obtain ⟨b,cap,hv,hl⟩:=a4p m3
      have k5:a.eval x=j7 (.d0 q u) cs:=by simpa using k5
      exact a0I hE h ho hf ha hT hk (.inl ⟨q,u,b,0,cap,rfl,by rw [k5,hv],rfl⟩) hl
     ·trivial
    ·rename_i u z hpt
     split
     ·rename_i hk
      obtain ⟨e,u',y,cs,k1,k2,k3,k4,k5⟩:=x8 h hx
      have hg:=G3 k1 hpt
      rw [k3] at hg; cases hg
      obtain ⟨O2,m1,m2,m3⟩:=F0 h.hs k1 k2 k3 k4
      obtain ⟨b,cap,hv,hl⟩:=b6Z m3
      have k5:a.eval x=j7 (.w5 u) cs:=by simpa using k5
      exact a0I hE h ho hf ha hT hk (.inl ⟨false,u,b,0,cap,rfl,by rw [k5,hv],rfl⟩) hl
     ·trivial
    ·rename_i k u z hpt
     split
     ·rename_i hk
      intro hn
      have hm:(s.ev x).mp s=some ⟨(k,u),z⟩:=by rw [hx]; simp only [AV.mp,hpt]
      have hargs:c.args=#[x]:=by rw [← ha]
      have hts:c.argTypes=#[T]:=by rw [← hT]
      obtain ⟨K,V,n,h1,_⟩:=a4Q (C1 hE hk)
      refine u6.value (val:=.int .i64 (List.length (Option.getD (z:Option (List (k.den×u.den))) []))) ?_ h (VX.int (by unfold q9; simp [IntKind.min,IntKind.max,IntKind.signed,IntKind.bits]; omega))
      have hrun:(Builtin.len_ #[T] o.type #[a.eval x]).run E.P w=.ok (.int .i64 (List.length (Option.getD (z:Option (List (k.den×u.den))) []))) w:=by
       rcases c0X h.hs (h.ev x) hm with ⟨h2,h3⟩|⟨l,b,es,ck,h2,h3,h4,h5⟩
       ·subst h2
        rw [h3]
        simp [Builtin.len_,n9 h1,goInt]
       ·subst h2
        rw [h3]
        have hgo:=MapKept.run_getObj_map (P:=E.P) h4
        have hl:=M6.length h5
        rw [Array.length_toList] at hl
        simp [Builtin.len_,n9 h1,goInt,hgo,hl]
      simp [execOp,ho,resolve,hf,invoke,builtin,hargs,hts,hrun]
     ·trivial
    ·trivial
   ·rename_i d p lo hi hx
    split
    ·rename_i u y hw
     split
     ·rename_i hk
      obtain ⟨A,c,e,_,hl,h0,h1,_⟩:=a7c h.hs (x8 h hx) hw
      have hm:=b0A h.hs (x8 h hx) (l:=y) hw
      have:=a0I hE h ho hf ha hT hk (n:=y.length) (.inl ⟨true,u,A,0,c,rfl,e,rfl⟩) (by unfold maxLen at hm; omega)
      rw [hl] at this
      exact this
     ·trivial
    ·trivial
   ·rename_i hx
    split
    ·rename_i q u bts hT'
     have hx':[a.eval x]=[Value.slice none 0 0]:=x8 h hx
     have hx':a.eval x=Value.slice none 0 0:=by simpa using hx'
     have hargs:c.args=#[x]:=by rw [← ha]
     have hts:c.argTypes=#[T]:=by rw [← hT]
     refine u6.value (val:=.int .i64 0) ?_ h (VX.int (by unfold q9; simp [IntKind.min,IntKind.max,IntKind.signed,IntKind.bits]))
     have:=b64 (w:=w) (ty:=o.type) (n:=0) (p9 hE hT') (.inl ⟨q,u,none,0,0,rfl,hx',rfl⟩)
     simp [execOp,ho,resolve,hf,invoke,builtin,hargs,hts,this]
    ·trivial
   ·trivial
  ·trivial
 ·rename_i hf
  split
  ·rename_i x T ha hT
   split
   ·rename_i q u bts hx hT'
    obtain ⟨et,k',f1,_⟩:=E5 (p9 hE hT')
    have hx':a.eval x=Value.slice none 0 0:=by simpa using (show [a.eval x]=[Value.slice none 0 0] from x8 h hx)
    have hargs:c.args=#[x]:=by rw [← ha]
    have hts:c.argTypes=#[T]:=by rw [← hT]
    refine u6.value (val:=.int .i64 0) ?_ h (VX.int (by unfold q9; simp [IntKind.min,IntKind.max,IntKind.signed,IntKind.bits]))
    simp [execOp,ho,resolve,hf,invoke,builtin,hargs,hts,Builtin.cap_,n9 f1,hx',goInt]
   ·trivial
  ·trivial
 ·rename_i hf
  split
  ·rename_i x y T U ha hT
   split
   ·rename_i q u bts hU
    obtain ⟨et,k',f1,_⟩:=E5 (p9 hE hU)
    split
    ·exact b2E hE h ho hf ha hT (.inl ⟨et,f1⟩)
    ·exact b9M hE h ho hf ha hT ⟨et,f1⟩
   ·rename_i bts hU
    exact a6O hE h ho hf ha hT (.inr (S6 (p9 hE hU)))
   ·rename_i kd bts hU
    exact b2D hE h ho hf ha hT (X1 (p9 hE hU))
   ·trivial
  ·trivial
 ·rename_i hf
  split
  ·rename_i x l ha
   split
   ·rename_i k m hx
    exact (a6f h ho ha hx).1 hf
   ·trivial
  ·trivial
 ·rename_i hf
  split
  ·rename_i x l ha
   split
   ·rename_i k m hx
    exact (a6f h ho ha hx).2 hf
   ·trivial
  ·trivial
 ·rename_i hf
  split
  ·rename_i x y T U ha hT; exact b9b hE h ho hf ha hT
  ·trivial
 ·rename_i hf
  split
  ·rename_i x T ha hT; exact b6c hE h ho hf ha hT
  ·trivial
 ·trivial

theorem c1O (hE:C2 E B) (h:RS B S ι s a w) (o:Oper) (hpick:∀ c x y,o.op≠.pick c x y):D3 E.P B o a w (n6 E o s):=by
 cases ho:o.op with
 | move x=>unfold n6; rw [ho]; exact u6.value (by simp [execOp,ho]) h (h.ev x)
 | assign x=>unfold n6; rw [ho]; exact u6.value (by simp [execOp,ho]) h (h.ev x)
 | alloc T=>exact b6v hE h ho
 | box T x=>exact c1D hE h ho
 | makeSlice T x y=>exact a9n hE h ho
 | slice T x lo hi mx =>
  have:n6 E o s=a2n E T (s.ev x) lo hi mx s:=by unfold n6; rw [ho]
  rw [this]; exact b3e hE h ho
 | build T parts=>exact b6q hE h ho
 | buildSlice T n parts=>exact a8y hE h ho
 | makeMap T r=>exact b2t hE h ho
 | lookup T x y ok =>
  have:n6 E o s=a1Y E T (s.ev x) (s.ev y) ok s:=by unfold n6; rw [ho]
  rw [this]; exact b2u hE h ho
 | mapUpdate T m x y =>
  have:n6 E o s=a5V E T (s.ev m) (s.ev x) (s.ev y) s:=by unfold n6; rw [ho]
  rw [this]; exact b7S hE h ho
 | load T x =>
  have:n6 E o s=a05 E T (s.ev x) s:=by unfold n6; rw [ho]
  rw [this]
  cases hl:a05 E T (s.ev x) s with
  | fail why=>trivial
  | ok v s'=>exact b5P hE h ho hl
  | E4 p v s' =>
   exfalso
   unfold a05 at hl
   repeat' split at hl
   all_goals cases hl
 | store T x y =>
  unfold n6; rw [ho]
  simp only
  split
  ·rename_i i p hx; exact b3c hE h ho hx
  ·trivial
 | nilCheck x =>
  unfold n6; rw [ho]
  simp only
  split
  ·rename_i i p hx
   have hv:=x8 h hx
   obtain ⟨e,b,off,h1,h2,h3,h4⟩:=hv
   have h4:a.eval x=.pointer (some ⟨b,off,none⟩):=by simpa using h4
   exact u6.value (val:=.pointer (some ⟨b,off,none⟩)) (by simp only [execOp,ho,h4]; rfl) h ⟨e,b,off,h1,h2,h3,rfl⟩
  ·rename_i t y hx
   obtain ⟨b,off,e,h1,h2,h3⟩:=x8 h hx
   have e:a.eval x=.pointer (some ⟨b,off,none⟩):=by simpa using e
   exact u6.value (val:=.pointer (some ⟨b,off,none⟩)) (by simp only [execOp,ho,e]; rfl) h ⟨b,off,rfl,h1,h2,h3⟩
  ·rename_i t y hx
   intro hy
   obtain ⟨b,off,e,h1,h2,h3⟩:=a7a (x8 h hx) hy
   have e:a.eval x=.pointer (some ⟨b,off,none⟩):=by simpa using e
   exact u6.value (val:=.pointer (some ⟨b,off,none⟩)) (by simp only [execOp,ho,e]; rfl) h ⟨b,off,rfl,h1,h2,h3⟩
  ·rename_i f t y hx
   intro hy
   have hv:=x8 h hx
   obtain ⟨p,e,-⟩:=a74 hv hy
   exact u6.value (val:=a.eval x) (by simp only [execOp,ho,e]; rfl) h hv
  ·rename_i f l hx
   obtain ⟨us,e,h1⟩:=x8 h hx
   have e:a.eval x=.func (.func f) #[] us.toArray:=by simpa using e
   exact u6.value (val:=.func (.func f) #[] us.toArray) (by simp only [execOp,ho,e]; rfl) h ⟨us,rfl,h1⟩
  ·rename_i g b hx
   intro hb
   have hv:=b3Q h hx
   have hb:b=true:=hb
   subst hb
   exact u6.value (val:=.func (.func g) #[] #[]) (by simp only [execOp,ho,hv]; rfl) h ⟨[fnV g true],rfl,rfl,rfl⟩
  ·trivial
 | binOp op T x y T' =>
  have:n6 E o s=a5v E T op (s.ev x) (s.ev y) s:=by unfold n6; rw [ho]
  rw [this]; exact b9H hE h ho
 | unOp op T x =>
  have:n6 E o s=unA op (s.ev x) s:=by unfold n6; rw [ho]
  rw [this]; exact b7T h ho
 | convert T' T x=>exact b2z hE h ho
 | fieldAddr T x n=>exact a9y hE h ho
 | indexAddr T x y=>exact a9s hE h ho
 | field T x n=>exact b5X hE h ho
 | index T x y=>exact b5U hE h ho
 | extract x n =>
  unfold n6; rw [ho]
  simp only
  split
  ·rename_i l hx
   split
   ·rename_i v hn
    obtain ⟨us,e,hl⟩:=x8 h hx
    have e:a.eval x=.tuple us.toArray:=by simpa using e
    obtain ⟨u,h1,h2⟩:=b6Y hn hl
    have he:execOp a.eval o=(do pure (.value (← Instr.extract (a.eval x) n))):=by simp [execOp,ho]
    refine G2 he h (val:=u) ?_ h2
    rw [e]; simp [Instr.extract,h1]
   ·trivial
  ·trivial
 | makeFunc fn first caps =>
  unfold n6
  rw [ho]
  cases fn with
  | func f =>
   simp only
   split
   ·rename_i hf
    have hf:first=#[]:=by simpa using hf
    have:=h.H9 caps.toList
    refine u6.value (val:=.func (.func f) #[] (caps.toList.map a.eval).toArray) ?_ h ⟨_,rfl,this⟩
    simp [execOp,ho,Instr.makeFunc,hf,← Array.toList_map]
   ·trivial
  | _=>trivial
 | call c=>exact b9w hE h ho
 | pick c x y=>exact absurd ho (hpick c x y)
 | _=>unfold n6; rw [ho]; trivial

/-! ### regions -/
theorem a34 (hE:C2 E B) (hn:B.n=E.nt) (h:RS B S ι s a w) (o:Oper) {k:St→Tree (E.rs++F3 E.ps)} {L:Code→List Item→St→Prop} {Rt:DL (E.rs++F3 E.ps)→Prop} (ht:(a4X E o s k).holds L Rt) {next:Act→World→Prop} {Q:Exit→Act→World→Prop}
  (hk:∀ S' ι' s' a' w',RS B S' ι' s' a' w'→(k s').holds L Rt→next a' w'):o.wp E.P a w next Q:=by
 unfold a4X at ht
 split at ht
 ·exact ht.elim
 ·rename_i hd
  rw [← hn] at hd
  split at ht
  ·rename_i c x y ho
   split at ht
   ·rename_i g hg
    have hgv:=VX.a14 (x8 h hg)
    have hrun:(execOp a.eval o).run E.P w=.ok (.value (if g then a.eval x else a.eval y)) w:=by
     simp only [execOp,ho,hgv,asBool]
     cases g<;>simp
    unfold Oper.wp
    rw [hrun]
    cases g with
    | true=>exact hk S ι _ _ _ (h.put hd (h.ev x)) ht
    | false=>exact hk S ι _ _ _ (h.put hd (h.ev y)) ht
   ·exact ht.elim
  ·rename_i hnp
   have hs:=c1O hE h o (fun c x y e=>hnp c x y e)
   split at ht
   ·exact ht.elim
   ·rename_i v s' e
    rw [e] at hs
    exact hs next Q (fun S' ι' w' val h1 h2=>hk S' ι' _ _ _ (h1.put hd h2) ht)
   ·rename_i p v s' e
    rw [e] at hs
    exact hs ht.1 next Q (fun S' ι' w' val h1 h2=>hk S' ι' _ _ _ (h1.put hd h2) (ht.2 ht.1))

theorem c0t {ops:Array Oper} {o:Oper} {j:Nat} {want:Bool} (hg:o.guard=some (j,want)) {g:Nat} (hs:a1n ops j=some g) {tmps:Array Value} :
  Region.wanted o (yielded ops tmps)=((match tmps[g]? with|some (.bool b)=>some b|_=>none) == some want):=by
 have:((ops[j]?).bind (·.dst)).bind (tmps[·]?)=tmps[g]?:=by
  have:(ops[j]?).bind (·.dst)=some g:=hs
  rw [this]; rfl
 simp only [Region.wanted,hg,yielded,this]
 rfl

theorem getD_some {l:Array Value} {g:Nat} {v:Value} (h:l.getD g undef=v) (hv:v≠undef):l[g]?=some v:=by
 simp only [Array.getD_eq_getD_getElem?] at h
 cases hl:l[g]? with
 | none=>rw [hl] at h; exact absurd h.symm hv
 | some x=>rw [hl] at h; simp at h; rw [h]

theorem a7z (hE:C2 E B) (hn:B.n=E.nt) (h:RS B S ι s a w) {ops:Array Oper} (o:Oper) {k:St→Tree (E.rs++F3 E.ps)} {L:Code→List Item→St→Prop} {Rt:DL (E.rs++F3 E.ps)→Prop} (ht:(a4q E ops o s k).holds L Rt) {next:Act→World→Prop} {Q:Exit→Act→World→Prop}
  (hk:∀ S' ι' s' a' w',RS B S' ι' s' a' w'→(k s').holds L Rt→next a' w') :
  if Region.wanted o (yielded ops a.tmps) then o.wp E.P a w next Q else next (a.put o.dst undef) w:=by
 unfold a4q at ht
 split at ht
 ·rename_i hg
  simp only [Region.wanted,hg,if_true]
  exact a34 hE hn h o ht hk
 ·rename_i j want hg
  split at ht
  ·exact ht.elim
  ·rename_i g hs
   rw [c0t hg hs]
   have hv:=h.ev (.tmp g)
   split at ht
   ·rename_i vs hgv
    rw [hgv] at hv
    have hv:[a.tmps.getD g undef]=[Value.tuple vs]:=hv
    have hv:a.tmps.getD g undef=.tuple vs:=by simpa using hv
    have hno:((match a.tmps[g]? with|some (.bool b)=>some b|_=>none) == some want)=false:=by
     simp only [Array.getD_eq_getD_getElem?] at hv
     cases hl:a.tmps[g]? with
     | none=>rfl
     | some x=>rw [hl] at hv; simp at hv; rw [hv]; rfl
    rw [hno]
    split at ht
    ·rename_i hd
     rw [← hn] at hd
     exact hk S ι _ _ _ (h.put hd (v:=.raw undef) (val:=undef) (by rfl)) ht
    ·exact ht.elim
   ·rename_i b hgv
    rw [hgv] at hv
    have hb:=VX.a14 hv
    have hsome:=getD_some hb (by simp [undef])
    rw [hsome]
    split at ht
    ·exact ht.elim
    ·rename_i hd
     rw [← hn] at hd
     -- the guard's slot, known
     have hgs:∀ c,b=c→RS B S ι (s.put (some g) (.val .bool c)) a w:=by
      rintro c rfl
      have hlt:g<a.tmps.size:=by
       rcases Nat.lt_or_ge g a.tmps.size with h1|h1
       ·exact h1
       ·rw [Array.getElem?_eq_none h1] at hsome; cases hsome
      have:=h.put (d:=some g) (v:=.val .bool b) (val:=.bool b) (by simp [J4,Nat.blt_eq,← h.sz,hlt]) VX.bool
      have e:a.put (some g) (.bool b)=a:=by
       simp only [Act.put]
       have:a.tmps.setIfInBounds g (.bool b)=a.tmps:=by
        apply Array.ext_getElem?
        intro i
        rw [Array.getElem?_setIfInBounds]
        split
        ·rename_i e; subst e; exact hsome.symm
        ·rfl
       rw [this]
      rw [e] at this
      exact this
     cases b with
     | true =>
      cases want with
      | true=>exact a34 hE hn (hgs true rfl) o ht hk
      | false=>exact hk S ι _ _ _ ((hgs true rfl).put hd (v:=.raw undef) (val:=undef) (by rfl)) ht
     | false =>
      cases want with
      | false=>exact a34 hE hn (hgs false rfl) o ht hk
      | true=>exact hk S ι _ _ _ ((hgs false rfl).put hd (v:=.raw undef) (val:=undef) (by rfl)) ht
   ·exact ht.elim

theorem a9a {P:Program} {T et:TypeId} (h1:P.underlying T=some (.slice et)) (d:Nat) (A:Option Addr) (n c:Nat):(Op.equalIn (d+1) T (.slice A n c) (.slice none 0 0)).run P w=.ok A.isNone w:=by
 cases A<;>simp [Op.equalIn,n9 h1]

theorem c1C (hE:C2 E B) (h:RS B S ι s a w) {o:Oper} {p:Prop} {v1 v2:AV} (hb:brA E s o=some (p,v1,v2)) :
  ∃ val,(execOp a.eval o).run E.P w=.ok (.value val) w∧((p∧VX w.heap S ι s.hp v1 [val])∨VX w.heap S ι s.hp v2 [val]):=by
 unfold brA at hb
 split at hb
 ·rename_i op T x y T' ho
  have key:∀ (b:Bool),(op=.eql∧b=true∨op=.neq∧b=false)→(match s.ev y,look T E.tt with
   | .raw (.slice none 0 0),some ⟨.d0 _ _,_⟩=>(match (s.ev x).els s with
    | some r=>some (r.2=[],AV.val .bool b,AV.val .bool (!b))
    | none=>none)
   | _,_=>none)=some (p,v1,v2)→∃ val,(execOp a.eval o).run E.P w=.ok (.value val) w∧((p∧VX w.heap S ι s.hp v1 [val])∨VX w.heap S ι s.hp v2 [val]):=by
   intro b hop hb
   split at hb
   ·rename_i q u bts hy hT
    split at hb
    ·rename_i r hr
     obtain ⟨t0,l0⟩:=r
     cases hb
     have hy':[a.eval y]=[Value.slice none 0 0]:=x8 h hy
     have hy':a.eval y=.slice none 0 0:=by simpa using hy'
     obtain ⟨A,c,e,hA⟩:=a7m h.hs (h.ev x) hr
     obtain ⟨et,k2,h1,_,_⟩:=E5 (a4n (t:=.d0 q u) (u:=.d0 true u) rfl (p9 hE hT))
     have hg:(eqGuard op T x y (a.eval x) (a.eval y)).run E.P w=.ok () w:=by rw [e,hy']; cases op<;>rfl
     have heq:(Op.equal T (.slice A (List.length l0) c) (.slice none 0 0)).run E.P w=.ok A.isNone w:=a9a h1 9999 A _ c
     have hnone:A=none→l0=[]:=by
      rintro rfl
      rcases hA with h2|⟨b2,off2,O2,h2,_⟩
      ·exact h2
      ·cases h2
     have hfin:∀ n:Bool,(n=A.isNone∧op=.eql∧b=true∨n=(!A.isNone)∧op=.neq∧b=false)→(l0=[]∧VX w.heap S ι s.hp (.val .bool b) [.bool n])∨VX w.heap S ι s.hp (.val .bool (!b)) [.bool n]:=by
      intro n hn
      cases A with
      | none=>rcases hn with ⟨rfl,_,rfl⟩|⟨rfl,_,rfl⟩<;>exact .inl ⟨hnone rfl,VX.bool⟩
      | some A=>rcases hn with ⟨rfl,_,rfl⟩|⟨rfl,_,rfl⟩<;>exact .inr VX.bool
     rcases hop with ⟨rfl,rfl⟩|⟨rfl,rfl⟩
     ·exact ⟨.bool A.isNone,by rw [R3 ho hg (r:=.ok (.bool A.isNone) w)]; rfl; rw [e,hy']; simp [binOp,heq],hfin _ (.inl ⟨rfl,rfl,rfl⟩)⟩
     ·exact ⟨.bool (!A.isNone),by rw [R3 ho hg (r:=.ok (.bool (!A.isNone)) w)]; rfl; rw [e,hy']; simp [binOp,heq],hfin _ (.inr ⟨rfl,rfl,rfl⟩)⟩
    ·cases hb
   ·cases hb
  split at hb
  ·exact key true (.inl ⟨rfl,rfl⟩) hb
  ·exact key false (.inr ⟨rfl,rfl⟩) hb
  ·cases hb
 ·cases hb

end
end Go.Ex
