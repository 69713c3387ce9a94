/- SnapSum. -/
import Derived.Test.YtgmbfnlhmnpciaaSnaR
import Derived.Test.YtgmbfnlhmnpciaaSnaF
namespace Go.Proofs.Ytgmbfnlhmnpciaa
open Go.Ex
set_option maxRecDepth 100000
def sumTo (l:List Int) (i:Nat):Int:=sm (fun i=>l.getD i 0) i
theorem sumTo_le {l:List Int} (h:∀ i,0≤l.getD i 0∧l.getD i 0≤1000000000):∀ i,0≤sumTo l i∧sumTo l i≤1000000000*(i:Int)
  | 0=>by simp [sumTo,sm]
  | i+1=>by
    have h1:=sumTo_le h i
    have h2:=h i
    unfold sumTo at *
    rw [sm]; push_cast; omega
def HB (k:Nat) (g:GameD):Prop:=∀ i,0≤g.2.1.getD i 0∧g.2.1.getD i 0≤1000000*((k:Int)+1)
theorem HB.up {k:Nat} {g:GameD} (h:HB k g):HB (k+1) g:=fun i=>by have:=h i; push_cast; omega
theorem HB.record {n k:Nat} {g:GameD} (h:HB k g) (hg:GW n k g) {p:Nat} (hp:p<n):HB k (recF g p):=by
  obtain ⟨N,H,R,L,⟨⟩⟩:=g
  have hd:recF (N,H,R,L,()) p=if R.getD p false=true then (N,H,R,L,()) else (N,H.set p (N.getD p 0),R.set p true,markTo L p N.length,()):=rfl
  rw [hd]
  split
  · exact h
  · intro i
    exact getD_in (P:=fun y=>0≤y∧y≤1000000*((k:Int)+1)) (N:=H) h (hg.now p) (by have:H.length=n:=hg.lh; omega) i
theorem HB.step {n k:Nat} {g:GameD} (h:HB k g) (hg:GW n k g) {m:MoveD} (hm:MvOk n m):HB (k+1) (mvF g m):=by
  obtain ⟨N,H,R,L,⟨⟩⟩:=g
  obtain ⟨kd,a,b,x,⟨⟩⟩:=m
  obtain ⟨-,⟨(a0:0≤a),(a1:a<(n:Int))⟩,⟨(b0:0≤b),(b1:b<(n:Int))⟩,-,-⟩:=hm
  have hd:mvF (N,H,R,L,()) (kd,a,b,x,())=if kd=1 then (if x≤N.getD a.toNat 0 then (N.set a.toNat (N.getD a.toNat 0 - x),H,R,setLane L a.toNat b.toNat ((laneAt L a.toNat b.toNat).1++[x],(laneAt L a.toNat b.toNat).2),()) else (N,H,R,L,())) else if kd=2 then tkF (N,H,R,L,()) a.toNat b.toNat else recF (N,H,R,L,()) a.toNat:=rfl
  have hd2:tkF (N,H,R,L,()) a.toNat b.toNat=if (laneAt L a.toNat b.toNat).1.length=0 then (N,H,R,L,()) else if (laneAt L a.toNat b.toNat).1.getD 0 0=-1 then tkM N H R L a.toNat b.toNat else tkN N H R L a.toNat b.toNat ((laneAt L a.toNat b.toNat).1.getD 0 0):=rfl
  rw [hd]
  split
  · split
    · exact h.up
    · exact h.up
  · split
    · rw [hd2]
      split
      · exact h.up
      split
      · have hc:(recF (N,H,R,setLane L a.toNat b.toNat ((laneAt L a.toNat b.toNat).1.drop 1,(laneAt L a.toNat b.toNat).2),()) b.toNat).2.1=(recF (N,H,R,L,()) b.toNat).2.1:=by
          have hd3:∀ L,recF (N,H,R,L,()) b.toNat=if R.getD b.toNat false=true then (N,H,R,L,()) else (N,H.set b.toNat (N.getD b.toNat 0),R.set b.toNat true,markTo L b.toNat N.length,()):=fun _=>rfl
          rw [hd3,hd3]
          split<;>rfl
        intro i
        have:=(h.record hg (p:=b.toNat) (by omega)).up i
        show 0≤(recF (N,H,R,setLane L a.toNat b.toNat ((laneAt L a.toNat b.toNat).1.drop 1,(laneAt L a.toNat b.toNat).2),()) b.toNat).2.1.getD i 0∧_
        exact hc▸this
      · exact h.up
    · exact (h.record hg (by omega)).up
theorem sm_zero:∀ n,sm (fun _=>0) n=0
  | 0=>rfl
  | n+1=>by rw [sm,sm_zero n]; rfl
theorem lane_zero {v:List Int} (i j:Nat):laneAt (g0 v).2.2.2.1 i j=l0:=by
  show ((List.replicate v.length (List.replicate v.length l0)).getD i []).getD j l0=l0
  rw [List.getD_eq_getElem?_getD (l:=List.replicate v.length (List.replicate v.length l0)),List.getElem?_replicate]
  split
  · rw [Option.getD_some,List.getD_eq_getElem?_getD,List.getElem?_replicate]; split<;>rfl
  · rfl
theorem rec_zero {n i:Nat}:(List.replicate n false).getD i false=false:=by
  rw [List.getD_eq_getElem?_getD,List.getElem?_replicate]; split<;>rfl
theorem SI.zero {v:List Int}:SIg v.length (sumTo v v.length) (g0 v):=by
  have e2:∀ F:LaneD→Int,F l0=0→sm2 (fun i j=>F (laneAt (g0 v).2.2.2.1 i j)) v.length=0:=fun F hF=>by
    unfold sm2
    simp only [lane_zero,hF,sm_zero]
  refine ⟨?_,?_,?_,?_,fun i _=>lane_zero i i⟩
  · rw [e2 (fun l=>ws l.1) rfl,Int.add_zero]; rfl
  · rw [e2 lp rfl,Int.add_zero]
    refine sm_congr (fun i _=>?_)
    show (if (List.replicate v.length false).getD i false=true then _ else v.getD i 0)=_
    rw [rec_zero]; rfl
  · intro i j _ _ _
    rw [lane_zero]
    exact ⟨⟨fun h=>(by cases h),fun h=>by have h1:(List.replicate v.length false).getD i false=true:=h.1; rw [rec_zero] at h1; cases h1⟩,by decide⟩
  · intro i j _ _ _ h
    rw [lane_zero] at h; cases h
theorem SI.moves {v:List Int} {l:List MoveD} (h:snE v l=0):∀ k,k≤l.length→SIg v.length (sumTo v v.length) (mvsF (g0 v) l k)
  | 0,_=>SI.zero
  | k+1,hk=>SI.step (SI.moves h k (by omega)) (GW.moves h k (by omega)) ((snE_ok h).2.2.2 k (by omega))
theorem HB.moves {v:List Int} {l:List MoveD} (h:snE v l=0):∀ k,k≤l.length→HB k (mvsF (g0 v) l k)
  | 0,_=>fun i=>by
    have:(g0 v).2.1.getD i 0=0:=by
      show (List.replicate v.length (0:Int)).getD i 0=0
      rw [List.getD_eq_getElem?_getD,List.getElem?_replicate]; split<;>rfl
    show 0≤(g0 v).2.1.getD i 0∧(g0 v).2.1.getD i 0≤_
    rw [this]; decide
  | k+1,hk=>HB.step (HB.moves h k (by omega)) (GW.moves h k (by omega)) ((snE_ok h).2.2.2 k (by omega))
-- the picture
theorem undF_ws {u:Int}:∀ {w:List Int} {k:Nat},k≤w.length→undF u w k=u+ws (w.take k)
  | w,0,_=>by simp [undF,ws]
  | w,k+1,hk=>by
    rw [undF,undF_ws (w:=w) (by omega),List.take_add_one,List.getElem?_eq_getElem (by omega),List.getD_eq_getElem?_getD,List.getElem?_eq_getElem (by omega),Option.toList_some,ws_app,Option.getD_some]
    omega
theorem rowS_und {r:List LaneD} {p:Nat} {s:Bool×Int}:∀ j,(rowS r p s j).2.2=s.2+sm (fun j=>ws (r.getD j l0).1) j
  | 0=>by simp [rowS,sm]
  | j+1=>by
    rw [rowS,sm]
    show undF _ _ _=_
    rw [undF_ws (Nat.le_refl _),List.take_length,rowS_und j]; omega
theorem rowS_all {r:List LaneD} {p:Nat} {s:Bool×Int}:∀ j,(rowS r p s j).2.1=true→s.1=true∧∀ q,q<j→p=q∨(r.getD q l0).2.1=true
  | 0,h=>⟨h,fun _ h=>by omega⟩
  | j+1,h=>by
    rw [rowS] at h
    simp only [Bool.and_eq_true,Bool.or_eq_true,decide_eq_true_eq] at h
    obtain ⟨h1,h2⟩:=rowS_all j h.1
    refine ⟨h1,fun q hq=>?_⟩
    by_cases e:q=j
    · subst e; exact h.2
    · exact h2 q (by omega)
theorem rowS_row {r:List LaneD} {p:Nat} {s:Bool×Int}:∀ {j q:Nat},q<j→(rowS r p s j).1.getD q 0=(r.getD q l0).2.2.1
  | j+1,q,h=>by
    rw [rowS]
    show ((rowS r p s j).1++[(r.getD j l0).2.2.1]).getD q 0=_
    rw [List.getD_eq_getElem?_getD]
    by_cases e:q=j
    · subst e
      rw [List.getElem?_append_right (by rw [rowS_len]; omega),rowS_len,Nat.sub_self]; rfl
    · rw [List.getElem?_append_left (by rw [rowS_len]; omega),← List.getD_eq_getElem?_getD]
      exact rowS_row (by omega)
theorem picS_und {L:List (List LaneD)} {w:Bool} {n:Nat} (hr:∀ i,i<n→(L.getD i []).length=n):∀ i,i≤n→(picS L w i).2.2=sm (fun i=>sm (fun j=>ws (laneAt L i j).1) n) i
  | 0,_=>rfl
  | i+1,hi=>by
    rw [picS,sm]
    show (rowS _ _ _ _).2.2=_
    rw [rowS_und,hr i (by omega),picS_und hr i (by omega)]; rfl
theorem picS_all {L:List (List LaneD)} {w:Bool} {n:Nat} (hr:∀ i,i<n→(L.getD i []).length=n):∀ i,i≤n→(picS L w i).2.1=true→w=true∧∀ p q,p<i→q<n→p=q∨(laneAt L p q).2.1=true
  | 0,_,h=>⟨h,fun _ _ h=>by omega⟩
  | i+1,hi,h=>by
    rw [picS] at h
    have h:(rowS (L.getD i []) i (picS L w i).2 (L.getD i []).length).2.1=true:=h
    obtain ⟨h1,h2⟩:=rowS_all _ h
    rw [hr i (by omega)] at h2
    obtain ⟨h3,h4⟩:=picS_all hr i (by omega) h1
    refine ⟨h3,fun p q hp hq=>?_⟩
    by_cases e:p=i
    · subst e; exact h2 q hq
    · exact h4 p q (by omega) hq
theorem picS_row {L:List (List LaneD)} {w:Bool} {n:Nat} (hr:∀ i,i<n→(L.getD i []).length=n):∀ {i p:Nat},i≤n→p<i→((picS L w i).1.getD p []).length=n∧∀ q,q<n→((picS L w i).1.getD p []).getD q 0=(laneAt L p q).2.2.1
  | i+1,p,hi,hp=>by
    rw [picS]
    show (((picS L w i).1++[(rowS (L.getD i []) i (picS L w i).2 (L.getD i []).length).1]).getD p []).length=n∧∀ q,q<n→(((picS L w i).1++[(rowS (L.getD i []) i (picS L w i).2 (L.getD i []).length).1]).getD p []).getD q 0=_
    rw [List.getD_eq_getElem?_getD]
    by_cases e:p=i
    · subst e
      rw [List.getElem?_append_right (by rw [picS_len]; omega),picS_len,Nat.sub_self]
      show (rowS (L.getD p []) p (picS L w p).2 (L.getD p []).length).1.length=n∧∀ q,q<n→(rowS (L.getD p []) p (picS L w p).2 (L.getD p []).length).1.getD q 0=_
      rw [rowS_len,hr p (by omega)]
      exact ⟨rfl,fun q hq=>rowS_row hq⟩
    · rw [List.getElem?_append_left (by rw [picS_len]; omega),← List.getD_eq_getElem?_getD]
      exact picS_row hr (by omega) (by omega)
end Go.Proofs.Ytgmbfnlhmnpciaa
