/- The plain law of snap: bounds that hold after so many moves. -/
import Derived.Test.YtgmbfnlhmnpciaaSnaE
namespace Go.Proofs.Ytgmbfnlhmnpciaa
open Go.Ex
set_option maxRecDepth 100000
def LaneW (k:Nat) (l:LaneD):Prop:=l.1.length≤k∧(∀ x∈l.1,-1≤x∧x≤1000000)∧0≤l.2.2.1∧l.2.2.1≤1000000*(k:Int)
structure GW (n k:Nat) (g:GameD):Prop where
  ln:g.1.length=n
  lh:g.2.1.length=n
  lr:g.2.2.1.length=n
  ll:g.2.2.2.1.length=n
  row:∀ i,i<n→(g.2.2.2.1.getD i []).length=n
  now:∀ i,0≤g.1.getD i 0∧g.1.getD i 0≤1000000*((k:Int)+1)
  lane:∀ i j,LaneW k (laneAt g.2.2.2.1 i j)
theorem LaneW.up {k:Nat} {l:LaneD} (h:LaneW k l):LaneW (k+1) l:=by
  obtain ⟨h1,h2,h3,h4⟩:=h
  exact ⟨by omega,h2,h3,by push_cast; omega⟩
theorem GW.up {n k:Nat} {g:GameD} (h:GW n k g):GW n (k+1) g :=
  ⟨h.ln,h.lh,h.lr,h.ll,h.row,fun i=>by have:=h.now i; push_cast; omega,fun i j=>(h.lane i j).up⟩
theorem GW.sized {n k:Nat} {g:GameD} (h:GW n k g) (hk:k≤900):Sized n g :=
  ⟨h.ln,h.lh,h.lr,h.ll,h.row,fun i j _ _=>by have:=(h.lane i j).1; omega⟩
theorem GW.small {n k:Nat} {g:GameD} (h:GW n k g) (hk:k≤900):Small g :=
  ⟨fun i=>by have:=h.now i; omega,fun i j=>⟨(h.lane i j).2.1,(h.lane i j).2.2.1,by have:=(h.lane i j).2.2.2; omega⟩⟩
theorem GW.put {n k:Nat} {N H:List Int} {R:List Bool} {L:List (List LaneD)} (h:GW n k (N,H,R,L,())) {a b:Nat} (ha:a<n) (hb:b<n) {l:LaneD} (hl:LaneW k l) {N':List Int} (hn:N'.length=n) (hN:∀ i,0≤N'.getD i 0∧N'.getD i 0≤1000000*((k:Int)+1)):GW n k (N',H,R,setLane L a b l,()):=by
  have h4:L.length=n:=h.ll
  have h5:(L.getD a []).length=n:=h.row a ha
  refine ⟨hn,h.lh,h.lr,len_setLane.trans h.ll,fun i hi=>row_setLane.trans (h.row i hi),hN,fun i j=>?_⟩
  show LaneW k (laneAt (setLane L a b l) i j)
  rw [laneAt_set (by omega) (by omega)]
  split
  · exact hl
  · exact h.lane i j
theorem GW.record {n k:Nat} {g:GameD} (h:GW n k g) {p:Nat} (hp:p<n):GW n (k+1) (recF g p):=by
  obtain ⟨N,H,R,L,⟨⟩⟩:=g
  have hd:recF (N,H,R,L,()) p=if R.getD p false=true then (N,H,R,L,()) else (N,H.set p (N.getD p 0),R.set p true,markTo L p N.length,()):=rfl
  rw [hd]
  split
  · exact h.up
  have h1:N.length=n:=h.ln
  have h4:L.length=n:=h.ll
  have h5:(L.getD p []).length=n:=h.row p hp
  refine ⟨h.ln,(List.length_set ..).trans h.lh,(List.length_set ..).trans h.lr,(len_markTo _).trans h.ll,fun i hi=>(row_markTo _).trans (h.row i hi),h.up.now,fun i j=>?_⟩
  show LaneW (k+1) (laneAt (markTo L p N.length) i j)
  rw [laneAt_mark (by omega) i j _ (by omega)]
  split
  · obtain ⟨q1,q2,q3,q4⟩:=h.lane p j
    refine ⟨by rw [List.length_append]; exact Nat.add_le_add_right q1 1,fun x hx=>?_,q3,by have q4:(laneAt L p j).2.2.1≤1000000*(k:Int):=q4; show (laneAt L p j).2.2.1≤_; push_cast; omega⟩
    rcases List.mem_append.1 hx with hx|hx
    · exact q2 x hx
    · rw [List.mem_singleton] at hx; omega
  · exact (h.lane i j).up
theorem getD_in {N:List Int} {i:Nat} {x:Int} {P:Int→Prop} (h:∀ j,P (N.getD j 0)) (hx:P x) (hi:i<N.length):∀ j,P ((N.set i x).getD j 0):=by
  intro j
  rw [getD_set hi]
  split
  · exact hx
  · exact h j
theorem GW.step {n k:Nat} {g:GameD} (h:GW n k g) {m:MoveD} (hm:MvOk n m):GW n (k+1) (mvF g m):=by
  obtain ⟨N,H,R,L,⟨⟩⟩:=g
  obtain ⟨kd,a,b,x,⟨⟩⟩:=m
  obtain ⟨⟨(k0:1≤kd),(k1:kd≤3)⟩,⟨(a0:0≤a),(a1:a<(n:Int))⟩,⟨(b0:0≤b),(b1:b<(n:Int))⟩,⟨(x0:0≤x),(x1:x≤1000000)⟩,-⟩:=hm
  obtain ⟨a,rfl⟩:∃ q:Nat,a=q:=⟨a.toNat,by omega⟩
  obtain ⟨b,rfl⟩:∃ q:Nat,b=q:=⟨b.toNat,by omega⟩
  have hd:mvF (N,H,R,L,()) (kd,a,b,x,())=if kd=1 then (if x≤N.getD a 0 then (N.set a (N.getD a 0 - x),H,R,setLane L a b ((laneAt L a b).1++[x],(laneAt L a b).2),()) else (N,H,R,L,())) else if kd=2 then tkF (N,H,R,L,()) a b else recF (N,H,R,L,()) a:=rfl
  have h1:N.length=n:=h.ln
  have hN:∀ i,0≤N.getD i 0∧N.getD i 0≤1000000*((k:Int)+1):=h.now
  have hN2:∀ i,0≤N.getD i 0∧N.getD i 0≤1000000*(((k+1:Nat):Int)+1):=h.up.now
  obtain ⟨q1,q2,q3,q4⟩:=h.lane a b
  have q1:(laneAt L a b).1.length≤k:=q1
  have q2:∀ x∈(laneAt L a b).1,-1≤x∧x≤1000000:=q2
  have q3:0≤(laneAt L a b).2.2.1:=q3
  have q4:(laneAt L a b).2.2.1≤1000000*(k:Int):=q4
  have ea:a<n:=by omega
  have eb:b<n:=by omega
  rw [hd]
  split
  · split
    · have hl:LaneW (k+1) ((laneAt L a b).1++[x],(laneAt L a b).2):=by
        refine ⟨by show ((laneAt L a b).1++[x]).length≤k+1; rw [List.length_append]; exact Nat.add_le_add_right q1 1,fun y hy=>?_,q3,(h.up.lane a b).2.2.2⟩
        rcases List.mem_append.1 hy with hy|hy
        · exact q2 y hy
        · rw [List.mem_singleton] at hy; omega
      refine h.up.put ea eb hl (by rw [List.length_set]; exact h1) ?_
      exact getD_in (P:=fun y=>0≤y∧y≤1000000*(((k+1:Nat):Int)+1)) hN2 (by have:=hN2 a; omega) (by omega)
    · exact h.up
  · split
    · have hd:tkF (N,H,R,L,()) a b=if (laneAt L a b).1.length=0 then (N,H,R,L,()) else if (laneAt L a b).1.getD 0 0=-1 then tkM N H R L a b else tkN N H R L a b ((laneAt L a b).1.getD 0 0):=rfl
      rw [hd]
      have hdrop:∀ {y:Int},y∈(laneAt L a b).1.drop 1→y∈(laneAt L a b).1:=fun hy=>List.mem_of_mem_drop hy
      split
      · exact h.up
      split
      · have g1:GW n k (N,H,R,setLane L a b ((laneAt L a b).1.drop 1,(laneAt L a b).2),()):=h.put ea eb (l:=((laneAt L a b).1.drop 1,(laneAt L a b).2)) ⟨by show ((laneAt L a b).1.drop 1).length≤k; rw [List.length_drop]; omega,fun y hy=>q2 y (hdrop hy),q3,q4⟩ h1 hN
        have g2:=g1.record (p:=b) eb
        show GW n (k+1) (tkM N H R L a b)
        unfold tkM
        generalize recF (N,H,R,setLane L a b ((laneAt L a b).1.drop 1,(laneAt L a b).2),()) b=g at g2
        obtain ⟨N',H',R',L',⟨⟩⟩:=g
        obtain ⟨r1,r2,r3,r4⟩:=g2.lane a b
        exact g2.put ea eb (l:=((laneAt L' a b).1,true,(laneAt L' a b).2.2)) ⟨r1,r2,r3,r4⟩ g2.ln g2.now
      · rename_i c1 c2
        have hx:=q2 _ (getD_mem (d:=0) (show 0<(laneAt L a b).1.length by omega))
        generalize (laneAt L a b).1.getD 0 0=y at *
        show GW n (k+1) (N.set b (N.getD b 0+y),H,R,setLane L a b ((laneAt L a b).1.drop 1,(laneAt L a b).2.1,if R.getD b false=true∧(laneAt L a b).2.1=false then (laneAt L a b).2.2.1+y else (laneAt L a b).2.2.1,()),())
        refine h.up.put ea eb (l:=((laneAt L a b).1.drop 1,(laneAt L a b).2.1,if R.getD b false=true∧(laneAt L a b).2.1=false then (laneAt L a b).2.2.1+y else (laneAt L a b).2.2.1,())) ⟨by show ((laneAt L a b).1.drop 1).length≤k+1; rw [List.length_drop]; omega,fun z hz=>q2 z (hdrop hz),?_,?_⟩ (by rw [List.length_set]; exact h1) ?_
        · show 0≤(if R.getD b false=true∧(laneAt L a b).2.1=false then (laneAt L a b).2.2.1+y else (laneAt L a b).2.2.1)
          split<;>omega
        · show (if R.getD b false=true∧(laneAt L a b).2.1=false then (laneAt L a b).2.2.1+y else (laneAt L a b).2.2.1)≤_
          push_cast
          split<;>omega
        · exact getD_in (P:=fun y=>0≤y∧y≤1000000*(((k+1:Nat):Int)+1)) hN2 (by have:=hN b; push_cast; omega) (by omega)
    · exact h.record ea
def g0 (v:List Int):GameD:=(v,List.replicate v.length 0,List.replicate v.length false,List.replicate v.length (List.replicate v.length l0),())
def mvsF (g:GameD) (l:List MoveD):Nat→GameD
  | 0=>g
  | k+1=>mvF (mvsF g l k) (l.getD k m0)
theorem GW.zero {v:List Int} (hv:∀ i,0≤v.getD i 0∧v.getD i 0≤1000000):GW v.length 0 (g0 v):=by
  refine ⟨rfl,List.length_replicate,List.length_replicate,List.length_replicate,fun i hi=>?_,fun i=>by have:=hv i; show 0≤v.getD i 0∧v.getD i 0≤_; omega,fun i j=>?_⟩
  · show ((List.replicate v.length (List.replicate v.length l0)).getD i []).length=_
    rw [List.getD_eq_getElem?_getD,List.getElem?_replicate,if_pos hi]; simp
  · have:laneAt (g0 v).2.2.2.1 i j=l0:=by
      show ((List.replicate v.length (List.replicate v.length l0)).getD i []).getD j l0=l0
      rw [List.getD_eq_getElem?_getD (l:=List.replicate v.length (List.replicate v.length l0)),List.getElem?_replicate]
      split
      · rw [Option.getD_some,List.getD_eq_getElem?_getD,List.getElem?_replicate]; split<;>rfl
      · rfl
    rw [this]
    exact ⟨Nat.le_refl _,fun x hx=>(by cases hx),Int.le_refl _,Int.le_refl _⟩
theorem snE_ok {v:List Int} {l:List MoveD} (h:snE v l=0):(1≤v.length∧v.length≤6)∧l.length≤200∧(∀ i,0≤v.getD i 0∧v.getD i 0≤1000000)∧∀ k,k<l.length→MvOk v.length (l.getD k m0):=by
  have hd:snE v l=if inF v.length 1 6=false then 1 else if 200<l.length then 2 else if v.any badH=true then 1 else fstE (fun k=>mvE v.length (l.getD k m0)) l.length:=rfl
  rw [hd] at h
  split at h
  · cases h
  rename_i c1
  split at h
  · cases h
  rename_i c2
  split at h
  · cases h
  rename_i c3
  have c1:=inF_iff.1 (by simpa using c1)
  refine ⟨by omega,by omega,fun i=>?_,fun k hk=>?_⟩
  · by_cases hi:i<v.length
    · have:badH (v.getD i 0)=false:=by
        cases hb:badH (v.getD i 0) with
        | false=>rfl
        | true=>exact absurd (List.any_eq_true.2 ⟨_,getD_mem hi,hb⟩) c3
      have:inF (v.getD i 0) 0 1000000=true:=by simpa [badH] using this
      exact inF_iff.1 this
    · rw [List.getD_eq_getElem?_getD,List.getElem?_eq_none (by omega)]; decide
  · have hm:=fstE_zero.1 h k hk
    generalize l.getD k m0=m at *
    have hm:(if inF m.1 1 3=false∨inF m.2.1 0 (v.length - 1)=false∨inF m.2.2.1 0 (v.length - 1)=false∨inF m.2.2.2.1 0 1000000=false then 1 else if m.2.1=m.2.2.1∧m.1≠3 then 4 else 0:Int)=0:=hm
    split at hm
    · cases hm
    rename_i d1
    split at hm
    · cases hm
    rename_i d2
    simp only [not_or,Bool.not_eq_false,inF_iff] at d1
    obtain ⟨d3,d4,d5,d6⟩:=d1
    exact ⟨d3,by omega,by omega,d6,fun e=>Decidable.not_not.1 (fun h=>d2 ⟨e,h⟩)⟩
theorem GW.moves {v:List Int} {l:List MoveD} (h:snE v l=0):∀ k,k≤l.length→GW v.length k (mvsF (g0 v) l k)
  | 0,_=>GW.zero (snE_ok h).2.2.1
  | k+1,hk=>(GW.moves h k (by omega)).step ((snE_ok h).2.2.2 k (by omega))
end Go.Proofs.Ytgmbfnlhmnpciaa
