/- The plain law of SnapFront: what is recorded stays, and totals never go back. -/
import Derived.Test.YtegigiecamjobaaSnaS
namespace Go.Proofs.Ytegigiecamjobaa
open Go.Ex
set_option maxRecDepth 100000
structure Kp (n:Nat) (g g':GameD):Prop where
  rec_:∀ i,g.2.2.1.getD i false=true→g'.2.2.1.getD i false=true∧g'.2.1.getD i 0=g.2.1.getD i 0
  tot:∀ i j,i<n→j<n→(laneAt g.2.2.2.1 i j).2.2.1≤(laneAt g'.2.2.2.1 i j).2.2.1
  shut:∀ i j,i<n→j<n→(laneAt g.2.2.2.1 i j).2.1=true→(laneAt g'.2.2.2.1 i j).2.1=true∧(laneAt g'.2.2.2.1 i j).2.2.1=(laneAt g.2.2.2.1 i j).2.2.1
theorem Kp.refl {n:Nat} {g:GameD}:Kp n g g:=⟨fun _ h=>⟨h,rfl⟩,fun _ _ _ _=>Int.le_refl _,fun _ _ _ _ h=>⟨h,rfl⟩⟩
theorem Kp.trans {n:Nat} {a b c:GameD} (h:Kp n a b) (h2:Kp n b c):Kp n a c :=
  ⟨fun i hi=>⟨(h2.rec_ i (h.rec_ i hi).1).1,(h2.rec_ i (h.rec_ i hi).1).2.trans (h.rec_ i hi).2⟩,fun i j hi hj=>Int.le_trans (h.tot i j hi hj) (h2.tot i j hi hj),
   fun i j hi hj hc=>⟨(h2.shut i j hi hj (h.shut i j hi hj hc).1).1,(h2.shut i j hi hj (h.shut i j hi hj hc).1).2.trans (h.shut i j hi hj hc).2⟩⟩
theorem Kp.lanes {n:Nat} {N H N':List Int} {R:List Bool} {L L':List (List LaneD)} (h:∀ i j,i<n→j<n→(laneAt L i j).2.2.1≤(laneAt L' i j).2.2.1∧((laneAt L i j).2.1=true→(laneAt L' i j).2.1=true∧(laneAt L' i j).2.2.1=(laneAt L i j).2.2.1)):Kp n (N,H,R,L,()) (N',H,R,L',()) :=
  ⟨fun _ h=>⟨h,rfl⟩,fun i j hi hj=>(h i j hi hj).1,fun i j hi hj=>(h i j hi hj).2⟩
theorem Kp.put {n k:Nat} {N H N':List Int} {R:List Bool} {L:List (List LaneD)} (hg:GW n k (N,H,R,L,())) {a b:Nat} (ha:a<n) (hb:b<n) {l:LaneD} (h1:(laneAt L a b).2.2.1≤l.2.2.1) (h2:(laneAt L a b).2.1=true→l.2.1=true∧l.2.2.1=(laneAt L a b).2.2.1):Kp n (N,H,R,L,()) (N',H,R,setLane L a b l,()):=by
  refine Kp.lanes (fun i j hi hj=>?_)
  have h4:L.length=n:=hg.ll
  have h5:(L.getD a []).length=n:=hg.row a ha
  rw [laneAt_set (by omega) (by omega)]
  by_cases c:i=a∧j=b
  · obtain ⟨rfl,rfl⟩:=c
    rw [if_pos ⟨rfl,rfl⟩]; exact ⟨h1,h2⟩
  · rw [if_neg c]; exact ⟨Int.le_refl _,fun h=>⟨h,rfl⟩⟩
theorem Kp.record {n k:Nat} {g:GameD} (hg:GW n k g) {p:Nat} (hp:p<n):Kp n g (recF g p):=by
  obtain ⟨N,H,R,L,⟨⟩⟩:=g
  have hd:recF (N,H,R,L,()) p=if R.getD p false=true then (N,H,R,L,()) else (N,H.set p (N.getD p 0),R.set p true,markTo L p N.length,()):=rfl
  rw [hd]
  split
  · exact Kp.refl
  rename_i hr
  have h1:N.length=n:=hg.ln
  have h2:H.length=n:=hg.lh
  have h3:R.length=n:=hg.lr
  have h4:L.length=n:=hg.ll
  have h5:(L.getD p []).length=n:=hg.row p hp
  have hm:∀ i j,(laneAt (markTo L p N.length) i j).2=(laneAt L i j).2:=fun i j=>by
    rw [laneAt_mark (by omega) i j N.length (by omega)]
    split
    · rename_i c; rw [c.1]
    · rfl
  refine ⟨fun i hi=>?_,fun i j _ _=>?_,fun i j _ _=>?_⟩
  · have hi:R.getD i false=true:=hi
    have hne:i≠p:=fun e=>hr (by rw [← e]; exact hi)
    show (R.set p true).getD i false=true∧(H.set p (N.getD p 0)).getD i 0=H.getD i 0
    rw [getD_set (by omega),getD_set (by omega),if_neg hne,if_neg hne]
    exact ⟨hi,rfl⟩
  · show (laneAt L i j).2.2.1≤(laneAt (markTo L p N.length) i j).2.2.1
    rw [hm]; exact Int.le_refl _
  · show (laneAt L i j).2.1=true→(laneAt (markTo L p N.length) i j).2.1=true∧(laneAt (markTo L p N.length) i j).2.2.1=(laneAt L i j).2.2.1
    rw [hm]; exact fun h=>⟨h,rfl⟩
theorem Kp.step {n k:Nat} {g:GameD} (hg:GW n k g) {m:MoveD} (hm:MvOk n m):Kp n g (mvF g m):=by
  obtain ⟨N,H,R,L,⟨⟩⟩:=g
  obtain ⟨kd,a,b,x,⟨⟩⟩:=m
  obtain ⟨⟨(k0:1≤kd),(k1:kd≤3)⟩,⟨(a0:0≤a),(a1:a<(n:Int))⟩,⟨(b0:0≤b),(b1:b<(n:Int))⟩,⟨(x0:0≤x),(x1:x≤1000000)⟩,-⟩:=hm
  obtain ⟨a,rfl⟩:∃ q:Nat,a=q:=⟨a.toNat,by omega⟩
  obtain ⟨b,rfl⟩:∃ q:Nat,b=q:=⟨b.toNat,by omega⟩
  have hd:mvF (N,H,R,L,()) (kd,a,b,x,())=if kd=1 then (if x≤N.getD a 0 then (N.set a (N.getD a 0 - x),H,R,setLane L a b ((laneAt L a b).1++[x],(laneAt L a b).2),()) else (N,H,R,L,())) else if kd=2 then tkF (N,H,R,L,()) a b else recF (N,H,R,L,()) a:=rfl
  have ea:a<n:=by omega
  have eb:b<n:=by omega
  have q2:∀ x∈(laneAt L a b).1,-1≤x∧x≤1000000:=(hg.lane a b).2.1
  rw [hd]
  split
  · split
    · exact Kp.put hg ea eb (Int.le_refl _) (fun h=>⟨h,rfl⟩)
    · exact Kp.refl
  · split
    · have hd:tkF (N,H,R,L,()) a b=if (laneAt L a b).1.length=0 then (N,H,R,L,()) else if (laneAt L a b).1.getD 0 0=-1 then tkM N H R L a b else tkN N H R L a b ((laneAt L a b).1.getD 0 0):=rfl
      rw [hd]
      split
      · exact Kp.refl
      split
      · have g1:GW n k (N,H,R,setLane L a b ((laneAt L a b).1.drop 1,(laneAt L a b).2),()):=hg.put ea eb (l:=((laneAt L a b).1.drop 1,(laneAt L a b).2)) (by
          obtain ⟨r1,r2,r3,r4⟩:=hg.lane a b
          exact ⟨by show ((laneAt L a b).1.drop 1).length≤k; rw [List.length_drop]; have r1:(laneAt L a b).1.length≤k:=r1; omega,fun y hy=>r2 y (List.mem_of_mem_drop hy),r3,r4⟩) hg.ln hg.now
        have s1:Kp n (N,H,R,L,()) (N,H,R,setLane L a b ((laneAt L a b).1.drop 1,(laneAt L a b).2),()):=Kp.put hg ea eb (Int.le_refl _) (fun h=>⟨h,rfl⟩)
        have s2:=Kp.record g1 (p:=b) eb
        have g2:=g1.record (p:=b) eb
        refine (s1.trans s2).trans ?_
        show Kp n _ (tkM N H R L a b)
        unfold tkM
        generalize recF (N,H,R,setLane L a b ((laneAt L a b).1.drop 1,(laneAt L a b).2),()) b=g at g2
        obtain ⟨N',H',R',L',⟨⟩⟩:=g
        exact Kp.put g2 ea eb (Int.le_refl _) (fun _=>⟨rfl,rfl⟩)
      · rename_i c1 c2
        have hx:=q2 _ (getD_mem (d:=0) (show 0<(laneAt L a b).1.length by omega))
        generalize (laneAt L a b).1.getD 0 0=y at *
        show Kp n _ (N.set b (N.getD b 0+y),H,R,setLane L a b ((laneAt L a b).1.drop 1,(laneAt L a b).2.1,if R.getD b false=true∧(laneAt L a b).2.1=false then (laneAt L a b).2.2.1+y else (laneAt L a b).2.2.1,()),())
        refine Kp.put hg ea eb ?_ (fun h=>⟨h,?_⟩)
        · show _≤(if R.getD b false=true∧(laneAt L a b).2.1=false then (laneAt L a b).2.2.1+y else (laneAt L a b).2.2.1)
          split<;>omega
        · show (if R.getD b false=true∧(laneAt L a b).2.1=false then (laneAt L a b).2.2.1+y else (laneAt L a b).2.2.1)=_
          rw [if_neg (fun e=>by rw [e.2] at h; cases h)]
    · exact Kp.record hg ea
theorem Kp.moves {v:List Int} {l:List MoveD} (h:snE v l=0) {k:Nat}:∀ d,k+d≤l.length→Kp v.length (mvsF (g0 v) l k) (mvsF (g0 v) l (k+d))
  | 0,_=>Kp.refl
  | d+1,hd=>(Kp.moves h d (by omega)).trans (Kp.step (GW.moves h (k+d) (by omega)) ((snE_ok h).2.2.2 (k+d) (by omega)))
theorem getD_app {α:Type} {a b:List α} {i:Nat} {d:α} (h:i<a.length):(a++b).getD i d=a.getD i d:=by
  rw [List.getD_eq_getElem?_getD,List.getD_eq_getElem?_getD,List.getElem?_append_left h]
theorem mvs_app {g:GameD} {a b:List MoveD}:∀ {k:Nat},k≤a.length→mvsF g (a++b) k=mvsF g a k
  | 0,_=>rfl
  | k+1,hk=>by rw [mvsF,mvsF,mvs_app (by omega),getD_app (by omega)]
def H0 (g:GameD):Prop:=∀ i,g.2.2.1.getD i false=false→g.2.1.getD i 0=0
theorem H0.record {n k:Nat} {g:GameD} (h:H0 g) (hg:GW n k g) {p:Nat} (hp:p<n):H0 (recF g p):=by
  obtain ⟨N,H,R,L,⟨⟩⟩:=g
  have hd:recF (N,H,R,L,()) p=if R.getD p false=true then (N,H,R,L,()) else (N,H.set p (N.getD p 0),R.set p true,markTo L p N.length,()):=rfl
  rw [hd]
  split
  · exact h
  · intro i
    have h2:H.length=n:=hg.lh
    have h3:R.length=n:=hg.lr
    show (R.set p true).getD i false=false→(H.set p (N.getD p 0)).getD i 0=0
    rw [getD_set (by omega),getD_set (by omega)]
    by_cases c:i=p
    · rw [if_pos c]; exact fun e=>by cases e
    · rw [if_neg c,if_neg c]; exact h i
theorem rec_same {N H:List Int} {R:List Bool} {L L':List (List LaneD)} {p:Nat}:(recF (N,H,R,L,()) p).1=(recF (N,H,R,L',()) p).1∧(recF (N,H,R,L,()) p).2.1=(recF (N,H,R,L',()) p).2.1∧(recF (N,H,R,L,()) p).2.2.1=(recF (N,H,R,L',()) p).2.2.1:=by
  have hd2:∀ L,recF (N,H,R,L,()) p=if R.getD p false=true then (N,H,R,L,()) else (N,H.set p (N.getD p 0),R.set p true,markTo L p N.length,()):=fun _=>rfl
  rw [hd2,hd2]
  split<;>exact ⟨rfl,rfl,rfl⟩
theorem H0.step {n k:Nat} {g:GameD} (h:H0 g) (hg:GW n k g) {m:MoveD} (hm:MvOk n m):H0 (mvF g m):=by
  obtain ⟨N,H,R,L,⟨⟩⟩:=g
  obtain ⟨kd,a,b,x,⟨⟩⟩:=m
  obtain ⟨-,⟨(a0:0≤a),(a1:a<(n:Int))⟩,⟨(b0:0≤b),(b1:b<(n:Int))⟩,-,-⟩:=hm
  have hd:mvF (N,H,R,L,()) (kd,a,b,x,())=if kd=1 then (if x≤N.getD a.toNat 0 then (N.set a.toNat (N.getD a.toNat 0 - x),H,R,setLane L a.toNat b.toNat ((laneAt L a.toNat b.toNat).1++[x],(laneAt L a.toNat b.toNat).2),()) else (N,H,R,L,())) else if kd=2 then tkF (N,H,R,L,()) a.toNat b.toNat else recF (N,H,R,L,()) a.toNat:=rfl
  have hd2:tkF (N,H,R,L,()) a.toNat b.toNat=if (laneAt L a.toNat b.toNat).1.length=0 then (N,H,R,L,()) else if (laneAt L a.toNat b.toNat).1.getD 0 0=-1 then tkM N H R L a.toNat b.toNat else tkN N H R L a.toNat b.toNat ((laneAt L a.toNat b.toNat).1.getD 0 0):=rfl
  rw [hd]
  split
  · split
    · exact h
    · exact h
  · split
    · rw [hd2]
      split
      · exact h
      split
      · obtain ⟨-,c2,c3⟩:=rec_same (N:=N) (H:=H) (R:=R) (L:=setLane L a.toNat b.toNat ((laneAt L a.toNat b.toNat).1.drop 1,(laneAt L a.toNat b.toNat).2)) (L':=L) (p:=b.toNat)
        intro i
        have:=h.record hg (p:=b.toNat) (by omega) i
        show (recF (N,H,R,setLane L a.toNat b.toNat ((laneAt L a.toNat b.toNat).1.drop 1,(laneAt L a.toNat b.toNat).2),()) b.toNat).2.2.1.getD i false=false→(recF (N,H,R,setLane L a.toNat b.toNat ((laneAt L a.toNat b.toNat).1.drop 1,(laneAt L a.toNat b.toNat).2),()) b.toNat).2.1.getD i 0=0
        rw [c2,c3]; exact this
      · exact h
    · exact h.record hg (by omega)
theorem H0.moves {v:List Int} {l:List MoveD} (h:snE v l=0):∀ k,k≤l.length→H0 (mvsF (g0 v) l k)
  | 0,_=>fun i _=>by
    show (List.replicate v.length (0:Int)).getD i 0=0
    rw [List.getD_eq_getElem?_getD,List.getElem?_replicate]; split<;>rfl
  | k+1,hk=>H0.step (H0.moves h k (by omega)) (GW.moves h k (by omega)) ((snE_ok h).2.2.2 k (by omega))
theorem rowS_yes {r:List LaneD} {p:Nat} {s:Bool×Int} (hs:s.1=true):∀ j,(∀ q,q<j→p=q∨(r.getD q l0).2.1=true)→(rowS r p s j).2.1=true
  | 0,_=>hs
  | j+1,h=>by
    rw [rowS]
    simp only [Bool.and_eq_true,Bool.or_eq_true,decide_eq_true_eq]
    exact ⟨rowS_yes hs j (fun q hq=>h q (by omega)),h j (by omega)⟩
theorem picS_yes {L:List (List LaneD)} {n:Nat} (hr:∀ i,i<n→(L.getD i []).length=n):∀ i,i≤n→(∀ p q,p<i→q<n→p=q∨(laneAt L p q).2.1=true)→(picS L true i).2.1=true
  | 0,_,_=>rfl
  | i+1,hi,h=>by
    rw [picS]
    show (rowS (L.getD i []) i (picS L true i).2 (L.getD i []).length).2.1=true
    refine rowS_yes (picS_yes hr i (by omega) (fun p q hp hq=>h p q (by omega) hq)) _ (fun q hq=>?_)
    rw [hr i (by omega)] at hq
    exact h i q (by omega) hq
theorem snap_front {v:List Int} {a b:List MoveD} (h1:snE v a=0) (h2:snE v (a++b)=0) :
    (∀ i,i<v.length→0<(picF (mvsF (g0 v) a a.length)).1.getD i 0→(picF (mvsF (g0 v) (a++b) (a++b).length)).1.getD i 0=(picF (mvsF (g0 v) a a.length)).1.getD i 0) ∧
    (∀ i k,i<v.length→k<v.length→((picF (mvsF (g0 v) a a.length)).2.1.getD i []).getD k 0≤((picF (mvsF (g0 v) (a++b) (a++b).length)).2.1.getD i []).getD k 0) ∧
    ((picF (mvsF (g0 v) a a.length)).2.2.1=true→(picF (mvsF (g0 v) (a++b) (a++b).length)).2.2.1=true∧(picF (mvsF (g0 v) a a.length)).2.1=(picF (mvsF (g0 v) (a++b) (a++b).length)).2.1):=by
  have hk:Kp v.length (mvsF (g0 v) a a.length) (mvsF (g0 v) (a++b) (a++b).length):=by
    have:=Kp.moves h2 (k:=a.length) b.length (by rw [List.length_append]; omega)
    rw [mvs_app (Nat.le_refl _),← List.length_append] at this
    exact this
  have hH:=H0.moves h1 a.length (Nat.le_refl _)
  have g1:=GW.moves h1 a.length (Nat.le_refl _)
  have g2:=GW.moves h2 (a++b).length (Nat.le_refl _)
  have s1:=SI.moves h1 a.length (Nat.le_refl _)
  have s2:=SI.moves h2 (a++b).length (Nat.le_refl _)
  generalize mvsF (g0 v) a a.length=g at *
  generalize mvsF (g0 v) (a++b) (a++b).length=g' at *
  obtain ⟨N,H,R,L,⟨⟩⟩:=g
  obtain ⟨N',H',R',L',⟨⟩⟩:=g'
  have l1:L.length=v.length:=g1.ll
  have l2:L'.length=v.length:=g2.ll
  have t1:R.length=v.length:=g1.lr
  have t2:R'.length=v.length:=g2.lr
  have r1:∀ i,i<v.length→(L.getD i []).length=v.length:=g1.row
  have r2:∀ i,i<v.length→(L'.getD i []).length=v.length:=g2.row
  have hd:∀ N H R L,picF (N,H,R,L,())=(H,(picS L (!decide (false∈R)) L.length).1,(picS L (!decide (false∈R)) L.length).2.1,N,(picS L (!decide (false∈R)) L.length).2.2,()):=fun _ _ _ _=>rfl
  rw [hd,hd]
  dsimp only
  rw [l1,l2]
  have e1:=fun i (hi:i<v.length)=>picS_row (w:=!decide (false∈R)) r1 (Nat.le_refl _) hi
  have e2:=fun i (hi:i<v.length)=>picS_row (w:=!decide (false∈R')) r2 (Nat.le_refl _) hi
  refine ⟨fun i hi hp=>?_,fun i k hi hk'=>?_,fun hw=>?_⟩
  · refine (hk.rec_ i ?_).2
    show R.getD i false=true
    cases e:R.getD i false with
    | true=>rfl
    | false=>have:H.getD i 0=0:=hH i e; omega
  · rw [(e1 i hi).2 k hk',(e2 i hi).2 k hk']
    exact hk.tot i k hi hk'
  · obtain ⟨w1,w2⟩:=picS_all r1 _ (Nat.le_refl _) hw
    have hR:∀ i,i<v.length→R.getD i false=true:=by
      intro i hi
      cases e:R.getD i false with
      | true=>rfl
      | false =>
        have:false∈R:=by
          rw [← e]; exact getD_mem (by omega)
        simp [this] at w1
    have hR':decide (false∈R')=false:=by
      refine decide_eq_false (fun hin=>?_)
      obtain ⟨i,hi,e⟩:=List.mem_iff_getElem.1 hin
      have h3:=(hk.rec_ i (hR i (by omega))).1
      have h3:R'.getD i false=true:=h3
      rw [List.getD_eq_getElem?_getD,List.getElem?_eq_getElem hi,e] at h3
      cases h3
    refine ⟨?_,?_⟩
    · rw [hR']
      refine picS_yes r2 _ (Nat.le_refl _) (fun p q hp hq=>?_)
      rcases w2 p q hp hq with e|e
      · exact .inl e
      · exact .inr (hk.shut p q hp hq e).1
    · refine eq_of_getD (d:=([]:List Int)) (by rw [picS_len,picS_len]) (fun i hi=>?_)
      rw [picS_len] at hi
      obtain ⟨x1,x2⟩:=e1 i hi
      obtain ⟨y1,y2⟩:=e2 i hi
      refine eq_of_getD (d:=(0:Int)) (by rw [x1,y1]) (fun k hk'=>?_)
      rw [x1] at hk'
      rw [x2 k hk',y2 k hk']
      rcases w2 i k hi hk' with e|e
      · subst e
        rw [show laneAt L i i=l0 from s1.diag i hi,show laneAt L' i i=l0 from s2.diag i hi]
      · exact ((hk.shut i k hi hk' e).2).symm
end Go.Proofs.Ytegigiecamjobaa
