/- The plain law of SnapEnds: takes empty the lanes, and empty lanes are shut. -/
import Derived.Test.YtegigiecamjobaaSnaU
namespace Go.Proofs.Ytegigiecamjobaa
open Go.Ex
set_option maxRecDepth 100000
def stA (v:List Int) (m:List MoveD):GameD:=mvsF (g0 v) m m.length
theorem stA_app {v:List Int} {m:List MoveD} {x:MoveD}:stA v (m++[x])=mvF (stA v m) x:=by
  unfold stA
  rw [List.length_append,List.length_singleton,mvsF,mvs_app (Nat.le_refl _)]
  congr 1
  rw [List.getD_eq_getElem?_getD,List.getElem?_append_right (Nat.le_refl _),Nat.sub_self]; rfl
theorem snE_of {v:List Int} {m:List MoveD} (h1:1≤v.length∧v.length≤6) (h2:m.length≤200) (h3:∀ i,0≤v.getD i 0∧v.getD i 0≤1000000) (h4:∀ k,k<m.length→MvOk v.length (m.getD k m0)):snE v m=0:=by
  have hd:snE v m=if inF v.length 1 6=false then 1 else if 200<m.length then 2 else if v.any badH=true then 1 else fstE (fun k=>mvE v.length (m.getD k m0)) m.length:=rfl
  rw [hd,if_neg (by rw [inF_iff.2 (by omega)]; simp),if_neg (by omega),if_neg,fstE_zero]
  · intro k hk
    have hm:=h4 k hk
    generalize m.getD k m0=x at *
    obtain ⟨kd,a,b,y,⟨⟩⟩:=x
    obtain ⟨⟨(k0:1≤kd),(k1:kd≤3)⟩,⟨(a0:0≤a),(a1:a<(v.length:Int))⟩,⟨(b0:0≤b),(b1:b<(v.length:Int))⟩,⟨(x0:0≤y),(x1:y≤1000000)⟩,(hab:a=b→kd=3)⟩:=hm
    show (if inF kd 1 3=false∨inF a 0 (v.length - 1)=false∨inF b 0 (v.length - 1)=false∨inF y 0 1000000=false then 1 else if a=b∧kd≠3 then 4 else 0:Int)=0
    rw [inF_iff.2 (by omega),inF_iff.2 (by omega),inF_iff.2 (by omega),inF_iff.2 (by omega),if_neg (by simp),if_neg (fun e=>e.2 (hab e.1))]
  · intro h
    obtain ⟨x,hx,hb⟩:=List.any_eq_true.1 h
    obtain ⟨i,hi,rfl⟩:=List.mem_iff_getElem.1 hx
    have h5:=h3 i
    rw [List.getD_eq_getElem?_getD,List.getElem?_eq_getElem hi,Option.getD_some] at h5
    unfold badH at hb
    rw [inF_iff.2 h5] at hb
    cases hb
theorem snE_app {v:List Int} {m:List MoveD} {x:MoveD} (h:snE v m=0) (hm:m.length<200) (hx:MvOk v.length x):snE v (m++[x])=0:=by
  obtain ⟨h1,h2,h3,h4⟩:=snE_ok h
  refine snE_of h1 (by rw [List.length_append,List.length_singleton]; omega) h3 (fun k hk=>?_)
  rw [List.length_append,List.length_singleton] at hk
  by_cases c:k<m.length
  · rw [getD_app c]; exact h4 k c
  · obtain rfl:k=m.length:=by omega
    rw [List.getD_eq_getElem?_getD,List.getElem?_append_right (Nat.le_refl _),Nat.sub_self]; exact hx
def cnt (g:GameD) (p q:Nat):Nat:=(laneAt g.2.2.2.1 p q).1.length+if g.2.2.1.getD p false=true then 0 else 1
def Jn (n C:Nat) (g:GameD):Prop:=∀ p q,p<n→q<n→cnt g p q≤C
theorem cnt_record {n k:Nat} {g:GameD} (hg:GW n k g) {p:Nat} (hp:p<n) {i j:Nat} (hi:i<n) (hj:j<n):cnt (recF g p) i j≤cnt g i j∧(g.2.2.1.getD i false=true→(laneAt (recF g p).2.2.2.1 i j).1.length=(laneAt g.2.2.2.1 i j).1.length):=by
  obtain ⟨N,H,R,L,⟨⟩⟩:=g
  have hd:recF (N,H,R,L,()) p=if R.getD p false=true then (N,H,R,L,()) else (N,H.set p (N.getD p 0),R.set p true,markTo L p N.length,()):=rfl
  rw [hd]
  split
  · exact ⟨Nat.le_refl _,fun _=>rfl⟩
  rename_i hr
  have h1:N.length=n:=hg.ln
  have h3:R.length=n:=hg.lr
  have h4:L.length=n:=hg.ll
  have h5:(L.getD p []).length=n:=hg.row p hp
  have hm:=laneAt_mark (L:=L) (p:=p) (by omega) i j N.length (by omega)
  show (laneAt (markTo L p N.length) i j).1.length+(if (R.set p true).getD i false=true then 0 else 1)≤(laneAt L i j).1.length+(if R.getD i false=true then 0 else 1)∧(R.getD i false=true→(laneAt (markTo L p N.length) i j).1.length=(laneAt L i j).1.length)
  rw [hm,getD_set (by omega)]
  by_cases c:i=p
  · subst c
    rw [if_pos rfl,if_pos rfl,if_neg hr]
    refine ⟨?_,fun h=>absurd h hr⟩
    split
    · simp only [List.length_append,List.length_singleton]; omega
    · omega
  · rw [if_neg c,if_neg (fun e=>c e.1)]
    exact ⟨Nat.le_refl _,fun _=>rfl⟩
theorem cnt_take {n k:Nat} {N H:List Int} {R:List Bool} {L:List (List LaneD)} (hg:GW n k (N,H,R,L,())) {a b:Nat} (ha:a<n) (hb:b<n) {i j:Nat} (hi:i<n) (hj:j<n) :
    cnt (tkF (N,H,R,L,()) a b) i j≤cnt (N,H,R,L,()) i j∧(R.getD i false=true→(laneAt (tkF (N,H,R,L,()) a b).2.2.2.1 i j).1.length≤(laneAt L i j).1.length - (if i=a∧j=b then 1 else 0)):=by
  have hd:tkF (N,H,R,L,()) a b=if (laneAt L a b).1.length=0 then (N,H,R,L,()) else if (laneAt L a b).1.getD 0 0=-1 then tkM N H R L a b else tkN N H R L a b ((laneAt L a b).1.getD 0 0):=rfl
  have h4:L.length=n:=hg.ll
  have h5:(L.getD a []).length=n:=hg.row a ha
  rw [hd]
  split
  · refine ⟨Nat.le_refl _,fun _=>?_⟩
    show (laneAt L i j).1.length≤_
    split
    · rename_i e1 e2; rw [e2.1,e2.2]; omega
    · omega
  split
  · have g1:GW n k (N,H,R,setLane L a b ((laneAt L a b).1.drop 1,(laneAt L a b).2),()):=hg.put ha hb (l:=((laneAt L a b).1.drop 1,(laneAt L a b).2)) (by
      obtain ⟨r1,r2,r3,r4⟩:=hg.lane a b
      exact ⟨by show ((laneAt L a b).1.drop 1).length≤k; rw [List.length_drop]; have r1:(laneAt L a b).1.length≤k:=r1; omega,fun y hy=>r2 y (List.mem_of_mem_drop hy),r3,r4⟩) hg.ln hg.now
    have hone:(laneAt (setLane L a b ((laneAt L a b).1.drop 1,(laneAt L a b).2)) i j).1.length≤(laneAt L i j).1.length - (if i=a∧j=b then 1 else 0):=by
      rw [laneAt_set (by omega) (by omega)]
      by_cases c:i=a∧j=b
      · rw [if_pos c,if_pos c,c.1,c.2]; simp
      · rw [if_neg c,if_neg c]; omega
    have s2:=cnt_record g1 (p:=b) hb hi hj
    have g2:=g1.record (p:=b) hb
    generalize e9:recF (N,H,R,setLane L a b ((laneAt L a b).1.drop 1,(laneAt L a b).2),()) b=g at g2 s2
    have hM:tkM N H R L a b=(g.1,g.2.1,g.2.2.1,setLane g.2.2.2.1 a b ((laneAt g.2.2.2.1 a b).1,true,(laneAt g.2.2.2.1 a b).2.2),()):=by
      unfold tkM; rw [e9]
    rw [hM]
    have g4:=g2.ll
    have g5:=g2.row a ha
    have hl:(laneAt (setLane g.2.2.2.1 a b ((laneAt g.2.2.2.1 a b).1,true,(laneAt g.2.2.2.1 a b).2.2)) i j).1=(laneAt g.2.2.2.1 i j).1:=by
      rw [laneAt_set (by omega) (by omega)]
      split
      · rename_i c; rw [c.1,c.2]
      · rfl
    obtain ⟨s3,s4⟩:=s2
    refine ⟨?_,fun h=>?_⟩
    · show (laneAt (setLane g.2.2.2.1 a b _) i j).1.length+(if g.2.2.1.getD i false=true then 0 else 1)≤_
      rw [hl]
      refine Nat.le_trans s3 ?_
      show (laneAt (setLane L a b ((laneAt L a b).1.drop 1,(laneAt L a b).2)) i j).1.length+(if R.getD i false=true then 0 else 1)≤(laneAt L i j).1.length+(if R.getD i false=true then 0 else 1)
      omega
    · show (laneAt (setLane g.2.2.2.1 a b _) i j).1.length≤_
      rw [hl,s4 h]
      exact hone
  · have hone:∀ l:LaneD,l.1=(laneAt L a b).1.drop 1→(laneAt (setLane L a b l) i j).1.length≤(laneAt L i j).1.length - (if i=a∧j=b then 1 else 0):=fun l hl=>by
      rw [laneAt_set (by omega) (by omega)]
      by_cases c:i=a∧j=b
      · rw [if_pos c,if_pos c,c.1,c.2,hl]; simp
      · rw [if_neg c,if_neg c]; omega
    unfold tkN
    refine ⟨?_,fun _=>hone _ rfl⟩
    show (laneAt (setLane L a b _) i j).1.length+(if R.getD i false=true then 0 else 1)≤(laneAt L i j).1.length+(if R.getD i false=true then 0 else 1)
    have:=hone ((laneAt L a b).1.drop 1,(laneAt L a b).2.1,if R.getD b false=true∧(laneAt L a b).2.1=false then (laneAt L a b).2.2.1+((laneAt L a b).1.getD 0 0) else (laneAt L a b).2.2.1,()) rfl
    omega
theorem Jn.step {n k C:Nat} {g:GameD} (h:Jn n C g) (hg:GW n k g) {m:MoveD} (hm:MvOk n m):Jn n (C+1) (mvF g m)∧(m.1≠1→Jn n C (mvF g m)):=by
  obtain ⟨N,H,R,L,⟨⟩⟩:=g
  obtain ⟨kd,a,b,x,⟨⟩⟩:=m
  obtain ⟨-,⟨(a0:0≤a),(a1:a<(n:Int))⟩,⟨(b0:0≤b),(b1:b<(n:Int))⟩,-,-⟩:=hm
  obtain ⟨a,rfl⟩:∃ q:Nat,a=q:=⟨a.toNat,by omega⟩
  obtain ⟨b,rfl⟩:∃ q:Nat,b=q:=⟨b.toNat,by omega⟩
  have hd:mvF (N,H,R,L,()) (kd,a,b,x,())=if kd=1 then (if x≤N.getD a 0 then (N.set a (N.getD a 0 - x),H,R,setLane L a b ((laneAt L a b).1++[x],(laneAt L a b).2),()) else (N,H,R,L,())) else if kd=2 then tkF (N,H,R,L,()) a b else recF (N,H,R,L,()) a:=rfl
  have ea:a<n:=by omega
  have eb:b<n:=by omega
  have h4:L.length=n:=hg.ll
  have h5:(L.getD a []).length=n:=hg.row a ea
  have up:∀ {g},Jn n C g→Jn n (C+1) g:=fun h p q hp hq=>Nat.le_succ_of_le (h p q hp hq)
  rw [hd]
  split
  · rename_i c1
    refine ⟨?_,fun hn=>absurd c1 hn⟩
    split
    · intro p q hp hq
      have:=h p q hp hq
      show (laneAt (setLane L a b ((laneAt L a b).1++[x],(laneAt L a b).2)) p q).1.length+(if R.getD p false=true then 0 else 1)≤C+1
      have this:(laneAt L p q).1.length+(if R.getD p false=true then 0 else 1)≤C:=this
      rw [laneAt_set (by omega) (by omega)]
      by_cases c:p=a∧q=b
      · rw [if_pos c]; rw [c.1,c.2] at this; rw [c.1]; simp only [List.length_append,List.length_singleton]; omega
      · rw [if_neg c]; omega
    · exact up h
  · split
    · have:Jn n C (tkF (N,H,R,L,()) a b):=fun p q hp hq=>Nat.le_trans (cnt_take hg ea eb hp hq).1 (h p q hp hq)
      exact ⟨up this,fun _=>this⟩
    · have:Jn n C (recF (N,H,R,L,()) a):=fun p q hp hq=>Nat.le_trans (cnt_record hg ea hp hq).1 (h p q hp hq)
      exact ⟨up this,fun _=>this⟩
theorem Jn.moves {v:List Int} {l:List MoveD} (h:snE v l=0):∀ k,k≤l.length→Jn v.length (k+1) (mvsF (g0 v) l k)
  | 0,_=>fun p q _ _=>by
    show (laneAt (g0 v).2.2.2.1 p q).1.length+(if (g0 v).2.2.1.getD p false=true then 0 else 1)≤1
    rw [lane_zero]
    show 0+(if (g0 v).2.2.1.getD p false=true then 0 else 1)≤1
    split<;>omega
  | k+1,hk=>((Jn.moves h k (by omega)).step (GW.moves h k (by omega)) ((snE_ok h).2.2.2 k (by omega))).1
def dn (a b p q:Nat):Prop:=p<a∨(p=a∧q<b)
instance (a b p q:Nat):Decidable (dn a b p q):=by unfold dn; infer_instance
structure Rd (n D:Nat) (A:Nat→Prop) (r a b:Nat) (g:GameD):Prop where
  on:∀ p,p<n→A p→g.2.2.1.getD p false=true
  few:∀ p q,p<n→q<n→p≠q→A p→(laneAt g.2.2.2.1 p q).1.length≤D - r - (if dn a b p q then 1 else 0)
  jn:Jn n D g
theorem Rd.take {n k D:Nat} {A:Nat→Prop} {r a b:Nat} {g:GameD} (h:Rd n D A r a b g) (hg:GW n k g) (ha:a<n) (hb:b<n) (hab:a≠b):Rd n D A r a (b+1) (mvF g (2,a,b,0,())):=by
  obtain ⟨N,H,R,L,⟨⟩⟩:=g
  have e:mvF (N,H,R,L,()) (2,a,b,0,())=tkF (N,H,R,L,()) a b:=rfl
  have hm:MvOk n (2,(a:Int),(b:Int),0,()):=⟨⟨by show (1:Int)≤2; omega,by show (2:Int)≤3; omega⟩,⟨by show (0:Int)≤a; omega,by show (a:Int)<n; omega⟩,⟨by show (0:Int)≤b; omega,by show (b:Int)<n; omega⟩,⟨Int.le_refl _,by show (0:Int)≤1000000; omega⟩,fun (e:(a:Int)=b)=>by omega⟩
  have hk:=Kp.step hg hm
  have hj:=(Jn.step h.jn hg hm).2 (show (2:Int)≠1 by decide)
  rw [e] at *
  refine ⟨fun p hp hA=>(hk.rec_ p (h.on p hp hA)).1,fun p q hp hq hpq hA=>?_,hj⟩
  have h1:=(cnt_take hg ha hb hp hq).2 (h.on p hp hA)
  have h2:(laneAt L p q).1.length≤D - r - (if dn a b p q then 1 else 0):=h.few p q hp hq hpq hA
  refine Nat.le_trans h1 ?_
  by_cases c:p=a∧q=b
  · rw [if_pos c,if_pos (show dn a (b+1) p q from .inr ⟨c.1,by omega⟩)]
    split at h2<;>omega
  · rw [if_neg c]
    by_cases d:dn a b p q
    · rw [if_pos d] at h2
      rw [if_pos (by unfold dn at *; omega)]; omega
    · rw [if_neg (by unfold dn at *; omega)]
      rw [if_neg d] at h2; omega
theorem Rd.same {n D:Nat} {A:Nat→Prop} {r a:Nat} {g:GameD} (h:Rd n D A r a a g):Rd n D A r a (a+1) g:=by
  refine ⟨h.on,fun p q hp hq hpq hA=>?_,h.jn⟩
  have h2:=h.few p q hp hq hpq hA
  by_cases d:dn a a p q
  · rw [if_pos d] at h2; rw [if_pos (by unfold dn at *; omega)]; exact h2
  · rw [if_neg (by unfold dn at *; omega)]; rw [if_neg d] at h2; exact h2
theorem Rd.row {n D:Nat} {A:Nat→Prop} {r a:Nat} {g:GameD} (h:Rd n D A r a n g):Rd n D A r (a+1) 0 g:=by
  refine ⟨h.on,fun p q hp hq hpq hA=>?_,h.jn⟩
  have h2:=h.few p q hp hq hpq hA
  by_cases d:dn a n p q
  · rw [if_pos d] at h2; rw [if_pos (by unfold dn at *; omega)]; exact h2
  · rw [if_neg (by unfold dn at *; omega)]; rw [if_neg d] at h2; exact h2
theorem Rd.round {n D:Nat} {A:Nat→Prop} {r:Nat} {g:GameD} (h:Rd n D A r n 0 g):Rd n D A (r+1) 0 0 g:=by
  refine ⟨h.on,fun p q hp hq hpq hA=>?_,h.jn⟩
  have h2:=h.few p q hp hq hpq hA
  rw [if_pos (show dn n 0 p q from .inl hp)] at h2
  rw [if_neg (by unfold dn; omega)]; omega
def who (w z p:Nat):Prop:=z=0→p=w
theorem Rd.next {v:List Int} {m:List MoveD} (hm:snE v m=0) {D w z r:Nat} (h:Rd v.length D (who w z) r 0 0 (stA v m)) (hr:D≤r) (hw:w<v.length):Rd v.length D (who w (z+1)) 0 0 0 (stA v m)∧(z≠0→∀ p q,p<v.length→q<v.length→p≠q→(laneAt (stA v m).2.2.2.1 p q).2.1=true):=by
  have hs:=SI.moves hm m.length (Nat.le_refl _)
  have hs:SIg v.length (sumTo v v.length) (stA v m):=hs
  generalize stA v m=g at *
  have shut:∀ p q,p<v.length→q<v.length→p≠q→who w z p→(laneAt g.2.2.2.1 p q).2.1=true:=by
    intro p q hp hq hpq hA
    have h1:=h.few p q hp hq hpq hA
    have h2:(laneAt g.2.2.2.1 p q).1=[]:=List.length_eq_zero_iff.1 (by omega)
    have h3:=(hs.mark p q hp hq hpq).1
    cases e:(laneAt g.2.2.2.1 p q).2.1 with
    | true=>rfl
    | false =>
      have:=h3.2 ⟨h.on p hp hA,e⟩
      rw [h2] at this; cases this
  have hon:∀ p,p<v.length→g.2.2.1.getD p false=true:=by
    intro p hp
    by_cases c:p=w
    · exact h.on p hp (fun _=>c)
    · exact (hs.shut w p hw hp (Ne.symm c) (shut w p hw hp (Ne.symm c) (fun _=>rfl))).2
  refine ⟨⟨fun p hp _=>hon p hp,fun p q hp hq hpq _=>?_,h.jn⟩,fun hz p q hp hq hpq=>shut p q hp hq hpq (fun e=>absurd e hz)⟩
  have:=h.jn p q hp hq
  unfold cnt at this
  rw [hon p hp] at this
  rw [if_neg (by unfold dn; omega)]
  simpa using this
theorem Rd.start {v:List Int} {l:List MoveD} (h:snE v l=0) (hl:l.length<200) {w:Nat} (hw:w<v.length):snE v (l++[(3,(w:Int),0,0,())])=0∧Rd v.length (l.length+1) (who w 0) 0 0 0 (stA v (l++[(3,(w:Int),0,0,())])):=by
  have ho:=(snE_ok h).1
  have hm:MvOk v.length (3,(w:Int),0,0,()):=⟨⟨by show (1:Int)≤3; omega,Int.le_refl _⟩,⟨by show (0:Int)≤w; omega,by show (w:Int)<v.length; omega⟩,⟨Int.le_refl _,by show (0:Int)<v.length; omega⟩,⟨Int.le_refl _,by show (0:Int)≤1000000; omega⟩,fun _=>rfl⟩
  refine ⟨snE_app h hl hm,?_⟩
  have hg:=GW.moves h l.length (Nat.le_refl _)
  have hj:=((Jn.moves h l.length (Nat.le_refl _)).step hg hm).2 (show (3:Int)≠1 by decide)
  rw [stA_app]
  have e:mvF (stA v l) (3,(w:Int),0,0,())=recF (stA v l) w:=rfl
  have hj:Jn v.length (l.length+1) (mvF (stA v l) (3,(w:Int),0,0,())):=hj
  have hR:(recF (stA v l) w).2.2.1.getD w false=true:=by
    have h3:(stA v l).2.2.1.length=v.length:=hg.lr
    generalize stA v l=g at *
    obtain ⟨N,H,R,L,⟨⟩⟩:=g
    have hd2:recF (N,H,R,L,()) w=if R.getD w false=true then (N,H,R,L,()) else (N,H.set w (N.getD w 0),R.set w true,markTo L w N.length,()):=rfl
    rw [hd2]
    split
    · assumption
    · show (R.set w true).getD w false=true
      have h3:R.length=v.length:=h3
      rw [getD_set (by omega),if_pos rfl]
  rw [e] at *
  refine ⟨fun p hp hA=>by rw [hA rfl]; exact hR,fun p q hp hq hpq hA=>?_,hj⟩
  have:=hj p q hp hq
  unfold cnt at this
  rw [if_neg (by unfold dn; omega)]
  omega
theorem whole_of {v:List Int} {m:List MoveD} (hm:snE v m=0) (h1:∀ p,p<v.length→(stA v m).2.2.1.getD p false=true) (h2:∀ p q,p<v.length→q<v.length→p≠q→(laneAt (stA v m).2.2.2.1 p q).2.1=true):(picF (stA v m)).2.2.1=true:=by
  have g1:=GW.moves hm m.length (Nat.le_refl _)
  have g1:GW v.length m.length (stA v m):=g1
  generalize stA v m=g at *
  obtain ⟨N,H,R,L,⟨⟩⟩:=g
  have l1:L.length=v.length:=g1.ll
  have t1:R.length=v.length:=g1.lr
  have hd:picF (N,H,R,L,())=(H,(picS L (!decide (false∈R)) L.length).1,(picS L (!decide (false∈R)) L.length).2.1,N,(picS L (!decide (false∈R)) L.length).2.2,()):=rfl
  rw [hd]
  show (picS L (!decide (false∈R)) L.length).2.1=true
  have hR':decide (false∈R)=false:=by
    refine decide_eq_false (fun hin=>?_)
    obtain ⟨i,hi,e⟩:=List.mem_iff_getElem.1 hin
    have h3:=h1 i (by omega)
    have h3:R.getD i false=true:=h3
    rw [List.getD_eq_getElem?_getD,List.getElem?_eq_getElem hi,e] at h3
    cases h3
  rw [hR',l1]
  refine picS_yes (n:=v.length) g1.row _ (Nat.le_refl _) (fun p q hp hq=>?_)
  by_cases c:p=q
  · exact .inl c
  · exact .inr (h2 p q hp hq c)
end Go.Proofs.Ytegigiecamjobaa
