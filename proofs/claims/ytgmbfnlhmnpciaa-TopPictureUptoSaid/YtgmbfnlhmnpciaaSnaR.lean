/- The plain law of snap: the sums stay, move by move. -/
import Derived.Test.YtgmbfnlhmnpciaaSnaQ
namespace Go.Proofs.Ytgmbfnlhmnpciaa
open Go.Ex
set_option maxRecDepth 100000
def rcN (N H:List Int) (R:List Bool) (i:Nat):Int:=if R.getD i false=true then H.getD i 0 else N.getD i 0
theorem SI.put {n:Nat} {T:Int} {N H:List Int} {R:List Bool} {L L':List (List LaneD)} (h:SI n T N H R L) {a b:Nat} (ha:a<n) (hb:b<n) (hab:a≠b) {l:LaneD}
    (hl:∀ i j,i<n→j<n→laneAt L' i j=if i=a∧j=b then l else laneAt L i j) {N':List Int}
    (h1:sm (fun i=>N'.getD i 0) n+(ws l.1 - ws (laneAt L a b).1)=sm (fun i=>N.getD i 0) n)
    (h2:sm (rcN N' H R) n+(lp l - lp (laneAt L a b))=sm (rcN N H R) n)
    (h3:(-1∈l.1↔R.getD a false=true∧l.2.1=false)∧l.1.count (-1)≤1) (h4:l.2.1=true→R.getD a false=true∧R.getD b false=true):SI n T N' H R L':=by
  have e0:laneAt L' a b=l:=by rw [hl a b ha hb,if_pos ⟨rfl,rfl⟩]
  have eo:∀ i j,i<n→j<n→¬ (i=a∧j=b)→laneAt L' i j=laneAt L i j:=fun i j hi hj hn=>by rw [hl i j hi hj,if_neg hn]
  refine ⟨?_,?_,?_,?_,?_⟩
  · have:=h.all
    rw [sm2_upd (F:=fun i j=>ws (laneAt L i j).1) ha hb (fun i j hi hj hn=>by show ws (laneAt L' i j).1=ws (laneAt L i j).1; rw [eo i j hi hj hn])]
    simp only [e0]
    omega
  · have h5:sm (rcN N H R) n+sm2 (fun i j=>lp (laneAt L i j)) n=T:=h.rec_
    show sm (rcN N' H R) n+sm2 (fun i j=>lp (laneAt L' i j)) n=T
    rw [sm2_upd (F:=fun i j=>lp (laneAt L i j)) ha hb (fun i j hi hj hn=>by show lp (laneAt L' i j)=lp (laneAt L i j); rw [eo i j hi hj hn])]
    simp only [e0]
    omega
  · intro i j hi hj hij
    by_cases c:i=a∧j=b
    · obtain ⟨rfl,rfl⟩:=c
      rw [e0]; exact h3
    · rw [eo i j hi hj c]; exact h.mark i j hi hj hij
  · intro i j hi hj hij hc
    by_cases c:i=a∧j=b
    · obtain ⟨rfl,rfl⟩:=c
      rw [e0] at hc; exact h4 hc
    · rw [eo i j hi hj c] at hc; exact h.shut i j hi hj hij hc
  · intro i hi
    rw [eo i i hi hi (by omega)]; exact h.diag i hi
theorem sm_set {N:List Int} {a n:Nat} {x:Int} (ha:a<n) (hn:N.length=n):sm (fun i=>(N.set a x).getD i 0) n=sm (fun i=>N.getD i 0) n+(x - N.getD a 0):=by
  rw [sm_upd (f:=fun i=>N.getD i 0) ha (fun i hi hne=>by show (N.set a x).getD i 0=N.getD i 0; rw [getD_set (by omega),if_neg hne])]
  rw [getD_set (by omega),if_pos rfl]
theorem rc_set {N H:List Int} {R:List Bool} {a n:Nat} {x:Int} (ha:a<n) (hn:N.length=n):sm (rcN (N.set a x) H R) n=sm (rcN N H R) n+(if R.getD a false=true then 0 else x - N.getD a 0):=by
  rw [sm_upd (f:=rcN N H R) ha (fun i hi hne=>by unfold rcN; rw [getD_set (by omega),if_neg hne])]
  unfold rcN
  rw [getD_set (by omega),if_pos rfl]
  split<;>omega
theorem SI.close {n k:Nat} {T:Int} {g:GameD} (h:SIg n T g) (hg:GW n k g) {a b:Nat} (ha:a<n) (hb:b<n) (hab:a≠b) {w:List Int} (hw:(laneAt g.2.2.2.1 a b).1=-1::w) (hr:g.2.2.1.getD b false=true) {L':List (List LaneD)}
    (hl:∀ i j,i<n→j<n→laneAt L' i j=if i=a∧j=b then (w,true,(laneAt g.2.2.2.1 a b).2.2) else laneAt g.2.2.2.1 i j):SI n T g.1 g.2.1 g.2.2.1 L':=by
  have hm:=h.mark a b ha hb hab
  rw [hw] at hm
  obtain ⟨r1,r2⟩:=hm.1.1 (by simp)
  have hc:w.count (-1)=0:=by
    have:=hm.2
    rw [List.count_cons_self] at this
    omega
  have hnot:-1∉w:=List.count_eq_zero.1 hc
  refine SI.put h ha hb hab hl ?_ ?_ ⟨⟨fun e=>absurd e hnot,fun e=>by cases e.2⟩,by show w.count (-1)≤1; omega⟩ (fun _=>⟨r1,hr⟩)
  · rw [hw,ws,mx,if_pos (by decide)]; dsimp only; omega
  · unfold lp
    rw [r2,hw,pw,if_pos rfl]; simp
theorem SI.step {n k:Nat} {T:Int} {g:GameD} (h:SIg n T g) (hg:GW n k g) {m:MoveD} (hm:MvOk n m):SIg n T (mvF g m):=by
  obtain ⟨N,H,R,L,⟨⟩⟩:=g
  obtain ⟨kd,a,b,x,⟨⟩⟩:=m
  obtain ⟨⟨(k0:1≤kd),(k1:kd≤3)⟩,⟨(a0:0≤a),(a1:a<(n:Int))⟩,⟨(b0:0≤b),(b1:b<(n:Int))⟩,⟨(x0:0≤x),(x1:x≤1000000)⟩,(hab:a=b→kd=3)⟩:=hm
  obtain ⟨a,rfl⟩:∃ q:Nat,a=q:=⟨a.toNat,by omega⟩
  obtain ⟨b,rfl⟩:∃ q:Nat,b=q:=⟨b.toNat,by omega⟩
  have hd:mvF (N,H,R,L,()) (kd,a,b,x,())=if kd=1 then (if x≤N.getD a 0 then (N.set a (N.getD a 0 - x),H,R,setLane L a b ((laneAt L a b).1++[x],(laneAt L a b).2),()) else (N,H,R,L,())) else if kd=2 then tkF (N,H,R,L,()) a b else recF (N,H,R,L,()) a:=rfl
  have ea:a<n:=by omega
  have eb:b<n:=by omega
  have h1:N.length=n:=hg.ln
  have h4:L.length=n:=hg.ll
  have h5:(L.getD a []).length=n:=hg.row a ea
  have hset:=fun (l:LaneD) i j=>laneAt_set (L:=L) (l:=l) (show a<L.length by omega) (show b<(L.getD a []).length by omega) i j
  have hs:SI n T N H R L:=h
  rw [hd]
  split
  · split
    · have hne:a≠b:=fun e=>by have:=hab (by omega); omega
      obtain ⟨m1,m2⟩:=hs.mark a b ea eb hne
      have hsh:=hs.shut a b ea eb hne
      refine SI.put hs ea eb hne (fun i j _ _=>hset _ i j) ?_ ?_ ⟨?_,?_⟩ hsh
      · rw [sm_set ea h1,ws_app,mx,if_neg (show ¬ x<0 by omega)]; omega
      · rw [rc_set ea h1]
        unfold lp
        dsimp only
        by_cases c:R.getD a false=true
        · rw [if_pos c]
          cases e:(laneAt L a b).2.1 with
          | true=>simp
          | false =>
            rw [pw_app_in (m1.2 ⟨c,e⟩)]; omega
        · rw [if_neg c]
          have e:(laneAt L a b).2.1=false:=by
            cases e:(laneAt L a b).2.1 with
            | true=>exact absurd (hsh e).1 c
            | false=>rfl
          rw [e,pw_app_out (fun hin=>c (m1.1 hin).1),if_neg (show ¬ x=-1 by omega)]
          simp only [Bool.false_eq_true,if_false]
          omega
      · show -1∈(laneAt L a b).1++[x]↔_
        rw [← m1,List.mem_append,List.mem_singleton]
        exact ⟨fun h=>h.resolve_right (by omega),.inl⟩
      · show ((laneAt L a b).1++[x]).count (-1)≤1
        rw [List.count_append,List.count_eq_zero_of_not_mem (a:=-1) (l:=[x]) (by rw [List.mem_singleton]; omega)]; exact m2
    · exact h
  · split
    · have hne:a≠b:=fun e=>by have:=hab (by omega); omega
      have hd:tkF (N,H,R,L,()) a b=if (laneAt L a b).1.length=0 then (N,H,R,L,()) else if (laneAt L a b).1.getD 0 0=-1 then tkM N H R L a b else tkN N H R L a b ((laneAt L a b).1.getD 0 0):=rfl
      rw [hd]
      obtain ⟨m1,m2⟩:=hs.mark a b ea eb hne
      have hsh:=hs.shut a b ea eb hne
      have hrange:=(hg.lane a b).2.1
      have hrange:∀ x∈(laneAt L a b).1,-1≤x∧x≤1000000:=hrange
      have hset2:=fun (w:List Int) (hw:(laneAt L a b).1.drop 1=w)=>hw
      cases hw:(laneAt L a b).1 with
      | nil=>rw [if_pos (by simp)]; exact h
      | cons y w =>
        rw [if_neg (by simp)]
        show SIg n T (if y=-1 then tkM N H R L a b else tkN N H R L a b y)
        split
        · rename_i hy
          subst hy
          have hr:=SI.record h hg eb
          have hgr:=hg.record (p:=b) eb
          have hR:(recF (N,H,R,L,()) b).2.2.1.getD b false=true:=by
            have hd2:recF (N,H,R,L,()) b=if R.getD b false=true then (N,H,R,L,()) else (N,H.set b (N.getD b 0),R.set b true,markTo L b N.length,()):=rfl
            rw [hd2]
            split
            · assumption
            · show (R.set b true).getD b false=true
              rw [getD_set (by have:R.length=n:=hg.lr; omega),if_pos rfl]
          have hbr:=hg.row b eb
          have hbr:(L.getD b []).length=n:=hbr
          have hlane:laneAt (recF (N,H,R,L,()) b).2.2.2.1 a b=laneAt L a b:=by
            have hd2:recF (N,H,R,L,()) b=if R.getD b false=true then (N,H,R,L,()) else (N,H.set b (N.getD b 0),R.set b true,markTo L b N.length,()):=rfl
            rw [hd2]
            split
            · rfl
            · show laneAt (markTo L b N.length) a b=_
              rw [laneAt_mark (by omega) a b _ (by omega),if_neg (by omega)]
          -- the picture is taken in the same way with the lane drained
          let L1:=setLane L a b (w,(laneAt L a b).2)
          have hsame:∀ i j,i<n→j<n→laneAt (recF (N,H,R,L1,()) b).2.2.2.1 i j=if i=a∧j=b then (w,(laneAt L a b).2) else laneAt (recF (N,H,R,L,()) b).2.2.2.1 i j:=by
            intro i j hi hj
            have hd2:∀ L,recF (N,H,R,L,()) b=if R.getD b false=true then (N,H,R,L,()) else (N,H.set b (N.getD b 0),R.set b true,markTo L b N.length,()):=fun _=>rfl
            rw [hd2,hd2]
            have hr1:(L1.getD b []).length=n:=row_setLane.trans hbr
            have hl1:L1.length=n:=len_setLane.trans h4
            by_cases c:R.getD b false=true
            · rw [if_pos c,if_pos c]; exact hset _ i j
            · rw [if_neg c,if_neg c]
              show laneAt (markTo L1 b N.length) i j=if i=a∧j=b then _ else laneAt (markTo L b N.length) i j
              rw [laneAt_mark (by omega) i j _ (by omega),laneAt_mark (by omega) i j _ (by omega)]
              by_cases c2:i=a∧j=b
              · rw [if_pos c2,if_neg (by omega),hset,if_pos c2]
              · rw [if_neg c2]
                have e1:laneAt L1 i j=laneAt L i j:=by rw [hset,if_neg c2]
                by_cases c3:i=b∧j<N.length∧j≠b
                · rw [if_pos c3,if_pos c3]
                  have e2:laneAt L1 b j=laneAt L b j:=by rw [hset,if_neg (by omega)]
                  rw [e2]
                · rw [if_neg c3,if_neg c3,e1]
          have hcomp:∀ L L':List (List LaneD),(recF (N,H,R,L,()) b).1=(recF (N,H,R,L',()) b).1∧(recF (N,H,R,L,()) b).2.1=(recF (N,H,R,L',()) b).2.1∧(recF (N,H,R,L,()) b).2.2.1=(recF (N,H,R,L',()) b).2.2.1:=by
            intro L L'
            have hd2:∀ L,recF (N,H,R,L,()) b=if R.getD b false=true then (N,H,R,L,()) else (N,H.set b (N.getD b 0),R.set b true,markTo L b N.length,()):=fun _=>rfl
            rw [hd2,hd2]
            split<;>exact ⟨rfl,rfl,rfl⟩
          have hg1:GW n k (N,H,R,L1,()):=hg.put ea eb (l:=(w,(laneAt L a b).2)) (by
            obtain ⟨q1,q2,q3,q4⟩:=hg.lane a b
            have q1:(laneAt L a b).1.length≤k:=q1
            rw [hw,List.length_cons] at q1
            exact ⟨by show w.length≤k; omega,fun y hy=>hrange y (by rw [hw]; exact List.mem_cons_of_mem _ hy),q3,q4⟩) h1 hg.now
          have hg1r:=hg1.record (p:=b) eb
          have key:=SI.close (L':=setLane (recF (N,H,R,L1,()) b).2.2.2.1 a b (w,true,(laneAt L a b).2.2)) hr hgr ea eb hne (w:=w) (by rw [hlane]; exact hw) hR (fun i j hi hj=>by
            rw [laneAt_set (by have:=hg1r.ll; omega) (by have:=hg1r.row a ea; omega)]
            by_cases c:i=a∧j=b
            · rw [if_pos c,if_pos c,hlane]
            · rw [if_neg c,if_neg c,hsame i j hi hj,if_neg c])
          obtain ⟨c1,c2,c3⟩:=hcomp L L1
          rw [c1,c2,c3] at key
          have e9:tkM N H R L a b=((recF (N,H,R,L1,()) b).1,(recF (N,H,R,L1,()) b).2.1,(recF (N,H,R,L1,()) b).2.2.1,setLane (recF (N,H,R,L1,()) b).2.2.2.1 a b ((laneAt (recF (N,H,R,L1,()) b).2.2.2.1 a b).1,true,(laneAt (recF (N,H,R,L1,()) b).2.2.2.1 a b).2.2),()):=by
            unfold tkM; rw [hw]; rfl
          rw [e9,hsame a b ea eb,if_pos ⟨rfl,rfl⟩]
          exact key
        · rename_i hy
          have hr:=hrange y (by rw [hw]; simp)
          have e9:tkN N H R L a b y=(N.set b (N.getD b 0+y),H,R,setLane L a b (w,(laneAt L a b).2.1,if R.getD b false=true∧(laneAt L a b).2.1=false then (laneAt L a b).2.2.1+y else (laneAt L a b).2.2.1,()),()):=by
            unfold tkN; rw [hw]; rfl
          rw [e9]
          rw [hw] at m1 m2
          refine SI.put hs ea eb hne (fun i j _ _=>hset _ i j) ?_ ?_ ⟨?_,?_⟩ hsh
          · rw [sm_set eb h1,hw,ws,mx,if_neg (show ¬ y<0 by omega)]; dsimp only; omega
          · rw [rc_set eb h1]
            unfold lp
            rw [hw,pw,if_neg hy]
            dsimp only
            by_cases c:R.getD b false=true
            · rw [if_pos c]
              cases e:(laneAt L a b).2.1 with
              | true=>simp
              | false=>rw [if_pos ⟨c,rfl⟩]; simp only [Bool.false_eq_true,if_false]; omega
            · rw [if_neg c]
              have e:(laneAt L a b).2.1=false:=by
                cases e:(laneAt L a b).2.1 with
                | true=>exact absurd (hsh e).2 c
                | false=>rfl
              rw [if_neg (fun h=>c h.1),e]; simp; omega
          · show -1∈w↔_
            rw [← m1,List.mem_cons]
            exact ⟨.inr,fun h=>h.resolve_left (fun e=>hy e.symm)⟩
          · show w.count (-1)≤1
            rw [List.count_cons] at m2; omega
    · exact SI.record h hg ea
end Go.Proofs.Ytgmbfnlhmnpciaa
