/- poset.Apart; how wide an order is (Dilworth): the plain law. No condition but those named. -/
import Derived.Test.YtegigiecamjobaaPosD
import Derived.Test.YtegigiecamjobaaCovK
namespace Go.Proofs.Ytegigiecamjobaa
open Go.Ex Go.Sort
set_option maxRecDepth 100000
def apartTo (X Y:List Int) (k:Nat):List Int:=((List.range k).filter (fun a:Nat=>!decide ((a:Int)∈X) && !decide ((a:Int)∈Y))).map (fun a:Nat=>(a:Int))
def apartR (n:Int) (l:List PairD):List Int×Int×Unit :=
  if pcheck n l≠0 then ([],pcheck n l,()) else (apartTo (coverR n n (pairsF n.toNat (wk (relP l) n.toNat))).1 (coverR n n (pairsF n.toNat (wk (relP l) n.toNat))).2.1 n.toNat,0,())
def capart:Ctr:={ ps:=[.v Pos],rs:=[.slc true I64,I64],pre:=fun _=>True,fn:=fun x=>apartR x.1.1 x.1.2.1,out:=fun _=>() }
noncomputable def Eapart:Env:={ P:=Try.prog,tt:=tt,ctr:=[(102,cpcheckR),(103,callP),(33,ccover),(34,ccontI)],res:=[Go.ResultVar.tmp 2,Go.ResultVar.tmp 3],rs:=[Ty.slc true (Ty.int IntKind.i64),Ty.int IntKind.i64],ps:=[PK.v (Ty.pair (Ty.int IntKind.i64) (Ty.pair (Ty.slc false PairT) Ty.unit))],cuts:=[(7,[(6,some Is),(7,some Is),(9,some Is),(33,none),(34,none)])],nt:=53 }
theorem Eapart_ok:EnvOk Eapart:=envOk tt_ok ⟨cpcheckR_valid,callP_valid,ccover_valid,ccontI_valid,trivial⟩
theorem Fapart_ok:FnOk Eapart Try.f57:=⟨rfl,rfl⟩
theorem Eapart_t (x0_1:Int) (x0_2_1:List (Int×Int×Unit)):exec Eapart 1000 [.code (bodyOf Try.prog 57)] (initSt capart.ps (((x0_1,x0_2_1,()),()))) =
  .need (True) (cond (decide (Prod.fst (Prod.snd (pcheckR x0_1 x0_2_1))≠(0:Int))) (.ret (([],Prod.fst (Prod.snd (pcheckR x0_1 x0_2_1)),()))) (.need ((0:Int)≤x0_1∧x0_1≤(20:Int)) (.need (True) (.cut (loopAt (bodyOf Try.prog 57) 7).1 (loopAt (bodyOf Try.prog 57) 7).2 (St.mk [(6,AV.at_ 1000006 []),(7,AV.at_ 1000007 []),(9,AV.at_ 1000009 []),(33,AV.val (Ty.int IntKind.i64) x0_1),(34,AV.val (Ty.int IntKind.i64) (0:Int))] [(1000006,Ent.own Is (Prod.fst (coverR x0_1 x0_1 (pairsF (Int.toNat x0_1) (gB (Prod.fst (pcheckR x0_1 x0_2_1))))))),(1000007,Ent.own Is (Prod.fst (Prod.snd (coverR x0_1 x0_1 (pairsF (Int.toNat x0_1) (gB (Prod.fst (pcheckR x0_1 x0_2_1)))))))),(1000009,Ent.own Is [])]))))):=by kernel_rfl
def Eapart_s7 (v33:Int) (v34:Int) (o1000006:List Int) (o1000007:List Int) (o1000009:List Int):St:=St.mk [(6,AV.at_ 1000006 []),(7,AV.at_ 1000007 []),(9,AV.at_ 1000009 []),(33,AV.val (Ty.int IntKind.i64) v33),(34,AV.val (Ty.int IntKind.i64) v34)] [(1000006,Ent.own Is o1000006),(1000007,Ent.own Is o1000007),(1000009,Ent.own Is o1000009)]
theorem Eapart_l7 (v33:Int) (v34:Int) (o1000006:List Int) (o1000007:List Int) (o1000009:List Int):exec Eapart 1000 (.code (loopAt (bodyOf Try.prog 57) 7).1::.inLoop (loopAt (bodyOf Try.prog 57) 7).1::(loopAt (bodyOf Try.prog 57) 7).2) (Eapart_s7 v33 v34 o1000006 o1000007 o1000009) =
  cond (decide (v34<v33)) (.need (True) (cond (!decide (v34∈o1000006)) (.need (True) (cond (!decide (v34∈o1000007)) (.need (List.length o1000009+List.length (List.set [(0:Int)] (Int.toNat (↑0:Int)) v34)≤140737488355328∧(List.length o1000009+List.length (List.set [(0:Int)] (Int.toNat (↑0:Int)) v34))*Ty.wb (Ty.int IntKind.i64)≤140737488355328) (.need (inK IntKind.i64 (v34+(1:Int))) (.cut (loopAt (bodyOf Try.prog 57) 7).1 (loopAt (bodyOf Try.prog 57) 7).2 (St.mk [(6,AV.at_ 1000006 []),(7,AV.at_ 1000007 []),(9,AV.at_ 1000009 []),(33,AV.val (Ty.int IntKind.i64) v33),(34,AV.val (Ty.int IntKind.i64) (v34+(1:Int)))] [(1000006,Ent.own Is o1000006),(1000007,Ent.own Is o1000007),(1000009,Ent.own Is (o1000009++List.set [(0:Int)] (Int.toNat (↑0:Int)) v34))])))) (.need (inK IntKind.i64 (v34+(1:Int))) (.cut (loopAt (bodyOf Try.prog 57) 7).1 (loopAt (bodyOf Try.prog 57) 7).2 (St.mk [(6,AV.at_ 1000006 []),(7,AV.at_ 1000007 []),(9,AV.at_ 1000009 []),(33,AV.val (Ty.int IntKind.i64) v33),(34,AV.val (Ty.int IntKind.i64) (v34+(1:Int)))] [(1000006,Ent.own Is o1000006),(1000007,Ent.own Is o1000007),(1000009,Ent.own Is o1000009)]))))) (.need (inK IntKind.i64 (v34+(1:Int))) (.cut (loopAt (bodyOf Try.prog 57) 7).1 (loopAt (bodyOf Try.prog 57) 7).2 (St.mk [(6,AV.at_ 1000006 []),(7,AV.at_ 1000007 []),(9,AV.at_ 1000009 []),(33,AV.val (Ty.int IntKind.i64) v33),(34,AV.val (Ty.int IntKind.i64) (v34+(1:Int)))] [(1000006,Ent.own Is o1000006),(1000007,Ent.own Is o1000007),(1000009,Ent.own Is o1000009)]))))) (.ret ((o1000009,(0:Int),()))):=by kernel_rfl
theorem apartTo_succ (X Y:List Int) (k:Nat):apartTo X Y (k+1)=apartTo X Y k++(if (k:Int)∈X∨(k:Int)∈Y then [] else [(k:Int)]):=by
  rw [apartTo,apartTo,List.range_succ,List.filter_append,List.map_append]
  congr 1
  by_cases h:(k:Int)∈X∨(k:Int)∈Y
  · rw [if_pos h,List.filter_cons_of_neg]
    · rfl
    · rcases h with h|h<;>simp [h]
  · rw [if_neg h,List.filter_cons_of_pos]
    · rfl
    · have:=not_or.1 h; simp [this.1,this.2]
theorem apartTo_len (X Y:List Int) (k:Nat):(apartTo X Y k).length≤k:=by
  rw [apartTo,List.length_map]
  exact Nat.le_trans (List.length_filter_le ..) (by simp)
theorem capart_valid:capart.Valid Try.prog 57:=by
  refine Ctr.valid_of Eapart_ok rfl rfl Try.func57 (c:=bodyOf Try.prog 57) rfl rfl Fapart_ok rfl ?_
  rintro ⟨⟨(n0:Int),(l:List PairD),⟨⟩⟩,⟨⟩⟩ - -
  refine exec_sound (n:=1000) Eapart_ok Fapart_ok ?_
  refine holds_of_eq (Eapart_t n0 l) ?_
  by_cases h0:pcheck n0 l≠0
  · rw [pcheckR_no h0]
    simp only [holds_cond,Tree.holds,true_and,true_implies,decide_eq_true_eq,decide_eq_false_iff_not,Bool.not_eq_true',Bool.not_eq_false',Int.toNat_natCast,inK_i64,List.length_set,List.length_cons,List.length_nil]
    refine ⟨fun _=>?_,fun c=>absurd h0 c⟩
    show (([],pcheck n0 l,()):List Int×Int×Unit)=apartR n0 l
    rw [apartR,if_pos h0]
  obtain ⟨n,rfl,hp⟩:=pcheck_ok (Decidable.not_not.1 h0)
  have hn:=hp.n20
  have hfin:apartR (n:Int) l=(apartTo (coverR n n (pairsF n (wk (relP l) n))).1 (coverR n n (pairsF n (wk (relP l) n))).2.1 n,0,()):=by rw [apartR,if_neg h0,Int.toNat_natCast]
  rw [pcheckR_ok hp]
  simp only [holds_cond,Tree.holds,true_and,true_implies,decide_eq_true_eq,decide_eq_false_iff_not,Bool.not_eq_true',Bool.not_eq_false',Int.toNat_natCast,inK_i64,List.length_set,List.length_cons,List.length_nil]
  rw [pairsF_congr (fun a b ha hb=>gB_mkO (f:=wk (relP l) n) (by omega) (by omega))]
  generalize (coverR (n:Int) (n:Int) (pairsF n (wk (relP l) n))).1=X at *
  generalize (coverR (n:Int) (n:Int) (pairsF n (wk (relP l) n))).2.1=Y at *
  refine ⟨fun c=>absurd rfl c,fun _=>⟨by omega,fun _=>?_⟩⟩
  suffices hs:Go.Ex.Reach Eapart Try.f57 (apartTo X Y n,0,()) () (.code (loopAt (bodyOf Try.prog 57) 7).1::.inLoop (loopAt (bodyOf Try.prog 57) 7).1::(loopAt (bodyOf Try.prog 57) 7).2) (Eapart_s7 (n:Int) ((0:Nat):Int) X Y (apartTo X Y 0)) by
    show Go.Ex.Reach Eapart Try.f57 (apartR (n:Int) l) () (.code (loopAt (bodyOf Try.prog 57) 7).1::.inLoop (loopAt (bodyOf Try.prog 57) 7).1::(loopAt (bodyOf Try.prog 57) 7).2) (Eapart_s7 (n:Int) ((0:Nat):Int) X Y (apartTo X Y 0))
    rw [hfin]; exact hs
  refine Reach.loopI Eapart_ok Fapart_ok (fun i:Nat=>Eapart_s7 (n:Int) (i:Int) X Y (apartTo X Y i)) (fun i=>i≤n) (fun i=>n - i) 1000 (fun _=>⟨uniq_of rfl,uniq_of rfl⟩) ?_ 0 (Nat.zero_le _)
  rintro i (k1:i≤n) - ih
  have hl:=apartTo_len X Y i
  have next:=fun h=>ih (i+1) (show i+1≤n by omega) h
  rw [apartTo_succ] at next
  refine holds_of_eq (Eapart_l7 ..) ?_
  simp only [holds_cond,Tree.holds,true_and,true_implies,decide_eq_true_eq,decide_eq_false_iff_not,Bool.not_eq_true',Bool.not_eq_false',Int.toNat_natCast,inK_i64,List.length_set,List.length_cons,List.length_nil,wb_i64]
  refine ⟨fun c=>⟨fun d=>⟨fun d2=>⟨?_,fun _=>⟨by omega,fun _=>?_⟩⟩,fun d2=>⟨by omega,fun _=>?_⟩⟩,fun d=>⟨by omega,fun _=>?_⟩⟩,fun c=>?_⟩
  · exact ⟨by show (apartTo X Y i).length+1≤_; omega,by show ((apartTo X Y i).length+1)*8≤_; omega⟩
  · have d:¬ (i:Int)∈X:=by simpa using d
    have d2:¬ (i:Int)∈Y:=by simpa using d2
    rw [if_neg (fun h=>h.elim d d2)] at next
    exact next (by omega)
  · have d2:(i:Int)∈Y:=by simpa using d2
    rw [if_pos (.inr d2),List.append_nil] at next
    exact next (by omega)
  · have d:(i:Int)∈X:=by simpa using d
    rw [if_pos (.inl d),List.append_nil] at next
    exact next (by omega)
  · obtain rfl:i=n:=by omega
    rfl
/-! ### plain -/
section
variable {R:Nat→Nat→Bool} {n:Nat}
theorem OrdM.anti {M:List PairD} (h:OrdM R n M) (ht:∀ x y z,R x y=true→R y z=true→R x z=true) {S:List Nat} (hS:S.Nodup) (hin:∀ x∈S,x<n) (hA:∀ x∈S,∀ y∈S,R x y=false):S.length+M.length≤n:=by
  classical
  let U:Nat→Prop:=fun b=>∃ s∈S,R s b=true
  let f:PairD→Nat:=fun q=>if q.1.toNat∈S∨U q.1.toNat then n+q.2.1.toNat else q.1.toNat
  let T:List Nat:=(List.range n).filter (fun a=>!decide (a∈S) && !decide (U a))++((List.range n).filter (fun b=>decide (U b))).map (fun b=>n+b)
  have h1:=nodup_sub (l:=M.map f) (S:=T) ?_ ?_
  · rw [List.length_map] at h1
    have h2:T.length+S.length=n:=by
      show ((List.range n).filter (fun a=>!decide (a∈S) && !decide (U a))++((List.range n).filter (fun b=>decide (U b))).map (fun b=>n+b)).length+S.length=n
      rw [List.length_append,List.length_map]
      have h3:S.length=((List.range n).filter (fun a=>decide (a∈S))).length:=by
        apply Nat.le_antisymm
        · exact nodup_sub hS (fun x hx=>List.mem_filter.2 ⟨List.mem_range.2 (hin x hx),decide_eq_true hx⟩)
        · exact nodup_sub (List.nodup_range.filter _) (fun x hx=>of_decide_eq_true (List.mem_filter.1 hx).2)
      rw [h3]
      have h4:∀ l:List Nat,(l.filter (fun a=>!decide (a∈S) && !decide (U a))).length+(l.filter (fun b=>decide (U b))).length+(l.filter (fun a=>decide (a∈S))).length=l.length:=by
        intro l
        induction l with
        | nil=>rfl
        | cons x l ih =>
          have hex:¬ (x∈S∧U x):=by
            rintro ⟨a,s,b,c⟩
            rw [hA s b x a] at c; cases c
          simp only [List.filter_cons,List.length_cons]
          by_cases c1:x∈S<;>by_cases c2:U x
          · exact absurd ⟨c1,c2⟩ hex
          · simp [c1,c2]; omega
          · simp [c1,c2]; omega
          · simp [c1,c2]; omega
      have:=h4 (List.range n)
      rw [List.length_range] at this
      exact this
    omega
  · rw [List.nodup_iff_pairwise_ne,List.pairwise_map]
    refine (h.one.and h.two).imp_of_mem (fun {p q} hp hq hpq e=>?_)
    obtain ⟨p1,p2,_⟩:=h.rng p hp
    obtain ⟨q1,q2,_⟩:=h.rng q hq
    have e:(if p.1.toNat∈S∨U p.1.toNat then n+p.2.1.toNat else p.1.toNat)=(if q.1.toNat∈S∨U q.1.toNat then n+q.2.1.toNat else q.1.toNat):=e
    split at e<;>split at e
    · exact hpq.2 (by omega)
    · omega
    · omega
    · exact hpq.1 (by omega)
  · intro x hx
    obtain ⟨q,hq,rfl⟩:=List.mem_map.1 hx
    obtain ⟨q1,q2,q3⟩:=h.rng q hq
    show (if q.1.toNat∈S∨U q.1.toNat then n+q.2.1.toNat else q.1.toNat)∈T
    split
    · rename_i hc
      refine List.mem_append_right _ (List.mem_map.2 ⟨q.2.1.toNat,List.mem_filter.2 ⟨List.mem_range.2 (by omega),decide_eq_true ?_⟩,rfl⟩)
      rcases hc with hc|⟨s,hs,hr⟩
      · exact ⟨_,hc,q3⟩
      · exact ⟨s,hs,ht _ _ _ hr q3⟩
    · rename_i hc
      exact List.mem_append_left _ (List.mem_filter.2 ⟨List.mem_range.2 (by omega),by simp [(not_or.1 hc).1,(not_or.1 hc).2]⟩)
end
theorem apartTo_mem {X Y:List Int} {k:Nat} {x:Int}:x∈apartTo X Y k↔∃ a:Nat,a<k∧x=(a:Int)∧¬ (a:Int)∈X∧¬ (a:Int)∈Y:=by
  rw [apartTo,List.mem_map]
  constructor
  · rintro ⟨a,ha,rfl⟩
    rw [List.mem_filter,List.mem_range] at ha
    exact ⟨a,ha.1,rfl,by simpa using ha.2⟩
  · rintro ⟨a,h1,rfl,h2,h3⟩
    exact ⟨a,by rw [List.mem_filter,List.mem_range]; exact ⟨h1,by simp [h2,h3]⟩,rfl⟩
theorem castInj:∀ {l:List Nat},l.Nodup→(l.map (fun a:Nat=>(a:Int))).Nodup:=by
  intro l h
  rw [List.nodup_iff_pairwise_ne,List.pairwise_map]
  exact h.imp (fun {a b} hab e=>hab (by omega))
theorem apart_many (X Y:List Int) (n:Nat):n≤(apartTo X Y n).length+(X.length+Y.length):=by
  have:=nodup_sub (l:=(List.range n).map (fun a:Nat=>(a:Int))) (S:=apartTo X Y n++(X++Y)) (castInj List.nodup_range) (fun x hx=>by
    obtain ⟨a,ha,rfl⟩:=List.mem_map.1 hx
    have ha:=List.mem_range.1 ha
    by_cases h1:(a:Int)∈X
    · simp [h1]
    · by_cases h2:(a:Int)∈Y
      · simp [h2]
      · exact List.mem_append_left _ (apartTo_mem.2 ⟨a,ha,rfl,h1,h2⟩))
  rw [List.length_map,List.length_range,List.length_append,List.length_append] at this
  exact this
theorem fibers {f:Nat→Nat} {n c:Nat} (hf:∀ i,((List.range n).filter (fun b=>decide (f b=i))).length≤c):∀ K,((List.range n).filter (fun b=>decide (f b<K))).length≤K*c
  | 0=>by simp
  | K+1=>by
    have h1:=fibers hf K
    have h2:=hf K
    have h3:∀ l:List Nat,(l.filter (fun b=>decide (f b<K+1))).length=(l.filter (fun b=>decide (f b<K))).length+(l.filter (fun b=>decide (f b=K))).length:=by
      intro l
      induction l with
      | nil=>rfl
      | cons x l ih =>
        simp only [List.filter_cons]
        by_cases c1:f x<K
        · have c2:f x<K+1:=by omega
          have c3:¬ f x=K:=by omega
          simp [c1,c2,c3,ih]; omega
        · by_cases c3:f x=K
          · simp [c3,ih]; omega
          · have c2:¬ f x<K+1:=by omega
            simp [c1,c2,c3,ih]
    rw [h3,Nat.succ_mul]; omega
theorem pos_facts {n:Nat} {l:List PairD} (hp:PosOk n l) (h0:pcheck (n:Int) l=0):∃ M:List PairD,OrdM (wk (relP l) n) n M∧(chainsR n l)=(chainsTo n M n,0,())∧(chainsTo n M n).length+M.length=n∧(levelsR n l).2.1=0 ∧
    (∃ A:List Int,apartR n l=(A,0,())∧(chainsTo n M n).length≤A.length∧A.length≤n∧A.Nodup∧(∀ x∈A,0≤x∧x<(n:Int))∧∀ x∈A,∀ y∈A,wk (relP l) n x.toNat y.toNat=false)∧n≤(chainsTo n M n).length*(levelsR n l).1.length:=by
  have hn:=hp.n20
  obtain ⟨hM,-⟩:=pairs_most hn (wk (relP l) n)
  have ht:=fun x y z=>pos_trans hp (a:=x) (b:=y) (c:=z)
  have hmc:=pairs_mcheck hn (R:=wk (relP l) n)
  have hcs:=cover_size hmc
  have hcv:=fun q hq=>cover_covers hmc (q:=q) hq
  have hc1:chainsR n l=(chainsTo n (mostR n n (pairsF n (wk (relP l) n))).1 n,0,()):=by rw [chainsR,if_neg (by rw [h0]; simp),Int.toNat_natCast]
  have hl1:levelsR n l=(rowsF (levF (wk (relP l) n) n (orderN (wk (relP l) n) n n [])) n,0,()):=by rw [levelsR,if_neg (by rw [h0]; simp),Int.toNat_natCast]
  have ha1:apartR n l=(apartTo (coverR n n (pairsF n (wk (relP l) n))).1 (coverR n n (pairsF n (wk (relP l) n))).2.1 n,0,()):=by rw [apartR,if_neg (by rw [h0]; simp),Int.toNat_natCast]
  have hmany:=apart_many (coverR n n (pairsF n (wk (relP l) n))).1 (coverR n n (pairsF n (wk (relP l) n))).2.1 n
  have hcount:=hM.count
  refine ⟨(mostR n n (pairsF n (wk (relP l) n))).1,hM,hc1,hcount,by rw [hl1],⟨_,ha1,by omega,apartTo_len _ _ _,?_,?_,?_⟩,?_⟩
  · exact castInj (List.nodup_range.filter _)
  · intro x hx
    obtain ⟨a,h1,rfl,_⟩:=apartTo_mem.1 hx
    omega
  · intro x hx y hy
    obtain ⟨a,h1,rfl,h2,_⟩:=apartTo_mem.1 hx
    obtain ⟨b,h3,rfl,_,h4⟩:=apartTo_mem.1 hy
    rw [Int.toNat_natCast,Int.toNat_natCast]
    cases hr:wk (relP l) n a b with
    | false=>rfl
    | true=>exact absurd (hcv _ (pairsF_mem.2 ⟨a,b,h1,h3,hr,rfl⟩)) (fun h=>h.elim h2 h4)
  · rw [hl1]
    obtain ⟨hlv,hall⟩:=lev_ok hp
    have hbd:=levF_bd (R:=wk (relP l) n) (n:=n) (orderN (wk (relP l) n) n n [])
    have hmax:=(rows_max (lev:=levF (wk (relP l) n) n (orderN (wk (relP l) n) n n [])) (fun x=>(hbd x).1) n).1
    generalize levF (wk (relP l) n) n (orderN (wk (relP l) n) n n [])=lev at *
    have key:=fibers (f:=fun b=>(lev.getD b 0).toNat) (n:=n) (c:=(chainsTo n (mostR n n (pairsF n (wk (relP l) n))).1 n).length) (fun i=>by
      have:=hM.anti ht (S:=(List.range n).filter (fun b=>decide ((lev.getD b 0).toNat=i))) (List.nodup_range.filter _) (fun x hx=>List.mem_range.1 (List.mem_filter.1 hx).1) (fun x hx y hy=>by
        obtain ⟨x1,x2⟩:=List.mem_filter.1 hx
        obtain ⟨y1,y2⟩:=List.mem_filter.1 hy
        have x2:=of_decide_eq_true x2
        have y2:=of_decide_eq_true y2
        cases hr:wk (relP l) n x y with
        | false=>rfl
        | true =>
          have h1:=hlv.up x y hr (hall y (List.mem_range.1 y1))
          have h2:=(hbd x).1
          have h3:=(hbd y).1
          omega)
      omega) (rowsF lev n).length
    have hfull:(List.range n).filter (fun b=>decide ((lev.getD b 0).toNat<(rowsF lev n).length))=List.range n:=List.filter_eq_self.2 (fun b hb=>by
      have:=hmax b (List.mem_range.1 hb)
      have:=(hbd b).1
      exact decide_eq_true (by omega))
    rw [hfull,List.length_range,Nat.mul_comm] at key
    exact key
def cPosetSquare:Ctr:={ ps:=[.v Pos],rs:=[.bool],pre:=fun _=>True,fn:=fun _=>(true,()),out:=fun _=>() }
noncomputable def EPosetSquare:Env:={ P:=Try.prog,tt:=tt,ctr:=[(57,capart),(58,cchains),(59,clevels)],res:=[Go.ResultVar.tmp 2],rs:=[Ty.bool],ps:=[PK.v (Ty.pair (Ty.int IntKind.i64) (Ty.pair (Ty.slc false PairT) Ty.unit))],cuts:=[],nt:=74 }
end Go.Proofs.Ytegigiecamjobaa
