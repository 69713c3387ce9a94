/- TopPicture. -/
import Derived.Test.YtgmbfnlhmnpciaaSnaS
namespace Go.Proofs.Ytgmbfnlhmnpciaa
open Go.Ex
set_option maxRecDepth 100000
theorem snap_sum {v:List Int} {l:List MoveD} (h:snE v l=0) :
    sumTo (picF (mvsF (g0 v) l l.length)).2.2.2.1 v.length+(picF (mvsF (g0 v) l l.length)).2.2.2.2.1=sumTo v v.length ∧
    ((picF (mvsF (g0 v) l l.length)).2.2.1=true→sumTo (picF (mvsF (g0 v) l l.length)).1 v.length+sm (fun p=>sumTo ((picF (mvsF (g0 v) l l.length)).2.1.getD p []) v.length) v.length=sumTo v v.length):=by
  have hs:=SI.moves h l.length (Nat.le_refl _)
  have hg:=GW.moves h l.length (Nat.le_refl _)
  generalize mvsF (g0 v) l l.length=g at *
  obtain ⟨N,H,R,L,⟨⟩⟩:=g
  have h4:L.length=v.length:=hg.ll
  have h3:R.length=v.length:=hg.lr
  have hr:∀ i,i<v.length→(L.getD i []).length=v.length:=hg.row
  have hd:picF (N,H,R,L,())=(H,(picS L (!decide (false∈R)) L.length).1,(picS L (!decide (false∈R)) L.length).2.1,N,(picS L (!decide (false∈R)) L.length).2.2,()):=rfl
  rw [hd]
  dsimp only
  refine ⟨?_,fun hw=>?_⟩
  · rw [h4,picS_und hr _ (Nat.le_refl _)]
    exact hs.all
  · rw [h4] at hw ⊢
    obtain ⟨w1,w2⟩:=picS_all hr _ (Nat.le_refl _) hw
    have hR:∀ i,i<v.length→R.getD i false=true:=by
      intro i hi
      cases e:R.getD i false with
      | true=>rfl
      | false =>
        have:false∈R:=by
          rw [← e]; exact getD_mem (by omega)
        simp [this] at w1
    have hb:=hs.rec_
    rw [show sumTo v v.length=sm (fun i=>if R.getD i false=true then H.getD i 0 else N.getD i 0) v.length+sm2 (fun i j=>lp (laneAt L i j)) v.length from hb.symm]
    congr 1
    · unfold sumTo
      exact sm_congr (fun i hi=>by rw [if_pos (hR i hi)])
    · refine sm_congr (fun p hp=>?_)
      obtain ⟨r1,r2⟩:=picS_row (w:=!decide (false∈R)) hr (Nat.le_refl _) hp
      unfold sumTo
      refine sm_congr (fun q hq=>?_)
      rw [r2 q hq]
      show _=lp (laneAt L p q)
      unfold lp
      rcases w2 p q hp hq with rfl|hc
      · rw [show laneAt L p p=l0 from hs.diag p hp]; rfl
      · rw [hc]; simp
theorem pic_rows {v:List Int} {l:List MoveD} (h:snE v l=0):(picF (mvsF (g0 v) l l.length)).2.1.length=v.length∧(picF (mvsF (g0 v) l l.length)).1.length=v.length∧(picF (mvsF (g0 v) l l.length)).2.2.2.1.length=v.length ∧
    (∀ p,p<v.length→((picF (mvsF (g0 v) l l.length)).2.1.getD p []).length=v.length)∧(∀ p,p<v.length→∀ q,0≤((picF (mvsF (g0 v) l l.length)).2.1.getD p []).getD q 0∧((picF (mvsF (g0 v) l l.length)).2.1.getD p []).getD q 0≤1000000000) ∧
    (∀ i,0≤(picF (mvsF (g0 v) l l.length)).1.getD i 0∧(picF (mvsF (g0 v) l l.length)).1.getD i 0≤1000000000)∧(∀ i,0≤(picF (mvsF (g0 v) l l.length)).2.2.2.1.getD i 0∧(picF (mvsF (g0 v) l l.length)).2.2.2.1.getD i 0≤1000000000)∧0≤(picF (mvsF (g0 v) l l.length)).2.2.2.2.1∧(picF (mvsF (g0 v) l l.length)).2.2.2.2.1≤100000000000:=by
  have hg:=GW.moves h l.length (Nat.le_refl _)
  have hh:=HB.moves h l.length (Nat.le_refl _)
  obtain ⟨o1,o2,o3,o4⟩:=snE_ok h
  have hsz:=hg.sized (by omega)
  have hsm:=hg.small (by omega)
  generalize mvsF (g0 v) l l.length=g at *
  obtain ⟨N,H,R,L,⟨⟩⟩:=g
  have h4:L.length=v.length:=hg.ll
  have hr:∀ i,i<v.length→(L.getD i []).length=v.length:=hg.row
  have hd:picF (N,H,R,L,())=(H,(picS L (!decide (false∈R)) L.length).1,(picS L (!decide (false∈R)) L.length).2.1,N,(picS L (!decide (false∈R)) L.length).2.2,()):=rfl
  rw [hd]
  dsimp only
  have hb:=picS_le (L:=L) (w:=!decide (false∈R)) o1.2 (fun i hi=>hr i (by omega)) (fun i j hi hj=>⟨fun x hx=>((hsm.2 i j).1 x hx).2,hsz.2.2.2.2.2 i j (by omega) hj⟩) L.length (Nat.le_refl _)
  have hN:∀ i,0≤N.getD i 0∧N.getD i 0≤1000000000:=hsm.1
  refine ⟨by rw [picS_len]; exact h4,hg.lh,hg.ln,fun p hp=>?_,fun p hp q=>?_,fun i=>?_,hN,hb.1,by omega⟩
  · rw [h4]; exact (picS_row hr (Nat.le_refl _) hp).1
  · rw [h4]
    obtain ⟨r1,r2⟩:=picS_row (w:=!decide (false∈R)) hr (Nat.le_refl _) hp
    by_cases e:q<v.length
    · rw [r2 q e]
      have:=(hsm.2 p q).2
      exact this
    · rw [List.getD_eq_getElem?_getD (l:=(picS L (!decide (false∈R)) v.length).1.getD p []),List.getElem?_eq_none (by omega)]; decide
  · have:0≤H.getD i 0∧H.getD i 0≤1000000*((l.length:Int)+1):=hh i
    omega
theorem plF_ok {v:List Int} {l:List MoveD} (a:snE v l=0):plF v l=(picF (mvsF (g0 v) l l.length),0,()):=if_neg (by rw [a]; simp)
theorem plF_no {v:List Int} {l:List MoveD} (a:¬ snE v l=0):plF v l=(p0,snE v l,()):=if_pos a
theorem blkL_lenY {α:Type} {f:α→Nat} {c:Nat} (h:∀ x,c≤f x):∀ l:List α,c*l.length≤bulkL f l
  | []=>by simp [bulkL]
  | x::l=>by have h1:=h x; have h2:=blkL_lenY h l; simp only [bulkL,List.length_cons,Nat.mul_add]; omega
def ceqI:Ctr:={ ps:=[.v (.slc false I64),.v (.slc false I64)],rs:=[.bool],pre:=fun _=>True,fn:=fun x=>(decide ((show List (Int) from x.1)=(show List (Int) from x.2.1)),()),out:=fun _=>() }
noncomputable def EeqI:Env:={ P:=Try.prog,tt:=tt,ctr:=[],res:=[Go.ResultVar.tmp 4],rs:=[Ty.bool],ps:=[PK.v (Ty.slc false (Ty.int IntKind.i64)),PK.v (Ty.slc false (Ty.int IntKind.i64))],cuts:=[(4,[(0,none),(1,none),(12,none),(13,none)])],nt:=26 }
theorem EeqI_ok:EnvOk EeqI:=envOk tt_ok trivial
theorem FeqI_ok:FnOk EeqI Try.f7:=⟨rfl,rfl⟩
theorem EeqI_t (x0:List Int) (x1:List Int):exec EeqI 1000 [.code (bodyOf Try.prog 7)] (initSt ceqI.ps ((x0,x1,()))) =
  cond (decide ((↑(List.length x0):Int)≠(↑(List.length x1):Int))) (.ret ((false,()))) (.cut (loopAt (bodyOf Try.prog 7) 4).1 (loopAt (bodyOf Try.prog 7) 4).2 (St.mk [(0,AV.val (Ty.slc false (Ty.int IntKind.i64)) x0),(1,AV.val (Ty.slc false (Ty.int IntKind.i64)) x1),(12,AV.val (Ty.int IntKind.i64) (↑(List.length x0):Int)),(13,AV.val (Ty.int IntKind.i64) (0:Int))] [])):=by kernel_rfl
def EeqI_s4 (v0:List Int) (v1:List Int) (v12:Int) (v13:Int):St:=St.mk [(0,AV.val (Ty.slc false (Ty.int IntKind.i64)) v0),(1,AV.val (Ty.slc false (Ty.int IntKind.i64)) v1),(12,AV.val (Ty.int IntKind.i64) v12),(13,AV.val (Ty.int IntKind.i64) v13)] []
theorem EeqI_l4 (v0:List Int) (v1:List Int) (v12:Int) (v13:Int):exec EeqI 1000 (.code (loopAt (bodyOf Try.prog 7) 4).1::.inLoop (loopAt (bodyOf Try.prog 7) 4).1::(loopAt (bodyOf Try.prog 7) 4).2) (EeqI_s4 v0 v1 v12 v13) =
  cond (decide (v13<v12)) (.need ((0:Int)≤v13∧v13<(↑(List.length v0):Int)) (.need ((0:Int)≤v13∧v13<(↑(List.length v1):Int)) (cond (decide (List.getD v0 (Int.toNat v13) (0:Int)≠List.getD v1 (Int.toNat v13) (0:Int))) (.ret ((false,()))) (.need (inK IntKind.i64 (v13+(1:Int))) (.cut (loopAt (bodyOf Try.prog 7) 4).1 (loopAt (bodyOf Try.prog 7) 4).2 (St.mk [(0,AV.val (Ty.slc false (Ty.int IntKind.i64)) v0),(1,AV.val (Ty.slc false (Ty.int IntKind.i64)) v1),(12,AV.val (Ty.int IntKind.i64) v12),(13,AV.val (Ty.int IntKind.i64) (v13+(1:Int)))] [])))))) (.ret ((true,()))):=by kernel_rfl
theorem ceqI_valid:ceqI.Valid Try.prog 7:=by
  refine Ctr.valid_of EeqI_ok rfl rfl Try.func7 (c:=bodyOf Try.prog 7) rfl rfl FeqI_ok rfl ?_
  rintro ⟨(l:List (Int)),(m:List (Int)),⟨⟩⟩ - ⟨⟨hl,-⟩,-⟩
  have hl:l.length≤9223372036854775807:=hl
  refine exec_sound (n:=1000) EeqI_ok FeqI_ok ?_
  refine holds_of_eq (EeqI_t l m) ?_
  have fin:∀ {b:Bool},(b=true↔l=m)→((b,()):Bool×Unit)=(decide (l=m),()):=fun {b} h=>by
    cases b with
    | true=>rw [decide_eq_true (h.1 rfl)]
    | false=>rw [decide_eq_false (fun e=>by cases h.2 e)]
  simp only [holds_cond,Tree.holds,true_and,true_implies,decide_eq_true_eq,decide_eq_false_iff_not,Bool.not_eq_true',Bool.not_eq_false',Int.toNat_natCast,inK_i64,List.length_set,List.length_cons,List.length_nil]
  refine ⟨fun c=>fin ⟨fun h=>(by cases h),fun h=>absurd (congrArg (fun q:List (Int)=>(q.length:Int)) h) c⟩,fun c=>?_⟩
  refine Reach.loopI EeqI_ok FeqI_ok (fun i:Nat=>EeqI_s4 l m (l.length:Int) (i:Int)) (fun i=>i≤l.length∧∀ j,j<i→l.getD j 0=m.getD j 0)
    (fun i=>l.length - i) 1000 (fun _=>⟨uniq_of rfl,uniq_of rfl⟩) ?_ 0 ⟨Nat.zero_le _,fun j hj=>by omega⟩
  rintro i ⟨k1,k2⟩ - ih
  refine holds_of_eq (EeqI_l4 ..) ?_
  have c:l.length=m.length:=by omega
  simp only [holds_cond,Tree.holds,true_and,true_implies,decide_eq_true_eq,decide_eq_false_iff_not,Bool.not_eq_true',Bool.not_eq_false',Int.toNat_natCast,inK_i64,List.length_set,List.length_cons,List.length_nil]
  refine ⟨fun d1=>⟨by omega,fun _=>⟨by omega,fun _=>⟨fun d2=>fin ⟨fun h=>(by cases h),fun h=>absurd (congrArg (fun q:List (Int)=>q.getD i 0) h) (d2)⟩,fun d2=>⟨by omega,fun _=>ih (i+1) ⟨by omega,fun j hj=>?_⟩ (by omega)⟩⟩⟩⟩,fun d1=>fin ⟨fun _=>eq_of_getD c (fun j hj=>k2 j (by omega)),fun _=>rfl⟩⟩
  rcases Nat.lt_or_ge j i with h|h
  · exact k2 j h
  · obtain rfl:j=i:=by omega
    exact Decidable.not_not.1 d2
def cTopPicture:Ctr:=smallC [.slc false I64,.slc false Move,I64]
noncomputable def ETopPicture:Env:={ P:=Try.prog,tt:=tt,ctr:=[(6,cplay),(7,ceqI),(8,crest)],res:=[Go.ResultVar.tmp 6],rs:=[Ty.bool],ps:=[PK.v (Ty.slc false (Ty.int IntKind.i64)),PK.v (Ty.slc false (Ty.pair (Ty.int IntKind.i64) (Ty.pair (Ty.int IntKind.i64) PairT))),PK.v (Ty.int IntKind.i64)],cuts:=[(9,[(0,none),(1,none),(2,none),(9,some (Ty.slc true (Ty.pair (Ty.int IntKind.i64) (Ty.pair (Ty.int IntKind.i64) PairT)))),(10,none),(52,none),(53,none),(54,none)]),(16,[(0,none),(9,some (Ty.slc true (Ty.pair (Ty.int IntKind.i64) (Ty.pair (Ty.int IntKind.i64) PairT)))),(10,none),(76,none)]),(18,[(0,none),(9,some (Ty.slc true (Ty.pair (Ty.int IntKind.i64) (Ty.pair (Ty.int IntKind.i64) PairT)))),(10,none),(76,none),(78,none),(79,none)]),(21,[(0,none),(9,some (Ty.slc true (Ty.pair (Ty.int IntKind.i64) (Ty.pair (Ty.int IntKind.i64) PairT)))),(10,none),(13,none),(76,none),(78,none),(79,none),(82,none),(83,none)]),(33,[(0,none),(15,none),(16,none),(17,none),(18,none),(116,none),(117,none)]),(38,[(0,none),(15,none),(16,none),(17,none),(18,none),(116,none),(117,none),(137,none),(138,none),(139,none)])],nt:=158 }
theorem ETopPicture_ok:EnvOk ETopPicture:=envOk tt_ok ⟨cplay_valid,ceqI_valid,crest_valid,trivial⟩
theorem FTopPicture_ok:FnOk ETopPicture Try.f3:=⟨rfl,rfl⟩
theorem ETopPicture_t (x0:List Int) (x1:List (Int×Int×Int×Int×Unit)) (x2:Int):exec ETopPicture 1000 [.code (bodyOf Try.prog 3)] (initSt cTopPicture.ps ((x0,x1,x2,()))) =
  .need (True) (.need (True) (cond (decide ((↑(List.length x0):Int)=(0:Int))) (.ret ((true,()))) (.cut (loopAt (bodyOf Try.prog 3) 9).1 (loopAt (bodyOf Try.prog 3) 9).2 (St.mk [(0,AV.val (Ty.slc false (Ty.int IntKind.i64)) x0),(1,AV.val (Ty.slc false (Ty.pair (Ty.int IntKind.i64) (Ty.pair (Ty.int IntKind.i64) PairT))) x1),(2,AV.val (Ty.int IntKind.i64) x2),(9,AV.at_ 1000009 []),(10,AV.val (Ty.int IntKind.i64) (↑(List.length x0):Int)),(52,AV.val (Ty.slc false (Ty.pair (Ty.int IntKind.i64) (Ty.pair (Ty.int IntKind.i64) PairT))) x1),(53,AV.val (Ty.int IntKind.i64) (↑(List.length x1):Int)),(54,AV.val (Ty.int IntKind.i64) (0:Int))] [(1000009,Ent.own (Ty.slc true (Ty.pair (Ty.int IntKind.i64) (Ty.pair (Ty.int IntKind.i64) PairT))) [])])))):=by kernel_rfl
def ETopPicture_s9 (v0:List Int) (v1:List (Int×Int×Int×Int×Unit)) (v2:Int) (v10:Int) (v52:List (Int×Int×Int×Int×Unit)) (v53:Int) (v54:Int) (o1000009:List (Int×Int×Int×Int×Unit)):St:=St.mk [(0,AV.val (Ty.slc false (Ty.int IntKind.i64)) v0),(1,AV.val (Ty.slc false (Ty.pair (Ty.int IntKind.i64) (Ty.pair (Ty.int IntKind.i64) PairT))) v1),(2,AV.val (Ty.int IntKind.i64) v2),(9,AV.at_ 1000009 []),(10,AV.val (Ty.int IntKind.i64) v10),(52,AV.val (Ty.slc false (Ty.pair (Ty.int IntKind.i64) (Ty.pair (Ty.int IntKind.i64) PairT))) v52),(53,AV.val (Ty.int IntKind.i64) v53),(54,AV.val (Ty.int IntKind.i64) v54)] [(1000009,Ent.own (Ty.slc true (Ty.pair (Ty.int IntKind.i64) (Ty.pair (Ty.int IntKind.i64) PairT))) o1000009)]
theorem ETopPicture_l9 (v0:List Int) (v1:List (Int×Int×Int×Int×Unit)) (v2:Int) (v10:Int) (v52:List (Int×Int×Int×Int×Unit)) (v53:Int) (v54:Int) (o1000009:List (Int×Int×Int×Int×Unit)):exec ETopPicture 1000 (.code (loopAt (bodyOf Try.prog 3) 9).1::.inLoop (loopAt (bodyOf Try.prog 3) 9).1::(loopAt (bodyOf Try.prog 3) 9).2) (ETopPicture_s9 v0 v1 v2 v10 v52 v53 v54 o1000009) =
  cond (decide (v54<v53)) (.need ((0:Int)≤v54∧v54<(↑(List.length v52):Int)) (.need ((0:Int)<(2:Int)) (cond (decide (v54=Int.tdiv (↑(List.length v1):Int) (2:Int))) (.need (v10≤(1000000000:Int)) (.need (List.length o1000009+List.length (List.set [((0:Int),(0:Int),(0:Int),(0:Int),())] (Int.toNat (↑0:Int)) ((3:Int),rest v2 v10,(0:Int),(0:Int),()))≤140737488355328∧(List.length o1000009+List.length (List.set [((0:Int),(0:Int),(0:Int),(0:Int),())] (Int.toNat (↑0:Int)) ((3:Int),rest v2 v10,(0:Int),(0:Int),())))*Ty.wb (Ty.pair (Ty.int IntKind.i64) (Ty.pair (Ty.int IntKind.i64) PairT))≤140737488355328) (.need (List.length (o1000009++List.set [((0:Int),(0:Int),(0:Int),(0:Int),())] (Int.toNat (↑0:Int)) ((3:Int),rest v2 v10,(0:Int),(0:Int),()))+List.length (List.set [((0:Int),(0:Int),(0:Int),(0:Int),())] (Int.toNat (↑0:Int)) (List.getD v52 (Int.toNat v54) ((0:Int),(0:Int),(0:Int),(0:Int),())))≤140737488355328∧(List.length (o1000009++List.set [((0:Int),(0:Int),(0:Int),(0:Int),())] (Int.toNat (↑0:Int)) ((3:Int),rest v2 v10,(0:Int),(0:Int),()))+List.length (List.set [((0:Int),(0:Int),(0:Int),(0:Int),())] (Int.toNat (↑0:Int)) (List.getD v52 (Int.toNat v54) ((0:Int),(0:Int),(0:Int),(0:Int),()))))*Ty.wb (Ty.pair (Ty.int IntKind.i64) (Ty.pair (Ty.int IntKind.i64) PairT))≤140737488355328) (.need (inK IntKind.i64 (v54+(1:Int))) (.cut (loopAt (bodyOf Try.prog 3) 9).1 (loopAt (bodyOf Try.prog 3) 9).2 (St.mk [(0,AV.val (Ty.slc false (Ty.int IntKind.i64)) v0),(1,AV.val (Ty.slc false (Ty.pair (Ty.int IntKind.i64) (Ty.pair (Ty.int IntKind.i64) PairT))) v1),(2,AV.val (Ty.int IntKind.i64) v2),(9,AV.at_ 1000009 []),(10,AV.val (Ty.int IntKind.i64) v10),(52,AV.val (Ty.slc false (Ty.pair (Ty.int IntKind.i64) (Ty.pair (Ty.int IntKind.i64) PairT))) v52),(53,AV.val (Ty.int IntKind.i64) v53),(54,AV.val (Ty.int IntKind.i64) (v54+(1:Int)))] [(1000009,Ent.own (Ty.slc true (Ty.pair (Ty.int IntKind.i64) (Ty.pair (Ty.int IntKind.i64) PairT))) (o1000009++List.set [((0:Int),(0:Int),(0:Int),(0:Int),())] (Int.toNat (↑0:Int)) ((3:Int),rest v2 v10,(0:Int),(0:Int),())++List.set [((0:Int),(0:Int),(0:Int),(0:Int),())] (Int.toNat (↑0:Int)) (List.getD v52 (Int.toNat v54) ((0:Int),(0:Int),(0:Int),(0:Int),()))))])))))) (.need (List.length o1000009+List.length (List.set [((0:Int),(0:Int),(0:Int),(0:Int),())] (Int.toNat (↑0:Int)) (List.getD v52 (Int.toNat v54) ((0:Int),(0:Int),(0:Int),(0:Int),())))≤140737488355328∧(List.length o1000009+List.length (List.set [((0:Int),(0:Int),(0:Int),(0:Int),())] (Int.toNat (↑0:Int)) (List.getD v52 (Int.toNat v54) ((0:Int),(0:Int),(0:Int),(0:Int),()))))*Ty.wb (Ty.pair (Ty.int IntKind.i64) (Ty.pair (Ty.int IntKind.i64) PairT))≤140737488355328) (.need (inK IntKind.i64 (v54+(1:Int))) (.cut (loopAt (bodyOf Try.prog 3) 9).1 (loopAt (bodyOf Try.prog 3) 9).2 (St.mk [(0,AV.val (Ty.slc false (Ty.int IntKind.i64)) v0),(1,AV.val (Ty.slc false (Ty.pair (Ty.int IntKind.i64) (Ty.pair (Ty.int IntKind.i64) PairT))) v1),(2,AV.val (Ty.int IntKind.i64) v2),(9,AV.at_ 1000009 []),(10,AV.val (Ty.int IntKind.i64) v10),(52,AV.val (Ty.slc false (Ty.pair (Ty.int IntKind.i64) (Ty.pair (Ty.int IntKind.i64) PairT))) v52),(53,AV.val (Ty.int IntKind.i64) v53),(54,AV.val (Ty.int IntKind.i64) (v54+(1:Int)))] [(1000009,Ent.own (Ty.slc true (Ty.pair (Ty.int IntKind.i64) (Ty.pair (Ty.int IntKind.i64) PairT))) (o1000009++List.set [((0:Int),(0:Int),(0:Int),(0:Int),())] (Int.toNat (↑0:Int)) (List.getD v52 (Int.toNat v54) ((0:Int),(0:Int),(0:Int),(0:Int),()))))]))))))) (.cut (loopAt (bodyOf Try.prog 3) 16).1 (loopAt (bodyOf Try.prog 3) 16).2 (St.mk [(0,AV.val (Ty.slc false (Ty.int IntKind.i64)) v0),(9,AV.at_ 1000009 []),(10,AV.val (Ty.int IntKind.i64) v10),(76,AV.val (Ty.int IntKind.i64) (0:Int))] [(1000009,Ent.own (Ty.slc true (Ty.pair (Ty.int IntKind.i64) (Ty.pair (Ty.int IntKind.i64) PairT))) o1000009)])):=by kernel_rfl
def ETopPicture_s16 (v0:List Int) (v10:Int) (v76:Int) (o1000009:List (Int×Int×Int×Int×Unit)):St:=St.mk [(0,AV.val (Ty.slc false (Ty.int IntKind.i64)) v0),(9,AV.at_ 1000009 []),(10,AV.val (Ty.int IntKind.i64) v10),(76,AV.val (Ty.int IntKind.i64) v76)] [(1000009,Ent.own (Ty.slc true (Ty.pair (Ty.int IntKind.i64) (Ty.pair (Ty.int IntKind.i64) PairT))) o1000009)]
theorem ETopPicture_l16 (v0:List Int) (v10:Int) (v76:Int) (o1000009:List (Int×Int×Int×Int×Unit)):exec ETopPicture 1000 (.code (loopAt (bodyOf Try.prog 3) 16).1::.inLoop (loopAt (bodyOf Try.prog 3) 16).1::(loopAt (bodyOf Try.prog 3) 16).2) (ETopPicture_s16 v0 v10 v76 o1000009) =
  cond (decide (v76<(6:Int))) (.cut (loopAt (bodyOf Try.prog 3) 18).1 (loopAt (bodyOf Try.prog 3) 18).2 (St.mk [(0,AV.val (Ty.slc false (Ty.int IntKind.i64)) v0),(9,AV.at_ 1000009 []),(10,AV.val (Ty.int IntKind.i64) v10),(76,AV.val (Ty.int IntKind.i64) v76),(78,AV.val (Ty.int IntKind.i64) v10),(79,AV.val (Ty.int IntKind.i64) (0:Int))] [(1000009,Ent.own (Ty.slc true (Ty.pair (Ty.int IntKind.i64) (Ty.pair (Ty.int IntKind.i64) PairT))) o1000009)])) (.need (True) (cond (decide (Prod.fst (Prod.snd (plF v0 o1000009))≠(0:Int))) (.ret ((decide ((↑(List.length (Prod.fst (Prod.fst (plF v0 o1000009)))):Int)=(0:Int)),()))) (.cut (loopAt (bodyOf Try.prog 3) 33).1 (loopAt (bodyOf Try.prog 3) 33).2 (St.mk [(0,AV.val (Ty.slc false (Ty.int IntKind.i64)) v0),(15,AV.ptr 15 []),(16,AV.val (Ty.int IntKind.i64) (0:Int)),(17,AV.val (Ty.int IntKind.i64) (0:Int)),(18,AV.val (Ty.int IntKind.i64) (0:Int)),(116,AV.val (Ty.int IntKind.i64) (↑(List.length v0):Int)),(117,AV.val (Ty.int IntKind.i64) (0:Int))] [(15,Ent.var (Ty.pair (Ty.slc false (Ty.int IntKind.i64)) (Ty.pair (Ty.slc true Is) (Ty.pair Ty.bool (Ty.pair (Ty.slc false (Ty.int IntKind.i64)) (Ty.pair (Ty.int IntKind.i64) Ty.unit))))) (Prod.fst (plF v0 o1000009)))])))):=by kernel_rfl
def ETopPicture_s18 (v0:List Int) (v10:Int) (v76:Int) (v78:Int) (v79:Int) (o1000009:List (Int×Int×Int×Int×Unit)):St:=St.mk [(0,AV.val (Ty.slc false (Ty.int IntKind.i64)) v0),(9,AV.at_ 1000009 []),(10,AV.val (Ty.int IntKind.i64) v10),(76,AV.val (Ty.int IntKind.i64) v76),(78,AV.val (Ty.int IntKind.i64) v78),(79,AV.val (Ty.int IntKind.i64) v79)] [(1000009,Ent.own (Ty.slc true (Ty.pair (Ty.int IntKind.i64) (Ty.pair (Ty.int IntKind.i64) PairT))) o1000009)]
theorem ETopPicture_l18 (v0:List Int) (v10:Int) (v76:Int) (v78:Int) (v79:Int) (o1000009:List (Int×Int×Int×Int×Unit)):exec ETopPicture 1000 (.code (loopAt (bodyOf Try.prog 3) 18).1::.inLoop (loopAt (bodyOf Try.prog 3) 18).1::(loopAt (bodyOf Try.prog 3) 18).2) (ETopPicture_s18 v0 v10 v76 v78 v79 o1000009) =
  cond (decide (v79<v78)) (.cut (loopAt (bodyOf Try.prog 3) 21).1 (loopAt (bodyOf Try.prog 3) 21).2 (St.mk [(0,AV.val (Ty.slc false (Ty.int IntKind.i64)) v0),(9,AV.at_ 1000009 []),(10,AV.val (Ty.int IntKind.i64) v10),(13,AV.val (Ty.int IntKind.i64) v79),(76,AV.val (Ty.int IntKind.i64) v76),(78,AV.val (Ty.int IntKind.i64) v78),(79,AV.val (Ty.int IntKind.i64) v79),(82,AV.val (Ty.int IntKind.i64) v10),(83,AV.val (Ty.int IntKind.i64) (0:Int))] [(1000009,Ent.own (Ty.slc true (Ty.pair (Ty.int IntKind.i64) (Ty.pair (Ty.int IntKind.i64) PairT))) o1000009)])) (.need (inK IntKind.i64 (v76+(1:Int))) (.cut (loopAt (bodyOf Try.prog 3) 16).1 (loopAt (bodyOf Try.prog 3) 16).2 (St.mk [(0,AV.val (Ty.slc false (Ty.int IntKind.i64)) v0),(9,AV.at_ 1000009 []),(10,AV.val (Ty.int IntKind.i64) v10),(76,AV.val (Ty.int IntKind.i64) (v76+(1:Int)))] [(1000009,Ent.own (Ty.slc true (Ty.pair (Ty.int IntKind.i64) (Ty.pair (Ty.int IntKind.i64) PairT))) o1000009)]))):=by kernel_rfl
def ETopPicture_s33 (v0:List Int) (v16:Int) (v17:Int) (v18:Int) (v116:Int) (v117:Int) (o15_1:List Int) (o15_2_1:List (List Int)) (o15_2_2_1:Bool) (o15_2_2_2_1:List Int) (o15_2_2_2_2_1:Int):St:=St.mk [(0,AV.val (Ty.slc false (Ty.int IntKind.i64)) v0),(15,AV.ptr 15 []),(16,AV.val (Ty.int IntKind.i64) v16),(17,AV.val (Ty.int IntKind.i64) v17),(18,AV.val (Ty.int IntKind.i64) v18),(116,AV.val (Ty.int IntKind.i64) v116),(117,AV.val (Ty.int IntKind.i64) v117)] [(15,Ent.var (Ty.pair (Ty.slc false (Ty.int IntKind.i64)) (Ty.pair (Ty.slc true Is) (Ty.pair Ty.bool (Ty.pair (Ty.slc false (Ty.int IntKind.i64)) (Ty.pair (Ty.int IntKind.i64) Ty.unit))))) (o15_1,o15_2_1,o15_2_2_1,o15_2_2_2_1,o15_2_2_2_2_1,()))]
theorem ETopPicture_l33 (v0:List Int) (v16:Int) (v17:Int) (v18:Int) (v116:Int) (v117:Int) (o15_1:List Int) (o15_2_1:List (List Int)) (o15_2_2_1:Bool) (o15_2_2_2_1:List Int) (o15_2_2_2_2_1:Int):exec ETopPicture 1000 (.code (loopAt (bodyOf Try.prog 3) 33).1::.inLoop (loopAt (bodyOf Try.prog 3) 33).1::(loopAt (bodyOf Try.prog 3) 33).2) (ETopPicture_s33 v0 v16 v17 v18 v116 v117 o15_1 o15_2_1 o15_2_2_1 o15_2_2_2_1 o15_2_2_2_2_1) =
  cond (decide (v117<v116)) (.need ((0:Int)≤v117∧v117<(↑(List.length v0):Int)) (.need (inK IntKind.i64 (v16+List.getD v0 (Int.toNat v117) (0:Int))) (.need ((0:Int)≤v117∧v117<(↑(List.length o15_1):Int)) (.need (inK IntKind.i64 (v18+List.getD o15_1 (Int.toNat v117) (0:Int))) (.need ((0:Int)≤v117∧v117<(↑(List.length o15_2_1):Int)) (.cut (loopAt (bodyOf Try.prog 3) 38).1 (loopAt (bodyOf Try.prog 3) 38).2 (St.mk [(0,AV.val (Ty.slc false (Ty.int IntKind.i64)) v0),(15,AV.ptr 15 []),(16,AV.val (Ty.int IntKind.i64) (v16+List.getD v0 (Int.toNat v117) (0:Int))),(17,AV.val (Ty.int IntKind.i64) v17),(18,AV.val (Ty.int IntKind.i64) (v18+List.getD o15_1 (Int.toNat v117) (0:Int))),(116,AV.val (Ty.int IntKind.i64) v116),(117,AV.val (Ty.int IntKind.i64) v117),(137,AV.at_ 15 [Step.fld 1,Step.idx v117]),(138,AV.val (Ty.int IntKind.i64) (↑(List.length (List.getD o15_2_1 (Int.toNat v117) [])):Int)),(139,AV.val (Ty.int IntKind.i64) (0:Int))] [(15,Ent.var (Ty.pair (Ty.slc false (Ty.int IntKind.i64)) (Ty.pair (Ty.slc true Is) (Ty.pair Ty.bool (Ty.pair (Ty.slc false (Ty.int IntKind.i64)) (Ty.pair (Ty.int IntKind.i64) Ty.unit))))) (o15_1,o15_2_1,o15_2_2_1,o15_2_2_2_1,o15_2_2_2_2_1,()))]))))))) (cond (!o15_2_2_1) (.ret ((true,()))) (.need (inK IntKind.i64 (v18+v17)) (.ret ((decide (v18+v17=v16),()))))):=by kernel_rfl
def ETopPicture_s21 (v0:List Int) (v10:Int) (v13:Int) (v76:Int) (v78:Int) (v79:Int) (v82:Int) (v83:Int) (o1000009:List (Int×Int×Int×Int×Unit)):St:=St.mk [(0,AV.val (Ty.slc false (Ty.int IntKind.i64)) v0),(9,AV.at_ 1000009 []),(10,AV.val (Ty.int IntKind.i64) v10),(13,AV.val (Ty.int IntKind.i64) v13),(76,AV.val (Ty.int IntKind.i64) v76),(78,AV.val (Ty.int IntKind.i64) v78),(79,AV.val (Ty.int IntKind.i64) v79),(82,AV.val (Ty.int IntKind.i64) v82),(83,AV.val (Ty.int IntKind.i64) v83)] [(1000009,Ent.own (Ty.slc true (Ty.pair (Ty.int IntKind.i64) (Ty.pair (Ty.int IntKind.i64) PairT))) o1000009)]
theorem ETopPicture_l21 (v0:List Int) (v10:Int) (v13:Int) (v76:Int) (v78:Int) (v79:Int) (v82:Int) (v83:Int) (o1000009:List (Int×Int×Int×Int×Unit)):exec ETopPicture 1000 (.code (loopAt (bodyOf Try.prog 3) 21).1::.inLoop (loopAt (bodyOf Try.prog 3) 21).1::(loopAt (bodyOf Try.prog 3) 21).2) (ETopPicture_s21 v0 v10 v13 v76 v78 v79 v82 v83 o1000009) =
  cond (decide (v83<v82)) (cond (decide (v13≠v83)) (cond (decide ((↑(List.length o1000009):Int)<(200:Int))) (.need (List.length o1000009+List.length (List.set [((0:Int),(0:Int),(0:Int),(0:Int),())] (Int.toNat (↑0:Int)) ((2:Int),v13,v83,(0:Int),()))≤140737488355328∧(List.length o1000009+List.length (List.set [((0:Int),(0:Int),(0:Int),(0:Int),())] (Int.toNat (↑0:Int)) ((2:Int),v13,v83,(0:Int),())))*Ty.wb (Ty.pair (Ty.int IntKind.i64) (Ty.pair (Ty.int IntKind.i64) PairT))≤140737488355328) (.need (inK IntKind.i64 (v83+(1:Int))) (.cut (loopAt (bodyOf Try.prog 3) 21).1 (loopAt (bodyOf Try.prog 3) 21).2 (St.mk [(0,AV.val (Ty.slc false (Ty.int IntKind.i64)) v0),(9,AV.at_ 1000009 []),(10,AV.val (Ty.int IntKind.i64) v10),(13,AV.val (Ty.int IntKind.i64) v13),(76,AV.val (Ty.int IntKind.i64) v76),(78,AV.val (Ty.int IntKind.i64) v78),(79,AV.val (Ty.int IntKind.i64) v79),(82,AV.val (Ty.int IntKind.i64) v82),(83,AV.val (Ty.int IntKind.i64) (v83+(1:Int)))] [(1000009,Ent.own (Ty.slc true (Ty.pair (Ty.int IntKind.i64) (Ty.pair (Ty.int IntKind.i64) PairT))) (o1000009++List.set [((0:Int),(0:Int),(0:Int),(0:Int),())] (Int.toNat (↑0:Int)) ((2:Int),v13,v83,(0:Int),())))])))) (.need (inK IntKind.i64 (v83+(1:Int))) (.cut (loopAt (bodyOf Try.prog 3) 21).1 (loopAt (bodyOf Try.prog 3) 21).2 (St.mk [(0,AV.val (Ty.slc false (Ty.int IntKind.i64)) v0),(9,AV.at_ 1000009 []),(10,AV.val (Ty.int IntKind.i64) v10),(13,AV.val (Ty.int IntKind.i64) v13),(76,AV.val (Ty.int IntKind.i64) v76),(78,AV.val (Ty.int IntKind.i64) v78),(79,AV.val (Ty.int IntKind.i64) v79),(82,AV.val (Ty.int IntKind.i64) v82),(83,AV.val (Ty.int IntKind.i64) (v83+(1:Int)))] [(1000009,Ent.own (Ty.slc true (Ty.pair (Ty.int IntKind.i64) (Ty.pair (Ty.int IntKind.i64) PairT))) o1000009)])))) (.need (inK IntKind.i64 (v83+(1:Int))) (.cut (loopAt (bodyOf Try.prog 3) 21).1 (loopAt (bodyOf Try.prog 3) 21).2 (St.mk [(0,AV.val (Ty.slc false (Ty.int IntKind.i64)) v0),(9,AV.at_ 1000009 []),(10,AV.val (Ty.int IntKind.i64) v10),(13,AV.val (Ty.int IntKind.i64) v13),(76,AV.val (Ty.int IntKind.i64) v76),(78,AV.val (Ty.int IntKind.i64) v78),(79,AV.val (Ty.int IntKind.i64) v79),(82,AV.val (Ty.int IntKind.i64) v82),(83,AV.val (Ty.int IntKind.i64) (v83+(1:Int)))] [(1000009,Ent.own (Ty.slc true (Ty.pair (Ty.int IntKind.i64) (Ty.pair (Ty.int IntKind.i64) PairT))) o1000009)])))) (.need (inK IntKind.i64 (v79+(1:Int))) (.cut (loopAt (bodyOf Try.prog 3) 18).1 (loopAt (bodyOf Try.prog 3) 18).2 (St.mk [(0,AV.val (Ty.slc false (Ty.int IntKind.i64)) v0),(9,AV.at_ 1000009 []),(10,AV.val (Ty.int IntKind.i64) v10),(76,AV.val (Ty.int IntKind.i64) v76),(78,AV.val (Ty.int IntKind.i64) v78),(79,AV.val (Ty.int IntKind.i64) (v79+(1:Int)))] [(1000009,Ent.own (Ty.slc true (Ty.pair (Ty.int IntKind.i64) (Ty.pair (Ty.int IntKind.i64) PairT))) o1000009)]))):=by kernel_rfl
def ETopPicture_s38 (v0:List Int) (v16:Int) (v17:Int) (v18:Int) (v116:Int) (v117:Int) (v137i:Int) (v138:Int) (v139:Int) (o15_1:List Int) (o15_2_1:List (List Int)) (o15_2_2_1:Bool) (o15_2_2_2_1:List Int) (o15_2_2_2_2_1:Int):St:=St.mk [(0,AV.val (Ty.slc false (Ty.int IntKind.i64)) v0),(15,AV.ptr 15 []),(16,AV.val (Ty.int IntKind.i64) v16),(17,AV.val (Ty.int IntKind.i64) v17),(18,AV.val (Ty.int IntKind.i64) v18),(116,AV.val (Ty.int IntKind.i64) v116),(117,AV.val (Ty.int IntKind.i64) v117),(137,AV.at_ 15 [Step.fld 1,Step.idx v137i]),(138,AV.val (Ty.int IntKind.i64) v138),(139,AV.val (Ty.int IntKind.i64) v139)] [(15,Ent.var (Ty.pair (Ty.slc false (Ty.int IntKind.i64)) (Ty.pair (Ty.slc true Is) (Ty.pair Ty.bool (Ty.pair (Ty.slc false (Ty.int IntKind.i64)) (Ty.pair (Ty.int IntKind.i64) Ty.unit))))) (o15_1,o15_2_1,o15_2_2_1,o15_2_2_2_1,o15_2_2_2_2_1,()))]
theorem ETopPicture_l38 (v0:List Int) (v16:Int) (v17:Int) (v18:Int) (v116:Int) (v117:Int) (v137i:Int) (v138:Int) (v139:Int) (o15_1:List Int) (o15_2_1:List (List Int)) (o15_2_2_1:Bool) (o15_2_2_2_1:List Int) (o15_2_2_2_2_1:Int):exec ETopPicture 1000 (.code (loopAt (bodyOf Try.prog 3) 38).1::.inLoop (loopAt (bodyOf Try.prog 3) 38).1::(loopAt (bodyOf Try.prog 3) 38).2) (ETopPicture_s38 v0 v16 v17 v18 v116 v117 v137i v138 v139 o15_1 o15_2_1 o15_2_2_1 o15_2_2_2_1 o15_2_2_2_2_1) =
  cond (decide (v139<v138)) (.need ((0:Int)≤v139∧v139<(↑(List.length (List.getD o15_2_1 (Int.toNat v137i) [])):Int)) (.need (inK IntKind.i64 (v17+List.getD (List.getD o15_2_1 (Int.toNat v137i) []) (Int.toNat v139) (0:Int))) (.need (inK IntKind.i64 (v139+(1:Int))) (.cut (loopAt (bodyOf Try.prog 3) 38).1 (loopAt (bodyOf Try.prog 3) 38).2 (St.mk [(0,AV.val (Ty.slc false (Ty.int IntKind.i64)) v0),(15,AV.ptr 15 []),(16,AV.val (Ty.int IntKind.i64) v16),(17,AV.val (Ty.int IntKind.i64) (v17+List.getD (List.getD o15_2_1 (Int.toNat v137i) []) (Int.toNat v139) (0:Int))),(18,AV.val (Ty.int IntKind.i64) v18),(116,AV.val (Ty.int IntKind.i64) v116),(117,AV.val (Ty.int IntKind.i64) v117),(137,AV.at_ 15 [Step.fld 1,Step.idx v137i]),(138,AV.val (Ty.int IntKind.i64) v138),(139,AV.val (Ty.int IntKind.i64) (v139+(1:Int)))] [(15,Ent.var (Ty.pair (Ty.slc false (Ty.int IntKind.i64)) (Ty.pair (Ty.slc true Is) (Ty.pair Ty.bool (Ty.pair (Ty.slc false (Ty.int IntKind.i64)) (Ty.pair (Ty.int IntKind.i64) Ty.unit))))) (o15_1,o15_2_1,o15_2_2_1,o15_2_2_2_1,o15_2_2_2_2_1,()))]))))) (.need (inK IntKind.i64 (v117+(1:Int))) (.cut (loopAt (bodyOf Try.prog 3) 33).1 (loopAt (bodyOf Try.prog 3) 33).2 (St.mk [(0,AV.val (Ty.slc false (Ty.int IntKind.i64)) v0),(15,AV.ptr 15 []),(16,AV.val (Ty.int IntKind.i64) v16),(17,AV.val (Ty.int IntKind.i64) v17),(18,AV.val (Ty.int IntKind.i64) v18),(116,AV.val (Ty.int IntKind.i64) v116),(117,AV.val (Ty.int IntKind.i64) (v117+(1:Int)))] [(15,Ent.var (Ty.pair (Ty.slc false (Ty.int IntKind.i64)) (Ty.pair (Ty.slc true Is) (Ty.pair Ty.bool (Ty.pair (Ty.slc false (Ty.int IntKind.i64)) (Ty.pair (Ty.int IntKind.i64) Ty.unit))))) (o15_1,o15_2_1,o15_2_2_1,o15_2_2_2_1,o15_2_2_2_2_1,()))]))):=by kernel_rfl
attribute [local irreducible] plF snE exec
set_option maxHeartbeats 1000000 in
theorem cTopPicture_valid:(smallC [.slc false I64,.slc false Move,I64]).Valid Try.prog 3:=by
  refine Ctr.valid_of ETopPicture_ok rfl rfl Try.func3 (c:=bodyOf Try.prog 3) rfl rfl FTopPicture_ok rfl ?_
  rintro ⟨(v:List Int),(l:List MoveD),(x:Int),⟨⟩⟩ hp -
  obtain ⟨hv,hl⟩:v.length≤1048576∧l.length≤1048576:=by
    have h2:=blkL_lenY (f:=Ty.bulk Move) (c:=1) (fun x=>by show 1≤_+1; omega) l
    have h3:=blkL_lenY (f:=Ty.bulk I64) (c:=1) (fun x=>by show 1≤1; omega) v
    have hb:bulkK [.slc false I64,.slc false Move,I64] (v,l,x,())≤1048576:=hp
    have h1:(bulkL (Ty.bulk I64) v+1)+((bulkL (Ty.bulk Move) l+1)+(Ty.bulk I64 x+0))≤1048576:=hb
    omega
  refine exec_sound (n:=1000) ETopPicture_ok FTopPicture_ok ?_
  refine holds_of_eq (ETopPicture_t v l x) ?_
  have one:∀ y:MoveD,List.set [((0:Int),(0:Int),(0:Int),(0:Int),())] (Int.toNat 0) y=[y]:=fun _=>rfl
  have w32:Ty.wb Move=32:=rfl
  simp only [holds_cond,Tree.holds,true_and,true_implies,decide_eq_true_eq,decide_eq_false_iff_not,Bool.not_eq_true',Bool.not_eq_false',Int.toNat_natCast,inK_i64,List.length_set,List.length_cons,List.length_nil,one,w32]
  refine ⟨fun _=>rfl,fun c0=>?_⟩
  refine Reach.loopI ETopPicture_ok FTopPicture_ok (fun s:Nat×List MoveD=>ETopPicture_s9 v l x (v.length:Int) l (l.length:Int) (s.1:Int) s.2) (fun s=>s.1≤l.length∧s.2.length≤2*s.1) (fun s=>l.length - s.1) 1000 (fun _=>⟨uniq_of rfl,uniq_of rfl⟩) ?_ (0,[]) ⟨Nat.zero_le _,Nat.le_refl _⟩
  rintro ⟨i,m⟩ ⟨(k1:i≤l.length),(k2:m.length≤2*i)⟩ - ih
  refine holds_of_eq (ETopPicture_l9 ..) ?_
  simp only [holds_cond,Tree.holds,true_and,true_implies,decide_eq_true_eq,decide_eq_false_iff_not,Bool.not_eq_true',Bool.not_eq_false',Int.toNat_natCast,inK_i64,List.length_set,List.length_cons,List.length_nil,one,w32,List.length_append]
  refine ⟨fun c=>⟨⟨by omega,by omega⟩,fun _=>⟨by omega,fun _=>⟨fun d=>⟨by omega,fun _=>⟨⟨by omega,by omega⟩,fun _=>⟨⟨by omega,by omega⟩,fun _=>⟨by omega,fun _=>?_⟩⟩⟩⟩,fun d=>⟨⟨by omega,by omega⟩,fun _=>⟨by omega,fun _=>?_⟩⟩⟩⟩⟩,fun c=>?_⟩
  · exact ih (i+1,m++[(3,rest x (v.length:Int),0,0,())]++[l.getD i (0,0,0,0,())]) ⟨by show i+1≤_; omega,by show (m++[_]++[_]).length≤_; simp only [List.length_append,List.length_singleton]; omega⟩ (by show l.length - (i+1)<l.length - i; omega)
  · exact ih (i+1,m++[l.getD i (0,0,0,0,())]) ⟨by show i+1≤_; omega,by show (m++[_]).length≤_; simp only [List.length_append,List.length_singleton]; omega⟩ (by show l.length - (i+1)<l.length - i; omega)
  have hm0:m.length≤3000000:=by omega
  refine Reach.loopI ETopPicture_ok FTopPicture_ok (fun s:Nat×List MoveD=>ETopPicture_s16 v (v.length:Int) (s.1:Int) s.2) (fun s=>s.1≤6∧s.2.length≤3000000) (fun s=>6 - s.1) 1000 (fun _=>⟨uniq_of rfl,uniq_of rfl⟩) ?_ (0,m) ⟨Nat.zero_le _,hm0⟩
  rintro ⟨r,m⟩ ⟨(k3:r≤6),(k4:m.length≤3000000)⟩ - ih2
  refine holds_of_eq (ETopPicture_l16 ..) ?_
  simp only [holds_cond,Tree.holds,true_and,true_implies,decide_eq_true_eq,decide_eq_false_iff_not,Bool.not_eq_true',Bool.not_eq_false',Int.toNat_natCast,inK_i64,List.length_set,List.length_cons,List.length_nil]
  refine ⟨fun c2=>?_,fun c2=>?_⟩
  · refine Reach.loopI ETopPicture_ok FTopPicture_ok (fun s:Nat×List MoveD=>ETopPicture_s18 v (v.length:Int) (r:Int) (v.length:Int) (s.1:Int) s.2) (fun s=>s.1≤v.length∧s.2.length≤3000000) (fun s=>v.length - s.1) 1000 (fun _=>⟨uniq_of rfl,uniq_of rfl⟩) ?_ (0,m) ⟨Nat.zero_le _,k4⟩
    rintro ⟨a,m⟩ ⟨(k5:a≤v.length),(k6:m.length≤3000000)⟩ - ih3
    refine holds_of_eq (ETopPicture_l18 ..) ?_
    simp only [holds_cond,Tree.holds,true_and,true_implies,decide_eq_true_eq,decide_eq_false_iff_not,Bool.not_eq_true',Bool.not_eq_false',Int.toNat_natCast,inK_i64,List.length_set,List.length_cons,List.length_nil]
    refine ⟨fun c3=>?_,fun c3=>⟨by omega,fun _=>ih2 (r+1,m) ⟨by show r+1≤6; omega,k6⟩ (by show 6 - (r+1)<6 - r; omega)⟩⟩
    refine Reach.loopI ETopPicture_ok FTopPicture_ok (fun s:Nat×List MoveD=>ETopPicture_s21 v (v.length:Int) (a:Int) (r:Int) (v.length:Int) (a:Int) (v.length:Int) (s.1:Int) s.2) (fun s=>s.1≤v.length∧s.2.length≤3000000) (fun s=>v.length - s.1) 1000 (fun _=>⟨uniq_of rfl,uniq_of rfl⟩) ?_ (0,m) ⟨Nat.zero_le _,k6⟩
    rintro ⟨b,m⟩ ⟨(k7:b≤v.length),(k8:m.length≤3000000)⟩ - ih4
    refine holds_of_eq (ETopPicture_l21 ..) ?_
    simp only [holds_cond,Tree.holds,true_and,true_implies,decide_eq_true_eq,decide_eq_false_iff_not,Bool.not_eq_true',Bool.not_eq_false',Int.toNat_natCast,inK_i64,List.length_set,List.length_cons,List.length_nil,one,w32]
    have stay:b<v.length→_:=fun h=>ih4 (b+1,m) ⟨h,k8⟩ (by show v.length - (b+1)<v.length - b; omega)
    refine ⟨fun c4=>⟨fun c5=>⟨fun c6=>⟨⟨by omega,by omega⟩,fun _=>⟨by omega,fun _=>?_⟩⟩,fun c6=>⟨by omega,fun _=>stay (by omega)⟩⟩,fun c5=>⟨by omega,fun _=>stay (by omega)⟩⟩,fun c4=>⟨by omega,fun _=>?_⟩⟩
    · exact ih4 (b+1,m++[(2,(a:Int),(b:Int),0,())]) ⟨by show b+1≤_; omega,by show (m++[_]).length≤_; simp only [List.length_append,List.length_singleton]; omega⟩ (by show v.length - (b+1)<v.length - b; omega)
    · exact ih3 (a+1,m) ⟨by show a+1≤_; omega,k8⟩ (by show v.length - (a+1)<v.length - a; omega)
  by_cases h:snE v m=0
  · have hpl:=plF_ok h
    obtain ⟨f1,f2⟩:=snap_sum h
    obtain ⟨r1,r2,r3,r4,r5,r6,r7,r8,r9⟩:=pic_rows h
    obtain ⟨o1,o2,o3,o4⟩:=snE_ok h
    have o3:∀ i,0≤v.getD i 0∧v.getD i 0≤1000000000:=fun i=>by have:=o3 i; omega
    simp only [hpl]
    generalize picF (mvsF (g0 v) m m.length)=q at *
    obtain ⟨H,rows,w,N,u,⟨⟩⟩:=q
    simp only at *
    refine ⟨fun c=>absurd rfl c,fun _=>?_⟩
    have hrb:∀ k,k≤v.length→0≤sm (fun p=>sumTo (rows.getD p []) v.length) k∧sm (fun p=>sumTo (rows.getD p []) v.length) k≤6000000000*(k:Int):=by
      intro k
      induction k with
      | zero=>exact fun _=>⟨Int.le_refl _,Int.le_refl _⟩
      | succ k ihk =>
        intro hk
        have e1:=ihk (by omega)
        have e2:=sumTo_le (r5 k (by omega)) v.length
        rw [sm]; push_cast; omega
    refine Reach.loopI ETopPicture_ok FTopPicture_ok (fun k:Nat=>ETopPicture_s33 v (sumTo v k) (sm (fun p=>sumTo (rows.getD p []) v.length) k) (sumTo H k) (v.length:Int) (k:Int) H rows w N u) (fun k=>k≤v.length) (fun k=>v.length - k) 1000 (fun _=>⟨uniq_of rfl,uniq_of rfl⟩) ?_ 0 (Nat.zero_le _)
    rintro k (j1:k≤v.length) - ih5
    refine holds_of_eq (ETopPicture_l33 ..) ?_
    have b1:=sumTo_le o3 k
    have b2:=sumTo_le r6 k
    have b3:=hrb k j1
    have b4:=o3 k
    have b5:=r6 k
    simp only [holds_cond,Tree.holds,true_and,true_implies,decide_eq_true_eq,decide_eq_false_iff_not,Bool.not_eq_true',Bool.not_eq_false',Int.toNat_natCast,inK_i64,List.length_set,List.length_cons,List.length_nil]
    refine ⟨fun c5=>⟨⟨by omega,by omega⟩,fun _=>⟨⟨by omega,by omega⟩,fun _=>⟨⟨by omega,by omega⟩,fun _=>⟨⟨by omega,by omega⟩,fun _=>⟨⟨by omega,by omega⟩,fun _=>?_⟩⟩⟩⟩⟩,fun c5=>⟨fun _=>rfl,fun d=>⟨⟨by omega,by omega⟩,fun _=>?_⟩⟩⟩
    · have hk:k<v.length:=by omega
      have e1:=r4 k hk
      rw [e1]
      have nx:sumTo v (k+1)=sumTo v k+v.getD k 0:=rfl
      have ny:sumTo H (k+1)=sumTo H k+H.getD k 0:=rfl
      have nz:sm (fun p=>sumTo (rows.getD p []) v.length) (k+1)=sm (fun p=>sumTo (rows.getD p []) v.length) k+sumTo (rows.getD k []) v.length:=rfl
      have next:=ih5 (k+1) (by omega) (by omega)
      rw [nx,ny,nz] at next
      have h0:sm (fun p=>sumTo (rows.getD p []) v.length) k=sm (fun p=>sumTo (rows.getD p []) v.length) k+sumTo (rows.getD k []) 0:=by
        show _=_+0; omega
      have inner:Go.Ex.Reach ETopPicture Try.f3 (true,()) () (.code (loopAt (bodyOf Try.prog 3) 38).1::.inLoop (loopAt (bodyOf Try.prog 3) 38).1::(loopAt (bodyOf Try.prog 3) 38).2) (ETopPicture_s38 v (sumTo v k+v.getD k 0) (sm (fun p=>sumTo (rows.getD p []) v.length) k+sumTo (rows.getD k []) 0) (sumTo H k+H.getD k 0) (v.length:Int) (k:Int) (k:Int) (v.length:Int) ((0:Nat):Int) H rows w N u):=by
        refine Reach.loopI ETopPicture_ok FTopPicture_ok (fun j:Nat=>ETopPicture_s38 v (sumTo v k+v.getD k 0) (sm (fun p=>sumTo (rows.getD p []) v.length) k+sumTo (rows.getD k []) j) (sumTo H k+H.getD k 0) (v.length:Int) (k:Int) (k:Int) (v.length:Int) (j:Int) H rows w N u) (fun j=>j≤v.length) (fun j=>v.length - j) 1000 (fun _=>⟨uniq_of rfl,uniq_of rfl⟩) ?_ 0 (Nat.zero_le _)
        rintro j (j2:j≤v.length) - ih6
        refine holds_of_eq (ETopPicture_l38 ..) ?_
        have e2:=sumTo_le (r5 k hk) j
        have e3:=r5 k hk j
        simp only [holds_cond,Tree.holds,true_and,true_implies,decide_eq_true_eq,decide_eq_false_iff_not,Bool.not_eq_true',Bool.not_eq_false',Int.toNat_natCast,inK_i64,List.length_set,List.length_cons,List.length_nil]
        refine ⟨fun c6=>⟨⟨by omega,by omega⟩,fun _=>⟨⟨by omega,by omega⟩,fun _=>⟨by omega,fun _=>?_⟩⟩⟩,fun c6=>⟨by omega,fun _=>?_⟩⟩
        · have nj:sumTo (rows.getD k []) (j+1)=sumTo (rows.getD k []) j+(rows.getD k []).getD j 0:=rfl
          have next2:=ih6 (j+1) (by omega) (by omega)
          rw [nj,← Int.add_assoc] at next2
          exact next2
        · obtain rfl:j=v.length:=by omega
          exact next
      rw [← h0] at inner
      exact inner
    · obtain rfl:k=v.length:=by omega
      have d:w=true:=by simpa using d
      have:=f2 d
      show ((decide _,()):Bool×Unit)=(true,())
      rw [decide_eq_true this]
  · have hpl:=plF_no h
    simp only [hpl]
    refine ⟨fun _=>?_,fun d=>absurd h d⟩
    first|exact rfl|(show ((decide True,()):Bool×Unit)=(true,()); rfl)|simp
end Go.Proofs.Ytgmbfnlhmnpciaa
