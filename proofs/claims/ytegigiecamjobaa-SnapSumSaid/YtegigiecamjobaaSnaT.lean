/- SnapSum's law. -/
import Derived.Test.YtegigiecamjobaaSnaS
namespace Go.Proofs.Ytegigiecamjobaa
open Go.Ex
set_option maxRecDepth 100000
theorem snap_sum {v:List Int} {l:List MoveD} (h:snE v l=0) :
    sumTo (picF (mvsF (g0 v) l l.length)).2.2.2.1 v.length+(picF (mvsF (g0 v) l l.length)).2.2.2.2.1=sumTo v v.length ∧
    ((picF (mvsF (g0 v) l l.length)).2.2.1=true→sumTo (picF (mvsF (g0 v) l l.length)).1 v.length+sm (fun p=>sumTo ((picF (mvsF (g0 v) l l.length)).2.1.getD p []) v.length) v.length=sumTo v v.length):=by
  have hs:=SI.moves h l.length (Nat.le_refl _)
  have hg:=GW.moves h l.length (Nat.le_refl _)
  generalize mvsF (g0 v) l l.length=g at *
  obtain ⟨N,H,R,L,⟨⟩⟩:=g
  have h4:L.length=v.length:=hg.ll
  have h3:R.length=v.length:=hg.lr
  have hr:∀ i,i<v.length→(L.getD i []).length=v.length:=hg.row
  have hd:picF (N,H,R,L,())=(H,(picS L (!decide (false∈R)) L.length).1,(picS L (!decide (false∈R)) L.length).2.1,N,(picS L (!decide (false∈R)) L.length).2.2,()):=rfl
  rw [hd]
  dsimp only
  refine ⟨?_,fun hw=>?_⟩
  · rw [h4,picS_und hr _ (Nat.le_refl _)]
    exact hs.all
  · rw [h4] at hw ⊢
    obtain ⟨w1,w2⟩:=picS_all hr _ (Nat.le_refl _) hw
    have hR:∀ i,i<v.length→R.getD i false=true:=by
      intro i hi
      cases e:R.getD i false with
      | true=>rfl
      | false =>
        have:false∈R:=by
          rw [← e]; exact getD_mem (by omega)
        simp [this] at w1
    have hb:=hs.rec_
    rw [show sumTo v v.length=sm (fun i=>if R.getD i false=true then H.getD i 0 else N.getD i 0) v.length+sm2 (fun i j=>lp (laneAt L i j)) v.length from hb.symm]
    congr 1
    · unfold sumTo
      exact sm_congr (fun i hi=>by rw [if_pos (hR i hi)])
    · refine sm_congr (fun p hp=>?_)
      obtain ⟨r1,r2⟩:=picS_row (w:=!decide (false∈R)) hr (Nat.le_refl _) hp
      unfold sumTo
      refine sm_congr (fun q hq=>?_)
      rw [r2 q hq]
      show _=lp (laneAt L p q)
      unfold lp
      rcases w2 p q hp hq with rfl|hc
      · rw [show laneAt L p p=l0 from hs.diag p hp]; rfl
      · rw [hc]; simp
theorem pic_rows {v:List Int} {l:List MoveD} (h:snE v l=0):(picF (mvsF (g0 v) l l.length)).2.1.length=v.length∧(picF (mvsF (g0 v) l l.length)).1.length=v.length∧(picF (mvsF (g0 v) l l.length)).2.2.2.1.length=v.length ∧
    (∀ p,p<v.length→((picF (mvsF (g0 v) l l.length)).2.1.getD p []).length=v.length)∧(∀ p,p<v.length→∀ q,0≤((picF (mvsF (g0 v) l l.length)).2.1.getD p []).getD q 0∧((picF (mvsF (g0 v) l l.length)).2.1.getD p []).getD q 0≤1000000000) ∧
    (∀ i,0≤(picF (mvsF (g0 v) l l.length)).1.getD i 0∧(picF (mvsF (g0 v) l l.length)).1.getD i 0≤1000000000)∧(∀ i,0≤(picF (mvsF (g0 v) l l.length)).2.2.2.1.getD i 0∧(picF (mvsF (g0 v) l l.length)).2.2.2.1.getD i 0≤1000000000)∧0≤(picF (mvsF (g0 v) l l.length)).2.2.2.2.1∧(picF (mvsF (g0 v) l l.length)).2.2.2.2.1≤100000000000:=by
  have hg:=GW.moves h l.length (Nat.le_refl _)
  have hh:=HB.moves h l.length (Nat.le_refl _)
  obtain ⟨o1,o2,o3,o4⟩:=snE_ok h
  have hsz:=hg.sized (by omega)
  have hsm:=hg.small (by omega)
  generalize mvsF (g0 v) l l.length=g at *
  obtain ⟨N,H,R,L,⟨⟩⟩:=g
  have h4:L.length=v.length:=hg.ll
  have hr:∀ i,i<v.length→(L.getD i []).length=v.length:=hg.row
  have hd:picF (N,H,R,L,())=(H,(picS L (!decide (false∈R)) L.length).1,(picS L (!decide (false∈R)) L.length).2.1,N,(picS L (!decide (false∈R)) L.length).2.2,()):=rfl
  rw [hd]
  dsimp only
  have hb:=picS_le (L:=L) (w:=!decide (false∈R)) o1.2 (fun i hi=>hr i (by omega)) (fun i j hi hj=>⟨fun x hx=>((hsm.2 i j).1 x hx).2,hsz.2.2.2.2.2 i j (by omega) hj⟩) L.length (Nat.le_refl _)
  have hN:∀ i,0≤N.getD i 0∧N.getD i 0≤1000000000:=hsm.1
  refine ⟨by rw [picS_len]; exact h4,hg.lh,hg.ln,fun p hp=>?_,fun p hp q=>?_,fun i=>?_,hN,hb.1,by omega⟩
  · rw [h4]; exact (picS_row hr (Nat.le_refl _) hp).1
  · rw [h4]
    obtain ⟨r1,r2⟩:=picS_row (w:=!decide (false∈R)) hr (Nat.le_refl _) hp
    by_cases e:q<v.length
    · rw [r2 q e]
      have:=(hsm.2 p q).2
      exact this
    · rw [List.getD_eq_getElem?_getD (l:=(picS L (!decide (false∈R)) v.length).1.getD p []),List.getElem?_eq_none (by omega)]; decide
  · have:0≤H.getD i 0∧H.getD i 0≤1000000*((l.length:Int)+1):=hh i
    omega
def cSnapSum:Ctr:={ ps:=[.v (.slc false I64),.v (.slc false Move)],rs:=[.bool],pre:=fun _=>True,fn:=fun _=>(true,()),out:=fun _=>() }
noncomputable def ESnapSum:Env:={ P:=Try.prog,tt:=tt,ctr:=[(19,cplay),(29,ceqI),(30,csumO),(20,csnck)],res:=[Go.ResultVar.tmp 4],rs:=[Ty.bool],ps:=[PK.v (Ty.slc false (Ty.int IntKind.i64)),PK.v (Ty.slc false (Ty.pair (Ty.int IntKind.i64) (Ty.pair (Ty.int IntKind.i64) PairT)))],cuts:=[(9,[(0,none),(7,none),(9,none),(56,none),(57,none),(58,none)])],nt:=87 }
theorem ESnapSum_ok:EnvOk ESnapSum:=envOk tt_ok ⟨cplay_valid,ceqI_valid,csumO_valid,csnck_valid,trivial⟩
theorem FSnapSum_ok:FnOk ESnapSum Try.f6:=⟨rfl,rfl⟩
theorem ESnapSum_t (x0:List Int) (x1:List (Int×Int×Int×Int×Unit)):exec ESnapSum 1000 [.code (bodyOf Try.prog 6)] (initSt cSnapSum.ps ((x0,x1,()))) =
  .need (True) (.need (True) (.need (True) (cond (decide (Prod.fst (Prod.snd (plF x0 x1))≠(0:Int))) (cond (decide ((↑(List.length (Prod.fst (Prod.fst (plF x0 x1)))):Int)=(0:Int))) (.need (True) (.ret ((decide (snE x0 x1=Prod.fst (Prod.snd (plF x0 x1))),())))) (.ret ((false,())))) (.need (List.length (Prod.fst (Prod.fst (plF x0 x1)))≤1000∧∀ (i:Nat),(0:Int)≤List.getD (Prod.fst (Prod.fst (plF x0 x1))) i (0:Int)∧List.getD (Prod.fst (Prod.fst (plF x0 x1))) i (0:Int)≤(1000000000:Int)) (.cut (loopAt (bodyOf Try.prog 6) 9).1 (loopAt (bodyOf Try.prog 6) 9).2 (St.mk [(0,AV.val (Ty.slc false (Ty.int IntKind.i64)) x0),(7,AV.ptr 7 []),(9,AV.val (Ty.int IntKind.i64) (sumTo (Prod.fst (Prod.fst (plF x0 x1))) (List.length (Prod.fst (Prod.fst (plF x0 x1)))))),(56,AV.at_ 7 [Step.fld 1]),(57,AV.val (Ty.int IntKind.i64) (↑(List.length (Prod.fst (Prod.snd (Prod.fst (plF x0 x1))))):Int)),(58,AV.val (Ty.int IntKind.i64) (0:Int))] [(7,Ent.var (Ty.pair (Ty.slc false (Ty.int IntKind.i64)) (Ty.pair (Ty.slc true Is) (Ty.pair Ty.bool (Ty.pair (Ty.slc false (Ty.int IntKind.i64)) (Ty.pair (Ty.int IntKind.i64) Ty.unit))))) (Prod.fst (plF x0 x1)))])))))):=by kernel_rfl
def ESnapSum_s9 (v0:List Int) (v9:Int) (v57:Int) (v58:Int) (o7_1:List Int) (o7_2_1:List (List Int)) (o7_2_2_1:Bool) (o7_2_2_2_1:List Int) (o7_2_2_2_2_1:Int):St:=St.mk [(0,AV.val (Ty.slc false (Ty.int IntKind.i64)) v0),(7,AV.ptr 7 []),(9,AV.val (Ty.int IntKind.i64) v9),(56,AV.at_ 7 [Step.fld 1]),(57,AV.val (Ty.int IntKind.i64) v57),(58,AV.val (Ty.int IntKind.i64) v58)] [(7,Ent.var (Ty.pair (Ty.slc false (Ty.int IntKind.i64)) (Ty.pair (Ty.slc true Is) (Ty.pair Ty.bool (Ty.pair (Ty.slc false (Ty.int IntKind.i64)) (Ty.pair (Ty.int IntKind.i64) Ty.unit))))) (o7_1,o7_2_1,o7_2_2_1,o7_2_2_2_1,o7_2_2_2_2_1,()))]
theorem ESnapSum_l9 (v0:List Int) (v9:Int) (v57:Int) (v58:Int) (o7_1:List Int) (o7_2_1:List (List Int)) (o7_2_2_1:Bool) (o7_2_2_2_1:List Int) (o7_2_2_2_2_1:Int):exec ESnapSum 1000 (.code (loopAt (bodyOf Try.prog 6) 9).1::.inLoop (loopAt (bodyOf Try.prog 6) 9).1::(loopAt (bodyOf Try.prog 6) 9).2) (ESnapSum_s9 v0 v9 v57 v58 o7_1 o7_2_1 o7_2_2_1 o7_2_2_2_1 o7_2_2_2_2_1) =
  cond (decide (v58<v57)) (.need ((0:Int)≤v58∧v58<(↑(List.length o7_2_1):Int)) (.need (List.length (List.getD o7_2_1 (Int.toNat v58) [])≤1000∧∀ (i:Nat),(0:Int)≤List.getD (List.getD o7_2_1 (Int.toNat v58) []) i (0:Int)∧List.getD (List.getD o7_2_1 (Int.toNat v58) []) i (0:Int)≤(1000000000:Int)) (.need (inK IntKind.i64 (v9+sumTo (List.getD o7_2_1 (Int.toNat v58) []) (List.length (List.getD o7_2_1 (Int.toNat v58) [])))) (.need (inK IntKind.i64 (v58+(1:Int))) (.cut (loopAt (bodyOf Try.prog 6) 9).1 (loopAt (bodyOf Try.prog 6) 9).2 (St.mk [(0,AV.val (Ty.slc false (Ty.int IntKind.i64)) v0),(7,AV.ptr 7 []),(9,AV.val (Ty.int IntKind.i64) (v9+sumTo (List.getD o7_2_1 (Int.toNat v58) []) (List.length (List.getD o7_2_1 (Int.toNat v58) [])))),(56,AV.at_ 7 [Step.fld 1]),(57,AV.val (Ty.int IntKind.i64) v57),(58,AV.val (Ty.int IntKind.i64) (v58+(1:Int)))] [(7,Ent.var (Ty.pair (Ty.slc false (Ty.int IntKind.i64)) (Ty.pair (Ty.slc true Is) (Ty.pair Ty.bool (Ty.pair (Ty.slc false (Ty.int IntKind.i64)) (Ty.pair (Ty.int IntKind.i64) Ty.unit))))) (o7_1,o7_2_1,o7_2_2_1,o7_2_2_2_1,o7_2_2_2_2_1,()))])))))) (.need (List.length o7_2_2_2_1≤1000∧∀ (i:Nat),(0:Int)≤List.getD o7_2_2_2_1 i (0:Int)∧List.getD o7_2_2_2_1 i (0:Int)≤(1000000000:Int)) (.need (inK IntKind.i64 (sumTo o7_2_2_2_1 (List.length o7_2_2_2_1)+o7_2_2_2_2_1)) (.need (List.length v0≤1000∧∀ (i:Nat),(0:Int)≤List.getD v0 i (0:Int)∧List.getD v0 i (0:Int)≤(1000000000:Int)) (cond (decide (sumTo o7_2_2_2_1 (List.length o7_2_2_2_1)+o7_2_2_2_2_1=sumTo v0 (List.length v0))) (cond (!o7_2_2_1) (.ret ((true,()))) (.need (List.length v0≤1000∧∀ (i:Nat),(0:Int)≤List.getD v0 i (0:Int)∧List.getD v0 i (0:Int)≤(1000000000:Int)) (.ret ((decide (v9=sumTo v0 (List.length v0)),()))))) (.ret ((false,()))))))):=by kernel_rfl
theorem plF_ok {v:List Int} {l:List MoveD} (a:snE v l=0):plF v l=(picF (mvsF (g0 v) l l.length),0,()):=if_neg (by rw [a]; simp)
theorem plF_no {v:List Int} {l:List MoveD} (a:¬ snE v l=0):plF v l=(p0,snE v l,()):=if_pos a
attribute [local irreducible] plF snE exec
set_option maxHeartbeats 1000000 in
theorem cSnapSum_valid:cSnapSum.Valid Try.prog 6:=by
  refine Ctr.valid_of ESnapSum_ok rfl rfl Try.func6 (c:=bodyOf Try.prog 6) rfl rfl FSnapSum_ok rfl ?_
  rintro ⟨(v:List Int),(l:List MoveD),⟨⟩⟩ - -
  refine exec_sound (n:=1000) ESnapSum_ok FSnapSum_ok ?_
  refine holds_of_eq (ESnapSum_t v l) ?_
  simp only [holds_cond,Tree.holds,true_and,true_implies,decide_eq_true_eq,decide_eq_false_iff_not,Bool.not_eq_true',Bool.not_eq_false',Int.toNat_natCast,inK_i64,List.length_set,List.length_cons,List.length_nil]
  by_cases a:snE v l=0
  · have hp:=plF_ok a
    obtain ⟨f1,f2⟩:=snap_sum a
    obtain ⟨r1,r2,r3,r4,r5,r6,r7,r8,r9⟩:=pic_rows a
    obtain ⟨o1,o2,o3,o4⟩:=snE_ok a
    have o3:∀ i,0≤v.getD i 0∧v.getD i 0≤1000000000:=fun i=>by have:=o3 i; omega
    simp only [hp]
    generalize picF (mvsF (g0 v) l l.length)=q at *
    obtain ⟨H,rows,w,N,u,⟨⟩⟩:=q
    simp only at *
    refine ⟨fun c=>absurd rfl c,fun _=>⟨⟨by omega,r6⟩,fun _=>?_⟩⟩
    have b0:=sumTo_le r6 H.length
    have bN:=sumTo_le r7 N.length
    have h0:sumTo H H.length=sumTo H H.length+sm (fun p=>sumTo (rows.getD p []) v.length) 0:=by rw [sm]; omega
    rw [h0]
    refine Reach.loopI ESnapSum_ok FSnapSum_ok (fun i:Nat=>ESnapSum_s9 v (sumTo H H.length+sm (fun p=>sumTo (rows.getD p []) v.length) i) (rows.length:Int) (i:Int) H rows w N u) (fun i=>i≤v.length∧0≤sm (fun p=>sumTo (rows.getD p []) v.length) i∧sm (fun p=>sumTo (rows.getD p []) v.length) i≤6000000000*(i:Int)) (fun i=>v.length - i) 1000 (fun _=>⟨uniq_of rfl,uniq_of rfl⟩) ?_ 0 ⟨Nat.zero_le _,Int.le_refl _,Int.le_refl _⟩
    rintro i ⟨k1,k2,k3⟩ - ih
    refine holds_of_eq (ESnapSum_l9 ..) ?_
    simp only [holds_cond,Tree.holds,true_and,true_implies,decide_eq_true_eq,decide_eq_false_iff_not,Bool.not_eq_true',Bool.not_eq_false',Int.toNat_natCast,inK_i64,List.length_set,List.length_cons,List.length_nil]
    refine ⟨fun c=>?_,fun c=>?_⟩
    · have hi:i<v.length:=by omega
      have e1:=r4 i hi
      have e2:=sumTo_le (r5 i hi) v.length
      have next:=ih (i+1) ⟨by omega,by rw [sm]; omega,by rw [sm]; push_cast; omega⟩ (by omega)
      rw [sm] at next
      rw [e1]
      refine ⟨⟨by omega,by omega⟩,fun _=>⟨⟨by omega,r5 i hi⟩,fun _=>⟨⟨by omega,by omega⟩,fun _=>⟨by omega,fun _=>?_⟩⟩⟩⟩
      rw [Int.add_assoc]
      exact next
    · obtain rfl:i=v.length:=by omega
      rw [r3]
      refine ⟨⟨by omega,r7⟩,fun _=>⟨⟨by rw [r3] at bN; omega,by rw [r3] at bN; omega⟩,fun _=>⟨⟨by omega,o3⟩,fun _=>⟨fun _=>⟨fun _=>rfl,fun d=>⟨⟨by omega,o3⟩,fun _=>?_⟩⟩,fun d=>absurd f1 d⟩⟩⟩⟩
      have:=f2 d
      show ((decide _,()):Bool×Unit)=(true,())
      rw [decide_eq_true (by rw [r2]; exact this)]
  · have hp:=plF_no a
    simp only [hp]
    refine ⟨fun _=>⟨fun _=>?_,fun d=>absurd rfl d⟩,fun d=>absurd a d⟩
    first|exact rfl|(show ((decide True,()):Bool×Unit)=(true,()); rfl)|simp
end Go.Proofs.Ytegigiecamjobaa
