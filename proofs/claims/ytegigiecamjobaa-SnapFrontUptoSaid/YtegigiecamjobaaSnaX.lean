/- SnapFront: the walk. -/
import Derived.Test.YtegigiecamjobaaSnaU
namespace Go.Proofs.Ytegigiecamjobaa
open Go.Ex
set_option maxRecDepth 100000
theorem sum_len_take {α:Type}:∀ (l:List (List α)) (i:Nat),((l.take i).map List.length).sum≤l.flatten.length
  | [],i=>by simp
  | a::l,0=>by simp
  | a::l,i+1=>by have:=sum_len_take l i; simp only [List.take_succ_cons,List.map_cons,List.sum_cons,List.flatten_cons,List.length_append]; omega
theorem take_getD {α:Type} {l:List α} {i:Nat} (h:i<l.length) (d:α):l.take (i+1)=l.take i++[l.getD i d]:=by
  rw [List.take_add_one,List.getElem?_eq_getElem h,List.getD_eq_getElem?_getD,List.getElem?_eq_getElem h]; rfl
theorem wb_move:Ty.wb Move=32:=rfl
def cgrowV:Ctr:={ ps:=[.nilS,.v I64],rs:=[.slc true Move],pre:=fun x=>LE.le (α:=Int) 0 x.2.1∧LE.le (α:=Int) x.2.1 1048576,fn:=fun _=>([],()),out:=fun _=>() }
noncomputable def EgrowV:Env:={ P:=Try.prog,tt:=tt,ctr:=[],res:=[Go.ResultVar.tmp 4],rs:=[Ty.slc true (Ty.pair (Ty.int IntKind.i64) (Ty.pair (Ty.int IntKind.i64) PairT))],ps:=[PK.nilS,PK.v (Ty.int IntKind.i64)],cuts:=[],nt:=27 }
theorem EgrowV_ok:EnvOk EgrowV:=envOk tt_ok trivial
theorem FgrowV_ok:FnOk EgrowV Try.f80:=⟨rfl,rfl⟩
theorem EgrowV_t (x1:Int):exec EgrowV 1000 [.code (bodyOf Try.prog 80)] (initSt cgrowV.ps (((),x1,()))) =
  cond (decide (x1<(0:Int))) (.stuck "op") (.need (inK IntKind.i64 ((0:Int) - (0:Int))) (.need (inK IntKind.i64 (x1 - ((0:Int) - (0:Int)))) (cond (decide ((0:Int)<x1 - ((0:Int) - (0:Int)))) (.need ((0:Int)=(0:Int)∧(0:Int)=(0:Int)) (.need ((0:Int)≤x1 - ((0:Int) - (0:Int))∧x1 - ((0:Int) - (0:Int))≤(140737488355328:Int)∧(x1 - ((0:Int) - (0:Int)))*(↑(Ty.wb (Ty.pair (Ty.int IntKind.i64) (Ty.pair (Ty.int IntKind.i64) PairT))):Int)≤(140737488355328:Int)) (.need ((0:Int)≤(0:Int)∧(0:Int)≤(0:Int)∧(0:Int)≤(↑(List.length (List.replicate (Int.toNat (x1 - ((0:Int) - (0:Int)))) m0)):Int)) (.ret ((cut2 (0:Int) (0:Int) (List.replicate (Int.toNat (x1 - ((0:Int) - (0:Int)))) m0),())))))) (.ret (([],())))))):=by kernel_rfl
theorem cgrowV_valid:cgrowV.Valid Try.prog 80:=by
  refine Ctr.valid_of EgrowV_ok rfl rfl Try.func80 (c:=bodyOf Try.prog 80) rfl rfl FgrowV_ok rfl ?_
  rintro ⟨⟨⟩,(n:Int),⟨⟩⟩ ⟨(h0:0≤n),(h1:n≤1048576)⟩ -
  refine exec_sound (n:=1000) EgrowV_ok FgrowV_ok ?_
  refine holds_of_eq (EgrowV_t n) ?_
  simp only [holds_cond,Tree.holds,true_and,true_implies,decide_eq_true_eq,decide_eq_false_iff_not,Bool.not_eq_true',Bool.not_eq_false',Int.toNat_natCast,inK_i64,List.length_set,List.length_cons,List.length_nil,wb_move]
  refine ⟨fun h=>by omega,fun _=>⟨by omega,fun _=>⟨by omega,fun _=>⟨fun _=>⟨by omega,fun _=>⟨by omega,fun _=>?_⟩⟩,fun _=>rfl⟩⟩⟩⟩
  rfl
def cconV:Ctr:={ ps:=[.v (.slc false (.slc false Move))],rs:=[.slc true Move],pre:=fun x=>(List.flatten (α:=MoveD) x.1).length≤1048576,fn:=fun x=>(List.flatten (α:=MoveD) x.1,()),out:=fun _=>() }
noncomputable def EconV:Env:={ P:=Try.prog,tt:=tt,ctr:=[(80,cgrowV)],res:=[Go.ResultVar.tmp 2],rs:=[Ty.slc true (Ty.pair (Ty.int IntKind.i64) (Ty.pair (Ty.int IntKind.i64) PairT))],ps:=[PK.v (Ty.slc false (Ty.slc false (Ty.pair (Ty.int IntKind.i64) (Ty.pair (Ty.int IntKind.i64) PairT))))],cuts:=[(3,[(0,none),(3,none),(9,none),(10,none),(11,none)]),(11,[(6,some (Ty.slc true (Ty.pair (Ty.int IntKind.i64) (Ty.pair (Ty.int IntKind.i64) PairT)))),(25,none),(26,none),(27,none)])],nt:=36 }
theorem EconV_ok:EnvOk EconV:=envOk tt_ok ⟨cgrowV_valid,trivial⟩
theorem FconV_ok:FnOk EconV Try.f35:=⟨rfl,rfl⟩
theorem EconV_t (x0:List (List (Int×Int×Int×Int×Unit))):exec EconV 1000 [.code (bodyOf Try.prog 35)] (initSt cconV.ps ((x0,()))) =
  .cut (loopAt (bodyOf Try.prog 35) 3).1 (loopAt (bodyOf Try.prog 35) 3).2 (St.mk [(0,AV.val (Ty.slc false (Ty.slc false (Ty.pair (Ty.int IntKind.i64) (Ty.pair (Ty.int IntKind.i64) PairT)))) x0),(3,AV.val (Ty.int IntKind.i64) (0:Int)),(9,AV.val (Ty.slc false (Ty.slc false (Ty.pair (Ty.int IntKind.i64) (Ty.pair (Ty.int IntKind.i64) PairT)))) x0),(10,AV.val (Ty.int IntKind.i64) (↑(List.length x0):Int)),(11,AV.val (Ty.int IntKind.i64) (0:Int))] []):=by kernel_rfl
def EconV_s3 (v0:List (List (Int×Int×Int×Int×Unit))) (v3:Int) (v9:List (List (Int×Int×Int×Int×Unit))) (v10:Int) (v11:Int):St:=St.mk [(0,AV.val (Ty.slc false (Ty.slc false (Ty.pair (Ty.int IntKind.i64) (Ty.pair (Ty.int IntKind.i64) PairT)))) v0),(3,AV.val (Ty.int IntKind.i64) v3),(9,AV.val (Ty.slc false (Ty.slc false (Ty.pair (Ty.int IntKind.i64) (Ty.pair (Ty.int IntKind.i64) PairT)))) v9),(10,AV.val (Ty.int IntKind.i64) v10),(11,AV.val (Ty.int IntKind.i64) v11)] []
theorem EconV_l3 (v0:List (List (Int×Int×Int×Int×Unit))) (v3:Int) (v9:List (List (Int×Int×Int×Int×Unit))) (v10:Int) (v11:Int):exec EconV 1000 (.code (loopAt (bodyOf Try.prog 35) 3).1::.inLoop (loopAt (bodyOf Try.prog 35) 3).1::(loopAt (bodyOf Try.prog 35) 3).2) (EconV_s3 v0 v3 v9 v10 v11) =
  cond (decide (v11<v10)) (.need ((0:Int)≤v11∧v11<(↑(List.length v9):Int)) (.need (inK IntKind.i64 (v3+(↑(List.length (List.getD v9 (Int.toNat v11) [])):Int))) (cond (decide (v3+(↑(List.length (List.getD v9 (Int.toNat v11) [])):Int)<(0:Int))) (.stuck "op") (.need (inK IntKind.i64 (v11+(1:Int))) (.cut (loopAt (bodyOf Try.prog 35) 3).1 (loopAt (bodyOf Try.prog 35) 3).2 (St.mk [(0,AV.val (Ty.slc false (Ty.slc false (Ty.pair (Ty.int IntKind.i64) (Ty.pair (Ty.int IntKind.i64) PairT)))) v0),(3,AV.val (Ty.int IntKind.i64) (v3+(↑(List.length (List.getD v9 (Int.toNat v11) [])):Int))),(9,AV.val (Ty.slc false (Ty.slc false (Ty.pair (Ty.int IntKind.i64) (Ty.pair (Ty.int IntKind.i64) PairT)))) v9),(10,AV.val (Ty.int IntKind.i64) v10),(11,AV.val (Ty.int IntKind.i64) (v11+(1:Int)))] [])))))) (.need ((0:Int)≤v3∧v3≤(1048576:Int)) (.cut (loopAt (bodyOf Try.prog 35) 11).1 (loopAt (bodyOf Try.prog 35) 11).2 (St.mk [(6,AV.at_ 1000006 []),(25,AV.val (Ty.slc false (Ty.slc false (Ty.pair (Ty.int IntKind.i64) (Ty.pair (Ty.int IntKind.i64) PairT)))) v0),(26,AV.val (Ty.int IntKind.i64) (↑(List.length v0):Int)),(27,AV.val (Ty.int IntKind.i64) (0:Int))] [(1000006,Ent.own (Ty.slc true (Ty.pair (Ty.int IntKind.i64) (Ty.pair (Ty.int IntKind.i64) PairT))) [])]))):=by kernel_rfl
def EconV_s11 (v25:List (List (Int×Int×Int×Int×Unit))) (v26:Int) (v27:Int) (o1000006:List (Int×Int×Int×Int×Unit)):St:=St.mk [(6,AV.at_ 1000006 []),(25,AV.val (Ty.slc false (Ty.slc false (Ty.pair (Ty.int IntKind.i64) (Ty.pair (Ty.int IntKind.i64) PairT)))) v25),(26,AV.val (Ty.int IntKind.i64) v26),(27,AV.val (Ty.int IntKind.i64) v27)] [(1000006,Ent.own (Ty.slc true (Ty.pair (Ty.int IntKind.i64) (Ty.pair (Ty.int IntKind.i64) PairT))) o1000006)]
theorem EconV_l11 (v25:List (List (Int×Int×Int×Int×Unit))) (v26:Int) (v27:Int) (o1000006:List (Int×Int×Int×Int×Unit)):exec EconV 1000 (.code (loopAt (bodyOf Try.prog 35) 11).1::.inLoop (loopAt (bodyOf Try.prog 35) 11).1::(loopAt (bodyOf Try.prog 35) 11).2) (EconV_s11 v25 v26 v27 o1000006) =
  cond (decide (v27<v26)) (.need ((0:Int)≤v27∧v27<(↑(List.length v25):Int)) (.need (List.length o1000006+List.length (List.getD v25 (Int.toNat v27) [])≤140737488355328∧(List.length o1000006+List.length (List.getD v25 (Int.toNat v27) []))*Ty.wb (Ty.pair (Ty.int IntKind.i64) (Ty.pair (Ty.int IntKind.i64) PairT))≤140737488355328) (.need (inK IntKind.i64 (v27+(1:Int))) (.cut (loopAt (bodyOf Try.prog 35) 11).1 (loopAt (bodyOf Try.prog 35) 11).2 (St.mk [(6,AV.at_ 1000006 []),(25,AV.val (Ty.slc false (Ty.slc false (Ty.pair (Ty.int IntKind.i64) (Ty.pair (Ty.int IntKind.i64) PairT)))) v25),(26,AV.val (Ty.int IntKind.i64) v26),(27,AV.val (Ty.int IntKind.i64) (v27+(1:Int)))] [(1000006,Ent.own (Ty.slc true (Ty.pair (Ty.int IntKind.i64) (Ty.pair (Ty.int IntKind.i64) PairT))) (o1000006++List.getD v25 (Int.toNat v27) []))]))))) (.ret ((o1000006,()))):=by kernel_rfl
theorem cconV_valid:cconV.Valid Try.prog 35:=by
  refine Ctr.valid_of EconV_ok rfl rfl Try.func35 (c:=bodyOf Try.prog 35) rfl rfl FconV_ok rfl ?_
  rintro ⟨(l:List (List (MoveD))),⟨⟩⟩ hp ⟨⟨hl,-⟩,-⟩
  have hl:l.length≤9223372036854775807:=hl
  have hp:l.flatten.length≤1048576:=hp
  refine exec_sound (n:=1000) EconV_ok FconV_ok ?_
  refine holds_of_eq (EconV_t l) ?_
  refine Reach.loopI EconV_ok FconV_ok (fun i:Nat=>EconV_s3 l (((l.take i).map List.length).sum:Nat) l (l.length:Int) (i:Int)) (fun i=>i≤l.length)
    (fun i=>l.length - i) 1000 (fun _=>⟨uniq_of rfl,uniq_of rfl⟩) ?_ 0 (Nat.zero_le _)
  rintro i k1 - ih
  have k1:i≤l.length:=k1
  refine holds_of_eq (EconV_l3 ..) ?_
  have hs:=sum_len_take l i
  simp only [holds_cond,Tree.holds,true_and,true_implies,decide_eq_true_eq,decide_eq_false_iff_not,Bool.not_eq_true',Bool.not_eq_false',Int.toNat_natCast,inK_i64,List.length_set,List.length_cons,List.length_nil]
  refine ⟨fun c=>⟨by omega,fun _=>?_⟩,fun c=>?_⟩
  · have tk:=take_getD (show i<l.length by omega) ([]:List (MoveD))
    have hs1:=sum_len_take l (i+1)
    have e1:((l.take (i+1)).map List.length).sum=((l.take i).map List.length).sum+(l.getD i []).length:=by rw [tk]; simp
    rw [e1] at hs1
    have:=ih (i+1) (by show i+1≤l.length; omega) (by omega)
    rw [e1] at this
    exact ⟨by omega,fun _=>⟨fun h=>by omega,fun _=>⟨by omega,fun _=>this⟩⟩⟩
  · refine ⟨by omega,fun _=>?_⟩
    refine Reach.loopI EconV_ok FconV_ok (fun i:Nat=>EconV_s11 l (l.length:Int) (i:Int) (l.take i).flatten) (fun i=>i≤l.length)
      (fun i=>l.length - i) 1000 (fun _=>⟨uniq_of rfl,uniq_of rfl⟩) ?_ 0 (Nat.zero_le _)
    rintro i k1 - ih
    have k1:i≤l.length:=k1
    refine holds_of_eq (EconV_l11 ..) ?_
    simp only [holds_cond,Tree.holds,true_and,true_implies,decide_eq_true_eq,decide_eq_false_iff_not,Bool.not_eq_true',Bool.not_eq_false',Int.toNat_natCast,inK_i64,List.length_set,List.length_cons,List.length_nil,wb_move]
    refine ⟨fun c=>?_,fun c=>?_⟩
    · have tk:=take_getD (show i<l.length by omega) ([]:List (MoveD))
      have e1:(l.take (i+1)).flatten=(l.take i).flatten++l.getD i []:=by rw [tk]; simp
      have hb:((l.take i).flatten++l.getD i []).length≤l.flatten.length:=by
        rw [← e1]
        conv=>rhs; rw [← List.take_append_drop (i+1) l,List.flatten_append,List.length_append]
        omega
      rw [List.length_append] at hb
      have:=ih (i+1) (by show i+1≤l.length; omega) (by omega)
      rw [e1] at this
      exact ⟨by omega,fun _=>⟨by omega,fun _=>⟨by omega,fun _=>this⟩⟩⟩
    · rw [List.take_of_length_le (by omega)]
      rfl
def ceqF:Ctr:={ ps:=[.v (.slc false (.slc false I64)),.v (.slc false (.slc false I64)),.clo 29 []],rs:=[.bool],pre:=fun _=>True,fn:=fun x=>(decide ((show List (List Int) from x.1)=(show List (List Int) from x.2.1)),()),out:=fun _=>() }
noncomputable def EeqF:Env:={ P:=Try.prog,tt:=tt,ctr:=[(29,ceqI)],res:=[Go.ResultVar.tmp 6],rs:=[Ty.bool],ps:=[PK.v (Ty.slc false (Ty.slc false (Ty.int IntKind.i64))),PK.v (Ty.slc false (Ty.slc false (Ty.int IntKind.i64))),PK.clo 29 []],cuts:=[(4,[(1,none),(2,none),(15,none),(16,none),(17,none)])],nt:=32 }
theorem EeqF_ok:EnvOk EeqF:=envOk tt_ok ⟨ceqI_valid,trivial⟩
theorem FeqF_ok:FnOk EeqF Try.f36:=⟨rfl,rfl⟩
theorem EeqF_t (x0:List (List Int)) (x1:List (List Int)):exec EeqF 1000 [.code (bodyOf Try.prog 36)] (initSt ceqF.ps ((x0,x1,(),()))) =
  cond (decide ((↑(List.length x0):Int)≠(↑(List.length x1):Int))) (.ret ((false,()))) (.cut (loopAt (bodyOf Try.prog 36) 4).1 (loopAt (bodyOf Try.prog 36) 4).2 (St.mk [(1,AV.val (Ty.slc false (Ty.slc false (Ty.int IntKind.i64))) x1),(2,AV.clo 29 AV.nil),(15,AV.val (Ty.slc false (Ty.slc false (Ty.int IntKind.i64))) x0),(16,AV.val (Ty.int IntKind.i64) (↑(List.length x0):Int)),(17,AV.val (Ty.int IntKind.i64) (0:Int))] [])):=by kernel_rfl
def EeqF_s4 (v1:List (List Int)) (v15:List (List Int)) (v16:Int) (v17:Int):St:=St.mk [(1,AV.val (Ty.slc false (Ty.slc false (Ty.int IntKind.i64))) v1),(2,AV.clo 29 AV.nil),(15,AV.val (Ty.slc false (Ty.slc false (Ty.int IntKind.i64))) v15),(16,AV.val (Ty.int IntKind.i64) v16),(17,AV.val (Ty.int IntKind.i64) v17)] []
theorem EeqF_l4 (v1:List (List Int)) (v15:List (List Int)) (v16:Int) (v17:Int):exec EeqF 1000 (.code (loopAt (bodyOf Try.prog 36) 4).1::.inLoop (loopAt (bodyOf Try.prog 36) 4).1::(loopAt (bodyOf Try.prog 36) 4).2) (EeqF_s4 v1 v15 v16 v17) =
  cond (decide (v17<v16)) (.need ((0:Int)≤v17∧v17<(↑(List.length v15):Int)) (.need ((0:Int)≤v17∧v17<(↑(List.length v1):Int)) (.need (True) (cond (!decide (List.getD v15 (Int.toNat v17) []=List.getD v1 (Int.toNat v17) [])) (.ret ((false,()))) (.need (inK IntKind.i64 (v17+(1:Int))) (.cut (loopAt (bodyOf Try.prog 36) 4).1 (loopAt (bodyOf Try.prog 36) 4).2 (St.mk [(1,AV.val (Ty.slc false (Ty.slc false (Ty.int IntKind.i64))) v1),(2,AV.clo 29 AV.nil),(15,AV.val (Ty.slc false (Ty.slc false (Ty.int IntKind.i64))) v15),(16,AV.val (Ty.int IntKind.i64) v16),(17,AV.val (Ty.int IntKind.i64) (v17+(1:Int)))] []))))))) (.ret ((true,()))):=by kernel_rfl
theorem ceqF_valid:ceqF.Valid Try.prog 36:=by
  refine Ctr.valid_of EeqF_ok rfl rfl Try.func36 (c:=bodyOf Try.prog 36) rfl rfl FeqF_ok rfl ?_
  rintro ⟨(l:List (List Int)),(m:List (List Int)),⟨⟩,⟨⟩⟩ - ⟨⟨hl,-⟩,-⟩
  have hl:l.length≤9223372036854775807:=hl
  refine exec_sound (n:=1000) EeqF_ok FeqF_ok ?_
  refine holds_of_eq (EeqF_t l m) ?_
  have fin:∀ {b:Bool},(b=true↔l=m)→((b,()):Bool×Unit)=(decide (l=m),()):=fun {b} h=>by
    cases b with
    | true=>rw [decide_eq_true (h.1 rfl)]
    | false=>rw [decide_eq_false (fun e=>by cases h.2 e)]
  simp only [holds_cond,Tree.holds,true_and,true_implies,decide_eq_true_eq,decide_eq_false_iff_not,Bool.not_eq_true',Bool.not_eq_false',Int.toNat_natCast,inK_i64,List.length_set,List.length_cons,List.length_nil]
  refine ⟨fun c=>fin ⟨fun h=>(by cases h),fun h=>absurd (congrArg (fun q:List (List Int)=>(q.length:Int)) h) c⟩,fun c=>?_⟩
  refine Reach.loopI EeqF_ok FeqF_ok (fun i:Nat=>EeqF_s4 m l (l.length:Int) (i:Int)) (fun i=>i≤l.length∧∀ j,j<i→l.getD j []=m.getD j [])
    (fun i=>l.length - i) 1000 (fun _=>⟨uniq_of rfl,uniq_of rfl⟩) ?_ 0 ⟨Nat.zero_le _,fun j hj=>by omega⟩
  rintro i ⟨k1,k2⟩ - ih
  refine holds_of_eq (EeqF_l4 ..) ?_
  have c:l.length=m.length:=by omega
  simp only [holds_cond,Tree.holds,true_and,true_implies,decide_eq_true_eq,decide_eq_false_iff_not,Bool.not_eq_true',Bool.not_eq_false',Int.toNat_natCast,inK_i64,List.length_set,List.length_cons,List.length_nil]
  refine ⟨fun d1=>⟨by omega,fun _=>⟨by omega,fun _=>⟨fun d2=>fin ⟨fun h=>(by cases h),fun h=>absurd (congrArg (fun q:List (List Int)=>q.getD i []) h) d2⟩,fun d2=>⟨by omega,fun _=>ih (i+1) ⟨by omega,fun j hj=>?_⟩ (by omega)⟩⟩⟩⟩,fun d1=>fin ⟨fun _=>eq_of_getD c (fun j hj=>k2 j (by omega)),fun _=>rfl⟩⟩
  rcases Nat.lt_or_ge j i with h|h
  · exact k2 j h
  · obtain rfl:j=i:=by omega
    exact d2
theorem plF_ok {v:List Int} {l:List MoveD} (a:snE v l=0):plF v l=(picF (mvsF (g0 v) l l.length),0,()):=if_neg (by rw [a]; simp)
theorem plF_no {v:List Int} {l:List MoveD} (a:¬ snE v l=0):plF v l=(p0,snE v l,()):=if_pos a
theorem pic_len {v:List Int} {l:List MoveD} (h:snE v l=0):(picF (mvsF (g0 v) l l.length)).2.1.length=v.length∧(picF (mvsF (g0 v) l l.length)).1.length=v.length∧(∀ p,p<v.length→((picF (mvsF (g0 v) l l.length)).2.1.getD p []).length=v.length):=by
  have hg:=GW.moves h l.length (Nat.le_refl _)
  generalize mvsF (g0 v) l l.length=g at *
  obtain ⟨N,H,R,L,⟨⟩⟩:=g
  have h4:L.length=v.length:=hg.ll
  have hr:∀ i,i<v.length→(L.getD i []).length=v.length:=hg.row
  have hd:picF (N,H,R,L,())=(H,(picS L (!decide (false∈R)) L.length).1,(picS L (!decide (false∈R)) L.length).2.1,N,(picS L (!decide (false∈R)) L.length).2.2,()):=rfl
  rw [hd]
  dsimp only
  refine ⟨by rw [picS_len]; exact h4,hg.lh,fun p hp=>?_⟩
  rw [h4]; exact (picS_row hr (Nat.le_refl _) hp).1
def cSnapFront:Ctr:=smallC [.slc false I64,.slc false Move,.slc false Move]
noncomputable def ESnapFront:Env:={ P:=Try.prog,tt:=tt,ctr:=[(19,cplay),(35,cconV),(36,ceqF)],res:=[Go.ResultVar.tmp 6],rs:=[Ty.bool],ps:=[PK.v (Ty.slc false (Ty.int IntKind.i64)),PK.v (Ty.slc false (Ty.pair (Ty.int IntKind.i64) (Ty.pair (Ty.int IntKind.i64) PairT))),PK.v (Ty.slc false (Ty.pair (Ty.int IntKind.i64) (Ty.pair (Ty.int IntKind.i64) PairT)))],cuts:=[(9,[(0,none),(9,none),(11,none),(81,none),(82,none)]),(14,[(0,none),(9,none),(11,none),(13,none),(81,none),(82,none),(105,none),(106,none)])],nt:=142 }
theorem ESnapFront_ok:EnvOk ESnapFront:=envOk tt_ok ⟨cplay_valid,cconV_valid,ceqF_valid,trivial⟩
theorem FSnapFront_ok:FnOk ESnapFront Try.f8:=⟨rfl,rfl⟩
theorem ESnapFront_t (x0:List Int) (x1:List (Int×Int×Int×Int×Unit)) (x2:List (Int×Int×Int×Int×Unit)):exec ESnapFront 1000 [.code (bodyOf Try.prog 8)] (initSt cSnapFront.ps ((x0,x1,x2,()))) =
  .need (True) (.need ((0:Int)≤(0:Int)∧(0:Int)<(↑(List.length (Prod.fst (Prod.fst (plF (List.set (List.set [(0:Int),(0:Int)] (Int.toNat (↑0:Int)) (4:Int)) (Int.toNat (↑1:Int)) (0:Int)) (List.set (List.set [((0:Int),(0:Int),(0:Int),(0:Int),()),((0:Int),(0:Int),(0:Int),(0:Int),())] (Int.toNat (↑0:Int)) ((3:Int),(0:Int),(0:Int),(0:Int),())) (Int.toNat (↑1:Int)) ((1:Int),(0:Int),(1:Int),(3:Int),())))))):Int)) (.need ((0:Int)≤(0:Int)∧(0:Int)<(↑(List.length (Prod.fst (Prod.snd (Prod.snd (Prod.snd (Prod.fst (plF (List.set (List.set [(0:Int),(0:Int)] (Int.toNat (↑0:Int)) (4:Int)) (Int.toNat (↑1:Int)) (0:Int)) (List.set (List.set [((0:Int),(0:Int),(0:Int),(0:Int),()),((0:Int),(0:Int),(0:Int),(0:Int),())] (Int.toNat (↑0:Int)) ((3:Int),(0:Int),(0:Int),(0:Int),())) (Int.toNat (↑1:Int)) ((1:Int),(0:Int),(1:Int),(3:Int),()))))))))):Int)) (.need (True) (.need (List.length (List.flatten (List.set (List.set [[],[]] (Int.toNat (↑0:Int)) x1) (Int.toNat (↑1:Int)) x2))≤1048576) (.need (True) (cond (decide (Prod.fst (Prod.snd (plF x0 x1))≠(0:Int))) (cond (decide (Prod.fst (Prod.snd (plF x0 x1))=(0:Int))) (.ret ((true,()))) (.ret ((decide ((↑(List.length (Prod.fst (Prod.fst (plF x0 x1)))):Int)=(0:Int)),())))) (cond (decide (Prod.fst (Prod.snd (plF x0 (List.flatten (List.set (List.set [[],[]] (Int.toNat (↑0:Int)) x1) (Int.toNat (↑1:Int)) x2))))≠(0:Int))) (cond (decide (Prod.fst (Prod.snd (plF x0 x1))=(0:Int))) (.ret ((true,()))) (.ret ((decide ((↑(List.length (Prod.fst (Prod.fst (plF x0 x1)))):Int)=(0:Int)),())))) (.cut (loopAt (bodyOf Try.prog 8) 9).1 (loopAt (bodyOf Try.prog 8) 9).2 (St.mk [(0,AV.val (Ty.slc false (Ty.int IntKind.i64)) x0),(9,AV.ptr 9 []),(11,AV.ptr 11 []),(81,AV.val (Ty.int IntKind.i64) (↑(List.length x0):Int)),(82,AV.val (Ty.int IntKind.i64) (0:Int))] [(9,Ent.var (Ty.pair (Ty.slc false (Ty.int IntKind.i64)) (Ty.pair (Ty.slc true Is) (Ty.pair Ty.bool (Ty.pair (Ty.slc false (Ty.int IntKind.i64)) (Ty.pair (Ty.int IntKind.i64) Ty.unit))))) (Prod.fst (plF x0 x1))),(11,Ent.var (Ty.pair (Ty.slc false (Ty.int IntKind.i64)) (Ty.pair (Ty.slc true Is) (Ty.pair Ty.bool (Ty.pair (Ty.slc false (Ty.int IntKind.i64)) (Ty.pair (Ty.int IntKind.i64) Ty.unit))))) (Prod.fst (plF x0 (List.flatten (List.set (List.set [[],[]] (Int.toNat (↑0:Int)) x1) (Int.toNat (↑1:Int)) x2)))))]))))))))):=by kernel_rfl
def ESnapFront_s9 (v0:List Int) (v81:Int) (v82:Int) (o9_1:List Int) (o9_2_1:List (List Int)) (o9_2_2_1:Bool) (o9_2_2_2_1:List Int) (o9_2_2_2_2_1:Int) (o11_1:List Int) (o11_2_1:List (List Int)) (o11_2_2_1:Bool) (o11_2_2_2_1:List Int) (o11_2_2_2_2_1:Int):St:=St.mk [(0,AV.val (Ty.slc false (Ty.int IntKind.i64)) v0),(9,AV.ptr 9 []),(11,AV.ptr 11 []),(81,AV.val (Ty.int IntKind.i64) v81),(82,AV.val (Ty.int IntKind.i64) v82)] [(9,Ent.var (Ty.pair (Ty.slc false (Ty.int IntKind.i64)) (Ty.pair (Ty.slc true Is) (Ty.pair Ty.bool (Ty.pair (Ty.slc false (Ty.int IntKind.i64)) (Ty.pair (Ty.int IntKind.i64) Ty.unit))))) (o9_1,o9_2_1,o9_2_2_1,o9_2_2_2_1,o9_2_2_2_2_1,())),(11,Ent.var (Ty.pair (Ty.slc false (Ty.int IntKind.i64)) (Ty.pair (Ty.slc true Is) (Ty.pair Ty.bool (Ty.pair (Ty.slc false (Ty.int IntKind.i64)) (Ty.pair (Ty.int IntKind.i64) Ty.unit))))) (o11_1,o11_2_1,o11_2_2_1,o11_2_2_2_1,o11_2_2_2_2_1,()))]
theorem ESnapFront_l9 (v0:List Int) (v81:Int) (v82:Int) (o9_1:List Int) (o9_2_1:List (List Int)) (o9_2_2_1:Bool) (o9_2_2_2_1:List Int) (o9_2_2_2_2_1:Int) (o11_1:List Int) (o11_2_1:List (List Int)) (o11_2_2_1:Bool) (o11_2_2_2_1:List Int) (o11_2_2_2_2_1:Int):exec ESnapFront 1000 (.code (loopAt (bodyOf Try.prog 8) 9).1::.inLoop (loopAt (bodyOf Try.prog 8) 9).1::(loopAt (bodyOf Try.prog 8) 9).2) (ESnapFront_s9 v0 v81 v82 o9_1 o9_2_1 o9_2_2_1 o9_2_2_2_1 o9_2_2_2_2_1 o11_1 o11_2_1 o11_2_2_1 o11_2_2_2_1 o11_2_2_2_2_1) =
  cond (decide (v82<v81)) (.need ((0:Int)≤v82∧v82<(↑(List.length o9_1):Int)) (cond (decide ((0:Int)<List.getD o9_1 (Int.toNat v82) (0:Int))) (.need ((0:Int)≤v82∧v82<(↑(List.length o11_1):Int)) (.need ((0:Int)≤v82∧v82<(↑(List.length o9_1):Int)) (cond (decide (List.getD o11_1 (Int.toNat v82) (0:Int)≠List.getD o9_1 (Int.toNat v82) (0:Int))) (.ret ((false,()))) (.cut (loopAt (bodyOf Try.prog 8) 14).1 (loopAt (bodyOf Try.prog 8) 14).2 (St.mk [(0,AV.val (Ty.slc false (Ty.int IntKind.i64)) v0),(9,AV.ptr 9 []),(11,AV.ptr 11 []),(13,AV.val (Ty.int IntKind.i64) v82),(81,AV.val (Ty.int IntKind.i64) v81),(82,AV.val (Ty.int IntKind.i64) v82),(105,AV.val (Ty.int IntKind.i64) (↑(List.length v0):Int)),(106,AV.val (Ty.int IntKind.i64) (0:Int))] [(9,Ent.var (Ty.pair (Ty.slc false (Ty.int IntKind.i64)) (Ty.pair (Ty.slc true Is) (Ty.pair Ty.bool (Ty.pair (Ty.slc false (Ty.int IntKind.i64)) (Ty.pair (Ty.int IntKind.i64) Ty.unit))))) (o9_1,o9_2_1,o9_2_2_1,o9_2_2_2_1,o9_2_2_2_2_1,())),(11,Ent.var (Ty.pair (Ty.slc false (Ty.int IntKind.i64)) (Ty.pair (Ty.slc true Is) (Ty.pair Ty.bool (Ty.pair (Ty.slc false (Ty.int IntKind.i64)) (Ty.pair (Ty.int IntKind.i64) Ty.unit))))) (o11_1,o11_2_1,o11_2_2_1,o11_2_2_2_1,o11_2_2_2_2_1,()))]))))) (.cut (loopAt (bodyOf Try.prog 8) 14).1 (loopAt (bodyOf Try.prog 8) 14).2 (St.mk [(0,AV.val (Ty.slc false (Ty.int IntKind.i64)) v0),(9,AV.ptr 9 []),(11,AV.ptr 11 []),(13,AV.val (Ty.int IntKind.i64) v82),(81,AV.val (Ty.int IntKind.i64) v81),(82,AV.val (Ty.int IntKind.i64) v82),(105,AV.val (Ty.int IntKind.i64) (↑(List.length v0):Int)),(106,AV.val (Ty.int IntKind.i64) (0:Int))] [(9,Ent.var (Ty.pair (Ty.slc false (Ty.int IntKind.i64)) (Ty.pair (Ty.slc true Is) (Ty.pair Ty.bool (Ty.pair (Ty.slc false (Ty.int IntKind.i64)) (Ty.pair (Ty.int IntKind.i64) Ty.unit))))) (o9_1,o9_2_1,o9_2_2_1,o9_2_2_2_1,o9_2_2_2_2_1,())),(11,Ent.var (Ty.pair (Ty.slc false (Ty.int IntKind.i64)) (Ty.pair (Ty.slc true Is) (Ty.pair Ty.bool (Ty.pair (Ty.slc false (Ty.int IntKind.i64)) (Ty.pair (Ty.int IntKind.i64) Ty.unit))))) (o11_1,o11_2_1,o11_2_2_1,o11_2_2_2_1,o11_2_2_2_2_1,()))])))) (cond (!o9_2_2_1) (.ret ((true,()))) (cond (o11_2_2_1) (.need (True) (.ret ((decide (o9_2_1=o11_2_1),())))) (.ret ((false,()))))):=by kernel_rfl
def ESnapFront_s14 (v0:List Int) (v13:Int) (v81:Int) (v82:Int) (v105:Int) (v106:Int) (o9_1:List Int) (o9_2_1:List (List Int)) (o9_2_2_1:Bool) (o9_2_2_2_1:List Int) (o9_2_2_2_2_1:Int) (o11_1:List Int) (o11_2_1:List (List Int)) (o11_2_2_1:Bool) (o11_2_2_2_1:List Int) (o11_2_2_2_2_1:Int):St:=St.mk [(0,AV.val (Ty.slc false (Ty.int IntKind.i64)) v0),(9,AV.ptr 9 []),(11,AV.ptr 11 []),(13,AV.val (Ty.int IntKind.i64) v13),(81,AV.val (Ty.int IntKind.i64) v81),(82,AV.val (Ty.int IntKind.i64) v82),(105,AV.val (Ty.int IntKind.i64) v105),(106,AV.val (Ty.int IntKind.i64) v106)] [(9,Ent.var (Ty.pair (Ty.slc false (Ty.int IntKind.i64)) (Ty.pair (Ty.slc true Is) (Ty.pair Ty.bool (Ty.pair (Ty.slc false (Ty.int IntKind.i64)) (Ty.pair (Ty.int IntKind.i64) Ty.unit))))) (o9_1,o9_2_1,o9_2_2_1,o9_2_2_2_1,o9_2_2_2_2_1,())),(11,Ent.var (Ty.pair (Ty.slc false (Ty.int IntKind.i64)) (Ty.pair (Ty.slc true Is) (Ty.pair Ty.bool (Ty.pair (Ty.slc false (Ty.int IntKind.i64)) (Ty.pair (Ty.int IntKind.i64) Ty.unit))))) (o11_1,o11_2_1,o11_2_2_1,o11_2_2_2_1,o11_2_2_2_2_1,()))]
theorem ESnapFront_l14 (v0:List Int) (v13:Int) (v81:Int) (v82:Int) (v105:Int) (v106:Int) (o9_1:List Int) (o9_2_1:List (List Int)) (o9_2_2_1:Bool) (o9_2_2_2_1:List Int) (o9_2_2_2_2_1:Int) (o11_1:List Int) (o11_2_1:List (List Int)) (o11_2_2_1:Bool) (o11_2_2_2_1:List Int) (o11_2_2_2_2_1:Int):exec ESnapFront 1000 (.code (loopAt (bodyOf Try.prog 8) 14).1::.inLoop (loopAt (bodyOf Try.prog 8) 14).1::(loopAt (bodyOf Try.prog 8) 14).2) (ESnapFront_s14 v0 v13 v81 v82 v105 v106 o9_1 o9_2_1 o9_2_2_1 o9_2_2_2_1 o9_2_2_2_2_1 o11_1 o11_2_1 o11_2_2_1 o11_2_2_2_1 o11_2_2_2_2_1) =
  cond (decide (v106<v105)) (.need ((0:Int)≤v13∧v13<(↑(List.length o11_2_1):Int)) (.need ((0:Int)≤v106∧v106<(↑(List.length (List.getD o11_2_1 (Int.toNat v13) [])):Int)) (.need ((0:Int)≤v13∧v13<(↑(List.length o9_2_1):Int)) (.need ((0:Int)≤v106∧v106<(↑(List.length (List.getD o9_2_1 (Int.toNat v13) [])):Int)) (cond (decide (List.getD (List.getD o11_2_1 (Int.toNat v13) []) (Int.toNat v106) (0:Int)<List.getD (List.getD o9_2_1 (Int.toNat v13) []) (Int.toNat v106) (0:Int))) (.ret ((false,()))) (.need (inK IntKind.i64 (v106+(1:Int))) (.cut (loopAt (bodyOf Try.prog 8) 14).1 (loopAt (bodyOf Try.prog 8) 14).2 (St.mk [(0,AV.val (Ty.slc false (Ty.int IntKind.i64)) v0),(9,AV.ptr 9 []),(11,AV.ptr 11 []),(13,AV.val (Ty.int IntKind.i64) v13),(81,AV.val (Ty.int IntKind.i64) v81),(82,AV.val (Ty.int IntKind.i64) v82),(105,AV.val (Ty.int IntKind.i64) v105),(106,AV.val (Ty.int IntKind.i64) (v106+(1:Int)))] [(9,Ent.var (Ty.pair (Ty.slc false (Ty.int IntKind.i64)) (Ty.pair (Ty.slc true Is) (Ty.pair Ty.bool (Ty.pair (Ty.slc false (Ty.int IntKind.i64)) (Ty.pair (Ty.int IntKind.i64) Ty.unit))))) (o9_1,o9_2_1,o9_2_2_1,o9_2_2_2_1,o9_2_2_2_2_1,())),(11,Ent.var (Ty.pair (Ty.slc false (Ty.int IntKind.i64)) (Ty.pair (Ty.slc true Is) (Ty.pair Ty.bool (Ty.pair (Ty.slc false (Ty.int IntKind.i64)) (Ty.pair (Ty.int IntKind.i64) Ty.unit))))) (o11_1,o11_2_1,o11_2_2_1,o11_2_2_2_1,o11_2_2_2_2_1,()))])))))))) (.need (inK IntKind.i64 (v82+(1:Int))) (.cut (loopAt (bodyOf Try.prog 8) 9).1 (loopAt (bodyOf Try.prog 8) 9).2 (St.mk [(0,AV.val (Ty.slc false (Ty.int IntKind.i64)) v0),(9,AV.ptr 9 []),(11,AV.ptr 11 []),(81,AV.val (Ty.int IntKind.i64) v81),(82,AV.val (Ty.int IntKind.i64) (v82+(1:Int)))] [(9,Ent.var (Ty.pair (Ty.slc false (Ty.int IntKind.i64)) (Ty.pair (Ty.slc true Is) (Ty.pair Ty.bool (Ty.pair (Ty.slc false (Ty.int IntKind.i64)) (Ty.pair (Ty.int IntKind.i64) Ty.unit))))) (o9_1,o9_2_1,o9_2_2_1,o9_2_2_2_1,o9_2_2_2_2_1,())),(11,Ent.var (Ty.pair (Ty.slc false (Ty.int IntKind.i64)) (Ty.pair (Ty.slc true Is) (Ty.pair Ty.bool (Ty.pair (Ty.slc false (Ty.int IntKind.i64)) (Ty.pair (Ty.int IntKind.i64) Ty.unit))))) (o11_1,o11_2_1,o11_2_2_1,o11_2_2_2_1,o11_2_2_2_2_1,()))]))):=by kernel_rfl
theorem flat2 {α:Type} {a b:List α}:List.flatten (List.set (List.set [[],[]] (Int.toNat 0) a) (Int.toNat 1) b)=a++b:=by show a++(b++[])=a++b; rw [List.append_nil]
theorem blkL_lenY {α:Type} {f:α→Nat} {c:Nat} (h:∀ x,c≤f x):∀ l:List α,c*l.length≤bulkL f l
  | []=>by simp [bulkL]
  | x::l=>by have h1:=h x; have h2:=blkL_lenY h l; simp only [bulkL,List.length_cons,Nat.mul_add]; omega
attribute [local irreducible] plF snE exec
set_option maxHeartbeats 1000000 in
theorem cSnapFront_valid:(smallC [.slc false I64,.slc false Move,.slc false Move]).Valid Try.prog 8:=by
  refine Ctr.valid_of ESnapFront_ok rfl rfl Try.func8 (c:=bodyOf Try.prog 8) rfl rfl FSnapFront_ok rfl ?_
  rintro ⟨(v:List Int),(a:List MoveD),(b:List MoveD),⟨⟩⟩ hp -
  have hb:a.length+b.length≤1048576:=by
    have h2:=fun l:List MoveD=>blkL_lenY (f:=Ty.bulk Move) (c:=1) (fun x=>by show 1≤_+1; omega) l
    have h3:=h2 a
    have h4:=h2 b
    have hb:bulkK [.slc false I64,.slc false Move,.slc false Move] (v,a,b,())≤1048576:=hp
    have h1:(bulkL (Ty.bulk I64) v+1)+((bulkL (Ty.bulk Move) a+1)+((bulkL (Ty.bulk Move) b+1)+0))≤1048576:=hb
    omega
  refine exec_sound (n:=1000) ESnapFront_ok FSnapFront_ok ?_
  refine holds_of_eq (ESnapFront_t v a b) ?_
  simp only [holds_cond,Tree.holds,true_and,true_implies,decide_eq_true_eq,decide_eq_false_iff_not,Bool.not_eq_true',Bool.not_eq_false',Int.toNat_natCast,inK_i64,List.length_set,List.length_cons,List.length_nil,flat2]
  refine ⟨by decide +kernel,fun _=>⟨by decide +kernel,fun _=>⟨by rw [List.length_append]; exact hb,fun _=>?_⟩⟩⟩
  by_cases h1:snE v a=0
  · have p1:=plF_ok h1
    by_cases h2:snE v (a++b)=0
    · have p2:=plF_ok h2
      obtain ⟨f1,f2,f3⟩:=snap_front h1 h2
      obtain ⟨n1,n2,n3⟩:=pic_len h1
      obtain ⟨m1,m2,m3⟩:=pic_len h2
      have o1:=(snE_ok h1).1
      simp only [p1,p2]
      generalize picF (mvsF (g0 v) a a.length)=p at *
      generalize picF (mvsF (g0 v) (a++b) (a++b).length)=q at *
      obtain ⟨H,rows,w,N,u,⟨⟩⟩:=p
      obtain ⟨H',rows',w',N',u',⟨⟩⟩:=q
      simp only at *
      refine ⟨fun c=>absurd rfl c,fun _=>⟨fun c=>absurd rfl c,fun _=>?_⟩⟩
      refine Reach.loopI ESnapFront_ok FSnapFront_ok (fun i:Nat=>ESnapFront_s9 v (v.length:Int) (i:Int) H rows w N u H' rows' w' N' u') (fun i=>i≤v.length) (fun i=>v.length - i) 1000 (fun _=>⟨uniq_of rfl,uniq_of rfl⟩) ?_ 0 (Nat.zero_le _)
      rintro i (k1:i≤v.length) - ih
      refine holds_of_eq (ESnapFront_l9 ..) ?_
      simp only [holds_cond,Tree.holds,true_and,true_implies,decide_eq_true_eq,decide_eq_false_iff_not,Bool.not_eq_true',Bool.not_eq_false',Int.toNat_natCast,inK_i64,List.length_set,List.length_cons,List.length_nil]
      refine ⟨fun c=>?_,fun c=>?_⟩
      · have hi:i<v.length:=by omega
        have inner:Go.Ex.Reach ESnapFront Try.f8 (true,()) () (.code (loopAt (bodyOf Try.prog 8) 14).1::.inLoop (loopAt (bodyOf Try.prog 8) 14).1::(loopAt (bodyOf Try.prog 8) 14).2) (ESnapFront_s14 v (i:Int) (v.length:Int) (i:Int) (v.length:Int) ((0:Nat):Int) H rows w N u H' rows' w' N' u'):=by
          refine Reach.loopI ESnapFront_ok FSnapFront_ok (fun k:Nat=>ESnapFront_s14 v (i:Int) (v.length:Int) (i:Int) (v.length:Int) (k:Int) H rows w N u H' rows' w' N' u') (fun k=>k≤v.length) (fun k=>v.length - k) 1000 (fun _=>⟨uniq_of rfl,uniq_of rfl⟩) ?_ 0 (Nat.zero_le _)
          rintro k (k2:k≤v.length) - ih2
          refine holds_of_eq (ESnapFront_l14 ..) ?_
          simp only [holds_cond,Tree.holds,true_and,true_implies,decide_eq_true_eq,decide_eq_false_iff_not,Bool.not_eq_true',Bool.not_eq_false',Int.toNat_natCast,inK_i64,List.length_set,List.length_cons,List.length_nil]
          refine ⟨fun c2=>?_,fun c2=>⟨by omega,fun _=>ih (i+1) (by omega) (by omega)⟩⟩
          have hk:k<v.length:=by omega
          have e1:=n3 i hi
          have e2:=m3 i hi
          have e3:=f2 i k hi hk
          exact ⟨⟨by omega,by omega⟩,fun _=>⟨⟨by omega,by omega⟩,fun _=>⟨⟨by omega,by omega⟩,fun _=>⟨⟨by omega,by omega⟩,fun _=>⟨fun d=>absurd e3 (by omega),fun _=>⟨by omega,fun _=>ih2 (k+1) (by omega) (by omega)⟩⟩⟩⟩⟩⟩
        refine ⟨⟨by omega,by omega⟩,fun _=>⟨fun d=>⟨⟨by omega,by omega⟩,fun _=>⟨⟨by omega,by omega⟩,fun _=>⟨fun e=>absurd (f1 i hi d) e,fun _=>inner⟩⟩⟩,fun _=>inner⟩⟩
      · refine ⟨fun _=>rfl,fun d=>?_⟩
        have d:w=true:=by simpa using d
        obtain ⟨g1,g2⟩:=f3 d
        refine ⟨fun _=>?_,fun e=>by rw [g1] at e; cases e⟩
        show ((decide (rows=rows'),()):Bool×Unit)=(true,())
        rw [decide_eq_true g2]
    · have p2:=plF_no h2
      simp only [p1,p2]
      exact ⟨fun c=>absurd rfl c,fun _=>⟨fun _=>⟨fun _=>rfl,fun d=>absurd trivial d⟩,fun d=>absurd h2 d⟩⟩
  · have p1:=plF_no h1
    simp only [p1]
    exact ⟨fun _=>⟨fun d=>absurd d h1,fun _=>rfl⟩,fun d=>absurd h1 d⟩
end Go.Proofs.Ytegigiecamjobaa
