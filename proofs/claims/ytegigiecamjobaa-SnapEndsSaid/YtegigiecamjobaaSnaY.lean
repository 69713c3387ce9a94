/- SnapEnds: the walk. -/
import Derived.Test.YtegigiecamjobaaSnaV
namespace Go.Proofs.Ytegigiecamjobaa
open Go.Ex
set_option maxRecDepth 100000
theorem plF_ok {v:List Int} {l:List MoveD} (a:snE v l=0):plF v l=(picF (mvsF (g0 v) l l.length),0,()):=if_neg (by rw [a]; simp)
theorem wbsclV:Ty.wb Move=32:=rfl
def csclV:Ctr:={ ps:=[.v (.slc false Move)],rs:=[.slc true Move],pre:=fun x=>List.length (α:=MoveD) x.1≤1048576,fn:=fun x=>x,out:=fun _=>() }
noncomputable def EsclV:Env:={ P:=Try.prog,tt:=tt,ctr:=[],res:=[Go.ResultVar.tmp 2],rs:=[Ty.slc true (Ty.pair (Ty.int IntKind.i64) (Ty.pair (Ty.int IntKind.i64) PairT))],ps:=[PK.v (Ty.slc false (Ty.pair (Ty.int IntKind.i64) (Ty.pair (Ty.int IntKind.i64) PairT)))],cuts:=[],nt:=8 }
theorem EsclV_ok:EnvOk EsclV:=envOk tt_ok trivial
theorem FsclV_ok:FnOk EsclV Try.f21:=⟨rfl,rfl⟩
theorem EsclV_t (x0:List (Int×Int×Int×Int×Unit)):exec EsclV 1000 [.code (bodyOf Try.prog 21)] (initSt csclV.ps ((x0,()))) =
  .both (x0=[]) (.ret (([],()))) (.need ((0:Nat)+List.length x0≤140737488355328∧((0:Nat)+List.length x0)*Ty.wb (Ty.pair (Ty.int IntKind.i64) (Ty.pair (Ty.int IntKind.i64) PairT))≤140737488355328) (.ret (([]++x0,())))):=by kernel_rfl
theorem csclV_valid:csclV.Valid Try.prog 21:=by
  refine Ctr.valid_of EsclV_ok rfl rfl Try.func21 (c:=bodyOf Try.prog 21) rfl rfl FsclV_ok rfl ?_
  rintro ⟨(l:List (MoveD)),⟨⟩⟩ hp -
  have hp:l.length≤1048576:=hp
  refine exec_sound (n:=1000) EsclV_ok FsclV_ok ?_
  refine holds_of_eq (EsclV_t l) ?_
  simp only [holds_cond,Tree.holds,true_and,true_implies,decide_eq_true_eq,decide_eq_false_iff_not,Bool.not_eq_true',Bool.not_eq_false',Int.toNat_natCast,inK_i64,List.length_set,List.length_cons,List.length_nil,wbsclV]
  refine ⟨fun h=>?_,by omega,fun _=>rfl⟩
  show (([],()):List (MoveD)×Unit)=(l,())
  rw [show l=[] from h]
def cSnapEnds:Ctr:={ ps:=[.v (.slc false I64),.v (.slc false Move),.v I64],rs:=[.bool],pre:=fun _=>True,fn:=fun _=>(true,()),out:=fun _=>() }
noncomputable def ESnapEnds:Env:={ P:=Try.prog,tt:=tt,ctr:=[(19,cplay),(20,csnck),(21,csclV),(22,crest)],res:=[Go.ResultVar.tmp 6],rs:=[Ty.bool],ps:=[PK.v (Ty.slc false (Ty.int IntKind.i64)),PK.v (Ty.slc false (Ty.pair (Ty.int IntKind.i64) (Ty.pair (Ty.int IntKind.i64) PairT))),PK.v (Ty.int IntKind.i64)],cuts:=[(9,[(0,none),(1,none),(9,none),(10,some (Ty.slc true (Ty.pair (Ty.int IntKind.i64) (Ty.pair (Ty.int IntKind.i64) PairT)))),(61,none)]),(11,[(0,none),(1,none),(9,none),(10,some (Ty.slc true (Ty.pair (Ty.int IntKind.i64) (Ty.pair (Ty.int IntKind.i64) PairT)))),(61,none),(66,none),(67,none)]),(13,[(0,none),(1,none),(9,none),(10,some (Ty.slc true (Ty.pair (Ty.int IntKind.i64) (Ty.pair (Ty.int IntKind.i64) PairT)))),(61,none),(66,none),(67,none),(69,none),(70,none)]),(16,[(0,none),(1,none),(9,none),(10,some (Ty.slc true (Ty.pair (Ty.int IntKind.i64) (Ty.pair (Ty.int IntKind.i64) PairT)))),(11,none),(61,none),(66,none),(67,none),(69,none),(70,none),(73,none),(74,none)])],nt:=112 }
theorem ESnapEnds_ok:EnvOk ESnapEnds:=envOk tt_ok ⟨cplay_valid,csnck_valid,csclV_valid,crest_valid,trivial⟩
theorem FSnapEnds_ok:FnOk ESnapEnds Try.f3:=⟨rfl,rfl⟩
theorem ESnapEnds_t (x0:List Int) (x1:List (Int×Int×Int×Int×Unit)) (x2:Int):exec ESnapEnds 1000 [.code (bodyOf Try.prog 3)] (initSt cSnapEnds.ps ((x0,x1,x2,()))) =
  .need (True) (.need (True) (cond (decide (snE x0 x1≠(0:Int))) (.ret ((true,()))) (cond (decide ((200:Int)≤(↑(List.length x1):Int))) (.ret ((true,()))) (.need (inK IntKind.i64 ((↑(List.length x0):Int) - (1:Int))) (.need (inK IntKind.i64 ((↑(List.length x0):Int)*((↑(List.length x0):Int) - (1:Int)))) (.need (inK IntKind.i64 ((↑(List.length x1):Int)+(2:Int))) (.need (inK IntKind.i64 ((↑(List.length x0):Int)*((↑(List.length x0):Int) - (1:Int))*((↑(List.length x1):Int)+(2:Int)))) (cond (decide ((100:Int)<(↑(List.length x0):Int)*((↑(List.length x0):Int) - (1:Int))*((↑(List.length x1):Int)+(2:Int)))) (.ret ((true,()))) (.need (List.length x1≤1048576) (.need ((↑(List.length x0):Int)≤(1000000:Int)) (.need (List.length x1+List.length (List.set [((0:Int),(0:Int),(0:Int),(0:Int),())] (Int.toNat (↑0:Int)) ((3:Int),rest x2 (↑(List.length x0):Int),(0:Int),(0:Int),()))≤140737488355328∧(List.length x1+List.length (List.set [((0:Int),(0:Int),(0:Int),(0:Int),())] (Int.toNat (↑0:Int)) ((3:Int),rest x2 (↑(List.length x0):Int),(0:Int),(0:Int),())))*Ty.wb (Ty.pair (Ty.int IntKind.i64) (Ty.pair (Ty.int IntKind.i64) PairT))≤140737488355328) (.cut (loopAt (bodyOf Try.prog 3) 9).1 (loopAt (bodyOf Try.prog 3) 9).2 (St.mk [(0,AV.val (Ty.slc false (Ty.int IntKind.i64)) x0),(1,AV.val (Ty.slc false (Ty.pair (Ty.int IntKind.i64) (Ty.pair (Ty.int IntKind.i64) PairT))) x1),(9,AV.val (Ty.int IntKind.i64) (↑(List.length x0):Int)),(10,AV.at_ 1000010 []),(61,AV.val (Ty.int IntKind.i64) (0:Int))] [(1000010,Ent.own (Ty.slc true (Ty.pair (Ty.int IntKind.i64) (Ty.pair (Ty.int IntKind.i64) PairT))) (x1++List.set [((0:Int),(0:Int),(0:Int),(0:Int),())] (Int.toNat (↑0:Int)) ((3:Int),rest x2 (↑(List.length x0):Int),(0:Int),(0:Int),())))]))))))))))))):=by kernel_rfl
def ESnapEnds_s9 (v0:List Int) (v1:List (Int×Int×Int×Int×Unit)) (v9:Int) (v61:Int) (o1000010:List (Int×Int×Int×Int×Unit)):St:=St.mk [(0,AV.val (Ty.slc false (Ty.int IntKind.i64)) v0),(1,AV.val (Ty.slc false (Ty.pair (Ty.int IntKind.i64) (Ty.pair (Ty.int IntKind.i64) PairT))) v1),(9,AV.val (Ty.int IntKind.i64) v9),(10,AV.at_ 1000010 []),(61,AV.val (Ty.int IntKind.i64) v61)] [(1000010,Ent.own (Ty.slc true (Ty.pair (Ty.int IntKind.i64) (Ty.pair (Ty.int IntKind.i64) PairT))) o1000010)]
theorem ESnapEnds_l9 (v0:List Int) (v1:List (Int×Int×Int×Int×Unit)) (v9:Int) (v61:Int) (o1000010:List (Int×Int×Int×Int×Unit)):exec ESnapEnds 1000 (.code (loopAt (bodyOf Try.prog 3) 9).1::.inLoop (loopAt (bodyOf Try.prog 3) 9).1::(loopAt (bodyOf Try.prog 3) 9).2) (ESnapEnds_s9 v0 v1 v9 v61 o1000010) =
  cond (decide (v61<(2:Int))) (.need (inK IntKind.i64 ((↑(List.length v1):Int)+v9)) (.cut (loopAt (bodyOf Try.prog 3) 11).1 (loopAt (bodyOf Try.prog 3) 11).2 (St.mk [(0,AV.val (Ty.slc false (Ty.int IntKind.i64)) v0),(1,AV.val (Ty.slc false (Ty.pair (Ty.int IntKind.i64) (Ty.pair (Ty.int IntKind.i64) PairT))) v1),(9,AV.val (Ty.int IntKind.i64) v9),(10,AV.at_ 1000010 []),(61,AV.val (Ty.int IntKind.i64) v61),(66,AV.val (Ty.int IntKind.i64) ((↑(List.length v1):Int)+v9)),(67,AV.val (Ty.int IntKind.i64) (0:Int))] [(1000010,Ent.own (Ty.slc true (Ty.pair (Ty.int IntKind.i64) (Ty.pair (Ty.int IntKind.i64) PairT))) o1000010)]))) (.need (True) (cond (decide (Prod.fst (Prod.snd (plF v0 o1000010))=(0:Int))) (cond (Prod.fst (Prod.snd (Prod.snd (Prod.fst (plF v0 o1000010))))) (.ret ((true,()))) (.ret ((decide ((↑(List.length o1000010):Int)=(200:Int)),())))) (.ret ((false,()))))):=by kernel_rfl
def ESnapEnds_s11 (v0:List Int) (v1:List (Int×Int×Int×Int×Unit)) (v9:Int) (v61:Int) (v66:Int) (v67:Int) (o1000010:List (Int×Int×Int×Int×Unit)):St:=St.mk [(0,AV.val (Ty.slc false (Ty.int IntKind.i64)) v0),(1,AV.val (Ty.slc false (Ty.pair (Ty.int IntKind.i64) (Ty.pair (Ty.int IntKind.i64) PairT))) v1),(9,AV.val (Ty.int IntKind.i64) v9),(10,AV.at_ 1000010 []),(61,AV.val (Ty.int IntKind.i64) v61),(66,AV.val (Ty.int IntKind.i64) v66),(67,AV.val (Ty.int IntKind.i64) v67)] [(1000010,Ent.own (Ty.slc true (Ty.pair (Ty.int IntKind.i64) (Ty.pair (Ty.int IntKind.i64) PairT))) o1000010)]
theorem ESnapEnds_l11 (v0:List Int) (v1:List (Int×Int×Int×Int×Unit)) (v9:Int) (v61:Int) (v66:Int) (v67:Int) (o1000010:List (Int×Int×Int×Int×Unit)):exec ESnapEnds 1000 (.code (loopAt (bodyOf Try.prog 3) 11).1::.inLoop (loopAt (bodyOf Try.prog 3) 11).1::(loopAt (bodyOf Try.prog 3) 11).2) (ESnapEnds_s11 v0 v1 v9 v61 v66 v67 o1000010) =
  cond (decide (v67<v66)) (.cut (loopAt (bodyOf Try.prog 3) 13).1 (loopAt (bodyOf Try.prog 3) 13).2 (St.mk [(0,AV.val (Ty.slc false (Ty.int IntKind.i64)) v0),(1,AV.val (Ty.slc false (Ty.pair (Ty.int IntKind.i64) (Ty.pair (Ty.int IntKind.i64) PairT))) v1),(9,AV.val (Ty.int IntKind.i64) v9),(10,AV.at_ 1000010 []),(61,AV.val (Ty.int IntKind.i64) v61),(66,AV.val (Ty.int IntKind.i64) v66),(67,AV.val (Ty.int IntKind.i64) v67),(69,AV.val (Ty.int IntKind.i64) v9),(70,AV.val (Ty.int IntKind.i64) (0:Int))] [(1000010,Ent.own (Ty.slc true (Ty.pair (Ty.int IntKind.i64) (Ty.pair (Ty.int IntKind.i64) PairT))) o1000010)])) (.need (inK IntKind.i64 (v61+(1:Int))) (.cut (loopAt (bodyOf Try.prog 3) 9).1 (loopAt (bodyOf Try.prog 3) 9).2 (St.mk [(0,AV.val (Ty.slc false (Ty.int IntKind.i64)) v0),(1,AV.val (Ty.slc false (Ty.pair (Ty.int IntKind.i64) (Ty.pair (Ty.int IntKind.i64) PairT))) v1),(9,AV.val (Ty.int IntKind.i64) v9),(10,AV.at_ 1000010 []),(61,AV.val (Ty.int IntKind.i64) (v61+(1:Int)))] [(1000010,Ent.own (Ty.slc true (Ty.pair (Ty.int IntKind.i64) (Ty.pair (Ty.int IntKind.i64) PairT))) o1000010)]))):=by kernel_rfl
def ESnapEnds_s13 (v0:List Int) (v1:List (Int×Int×Int×Int×Unit)) (v9:Int) (v61:Int) (v66:Int) (v67:Int) (v69:Int) (v70:Int) (o1000010:List (Int×Int×Int×Int×Unit)):St:=St.mk [(0,AV.val (Ty.slc false (Ty.int IntKind.i64)) v0),(1,AV.val (Ty.slc false (Ty.pair (Ty.int IntKind.i64) (Ty.pair (Ty.int IntKind.i64) PairT))) v1),(9,AV.val (Ty.int IntKind.i64) v9),(10,AV.at_ 1000010 []),(61,AV.val (Ty.int IntKind.i64) v61),(66,AV.val (Ty.int IntKind.i64) v66),(67,AV.val (Ty.int IntKind.i64) v67),(69,AV.val (Ty.int IntKind.i64) v69),(70,AV.val (Ty.int IntKind.i64) v70)] [(1000010,Ent.own (Ty.slc true (Ty.pair (Ty.int IntKind.i64) (Ty.pair (Ty.int IntKind.i64) PairT))) o1000010)]
theorem ESnapEnds_l13 (v0:List Int) (v1:List (Int×Int×Int×Int×Unit)) (v9:Int) (v61:Int) (v66:Int) (v67:Int) (v69:Int) (v70:Int) (o1000010:List (Int×Int×Int×Int×Unit)):exec ESnapEnds 1000 (.code (loopAt (bodyOf Try.prog 3) 13).1::.inLoop (loopAt (bodyOf Try.prog 3) 13).1::(loopAt (bodyOf Try.prog 3) 13).2) (ESnapEnds_s13 v0 v1 v9 v61 v66 v67 v69 v70 o1000010) =
  cond (decide (v70<v69)) (.cut (loopAt (bodyOf Try.prog 3) 16).1 (loopAt (bodyOf Try.prog 3) 16).2 (St.mk [(0,AV.val (Ty.slc false (Ty.int IntKind.i64)) v0),(1,AV.val (Ty.slc false (Ty.pair (Ty.int IntKind.i64) (Ty.pair (Ty.int IntKind.i64) PairT))) v1),(9,AV.val (Ty.int IntKind.i64) v9),(10,AV.at_ 1000010 []),(11,AV.val (Ty.int IntKind.i64) v70),(61,AV.val (Ty.int IntKind.i64) v61),(66,AV.val (Ty.int IntKind.i64) v66),(67,AV.val (Ty.int IntKind.i64) v67),(69,AV.val (Ty.int IntKind.i64) v69),(70,AV.val (Ty.int IntKind.i64) v70),(73,AV.val (Ty.int IntKind.i64) v9),(74,AV.val (Ty.int IntKind.i64) (0:Int))] [(1000010,Ent.own (Ty.slc true (Ty.pair (Ty.int IntKind.i64) (Ty.pair (Ty.int IntKind.i64) PairT))) o1000010)])) (.need (inK IntKind.i64 (v67+(1:Int))) (.cut (loopAt (bodyOf Try.prog 3) 11).1 (loopAt (bodyOf Try.prog 3) 11).2 (St.mk [(0,AV.val (Ty.slc false (Ty.int IntKind.i64)) v0),(1,AV.val (Ty.slc false (Ty.pair (Ty.int IntKind.i64) (Ty.pair (Ty.int IntKind.i64) PairT))) v1),(9,AV.val (Ty.int IntKind.i64) v9),(10,AV.at_ 1000010 []),(61,AV.val (Ty.int IntKind.i64) v61),(66,AV.val (Ty.int IntKind.i64) v66),(67,AV.val (Ty.int IntKind.i64) (v67+(1:Int)))] [(1000010,Ent.own (Ty.slc true (Ty.pair (Ty.int IntKind.i64) (Ty.pair (Ty.int IntKind.i64) PairT))) o1000010)]))):=by kernel_rfl
def ESnapEnds_s16 (v0:List Int) (v1:List (Int×Int×Int×Int×Unit)) (v9:Int) (v11:Int) (v61:Int) (v66:Int) (v67:Int) (v69:Int) (v70:Int) (v73:Int) (v74:Int) (o1000010:List (Int×Int×Int×Int×Unit)):St:=St.mk [(0,AV.val (Ty.slc false (Ty.int IntKind.i64)) v0),(1,AV.val (Ty.slc false (Ty.pair (Ty.int IntKind.i64) (Ty.pair (Ty.int IntKind.i64) PairT))) v1),(9,AV.val (Ty.int IntKind.i64) v9),(10,AV.at_ 1000010 []),(11,AV.val (Ty.int IntKind.i64) v11),(61,AV.val (Ty.int IntKind.i64) v61),(66,AV.val (Ty.int IntKind.i64) v66),(67,AV.val (Ty.int IntKind.i64) v67),(69,AV.val (Ty.int IntKind.i64) v69),(70,AV.val (Ty.int IntKind.i64) v70),(73,AV.val (Ty.int IntKind.i64) v73),(74,AV.val (Ty.int IntKind.i64) v74)] [(1000010,Ent.own (Ty.slc true (Ty.pair (Ty.int IntKind.i64) (Ty.pair (Ty.int IntKind.i64) PairT))) o1000010)]
theorem ESnapEnds_l16 (v0:List Int) (v1:List (Int×Int×Int×Int×Unit)) (v9:Int) (v11:Int) (v61:Int) (v66:Int) (v67:Int) (v69:Int) (v70:Int) (v73:Int) (v74:Int) (o1000010:List (Int×Int×Int×Int×Unit)):exec ESnapEnds 1000 (.code (loopAt (bodyOf Try.prog 3) 16).1::.inLoop (loopAt (bodyOf Try.prog 3) 16).1::(loopAt (bodyOf Try.prog 3) 16).2) (ESnapEnds_s16 v0 v1 v9 v11 v61 v66 v67 v69 v70 v73 v74 o1000010) =
  cond (decide (v74<v73)) (cond (decide (v11≠v74)) (cond (decide ((↑(List.length o1000010):Int)<(200:Int))) (.need (List.length o1000010+List.length (List.set [((0:Int),(0:Int),(0:Int),(0:Int),())] (Int.toNat (↑0:Int)) ((2:Int),v11,v74,(0:Int),()))≤140737488355328∧(List.length o1000010+List.length (List.set [((0:Int),(0:Int),(0:Int),(0:Int),())] (Int.toNat (↑0:Int)) ((2:Int),v11,v74,(0:Int),())))*Ty.wb (Ty.pair (Ty.int IntKind.i64) (Ty.pair (Ty.int IntKind.i64) PairT))≤140737488355328) (.need (inK IntKind.i64 (v74+(1:Int))) (.cut (loopAt (bodyOf Try.prog 3) 16).1 (loopAt (bodyOf Try.prog 3) 16).2 (St.mk [(0,AV.val (Ty.slc false (Ty.int IntKind.i64)) v0),(1,AV.val (Ty.slc false (Ty.pair (Ty.int IntKind.i64) (Ty.pair (Ty.int IntKind.i64) PairT))) v1),(9,AV.val (Ty.int IntKind.i64) v9),(10,AV.at_ 1000010 []),(11,AV.val (Ty.int IntKind.i64) v11),(61,AV.val (Ty.int IntKind.i64) v61),(66,AV.val (Ty.int IntKind.i64) v66),(67,AV.val (Ty.int IntKind.i64) v67),(69,AV.val (Ty.int IntKind.i64) v69),(70,AV.val (Ty.int IntKind.i64) v70),(73,AV.val (Ty.int IntKind.i64) v73),(74,AV.val (Ty.int IntKind.i64) (v74+(1:Int)))] [(1000010,Ent.own (Ty.slc true (Ty.pair (Ty.int IntKind.i64) (Ty.pair (Ty.int IntKind.i64) PairT))) (o1000010++List.set [((0:Int),(0:Int),(0:Int),(0:Int),())] (Int.toNat (↑0:Int)) ((2:Int),v11,v74,(0:Int),())))])))) (.need (inK IntKind.i64 (v74+(1:Int))) (.cut (loopAt (bodyOf Try.prog 3) 16).1 (loopAt (bodyOf Try.prog 3) 16).2 (St.mk [(0,AV.val (Ty.slc false (Ty.int IntKind.i64)) v0),(1,AV.val (Ty.slc false (Ty.pair (Ty.int IntKind.i64) (Ty.pair (Ty.int IntKind.i64) PairT))) v1),(9,AV.val (Ty.int IntKind.i64) v9),(10,AV.at_ 1000010 []),(11,AV.val (Ty.int IntKind.i64) v11),(61,AV.val (Ty.int IntKind.i64) v61),(66,AV.val (Ty.int IntKind.i64) v66),(67,AV.val (Ty.int IntKind.i64) v67),(69,AV.val (Ty.int IntKind.i64) v69),(70,AV.val (Ty.int IntKind.i64) v70),(73,AV.val (Ty.int IntKind.i64) v73),(74,AV.val (Ty.int IntKind.i64) (v74+(1:Int)))] [(1000010,Ent.own (Ty.slc true (Ty.pair (Ty.int IntKind.i64) (Ty.pair (Ty.int IntKind.i64) PairT))) o1000010)])))) (.need (inK IntKind.i64 (v74+(1:Int))) (.cut (loopAt (bodyOf Try.prog 3) 16).1 (loopAt (bodyOf Try.prog 3) 16).2 (St.mk [(0,AV.val (Ty.slc false (Ty.int IntKind.i64)) v0),(1,AV.val (Ty.slc false (Ty.pair (Ty.int IntKind.i64) (Ty.pair (Ty.int IntKind.i64) PairT))) v1),(9,AV.val (Ty.int IntKind.i64) v9),(10,AV.at_ 1000010 []),(11,AV.val (Ty.int IntKind.i64) v11),(61,AV.val (Ty.int IntKind.i64) v61),(66,AV.val (Ty.int IntKind.i64) v66),(67,AV.val (Ty.int IntKind.i64) v67),(69,AV.val (Ty.int IntKind.i64) v69),(70,AV.val (Ty.int IntKind.i64) v70),(73,AV.val (Ty.int IntKind.i64) v73),(74,AV.val (Ty.int IntKind.i64) (v74+(1:Int)))] [(1000010,Ent.own (Ty.slc true (Ty.pair (Ty.int IntKind.i64) (Ty.pair (Ty.int IntKind.i64) PairT))) o1000010)])))) (.need (inK IntKind.i64 (v70+(1:Int))) (.cut (loopAt (bodyOf Try.prog 3) 13).1 (loopAt (bodyOf Try.prog 3) 13).2 (St.mk [(0,AV.val (Ty.slc false (Ty.int IntKind.i64)) v0),(1,AV.val (Ty.slc false (Ty.pair (Ty.int IntKind.i64) (Ty.pair (Ty.int IntKind.i64) PairT))) v1),(9,AV.val (Ty.int IntKind.i64) v9),(10,AV.at_ 1000010 []),(61,AV.val (Ty.int IntKind.i64) v61),(66,AV.val (Ty.int IntKind.i64) v66),(67,AV.val (Ty.int IntKind.i64) v67),(69,AV.val (Ty.int IntKind.i64) v69),(70,AV.val (Ty.int IntKind.i64) (v70+(1:Int)))] [(1000010,Ent.own (Ty.slc true (Ty.pair (Ty.int IntKind.i64) (Ty.pair (Ty.int IntKind.i64) PairT))) o1000010)]))):=by kernel_rfl
def EndZ (v:List Int) (D w z:Nat) (m:List MoveD):Prop:=snE v m=0∧(m.length<200→Rd v.length D (who w z) 0 0 0 (stA v m)∧(2≤z→∀ p q,p<v.length→q<v.length→p≠q→(laneAt (stA v m).2.2.2.1 p q).2.1=true))
def EndR (v:List Int) (D w z r a b:Nat) (m:List MoveD):Prop:=snE v m=0∧(m.length<200→Rd v.length D (who w z) r a b (stA v m))
theorem EndR.take {v:List Int} {D w z r a b:Nat} {m:List MoveD} (h:EndR v D w z r a b m) (ha:a<v.length) (hb:b<v.length) (hab:a≠b) (hm:m.length<200):EndR v D w z r a (b+1) (m++[(2,(a:Int),(b:Int),0,())]):=by
  have hx:MvOk v.length (2,(a:Int),(b:Int),0,()):=⟨⟨by show (1:Int)≤2; omega,by show (2:Int)≤3; omega⟩,⟨by show (0:Int)≤a; omega,by show (a:Int)<v.length; omega⟩,⟨by show (0:Int)≤b; omega,by show (b:Int)<v.length; omega⟩,⟨Int.le_refl _,by show (0:Int)≤1000000; omega⟩,fun (e:(a:Int)=b)=>by omega⟩
  refine ⟨snE_app h.1 hm hx,fun _=>?_⟩
  rw [stA_app]
  exact (h.2 hm).take (GW.moves h.1 m.length (Nat.le_refl _)) ha hb hab
theorem EndR.full {v:List Int} {D w z r a b a' b':Nat} {m:List MoveD} (h:EndR v D w z r a b m) (hm:¬ m.length<200):EndR v D w z r a' b' m:=⟨h.1,fun e=>absurd e hm⟩
theorem EndR.same {v:List Int} {D w z r a:Nat} {m:List MoveD} (h:EndR v D w z r a a m):EndR v D w z r a (a+1) m:=⟨h.1,fun e=>(h.2 e).same⟩
theorem EndR.row {v:List Int} {D w z r a:Nat} {m:List MoveD} (h:EndR v D w z r a v.length m):EndR v D w z r (a+1) 0 m:=⟨h.1,fun e=>(h.2 e).row⟩
theorem EndR.round {v:List Int} {D w z r:Nat} {m:List MoveD} (h:EndR v D w z r v.length 0 m):EndR v D w z (r+1) 0 0 m:=⟨h.1,fun e=>(h.2 e).round⟩
theorem EndR.next {v:List Int} {D w z r:Nat} {m:List MoveD} (h:EndR v D w z r 0 0 m) (hr:D≤r) (hw:w<v.length):EndZ v D w (z+1) m :=
  ⟨h.1,fun e=>⟨((h.2 e).next h.1 hr hw).1,fun hz=>((h.2 e).next h.1 hr hw).2 (by omega)⟩⟩
theorem EndZ.whole {v:List Int} {D w:Nat} {m:List MoveD} (h:EndZ v D w 2 m) (hm:m.length<200):(picF (stA v m)).2.2.1=true :=
  whole_of h.1 (fun p hp=>(h.2 hm).1.on p hp (fun e=>by cases e)) ((h.2 hm).2 (Nat.le_refl _))
attribute [local irreducible] plF snE exec
set_option maxHeartbeats 1000000 in
theorem cSnapEnds_valid:cSnapEnds.Valid Try.prog 3:=by
  refine Ctr.valid_of ESnapEnds_ok rfl rfl Try.func3 (c:=bodyOf Try.prog 3) rfl rfl FSnapEnds_ok rfl ?_
  rintro ⟨(v:List Int),(l:List MoveD),(x:Int),⟨⟩⟩ - -
  refine exec_sound (n:=1000) ESnapEnds_ok FSnapEnds_ok ?_
  refine holds_of_eq (ESnapEnds_t v l x) ?_
  have one:∀ y:MoveD,List.set [((0:Int),(0:Int),(0:Int),(0:Int),())] (Int.toNat 0) y=[y]:=fun _=>rfl
  have w32:Ty.wb Move=32:=rfl
  simp only [holds_cond,Tree.holds,true_and,true_implies,decide_eq_true_eq,decide_eq_false_iff_not,Bool.not_eq_true',Bool.not_eq_false',Int.toNat_natCast,inK_i64,List.length_set,List.length_cons,List.length_nil,one,w32]
  refine ⟨fun _=>rfl,fun c0=>?_⟩
  have hs:snE v l=0:=Decidable.not_not.1 c0
  obtain ⟨⟨n1,n6⟩,hl,hv,hm⟩:=snE_ok hs
  refine ⟨fun _=>rfl,fun c1=>⟨by omega,fun _=>?_⟩⟩
  have b1:0≤(v.length:Int)*((v.length:Int) - 1)∧(v.length:Int)*((v.length:Int) - 1)≤30:=by
    have e:v.length=1∨v.length=2∨v.length=3∨v.length=4∨v.length=5∨v.length=6:=by omega
    rcases e with e|e|e|e|e|e<;>rw [e]<;>decide
  have b2:0≤(v.length:Int)*((v.length:Int) - 1)*((l.length:Int)+2)∧(v.length:Int)*((v.length:Int) - 1)*((l.length:Int)+2)≤30*202 :=
    ⟨Int.mul_nonneg b1.1 (by omega),Int.mul_le_mul b1.2 (by omega) (by omega) (by omega)⟩
  refine ⟨by omega,fun _=>⟨by omega,fun _=>⟨by omega,fun _=>⟨fun _=>rfl,fun c2=>⟨by omega,fun _=>⟨by omega,fun _=>⟨⟨by omega,by omega⟩,fun _=>?_⟩⟩⟩⟩⟩⟩⟩
  have hr:=rest_in (a:=x) (show 0<(v.length:Int) by omega)
  obtain ⟨w,hw⟩:∃ w:Nat,rest x (v.length:Int)=w:=⟨(rest x (v.length:Int)).toNat,by omega⟩
  rw [hw] at hr ⊢
  have hw:w<v.length:=by omega
  obtain ⟨s1,s2⟩:=Rd.start hs (by omega) hw
  have h0:EndZ v (l.length+1) w 0 (l++[(3,(w:Int),0,0,())]):=⟨s1,fun _=>⟨s2,fun e=>by omega⟩⟩
  refine Reach.loopI ESnapEnds_ok FSnapEnds_ok (fun s:Nat×List MoveD=>ESnapEnds_s9 v l (v.length:Int) (s.1:Int) s.2) (fun s=>s.1≤2∧EndZ v (l.length+1) w s.1 s.2) (fun s=>2 - s.1) 1000 (fun _=>⟨uniq_of rfl,uniq_of rfl⟩) ?_ (0,l++[(3,(w:Int),0,0,())]) ⟨Nat.zero_le _,h0⟩
  rintro ⟨z,m⟩ ⟨(k1:z≤2),(h1:EndZ v (l.length+1) w z m)⟩ - ih
  refine holds_of_eq (ESnapEnds_l9 ..) ?_
  simp only [holds_cond,Tree.holds,true_and,true_implies,decide_eq_true_eq,decide_eq_false_iff_not,Bool.not_eq_true',Bool.not_eq_false',Int.toNat_natCast,inK_i64,List.length_set,List.length_cons,List.length_nil]
  refine ⟨fun c=>⟨by omega,fun _=>?_⟩,fun c=>?_⟩
  · have hz:z<2:=by omega
    refine Reach.loopI ESnapEnds_ok FSnapEnds_ok (fun s:Nat×List MoveD=>ESnapEnds_s11 v l (v.length:Int) (z:Int) ((l.length:Int)+(v.length:Int)) (s.1:Int) s.2) (fun s=>s.1≤l.length+v.length∧EndR v (l.length+1) w z s.1 0 0 s.2) (fun s=>l.length+v.length - s.1) 1000 (fun _=>⟨uniq_of rfl,uniq_of rfl⟩) ?_ (0,m) ⟨Nat.zero_le _,h1.1,fun e=>(h1.2 e).1⟩
    rintro ⟨r,m⟩ ⟨(k2:r≤l.length+v.length),(h2:EndR v (l.length+1) w z r 0 0 m)⟩ - ih2
    refine holds_of_eq (ESnapEnds_l11 ..) ?_
    simp only [holds_cond,Tree.holds,true_and,true_implies,decide_eq_true_eq,decide_eq_false_iff_not,Bool.not_eq_true',Bool.not_eq_false',Int.toNat_natCast,inK_i64,List.length_set,List.length_cons,List.length_nil]
    refine ⟨fun c2=>?_,fun c2=>⟨by omega,fun _=>ih (z+1,m) ⟨by show z+1≤2; omega,h2.next (by omega) hw⟩ (by show 2 - (z+1)<2 - z; omega)⟩⟩
    refine Reach.loopI ESnapEnds_ok FSnapEnds_ok (fun s:Nat×List MoveD=>ESnapEnds_s13 v l (v.length:Int) (z:Int) ((l.length:Int)+(v.length:Int)) (r:Int) (v.length:Int) (s.1:Int) s.2) (fun s=>s.1≤v.length∧EndR v (l.length+1) w z r s.1 0 s.2) (fun s=>v.length - s.1) 1000 (fun _=>⟨uniq_of rfl,uniq_of rfl⟩) ?_ (0,m) ⟨Nat.zero_le _,h2⟩
    rintro ⟨a,m⟩ ⟨(k3:a≤v.length),(h3:EndR v (l.length+1) w z r a 0 m)⟩ - ih3
    refine holds_of_eq (ESnapEnds_l13 ..) ?_
    simp only [holds_cond,Tree.holds,true_and,true_implies,decide_eq_true_eq,decide_eq_false_iff_not,Bool.not_eq_true',Bool.not_eq_false',Int.toNat_natCast,inK_i64,List.length_set,List.length_cons,List.length_nil]
    refine ⟨fun c3=>?_,fun c3=>⟨by omega,fun _=>?_⟩⟩
    · have ha:a<v.length:=by omega
      refine Reach.loopI ESnapEnds_ok FSnapEnds_ok (fun s:Nat×List MoveD=>ESnapEnds_s16 v l (v.length:Int) (a:Int) (z:Int) ((l.length:Int)+(v.length:Int)) (r:Int) (v.length:Int) (a:Int) (v.length:Int) (s.1:Int) s.2) (fun s=>s.1≤v.length∧EndR v (l.length+1) w z r a s.1 s.2) (fun s=>v.length - s.1) 1000 (fun _=>⟨uniq_of rfl,uniq_of rfl⟩) ?_ (0,m) ⟨Nat.zero_le _,h3⟩
      rintro ⟨b,m⟩ ⟨(k4:b≤v.length),(h4:EndR v (l.length+1) w z r a b m)⟩ - ih4
      refine holds_of_eq (ESnapEnds_l16 ..) ?_
      have hm2:=(snE_ok h4.1).2.1
      simp only [holds_cond,Tree.holds,true_and,true_implies,decide_eq_true_eq,decide_eq_false_iff_not,Bool.not_eq_true',Bool.not_eq_false',Int.toNat_natCast,inK_i64,List.length_set,List.length_cons,List.length_nil,one,w32]
      refine ⟨fun c4=>⟨fun c5=>⟨fun c6=>⟨⟨by omega,by omega⟩,fun _=>⟨by omega,fun _=>?_⟩⟩,fun c6=>⟨by omega,fun _=>?_⟩⟩,fun c5=>⟨by omega,fun _=>?_⟩⟩,fun c4=>⟨by omega,fun _=>?_⟩⟩
      · exact ih4 (b+1,m++[(2,(a:Int),(b:Int),0,())]) ⟨by show b+1≤_; omega,h4.take ha (by omega) (by omega) (by omega)⟩ (by show v.length - (b+1)<v.length - b; omega)
      · exact ih4 (b+1,m) ⟨by show b+1≤_; omega,h4.full (by omega)⟩ (by show v.length - (b+1)<v.length - b; omega)
      · obtain rfl:a=b:=by omega
        exact ih4 (a+1,m) ⟨by show a+1≤_; omega,h4.same⟩ (by show v.length - (a+1)<v.length - a; omega)
      · obtain rfl:b=v.length:=by omega
        exact ih3 (a+1,m) ⟨by show a+1≤_; omega,h4.row⟩ (by show v.length - (a+1)<v.length - a; omega)
    · obtain rfl:a=v.length:=by omega
      exact ih2 (r+1,m) ⟨by show r+1≤_; omega,h3.round⟩ (by show l.length+v.length - (r+1)<l.length+v.length - r; omega)
  · obtain rfl:z=2:=by omega
    have hp:=plF_ok h1.1
    have hm2:=(snE_ok h1.1).2.1
    rw [hp]
    refine ⟨fun _=>⟨fun _=>rfl,fun d=>?_⟩,fun d=>absurd rfl d⟩
    by_cases e:m.length<200
    · have:(picF (mvsF (g0 v) m m.length)).2.2.1=true:=h1.whole e
      rw [this] at d; cases d
    · show ((decide _,()):Bool×Unit)=(true,())
      rw [decide_eq_true (by omega)]
end Go.Proofs.Ytegigiecamjobaa
