/- SynodOne. No condition. -/
import Derived.Test.YtegigiecamjobaaSynE
namespace Go.Proofs.Ytegigiecamjobaa
open Go.Ex Go.Sort
set_option maxRecDepth 100000
def ceqS:Ctr:={ ps:=[.v (.slc false .str),.v (.slc false .str)],rs:=[.bool],pre:=fun _=>True,fn:=fun x=>(decide ((show List (List UInt8) from x.1)=(show List (List UInt8) from x.2.1)),()),out:=fun _=>() }
noncomputable def EeqS:Env:={ P:=Try.prog,tt:=tt,ctr:=[],res:=[Go.ResultVar.tmp 4],rs:=[Ty.bool],ps:=[PK.v (Ty.slc false Ty.str),PK.v (Ty.slc false Ty.str)],cuts:=[(4,[(0,none),(1,none),(12,none),(13,none)])],nt:=26 }
theorem EeqS_ok:EnvOk EeqS:=envOk tt_ok trivial
theorem FeqS_ok:FnOk EeqS Try.f42:=⟨rfl,rfl⟩
theorem EeqS_t (x0:List (List UInt8)) (x1:List (List UInt8)):exec EeqS 1000 [.code (bodyOf Try.prog 42)] (initSt ceqS.ps ((x0,x1,()))) =
  cond (decide ((↑(List.length x0):Int)≠(↑(List.length x1):Int))) (.ret ((false,()))) (.cut (loopAt (bodyOf Try.prog 42) 4).1 (loopAt (bodyOf Try.prog 42) 4).2 (St.mk [(0,AV.val (Ty.slc false Ty.str) x0),(1,AV.val (Ty.slc false Ty.str) x1),(12,AV.val (Ty.int IntKind.i64) (↑(List.length x0):Int)),(13,AV.val (Ty.int IntKind.i64) (0:Int))] [])):=by kernel_rfl
def EeqS_s4 (v0:List (List UInt8)) (v1:List (List UInt8)) (v12:Int) (v13:Int):St:=St.mk [(0,AV.val (Ty.slc false Ty.str) v0),(1,AV.val (Ty.slc false Ty.str) v1),(12,AV.val (Ty.int IntKind.i64) v12),(13,AV.val (Ty.int IntKind.i64) v13)] []
theorem EeqS_l4 (v0:List (List UInt8)) (v1:List (List UInt8)) (v12:Int) (v13:Int):exec EeqS 1000 (.code (loopAt (bodyOf Try.prog 42) 4).1::.inLoop (loopAt (bodyOf Try.prog 42) 4).1::(loopAt (bodyOf Try.prog 42) 4).2) (EeqS_s4 v0 v1 v12 v13) =
  cond (decide (v13<v12)) (.need ((0:Int)≤v13∧v13<(↑(List.length v0):Int)) (.need ((0:Int)≤v13∧v13<(↑(List.length v1):Int)) (cond (decide (List.getD v0 (Int.toNat v13) []≠List.getD v1 (Int.toNat v13) [])) (.ret ((false,()))) (.need (inK IntKind.i64 (v13+(1:Int))) (.cut (loopAt (bodyOf Try.prog 42) 4).1 (loopAt (bodyOf Try.prog 42) 4).2 (St.mk [(0,AV.val (Ty.slc false Ty.str) v0),(1,AV.val (Ty.slc false Ty.str) v1),(12,AV.val (Ty.int IntKind.i64) v12),(13,AV.val (Ty.int IntKind.i64) (v13+(1:Int)))] [])))))) (.ret ((true,()))):=by kernel_rfl
theorem ceqS_valid:ceqS.Valid Try.prog 42:=by
  refine Ctr.valid_of EeqS_ok rfl rfl Try.func42 (c:=bodyOf Try.prog 42) rfl rfl FeqS_ok rfl ?_
  rintro ⟨(l:List (List UInt8)),(m:List (List UInt8)),⟨⟩⟩ - ⟨⟨hl,-⟩,-⟩
  have hl:l.length≤9223372036854775807:=hl
  refine exec_sound (n:=1000) EeqS_ok FeqS_ok ?_
  refine holds_of_eq (EeqS_t l m) ?_
  have fin:∀ {b:Bool},(b=true↔l=m)→((b,()):Bool×Unit)=(decide (l=m),()):=fun {b} h=>by
    cases b with
    | true=>rw [decide_eq_true (h.1 rfl)]
    | false=>rw [decide_eq_false (fun e=>by cases h.2 e)]
  simp only [holds_cond,Tree.holds,true_and,true_implies,decide_eq_true_eq,decide_eq_false_iff_not,Bool.not_eq_true',Bool.not_eq_false',Int.toNat_natCast,inK_i64,List.length_set,List.length_cons,List.length_nil]
  refine ⟨fun c=>fin ⟨fun h=>(by cases h),fun h=>absurd (congrArg (fun q:List (List UInt8)=>(q.length:Int)) h) c⟩,fun c=>?_⟩
  refine Reach.loopI EeqS_ok FeqS_ok (fun i:Nat=>EeqS_s4 l m (l.length:Int) (i:Int)) (fun i=>i≤l.length∧∀ j,j<i→l.getD j []=m.getD j [])
    (fun i=>l.length - i) 1000 (fun _=>⟨uniq_of rfl,uniq_of rfl⟩) ?_ 0 ⟨Nat.zero_le _,fun j hj=>by omega⟩
  rintro i ⟨k1,k2⟩ - ih
  refine holds_of_eq (EeqS_l4 ..) ?_
  have c:l.length=m.length:=by omega
  simp only [holds_cond,Tree.holds,true_and,true_implies,decide_eq_true_eq,decide_eq_false_iff_not,Bool.not_eq_true',Bool.not_eq_false',Int.toNat_natCast,inK_i64,List.length_set,List.length_cons,List.length_nil]
  refine ⟨fun d1=>⟨by omega,fun _=>⟨by omega,fun _=>⟨fun d2=>fin ⟨fun h=>(by cases h),fun h=>absurd (congrArg (fun q:List (List UInt8)=>q.getD i []) h) (d2)⟩,fun d2=>⟨by omega,fun _=>ih (i+1) ⟨by omega,fun j hj=>?_⟩ (by omega)⟩⟩⟩⟩,fun d1=>fin ⟨fun _=>eq_of_getD c (fun j hj=>k2 j (by omega)),fun _=>rfl⟩⟩
  rcases Nat.lt_or_ge j i with h|h
  · exact k2 j h
  · obtain rfl:j=i:=by omega
    exact Decidable.not_not.1 d2
def cidxS:Ctr:={ ps:=[.v (.slc false .str),.v .str],rs:=[I64],pre:=fun _=>True,fn:=fun x=>(idxOf (fun y=>decide ((show List UInt8 from x.2.1)=y)) x.1,()),out:=fun _=>() }
noncomputable def EidxS:Env:={ P:=Try.prog,tt:=tt,ctr:=[],res:=[Go.ResultVar.tmp 4],rs:=[Ty.int IntKind.i64],ps:=[PK.v (Ty.slc false Ty.str),PK.v Ty.str],cuts:=[(2,[(0,none),(1,none),(7,none),(8,none)])],nt:=19 }
def EidxS_s2 (v0:List (List UInt8)) (v1:List UInt8) (v7:Int) (v8:Int):St:=St.mk [(0,AV.val (Ty.slc false Ty.str) v0),(1,AV.val Ty.str v1),(7,AV.val (Ty.int IntKind.i64) v7),(8,AV.val (Ty.int IntKind.i64) v8)] []
def ccontS:Ctr:={ ps:=[.v (.slc false .str),.v .str],rs:=[.bool],pre:=fun _=>True,fn:=fun x=>(decide ((show List UInt8 from x.2.1)∈(show List (List UInt8) from x.1)),()),out:=fun _=>() }
noncomputable def EcontS:Env:={ P:=Try.prog,tt:=tt,ctr:=[(97,cidxS)],res:=[Go.ResultVar.tmp 4],rs:=[Ty.bool],ps:=[PK.v (Ty.slc false Ty.str),PK.v Ty.str],cuts:=[],nt:=9 }
def cSynodOne:Ctr:={ ps:=[.v I64,.v (.slc false Act)],rs:=[.bool],pre:=fun _=>True,fn:=fun _=>(true,()),out:=fun _=>() }
noncomputable def ESynodOne:Env:={ P:=Try.prog,tt:=tt,ctr:=[(49,cfew),(46,cvoted),(47,cone),(48,cchosen),(50,cscheck),(42,ceqS),(51,ccontS)],res:=[Go.ResultVar.tmp 4],rs:=[Ty.bool],ps:=[PK.v (Ty.int IntKind.i64),PK.v (Ty.slc false (Ty.pair (Ty.int IntKind.i64) (Ty.pair (Ty.int IntKind.i64) (Ty.pair (Ty.int IntKind.i64) (Ty.pair Ty.str Ty.unit)))))],cuts:=[],nt:=75 }
theorem few_votes (n:Int) (l:List ActD):VotOk (few n).toNat (votF (few n) l):=votF_ok (few_in n).1 (few_in n).2 l
end Go.Proofs.Ytegigiecamjobaa
