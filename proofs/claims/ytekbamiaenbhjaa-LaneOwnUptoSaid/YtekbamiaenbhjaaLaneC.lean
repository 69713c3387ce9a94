/- Two receivers that are the same. -/
import Derived.Test.YtekbamiaenbhjaaLaneB
namespace Go.Proofs.Ytekbamiaenbhjaa
open Go.Ex
set_option maxRecDepth 100000
theorem a4g {a b:n9}:E5 (Ty.pair (Ty.int IntKind.i64) (Ty.pair Ty.str Ty.unit)) a b=true↔a=b:=by
  obtain ⟨a1,a2,a3⟩:=a
  obtain ⟨b1,b2,b3⟩:=b
  show (decide (a1=b1) && (decide ((a2:List UInt8)=b2) && decide ((a3:Unit)=b3)))=true↔_
  rw [Bool.and_eq_true,Bool.and_eq_true,decide_eq_true_eq,decide_eq_true_eq]
  constructor
  · rintro ⟨rfl,rfl,_⟩; rfl
  · intro h; cases h; exact ⟨rfl,rfl,by simp⟩
theorem a9T {a b:n9} (d:E5 (Ty.pair (Ty.int IntKind.i64) (Ty.pair Ty.str Ty.unit)) a b=false):¬ a=b:=fun h=>by rw [a4g.2 h] at d; cases d
def b5R:t5:={ ps:=[.v (.d0 false C0),.v (.d0 false C0)],rs:=[.bool],pre:=fun _=>True,fn:=fun x=>(decide ((show List (n9) from x.1)=(show List (n9) from x.2.1)),()),out:=fun _=>() }
noncomputable def b6v:Env:={ P:=Try.prog,tt:=tt,C9:=[],res:=[Go.ResultVar.tmp 4],rs:=[Ty.bool],ps:=[PK.v (Ty.d0 false (Ty.pair (Ty.int IntKind.i64) (Ty.pair Ty.str Ty.unit))),PK.v (Ty.d0 false (Ty.pair (Ty.int IntKind.i64) (Ty.pair Ty.str Ty.unit)))],C7:=[(4,[(0,none),(1,none),(12,none),(13,none)])],nt:=26 }
theorem a9p:x8 b6v:=C2 q9 trivial
theorem a9i:D3 b6v Try.f69:=⟨rfl,rfl⟩
theorem c1O (x0:List (Int×List UInt8×Unit)) (x1:List (Int×List UInt8×Unit)):exec b6v 1000 [.code (d9 Try.prog 69)] (w7 b5R.ps ((x0,x1,()))) =
  cond (decide ((↑(List.length x0):Int)≠(↑(List.length x1):Int))) (.ret ((false,()))) (.cut (j7 (d9 Try.prog 69) 4).1 (j7 (d9 Try.prog 69) 4).2 (St.mk [(0,AV.val (Ty.d0 false (Ty.pair (Ty.int IntKind.i64) (Ty.pair Ty.str Ty.unit))) x0),(1,AV.val (Ty.d0 false (Ty.pair (Ty.int IntKind.i64) (Ty.pair Ty.str Ty.unit))) x1),(12,AV.val (Ty.int IntKind.i64) (↑(List.length x0):Int)),(13,AV.val (Ty.int IntKind.i64) (0:Int))] [])):=by kernel_rfl
def b4T (v0:List (Int×List UInt8×Unit)) (v1:List (Int×List UInt8×Unit)) (v12:Int) (v13:Int):St:=St.mk [(0,AV.val (Ty.d0 false (Ty.pair (Ty.int IntKind.i64) (Ty.pair Ty.str Ty.unit))) v0),(1,AV.val (Ty.d0 false (Ty.pair (Ty.int IntKind.i64) (Ty.pair Ty.str Ty.unit))) v1),(12,AV.val (Ty.int IntKind.i64) v12),(13,AV.val (Ty.int IntKind.i64) v13)] []
theorem c0V (v0:List (Int×List UInt8×Unit)) (v1:List (Int×List UInt8×Unit)) (v12:Int) (v13:Int):exec b6v 1000 (.code (j7 (d9 Try.prog 69) 4).1::.inLoop (j7 (d9 Try.prog 69) 4).1::(j7 (d9 Try.prog 69) 4).2) (b4T v0 v1 v12 v13) =
  cond (decide (v13<v12)) (.f9 ((0:Int)≤v13∧v13<(↑(List.length v0):Int)) (.f9 ((0:Int)≤v13∧v13<(↑(List.length v1):Int)) (cond (!E5 (Ty.pair (Ty.int IntKind.i64) (Ty.pair Ty.str Ty.unit)) (List.getD v0 (Int.toNat v13) ((0:Int),[],())) (List.getD v1 (Int.toNat v13) ((0:Int),[],()))) (.ret ((false,()))) (.f9 (C1 IntKind.i64 (v13+(1:Int))) (.cut (j7 (d9 Try.prog 69) 4).1 (j7 (d9 Try.prog 69) 4).2 (St.mk [(0,AV.val (Ty.d0 false (Ty.pair (Ty.int IntKind.i64) (Ty.pair Ty.str Ty.unit))) v0),(1,AV.val (Ty.d0 false (Ty.pair (Ty.int IntKind.i64) (Ty.pair Ty.str Ty.unit))) v1),(12,AV.val (Ty.int IntKind.i64) v12),(13,AV.val (Ty.int IntKind.i64) (v13+(1:Int)))] [])))))) (.ret ((true,()))):=by kernel_rfl
theorem a71:b5R.Valid Try.prog 69:=by
  refine t5.s4 a9p rfl rfl Try.func69 (c:=d9 Try.prog 69) rfl rfl a9i rfl ?_
  rintro ⟨(l:List (n9)),(m:List (n9)),⟨⟩⟩ - ⟨⟨hl,-⟩,-⟩
  have hl:l.length≤9223372036854775807:=hl
  refine l5 (n:=1000) a9p a9i ?_
  refine j8 (c1O l m) ?_
  have fin:∀ {b:Bool},(b=true↔l=m)→((b,()):Bool×Unit)=(decide (l=m),()):=fun {b} h=>by
    cases b with
    | true=>rw [decide_eq_true (h.1 rfl)]
    | false=>rw [decide_eq_false (fun e=>by cases h.2 e)]
  simp only [p8,Tree.holds,true_and,true_implies,decide_eq_true_eq,decide_eq_false_iff_not,Bool.not_eq_true',Bool.not_eq_false',Int.toNat_natCast,u6,List.length_set,List.length_cons,List.length_nil]
  refine ⟨fun c=>fin ⟨fun h=>(by cases h),fun h=>absurd (congrArg (fun q:List (n9)=>(q.length:Int)) h) c⟩,fun c=>?_⟩
  refine Reach.V1 a9p a9i (fun i:Nat=>b4T l m (l.length:Int) (i:Int)) (fun i=>i≤l.length∧∀ j,j<i→l.getD j (0,[],())=m.getD j (0,[],()))
    (fun i=>l.length - i) 1000 (fun _=>⟨x7 rfl,x7 rfl⟩) ?_ 0 ⟨Nat.zero_le _,fun j hj=>by omega⟩
  rintro i ⟨k1,k2⟩ - ih
  refine j8 (c0V ..) ?_
  have c:l.length=m.length:=by omega
  simp only [p8,Tree.holds,true_and,true_implies,decide_eq_true_eq,decide_eq_false_iff_not,Bool.not_eq_true',Bool.not_eq_false',Int.toNat_natCast,u6,List.length_set,List.length_cons,List.length_nil]
  refine ⟨fun d1=>⟨by omega,fun _=>⟨by omega,fun _=>⟨fun d2=>fin ⟨fun h=>(by cases h),fun h=>absurd (congrArg (fun q:List (n9)=>q.getD i (0,[],())) h) (a9T d2)⟩,fun d2=>⟨by omega,fun _=>ih (i+1) ⟨by omega,fun j hj=>?_⟩ (by omega)⟩⟩⟩⟩,fun d1=>fin ⟨fun _=>eq_of_getD c (fun j hj=>k2 j (by omega)),fun _=>rfl⟩⟩
  rcases Nat.lt_or_ge j i with h|h
  · exact k2 j h
  · obtain rfl:j=i:=by omega
    exact a4g.1 d2
end Go.Proofs.Ytekbamiaenbhjaa
