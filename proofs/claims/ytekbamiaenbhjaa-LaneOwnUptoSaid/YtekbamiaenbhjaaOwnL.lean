/- ample, stays, spoil at string, api.Parcel, api.Mail. -/
import Derived.Test.YtekbamiaenbhjaaOwnA
import Derived.Test.YtekbamiaenbhjaaLaneC
import Derived.Test.YtekbamiaenbhjaaCausalB
namespace Go.Proofs.Ytekbamiaenbhjaa
open Go.Ex
set_option maxRecDepth 100000
theorem b1C:∀ {l m:List Int},E5.a1F (fun x y:Int=>decide (x=y)) l m=true↔l=m
  | [],[]=>by simp [E5.a1F]
  | [],_::_=>by simp [E5.a1F]
  | _::_,[]=>by simp [E5.a1F]
  | x::l,y::m=>by
    rw [E5.a1F,Bool.and_eq_true,decide_eq_true_eq,b1C,List.cons.injEq]
theorem a52 {a b:n7}:E5 E7 a b=true↔a=b:=by
  obtain ⟨a1,a2,a3,⟨⟩⟩:=a
  obtain ⟨b1,b2,b3,⟨⟩⟩:=b
  show (decide (a1=b1) && (E5.a1F (fun x y:Int=>decide (x=y)) a2 b2 && (decide ((a3:List UInt8)=b3) && true)))=true↔_
  rw [Bool.and_eq_true,Bool.and_eq_true,Bool.and_true,decide_eq_true_eq,decide_eq_true_eq,b1C]
  simp
theorem b4v {a b:n7} (h:E5 E7 a b=false):¬ a=b:=fun e=>by rw [a52.2 e] at h; cases h
def b5S:t5:={ ps:=[.v (.d0 false E7),.v (.d0 false E7)],rs:=[.bool],pre:=fun _=>True,fn:=fun x=>(decide ((show List (n7) from x.1)=(show List (n7) from x.2.1)),()),out:=fun _=>() }
noncomputable def b6w:Env:={ P:=Try.prog,tt:=tt,C9:=[],res:=[Go.ResultVar.tmp 4],rs:=[Ty.bool],ps:=[PK.v (Ty.d0 false (Ty.pair (Ty.int IntKind.i64) (Ty.pair o7 (Ty.pair Ty.str Ty.unit)))),PK.v (Ty.d0 false (Ty.pair (Ty.int IntKind.i64) (Ty.pair o7 (Ty.pair Ty.str Ty.unit))))],C7:=[(4,[(0,none),(1,none),(12,none),(13,none)])],nt:=26 }
theorem a9q:x8 b6w:=C2 q9 trivial
theorem a9j:D3 b6w Try.f70:=⟨rfl,rfl⟩
theorem c1P (x0:List (Int×List Int×List UInt8×Unit)) (x1:List (Int×List Int×List UInt8×Unit)):exec b6w 1000 [.code (d9 Try.prog 70)] (w7 b5S.ps ((x0,x1,()))) =
  cond (decide ((↑(List.length x0):Int)≠(↑(List.length x1):Int))) (.ret ((false,()))) (.cut (j7 (d9 Try.prog 70) 4).1 (j7 (d9 Try.prog 70) 4).2 (St.mk [(0,AV.val (Ty.d0 false (Ty.pair (Ty.int IntKind.i64) (Ty.pair o7 (Ty.pair Ty.str Ty.unit)))) x0),(1,AV.val (Ty.d0 false (Ty.pair (Ty.int IntKind.i64) (Ty.pair o7 (Ty.pair Ty.str Ty.unit)))) x1),(12,AV.val (Ty.int IntKind.i64) (↑(List.length x0):Int)),(13,AV.val (Ty.int IntKind.i64) (0:Int))] [])):=by kernel_rfl
def b4U (v0:List (Int×List Int×List UInt8×Unit)) (v1:List (Int×List Int×List UInt8×Unit)) (v12:Int) (v13:Int):St:=St.mk [(0,AV.val (Ty.d0 false (Ty.pair (Ty.int IntKind.i64) (Ty.pair o7 (Ty.pair Ty.str Ty.unit)))) v0),(1,AV.val (Ty.d0 false (Ty.pair (Ty.int IntKind.i64) (Ty.pair o7 (Ty.pair Ty.str Ty.unit)))) v1),(12,AV.val (Ty.int IntKind.i64) v12),(13,AV.val (Ty.int IntKind.i64) v13)] []
theorem c0W (v0:List (Int×List Int×List UInt8×Unit)) (v1:List (Int×List Int×List UInt8×Unit)) (v12:Int) (v13:Int):exec b6w 1000 (.code (j7 (d9 Try.prog 70) 4).1::.inLoop (j7 (d9 Try.prog 70) 4).1::(j7 (d9 Try.prog 70) 4).2) (b4U v0 v1 v12 v13) =
  cond (decide (v13<v12)) (.f9 ((0:Int)≤v13∧v13<(↑(List.length v0):Int)) (.f9 ((0:Int)≤v13∧v13<(↑(List.length v1):Int)) (cond (!E5 (Ty.pair (Ty.int IntKind.i64) (Ty.pair o7 (Ty.pair Ty.str Ty.unit))) (List.getD v0 (Int.toNat v13) ((0:Int),[(0:Int),(0:Int),(0:Int),(0:Int),(0:Int),(0:Int)],[],())) (List.getD v1 (Int.toNat v13) ((0:Int),[(0:Int),(0:Int),(0:Int),(0:Int),(0:Int),(0:Int)],[],()))) (.ret ((false,()))) (.f9 (C1 IntKind.i64 (v13+(1:Int))) (.cut (j7 (d9 Try.prog 70) 4).1 (j7 (d9 Try.prog 70) 4).2 (St.mk [(0,AV.val (Ty.d0 false (Ty.pair (Ty.int IntKind.i64) (Ty.pair o7 (Ty.pair Ty.str Ty.unit)))) v0),(1,AV.val (Ty.d0 false (Ty.pair (Ty.int IntKind.i64) (Ty.pair o7 (Ty.pair Ty.str Ty.unit)))) v1),(12,AV.val (Ty.int IntKind.i64) v12),(13,AV.val (Ty.int IntKind.i64) (v13+(1:Int)))] [])))))) (.ret ((true,()))):=by kernel_rfl
theorem a72:b5S.Valid Try.prog 70:=by
  refine t5.s4 a9q rfl rfl Try.func70 (c:=d9 Try.prog 70) rfl rfl a9j rfl ?_
  rintro ⟨(l:List (n7)),(m:List (n7)),⟨⟩⟩ - ⟨⟨hl,-⟩,-⟩
  have hl:l.length≤9223372036854775807:=hl
  refine l5 (n:=1000) a9q a9j ?_
  refine j8 (c1P l m) ?_
  have fin:∀ {b:Bool},(b=true↔l=m)→((b,()):Bool×Unit)=(decide (l=m),()):=fun {b} h=>by
    cases b with
    | true=>rw [decide_eq_true (h.1 rfl)]
    | false=>rw [decide_eq_false (fun e=>by cases h.2 e)]
  simp only [p8,Tree.holds,true_and,true_implies,decide_eq_true_eq,decide_eq_false_iff_not,Bool.not_eq_true',Bool.not_eq_false',Int.toNat_natCast,u6,List.length_set,List.length_cons,List.length_nil]
  refine ⟨fun c=>fin ⟨fun h=>(by cases h),fun h=>absurd (congrArg (fun q:List (n7)=>(q.length:Int)) h) c⟩,fun c=>?_⟩
  refine Reach.V1 a9q a9j (fun i:Nat=>b4U l m (l.length:Int) (i:Int)) (fun i=>i≤l.length∧∀ j,j<i→l.getD j (0,[0,0,0,0,0,0],[],())=m.getD j (0,[0,0,0,0,0,0],[],()))
    (fun i=>l.length - i) 1000 (fun _=>⟨x7 rfl,x7 rfl⟩) ?_ 0 ⟨Nat.zero_le _,fun j hj=>by omega⟩
  rintro i ⟨k1,k2⟩ - ih
  refine j8 (c0W ..) ?_
  have c:l.length=m.length:=by omega
  simp only [p8,Tree.holds,true_and,true_implies,decide_eq_true_eq,decide_eq_false_iff_not,Bool.not_eq_true',Bool.not_eq_false',Int.toNat_natCast,u6,List.length_set,List.length_cons,List.length_nil]
  refine ⟨fun d1=>⟨by omega,fun _=>⟨by omega,fun _=>⟨fun d2=>fin ⟨fun h=>(by cases h),fun h=>absurd (congrArg (fun q:List (n7)=>q.getD i (0,[0,0,0,0,0,0],[],())) h) (b4v d2)⟩,fun d2=>⟨by omega,fun _=>ih (i+1) ⟨by omega,fun j hj=>?_⟩ (by omega)⟩⟩⟩⟩,fun d1=>fin ⟨fun _=>eq_of_getD c (fun j hj=>k2 j (by omega)),fun _=>rfl⟩⟩
  rcases Nat.lt_or_ge j i with h|h
  · exact k2 j h
  · obtain rfl:j=i:=by omega
    exact a52.1 d2
abbrev pz:n9:=(0,ez,())
abbrev mz:n7:=(0,[0,0,0,0,0,0],ez,())
def b5X:t5:={ ps:=[.v (.d0 false .str),.v .str],rs:=[.s8 .str],pre:=fun x=>List.length (α:=List UInt8) x.1≤1048576,fn:=fun x=>((2,x.1,[x.2.1,x.2.1,(ez:List UInt8)]),()),out:=fun _=>() }
noncomputable def b6B:Env:={ P:=Try.prog,tt:=tt,C9:=[],res:=[Go.ResultVar.tmp 4],rs:=[Ty.s8 Ty.str],ps:=[PK.v (Ty.d0 false Ty.str),PK.v Ty.str],C7:=[],nt:=20 }
theorem b26:x8 b6B:=C2 q9 trivial
theorem b2K:D3 b6B Try.f52:=⟨rfl,rfl⟩
theorem c00 (x0:List (List UInt8)) (x1:List UInt8):exec b6B 1000 [.code (d9 Try.prog 52)] (w7 b5X.ps ((x0,x1,()))) =
  .f9 (C1 IntKind.i64 ((↑(List.length x0):Int)+(3:Int))) (.f9 ((1:Int)≤(↑(List.length x0):Int)+(3:Int)∧(0:Int)≤(0:Int)∧(0:Int)≤(↑(List.length x0):Int)+(3:Int)∧(↑(List.length x0):Int)+(3:Int)≤(140737488355328:Int)∧((↑(List.length x0):Int)+(3:Int))*(↑(Ty.wb Ty.str):Int)≤(140737488355328:Int)) (.f9 (2=2∧List.length x0≤List.length (List.replicate (Int.toNat ((↑(List.length x0):Int)+(3:Int)) - Int.toNat (0:Int)) ez)) (.f9 (2=2∧List.length (List.set (List.set [ez,ez] (Int.toNat (↑0:Int)) x1) (Int.toNat (↑1:Int)) x1)≤List.length (List.drop (List.length x0) (List.replicate (Int.toNat ((↑(List.length x0):Int)+(3:Int)) - Int.toNat (0:Int)) ez))) (.f9 (2=2∧(0:Int)≤(↑(List.length x0):Int)∧(↑(List.length x0):Int)≤(↑(List.length (List.replicate (Int.toNat (0:Int)) []++x0++List.set (List.set [ez,ez] (Int.toNat (↑0:Int)) x1) (Int.toNat (↑1:Int)) x1)+List.length (List.drop (List.length (List.set (List.set [ez,ez] (Int.toNat (↑0:Int)) x1) (Int.toNat (↑1:Int)) x1)) (List.drop (List.length x0) (List.replicate (Int.toNat ((↑(List.length x0):Int)+(3:Int)) - Int.toNat (0:Int)) ez)))):Int)) (.ret (((2,List.take (Int.toNat (↑(List.length x0):Int)) (List.replicate (Int.toNat (0:Int)) []++x0++List.set (List.set [ez,ez] (Int.toNat (↑0:Int)) x1) (Int.toNat (↑1:Int)) x1++List.drop (List.length (List.set (List.set [ez,ez] (Int.toNat (↑0:Int)) x1) (Int.toNat (↑1:Int)) x1)) (List.drop (List.length x0) (List.replicate (Int.toNat ((↑(List.length x0):Int)+(3:Int)) - Int.toNat (0:Int)) ez))),List.drop (Int.toNat (↑(List.length x0):Int)) (List.replicate (Int.toNat (0:Int)) []++x0++List.set (List.set [ez,ez] (Int.toNat (↑0:Int)) x1) (Int.toNat (↑1:Int)) x1++List.drop (List.length (List.set (List.set [ez,ez] (Int.toNat (↑0:Int)) x1) (Int.toNat (↑1:Int)) x1)) (List.drop (List.length x0) (List.replicate (Int.toNat ((↑(List.length x0):Int)+(3:Int)) - Int.toNat (0:Int)) ez)))),()))))))):=by kernel_rfl
theorem b3L:b5X.Valid Try.prog 52:=by
  refine t5.s4 b26 rfl rfl Try.func52 (c:=d9 Try.prog 52) rfl rfl b2K rfl ?_
  rintro ⟨(l:List (List UInt8)),(x:List UInt8),⟨⟩⟩ (hp:l.length≤1048576) -
  refine l5 (n:=1000) b26 b2K ?_
  refine j8 (c00 l x) ?_
  obtain ⟨e1,e2⟩:=a9c l (x:List UInt8) (ez:List UInt8)
  have e0:List.set (List.set [(ez:List UInt8),(ez:List UInt8)] (Int.toNat ((0:Nat):Int)) x) (Int.toNat ((1:Nat):Int)) x=[x,x]:=rfl
  have er:(List.replicate (Int.toNat ((l.length:Int)+3) - Int.toNat 0) (ez:List UInt8)).length=l.length+3:=by rw [List.length_replicate]; omega
  have ez:(List.replicate (Int.toNat 0) (ez:List UInt8)).length=0:=rfl
  have ew:Ty.wb .str≤1024:=by decide
  simp only [e0]
  refine ⟨u6.2 (by omega),fun _=>⟨⟨by omega,by omega,by omega,by omega,a6F ew (by omega)⟩,fun _=>⟨⟨trivial,by rw [er]; omega⟩,fun _=>⟨⟨trivial,by rw [List.length_drop,er]; show 2≤_; omega⟩,fun _=>⟨⟨trivial,by omega,?_⟩,fun _=>?_⟩⟩⟩⟩⟩
  · simp only [List.length_append,List.length_drop,er,ez]
    show (l.length:Int)≤((0+l.length+2+(l.length+3 - l.length - 2):Nat):Int)
    omega
  · exact congrArg (fun y=>(y,())) (Prod.ext rfl (Prod.ext e1 e2))
def b5Y:t5:={ ps:=[.v (.d0 false C0),.v C0],rs:=[.s8 C0],pre:=fun x=>List.length (α:=n9) x.1≤1048576,fn:=fun x=>((2,x.1,[x.2.1,x.2.1,(pz:n9)]),()),out:=fun _=>() }
noncomputable def b6C:Env:={ P:=Try.prog,tt:=tt,C9:=[],res:=[Go.ResultVar.tmp 4],rs:=[Ty.s8 (Ty.pair (Ty.int IntKind.i64) (Ty.pair Ty.str Ty.unit))],ps:=[PK.v (Ty.d0 false (Ty.pair (Ty.int IntKind.i64) (Ty.pair Ty.str Ty.unit))),PK.v (Ty.pair (Ty.int IntKind.i64) (Ty.pair Ty.str Ty.unit))],C7:=[],nt:=20 }
theorem b27:x8 b6C:=C2 q9 trivial
theorem b2L:D3 b6C Try.f53:=⟨rfl,rfl⟩
theorem c01 (x0:List (Int×List UInt8×Unit)) (x1_1:Int) (x1_2_1:List UInt8):exec b6C 1000 [.code (d9 Try.prog 53)] (w7 b5Y.ps ((x0,(x1_1,x1_2_1,()),()))) =
  .f9 (C1 IntKind.i64 ((↑(List.length x0):Int)+(3:Int))) (.f9 ((1:Int)≤(↑(List.length x0):Int)+(3:Int)∧(0:Int)≤(0:Int)∧(0:Int)≤(↑(List.length x0):Int)+(3:Int)∧(↑(List.length x0):Int)+(3:Int)≤(140737488355328:Int)∧((↑(List.length x0):Int)+(3:Int))*(↑(Ty.wb (Ty.pair (Ty.int IntKind.i64) (Ty.pair Ty.str Ty.unit))):Int)≤(140737488355328:Int)) (.f9 (2=2∧List.length x0≤List.length (List.replicate (Int.toNat ((↑(List.length x0):Int)+(3:Int)) - Int.toNat (0:Int)) pz)) (.f9 (2=2∧List.length (List.set (List.set [pz,pz] (Int.toNat (↑0:Int)) (x1_1,x1_2_1,())) (Int.toNat (↑1:Int)) (x1_1,x1_2_1,()))≤List.length (List.drop (List.length x0) (List.replicate (Int.toNat ((↑(List.length x0):Int)+(3:Int)) - Int.toNat (0:Int)) pz))) (.f9 (2=2∧(0:Int)≤(↑(List.length x0):Int)∧(↑(List.length x0):Int)≤(↑(List.length (List.replicate (Int.toNat (0:Int)) pz++x0++List.set (List.set [pz,pz] (Int.toNat (↑0:Int)) (x1_1,x1_2_1,())) (Int.toNat (↑1:Int)) (x1_1,x1_2_1,()))+List.length (List.drop (List.length (List.set (List.set [pz,pz] (Int.toNat (↑0:Int)) (x1_1,x1_2_1,())) (Int.toNat (↑1:Int)) (x1_1,x1_2_1,()))) (List.drop (List.length x0) (List.replicate (Int.toNat ((↑(List.length x0):Int)+(3:Int)) - Int.toNat (0:Int)) pz)))):Int)) (.ret (((2,List.take (Int.toNat (↑(List.length x0):Int)) (List.replicate (Int.toNat (0:Int)) pz++x0++List.set (List.set [pz,pz] (Int.toNat (↑0:Int)) (x1_1,x1_2_1,())) (Int.toNat (↑1:Int)) (x1_1,x1_2_1,())++List.drop (List.length (List.set (List.set [pz,pz] (Int.toNat (↑0:Int)) (x1_1,x1_2_1,())) (Int.toNat (↑1:Int)) (x1_1,x1_2_1,()))) (List.drop (List.length x0) (List.replicate (Int.toNat ((↑(List.length x0):Int)+(3:Int)) - Int.toNat (0:Int)) pz))),List.drop (Int.toNat (↑(List.length x0):Int)) (List.replicate (Int.toNat (0:Int)) pz++x0++List.set (List.set [pz,pz] (Int.toNat (↑0:Int)) (x1_1,x1_2_1,())) (Int.toNat (↑1:Int)) (x1_1,x1_2_1,())++List.drop (List.length (List.set (List.set [pz,pz] (Int.toNat (↑0:Int)) (x1_1,x1_2_1,())) (Int.toNat (↑1:Int)) (x1_1,x1_2_1,()))) (List.drop (List.length x0) (List.replicate (Int.toNat ((↑(List.length x0):Int)+(3:Int)) - Int.toNat (0:Int)) pz)))),()))))))):=by kernel_rfl
theorem b3M:b5Y.Valid Try.prog 53:=by
  refine t5.s4 b27 rfl rfl Try.func53 (c:=d9 Try.prog 53) rfl rfl b2L rfl ?_
  rintro ⟨(l:List (n9)),⟨(x0:Int),(x1:List UInt8),⟨⟩⟩,⟨⟩⟩ (hp:l.length≤1048576) -
  refine l5 (n:=1000) b27 b2L ?_
  refine j8 (c01 l x0 x1) ?_
  obtain ⟨e1,e2⟩:=a9c l ((x0,x1,()):n9) (pz:n9)
  have e0:List.set (List.set [(pz:n9),(pz:n9)] (Int.toNat ((0:Nat):Int)) (x0,x1,())) (Int.toNat ((1:Nat):Int)) (x0,x1,())=[(x0,x1,()),(x0,x1,())]:=rfl
  have er:(List.replicate (Int.toNat ((l.length:Int)+3) - Int.toNat 0) (pz:n9)).length=l.length+3:=by rw [List.length_replicate]; omega
  have ez:(List.replicate (Int.toNat 0) (pz:n9)).length=0:=rfl
  have ew:Ty.wb C0≤1024:=by decide
  simp only [e0]
  refine ⟨u6.2 (by omega),fun _=>⟨⟨by omega,by omega,by omega,by omega,a6F ew (by omega)⟩,fun _=>⟨⟨trivial,by rw [er]; omega⟩,fun _=>⟨⟨trivial,by rw [List.length_drop,er]; show 2≤_; omega⟩,fun _=>⟨⟨trivial,by omega,?_⟩,fun _=>?_⟩⟩⟩⟩⟩
  · simp only [List.length_append,List.length_drop,er,ez]
    show (l.length:Int)≤((0+l.length+2+(l.length+3 - l.length - 2):Nat):Int)
    omega
  · exact congrArg (fun y=>(y,())) (Prod.ext rfl (Prod.ext e1 e2))
def b5Z:t5:={ ps:=[.v (.d0 false E7),.v E7],rs:=[.s8 E7],pre:=fun x=>List.length (α:=n7) x.1≤1048576,fn:=fun x=>((2,x.1,[x.2.1,x.2.1,(mz:n7)]),()),out:=fun _=>() }
noncomputable def b6D:Env:={ P:=Try.prog,tt:=tt,C9:=[],res:=[Go.ResultVar.tmp 4],rs:=[Ty.s8 (Ty.pair (Ty.int IntKind.i64) (Ty.pair o7 (Ty.pair Ty.str Ty.unit)))],ps:=[PK.v (Ty.d0 false (Ty.pair (Ty.int IntKind.i64) (Ty.pair o7 (Ty.pair Ty.str Ty.unit)))),PK.v (Ty.pair (Ty.int IntKind.i64) (Ty.pair o7 (Ty.pair Ty.str Ty.unit)))],C7:=[],nt:=20 }
theorem b28:x8 b6D:=C2 q9 trivial
theorem b2M:D3 b6D Try.f54:=⟨rfl,rfl⟩
theorem c02 (x0:List (Int×List Int×List UInt8×Unit)) (x1_1:Int) (x1_2_1:List Int) (x1_2_2_1:List UInt8):exec b6D 1000 [.code (d9 Try.prog 54)] (w7 b5Z.ps ((x0,(x1_1,x1_2_1,x1_2_2_1,()),()))) =
  .f9 (C1 IntKind.i64 ((↑(List.length x0):Int)+(3:Int))) (.f9 ((1:Int)≤(↑(List.length x0):Int)+(3:Int)∧(0:Int)≤(0:Int)∧(0:Int)≤(↑(List.length x0):Int)+(3:Int)∧(↑(List.length x0):Int)+(3:Int)≤(140737488355328:Int)∧((↑(List.length x0):Int)+(3:Int))*(↑(Ty.wb (Ty.pair (Ty.int IntKind.i64) (Ty.pair o7 (Ty.pair Ty.str Ty.unit)))):Int)≤(140737488355328:Int)) (.f9 (2=2∧List.length x0≤List.length (List.replicate (Int.toNat ((↑(List.length x0):Int)+(3:Int)) - Int.toNat (0:Int)) mz)) (.f9 (2=2∧List.length (List.set (List.set [mz,mz] (Int.toNat (↑0:Int)) (x1_1,x1_2_1,x1_2_2_1,())) (Int.toNat (↑1:Int)) (x1_1,x1_2_1,x1_2_2_1,()))≤List.length (List.drop (List.length x0) (List.replicate (Int.toNat ((↑(List.length x0):Int)+(3:Int)) - Int.toNat (0:Int)) mz))) (.f9 (2=2∧(0:Int)≤(↑(List.length x0):Int)∧(↑(List.length x0):Int)≤(↑(List.length (List.replicate (Int.toNat (0:Int)) mz++x0++List.set (List.set [mz,mz] (Int.toNat (↑0:Int)) (x1_1,x1_2_1,x1_2_2_1,())) (Int.toNat (↑1:Int)) (x1_1,x1_2_1,x1_2_2_1,()))+List.length (List.drop (List.length (List.set (List.set [mz,mz] (Int.toNat (↑0:Int)) (x1_1,x1_2_1,x1_2_2_1,())) (Int.toNat (↑1:Int)) (x1_1,x1_2_1,x1_2_2_1,()))) (List.drop (List.length x0) (List.replicate (Int.toNat ((↑(List.length x0):Int)+(3:Int)) - Int.toNat (0:Int)) mz)))):Int)) (.ret (((2,List.take (Int.toNat (↑(List.length x0):Int)) (List.replicate (Int.toNat (0:Int)) mz++x0++List.set (List.set [mz,mz] (Int.toNat (↑0:Int)) (x1_1,x1_2_1,x1_2_2_1,())) (Int.toNat (↑1:Int)) (x1_1,x1_2_1,x1_2_2_1,())++List.drop (List.length (List.set (List.set [mz,mz] (Int.toNat (↑0:Int)) (x1_1,x1_2_1,x1_2_2_1,())) (Int.toNat (↑1:Int)) (x1_1,x1_2_1,x1_2_2_1,()))) (List.drop (List.length x0) (List.replicate (Int.toNat ((↑(List.length x0):Int)+(3:Int)) - Int.toNat (0:Int)) mz))),List.drop (Int.toNat (↑(List.length x0):Int)) (List.replicate (Int.toNat (0:Int)) mz++x0++List.set (List.set [mz,mz] (Int.toNat (↑0:Int)) (x1_1,x1_2_1,x1_2_2_1,())) (Int.toNat (↑1:Int)) (x1_1,x1_2_1,x1_2_2_1,())++List.drop (List.length (List.set (List.set [mz,mz] (Int.toNat (↑0:Int)) (x1_1,x1_2_1,x1_2_2_1,())) (Int.toNat (↑1:Int)) (x1_1,x1_2_1,x1_2_2_1,()))) (List.drop (List.length x0) (List.replicate (Int.toNat ((↑(List.length x0):Int)+(3:Int)) - Int.toNat (0:Int)) mz)))),()))))))):=by kernel_rfl
theorem b3N:b5Z.Valid Try.prog 54:=by
  refine t5.s4 b28 rfl rfl Try.func54 (c:=d9 Try.prog 54) rfl rfl b2M rfl ?_
  rintro ⟨(l:List (n7)),⟨(x0:Int),(x1:List Int),(x2:List UInt8),⟨⟩⟩,⟨⟩⟩ (hp:l.length≤1048576) -
  refine l5 (n:=1000) b28 b2M ?_
  refine j8 (c02 l x0 x1 x2) ?_
  obtain ⟨e1,e2⟩:=a9c l ((x0,x1,x2,()):n7) (mz:n7)
  have e0:List.set (List.set [(mz:n7),(mz:n7)] (Int.toNat ((0:Nat):Int)) (x0,x1,x2,())) (Int.toNat ((1:Nat):Int)) (x0,x1,x2,())=[(x0,x1,x2,()),(x0,x1,x2,())]:=rfl
  have er:(List.replicate (Int.toNat ((l.length:Int)+3) - Int.toNat 0) (mz:n7)).length=l.length+3:=by rw [List.length_replicate]; omega
  have ez:(List.replicate (Int.toNat 0) (mz:n7)).length=0:=rfl
  have ew:Ty.wb E7≤1024:=by decide
  simp only [e0]
  refine ⟨u6.2 (by omega),fun _=>⟨⟨by omega,by omega,by omega,by omega,a6F ew (by omega)⟩,fun _=>⟨⟨trivial,by rw [er]; omega⟩,fun _=>⟨⟨trivial,by rw [List.length_drop,er]; show 2≤_; omega⟩,fun _=>⟨⟨trivial,by omega,?_⟩,fun _=>?_⟩⟩⟩⟩⟩
  · simp only [List.length_append,List.length_drop,er,ez]
    show (l.length:Int)≤((0+l.length+2+(l.length+3 - l.length - 2):Nat):Int)
    omega
  · exact congrArg (fun y=>(y,())) (Prod.ext rfl (Prod.ext e1 e2))
def b1L:t5:={ ps:=[.v (.s8 .str),.v (.d0 false .str),.v .str],rs:=[.bool],pre:=fun x=>x.1.1=(3:Nat)∧2≤List.length (α:=List UInt8) x.1.2.2∧List.length (α:=List UInt8) x.1.2.1≤1048576,fn:=fun x=>(decide ((show List (List UInt8) from x.1.2.1)=(show List (List UInt8) from x.2.1)) && (decide ((show List UInt8 from List.getD (α:=List UInt8) x.1.2.2 0 ez)=(show List UInt8 from x.2.2.1)) && decide ((show List UInt8 from List.getD (α:=List UInt8) x.1.2.2 1 ez)=(show List UInt8 from x.2.2.1))),()),out:=fun _=>() }
noncomputable def b2N:Env:={ P:=Try.prog,tt:=tt,C9:=[(68,b5Q)],res:=[Go.ResultVar.tmp 6],rs:=[Ty.bool],ps:=[PK.v (Ty.s8 Ty.str),PK.v (Ty.d0 false Ty.str),PK.v Ty.str],C7:=[],nt:=35 }
theorem b0h:x8 b2N:=C2 q9 ⟨a70,trivial⟩
theorem a99:D3 b2N Try.f59:=⟨rfl,rfl⟩
theorem b9e (x0_n:Nat) (x0_l:List (List UInt8)) (x0_m:List (List UInt8)) (x1:List (List UInt8)) (x2:List UInt8):exec b2N 1000 [.code (d9 Try.prog 59)] (w7 b1L.ps (((x0_n,x0_l,x0_m),x1,x2,()))) =
  .f9 (C1 IntKind.i64 ((↑(List.length x0_l):Int)+(2:Int))) (.f9 (x0_n=3∧(0:Int)≤(0:Int)∧(0:Int)≤(↑(List.length x0_l):Int)+(2:Int)∧(↑(List.length x0_l):Int)+(2:Int)≤(↑(List.length x0_l+List.length x0_m):Int)) (.f9 (True) (cond (decide (x0_l=x1)) (.f9 ((0:Int)≤(↑(List.length x0_l):Int)∧(↑(List.length x0_l):Int)<(↑(List.length (s5 (0:Int) ((↑(List.length x0_l):Int)+(2:Int)) (x0_l++x0_m))):Int)) (cond (decide (List.getD (s5 (0:Int) ((↑(List.length x0_l):Int)+(2:Int)) (x0_l++x0_m)) (Int.toNat (↑(List.length x0_l):Int)) []=x2)) (.f9 (C1 IntKind.i64 ((↑(List.length x0_l):Int)+(1:Int))) (.f9 ((0:Int)≤(↑(List.length x0_l):Int)+(1:Int)∧(↑(List.length x0_l):Int)+(1:Int)<(↑(List.length (s5 (0:Int) ((↑(List.length x0_l):Int)+(2:Int)) (x0_l++x0_m))):Int)) (.ret ((decide (List.getD (s5 (0:Int) ((↑(List.length x0_l):Int)+(2:Int)) (x0_l++x0_m)) (Int.toNat ((↑(List.length x0_l):Int)+(1:Int))) []=x2),()))))) (.ret ((false,()))))) (.ret ((false,())))))):=by kernel_rfl
theorem b1K:b1L.Valid Try.prog 59:=by
  refine t5.s4 b0h rfl rfl Try.func59 (c:=d9 Try.prog 59) rfl rfl a99 rfl ?_
  rintro ⟨⟨(n:Nat),(l:List (List UInt8)),(m:List (List UInt8))⟩,(was:List (List UInt8)),(x:List UInt8),⟨⟩⟩ ⟨(h3:n=3),(h2:2≤m.length),(hlen:l.length≤1048576)⟩ -
  subst h3
  refine l5 (n:=1000) b0h a99 ?_
  refine j8 (b9e 3 l m was x) ?_
  obtain ⟨c1,c2,c3⟩:=a6K (l:=l) (d:=(ez:List UInt8)) h2
  have en:Int.toNat ((l.length:Int)+1)=l.length+1:=by omega
  simp only [Tree.holds,true_and,true_implies,p8,decide_eq_true_eq,decide_eq_false_iff_not,Int.toNat_natCast,c1,c2,en,c3]
  refine ⟨u6.2 (by omega),fun _=>⟨by omega,fun _=>⟨fun a=>⟨by omega,fun _=>⟨fun b=>⟨u6.2 (by omega),fun _=>⟨by omega,fun _=>?_⟩⟩,fun b=>?_⟩⟩,fun a=>?_⟩⟩⟩
  · show ((_,()):Bool×Unit)=(_,())
    rw [decide_eq_true a,decide_eq_true b]; rfl
  · show ((_,()):Bool×Unit)=(_,())
    rw [decide_eq_true a,decide_eq_false b]; rfl
  · show ((_,()):Bool×Unit)=(_,())
    rw [decide_eq_false a]; rfl
def b1N:t5:={ ps:=[.v (.s8 C0),.v (.d0 false C0),.v C0],rs:=[.bool],pre:=fun x=>x.1.1=(3:Nat)∧2≤List.length (α:=n9) x.1.2.2∧List.length (α:=n9) x.1.2.1≤1048576,fn:=fun x=>(decide ((show List (n9) from x.1.2.1)=(show List (n9) from x.2.1)) && (decide ((show n9 from List.getD (α:=n9) x.1.2.2 0 pz)=(show n9 from x.2.2.1)) && decide ((show n9 from List.getD (α:=n9) x.1.2.2 1 pz)=(show n9 from x.2.2.1))),()),out:=fun _=>() }
noncomputable def b2O:Env:={ P:=Try.prog,tt:=tt,C9:=[(69,b5R)],res:=[Go.ResultVar.tmp 6],rs:=[Ty.bool],ps:=[PK.v (Ty.s8 (Ty.pair (Ty.int IntKind.i64) (Ty.pair Ty.str Ty.unit))),PK.v (Ty.d0 false (Ty.pair (Ty.int IntKind.i64) (Ty.pair Ty.str Ty.unit))),PK.v (Ty.pair (Ty.int IntKind.i64) (Ty.pair Ty.str Ty.unit))],C7:=[],nt:=35 }
theorem b0i:x8 b2O:=C2 q9 ⟨a71,trivial⟩
theorem b0a:D3 b2O Try.f60:=⟨rfl,rfl⟩
theorem b9f (x0_n:Nat) (x0_l:List (Int×List UInt8×Unit)) (x0_m:List (Int×List UInt8×Unit)) (x1:List (Int×List UInt8×Unit)) (x2_1:Int) (x2_2_1:List UInt8):exec b2O 1000 [.code (d9 Try.prog 60)] (w7 b1N.ps (((x0_n,x0_l,x0_m),x1,(x2_1,x2_2_1,()),()))) =
  .f9 (C1 IntKind.i64 ((↑(List.length x0_l):Int)+(2:Int))) (.f9 (x0_n=3∧(0:Int)≤(0:Int)∧(0:Int)≤(↑(List.length x0_l):Int)+(2:Int)∧(↑(List.length x0_l):Int)+(2:Int)≤(↑(List.length x0_l+List.length x0_m):Int)) (.f9 (True) (cond (decide (x0_l=x1)) (.f9 ((0:Int)≤(↑(List.length x0_l):Int)∧(↑(List.length x0_l):Int)<(↑(List.length (s5 (0:Int) ((↑(List.length x0_l):Int)+(2:Int)) (x0_l++x0_m))):Int)) (cond (E5 (Ty.pair (Ty.int IntKind.i64) (Ty.pair Ty.str Ty.unit)) (List.getD (s5 (0:Int) ((↑(List.length x0_l):Int)+(2:Int)) (x0_l++x0_m)) (Int.toNat (↑(List.length x0_l):Int)) ((0:Int),[],())) (x2_1,x2_2_1,())) (.f9 (C1 IntKind.i64 ((↑(List.length x0_l):Int)+(1:Int))) (.f9 ((0:Int)≤(↑(List.length x0_l):Int)+(1:Int)∧(↑(List.length x0_l):Int)+(1:Int)<(↑(List.length (s5 (0:Int) ((↑(List.length x0_l):Int)+(2:Int)) (x0_l++x0_m))):Int)) (.ret ((E5 (Ty.pair (Ty.int IntKind.i64) (Ty.pair Ty.str Ty.unit)) (List.getD (s5 (0:Int) ((↑(List.length x0_l):Int)+(2:Int)) (x0_l++x0_m)) (Int.toNat ((↑(List.length x0_l):Int)+(1:Int))) ((0:Int),[],())) (x2_1,x2_2_1,()),()))))) (.ret ((false,()))))) (.ret ((false,())))))):=by kernel_rfl
theorem b1M:b1N.Valid Try.prog 60:=by
  refine t5.s4 b0i rfl rfl Try.func60 (c:=d9 Try.prog 60) rfl rfl b0a rfl ?_
  rintro ⟨⟨(n:Nat),(l:List (n9)),(m:List (n9))⟩,(was:List (n9)),⟨(x0:Int),(x1:List UInt8),⟨⟩⟩,⟨⟩⟩ ⟨(h3:n=3),(h2:2≤m.length),(hlen:l.length≤1048576)⟩ -
  subst h3
  refine l5 (n:=1000) b0i b0a ?_
  refine j8 (b9f 3 l m was x0 x1) ?_
  obtain ⟨c1,c2,c3⟩:=a6K (l:=l) (d:=(pz:n9)) h2
  have en:Int.toNat ((l.length:Int)+1)=l.length+1:=by omega
  simp only [Tree.holds,true_and,true_implies,p8,decide_eq_true_eq,decide_eq_false_iff_not,Int.toNat_natCast,c1,c2,en,c3]
  refine ⟨u6.2 (by omega),fun _=>⟨by omega,fun _=>⟨fun a=>⟨by omega,fun _=>⟨fun b=>⟨u6.2 (by omega),fun _=>⟨by omega,fun _=>?_⟩⟩,fun b=>?_⟩⟩,fun a=>?_⟩⟩⟩
  · show ((_,()):Bool×Unit)=(_,())
    rw [decide_eq_true a,decide_eq_true (a4g.1 b)]; exact congrArg (fun z=>(z,())) (b4u a4g)
  · show ((_,()):Bool×Unit)=(_,())
    rw [decide_eq_true a,decide_eq_false (a9T b)]; rfl
  · show ((_,()):Bool×Unit)=(_,())
    rw [decide_eq_false a]; rfl
def b1P:t5:={ ps:=[.v (.s8 E7),.v (.d0 false E7),.v E7],rs:=[.bool],pre:=fun x=>x.1.1=(3:Nat)∧2≤List.length (α:=n7) x.1.2.2∧List.length (α:=n7) x.1.2.1≤1048576,fn:=fun x=>(decide ((show List (n7) from x.1.2.1)=(show List (n7) from x.2.1)) && (decide ((show n7 from List.getD (α:=n7) x.1.2.2 0 mz)=(show n7 from x.2.2.1)) && decide ((show n7 from List.getD (α:=n7) x.1.2.2 1 mz)=(show n7 from x.2.2.1))),()),out:=fun _=>() }
noncomputable def b2P:Env:={ P:=Try.prog,tt:=tt,C9:=[(70,b5S)],res:=[Go.ResultVar.tmp 6],rs:=[Ty.bool],ps:=[PK.v (Ty.s8 (Ty.pair (Ty.int IntKind.i64) (Ty.pair o7 (Ty.pair Ty.str Ty.unit)))),PK.v (Ty.d0 false (Ty.pair (Ty.int IntKind.i64) (Ty.pair o7 (Ty.pair Ty.str Ty.unit)))),PK.v (Ty.pair (Ty.int IntKind.i64) (Ty.pair o7 (Ty.pair Ty.str Ty.unit)))],C7:=[],nt:=35 }
theorem b0j:x8 b2P:=C2 q9 ⟨a72,trivial⟩
theorem b0b:D3 b2P Try.f61:=⟨rfl,rfl⟩
theorem b9g (x0_n:Nat) (x0_l:List (Int×List Int×List UInt8×Unit)) (x0_m:List (Int×List Int×List UInt8×Unit)) (x1:List (Int×List Int×List UInt8×Unit)) (x2_1:Int) (x2_2_1:List Int) (x2_2_2_1:List UInt8):exec b2P 1000 [.code (d9 Try.prog 61)] (w7 b1P.ps (((x0_n,x0_l,x0_m),x1,(x2_1,x2_2_1,x2_2_2_1,()),()))) =
  .f9 (C1 IntKind.i64 ((↑(List.length x0_l):Int)+(2:Int))) (.f9 (x0_n=3∧(0:Int)≤(0:Int)∧(0:Int)≤(↑(List.length x0_l):Int)+(2:Int)∧(↑(List.length x0_l):Int)+(2:Int)≤(↑(List.length x0_l+List.length x0_m):Int)) (.f9 (True) (cond (decide (x0_l=x1)) (.f9 ((0:Int)≤(↑(List.length x0_l):Int)∧(↑(List.length x0_l):Int)<(↑(List.length (s5 (0:Int) ((↑(List.length x0_l):Int)+(2:Int)) (x0_l++x0_m))):Int)) (cond (E5 (Ty.pair (Ty.int IntKind.i64) (Ty.pair o7 (Ty.pair Ty.str Ty.unit))) (List.getD (s5 (0:Int) ((↑(List.length x0_l):Int)+(2:Int)) (x0_l++x0_m)) (Int.toNat (↑(List.length x0_l):Int)) ((0:Int),[(0:Int),(0:Int),(0:Int),(0:Int),(0:Int),(0:Int)],[],())) (x2_1,x2_2_1,x2_2_2_1,())) (.f9 (C1 IntKind.i64 ((↑(List.length x0_l):Int)+(1:Int))) (.f9 ((0:Int)≤(↑(List.length x0_l):Int)+(1:Int)∧(↑(List.length x0_l):Int)+(1:Int)<(↑(List.length (s5 (0:Int) ((↑(List.length x0_l):Int)+(2:Int)) (x0_l++x0_m))):Int)) (.ret ((E5 (Ty.pair (Ty.int IntKind.i64) (Ty.pair o7 (Ty.pair Ty.str Ty.unit))) (List.getD (s5 (0:Int) ((↑(List.length x0_l):Int)+(2:Int)) (x0_l++x0_m)) (Int.toNat ((↑(List.length x0_l):Int)+(1:Int))) ((0:Int),[(0:Int),(0:Int),(0:Int),(0:Int),(0:Int),(0:Int)],[],())) (x2_1,x2_2_1,x2_2_2_1,()),()))))) (.ret ((false,()))))) (.ret ((false,())))))):=by kernel_rfl
theorem b1O:b1P.Valid Try.prog 61:=by
  refine t5.s4 b0j rfl rfl Try.func61 (c:=d9 Try.prog 61) rfl rfl b0b rfl ?_
  rintro ⟨⟨(n:Nat),(l:List (n7)),(m:List (n7))⟩,(was:List (n7)),⟨(x0:Int),(x1:List Int),(x2:List UInt8),⟨⟩⟩,⟨⟩⟩ ⟨(h3:n=3),(h2:2≤m.length),(hlen:l.length≤1048576)⟩ -
  subst h3
  refine l5 (n:=1000) b0j b0b ?_
  refine j8 (b9g 3 l m was x0 x1 x2) ?_
  obtain ⟨c1,c2,c3⟩:=a6K (l:=l) (d:=(mz:n7)) h2
  have en:Int.toNat ((l.length:Int)+1)=l.length+1:=by omega
  simp only [Tree.holds,true_and,true_implies,p8,decide_eq_true_eq,decide_eq_false_iff_not,Int.toNat_natCast,c1,c2,en,c3]
  refine ⟨u6.2 (by omega),fun _=>⟨by omega,fun _=>⟨fun a=>⟨by omega,fun _=>⟨fun b=>⟨u6.2 (by omega),fun _=>⟨by omega,fun _=>?_⟩⟩,fun b=>?_⟩⟩,fun a=>?_⟩⟩⟩
  · show ((_,()):Bool×Unit)=(_,())
    rw [decide_eq_true a,decide_eq_true (a52.1 b)]; exact congrArg (fun z=>(z,())) (b4u a52)
  · show ((_,()):Bool×Unit)=(_,())
    rw [decide_eq_true a,decide_eq_false (b4v b)]; rfl
  · show ((_,()):Bool×Unit)=(_,())
    rw [decide_eq_false a]; rfl
def b9Y:t5:=a4J .str
theorem b3v:b9Y.Valid Try.prog 65:=by
  refine b3d (S:=96) (I:=3) (T:=9) (e:=b8A (d9 Try.prog 65) [5,6,7,8,0,9,10,11,12,13,4,14,15,16,17,19,18,20]) rfl (by kernel_rfl) (by kernel_rfl) (by kernel_rfl) Try.func65 (by kernel_rfl) rfl rfl rfl
def b9Z:t5:=a4J C0
theorem b3w:b9Z.Valid Try.prog 66:=by
  refine a4I (S:=99) (I:=3) (T:=112) (e:=b8A (d9 Try.prog 66) [3,5,6,7,8,0,9,10,11,12,13,4,14,15,16,17,19,18,20]) rfl (by kernel_rfl) (by kernel_rfl) (by kernel_rfl) Try.func66 (by kernel_rfl) rfl rfl rfl
def b90:t5:=a4J E7
theorem b3x:b90.Valid Try.prog 67:=by
  refine a4I (S:=104) (I:=3) (T:=108) (e:=b8A (d9 Try.prog 67) [3,5,6,7,8,0,9,10,11,12,13,4,14,15,16,17,19,18,20]) rfl (by kernel_rfl) (by kernel_rfl) (by kernel_rfl) Try.func67 (by kernel_rfl) rfl rfl rfl
end Go.Proofs.Ytekbamiaenbhjaa
