/- partref.SameSynod; strings. -/
import Derived.Test.YtekbamiaenbhjaaOwnU
namespace Go.Proofs.Ytekbamiaenbhjaa
open Go.Ex
set_option maxRecDepth 100000
def a8C:p7:={ ps:=[.v U3,.v U3],rs:=[.bool],pre:=fun _=>True,fn:=fun x=>(decide ((show List r8 from x.1.1)=(show List r8 from x.2.1.1)) && decide ((show List j9 from x.1.2.1)=(show List j9 from x.2.1.2.1)),()),out:=fun _=>() }
noncomputable def a80:Env:={ P:=Try.prog,tt:=tt,A3:=[(216,b0y),(217,b0z)],res:=[Go.ResultVar.tmp 4],rs:=[Ty.bool],ps:=[PK.v (Ty.pair (Ty.b7 false (Ty.pair (Ty.int IntKind.i64) (Ty.pair (Ty.int IntKind.i64) (Ty.pair Ty.str Ty.unit)))) (Ty.pair (Ty.b7 false (Ty.pair (Ty.int IntKind.i64) (Ty.pair (Ty.int IntKind.i64) (Ty.pair (Ty.int IntKind.u8) (Ty.pair (Ty.int IntKind.u8) (Ty.pair Ty.bool (Ty.pair Ty.str Ty.unit))))))) Ty.unit)),PK.v (Ty.pair (Ty.b7 false (Ty.pair (Ty.int IntKind.i64) (Ty.pair (Ty.int IntKind.i64) (Ty.pair Ty.str Ty.unit)))) (Ty.pair (Ty.b7 false (Ty.pair (Ty.int IntKind.i64) (Ty.pair (Ty.int IntKind.i64) (Ty.pair (Ty.int IntKind.u8) (Ty.pair (Ty.int IntKind.u8) (Ty.pair Ty.bool (Ty.pair Ty.str Ty.unit))))))) Ty.unit))],x7:=[],nt:=17 }
theorem a73:u5 a80:=w7 p9 ⟨a6j,a6k,trivial⟩
theorem a7X:y9 a80 Try.f120:=⟨rfl,rfl⟩
theorem b82 (x0_1:List (Int×Int×List UInt8×Unit)) (x0_2_1:List (Int×Int×Int×Int×Bool×List UInt8×Unit)) (x1_1:List (Int×Int×List UInt8×Unit)) (x1_2_1:List (Int×Int×Int×Int×Bool×List UInt8×Unit)):exec a80 1000 [.code (b8 Try.prog 120)] (s6 a8C.ps (((x0_1,x0_2_1,()),(x1_1,x1_2_1,()),()))) =
  .d8 (True) (cond (decide (x0_1=x1_1)) (.d8 (True) (.ret ((decide (x0_2_1=x1_2_1),())))) (.ret ((false,())))):=by kernel_rfl
theorem b0j:a8C.Valid Try.prog 120:=by
  refine p7.o8 a73 rfl rfl Try.func120 (c:=b8 Try.prog 120) rfl rfl a7X rfl ?_
  rintro ⟨⟨(V:List r8),(R:List j9),⟨⟩⟩,⟨(V2:List r8),(R2:List j9),⟨⟩⟩,⟨⟩⟩ - -
  refine j8 (n:=1000) a73 a7X ?_
  refine g9 (b82 V R V2 R2) ?_
  simp only [o5,Tree.holds,true_and,true_implies,decide_eq_true_eq,decide_eq_false_iff_not,Bool.not_eq_true',Bool.not_eq_false',Int.toNat_natCast,q8,List.length_set,List.length_cons,List.length_nil]
  refine ⟨fun e=>?_,fun e=>?_⟩
  · show ((_,()):Bool×Unit)=(decide (V=V2) && decide (R=R2),())
    rw [decide_eq_true e,Bool.true_and]
  · show ((_,()):Bool×Unit)=(decide (V=V2) && decide (R=R2),())
    rw [decide_eq_false e,Bool.false_and]
theorem c3Q:Ty.wb .str=16:=rfl
def b9Z:p7:={ ps:=[.v (.b7 false .str)],rs:=[.b7 true .str],pre:=fun x=>List.length (α:=List UInt8) x.1≤1048576,fn:=fun x=>x,out:=fun _=>() }
noncomputable def c0q:Env:={ P:=Try.prog,tt:=tt,A3:=[],res:=[Go.ResultVar.tmp 2],rs:=[Ty.b7 true Ty.str],ps:=[PK.v (Ty.b7 false Ty.str)],x7:=[],nt:=8 }
theorem b5g:u5 c0q:=w7 p9 trivial
theorem b5a:y9 c0q Try.f62:=⟨rfl,rfl⟩
theorem c3D (x0:List (List UInt8)):exec c0q 1000 [.code (b8 Try.prog 62)] (s6 b9Z.ps ((x0,()))) =
  .both (x0=[]) (.ret (([],()))) (.d8 ((0:Nat)+List.length x0≤140737488355328∧((0:Nat)+List.length x0)*Ty.wb Ty.str≤140737488355328) (.ret (([]++x0,())))):=by kernel_rfl
theorem b57:b9Z.Valid Try.prog 62:=by
  refine p7.o8 b5g rfl rfl Try.func62 (c:=b8 Try.prog 62) rfl rfl b5a rfl ?_
  rintro ⟨(l:List (List UInt8)),⟨⟩⟩ hp -
  have hp:l.length≤1048576:=hp
  refine j8 (n:=1000) b5g b5a ?_
  refine g9 (c3D l) ?_
  simp only [o5,Tree.holds,true_and,true_implies,decide_eq_true_eq,decide_eq_false_iff_not,Bool.not_eq_true',Bool.not_eq_false',Int.toNat_natCast,q8,List.length_set,List.length_cons,List.length_nil,c3Q]
  refine ⟨fun h=>?_,by omega,fun _=>rfl⟩
  show (([],()):List (List UInt8)×Unit)=(l,())
  rw [show l=[] from h]
def b95:p7:={ ps:=[.v (.b7 false .str),.v (.b7 false .str)],rs:=[.bool],pre:=fun _=>True,fn:=fun x=>(decide ((show List (List UInt8) from x.1)=(show List (List UInt8) from x.2.1)),()),out:=fun _=>() }
noncomputable def b7e:Env:={ P:=Try.prog,tt:=tt,A3:=[],res:=[Go.ResultVar.tmp 4],rs:=[Ty.bool],ps:=[PK.v (Ty.b7 false Ty.str),PK.v (Ty.b7 false Ty.str)],x7:=[(4,[(0,none),(1,none),(12,none),(13,none)])],nt:=26 }
theorem a83:u5 b7e:=w7 p9 trivial
theorem a8T:y9 b7e Try.f68:=⟨rfl,rfl⟩
theorem c3L (x0:List (List UInt8)) (x1:List (List UInt8)):exec b7e 1000 [.code (b8 Try.prog 68)] (s6 b95.ps ((x0,x1,()))) =
  cond (decide ((↑(List.length x0):Int)≠(↑(List.length x1):Int))) (.ret ((false,()))) (.cut (e8 (b8 Try.prog 68) 4).1 (e8 (b8 Try.prog 68) 4).2 (St.mk [(0,AV.val (Ty.b7 false Ty.str) x0),(1,AV.val (Ty.b7 false Ty.str) x1),(12,AV.val (Ty.int IntKind.i64) (↑(List.length x0):Int)),(13,AV.val (Ty.int IntKind.i64) (0:Int))] [])):=by kernel_rfl
def b5m (v0:List (List UInt8)) (v1:List (List UInt8)) (v12:Int) (v13:Int):St:=St.mk [(0,AV.val (Ty.b7 false Ty.str) v0),(1,AV.val (Ty.b7 false Ty.str) v1),(12,AV.val (Ty.int IntKind.i64) v12),(13,AV.val (Ty.int IntKind.i64) v13)] []
theorem c2s (v0:List (List UInt8)) (v1:List (List UInt8)) (v12:Int) (v13:Int):exec b7e 1000 (.code (e8 (b8 Try.prog 68) 4).1::.inLoop (e8 (b8 Try.prog 68) 4).1::(e8 (b8 Try.prog 68) 4).2) (b5m v0 v1 v12 v13) =
  cond (decide (v13<v12)) (.d8 ((0:Int)≤v13∧v13<(↑(List.length v0):Int)) (.d8 ((0:Int)≤v13∧v13<(↑(List.length v1):Int)) (cond (decide (List.getD v0 (Int.toNat v13) []≠List.getD v1 (Int.toNat v13) [])) (.ret ((false,()))) (.d8 (u7 IntKind.i64 (v13+(1:Int))) (.cut (e8 (b8 Try.prog 68) 4).1 (e8 (b8 Try.prog 68) 4).2 (St.mk [(0,AV.val (Ty.b7 false Ty.str) v0),(1,AV.val (Ty.b7 false Ty.str) v1),(12,AV.val (Ty.int IntKind.i64) v12),(13,AV.val (Ty.int IntKind.i64) (v13+(1:Int)))] [])))))) (.ret ((true,()))):=by kernel_rfl
theorem b6o:b95.Valid Try.prog 68:=by
  refine p7.o8 a83 rfl rfl Try.func68 (c:=b8 Try.prog 68) rfl rfl a8T rfl ?_
  rintro ⟨(l:List (List UInt8)),(m:List (List UInt8)),⟨⟩⟩ - ⟨⟨hl,-⟩,-⟩
  have hl:l.length≤9223372036854775807:=hl
  refine j8 (n:=1000) a83 a8T ?_
  refine g9 (c3L l m) ?_
  have fin:∀ {b:Bool},(b=true↔l=m)→((b,()):Bool×Unit)=(decide (l=m),()):=fun {b} h=>by
    cases b with
    | true=>rw [decide_eq_true (h.1 rfl)]
    | false=>rw [decide_eq_false (fun e=>by cases h.2 e)]
  simp only [o5,Tree.holds,true_and,true_implies,decide_eq_true_eq,decide_eq_false_iff_not,Bool.not_eq_true',Bool.not_eq_false',Int.toNat_natCast,q8,List.length_set,List.length_cons,List.length_nil]
  refine ⟨fun c=>fin ⟨fun h=>(by cases h),fun h=>absurd (congrArg (fun q:List (List UInt8)=>(q.length:Int)) h) c⟩,fun c=>?_⟩
  refine Reach.K9 a83 a8T (fun i:Nat=>b5m l m (l.length:Int) (i:Int)) (fun i=>i≤l.length∧∀ j,j<i→l.getD j []=m.getD j [])
    (fun i=>l.length - i) 1000 (fun _=>⟨u3 rfl,u3 rfl⟩) ?_ 0 ⟨Nat.zero_le _,fun j hj=>by omega⟩
  rintro i ⟨k1,k2⟩ - ih
  refine g9 (c2s ..) ?_
  have c:l.length=m.length:=by omega
  simp only [o5,Tree.holds,true_and,true_implies,decide_eq_true_eq,decide_eq_false_iff_not,Bool.not_eq_true',Bool.not_eq_false',Int.toNat_natCast,q8,List.length_set,List.length_cons,List.length_nil]
  refine ⟨fun d1=>⟨by omega,fun _=>⟨by omega,fun _=>⟨fun d2=>fin ⟨fun h=>(by cases h),fun h=>absurd (congrArg (fun q:List (List UInt8)=>q.getD i []) h) (d2)⟩,fun d2=>⟨by omega,fun _=>ih (i+1) ⟨by omega,fun j hj=>?_⟩ (by omega)⟩⟩⟩⟩,fun d1=>fin ⟨fun _=>eq_of_getD c (fun j hj=>k2 j (by omega)),fun _=>rfl⟩⟩
  rcases Nat.lt_or_ge j i with h|h
  · exact k2 j h
  · obtain rfl:j=i:=by omega
    exact Decidable.not_not.1 d2
end Go.Proofs.Ytekbamiaenbhjaa
