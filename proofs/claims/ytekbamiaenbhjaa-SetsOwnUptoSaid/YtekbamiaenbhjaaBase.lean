/- Small contracts: Rest, few, equality and search in lists of numbers; what deleting leaves. No condition but those named. -/
import Derived.Test.YtekbamiaenbhjaaUtil
namespace Go.Proofs.Ytekbamiaenbhjaa
open Go.Ex
set_option maxRecDepth 100000
def R7 (n a b:Int):Bool:=decide (a≤n) && decide (n≤b)
theorem Z3 {n a b:Int}:R7 n a b=true↔a≤n∧n≤b:=by simp [R7]
theorem a5K {n a b:Int}:R7 n a b=false↔¬ (a≤n∧n≤b):=by rw [← Z3]; simp
def I4 (f:Nat→Int):Nat→Int
  | 0=>0
  | k+1=>if I4 f k≠0 then I4 f k else f k
theorem a2V {f:Nat→Int} {k:Nat} (h0:I4 f k=0) (h1:f k≠0):∀ {n:Nat},k<n→I4 f n=f k
  | 0,h=>by omega
  | n+1,h=>by
    by_cases e:k=n
    · subst e; simp [I4,h0]
    · have:=a2V h0 h1 (n:=n) (by omega)
      simp [I4,this,h1]
theorem a6e {f:Nat→Int} {k:Nat} (h0:I4 f k=0) (h1:f k=0):I4 f (k+1)=0:=by simp [I4,h0,h1]
def b96:p7:={ ps:=[.v (.b7 false y8),.v (.b7 false y8)],rs:=[.bool],pre:=fun _=>True,fn:=fun x=>(decide ((show List (Int) from x.1)=(show List (Int) from x.2.1)),()),out:=fun _=>() }
noncomputable def b7f:Env:={ P:=Try.prog,tt:=tt,A3:=[],res:=[Go.ResultVar.tmp 4],rs:=[Ty.bool],ps:=[PK.v (Ty.b7 false (Ty.int IntKind.i64)),PK.v (Ty.b7 false (Ty.int IntKind.i64))],x7:=[(4,[(0,none),(1,none),(12,none),(13,none)])],nt:=26 }
theorem a84:u5 b7f:=w7 p9 trivial
theorem a8U:y9 b7f Try.f19:=⟨rfl,rfl⟩
theorem c3M (x0:List Int) (x1:List Int):exec b7f 1000 [.code (b8 Try.prog 19)] (s6 b96.ps ((x0,x1,()))) =
  cond (decide ((↑(List.length x0):Int)≠(↑(List.length x1):Int))) (.ret ((false,()))) (.cut (e8 (b8 Try.prog 19) 4).1 (e8 (b8 Try.prog 19) 4).2 (St.mk [(0,AV.val (Ty.b7 false (Ty.int IntKind.i64)) x0),(1,AV.val (Ty.b7 false (Ty.int IntKind.i64)) x1),(12,AV.val (Ty.int IntKind.i64) (↑(List.length x0):Int)),(13,AV.val (Ty.int IntKind.i64) (0:Int))] [])):=by kernel_rfl
def b5n (v0:List Int) (v1:List Int) (v12:Int) (v13:Int):St:=St.mk [(0,AV.val (Ty.b7 false (Ty.int IntKind.i64)) v0),(1,AV.val (Ty.b7 false (Ty.int IntKind.i64)) v1),(12,AV.val (Ty.int IntKind.i64) v12),(13,AV.val (Ty.int IntKind.i64) v13)] []
theorem c2u (v0:List Int) (v1:List Int) (v12:Int) (v13:Int):exec b7f 1000 (.code (e8 (b8 Try.prog 19) 4).1::.inLoop (e8 (b8 Try.prog 19) 4).1::(e8 (b8 Try.prog 19) 4).2) (b5n v0 v1 v12 v13) =
  cond (decide (v13<v12)) (.d8 ((0:Int)≤v13∧v13<(↑(List.length v0):Int)) (.d8 ((0:Int)≤v13∧v13<(↑(List.length v1):Int)) (cond (decide (List.getD v0 (Int.toNat v13) (0:Int)≠List.getD v1 (Int.toNat v13) (0:Int))) (.ret ((false,()))) (.d8 (u7 IntKind.i64 (v13+(1:Int))) (.cut (e8 (b8 Try.prog 19) 4).1 (e8 (b8 Try.prog 19) 4).2 (St.mk [(0,AV.val (Ty.b7 false (Ty.int IntKind.i64)) v0),(1,AV.val (Ty.b7 false (Ty.int IntKind.i64)) v1),(12,AV.val (Ty.int IntKind.i64) v12),(13,AV.val (Ty.int IntKind.i64) (v13+(1:Int)))] [])))))) (.ret ((true,()))):=by kernel_rfl
theorem b6p:b96.Valid Try.prog 19:=by
  refine p7.o8 a84 rfl rfl Try.func19 (c:=b8 Try.prog 19) rfl rfl a8U rfl ?_
  rintro ⟨(l:List (Int)),(m:List (Int)),⟨⟩⟩ - ⟨⟨hl,-⟩,-⟩
  have hl:l.length≤9223372036854775807:=hl
  refine j8 (n:=1000) a84 a8U ?_
  refine g9 (c3M l m) ?_
  have fin:∀ {b:Bool},(b=true↔l=m)→((b,()):Bool×Unit)=(decide (l=m),()):=fun {b} h=>by
    cases b with
    | true=>rw [decide_eq_true (h.1 rfl)]
    | false=>rw [decide_eq_false (fun e=>by cases h.2 e)]
  simp only [o5,Tree.holds,true_and,true_implies,decide_eq_true_eq,decide_eq_false_iff_not,Bool.not_eq_true',Bool.not_eq_false',Int.toNat_natCast,q8,List.length_set,List.length_cons,List.length_nil]
  refine ⟨fun c=>fin ⟨fun h=>(by cases h),fun h=>absurd (congrArg (fun q:List (Int)=>(q.length:Int)) h) c⟩,fun c=>?_⟩
  refine Reach.K9 a84 a8U (fun i:Nat=>b5n l m (l.length:Int) (i:Int)) (fun i=>i≤l.length∧∀ j,j<i→l.getD j 0=m.getD j 0)
    (fun i=>l.length - i) 1000 (fun _=>⟨u3 rfl,u3 rfl⟩) ?_ 0 ⟨Nat.zero_le _,fun j hj=>by omega⟩
  rintro i ⟨k1,k2⟩ - ih
  refine g9 (c2u ..) ?_
  have c:l.length=m.length:=by omega
  simp only [o5,Tree.holds,true_and,true_implies,decide_eq_true_eq,decide_eq_false_iff_not,Bool.not_eq_true',Bool.not_eq_false',Int.toNat_natCast,q8,List.length_set,List.length_cons,List.length_nil]
  refine ⟨fun d1=>⟨by omega,fun _=>⟨by omega,fun _=>⟨fun d2=>fin ⟨fun h=>(by cases h),fun h=>absurd (congrArg (fun q:List (Int)=>q.getD i 0) h) (d2)⟩,fun d2=>⟨by omega,fun _=>ih (i+1) ⟨by omega,fun j hj=>?_⟩ (by omega)⟩⟩⟩⟩,fun d1=>fin ⟨fun _=>eq_of_getD c (fun j hj=>k2 j (by omega)),fun _=>rfl⟩⟩
  rcases Nat.lt_or_ge j i with h|h
  · exact k2 j h
  · obtain rfl:j=i:=by omega
    exact Decidable.not_not.1 d2
end Go.Proofs.Ytekbamiaenbhjaa
