/- Small contracts: Rest, few, equality and search in lists of numbers; what deleting leaves. No condition but those named. -/
import Derived.Test.YtekbamiaenbhjaaUtil
namespace Go.Proofs.Ytekbamiaenbhjaa
open Go.Ex
set_option maxRecDepth 100000
def K4 (n a b:Int):Bool:=decide (a≤n) && decide (n≤b)
theorem a0h {n a b:Int}:K4 n a b=true↔a≤n∧n≤b:=by simp [K4]
theorem b3S {n a b:Int}:K4 n a b=false↔¬ (a≤n∧n≤b):=by rw [← a0h]; simp
def a8m:w6:={ ps:=[.v (.d0 false s6),.v (.d0 false s6)],rs:=[.bool],pre:=fun _=>True,fn:=fun x=>(decide ((show List (Int) from x.1)=(show List (Int) from x.2.1)),()),out:=fun _=>() }
noncomputable def b53:Env:={ P:=Try.prog,tt:=tt,C7:=[],res:=[Go.ResultVar.tmp 4],rs:=[Ty.bool],ps:=[PK.v (Ty.d0 false (Ty.int IntKind.i64)),PK.v (Ty.d0 false (Ty.int IntKind.i64))],C5:=[(4,[(0,none),(1,none),(12,none),(13,none)])],nt:=26 }
theorem a8C:B0 b53:=B9 t8 trivial
theorem a8x:D0 b53 Try.f19:=⟨rfl,rfl⟩
theorem c1v (x0:List Int) (x1:List Int):exec b53 1000 [.code (d9 Try.prog 19)] (y8 a8m.ps ((x0,x1,()))) =
  cond (decide ((↑(List.length x0):Int)≠(↑(List.length x1):Int))) (.ret ((false,()))) (.cut (i5 (d9 Try.prog 19) 4).1 (i5 (d9 Try.prog 19) 4).2 (St.mk [(0,AV.val (Ty.d0 false (Ty.int IntKind.i64)) x0),(1,AV.val (Ty.d0 false (Ty.int IntKind.i64)) x1),(12,AV.val (Ty.int IntKind.i64) (↑(List.length x0):Int)),(13,AV.val (Ty.int IntKind.i64) (0:Int))] [])):=by kernel_rfl
def b4j (v0:List Int) (v1:List Int) (v12:Int) (v13:Int):St:=St.mk [(0,AV.val (Ty.d0 false (Ty.int IntKind.i64)) v0),(1,AV.val (Ty.d0 false (Ty.int IntKind.i64)) v1),(12,AV.val (Ty.int IntKind.i64) v12),(13,AV.val (Ty.int IntKind.i64) v13)] []
theorem c0F (v0:List Int) (v1:List Int) (v12:Int) (v13:Int):exec b53 1000 (.code (i5 (d9 Try.prog 19) 4).1::.inLoop (i5 (d9 Try.prog 19) 4).1::(i5 (d9 Try.prog 19) 4).2) (b4j v0 v1 v12 v13) =
  cond (decide (v13<v12)) (.f9 ((0:Int)≤v13∧v13<(↑(List.length v0):Int)) (.f9 ((0:Int)≤v13∧v13<(↑(List.length v1):Int)) (cond (decide (List.getD v0 (Int.toNat v13) (0:Int)≠List.getD v1 (Int.toNat v13) (0:Int))) (.ret ((false,()))) (.f9 (C3 IntKind.i64 (v13+(1:Int))) (.cut (i5 (d9 Try.prog 19) 4).1 (i5 (d9 Try.prog 19) 4).2 (St.mk [(0,AV.val (Ty.d0 false (Ty.int IntKind.i64)) v0),(1,AV.val (Ty.d0 false (Ty.int IntKind.i64)) v1),(12,AV.val (Ty.int IntKind.i64) v12),(13,AV.val (Ty.int IntKind.i64) (v13+(1:Int)))] [])))))) (.ret ((true,()))):=by kernel_rfl
theorem a19:a8m.Valid Try.prog 19:=by
  refine w6.t6 a8C rfl rfl Try.func19 (c:=d9 Try.prog 19) rfl rfl a8x rfl ?_
  rintro ⟨(l:List (Int)),(m:List (Int)),⟨⟩⟩ - ⟨⟨hl,-⟩,-⟩
  have hl:l.length≤9223372036854775807:=hl
  refine l8 (n:=1000) a8C a8x ?_
  refine j9 (c1v l m) ?_
  have fin:∀ {b:Bool},(b=true↔l=m)→((b,()):Bool×Unit)=(decide (l=m),()):=fun {b} h=>by
    cases b with
    | true=>rw [decide_eq_true (h.1 rfl)]
    | false=>rw [decide_eq_false (fun e=>by cases h.2 e)]
  simp only [s4,Tree.holds,true_and,true_implies,decide_eq_true_eq,decide_eq_false_iff_not,Bool.not_eq_true',Bool.not_eq_false',Int.toNat_natCast,x5,List.length_set,List.length_cons,List.length_nil]
  refine ⟨fun c=>fin ⟨fun h=>(by cases h),fun h=>absurd (congrArg (fun q:List (Int)=>(q.length:Int)) h) c⟩,fun c=>?_⟩
  refine Reach.N1 a8C a8x (fun i:Nat=>b4j l m (l.length:Int) (i:Int)) (fun i=>i≤l.length∧∀ j,j<i→l.getD j 0=m.getD j 0)
    (fun i=>l.length - i) 1000 (fun _=>⟨x4 rfl,x4 rfl⟩) ?_ 0 ⟨Nat.zero_le _,fun j hj=>by omega⟩
  rintro i ⟨k1,k2⟩ - ih
  refine j9 (c0F ..) ?_
  have c:l.length=m.length:=by omega
  simp only [s4,Tree.holds,true_and,true_implies,decide_eq_true_eq,decide_eq_false_iff_not,Bool.not_eq_true',Bool.not_eq_false',Int.toNat_natCast,x5,List.length_set,List.length_cons,List.length_nil]
  refine ⟨fun d1=>⟨by omega,fun _=>⟨by omega,fun _=>⟨fun d2=>fin ⟨fun h=>(by cases h),fun h=>absurd (congrArg (fun q:List (Int)=>q.getD i 0) h) (d2)⟩,fun d2=>⟨by omega,fun _=>ih (i+1) ⟨by omega,fun j hj=>?_⟩ (by omega)⟩⟩⟩⟩,fun d1=>fin ⟨fun _=>eq_of_getD c (fun j hj=>k2 j (by omega)),fun _=>rfl⟩⟩
  rcases Nat.lt_or_ge j i with h|h
  · exact k2 j h
  · obtain rfl:j=i:=by omega
    exact Decidable.not_not.1 d2
def b5f:w6:={ ps:=[.v (.d0 false s6),.v s6],rs:=[s6],pre:=fun _=>True,fn:=fun x=>(idxOf (fun y=>decide ((show Int from x.2.1)=y)) x.1,()),out:=fun _=>() }
noncomputable def a98:Env:={ P:=Try.prog,tt:=tt,C7:=[],res:=[Go.ResultVar.tmp 4],rs:=[Ty.int IntKind.i64],ps:=[PK.v (Ty.d0 false (Ty.int IntKind.i64)),PK.v (Ty.int IntKind.i64)],C5:=[(2,[(0,none),(1,none),(7,none),(8,none)])],nt:=19 }
theorem a6I:B0 a98:=B9 t8 trivial
theorem a6y:D0 a98 Try.f152:=⟨rfl,rfl⟩
theorem c0y (x0:List Int) (x1:Int):exec a98 1000 [.code (d9 Try.prog 152)] (y8 b5f.ps ((x0,x1,()))) =
  .cut (i5 (d9 Try.prog 152) 2).1 (i5 (d9 Try.prog 152) 2).2 (St.mk [(0,AV.val (Ty.d0 false (Ty.int IntKind.i64)) x0),(1,AV.val (Ty.int IntKind.i64) x1),(7,AV.val (Ty.int IntKind.i64) (↑(List.length x0):Int)),(8,AV.val (Ty.int IntKind.i64) (0:Int))] []):=by kernel_rfl
def b2h (v0:List Int) (v1:Int) (v7:Int) (v8:Int):St:=St.mk [(0,AV.val (Ty.d0 false (Ty.int IntKind.i64)) v0),(1,AV.val (Ty.int IntKind.i64) v1),(7,AV.val (Ty.int IntKind.i64) v7),(8,AV.val (Ty.int IntKind.i64) v8)] []
theorem b8Q (v0:List Int) (v1:Int) (v7:Int) (v8:Int):exec a98 1000 (.code (i5 (d9 Try.prog 152) 2).1::.inLoop (i5 (d9 Try.prog 152) 2).1::(i5 (d9 Try.prog 152) 2).2) (b2h v0 v1 v7 v8) =
  cond (decide (v8<v7)) (.f9 ((0:Int)≤v8∧v8<(↑(List.length v0):Int)) (cond (decide (v1=List.getD v0 (Int.toNat v8) (0:Int))) (.ret ((v8,()))) (.f9 (C3 IntKind.i64 (v8+(1:Int))) (.cut (i5 (d9 Try.prog 152) 2).1 (i5 (d9 Try.prog 152) 2).2 (St.mk [(0,AV.val (Ty.d0 false (Ty.int IntKind.i64)) v0),(1,AV.val (Ty.int IntKind.i64) v1),(7,AV.val (Ty.int IntKind.i64) v7),(8,AV.val (Ty.int IntKind.i64) (v8+(1:Int)))] []))))) (.ret (((-1:Int),()))):=by kernel_rfl
theorem b27:b5f.Valid Try.prog 152:=by
  refine w6.t6 a6I rfl rfl Try.func152 (c:=d9 Try.prog 152) rfl rfl a6y rfl ?_
  rintro ⟨(l:List (Int)),(x:Int),⟨⟩⟩ - ⟨⟨hl,-⟩,-⟩
  have hl:l.length≤9223372036854775807:=hl
  refine l8 (n:=1000) a6I a6y ?_
  refine j9 (c0y l x) ?_
  refine Reach.N1 a6I a6y (fun i:Nat=>b2h l x (l.length:Int) (i:Int) ) (fun i=>i≤l.length∧idxOf (fun y=>decide (x=y)) l=I0 (fun y=>decide (x=y)) (l.drop i) i)
    (fun i=>l.length - i) 1000 (fun _=>⟨x4 rfl,x4 rfl⟩) ?_ 0 ⟨by omega,rfl⟩
  rintro i ⟨k1,k2⟩ - ih
  refine j9 (b8Q ..) ?_
  simp only [s4,Tree.holds,true_and,true_implies,decide_eq_true_eq,decide_eq_false_iff_not,Bool.not_eq_true',Bool.not_eq_false',Int.toNat_natCast,x5,List.length_set,List.length_cons,List.length_nil]
  refine ⟨fun h=>?_,fun h=>?_⟩
  · rw [P0 (show i<l.length by omega) 0,I0] at k2
    have key:∀ b:Bool,(b=true↔x=l.getD i 0)→(b=true→(((i:Int),()):Int×Unit)=(idxOf (fun y=>decide (x=y)) l,()))∧(b=false→idxOf (fun y=>decide (x=y)) l=I0 (fun y=>decide (x=y)) (l.drop (i+1)) (i+1)):=fun b hb=>by
      refine ⟨fun c=>?_,fun c=>?_⟩
      · rw [k2,if_pos (decide_eq_true (hb.1 c))]
      · rw [k2,if_neg (fun h9=>by rw [hb.2 (of_decide_eq_true h9)] at c; cases c)]
    refine ⟨by omega,fun _=>⟨fun c=>?_,fun c=>⟨by omega,fun _=>ih (i+1) ⟨by omega,?_⟩ (by omega)⟩⟩⟩
    · exact (key true ⟨fun _=>c,fun _=>rfl⟩).1 rfl
    · exact (key false ⟨fun h9=>(by cases h9),fun h9=>(c h9).elim⟩).2 rfl
  · rw [List.drop_eq_nil_of_le (by omega)] at k2
    show (((-1:Int),()):Int×Unit)=(idxOf (fun y=>decide (x=y)) l,())
    rw [k2]; rfl
def a3w:w6:={ ps:=[.v (.d0 false s6),.v s6],rs:=[.bool],pre:=fun _=>True,fn:=fun x=>(decide ((show Int from x.2.1)∈(show List (Int) from x.1)),()),out:=fun _=>() }
noncomputable def b2r:Env:={ P:=Try.prog,tt:=tt,C7:=[(152,b5f)],res:=[Go.ResultVar.tmp 4],rs:=[Ty.bool],ps:=[PK.v (Ty.d0 false (Ty.int IntKind.i64)),PK.v (Ty.int IntKind.i64)],C5:=[],nt:=9 }
theorem a9x:B0 b2r:=B9 t8 ⟨b27,trivial⟩
theorem a9o:D0 b2r Try.f48:=⟨rfl,rfl⟩
theorem b8X (x0:List Int) (x1:Int):exec b2r 1000 [.code (d9 Try.prog 48)] (y8 a3w.ps ((x0,x1,()))) =
  .f9 (True) (.ret ((decide ((0:Int)≤idxOf (fun y=>decide (x1=y)) x0),()))):=by kernel_rfl
theorem a1b:a3w.Valid Try.prog 48:=by
  refine w6.t6 a9x rfl rfl Try.func48 (c:=d9 Try.prog 48) rfl rfl a9o rfl ?_
  rintro ⟨(l:List (Int)),(x:Int),⟨⟩⟩ - -
  refine l8 (n:=1000) a9x a9o ?_
  refine j9 (b8X l x) ?_
  refine ⟨trivial,fun _=>?_⟩
  show ((decide (0≤idxOf (fun y=>decide (x=y)) l),()):Bool×Unit)=(decide (x∈l),())
  rw [a3o]
  have:l.any (fun y=>decide (x=y))=true↔x∈l:=by
    rw [List.any_eq_true]
    exact ⟨fun ⟨y,h1,h2⟩=>by rw [of_decide_eq_true h2]; exact h1,fun h=>⟨x,h,decide_eq_true rfl⟩⟩
  cases e:l.any (fun y=>decide (x=y)) with
  | true=>rw [decide_eq_true (this.1 e)]
  | false=>rw [decide_eq_false (fun h=>by rw [this.2 h] at e; cases e)]
theorem c1B:Ty.wb s6=8:=rfl
def b5s:w6:={ ps:=[.v (.d0 false s6)],rs:=[.d0 true s6],pre:=fun x=>List.length (α:=Int) x.1≤1048576,fn:=fun x=>x,out:=fun _=>() }
noncomputable def b80:Env:={ P:=Try.prog,tt:=tt,C7:=[],res:=[Go.ResultVar.tmp 2],rs:=[Ty.d0 true (Ty.int IntKind.i64)],ps:=[PK.v (Ty.d0 false (Ty.int IntKind.i64))],C5:=[],nt:=8 }
theorem b4l:B0 b80:=B9 t8 trivial
theorem b4e:D0 b80 Try.f78:=⟨rfl,rfl⟩
theorem c1x (x0:List Int):exec b80 1000 [.code (d9 Try.prog 78)] (y8 b5s.ps ((x0,()))) =
  .both (x0=[]) (.ret (([],()))) (.f9 ((0:Nat)+List.length x0≤140737488355328∧((0:Nat)+List.length x0)*Ty.wb (Ty.int IntKind.i64)≤140737488355328) (.ret (([]++x0,())))):=by kernel_rfl
theorem a7v:b5s.Valid Try.prog 78:=by
  refine w6.t6 b4l rfl rfl Try.func78 (c:=d9 Try.prog 78) rfl rfl b4e rfl ?_
  rintro ⟨(l:List (Int)),⟨⟩⟩ hp -
  have hp:l.length≤1048576:=hp
  refine l8 (n:=1000) b4l b4e ?_
  refine j9 (c1x l) ?_
  simp only [s4,Tree.holds,true_and,true_implies,decide_eq_true_eq,decide_eq_false_iff_not,Bool.not_eq_true',Bool.not_eq_false',Int.toNat_natCast,x5,List.length_set,List.length_cons,List.length_nil,c1B]
  refine ⟨fun h=>?_,by omega,fun _=>rfl⟩
  show (([],()):List (Int)×Unit)=(l,())
  rw [show l=[] from h]
end Go.Proofs.Ytekbamiaenbhjaa
