/- Small contracts: Rest, few, equality and search in lists of numbers; what deleting leaves. No condition but those named. -/
import Derived.Test.YtekbamiaenbhjaaUtil
namespace Go.Proofs.Ytekbamiaenbhjaa
open Go.Ex
set_option maxRecDepth 100000
def S9 (n a b:Int):Bool:=decide (a≤n) && decide (n≤b)
theorem L9 {n a b:Int}:S9 n a b=true↔a≤n∧n≤b:=by simp [S9]
def b5V:w8:={ ps:=[.v (.d0 false A4),.v (.d0 false A4)],rs:=[.bool],pre:=fun _=>True,fn:=fun x=>(decide ((show List (Int) from x.1)=(show List (Int) from x.2.1)),()),out:=fun _=>() }
noncomputable def b6v:Env:={ P:=Try.prog,tt:=tt,F7:=[],res:=[Go.ResultVar.tmp 4],rs:=[Ty.bool],ps:=[PK.v (Ty.d0 false (Ty.int IntKind.i64)),PK.v (Ty.d0 false (Ty.int IntKind.i64))],H2:=[(4,[(0,none),(1,none),(12,none),(13,none)])],nt:=26 }
theorem a9r:D7 b6v:=G8 x5 trivial
theorem a9m:H9 b6v Try.f19:=⟨rfl,rfl⟩
theorem c1v (x0:List Int) (x1:List Int):exec b6v 1000 [.code (d8 Try.prog 19)] (C2 b5V.ps ((x0,x1,()))) =
  cond (decide ((↑(List.length x0):Int)≠(↑(List.length x1):Int))) (.ret ((false,()))) (.cut (e8 (d8 Try.prog 19) 4).1 (e8 (d8 Try.prog 19) 4).2 (St.mk [(0,AV.val (Ty.d0 false (Ty.int IntKind.i64)) x0),(1,AV.val (Ty.d0 false (Ty.int IntKind.i64)) x1),(12,AV.val (Ty.int IntKind.i64) (↑(List.length x0):Int)),(13,AV.val (Ty.int IntKind.i64) (0:Int))] [])):=by kernel_rfl
def b4K (v0:List Int) (v1:List Int) (v12:Int) (v13:Int):St:=St.mk [(0,AV.val (Ty.d0 false (Ty.int IntKind.i64)) v0),(1,AV.val (Ty.d0 false (Ty.int IntKind.i64)) v1),(12,AV.val (Ty.int IntKind.i64) v12),(13,AV.val (Ty.int IntKind.i64) v13)] []
theorem c0E (v0:List Int) (v1:List Int) (v12:Int) (v13:Int):exec b6v 1000 (.code (e8 (d8 Try.prog 19) 4).1::.inLoop (e8 (d8 Try.prog 19) 4).1::(e8 (d8 Try.prog 19) 4).2) (b4K v0 v1 v12 v13) =
  cond (decide (v13<v12)) (.g9 ((0:Int)≤v13∧v13<(↑(List.length v0):Int)) (.g9 ((0:Int)≤v13∧v13<(↑(List.length v1):Int)) (cond (decide (List.getD v0 (Int.toNat v13) (0:Int)≠List.getD v1 (Int.toNat v13) (0:Int))) (.ret ((false,()))) (.g9 (B2 IntKind.i64 (v13+(1:Int))) (.cut (e8 (d8 Try.prog 19) 4).1 (e8 (d8 Try.prog 19) 4).2 (St.mk [(0,AV.val (Ty.d0 false (Ty.int IntKind.i64)) v0),(1,AV.val (Ty.d0 false (Ty.int IntKind.i64)) v1),(12,AV.val (Ty.int IntKind.i64) v12),(13,AV.val (Ty.int IntKind.i64) (v13+(1:Int)))] [])))))) (.ret ((true,()))):=by kernel_rfl
theorem a8k:b5V.Valid Try.prog 19:=by
  refine w8.y8 a9r rfl rfl Try.func19 (c:=d8 Try.prog 19) rfl rfl a9m rfl ?_
  rintro ⟨(l:List (Int)),(m:List (Int)),⟨⟩⟩ - ⟨⟨hl,-⟩,-⟩
  have hl:l.length≤9223372036854775807:=hl
  refine p8 (n:=1000) a9r a9m ?_
  refine l4 (c1v l m) ?_
  have fin:∀ {b:Bool},(b=true↔l=m)→((b,()):Bool×Unit)=(decide (l=m),()):=fun {b} h=>by
    cases b with
    | true=>rw [decide_eq_true (h.1 rfl)]
    | false=>rw [decide_eq_false (fun e=>by cases h.2 e)]
  simp only [p7,Tree.holds,true_and,true_implies,decide_eq_true_eq,decide_eq_false_iff_not,Bool.not_eq_true',Bool.not_eq_false',Int.toNat_natCast,u7,List.length_set,List.length_cons,List.length_nil]
  refine ⟨fun c=>fin ⟨fun h=>(by cases h),fun h=>absurd (congrArg (fun q:List (Int)=>(q.length:Int)) h) c⟩,fun c=>?_⟩
  refine Reach.J8 a9r a9m (fun i:Nat=>b4K l m (l.length:Int) (i:Int)) (fun i=>i≤l.length∧∀ j,j<i→l.getD j 0=m.getD j 0)
    (fun i=>l.length - i) 1000 (fun _=>⟨r9 rfl,r9 rfl⟩) ?_ 0 ⟨Nat.zero_le _,fun j hj=>by omega⟩
  rintro i ⟨k1,k2⟩ - ih
  refine l4 (c0E ..) ?_
  have c:l.length=m.length:=by omega
  simp only [p7,Tree.holds,true_and,true_implies,decide_eq_true_eq,decide_eq_false_iff_not,Bool.not_eq_true',Bool.not_eq_false',Int.toNat_natCast,u7,List.length_set,List.length_cons,List.length_nil]
  refine ⟨fun d1=>⟨by omega,fun _=>⟨by omega,fun _=>⟨fun d2=>fin ⟨fun h=>(by cases h),fun h=>absurd (congrArg (fun q:List (Int)=>q.getD i 0) h) (d2)⟩,fun d2=>⟨by omega,fun _=>ih (i+1) ⟨by omega,fun j hj=>?_⟩ (by omega)⟩⟩⟩⟩,fun d1=>fin ⟨fun _=>eq_of_getD c (fun j hj=>k2 j (by omega)),fun _=>rfl⟩⟩
  rcases Nat.lt_or_ge j i with h|h
  · exact k2 j h
  · obtain rfl:j=i:=by omega
    exact Decidable.not_not.1 d2
def b01:w8:={ ps:=[.v (.d0 false A4),.v A4],rs:=[A4],pre:=fun _=>True,fn:=fun x=>(idxOf (fun y=>decide ((show Int from x.2.1)=y)) x.1,()),out:=fun _=>() }
noncomputable def b06:Env:={ P:=Try.prog,tt:=tt,F7:=[],res:=[Go.ResultVar.tmp 4],rs:=[Ty.int IntKind.i64],ps:=[PK.v (Ty.d0 false (Ty.int IntKind.i64)),PK.v (Ty.int IntKind.i64)],H2:=[(2,[(0,none),(1,none),(7,none),(8,none)])],nt:=19 }
theorem a7m:D7 b06:=G8 x5 trivial
theorem a7g:H9 b06 Try.f152:=⟨rfl,rfl⟩
theorem c0C (x0:List Int) (x1:Int):exec b06 1000 [.code (d8 Try.prog 152)] (C2 b01.ps ((x0,x1,()))) =
  .cut (e8 (d8 Try.prog 152) 2).1 (e8 (d8 Try.prog 152) 2).2 (St.mk [(0,AV.val (Ty.d0 false (Ty.int IntKind.i64)) x0),(1,AV.val (Ty.int IntKind.i64) x1),(7,AV.val (Ty.int IntKind.i64) (↑(List.length x0):Int)),(8,AV.val (Ty.int IntKind.i64) (0:Int))] []):=by kernel_rfl
def b2W (v0:List Int) (v1:Int) (v7:Int) (v8:Int):St:=St.mk [(0,AV.val (Ty.d0 false (Ty.int IntKind.i64)) v0),(1,AV.val (Ty.int IntKind.i64) v1),(7,AV.val (Ty.int IntKind.i64) v7),(8,AV.val (Ty.int IntKind.i64) v8)] []
theorem b9d (v0:List Int) (v1:Int) (v7:Int) (v8:Int):exec b06 1000 (.code (e8 (d8 Try.prog 152) 2).1::.inLoop (e8 (d8 Try.prog 152) 2).1::(e8 (d8 Try.prog 152) 2).2) (b2W v0 v1 v7 v8) =
  cond (decide (v8<v7)) (.g9 ((0:Int)≤v8∧v8<(↑(List.length v0):Int)) (cond (decide (v1=List.getD v0 (Int.toNat v8) (0:Int))) (.ret ((v8,()))) (.g9 (B2 IntKind.i64 (v8+(1:Int))) (.cut (e8 (d8 Try.prog 152) 2).1 (e8 (d8 Try.prog 152) 2).2 (St.mk [(0,AV.val (Ty.d0 false (Ty.int IntKind.i64)) v0),(1,AV.val (Ty.int IntKind.i64) v1),(7,AV.val (Ty.int IntKind.i64) v7),(8,AV.val (Ty.int IntKind.i64) (v8+(1:Int)))] []))))) (.ret (((-1:Int),()))):=by kernel_rfl
theorem a6z:b01.Valid Try.prog 152:=by
  refine w8.y8 a7m rfl rfl Try.func152 (c:=d8 Try.prog 152) rfl rfl a7g rfl ?_
  rintro ⟨(l:List (Int)),(x:Int),⟨⟩⟩ - ⟨⟨hl,-⟩,-⟩
  have hl:l.length≤9223372036854775807:=hl
  refine p8 (n:=1000) a7m a7g ?_
  refine l4 (c0C l x) ?_
  refine Reach.J8 a7m a7g (fun i:Nat=>b2W l x (l.length:Int) (i:Int) ) (fun i=>i≤l.length∧idxOf (fun y=>decide (x=y)) l=Z6 (fun y=>decide (x=y)) (l.drop i) i)
    (fun i=>l.length - i) 1000 (fun _=>⟨r9 rfl,r9 rfl⟩) ?_ 0 ⟨by omega,rfl⟩
  rintro i ⟨k1,k2⟩ - ih
  refine l4 (b9d ..) ?_
  simp only [p7,Tree.holds,true_and,true_implies,decide_eq_true_eq,decide_eq_false_iff_not,Bool.not_eq_true',Bool.not_eq_false',Int.toNat_natCast,u7,List.length_set,List.length_cons,List.length_nil]
  refine ⟨fun h=>?_,fun h=>?_⟩
  · rw [a5v (show i<l.length by omega) 0,Z6] at k2
    have key:∀ b:Bool,(b=true↔x=l.getD i 0)→(b=true→(((i:Int),()):Int×Unit)=(idxOf (fun y=>decide (x=y)) l,()))∧(b=false→idxOf (fun y=>decide (x=y)) l=Z6 (fun y=>decide (x=y)) (l.drop (i+1)) (i+1)):=fun b hb=>by
      refine ⟨fun c=>?_,fun c=>?_⟩
      · rw [k2,if_pos (decide_eq_true (hb.1 c))]
      · rw [k2,if_neg (fun h9=>by rw [hb.2 (of_decide_eq_true h9)] at c; cases c)]
    refine ⟨by omega,fun _=>⟨fun c=>?_,fun c=>⟨by omega,fun _=>ih (i+1) ⟨by omega,?_⟩ (by omega)⟩⟩⟩
    · exact (key true ⟨fun _=>c,fun _=>rfl⟩).1 rfl
    · exact (key false ⟨fun h9=>(by cases h9),fun h9=>(c h9).elim⟩).2 rfl
  · rw [List.drop_eq_nil_of_le (by omega)] at k2
    show (((-1:Int),()):Int×Unit)=(idxOf (fun y=>decide (x=y)) l,())
    rw [k2]; rfl
def b2o:w8:={ ps:=[.v (.d0 false A4),.v A4],rs:=[.bool],pre:=fun _=>True,fn:=fun x=>(decide ((show Int from x.2.1)∈(show List (Int) from x.1)),()),out:=fun _=>() }
noncomputable def b20:Env:={ P:=Try.prog,tt:=tt,F7:=[(152,b01)],res:=[Go.ResultVar.tmp 4],rs:=[Ty.bool],ps:=[PK.v (Ty.d0 false (Ty.int IntKind.i64)),PK.v (Ty.int IntKind.i64)],H2:=[],nt:=9 }
theorem b0r:D7 b20:=G8 x5 ⟨a6z,trivial⟩
theorem b0j:H9 b20 Try.f48:=⟨rfl,rfl⟩
theorem b9i (x0:List Int) (x1:Int):exec b20 1000 [.code (d8 Try.prog 48)] (C2 b2o.ps ((x0,x1,()))) =
  .g9 (True) (.ret ((decide ((0:Int)≤idxOf (fun y=>decide (x1=y)) x0),()))):=by kernel_rfl
theorem b2n:b2o.Valid Try.prog 48:=by
  refine w8.y8 b0r rfl rfl Try.func48 (c:=d8 Try.prog 48) rfl rfl b0j rfl ?_
  rintro ⟨(l:List (Int)),(x:Int),⟨⟩⟩ - -
  refine p8 (n:=1000) b0r b0j ?_
  refine l4 (b9i l x) ?_
  refine ⟨trivial,fun _=>?_⟩
  show ((decide (0≤idxOf (fun y=>decide (x=y)) l),()):Bool×Unit)=(decide (x∈l),())
  rw [a8Z]
  have:l.any (fun y=>decide (x=y))=true↔x∈l:=by
    rw [List.any_eq_true]
    exact ⟨fun ⟨y,h1,h2⟩=>by rw [of_decide_eq_true h2]; exact h1,fun h=>⟨x,h,decide_eq_true rfl⟩⟩
  cases e:l.any (fun y=>decide (x=y)) with
  | true=>rw [decide_eq_true (this.1 e)]
  | false=>rw [decide_eq_false (fun h=>by rw [this.2 h] at e; cases e)]
theorem c1A:Ty.wb A4=8:=rfl
def b8U:w8:={ ps:=[.v (.d0 false A4)],rs:=[.d0 true A4],pre:=fun x=>List.length (α:=Int) x.1≤1048576,fn:=fun x=>x,out:=fun _=>() }
noncomputable def b9j:Env:={ P:=Try.prog,tt:=tt,F7:=[],res:=[Go.ResultVar.tmp 2],rs:=[Ty.d0 true (Ty.int IntKind.i64)],ps:=[PK.v (Ty.d0 false (Ty.int IntKind.i64))],H2:=[],nt:=8 }
theorem b4L:D7 b9j:=G8 x5 trivial
theorem b4H:H9 b9j Try.f78:=⟨rfl,rfl⟩
theorem c1w (x0:List Int):exec b9j 1000 [.code (d8 Try.prog 78)] (C2 b8U.ps ((x0,()))) =
  .both (x0=[]) (.ret (([],()))) (.g9 ((0:Nat)+List.length x0≤140737488355328∧((0:Nat)+List.length x0)*Ty.wb (Ty.int IntKind.i64)≤140737488355328) (.ret (([]++x0,())))):=by kernel_rfl
theorem b50:b8U.Valid Try.prog 78:=by
  refine w8.y8 b4L rfl rfl Try.func78 (c:=d8 Try.prog 78) rfl rfl b4H rfl ?_
  rintro ⟨(l:List (Int)),⟨⟩⟩ hp -
  have hp:l.length≤1048576:=hp
  refine p8 (n:=1000) b4L b4H ?_
  refine l4 (c1w l) ?_
  simp only [p7,Tree.holds,true_and,true_implies,decide_eq_true_eq,decide_eq_false_iff_not,Bool.not_eq_true',Bool.not_eq_false',Int.toNat_natCast,u7,List.length_set,List.length_cons,List.length_nil,c1A]
  refine ⟨fun h=>?_,by omega,fun _=>rfl⟩
  show (([],()):List (Int)×Unit)=(l,())
  rw [show l=[] from h]
end Go.Proofs.Ytekbamiaenbhjaa
