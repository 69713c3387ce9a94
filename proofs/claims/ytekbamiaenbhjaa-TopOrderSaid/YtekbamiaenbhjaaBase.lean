/- Small contracts: Rest, few, equality and search in lists of numbers; what deleting leaves. No condition but those named. -/
import Derived.Test.YtekbamiaenbhjaaUtil
namespace Go.Proofs.Ytekbamiaenbhjaa
open Go.Ex
set_option maxRecDepth 100000
def N3 (n a b:Int):Bool:=decide (a≤n) && decide (n≤b)
theorem K0 {n a b:Int}:N3 n a b=true↔a≤n∧n≤b:=by simp [N3]
def c1Q:w9:={ ps:=[.v (.d0 false i5),.v (.d0 false i5)],rs:=[.bool],pre:=fun _=>True,fn:=fun x=>(decide ((show List (Int) from x.1)=(show List (Int) from x.2.1)),()),out:=fun _=>() }
noncomputable def b8H:Env:={ P:=Try.prog,tt:=tt,F2:=[],res:=[Go.ResultVar.tmp 4],rs:=[Ty.bool],ps:=[PK.v (Ty.d0 false i5),PK.v (Ty.d0 false i5)],D8:=[(4,[(0,none),(1,none),(12,none),(13,none)])],nt:=26 }
theorem b00:B6 b8H:=D0 w5 trivial
theorem b0V:E3 b8H Try.f19:=⟨rfl,rfl⟩
theorem c40 (x0:List Int) (x1:List Int):exec b8H 1000 [.code (d8 Try.prog 19)] (A5 c1Q.ps ((x0,x1,()))) =
  cond (decide ((↑(List.length x0):Int)≠(↑(List.length x1):Int))) (.ret ((false,()))) (.ctL (d9 (d8 Try.prog 19) 4) (St.mk [(0,AV.val (Ty.d0 false i5) x0),(1,AV.val (Ty.d0 false i5) x1),(12,vI (↑(List.length x0):Int)),(13,vI (0:Int))] [])):=by kernel_rfl
def b6I (v0:List Int) (v1:List Int) (v12:Int) (v13:Int):St:=St.mk [(0,AV.val (Ty.d0 false i5) v0),(1,AV.val (Ty.d0 false i5) v1),(12,vI v12),(13,vI v13)] []
theorem c4i (v0:List Int) (v1:List Int) (v12:Int) (v13:Int):exec b8H 1000 (.code (d9 (d8 Try.prog 19) 4).1::.inLoop (d9 (d8 Try.prog 19) 4).1::(d9 (d8 Try.prog 19) 4).2) (b6I v0 v1 v12 v13) =
  cond (decide (v13<v12)) (.e8 ((0:Int)≤v13∧v13<(↑(List.length v0):Int)) (.e8 ((0:Int)≤v13∧v13<(↑(List.length v1):Int)) (cond (decide (List.getD v0 (Int.toNat v13) (0:Int)≠List.getD v1 (Int.toNat v13) (0:Int))) (.ret ((false,()))) (.e8 (r9 IntKind.i64 (v13+(1:Int))) (.ctL (d9 (d8 Try.prog 19) 4) (St.mk [(0,AV.val (Ty.d0 false i5) v0),(1,AV.val (Ty.d0 false i5) v1),(12,vI v12),(13,vI (v13+(1:Int)))] [])))))) (.ret ((true,()))):=by kernel_rfl
theorem b75:c1Q.Valid Try.prog 19:=by
  refine w9.u7 b00 rfl rfl Try.func19 (c:=d8 Try.prog 19) rfl rfl b0V rfl ?_
  rintro ⟨(l:List (Int)),(m:List (Int)),⟨⟩⟩ - ⟨⟨hl,-⟩,-⟩
  have hl:l.length≤9223372036854775807:=hl
  refine n7 (n:=1000) b00 b0V ?_
  refine g9 (c40 l m) ?_
  have fin:∀ {b:Bool},(b=true↔l=m)→((b,()):Bool×Unit)=(decide (l=m),()):=fun {b} h=>by
    cases b with
    | true=>rw [decide_eq_true (h.1 rfl)]
    | false=>rw [decide_eq_false (fun e=>by cases h.2 e)]
  simp only [i9,Tree.holds,true_and,true_implies,decide_eq_true_eq,decide_eq_false_iff_not,Bool.not_eq_true',Bool.not_eq_false',Int.toNat_natCast,l7,List.length_set,List.length_cons,List.length_nil]
  refine ⟨fun c=>fin ⟨fun h=>(by cases h),fun h=>absurd (congrArg (fun q:List (Int)=>(q.length:Int)) h) c⟩,fun c=>?_⟩
  refine Reach.C1 b00 b0V (fun i:Nat=>b6I l m (l.length:Int) (i:Int)) (fun i=>i≤l.length∧∀ j,j<i→l.getD j 0=m.getD j 0)
    (fun i=>l.length - i) 1000 (fun _=>⟨j7 rfl,j7 rfl⟩) ?_ 0 ⟨Nat.zero_le _,fun j hj=>by omega⟩
  rintro i ⟨k1,k2⟩ - ih
  refine g9 (c4i ..) ?_
  have c:l.length=m.length:=by omega
  simp only [i9,Tree.holds,true_and,true_implies,decide_eq_true_eq,decide_eq_false_iff_not,Bool.not_eq_true',Bool.not_eq_false',Int.toNat_natCast,l7,List.length_set,List.length_cons,List.length_nil]
  refine ⟨fun d1=>⟨by omega,fun _=>⟨by omega,fun _=>⟨fun d2=>fin ⟨fun h=>(by cases h),fun h=>absurd (congrArg (fun q:List (Int)=>q.getD i 0) h) (d2)⟩,fun d2=>⟨by omega,fun _=>ih (i+1) ⟨by omega,fun j hj=>?_⟩ (by omega)⟩⟩⟩⟩,fun d1=>fin ⟨fun _=>eq_of_getD c (fun j hj=>k2 j (by omega)),fun _=>rfl⟩⟩
  rcases Nat.lt_or_ge j i with h|h
  · exact k2 j h
  · obtain rfl:j=i:=by omega
    exact Decidable.not_not.1 d2
def b2D:w9:={ ps:=[.v (.d0 false i5),.v i5],rs:=[i5],pre:=fun _=>True,fn:=fun x=>(idxOf (fun y=>decide ((show Int from x.2.1)=y)) x.1,()),out:=fun _=>() }
noncomputable def b2K:Env:={ P:=Try.prog,tt:=tt,F2:=[],res:=[Go.ResultVar.tmp 4],rs:=[Ty.int IntKind.i64],ps:=[PK.v (Ty.d0 false i5),PK.v i5],D8:=[(2,[(0,none),(1,none),(7,none),(8,none)])],nt:=19 }
theorem a82:B6 b2K:=D0 w5 trivial
theorem a8Q:E3 b2K Try.f152:=⟨rfl,rfl⟩
theorem c4g (x0:List Int) (x1:Int):exec b2K 1000 [.code (d8 Try.prog 152)] (A5 b2D.ps ((x0,x1,()))) =
  .ctL (d9 (d8 Try.prog 152) 2) (St.mk [(0,AV.val (Ty.d0 false i5) x0),(1,vI x1),(7,vI (↑(List.length x0):Int)),(8,vI (0:Int))] []):=by kernel_rfl
def b4H (v0:List Int) (v1:Int) (v7:Int) (v8:Int):St:=St.mk [(0,AV.val (Ty.d0 false i5) v0),(1,vI v1),(7,vI v7),(8,vI v8)] []
theorem c2y (v0:List Int) (v1:Int) (v7:Int) (v8:Int):exec b2K 1000 (.code (d9 (d8 Try.prog 152) 2).1::.inLoop (d9 (d8 Try.prog 152) 2).1::(d9 (d8 Try.prog 152) 2).2) (b4H v0 v1 v7 v8) =
  cond (decide (v8<v7)) (.e8 ((0:Int)≤v8∧v8<(↑(List.length v0):Int)) (cond (decide (v1=List.getD v0 (Int.toNat v8) (0:Int))) (.ret ((v8,()))) (.e8 (r9 IntKind.i64 (v8+(1:Int))) (.ctL (d9 (d8 Try.prog 152) 2) (St.mk [(0,AV.val (Ty.d0 false i5) v0),(1,vI v1),(7,vI v7),(8,vI (v8+(1:Int)))] []))))) (.ret (((-1:Int),()))):=by kernel_rfl
theorem a7X:b2D.Valid Try.prog 152:=by
  refine w9.u7 a82 rfl rfl Try.func152 (c:=d8 Try.prog 152) rfl rfl a8Q rfl ?_
  rintro ⟨(l:List (Int)),(x:Int),⟨⟩⟩ - ⟨⟨hl,-⟩,-⟩
  have hl:l.length≤9223372036854775807:=hl
  refine n7 (n:=1000) a82 a8Q ?_
  refine g9 (c4g l x) ?_
  refine Reach.C1 a82 a8Q (fun i:Nat=>b4H l x (l.length:Int) (i:Int) ) (fun i=>i≤l.length∧idxOf (fun y=>decide (x=y)) l=a0l (fun y=>decide (x=y)) (l.drop i) i)
    (fun i=>l.length - i) 1000 (fun _=>⟨j7 rfl,j7 rfl⟩) ?_ 0 ⟨by omega,rfl⟩
  rintro i ⟨k1,k2⟩ - ih
  refine g9 (c2y ..) ?_
  simp only [i9,Tree.holds,true_and,true_implies,decide_eq_true_eq,decide_eq_false_iff_not,Bool.not_eq_true',Bool.not_eq_false',Int.toNat_natCast,l7,List.length_set,List.length_cons,List.length_nil]
  refine ⟨fun h=>?_,fun h=>?_⟩
  · rw [S3 (show i<l.length by omega) 0,a0l] at k2
    have key:∀ b:Bool,(b=true↔x=l.getD i 0)→(b=true→(((i:Int),()):Int×Unit)=(idxOf (fun y=>decide (x=y)) l,()))∧(b=false→idxOf (fun y=>decide (x=y)) l=a0l (fun y=>decide (x=y)) (l.drop (i+1)) (i+1)):=fun b hb=>by
      refine ⟨fun c=>?_,fun c=>?_⟩
      · rw [k2,if_pos (decide_eq_true (hb.1 c))]
      · rw [k2,if_neg (fun h9=>by rw [hb.2 (of_decide_eq_true h9)] at c; cases c)]
    refine ⟨by omega,fun _=>⟨fun c=>?_,fun c=>⟨by omega,fun _=>ih (i+1) ⟨by omega,?_⟩ (by omega)⟩⟩⟩
    · exact (key true ⟨fun _=>c,fun _=>rfl⟩).1 rfl
    · exact (key false ⟨fun h9=>(by cases h9),fun h9=>(c h9).elim⟩).2 rfl
  · rw [List.drop_eq_nil_of_le (by omega)] at k2
    show (((-1:Int),()):Int×Unit)=(idxOf (fun y=>decide (x=y)) l,())
    rw [k2]; rfl
def b34:w9:={ ps:=[.v (.d0 false i5),.v i5],rs:=[.bool],pre:=fun _=>True,fn:=fun x=>(decide ((show Int from x.2.1)∈(show List (Int) from x.1)),()),out:=fun _=>() }
noncomputable def b4M:Env:={ P:=Try.prog,tt:=tt,F2:=[(152,b2D)],res:=[Go.ResultVar.tmp 4],rs:=[Ty.bool],ps:=[PK.v (Ty.d0 false i5),PK.v i5],D8:=[],nt:=9 }
theorem b18:B6 b4M:=D0 w5 ⟨a7X,trivial⟩
theorem b1O:E3 b4M Try.f48:=⟨rfl,rfl⟩
theorem c2D (x0:List Int) (x1:Int):exec b4M 1000 [.code (d8 Try.prog 48)] (A5 b34.ps ((x0,x1,()))) =
  .e8 (True) (.ret ((decide ((0:Int)≤idxOf (fun y=>decide (x1=y)) x0),()))):=by kernel_rfl
theorem b33:b34.Valid Try.prog 48:=by
  refine w9.u7 b18 rfl rfl Try.func48 (c:=d8 Try.prog 48) rfl rfl b1O rfl ?_
  rintro ⟨(l:List (Int)),(x:Int),⟨⟩⟩ - -
  refine n7 (n:=1000) b18 b1O ?_
  refine g9 (c2D l x) ?_
  refine ⟨trivial,fun _=>?_⟩
  show ((decide (0≤idxOf (fun y=>decide (x=y)) l),()):Bool×Unit)=(decide (x∈l),())
  rw [b0A]
  have:l.any (fun y=>decide (x=y))=true↔x∈l:=by
    rw [List.any_eq_true]
    exact ⟨fun ⟨y,h1,h2⟩=>by rw [of_decide_eq_true h2]; exact h1,fun h=>⟨x,h,decide_eq_true rfl⟩⟩
  cases e:l.any (fun y=>decide (x=y)) with
  | true=>rw [decide_eq_true (this.1 e)]
  | false=>rw [decide_eq_false (fun h=>by rw [this.2 h] at e; cases e)]
end Go.Proofs.Ytekbamiaenbhjaa
