/- Small contracts: Rest, few, equality and search in lists of numbers; what deleting leaves. No condition but those named. -/
import Derived.Test.YtekbamiaenbhjaaUtil
namespace Go.Proofs.Ytekbamiaenbhjaa
open Go.Ex
set_option maxRecDepth 100000
def inF (n a b:Int):Bool:=decide (a≤n) && decide (n≤b)
theorem a3E {n a b:Int}:inF n a b=true↔a≤n∧n≤b:=by simp [inF]
def b7p:D7:={ ps:=[.v (.d0 false C8),.v (.d0 false C8)],rs:=[.bool],pre:=fun _=>True,fn:=fun x=>(decide ((show List (Int) from x.1)=(show List (Int) from x.2.1)),()),out:=fun _=>() }
noncomputable def b4V:Env:={ P:=Try.prog,tt:=tt,H8:=[],res:=[Go.ResultVar.tmp 4],rs:=[Ty.bool],ps:=[PK.v (Ty.d0 false (Ty.int IntKind.i64)),PK.v (Ty.d0 false (Ty.int IntKind.i64))],K0:=[(4,[(0,none),(1,none),(12,none),(13,none)])],nt:=26 }
theorem a8L:I6 b4V:=L6 y7 trivial
theorem a8J:M3 b4V Try.f19:=⟨rfl,rfl⟩
theorem b9K (x0:List Int) (x1:List Int):exec b4V 1000 [.code (d9 Try.prog 19)] (H7 b7p.ps ((x0,x1,()))) =
  cond (decide ((↑(List.length x0):Int)≠(↑(List.length x1):Int))) (.ret ((false,()))) (.cut (e8 (d9 Try.prog 19) 4).1 (e8 (d9 Try.prog 19) 4).2 (St.mk [(0,AV.val (Ty.d0 false (Ty.int IntKind.i64)) x0),(1,AV.val (Ty.d0 false (Ty.int IntKind.i64)) x1),(12,AV.val (Ty.int IntKind.i64) (↑(List.length x0):Int)),(13,AV.val (Ty.int IntKind.i64) (0:Int))] [])):=by kernel_rfl
def b3q (v0:List Int) (v1:List Int) (v12:Int) (v13:Int):St:=St.mk [(0,AV.val (Ty.d0 false (Ty.int IntKind.i64)) v0),(1,AV.val (Ty.d0 false (Ty.int IntKind.i64)) v1),(12,AV.val (Ty.int IntKind.i64) v12),(13,AV.val (Ty.int IntKind.i64) v13)] []
theorem b85 (v0:List Int) (v1:List Int) (v12:Int) (v13:Int):exec b4V 1000 (.code (e8 (d9 Try.prog 19) 4).1::.inLoop (e8 (d9 Try.prog 19) 4).1::(e8 (d9 Try.prog 19) 4).2) (b3q v0 v1 v12 v13) =
  cond (decide (v13<v12)) (.i5 ((0:Int)≤v13∧v13<(↑(List.length v0):Int)) (.i5 ((0:Int)≤v13∧v13<(↑(List.length v1):Int)) (cond (decide (List.getD v0 (Int.toNat v13) (0:Int)≠List.getD v1 (Int.toNat v13) (0:Int))) (.ret ((false,()))) (.i5 (v5 IntKind.i64 (v13+(1:Int))) (.cut (e8 (d9 Try.prog 19) 4).1 (e8 (d9 Try.prog 19) 4).2 (St.mk [(0,AV.val (Ty.d0 false (Ty.int IntKind.i64)) v0),(1,AV.val (Ty.d0 false (Ty.int IntKind.i64)) v1),(12,AV.val (Ty.int IntKind.i64) v12),(13,AV.val (Ty.int IntKind.i64) (v13+(1:Int)))] [])))))) (.ret ((true,()))):=by kernel_rfl
theorem b4p:b7p.Valid Try.prog 19:=by
  refine D7.E6 a8L rfl rfl Try.func19 (c:=d9 Try.prog 19) rfl rfl a8J rfl ?_
  rintro ⟨(l:List (Int)),(m:List (Int)),⟨⟩⟩ - ⟨⟨hl,-⟩,-⟩
  have hl:l.length≤9223372036854775807:=hl
  refine s4 (n:=1000) a8L a8J ?_
  refine n9 (b9K l m) ?_
  have fin:∀ {b:Bool},(b=true↔l=m)→((b,()):Bool×Unit)=(decide (l=m),()):=fun {b} h=>by
    cases b with
    | true=>rw [decide_eq_true (h.1 rfl)]
    | false=>rw [decide_eq_false (fun e=>by cases h.2 e)]
  simp only [q8,Tree.holds,true_and,true_implies,decide_eq_true_eq,decide_eq_false_iff_not,Bool.not_eq_true',Bool.not_eq_false',Int.toNat_natCast,w7,List.length_set,List.length_cons,List.length_nil]
  refine ⟨fun c=>fin ⟨fun h=>(by cases h),fun h=>absurd (congrArg (fun q:List (Int)=>(q.length:Int)) h) c⟩,fun c=>?_⟩
  refine Reach.K1 a8L a8J (fun i:Nat=>b3q l m (l.length:Int) (i:Int)) (fun i=>i≤l.length∧∀ j,j<i→l.getD j 0=m.getD j 0)
    (fun i=>l.length - i) 1000 (fun _=>⟨s6 rfl,s6 rfl⟩) ?_ 0 ⟨Nat.zero_le _,fun j hj=>by omega⟩
  rintro i ⟨k1,k2⟩ - ih
  refine n9 (b85 ..) ?_
  have c:l.length=m.length:=by omega
  simp only [q8,Tree.holds,true_and,true_implies,decide_eq_true_eq,decide_eq_false_iff_not,Bool.not_eq_true',Bool.not_eq_false',Int.toNat_natCast,w7,List.length_set,List.length_cons,List.length_nil]
  refine ⟨fun d1=>⟨by omega,fun _=>⟨by omega,fun _=>⟨fun d2=>fin ⟨fun h=>(by cases h),fun h=>absurd (congrArg (fun q:List (Int)=>q.getD i 0) h) (d2)⟩,fun d2=>⟨by omega,fun _=>ih (i+1) ⟨by omega,fun j hj=>?_⟩ (by omega)⟩⟩⟩⟩,fun d1=>fin ⟨fun _=>eq_of_getD c (fun j hj=>k2 j (by omega)),fun _=>rfl⟩⟩
  rcases Nat.lt_or_ge j i with h|h
  · exact k2 j h
  · obtain rfl:j=i:=by omega
    exact Decidable.not_not.1 d2
def b4o:D7:={ ps:=[.v (.d0 false C8),.v C8],rs:=[C8],pre:=fun _=>True,fn:=fun x=>(idxOf (fun y=>decide ((show Int from x.2.1)=y)) x.1,()),out:=fun _=>() }
noncomputable def a9Z:Env:={ P:=Try.prog,tt:=tt,H8:=[],res:=[Go.ResultVar.tmp 4],rs:=[Ty.int IntKind.i64],ps:=[PK.v (Ty.d0 false (Ty.int IntKind.i64)),PK.v (Ty.int IntKind.i64)],K0:=[(2,[(0,none),(1,none),(7,none),(8,none)])],nt:=19 }
theorem a7k:I6 a9Z:=L6 y7 trivial
theorem a7d:M3 a9Z Try.f152:=⟨rfl,rfl⟩
theorem b84 (x0:List Int) (x1:Int):exec a9Z 1000 [.code (d9 Try.prog 152)] (H7 b4o.ps ((x0,x1,()))) =
  .cut (e8 (d9 Try.prog 152) 2).1 (e8 (d9 Try.prog 152) 2).2 (St.mk [(0,AV.val (Ty.d0 false (Ty.int IntKind.i64)) x0),(1,AV.val (Ty.int IntKind.i64) x1),(7,AV.val (Ty.int IntKind.i64) (↑(List.length x0):Int)),(8,AV.val (Ty.int IntKind.i64) (0:Int))] []):=by kernel_rfl
def b1I (v0:List Int) (v1:Int) (v7:Int) (v8:Int):St:=St.mk [(0,AV.val (Ty.d0 false (Ty.int IntKind.i64)) v0),(1,AV.val (Ty.int IntKind.i64) v1),(7,AV.val (Ty.int IntKind.i64) v7),(8,AV.val (Ty.int IntKind.i64) v8)] []
theorem b7P (v0:List Int) (v1:Int) (v7:Int) (v8:Int):exec a9Z 1000 (.code (e8 (d9 Try.prog 152) 2).1::.inLoop (e8 (d9 Try.prog 152) 2).1::(e8 (d9 Try.prog 152) 2).2) (b1I v0 v1 v7 v8) =
  cond (decide (v8<v7)) (.i5 ((0:Int)≤v8∧v8<(↑(List.length v0):Int)) (cond (decide (v1=List.getD v0 (Int.toNat v8) (0:Int))) (.ret ((v8,()))) (.i5 (v5 IntKind.i64 (v8+(1:Int))) (.cut (e8 (d9 Try.prog 152) 2).1 (e8 (d9 Try.prog 152) 2).2 (St.mk [(0,AV.val (Ty.d0 false (Ty.int IntKind.i64)) v0),(1,AV.val (Ty.int IntKind.i64) v1),(7,AV.val (Ty.int IntKind.i64) v7),(8,AV.val (Ty.int IntKind.i64) (v8+(1:Int)))] []))))) (.ret (((-1:Int),()))):=by kernel_rfl
theorem b2n:b4o.Valid Try.prog 152:=by
  refine D7.E6 a7k rfl rfl Try.func152 (c:=d9 Try.prog 152) rfl rfl a7d rfl ?_
  rintro ⟨(l:List (Int)),(x:Int),⟨⟩⟩ - ⟨⟨hl,-⟩,-⟩
  have hl:l.length≤9223372036854775807:=hl
  refine s4 (n:=1000) a7k a7d ?_
  refine n9 (b84 l x) ?_
  refine Reach.K1 a7k a7d (fun i:Nat=>b1I l x (l.length:Int) (i:Int) ) (fun i=>i≤l.length∧idxOf (fun y=>decide (x=y)) l=a1H (fun y=>decide (x=y)) (l.drop i) i)
    (fun i=>l.length - i) 1000 (fun _=>⟨s6 rfl,s6 rfl⟩) ?_ 0 ⟨by omega,rfl⟩
  rintro i ⟨k1,k2⟩ - ih
  refine n9 (b7P ..) ?_
  simp only [q8,Tree.holds,true_and,true_implies,decide_eq_true_eq,decide_eq_false_iff_not,Bool.not_eq_true',Bool.not_eq_false',Int.toNat_natCast,w7,List.length_set,List.length_cons,List.length_nil]
  refine ⟨fun h=>?_,fun h=>?_⟩
  · rw [V9 (show i<l.length by omega) 0,a1H] at k2
    have key:∀ b:Bool,(b=true↔x=l.getD i 0)→(b=true→(((i:Int),()):Int×Unit)=(idxOf (fun y=>decide (x=y)) l,()))∧(b=false→idxOf (fun y=>decide (x=y)) l=a1H (fun y=>decide (x=y)) (l.drop (i+1)) (i+1)):=fun b hb=>by
      refine ⟨fun c=>?_,fun c=>?_⟩
      · rw [k2,if_pos (decide_eq_true (hb.1 c))]
      · rw [k2,if_neg (fun h9=>by rw [hb.2 (of_decide_eq_true h9)] at c; cases c)]
    refine ⟨by omega,fun _=>⟨fun c=>?_,fun c=>⟨by omega,fun _=>ih (i+1) ⟨by omega,?_⟩ (by omega)⟩⟩⟩
    · exact (key true ⟨fun _=>c,fun _=>rfl⟩).1 rfl
    · exact (key false ⟨fun h9=>(by cases h9),fun h9=>(c h9).elim⟩).2 rfl
  · rw [List.drop_eq_nil_of_le (by omega)] at k2
    show (((-1:Int),()):Int×Unit)=(idxOf (fun y=>decide (x=y)) l,())
    rw [k2]; rfl
def b1b:D7:={ ps:=[.v (.d0 false C8),.v C8],rs:=[.bool],pre:=fun _=>True,fn:=fun x=>(decide ((show Int from x.2.1)∈(show List (Int) from x.1)),()),out:=fun _=>() }
noncomputable def b1K:Env:={ P:=Try.prog,tt:=tt,H8:=[(152,b4o)],res:=[Go.ResultVar.tmp 4],rs:=[Ty.bool],ps:=[PK.v (Ty.d0 false (Ty.int IntKind.i64)),PK.v (Ty.int IntKind.i64)],K0:=[],nt:=9 }
theorem a9v:I6 b1K:=L6 y7 ⟨b2n,trivial⟩
theorem a9p:M3 b1K Try.f48:=⟨rfl,rfl⟩
theorem b7R (x0:List Int) (x1:Int):exec b1K 1000 [.code (d9 Try.prog 48)] (H7 b1b.ps ((x0,x1,()))) =
  .i5 (True) (.ret ((decide ((0:Int)≤idxOf (fun y=>decide (x1=y)) x0),()))):=by kernel_rfl
theorem b1a:b1b.Valid Try.prog 48:=by
  refine D7.E6 a9v rfl rfl Try.func48 (c:=d9 Try.prog 48) rfl rfl a9p rfl ?_
  rintro ⟨(l:List (Int)),(x:Int),⟨⟩⟩ - -
  refine s4 (n:=1000) a9v a9p ?_
  refine n9 (b7R l x) ?_
  refine ⟨trivial,fun _=>?_⟩
  show ((decide (0≤idxOf (fun y=>decide (x=y)) l),()):Bool×Unit)=(decide (x∈l),())
  rw [b24]
  have:l.any (fun y=>decide (x=y))=true↔x∈l:=by
    rw [List.any_eq_true]
    exact ⟨fun ⟨y,h1,h2⟩=>by rw [of_decide_eq_true h2]; exact h1,fun h=>⟨x,h,decide_eq_true rfl⟩⟩
  cases e:l.any (fun y=>decide (x=y)) with
  | true=>rw [decide_eq_true (this.1 e)]
  | false=>rw [decide_eq_false (fun h=>by rw [this.2 h] at e; cases e)]
end Go.Proofs.Ytekbamiaenbhjaa
