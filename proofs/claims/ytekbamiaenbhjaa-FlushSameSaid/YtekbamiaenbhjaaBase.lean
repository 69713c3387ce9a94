/- Small contracts: Rest, few, equality and search in lists of numbers; what deleting leaves. No condition but those named. -/
import Derived.Test.YtekbamiaenbhjaaUtil
namespace Go.Proofs.Ytekbamiaenbhjaa
open Go.Ex
set_option maxRecDepth 100000
def inF (n a b:Int):Bool:=decide (a≤n) && decide (n≤b)
theorem b2i {n a b:Int}:inF n a b=true↔a≤n∧n≤b:=by simp [inF]
def H2 (f:Nat→Int):Nat→Int
  | 0=>0
  | k+1=>if H2 f k≠0 then H2 f k else f k
theorem a2V {f:Nat→Int} {k:Nat} (h0:H2 f k=0) (h1:f k≠0):∀ {n:Nat},k<n→H2 f n=f k
  | 0,h=>by omega
  | n+1,h=>by
    by_cases e:k=n
    · subst e; simp [H2,h0]
    · have:=a2V h0 h1 (n:=n) (by omega)
      simp [H2,this,h1]
theorem a2W {f:Nat→Int} {k:Nat} (h0:H2 f k=0) (h1:f k=0):H2 f (k+1)=0:=by simp [H2,h0,h1]
theorem P8 {f:Nat→Int}:∀ {n:Nat},H2 f n=0↔∀ k,k<n→f k=0
  | 0=>by simp [H2]
  | n+1=>by
    constructor
    · intro h k hk
      have h2:H2 f n=0:=by
        by_cases e:H2 f n=0
        · exact e
        · rw [H2,if_pos e] at h; exact absurd h e
      by_cases e:k=n
      · subst e; simpa [H2,h2] using h
      · exact P8.1 h2 k (by omega)
    · intro h
      exact a2W (P8.2 (fun k hk=>h k (by omega))) (h n (by omega))
def b5W:D4:={ ps:=[.v (.d0 false J3),.v (.d0 false J3)],rs:=[.bool],pre:=fun _=>True,fn:=fun x=>(decide ((show List (Int) from x.1)=(show List (Int) from x.2.1)),()),out:=fun _=>() }
noncomputable def b35:Env:={ P:=Try.prog,tt:=tt,G8:=[],res:=[Go.ResultVar.tmp 4],rs:=[Ty.bool],ps:=[PK.v (Ty.d0 false (Ty.int IntKind.i64)),PK.v (Ty.d0 false (Ty.int IntKind.i64))],J6:=[(4,[(0,none),(1,none),(12,none),(13,none)])],nt:=26 }
theorem a73:H8 b35:=L9 w7 trivial
theorem a71:L7 b35 Try.f19:=⟨rfl,rfl⟩
theorem b7Y (x0:List Int) (x1:List Int):exec b35 1000 [.code (g9 Try.prog 19)] (G9 b5W.ps ((x0,x1,()))) =
  cond (decide ((↑(List.length x0):Int)≠(↑(List.length x1):Int))) (.ret ((false,()))) (.cut (j8 (g9 Try.prog 19) 4).1 (j8 (g9 Try.prog 19) 4).2 (St.mk [(0,AV.val (Ty.d0 false (Ty.int IntKind.i64)) x0),(1,AV.val (Ty.d0 false (Ty.int IntKind.i64)) x1),(12,AV.val (Ty.int IntKind.i64) (↑(List.length x0):Int)),(13,AV.val (Ty.int IntKind.i64) (0:Int))] [])):=by kernel_rfl
def b2D (v0:List Int) (v1:List Int) (v12:Int) (v13:Int):St:=St.mk [(0,AV.val (Ty.d0 false (Ty.int IntKind.i64)) v0),(1,AV.val (Ty.d0 false (Ty.int IntKind.i64)) v1),(12,AV.val (Ty.int IntKind.i64) v12),(13,AV.val (Ty.int IntKind.i64) v13)] []
theorem b7p (v0:List Int) (v1:List Int) (v12:Int) (v13:Int):exec b35 1000 (.code (j8 (g9 Try.prog 19) 4).1::.inLoop (j8 (g9 Try.prog 19) 4).1::(j8 (g9 Try.prog 19) 4).2) (b2D v0 v1 v12 v13) =
  cond (decide (v13<v12)) (.n8 ((0:Int)≤v13∧v13<(↑(List.length v0):Int)) (.n8 ((0:Int)≤v13∧v13<(↑(List.length v1):Int)) (cond (decide (List.getD v0 (Int.toNat v13) (0:Int)≠List.getD v1 (Int.toNat v13) (0:Int))) (.ret ((false,()))) (.n8 (A4 IntKind.i64 (v13+(1:Int))) (.cut (j8 (g9 Try.prog 19) 4).1 (j8 (g9 Try.prog 19) 4).2 (St.mk [(0,AV.val (Ty.d0 false (Ty.int IntKind.i64)) v0),(1,AV.val (Ty.d0 false (Ty.int IntKind.i64)) v1),(12,AV.val (Ty.int IntKind.i64) v12),(13,AV.val (Ty.int IntKind.i64) (v13+(1:Int)))] [])))))) (.ret ((true,()))):=by kernel_rfl
theorem b3w:b5W.Valid Try.prog 19:=by
  refine D4.F1 a73 rfl rfl Try.func19 (c:=g9 Try.prog 19) rfl rfl a71 rfl ?_
  rintro ⟨(l:List (Int)),(m:List (Int)),⟨⟩⟩ - ⟨⟨hl,-⟩,-⟩
  have hl:l.length≤9223372036854775807:=hl
  refine r8 (n:=1000) a73 a71 ?_
  refine s5 (b7Y l m) ?_
  have fin:∀ {b:Bool},(b=true↔l=m)→((b,()):Bool×Unit)=(decide (l=m),()):=fun {b} h=>by
    cases b with
    | true=>rw [decide_eq_true (h.1 rfl)]
    | false=>rw [decide_eq_false (fun e=>by cases h.2 e)]
  simp only [x6,Tree.holds,true_and,true_implies,decide_eq_true_eq,decide_eq_false_iff_not,Bool.not_eq_true',Bool.not_eq_false',Int.toNat_natCast,F8,List.length_set,List.length_cons,List.length_nil]
  refine ⟨fun c=>fin ⟨fun h=>(by cases h),fun h=>absurd (congrArg (fun q:List (Int)=>(q.length:Int)) h) c⟩,fun c=>?_⟩
  refine Reach.Z9 a73 a71 (fun i:Nat=>b2D l m (l.length:Int) (i:Int)) (fun i=>i≤l.length∧∀ j,j<i→l.getD j 0=m.getD j 0)
    (fun i=>l.length - i) 1000 (fun _=>⟨A3 rfl,A3 rfl⟩) ?_ 0 ⟨Nat.zero_le _,fun j hj=>by omega⟩
  rintro i ⟨k1,k2⟩ - ih
  refine s5 (b7p ..) ?_
  have c:l.length=m.length:=by omega
  simp only [x6,Tree.holds,true_and,true_implies,decide_eq_true_eq,decide_eq_false_iff_not,Bool.not_eq_true',Bool.not_eq_false',Int.toNat_natCast,F8,List.length_set,List.length_cons,List.length_nil]
  refine ⟨fun d1=>⟨by omega,fun _=>⟨by omega,fun _=>⟨fun d2=>fin ⟨fun h=>(by cases h),fun h=>absurd (congrArg (fun q:List (Int)=>q.getD i 0) h) (d2)⟩,fun d2=>⟨by omega,fun _=>ih (i+1) ⟨by omega,fun j hj=>?_⟩ (by omega)⟩⟩⟩⟩,fun d1=>fin ⟨fun _=>eq_of_getD c (fun j hj=>k2 j (by omega)),fun _=>rfl⟩⟩
  rcases Nat.lt_or_ge j i with h|h
  · exact k2 j h
  · obtain rfl:j=i:=by omega
    exact Decidable.not_not.1 d2
def b3s:D4:={ ps:=[.v (.d0 false J3),.v J3],rs:=[J3],pre:=fun _=>True,fn:=fun x=>(idxOf (fun y=>decide ((show Int from x.2.1)=y)) x.1,()),out:=fun _=>() }
noncomputable def a9h:Env:={ P:=Try.prog,tt:=tt,G8:=[],res:=[Go.ResultVar.tmp 4],rs:=[Ty.int IntKind.i64],ps:=[PK.v (Ty.d0 false (Ty.int IntKind.i64)),PK.v (Ty.int IntKind.i64)],J6:=[(2,[(0,none),(1,none),(7,none),(8,none)])],nt:=19 }
theorem a6A:H8 a9h:=L9 w7 trivial
theorem a6y:L7 a9h Try.f152:=⟨rfl,rfl⟩
theorem b7l (x0:List Int) (x1:Int):exec a9h 1000 [.code (g9 Try.prog 152)] (G9 b3s.ps ((x0,x1,()))) =
  .cut (j8 (g9 Try.prog 152) 2).1 (j8 (g9 Try.prog 152) 2).2 (St.mk [(0,AV.val (Ty.d0 false (Ty.int IntKind.i64)) x0),(1,AV.val (Ty.int IntKind.i64) x1),(7,AV.val (Ty.int IntKind.i64) (↑(List.length x0):Int)),(8,AV.val (Ty.int IntKind.i64) (0:Int))] []):=by kernel_rfl
def b0D (v0:List Int) (v1:Int) (v7:Int) (v8:Int):St:=St.mk [(0,AV.val (Ty.d0 false (Ty.int IntKind.i64)) v0),(1,AV.val (Ty.int IntKind.i64) v1),(7,AV.val (Ty.int IntKind.i64) v7),(8,AV.val (Ty.int IntKind.i64) v8)] []
theorem b59 (v0:List Int) (v1:Int) (v7:Int) (v8:Int):exec a9h 1000 (.code (j8 (g9 Try.prog 152) 2).1::.inLoop (j8 (g9 Try.prog 152) 2).1::(j8 (g9 Try.prog 152) 2).2) (b0D v0 v1 v7 v8) =
  cond (decide (v8<v7)) (.n8 ((0:Int)≤v8∧v8<(↑(List.length v0):Int)) (cond (decide (v1=List.getD v0 (Int.toNat v8) (0:Int))) (.ret ((v8,()))) (.n8 (A4 IntKind.i64 (v8+(1:Int))) (.cut (j8 (g9 Try.prog 152) 2).1 (j8 (g9 Try.prog 152) 2).2 (St.mk [(0,AV.val (Ty.d0 false (Ty.int IntKind.i64)) v0),(1,AV.val (Ty.int IntKind.i64) v1),(7,AV.val (Ty.int IntKind.i64) v7),(8,AV.val (Ty.int IntKind.i64) (v8+(1:Int)))] []))))) (.ret (((-1:Int),()))):=by kernel_rfl
theorem b1u:b3s.Valid Try.prog 152:=by
  refine D4.F1 a6A rfl rfl Try.func152 (c:=g9 Try.prog 152) rfl rfl a6y rfl ?_
  rintro ⟨(l:List (Int)),(x:Int),⟨⟩⟩ - ⟨⟨hl,-⟩,-⟩
  have hl:l.length≤9223372036854775807:=hl
  refine r8 (n:=1000) a6A a6y ?_
  refine s5 (b7l l x) ?_
  refine Reach.Z9 a6A a6y (fun i:Nat=>b0D l x (l.length:Int) (i:Int) ) (fun i=>i≤l.length∧idxOf (fun y=>decide (x=y)) l=a2H (fun y=>decide (x=y)) (l.drop i) i)
    (fun i=>l.length - i) 1000 (fun _=>⟨A3 rfl,A3 rfl⟩) ?_ 0 ⟨by omega,rfl⟩
  rintro i ⟨k1,k2⟩ - ih
  refine s5 (b59 ..) ?_
  simp only [x6,Tree.holds,true_and,true_implies,decide_eq_true_eq,decide_eq_false_iff_not,Bool.not_eq_true',Bool.not_eq_false',Int.toNat_natCast,F8,List.length_set,List.length_cons,List.length_nil]
  refine ⟨fun h=>?_,fun h=>?_⟩
  · rw [b4U (show i<l.length by omega) 0,a2H] at k2
    have key:∀ b:Bool,(b=true↔x=l.getD i 0)→(b=true→(((i:Int),()):Int×Unit)=(idxOf (fun y=>decide (x=y)) l,()))∧(b=false→idxOf (fun y=>decide (x=y)) l=a2H (fun y=>decide (x=y)) (l.drop (i+1)) (i+1)):=fun b hb=>by
      refine ⟨fun c=>?_,fun c=>?_⟩
      · rw [k2,if_pos (decide_eq_true (hb.1 c))]
      · rw [k2,if_neg (fun h9=>by rw [hb.2 (of_decide_eq_true h9)] at c; cases c)]
    refine ⟨by omega,fun _=>⟨fun c=>?_,fun c=>⟨by omega,fun _=>ih (i+1) ⟨by omega,?_⟩ (by omega)⟩⟩⟩
    · exact (key true ⟨fun _=>c,fun _=>rfl⟩).1 rfl
    · exact (key false ⟨fun h9=>(by cases h9),fun h9=>(c h9).elim⟩).2 rfl
  · rw [List.drop_eq_nil_of_le (by omega)] at k2
    show (((-1:Int),()):Int×Unit)=(idxOf (fun y=>decide (x=y)) l,())
    rw [k2]; rfl
def a4S:D4:={ ps:=[.v (.d0 false J3),.v J3],rs:=[.bool],pre:=fun _=>True,fn:=fun x=>(decide ((show Int from x.2.1)∈(show List (Int) from x.1)),()),out:=fun _=>() }
noncomputable def b0O:Env:={ P:=Try.prog,tt:=tt,G8:=[(152,b3s)],res:=[Go.ResultVar.tmp 4],rs:=[Ty.bool],ps:=[PK.v (Ty.d0 false (Ty.int IntKind.i64)),PK.v (Ty.int IntKind.i64)],J6:=[],nt:=9 }
theorem a8O:H8 b0O:=L9 w7 ⟨b1u,trivial⟩
theorem a8J:L7 b0O Try.f48:=⟨rfl,rfl⟩
theorem b6e (x0:List Int) (x1:Int):exec b0O 1000 [.code (g9 Try.prog 48)] (G9 a4S.ps ((x0,x1,()))) =
  .n8 (True) (.ret ((decide ((0:Int)≤idxOf (fun y=>decide (x1=y)) x0),()))):=by kernel_rfl
theorem a2o:a4S.Valid Try.prog 48:=by
  refine D4.F1 a8O rfl rfl Try.func48 (c:=g9 Try.prog 48) rfl rfl a8J rfl ?_
  rintro ⟨(l:List (Int)),(x:Int),⟨⟩⟩ - -
  refine r8 (n:=1000) a8O a8J ?_
  refine s5 (b6e l x) ?_
  refine ⟨trivial,fun _=>?_⟩
  show ((decide (0≤idxOf (fun y=>decide (x=y)) l),()):Bool×Unit)=(decide (x∈l),())
  rw [b65]
  have:l.any (fun y=>decide (x=y))=true↔x∈l:=by
    rw [List.any_eq_true]
    exact ⟨fun ⟨y,h1,h2⟩=>by rw [of_decide_eq_true h2]; exact h1,fun h=>⟨x,h,decide_eq_true rfl⟩⟩
  cases e:l.any (fun y=>decide (x=y)) with
  | true=>rw [decide_eq_true (this.1 e)]
  | false=>rw [decide_eq_false (fun h=>by rw [this.2 h] at e; cases e)]
theorem b73:Ty.wb J3=8:=rfl
def b3z:D4:={ ps:=[.v (.d0 false J3)],rs:=[.d0 true J3],pre:=fun x=>List.length (α:=Int) x.1≤1048576,fn:=fun x=>x,out:=fun _=>() }
noncomputable def b6h:Env:={ P:=Try.prog,tt:=tt,G8:=[],res:=[Go.ResultVar.tmp 2],rs:=[Ty.d0 true (Ty.int IntKind.i64)],ps:=[PK.v (Ty.d0 false (Ty.int IntKind.i64))],J6:=[],nt:=8 }
theorem b2E:H8 b6h:=L9 w7 trivial
theorem b2B:L7 b6h Try.f78:=⟨rfl,rfl⟩
theorem b7Z (x0:List Int):exec b6h 1000 [.code (g9 Try.prog 78)] (G9 b3z.ps ((x0,()))) =
  .both (x0=[]) (.ret (([],()))) (.n8 ((0:Nat)+List.length x0≤140737488355328∧((0:Nat)+List.length x0)*Ty.wb (Ty.int IntKind.i64)≤140737488355328) (.ret (([]++x0,())))):=by kernel_rfl
theorem a7h:b3z.Valid Try.prog 78:=by
  refine D4.F1 b2E rfl rfl Try.func78 (c:=g9 Try.prog 78) rfl rfl b2B rfl ?_
  rintro ⟨(l:List (Int)),⟨⟩⟩ hp -
  have hp:l.length≤1048576:=hp
  refine r8 (n:=1000) b2E b2B ?_
  refine s5 (b7Z l) ?_
  simp only [x6,Tree.holds,true_and,true_implies,decide_eq_true_eq,decide_eq_false_iff_not,Bool.not_eq_true',Bool.not_eq_false',Int.toNat_natCast,F8,List.length_set,List.length_cons,List.length_nil,b73]
  refine ⟨fun h=>?_,by omega,fun _=>rfl⟩
  show (([],()):List (Int)×Unit)=(l,())
  rw [show l=[] from h]
end Go.Proofs.Ytekbamiaenbhjaa
