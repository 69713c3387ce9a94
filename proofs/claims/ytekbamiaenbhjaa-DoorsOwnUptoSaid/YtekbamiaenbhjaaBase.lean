/- Small contracts: Rest, few, equality and search in lists of numbers; what deleting leaves. No condition but those named. -/
import Derived.Test.YtekbamiaenbhjaaUtil
namespace Go.Proofs.Ytekbamiaenbhjaa
open Go.Ex
set_option maxRecDepth 100000
def B1 (n a b:Int):Bool:=decide (a≤n) && decide (n≤b)
theorem E0 {n a b:Int}:B1 n a b=true↔a≤n∧n≤b:=by simp [B1]
def A6 (f:Nat→Int):Nat→Int
  | 0=>0
  | k+1=>if A6 f k≠0 then A6 f k else f k
theorem V3 {f:Nat→Int} {k:Nat} (h0:A6 f k=0) (h1:f k≠0):∀ {n:Nat},k<n→A6 f n=f k
  | 0,h=>by omega
  | n+1,h=>by
    by_cases e:k=n
    · subst e; simp [A6,h0]
    · have:=V3 h0 h1 (n:=n) (by omega)
      simp [A6,this,h1]
theorem V4 {f:Nat→Int} {k:Nat} (h0:A6 f k=0) (h1:f k=0):A6 f (k+1)=0:=by simp [A6,h0,h1]
theorem H4 {f:Nat→Int}:∀ {n:Nat},A6 f n=0↔∀ k,k<n→f k=0
  | 0=>by simp [A6]
  | n+1=>by
    constructor
    · intro h k hk
      have h2:A6 f n=0:=by
        by_cases e:A6 f n=0
        · exact e
        · rw [A6,if_pos e] at h; exact absurd h e
      by_cases e:k=n
      · subst e; simpa [A6,h2] using h
      · exact H4.1 h2 k (by omega)
    · intro h
      exact V4 (H4.2 (fun k hk=>h k (by omega))) (h n (by omega))
theorem a7E {α:Type} {l:List α} {i j:Int} (h0:0≤i) (h1:i≤j) (h2:j≤(l.length:Int)):s9 j (l.length:Int) l=l.drop j.toNat:=by
  rw [s9]; exact List.take_of_length_le (by rw [List.length_drop]; omega)
theorem b2K {α:Type} {l:List α} {i j:Int} (h0:0≤i) (h1:i≤j) (h2:j≤(l.length:Int)):((s9 j (l.length:Int) l).length:Int)=(l.length:Int) - j∧(List.take i.toNat l++s9 j (l.length:Int) l++List.drop (i.toNat+(s9 j (l.length:Int) l).length) l).length=l.length:=by
  rw [a7E h0 h1 h2]
  simp only [List.length_append,List.length_take,List.length_drop]
  omega
theorem b7q {α:Type} {l:List α} {d:List α} {i j:Int} (h0:0≤i) (h1:i≤j) (h2:j≤(l.length:Int)) {r:Nat} :
    s9 (0:Int) (i+(↑(List.length (s9 j (↑(List.length l):Int) l)):Int)) (List.take (Int.toNat ((0:Int)+(i+(↑(List.length (s9 j (↑(List.length l):Int) l)):Int) - (0:Int)))) (List.take (Int.toNat i) l++s9 j (↑(List.length l):Int) l++List.drop (Int.toNat i+List.length (s9 j (↑(List.length l):Int) l)) l)++d++List.drop r (List.take (Int.toNat i) l++s9 j (↑(List.length l):Int) l++List.drop (Int.toNat i+List.length (s9 j (↑(List.length l):Int) l)) l))=List.take i.toNat l++List.drop j.toNat l:=by
  obtain ⟨e1,e2⟩:=b2K h0 h1 h2 (l:=l)
  rw [a7E h0 h1 h2] at e1 e2 ⊢
  generalize hX:List.take i.toNat l++List.drop j.toNat l++List.drop (i.toNat+(List.drop j.toNat l).length) l=X at e2 ⊢
  have em:(0+(i+((List.drop j.toNat l).length:Int) - 0)).toNat=(List.take i.toNat l++List.drop j.toNat l).length:=by
    simp only [List.length_append,List.length_take]; omega
  have en:(i+((List.drop j.toNat l).length:Int) - 0).toNat=(List.take i.toNat l++List.drop j.toNat l).length:=by
    simp only [List.length_append,List.length_take]; omega
  rw [s9,em,en,Int.toNat_zero,List.drop_zero,List.append_assoc,List.take_append_of_le_length (by
    rw [List.length_take,e2]
    simp only [List.length_append,List.length_take,List.length_drop]; omega),List.take_take,Nat.min_self,← hX,List.take_left]

def b3Q:u7:={ ps:=[.v (.d0 false A7),.v (.d0 false A7)],rs:=[.bool],pre:=fun _=>True,fn:=fun x=>(decide ((show List (Int) from x.1)=(show List (Int) from x.2.1)),()),out:=fun _=>() }
noncomputable def b4k:Env:={ P:=Try.prog,tt:=tt,D0:=[],res:=[Go.ResultVar.tmp 4],rs:=[Ty.bool],ps:=[PK.v (Ty.d0 false (Ty.int IntKind.i64)),PK.v (Ty.d0 false (Ty.int IntKind.i64))],E1:=[(4,[(0,none),(1,none),(12,none),(13,none)])],nt:=26 }
theorem a71:B3 b4k:=D5 s7 trivial
theorem a7S:E9 b4k Try.f19:=⟨rfl,rfl⟩
theorem b8t (x0:List Int) (x1:List Int):exec b4k 1000 [.code (d9 Try.prog 19)] (A3 b3Q.ps ((x0,x1,()))) =
  cond (decide ((↑(List.length x0):Int)≠(↑(List.length x1):Int))) (.ret ((false,()))) (.cut (j5 (d9 Try.prog 19) 4).1 (j5 (d9 Try.prog 19) 4).2 (St.mk [(0,AV.val (Ty.d0 false (Ty.int IntKind.i64)) x0),(1,AV.val (Ty.d0 false (Ty.int IntKind.i64)) x1),(12,AV.val (Ty.int IntKind.i64) (↑(List.length x0):Int)),(13,AV.val (Ty.int IntKind.i64) (0:Int))] [])):=by kernel_rfl
def b2W (v0:List Int) (v1:List Int) (v12:Int) (v13:Int):St:=St.mk [(0,AV.val (Ty.d0 false (Ty.int IntKind.i64)) v0),(1,AV.val (Ty.d0 false (Ty.int IntKind.i64)) v1),(12,AV.val (Ty.int IntKind.i64) v12),(13,AV.val (Ty.int IntKind.i64) v13)] []
theorem b7J (v0:List Int) (v1:List Int) (v12:Int) (v13:Int):exec b4k 1000 (.code (j5 (d9 Try.prog 19) 4).1::.inLoop (j5 (d9 Try.prog 19) 4).1::(j5 (d9 Try.prog 19) 4).2) (b2W v0 v1 v12 v13) =
  cond (decide (v13<v12)) (.f9 ((0:Int)≤v13∧v13<(↑(List.length v0):Int)) (.f9 ((0:Int)≤v13∧v13<(↑(List.length v1):Int)) (cond (decide (List.getD v0 (Int.toNat v13) (0:Int)≠List.getD v1 (Int.toNat v13) (0:Int))) (.ret ((false,()))) (.f9 (w9 IntKind.i64 (v13+(1:Int))) (.cut (j5 (d9 Try.prog 19) 4).1 (j5 (d9 Try.prog 19) 4).2 (St.mk [(0,AV.val (Ty.d0 false (Ty.int IntKind.i64)) v0),(1,AV.val (Ty.d0 false (Ty.int IntKind.i64)) v1),(12,AV.val (Ty.int IntKind.i64) v12),(13,AV.val (Ty.int IntKind.i64) (v13+(1:Int)))] [])))))) (.ret ((true,()))):=by kernel_rfl
theorem a6K:b3Q.Valid Try.prog 19:=by
  refine u7.u6 a71 rfl rfl Try.func19 (c:=d9 Try.prog 19) rfl rfl a7S rfl ?_
  rintro ⟨(l:List (Int)),(m:List (Int)),⟨⟩⟩ - ⟨⟨hl,-⟩,-⟩
  have hl:l.length≤9223372036854775807:=hl
  refine o4 (n:=1000) a71 a7S ?_
  refine n6 (b8t l m) ?_
  have fin:∀ {b:Bool},(b=true↔l=m)→((b,()):Bool×Unit)=(decide (l=m),()):=fun {b} h=>by
    cases b with
    | true=>rw [decide_eq_true (h.1 rfl)]
    | false=>rw [decide_eq_false (fun e=>by cases h.2 e)]
  simp only [o7,Tree.holds,true_and,true_implies,decide_eq_true_eq,decide_eq_false_iff_not,Bool.not_eq_true',Bool.not_eq_false',Int.toNat_natCast,r9,List.length_set,List.length_cons,List.length_nil]
  refine ⟨fun c=>fin ⟨fun h=>(by cases h),fun h=>absurd (congrArg (fun q:List (Int)=>(q.length:Int)) h) c⟩,fun c=>?_⟩
  refine Reach.S5 a71 a7S (fun i:Nat=>b2W l m (l.length:Int) (i:Int)) (fun i=>i≤l.length∧∀ j,j<i→l.getD j 0=m.getD j 0)
    (fun i=>l.length - i) 1000 (fun _=>⟨x6 rfl,x6 rfl⟩) ?_ 0 ⟨Nat.zero_le _,fun j hj=>by omega⟩
  rintro i ⟨k1,k2⟩ - ih
  refine n6 (b7J ..) ?_
  have c:l.length=m.length:=by omega
  simp only [o7,Tree.holds,true_and,true_implies,decide_eq_true_eq,decide_eq_false_iff_not,Bool.not_eq_true',Bool.not_eq_false',Int.toNat_natCast,r9,List.length_set,List.length_cons,List.length_nil]
  refine ⟨fun d1=>⟨by omega,fun _=>⟨by omega,fun _=>⟨fun d2=>fin ⟨fun h=>(by cases h),fun h=>absurd (congrArg (fun q:List (Int)=>q.getD i 0) h) (d2)⟩,fun d2=>⟨by omega,fun _=>ih (i+1) ⟨by omega,fun j hj=>?_⟩ (by omega)⟩⟩⟩⟩,fun d1=>fin ⟨fun _=>eq_of_getD c (fun j hj=>k2 j (by omega)),fun _=>rfl⟩⟩
  rcases Nat.lt_or_ge j i with h|h
  · exact k2 j h
  · obtain rfl:j=i:=by omega
    exact Decidable.not_not.1 d2
def b3P:u7:={ ps:=[.v (.d0 false A7),.v A7],rs:=[A7],pre:=fun _=>True,fn:=fun x=>(idxOf (fun y=>decide ((show Int from x.2.1)=y)) x.1,()),out:=fun _=>() }
noncomputable def a9z:Env:={ P:=Try.prog,tt:=tt,D0:=[],res:=[Go.ResultVar.tmp 4],rs:=[Ty.int IntKind.i64],ps:=[PK.v (Ty.d0 false (Ty.int IntKind.i64)),PK.v (Ty.int IntKind.i64)],E1:=[(2,[(0,none),(1,none),(7,none),(8,none)])],nt:=19 }
theorem a5Y:B3 a9z:=D5 s7 trivial
theorem a5U:E9 a9z Try.f152:=⟨rfl,rfl⟩
theorem b7H (x0:List Int) (x1:Int):exec a9z 1000 [.code (d9 Try.prog 152)] (A3 b3P.ps ((x0,x1,()))) =
  .cut (j5 (d9 Try.prog 152) 2).1 (j5 (d9 Try.prog 152) 2).2 (St.mk [(0,AV.val (Ty.d0 false (Ty.int IntKind.i64)) x0),(1,AV.val (Ty.int IntKind.i64) x1),(7,AV.val (Ty.int IntKind.i64) (↑(List.length x0):Int)),(8,AV.val (Ty.int IntKind.i64) (0:Int))] []):=by kernel_rfl
def b1d (v0:List Int) (v1:Int) (v7:Int) (v8:Int):St:=St.mk [(0,AV.val (Ty.d0 false (Ty.int IntKind.i64)) v0),(1,AV.val (Ty.int IntKind.i64) v1),(7,AV.val (Ty.int IntKind.i64) v7),(8,AV.val (Ty.int IntKind.i64) v8)] []
theorem b6t (v0:List Int) (v1:Int) (v7:Int) (v8:Int):exec a9z 1000 (.code (j5 (d9 Try.prog 152) 2).1::.inLoop (j5 (d9 Try.prog 152) 2).1::(j5 (d9 Try.prog 152) 2).2) (b1d v0 v1 v7 v8) =
  cond (decide (v8<v7)) (.f9 ((0:Int)≤v8∧v8<(↑(List.length v0):Int)) (cond (decide (v1=List.getD v0 (Int.toNat v8) (0:Int))) (.ret ((v8,()))) (.f9 (w9 IntKind.i64 (v8+(1:Int))) (.cut (j5 (d9 Try.prog 152) 2).1 (j5 (d9 Try.prog 152) 2).2 (St.mk [(0,AV.val (Ty.d0 false (Ty.int IntKind.i64)) v0),(1,AV.val (Ty.int IntKind.i64) v1),(7,AV.val (Ty.int IntKind.i64) v7),(8,AV.val (Ty.int IntKind.i64) (v8+(1:Int)))] []))))) (.ret (((-1:Int),()))):=by kernel_rfl
theorem b1P:b3P.Valid Try.prog 152:=by
  refine u7.u6 a5Y rfl rfl Try.func152 (c:=d9 Try.prog 152) rfl rfl a5U rfl ?_
  rintro ⟨(l:List (Int)),(x:Int),⟨⟩⟩ - ⟨⟨hl,-⟩,-⟩
  have hl:l.length≤9223372036854775807:=hl
  refine o4 (n:=1000) a5Y a5U ?_
  refine n6 (b7H l x) ?_
  refine Reach.S5 a5Y a5U (fun i:Nat=>b1d l x (l.length:Int) (i:Int) ) (fun i=>i≤l.length∧idxOf (fun y=>decide (x=y)) l=a2t (fun y=>decide (x=y)) (l.drop i) i)
    (fun i=>l.length - i) 1000 (fun _=>⟨x6 rfl,x6 rfl⟩) ?_ 0 ⟨by omega,rfl⟩
  rintro i ⟨k1,k2⟩ - ih
  refine n6 (b6t ..) ?_
  simp only [o7,Tree.holds,true_and,true_implies,decide_eq_true_eq,decide_eq_false_iff_not,Bool.not_eq_true',Bool.not_eq_false',Int.toNat_natCast,r9,List.length_set,List.length_cons,List.length_nil]
  refine ⟨fun h=>?_,fun h=>?_⟩
  · rw [b45 (show i<l.length by omega) 0,a2t] at k2
    have key:∀ b:Bool,(b=true↔x=l.getD i 0)→(b=true→(((i:Int),()):Int×Unit)=(idxOf (fun y=>decide (x=y)) l,()))∧(b=false→idxOf (fun y=>decide (x=y)) l=a2t (fun y=>decide (x=y)) (l.drop (i+1)) (i+1)):=fun b hb=>by
      refine ⟨fun c=>?_,fun c=>?_⟩
      · rw [k2,if_pos (decide_eq_true (hb.1 c))]
      · rw [k2,if_neg (fun h9=>by rw [hb.2 (of_decide_eq_true h9)] at c; cases c)]
    refine ⟨by omega,fun _=>⟨fun c=>?_,fun c=>⟨by omega,fun _=>ih (i+1) ⟨by omega,?_⟩ (by omega)⟩⟩⟩
    · exact (key true ⟨fun _=>c,fun _=>rfl⟩).1 rfl
    · exact (key false ⟨fun h9=>(by cases h9),fun h9=>(c h9).elim⟩).2 rfl
  · rw [List.drop_eq_nil_of_le (by omega)] at k2
    show (((-1:Int),()):Int×Unit)=(idxOf (fun y=>decide (x=y)) l,())
    rw [k2]; rfl
def a6L:u7:={ ps:=[.v (.d0 false A7),.v A7],rs:=[.bool],pre:=fun _=>True,fn:=fun x=>(decide ((show Int from x.2.1)∈(show List (Int) from x.1)),()),out:=fun _=>() }
noncomputable def b1j:Env:={ P:=Try.prog,tt:=tt,D0:=[(152,b3P)],res:=[Go.ResultVar.tmp 4],rs:=[Ty.bool],ps:=[PK.v (Ty.d0 false (Ty.int IntKind.i64)),PK.v (Ty.int IntKind.i64)],E1:=[],nt:=9 }
theorem a8Y:B3 b1j:=D5 s7 ⟨b1P,trivial⟩
theorem a8P:E9 b1j Try.f48:=⟨rfl,rfl⟩
theorem b6B (x0:List Int) (x1:Int):exec b1j 1000 [.code (d9 Try.prog 48)] (A3 a6L.ps ((x0,x1,()))) =
  .f9 (True) (.ret ((decide ((0:Int)≤idxOf (fun y=>decide (x1=y)) x0),()))):=by kernel_rfl
theorem a4p:a6L.Valid Try.prog 48:=by
  refine u7.u6 a8Y rfl rfl Try.func48 (c:=d9 Try.prog 48) rfl rfl a8P rfl ?_
  rintro ⟨(l:List (Int)),(x:Int),⟨⟩⟩ - -
  refine o4 (n:=1000) a8Y a8P ?_
  refine n6 (b6B l x) ?_
  refine ⟨trivial,fun _=>?_⟩
  show ((decide (0≤idxOf (fun y=>decide (x=y)) l),()):Bool×Unit)=(decide (x∈l),())
  rw [b7o]
  have:l.any (fun y=>decide (x=y))=true↔x∈l:=by
    rw [List.any_eq_true]
    exact ⟨fun ⟨y,h1,h2⟩=>by rw [of_decide_eq_true h2]; exact h1,fun h=>⟨x,h,decide_eq_true rfl⟩⟩
  cases e:l.any (fun y=>decide (x=y)) with
  | true=>rw [decide_eq_true (this.1 e)]
  | false=>rw [decide_eq_false (fun h=>by rw [this.2 h] at e; cases e)]
theorem b8A:Ty.wb A7=8:=rfl
def b6b:u7:={ ps:=[.v (.d0 false A7)],rs:=[.d0 true A7],pre:=fun x=>List.length (α:=Int) x.1≤1048576,fn:=fun x=>x,out:=fun _=>() }
noncomputable def b6C:Env:={ P:=Try.prog,tt:=tt,D0:=[],res:=[Go.ResultVar.tmp 2],rs:=[Ty.d0 true (Ty.int IntKind.i64)],ps:=[PK.v (Ty.d0 false (Ty.int IntKind.i64))],E1:=[],nt:=8 }
theorem b2Y:B3 b6C:=D5 s7 trivial
theorem b2U:E9 b6C Try.f78:=⟨rfl,rfl⟩
theorem b8v (x0:List Int):exec b6C 1000 [.code (d9 Try.prog 78)] (A3 b6b.ps ((x0,()))) =
  .both (x0=[]) (.ret (([],()))) (.f9 ((0:Nat)+List.length x0≤140737488355328∧((0:Nat)+List.length x0)*Ty.wb (Ty.int IntKind.i64)≤140737488355328) (.ret (([]++x0,())))):=by kernel_rfl
theorem b3U:b6b.Valid Try.prog 78:=by
  refine u7.u6 b2Y rfl rfl Try.func78 (c:=d9 Try.prog 78) rfl rfl b2U rfl ?_
  rintro ⟨(l:List (Int)),⟨⟩⟩ hp -
  have hp:l.length≤1048576:=hp
  refine o4 (n:=1000) b2Y b2U ?_
  refine n6 (b8v l) ?_
  simp only [o7,Tree.holds,true_and,true_implies,decide_eq_true_eq,decide_eq_false_iff_not,Bool.not_eq_true',Bool.not_eq_false',Int.toNat_natCast,r9,List.length_set,List.length_cons,List.length_nil,b8A]
  refine ⟨fun h=>?_,by omega,fun _=>rfl⟩
  show (([],()):List (Int)×Unit)=(l,())
  rw [show l=[] from h]
end Go.Proofs.Ytekbamiaenbhjaa
