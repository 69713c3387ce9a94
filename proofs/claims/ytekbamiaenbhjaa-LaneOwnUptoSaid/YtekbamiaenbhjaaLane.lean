/- The contracts of the package lane's functions. -/
import Derived.Test.YtekbamiaenbhjaaBase
namespace Go.Proofs.Ytekbamiaenbhjaa
open Go.Ex
set_option maxRecDepth 100000
abbrev n9:=Int×List UInt8×Unit
abbrev a1q:=Int×List (List UInt8)×Unit
abbrev ToD:=Int×List n9×Unit
def b1T:t5:={ ps:=[.v I8,.v I8,.v I8],rs:=[.bool],pre:=fun _=>True,fn:=fun x=>(Z7 x.1 x.2.1 x.2.2.1,()),out:=fun _=>() }
noncomputable def b9m:Env:={ P:=Try.prog,tt:=tt,C9:=[],res:=[Go.ResultVar.tmp 6],rs:=[Ty.bool],ps:=[PK.v (Ty.int IntKind.i64),PK.v (Ty.int IntKind.i64),PK.v (Ty.int IntKind.i64)],C7:=[],nt:=15 }
theorem b4R:x8 b9m:=C2 q9 trivial
theorem b4M:D3 b9m Try.f157:=⟨rfl,rfl⟩
theorem c1L (x0:Int) (x1:Int) (x2:Int):exec b9m 1000 [.code (d9 Try.prog 157)] (w7 b1T.ps ((x0,x1,x2,()))) =
  cond (decide (x1≤x0)) (.ret ((decide (x0≤x2),()))) (.ret ((false,()))):=by kernel_rfl
theorem a4j:b1T.Valid Try.prog 157:=by
  refine t5.s4 b4R rfl rfl Try.func157 (c:=d9 Try.prog 157) rfl rfl b4M rfl ?_
  rintro ⟨(a:Int),(b:Int),(c:Int),⟨⟩⟩ - -
  refine l5 (n:=1000) b4R b4M ?_
  refine j8 (c1L a b c) ?_
  simp only [p8,Tree.holds,true_and,true_implies,decide_eq_true_eq,decide_eq_false_iff_not,Bool.not_eq_true',Bool.not_eq_false',Int.toNat_natCast,u6,List.length_set,List.length_cons,List.length_nil]
  repeat' first|exact trivial|(refine And.intro ?_ ?_)|(intro _)
  all_goals (show ((_,()):Bool×Unit)=(Z7 a b c,()); simp [Z7, *])
def J0 (s:List UInt8):Bool:=decide ((200:Int)<s.length)
def a3F:t5:={ ps:=[.v .str],rs:=[.bool],pre:=fun _=>True,fn:=fun x=>(J0 x.1,()),out:=fun _=>() }
noncomputable def b2W:Env:={ P:=Try.prog,tt:=tt,C9:=[],res:=[Go.ResultVar.tmp 2],rs:=[Ty.bool],ps:=[PK.v Ty.str],C7:=[],nt:=6 }
theorem b0l:x8 b2W:=C2 q9 trivial
theorem b0d:D3 b2W Try.f155:=⟨rfl,rfl⟩
theorem b9l (x0:List UInt8):exec b2W 1000 [.code (d9 Try.prog 155)] (w7 a3F.ps ((x0,()))) =
  .ret ((decide ((200:Int)<(↑(List.length x0):Int)),())):=by kernel_rfl
theorem a1k:a3F.Valid Try.prog 155:=by
  refine t5.s4 b0l rfl rfl Try.func155 (c:=d9 Try.prog 155) rfl rfl b0d rfl ?_
  rintro ⟨(s:List UInt8),⟨⟩⟩ - -
  refine l5 (n:=1000) b0l b0d ?_
  refine j8 (b9l s) ?_
  rfl
def b5O:t5:={ ps:=[.v (.d0 false .str),.r9 155 []],rs:=[I8],pre:=fun x=>True,fn:=fun x=>(idxOf (J0) x.1,()),out:=fun _=>() }
noncomputable def b0W:Env:={ P:=Try.prog,tt:=tt,C9:=[(155,a3F)],res:=[Go.ResultVar.tmp 4],rs:=[Ty.int IntKind.i64],ps:=[PK.v (Ty.d0 false Ty.str),PK.r9 155 []],C7:=[(2,[(0,none),(1,none),(7,none),(8,none)])],nt:=19 }
theorem a7d:x8 b0W:=C2 q9 ⟨a1k,trivial⟩
theorem a7a:D3 b0W Try.f290:=⟨rfl,rfl⟩
theorem c0S (x0:List (List UInt8)):exec b0W 1000 [.code (d9 Try.prog 290)] (w7 b5O.ps ((x0,(),()))) =
  .cut (j7 (d9 Try.prog 290) 2).1 (j7 (d9 Try.prog 290) 2).2 (St.mk [(0,AV.val (Ty.d0 false Ty.str) x0),(1,AV.r9 155 AV.nil),(7,AV.val (Ty.int IntKind.i64) (↑(List.length x0):Int)),(8,AV.val (Ty.int IntKind.i64) (0:Int))] []):=by kernel_rfl
def b2Z (v0:List (List UInt8)) (v7:Int) (v8:Int):St:=St.mk [(0,AV.val (Ty.d0 false Ty.str) v0),(1,AV.r9 155 AV.nil),(7,AV.val (Ty.int IntKind.i64) v7),(8,AV.val (Ty.int IntKind.i64) v8)] []
theorem b9n (v0:List (List UInt8)) (v7:Int) (v8:Int):exec b0W 1000 (.code (j7 (d9 Try.prog 290) 2).1::.inLoop (j7 (d9 Try.prog 290) 2).1::(j7 (d9 Try.prog 290) 2).2) (b2Z v0 v7 v8) =
  cond (decide (v8<v7)) (.f9 ((0:Int)≤v8∧v8<(↑(List.length v0):Int)) (.f9 (True) (cond (J0 (List.getD v0 (Int.toNat v8) [])) (.ret ((v8,()))) (.f9 (C1 IntKind.i64 (v8+(1:Int))) (.cut (j7 (d9 Try.prog 290) 2).1 (j7 (d9 Try.prog 290) 2).2 (St.mk [(0,AV.val (Ty.d0 false Ty.str) v0),(1,AV.r9 155 AV.nil),(7,AV.val (Ty.int IntKind.i64) v7),(8,AV.val (Ty.int IntKind.i64) (v8+(1:Int)))] [])))))) (.ret (((-1:Int),()))):=by kernel_rfl
theorem b3G:b5O.Valid Try.prog 290:=by
  refine t5.s4 a7d rfl rfl Try.func290 (c:=d9 Try.prog 290) rfl rfl a7a rfl ?_
  rintro ⟨(l:List (List UInt8)),⟨⟩,⟨⟩⟩ - ⟨⟨hl,-⟩,-⟩
  have hl:l.length≤9223372036854775807:=hl
  refine l5 (n:=1000) a7d a7a ?_
  refine j8 (c0S l ) ?_
  refine Reach.V1 a7d a7a (fun i:Nat=>b2Z l  (l.length:Int) (i:Int)) (fun i=>i≤l.length∧idxOf (J0) l=K6 (J0) (l.drop i) i)
    (fun i=>l.length - i) 1000 (fun _=>⟨x7 rfl,x7 rfl⟩) ?_ 0 ⟨by omega,rfl⟩
  rintro i ⟨k1,k2⟩ - ih
  refine j8 (b9n ..) ?_
  simp only [p8,Tree.holds,true_and,true_implies,decide_eq_true_eq,decide_eq_false_iff_not,Bool.not_eq_true',Bool.not_eq_false',Int.toNat_natCast,u6,List.length_set,List.length_cons,List.length_nil]
  refine ⟨fun h=>?_,fun h=>?_⟩
  · rw [X9 (show i<l.length by omega) [],K6] at k2
    refine ⟨by omega,fun _=>⟨fun c=>?_,fun c=>⟨by omega,fun _=>ih (i+1) ⟨by omega,?_⟩ (by omega)⟩⟩⟩
    · show (((i:Int),()):Int×Unit)=(idxOf (J0) l,())
      rw [k2,if_pos (show (J0) (l.getD i [])=true from c)]
    · rw [k2,if_neg (show ¬ (J0) (l.getD i [])=true from fun h9=>Bool.noConfusion (Eq.trans (Eq.symm h9) c))]
  · rw [List.drop_eq_nil_of_le (by omega)] at k2
    show (((-1:Int),()):Int×Unit)=(idxOf (J0) l,())
    rw [k2]; rfl
def b2f:t5:={ ps:=[.v (.d0 false .str),.r9 155 []],rs:=[.bool],pre:=fun x=>True,fn:=fun x=>(List.any (α:=List UInt8) x.1 (J0),()),out:=fun _=>() }
noncomputable def b23:Env:={ P:=Try.prog,tt:=tt,C9:=[(290,b5O)],res:=[Go.ResultVar.tmp 4],rs:=[Ty.bool],ps:=[PK.v (Ty.d0 false Ty.str),PK.r9 155 []],C7:=[],nt:=9 }
theorem b0t:x8 b23:=C2 q9 ⟨b3G,trivial⟩
theorem b0f:D3 b23 Try.f233:=⟨rfl,rfl⟩
theorem b9x (x0:List (List UInt8)):exec b23 1000 [.code (d9 Try.prog 233)] (w7 b2f.ps ((x0,(),()))) =
  .f9 (True) (.ret ((decide ((0:Int)≤idxOf J0 x0),()))):=by kernel_rfl
theorem b2e:b2f.Valid Try.prog 233:=by
  refine t5.s4 b0t rfl rfl Try.func233 (c:=d9 Try.prog 233) rfl rfl b0f rfl ?_
  rintro ⟨(l:List (List UInt8)),⟨⟩,⟨⟩⟩ - -
  refine l5 (n:=1000) b0t b0f ?_
  refine j8 (b9x l ) ?_
  refine ⟨trivial,fun _=>?_⟩
  show ((decide (0≤idxOf (J0) l),()):Bool×Unit)=(l.any (J0),())
  rw [a3x]
theorem c1Z:Ty.wb .str=16:=rfl
def b1Q:t5:={ ps:=[.v (.d0 false .str)],rs:=[.d0 true .str],pre:=fun x=>List.length (α:=List UInt8) x.1≤1048576,fn:=fun x=>x,out:=fun _=>() }
noncomputable def b9h:Env:={ P:=Try.prog,tt:=tt,C9:=[],res:=[Go.ResultVar.tmp 2],rs:=[Ty.d0 true Ty.str],ps:=[PK.v (Ty.d0 false Ty.str)],C7:=[],nt:=8 }
theorem b4P:x8 b9h:=C2 q9 trivial
theorem b4K:D3 b9h Try.f62:=⟨rfl,rfl⟩
theorem c1J (x0:List (List UInt8)):exec b9h 1000 [.code (d9 Try.prog 62)] (w7 b1Q.ps ((x0,()))) =
  .both (x0=[]) (.ret (([],()))) (.f9 ((0:Nat)+List.length x0≤140737488355328∧((0:Nat)+List.length x0)*Ty.wb Ty.str≤140737488355328) (.ret (([]++x0,())))):=by kernel_rfl
theorem a4h:b1Q.Valid Try.prog 62:=by
  refine t5.s4 b4P rfl rfl Try.func62 (c:=d9 Try.prog 62) rfl rfl b4K rfl ?_
  rintro ⟨(l:List (List UInt8)),⟨⟩⟩ hp -
  have hp:l.length≤1048576:=hp
  refine l5 (n:=1000) b4P b4K ?_
  refine j8 (c1J l) ?_
  simp only [p8,Tree.holds,true_and,true_implies,decide_eq_true_eq,decide_eq_false_iff_not,Bool.not_eq_true',Bool.not_eq_false',Int.toNat_natCast,u6,List.length_set,List.length_cons,List.length_nil,c1Z]
  refine ⟨fun h=>?_,by omega,fun _=>rfl⟩
  show (([],()):List (List UInt8)×Unit)=(l,())
  rw [show l=[] from h]
def b5Q:t5:={ ps:=[.v (.d0 false .str),.v (.d0 false .str)],rs:=[.bool],pre:=fun _=>True,fn:=fun x=>(decide ((show List (List UInt8) from x.1)=(show List (List UInt8) from x.2.1)),()),out:=fun _=>() }
noncomputable def b6u:Env:={ P:=Try.prog,tt:=tt,C9:=[],res:=[Go.ResultVar.tmp 4],rs:=[Ty.bool],ps:=[PK.v (Ty.d0 false Ty.str),PK.v (Ty.d0 false Ty.str)],C7:=[(4,[(0,none),(1,none),(12,none),(13,none)])],nt:=26 }
theorem a9o:x8 b6u:=C2 q9 trivial
theorem a9h:D3 b6u Try.f68:=⟨rfl,rfl⟩
theorem c1N (x0:List (List UInt8)) (x1:List (List UInt8)):exec b6u 1000 [.code (d9 Try.prog 68)] (w7 b5Q.ps ((x0,x1,()))) =
  cond (decide ((↑(List.length x0):Int)≠(↑(List.length x1):Int))) (.ret ((false,()))) (.cut (j7 (d9 Try.prog 68) 4).1 (j7 (d9 Try.prog 68) 4).2 (St.mk [(0,AV.val (Ty.d0 false Ty.str) x0),(1,AV.val (Ty.d0 false Ty.str) x1),(12,AV.val (Ty.int IntKind.i64) (↑(List.length x0):Int)),(13,AV.val (Ty.int IntKind.i64) (0:Int))] [])):=by kernel_rfl
def b4S (v0:List (List UInt8)) (v1:List (List UInt8)) (v12:Int) (v13:Int):St:=St.mk [(0,AV.val (Ty.d0 false Ty.str) v0),(1,AV.val (Ty.d0 false Ty.str) v1),(12,AV.val (Ty.int IntKind.i64) v12),(13,AV.val (Ty.int IntKind.i64) v13)] []
theorem c0U (v0:List (List UInt8)) (v1:List (List UInt8)) (v12:Int) (v13:Int):exec b6u 1000 (.code (j7 (d9 Try.prog 68) 4).1::.inLoop (j7 (d9 Try.prog 68) 4).1::(j7 (d9 Try.prog 68) 4).2) (b4S v0 v1 v12 v13) =
  cond (decide (v13<v12)) (.f9 ((0:Int)≤v13∧v13<(↑(List.length v0):Int)) (.f9 ((0:Int)≤v13∧v13<(↑(List.length v1):Int)) (cond (decide (List.getD v0 (Int.toNat v13) []≠List.getD v1 (Int.toNat v13) [])) (.ret ((false,()))) (.f9 (C1 IntKind.i64 (v13+(1:Int))) (.cut (j7 (d9 Try.prog 68) 4).1 (j7 (d9 Try.prog 68) 4).2 (St.mk [(0,AV.val (Ty.d0 false Ty.str) v0),(1,AV.val (Ty.d0 false Ty.str) v1),(12,AV.val (Ty.int IntKind.i64) v12),(13,AV.val (Ty.int IntKind.i64) (v13+(1:Int)))] [])))))) (.ret ((true,()))):=by kernel_rfl
theorem a70:b5Q.Valid Try.prog 68:=by
  refine t5.s4 a9o rfl rfl Try.func68 (c:=d9 Try.prog 68) rfl rfl a9h rfl ?_
  rintro ⟨(l:List (List UInt8)),(m:List (List UInt8)),⟨⟩⟩ - ⟨⟨hl,-⟩,-⟩
  have hl:l.length≤9223372036854775807:=hl
  refine l5 (n:=1000) a9o a9h ?_
  refine j8 (c1N l m) ?_
  have fin:∀ {b:Bool},(b=true↔l=m)→((b,()):Bool×Unit)=(decide (l=m),()):=fun {b} h=>by
    cases b with
    | true=>rw [decide_eq_true (h.1 rfl)]
    | false=>rw [decide_eq_false (fun e=>by cases h.2 e)]
  simp only [p8,Tree.holds,true_and,true_implies,decide_eq_true_eq,decide_eq_false_iff_not,Bool.not_eq_true',Bool.not_eq_false',Int.toNat_natCast,u6,List.length_set,List.length_cons,List.length_nil]
  refine ⟨fun c=>fin ⟨fun h=>(by cases h),fun h=>absurd (congrArg (fun q:List (List UInt8)=>(q.length:Int)) h) c⟩,fun c=>?_⟩
  refine Reach.V1 a9o a9h (fun i:Nat=>b4S l m (l.length:Int) (i:Int)) (fun i=>i≤l.length∧∀ j,j<i→l.getD j []=m.getD j [])
    (fun i=>l.length - i) 1000 (fun _=>⟨x7 rfl,x7 rfl⟩) ?_ 0 ⟨Nat.zero_le _,fun j hj=>by omega⟩
  rintro i ⟨k1,k2⟩ - ih
  refine j8 (c0U ..) ?_
  have c:l.length=m.length:=by omega
  simp only [p8,Tree.holds,true_and,true_implies,decide_eq_true_eq,decide_eq_false_iff_not,Bool.not_eq_true',Bool.not_eq_false',Int.toNat_natCast,u6,List.length_set,List.length_cons,List.length_nil]
  refine ⟨fun d1=>⟨by omega,fun _=>⟨by omega,fun _=>⟨fun d2=>fin ⟨fun h=>(by cases h),fun h=>absurd (congrArg (fun q:List (List UInt8)=>q.getD i []) h) (d2)⟩,fun d2=>⟨by omega,fun _=>ih (i+1) ⟨by omega,fun j hj=>?_⟩ (by omega)⟩⟩⟩⟩,fun d1=>fin ⟨fun _=>eq_of_getD c (fun j hj=>k2 j (by omega)),fun _=>rfl⟩⟩
  rcases Nat.lt_or_ge j i with h|h
  · exact k2 j h
  · obtain rfl:j=i:=by omega
    exact Decidable.not_not.1 d2
def f00:a1q:=(0,[],())
def O5 (s:a1q):Int:=if Z7 s.1 0 16777215=false then 1 else if (16:Int)<s.2.1.length then 1 else if s.2.1.any J0=true then 2 else 0
def a7Z:t5:={ ps:=[.v a4t],rs:=[I8],pre:=fun _=>True,fn:=fun x=>(O5 x.1,()),out:=fun _=>() }
noncomputable def b21:Env:={ P:=Try.prog,tt:=tt,C9:=[(157,b1T),(233,b2f)],res:=[Go.ResultVar.tmp 2],rs:=[Ty.int IntKind.i64],ps:=[PK.v (Ty.pair (Ty.int IntKind.i64) (Ty.pair (Ty.d0 false Ty.str) Ty.unit))],C7:=[],nt:=18 }
theorem b0r:x8 b21:=C2 q9 ⟨a4j,b2e,trivial⟩
theorem b0e:D3 b21 Try.f154:=⟨rfl,rfl⟩
theorem b9u (x0_1:Int) (x0_2_1:List (List UInt8)):exec b21 1000 [.code (d9 Try.prog 154)] (w7 a7Z.ps (((x0_1,x0_2_1,()),()))) =
  .f9 (True) (cond (!Z7 x0_1 (0:Int) (16777215:Int)) (.ret (((1:Int),()))) (cond (decide ((16:Int)<(↑(List.length x0_2_1):Int))) (.ret (((1:Int),()))) (.f9 (True) (cond (List.any x0_2_1 J0) (.ret (((2:Int),()))) (.ret (((0:Int),()))))))):=by kernel_rfl
theorem lnf {b:Bool} (h:b=true):¬ b=false:=by rw [h]; simp
theorem a5e:a7Z.Valid Try.prog 154:=by
  refine t5.s4 b0r rfl rfl Try.func154 (c:=d9 Try.prog 154) rfl rfl b0e rfl ?_
  rintro ⟨⟨(b:Int),(l:List (List UInt8)),⟨⟩⟩,⟨⟩⟩ - -
  refine l5 (n:=1000) b0r b0e ?_
  refine j8 (b9u b l) ?_
  have key:∀ {x:Int},O5 (b,l,())=x→((x,()):Int×Unit)=(O5 (b,l,()),()):=by rintro x rfl; rfl
  have hd:O5 (b,l,())=if Z7 b 0 16777215=false then 1 else if (16:Int)<l.length then 1 else if l.any J0=true then 2 else 0:=rfl
  simp only [p8,Tree.holds,true_and,true_implies,decide_eq_true_eq,decide_eq_false_iff_not,Bool.not_eq_true',Bool.not_eq_false',Int.toNat_natCast,u6,List.length_set,List.length_cons,List.length_nil]
  refine ⟨fun a=>key (by rw [hd,if_pos a]),fun a=>⟨fun c=>key (by rw [hd,if_neg (lnf a),if_pos c]),fun c=>⟨fun d=>key (by rw [hd,if_neg (lnf a),if_neg c,if_pos d]),fun d=>key (by rw [hd,if_neg (lnf a),if_neg c,if_neg (by rw [d]; simp)])⟩⟩⟩
theorem a2K {s:a1q} (h:O5 s=0):(0≤s.1∧s.1≤16777215)∧s.2.1.length≤16∧s.2.1.any J0=false:=by
  unfold O5 at h
  split at h
  · cases h
  rename_i c1
  split at h
  · cases h
  rename_i c2
  split at h
  · cases h
  rename_i c3
  exact ⟨a0B.1 (Bool.not_eq_false _▸c1),by omega,by simpa using c3⟩
def a35 (s:a1q) (x:List UInt8):a1q×Int×Unit :=
  if O5 s≠0 then (f00,O5 s,()) else if J0 x=true then (f00,2,()) else if (s.2.1.length:Int)=16∨16777215≤s.1+s.2.1.length then (f00,8,()) else ((s.1,s.2.1++[x],()),0,())
def b5L:t5:={ ps:=[.v a4t,.v .str],rs:=[b96,I8],pre:=fun _=>True,fn:=fun x=>a35 x.1 x.2.1,out:=fun _=>() }
noncomputable def b6r:Env:={ P:=Try.prog,tt:=tt,C9:=[(154,a7Z),(155,a3F),(62,b1Q)],res:=[Go.ResultVar.cell 4 98,Go.ResultVar.tmp 5],rs:=[Ty.pair (Ty.int IntKind.i64) (Ty.pair (Ty.d0 true Ty.str) Ty.unit),Ty.int IntKind.i64],ps:=[PK.v (Ty.pair (Ty.int IntKind.i64) (Ty.pair (Ty.d0 false Ty.str) Ty.unit)),PK.v Ty.str],C7:=[],nt:=41 }
theorem b2V:x8 b6r:=C2 q9 ⟨a5e,a1k,a4h,trivial⟩
theorem b2F:D3 b6r Try.f51:=⟨rfl,rfl⟩
theorem c0P (x0_1:Int) (x0_2_1:List (List UInt8)) (x1:List UInt8):exec b6r 1000 [.code (d9 Try.prog 51)] (w7 b5L.ps (((x0_1,x0_2_1,()),x1,()))) =
  .f9 (True) (cond (decide (O5 (x0_1,x0_2_1,())≠(0:Int))) (.ret ((((0:Int),[],()),O5 (x0_1,x0_2_1,()),()))) (.f9 (True) (cond (J0 x1) (.ret ((((0:Int),[],()),(2:Int),()))) (cond (decide ((↑(List.length x0_2_1):Int)=(16:Int))) (.ret ((((0:Int),[],()),(8:Int),()))) (.f9 (C1 IntKind.i64 (x0_1+(↑(List.length x0_2_1):Int))) (cond (decide ((16777215:Int)≤x0_1+(↑(List.length x0_2_1):Int))) (.ret ((((0:Int),[],()),(8:Int),()))) (.f9 (List.length x0_2_1≤1048576) (.f9 (List.length x0_2_1+List.length (List.set [[]] (Int.toNat (↑0:Int)) x1)≤140737488355328∧(List.length x0_2_1+List.length (List.set [[]] (Int.toNat (↑0:Int)) x1))*Ty.wb Ty.str≤140737488355328) (.ret (((x0_1,x0_2_1++List.set [[]] (Int.toNat (↑0:Int)) x1,()),(0:Int),()))))))))))):=by kernel_rfl
theorem b3C:b5L.Valid Try.prog 51:=by
  refine t5.s4 b2V rfl rfl Try.func51 (c:=d9 Try.prog 51) rfl rfl b2F rfl ?_
  rintro ⟨⟨(b:Int),(l:List (List UInt8)),⟨⟩⟩,(x:List UInt8),⟨⟩⟩ - -
  refine l5 (n:=1000) b2V b2F ?_
  refine j8 (c0P b l x) ?_
  have key:∀ {y:a1q×Int×Unit},a35 (b,l,()) x=y→y=a35 (b,l,()) x:=fun h=>h.symm
  have hd:a35 (b,l,()) x=if O5 (b,l,())≠0 then (f00,O5 (b,l,()),()) else if J0 x=true then (f00,2,()) else if (l.length:Int)=16∨16777215≤b+l.length then (f00,8,()) else ((b,l++[x],()),0,()):=rfl
  have hw:Ty.wb .str=16:=rfl
  simp only [p8,Tree.holds,true_and,true_implies,decide_eq_true_eq,decide_eq_false_iff_not,Bool.not_eq_true',Bool.not_eq_false',Int.toNat_natCast,u6,List.length_set,List.length_cons,List.length_nil,hw]
  refine ⟨fun a=>key (by rw [hd,if_pos a]<;>rfl),fun a=>?_⟩
  have p9:=a2K (Decidable.not_not.1 a)
  simp only at p9
  rw [if_neg a] at hd
  refine ⟨fun c=>key (by rw [hd,if_pos c]<;>rfl),fun c=>?_⟩
  rw [if_neg (by rw [c]; simp)] at hd
  refine ⟨fun d=>key (by rw [hd,if_pos (.inl d)]<;>rfl),fun d=>⟨by omega,fun _=>⟨fun e=>key (by rw [hd,if_pos (.inr e)]<;>rfl),fun e=>⟨by omega,fun _=>⟨⟨by omega,by omega⟩,fun _=>key ?_⟩⟩⟩⟩⟩
  rw [hd,if_neg (by rintro (h|h); exact d h; exact e h)]; rfl
def ahd (b x:Int):Int:=if x - b<0 then 0 else x - b
def a1b (s:a1q) (x:Int):a1q×Int×Unit :=
  if O5 s≠0 then (f00,O5 s,()) else if s.1+s.2.1.length<x then (f00,1,()) else ((s.1+ahd s.1 x,s.2.1.drop (ahd s.1 x).toNat,()),0,())
def a81:t5:={ ps:=[.v a4t,.v I8],rs:=[b96,I8],pre:=fun x=>O5 x.1=0→LE.le (α:=Int) 0 x.2.1,fn:=fun x=>a1b x.1 x.2.1,out:=fun _=>() }
noncomputable def a9m:Env:={ P:=Try.prog,tt:=tt,C9:=[(154,a7Z),(62,b1Q)],res:=[Go.ResultVar.cell 4 98,Go.ResultVar.tmp 5],rs:=[Ty.pair (Ty.int IntKind.i64) (Ty.pair (Ty.d0 true Ty.str) Ty.unit),Ty.int IntKind.i64],ps:=[PK.v (Ty.pair (Ty.int IntKind.i64) (Ty.pair (Ty.d0 false Ty.str) Ty.unit)),PK.v (Ty.int IntKind.i64)],C7:=[],nt:=38 }
theorem a8m:x8 a9m:=C2 q9 ⟨a5e,a4h,trivial⟩
theorem a8e:D3 a9m Try.f55:=⟨rfl,rfl⟩
theorem b73 (x0_1:Int) (x0_2_1:List (List UInt8)) (x1:Int):exec a9m 1000 [.code (d9 Try.prog 55)] (w7 a81.ps (((x0_1,x0_2_1,()),x1,()))) =
  .f9 (True) (cond (decide (O5 (x0_1,x0_2_1,())≠(0:Int))) (.ret ((((0:Int),[],()),O5 (x0_1,x0_2_1,()),()))) (.f9 (C1 IntKind.i64 (x0_1+(↑(List.length x0_2_1):Int))) (cond (decide (x0_1+(↑(List.length x0_2_1):Int)<x1)) (.ret ((((0:Int),[],()),(1:Int),()))) (.f9 (C1 IntKind.i64 (x1 - x0_1)) (.f9 (C1 IntKind.i64 (x0_1+if x1 - x0_1<(0:Int) then (0:Int) else x1 - x0_1)) (.f9 (((0:Int)≤if x1 - x0_1<(0:Int) then (0:Int) else x1 - x0_1)∧(if x1 - x0_1<(0:Int) then (0:Int) else x1 - x0_1)≤(↑(List.length x0_2_1):Int)∧(↑(List.length x0_2_1):Int)≤(↑(List.length x0_2_1):Int)) (.f9 (List.length (s5 (if x1 - x0_1<(0:Int) then (0:Int) else x1 - x0_1) (↑(List.length x0_2_1):Int) x0_2_1)≤1048576) (.ret (((x0_1+if x1 - x0_1<(0:Int) then (0:Int) else x1 - x0_1,s5 (if x1 - x0_1<(0:Int) then (0:Int) else x1 - x0_1) (↑(List.length x0_2_1):Int) x0_2_1,()),(0:Int),())))))))))):=by kernel_rfl
theorem b0G:a81.Valid Try.prog 55:=by
  refine t5.s4 a8m rfl rfl Try.func55 (c:=d9 Try.prog 55) rfl rfl a8e rfl ?_
  rintro ⟨⟨(b:Int),(l:List (List UInt8)),⟨⟩⟩,(x:Int),⟨⟩⟩ (h0:O5 (b,l,())=0→0≤x) -
  refine l5 (n:=1000) a8m a8e ?_
  refine j8 (b73 b l x) ?_
  have key:∀ {y:a1q×Int×Unit},a1b (b,l,()) x=y→y=a1b (b,l,()) x:=fun h=>h.symm
  have hd:a1b (b,l,()) x=if O5 (b,l,())≠0 then (f00,O5 (b,l,()),()) else if b+l.length<x then (f00,1,()) else ((b+ahd b x,l.drop (ahd b x).toNat,()),0,()):=rfl
  have ha:(if x - b<0 then 0 else x - b)=ahd b x:=rfl
  have ha2:0≤ahd b x∧(x≤b+l.length→ahd b x≤l.length)∧(ahd b x=0∨ahd b x=x - b):=by rw [ahd]; split<;>omega
  have hcut:0≤ahd b x→s5 (ahd b x) (l.length:Int) l=l.drop (ahd b x).toNat:=fun h=>by
    rw [s5,List.take_of_length_le (by rw [List.length_drop]; omega)]
  rw [ha]
  generalize ahd b x=n at *
  rw [hcut ha2.1]
  simp only [p8,Tree.holds,true_and,true_implies,decide_eq_true_eq,decide_eq_false_iff_not,Bool.not_eq_true',Bool.not_eq_false',Int.toNat_natCast,u6,List.length_set,List.length_cons,List.length_nil]
  refine ⟨fun a=>key (by rw [hd,if_pos a]<;>rfl),fun a=>?_⟩
  have p9:=a2K (Decidable.not_not.1 a)
  simp only at p9
  have h0:=h0 (Decidable.not_not.1 a)
  rw [if_neg a] at hd
  refine ⟨by omega,fun _=>⟨fun c=>key (by rw [hd,if_pos c]<;>rfl),fun c=>?_⟩⟩
  rw [if_neg c] at hd
  refine ⟨by omega,fun _=>⟨by omega,fun _=>⟨by omega,fun _=>⟨?_,fun _=>key (by rw [hd]<;>rfl)⟩⟩⟩⟩
  rw [List.length_drop]; omega
def U5:n9:=(0,[],())
def t00:ToD:=(0,[],())
def a88 (r:Int) (l:List n9):Nat→Int
  | 0=>r
  | i+1=>(l.getD i U5).1
def a1h (r:Int) (l:List n9) (i:Nat):Int:=if (l.getD i U5).1≤a88 r l i then 4 else if r+16≤(l.getD i U5).1 then 4 else if J0 (l.getD i U5).2.1=true then 4 else 0
def toE (s:ToD):Int:=if Z7 s.1 0 16777215=false then 1 else if (16:Int)<s.2.1.length then 2 else M8 (a1h s.1 s.2.1) s.2.1.length
def b8Y:t5:={ ps:=[.v ToT],rs:=[I8],pre:=fun _=>True,fn:=fun x=>(toE x.1,()),out:=fun _=>() }
noncomputable def b6k:Env:={ P:=Try.prog,tt:=tt,C9:=[(157,b1T),(155,a3F)],res:=[Go.ResultVar.tmp 2],rs:=[Ty.int IntKind.i64],ps:=[PK.v (Ty.pair (Ty.int IntKind.i64) (Ty.pair (Ty.d0 false (Ty.pair (Ty.int IntKind.i64) (Ty.pair Ty.str Ty.unit))) Ty.unit))],C7:=[(7,[(1,none),(3,none),(19,none),(20,none),(21,none)])],nt:=45 }
theorem a9l:x8 b6k:=C2 q9 ⟨a4j,a1k,trivial⟩
theorem a9g:D3 b6k Try.f156:=⟨rfl,rfl⟩
theorem c1I (x0_1:Int) (x0_2_1:List (Int×List UInt8×Unit)):exec b6k 1000 [.code (d9 Try.prog 156)] (w7 b8Y.ps (((x0_1,x0_2_1,()),()))) =
  .f9 (True) (cond (!Z7 x0_1 (0:Int) (16777215:Int)) (.ret (((1:Int),()))) (cond (decide ((16:Int)<(↑(List.length x0_2_1):Int))) (.ret (((2:Int),()))) (.cut (j7 (d9 Try.prog 156) 7).1 (j7 (d9 Try.prog 156) 7).2 (St.mk [(1,AV.ptr 1 []),(3,AV.val (Ty.int IntKind.i64) x0_1),(19,AV.val (Ty.d0 false (Ty.pair (Ty.int IntKind.i64) (Ty.pair Ty.str Ty.unit))) x0_2_1),(20,AV.val (Ty.int IntKind.i64) (↑(List.length x0_2_1):Int)),(21,AV.val (Ty.int IntKind.i64) (0:Int))] [(1,i7.var (Ty.pair (Ty.int IntKind.i64) (Ty.pair (Ty.d0 false (Ty.pair (Ty.int IntKind.i64) (Ty.pair Ty.str Ty.unit))) Ty.unit)) (x0_1,x0_2_1,()))])))):=by kernel_rfl
def b4O (v3:Int) (v19:List (Int×List UInt8×Unit)) (v20:Int) (v21:Int) (o1_1:Int) (o1_2_1:List (Int×List UInt8×Unit)):St:=St.mk [(1,AV.ptr 1 []),(3,AV.val (Ty.int IntKind.i64) v3),(19,AV.val (Ty.d0 false (Ty.pair (Ty.int IntKind.i64) (Ty.pair Ty.str Ty.unit))) v19),(20,AV.val (Ty.int IntKind.i64) v20),(21,AV.val (Ty.int IntKind.i64) v21)] [(1,i7.var (Ty.pair (Ty.int IntKind.i64) (Ty.pair (Ty.d0 false (Ty.pair (Ty.int IntKind.i64) (Ty.pair Ty.str Ty.unit))) Ty.unit)) (o1_1,o1_2_1,()))]
theorem c0K (v3:Int) (v19:List (Int×List UInt8×Unit)) (v20:Int) (v21:Int) (o1_1:Int) (o1_2_1:List (Int×List UInt8×Unit)):exec b6k 1000 (.code (j7 (d9 Try.prog 156) 7).1::.inLoop (j7 (d9 Try.prog 156) 7).1::(j7 (d9 Try.prog 156) 7).2) (b4O v3 v19 v20 v21 o1_1 o1_2_1) =
  cond (decide (v21<v20)) (.f9 ((0:Int)≤v21∧v21<(↑(List.length v19):Int)) (cond (decide (Prod.fst (List.getD v19 (Int.toNat v21) ((0:Int),[],()))≤v3)) (.ret (((4:Int),()))) (.f9 (C1 IntKind.i64 (o1_1+(16:Int))) (cond (decide (o1_1+(16:Int)≤Prod.fst (List.getD v19 (Int.toNat v21) ((0:Int),[],())))) (.ret (((4:Int),()))) (.f9 (True) (cond (J0 (Prod.fst (Prod.snd (List.getD v19 (Int.toNat v21) ((0:Int),[],()))))) (.ret (((4:Int),()))) (.f9 (C1 IntKind.i64 (v21+(1:Int))) (.cut (j7 (d9 Try.prog 156) 7).1 (j7 (d9 Try.prog 156) 7).2 (St.mk [(1,AV.ptr 1 []),(3,AV.val (Ty.int IntKind.i64) (Prod.fst (List.getD v19 (Int.toNat v21) ((0:Int),[],())))),(19,AV.val (Ty.d0 false (Ty.pair (Ty.int IntKind.i64) (Ty.pair Ty.str Ty.unit))) v19),(20,AV.val (Ty.int IntKind.i64) v20),(21,AV.val (Ty.int IntKind.i64) (v21+(1:Int)))] [(1,i7.var (Ty.pair (Ty.int IntKind.i64) (Ty.pair (Ty.d0 false (Ty.pair (Ty.int IntKind.i64) (Ty.pair Ty.str Ty.unit))) Ty.unit)) (o1_1,o1_2_1,()))]))))))))) (.ret (((0:Int),()))):=by kernel_rfl
theorem b5F:b8Y.Valid Try.prog 156:=by
  refine t5.s4 a9l rfl rfl Try.func156 (c:=d9 Try.prog 156) rfl rfl a9g rfl ?_
  rintro ⟨⟨(r:Int),(l:List n9),⟨⟩⟩,⟨⟩⟩ - -
  refine l5 (n:=1000) a9l a9g ?_
  refine j8 (c1I r l) ?_
  have key:∀ {x:Int},toE (r,l,())=x→((x,()):Int×Unit)=(toE (r,l,()),()):=by rintro x rfl; rfl
  have hd:toE (r,l,())=if Z7 r 0 16777215=false then 1 else if (16:Int)<l.length then 2 else M8 (a1h r l) l.length:=rfl
  simp only [p8,Tree.holds,true_and,true_implies,decide_eq_true_eq,decide_eq_false_iff_not,Bool.not_eq_true',Bool.not_eq_false',Int.toNat_natCast,u6,List.length_set,List.length_cons,List.length_nil]
  refine ⟨fun a=>key (by rw [hd,if_pos a]),fun a=>?_⟩
  have hr:=a0B.1 a
  rw [if_neg (lnf a)] at hd
  refine ⟨fun a=>key (by rw [hd,if_pos a]),fun a=>?_⟩
  rw [if_neg a] at hd
  refine Reach.V1 a9l a9g (fun i:Nat=>b4O (a88 r l i) l (l.length:Int) (i:Int) r l) (fun i=>i≤l.length∧M8 (a1h r l) i=0) (fun i=>l.length - i) 1000 (fun _=>⟨x7 rfl,x7 rfl⟩) ?_ 0 ⟨by omega,rfl⟩
  rintro i ⟨k1,k2⟩ - ih
  have k1:i≤l.length:=k1
  refine j8 (c0K ..) ?_
  simp only [p8,Tree.holds,true_and,true_implies,decide_eq_true_eq,decide_eq_false_iff_not,Bool.not_eq_true',Bool.not_eq_false',Int.toNat_natCast,u6,List.length_set,List.length_cons,List.length_nil]
  have hE:a1h r l i=if (l.getD i (0,[],())).1≤a88 r l i then 4 else if r+16≤(l.getD i (0,[],())).1 then 4 else if J0 (l.getD i (0,[],())).2.1=true then 4 else 0:=rfl
  have hB:a88 r l (i+1)=(l.getD i (0,[],())).1:=rfl
  have stop:a1h r l i=4→i<l.length→toE (r,l,())=4:=fun h9 hi=>by rw [hd,a6p k2 (by rw [h9]; decide) hi,h9]
  have next:=fun (h:a1h r l i=0) (hi:i<l.length)=>ih (i+1) ⟨by omega,a6q k2 h⟩ (by omega)
  rw [hB] at next
  generalize l.getD i (0,[],())=w at *
  obtain ⟨q,x,u⟩:=w
  simp only at hE next ⊢
  refine ⟨fun c=>⟨by omega,fun _=>⟨fun c1=>key (stop (by rw [hE,if_pos c1]) (by omega)),fun c1=>⟨by omega,fun _=>⟨fun c2=>key (stop (by rw [hE,if_neg c1,if_pos c2]) (by omega)),fun c2=>⟨fun c3=>key (stop (by rw [hE,if_neg c1,if_neg c2,if_pos c3]) (by omega)),fun c3=>⟨by omega,fun _=>next (by rw [hE,if_neg c1,if_neg c2,if_neg (by rw [c3]; simp)]) (by omega)⟩⟩⟩⟩⟩⟩,fun c=>key (by rw [hd,show l.length=i by omega,k2])⟩
end Go.Proofs.Ytekbamiaenbhjaa
