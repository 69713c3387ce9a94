/- The contracts of the package flush's functions; FlushTrue. -/
import Derived.Test.YtekbamiaenbhjaaView
namespace Go.Proofs.Ytekbamiaenbhjaa
open Go.Ex
set_option maxRecDepth 100000
abbrev K5:=R3×Int×List (List Int)×Unit
def b3v:D4:={ ps:=[.v J3,.v J3,.v J3],rs:=[.bool],pre:=fun _=>True,fn:=fun x=>(inF x.1 x.2.1 x.2.2.1,()),out:=fun _=>() }
noncomputable def b6d:Env:={ P:=Try.prog,tt:=tt,G8:=[],res:=[Go.ResultVar.tmp 6],rs:=[Ty.bool],ps:=[PK.v (Ty.int IntKind.i64),PK.v (Ty.int IntKind.i64),PK.v (Ty.int IntKind.i64)],J6:=[],nt:=15 }
theorem b2C:H8 b6d:=L9 w7 trivial
theorem b2A:L7 b6d Try.f219:=⟨rfl,rfl⟩
theorem b7W (x0:Int) (x1:Int) (x2:Int):exec b6d 1000 [.code (g9 Try.prog 219)] (G9 b3v.ps ((x0,x1,x2,()))) =
  cond (decide (x1≤x0)) (.ret ((decide (x0≤x2),()))) (.ret ((false,()))):=by kernel_rfl
theorem a7g:b3v.Valid Try.prog 219:=by
  refine D4.F1 b2C rfl rfl Try.func219 (c:=g9 Try.prog 219) rfl rfl b2A rfl ?_
  rintro ⟨(a:Int),(b:Int),(c:Int),⟨⟩⟩ - -
  refine r8 (n:=1000) b2C b2A ?_
  refine s5 (b7W a b c) ?_
  simp only [x6,Tree.holds,true_and,true_implies,decide_eq_true_eq,decide_eq_false_iff_not,Bool.not_eq_true',Bool.not_eq_false',Int.toNat_natCast,F8,List.length_set,List.length_cons,List.length_nil]
  repeat' first|exact trivial|(refine And.intro ?_ ?_)|(intro _)
  all_goals (show ((_,()):Bool×Unit)=(inF a b c,()); simp [inF, *])
def a6i (m:Int):Bool:=inF m 0 29
def a9e:D4:={ ps:=[.v J3],rs:=[.bool],pre:=fun _=>True,fn:=fun x=>(a6i x.1,()),out:=fun _=>() }
noncomputable def b31:Env:={ P:=Try.prog,tt:=tt,G8:=[(219,b3v)],res:=[Go.ResultVar.tmp 2],rs:=[Ty.bool],ps:=[PK.v (Ty.int IntKind.i64)],J6:=[],nt:=5 }
theorem b0J:H8 b31:=L9 w7 ⟨a7g,trivial⟩
theorem b0A:L7 b31 Try.f124:=⟨rfl,rfl⟩
theorem b7o (x0:Int):exec b31 1000 [.code (g9 Try.prog 124)] (G9 a9e.ps ((x0,()))) =
  .n8 (True) (.ret ((inF x0 (0:Int) (29:Int),()))):=by kernel_rfl
theorem a5R:a9e.Valid Try.prog 124:=by
  refine D4.F1 b0J rfl rfl Try.func124 (c:=g9 Try.prog 124) rfl rfl b0A rfl ?_
  rintro ⟨(m:Int),⟨⟩⟩ - -
  refine r8 (n:=1000) b0J b0A ?_
  refine s5 (b7o m) ?_
  exact ⟨trivial,fun _=>rfl⟩
def T7:List (List Int):=[[],[],[],[],[],[]]
def N6:K5:=((0,0,()),0,T7,())
def a9S (m:Int):K5×Int×Unit:=if H9 (0,m,())≠0 then (N6,H9 (0,m,()),()) else (((0,m,()),0,T7,()),0,())
def b3u:D4:={ ps:=[.v U8],rs:=[a3q,J3],pre:=fun _=>True,fn:=fun x=>a9S x.1,out:=fun _=>() }
noncomputable def b30:Env:={ P:=Try.prog,tt:=tt,G8:=[(121,a12)],res:=[Go.ResultVar.cell 2 27,Go.ResultVar.tmp 3],rs:=[Ty.pair (Ty.pair (Ty.int IntKind.i64) (Ty.pair (Ty.int IntKind.u8) Ty.unit)) (Ty.pair (Ty.int IntKind.u8) (Ty.pair (Ty.arr 6 Is) Ty.unit)),Ty.int IntKind.i64],ps:=[PK.v (Ty.int IntKind.u8)],J6:=[],nt:=17 }
theorem b0I:H8 b30:=L9 w7 ⟨a1E,trivial⟩
theorem b0z:L7 b30 Try.f14:=⟨rfl,rfl⟩
theorem b7n (x0:Int):exec b30 1000 [.code (g9 Try.prog 14)] (G9 b3u.ps ((x0,()))) =
  .n8 (True) (cond (decide (H9 ((0:Int),x0,())≠(0:Int))) (.ret (((((0:Int),(0:Int),()),(0:Int),[[],[],[],[],[],[]],()),H9 ((0:Int),x0,()),()))) (.ret (((((0:Int),x0,()),(0:Int),[[],[],[],[],[],[]],()),(0:Int),())))):=by kernel_rfl
attribute [local irreducible] exec
theorem b1w:b3u.Valid Try.prog 14:=by
  refine D4.F1 b0I rfl rfl Try.func14 (c:=g9 Try.prog 14) rfl rfl b0z rfl ?_
  rintro ⟨(m:Int),⟨⟩⟩ - -
  refine r8 (n:=1000) b0I b0z ?_
  refine s5 (b7n m) ?_
  simp only [x6,Tree.holds,true_and,true_implies,decide_eq_true_eq,decide_eq_false_iff_not,Bool.not_eq_true',Bool.not_eq_false',Int.toNat_natCast,F8,List.length_set,List.length_cons,List.length_nil]
  refine ⟨fun a=>?_,fun a=>?_⟩
  · show (_:K5×Int×Unit)=a9S m
    rw [a9S,if_pos a]; rfl
  · show (_:K5×Int×Unit)=a9S m
    rw [a9S,if_neg a]; rfl
def V5 (m p:Int):Int:=R5 .u8 (m / 2^min (Int.toNat p) (IntKind.bits .u8)) 1
def a4A (l:List Int) (i:Nat):Int:=if a6i (l.getD i 0)=false then 4 else if l.getD i 0∈l.take i then 4 else 0
def V6 (M:Int) (T:List (List Int)) (i:Nat):Int:=if (30:Int)<(T.getD i []).length then 2 else if (0:Int)<(T.getD i []).length∧V5 M i=0 then 4 else H2 (a4A (T.getD i [])) (T.getD i []).length
def B9 (f:K5):Int:=if H9 f.1≠0 then H9 f.1 else if p8 .u8 f.2.1 f.1.2.1≠0 then 4 else H2 (V6 f.1.2.1 f.2.2.1) 6
def a3m:D4:={ ps:=[.v a39],rs:=[J3],pre:=fun _=>True,fn:=fun x=>(B9 x.1,()),out:=fun _=>() }
noncomputable def a15:Env:={ P:=Try.prog,tt:=tt,G8:=[(121,a12),(124,a9e),(48,a4S)],res:=[Go.ResultVar.tmp 2],rs:=[Ty.int IntKind.i64],ps:=[PK.v (Ty.pair (Ty.pair (Ty.int IntKind.i64) (Ty.pair (Ty.int IntKind.u8) Ty.unit)) (Ty.pair (Ty.int IntKind.u8) (Ty.pair (Ty.arr 6 (Ty.d0 false (Ty.int IntKind.i64))) Ty.unit)))],J6:=[(7,[(1,none),(22,none),(23,none)]),(14,[(1,none),(5,none),(22,none),(23,none),(44,none),(45,none),(46,none)])],nt:=63 }
theorem a1V:H8 a15:=L9 w7 ⟨a1E,a5R,a2o,trivial⟩
theorem a1U:L7 a15 Try.f17:=⟨rfl,rfl⟩
theorem b5j (x0_1_1:Int) (x0_1_2_1:Int) (x0_2_1:Int) (x0_2_2_1:List (List Int)):exec a15 1000 [.code (g9 Try.prog 17)] (G9 a3m.ps ((((x0_1_1,x0_1_2_1,()),x0_2_1,x0_2_2_1,()),()))) =
  .n8 (True) (cond (decide (H9 (x0_1_1,x0_1_2_1,())≠(0:Int))) (.ret ((H9 (x0_1_1,x0_1_2_1,()),()))) (cond (decide (p8 IntKind.u8 x0_2_1 x0_1_2_1≠(0:Int))) (.ret (((4:Int),()))) (.cut (j8 (g9 Try.prog 17) 7).1 (j8 (g9 Try.prog 17) 7).2 (St.mk [(1,AV.ptr 1 []),(22,AV.val (Ty.arr 6 (Ty.d0 false (Ty.int IntKind.i64))) x0_2_2_1),(23,AV.val (Ty.int IntKind.i64) (0:Int))] [(1,f9.var (Ty.pair (Ty.pair (Ty.int IntKind.i64) (Ty.pair (Ty.int IntKind.u8) Ty.unit)) (Ty.pair (Ty.int IntKind.u8) (Ty.pair (Ty.arr 6 (Ty.d0 false (Ty.int IntKind.i64))) Ty.unit))) ((x0_1_1,x0_1_2_1,()),x0_2_1,x0_2_2_1,()))])))):=by kernel_rfl
def a7u (v22:List (List Int)) (v23:Int) (o1_1_1:Int) (o1_1_2_1:Int) (o1_2_1:Int) (o1_2_2_1:List (List Int)):St:=St.mk [(1,AV.ptr 1 []),(22,AV.val (Ty.arr 6 (Ty.d0 false (Ty.int IntKind.i64))) v22),(23,AV.val (Ty.int IntKind.i64) v23)] [(1,f9.var (Ty.pair (Ty.pair (Ty.int IntKind.i64) (Ty.pair (Ty.int IntKind.u8) Ty.unit)) (Ty.pair (Ty.int IntKind.u8) (Ty.pair (Ty.arr 6 (Ty.d0 false (Ty.int IntKind.i64))) Ty.unit))) ((o1_1_1,o1_1_2_1,()),o1_2_1,o1_2_2_1,()))]
theorem b33 (v22:List (List Int)) (v23:Int) (o1_1_1:Int) (o1_1_2_1:Int) (o1_2_1:Int) (o1_2_2_1:List (List Int)):exec a15 1000 (.code (j8 (g9 Try.prog 17) 7).1::.inLoop (j8 (g9 Try.prog 17) 7).1::(j8 (g9 Try.prog 17) 7).2) (a7u v22 v23 o1_1_1 o1_1_2_1 o1_2_1 o1_2_2_1) =
  cond (decide (v23<(6:Int))) (.n8 ((0:Int)≤v23∧v23<(↑6:Int)) (cond (decide ((30:Int)<(↑(List.length (List.getD v22 (Int.toNat v23) [])):Int))) (.ret (((2:Int),()))) (cond (decide ((0:Int)<(↑(List.length (List.getD v22 (Int.toNat v23) [])):Int))) (.n8 ((0:Int)≤v23) (cond (decide (R5 IntKind.u8 (o1_1_2_1 / (2:Int)^min (Int.toNat v23) (IntKind.bits IntKind.u8)) (1:Int)=(0:Int))) (.ret (((4:Int),()))) (.cut (j8 (g9 Try.prog 17) 14).1 (j8 (g9 Try.prog 17) 14).2 (St.mk [(1,AV.ptr 1 []),(5,AV.val (Ty.d0 false (Ty.int IntKind.i64)) (List.getD v22 (Int.toNat v23) [])),(22,AV.val (Ty.arr 6 (Ty.d0 false (Ty.int IntKind.i64))) v22),(23,AV.val (Ty.int IntKind.i64) v23),(44,AV.val (Ty.d0 false (Ty.int IntKind.i64)) (List.getD v22 (Int.toNat v23) [])),(45,AV.val (Ty.int IntKind.i64) (↑(List.length (List.getD v22 (Int.toNat v23) [])):Int)),(46,AV.val (Ty.int IntKind.i64) (0:Int))] [(1,f9.var (Ty.pair (Ty.pair (Ty.int IntKind.i64) (Ty.pair (Ty.int IntKind.u8) Ty.unit)) (Ty.pair (Ty.int IntKind.u8) (Ty.pair (Ty.arr 6 (Ty.d0 false (Ty.int IntKind.i64))) Ty.unit))) ((o1_1_1,o1_1_2_1,()),o1_2_1,o1_2_2_1,()))])))) (.cut (j8 (g9 Try.prog 17) 14).1 (j8 (g9 Try.prog 17) 14).2 (St.mk [(1,AV.ptr 1 []),(5,AV.val (Ty.d0 false (Ty.int IntKind.i64)) (List.getD v22 (Int.toNat v23) [])),(22,AV.val (Ty.arr 6 (Ty.d0 false (Ty.int IntKind.i64))) v22),(23,AV.val (Ty.int IntKind.i64) v23),(44,AV.val (Ty.d0 false (Ty.int IntKind.i64)) (List.getD v22 (Int.toNat v23) [])),(45,AV.val (Ty.int IntKind.i64) (↑(List.length (List.getD v22 (Int.toNat v23) [])):Int)),(46,AV.val (Ty.int IntKind.i64) (0:Int))] [(1,f9.var (Ty.pair (Ty.pair (Ty.int IntKind.i64) (Ty.pair (Ty.int IntKind.u8) Ty.unit)) (Ty.pair (Ty.int IntKind.u8) (Ty.pair (Ty.arr 6 (Ty.d0 false (Ty.int IntKind.i64))) Ty.unit))) ((o1_1_1,o1_1_2_1,()),o1_2_1,o1_2_2_1,()))]))))) (.ret (((0:Int),()))):=by kernel_rfl
def a21 (v5:List Int) (v22:List (List Int)) (v23:Int) (v44:List Int) (v45:Int) (v46:Int) (o1_1_1:Int) (o1_1_2_1:Int) (o1_2_1:Int) (o1_2_2_1:List (List Int)):St:=St.mk [(1,AV.ptr 1 []),(5,AV.val (Ty.d0 false (Ty.int IntKind.i64)) v5),(22,AV.val (Ty.arr 6 (Ty.d0 false (Ty.int IntKind.i64))) v22),(23,AV.val (Ty.int IntKind.i64) v23),(44,AV.val (Ty.d0 false (Ty.int IntKind.i64)) v44),(45,AV.val (Ty.int IntKind.i64) v45),(46,AV.val (Ty.int IntKind.i64) v46)] [(1,f9.var (Ty.pair (Ty.pair (Ty.int IntKind.i64) (Ty.pair (Ty.int IntKind.u8) Ty.unit)) (Ty.pair (Ty.int IntKind.u8) (Ty.pair (Ty.arr 6 (Ty.d0 false (Ty.int IntKind.i64))) Ty.unit))) ((o1_1_1,o1_1_2_1,()),o1_2_1,o1_2_2_1,()))]
theorem b1K (v5:List Int) (v22:List (List Int)) (v23:Int) (v44:List Int) (v45:Int) (v46:Int) (o1_1_1:Int) (o1_1_2_1:Int) (o1_2_1:Int) (o1_2_2_1:List (List Int)):exec a15 1000 (.code (j8 (g9 Try.prog 17) 14).1::.inLoop (j8 (g9 Try.prog 17) 14).1::(j8 (g9 Try.prog 17) 14).2) (a21 v5 v22 v23 v44 v45 v46 o1_1_1 o1_1_2_1 o1_2_1 o1_2_2_1) =
  cond (decide (v46<v45)) (.n8 ((0:Int)≤v46∧v46<(↑(List.length v44):Int)) (.n8 (True) (cond (!a6i (List.getD v44 (Int.toNat v46) (0:Int))) (.ret (((4:Int),()))) (.n8 ((0:Int)≤(0:Int)∧(0:Int)≤v46∧v46≤(↑(List.length v5):Int)) (.n8 (True) (cond (decide (List.getD v44 (Int.toNat v46) (0:Int)∈G1 (0:Int) v46 v5)) (.ret (((4:Int),()))) (.n8 (A4 IntKind.i64 (v46+(1:Int))) (.cut (j8 (g9 Try.prog 17) 14).1 (j8 (g9 Try.prog 17) 14).2 (St.mk [(1,AV.ptr 1 []),(5,AV.val (Ty.d0 false (Ty.int IntKind.i64)) v5),(22,AV.val (Ty.arr 6 (Ty.d0 false (Ty.int IntKind.i64))) v22),(23,AV.val (Ty.int IntKind.i64) v23),(44,AV.val (Ty.d0 false (Ty.int IntKind.i64)) v44),(45,AV.val (Ty.int IntKind.i64) v45),(46,AV.val (Ty.int IntKind.i64) (v46+(1:Int)))] [(1,f9.var (Ty.pair (Ty.pair (Ty.int IntKind.i64) (Ty.pair (Ty.int IntKind.u8) Ty.unit)) (Ty.pair (Ty.int IntKind.u8) (Ty.pair (Ty.arr 6 (Ty.d0 false (Ty.int IntKind.i64))) Ty.unit))) ((o1_1_1,o1_1_2_1,()),o1_2_1,o1_2_2_1,()))]))))))))) (.n8 (A4 IntKind.i64 (v23+(1:Int))) (.cut (j8 (g9 Try.prog 17) 7).1 (j8 (g9 Try.prog 17) 7).2 (St.mk [(1,AV.ptr 1 []),(22,AV.val (Ty.arr 6 (Ty.d0 false (Ty.int IntKind.i64))) v22),(23,AV.val (Ty.int IntKind.i64) (v23+(1:Int)))] [(1,f9.var (Ty.pair (Ty.pair (Ty.int IntKind.i64) (Ty.pair (Ty.int IntKind.u8) Ty.unit)) (Ty.pair (Ty.int IntKind.u8) (Ty.pair (Ty.arr 6 (Ty.d0 false (Ty.int IntKind.i64))) Ty.unit))) ((o1_1_1,o1_1_2_1,()),o1_2_1,o1_2_2_1,()))]))):=by kernel_rfl
theorem nf {b:Bool} (h:b=true):¬ b=false:=by rw [h]; simp
theorem b4W {α:Type} {l:List α} {i:Nat}:G1 0 (i:Int) l=l.take i:=by
  rw [G1,show ((i:Int) - 0).toNat=i by omega]; rfl
theorem a1F:a3m.Valid Try.prog 17:=by
  refine D4.F1 a1V rfl rfl Try.func17 (c:=g9 Try.prog 17) rfl rfl a1U rfl ?_
  rintro ⟨⟨⟨(num:Int),(M:Int),⟨⟩⟩,(g:Int),(T:List (List Int)),⟨⟩⟩,⟨⟩⟩ - -
  refine r8 (n:=1000) a1V a1U ?_
  refine s5 (b5j num M g T) ?_
  have key:∀ {x:Int},B9 ((num,M,()),g,T,())=x→((x,()):Int×Unit)=(B9 ((num,M,()),g,T,()),()):=by rintro x rfl; rfl
  have hd:B9 ((num,M,()),g,T,())=if H9 (num,M,())≠0 then H9 (num,M,()) else if p8 .u8 g M≠0 then 4 else H2 (V6 M T) 6:=rfl
  simp only [x6,Tree.holds,true_and,true_implies,decide_eq_true_eq,decide_eq_false_iff_not,Bool.not_eq_true',Bool.not_eq_false',Int.toNat_natCast,F8,List.length_set,List.length_cons,List.length_nil]
  refine ⟨fun a=>key (by rw [hd,if_pos a]),fun a=>?_⟩
  rw [if_neg a] at hd
  refine ⟨fun a=>key (by rw [hd,if_pos a]),fun a=>?_⟩
  rw [if_neg a] at hd
  refine Reach.Z9 a1V a1U (fun i:Nat=>a7u T (i:Int) num M g T) (fun i=>i≤6∧H2 (V6 M T) i=0) (fun i=>6 - i) 1000 (fun _=>⟨A3 rfl,A3 rfl⟩) ?_ 0 ⟨by omega,rfl⟩
  rintro i ⟨k1,k2⟩ - ih
  have k1:i≤6:=k1
  refine s5 (b33 ..) ?_
  simp only [x6,Tree.holds,true_and,true_implies,decide_eq_true_eq,decide_eq_false_iff_not,Bool.not_eq_true',Bool.not_eq_false',Int.toNat_natCast,F8,List.length_set,List.length_cons,List.length_nil]
  refine ⟨fun c=>?_,fun c=>key (by rw [hd,show (6:Nat)=i by omega,k2])⟩
  have next:H2 (V6 M T) (i+1)=0→_:=fun h=>ih (i+1) ⟨by omega,h⟩ (by omega)
  have hT:V6 M T i=if (30:Int)<(T.getD i []).length then 2 else if (0:Int)<(T.getD i []).length∧V5 M i=0 then 4 else H2 (a4A (T.getD i [])) (T.getD i []).length:=rfl
  have stop:∀ {v:Int},v≠0→V6 M T i=v→B9 ((num,M,()),g,T,())=v:=fun hv h9=>by
    rw [hd,a2V k2 (by rw [h9]; exact hv) (by omega),h9]
  have step:=fun h:V6 M T i=0=>next (a2W k2 h)
  have hlf:R5 .u8 (M / 2^min (Int.toNat (i:Int)) (IntKind.bits .u8)) 1=V5 M i:=rfl
  generalize T.getD i []=l at *
  refine ⟨by omega,fun _=>⟨fun e=>key (stop (by decide) (by rw [hT,if_pos e])),fun e=>?_⟩⟩
  rw [if_neg e] at hT
  suffices loop:V6 M T i=H2 (a4A l) l.length→Go.Ex.Reach a15 Try.f17 (B9 ((num,M,()),g,T,()),()) () (.code (j8 (g9 Try.prog 17) 14).1::.inLoop (j8 (g9 Try.prog 17) 14).1::(j8 (g9 Try.prog 17) 14).2) (a21 l T (i:Int) l (l.length:Int) ((0:Nat):Int) num M g T) by
    refine ⟨fun h0=>⟨by omega,fun _=>⟨fun f=>key (stop (by decide) (by rw [hT,if_pos ⟨h0,f⟩])),fun f=>loop ?_⟩⟩,fun h0=>loop ?_⟩
    · rw [hT,if_neg (fun h=>f h.2)]
    · rw [hT,if_neg (fun h=>h0 h.1)]
  intro hT
  refine Reach.Z9 a1V a1U (fun k:Nat=>a21 l T (i:Int) l (l.length:Int) (k:Int) num M g T) (fun k=>k≤l.length∧H2 (a4A l) k=0) (fun k=>l.length - k) 1000 (fun _=>⟨A3 rfl,A3 rfl⟩) ?_ 0 ⟨by omega,rfl⟩
  rintro k ⟨j1,j2⟩ - ih2
  have j1:k≤l.length:=j1
  refine s5 (b1K ..) ?_
  simp only [x6,Tree.holds,true_and,true_implies,decide_eq_true_eq,decide_eq_false_iff_not,Bool.not_eq_true',Bool.not_eq_false',Int.toNat_natCast,F8,List.length_set,List.length_cons,List.length_nil,b4W]
  have hm:a4A l k=if a6i (l.getD k 0)=false then 4 else if l.getD k 0∈l.take k then 4 else 0:=rfl
  refine ⟨fun c2=>⟨by omega,fun _=>?_⟩,fun c2=>⟨by omega,fun _=>step (by rw [hT,show l.length=k by omega,j2])⟩⟩
  have stop2:a4A l k=4→V6 M T i=4:=fun h9=>by rw [hT,a2V j2 (by rw [h9]; decide) (by omega),h9]
  refine ⟨fun f=>key (stop (by decide) (stop2 (by rw [hm,if_pos f]))),fun f=>⟨by omega,fun _=>⟨fun h=>key (stop (by decide) (stop2 (by rw [hm,if_neg (nf f),if_pos h]))),fun h=>⟨by omega,fun _=>ih2 (k+1) ⟨by omega,a2W j2 (by rw [hm,if_neg (nf f),if_neg h])⟩ (by omega)⟩⟩⟩⟩
theorem a5O {v:R3} {g:Int} {T:List (List Int)} {u:Unit} (h:B9 (v,g,T,u)=0) {i k:Nat} (hi:i<6) (hk:k<(T.getD i []).length):0≤(T.getD i []).getD k 0∧(T.getD i []).getD k 0≤29:=by
  unfold B9 at h
  split at h
  · exact absurd h (by assumption)
  split at h
  · cases h
  have h:=P8.1 h i hi
  unfold V6 at h
  split at h
  · cases h
  split at h
  · cases h
  have h:=P8.1 h k hk
  unfold a4A at h
  split at h
  · cases h
  rename_i h9
  exact b2i.1 (Bool.not_eq_false _▸h9)
theorem a3V {v:R3} {g:Int} {T:List (List Int)} {u:Unit} (h:B9 (v,g,T,u)=0) {i:Nat} (hi:i<6):(T.getD i []).length≤30:=by
  unfold B9 at h
  split at h
  · exact absurd h (by assumption)
  split at h
  · cases h
  have h:=P8.1 h i hi
  by_cases h9:(30:Int)<(T.getD i []).length
  · rw [V6,if_pos h9] at h; cases h
  · omega
def a2Q (L:Int) (p:Nat) (A:List Bool) (m:Int):List Bool:=A.set m.toNat (A.getD m.toNat false || decide (V5 L p=1))
def O7 (L:Int) (T:List (List Int)):Nat→List Bool
  | 0=>List.replicate 30 false
  | p+1=>(T.getD p []).foldl (a2Q L p) (O7 L T p)
def S9 (L:Int) (A:List Bool) (T:List (List Int)) (p:Nat):Nat→List Int
  | 0=>[]
  | m+1=>S9 L A T p m++(if A.getD m false=true∧V5 L p=1∧(m:Int)∉T.getD p [] then [(m:Int)] else [])
def outs (L:Int) (A:List Bool) (T:List (List Int)):Nat→List (List Int)
  | 0=>T7
  | p+1=>(outs L A T p).set p (S9 L A T p 30)
def a9d (f:K5):Int:=p8 .u8 f.1.2.1 f.2.1
def J0 (f:K5) (c:Int):K5×List (List Int)×Int×Unit :=
  if B9 f≠0 then (N6,T7,B9 f,()) else if (H6 f.1 f.2.1 c).2.1≠0 then (N6,T7,(H6 f.1 f.2.1 c).2.1,()) else
  (((H6 f.1 f.2.1 c).1,0,T7,()),outs (a9d f) (O7 (a9d f) f.2.2.1 6) f.2.2.1 6,0,())
def a6p:D4:={ ps:=[.v a39,.v U8],rs:=[a3q,.arr 6 Is,J3],pre:=fun _=>True,fn:=fun x=>J0 x.1 x.2.1,out:=fun _=>() }
noncomputable def W3:Env:={ P:=Try.prog,tt:=tt,G8:=[(17,a3m),(126,a7e),(48,a4S)],res:=[Go.ResultVar.cell 4 27,Go.ResultVar.cell 5 25,Go.ResultVar.tmp 6],rs:=[Ty.pair (Ty.pair (Ty.int IntKind.i64) (Ty.pair (Ty.int IntKind.u8) Ty.unit)) (Ty.pair (Ty.int IntKind.u8) (Ty.pair (Ty.arr 6 Is) Ty.unit)),Ty.arr 6 Is,Ty.int IntKind.i64],ps:=[PK.v (Ty.pair (Ty.pair (Ty.int IntKind.i64) (Ty.pair (Ty.int IntKind.u8) Ty.unit)) (Ty.pair (Ty.int IntKind.u8) (Ty.pair (Ty.arr 6 (Ty.d0 false (Ty.int IntKind.i64))) Ty.unit))),PK.v (Ty.int IntKind.u8)],J6:=[(10,[(2,none),(4,none),(5,none),(8,none),(10,none),(11,none),(48,none),(49,none)]),(13,[(2,none),(4,none),(5,none),(8,none),(10,none),(11,none),(12,none),(48,none),(49,none),(53,none),(54,none),(55,none)]),(20,[(2,none),(4,none),(5,none),(8,none),(10,none),(11,none),(16,none),(73,none)]),(23,[(2,none),(4,none),(5,none),(8,none),(10,none),(11,none),(16,none),(17,none),(73,none),(76,none),(77,none)])],nt:=111 }
theorem X5:H8 W3:=L9 w7 ⟨a1F,a95,a2o,trivial⟩
theorem X4:L7 W3 Try.f21:=⟨rfl,rfl⟩
theorem b34 (x0_1_1:Int) (x0_1_2_1:Int) (x0_2_1:Int) (x0_2_2_1:List (List Int)) (x1:Int):exec W3 1000 [.code (g9 Try.prog 21)] (G9 a6p.ps ((((x0_1_1,x0_1_2_1,()),x0_2_1,x0_2_2_1,()),x1,()))) =
  .n8 (True) (cond (decide (B9 ((x0_1_1,x0_1_2_1,()),x0_2_1,x0_2_2_1,())≠(0:Int))) (.ret (((((0:Int),(0:Int),()),(0:Int),[[],[],[],[],[],[]],()),[[],[],[],[],[],[]],B9 ((x0_1_1,x0_1_2_1,()),x0_2_1,x0_2_2_1,()),()))) (.n8 (True) (cond (decide (Prod.fst (Prod.snd (H6 (x0_1_1,x0_1_2_1,()) x0_2_1 x1))≠(0:Int))) (.ret (((((0:Int),(0:Int),()),(0:Int),[[],[],[],[],[],[]],()),[[],[],[],[],[],[]],Prod.fst (Prod.snd (H6 (x0_1_1,x0_1_2_1,()) x0_2_1 x1)),()))) (.cut (j8 (g9 Try.prog 21) 10).1 (j8 (g9 Try.prog 21) 10).2 (St.mk [(2,AV.ptr 2 []),(4,AV.ptr 4 []),(5,AV.ptr 5 []),(8,AV.ptr 8 []),(10,AV.val (Ty.int IntKind.u8) (p8 IntKind.u8 x0_1_2_1 x0_2_1)),(11,AV.ptr 11 []),(48,AV.val (Ty.arr 6 (Ty.d0 false (Ty.int IntKind.i64))) x0_2_2_1),(49,AV.val (Ty.int IntKind.i64) (0:Int))] [(2,f9.var (Ty.pair (Ty.pair (Ty.int IntKind.i64) (Ty.pair (Ty.int IntKind.u8) Ty.unit)) (Ty.pair (Ty.int IntKind.u8) (Ty.pair (Ty.arr 6 (Ty.d0 false (Ty.int IntKind.i64))) Ty.unit))) ((x0_1_1,x0_1_2_1,()),x0_2_1,x0_2_2_1,())),(4,f9.var (Ty.pair (Ty.pair (Ty.int IntKind.i64) (Ty.pair (Ty.int IntKind.u8) Ty.unit)) (Ty.pair (Ty.int IntKind.u8) (Ty.pair (Ty.arr 6 Is) Ty.unit))) (((0:Int),(0:Int),()),(0:Int),[[],[],[],[],[],[]],())),(5,f9.var (Ty.arr 6 Is) [[],[],[],[],[],[]]),(8,f9.var (Ty.pair (Ty.int IntKind.i64) (Ty.pair (Ty.int IntKind.u8) Ty.unit)) (Prod.fst (H6 (x0_1_1,x0_1_2_1,()) x0_2_1 x1))),(11,f9.var (Ty.arr 30 Ty.bool) [false,false,false,false,false,false,false,false,false,false,false,false,false,false,false,false,false,false,false,false,false,false,false,false,false,false,false,false,false,false])]))))):=by kernel_rfl
def a5c (v10:Int) (v48:List (List Int)) (v49:Int) (o2_1_1:Int) (o2_1_2_1:Int) (o2_2_1:Int) (o2_2_2_1:List (List Int)) (o4_1_1:Int) (o4_1_2_1:Int) (o4_2_1:Int) (o4_2_2_1:List (List Int)) (o5:List (List Int)) (o8_1:Int) (o8_2_1:Int) (o11:List Bool):St:=St.mk [(2,AV.ptr 2 []),(4,AV.ptr 4 []),(5,AV.ptr 5 []),(8,AV.ptr 8 []),(10,AV.val (Ty.int IntKind.u8) v10),(11,AV.ptr 11 []),(48,AV.val (Ty.arr 6 (Ty.d0 false (Ty.int IntKind.i64))) v48),(49,AV.val (Ty.int IntKind.i64) v49)] [(2,f9.var (Ty.pair (Ty.pair (Ty.int IntKind.i64) (Ty.pair (Ty.int IntKind.u8) Ty.unit)) (Ty.pair (Ty.int IntKind.u8) (Ty.pair (Ty.arr 6 (Ty.d0 false (Ty.int IntKind.i64))) Ty.unit))) ((o2_1_1,o2_1_2_1,()),o2_2_1,o2_2_2_1,())),(4,f9.var (Ty.pair (Ty.pair (Ty.int IntKind.i64) (Ty.pair (Ty.int IntKind.u8) Ty.unit)) (Ty.pair (Ty.int IntKind.u8) (Ty.pair (Ty.arr 6 Is) Ty.unit))) ((o4_1_1,o4_1_2_1,()),o4_2_1,o4_2_2_1,())),(5,f9.var (Ty.arr 6 Is) o5),(8,f9.var (Ty.pair (Ty.int IntKind.i64) (Ty.pair (Ty.int IntKind.u8) Ty.unit)) (o8_1,o8_2_1,())),(11,f9.var (Ty.arr 30 Ty.bool) o11)]
theorem b0N (v10:Int) (v48:List (List Int)) (v49:Int) (o2_1_1:Int) (o2_1_2_1:Int) (o2_2_1:Int) (o2_2_2_1:List (List Int)) (o4_1_1:Int) (o4_1_2_1:Int) (o4_2_1:Int) (o4_2_2_1:List (List Int)) (o5:List (List Int)) (o8_1:Int) (o8_2_1:Int) (o11:List Bool):exec W3 1000 (.code (j8 (g9 Try.prog 21) 10).1::.inLoop (j8 (g9 Try.prog 21) 10).1::(j8 (g9 Try.prog 21) 10).2) (a5c v10 v48 v49 o2_1_1 o2_1_2_1 o2_2_1 o2_2_2_1 o4_1_1 o4_1_2_1 o4_2_1 o4_2_2_1 o5 o8_1 o8_2_1 o11) =
  cond (decide (v49<(6:Int))) (.n8 ((0:Int)≤v49∧v49<(↑6:Int)) (.cut (j8 (g9 Try.prog 21) 13).1 (j8 (g9 Try.prog 21) 13).2 (St.mk [(2,AV.ptr 2 []),(4,AV.ptr 4 []),(5,AV.ptr 5 []),(8,AV.ptr 8 []),(10,AV.val (Ty.int IntKind.u8) v10),(11,AV.ptr 11 []),(12,AV.val (Ty.int IntKind.i64) v49),(48,AV.val (Ty.arr 6 (Ty.d0 false (Ty.int IntKind.i64))) v48),(49,AV.val (Ty.int IntKind.i64) v49),(53,AV.val (Ty.d0 false (Ty.int IntKind.i64)) (List.getD v48 (Int.toNat v49) [])),(54,AV.val (Ty.int IntKind.i64) (↑(List.length (List.getD v48 (Int.toNat v49) [])):Int)),(55,AV.val (Ty.int IntKind.i64) (0:Int))] [(2,f9.var (Ty.pair (Ty.pair (Ty.int IntKind.i64) (Ty.pair (Ty.int IntKind.u8) Ty.unit)) (Ty.pair (Ty.int IntKind.u8) (Ty.pair (Ty.arr 6 (Ty.d0 false (Ty.int IntKind.i64))) Ty.unit))) ((o2_1_1,o2_1_2_1,()),o2_2_1,o2_2_2_1,())),(4,f9.var (Ty.pair (Ty.pair (Ty.int IntKind.i64) (Ty.pair (Ty.int IntKind.u8) Ty.unit)) (Ty.pair (Ty.int IntKind.u8) (Ty.pair (Ty.arr 6 Is) Ty.unit))) ((o4_1_1,o4_1_2_1,()),o4_2_1,o4_2_2_1,())),(5,f9.var (Ty.arr 6 Is) o5),(8,f9.var (Ty.pair (Ty.int IntKind.i64) (Ty.pair (Ty.int IntKind.u8) Ty.unit)) (o8_1,o8_2_1,())),(11,f9.var (Ty.arr 30 Ty.bool) o11)]))) (.cut (j8 (g9 Try.prog 21) 20).1 (j8 (g9 Try.prog 21) 20).2 (St.mk [(2,AV.ptr 2 []),(4,AV.ptr 4 []),(5,AV.ptr 5 []),(8,AV.ptr 8 []),(10,AV.val (Ty.int IntKind.u8) v10),(11,AV.ptr 11 []),(16,AV.ptr 16 []),(73,AV.val (Ty.int IntKind.i64) (0:Int))] [(2,f9.var (Ty.pair (Ty.pair (Ty.int IntKind.i64) (Ty.pair (Ty.int IntKind.u8) Ty.unit)) (Ty.pair (Ty.int IntKind.u8) (Ty.pair (Ty.arr 6 (Ty.d0 false (Ty.int IntKind.i64))) Ty.unit))) ((o2_1_1,o2_1_2_1,()),o2_2_1,o2_2_2_1,())),(4,f9.var (Ty.pair (Ty.pair (Ty.int IntKind.i64) (Ty.pair (Ty.int IntKind.u8) Ty.unit)) (Ty.pair (Ty.int IntKind.u8) (Ty.pair (Ty.arr 6 Is) Ty.unit))) ((o4_1_1,o4_1_2_1,()),o4_2_1,o4_2_2_1,())),(5,f9.var (Ty.arr 6 Is) o5),(8,f9.var (Ty.pair (Ty.int IntKind.i64) (Ty.pair (Ty.int IntKind.u8) Ty.unit)) (o8_1,o8_2_1,())),(11,f9.var (Ty.arr 30 Ty.bool) o11),(16,f9.var (Ty.arr 6 Is) [[],[],[],[],[],[]])])):=by kernel_rfl
def a5b (v10:Int) (v12:Int) (v48:List (List Int)) (v49:Int) (v53:List Int) (v54:Int) (v55:Int) (o2_1_1:Int) (o2_1_2_1:Int) (o2_2_1:Int) (o2_2_2_1:List (List Int)) (o4_1_1:Int) (o4_1_2_1:Int) (o4_2_1:Int) (o4_2_2_1:List (List Int)) (o5:List (List Int)) (o8_1:Int) (o8_2_1:Int) (o11:List Bool):St:=St.mk [(2,AV.ptr 2 []),(4,AV.ptr 4 []),(5,AV.ptr 5 []),(8,AV.ptr 8 []),(10,AV.val (Ty.int IntKind.u8) v10),(11,AV.ptr 11 []),(12,AV.val (Ty.int IntKind.i64) v12),(48,AV.val (Ty.arr 6 (Ty.d0 false (Ty.int IntKind.i64))) v48),(49,AV.val (Ty.int IntKind.i64) v49),(53,AV.val (Ty.d0 false (Ty.int IntKind.i64)) v53),(54,AV.val (Ty.int IntKind.i64) v54),(55,AV.val (Ty.int IntKind.i64) v55)] [(2,f9.var (Ty.pair (Ty.pair (Ty.int IntKind.i64) (Ty.pair (Ty.int IntKind.u8) Ty.unit)) (Ty.pair (Ty.int IntKind.u8) (Ty.pair (Ty.arr 6 (Ty.d0 false (Ty.int IntKind.i64))) Ty.unit))) ((o2_1_1,o2_1_2_1,()),o2_2_1,o2_2_2_1,())),(4,f9.var (Ty.pair (Ty.pair (Ty.int IntKind.i64) (Ty.pair (Ty.int IntKind.u8) Ty.unit)) (Ty.pair (Ty.int IntKind.u8) (Ty.pair (Ty.arr 6 Is) Ty.unit))) ((o4_1_1,o4_1_2_1,()),o4_2_1,o4_2_2_1,())),(5,f9.var (Ty.arr 6 Is) o5),(8,f9.var (Ty.pair (Ty.int IntKind.i64) (Ty.pair (Ty.int IntKind.u8) Ty.unit)) (o8_1,o8_2_1,())),(11,f9.var (Ty.arr 30 Ty.bool) o11)]
theorem b0M (v10:Int) (v12:Int) (v48:List (List Int)) (v49:Int) (v53:List Int) (v54:Int) (v55:Int) (o2_1_1:Int) (o2_1_2_1:Int) (o2_2_1:Int) (o2_2_2_1:List (List Int)) (o4_1_1:Int) (o4_1_2_1:Int) (o4_2_1:Int) (o4_2_2_1:List (List Int)) (o5:List (List Int)) (o8_1:Int) (o8_2_1:Int) (o11:List Bool):exec W3 1000 (.code (j8 (g9 Try.prog 21) 13).1::.inLoop (j8 (g9 Try.prog 21) 13).1::(j8 (g9 Try.prog 21) 13).2) (a5b v10 v12 v48 v49 v53 v54 v55 o2_1_1 o2_1_2_1 o2_2_1 o2_2_2_1 o4_1_1 o4_1_2_1 o4_2_1 o4_2_2_1 o5 o8_1 o8_2_1 o11) =
  cond (decide (v55<v54)) (.n8 ((0:Int)≤v55∧v55<(↑(List.length v53):Int)) (.n8 ((0:Int)≤List.getD v53 (Int.toNat v55) (0:Int)∧List.getD v53 (Int.toNat v55) (0:Int)<(↑30:Int)) (cond (List.getD o11 (Int.toNat (List.getD v53 (Int.toNat v55) (0:Int))) false) (.n8 ((0:Int)≤List.getD v53 (Int.toNat v55) (0:Int)∧List.getD v53 (Int.toNat v55) (0:Int)<(↑30:Int)) (.n8 (A4 IntKind.i64 (v55+(1:Int))) (.cut (j8 (g9 Try.prog 21) 13).1 (j8 (g9 Try.prog 21) 13).2 (St.mk [(2,AV.ptr 2 []),(4,AV.ptr 4 []),(5,AV.ptr 5 []),(8,AV.ptr 8 []),(10,AV.val (Ty.int IntKind.u8) v10),(11,AV.ptr 11 []),(12,AV.val (Ty.int IntKind.i64) v12),(48,AV.val (Ty.arr 6 (Ty.d0 false (Ty.int IntKind.i64))) v48),(49,AV.val (Ty.int IntKind.i64) v49),(53,AV.val (Ty.d0 false (Ty.int IntKind.i64)) v53),(54,AV.val (Ty.int IntKind.i64) v54),(55,AV.val (Ty.int IntKind.i64) (v55+(1:Int)))] [(2,f9.var (Ty.pair (Ty.pair (Ty.int IntKind.i64) (Ty.pair (Ty.int IntKind.u8) Ty.unit)) (Ty.pair (Ty.int IntKind.u8) (Ty.pair (Ty.arr 6 (Ty.d0 false (Ty.int IntKind.i64))) Ty.unit))) ((o2_1_1,o2_1_2_1,()),o2_2_1,o2_2_2_1,())),(4,f9.var (Ty.pair (Ty.pair (Ty.int IntKind.i64) (Ty.pair (Ty.int IntKind.u8) Ty.unit)) (Ty.pair (Ty.int IntKind.u8) (Ty.pair (Ty.arr 6 Is) Ty.unit))) ((o4_1_1,o4_1_2_1,()),o4_2_1,o4_2_2_1,())),(5,f9.var (Ty.arr 6 Is) o5),(8,f9.var (Ty.pair (Ty.int IntKind.i64) (Ty.pair (Ty.int IntKind.u8) Ty.unit)) (o8_1,o8_2_1,())),(11,f9.var (Ty.arr 30 Ty.bool) (List.set o11 (Int.toNat (List.getD v53 (Int.toNat v55) (0:Int))) true))])))) (.n8 ((0:Int)≤v12) (.n8 ((0:Int)≤List.getD v53 (Int.toNat v55) (0:Int)∧List.getD v53 (Int.toNat v55) (0:Int)<(↑30:Int)) (.n8 (A4 IntKind.i64 (v55+(1:Int))) (.cut (j8 (g9 Try.prog 21) 13).1 (j8 (g9 Try.prog 21) 13).2 (St.mk [(2,AV.ptr 2 []),(4,AV.ptr 4 []),(5,AV.ptr 5 []),(8,AV.ptr 8 []),(10,AV.val (Ty.int IntKind.u8) v10),(11,AV.ptr 11 []),(12,AV.val (Ty.int IntKind.i64) v12),(48,AV.val (Ty.arr 6 (Ty.d0 false (Ty.int IntKind.i64))) v48),(49,AV.val (Ty.int IntKind.i64) v49),(53,AV.val (Ty.d0 false (Ty.int IntKind.i64)) v53),(54,AV.val (Ty.int IntKind.i64) v54),(55,AV.val (Ty.int IntKind.i64) (v55+(1:Int)))] [(2,f9.var (Ty.pair (Ty.pair (Ty.int IntKind.i64) (Ty.pair (Ty.int IntKind.u8) Ty.unit)) (Ty.pair (Ty.int IntKind.u8) (Ty.pair (Ty.arr 6 (Ty.d0 false (Ty.int IntKind.i64))) Ty.unit))) ((o2_1_1,o2_1_2_1,()),o2_2_1,o2_2_2_1,())),(4,f9.var (Ty.pair (Ty.pair (Ty.int IntKind.i64) (Ty.pair (Ty.int IntKind.u8) Ty.unit)) (Ty.pair (Ty.int IntKind.u8) (Ty.pair (Ty.arr 6 Is) Ty.unit))) ((o4_1_1,o4_1_2_1,()),o4_2_1,o4_2_2_1,())),(5,f9.var (Ty.arr 6 Is) o5),(8,f9.var (Ty.pair (Ty.int IntKind.i64) (Ty.pair (Ty.int IntKind.u8) Ty.unit)) (o8_1,o8_2_1,())),(11,f9.var (Ty.arr 30 Ty.bool) (List.set o11 (Int.toNat (List.getD v53 (Int.toNat v55) (0:Int))) (decide (R5 IntKind.u8 (v10 / (2:Int)^min (Int.toNat v12) (IntKind.bits IntKind.u8)) (1:Int)=(1:Int)))))])))))))) (.n8 (A4 IntKind.i64 (v49+(1:Int))) (.cut (j8 (g9 Try.prog 21) 10).1 (j8 (g9 Try.prog 21) 10).2 (St.mk [(2,AV.ptr 2 []),(4,AV.ptr 4 []),(5,AV.ptr 5 []),(8,AV.ptr 8 []),(10,AV.val (Ty.int IntKind.u8) v10),(11,AV.ptr 11 []),(48,AV.val (Ty.arr 6 (Ty.d0 false (Ty.int IntKind.i64))) v48),(49,AV.val (Ty.int IntKind.i64) (v49+(1:Int)))] [(2,f9.var (Ty.pair (Ty.pair (Ty.int IntKind.i64) (Ty.pair (Ty.int IntKind.u8) Ty.unit)) (Ty.pair (Ty.int IntKind.u8) (Ty.pair (Ty.arr 6 (Ty.d0 false (Ty.int IntKind.i64))) Ty.unit))) ((o2_1_1,o2_1_2_1,()),o2_2_1,o2_2_2_1,())),(4,f9.var (Ty.pair (Ty.pair (Ty.int IntKind.i64) (Ty.pair (Ty.int IntKind.u8) Ty.unit)) (Ty.pair (Ty.int IntKind.u8) (Ty.pair (Ty.arr 6 Is) Ty.unit))) ((o4_1_1,o4_1_2_1,()),o4_2_1,o4_2_2_1,())),(5,f9.var (Ty.arr 6 Is) o5),(8,f9.var (Ty.pair (Ty.int IntKind.i64) (Ty.pair (Ty.int IntKind.u8) Ty.unit)) (o8_1,o8_2_1,())),(11,f9.var (Ty.arr 30 Ty.bool) o11)]))):=by kernel_rfl
def a2v (v10:Int) (v73:Int) (o2_1_1:Int) (o2_1_2_1:Int) (o2_2_1:Int) (o2_2_2_1:List (List Int)) (o4_1_1:Int) (o4_1_2_1:Int) (o4_2_1:Int) (o4_2_2_1:List (List Int)) (o5:List (List Int)) (o8_1:Int) (o8_2_1:Int) (o11:List Bool) (o16:List (List Int)):St:=St.mk [(2,AV.ptr 2 []),(4,AV.ptr 4 []),(5,AV.ptr 5 []),(8,AV.ptr 8 []),(10,AV.val (Ty.int IntKind.u8) v10),(11,AV.ptr 11 []),(16,AV.ptr 16 []),(73,AV.val (Ty.int IntKind.i64) v73)] [(2,f9.var (Ty.pair (Ty.pair (Ty.int IntKind.i64) (Ty.pair (Ty.int IntKind.u8) Ty.unit)) (Ty.pair (Ty.int IntKind.u8) (Ty.pair (Ty.arr 6 (Ty.d0 false (Ty.int IntKind.i64))) Ty.unit))) ((o2_1_1,o2_1_2_1,()),o2_2_1,o2_2_2_1,())),(4,f9.var (Ty.pair (Ty.pair (Ty.int IntKind.i64) (Ty.pair (Ty.int IntKind.u8) Ty.unit)) (Ty.pair (Ty.int IntKind.u8) (Ty.pair (Ty.arr 6 Is) Ty.unit))) ((o4_1_1,o4_1_2_1,()),o4_2_1,o4_2_2_1,())),(5,f9.var (Ty.arr 6 Is) o5),(8,f9.var (Ty.pair (Ty.int IntKind.i64) (Ty.pair (Ty.int IntKind.u8) Ty.unit)) (o8_1,o8_2_1,())),(11,f9.var (Ty.arr 30 Ty.bool) o11),(16,f9.var (Ty.arr 6 Is) o16)]
theorem b0L (v10:Int) (v73:Int) (o2_1_1:Int) (o2_1_2_1:Int) (o2_2_1:Int) (o2_2_2_1:List (List Int)) (o4_1_1:Int) (o4_1_2_1:Int) (o4_2_1:Int) (o4_2_2_1:List (List Int)) (o5:List (List Int)) (o8_1:Int) (o8_2_1:Int) (o11:List Bool) (o16:List (List Int)):exec W3 1000 (.code (j8 (g9 Try.prog 21) 20).1::.inLoop (j8 (g9 Try.prog 21) 20).1::(j8 (g9 Try.prog 21) 20).2) (a2v v10 v73 o2_1_1 o2_1_2_1 o2_2_1 o2_2_2_1 o4_1_1 o4_1_2_1 o4_2_1 o4_2_2_1 o5 o8_1 o8_2_1 o11 o16) =
  cond (decide (v73<(6:Int))) (.cut (j8 (g9 Try.prog 21) 23).1 (j8 (g9 Try.prog 21) 23).2 (St.mk [(2,AV.ptr 2 []),(4,AV.ptr 4 []),(5,AV.ptr 5 []),(8,AV.ptr 8 []),(10,AV.val (Ty.int IntKind.u8) v10),(11,AV.ptr 11 []),(16,AV.ptr 16 []),(17,AV.val (Ty.int IntKind.i64) v73),(73,AV.val (Ty.int IntKind.i64) v73),(76,AV.val (Ty.arr 30 Ty.bool) o11),(77,AV.val (Ty.int IntKind.i64) (0:Int))] [(2,f9.var (Ty.pair (Ty.pair (Ty.int IntKind.i64) (Ty.pair (Ty.int IntKind.u8) Ty.unit)) (Ty.pair (Ty.int IntKind.u8) (Ty.pair (Ty.arr 6 (Ty.d0 false (Ty.int IntKind.i64))) Ty.unit))) ((o2_1_1,o2_1_2_1,()),o2_2_1,o2_2_2_1,())),(4,f9.var (Ty.pair (Ty.pair (Ty.int IntKind.i64) (Ty.pair (Ty.int IntKind.u8) Ty.unit)) (Ty.pair (Ty.int IntKind.u8) (Ty.pair (Ty.arr 6 Is) Ty.unit))) ((o4_1_1,o4_1_2_1,()),o4_2_1,o4_2_2_1,())),(5,f9.var (Ty.arr 6 Is) o5),(8,f9.var (Ty.pair (Ty.int IntKind.i64) (Ty.pair (Ty.int IntKind.u8) Ty.unit)) (o8_1,o8_2_1,())),(11,f9.var (Ty.arr 30 Ty.bool) o11),(16,f9.var (Ty.arr 6 Is) o16)])) (.ret ((((o8_1,o8_2_1,()),(0:Int),[[],[],[],[],[],[]],()),o16,(0:Int),()))):=by kernel_rfl
def a2u (v10:Int) (v17:Int) (v73:Int) (v76:List Bool) (v77:Int) (o2_1_1:Int) (o2_1_2_1:Int) (o2_2_1:Int) (o2_2_2_1:List (List Int)) (o4_1_1:Int) (o4_1_2_1:Int) (o4_2_1:Int) (o4_2_2_1:List (List Int)) (o5:List (List Int)) (o8_1:Int) (o8_2_1:Int) (o11:List Bool) (o16:List (List Int)):St:=St.mk [(2,AV.ptr 2 []),(4,AV.ptr 4 []),(5,AV.ptr 5 []),(8,AV.ptr 8 []),(10,AV.val (Ty.int IntKind.u8) v10),(11,AV.ptr 11 []),(16,AV.ptr 16 []),(17,AV.val (Ty.int IntKind.i64) v17),(73,AV.val (Ty.int IntKind.i64) v73),(76,AV.val (Ty.arr 30 Ty.bool) v76),(77,AV.val (Ty.int IntKind.i64) v77)] [(2,f9.var (Ty.pair (Ty.pair (Ty.int IntKind.i64) (Ty.pair (Ty.int IntKind.u8) Ty.unit)) (Ty.pair (Ty.int IntKind.u8) (Ty.pair (Ty.arr 6 (Ty.d0 false (Ty.int IntKind.i64))) Ty.unit))) ((o2_1_1,o2_1_2_1,()),o2_2_1,o2_2_2_1,())),(4,f9.var (Ty.pair (Ty.pair (Ty.int IntKind.i64) (Ty.pair (Ty.int IntKind.u8) Ty.unit)) (Ty.pair (Ty.int IntKind.u8) (Ty.pair (Ty.arr 6 Is) Ty.unit))) ((o4_1_1,o4_1_2_1,()),o4_2_1,o4_2_2_1,())),(5,f9.var (Ty.arr 6 Is) o5),(8,f9.var (Ty.pair (Ty.int IntKind.i64) (Ty.pair (Ty.int IntKind.u8) Ty.unit)) (o8_1,o8_2_1,())),(11,f9.var (Ty.arr 30 Ty.bool) o11),(16,f9.var (Ty.arr 6 Is) o16)]
theorem b0K (v10:Int) (v17:Int) (v73:Int) (v76:List Bool) (v77:Int) (o2_1_1:Int) (o2_1_2_1:Int) (o2_2_1:Int) (o2_2_2_1:List (List Int)) (o4_1_1:Int) (o4_1_2_1:Int) (o4_2_1:Int) (o4_2_2_1:List (List Int)) (o5:List (List Int)) (o8_1:Int) (o8_2_1:Int) (o11:List Bool) (o16:List (List Int)):exec W3 1000 (.code (j8 (g9 Try.prog 21) 23).1::.inLoop (j8 (g9 Try.prog 21) 23).1::(j8 (g9 Try.prog 21) 23).2) (a2u v10 v17 v73 v76 v77 o2_1_1 o2_1_2_1 o2_2_1 o2_2_2_1 o4_1_1 o4_1_2_1 o4_2_1 o4_2_2_1 o5 o8_1 o8_2_1 o11 o16) =
  cond (decide (v77<(30:Int))) (.n8 ((0:Int)≤v77∧v77<(↑30:Int)) (cond (List.getD v76 (Int.toNat v77) false) (.n8 ((0:Int)≤v17) (cond (decide (R5 IntKind.u8 (v10 / (2:Int)^min (Int.toNat v17) (IntKind.bits IntKind.u8)) (1:Int)=(1:Int))) (.n8 ((0:Int)≤v17∧v17<(↑6:Int)) (.n8 (True) (cond (!decide (v77∈List.getD o2_2_2_1 (Int.toNat v17) [])) (.n8 ((0:Int)≤v17∧v17<(↑6:Int)) (.n8 (((0:Int)≤v17∧v17<(↑6:Int))∧[]++[Step.idx v17]=[]++[Step.idx v17]∧List.length (List.getD o16 (Int.toNat v17) [])+List.length (List.set [(0:Int)] (Int.toNat (↑0:Int)) v77)≤140737488355328∧(List.length (List.getD o16 (Int.toNat v17) [])+List.length (List.set [(0:Int)] (Int.toNat (↑0:Int)) v77))*Ty.wb (Ty.int IntKind.i64)≤140737488355328) (.n8 (A4 IntKind.i64 (v77+(1:Int))) (.cut (j8 (g9 Try.prog 21) 23).1 (j8 (g9 Try.prog 21) 23).2 (St.mk [(2,AV.ptr 2 []),(4,AV.ptr 4 []),(5,AV.ptr 5 []),(8,AV.ptr 8 []),(10,AV.val (Ty.int IntKind.u8) v10),(11,AV.ptr 11 []),(16,AV.ptr 16 []),(17,AV.val (Ty.int IntKind.i64) v17),(73,AV.val (Ty.int IntKind.i64) v73),(76,AV.val (Ty.arr 30 Ty.bool) v76),(77,AV.val (Ty.int IntKind.i64) (v77+(1:Int)))] [(2,f9.var (Ty.pair (Ty.pair (Ty.int IntKind.i64) (Ty.pair (Ty.int IntKind.u8) Ty.unit)) (Ty.pair (Ty.int IntKind.u8) (Ty.pair (Ty.arr 6 (Ty.d0 false (Ty.int IntKind.i64))) Ty.unit))) ((o2_1_1,o2_1_2_1,()),o2_2_1,o2_2_2_1,())),(4,f9.var (Ty.pair (Ty.pair (Ty.int IntKind.i64) (Ty.pair (Ty.int IntKind.u8) Ty.unit)) (Ty.pair (Ty.int IntKind.u8) (Ty.pair (Ty.arr 6 Is) Ty.unit))) ((o4_1_1,o4_1_2_1,()),o4_2_1,o4_2_2_1,())),(5,f9.var (Ty.arr 6 Is) o5),(8,f9.var (Ty.pair (Ty.int IntKind.i64) (Ty.pair (Ty.int IntKind.u8) Ty.unit)) (o8_1,o8_2_1,())),(11,f9.var (Ty.arr 30 Ty.bool) o11),(16,f9.var (Ty.arr 6 Is) (List.set o16 (Int.toNat v17) (List.getD o16 (Int.toNat v17) []++List.set [(0:Int)] (Int.toNat (↑0:Int)) v77)))]))))) (.n8 (A4 IntKind.i64 (v77+(1:Int))) (.cut (j8 (g9 Try.prog 21) 23).1 (j8 (g9 Try.prog 21) 23).2 (St.mk [(2,AV.ptr 2 []),(4,AV.ptr 4 []),(5,AV.ptr 5 []),(8,AV.ptr 8 []),(10,AV.val (Ty.int IntKind.u8) v10),(11,AV.ptr 11 []),(16,AV.ptr 16 []),(17,AV.val (Ty.int IntKind.i64) v17),(73,AV.val (Ty.int IntKind.i64) v73),(76,AV.val (Ty.arr 30 Ty.bool) v76),(77,AV.val (Ty.int IntKind.i64) (v77+(1:Int)))] [(2,f9.var (Ty.pair (Ty.pair (Ty.int IntKind.i64) (Ty.pair (Ty.int IntKind.u8) Ty.unit)) (Ty.pair (Ty.int IntKind.u8) (Ty.pair (Ty.arr 6 (Ty.d0 false (Ty.int IntKind.i64))) Ty.unit))) ((o2_1_1,o2_1_2_1,()),o2_2_1,o2_2_2_1,())),(4,f9.var (Ty.pair (Ty.pair (Ty.int IntKind.i64) (Ty.pair (Ty.int IntKind.u8) Ty.unit)) (Ty.pair (Ty.int IntKind.u8) (Ty.pair (Ty.arr 6 Is) Ty.unit))) ((o4_1_1,o4_1_2_1,()),o4_2_1,o4_2_2_1,())),(5,f9.var (Ty.arr 6 Is) o5),(8,f9.var (Ty.pair (Ty.int IntKind.i64) (Ty.pair (Ty.int IntKind.u8) Ty.unit)) (o8_1,o8_2_1,())),(11,f9.var (Ty.arr 30 Ty.bool) o11),(16,f9.var (Ty.arr 6 Is) o16)])))))) (.n8 (A4 IntKind.i64 (v77+(1:Int))) (.cut (j8 (g9 Try.prog 21) 23).1 (j8 (g9 Try.prog 21) 23).2 (St.mk [(2,AV.ptr 2 []),(4,AV.ptr 4 []),(5,AV.ptr 5 []),(8,AV.ptr 8 []),(10,AV.val (Ty.int IntKind.u8) v10),(11,AV.ptr 11 []),(16,AV.ptr 16 []),(17,AV.val (Ty.int IntKind.i64) v17),(73,AV.val (Ty.int IntKind.i64) v73),(76,AV.val (Ty.arr 30 Ty.bool) v76),(77,AV.val (Ty.int IntKind.i64) (v77+(1:Int)))] [(2,f9.var (Ty.pair (Ty.pair (Ty.int IntKind.i64) (Ty.pair (Ty.int IntKind.u8) Ty.unit)) (Ty.pair (Ty.int IntKind.u8) (Ty.pair (Ty.arr 6 (Ty.d0 false (Ty.int IntKind.i64))) Ty.unit))) ((o2_1_1,o2_1_2_1,()),o2_2_1,o2_2_2_1,())),(4,f9.var (Ty.pair (Ty.pair (Ty.int IntKind.i64) (Ty.pair (Ty.int IntKind.u8) Ty.unit)) (Ty.pair (Ty.int IntKind.u8) (Ty.pair (Ty.arr 6 Is) Ty.unit))) ((o4_1_1,o4_1_2_1,()),o4_2_1,o4_2_2_1,())),(5,f9.var (Ty.arr 6 Is) o5),(8,f9.var (Ty.pair (Ty.int IntKind.i64) (Ty.pair (Ty.int IntKind.u8) Ty.unit)) (o8_1,o8_2_1,())),(11,f9.var (Ty.arr 30 Ty.bool) o11),(16,f9.var (Ty.arr 6 Is) o16)]))))) (.n8 (A4 IntKind.i64 (v77+(1:Int))) (.cut (j8 (g9 Try.prog 21) 23).1 (j8 (g9 Try.prog 21) 23).2 (St.mk [(2,AV.ptr 2 []),(4,AV.ptr 4 []),(5,AV.ptr 5 []),(8,AV.ptr 8 []),(10,AV.val (Ty.int IntKind.u8) v10),(11,AV.ptr 11 []),(16,AV.ptr 16 []),(17,AV.val (Ty.int IntKind.i64) v17),(73,AV.val (Ty.int IntKind.i64) v73),(76,AV.val (Ty.arr 30 Ty.bool) v76),(77,AV.val (Ty.int IntKind.i64) (v77+(1:Int)))] [(2,f9.var (Ty.pair (Ty.pair (Ty.int IntKind.i64) (Ty.pair (Ty.int IntKind.u8) Ty.unit)) (Ty.pair (Ty.int IntKind.u8) (Ty.pair (Ty.arr 6 (Ty.d0 false (Ty.int IntKind.i64))) Ty.unit))) ((o2_1_1,o2_1_2_1,()),o2_2_1,o2_2_2_1,())),(4,f9.var (Ty.pair (Ty.pair (Ty.int IntKind.i64) (Ty.pair (Ty.int IntKind.u8) Ty.unit)) (Ty.pair (Ty.int IntKind.u8) (Ty.pair (Ty.arr 6 Is) Ty.unit))) ((o4_1_1,o4_1_2_1,()),o4_2_1,o4_2_2_1,())),(5,f9.var (Ty.arr 6 Is) o5),(8,f9.var (Ty.pair (Ty.int IntKind.i64) (Ty.pair (Ty.int IntKind.u8) Ty.unit)) (o8_1,o8_2_1,())),(11,f9.var (Ty.arr 30 Ty.bool) o11),(16,f9.var (Ty.arr 6 Is) o16)]))))) (.n8 (A4 IntKind.i64 (v73+(1:Int))) (.cut (j8 (g9 Try.prog 21) 20).1 (j8 (g9 Try.prog 21) 20).2 (St.mk [(2,AV.ptr 2 []),(4,AV.ptr 4 []),(5,AV.ptr 5 []),(8,AV.ptr 8 []),(10,AV.val (Ty.int IntKind.u8) v10),(11,AV.ptr 11 []),(16,AV.ptr 16 []),(73,AV.val (Ty.int IntKind.i64) (v73+(1:Int)))] [(2,f9.var (Ty.pair (Ty.pair (Ty.int IntKind.i64) (Ty.pair (Ty.int IntKind.u8) Ty.unit)) (Ty.pair (Ty.int IntKind.u8) (Ty.pair (Ty.arr 6 (Ty.d0 false (Ty.int IntKind.i64))) Ty.unit))) ((o2_1_1,o2_1_2_1,()),o2_2_1,o2_2_2_1,())),(4,f9.var (Ty.pair (Ty.pair (Ty.int IntKind.i64) (Ty.pair (Ty.int IntKind.u8) Ty.unit)) (Ty.pair (Ty.int IntKind.u8) (Ty.pair (Ty.arr 6 Is) Ty.unit))) ((o4_1_1,o4_1_2_1,()),o4_2_1,o4_2_2_1,())),(5,f9.var (Ty.arr 6 Is) o5),(8,f9.var (Ty.pair (Ty.int IntKind.i64) (Ty.pair (Ty.int IntKind.u8) Ty.unit)) (o8_1,o8_2_1,())),(11,f9.var (Ty.arr 30 Ty.bool) o11),(16,f9.var (Ty.arr 6 Is) o16)]))):=by kernel_rfl
theorem a9r {L:Int} {p:Nat}:∀ {l:List Int} {A:List Bool},(l.foldl (a2Q L p) A).length=A.length
  | [],_=>rfl
  | x::l,A=>by rw [List.foldl_cons,a9r,a2Q,List.length_set]
theorem a8B {L:Int} {T:List (List Int)}:∀ {p:Nat},(O7 L T p).length=30
  | 0=>by rw [O7,List.length_replicate]
  | p+1=>by rw [O7,a9r,a8B]
theorem a59 {L:Int} {A:List Bool} {T:List (List Int)}:∀ {p:Nat},(outs L A T p).length=6
  | 0=>rfl
  | p+1=>by rw [outs,List.length_set,a59]
theorem a2L {α:Type} {l:List α} {i j:Nat} {x d:α} (h:i<l.length):(l.set i x).getD j d=if j=i then x else l.getD j d:=by
  rw [List.getD_eq_getElem?_getD,List.getElem?_set,List.getD_eq_getElem?_getD]
  by_cases e:i=j
  · subst e; rw [if_pos rfl,if_pos rfl,if_pos h]; rfl
  · rw [if_neg e,if_neg (fun h=>e h.symm)]
theorem b4L {α:Type} {l:List α} {i:Nat} (h:i<l.length) (d:α):l.set i (l.getD i d)=l:=by
  rw [List.getD_eq_getElem?_getD,List.getElem?_eq_getElem h]; simp
theorem a7E {L:Int} {A:List Bool} {T:List (List Int)}:∀ {p q:Nat},p≤6→q<6→(outs L A T p).getD q []=if q<p then S9 L A T q 30 else []
  | 0,q,_,hq=>by
    rw [if_neg (by omega)]
    match q,hq with
    | 0,_=>rfl
    | 1,_=>rfl
    | 2,_=>rfl
    | 3,_=>rfl
    | 4,_=>rfl
    | 5,_=>rfl
  | p+1,q,hp,hq=>by
    rw [outs,a2L (by rw [a59]; omega),a7E (by omega) hq]
    by_cases e:q=p
    · subst e; rw [if_pos rfl,if_pos (by omega)]
    · rw [if_neg e]
      by_cases e2:q<p
      · rw [if_pos e2,if_pos (by omega)]
      · rw [if_neg e2,if_neg (by omega)]
theorem a6a {L:Int} {A:List Bool} {T:List (List Int)} {p:Nat}:∀ {m:Nat},(S9 L A T p m).length≤m
  | 0=>Nat.le_refl _
  | m+1=>by
    have:=a6a (L:=L) (A:=A) (T:=T) (p:=p) (m:=m)
    rw [S9,List.length_append]
    split<;>simp<;>omega
theorem b1n {α β:Type} {f:β→α→β} {b:β} {l:List α} {i:Nat} (h:i<l.length) (d:α):(l.take (i+1)).foldl f b=f ((l.take i).foldl f b) (l.getD i d):=by
  rw [List.take_add_one,List.foldl_append,List.getD_eq_getElem?_getD,List.getElem?_eq_getElem h]; rfl
theorem a7U:a6p.Valid Try.prog 21:=by
  refine D4.F1 X5 rfl rfl Try.func21 (c:=g9 Try.prog 21) rfl rfl X4 rfl ?_
  rintro ⟨⟨⟨(num:Int),(M:Int),⟨⟩⟩,(g:Int),(T:List (List Int)),⟨⟩⟩,(c:Int),⟨⟩⟩ - -
  refine r8 (n:=1000) X5 X4 ?_
  refine s5 (b34 num M g T c) ?_
  have key:∀ {x:K5×List (List Int)×Int×Unit},J0 ((num,M,()),g,T,()) c=x→x=J0 ((num,M,()),g,T,()) c:=fun h=>h.symm
  have hd:J0 ((num,M,()),g,T,()) c=if B9 ((num,M,()),g,T,())≠0 then (N6,T7,B9 ((num,M,()),g,T,()),()) else if (H6 (num,M,()) g c).2.1≠0 then (N6,T7,(H6 (num,M,()) g c).2.1,()) else
    (((H6 (num,M,()) g c).1,0,T7,()),outs (p8 .u8 M g) (O7 (p8 .u8 M g) T 6) T 6,0,()):=rfl
  simp only [x6,Tree.holds,true_and,true_implies,decide_eq_true_eq,decide_eq_false_iff_not,Bool.not_eq_true',Bool.not_eq_false',Int.toNat_natCast,F8,List.length_set,List.length_cons,List.length_nil]
  refine ⟨fun a=>key (by rw [hd,if_pos a]<;>rfl),fun a=>?_⟩
  rw [if_neg a] at hd
  have hmsg:∀ q,q<6→∀ k,k<(T.getD q []).length→0≤(T.getD q []).getD k 0∧(T.getD q []).getD k 0≤29:=fun q hq k hk=>a5O (Decidable.not_not.1 a) hq hk
  have hlen:∀ q,q<6→(T.getD q []).length≤30:=fun q hq=>a3V (Decidable.not_not.1 a) hq
  refine ⟨fun b=>key (by rw [hd,if_pos b]<;>rfl),fun b=>?_⟩
  rw [if_neg b] at hd
  generalize (H6 (num,M,()) g c).1=V at *
  obtain ⟨vn,vm,vu⟩:=V
  generalize p8 .u8 M g=L at *
  have fin:Go.Ex.Reach W3 Try.f21 (J0 ((num,M,()),g,T,()) c) () (.code (j8 (g9 Try.prog 21) 20).1::.inLoop (j8 (g9 Try.prog 21) 20).1::(j8 (g9 Try.prog 21) 20).2) (a2v L ((0:Nat):Int) num M g T 0 0 0 T7 T7 vn vm (O7 L T 6) T7):=by
    generalize O7 L T 6=A at *
    refine Reach.Z9 X5 X4 (fun p:Nat=>a2v L (p:Int) num M g T 0 0 0 T7 T7 vn vm A (outs L A T p)) (fun p=>p≤6) (fun p=>6 - p) 1000 (fun _=>⟨A3 rfl,A3 rfl⟩) ?_ 0 (by omega)
    rintro p k1 - ih
    have k1:p≤6:=k1
    refine s5 (b0L ..) ?_
    simp only [x6,Tree.holds,true_and,true_implies,decide_eq_true_eq,decide_eq_false_iff_not,Bool.not_eq_true',Bool.not_eq_false',Int.toNat_natCast,F8,List.length_set,List.length_cons,List.length_nil]
    refine ⟨fun h=>?_,fun h=>key (by rw [hd,show (6:Nat)=p by omega]; rfl)⟩
    have hp:p<6:=by omega
    have next:=ih (p+1) (by show p+1≤6; omega) (by omega)
    rw [outs] at next
    have hls:p<(outs L A T p).length:=by rw [a59]; exact hp
    have e0:outs L A T p=(outs L A T p).set p (S9 L A T p 0):=by
      have:=b4L hls []
      rw [a7E (by omega) hp,if_neg (by omega)] at this
      exact this.symm
    suffices hs2:Go.Ex.Reach W3 Try.f21 (J0 ((num,M,()),g,T,()) c) () (.code (j8 (g9 Try.prog 21) 23).1::.inLoop (j8 (g9 Try.prog 21) 23).1::(j8 (g9 Try.prog 21) 23).2) (a2u L (p:Int) (p:Int) A ((0:Nat):Int) num M g T 0 0 0 T7 T7 vn vm A ((outs L A T p).set p (S9 L A T p 0))) by
      rw [← e0] at hs2; exact hs2
    refine Reach.Z9 X5 X4 (fun m:Nat=>a2u L (p:Int) (p:Int) A (m:Int) num M g T 0 0 0 T7 T7 vn vm A ((outs L A T p).set p (S9 L A T p m))) (fun m=>m≤30) (fun m=>30 - m) 1000 (fun _=>⟨A3 rfl,A3 rfl⟩) ?_ 0 (by omega)
    rintro m j1 - ih2
    have j1:m≤30:=j1
    refine s5 (b0K ..) ?_
    have hpl:=a6a (L:=L) (A:=A) (T:=T) (p:=p) (m:=m)
    have hlf:R5 .u8 (L / 2^min p (IntKind.bits .u8)) 1=V5 L p:=rfl
    have hget:((outs L A T p).set p (S9 L A T p m)).getD p []=S9 L A T p m:=by rw [a2L hls,if_pos rfl]
    simp only [x6,Tree.holds,true_and,true_implies,decide_eq_true_eq,decide_eq_false_iff_not,Bool.not_eq_true',Bool.not_eq_false',Int.toNat_natCast,F8,List.length_set,List.length_cons,List.length_nil,hget,List.set_set,a9i]
    rw [hlf]
    refine ⟨fun h2=>?_,fun h2=>⟨by omega,fun _=>by rw [show m=30 by omega]; exact next⟩⟩
    have next2:=ih2 (m+1) (by show m+1≤30; omega) (by omega)
    rw [S9] at next2
    refine ⟨by omega,fun _=>⟨fun q1=>⟨by omega,fun _=>⟨fun q2=>⟨by omega,fun _=>⟨fun q3=>⟨by omega,fun _=>⟨⟨by omega,by omega,by omega⟩,fun _=>⟨by omega,fun _=>?_⟩⟩⟩,fun q3=>⟨by omega,fun _=>?_⟩⟩⟩,fun q2=>⟨by omega,fun _=>?_⟩⟩⟩,fun q1=>⟨by omega,fun _=>?_⟩⟩⟩
    · rw [if_pos ⟨q1,q2,q3⟩] at next2; exact next2
    · rw [if_neg (fun h=>h.2.2 q3),List.append_nil] at next2; exact next2
    · rw [if_neg (fun h=>q2 h.2.1),List.append_nil] at next2; exact next2
    · rw [if_neg (fun h=>nf h.1 q1),List.append_nil] at next2; exact next2
  refine Reach.Z9 X5 X4 (fun p:Nat=>a5c L T (p:Int) num M g T 0 0 0 T7 T7 vn vm (O7 L T p)) (fun p=>p≤6) (fun p=>6 - p) 1000 (fun _=>⟨A3 rfl,A3 rfl⟩) ?_ 0 (by omega)
  rintro p k1 - ih
  have k1:p≤6:=k1
  refine s5 (b0N ..) ?_
  simp only [x6,Tree.holds,true_and,true_implies,decide_eq_true_eq,decide_eq_false_iff_not,Bool.not_eq_true',Bool.not_eq_false',Int.toNat_natCast,F8,List.length_set,List.length_cons,List.length_nil]
  refine ⟨fun h=>⟨by omega,fun _=>?_⟩,fun h=>by
    have e:p=6:=by omega
    subst e; exact fin⟩
  have next:=ih (p+1) (by show p+1≤6; omega) (by omega)
  rw [O7] at next
  have hm:=hmsg p (by omega)
  have hl:=hlen p (by omega)
  have hlf:R5 .u8 (L / 2^min p (IntKind.bits .u8)) 1=V5 L p:=rfl
  generalize T.getD p []=l at *
  refine Reach.Z9 X5 X4 (fun k:Nat=>a5b L (p:Int) T (p:Int) l (l.length:Int) (k:Int) num M g T 0 0 0 T7 T7 vn vm ((l.take k).foldl (a2Q L p) (O7 L T p))) (fun k=>k≤l.length) (fun k=>l.length - k) 1000 (fun _=>⟨A3 rfl,A3 rfl⟩) ?_ 0 (by omega)
  rintro k j1 - ih2
  have j1:k≤l.length:=j1
  refine s5 (b0M ..) ?_
  simp only [x6,Tree.holds,true_and,true_implies,decide_eq_true_eq,decide_eq_false_iff_not,Bool.not_eq_true',Bool.not_eq_false',Int.toNat_natCast,F8,List.length_set,List.length_cons,List.length_nil]
  refine ⟨fun h2=>⟨by omega,fun _=>?_⟩,fun h2=>⟨by omega,fun _=>?_⟩⟩
  · have hk:k<l.length:=by omega
    have next2:=ih2 (k+1) (by show k+1≤l.length; omega) (by omega)
    rw [b1n hk 0,a2Q] at next2
    have hx:=hm k hk
    refine ⟨by omega,fun _=>⟨fun q1=>⟨by omega,fun _=>⟨by omega,fun _=>?_⟩⟩,fun q1=>⟨by omega,fun _=>⟨by omega,fun _=>⟨by omega,fun _=>?_⟩⟩⟩⟩⟩
    · rw [q1,Bool.true_or] at next2; exact next2
    · rw [q1,Bool.false_or] at next2; exact next2
  · rw [List.take_of_length_le (by omega)]; exact next
end Go.Proofs.Ytekbamiaenbhjaa
