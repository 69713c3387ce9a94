/- The contracts of the package view's functions. -/
import Derived.Test.YtekbamiaenbhjaaBase
import Derived.Test.YtekbamiaenbhjaaBitP
namespace Go.Proofs.Ytekbamiaenbhjaa
open Go.Ex
set_option maxRecDepth 100000
abbrev R3:=Int×Int×Unit
def outside (m:Int):Bool:=decide (64≤m)
def half (p o:Int):Bool:=decide (a06 o<2*a06 (R5 .u8 p o))
def H9 (v:R3):Int:=if v.1<0∨16777215<v.1∨v.2.1=0∨64≤v.2.1 then 1 else 0
def H6 (v:R3) (g c:Int):R3×Int×Unit :=
  if H9 v≠0 then ((0,0,()),H9 v,()) else if outside (bOr .u8 g c)=true then ((0,0,()),1,()) else if R5 .u8 g c≠0 then ((0,0,()),1,())
  else if v.1=16777215 then ((0,0,()),8,()) else if (!half (p8 .u8 v.2.1 g) v.2.1)=true then ((0,0,()),11,()) else ((v.1+1,bOr .u8 (p8 .u8 v.2.1 g) c,()),0,())
def a3W:D4:={ ps:=[.v U8],rs:=[.bool],pre:=fun _=>True,fn:=fun x=>(outside x.1,()),out:=fun _=>() }
def a12:D4:={ ps:=[.v View],rs:=[J3],pre:=fun _=>True,fn:=fun x=>(H9 x.1,()),out:=fun _=>() }
def b3r:D4:={ ps:=[.v U8],rs:=[J3],pre:=fun _=>True,fn:=fun x=>(a06 x.1,()),out:=fun _=>() }
def b3t:D4:={ ps:=[.v U8,.v U8],rs:=[.bool],pre:=fun _=>True,fn:=fun x=>(half x.1 x.2.1,()),out:=fun _=>() }
def a7e:D4:={ ps:=[.v View,.v U8,.v U8],rs:=[View,J3],pre:=fun _=>True,fn:=fun x=>H6 x.1 x.2.1 x.2.2.1,out:=fun _=>() }
noncomputable def a6z:Env:={ P:=Try.prog,tt:=tt,G8:=[],res:=[Go.ResultVar.tmp 2],rs:=[Ty.bool],ps:=[PK.v (Ty.int IntKind.u8)],J6:=[],nt:=6 }
theorem a5Z:H8 a6z:=L9 w7 trivial
theorem a5Y:L7 a6z Try.f218:=⟨rfl,rfl⟩
theorem b3W (x0:Int):exec a6z 1000 [.code (g9 Try.prog 218)] (G9 a3W.ps ((x0,()))) =
  .n8 ((0:Int)≤(6:Int)) (.ret ((decide (x0 / (2:Int)^min (Int.toNat (6:Int)) (IntKind.bits IntKind.u8)≠(0:Int)),()))):=by kernel_rfl
theorem a3k:a3W.Valid Try.prog 218:=by
  refine D4.F1 a5Z rfl rfl Try.func218 (c:=g9 Try.prog 218) rfl rfl a5Y rfl ?_
  rintro ⟨(x0:Int),⟨⟩⟩ - ⟨h0,-⟩
  refine r8 (n:=1000) a5Z a5Y ?_
  refine s5 (b3W x0) ?_
  refine ⟨by decide,fun _=>?_⟩
  have h:0≤x0∧x0≤255:=h0
  show (decide (x0 / 2^6≠0),())=(outside x0,())
  unfold outside
  congr 1
  exact decide_eq_decide.2 (by omega)
noncomputable def a72:Env:={ P:=Try.prog,tt:=tt,G8:=[(218,a3W)],res:=[Go.ResultVar.tmp 2],rs:=[Ty.int IntKind.i64],ps:=[PK.v (Ty.pair (Ty.int IntKind.i64) (Ty.pair (Ty.int IntKind.u8) Ty.unit))],J6:=[],nt:=21 }
theorem a7s:H8 a72:=L9 w7 ⟨a3k,trivial⟩
theorem a7q:L7 a72 Try.f121:=⟨rfl,rfl⟩
theorem b5h (x0_1:Int) (x0_2_1:Int):exec a72 1000 [.code (g9 Try.prog 121)] (G9 a12.ps (((x0_1,x0_2_1,()),()))) =
  cond (decide (x0_1<(0:Int))) (.ret (((1:Int),()))) (cond (decide ((16777215:Int)<x0_1)) (.ret (((1:Int),()))) (cond (decide (x0_2_1=(0:Int))) (.ret (((1:Int),()))) (.n8 (True) (cond (outside x0_2_1) (.ret (((1:Int),()))) (.ret (((0:Int),()))))))):=by kernel_rfl
theorem a1E:a12.Valid Try.prog 121:=by
  refine D4.F1 a7s rfl rfl Try.func121 (c:=g9 Try.prog 121) rfl rfl a7q rfl ?_
  rintro ⟨⟨(x0:Int),(x1:Int),⟨⟩⟩,⟨⟩⟩ - ⟨⟨h0,h1,-⟩,-⟩
  refine r8 (n:=1000) a7s a7q ?_
  refine s5 (b5h x0 x1) ?_
  have g0:-9223372036854775808≤x0∧x0≤9223372036854775807:=h0
  have g1:0≤x1∧x1≤255:=h1
  simp only [x6,Tree.holds,decide_eq_true_eq,decide_eq_false_iff_not]
  have key:∀ r:Int,r=H9 (x0,x1,())→((r,()):DL [Ty.int .i64])=a12.fn ((x0,x1,()),()):=by rintro r rfl; rfl
  refine ⟨fun a=>key _ ?_,fun a=>⟨fun b=>key _ ?_,fun b=>⟨fun c=>key _ ?_,fun c=>⟨trivial,fun _=>⟨fun d=>key _ ?_,fun d=>key _ ?_⟩⟩⟩⟩⟩
  all_goals simp only [H9,outside,decide_eq_true_eq,decide_eq_false_iff_not] at *
  all_goals (first|rw [if_pos (by omega)]|rw [if_neg (by omega)])
noncomputable def b3X:Env:={ P:=Try.prog,tt:=tt,G8:=[],res:=[Go.ResultVar.tmp 2],rs:=[Ty.int IntKind.i64],ps:=[PK.v (Ty.int IntKind.u8)],J6:=[],nt:=6 }
theorem b0B:H8 b3X:=L9 w7 trivial
theorem b0w:L7 b3X Try.f275:=⟨rfl,rfl⟩
theorem b7k (x0:Int):exec b3X 1000 [.code (g9 Try.prog 275)] (G9 b3r.ps ((x0,()))) =
  .n8 ((0:Int)≤x0∧x0<(↑(List.length (Array.toList (ByteArray.data (ByteArray.mk (List.toArray (List.append (List.append [(0:UInt8),(1:UInt8),(1:UInt8),(2:UInt8),(1:UInt8),(2:UInt8),(2:UInt8),(3:UInt8),(1:UInt8),(2:UInt8),(2:UInt8),(3:UInt8),(2:UInt8),(3:UInt8),(3:UInt8),(4:UInt8),(1:UInt8),(2:UInt8),(2:UInt8),(3:UInt8),(2:UInt8),(3:UInt8),(3:UInt8),(4:UInt8),(2:UInt8),(3:UInt8),(3:UInt8),(4:UInt8),(3:UInt8),(4:UInt8),(4:UInt8),(5:UInt8),(1:UInt8),(2:UInt8),(2:UInt8),(3:UInt8),(2:UInt8),(3:UInt8),(3:UInt8),(4:UInt8),(2:UInt8),(3:UInt8),(3:UInt8),(4:UInt8),(3:UInt8),(4:UInt8),(4:UInt8),(5:UInt8),(2:UInt8),(3:UInt8),(3:UInt8),(4:UInt8),(3:UInt8),(4:UInt8),(4:UInt8),(5:UInt8),(3:UInt8),(4:UInt8),(4:UInt8),(5:UInt8),(4:UInt8),(5:UInt8),(5:UInt8),(6:UInt8)] [(1:UInt8),(2:UInt8),(2:UInt8),(3:UInt8),(2:UInt8),(3:UInt8),(3:UInt8),(4:UInt8),(2:UInt8),(3:UInt8),(3:UInt8),(4:UInt8),(3:UInt8),(4:UInt8),(4:UInt8),(5:UInt8),(2:UInt8),(3:UInt8),(3:UInt8),(4:UInt8),(3:UInt8),(4:UInt8),(4:UInt8),(5:UInt8),(3:UInt8),(4:UInt8),(4:UInt8),(5:UInt8),(4:UInt8),(5:UInt8),(5:UInt8),(6:UInt8),(2:UInt8),(3:UInt8),(3:UInt8),(4:UInt8),(3:UInt8),(4:UInt8),(4:UInt8),(5:UInt8),(3:UInt8),(4:UInt8),(4:UInt8),(5:UInt8),(4:UInt8),(5:UInt8),(5:UInt8),(6:UInt8),(3:UInt8),(4:UInt8),(4:UInt8),(5:UInt8),(4:UInt8),(5:UInt8),(5:UInt8),(6:UInt8),(4:UInt8),(5:UInt8),(5:UInt8),(6:UInt8),(5:UInt8),(6:UInt8),(6:UInt8),(7:UInt8)]) (List.append [(1:UInt8),(2:UInt8),(2:UInt8),(3:UInt8),(2:UInt8),(3:UInt8),(3:UInt8),(4:UInt8),(2:UInt8),(3:UInt8),(3:UInt8),(4:UInt8),(3:UInt8),(4:UInt8),(4:UInt8),(5:UInt8),(2:UInt8),(3:UInt8),(3:UInt8),(4:UInt8),(3:UInt8),(4:UInt8),(4:UInt8),(5:UInt8),(3:UInt8),(4:UInt8),(4:UInt8),(5:UInt8),(4:UInt8),(5:UInt8),(5:UInt8),(6:UInt8),(2:UInt8),(3:UInt8),(3:UInt8),(4:UInt8),(3:UInt8),(4:UInt8),(4:UInt8),(5:UInt8),(3:UInt8),(4:UInt8),(4:UInt8),(5:UInt8),(4:UInt8),(5:UInt8),(5:UInt8),(6:UInt8),(3:UInt8),(4:UInt8),(4:UInt8),(5:UInt8),(4:UInt8),(5:UInt8),(5:UInt8),(6:UInt8),(4:UInt8),(5:UInt8),(5:UInt8),(6:UInt8),(5:UInt8),(6:UInt8),(6:UInt8),(7:UInt8)] [(2:UInt8),(3:UInt8),(3:UInt8),(4:UInt8),(3:UInt8),(4:UInt8),(4:UInt8),(5:UInt8),(3:UInt8),(4:UInt8),(4:UInt8),(5:UInt8),(4:UInt8),(5:UInt8),(5:UInt8),(6:UInt8),(3:UInt8),(4:UInt8),(4:UInt8),(5:UInt8),(4:UInt8),(5:UInt8),(5:UInt8),(6:UInt8),(4:UInt8),(5:UInt8),(5:UInt8),(6:UInt8),(5:UInt8),(6:UInt8),(6:UInt8),(7:UInt8),(3:UInt8),(4:UInt8),(4:UInt8),(5:UInt8),(4:UInt8),(5:UInt8),(5:UInt8),(6:UInt8),(4:UInt8),(5:UInt8),(5:UInt8),(6:UInt8),(5:UInt8),(6:UInt8),(6:UInt8),(7:UInt8),(4:UInt8),(5:UInt8),(5:UInt8),(6:UInt8),(5:UInt8),(6:UInt8),(6:UInt8),(7:UInt8),(5:UInt8),(6:UInt8),(6:UInt8),(7:UInt8),(6:UInt8),(7:UInt8),(7:UInt8),(8:UInt8)]))))))):Int)) (.ret ((IntKind.wrap IntKind.i64 (↑(UInt8.toNat (List.getD (Array.toList (ByteArray.data (ByteArray.mk (List.toArray (List.append (List.append [(0:UInt8),(1:UInt8),(1:UInt8),(2:UInt8),(1:UInt8),(2:UInt8),(2:UInt8),(3:UInt8),(1:UInt8),(2:UInt8),(2:UInt8),(3:UInt8),(2:UInt8),(3:UInt8),(3:UInt8),(4:UInt8),(1:UInt8),(2:UInt8),(2:UInt8),(3:UInt8),(2:UInt8),(3:UInt8),(3:UInt8),(4:UInt8),(2:UInt8),(3:UInt8),(3:UInt8),(4:UInt8),(3:UInt8),(4:UInt8),(4:UInt8),(5:UInt8),(1:UInt8),(2:UInt8),(2:UInt8),(3:UInt8),(2:UInt8),(3:UInt8),(3:UInt8),(4:UInt8),(2:UInt8),(3:UInt8),(3:UInt8),(4:UInt8),(3:UInt8),(4:UInt8),(4:UInt8),(5:UInt8),(2:UInt8),(3:UInt8),(3:UInt8),(4:UInt8),(3:UInt8),(4:UInt8),(4:UInt8),(5:UInt8),(3:UInt8),(4:UInt8),(4:UInt8),(5:UInt8),(4:UInt8),(5:UInt8),(5:UInt8),(6:UInt8)] [(1:UInt8),(2:UInt8),(2:UInt8),(3:UInt8),(2:UInt8),(3:UInt8),(3:UInt8),(4:UInt8),(2:UInt8),(3:UInt8),(3:UInt8),(4:UInt8),(3:UInt8),(4:UInt8),(4:UInt8),(5:UInt8),(2:UInt8),(3:UInt8),(3:UInt8),(4:UInt8),(3:UInt8),(4:UInt8),(4:UInt8),(5:UInt8),(3:UInt8),(4:UInt8),(4:UInt8),(5:UInt8),(4:UInt8),(5:UInt8),(5:UInt8),(6:UInt8),(2:UInt8),(3:UInt8),(3:UInt8),(4:UInt8),(3:UInt8),(4:UInt8),(4:UInt8),(5:UInt8),(3:UInt8),(4:UInt8),(4:UInt8),(5:UInt8),(4:UInt8),(5:UInt8),(5:UInt8),(6:UInt8),(3:UInt8),(4:UInt8),(4:UInt8),(5:UInt8),(4:UInt8),(5:UInt8),(5:UInt8),(6:UInt8),(4:UInt8),(5:UInt8),(5:UInt8),(6:UInt8),(5:UInt8),(6:UInt8),(6:UInt8),(7:UInt8)]) (List.append [(1:UInt8),(2:UInt8),(2:UInt8),(3:UInt8),(2:UInt8),(3:UInt8),(3:UInt8),(4:UInt8),(2:UInt8),(3:UInt8),(3:UInt8),(4:UInt8),(3:UInt8),(4:UInt8),(4:UInt8),(5:UInt8),(2:UInt8),(3:UInt8),(3:UInt8),(4:UInt8),(3:UInt8),(4:UInt8),(4:UInt8),(5:UInt8),(3:UInt8),(4:UInt8),(4:UInt8),(5:UInt8),(4:UInt8),(5:UInt8),(5:UInt8),(6:UInt8),(2:UInt8),(3:UInt8),(3:UInt8),(4:UInt8),(3:UInt8),(4:UInt8),(4:UInt8),(5:UInt8),(3:UInt8),(4:UInt8),(4:UInt8),(5:UInt8),(4:UInt8),(5:UInt8),(5:UInt8),(6:UInt8),(3:UInt8),(4:UInt8),(4:UInt8),(5:UInt8),(4:UInt8),(5:UInt8),(5:UInt8),(6:UInt8),(4:UInt8),(5:UInt8),(5:UInt8),(6:UInt8),(5:UInt8),(6:UInt8),(6:UInt8),(7:UInt8)] [(2:UInt8),(3:UInt8),(3:UInt8),(4:UInt8),(3:UInt8),(4:UInt8),(4:UInt8),(5:UInt8),(3:UInt8),(4:UInt8),(4:UInt8),(5:UInt8),(4:UInt8),(5:UInt8),(5:UInt8),(6:UInt8),(3:UInt8),(4:UInt8),(4:UInt8),(5:UInt8),(4:UInt8),(5:UInt8),(5:UInt8),(6:UInt8),(4:UInt8),(5:UInt8),(5:UInt8),(6:UInt8),(5:UInt8),(6:UInt8),(6:UInt8),(7:UInt8),(3:UInt8),(4:UInt8),(4:UInt8),(5:UInt8),(4:UInt8),(5:UInt8),(5:UInt8),(6:UInt8),(4:UInt8),(5:UInt8),(5:UInt8),(6:UInt8),(5:UInt8),(6:UInt8),(6:UInt8),(7:UInt8),(4:UInt8),(5:UInt8),(5:UInt8),(6:UInt8),(5:UInt8),(6:UInt8),(6:UInt8),(7:UInt8),(5:UInt8),(6:UInt8),(6:UInt8),(7:UInt8),(6:UInt8),(7:UInt8),(7:UInt8),(8:UInt8)])))))) (Int.toNat x0) (0:UInt8))):Int),()))):=by kernel_rfl
theorem b1s:b3r.Valid Try.prog 275:=by
  refine D4.F1 b0B rfl rfl Try.func275 (c:=g9 Try.prog 275) rfl rfl b0w rfl ?_
  rintro ⟨(x0:Int),⟨⟩⟩ - ⟨h0,-⟩
  refine r8 (n:=1000) b0B b0w ?_
  refine s5 (b7k x0) ?_
  have g0:0≤x0∧x0≤255:=h0
  obtain ⟨n,rfl⟩:∃ n:Fin 256,x0=((n.val:Nat):Int):=⟨⟨x0.toNat,by omega⟩,by simp; omega⟩
  refine ⟨?_,fun _=>?_⟩
  · clear h0 g0; revert n; decide +kernel
  · show ((_,()):Int×Unit)=(a06 n,())
    clear h0 g0; revert n; decide +kernel
noncomputable def b3Z:Env:={ P:=Try.prog,tt:=tt,G8:=[(275,b3r)],res:=[Go.ResultVar.tmp 4],rs:=[Ty.bool],ps:=[PK.v (Ty.int IntKind.u8),PK.v (Ty.int IntKind.u8)],J6:=[],nt:=13 }
theorem b0E:H8 b3Z:=L9 w7 ⟨b1s,trivial⟩
theorem b0y:L7 b3Z Try.f220:=⟨rfl,rfl⟩
theorem b7m (x0:Int) (x1:Int):exec b3Z 1000 [.code (g9 Try.prog 220)] (G9 b3t.ps ((x0,x1,()))) =
  .n8 (True) (.n8 (A4 IntKind.i64 ((2:Int)*a06 (R5 IntKind.u8 x0 x1))) (.n8 (True) (.ret ((decide (a06 x1<(2:Int)*a06 (R5 IntKind.u8 x0 x1)),()))))):=by kernel_rfl
theorem b1v:b3t.Valid Try.prog 220:=by
  refine D4.F1 b0E rfl rfl Try.func220 (c:=g9 Try.prog 220) rfl rfl b0y rfl ?_
  rintro ⟨(x0:Int),(x1:Int),⟨⟩⟩ - ⟨h0,h1,-⟩
  refine r8 (n:=1000) b0E b0y ?_
  refine s5 (b7m x0 x1) ?_
  have hb:∀ a b:Int,0≤a06 (R5 .u8 a b)∧a06 (R5 .u8 a b)≤8:=fun a b=>b6U _
  refine ⟨trivial,fun _=>⟨?_,fun _=>⟨trivial,fun _=>rfl⟩⟩⟩
  have:=hb x0 x1
  show -9223372036854775808≤_∧_≤9223372036854775807
  omega
theorem a3t {v:R3} (h:H9 v=0):0≤v.1∧v.1≤16777215∧v.2.1≠0∧v.2.1<64:=by
  unfold H9 at h
  split at h
  · cases h
  · omega
noncomputable def b0C:Env:={ P:=Try.prog,tt:=tt,G8:=[(218,a3W),(121,a12),(220,b3t)],res:=[Go.ResultVar.cell 6 23,Go.ResultVar.tmp 7],rs:=[Ty.pair (Ty.int IntKind.i64) (Ty.pair (Ty.int IntKind.u8) Ty.unit),Ty.int IntKind.i64],ps:=[PK.v (Ty.pair (Ty.int IntKind.i64) (Ty.pair (Ty.int IntKind.u8) Ty.unit)),PK.v (Ty.int IntKind.u8),PK.v (Ty.int IntKind.u8)],J6:=[],nt:=52 }
theorem a8K:H8 b0C:=L9 w7 ⟨a3k,a1E,b1v,trivial⟩
theorem a8F:L7 b0C Try.f126:=⟨rfl,rfl⟩
theorem b58 (x0_1:Int) (x0_2_1:Int) (x1:Int) (x2:Int):exec b0C 1000 [.code (g9 Try.prog 126)] (G9 a7e.ps (((x0_1,x0_2_1,()),x1,x2,()))) =
  .n8 (True) (cond (decide (H9 (x0_1,x0_2_1,())≠(0:Int))) (.ret ((((0:Int),(0:Int),()),H9 (x0_1,x0_2_1,()),()))) (.n8 (True) (cond (outside (bOr IntKind.u8 x1 x2)) (.ret ((((0:Int),(0:Int),()),(1:Int),()))) (cond (decide (R5 IntKind.u8 x1 x2≠(0:Int))) (.ret ((((0:Int),(0:Int),()),(1:Int),()))) (cond (decide (x0_1=(16777215:Int))) (.ret ((((0:Int),(0:Int),()),(8:Int),()))) (.n8 (True) (cond (!half (p8 IntKind.u8 x0_2_1 x1) x0_2_1) (.ret ((((0:Int),(0:Int),()),(11:Int),()))) (.n8 (A4 IntKind.i64 (x0_1+(1:Int))) (.ret (((x0_1+(1:Int),bOr IntKind.u8 (p8 IntKind.u8 x0_2_1 x1) x2,()),(0:Int),()))))))))))):=by kernel_rfl
theorem a95:a7e.Valid Try.prog 126:=by
  refine D4.F1 a8K rfl rfl Try.func126 (c:=g9 Try.prog 126) rfl rfl a8F rfl ?_
  rintro ⟨⟨(x0:Int),(x1:Int),⟨⟩⟩,(g:Int),(c:Int),⟨⟩⟩ - ⟨⟨h0,h1,-⟩,h2,h3,-⟩
  refine r8 (n:=1000) a8K a8F ?_
  refine s5 (b58 x0 x1 g c) ?_
  have g0:-9223372036854775808≤x0∧x0≤9223372036854775807:=h0
  have key:∀ r:R3×Int×Unit,H6 (x0,x1,()) g c=r→((r:DL [View,.int .i64])=a7e.fn ((x0,x1,()),g,c,())):=by rintro r rfl; rfl
  simp only [x6,Tree.holds,decide_eq_true_eq,decide_eq_false_iff_not]
  refine ⟨trivial,fun _=>⟨fun a=>key _ ?_,fun a=>⟨trivial,fun _=>⟨fun b=>key _ ?_,fun b=>⟨fun d=>key _ ?_,fun d=>⟨fun e=>key _ ?_,fun e=>⟨trivial,fun _=>⟨fun f=>key _ ?_,fun f=>⟨⟨?_,?_⟩,fun _=>key _ ?_⟩⟩⟩⟩⟩⟩⟩⟩⟩
  · rw [H6,if_pos a]; rfl
  · rw [H6,if_neg a,if_pos b]; rfl
  · rw [H6,if_neg a,if_neg (by simpa using b),if_pos d]; rfl
  · rw [H6,if_neg a,if_neg (by simpa using b),if_neg d,if_pos e]; rfl
  · rw [H6,if_neg a,if_neg (by simpa using b),if_neg d,if_neg e,if_pos f]; rfl
  · show -9223372036854775808≤_; omega
  · have:=(a3t (v:=(x0,x1,())) (by simpa using a)).2.1
    show x0+1≤9223372036854775807; simp only at this; omega
  · rw [H6,if_neg a,if_neg (by simpa using b),if_neg d,if_neg e,if_neg (by simpa using f)]; rfl
end Go.Proofs.Ytekbamiaenbhjaa
