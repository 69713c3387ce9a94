/- The contracts of the package view's functions. -/
import Derived.Test.YtekbamiaenbhjaaBase
import Derived.Test.YtekbamiaenbhjaaBitP
namespace Go.Proofs.Ytekbamiaenbhjaa
open Go.Ex
set_option maxRecDepth 100000
abbrev ViewD:=Int×Int×Unit
def outside (m:Int):Bool:=decide (64≤m)
def half (p o:Int):Bool:=decide (ones o<2*ones (bAnd .u8 p o))
def vcheck (v:ViewD):Int:=if v.1<0∨16777215<v.1∨v.2.1=0∨64≤v.2.1 then 1 else 0
def nextV (v:ViewD) (g c:Int):ViewD×Int×Unit :=
  if vcheck v≠0 then ((0,0,()),vcheck v,()) else if outside (bOr .u8 g c)=true then ((0,0,()),1,()) else if bAnd .u8 g c≠0 then ((0,0,()),1,())
  else if v.1=16777215 then ((0,0,()),8,()) else if (!half (bAndNot .u8 v.2.1 g) v.2.1)=true then ((0,0,()),11,()) else ((v.1+1,bOr .u8 (bAndNot .u8 v.2.1 g) c,()),0,())
def coutside:Ctr:={ ps:=[.v U8],rs:=[.bool],pre:=fun _=>True,fn:=fun x=>(outside x.1,()),out:=fun _=>() }
def cvcheck:Ctr:={ ps:=[.v View],rs:=[I64],pre:=fun _=>True,fn:=fun x=>(vcheck x.1,()),out:=fun _=>() }
def cones:Ctr:={ ps:=[.v U8],rs:=[I64],pre:=fun _=>True,fn:=fun x=>(ones x.1,()),out:=fun _=>() }
def chalf:Ctr:={ ps:=[.v U8,.v U8],rs:=[.bool],pre:=fun _=>True,fn:=fun x=>(half x.1 x.2.1,()),out:=fun _=>() }
def cnextV:Ctr:={ ps:=[.v View,.v U8,.v U8],rs:=[View,I64],pre:=fun _=>True,fn:=fun x=>nextV x.1 x.2.1 x.2.2.1,out:=fun _=>() }
noncomputable def Eoutside:Env:={ P:=Try.prog,tt:=tt,ctr:=[],res:=[Go.ResultVar.tmp 2],rs:=[Ty.bool],ps:=[PK.v (Ty.int IntKind.u8)],cuts:=[],nt:=6 }
theorem Eoutside_ok:EnvOk Eoutside:=envOk tt_ok trivial
theorem Foutside_ok:FnOk Eoutside Try.f218:=⟨rfl,rfl⟩
theorem Eoutside_t (x0:Int):exec Eoutside 1000 [.code (bodyOf Try.prog 218)] (initSt coutside.ps ((x0,()))) =
  .need ((0:Int)≤(6:Int)) (.ret ((decide (x0 / (2:Int)^min (Int.toNat (6:Int)) (IntKind.bits IntKind.u8)≠(0:Int)),()))):=by kernel_rfl
theorem coutside_valid:coutside.Valid Try.prog 218:=by
  refine Ctr.valid_of Eoutside_ok rfl rfl Try.func218 (c:=bodyOf Try.prog 218) rfl rfl Foutside_ok rfl ?_
  rintro ⟨(x0:Int),⟨⟩⟩ - ⟨h0,-⟩
  refine exec_sound (n:=1000) Eoutside_ok Foutside_ok ?_
  refine holds_of_eq (Eoutside_t x0) ?_
  refine ⟨by decide,fun _=>?_⟩
  have h:0≤x0∧x0≤255:=h0
  show (decide (x0 / 2^6≠0),())=(outside x0,())
  unfold outside
  congr 1
  exact decide_eq_decide.2 (by omega)
noncomputable def Evcheck:Env:={ P:=Try.prog,tt:=tt,ctr:=[(218,coutside)],res:=[Go.ResultVar.tmp 2],rs:=[Ty.int IntKind.i64],ps:=[PK.v (Ty.pair (Ty.int IntKind.i64) (Ty.pair (Ty.int IntKind.u8) Ty.unit))],cuts:=[],nt:=21 }
theorem Evcheck_ok:EnvOk Evcheck:=envOk tt_ok ⟨coutside_valid,trivial⟩
theorem Fvcheck_ok:FnOk Evcheck Try.f121:=⟨rfl,rfl⟩
theorem Evcheck_t (x0_1:Int) (x0_2_1:Int):exec Evcheck 1000 [.code (bodyOf Try.prog 121)] (initSt cvcheck.ps (((x0_1,x0_2_1,()),()))) =
  cond (decide (x0_1<(0:Int))) (.ret (((1:Int),()))) (cond (decide ((16777215:Int)<x0_1)) (.ret (((1:Int),()))) (cond (decide (x0_2_1=(0:Int))) (.ret (((1:Int),()))) (.need (True) (cond (outside x0_2_1) (.ret (((1:Int),()))) (.ret (((0:Int),()))))))):=by kernel_rfl
theorem cvcheck_valid:cvcheck.Valid Try.prog 121:=by
  refine Ctr.valid_of Evcheck_ok rfl rfl Try.func121 (c:=bodyOf Try.prog 121) rfl rfl Fvcheck_ok rfl ?_
  rintro ⟨⟨(x0:Int),(x1:Int),⟨⟩⟩,⟨⟩⟩ - ⟨⟨h0,h1,-⟩,-⟩
  refine exec_sound (n:=1000) Evcheck_ok Fvcheck_ok ?_
  refine holds_of_eq (Evcheck_t x0 x1) ?_
  have g0:-9223372036854775808≤x0∧x0≤9223372036854775807:=h0
  have g1:0≤x1∧x1≤255:=h1
  simp only [holds_cond,Tree.holds,decide_eq_true_eq,decide_eq_false_iff_not]
  have key:∀ r:Int,r=vcheck (x0,x1,())→((r,()):DL [Ty.int .i64])=cvcheck.fn ((x0,x1,()),()):=by rintro r rfl; rfl
  refine ⟨fun a=>key _ ?_,fun a=>⟨fun b=>key _ ?_,fun b=>⟨fun c=>key _ ?_,fun c=>⟨trivial,fun _=>⟨fun d=>key _ ?_,fun d=>key _ ?_⟩⟩⟩⟩⟩
  all_goals simp only [vcheck,outside,decide_eq_true_eq,decide_eq_false_iff_not] at *
  all_goals (first|rw [if_pos (by omega)]|rw [if_neg (by omega)])
noncomputable def Eones:Env:={ P:=Try.prog,tt:=tt,ctr:=[],res:=[Go.ResultVar.tmp 2],rs:=[Ty.int IntKind.i64],ps:=[PK.v (Ty.int IntKind.u8)],cuts:=[],nt:=6 }
theorem Eones_ok:EnvOk Eones:=envOk tt_ok trivial
theorem Fones_ok:FnOk Eones Try.f275:=⟨rfl,rfl⟩
theorem Eones_t (x0:Int):exec Eones 1000 [.code (bodyOf Try.prog 275)] (initSt cones.ps ((x0,()))) =
  .need ((0:Int)≤x0∧x0<(↑(List.length (Array.toList (ByteArray.data (ByteArray.mk (List.toArray (List.append (List.append [(0:UInt8),(1:UInt8),(1:UInt8),(2:UInt8),(1:UInt8),(2:UInt8),(2:UInt8),(3:UInt8),(1:UInt8),(2:UInt8),(2:UInt8),(3:UInt8),(2:UInt8),(3:UInt8),(3:UInt8),(4:UInt8),(1:UInt8),(2:UInt8),(2:UInt8),(3:UInt8),(2:UInt8),(3:UInt8),(3:UInt8),(4:UInt8),(2:UInt8),(3:UInt8),(3:UInt8),(4:UInt8),(3:UInt8),(4:UInt8),(4:UInt8),(5:UInt8),(1:UInt8),(2:UInt8),(2:UInt8),(3:UInt8),(2:UInt8),(3:UInt8),(3:UInt8),(4:UInt8),(2:UInt8),(3:UInt8),(3:UInt8),(4:UInt8),(3:UInt8),(4:UInt8),(4:UInt8),(5:UInt8),(2:UInt8),(3:UInt8),(3:UInt8),(4:UInt8),(3:UInt8),(4:UInt8),(4:UInt8),(5:UInt8),(3:UInt8),(4:UInt8),(4:UInt8),(5:UInt8),(4:UInt8),(5:UInt8),(5:UInt8),(6:UInt8)] [(1:UInt8),(2:UInt8),(2:UInt8),(3:UInt8),(2:UInt8),(3:UInt8),(3:UInt8),(4:UInt8),(2:UInt8),(3:UInt8),(3:UInt8),(4:UInt8),(3:UInt8),(4:UInt8),(4:UInt8),(5:UInt8),(2:UInt8),(3:UInt8),(3:UInt8),(4:UInt8),(3:UInt8),(4:UInt8),(4:UInt8),(5:UInt8),(3:UInt8),(4:UInt8),(4:UInt8),(5:UInt8),(4:UInt8),(5:UInt8),(5:UInt8),(6:UInt8),(2:UInt8),(3:UInt8),(3:UInt8),(4:UInt8),(3:UInt8),(4:UInt8),(4:UInt8),(5:UInt8),(3:UInt8),(4:UInt8),(4:UInt8),(5:UInt8),(4:UInt8),(5:UInt8),(5:UInt8),(6:UInt8),(3:UInt8),(4:UInt8),(4:UInt8),(5:UInt8),(4:UInt8),(5:UInt8),(5:UInt8),(6:UInt8),(4:UInt8),(5:UInt8),(5:UInt8),(6:UInt8),(5:UInt8),(6:UInt8),(6:UInt8),(7:UInt8)]) (List.append [(1:UInt8),(2:UInt8),(2:UInt8),(3:UInt8),(2:UInt8),(3:UInt8),(3:UInt8),(4:UInt8),(2:UInt8),(3:UInt8),(3:UInt8),(4:UInt8),(3:UInt8),(4:UInt8),(4:UInt8),(5:UInt8),(2:UInt8),(3:UInt8),(3:UInt8),(4:UInt8),(3:UInt8),(4:UInt8),(4:UInt8),(5:UInt8),(3:UInt8),(4:UInt8),(4:UInt8),(5:UInt8),(4:UInt8),(5:UInt8),(5:UInt8),(6:UInt8),(2:UInt8),(3:UInt8),(3:UInt8),(4:UInt8),(3:UInt8),(4:UInt8),(4:UInt8),(5:UInt8),(3:UInt8),(4:UInt8),(4:UInt8),(5:UInt8),(4:UInt8),(5:UInt8),(5:UInt8),(6:UInt8),(3:UInt8),(4:UInt8),(4:UInt8),(5:UInt8),(4:UInt8),(5:UInt8),(5:UInt8),(6:UInt8),(4:UInt8),(5:UInt8),(5:UInt8),(6:UInt8),(5:UInt8),(6:UInt8),(6:UInt8),(7:UInt8)] [(2:UInt8),(3:UInt8),(3:UInt8),(4:UInt8),(3:UInt8),(4:UInt8),(4:UInt8),(5:UInt8),(3:UInt8),(4:UInt8),(4:UInt8),(5:UInt8),(4:UInt8),(5:UInt8),(5:UInt8),(6:UInt8),(3:UInt8),(4:UInt8),(4:UInt8),(5:UInt8),(4:UInt8),(5:UInt8),(5:UInt8),(6:UInt8),(4:UInt8),(5:UInt8),(5:UInt8),(6:UInt8),(5:UInt8),(6:UInt8),(6:UInt8),(7:UInt8),(3:UInt8),(4:UInt8),(4:UInt8),(5:UInt8),(4:UInt8),(5:UInt8),(5:UInt8),(6:UInt8),(4:UInt8),(5:UInt8),(5:UInt8),(6:UInt8),(5:UInt8),(6:UInt8),(6:UInt8),(7:UInt8),(4:UInt8),(5:UInt8),(5:UInt8),(6:UInt8),(5:UInt8),(6:UInt8),(6:UInt8),(7:UInt8),(5:UInt8),(6:UInt8),(6:UInt8),(7:UInt8),(6:UInt8),(7:UInt8),(7:UInt8),(8:UInt8)]))))))):Int)) (.ret ((IntKind.wrap IntKind.i64 (↑(UInt8.toNat (List.getD (Array.toList (ByteArray.data (ByteArray.mk (List.toArray (List.append (List.append [(0:UInt8),(1:UInt8),(1:UInt8),(2:UInt8),(1:UInt8),(2:UInt8),(2:UInt8),(3:UInt8),(1:UInt8),(2:UInt8),(2:UInt8),(3:UInt8),(2:UInt8),(3:UInt8),(3:UInt8),(4:UInt8),(1:UInt8),(2:UInt8),(2:UInt8),(3:UInt8),(2:UInt8),(3:UInt8),(3:UInt8),(4:UInt8),(2:UInt8),(3:UInt8),(3:UInt8),(4:UInt8),(3:UInt8),(4:UInt8),(4:UInt8),(5:UInt8),(1:UInt8),(2:UInt8),(2:UInt8),(3:UInt8),(2:UInt8),(3:UInt8),(3:UInt8),(4:UInt8),(2:UInt8),(3:UInt8),(3:UInt8),(4:UInt8),(3:UInt8),(4:UInt8),(4:UInt8),(5:UInt8),(2:UInt8),(3:UInt8),(3:UInt8),(4:UInt8),(3:UInt8),(4:UInt8),(4:UInt8),(5:UInt8),(3:UInt8),(4:UInt8),(4:UInt8),(5:UInt8),(4:UInt8),(5:UInt8),(5:UInt8),(6:UInt8)] [(1:UInt8),(2:UInt8),(2:UInt8),(3:UInt8),(2:UInt8),(3:UInt8),(3:UInt8),(4:UInt8),(2:UInt8),(3:UInt8),(3:UInt8),(4:UInt8),(3:UInt8),(4:UInt8),(4:UInt8),(5:UInt8),(2:UInt8),(3:UInt8),(3:UInt8),(4:UInt8),(3:UInt8),(4:UInt8),(4:UInt8),(5:UInt8),(3:UInt8),(4:UInt8),(4:UInt8),(5:UInt8),(4:UInt8),(5:UInt8),(5:UInt8),(6:UInt8),(2:UInt8),(3:UInt8),(3:UInt8),(4:UInt8),(3:UInt8),(4:UInt8),(4:UInt8),(5:UInt8),(3:UInt8),(4:UInt8),(4:UInt8),(5:UInt8),(4:UInt8),(5:UInt8),(5:UInt8),(6:UInt8),(3:UInt8),(4:UInt8),(4:UInt8),(5:UInt8),(4:UInt8),(5:UInt8),(5:UInt8),(6:UInt8),(4:UInt8),(5:UInt8),(5:UInt8),(6:UInt8),(5:UInt8),(6:UInt8),(6:UInt8),(7:UInt8)]) (List.append [(1:UInt8),(2:UInt8),(2:UInt8),(3:UInt8),(2:UInt8),(3:UInt8),(3:UInt8),(4:UInt8),(2:UInt8),(3:UInt8),(3:UInt8),(4:UInt8),(3:UInt8),(4:UInt8),(4:UInt8),(5:UInt8),(2:UInt8),(3:UInt8),(3:UInt8),(4:UInt8),(3:UInt8),(4:UInt8),(4:UInt8),(5:UInt8),(3:UInt8),(4:UInt8),(4:UInt8),(5:UInt8),(4:UInt8),(5:UInt8),(5:UInt8),(6:UInt8),(2:UInt8),(3:UInt8),(3:UInt8),(4:UInt8),(3:UInt8),(4:UInt8),(4:UInt8),(5:UInt8),(3:UInt8),(4:UInt8),(4:UInt8),(5:UInt8),(4:UInt8),(5:UInt8),(5:UInt8),(6:UInt8),(3:UInt8),(4:UInt8),(4:UInt8),(5:UInt8),(4:UInt8),(5:UInt8),(5:UInt8),(6:UInt8),(4:UInt8),(5:UInt8),(5:UInt8),(6:UInt8),(5:UInt8),(6:UInt8),(6:UInt8),(7:UInt8)] [(2:UInt8),(3:UInt8),(3:UInt8),(4:UInt8),(3:UInt8),(4:UInt8),(4:UInt8),(5:UInt8),(3:UInt8),(4:UInt8),(4:UInt8),(5:UInt8),(4:UInt8),(5:UInt8),(5:UInt8),(6:UInt8),(3:UInt8),(4:UInt8),(4:UInt8),(5:UInt8),(4:UInt8),(5:UInt8),(5:UInt8),(6:UInt8),(4:UInt8),(5:UInt8),(5:UInt8),(6:UInt8),(5:UInt8),(6:UInt8),(6:UInt8),(7:UInt8),(3:UInt8),(4:UInt8),(4:UInt8),(5:UInt8),(4:UInt8),(5:UInt8),(5:UInt8),(6:UInt8),(4:UInt8),(5:UInt8),(5:UInt8),(6:UInt8),(5:UInt8),(6:UInt8),(6:UInt8),(7:UInt8),(4:UInt8),(5:UInt8),(5:UInt8),(6:UInt8),(5:UInt8),(6:UInt8),(6:UInt8),(7:UInt8),(5:UInt8),(6:UInt8),(6:UInt8),(7:UInt8),(6:UInt8),(7:UInt8),(7:UInt8),(8:UInt8)])))))) (Int.toNat x0) (0:UInt8))):Int),()))):=by kernel_rfl
theorem cones_valid:cones.Valid Try.prog 275:=by
  refine Ctr.valid_of Eones_ok rfl rfl Try.func275 (c:=bodyOf Try.prog 275) rfl rfl Fones_ok rfl ?_
  rintro ⟨(x0:Int),⟨⟩⟩ - ⟨h0,-⟩
  refine exec_sound (n:=1000) Eones_ok Fones_ok ?_
  refine holds_of_eq (Eones_t x0) ?_
  have g0:0≤x0∧x0≤255:=h0
  obtain ⟨n,rfl⟩:∃ n:Fin 256,x0=((n.val:Nat):Int):=⟨⟨x0.toNat,by omega⟩,by simp; omega⟩
  refine ⟨?_,fun _=>?_⟩
  · clear h0 g0; revert n; decide +kernel
  · show ((_,()):Int×Unit)=(ones n,())
    clear h0 g0; revert n; decide +kernel
noncomputable def Ehalf:Env:={ P:=Try.prog,tt:=tt,ctr:=[(275,cones)],res:=[Go.ResultVar.tmp 4],rs:=[Ty.bool],ps:=[PK.v (Ty.int IntKind.u8),PK.v (Ty.int IntKind.u8)],cuts:=[],nt:=13 }
theorem Ehalf_ok:EnvOk Ehalf:=envOk tt_ok ⟨cones_valid,trivial⟩
theorem Fhalf_ok:FnOk Ehalf Try.f220:=⟨rfl,rfl⟩
theorem Ehalf_t (x0:Int) (x1:Int):exec Ehalf 1000 [.code (bodyOf Try.prog 220)] (initSt chalf.ps ((x0,x1,()))) =
  .need (True) (.need (inK IntKind.i64 ((2:Int)*ones (bAnd IntKind.u8 x0 x1))) (.need (True) (.ret ((decide (ones x1<(2:Int)*ones (bAnd IntKind.u8 x0 x1)),()))))):=by kernel_rfl
theorem chalf_valid:chalf.Valid Try.prog 220:=by
  refine Ctr.valid_of Ehalf_ok rfl rfl Try.func220 (c:=bodyOf Try.prog 220) rfl rfl Fhalf_ok rfl ?_
  rintro ⟨(x0:Int),(x1:Int),⟨⟩⟩ - ⟨h0,h1,-⟩
  refine exec_sound (n:=1000) Ehalf_ok Fhalf_ok ?_
  refine holds_of_eq (Ehalf_t x0 x1) ?_
  have hb:∀ a b:Int,0≤ones (bAnd .u8 a b)∧ones (bAnd .u8 a b)≤8:=fun a b=>ones_le _
  refine ⟨trivial,fun _=>⟨?_,fun _=>⟨trivial,fun _=>rfl⟩⟩⟩
  have:=hb x0 x1
  show -9223372036854775808≤_∧_≤9223372036854775807
  omega
theorem vcheck_inv {v:ViewD} (h:vcheck v=0):0≤v.1∧v.1≤16777215∧v.2.1≠0∧v.2.1<64:=by
  unfold vcheck at h
  split at h
  · cases h
  · omega
noncomputable def EnextV:Env:={ P:=Try.prog,tt:=tt,ctr:=[(218,coutside),(121,cvcheck),(220,chalf)],res:=[Go.ResultVar.cell 6 23,Go.ResultVar.tmp 7],rs:=[Ty.pair (Ty.int IntKind.i64) (Ty.pair (Ty.int IntKind.u8) Ty.unit),Ty.int IntKind.i64],ps:=[PK.v (Ty.pair (Ty.int IntKind.i64) (Ty.pair (Ty.int IntKind.u8) Ty.unit)),PK.v (Ty.int IntKind.u8),PK.v (Ty.int IntKind.u8)],cuts:=[],nt:=52 }
theorem EnextV_ok:EnvOk EnextV:=envOk tt_ok ⟨coutside_valid,cvcheck_valid,chalf_valid,trivial⟩
theorem FnextV_ok:FnOk EnextV Try.f126:=⟨rfl,rfl⟩
theorem EnextV_t (x0_1:Int) (x0_2_1:Int) (x1:Int) (x2:Int):exec EnextV 1000 [.code (bodyOf Try.prog 126)] (initSt cnextV.ps (((x0_1,x0_2_1,()),x1,x2,()))) =
  .need (True) (cond (decide (vcheck (x0_1,x0_2_1,())≠(0:Int))) (.ret ((((0:Int),(0:Int),()),vcheck (x0_1,x0_2_1,()),()))) (.need (True) (cond (outside (bOr IntKind.u8 x1 x2)) (.ret ((((0:Int),(0:Int),()),(1:Int),()))) (cond (decide (bAnd IntKind.u8 x1 x2≠(0:Int))) (.ret ((((0:Int),(0:Int),()),(1:Int),()))) (cond (decide (x0_1=(16777215:Int))) (.ret ((((0:Int),(0:Int),()),(8:Int),()))) (.need (True) (cond (!half (bAndNot IntKind.u8 x0_2_1 x1) x0_2_1) (.ret ((((0:Int),(0:Int),()),(11:Int),()))) (.need (inK IntKind.i64 (x0_1+(1:Int))) (.ret (((x0_1+(1:Int),bOr IntKind.u8 (bAndNot IntKind.u8 x0_2_1 x1) x2,()),(0:Int),()))))))))))):=by kernel_rfl
theorem cnextV_valid:cnextV.Valid Try.prog 126:=by
  refine Ctr.valid_of EnextV_ok rfl rfl Try.func126 (c:=bodyOf Try.prog 126) rfl rfl FnextV_ok rfl ?_
  rintro ⟨⟨(x0:Int),(x1:Int),⟨⟩⟩,(g:Int),(c:Int),⟨⟩⟩ - ⟨⟨h0,h1,-⟩,h2,h3,-⟩
  refine exec_sound (n:=1000) EnextV_ok FnextV_ok ?_
  refine holds_of_eq (EnextV_t x0 x1 g c) ?_
  have g0:-9223372036854775808≤x0∧x0≤9223372036854775807:=h0
  have key:∀ r:ViewD×Int×Unit,nextV (x0,x1,()) g c=r→((r:DL [View,.int .i64])=cnextV.fn ((x0,x1,()),g,c,())):=by rintro r rfl; rfl
  simp only [holds_cond,Tree.holds,decide_eq_true_eq,decide_eq_false_iff_not]
  refine ⟨trivial,fun _=>⟨fun a=>key _ ?_,fun a=>⟨trivial,fun _=>⟨fun b=>key _ ?_,fun b=>⟨fun d=>key _ ?_,fun d=>⟨fun e=>key _ ?_,fun e=>⟨trivial,fun _=>⟨fun f=>key _ ?_,fun f=>⟨⟨?_,?_⟩,fun _=>key _ ?_⟩⟩⟩⟩⟩⟩⟩⟩⟩
  · rw [nextV,if_pos a]; rfl
  · rw [nextV,if_neg a,if_pos b]; rfl
  · rw [nextV,if_neg a,if_neg (by simpa using b),if_pos d]; rfl
  · rw [nextV,if_neg a,if_neg (by simpa using b),if_neg d,if_pos e]; rfl
  · rw [nextV,if_neg a,if_neg (by simpa using b),if_neg d,if_neg e,if_pos f]; rfl
  · show -9223372036854775808≤_; omega
  · have:=(vcheck_inv (v:=(x0,x1,())) (by simpa using a)).2.1
    show x0+1≤9223372036854775807; simp only at this; omega
  · rw [nextV,if_neg a,if_neg (by simpa using b),if_neg d,if_neg e,if_neg (by simpa using f)]; rfl
end Go.Proofs.Ytekbamiaenbhjaa
