/- The contracts of the package flush's functions; FlushTrue. -/
import Derived.Test.YtekbamiaenbhjaaView
namespace Go.Proofs.Ytekbamiaenbhjaa
open Go.Ex
set_option maxRecDepth 100000
abbrev FlushD:=ViewD×Int×List (List Int)×Unit
def cfin:Ctr:={ ps:=[.v I64,.v I64,.v I64],rs:=[.bool],pre:=fun _=>True,fn:=fun x=>(inF x.1 x.2.1 x.2.2.1,()),out:=fun _=>() }
noncomputable def Efin:Env:={ P:=Try.prog,tt:=tt,ctr:=[],res:=[Go.ResultVar.tmp 6],rs:=[Ty.bool],ps:=[PK.v (Ty.int IntKind.i64),PK.v (Ty.int IntKind.i64),PK.v (Ty.int IntKind.i64)],cuts:=[],nt:=15 }
theorem Efin_ok:EnvOk Efin:=envOk tt_ok trivial
theorem Ffin_ok:FnOk Efin Try.f219:=⟨rfl,rfl⟩
theorem Efin_t (x0:Int) (x1:Int) (x2:Int):exec Efin 1000 [.code (bodyOf Try.prog 219)] (initSt cfin.ps ((x0,x1,x2,()))) =
  cond (decide (x1≤x0)) (.ret ((decide (x0≤x2),()))) (.ret ((false,()))):=by kernel_rfl
theorem cfin_valid:cfin.Valid Try.prog 219:=by
  refine Ctr.valid_of Efin_ok rfl rfl Try.func219 (c:=bodyOf Try.prog 219) rfl rfl Ffin_ok rfl ?_
  rintro ⟨(a:Int),(b:Int),(c:Int),⟨⟩⟩ - -
  refine exec_sound (n:=1000) Efin_ok Ffin_ok ?_
  refine holds_of_eq (Efin_t a b c) ?_
  simp only [holds_cond,Tree.holds,true_and,true_implies,decide_eq_true_eq,decide_eq_false_iff_not,Bool.not_eq_true',Bool.not_eq_false',Int.toNat_natCast,inK_i64,List.length_set,List.length_cons,List.length_nil]
  repeat' first|exact trivial|(refine And.intro ?_ ?_)|(intro _)
  all_goals (show ((_,()):Bool×Unit)=(inF a b c,()); simp [inF, *])
def fmsg (m:Int):Bool:=inF m 0 29
def cfmsg:Ctr:={ ps:=[.v I64],rs:=[.bool],pre:=fun _=>True,fn:=fun x=>(fmsg x.1,()),out:=fun _=>() }
noncomputable def Efmsg:Env:={ P:=Try.prog,tt:=tt,ctr:=[(219,cfin)],res:=[Go.ResultVar.tmp 2],rs:=[Ty.bool],ps:=[PK.v (Ty.int IntKind.i64)],cuts:=[],nt:=5 }
theorem Efmsg_ok:EnvOk Efmsg:=envOk tt_ok ⟨cfin_valid,trivial⟩
theorem Ffmsg_ok:FnOk Efmsg Try.f124:=⟨rfl,rfl⟩
theorem Efmsg_t (x0:Int):exec Efmsg 1000 [.code (bodyOf Try.prog 124)] (initSt cfmsg.ps ((x0,()))) =
  .need (True) (.ret ((inF x0 (0:Int) (29:Int),()))):=by kernel_rfl
theorem cfmsg_valid:cfmsg.Valid Try.prog 124:=by
  refine Ctr.valid_of Efmsg_ok rfl rfl Try.func124 (c:=bodyOf Try.prog 124) rfl rfl Ffmsg_ok rfl ?_
  rintro ⟨(m:Int),⟨⟩⟩ - -
  refine exec_sound (n:=1000) Efmsg_ok Ffmsg_ok ?_
  refine holds_of_eq (Efmsg_t m) ?_
  exact ⟨trivial,fun _=>rfl⟩
def no6:List (List Int):=[[],[],[],[],[],[]]
def flush0:FlushD:=((0,0,()),0,no6,())
def fnew (m:Int):FlushD×Int×Unit:=if vcheck (0,m,())≠0 then (flush0,vcheck (0,m,()),()) else (((0,m,()),0,no6,()),0,())
def cfnew:Ctr:={ ps:=[.v U8],rs:=[FlushO,I64],pre:=fun _=>True,fn:=fun x=>fnew x.1,out:=fun _=>() }
noncomputable def Efnew:Env:={ P:=Try.prog,tt:=tt,ctr:=[(121,cvcheck)],res:=[Go.ResultVar.cell 2 27,Go.ResultVar.tmp 3],rs:=[Ty.pair (Ty.pair (Ty.int IntKind.i64) (Ty.pair (Ty.int IntKind.u8) Ty.unit)) (Ty.pair (Ty.int IntKind.u8) (Ty.pair (Ty.arr 6 Is) Ty.unit)),Ty.int IntKind.i64],ps:=[PK.v (Ty.int IntKind.u8)],cuts:=[],nt:=17 }
theorem Efnew_ok:EnvOk Efnew:=envOk tt_ok ⟨cvcheck_valid,trivial⟩
theorem Ffnew_ok:FnOk Efnew Try.f14:=⟨rfl,rfl⟩
theorem Efnew_t (x0:Int):exec Efnew 1000 [.code (bodyOf Try.prog 14)] (initSt cfnew.ps ((x0,()))) =
  .need (True) (cond (decide (vcheck ((0:Int),x0,())≠(0:Int))) (.ret (((((0:Int),(0:Int),()),(0:Int),[[],[],[],[],[],[]],()),vcheck ((0:Int),x0,()),()))) (.ret (((((0:Int),x0,()),(0:Int),[[],[],[],[],[],[]],()),(0:Int),())))):=by kernel_rfl
attribute [local irreducible] exec
theorem cfnew_valid:cfnew.Valid Try.prog 14:=by
  refine Ctr.valid_of Efnew_ok rfl rfl Try.func14 (c:=bodyOf Try.prog 14) rfl rfl Ffnew_ok rfl ?_
  rintro ⟨(m:Int),⟨⟩⟩ - -
  refine exec_sound (n:=1000) Efnew_ok Ffnew_ok ?_
  refine holds_of_eq (Efnew_t m) ?_
  simp only [holds_cond,Tree.holds,true_and,true_implies,decide_eq_true_eq,decide_eq_false_iff_not,Bool.not_eq_true',Bool.not_eq_false',Int.toNat_natCast,inK_i64,List.length_set,List.length_cons,List.length_nil]
  refine ⟨fun a=>?_,fun a=>?_⟩
  · show (_:FlushD×Int×Unit)=fnew m
    rw [fnew,if_pos a]; rfl
  · show (_:FlushD×Int×Unit)=fnew m
    rw [fnew,if_neg a]; rfl
def lft (m p:Int):Int:=bAnd .u8 (m / 2^min (Int.toNat p) (IntKind.bits .u8)) 1
def msgE (l:List Int) (i:Nat):Int:=if fmsg (l.getD i 0)=false then 4 else if l.getD i 0∈l.take i then 4 else 0
def toldE (M:Int) (T:List (List Int)) (i:Nat):Int:=if (30:Int)<(T.getD i []).length then 2 else if (0:Int)<(T.getD i []).length∧lft M i=0 then 4 else firstE (msgE (T.getD i [])) (T.getD i []).length
def fcheck (f:FlushD):Int:=if vcheck f.1≠0 then vcheck f.1 else if bAndNot .u8 f.2.1 f.1.2.1≠0 then 4 else firstE (toldE f.1.2.1 f.2.2.1) 6
def cfcheck:Ctr:={ ps:=[.v Flush],rs:=[I64],pre:=fun _=>True,fn:=fun x=>(fcheck x.1,()),out:=fun _=>() }
noncomputable def Efcheck:Env:={ P:=Try.prog,tt:=tt,ctr:=[(121,cvcheck),(124,cfmsg),(48,ccontI)],res:=[Go.ResultVar.tmp 2],rs:=[Ty.int IntKind.i64],ps:=[PK.v (Ty.pair (Ty.pair (Ty.int IntKind.i64) (Ty.pair (Ty.int IntKind.u8) Ty.unit)) (Ty.pair (Ty.int IntKind.u8) (Ty.pair (Ty.arr 6 (Ty.slc false (Ty.int IntKind.i64))) Ty.unit)))],cuts:=[(7,[(1,none),(22,none),(23,none)]),(14,[(1,none),(5,none),(22,none),(23,none),(44,none),(45,none),(46,none)])],nt:=63 }
theorem Efcheck_ok:EnvOk Efcheck:=envOk tt_ok ⟨cvcheck_valid,cfmsg_valid,ccontI_valid,trivial⟩
theorem Ffcheck_ok:FnOk Efcheck Try.f17:=⟨rfl,rfl⟩
theorem Efcheck_t (x0_1_1:Int) (x0_1_2_1:Int) (x0_2_1:Int) (x0_2_2_1:List (List Int)):exec Efcheck 1000 [.code (bodyOf Try.prog 17)] (initSt cfcheck.ps ((((x0_1_1,x0_1_2_1,()),x0_2_1,x0_2_2_1,()),()))) =
  .need (True) (cond (decide (vcheck (x0_1_1,x0_1_2_1,())≠(0:Int))) (.ret ((vcheck (x0_1_1,x0_1_2_1,()),()))) (cond (decide (bAndNot IntKind.u8 x0_2_1 x0_1_2_1≠(0:Int))) (.ret (((4:Int),()))) (.cut (loopAt (bodyOf Try.prog 17) 7).1 (loopAt (bodyOf Try.prog 17) 7).2 (St.mk [(1,AV.ptr 1 []),(22,AV.val (Ty.arr 6 (Ty.slc false (Ty.int IntKind.i64))) x0_2_2_1),(23,AV.val (Ty.int IntKind.i64) (0:Int))] [(1,Ent.var (Ty.pair (Ty.pair (Ty.int IntKind.i64) (Ty.pair (Ty.int IntKind.u8) Ty.unit)) (Ty.pair (Ty.int IntKind.u8) (Ty.pair (Ty.arr 6 (Ty.slc false (Ty.int IntKind.i64))) Ty.unit))) ((x0_1_1,x0_1_2_1,()),x0_2_1,x0_2_2_1,()))])))):=by kernel_rfl
def Efcheck_s7 (v22:List (List Int)) (v23:Int) (o1_1_1:Int) (o1_1_2_1:Int) (o1_2_1:Int) (o1_2_2_1:List (List Int)):St:=St.mk [(1,AV.ptr 1 []),(22,AV.val (Ty.arr 6 (Ty.slc false (Ty.int IntKind.i64))) v22),(23,AV.val (Ty.int IntKind.i64) v23)] [(1,Ent.var (Ty.pair (Ty.pair (Ty.int IntKind.i64) (Ty.pair (Ty.int IntKind.u8) Ty.unit)) (Ty.pair (Ty.int IntKind.u8) (Ty.pair (Ty.arr 6 (Ty.slc false (Ty.int IntKind.i64))) Ty.unit))) ((o1_1_1,o1_1_2_1,()),o1_2_1,o1_2_2_1,()))]
theorem Efcheck_l7 (v22:List (List Int)) (v23:Int) (o1_1_1:Int) (o1_1_2_1:Int) (o1_2_1:Int) (o1_2_2_1:List (List Int)):exec Efcheck 1000 (.code (loopAt (bodyOf Try.prog 17) 7).1::.inLoop (loopAt (bodyOf Try.prog 17) 7).1::(loopAt (bodyOf Try.prog 17) 7).2) (Efcheck_s7 v22 v23 o1_1_1 o1_1_2_1 o1_2_1 o1_2_2_1) =
  cond (decide (v23<(6:Int))) (.need ((0:Int)≤v23∧v23<(↑6:Int)) (cond (decide ((30:Int)<(↑(List.length (List.getD v22 (Int.toNat v23) [])):Int))) (.ret (((2:Int),()))) (cond (decide ((0:Int)<(↑(List.length (List.getD v22 (Int.toNat v23) [])):Int))) (.need ((0:Int)≤v23) (cond (decide (bAnd IntKind.u8 (o1_1_2_1 / (2:Int)^min (Int.toNat v23) (IntKind.bits IntKind.u8)) (1:Int)=(0:Int))) (.ret (((4:Int),()))) (.cut (loopAt (bodyOf Try.prog 17) 14).1 (loopAt (bodyOf Try.prog 17) 14).2 (St.mk [(1,AV.ptr 1 []),(5,AV.val (Ty.slc false (Ty.int IntKind.i64)) (List.getD v22 (Int.toNat v23) [])),(22,AV.val (Ty.arr 6 (Ty.slc false (Ty.int IntKind.i64))) v22),(23,AV.val (Ty.int IntKind.i64) v23),(44,AV.val (Ty.slc false (Ty.int IntKind.i64)) (List.getD v22 (Int.toNat v23) [])),(45,AV.val (Ty.int IntKind.i64) (↑(List.length (List.getD v22 (Int.toNat v23) [])):Int)),(46,AV.val (Ty.int IntKind.i64) (0:Int))] [(1,Ent.var (Ty.pair (Ty.pair (Ty.int IntKind.i64) (Ty.pair (Ty.int IntKind.u8) Ty.unit)) (Ty.pair (Ty.int IntKind.u8) (Ty.pair (Ty.arr 6 (Ty.slc false (Ty.int IntKind.i64))) Ty.unit))) ((o1_1_1,o1_1_2_1,()),o1_2_1,o1_2_2_1,()))])))) (.cut (loopAt (bodyOf Try.prog 17) 14).1 (loopAt (bodyOf Try.prog 17) 14).2 (St.mk [(1,AV.ptr 1 []),(5,AV.val (Ty.slc false (Ty.int IntKind.i64)) (List.getD v22 (Int.toNat v23) [])),(22,AV.val (Ty.arr 6 (Ty.slc false (Ty.int IntKind.i64))) v22),(23,AV.val (Ty.int IntKind.i64) v23),(44,AV.val (Ty.slc false (Ty.int IntKind.i64)) (List.getD v22 (Int.toNat v23) [])),(45,AV.val (Ty.int IntKind.i64) (↑(List.length (List.getD v22 (Int.toNat v23) [])):Int)),(46,AV.val (Ty.int IntKind.i64) (0:Int))] [(1,Ent.var (Ty.pair (Ty.pair (Ty.int IntKind.i64) (Ty.pair (Ty.int IntKind.u8) Ty.unit)) (Ty.pair (Ty.int IntKind.u8) (Ty.pair (Ty.arr 6 (Ty.slc false (Ty.int IntKind.i64))) Ty.unit))) ((o1_1_1,o1_1_2_1,()),o1_2_1,o1_2_2_1,()))]))))) (.ret (((0:Int),()))):=by kernel_rfl
def Efcheck_s14 (v5:List Int) (v22:List (List Int)) (v23:Int) (v44:List Int) (v45:Int) (v46:Int) (o1_1_1:Int) (o1_1_2_1:Int) (o1_2_1:Int) (o1_2_2_1:List (List Int)):St:=St.mk [(1,AV.ptr 1 []),(5,AV.val (Ty.slc false (Ty.int IntKind.i64)) v5),(22,AV.val (Ty.arr 6 (Ty.slc false (Ty.int IntKind.i64))) v22),(23,AV.val (Ty.int IntKind.i64) v23),(44,AV.val (Ty.slc false (Ty.int IntKind.i64)) v44),(45,AV.val (Ty.int IntKind.i64) v45),(46,AV.val (Ty.int IntKind.i64) v46)] [(1,Ent.var (Ty.pair (Ty.pair (Ty.int IntKind.i64) (Ty.pair (Ty.int IntKind.u8) Ty.unit)) (Ty.pair (Ty.int IntKind.u8) (Ty.pair (Ty.arr 6 (Ty.slc false (Ty.int IntKind.i64))) Ty.unit))) ((o1_1_1,o1_1_2_1,()),o1_2_1,o1_2_2_1,()))]
theorem Efcheck_l14 (v5:List Int) (v22:List (List Int)) (v23:Int) (v44:List Int) (v45:Int) (v46:Int) (o1_1_1:Int) (o1_1_2_1:Int) (o1_2_1:Int) (o1_2_2_1:List (List Int)):exec Efcheck 1000 (.code (loopAt (bodyOf Try.prog 17) 14).1::.inLoop (loopAt (bodyOf Try.prog 17) 14).1::(loopAt (bodyOf Try.prog 17) 14).2) (Efcheck_s14 v5 v22 v23 v44 v45 v46 o1_1_1 o1_1_2_1 o1_2_1 o1_2_2_1) =
  cond (decide (v46<v45)) (.need ((0:Int)≤v46∧v46<(↑(List.length v44):Int)) (.need (True) (cond (!fmsg (List.getD v44 (Int.toNat v46) (0:Int))) (.ret (((4:Int),()))) (.need ((0:Int)≤(0:Int)∧(0:Int)≤v46∧v46≤(↑(List.length v5):Int)) (.need (True) (cond (decide (List.getD v44 (Int.toNat v46) (0:Int)∈cut2 (0:Int) v46 v5)) (.ret (((4:Int),()))) (.need (inK IntKind.i64 (v46+(1:Int))) (.cut (loopAt (bodyOf Try.prog 17) 14).1 (loopAt (bodyOf Try.prog 17) 14).2 (St.mk [(1,AV.ptr 1 []),(5,AV.val (Ty.slc false (Ty.int IntKind.i64)) v5),(22,AV.val (Ty.arr 6 (Ty.slc false (Ty.int IntKind.i64))) v22),(23,AV.val (Ty.int IntKind.i64) v23),(44,AV.val (Ty.slc false (Ty.int IntKind.i64)) v44),(45,AV.val (Ty.int IntKind.i64) v45),(46,AV.val (Ty.int IntKind.i64) (v46+(1:Int)))] [(1,Ent.var (Ty.pair (Ty.pair (Ty.int IntKind.i64) (Ty.pair (Ty.int IntKind.u8) Ty.unit)) (Ty.pair (Ty.int IntKind.u8) (Ty.pair (Ty.arr 6 (Ty.slc false (Ty.int IntKind.i64))) Ty.unit))) ((o1_1_1,o1_1_2_1,()),o1_2_1,o1_2_2_1,()))]))))))))) (.need (inK IntKind.i64 (v23+(1:Int))) (.cut (loopAt (bodyOf Try.prog 17) 7).1 (loopAt (bodyOf Try.prog 17) 7).2 (St.mk [(1,AV.ptr 1 []),(22,AV.val (Ty.arr 6 (Ty.slc false (Ty.int IntKind.i64))) v22),(23,AV.val (Ty.int IntKind.i64) (v23+(1:Int)))] [(1,Ent.var (Ty.pair (Ty.pair (Ty.int IntKind.i64) (Ty.pair (Ty.int IntKind.u8) Ty.unit)) (Ty.pair (Ty.int IntKind.u8) (Ty.pair (Ty.arr 6 (Ty.slc false (Ty.int IntKind.i64))) Ty.unit))) ((o1_1_1,o1_1_2_1,()),o1_2_1,o1_2_2_1,()))]))):=by kernel_rfl
theorem nf {b:Bool} (h:b=true):¬ b=false:=by rw [h]; simp
theorem cut2_take {α:Type} {l:List α} {i:Nat}:cut2 0 (i:Int) l=l.take i:=by
  rw [cut2,show ((i:Int) - 0).toNat=i by omega]; rfl
theorem cfcheck_valid:cfcheck.Valid Try.prog 17:=by
  refine Ctr.valid_of Efcheck_ok rfl rfl Try.func17 (c:=bodyOf Try.prog 17) rfl rfl Ffcheck_ok rfl ?_
  rintro ⟨⟨⟨(num:Int),(M:Int),⟨⟩⟩,(g:Int),(T:List (List Int)),⟨⟩⟩,⟨⟩⟩ - -
  refine exec_sound (n:=1000) Efcheck_ok Ffcheck_ok ?_
  refine holds_of_eq (Efcheck_t num M g T) ?_
  have key:∀ {x:Int},fcheck ((num,M,()),g,T,())=x→((x,()):Int×Unit)=(fcheck ((num,M,()),g,T,()),()):=by rintro x rfl; rfl
  have hd:fcheck ((num,M,()),g,T,())=if vcheck (num,M,())≠0 then vcheck (num,M,()) else if bAndNot .u8 g M≠0 then 4 else firstE (toldE M T) 6:=rfl
  simp only [holds_cond,Tree.holds,true_and,true_implies,decide_eq_true_eq,decide_eq_false_iff_not,Bool.not_eq_true',Bool.not_eq_false',Int.toNat_natCast,inK_i64,List.length_set,List.length_cons,List.length_nil]
  refine ⟨fun a=>key (by rw [hd,if_pos a]),fun a=>?_⟩
  rw [if_neg a] at hd
  refine ⟨fun a=>key (by rw [hd,if_pos a]),fun a=>?_⟩
  rw [if_neg a] at hd
  refine Reach.loopI Efcheck_ok Ffcheck_ok (fun i:Nat=>Efcheck_s7 T (i:Int) num M g T) (fun i=>i≤6∧firstE (toldE M T) i=0) (fun i=>6 - i) 1000 (fun _=>⟨uniq_of rfl,uniq_of rfl⟩) ?_ 0 ⟨by omega,rfl⟩
  rintro i ⟨k1,k2⟩ - ih
  have k1:i≤6:=k1
  refine holds_of_eq (Efcheck_l7 ..) ?_
  simp only [holds_cond,Tree.holds,true_and,true_implies,decide_eq_true_eq,decide_eq_false_iff_not,Bool.not_eq_true',Bool.not_eq_false',Int.toNat_natCast,inK_i64,List.length_set,List.length_cons,List.length_nil]
  refine ⟨fun c=>?_,fun c=>key (by rw [hd,show (6:Nat)=i by omega,k2])⟩
  have next:firstE (toldE M T) (i+1)=0→_:=fun h=>ih (i+1) ⟨by omega,h⟩ (by omega)
  have hT:toldE M T i=if (30:Int)<(T.getD i []).length then 2 else if (0:Int)<(T.getD i []).length∧lft M i=0 then 4 else firstE (msgE (T.getD i [])) (T.getD i []).length:=rfl
  have stop:∀ {v:Int},v≠0→toldE M T i=v→fcheck ((num,M,()),g,T,())=v:=fun hv h9=>by
    rw [hd,firstE_stop k2 (by rw [h9]; exact hv) (by omega),h9]
  have step:=fun h:toldE M T i=0=>next (firstE_step k2 h)
  have hlf:bAnd .u8 (M / 2^min (Int.toNat (i:Int)) (IntKind.bits .u8)) 1=lft M i:=rfl
  generalize T.getD i []=l at *
  refine ⟨by omega,fun _=>⟨fun e=>key (stop (by decide) (by rw [hT,if_pos e])),fun e=>?_⟩⟩
  rw [if_neg e] at hT
  suffices loop:toldE M T i=firstE (msgE l) l.length→Go.Ex.Reach Efcheck Try.f17 (fcheck ((num,M,()),g,T,()),()) () (.code (loopAt (bodyOf Try.prog 17) 14).1::.inLoop (loopAt (bodyOf Try.prog 17) 14).1::(loopAt (bodyOf Try.prog 17) 14).2) (Efcheck_s14 l T (i:Int) l (l.length:Int) ((0:Nat):Int) num M g T) by
    refine ⟨fun h0=>⟨by omega,fun _=>⟨fun f=>key (stop (by decide) (by rw [hT,if_pos ⟨h0,f⟩])),fun f=>loop ?_⟩⟩,fun h0=>loop ?_⟩
    · rw [hT,if_neg (fun h=>f h.2)]
    · rw [hT,if_neg (fun h=>h0 h.1)]
  intro hT
  refine Reach.loopI Efcheck_ok Ffcheck_ok (fun k:Nat=>Efcheck_s14 l T (i:Int) l (l.length:Int) (k:Int) num M g T) (fun k=>k≤l.length∧firstE (msgE l) k=0) (fun k=>l.length - k) 1000 (fun _=>⟨uniq_of rfl,uniq_of rfl⟩) ?_ 0 ⟨by omega,rfl⟩
  rintro k ⟨j1,j2⟩ - ih2
  have j1:k≤l.length:=j1
  refine holds_of_eq (Efcheck_l14 ..) ?_
  simp only [holds_cond,Tree.holds,true_and,true_implies,decide_eq_true_eq,decide_eq_false_iff_not,Bool.not_eq_true',Bool.not_eq_false',Int.toNat_natCast,inK_i64,List.length_set,List.length_cons,List.length_nil,cut2_take]
  have hm:msgE l k=if fmsg (l.getD k 0)=false then 4 else if l.getD k 0∈l.take k then 4 else 0:=rfl
  refine ⟨fun c2=>⟨by omega,fun _=>?_⟩,fun c2=>⟨by omega,fun _=>step (by rw [hT,show l.length=k by omega,j2])⟩⟩
  have stop2:msgE l k=4→toldE M T i=4:=fun h9=>by rw [hT,firstE_stop j2 (by rw [h9]; decide) (by omega),h9]
  refine ⟨fun f=>key (stop (by decide) (stop2 (by rw [hm,if_pos f]))),fun f=>⟨by omega,fun _=>⟨fun h=>key (stop (by decide) (stop2 (by rw [hm,if_neg (nf f),if_pos h]))),fun h=>⟨by omega,fun _=>ih2 (k+1) ⟨by omega,firstE_step j2 (by rw [hm,if_neg (nf f),if_neg h])⟩ (by omega)⟩⟩⟩⟩
theorem fcheck_msgs {v:ViewD} {g:Int} {T:List (List Int)} {u:Unit} (h:fcheck (v,g,T,u)=0) {i k:Nat} (hi:i<6) (hk:k<(T.getD i []).length):0≤(T.getD i []).getD k 0∧(T.getD i []).getD k 0≤29:=by
  unfold fcheck at h
  split at h
  · exact absurd h (by assumption)
  split at h
  · cases h
  have h:=firstE_zero.1 h i hi
  unfold toldE at h
  split at h
  · cases h
  split at h
  · cases h
  have h:=firstE_zero.1 h k hk
  unfold msgE at h
  split at h
  · cases h
  rename_i h9
  exact inF_iff.1 (Bool.not_eq_false _▸h9)
theorem fcheck_len {v:ViewD} {g:Int} {T:List (List Int)} {u:Unit} (h:fcheck (v,g,T,u)=0) {i:Nat} (hi:i<6):(T.getD i []).length≤30:=by
  unfold fcheck at h
  split at h
  · exact absurd h (by assumption)
  split at h
  · cases h
  have h:=firstE_zero.1 h i hi
  by_cases h9:(30:Int)<(T.getD i []).length
  · rw [toldE,if_pos h9] at h; cases h
  · omega
def set1 (L:Int) (p:Nat) (A:List Bool) (m:Int):List Bool:=A.set m.toNat (A.getD m.toNat false || decide (lft L p=1))
def allIn (L:Int) (T:List (List Int)):Nat→List Bool
  | 0=>List.replicate 30 false
  | p+1=>(T.getD p []).foldl (set1 L p) (allIn L T p)
def outP (L:Int) (A:List Bool) (T:List (List Int)) (p:Nat):Nat→List Int
  | 0=>[]
  | m+1=>outP L A T p m++(if A.getD m false=true∧lft L p=1∧(m:Int)∉T.getD p [] then [(m:Int)] else [])
def outs (L:Int) (A:List Bool) (T:List (List Int)):Nat→List (List Int)
  | 0=>no6
  | p+1=>(outs L A T p).set p (outP L A T p 30)
def fleft (f:FlushD):Int:=bAndNot .u8 f.1.2.1 f.2.1
def fchange (f:FlushD) (c:Int):FlushD×List (List Int)×Int×Unit :=
  if fcheck f≠0 then (flush0,no6,fcheck f,()) else if (nextV f.1 f.2.1 c).2.1≠0 then (flush0,no6,(nextV f.1 f.2.1 c).2.1,()) else
  (((nextV f.1 f.2.1 c).1,0,no6,()),outs (fleft f) (allIn (fleft f) f.2.2.1 6) f.2.2.1 6,0,())
def cfchange:Ctr:={ ps:=[.v Flush,.v U8],rs:=[FlushO,.arr 6 Is,I64],pre:=fun _=>True,fn:=fun x=>fchange x.1 x.2.1,out:=fun _=>() }
noncomputable def Efchange:Env:={ P:=Try.prog,tt:=tt,ctr:=[(17,cfcheck),(126,cnextV),(48,ccontI)],res:=[Go.ResultVar.cell 4 27,Go.ResultVar.cell 5 25,Go.ResultVar.tmp 6],rs:=[Ty.pair (Ty.pair (Ty.int IntKind.i64) (Ty.pair (Ty.int IntKind.u8) Ty.unit)) (Ty.pair (Ty.int IntKind.u8) (Ty.pair (Ty.arr 6 Is) Ty.unit)),Ty.arr 6 Is,Ty.int IntKind.i64],ps:=[PK.v (Ty.pair (Ty.pair (Ty.int IntKind.i64) (Ty.pair (Ty.int IntKind.u8) Ty.unit)) (Ty.pair (Ty.int IntKind.u8) (Ty.pair (Ty.arr 6 (Ty.slc false (Ty.int IntKind.i64))) Ty.unit))),PK.v (Ty.int IntKind.u8)],cuts:=[(10,[(2,none),(4,none),(5,none),(8,none),(10,none),(11,none),(48,none),(49,none)]),(13,[(2,none),(4,none),(5,none),(8,none),(10,none),(11,none),(12,none),(48,none),(49,none),(53,none),(54,none),(55,none)]),(20,[(2,none),(4,none),(5,none),(8,none),(10,none),(11,none),(16,none),(73,none)]),(23,[(2,none),(4,none),(5,none),(8,none),(10,none),(11,none),(16,none),(17,none),(73,none),(76,none),(77,none)])],nt:=111 }
theorem Efchange_ok:EnvOk Efchange:=envOk tt_ok ⟨cfcheck_valid,cnextV_valid,ccontI_valid,trivial⟩
theorem Ffchange_ok:FnOk Efchange Try.f21:=⟨rfl,rfl⟩
theorem Efchange_t (x0_1_1:Int) (x0_1_2_1:Int) (x0_2_1:Int) (x0_2_2_1:List (List Int)) (x1:Int):exec Efchange 1000 [.code (bodyOf Try.prog 21)] (initSt cfchange.ps ((((x0_1_1,x0_1_2_1,()),x0_2_1,x0_2_2_1,()),x1,()))) =
  .need (True) (cond (decide (fcheck ((x0_1_1,x0_1_2_1,()),x0_2_1,x0_2_2_1,())≠(0:Int))) (.ret (((((0:Int),(0:Int),()),(0:Int),[[],[],[],[],[],[]],()),[[],[],[],[],[],[]],fcheck ((x0_1_1,x0_1_2_1,()),x0_2_1,x0_2_2_1,()),()))) (.need (True) (cond (decide (Prod.fst (Prod.snd (nextV (x0_1_1,x0_1_2_1,()) x0_2_1 x1))≠(0:Int))) (.ret (((((0:Int),(0:Int),()),(0:Int),[[],[],[],[],[],[]],()),[[],[],[],[],[],[]],Prod.fst (Prod.snd (nextV (x0_1_1,x0_1_2_1,()) x0_2_1 x1)),()))) (.cut (loopAt (bodyOf Try.prog 21) 10).1 (loopAt (bodyOf Try.prog 21) 10).2 (St.mk [(2,AV.ptr 2 []),(4,AV.ptr 4 []),(5,AV.ptr 5 []),(8,AV.ptr 8 []),(10,AV.val (Ty.int IntKind.u8) (bAndNot IntKind.u8 x0_1_2_1 x0_2_1)),(11,AV.ptr 11 []),(48,AV.val (Ty.arr 6 (Ty.slc false (Ty.int IntKind.i64))) x0_2_2_1),(49,AV.val (Ty.int IntKind.i64) (0:Int))] [(2,Ent.var (Ty.pair (Ty.pair (Ty.int IntKind.i64) (Ty.pair (Ty.int IntKind.u8) Ty.unit)) (Ty.pair (Ty.int IntKind.u8) (Ty.pair (Ty.arr 6 (Ty.slc false (Ty.int IntKind.i64))) Ty.unit))) ((x0_1_1,x0_1_2_1,()),x0_2_1,x0_2_2_1,())),(4,Ent.var (Ty.pair (Ty.pair (Ty.int IntKind.i64) (Ty.pair (Ty.int IntKind.u8) Ty.unit)) (Ty.pair (Ty.int IntKind.u8) (Ty.pair (Ty.arr 6 Is) Ty.unit))) (((0:Int),(0:Int),()),(0:Int),[[],[],[],[],[],[]],())),(5,Ent.var (Ty.arr 6 Is) [[],[],[],[],[],[]]),(8,Ent.var (Ty.pair (Ty.int IntKind.i64) (Ty.pair (Ty.int IntKind.u8) Ty.unit)) (Prod.fst (nextV (x0_1_1,x0_1_2_1,()) x0_2_1 x1))),(11,Ent.var (Ty.arr 30 Ty.bool) [false,false,false,false,false,false,false,false,false,false,false,false,false,false,false,false,false,false,false,false,false,false,false,false,false,false,false,false,false,false])]))))):=by kernel_rfl
def Efchange_s10 (v10:Int) (v48:List (List Int)) (v49:Int) (o2_1_1:Int) (o2_1_2_1:Int) (o2_2_1:Int) (o2_2_2_1:List (List Int)) (o4_1_1:Int) (o4_1_2_1:Int) (o4_2_1:Int) (o4_2_2_1:List (List Int)) (o5:List (List Int)) (o8_1:Int) (o8_2_1:Int) (o11:List Bool):St:=St.mk [(2,AV.ptr 2 []),(4,AV.ptr 4 []),(5,AV.ptr 5 []),(8,AV.ptr 8 []),(10,AV.val (Ty.int IntKind.u8) v10),(11,AV.ptr 11 []),(48,AV.val (Ty.arr 6 (Ty.slc false (Ty.int IntKind.i64))) v48),(49,AV.val (Ty.int IntKind.i64) v49)] [(2,Ent.var (Ty.pair (Ty.pair (Ty.int IntKind.i64) (Ty.pair (Ty.int IntKind.u8) Ty.unit)) (Ty.pair (Ty.int IntKind.u8) (Ty.pair (Ty.arr 6 (Ty.slc false (Ty.int IntKind.i64))) Ty.unit))) ((o2_1_1,o2_1_2_1,()),o2_2_1,o2_2_2_1,())),(4,Ent.var (Ty.pair (Ty.pair (Ty.int IntKind.i64) (Ty.pair (Ty.int IntKind.u8) Ty.unit)) (Ty.pair (Ty.int IntKind.u8) (Ty.pair (Ty.arr 6 Is) Ty.unit))) ((o4_1_1,o4_1_2_1,()),o4_2_1,o4_2_2_1,())),(5,Ent.var (Ty.arr 6 Is) o5),(8,Ent.var (Ty.pair (Ty.int IntKind.i64) (Ty.pair (Ty.int IntKind.u8) Ty.unit)) (o8_1,o8_2_1,())),(11,Ent.var (Ty.arr 30 Ty.bool) o11)]
theorem Efchange_l10 (v10:Int) (v48:List (List Int)) (v49:Int) (o2_1_1:Int) (o2_1_2_1:Int) (o2_2_1:Int) (o2_2_2_1:List (List Int)) (o4_1_1:Int) (o4_1_2_1:Int) (o4_2_1:Int) (o4_2_2_1:List (List Int)) (o5:List (List Int)) (o8_1:Int) (o8_2_1:Int) (o11:List Bool):exec Efchange 1000 (.code (loopAt (bodyOf Try.prog 21) 10).1::.inLoop (loopAt (bodyOf Try.prog 21) 10).1::(loopAt (bodyOf Try.prog 21) 10).2) (Efchange_s10 v10 v48 v49 o2_1_1 o2_1_2_1 o2_2_1 o2_2_2_1 o4_1_1 o4_1_2_1 o4_2_1 o4_2_2_1 o5 o8_1 o8_2_1 o11) =
  cond (decide (v49<(6:Int))) (.need ((0:Int)≤v49∧v49<(↑6:Int)) (.cut (loopAt (bodyOf Try.prog 21) 13).1 (loopAt (bodyOf Try.prog 21) 13).2 (St.mk [(2,AV.ptr 2 []),(4,AV.ptr 4 []),(5,AV.ptr 5 []),(8,AV.ptr 8 []),(10,AV.val (Ty.int IntKind.u8) v10),(11,AV.ptr 11 []),(12,AV.val (Ty.int IntKind.i64) v49),(48,AV.val (Ty.arr 6 (Ty.slc false (Ty.int IntKind.i64))) v48),(49,AV.val (Ty.int IntKind.i64) v49),(53,AV.val (Ty.slc false (Ty.int IntKind.i64)) (List.getD v48 (Int.toNat v49) [])),(54,AV.val (Ty.int IntKind.i64) (↑(List.length (List.getD v48 (Int.toNat v49) [])):Int)),(55,AV.val (Ty.int IntKind.i64) (0:Int))] [(2,Ent.var (Ty.pair (Ty.pair (Ty.int IntKind.i64) (Ty.pair (Ty.int IntKind.u8) Ty.unit)) (Ty.pair (Ty.int IntKind.u8) (Ty.pair (Ty.arr 6 (Ty.slc false (Ty.int IntKind.i64))) Ty.unit))) ((o2_1_1,o2_1_2_1,()),o2_2_1,o2_2_2_1,())),(4,Ent.var (Ty.pair (Ty.pair (Ty.int IntKind.i64) (Ty.pair (Ty.int IntKind.u8) Ty.unit)) (Ty.pair (Ty.int IntKind.u8) (Ty.pair (Ty.arr 6 Is) Ty.unit))) ((o4_1_1,o4_1_2_1,()),o4_2_1,o4_2_2_1,())),(5,Ent.var (Ty.arr 6 Is) o5),(8,Ent.var (Ty.pair (Ty.int IntKind.i64) (Ty.pair (Ty.int IntKind.u8) Ty.unit)) (o8_1,o8_2_1,())),(11,Ent.var (Ty.arr 30 Ty.bool) o11)]))) (.cut (loopAt (bodyOf Try.prog 21) 20).1 (loopAt (bodyOf Try.prog 21) 20).2 (St.mk [(2,AV.ptr 2 []),(4,AV.ptr 4 []),(5,AV.ptr 5 []),(8,AV.ptr 8 []),(10,AV.val (Ty.int IntKind.u8) v10),(11,AV.ptr 11 []),(16,AV.ptr 16 []),(73,AV.val (Ty.int IntKind.i64) (0:Int))] [(2,Ent.var (Ty.pair (Ty.pair (Ty.int IntKind.i64) (Ty.pair (Ty.int IntKind.u8) Ty.unit)) (Ty.pair (Ty.int IntKind.u8) (Ty.pair (Ty.arr 6 (Ty.slc false (Ty.int IntKind.i64))) Ty.unit))) ((o2_1_1,o2_1_2_1,()),o2_2_1,o2_2_2_1,())),(4,Ent.var (Ty.pair (Ty.pair (Ty.int IntKind.i64) (Ty.pair (Ty.int IntKind.u8) Ty.unit)) (Ty.pair (Ty.int IntKind.u8) (Ty.pair (Ty.arr 6 Is) Ty.unit))) ((o4_1_1,o4_1_2_1,()),o4_2_1,o4_2_2_1,())),(5,Ent.var (Ty.arr 6 Is) o5),(8,Ent.var (Ty.pair (Ty.int IntKind.i64) (Ty.pair (Ty.int IntKind.u8) Ty.unit)) (o8_1,o8_2_1,())),(11,Ent.var (Ty.arr 30 Ty.bool) o11),(16,Ent.var (Ty.arr 6 Is) [[],[],[],[],[],[]])])):=by kernel_rfl
def Efchange_s13 (v10:Int) (v12:Int) (v48:List (List Int)) (v49:Int) (v53:List Int) (v54:Int) (v55:Int) (o2_1_1:Int) (o2_1_2_1:Int) (o2_2_1:Int) (o2_2_2_1:List (List Int)) (o4_1_1:Int) (o4_1_2_1:Int) (o4_2_1:Int) (o4_2_2_1:List (List Int)) (o5:List (List Int)) (o8_1:Int) (o8_2_1:Int) (o11:List Bool):St:=St.mk [(2,AV.ptr 2 []),(4,AV.ptr 4 []),(5,AV.ptr 5 []),(8,AV.ptr 8 []),(10,AV.val (Ty.int IntKind.u8) v10),(11,AV.ptr 11 []),(12,AV.val (Ty.int IntKind.i64) v12),(48,AV.val (Ty.arr 6 (Ty.slc false (Ty.int IntKind.i64))) v48),(49,AV.val (Ty.int IntKind.i64) v49),(53,AV.val (Ty.slc false (Ty.int IntKind.i64)) v53),(54,AV.val (Ty.int IntKind.i64) v54),(55,AV.val (Ty.int IntKind.i64) v55)] [(2,Ent.var (Ty.pair (Ty.pair (Ty.int IntKind.i64) (Ty.pair (Ty.int IntKind.u8) Ty.unit)) (Ty.pair (Ty.int IntKind.u8) (Ty.pair (Ty.arr 6 (Ty.slc false (Ty.int IntKind.i64))) Ty.unit))) ((o2_1_1,o2_1_2_1,()),o2_2_1,o2_2_2_1,())),(4,Ent.var (Ty.pair (Ty.pair (Ty.int IntKind.i64) (Ty.pair (Ty.int IntKind.u8) Ty.unit)) (Ty.pair (Ty.int IntKind.u8) (Ty.pair (Ty.arr 6 Is) Ty.unit))) ((o4_1_1,o4_1_2_1,()),o4_2_1,o4_2_2_1,())),(5,Ent.var (Ty.arr 6 Is) o5),(8,Ent.var (Ty.pair (Ty.int IntKind.i64) (Ty.pair (Ty.int IntKind.u8) Ty.unit)) (o8_1,o8_2_1,())),(11,Ent.var (Ty.arr 30 Ty.bool) o11)]
theorem Efchange_l13 (v10:Int) (v12:Int) (v48:List (List Int)) (v49:Int) (v53:List Int) (v54:Int) (v55:Int) (o2_1_1:Int) (o2_1_2_1:Int) (o2_2_1:Int) (o2_2_2_1:List (List Int)) (o4_1_1:Int) (o4_1_2_1:Int) (o4_2_1:Int) (o4_2_2_1:List (List Int)) (o5:List (List Int)) (o8_1:Int) (o8_2_1:Int) (o11:List Bool):exec Efchange 1000 (.code (loopAt (bodyOf Try.prog 21) 13).1::.inLoop (loopAt (bodyOf Try.prog 21) 13).1::(loopAt (bodyOf Try.prog 21) 13).2) (Efchange_s13 v10 v12 v48 v49 v53 v54 v55 o2_1_1 o2_1_2_1 o2_2_1 o2_2_2_1 o4_1_1 o4_1_2_1 o4_2_1 o4_2_2_1 o5 o8_1 o8_2_1 o11) =
  cond (decide (v55<v54)) (.need ((0:Int)≤v55∧v55<(↑(List.length v53):Int)) (.need ((0:Int)≤List.getD v53 (Int.toNat v55) (0:Int)∧List.getD v53 (Int.toNat v55) (0:Int)<(↑30:Int)) (cond (List.getD o11 (Int.toNat (List.getD v53 (Int.toNat v55) (0:Int))) false) (.need ((0:Int)≤List.getD v53 (Int.toNat v55) (0:Int)∧List.getD v53 (Int.toNat v55) (0:Int)<(↑30:Int)) (.need (inK IntKind.i64 (v55+(1:Int))) (.cut (loopAt (bodyOf Try.prog 21) 13).1 (loopAt (bodyOf Try.prog 21) 13).2 (St.mk [(2,AV.ptr 2 []),(4,AV.ptr 4 []),(5,AV.ptr 5 []),(8,AV.ptr 8 []),(10,AV.val (Ty.int IntKind.u8) v10),(11,AV.ptr 11 []),(12,AV.val (Ty.int IntKind.i64) v12),(48,AV.val (Ty.arr 6 (Ty.slc false (Ty.int IntKind.i64))) v48),(49,AV.val (Ty.int IntKind.i64) v49),(53,AV.val (Ty.slc false (Ty.int IntKind.i64)) v53),(54,AV.val (Ty.int IntKind.i64) v54),(55,AV.val (Ty.int IntKind.i64) (v55+(1:Int)))] [(2,Ent.var (Ty.pair (Ty.pair (Ty.int IntKind.i64) (Ty.pair (Ty.int IntKind.u8) Ty.unit)) (Ty.pair (Ty.int IntKind.u8) (Ty.pair (Ty.arr 6 (Ty.slc false (Ty.int IntKind.i64))) Ty.unit))) ((o2_1_1,o2_1_2_1,()),o2_2_1,o2_2_2_1,())),(4,Ent.var (Ty.pair (Ty.pair (Ty.int IntKind.i64) (Ty.pair (Ty.int IntKind.u8) Ty.unit)) (Ty.pair (Ty.int IntKind.u8) (Ty.pair (Ty.arr 6 Is) Ty.unit))) ((o4_1_1,o4_1_2_1,()),o4_2_1,o4_2_2_1,())),(5,Ent.var (Ty.arr 6 Is) o5),(8,Ent.var (Ty.pair (Ty.int IntKind.i64) (Ty.pair (Ty.int IntKind.u8) Ty.unit)) (o8_1,o8_2_1,())),(11,Ent.var (Ty.arr 30 Ty.bool) (List.set o11 (Int.toNat (List.getD v53 (Int.toNat v55) (0:Int))) true))])))) (.need ((0:Int)≤v12) (.need ((0:Int)≤List.getD v53 (Int.toNat v55) (0:Int)∧List.getD v53 (Int.toNat v55) (0:Int)<(↑30:Int)) (.need (inK IntKind.i64 (v55+(1:Int))) (.cut (loopAt (bodyOf Try.prog 21) 13).1 (loopAt (bodyOf Try.prog 21) 13).2 (St.mk [(2,AV.ptr 2 []),(4,AV.ptr 4 []),(5,AV.ptr 5 []),(8,AV.ptr 8 []),(10,AV.val (Ty.int IntKind.u8) v10),(11,AV.ptr 11 []),(12,AV.val (Ty.int IntKind.i64) v12),(48,AV.val (Ty.arr 6 (Ty.slc false (Ty.int IntKind.i64))) v48),(49,AV.val (Ty.int IntKind.i64) v49),(53,AV.val (Ty.slc false (Ty.int IntKind.i64)) v53),(54,AV.val (Ty.int IntKind.i64) v54),(55,AV.val (Ty.int IntKind.i64) (v55+(1:Int)))] [(2,Ent.var (Ty.pair (Ty.pair (Ty.int IntKind.i64) (Ty.pair (Ty.int IntKind.u8) Ty.unit)) (Ty.pair (Ty.int IntKind.u8) (Ty.pair (Ty.arr 6 (Ty.slc false (Ty.int IntKind.i64))) Ty.unit))) ((o2_1_1,o2_1_2_1,()),o2_2_1,o2_2_2_1,())),(4,Ent.var (Ty.pair (Ty.pair (Ty.int IntKind.i64) (Ty.pair (Ty.int IntKind.u8) Ty.unit)) (Ty.pair (Ty.int IntKind.u8) (Ty.pair (Ty.arr 6 Is) Ty.unit))) ((o4_1_1,o4_1_2_1,()),o4_2_1,o4_2_2_1,())),(5,Ent.var (Ty.arr 6 Is) o5),(8,Ent.var (Ty.pair (Ty.int IntKind.i64) (Ty.pair (Ty.int IntKind.u8) Ty.unit)) (o8_1,o8_2_1,())),(11,Ent.var (Ty.arr 30 Ty.bool) (List.set o11 (Int.toNat (List.getD v53 (Int.toNat v55) (0:Int))) (decide (bAnd IntKind.u8 (v10 / (2:Int)^min (Int.toNat v12) (IntKind.bits IntKind.u8)) (1:Int)=(1:Int)))))])))))))) (.need (inK IntKind.i64 (v49+(1:Int))) (.cut (loopAt (bodyOf Try.prog 21) 10).1 (loopAt (bodyOf Try.prog 21) 10).2 (St.mk [(2,AV.ptr 2 []),(4,AV.ptr 4 []),(5,AV.ptr 5 []),(8,AV.ptr 8 []),(10,AV.val (Ty.int IntKind.u8) v10),(11,AV.ptr 11 []),(48,AV.val (Ty.arr 6 (Ty.slc false (Ty.int IntKind.i64))) v48),(49,AV.val (Ty.int IntKind.i64) (v49+(1:Int)))] [(2,Ent.var (Ty.pair (Ty.pair (Ty.int IntKind.i64) (Ty.pair (Ty.int IntKind.u8) Ty.unit)) (Ty.pair (Ty.int IntKind.u8) (Ty.pair (Ty.arr 6 (Ty.slc false (Ty.int IntKind.i64))) Ty.unit))) ((o2_1_1,o2_1_2_1,()),o2_2_1,o2_2_2_1,())),(4,Ent.var (Ty.pair (Ty.pair (Ty.int IntKind.i64) (Ty.pair (Ty.int IntKind.u8) Ty.unit)) (Ty.pair (Ty.int IntKind.u8) (Ty.pair (Ty.arr 6 Is) Ty.unit))) ((o4_1_1,o4_1_2_1,()),o4_2_1,o4_2_2_1,())),(5,Ent.var (Ty.arr 6 Is) o5),(8,Ent.var (Ty.pair (Ty.int IntKind.i64) (Ty.pair (Ty.int IntKind.u8) Ty.unit)) (o8_1,o8_2_1,())),(11,Ent.var (Ty.arr 30 Ty.bool) o11)]))):=by kernel_rfl
def Efchange_s20 (v10:Int) (v73:Int) (o2_1_1:Int) (o2_1_2_1:Int) (o2_2_1:Int) (o2_2_2_1:List (List Int)) (o4_1_1:Int) (o4_1_2_1:Int) (o4_2_1:Int) (o4_2_2_1:List (List Int)) (o5:List (List Int)) (o8_1:Int) (o8_2_1:Int) (o11:List Bool) (o16:List (List Int)):St:=St.mk [(2,AV.ptr 2 []),(4,AV.ptr 4 []),(5,AV.ptr 5 []),(8,AV.ptr 8 []),(10,AV.val (Ty.int IntKind.u8) v10),(11,AV.ptr 11 []),(16,AV.ptr 16 []),(73,AV.val (Ty.int IntKind.i64) v73)] [(2,Ent.var (Ty.pair (Ty.pair (Ty.int IntKind.i64) (Ty.pair (Ty.int IntKind.u8) Ty.unit)) (Ty.pair (Ty.int IntKind.u8) (Ty.pair (Ty.arr 6 (Ty.slc false (Ty.int IntKind.i64))) Ty.unit))) ((o2_1_1,o2_1_2_1,()),o2_2_1,o2_2_2_1,())),(4,Ent.var (Ty.pair (Ty.pair (Ty.int IntKind.i64) (Ty.pair (Ty.int IntKind.u8) Ty.unit)) (Ty.pair (Ty.int IntKind.u8) (Ty.pair (Ty.arr 6 Is) Ty.unit))) ((o4_1_1,o4_1_2_1,()),o4_2_1,o4_2_2_1,())),(5,Ent.var (Ty.arr 6 Is) o5),(8,Ent.var (Ty.pair (Ty.int IntKind.i64) (Ty.pair (Ty.int IntKind.u8) Ty.unit)) (o8_1,o8_2_1,())),(11,Ent.var (Ty.arr 30 Ty.bool) o11),(16,Ent.var (Ty.arr 6 Is) o16)]
theorem Efchange_l20 (v10:Int) (v73:Int) (o2_1_1:Int) (o2_1_2_1:Int) (o2_2_1:Int) (o2_2_2_1:List (List Int)) (o4_1_1:Int) (o4_1_2_1:Int) (o4_2_1:Int) (o4_2_2_1:List (List Int)) (o5:List (List Int)) (o8_1:Int) (o8_2_1:Int) (o11:List Bool) (o16:List (List Int)):exec Efchange 1000 (.code (loopAt (bodyOf Try.prog 21) 20).1::.inLoop (loopAt (bodyOf Try.prog 21) 20).1::(loopAt (bodyOf Try.prog 21) 20).2) (Efchange_s20 v10 v73 o2_1_1 o2_1_2_1 o2_2_1 o2_2_2_1 o4_1_1 o4_1_2_1 o4_2_1 o4_2_2_1 o5 o8_1 o8_2_1 o11 o16) =
  cond (decide (v73<(6:Int))) (.cut (loopAt (bodyOf Try.prog 21) 23).1 (loopAt (bodyOf Try.prog 21) 23).2 (St.mk [(2,AV.ptr 2 []),(4,AV.ptr 4 []),(5,AV.ptr 5 []),(8,AV.ptr 8 []),(10,AV.val (Ty.int IntKind.u8) v10),(11,AV.ptr 11 []),(16,AV.ptr 16 []),(17,AV.val (Ty.int IntKind.i64) v73),(73,AV.val (Ty.int IntKind.i64) v73),(76,AV.val (Ty.arr 30 Ty.bool) o11),(77,AV.val (Ty.int IntKind.i64) (0:Int))] [(2,Ent.var (Ty.pair (Ty.pair (Ty.int IntKind.i64) (Ty.pair (Ty.int IntKind.u8) Ty.unit)) (Ty.pair (Ty.int IntKind.u8) (Ty.pair (Ty.arr 6 (Ty.slc false (Ty.int IntKind.i64))) Ty.unit))) ((o2_1_1,o2_1_2_1,()),o2_2_1,o2_2_2_1,())),(4,Ent.var (Ty.pair (Ty.pair (Ty.int IntKind.i64) (Ty.pair (Ty.int IntKind.u8) Ty.unit)) (Ty.pair (Ty.int IntKind.u8) (Ty.pair (Ty.arr 6 Is) Ty.unit))) ((o4_1_1,o4_1_2_1,()),o4_2_1,o4_2_2_1,())),(5,Ent.var (Ty.arr 6 Is) o5),(8,Ent.var (Ty.pair (Ty.int IntKind.i64) (Ty.pair (Ty.int IntKind.u8) Ty.unit)) (o8_1,o8_2_1,())),(11,Ent.var (Ty.arr 30 Ty.bool) o11),(16,Ent.var (Ty.arr 6 Is) o16)])) (.ret ((((o8_1,o8_2_1,()),(0:Int),[[],[],[],[],[],[]],()),o16,(0:Int),()))):=by kernel_rfl
def Efchange_s23 (v10:Int) (v17:Int) (v73:Int) (v76:List Bool) (v77:Int) (o2_1_1:Int) (o2_1_2_1:Int) (o2_2_1:Int) (o2_2_2_1:List (List Int)) (o4_1_1:Int) (o4_1_2_1:Int) (o4_2_1:Int) (o4_2_2_1:List (List Int)) (o5:List (List Int)) (o8_1:Int) (o8_2_1:Int) (o11:List Bool) (o16:List (List Int)):St:=St.mk [(2,AV.ptr 2 []),(4,AV.ptr 4 []),(5,AV.ptr 5 []),(8,AV.ptr 8 []),(10,AV.val (Ty.int IntKind.u8) v10),(11,AV.ptr 11 []),(16,AV.ptr 16 []),(17,AV.val (Ty.int IntKind.i64) v17),(73,AV.val (Ty.int IntKind.i64) v73),(76,AV.val (Ty.arr 30 Ty.bool) v76),(77,AV.val (Ty.int IntKind.i64) v77)] [(2,Ent.var (Ty.pair (Ty.pair (Ty.int IntKind.i64) (Ty.pair (Ty.int IntKind.u8) Ty.unit)) (Ty.pair (Ty.int IntKind.u8) (Ty.pair (Ty.arr 6 (Ty.slc false (Ty.int IntKind.i64))) Ty.unit))) ((o2_1_1,o2_1_2_1,()),o2_2_1,o2_2_2_1,())),(4,Ent.var (Ty.pair (Ty.pair (Ty.int IntKind.i64) (Ty.pair (Ty.int IntKind.u8) Ty.unit)) (Ty.pair (Ty.int IntKind.u8) (Ty.pair (Ty.arr 6 Is) Ty.unit))) ((o4_1_1,o4_1_2_1,()),o4_2_1,o4_2_2_1,())),(5,Ent.var (Ty.arr 6 Is) o5),(8,Ent.var (Ty.pair (Ty.int IntKind.i64) (Ty.pair (Ty.int IntKind.u8) Ty.unit)) (o8_1,o8_2_1,())),(11,Ent.var (Ty.arr 30 Ty.bool) o11),(16,Ent.var (Ty.arr 6 Is) o16)]
theorem Efchange_l23 (v10:Int) (v17:Int) (v73:Int) (v76:List Bool) (v77:Int) (o2_1_1:Int) (o2_1_2_1:Int) (o2_2_1:Int) (o2_2_2_1:List (List Int)) (o4_1_1:Int) (o4_1_2_1:Int) (o4_2_1:Int) (o4_2_2_1:List (List Int)) (o5:List (List Int)) (o8_1:Int) (o8_2_1:Int) (o11:List Bool) (o16:List (List Int)):exec Efchange 1000 (.code (loopAt (bodyOf Try.prog 21) 23).1::.inLoop (loopAt (bodyOf Try.prog 21) 23).1::(loopAt (bodyOf Try.prog 21) 23).2) (Efchange_s23 v10 v17 v73 v76 v77 o2_1_1 o2_1_2_1 o2_2_1 o2_2_2_1 o4_1_1 o4_1_2_1 o4_2_1 o4_2_2_1 o5 o8_1 o8_2_1 o11 o16) =
  cond (decide (v77<(30:Int))) (.need ((0:Int)≤v77∧v77<(↑30:Int)) (cond (List.getD v76 (Int.toNat v77) false) (.need ((0:Int)≤v17) (cond (decide (bAnd IntKind.u8 (v10 / (2:Int)^min (Int.toNat v17) (IntKind.bits IntKind.u8)) (1:Int)=(1:Int))) (.need ((0:Int)≤v17∧v17<(↑6:Int)) (.need (True) (cond (!decide (v77∈List.getD o2_2_2_1 (Int.toNat v17) [])) (.need ((0:Int)≤v17∧v17<(↑6:Int)) (.need (((0:Int)≤v17∧v17<(↑6:Int))∧[]++[Step.idx v17]=[]++[Step.idx v17]∧List.length (List.getD o16 (Int.toNat v17) [])+List.length (List.set [(0:Int)] (Int.toNat (↑0:Int)) v77)≤140737488355328∧(List.length (List.getD o16 (Int.toNat v17) [])+List.length (List.set [(0:Int)] (Int.toNat (↑0:Int)) v77))*Ty.wb (Ty.int IntKind.i64)≤140737488355328) (.need (inK IntKind.i64 (v77+(1:Int))) (.cut (loopAt (bodyOf Try.prog 21) 23).1 (loopAt (bodyOf Try.prog 21) 23).2 (St.mk [(2,AV.ptr 2 []),(4,AV.ptr 4 []),(5,AV.ptr 5 []),(8,AV.ptr 8 []),(10,AV.val (Ty.int IntKind.u8) v10),(11,AV.ptr 11 []),(16,AV.ptr 16 []),(17,AV.val (Ty.int IntKind.i64) v17),(73,AV.val (Ty.int IntKind.i64) v73),(76,AV.val (Ty.arr 30 Ty.bool) v76),(77,AV.val (Ty.int IntKind.i64) (v77+(1:Int)))] [(2,Ent.var (Ty.pair (Ty.pair (Ty.int IntKind.i64) (Ty.pair (Ty.int IntKind.u8) Ty.unit)) (Ty.pair (Ty.int IntKind.u8) (Ty.pair (Ty.arr 6 (Ty.slc false (Ty.int IntKind.i64))) Ty.unit))) ((o2_1_1,o2_1_2_1,()),o2_2_1,o2_2_2_1,())),(4,Ent.var (Ty.pair (Ty.pair (Ty.int IntKind.i64) (Ty.pair (Ty.int IntKind.u8) Ty.unit)) (Ty.pair (Ty.int IntKind.u8) (Ty.pair (Ty.arr 6 Is) Ty.unit))) ((o4_1_1,o4_1_2_1,()),o4_2_1,o4_2_2_1,())),(5,Ent.var (Ty.arr 6 Is) o5),(8,Ent.var (Ty.pair (Ty.int IntKind.i64) (Ty.pair (Ty.int IntKind.u8) Ty.unit)) (o8_1,o8_2_1,())),(11,Ent.var (Ty.arr 30 Ty.bool) o11),(16,Ent.var (Ty.arr 6 Is) (List.set o16 (Int.toNat v17) (List.getD o16 (Int.toNat v17) []++List.set [(0:Int)] (Int.toNat (↑0:Int)) v77)))]))))) (.need (inK IntKind.i64 (v77+(1:Int))) (.cut (loopAt (bodyOf Try.prog 21) 23).1 (loopAt (bodyOf Try.prog 21) 23).2 (St.mk [(2,AV.ptr 2 []),(4,AV.ptr 4 []),(5,AV.ptr 5 []),(8,AV.ptr 8 []),(10,AV.val (Ty.int IntKind.u8) v10),(11,AV.ptr 11 []),(16,AV.ptr 16 []),(17,AV.val (Ty.int IntKind.i64) v17),(73,AV.val (Ty.int IntKind.i64) v73),(76,AV.val (Ty.arr 30 Ty.bool) v76),(77,AV.val (Ty.int IntKind.i64) (v77+(1:Int)))] [(2,Ent.var (Ty.pair (Ty.pair (Ty.int IntKind.i64) (Ty.pair (Ty.int IntKind.u8) Ty.unit)) (Ty.pair (Ty.int IntKind.u8) (Ty.pair (Ty.arr 6 (Ty.slc false (Ty.int IntKind.i64))) Ty.unit))) ((o2_1_1,o2_1_2_1,()),o2_2_1,o2_2_2_1,())),(4,Ent.var (Ty.pair (Ty.pair (Ty.int IntKind.i64) (Ty.pair (Ty.int IntKind.u8) Ty.unit)) (Ty.pair (Ty.int IntKind.u8) (Ty.pair (Ty.arr 6 Is) Ty.unit))) ((o4_1_1,o4_1_2_1,()),o4_2_1,o4_2_2_1,())),(5,Ent.var (Ty.arr 6 Is) o5),(8,Ent.var (Ty.pair (Ty.int IntKind.i64) (Ty.pair (Ty.int IntKind.u8) Ty.unit)) (o8_1,o8_2_1,())),(11,Ent.var (Ty.arr 30 Ty.bool) o11),(16,Ent.var (Ty.arr 6 Is) o16)])))))) (.need (inK IntKind.i64 (v77+(1:Int))) (.cut (loopAt (bodyOf Try.prog 21) 23).1 (loopAt (bodyOf Try.prog 21) 23).2 (St.mk [(2,AV.ptr 2 []),(4,AV.ptr 4 []),(5,AV.ptr 5 []),(8,AV.ptr 8 []),(10,AV.val (Ty.int IntKind.u8) v10),(11,AV.ptr 11 []),(16,AV.ptr 16 []),(17,AV.val (Ty.int IntKind.i64) v17),(73,AV.val (Ty.int IntKind.i64) v73),(76,AV.val (Ty.arr 30 Ty.bool) v76),(77,AV.val (Ty.int IntKind.i64) (v77+(1:Int)))] [(2,Ent.var (Ty.pair (Ty.pair (Ty.int IntKind.i64) (Ty.pair (Ty.int IntKind.u8) Ty.unit)) (Ty.pair (Ty.int IntKind.u8) (Ty.pair (Ty.arr 6 (Ty.slc false (Ty.int IntKind.i64))) Ty.unit))) ((o2_1_1,o2_1_2_1,()),o2_2_1,o2_2_2_1,())),(4,Ent.var (Ty.pair (Ty.pair (Ty.int IntKind.i64) (Ty.pair (Ty.int IntKind.u8) Ty.unit)) (Ty.pair (Ty.int IntKind.u8) (Ty.pair (Ty.arr 6 Is) Ty.unit))) ((o4_1_1,o4_1_2_1,()),o4_2_1,o4_2_2_1,())),(5,Ent.var (Ty.arr 6 Is) o5),(8,Ent.var (Ty.pair (Ty.int IntKind.i64) (Ty.pair (Ty.int IntKind.u8) Ty.unit)) (o8_1,o8_2_1,())),(11,Ent.var (Ty.arr 30 Ty.bool) o11),(16,Ent.var (Ty.arr 6 Is) o16)]))))) (.need (inK IntKind.i64 (v77+(1:Int))) (.cut (loopAt (bodyOf Try.prog 21) 23).1 (loopAt (bodyOf Try.prog 21) 23).2 (St.mk [(2,AV.ptr 2 []),(4,AV.ptr 4 []),(5,AV.ptr 5 []),(8,AV.ptr 8 []),(10,AV.val (Ty.int IntKind.u8) v10),(11,AV.ptr 11 []),(16,AV.ptr 16 []),(17,AV.val (Ty.int IntKind.i64) v17),(73,AV.val (Ty.int IntKind.i64) v73),(76,AV.val (Ty.arr 30 Ty.bool) v76),(77,AV.val (Ty.int IntKind.i64) (v77+(1:Int)))] [(2,Ent.var (Ty.pair (Ty.pair (Ty.int IntKind.i64) (Ty.pair (Ty.int IntKind.u8) Ty.unit)) (Ty.pair (Ty.int IntKind.u8) (Ty.pair (Ty.arr 6 (Ty.slc false (Ty.int IntKind.i64))) Ty.unit))) ((o2_1_1,o2_1_2_1,()),o2_2_1,o2_2_2_1,())),(4,Ent.var (Ty.pair (Ty.pair (Ty.int IntKind.i64) (Ty.pair (Ty.int IntKind.u8) Ty.unit)) (Ty.pair (Ty.int IntKind.u8) (Ty.pair (Ty.arr 6 Is) Ty.unit))) ((o4_1_1,o4_1_2_1,()),o4_2_1,o4_2_2_1,())),(5,Ent.var (Ty.arr 6 Is) o5),(8,Ent.var (Ty.pair (Ty.int IntKind.i64) (Ty.pair (Ty.int IntKind.u8) Ty.unit)) (o8_1,o8_2_1,())),(11,Ent.var (Ty.arr 30 Ty.bool) o11),(16,Ent.var (Ty.arr 6 Is) o16)]))))) (.need (inK IntKind.i64 (v73+(1:Int))) (.cut (loopAt (bodyOf Try.prog 21) 20).1 (loopAt (bodyOf Try.prog 21) 20).2 (St.mk [(2,AV.ptr 2 []),(4,AV.ptr 4 []),(5,AV.ptr 5 []),(8,AV.ptr 8 []),(10,AV.val (Ty.int IntKind.u8) v10),(11,AV.ptr 11 []),(16,AV.ptr 16 []),(73,AV.val (Ty.int IntKind.i64) (v73+(1:Int)))] [(2,Ent.var (Ty.pair (Ty.pair (Ty.int IntKind.i64) (Ty.pair (Ty.int IntKind.u8) Ty.unit)) (Ty.pair (Ty.int IntKind.u8) (Ty.pair (Ty.arr 6 (Ty.slc false (Ty.int IntKind.i64))) Ty.unit))) ((o2_1_1,o2_1_2_1,()),o2_2_1,o2_2_2_1,())),(4,Ent.var (Ty.pair (Ty.pair (Ty.int IntKind.i64) (Ty.pair (Ty.int IntKind.u8) Ty.unit)) (Ty.pair (Ty.int IntKind.u8) (Ty.pair (Ty.arr 6 Is) Ty.unit))) ((o4_1_1,o4_1_2_1,()),o4_2_1,o4_2_2_1,())),(5,Ent.var (Ty.arr 6 Is) o5),(8,Ent.var (Ty.pair (Ty.int IntKind.i64) (Ty.pair (Ty.int IntKind.u8) Ty.unit)) (o8_1,o8_2_1,())),(11,Ent.var (Ty.arr 30 Ty.bool) o11),(16,Ent.var (Ty.arr 6 Is) o16)]))):=by kernel_rfl
theorem outs_len {L:Int} {A:List Bool} {T:List (List Int)}:∀ {p:Nat},(outs L A T p).length=6
  | 0=>rfl
  | p+1=>by rw [outs,List.length_set,outs_len]
theorem fgetD_set {α:Type} {l:List α} {i j:Nat} {x d:α} (h:i<l.length):(l.set i x).getD j d=if j=i then x else l.getD j d:=by
  rw [List.getD_eq_getElem?_getD,List.getElem?_set,List.getD_eq_getElem?_getD]
  by_cases e:i=j
  · subst e; rw [if_pos rfl,if_pos rfl,if_pos h]; rfl
  · rw [if_neg e,if_neg (fun h=>e h.symm)]
theorem fset_getD {α:Type} {l:List α} {i:Nat} (h:i<l.length) (d:α):l.set i (l.getD i d)=l:=by
  rw [List.getD_eq_getElem?_getD,List.getElem?_eq_getElem h]; simp
theorem outs_at {L:Int} {A:List Bool} {T:List (List Int)}:∀ {p q:Nat},p≤6→q<6→(outs L A T p).getD q []=if q<p then outP L A T q 30 else []
  | 0,q,_,hq=>by
    rw [if_neg (by omega)]
    match q,hq with
    | 0,_=>rfl
    | 1,_=>rfl
    | 2,_=>rfl
    | 3,_=>rfl
    | 4,_=>rfl
    | 5,_=>rfl
  | p+1,q,hp,hq=>by
    rw [outs,fgetD_set (by rw [outs_len]; omega),outs_at (by omega) hq]
    by_cases e:q=p
    · subst e; rw [if_pos rfl,if_pos (by omega)]
    · rw [if_neg e]
      by_cases e2:q<p
      · rw [if_pos e2,if_pos (by omega)]
      · rw [if_neg e2,if_neg (by omega)]
theorem outP_len {L:Int} {A:List Bool} {T:List (List Int)} {p:Nat}:∀ {m:Nat},(outP L A T p m).length≤m
  | 0=>Nat.le_refl _
  | m+1=>by
    have:=outP_len (L:=L) (A:=A) (T:=T) (p:=p) (m:=m)
    rw [outP,List.length_append]
    split<;>simp<;>omega
theorem ffoldl_take {α β:Type} {f:β→α→β} {b:β} {l:List α} {i:Nat} (h:i<l.length) (d:α):(l.take (i+1)).foldl f b=f ((l.take i).foldl f b) (l.getD i d):=by
  rw [List.take_add_one,List.foldl_append,List.getD_eq_getElem?_getD,List.getElem?_eq_getElem h]; rfl
theorem cfchange_valid:cfchange.Valid Try.prog 21:=by
  refine Ctr.valid_of Efchange_ok rfl rfl Try.func21 (c:=bodyOf Try.prog 21) rfl rfl Ffchange_ok rfl ?_
  rintro ⟨⟨⟨(num:Int),(M:Int),⟨⟩⟩,(g:Int),(T:List (List Int)),⟨⟩⟩,(c:Int),⟨⟩⟩ - -
  refine exec_sound (n:=1000) Efchange_ok Ffchange_ok ?_
  refine holds_of_eq (Efchange_t num M g T c) ?_
  have key:∀ {x:FlushD×List (List Int)×Int×Unit},fchange ((num,M,()),g,T,()) c=x→x=fchange ((num,M,()),g,T,()) c:=fun h=>h.symm
  have hd:fchange ((num,M,()),g,T,()) c=if fcheck ((num,M,()),g,T,())≠0 then (flush0,no6,fcheck ((num,M,()),g,T,()),()) else if (nextV (num,M,()) g c).2.1≠0 then (flush0,no6,(nextV (num,M,()) g c).2.1,()) else
    (((nextV (num,M,()) g c).1,0,no6,()),outs (bAndNot .u8 M g) (allIn (bAndNot .u8 M g) T 6) T 6,0,()):=rfl
  simp only [holds_cond,Tree.holds,true_and,true_implies,decide_eq_true_eq,decide_eq_false_iff_not,Bool.not_eq_true',Bool.not_eq_false',Int.toNat_natCast,inK_i64,List.length_set,List.length_cons,List.length_nil]
  refine ⟨fun a=>key (by rw [hd,if_pos a]<;>rfl),fun a=>?_⟩
  rw [if_neg a] at hd
  have hmsg:∀ q,q<6→∀ k,k<(T.getD q []).length→0≤(T.getD q []).getD k 0∧(T.getD q []).getD k 0≤29:=fun q hq k hk=>fcheck_msgs (Decidable.not_not.1 a) hq hk
  have hlen:∀ q,q<6→(T.getD q []).length≤30:=fun q hq=>fcheck_len (Decidable.not_not.1 a) hq
  refine ⟨fun b=>key (by rw [hd,if_pos b]<;>rfl),fun b=>?_⟩
  rw [if_neg b] at hd
  generalize (nextV (num,M,()) g c).1=V at *
  obtain ⟨vn,vm,vu⟩:=V
  generalize bAndNot .u8 M g=L at *
  have fin:Go.Ex.Reach Efchange Try.f21 (fchange ((num,M,()),g,T,()) c) () (.code (loopAt (bodyOf Try.prog 21) 20).1::.inLoop (loopAt (bodyOf Try.prog 21) 20).1::(loopAt (bodyOf Try.prog 21) 20).2) (Efchange_s20 L ((0:Nat):Int) num M g T 0 0 0 no6 no6 vn vm (allIn L T 6) no6):=by
    generalize allIn L T 6=A at *
    refine Reach.loopI Efchange_ok Ffchange_ok (fun p:Nat=>Efchange_s20 L (p:Int) num M g T 0 0 0 no6 no6 vn vm A (outs L A T p)) (fun p=>p≤6) (fun p=>6 - p) 1000 (fun _=>⟨uniq_of rfl,uniq_of rfl⟩) ?_ 0 (by omega)
    rintro p k1 - ih
    have k1:p≤6:=k1
    refine holds_of_eq (Efchange_l20 ..) ?_
    simp only [holds_cond,Tree.holds,true_and,true_implies,decide_eq_true_eq,decide_eq_false_iff_not,Bool.not_eq_true',Bool.not_eq_false',Int.toNat_natCast,inK_i64,List.length_set,List.length_cons,List.length_nil]
    refine ⟨fun h=>?_,fun h=>key (by rw [hd,show (6:Nat)=p by omega]; rfl)⟩
    have hp:p<6:=by omega
    have next:=ih (p+1) (by show p+1≤6; omega) (by omega)
    rw [outs] at next
    have hls:p<(outs L A T p).length:=by rw [outs_len]; exact hp
    have e0:outs L A T p=(outs L A T p).set p (outP L A T p 0):=by
      have:=fset_getD hls []
      rw [outs_at (by omega) hp,if_neg (by omega)] at this
      exact this.symm
    suffices hs2:Go.Ex.Reach Efchange Try.f21 (fchange ((num,M,()),g,T,()) c) () (.code (loopAt (bodyOf Try.prog 21) 23).1::.inLoop (loopAt (bodyOf Try.prog 21) 23).1::(loopAt (bodyOf Try.prog 21) 23).2) (Efchange_s23 L (p:Int) (p:Int) A ((0:Nat):Int) num M g T 0 0 0 no6 no6 vn vm A ((outs L A T p).set p (outP L A T p 0))) by
      rw [← e0] at hs2; exact hs2
    refine Reach.loopI Efchange_ok Ffchange_ok (fun m:Nat=>Efchange_s23 L (p:Int) (p:Int) A (m:Int) num M g T 0 0 0 no6 no6 vn vm A ((outs L A T p).set p (outP L A T p m))) (fun m=>m≤30) (fun m=>30 - m) 1000 (fun _=>⟨uniq_of rfl,uniq_of rfl⟩) ?_ 0 (by omega)
    rintro m j1 - ih2
    have j1:m≤30:=j1
    refine holds_of_eq (Efchange_l23 ..) ?_
    have hpl:=outP_len (L:=L) (A:=A) (T:=T) (p:=p) (m:=m)
    have hlf:bAnd .u8 (L / 2^min p (IntKind.bits .u8)) 1=lft L p:=rfl
    have hget:((outs L A T p).set p (outP L A T p m)).getD p []=outP L A T p m:=by rw [fgetD_set hls,if_pos rfl]
    simp only [holds_cond,Tree.holds,true_and,true_implies,decide_eq_true_eq,decide_eq_false_iff_not,Bool.not_eq_true',Bool.not_eq_false',Int.toNat_natCast,inK_i64,List.length_set,List.length_cons,List.length_nil,hget,List.set_set,wb_i64]
    rw [hlf]
    refine ⟨fun h2=>?_,fun h2=>⟨by omega,fun _=>by rw [show m=30 by omega]; exact next⟩⟩
    have next2:=ih2 (m+1) (by show m+1≤30; omega) (by omega)
    rw [outP] at next2
    refine ⟨by omega,fun _=>⟨fun q1=>⟨by omega,fun _=>⟨fun q2=>⟨by omega,fun _=>⟨fun q3=>⟨by omega,fun _=>⟨⟨by omega,by omega,by omega⟩,fun _=>⟨by omega,fun _=>?_⟩⟩⟩,fun q3=>⟨by omega,fun _=>?_⟩⟩⟩,fun q2=>⟨by omega,fun _=>?_⟩⟩⟩,fun q1=>⟨by omega,fun _=>?_⟩⟩⟩
    · rw [if_pos ⟨q1,q2,q3⟩] at next2; exact next2
    · rw [if_neg (fun h=>h.2.2 q3),List.append_nil] at next2; exact next2
    · rw [if_neg (fun h=>q2 h.2.1),List.append_nil] at next2; exact next2
    · rw [if_neg (fun h=>nf h.1 q1),List.append_nil] at next2; exact next2
  refine Reach.loopI Efchange_ok Ffchange_ok (fun p:Nat=>Efchange_s10 L T (p:Int) num M g T 0 0 0 no6 no6 vn vm (allIn L T p)) (fun p=>p≤6) (fun p=>6 - p) 1000 (fun _=>⟨uniq_of rfl,uniq_of rfl⟩) ?_ 0 (by omega)
  rintro p k1 - ih
  have k1:p≤6:=k1
  refine holds_of_eq (Efchange_l10 ..) ?_
  simp only [holds_cond,Tree.holds,true_and,true_implies,decide_eq_true_eq,decide_eq_false_iff_not,Bool.not_eq_true',Bool.not_eq_false',Int.toNat_natCast,inK_i64,List.length_set,List.length_cons,List.length_nil]
  refine ⟨fun h=>⟨by omega,fun _=>?_⟩,fun h=>by
    have e:p=6:=by omega
    subst e; exact fin⟩
  have next:=ih (p+1) (by show p+1≤6; omega) (by omega)
  rw [allIn] at next
  have hm:=hmsg p (by omega)
  have hl:=hlen p (by omega)
  have hlf:bAnd .u8 (L / 2^min p (IntKind.bits .u8)) 1=lft L p:=rfl
  generalize T.getD p []=l at *
  refine Reach.loopI Efchange_ok Ffchange_ok (fun k:Nat=>Efchange_s13 L (p:Int) T (p:Int) l (l.length:Int) (k:Int) num M g T 0 0 0 no6 no6 vn vm ((l.take k).foldl (set1 L p) (allIn L T p))) (fun k=>k≤l.length) (fun k=>l.length - k) 1000 (fun _=>⟨uniq_of rfl,uniq_of rfl⟩) ?_ 0 (by omega)
  rintro k j1 - ih2
  have j1:k≤l.length:=j1
  refine holds_of_eq (Efchange_l13 ..) ?_
  simp only [holds_cond,Tree.holds,true_and,true_implies,decide_eq_true_eq,decide_eq_false_iff_not,Bool.not_eq_true',Bool.not_eq_false',Int.toNat_natCast,inK_i64,List.length_set,List.length_cons,List.length_nil]
  refine ⟨fun h2=>⟨by omega,fun _=>?_⟩,fun h2=>⟨by omega,fun _=>?_⟩⟩
  · have hk:k<l.length:=by omega
    have next2:=ih2 (k+1) (by show k+1≤l.length; omega) (by omega)
    rw [ffoldl_take hk 0,set1] at next2
    have hx:=hm k hk
    refine ⟨by omega,fun _=>⟨fun q1=>⟨by omega,fun _=>⟨by omega,fun _=>?_⟩⟩,fun q1=>⟨by omega,fun _=>⟨by omega,fun _=>⟨by omega,fun _=>?_⟩⟩⟩⟩⟩
    · rw [q1,Bool.true_or] at next2; exact next2
    · rw [q1,Bool.false_or] at next2; exact next2
  · rw [List.take_of_length_le (by omega)]; exact next
end Go.Proofs.Ytekbamiaenbhjaa
