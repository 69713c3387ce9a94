/- TopAnswers: the walk. -/
import Derived.Test.YtgmbfnlhmnpciaaTopP
namespace Go.Proofs.Ytgmbfnlhmnpciaa
open Go.Ex
set_option maxRecDepth 100000
theorem ccastS_valid:ccastS.Valid Try.prog 9:=by
  refine Ctr.valid_of Ecast_ok rfl rfl Try.func9 (c:=bodyOf Try.prog 9) rfl rfl Fcast_ok rfl ?_
  rintro ⟨⟨(me:Int),(s:List Int),(h:List MailD),⟨⟩⟩,(t:List UInt8),⟨⟩⟩ - -
  refine exec_sound (n:=1000) Ecast_ok Fcast_ok ?_
  refine holds_of_eq (Ecast_t me s h t) ?_
  have key:∀ {y:CausalD×MailD×Int×Unit},castF (me,s,h,()) t=y→y=castF (me,s,h,()) t:=fun h=>h.symm
  have hd:castF (me,s,h,()) t=if ccheck (me,s,h,())≠0 then (c0,mail0,ccheck (me,s,h,()),()) else if 16777215≤s.getD me.toNat 0 then (c0,mail0,8,())
    else ((me,s.set me.toNat (s.getD me.toNat 0+1),h,()),(me,s.set me.toNat (s.getD me.toNat 0+1),t,()),0,()):=rfl
  simp only [holds_cond,Tree.holds,true_and,true_implies,decide_eq_true_eq,decide_eq_false_iff_not,Bool.not_eq_true',Bool.not_eq_false',Int.toNat_natCast,inK_i64,List.length_set,List.length_cons,List.length_nil]
  refine ⟨fun a=>key (by rw [hd,if_pos a]<;>rfl),fun a=>?_⟩
  have hok:=ccheck_iff.1 (Decidable.not_not.1 a)
  have hme:0≤me∧me≤5:=hok.me
  have hlen:h.length≤40:=hok.len
  have hnn:0≤s.getD me.toNat 0:=any_neg hok.nn me.toNat
  rw [if_neg a] at hd
  refine ⟨by omega,fun _=>⟨fun b=>key (by rw [hd,if_pos b]<;>rfl),fun b=>?_⟩⟩
  rw [if_neg b] at hd
  exact ⟨by omega,fun _=>⟨by omega,fun _=>⟨by omega,fun _=>⟨by omega,fun _=>key (by rw [hd]; rfl)⟩⟩⟩⟩
def cchearS:Ctr:={ ps:=[.v Causal,.v Mail],rs:=[Causal,.slc false Mail,I64],pre:=fun _=>True,fn:=fun x=>chear x.1 x.2.1,out:=fun _=>(),new:=true }
theorem cchearS_valid:cchearS.Valid Try.prog 10:=cchear_valid.share (rs':=[Causal,.slc false Mail,I64]) rfl rfl rfl
theorem eqDL_iff:∀ {l m:List Int},eqD.eqDL (fun x y:Int=>decide (x=y)) l m=true↔l=m
  | [],[]=>by simp [eqD.eqDL]
  | [],_::_=>by simp [eqD.eqDL]
  | _::_,[]=>by simp [eqD.eqDL]
  | x::l,y::m=>by
    rw [eqD.eqDL,Bool.and_eq_true,decide_eq_true_eq,eqDL_iff,List.cons.injEq]
theorem eqMailD {a b:MailD}:eqD Mail a b=true↔a=b:=by
  obtain ⟨a1,a2,a3,⟨⟩⟩:=a
  obtain ⟨b1,b2,b3,⟨⟩⟩:=b
  show (decide (a1=b1) && (eqD.eqDL (fun x y:Int=>decide (x=y)) a2 b2 && (decide ((a3:List UInt8)=b3) && true)))=true↔_
  rw [Bool.and_eq_true,Bool.and_eq_true,Bool.and_true,decide_eq_true_eq,decide_eq_true_eq,eqDL_iff]
  simp
theorem eqMailN {a b:MailD} (h:eqD Mail a b=false):¬ a=b:=fun e=>by rw [eqMailD.2 e] at h; cases h
def ceqM:Ctr:={ ps:=[.v (.slc false Mail),.v (.slc false Mail)],rs:=[.bool],pre:=fun _=>True,fn:=fun x=>(decide ((show List (MailD) from x.1)=(show List (MailD) from x.2.1)),()),out:=fun _=>() }
noncomputable def EeqM:Env:={ P:=Try.prog,tt:=tt,ctr:=[],res:=[Go.ResultVar.tmp 4],rs:=[Ty.bool],ps:=[PK.v (Ty.slc false (Ty.pair (Ty.int IntKind.i64) (Ty.pair Vec (Ty.pair Ty.str Ty.unit)))),PK.v (Ty.slc false (Ty.pair (Ty.int IntKind.i64) (Ty.pair Vec (Ty.pair Ty.str Ty.unit))))],cuts:=[(4,[(0,none),(1,none),(12,none),(13,none)])],nt:=26 }
theorem EeqM_ok:EnvOk EeqM:=envOk tt_ok trivial
theorem FeqM_ok:FnOk EeqM Try.f12:=⟨rfl,rfl⟩
theorem EeqM_t (x0:List (Int×List Int×List UInt8×Unit)) (x1:List (Int×List Int×List UInt8×Unit)):exec EeqM 1000 [.code (bodyOf Try.prog 12)] (initSt ceqM.ps ((x0,x1,()))) =
  cond (decide ((↑(List.length x0):Int)≠(↑(List.length x1):Int))) (.ret ((false,()))) (.cut (loopAt (bodyOf Try.prog 12) 4).1 (loopAt (bodyOf Try.prog 12) 4).2 (St.mk [(0,AV.val (Ty.slc false (Ty.pair (Ty.int IntKind.i64) (Ty.pair Vec (Ty.pair Ty.str Ty.unit)))) x0),(1,AV.val (Ty.slc false (Ty.pair (Ty.int IntKind.i64) (Ty.pair Vec (Ty.pair Ty.str Ty.unit)))) x1),(12,AV.val (Ty.int IntKind.i64) (↑(List.length x0):Int)),(13,AV.val (Ty.int IntKind.i64) (0:Int))] [])):=by kernel_rfl
def EeqM_s4 (v0:List (Int×List Int×List UInt8×Unit)) (v1:List (Int×List Int×List UInt8×Unit)) (v12:Int) (v13:Int):St:=St.mk [(0,AV.val (Ty.slc false (Ty.pair (Ty.int IntKind.i64) (Ty.pair Vec (Ty.pair Ty.str Ty.unit)))) v0),(1,AV.val (Ty.slc false (Ty.pair (Ty.int IntKind.i64) (Ty.pair Vec (Ty.pair Ty.str Ty.unit)))) v1),(12,AV.val (Ty.int IntKind.i64) v12),(13,AV.val (Ty.int IntKind.i64) v13)] []
theorem EeqM_l4 (v0:List (Int×List Int×List UInt8×Unit)) (v1:List (Int×List Int×List UInt8×Unit)) (v12:Int) (v13:Int):exec EeqM 1000 (.code (loopAt (bodyOf Try.prog 12) 4).1::.inLoop (loopAt (bodyOf Try.prog 12) 4).1::(loopAt (bodyOf Try.prog 12) 4).2) (EeqM_s4 v0 v1 v12 v13) =
  cond (decide (v13<v12)) (.need ((0:Int)≤v13∧v13<(↑(List.length v0):Int)) (.need ((0:Int)≤v13∧v13<(↑(List.length v1):Int)) (cond (!eqD (Ty.pair (Ty.int IntKind.i64) (Ty.pair Vec (Ty.pair Ty.str Ty.unit))) (List.getD v0 (Int.toNat v13) ((0:Int),[(0:Int),(0:Int),(0:Int),(0:Int),(0:Int),(0:Int)],[],())) (List.getD v1 (Int.toNat v13) ((0:Int),[(0:Int),(0:Int),(0:Int),(0:Int),(0:Int),(0:Int)],[],()))) (.ret ((false,()))) (.need (inK IntKind.i64 (v13+(1:Int))) (.cut (loopAt (bodyOf Try.prog 12) 4).1 (loopAt (bodyOf Try.prog 12) 4).2 (St.mk [(0,AV.val (Ty.slc false (Ty.pair (Ty.int IntKind.i64) (Ty.pair Vec (Ty.pair Ty.str Ty.unit)))) v0),(1,AV.val (Ty.slc false (Ty.pair (Ty.int IntKind.i64) (Ty.pair Vec (Ty.pair Ty.str Ty.unit)))) v1),(12,AV.val (Ty.int IntKind.i64) v12),(13,AV.val (Ty.int IntKind.i64) (v13+(1:Int)))] [])))))) (.ret ((true,()))):=by kernel_rfl
theorem ceqM_valid:ceqM.Valid Try.prog 12:=by
  refine Ctr.valid_of EeqM_ok rfl rfl Try.func12 (c:=bodyOf Try.prog 12) rfl rfl FeqM_ok rfl ?_
  rintro ⟨(l:List (MailD)),(m:List (MailD)),⟨⟩⟩ - ⟨⟨hl,-⟩,-⟩
  have hl:l.length≤9223372036854775807:=hl
  refine exec_sound (n:=1000) EeqM_ok FeqM_ok ?_
  refine holds_of_eq (EeqM_t l m) ?_
  have fin:∀ {b:Bool},(b=true↔l=m)→((b,()):Bool×Unit)=(decide (l=m),()):=fun {b} h=>by
    cases b with
    | true=>rw [decide_eq_true (h.1 rfl)]
    | false=>rw [decide_eq_false (fun e=>by cases h.2 e)]
  simp only [holds_cond,Tree.holds,true_and,true_implies,decide_eq_true_eq,decide_eq_false_iff_not,Bool.not_eq_true',Bool.not_eq_false',Int.toNat_natCast,inK_i64,List.length_set,List.length_cons,List.length_nil]
  refine ⟨fun c=>fin ⟨fun h=>(by cases h),fun h=>absurd (congrArg (fun q:List (MailD)=>(q.length:Int)) h) c⟩,fun c=>?_⟩
  refine Reach.loopI EeqM_ok FeqM_ok (fun i:Nat=>EeqM_s4 l m (l.length:Int) (i:Int)) (fun i=>i≤l.length∧∀ j,j<i→l.getD j (0,[0,0,0,0,0,0],[],())=m.getD j (0,[0,0,0,0,0,0],[],()))
    (fun i=>l.length - i) 1000 (fun _=>⟨uniq_of rfl,uniq_of rfl⟩) ?_ 0 ⟨Nat.zero_le _,fun j hj=>by omega⟩
  rintro i ⟨k1,k2⟩ - ih
  refine holds_of_eq (EeqM_l4 ..) ?_
  have c:l.length=m.length:=by omega
  simp only [holds_cond,Tree.holds,true_and,true_implies,decide_eq_true_eq,decide_eq_false_iff_not,Bool.not_eq_true',Bool.not_eq_false',Int.toNat_natCast,inK_i64,List.length_set,List.length_cons,List.length_nil]
  refine ⟨fun d1=>⟨by omega,fun _=>⟨by omega,fun _=>⟨fun d2=>fin ⟨fun h=>(by cases h),fun h=>absurd (congrArg (fun q:List (MailD)=>q.getD i (0,[0,0,0,0,0,0],[],())) h) (eqMailN d2)⟩,fun d2=>⟨by omega,fun _=>ih (i+1) ⟨by omega,fun j hj=>?_⟩ (by omega)⟩⟩⟩⟩,fun d1=>fin ⟨fun _=>eq_of_getD c (fun j hj=>k2 j (by omega)),fun _=>rfl⟩⟩
  rcases Nat.lt_or_ge j i with h|h
  · exact k2 j h
  · obtain rfl:j=i:=by omega
    exact eqMailD.1 d2
theorem sum_len_take {α:Type}:∀ (l:List (List α)) (i:Nat),((l.take i).map List.length).sum≤l.flatten.length
  | [],i=>by simp
  | a::l,0=>by simp
  | a::l,i+1=>by have:=sum_len_take l i; simp only [List.take_succ_cons,List.map_cons,List.sum_cons,List.flatten_cons,List.length_append]; omega
theorem take_getD {α:Type} {l:List α} {i:Nat} (h:i<l.length) (d:α):l.take (i+1)=l.take i++[l.getD i d]:=by
  rw [List.take_add_one,List.getElem?_eq_getElem h,List.getD_eq_getElem?_getD,List.getElem?_eq_getElem h]; rfl
theorem wb_mail:Ty.wb (.pair (.int .i64) (.pair (.arr 6 (.int .i64)) (.pair .str .unit)))=72:=rfl
abbrev mz:MailD:=(0,[0,0,0,0,0,0],[],())
def cgrowM:Ctr:={ ps:=[.nilS,.v I64],rs:=[.slc true Mail],pre:=fun x=>LE.le (α:=Int) 0 x.2.1∧LE.le (α:=Int) x.2.1 1048576,fn:=fun _=>([],()),out:=fun _=>() }
noncomputable def EgrowM:Env:={ P:=Try.prog,tt:=tt,ctr:=[],res:=[Go.ResultVar.tmp 4],rs:=[Ty.slc true (Ty.pair (Ty.int IntKind.i64) (Ty.pair Vec (Ty.pair Ty.str Ty.unit)))],ps:=[PK.nilS,PK.v (Ty.int IntKind.i64)],cuts:=[],nt:=27 }
theorem EgrowM_ok:EnvOk EgrowM:=envOk tt_ok trivial
theorem FgrowM_ok:FnOk EgrowM Try.f34:=⟨rfl,rfl⟩
theorem EgrowM_t (x1:Int):exec EgrowM 1000 [.code (bodyOf Try.prog 34)] (initSt cgrowM.ps (((),x1,()))) =
  cond (decide (x1<(0:Int))) (.stuck "op") (.need (inK IntKind.i64 ((0:Int) - (0:Int))) (.need (inK IntKind.i64 (x1 - ((0:Int) - (0:Int)))) (cond (decide ((0:Int)<x1 - ((0:Int) - (0:Int)))) (.need ((0:Int)=(0:Int)∧(0:Int)=(0:Int)) (.need ((0:Int)≤x1 - ((0:Int) - (0:Int))∧x1 - ((0:Int) - (0:Int))≤(140737488355328:Int)∧(x1 - ((0:Int) - (0:Int)))*(↑(Ty.wb (Ty.pair (Ty.int IntKind.i64) (Ty.pair Vec (Ty.pair Ty.str Ty.unit)))):Int)≤(140737488355328:Int)) (.need ((0:Int)≤(0:Int)∧(0:Int)≤(0:Int)∧(0:Int)≤(↑(List.length (List.replicate (Int.toNat (x1 - ((0:Int) - (0:Int)))) mz)):Int)) (.ret ((cut2 (0:Int) (0:Int) (List.replicate (Int.toNat (x1 - ((0:Int) - (0:Int)))) mz),())))))) (.ret (([],())))))):=by kernel_rfl
theorem cgrowM_valid:cgrowM.Valid Try.prog 34:=by
  refine Ctr.valid_of EgrowM_ok rfl rfl Try.func34 (c:=bodyOf Try.prog 34) rfl rfl FgrowM_ok rfl ?_
  rintro ⟨⟨⟩,(n:Int),⟨⟩⟩ ⟨(h0:0≤n),(h1:n≤1048576)⟩ -
  refine exec_sound (n:=1000) EgrowM_ok FgrowM_ok ?_
  refine holds_of_eq (EgrowM_t n) ?_
  simp only [holds_cond,Tree.holds,true_and,true_implies,decide_eq_true_eq,decide_eq_false_iff_not,Bool.not_eq_true',Bool.not_eq_false',Int.toNat_natCast,inK_i64,List.length_set,List.length_cons,List.length_nil,wb_mail]
  refine ⟨fun h=>by omega,fun _=>⟨by omega,fun _=>⟨by omega,fun _=>⟨fun _=>⟨by omega,fun _=>⟨by omega,fun _=>?_⟩⟩,fun _=>rfl⟩⟩⟩⟩
  rfl
def cconM:Ctr:={ ps:=[.v (.slc false (.slc false Mail))],rs:=[.slc true Mail],pre:=fun x=>(List.flatten (α:=MailD) x.1).length≤1048576,fn:=fun x=>(List.flatten (α:=MailD) x.1,()),out:=fun _=>() }
noncomputable def EconM:Env:={ P:=Try.prog,tt:=tt,ctr:=[(34,cgrowM)],res:=[Go.ResultVar.tmp 2],rs:=[Ty.slc true (Ty.pair (Ty.int IntKind.i64) (Ty.pair Vec (Ty.pair Ty.str Ty.unit)))],ps:=[PK.v (Ty.slc false (Ty.slc false (Ty.pair (Ty.int IntKind.i64) (Ty.pair Vec (Ty.pair Ty.str Ty.unit)))))],cuts:=[(3,[(0,none),(3,none),(9,none),(10,none),(11,none)]),(11,[(6,some (Ty.slc true (Ty.pair (Ty.int IntKind.i64) (Ty.pair Vec (Ty.pair Ty.str Ty.unit))))),(25,none),(26,none),(27,none)])],nt:=36 }
theorem EconM_ok:EnvOk EconM:=envOk tt_ok ⟨cgrowM_valid,trivial⟩
theorem FconM_ok:FnOk EconM Try.f11:=⟨rfl,rfl⟩
theorem EconM_t (x0:List (List (Int×List Int×List UInt8×Unit))):exec EconM 1000 [.code (bodyOf Try.prog 11)] (initSt cconM.ps ((x0,()))) =
  .cut (loopAt (bodyOf Try.prog 11) 3).1 (loopAt (bodyOf Try.prog 11) 3).2 (St.mk [(0,AV.val (Ty.slc false (Ty.slc false (Ty.pair (Ty.int IntKind.i64) (Ty.pair Vec (Ty.pair Ty.str Ty.unit))))) x0),(3,AV.val (Ty.int IntKind.i64) (0:Int)),(9,AV.val (Ty.slc false (Ty.slc false (Ty.pair (Ty.int IntKind.i64) (Ty.pair Vec (Ty.pair Ty.str Ty.unit))))) x0),(10,AV.val (Ty.int IntKind.i64) (↑(List.length x0):Int)),(11,AV.val (Ty.int IntKind.i64) (0:Int))] []):=by kernel_rfl
def EconM_s3 (v0:List (List (Int×List Int×List UInt8×Unit))) (v3:Int) (v9:List (List (Int×List Int×List UInt8×Unit))) (v10:Int) (v11:Int):St:=St.mk [(0,AV.val (Ty.slc false (Ty.slc false (Ty.pair (Ty.int IntKind.i64) (Ty.pair Vec (Ty.pair Ty.str Ty.unit))))) v0),(3,AV.val (Ty.int IntKind.i64) v3),(9,AV.val (Ty.slc false (Ty.slc false (Ty.pair (Ty.int IntKind.i64) (Ty.pair Vec (Ty.pair Ty.str Ty.unit))))) v9),(10,AV.val (Ty.int IntKind.i64) v10),(11,AV.val (Ty.int IntKind.i64) v11)] []
theorem EconM_l3 (v0:List (List (Int×List Int×List UInt8×Unit))) (v3:Int) (v9:List (List (Int×List Int×List UInt8×Unit))) (v10:Int) (v11:Int):exec EconM 1000 (.code (loopAt (bodyOf Try.prog 11) 3).1::.inLoop (loopAt (bodyOf Try.prog 11) 3).1::(loopAt (bodyOf Try.prog 11) 3).2) (EconM_s3 v0 v3 v9 v10 v11) =
  cond (decide (v11<v10)) (.need ((0:Int)≤v11∧v11<(↑(List.length v9):Int)) (.need (inK IntKind.i64 (v3+(↑(List.length (List.getD v9 (Int.toNat v11) [])):Int))) (cond (decide (v3+(↑(List.length (List.getD v9 (Int.toNat v11) [])):Int)<(0:Int))) (.stuck "op") (.need (inK IntKind.i64 (v11+(1:Int))) (.cut (loopAt (bodyOf Try.prog 11) 3).1 (loopAt (bodyOf Try.prog 11) 3).2 (St.mk [(0,AV.val (Ty.slc false (Ty.slc false (Ty.pair (Ty.int IntKind.i64) (Ty.pair Vec (Ty.pair Ty.str Ty.unit))))) v0),(3,AV.val (Ty.int IntKind.i64) (v3+(↑(List.length (List.getD v9 (Int.toNat v11) [])):Int))),(9,AV.val (Ty.slc false (Ty.slc false (Ty.pair (Ty.int IntKind.i64) (Ty.pair Vec (Ty.pair Ty.str Ty.unit))))) v9),(10,AV.val (Ty.int IntKind.i64) v10),(11,AV.val (Ty.int IntKind.i64) (v11+(1:Int)))] [])))))) (.need ((0:Int)≤v3∧v3≤(1048576:Int)) (.cut (loopAt (bodyOf Try.prog 11) 11).1 (loopAt (bodyOf Try.prog 11) 11).2 (St.mk [(6,AV.at_ 1000006 []),(25,AV.val (Ty.slc false (Ty.slc false (Ty.pair (Ty.int IntKind.i64) (Ty.pair Vec (Ty.pair Ty.str Ty.unit))))) v0),(26,AV.val (Ty.int IntKind.i64) (↑(List.length v0):Int)),(27,AV.val (Ty.int IntKind.i64) (0:Int))] [(1000006,Ent.own (Ty.slc true (Ty.pair (Ty.int IntKind.i64) (Ty.pair Vec (Ty.pair Ty.str Ty.unit)))) [])]))):=by kernel_rfl
def EconM_s11 (v25:List (List (Int×List Int×List UInt8×Unit))) (v26:Int) (v27:Int) (o1000006:List (Int×List Int×List UInt8×Unit)):St:=St.mk [(6,AV.at_ 1000006 []),(25,AV.val (Ty.slc false (Ty.slc false (Ty.pair (Ty.int IntKind.i64) (Ty.pair Vec (Ty.pair Ty.str Ty.unit))))) v25),(26,AV.val (Ty.int IntKind.i64) v26),(27,AV.val (Ty.int IntKind.i64) v27)] [(1000006,Ent.own (Ty.slc true (Ty.pair (Ty.int IntKind.i64) (Ty.pair Vec (Ty.pair Ty.str Ty.unit)))) o1000006)]
theorem EconM_l11 (v25:List (List (Int×List Int×List UInt8×Unit))) (v26:Int) (v27:Int) (o1000006:List (Int×List Int×List UInt8×Unit)):exec EconM 1000 (.code (loopAt (bodyOf Try.prog 11) 11).1::.inLoop (loopAt (bodyOf Try.prog 11) 11).1::(loopAt (bodyOf Try.prog 11) 11).2) (EconM_s11 v25 v26 v27 o1000006) =
  cond (decide (v27<v26)) (.need ((0:Int)≤v27∧v27<(↑(List.length v25):Int)) (.need (List.length o1000006+List.length (List.getD v25 (Int.toNat v27) [])≤140737488355328∧(List.length o1000006+List.length (List.getD v25 (Int.toNat v27) []))*Ty.wb (Ty.pair (Ty.int IntKind.i64) (Ty.pair Vec (Ty.pair Ty.str Ty.unit)))≤140737488355328) (.need (inK IntKind.i64 (v27+(1:Int))) (.cut (loopAt (bodyOf Try.prog 11) 11).1 (loopAt (bodyOf Try.prog 11) 11).2 (St.mk [(6,AV.at_ 1000006 []),(25,AV.val (Ty.slc false (Ty.slc false (Ty.pair (Ty.int IntKind.i64) (Ty.pair Vec (Ty.pair Ty.str Ty.unit))))) v25),(26,AV.val (Ty.int IntKind.i64) v26),(27,AV.val (Ty.int IntKind.i64) (v27+(1:Int)))] [(1000006,Ent.own (Ty.slc true (Ty.pair (Ty.int IntKind.i64) (Ty.pair Vec (Ty.pair Ty.str Ty.unit)))) (o1000006++List.getD v25 (Int.toNat v27) []))]))))) (.ret ((o1000006,()))):=by kernel_rfl
theorem cconM_valid:cconM.Valid Try.prog 11:=by
  refine Ctr.valid_of EconM_ok rfl rfl Try.func11 (c:=bodyOf Try.prog 11) rfl rfl FconM_ok rfl ?_
  rintro ⟨(l:List (List (MailD))),⟨⟩⟩ hp ⟨⟨hl,-⟩,-⟩
  have hl:l.length≤9223372036854775807:=hl
  have hp:l.flatten.length≤1048576:=hp
  refine exec_sound (n:=1000) EconM_ok FconM_ok ?_
  refine holds_of_eq (EconM_t l) ?_
  refine Reach.loopI EconM_ok FconM_ok (fun i:Nat=>EconM_s3 l (((l.take i).map List.length).sum:Nat) l (l.length:Int) (i:Int)) (fun i=>i≤l.length)
    (fun i=>l.length - i) 1000 (fun _=>⟨uniq_of rfl,uniq_of rfl⟩) ?_ 0 (Nat.zero_le _)
  rintro i k1 - ih
  have k1:i≤l.length:=k1
  refine holds_of_eq (EconM_l3 ..) ?_
  have hs:=sum_len_take l i
  simp only [holds_cond,Tree.holds,true_and,true_implies,decide_eq_true_eq,decide_eq_false_iff_not,Bool.not_eq_true',Bool.not_eq_false',Int.toNat_natCast,inK_i64,List.length_set,List.length_cons,List.length_nil]
  refine ⟨fun c=>⟨by omega,fun _=>?_⟩,fun c=>?_⟩
  · have tk:=take_getD (show i<l.length by omega) ([]:List (MailD))
    have hs1:=sum_len_take l (i+1)
    have e1:((l.take (i+1)).map List.length).sum=((l.take i).map List.length).sum+(l.getD i []).length:=by rw [tk]; simp
    rw [e1] at hs1
    have:=ih (i+1) (by show i+1≤l.length; omega) (by omega)
    rw [e1] at this
    exact ⟨by omega,fun _=>⟨fun h=>by omega,fun _=>⟨by omega,fun _=>this⟩⟩⟩
  · refine ⟨by omega,fun _=>?_⟩
    refine Reach.loopI EconM_ok FconM_ok (fun i:Nat=>EconM_s11 l (l.length:Int) (i:Int) (l.take i).flatten) (fun i=>i≤l.length)
      (fun i=>l.length - i) 1000 (fun _=>⟨uniq_of rfl,uniq_of rfl⟩) ?_ 0 (Nat.zero_le _)
    rintro i k1 - ih
    have k1:i≤l.length:=k1
    refine holds_of_eq (EconM_l11 ..) ?_
    simp only [holds_cond,Tree.holds,true_and,true_implies,decide_eq_true_eq,decide_eq_false_iff_not,Bool.not_eq_true',Bool.not_eq_false',Int.toNat_natCast,inK_i64,List.length_set,List.length_cons,List.length_nil,wb_mail]
    refine ⟨fun c=>?_,fun c=>?_⟩
    · have tk:=take_getD (show i<l.length by omega) ([]:List (MailD))
      have e1:(l.take (i+1)).flatten=(l.take i).flatten++l.getD i []:=by rw [tk]; simp
      have hb:((l.take i).flatten++l.getD i []).length≤l.flatten.length:=by
        rw [← e1]
        conv=>rhs; rw [← List.take_append_drop (i+1) l,List.flatten_append,List.length_append]
        omega
      rw [List.length_append] at hb
      have:=ih (i+1) (by show i+1≤l.length; omega) (by omega)
      rw [e1] at this
      exact ⟨by omega,fun _=>⟨by omega,fun _=>⟨by omega,fun _=>this⟩⟩⟩
    · rw [List.take_of_length_le (by omega)]
      rfl
abbrev Causal2:Ty:=.arr 2 Causal
def cTopAnswers:Ctr:={ ps:=[.v .str,.v (.slc false .str),.v I64],rs:=[.bool],pre:=fun _=>True,fn:=fun _=>(true,()),out:=fun _=>() }
noncomputable def ETopAnswers:Env:={ P:=Try.prog,tt:=tt,ctr:=[(9,ccastS),(10,cchearS),(8,crest),(11,cconM),(12,ceqM)],res:=[Go.ResultVar.tmp 6],rs:=[Ty.bool],ps:=[PK.v Ty.str,PK.v (Ty.slc false Ty.str),PK.v (Ty.int IntKind.i64)],cuts:=[(7,[(2,none),(10,some (Ty.slc true (Ty.pair (Ty.int IntKind.i64) (Ty.pair Vec (Ty.pair Ty.str Ty.unit))))),(11,some Causal2),(55,none),(56,none),(57,none)]),(12,[(2,none),(10,some (Ty.slc true (Ty.pair (Ty.int IntKind.i64) (Ty.pair Vec (Ty.pair Ty.str Ty.unit))))),(11,none),(12,none),(13,none),(14,none),(55,none),(56,none),(57,none),(68,some (Ty.slc true (Ty.pair (Ty.int IntKind.i64) (Ty.pair Vec (Ty.pair Ty.str Ty.unit))))),(69,none),(70,none)]),(28,[(10,none),(21,some Causal),(22,some (Ty.slc true (Ty.pair (Ty.int IntKind.i64) (Ty.pair Vec (Ty.pair Ty.str Ty.unit))))),(114,some (Ty.slc true (Ty.pair (Ty.int IntKind.i64) (Ty.pair Vec (Ty.pair Ty.str Ty.unit))))),(115,none),(116,none)])],nt:=137 }
theorem ETopAnswers_ok:EnvOk ETopAnswers:=envOk tt_ok ⟨ccastS_valid,cchearS_valid,crest_valid,cconM_valid,ceqM_valid,trivial⟩
theorem FTopAnswers_ok:FnOk ETopAnswers Try.f4:=⟨rfl,rfl⟩
theorem ETopAnswers_t (x0:List UInt8) (x1:List (List UInt8)) (x2:Int):exec ETopAnswers 1000 [.code (bodyOf Try.prog 4)] (initSt cTopAnswers.ps ((x0,x1,x2,()))) =
  .need (True) (.cut (loopAt (bodyOf Try.prog 4) 7).1 (loopAt (bodyOf Try.prog 4) 7).2 (St.mk [(2,AV.val (Ty.int IntKind.i64) x2),(10,AV.at_ 1000010 []),(11,AV.ptr 11 []),(55,AV.val (Ty.slc false Ty.str) x1),(56,AV.val (Ty.int IntKind.i64) (↑(List.length x1):Int)),(57,AV.val (Ty.int IntKind.i64) (0:Int))] [(11,Ent.var (Ty.arr 2 (Ty.pair (Ty.int IntKind.i64) (Ty.pair Vec (Ty.pair (Ty.slc false (Ty.pair (Ty.int IntKind.i64) (Ty.pair Vec (Ty.pair Ty.str Ty.unit)))) Ty.unit)))) (List.set (List.set [((0:Int),[(0:Int),(0:Int),(0:Int),(0:Int),(0:Int),(0:Int)],[],()),((0:Int),[(0:Int),(0:Int),(0:Int),(0:Int),(0:Int),(0:Int)],[],())] (Int.toNat (↑0:Int)) ((1:Int),[(0:Int),(0:Int),(0:Int),(0:Int),(0:Int),(0:Int)],[],())) (Int.toNat (↑1:Int)) ((2:Int),[(0:Int),(0:Int),(0:Int),(0:Int),(0:Int),(0:Int)],[],()))),(1000010,Ent.own (Ty.slc true (Ty.pair (Ty.int IntKind.i64) (Ty.pair Vec (Ty.pair Ty.str Ty.unit)))) (List.set [((0:Int),[(0:Int),(0:Int),(0:Int),(0:Int),(0:Int),(0:Int)],[],())] (Int.toNat (↑0:Int)) (Prod.fst (Prod.snd (castF ((0:Int),[(0:Int),(0:Int),(0:Int),(0:Int),(0:Int),(0:Int)],[],()) x0)))))])):=by kernel_rfl
def ETopAnswers_s7 (v2:Int) (v55:List (List UInt8)) (v56:Int) (v57:Int) (o11:List (Int×List Int×List (Int×List Int×List UInt8×Unit)×Unit)) (o1000010:List (Int×List Int×List UInt8×Unit)):St:=St.mk [(2,AV.val (Ty.int IntKind.i64) v2),(10,AV.at_ 1000010 []),(11,AV.ptr 11 []),(55,AV.val (Ty.slc false Ty.str) v55),(56,AV.val (Ty.int IntKind.i64) v56),(57,AV.val (Ty.int IntKind.i64) v57)] [(11,Ent.var (Ty.arr 2 (Ty.pair (Ty.int IntKind.i64) (Ty.pair Vec (Ty.pair (Ty.slc false (Ty.pair (Ty.int IntKind.i64) (Ty.pair Vec (Ty.pair Ty.str Ty.unit)))) Ty.unit)))) o11),(1000010,Ent.own (Ty.slc true (Ty.pair (Ty.int IntKind.i64) (Ty.pair Vec (Ty.pair Ty.str Ty.unit)))) o1000010)]
theorem ETopAnswers_l7 (v2:Int) (v55:List (List UInt8)) (v56:Int) (v57:Int) (o11:List (Int×List Int×List (Int×List Int×List UInt8×Unit)×Unit)) (o1000010:List (Int×List Int×List UInt8×Unit)):exec ETopAnswers 1000 (.code (loopAt (bodyOf Try.prog 4) 7).1::.inLoop (loopAt (bodyOf Try.prog 4) 7).1::(loopAt (bodyOf Try.prog 4) 7).2) (ETopAnswers_s7 v2 v55 v56 v57 o11 o1000010) =
  cond (decide (v57<v56)) (.need ((0:Int)≤v57∧v57<(↑(List.length v55):Int)) (cond (decide (v57=(20:Int))) (.need ((↑(List.length o1000010):Int)≤(1000000000:Int)) (.need ((0:Int)≤rest v2 (↑(List.length o1000010):Int)∧rest v2 (↑(List.length o1000010):Int)≤(↑(List.length o1000010):Int)∧(↑(List.length o1000010):Int)≤(↑(List.length o1000010):Int)) (.need ((0:Int)≤(0:Int)∧(0:Int)≤rest v2 (↑(List.length o1000010):Int)∧rest v2 (↑(List.length o1000010):Int)≤(↑(List.length o1000010):Int)) (.need (List.length (List.flatten (List.set (List.set [[],[]] (Int.toNat (↑0:Int)) (cut2 (rest v2 (↑(List.length o1000010):Int)) (↑(List.length o1000010):Int) o1000010)) (Int.toNat (↑1:Int)) (cut2 (0:Int) (rest v2 (↑(List.length o1000010):Int)) o1000010)))≤1048576) (.cut (loopAt (bodyOf Try.prog 4) 28).1 (loopAt (bodyOf Try.prog 4) 28).2 (St.mk [(10,AV.val (Ty.slc false (Ty.pair (Ty.int IntKind.i64) (Ty.pair Vec (Ty.pair Ty.str Ty.unit)))) o1000010),(21,AV.ptr 21 []),(22,AV.at_ 1000022 []),(114,AV.at_ 1000114 []),(115,AV.val (Ty.int IntKind.i64) (↑(List.length (List.flatten (List.set (List.set [[],[]] (Int.toNat (↑0:Int)) (cut2 (rest v2 (↑(List.length o1000010):Int)) (↑(List.length o1000010):Int) o1000010)) (Int.toNat (↑1:Int)) (cut2 (0:Int) (rest v2 (↑(List.length o1000010):Int)) o1000010)))):Int)),(116,AV.val (Ty.int IntKind.i64) (0:Int))] [(21,Ent.var (Ty.pair (Ty.int IntKind.i64) (Ty.pair Vec (Ty.pair (Ty.slc false (Ty.pair (Ty.int IntKind.i64) (Ty.pair Vec (Ty.pair Ty.str Ty.unit)))) Ty.unit))) ((5:Int),[(0:Int),(0:Int),(0:Int),(0:Int),(0:Int),(0:Int)],[],())),(1000022,Ent.own (Ty.slc true (Ty.pair (Ty.int IntKind.i64) (Ty.pair Vec (Ty.pair Ty.str Ty.unit)))) []),(1000114,Ent.own (Ty.slc true (Ty.pair (Ty.int IntKind.i64) (Ty.pair Vec (Ty.pair Ty.str Ty.unit)))) (List.flatten (List.set (List.set [[],[]] (Int.toNat (↑0:Int)) (cut2 (rest v2 (↑(List.length o1000010):Int)) (↑(List.length o1000010):Int) o1000010)) (Int.toNat (↑1:Int)) (cut2 (0:Int) (rest v2 (↑(List.length o1000010):Int)) o1000010))))])))))) (.need ((0:Int)<(2:Int)) (.need ((0:Int)≤Int.tmod v57 (2:Int)∧Int.tmod v57 (2:Int)<(↑2:Int)) (.cut (loopAt (bodyOf Try.prog 4) 12).1 (loopAt (bodyOf Try.prog 4) 12).2 (St.mk [(2,AV.val (Ty.int IntKind.i64) v2),(10,AV.at_ 1000068 []),(11,AV.ptr 11 []),(12,AV.val (Ty.int IntKind.i64) v57),(13,AV.val Ty.str (List.getD v55 (Int.toNat v57) [])),(14,AV.ptr 14 []),(55,AV.val (Ty.slc false Ty.str) v55),(56,AV.val (Ty.int IntKind.i64) v56),(57,AV.val (Ty.int IntKind.i64) v57),(68,AV.at_ 1000068 []),(69,AV.val (Ty.int IntKind.i64) (↑(List.length o1000010):Int)),(70,AV.val (Ty.int IntKind.i64) (0:Int))] [(11,Ent.var (Ty.arr 2 (Ty.pair (Ty.int IntKind.i64) (Ty.pair Vec (Ty.pair (Ty.slc false (Ty.pair (Ty.int IntKind.i64) (Ty.pair Vec (Ty.pair Ty.str Ty.unit)))) Ty.unit)))) o11),(14,Ent.var (Ty.pair (Ty.int IntKind.i64) (Ty.pair Vec (Ty.pair (Ty.slc false (Ty.pair (Ty.int IntKind.i64) (Ty.pair Vec (Ty.pair Ty.str Ty.unit)))) Ty.unit))) (List.getD o11 (Int.toNat (Int.tmod v57 (2:Int))) ((0:Int),[(0:Int),(0:Int),(0:Int),(0:Int),(0:Int),(0:Int)],[],()))),(1000068,Ent.own (Ty.slc true (Ty.pair (Ty.int IntKind.i64) (Ty.pair Vec (Ty.pair Ty.str Ty.unit)))) o1000010)])))))) (.need ((↑(List.length o1000010):Int)≤(1000000000:Int)) (.need ((0:Int)≤rest v2 (↑(List.length o1000010):Int)∧rest v2 (↑(List.length o1000010):Int)≤(↑(List.length o1000010):Int)∧(↑(List.length o1000010):Int)≤(↑(List.length o1000010):Int)) (.need ((0:Int)≤(0:Int)∧(0:Int)≤rest v2 (↑(List.length o1000010):Int)∧rest v2 (↑(List.length o1000010):Int)≤(↑(List.length o1000010):Int)) (.need (List.length (List.flatten (List.set (List.set [[],[]] (Int.toNat (↑0:Int)) (cut2 (rest v2 (↑(List.length o1000010):Int)) (↑(List.length o1000010):Int) o1000010)) (Int.toNat (↑1:Int)) (cut2 (0:Int) (rest v2 (↑(List.length o1000010):Int)) o1000010)))≤1048576) (.cut (loopAt (bodyOf Try.prog 4) 28).1 (loopAt (bodyOf Try.prog 4) 28).2 (St.mk [(10,AV.val (Ty.slc false (Ty.pair (Ty.int IntKind.i64) (Ty.pair Vec (Ty.pair Ty.str Ty.unit)))) o1000010),(21,AV.ptr 21 []),(22,AV.at_ 1000022 []),(114,AV.at_ 1000114 []),(115,AV.val (Ty.int IntKind.i64) (↑(List.length (List.flatten (List.set (List.set [[],[]] (Int.toNat (↑0:Int)) (cut2 (rest v2 (↑(List.length o1000010):Int)) (↑(List.length o1000010):Int) o1000010)) (Int.toNat (↑1:Int)) (cut2 (0:Int) (rest v2 (↑(List.length o1000010):Int)) o1000010)))):Int)),(116,AV.val (Ty.int IntKind.i64) (0:Int))] [(21,Ent.var (Ty.pair (Ty.int IntKind.i64) (Ty.pair Vec (Ty.pair (Ty.slc false (Ty.pair (Ty.int IntKind.i64) (Ty.pair Vec (Ty.pair Ty.str Ty.unit)))) Ty.unit))) ((5:Int),[(0:Int),(0:Int),(0:Int),(0:Int),(0:Int),(0:Int)],[],())),(1000022,Ent.own (Ty.slc true (Ty.pair (Ty.int IntKind.i64) (Ty.pair Vec (Ty.pair Ty.str Ty.unit)))) []),(1000114,Ent.own (Ty.slc true (Ty.pair (Ty.int IntKind.i64) (Ty.pair Vec (Ty.pair Ty.str Ty.unit)))) (List.flatten (List.set (List.set [[],[]] (Int.toNat (↑0:Int)) (cut2 (rest v2 (↑(List.length o1000010):Int)) (↑(List.length o1000010):Int) o1000010)) (Int.toNat (↑1:Int)) (cut2 (0:Int) (rest v2 (↑(List.length o1000010):Int)) o1000010))))])))))):=by kernel_rfl
def ETopAnswers_s28 (v10:List (Int×List Int×List UInt8×Unit)) (v115:Int) (v116:Int) (o21_1:Int) (o21_2_1:List Int) (o21_2_2_1:List (Int×List Int×List UInt8×Unit)) (o1000022:List (Int×List Int×List UInt8×Unit)) (o1000114:List (Int×List Int×List UInt8×Unit)):St:=St.mk [(10,AV.val (Ty.slc false (Ty.pair (Ty.int IntKind.i64) (Ty.pair Vec (Ty.pair Ty.str Ty.unit)))) v10),(21,AV.ptr 21 []),(22,AV.at_ 1000022 []),(114,AV.at_ 1000114 []),(115,AV.val (Ty.int IntKind.i64) v115),(116,AV.val (Ty.int IntKind.i64) v116)] [(21,Ent.var (Ty.pair (Ty.int IntKind.i64) (Ty.pair Vec (Ty.pair (Ty.slc false (Ty.pair (Ty.int IntKind.i64) (Ty.pair Vec (Ty.pair Ty.str Ty.unit)))) Ty.unit))) (o21_1,o21_2_1,o21_2_2_1,())),(1000022,Ent.own (Ty.slc true (Ty.pair (Ty.int IntKind.i64) (Ty.pair Vec (Ty.pair Ty.str Ty.unit)))) o1000022),(1000114,Ent.own (Ty.slc true (Ty.pair (Ty.int IntKind.i64) (Ty.pair Vec (Ty.pair Ty.str Ty.unit)))) o1000114)]
theorem ETopAnswers_l28 (v10:List (Int×List Int×List UInt8×Unit)) (v115:Int) (v116:Int) (o21_1:Int) (o21_2_1:List Int) (o21_2_2_1:List (Int×List Int×List UInt8×Unit)) (o1000022:List (Int×List Int×List UInt8×Unit)) (o1000114:List (Int×List Int×List UInt8×Unit)):exec ETopAnswers 1000 (.code (loopAt (bodyOf Try.prog 4) 28).1::.inLoop (loopAt (bodyOf Try.prog 4) 28).1::(loopAt (bodyOf Try.prog 4) 28).2) (ETopAnswers_s28 v10 v115 v116 o21_1 o21_2_1 o21_2_2_1 o1000022 o1000114) =
  cond (decide (v116<v115)) (.need ((0:Int)≤v116∧v116<(↑(List.length o1000114):Int)) (.need (True) (cond (decide (Prod.fst (Prod.snd (Prod.snd (chear (o21_1,o21_2_1,o21_2_2_1,()) (List.getD o1000114 (Int.toNat v116) ((0:Int),[(0:Int),(0:Int),(0:Int),(0:Int),(0:Int),(0:Int)],[],())))))≠(0:Int))) (.ret ((false,()))) (.need (List.length o1000022+List.length (Prod.fst (Prod.snd (chear (o21_1,o21_2_1,o21_2_2_1,()) (List.getD o1000114 (Int.toNat v116) ((0:Int),[(0:Int),(0:Int),(0:Int),(0:Int),(0:Int),(0:Int)],[],())))))≤140737488355328∧(List.length o1000022+List.length (Prod.fst (Prod.snd (chear (o21_1,o21_2_1,o21_2_2_1,()) (List.getD o1000114 (Int.toNat v116) ((0:Int),[(0:Int),(0:Int),(0:Int),(0:Int),(0:Int),(0:Int)],[],()))))))*Ty.wb (Ty.pair (Ty.int IntKind.i64) (Ty.pair Vec (Ty.pair Ty.str Ty.unit)))≤140737488355328) (.need (inK IntKind.i64 (v116+(1:Int))) (.cut (loopAt (bodyOf Try.prog 4) 28).1 (loopAt (bodyOf Try.prog 4) 28).2 (St.mk [(10,AV.val (Ty.slc false (Ty.pair (Ty.int IntKind.i64) (Ty.pair Vec (Ty.pair Ty.str Ty.unit)))) v10),(21,AV.ptr 21 []),(22,AV.at_ 1000022 []),(114,AV.at_ 1000114 []),(115,AV.val (Ty.int IntKind.i64) v115),(116,AV.val (Ty.int IntKind.i64) (v116+(1:Int)))] [(21,Ent.var (Ty.pair (Ty.int IntKind.i64) (Ty.pair Vec (Ty.pair (Ty.slc false (Ty.pair (Ty.int IntKind.i64) (Ty.pair Vec (Ty.pair Ty.str Ty.unit)))) Ty.unit))) (Prod.fst (chear (o21_1,o21_2_1,o21_2_2_1,()) (List.getD o1000114 (Int.toNat v116) ((0:Int),[(0:Int),(0:Int),(0:Int),(0:Int),(0:Int),(0:Int)],[],()))))),(1000022,Ent.own (Ty.slc true (Ty.pair (Ty.int IntKind.i64) (Ty.pair Vec (Ty.pair Ty.str Ty.unit)))) (o1000022++Prod.fst (Prod.snd (chear (o21_1,o21_2_1,o21_2_2_1,()) (List.getD o1000114 (Int.toNat v116) ((0:Int),[(0:Int),(0:Int),(0:Int),(0:Int),(0:Int),(0:Int)],[],())))))),(1000114,Ent.own (Ty.slc true (Ty.pair (Ty.int IntKind.i64) (Ty.pair Vec (Ty.pair Ty.str Ty.unit)))) o1000114)]))))))) (.need (True) (.ret ((decide (o1000022=v10),())))):=by kernel_rfl
def ETopAnswers_s12 (v2:Int) (v12:Int) (v13:List UInt8) (v55:List (List UInt8)) (v56:Int) (v57:Int) (v69:Int) (v70:Int) (o11:List (Int×List Int×List (Int×List Int×List UInt8×Unit)×Unit)) (o14_1:Int) (o14_2_1:List Int) (o14_2_2_1:List (Int×List Int×List UInt8×Unit)) (o1000068:List (Int×List Int×List UInt8×Unit)):St:=St.mk [(2,AV.val (Ty.int IntKind.i64) v2),(10,AV.at_ 1000068 []),(11,AV.ptr 11 []),(12,AV.val (Ty.int IntKind.i64) v12),(13,AV.val Ty.str v13),(14,AV.ptr 14 []),(55,AV.val (Ty.slc false Ty.str) v55),(56,AV.val (Ty.int IntKind.i64) v56),(57,AV.val (Ty.int IntKind.i64) v57),(68,AV.at_ 1000068 []),(69,AV.val (Ty.int IntKind.i64) v69),(70,AV.val (Ty.int IntKind.i64) v70)] [(11,Ent.var (Ty.arr 2 (Ty.pair (Ty.int IntKind.i64) (Ty.pair Vec (Ty.pair (Ty.slc false (Ty.pair (Ty.int IntKind.i64) (Ty.pair Vec (Ty.pair Ty.str Ty.unit)))) Ty.unit)))) o11),(14,Ent.var (Ty.pair (Ty.int IntKind.i64) (Ty.pair Vec (Ty.pair (Ty.slc false (Ty.pair (Ty.int IntKind.i64) (Ty.pair Vec (Ty.pair Ty.str Ty.unit)))) Ty.unit))) (o14_1,o14_2_1,o14_2_2_1,())),(1000068,Ent.own (Ty.slc true (Ty.pair (Ty.int IntKind.i64) (Ty.pair Vec (Ty.pair Ty.str Ty.unit)))) o1000068)]
theorem ETopAnswers_l12 (v2:Int) (v12:Int) (v13:List UInt8) (v55:List (List UInt8)) (v56:Int) (v57:Int) (v69:Int) (v70:Int) (o11:List (Int×List Int×List (Int×List Int×List UInt8×Unit)×Unit)) (o14_1:Int) (o14_2_1:List Int) (o14_2_2_1:List (Int×List Int×List UInt8×Unit)) (o1000068:List (Int×List Int×List UInt8×Unit)):exec ETopAnswers 1000 (.code (loopAt (bodyOf Try.prog 4) 12).1::.inLoop (loopAt (bodyOf Try.prog 4) 12).1::(loopAt (bodyOf Try.prog 4) 12).2) (ETopAnswers_s12 v2 v12 v13 v55 v56 v57 v69 v70 o11 o14_1 o14_2_1 o14_2_2_1 o1000068) =
  cond (decide (v70<v69)) (.need ((0:Int)≤v70∧v70<(↑(List.length o1000068):Int)) (.need (True) (cond (decide (Prod.fst (Prod.snd (Prod.snd (chear (o14_1,o14_2_1,o14_2_2_1,()) (List.getD o1000068 (Int.toNat v70) ((0:Int),[(0:Int),(0:Int),(0:Int),(0:Int),(0:Int),(0:Int)],[],())))))≠(0:Int))) (.ret ((false,()))) (.need (inK IntKind.i64 (v70+(1:Int))) (.cut (loopAt (bodyOf Try.prog 4) 12).1 (loopAt (bodyOf Try.prog 4) 12).2 (St.mk [(2,AV.val (Ty.int IntKind.i64) v2),(10,AV.at_ 1000068 []),(11,AV.ptr 11 []),(12,AV.val (Ty.int IntKind.i64) v12),(13,AV.val Ty.str v13),(14,AV.ptr 14 []),(55,AV.val (Ty.slc false Ty.str) v55),(56,AV.val (Ty.int IntKind.i64) v56),(57,AV.val (Ty.int IntKind.i64) v57),(68,AV.at_ 1000068 []),(69,AV.val (Ty.int IntKind.i64) v69),(70,AV.val (Ty.int IntKind.i64) (v70+(1:Int)))] [(11,Ent.var (Ty.arr 2 (Ty.pair (Ty.int IntKind.i64) (Ty.pair Vec (Ty.pair (Ty.slc false (Ty.pair (Ty.int IntKind.i64) (Ty.pair Vec (Ty.pair Ty.str Ty.unit)))) Ty.unit)))) o11),(14,Ent.var (Ty.pair (Ty.int IntKind.i64) (Ty.pair Vec (Ty.pair (Ty.slc false (Ty.pair (Ty.int IntKind.i64) (Ty.pair Vec (Ty.pair Ty.str Ty.unit)))) Ty.unit))) (Prod.fst (chear (o14_1,o14_2_1,o14_2_2_1,()) (List.getD o1000068 (Int.toNat v70) ((0:Int),[(0:Int),(0:Int),(0:Int),(0:Int),(0:Int),(0:Int)],[],()))))),(1000068,Ent.own (Ty.slc true (Ty.pair (Ty.int IntKind.i64) (Ty.pair Vec (Ty.pair Ty.str Ty.unit)))) o1000068)])))))) (.need (True) (cond (decide (Prod.fst (Prod.snd (Prod.snd (castF (o14_1,o14_2_1,o14_2_2_1,()) v13)))≠(0:Int))) (.ret ((false,()))) (.need ((0:Int)<(2:Int)) (.need (List.length o1000068+List.length (List.set [((0:Int),[(0:Int),(0:Int),(0:Int),(0:Int),(0:Int),(0:Int)],[],())] (Int.toNat (↑0:Int)) (Prod.fst (Prod.snd (castF (o14_1,o14_2_1,o14_2_2_1,()) v13))))≤140737488355328∧(List.length o1000068+List.length (List.set [((0:Int),[(0:Int),(0:Int),(0:Int),(0:Int),(0:Int),(0:Int)],[],())] (Int.toNat (↑0:Int)) (Prod.fst (Prod.snd (castF (o14_1,o14_2_1,o14_2_2_1,()) v13)))))*Ty.wb (Ty.pair (Ty.int IntKind.i64) (Ty.pair Vec (Ty.pair Ty.str Ty.unit)))≤140737488355328) (.need ((0:Int)≤Int.tmod v12 (2:Int)∧Int.tmod v12 (2:Int)<(↑2:Int)) (.need (inK IntKind.i64 (v57+(1:Int))) (.cut (loopAt (bodyOf Try.prog 4) 7).1 (loopAt (bodyOf Try.prog 4) 7).2 (St.mk [(2,AV.val (Ty.int IntKind.i64) v2),(10,AV.at_ 1000010 []),(11,AV.ptr 11 []),(55,AV.val (Ty.slc false Ty.str) v55),(56,AV.val (Ty.int IntKind.i64) v56),(57,AV.val (Ty.int IntKind.i64) (v57+(1:Int)))] [(11,Ent.var (Ty.arr 2 (Ty.pair (Ty.int IntKind.i64) (Ty.pair Vec (Ty.pair (Ty.slc false (Ty.pair (Ty.int IntKind.i64) (Ty.pair Vec (Ty.pair Ty.str Ty.unit)))) Ty.unit)))) (List.set o11 (Int.toNat (Int.tmod v12 (2:Int))) (Prod.fst (castF (o14_1,o14_2_1,o14_2_2_1,()) v13)))),(1000010,Ent.own (Ty.slc true (Ty.pair (Ty.int IntKind.i64) (Ty.pair Vec (Ty.pair Ty.str Ty.unit)))) (o1000068++List.set [((0:Int),[(0:Int),(0:Int),(0:Int),(0:Int),(0:Int),(0:Int)],[],())] (Int.toNat (↑0:Int)) (Prod.fst (Prod.snd (castF (o14_1,o14_2_1,o14_2_2_1,()) v13)))))])))))))):=by kernel_rfl
def tx (x:List UInt8) (l:List (List UInt8)) (j:Nat):List UInt8:=if j=0 then x else l.getD (j - 1) []
def par (i:Nat):Nat:=i % 2
theorem par_eq (i:Nat):par i=i % 2:=rfl
theorem par_next (i:Nat):frm (i+1)=1+((par i:Nat):Int):=frm_next i
def bothL (t:Nat→List UInt8) (i:Nat):List CausalD:=[lis t 1 (qf 0 i) 0 0,lis t 2 (qf 1 i) 0 0]
section
variable {t:Nat→List UInt8}
theorem both_get (i:Nat) (d:CausalD):(bothL t i).getD (par i) d=lis t (1+((par i:Nat):Int)) (qf (par i) i) 0 0:=by
  rcases (show par i=0∨par i=1 by have:=par_eq i; omega) with e|e<;>rw [e]<;>rfl
theorem both_set (i:Nat):(bothL t i).set (par i) (lis t (1+((par i:Nat):Int)) (i+2) 0 0)=bothL t (i+1):=by
  have h2:qf (par i) (i+1)=i+2:=qf_next (i:=i)
  rcases (show par i=0∨par i=1 by have:=par_eq i; omega) with e|e
  · have h1:=qf_same (i:=i) (p:=1) (by omega) (by have:=par_eq i; omega)
    rw [e] at h2 ⊢
    unfold bothL
    rw [h1,h2]; rfl
  · have h1:=qf_same (i:=i) (p:=0) (by omega) (by have:=par_eq i; omega)
    rw [e] at h2 ⊢
    unfold bothL
    rw [h1,h2]; rfl
theorem hl_take {k n:Nat} (h:k≤n):(hl t 0 n).take k=hl t 0 k:=by
  rw [← hl_app (t:=t) (a:=0) (b:=k) (c:=n) (by omega) h,List.take_left' (by rw [hl_len]; omega)]
theorem hl_drop {k n:Nat} (h:k≤n):(hl t 0 n).drop k=hl t k n:=by
  rw [← hl_app (t:=t) (a:=0) (b:=k) (c:=n) (by omega) h,List.drop_left' (by rw [hl_len]; omega)]
theorem turn_get {k n r:Nat} (hk:k≤n) (hr:r<n) (d:MailD):(hl t k n++hl t 0 k).getD r d=if r<n - k then ml t (k+r) else ml t (r - (n - k)):=by
  rw [List.getD_eq_getElem?_getD]
  by_cases h:r<n - k
  · rw [if_pos h,List.getElem?_append_left (by rw [hl_len]; exact h),← List.getD_eq_getElem?_getD,hl_get h]
  · rw [if_neg h,List.getElem?_append_right (by rw [hl_len]; omega),hl_len,← List.getD_eq_getElem?_getD,hl_get (by omega),Nat.zero_add]
theorem lst0 {k n:Nat}:lst t k n 0=((5,[0,0,0,0,0,0],[],()),[]):=by
  unfold lst
  split
  · rfl
  · rw [if_pos (Nat.zero_le _)]
    show ((5,sv 0,hl t k (k+0),()),[])=_
    rw [hl_nil (by omega)]; rfl
end
theorem flat2 {α:Type} {a b:List α}:List.flatten (List.set (List.set [[],[]] (Int.toNat 0) a) (Int.toNat 1) b)=a++b:=by show a++(b++[])=a++b; rw [List.append_nil]
theorem tmod2 (i:Nat):Int.tmod (i:Int) 2=((par i:Nat):Int):=by
  rw [Int.tmod_eq_emod_of_nonneg (by omega),par_eq]; omega
attribute [local irreducible] lst hl sv qf exec chear castF
set_option maxHeartbeats 2000000 in
theorem cTopAnswers_valid:cTopAnswers.Valid Try.prog 4:=by
  refine Ctr.valid_of ETopAnswers_ok rfl rfl Try.func4 (c:=bodyOf Try.prog 4) rfl rfl FTopAnswers_ok rfl ?_
  rintro ⟨(x:List UInt8),(l:List (List UInt8)),(u:Int),⟨⟩⟩ - -
  refine exec_sound (n:=1000) ETopAnswers_ok FTopAnswers_ok ?_
  refine holds_of_eq (ETopAnswers_t x l u) ?_
  obtain ⟨t,ht⟩:∃ t,t=tx x l:=⟨_,rfl⟩
  have w72:=wb_mail
  have one:∀ y:MailD,List.set [((0:Int),[(0:Int),(0:Int),(0:Int),(0:Int),(0:Int),(0:Int)],([]:List UInt8),())] (Int.toNat 0) y=[y]:=fun _=>rfl
  have s1:castF (0,[0,0,0,0,0,0],[],()) x=((frm 0,sv 1,[],()),ml t 0,0,()):=by
    have h:=cast_ml (t:=t) (k:=0) (by omega)
    have e1:t 0=x:=by rw [ht]; rfl
    have e2:frm 0=0:=rfl
    have e3:sv 0=[0,0,0,0,0,0]:=by decide +kernel
    rw [e1,e3] at h
    exact h
  have s2:[ml t 0]=hl t 0 1:=by rw [hl_succ (Nat.zero_le 0),hl_nil (Nat.le_refl 0)]; rfl
  have s3:List.set (List.set [((0:Int),[(0:Int),0,0,0,0,0],([]:List MailD),()),(0,[0,0,0,0,0,0],[],())] (Int.toNat 0) (1,[0,0,0,0,0,0],[],())) (Int.toNat 1) (2,[0,0,0,0,0,0],[],())=bothL t 0:=by
    have e3:sv 0=[0,0,0,0,0,0]:=by decide +kernel
    have e4:hl t 0 0=[]:=hl_nil (Nat.le_refl 0)
    have e5:qf 0 0=0:=by decide +kernel
    have e6:qf 1 0=0:=by decide +kernel
    unfold bothL
    show _=[((1:Int),sv (qf 0 0),hl t 0 0,()),(2,sv (qf 1 0),hl t 0 0,())]
    rw [e4,e5,e6,e3]; rfl
  have fin:∀ n:Nat,1≤n→n≤21→∀ k:Nat,k<n→Go.Ex.Reach ETopAnswers Try.f4 (true,()) () (.code (loopAt (bodyOf Try.prog 4) 28).1::.inLoop (loopAt (bodyOf Try.prog 4) 28).1::(loopAt (bodyOf Try.prog 4) 28).2) (ETopAnswers_s28 (hl t 0 n) (n:Int) ((0:Nat):Int) 5 [0,0,0,0,0,0] [] [] (hl t k n++hl t 0 k)):=by
    intro n h1 h2 k hk
    have hL:(hl t k n++hl t 0 k).length=n:=by rw [List.length_append,hl_len,hl_len]; omega
    suffices key:Go.Ex.Reach ETopAnswers Try.f4 (true,()) () (.code (loopAt (bodyOf Try.prog 4) 28).1::.inLoop (loopAt (bodyOf Try.prog 4) 28).1::(loopAt (bodyOf Try.prog 4) 28).2) (ETopAnswers_s28 (hl t 0 n) (n:Int) ((0:Nat):Int) (lst t k n 0).1.1 (lst t k n 0).1.2.1 (lst t k n 0).1.2.2.1 (lst t k n 0).2 (hl t k n++hl t 0 k)) by
      rw [lst0] at key; exact key
    refine Reach.loopI ETopAnswers_ok FTopAnswers_ok (fun r:Nat=>ETopAnswers_s28 (hl t 0 n) (n:Int) (r:Int) (lst t k n r).1.1 (lst t k n r).1.2.1 (lst t k n r).1.2.2.1 (lst t k n r).2 (hl t k n++hl t 0 k)) (fun r=>r≤n) (fun r=>n - r) 1000 (fun _=>⟨uniq_of rfl,uniq_of rfl⟩) ?_ 0 (Nat.zero_le _)
    rintro r (k1:r≤n) - ih
    refine holds_of_eq (ETopAnswers_l28 ..) ?_
    have hll:=lst_len (t:=t) (k:=k) k1
    simp only [holds_cond,Tree.holds,true_and,true_implies,decide_eq_true_eq,decide_eq_false_iff_not,Bool.not_eq_true',Bool.not_eq_false',Int.toNat_natCast,inK_i64,List.length_set,List.length_cons,List.length_nil,w72,hL]
    refine ⟨fun c=>?_,fun c=>?_⟩
    · have hr:r<n:=by omega
      obtain ⟨m,q1,q2⟩:=lst_step (t:=t) (by omega) hk hr
      have hl2:=lst_len (t:=t) (k:=k) (n:=n) (r:=r+1) (by omega)
      have next:=ih (r+1) (by omega) (by omega)
      rw [q2,List.length_append] at hl2
      rw [turn_get (by omega) hr]
      have e9:chear ((lst t k n r).1.1,(lst t k n r).1.2.1,(lst t k n r).1.2.2.1,()) (if r<n - k then ml t (k+r) else ml t (r - (n - k)))=((lst t k n (r+1)).1,m,0,()):=q1
      simp only [e9]
      rw [q2] at next
      exact ⟨⟨by omega,by omega⟩,fun _=>⟨fun e=>absurd rfl e,fun _=>⟨⟨by omega,by omega⟩,fun _=>⟨by omega,fun _=>next⟩⟩⟩⟩
    · obtain rfl:r=n:=by omega
      show ((decide _,()):Bool×Unit)=(true,())
      rw [decide_eq_true (lst_end hk)]
  suffices start:Go.Ex.Reach ETopAnswers Try.f4 (true,()) () (.code (loopAt (bodyOf Try.prog 4) 7).1::.inLoop (loopAt (bodyOf Try.prog 4) 7).1::(loopAt (bodyOf Try.prog 4) 7).2) (ETopAnswers_s7 u l (l.length:Int) ((0:Nat):Int) (bothL t 0) (hl t 0 (0+1))) by
    simp only [holds_cond,Tree.holds,true_and,true_implies,decide_eq_true_eq,decide_eq_false_iff_not,Bool.not_eq_true',Bool.not_eq_false',Int.toNat_natCast,inK_i64,List.length_set,List.length_cons,List.length_nil,one,s1,s3,s2]
    exact start
  refine Reach.loopI ETopAnswers_ok FTopAnswers_ok (fun i:Nat=>ETopAnswers_s7 u l (l.length:Int) (i:Int) (bothL t i) (hl t 0 (i+1))) (fun i=>i≤l.length∧i≤20) (fun i=>l.length - i) 1000 (fun _=>⟨uniq_of rfl,uniq_of rfl⟩) ?_ 0 ⟨Nat.zero_le _,Nat.zero_le _⟩
  rintro i ⟨(k1:i≤l.length),(k2:i≤20)⟩ - ih
  refine holds_of_eq (ETopAnswers_l7 ..) ?_
  have hpar:=par_eq i
  have hlen:(hl t 0 (i+1)).length=i+1:=by rw [hl_len]; omega
  have hr:=rest_in (a:=u) (show 0<((i+1:Nat):Int) by omega)
  obtain ⟨k,hk⟩:∃ k:Nat,rest u ((i+1:Nat):Int)=k:=⟨(rest u ((i+1:Nat):Int)).toNat,by omega⟩
  rw [hk] at hr
  have hki:k<i+1:=by omega
  have c1:cut2 (k:Int) ((i+1:Nat):Int) (hl t 0 (i+1))=hl t k (i+1):=by
    rw [cut2,List.take_of_length_le (by rw [List.length_drop,hlen]; omega),Int.toNat_natCast,hl_drop (by omega)]
  have c2:cut2 (0:Int) (k:Int) (hl t 0 (i+1))=hl t 0 k:=by rw [cut2_tk,hl_take (by omega)]
  have hfl:(hl t k (i+1)++hl t 0 k).length=i+1:=by rw [List.length_append,hl_len,hl_len]; omega
  have hdone:=fin (i+1) (by omega) (by omega) k hki
  simp only [holds_cond,Tree.holds,true_and,true_implies,decide_eq_true_eq,decide_eq_false_iff_not,Bool.not_eq_true',Bool.not_eq_false',Int.toNat_natCast,inK_i64,List.length_set,List.length_cons,List.length_nil,hlen,hk,c1,c2,flat2,hfl,tmod2,both_get]
  refine ⟨fun c=>⟨⟨by omega,by omega⟩,fun _=>⟨fun d=>⟨by omega,fun _=>⟨⟨by omega,by omega,by omega⟩,fun _=>⟨⟨by omega,by omega,by omega⟩,fun _=>⟨by omega,fun _=>hdone⟩⟩⟩⟩,fun d=>⟨by omega,fun _=>⟨⟨by omega,by omega⟩,fun _=>?_⟩⟩⟩⟩,fun c=>⟨by omega,fun _=>⟨⟨by omega,by omega,by omega⟩,fun _=>⟨⟨by omega,by omega,by omega⟩,fun _=>⟨by omega,fun _=>hdone⟩⟩⟩⟩⟩
  have hi:i<l.length:=by omega
  have hq:qf (par i) i=if i<2 then 0 else i:=qf_now
  have hqi:qf (par i) i≤i:=by rw [hq]; split<;>omega
  suffices inner:Go.Ex.Reach ETopAnswers Try.f4 (true,()) () (.code (loopAt (bodyOf Try.prog 4) 12).1::.inLoop (loopAt (bodyOf Try.prog 4) 12).1::(loopAt (bodyOf Try.prog 4) 12).2) (ETopAnswers_s12 u (i:Int) (l.getD i []) l (l.length:Int) (i:Int) ((i+1:Nat):Int) ((0:Nat):Int) (bothL t i) (1+((par i:Nat):Int)) (sv (max (qf (par i) i) 0)) (hl t 0 0) (hl t 0 (i+1))) by
    rw [Nat.max_eq_left (Nat.zero_le _)] at inner
    exact inner
  refine Reach.loopI ETopAnswers_ok FTopAnswers_ok (fun j:Nat=>ETopAnswers_s12 u (i:Int) (l.getD i []) l (l.length:Int) (i:Int) ((i+1:Nat):Int) (j:Int) (bothL t i) (1+((par i:Nat):Int)) (sv (max (qf (par i) i) j)) (hl t 0 0) (hl t 0 (i+1))) (fun j=>j≤i+1) (fun j=>i+1 - j) 1000 (fun _=>⟨uniq_of rfl,uniq_of rfl⟩) ?_ 0 (Nat.zero_le _)
  rintro j (j1:j≤i+1) - ih2
  refine holds_of_eq (ETopAnswers_l12 ..) ?_
  simp only [holds_cond,Tree.holds,true_and,true_implies,decide_eq_true_eq,decide_eq_false_iff_not,Bool.not_eq_true',Bool.not_eq_false',Int.toNat_natCast,inK_i64,List.length_set,List.length_cons,List.length_nil,hlen,one,w72,tmod2]
  refine ⟨fun c2=>⟨⟨by omega,by omega⟩,fun _=>?_⟩,fun c2=>?_⟩
  · obtain ⟨m,q1⟩:=who_step (t:=t) (me:=1+((par i:Nat):Int)) (q:=qf (par i) i) (j:=j) (by omega) (by omega) (by omega) (fun h9=>frm_now (i:=i) (by rw [← hq]; exact h9) (by omega))
    have eg:(hl t 0 (i+1)).getD j (0,[0,0,0,0,0,0],[],())=ml t j:=by rw [hl_get (by omega),Nat.zero_add]
    have next:=ih2 (j+1) (by omega) (by omega)
    have q1:chear (1+((par i:Nat):Int),sv (max (qf (par i) i) j),hl t 0 0,()) (ml t j)=((1+((par i:Nat):Int),sv (max (qf (par i) i) (j+1)),hl t 0 0,()),m,0,()):=q1
    simp only [eg,q1]
    exact ⟨fun e=>absurd rfl e,fun _=>⟨by omega,fun _=>next⟩⟩
  · have hj:j=i+1:=by omega
    subst hj
    rw [Nat.max_eq_right (by omega)]
    have hc:=cast_ml (t:=t) (k:=i+1) (by omega)
    have et:t (i+1)=l.getD i []:=by rw [ht,tx,if_neg (by omega)]; rfl
    have e4:hl t 0 0=[]:=hl_nil (Nat.le_refl 0)
    rw [et,par_next] at hc
    simp only [e4,hc]
    have next:=ih (i+1) ⟨by omega,by omega⟩ (by omega)
    rw [hl_succ (Nat.zero_le _),← both_set] at next
    have e5:lis t (1+((par i:Nat):Int)) (i+2) 0 0=(1+((par i:Nat):Int),sv (i+2),[],()):=by
      show (1+((par i:Nat):Int),sv (i+2),hl t 0 0,())=_
      rw [e4]
    rw [e5] at next
    exact ⟨fun e=>absurd rfl e,fun _=>⟨by omega,fun _=>⟨⟨by omega,by omega⟩,fun _=>⟨⟨by omega,by omega⟩,fun _=>⟨by omega,fun _=>next⟩⟩⟩⟩⟩
end Go.Proofs.Ytgmbfnlhmnpciaa
