/- The contracts of the package causal's functions: Check and what it calls. No condition but those named. -/
import Derived.Test.YtgmbfnlhmnpciaaBase
import Derived.Test.YtgmbfnlhmnpciaaListD
namespace Go.Proofs.Ytgmbfnlhmnpciaa
open Go.Ex
set_option maxRecDepth 100000
abbrev MailD:=Int×List Int×List UInt8×Unit
abbrev CausalD:=Int×List Int×List MailD×Unit
def mail0:MailD:=(0,[0,0,0,0,0,0],[],())
def ccin:Ctr:={ ps:=[.v I64,.v I64,.v I64],rs:=[.bool],pre:=fun _=>True,fn:=fun x=>(inF x.1 x.2.1 x.2.2.1,()),out:=fun _=>() }
noncomputable def Ecin:Env:={ P:=Try.prog,tt:=tt,ctr:=[],res:=[Go.ResultVar.tmp 6],rs:=[Ty.bool],ps:=[PK.v (Ty.int IntKind.i64),PK.v (Ty.int IntKind.i64),PK.v (Ty.int IntKind.i64)],cuts:=[],nt:=15 }
theorem Ecin_ok:EnvOk Ecin:=envOk tt_ok trivial
theorem Fcin_ok:FnOk Ecin Try.f49:=⟨rfl,rfl⟩
theorem Ecin_t (x0:Int) (x1:Int) (x2:Int):exec Ecin 1000 [.code (bodyOf Try.prog 49)] (initSt ccin.ps ((x0,x1,x2,()))) =
  cond (decide (x1≤x0)) (.ret ((decide (x0≤x2),()))) (.ret ((false,()))):=by kernel_rfl
theorem ccin_valid:ccin.Valid Try.prog 49:=by
  refine Ctr.valid_of Ecin_ok rfl rfl Try.func49 (c:=bodyOf Try.prog 49) rfl rfl Fcin_ok rfl ?_
  rintro ⟨(a:Int),(b:Int),(c:Int),⟨⟩⟩ - -
  refine exec_sound (n:=1000) Ecin_ok Fcin_ok ?_
  refine holds_of_eq (Ecin_t a b c) ?_
  simp only [holds_cond,Tree.holds,true_and,true_implies,decide_eq_true_eq,decide_eq_false_iff_not,Bool.not_eq_true',Bool.not_eq_false',Int.toNat_natCast,inK_i64,List.length_set,List.length_cons,List.length_nil]
  repeat' first|exact trivial|(refine And.intro ?_ ?_)|(intro _)
  all_goals (show ((_,()):Bool×Unit)=(inF a b c,()); simp [inF, *])
def neg (n:Int):Bool:=decide (n<0)
def cnegF:Ctr:={ ps:=[.v I64],rs:=[.bool],pre:=fun _=>True,fn:=fun x=>(neg x.1,()),out:=fun _=>() }
noncomputable def EnegF:Env:={ P:=Try.prog,tt:=tt,ctr:=[],res:=[Go.ResultVar.tmp 2],rs:=[Ty.bool],ps:=[PK.v (Ty.int IntKind.i64)],cuts:=[],nt:=5 }
theorem EnegF_ok:EnvOk EnegF:=envOk tt_ok trivial
theorem FnegF_ok:FnOk EnegF Try.f53:=⟨rfl,rfl⟩
theorem EnegF_t (x0:Int):exec EnegF 1000 [.code (bodyOf Try.prog 53)] (initSt cnegF.ps ((x0,()))) =
  .ret ((decide (x0<(0:Int)),())):=by kernel_rfl
theorem cnegF_valid:cnegF.Valid Try.prog 53:=by
  refine Ctr.valid_of EnegF_ok rfl rfl Try.func53 (c:=bodyOf Try.prog 53) rfl rfl FnegF_ok rfl ?_
  rintro ⟨(n:Int),⟨⟩⟩ - -
  refine exec_sound (n:=1000) EnegF_ok FnegF_ok ?_
  refine holds_of_eq (EnegF_t n) ?_
  rfl
def cnegC:Ctr:={ ps:=[.v I64],rs:=[.bool],pre:=fun _=>True,fn:=fun x=>(neg x.1,()),out:=fun _=>() }
noncomputable def EnegC:Env:={ P:=Try.prog,tt:=tt,ctr:=[],res:=[Go.ResultVar.tmp 2],rs:=[Ty.bool],ps:=[PK.v (Ty.int IntKind.i64)],cuts:=[],nt:=5 }
theorem EnegC_ok:EnvOk EnegC:=envOk tt_ok trivial
theorem FnegC_ok:FnOk EnegC Try.f50:=⟨rfl,rfl⟩
theorem EnegC_t (x0:Int):exec EnegC 1000 [.code (bodyOf Try.prog 50)] (initSt cnegC.ps ((x0,()))) =
  .ret ((decide (x0<(0:Int)),())):=by kernel_rfl
theorem cnegC_valid:cnegC.Valid Try.prog 50:=by
  refine Ctr.valid_of EnegC_ok rfl rfl Try.func50 (c:=bodyOf Try.prog 50) rfl rfl FnegC_ok rfl ?_
  rintro ⟨(n:Int),⟨⟩⟩ - -
  refine exec_sound (n:=1000) EnegC_ok FnegC_ok ?_
  refine holds_of_eq (EnegC_t n) ?_
  rfl
def cidxN1:Ctr:={ ps:=[.v (.slc false I64),.clo 53 []],rs:=[I64],pre:=fun x=>True,fn:=fun x=>(idxOf (neg) x.1,()),out:=fun _=>() }
noncomputable def EidxN1:Env:={ P:=Try.prog,tt:=tt,ctr:=[(53,cnegF)],res:=[Go.ResultVar.tmp 4],rs:=[Ty.int IntKind.i64],ps:=[PK.v (Ty.slc false (Ty.int IntKind.i64)),PK.clo 53 []],cuts:=[(2,[(0,none),(1,none),(7,none),(8,none)])],nt:=19 }
theorem EidxN1_ok:EnvOk EidxN1:=envOk tt_ok ⟨cnegF_valid,trivial⟩
theorem FidxN1_ok:FnOk EidxN1 Try.f57:=⟨rfl,rfl⟩
theorem EidxN1_t (x0:List Int):exec EidxN1 1000 [.code (bodyOf Try.prog 57)] (initSt cidxN1.ps ((x0,(),()))) =
  .cut (loopAt (bodyOf Try.prog 57) 2).1 (loopAt (bodyOf Try.prog 57) 2).2 (St.mk [(0,AV.val (Ty.slc false (Ty.int IntKind.i64)) x0),(1,AV.clo 53 AV.nil),(7,AV.val (Ty.int IntKind.i64) (↑(List.length x0):Int)),(8,AV.val (Ty.int IntKind.i64) (0:Int))] []):=by kernel_rfl
def EidxN1_s2 (v0:List Int) (v7:Int) (v8:Int):St:=St.mk [(0,AV.val (Ty.slc false (Ty.int IntKind.i64)) v0),(1,AV.clo 53 AV.nil),(7,AV.val (Ty.int IntKind.i64) v7),(8,AV.val (Ty.int IntKind.i64) v8)] []
theorem EidxN1_l2 (v0:List Int) (v7:Int) (v8:Int):exec EidxN1 1000 (.code (loopAt (bodyOf Try.prog 57) 2).1::.inLoop (loopAt (bodyOf Try.prog 57) 2).1::(loopAt (bodyOf Try.prog 57) 2).2) (EidxN1_s2 v0 v7 v8) =
  cond (decide (v8<v7)) (.need ((0:Int)≤v8∧v8<(↑(List.length v0):Int)) (.need (True) (cond (neg (List.getD v0 (Int.toNat v8) (0:Int))) (.ret ((v8,()))) (.need (inK IntKind.i64 (v8+(1:Int))) (.cut (loopAt (bodyOf Try.prog 57) 2).1 (loopAt (bodyOf Try.prog 57) 2).2 (St.mk [(0,AV.val (Ty.slc false (Ty.int IntKind.i64)) v0),(1,AV.clo 53 AV.nil),(7,AV.val (Ty.int IntKind.i64) v7),(8,AV.val (Ty.int IntKind.i64) (v8+(1:Int)))] [])))))) (.ret (((-1:Int),()))):=by kernel_rfl
theorem cidxN1_valid:cidxN1.Valid Try.prog 57:=by
  refine Ctr.valid_of EidxN1_ok rfl rfl Try.func57 (c:=bodyOf Try.prog 57) rfl rfl FidxN1_ok rfl ?_
  rintro ⟨(l:List (Int)),⟨⟩,⟨⟩⟩ - ⟨⟨hl,-⟩,-⟩
  have hl:l.length≤9223372036854775807:=hl
  refine exec_sound (n:=1000) EidxN1_ok FidxN1_ok ?_
  refine holds_of_eq (EidxN1_t l ) ?_
  refine Reach.loopI EidxN1_ok FidxN1_ok (fun i:Nat=>EidxN1_s2 l  (l.length:Int) (i:Int)) (fun i=>i≤l.length∧idxOf (neg) l=idxGo (neg) (l.drop i) i)
    (fun i=>l.length - i) 1000 (fun _=>⟨uniq_of rfl,uniq_of rfl⟩) ?_ 0 ⟨by omega,rfl⟩
  rintro i ⟨k1,k2⟩ - ih
  refine holds_of_eq (EidxN1_l2 ..) ?_
  simp only [holds_cond,Tree.holds,true_and,true_implies,decide_eq_true_eq,decide_eq_false_iff_not,Bool.not_eq_true',Bool.not_eq_false',Int.toNat_natCast,inK_i64,List.length_set,List.length_cons,List.length_nil]
  refine ⟨fun h=>?_,fun h=>?_⟩
  · rw [drop_getD (show i<l.length by omega) 0,idxGo] at k2
    refine ⟨by omega,fun _=>⟨fun c=>?_,fun c=>⟨by omega,fun _=>ih (i+1) ⟨by omega,?_⟩ (by omega)⟩⟩⟩
    · show (((i:Int),()):Int×Unit)=(idxOf (neg) l,())
      rw [k2,if_pos (show (neg) (l.getD i 0)=true from c)]
    · rw [k2,if_neg (show ¬ (neg) (l.getD i 0)=true from fun h9=>Bool.noConfusion (Eq.trans (Eq.symm h9) c))]
  · rw [List.drop_eq_nil_of_le (by omega)] at k2
    show (((-1:Int),()):Int×Unit)=(idxOf (neg) l,())
    rw [k2]; rfl
def ccontN1:Ctr:={ ps:=[.v (.slc false I64),.clo 53 []],rs:=[.bool],pre:=fun x=>True,fn:=fun x=>(List.any (α:=Int) x.1 (neg),()),out:=fun _=>() }
noncomputable def EcontN1:Env:={ P:=Try.prog,tt:=tt,ctr:=[(57,cidxN1)],res:=[Go.ResultVar.tmp 4],rs:=[Ty.bool],ps:=[PK.v (Ty.slc false (Ty.int IntKind.i64)),PK.clo 53 []],cuts:=[],nt:=9 }
theorem EcontN1_ok:EnvOk EcontN1:=envOk tt_ok ⟨cidxN1_valid,trivial⟩
theorem FcontN1_ok:FnOk EcontN1 Try.f44:=⟨rfl,rfl⟩
theorem EcontN1_t (x0:List Int):exec EcontN1 1000 [.code (bodyOf Try.prog 44)] (initSt ccontN1.ps ((x0,(),()))) =
  .need (True) (.ret ((decide ((0:Int)≤idxOf neg x0),()))):=by kernel_rfl
theorem ccontN1_valid:ccontN1.Valid Try.prog 44:=by
  refine Ctr.valid_of EcontN1_ok rfl rfl Try.func44 (c:=bodyOf Try.prog 44) rfl rfl FcontN1_ok rfl ?_
  rintro ⟨(l:List (Int)),⟨⟩,⟨⟩⟩ - -
  refine exec_sound (n:=1000) EcontN1_ok FcontN1_ok ?_
  refine holds_of_eq (EcontN1_t l ) ?_
  refine ⟨trivial,fun _=>?_⟩
  show ((decide (0≤idxOf (neg) l),()):Bool×Unit)=(l.any (neg),())
  rw [idx_any]
def cidxN2:Ctr:={ ps:=[.v (.slc false I64),.clo 50 []],rs:=[I64],pre:=fun x=>True,fn:=fun x=>(idxOf (neg) x.1,()),out:=fun _=>() }
noncomputable def EidxN2:Env:={ P:=Try.prog,tt:=tt,ctr:=[(50,cnegC)],res:=[Go.ResultVar.tmp 4],rs:=[Ty.int IntKind.i64],ps:=[PK.v (Ty.slc false (Ty.int IntKind.i64)),PK.clo 50 []],cuts:=[(2,[(0,none),(1,none),(7,none),(8,none)])],nt:=19 }
theorem EidxN2_ok:EnvOk EidxN2:=envOk tt_ok ⟨cnegC_valid,trivial⟩
theorem FidxN2_ok:FnOk EidxN2 Try.f57:=⟨rfl,rfl⟩
theorem EidxN2_t (x0:List Int):exec EidxN2 1000 [.code (bodyOf Try.prog 57)] (initSt cidxN2.ps ((x0,(),()))) =
  .cut (loopAt (bodyOf Try.prog 57) 2).1 (loopAt (bodyOf Try.prog 57) 2).2 (St.mk [(0,AV.val (Ty.slc false (Ty.int IntKind.i64)) x0),(1,AV.clo 50 AV.nil),(7,AV.val (Ty.int IntKind.i64) (↑(List.length x0):Int)),(8,AV.val (Ty.int IntKind.i64) (0:Int))] []):=by kernel_rfl
def EidxN2_s2 (v0:List Int) (v7:Int) (v8:Int):St:=St.mk [(0,AV.val (Ty.slc false (Ty.int IntKind.i64)) v0),(1,AV.clo 50 AV.nil),(7,AV.val (Ty.int IntKind.i64) v7),(8,AV.val (Ty.int IntKind.i64) v8)] []
theorem EidxN2_l2 (v0:List Int) (v7:Int) (v8:Int):exec EidxN2 1000 (.code (loopAt (bodyOf Try.prog 57) 2).1::.inLoop (loopAt (bodyOf Try.prog 57) 2).1::(loopAt (bodyOf Try.prog 57) 2).2) (EidxN2_s2 v0 v7 v8) =
  cond (decide (v8<v7)) (.need ((0:Int)≤v8∧v8<(↑(List.length v0):Int)) (.need (True) (cond (neg (List.getD v0 (Int.toNat v8) (0:Int))) (.ret ((v8,()))) (.need (inK IntKind.i64 (v8+(1:Int))) (.cut (loopAt (bodyOf Try.prog 57) 2).1 (loopAt (bodyOf Try.prog 57) 2).2 (St.mk [(0,AV.val (Ty.slc false (Ty.int IntKind.i64)) v0),(1,AV.clo 50 AV.nil),(7,AV.val (Ty.int IntKind.i64) v7),(8,AV.val (Ty.int IntKind.i64) (v8+(1:Int)))] [])))))) (.ret (((-1:Int),()))):=by kernel_rfl
theorem cidxN2_valid:cidxN2.Valid Try.prog 57:=by
  refine Ctr.valid_of EidxN2_ok rfl rfl Try.func57 (c:=bodyOf Try.prog 57) rfl rfl FidxN2_ok rfl ?_
  rintro ⟨(l:List (Int)),⟨⟩,⟨⟩⟩ - ⟨⟨hl,-⟩,-⟩
  have hl:l.length≤9223372036854775807:=hl
  refine exec_sound (n:=1000) EidxN2_ok FidxN2_ok ?_
  refine holds_of_eq (EidxN2_t l ) ?_
  refine Reach.loopI EidxN2_ok FidxN2_ok (fun i:Nat=>EidxN2_s2 l  (l.length:Int) (i:Int)) (fun i=>i≤l.length∧idxOf (neg) l=idxGo (neg) (l.drop i) i)
    (fun i=>l.length - i) 1000 (fun _=>⟨uniq_of rfl,uniq_of rfl⟩) ?_ 0 ⟨by omega,rfl⟩
  rintro i ⟨k1,k2⟩ - ih
  refine holds_of_eq (EidxN2_l2 ..) ?_
  simp only [holds_cond,Tree.holds,true_and,true_implies,decide_eq_true_eq,decide_eq_false_iff_not,Bool.not_eq_true',Bool.not_eq_false',Int.toNat_natCast,inK_i64,List.length_set,List.length_cons,List.length_nil]
  refine ⟨fun h=>?_,fun h=>?_⟩
  · rw [drop_getD (show i<l.length by omega) 0,idxGo] at k2
    refine ⟨by omega,fun _=>⟨fun c=>?_,fun c=>⟨by omega,fun _=>ih (i+1) ⟨by omega,?_⟩ (by omega)⟩⟩⟩
    · show (((i:Int),()):Int×Unit)=(idxOf (neg) l,())
      rw [k2,if_pos (show (neg) (l.getD i 0)=true from c)]
    · rw [k2,if_neg (show ¬ (neg) (l.getD i 0)=true from fun h9=>Bool.noConfusion (Eq.trans (Eq.symm h9) c))]
  · rw [List.drop_eq_nil_of_le (by omega)] at k2
    show (((-1:Int),()):Int×Unit)=(idxOf (neg) l,())
    rw [k2]; rfl
def ccontN2:Ctr:={ ps:=[.v (.slc false I64),.clo 50 []],rs:=[.bool],pre:=fun x=>True,fn:=fun x=>(List.any (α:=Int) x.1 (neg),()),out:=fun _=>() }
noncomputable def EcontN2:Env:={ P:=Try.prog,tt:=tt,ctr:=[(57,cidxN2)],res:=[Go.ResultVar.tmp 4],rs:=[Ty.bool],ps:=[PK.v (Ty.slc false (Ty.int IntKind.i64)),PK.clo 50 []],cuts:=[],nt:=9 }
theorem EcontN2_ok:EnvOk EcontN2:=envOk tt_ok ⟨cidxN2_valid,trivial⟩
theorem FcontN2_ok:FnOk EcontN2 Try.f44:=⟨rfl,rfl⟩
theorem EcontN2_t (x0:List Int):exec EcontN2 1000 [.code (bodyOf Try.prog 44)] (initSt ccontN2.ps ((x0,(),()))) =
  .need (True) (.ret ((decide ((0:Int)≤idxOf neg x0),()))):=by kernel_rfl
theorem ccontN2_valid:ccontN2.Valid Try.prog 44:=by
  refine Ctr.valid_of EcontN2_ok rfl rfl Try.func44 (c:=bodyOf Try.prog 44) rfl rfl FcontN2_ok rfl ?_
  rintro ⟨(l:List (Int)),⟨⟩,⟨⟩⟩ - -
  refine exec_sound (n:=1000) EcontN2_ok FcontN2_ok ?_
  refine holds_of_eq (EcontN2_t l ) ?_
  refine ⟨trivial,fun _=>?_⟩
  show ((decide (0≤idxOf (neg) l),()):Bool×Unit)=(l.any (neg),())
  rw [idx_any]
def formed (m:MailD):Bool:=inF m.1 0 5 && !(m.2.1.any neg) && decide (0<m.2.1.getD m.1.toNat 0)
def cformed:Ctr:={ ps:=[.v Mail],rs:=[.bool],pre:=fun _=>True,fn:=fun x=>(formed x.1,()),out:=fun _=>() }
noncomputable def Eformed:Env:={ P:=Try.prog,tt:=tt,ctr:=[(49,ccin),(44,ccontN1)],res:=[Go.ResultVar.tmp 2],rs:=[Ty.bool],ps:=[PK.v (Ty.pair (Ty.int IntKind.i64) (Ty.pair Vec (Ty.pair Ty.str Ty.unit)))],cuts:=[],nt:=20 }
theorem Eformed_ok:EnvOk Eformed:=envOk tt_ok ⟨ccin_valid,ccontN1_valid,trivial⟩
theorem Fformed_ok:FnOk Eformed Try.f24:=⟨rfl,rfl⟩
theorem Eformed_t (x0_1:Int) (x0_2_1:List Int) (x0_2_2_1:List UInt8):exec Eformed 1000 [.code (bodyOf Try.prog 24)] (initSt cformed.ps (((x0_1,x0_2_1,x0_2_2_1,()),()))) =
  .need (True) (cond (inF x0_1 (0:Int) (5:Int)) (.need ((0:Int)≤(0:Int)∧(0:Int)≤(↑6:Int)∧(↑6:Int)≤(↑6:Int)) (.need (True) (cond (!List.any (cut2 (0:Int) (↑6:Int) x0_2_1) neg) (.need ((0:Int)≤x0_1∧x0_1<(↑6:Int)) (.ret ((decide ((0:Int)<List.getD x0_2_1 (Int.toNat x0_1) (0:Int)),())))) (.ret ((false,())))))) (.ret ((false,())))):=by kernel_rfl
theorem cformed_valid:cformed.Valid Try.prog 24:=by
  refine Ctr.valid_of Eformed_ok rfl rfl Try.func24 (c:=bodyOf Try.prog 24) rfl rfl Fformed_ok rfl ?_
  rintro ⟨⟨(f:Int),(a:List Int),(t:List UInt8),⟨⟩⟩,⟨⟩⟩ - ⟨⟨-,⟨hl,-⟩,-⟩,-⟩
  have hl:a.length=6:=hl
  refine exec_sound (n:=1000) Eformed_ok Fformed_ok ?_
  refine holds_of_eq (Eformed_t f a t) ?_
  have hc:cut2 0 6 a=a:=by rw [cut2,Int.toNat_zero,List.drop_zero]; exact List.take_of_length_le (by rw [hl]; decide)
  have hd:formed (f,a,t,())=(inF f 0 5 && !(a.any neg) && decide (0<a.getD f.toNat 0)):=rfl
  simp only [holds_cond,Tree.holds,true_and,true_implies,decide_eq_true_eq,decide_eq_false_iff_not,Bool.not_eq_true',Bool.not_eq_false',Int.toNat_natCast,inK_i64,List.length_set,List.length_cons,List.length_nil,hc]
  refine ⟨fun e=>⟨by omega,fun _=>⟨fun g=>?_,fun g=>?_⟩⟩,fun e=>?_⟩
  · have:=inF_iff.1 e
    refine ⟨by omega,fun _=>?_⟩
    show ((_,()):Bool×Unit)=(formed (f,a,t,()),())
    rw [hd,e,g]; rfl
  · show ((_,()):Bool×Unit)=(formed (f,a,t,()),())
    rw [hd,e,g]; rfl
  · show ((_,()):Bool×Unit)=(formed (f,a,t,()),())
    rw [hd,e]; rfl
def sameM (a b:MailD):Bool:=decide (a.1=b.1) && decide (a.2.1.getD a.1.toNat 0=b.2.1.getD b.1.toNat 0)
def csameM:Ctr:={ ps:=[.v Mail,.v Mail],rs:=[.bool],pre:=fun x=>(LE.le (α:=Int) 0 x.1.1∧LE.le (α:=Int) x.1.1 5)∧(LE.le (α:=Int) 0 x.2.1.1∧LE.le (α:=Int) x.2.1.1 5),fn:=fun x=>(sameM x.1 x.2.1,()),out:=fun _=>() }
noncomputable def EsameM:Env:={ P:=Try.prog,tt:=tt,ctr:=[],res:=[Go.ResultVar.tmp 4],rs:=[Ty.bool],ps:=[PK.v (Ty.pair (Ty.int IntKind.i64) (Ty.pair Vec (Ty.pair Ty.str Ty.unit))),PK.v (Ty.pair (Ty.int IntKind.i64) (Ty.pair Vec (Ty.pair Ty.str Ty.unit)))],cuts:=[],nt:=23 }
theorem EsameM_ok:EnvOk EsameM:=envOk tt_ok trivial
theorem FsameM_ok:FnOk EsameM Try.f27:=⟨rfl,rfl⟩
theorem EsameM_t (x0_1:Int) (x0_2_1:List Int) (x0_2_2_1:List UInt8) (x1_1:Int) (x1_2_1:List Int) (x1_2_2_1:List UInt8):exec EsameM 1000 [.code (bodyOf Try.prog 27)] (initSt csameM.ps (((x0_1,x0_2_1,x0_2_2_1,()),(x1_1,x1_2_1,x1_2_2_1,()),()))) =
  cond (decide (x0_1=x1_1)) (.need ((0:Int)≤x0_1∧x0_1<(↑6:Int)) (.need ((0:Int)≤x1_1∧x1_1<(↑6:Int)) (.ret ((decide (List.getD x0_2_1 (Int.toNat x0_1) (0:Int)=List.getD x1_2_1 (Int.toNat x1_1) (0:Int)),()))))) (.ret ((false,()))):=by kernel_rfl
theorem csameM_valid:csameM.Valid Try.prog 27:=by
  refine Ctr.valid_of EsameM_ok rfl rfl Try.func27 (c:=bodyOf Try.prog 27) rfl rfl FsameM_ok rfl ?_
  rintro ⟨⟨(f:Int),(a:List Int),(t:List UInt8),⟨⟩⟩,⟨(g:Int),(b:List Int),(u:List UInt8),⟨⟩⟩,⟨⟩⟩ ⟨⟨h1,h2⟩,h3,h4⟩ -
  refine exec_sound (n:=1000) EsameM_ok FsameM_ok ?_
  refine holds_of_eq (EsameM_t f a t g b u) ?_
  have hd:sameM (f,a,t,()) (g,b,u,())=(decide (f=g) && decide (a.getD f.toNat 0=b.getD g.toNat 0)):=rfl
  have h1:0≤f:=h1
  have h2:f≤5:=h2
  have h3:0≤g:=h3
  have h4:g≤5:=h4
  simp only [holds_cond,Tree.holds,true_and,true_implies,decide_eq_true_eq,decide_eq_false_iff_not,Bool.not_eq_true',Bool.not_eq_false',Int.toNat_natCast,inK_i64,List.length_set,List.length_cons,List.length_nil]
  refine ⟨fun e=>⟨by omega,fun _=>⟨by omega,fun _=>?_⟩⟩,fun e=>?_⟩
  · show ((_,()):Bool×Unit)=(sameM (f,a,t,()) (g,b,u,()),())
    rw [hd,decide_eq_true e]; rfl
  · show ((_,()):Bool×Unit)=(sameM (f,a,t,()) (g,b,u,()),())
    rw [hd,decide_eq_false e]; rfl
def dbad (seen:List Int) (m:MailD) (p:Nat):Bool:=if (p:Int)=m.1 then decide (m.2.1.getD p 0≠seen.getD p 0+1) else decide (seen.getD p 0<m.2.1.getD p 0)
def delv (seen:List Int) (m:MailD):Bool:=!anyN (dbad seen m) 6
def cdelv:Ctr:={ ps:=[.v Vec,.v Mail],rs:=[.bool],pre:=fun x=>LE.le (α:=Int) 0 (List.getD (α:=Int) x.1 (Int.toNat x.2.1.1) 0)∧LE.le (α:=Int) (List.getD (α:=Int) x.1 (Int.toNat x.2.1.1) 0) 9223372036854775806,fn:=fun x=>(delv x.1 x.2.1,()),out:=fun _=>() }
noncomputable def Edelv:Env:={ P:=Try.prog,tt:=tt,ctr:=[],res:=[Go.ResultVar.tmp 4],rs:=[Ty.bool],ps:=[PK.v Vec,PK.v (Ty.pair (Ty.int IntKind.i64) (Ty.pair Vec (Ty.pair Ty.str Ty.unit)))],cuts:=[(2,[(2,none),(3,none),(8,none),(9,none)])],nt:=39 }
theorem Edelv_ok:EnvOk Edelv:=envOk tt_ok trivial
theorem Fdelv_ok:FnOk Edelv Try.f28:=⟨rfl,rfl⟩
theorem Edelv_t (x0:List Int) (x1_1:Int) (x1_2_1:List Int) (x1_2_2_1:List UInt8):exec Edelv 1000 [.code (bodyOf Try.prog 28)] (initSt cdelv.ps ((x0,(x1_1,x1_2_1,x1_2_2_1,()),()))) =
  .cut (loopAt (bodyOf Try.prog 28) 2).1 (loopAt (bodyOf Try.prog 28) 2).2 (St.mk [(2,AV.ptr 2 []),(3,AV.ptr 3 []),(8,AV.val Vec x1_2_1),(9,AV.val (Ty.int IntKind.i64) (0:Int))] [(2,Ent.var Vec x0),(3,Ent.var (Ty.pair (Ty.int IntKind.i64) (Ty.pair Vec (Ty.pair Ty.str Ty.unit))) (x1_1,x1_2_1,x1_2_2_1,()))]):=by kernel_rfl
def Edelv_s2 (v8:List Int) (v9:Int) (o2:List Int) (o3_1:Int) (o3_2_1:List Int) (o3_2_2_1:List UInt8):St:=St.mk [(2,AV.ptr 2 []),(3,AV.ptr 3 []),(8,AV.val Vec v8),(9,AV.val (Ty.int IntKind.i64) v9)] [(2,Ent.var Vec o2),(3,Ent.var (Ty.pair (Ty.int IntKind.i64) (Ty.pair Vec (Ty.pair Ty.str Ty.unit))) (o3_1,o3_2_1,o3_2_2_1,()))]
theorem Edelv_l2 (v8:List Int) (v9:Int) (o2:List Int) (o3_1:Int) (o3_2_1:List Int) (o3_2_2_1:List UInt8):exec Edelv 1000 (.code (loopAt (bodyOf Try.prog 28) 2).1::.inLoop (loopAt (bodyOf Try.prog 28) 2).1::(loopAt (bodyOf Try.prog 28) 2).2) (Edelv_s2 v8 v9 o2 o3_1 o3_2_1 o3_2_2_1) =
  cond (decide (v9<(6:Int))) (.need ((0:Int)≤v9∧v9<(↑6:Int)) (cond (decide (v9=o3_1)) (.need ((0:Int)≤v9∧v9<(↑6:Int)) (.need (inK IntKind.i64 (List.getD o2 (Int.toNat v9) (0:Int)+(1:Int))) (cond (decide (List.getD v8 (Int.toNat v9) (0:Int)≠List.getD o2 (Int.toNat v9) (0:Int)+(1:Int))) (.ret ((false,()))) (cond (decide (v9≠o3_1)) (.need ((0:Int)≤v9∧v9<(↑6:Int)) (cond (decide (List.getD o2 (Int.toNat v9) (0:Int)<List.getD v8 (Int.toNat v9) (0:Int))) (.ret ((false,()))) (.need (inK IntKind.i64 (v9+(1:Int))) (.cut (loopAt (bodyOf Try.prog 28) 2).1 (loopAt (bodyOf Try.prog 28) 2).2 (St.mk [(2,AV.ptr 2 []),(3,AV.ptr 3 []),(8,AV.val Vec v8),(9,AV.val (Ty.int IntKind.i64) (v9+(1:Int)))] [(2,Ent.var Vec o2),(3,Ent.var (Ty.pair (Ty.int IntKind.i64) (Ty.pair Vec (Ty.pair Ty.str Ty.unit))) (o3_1,o3_2_1,o3_2_2_1,()))]))))) (.need (inK IntKind.i64 (v9+(1:Int))) (.cut (loopAt (bodyOf Try.prog 28) 2).1 (loopAt (bodyOf Try.prog 28) 2).2 (St.mk [(2,AV.ptr 2 []),(3,AV.ptr 3 []),(8,AV.val Vec v8),(9,AV.val (Ty.int IntKind.i64) (v9+(1:Int)))] [(2,Ent.var Vec o2),(3,Ent.var (Ty.pair (Ty.int IntKind.i64) (Ty.pair Vec (Ty.pair Ty.str Ty.unit))) (o3_1,o3_2_1,o3_2_2_1,()))]))))))) (cond (decide (v9≠o3_1)) (.need ((0:Int)≤v9∧v9<(↑6:Int)) (cond (decide (List.getD o2 (Int.toNat v9) (0:Int)<List.getD v8 (Int.toNat v9) (0:Int))) (.ret ((false,()))) (.need (inK IntKind.i64 (v9+(1:Int))) (.cut (loopAt (bodyOf Try.prog 28) 2).1 (loopAt (bodyOf Try.prog 28) 2).2 (St.mk [(2,AV.ptr 2 []),(3,AV.ptr 3 []),(8,AV.val Vec v8),(9,AV.val (Ty.int IntKind.i64) (v9+(1:Int)))] [(2,Ent.var Vec o2),(3,Ent.var (Ty.pair (Ty.int IntKind.i64) (Ty.pair Vec (Ty.pair Ty.str Ty.unit))) (o3_1,o3_2_1,o3_2_2_1,()))]))))) (.need (inK IntKind.i64 (v9+(1:Int))) (.cut (loopAt (bodyOf Try.prog 28) 2).1 (loopAt (bodyOf Try.prog 28) 2).2 (St.mk [(2,AV.ptr 2 []),(3,AV.ptr 3 []),(8,AV.val Vec v8),(9,AV.val (Ty.int IntKind.i64) (v9+(1:Int)))] [(2,Ent.var Vec o2),(3,Ent.var (Ty.pair (Ty.int IntKind.i64) (Ty.pair Vec (Ty.pair Ty.str Ty.unit))) (o3_1,o3_2_1,o3_2_2_1,()))])))))) (.ret ((true,()))):=by kernel_rfl
theorem cdelv_valid:cdelv.Valid Try.prog 28:=by
  refine Ctr.valid_of Edelv_ok rfl rfl Try.func28 (c:=bodyOf Try.prog 28) rfl rfl Fdelv_ok rfl ?_
  rintro ⟨(s:List Int),⟨(f:Int),(a:List Int),(t:List UInt8),⟨⟩⟩,⟨⟩⟩ ⟨(h0:0≤s.getD f.toNat 0),(h1:s.getD f.toNat 0≤9223372036854775806)⟩ -
  refine exec_sound (n:=1000) Edelv_ok Fdelv_ok ?_
  refine holds_of_eq (Edelv_t s f a t) ?_
  refine Reach.loopI Edelv_ok Fdelv_ok (fun p:Nat=>Edelv_s2 a (p:Int) s f a t) (fun p=>p≤6∧anyN (dbad s (f,a,t,())) p=false) (fun p=>6 - p) 1000 (fun _=>⟨uniq_of rfl,uniq_of rfl⟩) ?_ 0 ⟨by omega,rfl⟩
  rintro p ⟨k1,k2⟩ - ih
  have k1:p≤6:=k1
  refine holds_of_eq (Edelv_l2 ..) ?_
  have hb:dbad s (f,a,t,()) p=if (p:Int)=f then decide (a.getD p 0≠s.getD p 0+1) else decide (s.getD p 0<a.getD p 0):=rfl
  have bad:dbad s (f,a,t,()) p=true→p<6→((false,()):Bool×Unit)=(delv s (f,a,t,()),()):=fun h h2=>by rw [delv,anyN_yes h h2]; rfl
  have next:dbad s (f,a,t,()) p=false→p<6→_:=fun h h2=>ih (p+1) ⟨by omega,by rw [anyN,k2,h]; rfl⟩ (by omega)
  simp only [holds_cond,Tree.holds,true_and,true_implies,decide_eq_true_eq,decide_eq_false_iff_not,Bool.not_eq_true',Bool.not_eq_false',Int.toNat_natCast,inK_i64,List.length_set,List.length_cons,List.length_nil]
  refine ⟨fun c=>⟨by omega,fun _=>⟨fun e=>⟨by omega,fun _=>⟨?_,fun _=>⟨fun g=>bad (by rw [hb,if_pos e,decide_eq_true g]) (by omega),fun g=>⟨fun e2=>absurd e e2,fun _=>⟨by omega,fun _=>next (by rw [hb,if_pos e,decide_eq_false g]) (by omega)⟩⟩⟩⟩⟩,fun e=>⟨fun e2=>⟨by omega,fun _=>⟨fun g=>bad (by rw [hb,if_neg e,decide_eq_true g]) (by omega),fun g=>⟨by omega,fun _=>next (by rw [hb,if_neg e,decide_eq_false g]) (by omega)⟩⟩⟩,fun e2=>absurd e e2⟩⟩⟩,fun c=>?_⟩
  · rw [show p=f.toNat by omega]; omega
  · have:p=6:=by omega
    show ((true,()):Bool×Unit)=(delv s (f,a,t,()),())
    rw [delv,← this,k2]; rfl
def cC2:Ctr:={ ps:=[.v Mail,.rd Mail],rs:=[.bool],pre:=fun x=>(LE.le (α:=Int) 0 x.1.1∧LE.le (α:=Int) x.1.1 5)∧(LE.le (α:=Int) 0 x.2.1.1∧LE.le (α:=Int) x.2.1.1 5),fn:=fun x=>(sameM x.1 x.2.1,()),out:=fun _=>() }
noncomputable def EC2:Env:={ P:=Try.prog,tt:=tt,ctr:=[(27,csameM)],res:=[Go.ResultVar.tmp 3],rs:=[Ty.bool],ps:=[PK.v (Ty.pair (Ty.int IntKind.i64) (Ty.pair Vec (Ty.pair Ty.str Ty.unit))),PK.rd (Ty.pair (Ty.int IntKind.i64) (Ty.pair Vec (Ty.pair Ty.str Ty.unit)))],cuts:=[],nt:=7 }
theorem EC2_ok:EnvOk EC2:=envOk tt_ok ⟨csameM_valid,trivial⟩
theorem FC2_ok:FnOk EC2 Try.f51:=⟨rfl,rfl⟩
theorem EC2_t (x0_1:Int) (x0_2_1:List Int) (x0_2_2_1:List UInt8) (x1_1:Int) (x1_2_1:List Int) (x1_2_2_1:List UInt8):exec EC2 1000 [.code (bodyOf Try.prog 51)] (initSt cC2.ps (((x0_1,x0_2_1,x0_2_2_1,()),(x1_1,x1_2_1,x1_2_2_1,()),()))) =
  .need (((0:Int)≤x0_1∧x0_1≤(5:Int))∧(0:Int)≤x1_1∧x1_1≤(5:Int)) (.ret ((sameM (x0_1,x0_2_1,x0_2_2_1,()) (x1_1,x1_2_1,x1_2_2_1,()),()))):=by kernel_rfl
theorem cC2_valid:cC2.Valid Try.prog 51:=by
  refine Ctr.valid_of EC2_ok rfl rfl Try.func51 (c:=bodyOf Try.prog 51) rfl rfl FC2_ok rfl ?_
  rintro ⟨⟨(f:Int),(a:List Int),(t:List UInt8),⟨⟩⟩,⟨(g:Int),(b:List Int),(u:List UInt8),⟨⟩⟩,⟨⟩⟩ ⟨⟨h1,h2⟩,h3,h4⟩ -
  refine exec_sound (n:=1000) EC2_ok FC2_ok ?_
  refine holds_of_eq (EC2_t f a t g b u) ?_
  exact ⟨⟨⟨h1,h2⟩,h3,h4⟩,fun _=>rfl⟩
end Go.Proofs.Ytgmbfnlhmnpciaa
