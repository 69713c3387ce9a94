/- cmp.Compare and cmp.Or at int. No condition. -/
import Derived.Test.YtegigiecamjobaaBase
namespace Go.Proofs.Ytegigiecamjobaa
open Go.Ex
set_option maxRecDepth 100000
def cmpI (x y:Int):Int:=if x<y then -1 else if y<x then 1 else 0
def cnanI:Ctr:={ ps:=[.v I64],rs:=[.bool],pre:=fun _=>True,fn:=fun _=>(false,()),out:=fun _=>() }
noncomputable def EnanI:Env:={ P:=Try.prog,tt:=tt,ctr:=[],res:=[Go.ResultVar.tmp 2],rs:=[Ty.bool],ps:=[PK.v (Ty.int IntKind.i64)],cuts:=[],nt:=6 }
theorem EnanI_ok:EnvOk EnanI:=envOk tt_ok trivial
theorem FnanI_ok:FnOk EnanI Try.f149:=⟨rfl,rfl⟩
theorem EnanI_t (x0:Int):exec EnanI 1000 [.code (bodyOf Try.prog 149)] (initSt cnanI.ps ((x0,()))) =
  .ret ((decide (x0≠x0),())):=by kernel_rfl
theorem cnanI_valid:cnanI.Valid Try.prog 149:=by
  refine Ctr.valid_of EnanI_ok rfl rfl Try.func149 (c:=bodyOf Try.prog 149) rfl rfl FnanI_ok rfl ?_
  rintro ⟨(x:Int),⟨⟩⟩ - -
  refine exec_sound (n:=1000) EnanI_ok FnanI_ok ?_
  refine holds_of_eq (EnanI_t x) ?_
  show ((decide (x≠x),()):Bool×Unit)=(false,())
  simp
def ccmpI:Ctr:={ ps:=[.v I64,.v I64],rs:=[I64],pre:=fun _=>True,fn:=fun x=>(cmpI x.1 x.2.1,()),out:=fun _=>() }
noncomputable def EcmpI:Env:={ P:=Try.prog,tt:=tt,ctr:=[(149,cnanI)],res:=[Go.ResultVar.tmp 4],rs:=[Ty.int IntKind.i64],ps:=[PK.v (Ty.int IntKind.i64),PK.v (Ty.int IntKind.i64)],cuts:=[],nt:=20 }
theorem EcmpI_ok:EnvOk EcmpI:=envOk tt_ok ⟨cnanI_valid,trivial⟩
theorem FcmpI_ok:FnOk EcmpI Try.f108:=⟨rfl,rfl⟩
theorem EcmpI_t (x0:Int) (x1:Int):exec EcmpI 1000 [.code (bodyOf Try.prog 108)] (initSt ccmpI.ps ((x0,x1,()))) =
  .need (True) (.need (True) (cond (decide (x0<x1)) (.ret (((-1:Int),()))) (cond (decide (x1<x0)) (.ret (((1:Int),()))) (.ret (((0:Int),())))))):=by kernel_rfl
theorem ccmpI_valid:ccmpI.Valid Try.prog 108:=by
  refine Ctr.valid_of EcmpI_ok rfl rfl Try.func108 (c:=bodyOf Try.prog 108) rfl rfl FcmpI_ok rfl ?_
  rintro ⟨(x:Int),(y:Int),⟨⟩⟩ - -
  refine exec_sound (n:=1000) EcmpI_ok FcmpI_ok ?_
  refine holds_of_eq (EcmpI_t x y) ?_
  simp only [holds_cond,Tree.holds,true_and,true_implies,decide_eq_true_eq,decide_eq_false_iff_not,Bool.not_eq_true',Bool.not_eq_false',Int.toNat_natCast,inK_i64,List.length_set,List.length_cons,List.length_nil]
  repeat' first|exact trivial|(refine And.intro ?_ ?_)|(intro _)
  all_goals (show ((_,()):Int×Unit)=(cmpI x y,()); simp [cmpI, *])
def orF:List Int→Int
  | []=>0
  | x::l=>if x≠0 then x else orF l
end Go.Proofs.Ytegigiecamjobaa
