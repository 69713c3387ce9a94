/- The laws on the package same: the walks. -/
import Derived.Test.YtgmbfnlhmnpciaaDoorSmP
namespace Go.Proofs.YtgmbfnlhmnpciaaDoor
open Go.Ex
set_option maxRecDepth 100000
def cSameSwaps:Ctr:=smallC [Vals,.str,.str]
noncomputable def ESameSwaps:Env:={ P:=Tryd.prog,tt:=tt,ctr:=[(16,cRun),(17,cSwaps)],res:=[Go.ResultVar.tmp 6],rs:=[Ty.bool],ps:=[PK.v (Ty.arr 10 (Ty.int IntKind.i64)),PK.v Ty.str,PK.v Ty.str],cuts:=[],nt:=50 }
theorem eqDL_iff:∀ {l m:List Int},eqD.eqDL (fun x y:Int=>decide (x=y)) l m=true↔l=m
  | [],[]=>by simp [eqD.eqDL]
  | [],_::_=>by simp [eqD.eqDL]
  | _::_,[]=>by simp [eqD.eqDL]
  | x::l,y::m=>by
    rw [eqD.eqDL,Bool.and_eq_true,decide_eq_true_eq,eqDL_iff,List.cons.injEq]
theorem arr_eq {a b:List Int}:eqD (.arr 10 I64) a b=true↔a=b:=eqDL_iff
end Go.Proofs.YtgmbfnlhmnpciaaDoor
