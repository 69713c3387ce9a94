/- Small contracts: Rest; search; what deleting leaves. No condition but those named. -/
import Derived.Test.YtgmbfnlhmnpciaaDoorUtil
namespace Go.Proofs.YtgmbfnlhmnpciaaDoor
open Go.Ex
set_option maxRecDepth 100000
def inF (n a b:Int):Bool:=decide (a≤n) && decide (n≤b)
theorem inF_iff {n a b:Int}:inF n a b=true↔a≤n∧n≤b:=by simp [inF]
def rest (a n:Int):Int:=if n≤0 then 0 else Int.tmod (Int.tmod a n+n) n
def crest:Ctr:={ ps:=[.v I64,.v I64],rs:=[I64],pre:=fun x=>LE.le (α:=Int) x.2.1 1000000000,fn:=fun x=>(rest x.1 x.2.1,()),out:=fun _=>() }
noncomputable def Erest:Env:={ P:=Tryd.prog,tt:=tt,ctr:=[],res:=[Go.ResultVar.tmp 4],rs:=[Ty.int IntKind.i64],ps:=[PK.v (Ty.int IntKind.i64),PK.v (Ty.int IntKind.i64)],cuts:=[],nt:=14 }
def anyN (f:Nat→Bool):Nat→Bool
  | 0=>false
  | k+1=>anyN f k || f k
end Go.Proofs.YtgmbfnlhmnpciaaDoor
