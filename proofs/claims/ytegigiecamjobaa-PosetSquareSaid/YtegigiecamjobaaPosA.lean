/- partkeep.isAhead: a closure as a result. No condition. -/
import Derived.Test.YtegigiecamjobaaMatchL
import Derived.Test.YtegigiecamjobaaPoset
namespace Go.Proofs.Ytegigiecamjobaa
open Go.Ex
set_option maxRecDepth 100000
def memP (q:PairD) (l:List PairD):Bool:=decide (q∈l)
def cahead1:Ctr:={ ps:=[.v I64,.v I64,.rd (.slc false PairT)],rs:=[.bool],pre:=fun _=>True,fn:=fun x=>(memP (x.1,x.2.1,()) x.2.2.1,()),out:=fun _=>() }
noncomputable def Eahead1:Env:={ P:=Try.prog,tt:=tt,ctr:=[(113,ccontPP)],res:=[Go.ResultVar.tmp 5],rs:=[Ty.bool],ps:=[PK.v (Ty.int IntKind.i64),PK.v (Ty.int IntKind.i64),PK.rd (Ty.slc false PairT)],cuts:=[],nt:=11 }
def caheadO:Ctr:={ ps:=[.v Pos],rs:=[.box true (some 112) (.slc true PairT),.bool],pre:=fun _=>True,fn:=fun x=>(some (closeR x.1.1 x.1.2.1).1,decide ((closeR x.1.1 x.1.2.1).2.1=(0:Int)),()),out:=fun _=>() }
noncomputable def EaheadO:Env:={ P:=Try.prog,tt:=tt,ctr:=[(111,ccloseR)],res:=[Go.ResultVar.tmp 2,Go.ResultVar.tmp 3],rs:=[Ty.box true (some 112) (Ty.slc true PairT),Ty.bool],ps:=[PK.v (Ty.pair (Ty.int IntKind.i64) (Ty.pair (Ty.slc false PairT) Ty.unit))],cuts:=[],nt:=14 }
def cahead:Ctr:={ ps:=[.v Pos],rs:=[.box false (some 112) (.slc false PairT),.bool],pre:=fun _=>True,fn:=fun x=>(some (closeR x.1.1 x.1.2.1).1,decide ((closeR x.1.1 x.1.2.1).2.1=(0:Int)),()),out:=fun _=>(),new:=true }
end Go.Proofs.Ytegigiecamjobaa
