/- Two receivers that are the same. -/
import Derived.Test.YtegigiecamjobaaLaneB
namespace Go.Proofs.Ytegigiecamjobaa
open Go.Ex
set_option maxRecDepth 100000
def ceqP:Ctr:={ ps:=[.v (.slc false Parcel),.v (.slc false Parcel)],rs:=[.bool],pre:=fun _=>True,fn:=fun x=>(decide ((show List (ParcelD) from x.1)=(show List (ParcelD) from x.2.1)),()),out:=fun _=>() }
noncomputable def EeqP:Env:={ P:=Try.prog,tt:=tt,ctr:=[],res:=[Go.ResultVar.tmp 4],rs:=[Ty.bool],ps:=[PK.v (Ty.slc false (Ty.pair (Ty.int IntKind.i64) (Ty.pair Ty.str Ty.unit))),PK.v (Ty.slc false (Ty.pair (Ty.int IntKind.i64) (Ty.pair Ty.str Ty.unit)))],cuts:=[(4,[(0,none),(1,none),(12,none),(13,none)])],nt:=26 }
def EeqP_s4 (v0:List (Int×List UInt8×Unit)) (v1:List (Int×List UInt8×Unit)) (v12:Int) (v13:Int):St:=St.mk [(0,AV.val (Ty.slc false (Ty.pair (Ty.int IntKind.i64) (Ty.pair Ty.str Ty.unit))) v0),(1,AV.val (Ty.slc false (Ty.pair (Ty.int IntKind.i64) (Ty.pair Ty.str Ty.unit))) v1),(12,AV.val (Ty.int IntKind.i64) v12),(13,AV.val (Ty.int IntKind.i64) v13)] []
def sameTo (a b:ToD):Bool:=decide (a.1=b.1) && decide (a.2.1=b.2.1)
def csameTo:Ctr:={ ps:=[.v ToT,.v ToT],rs:=[.bool],pre:=fun _=>True,fn:=fun x=>(sameTo x.1 x.2.1,()),out:=fun _=>() }
noncomputable def EsameTo:Env:={ P:=Try.prog,tt:=tt,ctr:=[(87,ceqP)],res:=[Go.ResultVar.tmp 4],rs:=[Ty.bool],ps:=[PK.v (Ty.pair (Ty.int IntKind.i64) (Ty.pair (Ty.slc false (Ty.pair (Ty.int IntKind.i64) (Ty.pair Ty.str Ty.unit))) Ty.unit)),PK.v (Ty.pair (Ty.int IntKind.i64) (Ty.pair (Ty.slc false (Ty.pair (Ty.int IntKind.i64) (Ty.pair Ty.str Ty.unit))) Ty.unit))],cuts:=[],nt:=17 }
end Go.Proofs.Ytegigiecamjobaa
