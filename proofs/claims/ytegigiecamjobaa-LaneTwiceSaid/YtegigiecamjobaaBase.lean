/- Small contracts: equality and search in lists of numbers, Rest. No condition but those named. -/
import Derived.Test.YtegigiecamjobaaUtil
namespace Go.Proofs.Ytegigiecamjobaa
open Go.Ex
set_option maxRecDepth 100000
def inF (n a b:Int):Bool:=decide (a≤n) && decide (n≤b)
theorem inF_iff {n a b:Int}:inF n a b=true↔a≤n∧n≤b:=by simp [inF]
def rest (a n:Int):Int:=if n≤0 then 0 else Int.tmod (Int.tmod a n+n) n
def crest:Ctr:={ ps:=[.v I64,.v I64],rs:=[I64],pre:=fun x=>LE.le (α:=Int) x.2.1 1000000000,fn:=fun x=>(rest x.1 x.2.1,()),out:=fun _=>() }
noncomputable def Erest:Env:={ P:=Try.prog,tt:=tt,ctr:=[],res:=[Go.ResultVar.tmp 4],rs:=[Ty.int IntKind.i64],ps:=[PK.v (Ty.int IntKind.i64),PK.v (Ty.int IntKind.i64)],cuts:=[],nt:=14 }
def ceqI:Ctr:={ ps:=[.v (.slc false I64),.v (.slc false I64)],rs:=[.bool],pre:=fun _=>True,fn:=fun x=>(decide ((show List (Int) from x.1)=(show List (Int) from x.2.1)),()),out:=fun _=>() }
noncomputable def EeqI:Env:={ P:=Try.prog,tt:=tt,ctr:=[],res:=[Go.ResultVar.tmp 4],rs:=[Ty.bool],ps:=[PK.v (Ty.slc false (Ty.int IntKind.i64)),PK.v (Ty.slc false (Ty.int IntKind.i64))],cuts:=[(4,[(0,none),(1,none),(12,none),(13,none)])],nt:=26 }
def EeqI_s4 (v0:List Int) (v1:List Int) (v12:Int) (v13:Int):St:=St.mk [(0,AV.val (Ty.slc false (Ty.int IntKind.i64)) v0),(1,AV.val (Ty.slc false (Ty.int IntKind.i64)) v1),(12,AV.val (Ty.int IntKind.i64) v12),(13,AV.val (Ty.int IntKind.i64) v13)] []
def cidxI:Ctr:={ ps:=[.v (.slc false I64),.v I64],rs:=[I64],pre:=fun _=>True,fn:=fun x=>(idxOf (fun y=>decide ((show Int from x.2.1)=y)) x.1,()),out:=fun _=>() }
noncomputable def EidxI:Env:={ P:=Try.prog,tt:=tt,ctr:=[],res:=[Go.ResultVar.tmp 4],rs:=[Ty.int IntKind.i64],ps:=[PK.v (Ty.slc false (Ty.int IntKind.i64)),PK.v (Ty.int IntKind.i64)],cuts:=[(2,[(0,none),(1,none),(7,none),(8,none)])],nt:=19 }
def EidxI_s2 (v0:List Int) (v1:Int) (v7:Int) (v8:Int):St:=St.mk [(0,AV.val (Ty.slc false (Ty.int IntKind.i64)) v0),(1,AV.val (Ty.int IntKind.i64) v1),(7,AV.val (Ty.int IntKind.i64) v7),(8,AV.val (Ty.int IntKind.i64) v8)] []
def ccontI:Ctr:={ ps:=[.v (.slc false I64),.v I64],rs:=[.bool],pre:=fun _=>True,fn:=fun x=>(decide ((show Int from x.2.1)∈(show List (Int) from x.1)),()),out:=fun _=>() }
noncomputable def EcontI:Env:={ P:=Try.prog,tt:=tt,ctr:=[(78,cidxI)],res:=[Go.ResultVar.tmp 4],rs:=[Ty.bool],ps:=[PK.v (Ty.slc false (Ty.int IntKind.i64)),PK.v (Ty.int IntKind.i64)],cuts:=[],nt:=9 }
def cclI:Ctr:={ ps:=[.v (.slc false I64)],rs:=[.slc true I64],pre:=fun x=>List.length (α:=Int) x.1≤1048576,fn:=fun x=>x,out:=fun _=>() }
noncomputable def EclI:Env:={ P:=Try.prog,tt:=tt,ctr:=[],res:=[Go.ResultVar.tmp 2],rs:=[Ty.slc true (Ty.int IntKind.i64)],ps:=[PK.v (Ty.slc false (Ty.int IntKind.i64))],cuts:=[],nt:=8 }
end Go.Proofs.Ytegigiecamjobaa
