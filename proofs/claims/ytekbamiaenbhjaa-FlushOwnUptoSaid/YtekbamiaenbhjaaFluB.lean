/- FlushKeeps. No condition. -/
import Derived.Test.YtekbamiaenbhjaaFluA
namespace Go.Proofs.Ytekbamiaenbhjaa
open Go.Ex
set_option maxRecDepth 100000
def cgrowI:Ctr:={ ps:=[.nilS,.v I64],rs:=[.slc true I64],pre:=fun x=>LE.le (α:=Int) 0 x.2.1∧LE.le (α:=Int) x.2.1 1048576,fn:=fun _=>([],()),out:=fun _=>() }
noncomputable def EgrowI:Env:={ P:=Try.prog,tt:=tt,ctr:=[],res:=[Go.ResultVar.tmp 4],rs:=[Ty.slc true (Ty.int IntKind.i64)],ps:=[PK.nilS,PK.v (Ty.int IntKind.i64)],cuts:=[],nt:=27 }
def cconI:Ctr:={ ps:=[.v (.slc false (.slc false I64))],rs:=[.slc true I64],pre:=fun x=>(List.flatten (α:=Int) x.1).length≤1048576,fn:=fun x=>(List.flatten (α:=Int) x.1,()),out:=fun _=>() }
noncomputable def EconI:Env:={ P:=Try.prog,tt:=tt,ctr:=[(125,cgrowI)],res:=[Go.ResultVar.tmp 2],rs:=[Ty.slc true (Ty.int IntKind.i64)],ps:=[PK.v (Ty.slc false (Ty.slc false (Ty.int IntKind.i64)))],cuts:=[(3,[(0,none),(3,none),(9,none),(10,none),(11,none)]),(11,[(6,some Is),(25,none),(26,none),(27,none)])],nt:=36 }
def EconI_s3 (v0:List (List Int)) (v3:Int) (v9:List (List Int)) (v10:Int) (v11:Int):St:=St.mk [(0,AV.val (Ty.slc false (Ty.slc false (Ty.int IntKind.i64))) v0),(3,AV.val (Ty.int IntKind.i64) v3),(9,AV.val (Ty.slc false (Ty.slc false (Ty.int IntKind.i64))) v9),(10,AV.val (Ty.int IntKind.i64) v10),(11,AV.val (Ty.int IntKind.i64) v11)] []
def EconI_s11 (v25:List (List Int)) (v26:Int) (v27:Int) (o1000006:List Int):St:=St.mk [(6,AV.at_ 1000006 []),(25,AV.val (Ty.slc false (Ty.slc false (Ty.int IntKind.i64))) v25),(26,AV.val (Ty.int IntKind.i64) v26),(27,AV.val (Ty.int IntKind.i64) v27)] [(1000006,Ent.own Is o1000006)]
def cFlushKeeps:Ctr:={ ps:=[.v Flush,.v I64,.v I64],rs:=[.bool],pre:=fun _=>True,fn:=fun _=>(true,()),out:=fun _=>() }
noncomputable def EFlushKeeps:Env:={ P:=Try.prog,tt:=tt,ctr:=[(14,cfnew),(15,cffall),(16,cftell),(17,cfcheck),(18,cconI),(19,ceqI)],res:=[Go.ResultVar.tmp 6],rs:=[Ty.bool],ps:=[PK.v (Ty.pair (Ty.pair (Ty.int IntKind.i64) (Ty.pair (Ty.int IntKind.u8) Ty.unit)) (Ty.pair (Ty.int IntKind.u8) (Ty.pair (Ty.arr 6 (Ty.slc false (Ty.int IntKind.i64))) Ty.unit))),PK.v (Ty.int IntKind.i64),PK.v (Ty.int IntKind.i64)],cuts:=[(16,[(1,none),(2,none),(3,none),(11,none),(77,none)])],nt:=100 }
def EFlushKeeps_s16 (v1:Int) (v2:Int) (v77:Int) (o3_1_1:Int) (o3_1_2_1:Int) (o3_2_1:Int) (o3_2_2_1:List (List Int)) (o11_1_1:Int) (o11_1_2_1:Int) (o11_2_1:Int) (o11_2_2_1:List (List Int)):St:=St.mk [(1,AV.val (Ty.int IntKind.i64) v1),(2,AV.val (Ty.int IntKind.i64) v2),(3,AV.ptr 3 []),(11,AV.ptr 11 []),(77,AV.val (Ty.int IntKind.i64) v77)] [(3,Ent.var (Ty.pair (Ty.pair (Ty.int IntKind.i64) (Ty.pair (Ty.int IntKind.u8) Ty.unit)) (Ty.pair (Ty.int IntKind.u8) (Ty.pair (Ty.arr 6 (Ty.slc false (Ty.int IntKind.i64))) Ty.unit))) ((o3_1_1,o3_1_2_1,()),o3_2_1,o3_2_2_1,())),(11,Ent.var (Ty.pair (Ty.pair (Ty.int IntKind.i64) (Ty.pair (Ty.int IntKind.u8) Ty.unit)) (Ty.pair (Ty.int IntKind.u8) (Ty.pair (Ty.arr 6 Is) Ty.unit))) ((o11_1_1,o11_1_2_1,()),o11_2_1,o11_2_2_1,()))]
theorem eqView {a b c d:Int}:eqD (.pair I64 (.pair U8 .unit)) (a,b,()) (c,d,())=true↔a=c∧b=d:=by
  show (decide (a=c) && (decide (b=d) && true))=true↔_
  simp
end Go.Proofs.Ytekbamiaenbhjaa
