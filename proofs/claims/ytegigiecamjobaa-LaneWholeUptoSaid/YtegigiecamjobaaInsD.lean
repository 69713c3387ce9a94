/- slices.Insert at api.Parcel as a contract: one value. -/
import Derived.Test.YtegigiecamjobaaInsC
import Derived.Test.YtegigiecamjobaaUtil
namespace Go.Proofs.Ytegigiecamjobaa
open Go.Ex
set_option maxRecDepth 100000
def cinsE:Ctr:={ ps:=[.own (.slc true Parcel),.v I64,.own (.slc true Parcel)],rs:=[.slc true Parcel],pre:=fun x=>x.2.1=(List.length (α:=ParD) x.1:Int)∧List.length (α:=ParD) x.1≤1000∧List.length (α:=ParD) x.2.2.1=1,fn:=fun x=>(insP x.1 x.2.1 x.2.2.1,()),out:=fun _=>() }
noncomputable def EinsE:Env:={ P:=Try.prog,tt:=tt,ctr:=[],res:=[Go.ResultVar.tmp 6],rs:=[Ty.slc true (Ty.pair (Ty.int IntKind.i64) (Ty.pair Ty.str Ty.unit))],ps:=[PK.own (Ty.slc true (Ty.pair (Ty.int IntKind.i64) (Ty.pair Ty.str Ty.unit))),PK.v (Ty.int IntKind.i64),PK.own (Ty.slc true (Ty.pair (Ty.int IntKind.i64) (Ty.pair Ty.str Ty.unit)))],cuts:=[],nt:=95 }
theorem EinsE_ok:EnvOk EinsE:=envOk tt_ok trivial
theorem FinsE_ok:FnOk EinsE Try.f86:=⟨rfl,rfl⟩
theorem EinsE_t (x0:List (Int×List UInt8×Unit)) (x1:Int) (x2:List (Int×List UInt8×Unit)):exec EinsE 1000 [.code (bodyOf Try.prog 86)] (initSt cinsE.ps ((x0,x1,x2,()))) =
  .need ((0:Int)≤x1∧x1≤(↑(List.length x0):Int)∧(↑(List.length x0):Int)≤(↑(List.length x0):Int)) (cond (decide ((↑(List.length x2):Int)=(0:Int))) (.ret ((x0,()))) (cond (decide (x1=(↑(List.length x0):Int))) (.need (List.length x0+List.length x2≤140737488355328∧(List.length x0+List.length x2)*Ty.wb (Ty.pair (Ty.int IntKind.i64) (Ty.pair Ty.str Ty.unit))≤140737488355328) (.ret ((x0++x2,())))) (.need (inK IntKind.i64 ((↑(List.length x0):Int)+(↑(List.length x2):Int))) (.stuck "cap")))):=by kernel_rfl
theorem cinsE_valid:cinsE.Valid Try.prog 86:=by
  refine Ctr.valid_of EinsE_ok rfl rfl Try.func86 (c:=bodyOf Try.prog 86) rfl rfl FinsE_ok rfl ?_
  rintro ⟨(l:List ParD),(i:Int),(m:List ParD),⟨⟩⟩ ⟨(p1:i=(l.length:Int)),(p2:l.length≤1000),(p3:m.length=1)⟩ -
  subst p1
  refine exec_sound (n:=1000) EinsE_ok FinsE_ok ?_
  refine holds_of_eq (EinsE_t l (l.length:Int) m) ?_
  have w24:Ty.wb Parcel=24:=rfl
  simp only [holds_cond,Tree.holds,true_and,true_implies,decide_eq_true_eq,decide_eq_false_iff_not,Bool.not_eq_true',Bool.not_eq_false',Int.toNat_natCast,inK_i64,List.length_set,List.length_cons,List.length_nil,w24]
  refine ⟨by omega,fun _=>⟨fun h=>absurd h (by omega),fun _=>⟨⟨⟨by omega,by omega⟩,fun _=>?_⟩,fun h=>absurd trivial h⟩⟩⟩
  show ((l++m,()):List ParD×Unit)=(insP l (l.length:Int) m,())
  unfold insP
  rw [Int.toNat_natCast,List.take_length,List.drop_length,List.append_nil]
def cins:Ctr:={ ps:=[.own (.slc true Parcel),.v I64,.own (.slc true Parcel)],rs:=[.slc true Parcel],pre:=fun x=>(LE.le (α:=Int) 0 x.2.1∧LE.le (α:=Int) x.2.1 (List.length (α:=ParD) x.1))∧List.length (α:=ParD) x.1≤1000∧List.length (α:=ParD) x.2.2.1=1,fn:=fun x=>(insP x.1 x.2.1 x.2.2.1,()),out:=fun _=>() }
theorem cins_valid:cins.Valid Try.prog 86:=by
  refine ⟨cinsM_valid.ent,?_,fun h=>by cases h⟩
  rintro w S vs ⟨(l:List ParD),(i:Int),(m:List ParD),⟨⟩⟩ L hS ⟨⟨(p0:0≤i),(p1:i≤(l.length:Int))⟩,(p2:l.length≤1000),(p3:m.length=1)⟩ hks hlk hnd hL
  by_cases h:i<(l.length:Int)
  · exact cinsM_valid.run w S vs (l,i,m,()) L hS ⟨⟨p0,h⟩,p2,p3⟩ hks hlk hnd hL
  · exact cinsE_valid.run w S vs (l,i,m,()) L hS ⟨by show i=(l.length:Int); omega,p2,p3⟩ hks hlk hnd hL
end Go.Proofs.Ytegigiecamjobaa
