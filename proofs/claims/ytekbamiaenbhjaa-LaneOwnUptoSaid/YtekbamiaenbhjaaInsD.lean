/- slices.Insert at api.Parcel as a contract: one value. -/
import Derived.Test.YtekbamiaenbhjaaInsC
import Derived.Test.YtekbamiaenbhjaaUtil
namespace Go.Proofs.Ytekbamiaenbhjaa
open Go.Ex
set_option maxRecDepth 100000
def b91:t5:={ ps:=[.own (.d0 true C0),.v I8,.own (.d0 true C0)],rs:=[.d0 true C0],pre:=fun x=>x.2.1=(List.length (α:=X5) x.1:Int)∧List.length (α:=X5) x.1≤1000∧List.length (α:=X5) x.2.2.1=1,fn:=fun x=>(a6V x.1 x.2.1 x.2.2.1,()),out:=fun _=>() }
noncomputable def b6t:Env:={ P:=Try.prog,tt:=tt,C9:=[],res:=[Go.ResultVar.tmp 6],rs:=[Ty.d0 true (Ty.pair (Ty.int IntKind.i64) (Ty.pair Ty.str Ty.unit))],ps:=[PK.own (Ty.d0 true (Ty.pair (Ty.int IntKind.i64) (Ty.pair Ty.str Ty.unit))),PK.v (Ty.int IntKind.i64),PK.own (Ty.d0 true (Ty.pair (Ty.int IntKind.i64) (Ty.pair Ty.str Ty.unit)))],C7:=[],nt:=95 }
theorem b2Y:x8 b6t:=C2 q9 trivial
theorem b2H:D3 b6t Try.f160:=⟨rfl,rfl⟩
theorem c0R (x0:List (Int×List UInt8×Unit)) (x1:Int) (x2:List (Int×List UInt8×Unit)):exec b6t 1000 [.code (d9 Try.prog 160)] (w7 b91.ps ((x0,x1,x2,()))) =
  .f9 ((0:Int)≤x1∧x1≤(↑(List.length x0):Int)∧(↑(List.length x0):Int)≤(↑(List.length x0):Int)) (cond (decide ((↑(List.length x2):Int)=(0:Int))) (.ret ((x0,()))) (cond (decide (x1=(↑(List.length x0):Int))) (.f9 (List.length x0+List.length x2≤140737488355328∧(List.length x0+List.length x2)*Ty.wb (Ty.pair (Ty.int IntKind.i64) (Ty.pair Ty.str Ty.unit))≤140737488355328) (.ret ((x0++x2,())))) (.f9 (C1 IntKind.i64 ((↑(List.length x0):Int)+(↑(List.length x2):Int))) (.stuck "cap")))):=by kernel_rfl
theorem b3F:b91.Valid Try.prog 160:=by
  refine t5.s4 b2Y rfl rfl Try.func160 (c:=d9 Try.prog 160) rfl rfl b2H rfl ?_
  rintro ⟨(l:List X5),(i:Int),(m:List X5),⟨⟩⟩ ⟨(p1:i=(l.length:Int)),(p2:l.length≤1000),(p3:m.length=1)⟩ -
  subst p1
  refine l5 (n:=1000) b2Y b2H ?_
  refine j8 (c0R l (l.length:Int) m) ?_
  have w24:Ty.wb C0=24:=rfl
  simp only [p8,Tree.holds,true_and,true_implies,decide_eq_true_eq,decide_eq_false_iff_not,Bool.not_eq_true',Bool.not_eq_false',Int.toNat_natCast,u6,List.length_set,List.length_cons,List.length_nil,w24]
  refine ⟨by omega,fun _=>⟨fun h=>absurd h (by omega),fun _=>⟨⟨⟨by omega,by omega⟩,fun _=>?_⟩,fun h=>absurd trivial h⟩⟩⟩
  show ((l++m,()):List X5×Unit)=(a6V l (l.length:Int) m,())
  unfold a6V
  rw [Int.toNat_natCast,List.take_length,List.drop_length,List.append_nil]
def c1r:t5:={ ps:=[.own (.d0 true C0),.v I8,.own (.d0 true C0)],rs:=[.d0 true C0],pre:=fun x=>(LE.le (α:=Int) 0 x.2.1∧LE.le (α:=Int) x.2.1 (List.length (α:=X5) x.1))∧List.length (α:=X5) x.1≤1000∧List.length (α:=X5) x.2.2.1=1,fn:=fun x=>(a6V x.1 x.2.1 x.2.2.1,()),out:=fun _=>() }
theorem b5N:c1r.Valid Try.prog 160:=by
  refine ⟨a6w.ent,?_,fun h=>by cases h⟩
  rintro w S vs ⟨(l:List X5),(i:Int),(m:List X5),⟨⟩⟩ L hS hgl ⟨⟨(p0:0≤i),(p1:i≤(l.length:Int))⟩,(p2:l.length≤1000),(p3:m.length=1)⟩ hks hlk hnd hL
  by_cases h:i<(l.length:Int)
  · exact a6w.run w S vs (l,i,m,()) L hS hgl ⟨⟨p0,h⟩,p2,p3⟩ hks hlk hnd hL
  · exact b3F.run w S vs (l,i,m,()) L hS hgl ⟨by show i=(l.length:Int); omega,p2,p3⟩ hks hlk hnd hL
end Go.Proofs.Ytekbamiaenbhjaa
