/- cmp.Compare and cmp.Or at int. No condition. -/
import Derived.Test.YtekbamiaenbhjaaBase
namespace Go.Proofs.Ytekbamiaenbhjaa
open Go.Ex
set_option maxRecDepth 100000
def a9a (x y:Int):Int:=if x<y then -1 else if y<x then 1 else 0
def b5P:w8:={ ps:=[.v A4],rs:=[.bool],pre:=fun _=>True,fn:=fun _=>(false,()),out:=fun _=>() }
noncomputable def b6s:Env:={ P:=Try.prog,tt:=tt,F7:=[],res:=[Go.ResultVar.tmp 2],rs:=[Ty.bool],ps:=[PK.v (Ty.int IntKind.i64)],H2:=[],nt:=6 }
theorem b2Q:D7 b6s:=G8 x5 trivial
theorem b2H:H9 b6s Try.f223:=⟨rfl,rfl⟩
theorem c0y (x0:Int):exec b6s 1000 [.code (d8 Try.prog 223)] (C2 b5P.ps ((x0,()))) =
  .ret ((decide (x0≠x0),())):=by kernel_rfl
theorem b3x:b5P.Valid Try.prog 223:=by
  refine w8.y8 b2Q rfl rfl Try.func223 (c:=d8 Try.prog 223) rfl rfl b2H rfl ?_
  rintro ⟨(x:Int),⟨⟩⟩ - -
  refine p8 (n:=1000) b2Q b2H ?_
  refine l4 (c0y x) ?_
  show ((decide (x≠x),()):Bool×Unit)=(false,())
  simp
def b5Y:w8:={ ps:=[.v A4,.v A4],rs:=[A4],pre:=fun _=>True,fn:=fun x=>(a9a x.1 x.2.1,()),out:=fun _=>() }
noncomputable def b6y:Env:={ P:=Try.prog,tt:=tt,F7:=[(223,b5P)],res:=[Go.ResultVar.tmp 4],rs:=[Ty.int IntKind.i64],ps:=[PK.v (Ty.int IntKind.i64),PK.v (Ty.int IntKind.i64)],H2:=[],nt:=20 }
theorem b21:D7 b6y:=G8 x5 ⟨b3x,trivial⟩
theorem b2K:H9 b6y Try.f132:=⟨rfl,rfl⟩
theorem c0G (x0:Int) (x1:Int):exec b6y 1000 [.code (d8 Try.prog 132)] (C2 b5Y.ps ((x0,x1,()))) =
  .g9 (True) (.g9 (True) (cond (decide (x0<x1)) (.ret (((-1:Int),()))) (cond (decide (x1<x0)) (.ret (((1:Int),()))) (.ret (((0:Int),())))))):=by kernel_rfl
theorem b3D:b5Y.Valid Try.prog 132:=by
  refine w8.y8 b21 rfl rfl Try.func132 (c:=d8 Try.prog 132) rfl rfl b2K rfl ?_
  rintro ⟨(x:Int),(y:Int),⟨⟩⟩ - -
  refine p8 (n:=1000) b21 b2K ?_
  refine l4 (c0G x y) ?_
  simp only [p7,Tree.holds,true_and,true_implies,decide_eq_true_eq,decide_eq_false_iff_not,Bool.not_eq_true',Bool.not_eq_false',Int.toNat_natCast,u7,List.length_set,List.length_cons,List.length_nil]
  repeat' first|exact trivial|(refine And.intro ?_ ?_)|(intro _)
  all_goals (show ((_,()):Int×Unit)=(a9a x y,()); simp [a9a, *])
end Go.Proofs.Ytekbamiaenbhjaa
