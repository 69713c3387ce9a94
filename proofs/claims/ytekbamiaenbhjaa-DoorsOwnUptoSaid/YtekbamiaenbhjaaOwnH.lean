/- DoorsOwn's own table of types; slices.Clone and spoil at api.Door. -/
import Derived.Test.YtekbamiaenbhjaaOwnE
namespace Go.Proofs.Ytekbamiaenbhjaa
open Go.Ex
set_option maxRecDepth 100000
abbrev a1b:Ty:=.pair A7 (.pair A7 (.pair U8 (.pair .bool (.pair (.i9 A7) .unit))))
abbrev b8r:Ty:=.pair (.d0 false V7) (.pair (.i9 i6) .unit)
abbrev b8L:Ty:=.pair (.i9 Hand) (.pair (.i9 i6) .unit)
abbrev b1c:Ty:=.pair (.d0 true a1b) (.pair (.i9 i6) .unit)
def ttD:List (TypeId×TI):=(66,TI.mk b8r 48)::(69,TI.mk b8L 48)::(78,TI.mk a1b 48)::tt
theorem b7R:ttD.all (a3f Try.prog)=true:=by kernel_rfl
def b5a:u7:=b2k a1b
theorem b0q:b5a.Valid Try.prog 43:=by
  refine a9J (a1Y (S:=63) (I:=3) (T:=78) (e:=b3j (d9 Try.prog 43) [3,5,6,7,8,0,9,10,11,12,13,4,14,15,16,17,19,18,20]) (by kernel_rfl) (by kernel_rfl) (by kernel_rfl) Try.func43 (by kernel_rfl) rfl rfl rfl)
theorem b5H:Ty.wb V7=48:=rfl
def a7M:u7:={ ps:=[.v (.d0 false V7)],rs:=[.d0 true V7],pre:=fun x=>List.length (α:=w8) x.1≤1048576,fn:=fun x=>x,out:=fun _=>() }
noncomputable def a73:Env:={ P:=Try.prog,tt:=ttC,D0:=[],res:=[Go.ResultVar.tmp 2],rs:=[Ty.d0 true (Ty.pair (Ty.int IntKind.i64) (Ty.pair (Ty.int IntKind.i64) (Ty.pair (Ty.int IntKind.u8) (Ty.pair Ty.bool (Ty.pair (Ty.d0 false (Ty.int IntKind.i64)) Ty.unit)))))],ps:=[PK.v (Ty.d0 false (Ty.pair (Ty.int IntKind.i64) (Ty.pair (Ty.int IntKind.i64) (Ty.pair (Ty.int IntKind.u8) (Ty.pair Ty.bool (Ty.pair (Ty.d0 false (Ty.int IntKind.i64)) Ty.unit))))))],E1:=[],nt:=8 }
theorem a7g:B3 a73:=D5 b7S trivial
theorem a63:E9 a73 Try.f32:=⟨rfl,rfl⟩
theorem b5F (x0:List (Int×Int×Int×Bool×List Int×Unit)):exec a73 1000 [.code (d9 Try.prog 32)] (A3 a7M.ps ((x0,()))) =
  .both (x0=[]) (.ret (([],()))) (.f9 ((0:Nat)+List.length x0≤140737488355328∧((0:Nat)+List.length x0)*Ty.wb V7≤140737488355328) (.ret (([]++x0,())))):=by kernel_rfl
theorem a9j:a7M.Valid Try.prog 32:=by
  refine u7.u6 a7g rfl rfl Try.func32 (c:=d9 Try.prog 32) rfl rfl a63 rfl ?_
  rintro ⟨(l:List (w8)),⟨⟩⟩ hp -
  have hp:l.length≤1048576:=hp
  refine o4 (n:=1000) a7g a63 ?_
  refine n6 (b5F l) ?_
  simp only [o7,Tree.holds,true_and,true_implies,decide_eq_true_eq,decide_eq_false_iff_not,Bool.not_eq_true',Bool.not_eq_false',Int.toNat_natCast,r9,List.length_set,List.length_cons,List.length_nil,b5H]
  refine ⟨fun h=>?_,by omega,fun _=>rfl⟩
  show (([],()):List (w8)×Unit)=(l,())
  rw [show l=[] from h]
end Go.Proofs.Ytekbamiaenbhjaa
