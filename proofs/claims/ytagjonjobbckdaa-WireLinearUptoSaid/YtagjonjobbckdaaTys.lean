/- The types that the laws of this seat name, as the evaluator reads them. -/
import Derived.Test.YtagjonjobbckdaaProg
import Derived.Test.YtagjonjobbckdaaExW
namespace Go.Proofs.Ytagjonjobbckdaa
open Go.Ex
set_option maxRecDepth 100000
abbrev I64 : Ty := .int .i64
abbrev B8 : Ty := .slc true (.int .u8)
abbrev Is : Ty := .slc true I64
abbrev Vec : Ty := .arr 6 I64
abbrev Pulse : Ty := .pair I64 (.pair I64 (.pair Vec (.pair Vec (.pair (.arr 6 .bool) .unit))))
abbrev V : Ty := .pair I64 (.pair (.int .u8) .unit)
abbrev Note : Ty := .pair I64 (.pair I64 (.pair I64 (.pair I64 (.pair I64 (.pair Vec (.pair .str .unit))))))
abbrev PairT : Ty := .pair I64 (.pair I64 .unit)
def tt : List (TypeId × TI) := [(2, TI.mk (Ty.int IntKind.i64) 8), (3, TI.mk (Ty.int IntKind.i64) 8), (4, TI.mk Ty.bool 1), (5, TI.mk (Ty.int IntKind.u8) 1), (6, TI.mk (Ty.int IntKind.u8) 1), (7, TI.mk (Ty.pair (Ty.int IntKind.i64) (Ty.pair (Ty.int IntKind.i64) (Ty.pair Ty.bool (Ty.pair (Ty.int IntKind.u8) Ty.unit)))) 24), (8, TI.mk (Ty.pair (Ty.int IntKind.i64) (Ty.pair (Ty.int IntKind.i64) (Ty.pair Ty.bool (Ty.pair (Ty.int IntKind.u8) Ty.unit)))) 24), (9, TI.mk Ty.str 16), (10, TI.mk Ty.str 16), (11, TI.mk Ty.str 16), (12, TI.mk (Ty.int IntKind.u64) 8), (13, TI.mk (Ty.pair Ty.str (Ty.pair (Ty.int IntKind.u64) Ty.unit)) 24), (14, TI.mk (Ty.pair Ty.str (Ty.pair (Ty.int IntKind.u64) Ty.unit)) 24), (21, TI.mk (Ty.int IntKind.i32) 4), (22, TI.mk (Ty.int IntKind.u32) 4), (24, TI.mk (Ty.slc true (Ty.int IntKind.u8)) 24), (26, TI.mk (Ty.pair (Ty.int IntKind.i64) (Ty.pair (Ty.int IntKind.u8) Ty.unit)) 16), (27, TI.mk (Ty.pair (Ty.int IntKind.i64) (Ty.pair (Ty.int IntKind.u8) Ty.unit)) 16), (28, TI.mk (Ty.int IntKind.i64) 8), (32, TI.mk (Ty.arr 6 (Ty.int IntKind.i64)) 48), (33, TI.mk (Ty.arr 6 (Ty.int IntKind.i64)) 48), (35, TI.mk (Ty.arr 4 (Ty.int IntKind.i64)) 32), (39, TI.mk (Ty.arr 6 Ty.bool) 6), (40, TI.mk (Ty.pair (Ty.int IntKind.i64) (Ty.pair (Ty.int IntKind.i64) (Ty.pair (Ty.arr 6 (Ty.int IntKind.i64)) (Ty.pair (Ty.arr 6 (Ty.int IntKind.i64)) (Ty.pair (Ty.arr 6 Ty.bool) Ty.unit))))) 120), (41, TI.mk (Ty.pair (Ty.int IntKind.i64) (Ty.pair (Ty.int IntKind.i64) (Ty.pair (Ty.arr 6 (Ty.int IntKind.i64)) (Ty.pair (Ty.arr 6 (Ty.int IntKind.i64)) (Ty.pair (Ty.arr 6 Ty.bool) Ty.unit))))) 120), (48, TI.mk (Ty.slc true (Ty.pair (Ty.int IntKind.i64) (Ty.pair (Ty.int IntKind.i64) Ty.unit))) 24), (50, TI.mk (Ty.pair (Ty.int IntKind.i64) (Ty.pair (Ty.int IntKind.i64) Ty.unit)) 16), (51, TI.mk (Ty.pair (Ty.int IntKind.i64) (Ty.pair (Ty.int IntKind.i64) Ty.unit)) 16), (59, TI.mk (Ty.slc true (Ty.int IntKind.i64)) 24), (69, TI.mk (Ty.pair (Ty.int IntKind.i64) (Ty.pair (Ty.int IntKind.i64) (Ty.pair (Ty.int IntKind.i64) (Ty.pair (Ty.int IntKind.i64) (Ty.pair (Ty.int IntKind.i64) (Ty.pair (Ty.arr 6 (Ty.int IntKind.i64)) (Ty.pair Ty.str Ty.unit))))))) 104), (70, TI.mk (Ty.pair (Ty.int IntKind.i64) (Ty.pair (Ty.int IntKind.i64) (Ty.pair (Ty.int IntKind.i64) (Ty.pair (Ty.int IntKind.i64) (Ty.pair (Ty.int IntKind.i64) (Ty.pair (Ty.arr 6 (Ty.int IntKind.i64)) (Ty.pair Ty.str Ty.unit))))))) 104), (79, TI.mk (Ty.int IntKind.u64) 8), (80, TI.mk (Ty.slc true (Ty.pair (Ty.int IntKind.i64) (Ty.pair (Ty.int IntKind.u8) Ty.unit))) 24), (98, TI.mk (Ty.int IntKind.u8) 1), (99, TI.mk (Ty.int IntKind.u8) 1), (102, TI.mk (Ty.int IntKind.i32) 4), (103, TI.mk (Ty.int IntKind.i32) 4)]
theorem tt_ok : tt.all (tiOk Try.prog) = true := by kernel_rfl
theorem own : ownKnob Try.prog.godebug = none := by kernel_rfl
theorem laid : laidOutB Try.prog = true := by kernel_rfl
end Go.Proofs.Ytagjonjobbckdaa
