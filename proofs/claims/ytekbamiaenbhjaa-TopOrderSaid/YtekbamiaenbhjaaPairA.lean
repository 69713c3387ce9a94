/- Types of the package match, and a table of types with its pointers. -/
import Derived.Test.YtekbamiaenbhjaaBase
namespace Go.Proofs.Ytekbamiaenbhjaa
open Go.Ex
set_option maxRecDepth 100000
abbrev U64:Ty:=.int .u64
abbrev c4U:Ty:=.pair (.d0 true (.d0 true .bool)) (.pair (.d0 true i5) (.pair (.d0 true .bool) .unit))
abbrev b4k:Ty:=.pair (.d0 false (.d0 false .bool)) (.pair (.d0 true i5) (.pair (.d0 true .bool) .unit))
def ttG:List (TypeId×TI):=(310,TI.mk (Ty.box true none c4U) 8)::(314,TI.mk (Ty.fn 198) 8)::tt
theorem b2S:ttG.all (a6e Try.prog)=true:=by kernel_rfl
end Go.Proofs.Ytekbamiaenbhjaa
