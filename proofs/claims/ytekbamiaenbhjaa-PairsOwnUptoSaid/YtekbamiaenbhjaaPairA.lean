/- Types of the package match, and a table of types with its pointers. -/
import Derived.Test.YtekbamiaenbhjaaBase
namespace Go.Proofs.Ytekbamiaenbhjaa
open Go.Ex
set_option maxRecDepth 100000
abbrev U64:Ty:=.int .u64
abbrev c1r:Ty:=.pair (.d0 true (.d0 true .bool)) (.pair (.d0 true A4) (.pair (.d0 true .bool) .unit))
abbrev b2G:Ty:=.pair (.d0 false (.d0 false .bool)) (.pair (.d0 true A4) (.pair (.d0 true .bool) .unit))
def ttG:List (TypeId×TI):=(310,TI.mk (Ty.box true none c1r) 8)::(314,TI.mk (Ty.fn 198) 8)::tt
theorem a43:ttG.all (a4c Try.prog)=true:=by kernel_rfl
end Go.Proofs.Ytekbamiaenbhjaa
