/- SetsOwn's own table of types: an api.Synod whose lists are slices of any kind. -/
import Derived.Test.YtekbamiaenbhjaaOwnS
namespace Go.Proofs.Ytekbamiaenbhjaa
open Go.Ex
set_option maxRecDepth 100000
abbrev b8U:Ty:=.pair (.s4 R9) (.pair (.s4 Round) .unit)
def ttS:List (TypeId×TI):=(198,TI.mk b8U 48)::(199,TI.mk b8U 48)::tt
theorem c2M:ttS.all (a4B Try.prog)=true:=by kernel_rfl
end Go.Proofs.Ytekbamiaenbhjaa
