/- Grids: a row and a column of one meet those of any other one: the plain law. No condition but those named. -/
import Derived.Test.YtekbamiaenbhjaaQC
namespace Go.Proofs.Ytekbamiaenbhjaa
open Go.Ex Go.Sort
set_option maxRecDepth 100000
end Go.Proofs.Ytekbamiaenbhjaa
