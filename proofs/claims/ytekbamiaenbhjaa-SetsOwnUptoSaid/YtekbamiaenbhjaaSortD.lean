/- slices.Sort of ints and of strings as contracts of the evaluator. Condition: no more than 1048576 elements. -/
import Derived.Test.YtekbamiaenbhjaaSortB
import Derived.Shelf.SortM.Plain
import Derived.Shelf.SortM.SortNone
namespace Go.Ex
open Go.Sort Go.Proofs

end Go.Ex
