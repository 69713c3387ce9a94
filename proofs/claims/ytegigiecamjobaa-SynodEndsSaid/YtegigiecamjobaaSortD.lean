/- slices.Sort of ints and of strings as contracts of the evaluator. Condition: no more than 1048576 elements. -/
import Derived.Test.YtegigiecamjobaaSortB
import Derived.Shelf.SortM.Plain
import Derived.Shelf.SortM.SortNone
namespace Go.Ex
open Go.Sort Go.Proofs

def sortI (l:List Int):List Int:=sortBy (fun x y=>decide (x<y)) l
def sortIC:Ctr:={ ps:=[.mu (.int .i64)],rs:=[],pre:=fun x=>List.length (α:=Int) x.1≤1048576,fn:=fun _=>(),out:=fun x=>(sortI x.1,()) }
end Go.Ex
