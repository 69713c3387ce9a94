/- Plain facts on commands and logs: what SameKey, SameSwaps, SameLine and SamePrefix say. -/
import Derived.Test.YtgmbfnlhmnpciaaDoorSmD
namespace Go.Proofs.YtgmbfnlhmnpciaaDoor
open Go.Ex
set_option maxRecDepth 100000
def cellF (v:List Int) (c:CmdD):Int :=
  if c.1=1 then clampF c.2.2.1 else if c.1=2 then clampF (farF (v.getD c.2.1.toNat 0)+clampF c.2.2.1)
  else if c.1=3 then max (v.getD c.2.1.toNat 0) (clampF c.2.2.1) else if c.1=4 then v.getD c.2.2.1.toNat 0 else v.getD c.2.1.toNat 0
theorem set_self {v:List Int} {i:Nat}:v.set i (v.getD i 0)=v:=by
  apply List.ext_getElem?
  intro j
  rw [List.getElem?_set]
  split
  · rename_i h; subst h
    split
    · rename_i h2; rw [List.getD_eq_getElem?_getD,List.getElem?_eq_getElem h2]; rfl
    · rename_i h2; rw [List.getElem?_eq_none (by omega)]
  · rfl
def CmdOk (c:CmdD):Prop:=(0≤c.2.1∧c.2.1<10)∧(c.1=4→0≤c.2.2.1∧c.2.2.1<10)∧1≤c.1
end Go.Proofs.YtgmbfnlhmnpciaaDoor
