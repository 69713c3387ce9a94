/- Small things of lists and numbers. No condition but those named. -/
import Derived.Test.YtgmbfnlhmnpciaaDoorTys
namespace Go.Proofs.YtgmbfnlhmnpciaaDoor
open Go.Ex
set_option maxRecDepth 100000
theorem inK_i64 {n:Int}:inK .i64 n↔-9223372036854775808≤n∧n≤9223372036854775807:=Iff.rfl
theorem drop_getD {α:Type} {l:List α} {i:Nat} (h:i<l.length) (d:α):l.drop i=l.getD i d::l.drop (i+1):=by
  rw [List.drop_eq_getElem_cons h,List.getD_eq_getElem?_getD,List.getElem?_eq_getElem h]; rfl
theorem getD_set {α:Type} {l:List α} {i j:Nat} {x d:α} (h:i<l.length):(l.set i x).getD j d=if j=i then x else l.getD j d:=by
  rw [List.getD_eq_getElem?_getD,List.getD_eq_getElem?_getD,List.getElem?_set]
  by_cases e:i=j
  · subst e; simp [h]
  · rw [if_neg e,if_neg (fun h=>e h.symm)]
def sumN (f:Nat→Int):Nat→Int
  | 0=>0
  | n+1=>sumN f n+f n
def idxGo {α:Type} (p:α→Bool):List α→Nat→Int
  | [],_=>-1
  | x::l,i=>if p x=true then (i:Int) else idxGo p l (i+1)
def idxOf {α:Type} (p:α→Bool) (l:List α):Int:=idxGo p l 0
end Go.Proofs.YtgmbfnlhmnpciaaDoor
