/- The sorted list of a strict weak order. No condition. -/
import Derived.Test.YtekbamiaenbhjaaExW
import Derived.Sort.Statements
namespace Go.Ex
open Go.Sort
def x7 {α:Type} (lt:α→α→Bool) (l:List α):List α:=l.mergeSort (fun a b=>!lt b a)

theorem G8 {α:Type} (lt:α→α→Bool) (l:List α):(x7 lt l).Perm l:=List.mergeSort_perm _ _
theorem U7 {α:Type} {lt:α→α→Bool} (h:SWO lt) (l:List α):(x7 lt l).Pairwise (fun a b=>lt b a=false):=by
  have:=List.pairwise_mergeSort (le:=fun a b=>!lt b a) (fun a b c h1 h2=>by
    simp only [Bool.not_eq_true'] at h1 h2 ⊢
    exact h.ntrans _ _ _ h2 h1) (fun a b=>by
    cases e:lt b a with
    | false=>rfl
    | true =>
      cases e2:lt a b with
      | false=>rfl
      | true=>have:=h.trans _ _ _ e e2; rw [h.irrefl] at this; cases this) l
  exact this.imp (fun h=>by simpa using h)
theorem Y6 {α:Type} {lt:α→α→Bool} (h:SWO lt) {l m:List α} (hp:m.Perm l) (hs:m.Pairwise (fun a b=>lt b a=false)) (ht:∀ a∈l,∀ b∈l,lt a b=false→lt b a=false→a=b):m=x7 lt l :=
  List.Perm.eq_of_pairwise (le:=fun a b=>lt b a=false) (fun a b ha hb h1 h2=>ht a (hp.mem_iff.1 ha) b ((G8 lt l).mem_iff.1 hb) h2 h1) hs (U7 h l) (hp.trans (G8 lt l).symm)

def V3 {α:Type} (cf:α→α→Int) (a b:α):Bool:=decide (cf a b<0)
end Go.Ex
