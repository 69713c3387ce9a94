/- slices.SortFunc as a contract of the evaluator, out of the library's own contract: elements of one cell, and structs. Condition: what the contract asks (the elements shared, cmp's own contract, ties are equal). -/
import Derived.Test.YtekbamiaenbhjaaSortA
import Derived.Shelf.SlSortCmp.NoneTotal
namespace Go.Ex
open Go.Sort Go.Proofs

theorem C0.grown {w w':World} (h:C0 [] w w'):∃ q os,w'=grow (w.drewN q) os:=by
  obtain ⟨h1,h2,h3,h4,h5⟩:=h
  refine ⟨w'.drawn - w.drawn,w'.heap.extract w.heap.size w'.heap.size,?_⟩
  have e4:w.drawn+(w'.drawn - w.drawn)=w'.drawn:=by have:=h2.2; omega
  have e5:w.heap++w'.heap.extract w.heap.size w'.heap.size=w'.heap:=by
    apply Array.ext_getElem?
    intro k
    rw [Array.getElem?_append]
    by_cases hk:k<w.heap.size
    · rw [if_pos hk,h5 k hk (by simp)]
    · rw [if_neg hk,Array.getElem?_extract]
      by_cases hk2:k<w'.heap.size
      · rw [if_pos (by omega)]; congr 1; omega
      · rw [if_neg (by omega),Array.getElem?_eq_none (by omega)]
  have e1:=h2.1
  cases w; cases w'
  simp only [grow,World.drewN] at *
  subst h1 e1 h3
  rw [e4,e5]

theorem b5R {w:World} {b off m:Nat} {F:Array Value} {os:Array Obj}:C0 [b] w (sortWorld id w b off m F os):=by
  refine ⟨rfl,⟨rfl,Nat.le_add_right _ _⟩,rfl,?_,?_⟩
  · show w.heap.size≤((mapBlock (Sort.ahead w m) b _).heap++os).size
    simp [mapBlock,Sort.ahead]
  · intro c hc hn
    show ((mapBlock (Sort.ahead w m) b _).heap++os)[c]?=_
    have hcb:b≠c:=fun e=>hn (by simp [e])
    rw [Array.getElem?_append,if_pos (by simpa [mapBlock,Sort.ahead] using hc)]
    simp only [mapBlock,Sort.ahead,Array.getElem?_modify,if_neg hcb]

theorem b9c {w:World} {b off m:Nat} {F:Array Value} {os:Array Obj} {arr:Array Value} {T:TypeId} {fz:Nat×Nat} (h:Lie w.heap b arr T fz) :
    Lie (sortWorld id w b off m F os).heap b (putCells id off F arr) T fz:=by
  have hb:b<w.heap.size:=(Array.getElem?_eq_some_iff.1 h.1).1
  refine ⟨?_,h.2.imp id (fun h=>by simpa [putCells] using h)⟩
  show ((mapBlock (Sort.ahead w m) b _).heap++os)[b]?=_
  rw [Array.getElem?_append,if_pos (by simpa [mapBlock,Sort.ahead] using hb)]
  simp only [mapBlock,Sort.ahead,Array.getElem?_modify,if_true,h.1,Option.map_some,onCells]

theorem c0R {w:World} {b off m:Nat} {F:Array Value} {os:Array Obj} {arr:Array Value} {T:TypeId} {fz:Nat×Nat} (h:Lie w.heap b arr T fz) (hn:off+F.size≤arr.size) :
    f8 (sortWorld id w b off m F os).heap b off F.size=F.toList:=by
  simp only [f8,w7,(b9c (m:=m) (os:=os) (off:=off) (F:=F) h).1]
  apply List.ext_getElem?
  intro i
  rw [List.getElem?_take,List.getElem?_drop]
  by_cases hi:i<F.size
  · rw [if_pos hi]
    simp only [putCells,Array.getElem?_toList,Array.getElem?_mapIdx]
    rw [Array.getElem?_eq_getElem (by omega:off+i<arr.size),Option.map_some,if_pos ⟨by omega,by omega⟩,show off+i - off=i by omega,getElem!_pos F i hi,Array.getElem?_eq_getElem hi]
    rfl
  · rw [if_neg hi,List.getElem?_eq_none (by simpa using hi)]

def El (H:Array Go.Obj) (S:Nat→Prop) (t:Ty) (ok:t.den→Prop):Type:={p:List Value×t.den // f9 H S t [] p.1 p.2∧ok p.2}
def El.cs {H:Array Go.Obj} {S:Nat→Prop} {t:Ty} {ok:t.den→Prop} (x:El H S t ok):List Value:=x.1.1
def El.x {H:Array Go.Obj} {S:Nat→Prop} {t:Ty} {ok:t.den→Prop} (x:El H S t ok):t.den:=x.1.2

section
variable {H H':Array Go.Obj} {S S':Nat→Prop} {t:Ty} {ok:t.den→Prop}
theorem El.len (x:El H S t ok):x.cs.length=t.size:=x.2.1.length

end

def c2M (t:Ty) (g:Nat) (cf:t.den→t.den→Int) (ok:t.den→Prop):w9 :=
  { ps:=[.mu t,.s4 g []],rs:=[],pre:=fun x=>List.length (α:=t.den) x.1≤1048576∧(∀ a∈(show List t.den from x.1),ok a)∧∀ a∈(show List t.den from x.1),∀ b∈(show List t.den from x.1),V3 cf a b=false→V3 cf b a=false→a=b,
    fn:=fun _=>(),out:=fun x=>(x7 (V3 cf) x.1,()) }

section
variable {P:Program} {t:Ty} {g:Nat} {cf:t.den→t.den→Int} {ok:t.den→Prop}

end

theorem b28 {α:Type} [Inhabited α] (enc:α→Value) (off:Nat) (d:Array α) (c:Array Value):putCells enc off d c=putCells id off (d.map enc) c:=by
  apply Array.ext_getElem?
  intro k
  simp only [putCells,Array.getElem?_mapIdx,Array.size_map,id]
  cases c[k]? with
  | none=>rfl
  | some v =>
    simp only [Option.map_some]
    by_cases h:off≤k∧k<off+d.size
    · rw [if_pos h,if_pos h,getElem!_pos d _ (by omega),getElem!_pos (d.map enc) _ (by rw [Array.size_map]; omega),Array.getElem_map]
    · rw [if_neg h,if_neg h]

theorem b9b {α:Type} [Inhabited α] (enc:α→Value) (w:World) (b off m:Nat) (d:Array α) (os:Array Obj):sortWorld enc w b off m d os=sortWorld id w b off m (d.map enc) os:=by
  unfold sortWorld putRow
  rw [show putCells enc off d=putCells id off (d.map enc) from funext (b28 enc off d)]

theorem holds_of {w:World} {b off:Nat} {F:Array Value} {arr:Array Value} {T:TypeId} {fz:Nat×Nat} (h:Lie w.heap b arr T fz) (hn:off+F.size≤arr.size) (hc:f8 w.heap b off F.size=F.toList):Holds id w b off F:=by
  intro j hj
  refine ⟨?_,?_⟩
  · refine L5 (n:=F.size) ?_
    rw [hc,Array.getElem?_toList,getElem!_pos F j hj,Array.getElem?_eq_getElem hj]; rfl
  · simp only [World.frozen?,h.1]
    rcases h.2 with e|e
    · subst e; simp
    · simp only [Bool.and_eq_false_imp,decide_eq_true_eq,decide_eq_false_iff_not]
      intro h1; omega

theorem b9N {α:Type} [Inhabited α] {enc:α→Value} {w:World} {b off:Nat} {d:Array α} (h:Holds id w b off (d.map enc)):Holds enc w b off d:=by
  intro j hj
  have:=h j (by simpa using hj)
  rwa [getElem!_pos (d.map enc) j (by simpa using hj),Array.getElem_map,← getElem!_pos d j hj] at this

theorem c06 {α:Type} [Inhabited α] {lt:α→α→Bool} {d:Array α} (h:SortedIn lt 0 d.size d):d.toList.Pairwise (fun x y=>lt y x=false):=by
  rw [List.pairwise_iff_getElem]
  intro i j hi hj hij
  have:=h i j (Nat.zero_le _) hij (by simpa using hj)
  rw [getElem!_pos d j (by simpa using hj),getElem!_pos d i (by simpa using hi)] at this
  simpa using this

theorem c3A {α:Type} [Inhabited α] {d d':Array α} (h:PermIn 0 d.size d d'):d'.toList.Perm d.toList:=by
  have:=h.2.2
  have e:d'.size=d.size:=h.1
  simp only [Array.toList_extract,List.extract_eq_take_drop,Nat.sub_zero,List.drop_zero] at this
  rwa [List.take_of_length_le (by simp [e]),List.take_of_length_le (by simp)] at this
end Go.Ex
