/- slices.SortFunc as a contract of the evaluator, out of the library's own contract: elements of one cell, and structs. Condition: what the contract asks (the elements shared, cmp's own contract, ties are equal). -/
import Derived.Test.YtekbamiaenbhjaaSortA
import Derived.Shelf.SlSortCmp.NoneTotal
namespace Go.Ex
open Go.Sort Go.Proofs

theorem b6H {w:World} {b off m:Nat} {F:Array Value} {os:Array Obj}:w8 [b] w (sortWorld id w b off m F os):=by
  refine ⟨rfl,⟨rfl,Nat.le_add_right _ _⟩,rfl,?_,?_⟩
  · show w.heap.size≤((mapBlock (Sort.ahead w m) b _).heap++os).size
    simp [mapBlock,Sort.ahead]
  · intro c hc hn
    show ((mapBlock (Sort.ahead w m) b _).heap++os)[c]?=_
    have hcb:b≠c:=fun e=>hn (by simp [e])
    rw [Array.getElem?_append,if_pos (by simpa [mapBlock,Sort.ahead] using hc)]
    simp only [mapBlock,Sort.ahead,Array.getElem?_modify,if_neg hcb]

theorem b4g {w:World} {b off m:Nat} {F:Array Value} {os:Array Obj} {arr:Array Value} {T:TypeId} {fz:Nat×Nat} (h:Lie w.heap b arr T fz) :
    Lie (sortWorld id w b off m F os).heap b (putCells id off F arr) T fz:=by
  have hb:b<w.heap.size:=(Array.getElem?_eq_some_iff.1 h.1).1
  refine ⟨?_,h.2.imp id (fun h=>by simpa [putCells] using h)⟩
  show ((mapBlock (Sort.ahead w m) b _).heap++os)[b]?=_
  rw [Array.getElem?_append,if_pos (by simpa [mapBlock,Sort.ahead] using hb)]
  simp only [mapBlock,Sort.ahead,Array.getElem?_modify,if_true,h.1,Option.map_some,onCells]

theorem b5q {w:World} {b off m:Nat} {F:Array Value} {os:Array Obj} {arr:Array Value} {T:TypeId} {fz:Nat×Nat} (h:Lie w.heap b arr T fz) (hn:off+F.size≤arr.size) :
    d8 (sortWorld id w b off m F os).heap b off F.size=F.toList:=by
  simp only [d8,o6,(b4g (m:=m) (os:=os) (off:=off) (F:=F) h).1]
  apply List.ext_getElem?
  intro i
  rw [List.getElem?_take,List.getElem?_drop]
  by_cases hi:i<F.size
  · rw [if_pos hi]
    simp only [putCells,Array.getElem?_toList,Array.getElem?_mapIdx]
    rw [Array.getElem?_eq_getElem (by omega:off+i<arr.size),Option.map_some,if_pos ⟨by omega,by omega⟩,show off+i - off=i by omega,getElem!_pos F i hi,Array.getElem?_eq_getElem hi]
    rfl
  · rw [if_neg hi,List.getElem?_eq_none (by simpa using hi)]

def El (H:Array Go.Obj) (S:Nat→Prop) (t:Ty) (ok:t.den→Prop):Type:={p:List Value×t.den // d9 H S t [] p.1 p.2∧ok p.2}
def El.cs {H:Array Go.Obj} {S:Nat→Prop} {t:Ty} {ok:t.den→Prop} (x:El H S t ok):List Value:=x.1.1
def El.x {H:Array Go.Obj} {S:Nat→Prop} {t:Ty} {ok:t.den→Prop} (x:El H S t ok):t.den:=x.1.2

section
variable {H H':Array Go.Obj} {S S':Nat→Prop} {t:Ty} {ok:t.den→Prop}
theorem El.len (x:El H S t ok):x.cs.length=t.size:=x.2.1.length

theorem b4T (ht:t.shared=true):∀ {l:List t.den} {O:List Nat} {cs:List Value},i5 (d9 H S t) t.size O cs l→(∀ x∈l,ok x) →
    ∃ dl:List (El H S t ok),dl.map El.x=l∧(dl.map El.cs).flatten=cs
  | [],_,_,⟨_,h⟩,_=>⟨[],rfl,h.symm⟩
  | x::l,_,cs,⟨O1,O2,_,h1,h2⟩,hk=>by
    have:=h1.F4 ht
    subst this
    obtain ⟨dl,e1,e2⟩:=b4T ht h2 (fun y hy=>hk y (by simp [hy]))
    let y:El H S t ok:=⟨(cs.take t.size,x),h1,hk x (by simp)⟩
    refine ⟨y::dl,by rw [List.map_cons,e1]; rfl,?_⟩
    rw [List.map_cons,List.flatten_cons,e2]
    exact List.take_append_drop _ _

theorem b4t (hs:∀ {cs:List Value} {x:t.den},d9 H S t [] cs x→d9 H' S' t [] cs x):∀ (dl:List (El H S t ok)),i5 (d9 H' S' t) t.size [] (dl.map El.cs).flatten (dl.map El.x)
  | []=>⟨rfl,rfl⟩
  | x::dl=>by
    refine ⟨[],[],rfl,?_,?_⟩
    · rw [List.map_cons,List.flatten_cons,List.take_append_of_le_length (by rw [x.len]; exact Nat.le_refl _),List.take_of_length_le (by rw [x.len]; exact Nat.le_refl _)]
      exact hs x.2.1
    · rw [List.map_cons,List.flatten_cons,List.drop_append_of_le_length (by rw [x.len]; exact Nat.le_refl _),List.drop_of_length_le (by rw [x.len]; exact Nat.le_refl _),List.nil_append]
      exact b4t hs dl

theorem b5S (dl:List (El H S t ok)):(dl.map El.cs).flatten.length=dl.length*t.size:=by
  induction dl with
  | nil=>simp
  | cons x dl ih=>rw [List.map_cons,List.flatten_cons,List.length_append,ih,x.len,List.length_cons,Nat.succ_mul]; omega
end

section
variable {P:Program} {t:Ty} {g:Nat} {cf:t.den→t.den→Int} {ok:t.den→Prop}

theorem b5u {w:World} {S:Nat→Prop} {b off cap:Nat} {l:List t.den} (hS:∀ c,S c→c<w.heap.size) (hbS:¬ S b) (hfree:M1 t.isB w.heap b (off+cap*t.size)) (hl:l.length≤cap) (hcm:a5B true cap)
    (hO:SWO (ltD cf)) (ht:∀ a∈l,∀ b∈l,ltD cf a b=false→ltD cf b a=false→a=b) {dl dl':List (El w.heap S t ok)} (hd:dl.map El.x=l) (hp:dl'.Perm dl)
    (hs:dl'.Pairwise (fun x y=>ltD cf y.x x.x=false)) (m:Nat) (os:Array Obj) :
    w8 [b] w (sortWorld id w b off m (dl'.map El.cs).flatten.toArray os)∧b<(sortWorld id w b off m (dl'.map El.cs).flatten.toArray os).heap.size ∧
    d9 (sortWorld id w b off m (dl'.map El.cs).flatten.toArray os).heap S (.d0 true t) [b] [.slice (some ⟨b,off,none⟩) l.length cap] (T9 (ltD cf) l):=by
  have hpast:=b6H (w:=w) (b:=b) (off:=off) (m:=m) (F:=(dl'.map El.cs).flatten.toArray) (os:=os)
  have hlen:dl'.length=l.length:=by rw [hp.length_eq,← hd,List.length_map]
  have hFs:(dl'.map El.cs).flatten.toArray.size=l.length*t.size:=by rw [List.size_toArray,b5S,hlen]
  have hle:l.length*t.size≤cap*t.size:=Nat.mul_le_mul_right _ hl
  have hxs:dl'.map El.x=T9 (ltD cf) l:=by
    refine a2A hO (hd▸hp.map El.x) ?_ ht
    rw [List.pairwise_map]
    exact hs
  obtain ⟨arr,T,⟨fz,hlie0,hef⟩,hn⟩:=hfree
  have hlie:Lie w.heap b arr T fz:=⟨hlie0,hef.imp id (·.2)⟩
  have hcell:=b5q (m:=m) (os:=os) (F:=(dl'.map El.cs).flatten.toArray) hlie (off:=off) (by rw [hFs]; omega)
  have hb:b<w.heap.size:=(Array.getElem?_eq_some_iff.1 hlie.1).1
  have hfr:M1 t.isB (sortWorld id w b off m (dl'.map El.cs).flatten.toArray os).heap b (off+cap*t.size):=⟨_,T,⟨fz,(b4g hlie).1,hef.imp id (fun h=>⟨h.1,by simpa [putCells] using h.2⟩)⟩,by simpa [putCells] using hn⟩
  have hsl:(T9 (ltD cf) l).length=l.length:=(W9 _ l).length_eq
  refine ⟨hpast,Nat.lt_of_lt_of_le hb hpast.size,.inr ⟨b,off,cap,[],by rw [hsl],by rw [hsl]; exact hl,hcm,?_,?_,rfl,hfr⟩⟩
  · have:=hfr.free.o6
    rw [hsl]; omega
  · rw [hsl,← hFs,hcell,← hxs]
    refine b4t (fun {cs x} hr=>hr.o4 (fun c hc=>?_) (fun _ h=>h)) dl'
    have hc:S c:=hc.elim (fun h=>by cases h) id
    exact hpast.frame c (hS c hc) (by rintro h; simp at h; subst h; exact hbS hc)

theorem b4i {w w':World} {S:Nat→Prop} {b off cap n:Nat} {l:List t.den} (hbS:¬ S b) (h:w8 [b] w w'∧b<w'.heap.size∧d9 w'.heap S (.d0 true t) [b] [.slice (some ⟨b,off,none⟩) n cap] (T9 (ltD cf) l)) :
    a0V w S [] [.mu t] [.slice (some ⟨b,off,none⟩) n cap] [b] () (T9 (ltD cf) l,()) (.returned (.tuple #[])) w':=by
  refine ⟨[],[],[b],S,rfl,h.1,fun _ h=>h,fun _ h=>.inl h,⟨rfl,rfl⟩,⟨_,[b],[],[],rfl,rfl,h.2.2,rfl,⟨rfl,rfl⟩⟩,by simp,?_⟩
  intro c hc
  simp at hc; subst hc
  exact ⟨hbS,.inr (by simp),h.2.1⟩

end

theorem a9A {α:Type} [Inhabited α] (enc:α→Value) (off:Nat) (d:Array α) (c:Array Value):putCells enc off d c=putCells id off (d.map enc) c:=by
  apply Array.ext_getElem?
  intro k
  simp only [putCells,Array.getElem?_mapIdx,Array.size_map,id]
  cases c[k]? with
  | none=>rfl
  | some v =>
    simp only [Option.map_some]
    by_cases h:off≤k∧k<off+d.size
    · rw [if_pos h,if_pos h,getElem!_pos d _ (by omega),getElem!_pos (d.map enc) _ (by rw [Array.size_map]; omega),Array.getElem_map]
    · rw [if_neg h,if_neg h]

theorem b7v {α:Type} [Inhabited α] (enc:α→Value) (w:World) (b off m:Nat) (d:Array α) (os:Array Obj):sortWorld enc w b off m d os=sortWorld id w b off m (d.map enc) os:=by
  unfold sortWorld putRow
  rw [show putCells enc off d=putCells id off (d.map enc) from funext (a9A enc off d)]

theorem holds_of {w:World} {b off:Nat} {F:Array Value} {arr:Array Value} {T:TypeId} {fz:Nat×Nat} (h:Lie w.heap b arr T fz) (hn:off+F.size≤arr.size) (hc:d8 w.heap b off F.size=F.toList):Holds id w b off F:=by
  intro j hj
  refine ⟨?_,?_⟩
  · refine G2 (n:=F.size) ?_
    rw [hc,Array.getElem?_toList,getElem!_pos F j hj,Array.getElem?_eq_getElem hj]; rfl
  · simp only [World.frozen?,h.1]
    rcases h.2 with e|e
    · subst e; simp
    · simp only [Bool.and_eq_false_imp,decide_eq_true_eq,decide_eq_false_iff_not]
      intro h1; omega

theorem b4K {α:Type} [Inhabited α] {enc:α→Value} {w:World} {b off:Nat} {d:Array α} (h:Holds id w b off (d.map enc)):Holds enc w b off d:=by
  intro j hj
  have:=h j (by simpa using hj)
  rwa [getElem!_pos (d.map enc) j (by simpa using hj),Array.getElem_map,← getElem!_pos d j hj] at this

end Go.Ex
