/- slices.SortFunc as a contract of the evaluator, out of the library's own contract: elements of one cell, and structs. Condition: what the contract asks (the elements shared, cmp's own contract, ties are equal). -/
import Derived.Test.YtekbamiaenbhjaaExW
import Derived.Shelf.SlSortCmp.NoneTotal
namespace Go.Ex
open Go.Sort Go.Proofs

theorem A4.grown {w w':World} (h:A4 [] w w'):∃ q os,w'=grow (w.drewN q) os:=by
  obtain ⟨h1,h2,h3,h4,h5⟩:=h
  refine ⟨w'.drawn - w.drawn,w'.heap.extract w.heap.size w'.heap.size,?_⟩
  have e4:w.drawn+(w'.drawn - w.drawn)=w'.drawn:=by have:=h2.2; omega
  have e5:w.heap++w'.heap.extract w.heap.size w'.heap.size=w'.heap:=by
    apply Array.ext_getElem?
    intro k
    rw [Array.getElem?_append]
    by_cases hk:k<w.heap.size
    · rw [if_pos hk,h5 k hk (by simp)]
    · rw [if_neg hk,Array.getElem?_extract]
      by_cases hk2:k<w'.heap.size
      · rw [if_pos (by omega)]; congr 1; omega
      · rw [if_neg (by omega),Array.getElem?_eq_none (by omega)]
  have e1:=h2.1
  cases w; cases w'
  simp only [grow,World.drewN] at *
  subst h1 e1 h3
  rw [e4,e5]

theorem b3y {w:World} {b off m:Nat} {F:Array Value} {os:Array Obj}:A4 [b] w (sortWorld id w b off m F os):=by
  refine ⟨rfl,⟨rfl,Nat.le_add_right _ _⟩,rfl,?_,?_⟩
  · show w.heap.size≤((mapBlock (Sort.ahead w m) b _).heap++os).size
    simp [mapBlock,Sort.ahead]
  · intro c hc hn
    show ((mapBlock (Sort.ahead w m) b _).heap++os)[c]?=_
    have hcb:b≠c:=fun e=>hn (by simp [e])
    rw [Array.getElem?_append,if_pos (by simpa [mapBlock,Sort.ahead] using hc)]
    simp only [mapBlock,Sort.ahead,Array.getElem?_modify,if_neg hcb]

theorem b6x {w:World} {b off m:Nat} {F:Array Value} {os:Array Obj} {arr:Array Value} {T:TypeId} {fz:Nat×Nat} (h:Lie w.heap b arr T fz) :
    Lie (sortWorld id w b off m F os).heap b (putCells id off F arr) T fz:=by
  have hb:b<w.heap.size:=(Array.getElem?_eq_some_iff.1 h.1).1
  refine ⟨?_,h.2.imp id (fun h=>by simpa [putCells] using h)⟩
  show ((mapBlock (Sort.ahead w m) b _).heap++os)[b]?=_
  rw [Array.getElem?_append,if_pos (by simpa [mapBlock,Sort.ahead] using hb)]
  simp only [mapBlock,Sort.ahead,Array.getElem?_modify,if_true,h.1,Option.map_some,onCells]

theorem b7N {w:World} {b off m:Nat} {F:Array Value} {os:Array Obj} {arr:Array Value} {T:TypeId} {fz:Nat×Nat} (h:Lie w.heap b arr T fz) (hn:off+F.size≤arr.size) :
    d8 (sortWorld id w b off m F os).heap b off F.size=F.toList:=by
  simp only [d8,r8,(b6x (m:=m) (os:=os) (off:=off) (F:=F) h).1]
  apply List.ext_getElem?
  intro i
  rw [List.getElem?_take,List.getElem?_drop]
  by_cases hi:i<F.size
  · rw [if_pos hi]
    simp only [putCells,Array.getElem?_toList,Array.getElem?_mapIdx]
    rw [Array.getElem?_eq_getElem (by omega:off+i<arr.size),Option.map_some,if_pos ⟨by omega,by omega⟩,show off+i - off=i by omega,getElem!_pos F i hi,Array.getElem?_eq_getElem hi]
    rfl
  · rw [if_neg hi,List.getElem?_eq_none (by simpa using hi)]

def El (H:Array Go.Obj) (S:Nat→Prop) (t:Ty) (ok:t.den→Prop):Type:={p:List Value×t.den // f7 H S t [] p.1 p.2∧ok p.2}
def El.cs {H:Array Go.Obj} {S:Nat→Prop} {t:Ty} {ok:t.den→Prop} (x:El H S t ok):List Value:=x.1.1
def El.x {H:Array Go.Obj} {S:Nat→Prop} {t:Ty} {ok:t.den→Prop} (x:El H S t ok):t.den:=x.1.2

section
variable {H H':Array Go.Obj} {S S':Nat→Prop} {t:Ty} {ok:t.den→Prop}
theorem El.len (x:El H S t ok):x.cs.length=t.size:=x.2.1.length

theorem b7b (ht:t.shared=true):∀ {l:List t.den} {O:List Nat} {cs:List Value},i7 (f7 H S t) t.size O cs l→(∀ x∈l,ok x) →
    ∃ dl:List (El H S t ok),dl.map El.x=l∧(dl.map El.cs).flatten=cs
  | [],_,_,⟨_,h⟩,_=>⟨[],rfl,h.symm⟩
  | x::l,_,cs,⟨O1,O2,_,h1,h2⟩,hk=>by
    have:=h1.H7 ht
    subst this
    obtain ⟨dl,e1,e2⟩:=b7b ht h2 (fun y hy=>hk y (by simp [hy]))
    let y:El H S t ok:=⟨(cs.take t.size,x),h1,hk x (by simp)⟩
    refine ⟨y::dl,by rw [List.map_cons,e1]; rfl,?_⟩
    rw [List.map_cons,List.flatten_cons,e2]
    exact List.take_append_drop _ _

theorem b6K (hs:∀ {cs:List Value} {x:t.den},f7 H S t [] cs x→f7 H' S' t [] cs x):∀ (dl:List (El H S t ok)),i7 (f7 H' S' t) t.size [] (dl.map El.cs).flatten (dl.map El.x)
  | []=>⟨rfl,rfl⟩
  | x::dl=>by
    refine ⟨[],[],rfl,?_,?_⟩
    · rw [List.map_cons,List.flatten_cons,List.take_append_of_le_length (by rw [x.len]; exact Nat.le_refl _),List.take_of_length_le (by rw [x.len]; exact Nat.le_refl _)]
      exact hs x.2.1
    · rw [List.map_cons,List.flatten_cons,List.drop_append_of_le_length (by rw [x.len]; exact Nat.le_refl _),List.drop_of_length_le (by rw [x.len]; exact Nat.le_refl _),List.nil_append]
      exact b6K hs dl

theorem b8j (dl:List (El H S t ok)):(dl.map El.cs).flatten.length=dl.length*t.size:=by
  induction dl with
  | nil=>simp
  | cons x dl ih=>rw [List.map_cons,List.flatten_cons,List.length_append,ih,x.len,List.length_cons,Nat.succ_mul]; omega
end

def b6a (P:Program) (g:Nat) (t:Ty) (cf:t.den→t.den→Int) (ok:t.den→Prop):Prop :=
  (∃ fn,P.funcs[g]?=some fn∧(fn.name == "runtime.NumGoroutine")=false∧fn.body.isNone=false) ∧
  ∀ (W:World) (S:Nat→Prop) (cs ds:List Value) (x y:t.den),(∀ b,S b→b<W.heap.size)→X1 P W S→ok x→ok y→f7 W.heap S t [] cs x→f7 W.heap S t [] ds y →
    Calls P g #[j7 t cs,j7 t ds] W fun e w'=>e=.returned (.int .i64 (cf x y))∧A4 [] W w'

theorem b8p {P:Program} {g:Nat} {t:Ty} {cf:t.den→t.den→Int} {ok:t.den→Prop} {c:w6} (h:c.Valid P g) (pre:DK [.v t,.v t]→Prop) (out:DK [.v t,.v t]→DL (B1 [.v t,.v t]))
    (e:c={ ps:=[.v t,.v t],rs:=[.int .i64],pre:=pre,fn:=fun x=>(cf x.1 x.2.1,()),out:=out }) (hp:∀ x y,ok x→ok y→pre (x,y,())):b6a P g t cf ok:=by
  subst e
  refine ⟨h.ent,fun W S cs ds x y hS hgl hx hy h1 h2=>?_⟩
  refine (h.run W S [j7 t cs,j7 t ds] (x,y,()) [] hS hgl (hp x y hx hy) ⟨_,_,[],[],rfl,rfl,⟨rfl,cs,rfl,h1⟩,_,_,[],[],rfl,rfl,⟨rfl,ds,rfl,h2⟩,rfl,rfl⟩ trivial List.nodup_nil (by simp)).mono ?_
  rintro e w' ⟨us,O,Lo,S',he,hpast,-,-,hr,-⟩
  obtain ⟨v,us',O1,O2,cs',rfl,rfl,rfl,⟨-,rfl,-⟩,-,rfl⟩:=hr
  exact ⟨he,hpast⟩

def T6 {α:Type} (lt:α→α→Bool) (l:List α):List α:=l.mergeSort (fun a b=>!lt b a)

theorem a0o {α:Type} (lt:α→α→Bool) (l:List α):(T6 lt l).Perm l:=List.mergeSort_perm _ _
theorem a9A {α:Type} {lt:α→α→Bool} (h:SWO lt) (l:List α):(T6 lt l).Pairwise (fun a b=>lt b a=false):=by
  have:=List.pairwise_mergeSort (le:=fun a b=>!lt b a) (fun a b c h1 h2=>by
    simp only [Bool.not_eq_true'] at h1 h2 ⊢
    exact h.ntrans _ _ _ h2 h1) (fun a b=>by
    cases e:lt b a with
    | false=>rfl
    | true =>
      cases e2:lt a b with
      | false=>rfl
      | true=>have:=h.trans _ _ _ e e2; rw [h.irrefl] at this; cases this) l
  exact this.imp (fun h=>by simpa using h)
theorem b6B {α:Type} {lt:α→α→Bool} (h:SWO lt) {l m:List α} (hp:m.Perm l) (hs:m.Pairwise (fun a b=>lt b a=false)) (ht:∀ a∈l,∀ b∈l,lt a b=false→lt b a=false→a=b):m=T6 lt l :=
  List.Perm.eq_of_pairwise (le:=fun a b=>lt b a=false) (fun a b ha hb h1 h2=>ht a (hp.mem_iff.1 ha) b ((a0o lt l).mem_iff.1 hb) h2 h1) hs (a9A h l) (hp.trans (a0o lt l).symm)

def S6 {α:Type} (cf:α→α→Int) (a b:α):Bool:=decide (cf a b<0)

def b88 (t:Ty) (g:Nat) (cf:t.den→t.den→Int) (ok:t.den→Prop):w6 :=
  { ps:=[.mu t,.s8 g []],rs:=[],pre:=fun x=>List.length (α:=t.den) x.1≤1048576∧(∀ a∈(show List t.den from x.1),ok a)∧∀ a∈(show List t.den from x.1),∀ b∈(show List t.den from x.1),S6 cf a b=false→S6 cf b a=false→a=b,
    fn:=fun _=>(),out:=fun x=>(T6 (S6 cf) x.1,()) }

section
variable {P:Program} {t:Ty} {g:Nat} {cf:t.den→t.den→Int} {ok:t.den→Prop}

theorem b7Q {w:World} {S:Nat→Prop} {b off cap:Nat} {l:List t.den} (hS:∀ c,S c→c<w.heap.size) (hbS:¬ S b) (hfree:N2 t.isB w.heap b (off+cap*t.size)) (hl:l.length≤cap) (hcm:a5I true cap)
    (hO:SWO (S6 cf)) (ht:∀ a∈l,∀ b∈l,S6 cf a b=false→S6 cf b a=false→a=b) {dl dl':List (El w.heap S t ok)} (hd:dl.map El.x=l) (hp:dl'.Perm dl)
    (hs:dl'.Pairwise (fun x y=>S6 cf y.x x.x=false)) (m:Nat) (os:Array Obj) :
    A4 [b] w (sortWorld id w b off m (dl'.map El.cs).flatten.toArray os)∧b<(sortWorld id w b off m (dl'.map El.cs).flatten.toArray os).heap.size ∧
    f7 (sortWorld id w b off m (dl'.map El.cs).flatten.toArray os).heap S (.d0 true t) [b] [.slice (some ⟨b,off,none⟩) l.length cap] (T6 (S6 cf) l):=by
  have hpast:=b3y (w:=w) (b:=b) (off:=off) (m:=m) (F:=(dl'.map El.cs).flatten.toArray) (os:=os)
  have hlen:dl'.length=l.length:=by rw [hp.length_eq,← hd,List.length_map]
  have hFs:(dl'.map El.cs).flatten.toArray.size=l.length*t.size:=by rw [List.size_toArray,b8j,hlen]
  have hle:l.length*t.size≤cap*t.size:=Nat.mul_le_mul_right _ hl
  have hxs:dl'.map El.x=T6 (S6 cf) l:=by
    refine b6B hO (hd▸hp.map El.x) ?_ ht
    rw [List.pairwise_map]
    exact hs
  obtain ⟨arr,T,⟨fz,hlie0,hef⟩,hn⟩:=hfree
  have hlie:Lie w.heap b arr T fz:=⟨hlie0,hef.imp id (·.2)⟩
  have hcell:=b7N (m:=m) (os:=os) (F:=(dl'.map El.cs).flatten.toArray) hlie (off:=off) (by rw [hFs]; omega)
  have hb:b<w.heap.size:=(Array.getElem?_eq_some_iff.1 hlie.1).1
  have hfr:N2 t.isB (sortWorld id w b off m (dl'.map El.cs).flatten.toArray os).heap b (off+cap*t.size):=⟨_,T,⟨fz,(b6x hlie).1,hef.imp id (fun h=>⟨h.1,by simpa [putCells] using h.2⟩)⟩,by simpa [putCells] using hn⟩
  have hsl:(T6 (S6 cf) l).length=l.length:=(a0o _ l).length_eq
  refine ⟨hpast,Nat.lt_of_lt_of_le hb hpast.size,.inr ⟨b,off,cap,[],by rw [hsl],by rw [hsl]; exact hl,hcm,?_,?_,rfl,hfr⟩⟩
  · have:=hfr.free.r8
    rw [hsl]; omega
  · rw [hsl,← hFs,hcell,← hxs]
    refine b6K (fun {cs x} hr=>hr.q9 (fun c hc=>?_) (fun _ h=>h)) dl'
    have hc:S c:=hc.elim (fun h=>by cases h) id
    exact hpast.frame c (hS c hc) (by rintro h; simp at h; subst h; exact hbS hc)

theorem b7R {w w':World} {S:Nat→Prop} {b off cap n:Nat} {l:List t.den} (hbS:¬ S b) {fv:Value} (h:A4 [b] w w'∧b<w'.heap.size∧f7 w'.heap S (.d0 true t) [b] [.slice (some ⟨b,off,none⟩) n cap] (T6 (S6 cf) l)) (g:Nat) :
    a0y w S [] [.mu t,.s8 g []] [.slice (some ⟨b,off,none⟩) n cap,fv] [b] () (T6 (S6 cf) l,()) (.returned (.tuple #[])) w':=by
  refine ⟨[],[],[b],S,rfl,h.1,fun _ h=>h,fun _ h=>.inl h,⟨rfl,rfl⟩,⟨_,[b],[fv],[],rfl,rfl,h.2.2,rfl,⟨fv,[],rfl,rfl,rfl⟩⟩,by simp,?_⟩
  intro c hc
  simp at hc; subst hc
  exact ⟨hbS,.inr (by simp),h.2.1⟩

theorem c0R {H:Array Go.Obj} {S:Nat→Prop} (hO:SWO (S6 cf)):SWO (Go.Proofs.ltOf (fun x y:El H S t ok=>cf x.x y.x)) :=
  ⟨fun x=>hO.irrefl x.x,fun x y z=>hO.trans x.x y.x z.x,fun x y z=>hO.ntrans x.x y.x z.x⟩

theorem c1b (hc:b6a P g t cf ok) {w:World} {S:Nat→Prop} {b off:Nat} (hS:∀ c,S c→c<w.heap.size) (hgl:X1 P w S) (hbS:¬ S b) (m:Nat) (os:Array Obj) (F:Array Value) (x y:El w.heap S t ok) :
    Calls P g #[j7 t x.cs,j7 t y.cs] (sortWorld id w b off m F os) fun e w'=>e=.returned (.int .i64 (cf x.x y.x))∧∃ q os',w'=grow ((sortWorld id w b off m F os).drewN q) os':=by
  have hpast:=b3y (w:=w) (b:=b) (off:=off) (m:=m) (F:=F) (os:=os)
  have hst:∀ z:El w.heap S t ok,f7 (sortWorld id w b off m F os).heap S t [] z.cs z.x:=fun z=>z.2.1.q9 (fun c hc=>by
    have hc:S c:=hc.elim (fun h=>by cases h) id
    exact hpast.frame c (hS c hc) (by rintro h; simp at h; subst h; exact hbS hc)) (fun _ h=>h)
  exact (hc.2 _ S x.cs y.cs x.x y.x (fun c h=>Nat.lt_of_lt_of_le (hS c h) hpast.size) (hgl.mono (fun c hc=>hpast.frame c (hS c hc) (by rintro h; simp at h; subst h; exact hbS hc)) (fun _ h=>h)) x.2.2 y.2.2 (hst x) (hst y)).mono fun e w' ⟨h1,h2⟩=>⟨h1,h2.grown⟩
end

theorem holds_of {w:World} {b off:Nat} {F:Array Value} {arr:Array Value} {T:TypeId} {fz:Nat×Nat} (h:Lie w.heap b arr T fz) (hn:off+F.size≤arr.size) (hc:d8 w.heap b off F.size=F.toList):Holds id w b off F:=by
  intro j hj
  refine ⟨?_,?_⟩
  · refine J8 (n:=F.size) ?_
    rw [hc,Array.getElem?_toList,getElem!_pos F j hj,Array.getElem?_eq_getElem hj]; rfl
  · simp only [World.frozen?,h.1]
    rcases h.2 with e|e
    · subst e; simp
    · simp only [Bool.and_eq_false_imp,decide_eq_true_eq,decide_eq_false_iff_not]
      intro h1; omega

theorem b7Z {α:Type} [Inhabited α] {lt:α→α→Bool} {d:Array α} (h:SortedIn lt 0 d.size d):d.toList.Pairwise (fun x y=>lt y x=false):=by
  rw [List.pairwise_iff_getElem]
  intro i j hi hj hij
  have:=h i j (Nat.zero_le _) hij (by simpa using hj)
  rw [getElem!_pos d j (by simpa using hj),getElem!_pos d i (by simpa using hi)] at this
  simpa using this

theorem b9U {α:Type} [Inhabited α] {d d':Array α} (h:PermIn 0 d.size d d'):d'.toList.Perm d.toList:=by
  have:=h.2.2
  have e:d'.size=d.size:=h.1
  simp only [Array.toList_extract,List.extract_eq_take_drop,Nat.sub_zero,List.drop_zero] at this
  rwa [List.take_of_length_le (by simp [e]),List.take_of_length_le (by simp)] at this
end Go.Ex
