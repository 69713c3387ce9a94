/- Contracts of slices' functions over pairs and vectors. -/
import Derived.Test.YtibpibbnnogdkaaVect
namespace Go.Proofs.Ytibpibbnnogdkaa
open Go.Ex
set_option maxRecDepth 100000
abbrev p0 : Int × Int × Unit := (0, 0, ())
def eqLV (a b : List (List Int)) : Bool := decide (a = b)
def ceqV : Ctr := { ps := [.v (.slc false Vec), .v (.slc false Vec)], rs := [.bool], pre := fun _ => True, fn := fun x => (eqLV x.1 x.2.1, ()), out := fun _ => () }
noncomputable def EeqV : Env := { P := Try.prog, tt := tt, ctr := [], res := [Go.ResultVar.tmp 4], rs := [Ty.bool], ps := [PK.v (Ty.slc false Vec), PK.v (Ty.slc false Vec)], cuts := [(4, [(0, none), (1, none), (12, none), (13, none)])], nt := 26 }
theorem EeqV_ok : EnvOk EeqV := envOk tt_ok trivial
theorem FeqV_ok : FnOk EeqV Try.f34 := ⟨rfl, rfl⟩
theorem EeqV_t (x0 : List (List Int)) (x1 : List (List Int)) : exec EeqV 1000 [.code (bodyOf Try.prog 34)] (initSt ceqV.ps ((x0, x1, ()))) =
  cond (decide ((↑(List.length x0) : Int) ≠ (↑(List.length x1) : Int))) (.ret ((false, ()))) (.cut (loopAt (bodyOf Try.prog 34) 4).1 (loopAt (bodyOf Try.prog 34) 4).2 (St.mk [(0, AV.val (Ty.slc false Vec) x0), (1, AV.val (Ty.slc false Vec) x1), (12, AV.val (Ty.int IntKind.i64) (↑(List.length x0) : Int)), (13, AV.val (Ty.int IntKind.i64) (0 : Int))] [])) := by kernel_rfl
def EeqV_s4 (v0 : List (List Int)) (v1 : List (List Int)) (v12 : Int) (v13 : Int) : St := St.mk [(0, AV.val (Ty.slc false Vec) v0), (1, AV.val (Ty.slc false Vec) v1), (12, AV.val (Ty.int IntKind.i64) v12), (13, AV.val (Ty.int IntKind.i64) v13)] []
theorem EeqV_l4 (v0 : List (List Int)) (v1 : List (List Int)) (v12 : Int) (v13 : Int) : exec EeqV 1000 (.code (loopAt (bodyOf Try.prog 34) 4).1 :: .inLoop (loopAt (bodyOf Try.prog 34) 4).1 :: (loopAt (bodyOf Try.prog 34) 4).2) (EeqV_s4 v0 v1 v12 v13) =
  cond (decide (v13 < v12)) (.need ((0 : Int) ≤ v13 ∧ v13 < (↑(List.length v0) : Int)) (.need ((0 : Int) ≤ v13 ∧ v13 < (↑(List.length v1) : Int)) (cond (!eqD Vec (List.getD v0 (Int.toNat v13) [(0 : Int), (0 : Int), (0 : Int), (0 : Int), (0 : Int), (0 : Int)]) (List.getD v1 (Int.toNat v13) [(0 : Int), (0 : Int), (0 : Int), (0 : Int), (0 : Int), (0 : Int)])) (.ret ((false, ()))) (.need (inK IntKind.i64 (v13 + (1 : Int))) (.cut (loopAt (bodyOf Try.prog 34) 4).1 (loopAt (bodyOf Try.prog 34) 4).2 (St.mk [(0, AV.val (Ty.slc false Vec) v0), (1, AV.val (Ty.slc false Vec) v1), (12, AV.val (Ty.int IntKind.i64) v12), (13, AV.val (Ty.int IntKind.i64) (v13 + (1 : Int)))] [])))))) (.ret ((true, ()))) := by kernel_rfl
theorem ceqV_valid : ceqV.Valid Try.prog 34 := by
  refine Ctr.valid_of EeqV_ok rfl rfl Try.func34 (c := bodyOf Try.prog 34) rfl rfl FeqV_ok rfl ?_
  rintro ⟨(l : List (List Int)), (m : List (List Int)), ⟨⟩⟩ - ⟨⟨hl, -⟩, -⟩
  have hl : l.length ≤ 9223372036854775807 := hl
  refine exec_sound (n := 1000) EeqV_ok FeqV_ok ?_
  refine holds_of_eq (EeqV_t l m) ?_
  simp only [holds_cond, Tree.holds, true_and, true_implies, decide_eq_true_eq, decide_eq_false_iff_not, Bool.not_eq_true', Bool.not_eq_false', Int.toNat_natCast, inK_i64, List.length_set, List.length_cons, List.length_nil]
  have no : l ≠ m → ((false, ()) : Bool × Unit) = (eqLV l m, ()) := fun h => by rw [eqLV, decide_eq_false h]
  refine ⟨fun a => no (fun h => a (by rw [h])), fun a => ?_⟩
  have a : l.length = m.length := by omega
  refine Reach.loopI EeqV_ok FeqV_ok (fun i : Nat => EeqV_s4 l m (l.length : Int) (i : Int)) (fun i => i ≤ l.length ∧ ∀ j, j < i → l.getD j v0 = m.getD j v0)
    (fun i => l.length - i) 1000 (fun _ => ⟨uniq_of rfl, uniq_of rfl⟩) ?_ 0 ⟨by omega, fun j h => by omega⟩
  rintro i ⟨k1, k2⟩ - ih
  refine holds_of_eq (EeqV_l4 ..) ?_
  rw [show eqD (Ty.arr 6 (Ty.int IntKind.i64)) (l.getD (Int.toNat i) v0) (m.getD (Int.toNat i) v0) = decide (l.getD (Int.toNat i) v0 = m.getD (Int.toNat i) v0) from eqDL_iff]
  simp only [holds_cond, Tree.holds, true_and, true_implies, decide_eq_true_eq, decide_eq_false_iff_not, Bool.not_eq_true', Bool.not_eq_false', Int.toNat_natCast, inK_i64, List.length_set, List.length_cons, List.length_nil]
  refine ⟨fun b => ⟨by omega, fun _ => ⟨by omega, fun _ => ⟨fun c => no (fun h => c (by rw [h])), fun c => ⟨by omega, fun _ => ih (i + 1) ⟨by omega, fun j hj => ?_⟩ (by omega)⟩⟩⟩⟩, fun b => ?_⟩
  · by_cases e : j = i
    · subst e; exact c
    · exact k2 j (by omega)
  · show ((true, ()) : Bool × Unit) = (eqLV l m, ())
    rw [eqLV, decide_eq_true (eq_of_getD a (fun j hj => k2 j (by omega)))]

abbrev PD := Int × Int × Unit
theorem pd_eta (x : PD) : x = (x.1, x.2.1, ()) := rfl
def eqLP (a b : List PD) : Bool := decide (a = b)
def ceqP : Ctr := { ps := [.v (.slc false PairT), .v (.slc false PairT)], rs := [.bool], pre := fun _ => True, fn := fun x => (eqLP x.1 x.2.1, ()), out := fun _ => () }
noncomputable def EeqP : Env := { P := Try.prog, tt := tt, ctr := [], res := [Go.ResultVar.tmp 4], rs := [Ty.bool], ps := [PK.v (Ty.slc false PairT), PK.v (Ty.slc false PairT)], cuts := [(4, [(0, none), (1, none), (12, none), (13, none)])], nt := 26 }
theorem EeqP_ok : EnvOk EeqP := envOk tt_ok trivial
theorem FeqP_ok : FnOk EeqP Try.f35 := ⟨rfl, rfl⟩
theorem EeqP_t (x0 : List (Int × Int × Unit)) (x1 : List (Int × Int × Unit)) : exec EeqP 1000 [.code (bodyOf Try.prog 35)] (initSt ceqP.ps ((x0, x1, ()))) =
  cond (decide ((↑(List.length x0) : Int) ≠ (↑(List.length x1) : Int))) (.ret ((false, ()))) (.cut (loopAt (bodyOf Try.prog 35) 4).1 (loopAt (bodyOf Try.prog 35) 4).2 (St.mk [(0, AV.val (Ty.slc false PairT) x0), (1, AV.val (Ty.slc false PairT) x1), (12, AV.val (Ty.int IntKind.i64) (↑(List.length x0) : Int)), (13, AV.val (Ty.int IntKind.i64) (0 : Int))] [])) := by kernel_rfl
def EeqP_s4 (v0 : List (Int × Int × Unit)) (v1 : List (Int × Int × Unit)) (v12 : Int) (v13 : Int) : St := St.mk [(0, AV.val (Ty.slc false PairT) v0), (1, AV.val (Ty.slc false PairT) v1), (12, AV.val (Ty.int IntKind.i64) v12), (13, AV.val (Ty.int IntKind.i64) v13)] []
theorem EeqP_l4 (v0 : List (Int × Int × Unit)) (v1 : List (Int × Int × Unit)) (v12 : Int) (v13 : Int) : exec EeqP 1000 (.code (loopAt (bodyOf Try.prog 35) 4).1 :: .inLoop (loopAt (bodyOf Try.prog 35) 4).1 :: (loopAt (bodyOf Try.prog 35) 4).2) (EeqP_s4 v0 v1 v12 v13) =
  cond (decide (v13 < v12)) (.need ((0 : Int) ≤ v13 ∧ v13 < (↑(List.length v0) : Int)) (.need ((0 : Int) ≤ v13 ∧ v13 < (↑(List.length v1) : Int)) (cond (!eqD PairT (List.getD v0 (Int.toNat v13) ((0 : Int), (0 : Int), ())) (List.getD v1 (Int.toNat v13) ((0 : Int), (0 : Int), ()))) (.ret ((false, ()))) (.need (inK IntKind.i64 (v13 + (1 : Int))) (.cut (loopAt (bodyOf Try.prog 35) 4).1 (loopAt (bodyOf Try.prog 35) 4).2 (St.mk [(0, AV.val (Ty.slc false PairT) v0), (1, AV.val (Ty.slc false PairT) v1), (12, AV.val (Ty.int IntKind.i64) v12), (13, AV.val (Ty.int IntKind.i64) (v13 + (1 : Int)))] [])))))) (.ret ((true, ()))) := by kernel_rfl

theorem eqPair_iff {x y : PD} : eqD (Ty.pair I64 (Ty.pair I64 Ty.unit)) x y = decide (x = y) := by
  obtain ⟨a, b, ⟨⟩⟩ := x
  obtain ⟨c, d, ⟨⟩⟩ := y
  show (decide (a = c) && (decide (b = d) && true)) = _
  by_cases e : a = c <;> by_cases e2 : b = d <;> simp [e, e2]
theorem ceqP_valid : ceqP.Valid Try.prog 35 := by
  refine Ctr.valid_of EeqP_ok rfl rfl Try.func35 (c := bodyOf Try.prog 35) rfl rfl FeqP_ok rfl ?_
  rintro ⟨(l : List PD), (m : List PD), ⟨⟩⟩ - ⟨⟨hl, -⟩, -⟩
  have hl : l.length ≤ 9223372036854775807 := hl
  refine exec_sound (n := 1000) EeqP_ok FeqP_ok ?_
  refine holds_of_eq (EeqP_t l m) ?_
  simp only [holds_cond, Tree.holds, true_and, true_implies, decide_eq_true_eq, decide_eq_false_iff_not, Bool.not_eq_true', Bool.not_eq_false', Int.toNat_natCast, inK_i64, List.length_set, List.length_cons, List.length_nil]
  have no : l ≠ m → ((false, ()) : Bool × Unit) = (eqLP l m, ()) := fun h => by rw [eqLP, decide_eq_false h]
  refine ⟨fun a => no (fun h => a (by rw [h])), fun a => ?_⟩
  have a : l.length = m.length := by omega
  refine Reach.loopI EeqP_ok FeqP_ok (fun i : Nat => EeqP_s4 l m (l.length : Int) (i : Int)) (fun i => i ≤ l.length ∧ ∀ j, j < i → l.getD j p0 = m.getD j p0)
    (fun i => l.length - i) 1000 (fun _ => ⟨uniq_of rfl, uniq_of rfl⟩) ?_ 0 ⟨by omega, fun j h => by omega⟩
  rintro i ⟨k1, k2⟩ - ih
  refine holds_of_eq (EeqP_l4 ..) ?_
  rw [show eqD (Ty.pair (Ty.int IntKind.i64) (Ty.pair (Ty.int IntKind.i64) Ty.unit)) (l.getD (Int.toNat i) p0) (m.getD (Int.toNat i) p0) = decide (l.getD (Int.toNat i) p0 = m.getD (Int.toNat i) p0) from eqPair_iff]
  simp only [holds_cond, Tree.holds, true_and, true_implies, decide_eq_true_eq, decide_eq_false_iff_not, Bool.not_eq_true', Bool.not_eq_false', Int.toNat_natCast, inK_i64, List.length_set, List.length_cons, List.length_nil]
  refine ⟨fun b => ⟨by omega, fun _ => ⟨by omega, fun _ => ⟨fun c => no (fun h => c (by rw [h])), fun c => ⟨by omega, fun _ => ih (i + 1) ⟨by omega, fun j hj => ?_⟩ (by omega)⟩⟩⟩⟩, fun b => ?_⟩
  · by_cases e : j = i
    · subst e; exact c
    · exact k2 j (by omega)
  · show ((true, ()) : Bool × Unit) = (eqLP l m, ())
    rw [eqLP, decide_eq_true (eq_of_getD a (fun j hj => k2 j (by omega)))]

def idxGo {α : Type} (p : α → Bool) : List α → Nat → Int
  | [], _ => -1
  | x :: l, i => if p x = true then (i : Int) else idxGo p l (i + 1)
def idxOf {α : Type} (p : α → Bool) (l : List α) : Int := idxGo p l 0
theorem idxGo_iff {α : Type} {p : α → Bool} : ∀ {l : List α} {i : Nat}, 0 ≤ idxGo p l i ↔ ∃ x ∈ l, p x = true
  | [], i => by simp [idxGo]
  | x :: l, i => by
    simp only [idxGo]
    split
    · rename_i h; exact ⟨fun _ => ⟨x, by simp, h⟩, fun _ => by omega⟩
    · rename_i h
      rw [idxGo_iff]
      constructor
      · rintro ⟨y, h1, h2⟩; exact ⟨y, by simp [h1], h2⟩
      · rintro ⟨y, h1, h2⟩
        rcases List.mem_cons.1 h1 with rfl | h1
        · exact absurd h2 h
        · exact ⟨y, h1, h2⟩
def idxP (l : List PD) (x : PD) : Int := idxOf (fun y => decide (x = y)) l
def cidxP : Ctr := { ps := [.v (.slc false PairT), .v PairT], rs := [I64], pre := fun _ => True, fn := fun x => (idxP x.1 x.2.1, ()), out := fun _ => () }
noncomputable def EidxP : Env := { P := Try.prog, tt := tt, ctr := [], res := [Go.ResultVar.tmp 4], rs := [Ty.int IntKind.i64], ps := [PK.v (Ty.slc false PairT), PK.v PairT], cuts := [(2, [(0, none), (3, none), (7, none), (8, none)])], nt := 19 }
theorem EidxP_ok : EnvOk EidxP := envOk tt_ok trivial
theorem FidxP_ok : FnOk EidxP Try.f59 := ⟨rfl, rfl⟩
theorem EidxP_t (x0 : List (Int × Int × Unit)) (x1_1 : Int) (x1_2_1 : Int) : exec EidxP 1000 [.code (bodyOf Try.prog 59)] (initSt cidxP.ps ((x0, (x1_1, x1_2_1, ()), ()))) =
  .cut (loopAt (bodyOf Try.prog 59) 2).1 (loopAt (bodyOf Try.prog 59) 2).2 (St.mk [(0, AV.val (Ty.slc false PairT) x0), (3, AV.ptr 3 []), (7, AV.val (Ty.int IntKind.i64) (↑(List.length x0) : Int)), (8, AV.val (Ty.int IntKind.i64) (0 : Int))] [(3, Ent.var PairT (x1_1, x1_2_1, ()))]) := by kernel_rfl
def EidxP_s2 (v0 : List (Int × Int × Unit)) (v7 : Int) (v8 : Int) (o3_1 : Int) (o3_2_1 : Int) : St := St.mk [(0, AV.val (Ty.slc false PairT) v0), (3, AV.ptr 3 []), (7, AV.val (Ty.int IntKind.i64) v7), (8, AV.val (Ty.int IntKind.i64) v8)] [(3, Ent.var PairT (o3_1, o3_2_1, ()))]
theorem EidxP_l2 (v0 : List (Int × Int × Unit)) (v7 : Int) (v8 : Int) (o3_1 : Int) (o3_2_1 : Int) : exec EidxP 1000 (.code (loopAt (bodyOf Try.prog 59) 2).1 :: .inLoop (loopAt (bodyOf Try.prog 59) 2).1 :: (loopAt (bodyOf Try.prog 59) 2).2) (EidxP_s2 v0 v7 v8 o3_1 o3_2_1) =
  cond (decide (v8 < v7)) (.need ((0 : Int) ≤ v8 ∧ v8 < (↑(List.length v0) : Int)) (cond (eqD PairT (o3_1, o3_2_1, ()) (List.getD v0 (Int.toNat v8) ((0 : Int), (0 : Int), ()))) (.ret ((v8, ()))) (.need (inK IntKind.i64 (v8 + (1 : Int))) (.cut (loopAt (bodyOf Try.prog 59) 2).1 (loopAt (bodyOf Try.prog 59) 2).2 (St.mk [(0, AV.val (Ty.slc false PairT) v0), (3, AV.ptr 3 []), (7, AV.val (Ty.int IntKind.i64) v7), (8, AV.val (Ty.int IntKind.i64) (v8 + (1 : Int)))] [(3, Ent.var PairT (o3_1, o3_2_1, ()))]))))) (.ret (((-1 : Int), ()))) := by kernel_rfl
theorem cidxP_valid : cidxP.Valid Try.prog 59 := by
  refine Ctr.valid_of EidxP_ok rfl rfl Try.func59 (c := bodyOf Try.prog 59) rfl rfl FidxP_ok rfl ?_
  rintro ⟨(l : List PD), ⟨(a : Int), (b : Int), ⟨⟩⟩, ⟨⟩⟩ - ⟨⟨hl, -⟩, -⟩
  have hl : l.length ≤ 9223372036854775807 := hl
  refine exec_sound (n := 1000) EidxP_ok FidxP_ok ?_
  refine holds_of_eq (EidxP_t l a b) ?_
  refine Reach.loopI EidxP_ok FidxP_ok (fun i : Nat => EidxP_s2 l (l.length : Int) (i : Int) a b) (fun i => i ≤ l.length ∧ idxP l (a, b, ()) = idxGo (fun y => decide ((a, b, ()) = y)) (l.drop i) i)
    (fun i => l.length - i) 1000 (fun _ => ⟨uniq_of rfl, uniq_of rfl⟩) ?_ 0 ⟨by omega, rfl⟩
  rintro i ⟨k1, k2⟩ - ih
  refine holds_of_eq (EidxP_l2 ..) ?_
  rw [show eqD (Ty.pair (Ty.int IntKind.i64) (Ty.pair (Ty.int IntKind.i64) Ty.unit)) (a, b, ()) (l.getD (Int.toNat i) p0) = decide ((a, b, ()) = l.getD (Int.toNat i) p0) from eqPair_iff]
  simp only [holds_cond, Tree.holds, true_and, true_implies, decide_eq_true_eq, decide_eq_false_iff_not, Bool.not_eq_true', Bool.not_eq_false', Int.toNat_natCast, inK_i64, List.length_set, List.length_cons, List.length_nil]
  refine ⟨fun h => ?_, fun h => ?_⟩
  · rw [drop_getD (show i < l.length by omega) p0, idxGo] at k2
    refine ⟨by omega, fun _ => ⟨fun c => ?_, fun c => ⟨by omega, fun _ => ih (i + 1) ⟨by omega, ?_⟩ (by omega)⟩⟩⟩
    · show (((i : Int), ()) : Int × Unit) = (idxP l (a, b, ()), ())
      rw [k2, if_pos (by simpa using c)]
    · rw [k2, if_neg (by simpa using c)]
  · rw [List.drop_eq_nil_of_le (by omega)] at k2
    show (((-1 : Int), ()) : Int × Unit) = (idxP l (a, b, ()), ())
    rw [k2]; rfl
def containsP (l : List PD) (x : PD) : Bool := decide (x ∈ l)
def ccontP : Ctr := { ps := [.v (.slc false PairT), .v PairT], rs := [.bool], pre := fun _ => True, fn := fun x => (containsP x.1 x.2.1, ()), out := fun _ => () }
noncomputable def EcontP : Env := { P := Try.prog, tt := tt, ctr := [(59, cidxP)], res := [Go.ResultVar.tmp 4], rs := [Ty.bool], ps := [PK.v (Ty.slc false PairT), PK.v PairT], cuts := [], nt := 9 }
theorem EcontP_ok : EnvOk EcontP := envOk tt_ok ⟨cidxP_valid, trivial⟩
theorem FcontP_ok : FnOk EcontP Try.f43 := ⟨rfl, rfl⟩
theorem EcontP_t (x0 : List (Int × Int × Unit)) (x1_1 : Int) (x1_2_1 : Int) : exec EcontP 1000 [.code (bodyOf Try.prog 43)] (initSt ccontP.ps ((x0, (x1_1, x1_2_1, ()), ()))) =
  .need (True) (.ret ((decide ((0 : Int) ≤ idxP x0 (x1_1, x1_2_1, ())), ()))) := by kernel_rfl
theorem ccontP_valid : ccontP.Valid Try.prog 43 := by
  refine Ctr.valid_of EcontP_ok rfl rfl Try.func43 (c := bodyOf Try.prog 43) rfl rfl FcontP_ok rfl ?_
  rintro ⟨(l : List PD), ⟨(a : Int), (b : Int), ⟨⟩⟩, ⟨⟩⟩ - -
  refine exec_sound (n := 1000) EcontP_ok FcontP_ok ?_
  refine holds_of_eq (EcontP_t l a b) ?_
  refine ⟨trivial, fun _ => ?_⟩
  show ((decide (0 ≤ idxP l (a, b, ())), ()) : Bool × Unit) = (decide ((a, b, ()) ∈ l), ())
  have : (0 ≤ idxP l (a, b, ())) ↔ (a, b, ()) ∈ l := by
    rw [idxP, idxOf, idxGo_iff]
    constructor
    · rintro ⟨x, h1, h2⟩; rw [of_decide_eq_true h2]; exact h1
    · intro h; exact ⟨_, h, decide_eq_true rfl⟩
  rw [decide_eq_decide.2 this]

def longB (k : Int) (s : List Int) (n : Int) (x : PD) : Bool := decide (x.2.1 = k) && decide (s.getD x.1.toNat 0 = n - 1)
def longPre (x : PD × Int × List Int × Int × Unit) : Prop := 0 ≤ x.1.1 ∧ x.1.1 < x.2.2.1.length ∧ inK .i64 (x.2.2.2.1 - 1)
def longFn (x : PD × Int × List Int × Int × Unit) : Bool × Unit := (longB x.2.1 x.2.2.1 x.2.2.2.1 x.1, ())
def clong : Ctr := { ps := [.v PairT, .rd I64, .rd (.slc false I64), .rd I64], rs := [.bool], pre := fun x => longPre x, fn := fun x => longFn x, out := fun _ => () }
noncomputable def Elong : Env := { P := Try.prog, tt := tt, ctr := [], res := [Go.ResultVar.tmp 5], rs := [Ty.bool], ps := [PK.v PairT, PK.rd (Ty.int IntKind.i64), PK.rd (Ty.slc false (Ty.int IntKind.i64)), PK.rd (Ty.int IntKind.i64)], cuts := [], nt := 20 }
theorem Elong_ok : EnvOk Elong := envOk tt_ok trivial
theorem Flong_ok : FnOk Elong Try.f37 := ⟨rfl, rfl⟩
theorem Elong_t (x0_1 : Int) (x0_2_1 : Int) (x1 : Int) (x2 : List Int) (x3 : Int) : exec Elong 1000 [.code (bodyOf Try.prog 37)] (initSt clong.ps (((x0_1, x0_2_1, ()), x1, x2, x3, ()))) =
  cond (decide (x0_2_1 = x1)) (.need ((0 : Int) ≤ x0_1 ∧ x0_1 < (↑(List.length x2) : Int)) (.need (inK IntKind.i64 (x3 - (1 : Int))) (.ret ((decide (List.getD x2 (Int.toNat x0_1) (0 : Int) = x3 - (1 : Int)), ()))))) (.ret ((false, ()))) := by kernel_rfl
theorem clong_valid : clong.Valid Try.prog 37 := by
  refine Ctr.valid_of Elong_ok rfl rfl Try.func37 (c := bodyOf Try.prog 37) rfl rfl Flong_ok rfl ?_
  rintro ⟨⟨(a : Int), (b : Int), ⟨⟩⟩, (k : Int), (s : List Int), (n : Int), ⟨⟩⟩ ⟨h1, h2, h3⟩ -
  have h1 : 0 ≤ a := h1
  have h2 : a < s.length := h2
  have h3 := inK_i64.1 h3
  refine exec_sound (n := 1000) Elong_ok Flong_ok ?_
  refine holds_of_eq (Elong_t a b k s n) ?_
  simp only [holds_cond, Tree.holds, true_and, true_implies, decide_eq_true_eq, decide_eq_false_iff_not, Bool.not_eq_true', Bool.not_eq_false', Int.toNat_natCast, inK_i64, List.length_set, List.length_cons, List.length_nil]
  refine ⟨fun e => ⟨by omega, fun _ => ⟨h3, fun _ => ?_⟩⟩, fun e => ?_⟩
  · show ((_, ()) : Bool × Unit) = (longB k s n (a, b, ()), ()); simp [longB, e, -List.getD_eq_getElem?_getD]
  · show ((_, ()) : Bool × Unit) = (longB k s n (a, b, ()), ()); simp [longB, e]
abbrev LongX := List PD × (Int × List Int × Int × Unit) × Unit
def longIPre (x : LongX) : Prop := (∀ y ∈ x.1, 0 ≤ y.1 ∧ y.1 < x.2.1.2.1.length) ∧ inK .i64 (x.2.1.2.2.1 - 1)
def longIFn (x : LongX) : Int × Unit := (idxOf (longB x.2.1.1 x.2.1.2.1 x.2.1.2.2.1) x.1, ())
def longCFn (x : LongX) : Bool × Unit := (x.1.any (longB x.2.1.1 x.2.1.2.1 x.2.1.2.2.1), ())
def clongI : Ctr := { ps := [.v (.slc false PairT), .clo 37 [I64, .slc false I64, I64]], rs := [I64], pre := fun x => longIPre x, fn := fun x => longIFn x, out := fun _ => () }
noncomputable def ElongI : Env := { P := Try.prog, tt := tt, ctr := [(37, clong)], res := [Go.ResultVar.tmp 4], rs := [Ty.int IntKind.i64], ps := [PK.v (Ty.slc false PairT), PK.clo 37 [Ty.int IntKind.i64, Ty.slc false (Ty.int IntKind.i64), Ty.int IntKind.i64]], cuts := [(2, [(0, none), (1, none), (7, none), (8, none)])], nt := 19 }
theorem ElongI_ok : EnvOk ElongI := envOk tt_ok ⟨clong_valid, trivial⟩
theorem FlongI_ok : FnOk ElongI Try.f54 := ⟨rfl, rfl⟩
theorem ElongI_t (x0 : List (Int × Int × Unit)) (x1c0 : Int) (x1c1 : List Int) (x1c2 : Int) : exec ElongI 1000 [.code (bodyOf Try.prog 54)] (initSt clongI.ps ((x0, (x1c0, x1c1, x1c2, ()), ()))) =
  .cut (loopAt (bodyOf Try.prog 54) 2).1 (loopAt (bodyOf Try.prog 54) 2).2 (St.mk [(0, AV.val (Ty.slc false PairT) x0), (1, AV.clo 37 (AV.cons (AV.rptr (Ty.int IntKind.i64) x1c0) (AV.cons (AV.rptr (Ty.slc false (Ty.int IntKind.i64)) x1c1) (AV.cons (AV.rptr (Ty.int IntKind.i64) x1c2) AV.nil)))), (7, AV.val (Ty.int IntKind.i64) (↑(List.length x0) : Int)), (8, AV.val (Ty.int IntKind.i64) (0 : Int))] []) := by kernel_rfl
def ElongI_s2 (v0 : List (Int × Int × Unit)) (v1a : Int) (v1ba : List Int) (v1bba : Int) (v7 : Int) (v8 : Int) : St := St.mk [(0, AV.val (Ty.slc false PairT) v0), (1, AV.clo 37 (AV.cons (AV.rptr (Ty.int IntKind.i64) v1a) (AV.cons (AV.rptr (Ty.slc false (Ty.int IntKind.i64)) v1ba) (AV.cons (AV.rptr (Ty.int IntKind.i64) v1bba) AV.nil)))), (7, AV.val (Ty.int IntKind.i64) v7), (8, AV.val (Ty.int IntKind.i64) v8)] []
theorem ElongI_l2 (v0 : List (Int × Int × Unit)) (v1a : Int) (v1ba : List Int) (v1bba : Int) (v7 : Int) (v8 : Int) : exec ElongI 1000 (.code (loopAt (bodyOf Try.prog 54) 2).1 :: .inLoop (loopAt (bodyOf Try.prog 54) 2).1 :: (loopAt (bodyOf Try.prog 54) 2).2) (ElongI_s2 v0 v1a v1ba v1bba v7 v8) =
  cond (decide (v8 < v7)) (.need ((0 : Int) ≤ v8 ∧ v8 < (↑(List.length v0) : Int)) (.need (longPre (List.getD v0 (Int.toNat v8) ((0 : Int), (0 : Int), ()), v1a, v1ba, v1bba, ())) (cond (Prod.fst (longFn (List.getD v0 (Int.toNat v8) ((0 : Int), (0 : Int), ()), v1a, v1ba, v1bba, ()))) (.ret ((v8, ()))) (.need (inK IntKind.i64 (v8 + (1 : Int))) (.cut (loopAt (bodyOf Try.prog 54) 2).1 (loopAt (bodyOf Try.prog 54) 2).2 (St.mk [(0, AV.val (Ty.slc false PairT) v0), (1, AV.clo 37 (AV.cons (AV.rptr (Ty.int IntKind.i64) v1a) (AV.cons (AV.rptr (Ty.slc false (Ty.int IntKind.i64)) v1ba) (AV.cons (AV.rptr (Ty.int IntKind.i64) v1bba) AV.nil)))), (7, AV.val (Ty.int IntKind.i64) v7), (8, AV.val (Ty.int IntKind.i64) (v8 + (1 : Int)))] [])))))) (.ret (((-1 : Int), ()))) := by kernel_rfl
theorem clongI_valid : clongI.Valid Try.prog 54 := by
  refine Ctr.valid_of ElongI_ok rfl rfl Try.func54 (c := bodyOf Try.prog 54) rfl rfl FlongI_ok rfl ?_
  rintro ⟨(l : List PD), ⟨(k : Int), (s : List Int), (n : Int), ⟨⟩⟩, ⟨⟩⟩ ⟨hp, hk⟩ ⟨⟨hl, -⟩, -⟩
  have hl : l.length ≤ 9223372036854775807 := hl
  have hp : ∀ y ∈ l, 0 ≤ y.1 ∧ y.1 < s.length := hp
  have hk : inK .i64 (n - 1) := hk
  refine exec_sound (n := 1000) ElongI_ok FlongI_ok ?_
  refine holds_of_eq (ElongI_t l k s n) ?_
  refine Reach.loopI ElongI_ok FlongI_ok (fun i : Nat => ElongI_s2 l k s n (l.length : Int) (i : Int)) (fun i => i ≤ l.length ∧ idxOf (longB k s n) l = idxGo (longB k s n) (l.drop i) i)
    (fun i => l.length - i) 1000 (fun _ => ⟨uniq_of rfl, uniq_of rfl⟩) ?_ 0 ⟨by omega, rfl⟩
  rintro i ⟨k1, k2⟩ - ih
  refine holds_of_eq (ElongI_l2 ..) ?_
  by_cases hi : i < l.length
  · rw [drop_getD hi p0, idxGo] at k2
    have hm := hp _ (getD_mem (d := p0) hi)
    simp only [holds_cond, Tree.holds, Int.toNat_natCast, decide_eq_true_eq, decide_eq_false_iff_not]
    refine ⟨fun _ => ⟨⟨by omega, by omega⟩, fun _ => ⟨⟨hm.1, hm.2, hk⟩, fun _ => ⟨fun c => ?_, fun c => ⟨inK_i64.2 ⟨by omega, by omega⟩, fun _ => ih (i + 1) ⟨by omega, ?_⟩ (by omega)⟩⟩⟩⟩, fun h => absurd h (by omega)⟩
    · have c : longB k s n (l.getD i p0) = true := c
      show (((i : Int), ()) : Int × Unit) = (idxOf (longB k s n) l, ())
      rw [k2, if_pos c]
    · have c : longB k s n (l.getD i p0) = false := c
      rw [k2, if_neg (by simp [c, -List.getD_eq_getElem?_getD])]
  · rw [List.drop_eq_nil_of_le (by omega)] at k2
    simp only [holds_cond, Tree.holds, Int.toNat_natCast, decide_eq_true_eq, decide_eq_false_iff_not]
    refine ⟨fun h => absurd h (by omega), fun _ => ?_⟩
    show (((-1 : Int), ()) : Int × Unit) = (idxOf (longB k s n) l, ())
    rw [k2]; rfl
def clongC : Ctr := { ps := [.v (.slc false PairT), .clo 37 [I64, .slc false I64, I64]], rs := [.bool], pre := fun x => longIPre x, fn := fun x => longCFn x, out := fun _ => () }
noncomputable def ElongC : Env := { P := Try.prog, tt := tt, ctr := [(54, clongI)], res := [Go.ResultVar.tmp 4], rs := [Ty.bool], ps := [PK.v (Ty.slc false PairT), PK.clo 37 [Ty.int IntKind.i64, Ty.slc false (Ty.int IntKind.i64), Ty.int IntKind.i64]], cuts := [], nt := 9 }
theorem ElongC_ok : EnvOk ElongC := envOk tt_ok ⟨clongI_valid, trivial⟩
theorem FlongC_ok : FnOk ElongC Try.f36 := ⟨rfl, rfl⟩
theorem ElongC_t (x0 : List (Int × Int × Unit)) (x1c0 : Int) (x1c1 : List Int) (x1c2 : Int) : exec ElongC 1000 [.code (bodyOf Try.prog 36)] (initSt clongC.ps ((x0, (x1c0, x1c1, x1c2, ()), ()))) =
  .need (longIPre (x0, (x1c0, x1c1, x1c2, ()), ())) (.ret ((decide ((0 : Int) ≤ Prod.fst (longIFn (x0, (x1c0, x1c1, x1c2, ()), ()))), ()))) := by kernel_rfl
theorem any_idx {α : Type} {p : α → Bool} {l : List α} : decide (0 ≤ idxOf p l) = l.any p := by
  have : (0 ≤ idxOf p l) ↔ l.any p = true := by rw [idxOf, idxGo_iff, List.any_eq_true]
  cases h : l.any p with
  | true => exact decide_eq_true (this.2 h)
  | false => exact decide_eq_false (fun h2 => by rw [this.1 h2] at h; cases h)
theorem clongC_valid : clongC.Valid Try.prog 36 := by
  refine Ctr.valid_of ElongC_ok rfl rfl Try.func36 (c := bodyOf Try.prog 36) rfl rfl FlongC_ok rfl ?_
  rintro ⟨(l : List PD), ⟨(k : Int), (s : List Int), (n : Int), ⟨⟩⟩, ⟨⟩⟩ hp -
  refine exec_sound (n := 1000) ElongC_ok FlongC_ok ?_
  refine holds_of_eq (ElongC_t l k s n) ?_
  refine ⟨hp, fun _ => ?_⟩
  show ((decide (0 ≤ idxOf (longB k s n) l), ()) : Bool × Unit) = (l.any (longB k s n), ())
  rw [any_idx]
end Go.Proofs.Ytibpibbnnogdkaa
