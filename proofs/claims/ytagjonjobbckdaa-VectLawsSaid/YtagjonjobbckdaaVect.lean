/- The contracts of the package vect's functions, and of VectLaws. -/
import Derived.Test.YtagjonjobbckdaaProg
import Derived.Test.YtagjonjobbckdaaExW
namespace Go.Proofs.Ytagjonjobbckdaa
open Go.Ex
set_option maxRecDepth 100000
abbrev Vec : Ty := (Ty.arr 6 (Ty.int IntKind.i64))
def tt : List (TypeId × TI) := [(35, ⟨.arr 4 (.int .i64), 32⟩), (33, ⟨Vec, 48⟩), (3, ⟨.int .i64, 8⟩), (5, ⟨.int .u8, 1⟩), (28, ⟨.int .i64, 8⟩), (4, ⟨.bool, 1⟩), (79, ⟨.int .u64, 8⟩), (9, ⟨.str, 16⟩)]
theorem tt_ok : tt.all (tiOk Try.prog) = true := by kernel_rfl

def mx (a b : Int) : Int := if a < b then b else a
def mn (a b : Int) : Int := if b < a then b else a
def maxV (x y : List Int) : List Int := List.zipWith mx x y
def minV (x y : List Int) : List Int := List.zipWith mn x y
def within (x y : List Int) : Bool := decide (maxV x y = y)
def compare (x y : List Int) : Int := if x = y then 0 else if within x y = true then 1 else if within y x = true then 2 else 3

theorem zip_step {f : Int → Int → Int} {x y o : List Int} {v : Int} (ho : o.length = 6) (hI : ∀ i : Nat, i < 6 → o.getD i 0 = if (i : Int) < v then f (x.getD i 0) (y.getD i 0) else x.getD i 0) (hv : 0 ≤ v ∧ v < 6) :
    ∀ i : Nat, i < 6 → (o.set v.toNat (f (o.getD v.toNat 0) (y.getD v.toNat 0))).getD i 0 = if (i : Int) < v + 1 then f (x.getD i 0) (y.getD i 0) else x.getD i 0 := by
  intro i hi
  by_cases e : i = v.toNat
  · subst e
    have h1 : o.getD v.toNat 0 = x.getD v.toNat 0 := by rw [hI _ hi, if_neg (by omega)]
    rw [if_pos (by omega), ← h1]
    have : v.toNat < o.length := by omega
    simp [List.getD_eq_getElem?_getD, this]
  · have h1 : (o.set v.toNat (f (o.getD v.toNat 0) (y.getD v.toNat 0))).getD i 0 = o.getD i 0 := by
      simp [List.getD_eq_getElem?_getD, List.getElem?_set_ne (Ne.symm e)]
    rw [h1, hI i hi]
    by_cases hlt : (i : Int) < v
    · rw [if_pos hlt, if_pos (by omega)]
    · rw [if_neg hlt, if_neg (by omega)]

theorem zip_end {f : Int → Int → Int} {x y o : List Int} (hx : x.length = 6) (hy : y.length = 6) (ho : o.length = 6) {v : Int} (hv : 6 ≤ v) (hI : ∀ i : Nat, i < 6 → o.getD i 0 = if (i : Int) < v then f (x.getD i 0) (y.getD i 0) else x.getD i 0) : o = List.zipWith f x y := by
  apply List.ext_getElem
  · simp [hx, hy, ho]
  · intro i h1 h2
    have := hI i (by omega)
    rw [if_pos (by omega)] at this
    simp only [List.getD_eq_getElem?_getD, List.getElem?_eq_getElem h1, List.getElem?_eq_getElem (show i < x.length by omega), List.getElem?_eq_getElem (show i < y.length by omega), Option.getD_some] at this
    rw [this, List.getElem_zipWith]

theorem eqV_iff (x y : List Int) : eqD Vec x y = decide (x = y) := by
  have : ∀ x y : List Int, eqD.eqDL (eqD (.int .i64)) x y = decide (x = y) := by
    intro x
    induction x with
    | nil => intro y; cases y <;> rfl
    | cons a x ih =>
      intro y
      cases y with
      | nil => rfl
      | cons b y =>
        simp only [eqD.eqDL, ih y]
        show (decide (a = b) && decide (x = y)) = _
        by_cases h1 : a = b <;> by_cases h2 : x = y <;> simp [h1, h2]
  exact this x y

theorem absorb : ∀ x y : List Int, x.length = y.length → maxV x (minV x y) = x
  | [], [], _ => rfl
  | a :: x, b :: y, h => by
    have := absorb x y (by simpa using h)
    simp only [maxV, minV, List.zipWith_cons_cons] at this ⊢
    rw [this]
    congr 1
    unfold mx mn; split <;> split <;> omega
theorem distr : ∀ x y z : List Int, x.length = y.length → y.length = z.length → minV x (maxV y z) = maxV (minV x y) (minV x z)
  | [], [], [], _, _ => rfl
  | a :: x, b :: y, c :: z, h, k => by
    have := distr x y z (by simpa using h) (by simpa using k)
    simp only [maxV, minV, List.zipWith_cons_cons] at this ⊢
    rw [this]
    congr 1
    unfold mx mn; repeat' split
    all_goals omega
theorem assoc : ∀ x y z : List Int, x.length = y.length → y.length = z.length → maxV x (maxV y z) = maxV (maxV x y) z
  | [], [], [], _, _ => rfl
  | a :: x, b :: y, c :: z, h, k => by
    have := assoc x y z (by simpa using h) (by simpa using k)
    simp only [maxV, List.zipWith_cons_cons] at this ⊢
    rw [this]
    congr 1
    unfold mx; repeat' split
    all_goals omega
theorem within_min : ∀ x y : List Int, x.length = y.length → (maxV x y = y ↔ minV x y = x)
  | [], [], _ => by simp [maxV, minV]
  | a :: x, b :: y, h => by
    have := within_min x y (by simpa using h)
    simp only [maxV, minV, List.zipWith_cons_cons, List.cons.injEq] at this ⊢
    rw [this]
    have : mx a b = b ↔ mn a b = a := by unfold mx mn; split <;> split <;> omega
    rw [this]
theorem within_anti : ∀ x y : List Int, x.length = y.length → maxV x y = y → maxV y x = x → x = y
  | [], [], _, _, _ => rfl
  | a :: x, b :: y, h, h1, h2 => by
    simp only [maxV, List.zipWith_cons_cons, List.cons.injEq] at h1 h2
    have := within_anti x y (by simpa using h) h1.2 h2.2
    rw [this]
    congr 1
    have h3 := h1.1
    have h4 := h2.1
    unfold mx at h3 h4
    split at h3 <;> split at h4 <;> omega

theorem compare_turn {x y : List Int} (h : x.length = y.length) : (compare x y = 0 ∧ compare y x = 0) ∨ (compare x y = 1 ∧ compare y x = 2) ∨ (compare x y = 2 ∧ compare y x = 1) ∨ (compare x y = 3 ∧ compare y x = 3) := by
  unfold compare
  by_cases a : x = y
  · subst a; simp
  · have a' : ¬ y = x := fun e => a e.symm
    rw [if_neg a, if_neg a']
    cases b : within x y with
    | true =>
      cases c : within y x with
      | true => exact absurd (within_anti x y h (of_decide_eq_true b) (of_decide_eq_true c)) a
      | false => simp
    | false =>
      cases c : within y x with
      | true => simp
      | false => simp

def c19 : Ctr := { ps := [.v Vec, .v Vec], rs := [Vec], pre := fun _ => True, fn := fun x => (maxV x.1 x.2.1, ()) }
def c20 : Ctr := { ps := [.v Vec, .v Vec], rs := [Vec], pre := fun _ => True, fn := fun x => (minV x.1 x.2.1, ()) }
def c18 : Ctr := { ps := [.v Vec, .v Vec], rs := [.bool], pre := fun _ => True, fn := fun x => (within x.1 x.2.1, ()) }
def c17 : Ctr := { ps := [.v Vec, .v Vec], rs := [.int .i64], pre := fun _ => True, fn := fun x => (compare x.1 x.2.1, ()) }
def c5 : Ctr := lawC [Vec, Vec, Vec]

noncomputable def E19 : Env := { P := Try.prog, tt := tt, ctr := [], res := [Go.ResultVar.cell 4 33], rs := [Ty.arr 6 (Ty.int IntKind.i64)], cuts := [(2, [2, 3, 4, 6])], nt := 20 }
theorem E19_ok : EnvOk E19 := envOk tt_ok trivial
theorem F19_ok : FnOk E19 Try.f19 := ⟨rfl, rfl⟩
theorem E19_t (x0 : List Int) (x1 : List Int) : exec E19 1000 [.code (bodyOf Try.prog 19)] (initSt c19.ps ((x0, x1, ()))) =
  .cut (loopAt (bodyOf Try.prog 19) 2).1 (loopAt (bodyOf Try.prog 19) 2).2 (St.mk [(2, AV.ptr 2 []), (3, AV.ptr 3 []), (4, AV.ptr 4 []), (6, AV.val (Ty.int IntKind.i64) (0 : Int))] [(2, Ent.var Vec x0), (3, Ent.var Vec x1), (4, Ent.var Vec [(0 : Int), (0 : Int), (0 : Int), (0 : Int), (0 : Int), (0 : Int)])]) := by kernel_rfl
def E19_s2 (v6 : Int) (o2 : List Int) (o3 : List Int) (o4 : List Int) : St := St.mk [(2, AV.ptr 2 []), (3, AV.ptr 3 []), (4, AV.ptr 4 []), (6, AV.val (Ty.int IntKind.i64) v6)] [(2, Ent.var Vec o2), (3, Ent.var Vec o3), (4, Ent.var Vec o4)]
theorem E19_l2 (v6 : Int) (o2 : List Int) (o3 : List Int) (o4 : List Int) : exec E19 1000 (.code (loopAt (bodyOf Try.prog 19) 2).1 :: .inLoop (loopAt (bodyOf Try.prog 19) 2).1 :: (loopAt (bodyOf Try.prog 19) 2).2) (E19_s2 v6 o2 o3 o4) =
  cond (decide (v6 < (6 : Int))) (.need ((0 : Int) ≤ v6 ∧ v6 < (↑6 : Int)) (.need ((0 : Int) ≤ v6 ∧ v6 < (↑6 : Int)) (.need ((0 : Int) ≤ v6 ∧ v6 < (↑6 : Int)) (.need (inK IntKind.i64 (v6 + (1 : Int))) (.cut (loopAt (bodyOf Try.prog 19) 2).1 (loopAt (bodyOf Try.prog 19) 2).2 (St.mk [(2, AV.ptr 2 []), (3, AV.ptr 3 []), (4, AV.ptr 4 []), (6, AV.val (Ty.int IntKind.i64) (v6 + (1 : Int)))] [(2, Ent.var Vec (List.set o2 (Int.toNat v6) (if List.getD o2 (Int.toNat v6) (0 : Int) < List.getD o3 (Int.toNat v6) (0 : Int) then List.getD o3 (Int.toNat v6) (0 : Int) else List.getD o2 (Int.toNat v6) (0 : Int)))), (3, Ent.var Vec o3), (4, Ent.var Vec o4)])))))) (.ret ((o2, ()))) := by kernel_rfl
theorem c19_valid : c19.Valid Try.prog 19 := by
  refine Ctr.valid_of E19_ok rfl Try.func19 (c := bodyOf Try.prog 19) rfl rfl F19_ok (by decide) ?_
  rintro ⟨(x : List Int), (y : List Int), ⟨⟩⟩ - ⟨⟨h0, -⟩, ⟨h1, -⟩, -⟩
  have h0 : x.length = 6 := h0
  have h1 : y.length = 6 := h1
  refine exec_sound (n := 1000) E19_ok F19_ok ?_
  refine holds_of_eq (E19_t x y) ?_
  refine Reach.loop E19_ok F19_ok (fun q : Int × List Int => E19_s2 q.1 q.2 y [0, 0, 0, 0, 0, 0]) (fun q => 0 ≤ q.1 ∧ q.1 ≤ 6 ∧ q.2.length = 6 ∧ ∀ i : Nat, i < 6 → q.2.getD i 0 = if (i : Int) < q.1 then mx (x.getD i 0) (y.getD i 0) else x.getD i 0)
    (fun q => (6 - q.1).toNat) 1000 (fun v => ⟨by repeat' (first | exact trivial | refine ⟨rfl, ?_⟩), by repeat' (first | exact trivial | refine ⟨rfl, ?_⟩)⟩) ?_ (0, x) ⟨by simp, by simp, h0, fun i _ => by rw [if_neg (by simp)]⟩
  rintro ⟨v, o⟩ ⟨k1, k2, k3, k4⟩ -
  simp only at k1 k2 k3 k4
  refine holds_of_eq (E19_l2 v o y _) ?_
  simp only [holds_cond, Tree.holds, decide_eq_true_eq, decide_eq_false_iff_not]
  refine ⟨fun a => ⟨⟨k1, a⟩, fun _ => ⟨⟨k1, a⟩, fun _ => ⟨⟨k1, a⟩, fun _ => ⟨⟨by show -9223372036854775808 ≤ _; omega, by show _ ≤ 9223372036854775807; omega⟩, fun _ => .inl ⟨trivial, trivial, (v + 1, o.set v.toNat (mx (o.getD v.toNat 0) (y.getD v.toNat 0))), rfl, ⟨by simp only; omega, by simp only; omega, by simp [k3], zip_step k3 k4 ⟨k1, a⟩⟩, by simp only; omega⟩⟩⟩⟩⟩, fun a => ?_⟩
  show ((o, ()) : List Int × Unit) = (maxV x y, ())
  rw [zip_end h0 h1 k3 (v := v) (by omega) k4, maxV]

noncomputable def E20 : Env := { P := Try.prog, tt := tt, ctr := [], res := [Go.ResultVar.cell 4 33], rs := [Ty.arr 6 (Ty.int IntKind.i64)], cuts := [(2, [2, 3, 4, 6])], nt := 20 }
theorem E20_ok : EnvOk E20 := envOk tt_ok trivial
theorem F20_ok : FnOk E20 Try.f20 := ⟨rfl, rfl⟩
theorem E20_t (x0 : List Int) (x1 : List Int) : exec E20 1000 [.code (bodyOf Try.prog 20)] (initSt c20.ps ((x0, x1, ()))) =
  .cut (loopAt (bodyOf Try.prog 20) 2).1 (loopAt (bodyOf Try.prog 20) 2).2 (St.mk [(2, AV.ptr 2 []), (3, AV.ptr 3 []), (4, AV.ptr 4 []), (6, AV.val (Ty.int IntKind.i64) (0 : Int))] [(2, Ent.var Vec x0), (3, Ent.var Vec x1), (4, Ent.var Vec [(0 : Int), (0 : Int), (0 : Int), (0 : Int), (0 : Int), (0 : Int)])]) := by kernel_rfl
def E20_s2 (v6 : Int) (o2 : List Int) (o3 : List Int) (o4 : List Int) : St := St.mk [(2, AV.ptr 2 []), (3, AV.ptr 3 []), (4, AV.ptr 4 []), (6, AV.val (Ty.int IntKind.i64) v6)] [(2, Ent.var Vec o2), (3, Ent.var Vec o3), (4, Ent.var Vec o4)]
theorem E20_l2 (v6 : Int) (o2 : List Int) (o3 : List Int) (o4 : List Int) : exec E20 1000 (.code (loopAt (bodyOf Try.prog 20) 2).1 :: .inLoop (loopAt (bodyOf Try.prog 20) 2).1 :: (loopAt (bodyOf Try.prog 20) 2).2) (E20_s2 v6 o2 o3 o4) =
  cond (decide (v6 < (6 : Int))) (.need ((0 : Int) ≤ v6 ∧ v6 < (↑6 : Int)) (.need ((0 : Int) ≤ v6 ∧ v6 < (↑6 : Int)) (.need ((0 : Int) ≤ v6 ∧ v6 < (↑6 : Int)) (.need (inK IntKind.i64 (v6 + (1 : Int))) (.cut (loopAt (bodyOf Try.prog 20) 2).1 (loopAt (bodyOf Try.prog 20) 2).2 (St.mk [(2, AV.ptr 2 []), (3, AV.ptr 3 []), (4, AV.ptr 4 []), (6, AV.val (Ty.int IntKind.i64) (v6 + (1 : Int)))] [(2, Ent.var Vec (List.set o2 (Int.toNat v6) (if List.getD o3 (Int.toNat v6) (0 : Int) < List.getD o2 (Int.toNat v6) (0 : Int) then List.getD o3 (Int.toNat v6) (0 : Int) else List.getD o2 (Int.toNat v6) (0 : Int)))), (3, Ent.var Vec o3), (4, Ent.var Vec o4)])))))) (.ret ((o2, ()))) := by kernel_rfl
theorem c20_valid : c20.Valid Try.prog 20 := by
  refine Ctr.valid_of E20_ok rfl Try.func20 (c := bodyOf Try.prog 20) rfl rfl F20_ok (by decide) ?_
  rintro ⟨(x : List Int), (y : List Int), ⟨⟩⟩ - ⟨⟨h0, -⟩, ⟨h1, -⟩, -⟩
  have h0 : x.length = 6 := h0
  have h1 : y.length = 6 := h1
  refine exec_sound (n := 1000) E20_ok F20_ok ?_
  refine holds_of_eq (E20_t x y) ?_
  refine Reach.loop E20_ok F20_ok (fun q : Int × List Int => E20_s2 q.1 q.2 y [0, 0, 0, 0, 0, 0]) (fun q => 0 ≤ q.1 ∧ q.1 ≤ 6 ∧ q.2.length = 6 ∧ ∀ i : Nat, i < 6 → q.2.getD i 0 = if (i : Int) < q.1 then mn (x.getD i 0) (y.getD i 0) else x.getD i 0)
    (fun q => (6 - q.1).toNat) 1000 (fun v => ⟨by repeat' (first | exact trivial | refine ⟨rfl, ?_⟩), by repeat' (first | exact trivial | refine ⟨rfl, ?_⟩)⟩) ?_ (0, x) ⟨by simp, by simp, h0, fun i _ => by rw [if_neg (by simp)]⟩
  rintro ⟨v, o⟩ ⟨k1, k2, k3, k4⟩ -
  simp only at k1 k2 k3 k4
  refine holds_of_eq (E20_l2 v o y _) ?_
  simp only [holds_cond, Tree.holds, decide_eq_true_eq, decide_eq_false_iff_not]
  refine ⟨fun a => ⟨⟨k1, a⟩, fun _ => ⟨⟨k1, a⟩, fun _ => ⟨⟨k1, a⟩, fun _ => ⟨⟨by show -9223372036854775808 ≤ _; omega, by show _ ≤ 9223372036854775807; omega⟩, fun _ => .inl ⟨trivial, trivial, (v + 1, o.set v.toNat (mn (o.getD v.toNat 0) (y.getD v.toNat 0))), rfl, ⟨by simp only; omega, by simp only; omega, by simp [k3], zip_step k3 k4 ⟨k1, a⟩⟩, by simp only; omega⟩⟩⟩⟩⟩, fun a => ?_⟩
  show ((o, ()) : List Int × Unit) = (minV x y, ())
  rw [zip_end h0 h1 k3 (v := v) (by omega) k4, minV]

noncomputable def E18 : Env := { P := Try.prog, tt := tt, ctr := [(19, c19)], res := [Go.ResultVar.tmp 4], rs := [Ty.bool], cuts := [], nt := 10 }
theorem E18_ok : EnvOk E18 := envOk tt_ok ⟨c19_valid, trivial⟩
theorem F18_ok : FnOk E18 Try.f18 := ⟨rfl, rfl⟩
theorem E18_t (x0 : List Int) (x1 : List Int) : exec E18 1000 [.code (bodyOf Try.prog 18)] (initSt c18.ps ((x0, x1, ()))) =
  .need (True) (.ret ((eqD Vec (maxV x0 x1) x1, ()))) := by kernel_rfl
theorem c18_valid : c18.Valid Try.prog 18 := by
  refine Ctr.valid_of E18_ok rfl Try.func18 (c := bodyOf Try.prog 18) rfl rfl F18_ok (by decide) ?_
  rintro ⟨(x : List Int), (y : List Int), ⟨⟩⟩ - -
  refine exec_sound (n := 1000) E18_ok F18_ok ?_
  refine holds_of_eq (E18_t x y) ?_
  refine ⟨trivial, fun _ => ?_⟩
  show ((_, ()) : Bool × Unit) = (within x y, ())
  rw [eqV_iff]; rfl

noncomputable def E17 : Env := { P := Try.prog, tt := tt, ctr := [(18, c18)], res := [Go.ResultVar.tmp 4], rs := [Ty.int IntKind.i64], cuts := [], nt := 17 }
theorem E17_ok : EnvOk E17 := envOk tt_ok ⟨c18_valid, trivial⟩
theorem F17_ok : FnOk E17 Try.f17 := ⟨rfl, rfl⟩
theorem E17_t (x0 : List Int) (x1 : List Int) : exec E17 1000 [.code (bodyOf Try.prog 17)] (initSt c17.ps ((x0, x1, ()))) =
  cond (eqD Vec x0 x1) (.ret (((0 : Int), ()))) (.need (True) (cond (within x0 x1) (.ret (((1 : Int), ()))) (.need (True) (cond (within x1 x0) (.ret (((2 : Int), ()))) (.ret (((3 : Int), ()))))))) := by kernel_rfl
theorem c17_valid : c17.Valid Try.prog 17 := by
  refine Ctr.valid_of E17_ok rfl Try.func17 (c := bodyOf Try.prog 17) rfl rfl F17_ok (by decide) ?_
  rintro ⟨(x : List Int), (y : List Int), ⟨⟩⟩ - -
  refine exec_sound (n := 1000) E17_ok F17_ok ?_
  refine holds_of_eq (E17_t x y) ?_
  have key : ∀ r : Int, compare x y = r → ((r, ()) : DL [.int .i64]) = c17.fn (x, y, ()) := by rintro r rfl; rfl
  simp only [eqV_iff, holds_cond, Tree.holds, decide_eq_true_eq, decide_eq_false_iff_not]
  refine ⟨fun a => key _ ?_, fun a => ⟨trivial, fun _ => ⟨fun b => key _ ?_, fun b => ⟨trivial, fun _ => ⟨fun c => key _ ?_, fun c => key _ ?_⟩⟩⟩⟩⟩
  · rw [compare, if_pos a]
  · rw [compare, if_neg a, if_pos b]
  · rw [compare, if_neg a, if_neg (by simp [b]), if_pos c]
  · rw [compare, if_neg a, if_neg (by simp [b]), if_neg (by simp [c])]

noncomputable def E5 : Env := { P := Try.prog, tt := tt, ctr := [(17, c17), (18, c18), (19, c19), (20, c20)], res := [Go.ResultVar.tmp 6], rs := [Ty.bool], cuts := [], nt := 95 }
theorem E5_ok : EnvOk E5 := envOk tt_ok ⟨c17_valid, c18_valid, c19_valid, c20_valid, trivial⟩
theorem F5_ok : FnOk E5 Try.f5 := ⟨rfl, rfl⟩
theorem E5_t (x0 : List Int) (x1 : List Int) (x2 : List Int) : exec E5 1000 [.code (bodyOf Try.prog 5)] (initSt c5.ps ((x0, x1, x2, ()))) =
  .need (True) (cond (decide (compare (List.set [(0 : Int), (0 : Int), (0 : Int), (0 : Int), (0 : Int), (0 : Int)] (Int.toNat (↑0 : Int)) (1 : Int)) (List.set (List.set [(0 : Int), (0 : Int), (0 : Int), (0 : Int), (0 : Int), (0 : Int)] (Int.toNat (↑0 : Int)) (0 : Int)) (Int.toNat (↑1 : Int)) (1 : Int)) ≠ (3 : Int))) (.ret ((false, ()))) (.need (True) (cond (decide (compare (List.set [(0 : Int), (0 : Int), (0 : Int), (0 : Int), (0 : Int), (0 : Int)] (Int.toNat (↑0 : Int)) (1 : Int)) (List.set (List.set [(0 : Int), (0 : Int), (0 : Int), (0 : Int), (0 : Int), (0 : Int)] (Int.toNat (↑0 : Int)) (1 : Int)) (Int.toNat (↑1 : Int)) (1 : Int)) ≠ (1 : Int))) (.ret ((false, ()))) (.need (True) (cond (decide (compare x0 x1 < (0 : Int))) (.ret ((false, ()))) (cond (decide ((3 : Int) < compare x0 x1)) (.ret ((false, ()))) (.need (True) (.need ((0 : Int) ≤ compare x0 x1 ∧ compare x0 x1 < (↑4 : Int)) (cond (decide (compare x1 x0 ≠ List.getD (List.set (List.set (List.set (List.set [(0 : Int), (0 : Int), (0 : Int), (0 : Int)] (Int.toNat (↑0 : Int)) (0 : Int)) (Int.toNat (↑1 : Int)) (2 : Int)) (Int.toNat (↑2 : Int)) (1 : Int)) (Int.toNat (↑3 : Int)) (3 : Int)) (Int.toNat (compare x0 x1)) (0 : Int))) (.ret ((false, ()))) (.need (True) (.need (True) (cond (within x0 x1 != eqD Vec (maxV x0 x1) x1) (.ret ((false, ()))) (.need (True) (.need (True) (cond (within x0 x1 != eqD Vec (minV x0 x1) x0) (.ret ((false, ()))) (.need (True) (.need (True) (cond (eqD Vec (maxV x0 (minV x0 x1)) x0) (.need (True) (.need (True) (.need (True) (.need (True) (.need (True) (cond (eqD Vec (minV x0 (maxV x1 x2)) (maxV (minV x0 x1) (minV x0 x2))) (.need (True) (.need (True) (.need (True) (.need (True) (.ret ((eqD Vec (maxV x0 (maxV x1 x2)) (maxV (maxV x0 x1) x2), ()))))))) (.ret ((false, ()))))))))) (.ret ((false, ()))))))))))))))))))))) := by kernel_rfl
theorem c5_valid : c5.Valid Try.prog 5 := by
  refine Ctr.valid_of E5_ok rfl Try.func5 (c := bodyOf Try.prog 5) rfl rfl F5_ok (by decide) ?_
  rintro ⟨(x : List Int), (y : List Int), (z : List Int), ⟨⟩⟩ - ⟨⟨h0, -⟩, ⟨h1, -⟩, ⟨h2, -⟩, -⟩
  have h0 : x.length = 6 := h0
  have h1 : y.length = 6 := h1
  have h2 : z.length = 6 := h2
  refine exec_sound (n := 1000) E5_ok F5_ok ?_
  refine holds_of_eq (E5_t x y z) ?_
  have f1 : compare (List.set [0, 0, 0, 0, 0, 0] (Int.toNat 0) 1) (List.set (List.set [0, 0, 0, 0, 0, 0] (Int.toNat 0) 0) (Int.toNat 1) 1) = 3 := by decide +kernel
  have f2 : compare (List.set [0, 0, 0, 0, 0, 0] (Int.toNat 0) 1) (List.set (List.set [0, 0, 0, 0, 0, 0] (Int.toNat 0) 1) (Int.toNat 1) 1) = 1 := by decide +kernel
  have xy : x.length = y.length := h0.trans h1.symm
  have yz : y.length = z.length := h1.trans h2.symm
  have w1 : (within x y != decide (maxV x y = y)) = false := by simp [within]
  have w2 : (within x y != decide (minV x y = x)) = false := by simp [within, within_min x y xy]
  have key : ∀ b : Bool, b = true → ((b, ()) : DL [Ty.bool]) = c5.fn (x, y, z, ()) := by rintro b rfl; rfl
  simp only [f1, f2, eqV_iff, w1, w2, absorb x y xy, distr x y z xy yz, assoc x y z xy yz, holds_cond, Tree.holds]
  have g1 : Int.toNat ((0 : Nat) : Int) = Int.toNat 0 := rfl
  have g2 : Int.toNat ((1 : Nat) : Int) = Int.toNat 1 := rfl
  have k0 : ((true, ()) : DL [Ty.bool]) = c5.fn (x, y, z, ()) := rfl
  rcases compare_turn xy with ⟨c1, c2⟩ | ⟨c1, c2⟩ | ⟨c1, c2⟩ | ⟨c1, c2⟩ <;> simp only [c1, c2, g1, g2, f1, f2] <;> simp <;> exact k0
end Go.Proofs.Ytagjonjobbckdaa
