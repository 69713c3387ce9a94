/- The contracts of the package view's functions. -/
import Derived.Test.YtagjonjobbckdaaProg
import Derived.Test.YtagjonjobbckdaaExW
namespace Go.Proofs.Ytagjonjobbckdaa
open Go.Ex
set_option maxRecDepth 100000
abbrev V : Ty := (Ty.pair (Ty.int IntKind.i64) (Ty.pair (Ty.int IntKind.u8) Ty.unit))
def tt : List (TypeId × TI) := [(27, ⟨V, 16⟩), (3, ⟨.int .i64, 8⟩), (5, ⟨.int .u8, 1⟩), (28, ⟨.int .i64, 8⟩), (4, ⟨.bool, 1⟩), (79, ⟨.int .u64, 8⟩), (9, ⟨.str, 16⟩), (80, ⟨.slc true V, 24⟩)]
theorem tt_ok : tt.all (tiOk Try.prog) = true := by kernel_rfl

def outside (m : Int) : Bool := decide (64 ≤ m)
def onesN (n : Nat) : Nat := ((List.range 8).map fun i => (n.testBit i).toNat).sum
def ones (m : Int) : Int := (onesN m.toNat : Int)
theorem ones_le (m : Int) : 0 ≤ ones m ∧ ones m ≤ 8 := by
  refine ⟨Int.natCast_nonneg _, ?_⟩
  have h : ∀ b : Bool, b.toNat ≤ 1 := by decide
  have := h (m.toNat.testBit 0); have := h (m.toNat.testBit 1); have := h (m.toNat.testBit 2); have := h (m.toNat.testBit 3)
  have := h (m.toNat.testBit 4); have := h (m.toNat.testBit 5); have := h (m.toNat.testBit 6); have := h (m.toNat.testBit 7)
  simp only [ones, onesN, List.range, List.range.loop, List.map_cons, List.map_nil, List.sum_cons, List.sum_nil]
  omega
def half (p o : Int) : Bool := decide (ones o < 2 * ones (bAnd .u8 p o))
def check (v : Int × Int × Unit) : Int := if v.1 < 0 ∨ 16777215 < v.1 ∨ v.2.1 = 0 ∨ 64 ≤ v.2.1 then 1 else 0
def follows (a b : Int × Int × Unit) : Bool × Int × Unit := if check a ≠ 0 then (false, check a, ()) else if check b ≠ 0 then (false, check b, ()) else (decide (b.1 = a.1 + 1) && half b.2.1 a.2.1, 0, ())

theorem follows_inv {a b : Int × Int × Unit} (_ : (follows a b).2.1 = 0) (h1 : (follows a b).1 = true) : check a = 0 ∧ check b = 0 ∧ b.1 = a.1 + 1 ∧ half b.2.1 a.2.1 = true := by
  unfold follows at h1
  split at h1
  · cases h1
  · split at h1
    · cases h1
    · simp only [Bool.and_eq_true, decide_eq_true_eq] at h1
      rename_i k1 k2
      exact ⟨by simpa using k1, by simpa using k2, h1.1, h1.2⟩

theorem bAnd_nat {x y : Int} (hx : 0 ≤ x ∧ x ≤ 255) (hy : 0 ≤ y ∧ y ≤ 255) : bAnd .u8 x y = ((x.toNat &&& y.toNat : Nat) : Int) := by
  obtain ⟨n, rfl⟩ := Int.eq_ofNat_of_zero_le hx.1
  obtain ⟨m, rfl⟩ := Int.eq_ofNat_of_zero_le hy.1
  have hn : n < 256 := by omega
  have hm : m < 256 := by omega
  have h1 : (BitVec.ofInt 8 (n : Int) &&& BitVec.ofInt 8 (m : Int)).toNat = n &&& m := by
    rw [BitVec.toNat_and, BitVec.ofInt_natCast, BitVec.ofInt_natCast, BitVec.toNat_ofNat, BitVec.toNat_ofNat, Nat.mod_eq_of_lt hn, Nat.mod_eq_of_lt hm]
  have h2 : n &&& m < 256 := Nat.lt_of_le_of_lt Nat.and_le_left hn
  show IntKind.u8.wrap ((BitVec.ofInt 8 (n : Int) &&& BitVec.ofInt 8 (m : Int)).toNat : Int) = _
  rw [h1]
  simp only [Int.toNat_natCast]
  show IntKind.u8.wrap _ = _
  simp [IntKind.wrap, IntKind.signed, IntKind.bits]
  omega

theorem half_meet {x y z : Int} (hx : 0 ≤ x ∧ x ≤ 255) (hy : 0 ≤ y ∧ y ≤ 255) (hz : 0 ≤ z ∧ z ≤ 255) (h1 : half y x = true) (h2 : half z x = true) : bAnd .u8 (bAnd .u8 y z) x ≠ 0 := by
  intro h
  have lt : ∀ a b : Int, 0 ≤ a ∧ a ≤ 255 → 0 ≤ b ∧ b ≤ 255 → 0 ≤ bAnd .u8 a b ∧ bAnd .u8 a b ≤ 255 := by
    intro a b ha hb
    rw [bAnd_nat ha hb]
    have : a.toNat &&& b.toNat ≤ a.toNat := Nat.and_le_left
    omega
  rw [bAnd_nat (lt _ _ hy hz) hx, bAnd_nat hy hz] at h
  simp only [half, decide_eq_true_eq, bAnd_nat hy hx, bAnd_nat hz hx, ones, Int.toNat_natCast] at h1 h2
  simp only [Int.toNat_natCast] at h
  generalize x.toNat = X at *
  generalize y.toNat = Y at *
  generalize z.toNat = Z at *
  have h : (Y &&& Z) &&& X = 0 := by exact_mod_cast h
  have hi : ∀ i, ((Y &&& X).testBit i).toNat + ((Z &&& X).testBit i).toNat ≤ (X.testBit i).toNat := by
    intro i
    have := congrArg (fun n => n.testBit i) h
    simp only [Nat.testBit_and, Nat.zero_testBit] at this ⊢
    revert this
    cases Y.testBit i <;> cases Z.testBit i <;> cases X.testBit i <;> decide
  have := hi 0; have := hi 1; have := hi 2; have := hi 3; have := hi 4; have := hi 5; have := hi 6; have := hi 7
  simp only [onesN, List.range, List.range.loop, List.map_cons, List.map_nil, List.sum_cons, List.sum_nil] at h1 h2
  omega

def c38 : Ctr := { ps := [.v (.int .u8)], rs := [.bool], pre := fun _ => True, fn := fun x => (outside x.1, ()) }
def c26 : Ctr := { ps := [.v V], rs := [.int .i64], pre := fun _ => True, fn := fun x => (check x.1, ()) }
def c25 : Ctr := { ps := [.v (.int .u8)], rs := [.int .i64], pre := fun _ => True, fn := fun x => (ones x.1, ()) }
def c37 : Ctr := { ps := [.v (.int .u8), .v (.int .u8)], rs := [.bool], pre := fun _ => True, fn := fun x => (half x.1 x.2.1, ()) }
def c16 : Ctr := { ps := [.v V, .v V], rs := [.bool, .int .i64], pre := fun _ => True, fn := fun x => follows x.1 x.2.1 }
def c4 : Ctr := lawC [V, V, V]

noncomputable def E38 : Env := { P := Try.prog, tt := tt, ctr := [], res := [Go.ResultVar.tmp 2], rs := [Ty.bool], cuts := [], nt := 6 }
theorem E38_ok : EnvOk E38 := envOk tt_ok trivial
theorem F38_ok : FnOk E38 Try.f38 := ⟨rfl, rfl⟩
theorem E38_t (x0 : Int) : exec E38 1000 [.code (bodyOf Try.prog 38)] (initSt c38.ps ((x0, ()))) =
  .need ((0 : Int) ≤ (6 : Int)) (.ret ((decide (x0 / (2 : Ty.den (Ty.int IntKind.u8)) ^ min (Int.toNat (6 : Int)) (IntKind.bits IntKind.u8) ≠ (0 : Int)), ()))) := by kernel_rfl
theorem c38_valid : c38.Valid Try.prog 38 := by
  refine Ctr.valid_of E38_ok rfl Try.func38 (c := bodyOf Try.prog 38) rfl rfl F38_ok (by decide) ?_
  rintro ⟨(x0 : Int), ⟨⟩⟩ - ⟨h0, -⟩
  refine exec_sound (n := 1000) E38_ok F38_ok ?_
  refine holds_of_eq (E38_t x0) ?_
  refine ⟨by decide, fun _ => ?_⟩
  have h : 0 ≤ x0 ∧ x0 ≤ 255 := h0
  show (decide (x0 / 2 ^ 6 ≠ 0), ()) = (outside x0, ())
  unfold outside
  congr 1
  exact decide_eq_decide.2 (by omega)

noncomputable def E26 : Env := { P := Try.prog, tt := tt, ctr := [(38, c38)], res := [Go.ResultVar.tmp 2], rs := [Ty.int IntKind.i64], cuts := [], nt := 21 }
theorem E26_ok : EnvOk E26 := envOk tt_ok ⟨c38_valid, trivial⟩
theorem F26_ok : FnOk E26 Try.f26 := ⟨rfl, rfl⟩
theorem E26_t (x0_1 : Int) (x0_2_1 : Int) : exec E26 1000 [.code (bodyOf Try.prog 26)] (initSt c26.ps (((x0_1, x0_2_1, ()), ()))) =
  cond (decide (x0_1 < (0 : Int))) (.ret (((1 : Int), ()))) (cond (decide ((16777215 : Int) < x0_1)) (.ret (((1 : Int), ()))) (cond (decide (x0_2_1 = (0 : Int))) (.ret (((1 : Int), ()))) (.need (True) (cond (outside x0_2_1) (.ret (((1 : Int), ()))) (.ret (((0 : Int), ()))))))) := by kernel_rfl
theorem c26_valid : c26.Valid Try.prog 26 := by
  refine Ctr.valid_of E26_ok rfl Try.func26 (c := bodyOf Try.prog 26) rfl rfl F26_ok (by decide) ?_
  rintro ⟨⟨(x0 : Int), (x1 : Int), ⟨⟩⟩, ⟨⟩⟩ - ⟨⟨h0, h1, -⟩, -⟩
  refine exec_sound (n := 1000) E26_ok F26_ok ?_
  refine holds_of_eq (E26_t x0 x1) ?_
  have g0 : -9223372036854775808 ≤ x0 ∧ x0 ≤ 9223372036854775807 := h0
  have g1 : 0 ≤ x1 ∧ x1 ≤ 255 := h1
  simp only [holds_cond, Tree.holds, decide_eq_true_eq, decide_eq_false_iff_not]
  have key : ∀ r : Int, r = check (x0, x1, ()) → ((r, ()) : DL [Ty.int .i64]) = c26.fn ((x0, x1, ()), ()) := by rintro r rfl; rfl
  refine ⟨fun a => key _ ?_, fun a => ⟨fun b => key _ ?_, fun b => ⟨fun c => key _ ?_, fun c => ⟨trivial, fun _ => ⟨fun d => key _ ?_, fun d => key _ ?_⟩⟩⟩⟩⟩
  all_goals simp only [check, outside, decide_eq_true_eq, decide_eq_false_iff_not] at *
  all_goals (first | rw [if_pos (by omega)] | rw [if_neg (by omega)])

noncomputable def E25 : Env := { P := Try.prog, tt := tt, ctr := [], res := [Go.ResultVar.tmp 2], rs := [Ty.int IntKind.i64], cuts := [], nt := 6 }
theorem E25_ok : EnvOk E25 := envOk tt_ok trivial
theorem F25_ok : FnOk E25 Try.f25 := ⟨rfl, rfl⟩
theorem E25_t (x0 : Int) : exec E25 1000 [.code (bodyOf Try.prog 25)] (initSt c25.ps ((x0, ()))) =
  .need ((0 : Ty.den (Ty.int IntKind.u8)) ≤ x0 ∧ x0 < (↑(List.length (Array.toList (ByteArray.data (ByteArray.mk (List.toArray (List.append (List.append [(0 : UInt8), (1 : UInt8), (1 : UInt8), (2 : UInt8), (1 : UInt8), (2 : UInt8), (2 : UInt8), (3 : UInt8), (1 : UInt8), (2 : UInt8), (2 : UInt8), (3 : UInt8), (2 : UInt8), (3 : UInt8), (3 : UInt8), (4 : UInt8), (1 : UInt8), (2 : UInt8), (2 : UInt8), (3 : UInt8), (2 : UInt8), (3 : UInt8), (3 : UInt8), (4 : UInt8), (2 : UInt8), (3 : UInt8), (3 : UInt8), (4 : UInt8), (3 : UInt8), (4 : UInt8), (4 : UInt8), (5 : UInt8), (1 : UInt8), (2 : UInt8), (2 : UInt8), (3 : UInt8), (2 : UInt8), (3 : UInt8), (3 : UInt8), (4 : UInt8), (2 : UInt8), (3 : UInt8), (3 : UInt8), (4 : UInt8), (3 : UInt8), (4 : UInt8), (4 : UInt8), (5 : UInt8), (2 : UInt8), (3 : UInt8), (3 : UInt8), (4 : UInt8), (3 : UInt8), (4 : UInt8), (4 : UInt8), (5 : UInt8), (3 : UInt8), (4 : UInt8), (4 : UInt8), (5 : UInt8), (4 : UInt8), (5 : UInt8), (5 : UInt8), (6 : UInt8)] [(1 : UInt8), (2 : UInt8), (2 : UInt8), (3 : UInt8), (2 : UInt8), (3 : UInt8), (3 : UInt8), (4 : UInt8), (2 : UInt8), (3 : UInt8), (3 : UInt8), (4 : UInt8), (3 : UInt8), (4 : UInt8), (4 : UInt8), (5 : UInt8), (2 : UInt8), (3 : UInt8), (3 : UInt8), (4 : UInt8), (3 : UInt8), (4 : UInt8), (4 : UInt8), (5 : UInt8), (3 : UInt8), (4 : UInt8), (4 : UInt8), (5 : UInt8), (4 : UInt8), (5 : UInt8), (5 : UInt8), (6 : UInt8), (2 : UInt8), (3 : UInt8), (3 : UInt8), (4 : UInt8), (3 : UInt8), (4 : UInt8), (4 : UInt8), (5 : UInt8), (3 : UInt8), (4 : UInt8), (4 : UInt8), (5 : UInt8), (4 : UInt8), (5 : UInt8), (5 : UInt8), (6 : UInt8), (3 : UInt8), (4 : UInt8), (4 : UInt8), (5 : UInt8), (4 : UInt8), (5 : UInt8), (5 : UInt8), (6 : UInt8), (4 : UInt8), (5 : UInt8), (5 : UInt8), (6 : UInt8), (5 : UInt8), (6 : UInt8), (6 : UInt8), (7 : UInt8)]) (List.append [(1 : UInt8), (2 : UInt8), (2 : UInt8), (3 : UInt8), (2 : UInt8), (3 : UInt8), (3 : UInt8), (4 : UInt8), (2 : UInt8), (3 : UInt8), (3 : UInt8), (4 : UInt8), (3 : UInt8), (4 : UInt8), (4 : UInt8), (5 : UInt8), (2 : UInt8), (3 : UInt8), (3 : UInt8), (4 : UInt8), (3 : UInt8), (4 : UInt8), (4 : UInt8), (5 : UInt8), (3 : UInt8), (4 : UInt8), (4 : UInt8), (5 : UInt8), (4 : UInt8), (5 : UInt8), (5 : UInt8), (6 : UInt8), (2 : UInt8), (3 : UInt8), (3 : UInt8), (4 : UInt8), (3 : UInt8), (4 : UInt8), (4 : UInt8), (5 : UInt8), (3 : UInt8), (4 : UInt8), (4 : UInt8), (5 : UInt8), (4 : UInt8), (5 : UInt8), (5 : UInt8), (6 : UInt8), (3 : UInt8), (4 : UInt8), (4 : UInt8), (5 : UInt8), (4 : UInt8), (5 : UInt8), (5 : UInt8), (6 : UInt8), (4 : UInt8), (5 : UInt8), (5 : UInt8), (6 : UInt8), (5 : UInt8), (6 : UInt8), (6 : UInt8), (7 : UInt8)] [(2 : UInt8), (3 : UInt8), (3 : UInt8), (4 : UInt8), (3 : UInt8), (4 : UInt8), (4 : UInt8), (5 : UInt8), (3 : UInt8), (4 : UInt8), (4 : UInt8), (5 : UInt8), (4 : UInt8), (5 : UInt8), (5 : UInt8), (6 : UInt8), (3 : UInt8), (4 : UInt8), (4 : UInt8), (5 : UInt8), (4 : UInt8), (5 : UInt8), (5 : UInt8), (6 : UInt8), (4 : UInt8), (5 : UInt8), (5 : UInt8), (6 : UInt8), (5 : UInt8), (6 : UInt8), (6 : UInt8), (7 : UInt8), (3 : UInt8), (4 : UInt8), (4 : UInt8), (5 : UInt8), (4 : UInt8), (5 : UInt8), (5 : UInt8), (6 : UInt8), (4 : UInt8), (5 : UInt8), (5 : UInt8), (6 : UInt8), (5 : UInt8), (6 : UInt8), (6 : UInt8), (7 : UInt8), (4 : UInt8), (5 : UInt8), (5 : UInt8), (6 : UInt8), (5 : UInt8), (6 : UInt8), (6 : UInt8), (7 : UInt8), (5 : UInt8), (6 : UInt8), (6 : UInt8), (7 : UInt8), (6 : UInt8), (7 : UInt8), (7 : UInt8), (8 : UInt8)]))))))) : Ty.den (Ty.int IntKind.u8))) (.ret ((IntKind.wrap IntKind.i64 (↑(UInt8.toNat (List.getD (Array.toList (ByteArray.data (ByteArray.mk (List.toArray (List.append (List.append [(0 : UInt8), (1 : UInt8), (1 : UInt8), (2 : UInt8), (1 : UInt8), (2 : UInt8), (2 : UInt8), (3 : UInt8), (1 : UInt8), (2 : UInt8), (2 : UInt8), (3 : UInt8), (2 : UInt8), (3 : UInt8), (3 : UInt8), (4 : UInt8), (1 : UInt8), (2 : UInt8), (2 : UInt8), (3 : UInt8), (2 : UInt8), (3 : UInt8), (3 : UInt8), (4 : UInt8), (2 : UInt8), (3 : UInt8), (3 : UInt8), (4 : UInt8), (3 : UInt8), (4 : UInt8), (4 : UInt8), (5 : UInt8), (1 : UInt8), (2 : UInt8), (2 : UInt8), (3 : UInt8), (2 : UInt8), (3 : UInt8), (3 : UInt8), (4 : UInt8), (2 : UInt8), (3 : UInt8), (3 : UInt8), (4 : UInt8), (3 : UInt8), (4 : UInt8), (4 : UInt8), (5 : UInt8), (2 : UInt8), (3 : UInt8), (3 : UInt8), (4 : UInt8), (3 : UInt8), (4 : UInt8), (4 : UInt8), (5 : UInt8), (3 : UInt8), (4 : UInt8), (4 : UInt8), (5 : UInt8), (4 : UInt8), (5 : UInt8), (5 : UInt8), (6 : UInt8)] [(1 : UInt8), (2 : UInt8), (2 : UInt8), (3 : UInt8), (2 : UInt8), (3 : UInt8), (3 : UInt8), (4 : UInt8), (2 : UInt8), (3 : UInt8), (3 : UInt8), (4 : UInt8), (3 : UInt8), (4 : UInt8), (4 : UInt8), (5 : UInt8), (2 : UInt8), (3 : UInt8), (3 : UInt8), (4 : UInt8), (3 : UInt8), (4 : UInt8), (4 : UInt8), (5 : UInt8), (3 : UInt8), (4 : UInt8), (4 : UInt8), (5 : UInt8), (4 : UInt8), (5 : UInt8), (5 : UInt8), (6 : UInt8), (2 : UInt8), (3 : UInt8), (3 : UInt8), (4 : UInt8), (3 : UInt8), (4 : UInt8), (4 : UInt8), (5 : UInt8), (3 : UInt8), (4 : UInt8), (4 : UInt8), (5 : UInt8), (4 : UInt8), (5 : UInt8), (5 : UInt8), (6 : UInt8), (3 : UInt8), (4 : UInt8), (4 : UInt8), (5 : UInt8), (4 : UInt8), (5 : UInt8), (5 : UInt8), (6 : UInt8), (4 : UInt8), (5 : UInt8), (5 : UInt8), (6 : UInt8), (5 : UInt8), (6 : UInt8), (6 : UInt8), (7 : UInt8)]) (List.append [(1 : UInt8), (2 : UInt8), (2 : UInt8), (3 : UInt8), (2 : UInt8), (3 : UInt8), (3 : UInt8), (4 : UInt8), (2 : UInt8), (3 : UInt8), (3 : UInt8), (4 : UInt8), (3 : UInt8), (4 : UInt8), (4 : UInt8), (5 : UInt8), (2 : UInt8), (3 : UInt8), (3 : UInt8), (4 : UInt8), (3 : UInt8), (4 : UInt8), (4 : UInt8), (5 : UInt8), (3 : UInt8), (4 : UInt8), (4 : UInt8), (5 : UInt8), (4 : UInt8), (5 : UInt8), (5 : UInt8), (6 : UInt8), (2 : UInt8), (3 : UInt8), (3 : UInt8), (4 : UInt8), (3 : UInt8), (4 : UInt8), (4 : UInt8), (5 : UInt8), (3 : UInt8), (4 : UInt8), (4 : UInt8), (5 : UInt8), (4 : UInt8), (5 : UInt8), (5 : UInt8), (6 : UInt8), (3 : UInt8), (4 : UInt8), (4 : UInt8), (5 : UInt8), (4 : UInt8), (5 : UInt8), (5 : UInt8), (6 : UInt8), (4 : UInt8), (5 : UInt8), (5 : UInt8), (6 : UInt8), (5 : UInt8), (6 : UInt8), (6 : UInt8), (7 : UInt8)] [(2 : UInt8), (3 : UInt8), (3 : UInt8), (4 : UInt8), (3 : UInt8), (4 : UInt8), (4 : UInt8), (5 : UInt8), (3 : UInt8), (4 : UInt8), (4 : UInt8), (5 : UInt8), (4 : UInt8), (5 : UInt8), (5 : UInt8), (6 : UInt8), (3 : UInt8), (4 : UInt8), (4 : UInt8), (5 : UInt8), (4 : UInt8), (5 : UInt8), (5 : UInt8), (6 : UInt8), (4 : UInt8), (5 : UInt8), (5 : UInt8), (6 : UInt8), (5 : UInt8), (6 : UInt8), (6 : UInt8), (7 : UInt8), (3 : UInt8), (4 : UInt8), (4 : UInt8), (5 : UInt8), (4 : UInt8), (5 : UInt8), (5 : UInt8), (6 : UInt8), (4 : UInt8), (5 : UInt8), (5 : UInt8), (6 : UInt8), (5 : UInt8), (6 : UInt8), (6 : UInt8), (7 : UInt8), (4 : UInt8), (5 : UInt8), (5 : UInt8), (6 : UInt8), (5 : UInt8), (6 : UInt8), (6 : UInt8), (7 : UInt8), (5 : UInt8), (6 : UInt8), (6 : UInt8), (7 : UInt8), (6 : UInt8), (7 : UInt8), (7 : UInt8), (8 : UInt8)])))))) (Int.toNat x0) (0 : UInt8))) : Int), ()))) := by kernel_rfl
theorem c25_valid : c25.Valid Try.prog 25 := by
  refine Ctr.valid_of E25_ok rfl Try.func25 (c := bodyOf Try.prog 25) rfl rfl F25_ok (by decide) ?_
  rintro ⟨(x0 : Int), ⟨⟩⟩ - ⟨h0, -⟩
  refine exec_sound (n := 1000) E25_ok F25_ok ?_
  refine holds_of_eq (E25_t x0) ?_
  have g0 : 0 ≤ x0 ∧ x0 ≤ 255 := h0
  obtain ⟨n, rfl⟩ : ∃ n : Fin 256, x0 = ((n.val : Nat) : Int) := ⟨⟨x0.toNat, by omega⟩, by simp; omega⟩
  refine ⟨?_, fun _ => ?_⟩
  · clear h0 g0; revert n; decide +kernel
  · show ((_, ()) : Int × Unit) = (ones n, ())
    clear h0 g0; revert n; decide +kernel

noncomputable def E37 : Env := { P := Try.prog, tt := tt, ctr := [(25, c25)], res := [Go.ResultVar.tmp 4], rs := [Ty.bool], cuts := [], nt := 13 }
theorem E37_ok : EnvOk E37 := envOk tt_ok ⟨c25_valid, trivial⟩
theorem F37_ok : FnOk E37 Try.f37 := ⟨rfl, rfl⟩
theorem E37_t (x0 : Int) (x1 : Int) : exec E37 1000 [.code (bodyOf Try.prog 37)] (initSt c37.ps ((x0, x1, ()))) =
  .need (True) (.need (inK IntKind.i64 ((2 : Int) * ones (bAnd IntKind.u8 x0 x1))) (.need (True) (.ret ((decide (ones x1 < (2 : Int) * ones (bAnd IntKind.u8 x0 x1)), ()))))) := by kernel_rfl
theorem c37_valid : c37.Valid Try.prog 37 := by
  refine Ctr.valid_of E37_ok rfl Try.func37 (c := bodyOf Try.prog 37) rfl rfl F37_ok (by decide) ?_
  rintro ⟨(x0 : Int), (x1 : Int), ⟨⟩⟩ - ⟨h0, h1, -⟩
  refine exec_sound (n := 1000) E37_ok F37_ok ?_
  refine holds_of_eq (E37_t x0 x1) ?_
  have hb : ∀ a b : Int, 0 ≤ ones (bAnd .u8 a b) ∧ ones (bAnd .u8 a b) ≤ 8 := fun a b => ones_le _
  refine ⟨trivial, fun _ => ⟨?_, fun _ => ⟨trivial, fun _ => rfl⟩⟩⟩
  have := hb x0 x1
  show -9223372036854775808 ≤ _ ∧ _ ≤ 9223372036854775807
  omega

noncomputable def E16 : Env := { P := Try.prog, tt := tt, ctr := [(26, c26), (37, c37)], res := [Go.ResultVar.tmp 4, Go.ResultVar.tmp 5], rs := [Ty.bool, Ty.int IntKind.i64], cuts := [(2, [2, 3, 11, 12, 13, 30, 31, 32, 33, 34])], nt := 36 }
theorem E16_ok : EnvOk E16 := envOk tt_ok ⟨c26_valid, c37_valid, trivial⟩
theorem F16_ok : FnOk E16 Try.f16 := ⟨rfl, rfl⟩
theorem E16_t (x0_1 : Int) (x0_2_1 : Int) (x1_1 : Int) (x1_2_1 : Int) : exec E16 1000 [.code (bodyOf Try.prog 16)] (initSt c16.ps (((x0_1, x0_2_1, ()), (x1_1, x1_2_1, ()), ()))) =
  .cut (loopAt (bodyOf Try.prog 16) 2).1 (loopAt (bodyOf Try.prog 16) 2).2 (St.mk [(2, AV.ptr 2 []), (3, AV.ptr 3 []), (11, AV.at_ 11 []), (12, AV.val (Ty.int IntKind.i64) (↑(List.length (List.set (List.set [((0 : Int), (0 : Int), PUnit.unit), ((0 : Int), (0 : Int), PUnit.unit)] (Int.toNat (↑0 : Int)) (x0_1, x0_2_1, ())) (Int.toNat (↑1 : Int)) (x1_1, x1_2_1, ()))) : Int)), (13, AV.val (Ty.int IntKind.i64) (0 : Int)), (30, AV.any), (31, AV.any), (32, AV.any), (33, AV.any), (34, AV.any)] [(2, Ent.var V (x0_1, x0_2_1, ())), (3, Ent.var V (x1_1, x1_2_1, ())), (11, Ent.own (Ty.slc true V) (List.set (List.set [((0 : Int), (0 : Int), PUnit.unit), ((0 : Int), (0 : Int), PUnit.unit)] (Int.toNat (↑0 : Int)) (x0_1, x0_2_1, ())) (Int.toNat (↑1 : Int)) (x1_1, x1_2_1, ())))]) := by kernel_rfl
def E16_s2 (v12 : Int) (v13 : Int) (o2_1 : Int) (o2_2_1 : Int) (o3_1 : Int) (o3_2_1 : Int) (o11 : List (Int × Int × Unit)) : St := St.mk [(2, AV.ptr 2 []), (3, AV.ptr 3 []), (11, AV.at_ 11 []), (12, AV.val (Ty.int IntKind.i64) v12), (13, AV.val (Ty.int IntKind.i64) v13), (30, AV.any), (31, AV.any), (32, AV.any), (33, AV.any), (34, AV.any)] [(2, Ent.var V (o2_1, o2_2_1, ())), (3, Ent.var V (o3_1, o3_2_1, ())), (11, Ent.own (Ty.slc true V) o11)]
theorem E16_l2 (v12 : Int) (v13 : Int) (o2_1 : Int) (o2_2_1 : Int) (o3_1 : Int) (o3_2_1 : Int) (o11 : List (Int × Int × Unit)) : exec E16 1000 (.code (loopAt (bodyOf Try.prog 16) 2).1 :: .inLoop (loopAt (bodyOf Try.prog 16) 2).1 :: (loopAt (bodyOf Try.prog 16) 2).2) (E16_s2 v12 v13 o2_1 o2_2_1 o3_1 o3_2_1 o11) =
  cond (decide (v13 < v12)) (.need ((0 : Ty.den (Ty.int IntKind.i64)) ≤ v13 ∧ v13 < (↑(List.length o11) : Ty.den (Ty.int IntKind.i64))) (.need (True) (cond (decide (check (List.getD o11 (Int.toNat v13) ((0 : Int), (0 : Int), PUnit.unit)) ≠ (0 : Int))) (.ret ((false, check (List.getD o11 (Int.toNat v13) ((0 : Int), (0 : Int), PUnit.unit)), ()))) (.need (inK IntKind.i64 (v13 + (1 : Int))) (.cut (loopAt (bodyOf Try.prog 16) 2).1 (loopAt (bodyOf Try.prog 16) 2).2 (St.mk [(2, AV.ptr 2 []), (3, AV.ptr 3 []), (11, AV.at_ 11 []), (12, AV.val (Ty.int IntKind.i64) v12), (13, AV.val (Ty.int IntKind.i64) (v13 + (1 : Int))), (30, AV.any), (31, AV.any), (32, AV.any), (33, AV.any), (34, AV.any)] [(2, Ent.var V (o2_1, o2_2_1, ())), (3, Ent.var V (o3_1, o3_2_1, ())), (11, Ent.own (Ty.slc true V) o11)])))))) (.need (inK IntKind.i64 (o2_1 + (1 : Int))) (cond (decide (o3_1 = o2_1 + (1 : Int))) (.need (True) (.ret ((half o3_2_1 o2_2_1, (0 : Int), ())))) (.ret ((false, (0 : Int), ()))))) := by kernel_rfl
theorem c16_valid : c16.Valid Try.prog 16 := by
  refine Ctr.valid_of E16_ok rfl Try.func16 (c := bodyOf Try.prog 16) rfl rfl F16_ok (by decide) ?_
  rintro ⟨⟨(x0 : Int), (x1 : Int), ⟨⟩⟩, ⟨(y0 : Int), (y1 : Int), ⟨⟩⟩, ⟨⟩⟩ - ⟨⟨h0, h1, -⟩, ⟨h2, h3, -⟩, -⟩
  refine exec_sound (n := 1000) E16_ok F16_ok ?_
  refine holds_of_eq (E16_t x0 x1 y0 y1) ?_
  refine Reach.loop E16_ok F16_ok (fun v : Int => E16_s2 2 v x0 x1 y0 y1 [(x0, x1, ()), (y0, y1, ())]) (fun v => 0 ≤ v ∧ v ≤ 2 ∧ (1 ≤ v → check (x0, x1, ()) = 0) ∧ (2 ≤ v → check (y0, y1, ()) = 0))
    (fun v => (2 - v).toNat) 1000 (fun v => ⟨by repeat' (first | exact trivial | refine ⟨rfl, ?_⟩), by repeat' (first | exact trivial | refine ⟨rfl, ?_⟩)⟩) ?_ 0 ⟨by omega, by omega, by omega, by omega⟩
  rintro v ⟨k1, k2, k3, k4⟩ -
  refine holds_of_eq (E16_l2 ..) ?_
  simp only [holds_cond, Tree.holds, decide_eq_true_eq, decide_eq_false_iff_not]
  have g0 : -9223372036854775808 ≤ x0 ∧ x0 ≤ 9223372036854775807 := h0
  refine ⟨fun a => ⟨⟨k1, by simpa using a⟩, fun _ => ⟨trivial, fun _ => ?_⟩⟩, fun a => ?_⟩
  · rcases (show v = 0 ∨ v = 1 by omega) with rfl | rfl
    · refine ⟨fun b => ?_, fun b => ⟨⟨by decide, by decide⟩, fun _ => .inl ⟨trivial, trivial, 1, rfl, ⟨by omega, by omega, fun _ => by simpa using b, by omega⟩, by omega⟩⟩⟩
      show ((_, _, ()) : Bool × Int × Unit) = follows _ _
      rw [follows, if_pos (by simpa using b)]; rfl
    · refine ⟨fun b => ?_, fun b => ⟨⟨by decide, by decide⟩, fun _ => .inl ⟨trivial, trivial, 2, rfl, ⟨by omega, by omega, fun _ => k3 (by omega), fun _ => by simpa using b⟩, by omega⟩⟩⟩
      show ((_, _, ()) : Bool × Int × Unit) = follows _ _
      rw [follows, if_neg (by simp [k3]), if_pos (by simpa using b)]; rfl
  · have e1 := k3 (by omega)
    have e2 := k4 (by omega)
    have hx : 0 ≤ x0 ∧ x0 ≤ 16777215 := by
      unfold check at e1
      simp only at e1
      split at e1 <;> omega
    have hf : follows (x0, x1, ()) (y0, y1, ()) = (decide (y0 = x0 + 1) && half y1 x1, 0, ()) := by
      rw [follows, if_neg (by simp [e1]), if_neg (by simp [e2])]
    refine ⟨⟨by show -9223372036854775808 ≤ _; omega, by show _ ≤ 9223372036854775807; omega⟩, fun _ => ⟨fun b => ⟨trivial, fun _ => ?_⟩, fun b => ?_⟩⟩
    · show ((_, _, ()) : Bool × Int × Unit) = follows _ _
      rw [hf]; simp [b]
    · show ((_, _, ()) : Bool × Int × Unit) = follows _ _
      rw [hf]; simp [b]

noncomputable def E4 : Env := { P := Try.prog, tt := tt, ctr := [(16, c16)], res := [Go.ResultVar.tmp 6], rs := [Ty.bool], cuts := [], nt := 82 }
theorem E4_ok : EnvOk E4 := envOk tt_ok ⟨c16_valid, trivial⟩
theorem F4_ok : FnOk E4 Try.f4 := ⟨rfl, rfl⟩
theorem E4_t (x0_1 : Int) (x0_2_1 : Int) (x1_1 : Int) (x1_2_1 : Int) (x2_1 : Int) (x2_2_1 : Int) : exec E4 1000 [.code (bodyOf Try.prog 4)] (initSt c4.ps (((x0_1, x0_2_1, ()), (x1_1, x1_2_1, ()), (x2_1, x2_2_1, ()), ()))) =
  .need (True) (cond (decide (Prod.fst (Prod.snd (follows ((0 : Int), (7 : Int), PUnit.unit) ((1 : Int), (3 : Int), PUnit.unit))) ≠ (0 : Int))) (.ret ((false, ()))) (cond (!Prod.fst (follows ((0 : Int), (7 : Int), PUnit.unit) ((1 : Int), (3 : Int), PUnit.unit))) (.ret ((false, ()))) (.need (True) (cond (decide (Prod.fst (Prod.snd (follows ((0 : Int), (7 : Int), PUnit.unit) ((1 : Int), (1 : Int), PUnit.unit))) ≠ (0 : Int))) (.ret ((false, ()))) (cond (Prod.fst (follows ((0 : Int), (7 : Int), PUnit.unit) ((1 : Int), (1 : Int), PUnit.unit))) (.ret ((false, ()))) (.need (True) (.need (True) (cond (decide (Prod.fst (Prod.snd (follows (x0_1, x0_2_1, ()) (x1_1, x1_2_1, ()))) ≠ (0 : Int))) (.ret ((true, ()))) (cond (decide (Prod.fst (Prod.snd (follows (x0_1, x0_2_1, ()) (x2_1, x2_2_1, ()))) ≠ (0 : Int))) (.ret ((true, ()))) (cond (!Prod.fst (follows (x0_1, x0_2_1, ()) (x1_1, x1_2_1, ()))) (.ret ((true, ()))) (cond (!Prod.fst (follows (x0_1, x0_2_1, ()) (x2_1, x2_2_1, ()))) (.ret ((true, ()))) (cond (decide (bAnd IntKind.u8 (bAnd IntKind.u8 x1_2_1 x2_2_1) x0_2_1 ≠ (0 : Int))) (.ret ((decide (x1_1 = x2_1), ()))) (.ret ((false, ()))))))))))))))) := by kernel_rfl
theorem c4_valid : c4.Valid Try.prog 4 := by
  refine Ctr.valid_of E4_ok rfl Try.func4 (c := bodyOf Try.prog 4) rfl rfl F4_ok (by decide) ?_
  rintro ⟨⟨(x0 : Int), (x1 : Int), ⟨⟩⟩, ⟨(y0 : Int), (y1 : Int), ⟨⟩⟩, ⟨(z0 : Int), (z1 : Int), ⟨⟩⟩, ⟨⟩⟩ - ⟨⟨h0, h1, -⟩, ⟨h2, h3, -⟩, ⟨h4, h5, -⟩, -⟩
  refine exec_sound (n := 1000) E4_ok F4_ok ?_
  refine holds_of_eq (E4_t x0 x1 y0 y1 z0 z1) ?_
  have f1 : follows (0, 7, ()) (1, 3, ()) = (true, 0, ()) := by decide +kernel
  have f2 : follows (0, 7, ()) (1, 1, ()) = (false, 0, ()) := by decide +kernel
  have g1 : 0 ≤ x1 ∧ x1 ≤ 255 := h1
  have g3 : 0 ≤ y1 ∧ y1 ≤ 255 := h3
  have g5 : 0 ≤ z1 ∧ z1 ≤ 255 := h5
  have ok : ((true, ()) : DL [Ty.bool]) = c4.fn ((x0, x1, ()), (y0, y1, ()), (z0, z1, ()), ()) := rfl
  simp only [f1, f2, holds_cond, Tree.holds]
  refine ⟨trivial, fun _ => ⟨fun a => by simp at a, fun _ => ⟨fun a => by simp at a, fun _ => ⟨trivial, fun _ => ⟨fun a => by simp at a, fun _ => ⟨fun a => by simp at a, fun _ => ⟨trivial, fun _ => ⟨trivial, fun _ => ?_⟩⟩⟩⟩⟩⟩⟩⟩
  refine ⟨fun _ => ok, fun a => ⟨fun _ => ok, fun b => ⟨fun _ => ok, fun c => ⟨fun _ => ok, fun d => ?_⟩⟩⟩⟩
  have i1 := follows_inv (by simpa using a) (by simpa using c)
  have i2 := follows_inv (by simpa using b) (by simpa using d)
  have m := half_meet g1 g3 g5 i1.2.2.2 i2.2.2.2
  refine ⟨fun _ => ?_, fun e => absurd e (by simpa using m)⟩
  have e : y0 = z0 := by have := i1.2.2.1; have := i2.2.2.1; simp only at *; omega
  show ((decide (y0 = z0), ()) : DL [Ty.bool]) = c4.fn _
  rw [decide_eq_true e]; rfl
end Go.Proofs.Ytagjonjobbckdaa
