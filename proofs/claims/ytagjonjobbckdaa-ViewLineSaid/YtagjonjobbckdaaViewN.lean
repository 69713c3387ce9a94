/- The contracts of the package view's functions. -/
import Derived.Test.YtagjonjobbckdaaProg
import Derived.Test.YtagjonjobbckdaaTys
import Derived.Test.YtagjonjobbckdaaBits
namespace Go.Proofs.Ytagjonjobbckdaa
open Go.Ex
set_option maxRecDepth 100000

def outside (m : Int) : Bool := decide (64 ≤ m)
def half (p o : Int) : Bool := decide (ones o < 2 * ones (bAnd .u8 p o))
def check (v : Int × Int × Unit) : Int := if v.1 < 0 ∨ 16777215 < v.1 ∨ v.2.1 = 0 ∨ 64 ≤ v.2.1 then 1 else 0
def follows (a b : Int × Int × Unit) : Bool × Int × Unit := if check a ≠ 0 then (false, check a, ()) else if check b ≠ 0 then (false, check b, ()) else (decide (b.1 = a.1 + 1) && half b.2.1 a.2.1, 0, ())

theorem follows_inv {a b : Int × Int × Unit} (_ : (follows a b).2.1 = 0) (h1 : (follows a b).1 = true) : check a = 0 ∧ check b = 0 ∧ b.1 = a.1 + 1 ∧ half b.2.1 a.2.1 = true := by
  unfold follows at h1
  split at h1
  · cases h1
  · split at h1
    · cases h1
    · simp only [Bool.and_eq_true, decide_eq_true_eq] at h1
      rename_i k1 k2
      exact ⟨by simpa using k1, by simpa using k2, h1.1, h1.2⟩

theorem half_meet {x y z : Int} (hx : 0 ≤ x ∧ x ≤ 255) (hy : 0 ≤ y ∧ y ≤ 255) (hz : 0 ≤ z ∧ z ≤ 255) (h1 : half y x = true) (h2 : half z x = true) : bAnd .u8 (bAnd .u8 y z) x ≠ 0 := by
  intro h
  have hb := (zero_bits (u8_in.1 and_in).1).1 h
  simp only [half, decide_eq_true_eq] at h1 h2
  have := ones_add (a := bAnd .u8 y x) (b := bAnd .u8 z x) (c := x) (fun i => by
    have := hb i
    rw [bit_and u8s and_in hx, bit_and u8s hy hz] at this
    rw [bit_and u8s hy hx, bit_and u8s hz hx]
    revert this
    cases bit x i <;> cases bit y i <;> cases bit z i <;> simp)
  omega

/-! Next, First -/
def tz (m : Int) : Int := ((((List.range 8).find? (bit m)).getD 8 : Nat) : Int)
def nextV (v : Int × Int × Unit) (g c : Int) : (Int × Int × Unit) × Int × Unit :=
  if check v ≠ 0 then ((0, 0, ()), check v, ()) else if outside (bOr .u8 g c) = true then ((0, 0, ()), 1, ()) else if bAnd .u8 g c ≠ 0 then ((0, 0, ()), 1, ())
  else if v.1 = 16777215 then ((0, 0, ()), 8, ()) else if (!half (bAndNot .u8 v.2.1 g) v.2.1) = true then ((0, 0, ()), 11, ()) else ((v.1 + 1, bOr .u8 (bAndNot .u8 v.2.1 g) c, ()), 0, ())
def firstV (v : Int × Int × Unit) : Int × Int × Unit := if check v ≠ 0 then (0, check v, ()) else (tz v.2.1, 0, ())

theorem check_inv {v : Int × Int × Unit} (h : check v = 0) : 0 ≤ v.1 ∧ v.1 ≤ 16777215 ∧ v.2.1 ≠ 0 ∧ v.2.1 < 64 := by
  unfold check at h
  split at h
  · cases h
  · omega
theorem check_mk {v : Int × Int × Unit} (h : 0 ≤ v.1 ∧ v.1 ≤ 16777215 ∧ v.2.1 ≠ 0 ∧ v.2.1 < 64) : check v = 0 := by
  unfold check
  rw [if_neg (by omega)]

theorem nextV_inv {v : Int × Int × Unit} {g c : Int} (h : (nextV v g c).2.1 = 0) : check v = 0 ∧ outside (bOr .u8 g c) = false ∧ bAnd .u8 g c = 0 ∧ v.1 ≠ 16777215 ∧ half (bAndNot .u8 v.2.1 g) v.2.1 = true ∧
    nextV v g c = ((v.1 + 1, bOr .u8 (bAndNot .u8 v.2.1 g) c, ()), 0, ()) := by
  unfold nextV at h ⊢
  split at h
  · rename_i h0; exact absurd h h0
  · rename_i h0
    rw [if_neg h0]
    split at h
    · cases h
    · rename_i h1
      rw [if_neg h1]
      split at h
      · cases h
      · rename_i h2
        rw [if_neg h2]
        split at h
        · cases h
        · rename_i h3
          rw [if_neg h3]
          split at h
          · cases h
          · rename_i h4
            rw [if_neg h4]
            exact ⟨by simpa using h0, by simpa using h1, by simpa using h2, h3, by simpa using h4, rfl⟩

theorem nextV_err {v : Int × Int × Unit} {g c : Int} (h : (nextV v g c).2.1 ≠ 0) : (nextV v g c).1 = (0, 0, ()) := by
  unfold nextV at h ⊢
  repeat' split
  all_goals first | rfl | (simp_all; done)

theorem lt64 {x : Int} (hx : 0 ≤ x ∧ x ≤ 255) : x < 64 ↔ ∀ i, 6 ≤ i → bit x i = false := by
  constructor
  · intro h i hi
    exact Nat.testBit_lt_two_pow (Nat.lt_of_lt_of_le (show x.toNat < 2 ^ 6 by omega) (Nat.pow_le_pow_right (by omega) hi))
  · intro h
    have : x.toNat < 2 ^ 6 := Nat.lt_pow_two_of_testBit _ (fun i hi => h i hi)
    omega

/-- a view's next one follows it, without who is gone and with who comes -/
theorem next_follows {n M g c : Int} (hM : 0 ≤ M ∧ M ≤ 255) (hg : 0 ≤ g ∧ g ≤ 255) (hc : 0 ≤ c ∧ c ≤ 255) (h : (nextV (n, M, ()) g c).2.1 = 0) :
    check (n + 1, bOr .u8 (bAndNot .u8 M g) c, ()) = 0 ∧ half (bOr .u8 (bAndNot .u8 M g) c) M = true ∧ bAnd .u8 (bOr .u8 (bAndNot .u8 M g) c) g = 0 ∧ bAndNot .u8 c (bOr .u8 (bAndNot .u8 M g) c) = 0 := by
  obtain ⟨h1, h2, h3, h4, h5, _⟩ := nextV_inv h
  obtain ⟨k1, k2, k3, k4⟩ := check_inv h1
  simp only at k1 k2 k3 k4 h4 h5
  have hW : inK .u8 (bOr .u8 (bAndNot .u8 M g) c) := or_in
  have hbW : ∀ i, bit (bOr .u8 (bAndNot .u8 M g) c) i = ((bit M i && !bit g i) || bit c i) := fun i => by rw [bit_or u8s andNot_in hc, bit_andNot u8s hM hg]
  have hgc : ∀ i, (bit g i && bit c i) = false := fun i => by rw [← bit_and u8s hg hc]; exact (zero_bits (u8_in.1 and_in).1).1 h3 i
  have hgc6 : ∀ i, 6 ≤ i → (bit g i || bit c i) = false := fun i hi => by
    rw [← bit_or u8s hg hc]
    refine (lt64 (u8_in.1 or_in)).1 ?_ i hi
    have : ¬ (64 ≤ bOr .u8 g c) := of_decide_eq_false h2
    omega
  have hM6 := (lt64 hM).1 k4
  have hh : half (bOr .u8 (bAndNot .u8 M g) c) M = true := by
    simp only [half, decide_eq_true_eq] at h5 ⊢
    have := ones_mono (a := bAnd .u8 (bAndNot .u8 M g) M) (b := bAnd .u8 (bOr .u8 (bAndNot .u8 M g) c) M) (fun i => by
      rw [bit_and u8s andNot_in hM, bit_and u8s hW hM, hbW, bit_andNot u8s hM hg]
      cases bit M i <;> cases bit g i <;> cases bit c i <;> simp)
    omega
  refine ⟨check_mk ⟨by simp only; omega, by simp only; omega, ?_, ?_⟩, hh, ?_, ?_⟩
  · intro h0
    rw [show bOr .u8 (bAndNot .u8 M g) c = 0 from h0] at hh
    simp only [half, decide_eq_true_eq] at hh
    have : ones (bAnd .u8 0 M) ≤ ones 0 := ones_mono (fun i => by rw [bit_and u8s (by decide) hM]; simp [bit])
    have h9 : ones 0 = 0 := by decide
    have := (ones_le M).1
    omega
  · refine (lt64 (u8_in.1 hW)).2 (fun i hi => ?_)
    have a1 := hgc6 i hi
    have a2 := hM6 i hi
    rw [hbW, a2]
    revert a1
    cases bit g i <;> cases bit c i <;> simp
  · refine (zero_bits (u8_in.1 and_in).1).2 (fun i => ?_)
    rw [bit_and u8s hW hg, hbW]
    have := hgc i
    revert this
    cases bit M i <;> cases bit g i <;> cases bit c i <;> simp
  · refine (zero_bits (u8_in.1 andNot_in).1).2 (fun i => ?_)
    rw [bit_andNot u8s hc hW, hbW]
    cases bit M i <;> cases bit g i <;> cases bit c i <;> simp

theorem tz_bit {m : Int} (h : 0 ≤ m ∧ m ≤ 255) (h0 : m ≠ 0) : 0 ≤ tz m ∧ tz m ≤ 7 ∧ bAnd .u8 (m / 2 ^ min (Int.toNat (tz m)) IntKind.u8.bits) 1 = 1 := by
  obtain ⟨n, rfl⟩ : ∃ n : Fin 256, m = ((n.val : Nat) : Int) := ⟨⟨m.toNat, by omega⟩, by simp; omega⟩
  clear h
  revert n
  decide +kernel

def c38 : Ctr := { ps := [.v (.int .u8)], rs := [.bool], pre := fun _ => True, fn := fun x => (outside x.1, ()), out := fun _ => () }
def c26 : Ctr := { ps := [.v V], rs := [.int .i64], pre := fun _ => True, fn := fun x => (check x.1, ()), out := fun _ => () }
def c25 : Ctr := { ps := [.v (.int .u8)], rs := [.int .i64], pre := fun _ => True, fn := fun x => (ones x.1, ()), out := fun _ => () }
def c37 : Ctr := { ps := [.v (.int .u8), .v (.int .u8)], rs := [.bool], pre := fun _ => True, fn := fun x => (half x.1 x.2.1, ()), out := fun _ => () }
def c27 : Ctr := { ps := [.v (.int .u8)], rs := [.int .i64], pre := fun _ => True, fn := fun x => (tz x.1, ()), out := fun _ => () }
def c22 : Ctr := { ps := [.v V, .v (.int .u8), .v (.int .u8)], rs := [V, .int .i64], pre := fun _ => True, fn := fun x => nextV x.1 x.2.1 x.2.2.1, out := fun _ => () }
def c23 : Ctr := { ps := [.v V], rs := [.int .i64, .int .i64], pre := fun _ => True, fn := fun x => firstV x.1, out := fun _ => () }

noncomputable def E38 : Env := { P := Try.prog, tt := tt, ctr := [], res := [Go.ResultVar.tmp 2], rs := [Ty.bool], ps := [PK.v (Ty.int IntKind.u8)], cuts := [], nt := 6 }
theorem E38_ok : EnvOk E38 := envOk tt_ok trivial
theorem F38_ok : FnOk E38 Try.f38 := ⟨rfl, rfl⟩
theorem E38_t (x0 : Int) : exec E38 1000 [.code (bodyOf Try.prog 38)] (initSt c38.ps ((x0, ()))) =
  .need ((0 : Int) ≤ (6 : Int)) (.ret ((decide (x0 / (2 : Int) ^ min (Int.toNat (6 : Int)) (IntKind.bits IntKind.u8) ≠ (0 : Int)), ()))) := by kernel_rfl
theorem c38_valid : c38.Valid Try.prog 38 := by
  refine Ctr.valid_of E38_ok rfl rfl Try.func38 (c := bodyOf Try.prog 38) rfl rfl F38_ok rfl ?_
  rintro ⟨(x0 : Int), ⟨⟩⟩ - ⟨h0, -⟩
  refine exec_sound (n := 1000) E38_ok F38_ok ?_
  refine holds_of_eq (E38_t x0) ?_
  refine ⟨by decide, fun _ => ?_⟩
  have h : 0 ≤ x0 ∧ x0 ≤ 255 := h0
  show (decide (x0 / 2 ^ 6 ≠ 0), ()) = (outside x0, ())
  unfold outside
  congr 1
  exact decide_eq_decide.2 (by omega)

noncomputable def E26 : Env := { P := Try.prog, tt := tt, ctr := [(38, c38)], res := [Go.ResultVar.tmp 2], rs := [Ty.int IntKind.i64], ps := [PK.v V], cuts := [], nt := 21 }
theorem E26_ok : EnvOk E26 := envOk tt_ok ⟨c38_valid, trivial⟩
theorem F26_ok : FnOk E26 Try.f26 := ⟨rfl, rfl⟩
theorem E26_t (x0_1 : Int) (x0_2_1 : Int) : exec E26 1000 [.code (bodyOf Try.prog 26)] (initSt c26.ps (((x0_1, x0_2_1, ()), ()))) =
  cond (decide (x0_1 < (0 : Int))) (.ret (((1 : Int), ()))) (cond (decide ((16777215 : Int) < x0_1)) (.ret (((1 : Int), ()))) (cond (decide (x0_2_1 = (0 : Int))) (.ret (((1 : Int), ()))) (.need (True) (cond (outside x0_2_1) (.ret (((1 : Int), ()))) (.ret (((0 : Int), ()))))))) := by kernel_rfl
theorem c26_valid : c26.Valid Try.prog 26 := by
  refine Ctr.valid_of E26_ok rfl rfl Try.func26 (c := bodyOf Try.prog 26) rfl rfl F26_ok rfl ?_
  rintro ⟨⟨(x0 : Int), (x1 : Int), ⟨⟩⟩, ⟨⟩⟩ - ⟨⟨h0, h1, -⟩, -⟩
  refine exec_sound (n := 1000) E26_ok F26_ok ?_
  refine holds_of_eq (E26_t x0 x1) ?_
  have g0 : -9223372036854775808 ≤ x0 ∧ x0 ≤ 9223372036854775807 := h0
  have g1 : 0 ≤ x1 ∧ x1 ≤ 255 := h1
  simp only [holds_cond, Tree.holds, decide_eq_true_eq, decide_eq_false_iff_not]
  have key : ∀ r : Int, r = check (x0, x1, ()) → ((r, ()) : DL [Ty.int .i64]) = c26.fn ((x0, x1, ()), ()) := by rintro r rfl; rfl
  refine ⟨fun a => key _ ?_, fun a => ⟨fun b => key _ ?_, fun b => ⟨fun c => key _ ?_, fun c => ⟨trivial, fun _ => ⟨fun d => key _ ?_, fun d => key _ ?_⟩⟩⟩⟩⟩
  all_goals simp only [check, outside, decide_eq_true_eq, decide_eq_false_iff_not] at *
  all_goals (first | rw [if_pos (by omega)] | rw [if_neg (by omega)])

noncomputable def E25 : Env := { P := Try.prog, tt := tt, ctr := [], res := [Go.ResultVar.tmp 2], rs := [Ty.int IntKind.i64], ps := [PK.v (Ty.int IntKind.u8)], cuts := [], nt := 6 }
theorem E25_ok : EnvOk E25 := envOk tt_ok trivial
theorem F25_ok : FnOk E25 Try.f25 := ⟨rfl, rfl⟩
theorem E25_t (x0 : Int) : exec E25 1000 [.code (bodyOf Try.prog 25)] (initSt c25.ps ((x0, ()))) =
  .need ((0 : Int) ≤ x0 ∧ x0 < (↑(List.length (Array.toList (ByteArray.data (ByteArray.mk (List.toArray (List.append (List.append [(0 : UInt8), (1 : UInt8), (1 : UInt8), (2 : UInt8), (1 : UInt8), (2 : UInt8), (2 : UInt8), (3 : UInt8), (1 : UInt8), (2 : UInt8), (2 : UInt8), (3 : UInt8), (2 : UInt8), (3 : UInt8), (3 : UInt8), (4 : UInt8), (1 : UInt8), (2 : UInt8), (2 : UInt8), (3 : UInt8), (2 : UInt8), (3 : UInt8), (3 : UInt8), (4 : UInt8), (2 : UInt8), (3 : UInt8), (3 : UInt8), (4 : UInt8), (3 : UInt8), (4 : UInt8), (4 : UInt8), (5 : UInt8), (1 : UInt8), (2 : UInt8), (2 : UInt8), (3 : UInt8), (2 : UInt8), (3 : UInt8), (3 : UInt8), (4 : UInt8), (2 : UInt8), (3 : UInt8), (3 : UInt8), (4 : UInt8), (3 : UInt8), (4 : UInt8), (4 : UInt8), (5 : UInt8), (2 : UInt8), (3 : UInt8), (3 : UInt8), (4 : UInt8), (3 : UInt8), (4 : UInt8), (4 : UInt8), (5 : UInt8), (3 : UInt8), (4 : UInt8), (4 : UInt8), (5 : UInt8), (4 : UInt8), (5 : UInt8), (5 : UInt8), (6 : UInt8)] [(1 : UInt8), (2 : UInt8), (2 : UInt8), (3 : UInt8), (2 : UInt8), (3 : UInt8), (3 : UInt8), (4 : UInt8), (2 : UInt8), (3 : UInt8), (3 : UInt8), (4 : UInt8), (3 : UInt8), (4 : UInt8), (4 : UInt8), (5 : UInt8), (2 : UInt8), (3 : UInt8), (3 : UInt8), (4 : UInt8), (3 : UInt8), (4 : UInt8), (4 : UInt8), (5 : UInt8), (3 : UInt8), (4 : UInt8), (4 : UInt8), (5 : UInt8), (4 : UInt8), (5 : UInt8), (5 : UInt8), (6 : UInt8), (2 : UInt8), (3 : UInt8), (3 : UInt8), (4 : UInt8), (3 : UInt8), (4 : UInt8), (4 : UInt8), (5 : UInt8), (3 : UInt8), (4 : UInt8), (4 : UInt8), (5 : UInt8), (4 : UInt8), (5 : UInt8), (5 : UInt8), (6 : UInt8), (3 : UInt8), (4 : UInt8), (4 : UInt8), (5 : UInt8), (4 : UInt8), (5 : UInt8), (5 : UInt8), (6 : UInt8), (4 : UInt8), (5 : UInt8), (5 : UInt8), (6 : UInt8), (5 : UInt8), (6 : UInt8), (6 : UInt8), (7 : UInt8)]) (List.append [(1 : UInt8), (2 : UInt8), (2 : UInt8), (3 : UInt8), (2 : UInt8), (3 : UInt8), (3 : UInt8), (4 : UInt8), (2 : UInt8), (3 : UInt8), (3 : UInt8), (4 : UInt8), (3 : UInt8), (4 : UInt8), (4 : UInt8), (5 : UInt8), (2 : UInt8), (3 : UInt8), (3 : UInt8), (4 : UInt8), (3 : UInt8), (4 : UInt8), (4 : UInt8), (5 : UInt8), (3 : UInt8), (4 : UInt8), (4 : UInt8), (5 : UInt8), (4 : UInt8), (5 : UInt8), (5 : UInt8), (6 : UInt8), (2 : UInt8), (3 : UInt8), (3 : UInt8), (4 : UInt8), (3 : UInt8), (4 : UInt8), (4 : UInt8), (5 : UInt8), (3 : UInt8), (4 : UInt8), (4 : UInt8), (5 : UInt8), (4 : UInt8), (5 : UInt8), (5 : UInt8), (6 : UInt8), (3 : UInt8), (4 : UInt8), (4 : UInt8), (5 : UInt8), (4 : UInt8), (5 : UInt8), (5 : UInt8), (6 : UInt8), (4 : UInt8), (5 : UInt8), (5 : UInt8), (6 : UInt8), (5 : UInt8), (6 : UInt8), (6 : UInt8), (7 : UInt8)] [(2 : UInt8), (3 : UInt8), (3 : UInt8), (4 : UInt8), (3 : UInt8), (4 : UInt8), (4 : UInt8), (5 : UInt8), (3 : UInt8), (4 : UInt8), (4 : UInt8), (5 : UInt8), (4 : UInt8), (5 : UInt8), (5 : UInt8), (6 : UInt8), (3 : UInt8), (4 : UInt8), (4 : UInt8), (5 : UInt8), (4 : UInt8), (5 : UInt8), (5 : UInt8), (6 : UInt8), (4 : UInt8), (5 : UInt8), (5 : UInt8), (6 : UInt8), (5 : UInt8), (6 : UInt8), (6 : UInt8), (7 : UInt8), (3 : UInt8), (4 : UInt8), (4 : UInt8), (5 : UInt8), (4 : UInt8), (5 : UInt8), (5 : UInt8), (6 : UInt8), (4 : UInt8), (5 : UInt8), (5 : UInt8), (6 : UInt8), (5 : UInt8), (6 : UInt8), (6 : UInt8), (7 : UInt8), (4 : UInt8), (5 : UInt8), (5 : UInt8), (6 : UInt8), (5 : UInt8), (6 : UInt8), (6 : UInt8), (7 : UInt8), (5 : UInt8), (6 : UInt8), (6 : UInt8), (7 : UInt8), (6 : UInt8), (7 : UInt8), (7 : UInt8), (8 : UInt8)]))))))) : Int)) (.ret ((IntKind.wrap IntKind.i64 (↑(UInt8.toNat (List.getD (Array.toList (ByteArray.data (ByteArray.mk (List.toArray (List.append (List.append [(0 : UInt8), (1 : UInt8), (1 : UInt8), (2 : UInt8), (1 : UInt8), (2 : UInt8), (2 : UInt8), (3 : UInt8), (1 : UInt8), (2 : UInt8), (2 : UInt8), (3 : UInt8), (2 : UInt8), (3 : UInt8), (3 : UInt8), (4 : UInt8), (1 : UInt8), (2 : UInt8), (2 : UInt8), (3 : UInt8), (2 : UInt8), (3 : UInt8), (3 : UInt8), (4 : UInt8), (2 : UInt8), (3 : UInt8), (3 : UInt8), (4 : UInt8), (3 : UInt8), (4 : UInt8), (4 : UInt8), (5 : UInt8), (1 : UInt8), (2 : UInt8), (2 : UInt8), (3 : UInt8), (2 : UInt8), (3 : UInt8), (3 : UInt8), (4 : UInt8), (2 : UInt8), (3 : UInt8), (3 : UInt8), (4 : UInt8), (3 : UInt8), (4 : UInt8), (4 : UInt8), (5 : UInt8), (2 : UInt8), (3 : UInt8), (3 : UInt8), (4 : UInt8), (3 : UInt8), (4 : UInt8), (4 : UInt8), (5 : UInt8), (3 : UInt8), (4 : UInt8), (4 : UInt8), (5 : UInt8), (4 : UInt8), (5 : UInt8), (5 : UInt8), (6 : UInt8)] [(1 : UInt8), (2 : UInt8), (2 : UInt8), (3 : UInt8), (2 : UInt8), (3 : UInt8), (3 : UInt8), (4 : UInt8), (2 : UInt8), (3 : UInt8), (3 : UInt8), (4 : UInt8), (3 : UInt8), (4 : UInt8), (4 : UInt8), (5 : UInt8), (2 : UInt8), (3 : UInt8), (3 : UInt8), (4 : UInt8), (3 : UInt8), (4 : UInt8), (4 : UInt8), (5 : UInt8), (3 : UInt8), (4 : UInt8), (4 : UInt8), (5 : UInt8), (4 : UInt8), (5 : UInt8), (5 : UInt8), (6 : UInt8), (2 : UInt8), (3 : UInt8), (3 : UInt8), (4 : UInt8), (3 : UInt8), (4 : UInt8), (4 : UInt8), (5 : UInt8), (3 : UInt8), (4 : UInt8), (4 : UInt8), (5 : UInt8), (4 : UInt8), (5 : UInt8), (5 : UInt8), (6 : UInt8), (3 : UInt8), (4 : UInt8), (4 : UInt8), (5 : UInt8), (4 : UInt8), (5 : UInt8), (5 : UInt8), (6 : UInt8), (4 : UInt8), (5 : UInt8), (5 : UInt8), (6 : UInt8), (5 : UInt8), (6 : UInt8), (6 : UInt8), (7 : UInt8)]) (List.append [(1 : UInt8), (2 : UInt8), (2 : UInt8), (3 : UInt8), (2 : UInt8), (3 : UInt8), (3 : UInt8), (4 : UInt8), (2 : UInt8), (3 : UInt8), (3 : UInt8), (4 : UInt8), (3 : UInt8), (4 : UInt8), (4 : UInt8), (5 : UInt8), (2 : UInt8), (3 : UInt8), (3 : UInt8), (4 : UInt8), (3 : UInt8), (4 : UInt8), (4 : UInt8), (5 : UInt8), (3 : UInt8), (4 : UInt8), (4 : UInt8), (5 : UInt8), (4 : UInt8), (5 : UInt8), (5 : UInt8), (6 : UInt8), (2 : UInt8), (3 : UInt8), (3 : UInt8), (4 : UInt8), (3 : UInt8), (4 : UInt8), (4 : UInt8), (5 : UInt8), (3 : UInt8), (4 : UInt8), (4 : UInt8), (5 : UInt8), (4 : UInt8), (5 : UInt8), (5 : UInt8), (6 : UInt8), (3 : UInt8), (4 : UInt8), (4 : UInt8), (5 : UInt8), (4 : UInt8), (5 : UInt8), (5 : UInt8), (6 : UInt8), (4 : UInt8), (5 : UInt8), (5 : UInt8), (6 : UInt8), (5 : UInt8), (6 : UInt8), (6 : UInt8), (7 : UInt8)] [(2 : UInt8), (3 : UInt8), (3 : UInt8), (4 : UInt8), (3 : UInt8), (4 : UInt8), (4 : UInt8), (5 : UInt8), (3 : UInt8), (4 : UInt8), (4 : UInt8), (5 : UInt8), (4 : UInt8), (5 : UInt8), (5 : UInt8), (6 : UInt8), (3 : UInt8), (4 : UInt8), (4 : UInt8), (5 : UInt8), (4 : UInt8), (5 : UInt8), (5 : UInt8), (6 : UInt8), (4 : UInt8), (5 : UInt8), (5 : UInt8), (6 : UInt8), (5 : UInt8), (6 : UInt8), (6 : UInt8), (7 : UInt8), (3 : UInt8), (4 : UInt8), (4 : UInt8), (5 : UInt8), (4 : UInt8), (5 : UInt8), (5 : UInt8), (6 : UInt8), (4 : UInt8), (5 : UInt8), (5 : UInt8), (6 : UInt8), (5 : UInt8), (6 : UInt8), (6 : UInt8), (7 : UInt8), (4 : UInt8), (5 : UInt8), (5 : UInt8), (6 : UInt8), (5 : UInt8), (6 : UInt8), (6 : UInt8), (7 : UInt8), (5 : UInt8), (6 : UInt8), (6 : UInt8), (7 : UInt8), (6 : UInt8), (7 : UInt8), (7 : UInt8), (8 : UInt8)])))))) (Int.toNat x0) (0 : UInt8))) : Int), ()))) := by kernel_rfl
theorem c25_valid : c25.Valid Try.prog 25 := by
  refine Ctr.valid_of E25_ok rfl rfl Try.func25 (c := bodyOf Try.prog 25) rfl rfl F25_ok rfl ?_
  rintro ⟨(x0 : Int), ⟨⟩⟩ - ⟨h0, -⟩
  refine exec_sound (n := 1000) E25_ok F25_ok ?_
  refine holds_of_eq (E25_t x0) ?_
  have g0 : 0 ≤ x0 ∧ x0 ≤ 255 := h0
  obtain ⟨n, rfl⟩ : ∃ n : Fin 256, x0 = ((n.val : Nat) : Int) := ⟨⟨x0.toNat, by omega⟩, by simp; omega⟩
  refine ⟨?_, fun _ => ?_⟩
  · clear h0 g0; revert n; decide +kernel
  · show ((_, ()) : Int × Unit) = (ones n, ())
    clear h0 g0; revert n; decide +kernel

noncomputable def E37 : Env := { P := Try.prog, tt := tt, ctr := [(25, c25)], res := [Go.ResultVar.tmp 4], rs := [Ty.bool], ps := [PK.v (Ty.int IntKind.u8), PK.v (Ty.int IntKind.u8)], cuts := [], nt := 13 }
theorem E37_ok : EnvOk E37 := envOk tt_ok ⟨c25_valid, trivial⟩
theorem F37_ok : FnOk E37 Try.f37 := ⟨rfl, rfl⟩
theorem E37_t (x0 : Int) (x1 : Int) : exec E37 1000 [.code (bodyOf Try.prog 37)] (initSt c37.ps ((x0, x1, ()))) =
  .need (True) (.need (inK IntKind.i64 ((2 : Int) * ones (bAnd IntKind.u8 x0 x1))) (.need (True) (.ret ((decide (ones x1 < (2 : Int) * ones (bAnd IntKind.u8 x0 x1)), ()))))) := by kernel_rfl
theorem c37_valid : c37.Valid Try.prog 37 := by
  refine Ctr.valid_of E37_ok rfl rfl Try.func37 (c := bodyOf Try.prog 37) rfl rfl F37_ok rfl ?_
  rintro ⟨(x0 : Int), (x1 : Int), ⟨⟩⟩ - ⟨h0, h1, -⟩
  refine exec_sound (n := 1000) E37_ok F37_ok ?_
  refine holds_of_eq (E37_t x0 x1) ?_
  have hb : ∀ a b : Int, 0 ≤ ones (bAnd .u8 a b) ∧ ones (bAnd .u8 a b) ≤ 8 := fun a b => ones_le _
  refine ⟨trivial, fun _ => ⟨?_, fun _ => ⟨trivial, fun _ => rfl⟩⟩⟩
  have := hb x0 x1
  show -9223372036854775808 ≤ _ ∧ _ ≤ 9223372036854775807
  omega

noncomputable def E27 : Env := { P := Try.prog, tt := tt, ctr := [], res := [Go.ResultVar.tmp 2], rs := [Ty.int IntKind.i64], ps := [PK.v (Ty.int IntKind.u8)], cuts := [], nt := 6 }
theorem E27_ok : EnvOk E27 := envOk tt_ok trivial
theorem F27_ok : FnOk E27 Try.f27 := ⟨rfl, rfl⟩
theorem E27_t (x0 : Int) : exec E27 1000 [.code (bodyOf Try.prog 27)] (initSt c27.ps ((x0, ()))) =
  .need ((0 : Int) ≤ x0 ∧ x0 < (↑(List.length (Array.toList (ByteArray.data (ByteArray.mk (List.toArray (List.append (List.append [(8 : UInt8), (0 : UInt8), (1 : UInt8), (0 : UInt8), (2 : UInt8), (0 : UInt8), (1 : UInt8), (0 : UInt8), (3 : UInt8), (0 : UInt8), (1 : UInt8), (0 : UInt8), (2 : UInt8), (0 : UInt8), (1 : UInt8), (0 : UInt8), (4 : UInt8), (0 : UInt8), (1 : UInt8), (0 : UInt8), (2 : UInt8), (0 : UInt8), (1 : UInt8), (0 : UInt8), (3 : UInt8), (0 : UInt8), (1 : UInt8), (0 : UInt8), (2 : UInt8), (0 : UInt8), (1 : UInt8), (0 : UInt8), (5 : UInt8), (0 : UInt8), (1 : UInt8), (0 : UInt8), (2 : UInt8), (0 : UInt8), (1 : UInt8), (0 : UInt8), (3 : UInt8), (0 : UInt8), (1 : UInt8), (0 : UInt8), (2 : UInt8), (0 : UInt8), (1 : UInt8), (0 : UInt8), (4 : UInt8), (0 : UInt8), (1 : UInt8), (0 : UInt8), (2 : UInt8), (0 : UInt8), (1 : UInt8), (0 : UInt8), (3 : UInt8), (0 : UInt8), (1 : UInt8), (0 : UInt8), (2 : UInt8), (0 : UInt8), (1 : UInt8), (0 : UInt8)] [(6 : UInt8), (0 : UInt8), (1 : UInt8), (0 : UInt8), (2 : UInt8), (0 : UInt8), (1 : UInt8), (0 : UInt8), (3 : UInt8), (0 : UInt8), (1 : UInt8), (0 : UInt8), (2 : UInt8), (0 : UInt8), (1 : UInt8), (0 : UInt8), (4 : UInt8), (0 : UInt8), (1 : UInt8), (0 : UInt8), (2 : UInt8), (0 : UInt8), (1 : UInt8), (0 : UInt8), (3 : UInt8), (0 : UInt8), (1 : UInt8), (0 : UInt8), (2 : UInt8), (0 : UInt8), (1 : UInt8), (0 : UInt8), (5 : UInt8), (0 : UInt8), (1 : UInt8), (0 : UInt8), (2 : UInt8), (0 : UInt8), (1 : UInt8), (0 : UInt8), (3 : UInt8), (0 : UInt8), (1 : UInt8), (0 : UInt8), (2 : UInt8), (0 : UInt8), (1 : UInt8), (0 : UInt8), (4 : UInt8), (0 : UInt8), (1 : UInt8), (0 : UInt8), (2 : UInt8), (0 : UInt8), (1 : UInt8), (0 : UInt8), (3 : UInt8), (0 : UInt8), (1 : UInt8), (0 : UInt8), (2 : UInt8), (0 : UInt8), (1 : UInt8), (0 : UInt8)]) (List.append [(7 : UInt8), (0 : UInt8), (1 : UInt8), (0 : UInt8), (2 : UInt8), (0 : UInt8), (1 : UInt8), (0 : UInt8), (3 : UInt8), (0 : UInt8), (1 : UInt8), (0 : UInt8), (2 : UInt8), (0 : UInt8), (1 : UInt8), (0 : UInt8), (4 : UInt8), (0 : UInt8), (1 : UInt8), (0 : UInt8), (2 : UInt8), (0 : UInt8), (1 : UInt8), (0 : UInt8), (3 : UInt8), (0 : UInt8), (1 : UInt8), (0 : UInt8), (2 : UInt8), (0 : UInt8), (1 : UInt8), (0 : UInt8), (5 : UInt8), (0 : UInt8), (1 : UInt8), (0 : UInt8), (2 : UInt8), (0 : UInt8), (1 : UInt8), (0 : UInt8), (3 : UInt8), (0 : UInt8), (1 : UInt8), (0 : UInt8), (2 : UInt8), (0 : UInt8), (1 : UInt8), (0 : UInt8), (4 : UInt8), (0 : UInt8), (1 : UInt8), (0 : UInt8), (2 : UInt8), (0 : UInt8), (1 : UInt8), (0 : UInt8), (3 : UInt8), (0 : UInt8), (1 : UInt8), (0 : UInt8), (2 : UInt8), (0 : UInt8), (1 : UInt8), (0 : UInt8)] [(6 : UInt8), (0 : UInt8), (1 : UInt8), (0 : UInt8), (2 : UInt8), (0 : UInt8), (1 : UInt8), (0 : UInt8), (3 : UInt8), (0 : UInt8), (1 : UInt8), (0 : UInt8), (2 : UInt8), (0 : UInt8), (1 : UInt8), (0 : UInt8), (4 : UInt8), (0 : UInt8), (1 : UInt8), (0 : UInt8), (2 : UInt8), (0 : UInt8), (1 : UInt8), (0 : UInt8), (3 : UInt8), (0 : UInt8), (1 : UInt8), (0 : UInt8), (2 : UInt8), (0 : UInt8), (1 : UInt8), (0 : UInt8), (5 : UInt8), (0 : UInt8), (1 : UInt8), (0 : UInt8), (2 : UInt8), (0 : UInt8), (1 : UInt8), (0 : UInt8), (3 : UInt8), (0 : UInt8), (1 : UInt8), (0 : UInt8), (2 : UInt8), (0 : UInt8), (1 : UInt8), (0 : UInt8), (4 : UInt8), (0 : UInt8), (1 : UInt8), (0 : UInt8), (2 : UInt8), (0 : UInt8), (1 : UInt8), (0 : UInt8), (3 : UInt8), (0 : UInt8), (1 : UInt8), (0 : UInt8), (2 : UInt8), (0 : UInt8), (1 : UInt8), (0 : UInt8)]))))))) : Int)) (.ret ((IntKind.wrap IntKind.i64 (↑(UInt8.toNat (List.getD (Array.toList (ByteArray.data (ByteArray.mk (List.toArray (List.append (List.append [(8 : UInt8), (0 : UInt8), (1 : UInt8), (0 : UInt8), (2 : UInt8), (0 : UInt8), (1 : UInt8), (0 : UInt8), (3 : UInt8), (0 : UInt8), (1 : UInt8), (0 : UInt8), (2 : UInt8), (0 : UInt8), (1 : UInt8), (0 : UInt8), (4 : UInt8), (0 : UInt8), (1 : UInt8), (0 : UInt8), (2 : UInt8), (0 : UInt8), (1 : UInt8), (0 : UInt8), (3 : UInt8), (0 : UInt8), (1 : UInt8), (0 : UInt8), (2 : UInt8), (0 : UInt8), (1 : UInt8), (0 : UInt8), (5 : UInt8), (0 : UInt8), (1 : UInt8), (0 : UInt8), (2 : UInt8), (0 : UInt8), (1 : UInt8), (0 : UInt8), (3 : UInt8), (0 : UInt8), (1 : UInt8), (0 : UInt8), (2 : UInt8), (0 : UInt8), (1 : UInt8), (0 : UInt8), (4 : UInt8), (0 : UInt8), (1 : UInt8), (0 : UInt8), (2 : UInt8), (0 : UInt8), (1 : UInt8), (0 : UInt8), (3 : UInt8), (0 : UInt8), (1 : UInt8), (0 : UInt8), (2 : UInt8), (0 : UInt8), (1 : UInt8), (0 : UInt8)] [(6 : UInt8), (0 : UInt8), (1 : UInt8), (0 : UInt8), (2 : UInt8), (0 : UInt8), (1 : UInt8), (0 : UInt8), (3 : UInt8), (0 : UInt8), (1 : UInt8), (0 : UInt8), (2 : UInt8), (0 : UInt8), (1 : UInt8), (0 : UInt8), (4 : UInt8), (0 : UInt8), (1 : UInt8), (0 : UInt8), (2 : UInt8), (0 : UInt8), (1 : UInt8), (0 : UInt8), (3 : UInt8), (0 : UInt8), (1 : UInt8), (0 : UInt8), (2 : UInt8), (0 : UInt8), (1 : UInt8), (0 : UInt8), (5 : UInt8), (0 : UInt8), (1 : UInt8), (0 : UInt8), (2 : UInt8), (0 : UInt8), (1 : UInt8), (0 : UInt8), (3 : UInt8), (0 : UInt8), (1 : UInt8), (0 : UInt8), (2 : UInt8), (0 : UInt8), (1 : UInt8), (0 : UInt8), (4 : UInt8), (0 : UInt8), (1 : UInt8), (0 : UInt8), (2 : UInt8), (0 : UInt8), (1 : UInt8), (0 : UInt8), (3 : UInt8), (0 : UInt8), (1 : UInt8), (0 : UInt8), (2 : UInt8), (0 : UInt8), (1 : UInt8), (0 : UInt8)]) (List.append [(7 : UInt8), (0 : UInt8), (1 : UInt8), (0 : UInt8), (2 : UInt8), (0 : UInt8), (1 : UInt8), (0 : UInt8), (3 : UInt8), (0 : UInt8), (1 : UInt8), (0 : UInt8), (2 : UInt8), (0 : UInt8), (1 : UInt8), (0 : UInt8), (4 : UInt8), (0 : UInt8), (1 : UInt8), (0 : UInt8), (2 : UInt8), (0 : UInt8), (1 : UInt8), (0 : UInt8), (3 : UInt8), (0 : UInt8), (1 : UInt8), (0 : UInt8), (2 : UInt8), (0 : UInt8), (1 : UInt8), (0 : UInt8), (5 : UInt8), (0 : UInt8), (1 : UInt8), (0 : UInt8), (2 : UInt8), (0 : UInt8), (1 : UInt8), (0 : UInt8), (3 : UInt8), (0 : UInt8), (1 : UInt8), (0 : UInt8), (2 : UInt8), (0 : UInt8), (1 : UInt8), (0 : UInt8), (4 : UInt8), (0 : UInt8), (1 : UInt8), (0 : UInt8), (2 : UInt8), (0 : UInt8), (1 : UInt8), (0 : UInt8), (3 : UInt8), (0 : UInt8), (1 : UInt8), (0 : UInt8), (2 : UInt8), (0 : UInt8), (1 : UInt8), (0 : UInt8)] [(6 : UInt8), (0 : UInt8), (1 : UInt8), (0 : UInt8), (2 : UInt8), (0 : UInt8), (1 : UInt8), (0 : UInt8), (3 : UInt8), (0 : UInt8), (1 : UInt8), (0 : UInt8), (2 : UInt8), (0 : UInt8), (1 : UInt8), (0 : UInt8), (4 : UInt8), (0 : UInt8), (1 : UInt8), (0 : UInt8), (2 : UInt8), (0 : UInt8), (1 : UInt8), (0 : UInt8), (3 : UInt8), (0 : UInt8), (1 : UInt8), (0 : UInt8), (2 : UInt8), (0 : UInt8), (1 : UInt8), (0 : UInt8), (5 : UInt8), (0 : UInt8), (1 : UInt8), (0 : UInt8), (2 : UInt8), (0 : UInt8), (1 : UInt8), (0 : UInt8), (3 : UInt8), (0 : UInt8), (1 : UInt8), (0 : UInt8), (2 : UInt8), (0 : UInt8), (1 : UInt8), (0 : UInt8), (4 : UInt8), (0 : UInt8), (1 : UInt8), (0 : UInt8), (2 : UInt8), (0 : UInt8), (1 : UInt8), (0 : UInt8), (3 : UInt8), (0 : UInt8), (1 : UInt8), (0 : UInt8), (2 : UInt8), (0 : UInt8), (1 : UInt8), (0 : UInt8)])))))) (Int.toNat x0) (0 : UInt8))) : Int), ()))) := by kernel_rfl
theorem c27_valid : c27.Valid Try.prog 27 := by
  refine Ctr.valid_of E27_ok rfl rfl Try.func27 (c := bodyOf Try.prog 27) rfl rfl F27_ok rfl ?_
  rintro ⟨(x0 : Int), ⟨⟩⟩ - ⟨h0, -⟩
  refine exec_sound (n := 1000) E27_ok F27_ok ?_
  refine holds_of_eq (E27_t x0) ?_
  have g0 : 0 ≤ x0 ∧ x0 ≤ 255 := h0
  obtain ⟨n, rfl⟩ : ∃ n : Fin 256, x0 = ((n.val : Nat) : Int) := ⟨⟨x0.toNat, by omega⟩, by simp; omega⟩
  refine ⟨?_, fun _ => ?_⟩
  · clear h0 g0; revert n; decide +kernel
  · show ((_, ()) : Int × Unit) = (tz n, ())
    clear h0 g0; revert n; decide +kernel

noncomputable def E22 : Env := { P := Try.prog, tt := tt, ctr := [(26, c26), (37, c37), (38, c38)], res := [Go.ResultVar.cell 6 27, Go.ResultVar.tmp 7], rs := [Ty.pair (Ty.int IntKind.i64) (Ty.pair (Ty.int IntKind.u8) Ty.unit), Ty.int IntKind.i64], ps := [PK.v V, PK.v (Ty.int IntKind.u8), PK.v (Ty.int IntKind.u8)], cuts := [], nt := 52 }
theorem E22_ok : EnvOk E22 := envOk tt_ok ⟨c26_valid, c37_valid, c38_valid, trivial⟩
theorem F22_ok : FnOk E22 Try.f22 := ⟨rfl, rfl⟩
theorem E22_t (x0_1 : Int) (x0_2_1 : Int) (x1 : Int) (x2 : Int) : exec E22 1000 [.code (bodyOf Try.prog 22)] (initSt c22.ps (((x0_1, x0_2_1, ()), x1, x2, ()))) =
  .need (True) (cond (decide (check (x0_1, x0_2_1, ()) ≠ (0 : Int))) (.ret ((((0 : Int), (0 : Int), ()), check (x0_1, x0_2_1, ()), ()))) (.need (True) (cond (outside (bOr IntKind.u8 x1 x2)) (.ret ((((0 : Int), (0 : Int), ()), (1 : Int), ()))) (cond (decide (bAnd IntKind.u8 x1 x2 ≠ (0 : Int))) (.ret ((((0 : Int), (0 : Int), ()), (1 : Int), ()))) (cond (decide (x0_1 = (16777215 : Int))) (.ret ((((0 : Int), (0 : Int), ()), (8 : Int), ()))) (.need (True) (cond (!half (bAndNot IntKind.u8 x0_2_1 x1) x0_2_1) (.ret ((((0 : Int), (0 : Int), ()), (11 : Int), ()))) (.need (inK IntKind.i64 (x0_1 + (1 : Int))) (.ret (((x0_1 + (1 : Int), bOr IntKind.u8 (bAndNot IntKind.u8 x0_2_1 x1) x2, ()), (0 : Int), ()))))))))))) := by kernel_rfl
theorem c22_valid : c22.Valid Try.prog 22 := by
  refine Ctr.valid_of E22_ok rfl rfl Try.func22 (c := bodyOf Try.prog 22) rfl rfl F22_ok rfl ?_
  rintro ⟨⟨(x0 : Int), (x1 : Int), ⟨⟩⟩, (g : Int), (c : Int), ⟨⟩⟩ - ⟨⟨h0, h1, -⟩, h2, h3, -⟩
  refine exec_sound (n := 1000) E22_ok F22_ok ?_
  refine holds_of_eq (E22_t x0 x1 g c) ?_
  have g0 : -9223372036854775808 ≤ x0 ∧ x0 ≤ 9223372036854775807 := h0
  have key : ∀ r : (Int × Int × Unit) × Int × Unit, nextV (x0, x1, ()) g c = r → ((r : DL [V, .int .i64]) = c22.fn ((x0, x1, ()), g, c, ())) := by rintro r rfl; rfl
  simp only [holds_cond, Tree.holds, decide_eq_true_eq, decide_eq_false_iff_not]
  refine ⟨trivial, fun _ => ⟨fun a => key _ ?_, fun a => ⟨trivial, fun _ => ⟨fun b => key _ ?_, fun b => ⟨fun d => key _ ?_, fun d => ⟨fun e => key _ ?_, fun e => ⟨trivial, fun _ => ⟨fun f => key _ ?_, fun f => ⟨⟨?_, ?_⟩, fun _ => key _ ?_⟩⟩⟩⟩⟩⟩⟩⟩⟩
  · rw [nextV, if_pos a]; rfl
  · rw [nextV, if_neg a, if_pos b]; rfl
  · rw [nextV, if_neg a, if_neg (by simpa using b), if_pos d]; rfl
  · rw [nextV, if_neg a, if_neg (by simpa using b), if_neg d, if_pos e]; rfl
  · rw [nextV, if_neg a, if_neg (by simpa using b), if_neg d, if_neg e, if_pos f]; rfl
  · show -9223372036854775808 ≤ _; omega
  · have := (check_inv (v := (x0, x1, ())) (by simpa using a)).2.1
    show x0 + 1 ≤ 9223372036854775807; simp only at this; omega
  · rw [nextV, if_neg a, if_neg (by simpa using b), if_neg d, if_neg e, if_neg (by simpa using f)]; rfl

noncomputable def E23 : Env := { P := Try.prog, tt := tt, ctr := [(26, c26), (27, c27)], res := [Go.ResultVar.tmp 2, Go.ResultVar.tmp 3], rs := [Ty.int IntKind.i64, Ty.int IntKind.i64], ps := [PK.v V], cuts := [], nt := 13 }
theorem E23_ok : EnvOk E23 := envOk tt_ok ⟨c26_valid, c27_valid, trivial⟩
theorem F23_ok : FnOk E23 Try.f23 := ⟨rfl, rfl⟩
theorem E23_t (x0_1 : Int) (x0_2_1 : Int) : exec E23 1000 [.code (bodyOf Try.prog 23)] (initSt c23.ps (((x0_1, x0_2_1, ()), ()))) =
  .need (True) (cond (decide (check (x0_1, x0_2_1, ()) ≠ (0 : Int))) (.ret (((0 : Int), check (x0_1, x0_2_1, ()), ()))) (.need (True) (.ret ((tz x0_2_1, (0 : Int), ()))))) := by kernel_rfl
theorem c23_valid : c23.Valid Try.prog 23 := by
  refine Ctr.valid_of E23_ok rfl rfl Try.func23 (c := bodyOf Try.prog 23) rfl rfl F23_ok rfl ?_
  rintro ⟨⟨(x0 : Int), (x1 : Int), ⟨⟩⟩, ⟨⟩⟩ - ⟨⟨h0, h1, -⟩, -⟩
  refine exec_sound (n := 1000) E23_ok F23_ok ?_
  refine holds_of_eq (E23_t x0 x1) ?_
  have key : ∀ r : Int × Int × Unit, firstV (x0, x1, ()) = r → ((r : DL [.int .i64, .int .i64]) = c23.fn ((x0, x1, ()), ())) := by rintro r rfl; rfl
  simp only [holds_cond, Tree.holds, decide_eq_true_eq, decide_eq_false_iff_not]
  refine ⟨trivial, fun _ => ⟨fun a => key _ ?_, fun a => ⟨trivial, fun _ => key _ ?_⟩⟩⟩
  · rw [firstV, if_pos a]; rfl
  · rw [firstV, if_neg a]; rfl


end Go.Proofs.Ytagjonjobbckdaa
