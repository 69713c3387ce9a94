/- The contract of the law package's rest. -/
import Derived.Test.YtagjonjobbckdaaTys
namespace Go.Proofs.Ytagjonjobbckdaa
open Go.Ex
set_option maxRecDepth 100000

def rest (a n : Int) : Int := if n ≤ 0 then 0 else Int.tmod (Int.tmod a n + n) n
def c24 : Ctr := { ps := [.v I64, .v I64], rs := [I64], pre := fun x => LE.le (α := Int) x.2.1 1000000, fn := fun x => (rest x.1 x.2.1, ()), out := fun _ => () }
noncomputable def E24 : Env := { P := Try.prog, tt := tt, ctr := [], res := [Go.ResultVar.tmp 4], rs := [Ty.int IntKind.i64], ps := [PK.v (Ty.int IntKind.i64), PK.v (Ty.int IntKind.i64)], cuts := [], nt := 14 }
theorem E24_ok : EnvOk E24 := envOk tt_ok trivial
theorem F24_ok : FnOk E24 Try.f24 := ⟨rfl, rfl⟩
theorem E24_t (x0 : Int) (x1 : Int) : exec E24 1000 [.code (bodyOf Try.prog 24)] (initSt c24.ps ((x0, x1, ()))) =
  cond (decide (x1 ≤ (0 : Int))) (.ret (((0 : Int), ()))) (.need ((0 : Int) < x1) (.need (inK IntKind.i64 (Int.tmod x0 x1 + x1)) (.need ((0 : Int) < x1) (.ret ((Int.tmod (Int.tmod x0 x1 + x1) x1, ())))))) := by kernel_rfl
theorem c24_valid : c24.Valid Try.prog 24 := by
  refine Ctr.valid_of E24_ok rfl rfl Try.func24 (c := bodyOf Try.prog 24) rfl rfl F24_ok rfl ?_
  rintro ⟨(x0 : Int), (x1 : Int), ⟨⟩⟩ hp -
  refine exec_sound (n := 1000) E24_ok F24_ok ?_
  refine holds_of_eq (E24_t x0 x1) ?_
  have hp : x1 ≤ 1000000 := hp
  simp only [holds_cond, Tree.holds, decide_eq_true_eq, decide_eq_false_iff_not]
  refine ⟨fun a => ?_, fun a => ?_⟩
  · show ((0, ()) : Int × Unit) = (rest x0 x1, ())
    rw [rest, if_pos a]
  · have h0 : 0 < x1 := by omega
    have h1 := Int.tmod_lt_of_pos x0 h0
    have h2 : -x1 < Int.tmod x0 x1 := by
      have := Int.tmod_lt_of_pos (-x0) h0
      rw [Int.neg_tmod] at this
      omega
    refine ⟨h0, fun _ => ⟨⟨?_, ?_⟩, fun _ => ⟨h0, fun _ => ?_⟩⟩⟩
    · show (-9223372036854775808 : Int) ≤ _; omega
    · show _ ≤ (9223372036854775807 : Int); omega
    · show ((_, ()) : Int × Unit) = (rest x0 x1, ())
      rw [rest, if_neg a]

theorem rest_in {a n : Int} (h : 0 < n) : 0 ≤ rest a n ∧ rest a n < n := by
  have h1 := Int.tmod_lt_of_pos (-a) h
  rw [Int.neg_tmod] at h1
  rw [rest, if_neg (by omega)]
  exact ⟨Int.tmod_nonneg _ (by omega), Int.tmod_lt_of_pos _ h⟩
end Go.Proofs.Ytagjonjobbckdaa
