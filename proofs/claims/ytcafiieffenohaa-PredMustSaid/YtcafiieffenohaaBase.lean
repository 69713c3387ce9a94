/- Contracts of small things: Rest, slices.Equal. -/
import Derived.Test.YtcafiieffenohaaStamp
namespace Go.Proofs.Ytcafiieffenohaa
open Go.Ex
set_option maxRecDepth 100000

def rest (a n : Int) : Int := if n ≤ 0 then 0 else Int.tmod (Int.tmod a n + n) n
def crest : Ctr := { ps := [.v I64, .v I64], rs := [I64], pre := fun x => LE.le (α := Int) x.2.1 1000000, fn := fun x => (rest x.1 x.2.1, ()), out := fun _ => () }
noncomputable def Erest : Env := { P := Try.prog, tt := tt, ctr := [], res := [Go.ResultVar.tmp 4], rs := [Ty.int IntKind.i64], ps := [PK.v (Ty.int IntKind.i64), PK.v (Ty.int IntKind.i64)], cuts := [], nt := 14 }
theorem Erest_ok : EnvOk Erest := envOk tt_ok trivial
theorem Frest_ok : FnOk Erest Try.f20 := ⟨rfl, rfl⟩
theorem Erest_t (x0 : Int) (x1 : Int) : exec Erest 1000 [.code (bodyOf Try.prog 20)] (initSt crest.ps ((x0, x1, ()))) =
  cond (decide (x1 ≤ (0 : Int))) (.ret (((0 : Int), ()))) (.need ((0 : Int) < x1) (.need (inK IntKind.i64 (Int.tmod x0 x1 + x1)) (.need ((0 : Int) < x1) (.ret ((Int.tmod (Int.tmod x0 x1 + x1) x1, ())))))) := by kernel_rfl
theorem crest_valid : crest.Valid Try.prog 20 := by
  refine Ctr.valid_of Erest_ok rfl rfl Try.func20 (c := bodyOf Try.prog 20) rfl rfl Frest_ok rfl ?_
  rintro ⟨(x0 : Int), (x1 : Int), ⟨⟩⟩ hp -
  refine exec_sound (n := 1000) Erest_ok Frest_ok ?_
  refine holds_of_eq (Erest_t x0 x1) ?_
  have hp : x1 ≤ 1000000 := hp
  simp only [holds_cond, Tree.holds, true_and, true_implies, decide_eq_true_eq, decide_eq_false_iff_not, Bool.not_eq_true', Bool.not_eq_false', Int.toNat_natCast, inK_i64, List.length_set, List.length_cons, List.length_nil]
  refine ⟨fun a => ?_, fun a => ?_⟩
  · show ((0, ()) : Int × Unit) = (rest x0 x1, ())
    rw [rest, if_pos a]
  · have h0 : 0 < x1 := by omega
    have h1 := Int.tmod_lt_of_pos x0 h0
    have h2 : -x1 < Int.tmod x0 x1 := by
      have := Int.tmod_lt_of_pos (-x0) h0
      rw [Int.neg_tmod] at this
      omega
    refine ⟨h0, fun _ => ⟨by omega, fun _ => ⟨h0, fun _ => ?_⟩⟩⟩
    show ((_, ()) : Int × Unit) = (rest x0 x1, ())
    rw [rest, if_neg a]
theorem rest_in {a n : Int} (h : 0 < n) : 0 ≤ rest a n ∧ rest a n < n := by
  have h1 := Int.tmod_lt_of_pos (-a) h
  rw [Int.neg_tmod] at h1
  rw [rest, if_neg (by omega)]
  exact ⟨Int.tmod_nonneg _ (by omega), Int.tmod_lt_of_pos _ h⟩

def eqLI (a b : List Int) : Bool := decide (a = b)
def ceqI : Ctr := { ps := [.v (.slc false I64), .v (.slc false I64)], rs := [.bool], pre := fun _ => True, fn := fun x => (eqLI x.1 x.2.1, ()), out := fun _ => () }
theorem eq_of_getD {α : Type} {l m : List α} {d : α} (hl : l.length = m.length) (h : ∀ i, i < l.length → l.getD i d = m.getD i d) : l = m := by
  refine List.ext_getElem hl (fun i h1 h2 => ?_)
  have := h i h1
  rwa [List.getD_eq_getElem?_getD, List.getD_eq_getElem?_getD, List.getElem?_eq_getElem h1, List.getElem?_eq_getElem h2] at this
theorem yes : ((true, ()) : Bool × Unit) = (true, ()) := rfl
theorem yesd {p : Prop} [Decidable p] (h : p) : ((decide p, ()) : Bool × Unit) = (true, ()) := by rw [decide_eq_true h]
end Go.Proofs.Ytcafiieffenohaa
