/- Contracts of small things: Rest, slices.Equal. -/
import Derived.Test.YtibpibbnnogdkaaStamp
namespace Go.Proofs.Ytibpibbnnogdkaa
open Go.Ex
set_option maxRecDepth 100000

def rest (a n : Int) : Int := if n ≤ 0 then 0 else Int.tmod (Int.tmod a n + n) n
def crest : Ctr := { ps := [.v I64, .v I64], rs := [I64], pre := fun x => LE.le (α := Int) x.2.1 1000000, fn := fun x => (rest x.1 x.2.1, ()), out := fun _ => () }
noncomputable def Erest : Env := { P := Try.prog, tt := tt, ctr := [], res := [Go.ResultVar.tmp 4], rs := [Ty.int IntKind.i64], ps := [PK.v (Ty.int IntKind.i64), PK.v (Ty.int IntKind.i64)], cuts := [], nt := 14 }
theorem Erest_ok : EnvOk Erest := envOk tt_ok trivial
theorem Frest_ok : FnOk Erest Try.f27 := ⟨rfl, rfl⟩
theorem Erest_t (x0 : Int) (x1 : Int) : exec Erest 1000 [.code (bodyOf Try.prog 27)] (initSt crest.ps ((x0, x1, ()))) =
  cond (decide (x1 ≤ (0 : Int))) (.ret (((0 : Int), ()))) (.need ((0 : Int) < x1) (.need (inK IntKind.i64 (Int.tmod x0 x1 + x1)) (.need ((0 : Int) < x1) (.ret ((Int.tmod (Int.tmod x0 x1 + x1) x1, ())))))) := by kernel_rfl
theorem crest_valid : crest.Valid Try.prog 27 := by
  refine Ctr.valid_of Erest_ok rfl rfl Try.func27 (c := bodyOf Try.prog 27) rfl rfl Frest_ok rfl ?_
  rintro ⟨(x0 : Int), (x1 : Int), ⟨⟩⟩ hp -
  refine exec_sound (n := 1000) Erest_ok Frest_ok ?_
  refine holds_of_eq (Erest_t x0 x1) ?_
  have hp : x1 ≤ 1000000 := hp
  simp only [holds_cond, Tree.holds, true_and, true_implies, decide_eq_true_eq, decide_eq_false_iff_not, Bool.not_eq_true', Bool.not_eq_false', Int.toNat_natCast, inK_i64, List.length_set, List.length_cons, List.length_nil]
  refine ⟨fun a => ?_, fun a => ?_⟩
  · show ((0, ()) : Int × Unit) = (rest x0 x1, ())
    rw [rest, if_pos a]
  · have h0 : 0 < x1 := by omega
    have h1 := Int.tmod_lt_of_pos x0 h0
    have h2 : -x1 < Int.tmod x0 x1 := by
      have := Int.tmod_lt_of_pos (-x0) h0
      rw [Int.neg_tmod] at this
      omega
    refine ⟨h0, fun _ => ⟨by omega, fun _ => ⟨h0, fun _ => ?_⟩⟩⟩
    show ((_, ()) : Int × Unit) = (rest x0 x1, ())
    rw [rest, if_neg a]
theorem rest_in {a n : Int} (h : 0 < n) : 0 ≤ rest a n ∧ rest a n < n := by
  have h1 := Int.tmod_lt_of_pos (-a) h
  rw [Int.neg_tmod] at h1
  rw [rest, if_neg (by omega)]
  exact ⟨Int.tmod_nonneg _ (by omega), Int.tmod_lt_of_pos _ h⟩

def eqLI (a b : List Int) : Bool := decide (a = b)
def ceqI : Ctr := { ps := [.v (.slc false I64), .v (.slc false I64)], rs := [.bool], pre := fun _ => True, fn := fun x => (eqLI x.1 x.2.1, ()), out := fun _ => () }
noncomputable def EeqI : Env := { P := Try.prog, tt := tt, ctr := [], res := [Go.ResultVar.tmp 4], rs := [Ty.bool], ps := [PK.v (Ty.slc false (Ty.int IntKind.i64)), PK.v (Ty.slc false (Ty.int IntKind.i64))], cuts := [(4, [(0, none), (1, none), (12, none), (13, none)])], nt := 26 }
theorem EeqI_ok : EnvOk EeqI := envOk tt_ok trivial
theorem FeqI_ok : FnOk EeqI Try.f26 := ⟨rfl, rfl⟩
theorem EeqI_t (x0 : List Int) (x1 : List Int) : exec EeqI 1000 [.code (bodyOf Try.prog 26)] (initSt ceqI.ps ((x0, x1, ()))) =
  cond (decide ((↑(List.length x0) : Int) ≠ (↑(List.length x1) : Int))) (.ret ((false, ()))) (.cut (loopAt (bodyOf Try.prog 26) 4).1 (loopAt (bodyOf Try.prog 26) 4).2 (St.mk [(0, AV.val (Ty.slc false (Ty.int IntKind.i64)) x0), (1, AV.val (Ty.slc false (Ty.int IntKind.i64)) x1), (12, AV.val (Ty.int IntKind.i64) (↑(List.length x0) : Int)), (13, AV.val (Ty.int IntKind.i64) (0 : Int))] [])) := by kernel_rfl
def EeqI_s4 (v0 : List Int) (v1 : List Int) (v12 : Int) (v13 : Int) : St := St.mk [(0, AV.val (Ty.slc false (Ty.int IntKind.i64)) v0), (1, AV.val (Ty.slc false (Ty.int IntKind.i64)) v1), (12, AV.val (Ty.int IntKind.i64) v12), (13, AV.val (Ty.int IntKind.i64) v13)] []
theorem EeqI_l4 (v0 : List Int) (v1 : List Int) (v12 : Int) (v13 : Int) : exec EeqI 1000 (.code (loopAt (bodyOf Try.prog 26) 4).1 :: .inLoop (loopAt (bodyOf Try.prog 26) 4).1 :: (loopAt (bodyOf Try.prog 26) 4).2) (EeqI_s4 v0 v1 v12 v13) =
  cond (decide (v13 < v12)) (.need ((0 : Int) ≤ v13 ∧ v13 < (↑(List.length v0) : Int)) (.need ((0 : Int) ≤ v13 ∧ v13 < (↑(List.length v1) : Int)) (cond (decide (List.getD v0 (Int.toNat v13) (0 : Int) ≠ List.getD v1 (Int.toNat v13) (0 : Int))) (.ret ((false, ()))) (.need (inK IntKind.i64 (v13 + (1 : Int))) (.cut (loopAt (bodyOf Try.prog 26) 4).1 (loopAt (bodyOf Try.prog 26) 4).2 (St.mk [(0, AV.val (Ty.slc false (Ty.int IntKind.i64)) v0), (1, AV.val (Ty.slc false (Ty.int IntKind.i64)) v1), (12, AV.val (Ty.int IntKind.i64) v12), (13, AV.val (Ty.int IntKind.i64) (v13 + (1 : Int)))] [])))))) (.ret ((true, ()))) := by kernel_rfl
theorem eq_of_getD {α : Type} {l m : List α} {d : α} (hl : l.length = m.length) (h : ∀ i, i < l.length → l.getD i d = m.getD i d) : l = m := by
  refine List.ext_getElem hl (fun i h1 h2 => ?_)
  have := h i h1
  rwa [List.getD_eq_getElem?_getD, List.getD_eq_getElem?_getD, List.getElem?_eq_getElem h1, List.getElem?_eq_getElem h2] at this
theorem ceqI_valid : ceqI.Valid Try.prog 26 := by
  refine Ctr.valid_of EeqI_ok rfl rfl Try.func26 (c := bodyOf Try.prog 26) rfl rfl FeqI_ok rfl ?_
  rintro ⟨(l : List Int), (m : List Int), ⟨⟩⟩ - ⟨⟨hl, -⟩, -⟩
  have hl : l.length ≤ 9223372036854775807 := hl
  refine exec_sound (n := 1000) EeqI_ok FeqI_ok ?_
  refine holds_of_eq (EeqI_t l m) ?_
  simp only [holds_cond, Tree.holds, true_and, true_implies, decide_eq_true_eq, decide_eq_false_iff_not, Bool.not_eq_true', Bool.not_eq_false', Int.toNat_natCast, inK_i64, List.length_set, List.length_cons, List.length_nil]
  have no : l ≠ m → ((false, ()) : Bool × Unit) = (eqLI l m, ()) := fun h => by rw [eqLI, decide_eq_false h]
  refine ⟨fun a => no (fun h => a (by rw [h])), fun a => ?_⟩
  have a : l.length = m.length := by omega
  refine Reach.loopI EeqI_ok FeqI_ok (fun i : Nat => EeqI_s4 l m (l.length : Int) (i : Int)) (fun i => i ≤ l.length ∧ ∀ j, j < i → l.getD j 0 = m.getD j 0)
    (fun i => l.length - i) 1000 (fun _ => ⟨uniq_of rfl, uniq_of rfl⟩) ?_ 0 ⟨by omega, fun j h => by omega⟩
  rintro i ⟨k1, k2⟩ - ih
  refine holds_of_eq (EeqI_l4 ..) ?_
  simp only [holds_cond, Tree.holds, true_and, true_implies, decide_eq_true_eq, decide_eq_false_iff_not, Bool.not_eq_true', Bool.not_eq_false', Int.toNat_natCast, inK_i64, List.length_set, List.length_cons, List.length_nil]
  refine ⟨fun b => ⟨by omega, fun _ => ⟨by omega, fun _ => ⟨fun c => no (fun h => c (by rw [h])), fun c => ⟨by omega, fun _ => ih (i + 1) ⟨by omega, fun j hj => ?_⟩ (by omega)⟩⟩⟩⟩, fun b => ?_⟩
  · by_cases e : j = i
    · subst e; exact Decidable.of_not_not c
    · exact k2 j (by omega)
  · show ((true, ()) : Bool × Unit) = (eqLI l m, ())
    rw [eqLI, decide_eq_true (eq_of_getD a (fun j hj => k2 j (by omega)))]

theorem yes : ((true, ()) : Bool × Unit) = (true, ()) := rfl
theorem yesd {p : Prop} [Decidable p] (h : p) : ((decide p, ()) : Bool × Unit) = (true, ()) := by rw [decide_eq_true h]
end Go.Proofs.Ytibpibbnnogdkaa
