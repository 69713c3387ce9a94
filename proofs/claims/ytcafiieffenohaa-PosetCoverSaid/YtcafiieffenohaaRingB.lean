/- The contracts of the package ring's functions: round. -/
import Derived.Test.YtcafiieffenohaaRingA
namespace Go.Proofs.Ytcafiieffenohaa
open Go.Ex
set_option maxRecDepth 100000
def roundR (l : List Int) : Int × Int × Int × Unit := if rcheck l ≠ 0 then (0, 0, rcheck l, ()) else (leaderF l, roundF l, 0, ())
def cround : Ctr := { ps := [.v (.slc false I64)], rs := [I64, I64, I64], pre := fun _ => True, fn := fun x => roundR x.1, out := fun _ => () }
noncomputable def Eround : Env := { P := Try.prog, tt := tt, ctr := [(51, crcheck), (52, cleader)], res := [Go.ResultVar.tmp 2, Go.ResultVar.tmp 3, Go.ResultVar.tmp 4], rs := [Ty.int IntKind.i64, Ty.int IntKind.i64, Ty.int IntKind.i64], ps := [PK.v (Ty.slc false (Ty.int IntKind.i64))], cuts := [(6, [(0, none), (6, none), (15, none), (16, none), (17, none)]), (10, [(0, none), (6, none), (7, none), (8, none), (9, none), (15, none), (16, none), (17, none)])], nt := 41 }
theorem Eround_ok : EnvOk Eround := envOk tt_ok ⟨crcheck_valid, cleader_valid, trivial⟩
theorem Fround_ok : FnOk Eround Try.f19 := ⟨rfl, rfl⟩
theorem Eround_t (x0 : List Int) : exec Eround 1000 [.code (bodyOf Try.prog 19)] (initSt cround.ps ((x0, ()))) =
  .need (True) (cond (decide (rcheck x0 ≠ (0 : Int))) (.ret (((0 : Int), (0 : Int), rcheck x0, ()))) (.cut (loopAt (bodyOf Try.prog 19) 6).1 (loopAt (bodyOf Try.prog 19) 6).2 (St.mk [(0, AV.val (Ty.slc false (Ty.int IntKind.i64)) x0), (6, AV.val (Ty.int IntKind.i64) (0 : Int)), (15, AV.val (Ty.slc false (Ty.int IntKind.i64)) x0), (16, AV.val (Ty.int IntKind.i64) (↑(List.length x0) : Int)), (17, AV.val (Ty.int IntKind.i64) (0 : Int))] []))) := by kernel_rfl
def Eround_s6 (v0 : List Int) (v6 : Int) (v15 : List Int) (v16 : Int) (v17 : Int) : St := St.mk [(0, AV.val (Ty.slc false (Ty.int IntKind.i64)) v0), (6, AV.val (Ty.int IntKind.i64) v6), (15, AV.val (Ty.slc false (Ty.int IntKind.i64)) v15), (16, AV.val (Ty.int IntKind.i64) v16), (17, AV.val (Ty.int IntKind.i64) v17)] []
theorem Eround_l6 (v0 : List Int) (v6 : Int) (v15 : List Int) (v16 : Int) (v17 : Int) : exec Eround 1000 (.code (loopAt (bodyOf Try.prog 19) 6).1 :: .inLoop (loopAt (bodyOf Try.prog 19) 6).1 :: (loopAt (bodyOf Try.prog 19) 6).2) (Eround_s6 v0 v6 v15 v16 v17) =
  cond (decide (v17 < v16)) (.need ((0 : Int) ≤ v17 ∧ v17 < (↑(List.length v15) : Int)) (.cut (loopAt (bodyOf Try.prog 19) 10).1 (loopAt (bodyOf Try.prog 19) 10).2 (St.mk [(0, AV.val (Ty.slc false (Ty.int IntKind.i64)) v0), (6, AV.val (Ty.int IntKind.i64) v6), (7, AV.val (Ty.int IntKind.i64) v17), (8, AV.val (Ty.int IntKind.i64) (List.getD v15 (Int.toNat v17) (0 : Int))), (9, AV.val (Ty.int IntKind.i64) (1 : Int)), (15, AV.val (Ty.slc false (Ty.int IntKind.i64)) v15), (16, AV.val (Ty.int IntKind.i64) v16), (17, AV.val (Ty.int IntKind.i64) v17)] []))) (.need (1 ≤ List.length v0) (.ret ((leaderF v0, v6, (0 : Int), ())))) := by kernel_rfl
def Eround_s10 (v0 : List Int) (v6 : Int) (v7 : Int) (v8 : Int) (v9 : Int) (v15 : List Int) (v16 : Int) (v17 : Int) : St := St.mk [(0, AV.val (Ty.slc false (Ty.int IntKind.i64)) v0), (6, AV.val (Ty.int IntKind.i64) v6), (7, AV.val (Ty.int IntKind.i64) v7), (8, AV.val (Ty.int IntKind.i64) v8), (9, AV.val (Ty.int IntKind.i64) v9), (15, AV.val (Ty.slc false (Ty.int IntKind.i64)) v15), (16, AV.val (Ty.int IntKind.i64) v16), (17, AV.val (Ty.int IntKind.i64) v17)] []
theorem Eround_l10 (v0 : List Int) (v6 : Int) (v7 : Int) (v8 : Int) (v9 : Int) (v15 : List Int) (v16 : Int) (v17 : Int) : exec Eround 1000 (.code (loopAt (bodyOf Try.prog 19) 10).1 :: .inLoop (loopAt (bodyOf Try.prog 19) 10).1 :: (loopAt (bodyOf Try.prog 19) 10).2) (Eround_s10 v0 v6 v7 v8 v9 v15 v16 v17) =
  .need (inK IntKind.i64 (v6 + (1 : Int))) (.need (inK IntKind.i64 (v7 + v9)) (.need ((0 : Int) < (↑(List.length v0) : Int)) (.need ((0 : Int) ≤ Int.tmod (v7 + v9) (↑(List.length v0) : Int) ∧ Int.tmod (v7 + v9) (↑(List.length v0) : Int) < (↑(List.length v0) : Int)) (cond (decide (v8 ≤ List.getD v0 (Int.toNat (Int.tmod (v7 + v9) (↑(List.length v0) : Int))) (0 : Int))) (.need (inK IntKind.i64 (v17 + (1 : Int))) (.cut (loopAt (bodyOf Try.prog 19) 6).1 (loopAt (bodyOf Try.prog 19) 6).2 (St.mk [(0, AV.val (Ty.slc false (Ty.int IntKind.i64)) v0), (6, AV.val (Ty.int IntKind.i64) (v6 + (1 : Int))), (15, AV.val (Ty.slc false (Ty.int IntKind.i64)) v15), (16, AV.val (Ty.int IntKind.i64) v16), (17, AV.val (Ty.int IntKind.i64) (v17 + (1 : Int)))] []))) (.need (inK IntKind.i64 (v9 + (1 : Int))) (.cut (loopAt (bodyOf Try.prog 19) 10).1 (loopAt (bodyOf Try.prog 19) 10).2 (St.mk [(0, AV.val (Ty.slc false (Ty.int IntKind.i64)) v0), (6, AV.val (Ty.int IntKind.i64) (v6 + (1 : Int))), (7, AV.val (Ty.int IntKind.i64) v7), (8, AV.val (Ty.int IntKind.i64) v8), (9, AV.val (Ty.int IntKind.i64) (v9 + (1 : Int))), (15, AV.val (Ty.slc false (Ty.int IntKind.i64)) v15), (16, AV.val (Ty.int IntKind.i64) v16), (17, AV.val (Ty.int IntKind.i64) v17)] []))))))) := by kernel_rfl
theorem tmod_nat (a n : Nat) : Int.tmod (a : Int) (n : Int) = ((a % n : Nat) : Int) := rfl
theorem cround_valid : cround.Valid Try.prog 19 := by
  refine Ctr.valid_of Eround_ok rfl rfl Try.func19 (c := bodyOf Try.prog 19) rfl rfl Fround_ok rfl ?_
  rintro ⟨(l : List Int), ⟨⟩⟩ - -
  refine exec_sound (n := 1000) Eround_ok Fround_ok ?_
  refine holds_of_eq (Eround_t l) ?_
  simp only [holds_cond, Tree.holds, true_and, true_implies, decide_eq_true_eq, decide_eq_false_iff_not, Bool.not_eq_true', Bool.not_eq_false', Int.toNat_natCast, inK_i64, List.length_set, List.length_cons, List.length_nil]
  refine ⟨fun h => ?_, fun h => ?_⟩
  · show ((0, 0, rcheck l, ()) : Int × Int × Int × Unit) = roundR l
    rw [roundR, if_pos h]
  have hr : RingOk l := rcheck_iff.1 (Decidable.not_not.1 h)
  have hp := hr.pos
  have hle := hr.le
  have hb : ∀ i, i ≤ l.length → sumN (fun j => (dist l j : Int)) i ≤ 900 ∧ 0 ≤ sumN (fun j => (dist l j : Int)) i := fun i hi => by
    have h1 := sumN_le (f := fun j => (dist l j : Int)) (g := fun _ => 30) (n := i) (fun j _ => by have := (dist_spec (i := j) hp).2.1; omega)
    have h2 := sumN_le (g := fun j => (dist l j : Int)) (f := fun _ => 0) (n := i) (fun j _ => by omega)
    rw [sumN_const] at h1 h2
    omega
  refine Reach.loopI Eround_ok Fround_ok (fun i : Nat => Eround_s6 l (sumN (fun j => (dist l j : Int)) i) l (l.length : Int) (i : Int)) (fun i => i ≤ l.length)
    (fun i => l.length - i) 1000 (fun _ => ⟨uniq_of rfl, uniq_of rfl⟩) ?_ 0 (by omega)
  rintro i (k1 : i ≤ l.length) - ih
  refine holds_of_eq (Eround_l6 ..) ?_
  simp only [holds_cond, Tree.holds, true_and, true_implies, decide_eq_true_eq, decide_eq_false_iff_not, Bool.not_eq_true', Bool.not_eq_false', Int.toNat_natCast, inK_i64, List.length_set, List.length_cons, List.length_nil]
  refine ⟨fun h => ⟨by omega, fun _ => ?_⟩, fun h => ⟨hp, fun _ => ?_⟩⟩
  · have hb1 := hb i k1
    refine Reach.loopI Eround_ok Fround_ok (fun p : Nat × Int => Eround_s10 l p.2 (i : Int) (l.getD i 0) (p.1 : Int) l (l.length : Int) (i : Int))
      (fun p => 1 ≤ p.1 ∧ p.1 ≤ l.length ∧ p.2 = sumN (fun j => (dist l j : Int)) i + p.1 - 1 ∧ ∀ c, 1 ≤ c → c < p.1 → ringAt l (i + c) < ringAt l i)
      (fun p => l.length - p.1) 1000 (fun _ => ⟨uniq_of rfl, uniq_of rfl⟩) ?_ (1, sumN (fun j => (dist l j : Int)) i) ⟨Nat.le_refl _, hp, by show _ = _ + ((1 : Nat) : Int) - 1; omega, fun c h1 h2 => by have h2 : c < 1 := h2; omega⟩
    rintro ⟨d, v⟩ ⟨k2, k3, k4, k5⟩ - ih2
    have k2 : 1 ≤ d := k2
    have k3 : d ≤ l.length := k3
    have k4 : v = sumN (fun j => (dist l j : Int)) i + d - 1 := k4
    have k5 : ∀ c, 1 ≤ c → c < d → ringAt l (i + c) < ringAt l i := k5
    refine holds_of_eq (Eround_l10 ..) ?_
    have e : Int.tmod ((i : Int) + (d : Int)) (l.length : Int) = (((i + d) % l.length : Nat) : Int) := tmod_nat (i + d) l.length
    have hm : (i + d) % l.length < l.length := Nat.mod_lt _ hp
    simp only [holds_cond, Tree.holds, true_and, true_implies, decide_eq_true_eq, decide_eq_false_iff_not, Bool.not_eq_true', Bool.not_eq_false', Int.toNat_natCast, inK_i64, List.length_set, List.length_cons, List.length_nil, e]
    refine ⟨by omega, fun _ => ⟨by omega, fun _ => ⟨by omega, fun _ => ⟨by omega, fun _ => ⟨fun c => ⟨by omega, fun _ => ?_⟩, fun c => ⟨by omega, fun _ => ?_⟩⟩⟩⟩⟩⟩
    · have hd : dist l i = d := dist_eq hp k2 (by rw [ringAt_lt (by omega : i < l.length)]; exact c) k5
      have hs : v + 1 = sumN (fun j => (dist l j : Int)) (i + 1) := by rw [sumN, hd]; omega
      rw [hs]
      exact ih (i + 1) (by omega) (by omega)
    · have hc : ringAt l (i + d) < ringAt l i := by rw [ringAt_lt (by omega : i < l.length)]; exact Int.not_le.1 c
      have hne : d ≠ l.length := by
        rintro rfl
        rw [ringAt, ringAt, Nat.add_mod_right] at hc; omega
      refine ih2 (d + 1, v + 1) ⟨by show 1 ≤ d + 1; omega, by show d + 1 ≤ l.length; omega, by show v + 1 = _ + ((d + 1 : Nat) : Int) - 1; omega, fun c2 h1 h2 => ?_⟩ (by show l.length - (d + 1) < l.length - d; omega)
      have h2 : c2 < d + 1 := h2
      by_cases e2 : c2 = d
      · subst e2; exact hc
      · exact k5 c2 h1 (by omega)
  · have e : i = l.length := by omega
    subst e
    show ((leaderF l, roundF l, 0, ()) : Int × Int × Int × Unit) = roundR l
    rw [roundR, if_neg (by assumption)]
end Go.Proofs.Ytcafiieffenohaa
