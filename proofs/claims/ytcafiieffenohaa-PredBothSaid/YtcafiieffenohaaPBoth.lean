/- PredBoth: what must be so could be so. -/
import Derived.Test.YtcafiieffenohaaPMh
namespace Go.Proofs.Ytcafiieffenohaa
open Go.Ex
set_option maxRecDepth 100000
def cPredBoth : Ctr := lawC [Es, .arr 6 (.int .u64)] (fun _ => True)
noncomputable def EPredBoth : Env := { P := Try.prog, tt := tt, ctr := [(40, csent), (41, clate), (39, cfirst), (49, cmust), (42, cscheck), (43, cany), (46, cso), (50, csizes)], res := [Go.ResultVar.tmp 4], rs := [Ty.bool], ps := [PK.v Es, PK.v (Ty.arr 6 (Ty.int IntKind.u64))], cuts := [], nt := 82 }
theorem EPredBoth_ok : EnvOk EPredBoth := envOk tt_ok ⟨csent_valid, clate_valid, cfirst_valid, cmust_valid, cscheck_valid, cany_valid, cso_valid, csizes_valid, trivial⟩
theorem FPredBoth_ok : FnOk EPredBoth Try.f17 := ⟨rfl, rfl⟩
theorem EPredBoth_t (x0 : List (Int × Int × Int × Unit)) (x1 : List Int) : exec EPredBoth 1000 [.code (bodyOf Try.prog 17)] (initSt cPredBoth.ps ((x0, x1, ()))) =
  .need (hPre []) (.need (True) (.need (True) (.need (True) (.need (hPre sentH) (.need (True) (.need (True) (cond (decide (scheck x0 ≠ (0 : Int))) (.ret ((true, ()))) (.need (hPre x0) (.need (True) (.need (True) (cond (decide (Prod.fst (Prod.snd (mustR x0 (anyT x0 x1))) ≠ (0 : Int))) (.ret ((decide (Prod.fst (Prod.snd (mustR x0 (anyT x0 x1))) = (2 : Int)), ()))) (.need (inTr (anyT x0 x1) [(0 : Int), (0 : Int), (0 : Int), (0 : Int), (0 : Int), (0 : Int)]) (cond (holdsB (anyT x0 x1) [(0 : Int), (0 : Int), (0 : Int), (0 : Int), (0 : Int), (0 : Int)]) (cond (!Prod.fst (mustR x0 (anyT x0 x1))) (.ret ((Prod.fst (mustR x0 (anyT x0 x1)), ()))) (cond (decide (Prod.fst (Prod.snd (firstR x0 (anyT x0 x1))) = (0 : Int))) (.ret ((Prod.fst (mustR x0 (anyT x0 x1)), ()))) (.ret ((false, ()))))) (.need (hPre x0) (.need (inTr (anyT x0 x1) (cntV x0 (List.length x0))) (cond (!Prod.fst (mustR x0 (anyT x0 x1))) (cond (!holdsB (anyT x0 x1) (cntV x0 (List.length x0))) (.ret ((true, ()))) (.ret ((Prod.fst (mustR x0 (anyT x0 x1)), ())))) (cond (decide (Prod.fst (Prod.snd (firstR x0 (anyT x0 x1))) = (0 : Int))) (cond (!holdsB (anyT x0 x1) (cntV x0 (List.length x0))) (.ret ((true, ()))) (.ret ((Prod.fst (mustR x0 (anyT x0 x1)), ())))) (.ret ((false, ())))))))))))))))))))) := by kernel_rfl
theorem cPredBoth_valid : (lawC [Es, .arr 6 (.int .u64)] (fun _ => True)).Valid Try.prog 17 := by
  refine Ctr.valid_of EPredBoth_ok rfl rfl Try.func17 (c := bodyOf Try.prog 17) rfl rfl FPredBoth_ok rfl ?_
  rintro ⟨(h : List Ev), (o : List Int), ⟨⟩⟩ - -
  refine exec_sound (n := 1000) EPredBoth_ok FPredBoth_ok ?_
  refine holds_of_eq (EPredBoth_t h o) ?_
  have hs : hPre sentH := (by decide +kernel : scheck sentH = 0)
  have hn : hPre [] := (by decide +kernel : scheck [] = 0)
  by_cases hh : scheck h = 0
  · have hpre : hPre h := hh
    have hf : fitB h (anyT h o) = true := any_fit
    generalize anyT h o = t at *
    obtain ⟨f6, ff⟩ := fit_iff.1 hf
    have i0 : inTr t [0, 0, 0, 0, 0, 0] := cut_in f6 ff (CutOf.zero hh)
    have iF := cut_in f6 ff (CutOf.full hh)
    rcases must_ok hh hf with ⟨hr, e⟩ | ⟨hr, ⟨hR, e⟩ | ⟨hR, e⟩⟩
    · rw [e]
      simp only [hs, hn, hh, hpre, Tree.holds, holds_cond, ne_eq, not_true_eq_false, decide_false, decide_true, Bool.false_eq_true, Bool.not_true, false_implies, true_and, and_true, true_implies, Bool.true_eq_false, implies_true, decide_eq_true_eq, decide_eq_false_iff_not]
      exact ⟨fun _ => rfl, fun h1 => absurd (show ¬ (2 : Int) = 0 by decide) h1⟩
    · have z0 := rch_zero hh hR
      have zF := (rch_ok hh hR).2.2
      rw [e]
      simp only [hs, hn, hh, hpre, z0, zF, i0, iF, Tree.holds, holds_cond, ne_eq, not_true_eq_false, decide_false, decide_true, Bool.false_eq_true, Bool.not_true, Bool.not_false, false_implies, true_and, and_true, true_implies, Bool.true_eq_false, implies_true, decide_eq_true_eq, decide_eq_false_iff_not]
      rfl
    · rw [e]
      rcases first_spec hh hf with ⟨c, c1, c2, c3⟩ | ⟨c1, c3⟩
      · rw [c3]
        simp only [hs, hn, hh, hpre, i0, iF, Tree.holds, holds_cond, ne_eq, not_true_eq_false, decide_false, decide_true, Bool.false_eq_true, Bool.not_true, Bool.not_false, false_implies, true_and, and_true, true_implies, Bool.true_eq_false, implies_true, decide_eq_true_eq, decide_eq_false_iff_not]
        exact ⟨fun _ => rfl, fun _ => ⟨fun _ => rfl, fun _ => rfl⟩⟩
      · exact absurd (rch_full hh c1) hR
  · simp only [hs, hn, Tree.holds, holds_cond, true_and, true_implies, decide_eq_true_eq, decide_eq_false_iff_not, ne_eq, Decidable.not_not]
    exact ⟨fun _ => rfl, fun h1 => absurd h1 hh⟩
end Go.Proofs.Ytcafiieffenohaa
