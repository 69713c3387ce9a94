/- The laws of cuts: contracts. -/
import Derived.Test.YtibpibbnnogdkaaCutA
namespace Go.Proofs.Ytibpibbnnogdkaa
open Go.Ex
set_option maxRecDepth 100000
theorem growR_ok {h : List Ev} {c : List Int} (hh : scheck h = 0) (hc : CutOf h c) : growR h c = (growF h c, 0, ()) := by
  rw [growR, if_neg (by simp [(cutErr_ok hc.len).2 ⟨hh, hc⟩])]
theorem rightR_ok {h : List Ev} {c : List Int} (hh : scheck h = 0) (hc : CutOf h c) : rightR h c = (decide (growF h c = c), 0, ()) := by
  rw [rightR, growR_ok hh hc]; rfl
theorem shrinkR_ok {h : List Ev} {c : List Int} (hh : scheck h = 0) (hc : CutOf h c) : shrinkR h c = (shrinkF h c, 0, ()) := by
  rw [shrinkR, if_neg (by simp [(cutErr_ok hc.len).2 ⟨hh, hc⟩])]
def cCutGrows : Ctr := lawC [Es, Vec, Vec] (fun _ => True)
noncomputable def ECutGrows : Env := { P := Try.prog, tt := tt, ctr := [(39, csent), (38, cgrow), (42, cright), (40, cscheck), (41, csome), (24, cvmax), (22, cwithin), (45, cvmin)], res := [Go.ResultVar.tmp 6], rs := [Ty.bool], ps := [PK.v Es, PK.v Vec, PK.v Vec], cuts := [], nt := 120 }
theorem ECutGrows_ok : EnvOk ECutGrows := envOk tt_ok ⟨csent_valid, cgrow_valid, cright_valid, cscheck_valid, csome_valid, cvmax_valid, cwithin_valid, cvmin_valid, trivial⟩
theorem FCutGrows_ok : FnOk ECutGrows Try.f13 := ⟨rfl, rfl⟩
theorem ECutGrows_t (x0 : List (Int × Int × Int × Unit)) (x1 : List Int) (x2 : List Int) : exec ECutGrows 1000 [.code (bodyOf Try.prog 13)] (initSt cCutGrows.ps ((x0, x1, x2, ()))) =
  .need (True) (.need (True) (.need (True) (cond (decide (scheck x0 ≠ (0 : Int))) (.ret ((true, ()))) (.need (hPre x0) (.need (hPre x0) (.need (True) (.need (True) (.need (True) (.need (True) (.need (True) (cond (decide (Prod.fst (Prod.snd (growR x0 (someC x0 x1))) ≠ (0 : Int))) (.ret ((false, ()))) (cond (decide (Prod.fst (Prod.snd (rightR x0 (Prod.fst (growR x0 (someC x0 x1))))) ≠ (0 : Int))) (.ret ((false, ()))) (cond (decide (Prod.fst (Prod.snd (growR x0 (Prod.fst (growR x0 (someC x0 x1))))) ≠ (0 : Int))) (.ret ((false, ()))) (cond (decide (Prod.fst (Prod.snd (growR x0 (vmax (someC x0 x1) (someC x0 x2)))) ≠ (0 : Int))) (.ret ((false, ()))) (cond (!Prod.fst (rightR x0 (Prod.fst (growR x0 (someC x0 x1))))) (.ret ((false, ()))) (cond (!eqD (Ty.arr 6 I64) (Prod.fst (growR x0 (Prod.fst (growR x0 (someC x0 x1))))) (Prod.fst (growR x0 (someC x0 x1)))) (.ret ((false, ()))) (.need (True) (cond (!within (someC x0 x1) (Prod.fst (growR x0 (someC x0 x1)))) (.ret ((false, ()))) (.need (True) (cond (!within (Prod.fst (growR x0 (someC x0 x1))) (Prod.fst (growR x0 (vmax (someC x0 x1) (someC x0 x2))))) (.ret ((false, ()))) (.need (True) (cond (Prod.fst (rightR x0 (someC x0 x2))) (.need (True) (cond (!within (someC x0 x1) (someC x0 x2)) (.ret ((true, ()))) (.need (True) (.ret ((within (Prod.fst (growR x0 (someC x0 x1))) (someC x0 x2), ())))))) (.ret ((true, ()))))))))))))))))))))))))) := by kernel_rfl
theorem cCutGrows_valid : (lawC [Es, Vec, Vec] (fun _ => True)).Valid Try.prog 13 := by
  refine Ctr.valid_of ECutGrows_ok rfl rfl Try.func13 (c := bodyOf Try.prog 13) rfl rfl FCutGrows_ok rfl ?_
  rintro ⟨(h : List Ev), (a : List Int), (b : List Int), ⟨⟩⟩ - -
  refine exec_sound (n := 1000) ECutGrows_ok FCutGrows_ok ?_
  refine holds_of_eq (ECutGrows_t h a b) ?_
  by_cases hh : scheck h = 0
  · have cA : CutOf h (someC h a) := someC_cut
    have cB : CutOf h (someC h b) := someC_cut
    generalize someC h a = A at *
    generalize someC h b = B at *
    have cX := grow_cut hh cA
    have cM := CutOf.vmax hh cA cB
    have cY := grow_cut hh cM
    have hx : growF h (growF h A) = growF h A := (grow_fix hh cX).2 (grow_ok hh cA)
    have w1 : within A (growF h A) = true := (within_le cX.len).2 (grow_above hh cA)
    have w2 : within (growF h A) (growF h (vmax A B)) = true := (within_le cY.len).2 (grow_least hh cA cY (grow_ok hh cM) ((Le6.vmax.1 Le6.refl).1.trans (grow_above hh cM)))
    have w3 : growF h B = B → within A B = true → within (growF h A) B = true := fun h1 h2 => (within_le cB.len).2 (grow_least hh cA cB ((grow_fix hh cB).1 h1) ((within_le cB.len).1 h2))
    have hpre : hPre h := hh
    have e1 : eqD (Ty.arr 6 (Ty.int IntKind.i64)) (growF h A) (growF h A) = true := by rw [eqDL_iff]; simp
    simp only [growR_ok hh cA, growR_ok hh cX, growR_ok hh cM, rightR_ok hh cX, rightR_ok hh cB, hx, e1, w1, w2, hh, Tree.holds, holds_cond, ne_eq, not_true_eq_false, decide_false, decide_true, Bool.false_eq_true, Bool.not_true, false_implies, true_and, and_true, not_false_eq_true, true_implies, reduceCtorEq, forall_const, Bool.true_eq_false, implies_true]
    refine ⟨hpre, fun _ => ?_⟩
    refine ⟨hpre, fun _ => ?_⟩
    refine ⟨fun h1 => ⟨fun _ => rfl, fun h2 => ?_⟩, fun _ => rfl⟩
    rw [w3 (of_decide_eq_true h1) (by simpa using h2)]; rfl
  · simp only [Tree.holds, holds_cond, true_and, true_implies, decide_eq_true_eq, decide_eq_false_iff_not, ne_eq, Decidable.not_not]
    exact ⟨fun _ => rfl, fun h1 => absurd h1 hh⟩
def cCutMeets : Ctr := lawC [Es, Vec, Vec] (fun _ => True)
noncomputable def ECutMeets : Env := { P := Try.prog, tt := tt, ctr := [(39, csent), (38, cgrow), (42, cright), (40, cscheck), (41, csome), (24, cvmax), (22, cwithin), (45, cvmin)], res := [Go.ResultVar.tmp 6], rs := [Ty.bool], ps := [PK.v Es, PK.v Vec, PK.v Vec], cuts := [], nt := 97 }
theorem ECutMeets_ok : EnvOk ECutMeets := envOk tt_ok ⟨csent_valid, cgrow_valid, cright_valid, cscheck_valid, csome_valid, cvmax_valid, cwithin_valid, cvmin_valid, trivial⟩
theorem FCutMeets_ok : FnOk ECutMeets Try.f15 := ⟨rfl, rfl⟩
theorem ECutMeets_t (x0 : List (Int × Int × Int × Unit)) (x1 : List Int) (x2 : List Int) : exec ECutMeets 1000 [.code (bodyOf Try.prog 15)] (initSt cCutMeets.ps ((x0, x1, x2, ()))) =
  .need (True) (.need (True) (.need (True) (.need (True) (.need (True) (cond (decide (scheck x0 ≠ (0 : Int))) (.ret ((true, ()))) (.need (hPre x0) (.need (True) (.need (hPre x0) (.need (True) (.need (True) (.need (True) (.need (True) (.need (True) (cond (decide (Prod.fst (Prod.snd (growR x0 (someC x0 x1))) = (0 : Int))) (cond (decide (Prod.fst (Prod.snd (growR x0 (someC x0 x2))) = (0 : Int))) (cond (decide (Prod.fst (Prod.snd (rightR x0 (vmax (Prod.fst (growR x0 (someC x0 x1))) (Prod.fst (growR x0 (someC x0 x2)))))) = (0 : Int))) (cond (decide (Prod.fst (Prod.snd (rightR x0 (vmin (Prod.fst (growR x0 (someC x0 x1))) (Prod.fst (growR x0 (someC x0 x2)))))) = (0 : Int))) (cond (Prod.fst (rightR x0 (vmax (Prod.fst (growR x0 (someC x0 x1))) (Prod.fst (growR x0 (someC x0 x2)))))) (.ret ((Prod.fst (rightR x0 (vmin (Prod.fst (growR x0 (someC x0 x1))) (Prod.fst (growR x0 (someC x0 x2))))), ()))) (.ret ((false, ())))) (.ret ((false, ())))) (.ret ((false, ())))) (.ret ((false, ())))) (.ret ((false, ()))))))))))))))))) := by kernel_rfl
theorem cCutMeets_valid : (lawC [Es, Vec, Vec] (fun _ => True)).Valid Try.prog 15 := by
  refine Ctr.valid_of ECutMeets_ok rfl rfl Try.func15 (c := bodyOf Try.prog 15) rfl rfl FCutMeets_ok rfl ?_
  rintro ⟨(h : List Ev), (a : List Int), (b : List Int), ⟨⟩⟩ - -
  refine exec_sound (n := 1000) ECutMeets_ok FCutMeets_ok ?_
  refine holds_of_eq (ECutMeets_t h a b) ?_
  by_cases hh : scheck h = 0
  · have cA : CutOf h (someC h a) := someC_cut
    have cB : CutOf h (someC h b) := someC_cut
    generalize someC h a = A at *
    generalize someC h b = B at *
    have cX := grow_cut hh cA
    have cY := grow_cut hh cB
    have cM := CutOf.vmax hh cX cY
    have cN := CutOf.vmin hh cX cY
    have w1 := (grow_fix hh cM).2 (OkC.vmax hh (grow_ok hh cA) (grow_ok hh cB))
    have w2 := (grow_fix hh cN).2 (OkC.vmin hh cX cY (grow_ok hh cA) (grow_ok hh cB))
    have hpre : hPre h := hh
    simp only [growR_ok hh cA, growR_ok hh cB, rightR_ok hh cM, rightR_ok hh cN, w1, w2, hh, Tree.holds, holds_cond, ne_eq, not_true_eq_false, decide_false, decide_true, Bool.false_eq_true, Bool.not_true, false_implies, true_and, and_true, not_false_eq_true, true_implies, reduceCtorEq, forall_const, Bool.true_eq_false, implies_true]
    refine ⟨hpre, fun _ => ?_⟩
    refine ⟨hpre, fun _ => ?_⟩
    rfl
  · simp only [Tree.holds, holds_cond, true_and, true_implies, decide_eq_true_eq, decide_eq_false_iff_not, ne_eq, Decidable.not_not]
    exact ⟨fun _ => rfl, fun h1 => absurd h1 hh⟩
def cCutShrinks : Ctr := lawC [Es, Vec, Vec] (fun _ => True)
noncomputable def ECutShrinks : Env := { P := Try.prog, tt := tt, ctr := [(39, csent), (46, cshrink), (42, cright), (40, cscheck), (41, csome), (24, cvmax), (22, cwithin), (45, cvmin)], res := [Go.ResultVar.tmp 6], rs := [Ty.bool], ps := [PK.v Es, PK.v Vec, PK.v Vec], cuts := [], nt := 120 }
theorem ECutShrinks_ok : EnvOk ECutShrinks := envOk tt_ok ⟨csent_valid, cshrink_valid, cright_valid, cscheck_valid, csome_valid, cvmax_valid, cwithin_valid, cvmin_valid, trivial⟩
theorem FCutShrinks_ok : FnOk ECutShrinks Try.f16 := ⟨rfl, rfl⟩
theorem ECutShrinks_t (x0 : List (Int × Int × Int × Unit)) (x1 : List Int) (x2 : List Int) : exec ECutShrinks 1000 [.code (bodyOf Try.prog 16)] (initSt cCutShrinks.ps ((x0, x1, x2, ()))) =
  .need (True) (.need (True) (.need (True) (.need (True) (.need (True) (cond (decide (scheck x0 ≠ (0 : Int))) (.ret ((true, ()))) (.need (hPre x0) (.need (hPre x0) (.need (True) (.need (True) (.need (True) (.need (True) (cond (decide (Prod.fst (Prod.snd (shrinkR x0 (someC x0 x1))) = (0 : Int))) (cond (decide (Prod.fst (Prod.snd (rightR x0 (Prod.fst (shrinkR x0 (someC x0 x1))))) = (0 : Int))) (cond (decide (Prod.fst (Prod.snd (shrinkR x0 (Prod.fst (shrinkR x0 (someC x0 x1))))) = (0 : Int))) (cond (decide (Prod.fst (Prod.snd (rightR x0 (someC x0 x2))) = (0 : Int))) (cond (Prod.fst (rightR x0 (Prod.fst (shrinkR x0 (someC x0 x1))))) (cond (eqD (Ty.arr 6 I64) (Prod.fst (shrinkR x0 (Prod.fst (shrinkR x0 (someC x0 x1))))) (Prod.fst (shrinkR x0 (someC x0 x1)))) (.need (True) (cond (within (Prod.fst (shrinkR x0 (someC x0 x1))) (someC x0 x1)) (cond (!Prod.fst (rightR x0 (someC x0 x2))) (.ret ((true, ()))) (.need (True) (cond (!within (someC x0 x2) (someC x0 x1)) (.ret ((true, ()))) (.need (True) (.ret ((within (someC x0 x2) (Prod.fst (shrinkR x0 (someC x0 x1))), ()))))))) (.ret ((false, ()))))) (.ret ((false, ())))) (.ret ((false, ())))) (.ret ((false, ())))) (.ret ((false, ())))) (.ret ((false, ())))) (.ret ((false, ()))))))))))))))) := by kernel_rfl
theorem cCutShrinks_valid : (lawC [Es, Vec, Vec] (fun _ => True)).Valid Try.prog 16 := by
  refine Ctr.valid_of ECutShrinks_ok rfl rfl Try.func16 (c := bodyOf Try.prog 16) rfl rfl FCutShrinks_ok rfl ?_
  rintro ⟨(h : List Ev), (a : List Int), (b : List Int), ⟨⟩⟩ - -
  refine exec_sound (n := 1000) ECutShrinks_ok FCutShrinks_ok ?_
  refine holds_of_eq (ECutShrinks_t h a b) ?_
  by_cases hh : scheck h = 0
  · have cA : CutOf h (someC h a) := someC_cut
    have cB : CutOf h (someC h b) := someC_cut
    generalize someC h a = A at *
    generalize someC h b = B at *
    have cX := shrink_cut hh cA
    have oX := shrink_ok hh cA
    have hx : growF h (shrinkF h A) = shrinkF h A := (grow_fix hh cX).2 oX
    have hs : shrinkF h (shrinkF h A) = shrinkF h A := Le6.anti (shrink_cut hh cX).len cX.len (shrink_below hh cX) (shrink_most hh cX cX oX Le6.refl)
    have w1 : within (shrinkF h A) A = true := (within_le cA.len).2 (shrink_below hh cA)
    have w3 : growF h B = B → within B A = true → within B (shrinkF h A) = true := fun h1 h2 => (within_le cX.len).2 (shrink_most hh cA cB ((grow_fix hh cB).1 h1) ((within_le cA.len).1 h2))
    have hpre : hPre h := hh
    have e1 : eqD (Ty.arr 6 (Ty.int IntKind.i64)) (shrinkF h A) (shrinkF h A) = true := by rw [eqDL_iff]; simp
    simp only [shrinkR_ok hh cA, shrinkR_ok hh cX, rightR_ok hh cX, rightR_ok hh cB, hx, hs, e1, w1, hh, Tree.holds, holds_cond, ne_eq, not_true_eq_false, decide_false, decide_true, Bool.false_eq_true, Bool.not_true, false_implies, true_and, and_true, not_false_eq_true, true_implies, reduceCtorEq, forall_const, Bool.true_eq_false, implies_true]
    refine ⟨hpre, fun _ => ?_⟩
    refine ⟨hpre, fun _ => ?_⟩
    refine ⟨fun _ => rfl, fun h1 => ⟨fun _ => rfl, fun h2 => ?_⟩⟩
    rw [w3 (by simpa using h1) (by simpa using h2)]; rfl
  · simp only [Tree.holds, holds_cond, true_and, true_implies, decide_eq_true_eq, decide_eq_false_iff_not, ne_eq, Decidable.not_not]
    exact ⟨fun _ => rfl, fun h1 => absurd h1 hh⟩
end Go.Proofs.Ytibpibbnnogdkaa
