/- PredFirst: the first cut in which it is so. -/
import Derived.Test.YtcafiieffenohaaPredA
namespace Go.Proofs.Ytcafiieffenohaa
open Go.Ex
set_option maxRecDepth 100000
theorem growR_ok {h : List Ev} {c : List Int} (hh : scheck h = 0) (hc : CutOf h c) : growR h c = (growF h c, 0, ()) := by
  rw [growR, if_neg (by simp [(cutErr_ok hc.len).2 ⟨hh, hc⟩])]
theorem rightR_ok {h : List Ev} {c : List Int} (hh : scheck h = 0) (hc : CutOf h c) : rightR h c = (decide (growF h c = c), 0, ()) := by
  rw [rightR, growR_ok hh hc]; rfl
theorem Good.vmin {h : List Ev} (hh : scheck h = 0) {t : TrD} {a b : List Int} (ga : Good h t a) (gb : Good h t b) : Good h t (vmin a b) := by
  refine ⟨CutOf.vmin hh ga.1 gb.1, OkC.vmin hh ga.1 gb.1 ga.2.1 gb.2.1, holds_iff.2 (fun p hp => ?_)⟩
  rw [vmin_at hp]
  rcases (minI_le (a := a.getD p 0) (b := b.getD p 0)).2.2 with e | e <;> rw [e]
  · exact holds_iff.1 ga.2.2 p hp
  · exact holds_iff.1 gb.2.2 p hp
theorem good_low {h : List Ev} (hh : scheck h = 0) {t : TrD} {m : List Int} (hm : Good h t m) : ∀ {L : List (List Int)}, (∀ d ∈ L, Good h t d) → ∃ c, Good h t c ∧ Le6 c m ∧ ∀ d ∈ L, Le6 c d
  | [], _ => ⟨m, hm, Le6.refl, fun d hd => by cases hd⟩
  | x :: L, hL => by
    obtain ⟨c, c1, c2, c3⟩ := good_low hh hm (L := L) (fun d hd => hL d (by simp [hd]))
    have gx := hL x (by simp)
    have l1 : Le6 (vmin c x) c := fun p hp => by rw [vmin_at hp]; exact minI_le.1
    have l2 : Le6 (vmin c x) x := fun p hp => by rw [vmin_at hp]; exact minI_le.2.1
    refine ⟨vmin c x, c1.vmin hh gx, l1.trans c2, fun d hd => ?_⟩
    rcases List.mem_cons.1 hd with rfl | hd
    · exact l2
    · exact l1.trans (c3 d hd)
theorem good_least {h : List Ev} (hh : scheck h = 0) {t : TrD} {m : List Int} (hm : Good h t m) : ∃ c, Good h t c ∧ ∀ d, Good h t d → Le6 c d := by
  obtain ⟨c, c1, -, c3⟩ := good_low hh hm (L := (allL h).filter (fun d => holdsB t d)) (fun d hd => by
    obtain ⟨d1, d2⟩ := List.mem_filter.1 hd
    obtain ⟨d3, d4⟩ := (mem_all hh).1 d1
    exact ⟨d3, d4, d2⟩)
  exact ⟨c, c1, fun d hd => c3 d (List.mem_filter.2 ⟨(mem_all hh).2 ⟨hd.1, hd.2.1⟩, hd.2.2⟩)⟩
theorem pErr_fit {h : List Ev} {t : TrD} (hh : scheck h = 0) (hf : fitB h t = true) : pErr h t = 0 := by rw [pErr, if_neg (by simp [hh]), if_pos hf]
/-- the first one is the least one, or there is none -/
theorem first_spec {h : List Ev} (hh : scheck h = 0) {t : TrD} (hf : fitB h t = true) : (∃ c, Good h t c ∧ (∀ d, Good h t d → Le6 c d) ∧ firstR h t = (c, 0, ())) ∨ ((∀ d, ¬ Good h t d) ∧ firstR h t = (v0, 6, ())) := by
  have e : firstR h t = match firstC h t with
    | some c => (c, 0, ())
    | none => (v0, 6, ()) := by
    rw [firstR, if_neg (by simp [pErr_fit hh hf])]
    cases firstC h t <;> rfl
  by_cases hg : ∃ d, Good h t d
  · obtain ⟨m, hm⟩ := hg
    obtain ⟨c, c1, c2⟩ := good_least hh hm
    exact .inl ⟨c, c1, c2, by rw [e, first_some hh c1 c2]⟩
  · have hn : ∀ d, ¬ Good h t d := fun d hd => hg ⟨d, hd⟩
    exact .inr ⟨hn, by rw [e, first_none hh hn]⟩
theorem any_fit {h : List Ev} {o : List Int} : fitB h (anyT h o) = true :=
  fit_iff.2 ⟨by simp [anyT], fun p hp => by rw [anyT, getD_map_range _ _ hp]; simp⟩
def cPredFirst : Ctr := lawC [Es, .arr 6 (.int .u64), Vec] (fun _ => True)
noncomputable def EPredFirst : Env := { P := Try.prog, tt := tt, ctr := [(40, csent), (41, clate), (39, cfirst), (42, cscheck), (43, cany), (44, csome), (45, cright), (46, cso), (47, cwithin)], res := [Go.ResultVar.tmp 6], rs := [Ty.bool], ps := [PK.v Es, PK.v (Ty.arr 6 (Ty.int IntKind.u64)), PK.v Vec], cuts := [], nt := 104 }
theorem EPredFirst_ok : EnvOk EPredFirst := envOk tt_ok ⟨csent_valid, clate_valid, cfirst_valid, cscheck_valid, cany_valid, csome_valid, cright_valid, cso_valid, cwithin_valid, trivial⟩
theorem FPredFirst_ok : FnOk EPredFirst Try.f14 := ⟨rfl, rfl⟩
theorem EPredFirst_t (x0 : List (Int × Int × Int × Unit)) (x1 : List Int) (x2 : List Int) : exec EPredFirst 1000 [.code (bodyOf Try.prog 14)] (initSt cPredFirst.ps ((x0, x1, x2, ()))) =
  .need (True) (.need (True) (.need (hPre sentH) (.need (True) (.need (True) (cond (decide (scheck x0 ≠ (0 : Int))) (.ret ((true, ()))) (.need (hPre x0) (.need (True) (.need (hPre x0) (.need (True) (cond (Prod.fst (rightR x0 (someC x0 x2))) (.need (inTr (anyT x0 x1) (someC x0 x2)) (cond (decide (Prod.fst (Prod.snd (firstR x0 (anyT x0 x1))) = (6 : Int))) (cond (decide (Prod.fst (Prod.snd (rightR x0 (someC x0 x2))) = (0 : Int))) (cond (!holdsB (anyT x0 x1) (someC x0 x2)) (.ret ((eqD (Ty.arr 6 I64) (Prod.fst (firstR x0 (anyT x0 x1))) [(0 : Int), (0 : Int), (0 : Int), (0 : Int), (0 : Int), (0 : Int)], ()))) (.ret ((false, ())))) (.ret ((false, ())))) (.need (True) (cond (decide (Prod.fst (Prod.snd (firstR x0 (anyT x0 x1))) = (0 : Int))) (cond (decide (Prod.fst (Prod.snd (rightR x0 (someC x0 x2))) = (0 : Int))) (cond (decide (Prod.fst (Prod.snd (rightR x0 (Prod.fst (firstR x0 (anyT x0 x1))))) = (0 : Int))) (cond (Prod.fst (rightR x0 (Prod.fst (firstR x0 (anyT x0 x1))))) (.need (inTr (anyT x0 x1) (Prod.fst (firstR x0 (anyT x0 x1)))) (cond (holdsB (anyT x0 x1) (Prod.fst (firstR x0 (anyT x0 x1)))) (cond (!holdsB (anyT x0 x1) (someC x0 x2)) (.ret ((true, ()))) (.need (True) (.ret ((within (Prod.fst (firstR x0 (anyT x0 x1))) (someC x0 x2), ()))))) (.ret ((false, ()))))) (.ret ((false, ())))) (.ret ((false, ())))) (.ret ((false, ())))) (.ret ((false, ()))))))) (cond (decide (Prod.fst (Prod.snd (firstR x0 (anyT x0 x1))) = (6 : Int))) (cond (decide (Prod.fst (Prod.snd (rightR x0 (someC x0 x2))) = (0 : Int))) (.ret ((eqD (Ty.arr 6 I64) (Prod.fst (firstR x0 (anyT x0 x1))) [(0 : Int), (0 : Int), (0 : Int), (0 : Int), (0 : Int), (0 : Int)], ()))) (.ret ((false, ())))) (.need (True) (cond (decide (Prod.fst (Prod.snd (firstR x0 (anyT x0 x1))) = (0 : Int))) (cond (decide (Prod.fst (Prod.snd (rightR x0 (someC x0 x2))) = (0 : Int))) (cond (decide (Prod.fst (Prod.snd (rightR x0 (Prod.fst (firstR x0 (anyT x0 x1))))) = (0 : Int))) (cond (Prod.fst (rightR x0 (Prod.fst (firstR x0 (anyT x0 x1))))) (.need (inTr (anyT x0 x1) (Prod.fst (firstR x0 (anyT x0 x1)))) (cond (holdsB (anyT x0 x1) (Prod.fst (firstR x0 (anyT x0 x1)))) (.ret ((true, ()))) (.ret ((false, ()))))) (.ret ((false, ())))) (.ret ((false, ())))) (.ret ((false, ())))) (.ret ((false, ())))))))))))))))) := by kernel_rfl
theorem cPredFirst_valid : (lawC [Es, .arr 6 (.int .u64), Vec] (fun _ => True)).Valid Try.prog 14 := by
  refine Ctr.valid_of EPredFirst_ok rfl rfl Try.func14 (c := bodyOf Try.prog 14) rfl rfl FPredFirst_ok rfl ?_
  rintro ⟨(h : List Ev), (o : List Int), (a : List Int), ⟨⟩⟩ - -
  refine exec_sound (n := 1000) EPredFirst_ok FPredFirst_ok ?_
  refine holds_of_eq (EPredFirst_t h o a) ?_
  have hs : hPre sentH := (by decide +kernel : scheck sentH = 0)
  by_cases hh : scheck h = 0
  · have cA : CutOf h (someC h a) := someC_cut
    have hpre : hPre h := hh
    have hf : fitB h (anyT h o) = true := any_fit
    generalize someC h a = A at *
    generalize anyT h o = t at *
    obtain ⟨f6, ff⟩ := fit_iff.1 hf
    have iA := cut_in f6 ff cA
    have eR := rightR_ok hh cA
    have gA : growF h A = A ↔ OkC h A := grow_fix hh cA
    rcases first_spec hh hf with ⟨c, c1, c2, c3⟩ | ⟨c1, c3⟩
    · have eC := rightR_ok hh c1.1
      have gC : growF h c = c := (grow_fix hh c1.1).2 c1.2.1
      have iC := cut_in f6 ff c1.1
      have wA : growF h A = A → holdsB t A = true → within c A = true := fun h1 h2 => (within_le cA.len).2 (c2 A ⟨cA, gA.1 h1, h2⟩)
      rw [c3]
      simp only [hs, eR, eC, gC, c1.2.2, hh, Tree.holds, holds_cond, ne_eq, not_true_eq_false, decide_false, decide_true, Bool.false_eq_true, Bool.not_true, false_implies, true_and, and_true, true_implies, Bool.true_eq_false, implies_true, decide_eq_true_eq, decide_eq_false_iff_not]
      refine ⟨hpre, fun _ => ⟨hpre, fun _ => ⟨fun g => ⟨iA, fun _ => ⟨fun e => absurd e (by decide), fun _ => ⟨iC, fun _ => ⟨fun _ => rfl, fun b => ?_⟩⟩⟩⟩, fun g => ⟨fun e => absurd e (by decide), fun _ => ⟨iC, fun _ => rfl⟩⟩⟩⟩⟩
      rw [wA g (by simpa using b)]; rfl
    · rw [c3]
      simp only [hs, eR, hh, Tree.holds, holds_cond, ne_eq, not_true_eq_false, decide_false, decide_true, Bool.false_eq_true, Bool.not_true, false_implies, true_and, and_true, true_implies, Bool.true_eq_false, implies_true, decide_eq_true_eq, decide_eq_false_iff_not]
      refine ⟨hpre, fun _ => ⟨hpre, fun _ => ⟨fun g => ⟨iA, fun _ => ⟨fun _ => rfl, fun b => ?_⟩⟩, fun g => rfl⟩⟩⟩
      exact absurd ⟨cA, gA.1 g, by simpa using b⟩ (c1 A)
  · simp only [hs, Tree.holds, holds_cond, true_and, true_implies, decide_eq_true_eq, decide_eq_false_iff_not, ne_eq, Decidable.not_not]
    exact ⟨fun _ => rfl, fun h1 => absurd h1 hh⟩
end Go.Proofs.Ytcafiieffenohaa
