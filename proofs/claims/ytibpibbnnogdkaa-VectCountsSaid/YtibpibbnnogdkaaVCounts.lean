/- VectCounts: the law's contract. -/
import Derived.Test.YtibpibbnnogdkaaHist3
import Derived.Test.YtibpibbnnogdkaaBase2
namespace Go.Proofs.Ytibpibbnnogdkaa
open Go.Ex
set_option maxRecDepth 100000
def cVectCounts : Ctr := lawC [Es] (fun _ => True)
noncomputable def EVectCounts : Env := { P := Try.prog, tt := tt, ctr := [(25, cstamps), (33, cahead), (26, ceqI), (35, ceqP), (34, ceqV), (27, crest), (23, cvectors), (44, ccompare), (24, cvmax), (22, cwithin), (43, ccontP), (36, clongC)], res := [Go.ResultVar.tmp 2], rs := [Ty.bool], ps := [PK.v Es], cuts := [(10, [(5, some (Ty.slc true Vec)), (7, some Is), (9, none), (55, none), (56, none), (57, none)]), (15, [(5, some (Ty.slc true Vec)), (7, some Is), (9, none), (10, none), (11, none), (12, none), (55, none), (56, none), (57, none), (71, none), (72, none)])], nt := 109 }
theorem EVectCounts_ok : EnvOk EVectCounts := envOk tt_ok ⟨cstamps_valid, cahead_valid, ceqI_valid, ceqP_valid, ceqV_valid, crest_valid, cvectors_valid, ccompare_valid, cvmax_valid, cwithin_valid, ccontP_valid, clongC_valid, trivial⟩
theorem FVectCounts_ok : FnOk EVectCounts Try.f9 := ⟨rfl, rfl⟩
theorem EVectCounts_t (x0 : List (Int × Int × Int × Unit)) : exec EVectCounts 1000 [.code (bodyOf Try.prog 9)] (initSt cVectCounts.ps ((x0, ()))) =
  .need (True) (.need ((0 : Int) ≤ (1 : Int) ∧ (1 : Int) < (↑(List.length (Prod.fst (vectors (List.set (List.set [((0 : Int), (0 : Int), (0 : Int), ()), ((0 : Int), (0 : Int), (0 : Int), ())] (Int.toNat (↑0 : Int)) ((2 : Int), (1 : Int), (0 : Int), ())) (Int.toNat (↑1 : Int)) ((2 : Int), (1 : Int), (0 : Int), ()))))) : Int)) (.need (True) (.need (True) (cond (decide (Prod.fst (Prod.snd (vectors x0)) ≠ (0 : Int))) (.ret ((decide (Prod.fst (Prod.snd (vectors x0)) = Prod.fst (Prod.snd (stamps x0))), ()))) (cond (decide (Prod.fst (Prod.snd (stamps x0)) ≠ (0 : Int))) (.ret ((decide (Prod.fst (Prod.snd (vectors x0)) = Prod.fst (Prod.snd (stamps x0))), ()))) (.cut (loopAt (bodyOf Try.prog 9) 10).1 (loopAt (bodyOf Try.prog 9) 10).2 (St.mk [(5, AV.at_ 1000005 []), (7, AV.at_ 1000007 []), (9, AV.ptr 9 []), (55, AV.val Es x0), (56, AV.val (Ty.int IntKind.i64) (↑(List.length x0) : Int)), (57, AV.val (Ty.int IntKind.i64) (0 : Int))] [(9, Ent.var Vec [(0 : Int), (0 : Int), (0 : Int), (0 : Int), (0 : Int), (0 : Int)]), (1000005, Ent.own (Ty.slc true Vec) (Prod.fst (vectors x0))), (1000007, Ent.own Is (Prod.fst (stamps x0)))]))))))) := by kernel_rfl
def EVectCounts_s10 (v55 : List (Int × Int × Int × Unit)) (v56 : Int) (v57 : Int) (o9 : List Int) (o1000005 : List (List Int)) (o1000007 : List Int) : St := St.mk [(5, AV.at_ 1000005 []), (7, AV.at_ 1000007 []), (9, AV.ptr 9 []), (55, AV.val Es v55), (56, AV.val (Ty.int IntKind.i64) v56), (57, AV.val (Ty.int IntKind.i64) v57)] [(9, Ent.var Vec o9), (1000005, Ent.own (Ty.slc true Vec) o1000005), (1000007, Ent.own Is o1000007)]
theorem EVectCounts_l10 (v55 : List (Int × Int × Int × Unit)) (v56 : Int) (v57 : Int) (o9 : List Int) (o1000005 : List (List Int)) (o1000007 : List Int) : exec EVectCounts 1000 (.code (loopAt (bodyOf Try.prog 9) 10).1 :: .inLoop (loopAt (bodyOf Try.prog 9) 10).1 :: (loopAt (bodyOf Try.prog 9) 10).2) (EVectCounts_s10 v55 v56 v57 o9 o1000005 o1000007) =
  cond (decide (v57 < v56)) (.need ((0 : Int) ≤ v57 ∧ v57 < (↑(List.length v55) : Int)) (.need ((0 : Int) ≤ Prod.fst (List.getD v55 (Int.toNat v57) ((0 : Int), (0 : Int), (0 : Int), ())) ∧ Prod.fst (List.getD v55 (Int.toNat v57) ((0 : Int), (0 : Int), (0 : Int), ())) < (↑6 : Int)) (.need (inK IntKind.i64 (List.getD o9 (Int.toNat (Prod.fst (List.getD v55 (Int.toNat v57) ((0 : Int), (0 : Int), (0 : Int), ())))) (0 : Int) + (1 : Int))) (.need ((0 : Int) ≤ Prod.fst (List.getD v55 (Int.toNat v57) ((0 : Int), (0 : Int), (0 : Int), ())) ∧ Prod.fst (List.getD v55 (Int.toNat v57) ((0 : Int), (0 : Int), (0 : Int), ())) < (↑6 : Int)) (.need ((0 : Int) ≤ v57 ∧ v57 < (↑(List.length o1000005) : Int)) (.cut (loopAt (bodyOf Try.prog 9) 15).1 (loopAt (bodyOf Try.prog 9) 15).2 (St.mk [(5, AV.at_ 1000005 []), (7, AV.at_ 1000007 []), (9, AV.ptr 9 []), (10, AV.val (Ty.int IntKind.i64) v57), (11, AV.ptr 11 []), (12, AV.val (Ty.int IntKind.i64) (0 : Int)), (55, AV.val Es v55), (56, AV.val (Ty.int IntKind.i64) v56), (57, AV.val (Ty.int IntKind.i64) v57), (71, AV.val Vec (List.getD o1000005 (Int.toNat v57) [(0 : Int), (0 : Int), (0 : Int), (0 : Int), (0 : Int), (0 : Int)])), (72, AV.val (Ty.int IntKind.i64) (0 : Int))] [(9, Ent.var Vec (List.set o9 (Int.toNat (Prod.fst (List.getD v55 (Int.toNat v57) ((0 : Int), (0 : Int), (0 : Int), ())))) (List.getD o9 (Int.toNat (Prod.fst (List.getD v55 (Int.toNat v57) ((0 : Int), (0 : Int), (0 : Int), ())))) (0 : Int) + (1 : Int)))), (11, Ent.var Event (List.getD v55 (Int.toNat v57) ((0 : Int), (0 : Int), (0 : Int), ()))), (1000005, Ent.own (Ty.slc true Vec) o1000005), (1000007, Ent.own Is o1000007)]))))))) (.ret ((true, ()))) := by kernel_rfl
def EVectCounts_s15 (v10 : Int) (v12 : Int) (v55 : List (Int × Int × Int × Unit)) (v56 : Int) (v57 : Int) (v71 : List Int) (v72 : Int) (o9 : List Int) (o11_1 : Int) (o11_2_1 : Int) (o11_2_2_1 : Int) (o1000005 : List (List Int)) (o1000007 : List Int) : St := St.mk [(5, AV.at_ 1000005 []), (7, AV.at_ 1000007 []), (9, AV.ptr 9 []), (10, AV.val (Ty.int IntKind.i64) v10), (11, AV.ptr 11 []), (12, AV.val (Ty.int IntKind.i64) v12), (55, AV.val Es v55), (56, AV.val (Ty.int IntKind.i64) v56), (57, AV.val (Ty.int IntKind.i64) v57), (71, AV.val Vec v71), (72, AV.val (Ty.int IntKind.i64) v72)] [(9, Ent.var Vec o9), (11, Ent.var Event (o11_1, o11_2_1, o11_2_2_1, ())), (1000005, Ent.own (Ty.slc true Vec) o1000005), (1000007, Ent.own Is o1000007)]
theorem EVectCounts_l15 (v10 : Int) (v12 : Int) (v55 : List (Int × Int × Int × Unit)) (v56 : Int) (v57 : Int) (v71 : List Int) (v72 : Int) (o9 : List Int) (o11_1 : Int) (o11_2_1 : Int) (o11_2_2_1 : Int) (o1000005 : List (List Int)) (o1000007 : List Int) : exec EVectCounts 1000 (.code (loopAt (bodyOf Try.prog 9) 15).1 :: .inLoop (loopAt (bodyOf Try.prog 9) 15).1 :: (loopAt (bodyOf Try.prog 9) 15).2) (EVectCounts_s15 v10 v12 v55 v56 v57 v71 v72 o9 o11_1 o11_2_1 o11_2_2_1 o1000005 o1000007) =
  cond (decide (v72 < (6 : Int))) (.need ((0 : Int) ≤ v72 ∧ v72 < (↑6 : Int)) (.need (inK IntKind.i64 (v12 + List.getD v71 (Int.toNat v72) (0 : Int))) (.need (inK IntKind.i64 (v72 + (1 : Int))) (.cut (loopAt (bodyOf Try.prog 9) 15).1 (loopAt (bodyOf Try.prog 9) 15).2 (St.mk [(5, AV.at_ 1000005 []), (7, AV.at_ 1000007 []), (9, AV.ptr 9 []), (10, AV.val (Ty.int IntKind.i64) v10), (11, AV.ptr 11 []), (12, AV.val (Ty.int IntKind.i64) (v12 + List.getD v71 (Int.toNat v72) (0 : Int))), (55, AV.val Es v55), (56, AV.val (Ty.int IntKind.i64) v56), (57, AV.val (Ty.int IntKind.i64) v57), (71, AV.val Vec v71), (72, AV.val (Ty.int IntKind.i64) (v72 + (1 : Int)))] [(9, Ent.var Vec o9), (11, Ent.var Event (o11_1, o11_2_1, o11_2_2_1, ())), (1000005, Ent.own (Ty.slc true Vec) o1000005), (1000007, Ent.own Is o1000007)]))))) (.need ((0 : Int) ≤ v10 ∧ v10 < (↑(List.length o1000005) : Int)) (.need ((0 : Int) ≤ o11_1 ∧ o11_1 < (↑6 : Int)) (.need ((0 : Int) ≤ o11_1 ∧ o11_1 < (↑6 : Int)) (cond (decide (List.getD (List.getD o1000005 (Int.toNat v10) [(0 : Int), (0 : Int), (0 : Int), (0 : Int), (0 : Int), (0 : Int)]) (Int.toNat o11_1) (0 : Int) ≠ List.getD o9 (Int.toNat o11_1) (0 : Int))) (.ret ((false, ()))) (.need ((0 : Int) ≤ v10 ∧ v10 < (↑(List.length o1000007) : Int)) (cond (decide (v12 < List.getD o1000007 (Int.toNat v10) (0 : Int))) (.ret ((false, ()))) (.need ((0 : Int) ≤ v10 ∧ v10 < (↑(List.length o1000005) : Int)) (.need (True) (cond (!within (List.getD o1000005 (Int.toNat v10) [(0 : Int), (0 : Int), (0 : Int), (0 : Int), (0 : Int), (0 : Int)]) o9) (.ret ((false, ()))) (.need (inK IntKind.i64 (v57 + (1 : Int))) (.cut (loopAt (bodyOf Try.prog 9) 10).1 (loopAt (bodyOf Try.prog 9) 10).2 (St.mk [(5, AV.at_ 1000005 []), (7, AV.at_ 1000007 []), (9, AV.ptr 9 []), (55, AV.val Es v55), (56, AV.val (Ty.int IntKind.i64) v56), (57, AV.val (Ty.int IntKind.i64) (v57 + (1 : Int)))] [(9, Ent.var Vec o9), (1000005, Ent.own (Ty.slc true Vec) o1000005), (1000007, Ent.own Is o1000007)])))))))))))) := by kernel_rfl
theorem stamps_bad {h : List Ev} (hh : scheck h ≠ 0) : stamps h = ([], scheck h, ()) := by rw [stamps, if_pos hh]
def sumTo (l : List Int) : Nat → Int
  | 0 => 0
  | k + 1 => sumTo l k + l.getD k 0
theorem sum_lt {A B : List Int} (h : ∀ p, p < 6 → A.getD p 0 ≤ B.getD p 0) {q : Nat} (hq : q < 6) (h2 : A.getD q 0 < B.getD q 0) : sumTo A 6 + 1 ≤ sumTo B 6 := by
  have a0 := h 0 (by omega)
  have a1 := h 1 (by omega)
  have a2 := h 2 (by omega)
  have a3 := h 3 (by omega)
  have a4 := h 4 (by omega)
  have a5 := h 5 (by omega)
  simp only [sumTo]
  match q, hq with
  | 0, _ | 1, _ | 2, _ | 3, _ | 4, _ | 5, _ => omega
def cntL (h : List Ev) (i : Nat) : List Int := (List.range 6).map (fun p => (cnt h p i : Int))
theorem cntL_at {h : List Ev} {i p : Nat} (hp : p < 6) : (cntL h i).getD p 0 = cnt h p i := getD_map_range _ _ hp
theorem cntL_set {h : List Ev} {i : Nat} (hp : pr h i < 6) : (cntL h i).set (pr h i) ((cnt h (pr h i) i : Int) + 1) = cntL h (i + 1) := by
  rw [cntL, set_map_range _ _ hp]
  refine List.map_congr_left (fun p _ => ?_)
  by_cases e : p = pr h i
  · rw [if_pos e, cnt, if_pos e.symm, e]; omega
  · rw [if_neg e, cnt, if_neg (fun h => e h.symm)]; omega
theorem cnt_le {h : List Ev} {p : Nat} : ∀ {i : Nat}, cnt h p i ≤ i
  | 0 => Nat.le_refl _
  | i + 1 => by have := cnt_le (h := h) (p := p) (i := i); simp only [cnt]; split <;> omega
section
variable {h : List Ev} (hh : scheck h = 0)
include hh
theorem vec_cnt {i p : Nat} (hi : i < h.length) (hp : p < 6) : 0 ≤ ((vectors h).1.getD i v0).getD p 0 ∧ ((vectors h).1.getD i v0).getD p 0 ≤ cnt h p (i + 1) := by
  obtain ⟨h0, h1 | ⟨j, j1, j2, j3⟩⟩ := vec_reach hh hi hp
  · exact ⟨h0, by omega⟩
  · subst j2
    have := cnt_lt (h := h) (a := j) (b := i + 1) (by omega)
    exact ⟨h0, by omega⟩
theorem num_sum {i : Nat} (hi : i < h.length) : (stamps h).1.getD i 0 ≤ sumTo ((vectors h).1.getD i v0) 6 := by
  induction i using Nat.strongRecOn with
  | _ i ih =>
    have hq := (hist_ok hh hi).p
    have hown := vec_own hh hi
    have hgen : ∀ j, j < i → hb h i j = true → (stamps h).1.getD j 0 + 1 ≤ sumTo ((vectors h).1.getD i v0) 6 := by
      intro j hj hbj
      have h1 := ih j hj (by omega)
      have h2 := sum_lt ((vec_le hh (show j < h.length by omega) hi).2 (.inr hbj)) hq (by
        rw [hown]
        have h3 : ¬ ((cnt h (pr h i) i : Int) + 1 ≤ ((vectors h).1.getD j v0).getD (pr h i) 0) := by
          rw [← vec_tells hh (show j < h.length by omega) hi]
          rintro (h4 | h4)
          · omega
          · have := hb_lt h4; omega
        omega)
      omega
    have hz : (0 : Int) + 1 ≤ sumTo ((vectors h).1.getD i v0) 6 := by
      have := sum_lt (A := v0) (B := (vectors h).1.getD i v0) (fun p hp => by rw [v0_at]; exact (vec_cnt hh hi hp).1) hq (by rw [v0_at, hown]; omega)
      have e : sumTo v0 6 = 0 := by decide
      omega
    have hP : valO (stamps h).1 (lastIdx h (pr h i) i) + 1 ≤ sumTo ((vectors h).1.getD i v0) 6 := by
      cases hk : lastIdx h (pr h i) i with
      | none => exact hz
      | some j =>
        obtain ⟨j1, j2, _⟩ := lastIdx_some hk
        exact hgen j j1 (hb_iff.2 ⟨j, j1, (edge_iff (hist_ok hh (by omega)) (hist_ok hh hi)).2 (.inl j2), .inl rfl⟩)
    have hS : kd h i = 3 → valO (stamps h).1 (sentIdx h (ms h i) i) + 1 ≤ sumTo ((vectors h).1.getD i v0) 6 := by
      intro h3
      cases hk : sentIdx h (ms h i) i with
      | none => exact hz
      | some j =>
        obtain ⟨j1, j2, j3, _⟩ := sentIdx_some hk
        exact hgen j j1 (hb_iff.2 ⟨j, j1, (edge_iff (hist_ok hh (by omega)) (hist_ok hh hi)).2 (.inr ⟨j2, h3, j3⟩), .inl rfl⟩)
    rw [(stamps_spec hh).2.2 i hi, numOf]
    split
    · rename_i h3
      have := hS h3
      split <;> omega
    · exact hP
end
theorem cVectCounts_valid : (lawC [Es] (fun _ => True)).Valid Try.prog 9 := by
  refine Ctr.valid_of EVectCounts_ok rfl rfl Try.func9 (c := bodyOf Try.prog 9) rfl rfl FVectCounts_ok rfl ?_
  rintro ⟨(h : List Ev), ⟨⟩⟩ - -
  refine exec_sound (n := 1000) EVectCounts_ok FVectCounts_ok ?_
  refine holds_of_eq (EVectCounts_t h) ?_
  by_cases hh : scheck h = 0
  · have hl := (scheck_ok hh).1
    obtain ⟨s1, s2, _⟩ := vectors_spec hh
    obtain ⟨t1, t2, _⟩ := stamps_spec hh
    rw [s2, t2]
    simp only [Tree.holds, holds_cond, decide_eq_true_eq, decide_eq_false_iff_not, true_and, true_implies]
    refine ⟨by decide +kernel, fun _ => ⟨fun b => absurd rfl b, fun _ => ⟨fun b => absurd rfl b, fun _ => ?_⟩⟩⟩
    have k1 : ∀ i p, i < h.length → p < 6 → 0 ≤ ((vectors h).1.getD i v0).getD p 0 ∧ ((vectors h).1.getD i v0).getD p 0 ≤ 60 := by
      intro i p hi hp
      have := vec_cnt hh hi hp
      have := cnt_le (h := h) (p := p) (i := i + 1)
      omega
    have k2 : ∀ i, i < h.length → ((vectors h).1.getD i v0).getD (pr h i) 0 = (cnt h (pr h i) i : Int) + 1 := fun i hi => vec_own hh hi
    have k3 : ∀ i, i < h.length → (stamps h).1.getD i 0 ≤ sumTo ((vectors h).1.getD i v0) 6 := fun i hi => num_sum hh hi
    have k4 : ∀ i, i < h.length → within ((vectors h).1.getD i v0) (cntL h (i + 1)) = true := fun i hi =>
      (within_iff (by simp [cntL])).2 (fun p hp => by rw [cntL_at hp]; exact (vec_cnt hh hi hp).2)
    generalize (vectors h).1 = V at *
    generalize (stamps h).1 = S at *
    refine Reach.loopI EVectCounts_ok FVectCounts_ok (fun i : Nat => EVectCounts_s10 h (h.length : Int) (i : Int) (cntL h i) V S) (fun i => i ≤ h.length) (fun i => h.length - i) 1000 (fun _ => ⟨uniq_of rfl, uniq_of rfl⟩) ?_ 0 (by omega)
    rintro i hi - ih
    refine holds_of_eq (EVectCounts_l10 ..) ?_
    simp only [holds_cond, Tree.holds, true_and, true_implies, decide_eq_true_eq, decide_eq_false_iff_not, Bool.not_eq_true', Bool.not_eq_false', Int.toNat_natCast, inK_i64, List.length_set, List.length_cons, List.length_nil]
    refine ⟨fun c => ?_, fun c => yes⟩
    have hi : i < h.length := by omega
    have ho := hist_ok hh hi
    have e1 : (h.getD i e0).1 = (pr h i : Int) := by rw [ho.eq]
    have hp := ho.p
    have hcl := cnt_le (h := h) (p := pr h i) (i := i)
    rw [e1]
    simp only [holds_cond, Tree.holds, true_and, true_implies, decide_eq_true_eq, decide_eq_false_iff_not, Bool.not_eq_true', Bool.not_eq_false', Int.toNat_natCast, inK_i64, List.length_set, List.length_cons, List.length_nil]
    rw [cntL_at hp, cntL_set hp]
    refine ⟨by omega, fun _ => ⟨by omega, fun _ => ⟨by omega, fun _ => ⟨by omega, fun _ => ⟨by omega, fun _ => ?_⟩⟩⟩⟩⟩
    refine Reach.loopI EVectCounts_ok FVectCounts_ok (fun k : Nat => EVectCounts_s15 (i : Int) (sumTo (V.getD i v0) k) h (h.length : Int) (i : Int) (V.getD i v0) (k : Int) (cntL h (i + 1)) (h.getD i e0).1 (h.getD i e0).2.1 (h.getD i e0).2.2.1 V S) (fun k => k ≤ 6 ∧ 0 ≤ sumTo (V.getD i v0) k ∧ sumTo (V.getD i v0) k ≤ k * 60) (fun k => 6 - k) 1000 (fun _ => ⟨uniq_of rfl, uniq_of rfl⟩) ?_ 0 ⟨by omega, Int.le_refl _, by simp [sumTo]⟩
    rintro k ⟨hk, g1, g2⟩ - ih2
    refine holds_of_eq (EVectCounts_l15 ..) ?_
    rw [e1]
    simp only [holds_cond, Tree.holds, true_and, true_implies, decide_eq_true_eq, decide_eq_false_iff_not, Bool.not_eq_true', Bool.not_eq_false', Int.toNat_natCast, inK_i64, List.length_set, List.length_cons, List.length_nil]
    refine ⟨fun d => ?_, fun d => ?_⟩
    · have q := k1 i k hi (by omega)
      have h9 := ih2 (k + 1) ⟨by omega, by simp only [sumTo]; omega, by simp only [sumTo]; omega⟩ (by omega)
      rw [e1] at h9
      exact ⟨by omega, fun _ => ⟨by omega, fun _ => ⟨by omega, fun _ => h9⟩⟩⟩
    · have hk6 : k = 6 := by omega
      subst hk6
      have hcnt : (cntL h (i + 1)).getD (pr h i) 0 = (cnt h (pr h i) i : Int) + 1 := by
        rw [cntL_at hp, cnt, if_pos rfl]; omega
      have q3 := k3 i hi
      have q4 := k4 i hi
      rw [hcnt, k2 i hi, q4]
      refine ⟨by omega, fun _ => ⟨by omega, fun _ => ⟨by omega, fun _ => ⟨fun d => absurd rfl d, fun _ => ⟨by omega, fun _ => ⟨fun d => absurd d (by omega), fun _ => ⟨by omega, fun _ => ⟨fun d => (by cases d), fun _ => ⟨by omega, fun _ => ih (i + 1) (by omega) (by omega)⟩⟩⟩⟩⟩⟩⟩⟩⟩
  · rw [vectors_bad hh, stamps_bad hh]
    simp only [Tree.holds, holds_cond, decide_eq_true_eq, decide_eq_false_iff_not, true_and, true_implies]
    exact ⟨by decide +kernel, fun _ => ⟨fun _ => yesd trivial, fun c => (c hh).elim⟩⟩
end Go.Proofs.Ytibpibbnnogdkaa
