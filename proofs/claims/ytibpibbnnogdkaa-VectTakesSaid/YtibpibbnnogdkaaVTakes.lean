/- VectTakes: the law's contract. -/
import Derived.Test.YtibpibbnnogdkaaHist3
import Derived.Test.YtibpibbnnogdkaaBase2
namespace Go.Proofs.Ytibpibbnnogdkaa
open Go.Ex
set_option maxRecDepth 100000
def cVectTakes : Ctr := lawC [Es] (fun _ => True)
noncomputable def EVectTakes : Env := { P := Try.prog, tt := tt, ctr := [(25, cstamps), (33, cahead), (26, ceqI), (35, ceqP), (34, ceqV), (27, crest), (23, cvectors), (44, ccompare), (24, cvmax), (22, cwithin), (43, ccontP), (36, clongC)], res := [Go.ResultVar.tmp 2], rs := [Ty.bool], ps := [PK.v Es], cuts := [(8, [(0, none), (5, some (Ty.slc true Vec)), (46, none), (47, none), (48, none)]), (12, [(0, none), (5, some (Ty.slc true Vec)), (7, none), (8, none), (9, none), (10, none), (46, none), (47, none), (48, none), (55, none), (56, none), (57, none)])], nt := 107 }
theorem EVectTakes_ok : EnvOk EVectTakes := envOk tt_ok ⟨cstamps_valid, cahead_valid, ceqI_valid, ceqP_valid, ceqV_valid, crest_valid, cvectors_valid, ccompare_valid, cvmax_valid, cwithin_valid, ccontP_valid, clongC_valid, trivial⟩
theorem FVectTakes_ok : FnOk EVectTakes Try.f4 := ⟨rfl, rfl⟩
theorem EVectTakes_t (x0 : List (Int × Int × Int × Unit)) : exec EVectTakes 1000 [.code (bodyOf Try.prog 4)] (initSt cVectTakes.ps ((x0, ()))) =
  .need (True) (.need ((0 : Int) ≤ (2 : Int) ∧ (2 : Int) < (↑(List.length (Prod.fst (vectors (List.set (List.set (List.set [((0 : Int), (0 : Int), (0 : Int), ()), ((0 : Int), (0 : Int), (0 : Int), ()), ((0 : Int), (0 : Int), (0 : Int), ())] (Int.toNat (↑0 : Int)) ((2 : Int), (2 : Int), (0 : Int), ())) (Int.toNat (↑1 : Int)) ((0 : Int), (1 : Int), (0 : Int), ())) (Int.toNat (↑2 : Int)) ((0 : Int), (3 : Int), (0 : Int), ()))))) : Int)) (.need (True) (cond (decide (Prod.fst (Prod.snd (vectors x0)) ≠ (0 : Int))) (.ret ((decide ((↑(List.length (Prod.fst (vectors x0))) : Int) = (0 : Int)), ()))) (.cut (loopAt (bodyOf Try.prog 4) 8).1 (loopAt (bodyOf Try.prog 4) 8).2 (St.mk [(0, AV.val Es x0), (5, AV.at_ 1000005 []), (46, AV.val Es x0), (47, AV.val (Ty.int IntKind.i64) (↑(List.length x0) : Int)), (48, AV.val (Ty.int IntKind.i64) (0 : Int))] [(1000005, Ent.own (Ty.slc true Vec) (Prod.fst (vectors x0)))]))))) := by kernel_rfl
def EVectTakes_s8 (v0 : List (Int × Int × Int × Unit)) (v46 : List (Int × Int × Int × Unit)) (v47 : Int) (v48 : Int) (o1000005 : List (List Int)) : St := St.mk [(0, AV.val Es v0), (5, AV.at_ 1000005 []), (46, AV.val Es v46), (47, AV.val (Ty.int IntKind.i64) v47), (48, AV.val (Ty.int IntKind.i64) v48)] [(1000005, Ent.own (Ty.slc true Vec) o1000005)]
theorem EVectTakes_l8 (v0 : List (Int × Int × Int × Unit)) (v46 : List (Int × Int × Int × Unit)) (v47 : Int) (v48 : Int) (o1000005 : List (List Int)) : exec EVectTakes 1000 (.code (loopAt (bodyOf Try.prog 4) 8).1 :: .inLoop (loopAt (bodyOf Try.prog 4) 8).1 :: (loopAt (bodyOf Try.prog 4) 8).2) (EVectTakes_s8 v0 v46 v47 v48 o1000005) =
  cond (decide (v48 < v47)) (.need ((0 : Int) ≤ v48 ∧ v48 < (↑(List.length v46) : Int)) (.need ((0 : Int) ≤ (0 : Int) ∧ (0 : Int) ≤ v48 ∧ v48 ≤ (↑(List.length v0) : Int)) (.cut (loopAt (bodyOf Try.prog 4) 12).1 (loopAt (bodyOf Try.prog 4) 12).2 (St.mk [(0, AV.val Es v0), (5, AV.at_ 1000005 []), (7, AV.val (Ty.int IntKind.i64) v48), (8, AV.ptr 8 []), (9, AV.ptr 9 []), (10, AV.ptr 10 []), (46, AV.val Es v46), (47, AV.val (Ty.int IntKind.i64) v47), (48, AV.val (Ty.int IntKind.i64) v48), (55, AV.val Es (cut2 (0 : Int) v48 v0)), (56, AV.val (Ty.int IntKind.i64) (↑(List.length (cut2 (0 : Int) v48 v0)) : Int)), (57, AV.val (Ty.int IntKind.i64) (0 : Int))] [(8, Ent.var Event (List.getD v46 (Int.toNat v48) ((0 : Int), (0 : Int), (0 : Int), ()))), (9, Ent.var Vec [(0 : Int), (0 : Int), (0 : Int), (0 : Int), (0 : Int), (0 : Int)]), (10, Ent.var Vec [(0 : Int), (0 : Int), (0 : Int), (0 : Int), (0 : Int), (0 : Int)]), (1000005, Ent.own (Ty.slc true Vec) o1000005)])))) (.ret ((true, ()))) := by kernel_rfl
def EVectTakes_s12 (v0 : List (Int × Int × Int × Unit)) (v7 : Int) (v46 : List (Int × Int × Int × Unit)) (v47 : Int) (v48 : Int) (v55 : List (Int × Int × Int × Unit)) (v56 : Int) (v57 : Int) (o8_1 : Int) (o8_2_1 : Int) (o8_2_2_1 : Int) (o9 : List Int) (o10 : List Int) (o1000005 : List (List Int)) : St := St.mk [(0, AV.val Es v0), (5, AV.at_ 1000005 []), (7, AV.val (Ty.int IntKind.i64) v7), (8, AV.ptr 8 []), (9, AV.ptr 9 []), (10, AV.ptr 10 []), (46, AV.val Es v46), (47, AV.val (Ty.int IntKind.i64) v47), (48, AV.val (Ty.int IntKind.i64) v48), (55, AV.val Es v55), (56, AV.val (Ty.int IntKind.i64) v56), (57, AV.val (Ty.int IntKind.i64) v57)] [(8, Ent.var Event (o8_1, o8_2_1, o8_2_2_1, ())), (9, Ent.var Vec o9), (10, Ent.var Vec o10), (1000005, Ent.own (Ty.slc true Vec) o1000005)]
theorem EVectTakes_l12 (v0 : List (Int × Int × Int × Unit)) (v7 : Int) (v46 : List (Int × Int × Int × Unit)) (v47 : Int) (v48 : Int) (v55 : List (Int × Int × Int × Unit)) (v56 : Int) (v57 : Int) (o8_1 : Int) (o8_2_1 : Int) (o8_2_2_1 : Int) (o9 : List Int) (o10 : List Int) (o1000005 : List (List Int)) : exec EVectTakes 1000 (.code (loopAt (bodyOf Try.prog 4) 12).1 :: .inLoop (loopAt (bodyOf Try.prog 4) 12).1 :: (loopAt (bodyOf Try.prog 4) 12).2) (EVectTakes_s12 v0 v7 v46 v47 v48 v55 v56 v57 o8_1 o8_2_1 o8_2_2_1 o9 o10 o1000005) =
  cond (decide (v57 < v56)) (.need ((0 : Int) ≤ v57 ∧ v57 < (↑(List.length v55) : Int)) (cond (decide (Prod.fst (List.getD v55 (Int.toNat v57) ((0 : Int), (0 : Int), (0 : Int), ())) = o8_1)) (.need ((0 : Int) ≤ v57 ∧ v57 < (↑(List.length o1000005) : Int)) (cond (decide (o8_2_1 = (3 : Int))) (cond (decide (Prod.fst (Prod.snd (List.getD v55 (Int.toNat v57) ((0 : Int), (0 : Int), (0 : Int), ()))) = (2 : Int))) (cond (decide (Prod.fst (Prod.snd (Prod.snd (List.getD v55 (Int.toNat v57) ((0 : Int), (0 : Int), (0 : Int), ())))) = o8_2_2_1)) (.need ((0 : Int) ≤ v57 ∧ v57 < (↑(List.length o1000005) : Int)) (.need (inK IntKind.i64 (v57 + (1 : Int))) (.cut (loopAt (bodyOf Try.prog 4) 12).1 (loopAt (bodyOf Try.prog 4) 12).2 (St.mk [(0, AV.val Es v0), (5, AV.at_ 1000005 []), (7, AV.val (Ty.int IntKind.i64) v7), (8, AV.ptr 8 []), (9, AV.ptr 9 []), (10, AV.ptr 10 []), (46, AV.val Es v46), (47, AV.val (Ty.int IntKind.i64) v47), (48, AV.val (Ty.int IntKind.i64) v48), (55, AV.val Es v55), (56, AV.val (Ty.int IntKind.i64) v56), (57, AV.val (Ty.int IntKind.i64) (v57 + (1 : Int)))] [(8, Ent.var Event (o8_1, o8_2_1, o8_2_2_1, ())), (9, Ent.var Vec (List.getD o1000005 (Int.toNat v57) [(0 : Int), (0 : Int), (0 : Int), (0 : Int), (0 : Int), (0 : Int)])), (10, Ent.var Vec (List.getD o1000005 (Int.toNat v57) [(0 : Int), (0 : Int), (0 : Int), (0 : Int), (0 : Int), (0 : Int)])), (1000005, Ent.own (Ty.slc true Vec) o1000005)])))) (.need (inK IntKind.i64 (v57 + (1 : Int))) (.cut (loopAt (bodyOf Try.prog 4) 12).1 (loopAt (bodyOf Try.prog 4) 12).2 (St.mk [(0, AV.val Es v0), (5, AV.at_ 1000005 []), (7, AV.val (Ty.int IntKind.i64) v7), (8, AV.ptr 8 []), (9, AV.ptr 9 []), (10, AV.ptr 10 []), (46, AV.val Es v46), (47, AV.val (Ty.int IntKind.i64) v47), (48, AV.val (Ty.int IntKind.i64) v48), (55, AV.val Es v55), (56, AV.val (Ty.int IntKind.i64) v56), (57, AV.val (Ty.int IntKind.i64) (v57 + (1 : Int)))] [(8, Ent.var Event (o8_1, o8_2_1, o8_2_2_1, ())), (9, Ent.var Vec (List.getD o1000005 (Int.toNat v57) [(0 : Int), (0 : Int), (0 : Int), (0 : Int), (0 : Int), (0 : Int)])), (10, Ent.var Vec o10), (1000005, Ent.own (Ty.slc true Vec) o1000005)])))) (.need (inK IntKind.i64 (v57 + (1 : Int))) (.cut (loopAt (bodyOf Try.prog 4) 12).1 (loopAt (bodyOf Try.prog 4) 12).2 (St.mk [(0, AV.val Es v0), (5, AV.at_ 1000005 []), (7, AV.val (Ty.int IntKind.i64) v7), (8, AV.ptr 8 []), (9, AV.ptr 9 []), (10, AV.ptr 10 []), (46, AV.val Es v46), (47, AV.val (Ty.int IntKind.i64) v47), (48, AV.val (Ty.int IntKind.i64) v48), (55, AV.val Es v55), (56, AV.val (Ty.int IntKind.i64) v56), (57, AV.val (Ty.int IntKind.i64) (v57 + (1 : Int)))] [(8, Ent.var Event (o8_1, o8_2_1, o8_2_2_1, ())), (9, Ent.var Vec (List.getD o1000005 (Int.toNat v57) [(0 : Int), (0 : Int), (0 : Int), (0 : Int), (0 : Int), (0 : Int)])), (10, Ent.var Vec o10), (1000005, Ent.own (Ty.slc true Vec) o1000005)])))) (.need (inK IntKind.i64 (v57 + (1 : Int))) (.cut (loopAt (bodyOf Try.prog 4) 12).1 (loopAt (bodyOf Try.prog 4) 12).2 (St.mk [(0, AV.val Es v0), (5, AV.at_ 1000005 []), (7, AV.val (Ty.int IntKind.i64) v7), (8, AV.ptr 8 []), (9, AV.ptr 9 []), (10, AV.ptr 10 []), (46, AV.val Es v46), (47, AV.val (Ty.int IntKind.i64) v47), (48, AV.val (Ty.int IntKind.i64) v48), (55, AV.val Es v55), (56, AV.val (Ty.int IntKind.i64) v56), (57, AV.val (Ty.int IntKind.i64) (v57 + (1 : Int)))] [(8, Ent.var Event (o8_1, o8_2_1, o8_2_2_1, ())), (9, Ent.var Vec (List.getD o1000005 (Int.toNat v57) [(0 : Int), (0 : Int), (0 : Int), (0 : Int), (0 : Int), (0 : Int)])), (10, Ent.var Vec o10), (1000005, Ent.own (Ty.slc true Vec) o1000005)]))))) (cond (decide (o8_2_1 = (3 : Int))) (cond (decide (Prod.fst (Prod.snd (List.getD v55 (Int.toNat v57) ((0 : Int), (0 : Int), (0 : Int), ()))) = (2 : Int))) (cond (decide (Prod.fst (Prod.snd (Prod.snd (List.getD v55 (Int.toNat v57) ((0 : Int), (0 : Int), (0 : Int), ())))) = o8_2_2_1)) (.need ((0 : Int) ≤ v57 ∧ v57 < (↑(List.length o1000005) : Int)) (.need (inK IntKind.i64 (v57 + (1 : Int))) (.cut (loopAt (bodyOf Try.prog 4) 12).1 (loopAt (bodyOf Try.prog 4) 12).2 (St.mk [(0, AV.val Es v0), (5, AV.at_ 1000005 []), (7, AV.val (Ty.int IntKind.i64) v7), (8, AV.ptr 8 []), (9, AV.ptr 9 []), (10, AV.ptr 10 []), (46, AV.val Es v46), (47, AV.val (Ty.int IntKind.i64) v47), (48, AV.val (Ty.int IntKind.i64) v48), (55, AV.val Es v55), (56, AV.val (Ty.int IntKind.i64) v56), (57, AV.val (Ty.int IntKind.i64) (v57 + (1 : Int)))] [(8, Ent.var Event (o8_1, o8_2_1, o8_2_2_1, ())), (9, Ent.var Vec o9), (10, Ent.var Vec (List.getD o1000005 (Int.toNat v57) [(0 : Int), (0 : Int), (0 : Int), (0 : Int), (0 : Int), (0 : Int)])), (1000005, Ent.own (Ty.slc true Vec) o1000005)])))) (.need (inK IntKind.i64 (v57 + (1 : Int))) (.cut (loopAt (bodyOf Try.prog 4) 12).1 (loopAt (bodyOf Try.prog 4) 12).2 (St.mk [(0, AV.val Es v0), (5, AV.at_ 1000005 []), (7, AV.val (Ty.int IntKind.i64) v7), (8, AV.ptr 8 []), (9, AV.ptr 9 []), (10, AV.ptr 10 []), (46, AV.val Es v46), (47, AV.val (Ty.int IntKind.i64) v47), (48, AV.val (Ty.int IntKind.i64) v48), (55, AV.val Es v55), (56, AV.val (Ty.int IntKind.i64) v56), (57, AV.val (Ty.int IntKind.i64) (v57 + (1 : Int)))] [(8, Ent.var Event (o8_1, o8_2_1, o8_2_2_1, ())), (9, Ent.var Vec o9), (10, Ent.var Vec o10), (1000005, Ent.own (Ty.slc true Vec) o1000005)])))) (.need (inK IntKind.i64 (v57 + (1 : Int))) (.cut (loopAt (bodyOf Try.prog 4) 12).1 (loopAt (bodyOf Try.prog 4) 12).2 (St.mk [(0, AV.val Es v0), (5, AV.at_ 1000005 []), (7, AV.val (Ty.int IntKind.i64) v7), (8, AV.ptr 8 []), (9, AV.ptr 9 []), (10, AV.ptr 10 []), (46, AV.val Es v46), (47, AV.val (Ty.int IntKind.i64) v47), (48, AV.val (Ty.int IntKind.i64) v48), (55, AV.val Es v55), (56, AV.val (Ty.int IntKind.i64) v56), (57, AV.val (Ty.int IntKind.i64) (v57 + (1 : Int)))] [(8, Ent.var Event (o8_1, o8_2_1, o8_2_2_1, ())), (9, Ent.var Vec o9), (10, Ent.var Vec o10), (1000005, Ent.own (Ty.slc true Vec) o1000005)])))) (.need (inK IntKind.i64 (v57 + (1 : Int))) (.cut (loopAt (bodyOf Try.prog 4) 12).1 (loopAt (bodyOf Try.prog 4) 12).2 (St.mk [(0, AV.val Es v0), (5, AV.at_ 1000005 []), (7, AV.val (Ty.int IntKind.i64) v7), (8, AV.ptr 8 []), (9, AV.ptr 9 []), (10, AV.ptr 10 []), (46, AV.val Es v46), (47, AV.val (Ty.int IntKind.i64) v47), (48, AV.val (Ty.int IntKind.i64) v48), (55, AV.val Es v55), (56, AV.val (Ty.int IntKind.i64) v56), (57, AV.val (Ty.int IntKind.i64) (v57 + (1 : Int)))] [(8, Ent.var Event (o8_1, o8_2_1, o8_2_2_1, ())), (9, Ent.var Vec o9), (10, Ent.var Vec o10), (1000005, Ent.own (Ty.slc true Vec) o1000005)])))))) (.need (True) (.need ((0 : Int) ≤ o8_1 ∧ o8_1 < (↑6 : Int)) (.need (inK IntKind.i64 (List.getD (vmax o9 o10) (Int.toNat o8_1) (0 : Int) + (1 : Int))) (.need ((0 : Int) ≤ o8_1 ∧ o8_1 < (↑6 : Int)) (.need ((0 : Int) ≤ v7 ∧ v7 < (↑(List.length o1000005) : Int)) (cond (!eqD Vec (List.getD o1000005 (Int.toNat v7) [(0 : Int), (0 : Int), (0 : Int), (0 : Int), (0 : Int), (0 : Int)]) (List.set (vmax o9 o10) (Int.toNat o8_1) (List.getD (vmax o9 o10) (Int.toNat o8_1) (0 : Int) + (1 : Int)))) (.ret ((false, ()))) (.need (inK IntKind.i64 (v48 + (1 : Int))) (.cut (loopAt (bodyOf Try.prog 4) 8).1 (loopAt (bodyOf Try.prog 4) 8).2 (St.mk [(0, AV.val Es v0), (5, AV.at_ 1000005 []), (46, AV.val Es v46), (47, AV.val (Ty.int IntKind.i64) v47), (48, AV.val (Ty.int IntKind.i64) (v48 + (1 : Int)))] [(1000005, Ent.own (Ty.slc true Vec) o1000005)]))))))))) := by kernel_rfl
def srcV (h : List Ev) (V : List (List Int)) (k i : Nat) : List Int := if kd h k = 3 then valV V (sentIdx h (ms h k) i) else v0
theorem cnt_le {h : List Ev} {p : Nat} : ∀ {i : Nat}, cnt h p i ≤ i
  | 0 => Nat.le_refl _
  | i + 1 => by have := cnt_le (h := h) (p := p) (i := i); simp only [cnt]; split <;> omega
theorem takes_at {h : List Ev} (hh : scheck h = 0) {k : Nat} (hk : k < h.length) :
    (vmax (valV (vectors h).1 (lastIdx h (pr h k) k)) (srcV h (vectors h).1 k k)).getD (pr h k) 0 = cnt h (pr h k) k ∧
    (vmax (valV (vectors h).1 (lastIdx h (pr h k) k)) (srcV h (vectors h).1 k k)).set (pr h k) ((cnt h (pr h k) k : Int) + 1) = (vectors h).1.getD k v0 := by
  have hq := (hist_ok hh hk).p
  have h1 : (valV (vectors h).1 (lastIdx h (pr h k) k)).getD (pr h k) 0 = cnt h (pr h k) k := by
    have hc := cnt_last (h := h) (p := pr h k) (i := k)
    cases hl : lastIdx h (pr h k) k with
    | none => rw [hl] at hc; rw [show valV (vectors h).1 none = v0 from rfl, v0_at]; simp only at hc; omega
    | some j =>
      rw [hl] at hc
      obtain ⟨j1, j2, _⟩ := lastIdx_some hl
      have := vec_own hh (show j < h.length by omega)
      rw [j2] at this
      show ((vectors h).1.getD j v0).getD (pr h k) 0 = _
      simp only at hc
      omega
  have h2 : 0 ≤ (srcV h (vectors h).1 k k).getD (pr h k) 0 ∧ (srcV h (vectors h).1 k k).getD (pr h k) 0 ≤ cnt h (pr h k) k := by
    unfold srcV
    split
    · cases hs : sentIdx h (ms h k) k with
      | none => rw [show valV (vectors h).1 none = v0 from rfl, v0_at]; omega
      | some j =>
        obtain ⟨j1, _⟩ := sentIdx_some hs
        have h3 : ¬ ((cnt h (pr h k) k : Int) + 1 ≤ ((vectors h).1.getD j v0).getD (pr h k) 0) := by
          rw [← vec_tells hh (show j < h.length by omega) hk]
          rintro (h4 | h4)
          · omega
          · have := hb_lt h4; omega
        have := (vec_reach hh (show j < h.length by omega) hq).1
        show 0 ≤ ((vectors h).1.getD j v0).getD (pr h k) 0 ∧ ((vectors h).1.getD j v0).getD (pr h k) 0 ≤ _
        omega
    · rw [v0_at]; omega
  refine ⟨?_, ?_⟩
  · rw [vmax_at hq, h1]
    unfold maxI; split <;> omega
  · refine ext6 (by simp [vmax_len]) (vec_len hh hk) (fun p hp => ?_)
    rw [getD_set (by rw [vmax_len]; exact hq), vec_at hh hk hp]
    split
    · rfl
    · rw [vmax_at hp]
      unfold baseV srcV
      split
      · rfl
      · rw [v0_at]
        have : 0 ≤ (valV (vectors h).1 (lastIdx h (pr h k) k)).getD p 0 := by
          cases hl : lastIdx h (pr h k) k with
          | none => rw [show valV (vectors h).1 none = v0 from rfl, v0_at]; omega
          | some j =>
            obtain ⟨j1, _⟩ := lastIdx_some hl
            exact (vec_reach hh (show j < h.length by omega) hp).1
        unfold maxI; split <;> omega
theorem cVectTakes_valid : (lawC [Es] (fun _ => True)).Valid Try.prog 4 := by
  refine Ctr.valid_of EVectTakes_ok rfl rfl Try.func4 (c := bodyOf Try.prog 4) rfl rfl FVectTakes_ok rfl ?_
  rintro ⟨(h : List Ev), ⟨⟩⟩ - -
  refine exec_sound (n := 1000) EVectTakes_ok FVectTakes_ok ?_
  refine holds_of_eq (EVectTakes_t h) ?_
  by_cases hh : scheck h = 0
  · have hl := (scheck_ok hh).1
    obtain ⟨s1, s2, _⟩ := vectors_spec hh
    rw [s2]
    simp only [Tree.holds, holds_cond, decide_eq_true_eq, decide_eq_false_iff_not, true_and, true_implies]
    refine ⟨by decide +kernel, fun _ => ⟨fun b => absurd rfl b, fun _ => ?_⟩⟩
    have key := fun k (hk : k < h.length) => takes_at hh hk
    generalize (vectors h).1 = V at *
    refine Reach.loopI EVectTakes_ok FVectTakes_ok (fun k : Nat => EVectTakes_s8 h h (h.length : Int) (k : Int) V) (fun k => k ≤ h.length) (fun k => h.length - k) 1000 (fun _ => ⟨uniq_of rfl, uniq_of rfl⟩) ?_ 0 (by omega)
    rintro k k1 - ih
    refine holds_of_eq (EVectTakes_l8 ..) ?_
    simp only [holds_cond, Tree.holds, true_and, true_implies, decide_eq_true_eq, decide_eq_false_iff_not, Bool.not_eq_true', Bool.not_eq_false', Int.toNat_natCast, inK_i64, List.length_set, List.length_cons, List.length_nil]
    refine ⟨fun c => ⟨by omega, fun _ => ⟨by omega, fun _ => ?_⟩⟩, fun c => yes⟩
    have hk : k < h.length := by omega
    have hok := hist_ok hh hk
    rw [cut_take]
    have htl : (h.take k).length = k := by simp; omega
    have hs0 : srcV h V k 0 = v0 := by unfold srcV; split <;> rfl
    rw [htl, hok.eq]
    refine Reach.loopI EVectTakes_ok FVectTakes_ok (fun s : Nat × List Int × List Int => EVectTakes_s12 h (k : Int) h (h.length : Int) (k : Int) (h.take k) (k : Int) (s.1 : Int) ((pr h k : Nat) : Int) (kd h k) ((ms h k : Nat) : Int) s.2.1 s.2.2 V) (fun s => s.1 ≤ k ∧ s.2.1 = valV V (lastIdx h (pr h k) s.1) ∧ s.2.2 = srcV h V k s.1) (fun s => k - s.1) 1000 (fun _ => ⟨uniq_of rfl, uniq_of rfl⟩) ?_ (0, v0, v0) ⟨by simp, rfl, hs0.symm⟩
    rintro ⟨i, w, s⟩ ⟨k2, kw, ks⟩ - ih2
    have k2 : i ≤ k := k2
    have kw : w = valV V (lastIdx h (pr h k) i) := kw
    have ks : s = srcV h V k i := ks
    refine holds_of_eq (EVectTakes_l12 ..) ?_
    obtain ⟨q1, q2⟩ := key k hk
    have hcl := cnt_le (h := h) (p := pr h k) (i := k)
    have hq := hok.p
    by_cases hi : i < k
    · have hoi := hist_ok hh (show i < h.length by omega)
      rw [show (h.take k).getD (Int.toNat (i : Int)) (0, 0, 0, ()) = h.getD i e0 from take_getD hi, hoi.eq]
      simp only [holds_cond, Tree.holds, true_and, true_implies, decide_eq_true_eq, decide_eq_false_iff_not, Bool.not_eq_true', Bool.not_eq_false', Int.toNat_natCast, inK_i64, List.length_set, List.length_cons, List.length_nil, htl]
      have h9 := fun (w' s' : List Int) (hw : w' = valV V (lastIdx h (pr h k) (i + 1))) (hs : s' = srcV h V k (i + 1)) => ih2 (i + 1, w', s') ⟨hi, hw, hs⟩ (by show k - (i + 1) < k - i; omega)
      have hp : ((pr h i : Nat) : Int) = (pr h k : Int) ↔ pr h i = pr h k := by omega
      have hm : ((ms h i : Nat) : Int) = (ms h k : Int) ↔ ms h i = ms h k := by omega
      have eL1 : pr h i = pr h k → valV V (lastIdx h (pr h k) (i + 1)) = V.getD i v0 := fun e => by rw [lastIdx, if_pos e]; rfl
      have eL2 : ¬ pr h i = pr h k → valV V (lastIdx h (pr h k) (i + 1)) = w := fun e => by rw [lastIdx, if_neg e, kw]
      have eS1 : kd h k = 3 → kd h i = 2 → ms h i = ms h k → srcV h V k (i + 1) = V.getD i v0 := fun a b c => by rw [srcV, if_pos a, sentIdx, if_pos ⟨b, c⟩]; rfl
      have eS2 : ¬ (kd h k = 3 ∧ kd h i = 2 ∧ ms h i = ms h k) → srcV h V k (i + 1) = s := fun a => by
        rw [ks]; unfold srcV
        split
        · rename_i h3; rw [sentIdx, if_neg (fun h => a ⟨h3, h⟩)]
        · rfl
      have hI : -9223372036854775808 ≤ (i : Int) + 1 ∧ (i : Int) + 1 ≤ 9223372036854775807 := by omega
      refine ⟨fun _ => ⟨by omega, fun _ => ⟨fun a => ⟨by omega, fun _ => ⟨fun b => ⟨fun c => ⟨fun d => ⟨by omega, fun _ => ⟨hI, fun _ => ?_⟩⟩, fun d => ⟨hI, fun _ => ?_⟩⟩, fun c => ⟨hI, fun _ => ?_⟩⟩, fun b => ⟨hI, fun _ => ?_⟩⟩⟩, fun a => ⟨fun b => ⟨fun c => ⟨fun d => ⟨by omega, fun _ => ⟨hI, fun _ => ?_⟩⟩, fun d => ⟨hI, fun _ => ?_⟩⟩, fun c => ⟨hI, fun _ => ?_⟩⟩, fun b => ⟨hI, fun _ => ?_⟩⟩⟩⟩, fun e => absurd e (by omega)⟩
      · exact h9 _ _ (eL1 (hp.1 a)).symm (eS1 b c (hm.1 d)).symm
      · exact h9 _ _ (eL1 (hp.1 a)).symm (eS2 (fun x => d (hm.2 x.2.2))).symm
      · exact h9 _ _ (eL1 (hp.1 a)).symm (eS2 (fun x => c x.2.1)).symm
      · exact h9 _ _ (eL1 (hp.1 a)).symm (eS2 (fun x => b x.1)).symm
      · exact h9 _ _ (eL2 (fun x => a (hp.2 x))).symm (eS1 b c (hm.1 d)).symm
      · exact h9 _ _ (eL2 (fun x => a (hp.2 x))).symm (eS2 (fun x => d (hm.2 x.2.2))).symm
      · exact h9 _ _ (eL2 (fun x => a (hp.2 x))).symm (eS2 (fun x => c x.2.1)).symm
      · exact h9 _ _ (eL2 (fun x => a (hp.2 x))).symm (eS2 (fun x => b x.1)).symm
    · have hik : i = k := by omega
      subst hik
      rw [show eqD (Ty.arr 6 (Ty.int IntKind.i64)) = eqD (.arr 6 I64) from rfl]
      rw [kw, ks]
      simp only [holds_cond, Tree.holds, true_and, true_implies, decide_eq_true_eq, decide_eq_false_iff_not, Bool.not_eq_true', Bool.not_eq_false', Int.toNat_natCast, inK_i64, List.length_set, List.length_cons, List.length_nil]
      rw [q1, q2, eqDL_iff]
      refine ⟨fun a => absurd a (by omega), fun _ => ⟨by omega, fun _ => ⟨by omega, fun _ => ⟨by omega, fun _ => ⟨by omega, fun _ => ⟨fun a => ?_, fun _ => ⟨by omega, fun _ => ih (i + 1) (by omega) (by omega)⟩⟩⟩⟩⟩⟩⟩
      rw [decide_eq_true rfl] at a; cases a
  · rw [vectors_bad hh]
    simp only [Tree.holds, holds_cond, decide_eq_true_eq, decide_eq_false_iff_not, true_and, true_implies]
    exact ⟨by decide +kernel, fun _ => ⟨fun _ => yesd rfl, fun c => (c hh).elim⟩⟩
end Go.Proofs.Ytibpibbnnogdkaa
