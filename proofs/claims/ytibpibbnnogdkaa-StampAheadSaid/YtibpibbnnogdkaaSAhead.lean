/- StampAhead: the law's contract. -/
import Derived.Test.YtibpibbnnogdkaaHist2
namespace Go.Proofs.Ytibpibbnnogdkaa
open Go.Ex
set_option maxRecDepth 100000
def cStampAhead : Ctr := lawC [Es] (fun _ => True)
noncomputable def EStampAhead : Env := { P := Try.prog, tt := tt, ctr := [(25, cstamps), (33, cahead), (26, ceqI)], res := [Go.ResultVar.tmp 2], rs := [Ty.bool], ps := [PK.v Es], cuts := [(9, [(0, none), (5, some Is), (58, some (Ty.slc true PairT)), (59, none), (60, none)]), (15, [(0, none), (5, some Is), (76, none), (77, none), (78, none)]), (18, [(0, none), (5, some Is), (11, none), (12, none), (76, none), (77, none), (78, none), (85, none), (86, none), (87, none)])], nt := 115 }
theorem EStampAhead_ok : EnvOk EStampAhead := envOk tt_ok ⟨cstamps_valid, cahead_valid, ceqI_valid, trivial⟩
theorem FStampAhead_ok : FnOk EStampAhead Try.f10 := ⟨rfl, rfl⟩
theorem EStampAhead_t (x0 : List (Int × Int × Int × Unit)) : exec EStampAhead 1000 [.code (bodyOf Try.prog 10)] (initSt cStampAhead.ps ((x0, ()))) =
  .need (True) (.need (True) (.need (True) (.need (True) (cond (decide (Prod.fst (Prod.snd (stamps x0)) ≠ (0 : Int))) (cond (decide (Prod.fst (Prod.snd (stamps x0)) = Prod.fst (Prod.snd (aheadF x0)))) (.need (inK IntKind.i64 ((↑(List.length (Prod.fst (stamps x0))) : Int) + (↑(List.length (Prod.fst (aheadF x0))) : Int))) (.ret ((decide ((↑(List.length (Prod.fst (stamps x0))) : Int) + (↑(List.length (Prod.fst (aheadF x0))) : Int) = (0 : Int)), ())))) (.ret ((false, ())))) (cond (decide (Prod.fst (Prod.snd (aheadF x0)) ≠ (0 : Int))) (cond (decide (Prod.fst (Prod.snd (stamps x0)) = Prod.fst (Prod.snd (aheadF x0)))) (.need (inK IntKind.i64 ((↑(List.length (Prod.fst (stamps x0))) : Int) + (↑(List.length (Prod.fst (aheadF x0))) : Int))) (.ret ((decide ((↑(List.length (Prod.fst (stamps x0))) : Int) + (↑(List.length (Prod.fst (aheadF x0))) : Int) = (0 : Int)), ())))) (.ret ((false, ())))) (.cut (loopAt (bodyOf Try.prog 10) 9).1 (loopAt (bodyOf Try.prog 10) 9).2 (St.mk [(0, AV.val Es x0), (5, AV.at_ 1000005 []), (58, AV.at_ 1000058 []), (59, AV.val (Ty.int IntKind.i64) (↑(List.length (Prod.fst (aheadF x0))) : Int)), (60, AV.val (Ty.int IntKind.i64) (0 : Int))] [(1000005, Ent.own Is (Prod.fst (stamps x0))), (1000058, Ent.own (Ty.slc true PairT) (Prod.fst (aheadF x0)))]))))))) := by kernel_rfl
def EStampAhead_s9 (v0 : List (Int × Int × Int × Unit)) (v59 : Int) (v60 : Int) (o1000005 : List Int) (o1000058 : List (Int × Int × Unit)) : St := St.mk [(0, AV.val Es v0), (5, AV.at_ 1000005 []), (58, AV.at_ 1000058 []), (59, AV.val (Ty.int IntKind.i64) v59), (60, AV.val (Ty.int IntKind.i64) v60)] [(1000005, Ent.own Is o1000005), (1000058, Ent.own (Ty.slc true PairT) o1000058)]
theorem EStampAhead_l9 (v0 : List (Int × Int × Int × Unit)) (v59 : Int) (v60 : Int) (o1000005 : List Int) (o1000058 : List (Int × Int × Unit)) : exec EStampAhead 1000 (.code (loopAt (bodyOf Try.prog 10) 9).1 :: .inLoop (loopAt (bodyOf Try.prog 10) 9).1 :: (loopAt (bodyOf Try.prog 10) 9).2) (EStampAhead_s9 v0 v59 v60 o1000005 o1000058) =
  cond (decide (v60 < v59)) (.need ((0 : Int) ≤ v60 ∧ v60 < (↑(List.length o1000058) : Int)) (.need ((0 : Int) ≤ Prod.fst (List.getD o1000058 (Int.toNat v60) ((0 : Int), (0 : Int), ())) ∧ Prod.fst (List.getD o1000058 (Int.toNat v60) ((0 : Int), (0 : Int), ())) < (↑(List.length o1000005) : Int)) (.need ((0 : Int) ≤ Prod.fst (Prod.snd (List.getD o1000058 (Int.toNat v60) ((0 : Int), (0 : Int), ()))) ∧ Prod.fst (Prod.snd (List.getD o1000058 (Int.toNat v60) ((0 : Int), (0 : Int), ()))) < (↑(List.length o1000005) : Int)) (cond (decide (List.getD o1000005 (Int.toNat (Prod.fst (Prod.snd (List.getD o1000058 (Int.toNat v60) ((0 : Int), (0 : Int), ()))))) (0 : Int) ≤ List.getD o1000005 (Int.toNat (Prod.fst (List.getD o1000058 (Int.toNat v60) ((0 : Int), (0 : Int), ())))) (0 : Int))) (.ret ((false, ()))) (.need (inK IntKind.i64 (v60 + (1 : Int))) (.cut (loopAt (bodyOf Try.prog 10) 9).1 (loopAt (bodyOf Try.prog 10) 9).2 (St.mk [(0, AV.val Es v0), (5, AV.at_ 1000005 []), (58, AV.at_ 1000058 []), (59, AV.val (Ty.int IntKind.i64) v59), (60, AV.val (Ty.int IntKind.i64) (v60 + (1 : Int)))] [(1000005, Ent.own Is o1000005), (1000058, Ent.own (Ty.slc true PairT) o1000058)]))))))) (.cut (loopAt (bodyOf Try.prog 10) 15).1 (loopAt (bodyOf Try.prog 10) 15).2 (St.mk [(0, AV.val Es v0), (5, AV.at_ 1000005 []), (76, AV.val Es v0), (77, AV.val (Ty.int IntKind.i64) (↑(List.length v0) : Int)), (78, AV.val (Ty.int IntKind.i64) (0 : Int))] [(1000005, Ent.own Is o1000005)])) := by kernel_rfl
def EStampAhead_s15 (v0 : List (Int × Int × Int × Unit)) (v76 : List (Int × Int × Int × Unit)) (v77 : Int) (v78 : Int) (o1000005 : List Int) : St := St.mk [(0, AV.val Es v0), (5, AV.at_ 1000005 []), (76, AV.val Es v76), (77, AV.val (Ty.int IntKind.i64) v77), (78, AV.val (Ty.int IntKind.i64) v78)] [(1000005, Ent.own Is o1000005)]
theorem EStampAhead_l15 (v0 : List (Int × Int × Int × Unit)) (v76 : List (Int × Int × Int × Unit)) (v77 : Int) (v78 : Int) (o1000005 : List Int) : exec EStampAhead 1000 (.code (loopAt (bodyOf Try.prog 10) 15).1 :: .inLoop (loopAt (bodyOf Try.prog 10) 15).1 :: (loopAt (bodyOf Try.prog 10) 15).2) (EStampAhead_s15 v0 v76 v77 v78 o1000005) =
  cond (decide (v78 < v77)) (.need ((0 : Int) ≤ v78 ∧ v78 < (↑(List.length v76) : Int)) (.need ((0 : Int) ≤ (0 : Int) ∧ (0 : Int) ≤ v78 ∧ v78 ≤ (↑(List.length v0) : Int)) (.cut (loopAt (bodyOf Try.prog 10) 18).1 (loopAt (bodyOf Try.prog 10) 18).2 (St.mk [(0, AV.val Es v0), (5, AV.at_ 1000005 []), (11, AV.val (Ty.int IntKind.i64) v78), (12, AV.ptr 12 []), (76, AV.val Es v76), (77, AV.val (Ty.int IntKind.i64) v77), (78, AV.val (Ty.int IntKind.i64) v78), (85, AV.val Es (cut2 (0 : Int) v78 v0)), (86, AV.val (Ty.int IntKind.i64) (↑(List.length (cut2 (0 : Int) v78 v0)) : Int)), (87, AV.val (Ty.int IntKind.i64) (0 : Int))] [(12, Ent.var Event (List.getD v76 (Int.toNat v78) ((0 : Int), (0 : Int), (0 : Int), ()))), (1000005, Ent.own Is o1000005)])))) (.ret ((decide ((↑(List.length o1000005) : Int) = (↑(List.length v0) : Int)), ()))) := by kernel_rfl
def EStampAhead_s18 (v0 : List (Int × Int × Int × Unit)) (v11 : Int) (v76 : List (Int × Int × Int × Unit)) (v77 : Int) (v78 : Int) (v85 : List (Int × Int × Int × Unit)) (v86 : Int) (v87 : Int) (o12_1 : Int) (o12_2_1 : Int) (o12_2_2_1 : Int) (o1000005 : List Int) : St := St.mk [(0, AV.val Es v0), (5, AV.at_ 1000005 []), (11, AV.val (Ty.int IntKind.i64) v11), (12, AV.ptr 12 []), (76, AV.val Es v76), (77, AV.val (Ty.int IntKind.i64) v77), (78, AV.val (Ty.int IntKind.i64) v78), (85, AV.val Es v85), (86, AV.val (Ty.int IntKind.i64) v86), (87, AV.val (Ty.int IntKind.i64) v87)] [(12, Ent.var Event (o12_1, o12_2_1, o12_2_2_1, ())), (1000005, Ent.own Is o1000005)]
theorem EStampAhead_l18 (v0 : List (Int × Int × Int × Unit)) (v11 : Int) (v76 : List (Int × Int × Int × Unit)) (v77 : Int) (v78 : Int) (v85 : List (Int × Int × Int × Unit)) (v86 : Int) (v87 : Int) (o12_1 : Int) (o12_2_1 : Int) (o12_2_2_1 : Int) (o1000005 : List Int) : exec EStampAhead 1000 (.code (loopAt (bodyOf Try.prog 10) 18).1 :: .inLoop (loopAt (bodyOf Try.prog 10) 18).1 :: (loopAt (bodyOf Try.prog 10) 18).2) (EStampAhead_s18 v0 v11 v76 v77 v78 v85 v86 v87 o12_1 o12_2_1 o12_2_2_1 o1000005) =
  cond (decide (v87 < v86)) (.need ((0 : Int) ≤ v87 ∧ v87 < (↑(List.length v85) : Int)) (cond (decide (o12_1 = Prod.fst (List.getD v85 (Int.toNat v87) ((0 : Int), (0 : Int), (0 : Int), ())))) (.need ((0 : Int) ≤ v11 ∧ v11 < (↑(List.length o1000005) : Int)) (.need ((0 : Int) ≤ v87 ∧ v87 < (↑(List.length o1000005) : Int)) (cond (decide (List.getD o1000005 (Int.toNat v11) (0 : Int) = List.getD o1000005 (Int.toNat v87) (0 : Int))) (.ret ((false, ()))) (.need (inK IntKind.i64 (v87 + (1 : Int))) (.cut (loopAt (bodyOf Try.prog 10) 18).1 (loopAt (bodyOf Try.prog 10) 18).2 (St.mk [(0, AV.val Es v0), (5, AV.at_ 1000005 []), (11, AV.val (Ty.int IntKind.i64) v11), (12, AV.ptr 12 []), (76, AV.val Es v76), (77, AV.val (Ty.int IntKind.i64) v77), (78, AV.val (Ty.int IntKind.i64) v78), (85, AV.val Es v85), (86, AV.val (Ty.int IntKind.i64) v86), (87, AV.val (Ty.int IntKind.i64) (v87 + (1 : Int)))] [(12, Ent.var Event (o12_1, o12_2_1, o12_2_2_1, ())), (1000005, Ent.own Is o1000005)])))))) (.need (inK IntKind.i64 (v87 + (1 : Int))) (.cut (loopAt (bodyOf Try.prog 10) 18).1 (loopAt (bodyOf Try.prog 10) 18).2 (St.mk [(0, AV.val Es v0), (5, AV.at_ 1000005 []), (11, AV.val (Ty.int IntKind.i64) v11), (12, AV.ptr 12 []), (76, AV.val Es v76), (77, AV.val (Ty.int IntKind.i64) v77), (78, AV.val (Ty.int IntKind.i64) v78), (85, AV.val Es v85), (86, AV.val (Ty.int IntKind.i64) v86), (87, AV.val (Ty.int IntKind.i64) (v87 + (1 : Int)))] [(12, Ent.var Event (o12_1, o12_2_1, o12_2_2_1, ())), (1000005, Ent.own Is o1000005)]))))) (.need (inK IntKind.i64 (v78 + (1 : Int))) (.cut (loopAt (bodyOf Try.prog 10) 15).1 (loopAt (bodyOf Try.prog 10) 15).2 (St.mk [(0, AV.val Es v0), (5, AV.at_ 1000005 []), (76, AV.val Es v76), (77, AV.val (Ty.int IntKind.i64) v77), (78, AV.val (Ty.int IntKind.i64) (v78 + (1 : Int)))] [(1000005, Ent.own Is o1000005)]))) := by kernel_rfl
theorem stamps_bad {h : List Ev} (hh : scheck h ≠ 0) : stamps h = ([], scheck h, ()) := by rw [stamps, if_pos hh]
theorem ahead_bad {h : List Ev} (hh : scheck h ≠ 0) : aheadF h = ([], scheck h, ()) := by rw [aheadF, if_pos hh]
theorem cStampAhead_valid : (lawC [Es] (fun _ => True)).Valid Try.prog 10 := by
  refine Ctr.valid_of EStampAhead_ok rfl rfl Try.func10 (c := bodyOf Try.prog 10) rfl rfl FStampAhead_ok rfl ?_
  rintro ⟨(h : List Ev), ⟨⟩⟩ - -
  refine exec_sound (n := 1000) EStampAhead_ok FStampAhead_ok ?_
  refine holds_of_eq (EStampAhead_t h) ?_
  by_cases hh : scheck h = 0
  · have hl := (scheck_ok hh).1
    obtain ⟨s1, s2, _⟩ := stamps_spec hh
    have a2 : (aheadF h).2.1 = 0 := by rw [ahead_err, hh]
    rw [s2, a2]
    simp only [holds_cond, Tree.holds, true_and, true_implies, decide_eq_true_eq, decide_eq_false_iff_not, Bool.not_eq_true', Bool.not_eq_false', Int.toNat_natCast, inK_i64, List.length_set, List.length_cons, List.length_nil]
    refine ⟨fun b => absurd rfl b, fun _ => ⟨fun b => absurd rfl b, fun _ => ?_⟩⟩
    have key : ∀ i, i < (aheadF h).1.length → ∃ a b : Nat, a < h.length ∧ b < h.length ∧ (aheadF h).1.getD i (0, 0, ()) = ((a : Int), (b : Int), ()) ∧ (stamps h).1.getD a 0 < (stamps h).1.getD b 0 := by
      intro i hi
      obtain ⟨a, b, h1, h2, h3, h4⟩ := (mem_ahead hh).1 (getD_mem (d := (0, 0, ())) hi)
      exact ⟨a, b, h1, h2, h4, (num_hb hh h2 h3).2⟩
    have hal := ahead_len (h := h)
    generalize hS : (stamps h).1 = S at *
    generalize hA : (aheadF h).1 = A at *
    refine Reach.loopI EStampAhead_ok FStampAhead_ok (fun i : Nat => EStampAhead_s9 h (A.length : Int) (i : Int) S A) (fun i => i ≤ A.length) (fun i => A.length - i) 1000 (fun _ => ⟨uniq_of rfl, uniq_of rfl⟩) ?_ 0 (by omega)
    rintro i k1 - ih
    refine holds_of_eq (EStampAhead_l9 ..) ?_
    by_cases hi : i < A.length
    · obtain ⟨a, b, h1, h2, h3, h4⟩ := key i hi
      simp only [holds_cond, Tree.holds, true_and, true_implies, decide_eq_true_eq, decide_eq_false_iff_not, Bool.not_eq_true', Bool.not_eq_false', Int.toNat_natCast, inK_i64, List.length_set, List.length_cons, List.length_nil]
      rw [h3]
      simp only [holds_cond, Tree.holds, true_and, true_implies, decide_eq_true_eq, decide_eq_false_iff_not, Bool.not_eq_true', Bool.not_eq_false', Int.toNat_natCast, inK_i64, List.length_set, List.length_cons, List.length_nil]
      exact ⟨fun _ => ⟨by omega, fun _ => ⟨by omega, fun _ => ⟨by omega, fun _ => ⟨fun c => absurd c (by omega), fun _ => ⟨by omega, fun _ => ih (i + 1) hi (by omega)⟩⟩⟩⟩⟩, fun c => absurd c (by omega)⟩
    · simp only [holds_cond, Tree.holds, true_and, true_implies, decide_eq_true_eq, decide_eq_false_iff_not, Bool.not_eq_true', Bool.not_eq_false', Int.toNat_natCast, inK_i64, List.length_set, List.length_cons, List.length_nil]
      refine ⟨fun c => absurd c (by omega), fun _ => ?_⟩
      refine Reach.loopI EStampAhead_ok FStampAhead_ok (fun i : Nat => EStampAhead_s15 h h (h.length : Int) (i : Int) S) (fun i => i ≤ h.length) (fun i => h.length - i) 1000 (fun _ => ⟨uniq_of rfl, uniq_of rfl⟩) ?_ 0 (by omega)
      rintro i k2 - ih2
      refine holds_of_eq (EStampAhead_l15 ..) ?_
      simp only [holds_cond, Tree.holds, true_and, true_implies, decide_eq_true_eq, decide_eq_false_iff_not, Bool.not_eq_true', Bool.not_eq_false', Int.toNat_natCast, inK_i64, List.length_set, List.length_cons, List.length_nil]
      refine ⟨fun c => ⟨by omega, fun _ => ⟨by omega, fun _ => ?_⟩⟩, fun c => yesd (by omega)⟩
      have hi : i < h.length := by omega
      rw [cut_take]
      have htl : (h.take i).length = i := by simp; omega
      rw [htl]
      refine Reach.loopI EStampAhead_ok FStampAhead_ok (fun k : Nat => EStampAhead_s18 h (i : Int) h (h.length : Int) (i : Int) (h.take i) (i : Int) (k : Int) (h.getD i e0).1 (h.getD i e0).2.1 (h.getD i e0).2.2.1 S) (fun k => k ≤ i) (fun k => i - k) 1000 (fun _ => ⟨uniq_of rfl, uniq_of rfl⟩) ?_ 0 (by omega)
      rintro k k3 - ih3
      refine holds_of_eq (EStampAhead_l18 ..) ?_
      simp only [holds_cond, Tree.holds, true_and, true_implies, decide_eq_true_eq, decide_eq_false_iff_not, Bool.not_eq_true', Bool.not_eq_false', Int.toNat_natCast, inK_i64, List.length_set, List.length_cons, List.length_nil, htl]
      refine ⟨fun c => ⟨by omega, fun _ => ⟨fun d => ⟨by omega, fun _ => ⟨by omega, fun _ => ⟨fun e => ?_, fun e => ⟨by omega, fun _ => ih3 (k + 1) (by omega) (by omega)⟩⟩⟩⟩, fun d => ⟨by omega, fun _ => ih3 (k + 1) (by omega) (by omega)⟩⟩⟩, fun c => ⟨by omega, fun _ => ih2 (i + 1) (by omega) (by omega)⟩⟩
      have hk : k < i := by omega
      rw [take_getD hk] at d
      have := num_proc hh hk hi (by simp only [pr, d])
      rw [hS] at this
      omega
  · rw [stamps_bad hh, ahead_bad hh]
    simp only [holds_cond, Tree.holds, true_and, true_implies, decide_eq_true_eq, decide_eq_false_iff_not, Bool.not_eq_true', Bool.not_eq_false', Int.toNat_natCast, inK_i64, List.length_set, List.length_cons, List.length_nil]
    refine ⟨fun _ => ⟨⟨by simp, fun _ => yesd rfl⟩, fun c => (c trivial).elim⟩, fun c => (c hh).elim⟩
end Go.Proofs.Ytibpibbnnogdkaa
