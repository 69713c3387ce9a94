/- StampLong: the law's contract. -/
import Derived.Test.YtibpibbnnogdkaaHist2
import Derived.Test.YtibpibbnnogdkaaBase2
namespace Go.Proofs.Ytibpibbnnogdkaa
open Go.Ex
set_option maxRecDepth 100000
def cStampLong : Ctr := lawC [Es] (fun _ => True)
noncomputable def EStampLong : Env := { P := Try.prog, tt := tt, ctr := [(25, cstamps), (33, cahead), (26, ceqI), (35, ceqP), (34, ceqV), (27, crest), (23, cvectors), (44, ccompare), (24, cvmax), (22, cwithin), (43, ccontP), (36, clongC)], res := [Go.ResultVar.tmp 2], rs := [Ty.bool], ps := [PK.v Es], cuts := [(9, [(5, none), (7, some (Ty.slc true PairT)), (46, none), (47, none), (48, none)])], nt := 62 }
theorem EStampLong_ok : EnvOk EStampLong := envOk tt_ok ⟨cstamps_valid, cahead_valid, ceqI_valid, ceqP_valid, ceqV_valid, crest_valid, cvectors_valid, ccompare_valid, cvmax_valid, cwithin_valid, ccontP_valid, clongC_valid, trivial⟩
theorem FStampLong_ok : FnOk EStampLong Try.f12 := ⟨rfl, rfl⟩
theorem EStampLong_t (x0 : List (Int × Int × Int × Unit)) : exec EStampLong 1000 [.code (bodyOf Try.prog 12)] (initSt cStampLong.ps ((x0, ()))) =
  .need (True) (.need (True) (.need (True) (.need (True) (cond (decide (Prod.fst (Prod.snd (stamps x0)) ≠ (0 : Int))) (.ret ((decide (Prod.fst (Prod.snd (stamps x0)) = Prod.fst (Prod.snd (aheadF x0))), ()))) (cond (decide (Prod.fst (Prod.snd (aheadF x0)) ≠ (0 : Int))) (.ret ((decide (Prod.fst (Prod.snd (stamps x0)) = Prod.fst (Prod.snd (aheadF x0))), ()))) (.cut (loopAt (bodyOf Try.prog 12) 9).1 (loopAt (bodyOf Try.prog 12) 9).2 (St.mk [(5, AV.ptr 5 []), (7, AV.at_ 1000007 []), (46, AV.at_ 5 []), (47, AV.val (Ty.int IntKind.i64) (↑(List.length (Prod.fst (stamps x0))) : Int)), (48, AV.val (Ty.int IntKind.i64) (0 : Int))] [(5, Ent.var Is (Prod.fst (stamps x0))), (1000007, Ent.own (Ty.slc true PairT) (Prod.fst (aheadF x0)))]))))))) := by kernel_rfl
def EStampLong_s9 (v47 : Int) (v48 : Int) (o5 : List Int) (o1000007 : List (Int × Int × Unit)) : St := St.mk [(5, AV.ptr 5 []), (7, AV.at_ 1000007 []), (46, AV.at_ 5 []), (47, AV.val (Ty.int IntKind.i64) v47), (48, AV.val (Ty.int IntKind.i64) v48)] [(5, Ent.var Is o5), (1000007, Ent.own (Ty.slc true PairT) o1000007)]
theorem EStampLong_l9 (v47 : Int) (v48 : Int) (o5 : List Int) (o1000007 : List (Int × Int × Unit)) : exec EStampLong 1000 (.code (loopAt (bodyOf Try.prog 12) 9).1 :: .inLoop (loopAt (bodyOf Try.prog 12) 9).1 :: (loopAt (bodyOf Try.prog 12) 9).2) (EStampLong_s9 v47 v48 o5 o1000007) =
  cond (decide (v48 < v47)) (.need ((0 : Int) ≤ v48 ∧ v48 < (↑(List.length o5) : Int)) (cond (decide ((1 : Int) < List.getD o5 (Int.toNat v48) (0 : Int))) (.need (longIPre (o1000007, (v48, o5, List.getD o5 (Int.toNat v48) (0 : Int), ()), ())) (cond (!Prod.fst (longCFn (o1000007, (v48, o5, List.getD o5 (Int.toNat v48) (0 : Int), ()), ()))) (.ret ((false, ()))) (.need (inK IntKind.i64 (v48 + (1 : Int))) (.cut (loopAt (bodyOf Try.prog 12) 9).1 (loopAt (bodyOf Try.prog 12) 9).2 (St.mk [(5, AV.ptr 5 []), (7, AV.at_ 1000007 []), (46, AV.at_ 5 []), (47, AV.val (Ty.int IntKind.i64) v47), (48, AV.val (Ty.int IntKind.i64) (v48 + (1 : Int)))] [(5, Ent.var Is o5), (1000007, Ent.own (Ty.slc true PairT) o1000007)]))))) (.need (inK IntKind.i64 (v48 + (1 : Int))) (.cut (loopAt (bodyOf Try.prog 12) 9).1 (loopAt (bodyOf Try.prog 12) 9).2 (St.mk [(5, AV.ptr 5 []), (7, AV.at_ 1000007 []), (46, AV.at_ 5 []), (47, AV.val (Ty.int IntKind.i64) v47), (48, AV.val (Ty.int IntKind.i64) (v48 + (1 : Int)))] [(5, Ent.var Is o5), (1000007, Ent.own (Ty.slc true PairT) o1000007)]))))) (.ret ((true, ()))) := by kernel_rfl
theorem stamps_bad {h : List Ev} (hh : scheck h ≠ 0) : stamps h = ([], scheck h, ()) := by rw [stamps, if_pos hh]
theorem cStampLong_valid : (lawC [Es] (fun _ => True)).Valid Try.prog 12 := by
  refine Ctr.valid_of EStampLong_ok rfl rfl Try.func12 (c := bodyOf Try.prog 12) rfl rfl FStampLong_ok rfl ?_
  rintro ⟨(h : List Ev), ⟨⟩⟩ - -
  refine exec_sound (n := 1000) EStampLong_ok FStampLong_ok ?_
  refine holds_of_eq (EStampLong_t h) ?_
  by_cases hh : scheck h = 0
  · obtain ⟨s1, s2, s3⟩ := stamps_spec hh
    have a2 : (aheadF h).2.1 = 0 := by rw [ahead_err, hh]
    rw [s2, a2]
    simp only [holds_cond, Tree.holds, true_and, true_implies, decide_eq_true_eq, decide_eq_false_iff_not, Bool.not_eq_true', Bool.not_eq_false', Int.toNat_natCast, inK_i64, List.length_set, List.length_cons, List.length_nil]
    refine ⟨fun b => absurd rfl b, fun _ => ⟨fun b => absurd rfl b, fun _ => ?_⟩⟩
    have hl := (scheck_ok hh).1
    have hb1 : ∀ i, i < h.length → (stamps h).1.getD i 0 ≤ i + 1 := by
      intro i
      induction i using Nat.strongRecOn with
      | _ i ih =>
        intro hi
        rw [s3 i hi]
        have hv : ∀ o : Option Nat, (∀ j, o = some j → j < i) → valO (stamps h).1 o ≤ i := by
          rintro (_ | j) hj
          · show (0 : Int) ≤ _; omega
          · have h9 := hj j rfl
            have := ih j h9 (by omega)
            show (stamps h).1.getD j 0 ≤ _
            omega
        have a := hv (lastIdx h (pr h i) i) (fun j hj => (lastIdx_some hj).1)
        have b := hv (sentIdx h (ms h i) i) (fun j hj => (sentIdx_some hj).1)
        unfold numOf
        repeat' split
        all_goals omega
    have key : ∀ i, i < h.length → 1 < (stamps h).1.getD i 0 → (aheadF h).1.any (longB (i : Int) (stamps h).1 ((stamps h).1.getD i 0)) = true := by
      intro i hi h1
      have hfrom : ∀ j, j < i → edgeB h j i = true → (stamps h).1.getD i 0 = (stamps h).1.getD j 0 + 1 → (aheadF h).1.any (longB (i : Int) (stamps h).1 ((stamps h).1.getD i 0)) = true := by
        intro j hj he hn
        refine List.any_eq_true.2 ⟨((j : Int), (i : Int), ()), (mem_ahead hh).2 ⟨j, i, by omega, hi, hb_iff.2 ⟨j, hj, he, .inl rfl⟩, rfl⟩, ?_⟩
        simp only [longB, decide_true, Bool.true_and, decide_eq_true_eq, Int.toNat_natCast]
        omega
      have hP : ∀ {x : Int}, (stamps h).1.getD i 0 = x + 1 → x = valO (stamps h).1 (lastIdx h (pr h i) i) → (aheadF h).1.any (longB (i : Int) (stamps h).1 ((stamps h).1.getD i 0)) = true := by
        intro x hx hv
        cases hk : lastIdx h (pr h i) i with
        | none => rw [hk] at hv; have hv : x = 0 := hv; omega
        | some j =>
          rw [hk] at hv
          obtain ⟨j1, j2, _⟩ := lastIdx_some hk
          exact hfrom j j1 ((edge_iff (hist_ok hh (by omega)) (hist_ok hh hi)).2 (.inl j2)) (by rw [hx, hv]; rfl)
      have hS : ∀ {x : Int}, kd h i = 3 → (stamps h).1.getD i 0 = x + 1 → x = valO (stamps h).1 (sentIdx h (ms h i) i) → (aheadF h).1.any (longB (i : Int) (stamps h).1 ((stamps h).1.getD i 0)) = true := by
        intro x h3 hx hv
        cases hk : sentIdx h (ms h i) i with
        | none => rw [hk] at hv; have hv : x = 0 := hv; omega
        | some j =>
          rw [hk] at hv
          obtain ⟨j1, j2, j3, _⟩ := sentIdx_some hk
          exact hfrom j j1 ((edge_iff (hist_ok hh (by omega)) (hist_ok hh hi)).2 (.inr ⟨j2, h3, j3⟩)) (by rw [hx, hv]; rfl)
      have hn := s3 i hi
      unfold numOf at hn
      split at hn
      · rename_i h3
        split at hn
        · exact hS h3 hn rfl
        · exact hP hn rfl
      · exact hP hn rfl
    have hpre : ∀ y ∈ (aheadF h).1, 0 ≤ y.1 ∧ y.1 < (stamps h).1.length := by
      intro y hy
      obtain ⟨a, b, h1, h2, h3, rfl⟩ := (mem_ahead hh).1 hy
      exact ⟨by show (0 : Int) ≤ a; omega, by show (a : Int) < _; omega⟩
    generalize (stamps h).1 = S at *
    generalize (aheadF h).1 = A at *
    refine Reach.loopI EStampLong_ok FStampLong_ok (fun i : Nat => EStampLong_s9 (S.length : Int) (i : Int) S A) (fun i => i ≤ S.length) (fun i => S.length - i) 1000 (fun _ => ⟨uniq_of rfl, uniq_of rfl⟩) ?_ 0 (by omega)
    rintro i k1 - ih
    refine holds_of_eq (EStampLong_l9 ..) ?_
    simp only [holds_cond, Tree.holds, decide_eq_true_eq, decide_eq_false_iff_not, Bool.not_eq_true', Bool.not_eq_false', Int.toNat_natCast, inK_i64]
    refine ⟨fun c => ⟨by omega, fun _ => ⟨fun d => ⟨⟨hpre, inK_i64.2 ?_⟩, fun _ => ⟨fun e => ?_, fun _ => ⟨by omega, fun _ => ih (i + 1) (by omega) (by omega)⟩⟩⟩, fun d => ⟨by omega, fun _ => ih (i + 1) (by omega) (by omega)⟩⟩⟩, fun c => yes⟩
    · have := hb1 i (by omega)
      show -9223372036854775808 ≤ S.getD i 0 - 1 ∧ S.getD i 0 - 1 ≤ 9223372036854775807
      omega
    · have := key i (by omega) d
      have e : A.any (longB (i : Int) S (S.getD i 0)) = false := e
      rw [this] at e; cases e
  · rw [stamps_bad hh, ahead_err]
    simp only [holds_cond, Tree.holds, true_and, true_implies, decide_eq_true_eq, decide_eq_false_iff_not, Bool.not_eq_true', Bool.not_eq_false', Int.toNat_natCast, inK_i64, List.length_set, List.length_cons, List.length_nil]
    refine ⟨fun _ => yesd trivial, fun c => (c hh).elim⟩
end Go.Proofs.Ytibpibbnnogdkaa
