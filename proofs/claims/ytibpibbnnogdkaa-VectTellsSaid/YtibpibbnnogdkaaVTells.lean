/- VectTells: the law's contract. -/
import Derived.Test.YtibpibbnnogdkaaHist3
import Derived.Test.YtibpibbnnogdkaaBase2
namespace Go.Proofs.Ytibpibbnnogdkaa
open Go.Ex
set_option maxRecDepth 100000
def cVectTells : Ctr := lawC [Es] (fun _ => True)
noncomputable def EVectTells : Env := { P := Try.prog, tt := tt, ctr := [(25, cstamps), (33, cahead), (26, ceqI), (35, ceqP), (34, ceqV), (27, crest), (23, cvectors), (44, ccompare), (24, cvmax), (22, cwithin), (43, ccontP), (36, clongC)], res := [Go.ResultVar.tmp 2], rs := [Ty.bool], ps := [PK.v Es], cuts := [(9, [(0, none), (5, some (Ty.slc true Vec)), (7, some (Ty.slc true PairT)), (58, none), (59, none)]), (12, [(0, none), (5, some (Ty.slc true Vec)), (7, some (Ty.slc true PairT)), (9, none), (58, none), (59, none), (63, none), (64, none)])], nt := 103 }
theorem EVectTells_ok : EnvOk EVectTells := envOk tt_ok ⟨cstamps_valid, cahead_valid, ceqI_valid, ceqP_valid, ceqV_valid, crest_valid, cvectors_valid, ccompare_valid, cvmax_valid, cwithin_valid, ccontP_valid, clongC_valid, trivial⟩
theorem FVectTells_ok : FnOk EVectTells Try.f14 := ⟨rfl, rfl⟩
theorem EVectTells_t (x0 : List (Int × Int × Int × Unit)) : exec EVectTells 1000 [.code (bodyOf Try.prog 14)] (initSt cVectTells.ps ((x0, ()))) =
  .need (True) (.need ((0 : Int) ≤ (1 : Int) ∧ (1 : Int) < (↑(List.length (Prod.fst (vectors (List.set (List.set [((0 : Int), (0 : Int), (0 : Int), ()), ((0 : Int), (0 : Int), (0 : Int), ())] (Int.toNat (↑0 : Int)) ((0 : Int), (2 : Int), (0 : Int), ())) (Int.toNat (↑1 : Int)) ((1 : Int), (3 : Int), (0 : Int), ()))))) : Int)) (.need (True) (.need (True) (cond (decide (Prod.fst (Prod.snd (vectors x0)) ≠ (0 : Int))) (cond (decide (Prod.fst (Prod.snd (vectors x0)) = Prod.fst (Prod.snd (aheadF x0)))) (.ret ((decide ((↑(List.length (Prod.fst (vectors x0))) : Int) = (0 : Int)), ()))) (.ret ((false, ())))) (cond (decide (Prod.fst (Prod.snd (aheadF x0)) ≠ (0 : Int))) (cond (decide (Prod.fst (Prod.snd (vectors x0)) = Prod.fst (Prod.snd (aheadF x0)))) (.ret ((decide ((↑(List.length (Prod.fst (vectors x0))) : Int) = (0 : Int)), ()))) (.ret ((false, ())))) (.cut (loopAt (bodyOf Try.prog 14) 9).1 (loopAt (bodyOf Try.prog 14) 9).2 (St.mk [(0, AV.val Es x0), (5, AV.at_ 1000005 []), (7, AV.at_ 1000007 []), (58, AV.val (Ty.int IntKind.i64) (↑(List.length x0) : Int)), (59, AV.val (Ty.int IntKind.i64) (0 : Int))] [(1000005, Ent.own (Ty.slc true Vec) (Prod.fst (vectors x0))), (1000007, Ent.own (Ty.slc true PairT) (Prod.fst (aheadF x0)))]))))))) := by kernel_rfl
def EVectTells_s9 (v0 : List (Int × Int × Int × Unit)) (v58 : Int) (v59 : Int) (o1000005 : List (List Int)) (o1000007 : List (Int × Int × Unit)) : St := St.mk [(0, AV.val Es v0), (5, AV.at_ 1000005 []), (7, AV.at_ 1000007 []), (58, AV.val (Ty.int IntKind.i64) v58), (59, AV.val (Ty.int IntKind.i64) v59)] [(1000005, Ent.own (Ty.slc true Vec) o1000005), (1000007, Ent.own (Ty.slc true PairT) o1000007)]
theorem EVectTells_l9 (v0 : List (Int × Int × Int × Unit)) (v58 : Int) (v59 : Int) (o1000005 : List (List Int)) (o1000007 : List (Int × Int × Unit)) : exec EVectTells 1000 (.code (loopAt (bodyOf Try.prog 14) 9).1 :: .inLoop (loopAt (bodyOf Try.prog 14) 9).1 :: (loopAt (bodyOf Try.prog 14) 9).2) (EVectTells_s9 v0 v58 v59 o1000005 o1000007) =
  cond (decide (v59 < v58)) (.cut (loopAt (bodyOf Try.prog 14) 12).1 (loopAt (bodyOf Try.prog 14) 12).2 (St.mk [(0, AV.val Es v0), (5, AV.at_ 1000005 []), (7, AV.at_ 1000007 []), (9, AV.val (Ty.int IntKind.i64) v59), (58, AV.val (Ty.int IntKind.i64) v58), (59, AV.val (Ty.int IntKind.i64) v59), (63, AV.val (Ty.int IntKind.i64) (↑(List.length v0) : Int)), (64, AV.val (Ty.int IntKind.i64) (0 : Int))] [(1000005, Ent.own (Ty.slc true Vec) o1000005), (1000007, Ent.own (Ty.slc true PairT) o1000007)])) (.ret ((true, ()))) := by kernel_rfl
def EVectTells_s12 (v0 : List (Int × Int × Int × Unit)) (v9 : Int) (v58 : Int) (v59 : Int) (v63 : Int) (v64 : Int) (o1000005 : List (List Int)) (o1000007 : List (Int × Int × Unit)) : St := St.mk [(0, AV.val Es v0), (5, AV.at_ 1000005 []), (7, AV.at_ 1000007 []), (9, AV.val (Ty.int IntKind.i64) v9), (58, AV.val (Ty.int IntKind.i64) v58), (59, AV.val (Ty.int IntKind.i64) v59), (63, AV.val (Ty.int IntKind.i64) v63), (64, AV.val (Ty.int IntKind.i64) v64)] [(1000005, Ent.own (Ty.slc true Vec) o1000005), (1000007, Ent.own (Ty.slc true PairT) o1000007)]
theorem EVectTells_l12 (v0 : List (Int × Int × Int × Unit)) (v9 : Int) (v58 : Int) (v59 : Int) (v63 : Int) (v64 : Int) (o1000005 : List (List Int)) (o1000007 : List (Int × Int × Unit)) : exec EVectTells 1000 (.code (loopAt (bodyOf Try.prog 14) 12).1 :: .inLoop (loopAt (bodyOf Try.prog 14) 12).1 :: (loopAt (bodyOf Try.prog 14) 12).2) (EVectTells_s12 v0 v9 v58 v59 v63 v64 o1000005 o1000007) =
  cond (decide (v64 < v63)) (.need (True) (.need ((0 : Int) ≤ v9 ∧ v9 < (↑(List.length o1000005) : Int)) (.need ((0 : Int) ≤ v64 ∧ v64 < (↑(List.length o1000005) : Int)) (.need (True) (cond (containsP o1000007 (v9, v64, ()) != decide (compareV (List.getD o1000005 (Int.toNat v9) [(0 : Int), (0 : Int), (0 : Int), (0 : Int), (0 : Int), (0 : Int)]) (List.getD o1000005 (Int.toNat v64) [(0 : Int), (0 : Int), (0 : Int), (0 : Int), (0 : Int), (0 : Int)]) = (1 : Int))) (.ret ((false, ()))) (cond (decide (v9 ≠ v64)) (.need ((0 : Int) ≤ v9 ∧ v9 < (↑(List.length o1000005) : Int)) (.need ((0 : Int) ≤ v64 ∧ v64 < (↑(List.length o1000005) : Int)) (.need (True) (cond (decide (compareV (List.getD o1000005 (Int.toNat v9) [(0 : Int), (0 : Int), (0 : Int), (0 : Int), (0 : Int), (0 : Int)]) (List.getD o1000005 (Int.toNat v64) [(0 : Int), (0 : Int), (0 : Int), (0 : Int), (0 : Int), (0 : Int)]) = (0 : Int))) (.ret ((false, ()))) (.need (inK IntKind.i64 (v64 + (1 : Int))) (.cut (loopAt (bodyOf Try.prog 14) 12).1 (loopAt (bodyOf Try.prog 14) 12).2 (St.mk [(0, AV.val Es v0), (5, AV.at_ 1000005 []), (7, AV.at_ 1000007 []), (9, AV.val (Ty.int IntKind.i64) v9), (58, AV.val (Ty.int IntKind.i64) v58), (59, AV.val (Ty.int IntKind.i64) v59), (63, AV.val (Ty.int IntKind.i64) v63), (64, AV.val (Ty.int IntKind.i64) (v64 + (1 : Int)))] [(1000005, Ent.own (Ty.slc true Vec) o1000005), (1000007, Ent.own (Ty.slc true PairT) o1000007)]))))))) (.need (inK IntKind.i64 (v64 + (1 : Int))) (.cut (loopAt (bodyOf Try.prog 14) 12).1 (loopAt (bodyOf Try.prog 14) 12).2 (St.mk [(0, AV.val Es v0), (5, AV.at_ 1000005 []), (7, AV.at_ 1000007 []), (9, AV.val (Ty.int IntKind.i64) v9), (58, AV.val (Ty.int IntKind.i64) v58), (59, AV.val (Ty.int IntKind.i64) v59), (63, AV.val (Ty.int IntKind.i64) v63), (64, AV.val (Ty.int IntKind.i64) (v64 + (1 : Int)))] [(1000005, Ent.own (Ty.slc true Vec) o1000005), (1000007, Ent.own (Ty.slc true PairT) o1000007)]))))))))) (.need (inK IntKind.i64 (v59 + (1 : Int))) (.cut (loopAt (bodyOf Try.prog 14) 9).1 (loopAt (bodyOf Try.prog 14) 9).2 (St.mk [(0, AV.val Es v0), (5, AV.at_ 1000005 []), (7, AV.at_ 1000007 []), (58, AV.val (Ty.int IntKind.i64) v58), (59, AV.val (Ty.int IntKind.i64) (v59 + (1 : Int)))] [(1000005, Ent.own (Ty.slc true Vec) o1000005), (1000007, Ent.own (Ty.slc true PairT) o1000007)]))) := by kernel_rfl
theorem cVectTells_valid : (lawC [Es] (fun _ => True)).Valid Try.prog 14 := by
  refine Ctr.valid_of EVectTells_ok rfl rfl Try.func14 (c := bodyOf Try.prog 14) rfl rfl FVectTells_ok rfl ?_
  rintro ⟨(h : List Ev), ⟨⟩⟩ - -
  refine exec_sound (n := 1000) EVectTells_ok FVectTells_ok ?_
  refine holds_of_eq (EVectTells_t h) ?_
  by_cases hh : scheck h = 0
  · have hl := (scheck_ok hh).1
    obtain ⟨s1, s2, _⟩ := vectors_spec hh
    have a2 : (aheadF h).2.1 = 0 := by rw [ahead_err, hh]
    rw [s2, a2]
    have key : ∀ i k, i < h.length → k < h.length → (containsP (aheadF h).1 ((i : Int), (k : Int), ()) != decide (compareV ((vectors h).1.getD i v0) ((vectors h).1.getD k v0) = 1)) = false ∧ (compareV ((vectors h).1.getD i v0) ((vectors h).1.getD k v0) = 0 → i = k) := by
      intro i k hi hk
      obtain ⟨c1, c2⟩ := compare_tells hh hi hk
      refine ⟨?_, c2⟩
      have : ((i : Int), (k : Int), ()) ∈ (aheadF h).1 ↔ hb h k i = true := by
        rw [mem_ahead hh]
        constructor
        · rintro ⟨a, b, h1, h2, h3, h4⟩
          simp only [Prod.mk.injEq, and_true] at h4
          rw [show k = b by omega, show i = a by omega]; exact h3
        · intro h1; exact ⟨i, k, hi, hk, h1, rfl⟩
      have e : decide (((i : Int), (k : Int), ()) ∈ (aheadF h).1) = decide (compareV ((vectors h).1.getD i v0) ((vectors h).1.getD k v0) = 1) := decide_eq_decide.2 (this.trans c1.symm)
      rw [containsP, e]; simp
    simp only [Tree.holds, holds_cond, decide_eq_true_eq, decide_eq_false_iff_not, true_and, true_implies]
    refine ⟨?_, fun _ => ⟨fun b => absurd rfl b, fun _ => ⟨fun b => absurd rfl b, fun _ => ?_⟩⟩⟩
    · decide +kernel
    generalize (vectors h).1 = V at *
    generalize (aheadF h).1 = A at *
    refine Reach.loopI EVectTells_ok FVectTells_ok (fun i : Nat => EVectTells_s9 h (h.length : Int) (i : Int) V A) (fun i => i ≤ h.length) (fun i => h.length - i) 1000 (fun _ => ⟨uniq_of rfl, uniq_of rfl⟩) ?_ 0 (by omega)
    rintro i k1 - ih
    refine holds_of_eq (EVectTells_l9 ..) ?_
    simp only [holds_cond, Tree.holds, true_and, true_implies, decide_eq_true_eq, decide_eq_false_iff_not, Bool.not_eq_true', Bool.not_eq_false', Int.toNat_natCast, inK_i64, List.length_set, List.length_cons, List.length_nil]
    refine ⟨fun c => ?_, fun c => yes⟩
    refine Reach.loopI EVectTells_ok FVectTells_ok (fun k : Nat => EVectTells_s12 h (i : Int) (h.length : Int) (i : Int) (h.length : Int) (k : Int) V A) (fun k => k ≤ h.length) (fun k => h.length - k) 1000 (fun _ => ⟨uniq_of rfl, uniq_of rfl⟩) ?_ 0 (by omega)
    rintro k k2 - ih2
    refine holds_of_eq (EVectTells_l12 ..) ?_
    simp only [holds_cond, Tree.holds, true_and, true_implies, decide_eq_true_eq, decide_eq_false_iff_not, Bool.not_eq_true', Bool.not_eq_false', Int.toNat_natCast, inK_i64, List.length_set, List.length_cons, List.length_nil]
    refine ⟨fun d => ?_, fun d => ⟨by omega, fun _ => ih (i + 1) (by omega) (by omega)⟩⟩
    obtain ⟨q1, q2⟩ := key i k (by omega) (by omega)
    rw [q1]
    refine ⟨by omega, fun _ => ⟨by omega, fun _ => ⟨fun e => (by cases e), fun _ => ⟨fun e => ⟨by omega, fun _ => ⟨by omega, fun _ => ⟨fun f => absurd (q2 f) (by omega), fun _ => ⟨by omega, fun _ => ih2 (k + 1) (by omega) (by omega)⟩⟩⟩⟩, fun e => ⟨by omega, fun _ => ih2 (k + 1) (by omega) (by omega)⟩⟩⟩⟩⟩
  · rw [vectors_bad hh, ahead_err]
    simp only [Tree.holds, holds_cond, decide_eq_true_eq, decide_eq_false_iff_not, true_and, true_implies]
    refine ⟨?_, fun _ => ⟨fun _ => ⟨yesd rfl, fun c => (c trivial).elim⟩, fun c => (c hh).elim⟩⟩
    decide +kernel
end Go.Proofs.Ytibpibbnnogdkaa
