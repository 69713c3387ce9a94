/- StampFront: the law's contract. -/
import Derived.Test.YtibpibbnnogdkaaHist3
import Derived.Test.YtibpibbnnogdkaaBase2
namespace Go.Proofs.Ytibpibbnnogdkaa
open Go.Ex
set_option maxRecDepth 100000
def cStampFront : Ctr := lawC [Es, I64] (fun _ => True)
noncomputable def EStampFront : Env := { P := Try.prog, tt := tt, ctr := [(25, cstamps), (33, cahead), (26, ceqI), (35, ceqP), (34, ceqV), (27, crest), (23, cvectors), (44, ccompare), (24, cvmax), (22, cwithin), (43, ccontP), (36, clongC)], res := [Go.ResultVar.tmp 4], rs := [Ty.bool], ps := [PK.v Es, PK.v (Ty.int IntKind.i64)], cuts := [], nt := 86 }
theorem EStampFront_ok : EnvOk EStampFront := envOk tt_ok ⟨cstamps_valid, cahead_valid, ceqI_valid, ceqP_valid, ceqV_valid, crest_valid, cvectors_valid, ccompare_valid, cvmax_valid, cwithin_valid, ccontP_valid, clongC_valid, trivial⟩
theorem FStampFront_ok : FnOk EStampFront Try.f11 := ⟨rfl, rfl⟩
theorem EStampFront_t (x0 : List (Int × Int × Int × Unit)) (x1 : Int) : exec EStampFront 1000 [.code (bodyOf Try.prog 11)] (initSt cStampFront.ps ((x0, x1, ()))) =
  .need (True) (.need (True) (.need (True) (.need (True) (cond (decide (Prod.fst (Prod.snd (stamps x0)) ≠ (0 : Int))) (.ret ((decide (Prod.fst (Prod.snd (stamps x0)) = Prod.fst (Prod.snd (vectors x0))), ()))) (cond (decide (Prod.fst (Prod.snd (vectors x0)) ≠ (0 : Int))) (.ret ((decide (Prod.fst (Prod.snd (stamps x0)) = Prod.fst (Prod.snd (vectors x0))), ()))) (.need (inK IntKind.i64 ((↑(List.length x0) : Int) + (1 : Int))) (.need ((↑(List.length x0) : Int) + (1 : Int) ≤ (1000000 : Int)) (.need ((0 : Int) ≤ (0 : Int) ∧ (0 : Int) ≤ rest x1 ((↑(List.length x0) : Int) + (1 : Int)) ∧ rest x1 ((↑(List.length x0) : Int) + (1 : Int)) ≤ (↑(List.length x0) : Int)) (.need (True) (.need ((0 : Int) ≤ (0 : Int) ∧ (0 : Int) ≤ rest x1 ((↑(List.length x0) : Int) + (1 : Int)) ∧ rest x1 ((↑(List.length x0) : Int) + (1 : Int)) ≤ (↑(List.length x0) : Int)) (.need (True) (cond (decide (Prod.fst (Prod.snd (stamps (cut2 (0 : Int) (rest x1 ((↑(List.length x0) : Int) + (1 : Int))) x0))) = (0 : Int))) (cond (decide (Prod.fst (Prod.snd (vectors (cut2 (0 : Int) (rest x1 ((↑(List.length x0) : Int) + (1 : Int))) x0))) = (0 : Int))) (.need ((0 : Int) ≤ (0 : Int) ∧ (0 : Int) ≤ rest x1 ((↑(List.length x0) : Int) + (1 : Int)) ∧ rest x1 ((↑(List.length x0) : Int) + (1 : Int)) ≤ (↑(List.length (Prod.fst (stamps x0))) : Int)) (.need (True) (cond (eqLI (Prod.fst (stamps (cut2 (0 : Int) (rest x1 ((↑(List.length x0) : Int) + (1 : Int))) x0))) (cut2 (0 : Int) (rest x1 ((↑(List.length x0) : Int) + (1 : Int))) (Prod.fst (stamps x0)))) (.need ((0 : Int) ≤ (0 : Int) ∧ (0 : Int) ≤ rest x1 ((↑(List.length x0) : Int) + (1 : Int)) ∧ rest x1 ((↑(List.length x0) : Int) + (1 : Int)) ≤ (↑(List.length (Prod.fst (vectors x0))) : Int)) (.need (True) (.ret ((eqLV (Prod.fst (vectors (cut2 (0 : Int) (rest x1 ((↑(List.length x0) : Int) + (1 : Int))) x0))) (cut2 (0 : Int) (rest x1 ((↑(List.length x0) : Int) + (1 : Int))) (Prod.fst (vectors x0))), ()))))) (.ret ((false, ())))))) (.ret ((false, ())))) (.ret ((false, ()))))))))))))))) := by kernel_rfl
theorem stamps_bad {h : List Ev} (hh : scheck h ≠ 0) : stamps h = ([], scheck h, ()) := by rw [stamps, if_pos hh]
theorem checkGo_take : ∀ {l : List Ev} {c : CkD} {n : Nat}, checkGo c l = 0 → checkGo c (l.take n) = 0
  | [], _, _, _ => by simp [checkGo]
  | _ :: _, _, 0, _ => rfl
  | e :: l, c, n + 1, h => by
    simp only [checkGo] at h
    simp only [List.take_succ_cons, checkGo]
    split
    · rename_i h1; rw [if_pos h1] at h; exact h
    · rename_i h1; rw [if_neg h1] at h; exact checkGo_take h
theorem stGo_take : ∀ {l : List Ev} {a b : List Int} {n : Nat}, stGo a b (l.take n) = (stGo a b l).take n
  | [], _, _, _ => by simp [stGo]
  | _ :: _, _, _, 0 => rfl
  | e :: l, a, b, n + 1 => by simp only [List.take_succ_cons, stGo, stGo_take (l := l)]
theorem vGo_take : ∀ {l : List Ev} {a : List Int} {b c : List (List Int)} {n : Nat}, vGo a b c (l.take n) = (vGo a b c l).take n
  | [], _, _, _, _ => by simp [vGo]
  | _ :: _, _, _, _, 0 => rfl
  | e :: l, a, b, c, n + 1 => by simp only [List.take_succ_cons, vGo, vGo_take (l := l)]
theorem scheck_take {h : List Ev} (hh : scheck h = 0) (n : Nat) : scheck (h.take n) = 0 := by
  obtain ⟨h1, h2⟩ := scheck_ok hh
  rw [scheck, if_neg (by simp; omega)]; exact checkGo_take h2
theorem cStampFront_valid : (lawC [Es, I64] (fun _ => True)).Valid Try.prog 11 := by
  refine Ctr.valid_of EStampFront_ok rfl rfl Try.func11 (c := bodyOf Try.prog 11) rfl rfl FStampFront_ok rfl ?_
  rintro ⟨(h : List Ev), (x : Int), ⟨⟩⟩ - -
  refine exec_sound (n := 1000) EStampFront_ok FStampFront_ok ?_
  refine holds_of_eq (EStampFront_t h x) ?_
  by_cases hh : scheck h = 0
  · have hl := (scheck_ok hh).1
    obtain ⟨n0, n1⟩ := rest_in (a := x) (n := (h.length : Int) + 1) (by omega)
    obtain ⟨n, hn⟩ : ∃ n : Nat, rest x ((h.length : Int) + 1) = (n : Int) := ⟨(rest x ((h.length : Int) + 1)).toNat, by omega⟩
    rw [hn] at n0 n1 ⊢
    rw [cut_take, cut_take, cut_take]
    have ht := scheck_take hh n
    have e1 : (stamps (h.take n)).1 = (stamps h).1.take n := by
      rw [stamps, stamps, if_neg (by simp [ht]), if_neg (by simp [hh])]; exact stGo_take
    have e2 : (vectors (h.take n)).1 = (vectors h).1.take n := by
      rw [vectors, vectors, if_neg (by simp [ht]), if_neg (by simp [hh])]; exact vGo_take
    rw [(stamps_spec hh).2.1, (vectors_spec hh).2.1, (stamps_spec ht).2.1, (vectors_spec ht).2.1, e1, e2]
    have l1 := (stamps_spec hh).1
    have l2 := (vectors_spec hh).1
    simp only [holds_cond, Tree.holds, true_and, true_implies, decide_eq_true_eq, decide_eq_false_iff_not, Bool.not_eq_true', Bool.not_eq_false', Int.toNat_natCast, inK_i64, List.length_set, List.length_cons, List.length_nil]
    refine ⟨fun c => absurd rfl c, fun _ => ⟨fun c => absurd rfl c, fun _ => ⟨by omega, fun _ => ⟨by omega, fun _ => ⟨by omega, fun _ => ⟨by omega, fun _ => ?_⟩⟩⟩⟩⟩⟩
    refine ⟨⟨⟨by omega, fun _ => ⟨fun _ => ⟨by omega, fun _ => ?_⟩, fun c => ?_⟩⟩, fun c => (c trivial).elim⟩, fun c => (c trivial).elim⟩
    · show ((eqLV _ _, ()) : Bool × Unit) = (true, ())
      rw [eqLV, decide_eq_true rfl]
    · rw [eqLI, decide_eq_true rfl] at c; cases c
  · rw [stamps_bad hh, vectors_bad hh]
    simp only [holds_cond, Tree.holds, true_and, true_implies, decide_eq_true_eq, decide_eq_false_iff_not, Bool.not_eq_true', Bool.not_eq_false', Int.toNat_natCast, inK_i64, List.length_set, List.length_cons, List.length_nil]
    refine ⟨fun _ => yesd trivial, fun c => (c hh).elim⟩
end Go.Proofs.Ytibpibbnnogdkaa
