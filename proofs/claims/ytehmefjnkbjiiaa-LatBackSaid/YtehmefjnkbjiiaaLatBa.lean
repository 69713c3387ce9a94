/- LatBack. No condition. -/
import Derived.Test.YtehmefjnkbjiiaaLatBi
namespace Go.Proofs.Ytehmefjnkbjiiaa
open Go.Ex
set_option maxRecDepth 100000
def ceqU : Ctr := { ps := [.v (.slc false U16), .v (.slc false U16)], rs := [.bool], pre := fun _ => True, fn := fun x => (decide ((show List (Int) from x.1) = (show List (Int) from x.2.1)), ()), out := fun _ => () }
noncomputable def EeqU : Env := { P := Try.prog, tt := tt, ctr := [], res := [Go.ResultVar.tmp 4], rs := [Ty.bool], ps := [PK.v (Ty.slc false (Ty.int IntKind.u16)), PK.v (Ty.slc false (Ty.int IntKind.u16))], cuts := [(4, [(0, none), (1, none), (12, none), (13, none)])], nt := 26 }
theorem EeqU_ok : EnvOk EeqU := envOk tt_ok trivial
theorem FeqU_ok : FnOk EeqU Try.f47 := ⟨rfl, rfl⟩
theorem EeqU_t (x0 : List Int) (x1 : List Int) : exec EeqU 1000 [.code (bodyOf Try.prog 47)] (initSt ceqU.ps ((x0, x1, ()))) =
  cond (decide ((↑(List.length x0) : Int) ≠ (↑(List.length x1) : Int))) (.ret ((false, ()))) (.cut (loopAt (bodyOf Try.prog 47) 4).1 (loopAt (bodyOf Try.prog 47) 4).2 (St.mk [(0, AV.val (Ty.slc false (Ty.int IntKind.u16)) x0), (1, AV.val (Ty.slc false (Ty.int IntKind.u16)) x1), (12, AV.val (Ty.int IntKind.i64) (↑(List.length x0) : Int)), (13, AV.val (Ty.int IntKind.i64) (0 : Int))] [])) := by kernel_rfl
def EeqU_s4 (v0 : List Int) (v1 : List Int) (v12 : Int) (v13 : Int) : St := St.mk [(0, AV.val (Ty.slc false (Ty.int IntKind.u16)) v0), (1, AV.val (Ty.slc false (Ty.int IntKind.u16)) v1), (12, AV.val (Ty.int IntKind.i64) v12), (13, AV.val (Ty.int IntKind.i64) v13)] []
theorem EeqU_l4 (v0 : List Int) (v1 : List Int) (v12 : Int) (v13 : Int) : exec EeqU 1000 (.code (loopAt (bodyOf Try.prog 47) 4).1 :: .inLoop (loopAt (bodyOf Try.prog 47) 4).1 :: (loopAt (bodyOf Try.prog 47) 4).2) (EeqU_s4 v0 v1 v12 v13) =
  cond (decide (v13 < v12)) (.need ((0 : Int) ≤ v13 ∧ v13 < (↑(List.length v0) : Int)) (.need ((0 : Int) ≤ v13 ∧ v13 < (↑(List.length v1) : Int)) (cond (decide (List.getD v0 (Int.toNat v13) (0 : Int) ≠ List.getD v1 (Int.toNat v13) (0 : Int))) (.ret ((false, ()))) (.need (inK IntKind.i64 (v13 + (1 : Int))) (.cut (loopAt (bodyOf Try.prog 47) 4).1 (loopAt (bodyOf Try.prog 47) 4).2 (St.mk [(0, AV.val (Ty.slc false (Ty.int IntKind.u16)) v0), (1, AV.val (Ty.slc false (Ty.int IntKind.u16)) v1), (12, AV.val (Ty.int IntKind.i64) v12), (13, AV.val (Ty.int IntKind.i64) (v13 + (1 : Int)))] [])))))) (.ret ((true, ()))) := by kernel_rfl
theorem ceqU_valid : ceqU.Valid Try.prog 47 := by
  refine Ctr.valid_of EeqU_ok rfl rfl Try.func47 (c := bodyOf Try.prog 47) rfl rfl FeqU_ok rfl ?_
  rintro ⟨(l : List (Int)), (m : List (Int)), ⟨⟩⟩ - ⟨⟨hl, -⟩, -⟩
  have hl : l.length ≤ 9223372036854775807 := hl
  refine exec_sound (n := 1000) EeqU_ok FeqU_ok ?_
  refine holds_of_eq (EeqU_t l m) ?_
  have fin : ∀ {b : Bool}, (b = true ↔ l = m) → ((b, ()) : Bool × Unit) = (decide (l = m), ()) := fun {b} h => by
    cases b with
    | true => rw [decide_eq_true (h.1 rfl)]
    | false => rw [decide_eq_false (fun e => by cases h.2 e)]
  simp only [holds_cond, Tree.holds, true_and, true_implies, decide_eq_true_eq, decide_eq_false_iff_not, Bool.not_eq_true', Bool.not_eq_false', Int.toNat_natCast, inK_i64, List.length_set, List.length_cons, List.length_nil]
  refine ⟨fun c => fin ⟨fun h => (by cases h), fun h => absurd (congrArg (fun q : List (Int) => (q.length : Int)) h) c⟩, fun c => ?_⟩
  refine Reach.loopI EeqU_ok FeqU_ok (fun i : Nat => EeqU_s4 l m (l.length : Int) (i : Int)) (fun i => i ≤ l.length ∧ ∀ j, j < i → l.getD j 0 = m.getD j 0)
    (fun i => l.length - i) 1000 (fun _ => ⟨uniq_of rfl, uniq_of rfl⟩) ?_ 0 ⟨Nat.zero_le _, fun j hj => by omega⟩
  rintro i ⟨k1, k2⟩ - ih
  refine holds_of_eq (EeqU_l4 ..) ?_
  have c : l.length = m.length := by omega
  simp only [holds_cond, Tree.holds, true_and, true_implies, decide_eq_true_eq, decide_eq_false_iff_not, Bool.not_eq_true', Bool.not_eq_false', Int.toNat_natCast, inK_i64, List.length_set, List.length_cons, List.length_nil]
  refine ⟨fun d1 => ⟨by omega, fun _ => ⟨by omega, fun _ => ⟨fun d2 => fin ⟨fun h => (by cases h), fun h => absurd (congrArg (fun q : List (Int) => q.getD i 0) h) (d2)⟩, fun d2 => ⟨by omega, fun _ => ih (i + 1) ⟨by omega, fun j hj => ?_⟩ (by omega)⟩⟩⟩⟩, fun d1 => fin ⟨fun _ => eq_of_getD c (fun j hj => k2 j (by omega)), fun _ => rfl⟩⟩
  rcases Nat.lt_or_ge j i with h | h
  · exact k2 j h
  · obtain rfl : j = i := by omega
    exact Decidable.not_not.1 d2
def cLatBack : Ctr := { ps := [.v Pos], rs := [.bool], pre := fun _ => True, fn := fun _ => (true, ()), out := fun _ => () }
noncomputable def ELatBack : Env := { P := Try.prog, tt := tt, ctr := [(46, cdowns), (47, ceqU), (48, cback), (49, ccloseR)], res := [Go.ResultVar.tmp 2], rs := [Ty.bool], ps := [PK.v (Ty.pair (Ty.int IntKind.i64) (Ty.pair (Ty.slc false PairT) Ty.unit))], cuts := [], nt := 86 }
theorem ELatBack_ok : EnvOk ELatBack := envOk tt_ok ⟨cdowns_valid, ceqU_valid, cback_valid, ccloseR_valid, trivial⟩
theorem FLatBack_ok : FnOk ELatBack Try.f14 := ⟨rfl, rfl⟩
theorem ELatBack_t (x0_1 : Int) (x0_2_1 : List (Int × Int × Unit)) : exec ELatBack 1000 [.code (bodyOf Try.prog 14)] (initSt cLatBack.ps (((x0_1, x0_2_1, ()), ()))) =
  .need (True) (.need (True) (.need (True) (cond (decide (Prod.fst (Prod.snd (downsR x0_1 x0_2_1)) ≠ (0 : Int))) (.ret ((decide ((↑(List.length (Prod.fst (downsR x0_1 x0_2_1))) : Int) = (0 : Int)), ()))) (.need (True) (cond (decide (Prod.fst (Prod.snd (backR (Prod.fst (downsR x0_1 x0_2_1)))) ≠ (0 : Int))) (cond (decide (Prod.fst (Prod.snd (backR (Prod.fst (downsR x0_1 x0_2_1)))) = (2 : Int))) (.ret ((decide ((300 : Int) < (↑(List.length (Prod.fst (downsR x0_1 x0_2_1))) : Int)), ()))) (.ret ((false, ())))) (.need (True) (.need (True) (cond (decide (Prod.fst (Prod.snd (downsR (Prod.fst (Prod.fst (backR (Prod.fst (downsR x0_1 x0_2_1))))) (Prod.fst (Prod.snd (Prod.fst (backR (Prod.fst (downsR x0_1 x0_2_1)))))))) = (0 : Int))) (cond (decide (Prod.fst (Prod.fst (backR (Prod.fst (downsR x0_1 x0_2_1)))) = x0_1)) (cond (decide ((↑(List.length (Prod.fst (downsR (Prod.fst (Prod.fst (backR (Prod.fst (downsR x0_1 x0_2_1))))) (Prod.fst (Prod.snd (Prod.fst (backR (Prod.fst (downsR x0_1 x0_2_1))))))))) : Int) = (↑(List.length (Prod.fst (downsR x0_1 x0_2_1))) : Int))) (.ret ((decide ((↑(List.length (Prod.fst (Prod.snd (Prod.fst (backR (Prod.fst (downsR x0_1 x0_2_1))))))) : Int) = (↑(List.length (Prod.fst (closeR x0_1 x0_2_1))) : Int)), ()))) (.ret ((false, ())))) (.ret ((false, ())))) (.ret ((false, ()))))))))))) := by kernel_rfl
theorem downsR_ok {n : Nat} {l : List PairD} (h : PosOk n l) (hn : n ≤ 12) : downsR n l = (downsL n l, 0, ()) := by
  rw [downsR, if_neg (fun c => c (pcheck_of h)), if_neg (by omega), Int.toNat_natCast]
theorem cLatBack_valid : cLatBack.Valid Try.prog 14 := by
  refine Ctr.valid_of ELatBack_ok rfl rfl Try.func14 (c := bodyOf Try.prog 14) rfl rfl FLatBack_ok rfl ?_
  rintro ⟨⟨(n0 : Int), (l : List PairD), ⟨⟩⟩, ⟨⟩⟩ - -
  refine exec_sound (n := 1000) ELatBack_ok FLatBack_ok ?_
  refine holds_of_eq (ELatBack_t n0 l) ?_
  have hd : downsR n0 l = if pcheck n0 l ≠ 0 then ([], pcheck n0 l, ()) else if 12 < n0 then ([], 2, ()) else (downsL n0.toNat l, 0, ()) := rfl
  by_cases h0 : pcheck n0 l ≠ 0
  · rw [if_pos h0] at hd
    rw [hd]
    simp only [holds_cond, Tree.holds, true_and, true_implies, decide_eq_true_eq, decide_eq_false_iff_not, Bool.not_eq_true', Bool.not_eq_false', Int.toNat_natCast, inK_i64, List.length_set, List.length_cons, List.length_nil]
    exact ⟨fun _ => rfl, fun c => absurd h0 c⟩
  obtain ⟨n, rfl, hp⟩ := pcheck_ok (Decidable.not_not.1 h0)
  rw [if_neg h0] at hd
  by_cases hn : (12 : Int) < n
  · rw [if_pos hn] at hd
    rw [hd]
    simp only [holds_cond, Tree.holds, true_and, true_implies, decide_eq_true_eq, decide_eq_false_iff_not, Bool.not_eq_true', Bool.not_eq_false', Int.toNat_natCast, inK_i64, List.length_set, List.length_cons, List.length_nil]
    exact ⟨fun _ => rfl, fun c => absurd (show (2 : Int) ≠ 0 by decide) c⟩
  rw [if_neg hn, Int.toNat_natCast] at hd
  have hn : n ≤ 12 := by omega
  have hc := downs_check hp hn
  have hb : backR (downsL n l) = if lcheck (downsL n l) ≠ 0 then ((0, [], ()), lcheck (downsL n l), ()) else ((((firmL (downsL n l)).length : Int), pairsF (firmL (downsL n l)).length (backG (firmL (downsL n l))), ()), 0, ()) := rfl
  obtain ⟨hq, hq1, hq2⟩ := birkhoff hp hn
  have hcl := closeR_ok hp
  rw [firm_len hp hn] at hb
  have hdq := downsR_ok hq hn
  rw [hd, hcl]
  by_cases h3 : 300 < (downsL n l).length
  · rw [if_pos h3] at hc
    rw [hc, if_pos (by decide)] at hb
    simp only [holds_cond, Tree.holds, true_and, true_implies, decide_eq_true_eq, decide_eq_false_iff_not, Bool.not_eq_true', Bool.not_eq_false', Int.toNat_natCast, inK_i64, List.length_set, List.length_cons, List.length_nil]
    refine ⟨fun c => absurd rfl c, fun _ => ?_⟩
    rw [hb]
    exact ⟨fun _ => ⟨fun _ => yesd (by omega), fun c => absurd rfl c⟩, fun c => absurd (show (2 : Int) ≠ 0 by decide) c⟩
  rw [if_neg h3] at hc
  rw [hc, if_neg (fun c => c rfl)] at hb
  simp only [holds_cond, Tree.holds, true_and, true_implies, decide_eq_true_eq, decide_eq_false_iff_not, Bool.not_eq_true', Bool.not_eq_false', Int.toNat_natCast, inK_i64, List.length_set, List.length_cons, List.length_nil]
  refine ⟨fun c => absurd rfl c, fun _ => ?_⟩
  rw [hb]
  refine ⟨fun c => absurd rfl c, fun _ => ?_⟩
  rw [hdq]
  refine ⟨fun _ => ⟨fun _ => ⟨fun _ => yesd (by rw [hq2]), fun c => absurd (by rw [hq1]) c⟩, fun c => absurd rfl c⟩, fun c => absurd rfl c⟩
end Go.Proofs.Ytehmefjnkbjiiaa
