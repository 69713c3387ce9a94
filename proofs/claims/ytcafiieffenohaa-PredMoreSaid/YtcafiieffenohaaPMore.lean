/- PredMore: with more truth nothing is later. -/
import Derived.Test.YtcafiieffenohaaBitP
namespace Go.Proofs.Ytcafiieffenohaa
open Go.Ex
set_option maxRecDepth 100000
def cPredMore : Ctr := lawC [Es, .arr 6 (.int .u64), .arr 6 (.int .u64)] (fun _ => True)
noncomputable def EPredMore : Env := { P := Try.prog, tt := tt, ctr := [(40, csent), (41, clate), (39, cfirst), (49, cmust), (42, cscheck), (43, cany), (47, cwithin)], res := [Go.ResultVar.tmp 6], rs := [Ty.bool], ps := [PK.v Es, PK.v (Ty.arr 6 (Ty.int IntKind.u64)), PK.v (Ty.arr 6 (Ty.int IntKind.u64))], cuts := [(11, [(0, none), (4, none), (5, none), (11, none), (52, none)])], nt := 118 }
theorem EPredMore_ok : EnvOk EPredMore := envOk tt_ok ⟨csent_valid, clate_valid, cfirst_valid, cmust_valid, cscheck_valid, cany_valid, cwithin_valid, trivial⟩
theorem FPredMore_ok : FnOk EPredMore Try.f18 := ⟨rfl, rfl⟩
theorem EPredMore_t (x0 : List (Int × Int × Int × Unit)) (x1 : List Int) (x2 : List Int) : exec EPredMore 1000 [.code (bodyOf Try.prog 18)] (initSt cPredMore.ps ((x0, x1, x2, ()))) =
  .need (hPre []) (.need (True) (.need (True) (.need (True) (.need (hPre sentH) (.need (True) (.need (True) (cond (decide (scheck x0 ≠ (0 : Int))) (.ret ((true, ()))) (.cut (loopAt (bodyOf Try.prog 18) 11).1 (loopAt (bodyOf Try.prog 18) 11).2 (St.mk [(0, AV.val Es x0), (4, AV.ptr 4 []), (5, AV.ptr 5 []), (11, AV.ptr 11 []), (52, AV.val (Ty.int IntKind.i64) (0 : Int))] [(4, Ent.var (Ty.arr 6 (Ty.int IntKind.u64)) x1), (5, Ent.var (Ty.arr 6 (Ty.int IntKind.u64)) x2), (11, Ent.var (Ty.arr 6 (Ty.int IntKind.u64)) x1)]))))))))) := by kernel_rfl
def EPredMore_s11 (v0 : List (Int × Int × Int × Unit)) (v52 : Int) (o4 : List Int) (o5 : List Int) (o11 : List Int) : St := St.mk [(0, AV.val Es v0), (4, AV.ptr 4 []), (5, AV.ptr 5 []), (11, AV.ptr 11 []), (52, AV.val (Ty.int IntKind.i64) v52)] [(4, Ent.var (Ty.arr 6 (Ty.int IntKind.u64)) o4), (5, Ent.var (Ty.arr 6 (Ty.int IntKind.u64)) o5), (11, Ent.var (Ty.arr 6 (Ty.int IntKind.u64)) o11)]
theorem EPredMore_l11 (v0 : List (Int × Int × Int × Unit)) (v52 : Int) (o4 : List Int) (o5 : List Int) (o11 : List Int) : exec EPredMore 1000 (.code (loopAt (bodyOf Try.prog 18) 11).1 :: .inLoop (loopAt (bodyOf Try.prog 18) 11).1 :: (loopAt (bodyOf Try.prog 18) 11).2) (EPredMore_s11 v0 v52 o4 o5 o11) =
  cond (decide (v52 < (6 : Int))) (.need ((0 : Int) ≤ v52 ∧ v52 < (↑6 : Int)) (.need ((0 : Int) ≤ v52 ∧ v52 < (↑6 : Int)) (.need ((0 : Int) ≤ v52 ∧ v52 < (↑6 : Int)) (.need (inK IntKind.i64 (v52 + (1 : Int))) (.cut (loopAt (bodyOf Try.prog 18) 11).1 (loopAt (bodyOf Try.prog 18) 11).2 (St.mk [(0, AV.val Es v0), (4, AV.ptr 4 []), (5, AV.ptr 5 []), (11, AV.ptr 11 []), (52, AV.val (Ty.int IntKind.i64) (v52 + (1 : Int)))] [(4, Ent.var (Ty.arr 6 (Ty.int IntKind.u64)) o4), (5, Ent.var (Ty.arr 6 (Ty.int IntKind.u64)) o5), (11, Ent.var (Ty.arr 6 (Ty.int IntKind.u64)) (List.set o11 (Int.toNat v52) (bOr IntKind.u64 (List.getD o11 (Int.toNat v52) (0 : Int)) (List.getD o5 (Int.toNat v52) (0 : Int)))))])))))) (.need (hPre v0) (.need (True) (.need (hPre v0) (.need (True) (cond (decide (Prod.fst (Prod.snd (firstR v0 (anyT v0 o4))) = (0 : Int))) (cond (decide (Prod.fst (Prod.snd (firstR v0 (anyT v0 o11))) ≠ (0 : Int))) (.ret ((false, ()))) (.need (True) (cond (!within (Prod.fst (firstR v0 (anyT v0 o11))) (Prod.fst (firstR v0 (anyT v0 o4)))) (.ret ((false, ()))) (.need (hPre v0) (.need (True) (.need (hPre v0) (.need (True) (cond (decide (Prod.fst (Prod.snd (mustR v0 (anyT v0 o4))) = Prod.fst (Prod.snd (mustR v0 (anyT v0 o11))))) (cond (!Prod.fst (mustR v0 (anyT v0 o4))) (.ret ((true, ()))) (.ret ((Prod.fst (mustR v0 (anyT v0 o11)), ())))) (.ret ((false, ()))))))))))) (.need (hPre v0) (.need (True) (.need (hPre v0) (.need (True) (cond (decide (Prod.fst (Prod.snd (mustR v0 (anyT v0 o4))) = Prod.fst (Prod.snd (mustR v0 (anyT v0 o11))))) (cond (!Prod.fst (mustR v0 (anyT v0 o4))) (.ret ((true, ()))) (.ret ((Prod.fst (mustR v0 (anyT v0 o11)), ())))) (.ret ((false, ()))))))))))))) := by kernel_rfl
def orI (x y : Int) : Int := bOr .u64 x y
theorem shr_in {x : Int} {n : Nat} (hx : inK .u64 x) : inK .u64 (x / 2 ^ n) := by
  obtain ⟨h1, h2⟩ := (inK_un (k := .u64) rfl).1 hx
  have hp : (1 : Int) ≤ 2 ^ n := by have := Nat.one_le_two_pow (n := n); exact_mod_cast this
  exact (inK_un (k := .u64) rfl).2 ⟨Int.ediv_nonneg h1 (by omega), Int.lt_of_le_of_lt (Int.ediv_le_self _ h1) h2⟩
theorem bit_shr {x : Int} {n i : Nat} (hx : inK .u64 x) : bit (x / 2 ^ n) i = bit x (n + i) := by
  obtain ⟨h1, -⟩ := (inK_un (k := .u64) rfl).1 hx
  obtain ⟨m, rfl⟩ := Int.eq_ofNat_of_zero_le h1
  have e : ((m : Int) / 2 ^ n) = ((m / 2 ^ n : Nat) : Int) := by norm_cast
  rw [bit, bit, e, Int.toNat_natCast, Int.toNat_natCast, Nat.testBit_div_two_pow, Nat.add_comm]
theorem bitT_eq {x : Int} {k : Nat} (hx : inK .u64 x) : bitT x k = bit x (min k (IntKind.bits .u64)) := by
  have hy := shr_in (n := min k (IntKind.bits .u64)) hx
  have h1 : inK .u64 1 := by decide
  have hb : ∀ i, bit (bAnd .u64 (x / 2 ^ min k (IntKind.bits .u64)) 1) i = (bit x (min k (IntKind.bits .u64) + i) && bit 1 i) := fun i => by rw [bit_and rfl hy h1, bit_shr hx]
  have b1 : ∀ i, bit 1 i = decide (i = 0) := fun i => by
    show Nat.testBit 1 i = _
    rw [Nat.testBit_one_eq_true_iff_self_eq_zero |> (fun h => Bool.eq_iff_iff.2 (h.trans (decide_eq_true_iff).symm))]
  rw [bitT]
  cases hc : bit x (min k (IntKind.bits .u64)) with
  | true =>
    refine decide_eq_true (bits_ext ((inK_un (k := .u64) rfl).1 and_in).1 (by decide) (fun i => ?_))
    rw [hb, b1]
    by_cases e : i = 0
    · subst e; rw [Nat.add_zero, hc]; rfl
    · rw [decide_eq_false e, Bool.and_false]
  | false =>
    refine decide_eq_false (fun h => ?_)
    have := hb 0
    rw [h, Nat.add_zero, hc, b1] at this
    cases this
theorem bitT_or {x y : Int} {k : Nat} (hx : inK .u64 x) (hy : inK .u64 y) (h : bitT x k = true) : bitT (orI x y) k = true := by
  rw [bitT_eq hx] at h
  rw [orI, bitT_eq or_in, bit_or rfl hx hy, h]; rfl
theorem any_more {h : List Ev} {a b : List Int} (ra : ∀ x ∈ a, inK .u64 x) (rb : ∀ x ∈ b, inK .u64 x) (ha : a.length = 6) (hb : b.length = 6) (c : List Int) (hc : holdsB (anyT h a) c = true) : holdsB (anyT h (partM orI a b 6)) c = true := by
  refine holds_iff.2 (fun p hp => ?_)
  have h1 := holds_iff.1 hc p hp
  rw [anyT, getD_map_range _ _ hp] at h1 ⊢
  by_cases hk : (c.getD p 0).toNat < cnt h p h.length + 1
  · rw [getD_map_range _ _ hk] at h1 ⊢
    rw [partM_done, getD_map_range _ _ hp]
    exact bitT_or (ra _ (getD_mem (by omega))) (rb _ (getD_mem (by omega))) h1
  · rw [List.getD_eq_getElem?_getD, List.getElem?_eq_none (by rw [List.length_map, List.length_range]; omega)] at h1; cases h1
theorem cPredMore_valid : (lawC [Es, .arr 6 (.int .u64), .arr 6 (.int .u64)] (fun _ => True)).Valid Try.prog 18 := by
  refine Ctr.valid_of EPredMore_ok rfl rfl Try.func18 (c := bodyOf Try.prog 18) rfl rfl FPredMore_ok rfl ?_
  rintro ⟨(h : List Ev), (a : List Int), (b : List Int), ⟨⟩⟩ - ⟨-, ⟨ha, ra⟩, ⟨hb, rb⟩, -⟩
  have ha : a.length = 6 := ha
  have hb : b.length = 6 := hb
  have ra : ∀ x ∈ a, inK .u64 x := ra
  have rb : ∀ x ∈ b, inK .u64 x := rb
  refine exec_sound (n := 1000) EPredMore_ok FPredMore_ok ?_
  refine holds_of_eq (EPredMore_t h a b) ?_
  have hs : hPre sentH := (by decide +kernel : scheck sentH = 0)
  have hn : hPre [] := (by decide +kernel : scheck [] = 0)
  by_cases hh : scheck h = 0
  · simp only [holds_cond, Tree.holds, true_and, true_implies, decide_eq_true_eq, decide_eq_false_iff_not, Bool.not_eq_true', Bool.not_eq_false', Int.toNat_natCast, inK_i64, List.length_set, List.length_cons, List.length_nil, hs, hn]
    refine ⟨fun f => absurd hh f, fun _ => ?_⟩
    have hpre : hPre h := hh
    have h0 : St.mk [(0, AV.val Es h), (4, AV.ptr 4 []), (5, AV.ptr 5 []), (11, AV.ptr 11 []), (52, AV.val (Ty.int IntKind.i64) 0)] [(4, Ent.var (Ty.arr 6 (Ty.int IntKind.u64)) a), (5, Ent.var (Ty.arr 6 (Ty.int IntKind.u64)) b), (11, Ent.var (Ty.arr 6 (Ty.int IntKind.u64)) a)] = EPredMore_s11 h ((0 : Nat) : Int) a b (partM orI a b 0) := by rw [partM_zero ha]; rfl
    rw [h0]
    refine Reach.loopI EPredMore_ok FPredMore_ok (fun i : Nat => EPredMore_s11 h (i : Int) a b (partM orI a b i)) (fun i => i ≤ 6) (fun i => 6 - i) 1000 (fun _ => ⟨uniq_of rfl, uniq_of rfl⟩) ?_ 0 (by omega)
    rintro i k1 - ih
    refine holds_of_eq (EPredMore_l11 ..) ?_
    by_cases hi : i < 6
    · have h9 := ih (i + 1) (by omega) (by omega)
      rw [← partM_set hi] at h9
      simp only [holds_cond, Tree.holds, true_and, true_implies, decide_eq_true_eq, decide_eq_false_iff_not, Bool.not_eq_true', Bool.not_eq_false', Int.toNat_natCast, inK_i64, List.length_set, List.length_cons, List.length_nil]
      rw [partM_at hi]
      exact ⟨fun _ => ⟨by omega, fun _ => ⟨by omega, fun _ => ⟨by omega, fun _ => ⟨by omega, fun _ => h9⟩⟩⟩⟩, fun f => absurd f (by omega)⟩
    · have hi6 : i = 6 := by omega
      subst hi6
      have hm := any_more (h := h) ra rb ha hb
      have f1 : fitB h (anyT h a) = true := any_fit
      have f2 : fitB h (anyT h (partM orI a b 6)) = true := any_fit
      generalize anyT h (partM orI a b 6) = t' at *
      generalize anyT h a = t at *
      have good : ∀ d, Good h t d → Good h t' d := fun d hd => ⟨hd.1, hd.2.1, hm d hd.2.2⟩
      have first : (firstR h t).2.1 = 0 → (firstR h t').2.1 = 0 ∧ within (firstR h t').1 (firstR h t).1 = true := by
        rcases first_spec hh f1 with ⟨c, c1, c2, c3⟩ | ⟨c1, c3⟩
        · rcases first_spec hh f2 with ⟨d, d1, d2, d3⟩ | ⟨d1, d3⟩
          · rw [c3, d3]; exact fun _ => ⟨rfl, (within_le c1.1.len).2 (d2 c (good c c1))⟩
          · exact absurd (good c c1) (d1 c)
        · rw [c3]; intro h1; cases h1
      have must : (mustR h t).2.1 = (mustR h t').2.1 ∧ ((mustR h t).1 = true → (mustR h t').1 = true) := by
        rcases must_ok hh f1 with ⟨r1, e1⟩ | ⟨r1, ⟨R1, e1⟩ | ⟨R1, e1⟩⟩ <;> rcases must_ok hh f2 with ⟨r2, e2⟩ | ⟨r2, ⟨R2, e2⟩ | ⟨R2, e2⟩⟩ <;> rw [e1, e2]
        all_goals first
          | exact ⟨rfl, fun h => h⟩
          | exact ⟨rfl, fun _ => rfl⟩
          | exact absurd r1 r2
          | exact absurd r2 r1
          | exact absurd (rch_more hm R2) R1
      obtain ⟨m1, m2⟩ := must
      simp only [hpre, m1, Tree.holds, holds_cond, true_and, true_implies, decide_true, Bool.true_eq_false, false_implies, and_true, decide_eq_true_eq, decide_eq_false_iff_not, Bool.not_eq_true', Bool.not_eq_false']
      refine ⟨fun f => absurd f (by decide), fun _ => ⟨fun e1 => ⟨fun e2 => absurd (first e1).1 e2, fun _ => ⟨fun w => ?_, fun _ => ⟨fun _ => rfl, fun q => ?_⟩⟩⟩, fun _ => ⟨fun _ => rfl, fun q => ?_⟩⟩⟩
      · rw [(first e1).2] at w; cases w
      · rw [m2 q]; rfl
      · rw [m2 q]; rfl
  · simp only [holds_cond, Tree.holds, true_and, true_implies, decide_eq_true_eq, decide_eq_false_iff_not, Bool.not_eq_true', Bool.not_eq_false', Int.toNat_natCast, inK_i64, List.length_set, List.length_cons, List.length_nil, hs, hn]
    exact ⟨fun _ => rfl, fun h1 => absurd hh h1⟩
end Go.Proofs.Ytcafiieffenohaa
