/- PredMust: what must be so is so on whatever way one goes. -/
import Derived.Test.YtcafiieffenohaaPMh
namespace Go.Proofs.Ytcafiieffenohaa
open Go.Ex
set_option maxRecDepth 100000
theorem cnt_sum {h : List Ev} (hp : ∀ i, i < h.length → pr h i < 6) : ∀ {i : Nat}, i ≤ h.length → cnt h 0 i + cnt h 1 i + cnt h 2 i + cnt h 3 i + cnt h 4 i + cnt h 5 i = i
  | 0, _ => rfl
  | i + 1, hi => by
    have := cnt_sum hp (i := i) (by omega)
    have h6 := hp i (by omega)
    simp only [cnt]
    have : pr h i = 0 ∨ pr h i = 1 ∨ pr h i = 2 ∨ pr h i = 3 ∨ pr h i = 4 ∨ pr h i = 5 := by omega
    rcases this with e | e | e | e | e | e <;> simp [e] <;> omega
theorem gap_zero {h : List Ev} (hh : scheck h = 0) : gap h v0 6 = h.length := by
  have h1 := cnt_sum (fun i hi => (hist_ok hh hi).p) (Nat.le_refl h.length)
  simp only [gap]
  simp
  omega
theorem gap_full {h : List Ev} {c : List Int} (hc : CutOf h c) (hg : gap h c 6 = 0) : c = cntV h h.length := by
  refine ext6 hc.len cntV_len (fun p hp => ?_)
  rw [cntV_at hp]
  have h1 := hc.lo p hp
  have h2 := hc.hi p hp
  have : cnt h p h.length - (c.getD p 0).toNat = 0 := by
    simp only [gap] at hg
    have : p = 0 ∨ p = 1 ∨ p = 2 ∨ p = 3 ∨ p = 4 ∨ p = 5 := by omega
    rcases this with e | e | e | e | e | e <;> subst e <;> omega
  omega
theorem gap_upN {h : List Ev} {c : List Int} (hc : CutOf h c) {p : Nat} (hp : p < 6) (hu : CutOf h (c.set p (c.getD p 0 + 1))) : ∀ {n : Nat}, n ≤ 6 → gap h (c.set p (c.getD p 0 + 1)) n + (if p < n then 1 else 0) = gap h c n
  | 0, _ => by simp [gap]
  | n + 1, hn => by
    have ih := gap_upN hc hp hu (n := n) (by omega)
    have e := up_at (q := n) hc.len hp
    have h1 := hc.lo p hp
    have h2 := hu.hi p hp
    rw [up_at hc.len hp, if_pos rfl] at h2
    rw [gap, gap, e]
    by_cases e1 : n = p
    · subst e1
      rw [if_neg (by omega)] at ih
      rw [if_pos rfl, if_pos (by omega)]
      omega
    · rw [if_neg e1]
      by_cases e2 : p < n
      · rw [if_pos e2] at ih
        rw [if_pos (by omega)]; omega
      · rw [if_neg e2] at ih
        rw [if_neg (by omega)]; omega
theorem gap_up {h : List Ev} {c : List Int} (hc : CutOf h c) {p : Nat} (hp : p < 6) (hu : CutOf h (c.set p (c.getD p 0 + 1))) : gap h (c.set p (c.getD p 0 + 1)) 6 + 1 = gap h c 6 := by
  have := gap_upN hc hp hu (Nat.le_refl 6)
  rw [if_pos hp] at this; exact this
def cPredMust : Ctr := lawC [Es, .arr 6 (.int .u64), .slc false I64] (fun _ => True)
noncomputable def EPredMust : Env := { P := Try.prog, tt := tt, ctr := [(40, csent), (41, clate), (49, cmust), (42, cscheck), (43, cany), (46, cso), (50, csizes), (45, cright), (20, crest)], res := [Go.ResultVar.tmp 6], rs := [Ty.bool], ps := [PK.v Es, PK.v (Ty.arr 6 (Ty.int IntKind.u64)), PK.v (Ty.slc false (Ty.int IntKind.i64))], cuts := [(13, [(0, none), (2, none), (9, some (Ty.slc true (Ty.slc true Ty.bool))), (10, none), (12, none), (13, none), (56, none), (57, none)]), (19, [(0, none), (2, none), (9, some (Ty.slc true (Ty.slc true Ty.bool))), (10, none), (12, none), (13, none), (15, none), (56, none), (57, none), (69, none)])], nt := 111 }
theorem EPredMust_ok : EnvOk EPredMust := envOk tt_ok ⟨csent_valid, clate_valid, cmust_valid, cscheck_valid, cany_valid, cso_valid, csizes_valid, cright_valid, crest_valid, trivial⟩
theorem FPredMust_ok : FnOk EPredMust Try.f16 := ⟨rfl, rfl⟩
theorem EPredMust_t (x0 : List (Int × Int × Int × Unit)) (x1 : List Int) (x2 : List Int) : exec EPredMust 1000 [.code (bodyOf Try.prog 16)] (initSt cPredMust.ps ((x0, x1, x2, ()))) =
  .need (True) (.need (True) (.need (hPre sentH) (.need (True) (.need (True) (cond (decide (scheck x0 ≠ (0 : Int))) (.ret ((true, ()))) (.need (hPre x0) (.need (True) (cond (decide (Prod.fst (Prod.snd (mustR x0 (anyT x0 x1))) ≠ (0 : Int))) (cond (decide (Prod.fst (Prod.snd (mustR x0 (anyT x0 x1))) = (2 : Int))) (.ret ((!Prod.fst (mustR x0 (anyT x0 x1)), ()))) (.ret ((false, ())))) (.need (inTr (anyT x0 x1) [(0 : Int), (0 : Int), (0 : Int), (0 : Int), (0 : Int), (0 : Int)]) (.cut (loopAt (bodyOf Try.prog 16) 13).1 (loopAt (bodyOf Try.prog 16) 13).2 (St.mk [(0, AV.val Es x0), (2, AV.val (Ty.slc false (Ty.int IntKind.i64)) x2), (9, AV.at_ 1000009 []), (10, AV.val Ty.bool (Prod.fst (mustR x0 (anyT x0 x1)))), (12, AV.ptr 12 []), (13, AV.val Ty.bool (holdsB (anyT x0 x1) [(0 : Int), (0 : Int), (0 : Int), (0 : Int), (0 : Int), (0 : Int)])), (56, AV.val (Ty.int IntKind.i64) (↑(List.length x0) : Int)), (57, AV.val (Ty.int IntKind.i64) (0 : Int))] [(12, Ent.var Vec [(0 : Int), (0 : Int), (0 : Int), (0 : Int), (0 : Int), (0 : Int)]), (1000009, Ent.own (Ty.slc true (Ty.slc true Ty.bool)) (anyT x0 x1))]))))))))))) := by kernel_rfl
def EPredMust_s13 (v0 : List (Int × Int × Int × Unit)) (v2 : List Int) (v10 : Bool) (v13 : Bool) (v56 : Int) (v57 : Int) (o12 : List Int) (o1000009 : List (List Bool)) : St := St.mk [(0, AV.val Es v0), (2, AV.val (Ty.slc false (Ty.int IntKind.i64)) v2), (9, AV.at_ 1000009 []), (10, AV.val Ty.bool v10), (12, AV.ptr 12 []), (13, AV.val Ty.bool v13), (56, AV.val (Ty.int IntKind.i64) v56), (57, AV.val (Ty.int IntKind.i64) v57)] [(12, Ent.var Vec o12), (1000009, Ent.own (Ty.slc true (Ty.slc true Ty.bool)) o1000009)]
theorem EPredMust_l13 (v0 : List (Int × Int × Int × Unit)) (v2 : List Int) (v10 : Bool) (v13 : Bool) (v56 : Int) (v57 : Int) (o12 : List Int) (o1000009 : List (List Bool)) : exec EPredMust 1000 (.code (loopAt (bodyOf Try.prog 16) 13).1 :: .inLoop (loopAt (bodyOf Try.prog 16) 13).1 :: (loopAt (bodyOf Try.prog 16) 13).2) (EPredMust_s13 v0 v2 v10 v13 v56 v57 o12 o1000009) =
  cond (decide (v57 < v56)) (cond (decide (v57 < (↑(List.length v2) : Int))) (.need ((0 : Int) ≤ v57 ∧ v57 < (↑(List.length v2) : Int)) (.need ((6 : Int) ≤ (1000000 : Int)) (.cut (loopAt (bodyOf Try.prog 16) 19).1 (loopAt (bodyOf Try.prog 16) 19).2 (St.mk [(0, AV.val Es v0), (2, AV.val (Ty.slc false (Ty.int IntKind.i64)) v2), (9, AV.at_ 1000009 []), (10, AV.val Ty.bool v10), (12, AV.ptr 12 []), (13, AV.val Ty.bool v13), (15, AV.val (Ty.int IntKind.i64) (rest (List.getD v2 (Int.toNat v57) (0 : Int)) (6 : Int))), (56, AV.val (Ty.int IntKind.i64) v56), (57, AV.val (Ty.int IntKind.i64) v57), (69, AV.val (Ty.int IntKind.i64) (0 : Int))] [(12, Ent.var Vec o12), (1000009, Ent.own (Ty.slc true (Ty.slc true Ty.bool)) o1000009)])))) (.cut (loopAt (bodyOf Try.prog 16) 19).1 (loopAt (bodyOf Try.prog 16) 19).2 (St.mk [(0, AV.val Es v0), (2, AV.val (Ty.slc false (Ty.int IntKind.i64)) v2), (9, AV.at_ 1000009 []), (10, AV.val Ty.bool v10), (12, AV.ptr 12 []), (13, AV.val Ty.bool v13), (15, AV.val (Ty.int IntKind.i64) (0 : Int)), (56, AV.val (Ty.int IntKind.i64) v56), (57, AV.val (Ty.int IntKind.i64) v57), (69, AV.val (Ty.int IntKind.i64) (0 : Int))] [(12, Ent.var Vec o12), (1000009, Ent.own (Ty.slc true (Ty.slc true Ty.bool)) o1000009)]))) (.need (hPre v0) (cond (eqD Vec o12 (cntV v0 (List.length v0))) (cond (!v10) (.ret ((true, ()))) (.ret ((v13, ())))) (.ret ((false, ()))))) := by kernel_rfl
def EPredMust_s19 (v0 : List (Int × Int × Int × Unit)) (v2 : List Int) (v10 : Bool) (v13 : Bool) (v15 : Int) (v56 : Int) (v57 : Int) (v69 : Int) (o12 : List Int) (o1000009 : List (List Bool)) : St := St.mk [(0, AV.val Es v0), (2, AV.val (Ty.slc false (Ty.int IntKind.i64)) v2), (9, AV.at_ 1000009 []), (10, AV.val Ty.bool v10), (12, AV.ptr 12 []), (13, AV.val Ty.bool v13), (15, AV.val (Ty.int IntKind.i64) v15), (56, AV.val (Ty.int IntKind.i64) v56), (57, AV.val (Ty.int IntKind.i64) v57), (69, AV.val (Ty.int IntKind.i64) v69)] [(12, Ent.var Vec o12), (1000009, Ent.own (Ty.slc true (Ty.slc true Ty.bool)) o1000009)]
theorem EPredMust_l19 (v0 : List (Int × Int × Int × Unit)) (v2 : List Int) (v10 : Bool) (v13 : Bool) (v15 : Int) (v56 : Int) (v57 : Int) (v69 : Int) (o12 : List Int) (o1000009 : List (List Bool)) : exec EPredMust 1000 (.code (loopAt (bodyOf Try.prog 16) 19).1 :: .inLoop (loopAt (bodyOf Try.prog 16) 19).1 :: (loopAt (bodyOf Try.prog 16) 19).2) (EPredMust_s19 v0 v2 v10 v13 v15 v56 v57 v69 o12 o1000009) =
  cond (decide (v69 < (6 : Int))) (.need ((0 : Int) ≤ v15 ∧ v15 < (↑6 : Int)) (.need (inK IntKind.i64 (List.getD o12 (Int.toNat v15) (0 : Int) + (1 : Int))) (.need ((0 : Int) ≤ v15 ∧ v15 < (↑6 : Int)) (.need (True) (cond (decide (Prod.fst (Prod.snd (rightR v0 (List.set o12 (Int.toNat v15) (List.getD o12 (Int.toNat v15) (0 : Int) + (1 : Int))))) = (0 : Int))) (cond (Prod.fst (rightR v0 (List.set o12 (Int.toNat v15) (List.getD o12 (Int.toNat v15) (0 : Int) + (1 : Int))))) (cond (v13) (.need (inK IntKind.i64 (v57 + (1 : Int))) (.cut (loopAt (bodyOf Try.prog 16) 13).1 (loopAt (bodyOf Try.prog 16) 13).2 (St.mk [(0, AV.val Es v0), (2, AV.val (Ty.slc false (Ty.int IntKind.i64)) v2), (9, AV.at_ 1000009 []), (10, AV.val Ty.bool v10), (12, AV.ptr 12 []), (13, AV.val Ty.bool true), (56, AV.val (Ty.int IntKind.i64) v56), (57, AV.val (Ty.int IntKind.i64) (v57 + (1 : Int)))] [(12, Ent.var Vec (List.set o12 (Int.toNat v15) (List.getD o12 (Int.toNat v15) (0 : Int) + (1 : Int)))), (1000009, Ent.own (Ty.slc true (Ty.slc true Ty.bool)) o1000009)]))) (.need (inTr o1000009 (List.set o12 (Int.toNat v15) (List.getD o12 (Int.toNat v15) (0 : Int) + (1 : Int)))) (.need (inK IntKind.i64 (v57 + (1 : Int))) (.cut (loopAt (bodyOf Try.prog 16) 13).1 (loopAt (bodyOf Try.prog 16) 13).2 (St.mk [(0, AV.val Es v0), (2, AV.val (Ty.slc false (Ty.int IntKind.i64)) v2), (9, AV.at_ 1000009 []), (10, AV.val Ty.bool v10), (12, AV.ptr 12 []), (13, AV.val Ty.bool (holdsB o1000009 (List.set o12 (Int.toNat v15) (List.getD o12 (Int.toNat v15) (0 : Int) + (1 : Int))))), (56, AV.val (Ty.int IntKind.i64) v56), (57, AV.val (Ty.int IntKind.i64) (v57 + (1 : Int)))] [(12, Ent.var Vec (List.set o12 (Int.toNat v15) (List.getD o12 (Int.toNat v15) (0 : Int) + (1 : Int)))), (1000009, Ent.own (Ty.slc true (Ty.slc true Ty.bool)) o1000009)]))))) (.need (inK IntKind.i64 (v15 + (1 : Int))) (.need ((0 : Int) < (6 : Int)) (.need (inK IntKind.i64 (v69 + (1 : Int))) (.cut (loopAt (bodyOf Try.prog 16) 19).1 (loopAt (bodyOf Try.prog 16) 19).2 (St.mk [(0, AV.val Es v0), (2, AV.val (Ty.slc false (Ty.int IntKind.i64)) v2), (9, AV.at_ 1000009 []), (10, AV.val Ty.bool v10), (12, AV.ptr 12 []), (13, AV.val Ty.bool v13), (15, AV.val (Ty.int IntKind.i64) (Int.tmod (v15 + (1 : Int)) (6 : Int))), (56, AV.val (Ty.int IntKind.i64) v56), (57, AV.val (Ty.int IntKind.i64) v57), (69, AV.val (Ty.int IntKind.i64) (v69 + (1 : Int)))] [(12, Ent.var Vec o12), (1000009, Ent.own (Ty.slc true (Ty.slc true Ty.bool)) o1000009)])))))) (.need (inK IntKind.i64 (v15 + (1 : Int))) (.need ((0 : Int) < (6 : Int)) (.need (inK IntKind.i64 (v69 + (1 : Int))) (.cut (loopAt (bodyOf Try.prog 16) 19).1 (loopAt (bodyOf Try.prog 16) 19).2 (St.mk [(0, AV.val Es v0), (2, AV.val (Ty.slc false (Ty.int IntKind.i64)) v2), (9, AV.at_ 1000009 []), (10, AV.val Ty.bool v10), (12, AV.ptr 12 []), (13, AV.val Ty.bool v13), (15, AV.val (Ty.int IntKind.i64) (Int.tmod (v15 + (1 : Int)) (6 : Int))), (56, AV.val (Ty.int IntKind.i64) v56), (57, AV.val (Ty.int IntKind.i64) v57), (69, AV.val (Ty.int IntKind.i64) (v69 + (1 : Int)))] [(12, Ent.var Vec o12), (1000009, Ent.own (Ty.slc true (Ty.slc true Ty.bool)) o1000009)])))))))))) (cond (v13) (.need (inK IntKind.i64 (v57 + (1 : Int))) (.cut (loopAt (bodyOf Try.prog 16) 13).1 (loopAt (bodyOf Try.prog 16) 13).2 (St.mk [(0, AV.val Es v0), (2, AV.val (Ty.slc false (Ty.int IntKind.i64)) v2), (9, AV.at_ 1000009 []), (10, AV.val Ty.bool v10), (12, AV.ptr 12 []), (13, AV.val Ty.bool true), (56, AV.val (Ty.int IntKind.i64) v56), (57, AV.val (Ty.int IntKind.i64) (v57 + (1 : Int)))] [(12, Ent.var Vec o12), (1000009, Ent.own (Ty.slc true (Ty.slc true Ty.bool)) o1000009)]))) (.need (inTr o1000009 o12) (.need (inK IntKind.i64 (v57 + (1 : Int))) (.cut (loopAt (bodyOf Try.prog 16) 13).1 (loopAt (bodyOf Try.prog 16) 13).2 (St.mk [(0, AV.val Es v0), (2, AV.val (Ty.slc false (Ty.int IntKind.i64)) v2), (9, AV.at_ 1000009 []), (10, AV.val Ty.bool v10), (12, AV.ptr 12 []), (13, AV.val Ty.bool (holdsB o1000009 o12)), (56, AV.val (Ty.int IntKind.i64) v56), (57, AV.val (Ty.int IntKind.i64) (v57 + (1 : Int)))] [(12, Ent.var Vec o12), (1000009, Ent.own (Ty.slc true (Ty.slc true Ty.bool)) o1000009)]))))) := by kernel_rfl
theorem right_no {h : List Ev} {c : List Int} (hl : c.length = 6) (hn : ¬ (CutOf h c ∧ OkC h c)) (hh : scheck h = 0) (h0 : (rightR h c).2.1 = 0) : (rightR h c).1 = false := by
  by_cases hc : CutOf h c
  · rw [rightR_ok hh hc]
    exact decide_eq_false (fun h1 => hn ⟨hc, (grow_fix hh hc).1 h1⟩)
  · exfalso
    have h1 : cutErr h c ≠ 0 := fun h2 => hc ((cutErr_ok hl).1 h2).2
    rw [rightR, growR, if_pos h1] at h0
    exact h1 h0
theorem cPredMust_valid : (lawC [Es, .arr 6 (.int .u64), .slc false I64] (fun _ => True)).Valid Try.prog 16 := by
  refine Ctr.valid_of EPredMust_ok rfl rfl Try.func16 (c := bodyOf Try.prog 16) rfl rfl FPredMust_ok rfl ?_
  rintro ⟨(h : List Ev), (o : List Int), (way : List Int), ⟨⟩⟩ - -
  refine exec_sound (n := 1000) EPredMust_ok FPredMust_ok ?_
  refine holds_of_eq (EPredMust_t h o way) ?_
  have hs : hPre sentH := (by decide +kernel : scheck sentH = 0)
  by_cases hh : scheck h = 0
  · have hpre : hPre h := hh
    have hl := (scheck_ok hh).1
    have hf : fitB h (anyT h o) = true := any_fit
    generalize anyT h o = t at *
    obtain ⟨f6, ff⟩ := fit_iff.1 hf
    have i0 : inTr t [0, 0, 0, 0, 0, 0] := cut_in f6 ff (CutOf.zero hh)
    rcases must_ok hh hf with ⟨hr, e⟩ | ⟨hr, hm⟩
    · rw [e]
      simp only [holds_cond, Tree.holds, true_and, true_implies, decide_eq_true_eq, decide_eq_false_iff_not, Bool.not_eq_true', Bool.not_eq_false', Int.toNat_natCast, inK_i64, List.length_set, List.length_cons, List.length_nil, hs, hpre]
      refine ⟨fun f => absurd hh f, fun _ => ⟨fun _ => ⟨rfl, fun f => absurd trivial f⟩, fun f => absurd (show ¬ (2 : Int) = 0 by decide) f⟩⟩
    · have e2 : (mustR h t).2.1 = 0 := by rcases hm with ⟨-, e⟩ | ⟨-, e⟩ <;> rw [e]
      have e1 : ¬ Rch h t (cntV h h.length) ∨ (mustR h t).1 = false := by rcases hm with ⟨-, e⟩ | ⟨hR, -⟩; exact .inr (by rw [e]); exact .inl hR
      rw [e2]
      generalize (mustR h t).1 = must at *
      simp only [holds_cond, Tree.holds, true_and, true_implies, decide_eq_true_eq, decide_eq_false_iff_not, Bool.not_eq_true', Bool.not_eq_false', Int.toNat_natCast, inK_i64, List.length_set, List.length_cons, List.length_nil, hs, hpre, i0]
      refine ⟨fun f => absurd hh f, fun _ => ⟨fun f => absurd rfl f, fun _ => ?_⟩⟩
      refine Reach.loopI EPredMust_ok FPredMust_ok (fun s : Nat × Bool × List Int => EPredMust_s13 h way must s.2.1 (h.length : Int) (s.1 : Int) s.2.2 t) (fun s => s.1 ≤ h.length ∧ CutOf h s.2.2 ∧ OkC h s.2.2 ∧ gap h s.2.2 6 + s.1 = h.length ∧ (s.2.1 = false → Rch h t s.2.2)) (fun s => h.length - s.1) 1000 (fun _ => ⟨uniq_of rfl, uniq_of rfl⟩) ?_ (0, holdsB t v0, v0) ⟨by simp, CutOf.zero hh, okC_zero hh, by show gap h v0 6 + 0 = h.length; rw [gap_zero hh]; rfl, fun h1 => Rch.zero h1⟩
      rintro ⟨i, so, c⟩ ⟨k1, k2, k3, k4, k5⟩ - ih
      have k1 : i ≤ h.length := k1
      have k2 : CutOf h c := k2
      have k3 : OkC h c := k3
      have k4 : gap h c 6 + i = h.length := k4
      have k5 : so = false → Rch h t c := k5
      refine holds_of_eq (EPredMust_l13 ..) ?_
      by_cases hi : i < h.length
      · suffices tries : ∀ p0 : Nat, p0 < 6 → Go.Ex.Reach EPredMust Try.f16 (true, ()) (lawC.noOut [Es, .arr 6 (.int .u64), .slc false I64]) (.code (loopAt (bodyOf Try.prog 16) 19).1 :: .inLoop (loopAt (bodyOf Try.prog 16) 19).1 :: (loopAt (bodyOf Try.prog 16) 19).2) (EPredMust_s19 h way must so (p0 : Int) (h.length : Int) (i : Int) 0 c t) by
          have hrest : ∀ x : Int, ∃ p0 : Nat, p0 < 6 ∧ rest x 6 = p0 := fun x => by
            have := rest_in (a := x) (n := 6) (by omega)
            exact ⟨(rest x 6).toNat, by omega, by omega⟩
          simp only [holds_cond, Tree.holds, true_and, true_implies, decide_eq_true_eq, decide_eq_false_iff_not, Bool.not_eq_true', Bool.not_eq_false', Int.toNat_natCast, inK_i64, List.length_set, List.length_cons, List.length_nil]
          refine ⟨fun _ => ⟨fun _ => ⟨by omega, fun _ => ⟨by omega, fun _ => ?_⟩⟩, fun _ => tries 0 (by omega)⟩, fun f => absurd f (by omega)⟩
          obtain ⟨p0, q1, q2⟩ := hrest (way.getD i 0)
          rw [q2]; exact tries p0 q1
        intro p0 hp0
        have hne : c ≠ cntV h h.length := fun e => by
          have : gap h c 6 = 0 := by
            rw [e]; simp only [gap]
            rw [cntV_at (by omega), cntV_at (by omega), cntV_at (by omega), cntV_at (by omega), cntV_at (by omega), cntV_at (by omega)]
            omega
          omega
        obtain ⟨pn, pn1, pn2, pn3⟩ := ok_next hh k2 k3 hne
        rw [show (p0 : Int) = (((p0 + 0) % 6 : Nat) : Int) by omega]
        refine Reach.loopI EPredMust_ok FPredMust_ok (fun k : Nat => EPredMust_s19 h way must so (((p0 + k) % 6 : Nat) : Int) (h.length : Int) (i : Int) (k : Int) c t) (fun k => k ≤ 6 ∧ ∀ j, j < k → ¬ (CutOf h (c.set ((p0 + j) % 6) (c.getD ((p0 + j) % 6) 0 + 1)) ∧ OkC h (c.set ((p0 + j) % 6) (c.getD ((p0 + j) % 6) 0 + 1)))) (fun k => 6 - k) 1000 (fun _ => ⟨uniq_of rfl, uniq_of rfl⟩) ?_ 0 ⟨by omega, fun j hj => by omega⟩
        rintro k ⟨n1, n2⟩ - ihk
        refine holds_of_eq (EPredMust_l19 ..) ?_
        by_cases hk : k < 6
        · have hp : (p0 + k) % 6 < 6 := Nat.mod_lt _ (by omega)
          have hmod : Int.tmod ((((p0 + k) % 6 : Nat) : Int) + 1) 6 = (((p0 + (k + 1)) % 6 : Nat) : Int) := by
            rw [Int.tmod_eq_emod_of_nonneg (by omega)]; omega
          generalize hP : (p0 + k) % 6 = p at *
          have q1 := k2.lo p hp
          have q2 := k2.hi p hp
          have q3 := cnt_le' (h := h) (p := p) (i := h.length)
          have q5 := k2.len
          by_cases hg : CutOf h (c.set p (c.getD p 0 + 1)) ∧ OkC h (c.set p (c.getD p 0 + 1))
          · obtain ⟨g1, g2⟩ := hg
            have eR : rightR h (c.set p (c.getD p 0 + 1)) = (true, 0, ()) := by rw [rightR_ok hh g1, decide_eq_true ((grow_fix hh g1).2 g2)]
            have g3 := gap_up k2 hp g1
            have inx := cut_in f6 ff g1
            have hnext := fun (so' : Bool) (hso : so' = false → so = false ∧ holdsB t (c.set p (c.getD p 0 + 1)) = false) => ih (i + 1, so', c.set p (c.getD p 0 + 1)) ⟨hi, g1, g2, by show gap h (c.set p (c.getD p 0 + 1)) 6 + (i + 1) = h.length; omega, fun h1 => Rch.step (k5 (hso h1).1) hp g1 g2 (hso h1).2⟩ (by show h.length - (i + 1) < h.length - i; omega)
            simp only [holds_cond, Tree.holds, true_and, true_implies, decide_eq_true_eq, decide_eq_false_iff_not, Bool.not_eq_true', Bool.not_eq_false', Int.toNat_natCast, inK_i64, List.length_set, List.length_cons, List.length_nil, eR]
            refine ⟨fun _ => ⟨by omega, fun _ => ⟨by omega, fun _ => ⟨by omega, fun _ => ?_⟩⟩⟩, fun f => absurd f (by omega)⟩
            refine ⟨⟨⟨fun _ => ⟨by omega, fun _ => hnext true (fun h1 => by cases h1)⟩, fun s => ⟨inx, fun _ => ⟨by omega, fun _ => hnext _ (fun h1 => ⟨s, h1⟩)⟩⟩⟩, fun f => ?_⟩, fun f => ?_⟩
            · cases f
            · exact absurd trivial f
          · have hno := right_no (c := c.set p (c.getD p 0 + 1)) (by simp [q5]) hg hh
            have hnext := ihk (k + 1) ⟨by omega, fun j hj => by
              by_cases e : j = k
              · subst e; rw [hP]; exact hg
              · exact n2 j (by omega)⟩ (by omega)
            simp only [holds_cond, Tree.holds, true_and, true_implies, decide_eq_true_eq, decide_eq_false_iff_not, Bool.not_eq_true', Bool.not_eq_false', Int.toNat_natCast, inK_i64, List.length_set, List.length_cons, List.length_nil]
            rw [hmod]
            refine ⟨fun _ => ⟨by omega, fun _ => ⟨by omega, fun _ => ⟨by omega, fun _ => ⟨fun r0 => ?_, fun r0 => ⟨by omega, fun _ => ⟨by omega, fun _ => ⟨by omega, fun _ => hnext⟩⟩⟩⟩⟩⟩⟩, fun f => absurd f (by omega)⟩
            rw [hno r0]
            refine ⟨fun f => ?_, fun _ => ⟨by omega, fun _ => ⟨by omega, fun _ => ⟨by omega, fun _ => hnext⟩⟩⟩⟩
            cases f
        · exfalso
          have hk6 : k = 6 := by omega
          subst hk6
          have := n2 ((pn + 6 - p0) % 6) (Nat.mod_lt _ (by omega))
          rw [show (p0 + (pn + 6 - p0) % 6) % 6 = pn by omega] at this
          exact this ⟨pn2, pn3⟩
      · have hi2 : i = h.length := by omega
        subst hi2
        have ec := gap_full k2 (by omega)
        have hfin : must = true → so = true := fun h1 => by
          cases so with
          | true => rfl
          | false =>
            have := k5 rfl
            rw [ec] at this
            rcases e1 with e1 | e1
            · exact absurd this e1
            · rw [h1] at e1; cases e1
        have eqv : eqD (Ty.arr 6 (Ty.int IntKind.i64)) (cntV h h.length) (cntV h h.length) = true := by rw [eqV6]; simp
        rw [ec]
        simp only [holds_cond, Tree.holds, true_and, true_implies, decide_eq_true_eq, decide_eq_false_iff_not, Bool.not_eq_true', Bool.not_eq_false', Int.toNat_natCast, inK_i64, List.length_set, List.length_cons, List.length_nil, hpre, eqv]
        refine ⟨fun f => absurd f (by omega), fun _ => ?_⟩
        refine ⟨⟨fun _ => rfl, fun h1 => ?_⟩, fun f => ?_⟩
        · rw [hfin h1]; rfl
        · cases f
  · simp only [holds_cond, Tree.holds, true_and, true_implies, decide_eq_true_eq, decide_eq_false_iff_not, Bool.not_eq_true', Bool.not_eq_false', Int.toNat_natCast, inK_i64, List.length_set, List.length_cons, List.length_nil, hs]
    exact ⟨fun _ => rfl, fun h1 => absurd hh h1⟩
end Go.Proofs.Ytcafiieffenohaa
