/- The contracts of the package ring's functions: halves. -/
import Derived.Test.YtcafiieffenohaaRingC
namespace Go.Proofs.Ytcafiieffenohaa
open Go.Ex
set_option maxRecDepth 100000
def newB (l : List Int) (m : Nat) (act : List Bool) (i : Nat) : Bool := act.getD i false && (sendF l true i m).2 && (sendF l false i m).2
def costB (l : List Int) (m : Nat) (act : List Bool) (i : Nat) : Int := if act.getD i false = true then (sendF l true i m).1 + (sendF l false i m).1 else 0
def midB (l : List Int) (m : Nat) (act : List Bool) (i : Nat) : List Bool := (List.range l.length).map (fun t => if t < i then newB l m act t else act.getD t false)
theorem mid_len {l : List Int} {m : Nat} {act : List Bool} {i : Nat} : (midB l m act i).length = l.length := by simp [midB]
theorem mid_at {l : List Int} {m : Nat} {act : List Bool} {i j : Nat} (hj : j < l.length) : (midB l m act i).getD j false = if j < i then newB l m act j else act.getD j false := getD_map_range (fun t => if t < i then newB l m act t else act.getD t false) false hj
theorem mid_zero {l : List Int} {m : Nat} {act : List Bool} (h : act.length = l.length) : midB l m act 0 = act :=
  eq_of_getD (d := false) (by rw [mid_len, h]) (fun j hj => by rw [mid_len] at hj; rw [mid_at hj, if_neg (by omega)])
theorem mid_end {l : List Int} {m : Nat} {act : List Bool} : midB l m act l.length = stepB l m act :=
  eq_of_getD (d := false) (by rw [mid_len]; simp [stepB]) (fun j hj => by
    rw [mid_len] at hj
    rw [mid_at hj, if_pos hj, stepB, getD_map_range _ _ hj]; rfl)
theorem mid_next {l : List Int} {m : Nat} {act : List Bool} {i : Nat} (hi : i < l.length) (x : Bool) (hx : x = newB l m act i) : (midB l m act i).set i x = midB l m act (i + 1) :=
  eq_of_getD (d := false) (by rw [List.length_set, mid_len, mid_len]) (fun j hj => by
    rw [List.length_set, mid_len] at hj
    rw [getD_set (by rw [mid_len]; exact hi), mid_at hj, mid_at hj]
    by_cases e : j = i
    · subst e; rw [if_pos rfl, if_pos (by omega), hx]
    · rw [if_neg e]
      by_cases c : j < i
      · rw [if_pos c, if_pos (by omega)]
      · rw [if_neg c, if_neg (by omega)])
theorem mid_skip {l : List Int} {m : Nat} {act : List Bool} {i : Nat} (hi : i < l.length) (hx : act.getD i false = false) : midB l m act i = midB l m act (i + 1) :=
  eq_of_getD (d := false) (by rw [mid_len, mid_len]) (fun j hj => by
    rw [mid_len] at hj
    rw [mid_at hj, mid_at hj]
    by_cases c : j < i
    · rw [if_pos c, if_pos (by omega)]
    · rw [if_neg c]
      by_cases e : j = i
      · subst e; rw [if_pos (by omega), newB, hx]; rfl
      · rw [if_neg (by omega)])
theorem sendFn_r (l : List Int) (i m : Nat) : sendFn l (i : Int) 1 (m : Int) = ((sendF l true i m).1, (sendF l true i m).2, ()) := rfl
theorem sendFn_l (l : List Int) (i m : Nat) : sendFn l (i : Int) (-1) (m : Int) = ((sendF l false i m).1, (sendF l false i m).2, ()) := rfl
theorem costB_le {l : List Int} {m : Nat} {act : List Bool} {i : Nat} (hi : i < l.length) (hm : 1 ≤ m) : 0 ≤ costB l m act i ∧ costB l m act i ≤ 4 * (m : Int) := by
  have h1 := send_spec (s := true) hi hm
  have h2 := send_spec (s := false) hi hm
  unfold costB; split <;> omega
theorem pow_small : ∀ j : Nat, j ≤ 5 → 1 ≤ 2 ^ j ∧ 2 ^ j ≤ 32 ∧ (j = 5 → 2 ^ j = 32) := fun j hj => by
  have : j = 0 ∨ j = 1 ∨ j = 2 ∨ j = 3 ∨ j = 4 ∨ j = 5 := by omega
  rcases this with rfl | rfl | rfl | rfl | rfl | rfl <;> decide
def halvesR (l : List Int) : Int × Int × Int × Unit := if rcheck l ≠ 0 then (0, 0, rcheck l, ()) else (idxB (halvesB l).1 true, (halvesB l).2, 0, ())
def chalves : Ctr := { ps := [.v (.slc false I64)], rs := [I64, I64, I64], pre := fun _ => True, fn := fun x => halvesR x.1, out := fun _ => () }
noncomputable def Ehalves : Env := { P := Try.prog, tt := tt, ctr := [(51, crcheck), (62, crepB), (63, csend), (64, cidxB)], res := [Go.ResultVar.tmp 2, Go.ResultVar.tmp 3, Go.ResultVar.tmp 4], rs := [Ty.int IntKind.i64, Ty.int IntKind.i64, Ty.int IntKind.i64], ps := [PK.v (Ty.slc false (Ty.int IntKind.i64))], cuts := [(8, [(0, none), (6, some (Ty.slc true Ty.bool)), (7, none), (8, none)]), (9, [(0, none), (6, some (Ty.slc true Ty.bool)), (7, none), (8, none), (26, some (Ty.slc true Ty.bool)), (27, none), (28, none)])], nt := 69 }
theorem Ehalves_ok : EnvOk Ehalves := envOk tt_ok ⟨crcheck_valid, crepB_valid, csend_valid, cidxB_valid, trivial⟩
theorem Fhalves_ok : FnOk Ehalves Try.f33 := ⟨rfl, rfl⟩
theorem Ehalves_t (x0 : List Int) : exec Ehalves 1000 [.code (bodyOf Try.prog 33)] (initSt chalves.ps ((x0, ()))) =
  .need (True) (cond (decide (rcheck x0 ≠ (0 : Int))) (.ret (((0 : Int), (0 : Int), rcheck x0, ()))) (.need (repPre (List.set [false] (Int.toNat (↑0 : Int)) true) (↑(List.length x0) : Int)) (.cut (loopAt (bodyOf Try.prog 33) 8).1 (loopAt (bodyOf Try.prog 33) 8).2 (St.mk [(0, AV.val (Ty.slc false (Ty.int IntKind.i64)) x0), (6, AV.at_ 1000006 []), (7, AV.val (Ty.int IntKind.i64) (0 : Int)), (8, AV.val (Ty.int IntKind.i64) (1 : Int))] [(1000006, Ent.own (Ty.slc true Ty.bool) (Prod.fst (repFn (List.set [false] (Int.toNat (↑0 : Int)) true) (↑(List.length x0) : Int))))])))) := by kernel_rfl
def Ehalves_s8 (v0 : List Int) (v7 : Int) (v8 : Int) (o1000006 : List Bool) : St := St.mk [(0, AV.val (Ty.slc false (Ty.int IntKind.i64)) v0), (6, AV.at_ 1000006 []), (7, AV.val (Ty.int IntKind.i64) v7), (8, AV.val (Ty.int IntKind.i64) v8)] [(1000006, Ent.own (Ty.slc true Ty.bool) o1000006)]
theorem Ehalves_l8 (v0 : List Int) (v7 : Int) (v8 : Int) (o1000006 : List Bool) : exec Ehalves 1000 (.code (loopAt (bodyOf Try.prog 33) 8).1 :: .inLoop (loopAt (bodyOf Try.prog 33) 8).1 :: (loopAt (bodyOf Try.prog 33) 8).2) (Ehalves_s8 v0 v7 v8 o1000006) =
  .cut (loopAt (bodyOf Try.prog 33) 9).1 (loopAt (bodyOf Try.prog 33) 9).2 (St.mk [(0, AV.val (Ty.slc false (Ty.int IntKind.i64)) v0), (6, AV.at_ 1000026 []), (7, AV.val (Ty.int IntKind.i64) v7), (8, AV.val (Ty.int IntKind.i64) v8), (26, AV.at_ 1000026 []), (27, AV.val (Ty.int IntKind.i64) (↑(List.length o1000006) : Int)), (28, AV.val (Ty.int IntKind.i64) (0 : Int))] [(1000026, Ent.own (Ty.slc true Ty.bool) o1000006)]) := by kernel_rfl
def Ehalves_s9 (v0 : List Int) (v7 : Int) (v8 : Int) (v27 : Int) (v28 : Int) (o1000026 : List Bool) : St := St.mk [(0, AV.val (Ty.slc false (Ty.int IntKind.i64)) v0), (6, AV.at_ 1000026 []), (7, AV.val (Ty.int IntKind.i64) v7), (8, AV.val (Ty.int IntKind.i64) v8), (26, AV.at_ 1000026 []), (27, AV.val (Ty.int IntKind.i64) v27), (28, AV.val (Ty.int IntKind.i64) v28)] [(1000026, Ent.own (Ty.slc true Ty.bool) o1000026)]
theorem Ehalves_l9 (v0 : List Int) (v7 : Int) (v8 : Int) (v27 : Int) (v28 : Int) (o1000026 : List Bool) : exec Ehalves 1000 (.code (loopAt (bodyOf Try.prog 33) 9).1 :: .inLoop (loopAt (bodyOf Try.prog 33) 9).1 :: (loopAt (bodyOf Try.prog 33) 9).2) (Ehalves_s9 v0 v7 v8 v27 v28 o1000026) =
  cond (decide (v28 < v27)) (.need ((0 : Int) ≤ v28 ∧ v28 < (↑(List.length o1000026) : Int)) (cond (!List.getD o1000026 (Int.toNat v28) false) (.need (inK IntKind.i64 (v28 + (1 : Int))) (.cut (loopAt (bodyOf Try.prog 33) 9).1 (loopAt (bodyOf Try.prog 33) 9).2 (St.mk [(0, AV.val (Ty.slc false (Ty.int IntKind.i64)) v0), (6, AV.at_ 1000026 []), (7, AV.val (Ty.int IntKind.i64) v7), (8, AV.val (Ty.int IntKind.i64) v8), (26, AV.at_ 1000026 []), (27, AV.val (Ty.int IntKind.i64) v27), (28, AV.val (Ty.int IntKind.i64) (v28 + (1 : Int)))] [(1000026, Ent.own (Ty.slc true Ty.bool) o1000026)]))) (.need (sendPre v0 v28 (1 : Int) v8) (.need (sendPre v0 v28 (-1 : Int) v8) (.need (inK IntKind.i64 (Prod.fst (sendFn v0 v28 (1 : Int) v8) + Prod.fst (sendFn v0 v28 (-1 : Int) v8))) (.need (inK IntKind.i64 (v7 + (Prod.fst (sendFn v0 v28 (1 : Int) v8) + Prod.fst (sendFn v0 v28 (-1 : Int) v8)))) (cond (Prod.fst (Prod.snd (sendFn v0 v28 (1 : Int) v8))) (.need ((0 : Int) ≤ v28 ∧ v28 < (↑(List.length o1000026) : Int)) (.need (inK IntKind.i64 (v28 + (1 : Int))) (.cut (loopAt (bodyOf Try.prog 33) 9).1 (loopAt (bodyOf Try.prog 33) 9).2 (St.mk [(0, AV.val (Ty.slc false (Ty.int IntKind.i64)) v0), (6, AV.at_ 1000026 []), (7, AV.val (Ty.int IntKind.i64) (v7 + (Prod.fst (sendFn v0 v28 (1 : Int) v8) + Prod.fst (sendFn v0 v28 (-1 : Int) v8)))), (8, AV.val (Ty.int IntKind.i64) v8), (26, AV.at_ 1000026 []), (27, AV.val (Ty.int IntKind.i64) v27), (28, AV.val (Ty.int IntKind.i64) (v28 + (1 : Int)))] [(1000026, Ent.own (Ty.slc true Ty.bool) (List.set o1000026 (Int.toNat v28) (Prod.fst (Prod.snd (sendFn v0 v28 (-1 : Int) v8)))))])))) (.need ((0 : Int) ≤ v28 ∧ v28 < (↑(List.length o1000026) : Int)) (.need (inK IntKind.i64 (v28 + (1 : Int))) (.cut (loopAt (bodyOf Try.prog 33) 9).1 (loopAt (bodyOf Try.prog 33) 9).2 (St.mk [(0, AV.val (Ty.slc false (Ty.int IntKind.i64)) v0), (6, AV.at_ 1000026 []), (7, AV.val (Ty.int IntKind.i64) (v7 + (Prod.fst (sendFn v0 v28 (1 : Int) v8) + Prod.fst (sendFn v0 v28 (-1 : Int) v8)))), (8, AV.val (Ty.int IntKind.i64) v8), (26, AV.at_ 1000026 []), (27, AV.val (Ty.int IntKind.i64) v27), (28, AV.val (Ty.int IntKind.i64) (v28 + (1 : Int)))] [(1000026, Ent.own (Ty.slc true Ty.bool) (List.set o1000026 (Int.toNat v28) false))]))))))))))) (cond (decide ((↑(List.length v0) : Int) ≤ v8)) (.need (True) (.ret ((idxB o1000026 true, v7, (0 : Int), ())))) (.need (inK IntKind.i64 (v8 * (2 : Int))) (.cut (loopAt (bodyOf Try.prog 33) 8).1 (loopAt (bodyOf Try.prog 33) 8).2 (St.mk [(0, AV.val (Ty.slc false (Ty.int IntKind.i64)) v0), (6, AV.at_ 1000006 []), (7, AV.val (Ty.int IntKind.i64) v7), (8, AV.val (Ty.int IntKind.i64) (v8 * (2 : Int)))] [(1000006, Ent.own (Ty.slc true Ty.bool) o1000026)])))) := by kernel_rfl
theorem chalves_valid : chalves.Valid Try.prog 33 := by
  refine Ctr.valid_of Ehalves_ok rfl rfl Try.func33 (c := bodyOf Try.prog 33) rfl rfl Fhalves_ok rfl ?_
  rintro ⟨(l : List Int), ⟨⟩⟩ - -
  refine exec_sound (n := 1000) Ehalves_ok Fhalves_ok ?_
  refine holds_of_eq (Ehalves_t l) ?_
  simp only [holds_cond, Tree.holds, true_and, true_implies, decide_eq_true_eq, decide_eq_false_iff_not, Bool.not_eq_true', Bool.not_eq_false', Int.toNat_natCast, inK_i64, List.length_set, List.length_cons, List.length_nil]
  refine ⟨fun h => ?_, fun hok => ?_⟩
  · show ((0, 0, rcheck l, ()) : Int × Int × Int × Unit) = halvesR l
    rw [halvesR, if_pos h]
  have hr : RingOk l := rcheck_iff.1 (Decidable.not_not.1 hok)
  have hp := hr.pos
  have hle := hr.le
  refine ⟨⟨rfl, by omega, by omega⟩, fun _ => ?_⟩
  refine Reach.loopI Ehalves_ok Fhalves_ok (fun p : Nat × Nat × List Bool × Int => Ehalves_s8 l p.2.2.2 (p.2.1 : Int) p.2.2.1)
    (fun p => p.1 ≤ 5 ∧ p.2.1 = 2 ^ p.1 ∧ p.2.2.1.length = l.length ∧ 0 ≤ p.2.2.2 ∧ p.2.2.2 ≤ (p.1 : Int) * 10000 ∧ halvesB l = hGo l (6 - p.1) p.2.1 p.2.2.1 p.2.2.2)
    (fun p => 6 - p.1) 1000 (fun _ => ⟨uniq_of rfl, uniq_of rfl⟩) ?_ (0, 1, List.replicate l.length true, 0) ⟨by show 0 ≤ 5; omega, rfl, List.length_replicate, Int.le_refl _, by show (0 : Int) ≤ ((0 : Nat) : Int) * 10000; omega, rfl⟩
  rintro ⟨j, m, act, cnt⟩ ⟨k1, k2, k3, k4, k5, k6⟩ - ih
  have k1 : j ≤ 5 := k1
  have k2 : m = 2 ^ j := k2
  have k3 : act.length = l.length := k3
  have k4 : 0 ≤ cnt := k4
  have k5 : cnt ≤ (j : Int) * 10000 := k5
  have k6 : halvesB l = hGo l (6 - j) m act cnt := k6
  have hm : 1 ≤ m ∧ m ≤ 32 ∧ (j = 5 → m = 32) := by
    rw [k2]; exact pow_small j k1
  have hc : ∀ i, i ≤ l.length → 0 ≤ sumN (costB l m act) i ∧ sumN (costB l m act) i ≤ 3840 := fun i hi => by
    have h1 := sumN_le (f := costB l m act) (g := fun _ => 128) (n := i) (fun t ht => by have := costB_le (act := act) (show t < l.length by omega) hm.1; omega)
    have h2 := sumN_le (g := costB l m act) (f := fun _ => 0) (n := i) (fun t ht => (costB_le (act := act) (show t < l.length by omega) hm.1).1)
    rw [sumN_const] at h1 h2
    omega
  obtain ⟨f, hf⟩ : ∃ f, 6 - j = f + 1 := ⟨5 - j, by omega⟩
  rw [hf, hGo] at k6
  refine holds_of_eq (Ehalves_l8 ..) ?_
  simp only [holds_cond, Tree.holds, true_and, true_implies, decide_eq_true_eq, decide_eq_false_iff_not, Bool.not_eq_true', Bool.not_eq_false', Int.toNat_natCast, inK_i64, List.length_set, List.length_cons, List.length_nil]
  refine Reach.loopI Ehalves_ok Fhalves_ok (fun p : Nat × List Bool × Int => Ehalves_s9 l p.2.2 (m : Int) (act.length : Int) (p.1 : Int) p.2.1)
    (fun p => p.1 ≤ l.length ∧ p.2.1 = midB l m act p.1 ∧ p.2.2 = cnt + sumN (costB l m act) p.1)
    (fun p => l.length - p.1) 1000 (fun _ => ⟨uniq_of rfl, uniq_of rfl⟩) ?_ (0, act, cnt) ⟨Nat.zero_le _, (mid_zero k3).symm, by show cnt = cnt + 0; omega⟩
  rintro ⟨i, o, v⟩ ⟨q1, q2, q3⟩ - ih2
  have q1 : i ≤ l.length := q1
  have q2 : o = midB l m act i := q2
  have q3 : v = cnt + sumN (costB l m act) i := q3
  subst q2
  refine holds_of_eq (Ehalves_l9 ..) ?_
  have b1 := hc i q1
  simp only [holds_cond, Tree.holds, true_and, true_implies, decide_eq_true_eq, decide_eq_false_iff_not, Bool.not_eq_true', Bool.not_eq_false', Int.toNat_natCast, inK_i64, List.length_set, List.length_cons, List.length_nil, mid_len, sendFn_r, sendFn_l]
  refine ⟨fun h => ?_, fun h => ?_⟩
  · have hi : i < l.length := by omega
    have b2 := hc (i + 1) hi
    have b3 := costB_le (act := act) hi hm.1
    have s1 := send_spec (s := true) hi hm.1
    have s2 := send_spec (s := false) hi hm.1
    have hs : sumN (costB l m act) (i + 1) = sumN (costB l m act) i + costB l m act i := rfl
    rw [mid_at hi, if_neg (by omega)]
    refine ⟨by omega, fun _ => ⟨fun c => ⟨by omega, fun _ => ?_⟩, fun c => ⟨⟨hr, by omega, by omega, .inl rfl, by omega, by omega⟩, fun _ => ⟨⟨hr, by omega, by omega, .inr rfl, by omega, by omega⟩, fun _ => ⟨by omega, fun _ => ⟨by omega, fun _ =>
      ⟨fun c2 => ⟨by omega, fun _ => ⟨by omega, fun _ => ?_⟩⟩, fun c2 => ⟨by omega, fun _ => ⟨by omega, fun _ => ?_⟩⟩⟩⟩⟩⟩⟩⟩⟩
    · have e0 : costB l m act i = 0 := by rw [costB, if_neg (by rw [c]; decide)]
      exact ih2 (i + 1, midB l m act i, v) ⟨hi, mid_skip hi c, by show v = cnt + sumN (costB l m act) (i + 1); omega⟩ (by show l.length - (i + 1) < l.length - i; omega)
    · have e0 : costB l m act i = (sendF l true i m).1 + (sendF l false i m).1 := by rw [costB, if_pos c]
      exact ih2 (i + 1, (midB l m act i).set i (sendF l false i m).2, v + ((sendF l true i m).1 + (sendF l false i m).1)) ⟨hi, mid_next hi _ (by rw [newB, c, c2]; rfl), by show v + _ = cnt + sumN (costB l m act) (i + 1); omega⟩ (by show l.length - (i + 1) < l.length - i; omega)
    · have e0 : costB l m act i = (sendF l true i m).1 + (sendF l false i m).1 := by rw [costB, if_pos c]
      exact ih2 (i + 1, (midB l m act i).set i false, v + ((sendF l true i m).1 + (sendF l false i m).1)) ⟨hi, mid_next hi _ (by rw [newB, c, c2]; rfl), by show v + _ = cnt + sumN (costB l m act) (i + 1); omega⟩ (by show l.length - (i + 1) < l.length - i; omega)
  · have hi : i = l.length := by omega
    subst hi
    have ec : v = cnt + costF l m act := q3
    rw [mid_end]
    refine ⟨fun c => ?_, fun c => ⟨by omega, fun _ => ?_⟩⟩
    · rw [if_pos (by omega)] at k6
      show ((idxB (stepB l m act) true, v, 0, ()) : Int × Int × Int × Unit) = halvesR l
      rw [halvesR, if_neg hok, k6, ec]
    · rw [if_neg (by omega)] at k6
      rw [show (m : Int) * 2 = ((2 * m : Nat) : Int) by omega]
      have hj : j ≠ 5 := fun e => by have := hm.2.2 e; omega
      refine ih (j + 1, 2 * m, stepB l m act, v) ⟨by show j + 1 ≤ 5; omega, by show 2 * m = 2 ^ (j + 1); rw [Nat.pow_succ, k2]; omega, by show (stepB l m act).length = _; simp [stepB], by show 0 ≤ v; omega, by show v ≤ ((j + 1 : Nat) : Int) * 10000; omega, ?_⟩ (by show 6 - (j + 1) < 6 - j; omega)
      show halvesB l = hGo l (6 - (j + 1)) (2 * m) (stepB l m act) v
      rw [k6, ec, show 6 - (j + 1) = f by omega]
end Go.Proofs.Ytcafiieffenohaa
