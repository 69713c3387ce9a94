/- All cuts: the contract of cut.All, and the laws CutSteps and CutMany. -/
import Derived.Test.YtcafiieffenohaaCutA
namespace Go.Proofs.Ytcafiieffenohaa
open Go.Ex
set_option maxRecDepth 100000
def allR (h : List Ev) : List (List Int) × Int × Unit := if scheck h ≠ 0 then ([], scheck h, ()) else if 4096 < room h then ([], 2, ()) else (allL h, 0, ())
def call : Ctr := { ps := [.v Es], rs := [.slc true Vec, I64], pre := fun _ => True, fn := fun x => allR x.1, out := fun _ => () }
noncomputable def Eall : Env := { P := Try.prog, tt := tt, ctr := [(42, cscheck), (91, ccounts), (89, cvecs), (88, cgrown)], res := [Go.ResultVar.tmp 2, Go.ResultVar.tmp 3], rs := [Ty.slc true Vec, Ty.int IntKind.i64], ps := [PK.v Es], cuts := [(7, [(0, none), (5, none), (6, none), (20, none), (21, none)]), (17, [(5, none), (9, none), (10, some (Ty.slc true Vec)), (11, none), (33, none), (34, none)]), (21, [(5, none), (9, none), (10, some (Ty.slc true Vec)), (11, none), (12, none), (33, none), (34, none)])], nt := 65 }
theorem Eall_ok : EnvOk Eall := envOk tt_ok ⟨cscheck_valid, ccounts_valid, cvecs_valid, cgrown_valid, trivial⟩
theorem Fall_ok : FnOk Eall Try.f76 := ⟨rfl, rfl⟩
theorem Eall_t (x0 : List (Int × Int × Int × Unit)) : exec Eall 1000 [.code (bodyOf Try.prog 76)] (initSt call.ps ((x0, ()))) =
  .need (True) (cond (decide (scheck x0 ≠ (0 : Int))) (.ret (([], scheck x0, ()))) (.need (hPre x0) (.cut (loopAt (bodyOf Try.prog 76) 7).1 (loopAt (bodyOf Try.prog 76) 7).2 (St.mk [(0, AV.val Es x0), (5, AV.ptr 5 []), (6, AV.val (Ty.int IntKind.i64) (1 : Int)), (20, AV.val Vec (cntV x0 (List.length x0))), (21, AV.val (Ty.int IntKind.i64) (0 : Int))] [(5, Ent.var Vec (cntV x0 (List.length x0)))])))) := by kernel_rfl
def Eall_s7 (v0 : List (Int × Int × Int × Unit)) (v6 : Int) (v20 : List Int) (v21 : Int) (o5 : List Int) : St := St.mk [(0, AV.val Es v0), (5, AV.ptr 5 []), (6, AV.val (Ty.int IntKind.i64) v6), (20, AV.val Vec v20), (21, AV.val (Ty.int IntKind.i64) v21)] [(5, Ent.var Vec o5)]
theorem Eall_l7 (v0 : List (Int × Int × Int × Unit)) (v6 : Int) (v20 : List Int) (v21 : Int) (o5 : List Int) : exec Eall 1000 (.code (loopAt (bodyOf Try.prog 76) 7).1 :: .inLoop (loopAt (bodyOf Try.prog 76) 7).1 :: (loopAt (bodyOf Try.prog 76) 7).2) (Eall_s7 v0 v6 v20 v21 o5) =
  cond (decide (v21 < (6 : Int))) (.need ((0 : Int) ≤ v21 ∧ v21 < (↑6 : Int)) (.need (inK IntKind.i64 (List.getD v20 (Int.toNat v21) (0 : Int) + (1 : Int))) (.need (inK IntKind.i64 (v6 * (List.getD v20 (Int.toNat v21) (0 : Int) + (1 : Int)))) (.need (inK IntKind.i64 (v21 + (1 : Int))) (.cut (loopAt (bodyOf Try.prog 76) 7).1 (loopAt (bodyOf Try.prog 76) 7).2 (St.mk [(0, AV.val Es v0), (5, AV.ptr 5 []), (6, AV.val (Ty.int IntKind.i64) (v6 * (List.getD v20 (Int.toNat v21) (0 : Int) + (1 : Int)))), (20, AV.val Vec v20), (21, AV.val (Ty.int IntKind.i64) (v21 + (1 : Int)))] [(5, Ent.var Vec o5)])))))) (cond (decide ((4096 : Int) < v6)) (.ret (([], (2 : Int), ()))) (.need (hPre v0) (.cut (loopAt (bodyOf Try.prog 76) 17).1 (loopAt (bodyOf Try.prog 76) 17).2 (St.mk [(5, AV.ptr 5 []), (9, AV.ptr 9 []), (10, AV.at_ 1000010 []), (11, AV.ptr 11 []), (33, AV.val (Ty.int IntKind.i64) v6), (34, AV.val (Ty.int IntKind.i64) (0 : Int))] [(5, Ent.var Vec o5), (9, Ent.var (Ty.arr 6 (Ty.slc true Vec)) (vecsL v0 (List.length v0))), (11, Ent.var Vec [(0 : Int), (0 : Int), (0 : Int), (0 : Int), (0 : Int), (0 : Int)]), (1000010, Ent.own (Ty.slc true Vec) [])])))) := by kernel_rfl
def Eall_s17 (v33 : Int) (v34 : Int) (o5 : List Int) (o9 : List (List (List Int))) (o11 : List Int) (o1000010 : List (List Int)) : St := St.mk [(5, AV.ptr 5 []), (9, AV.ptr 9 []), (10, AV.at_ 1000010 []), (11, AV.ptr 11 []), (33, AV.val (Ty.int IntKind.i64) v33), (34, AV.val (Ty.int IntKind.i64) v34)] [(5, Ent.var Vec o5), (9, Ent.var (Ty.arr 6 (Ty.slc true Vec)) o9), (11, Ent.var Vec o11), (1000010, Ent.own (Ty.slc true Vec) o1000010)]
theorem Eall_l17 (v33 : Int) (v34 : Int) (o5 : List Int) (o9 : List (List (List Int))) (o11 : List Int) (o1000010 : List (List Int)) : exec Eall 1000 (.code (loopAt (bodyOf Try.prog 76) 17).1 :: .inLoop (loopAt (bodyOf Try.prog 76) 17).1 :: (loopAt (bodyOf Try.prog 76) 17).2) (Eall_s17 v33 v34 o5 o9 o11 o1000010) =
  cond (decide (v34 < v33)) (.need (grPre o9 o11) (cond (eqD (Ty.arr 6 I64) (grGo o9 o11 6) o11) (.need (List.length o1000010 + List.length (List.set [[(0 : Int), (0 : Int), (0 : Int), (0 : Int), (0 : Int), (0 : Int)]] (Int.toNat (↑0 : Int)) o11) ≤ 140737488355328 ∧ (List.length o1000010 + List.length (List.set [[(0 : Int), (0 : Int), (0 : Int), (0 : Int), (0 : Int), (0 : Int)]] (Int.toNat (↑0 : Int)) o11)) * Ty.wb Vec ≤ 140737488355328) (.cut (loopAt (bodyOf Try.prog 76) 21).1 (loopAt (bodyOf Try.prog 76) 21).2 (St.mk [(5, AV.ptr 5 []), (9, AV.ptr 9 []), (10, AV.at_ 1000010 []), (11, AV.ptr 11 []), (12, AV.val (Ty.int IntKind.i64) (5 : Int)), (33, AV.val (Ty.int IntKind.i64) v33), (34, AV.val (Ty.int IntKind.i64) v34)] [(5, Ent.var Vec o5), (9, Ent.var (Ty.arr 6 (Ty.slc true Vec)) o9), (11, Ent.var Vec o11), (1000010, Ent.own (Ty.slc true Vec) (o1000010 ++ List.set [[(0 : Int), (0 : Int), (0 : Int), (0 : Int), (0 : Int), (0 : Int)]] (Int.toNat (↑0 : Int)) o11))]))) (.cut (loopAt (bodyOf Try.prog 76) 21).1 (loopAt (bodyOf Try.prog 76) 21).2 (St.mk [(5, AV.ptr 5 []), (9, AV.ptr 9 []), (10, AV.at_ 1000010 []), (11, AV.ptr 11 []), (12, AV.val (Ty.int IntKind.i64) (5 : Int)), (33, AV.val (Ty.int IntKind.i64) v33), (34, AV.val (Ty.int IntKind.i64) v34)] [(5, Ent.var Vec o5), (9, Ent.var (Ty.arr 6 (Ty.slc true Vec)) o9), (11, Ent.var Vec o11), (1000010, Ent.own (Ty.slc true Vec) o1000010)])))) (.ret ((o1000010, (0 : Int), ()))) := by kernel_rfl
def Eall_s21 (v12 : Int) (v33 : Int) (v34 : Int) (o5 : List Int) (o9 : List (List (List Int))) (o11 : List Int) (o1000010 : List (List Int)) : St := St.mk [(5, AV.ptr 5 []), (9, AV.ptr 9 []), (10, AV.at_ 1000010 []), (11, AV.ptr 11 []), (12, AV.val (Ty.int IntKind.i64) v12), (33, AV.val (Ty.int IntKind.i64) v33), (34, AV.val (Ty.int IntKind.i64) v34)] [(5, Ent.var Vec o5), (9, Ent.var (Ty.arr 6 (Ty.slc true Vec)) o9), (11, Ent.var Vec o11), (1000010, Ent.own (Ty.slc true Vec) o1000010)]
theorem Eall_l21 (v12 : Int) (v33 : Int) (v34 : Int) (o5 : List Int) (o9 : List (List (List Int))) (o11 : List Int) (o1000010 : List (List Int)) : exec Eall 1000 (.code (loopAt (bodyOf Try.prog 76) 21).1 :: .inLoop (loopAt (bodyOf Try.prog 76) 21).1 :: (loopAt (bodyOf Try.prog 76) 21).2) (Eall_s21 v12 v33 v34 o5 o9 o11 o1000010) =
  cond (decide ((0 : Int) ≤ v12)) (.need ((0 : Int) ≤ v12 ∧ v12 < (↑6 : Int)) (.need ((0 : Int) ≤ v12 ∧ v12 < (↑6 : Int)) (cond (decide (List.getD o11 (Int.toNat v12) (0 : Int) < List.getD o5 (Int.toNat v12) (0 : Int))) (.need ((0 : Int) ≤ v12 ∧ v12 < (↑6 : Int)) (.need (inK IntKind.i64 (List.getD o11 (Int.toNat v12) (0 : Int) + (1 : Int))) (.need ((0 : Int) ≤ v12 ∧ v12 < (↑6 : Int)) (.need (inK IntKind.i64 (v34 + (1 : Int))) (.cut (loopAt (bodyOf Try.prog 76) 17).1 (loopAt (bodyOf Try.prog 76) 17).2 (St.mk [(5, AV.ptr 5 []), (9, AV.ptr 9 []), (10, AV.at_ 1000010 []), (11, AV.ptr 11 []), (33, AV.val (Ty.int IntKind.i64) v33), (34, AV.val (Ty.int IntKind.i64) (v34 + (1 : Int)))] [(5, Ent.var Vec o5), (9, Ent.var (Ty.arr 6 (Ty.slc true Vec)) o9), (11, Ent.var Vec (List.set o11 (Int.toNat v12) (List.getD o11 (Int.toNat v12) (0 : Int) + (1 : Int)))), (1000010, Ent.own (Ty.slc true Vec) o1000010)])))))) (.need ((0 : Int) ≤ v12 ∧ v12 < (↑6 : Int)) (.need (inK IntKind.i64 (v12 - (1 : Int))) (.cut (loopAt (bodyOf Try.prog 76) 21).1 (loopAt (bodyOf Try.prog 76) 21).2 (St.mk [(5, AV.ptr 5 []), (9, AV.ptr 9 []), (10, AV.at_ 1000010 []), (11, AV.ptr 11 []), (12, AV.val (Ty.int IntKind.i64) (v12 - (1 : Int))), (33, AV.val (Ty.int IntKind.i64) v33), (34, AV.val (Ty.int IntKind.i64) v34)] [(5, Ent.var Vec o5), (9, Ent.var (Ty.arr 6 (Ty.slc true Vec)) o9), (11, Ent.var Vec (List.set o11 (Int.toNat v12) (0 : Int))), (1000010, Ent.own (Ty.slc true Vec) o1000010)]))))))) (.need (inK IntKind.i64 (v34 + (1 : Int))) (.cut (loopAt (bodyOf Try.prog 76) 17).1 (loopAt (bodyOf Try.prog 76) 17).2 (St.mk [(5, AV.ptr 5 []), (9, AV.ptr 9 []), (10, AV.at_ 1000010 []), (11, AV.ptr 11 []), (33, AV.val (Ty.int IntKind.i64) v33), (34, AV.val (Ty.int IntKind.i64) (v34 + (1 : Int)))] [(5, Ent.var Vec o5), (9, Ent.var (Ty.arr 6 (Ty.slc true Vec)) o9), (11, Ent.var Vec o11), (1000010, Ent.own (Ty.slc true Vec) o1000010)]))) := by kernel_rfl
theorem Tv_61 {h : List Ev} (hl : h.length ≤ 60) {p : Nat} (hp : p ≤ 6) : 1 ≤ Tv (cntV h h.length) p ∧ Tv (cntV h h.length) p ≤ 51520374361 := by
  refine ⟨Tv_pos cntV_nn hp, Int.le_trans (Tv_le hl hp) ?_⟩
  match p, hp with
  | 0, _ | 1, _ | 2, _ | 3, _ | 4, _ | 5, _ | 6, _ => decide
theorem call_valid : call.Valid Try.prog 76 := by
  refine Ctr.valid_of Eall_ok rfl rfl Try.func76 (c := bodyOf Try.prog 76) rfl rfl Fall_ok rfl ?_
  rintro ⟨(h : List Ev), ⟨⟩⟩ - -
  refine exec_sound (n := 1000) Eall_ok Fall_ok ?_
  refine holds_of_eq (Eall_t h) ?_
  simp only [holds_cond, Tree.holds, true_and, true_implies, decide_eq_true_eq, decide_eq_false_iff_not, Bool.not_eq_true', Bool.not_eq_false', Int.toNat_natCast, inK_i64, List.length_set, List.length_cons, List.length_nil]
  refine ⟨fun a => ?_, fun a => ?_⟩
  · show ((_, _, ()) : List (List Int) × Int × Unit) = allR h; rw [allR, if_pos a]
  have hh : scheck h = 0 := Decidable.of_not_not a
  have hl := (scheck_ok hh).1
  refine ⟨hh, fun _ => ?_⟩
  refine Reach.loopI Eall_ok Fall_ok (fun i : Nat => Eall_s7 h (Tv (cntV h h.length) i) (cntV h h.length) (i : Int) (cntV h h.length)) (fun i => i ≤ 6) (fun i => 6 - i) 1000 (fun _ => ⟨uniq_of rfl, uniq_of rfl⟩) ?_ 0 (by omega)
  rintro i hi - ih
  refine holds_of_eq (Eall_l7 ..) ?_
  simp only [holds_cond, Tree.holds, true_and, true_implies, decide_eq_true_eq, decide_eq_false_iff_not, Bool.not_eq_true', Bool.not_eq_false', Int.toNat_natCast, inK_i64, List.length_set, List.length_cons, List.length_nil]
  refine ⟨fun b => ?_, fun b => ?_⟩
  · have hi6 : i < 6 := by omega
    have h9 := ih (i + 1) (by omega) (by omega)
    rw [Tv] at h9
    have t1 := Tv_61 hl (p := i + 1) (by omega)
    rw [Tv] at t1
    have hcl := cnt_le' (h := h) (p := i) (i := h.length)
    have e := cntV_at (h := h) (i := h.length) (p := i) hi6
    exact ⟨by omega, fun _ => ⟨by omega, fun _ => ⟨by omega, fun _ => ⟨by omega, fun _ => h9⟩⟩⟩⟩
  have hi6 : i = 6 := by omega
  subst hi6
  have hr61 := Tv_61 hl (Nat.le_refl 6)
  refine ⟨fun b2 => ?_, fun b2 => ⟨hh, fun _ => ?_⟩⟩
  · show ((_, _, ()) : List (List Int) × Int × Unit) = allR h; rw [allR, if_neg (by simp [hh]), if_pos (show 4096 < room h from b2)]
  have hres : allR h = (allL h, 0, ()) := by rw [allR, if_neg (by simp [hh]), if_neg (show ¬ 4096 < room h from b2)]
  have hrm : Tv (cntV h h.length) 6 = room h := rfl
  rw [hrm] at b2 ⊢
  refine Reach.loopI Eall_ok Fall_ok (fun k : Nat => Eall_s17 (room h) (k : Int) (cntV h h.length) (vecsL h h.length) (odoN (cntV h h.length) k) (allTo h k)) (fun k => (k : Int) ≤ room h) (fun k => (room h).toNat - k) 1000 (fun _ => ⟨uniq_of rfl, uniq_of rfl⟩) ?_ 0 (by have := room_pos hh; omega)
  rintro k hk - ihk
  refine holds_of_eq (Eall_l17 ..) ?_
  by_cases hkr : (k : Int) < room h
  · obtain ⟨bx, bv⟩ := odoN_spec cntV_nn (m := cntV h h.length) (k := k) hkr
    have hcut := box_cut.1 bx
    have hlen := allTo_len (h := h) (k := k)
    have hgr : grPre (vecsL h h.length) (odoN (cntV h h.length) k) := fun p hp h0 => by rw [vecsL_at hp, vecsOf_len]; exact hcut.hi p hp
    -- the next cut
    have hin : ∀ (l' : List (List Int)), l' = allTo h (k + 1) → ∀ x : Nat × List Int, (x.1 ≤ 6 ∧ Box (cntV h h.length) x.2 ∧ odoGo (cntV h h.length) x.2 x.1 = odoN (cntV h h.length) (k + 1)) → _ := fun l' hl' =>
      Reach.loopI Eall_ok Fall_ok (fun x : Nat × List Int => Eall_s21 ((x.1 : Int) - 1) (room h) (k : Int) (cntV h h.length) (vecsL h h.length) x.2 l') (fun x => x.1 ≤ 6 ∧ Box (cntV h h.length) x.2 ∧ odoGo (cntV h h.length) x.2 x.1 = odoN (cntV h h.length) (k + 1)) (fun x => x.1) 1000 (fun _ => ⟨uniq_of rfl, uniq_of rfl⟩) (by
        rintro ⟨p, cc⟩ ⟨g1, g2, g3⟩ - ihp
        have g1 : p ≤ 6 := g1
        have g2 : Box (cntV h h.length) cc := g2
        have g3 : odoGo (cntV h h.length) cc p = odoN (cntV h h.length) (k + 1) := g3
        refine holds_of_eq (Eall_l21 ..) ?_
        have h9 := ihk (k + 1) (by omega) (by omega)
        rw [← hl'] at h9
        cases p with
        | zero =>
          rw [show odoGo (cntV h h.length) cc 0 = cc from rfl] at g3
          rw [← g3] at h9
          simp only [holds_cond, Tree.holds, true_and, true_implies, decide_eq_true_eq, decide_eq_false_iff_not, Bool.not_eq_true', Bool.not_eq_false', Int.toNat_natCast, inK_i64, List.length_set, List.length_cons, List.length_nil]
          exact ⟨fun b => absurd b (by omega), fun b => ⟨by omega, fun _ => h9⟩⟩
        | succ q =>
          have e : ((q + 1 : Nat) : Int) - 1 = (q : Int) := by omega
          simp only [e]
          have hq := g2.lo q (by omega)
          have hq2 := g2.hi q (by omega)
          have hcl := cnt_le' (h := h) (p := q) (i := h.length)
          have ec := cntV_at (h := h) (i := h.length) (p := q) (by omega)
          rw [odoGo] at g3
          simp only [holds_cond, Tree.holds, true_and, true_implies, decide_eq_true_eq, decide_eq_false_iff_not, Bool.not_eq_true', Bool.not_eq_false', Int.toNat_natCast, inK_i64, List.length_set, List.length_cons, List.length_nil]
          refine ⟨fun b => ⟨by omega, fun _ => ⟨by omega, fun _ => ⟨fun b3 => ?_, fun b3 => ?_⟩⟩⟩, fun b => absurd b (by omega)⟩
          · rw [if_pos b3] at g3
            rw [← g3] at h9
            generalize cc.getD q 0 = z at hq hq2 b3 h9 ⊢
            exact ⟨by omega, fun _ => ⟨by omega, fun _ => ⟨by omega, fun _ => ⟨by omega, fun _ => h9⟩⟩⟩⟩
          · rw [if_neg b3] at g3
            have h8 := ihp (q, cc.set q 0) ⟨by show q ≤ 6; omega, g2.set (by omega) (by omega) (by omega), g3⟩ (by show q < q + 1; omega)
            exact ⟨by omega, fun _ => ⟨by omega, fun _ => h8⟩⟩)
    rw [show eqD (Ty.arr 6 (Ty.int IntKind.i64)) (grGo (vecsL h h.length) (odoN (cntV h h.length) k) 6) (odoN (cntV h h.length) k) = okB h (odoN (cntV h h.length) k) from eqDL_iff]
    simp only [holds_cond, Tree.holds, true_and, true_implies, decide_eq_true_eq, decide_eq_false_iff_not, Bool.not_eq_true', Bool.not_eq_false', Int.toNat_natCast, inK_i64, List.length_set, List.length_cons, List.length_nil, wb_vec]
    refine ⟨fun _ => ⟨hgr, fun _ => ⟨fun b3 => ⟨by omega, fun _ => ?_⟩, fun b3 => ?_⟩⟩, fun b => absurd hkr b⟩
    · exact hin _ (by rw [allTo_succ, if_pos b3]; rfl) (6, odoN (cntV h h.length) k) ⟨Nat.le_refl _, bx, rfl⟩
    · exact hin _ (by rw [allTo_succ, if_neg (by simp [b3])]) (6, odoN (cntV h h.length) k) ⟨Nat.le_refl _, bx, rfl⟩
  · simp only [holds_cond, Tree.holds, true_and, true_implies, decide_eq_true_eq, decide_eq_false_iff_not, Bool.not_eq_true', Bool.not_eq_false', Int.toNat_natCast, inK_i64, List.length_set, List.length_cons, List.length_nil]
    refine ⟨fun b => absurd b hkr, fun b => ?_⟩
    have e : k = (room h).toNat := by omega
    subst e
    show ((_, _, ()) : List (List Int) × Int × Unit) = allR h
    rw [hres]; rfl
theorem allR_ok {h : List Ev} (hz : (allR h).2.1 = 0) : scheck h = 0 ∧ room h ≤ 4096 ∧ allR h = (allL h, 0, ()) := by
  unfold allR at hz ⊢
  split at hz
  · rename_i h1; exact absurd hz h1
  · rename_i h1
    split at hz
    · cases hz
    · rename_i h2
      rw [if_neg h1, if_neg h2]
      exact ⟨Decidable.of_not_not h1, by omega, rfl⟩
theorem allR_bad {h : List Ev} (hz : (allR h).2.1 ≠ 0) : (allR h).1 = [] := by
  unfold allR at hz ⊢
  split
  · rfl
  · split
    · rfl
    · rename_i h1 h2; rw [if_neg h1, if_neg h2] at hz; exact absurd rfl hz
end Go.Proofs.Ytcafiieffenohaa
