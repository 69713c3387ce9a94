/- All cuts: the contract of cut.All, and the laws CutSteps and CutMany. -/
import Derived.Test.YtibpibbnnogdkaaCutL
import Derived.Test.YtibpibbnnogdkaaBase2
namespace Go.Proofs.Ytibpibbnnogdkaa
open Go.Ex
set_option maxRecDepth 100000
def allR (h : List Ev) : List (List Int) × Int × Unit := if scheck h ≠ 0 then ([], scheck h, ()) else if 4096 < room h then ([], 2, ()) else (allL h, 0, ())
def call : Ctr := { ps := [.v Es], rs := [.slc true Vec, I64], pre := fun _ => True, fn := fun x => allR x.1, out := fun _ => () }
noncomputable def Eall : Env := { P := Try.prog, tt := tt, ctr := [(40, cscheck), (60, ccounts), (57, cvecs), (56, cgrown)], res := [Go.ResultVar.tmp 2, Go.ResultVar.tmp 3], rs := [Ty.slc true Vec, Ty.int IntKind.i64], ps := [PK.v Es], cuts := [(7, [(0, none), (5, none), (6, none), (20, none), (21, none)]), (17, [(5, none), (9, none), (10, some (Ty.slc true Vec)), (11, none), (33, none), (34, none)]), (21, [(5, none), (9, none), (10, some (Ty.slc true Vec)), (11, none), (12, none), (33, none), (34, none)])], nt := 65 }
theorem Eall_ok : EnvOk Eall := envOk tt_ok ⟨cscheck_valid, ccounts_valid, cvecs_valid, cgrown_valid, trivial⟩
theorem Fall_ok : FnOk Eall Try.f47 := ⟨rfl, rfl⟩
theorem Eall_t (x0 : List (Int × Int × Int × Unit)) : exec Eall 1000 [.code (bodyOf Try.prog 47)] (initSt call.ps ((x0, ()))) =
  .need (True) (cond (decide (scheck x0 ≠ (0 : Int))) (.ret (([], scheck x0, ()))) (.need (hPre x0) (.cut (loopAt (bodyOf Try.prog 47) 7).1 (loopAt (bodyOf Try.prog 47) 7).2 (St.mk [(0, AV.val Es x0), (5, AV.ptr 5 []), (6, AV.val (Ty.int IntKind.i64) (1 : Int)), (20, AV.val Vec (cntV x0 (List.length x0))), (21, AV.val (Ty.int IntKind.i64) (0 : Int))] [(5, Ent.var Vec (cntV x0 (List.length x0)))])))) := by kernel_rfl
def Eall_s7 (v0 : List (Int × Int × Int × Unit)) (v6 : Int) (v20 : List Int) (v21 : Int) (o5 : List Int) : St := St.mk [(0, AV.val Es v0), (5, AV.ptr 5 []), (6, AV.val (Ty.int IntKind.i64) v6), (20, AV.val Vec v20), (21, AV.val (Ty.int IntKind.i64) v21)] [(5, Ent.var Vec o5)]
theorem Eall_l7 (v0 : List (Int × Int × Int × Unit)) (v6 : Int) (v20 : List Int) (v21 : Int) (o5 : List Int) : exec Eall 1000 (.code (loopAt (bodyOf Try.prog 47) 7).1 :: .inLoop (loopAt (bodyOf Try.prog 47) 7).1 :: (loopAt (bodyOf Try.prog 47) 7).2) (Eall_s7 v0 v6 v20 v21 o5) =
  cond (decide (v21 < (6 : Int))) (.need ((0 : Int) ≤ v21 ∧ v21 < (↑6 : Int)) (.need (inK IntKind.i64 (List.getD v20 (Int.toNat v21) (0 : Int) + (1 : Int))) (.need (inK IntKind.i64 (v6 * (List.getD v20 (Int.toNat v21) (0 : Int) + (1 : Int)))) (.need (inK IntKind.i64 (v21 + (1 : Int))) (.cut (loopAt (bodyOf Try.prog 47) 7).1 (loopAt (bodyOf Try.prog 47) 7).2 (St.mk [(0, AV.val Es v0), (5, AV.ptr 5 []), (6, AV.val (Ty.int IntKind.i64) (v6 * (List.getD v20 (Int.toNat v21) (0 : Int) + (1 : Int)))), (20, AV.val Vec v20), (21, AV.val (Ty.int IntKind.i64) (v21 + (1 : Int)))] [(5, Ent.var Vec o5)])))))) (cond (decide ((4096 : Int) < v6)) (.ret (([], (2 : Int), ()))) (.need (hPre v0) (.cut (loopAt (bodyOf Try.prog 47) 17).1 (loopAt (bodyOf Try.prog 47) 17).2 (St.mk [(5, AV.ptr 5 []), (9, AV.ptr 9 []), (10, AV.at_ 1000010 []), (11, AV.ptr 11 []), (33, AV.val (Ty.int IntKind.i64) v6), (34, AV.val (Ty.int IntKind.i64) (0 : Int))] [(5, Ent.var Vec o5), (9, Ent.var (Ty.arr 6 (Ty.slc true Vec)) (vecsL v0 (List.length v0))), (11, Ent.var Vec [(0 : Int), (0 : Int), (0 : Int), (0 : Int), (0 : Int), (0 : Int)]), (1000010, Ent.own (Ty.slc true Vec) [])])))) := by kernel_rfl
def Eall_s17 (v33 : Int) (v34 : Int) (o5 : List Int) (o9 : List (List (List Int))) (o11 : List Int) (o1000010 : List (List Int)) : St := St.mk [(5, AV.ptr 5 []), (9, AV.ptr 9 []), (10, AV.at_ 1000010 []), (11, AV.ptr 11 []), (33, AV.val (Ty.int IntKind.i64) v33), (34, AV.val (Ty.int IntKind.i64) v34)] [(5, Ent.var Vec o5), (9, Ent.var (Ty.arr 6 (Ty.slc true Vec)) o9), (11, Ent.var Vec o11), (1000010, Ent.own (Ty.slc true Vec) o1000010)]
theorem Eall_l17 (v33 : Int) (v34 : Int) (o5 : List Int) (o9 : List (List (List Int))) (o11 : List Int) (o1000010 : List (List Int)) : exec Eall 1000 (.code (loopAt (bodyOf Try.prog 47) 17).1 :: .inLoop (loopAt (bodyOf Try.prog 47) 17).1 :: (loopAt (bodyOf Try.prog 47) 17).2) (Eall_s17 v33 v34 o5 o9 o11 o1000010) =
  cond (decide (v34 < v33)) (.need (grPre o9 o11) (cond (eqD (Ty.arr 6 I64) (grGo o9 o11 6) o11) (.need (List.length o1000010 + List.length (List.set [[(0 : Int), (0 : Int), (0 : Int), (0 : Int), (0 : Int), (0 : Int)]] (Int.toNat (↑0 : Int)) o11) ≤ 140737488355328 ∧ (List.length o1000010 + List.length (List.set [[(0 : Int), (0 : Int), (0 : Int), (0 : Int), (0 : Int), (0 : Int)]] (Int.toNat (↑0 : Int)) o11)) * Ty.wb Vec ≤ 140737488355328) (.cut (loopAt (bodyOf Try.prog 47) 21).1 (loopAt (bodyOf Try.prog 47) 21).2 (St.mk [(5, AV.ptr 5 []), (9, AV.ptr 9 []), (10, AV.at_ 1000010 []), (11, AV.ptr 11 []), (12, AV.val (Ty.int IntKind.i64) (5 : Int)), (33, AV.val (Ty.int IntKind.i64) v33), (34, AV.val (Ty.int IntKind.i64) v34)] [(5, Ent.var Vec o5), (9, Ent.var (Ty.arr 6 (Ty.slc true Vec)) o9), (11, Ent.var Vec o11), (1000010, Ent.own (Ty.slc true Vec) (o1000010 ++ List.set [[(0 : Int), (0 : Int), (0 : Int), (0 : Int), (0 : Int), (0 : Int)]] (Int.toNat (↑0 : Int)) o11))]))) (.cut (loopAt (bodyOf Try.prog 47) 21).1 (loopAt (bodyOf Try.prog 47) 21).2 (St.mk [(5, AV.ptr 5 []), (9, AV.ptr 9 []), (10, AV.at_ 1000010 []), (11, AV.ptr 11 []), (12, AV.val (Ty.int IntKind.i64) (5 : Int)), (33, AV.val (Ty.int IntKind.i64) v33), (34, AV.val (Ty.int IntKind.i64) v34)] [(5, Ent.var Vec o5), (9, Ent.var (Ty.arr 6 (Ty.slc true Vec)) o9), (11, Ent.var Vec o11), (1000010, Ent.own (Ty.slc true Vec) o1000010)])))) (.ret ((o1000010, (0 : Int), ()))) := by kernel_rfl
def Eall_s21 (v12 : Int) (v33 : Int) (v34 : Int) (o5 : List Int) (o9 : List (List (List Int))) (o11 : List Int) (o1000010 : List (List Int)) : St := St.mk [(5, AV.ptr 5 []), (9, AV.ptr 9 []), (10, AV.at_ 1000010 []), (11, AV.ptr 11 []), (12, AV.val (Ty.int IntKind.i64) v12), (33, AV.val (Ty.int IntKind.i64) v33), (34, AV.val (Ty.int IntKind.i64) v34)] [(5, Ent.var Vec o5), (9, Ent.var (Ty.arr 6 (Ty.slc true Vec)) o9), (11, Ent.var Vec o11), (1000010, Ent.own (Ty.slc true Vec) o1000010)]
theorem Eall_l21 (v12 : Int) (v33 : Int) (v34 : Int) (o5 : List Int) (o9 : List (List (List Int))) (o11 : List Int) (o1000010 : List (List Int)) : exec Eall 1000 (.code (loopAt (bodyOf Try.prog 47) 21).1 :: .inLoop (loopAt (bodyOf Try.prog 47) 21).1 :: (loopAt (bodyOf Try.prog 47) 21).2) (Eall_s21 v12 v33 v34 o5 o9 o11 o1000010) =
  cond (decide ((0 : Int) ≤ v12)) (.need ((0 : Int) ≤ v12 ∧ v12 < (↑6 : Int)) (.need ((0 : Int) ≤ v12 ∧ v12 < (↑6 : Int)) (cond (decide (List.getD o11 (Int.toNat v12) (0 : Int) < List.getD o5 (Int.toNat v12) (0 : Int))) (.need ((0 : Int) ≤ v12 ∧ v12 < (↑6 : Int)) (.need (inK IntKind.i64 (List.getD o11 (Int.toNat v12) (0 : Int) + (1 : Int))) (.need ((0 : Int) ≤ v12 ∧ v12 < (↑6 : Int)) (.need (inK IntKind.i64 (v34 + (1 : Int))) (.cut (loopAt (bodyOf Try.prog 47) 17).1 (loopAt (bodyOf Try.prog 47) 17).2 (St.mk [(5, AV.ptr 5 []), (9, AV.ptr 9 []), (10, AV.at_ 1000010 []), (11, AV.ptr 11 []), (33, AV.val (Ty.int IntKind.i64) v33), (34, AV.val (Ty.int IntKind.i64) (v34 + (1 : Int)))] [(5, Ent.var Vec o5), (9, Ent.var (Ty.arr 6 (Ty.slc true Vec)) o9), (11, Ent.var Vec (List.set o11 (Int.toNat v12) (List.getD o11 (Int.toNat v12) (0 : Int) + (1 : Int)))), (1000010, Ent.own (Ty.slc true Vec) o1000010)])))))) (.need ((0 : Int) ≤ v12 ∧ v12 < (↑6 : Int)) (.need (inK IntKind.i64 (v12 - (1 : Int))) (.cut (loopAt (bodyOf Try.prog 47) 21).1 (loopAt (bodyOf Try.prog 47) 21).2 (St.mk [(5, AV.ptr 5 []), (9, AV.ptr 9 []), (10, AV.at_ 1000010 []), (11, AV.ptr 11 []), (12, AV.val (Ty.int IntKind.i64) (v12 - (1 : Int))), (33, AV.val (Ty.int IntKind.i64) v33), (34, AV.val (Ty.int IntKind.i64) v34)] [(5, Ent.var Vec o5), (9, Ent.var (Ty.arr 6 (Ty.slc true Vec)) o9), (11, Ent.var Vec (List.set o11 (Int.toNat v12) (0 : Int))), (1000010, Ent.own (Ty.slc true Vec) o1000010)]))))))) (.need (inK IntKind.i64 (v34 + (1 : Int))) (.cut (loopAt (bodyOf Try.prog 47) 17).1 (loopAt (bodyOf Try.prog 47) 17).2 (St.mk [(5, AV.ptr 5 []), (9, AV.ptr 9 []), (10, AV.at_ 1000010 []), (11, AV.ptr 11 []), (33, AV.val (Ty.int IntKind.i64) v33), (34, AV.val (Ty.int IntKind.i64) (v34 + (1 : Int)))] [(5, Ent.var Vec o5), (9, Ent.var (Ty.arr 6 (Ty.slc true Vec)) o9), (11, Ent.var Vec o11), (1000010, Ent.own (Ty.slc true Vec) o1000010)]))) := by kernel_rfl
theorem Tv_61 {h : List Ev} (hl : h.length ≤ 60) {p : Nat} (hp : p ≤ 6) : 1 ≤ Tv (cntV h h.length) p ∧ Tv (cntV h h.length) p ≤ 51520374361 := by
  refine ⟨Tv_pos cntV_nn hp, Int.le_trans (Tv_le hl hp) ?_⟩
  match p, hp with
  | 0, _ | 1, _ | 2, _ | 3, _ | 4, _ | 5, _ | 6, _ => decide
theorem call_valid : call.Valid Try.prog 47 := by
  refine Ctr.valid_of Eall_ok rfl rfl Try.func47 (c := bodyOf Try.prog 47) rfl rfl Fall_ok rfl ?_
  rintro ⟨(h : List Ev), ⟨⟩⟩ - -
  refine exec_sound (n := 1000) Eall_ok Fall_ok ?_
  refine holds_of_eq (Eall_t h) ?_
  simp only [holds_cond, Tree.holds, true_and, true_implies, decide_eq_true_eq, decide_eq_false_iff_not, Bool.not_eq_true', Bool.not_eq_false', Int.toNat_natCast, inK_i64, List.length_set, List.length_cons, List.length_nil]
  refine ⟨fun a => ?_, fun a => ?_⟩
  · show ((_, _, ()) : List (List Int) × Int × Unit) = allR h; rw [allR, if_pos a]
  have hh : scheck h = 0 := Decidable.of_not_not a
  have hl := (scheck_ok hh).1
  refine ⟨hh, fun _ => ?_⟩
  refine Reach.loopI Eall_ok Fall_ok (fun i : Nat => Eall_s7 h (Tv (cntV h h.length) i) (cntV h h.length) (i : Int) (cntV h h.length)) (fun i => i ≤ 6) (fun i => 6 - i) 1000 (fun _ => ⟨uniq_of rfl, uniq_of rfl⟩) ?_ 0 (by omega)
  rintro i hi - ih
  refine holds_of_eq (Eall_l7 ..) ?_
  simp only [holds_cond, Tree.holds, true_and, true_implies, decide_eq_true_eq, decide_eq_false_iff_not, Bool.not_eq_true', Bool.not_eq_false', Int.toNat_natCast, inK_i64, List.length_set, List.length_cons, List.length_nil]
  refine ⟨fun b => ?_, fun b => ?_⟩
  · have hi6 : i < 6 := by omega
    have h9 := ih (i + 1) (by omega) (by omega)
    rw [Tv] at h9
    have t1 := Tv_61 hl (p := i + 1) (by omega)
    rw [Tv] at t1
    have hcl := cnt_le' (h := h) (p := i) (i := h.length)
    have e := cntV_at (h := h) (i := h.length) (p := i) hi6
    exact ⟨by omega, fun _ => ⟨by omega, fun _ => ⟨by omega, fun _ => ⟨by omega, fun _ => h9⟩⟩⟩⟩
  have hi6 : i = 6 := by omega
  subst hi6
  have hr61 := Tv_61 hl (Nat.le_refl 6)
  refine ⟨fun b2 => ?_, fun b2 => ⟨hh, fun _ => ?_⟩⟩
  · show ((_, _, ()) : List (List Int) × Int × Unit) = allR h; rw [allR, if_neg (by simp [hh]), if_pos (show 4096 < room h from b2)]
  have hres : allR h = (allL h, 0, ()) := by rw [allR, if_neg (by simp [hh]), if_neg (show ¬ 4096 < room h from b2)]
  have hrm : Tv (cntV h h.length) 6 = room h := rfl
  rw [hrm] at b2 ⊢
  refine Reach.loopI Eall_ok Fall_ok (fun k : Nat => Eall_s17 (room h) (k : Int) (cntV h h.length) (vecsL h h.length) (odoN (cntV h h.length) k) (allTo h k)) (fun k => (k : Int) ≤ room h) (fun k => (room h).toNat - k) 1000 (fun _ => ⟨uniq_of rfl, uniq_of rfl⟩) ?_ 0 (by have := room_pos hh; omega)
  rintro k hk - ihk
  refine holds_of_eq (Eall_l17 ..) ?_
  by_cases hkr : (k : Int) < room h
  · obtain ⟨bx, bv⟩ := odoN_spec cntV_nn (m := cntV h h.length) (k := k) hkr
    have hcut := box_cut.1 bx
    have hlen := allTo_len (h := h) (k := k)
    have hgr : grPre (vecsL h h.length) (odoN (cntV h h.length) k) := fun p hp h0 => by rw [vecsL_at hp, vecsOf_len]; exact hcut.hi p hp
    -- the next cut
    have hin : ∀ (l' : List (List Int)), l' = allTo h (k + 1) → ∀ x : Nat × List Int, (x.1 ≤ 6 ∧ Box (cntV h h.length) x.2 ∧ odoGo (cntV h h.length) x.2 x.1 = odoN (cntV h h.length) (k + 1)) → _ := fun l' hl' =>
      Reach.loopI Eall_ok Fall_ok (fun x : Nat × List Int => Eall_s21 ((x.1 : Int) - 1) (room h) (k : Int) (cntV h h.length) (vecsL h h.length) x.2 l') (fun x => x.1 ≤ 6 ∧ Box (cntV h h.length) x.2 ∧ odoGo (cntV h h.length) x.2 x.1 = odoN (cntV h h.length) (k + 1)) (fun x => x.1) 1000 (fun _ => ⟨uniq_of rfl, uniq_of rfl⟩) (by
        rintro ⟨p, cc⟩ ⟨g1, g2, g3⟩ - ihp
        have g1 : p ≤ 6 := g1
        have g2 : Box (cntV h h.length) cc := g2
        have g3 : odoGo (cntV h h.length) cc p = odoN (cntV h h.length) (k + 1) := g3
        refine holds_of_eq (Eall_l21 ..) ?_
        have h9 := ihk (k + 1) (by omega) (by omega)
        rw [← hl'] at h9
        cases p with
        | zero =>
          rw [show odoGo (cntV h h.length) cc 0 = cc from rfl] at g3
          rw [← g3] at h9
          simp only [holds_cond, Tree.holds, true_and, true_implies, decide_eq_true_eq, decide_eq_false_iff_not, Bool.not_eq_true', Bool.not_eq_false', Int.toNat_natCast, inK_i64, List.length_set, List.length_cons, List.length_nil]
          exact ⟨fun b => absurd b (by omega), fun b => ⟨by omega, fun _ => h9⟩⟩
        | succ q =>
          have e : ((q + 1 : Nat) : Int) - 1 = (q : Int) := by omega
          simp only [e]
          have hq := g2.lo q (by omega)
          have hq2 := g2.hi q (by omega)
          have hcl := cnt_le' (h := h) (p := q) (i := h.length)
          have ec := cntV_at (h := h) (i := h.length) (p := q) (by omega)
          rw [odoGo] at g3
          simp only [holds_cond, Tree.holds, true_and, true_implies, decide_eq_true_eq, decide_eq_false_iff_not, Bool.not_eq_true', Bool.not_eq_false', Int.toNat_natCast, inK_i64, List.length_set, List.length_cons, List.length_nil]
          refine ⟨fun b => ⟨by omega, fun _ => ⟨by omega, fun _ => ⟨fun b3 => ?_, fun b3 => ?_⟩⟩⟩, fun b => absurd b (by omega)⟩
          · rw [if_pos b3] at g3
            rw [← g3] at h9
            generalize cc.getD q 0 = z at hq hq2 b3 h9 ⊢
            exact ⟨by omega, fun _ => ⟨by omega, fun _ => ⟨by omega, fun _ => ⟨by omega, fun _ => h9⟩⟩⟩⟩
          · rw [if_neg b3] at g3
            have h8 := ihp (q, cc.set q 0) ⟨by show q ≤ 6; omega, g2.set (by omega) (by omega) (by omega), g3⟩ (by show q < q + 1; omega)
            exact ⟨by omega, fun _ => ⟨by omega, fun _ => h8⟩⟩)
    rw [show eqD (Ty.arr 6 (Ty.int IntKind.i64)) (grGo (vecsL h h.length) (odoN (cntV h h.length) k) 6) (odoN (cntV h h.length) k) = okB h (odoN (cntV h h.length) k) from eqDL_iff]
    simp only [holds_cond, Tree.holds, true_and, true_implies, decide_eq_true_eq, decide_eq_false_iff_not, Bool.not_eq_true', Bool.not_eq_false', Int.toNat_natCast, inK_i64, List.length_set, List.length_cons, List.length_nil, wb_vec]
    refine ⟨fun _ => ⟨hgr, fun _ => ⟨fun b3 => ⟨by omega, fun _ => ?_⟩, fun b3 => ?_⟩⟩, fun b => absurd hkr b⟩
    · exact hin _ (by rw [allTo_succ, if_pos b3]; rfl) (6, odoN (cntV h h.length) k) ⟨Nat.le_refl _, bx, rfl⟩
    · exact hin _ (by rw [allTo_succ, if_neg (by simp [b3])]) (6, odoN (cntV h h.length) k) ⟨Nat.le_refl _, bx, rfl⟩
  · simp only [holds_cond, Tree.holds, true_and, true_implies, decide_eq_true_eq, decide_eq_false_iff_not, Bool.not_eq_true', Bool.not_eq_false', Int.toNat_natCast, inK_i64, List.length_set, List.length_cons, List.length_nil]
    refine ⟨fun b => absurd b hkr, fun b => ?_⟩
    have e : k = (room h).toNat := by omega
    subst e
    show ((_, _, ()) : List (List Int) × Int × Unit) = allR h
    rw [hres]; rfl
def croom : Ctr := { ps := [.v Es], rs := [I64], pre := fun x => hPre x.1, fn := fun x => (room x.1, ()), out := fun _ => () }
noncomputable def Eroom : Env := { P := Try.prog, tt := tt, ctr := [(52, csizes)], res := [Go.ResultVar.tmp 2], rs := [Ty.int IntKind.i64], ps := [PK.v Es], cuts := [(3, [(3, none), (7, none), (8, none)])], nt := 17 }
theorem Eroom_ok : EnvOk Eroom := envOk tt_ok ⟨csizes_valid, trivial⟩
theorem Froom_ok : FnOk Eroom Try.f50 := ⟨rfl, rfl⟩
theorem Eroom_t (x0 : List (Int × Int × Int × Unit)) : exec Eroom 1000 [.code (bodyOf Try.prog 50)] (initSt croom.ps ((x0, ()))) =
  .need (hPre x0) (.cut (loopAt (bodyOf Try.prog 50) 3).1 (loopAt (bodyOf Try.prog 50) 3).2 (St.mk [(3, AV.val (Ty.int IntKind.i64) (1 : Int)), (7, AV.val Vec (cntV x0 (List.length x0))), (8, AV.val (Ty.int IntKind.i64) (0 : Int))] [])) := by kernel_rfl
def Eroom_s3 (v3 : Int) (v7 : List Int) (v8 : Int) : St := St.mk [(3, AV.val (Ty.int IntKind.i64) v3), (7, AV.val Vec v7), (8, AV.val (Ty.int IntKind.i64) v8)] []
theorem Eroom_l3 (v3 : Int) (v7 : List Int) (v8 : Int) : exec Eroom 1000 (.code (loopAt (bodyOf Try.prog 50) 3).1 :: .inLoop (loopAt (bodyOf Try.prog 50) 3).1 :: (loopAt (bodyOf Try.prog 50) 3).2) (Eroom_s3 v3 v7 v8) =
  cond (decide (v8 < (6 : Int))) (.need ((0 : Int) ≤ v8 ∧ v8 < (↑6 : Int)) (.need (inK IntKind.i64 (List.getD v7 (Int.toNat v8) (0 : Int) + (1 : Int))) (.need (inK IntKind.i64 (v3 * (List.getD v7 (Int.toNat v8) (0 : Int) + (1 : Int)))) (.need (inK IntKind.i64 (v8 + (1 : Int))) (.cut (loopAt (bodyOf Try.prog 50) 3).1 (loopAt (bodyOf Try.prog 50) 3).2 (St.mk [(3, AV.val (Ty.int IntKind.i64) (v3 * (List.getD v7 (Int.toNat v8) (0 : Int) + (1 : Int)))), (7, AV.val Vec v7), (8, AV.val (Ty.int IntKind.i64) (v8 + (1 : Int)))] [])))))) (.ret ((v3, ()))) := by kernel_rfl
theorem croom_valid : croom.Valid Try.prog 50 := by
  refine Ctr.valid_of Eroom_ok rfl rfl Try.func50 (c := bodyOf Try.prog 50) rfl rfl Froom_ok rfl ?_
  rintro ⟨(h : List Ev), ⟨⟩⟩ hh -
  have hh : scheck h = 0 := hh
  have hl := (scheck_ok hh).1
  refine exec_sound (n := 1000) Eroom_ok Froom_ok ?_
  refine holds_of_eq (Eroom_t h) ?_
  refine ⟨hh, fun _ => ?_⟩
  refine Reach.loopI Eroom_ok Froom_ok (fun i : Nat => Eroom_s3 (Tv (cntV h h.length) i) (cntV h h.length) (i : Int)) (fun i => i ≤ 6) (fun i => 6 - i) 1000 (fun _ => ⟨uniq_of rfl, uniq_of rfl⟩) ?_ 0 (by omega)
  rintro i hi - ih
  refine holds_of_eq (Eroom_l3 ..) ?_
  simp only [holds_cond, Tree.holds, true_and, true_implies, decide_eq_true_eq, decide_eq_false_iff_not, Bool.not_eq_true', Bool.not_eq_false', Int.toNat_natCast, inK_i64, List.length_set, List.length_cons, List.length_nil]
  refine ⟨fun b => ?_, fun b => ?_⟩
  · have hi6 : i < 6 := by omega
    have h9 := ih (i + 1) (by omega) (by omega)
    rw [Tv] at h9
    have t1 := Tv_61 hl (p := i + 1) (by omega)
    rw [Tv] at t1
    have hcl := cnt_le' (h := h) (p := i) (i := h.length)
    have e := cntV_at (h := h) (i := h.length) (p := i) hi6
    exact ⟨by omega, fun _ => ⟨by omega, fun _ => ⟨by omega, fun _ => ⟨by omega, fun _ => h9⟩⟩⟩⟩
  · have hi6 : i = 6 := by omega
    subst hi6; rfl
def eqV1 (x y : List Int) : Bool := decide (x = y)
def idxV (l : List (List Int)) (x : List Int) : Int := idxOf (fun y => decide (x = y)) l
def cidxV : Ctr := { ps := [.v (.slc false Vec), .v Vec], rs := [I64], pre := fun _ => True, fn := fun x => (idxV x.1 x.2.1, ()), out := fun _ => () }
noncomputable def EidxV : Env := { P := Try.prog, tt := tt, ctr := [], res := [Go.ResultVar.tmp 4], rs := [Ty.int IntKind.i64], ps := [PK.v (Ty.slc false Vec), PK.v Vec], cuts := [(2, [(0, none), (3, none), (7, none), (8, none)])], nt := 19 }
theorem EidxV_ok : EnvOk EidxV := envOk tt_ok trivial
theorem FidxV_ok : FnOk EidxV Try.f62 := ⟨rfl, rfl⟩
theorem EidxV_t (x0 : List (List Int)) (x1 : List Int) : exec EidxV 1000 [.code (bodyOf Try.prog 62)] (initSt cidxV.ps ((x0, x1, ()))) =
  .cut (loopAt (bodyOf Try.prog 62) 2).1 (loopAt (bodyOf Try.prog 62) 2).2 (St.mk [(0, AV.val (Ty.slc false Vec) x0), (3, AV.ptr 3 []), (7, AV.val (Ty.int IntKind.i64) (↑(List.length x0) : Int)), (8, AV.val (Ty.int IntKind.i64) (0 : Int))] [(3, Ent.var Vec x1)]) := by kernel_rfl
def EidxV_s2 (v0 : List (List Int)) (v7 : Int) (v8 : Int) (o3 : List Int) : St := St.mk [(0, AV.val (Ty.slc false Vec) v0), (3, AV.ptr 3 []), (7, AV.val (Ty.int IntKind.i64) v7), (8, AV.val (Ty.int IntKind.i64) v8)] [(3, Ent.var Vec o3)]
theorem EidxV_l2 (v0 : List (List Int)) (v7 : Int) (v8 : Int) (o3 : List Int) : exec EidxV 1000 (.code (loopAt (bodyOf Try.prog 62) 2).1 :: .inLoop (loopAt (bodyOf Try.prog 62) 2).1 :: (loopAt (bodyOf Try.prog 62) 2).2) (EidxV_s2 v0 v7 v8 o3) =
  cond (decide (v8 < v7)) (.need ((0 : Int) ≤ v8 ∧ v8 < (↑(List.length v0) : Int)) (cond (eqD Vec o3 (List.getD v0 (Int.toNat v8) [(0 : Int), (0 : Int), (0 : Int), (0 : Int), (0 : Int), (0 : Int)])) (.ret ((v8, ()))) (.need (inK IntKind.i64 (v8 + (1 : Int))) (.cut (loopAt (bodyOf Try.prog 62) 2).1 (loopAt (bodyOf Try.prog 62) 2).2 (St.mk [(0, AV.val (Ty.slc false Vec) v0), (3, AV.ptr 3 []), (7, AV.val (Ty.int IntKind.i64) v7), (8, AV.val (Ty.int IntKind.i64) (v8 + (1 : Int)))] [(3, Ent.var Vec o3)]))))) (.ret (((-1 : Int), ()))) := by kernel_rfl
theorem cidxV_valid : cidxV.Valid Try.prog 62 := by
  refine Ctr.valid_of EidxV_ok rfl rfl Try.func62 (c := bodyOf Try.prog 62) rfl rfl FidxV_ok rfl ?_
  rintro ⟨(l : List (List Int)), (x : List Int), ⟨⟩⟩ - ⟨⟨hl, -⟩, -⟩
  have hl : l.length ≤ 9223372036854775807 := hl
  refine exec_sound (n := 1000) EidxV_ok FidxV_ok ?_
  refine holds_of_eq (EidxV_t l x) ?_
  refine Reach.loopI EidxV_ok FidxV_ok (fun i : Nat => EidxV_s2 l (l.length : Int) (i : Int) x) (fun i => i ≤ l.length ∧ idxV l x = idxGo (fun y => decide (x = y)) (l.drop i) i)
    (fun i => l.length - i) 1000 (fun _ => ⟨uniq_of rfl, uniq_of rfl⟩) ?_ 0 ⟨by omega, rfl⟩
  rintro i ⟨k1, k2⟩ - ih
  refine holds_of_eq (EidxV_l2 ..) ?_
  rw [show eqD (Ty.arr 6 (Ty.int IntKind.i64)) x (l.getD (Int.toNat i) v0) = decide (x = l.getD (Int.toNat i) v0) from eqDL_iff]
  simp only [holds_cond, Tree.holds, true_and, true_implies, decide_eq_true_eq, decide_eq_false_iff_not, Bool.not_eq_true', Bool.not_eq_false', Int.toNat_natCast, inK_i64, List.length_set, List.length_cons, List.length_nil]
  refine ⟨fun h => ?_, fun h => ?_⟩
  · rw [drop_getD (show i < l.length by omega) v0, idxGo] at k2
    refine ⟨by omega, fun _ => ⟨fun c => ?_, fun c => ⟨by omega, fun _ => ih (i + 1) ⟨by omega, ?_⟩ (by omega)⟩⟩⟩
    · show (((i : Int), ()) : Int × Unit) = (idxV l x, ())
      rw [k2, if_pos (by simpa using c)]
    · rw [k2, if_neg (by simpa using c)]
  · rw [List.drop_eq_nil_of_le (by omega)] at k2
    show (((-1 : Int), ()) : Int × Unit) = (idxV l x, ())
    rw [k2]; rfl
def containsV (l : List (List Int)) (x : List Int) : Bool := decide (x ∈ l)
def ccontV : Ctr := { ps := [.v (.slc false Vec), .v Vec], rs := [.bool], pre := fun _ => True, fn := fun x => (containsV x.1 x.2.1, ()), out := fun _ => () }
noncomputable def EcontV : Env := { P := Try.prog, tt := tt, ctr := [(62, cidxV)], res := [Go.ResultVar.tmp 4], rs := [Ty.bool], ps := [PK.v (Ty.slc false Vec), PK.v Vec], cuts := [], nt := 9 }
theorem EcontV_ok : EnvOk EcontV := envOk tt_ok ⟨cidxV_valid, trivial⟩
theorem FcontV_ok : FnOk EcontV Try.f51 := ⟨rfl, rfl⟩
theorem EcontV_t (x0 : List (List Int)) (x1 : List Int) : exec EcontV 1000 [.code (bodyOf Try.prog 51)] (initSt ccontV.ps ((x0, x1, ()))) =
  .need (True) (.ret ((decide ((0 : Int) ≤ idxV x0 x1), ()))) := by kernel_rfl
theorem ccontV_valid : ccontV.Valid Try.prog 51 := by
  refine Ctr.valid_of EcontV_ok rfl rfl Try.func51 (c := bodyOf Try.prog 51) rfl rfl FcontV_ok rfl ?_
  rintro ⟨(l : List (List Int)), (x : List Int), ⟨⟩⟩ - -
  refine exec_sound (n := 1000) EcontV_ok FcontV_ok ?_
  refine holds_of_eq (EcontV_t l x) ?_
  refine ⟨trivial, fun _ => ?_⟩
  show ((decide (0 ≤ idxV l x), ()) : Bool × Unit) = (decide (x ∈ l), ())
  have : (0 ≤ idxV l x) ↔ x ∈ l := by
    rw [idxV, idxOf, idxGo_iff]
    constructor
    · rintro ⟨y, h1, h2⟩; rw [of_decide_eq_true h2]; exact h1
    · intro h; exact ⟨_, h, decide_eq_true rfl⟩
  rw [decide_eq_decide.2 this]
/-- does it take? -/
def takeB (e : Ev) : Bool := decide (e.2.1 = 3)
def ctake : Ctr := { ps := [.v Event], rs := [.bool], pre := fun _ => True, fn := fun x => (takeB x.1, ()), out := fun _ => () }
noncomputable def Etake : Env := { P := Try.prog, tt := tt, ctr := [], res := [Go.ResultVar.tmp 2], rs := [Ty.bool], ps := [PK.v Event], cuts := [], nt := 6 }
theorem Etake_ok : EnvOk Etake := envOk tt_ok trivial
theorem Ftake_ok : FnOk Etake Try.f49 := ⟨rfl, rfl⟩
theorem Etake_t (x0_1 : Int) (x0_2_1 : Int) (x0_2_2_1 : Int) : exec Etake 1000 [.code (bodyOf Try.prog 49)] (initSt ctake.ps (((x0_1, x0_2_1, x0_2_2_1, ()), ()))) =
  .ret ((decide (x0_2_1 = (3 : Int)), ())) := by kernel_rfl
theorem ctake_valid : ctake.Valid Try.prog 49 := by
  refine Ctr.valid_of Etake_ok rfl rfl Try.func49 (c := bodyOf Try.prog 49) rfl rfl Ftake_ok rfl ?_
  rintro ⟨⟨(p : Int), (k : Int), (m : Int), ⟨⟩⟩, ⟨⟩⟩ - -
  refine exec_sound (n := 1000) Etake_ok Ftake_ok ?_
  refine holds_of_eq (Etake_t p k m) ?_
  rfl
def takeIFn (x : List Ev × Unit × Unit) : Int × Unit := (idxOf takeB x.1, ())
def takeCFn (x : List Ev × Unit × Unit) : Bool × Unit := (x.1.any takeB, ())
def ctakeI : Ctr := { ps := [.v Es, .clo 49 []], rs := [I64], pre := fun _ => True, fn := fun x => takeIFn x, out := fun _ => () }
noncomputable def EtakeI : Env := { P := Try.prog, tt := tt, ctr := [(49, ctake)], res := [Go.ResultVar.tmp 4], rs := [Ty.int IntKind.i64], ps := [PK.v Es, PK.clo 49 []], cuts := [(2, [(0, none), (1, none), (7, none), (8, none)])], nt := 19 }
theorem EtakeI_ok : EnvOk EtakeI := envOk tt_ok ⟨ctake_valid, trivial⟩
theorem FtakeI_ok : FnOk EtakeI Try.f61 := ⟨rfl, rfl⟩
theorem EtakeI_t (x0 : List (Int × Int × Int × Unit)) : exec EtakeI 1000 [.code (bodyOf Try.prog 61)] (initSt ctakeI.ps ((x0, (), ()))) =
  .cut (loopAt (bodyOf Try.prog 61) 2).1 (loopAt (bodyOf Try.prog 61) 2).2 (St.mk [(0, AV.val Es x0), (1, AV.clo 49 AV.nil), (7, AV.val (Ty.int IntKind.i64) (↑(List.length x0) : Int)), (8, AV.val (Ty.int IntKind.i64) (0 : Int))] []) := by kernel_rfl
def EtakeI_s2 (v0 : List (Int × Int × Int × Unit)) (v7 : Int) (v8 : Int) : St := St.mk [(0, AV.val Es v0), (1, AV.clo 49 AV.nil), (7, AV.val (Ty.int IntKind.i64) v7), (8, AV.val (Ty.int IntKind.i64) v8)] []
theorem EtakeI_l2 (v0 : List (Int × Int × Int × Unit)) (v7 : Int) (v8 : Int) : exec EtakeI 1000 (.code (loopAt (bodyOf Try.prog 61) 2).1 :: .inLoop (loopAt (bodyOf Try.prog 61) 2).1 :: (loopAt (bodyOf Try.prog 61) 2).2) (EtakeI_s2 v0 v7 v8) =
  cond (decide (v8 < v7)) (.need ((0 : Int) ≤ v8 ∧ v8 < (↑(List.length v0) : Int)) (.need (True) (cond (takeB (List.getD v0 (Int.toNat v8) ((0 : Int), (0 : Int), (0 : Int), ()))) (.ret ((v8, ()))) (.need (inK IntKind.i64 (v8 + (1 : Int))) (.cut (loopAt (bodyOf Try.prog 61) 2).1 (loopAt (bodyOf Try.prog 61) 2).2 (St.mk [(0, AV.val Es v0), (1, AV.clo 49 AV.nil), (7, AV.val (Ty.int IntKind.i64) v7), (8, AV.val (Ty.int IntKind.i64) (v8 + (1 : Int)))] [])))))) (.ret (((-1 : Int), ()))) := by kernel_rfl
theorem ctakeI_valid : ctakeI.Valid Try.prog 61 := by
  refine Ctr.valid_of EtakeI_ok rfl rfl Try.func61 (c := bodyOf Try.prog 61) rfl rfl FtakeI_ok rfl ?_
  rintro ⟨(l : List Ev), ⟨⟩, ⟨⟩⟩ - ⟨⟨hl, -⟩, -⟩
  have hl : l.length ≤ 9223372036854775807 := hl
  refine exec_sound (n := 1000) EtakeI_ok FtakeI_ok ?_
  refine holds_of_eq (EtakeI_t l) ?_
  refine Reach.loopI EtakeI_ok FtakeI_ok (fun i : Nat => EtakeI_s2 l (l.length : Int) (i : Int)) (fun i => i ≤ l.length ∧ idxOf takeB l = idxGo takeB (l.drop i) i)
    (fun i => l.length - i) 1000 (fun _ => ⟨uniq_of rfl, uniq_of rfl⟩) ?_ 0 ⟨by omega, rfl⟩
  rintro i ⟨k1, k2⟩ - ih
  refine holds_of_eq (EtakeI_l2 ..) ?_
  simp only [holds_cond, Tree.holds, true_and, true_implies, decide_eq_true_eq, decide_eq_false_iff_not, Bool.not_eq_true', Bool.not_eq_false', Int.toNat_natCast, inK_i64, List.length_set, List.length_cons, List.length_nil]
  refine ⟨fun h => ?_, fun h => ?_⟩
  · rw [drop_getD (show i < l.length by omega) e0, idxGo] at k2
    refine ⟨by omega, fun _ => ⟨fun c => ?_, fun c => ⟨by omega, fun _ => ih (i + 1) ⟨by omega, ?_⟩ (by omega)⟩⟩⟩
    · show (((i : Int), ()) : Int × Unit) = (idxOf takeB l, ())
      rw [k2, if_pos c]
    · rw [k2, if_neg (by rw [c]; simp)]
  · rw [List.drop_eq_nil_of_le (by omega)] at k2
    show (((-1 : Int), ()) : Int × Unit) = (idxOf takeB l, ())
    rw [k2]; rfl
def ctakeC : Ctr := { ps := [.v Es, .clo 49 []], rs := [.bool], pre := fun _ => True, fn := fun x => takeCFn x, out := fun _ => () }
noncomputable def EtakeC : Env := { P := Try.prog, tt := tt, ctr := [(61, ctakeI)], res := [Go.ResultVar.tmp 4], rs := [Ty.bool], ps := [PK.v Es, PK.clo 49 []], cuts := [], nt := 9 }
theorem EtakeC_ok : EnvOk EtakeC := envOk tt_ok ⟨ctakeI_valid, trivial⟩
theorem FtakeC_ok : FnOk EtakeC Try.f48 := ⟨rfl, rfl⟩
theorem EtakeC_t (x0 : List (Int × Int × Int × Unit)) : exec EtakeC 1000 [.code (bodyOf Try.prog 48)] (initSt ctakeC.ps ((x0, (), ()))) =
  .need (True) (.ret ((decide ((0 : Int) ≤ Prod.fst (takeIFn (x0, (), ()))), ()))) := by kernel_rfl
theorem ctakeC_valid : ctakeC.Valid Try.prog 48 := by
  refine Ctr.valid_of EtakeC_ok rfl rfl Try.func48 (c := bodyOf Try.prog 48) rfl rfl FtakeC_ok rfl ?_
  rintro ⟨(l : List Ev), ⟨⟩, ⟨⟩⟩ - -
  refine exec_sound (n := 1000) EtakeC_ok FtakeC_ok ?_
  refine holds_of_eq (EtakeC_t l) ?_
  refine ⟨trivial, fun _ => ?_⟩
  show ((decide (0 ≤ idxOf takeB l), ()) : Bool × Unit) = (l.any takeB, ())
  rw [any_idx]
theorem allR_ok {h : List Ev} (hz : (allR h).2.1 = 0) : scheck h = 0 ∧ room h ≤ 4096 ∧ allR h = (allL h, 0, ()) := by
  unfold allR at hz ⊢
  split at hz
  · rename_i h1; exact absurd hz h1
  · rename_i h1
    split at hz
    · cases hz
    · rename_i h2
      rw [if_neg h1, if_neg h2]
      exact ⟨Decidable.of_not_not h1, by omega, rfl⟩
theorem allR_bad {h : List Ev} (hz : (allR h).2.1 ≠ 0) : (allR h).1 = [] := by
  unfold allR at hz ⊢
  split
  · rfl
  · split
    · rfl
    · rename_i h1 h2; rw [if_neg h1, if_neg h2] at hz; exact absurd rfl hz
theorem len_of_vals {α : Type} {f : α → Nat} : ∀ {n : Nat} {l : List α}, (∀ i, i < n → ∃ x ∈ l, f x = i) → n ≤ l.length
  | 0, _, _ => Nat.zero_le _
  | n + 1, l, h => by
    obtain ⟨x, hx, hf⟩ := h n (by omega)
    obtain ⟨A, C, rfl⟩ := List.append_of_mem hx
    have := len_of_vals (n := n) (l := A ++ C) (fun i hi => by
      obtain ⟨y, hy, hyf⟩ := h i (by omega)
      refine ⟨y, ?_, hyf⟩
      simp only [List.mem_append, List.mem_cons] at hy ⊢
      rcases hy with hy | rfl | hy
      · exact .inl hy
      · omega
      · exact .inr hy)
    simp only [List.length_append, List.length_cons] at this ⊢
    omega
theorem cnt_sum {h : List Ev} (hp : ∀ i, i < h.length → pr h i < 6) : ∀ {i : Nat}, i ≤ h.length → cnt h 0 i + cnt h 1 i + cnt h 2 i + cnt h 3 i + cnt h 4 i + cnt h 5 i = i
  | 0, _ => rfl
  | i + 1, hi => by
    have := cnt_sum hp (i := i) (by omega)
    have h6 := hp i (by omega)
    simp only [cnt_step]
    generalize pr h i = p at h6
    match p, h6 with
    | 0, _ | 1, _ | 2, _ | 3, _ | 4, _ | 5, _ => simp; omega
def sum6 (c : List Int) : Nat := (c.getD 0 0 + c.getD 1 0 + c.getD 2 0 + c.getD 3 0 + c.getD 4 0 + c.getD 5 0).toNat
theorem all_many {h : List Ev} (hh : scheck h = 0) : h.length + 1 ≤ (allL h).length := by
  refine len_of_vals (f := sum6) (fun i hi => ⟨cntV h i, (mem_all hh).2 (pre_cut hh (by omega)), ?_⟩)
  have := cnt_sum (fun j hj => (hist_ok hh hj).p) (i := i) (by omega)
  simp only [sum6]
  rw [cntV_at (by omega), cntV_at (by omega), cntV_at (by omega), cntV_at (by omega), cntV_at (by omega), cntV_at (by omega)]
  omega
/-- without messages nothing is ahead of another process's events -/
theorem free_hb {h : List Ev} (hh : scheck h = 0) (hf : ∀ i, i < h.length → kd h i ≠ 3) : ∀ {b : Nat}, b < h.length → ∀ {a : Nat}, hb h b a = true → pr h a = pr h b := by
  intro b
  induction b using Nat.strongRecOn with
  | _ b ih =>
    intro hb' a ha
    obtain ⟨c, h1, h2, h3⟩ := hb_iff.1 ha
    have hpc : pr h c = pr h b := by
      rcases (edge_iff (hist_ok hh (by omega)) (hist_ok hh hb')).1 h2 with h4 | ⟨_, h4, _⟩
      · exact h4
      · exact absurd h4 (hf b hb')
    rcases h3 with rfl | h3
    · exact hpc
    · exact (ih c h1 (by omega) h3).trans hpc
theorem free_ok {h : List Ev} (hh : scheck h = 0) (hf : ∀ i, i < h.length → kd h i ≠ 3) {c : List Int} (hc : CutOf h c) : OkC h c := by
  intro p hp h0 q hq
  have hi := hc.hi p hp
  obtain ⟨e, e1, e2, e3, e4⟩ := vk_evs hh (p := p) (k := (c.getD p 0).toNat) (by omega) (by omega)
  rw [e4]
  by_cases epq : q = p
  · subst epq
    have := vec_own hh e1
    rw [e2] at this
    rw [this]; omega
  · obtain ⟨r1, r2⟩ := vec_reach hh e1 hq
    rcases r2 with r2 | ⟨j, j1, j2, j3⟩
    · have := hc.lo q hq; omega
    · exfalso
      have hj : j < h.length := by omega
      have h5 := (vec_tells hh e1 hj).2 (by rw [j2, j3]; omega)
      rcases h5 with rfl | h5
      · exact epq (j2.symm.trans e2)
      · exact epq (j2.symm.trans ((free_hb hh hf e1 h5).trans e2))
theorem all_room {h : List Ev} (hh : scheck h = 0) : ((allL h).length : Int) ≤ room h := by
  have := allTo_len (h := h) (k := (room h).toNat)
  have := room_pos hh
  unfold allL; omega
theorem all_free {h : List Ev} (hh : scheck h = 0) (hf : ∀ i, i < h.length → kd h i ≠ 3) : ((allL h).length : Int) = room h := by
  have hp := room_pos hh
  have : ∀ {k : Nat}, k ≤ (room h).toNat → (allTo h k).length = k := by
    intro k
    induction k with
    | zero => intro _; rfl
    | succ k ih =>
      intro hk
      have hc := odo_cut hh (k := k) (by omega)
      rw [allTo_succ, if_pos ((okB_iff hh hc).2 (free_ok hh hf hc)), List.length_append, ih (by omega)]; rfl
  have := this (Nat.le_refl _)
  unfold allL; omega
def cCutSteps : Ctr := lawC [Es, Vec] (fun _ => True)
noncomputable def ECutSteps : Env := { P := Try.prog, tt := tt, ctr := [(39, csent), (47, call), (41, csome), (42, cright), (52, csizes), (51, ccontV), (34, ceqV)], res := [Go.ResultVar.tmp 4], rs := [Ty.bool], ps := [PK.v Es, PK.v Vec], cuts := [(14, [(0, none), (3, none), (7, some (Ty.slc true Vec)), (11, none), (65, none)])], nt := 104 }
theorem ECutSteps_ok : EnvOk ECutSteps := envOk tt_ok ⟨csent_valid, call_valid, csome_valid, cright_valid, csizes_valid, ccontV_valid, ceqV_valid, trivial⟩
theorem FCutSteps_ok : FnOk ECutSteps Try.f18 := ⟨rfl, rfl⟩
theorem ECutSteps_t (x0 : List (Int × Int × Int × Unit)) (x1 : List Int) : exec ECutSteps 1000 [.code (bodyOf Try.prog 18)] (initSt cCutSteps.ps ((x0, x1, ()))) =
  .need (True) (.need (True) (.need (True) (.need (True) (cond (decide (Prod.fst (Prod.snd (allR x0)) ≠ (0 : Int))) (.ret ((decide ((↑(List.length (Prod.fst (allR x0))) : Int) = (0 : Int)), ()))) (.need (hPre x0) (.need (True) (cond (decide (Prod.fst (Prod.snd (rightR x0 (someC x0 x1))) ≠ (0 : Int))) (.ret ((false, ()))) (.need (True) (cond (Prod.fst (rightR x0 (someC x0 x1)) != containsV (Prod.fst (allR x0)) (someC x0 x1)) (.ret ((false, ()))) (cond (Prod.fst (rightR x0 (someC x0 x1))) (.need (hPre x0) (cond (!eqD (Ty.arr 6 I64) (someC x0 x1) (cntV x0 (List.length x0))) (.cut (loopAt (bodyOf Try.prog 18) 14).1 (loopAt (bodyOf Try.prog 18) 14).2 (St.mk [(0, AV.val Es x0), (3, AV.ptr 3 []), (7, AV.at_ 1000007 []), (11, AV.val Ty.bool false), (65, AV.val (Ty.int IntKind.i64) (0 : Int))] [(3, Ent.var Vec (someC x0 x1)), (1000007, Ent.own (Ty.slc true Vec) (Prod.fst (allR x0)))])) (cond (decide ((0 : Int) < (↑(List.length (Prod.fst (allR x0))) : Int))) (.need ((0 : Int) ≤ (0 : Int) ∧ (0 : Int) < (↑(List.length (Prod.fst (allR x0))) : Int)) (cond (eqD (Ty.arr 6 I64) (List.getD (Prod.fst (allR x0)) (Int.toNat (0 : Int)) [(0 : Int), (0 : Int), (0 : Int), (0 : Int), (0 : Int), (0 : Int)]) [(0 : Int), (0 : Int), (0 : Int), (0 : Int), (0 : Int), (0 : Int)]) (.need (inK IntKind.i64 ((↑(List.length (Prod.fst (allR x0))) : Int) - (1 : Int))) (.need ((0 : Int) ≤ (↑(List.length (Prod.fst (allR x0))) : Int) - (1 : Int) ∧ (↑(List.length (Prod.fst (allR x0))) : Int) - (1 : Int) < (↑(List.length (Prod.fst (allR x0))) : Int)) (.need (hPre x0) (.ret ((eqD (Ty.arr 6 I64) (List.getD (Prod.fst (allR x0)) (Int.toNat ((↑(List.length (Prod.fst (allR x0))) : Int) - (1 : Int))) [(0 : Int), (0 : Int), (0 : Int), (0 : Int), (0 : Int), (0 : Int)]) (cntV x0 (List.length x0)), ())))))) (.ret ((false, ()))))) (.ret ((false, ())))))) (cond (decide ((0 : Int) < (↑(List.length (Prod.fst (allR x0))) : Int))) (.need ((0 : Int) ≤ (0 : Int) ∧ (0 : Int) < (↑(List.length (Prod.fst (allR x0))) : Int)) (cond (eqD (Ty.arr 6 I64) (List.getD (Prod.fst (allR x0)) (Int.toNat (0 : Int)) [(0 : Int), (0 : Int), (0 : Int), (0 : Int), (0 : Int), (0 : Int)]) [(0 : Int), (0 : Int), (0 : Int), (0 : Int), (0 : Int), (0 : Int)]) (.need (inK IntKind.i64 ((↑(List.length (Prod.fst (allR x0))) : Int) - (1 : Int))) (.need ((0 : Int) ≤ (↑(List.length (Prod.fst (allR x0))) : Int) - (1 : Int) ∧ (↑(List.length (Prod.fst (allR x0))) : Int) - (1 : Int) < (↑(List.length (Prod.fst (allR x0))) : Int)) (.need (hPre x0) (.ret ((eqD (Ty.arr 6 I64) (List.getD (Prod.fst (allR x0)) (Int.toNat ((↑(List.length (Prod.fst (allR x0))) : Int) - (1 : Int))) [(0 : Int), (0 : Int), (0 : Int), (0 : Int), (0 : Int), (0 : Int)]) (cntV x0 (List.length x0)), ())))))) (.ret ((false, ()))))) (.ret ((false, ())))))))))))))) := by kernel_rfl
def ECutSteps_s14 (v0 : List (Int × Int × Int × Unit)) (v11 : Bool) (v65 : Int) (o3 : List Int) (o1000007 : List (List Int)) : St := St.mk [(0, AV.val Es v0), (3, AV.ptr 3 []), (7, AV.at_ 1000007 []), (11, AV.val Ty.bool v11), (65, AV.val (Ty.int IntKind.i64) v65)] [(3, Ent.var Vec o3), (1000007, Ent.own (Ty.slc true Vec) o1000007)]
theorem ECutSteps_l14 (v0 : List (Int × Int × Int × Unit)) (v11 : Bool) (v65 : Int) (o3 : List Int) (o1000007 : List (List Int)) : exec ECutSteps 1000 (.code (loopAt (bodyOf Try.prog 18) 14).1 :: .inLoop (loopAt (bodyOf Try.prog 18) 14).1 :: (loopAt (bodyOf Try.prog 18) 14).2) (ECutSteps_s14 v0 v11 v65 o3 o1000007) =
  cond (decide (v65 < (6 : Int))) (.need ((0 : Int) ≤ v65 ∧ v65 < (↑6 : Int)) (.need (inK IntKind.i64 (List.getD o3 (Int.toNat v65) (0 : Int) + (1 : Int))) (.need ((0 : Int) ≤ v65 ∧ v65 < (↑6 : Int)) (cond (v11) (.need (inK IntKind.i64 (v65 + (1 : Int))) (.cut (loopAt (bodyOf Try.prog 18) 14).1 (loopAt (bodyOf Try.prog 18) 14).2 (St.mk [(0, AV.val Es v0), (3, AV.ptr 3 []), (7, AV.at_ 1000007 []), (11, AV.val Ty.bool true), (65, AV.val (Ty.int IntKind.i64) (v65 + (1 : Int)))] [(3, Ent.var Vec o3), (1000007, Ent.own (Ty.slc true Vec) o1000007)]))) (.need (True) (.need (inK IntKind.i64 (v65 + (1 : Int))) (.cut (loopAt (bodyOf Try.prog 18) 14).1 (loopAt (bodyOf Try.prog 18) 14).2 (St.mk [(0, AV.val Es v0), (3, AV.ptr 3 []), (7, AV.at_ 1000007 []), (11, AV.val Ty.bool (containsV o1000007 (List.set o3 (Int.toNat v65) (List.getD o3 (Int.toNat v65) (0 : Int) + (1 : Int))))), (65, AV.val (Ty.int IntKind.i64) (v65 + (1 : Int)))] [(3, Ent.var Vec o3), (1000007, Ent.own (Ty.slc true Vec) o1000007)])))))))) (cond (!v11) (.ret ((false, ()))) (cond (decide ((0 : Int) < (↑(List.length o1000007) : Int))) (.need ((0 : Int) ≤ (0 : Int) ∧ (0 : Int) < (↑(List.length o1000007) : Int)) (cond (eqD Vec (List.getD o1000007 (Int.toNat (0 : Int)) [(0 : Int), (0 : Int), (0 : Int), (0 : Int), (0 : Int), (0 : Int)]) [(0 : Int), (0 : Int), (0 : Int), (0 : Int), (0 : Int), (0 : Int)]) (.need (inK IntKind.i64 ((↑(List.length o1000007) : Int) - (1 : Int))) (.need ((0 : Int) ≤ (↑(List.length o1000007) : Int) - (1 : Int) ∧ (↑(List.length o1000007) : Int) - (1 : Int) < (↑(List.length o1000007) : Int)) (.need (hPre v0) (.ret ((eqD Vec (List.getD o1000007 (Int.toNat ((↑(List.length o1000007) : Int) - (1 : Int))) [(0 : Int), (0 : Int), (0 : Int), (0 : Int), (0 : Int), (0 : Int)]) (cntV v0 (List.length v0)), ())))))) (.ret ((false, ()))))) (.ret ((false, ()))))) := by kernel_rfl
theorem cCutSteps_valid : (lawC [Es, Vec] (fun _ => True)).Valid Try.prog 18 := by
  refine Ctr.valid_of ECutSteps_ok rfl rfl Try.func18 (c := bodyOf Try.prog 18) rfl rfl FCutSteps_ok rfl ?_
  rintro ⟨(h : List Ev), (a : List Int), ⟨⟩⟩ - -
  refine exec_sound (n := 1000) ECutSteps_ok FCutSteps_ok ?_
  refine holds_of_eq (ECutSteps_t h a) ?_
  simp only [Tree.holds, holds_cond, decide_eq_true_eq, decide_eq_false_iff_not, true_and, true_implies]
  refine ⟨fun hz => ?_, fun hz => ?_⟩
  · show ((_, ()) : Bool × Unit) = (true, ())
    rw [allR_bad hz]; rfl
  obtain ⟨hh, hrm, hal⟩ := allR_ok (Decidable.of_not_not hz)
  rw [hal]
  have cA : CutOf h (someC h a) := someC_cut
  have hin := mem_all hh (c := someC h a)
  generalize someC h a = A at *
  rw [rightR_ok hh cA]
  have hpre : hPre h := hh
  have hsame : decide (growF h A = A) = containsV (allL h) A := by
    rw [containsV]
    refine decide_eq_decide.2 ?_
    rw [hin, grow_fix hh cA]
    exact ⟨fun o => ⟨cA, o⟩, fun o => o.2⟩
  obtain ⟨l1, f1⟩ := all_first hh
  obtain ⟨l2, f2⟩ := all_last hh
  have hlen := all_room hh
  have hpos : (0 : Int) < (allL h).length := by rw [f1]; simp
  have g1 : (allL h).getD 0 v0 = v0 := by rw [f1]; rfl
  have g2 : (allL h).getD (Int.toNat (((allL h).length : Int) - 1)) v0 = cntV h h.length := by
    rw [f2]
    have : Int.toNat (((l2 ++ [cntV h h.length]).length : Int) - 1) = l2.length := by simp
    rw [this, getD_app_last]
  have q0 : eqD (Ty.arr 6 (Ty.int IntKind.i64)) v0 v0 = true := by rw [eqDL_iff]; simp
  have q1 : eqD (Ty.arr 6 (Ty.int IntKind.i64)) (cntV h h.length) (cntV h h.length) = true := by rw [eqDL_iff]; simp
  have q2 : eqD (Ty.arr 6 (Ty.int IntKind.i64)) A (cntV h h.length) = decide (A = cntV h h.length) := eqDL_iff
  refine ⟨hpre, fun _ => ⟨fun hb => absurd rfl hb, fun _ => ⟨fun hb => ?_, fun _ => ⟨fun hok => ⟨hpre, fun _ => ⟨fun hne => ?_, fun _ => ?_⟩⟩, fun _ => ?_⟩⟩⟩⟩
  · rw [hsame] at hb; simp at hb
  · have hne : A ≠ cntV h h.length := by
      rw [q2] at hne
      intro e
      rw [decide_eq_true e] at hne; cases hne
    have hok := (grow_fix hh cA).1 (of_decide_eq_true hok)
    obtain ⟨p0, p1, p2, p3⟩ := ok_next hh cA hok hne
    have hl := (scheck_ok hh).1
    refine Reach.loopI ECutSteps_ok FCutSteps_ok (fun x : Nat × Bool => ECutSteps_s14 h x.2 (x.1 : Int) A (allL h)) (fun x => x.1 ≤ 6 ∧ x.2 = (List.range x.1).any (fun p => containsV (allL h) (A.set p (A.getD p 0 + 1)))) (fun x => 6 - x.1) 1000 (fun _ => ⟨uniq_of rfl, uniq_of rfl⟩) ?_ (0, false) ⟨by omega, rfl⟩
    rintro ⟨i, nx⟩ ⟨k1, k2⟩ - ih
    have k1 : i ≤ 6 := k1
    have k2 : nx = (List.range i).any (fun p => containsV (allL h) (A.set p (A.getD p 0 + 1))) := k2
    refine holds_of_eq (ECutSteps_l14 ..) ?_
    simp only [holds_cond, Tree.holds, true_and, true_implies, decide_eq_true_eq, decide_eq_false_iff_not, Bool.not_eq_true', Bool.not_eq_false', Int.toNat_natCast, inK_i64, List.length_set, List.length_cons, List.length_nil]
    refine ⟨fun hi => ?_, fun hi => ⟨fun hn => ?_, fun _ => ?_⟩⟩
    · have hi6 : i < 6 := by omega
      have h9 := fun nx' e => ih (i + 1, nx') ⟨by show i + 1 ≤ 6; omega, e⟩ (by show 6 - (i + 1) < 6 - i; omega)
      have hstep : (List.range (i + 1)).any (fun p => containsV (allL h) (A.set p (A.getD p 0 + 1))) = (nx || containsV (allL h) (A.set i (A.getD i 0 + 1))) := by
        rw [List.range_succ, List.any_append, k2]; simp
      have hA1 := cA.lo i hi6
      have hA2 := cA.hi i hi6
      have hcl := cnt_le' (h := h) (p := i) (i := h.length)
      have hin : -9223372036854775808 ≤ A.getD i 0 + 1 ∧ A.getD i 0 + 1 ≤ 9223372036854775807 := by
        generalize A.getD i 0 = z at hA1 hA2 ⊢
        omega
      refine ⟨by omega, fun _ => ⟨hin, fun _ => ⟨by omega, fun _ => ⟨fun ht => ⟨by omega, fun _ => ?_⟩, fun ht => ⟨by omega, fun _ => ?_⟩⟩⟩⟩⟩
      · exact h9 true (by rw [hstep, ht]; rfl)
      · exact h9 _ (by rw [hstep, ht]; rfl)
    · exfalso
      have hi6 : i = 6 := by omega
      subst hi6
      have : nx = true := by
        rw [k2, List.any_eq_true]
        exact ⟨p0, List.mem_range.2 p1, by rw [containsV]; exact decide_eq_true ((mem_all hh).2 ⟨p2, p3⟩)⟩
      rw [this] at hn; cases hn
    · skip
      refine ⟨fun _ => ⟨⟨Int.le_refl _, hpos⟩, fun _ => ⟨fun _ => ⟨inK_i64.2 (by show _ ≤ ((allL h).length : Int) - 1 ∧ ((allL h).length : Int) - 1 ≤ _; omega), fun _ => ⟨by show 0 ≤ ((allL h).length : Int) - 1 ∧ ((allL h).length : Int) - 1 < (allL h).length; omega, fun _ => ⟨hpre, fun _ => ?_⟩⟩⟩, fun hb => ?_⟩⟩, fun hb => absurd hpos hb⟩
      · rw [g2, q1]; rfl
      · have hb : eqD (Ty.arr 6 (Ty.int IntKind.i64)) ((allL h).getD 0 v0) v0 = false := hb; rw [g1, q0] at hb; cases hb
  · refine ⟨fun _ => ⟨⟨Int.le_refl _, hpos⟩, fun _ => ⟨fun _ => ⟨inK_i64.2 (by show _ ≤ ((allL h).length : Int) - 1 ∧ ((allL h).length : Int) - 1 ≤ _; omega), fun _ => ⟨by show 0 ≤ ((allL h).length : Int) - 1 ∧ ((allL h).length : Int) - 1 < (allL h).length; omega, fun _ => ⟨hpre, fun _ => ?_⟩⟩⟩, fun hb => ?_⟩⟩, fun hb => absurd hpos hb⟩
    · rw [g2, q1]; rfl
    · have hb : eqD (Ty.arr 6 (Ty.int IntKind.i64)) ((allL h).getD 0 v0) v0 = false := hb; rw [g1, q0] at hb; cases hb
  · refine ⟨fun _ => ⟨⟨Int.le_refl _, hpos⟩, fun _ => ⟨fun _ => ⟨inK_i64.2 (by show _ ≤ ((allL h).length : Int) - 1 ∧ ((allL h).length : Int) - 1 ≤ _; omega), fun _ => ⟨by show 0 ≤ ((allL h).length : Int) - 1 ∧ ((allL h).length : Int) - 1 < (allL h).length; omega, fun _ => ⟨hpre, fun _ => ?_⟩⟩⟩, fun hb => ?_⟩⟩, fun hb => absurd hpos hb⟩
    · rw [g2, q1]; rfl
    · have hb : eqD (Ty.arr 6 (Ty.int IntKind.i64)) ((allL h).getD 0 v0) v0 = false := hb; rw [g1, q0] at hb; cases hb
def cCutMany : Ctr := lawC [Es] (fun _ => True)
noncomputable def ECutMany : Env := { P := Try.prog, tt := tt, ctr := [(47, call), (50, croom), (48, ctakeC)], res := [Go.ResultVar.tmp 2], rs := [Ty.bool], ps := [PK.v Es], cuts := [], nt := 59 }
theorem ECutMany_ok : EnvOk ECutMany := envOk tt_ok ⟨call_valid, croom_valid, ctakeC_valid, trivial⟩
theorem FCutMany_ok : FnOk ECutMany Try.f17 := ⟨rfl, rfl⟩
theorem ECutMany_t (x0 : List (Int × Int × Int × Unit)) : exec ECutMany 1000 [.code (bodyOf Try.prog 17)] (initSt cCutMany.ps ((x0, ()))) =
  .need (True) (.need (True) (cond (decide (Prod.fst (Prod.snd (allR x0)) ≠ (0 : Int))) (.ret ((decide ((↑(List.length (Prod.fst (allR x0))) : Int) = (0 : Int)), ()))) (.need (True) (.need (inK IntKind.i64 ((↑(List.length x0) : Int) + (1 : Int))) (cond (decide ((↑(List.length x0) : Int) + (1 : Int) ≤ (↑(List.length (Prod.fst (allR x0))) : Int))) (.need (hPre x0) (cond (decide ((↑(List.length (Prod.fst (allR x0))) : Int) ≤ room x0)) (cond (!!Prod.fst (takeCFn (x0, (), ()))) (.ret ((true, ()))) (.need (hPre x0) (.ret ((decide ((↑(List.length (Prod.fst (allR x0))) : Int) = room x0), ()))))) (.ret ((false, ()))))) (.ret ((false, ())))))))) := by kernel_rfl
theorem cCutMany_valid : (lawC [Es] (fun _ => True)).Valid Try.prog 17 := by
  refine Ctr.valid_of ECutMany_ok rfl rfl Try.func17 (c := bodyOf Try.prog 17) rfl rfl FCutMany_ok rfl ?_
  rintro ⟨(h : List Ev), ⟨⟩⟩ - -
  refine exec_sound (n := 1000) ECutMany_ok FCutMany_ok ?_
  refine holds_of_eq (ECutMany_t h) ?_
  simp only [Tree.holds, holds_cond, decide_eq_true_eq, decide_eq_false_iff_not, true_and, true_implies]
  refine ⟨fun hz => ?_, fun hz => ?_⟩
  · show ((_, ()) : Bool × Unit) = (true, ())
    rw [allR_bad hz]; rfl
  obtain ⟨hh, hrm, hal⟩ := allR_ok (Decidable.of_not_not hz)
  rw [hal]
  have hl := (scheck_ok hh).1
  have hmany := all_many hh
  have hroom := all_room hh
  have hpre : hPre h := hh
  refine ⟨inK_i64.2 (by omega), fun _ => ⟨fun _ => ⟨hpre, fun _ => ⟨fun _ => ⟨fun _ => yes, fun hf => ⟨hpre, fun _ => ?_⟩⟩, fun hb => absurd hroom hb⟩⟩, fun hb => absurd (by show (h.length : Int) + 1 ≤ ((allL h).length : Int); omega) hb⟩⟩
  have hf : (!!(h.any takeB)) = false := hf
  rw [Bool.not_not] at hf
  have hfree : ∀ i, i < h.length → kd h i ≠ 3 := by
    intro i hi h3
    have : h.any takeB = true := List.any_eq_true.2 ⟨h.getD i e0, getD_mem hi, by show decide ((h.getD i e0).2.1 = 3) = true; exact decide_eq_true h3⟩
    rw [this] at hf; cases hf
  show ((_, ()) : Bool × Unit) = (true, ())
  rw [decide_eq_true (all_free hh hfree)]
end Go.Proofs.Ytibpibbnnogdkaa
