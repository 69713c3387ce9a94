/- lat.Back. No condition. -/
import Derived.Test.YtehmefjnkbjiiaaLat
namespace Go.Proofs.Ytehmefjnkbjiiaa
open Go.Ex
set_option maxRecDepth 100000
def backG (F : List Int) (a b : Nat) : Bool := decide (a ≠ b) && withinU (F.getD a 0) (F.getD b 0)
def backR (l : List Int) : (Int × List PairD × Unit) × Int × Unit :=
  if lcheck l ≠ 0 then ((0, [], ()), lcheck l, ()) else (((firmL l).length, pairsF (firmL l).length (backG (firmL l)), ()), 0, ())
theorem pairsM_le {n : Nat} {g : Nat → Nat → Bool} {a b : Nat} (ha : a ≤ n) (hb : b ≤ n) : (pairsM n g a b).length ≤ n * n + n := by
  rw [pairsM, List.length_append, List.length_map]
  have h1 : ((List.range b).filter (g a)).length ≤ b := Nat.le_trans (List.length_filter_le _ _) (by simp)
  have h2 : ∀ (l : List Nat) (f : Nat → List PairD), (∀ a, (f a).length ≤ n) → (l.flatMap f).length ≤ l.length * n := by
    intro l f hf
    induction l with
    | nil => simp
    | cons a l ih => rw [List.flatMap_cons, List.length_append, List.length_cons, Nat.succ_mul]; have := hf a; omega
  have h3 := h2 (List.range a) (fun a : Nat => ((List.range n).filter (g a)).map (fun b : Nat => ((a : Int), (b : Int), ()))) (fun a => by
    rw [List.length_map]; exact Nat.le_trans (List.length_filter_le _ _) (by simp))
  rw [List.length_range] at h3
  have : a * n ≤ n * n := Nat.mul_le_mul_right n ha
  omega
def cback : Ctr := { ps := [.v (.slc false U16)], rs := [PosO, I64], pre := fun _ => True, fn := fun x => backR x.1, out := fun _ => () }
noncomputable def Eback : Env := { P := Try.prog, tt := tt, ctr := [(80, cfirm), (81, cwithinU)], res := [Go.ResultVar.cell 2 77, Go.ResultVar.tmp 3], rs := [Ty.pair (Ty.int IntKind.i64) (Ty.pair (Ty.slc true PairT) Ty.unit), Ty.int IntKind.i64], ps := [PK.v (Ty.slc false (Ty.int IntKind.u16))], cuts := [(6, [(2, none), (4, some (Ty.slc true (Ty.int IntKind.u16))), (6, none), (23, some (Ty.slc true (Ty.int IntKind.u16))), (24, none), (25, none)]), (9, [(2, none), (4, some (Ty.slc true (Ty.int IntKind.u16))), (6, none), (7, none), (8, none), (23, some (Ty.slc true (Ty.int IntKind.u16))), (24, none), (25, none), (30, some (Ty.slc true (Ty.int IntKind.u16))), (31, none), (32, none)])], nt := 56 }
theorem Eback_ok : EnvOk Eback := envOk tt_ok ⟨cfirm_valid, cwithinU_valid, trivial⟩
theorem Fback_ok : FnOk Eback Try.f48 := ⟨rfl, rfl⟩
theorem Eback_t (x0 : List Int) : exec Eback 1000 [.code (bodyOf Try.prog 48)] (initSt cback.ps ((x0, ()))) =
  .need (True) (cond (decide (Prod.fst (Prod.snd (firmR x0)) ≠ (0 : Int))) (.ret ((((0 : Int), [], ()), Prod.fst (Prod.snd (firmR x0)), ()))) (.cut (loopAt (bodyOf Try.prog 48) 6).1 (loopAt (bodyOf Try.prog 48) 6).2 (St.mk [(2, AV.ptr 2 []), (4, AV.at_ 1000023 []), (6, AV.ptr 6 []), (23, AV.at_ 1000023 []), (24, AV.val (Ty.int IntKind.i64) (↑(List.length (Prod.fst (firmR x0))) : Int)), (25, AV.val (Ty.int IntKind.i64) (0 : Int))] [(2, Ent.var (Ty.pair (Ty.int IntKind.i64) (Ty.pair (Ty.slc true PairT) Ty.unit)) ((0 : Int), [], ())), (6, Ent.var (Ty.pair (Ty.int IntKind.i64) (Ty.pair (Ty.slc true PairT) Ty.unit)) ((↑(List.length (Prod.fst (firmR x0))) : Int), [], ())), (1000023, Ent.own (Ty.slc true (Ty.int IntKind.u16)) (Prod.fst (firmR x0)))]))) := by kernel_rfl
def Eback_s6 (v24 : Int) (v25 : Int) (o2_1 : Int) (o2_2_1 : List (Int × Int × Unit)) (o6_1 : Int) (o6_2_1 : List (Int × Int × Unit)) (o1000023 : List Int) : St := St.mk [(2, AV.ptr 2 []), (4, AV.at_ 1000023 []), (6, AV.ptr 6 []), (23, AV.at_ 1000023 []), (24, AV.val (Ty.int IntKind.i64) v24), (25, AV.val (Ty.int IntKind.i64) v25)] [(2, Ent.var (Ty.pair (Ty.int IntKind.i64) (Ty.pair (Ty.slc true PairT) Ty.unit)) (o2_1, o2_2_1, ())), (6, Ent.var (Ty.pair (Ty.int IntKind.i64) (Ty.pair (Ty.slc true PairT) Ty.unit)) (o6_1, o6_2_1, ())), (1000023, Ent.own (Ty.slc true (Ty.int IntKind.u16)) o1000023)]
theorem Eback_l6 (v24 : Int) (v25 : Int) (o2_1 : Int) (o2_2_1 : List (Int × Int × Unit)) (o6_1 : Int) (o6_2_1 : List (Int × Int × Unit)) (o1000023 : List Int) : exec Eback 1000 (.code (loopAt (bodyOf Try.prog 48) 6).1 :: .inLoop (loopAt (bodyOf Try.prog 48) 6).1 :: (loopAt (bodyOf Try.prog 48) 6).2) (Eback_s6 v24 v25 o2_1 o2_2_1 o6_1 o6_2_1 o1000023) =
  cond (decide (v25 < v24)) (.need ((0 : Int) ≤ v25 ∧ v25 < (↑(List.length o1000023) : Int)) (.cut (loopAt (bodyOf Try.prog 48) 9).1 (loopAt (bodyOf Try.prog 48) 9).2 (St.mk [(2, AV.ptr 2 []), (4, AV.at_ 1000030 []), (6, AV.ptr 6 []), (7, AV.val (Ty.int IntKind.i64) v25), (8, AV.val (Ty.int IntKind.u16) (List.getD o1000023 (Int.toNat v25) (0 : Int))), (23, AV.at_ 1000030 []), (24, AV.val (Ty.int IntKind.i64) v24), (25, AV.val (Ty.int IntKind.i64) v25), (30, AV.at_ 1000030 []), (31, AV.val (Ty.int IntKind.i64) (↑(List.length o1000023) : Int)), (32, AV.val (Ty.int IntKind.i64) (0 : Int))] [(2, Ent.var (Ty.pair (Ty.int IntKind.i64) (Ty.pair (Ty.slc true PairT) Ty.unit)) (o2_1, o2_2_1, ())), (6, Ent.var (Ty.pair (Ty.int IntKind.i64) (Ty.pair (Ty.slc true PairT) Ty.unit)) (o6_1, o6_2_1, ())), (1000030, Ent.own (Ty.slc true (Ty.int IntKind.u16)) o1000023)]))) (.ret (((o6_1, o6_2_1, ()), (0 : Int), ()))) := by kernel_rfl
def Eback_s9 (v7 : Int) (v8 : Int) (v24 : Int) (v25 : Int) (v31 : Int) (v32 : Int) (o2_1 : Int) (o2_2_1 : List (Int × Int × Unit)) (o6_1 : Int) (o6_2_1 : List (Int × Int × Unit)) (o1000030 : List Int) : St := St.mk [(2, AV.ptr 2 []), (4, AV.at_ 1000030 []), (6, AV.ptr 6 []), (7, AV.val (Ty.int IntKind.i64) v7), (8, AV.val (Ty.int IntKind.u16) v8), (23, AV.at_ 1000030 []), (24, AV.val (Ty.int IntKind.i64) v24), (25, AV.val (Ty.int IntKind.i64) v25), (30, AV.at_ 1000030 []), (31, AV.val (Ty.int IntKind.i64) v31), (32, AV.val (Ty.int IntKind.i64) v32)] [(2, Ent.var (Ty.pair (Ty.int IntKind.i64) (Ty.pair (Ty.slc true PairT) Ty.unit)) (o2_1, o2_2_1, ())), (6, Ent.var (Ty.pair (Ty.int IntKind.i64) (Ty.pair (Ty.slc true PairT) Ty.unit)) (o6_1, o6_2_1, ())), (1000030, Ent.own (Ty.slc true (Ty.int IntKind.u16)) o1000030)]
theorem Eback_l9 (v7 : Int) (v8 : Int) (v24 : Int) (v25 : Int) (v31 : Int) (v32 : Int) (o2_1 : Int) (o2_2_1 : List (Int × Int × Unit)) (o6_1 : Int) (o6_2_1 : List (Int × Int × Unit)) (o1000030 : List Int) : exec Eback 1000 (.code (loopAt (bodyOf Try.prog 48) 9).1 :: .inLoop (loopAt (bodyOf Try.prog 48) 9).1 :: (loopAt (bodyOf Try.prog 48) 9).2) (Eback_s9 v7 v8 v24 v25 v31 v32 o2_1 o2_2_1 o6_1 o6_2_1 o1000030) =
  cond (decide (v32 < v31)) (.need ((0 : Int) ≤ v32 ∧ v32 < (↑(List.length o1000030) : Int)) (cond (decide (v7 ≠ v32)) (.need (True) (cond (withinU v8 (List.getD o1000030 (Int.toNat v32) (0 : Int))) (.need (True ∧ [] ++ [Step.fld 1] = [] ++ [Step.fld 1] ∧ List.length o6_2_1 + List.length (List.set [((0 : Int), (0 : Int), ())] (Int.toNat (↑0 : Int)) (v7, v32, ())) ≤ 140737488355328 ∧ (List.length o6_2_1 + List.length (List.set [((0 : Int), (0 : Int), ())] (Int.toNat (↑0 : Int)) (v7, v32, ()))) * Ty.wb PairT ≤ 140737488355328) (.need (inK IntKind.i64 (v32 + (1 : Int))) (.cut (loopAt (bodyOf Try.prog 48) 9).1 (loopAt (bodyOf Try.prog 48) 9).2 (St.mk [(2, AV.ptr 2 []), (4, AV.at_ 1000030 []), (6, AV.ptr 6 []), (7, AV.val (Ty.int IntKind.i64) v7), (8, AV.val (Ty.int IntKind.u16) v8), (23, AV.at_ 1000030 []), (24, AV.val (Ty.int IntKind.i64) v24), (25, AV.val (Ty.int IntKind.i64) v25), (30, AV.at_ 1000030 []), (31, AV.val (Ty.int IntKind.i64) v31), (32, AV.val (Ty.int IntKind.i64) (v32 + (1 : Int)))] [(2, Ent.var (Ty.pair (Ty.int IntKind.i64) (Ty.pair (Ty.slc true PairT) Ty.unit)) (o2_1, o2_2_1, ())), (6, Ent.var (Ty.pair (Ty.int IntKind.i64) (Ty.pair (Ty.slc true PairT) Ty.unit)) (o6_1, o6_2_1 ++ List.set [((0 : Int), (0 : Int), ())] (Int.toNat (↑0 : Int)) (v7, v32, ()), ())), (1000030, Ent.own (Ty.slc true (Ty.int IntKind.u16)) o1000030)])))) (.need (inK IntKind.i64 (v32 + (1 : Int))) (.cut (loopAt (bodyOf Try.prog 48) 9).1 (loopAt (bodyOf Try.prog 48) 9).2 (St.mk [(2, AV.ptr 2 []), (4, AV.at_ 1000030 []), (6, AV.ptr 6 []), (7, AV.val (Ty.int IntKind.i64) v7), (8, AV.val (Ty.int IntKind.u16) v8), (23, AV.at_ 1000030 []), (24, AV.val (Ty.int IntKind.i64) v24), (25, AV.val (Ty.int IntKind.i64) v25), (30, AV.at_ 1000030 []), (31, AV.val (Ty.int IntKind.i64) v31), (32, AV.val (Ty.int IntKind.i64) (v32 + (1 : Int)))] [(2, Ent.var (Ty.pair (Ty.int IntKind.i64) (Ty.pair (Ty.slc true PairT) Ty.unit)) (o2_1, o2_2_1, ())), (6, Ent.var (Ty.pair (Ty.int IntKind.i64) (Ty.pair (Ty.slc true PairT) Ty.unit)) (o6_1, o6_2_1, ())), (1000030, Ent.own (Ty.slc true (Ty.int IntKind.u16)) o1000030)]))))) (.need (inK IntKind.i64 (v32 + (1 : Int))) (.cut (loopAt (bodyOf Try.prog 48) 9).1 (loopAt (bodyOf Try.prog 48) 9).2 (St.mk [(2, AV.ptr 2 []), (4, AV.at_ 1000030 []), (6, AV.ptr 6 []), (7, AV.val (Ty.int IntKind.i64) v7), (8, AV.val (Ty.int IntKind.u16) v8), (23, AV.at_ 1000030 []), (24, AV.val (Ty.int IntKind.i64) v24), (25, AV.val (Ty.int IntKind.i64) v25), (30, AV.at_ 1000030 []), (31, AV.val (Ty.int IntKind.i64) v31), (32, AV.val (Ty.int IntKind.i64) (v32 + (1 : Int)))] [(2, Ent.var (Ty.pair (Ty.int IntKind.i64) (Ty.pair (Ty.slc true PairT) Ty.unit)) (o2_1, o2_2_1, ())), (6, Ent.var (Ty.pair (Ty.int IntKind.i64) (Ty.pair (Ty.slc true PairT) Ty.unit)) (o6_1, o6_2_1, ())), (1000030, Ent.own (Ty.slc true (Ty.int IntKind.u16)) o1000030)]))))) (.need (inK IntKind.i64 (v25 + (1 : Int))) (.cut (loopAt (bodyOf Try.prog 48) 6).1 (loopAt (bodyOf Try.prog 48) 6).2 (St.mk [(2, AV.ptr 2 []), (4, AV.at_ 1000023 []), (6, AV.ptr 6 []), (23, AV.at_ 1000023 []), (24, AV.val (Ty.int IntKind.i64) v24), (25, AV.val (Ty.int IntKind.i64) (v25 + (1 : Int)))] [(2, Ent.var (Ty.pair (Ty.int IntKind.i64) (Ty.pair (Ty.slc true PairT) Ty.unit)) (o2_1, o2_2_1, ())), (6, Ent.var (Ty.pair (Ty.int IntKind.i64) (Ty.pair (Ty.slc true PairT) Ty.unit)) (o6_1, o6_2_1, ())), (1000023, Ent.own (Ty.slc true (Ty.int IntKind.u16)) o1000030)]))) := by kernel_rfl
theorem cback_valid : cback.Valid Try.prog 48 := by
  refine Ctr.valid_of Eback_ok rfl rfl Try.func48 (c := bodyOf Try.prog 48) rfl rfl Fback_ok rfl ?_
  rintro ⟨(l : List Int), ⟨⟩⟩ - -
  refine exec_sound (n := 1000) Eback_ok Fback_ok ?_
  refine holds_of_eq (Eback_t l) ?_
  have hd : backR l = if lcheck l ≠ 0 then ((0, [], ()), lcheck l, ()) else ((((firmL l).length : Int), pairsF (firmL l).length (backG (firmL l)), ()), 0, ()) := rfl
  have hf : firmR l = if lcheck l ≠ 0 then ([], lcheck l, ()) else (firmL l, 0, ()) := rfl
  by_cases h0 : lcheck l ≠ 0
  · rw [if_pos h0] at hd hf
    rw [hf]
    simp only [holds_cond, Tree.holds, true_and, true_implies, decide_eq_true_eq, decide_eq_false_iff_not, Bool.not_eq_true', Bool.not_eq_false', Int.toNat_natCast, inK_i64, List.length_set, List.length_cons, List.length_nil]
    exact ⟨fun _ => hd.symm, fun c => absurd h0 c⟩
  have hl := lcheck_len (Decidable.not_not.1 h0)
  have hfl : (firmL l).length ≤ l.length := List.length_filter_le _ _
  rw [if_neg h0] at hd hf
  rw [hf]
  simp only [holds_cond, Tree.holds, true_and, true_implies, decide_eq_true_eq, decide_eq_false_iff_not, Bool.not_eq_true', Bool.not_eq_false', Int.toNat_natCast, inK_i64, List.length_set, List.length_cons, List.length_nil]
  generalize firmL l = F at *
  have hF : F.length * F.length ≤ 300 * 300 := Nat.mul_le_mul (by omega) (by omega)
  refine ⟨fun c => absurd rfl c, fun _ => ?_⟩
  refine Reach.loopI Eback_ok Fback_ok (fun a : Nat => Eback_s6 (F.length : Int) (a : Int) 0 [] (F.length : Int) (pairsM F.length (backG F) a 0) F) (fun a => a ≤ F.length) (fun a => F.length - a) 1000 (fun _ => ⟨uniq_of rfl, uniq_of rfl⟩) ?_ 0 (by omega)
  rintro a k1 - ih
  have k1 : a ≤ F.length := k1
  refine holds_of_eq (Eback_l6 ..) ?_
  simp only [holds_cond, Tree.holds, true_and, true_implies, decide_eq_true_eq, decide_eq_false_iff_not, Bool.not_eq_true', Bool.not_eq_false', Int.toNat_natCast, inK_i64, List.length_set, List.length_cons, List.length_nil]
  refine ⟨fun c => ⟨by omega, fun _ => ?_⟩, fun c => ?_⟩
  · refine Reach.loopI Eback_ok Fback_ok (fun b : Nat => Eback_s9 (a : Int) (F.getD a 0) (F.length : Int) (a : Int) (F.length : Int) (b : Int) 0 [] (F.length : Int) (pairsM F.length (backG F) a b) F) (fun b => b ≤ F.length) (fun b => F.length - b) 1000 (fun _ => ⟨uniq_of rfl, uniq_of rfl⟩) ?_ 0 (by omega)
    rintro b k2 - ih2
    have k2 : b ≤ F.length := k2
    refine holds_of_eq (Eback_l9 ..) ?_
    have hml := pairsM_le (g := backG F) k1 k2
    simp only [holds_cond, Tree.holds, true_and, true_implies, decide_eq_true_eq, decide_eq_false_iff_not, Bool.not_eq_true', Bool.not_eq_false', Int.toNat_natCast, inK_i64, List.length_set, List.length_cons, List.length_nil, wb_pair]
    refine ⟨fun d => ⟨by omega, fun _ => ?_⟩, fun d => ⟨by omega, fun _ => ?_⟩⟩
    · have next := ih2 (b + 1) (by show b + 1 ≤ F.length; omega) (by omega)
      rw [pairsM_step] at next
      refine ⟨fun e1 => ⟨fun e2 => ⟨⟨by omega, by omega⟩, fun _ => ⟨by omega, fun _ => ?_⟩⟩, fun e2 => ⟨by omega, fun _ => ?_⟩⟩, fun e1 => ⟨by omega, fun _ => ?_⟩⟩
      · rw [if_pos (by rw [backG, e2, decide_eq_true (by omega)]; rfl)] at next; exact next
      · rw [if_neg (by rw [backG, e2, Bool.and_false]; decide)] at next; exact next
      · rw [if_neg (by rw [backG, decide_eq_false (by omega), Bool.false_and]; decide)] at next; exact next
    · have hb : b = F.length := by omega
      subst hb
      have next := ih (a + 1) (by show a + 1 ≤ F.length; omega) (by omega)
      rw [← pairsM_row] at next
      exact next
  · have ha : a = F.length := by omega
    subst ha
    rw [hd, pairsM_end]; rfl
end Go.Proofs.Ytehmefjnkbjiiaa
