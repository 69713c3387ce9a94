/- The law of those with nobody between. -/
import Derived.Test.YtcafiieffenohaaPoset2
namespace Go.Proofs.Ytcafiieffenohaa
open Go.Ex
set_option maxRecDepth 100000
theorem sum_len_take {α : Type} : ∀ (l : List (List α)) (i : Nat), ((l.take i).map List.length).sum ≤ l.flatten.length
  | [], i => by simp
  | a :: l, 0 => by simp
  | a :: l, i + 1 => by have := sum_len_take l i; simp only [List.take_succ_cons, List.map_cons, List.sum_cons, List.flatten_cons, List.length_append]; omega
def cgrowP : Ctr := { ps := [.nilS, .v I64], rs := [.slc true PairT], pre := fun x => LE.le (α := Int) 0 x.2.1 ∧ LE.le (α := Int) x.2.1 1048576, fn := fun _ => ([], ()), out := fun _ => () }
noncomputable def EgrowP : Env := { P := Try.prog, tt := tt, ctr := [], res := [Go.ResultVar.tmp 4], rs := [Ty.slc true PairT], ps := [PK.nilS, PK.v (Ty.int IntKind.i64)], cuts := [], nt := 27 }
theorem EgrowP_ok : EnvOk EgrowP := envOk tt_ok trivial
theorem FgrowP_ok : FnOk EgrowP Try.f69 := ⟨rfl, rfl⟩
theorem EgrowP_t (x1 : Int) : exec EgrowP 1000 [.code (bodyOf Try.prog 69)] (initSt cgrowP.ps (((), x1, ()))) =
  cond (decide (x1 < (0 : Int))) (.stuck "op") (.need (inK IntKind.i64 ((0 : Int) - (0 : Int))) (.need (inK IntKind.i64 (x1 - ((0 : Int) - (0 : Int)))) (cond (decide ((0 : Int) < x1 - ((0 : Int) - (0 : Int)))) (.need ((0 : Int) = (0 : Int) ∧ (0 : Int) = (0 : Int)) (.need ((0 : Int) ≤ x1 - ((0 : Int) - (0 : Int)) ∧ x1 - ((0 : Int) - (0 : Int)) ≤ (140737488355328 : Int) ∧ (x1 - ((0 : Int) - (0 : Int))) * (↑(Ty.wb PairT) : Int) ≤ (140737488355328 : Int)) (.need ((0 : Int) ≤ (0 : Int) ∧ (0 : Int) ≤ (0 : Int) ∧ (0 : Int) ≤ (↑(List.length (List.replicate (Int.toNat (x1 - ((0 : Int) - (0 : Int)))) ((0 : Int), (0 : Int), ()))) : Int)) (.ret ((cut2 (0 : Int) (0 : Int) (List.replicate (Int.toNat (x1 - ((0 : Int) - (0 : Int)))) ((0 : Int), (0 : Int), ())), ())))))) (.ret (([], ())))))) := by kernel_rfl
theorem cgrowP_valid : cgrowP.Valid Try.prog 69 := by
  refine Ctr.valid_of EgrowP_ok rfl rfl Try.func69 (c := bodyOf Try.prog 69) rfl rfl FgrowP_ok rfl ?_
  rintro ⟨⟨⟩, (n : Int), ⟨⟩⟩ ⟨(h0 : 0 ≤ n), (h1 : n ≤ 1048576)⟩ -
  refine exec_sound (n := 1000) EgrowP_ok FgrowP_ok ?_
  refine holds_of_eq (EgrowP_t n) ?_
  simp only [holds_cond, Tree.holds, true_and, true_implies, decide_eq_true_eq, decide_eq_false_iff_not, Bool.not_eq_true', Bool.not_eq_false', Int.toNat_natCast, inK_i64, List.length_set, List.length_cons, List.length_nil, wb_pair]
  refine ⟨fun h => by omega, fun _ => ⟨by omega, fun _ => ⟨by omega, fun _ => ⟨fun _ => ⟨by omega, fun _ => ⟨by omega, fun _ => ?_⟩⟩, fun _ => rfl⟩⟩⟩⟩
  rfl
def cconP : Ctr := { ps := [.v (.slc false (.slc false PairT))], rs := [.slc true PairT], pre := fun x => (List.flatten (α := PairD) x.1).length ≤ 1048576, fn := fun x => (List.flatten (α := PairD) x.1, ()), out := fun _ => () }
noncomputable def EconP : Env := { P := Try.prog, tt := tt, ctr := [(69, cgrowP)], res := [Go.ResultVar.tmp 2], rs := [Ty.slc true PairT], ps := [PK.v (Ty.slc false (Ty.slc false PairT))], cuts := [(3, [(0, none), (3, none), (9, none), (10, none), (11, none)]), (11, [(6, some (Ty.slc true PairT)), (25, none), (26, none), (27, none)])], nt := 36 }
theorem EconP_ok : EnvOk EconP := envOk tt_ok ⟨cgrowP_valid, trivial⟩
theorem FconP_ok : FnOk EconP Try.f37 := ⟨rfl, rfl⟩
theorem EconP_t (x0 : List (List (Int × Int × Unit))) : exec EconP 1000 [.code (bodyOf Try.prog 37)] (initSt cconP.ps ((x0, ()))) =
  .cut (loopAt (bodyOf Try.prog 37) 3).1 (loopAt (bodyOf Try.prog 37) 3).2 (St.mk [(0, AV.val (Ty.slc false (Ty.slc false PairT)) x0), (3, AV.val (Ty.int IntKind.i64) (0 : Int)), (9, AV.val (Ty.slc false (Ty.slc false PairT)) x0), (10, AV.val (Ty.int IntKind.i64) (↑(List.length x0) : Int)), (11, AV.val (Ty.int IntKind.i64) (0 : Int))] []) := by kernel_rfl
def EconP_s3 (v0 : List (List (Int × Int × Unit))) (v3 : Int) (v9 : List (List (Int × Int × Unit))) (v10 : Int) (v11 : Int) : St := St.mk [(0, AV.val (Ty.slc false (Ty.slc false PairT)) v0), (3, AV.val (Ty.int IntKind.i64) v3), (9, AV.val (Ty.slc false (Ty.slc false PairT)) v9), (10, AV.val (Ty.int IntKind.i64) v10), (11, AV.val (Ty.int IntKind.i64) v11)] []
theorem EconP_l3 (v0 : List (List (Int × Int × Unit))) (v3 : Int) (v9 : List (List (Int × Int × Unit))) (v10 : Int) (v11 : Int) : exec EconP 1000 (.code (loopAt (bodyOf Try.prog 37) 3).1 :: .inLoop (loopAt (bodyOf Try.prog 37) 3).1 :: (loopAt (bodyOf Try.prog 37) 3).2) (EconP_s3 v0 v3 v9 v10 v11) =
  cond (decide (v11 < v10)) (.need ((0 : Int) ≤ v11 ∧ v11 < (↑(List.length v9) : Int)) (.need (inK IntKind.i64 (v3 + (↑(List.length (List.getD v9 (Int.toNat v11) [])) : Int))) (cond (decide (v3 + (↑(List.length (List.getD v9 (Int.toNat v11) [])) : Int) < (0 : Int))) (.stuck "op") (.need (inK IntKind.i64 (v11 + (1 : Int))) (.cut (loopAt (bodyOf Try.prog 37) 3).1 (loopAt (bodyOf Try.prog 37) 3).2 (St.mk [(0, AV.val (Ty.slc false (Ty.slc false PairT)) v0), (3, AV.val (Ty.int IntKind.i64) (v3 + (↑(List.length (List.getD v9 (Int.toNat v11) [])) : Int))), (9, AV.val (Ty.slc false (Ty.slc false PairT)) v9), (10, AV.val (Ty.int IntKind.i64) v10), (11, AV.val (Ty.int IntKind.i64) (v11 + (1 : Int)))] [])))))) (.need ((0 : Int) ≤ v3 ∧ v3 ≤ (1048576 : Int)) (.cut (loopAt (bodyOf Try.prog 37) 11).1 (loopAt (bodyOf Try.prog 37) 11).2 (St.mk [(6, AV.at_ 1000006 []), (25, AV.val (Ty.slc false (Ty.slc false PairT)) v0), (26, AV.val (Ty.int IntKind.i64) (↑(List.length v0) : Int)), (27, AV.val (Ty.int IntKind.i64) (0 : Int))] [(1000006, Ent.own (Ty.slc true PairT) [])]))) := by kernel_rfl
def EconP_s11 (v25 : List (List (Int × Int × Unit))) (v26 : Int) (v27 : Int) (o1000006 : List (Int × Int × Unit)) : St := St.mk [(6, AV.at_ 1000006 []), (25, AV.val (Ty.slc false (Ty.slc false PairT)) v25), (26, AV.val (Ty.int IntKind.i64) v26), (27, AV.val (Ty.int IntKind.i64) v27)] [(1000006, Ent.own (Ty.slc true PairT) o1000006)]
theorem EconP_l11 (v25 : List (List (Int × Int × Unit))) (v26 : Int) (v27 : Int) (o1000006 : List (Int × Int × Unit)) : exec EconP 1000 (.code (loopAt (bodyOf Try.prog 37) 11).1 :: .inLoop (loopAt (bodyOf Try.prog 37) 11).1 :: (loopAt (bodyOf Try.prog 37) 11).2) (EconP_s11 v25 v26 v27 o1000006) =
  cond (decide (v27 < v26)) (.need ((0 : Int) ≤ v27 ∧ v27 < (↑(List.length v25) : Int)) (.need (List.length o1000006 + List.length (List.getD v25 (Int.toNat v27) []) ≤ 140737488355328 ∧ (List.length o1000006 + List.length (List.getD v25 (Int.toNat v27) [])) * Ty.wb PairT ≤ 140737488355328) (.need (inK IntKind.i64 (v27 + (1 : Int))) (.cut (loopAt (bodyOf Try.prog 37) 11).1 (loopAt (bodyOf Try.prog 37) 11).2 (St.mk [(6, AV.at_ 1000006 []), (25, AV.val (Ty.slc false (Ty.slc false PairT)) v25), (26, AV.val (Ty.int IntKind.i64) v26), (27, AV.val (Ty.int IntKind.i64) (v27 + (1 : Int)))] [(1000006, Ent.own (Ty.slc true PairT) (o1000006 ++ List.getD v25 (Int.toNat v27) []))]))))) (.ret ((o1000006, ()))) := by kernel_rfl
theorem cconP_valid : cconP.Valid Try.prog 37 := by
  refine Ctr.valid_of EconP_ok rfl rfl Try.func37 (c := bodyOf Try.prog 37) rfl rfl FconP_ok rfl ?_
  rintro ⟨(l : List (List (PairD))), ⟨⟩⟩ hp ⟨⟨hl, -⟩, -⟩
  have hl : l.length ≤ 9223372036854775807 := hl
  have hp : l.flatten.length ≤ 1048576 := hp
  refine exec_sound (n := 1000) EconP_ok FconP_ok ?_
  refine holds_of_eq (EconP_t l) ?_
  refine Reach.loopI EconP_ok FconP_ok (fun i : Nat => EconP_s3 l (((l.take i).map List.length).sum : Nat) l (l.length : Int) (i : Int)) (fun i => i ≤ l.length)
    (fun i => l.length - i) 1000 (fun _ => ⟨uniq_of rfl, uniq_of rfl⟩) ?_ 0 (Nat.zero_le _)
  rintro i k1 - ih
  have k1 : i ≤ l.length := k1
  refine holds_of_eq (EconP_l3 ..) ?_
  have hs := sum_len_take l i
  simp only [holds_cond, Tree.holds, true_and, true_implies, decide_eq_true_eq, decide_eq_false_iff_not, Bool.not_eq_true', Bool.not_eq_false', Int.toNat_natCast, inK_i64, List.length_set, List.length_cons, List.length_nil]
  refine ⟨fun c => ⟨by omega, fun _ => ?_⟩, fun c => ?_⟩
  · have tk := take_getD (show i < l.length by omega) ([] : List (PairD))
    have hs1 := sum_len_take l (i + 1)
    have e1 : ((l.take (i + 1)).map List.length).sum = ((l.take i).map List.length).sum + (l.getD i []).length := by rw [tk]; simp
    rw [e1] at hs1
    have := ih (i + 1) (by show i + 1 ≤ l.length; omega) (by omega)
    rw [e1] at this
    exact ⟨by omega, fun _ => ⟨fun h => by omega, fun _ => ⟨by omega, fun _ => this⟩⟩⟩
  · refine ⟨by omega, fun _ => ?_⟩
    refine Reach.loopI EconP_ok FconP_ok (fun i : Nat => EconP_s11 l (l.length : Int) (i : Int) (l.take i).flatten) (fun i => i ≤ l.length)
      (fun i => l.length - i) 1000 (fun _ => ⟨uniq_of rfl, uniq_of rfl⟩) ?_ 0 (Nat.zero_le _)
    rintro i k1 - ih
    have k1 : i ≤ l.length := k1
    refine holds_of_eq (EconP_l11 ..) ?_
    simp only [holds_cond, Tree.holds, true_and, true_implies, decide_eq_true_eq, decide_eq_false_iff_not, Bool.not_eq_true', Bool.not_eq_false', Int.toNat_natCast, inK_i64, List.length_set, List.length_cons, List.length_nil, wb_pair]
    refine ⟨fun c => ?_, fun c => ?_⟩
    · have tk := take_getD (show i < l.length by omega) ([] : List (PairD))
      have e1 : (l.take (i + 1)).flatten = (l.take i).flatten ++ l.getD i [] := by rw [tk]; simp
      have hb : ((l.take i).flatten ++ l.getD i []).length ≤ l.flatten.length := by
        rw [← e1]
        conv => rhs; rw [← List.take_append_drop (i + 1) l, List.flatten_append, List.length_append]
        omega
      rw [List.length_append] at hb
      have := ih (i + 1) (by show i + 1 ≤ l.length; omega) (by omega)
      rw [e1] at this
      exact ⟨by omega, fun _ => ⟨by omega, fun _ => ⟨by omega, fun _ => this⟩⟩⟩
    · rw [List.take_of_length_le (by omega)]
      rfl
theorem eqPair {a b : PairD} : eqD (Ty.pair (Ty.int IntKind.i64) (Ty.pair (Ty.int IntKind.i64) Ty.unit)) a b = true ↔ a = b := by
  obtain ⟨a1, a2, ⟨⟩⟩ := a
  obtain ⟨b1, b2, ⟨⟩⟩ := b
  show (decide (a1 = b1) && (decide (a2 = b2) && true)) = true ↔ _
  simp
theorem eqPairN {a b : PairD} (d : eqD (Ty.pair (Ty.int IntKind.i64) (Ty.pair (Ty.int IntKind.i64) Ty.unit)) a b = false) : ¬ a = b := fun h => by rw [eqPair.2 h] at d; cases d
def ceqP : Ctr := { ps := [.v (.slc false PairT), .v (.slc false PairT)], rs := [.bool], pre := fun _ => True, fn := fun x => (decide ((show List (PairD) from x.1) = (show List (PairD) from x.2.1)), ()), out := fun _ => () }
noncomputable def EeqP : Env := { P := Try.prog, tt := tt, ctr := [], res := [Go.ResultVar.tmp 4], rs := [Ty.bool], ps := [PK.v (Ty.slc false PairT), PK.v (Ty.slc false PairT)], cuts := [(4, [(0, none), (1, none), (12, none), (13, none)])], nt := 26 }
theorem EeqP_ok : EnvOk EeqP := envOk tt_ok trivial
theorem FeqP_ok : FnOk EeqP Try.f36 := ⟨rfl, rfl⟩
theorem EeqP_t (x0 : List (Int × Int × Unit)) (x1 : List (Int × Int × Unit)) : exec EeqP 1000 [.code (bodyOf Try.prog 36)] (initSt ceqP.ps ((x0, x1, ()))) =
  cond (decide ((↑(List.length x0) : Int) ≠ (↑(List.length x1) : Int))) (.ret ((false, ()))) (.cut (loopAt (bodyOf Try.prog 36) 4).1 (loopAt (bodyOf Try.prog 36) 4).2 (St.mk [(0, AV.val (Ty.slc false PairT) x0), (1, AV.val (Ty.slc false PairT) x1), (12, AV.val (Ty.int IntKind.i64) (↑(List.length x0) : Int)), (13, AV.val (Ty.int IntKind.i64) (0 : Int))] [])) := by kernel_rfl
def EeqP_s4 (v0 : List (Int × Int × Unit)) (v1 : List (Int × Int × Unit)) (v12 : Int) (v13 : Int) : St := St.mk [(0, AV.val (Ty.slc false PairT) v0), (1, AV.val (Ty.slc false PairT) v1), (12, AV.val (Ty.int IntKind.i64) v12), (13, AV.val (Ty.int IntKind.i64) v13)] []
theorem EeqP_l4 (v0 : List (Int × Int × Unit)) (v1 : List (Int × Int × Unit)) (v12 : Int) (v13 : Int) : exec EeqP 1000 (.code (loopAt (bodyOf Try.prog 36) 4).1 :: .inLoop (loopAt (bodyOf Try.prog 36) 4).1 :: (loopAt (bodyOf Try.prog 36) 4).2) (EeqP_s4 v0 v1 v12 v13) =
  cond (decide (v13 < v12)) (.need ((0 : Int) ≤ v13 ∧ v13 < (↑(List.length v0) : Int)) (.need ((0 : Int) ≤ v13 ∧ v13 < (↑(List.length v1) : Int)) (cond (!eqD PairT (List.getD v0 (Int.toNat v13) ((0 : Int), (0 : Int), ())) (List.getD v1 (Int.toNat v13) ((0 : Int), (0 : Int), ()))) (.ret ((false, ()))) (.need (inK IntKind.i64 (v13 + (1 : Int))) (.cut (loopAt (bodyOf Try.prog 36) 4).1 (loopAt (bodyOf Try.prog 36) 4).2 (St.mk [(0, AV.val (Ty.slc false PairT) v0), (1, AV.val (Ty.slc false PairT) v1), (12, AV.val (Ty.int IntKind.i64) v12), (13, AV.val (Ty.int IntKind.i64) (v13 + (1 : Int)))] [])))))) (.ret ((true, ()))) := by kernel_rfl
theorem ceqP_valid : ceqP.Valid Try.prog 36 := by
  refine Ctr.valid_of EeqP_ok rfl rfl Try.func36 (c := bodyOf Try.prog 36) rfl rfl FeqP_ok rfl ?_
  rintro ⟨(l : List (PairD)), (m : List (PairD)), ⟨⟩⟩ - ⟨⟨hl, -⟩, -⟩
  have hl : l.length ≤ 9223372036854775807 := hl
  refine exec_sound (n := 1000) EeqP_ok FeqP_ok ?_
  refine holds_of_eq (EeqP_t l m) ?_
  have fin : ∀ {b : Bool}, (b = true ↔ l = m) → ((b, ()) : Bool × Unit) = (decide (l = m), ()) := fun {b} h => by
    cases b with
    | true => rw [decide_eq_true (h.1 rfl)]
    | false => rw [decide_eq_false (fun e => by cases h.2 e)]
  simp only [holds_cond, Tree.holds, true_and, true_implies, decide_eq_true_eq, decide_eq_false_iff_not, Bool.not_eq_true', Bool.not_eq_false', Int.toNat_natCast, inK_i64, List.length_set, List.length_cons, List.length_nil]
  refine ⟨fun c => fin ⟨fun h => (by cases h), fun h => absurd (congrArg (fun q : List (PairD) => (q.length : Int)) h) c⟩, fun c => ?_⟩
  refine Reach.loopI EeqP_ok FeqP_ok (fun i : Nat => EeqP_s4 l m (l.length : Int) (i : Int)) (fun i => i ≤ l.length ∧ ∀ j, j < i → l.getD j (0, 0, ()) = m.getD j (0, 0, ()))
    (fun i => l.length - i) 1000 (fun _ => ⟨uniq_of rfl, uniq_of rfl⟩) ?_ 0 ⟨Nat.zero_le _, fun j hj => by omega⟩
  rintro i ⟨k1, k2⟩ - ih
  refine holds_of_eq (EeqP_l4 ..) ?_
  have c : l.length = m.length := by omega
  simp only [holds_cond, Tree.holds, true_and, true_implies, decide_eq_true_eq, decide_eq_false_iff_not, Bool.not_eq_true', Bool.not_eq_false', Int.toNat_natCast, inK_i64, List.length_set, List.length_cons, List.length_nil]
  refine ⟨fun d1 => ⟨by omega, fun _ => ⟨by omega, fun _ => ⟨fun d2 => fin ⟨fun h => (by cases h), fun h => absurd (congrArg (fun q : List (PairD) => q.getD i (0, 0, ())) h) (eqPairN d2)⟩, fun d2 => ⟨by omega, fun _ => ih (i + 1) ⟨by omega, fun j hj => ?_⟩ (by omega)⟩⟩⟩⟩, fun d1 => fin ⟨fun _ => eq_of_getD c (fun j hj => k2 j (by omega)), fun _ => rfl⟩⟩
  rcases Nat.lt_or_ge j i with h | h
  · exact k2 j h
  · obtain rfl : j = i := by omega
    exact eqPair.1 d2
def ccoverS : Ctr := { ps := [.v Pos], rs := [.slc false PairT, I64], pre := fun _ => True, fn := fun x => coverR x.1.1 x.1.2.1, out := fun _ => (), new := true }
theorem ccoverS_valid : ccoverS.Valid Try.prog 34 := ccoverR_valid.share (rs' := [.slc false PairT, I64]) rfl rfl rfl
def cPosetCover : Ctr := { ps := [.v Pos, .v I64], rs := [.bool], pre := fun _ => True, fn := fun _ => (true, ()), out := fun _ => () }
noncomputable def EPosetCover : Env := { P := Try.prog, tt := tt, ctr := [(35, ccloseR), (34, ccoverS), (36, ceqP), (37, cconP), (20, crest)], res := [Go.ResultVar.tmp 4], rs := [Ty.bool], ps := [PK.v (Ty.pair (Ty.int IntKind.i64) (Ty.pair (Ty.slc false PairT) Ty.unit)), PK.v (Ty.int IntKind.i64)], cuts := [], nt := 113 }
theorem EPosetCover_ok : EnvOk EPosetCover := envOk tt_ok ⟨ccloseR_valid, ccoverS_valid, ceqP_valid, cconP_valid, crest_valid, trivial⟩
theorem FPosetCover_ok : FnOk EPosetCover Try.f11 := ⟨rfl, rfl⟩
theorem EPosetCover_t (x0_1 : Int) (x0_2_1 : List (Int × Int × Unit)) (x1 : Int) : exec EPosetCover 1000 [.code (bodyOf Try.prog 11)] (initSt cPosetCover.ps (((x0_1, x0_2_1, ()), x1, ()))) =
  .need (True) (.need (True) (.need (True) (cond (decide (Prod.fst (Prod.snd (closeR x0_1 x0_2_1)) ≠ (0 : Int))) (.ret ((decide (Prod.fst (Prod.snd (closeR x0_1 x0_2_1)) = Prod.fst (Prod.snd (coverR x0_1 x0_2_1))), ()))) (cond (decide (Prod.fst (Prod.snd (coverR x0_1 x0_2_1)) ≠ (0 : Int))) (.ret ((decide (Prod.fst (Prod.snd (closeR x0_1 x0_2_1)) = Prod.fst (Prod.snd (coverR x0_1 x0_2_1))), ()))) (.need (True) (cond (decide (Prod.fst (Prod.snd (closeR x0_1 (Prod.fst (coverR x0_1 x0_2_1)))) ≠ (0 : Int))) (cond (decide (Prod.fst (Prod.snd (closeR x0_1 (Prod.fst (coverR x0_1 x0_2_1)))) = (0 : Int))) (cond (decide ((↑(List.length (Prod.fst (coverR x0_1 x0_2_1))) : Int) = (0 : Int))) (.ret ((decide ((↑(List.length (Prod.fst (closeR x0_1 x0_2_1))) : Int) = (0 : Int)), ()))) (.ret ((false, ())))) (.ret ((false, ())))) (.need (True) (cond (!decide (Prod.fst (closeR x0_1 (Prod.fst (coverR x0_1 x0_2_1))) = Prod.fst (closeR x0_1 x0_2_1))) (cond (decide (Prod.fst (Prod.snd (closeR x0_1 (Prod.fst (coverR x0_1 x0_2_1)))) = (0 : Int))) (cond (decide ((↑(List.length (Prod.fst (coverR x0_1 x0_2_1))) : Int) = (0 : Int))) (.ret ((decide ((↑(List.length (Prod.fst (closeR x0_1 x0_2_1))) : Int) = (0 : Int)), ()))) (.ret ((false, ())))) (.ret ((false, ())))) (cond (decide ((↑(List.length (Prod.fst (coverR x0_1 x0_2_1))) : Int) = (0 : Int))) (cond (decide (Prod.fst (Prod.snd (closeR x0_1 (Prod.fst (coverR x0_1 x0_2_1)))) = (0 : Int))) (cond (decide ((↑(List.length (Prod.fst (coverR x0_1 x0_2_1))) : Int) = (0 : Int))) (.ret ((decide ((↑(List.length (Prod.fst (closeR x0_1 x0_2_1))) : Int) = (0 : Int)), ()))) (.ret ((false, ())))) (.ret ((false, ())))) (.need ((↑(List.length (Prod.fst (coverR x0_1 x0_2_1))) : Int) ≤ (1000000 : Int)) (.need ((0 : Int) ≤ (0 : Int) ∧ (0 : Int) ≤ rest x1 (↑(List.length (Prod.fst (coverR x0_1 x0_2_1))) : Int) ∧ rest x1 (↑(List.length (Prod.fst (coverR x0_1 x0_2_1))) : Int) ≤ (↑(List.length (Prod.fst (coverR x0_1 x0_2_1))) : Int)) (.need (inK IntKind.i64 (rest x1 (↑(List.length (Prod.fst (coverR x0_1 x0_2_1))) : Int) + (1 : Int))) (.need ((0 : Int) ≤ rest x1 (↑(List.length (Prod.fst (coverR x0_1 x0_2_1))) : Int) + (1 : Int) ∧ rest x1 (↑(List.length (Prod.fst (coverR x0_1 x0_2_1))) : Int) + (1 : Int) ≤ (↑(List.length (Prod.fst (coverR x0_1 x0_2_1))) : Int) ∧ (↑(List.length (Prod.fst (coverR x0_1 x0_2_1))) : Int) ≤ (↑(List.length (Prod.fst (coverR x0_1 x0_2_1))) : Int)) (.need (List.length (List.flatten (List.set (List.set [[], []] (Int.toNat (↑0 : Int)) (cut2 (0 : Int) (rest x1 (↑(List.length (Prod.fst (coverR x0_1 x0_2_1))) : Int)) (Prod.fst (coverR x0_1 x0_2_1)))) (Int.toNat (↑1 : Int)) (cut2 (rest x1 (↑(List.length (Prod.fst (coverR x0_1 x0_2_1))) : Int) + (1 : Int)) (↑(List.length (Prod.fst (coverR x0_1 x0_2_1))) : Int) (Prod.fst (coverR x0_1 x0_2_1))))) ≤ 1048576) (.need (True) (cond (decide (Prod.fst (Prod.snd (closeR x0_1 (List.flatten (List.set (List.set [[], []] (Int.toNat (↑0 : Int)) (cut2 (0 : Int) (rest x1 (↑(List.length (Prod.fst (coverR x0_1 x0_2_1))) : Int)) (Prod.fst (coverR x0_1 x0_2_1)))) (Int.toNat (↑1 : Int)) (cut2 (rest x1 (↑(List.length (Prod.fst (coverR x0_1 x0_2_1))) : Int) + (1 : Int)) (↑(List.length (Prod.fst (coverR x0_1 x0_2_1))) : Int) (Prod.fst (coverR x0_1 x0_2_1))))))) = (0 : Int))) (.ret ((decide ((↑(List.length (Prod.fst (closeR x0_1 (List.flatten (List.set (List.set [[], []] (Int.toNat (↑0 : Int)) (cut2 (0 : Int) (rest x1 (↑(List.length (Prod.fst (coverR x0_1 x0_2_1))) : Int)) (Prod.fst (coverR x0_1 x0_2_1)))) (Int.toNat (↑1 : Int)) (cut2 (rest x1 (↑(List.length (Prod.fst (coverR x0_1 x0_2_1))) : Int) + (1 : Int)) (↑(List.length (Prod.fst (coverR x0_1 x0_2_1))) : Int) (Prod.fst (coverR x0_1 x0_2_1)))))))) : Int) < (↑(List.length (Prod.fst (closeR x0_1 x0_2_1))) : Int)), ()))) (.ret ((false, ()))))))))))))))))))) := by kernel_rfl
theorem cPosetCover_valid : cPosetCover.Valid Try.prog 11 := by
  refine Ctr.valid_of EPosetCover_ok rfl rfl Try.func11 (c := bodyOf Try.prog 11) rfl rfl FPosetCover_ok rfl ?_
  rintro ⟨⟨(n0 : Int), (l : List PairD), ⟨⟩⟩, (x : Int), ⟨⟩⟩ - -
  refine exec_sound (n := 1000) EPosetCover_ok FPosetCover_ok ?_
  refine holds_of_eq (EPosetCover_t n0 l x) ?_
  by_cases h : pcheck n0 l = 0
  · obtain ⟨n, rfl, hp⟩ := pcheck_ok h
    have hc := cover_ok hp
    have hlen := hc.len
    have hsame : closeR n (coverL n l) = (pairsF n (wk (relP l) n), 0, ()) := by
      rw [closeR_ok hc, pairsF_congr (fun a b _ _ => cover_same hp a b)]
    rw [closeR_ok hp, coverR_ok hp]
    simp only [hsame]
    simp only [holds_cond, Tree.holds, true_and, true_implies, decide_eq_true_eq, decide_eq_false_iff_not, Bool.not_eq_true', Bool.not_eq_false', Int.toNat_natCast, inK_i64, List.length_set, List.length_cons, List.length_nil, ne_eq, not_true_eq_false, not_false_eq_true, false_implies, decide_true, Bool.not_true, Bool.false_eq_true]
    by_cases h0 : (coverL n l).length = 0
    · have hnil : coverL n l = [] := List.length_eq_zero_iff.1 h0
      have hall : pairsF n (wk (relP l) n) = [] := by
        have : closeR n (coverL n l) = closeR n [] := by rw [hnil]
        have h1 := congrArg Prod.fst hsame
        rw [hnil, closeR_ok (sub_ok hp (l' := []) (by simp) (by simp)).1] at h1
        have h1 : pairsF n (wk (relP []) n) = pairsF n (wk (relP l) n) := h1
        rw [← h1]
        refine List.eq_nil_iff_forall_not_mem.2 (fun q hq => ?_)
        obtain ⟨a, b, _, _, hg, _⟩ := pairsF_mem.1 hq
        have := wk_least (f := relP []) (T := fun _ _ => False) (fun _ _ _ h _ => h) (fun a b h => by simp [relP] at h) hg
        exact this
      simp only [hnil, hall]
      simp
      rfl
    · have hk := rest_in (a := x) (n := ((coverL n l).length : Int)) (by omega)
      obtain ⟨i, hi⟩ := Int.eq_ofNat_of_zero_le hk.1
      have hil : i < (coverL n l).length := by omega
      have e1 : cut2 0 (i : Int) (coverL n l) = (coverL n l).take i := by rw [cut2]; simp
      have e2 : cut2 ((i : Int) + 1) ((coverL n l).length : Int) (coverL n l) = (coverL n l).drop (i + 1) := by
        rw [cut2, show Int.toNat ((i : Int) + 1) = i + 1 by omega, List.take_of_length_le (by rw [List.length_drop]; omega)]
      have e5 : ∀ u v : List PairD, List.flatten (List.set (List.set [([] : List PairD), []] (Int.toNat 0) u) (Int.toNat 1) v) = u ++ v := fun u v => by
        show List.flatten [u, v] = _
        simp
      have e6 : ∀ u v : List PairD, List.flatten (List.set (List.set [([] : List PairD), []] (Int.toNat ((0 : Nat) : Int)) u) (Int.toNat ((1 : Nat) : Int)) v) = u ++ v := e5
      have hmem : ∀ q, q ∈ (coverL n l).take i ++ (coverL n l).drop (i + 1) → q ∈ coverL n l := fun q hq => by
        rcases List.mem_append.1 hq with h | h
        · exact List.mem_of_mem_take h
        · exact List.mem_of_mem_drop h
      have hl2 : ((coverL n l).take i ++ (coverL n l).drop (i + 1)).length ≤ 600 := by rw [List.length_append, List.length_take, List.length_drop]; omega
      obtain ⟨s1, s2⟩ := sub_ok hc hmem hl2
      obtain ⟨a, b, ha, hb, hg, hq⟩ := pairsF_mem.1 (getD_mem (l := coverL n l) (d := (0, 0, ())) hil)
      have hno : ((a : Int), (b : Int), ()) ∉ (coverL n l).take i ++ (coverL n l).drop (i + 1) := by
        rw [← hq]
        have hnd : (coverL n l).Nodup := pairsF_nodup
        have hsplit : coverL n l = (coverL n l).take i ++ (coverL n l).getD i (0, 0, ()) :: (coverL n l).drop (i + 1) := by
          rw [← drop_getD hil (0, 0, ()), List.take_append_drop]
        rw [hsplit] at hnd
        have h1 := List.nodup_append.1 hnd
        have h2 := List.nodup_cons.1 h1.2.1
        intro hm
        rcases List.mem_append.1 hm with h | h
        · exact h1.2.2 _ h _ (by simp) rfl
        · exact h2.1 h
      have hneed := cover_need hp hmem hg hno
      have hlt := pairsF_lt (n := n) (g := wk (relP ((coverL n l).take i ++ (coverL n l).drop (i + 1))) n) (g' := wk (relP l) n) (fun a b h => cover_sub hp (s2 a b h)) ha hb hneed ((coverB_iff.1 hg).1)
      simp only [hi, e1, e2, e5, e6, closeR_ok s1]
      have hn0 : ¬ ((coverL n l).length : Int) = 0 := by omega
      refine ⟨fun c => absurd c hn0, fun _ => ⟨by omega, fun _ => ⟨by omega, fun _ => ⟨by omega, fun _ => ⟨by omega, fun _ => ⟨by omega, fun _ => ?_⟩⟩⟩⟩⟩⟩
      refine ⟨fun _ => ?_, fun c => absurd trivial c⟩
      show ((decide _, ()) : Bool × Unit) = (true, ())
      rw [decide_eq_true (by omega)]
  · have e1 : closeR n0 l = ([], pcheck n0 l, ()) := by rw [closeR, if_pos h]
    have e2 : coverR n0 l = ([], pcheck n0 l, ()) := by rw [coverR, if_pos h]
    rw [e1, e2]
    simp only [holds_cond, Tree.holds, true_and, true_implies, decide_eq_true_eq, decide_eq_false_iff_not, Bool.not_eq_true', Bool.not_eq_false', Int.toNat_natCast, inK_i64, List.length_set, List.length_cons, List.length_nil]
    refine ⟨fun _ => ?_, fun c => absurd h c⟩
    show ((decide _, ()) : Bool × Unit) = (true, ())
    rw [decide_eq_true (by trivial)]
end Go.Proofs.Ytcafiieffenohaa
