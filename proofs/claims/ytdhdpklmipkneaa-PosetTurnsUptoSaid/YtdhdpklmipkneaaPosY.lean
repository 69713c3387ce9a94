/- PosetTurns: of small arguments. -/
import Derived.Test.YtdhdpklmipkneaaPosD
namespace Go.Proofs.Ytdhdpklmipkneaa
open Go.Ex Go.Sort
set_option maxRecDepth 100000
def ceqPP : Ctr := { ps := [.v (.slc false PairT), .v (.slc false PairT)], rs := [.bool], pre := fun _ => True, fn := fun x => (decide ((show List (PairD) from x.1) = (show List (PairD) from x.2.1)), ()), out := fun _ => () }
noncomputable def EeqPP : Env := { P := Try.prog, tt := tt, ctr := [], res := [Go.ResultVar.tmp 4], rs := [Ty.bool], ps := [PK.v (Ty.slc false PairT), PK.v (Ty.slc false PairT)], cuts := [(4, [(0, none), (1, none), (12, none), (13, none)])], nt := 26 }
theorem EeqPP_ok : EnvOk EeqPP := envOk tt_ok trivial
theorem FeqPP_ok : FnOk EeqPP Try.f55 := ⟨rfl, rfl⟩
theorem EeqPP_t (x0 : List (Int × Int × Unit)) (x1 : List (Int × Int × Unit)) : exec EeqPP 1000 [.code (bodyOf Try.prog 55)] (initSt ceqPP.ps ((x0, x1, ()))) =
  cond (decide ((↑(List.length x0) : Int) ≠ (↑(List.length x1) : Int))) (.ret ((false, ()))) (.cut (loopAt (bodyOf Try.prog 55) 4).1 (loopAt (bodyOf Try.prog 55) 4).2 (St.mk [(0, AV.val (Ty.slc false PairT) x0), (1, AV.val (Ty.slc false PairT) x1), (12, AV.val (Ty.int IntKind.i64) (↑(List.length x0) : Int)), (13, AV.val (Ty.int IntKind.i64) (0 : Int))] [])) := by kernel_rfl
def EeqPP_s4 (v0 : List (Int × Int × Unit)) (v1 : List (Int × Int × Unit)) (v12 : Int) (v13 : Int) : St := St.mk [(0, AV.val (Ty.slc false PairT) v0), (1, AV.val (Ty.slc false PairT) v1), (12, AV.val (Ty.int IntKind.i64) v12), (13, AV.val (Ty.int IntKind.i64) v13)] []
theorem EeqPP_l4 (v0 : List (Int × Int × Unit)) (v1 : List (Int × Int × Unit)) (v12 : Int) (v13 : Int) : exec EeqPP 1000 (.code (loopAt (bodyOf Try.prog 55) 4).1 :: .inLoop (loopAt (bodyOf Try.prog 55) 4).1 :: (loopAt (bodyOf Try.prog 55) 4).2) (EeqPP_s4 v0 v1 v12 v13) =
  cond (decide (v13 < v12)) (.need ((0 : Int) ≤ v13 ∧ v13 < (↑(List.length v0) : Int)) (.need ((0 : Int) ≤ v13 ∧ v13 < (↑(List.length v1) : Int)) (cond (!eqD PairT (List.getD v0 (Int.toNat v13) ((0 : Int), (0 : Int), ())) (List.getD v1 (Int.toNat v13) ((0 : Int), (0 : Int), ()))) (.ret ((false, ()))) (.need (inK IntKind.i64 (v13 + (1 : Int))) (.cut (loopAt (bodyOf Try.prog 55) 4).1 (loopAt (bodyOf Try.prog 55) 4).2 (St.mk [(0, AV.val (Ty.slc false PairT) v0), (1, AV.val (Ty.slc false PairT) v1), (12, AV.val (Ty.int IntKind.i64) v12), (13, AV.val (Ty.int IntKind.i64) (v13 + (1 : Int)))] [])))))) (.ret ((true, ()))) := by kernel_rfl
theorem ceqPP_valid : ceqPP.Valid Try.prog 55 := by
  refine Ctr.valid_of EeqPP_ok rfl rfl Try.func55 (c := bodyOf Try.prog 55) rfl rfl FeqPP_ok rfl ?_
  rintro ⟨(l : List (PairD)), (m : List (PairD)), ⟨⟩⟩ - ⟨⟨hl, -⟩, -⟩
  have hl : l.length ≤ 9223372036854775807 := hl
  refine exec_sound (n := 1000) EeqPP_ok FeqPP_ok ?_
  refine holds_of_eq (EeqPP_t l m) ?_
  have fin : ∀ {b : Bool}, (b = true ↔ l = m) → ((b, ()) : Bool × Unit) = (decide (l = m), ()) := fun {b} h => by
    cases b with
    | true => rw [decide_eq_true (h.1 rfl)]
    | false => rw [decide_eq_false (fun e => by cases h.2 e)]
  simp only [holds_cond, Tree.holds, true_and, true_implies, decide_eq_true_eq, decide_eq_false_iff_not, Bool.not_eq_true', Bool.not_eq_false', Int.toNat_natCast, inK_i64, List.length_set, List.length_cons, List.length_nil]
  refine ⟨fun c => fin ⟨fun h => (by cases h), fun h => absurd (congrArg (fun q : List (PairD) => (q.length : Int)) h) c⟩, fun c => ?_⟩
  refine Reach.loopI EeqPP_ok FeqPP_ok (fun i : Nat => EeqPP_s4 l m (l.length : Int) (i : Int)) (fun i => i ≤ l.length ∧ ∀ j, j < i → l.getD j (0, 0, ()) = m.getD j (0, 0, ()))
    (fun i => l.length - i) 1000 (fun _ => ⟨uniq_of rfl, uniq_of rfl⟩) ?_ 0 ⟨Nat.zero_le _, fun j hj => by omega⟩
  rintro i ⟨k1, k2⟩ - ih
  refine holds_of_eq (EeqPP_l4 ..) ?_
  have c : l.length = m.length := by omega
  simp only [holds_cond, Tree.holds, true_and, true_implies, decide_eq_true_eq, decide_eq_false_iff_not, Bool.not_eq_true', Bool.not_eq_false', Int.toNat_natCast, inK_i64, List.length_set, List.length_cons, List.length_nil]
  refine ⟨fun d1 => ⟨by omega, fun _ => ⟨by omega, fun _ => ⟨fun d2 => fin ⟨fun h => (by cases h), fun h => absurd (congrArg (fun q : List (PairD) => q.getD i (0, 0, ())) h) (eqPairN d2)⟩, fun d2 => ⟨by omega, fun _ => ih (i + 1) ⟨by omega, fun j hj => ?_⟩ (by omega)⟩⟩⟩⟩, fun d1 => fin ⟨fun _ => eq_of_getD c (fun j hj => k2 j (by omega)), fun _ => rfl⟩⟩
  rcases Nat.lt_or_ge j i with h | h
  · exact k2 j h
  · obtain rfl : j = i := by omega
    exact eqPairP.1 d2
def cPosetTurns : Ctr := smallC [Pos]
noncomputable def EPosetTurns : Env := { P := Try.prog, tt := tt, ctr := [(54, ccloseR), (57, cchains), (58, clevels), (55, ceqPP), (56, ccontPP)], res := [Go.ResultVar.tmp 2], rs := [Ty.bool], ps := [PK.v (Ty.pair (Ty.int IntKind.i64) (Ty.pair (Ty.slc false PairT) Ty.unit))], cuts := [(6, [(1, none), (5, none), (42, none), (43, none), (44, none)]), (15, [(1, none), (5, none), (8, some (Ty.slc true PairT)), (10, some (Ty.slc true PairT)), (78, some (Ty.slc true PairT)), (79, none), (80, none)])], nt := 132 }
theorem EPosetTurns_ok : EnvOk EPosetTurns := envOk tt_ok ⟨ccloseR_valid, cchains_valid, clevels_valid, ceqPP_valid, ccontPP_valid, trivial⟩
theorem FPosetTurns_ok : FnOk EPosetTurns Try.f15 := ⟨rfl, rfl⟩
theorem EPosetTurns_t (x0_1 : Int) (x0_2_1 : List (Int × Int × Unit)) : exec EPosetTurns 1000 [.code (bodyOf Try.prog 15)] (initSt cPosetTurns.ps (((x0_1, x0_2_1, ()), ()))) =
  .need (True) (.need (True) (.cut (loopAt (bodyOf Try.prog 15) 6).1 (loopAt (bodyOf Try.prog 15) 6).2 (St.mk [(1, AV.ptr 1 []), (5, AV.ptr 5 []), (42, AV.val (Ty.slc false PairT) x0_2_1), (43, AV.val (Ty.int IntKind.i64) (↑(List.length x0_2_1) : Int)), (44, AV.val (Ty.int IntKind.i64) (0 : Int))] [(1, Ent.var (Ty.pair (Ty.int IntKind.i64) (Ty.pair (Ty.slc false PairT) Ty.unit)) (x0_1, x0_2_1, ())), (5, Ent.var (Ty.pair (Ty.int IntKind.i64) (Ty.pair (Ty.slc true PairT) Ty.unit)) (x0_1, [], ()))]))) := by kernel_rfl
def EPosetTurns_s6 (v42 : List (Int × Int × Unit)) (v43 : Int) (v44 : Int) (o1_1 : Int) (o1_2_1 : List (Int × Int × Unit)) (o5_1 : Int) (o5_2_1 : List (Int × Int × Unit)) : St := St.mk [(1, AV.ptr 1 []), (5, AV.ptr 5 []), (42, AV.val (Ty.slc false PairT) v42), (43, AV.val (Ty.int IntKind.i64) v43), (44, AV.val (Ty.int IntKind.i64) v44)] [(1, Ent.var (Ty.pair (Ty.int IntKind.i64) (Ty.pair (Ty.slc false PairT) Ty.unit)) (o1_1, o1_2_1, ())), (5, Ent.var (Ty.pair (Ty.int IntKind.i64) (Ty.pair (Ty.slc true PairT) Ty.unit)) (o5_1, o5_2_1, ()))]
theorem EPosetTurns_l6 (v42 : List (Int × Int × Unit)) (v43 : Int) (v44 : Int) (o1_1 : Int) (o1_2_1 : List (Int × Int × Unit)) (o5_1 : Int) (o5_2_1 : List (Int × Int × Unit)) : exec EPosetTurns 1000 (.code (loopAt (bodyOf Try.prog 15) 6).1 :: .inLoop (loopAt (bodyOf Try.prog 15) 6).1 :: (loopAt (bodyOf Try.prog 15) 6).2) (EPosetTurns_s6 v42 v43 v44 o1_1 o1_2_1 o5_1 o5_2_1) =
  cond (decide (v44 < v43)) (.need ((0 : Int) ≤ v44 ∧ v44 < (↑(List.length v42) : Int)) (.need (True ∧ [] ++ [Step.fld 1] = [] ++ [Step.fld 1] ∧ List.length o5_2_1 + List.length (List.set [((0 : Int), (0 : Int), ())] (Int.toNat (↑0 : Int)) (Prod.fst (Prod.snd (List.getD v42 (Int.toNat v44) ((0 : Int), (0 : Int), ()))), Prod.fst (List.getD v42 (Int.toNat v44) ((0 : Int), (0 : Int), ())), ())) ≤ 140737488355328 ∧ (List.length o5_2_1 + List.length (List.set [((0 : Int), (0 : Int), ())] (Int.toNat (↑0 : Int)) (Prod.fst (Prod.snd (List.getD v42 (Int.toNat v44) ((0 : Int), (0 : Int), ()))), Prod.fst (List.getD v42 (Int.toNat v44) ((0 : Int), (0 : Int), ())), ()))) * Ty.wb PairT ≤ 140737488355328) (.need (inK IntKind.i64 (v44 + (1 : Int))) (.cut (loopAt (bodyOf Try.prog 15) 6).1 (loopAt (bodyOf Try.prog 15) 6).2 (St.mk [(1, AV.ptr 1 []), (5, AV.ptr 5 []), (42, AV.val (Ty.slc false PairT) v42), (43, AV.val (Ty.int IntKind.i64) v43), (44, AV.val (Ty.int IntKind.i64) (v44 + (1 : Int)))] [(1, Ent.var (Ty.pair (Ty.int IntKind.i64) (Ty.pair (Ty.slc false PairT) Ty.unit)) (o1_1, o1_2_1, ())), (5, Ent.var (Ty.pair (Ty.int IntKind.i64) (Ty.pair (Ty.slc true PairT) Ty.unit)) (o5_1, o5_2_1 ++ List.set [((0 : Int), (0 : Int), ())] (Int.toNat (↑0 : Int)) (Prod.fst (Prod.snd (List.getD v42 (Int.toNat v44) ((0 : Int), (0 : Int), ()))), Prod.fst (List.getD v42 (Int.toNat v44) ((0 : Int), (0 : Int), ())), ()), ()))]))))) (.need (True) (.need (True) (cond (decide (Prod.fst (Prod.snd (closeR o1_1 o1_2_1)) ≠ (0 : Int))) (.ret ((decide (Prod.fst (Prod.snd (closeR o1_1 o1_2_1)) = Prod.fst (Prod.snd (closeR o5_1 o5_2_1))), ()))) (cond (decide (Prod.fst (Prod.snd (closeR o5_1 o5_2_1)) ≠ (0 : Int))) (.ret ((decide (Prod.fst (Prod.snd (closeR o1_1 o1_2_1)) = Prod.fst (Prod.snd (closeR o5_1 o5_2_1))), ()))) (.cut (loopAt (bodyOf Try.prog 15) 15).1 (loopAt (bodyOf Try.prog 15) 15).2 (St.mk [(1, AV.ptr 1 []), (5, AV.ptr 5 []), (8, AV.at_ 1000078 []), (10, AV.at_ 1000010 []), (78, AV.at_ 1000078 []), (79, AV.val (Ty.int IntKind.i64) (↑(List.length (Prod.fst (closeR o1_1 o1_2_1))) : Int)), (80, AV.val (Ty.int IntKind.i64) (0 : Int))] [(1, Ent.var (Ty.pair (Ty.int IntKind.i64) (Ty.pair (Ty.slc false PairT) Ty.unit)) (o1_1, o1_2_1, ())), (5, Ent.var (Ty.pair (Ty.int IntKind.i64) (Ty.pair (Ty.slc true PairT) Ty.unit)) (o5_1, o5_2_1, ())), (1000010, Ent.own (Ty.slc true PairT) (Prod.fst (closeR o5_1 o5_2_1))), (1000078, Ent.own (Ty.slc true PairT) (Prod.fst (closeR o1_1 o1_2_1)))])))))) := by kernel_rfl
def EPosetTurns_s15 (v79 : Int) (v80 : Int) (o1_1 : Int) (o1_2_1 : List (Int × Int × Unit)) (o5_1 : Int) (o5_2_1 : List (Int × Int × Unit)) (o1000010 : List (Int × Int × Unit)) (o1000078 : List (Int × Int × Unit)) : St := St.mk [(1, AV.ptr 1 []), (5, AV.ptr 5 []), (8, AV.at_ 1000078 []), (10, AV.at_ 1000010 []), (78, AV.at_ 1000078 []), (79, AV.val (Ty.int IntKind.i64) v79), (80, AV.val (Ty.int IntKind.i64) v80)] [(1, Ent.var (Ty.pair (Ty.int IntKind.i64) (Ty.pair (Ty.slc false PairT) Ty.unit)) (o1_1, o1_2_1, ())), (5, Ent.var (Ty.pair (Ty.int IntKind.i64) (Ty.pair (Ty.slc true PairT) Ty.unit)) (o5_1, o5_2_1, ())), (1000010, Ent.own (Ty.slc true PairT) o1000010), (1000078, Ent.own (Ty.slc true PairT) o1000078)]
theorem EPosetTurns_l15 (v79 : Int) (v80 : Int) (o1_1 : Int) (o1_2_1 : List (Int × Int × Unit)) (o5_1 : Int) (o5_2_1 : List (Int × Int × Unit)) (o1000010 : List (Int × Int × Unit)) (o1000078 : List (Int × Int × Unit)) : exec EPosetTurns 1000 (.code (loopAt (bodyOf Try.prog 15) 15).1 :: .inLoop (loopAt (bodyOf Try.prog 15) 15).1 :: (loopAt (bodyOf Try.prog 15) 15).2) (EPosetTurns_s15 v79 v80 o1_1 o1_2_1 o5_1 o5_2_1 o1000010 o1000078) =
  cond (decide (v80 < v79)) (.need ((0 : Int) ≤ v80 ∧ v80 < (↑(List.length o1000078) : Int)) (.need (True) (cond (!decide ((Prod.fst (Prod.snd (List.getD o1000078 (Int.toNat v80) ((0 : Int), (0 : Int), ()))), Prod.fst (List.getD o1000078 (Int.toNat v80) ((0 : Int), (0 : Int), ())), ()) ∈ o1000010)) (.ret ((false, ()))) (.need (inK IntKind.i64 (v80 + (1 : Int))) (.cut (loopAt (bodyOf Try.prog 15) 15).1 (loopAt (bodyOf Try.prog 15) 15).2 (St.mk [(1, AV.ptr 1 []), (5, AV.ptr 5 []), (8, AV.at_ 1000078 []), (10, AV.at_ 1000010 []), (78, AV.at_ 1000078 []), (79, AV.val (Ty.int IntKind.i64) v79), (80, AV.val (Ty.int IntKind.i64) (v80 + (1 : Int)))] [(1, Ent.var (Ty.pair (Ty.int IntKind.i64) (Ty.pair (Ty.slc false PairT) Ty.unit)) (o1_1, o1_2_1, ())), (5, Ent.var (Ty.pair (Ty.int IntKind.i64) (Ty.pair (Ty.slc true PairT) Ty.unit)) (o5_1, o5_2_1, ())), (1000010, Ent.own (Ty.slc true PairT) o1000010), (1000078, Ent.own (Ty.slc true PairT) o1000078)])))))) (.need (True) (.need (True) (.need (True) (.need (True) (cond (decide ((↑(List.length o1000078) : Int) = (↑(List.length o1000010) : Int))) (cond (decide ((↑(List.length (Prod.fst (chainsR o1_1 o1_2_1))) : Int) = (↑(List.length (Prod.fst (chainsR o5_1 o5_2_1))) : Int))) (.ret ((decide ((↑(List.length (Prod.fst (levelsR o1_1 o1_2_1))) : Int) = (↑(List.length (Prod.fst (levelsR o5_1 o5_2_1))) : Int)), ()))) (.ret ((false, ())))) (.ret ((false, ())))))))) := by kernel_rfl
theorem blkL_len {α : Type} {f : α → Nat} {c : Nat} (h : ∀ x, c ≤ f x) : ∀ l : List α, c * l.length ≤ bulkL f l
  | [] => by simp [bulkL]
  | x :: l => by have h1 := h x; have h2 := blkL_len h l; simp only [bulkL, List.length_cons, Nat.mul_add]; omega
theorem cPosetTurns_valid : (smallC [Pos]).Valid Try.prog 15 := by
  refine Ctr.valid_of EPosetTurns_ok rfl rfl Try.func15 (c := bodyOf Try.prog 15) rfl rfl FPosetTurns_ok rfl ?_
  rintro ⟨⟨(n0 : Int), (l : List PairD), ⟨⟩⟩, ⟨⟩⟩ hp -
  refine exec_sound (n := 1000) EPosetTurns_ok FPosetTurns_ok ?_
  refine holds_of_eq (EPosetTurns_t n0 l) ?_
  have hlen : l.length ≤ 1048576 := by
    have h2 := blkL_len (f := Ty.bulk PairT) (c := 1) (fun x => by
      show 1 ≤ 1 + (1 + 0); omega) l
    have h1 : (1 + ((bulkL (Ty.bulk PairT) l + 1) + 0)) + 0 ≤ 1048576 := hp
    omega
  have hw : Ty.wb (.pair (.int .i64) (.pair (.int .i64) .unit)) = 16 := rfl
  simp only [holds_cond, Tree.holds, true_and, true_implies, decide_eq_true_eq, decide_eq_false_iff_not, Bool.not_eq_true', Bool.not_eq_false', Int.toNat_natCast, inK_i64, List.length_set, List.length_cons, List.length_nil, hw]
  refine Reach.loopI EPosetTurns_ok FPosetTurns_ok (fun i : Nat => EPosetTurns_s6 l (l.length : Int) (i : Int) n0 l n0 ((l.take i).map flipP)) (fun i => i ≤ l.length) (fun i => l.length - i) 1000 (fun _ => ⟨uniq_of rfl, uniq_of rfl⟩) ?_ 0 (by omega)
  rintro i k1 - ih
  have k1 : i ≤ l.length := k1
  have kl : ((l.take i).map flipP).length = i := by rw [List.length_map, List.length_take]; omega
  refine holds_of_eq (EPosetTurns_l6 ..) ?_
  simp only [holds_cond, Tree.holds, true_and, true_implies, decide_eq_true_eq, decide_eq_false_iff_not, Bool.not_eq_true', Bool.not_eq_false', Int.toNat_natCast, inK_i64, List.length_set, List.length_cons, List.length_nil, hw]
  refine ⟨fun c => ⟨by omega, fun _ => ⟨⟨by omega, by omega⟩, fun _ => ⟨by omega, fun _ => ?_⟩⟩⟩, fun c => ?_⟩
  · have next := ih (i + 1) (by show i + 1 ≤ l.length; omega) (by show _ - (i + 1) < _ - i; omega)
    rw [take_s1 (by omega) (0, 0, ()), List.map_append] at next
    exact next
  rw [List.take_of_length_le (by omega)]
  have ec : ∀ l : List PairD, (closeR n0 l).2.1 = pcheck n0 l := fun l => by
    rw [closeR]; split
    · rfl
    · rename_i h; exact (Decidable.not_not.1 h).symm
  rw [ec, ec, pcheck_flip]
  refine ⟨fun _ => yesd rfl, fun d => ⟨fun d2 => absurd d2 d, fun _ => ?_⟩⟩
  obtain ⟨n, rfl, hpo⟩ := pcheck_ok (Decidable.not_not.1 d)
  rw [closeR_ok hpo, closeR_ok hpo.flip]
  have hch := chains_flip hpo
  have hle := levels_flip hpo
  have hW := wk_flip hpo.rng
  have hl1 := pairs_le (n := n) (R := wk (relP l) n) (R' := wk (relP (l.map flipP)) n) hW
  have hl2 := pairs_le (n := n) (R := wk (relP (l.map flipP)) n) (R' := wk (relP l) n) (fun a b => (hW b a).symm)
  have hpl := @pairsF_len n (wk (relP l) n)
  have hn20 : n * n ≤ 20 * 20 := Nat.mul_le_mul hpo.n20 hpo.n20
  have hmem : ∀ q ∈ pairsF n (wk (relP l) n), flipP q ∈ pairsF n (wk (relP (l.map flipP)) n) := fun q hq => (pairs_flip hW).2 hq
  generalize hl' : l.map flipP = l' at *
  generalize pairsF n (wk (relP l) n) = A at *
  generalize pairsF n (wk (relP l') n) = B at *
  refine Reach.loopI EPosetTurns_ok FPosetTurns_ok (fun j : Nat => EPosetTurns_s15 (A.length : Int) (j : Int) (n : Int) l (n : Int) l' B A) (fun j => j ≤ A.length) (fun j => A.length - j) 1000 (fun _ => ⟨uniq_of rfl, uniq_of rfl⟩) ?_ 0 (Nat.zero_le _)
  rintro j k2 - ih2
  have k2 : j ≤ A.length := k2
  refine holds_of_eq (EPosetTurns_l15 ..) ?_
  simp only [holds_cond, Tree.holds, true_and, true_implies, decide_eq_true_eq, decide_eq_false_iff_not, Bool.not_eq_true', Bool.not_eq_false', Int.toNat_natCast, inK_i64, List.length_set, List.length_cons, List.length_nil]
  refine ⟨fun e => ⟨by omega, fun _ => ⟨fun f => ?_, fun f => ⟨by omega, fun _ => ih2 (j + 1) (by show j + 1 ≤ A.length; omega) (by omega)⟩⟩⟩, fun e => ⟨fun _ => ⟨fun _ => yesd (by omega), fun h => absurd (by omega) h⟩, fun h => absurd (by omega) h⟩⟩
  exact absurd (hmem _ (getD_mem (d := (0, 0, ())) (show j < A.length by omega))) f
end Go.Proofs.Ytdhdpklmipkneaa
