/- LatSizes: the walk, where what it reads is of bulk at most 1048576. -/
import Derived.Test.YtbcdpeogfghgcaaDowns
namespace Go.Proofs.Ytbcdpeogfghgcaa
open Go.Ex
set_option maxRecDepth 100000
def ceqU : Ctr := { ps := [.v (.slc false U16), .v (.slc false U16)], rs := [.bool], pre := fun _ => True, fn := fun x => (decide ((show List (Int) from x.1) = (show List (Int) from x.2.1)), ()), out := fun _ => () }
noncomputable def EeqU : Env := { P := Try.prog, tt := tt, ctr := [], res := [Go.ResultVar.tmp 4], rs := [Ty.bool], ps := [PK.v (Ty.slc false (Ty.int IntKind.u16)), PK.v (Ty.slc false (Ty.int IntKind.u16))], cuts := [(4, [(0, none), (1, none), (12, none), (13, none)])], nt := 26 }
theorem EeqU_ok : EnvOk EeqU := envOk tt_ok trivial
theorem FeqU_ok : FnOk EeqU Try.f23 := ⟨rfl, rfl⟩
theorem EeqU_t (x0 : List Int) (x1 : List Int) : exec EeqU 1000 [.code (bodyOf Try.prog 23)] (initSt ceqU.ps ((x0, x1, ()))) =
  cond (decide ((↑(List.length x0) : Int) ≠ (↑(List.length x1) : Int))) (.ret ((false, ()))) (.cut (loopAt (bodyOf Try.prog 23) 4).1 (loopAt (bodyOf Try.prog 23) 4).2 (St.mk [(0, AV.val (Ty.slc false (Ty.int IntKind.u16)) x0), (1, AV.val (Ty.slc false (Ty.int IntKind.u16)) x1), (12, AV.val (Ty.int IntKind.i64) (↑(List.length x0) : Int)), (13, AV.val (Ty.int IntKind.i64) (0 : Int))] [])) := by kernel_rfl
def EeqU_s4 (v0 : List Int) (v1 : List Int) (v12 : Int) (v13 : Int) : St := St.mk [(0, AV.val (Ty.slc false (Ty.int IntKind.u16)) v0), (1, AV.val (Ty.slc false (Ty.int IntKind.u16)) v1), (12, AV.val (Ty.int IntKind.i64) v12), (13, AV.val (Ty.int IntKind.i64) v13)] []
theorem EeqU_l4 (v0 : List Int) (v1 : List Int) (v12 : Int) (v13 : Int) : exec EeqU 1000 (.code (loopAt (bodyOf Try.prog 23) 4).1 :: .inLoop (loopAt (bodyOf Try.prog 23) 4).1 :: (loopAt (bodyOf Try.prog 23) 4).2) (EeqU_s4 v0 v1 v12 v13) =
  cond (decide (v13 < v12)) (.need ((0 : Int) ≤ v13 ∧ v13 < (↑(List.length v0) : Int)) (.need ((0 : Int) ≤ v13 ∧ v13 < (↑(List.length v1) : Int)) (cond (decide (List.getD v0 (Int.toNat v13) (0 : Int) ≠ List.getD v1 (Int.toNat v13) (0 : Int))) (.ret ((false, ()))) (.need (inK IntKind.i64 (v13 + (1 : Int))) (.cut (loopAt (bodyOf Try.prog 23) 4).1 (loopAt (bodyOf Try.prog 23) 4).2 (St.mk [(0, AV.val (Ty.slc false (Ty.int IntKind.u16)) v0), (1, AV.val (Ty.slc false (Ty.int IntKind.u16)) v1), (12, AV.val (Ty.int IntKind.i64) v12), (13, AV.val (Ty.int IntKind.i64) (v13 + (1 : Int)))] [])))))) (.ret ((true, ()))) := by kernel_rfl
theorem ceqU_valid : ceqU.Valid Try.prog 23 := by
  refine Ctr.valid_of EeqU_ok rfl rfl Try.func23 (c := bodyOf Try.prog 23) rfl rfl FeqU_ok rfl ?_
  rintro ⟨(l : List (Int)), (m : List (Int)), ⟨⟩⟩ - ⟨⟨hl, -⟩, -⟩
  have hl : l.length ≤ 9223372036854775807 := hl
  refine exec_sound (n := 1000) EeqU_ok FeqU_ok ?_
  refine holds_of_eq (EeqU_t l m) ?_
  have fin : ∀ {b : Bool}, (b = true ↔ l = m) → ((b, ()) : Bool × Unit) = (decide (l = m), ()) := fun {b} h => by
    cases b with
    | true => rw [decide_eq_true (h.1 rfl)]
    | false => rw [decide_eq_false (fun e => by cases h.2 e)]
  simp only [holds_cond, Tree.holds, true_and, true_implies, decide_eq_true_eq, decide_eq_false_iff_not, Bool.not_eq_true', Bool.not_eq_false', Int.toNat_natCast, inK_i64, List.length_set, List.length_cons, List.length_nil]
  refine ⟨fun c => fin ⟨fun h => (by cases h), fun h => absurd (congrArg (fun q : List (Int) => (q.length : Int)) h) c⟩, fun c => ?_⟩
  refine Reach.loopI EeqU_ok FeqU_ok (fun i : Nat => EeqU_s4 l m (l.length : Int) (i : Int)) (fun i => i ≤ l.length ∧ ∀ j, j < i → l.getD j 0 = m.getD j 0)
    (fun i => l.length - i) 1000 (fun _ => ⟨uniq_of rfl, uniq_of rfl⟩) ?_ 0 ⟨Nat.zero_le _, fun j hj => by omega⟩
  rintro i ⟨k1, k2⟩ - ih
  refine holds_of_eq (EeqU_l4 ..) ?_
  have c : l.length = m.length := by omega
  simp only [holds_cond, Tree.holds, true_and, true_implies, decide_eq_true_eq, decide_eq_false_iff_not, Bool.not_eq_true', Bool.not_eq_false', Int.toNat_natCast, inK_i64, List.length_set, List.length_cons, List.length_nil]
  refine ⟨fun d1 => ⟨by omega, fun _ => ⟨by omega, fun _ => ⟨fun d2 => fin ⟨fun h => (by cases h), fun h => absurd (congrArg (fun q : List (Int) => q.getD i 0) h) (d2)⟩, fun d2 => ⟨by omega, fun _ => ih (i + 1) ⟨by omega, fun j hj => ?_⟩ (by omega)⟩⟩⟩⟩, fun d1 => fin ⟨fun _ => eq_of_getD c (fun j hj => k2 j (by omega)), fun _ => rfl⟩⟩
  rcases Nat.lt_or_ge j i with h | h
  · exact k2 j h
  · obtain rfl : j = i := by omega
    exact Decidable.not_not.1 d2
theorem wbpcl : Ty.wb PairT = 16 := rfl
def cpcl : Ctr := { ps := [.v (.slc false PairT)], rs := [.slc true PairT], pre := fun x => List.length (α := PairD) x.1 ≤ 1048576, fn := fun x => x, out := fun _ => () }
noncomputable def Epcl : Env := { P := Try.prog, tt := tt, ctr := [], res := [Go.ResultVar.tmp 2], rs := [Ty.slc true PairT], ps := [PK.v (Ty.slc false PairT)], cuts := [], nt := 8 }
theorem Epcl_ok : EnvOk Epcl := envOk tt_ok trivial
theorem Fpcl_ok : FnOk Epcl Try.f25 := ⟨rfl, rfl⟩
theorem Epcl_t (x0 : List (Int × Int × Unit)) : exec Epcl 1000 [.code (bodyOf Try.prog 25)] (initSt cpcl.ps ((x0, ()))) =
  .both (x0 = []) (.ret (([], ()))) (.need ((0 : Nat) + List.length x0 ≤ 140737488355328 ∧ ((0 : Nat) + List.length x0) * Ty.wb PairT ≤ 140737488355328) (.ret (([] ++ x0, ())))) := by kernel_rfl
theorem cpcl_valid : cpcl.Valid Try.prog 25 := by
  refine Ctr.valid_of Epcl_ok rfl rfl Try.func25 (c := bodyOf Try.prog 25) rfl rfl Fpcl_ok rfl ?_
  rintro ⟨(l : List (PairD)), ⟨⟩⟩ hp -
  have hp : l.length ≤ 1048576 := hp
  refine exec_sound (n := 1000) Epcl_ok Fpcl_ok ?_
  refine holds_of_eq (Epcl_t l) ?_
  simp only [holds_cond, Tree.holds, true_and, true_implies, decide_eq_true_eq, decide_eq_false_iff_not, Bool.not_eq_true', Bool.not_eq_false', Int.toNat_natCast, inK_i64, List.length_set, List.length_cons, List.length_nil, wbpcl]
  refine ⟨fun h => ?_, by omega, fun _ => rfl⟩
  show (([], ()) : List (PairD) × Unit) = (l, ())
  rw [show l = [] from h]
theorem bulkL_len {α : Type} {f : α → Nat} {c : Nat} (h : ∀ x, c ≤ f x) : ∀ l : List α, c * l.length ≤ bulkL f l
  | [] => by simp [bulkL]
  | x :: l => by have h1 := h x; have h2 := bulkL_len h l; simp only [bulkL, List.length_cons, Nat.mul_add]; omega
def rowU (m : Nat) : List PairD := (List.range m).map fun i : Nat => ((i : Int), ((i + 1 : Nat) : Int), ())
theorem rowU_succ (m : Nat) : rowU (m + 1) = rowU m ++ [((m : Int), ((m + 1 : Nat) : Int), ())] := by rw [rowU, List.range_succ, List.map_append]; rfl
theorem rowU_len (m : Nat) : (rowU m).length = m := by rw [rowU, List.length_map, List.length_range]
theorem row_ok {n : Nat} (hn : n ≤ 8) : PosOk n (rowU (n - 1)) := by
  refine ⟨by omega, by rw [rowU_len]; omega, fun q hq => ?_, fun k hk => ?_⟩
  · obtain ⟨i, hi, rfl⟩ := List.mem_map.1 hq
    have hi := List.mem_range.1 hi
    exact ⟨⟨by show (0 : Int) ≤ i; omega, by show (i : Int) < n; omega⟩, ⟨by show (0 : Int) ≤ ((i + 1 : Nat) : Int); omega, by show ((i + 1 : Nat) : Int) < n; omega⟩⟩
  · cases h : wk (relP (rowU (n - 1))) n k k with
    | false => rfl
    | true =>
      have := wk_least (T := fun a b => a < b) (fun a b c h1 h2 => Nat.lt_trans h1 h2) (fun a b hab => by
        obtain ⟨i, _, hi⟩ := List.mem_map.1 (relP_iff.1 hab)
        have e1 : (i : Int) = a := congrArg (fun q : PairD => q.1) hi
        have e2 : ((i + 1 : Nat) : Int) = b := congrArg (fun q : PairD => q.2.1) hi
        omega) h
      omega
theorem none_ok {n : Nat} (hn : n ≤ 8) : PosOk n [] := by
  refine ⟨by omega, by simp, fun q hq => (by cases hq), fun k hk => ?_⟩
  cases h : wk (relP []) n k k with
  | false => rfl
  | true => exact absurd (wk_least (T := fun _ _ => False) (fun _ _ _ h _ => h) (fun a b hab => by cases hab) h) id
theorem row_count : ((List.range 9).all fun n => decide ((downsL n (rowU (n - 1))).length = n + 1) && decide (((downsL n []).length : Int) = IntKind.wrap .i64 (1 * 2 ^ min n (IntKind.bits .i64)))) = true := by decide +kernel
theorem row_at {n : Nat} (hn : n ≤ 8) : (downsL n (rowU (n - 1))).length = n + 1 ∧ ((downsL n []).length : Int) = IntKind.wrap .i64 (1 * 2 ^ min n (IntKind.bits .i64)) := by
  have := List.all_eq_true.1 row_count n (List.mem_range.2 (by omega))
  rw [Bool.and_eq_true, decide_eq_true_eq, decide_eq_true_eq] at this
  exact this
theorem downsR_ok {n : Nat} {l : List PairD} (h : PosOk n l) (hn : n ≤ 12) : downsR n l = (downsL n l, 0, ()) := by
  rw [downsR, if_neg (fun c => c (pcheck_of h)), if_neg (by omega), Int.toNat_natCast]
theorem downs_more {n : Int} {l : List PairD} {x : PairD} (h1 : (downsR n l).2.1 = 0) (h2 : (downsR n (l ++ [x])).2.1 = 0) : (downsR n (l ++ [x])).1.length ≤ (downsR n l).1.length := by
  unfold downsR at h1 h2 ⊢
  split at h1
  · exact absurd h1 (by assumption)
  rename_i c1
  rw [if_neg c1]
  split at h1
  · cases h1
  rename_i c2
  rw [if_neg c2]
  split at h2
  · exact absurd h2 (by assumption)
  rename_i c3
  rw [if_neg c3, if_neg c2]
  show (downsL _ _).length ≤ (downsL _ _).length
  rw [downsL, downsL, List.length_map, List.length_map]
  generalize List.range (2 ^ n.toNat) = L
  induction L with
  | nil => exact Nat.le_refl _
  | cons s L ih =>
    rw [List.filter_cons, List.filter_cons]
    have : isDown (l ++ [x]) s = true → isDown l s = true := fun h => by
      rw [isDown, List.all_append, Bool.and_eq_true] at h
      exact h.1
    by_cases e : isDown (l ++ [x]) s = true
    · rw [if_pos e, if_pos (this e), List.length_cons, List.length_cons]; omega
    · rw [if_neg e]; split
      · rw [List.length_cons]; omega
      · exact ih
def cLatSizes : Ctr := smallC [I64, Pos, PairT]
noncomputable def ELatSizes : Env := { P := Try.prog, tt := tt, ctr := [(22, cdowns), (23, ceqU), (25, cpcl), (24, crest)], res := [Go.ResultVar.tmp 6], rs := [Ty.bool], ps := [PK.v (Ty.int IntKind.i64), PK.v (Ty.pair (Ty.int IntKind.i64) (Ty.pair (Ty.slc false PairT) Ty.unit)), PK.v PairT], cuts := [(7, [(0, none), (4, none), (5, none), (9, none), (10, none)])], nt := 110 }
theorem ELatSizes_ok : EnvOk ELatSizes := envOk tt_ok ⟨cdowns_valid, ceqU_valid, cpcl_valid, crest_valid, trivial⟩
theorem FLatSizes_ok : FnOk ELatSizes Try.f4 := ⟨rfl, rfl⟩
theorem ELatSizes_t (x0 : Int) (x1_1 : Int) (x1_2_1 : List (Int × Int × Unit)) (x2_1 : Int) (x2_2_1 : Int) : exec ELatSizes 1000 [.code (bodyOf Try.prog 4)] (initSt cLatSizes.ps ((x0, (x1_1, x1_2_1, ()), (x2_1, x2_2_1, ()), ()))) =
  .need (True) (.need (True) (.need ((9 : Int) ≤ (1000000 : Int)) (.cut (loopAt (bodyOf Try.prog 4) 7).1 (loopAt (bodyOf Try.prog 4) 7).2 (St.mk [(0, AV.val (Ty.int IntKind.i64) (rest x0 (9 : Int))), (4, AV.ptr 4 []), (5, AV.ptr 5 []), (9, AV.ptr 9 []), (10, AV.val (Ty.int IntKind.i64) (1 : Int))] [(4, Ent.var (Ty.pair (Ty.int IntKind.i64) (Ty.pair (Ty.slc false PairT) Ty.unit)) (x1_1, x1_2_1, ())), (5, Ent.var PairT (x2_1, x2_2_1, ())), (9, Ent.var (Ty.pair (Ty.int IntKind.i64) (Ty.pair (Ty.slc true PairT) Ty.unit)) (rest x0 (9 : Int), [], ()))])))) := by kernel_rfl
def ELatSizes_s7 (v0 : Int) (v10 : Int) (o4_1 : Int) (o4_2_1 : List (Int × Int × Unit)) (o5_1 : Int) (o5_2_1 : Int) (o9_1 : Int) (o9_2_1 : List (Int × Int × Unit)) : St := St.mk [(0, AV.val (Ty.int IntKind.i64) v0), (4, AV.ptr 4 []), (5, AV.ptr 5 []), (9, AV.ptr 9 []), (10, AV.val (Ty.int IntKind.i64) v10)] [(4, Ent.var (Ty.pair (Ty.int IntKind.i64) (Ty.pair (Ty.slc false PairT) Ty.unit)) (o4_1, o4_2_1, ())), (5, Ent.var PairT (o5_1, o5_2_1, ())), (9, Ent.var (Ty.pair (Ty.int IntKind.i64) (Ty.pair (Ty.slc true PairT) Ty.unit)) (o9_1, o9_2_1, ()))]
theorem ELatSizes_l7 (v0 : Int) (v10 : Int) (o4_1 : Int) (o4_2_1 : List (Int × Int × Unit)) (o5_1 : Int) (o5_2_1 : Int) (o9_1 : Int) (o9_2_1 : List (Int × Int × Unit)) : exec ELatSizes 1000 (.code (loopAt (bodyOf Try.prog 4) 7).1 :: .inLoop (loopAt (bodyOf Try.prog 4) 7).1 :: (loopAt (bodyOf Try.prog 4) 7).2) (ELatSizes_s7 v0 v10 o4_1 o4_2_1 o5_1 o5_2_1 o9_1 o9_2_1) =
  cond (decide (v10 < v0)) (.need (inK IntKind.i64 (v10 - (1 : Int))) (.need (True ∧ [] ++ [Step.fld 1] = [] ++ [Step.fld 1] ∧ List.length o9_2_1 + List.length (List.set [((0 : Int), (0 : Int), ())] (Int.toNat (↑0 : Int)) (v10 - (1 : Int), v10, ())) ≤ 140737488355328 ∧ (List.length o9_2_1 + List.length (List.set [((0 : Int), (0 : Int), ())] (Int.toNat (↑0 : Int)) (v10 - (1 : Int), v10, ()))) * Ty.wb PairT ≤ 140737488355328) (.need (inK IntKind.i64 (v10 + (1 : Int))) (.cut (loopAt (bodyOf Try.prog 4) 7).1 (loopAt (bodyOf Try.prog 4) 7).2 (St.mk [(0, AV.val (Ty.int IntKind.i64) v0), (4, AV.ptr 4 []), (5, AV.ptr 5 []), (9, AV.ptr 9 []), (10, AV.val (Ty.int IntKind.i64) (v10 + (1 : Int)))] [(4, Ent.var (Ty.pair (Ty.int IntKind.i64) (Ty.pair (Ty.slc false PairT) Ty.unit)) (o4_1, o4_2_1, ())), (5, Ent.var PairT (o5_1, o5_2_1, ())), (9, Ent.var (Ty.pair (Ty.int IntKind.i64) (Ty.pair (Ty.slc true PairT) Ty.unit)) (o9_1, o9_2_1 ++ List.set [((0 : Int), (0 : Int), ())] (Int.toNat (↑0 : Int)) (v10 - (1 : Int), v10, ()), ()))]))))) (.need (True) (.need (True) (cond (decide (Prod.fst (Prod.snd (downsR o9_1 o9_2_1)) ≠ (0 : Int))) (.ret ((false, ()))) (cond (decide (Prod.fst (Prod.snd (downsR v0 [])) ≠ (0 : Int))) (.ret ((false, ()))) (.need (inK IntKind.i64 (v0 + (1 : Int))) (cond (decide ((↑(List.length (Prod.fst (downsR o9_1 o9_2_1))) : Int) ≠ v0 + (1 : Int))) (.ret ((false, ()))) (.need ((0 : Int) ≤ v0) (cond (decide ((↑(List.length (Prod.fst (downsR v0 []))) : Int) ≠ IntKind.wrap IntKind.i64 ((1 : Int) * (2 : Int) ^ min (Int.toNat v0) (IntKind.bits IntKind.i64)))) (.ret ((false, ()))) (.need (True) (.need (List.length o4_2_1 ≤ 1048576) (.need (List.length o4_2_1 + List.length (List.set [((0 : Int), (0 : Int), ())] (Int.toNat (↑0 : Int)) (o5_1, o5_2_1, ())) ≤ 140737488355328 ∧ (List.length o4_2_1 + List.length (List.set [((0 : Int), (0 : Int), ())] (Int.toNat (↑0 : Int)) (o5_1, o5_2_1, ()))) * Ty.wb PairT ≤ 140737488355328) (.need (True) (cond (decide (Prod.fst (Prod.snd (downsR o4_1 o4_2_1)) ≠ (0 : Int))) (.ret ((true, ()))) (cond (decide (Prod.fst (Prod.snd (downsR o4_1 (o4_2_1 ++ List.set [((0 : Int), (0 : Int), ())] (Int.toNat (↑0 : Int)) (o5_1, o5_2_1, ())))) ≠ (0 : Int))) (.ret ((true, ()))) (.ret ((decide ((↑(List.length (Prod.fst (downsR o4_1 (o4_2_1 ++ List.set [((0 : Int), (0 : Int), ())] (Int.toNat (↑0 : Int)) (o5_1, o5_2_1, ()))))) : Int) ≤ (↑(List.length (Prod.fst (downsR o4_1 o4_2_1))) : Int)), ()))))))))))))))))) := by kernel_rfl
theorem cLatSizes_valid : (smallC [I64, Pos, PairT]).Valid Try.prog 4 := by
  refine Ctr.valid_of ELatSizes_ok rfl rfl Try.func4 (c := bodyOf Try.prog 4) rfl rfl FLatSizes_ok rfl ?_
  rintro ⟨(m : Int), ⟨(n0 : Int), (l : List PairD), ⟨⟩⟩, ⟨(xa : Int), (xb : Int), ⟨⟩⟩, ⟨⟩⟩ hp -
  refine exec_sound (n := 1000) ELatSizes_ok FLatSizes_ok ?_
  refine holds_of_eq (ELatSizes_t m n0 l xa xb) ?_
  have hr := rest_in (a := m) (n := 9) (by omega)
  obtain ⟨n, hn⟩ : ∃ n : Nat, rest m 9 = n := ⟨(rest m 9).toNat, by omega⟩
  have hlen : l.length ≤ 1048576 := by
    have h2 := bulkL_len (f := Ty.bulk PairT) (c := 1) (fun x => by
      show 1 ≤ 1 + (1 + 0); omega) l
    have h1 : 1 + ((1 + ((bulkL (Ty.bulk PairT) l + 1) + 0)) + ((1 + (1 + 0)) + 0)) ≤ 1048576 := hp
    omega
  have hn8 : n ≤ 8 := by omega
  have hrow := downsR_ok (row_ok hn8) (by omega)
  have hnone := downsR_ok (none_ok hn8) (by omega)
  obtain ⟨q1, q2⟩ := row_at hn8
  have hmore := fun h1 h2 => downs_more (n := n0) (l := l) (x := (xa, xb, ())) h1 h2
  have hw16 : Ty.wb PairT = 16 := rfl
  simp only [holds_cond, Tree.holds, true_and, true_implies, decide_eq_true_eq, decide_eq_false_iff_not, Bool.not_eq_true', Bool.not_eq_false', Int.toNat_natCast, inK_i64, List.length_set, List.length_cons, List.length_nil]
  rw [hn]
  refine ⟨by omega, fun _ => ?_⟩
  refine Reach.loopI ELatSizes_ok FLatSizes_ok (fun i : Nat => ELatSizes_s7 (n : Int) ((i + 1 : Nat) : Int) n0 l xa xb (n : Int) (rowU i)) (fun i => i = 0 ∨ i + 1 ≤ n) (fun i => n - i) 1000 (fun _ => ⟨uniq_of rfl, uniq_of rfl⟩) ?_ 0 (.inl rfl)
  rintro i k1 - ih
  have k1 : i = 0 ∨ i + 1 ≤ n := k1
  refine holds_of_eq (ELatSizes_l7 ..) ?_
  have hrl := rowU_len i
  simp only [holds_cond, Tree.holds, true_and, true_implies, decide_eq_true_eq, decide_eq_false_iff_not, Bool.not_eq_true', Bool.not_eq_false', Int.toNat_natCast, inK_i64, List.length_set, List.length_cons, List.length_nil, hw16]
  refine ⟨fun c => ⟨by omega, fun _ => ⟨⟨by omega, by omega⟩, fun _ => ⟨by omega, fun _ => ?_⟩⟩⟩, fun c => ?_⟩
  · have next := ih (i + 1) (.inr (by omega)) (by omega)
    rw [rowU_succ] at next
    rw [show (((i + 1 : Nat) : Int) - 1) = (i : Int) by omega]
    exact next
  · have e : i = n - 1 := by omega
    subst e
    rw [hrow, hnone]
    refine ⟨fun e => absurd rfl e, fun _ => ⟨fun e => absurd rfl e, fun _ => ⟨by omega, fun _ => ⟨fun e => absurd (by rw [q1]; omega) e, fun _ => ⟨by omega, fun _ => ⟨fun e => absurd q2 e, fun _ => ⟨hlen, fun _ => ⟨⟨by omega, by omega⟩, fun _ => ⟨fun _ => rfl, fun h1 => ⟨fun _ => rfl, fun h2 => ?_⟩⟩⟩⟩⟩⟩⟩⟩⟩⟩
    exact yesd (Int.ofNat_le.2 (hmore (Decidable.not_not.1 h1) (Decidable.not_not.1 h2)))
end Go.Proofs.Ytbcdpeogfghgcaa
