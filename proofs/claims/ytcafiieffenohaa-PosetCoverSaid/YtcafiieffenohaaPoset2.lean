/- The contracts of the package poset's functions: who covers whom. -/
import Derived.Test.YtcafiieffenohaaPoset
namespace Go.Proofs.Ytcafiieffenohaa
open Go.Ex
set_option maxRecDepth 100000
def nobody (n : Nat) (o : List (List Bool)) (a b : Nat) : Bool := !((List.range n).any (fun k => gB o a k && gB o k b))
def ccov1 : Ctr := { ps := [.v I64, .v I64, .rd Pos, .rd Ord], rs := [.bool], pre := fun x => (LE.le (α := Int) 0 x.2.2.1.1 ∧ LE.le (α := Int) x.2.2.1.1 20) ∧ (LE.le (α := Int) 0 x.1 ∧ LT.lt (α := Int) x.1 20) ∧ (LE.le (α := Int) 0 x.2.1 ∧ LT.lt (α := Int) x.2.1 20), fn := fun x => (nobody (Int.toNat x.2.2.1.1) x.2.2.2.1 (Int.toNat x.1) (Int.toNat x.2.1), ()), out := fun _ => () }
noncomputable def Ecov1 : Env := { P := Try.prog, tt := tt, ctr := [], res := [Go.ResultVar.tmp 6], rs := [Ty.bool], ps := [PK.v (Ty.int IntKind.i64), PK.v (Ty.int IntKind.i64), PK.rd (Ty.pair (Ty.int IntKind.i64) (Ty.pair (Ty.slc false PairT) Ty.unit)), PK.rd (Ty.arr 20 (Ty.arr 20 Ty.bool))], cuts := [(2, [(0, none), (1, none), (3, none), (9, none), (10, none)])], nt := 26 }
theorem Ecov1_ok : EnvOk Ecov1 := envOk tt_ok trivial
theorem Fcov1_ok : FnOk Ecov1 Try.f67 := ⟨rfl, rfl⟩
theorem Ecov1_t (x0 : Int) (x1 : Int) (x2_1 : Int) (x2_2_1 : List (Int × Int × Unit)) (x3 : List (List Bool)) : exec Ecov1 1000 [.code (bodyOf Try.prog 67)] (initSt ccov1.ps ((x0, x1, (x2_1, x2_2_1, ()), x3, ()))) =
  .cut (loopAt (bodyOf Try.prog 67) 2).1 (loopAt (bodyOf Try.prog 67) 2).2 (St.mk [(0, AV.val (Ty.int IntKind.i64) x0), (1, AV.val (Ty.int IntKind.i64) x1), (3, AV.rptr (Ty.arr 20 (Ty.arr 20 Ty.bool)) x3), (9, AV.val (Ty.int IntKind.i64) x2_1), (10, AV.val (Ty.int IntKind.i64) (0 : Int))] []) := by kernel_rfl
def Ecov1_s2 (v0 : Int) (v1 : Int) (v3 : List (List Bool)) (v9 : Int) (v10 : Int) : St := St.mk [(0, AV.val (Ty.int IntKind.i64) v0), (1, AV.val (Ty.int IntKind.i64) v1), (3, AV.rptr (Ty.arr 20 (Ty.arr 20 Ty.bool)) v3), (9, AV.val (Ty.int IntKind.i64) v9), (10, AV.val (Ty.int IntKind.i64) v10)] []
theorem Ecov1_l2 (v0 : Int) (v1 : Int) (v3 : List (List Bool)) (v9 : Int) (v10 : Int) : exec Ecov1 1000 (.code (loopAt (bodyOf Try.prog 67) 2).1 :: .inLoop (loopAt (bodyOf Try.prog 67) 2).1 :: (loopAt (bodyOf Try.prog 67) 2).2) (Ecov1_s2 v0 v1 v3 v9 v10) =
  cond (decide (v10 < v9)) (.need ((0 : Int) ≤ v0 ∧ v0 < (↑20 : Int)) (.need ((0 : Int) ≤ v10 ∧ v10 < (↑20 : Int)) (cond (List.getD (List.getD v3 (Int.toNat v0) F20) (Int.toNat v10) false) (.need ((0 : Int) ≤ v10 ∧ v10 < (↑20 : Int)) (.need ((0 : Int) ≤ v1 ∧ v1 < (↑20 : Int)) (cond (List.getD (List.getD v3 (Int.toNat v10) F20) (Int.toNat v1) false) (.ret ((false, ()))) (.need (inK IntKind.i64 (v10 + (1 : Int))) (.cut (loopAt (bodyOf Try.prog 67) 2).1 (loopAt (bodyOf Try.prog 67) 2).2 (St.mk [(0, AV.val (Ty.int IntKind.i64) v0), (1, AV.val (Ty.int IntKind.i64) v1), (3, AV.rptr (Ty.arr 20 (Ty.arr 20 Ty.bool)) v3), (9, AV.val (Ty.int IntKind.i64) v9), (10, AV.val (Ty.int IntKind.i64) (v10 + (1 : Int)))] [])))))) (.need (inK IntKind.i64 (v10 + (1 : Int))) (.cut (loopAt (bodyOf Try.prog 67) 2).1 (loopAt (bodyOf Try.prog 67) 2).2 (St.mk [(0, AV.val (Ty.int IntKind.i64) v0), (1, AV.val (Ty.int IntKind.i64) v1), (3, AV.rptr (Ty.arr 20 (Ty.arr 20 Ty.bool)) v3), (9, AV.val (Ty.int IntKind.i64) v9), (10, AV.val (Ty.int IntKind.i64) (v10 + (1 : Int)))] [])))))) (.ret ((true, ()))) := by kernel_rfl
theorem ccov1_valid : ccov1.Valid Try.prog 67 := by
  refine Ctr.valid_of Ecov1_ok rfl rfl Try.func67 (c := bodyOf Try.prog 67) rfl rfl Fcov1_ok rfl ?_
  rintro ⟨(a0 : Int), (b0 : Int), ⟨(n0 : Int), (l : List PairD), ⟨⟩⟩, (o : List (List Bool)), ⟨⟩⟩ ⟨⟨h0, h1⟩, ⟨h2, h3⟩, h4, h5⟩ -
  have h0 : 0 ≤ n0 := h0
  have h1 : n0 ≤ 20 := h1
  have h2 : 0 ≤ a0 := h2
  have h3 : a0 < 20 := h3
  have h4 : 0 ≤ b0 := h4
  have h5 : b0 < 20 := h5
  obtain ⟨n, rfl⟩ := Int.eq_ofNat_of_zero_le h0
  obtain ⟨a, rfl⟩ := Int.eq_ofNat_of_zero_le h2
  obtain ⟨b, rfl⟩ := Int.eq_ofNat_of_zero_le h4
  refine exec_sound (n := 1000) Ecov1_ok Fcov1_ok ?_
  refine holds_of_eq (Ecov1_t (a : Int) (b : Int) (n : Int) l o) ?_
  refine Reach.loopI Ecov1_ok Fcov1_ok (fun k : Nat => Ecov1_s2 (a : Int) (b : Int) o (n : Int) (k : Int)) (fun k => k ≤ n ∧ ∀ x, x < k → (gB o a x && gB o x b) = false)
    (fun k => n - k) 1000 (fun _ => ⟨uniq_of rfl, uniq_of rfl⟩) ?_ 0 ⟨Nat.zero_le _, fun x hx => by omega⟩
  rintro k ⟨k1, k2⟩ - ih
  refine holds_of_eq (Ecov1_l2 ..) ?_
  simp only [holds_cond, Tree.holds, true_and, true_implies, decide_eq_true_eq, decide_eq_false_iff_not, Bool.not_eq_true', Bool.not_eq_false', Int.toNat_natCast, inK_i64, List.length_set, List.length_cons, List.length_nil]
  have step : (gB o a k && gB o k b) = false → ∀ x, x < k + 1 → (gB o a x && gB o x b) = false := fun h x hx => by
    rcases Nat.lt_or_ge x k with h1 | h1
    · exact k2 x h1
    · obtain rfl : x = k := by omega
      exact h
  refine ⟨fun c => ⟨by omega, fun _ => ⟨by omega, fun _ => ⟨fun d => ⟨by omega, fun _ => ⟨by omega, fun _ => ⟨fun d2 => ?_, fun d2 => ⟨by omega, fun _ => ih (k + 1) ⟨by omega, step (by rw [show gB o k b = false from d2, Bool.and_false])⟩ (by omega)⟩⟩⟩⟩, fun d => ⟨by omega, fun _ => ih (k + 1) ⟨by omega, step (by rw [show gB o a k = false from d, Bool.false_and])⟩ (by omega)⟩⟩⟩⟩, fun c => ?_⟩
  · show ((false, ()) : Bool × Unit) = (nobody n o a b, ())
    rw [nobody, List.any_eq_true.2 ⟨k, List.mem_range.2 (by omega), by rw [show gB o a k = true from d, show gB o k b = true from d2]; rfl⟩]
    rfl
  · show ((true, ()) : Bool × Unit) = (nobody n o a b, ())
    rw [nobody, List.any_eq_false.2 (fun x hx => by rw [k2 x (by have := List.mem_range.1 hx; omega)]; decide)]
    rfl
def cpairsC : Ctr := { ps := [.v Ord, .v I64, .clo 67 [Pos, Ord]], rs := [.slc true PairT], pre := fun x => (LE.le (α := Int) 0 x.2.1 ∧ LE.le (α := Int) x.2.1 20) ∧ (LE.le (α := Int) 0 x.2.2.1.1.1 ∧ LE.le (α := Int) x.2.2.1.1.1 20), fn := fun x => (pairsF (Int.toNat x.2.1) (fun a b => gB x.1 a b && nobody (Int.toNat x.2.2.1.1.1) x.2.2.1.2.1 a b), ()), out := fun _ => () }
noncomputable def EpairsC : Env := { P := Try.prog, tt := tt, ctr := [(67, ccov1)], res := [Go.ResultVar.tmp 6], rs := [Ty.slc true PairT], ps := [PK.v (Ty.arr 20 (Ty.arr 20 Ty.bool)), PK.v (Ty.int IntKind.i64), PK.clo 67 [Ty.pair (Ty.int IntKind.i64) (Ty.pair (Ty.slc false PairT) Ty.unit), Ty.arr 20 (Ty.arr 20 Ty.bool)]], cuts := [(3, [(1, none), (2, none), (3, none), (7, some (Ty.slc true PairT)), (10, none), (11, none)]), (6, [(1, none), (2, none), (3, none), (7, some (Ty.slc true PairT)), (8, none), (10, none), (11, none), (14, none), (15, none)])], nt := 38 }
theorem EpairsC_ok : EnvOk EpairsC := envOk tt_ok ⟨ccov1_valid, trivial⟩
theorem FpairsC_ok : FnOk EpairsC Try.f66 := ⟨rfl, rfl⟩
theorem EpairsC_t (x0 : List (List Bool)) (x1 : Int) (x2c0_1 : Int) (x2c0_2_1 : List (Int × Int × Unit)) (x2c1 : List (List Bool)) : exec EpairsC 1000 [.code (bodyOf Try.prog 66)] (initSt cpairsC.ps ((x0, x1, ((x2c0_1, x2c0_2_1, ()), x2c1, ()), ()))) =
  .cut (loopAt (bodyOf Try.prog 66) 3).1 (loopAt (bodyOf Try.prog 66) 3).2 (St.mk [(1, AV.val (Ty.int IntKind.i64) x1), (2, AV.clo 67 (AV.cons (AV.rptr (Ty.pair (Ty.int IntKind.i64) (Ty.pair (Ty.slc false PairT) Ty.unit)) (x2c0_1, x2c0_2_1, ())) (AV.cons (AV.rptr (Ty.arr 20 (Ty.arr 20 Ty.bool)) x2c1) AV.nil))), (3, AV.ptr 3 []), (7, AV.at_ 1000007 []), (10, AV.val (Ty.int IntKind.i64) x1), (11, AV.val (Ty.int IntKind.i64) (0 : Int))] [(3, Ent.var (Ty.arr 20 (Ty.arr 20 Ty.bool)) x0), (1000007, Ent.own (Ty.slc true PairT) [])]) := by kernel_rfl
def EpairsC_s3 (v1 : Int) (v2a_1 : Int) (v2a_2_1 : List (Int × Int × Unit)) (v2ba : List (List Bool)) (v10 : Int) (v11 : Int) (o3 : List (List Bool)) (o1000007 : List (Int × Int × Unit)) : St := St.mk [(1, AV.val (Ty.int IntKind.i64) v1), (2, AV.clo 67 (AV.cons (AV.rptr (Ty.pair (Ty.int IntKind.i64) (Ty.pair (Ty.slc false PairT) Ty.unit)) (v2a_1, v2a_2_1, ())) (AV.cons (AV.rptr (Ty.arr 20 (Ty.arr 20 Ty.bool)) v2ba) AV.nil))), (3, AV.ptr 3 []), (7, AV.at_ 1000007 []), (10, AV.val (Ty.int IntKind.i64) v10), (11, AV.val (Ty.int IntKind.i64) v11)] [(3, Ent.var (Ty.arr 20 (Ty.arr 20 Ty.bool)) o3), (1000007, Ent.own (Ty.slc true PairT) o1000007)]
theorem EpairsC_l3 (v1 : Int) (v2a_1 : Int) (v2a_2_1 : List (Int × Int × Unit)) (v2ba : List (List Bool)) (v10 : Int) (v11 : Int) (o3 : List (List Bool)) (o1000007 : List (Int × Int × Unit)) : exec EpairsC 1000 (.code (loopAt (bodyOf Try.prog 66) 3).1 :: .inLoop (loopAt (bodyOf Try.prog 66) 3).1 :: (loopAt (bodyOf Try.prog 66) 3).2) (EpairsC_s3 v1 v2a_1 v2a_2_1 v2ba v10 v11 o3 o1000007) =
  cond (decide (v11 < v10)) (.cut (loopAt (bodyOf Try.prog 66) 6).1 (loopAt (bodyOf Try.prog 66) 6).2 (St.mk [(1, AV.val (Ty.int IntKind.i64) v1), (2, AV.clo 67 (AV.cons (AV.rptr (Ty.pair (Ty.int IntKind.i64) (Ty.pair (Ty.slc false PairT) Ty.unit)) (v2a_1, v2a_2_1, ())) (AV.cons (AV.rptr (Ty.arr 20 (Ty.arr 20 Ty.bool)) v2ba) AV.nil))), (3, AV.ptr 3 []), (7, AV.at_ 1000007 []), (8, AV.val (Ty.int IntKind.i64) v11), (10, AV.val (Ty.int IntKind.i64) v10), (11, AV.val (Ty.int IntKind.i64) v11), (14, AV.val (Ty.int IntKind.i64) v1), (15, AV.val (Ty.int IntKind.i64) (0 : Int))] [(3, Ent.var (Ty.arr 20 (Ty.arr 20 Ty.bool)) o3), (1000007, Ent.own (Ty.slc true PairT) o1000007)])) (.ret ((o1000007, ()))) := by kernel_rfl
def EpairsC_s6 (v1 : Int) (v2a_1 : Int) (v2a_2_1 : List (Int × Int × Unit)) (v2ba : List (List Bool)) (v8 : Int) (v10 : Int) (v11 : Int) (v14 : Int) (v15 : Int) (o3 : List (List Bool)) (o1000007 : List (Int × Int × Unit)) : St := St.mk [(1, AV.val (Ty.int IntKind.i64) v1), (2, AV.clo 67 (AV.cons (AV.rptr (Ty.pair (Ty.int IntKind.i64) (Ty.pair (Ty.slc false PairT) Ty.unit)) (v2a_1, v2a_2_1, ())) (AV.cons (AV.rptr (Ty.arr 20 (Ty.arr 20 Ty.bool)) v2ba) AV.nil))), (3, AV.ptr 3 []), (7, AV.at_ 1000007 []), (8, AV.val (Ty.int IntKind.i64) v8), (10, AV.val (Ty.int IntKind.i64) v10), (11, AV.val (Ty.int IntKind.i64) v11), (14, AV.val (Ty.int IntKind.i64) v14), (15, AV.val (Ty.int IntKind.i64) v15)] [(3, Ent.var (Ty.arr 20 (Ty.arr 20 Ty.bool)) o3), (1000007, Ent.own (Ty.slc true PairT) o1000007)]
theorem EpairsC_l6 (v1 : Int) (v2a_1 : Int) (v2a_2_1 : List (Int × Int × Unit)) (v2ba : List (List Bool)) (v8 : Int) (v10 : Int) (v11 : Int) (v14 : Int) (v15 : Int) (o3 : List (List Bool)) (o1000007 : List (Int × Int × Unit)) : exec EpairsC 1000 (.code (loopAt (bodyOf Try.prog 66) 6).1 :: .inLoop (loopAt (bodyOf Try.prog 66) 6).1 :: (loopAt (bodyOf Try.prog 66) 6).2) (EpairsC_s6 v1 v2a_1 v2a_2_1 v2ba v8 v10 v11 v14 v15 o3 o1000007) =
  cond (decide (v15 < v14)) (.need ((0 : Int) ≤ v8 ∧ v8 < (↑20 : Int)) (.need ((0 : Int) ≤ v15 ∧ v15 < (↑20 : Int)) (cond (List.getD (List.getD o3 (Int.toNat v8) F20) (Int.toNat v15) false) (.need (((0 : Int) ≤ v2a_1 ∧ v2a_1 ≤ (20 : Int)) ∧ ((0 : Int) ≤ v8 ∧ v8 < (20 : Int)) ∧ (0 : Int) ≤ v15 ∧ v15 < (20 : Int)) (cond (nobody (Int.toNat v2a_1) v2ba (Int.toNat v8) (Int.toNat v15)) (.need (List.length o1000007 + List.length (List.set [((0 : Int), (0 : Int), ())] (Int.toNat (↑0 : Int)) (v8, v15, ())) ≤ 140737488355328 ∧ (List.length o1000007 + List.length (List.set [((0 : Int), (0 : Int), ())] (Int.toNat (↑0 : Int)) (v8, v15, ()))) * Ty.wb PairT ≤ 140737488355328) (.need (inK IntKind.i64 (v15 + (1 : Int))) (.cut (loopAt (bodyOf Try.prog 66) 6).1 (loopAt (bodyOf Try.prog 66) 6).2 (St.mk [(1, AV.val (Ty.int IntKind.i64) v1), (2, AV.clo 67 (AV.cons (AV.rptr (Ty.pair (Ty.int IntKind.i64) (Ty.pair (Ty.slc false PairT) Ty.unit)) (v2a_1, v2a_2_1, ())) (AV.cons (AV.rptr (Ty.arr 20 (Ty.arr 20 Ty.bool)) v2ba) AV.nil))), (3, AV.ptr 3 []), (7, AV.at_ 1000007 []), (8, AV.val (Ty.int IntKind.i64) v8), (10, AV.val (Ty.int IntKind.i64) v10), (11, AV.val (Ty.int IntKind.i64) v11), (14, AV.val (Ty.int IntKind.i64) v14), (15, AV.val (Ty.int IntKind.i64) (v15 + (1 : Int)))] [(3, Ent.var (Ty.arr 20 (Ty.arr 20 Ty.bool)) o3), (1000007, Ent.own (Ty.slc true PairT) (o1000007 ++ List.set [((0 : Int), (0 : Int), ())] (Int.toNat (↑0 : Int)) (v8, v15, ())))])))) (.need (inK IntKind.i64 (v15 + (1 : Int))) (.cut (loopAt (bodyOf Try.prog 66) 6).1 (loopAt (bodyOf Try.prog 66) 6).2 (St.mk [(1, AV.val (Ty.int IntKind.i64) v1), (2, AV.clo 67 (AV.cons (AV.rptr (Ty.pair (Ty.int IntKind.i64) (Ty.pair (Ty.slc false PairT) Ty.unit)) (v2a_1, v2a_2_1, ())) (AV.cons (AV.rptr (Ty.arr 20 (Ty.arr 20 Ty.bool)) v2ba) AV.nil))), (3, AV.ptr 3 []), (7, AV.at_ 1000007 []), (8, AV.val (Ty.int IntKind.i64) v8), (10, AV.val (Ty.int IntKind.i64) v10), (11, AV.val (Ty.int IntKind.i64) v11), (14, AV.val (Ty.int IntKind.i64) v14), (15, AV.val (Ty.int IntKind.i64) (v15 + (1 : Int)))] [(3, Ent.var (Ty.arr 20 (Ty.arr 20 Ty.bool)) o3), (1000007, Ent.own (Ty.slc true PairT) o1000007)]))))) (.need (inK IntKind.i64 (v15 + (1 : Int))) (.cut (loopAt (bodyOf Try.prog 66) 6).1 (loopAt (bodyOf Try.prog 66) 6).2 (St.mk [(1, AV.val (Ty.int IntKind.i64) v1), (2, AV.clo 67 (AV.cons (AV.rptr (Ty.pair (Ty.int IntKind.i64) (Ty.pair (Ty.slc false PairT) Ty.unit)) (v2a_1, v2a_2_1, ())) (AV.cons (AV.rptr (Ty.arr 20 (Ty.arr 20 Ty.bool)) v2ba) AV.nil))), (3, AV.ptr 3 []), (7, AV.at_ 1000007 []), (8, AV.val (Ty.int IntKind.i64) v8), (10, AV.val (Ty.int IntKind.i64) v10), (11, AV.val (Ty.int IntKind.i64) v11), (14, AV.val (Ty.int IntKind.i64) v14), (15, AV.val (Ty.int IntKind.i64) (v15 + (1 : Int)))] [(3, Ent.var (Ty.arr 20 (Ty.arr 20 Ty.bool)) o3), (1000007, Ent.own (Ty.slc true PairT) o1000007)])))))) (.need (inK IntKind.i64 (v11 + (1 : Int))) (.cut (loopAt (bodyOf Try.prog 66) 3).1 (loopAt (bodyOf Try.prog 66) 3).2 (St.mk [(1, AV.val (Ty.int IntKind.i64) v1), (2, AV.clo 67 (AV.cons (AV.rptr (Ty.pair (Ty.int IntKind.i64) (Ty.pair (Ty.slc false PairT) Ty.unit)) (v2a_1, v2a_2_1, ())) (AV.cons (AV.rptr (Ty.arr 20 (Ty.arr 20 Ty.bool)) v2ba) AV.nil))), (3, AV.ptr 3 []), (7, AV.at_ 1000007 []), (10, AV.val (Ty.int IntKind.i64) v10), (11, AV.val (Ty.int IntKind.i64) (v11 + (1 : Int)))] [(3, Ent.var (Ty.arr 20 (Ty.arr 20 Ty.bool)) o3), (1000007, Ent.own (Ty.slc true PairT) o1000007)]))) := by kernel_rfl
theorem cpairsC_valid : cpairsC.Valid Try.prog 66 := by
  refine Ctr.valid_of EpairsC_ok rfl rfl Try.func66 (c := bodyOf Try.prog 66) rfl rfl FpairsC_ok rfl ?_
  rintro ⟨(o : List (List Bool)), (n0 : Int), ⟨⟨(m0 : Int), (l : List PairD), ⟨⟩⟩, (o2 : List (List Bool)), ⟨⟩⟩, ⟨⟩⟩ ⟨⟨h0, h1⟩, h2, h3⟩ -
  have h0 : 0 ≤ n0 := h0
  have h1 : n0 ≤ 20 := h1
  have h2 : 0 ≤ m0 := h2
  have h3 : m0 ≤ 20 := h3
  obtain ⟨n, rfl⟩ := Int.eq_ofNat_of_zero_le h0
  obtain ⟨m, rfl⟩ := Int.eq_ofNat_of_zero_le h2
  obtain ⟨g, hg⟩ : ∃ g : Nat → Nat → Bool, g = fun a b => gB o a b && nobody m o2 a b := ⟨_, rfl⟩
  refine exec_sound (n := 1000) EpairsC_ok FpairsC_ok ?_
  refine holds_of_eq (EpairsC_t o (n : Int) (m : Int) l o2) ?_
  refine Reach.loopI EpairsC_ok FpairsC_ok (fun a : Nat => EpairsC_s3 (n : Int) (m : Int) l o2 (n : Int) (a : Int) o (pairsM n g a 0)) (fun a => a ≤ n)
    (fun a => n - a) 1000 (fun _ => ⟨uniq_of rfl, uniq_of rfl⟩) ?_ 0 (Nat.zero_le _)
  rintro a k1 - ih
  have k1 : a ≤ n := k1
  refine holds_of_eq (EpairsC_l3 ..) ?_
  simp only [holds_cond, Tree.holds, true_and, true_implies, decide_eq_true_eq, decide_eq_false_iff_not, Bool.not_eq_true', Bool.not_eq_false', Int.toNat_natCast, inK_i64, List.length_set, List.length_cons, List.length_nil]
  refine ⟨fun c => ?_, fun c => ?_⟩
  rotate_left
  · obtain rfl : a = n := by omega
    rw [pairsM_end, hg]; rfl
  refine Reach.loopI EpairsC_ok FpairsC_ok (fun b : Nat => EpairsC_s6 (n : Int) (m : Int) l o2 (a : Int) (n : Int) (a : Int) (n : Int) (b : Int) o (pairsM n g a b)) (fun b => b ≤ n)
    (fun b => n - b) 1000 (fun _ => ⟨uniq_of rfl, uniq_of rfl⟩) ?_ 0 (Nat.zero_le _)
  rintro b k2 - ih2
  have k2 : b ≤ n := k2
  refine holds_of_eq (EpairsC_l6 ..) ?_
  have hl := pairsM_len (n := n) (g := g) (a := a) (b := b) (by omega) (by omega) (by omega)
  simp only [holds_cond, Tree.holds, true_and, true_implies, decide_eq_true_eq, decide_eq_false_iff_not, Bool.not_eq_true', Bool.not_eq_false', Int.toNat_natCast, inK_i64, List.length_set, List.length_cons, List.length_nil, wb_pair]
  refine ⟨fun c2 => ⟨by omega, fun _ => ⟨by omega, fun _ => ?_⟩⟩, fun c2 => ⟨by omega, fun _ => ?_⟩⟩
  · have nx := ih2 (b + 1) (by show b + 1 ≤ n; omega) (by omega)
    rw [pairsM_step] at nx
    have hgab : g a b = (gB o a b && nobody m o2 a b) := by rw [hg]
    refine ⟨fun d => ⟨⟨⟨by omega, by omega⟩, ⟨by omega, by omega⟩, by omega, by omega⟩, fun _ => ⟨fun d2 => ⟨by omega, fun _ => ⟨by omega, fun _ => ?_⟩⟩, fun d2 => ⟨by omega, fun _ => ?_⟩⟩⟩, fun d => ⟨by omega, fun _ => ?_⟩⟩
    · rw [if_pos (by rw [hgab, show gB o a b = true from d, d2]; rfl)] at nx; exact nx
    · rw [if_neg (by rw [hgab, d2, Bool.and_false]; decide)] at nx; exact nx
    · rw [if_neg (by rw [hgab, show gB o a b = false from d, Bool.false_and]; decide)] at nx; exact nx
  · obtain rfl : b = n := by omega
    rw [pairsM_row]
    exact ih (a + 1) (by show a + 1 ≤ b; omega) (by omega)
theorem pcheckR_ok {n : Nat} {l : List PairD} (h : PosOk n l) : pcheckR n l = (mkO (wk (relP l) n), 0, ()) := by rw [pcheckR, if_neg (fun c => c (pcheck_of h)), Int.toNat_natCast]
theorem pcheckR_no {n : Int} {l : List PairD} (h : pcheck n l ≠ 0) : pcheckR n l = (F400, pcheck n l, ()) := by rw [pcheckR, if_pos h]
def closeR (n : Int) (l : List PairD) : List PairD × Int × Unit := if pcheck n l ≠ 0 then ([], pcheck n l, ()) else (pairsF n.toNat (wk (relP l) n.toNat), 0, ())
theorem closeR_ok {n : Nat} {l : List PairD} (h : PosOk n l) : closeR n l = (pairsF n (wk (relP l) n), 0, ()) := by rw [closeR, if_neg (fun c => c (pcheck_of h)), Int.toNat_natCast]
def ccloseR : Ctr := { ps := [.v Pos], rs := [.slc true PairT, I64], pre := fun _ => True, fn := fun x => closeR x.1.1 x.1.2.1, out := fun _ => () }
noncomputable def EcloseR : Env := { P := Try.prog, tt := tt, ctr := [(65, cpcheckR), (68, callP)], res := [Go.ResultVar.tmp 2, Go.ResultVar.tmp 3], rs := [Ty.slc true PairT, Ty.int IntKind.i64], ps := [PK.v (Ty.pair (Ty.int IntKind.i64) (Ty.pair (Ty.slc false PairT) Ty.unit))], cuts := [], nt := 18 }
theorem EcloseR_ok : EnvOk EcloseR := envOk tt_ok ⟨cpcheckR_valid, callP_valid, trivial⟩
theorem FcloseR_ok : FnOk EcloseR Try.f35 := ⟨rfl, rfl⟩
theorem EcloseR_t (x0_1 : Int) (x0_2_1 : List (Int × Int × Unit)) : exec EcloseR 1000 [.code (bodyOf Try.prog 35)] (initSt ccloseR.ps (((x0_1, x0_2_1, ()), ()))) =
  .need (True) (cond (decide (Prod.fst (Prod.snd (pcheckR x0_1 x0_2_1)) ≠ (0 : Int))) (.ret (([], Prod.fst (Prod.snd (pcheckR x0_1 x0_2_1)), ()))) (.need ((0 : Int) ≤ x0_1 ∧ x0_1 ≤ (20 : Int)) (.ret ((pairsF (Int.toNat x0_1) (gB (Prod.fst (pcheckR x0_1 x0_2_1))), (0 : Int), ()))))) := by kernel_rfl
theorem ccloseR_valid : ccloseR.Valid Try.prog 35 := by
  refine Ctr.valid_of EcloseR_ok rfl rfl Try.func35 (c := bodyOf Try.prog 35) rfl rfl FcloseR_ok rfl ?_
  rintro ⟨⟨(n0 : Int), (l : List PairD), ⟨⟩⟩, ⟨⟩⟩ - -
  refine exec_sound (n := 1000) EcloseR_ok FcloseR_ok ?_
  refine holds_of_eq (EcloseR_t n0 l) ?_
  by_cases h : pcheck n0 l = 0
  · obtain ⟨n, rfl, hp⟩ := pcheck_ok h
    have hn := hp.n20
    rw [pcheckR_ok hp]
    simp only [holds_cond, Tree.holds, true_and, true_implies, decide_eq_true_eq, decide_eq_false_iff_not, Bool.not_eq_true', Bool.not_eq_false', Int.toNat_natCast, inK_i64, List.length_set, List.length_cons, List.length_nil]
    refine ⟨fun c => absurd rfl c, fun _ => ⟨by omega, fun _ => ?_⟩⟩
    show ((pairsF n (gB (mkO (wk (relP l) n))), (0 : Int), ()) : List PairD × Int × Unit) = closeR n l
    rw [closeR_ok hp, pairsF_congr (fun a b ha hb => gB_mkO (by omega) (by omega))]
  · rw [pcheckR_no h]
    simp only [holds_cond, Tree.holds, true_and, true_implies, decide_eq_true_eq, decide_eq_false_iff_not, Bool.not_eq_true', Bool.not_eq_false', Int.toNat_natCast, inK_i64, List.length_set, List.length_cons, List.length_nil]
    refine ⟨fun _ => ?_, fun c => absurd h c⟩
    show (([], pcheck n0 l, ()) : List PairD × Int × Unit) = closeR n0 l
    rw [closeR, if_pos h]
def coverR (n : Int) (l : List PairD) : List PairD × Int × Unit := if pcheck n l ≠ 0 then ([], pcheck n l, ()) else (coverL n.toNat l, 0, ())
theorem coverR_ok {n : Nat} {l : List PairD} (h : PosOk n l) : coverR n l = (coverL n l, 0, ()) := by rw [coverR, if_neg (fun c => c (pcheck_of h)), Int.toNat_natCast]
def ccoverR : Ctr := { ps := [.v Pos], rs := [.slc true PairT, I64], pre := fun _ => True, fn := fun x => coverR x.1.1 x.1.2.1, out := fun _ => () }
noncomputable def EcoverR : Env := { P := Try.prog, tt := tt, ctr := [(65, cpcheckR), (66, cpairsC)], res := [Go.ResultVar.tmp 2, Go.ResultVar.tmp 3], rs := [Ty.slc true PairT, Ty.int IntKind.i64], ps := [PK.v (Ty.pair (Ty.int IntKind.i64) (Ty.pair (Ty.slc false PairT) Ty.unit))], cuts := [], nt := 19 }
theorem EcoverR_ok : EnvOk EcoverR := envOk tt_ok ⟨cpcheckR_valid, cpairsC_valid, trivial⟩
theorem FcoverR_ok : FnOk EcoverR Try.f34 := ⟨rfl, rfl⟩
theorem EcoverR_t (x0_1 : Int) (x0_2_1 : List (Int × Int × Unit)) : exec EcoverR 1000 [.code (bodyOf Try.prog 34)] (initSt ccoverR.ps (((x0_1, x0_2_1, ()), ()))) =
  .need (True) (cond (decide (Prod.fst (Prod.snd (pcheckR x0_1 x0_2_1)) ≠ (0 : Int))) (.ret (([], Prod.fst (Prod.snd (pcheckR x0_1 x0_2_1)), ()))) (.need (((0 : Int) ≤ x0_1 ∧ x0_1 ≤ (20 : Int)) ∧ (0 : Int) ≤ x0_1 ∧ x0_1 ≤ (20 : Int)) (.ret ((pairsF (Int.toNat x0_1) fun a b => gB (Prod.fst (pcheckR x0_1 x0_2_1)) a b && nobody (Int.toNat x0_1) (Prod.fst (pcheckR x0_1 x0_2_1)) a b, (0 : Int), ()))))) := by kernel_rfl
theorem ccoverR_valid : ccoverR.Valid Try.prog 34 := by
  refine Ctr.valid_of EcoverR_ok rfl rfl Try.func34 (c := bodyOf Try.prog 34) rfl rfl FcoverR_ok rfl ?_
  rintro ⟨⟨(n0 : Int), (l : List PairD), ⟨⟩⟩, ⟨⟩⟩ - -
  refine exec_sound (n := 1000) EcoverR_ok FcoverR_ok ?_
  refine holds_of_eq (EcoverR_t n0 l) ?_
  by_cases h : pcheck n0 l = 0
  · obtain ⟨n, rfl, hp⟩ := pcheck_ok h
    have hn := hp.n20
    rw [pcheckR_ok hp]
    simp only [holds_cond, Tree.holds, true_and, true_implies, decide_eq_true_eq, decide_eq_false_iff_not, Bool.not_eq_true', Bool.not_eq_false', Int.toNat_natCast, inK_i64, List.length_set, List.length_cons, List.length_nil]
    refine ⟨fun c => absurd rfl c, fun _ => ⟨⟨⟨by omega, by omega⟩, by omega, by omega⟩, fun _ => ?_⟩⟩
    show ((pairsF n (fun a b => gB (mkO (wk (relP l) n)) a b && nobody n (mkO (wk (relP l) n)) a b), (0 : Int), ()) : List PairD × Int × Unit) = coverR n l
    rw [coverR_ok hp, coverL]
    refine congrArg (fun q => (q, (0 : Int), ())) (pairsF_congr (fun a b ha hb => ?_))
    rw [gB_mkO (by omega) (by omega), coverB, nobody]
    congr 2
    have : ∀ r : List Nat, (∀ k ∈ r, k < n) → (r.any fun k => gB (mkO (wk (relP l) n)) a k && gB (mkO (wk (relP l) n)) k b) = r.any fun k => wk (relP l) n a k && wk (relP l) n k b := by
      intro r hr
      induction r with
      | nil => rfl
      | cons k r ih =>
        have hk := hr k (by simp)
        rw [List.any_cons, List.any_cons, gB_mkO (by omega) (by omega), gB_mkO (by omega) (by omega), ih (fun x hx => hr x (by simp [hx]))]
    exact this _ (fun k hk => List.mem_range.1 hk)
  · rw [pcheckR_no h]
    simp only [holds_cond, Tree.holds, true_and, true_implies, decide_eq_true_eq, decide_eq_false_iff_not, Bool.not_eq_true', Bool.not_eq_false', Int.toNat_natCast, inK_i64, List.length_set, List.length_cons, List.length_nil]
    refine ⟨fun _ => ?_, fun c => absurd h c⟩
    show (([], pcheck n0 l, ()) : List PairD × Int × Unit) = coverR n0 l
    rw [coverR, if_pos h]
end Go.Proofs.Ytcafiieffenohaa
