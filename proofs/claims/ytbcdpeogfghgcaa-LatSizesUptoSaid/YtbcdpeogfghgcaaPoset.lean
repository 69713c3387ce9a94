/- The contracts of the package poset's functions. -/
import Derived.Test.YtbcdpeogfghgcaaPoH
namespace Go.Proofs.Ytbcdpeogfghgcaa
open Go.Ex
set_option maxRecDepth 100000
def cminB : Ctr := { ps := [.v I64, .v I64, .v I64], rs := [.bool], pre := fun _ => True, fn := fun x => (inF x.1 x.2.1 x.2.2.1, ()), out := fun _ => () }
noncomputable def EminB : Env := { P := Try.prog, tt := tt, ctr := [], res := [Go.ResultVar.tmp 6], rs := [Ty.bool], ps := [PK.v (Ty.int IntKind.i64), PK.v (Ty.int IntKind.i64), PK.v (Ty.int IntKind.i64)], cuts := [], nt := 15 }
theorem EminB_ok : EnvOk EminB := envOk tt_ok trivial
theorem FminB_ok : FnOk EminB Try.f141 := ⟨rfl, rfl⟩
theorem EminB_t (x0 : Int) (x1 : Int) (x2 : Int) : exec EminB 1000 [.code (bodyOf Try.prog 141)] (initSt cminB.ps ((x0, x1, x2, ()))) =
  cond (decide (x1 ≤ x0)) (.ret ((decide (x0 ≤ x2), ()))) (.ret ((false, ()))) := by kernel_rfl
theorem cminB_valid : cminB.Valid Try.prog 141 := by
  refine Ctr.valid_of EminB_ok rfl rfl Try.func141 (c := bodyOf Try.prog 141) rfl rfl FminB_ok rfl ?_
  rintro ⟨(n : Int), (a : Int), (b : Int), ⟨⟩⟩ - -
  refine exec_sound (n := 1000) EminB_ok FminB_ok ?_
  refine holds_of_eq (EminB_t n a b) ?_
  simp only [holds_cond, Tree.holds, true_and, true_implies, decide_eq_true_eq, decide_eq_false_iff_not, Bool.not_eq_true', Bool.not_eq_false', Int.toNat_natCast, inK_i64, List.length_set, List.length_cons, List.length_nil]
  refine ⟨fun c => ?_, fun c => ?_⟩
  · show ((decide _, ()) : Bool × Unit) = (inF n a b, ()); rw [inF, decide_eq_true c, Bool.true_and]
  · show ((false, ()) : Bool × Unit) = (inF n a b, ()); rw [inF, decide_eq_false c, Bool.false_and]
def cbadP : Ctr := { ps := [.v PairT, .rd I64, .rd I64], rs := [.bool], pre := fun x => (LE.le (α := Int) 0 x.2.1 ∧ LE.le (α := Int) x.2.1 40) ∧ (LE.le (α := Int) 0 x.2.2.1 ∧ LE.le (α := Int) x.2.2.1 40), fn := fun x => (badP x.2.1 x.2.2.1 x.1, ()), out := fun _ => () }
noncomputable def EbadP : Env := { P := Try.prog, tt := tt, ctr := [(141, cminB)], res := [Go.ResultVar.tmp 4], rs := [Ty.bool], ps := [PK.v PairT, PK.rd (Ty.int IntKind.i64), PK.rd (Ty.int IntKind.i64)], cuts := [], nt := 19 }
theorem EbadP_ok : EnvOk EbadP := envOk tt_ok ⟨cminB_valid, trivial⟩
theorem FbadP_ok : FnOk EbadP Try.f143 := ⟨rfl, rfl⟩
theorem EbadP_t (x0_1 : Int) (x0_2_1 : Int) (x1 : Int) (x2 : Int) : exec EbadP 1000 [.code (bodyOf Try.prog 143)] (initSt cbadP.ps (((x0_1, x0_2_1, ()), x1, x2, ()))) =
  .need (inK IntKind.i64 (x1 - (1 : Int))) (.need (True) (cond (!inF x0_1 (0 : Int) (x1 - (1 : Int))) (.ret ((true, ()))) (.need (inK IntKind.i64 (x2 - (1 : Int))) (.need (True) (.ret ((!inF x0_2_1 (0 : Int) (x2 - (1 : Int)), ()))))))) := by kernel_rfl
theorem cbadP_valid : cbadP.Valid Try.prog 143 := by
  refine Ctr.valid_of EbadP_ok rfl rfl Try.func143 (c := bodyOf Try.prog 143) rfl rfl FbadP_ok rfl ?_
  rintro ⟨⟨(a : Int), (b : Int), ⟨⟩⟩, (m : Int), (n : Int), ⟨⟩⟩ ⟨⟨hm0, hm1⟩, hn0, hn1⟩ -
  have hm0 : 0 ≤ m := hm0
  have hm1 : m ≤ 40 := hm1
  have hn0 : 0 ≤ n := hn0
  have hn1 : n ≤ 40 := hn1
  refine exec_sound (n := 1000) EbadP_ok FbadP_ok ?_
  refine holds_of_eq (EbadP_t a b m n) ?_
  simp only [holds_cond, Tree.holds, true_and, true_implies, decide_eq_true_eq, decide_eq_false_iff_not, Bool.not_eq_true', Bool.not_eq_false', Int.toNat_natCast, inK_i64, List.length_set, List.length_cons, List.length_nil]
  refine ⟨by omega, fun _ => ⟨fun c => ?_, fun c => ⟨by omega, fun _ => ?_⟩⟩⟩
  · show ((true, ()) : Bool × Unit) = (!inF a 0 (m - 1) || !inF b 0 (n - 1), ()); rw [c]; rfl
  · show ((!inF b 0 (n - 1), ()) : Bool × Unit) = (!inF a 0 (m - 1) || !inF b 0 (n - 1), ()); rw [c]; rfl
def cidxP : Ctr := { ps := [.v (.slc false PairT), .clo 143 [I64, I64]], rs := [I64], pre := fun x => (LE.le (α := Int) 0 x.2.1.1 ∧ LE.le (α := Int) x.2.1.1 40) ∧ (LE.le (α := Int) 0 x.2.1.2.1 ∧ LE.le (α := Int) x.2.1.2.1 40), fn := fun x => (idxOf (badP x.2.1.1 x.2.1.2.1) x.1, ()), out := fun _ => () }
noncomputable def EidxP : Env := { P := Try.prog, tt := tt, ctr := [(143, cbadP)], res := [Go.ResultVar.tmp 4], rs := [Ty.int IntKind.i64], ps := [PK.v (Ty.slc false PairT), PK.clo 143 [Ty.int IntKind.i64, Ty.int IntKind.i64]], cuts := [(2, [(0, none), (1, none), (7, none), (8, none)])], nt := 19 }
theorem EidxP_ok : EnvOk EidxP := envOk tt_ok ⟨cbadP_valid, trivial⟩
theorem FidxP_ok : FnOk EidxP Try.f147 := ⟨rfl, rfl⟩
theorem EidxP_t (x0 : List (Int × Int × Unit)) (x1c0 : Int) (x1c1 : Int) : exec EidxP 1000 [.code (bodyOf Try.prog 147)] (initSt cidxP.ps ((x0, (x1c0, x1c1, ()), ()))) =
  .cut (loopAt (bodyOf Try.prog 147) 2).1 (loopAt (bodyOf Try.prog 147) 2).2 (St.mk [(0, AV.val (Ty.slc false PairT) x0), (1, AV.clo 143 (AV.cons (AV.rptr (Ty.int IntKind.i64) x1c0) (AV.cons (AV.rptr (Ty.int IntKind.i64) x1c1) AV.nil))), (7, AV.val (Ty.int IntKind.i64) (↑(List.length x0) : Int)), (8, AV.val (Ty.int IntKind.i64) (0 : Int))] []) := by kernel_rfl
def EidxP_s2 (v0 : List (Int × Int × Unit)) (v1a : Int) (v1ba : Int) (v7 : Int) (v8 : Int) : St := St.mk [(0, AV.val (Ty.slc false PairT) v0), (1, AV.clo 143 (AV.cons (AV.rptr (Ty.int IntKind.i64) v1a) (AV.cons (AV.rptr (Ty.int IntKind.i64) v1ba) AV.nil))), (7, AV.val (Ty.int IntKind.i64) v7), (8, AV.val (Ty.int IntKind.i64) v8)] []
theorem EidxP_l2 (v0 : List (Int × Int × Unit)) (v1a : Int) (v1ba : Int) (v7 : Int) (v8 : Int) : exec EidxP 1000 (.code (loopAt (bodyOf Try.prog 147) 2).1 :: .inLoop (loopAt (bodyOf Try.prog 147) 2).1 :: (loopAt (bodyOf Try.prog 147) 2).2) (EidxP_s2 v0 v1a v1ba v7 v8) =
  cond (decide (v8 < v7)) (.need ((0 : Int) ≤ v8 ∧ v8 < (↑(List.length v0) : Int)) (.need (((0 : Int) ≤ v1a ∧ v1a ≤ (40 : Int)) ∧ (0 : Int) ≤ v1ba ∧ v1ba ≤ (40 : Int)) (cond (badP v1a v1ba (List.getD v0 (Int.toNat v8) ((0 : Int), (0 : Int), ()))) (.ret ((v8, ()))) (.need (inK IntKind.i64 (v8 + (1 : Int))) (.cut (loopAt (bodyOf Try.prog 147) 2).1 (loopAt (bodyOf Try.prog 147) 2).2 (St.mk [(0, AV.val (Ty.slc false PairT) v0), (1, AV.clo 143 (AV.cons (AV.rptr (Ty.int IntKind.i64) v1a) (AV.cons (AV.rptr (Ty.int IntKind.i64) v1ba) AV.nil))), (7, AV.val (Ty.int IntKind.i64) v7), (8, AV.val (Ty.int IntKind.i64) (v8 + (1 : Int)))] [])))))) (.ret (((-1 : Int), ()))) := by kernel_rfl
theorem cidxP_valid : cidxP.Valid Try.prog 147 := by
  refine Ctr.valid_of EidxP_ok rfl rfl Try.func147 (c := bodyOf Try.prog 147) rfl rfl FidxP_ok rfl ?_
  rintro ⟨(l : List (PairD)), ⟨(m : Int), (n : Int), ⟨⟩⟩, ⟨⟩⟩ hp ⟨⟨hl, -⟩, -⟩
  have hl : l.length ≤ 9223372036854775807 := hl
  have hp : (LE.le (α := Int) 0 m ∧ LE.le (α := Int) m 40) ∧ (LE.le (α := Int) 0 n ∧ LE.le (α := Int) n 40) := hp
  refine exec_sound (n := 1000) EidxP_ok FidxP_ok ?_
  refine holds_of_eq (EidxP_t l m n) ?_
  refine Reach.loopI EidxP_ok FidxP_ok (fun i : Nat => EidxP_s2 l m n (l.length : Int) (i : Int)) (fun i => i ≤ l.length ∧ idxOf (badP m n) l = idxGo (badP m n) (l.drop i) i)
    (fun i => l.length - i) 1000 (fun _ => ⟨uniq_of rfl, uniq_of rfl⟩) ?_ 0 ⟨by omega, rfl⟩
  rintro i ⟨k1, k2⟩ - ih
  refine holds_of_eq (EidxP_l2 ..) ?_
  simp only [holds_cond, Tree.holds, true_and, true_implies, decide_eq_true_eq, decide_eq_false_iff_not, Bool.not_eq_true', Bool.not_eq_false', Int.toNat_natCast, inK_i64, List.length_set, List.length_cons, List.length_nil]
  refine ⟨fun h => ?_, fun h => ?_⟩
  · rw [drop_getD (show i < l.length by omega) (0, 0, ()), idxGo] at k2
    refine ⟨by omega, fun _ => ⟨hp, fun _ => ⟨fun c => ?_, fun c => ⟨by omega, fun _ => ih (i + 1) ⟨by omega, ?_⟩ (by omega)⟩⟩⟩⟩
    · show (((i : Int), ()) : Int × Unit) = (idxOf (badP m n) l, ())
      rw [k2, if_pos c]
    · rw [k2, if_neg (fun h9 => Bool.noConfusion (Eq.trans (Eq.symm h9) c))]
  · rw [List.drop_eq_nil_of_le (by omega)] at k2
    show (((-1 : Int), ()) : Int × Unit) = (idxOf (badP m n) l, ())
    rw [k2]; rfl
def ccontP : Ctr := { ps := [.v (.slc false PairT), .clo 143 [I64, I64]], rs := [.bool], pre := fun x => (LE.le (α := Int) 0 x.2.1.1 ∧ LE.le (α := Int) x.2.1.1 40) ∧ (LE.le (α := Int) 0 x.2.1.2.1 ∧ LE.le (α := Int) x.2.1.2.1 40), fn := fun x => (List.any (α := PairD) x.1 (badP x.2.1.1 x.2.1.2.1), ()), out := fun _ => () }
noncomputable def EcontP : Env := { P := Try.prog, tt := tt, ctr := [(147, cidxP)], res := [Go.ResultVar.tmp 4], rs := [Ty.bool], ps := [PK.v (Ty.slc false PairT), PK.clo 143 [Ty.int IntKind.i64, Ty.int IntKind.i64]], cuts := [], nt := 9 }
theorem EcontP_ok : EnvOk EcontP := envOk tt_ok ⟨cidxP_valid, trivial⟩
theorem FcontP_ok : FnOk EcontP Try.f142 := ⟨rfl, rfl⟩
theorem EcontP_t (x0 : List (Int × Int × Unit)) (x1c0 : Int) (x1c1 : Int) : exec EcontP 1000 [.code (bodyOf Try.prog 142)] (initSt ccontP.ps ((x0, (x1c0, x1c1, ()), ()))) =
  .need (((0 : Int) ≤ x1c0 ∧ x1c0 ≤ (40 : Int)) ∧ (0 : Int) ≤ x1c1 ∧ x1c1 ≤ (40 : Int)) (.ret ((decide ((0 : Int) ≤ idxOf (badP x1c0 x1c1) x0), ()))) := by kernel_rfl
theorem ccontP_valid : ccontP.Valid Try.prog 142 := by
  refine Ctr.valid_of EcontP_ok rfl rfl Try.func142 (c := bodyOf Try.prog 142) rfl rfl FcontP_ok rfl ?_
  rintro ⟨(l : List (PairD)), ⟨(m : Int), (n : Int), ⟨⟩⟩, ⟨⟩⟩ hp -
  refine exec_sound (n := 1000) EcontP_ok FcontP_ok ?_
  refine holds_of_eq (EcontP_t l m n) ?_
  refine ⟨hp, fun _ => ?_⟩
  show ((decide (0 ≤ idxOf (badP m n) l), ()) : Bool × Unit) = (l.any (badP m n), ())
  rw [idx_any]
def cmcheck : Ctr := { ps := [.v I64, .v I64, .v (.slc false PairT)], rs := [I64], pre := fun _ => True, fn := fun x => (mcheck x.1 x.2.1 x.2.2.1, ()), out := fun _ => () }
noncomputable def Emcheck : Env := { P := Try.prog, tt := tt, ctr := [(141, cminB), (142, ccontP)], res := [Go.ResultVar.tmp 6], rs := [Ty.int IntKind.i64], ps := [PK.v (Ty.int IntKind.i64), PK.v (Ty.int IntKind.i64), PK.v (Ty.slc false PairT)], cuts := [], nt := 24 }
theorem Emcheck_ok : EnvOk Emcheck := envOk tt_ok ⟨cminB_valid, ccontP_valid, trivial⟩
theorem Fmcheck_ok : FnOk Emcheck Try.f134 := ⟨rfl, rfl⟩
theorem Emcheck_t (x0 : Int) (x1 : Int) (x2 : List (Int × Int × Unit)) : exec Emcheck 1000 [.code (bodyOf Try.prog 134)] (initSt cmcheck.ps ((x0, x1, x2, ()))) =
  .need (True) (cond (!inF x0 (0 : Int) (40 : Int)) (.ret (((1 : Int), ()))) (.need (True) (cond (!inF x1 (0 : Int) (40 : Int)) (.ret (((1 : Int), ()))) (cond (decide ((600 : Int) < (↑(List.length x2) : Int))) (.ret (((2 : Int), ()))) (.need (((0 : Int) ≤ x0 ∧ x0 ≤ (40 : Int)) ∧ (0 : Int) ≤ x1 ∧ x1 ≤ (40 : Int)) (cond (List.any x2 (badP x0 x1)) (.ret (((4 : Int), ()))) (.ret (((0 : Int), ()))))))))) := by kernel_rfl
theorem cmcheck_valid : cmcheck.Valid Try.prog 134 := by
  refine Ctr.valid_of Emcheck_ok rfl rfl Try.func134 (c := bodyOf Try.prog 134) rfl rfl Fmcheck_ok rfl ?_
  rintro ⟨(m : Int), (n : Int), (l : List PairD), ⟨⟩⟩ - -
  refine exec_sound (n := 1000) Emcheck_ok Fmcheck_ok ?_
  refine holds_of_eq (Emcheck_t m n l) ?_
  simp only [holds_cond, Tree.holds, true_and, true_implies, decide_eq_true_eq, decide_eq_false_iff_not, Bool.not_eq_true', Bool.not_eq_false', Int.toNat_natCast, inK_i64, List.length_set, List.length_cons, List.length_nil]
  have bad : (inF m 0 40 && inF n 0 40) = false → (((1 : Int), ()) : Int × Unit) = (mcheck m n l, ()) := fun h => by rw [mcheck, if_pos h]
  refine ⟨fun h => bad (by rw [h]; rfl), fun h1 => ⟨fun h => bad (by rw [h1, h]; rfl), fun h2 => ⟨fun h => ?_, fun h3 => ⟨⟨inF_iff.1 h1, inF_iff.1 h2⟩, fun _ => ⟨fun h => ?_, fun h => ?_⟩⟩⟩⟩⟩
  all_goals have hw : ¬ (inF m 0 40 && inF n 0 40) = false := by rw [h1, h2]; decide
  · show (((2 : Int), ()) : Int × Unit) = (mcheck m n l, ()); rw [mcheck, if_neg hw, if_pos (by omega)]
  · show (((4 : Int), ()) : Int × Unit) = (mcheck m n l, ()); rw [mcheck, if_neg hw, if_neg (by omega), if_pos h]
  · show (((0 : Int), ()) : Int × Unit) = (mcheck m n l, ()); rw [mcheck, if_neg hw, if_neg (by omega), if_neg (fun h9 => Bool.noConfusion (Eq.trans (Eq.symm h9) h))]
def cclosed : Ctr := { ps := [.v Pos], rs := [Ord], pre := fun x => (LE.le (α := Int) 0 x.1.1 ∧ LE.le (α := Int) x.1.1 20) ∧ ∀ q ∈ (show List PairD from x.1.2.1), (0 ≤ q.1 ∧ q.1 < (show Int from x.1.1)) ∧ (0 ≤ q.2.1 ∧ q.2.1 < (show Int from x.1.1)), fn := fun x => (mkO (wk (relP x.1.2.1) (Int.toNat x.1.1)), ()), out := fun _ => () }
noncomputable def Eclosed : Env := { P := Try.prog, tt := tt, ctr := [], res := [Go.ResultVar.cell 2 198], rs := [Ty.arr 20 (Ty.arr 20 Ty.bool)], ps := [PK.v (Ty.pair (Ty.int IntKind.i64) (Ty.pair (Ty.slc false PairT) Ty.unit))], cuts := [(3, [(1, none), (2, none), (3, none), (10, none), (11, none), (12, none)]), (8, [(1, none), (2, none), (3, none), (24, none), (25, none)]), (11, [(1, none), (2, none), (3, none), (6, none), (24, none), (25, none), (29, none), (30, none)]), (14, [(1, none), (2, none), (3, none), (6, none), (7, none), (24, none), (25, none), (29, none), (30, none), (34, none), (35, none)])], nt := 65 }
theorem Eclosed_ok : EnvOk Eclosed := envOk tt_ok trivial
theorem Fclosed_ok : FnOk Eclosed Try.f135 := ⟨rfl, rfl⟩
theorem Eclosed_t (x0_1 : Int) (x0_2_1 : List (Int × Int × Unit)) : exec Eclosed 1000 [.code (bodyOf Try.prog 135)] (initSt cclosed.ps (((x0_1, x0_2_1, ()), ()))) =
  .cut (loopAt (bodyOf Try.prog 135) 3).1 (loopAt (bodyOf Try.prog 135) 3).2 (St.mk [(1, AV.ptr 1 []), (2, AV.ptr 2 []), (3, AV.ptr 3 []), (10, AV.val (Ty.slc false PairT) x0_2_1), (11, AV.val (Ty.int IntKind.i64) (↑(List.length x0_2_1) : Int)), (12, AV.val (Ty.int IntKind.i64) (0 : Int))] [(1, Ent.var (Ty.pair (Ty.int IntKind.i64) (Ty.pair (Ty.slc false PairT) Ty.unit)) (x0_1, x0_2_1, ())), (2, Ent.var (Ty.arr 20 (Ty.arr 20 Ty.bool)) F400), (3, Ent.var (Ty.arr 20 (Ty.arr 20 Ty.bool)) F400)]) := by kernel_rfl
def Eclosed_s3 (v10 : List (Int × Int × Unit)) (v11 : Int) (v12 : Int) (o1_1 : Int) (o1_2_1 : List (Int × Int × Unit)) (o2 : List (List Bool)) (o3 : List (List Bool)) : St := St.mk [(1, AV.ptr 1 []), (2, AV.ptr 2 []), (3, AV.ptr 3 []), (10, AV.val (Ty.slc false PairT) v10), (11, AV.val (Ty.int IntKind.i64) v11), (12, AV.val (Ty.int IntKind.i64) v12)] [(1, Ent.var (Ty.pair (Ty.int IntKind.i64) (Ty.pair (Ty.slc false PairT) Ty.unit)) (o1_1, o1_2_1, ())), (2, Ent.var (Ty.arr 20 (Ty.arr 20 Ty.bool)) o2), (3, Ent.var (Ty.arr 20 (Ty.arr 20 Ty.bool)) o3)]
theorem Eclosed_l3 (v10 : List (Int × Int × Unit)) (v11 : Int) (v12 : Int) (o1_1 : Int) (o1_2_1 : List (Int × Int × Unit)) (o2 : List (List Bool)) (o3 : List (List Bool)) : exec Eclosed 1000 (.code (loopAt (bodyOf Try.prog 135) 3).1 :: .inLoop (loopAt (bodyOf Try.prog 135) 3).1 :: (loopAt (bodyOf Try.prog 135) 3).2) (Eclosed_s3 v10 v11 v12 o1_1 o1_2_1 o2 o3) =
  cond (decide (v12 < v11)) (.need ((0 : Int) ≤ v12 ∧ v12 < (↑(List.length v10) : Int)) (.need ((0 : Int) ≤ Prod.fst (List.getD v10 (Int.toNat v12) ((0 : Int), (0 : Int), ())) ∧ Prod.fst (List.getD v10 (Int.toNat v12) ((0 : Int), (0 : Int), ())) < (↑20 : Int)) (.need ((0 : Int) ≤ Prod.fst (Prod.snd (List.getD v10 (Int.toNat v12) ((0 : Int), (0 : Int), ()))) ∧ Prod.fst (Prod.snd (List.getD v10 (Int.toNat v12) ((0 : Int), (0 : Int), ()))) < (↑20 : Int)) (.need (inK IntKind.i64 (v12 + (1 : Int))) (.cut (loopAt (bodyOf Try.prog 135) 3).1 (loopAt (bodyOf Try.prog 135) 3).2 (St.mk [(1, AV.ptr 1 []), (2, AV.ptr 2 []), (3, AV.ptr 3 []), (10, AV.val (Ty.slc false PairT) v10), (11, AV.val (Ty.int IntKind.i64) v11), (12, AV.val (Ty.int IntKind.i64) (v12 + (1 : Int)))] [(1, Ent.var (Ty.pair (Ty.int IntKind.i64) (Ty.pair (Ty.slc false PairT) Ty.unit)) (o1_1, o1_2_1, ())), (2, Ent.var (Ty.arr 20 (Ty.arr 20 Ty.bool)) o2), (3, Ent.var (Ty.arr 20 (Ty.arr 20 Ty.bool)) (List.set o3 (Int.toNat (Prod.fst (List.getD v10 (Int.toNat v12) ((0 : Int), (0 : Int), ())))) (List.set (List.getD o3 (Int.toNat (Prod.fst (List.getD v10 (Int.toNat v12) ((0 : Int), (0 : Int), ())))) F20) (Int.toNat (Prod.fst (Prod.snd (List.getD v10 (Int.toNat v12) ((0 : Int), (0 : Int), ()))))) true)))])))))) (.cut (loopAt (bodyOf Try.prog 135) 8).1 (loopAt (bodyOf Try.prog 135) 8).2 (St.mk [(1, AV.ptr 1 []), (2, AV.ptr 2 []), (3, AV.ptr 3 []), (24, AV.val (Ty.int IntKind.i64) o1_1), (25, AV.val (Ty.int IntKind.i64) (0 : Int))] [(1, Ent.var (Ty.pair (Ty.int IntKind.i64) (Ty.pair (Ty.slc false PairT) Ty.unit)) (o1_1, o1_2_1, ())), (2, Ent.var (Ty.arr 20 (Ty.arr 20 Ty.bool)) o2), (3, Ent.var (Ty.arr 20 (Ty.arr 20 Ty.bool)) o3)])) := by kernel_rfl
def Eclosed_s8 (v24 : Int) (v25 : Int) (o1_1 : Int) (o1_2_1 : List (Int × Int × Unit)) (o2 : List (List Bool)) (o3 : List (List Bool)) : St := St.mk [(1, AV.ptr 1 []), (2, AV.ptr 2 []), (3, AV.ptr 3 []), (24, AV.val (Ty.int IntKind.i64) v24), (25, AV.val (Ty.int IntKind.i64) v25)] [(1, Ent.var (Ty.pair (Ty.int IntKind.i64) (Ty.pair (Ty.slc false PairT) Ty.unit)) (o1_1, o1_2_1, ())), (2, Ent.var (Ty.arr 20 (Ty.arr 20 Ty.bool)) o2), (3, Ent.var (Ty.arr 20 (Ty.arr 20 Ty.bool)) o3)]
theorem Eclosed_l8 (v24 : Int) (v25 : Int) (o1_1 : Int) (o1_2_1 : List (Int × Int × Unit)) (o2 : List (List Bool)) (o3 : List (List Bool)) : exec Eclosed 1000 (.code (loopAt (bodyOf Try.prog 135) 8).1 :: .inLoop (loopAt (bodyOf Try.prog 135) 8).1 :: (loopAt (bodyOf Try.prog 135) 8).2) (Eclosed_s8 v24 v25 o1_1 o1_2_1 o2 o3) =
  cond (decide (v25 < v24)) (.cut (loopAt (bodyOf Try.prog 135) 11).1 (loopAt (bodyOf Try.prog 135) 11).2 (St.mk [(1, AV.ptr 1 []), (2, AV.ptr 2 []), (3, AV.ptr 3 []), (6, AV.val (Ty.int IntKind.i64) v25), (24, AV.val (Ty.int IntKind.i64) v24), (25, AV.val (Ty.int IntKind.i64) v25), (29, AV.val (Ty.int IntKind.i64) o1_1), (30, AV.val (Ty.int IntKind.i64) (0 : Int))] [(1, Ent.var (Ty.pair (Ty.int IntKind.i64) (Ty.pair (Ty.slc false PairT) Ty.unit)) (o1_1, o1_2_1, ())), (2, Ent.var (Ty.arr 20 (Ty.arr 20 Ty.bool)) o2), (3, Ent.var (Ty.arr 20 (Ty.arr 20 Ty.bool)) o3)])) (.ret ((o3, ()))) := by kernel_rfl
def Eclosed_s11 (v6 : Int) (v24 : Int) (v25 : Int) (v29 : Int) (v30 : Int) (o1_1 : Int) (o1_2_1 : List (Int × Int × Unit)) (o2 : List (List Bool)) (o3 : List (List Bool)) : St := St.mk [(1, AV.ptr 1 []), (2, AV.ptr 2 []), (3, AV.ptr 3 []), (6, AV.val (Ty.int IntKind.i64) v6), (24, AV.val (Ty.int IntKind.i64) v24), (25, AV.val (Ty.int IntKind.i64) v25), (29, AV.val (Ty.int IntKind.i64) v29), (30, AV.val (Ty.int IntKind.i64) v30)] [(1, Ent.var (Ty.pair (Ty.int IntKind.i64) (Ty.pair (Ty.slc false PairT) Ty.unit)) (o1_1, o1_2_1, ())), (2, Ent.var (Ty.arr 20 (Ty.arr 20 Ty.bool)) o2), (3, Ent.var (Ty.arr 20 (Ty.arr 20 Ty.bool)) o3)]
theorem Eclosed_l11 (v6 : Int) (v24 : Int) (v25 : Int) (v29 : Int) (v30 : Int) (o1_1 : Int) (o1_2_1 : List (Int × Int × Unit)) (o2 : List (List Bool)) (o3 : List (List Bool)) : exec Eclosed 1000 (.code (loopAt (bodyOf Try.prog 135) 11).1 :: .inLoop (loopAt (bodyOf Try.prog 135) 11).1 :: (loopAt (bodyOf Try.prog 135) 11).2) (Eclosed_s11 v6 v24 v25 v29 v30 o1_1 o1_2_1 o2 o3) =
  cond (decide (v30 < v29)) (.cut (loopAt (bodyOf Try.prog 135) 14).1 (loopAt (bodyOf Try.prog 135) 14).2 (St.mk [(1, AV.ptr 1 []), (2, AV.ptr 2 []), (3, AV.ptr 3 []), (6, AV.val (Ty.int IntKind.i64) v6), (7, AV.val (Ty.int IntKind.i64) v30), (24, AV.val (Ty.int IntKind.i64) v24), (25, AV.val (Ty.int IntKind.i64) v25), (29, AV.val (Ty.int IntKind.i64) v29), (30, AV.val (Ty.int IntKind.i64) v30), (34, AV.val (Ty.int IntKind.i64) o1_1), (35, AV.val (Ty.int IntKind.i64) (0 : Int))] [(1, Ent.var (Ty.pair (Ty.int IntKind.i64) (Ty.pair (Ty.slc false PairT) Ty.unit)) (o1_1, o1_2_1, ())), (2, Ent.var (Ty.arr 20 (Ty.arr 20 Ty.bool)) o2), (3, Ent.var (Ty.arr 20 (Ty.arr 20 Ty.bool)) o3)])) (.need (inK IntKind.i64 (v25 + (1 : Int))) (.cut (loopAt (bodyOf Try.prog 135) 8).1 (loopAt (bodyOf Try.prog 135) 8).2 (St.mk [(1, AV.ptr 1 []), (2, AV.ptr 2 []), (3, AV.ptr 3 []), (24, AV.val (Ty.int IntKind.i64) v24), (25, AV.val (Ty.int IntKind.i64) (v25 + (1 : Int)))] [(1, Ent.var (Ty.pair (Ty.int IntKind.i64) (Ty.pair (Ty.slc false PairT) Ty.unit)) (o1_1, o1_2_1, ())), (2, Ent.var (Ty.arr 20 (Ty.arr 20 Ty.bool)) o2), (3, Ent.var (Ty.arr 20 (Ty.arr 20 Ty.bool)) o3)]))) := by kernel_rfl
def Eclosed_s14 (v6 : Int) (v7 : Int) (v24 : Int) (v25 : Int) (v29 : Int) (v30 : Int) (v34 : Int) (v35 : Int) (o1_1 : Int) (o1_2_1 : List (Int × Int × Unit)) (o2 : List (List Bool)) (o3 : List (List Bool)) : St := St.mk [(1, AV.ptr 1 []), (2, AV.ptr 2 []), (3, AV.ptr 3 []), (6, AV.val (Ty.int IntKind.i64) v6), (7, AV.val (Ty.int IntKind.i64) v7), (24, AV.val (Ty.int IntKind.i64) v24), (25, AV.val (Ty.int IntKind.i64) v25), (29, AV.val (Ty.int IntKind.i64) v29), (30, AV.val (Ty.int IntKind.i64) v30), (34, AV.val (Ty.int IntKind.i64) v34), (35, AV.val (Ty.int IntKind.i64) v35)] [(1, Ent.var (Ty.pair (Ty.int IntKind.i64) (Ty.pair (Ty.slc false PairT) Ty.unit)) (o1_1, o1_2_1, ())), (2, Ent.var (Ty.arr 20 (Ty.arr 20 Ty.bool)) o2), (3, Ent.var (Ty.arr 20 (Ty.arr 20 Ty.bool)) o3)]
theorem Eclosed_l14 (v6 : Int) (v7 : Int) (v24 : Int) (v25 : Int) (v29 : Int) (v30 : Int) (v34 : Int) (v35 : Int) (o1_1 : Int) (o1_2_1 : List (Int × Int × Unit)) (o2 : List (List Bool)) (o3 : List (List Bool)) : exec Eclosed 1000 (.code (loopAt (bodyOf Try.prog 135) 14).1 :: .inLoop (loopAt (bodyOf Try.prog 135) 14).1 :: (loopAt (bodyOf Try.prog 135) 14).2) (Eclosed_s14 v6 v7 v24 v25 v29 v30 v34 v35 o1_1 o1_2_1 o2 o3) =
  cond (decide (v35 < v34)) (.need ((0 : Int) ≤ v7 ∧ v7 < (↑20 : Int)) (.need ((0 : Int) ≤ v35 ∧ v35 < (↑20 : Int)) (cond (List.getD (List.getD o3 (Int.toNat v7) F20) (Int.toNat v35) false) (.need ((0 : Int) ≤ v7 ∧ v7 < (↑20 : Int)) (.need ((0 : Int) ≤ v35 ∧ v35 < (↑20 : Int)) (.need (inK IntKind.i64 (v35 + (1 : Int))) (.cut (loopAt (bodyOf Try.prog 135) 14).1 (loopAt (bodyOf Try.prog 135) 14).2 (St.mk [(1, AV.ptr 1 []), (2, AV.ptr 2 []), (3, AV.ptr 3 []), (6, AV.val (Ty.int IntKind.i64) v6), (7, AV.val (Ty.int IntKind.i64) v7), (24, AV.val (Ty.int IntKind.i64) v24), (25, AV.val (Ty.int IntKind.i64) v25), (29, AV.val (Ty.int IntKind.i64) v29), (30, AV.val (Ty.int IntKind.i64) v30), (34, AV.val (Ty.int IntKind.i64) v34), (35, AV.val (Ty.int IntKind.i64) (v35 + (1 : Int)))] [(1, Ent.var (Ty.pair (Ty.int IntKind.i64) (Ty.pair (Ty.slc false PairT) Ty.unit)) (o1_1, o1_2_1, ())), (2, Ent.var (Ty.arr 20 (Ty.arr 20 Ty.bool)) o2), (3, Ent.var (Ty.arr 20 (Ty.arr 20 Ty.bool)) (List.set o3 (Int.toNat v7) (List.set (List.getD o3 (Int.toNat v7) F20) (Int.toNat v35) true)))]))))) (.need ((0 : Int) ≤ v7 ∧ v7 < (↑20 : Int)) (.need ((0 : Int) ≤ v6 ∧ v6 < (↑20 : Int)) (cond (List.getD (List.getD o3 (Int.toNat v7) F20) (Int.toNat v6) false) (.need ((0 : Int) ≤ v6 ∧ v6 < (↑20 : Int)) (.need ((0 : Int) ≤ v35 ∧ v35 < (↑20 : Int)) (.need ((0 : Int) ≤ v7 ∧ v7 < (↑20 : Int)) (.need ((0 : Int) ≤ v35 ∧ v35 < (↑20 : Int)) (.need (inK IntKind.i64 (v35 + (1 : Int))) (.cut (loopAt (bodyOf Try.prog 135) 14).1 (loopAt (bodyOf Try.prog 135) 14).2 (St.mk [(1, AV.ptr 1 []), (2, AV.ptr 2 []), (3, AV.ptr 3 []), (6, AV.val (Ty.int IntKind.i64) v6), (7, AV.val (Ty.int IntKind.i64) v7), (24, AV.val (Ty.int IntKind.i64) v24), (25, AV.val (Ty.int IntKind.i64) v25), (29, AV.val (Ty.int IntKind.i64) v29), (30, AV.val (Ty.int IntKind.i64) v30), (34, AV.val (Ty.int IntKind.i64) v34), (35, AV.val (Ty.int IntKind.i64) (v35 + (1 : Int)))] [(1, Ent.var (Ty.pair (Ty.int IntKind.i64) (Ty.pair (Ty.slc false PairT) Ty.unit)) (o1_1, o1_2_1, ())), (2, Ent.var (Ty.arr 20 (Ty.arr 20 Ty.bool)) o2), (3, Ent.var (Ty.arr 20 (Ty.arr 20 Ty.bool)) (List.set o3 (Int.toNat v7) (List.set (List.getD o3 (Int.toNat v7) F20) (Int.toNat v35) (List.getD (List.getD o3 (Int.toNat v6) F20) (Int.toNat v35) false))))]))))))) (.need ((0 : Int) ≤ v7 ∧ v7 < (↑20 : Int)) (.need ((0 : Int) ≤ v35 ∧ v35 < (↑20 : Int)) (.need (inK IntKind.i64 (v35 + (1 : Int))) (.cut (loopAt (bodyOf Try.prog 135) 14).1 (loopAt (bodyOf Try.prog 135) 14).2 (St.mk [(1, AV.ptr 1 []), (2, AV.ptr 2 []), (3, AV.ptr 3 []), (6, AV.val (Ty.int IntKind.i64) v6), (7, AV.val (Ty.int IntKind.i64) v7), (24, AV.val (Ty.int IntKind.i64) v24), (25, AV.val (Ty.int IntKind.i64) v25), (29, AV.val (Ty.int IntKind.i64) v29), (30, AV.val (Ty.int IntKind.i64) v30), (34, AV.val (Ty.int IntKind.i64) v34), (35, AV.val (Ty.int IntKind.i64) (v35 + (1 : Int)))] [(1, Ent.var (Ty.pair (Ty.int IntKind.i64) (Ty.pair (Ty.slc false PairT) Ty.unit)) (o1_1, o1_2_1, ())), (2, Ent.var (Ty.arr 20 (Ty.arr 20 Ty.bool)) o2), (3, Ent.var (Ty.arr 20 (Ty.arr 20 Ty.bool)) (List.set o3 (Int.toNat v7) (List.set (List.getD o3 (Int.toNat v7) F20) (Int.toNat v35) false)))]))))))))))) (.need (inK IntKind.i64 (v30 + (1 : Int))) (.cut (loopAt (bodyOf Try.prog 135) 11).1 (loopAt (bodyOf Try.prog 135) 11).2 (St.mk [(1, AV.ptr 1 []), (2, AV.ptr 2 []), (3, AV.ptr 3 []), (6, AV.val (Ty.int IntKind.i64) v6), (24, AV.val (Ty.int IntKind.i64) v24), (25, AV.val (Ty.int IntKind.i64) v25), (29, AV.val (Ty.int IntKind.i64) v29), (30, AV.val (Ty.int IntKind.i64) (v30 + (1 : Int)))] [(1, Ent.var (Ty.pair (Ty.int IntKind.i64) (Ty.pair (Ty.slc false PairT) Ty.unit)) (o1_1, o1_2_1, ())), (2, Ent.var (Ty.arr 20 (Ty.arr 20 Ty.bool)) o2), (3, Ent.var (Ty.arr 20 (Ty.arr 20 Ty.bool)) o3)]))) := by kernel_rfl
theorem upto_next {a n : Nat} {P : Nat → Nat → Prop} (h : ∀ x, x < a → ∀ y, y < n → P x y) (h2 : ∀ y, y < n → P a y) : ∀ x, x < a + 1 → ∀ y, y < n → P x y := fun x hx y hy => by
  rcases Nat.lt_or_ge x a with h1 | h1
  · exact h x h1 y hy
  · obtain rfl : x = a := by omega
    exact h2 y hy
theorem relP_snoc {l : List PairD} {i : Nat} (hi : i < l.length) {A B : Nat} (hA : (l.getD i (0, 0, ())).1 = A) (hB : (l.getD i (0, 0, ())).2.1 = B) : relP (l.take (i + 1)) = fun x y => if x = A ∧ y = B then true else relP (l.take i) x y := by
  funext x y
  rw [take_getD hi (0, 0, ())]
  rw [relP, List.any_append, ← relP]
  simp only [List.any_cons, List.any_nil, Bool.or_false, hA, hB]
  by_cases h : x = A ∧ y = B
  · rw [if_pos h, h.1, h.2]; simp
  · rw [if_neg h]
    have : (decide ((A : Int) = x) && decide ((B : Int) = y)) = false := by
      cases e : (decide ((A : Int) = x) && decide ((B : Int) = y)) with
      | false => rfl
      | true =>
        simp only [Bool.and_eq_true, decide_eq_true_eq] at e
        exact absurd ⟨by omega, by omega⟩ h
    rw [this, Bool.or_false]
theorem cclosed_valid : cclosed.Valid Try.prog 135 := by
  refine Ctr.valid_of Eclosed_ok rfl rfl Try.func135 (c := bodyOf Try.prog 135) rfl rfl Fclosed_ok rfl ?_
  rintro ⟨⟨(n0 : Int), (l : List PairD), ⟨⟩⟩, ⟨⟩⟩ ⟨⟨h0, h1⟩, hr⟩ ⟨⟨-, ⟨hl, -⟩, -⟩, -⟩
  have h0 : 0 ≤ n0 := h0
  have h1 : n0 ≤ 20 := h1
  have hl : l.length ≤ 9223372036854775807 := hl
  obtain ⟨n, rfl⟩ := Int.eq_ofNat_of_zero_le h0
  have hr : ∀ q ∈ l, (0 ≤ q.1 ∧ q.1 < (n : Int)) ∧ (0 ≤ q.2.1 ∧ q.2.1 < (n : Int)) := hr
  have hf := rel_out hr
  refine exec_sound (n := 1000) Eclosed_ok Fclosed_ok ?_
  refine holds_of_eq (Eclosed_t (n : Int) l) ?_
  refine Reach.loopI Eclosed_ok Fclosed_ok (fun i : Nat => Eclosed_s3 l (l.length : Int) (i : Int) (n : Int) l F400 (mkO (relP (l.take i)))) (fun i => i ≤ l.length)
    (fun i => l.length - i) 1000 (fun _ => ⟨uniq_of rfl, uniq_of rfl⟩) ?_ 0 (Nat.zero_le _)
  rintro i k1 - ih
  have k1 : i ≤ l.length := k1
  refine holds_of_eq (Eclosed_l3 ..) ?_
  simp only [holds_cond, Tree.holds, true_and, true_implies, decide_eq_true_eq, decide_eq_false_iff_not, Bool.not_eq_true', Bool.not_eq_false', Int.toNat_natCast, inK_i64, List.length_set, List.length_cons, List.length_nil]
  refine ⟨fun c => ?_, fun c => ?_⟩
  · have hi : i < l.length := by omega
    obtain ⟨⟨a1, a2⟩, b1, b2⟩ := hr _ (getD_mem (d := (0, 0, ())) hi)
    obtain ⟨A, hA⟩ := Int.eq_ofNat_of_zero_le a1
    obtain ⟨B, hB⟩ := Int.eq_ofNat_of_zero_le b1
    have := ih (i + 1) (by show i + 1 ≤ l.length; omega) (by omega)
    rw [relP_snoc hi hA hB] at this
    simp only [hA, hB, Int.toNat_natCast] at a2 b2 ⊢
    rw [← mkO_set true (by omega) (by omega)] at this
    exact ⟨by omega, fun _ => ⟨by omega, fun _ => ⟨by omega, fun _ => ⟨by omega, fun _ => this⟩⟩⟩⟩
  rw [List.take_of_length_le (by omega)]
  refine Reach.loopI Eclosed_ok Fclosed_ok (fun k : Nat => Eclosed_s8 (n : Int) (k : Int) (n : Int) l F400 (mkO (wk (relP l) k))) (fun k => k ≤ n)
    (fun k => n - k) 1000 (fun _ => ⟨uniq_of rfl, uniq_of rfl⟩) ?_ 0 (Nat.zero_le _)
  rintro k k2 - ih2
  have k2 : k ≤ n := k2
  refine holds_of_eq (Eclosed_l8 ..) ?_
  simp only [holds_cond, Tree.holds, true_and, true_implies, decide_eq_true_eq, decide_eq_false_iff_not, Bool.not_eq_true', Bool.not_eq_false', Int.toNat_natCast, inK_i64, List.length_set, List.length_cons, List.length_nil]
  refine ⟨fun c2 => ?_, fun c2 => ?_⟩
  rotate_left
  · obtain rfl : k = n := by omega
    rfl
  have hk : k < n := by omega
  suffices go : Go.Ex.Reach Eclosed Try.f135 (mkO (wk (relP l) (Int.toNat (n : Int))), ()) () (.code (loopAt (bodyOf Try.prog 135) 11).1 :: .inLoop (loopAt (bodyOf Try.prog 135) 11).1 :: (loopAt (bodyOf Try.prog 135) 11).2) (Eclosed_s11 (k : Int) (n : Int) (k : Int) (n : Int) ((0 : Nat) : Int) (n : Int) l F400 (mkO (wkm (relP l) k 0 0))) by
    rw [wkm_start] at go
    exact go
  refine Reach.loopI Eclosed_ok Fclosed_ok (fun a : Nat => Eclosed_s11 (k : Int) (n : Int) (k : Int) (n : Int) (a : Int) (n : Int) l F400 (mkO (wkm (relP l) k a 0))) (fun a => a ≤ n)
    (fun a => n - a) 1000 (fun _ => ⟨uniq_of rfl, uniq_of rfl⟩) ?_ 0 (Nat.zero_le _)
  rintro a k3 - ih3
  have k3 : a ≤ n := k3
  refine holds_of_eq (Eclosed_l11 ..) ?_
  simp only [holds_cond, Tree.holds, true_and, true_implies, decide_eq_true_eq, decide_eq_false_iff_not, Bool.not_eq_true', Bool.not_eq_false', Int.toNat_natCast, inK_i64, List.length_set, List.length_cons, List.length_nil]
  refine ⟨fun c3 => ?_, fun c3 => ⟨by omega, fun _ => ?_⟩⟩
  rotate_left
  · obtain rfl : a = n := by omega
    rw [wkm_end hf]
    exact ih2 (k + 1) (by show k + 1 ≤ a; omega) (by omega)
  have ha : a < n := by omega
  refine Reach.loopI Eclosed_ok Fclosed_ok (fun b : Nat => Eclosed_s14 (k : Int) (a : Int) (n : Int) (k : Int) (n : Int) (a : Int) (n : Int) (b : Int) (n : Int) l F400 (mkO (wkm (relP l) k a b))) (fun b => b ≤ n)
    (fun b => n - b) 1000 (fun _ => ⟨uniq_of rfl, uniq_of rfl⟩) ?_ 0 (Nat.zero_le _)
  rintro b k4 - ih4
  have k4 : b ≤ n := k4
  refine holds_of_eq (Eclosed_l14 ..) ?_
  have gd : ∀ x y : Nat, x < 20 → y < 20 → ((mkO (wkm (relP l) k a b)).getD x F20).getD y false = wkm (relP l) k a b x y := fun x y hx hy => gB_mkO hx hy
  simp only [holds_cond, Tree.holds, true_and, true_implies, decide_eq_true_eq, decide_eq_false_iff_not, Bool.not_eq_true', Bool.not_eq_false', Int.toNat_natCast, inK_i64, List.length_set, List.length_cons, List.length_nil]
  refine ⟨fun c4 => ?_, fun c4 => ⟨by omega, fun _ => ?_⟩⟩
  · have hb : b < n := by omega
    rw [gd a b (by omega) (by omega), gd a k (by omega) (by omega), gd k b (by omega) (by omega), wkm_right, wkm_left, wkm_here]
    have nx := ih4 (b + 1) (by show b + 1 ≤ n; omega) (by omega)
    rw [← wkm_step] at nx
    have nx : ∀ v, wk (relP l) (k + 1) a b = v → Go.Ex.Reach Eclosed Try.f135 (mkO (wk (relP l) (Int.toNat (n : Int))), ()) () (.code (loopAt (bodyOf Try.prog 135) 14).1 :: .inLoop (loopAt (bodyOf Try.prog 135) 14).1 :: (loopAt (bodyOf Try.prog 135) 14).2) (Eclosed_s14 (k : Int) (a : Int) (n : Int) (k : Int) (n : Int) (a : Int) (n : Int) ((b + 1 : Nat) : Int) (n : Int) l F400 ((mkO (wkm (relP l) k a b)).set a (((mkO (wkm (relP l) k a b)).getD a F20).set b v))) := fun v hv => by
      rw [mkO_set v (by omega) (by omega), ← hv]; exact nx
    refine ⟨by omega, fun _ => ⟨by omega, fun _ => ⟨fun d1 => ⟨by omega, fun _ => ⟨by omega, fun _ => ⟨by omega, fun _ => nx true (by rw [wk, d1, Bool.true_or])⟩⟩⟩, fun d1 => ⟨by omega, fun _ => ⟨by omega, fun _ => ⟨fun d2 => ⟨by omega, fun _ => ⟨by omega, fun _ => ⟨by omega, fun _ => ⟨by omega, fun _ => ⟨by omega, fun _ => nx (wk (relP l) k k b) (by rw [wk, d1, d2, Bool.false_or, Bool.true_and])⟩⟩⟩⟩⟩, fun d2 => ⟨by omega, fun _ => ⟨by omega, fun _ => ⟨by omega, fun _ => nx false (by rw [wk, d1, d2]; rfl)⟩⟩⟩⟩⟩⟩⟩⟩⟩
  · obtain rfl : b = n := by omega
    rw [wkm_row hf]
    exact ih3 (a + 1) (by show a + 1 ≤ b; omega) (by omega)
def pcheckR (n : Int) (l : List PairD) : List (List Bool) × Int × Unit := if pcheck n l ≠ 0 then (F400, pcheck n l, ()) else (mkO (wk (relP l) n.toNat), 0, ())
def cpcheckR : Ctr := { ps := [.v Pos], rs := [Ord, I64], pre := fun _ => True, fn := fun x => pcheckR x.1.1 x.1.2.1, out := fun _ => () }
noncomputable def EpcheckR : Env := { P := Try.prog, tt := tt, ctr := [(134, cmcheck), (135, cclosed)], res := [Go.ResultVar.cell 2 198, Go.ResultVar.tmp 3], rs := [Ty.arr 20 (Ty.arr 20 Ty.bool), Ty.int IntKind.i64], ps := [PK.v (Ty.pair (Ty.int IntKind.i64) (Ty.pair (Ty.slc false PairT) Ty.unit))], cuts := [(8, [(2, none), (5, none), (30, none), (31, none)])], nt := 42 }
theorem EpcheckR_ok : EnvOk EpcheckR := envOk tt_ok ⟨cmcheck_valid, cclosed_valid, trivial⟩
theorem FpcheckR_ok : FnOk EpcheckR Try.f119 := ⟨rfl, rfl⟩
theorem EpcheckR_t (x0_1 : Int) (x0_2_1 : List (Int × Int × Unit)) : exec EpcheckR 1000 [.code (bodyOf Try.prog 119)] (initSt cpcheckR.ps (((x0_1, x0_2_1, ()), ()))) =
  cond (decide (x0_1 < (0 : Int))) (.ret ((F400, (1 : Int), ()))) (cond (decide ((20 : Int) < x0_1)) (.ret ((F400, (1 : Int), ()))) (.need (True) (cond (decide (mcheck x0_1 x0_1 x0_2_1 ≠ (0 : Int))) (.ret ((F400, mcheck x0_1 x0_1 x0_2_1, ()))) (.need (((0 : Int) ≤ x0_1 ∧ x0_1 ≤ (20 : Int)) ∧ ∀ (q : PairD), q ∈ x0_2_1 → ((0 : Int) ≤ Prod.fst q ∧ Prod.fst q < x0_1) ∧ (0 : Int) ≤ Prod.fst (Prod.snd q) ∧ Prod.fst (Prod.snd q) < x0_1) (.cut (loopAt (bodyOf Try.prog 119) 8).1 (loopAt (bodyOf Try.prog 119) 8).2 (St.mk [(2, AV.ptr 2 []), (5, AV.ptr 5 []), (30, AV.val (Ty.int IntKind.i64) x0_1), (31, AV.val (Ty.int IntKind.i64) (0 : Int))] [(2, Ent.var (Ty.arr 20 (Ty.arr 20 Ty.bool)) F400), (5, Ent.var (Ty.arr 20 (Ty.arr 20 Ty.bool)) (mkO (wk (relP x0_2_1) (Int.toNat x0_1))))])))))) := by kernel_rfl
def EpcheckR_s8 (v30 : Int) (v31 : Int) (o2 : List (List Bool)) (o5 : List (List Bool)) : St := St.mk [(2, AV.ptr 2 []), (5, AV.ptr 5 []), (30, AV.val (Ty.int IntKind.i64) v30), (31, AV.val (Ty.int IntKind.i64) v31)] [(2, Ent.var (Ty.arr 20 (Ty.arr 20 Ty.bool)) o2), (5, Ent.var (Ty.arr 20 (Ty.arr 20 Ty.bool)) o5)]
theorem EpcheckR_l8 (v30 : Int) (v31 : Int) (o2 : List (List Bool)) (o5 : List (List Bool)) : exec EpcheckR 1000 (.code (loopAt (bodyOf Try.prog 119) 8).1 :: .inLoop (loopAt (bodyOf Try.prog 119) 8).1 :: (loopAt (bodyOf Try.prog 119) 8).2) (EpcheckR_s8 v30 v31 o2 o5) =
  cond (decide (v31 < v30)) (.need ((0 : Int) ≤ v31 ∧ v31 < (↑20 : Int)) (.need ((0 : Int) ≤ v31 ∧ v31 < (↑20 : Int)) (cond (List.getD (List.getD o5 (Int.toNat v31) F20) (Int.toNat v31) false) (.ret ((F400, (9 : Int), ()))) (.need (inK IntKind.i64 (v31 + (1 : Int))) (.cut (loopAt (bodyOf Try.prog 119) 8).1 (loopAt (bodyOf Try.prog 119) 8).2 (St.mk [(2, AV.ptr 2 []), (5, AV.ptr 5 []), (30, AV.val (Ty.int IntKind.i64) v30), (31, AV.val (Ty.int IntKind.i64) (v31 + (1 : Int)))] [(2, Ent.var (Ty.arr 20 (Ty.arr 20 Ty.bool)) o2), (5, Ent.var (Ty.arr 20 (Ty.arr 20 Ty.bool)) o5)])))))) (.ret ((o5, (0 : Int), ()))) := by kernel_rfl
theorem cpcheckR_valid : cpcheckR.Valid Try.prog 119 := by
  refine Ctr.valid_of EpcheckR_ok rfl rfl Try.func119 (c := bodyOf Try.prog 119) rfl rfl FpcheckR_ok rfl ?_
  rintro ⟨⟨(n0 : Int), (l : List PairD), ⟨⟩⟩, ⟨⟩⟩ - -
  refine exec_sound (n := 1000) EpcheckR_ok FpcheckR_ok ?_
  refine holds_of_eq (EpcheckR_t n0 l) ?_
  have bad : ∀ e : Int, pcheck n0 l = e → e ≠ 0 → ((F400, e, ()) : List (List Bool) × Int × Unit) = pcheckR n0 l := fun e h1 h2 => by rw [pcheckR, h1, if_pos h2]
  simp only [holds_cond, Tree.holds, true_and, true_implies, decide_eq_true_eq, decide_eq_false_iff_not, Bool.not_eq_true', Bool.not_eq_false', Int.toNat_natCast, inK_i64, List.length_set, List.length_cons, List.length_nil]
  refine ⟨fun h => bad 1 (by rw [pcheck, if_pos (.inl h)]) (by decide), fun h1 => ⟨fun h => bad 1 (by rw [pcheck, if_pos (.inr h)]) (by decide), fun h2 => ⟨fun h => bad _ (by rw [pcheck, if_neg (by omega), if_pos h]) h, fun h3 => ?_⟩⟩⟩
  obtain ⟨n, rfl⟩ := Int.eq_ofNat_of_zero_le (show 0 ≤ n0 by omega)
  obtain ⟨_, _, _, k4⟩ := mcheck_rng (Decidable.not_not.1 h3)
  refine ⟨⟨⟨by omega, by omega⟩, k4⟩, fun _ => ?_⟩
  have hp : pcheck (n : Int) l = if loopB n l = true then 9 else 0 := by rw [pcheck, if_neg (by omega), if_neg h3]; rfl
  refine Reach.loopI EpcheckR_ok FpcheckR_ok (fun k : Nat => EpcheckR_s8 (n : Int) (k : Int) F400 (mkO (wk (relP l) n))) (fun k => k ≤ n ∧ ∀ x, x < k → wk (relP l) n x x = false)
    (fun k => n - k) 1000 (fun _ => ⟨uniq_of rfl, uniq_of rfl⟩) ?_ 0 ⟨Nat.zero_le _, fun x hx => by omega⟩
  rintro k ⟨k2, k3⟩ - ih
  refine holds_of_eq (EpcheckR_l8 ..) ?_
  simp only [holds_cond, Tree.holds, true_and, true_implies, decide_eq_true_eq, decide_eq_false_iff_not, Bool.not_eq_true', Bool.not_eq_false', Int.toNat_natCast, inK_i64, List.length_set, List.length_cons, List.length_nil]
  refine ⟨fun c => ⟨by omega, fun _ => ⟨by omega, fun _ => ?_⟩⟩, fun c => ?_⟩
  · have g : ((mkO (wk (relP l) n)).getD k F20).getD k false = wk (relP l) n k k := gB_mkO (by omega) (by omega)
    rw [g]
    refine ⟨fun d => bad 9 ?_ (by decide), fun d => ⟨by omega, fun _ => ih (k + 1) ⟨by omega, fun x hx => ?_⟩ (by omega)⟩⟩
    · rw [hp, if_pos (show loopB n l = true from List.any_eq_true.2 ⟨k, List.mem_range.2 (by omega), d⟩)]
    · rcases Nat.lt_or_ge x k with h | h
      · exact k3 x h
      · obtain rfl : x = k := by omega
        exact d
  · have e0 : loopB n l = false := List.any_eq_false.2 (fun x hx => by rw [k3 x (by have := List.mem_range.1 hx; omega)]; decide)
    have hp0 : pcheck (n : Int) l = 0 := by rw [hp, e0]; rfl
    show ((mkO (wk (relP l) n), (0 : Int), ()) : List (List Bool) × Int × Unit) = pcheckR (n : Int) l
    rw [pcheckR, hp0]
    rfl
def call1 : Ctr := { ps := [.v I64, .v I64], rs := [.bool], pre := fun _ => True, fn := fun _ => (true, ()), out := fun _ => () }
noncomputable def Eall1 : Env := { P := Try.prog, tt := tt, ctr := [], res := [Go.ResultVar.tmp 4], rs := [Ty.bool], ps := [PK.v (Ty.int IntKind.i64), PK.v (Ty.int IntKind.i64)], cuts := [], nt := 5 }
theorem Eall1_ok : EnvOk Eall1 := envOk tt_ok trivial
theorem Fall1_ok : FnOk Eall1 Try.f137 := ⟨rfl, rfl⟩
theorem Eall1_t (x0 : Int) (x1 : Int) : exec Eall1 1000 [.code (bodyOf Try.prog 137)] (initSt call1.ps ((x0, x1, ()))) =
  .ret ((true, ())) := by kernel_rfl
theorem call1_valid : call1.Valid Try.prog 137 := by
  refine Ctr.valid_of Eall1_ok rfl rfl Try.func137 (c := bodyOf Try.prog 137) rfl rfl Fall1_ok rfl ?_
  rintro ⟨(a : Int), (b : Int), ⟨⟩⟩ - -
  refine exec_sound (n := 1000) Eall1_ok Fall1_ok ?_
  refine holds_of_eq (Eall1_t a b) ?_
  exact rfl
/-- those ahead of (a, b) that satisfy something -/
def pairsM (n : Nat) (g : Nat → Nat → Bool) (a b : Nat) : List PairD := (List.range a).flatMap (fun a : Nat => ((List.range n).filter (g a)).map (fun b : Nat => ((a : Int), (b : Int), ()))) ++ ((List.range b).filter (g a)).map (fun b : Nat => ((a : Int), (b : Int), ()))
theorem pairsM_step {n : Nat} {g : Nat → Nat → Bool} {a b : Nat} : pairsM n g a (b + 1) = if g a b = true then pairsM n g a b ++ [((a : Int), (b : Int), ())] else pairsM n g a b := by
  rw [pairsM, List.range_succ, List.filter_append, List.map_append, ← List.append_assoc, ← pairsM]
  by_cases h : g a b = true
  · rw [if_pos h, List.filter_cons, if_pos h]; rfl
  · rw [if_neg h, List.filter_cons, if_neg h]; simp
theorem pairsM_row {n : Nat} {g : Nat → Nat → Bool} {a : Nat} : pairsM n g a n = pairsM n g (a + 1) 0 := by
  rw [pairsM, pairsM, List.range_succ, List.flatMap_append]
  simp
theorem pairsM_end {n : Nat} {g : Nat → Nat → Bool} : pairsM n g n 0 = pairsF n g := by rw [pairsM, pairsF]; simp
theorem pairsM_len {n : Nat} {g : Nat → Nat → Bool} {a b : Nat} (ha : a ≤ 20) (hb : b ≤ 20) (hn : n ≤ 20) : (pairsM n g a b).length ≤ 420 := by
  rw [pairsM, List.length_append, List.length_map]
  have h1 : ((List.range b).filter (g a)).length ≤ b := Nat.le_trans (List.length_filter_le _ _) (by simp)
  have h2 : ∀ (l : List Nat) (f : Nat → List PairD), (∀ a, (f a).length ≤ n) → (l.flatMap f).length ≤ l.length * n := by
    intro l f hf
    induction l with
    | nil => simp
    | cons a l ih => rw [List.flatMap_cons, List.length_append, List.length_cons, Nat.succ_mul]; have := hf a; omega
  have h3 := h2 (List.range a) (fun a : Nat => ((List.range n).filter (g a)).map (fun b : Nat => ((a : Int), (b : Int), ()))) (fun a => by
    rw [List.length_map]; exact Nat.le_trans (List.length_filter_le _ _) (by simp))
  rw [List.length_range] at h3
  have : a * n ≤ 20 * 20 := Nat.mul_le_mul ha hn
  omega
theorem wb_pair : Ty.wb (Ty.pair (Ty.int IntKind.i64) (Ty.pair (Ty.int IntKind.i64) Ty.unit)) = 16 := rfl
def cpairsA : Ctr := { ps := [.v Ord, .v I64, .clo 137 []], rs := [.slc true PairT], pre := fun x => LE.le (α := Int) 0 x.2.1 ∧ LE.le (α := Int) x.2.1 20, fn := fun x => (pairsF (Int.toNat x.2.1) (gB x.1), ()), out := fun _ => () }
noncomputable def EpairsA : Env := { P := Try.prog, tt := tt, ctr := [(137, call1)], res := [Go.ResultVar.tmp 6], rs := [Ty.slc true PairT], ps := [PK.v (Ty.arr 20 (Ty.arr 20 Ty.bool)), PK.v (Ty.int IntKind.i64), PK.clo 137 []], cuts := [(3, [(1, none), (2, none), (3, none), (7, some (Ty.slc true PairT)), (10, none), (11, none)]), (6, [(1, none), (2, none), (3, none), (7, some (Ty.slc true PairT)), (8, none), (10, none), (11, none), (14, none), (15, none)])], nt := 38 }
theorem EpairsA_ok : EnvOk EpairsA := envOk tt_ok ⟨call1_valid, trivial⟩
theorem FpairsA_ok : FnOk EpairsA Try.f136 := ⟨rfl, rfl⟩
theorem EpairsA_t (x0 : List (List Bool)) (x1 : Int) : exec EpairsA 1000 [.code (bodyOf Try.prog 136)] (initSt cpairsA.ps ((x0, x1, (), ()))) =
  .cut (loopAt (bodyOf Try.prog 136) 3).1 (loopAt (bodyOf Try.prog 136) 3).2 (St.mk [(1, AV.val (Ty.int IntKind.i64) x1), (2, AV.clo 137 AV.nil), (3, AV.ptr 3 []), (7, AV.at_ 1000007 []), (10, AV.val (Ty.int IntKind.i64) x1), (11, AV.val (Ty.int IntKind.i64) (0 : Int))] [(3, Ent.var (Ty.arr 20 (Ty.arr 20 Ty.bool)) x0), (1000007, Ent.own (Ty.slc true PairT) [])]) := by kernel_rfl
def EpairsA_s3 (v1 : Int) (v10 : Int) (v11 : Int) (o3 : List (List Bool)) (o1000007 : List (Int × Int × Unit)) : St := St.mk [(1, AV.val (Ty.int IntKind.i64) v1), (2, AV.clo 137 AV.nil), (3, AV.ptr 3 []), (7, AV.at_ 1000007 []), (10, AV.val (Ty.int IntKind.i64) v10), (11, AV.val (Ty.int IntKind.i64) v11)] [(3, Ent.var (Ty.arr 20 (Ty.arr 20 Ty.bool)) o3), (1000007, Ent.own (Ty.slc true PairT) o1000007)]
theorem EpairsA_l3 (v1 : Int) (v10 : Int) (v11 : Int) (o3 : List (List Bool)) (o1000007 : List (Int × Int × Unit)) : exec EpairsA 1000 (.code (loopAt (bodyOf Try.prog 136) 3).1 :: .inLoop (loopAt (bodyOf Try.prog 136) 3).1 :: (loopAt (bodyOf Try.prog 136) 3).2) (EpairsA_s3 v1 v10 v11 o3 o1000007) =
  cond (decide (v11 < v10)) (.cut (loopAt (bodyOf Try.prog 136) 6).1 (loopAt (bodyOf Try.prog 136) 6).2 (St.mk [(1, AV.val (Ty.int IntKind.i64) v1), (2, AV.clo 137 AV.nil), (3, AV.ptr 3 []), (7, AV.at_ 1000007 []), (8, AV.val (Ty.int IntKind.i64) v11), (10, AV.val (Ty.int IntKind.i64) v10), (11, AV.val (Ty.int IntKind.i64) v11), (14, AV.val (Ty.int IntKind.i64) v1), (15, AV.val (Ty.int IntKind.i64) (0 : Int))] [(3, Ent.var (Ty.arr 20 (Ty.arr 20 Ty.bool)) o3), (1000007, Ent.own (Ty.slc true PairT) o1000007)])) (.ret ((o1000007, ()))) := by kernel_rfl
def EpairsA_s6 (v1 : Int) (v8 : Int) (v10 : Int) (v11 : Int) (v14 : Int) (v15 : Int) (o3 : List (List Bool)) (o1000007 : List (Int × Int × Unit)) : St := St.mk [(1, AV.val (Ty.int IntKind.i64) v1), (2, AV.clo 137 AV.nil), (3, AV.ptr 3 []), (7, AV.at_ 1000007 []), (8, AV.val (Ty.int IntKind.i64) v8), (10, AV.val (Ty.int IntKind.i64) v10), (11, AV.val (Ty.int IntKind.i64) v11), (14, AV.val (Ty.int IntKind.i64) v14), (15, AV.val (Ty.int IntKind.i64) v15)] [(3, Ent.var (Ty.arr 20 (Ty.arr 20 Ty.bool)) o3), (1000007, Ent.own (Ty.slc true PairT) o1000007)]
theorem EpairsA_l6 (v1 : Int) (v8 : Int) (v10 : Int) (v11 : Int) (v14 : Int) (v15 : Int) (o3 : List (List Bool)) (o1000007 : List (Int × Int × Unit)) : exec EpairsA 1000 (.code (loopAt (bodyOf Try.prog 136) 6).1 :: .inLoop (loopAt (bodyOf Try.prog 136) 6).1 :: (loopAt (bodyOf Try.prog 136) 6).2) (EpairsA_s6 v1 v8 v10 v11 v14 v15 o3 o1000007) =
  cond (decide (v15 < v14)) (.need ((0 : Int) ≤ v8 ∧ v8 < (↑20 : Int)) (.need ((0 : Int) ≤ v15 ∧ v15 < (↑20 : Int)) (cond (List.getD (List.getD o3 (Int.toNat v8) F20) (Int.toNat v15) false) (.need (True) (.need (List.length o1000007 + List.length (List.set [((0 : Int), (0 : Int), ())] (Int.toNat (↑0 : Int)) (v8, v15, ())) ≤ 140737488355328 ∧ (List.length o1000007 + List.length (List.set [((0 : Int), (0 : Int), ())] (Int.toNat (↑0 : Int)) (v8, v15, ()))) * Ty.wb PairT ≤ 140737488355328) (.need (inK IntKind.i64 (v15 + (1 : Int))) (.cut (loopAt (bodyOf Try.prog 136) 6).1 (loopAt (bodyOf Try.prog 136) 6).2 (St.mk [(1, AV.val (Ty.int IntKind.i64) v1), (2, AV.clo 137 AV.nil), (3, AV.ptr 3 []), (7, AV.at_ 1000007 []), (8, AV.val (Ty.int IntKind.i64) v8), (10, AV.val (Ty.int IntKind.i64) v10), (11, AV.val (Ty.int IntKind.i64) v11), (14, AV.val (Ty.int IntKind.i64) v14), (15, AV.val (Ty.int IntKind.i64) (v15 + (1 : Int)))] [(3, Ent.var (Ty.arr 20 (Ty.arr 20 Ty.bool)) o3), (1000007, Ent.own (Ty.slc true PairT) (o1000007 ++ List.set [((0 : Int), (0 : Int), ())] (Int.toNat (↑0 : Int)) (v8, v15, ())))]))))) (.need (inK IntKind.i64 (v15 + (1 : Int))) (.cut (loopAt (bodyOf Try.prog 136) 6).1 (loopAt (bodyOf Try.prog 136) 6).2 (St.mk [(1, AV.val (Ty.int IntKind.i64) v1), (2, AV.clo 137 AV.nil), (3, AV.ptr 3 []), (7, AV.at_ 1000007 []), (8, AV.val (Ty.int IntKind.i64) v8), (10, AV.val (Ty.int IntKind.i64) v10), (11, AV.val (Ty.int IntKind.i64) v11), (14, AV.val (Ty.int IntKind.i64) v14), (15, AV.val (Ty.int IntKind.i64) (v15 + (1 : Int)))] [(3, Ent.var (Ty.arr 20 (Ty.arr 20 Ty.bool)) o3), (1000007, Ent.own (Ty.slc true PairT) o1000007)])))))) (.need (inK IntKind.i64 (v11 + (1 : Int))) (.cut (loopAt (bodyOf Try.prog 136) 3).1 (loopAt (bodyOf Try.prog 136) 3).2 (St.mk [(1, AV.val (Ty.int IntKind.i64) v1), (2, AV.clo 137 AV.nil), (3, AV.ptr 3 []), (7, AV.at_ 1000007 []), (10, AV.val (Ty.int IntKind.i64) v10), (11, AV.val (Ty.int IntKind.i64) (v11 + (1 : Int)))] [(3, Ent.var (Ty.arr 20 (Ty.arr 20 Ty.bool)) o3), (1000007, Ent.own (Ty.slc true PairT) o1000007)]))) := by kernel_rfl
theorem cpairsA_valid : cpairsA.Valid Try.prog 136 := by
  refine Ctr.valid_of EpairsA_ok rfl rfl Try.func136 (c := bodyOf Try.prog 136) rfl rfl FpairsA_ok rfl ?_
  rintro ⟨(o : List (List Bool)), (n0 : Int), ⟨⟩, ⟨⟩⟩ ⟨h0, h1⟩ -
  have h0 : 0 ≤ n0 := h0
  have h1 : n0 ≤ 20 := h1
  obtain ⟨n, rfl⟩ := Int.eq_ofNat_of_zero_le h0
  refine exec_sound (n := 1000) EpairsA_ok FpairsA_ok ?_
  refine holds_of_eq (EpairsA_t o (n : Int)) ?_
  refine Reach.loopI EpairsA_ok FpairsA_ok (fun a : Nat => EpairsA_s3 (n : Int) (n : Int) (a : Int) o (pairsM n (gB o) a 0)) (fun a => a ≤ n)
    (fun a => n - a) 1000 (fun _ => ⟨uniq_of rfl, uniq_of rfl⟩) ?_ 0 (Nat.zero_le _)
  rintro a k1 - ih
  have k1 : a ≤ n := k1
  refine holds_of_eq (EpairsA_l3 ..) ?_
  simp only [holds_cond, Tree.holds, true_and, true_implies, decide_eq_true_eq, decide_eq_false_iff_not, Bool.not_eq_true', Bool.not_eq_false', Int.toNat_natCast, inK_i64, List.length_set, List.length_cons, List.length_nil]
  refine ⟨fun c => ?_, fun c => ?_⟩
  rotate_left
  · obtain rfl : a = n := by omega
    rw [pairsM_end]; rfl
  refine Reach.loopI EpairsA_ok FpairsA_ok (fun b : Nat => EpairsA_s6 (n : Int) (a : Int) (n : Int) (a : Int) (n : Int) (b : Int) o (pairsM n (gB o) a b)) (fun b => b ≤ n)
    (fun b => n - b) 1000 (fun _ => ⟨uniq_of rfl, uniq_of rfl⟩) ?_ 0 (Nat.zero_le _)
  rintro b k2 - ih2
  have k2 : b ≤ n := k2
  refine holds_of_eq (EpairsA_l6 ..) ?_
  have hl := pairsM_len (n := n) (g := gB o) (a := a) (b := b) (by omega) (by omega) (by omega)
  simp only [holds_cond, Tree.holds, true_and, true_implies, decide_eq_true_eq, decide_eq_false_iff_not, Bool.not_eq_true', Bool.not_eq_false', Int.toNat_natCast, inK_i64, List.length_set, List.length_cons, List.length_nil, wb_pair]
  refine ⟨fun c2 => ⟨by omega, fun _ => ⟨by omega, fun _ => ?_⟩⟩, fun c2 => ⟨by omega, fun _ => ?_⟩⟩
  · have nx := ih2 (b + 1) (by show b + 1 ≤ n; omega) (by omega)
    rw [pairsM_step] at nx
    refine ⟨fun d => ⟨by omega, fun _ => ⟨by omega, fun _ => ?_⟩⟩, fun d => ⟨by omega, fun _ => ?_⟩⟩
    · rw [if_pos (show gB o a b = true from d)] at nx; exact nx
    · rw [if_neg (fun h : gB o a b = true => Bool.noConfusion (Eq.trans (Eq.symm h) d))] at nx; exact nx
  · obtain rfl : b = n := by omega
    rw [pairsM_row]
    exact ih (a + 1) (by show a + 1 ≤ b; omega) (by omega)
def callP : Ctr := { ps := [.v Ord, .v I64], rs := [.slc true PairT], pre := fun x => LE.le (α := Int) 0 x.2.1 ∧ LE.le (α := Int) x.2.1 20, fn := fun x => (pairsF (Int.toNat x.2.1) (gB x.1), ()), out := fun _ => () }
noncomputable def EallP : Env := { P := Try.prog, tt := tt, ctr := [(136, cpairsA)], res := [Go.ResultVar.tmp 4], rs := [Ty.slc true PairT], ps := [PK.v (Ty.arr 20 (Ty.arr 20 Ty.bool)), PK.v (Ty.int IntKind.i64)], cuts := [], nt := 8 }
theorem EallP_ok : EnvOk EallP := envOk tt_ok ⟨cpairsA_valid, trivial⟩
theorem FallP_ok : FnOk EallP Try.f120 := ⟨rfl, rfl⟩
theorem EallP_t (x0 : List (List Bool)) (x1 : Int) : exec EallP 1000 [.code (bodyOf Try.prog 120)] (initSt callP.ps ((x0, x1, ()))) =
  .need ((0 : Int) ≤ x1 ∧ x1 ≤ (20 : Int)) (.ret ((pairsF (Int.toNat x1) (gB x0), ()))) := by kernel_rfl
theorem callP_valid : callP.Valid Try.prog 120 := by
  refine Ctr.valid_of EallP_ok rfl rfl Try.func120 (c := bodyOf Try.prog 120) rfl rfl FallP_ok rfl ?_
  rintro ⟨(o : List (List Bool)), (n0 : Int), ⟨⟩⟩ ⟨h0, h1⟩ -
  refine exec_sound (n := 1000) EallP_ok FallP_ok ?_
  refine holds_of_eq (EallP_t o n0) ?_
  exact ⟨⟨h0, h1⟩, fun _ => rfl⟩
theorem pcheckR_ok {n : Nat} {l : List PairD} (h : PosOk n l) : pcheckR n l = (mkO (wk (relP l) n), 0, ()) := by rw [pcheckR, if_neg (fun c => c (pcheck_of h)), Int.toNat_natCast]
theorem pcheckR_no {n : Int} {l : List PairD} (h : pcheck n l ≠ 0) : pcheckR n l = (F400, pcheck n l, ()) := by rw [pcheckR, if_pos h]
def closeR (n : Int) (l : List PairD) : List PairD × Int × Unit := if pcheck n l ≠ 0 then ([], pcheck n l, ()) else (pairsF n.toNat (wk (relP l) n.toNat), 0, ())
theorem closeR_ok {n : Nat} {l : List PairD} (h : PosOk n l) : closeR n l = (pairsF n (wk (relP l) n), 0, ()) := by rw [closeR, if_neg (fun c => c (pcheck_of h)), Int.toNat_natCast]
def ccloseR : Ctr := { ps := [.v Pos], rs := [.slc true PairT, I64], pre := fun _ => True, fn := fun x => closeR x.1.1 x.1.2.1, out := fun _ => () }
noncomputable def EcloseR : Env := { P := Try.prog, tt := tt, ctr := [(119, cpcheckR), (120, callP)], res := [Go.ResultVar.tmp 2, Go.ResultVar.tmp 3], rs := [Ty.slc true PairT, Ty.int IntKind.i64], ps := [PK.v (Ty.pair (Ty.int IntKind.i64) (Ty.pair (Ty.slc false PairT) Ty.unit))], cuts := [], nt := 18 }
theorem EcloseR_ok : EnvOk EcloseR := envOk tt_ok ⟨cpcheckR_valid, callP_valid, trivial⟩
theorem FcloseR_ok : FnOk EcloseR Try.f70 := ⟨rfl, rfl⟩
theorem EcloseR_t (x0_1 : Int) (x0_2_1 : List (Int × Int × Unit)) : exec EcloseR 1000 [.code (bodyOf Try.prog 70)] (initSt ccloseR.ps (((x0_1, x0_2_1, ()), ()))) =
  .need (True) (cond (decide (Prod.fst (Prod.snd (pcheckR x0_1 x0_2_1)) ≠ (0 : Int))) (.ret (([], Prod.fst (Prod.snd (pcheckR x0_1 x0_2_1)), ()))) (.need ((0 : Int) ≤ x0_1 ∧ x0_1 ≤ (20 : Int)) (.ret ((pairsF (Int.toNat x0_1) (gB (Prod.fst (pcheckR x0_1 x0_2_1))), (0 : Int), ()))))) := by kernel_rfl
theorem ccloseR_valid : ccloseR.Valid Try.prog 70 := by
  refine Ctr.valid_of EcloseR_ok rfl rfl Try.func70 (c := bodyOf Try.prog 70) rfl rfl FcloseR_ok rfl ?_
  rintro ⟨⟨(n0 : Int), (l : List PairD), ⟨⟩⟩, ⟨⟩⟩ - -
  refine exec_sound (n := 1000) EcloseR_ok FcloseR_ok ?_
  refine holds_of_eq (EcloseR_t n0 l) ?_
  by_cases h : pcheck n0 l = 0
  · obtain ⟨n, rfl, hp⟩ := pcheck_ok h
    have hn := hp.n20
    rw [pcheckR_ok hp]
    simp only [holds_cond, Tree.holds, true_and, true_implies, decide_eq_true_eq, decide_eq_false_iff_not, Bool.not_eq_true', Bool.not_eq_false', Int.toNat_natCast, inK_i64, List.length_set, List.length_cons, List.length_nil]
    refine ⟨fun c => absurd rfl c, fun _ => ⟨by omega, fun _ => ?_⟩⟩
    show ((pairsF n (gB (mkO (wk (relP l) n))), (0 : Int), ()) : List PairD × Int × Unit) = closeR n l
    rw [closeR_ok hp, pairsF_congr (fun a b ha hb => gB_mkO (by omega) (by omega))]
  · rw [pcheckR_no h]
    simp only [holds_cond, Tree.holds, true_and, true_implies, decide_eq_true_eq, decide_eq_false_iff_not, Bool.not_eq_true', Bool.not_eq_false', Int.toNat_natCast, inK_i64, List.length_set, List.length_cons, List.length_nil]
    refine ⟨fun _ => ?_, fun c => absurd h c⟩
    show (([], pcheck n0 l, ()) : List PairD × Int × Unit) = closeR n0 l
    rw [closeR, if_pos h]
end Go.Proofs.Ytbcdpeogfghgcaa
