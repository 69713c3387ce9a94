/- PosetHigh. No condition. -/
import Derived.Test.YtehmefjnkbjiiaaPosI
import Derived.Test.YtehmefjnkbjiiaaPosH
namespace Go.Proofs.Ytehmefjnkbjiiaa
open Go.Ex
set_option maxRecDepth 100000
def clevelsS : Ctr := { ps := [.v Pos], rs := [.slc false (.slc false I64), I64], pre := fun _ => True, fn := fun x => levelsR x.1.1 x.1.2.1, out := fun _ => (), new := true }
theorem clevelsS_valid : clevelsS.Valid Try.prog 32 := clevels_valid.share (rs' := [.slc false (.slc false I64), I64]) rfl rfl rfl
def aheadB (o : Option (List PairD)) (b : Int) (a : Int) : Bool := memO (a, b, ()) o
def cidxH : Ctr := { ps := [.v (.slc false I64), .clo 35 [AhT, I64]], rs := [I64], pre := fun x => isS x.2.1.1, fn := fun x => (idxOf (aheadB x.2.1.1 x.2.1.2.1) x.1, ()), out := fun _ => () }
noncomputable def EidxH : Env := { P := Try.prog, tt := tt, ctr := [(35, chigh1)], res := [Go.ResultVar.tmp 4], rs := [Ty.int IntKind.i64], ps := [PK.v (Ty.slc false (Ty.int IntKind.i64)), PK.clo 35 [Ty.box false (some 75) (Ty.slc false PairT), Ty.int IntKind.i64]], cuts := [(2, [(0, none), (1, none), (7, none), (8, none)])], nt := 19 }
theorem EidxH_ok : EnvOk EidxH := envOk tt_ok ⟨chigh1_valid, trivial⟩
theorem FidxH_ok : FnOk EidxH Try.f76 := ⟨rfl, rfl⟩
theorem EidxH_t (x0 : List Int) (x1c0_b : List (Int × Int × Unit)) (x1c1 : Int) : exec EidxH 1000 [.code (bodyOf Try.prog 76)] (initSt cidxH.ps ((x0, (some x1c0_b, x1c1, ()), ()))) =
  .cut (loopAt (bodyOf Try.prog 76) 2).1 (loopAt (bodyOf Try.prog 76) 2).2 (St.mk [(0, AV.val (Ty.slc false (Ty.int IntKind.i64)) x0), (1, AV.clo 35 (AV.cons (AV.rptr (Ty.box false (some 75) (Ty.slc false PairT)) (some x1c0_b)) (AV.cons (AV.rptr (Ty.int IntKind.i64) x1c1) AV.nil))), (7, AV.val (Ty.int IntKind.i64) (↑(List.length x0) : Int)), (8, AV.val (Ty.int IntKind.i64) (0 : Int))] []) := by kernel_rfl
def EidxH_s2 (v0 : List Int) (v1a_b : List (Int × Int × Unit)) (v1ba : Int) (v7 : Int) (v8 : Int) : St := St.mk [(0, AV.val (Ty.slc false (Ty.int IntKind.i64)) v0), (1, AV.clo 35 (AV.cons (AV.rptr (Ty.box false (some 75) (Ty.slc false PairT)) (some v1a_b)) (AV.cons (AV.rptr (Ty.int IntKind.i64) v1ba) AV.nil))), (7, AV.val (Ty.int IntKind.i64) v7), (8, AV.val (Ty.int IntKind.i64) v8)] []
theorem EidxH_l2 (v0 : List Int) (v1a_b : List (Int × Int × Unit)) (v1ba : Int) (v7 : Int) (v8 : Int) : exec EidxH 1000 (.code (loopAt (bodyOf Try.prog 76) 2).1 :: .inLoop (loopAt (bodyOf Try.prog 76) 2).1 :: (loopAt (bodyOf Try.prog 76) 2).2) (EidxH_s2 v0 v1a_b v1ba v7 v8) =
  cond (decide (v8 < v7)) (.need ((0 : Int) ≤ v8 ∧ v8 < (↑(List.length v0) : Int)) (.need (isS (some v1a_b)) (cond (memO (List.getD v0 (Int.toNat v8) (0 : Int), v1ba, ()) (some v1a_b)) (.ret ((v8, ()))) (.need (inK IntKind.i64 (v8 + (1 : Int))) (.cut (loopAt (bodyOf Try.prog 76) 2).1 (loopAt (bodyOf Try.prog 76) 2).2 (St.mk [(0, AV.val (Ty.slc false (Ty.int IntKind.i64)) v0), (1, AV.clo 35 (AV.cons (AV.rptr (Ty.box false (some 75) (Ty.slc false PairT)) (some v1a_b)) (AV.cons (AV.rptr (Ty.int IntKind.i64) v1ba) AV.nil))), (7, AV.val (Ty.int IntKind.i64) v7), (8, AV.val (Ty.int IntKind.i64) (v8 + (1 : Int)))] [])))))) (.ret (((-1 : Int), ()))) := by kernel_rfl
theorem cidxH_valid : cidxH.Valid Try.prog 76 := by
  refine Ctr.valid_of EidxH_ok rfl rfl Try.func76 (c := bodyOf Try.prog 76) rfl rfl FidxH_ok rfl ?_
  rintro ⟨(l : List (Int)), ⟨(o : Option (List PairD)), (b : Int), ⟨⟩⟩, ⟨⟩⟩ hp ⟨⟨hl, -⟩, -⟩
  have hl : l.length ≤ 9223372036854775807 := hl
  obtain ⟨q, rfl⟩ := Option.isSome_iff_exists.1 (show o.isSome = true from hp)
  have hp : isS (some q) := hp
  refine exec_sound (n := 1000) EidxH_ok FidxH_ok ?_
  refine holds_of_eq (EidxH_t l q b) ?_
  refine Reach.loopI EidxH_ok FidxH_ok (fun i : Nat => EidxH_s2 l q b (l.length : Int) (i : Int)) (fun i => i ≤ l.length ∧ idxOf (aheadB (some q) b) l = idxGo (aheadB (some q) b) (l.drop i) i)
    (fun i => l.length - i) 1000 (fun _ => ⟨uniq_of rfl, uniq_of rfl⟩) ?_ 0 ⟨by omega, rfl⟩
  rintro i ⟨k1, k2⟩ - ih
  refine holds_of_eq (EidxH_l2 ..) ?_
  simp only [holds_cond, Tree.holds, true_and, true_implies, decide_eq_true_eq, decide_eq_false_iff_not, Bool.not_eq_true', Bool.not_eq_false', Int.toNat_natCast, inK_i64, List.length_set, List.length_cons, List.length_nil]
  refine ⟨fun h => ?_, fun h => ?_⟩
  · rw [drop_getD (show i < l.length by omega) 0, idxGo] at k2
    refine ⟨by omega, fun _ => ⟨hp, fun _ => ⟨fun c => ?_, fun c => ⟨by omega, fun _ => ih (i + 1) ⟨by omega, ?_⟩ (by omega)⟩⟩⟩⟩
    · show (((i : Int), ()) : Int × Unit) = (idxOf (aheadB (some q) b) l, ())
      rw [k2, if_pos (show (aheadB (some q) b) (l.getD i 0) = true from c)]
    · rw [k2, if_neg (show ¬ (aheadB (some q) b) (l.getD i 0) = true from fun h9 => Bool.noConfusion (Eq.trans (Eq.symm h9) c))]
  · rw [List.drop_eq_nil_of_le (by omega)] at k2
    show (((-1 : Int), ()) : Int × Unit) = (idxOf (aheadB (some q) b) l, ())
    rw [k2]; rfl
def cconH : Ctr := { ps := [.v (.slc false I64), .clo 35 [AhT, I64]], rs := [.bool], pre := fun x => isS x.2.1.1, fn := fun x => (List.any (α := Int) x.1 (aheadB x.2.1.1 x.2.1.2.1), ()), out := fun _ => () }
noncomputable def EconH : Env := { P := Try.prog, tt := tt, ctr := [(76, cidxH)], res := [Go.ResultVar.tmp 4], rs := [Ty.bool], ps := [PK.v (Ty.slc false (Ty.int IntKind.i64)), PK.clo 35 [Ty.box false (some 75) (Ty.slc false PairT), Ty.int IntKind.i64]], cuts := [], nt := 9 }
theorem EconH_ok : EnvOk EconH := envOk tt_ok ⟨cidxH_valid, trivial⟩
theorem FconH_ok : FnOk EconH Try.f34 := ⟨rfl, rfl⟩
theorem EconH_t (x0 : List Int) (x1c0_b : List (Int × Int × Unit)) (x1c1 : Int) : exec EconH 1000 [.code (bodyOf Try.prog 34)] (initSt cconH.ps ((x0, (some x1c0_b, x1c1, ()), ()))) =
  .need (isS (some x1c0_b)) (.ret ((decide ((0 : Int) ≤ idxOf (aheadB (some x1c0_b) x1c1) x0), ()))) := by kernel_rfl
theorem cconH_valid : cconH.Valid Try.prog 34 := by
  refine Ctr.valid_of EconH_ok rfl rfl Try.func34 (c := bodyOf Try.prog 34) rfl rfl FconH_ok rfl ?_
  rintro ⟨(l : List (Int)), ⟨(o : Option (List PairD)), (b : Int), ⟨⟩⟩, ⟨⟩⟩ hp -
  obtain ⟨q, rfl⟩ := Option.isSome_iff_exists.1 (show o.isSome = true from hp)
  refine exec_sound (n := 1000) EconH_ok FconH_ok ?_
  refine holds_of_eq (EconH_t l q b) ?_
  refine ⟨hp, fun _ => ?_⟩
  show ((decide (0 ≤ idxOf (aheadB (some q) b) l), ()) : Bool × Unit) = (l.any (aheadB (some q) b), ())
  rw [idx_any]
def cPosetHigh : Ctr := { ps := [.v Pos], rs := [.bool], pre := fun _ => True, fn := fun _ => (true, ()), out := fun _ => () }
noncomputable def EPosetHigh : Env := { P := Try.prog, tt := tt, ctr := [(32, clevelsS), (33, cahead), (30, ceqI), (34, cconH), (75, cahead1)], res := [Go.ResultVar.tmp 2], rs := [Ty.bool], ps := [PK.v (Ty.pair (Ty.int IntKind.i64) (Ty.pair (Ty.slc false PairT) Ty.unit))], cuts := [(10, [(1, none), (5, none), (7, none), (9, none), (62, none), (63, none), (64, none)]), (13, [(1, none), (5, none), (7, none), (9, none), (10, none), (11, none), (62, none), (63, none), (64, none), (69, none), (70, none), (71, none)]), (18, [(1, none), (5, none), (7, none), (9, none), (10, none), (11, none), (13, none), (14, none), (62, none), (63, none), (64, none), (69, none), (70, none), (71, none), (79, none), (80, none), (81, none)])], nt := 107 }
theorem EPosetHigh_ok : EnvOk EPosetHigh := envOk tt_ok ⟨clevelsS_valid, cahead_valid, ceqI_valid, cconH_valid, cahead1_valid, trivial⟩
theorem FPosetHigh_ok : FnOk EPosetHigh Try.f10 := ⟨rfl, rfl⟩
theorem EPosetHigh_t (x0_1 : Int) (x0_2_1 : List (Int × Int × Unit)) : exec EPosetHigh 1000 [.code (bodyOf Try.prog 10)] (initSt cPosetHigh.ps (((x0_1, x0_2_1, ()), ()))) =
  .need (True) (.need ((0 : Int) ≤ (0 : Int) ∧ (0 : Int) < (↑(List.length (Prod.fst (levelsR (3 : Int) (List.set [((0 : Int), (0 : Int), ())] (Int.toNat (↑0 : Int)) ((0 : Int), (1 : Int), ()))))) : Int)) (.need (True) (.need (True) (.need (True) (cond (!decide (Prod.fst (Prod.snd (closeR x0_1 x0_2_1)) = (0 : Int))) (cond (decide (Prod.fst (Prod.snd (levelsR x0_1 x0_2_1)) ≠ (0 : Int))) (.ret ((decide ((↑(List.length (Prod.fst (levelsR x0_1 x0_2_1))) : Int) = (0 : Int)), ()))) (.ret ((false, ())))) (cond (decide (Prod.fst (Prod.snd (levelsR x0_1 x0_2_1)) ≠ (0 : Int))) (cond (decide (Prod.fst (Prod.snd (levelsR x0_1 x0_2_1)) ≠ (0 : Int))) (.ret ((decide ((↑(List.length (Prod.fst (levelsR x0_1 x0_2_1))) : Int) = (0 : Int)), ()))) (.ret ((false, ())))) (.cut (loopAt (bodyOf Try.prog 10) 10).1 (loopAt (bodyOf Try.prog 10) 10).2 (St.mk [(1, AV.ptr 1 []), (5, AV.ptr 5 []), (7, AV.val (Ty.slc false (Ty.slc false (Ty.int IntKind.i64))) (Prod.fst (levelsR x0_1 x0_2_1))), (9, AV.val (Ty.int IntKind.i64) (0 : Int)), (62, AV.val (Ty.slc false (Ty.slc false (Ty.int IntKind.i64))) (Prod.fst (levelsR x0_1 x0_2_1))), (63, AV.val (Ty.int IntKind.i64) (↑(List.length (Prod.fst (levelsR x0_1 x0_2_1))) : Int)), (64, AV.val (Ty.int IntKind.i64) (0 : Int))] [(1, Ent.var (Ty.pair (Ty.int IntKind.i64) (Ty.pair (Ty.slc false PairT) Ty.unit)) (x0_1, x0_2_1, ())), (5, Ent.var (Ty.box false (some 75) (Ty.slc false PairT)) (some (Prod.fst (closeR x0_1 x0_2_1))))])))))))) := by kernel_rfl
def EPosetHigh_s10 (v7 : List (List Int)) (v9 : Int) (v62 : List (List Int)) (v63 : Int) (v64 : Int) (o1_1 : Int) (o1_2_1 : List (Int × Int × Unit)) (o5_b : List (Int × Int × Unit)) : St := St.mk [(1, AV.ptr 1 []), (5, AV.ptr 5 []), (7, AV.val (Ty.slc false (Ty.slc false (Ty.int IntKind.i64))) v7), (9, AV.val (Ty.int IntKind.i64) v9), (62, AV.val (Ty.slc false (Ty.slc false (Ty.int IntKind.i64))) v62), (63, AV.val (Ty.int IntKind.i64) v63), (64, AV.val (Ty.int IntKind.i64) v64)] [(1, Ent.var (Ty.pair (Ty.int IntKind.i64) (Ty.pair (Ty.slc false PairT) Ty.unit)) (o1_1, o1_2_1, ())), (5, Ent.var (Ty.box false (some 75) (Ty.slc false PairT)) (some o5_b))]
theorem EPosetHigh_l10 (v7 : List (List Int)) (v9 : Int) (v62 : List (List Int)) (v63 : Int) (v64 : Int) (o1_1 : Int) (o1_2_1 : List (Int × Int × Unit)) (o5_b : List (Int × Int × Unit)) : exec EPosetHigh 1000 (.code (loopAt (bodyOf Try.prog 10) 10).1 :: .inLoop (loopAt (bodyOf Try.prog 10) 10).1 :: (loopAt (bodyOf Try.prog 10) 10).2) (EPosetHigh_s10 v7 v9 v62 v63 v64 o1_1 o1_2_1 o5_b) =
  cond (decide (v64 < v63)) (.need ((0 : Int) ≤ v64 ∧ v64 < (↑(List.length v62) : Int)) (.cut (loopAt (bodyOf Try.prog 10) 13).1 (loopAt (bodyOf Try.prog 10) 13).2 (St.mk [(1, AV.ptr 1 []), (5, AV.ptr 5 []), (7, AV.val (Ty.slc false (Ty.slc false (Ty.int IntKind.i64))) v7), (9, AV.val (Ty.int IntKind.i64) v9), (10, AV.val (Ty.int IntKind.i64) v64), (11, AV.val (Ty.slc false (Ty.int IntKind.i64)) (List.getD v62 (Int.toNat v64) [])), (62, AV.val (Ty.slc false (Ty.slc false (Ty.int IntKind.i64))) v62), (63, AV.val (Ty.int IntKind.i64) v63), (64, AV.val (Ty.int IntKind.i64) v64), (69, AV.val (Ty.slc false (Ty.int IntKind.i64)) (List.getD v62 (Int.toNat v64) [])), (70, AV.val (Ty.int IntKind.i64) (↑(List.length (List.getD v62 (Int.toNat v64) [])) : Int)), (71, AV.val (Ty.int IntKind.i64) (0 : Int))] [(1, Ent.var (Ty.pair (Ty.int IntKind.i64) (Ty.pair (Ty.slc false PairT) Ty.unit)) (o1_1, o1_2_1, ())), (5, Ent.var (Ty.box false (some 75) (Ty.slc false PairT)) (some o5_b))]))) (.ret ((decide (v9 = o1_1), ()))) := by kernel_rfl
def EPosetHigh_s13 (v7 : List (List Int)) (v9 : Int) (v10 : Int) (v11 : List Int) (v62 : List (List Int)) (v63 : Int) (v64 : Int) (v69 : List Int) (v70 : Int) (v71 : Int) (o1_1 : Int) (o1_2_1 : List (Int × Int × Unit)) (o5_b : List (Int × Int × Unit)) : St := St.mk [(1, AV.ptr 1 []), (5, AV.ptr 5 []), (7, AV.val (Ty.slc false (Ty.slc false (Ty.int IntKind.i64))) v7), (9, AV.val (Ty.int IntKind.i64) v9), (10, AV.val (Ty.int IntKind.i64) v10), (11, AV.val (Ty.slc false (Ty.int IntKind.i64)) v11), (62, AV.val (Ty.slc false (Ty.slc false (Ty.int IntKind.i64))) v62), (63, AV.val (Ty.int IntKind.i64) v63), (64, AV.val (Ty.int IntKind.i64) v64), (69, AV.val (Ty.slc false (Ty.int IntKind.i64)) v69), (70, AV.val (Ty.int IntKind.i64) v70), (71, AV.val (Ty.int IntKind.i64) v71)] [(1, Ent.var (Ty.pair (Ty.int IntKind.i64) (Ty.pair (Ty.slc false PairT) Ty.unit)) (o1_1, o1_2_1, ())), (5, Ent.var (Ty.box false (some 75) (Ty.slc false PairT)) (some o5_b))]
theorem EPosetHigh_l13 (v7 : List (List Int)) (v9 : Int) (v10 : Int) (v11 : List Int) (v62 : List (List Int)) (v63 : Int) (v64 : Int) (v69 : List Int) (v70 : Int) (v71 : Int) (o1_1 : Int) (o1_2_1 : List (Int × Int × Unit)) (o5_b : List (Int × Int × Unit)) : exec EPosetHigh 1000 (.code (loopAt (bodyOf Try.prog 10) 13).1 :: .inLoop (loopAt (bodyOf Try.prog 10) 13).1 :: (loopAt (bodyOf Try.prog 10) 13).2) (EPosetHigh_s13 v7 v9 v10 v11 v62 v63 v64 v69 v70 v71 o1_1 o1_2_1 o5_b) =
  cond (decide (v71 < v70)) (.need ((0 : Int) ≤ v71 ∧ v71 < (↑(List.length v69) : Int)) (.need (inK IntKind.i64 (v9 + (1 : Int))) (.cut (loopAt (bodyOf Try.prog 10) 18).1 (loopAt (bodyOf Try.prog 10) 18).2 (St.mk [(1, AV.ptr 1 []), (5, AV.ptr 5 []), (7, AV.val (Ty.slc false (Ty.slc false (Ty.int IntKind.i64))) v7), (9, AV.val (Ty.int IntKind.i64) (v9 + (1 : Int))), (10, AV.val (Ty.int IntKind.i64) v10), (11, AV.val (Ty.slc false (Ty.int IntKind.i64)) v11), (13, AV.ptr 13 []), (14, AV.val Ty.bool (decide (v10 = (0 : Int)))), (62, AV.val (Ty.slc false (Ty.slc false (Ty.int IntKind.i64))) v62), (63, AV.val (Ty.int IntKind.i64) v63), (64, AV.val (Ty.int IntKind.i64) v64), (69, AV.val (Ty.slc false (Ty.int IntKind.i64)) v69), (70, AV.val (Ty.int IntKind.i64) v70), (71, AV.val (Ty.int IntKind.i64) v71), (79, AV.val (Ty.slc false (Ty.int IntKind.i64)) v11), (80, AV.val (Ty.int IntKind.i64) (↑(List.length v11) : Int)), (81, AV.val (Ty.int IntKind.i64) (0 : Int))] [(1, Ent.var (Ty.pair (Ty.int IntKind.i64) (Ty.pair (Ty.slc false PairT) Ty.unit)) (o1_1, o1_2_1, ())), (5, Ent.var (Ty.box false (some 75) (Ty.slc false PairT)) (some o5_b)), (13, Ent.var (Ty.int IntKind.i64) (List.getD v69 (Int.toNat v71) (0 : Int)))])))) (.need (inK IntKind.i64 (v64 + (1 : Int))) (.cut (loopAt (bodyOf Try.prog 10) 10).1 (loopAt (bodyOf Try.prog 10) 10).2 (St.mk [(1, AV.ptr 1 []), (5, AV.ptr 5 []), (7, AV.val (Ty.slc false (Ty.slc false (Ty.int IntKind.i64))) v7), (9, AV.val (Ty.int IntKind.i64) v9), (62, AV.val (Ty.slc false (Ty.slc false (Ty.int IntKind.i64))) v62), (63, AV.val (Ty.int IntKind.i64) v63), (64, AV.val (Ty.int IntKind.i64) (v64 + (1 : Int)))] [(1, Ent.var (Ty.pair (Ty.int IntKind.i64) (Ty.pair (Ty.slc false PairT) Ty.unit)) (o1_1, o1_2_1, ())), (5, Ent.var (Ty.box false (some 75) (Ty.slc false PairT)) (some o5_b))]))) := by kernel_rfl
def EPosetHigh_s18 (v7 : List (List Int)) (v9 : Int) (v10 : Int) (v11 : List Int) (v14 : Bool) (v62 : List (List Int)) (v63 : Int) (v64 : Int) (v69 : List Int) (v70 : Int) (v71 : Int) (v79 : List Int) (v80 : Int) (v81 : Int) (o1_1 : Int) (o1_2_1 : List (Int × Int × Unit)) (o5_b : List (Int × Int × Unit)) (o13 : Int) : St := St.mk [(1, AV.ptr 1 []), (5, AV.ptr 5 []), (7, AV.val (Ty.slc false (Ty.slc false (Ty.int IntKind.i64))) v7), (9, AV.val (Ty.int IntKind.i64) v9), (10, AV.val (Ty.int IntKind.i64) v10), (11, AV.val (Ty.slc false (Ty.int IntKind.i64)) v11), (13, AV.ptr 13 []), (14, AV.val Ty.bool v14), (62, AV.val (Ty.slc false (Ty.slc false (Ty.int IntKind.i64))) v62), (63, AV.val (Ty.int IntKind.i64) v63), (64, AV.val (Ty.int IntKind.i64) v64), (69, AV.val (Ty.slc false (Ty.int IntKind.i64)) v69), (70, AV.val (Ty.int IntKind.i64) v70), (71, AV.val (Ty.int IntKind.i64) v71), (79, AV.val (Ty.slc false (Ty.int IntKind.i64)) v79), (80, AV.val (Ty.int IntKind.i64) v80), (81, AV.val (Ty.int IntKind.i64) v81)] [(1, Ent.var (Ty.pair (Ty.int IntKind.i64) (Ty.pair (Ty.slc false PairT) Ty.unit)) (o1_1, o1_2_1, ())), (5, Ent.var (Ty.box false (some 75) (Ty.slc false PairT)) (some o5_b)), (13, Ent.var (Ty.int IntKind.i64) o13)]
theorem EPosetHigh_l18 (v7 : List (List Int)) (v9 : Int) (v10 : Int) (v11 : List Int) (v14 : Bool) (v62 : List (List Int)) (v63 : Int) (v64 : Int) (v69 : List Int) (v70 : Int) (v71 : Int) (v79 : List Int) (v80 : Int) (v81 : Int) (o1_1 : Int) (o1_2_1 : List (Int × Int × Unit)) (o5_b : List (Int × Int × Unit)) (o13 : Int) : exec EPosetHigh 1000 (.code (loopAt (bodyOf Try.prog 10) 18).1 :: .inLoop (loopAt (bodyOf Try.prog 10) 18).1 :: (loopAt (bodyOf Try.prog 10) 18).2) (EPosetHigh_s18 v7 v9 v10 v11 v14 v62 v63 v64 v69 v70 v71 v79 v80 v81 o1_1 o1_2_1 o5_b o13) =
  cond (decide (v81 < v80)) (.need ((0 : Int) ≤ v81 ∧ v81 < (↑(List.length v79) : Int)) (.need (Option.isSome (some o5_b) = true ∧ True) (cond (memP (List.getD v79 (Int.toNat v81) (0 : Int), o13, ()) (Option.getD (some o5_b) [])) (.ret ((false, ()))) (.need (inK IntKind.i64 (v81 + (1 : Int))) (.cut (loopAt (bodyOf Try.prog 10) 18).1 (loopAt (bodyOf Try.prog 10) 18).2 (St.mk [(1, AV.ptr 1 []), (5, AV.ptr 5 []), (7, AV.val (Ty.slc false (Ty.slc false (Ty.int IntKind.i64))) v7), (9, AV.val (Ty.int IntKind.i64) v9), (10, AV.val (Ty.int IntKind.i64) v10), (11, AV.val (Ty.slc false (Ty.int IntKind.i64)) v11), (13, AV.ptr 13 []), (14, AV.val Ty.bool v14), (62, AV.val (Ty.slc false (Ty.slc false (Ty.int IntKind.i64))) v62), (63, AV.val (Ty.int IntKind.i64) v63), (64, AV.val (Ty.int IntKind.i64) v64), (69, AV.val (Ty.slc false (Ty.int IntKind.i64)) v69), (70, AV.val (Ty.int IntKind.i64) v70), (71, AV.val (Ty.int IntKind.i64) v71), (79, AV.val (Ty.slc false (Ty.int IntKind.i64)) v79), (80, AV.val (Ty.int IntKind.i64) v80), (81, AV.val (Ty.int IntKind.i64) (v81 + (1 : Int)))] [(1, Ent.var (Ty.pair (Ty.int IntKind.i64) (Ty.pair (Ty.slc false PairT) Ty.unit)) (o1_1, o1_2_1, ())), (5, Ent.var (Ty.box false (some 75) (Ty.slc false PairT)) (some o5_b)), (13, Ent.var (Ty.int IntKind.i64) o13)])))))) (cond (decide ((0 : Int) < v10)) (.need (inK IntKind.i64 (v10 - (1 : Int))) (.need ((0 : Int) ≤ v10 - (1 : Int) ∧ v10 - (1 : Int) < (↑(List.length v7) : Int)) (.need (isS (some o5_b)) (cond (!List.any (List.getD v7 (Int.toNat (v10 - (1 : Int))) []) (aheadB (some o5_b) o13)) (.ret ((false, ()))) (.need (inK IntKind.i64 (v71 + (1 : Int))) (.cut (loopAt (bodyOf Try.prog 10) 13).1 (loopAt (bodyOf Try.prog 10) 13).2 (St.mk [(1, AV.ptr 1 []), (5, AV.ptr 5 []), (7, AV.val (Ty.slc false (Ty.slc false (Ty.int IntKind.i64))) v7), (9, AV.val (Ty.int IntKind.i64) v9), (10, AV.val (Ty.int IntKind.i64) v10), (11, AV.val (Ty.slc false (Ty.int IntKind.i64)) v11), (62, AV.val (Ty.slc false (Ty.slc false (Ty.int IntKind.i64))) v62), (63, AV.val (Ty.int IntKind.i64) v63), (64, AV.val (Ty.int IntKind.i64) v64), (69, AV.val (Ty.slc false (Ty.int IntKind.i64)) v69), (70, AV.val (Ty.int IntKind.i64) v70), (71, AV.val (Ty.int IntKind.i64) (v71 + (1 : Int)))] [(1, Ent.var (Ty.pair (Ty.int IntKind.i64) (Ty.pair (Ty.slc false PairT) Ty.unit)) (o1_1, o1_2_1, ())), (5, Ent.var (Ty.box false (some 75) (Ty.slc false PairT)) (some o5_b))]))))))) (cond (!v14) (.ret ((false, ()))) (.need (inK IntKind.i64 (v71 + (1 : Int))) (.cut (loopAt (bodyOf Try.prog 10) 13).1 (loopAt (bodyOf Try.prog 10) 13).2 (St.mk [(1, AV.ptr 1 []), (5, AV.ptr 5 []), (7, AV.val (Ty.slc false (Ty.slc false (Ty.int IntKind.i64))) v7), (9, AV.val (Ty.int IntKind.i64) v9), (10, AV.val (Ty.int IntKind.i64) v10), (11, AV.val (Ty.slc false (Ty.int IntKind.i64)) v11), (62, AV.val (Ty.slc false (Ty.slc false (Ty.int IntKind.i64))) v62), (63, AV.val (Ty.int IntKind.i64) v63), (64, AV.val (Ty.int IntKind.i64) v64), (69, AV.val (Ty.slc false (Ty.int IntKind.i64)) v69), (70, AV.val (Ty.int IntKind.i64) v70), (71, AV.val (Ty.int IntKind.i64) (v71 + (1 : Int)))] [(1, Ent.var (Ty.pair (Ty.int IntKind.i64) (Ty.pair (Ty.slc false PairT) Ty.unit)) (o1_1, o1_2_1, ())), (5, Ent.var (Ty.box false (some 75) (Ty.slc false PairT)) (some o5_b))]))))) := by kernel_rfl
theorem ahead_pairs {n : Nat} {R : Nat → Nat → Bool} {a b : Int} (ha : 0 ≤ a ∧ a < (n : Int)) (hb : 0 ≤ b ∧ b < (n : Int)) : memP (a, b, ()) (pairsF n R) = R a.toNat b.toNat := by
  have : memP (a, b, ()) (pairsF n R) = true ↔ R a.toNat b.toNat = true := by
    rw [memP, decide_eq_true_eq, pairsF_mem]
    constructor
    · rintro ⟨x, y, hx, hy, h, e⟩
      simp only [Prod.mk.injEq, and_true] at e
      rw [e.1, e.2, Int.toNat_natCast, Int.toNat_natCast]; exact h
    · intro h
      exact ⟨a.toNat, b.toNat, by omega, by omega, h, by simp only [Prod.mk.injEq, and_true]; omega⟩
  cases e : R a.toNat b.toNat with
  | true => exact this.2 e
  | false =>
    cases e2 : memP (a, b, ()) (pairsF n R) with
    | false => rfl
    | true => rw [this.1 e2] at e; cases e
theorem cPosetHigh_valid : cPosetHigh.Valid Try.prog 10 := by
  refine Ctr.valid_of EPosetHigh_ok rfl rfl Try.func10 (c := bodyOf Try.prog 10) rfl rfl FPosetHigh_ok rfl ?_
  rintro ⟨⟨(n0 : Int), (l : List PairD), ⟨⟩⟩, ⟨⟩⟩ - -
  refine exec_sound (n := 1000) EPosetHigh_ok FPosetHigh_ok ?_
  refine holds_of_eq (EPosetHigh_t n0 l) ?_
  have ec : (closeR n0 l).2.1 = pcheck n0 l := by
    rw [closeR]; split
    · rfl
    · rename_i h; exact (Decidable.not_not.1 h).symm
  have el : (levelsR n0 l).2.1 = pcheck n0 l := by
    rw [levelsR]; split
    · rfl
    · rename_i h; exact (Decidable.not_not.1 h).symm
  simp only [holds_cond, Tree.holds, true_and, true_implies, decide_eq_true_eq, decide_eq_false_iff_not, Bool.not_eq_true', Bool.not_eq_false', Int.toNat_natCast, inK_i64, List.length_set, List.length_cons, List.length_nil]
  rw [ec, el]
  refine ⟨by decide +kernel, fun _ => ⟨fun c => ⟨fun _ => yesd (by rw [levelsR, if_pos c]; rfl), fun d => absurd c d⟩, fun c => ⟨fun d => absurd c d, fun _ => ?_⟩⟩⟩
  obtain ⟨n, rfl, hp⟩ := pcheck_ok c
  have hn := hp.n20
  rw [closeR_ok hp, show (levelsR (n : Int) l).1 = rowsF (levF (wk (relP l) n) n (orderN (wk (relP l) n) n n [])) n by rw [levelsR, if_neg (fun d => d c), Int.toNat_natCast]]
  have hk := high_ok hp
  generalize rowsF (levF (wk (relP l) n) n (orderN (wk (relP l) n) n n [])) n = L at *
  have hlen := hk.len
  generalize wk (relP l) n = R at *
  refine Reach.loopI EPosetHigh_ok FPosetHigh_ok (fun i : Nat => EPosetHigh_s10 L (((L.take i).map List.length).sum : Nat) L (L.length : Int) (i : Int) (n : Int) l (pairsF n R)) (fun i => i ≤ L.length) (fun i => L.length - i) 1000 (fun _ => ⟨uniq_of rfl, uniq_of rfl⟩) ?_ 0 (by omega)
  rintro i k1 - ih
  have k1 : i ≤ L.length := k1
  refine holds_of_eq (EPosetHigh_l10 ..) ?_
  simp only [holds_cond, Tree.holds, true_and, true_implies, decide_eq_true_eq, decide_eq_false_iff_not, Bool.not_eq_true', Bool.not_eq_false', Int.toNat_natCast, inK_i64, List.length_set, List.length_cons, List.length_nil]
  refine ⟨fun d => ⟨by omega, fun _ => ?_⟩, fun d => ?_⟩
  · have hi : i < L.length := by omega
    have hsum := sum_take hi
    have hle := sum_take_le L (i + 1)
    rw [hk.sum] at hle
    have next := ih (i + 1) (by show i + 1 ≤ L.length; omega) (by omega)
    rw [hsum] at next
    rw [hsum] at hle
    have hr := hk.rng i
    have hap := hk.apart i
    generalize hs : ((L.take i).map List.length).sum = s at *
    generalize hrow : L.getD i [] = row at *
    refine Reach.loopI EPosetHigh_ok FPosetHigh_ok (fun j : Nat => EPosetHigh_s13 L ((s + j : Nat) : Int) (i : Int) row L (L.length : Int) (i : Int) row (row.length : Int) (j : Int) (n : Int) l (pairsF n R)) (fun j => j ≤ row.length) (fun j => row.length - j) 1000 (fun _ => ⟨uniq_of rfl, uniq_of rfl⟩) ?_ 0 (by omega)
    rintro j k2 - ih2
    have k2 : j ≤ row.length := k2
    refine holds_of_eq (EPosetHigh_l13 ..) ?_
    simp only [holds_cond, Tree.holds, true_and, true_implies, decide_eq_true_eq, decide_eq_false_iff_not, Bool.not_eq_true', Bool.not_eq_false', Int.toNat_natCast, inK_i64, List.length_set, List.length_cons, List.length_nil]
    refine ⟨fun e => ⟨by omega, fun _ => ⟨by omega, fun _ => ?_⟩⟩, fun e => ⟨by omega, fun _ => ?_⟩⟩
    · have hj : j < row.length := by omega
      have next2 := ih2 (j + 1) (by show j + 1 ≤ row.length; omega) (by omega)
      have hb := getD_mem (d := 0) hj
      generalize row.getD j 0 = b at *
      have hbr := hr b hb
      refine Reach.loopI EPosetHigh_ok FPosetHigh_ok (fun k : Nat => EPosetHigh_s18 L (((s + j : Nat) : Int) + 1) (i : Int) row (decide ((i : Int) = 0)) L (L.length : Int) (i : Int) row (row.length : Int) (j : Int) row (row.length : Int) (k : Int) (n : Int) l (pairsF n R) b) (fun k => k ≤ row.length) (fun k => row.length - k) 1000 (fun _ => ⟨uniq_of rfl, uniq_of rfl⟩) ?_ 0 (by omega)
      rintro k k3 - ih3
      have k3 : k ≤ row.length := k3
      refine holds_of_eq (EPosetHigh_l18 ..) ?_
      simp only [holds_cond, Tree.holds, true_and, true_implies, decide_eq_true_eq, decide_eq_false_iff_not, Bool.not_eq_true', Bool.not_eq_false', Int.toNat_natCast, inK_i64, List.length_set, List.length_cons, List.length_nil]
      refine ⟨fun f => ⟨by omega, fun _ => ⟨⟨rfl, trivial⟩, fun _ => ?_⟩⟩, fun f => ⟨fun g => ⟨by omega, fun _ => ⟨by omega, fun _ => ⟨rfl, fun _ => ?_⟩⟩⟩, fun g => ⟨fun g2 => absurd (show (i : Int) = 0 by omega) g2, fun _ => ⟨by omega, fun _ => next2⟩⟩⟩⟩
      · have ha := getD_mem (d := 0) (show k < row.length by omega)
        have har := hr _ ha
        have := hap _ ha _ hb
        have next3 := ih3 (k + 1) (by show k + 1 ≤ row.length; omega) (by omega)
        show (memP (row.getD k 0, b, ()) (pairsF n R) = true → _) ∧ (memP (row.getD k 0, b, ()) (pairsF n R) = false → _)
        rw [ahead_pairs har hbr, this]
        exact ⟨fun c => (by cases c), fun _ => ⟨by omega, fun _ => next3⟩⟩
      · obtain ⟨i', rfl⟩ : ∃ i', i = i' + 1 := ⟨i - 1, by omega⟩
        have hnx := hk.next i'
        rw [hrow] at hnx
        obtain ⟨a, ha, hab⟩ := hnx b hb
        have har := hk.rng i' a ha
        have ei : (((i' + 1 : Nat) : Int) - 1).toNat = i' := by omega
        rw [ei]
        have hany : List.any (L.getD i' []) (aheadB (some (pairsF n R)) b) = true := List.any_eq_true.2 ⟨a, ha, by show memP (a, b, ()) (pairsF n R) = true; rw [ahead_pairs har hbr]; exact hab⟩
        exact ⟨fun c => (by rw [hany] at c; cases c), fun _ => ⟨by omega, fun _ => next2⟩⟩
    · have : j = row.length := by omega
      subst this
      exact next
  · have : i = L.length := by omega
    subst this
    rw [List.take_length, hk.sum]
    exact yesd rfl
end Go.Proofs.Ytehmefjnkbjiiaa
