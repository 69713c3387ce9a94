/- EnterOne, EnterFew, EnterAll: the walks. -/
import Derived.Test.YtbcdpeogfghgcaaEnterR
namespace Go.Proofs.Ytbcdpeogfghgcaa
open Go.Ex
set_option maxRecDepth 100000
def wishD (d : DoorD) : Bool := decide (0 < d.2.1)
def cwishD : Ctr := { ps := [.v Door], rs := [.bool], pre := fun _ => True, fn := fun x => (wishD x.1, ()), out := fun _ => () }
noncomputable def EwishD : Env := { P := Try.prog, tt := tt, ctr := [], res := [Go.ResultVar.tmp 2], rs := [Ty.bool], ps := [PK.v (Ty.pair (Ty.int IntKind.i64) (Ty.pair (Ty.int IntKind.i64) (Ty.pair (Ty.int IntKind.u8) (Ty.pair Ty.bool (Ty.pair (Ty.slc false (Ty.int IntKind.i64)) Ty.unit)))))], cuts := [], nt := 6 }
theorem EwishD_ok : EnvOk EwishD := envOk tt_ok trivial
theorem FwishD_ok : FnOk EwishD Try.f49 := ⟨rfl, rfl⟩
theorem EwishD_t (x0_1 : Int) (x0_2_1 : Int) (x0_2_2_1 : Int) (x0_2_2_2_1 : Bool) (x0_2_2_2_2_1 : List Int) : exec EwishD 1000 [.code (bodyOf Try.prog 49)] (initSt cwishD.ps (((x0_1, x0_2_1, x0_2_2_1, x0_2_2_2_1, x0_2_2_2_2_1, ()), ()))) =
  .ret ((decide ((0 : Int) < x0_2_1), ())) := by kernel_rfl
theorem cwishD_valid : cwishD.Valid Try.prog 49 := by
  refine Ctr.valid_of EwishD_ok rfl rfl Try.func49 (c := bodyOf Try.prog 49) rfl rfl FwishD_ok rfl ?_
  rintro ⟨⟨(c : Int), (w : Int), (y : Int), (b : Bool), (l : List Int), ⟨⟩⟩, ⟨⟩⟩ - -
  refine exec_sound (n := 1000) EwishD_ok FwishD_ok ?_
  refine holds_of_eq (EwishD_t c w y b l) ?_
  rfl
def cidxW : Ctr := { ps := [.v (.slc false Door), .clo 49 []], rs := [I64], pre := fun x => True, fn := fun x => (idxOf (wishD) x.1, ()), out := fun _ => () }
noncomputable def EidxW : Env := { P := Try.prog, tt := tt, ctr := [(49, cwishD)], res := [Go.ResultVar.tmp 4], rs := [Ty.int IntKind.i64], ps := [PK.v (Ty.slc false (Ty.pair (Ty.int IntKind.i64) (Ty.pair (Ty.int IntKind.i64) (Ty.pair (Ty.int IntKind.u8) (Ty.pair Ty.bool (Ty.pair (Ty.slc false (Ty.int IntKind.i64)) Ty.unit)))))), PK.clo 49 []], cuts := [(2, [(0, none), (1, none), (7, none), (8, none)])], nt := 19 }
theorem EidxW_ok : EnvOk EidxW := envOk tt_ok ⟨cwishD_valid, trivial⟩
theorem FidxW_ok : FnOk EidxW Try.f101 := ⟨rfl, rfl⟩
theorem EidxW_t (x0 : List (Int × Int × Int × Bool × List Int × Unit)) : exec EidxW 1000 [.code (bodyOf Try.prog 101)] (initSt cidxW.ps ((x0, (), ()))) =
  .cut (loopAt (bodyOf Try.prog 101) 2).1 (loopAt (bodyOf Try.prog 101) 2).2 (St.mk [(0, AV.val (Ty.slc false (Ty.pair (Ty.int IntKind.i64) (Ty.pair (Ty.int IntKind.i64) (Ty.pair (Ty.int IntKind.u8) (Ty.pair Ty.bool (Ty.pair (Ty.slc false (Ty.int IntKind.i64)) Ty.unit)))))) x0), (1, AV.clo 49 AV.nil), (7, AV.val (Ty.int IntKind.i64) (↑(List.length x0) : Int)), (8, AV.val (Ty.int IntKind.i64) (0 : Int))] []) := by kernel_rfl
def EidxW_s2 (v0 : List (Int × Int × Int × Bool × List Int × Unit)) (v7 : Int) (v8 : Int) : St := St.mk [(0, AV.val (Ty.slc false (Ty.pair (Ty.int IntKind.i64) (Ty.pair (Ty.int IntKind.i64) (Ty.pair (Ty.int IntKind.u8) (Ty.pair Ty.bool (Ty.pair (Ty.slc false (Ty.int IntKind.i64)) Ty.unit)))))) v0), (1, AV.clo 49 AV.nil), (7, AV.val (Ty.int IntKind.i64) v7), (8, AV.val (Ty.int IntKind.i64) v8)] []
theorem EidxW_l2 (v0 : List (Int × Int × Int × Bool × List Int × Unit)) (v7 : Int) (v8 : Int) : exec EidxW 1000 (.code (loopAt (bodyOf Try.prog 101) 2).1 :: .inLoop (loopAt (bodyOf Try.prog 101) 2).1 :: (loopAt (bodyOf Try.prog 101) 2).2) (EidxW_s2 v0 v7 v8) =
  cond (decide (v8 < v7)) (.need ((0 : Int) ≤ v8 ∧ v8 < (↑(List.length v0) : Int)) (.need (True) (cond (wishD (List.getD v0 (Int.toNat v8) ((0 : Int), (0 : Int), (0 : Int), false, [], ()))) (.ret ((v8, ()))) (.need (inK IntKind.i64 (v8 + (1 : Int))) (.cut (loopAt (bodyOf Try.prog 101) 2).1 (loopAt (bodyOf Try.prog 101) 2).2 (St.mk [(0, AV.val (Ty.slc false (Ty.pair (Ty.int IntKind.i64) (Ty.pair (Ty.int IntKind.i64) (Ty.pair (Ty.int IntKind.u8) (Ty.pair Ty.bool (Ty.pair (Ty.slc false (Ty.int IntKind.i64)) Ty.unit)))))) v0), (1, AV.clo 49 AV.nil), (7, AV.val (Ty.int IntKind.i64) v7), (8, AV.val (Ty.int IntKind.i64) (v8 + (1 : Int)))] [])))))) (.ret (((-1 : Int), ()))) := by kernel_rfl
theorem cidxW_valid : cidxW.Valid Try.prog 101 := by
  refine Ctr.valid_of EidxW_ok rfl rfl Try.func101 (c := bodyOf Try.prog 101) rfl rfl FidxW_ok rfl ?_
  rintro ⟨(l : List (DoorD)), ⟨⟩, ⟨⟩⟩ - ⟨⟨hl, -⟩, -⟩
  have hl : l.length ≤ 9223372036854775807 := hl
  refine exec_sound (n := 1000) EidxW_ok FidxW_ok ?_
  refine holds_of_eq (EidxW_t l ) ?_
  refine Reach.loopI EidxW_ok FidxW_ok (fun i : Nat => EidxW_s2 l  (l.length : Int) (i : Int)) (fun i => i ≤ l.length ∧ idxOf (wishD) l = idxGo (wishD) (l.drop i) i)
    (fun i => l.length - i) 1000 (fun _ => ⟨uniq_of rfl, uniq_of rfl⟩) ?_ 0 ⟨by omega, rfl⟩
  rintro i ⟨k1, k2⟩ - ih
  refine holds_of_eq (EidxW_l2 ..) ?_
  simp only [holds_cond, Tree.holds, true_and, true_implies, decide_eq_true_eq, decide_eq_false_iff_not, Bool.not_eq_true', Bool.not_eq_false', Int.toNat_natCast, inK_i64, List.length_set, List.length_cons, List.length_nil]
  refine ⟨fun h => ?_, fun h => ?_⟩
  · rw [drop_getD (show i < l.length by omega) (0, 0, 0, false, [], ()), idxGo] at k2
    refine ⟨by omega, fun _ => ⟨fun c => ?_, fun c => ⟨by omega, fun _ => ih (i + 1) ⟨by omega, ?_⟩ (by omega)⟩⟩⟩
    · show (((i : Int), ()) : Int × Unit) = (idxOf (wishD) l, ())
      rw [k2, if_pos c]
    · rw [k2, if_neg (fun h9 => Bool.noConfusion (Eq.trans (Eq.symm h9) c))]
  · rw [List.drop_eq_nil_of_le (by omega)] at k2
    show (((-1 : Int), ()) : Int × Unit) = (idxOf (wishD) l, ())
    rw [k2]; rfl
def ccontW : Ctr := { ps := [.v (.slc false Door), .clo 49 []], rs := [.bool], pre := fun x => True, fn := fun x => (List.any (α := DoorD) x.1 (wishD), ()), out := fun _ => () }
noncomputable def EcontW : Env := { P := Try.prog, tt := tt, ctr := [(101, cidxW)], res := [Go.ResultVar.tmp 4], rs := [Ty.bool], ps := [PK.v (Ty.slc false (Ty.pair (Ty.int IntKind.i64) (Ty.pair (Ty.int IntKind.i64) (Ty.pair (Ty.int IntKind.u8) (Ty.pair Ty.bool (Ty.pair (Ty.slc false (Ty.int IntKind.i64)) Ty.unit)))))), PK.clo 49 []], cuts := [], nt := 9 }
theorem EcontW_ok : EnvOk EcontW := envOk tt_ok ⟨cidxW_valid, trivial⟩
theorem FcontW_ok : FnOk EcontW Try.f48 := ⟨rfl, rfl⟩
theorem EcontW_t (x0 : List (Int × Int × Int × Bool × List Int × Unit)) : exec EcontW 1000 [.code (bodyOf Try.prog 48)] (initSt ccontW.ps ((x0, (), ()))) =
  .need (True) (.ret ((decide ((0 : Int) ≤ idxOf wishD x0), ()))) := by kernel_rfl
theorem ccontW_valid : ccontW.Valid Try.prog 48 := by
  refine Ctr.valid_of EcontW_ok rfl rfl Try.func48 (c := bodyOf Try.prog 48) rfl rfl FcontW_ok rfl ?_
  rintro ⟨(l : List (DoorD)), ⟨⟩, ⟨⟩⟩ - -
  refine exec_sound (n := 1000) EcontW_ok FcontW_ok ?_
  refine holds_of_eq (EcontW_t l ) ?_
  refine ⟨trivial, fun _ => ?_⟩
  show ((decide (0 ≤ idxOf (wishD) l), ()) : Bool × Unit) = (l.any (wishD), ())
  rw [idx_any]
def cEnterOne : Ctr := { ps := [.v I64, .v (.slc false PairT)], rs := [.bool], pre := fun _ => True, fn := fun _ => (true, ()), out := fun _ => () }
noncomputable def EEnterOne : Env := { P := Try.prog, tt := tt, ctr := [(40, cedoors), (31, cfew), (41, cinside), (42, cecheck), (30, ceqI)], res := [Go.ResultVar.tmp 4], rs := [Ty.bool], ps := [PK.v (Ty.int IntKind.i64), PK.v (Ty.slc false PairT)], cuts := [(6, [(0, none), (1, none), (30, none), (31, none)])], nt := 57 }
theorem EEnterOne_ok : EnvOk EEnterOne := envOk tt_ok ⟨cedoors_valid, cfew_valid, cinside_valid, cecheck_valid, ceqI_valid, trivial⟩
theorem FEnterOne_ok : FnOk EEnterOne Try.f10 := ⟨rfl, rfl⟩
theorem EEnterOne_t (x0 : Int) (x1 : List (Int × Int × Unit)) : exec EEnterOne 1000 [.code (bodyOf Try.prog 10)] (initSt cEnterOne.ps ((x0, x1, ()))) =
  .need ((1 : Int) ≤ (2 : Int) ∧ (2 : Int) ≤ (6 : Int)) (.need (List.length (Prod.fst (edoors (2 : Int) (List.set (List.set (List.set [((0 : Int), (0 : Int), ()), ((0 : Int), (0 : Int), ()), ((0 : Int), (0 : Int), ())] (Int.toNat (↑0 : Int)) ((0 : Int), (0 : Int), ())) (Int.toNat (↑1 : Int)) ((1 : Int), (0 : Int), ())) (Int.toNat (↑2 : Int)) ((1 : Int), (0 : Int), ())))) ≤ 1000) (.need (True) (.need (True) (.cut (loopAt (bodyOf Try.prog 10) 6).1 (loopAt (bodyOf Try.prog 10) 6).2 (St.mk [(0, AV.val (Ty.int IntKind.i64) (few x0)), (1, AV.val (Ty.slc false PairT) x1), (30, AV.val (Ty.int IntKind.i64) (↑(List.length x1) : Int)), (31, AV.val (Ty.int IntKind.i64) (0 : Int))] []))))) := by kernel_rfl
def EEnterOne_s6 (v0 : Int) (v1 : List (Int × Int × Unit)) (v30 : Int) (v31 : Int) : St := St.mk [(0, AV.val (Ty.int IntKind.i64) v0), (1, AV.val (Ty.slc false PairT) v1), (30, AV.val (Ty.int IntKind.i64) v30), (31, AV.val (Ty.int IntKind.i64) v31)] []
theorem EEnterOne_l6 (v0 : Int) (v1 : List (Int × Int × Unit)) (v30 : Int) (v31 : Int) : exec EEnterOne 1000 (.code (loopAt (bodyOf Try.prog 10) 6).1 :: .inLoop (loopAt (bodyOf Try.prog 10) 6).1 :: (loopAt (bodyOf Try.prog 10) 6).2) (EEnterOne_s6 v0 v1 v30 v31) =
  cond (decide (v31 < v30)) (.need (inK IntKind.i64 (v31 + (1 : Int))) (.need ((0 : Int) ≤ (0 : Int) ∧ (0 : Int) ≤ v31 + (1 : Int) ∧ v31 + (1 : Int) ≤ (↑(List.length v1) : Int)) (.need ((1 : Int) ≤ v0 ∧ v0 ≤ (6 : Int)) (.need (True) (cond (decide (echeck (edoors v0 (cut2 (0 : Int) (v31 + (1 : Int)) v1)) ≠ (0 : Int))) (.ret ((false, ()))) (.need (List.length (Prod.fst (edoors v0 (cut2 (0 : Int) (v31 + (1 : Int)) v1))) ≤ 1000) (cond (decide ((1 : Int) < (↑(List.length (insideR (edoors v0 (cut2 (0 : Int) (v31 + (1 : Int)) v1)))) : Int))) (.ret ((false, ()))) (.need (inK IntKind.i64 (v31 + (1 : Int))) (.cut (loopAt (bodyOf Try.prog 10) 6).1 (loopAt (bodyOf Try.prog 10) 6).2 (St.mk [(0, AV.val (Ty.int IntKind.i64) v0), (1, AV.val (Ty.slc false PairT) v1), (30, AV.val (Ty.int IntKind.i64) v30), (31, AV.val (Ty.int IntKind.i64) (v31 + (1 : Int)))] [])))))))))) (.ret ((true, ()))) := by kernel_rfl
def cEnterFew : Ctr := { ps := [.v I64, .v I64], rs := [.bool], pre := fun _ => True, fn := fun _ => (true, ()), out := fun _ => () }
noncomputable def EEnterFew : Env := { P := Try.prog, tt := tt, ctr := [(40, cedoors), (31, cfew), (41, cinside), (43, cenew), (44, cewish), (45, cetake), (30, ceqI), (24, crest)], res := [Go.ResultVar.tmp 4], rs := [Ty.bool], ps := [PK.v (Ty.int IntKind.i64), PK.v (Ty.int IntKind.i64)], cuts := [(13, [(0, none), (7, none), (9, none), (10, none)])], nt := 76 }
theorem EEnterFew_ok : EnvOk EEnterFew := envOk tt_ok ⟨cedoors_valid, cfew_valid, cinside_valid, cenew_valid, cewish_valid, cetake_valid, ceqI_valid, crest_valid, trivial⟩
theorem FEnterFew_ok : FnOk EEnterFew Try.f11 := ⟨rfl, rfl⟩
theorem EEnterFew_t (x0 : Int) (x1 : Int) : exec EEnterFew 1000 [.code (bodyOf Try.prog 11)] (initSt cEnterFew.ps ((x0, x1, ()))) =
  .need ((1 : Int) ≤ (3 : Int) ∧ (3 : Int) ≤ (6 : Int)) (.need (True) (.need (True) (cond (decide (Prod.fst (Prod.snd (enew (few x0))) ≠ (0 : Int))) (.ret ((false, ()))) (.need (few x0 ≤ (1000000 : Int)) (.need (True) (cond (decide (Prod.fst (Prod.snd (ewish (Prod.fst (enew (few x0))) (rest x1 (few x0)))) ≠ (0 : Int))) (.ret ((false, ()))) (.cut (loopAt (bodyOf Try.prog 11) 13).1 (loopAt (bodyOf Try.prog 11) 13).2 (St.mk [(0, AV.val (Ty.int IntKind.i64) (few x0)), (7, AV.ptr 7 []), (9, AV.val (Ty.int IntKind.i64) (rest x1 (few x0))), (10, AV.val (Ty.int IntKind.i64) (0 : Int))] [(7, Ent.var (Ty.pair (Ty.slc true (Ty.pair (Ty.int IntKind.i64) (Ty.pair (Ty.int IntKind.i64) (Ty.pair (Ty.int IntKind.u8) (Ty.pair Ty.bool (Ty.pair Is Ty.unit)))))) (Ty.pair (Ty.slc true Word) Ty.unit)) (Prod.fst (ewish (Prod.fst (enew (few x0))) (rest x1 (few x0)))))])))))))) := by kernel_rfl
def EEnterFew_s13 (v0 : Int) (v9 : Int) (v10 : Int) (o7_1 : List (Int × Int × Int × Bool × List Int × Unit)) (o7_2_1 : List (Int × Int × Int × Unit)) : St := St.mk [(0, AV.val (Ty.int IntKind.i64) v0), (7, AV.ptr 7 []), (9, AV.val (Ty.int IntKind.i64) v9), (10, AV.val (Ty.int IntKind.i64) v10)] [(7, Ent.var (Ty.pair (Ty.slc true (Ty.pair (Ty.int IntKind.i64) (Ty.pair (Ty.int IntKind.i64) (Ty.pair (Ty.int IntKind.u8) (Ty.pair Ty.bool (Ty.pair Is Ty.unit)))))) (Ty.pair (Ty.slc true Word) Ty.unit)) (o7_1, o7_2_1, ()))]
theorem EEnterFew_l13 (v0 : Int) (v9 : Int) (v10 : Int) (o7_1 : List (Int × Int × Int × Bool × List Int × Unit)) (o7_2_1 : List (Int × Int × Int × Unit)) : exec EEnterFew 1000 (.code (loopAt (bodyOf Try.prog 11) 13).1 :: .inLoop (loopAt (bodyOf Try.prog 11) 13).1 :: (loopAt (bodyOf Try.prog 11) 13).2) (EEnterFew_s13 v0 v9 v10 o7_1 o7_2_1) =
  cond (decide ((0 : Int) < (↑(List.length o7_2_1) : Int))) (.need (True) (cond (decide (Prod.fst (Prod.snd (etake (o7_1, o7_2_1, ()) (0 : Int))) ≠ (0 : Int))) (.ret ((false, ()))) (.need (inK IntKind.i64 ((2 : Int) * v0)) (cond (decide ((2 : Int) * v0 < v10)) (.ret ((false, ()))) (.need (inK IntKind.i64 (v10 + (1 : Int))) (.cut (loopAt (bodyOf Try.prog 11) 13).1 (loopAt (bodyOf Try.prog 11) 13).2 (St.mk [(0, AV.val (Ty.int IntKind.i64) v0), (7, AV.ptr 7 []), (9, AV.val (Ty.int IntKind.i64) v9), (10, AV.val (Ty.int IntKind.i64) (v10 + (1 : Int)))] [(7, Ent.var (Ty.pair (Ty.slc true (Ty.pair (Ty.int IntKind.i64) (Ty.pair (Ty.int IntKind.i64) (Ty.pair (Ty.int IntKind.u8) (Ty.pair Ty.bool (Ty.pair Is Ty.unit)))))) (Ty.pair (Ty.slc true Word) Ty.unit)) (Prod.fst (etake (o7_1, o7_2_1, ()) (0 : Int))))]))))))) (.need (inK IntKind.i64 (v0 - (1 : Int))) (.need (inK IntKind.i64 ((2 : Int) * (v0 - (1 : Int)))) (cond (decide (v10 = (2 : Int) * (v0 - (1 : Int)))) (.need (List.length o7_1 ≤ 1000) (.need (True) (.ret ((decide (insideR (o7_1, o7_2_1, ()) = List.set [(0 : Int)] (Int.toNat (↑0 : Int)) v9), ()))))) (.ret ((false, ())))))) := by kernel_rfl
def cEnterAll : Ctr := { ps := [.v I64, .v (.slc false PairT)], rs := [.bool], pre := fun _ => True, fn := fun _ => (true, ()), out := fun _ => () }
noncomputable def EEnterAll : Env := { P := Try.prog, tt := tt, ctr := [(40, cedoors), (31, cfew), (41, cinside), (45, cetake), (47, celeave), (30, ceqI), (48, ccontW)], res := [Go.ResultVar.tmp 4], rs := [Ty.bool], ps := [PK.v (Ty.int IntKind.i64), PK.v (Ty.slc false PairT)], cuts := [(10, [(7, none), (9, none), (46, none), (47, none), (48, none)]), (17, [(7, none), (9, none), (12, none), (58, none)]), (26, [(7, none), (9, none), (12, none), (13, some Is), (14, none), (58, none), (91, none), (92, none), (93, none)])], nt := 142 }
theorem EEnterAll_ok : EnvOk EEnterAll := envOk tt_ok ⟨cedoors_valid, cfew_valid, cinside_valid, cetake_valid, celeave_valid, ceqI_valid, ccontW_valid, trivial⟩
theorem FEnterAll_ok : FnOk EEnterAll Try.f13 := ⟨rfl, rfl⟩
theorem EEnterAll_t (x0 : Int) (x1 : List (Int × Int × Unit)) : exec EEnterAll 1000 [.code (bodyOf Try.prog 13)] (initSt cEnterAll.ps ((x0, x1, ()))) =
  .need ((1 : Int) ≤ (1 : Int) ∧ (1 : Int) ≤ (6 : Int)) (.need (List.length (Prod.fst (edoors (1 : Int) (List.set [((0 : Int), (0 : Int), ())] (Int.toNat (↑0 : Int)) ((0 : Int), (0 : Int), ())))) ≤ 1000) (.need (True) (.need (True) (.need ((1 : Int) ≤ few x0 ∧ few x0 ≤ (6 : Int)) (.cut (loopAt (bodyOf Try.prog 13) 10).1 (loopAt (bodyOf Try.prog 13) 10).2 (St.mk [(7, AV.ptr 7 []), (9, AV.val (Ty.int IntKind.i64) (0 : Int)), (46, AV.at_ 7 [Step.fld 0]), (47, AV.val (Ty.int IntKind.i64) (↑(List.length (Prod.fst (edoors (few x0) x1))) : Int)), (48, AV.val (Ty.int IntKind.i64) (0 : Int))] [(7, Ent.var (Ty.pair (Ty.slc true (Ty.pair (Ty.int IntKind.i64) (Ty.pair (Ty.int IntKind.i64) (Ty.pair (Ty.int IntKind.u8) (Ty.pair Ty.bool (Ty.pair Is Ty.unit)))))) (Ty.pair (Ty.slc true Word) Ty.unit)) (edoors (few x0) x1))])))))) := by kernel_rfl
def EEnterAll_s10 (v9 : Int) (v47 : Int) (v48 : Int) (o7_1 : List (Int × Int × Int × Bool × List Int × Unit)) (o7_2_1 : List (Int × Int × Int × Unit)) : St := St.mk [(7, AV.ptr 7 []), (9, AV.val (Ty.int IntKind.i64) v9), (46, AV.at_ 7 [Step.fld 0]), (47, AV.val (Ty.int IntKind.i64) v47), (48, AV.val (Ty.int IntKind.i64) v48)] [(7, Ent.var (Ty.pair (Ty.slc true (Ty.pair (Ty.int IntKind.i64) (Ty.pair (Ty.int IntKind.i64) (Ty.pair (Ty.int IntKind.u8) (Ty.pair Ty.bool (Ty.pair Is Ty.unit)))))) (Ty.pair (Ty.slc true Word) Ty.unit)) (o7_1, o7_2_1, ()))]
theorem EEnterAll_l10 (v9 : Int) (v47 : Int) (v48 : Int) (o7_1 : List (Int × Int × Int × Bool × List Int × Unit)) (o7_2_1 : List (Int × Int × Int × Unit)) : exec EEnterAll 1000 (.code (loopAt (bodyOf Try.prog 13) 10).1 :: .inLoop (loopAt (bodyOf Try.prog 13) 10).1 :: (loopAt (bodyOf Try.prog 13) 10).2) (EEnterAll_s10 v9 v47 v48 o7_1 o7_2_1) =
  cond (decide (v48 < v47)) (.need ((0 : Int) ≤ v48 ∧ v48 < (↑(List.length o7_1) : Int)) (.stuck "store: what")) (.cut (loopAt (bodyOf Try.prog 13) 17).1 (loopAt (bodyOf Try.prog 13) 17).2 (St.mk [(7, AV.ptr 7 []), (9, AV.val (Ty.int IntKind.i64) v9), (12, AV.val (Ty.int IntKind.i64) (0 : Int)), (58, AV.val (Ty.int IntKind.i64) (0 : Int))] [(7, Ent.var (Ty.pair (Ty.slc true (Ty.pair (Ty.int IntKind.i64) (Ty.pair (Ty.int IntKind.i64) (Ty.pair (Ty.int IntKind.u8) (Ty.pair Ty.bool (Ty.pair Is Ty.unit)))))) (Ty.pair (Ty.slc true Word) Ty.unit)) (o7_1, o7_2_1, ()))])) := by kernel_rfl
def EEnterAll_s17 (v9 : Int) (v12 : Int) (v58 : Int) (o7_1 : List (Int × Int × Int × Bool × List Int × Unit)) (o7_2_1 : List (Int × Int × Int × Unit)) : St := St.mk [(7, AV.ptr 7 []), (9, AV.val (Ty.int IntKind.i64) v9), (12, AV.val (Ty.int IntKind.i64) v12), (58, AV.val (Ty.int IntKind.i64) v58)] [(7, Ent.var (Ty.pair (Ty.slc true (Ty.pair (Ty.int IntKind.i64) (Ty.pair (Ty.int IntKind.i64) (Ty.pair (Ty.int IntKind.u8) (Ty.pair Ty.bool (Ty.pair Is Ty.unit)))))) (Ty.pair (Ty.slc true Word) Ty.unit)) (o7_1, o7_2_1, ()))]
theorem EEnterAll_l17 (v9 : Int) (v12 : Int) (v58 : Int) (o7_1 : List (Int × Int × Int × Bool × List Int × Unit)) (o7_2_1 : List (Int × Int × Int × Unit)) : exec EEnterAll 1000 (.code (loopAt (bodyOf Try.prog 13) 17).1 :: .inLoop (loopAt (bodyOf Try.prog 13) 17).1 :: (loopAt (bodyOf Try.prog 13) 17).2) (EEnterAll_s17 v9 v12 v58 o7_1 o7_2_1) =
  cond (decide (v58 < (1000 : Int))) (.need (List.length o7_1 ≤ 1000) (cond (decide ((0 : Int) < (↑(List.length o7_2_1) : Int))) (.need (True) (cond (decide (Prod.fst (Prod.snd (etake (o7_1, o7_2_1, ()) (0 : Int))) ≠ (0 : Int))) (.ret ((false, ()))) (.need (inK IntKind.i64 (v58 + (1 : Int))) (.cut (loopAt (bodyOf Try.prog 13) 17).1 (loopAt (bodyOf Try.prog 13) 17).2 (St.mk [(7, AV.ptr 7 []), (9, AV.val (Ty.int IntKind.i64) v9), (12, AV.val (Ty.int IntKind.i64) v12), (58, AV.val (Ty.int IntKind.i64) (v58 + (1 : Int)))] [(7, Ent.var (Ty.pair (Ty.slc true (Ty.pair (Ty.int IntKind.i64) (Ty.pair (Ty.int IntKind.i64) (Ty.pair (Ty.int IntKind.u8) (Ty.pair Ty.bool (Ty.pair Is Ty.unit)))))) (Ty.pair (Ty.slc true Word) Ty.unit)) (Prod.fst (etake (o7_1, o7_2_1, ()) (0 : Int))))]))))) (cond (decide ((↑(List.length (insideR (o7_1, o7_2_1, ()))) : Int) = (1 : Int))) (.cut (loopAt (bodyOf Try.prog 13) 26).1 (loopAt (bodyOf Try.prog 13) 26).2 (St.mk [(7, AV.ptr 7 []), (9, AV.val (Ty.int IntKind.i64) v9), (12, AV.val (Ty.int IntKind.i64) v12), (13, AV.at_ 1000013 []), (14, AV.ptr 14 []), (58, AV.val (Ty.int IntKind.i64) v58), (91, AV.at_ 7 [Step.fld 0]), (92, AV.val (Ty.int IntKind.i64) (↑(List.length o7_1) : Int)), (93, AV.val (Ty.int IntKind.i64) (0 : Int))] [(7, Ent.var (Ty.pair (Ty.slc true (Ty.pair (Ty.int IntKind.i64) (Ty.pair (Ty.int IntKind.i64) (Ty.pair (Ty.int IntKind.u8) (Ty.pair Ty.bool (Ty.pair Is Ty.unit)))))) (Ty.pair (Ty.slc true Word) Ty.unit)) (o7_1, o7_2_1, ())), (14, Ent.var (Ty.pair (Ty.slc true (Ty.pair (Ty.int IntKind.i64) (Ty.pair (Ty.int IntKind.i64) (Ty.pair (Ty.int IntKind.u8) (Ty.pair Ty.bool (Ty.pair Is Ty.unit)))))) (Ty.pair (Ty.slc true Word) Ty.unit)) ([], [], ())), (1000013, Ent.own Is (insideR (o7_1, o7_2_1, ())))])) (cond (decide ((↑(List.length (insideR (o7_1, o7_2_1, ()))) : Int) = (0 : Int))) (cond (decide (v12 = v9)) (.need (True) (.ret ((!List.any o7_1 wishD, ())))) (.ret ((false, ())))) (.ret ((false, ()))))))) (.ret ((false, ()))) := by kernel_rfl
def EEnterAll_s26 (v9 : Int) (v12 : Int) (v58 : Int) (v92 : Int) (v93 : Int) (o7_1 : List (Int × Int × Int × Bool × List Int × Unit)) (o7_2_1 : List (Int × Int × Int × Unit)) (o14_1 : List (Int × Int × Int × Bool × List Int × Unit)) (o14_2_1 : List (Int × Int × Int × Unit)) (o1000013 : List Int) : St := St.mk [(7, AV.ptr 7 []), (9, AV.val (Ty.int IntKind.i64) v9), (12, AV.val (Ty.int IntKind.i64) v12), (13, AV.at_ 1000013 []), (14, AV.ptr 14 []), (58, AV.val (Ty.int IntKind.i64) v58), (91, AV.at_ 7 [Step.fld 0]), (92, AV.val (Ty.int IntKind.i64) v92), (93, AV.val (Ty.int IntKind.i64) v93)] [(7, Ent.var (Ty.pair (Ty.slc true (Ty.pair (Ty.int IntKind.i64) (Ty.pair (Ty.int IntKind.i64) (Ty.pair (Ty.int IntKind.u8) (Ty.pair Ty.bool (Ty.pair Is Ty.unit)))))) (Ty.pair (Ty.slc true Word) Ty.unit)) (o7_1, o7_2_1, ())), (14, Ent.var (Ty.pair (Ty.slc true (Ty.pair (Ty.int IntKind.i64) (Ty.pair (Ty.int IntKind.i64) (Ty.pair (Ty.int IntKind.u8) (Ty.pair Ty.bool (Ty.pair Is Ty.unit)))))) (Ty.pair (Ty.slc true Word) Ty.unit)) (o14_1, o14_2_1, ())), (1000013, Ent.own Is o1000013)]
theorem EEnterAll_l26 (v9 : Int) (v12 : Int) (v58 : Int) (v92 : Int) (v93 : Int) (o7_1 : List (Int × Int × Int × Bool × List Int × Unit)) (o7_2_1 : List (Int × Int × Int × Unit)) (o14_1 : List (Int × Int × Int × Bool × List Int × Unit)) (o14_2_1 : List (Int × Int × Int × Unit)) (o1000013 : List Int) : exec EEnterAll 1000 (.code (loopAt (bodyOf Try.prog 13) 26).1 :: .inLoop (loopAt (bodyOf Try.prog 13) 26).1 :: (loopAt (bodyOf Try.prog 13) 26).2) (EEnterAll_s26 v9 v12 v58 v92 v93 o7_1 o7_2_1 o14_1 o14_2_1 o1000013) =
  cond (decide (v93 < v92)) (.need ((0 : Int) ≤ v93 ∧ v93 < (↑(List.length o7_1) : Int)) (.stuck "store: what")) (.need (inK IntKind.i64 (v12 + (1 : Int))) (.need ((0 : Int) ≤ (0 : Int) ∧ (0 : Int) < (↑(List.length o1000013) : Int)) (.need (True) (cond (decide (Prod.fst (Prod.snd (eleave (o7_1, o7_2_1, ()) (List.getD o1000013 (Int.toNat (0 : Int)) (0 : Int)))) ≠ (0 : Int))) (.ret ((false, ()))) (.need (inK IntKind.i64 (v58 + (1 : Int))) (.cut (loopAt (bodyOf Try.prog 13) 17).1 (loopAt (bodyOf Try.prog 13) 17).2 (St.mk [(7, AV.ptr 7 []), (9, AV.val (Ty.int IntKind.i64) v9), (12, AV.val (Ty.int IntKind.i64) (v12 + (1 : Int))), (58, AV.val (Ty.int IntKind.i64) (v58 + (1 : Int)))] [(7, Ent.var (Ty.pair (Ty.slc true (Ty.pair (Ty.int IntKind.i64) (Ty.pair (Ty.int IntKind.i64) (Ty.pair (Ty.int IntKind.u8) (Ty.pair Ty.bool (Ty.pair Is Ty.unit)))))) (Ty.pair (Ty.slc true Word) Ty.unit)) (Prod.fst (eleave (o7_1, o7_2_1, ()) (List.getD o1000013 (Int.toNat (0 : Int)) (0 : Int)))))]))))))) := by kernel_rfl
theorem cEnterOne_valid : cEnterOne.Valid Try.prog 10 := by
  refine Ctr.valid_of EEnterOne_ok rfl rfl Try.func10 (c := bodyOf Try.prog 10) rfl rfl FEnterOne_ok rfl ?_
  rintro ⟨(n : Int), (l : List StepD), ⟨⟩⟩ - ⟨-, ⟨hl, -⟩, -⟩
  have hl : l.length ≤ 9223372036854775807 := hl
  refine exec_sound (n := 1000) EEnterOne_ok FEnterOne_ok ?_
  refine holds_of_eq (EEnterOne_t n l) ?_
  have hf := few_in n
  have hJ : ∀ i, JE (few n).toNat (edoors (few n) (l.take i)) := fun i => doors_JE (l := l.take i) hf.1 hf.2
  simp only [holds_cond, Tree.holds, true_and, true_implies, decide_eq_true_eq, decide_eq_false_iff_not, Bool.not_eq_true', Bool.not_eq_false', Int.toNat_natCast, inK_i64, List.length_set, List.length_cons, List.length_nil]
  refine ⟨by decide, fun _ => ⟨by decide +kernel, fun _ => ?_⟩⟩
  refine Reach.loopI EEnterOne_ok FEnterOne_ok (fun i : Nat => EEnterOne_s6 (few n) l (l.length : Int) (i : Int)) (fun i => i ≤ l.length) (fun i => l.length - i) 1000 (fun _ => ⟨uniq_of rfl, uniq_of rfl⟩) ?_ 0 (by omega)
  rintro i k1 - ih
  have k1 : i ≤ l.length := k1
  refine holds_of_eq (EEnterOne_l6 ..) ?_
  have hc : cut2 0 ((i : Int) + 1) l = l.take (i + 1) := by rw [show ((i : Int) + 1) = ((i + 1 : Nat) : Int) by omega, cut2_take]
  have h9 := hJ (i + 1)
  have hfew := h9.few
  have hlen : (edoors (few n) (l.take (i + 1))).1.length ≤ 1000 := by have := h9.len; omega
  simp only [holds_cond, Tree.holds, true_and, true_implies, decide_eq_true_eq, decide_eq_false_iff_not, Bool.not_eq_true', Bool.not_eq_false', Int.toNat_natCast, inK_i64, List.length_set, List.length_cons, List.length_nil, hc]
  refine ⟨fun c => ⟨by omega, fun _ => ⟨by omega, fun _ => ⟨by omega, fun _ => ⟨fun e => absurd h9.ok e, fun _ => ⟨hlen, fun _ => ⟨fun e => absurd hfew (by omega), fun _ => ⟨by omega, fun _ => ih (i + 1) (by show i + 1 ≤ l.length; omega) (by omega)⟩⟩⟩⟩⟩⟩⟩, fun c => ?_⟩
  rfl
/-- the doors after so many words, one wish ahead of them -/
def fewS (N P : Nat) : Nat → EnterD
  | 0 => (ewish (enew N).1 P).1
  | j + 1 => (etake (fewS N P j) 0).1
def fewOk (N P : Nat) : Bool := decide ((ewish (enew N).1 P).2.1 = 0) && ((List.range (2 * (N - 1))).all fun j => decide (0 < (fewS N P j).2.1.length) && decide ((etake (fewS N P j) 0).2.1 = 0)) &&
  decide ((fewS N P (2 * (N - 1))).2.1.length = 0) && decide (insideR (fewS N P (2 * (N - 1))) = [(P : Int)]) && decide ((fewS N P (2 * (N - 1))).1.length ≤ 1000)
theorem fewOk_all : ((List.range 7).all fun N => (List.range N).all fun P => fewOk N P) = true := by decide +kernel
theorem fewOk_at {N P : Nat} (hN : N ≤ 6) (hP : P < N) : fewOk N P = true :=
  List.all_eq_true.1 (List.all_eq_true.1 fewOk_all N (List.mem_range.2 (by omega))) P (List.mem_range.2 hP)
theorem cEnterFew_valid : cEnterFew.Valid Try.prog 11 := by
  refine Ctr.valid_of EEnterFew_ok rfl rfl Try.func11 (c := bodyOf Try.prog 11) rfl rfl FEnterFew_ok rfl ?_
  rintro ⟨(n : Int), (m : Int), ⟨⟩⟩ - -
  refine exec_sound (n := 1000) EEnterFew_ok FEnterFew_ok ?_
  refine holds_of_eq (EEnterFew_t n m) ?_
  have hf := few_in n
  have hr := rest_in (a := m) (n := few n) (by omega)
  obtain ⟨N, hN⟩ : ∃ N : Nat, few n = N := ⟨(few n).toNat, by omega⟩
  obtain ⟨P, hP⟩ : ∃ P : Nat, rest m (few n) = P := ⟨(rest m (few n)).toNat, by omega⟩
  have hok := fewOk_at (N := N) (P := P) (by omega) (by omega)
  simp only [fewOk, Bool.and_eq_true, decide_eq_true_eq, List.all_eq_true, List.mem_range] at hok
  obtain ⟨⟨⟨⟨q1, q2⟩, q3⟩, q4⟩, q5⟩ := hok
  simp only [holds_cond, Tree.holds, true_and, true_implies, decide_eq_true_eq, decide_eq_false_iff_not, Bool.not_eq_true', Bool.not_eq_false', Int.toNat_natCast, inK_i64, List.length_set, List.length_cons, List.length_nil]
  rw [hN] at hP hf hr ⊢
  rw [hP] at hr ⊢
  refine ⟨by decide, fun _ => ⟨fun e => absurd (by rw [enew_ok hf.1 hf.2] : (enew (N : Int)).2.1 = 0) e, fun _ => ⟨by omega, fun _ => ⟨fun e => absurd q1 e, fun _ => ?_⟩⟩⟩⟩
  refine Reach.loopI EEnterFew_ok FEnterFew_ok (fun i : Nat => EEnterFew_s13 (N : Int) (P : Int) (i : Int) (fewS N P i).1 (fewS N P i).2.1) (fun i => i ≤ 2 * (N - 1)) (fun i => 2 * (N - 1) - i) 1000 (fun _ => ⟨uniq_of rfl, uniq_of rfl⟩) ?_ 0 (by omega)
  rintro i k1 - ih
  have k1 : i ≤ 2 * (N - 1) := k1
  refine holds_of_eq (EEnterFew_l13 ..) ?_
  have next : i < 2 * (N - 1) → _ := fun hi => ih (i + 1) (by show i + 1 ≤ 2 * (N - 1); omega) (by omega)
  simp only [holds_cond, Tree.holds, true_and, true_implies, decide_eq_true_eq, decide_eq_false_iff_not, Bool.not_eq_true', Bool.not_eq_false', Int.toNat_natCast, inK_i64, List.length_set, List.length_cons, List.length_nil]
  refine ⟨fun c => ?_, fun c => ?_⟩
  · have hi : i < 2 * (N - 1) := by
      refine Decidable.byContradiction fun h => ?_
      have e : i = 2 * (N - 1) := by omega
      rw [e, q3] at c; exact absurd c (by decide)
    exact ⟨fun e => absurd (q2 i hi).2 e, fun _ => ⟨by omega, fun _ => ⟨fun e => by omega, fun _ => ⟨by omega, fun _ => next hi⟩⟩⟩⟩
  · have hi : i = 2 * (N - 1) := by
      refine Decidable.byContradiction fun h => ?_
      have := (q2 i (by omega)).1
      omega
    subst hi
    refine ⟨by omega, fun _ => ⟨by omega, fun _ => ⟨fun _ => ⟨q5, fun _ => ?_⟩, fun e => absurd (by omega) e⟩⟩⟩
    exact yesd q4
end Go.Proofs.Ytbcdpeogfghgcaa
