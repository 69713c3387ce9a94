/- EnterAll: the walk. -/
import Derived.Test.YtbcdpeogfghgcaaEnterS
namespace Go.Proofs.Ytbcdpeogfghgcaa
open Go.Ex
set_option maxRecDepth 100000
def wishD (d : DoorD) : Bool := decide (0 < d.2.1)
def cwishD : Ctr := { ps := [.v Door], rs := [.bool], pre := fun _ => True, fn := fun x => (wishD x.1, ()), out := fun _ => () }
noncomputable def EwishD : Env := { P := Try.prog, tt := tt, ctr := [], res := [Go.ResultVar.tmp 2], rs := [Ty.bool], ps := [PK.v (Ty.pair (Ty.int IntKind.i64) (Ty.pair (Ty.int IntKind.i64) (Ty.pair (Ty.int IntKind.u8) (Ty.pair Ty.bool (Ty.pair (Ty.slc false (Ty.int IntKind.i64)) Ty.unit)))))], cuts := [], nt := 6 }
theorem EwishD_ok : EnvOk EwishD := envOk tt_ok trivial
theorem FwishD_ok : FnOk EwishD Try.f49 := ⟨rfl, rfl⟩
theorem EwishD_t (x0_1 : Int) (x0_2_1 : Int) (x0_2_2_1 : Int) (x0_2_2_2_1 : Bool) (x0_2_2_2_2_1 : List Int) : exec EwishD 1000 [.code (bodyOf Try.prog 49)] (initSt cwishD.ps (((x0_1, x0_2_1, x0_2_2_1, x0_2_2_2_1, x0_2_2_2_2_1, ()), ()))) =
  .ret ((decide ((0 : Int) < x0_2_1), ())) := by kernel_rfl
theorem cwishD_valid : cwishD.Valid Try.prog 49 := by
  refine Ctr.valid_of EwishD_ok rfl rfl Try.func49 (c := bodyOf Try.prog 49) rfl rfl FwishD_ok rfl ?_
  rintro ⟨⟨(c : Int), (w : Int), (y : Int), (b : Bool), (l : List Int), ⟨⟩⟩, ⟨⟩⟩ - -
  refine exec_sound (n := 1000) EwishD_ok FwishD_ok ?_
  refine holds_of_eq (EwishD_t c w y b l) ?_
  rfl
def cidxW : Ctr := { ps := [.v (.slc false Door), .clo 49 []], rs := [I64], pre := fun x => True, fn := fun x => (idxOf (wishD) x.1, ()), out := fun _ => () }
noncomputable def EidxW : Env := { P := Try.prog, tt := tt, ctr := [(49, cwishD)], res := [Go.ResultVar.tmp 4], rs := [Ty.int IntKind.i64], ps := [PK.v (Ty.slc false (Ty.pair (Ty.int IntKind.i64) (Ty.pair (Ty.int IntKind.i64) (Ty.pair (Ty.int IntKind.u8) (Ty.pair Ty.bool (Ty.pair (Ty.slc false (Ty.int IntKind.i64)) Ty.unit)))))), PK.clo 49 []], cuts := [(2, [(0, none), (1, none), (7, none), (8, none)])], nt := 19 }
theorem EidxW_ok : EnvOk EidxW := envOk tt_ok ⟨cwishD_valid, trivial⟩
theorem FidxW_ok : FnOk EidxW Try.f101 := ⟨rfl, rfl⟩
theorem EidxW_t (x0 : List (Int × Int × Int × Bool × List Int × Unit)) : exec EidxW 1000 [.code (bodyOf Try.prog 101)] (initSt cidxW.ps ((x0, (), ()))) =
  .cut (loopAt (bodyOf Try.prog 101) 2).1 (loopAt (bodyOf Try.prog 101) 2).2 (St.mk [(0, AV.val (Ty.slc false (Ty.pair (Ty.int IntKind.i64) (Ty.pair (Ty.int IntKind.i64) (Ty.pair (Ty.int IntKind.u8) (Ty.pair Ty.bool (Ty.pair (Ty.slc false (Ty.int IntKind.i64)) Ty.unit)))))) x0), (1, AV.clo 49 AV.nil), (7, AV.val (Ty.int IntKind.i64) (↑(List.length x0) : Int)), (8, AV.val (Ty.int IntKind.i64) (0 : Int))] []) := by kernel_rfl
def EidxW_s2 (v0 : List (Int × Int × Int × Bool × List Int × Unit)) (v7 : Int) (v8 : Int) : St := St.mk [(0, AV.val (Ty.slc false (Ty.pair (Ty.int IntKind.i64) (Ty.pair (Ty.int IntKind.i64) (Ty.pair (Ty.int IntKind.u8) (Ty.pair Ty.bool (Ty.pair (Ty.slc false (Ty.int IntKind.i64)) Ty.unit)))))) v0), (1, AV.clo 49 AV.nil), (7, AV.val (Ty.int IntKind.i64) v7), (8, AV.val (Ty.int IntKind.i64) v8)] []
theorem EidxW_l2 (v0 : List (Int × Int × Int × Bool × List Int × Unit)) (v7 : Int) (v8 : Int) : exec EidxW 1000 (.code (loopAt (bodyOf Try.prog 101) 2).1 :: .inLoop (loopAt (bodyOf Try.prog 101) 2).1 :: (loopAt (bodyOf Try.prog 101) 2).2) (EidxW_s2 v0 v7 v8) =
  cond (decide (v8 < v7)) (.need ((0 : Int) ≤ v8 ∧ v8 < (↑(List.length v0) : Int)) (.need (True) (cond (wishD (List.getD v0 (Int.toNat v8) ((0 : Int), (0 : Int), (0 : Int), false, [], ()))) (.ret ((v8, ()))) (.need (inK IntKind.i64 (v8 + (1 : Int))) (.cut (loopAt (bodyOf Try.prog 101) 2).1 (loopAt (bodyOf Try.prog 101) 2).2 (St.mk [(0, AV.val (Ty.slc false (Ty.pair (Ty.int IntKind.i64) (Ty.pair (Ty.int IntKind.i64) (Ty.pair (Ty.int IntKind.u8) (Ty.pair Ty.bool (Ty.pair (Ty.slc false (Ty.int IntKind.i64)) Ty.unit)))))) v0), (1, AV.clo 49 AV.nil), (7, AV.val (Ty.int IntKind.i64) v7), (8, AV.val (Ty.int IntKind.i64) (v8 + (1 : Int)))] [])))))) (.ret (((-1 : Int), ()))) := by kernel_rfl
theorem cidxW_valid : cidxW.Valid Try.prog 101 := by
  refine Ctr.valid_of EidxW_ok rfl rfl Try.func101 (c := bodyOf Try.prog 101) rfl rfl FidxW_ok rfl ?_
  rintro ⟨(l : List (DoorD)), ⟨⟩, ⟨⟩⟩ - ⟨⟨hl, -⟩, -⟩
  have hl : l.length ≤ 9223372036854775807 := hl
  refine exec_sound (n := 1000) EidxW_ok FidxW_ok ?_
  refine holds_of_eq (EidxW_t l ) ?_
  refine Reach.loopI EidxW_ok FidxW_ok (fun i : Nat => EidxW_s2 l  (l.length : Int) (i : Int)) (fun i => i ≤ l.length ∧ idxOf (wishD) l = idxGo (wishD) (l.drop i) i)
    (fun i => l.length - i) 1000 (fun _ => ⟨uniq_of rfl, uniq_of rfl⟩) ?_ 0 ⟨by omega, rfl⟩
  rintro i ⟨k1, k2⟩ - ih
  refine holds_of_eq (EidxW_l2 ..) ?_
  simp only [holds_cond, Tree.holds, true_and, true_implies, decide_eq_true_eq, decide_eq_false_iff_not, Bool.not_eq_true', Bool.not_eq_false', Int.toNat_natCast, inK_i64, List.length_set, List.length_cons, List.length_nil]
  refine ⟨fun h => ?_, fun h => ?_⟩
  · rw [drop_getD (show i < l.length by omega) (0, 0, 0, false, [], ()), idxGo] at k2
    refine ⟨by omega, fun _ => ⟨fun c => ?_, fun c => ⟨by omega, fun _ => ih (i + 1) ⟨by omega, ?_⟩ (by omega)⟩⟩⟩
    · show (((i : Int), ()) : Int × Unit) = (idxOf (wishD) l, ())
      rw [k2, if_pos c]
    · rw [k2, if_neg (fun h9 => Bool.noConfusion (Eq.trans (Eq.symm h9) c))]
  · rw [List.drop_eq_nil_of_le (by omega)] at k2
    show (((-1 : Int), ()) : Int × Unit) = (idxOf (wishD) l, ())
    rw [k2]; rfl
def ccontW : Ctr := { ps := [.v (.slc false Door), .clo 49 []], rs := [.bool], pre := fun x => True, fn := fun x => (List.any (α := DoorD) x.1 (wishD), ()), out := fun _ => () }
noncomputable def EcontW : Env := { P := Try.prog, tt := tt, ctr := [(101, cidxW)], res := [Go.ResultVar.tmp 4], rs := [Ty.bool], ps := [PK.v (Ty.slc false (Ty.pair (Ty.int IntKind.i64) (Ty.pair (Ty.int IntKind.i64) (Ty.pair (Ty.int IntKind.u8) (Ty.pair Ty.bool (Ty.pair (Ty.slc false (Ty.int IntKind.i64)) Ty.unit)))))), PK.clo 49 []], cuts := [], nt := 9 }
theorem EcontW_ok : EnvOk EcontW := envOk tt_ok ⟨cidxW_valid, trivial⟩
theorem FcontW_ok : FnOk EcontW Try.f48 := ⟨rfl, rfl⟩
theorem EcontW_t (x0 : List (Int × Int × Int × Bool × List Int × Unit)) : exec EcontW 1000 [.code (bodyOf Try.prog 48)] (initSt ccontW.ps ((x0, (), ()))) =
  .need (True) (.ret ((decide ((0 : Int) ≤ idxOf wishD x0), ()))) := by kernel_rfl
theorem ccontW_valid : ccontW.Valid Try.prog 48 := by
  refine Ctr.valid_of EcontW_ok rfl rfl Try.func48 (c := bodyOf Try.prog 48) rfl rfl FcontW_ok rfl ?_
  rintro ⟨(l : List (DoorD)), ⟨⟩, ⟨⟩⟩ - -
  refine exec_sound (n := 1000) EcontW_ok FcontW_ok ?_
  refine holds_of_eq (EcontW_t l ) ?_
  refine ⟨trivial, fun _ => ?_⟩
  show ((decide (0 ≤ idxOf (wishD) l), ()) : Bool × Unit) = (l.any (wishD), ())
  rw [idx_any]
def cEnterAll : Ctr := { ps := [.v I64, .v (.slc false PairT)], rs := [.bool], pre := fun _ => True, fn := fun _ => (true, ()), out := fun _ => () }
noncomputable def EEnterAll : Env := { P := Try.prog, tt := tt, ctr := [(40, cedoors), (31, cfew), (41, cinside), (45, cetake), (47, celeave), (30, ceqI), (48, ccontW)], res := [Go.ResultVar.tmp 4], rs := [Ty.bool], ps := [PK.v (Ty.int IntKind.i64), PK.v (Ty.slc false PairT)], cuts := [(10, [(7, none), (9, none), (46, none), (47, none), (48, none)]), (17, [(7, none), (9, none), (12, none), (58, none)]), (26, [(7, none), (9, none), (12, none), (13, some Is), (14, none), (58, none), (91, none), (92, none), (93, none)])], nt := 142 }
theorem EEnterAll_ok : EnvOk EEnterAll := envOk tt_ok ⟨cedoors_valid, cfew_valid, cinside_valid, cetake_valid, celeave_valid, ceqI_valid, ccontW_valid, trivial⟩
theorem FEnterAll_ok : FnOk EEnterAll Try.f13 := ⟨rfl, rfl⟩
theorem EEnterAll_t (x0 : Int) (x1 : List (Int × Int × Unit)) : exec EEnterAll 1000 [.code (bodyOf Try.prog 13)] (initSt cEnterAll.ps ((x0, x1, ()))) =
  .need ((1 : Int) ≤ (1 : Int) ∧ (1 : Int) ≤ (6 : Int)) (.need (List.length (Prod.fst (edoors (1 : Int) (List.set [((0 : Int), (0 : Int), ())] (Int.toNat (↑0 : Int)) ((0 : Int), (0 : Int), ())))) ≤ 1000) (.need (True) (.need (True) (.need ((1 : Int) ≤ few x0 ∧ few x0 ≤ (6 : Int)) (.cut (loopAt (bodyOf Try.prog 13) 10).1 (loopAt (bodyOf Try.prog 13) 10).2 (St.mk [(7, AV.ptr 7 []), (9, AV.val (Ty.int IntKind.i64) (0 : Int)), (46, AV.at_ 7 [Step.fld 0]), (47, AV.val (Ty.int IntKind.i64) (↑(List.length (Prod.fst (edoors (few x0) x1))) : Int)), (48, AV.val (Ty.int IntKind.i64) (0 : Int))] [(7, Ent.var (Ty.pair (Ty.slc true (Ty.pair (Ty.int IntKind.i64) (Ty.pair (Ty.int IntKind.i64) (Ty.pair (Ty.int IntKind.u8) (Ty.pair Ty.bool (Ty.pair Is Ty.unit)))))) (Ty.pair (Ty.slc true Word) Ty.unit)) (edoors (few x0) x1))])))))) := by kernel_rfl
def EEnterAll_s10 (v9 : Int) (v47 : Int) (v48 : Int) (o7_1 : List (Int × Int × Int × Bool × List Int × Unit)) (o7_2_1 : List (Int × Int × Int × Unit)) : St := St.mk [(7, AV.ptr 7 []), (9, AV.val (Ty.int IntKind.i64) v9), (46, AV.at_ 7 [Step.fld 0]), (47, AV.val (Ty.int IntKind.i64) v47), (48, AV.val (Ty.int IntKind.i64) v48)] [(7, Ent.var (Ty.pair (Ty.slc true (Ty.pair (Ty.int IntKind.i64) (Ty.pair (Ty.int IntKind.i64) (Ty.pair (Ty.int IntKind.u8) (Ty.pair Ty.bool (Ty.pair Is Ty.unit)))))) (Ty.pair (Ty.slc true Word) Ty.unit)) (o7_1, o7_2_1, ()))]
theorem EEnterAll_l10 (v9 : Int) (v47 : Int) (v48 : Int) (o7_1 : List (Int × Int × Int × Bool × List Int × Unit)) (o7_2_1 : List (Int × Int × Int × Unit)) : exec EEnterAll 1000 (.code (loopAt (bodyOf Try.prog 13) 10).1 :: .inLoop (loopAt (bodyOf Try.prog 13) 10).1 :: (loopAt (bodyOf Try.prog 13) 10).2) (EEnterAll_s10 v9 v47 v48 o7_1 o7_2_1) =
  cond (decide (v48 < v47)) (.need ((0 : Int) ≤ v48 ∧ v48 < (↑(List.length o7_1) : Int)) (cond (decide ((0 : Int) < Prod.fst (Prod.snd (List.getD o7_1 (Int.toNat v48) ((0 : Int), (0 : Int), (0 : Int), false, [], ()))))) (.need (inK IntKind.i64 (v9 + (1 : Int))) (.need (inK IntKind.i64 (v48 + (1 : Int))) (.cut (loopAt (bodyOf Try.prog 13) 10).1 (loopAt (bodyOf Try.prog 13) 10).2 (St.mk [(7, AV.ptr 7 []), (9, AV.val (Ty.int IntKind.i64) (v9 + (1 : Int))), (46, AV.at_ 7 [Step.fld 0]), (47, AV.val (Ty.int IntKind.i64) v47), (48, AV.val (Ty.int IntKind.i64) (v48 + (1 : Int)))] [(7, Ent.var (Ty.pair (Ty.slc true (Ty.pair (Ty.int IntKind.i64) (Ty.pair (Ty.int IntKind.i64) (Ty.pair (Ty.int IntKind.u8) (Ty.pair Ty.bool (Ty.pair Is Ty.unit)))))) (Ty.pair (Ty.slc true Word) Ty.unit)) (o7_1, o7_2_1, ()))])))) (.need (inK IntKind.i64 (v48 + (1 : Int))) (.cut (loopAt (bodyOf Try.prog 13) 10).1 (loopAt (bodyOf Try.prog 13) 10).2 (St.mk [(7, AV.ptr 7 []), (9, AV.val (Ty.int IntKind.i64) v9), (46, AV.at_ 7 [Step.fld 0]), (47, AV.val (Ty.int IntKind.i64) v47), (48, AV.val (Ty.int IntKind.i64) (v48 + (1 : Int)))] [(7, Ent.var (Ty.pair (Ty.slc true (Ty.pair (Ty.int IntKind.i64) (Ty.pair (Ty.int IntKind.i64) (Ty.pair (Ty.int IntKind.u8) (Ty.pair Ty.bool (Ty.pair Is Ty.unit)))))) (Ty.pair (Ty.slc true Word) Ty.unit)) (o7_1, o7_2_1, ()))]))))) (.cut (loopAt (bodyOf Try.prog 13) 17).1 (loopAt (bodyOf Try.prog 13) 17).2 (St.mk [(7, AV.ptr 7 []), (9, AV.val (Ty.int IntKind.i64) v9), (12, AV.val (Ty.int IntKind.i64) (0 : Int)), (58, AV.val (Ty.int IntKind.i64) (0 : Int))] [(7, Ent.var (Ty.pair (Ty.slc true (Ty.pair (Ty.int IntKind.i64) (Ty.pair (Ty.int IntKind.i64) (Ty.pair (Ty.int IntKind.u8) (Ty.pair Ty.bool (Ty.pair Is Ty.unit)))))) (Ty.pair (Ty.slc true Word) Ty.unit)) (o7_1, o7_2_1, ()))])) := by kernel_rfl
def EEnterAll_s17 (v9 : Int) (v12 : Int) (v58 : Int) (o7_1 : List (Int × Int × Int × Bool × List Int × Unit)) (o7_2_1 : List (Int × Int × Int × Unit)) : St := St.mk [(7, AV.ptr 7 []), (9, AV.val (Ty.int IntKind.i64) v9), (12, AV.val (Ty.int IntKind.i64) v12), (58, AV.val (Ty.int IntKind.i64) v58)] [(7, Ent.var (Ty.pair (Ty.slc true (Ty.pair (Ty.int IntKind.i64) (Ty.pair (Ty.int IntKind.i64) (Ty.pair (Ty.int IntKind.u8) (Ty.pair Ty.bool (Ty.pair Is Ty.unit)))))) (Ty.pair (Ty.slc true Word) Ty.unit)) (o7_1, o7_2_1, ()))]
theorem EEnterAll_l17 (v9 : Int) (v12 : Int) (v58 : Int) (o7_1 : List (Int × Int × Int × Bool × List Int × Unit)) (o7_2_1 : List (Int × Int × Int × Unit)) : exec EEnterAll 1000 (.code (loopAt (bodyOf Try.prog 13) 17).1 :: .inLoop (loopAt (bodyOf Try.prog 13) 17).1 :: (loopAt (bodyOf Try.prog 13) 17).2) (EEnterAll_s17 v9 v12 v58 o7_1 o7_2_1) =
  cond (decide (v58 < (1000 : Int))) (.need (List.length o7_1 ≤ 1000) (cond (decide ((0 : Int) < (↑(List.length o7_2_1) : Int))) (.need (True) (cond (decide (Prod.fst (Prod.snd (etake (o7_1, o7_2_1, ()) (0 : Int))) ≠ (0 : Int))) (.ret ((false, ()))) (.need (inK IntKind.i64 (v58 + (1 : Int))) (.cut (loopAt (bodyOf Try.prog 13) 17).1 (loopAt (bodyOf Try.prog 13) 17).2 (St.mk [(7, AV.ptr 7 []), (9, AV.val (Ty.int IntKind.i64) v9), (12, AV.val (Ty.int IntKind.i64) v12), (58, AV.val (Ty.int IntKind.i64) (v58 + (1 : Int)))] [(7, Ent.var (Ty.pair (Ty.slc true (Ty.pair (Ty.int IntKind.i64) (Ty.pair (Ty.int IntKind.i64) (Ty.pair (Ty.int IntKind.u8) (Ty.pair Ty.bool (Ty.pair Is Ty.unit)))))) (Ty.pair (Ty.slc true Word) Ty.unit)) (Prod.fst (etake (o7_1, o7_2_1, ()) (0 : Int))))]))))) (cond (decide ((↑(List.length (insideR (o7_1, o7_2_1, ()))) : Int) = (1 : Int))) (.cut (loopAt (bodyOf Try.prog 13) 26).1 (loopAt (bodyOf Try.prog 13) 26).2 (St.mk [(7, AV.ptr 7 []), (9, AV.val (Ty.int IntKind.i64) v9), (12, AV.val (Ty.int IntKind.i64) v12), (13, AV.at_ 1000013 []), (14, AV.ptr 14 []), (58, AV.val (Ty.int IntKind.i64) v58), (91, AV.at_ 7 [Step.fld 0]), (92, AV.val (Ty.int IntKind.i64) (↑(List.length o7_1) : Int)), (93, AV.val (Ty.int IntKind.i64) (0 : Int))] [(7, Ent.var (Ty.pair (Ty.slc true (Ty.pair (Ty.int IntKind.i64) (Ty.pair (Ty.int IntKind.i64) (Ty.pair (Ty.int IntKind.u8) (Ty.pair Ty.bool (Ty.pair Is Ty.unit)))))) (Ty.pair (Ty.slc true Word) Ty.unit)) (o7_1, o7_2_1, ())), (14, Ent.var (Ty.pair (Ty.slc true (Ty.pair (Ty.int IntKind.i64) (Ty.pair (Ty.int IntKind.i64) (Ty.pair (Ty.int IntKind.u8) (Ty.pair Ty.bool (Ty.pair Is Ty.unit)))))) (Ty.pair (Ty.slc true Word) Ty.unit)) ([], [], ())), (1000013, Ent.own Is (insideR (o7_1, o7_2_1, ())))])) (cond (decide ((↑(List.length (insideR (o7_1, o7_2_1, ()))) : Int) = (0 : Int))) (cond (decide (v12 = v9)) (.need (True) (.ret ((!List.any o7_1 wishD, ())))) (.ret ((false, ())))) (.ret ((false, ()))))))) (.ret ((false, ()))) := by kernel_rfl
def EEnterAll_s26 (v9 : Int) (v12 : Int) (v58 : Int) (v92 : Int) (v93 : Int) (o7_1 : List (Int × Int × Int × Bool × List Int × Unit)) (o7_2_1 : List (Int × Int × Int × Unit)) (o14_1 : List (Int × Int × Int × Bool × List Int × Unit)) (o14_2_1 : List (Int × Int × Int × Unit)) (o1000013 : List Int) : St := St.mk [(7, AV.ptr 7 []), (9, AV.val (Ty.int IntKind.i64) v9), (12, AV.val (Ty.int IntKind.i64) v12), (13, AV.at_ 1000013 []), (14, AV.ptr 14 []), (58, AV.val (Ty.int IntKind.i64) v58), (91, AV.at_ 7 [Step.fld 0]), (92, AV.val (Ty.int IntKind.i64) v92), (93, AV.val (Ty.int IntKind.i64) v93)] [(7, Ent.var (Ty.pair (Ty.slc true (Ty.pair (Ty.int IntKind.i64) (Ty.pair (Ty.int IntKind.i64) (Ty.pair (Ty.int IntKind.u8) (Ty.pair Ty.bool (Ty.pair Is Ty.unit)))))) (Ty.pair (Ty.slc true Word) Ty.unit)) (o7_1, o7_2_1, ())), (14, Ent.var (Ty.pair (Ty.slc true (Ty.pair (Ty.int IntKind.i64) (Ty.pair (Ty.int IntKind.i64) (Ty.pair (Ty.int IntKind.u8) (Ty.pair Ty.bool (Ty.pair Is Ty.unit)))))) (Ty.pair (Ty.slc true Word) Ty.unit)) (o14_1, o14_2_1, ())), (1000013, Ent.own Is o1000013)]
theorem EEnterAll_l26 (v9 : Int) (v12 : Int) (v58 : Int) (v92 : Int) (v93 : Int) (o7_1 : List (Int × Int × Int × Bool × List Int × Unit)) (o7_2_1 : List (Int × Int × Int × Unit)) (o14_1 : List (Int × Int × Int × Bool × List Int × Unit)) (o14_2_1 : List (Int × Int × Int × Unit)) (o1000013 : List Int) : exec EEnterAll 1000 (.code (loopAt (bodyOf Try.prog 13) 26).1 :: .inLoop (loopAt (bodyOf Try.prog 13) 26).1 :: (loopAt (bodyOf Try.prog 13) 26).2) (EEnterAll_s26 v9 v12 v58 v92 v93 o7_1 o7_2_1 o14_1 o14_2_1 o1000013) =
  cond (decide (v93 < v92)) (.need ((0 : Int) ≤ v93 ∧ v93 < (↑(List.length o7_1) : Int)) (.need ((0 : Int) ≤ (0 : Int) ∧ (0 : Int) < (↑(List.length o1000013) : Int)) (.need ((0 : Int) ≤ List.getD o1000013 (Int.toNat (0 : Int)) (0 : Int) ∧ List.getD o1000013 (Int.toNat (0 : Int)) (0 : Int) < (↑(List.length o7_1) : Int)) (cond (decide ((0 : Int) < Prod.fst (Prod.snd (List.getD o7_1 (Int.toNat v93) ((0 : Int), (0 : Int), (0 : Int), false, [], ()))))) (cond (decide (Prod.fst (Prod.snd (List.getD o7_1 (Int.toNat v93) ((0 : Int), (0 : Int), (0 : Int), false, [], ()))) < Prod.fst (Prod.snd (List.getD o7_1 (Int.toNat (List.getD o1000013 (Int.toNat (0 : Int)) (0 : Int))) ((0 : Int), (0 : Int), (0 : Int), false, [], ()))))) (.ret ((false, ()))) (cond (decide (Prod.fst (Prod.snd (List.getD o7_1 (Int.toNat v93) ((0 : Int), (0 : Int), (0 : Int), false, [], ()))) = Prod.fst (Prod.snd (List.getD o7_1 (Int.toNat (List.getD o1000013 (Int.toNat (0 : Int)) (0 : Int))) ((0 : Int), (0 : Int), (0 : Int), false, [], ()))))) (.need ((0 : Int) ≤ (0 : Int) ∧ (0 : Int) < (↑(List.length o1000013) : Int)) (cond (decide (v93 < List.getD o1000013 (Int.toNat (0 : Int)) (0 : Int))) (.ret ((false, ()))) (.need (inK IntKind.i64 (v93 + (1 : Int))) (.cut (loopAt (bodyOf Try.prog 13) 26).1 (loopAt (bodyOf Try.prog 13) 26).2 (St.mk [(7, AV.ptr 7 []), (9, AV.val (Ty.int IntKind.i64) v9), (12, AV.val (Ty.int IntKind.i64) v12), (13, AV.at_ 1000013 []), (14, AV.ptr 14 []), (58, AV.val (Ty.int IntKind.i64) v58), (91, AV.at_ 7 [Step.fld 0]), (92, AV.val (Ty.int IntKind.i64) v92), (93, AV.val (Ty.int IntKind.i64) (v93 + (1 : Int)))] [(7, Ent.var (Ty.pair (Ty.slc true (Ty.pair (Ty.int IntKind.i64) (Ty.pair (Ty.int IntKind.i64) (Ty.pair (Ty.int IntKind.u8) (Ty.pair Ty.bool (Ty.pair Is Ty.unit)))))) (Ty.pair (Ty.slc true Word) Ty.unit)) (o7_1, o7_2_1, ())), (14, Ent.var (Ty.pair (Ty.slc true (Ty.pair (Ty.int IntKind.i64) (Ty.pair (Ty.int IntKind.i64) (Ty.pair (Ty.int IntKind.u8) (Ty.pair Ty.bool (Ty.pair Is Ty.unit)))))) (Ty.pair (Ty.slc true Word) Ty.unit)) (o14_1, o14_2_1, ())), (1000013, Ent.own Is o1000013)]))))) (.need (inK IntKind.i64 (v93 + (1 : Int))) (.cut (loopAt (bodyOf Try.prog 13) 26).1 (loopAt (bodyOf Try.prog 13) 26).2 (St.mk [(7, AV.ptr 7 []), (9, AV.val (Ty.int IntKind.i64) v9), (12, AV.val (Ty.int IntKind.i64) v12), (13, AV.at_ 1000013 []), (14, AV.ptr 14 []), (58, AV.val (Ty.int IntKind.i64) v58), (91, AV.at_ 7 [Step.fld 0]), (92, AV.val (Ty.int IntKind.i64) v92), (93, AV.val (Ty.int IntKind.i64) (v93 + (1 : Int)))] [(7, Ent.var (Ty.pair (Ty.slc true (Ty.pair (Ty.int IntKind.i64) (Ty.pair (Ty.int IntKind.i64) (Ty.pair (Ty.int IntKind.u8) (Ty.pair Ty.bool (Ty.pair Is Ty.unit)))))) (Ty.pair (Ty.slc true Word) Ty.unit)) (o7_1, o7_2_1, ())), (14, Ent.var (Ty.pair (Ty.slc true (Ty.pair (Ty.int IntKind.i64) (Ty.pair (Ty.int IntKind.i64) (Ty.pair (Ty.int IntKind.u8) (Ty.pair Ty.bool (Ty.pair Is Ty.unit)))))) (Ty.pair (Ty.slc true Word) Ty.unit)) (o14_1, o14_2_1, ())), (1000013, Ent.own Is o1000013)]))))) (.need (inK IntKind.i64 (v93 + (1 : Int))) (.cut (loopAt (bodyOf Try.prog 13) 26).1 (loopAt (bodyOf Try.prog 13) 26).2 (St.mk [(7, AV.ptr 7 []), (9, AV.val (Ty.int IntKind.i64) v9), (12, AV.val (Ty.int IntKind.i64) v12), (13, AV.at_ 1000013 []), (14, AV.ptr 14 []), (58, AV.val (Ty.int IntKind.i64) v58), (91, AV.at_ 7 [Step.fld 0]), (92, AV.val (Ty.int IntKind.i64) v92), (93, AV.val (Ty.int IntKind.i64) (v93 + (1 : Int)))] [(7, Ent.var (Ty.pair (Ty.slc true (Ty.pair (Ty.int IntKind.i64) (Ty.pair (Ty.int IntKind.i64) (Ty.pair (Ty.int IntKind.u8) (Ty.pair Ty.bool (Ty.pair Is Ty.unit)))))) (Ty.pair (Ty.slc true Word) Ty.unit)) (o7_1, o7_2_1, ())), (14, Ent.var (Ty.pair (Ty.slc true (Ty.pair (Ty.int IntKind.i64) (Ty.pair (Ty.int IntKind.i64) (Ty.pair (Ty.int IntKind.u8) (Ty.pair Ty.bool (Ty.pair Is Ty.unit)))))) (Ty.pair (Ty.slc true Word) Ty.unit)) (o14_1, o14_2_1, ())), (1000013, Ent.own Is o1000013)]))))))) (.need (inK IntKind.i64 (v12 + (1 : Int))) (.need ((0 : Int) ≤ (0 : Int) ∧ (0 : Int) < (↑(List.length o1000013) : Int)) (.need (True) (cond (decide (Prod.fst (Prod.snd (eleave (o7_1, o7_2_1, ()) (List.getD o1000013 (Int.toNat (0 : Int)) (0 : Int)))) ≠ (0 : Int))) (.ret ((false, ()))) (.need (inK IntKind.i64 (v58 + (1 : Int))) (.cut (loopAt (bodyOf Try.prog 13) 17).1 (loopAt (bodyOf Try.prog 13) 17).2 (St.mk [(7, AV.ptr 7 []), (9, AV.val (Ty.int IntKind.i64) v9), (12, AV.val (Ty.int IntKind.i64) (v12 + (1 : Int))), (58, AV.val (Ty.int IntKind.i64) (v58 + (1 : Int)))] [(7, Ent.var (Ty.pair (Ty.slc true (Ty.pair (Ty.int IntKind.i64) (Ty.pair (Ty.int IntKind.i64) (Ty.pair (Ty.int IntKind.u8) (Ty.pair Ty.bool (Ty.pair Is Ty.unit)))))) (Ty.pair (Ty.slc true Word) Ty.unit)) (Prod.fst (eleave (o7_1, o7_2_1, ()) (List.getD o1000013 (Int.toNat (0 : Int)) (0 : Int)))))]))))))) := by kernel_rfl
theorem cEnterAll_valid : cEnterAll.Valid Try.prog 13 := by
  refine Ctr.valid_of EEnterAll_ok rfl rfl Try.func13 (c := bodyOf Try.prog 13) rfl rfl FEnterAll_ok rfl ?_
  rintro ⟨(n : Int), (l : List StepD), ⟨⟩⟩ - ⟨-, ⟨hl, -⟩, -⟩
  have hl : l.length ≤ 9223372036854775807 := hl
  refine exec_sound (n := 1000) EEnterAll_ok FEnterAll_ok ?_
  refine holds_of_eq (EEnterAll_t n l) ?_
  have hf := few_in n
  have hJ : JE (few n).toNat (edoors (few n) l) := doors_JE (l := l) hf.1 hf.2
  obtain ⟨N, hN⟩ : ∃ N : Nat, few n = N := ⟨(few n).toNat, by omega⟩
  rw [hN, Int.toNat_natCast] at hJ
  simp only [holds_cond, Tree.holds, true_and, true_implies, decide_eq_true_eq, decide_eq_false_iff_not, Bool.not_eq_true', Bool.not_eq_false', Int.toNat_natCast, inK_i64, List.length_set, List.length_cons, List.length_nil]
  rw [hN] at hf ⊢
  refine ⟨by decide, fun _ => ⟨by decide +kernel, fun _ => ⟨by omega, fun _ => ?_⟩⟩⟩
  generalize edoors (N : Int) l = t at *
  have hlen := hJ.len
  have hn1 := hJ.n1
  refine Reach.loopI EEnterAll_ok FEnterAll_ok (fun i : Nat => EEnterAll_s10 (nwish (fD t) i) (t.1.length : Int) (i : Int) t.1 t.2.1) (fun i => i ≤ N) (fun i => N - i) 1000 (fun _ => ⟨uniq_of rfl, uniq_of rfl⟩) ?_ 0 (by omega)
  rintro i k1 - ih
  have k1 : i ≤ N := k1
  refine holds_of_eq (EEnterAll_l10 ..) ?_
  have hw0 : 0 ≤ nwish (fD t) i := sumN_nn (fun i => by show (0 : Int) ≤ if 0 < (fD t i).2.1 then 1 else 0; split <;> decide) i
  have hw1 : nwish (fD t) i ≤ sumN (fun _ => (1 : Int)) i := sumN_le fun i hi => by show (if 0 < (fD t i).2.1 then (1 : Int) else 0) ≤ 1; split <;> decide
  rw [sumN_const] at hw1
  simp only [holds_cond, Tree.holds, true_and, true_implies, decide_eq_true_eq, decide_eq_false_iff_not, Bool.not_eq_true', Bool.not_eq_false', Int.toNat_natCast, inK_i64, List.length_set, List.length_cons, List.length_nil]
  refine ⟨fun c => ⟨by omega, fun _ => ?_⟩, fun c => ?_⟩
  · have next := ih (i + 1) (by show i + 1 ≤ N; omega) (by omega)
    rw [show nwish (fD t) (i + 1) = nwish (fD t) i + (if 0 < (fD t i).2.1 then 1 else 0) from rfl] at next
    refine ⟨fun d => ⟨by omega, fun _ => ⟨by omega, fun _ => ?_⟩⟩, fun d => ⟨by omega, fun _ => ?_⟩⟩
    · rw [if_pos (show 0 < (fD t i).2.1 from d)] at next; exact next
    · rw [if_neg (show ¬ 0 < (fD t i).2.1 from d), Int.add_zero] at next; exact next
  have e : i = N := by omega
  subst e
  have hap := aphi_le hJ
  generalize hW : nwish (fD t) i = W at *
  clear ih k1 hlen
  refine Reach.loopI EEnterAll_ok FEnterAll_ok (fun s : EnterD × Nat × Nat => EEnterAll_s17 W (s.2.1 : Int) (s.2.2 : Int) s.1.1 s.1.2.1) (fun s => JE i s.1 ∧ nwish (fD s.1) i + s.2.1 = W ∧ aphi (fD s.1) s.1.2.1 i + s.2.2 ≤ 378 ∧ s.2.1 ≤ s.2.2) (fun s => 2000 - s.2.2) 1000 (fun _ => ⟨uniq_of rfl, uniq_of rfl⟩) ?_ (t, 0, 0) ⟨hJ, by show nwish (fD t) i + ((0 : Nat) : Int) = W; omega, by show aphi (fD t) t.2.1 i + ((0 : Nat) : Int) ≤ 378; omega, Nat.le_refl _⟩
  clear hJ hW hap
  rintro ⟨t, ca, k⟩ ⟨hJ, k2, k3, k4⟩ - ih
  have hJ : JE i t := hJ
  have k2 : nwish (fD t) i + (ca : Int) = W := k2
  have k3 : aphi (fD t) t.2.1 i + (k : Int) ≤ 378 := k3
  have k4 : ca ≤ k := k4
  have hap := aphi_le hJ
  have hlen := hJ.len
  refine holds_of_eq (EEnterAll_l17 ..) ?_
  change Tree.holds _ _ _
  have hins := hJ.inside
  simp only [holds_cond, Tree.holds, true_and, true_implies, decide_eq_true_eq, decide_eq_false_iff_not, Bool.not_eq_true', Bool.not_eq_false', Int.toNat_natCast, inK_i64, List.length_set, List.length_cons, List.length_nil]
  refine ⟨fun c => ⟨by omega, fun _ => ⟨fun d => ?_, fun d => ⟨fun e => ?_, fun e => ?_⟩⟩⟩, fun c => by omega⟩
  · have d : (0 : Int) < t.2.1.length := d
    have ht : etake (t.1, t.2.1, ()) 0 = (etake1 t (0 : Nat), 0, ()) := take_ok hJ (k := 0) (by omega)
    rw [ht]
    have hj := take_JE hJ (k := 0) (by omega)
    have hp := take_aphi hJ (k := 0) (by omega)
    refine ⟨fun a => absurd rfl a, fun _ => ⟨by omega, fun _ => ?_⟩⟩
    exact ih (etake1 t (0 : Nat), ca, k + 1) ⟨hj, by show nwish (fD (etake1 t _)) i + (ca : Int) = W; omega, by show aphi (fD (etake1 t (0 : Nat))) (etake1 t (0 : Nat)).2.1 i + ((k + 1 : Nat) : Int) ≤ 378; omega, by show ca ≤ k + 1; omega⟩ (by show 2000 - (k + 1) < 2000 - k; omega)
  · have d : ¬ (0 : Int) < t.2.1.length := d
    have hws : t.2.1 = [] := List.length_eq_zero_iff.1 (by omega)
    have e : ((insideR t).length : Int) = 1 := e
    rcases hins with h0 | ⟨p, h0, hp, hi⟩
    · rw [h0] at e; cases e
    have hR : insideR (t.1, t.2.1, ()) = [(p : Int)] := h0
    rw [hR]
    have hlv : eleave (t.1, t.2.1, ()) (p : Int) = (leave1 t p, 0, ()) := leave_ok hJ hp hi hws
    have hj := leave_JE hJ hp hi (by have := hJ.iv.later hp; have := hJ.n1; rw [hws]; show 0 + _ ≤ 100; omega)
    have hph := leave_aphi hJ hp hi
    refine Reach.loopI EEnterAll_ok FEnterAll_ok (fun q : Nat => EEnterAll_s26 W (ca : Int) (k : Int) (t.1.length : Int) (q : Int) t.1 t.2.1 [] [] [(p : Int)]) (fun q => q ≤ i) (fun q => i - q) 1000 (fun _ => ⟨uniq_of rfl, uniq_of rfl⟩) ?_ 0 (by omega)
    rintro q j1 - ih2
    have j1 : q ≤ i := j1
    refine holds_of_eq (EEnterAll_l26 ..) ?_
    have g0 : List.getD [(p : Int)] (Int.toNat 0) 0 = (p : Int) := rfl
    simp only [holds_cond, Tree.holds, true_and, true_implies, decide_eq_true_eq, decide_eq_false_iff_not, Bool.not_eq_true', Bool.not_eq_false', Int.toNat_natCast, inK_i64, List.length_set, List.length_cons, List.length_nil, g0]
    have next := fun hq : q < i => ih2 (q + 1) (by show q + 1 ≤ i; omega) (by omega)
    have hb : q < i → 0 < (fD t q).2.1 → ¬ (fD t q).2.1 < (fD t p).2.1 ∧ ((fD t q).2.1 = (fD t p).2.1 → ¬ q < p) := fun hq hw => by
      by_cases e : q = p
      · subst e; exact ⟨by omega, fun _ => by omega⟩
      · have := hJ.first hp hi hq e hw
        unfold bef at this
        exact ⟨by omega, fun _ => by omega⟩
    refine ⟨fun c2 => ⟨by omega, fun _ => ⟨by omega, fun _ => ⟨by omega, fun _ => ⟨fun w => ⟨fun l1 => absurd l1 (hb (by omega) w).1, fun _ => ⟨fun eq1 => ⟨by omega, fun _ => ⟨fun ql => absurd (by omega) ((hb (by omega) w).2 eq1), fun _ => ⟨by omega, fun _ => next (by omega)⟩⟩⟩, fun _ => ⟨by omega, fun _ => next (by omega)⟩⟩⟩, fun _ => ⟨by omega, fun _ => next (by omega)⟩⟩⟩⟩⟩, fun c2 => ⟨by omega, fun _ => ⟨by omega, fun _ => ?_⟩⟩⟩
    rw [hlv]
    refine ⟨fun a => absurd rfl a, fun _ => ⟨by omega, fun _ => ?_⟩⟩
    exact ih (leave1 t p, ca + 1, k + 1) ⟨hj, by show nwish (fD (leave1 t p)) i + ((ca + 1 : Nat) : Int) = W; omega, by show aphi (fD (leave1 t p)) (leave1 t p).2.1 i + ((k + 1 : Nat) : Int) ≤ 378; omega, by show ca + 1 ≤ k + 1; omega⟩ (by show 2000 - (k + 1) < 2000 - k; omega)
  · have d : ¬ (0 : Int) < t.2.1.length := d
    have hws : t.2.1 = [] := List.length_eq_zero_iff.1 (by omega)
    have h0 : insideR t = [] := by
      rcases hins with h0 | ⟨p, h0, _, _⟩
      · exact h0
      · exact absurd (by show ((insideR t).length : Int) = 1; rw [h0]; rfl) e
    have hz : nwish (fD t) i = 0 := nwish_zero (fun q hq => hJ.done hws h0 hq)
    have hany : List.any t.1 wishD = false := by
      rw [List.any_eq_false]
      intro d hd
      obtain ⟨q, hq, rfl⟩ := List.getElem_of_mem hd
      have := hJ.done hws h0 (q := q) (by omega)
      have e2 : fD t q = t.1[q] := by show t.1.getD q door0 = _; rw [List.getD_eq_getElem?_getD, List.getElem?_eq_getElem hq]; rfl
      rw [e2] at this
      rw [wishD, decide_eq_true_eq]; exact this
    refine ⟨fun _ => ⟨fun _ => ?_, fun e3 => absurd (by omega) e3⟩, fun e3 => absurd (by show ((insideR t).length : Int) = 0; rw [h0]; rfl) e3⟩
    show ((!List.any t.1 wishD, ()) : Bool × Unit) = (true, ())
    rw [hany]; rfl
end Go.Proofs.Ytbcdpeogfghgcaa
