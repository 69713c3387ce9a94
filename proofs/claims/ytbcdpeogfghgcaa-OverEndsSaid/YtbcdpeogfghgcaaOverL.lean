/- OverOwed, OverSafe, OverEnds: the walks. -/
import Derived.Test.YtbcdpeogfghgcaaOverP
namespace Go.Proofs.Ytbcdpeogfghgcaa
open Go.Ex
set_option maxRecDepth 100000
def busyH (h : HandD) : Bool := h.1
def cbusyH : Ctr := { ps := [.v Hand], rs := [.bool], pre := fun _ => True, fn := fun x => (busyH x.1, ()), out := fun _ => () }
noncomputable def EbusyH : Env := { P := Try.prog, tt := tt, ctr := [], res := [Go.ResultVar.tmp 2], rs := [Ty.bool], ps := [PK.v Hand], cuts := [], nt := 5 }
theorem EbusyH_ok : EnvOk EbusyH := envOk tt_ok trivial
theorem FbusyH_ok : FnOk EbusyH Try.f55 := ⟨rfl, rfl⟩
theorem EbusyH_t (x0_1 : Bool) (x0_2_1 : Int) (x0_2_2_1 : Int) : exec EbusyH 1000 [.code (bodyOf Try.prog 55)] (initSt cbusyH.ps (((x0_1, x0_2_1, x0_2_2_1, ()), ()))) =
  .ret ((x0_1, ())) := by kernel_rfl
theorem cbusyH_valid : cbusyH.Valid Try.prog 55 := by
  refine Ctr.valid_of EbusyH_ok rfl rfl Try.func55 (c := bodyOf Try.prog 55) rfl rfl FbusyH_ok rfl ?_
  rintro ⟨⟨(b : Bool), (s : Int), (o : Int), ⟨⟩⟩, ⟨⟩⟩ - -
  refine exec_sound (n := 1000) EbusyH_ok FbusyH_ok ?_
  refine holds_of_eq (EbusyH_t b s o) ?_
  rfl
def owesH (h : HandD) : Bool := h.1 || decide (0 < h.2.2.1)
def cowesH : Ctr := { ps := [.v Hand], rs := [.bool], pre := fun _ => True, fn := fun x => (owesH x.1, ()), out := fun _ => () }
noncomputable def EowesH : Env := { P := Try.prog, tt := tt, ctr := [], res := [Go.ResultVar.tmp 2], rs := [Ty.bool], ps := [PK.v Hand], cuts := [], nt := 10 }
theorem EowesH_ok : EnvOk EowesH := envOk tt_ok trivial
theorem FowesH_ok : FnOk EowesH Try.f60 := ⟨rfl, rfl⟩
theorem EowesH_t (x0_1 : Bool) (x0_2_1 : Int) (x0_2_2_1 : Int) : exec EowesH 1000 [.code (bodyOf Try.prog 60)] (initSt cowesH.ps (((x0_1, x0_2_1, x0_2_2_1, ()), ()))) =
  cond (x0_1) (.ret ((true, ()))) (.ret ((decide ((0 : Int) < x0_2_2_1), ()))) := by kernel_rfl
theorem cowesH_valid : cowesH.Valid Try.prog 60 := by
  refine Ctr.valid_of EowesH_ok rfl rfl Try.func60 (c := bodyOf Try.prog 60) rfl rfl FowesH_ok rfl ?_
  rintro ⟨⟨(b : Bool), (s : Int), (o : Int), ⟨⟩⟩, ⟨⟩⟩ - -
  refine exec_sound (n := 1000) EowesH_ok FowesH_ok ?_
  refine holds_of_eq (EowesH_t b s o) ?_
  simp only [holds_cond, Tree.holds, true_and, true_implies, decide_eq_true_eq, decide_eq_false_iff_not, Bool.not_eq_true', Bool.not_eq_false', Int.toNat_natCast, inK_i64, List.length_set, List.length_cons, List.length_nil]
  repeat' first | exact trivial | (refine And.intro ?_ ?_) | (intro _)
  all_goals (show ((_, ()) : Bool × Unit) = (owesH (b, s, o, ()), ()); simp [owesH, *])
def cidxB : Ctr := { ps := [.v (.slc false Hand), .clo 55 []], rs := [I64], pre := fun x => True, fn := fun x => (idxOf (busyH) x.1, ()), out := fun _ => () }
noncomputable def EidxB : Env := { P := Try.prog, tt := tt, ctr := [(55, cbusyH)], res := [Go.ResultVar.tmp 4], rs := [Ty.int IntKind.i64], ps := [PK.v (Ty.slc false Hand), PK.clo 55 []], cuts := [(2, [(0, none), (1, none), (7, none), (8, none)])], nt := 19 }
theorem EidxB_ok : EnvOk EidxB := envOk tt_ok ⟨cbusyH_valid, trivial⟩
theorem FidxB_ok : FnOk EidxB Try.f54 := ⟨rfl, rfl⟩
theorem EidxB_t (x0 : List (Bool × Int × Int × Unit)) : exec EidxB 1000 [.code (bodyOf Try.prog 54)] (initSt cidxB.ps ((x0, (), ()))) =
  .cut (loopAt (bodyOf Try.prog 54) 2).1 (loopAt (bodyOf Try.prog 54) 2).2 (St.mk [(0, AV.val (Ty.slc false Hand) x0), (1, AV.clo 55 AV.nil), (7, AV.val (Ty.int IntKind.i64) (↑(List.length x0) : Int)), (8, AV.val (Ty.int IntKind.i64) (0 : Int))] []) := by kernel_rfl
def EidxB_s2 (v0 : List (Bool × Int × Int × Unit)) (v7 : Int) (v8 : Int) : St := St.mk [(0, AV.val (Ty.slc false Hand) v0), (1, AV.clo 55 AV.nil), (7, AV.val (Ty.int IntKind.i64) v7), (8, AV.val (Ty.int IntKind.i64) v8)] []
theorem EidxB_l2 (v0 : List (Bool × Int × Int × Unit)) (v7 : Int) (v8 : Int) : exec EidxB 1000 (.code (loopAt (bodyOf Try.prog 54) 2).1 :: .inLoop (loopAt (bodyOf Try.prog 54) 2).1 :: (loopAt (bodyOf Try.prog 54) 2).2) (EidxB_s2 v0 v7 v8) =
  cond (decide (v8 < v7)) (.need ((0 : Int) ≤ v8 ∧ v8 < (↑(List.length v0) : Int)) (.need (True) (cond (busyH (List.getD v0 (Int.toNat v8) (false, (0 : Int), (0 : Int), ()))) (.ret ((v8, ()))) (.need (inK IntKind.i64 (v8 + (1 : Int))) (.cut (loopAt (bodyOf Try.prog 54) 2).1 (loopAt (bodyOf Try.prog 54) 2).2 (St.mk [(0, AV.val (Ty.slc false Hand) v0), (1, AV.clo 55 AV.nil), (7, AV.val (Ty.int IntKind.i64) v7), (8, AV.val (Ty.int IntKind.i64) (v8 + (1 : Int)))] [])))))) (.ret (((-1 : Int), ()))) := by kernel_rfl
theorem cidxB_valid : cidxB.Valid Try.prog 54 := by
  refine Ctr.valid_of EidxB_ok rfl rfl Try.func54 (c := bodyOf Try.prog 54) rfl rfl FidxB_ok rfl ?_
  rintro ⟨(l : List (HandD)), ⟨⟩, ⟨⟩⟩ - ⟨⟨hl, -⟩, -⟩
  have hl : l.length ≤ 9223372036854775807 := hl
  refine exec_sound (n := 1000) EidxB_ok FidxB_ok ?_
  refine holds_of_eq (EidxB_t l ) ?_
  refine Reach.loopI EidxB_ok FidxB_ok (fun i : Nat => EidxB_s2 l  (l.length : Int) (i : Int)) (fun i => i ≤ l.length ∧ idxOf (busyH) l = idxGo (busyH) (l.drop i) i)
    (fun i => l.length - i) 1000 (fun _ => ⟨uniq_of rfl, uniq_of rfl⟩) ?_ 0 ⟨by omega, rfl⟩
  rintro i ⟨k1, k2⟩ - ih
  refine holds_of_eq (EidxB_l2 ..) ?_
  simp only [holds_cond, Tree.holds, true_and, true_implies, decide_eq_true_eq, decide_eq_false_iff_not, Bool.not_eq_true', Bool.not_eq_false', Int.toNat_natCast, inK_i64, List.length_set, List.length_cons, List.length_nil]
  refine ⟨fun h => ?_, fun h => ?_⟩
  · rw [drop_getD (show i < l.length by omega) (false, 0, 0, ()), idxGo] at k2
    refine ⟨by omega, fun _ => ⟨fun c => ?_, fun c => ⟨by omega, fun _ => ih (i + 1) ⟨by omega, ?_⟩ (by omega)⟩⟩⟩
    · show (((i : Int), ()) : Int × Unit) = (idxOf (busyH) l, ())
      rw [k2, if_pos c]
    · rw [k2, if_neg (fun h9 => Bool.noConfusion (Eq.trans (Eq.symm h9) c))]
  · rw [List.drop_eq_nil_of_le (by omega)] at k2
    show (((-1 : Int), ()) : Int × Unit) = (idxOf (busyH) l, ())
    rw [k2]; rfl
def cidxO : Ctr := { ps := [.v (.slc false Hand), .clo 60 []], rs := [I64], pre := fun x => True, fn := fun x => (idxOf (owesH) x.1, ()), out := fun _ => () }
noncomputable def EidxO : Env := { P := Try.prog, tt := tt, ctr := [(60, cowesH)], res := [Go.ResultVar.tmp 4], rs := [Ty.int IntKind.i64], ps := [PK.v (Ty.slc false Hand), PK.clo 60 []], cuts := [(2, [(0, none), (1, none), (7, none), (8, none)])], nt := 19 }
theorem EidxO_ok : EnvOk EidxO := envOk tt_ok ⟨cowesH_valid, trivial⟩
theorem FidxO_ok : FnOk EidxO Try.f54 := ⟨rfl, rfl⟩
theorem EidxO_t (x0 : List (Bool × Int × Int × Unit)) : exec EidxO 1000 [.code (bodyOf Try.prog 54)] (initSt cidxO.ps ((x0, (), ()))) =
  .cut (loopAt (bodyOf Try.prog 54) 2).1 (loopAt (bodyOf Try.prog 54) 2).2 (St.mk [(0, AV.val (Ty.slc false Hand) x0), (1, AV.clo 60 AV.nil), (7, AV.val (Ty.int IntKind.i64) (↑(List.length x0) : Int)), (8, AV.val (Ty.int IntKind.i64) (0 : Int))] []) := by kernel_rfl
def EidxO_s2 (v0 : List (Bool × Int × Int × Unit)) (v7 : Int) (v8 : Int) : St := St.mk [(0, AV.val (Ty.slc false Hand) v0), (1, AV.clo 60 AV.nil), (7, AV.val (Ty.int IntKind.i64) v7), (8, AV.val (Ty.int IntKind.i64) v8)] []
theorem EidxO_l2 (v0 : List (Bool × Int × Int × Unit)) (v7 : Int) (v8 : Int) : exec EidxO 1000 (.code (loopAt (bodyOf Try.prog 54) 2).1 :: .inLoop (loopAt (bodyOf Try.prog 54) 2).1 :: (loopAt (bodyOf Try.prog 54) 2).2) (EidxO_s2 v0 v7 v8) =
  cond (decide (v8 < v7)) (.need ((0 : Int) ≤ v8 ∧ v8 < (↑(List.length v0) : Int)) (.need (True) (cond (owesH (List.getD v0 (Int.toNat v8) (false, (0 : Int), (0 : Int), ()))) (.ret ((v8, ()))) (.need (inK IntKind.i64 (v8 + (1 : Int))) (.cut (loopAt (bodyOf Try.prog 54) 2).1 (loopAt (bodyOf Try.prog 54) 2).2 (St.mk [(0, AV.val (Ty.slc false Hand) v0), (1, AV.clo 60 AV.nil), (7, AV.val (Ty.int IntKind.i64) v7), (8, AV.val (Ty.int IntKind.i64) (v8 + (1 : Int)))] [])))))) (.ret (((-1 : Int), ()))) := by kernel_rfl
theorem cidxO_valid : cidxO.Valid Try.prog 54 := by
  refine Ctr.valid_of EidxO_ok rfl rfl Try.func54 (c := bodyOf Try.prog 54) rfl rfl FidxO_ok rfl ?_
  rintro ⟨(l : List (HandD)), ⟨⟩, ⟨⟩⟩ - ⟨⟨hl, -⟩, -⟩
  have hl : l.length ≤ 9223372036854775807 := hl
  refine exec_sound (n := 1000) EidxO_ok FidxO_ok ?_
  refine holds_of_eq (EidxO_t l ) ?_
  refine Reach.loopI EidxO_ok FidxO_ok (fun i : Nat => EidxO_s2 l  (l.length : Int) (i : Int)) (fun i => i ≤ l.length ∧ idxOf (owesH) l = idxGo (owesH) (l.drop i) i)
    (fun i => l.length - i) 1000 (fun _ => ⟨uniq_of rfl, uniq_of rfl⟩) ?_ 0 ⟨by omega, rfl⟩
  rintro i ⟨k1, k2⟩ - ih
  refine holds_of_eq (EidxO_l2 ..) ?_
  simp only [holds_cond, Tree.holds, true_and, true_implies, decide_eq_true_eq, decide_eq_false_iff_not, Bool.not_eq_true', Bool.not_eq_false', Int.toNat_natCast, inK_i64, List.length_set, List.length_cons, List.length_nil]
  refine ⟨fun h => ?_, fun h => ?_⟩
  · rw [drop_getD (show i < l.length by omega) (false, 0, 0, ()), idxGo] at k2
    refine ⟨by omega, fun _ => ⟨fun c => ?_, fun c => ⟨by omega, fun _ => ih (i + 1) ⟨by omega, ?_⟩ (by omega)⟩⟩⟩
    · show (((i : Int), ()) : Int × Unit) = (idxOf (owesH) l, ())
      rw [k2, if_pos c]
    · rw [k2, if_neg (fun h9 => Bool.noConfusion (Eq.trans (Eq.symm h9) c))]
  · rw [List.drop_eq_nil_of_le (by omega)] at k2
    show (((-1 : Int), ()) : Int × Unit) = (idxOf (owesH) l, ())
    rw [k2]; rfl
def ccontO : Ctr := { ps := [.v (.slc false Hand), .clo 60 []], rs := [.bool], pre := fun x => True, fn := fun x => (List.any (α := HandD) x.1 (owesH), ()), out := fun _ => () }
noncomputable def EcontO : Env := { P := Try.prog, tt := tt, ctr := [(54, cidxO)], res := [Go.ResultVar.tmp 4], rs := [Ty.bool], ps := [PK.v (Ty.slc false Hand), PK.clo 60 []], cuts := [], nt := 9 }
theorem EcontO_ok : EnvOk EcontO := envOk tt_ok ⟨cidxO_valid, trivial⟩
theorem FcontO_ok : FnOk EcontO Try.f59 := ⟨rfl, rfl⟩
theorem EcontO_t (x0 : List (Bool × Int × Int × Unit)) : exec EcontO 1000 [.code (bodyOf Try.prog 59)] (initSt ccontO.ps ((x0, (), ()))) =
  .need (True) (.ret ((decide ((0 : Int) ≤ idxOf owesH x0), ()))) := by kernel_rfl
theorem ccontO_valid : ccontO.Valid Try.prog 59 := by
  refine Ctr.valid_of EcontO_ok rfl rfl Try.func59 (c := bodyOf Try.prog 59) rfl rfl FcontO_ok rfl ?_
  rintro ⟨(l : List (HandD)), ⟨⟩, ⟨⟩⟩ - -
  refine exec_sound (n := 1000) EcontO_ok FcontO_ok ?_
  refine holds_of_eq (EcontO_t l ) ?_
  refine ⟨trivial, fun _ => ?_⟩
  show ((decide (0 ≤ idxOf (owesH) l), ()) : Bool × Unit) = (l.any (owesH), ())
  rw [idx_any]
def cOverOwed : Ctr := { ps := [.v I64, .v (.slc false Word)], rs := [.bool], pre := fun _ => True, fn := fun _ => (true, ()), out := fun _ => () }
noncomputable def EOverOwed : Env := { P := Try.prog, tt := tt, ctr := [(46, cohands), (31, cfew)], res := [Go.ResultVar.tmp 4], rs := [Ty.bool], ps := [PK.v (Ty.int IntKind.i64), PK.v (Ty.slc false Word)], cuts := [(9, [(7, none), (9, none), (10, none), (40, none), (41, none), (42, none)])], nt := 63 }
theorem EOverOwed_ok : EnvOk EOverOwed := envOk tt_ok ⟨cohands_valid, cfew_valid, trivial⟩
theorem FOverOwed_ok : FnOk EOverOwed Try.f12 := ⟨rfl, rfl⟩
theorem EOverOwed_t (x0 : Int) (x1 : List (Int × Int × Int × Unit)) : exec EOverOwed 1000 [.code (bodyOf Try.prog 12)] (initSt cOverOwed.ps ((x0, x1, ()))) =
  .need ((1 : Int) ≤ (2 : Int) ∧ (2 : Int) ≤ (6 : Int)) (.need ((0 : Int) ≤ (1 : Int) ∧ (1 : Int) < (↑(List.length (Prod.fst (ohands (2 : Int) (List.set (List.set [((0 : Int), (0 : Int), (0 : Int), ()), ((0 : Int), (0 : Int), (0 : Int), ())] (Int.toNat (↑0 : Int)) ((0 : Int), (0 : Int), (1 : Int), ())) (Int.toNat (↑1 : Int)) ((1 : Int), (0 : Int), (0 : Int), ()))))) : Int)) (.need (True) (.need ((1 : Int) ≤ few x0 ∧ few x0 ≤ (6 : Int)) (.cut (loopAt (bodyOf Try.prog 12) 9).1 (loopAt (bodyOf Try.prog 12) 9).2 (St.mk [(7, AV.ptr 7 []), (9, AV.val (Ty.int IntKind.i64) (0 : Int)), (10, AV.val (Ty.int IntKind.i64) (0 : Int)), (40, AV.at_ 7 [Step.fld 0]), (41, AV.val (Ty.int IntKind.i64) (↑(List.length (Prod.fst (ohands (few x0) x1))) : Int)), (42, AV.val (Ty.int IntKind.i64) (0 : Int))] [(7, Ent.var (Ty.pair (Ty.slc true Hand) (Ty.pair (Ty.slc true Word) Ty.unit)) (ohands (few x0) x1))]))))) := by kernel_rfl
def EOverOwed_s9 (v9 : Int) (v10 : Int) (v41 : Int) (v42 : Int) (o7_1 : List (Bool × Int × Int × Unit)) (o7_2_1 : List (Int × Int × Int × Unit)) : St := St.mk [(7, AV.ptr 7 []), (9, AV.val (Ty.int IntKind.i64) v9), (10, AV.val (Ty.int IntKind.i64) v10), (40, AV.at_ 7 [Step.fld 0]), (41, AV.val (Ty.int IntKind.i64) v41), (42, AV.val (Ty.int IntKind.i64) v42)] [(7, Ent.var (Ty.pair (Ty.slc true Hand) (Ty.pair (Ty.slc true Word) Ty.unit)) (o7_1, o7_2_1, ()))]
theorem EOverOwed_l9 (v9 : Int) (v10 : Int) (v41 : Int) (v42 : Int) (o7_1 : List (Bool × Int × Int × Unit)) (o7_2_1 : List (Int × Int × Int × Unit)) : exec EOverOwed 1000 (.code (loopAt (bodyOf Try.prog 12) 9).1 :: .inLoop (loopAt (bodyOf Try.prog 12) 9).1 :: (loopAt (bodyOf Try.prog 12) 9).2) (EOverOwed_s9 v9 v10 v41 v42 o7_1 o7_2_1) =
  cond (decide (v42 < v41)) (.need ((0 : Int) ≤ v42 ∧ v42 < (↑(List.length o7_1) : Int)) (.need (inK IntKind.i64 (v9 + Prod.fst (Prod.snd (Prod.snd (List.getD o7_1 (Int.toNat v42) (false, (0 : Int), (0 : Int), ())))))) (cond (decide ((0 : Int) ≤ Prod.fst (Prod.snd (List.getD o7_1 (Int.toNat v42) (false, (0 : Int), (0 : Int), ()))))) (.need (inK IntKind.i64 (v10 + (1 : Int))) (.need (inK IntKind.i64 (v42 + (1 : Int))) (.cut (loopAt (bodyOf Try.prog 12) 9).1 (loopAt (bodyOf Try.prog 12) 9).2 (St.mk [(7, AV.ptr 7 []), (9, AV.val (Ty.int IntKind.i64) (v9 + Prod.fst (Prod.snd (Prod.snd (List.getD o7_1 (Int.toNat v42) (false, (0 : Int), (0 : Int), ())))))), (10, AV.val (Ty.int IntKind.i64) (v10 + (1 : Int))), (40, AV.at_ 7 [Step.fld 0]), (41, AV.val (Ty.int IntKind.i64) v41), (42, AV.val (Ty.int IntKind.i64) (v42 + (1 : Int)))] [(7, Ent.var (Ty.pair (Ty.slc true Hand) (Ty.pair (Ty.slc true Word) Ty.unit)) (o7_1, o7_2_1, ()))])))) (.need (inK IntKind.i64 (v42 + (1 : Int))) (.cut (loopAt (bodyOf Try.prog 12) 9).1 (loopAt (bodyOf Try.prog 12) 9).2 (St.mk [(7, AV.ptr 7 []), (9, AV.val (Ty.int IntKind.i64) (v9 + Prod.fst (Prod.snd (Prod.snd (List.getD o7_1 (Int.toNat v42) (false, (0 : Int), (0 : Int), ())))))), (10, AV.val (Ty.int IntKind.i64) v10), (40, AV.at_ 7 [Step.fld 0]), (41, AV.val (Ty.int IntKind.i64) v41), (42, AV.val (Ty.int IntKind.i64) (v42 + (1 : Int)))] [(7, Ent.var (Ty.pair (Ty.slc true Hand) (Ty.pair (Ty.slc true Word) Ty.unit)) (o7_1, o7_2_1, ()))])))))) (.need (inK IntKind.i64 ((↑(List.length o7_2_1) : Int) + v10)) (.ret ((decide (v9 = (↑(List.length o7_2_1) : Int) + v10), ())))) := by kernel_rfl
theorem cOverOwed_valid : cOverOwed.Valid Try.prog 12 := by
  refine Ctr.valid_of EOverOwed_ok rfl rfl Try.func12 (c := bodyOf Try.prog 12) rfl rfl FOverOwed_ok rfl ?_
  rintro ⟨(n : Int), (l : List WorkD), ⟨⟩⟩ - -
  refine exec_sound (n := 1000) EOverOwed_ok FOverOwed_ok ?_
  refine holds_of_eq (EOverOwed_t n l) ?_
  have hf := few_in n
  obtain ⟨N, hN⟩ : ∃ N : Nat, few n = N := ⟨(few n).toNat, by omega⟩
  have hJ := hands_J (l := l) hf.1 hf.2
  rw [hN, Int.toNat_natCast] at hJ
  simp only [holds_cond, Tree.holds, true_and, true_implies, decide_eq_true_eq, decide_eq_false_iff_not, Bool.not_eq_true', Bool.not_eq_false', Int.toNat_natCast, inK_i64, List.length_set, List.length_cons, List.length_nil]
  refine ⟨by decide, fun _ => ⟨by decide +kernel, fun _ => ⟨by omega, fun _ => ?_⟩⟩⟩
  rw [hN] at *
  generalize ohands (N : Int) l = t at *
  have hlen : t.1.length = N := hJ.len
  have hw := hJ.wl
  refine Reach.loopI EOverOwed_ok FOverOwed_ok (fun i : Nat => EOverOwed_s9 (sumN (ow t) i) (nb t i) (t.1.length : Int) (i : Int) t.1 t.2.1) (fun i => i ≤ N) (fun i => N - i) 1000 (fun _ => ⟨uniq_of rfl, uniq_of rfl⟩) ?_ 0 (by omega)
  rintro i k1 - ih
  have k1 : i ≤ N := k1
  refine holds_of_eq (EOverOwed_l9 ..) ?_
  have hb1 : 0 ≤ nb t i := sumN_nn (fun i => by split <;> decide) i
  have hb2 : nb t i ≤ sumN (fun _ => (1 : Int)) i := sumN_le (fun i _ => by split <;> decide)
  have hs1 : sumN (ow t) i ≤ sumN (fun _ => (106 : Int)) i := sumN_le (fun j hj => (hJ.ow_in (by omega)).2)
  have hs2 : sumN (fun _ => (0 : Int)) i ≤ sumN (ow t) i := sumN_le (fun j hj => (hJ.ow_in (by omega)).1)
  rw [sumN_const] at hb2 hs1 hs2
  simp only [holds_cond, Tree.holds, true_and, true_implies, decide_eq_true_eq, decide_eq_false_iff_not, Bool.not_eq_true', Bool.not_eq_false', Int.toNat_natCast, inK_i64, List.length_set, List.length_cons, List.length_nil]
  refine ⟨fun c => ⟨by omega, fun _ => ?_⟩, fun c => ⟨by omega, fun _ => ?_⟩⟩
  · have hi : i < N := by omega
    have := (hJ.ow_in hi)
    have e1 : (t.1.getD i (false, 0, 0, ())).2.2.1 = ow t i := rfl
    have e2 : (t.1.getD i (false, 0, 0, ())).2.1 = bs t i := rfl
    have next := ih (i + 1) (by show i + 1 ≤ N; omega) (by omega)
    rw [show nb t (i + 1) = nb t i + (if 0 ≤ bs t i then 1 else 0) from rfl, show sumN (ow t) (i + 1) = sumN (ow t) i + ow t i from rfl] at next
    rw [e1, e2]
    refine ⟨by omega, fun _ => ⟨fun d => ⟨by omega, fun _ => ⟨by omega, fun _ => ?_⟩⟩, fun d => ⟨by omega, fun _ => ?_⟩⟩⟩
    · rw [if_pos d] at next; exact next
    · rw [if_neg d, Int.add_zero] at next; exact next
  · have : i = N := by omega
    subst this
    exact yesd (owed_all hJ.toJO)
def cOverSafe : Ctr := { ps := [.v I64, .v (.slc false Word)], rs := [.bool], pre := fun _ => True, fn := fun _ => (true, ()), out := fun _ => () }
noncomputable def EOverSafe : Env := { P := Try.prog, tt := tt, ctr := [(46, cohands), (31, cfew), (58, cocheck), (53, codone), (59, ccontO)], res := [Go.ResultVar.tmp 4], rs := [Ty.bool], ps := [PK.v (Ty.int IntKind.i64), PK.v (Ty.slc false Word)], cuts := [], nt := 71 }
theorem EOverSafe_ok : EnvOk EOverSafe := envOk tt_ok ⟨cohands_valid, cfew_valid, cocheck_valid, codone_valid, ccontO_valid, trivial⟩
theorem FOverSafe_ok : FnOk EOverSafe Try.f16 := ⟨rfl, rfl⟩
theorem EOverSafe_t (x0 : Int) (x1 : List (Int × Int × Int × Unit)) : exec EOverSafe 1000 [.code (bodyOf Try.prog 16)] (initSt cOverSafe.ps ((x0, x1, ()))) =
  .need ((1 : Int) ≤ (2 : Int) ∧ (2 : Int) ≤ (6 : Int)) (.need ((0 : Int) ≤ (0 : Int) ∧ (0 : Int) < (↑(List.length (Prod.fst (ohands (2 : Int) (List.set (List.set [((0 : Int), (0 : Int), (0 : Int), ()), ((0 : Int), (0 : Int), (0 : Int), ())] (Int.toNat (↑0 : Int)) ((0 : Int), (0 : Int), (1 : Int), ())) (Int.toNat (↑1 : Int)) ((3 : Int), (0 : Int), (0 : Int), ()))))) : Int)) (.need (True) (.need ((1 : Int) ≤ few x0 ∧ few x0 ≤ (6 : Int)) (.need (True) (cond (decide (ocheck (ohands (few x0) x1) ≠ (0 : Int))) (.ret ((false, ()))) (.need (True) (cond (decide (Prod.fst (Prod.snd (odone (ohands (few x0) x1))) ≠ (0 : Int))) (.ret ((false, ()))) (.need (True) (cond (!Prod.fst (odone (ohands (few x0) x1))) (.ret ((true, ()))) (cond (!List.any (Prod.fst (ohands (few x0) x1)) owesH) (.ret ((decide ((↑(List.length (Prod.fst (Prod.snd (ohands (few x0) x1)))) : Int) = (0 : Int)), ()))) (.ret ((false, ()))))))))))))) := by kernel_rfl
theorem cOverSafe_valid : cOverSafe.Valid Try.prog 16 := by
  refine Ctr.valid_of EOverSafe_ok rfl rfl Try.func16 (c := bodyOf Try.prog 16) rfl rfl FOverSafe_ok rfl ?_
  rintro ⟨(n : Int), (l : List WorkD), ⟨⟩⟩ - -
  refine exec_sound (n := 1000) EOverSafe_ok FOverSafe_ok ?_
  refine holds_of_eq (EOverSafe_t n l) ?_
  have hf := few_in n
  obtain ⟨N, hN⟩ : ∃ N : Nat, few n = N := ⟨(few n).toNat, by omega⟩
  have hJ := hands_J (l := l) hf.1 hf.2
  rw [hN, Int.toNat_natCast] at hJ
  simp only [holds_cond, Tree.holds, true_and, true_implies, decide_eq_true_eq, decide_eq_false_iff_not, Bool.not_eq_true', Bool.not_eq_false', Int.toNat_natCast, inK_i64, List.length_set, List.length_cons, List.length_nil]
  refine ⟨by decide, fun _ => ⟨by decide +kernel, fun _ => ⟨by omega, fun _ => ?_⟩⟩⟩
  rw [hN] at *
  generalize ohands (N : Int) l = t at *
  have ho : odone t = (!(bz t 0) && decide (ow t 0 = 0), 0, ()) := by rw [odone, if_neg (by simp [hJ.ok])]; rfl
  rw [ho]
  refine ⟨fun a => absurd hJ.ok a, fun _ => ⟨fun a => absurd rfl a, fun _ => ⟨fun _ => rfl, fun c => ?_⟩⟩⟩
  simp only [Bool.and_eq_true, Bool.not_eq_true', decide_eq_true_eq] at c
  obtain ⟨s1, s2⟩ := safe hJ c.1 c.2
  have hno : t.1.any owesH = false := List.any_eq_false.2 (fun h hh => by
    obtain ⟨i, hi, e⟩ := mem_getD (d := hand0) hh
    obtain ⟨q1, q2⟩ := s1 i (by rw [← hJ.len]; exact hi)
    subst e
    have q1 : (t.1.getD i hand0).1 = false := q1
    have q2 : (t.1.getD i hand0).2.2.1 = 0 := q2
    simp [owesH, q1, q2, -List.getD_eq_getElem?_getD])
  refine ⟨fun _ => yesd (by rw [s2]; rfl), fun d => absurd (hno.symm.trans d) (by simp)⟩
def cOverEnds : Ctr := { ps := [.v I64, .v (.slc false Word)], rs := [.bool], pre := fun _ => True, fn := fun _ => (true, ()), out := fun _ => () }
noncomputable def EOverEnds : Env := { P := Try.prog, tt := tt, ctr := [(46, cohands), (31, cfew), (53, codone), (54, cidxB), (56, cotake), (57, corest)], res := [Go.ResultVar.tmp 4], rs := [Ty.bool], ps := [PK.v (Ty.int IntKind.i64), PK.v (Ty.slc false Word)], cuts := [(11, [(9, none), (51, none)])], nt := 89 }
theorem EOverEnds_ok : EnvOk EOverEnds := envOk tt_ok ⟨cohands_valid, cfew_valid, codone_valid, cidxB_valid, cotake_valid, corest_valid, trivial⟩
theorem FOverEnds_ok : FnOk EOverEnds Try.f15 := ⟨rfl, rfl⟩
theorem EOverEnds_t (x0 : Int) (x1 : List (Int × Int × Int × Unit)) : exec EOverEnds 1000 [.code (bodyOf Try.prog 15)] (initSt cOverEnds.ps ((x0, x1, ()))) =
  .need ((1 : Int) ≤ (1 : Int) ∧ (1 : Int) ≤ (6 : Int)) (.need (True) (.need ((0 : Int) ≤ (0 : Int) ∧ (0 : Int) < (↑(List.length (Prod.fst (ohands (1 : Int) (List.set [((0 : Int), (0 : Int), (0 : Int), ())] (Int.toNat (↑0 : Int)) ((3 : Int), (0 : Int), (0 : Int), ()))))) : Int)) (.need (True) (.need ((1 : Int) ≤ few x0 ∧ few x0 ≤ (6 : Int)) (.cut (loopAt (bodyOf Try.prog 15) 11).1 (loopAt (bodyOf Try.prog 15) 11).2 (St.mk [(9, AV.ptr 9 []), (51, AV.val (Ty.int IntKind.i64) (0 : Int))] [(9, Ent.var (Ty.pair (Ty.slc true Hand) (Ty.pair (Ty.slc true Word) Ty.unit)) (ohands (few x0) x1))])))))) := by kernel_rfl
def EOverEnds_s11 (v51 : Int) (o9_1 : List (Bool × Int × Int × Unit)) (o9_2_1 : List (Int × Int × Int × Unit)) : St := St.mk [(9, AV.ptr 9 []), (51, AV.val (Ty.int IntKind.i64) v51)] [(9, Ent.var (Ty.pair (Ty.slc true Hand) (Ty.pair (Ty.slc true Word) Ty.unit)) (o9_1, o9_2_1, ()))]
theorem EOverEnds_l11 (v51 : Int) (o9_1 : List (Bool × Int × Int × Unit)) (o9_2_1 : List (Int × Int × Int × Unit)) : exec EOverEnds 1000 (.code (loopAt (bodyOf Try.prog 15) 11).1 :: .inLoop (loopAt (bodyOf Try.prog 15) 11).1 :: (loopAt (bodyOf Try.prog 15) 11).2) (EOverEnds_s11 v51 o9_1 o9_2_1) =
  cond (decide (v51 < (2000 : Int))) (.need (True) (cond (decide ((0 : Int) < (↑(List.length o9_2_1) : Int))) (.need (True) (cond (decide (Prod.fst (Prod.snd (otake (o9_1, o9_2_1, ()) (0 : Int))) ≠ (0 : Int))) (.ret ((false, ()))) (.need (inK IntKind.i64 (v51 + (1 : Int))) (.cut (loopAt (bodyOf Try.prog 15) 11).1 (loopAt (bodyOf Try.prog 15) 11).2 (St.mk [(9, AV.ptr 9 []), (51, AV.val (Ty.int IntKind.i64) (v51 + (1 : Int)))] [(9, Ent.var (Ty.pair (Ty.slc true Hand) (Ty.pair (Ty.slc true Word) Ty.unit)) (Prod.fst (otake (o9_1, o9_2_1, ()) (0 : Int))))]))))) (cond (decide ((0 : Int) ≤ idxOf busyH o9_1)) (.need (True) (cond (decide (Prod.fst (Prod.snd (orest (o9_1, o9_2_1, ()) (idxOf busyH o9_1))) ≠ (0 : Int))) (.ret ((false, ()))) (.need (inK IntKind.i64 (v51 + (1 : Int))) (.cut (loopAt (bodyOf Try.prog 15) 11).1 (loopAt (bodyOf Try.prog 15) 11).2 (St.mk [(9, AV.ptr 9 []), (51, AV.val (Ty.int IntKind.i64) (v51 + (1 : Int)))] [(9, Ent.var (Ty.pair (Ty.slc true Hand) (Ty.pair (Ty.slc true Word) Ty.unit)) (Prod.fst (orest (o9_1, o9_2_1, ()) (idxOf busyH o9_1))))]))))) (.need (True) (cond (decide (Prod.fst (Prod.snd (odone (o9_1, o9_2_1, ()))) = (0 : Int))) (.ret ((Prod.fst (odone (o9_1, o9_2_1, ())), ()))) (.ret ((false, ())))))))) (.ret ((false, ()))) := by kernel_rfl
theorem idx_hit {α : Type} {p : α → Bool} {d : α} : ∀ {l : List α} {i : Nat}, 0 ≤ idxGo p l i → ∃ k, idxGo p l i = ((i + k : Nat) : Int) ∧ k < l.length ∧ p (l.getD k d) = true
  | [], i, h => by simp [idxGo] at h
  | x :: l, i, h => by
    rw [idxGo] at h ⊢
    by_cases e : p x = true
    · rw [if_pos e]; exact ⟨0, rfl, by simp, e⟩
    · rw [if_neg e] at h ⊢
      obtain ⟨k, h1, h2, h3⟩ := idx_hit (d := d) h
      exact ⟨k + 1, by rw [h1]; congr 1; omega, by simpa using h2, h3⟩
theorem cOverEnds_valid : cOverEnds.Valid Try.prog 15 := by
  refine Ctr.valid_of EOverEnds_ok rfl rfl Try.func15 (c := bodyOf Try.prog 15) rfl rfl FOverEnds_ok rfl ?_
  rintro ⟨(n : Int), (l : List WorkD), ⟨⟩⟩ - -
  refine exec_sound (n := 1000) EOverEnds_ok FOverEnds_ok ?_
  refine holds_of_eq (EOverEnds_t n l) ?_
  have hf := few_in n
  obtain ⟨N, hN⟩ : ∃ N : Nat, few n = N := ⟨(few n).toNat, by omega⟩
  have hJ := hands_J (l := l) hf.1 hf.2
  rw [hN, Int.toNat_natCast] at hJ
  simp only [holds_cond, Tree.holds, true_and, true_implies, decide_eq_true_eq, decide_eq_false_iff_not, Bool.not_eq_true', Bool.not_eq_false', Int.toNat_natCast, inK_i64, List.length_set, List.length_cons, List.length_nil]
  refine ⟨by decide, fun _ => ⟨by decide +kernel, fun _ => ⟨by omega, fun _ => ?_⟩⟩⟩
  rw [hN] at *
  generalize ohands (N : Int) l = t at *
  refine Reach.loopI EOverEnds_ok FOverEnds_ok (fun s : Nat × OverD => EOverEnds_s11 (s.1 : Int) s.2.1 s.2.2.1) (fun s => J N s.2 ∧ phi s.2 N + s.1 ≤ 312) (fun s => 2000 - s.1) 1000 (fun _ => ⟨uniq_of rfl, uniq_of rfl⟩) ?_ (0, t) ⟨hJ, by have := phi_le hJ.wl hJ.n1.2; simpa using this⟩
  rintro ⟨i, t⟩ ⟨k1, k2⟩ - ih
  have k1 : J N t := k1
  have k2 : phi t N + i ≤ 312 := k2
  have h9 := phi_nn (t := t) (n := N)
  refine holds_of_eq (EOverEnds_l11 ..) ?_
  change Tree.holds _ _ _
  have hok : ¬ ocheck t ≠ 0 := by simp [k1.ok]
  have hlen := k1.len
  have hn1 := k1.n1
  simp only [holds_cond, Tree.holds, true_and, true_implies, decide_eq_true_eq, decide_eq_false_iff_not, Bool.not_eq_true', Bool.not_eq_false', Int.toNat_natCast, inK_i64, List.length_set, List.length_cons, List.length_nil]
  refine ⟨fun c => ⟨fun d => ?_, fun d => ⟨fun e => ?_, fun e => ?_⟩⟩, fun c => by omega⟩
  · have d : (0 : Int) < t.2.1.length := d
    have ht : otake t 0 = (take1 t (0 : Nat), 0, ()) := by
      rw [otake, if_neg hok, if_neg (by rw [inF_iff.2 ⟨by omega, by omega⟩]; simp)]; rfl
    have ht' : otake (t.1, t.2.1, ()) 0 = (take1 t (0 : Nat), 0, ()) := ht
    rw [ht']
    refine ⟨fun a => absurd rfl a, fun _ => ⟨by omega, fun _ => ?_⟩⟩
    have hj := take_J k1 (k := 0) (by omega)
    have hp := phi_take k1 (k := 0) (by omega)
    exact ih (i + 1, take1 t (0 : Nat)) ⟨hj, by show phi (take1 t _) N + ((i + 1 : Nat) : Int) ≤ 312; omega⟩ (by show 2000 - (i + 1) < 2000 - i; omega)
  · obtain ⟨k, f1, f2, f3⟩ := idx_hit (d := hand0) (show 0 ≤ idxGo busyH t.1 0 from e)
    have e1 : idxOf busyH t.1 = (k : Int) := by rw [idxOf, f1]; simp
    have hkN : k < N := by omega
    have hb : bz t k = true := f3
    have hw0 : t.2.1.length = 0 := by
      have d : ¬ (0 : Int) < t.2.1.length := d
      omega
    have ht : orest t (k : Int) = (rest1 t k, 0, ()) := by
      rw [orest, if_neg hok, if_neg (by rw [inF_iff.2 ⟨by omega, by omega⟩]; simp), if_neg (by show ¬ bz t k = false; rw [hb]; simp), if_neg (by omega)]
    have ht' : orest (t.1, t.2.1, ()) (idxOf busyH t.1) = (rest1 t k, 0, ()) := by rw [e1]; exact ht
    change (_ → _) ∧ (_ → _)
    rw [ht']
    refine ⟨fun a => absurd rfl a, fun _ => ⟨by omega, fun _ => ?_⟩⟩
    have hj := rest_J k1 hkN (by omega)
    have hp := phi_rest k1 hkN hb
    exact ih (i + 1, rest1 t k) ⟨hj, by show phi (rest1 t _) N + ((i + 1 : Nat) : Int) ≤ 312; omega⟩ (by show 2000 - (i + 1) < 2000 - i; omega)
  · have hw0 : t.2.1 = [] := List.length_eq_zero_iff.1 (by
      have d : ¬ (0 : Int) < t.2.1.length := d
      omega)
    have hz : ∀ q, q < N → bz t q = false := fun q hq => by
      cases hb : bz t q with
      | false => rfl
      | true =>
        exfalso
        exact e (idxGo_iff.2 ⟨t.1.getD q hand0, getD_mem (by omega), hb⟩)
    have h0 := ended k1 hw0 hz
    have ho : odone (t.1, t.2.1, ()) = (!(bz t 0) && decide (ow t 0 = 0), 0, ()) := by
      show odone t = _
      rw [odone, if_neg hok]; rfl
    rw [ho]
    refine ⟨fun _ => ?_, fun a => absurd rfl a⟩
    show ((_, ()) : Bool × Unit) = (true, ())
    rw [hz 0 (by omega), h0]; rfl
end Go.Proofs.Ytbcdpeogfghgcaa
