/- The contracts of the package ring's functions. -/
import Derived.Test.YtcafiieffenohaaRingI
namespace Go.Proofs.Ytcafiieffenohaa
open Go.Ex
set_option maxRecDepth 100000
theorem take_getD {α : Type} {l : List α} {i : Nat} (h : i < l.length) (d : α) : l.take (i + 1) = l.take i ++ [l.getD i d] := by
  rw [List.take_succ_eq_append_getElem h, List.getD_eq_getElem?_getD, List.getElem?_eq_getElem h]; rfl
def idxI (l : List Int) (x : Int) : Int := idxOf (fun y => decide (x = y)) l
def cidxI : Ctr := { ps := [.v (.slc false I64), .v I64], rs := [I64], pre := fun _ => True, fn := fun x => (idxI x.1 x.2.1, ()), out := fun _ => () }
noncomputable def EidxI : Env := { P := Try.prog, tt := tt, ctr := [], res := [Go.ResultVar.tmp 4], rs := [Ty.int IntKind.i64], ps := [PK.v (Ty.slc false (Ty.int IntKind.i64)), PK.v (Ty.int IntKind.i64)], cuts := [(2, [(0, none), (1, none), (7, none), (8, none)])], nt := 19 }
theorem EidxI_ok : EnvOk EidxI := envOk tt_ok trivial
theorem FidxI_ok : FnOk EidxI Try.f78 := ⟨rfl, rfl⟩
theorem EidxI_t (x0 : List Int) (x1 : Int) : exec EidxI 1000 [.code (bodyOf Try.prog 78)] (initSt cidxI.ps ((x0, x1, ()))) =
  .cut (loopAt (bodyOf Try.prog 78) 2).1 (loopAt (bodyOf Try.prog 78) 2).2 (St.mk [(0, AV.val (Ty.slc false (Ty.int IntKind.i64)) x0), (1, AV.val (Ty.int IntKind.i64) x1), (7, AV.val (Ty.int IntKind.i64) (↑(List.length x0) : Int)), (8, AV.val (Ty.int IntKind.i64) (0 : Int))] []) := by kernel_rfl
def EidxI_s2 (v0 : List Int) (v1 : Int) (v7 : Int) (v8 : Int) : St := St.mk [(0, AV.val (Ty.slc false (Ty.int IntKind.i64)) v0), (1, AV.val (Ty.int IntKind.i64) v1), (7, AV.val (Ty.int IntKind.i64) v7), (8, AV.val (Ty.int IntKind.i64) v8)] []
theorem EidxI_l2 (v0 : List Int) (v1 : Int) (v7 : Int) (v8 : Int) : exec EidxI 1000 (.code (loopAt (bodyOf Try.prog 78) 2).1 :: .inLoop (loopAt (bodyOf Try.prog 78) 2).1 :: (loopAt (bodyOf Try.prog 78) 2).2) (EidxI_s2 v0 v1 v7 v8) =
  cond (decide (v8 < v7)) (.need ((0 : Int) ≤ v8 ∧ v8 < (↑(List.length v0) : Int)) (cond (decide (v1 = List.getD v0 (Int.toNat v8) (0 : Int))) (.ret ((v8, ()))) (.need (inK IntKind.i64 (v8 + (1 : Int))) (.cut (loopAt (bodyOf Try.prog 78) 2).1 (loopAt (bodyOf Try.prog 78) 2).2 (St.mk [(0, AV.val (Ty.slc false (Ty.int IntKind.i64)) v0), (1, AV.val (Ty.int IntKind.i64) v1), (7, AV.val (Ty.int IntKind.i64) v7), (8, AV.val (Ty.int IntKind.i64) (v8 + (1 : Int)))] []))))) (.ret (((-1 : Int), ()))) := by kernel_rfl
theorem cidxI_valid : cidxI.Valid Try.prog 78 := by
  refine Ctr.valid_of EidxI_ok rfl rfl Try.func78 (c := bodyOf Try.prog 78) rfl rfl FidxI_ok rfl ?_
  rintro ⟨(l : List Int), (x : Int), ⟨⟩⟩ - ⟨⟨hl, -⟩, -⟩
  have hl : l.length ≤ 9223372036854775807 := hl
  refine exec_sound (n := 1000) EidxI_ok FidxI_ok ?_
  refine holds_of_eq (EidxI_t l x) ?_
  refine Reach.loopI EidxI_ok FidxI_ok (fun i : Nat => EidxI_s2 l x (l.length : Int) (i : Int)) (fun i => i ≤ l.length ∧ idxI l x = idxGo (fun y => decide (x = y)) (l.drop i) i)
    (fun i => l.length - i) 1000 (fun _ => ⟨uniq_of rfl, uniq_of rfl⟩) ?_ 0 ⟨by omega, rfl⟩
  rintro i ⟨k1, k2⟩ - ih
  refine holds_of_eq (EidxI_l2 ..) ?_
  simp only [holds_cond, Tree.holds, true_and, true_implies, decide_eq_true_eq, decide_eq_false_iff_not, Bool.not_eq_true', Bool.not_eq_false', Int.toNat_natCast, inK_i64, List.length_set, List.length_cons, List.length_nil]
  refine ⟨fun h => ?_, fun h => ?_⟩
  · rw [drop_getD (show i < l.length by omega) 0, idxGo] at k2
    refine ⟨by omega, fun _ => ⟨fun c => ?_, fun c => ⟨by omega, fun _ => ih (i + 1) ⟨by omega, ?_⟩ (by omega)⟩⟩⟩
    · show (((i : Int), ()) : Int × Unit) = (idxI l x, ())
      rw [k2, if_pos (decide_eq_true c)]
    · rw [k2, if_neg (fun h9 => c (of_decide_eq_true h9))]
  · rw [List.drop_eq_nil_of_le (by omega)] at k2
    show (((-1 : Int), ()) : Int × Unit) = (idxI l x, ())
    rw [k2]; rfl
def containsI (l : List Int) (x : Int) : Bool := decide (x ∈ l)
def ccontI : Ctr := { ps := [.v (.slc false I64), .v I64], rs := [.bool], pre := fun _ => True, fn := fun x => (containsI x.1 x.2.1, ()), out := fun _ => () }
noncomputable def EcontI : Env := { P := Try.prog, tt := tt, ctr := [(78, cidxI)], res := [Go.ResultVar.tmp 4], rs := [Ty.bool], ps := [PK.v (Ty.slc false (Ty.int IntKind.i64)), PK.v (Ty.int IntKind.i64)], cuts := [], nt := 9 }
theorem EcontI_ok : EnvOk EcontI := envOk tt_ok ⟨cidxI_valid, trivial⟩
theorem FcontI_ok : FnOk EcontI Try.f77 := ⟨rfl, rfl⟩
theorem EcontI_t (x0 : List Int) (x1 : Int) : exec EcontI 1000 [.code (bodyOf Try.prog 77)] (initSt ccontI.ps ((x0, x1, ()))) =
  .need (True) (.ret ((decide ((0 : Int) ≤ idxI x0 x1), ()))) := by kernel_rfl
theorem ccontI_valid : ccontI.Valid Try.prog 77 := by
  refine Ctr.valid_of EcontI_ok rfl rfl Try.func77 (c := bodyOf Try.prog 77) rfl rfl FcontI_ok rfl ?_
  rintro ⟨(l : List Int), (x : Int), ⟨⟩⟩ - -
  refine exec_sound (n := 1000) EcontI_ok FcontI_ok ?_
  refine holds_of_eq (EcontI_t l x) ?_
  refine ⟨trivial, fun _ => ?_⟩
  show ((decide (0 ≤ idxI l x), ()) : Bool × Unit) = (decide (x ∈ l), ())
  have : (0 ≤ idxI l x) ↔ x ∈ l := by
    rw [idxI, idxOf, idxGo_iff]
    constructor
    · rintro ⟨y, h1, h2⟩; rw [of_decide_eq_true h2]; exact h1
    · intro h; exact ⟨_, h, decide_eq_true rfl⟩
  rw [decide_eq_decide.2 this]
def idxB (l : List Bool) (x : Bool) : Int := idxOf (fun y => decide (x = y)) l
def cidxB : Ctr := { ps := [.v (.slc false .bool), .v .bool], rs := [I64], pre := fun _ => True, fn := fun x => (idxB x.1 x.2.1, ()), out := fun _ => () }
noncomputable def EidxB : Env := { P := Try.prog, tt := tt, ctr := [], res := [Go.ResultVar.tmp 4], rs := [Ty.int IntKind.i64], ps := [PK.v (Ty.slc false Ty.bool), PK.v Ty.bool], cuts := [(2, [(0, none), (1, none), (7, none), (8, none)])], nt := 19 }
theorem EidxB_ok : EnvOk EidxB := envOk tt_ok trivial
theorem FidxB_ok : FnOk EidxB Try.f64 := ⟨rfl, rfl⟩
theorem EidxB_t (x0 : List Bool) (x1 : Bool) : exec EidxB 1000 [.code (bodyOf Try.prog 64)] (initSt cidxB.ps ((x0, x1, ()))) =
  .cut (loopAt (bodyOf Try.prog 64) 2).1 (loopAt (bodyOf Try.prog 64) 2).2 (St.mk [(0, AV.val (Ty.slc false Ty.bool) x0), (1, AV.val Ty.bool x1), (7, AV.val (Ty.int IntKind.i64) (↑(List.length x0) : Int)), (8, AV.val (Ty.int IntKind.i64) (0 : Int))] []) := by kernel_rfl
def EidxB_s2 (v0 : List Bool) (v1 : Bool) (v7 : Int) (v8 : Int) : St := St.mk [(0, AV.val (Ty.slc false Ty.bool) v0), (1, AV.val Ty.bool v1), (7, AV.val (Ty.int IntKind.i64) v7), (8, AV.val (Ty.int IntKind.i64) v8)] []
theorem EidxB_l2 (v0 : List Bool) (v1 : Bool) (v7 : Int) (v8 : Int) : exec EidxB 1000 (.code (loopAt (bodyOf Try.prog 64) 2).1 :: .inLoop (loopAt (bodyOf Try.prog 64) 2).1 :: (loopAt (bodyOf Try.prog 64) 2).2) (EidxB_s2 v0 v1 v7 v8) =
  cond (decide (v8 < v7)) (.need ((0 : Int) ≤ v8 ∧ v8 < (↑(List.length v0) : Int)) (cond (v1 == List.getD v0 (Int.toNat v8) false) (.ret ((v8, ()))) (.need (inK IntKind.i64 (v8 + (1 : Int))) (.cut (loopAt (bodyOf Try.prog 64) 2).1 (loopAt (bodyOf Try.prog 64) 2).2 (St.mk [(0, AV.val (Ty.slc false Ty.bool) v0), (1, AV.val Ty.bool v1), (7, AV.val (Ty.int IntKind.i64) v7), (8, AV.val (Ty.int IntKind.i64) (v8 + (1 : Int)))] []))))) (.ret (((-1 : Int), ()))) := by kernel_rfl
theorem cidxB_valid : cidxB.Valid Try.prog 64 := by
  refine Ctr.valid_of EidxB_ok rfl rfl Try.func64 (c := bodyOf Try.prog 64) rfl rfl FidxB_ok rfl ?_
  rintro ⟨(l : List Bool), (x : Bool), ⟨⟩⟩ - ⟨⟨hl, -⟩, -⟩
  have hl : l.length ≤ 9223372036854775807 := hl
  refine exec_sound (n := 1000) EidxB_ok FidxB_ok ?_
  refine holds_of_eq (EidxB_t l x) ?_
  refine Reach.loopI EidxB_ok FidxB_ok (fun i : Nat => EidxB_s2 l x (l.length : Int) (i : Int)) (fun i => i ≤ l.length ∧ idxB l x = idxGo (fun y => decide (x = y)) (l.drop i) i)
    (fun i => l.length - i) 1000 (fun _ => ⟨uniq_of rfl, uniq_of rfl⟩) ?_ 0 ⟨by omega, rfl⟩
  rintro i ⟨k1, k2⟩ - ih
  refine holds_of_eq (EidxB_l2 ..) ?_
  simp only [holds_cond, Tree.holds, true_and, true_implies, decide_eq_true_eq, decide_eq_false_iff_not, Bool.not_eq_true', Bool.not_eq_false', Int.toNat_natCast, inK_i64, List.length_set, List.length_cons, List.length_nil]
  refine ⟨fun h => ?_, fun h => ?_⟩
  · rw [drop_getD (show i < l.length by omega) false, idxGo] at k2
    refine ⟨by omega, fun _ => ⟨fun c => ?_, fun c => ⟨by omega, fun _ => ih (i + 1) ⟨by omega, ?_⟩ (by omega)⟩⟩⟩
    · show (((i : Int), ()) : Int × Unit) = (idxB l x, ())
      rw [k2, if_pos (decide_eq_true (eq_of_beq c))]
    · rw [k2, if_neg (fun h9 => by rw [of_decide_eq_true h9, beq_self_eq_true] at c; cases c)]
  · rw [List.drop_eq_nil_of_le (by omega)] at k2
    show (((-1 : Int), ()) : Int × Unit) = (idxB l x, ())
    rw [k2]; rfl
def cmaxL : Ctr := { ps := [.v (.slc false I64)], rs := [I64], pre := fun x => 1 ≤ List.length x.1, fn := fun x => (maxL x.1, ()), out := fun _ => () }
noncomputable def EmaxL : Env := { P := Try.prog, tt := tt, ctr := [], res := [Go.ResultVar.tmp 2], rs := [Ty.int IntKind.i64], ps := [PK.v (Ty.slc false (Ty.int IntKind.i64))], cuts := [(5, [(0, none), (3, none), (4, none)])], nt := 25 }
theorem EmaxL_ok : EnvOk EmaxL := envOk tt_ok trivial
theorem FmaxL_ok : FnOk EmaxL Try.f38 := ⟨rfl, rfl⟩
theorem EmaxL_t (x0 : List Int) : exec EmaxL 1000 [.code (bodyOf Try.prog 38)] (initSt cmaxL.ps ((x0, ()))) =
  cond (decide ((↑(List.length x0) : Int) < (1 : Int))) (.stuck "op") (.need ((0 : Int) ≤ (0 : Int) ∧ (0 : Int) < (↑(List.length x0) : Int)) (.cut (loopAt (bodyOf Try.prog 38) 5).1 (loopAt (bodyOf Try.prog 38) 5).2 (St.mk [(0, AV.val (Ty.slc false (Ty.int IntKind.i64)) x0), (3, AV.val (Ty.int IntKind.i64) (List.getD x0 (Int.toNat (0 : Int)) (0 : Int))), (4, AV.val (Ty.int IntKind.i64) (1 : Int))] []))) := by kernel_rfl
def EmaxL_s5 (v0 : List Int) (v3 : Int) (v4 : Int) : St := St.mk [(0, AV.val (Ty.slc false (Ty.int IntKind.i64)) v0), (3, AV.val (Ty.int IntKind.i64) v3), (4, AV.val (Ty.int IntKind.i64) v4)] []
theorem EmaxL_l5 (v0 : List Int) (v3 : Int) (v4 : Int) : exec EmaxL 1000 (.code (loopAt (bodyOf Try.prog 38) 5).1 :: .inLoop (loopAt (bodyOf Try.prog 38) 5).1 :: (loopAt (bodyOf Try.prog 38) 5).2) (EmaxL_s5 v0 v3 v4) =
  cond (decide (v4 < (↑(List.length v0) : Int))) (.need ((0 : Int) ≤ v4 ∧ v4 < (↑(List.length v0) : Int)) (.need (inK IntKind.i64 (v4 + (1 : Int))) (.cut (loopAt (bodyOf Try.prog 38) 5).1 (loopAt (bodyOf Try.prog 38) 5).2 (St.mk [(0, AV.val (Ty.slc false (Ty.int IntKind.i64)) v0), (3, AV.val (Ty.int IntKind.i64) (if v3 < List.getD v0 (Int.toNat v4) (0 : Int) then List.getD v0 (Int.toNat v4) (0 : Int) else v3)), (4, AV.val (Ty.int IntKind.i64) (v4 + (1 : Int)))] [])))) (.ret ((v3, ()))) := by kernel_rfl
theorem cmaxL_valid : cmaxL.Valid Try.prog 38 := by
  refine Ctr.valid_of EmaxL_ok rfl rfl Try.func38 (c := bodyOf Try.prog 38) rfl rfl FmaxL_ok rfl ?_
  rintro ⟨(l : List Int), ⟨⟩⟩ (h1 : 1 ≤ l.length) ⟨⟨hl, -⟩, -⟩
  have hl : l.length ≤ 9223372036854775807 := hl
  refine exec_sound (n := 1000) EmaxL_ok FmaxL_ok ?_
  refine holds_of_eq (EmaxL_t l) ?_
  simp only [holds_cond, Tree.holds, true_and, true_implies, decide_eq_true_eq, decide_eq_false_iff_not, Bool.not_eq_true', Bool.not_eq_false', Int.toNat_natCast, inK_i64, List.length_set, List.length_cons, List.length_nil]
  refine ⟨fun h => by omega, fun _ => ⟨by omega, fun _ => ?_⟩⟩
  refine Reach.loopI EmaxL_ok FmaxL_ok (fun p : Nat × Int => EmaxL_s5 l p.2 (p.1 : Int)) (fun p => 1 ≤ p.1 ∧ p.1 ≤ l.length ∧ p.2 = (l.take p.1).foldl maxI (l.getD 0 0))
    (fun p => l.length - p.1) 1000 (fun _ => ⟨uniq_of rfl, uniq_of rfl⟩) ?_ (1, l.getD 0 0) ⟨by omega, h1, ?_⟩
  · rintro ⟨i, v⟩ ⟨k1, k2, k3⟩ - ih
    have k1 : 1 ≤ i := k1
    have k2 : i ≤ l.length := k2
    have k3 : v = (l.take i).foldl maxI (l.getD 0 0) := k3
    refine holds_of_eq (EmaxL_l5 ..) ?_
    simp only [holds_cond, Tree.holds, true_and, true_implies, decide_eq_true_eq, decide_eq_false_iff_not, Bool.not_eq_true', Bool.not_eq_false', Int.toNat_natCast, inK_i64, List.length_set, List.length_cons, List.length_nil]
    refine ⟨fun h => ⟨by omega, fun _ => ⟨by omega, fun _ => ?_⟩⟩, fun h => ?_⟩
    · refine ih (i + 1, maxI v (l.getD i 0)) ⟨by show 1 ≤ i + 1; omega, by show i + 1 ≤ l.length; omega, ?_⟩ (by show l.length - (i + 1) < l.length - i; omega)
      show maxI v (l.getD i 0) = (l.take (i + 1)).foldl maxI (l.getD 0 0)
      rw [take_getD (show i < l.length by omega) 0, List.foldl_append, k3]; rfl
    · show ((v, ()) : Int × Unit) = (maxL l, ())
      rw [k3, List.take_of_length_le (by omega)]
      match l, h1 with
      | x :: t, _ => show (((x :: t).foldl maxI x, ()) : Int × Unit) = _; simp [maxL, maxI]
  · match l, h1 with
    | x :: t, _ => simp [maxI]
def cleader : Ctr := { ps := [.v (.slc false I64)], rs := [I64], pre := fun x => 1 ≤ List.length x.1, fn := fun x => (leaderF x.1, ()), out := fun _ => () }
noncomputable def Eleader : Env := { P := Try.prog, tt := tt, ctr := [(38, cmaxL), (78, cidxI)], res := [Go.ResultVar.tmp 2], rs := [Ty.int IntKind.i64], ps := [PK.v (Ty.slc false (Ty.int IntKind.i64))], cuts := [], nt := 7 }
theorem Eleader_ok : EnvOk Eleader := envOk tt_ok ⟨cmaxL_valid, cidxI_valid, trivial⟩
theorem Fleader_ok : FnOk Eleader Try.f52 := ⟨rfl, rfl⟩
theorem Eleader_t (x0 : List Int) : exec Eleader 1000 [.code (bodyOf Try.prog 52)] (initSt cleader.ps ((x0, ()))) =
  .need (1 ≤ List.length x0) (.need (True) (.ret ((idxI x0 (maxL x0), ())))) := by kernel_rfl
theorem cleader_valid : cleader.Valid Try.prog 52 := by
  refine Ctr.valid_of Eleader_ok rfl rfl Try.func52 (c := bodyOf Try.prog 52) rfl rfl Fleader_ok rfl ?_
  rintro ⟨(l : List Int), ⟨⟩⟩ (h1 : 1 ≤ l.length) -
  refine exec_sound (n := 1000) Eleader_ok Fleader_ok ?_
  refine holds_of_eq (Eleader_t l) ?_
  simp only [holds_cond, Tree.holds, true_and, true_implies, decide_eq_true_eq, decide_eq_false_iff_not, Bool.not_eq_true', Bool.not_eq_false', Int.toNat_natCast, inK_i64, List.length_set, List.length_cons, List.length_nil]
  exact ⟨h1, fun _ => rfl⟩
def crcheck : Ctr := { ps := [.v (.slc false I64)], rs := [I64], pre := fun _ => True, fn := fun x => (rcheck x.1, ()), out := fun _ => () }
noncomputable def Ercheck : Env := { P := Try.prog, tt := tt, ctr := [(77, ccontI)], res := [Go.ResultVar.tmp 2], rs := [Ty.int IntKind.i64], ps := [PK.v (Ty.slc false (Ty.int IntKind.i64))], cuts := [(4, [(0, none), (13, none), (14, none), (15, none)])], nt := 34 }
theorem Ercheck_ok : EnvOk Ercheck := envOk tt_ok ⟨ccontI_valid, trivial⟩
theorem Frcheck_ok : FnOk Ercheck Try.f51 := ⟨rfl, rfl⟩
theorem Ercheck_t (x0 : List Int) : exec Ercheck 1000 [.code (bodyOf Try.prog 51)] (initSt crcheck.ps ((x0, ()))) =
  cond (decide ((↑(List.length x0) : Int) < (1 : Int))) (.ret (((1 : Int), ()))) (cond (decide ((30 : Int) < (↑(List.length x0) : Int))) (.ret (((1 : Int), ()))) (.cut (loopAt (bodyOf Try.prog 51) 4).1 (loopAt (bodyOf Try.prog 51) 4).2 (St.mk [(0, AV.val (Ty.slc false (Ty.int IntKind.i64)) x0), (13, AV.val (Ty.slc false (Ty.int IntKind.i64)) x0), (14, AV.val (Ty.int IntKind.i64) (↑(List.length x0) : Int)), (15, AV.val (Ty.int IntKind.i64) (0 : Int))] []))) := by kernel_rfl
def Ercheck_s4 (v0 : List Int) (v13 : List Int) (v14 : Int) (v15 : Int) : St := St.mk [(0, AV.val (Ty.slc false (Ty.int IntKind.i64)) v0), (13, AV.val (Ty.slc false (Ty.int IntKind.i64)) v13), (14, AV.val (Ty.int IntKind.i64) v14), (15, AV.val (Ty.int IntKind.i64) v15)] []
theorem Ercheck_l4 (v0 : List Int) (v13 : List Int) (v14 : Int) (v15 : Int) : exec Ercheck 1000 (.code (loopAt (bodyOf Try.prog 51) 4).1 :: .inLoop (loopAt (bodyOf Try.prog 51) 4).1 :: (loopAt (bodyOf Try.prog 51) 4).2) (Ercheck_s4 v0 v13 v14 v15) =
  cond (decide (v15 < v14)) (.need ((0 : Int) ≤ v15 ∧ v15 < (↑(List.length v13) : Int)) (cond (decide (List.getD v13 (Int.toNat v15) (0 : Int) < (0 : Int))) (.ret (((1 : Int), ()))) (cond (decide ((16777215 : Int) < List.getD v13 (Int.toNat v15) (0 : Int))) (.ret (((1 : Int), ()))) (.need ((0 : Int) ≤ (0 : Int) ∧ (0 : Int) ≤ v15 ∧ v15 ≤ (↑(List.length v0) : Int)) (.need (True) (cond (containsI (cut2 (0 : Int) v15 v0) (List.getD v13 (Int.toNat v15) (0 : Int))) (.ret (((4 : Int), ()))) (.need (inK IntKind.i64 (v15 + (1 : Int))) (.cut (loopAt (bodyOf Try.prog 51) 4).1 (loopAt (bodyOf Try.prog 51) 4).2 (St.mk [(0, AV.val (Ty.slc false (Ty.int IntKind.i64)) v0), (13, AV.val (Ty.slc false (Ty.int IntKind.i64)) v13), (14, AV.val (Ty.int IntKind.i64) v14), (15, AV.val (Ty.int IntKind.i64) (v15 + (1 : Int)))] []))))))))) (.ret (((0 : Int), ()))) := by kernel_rfl
theorem crcheck_valid : crcheck.Valid Try.prog 51 := by
  refine Ctr.valid_of Ercheck_ok rfl rfl Try.func51 (c := bodyOf Try.prog 51) rfl rfl Frcheck_ok rfl ?_
  rintro ⟨(l : List Int), ⟨⟩⟩ - ⟨⟨hl, -⟩, -⟩
  have hl : l.length ≤ 9223372036854775807 := hl
  refine exec_sound (n := 1000) Ercheck_ok Frcheck_ok ?_
  refine holds_of_eq (Ercheck_t l) ?_
  simp only [holds_cond, Tree.holds, true_and, true_implies, decide_eq_true_eq, decide_eq_false_iff_not, Bool.not_eq_true', Bool.not_eq_false', Int.toNat_natCast, inK_i64, List.length_set, List.length_cons, List.length_nil]
  refine ⟨fun h => ?_, fun h => ⟨fun h2 => ?_, fun h2 => ?_⟩⟩
  · show (((1 : Int), ()) : Int × Unit) = (rcheck l, ())
    rw [rcheck, if_pos (by omega)]
  · show (((1 : Int), ()) : Int × Unit) = (rcheck l, ())
    rw [rcheck, if_pos (by omega)]
  refine Reach.loopI Ercheck_ok Frcheck_ok (fun i : Nat => Ercheck_s4 l l (l.length : Int) (i : Int)) (fun i => i ≤ l.length ∧ rcheck l = ringGo (l.take i) (l.drop i))
    (fun i => l.length - i) 1000 (fun _ => ⟨uniq_of rfl, uniq_of rfl⟩) ?_ 0 ⟨by omega, by rw [rcheck, if_neg (by omega)]; rfl⟩
  rintro i ⟨k1, k2⟩ - ih
  refine holds_of_eq (Ercheck_l4 ..) ?_
  simp only [holds_cond, Tree.holds, true_and, true_implies, decide_eq_true_eq, decide_eq_false_iff_not, Bool.not_eq_true', Bool.not_eq_false', Int.toNat_natCast, inK_i64, List.length_set, List.length_cons, List.length_nil]
  refine ⟨fun h => ?_, fun h => ?_⟩
  · rw [drop_getD (show i < l.length by omega) 0, ringGo] at k2
    refine ⟨by omega, fun _ => ⟨fun c => ?_, fun c => ⟨fun c2 => ?_, fun c2 => ⟨by omega, fun _ => ?_⟩⟩⟩⟩
    · show (((1 : Int), ()) : Int × Unit) = (rcheck l, ())
      rw [k2, if_pos (.inl c)]
    · show (((1 : Int), ()) : Int × Unit) = (rcheck l, ())
      rw [k2, if_pos (.inr c2)]
    · rw [if_neg (by omega)] at k2
      have e : cut2 0 (i : Int) l = l.take i := rfl
      rw [e]
      refine ⟨fun c3 => ?_, fun c3 => ⟨by omega, fun _ => ih (i + 1) ⟨by omega, ?_⟩ (by omega)⟩⟩
      · show (((4 : Int), ()) : Int × Unit) = (rcheck l, ())
        rw [k2, if_pos (of_decide_eq_true c3)]
      · rw [k2, if_neg (of_decide_eq_false c3), take_getD (show i < l.length by omega) 0]
  · rw [List.drop_eq_nil_of_le (by omega)] at k2
    show (((0 : Int), ()) : Int × Unit) = (rcheck l, ())
    rw [k2]; rfl
end Go.Proofs.Ytcafiieffenohaa
