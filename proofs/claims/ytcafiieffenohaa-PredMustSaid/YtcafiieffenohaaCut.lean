/- The contracts of the package cut's functions. -/
import Derived.Test.YtcafiieffenohaaVect
import Derived.Test.YtcafiieffenohaaCutH
namespace Go.Proofs.Ytcafiieffenohaa
open Go.Ex
set_option maxRecDepth 100000
abbrev VecsT : Ty := .arr 6 (.slc true Vec)
abbrev VecsS : Ty := .arr 6 (.slc false Vec)
def hPre (h : List Ev) : Prop := scheck h = 0
def ccounts : Ctr := { ps := [.v Es], rs := [Vec], pre := fun x => hPre x.1, fn := fun x => (cntV x.1 x.1.length, ()), out := fun _ => () }
noncomputable def Ecounts : Env := { P := Try.prog, tt := tt, ctr := [], res := [Go.ResultVar.cell 2 41], rs := [Ty.arr 6 (Ty.int IntKind.i64)], ps := [PK.v Es], cuts := [(3, [(2, none), (3, none), (6, none), (7, none), (8, none)])], nt := 20 }
theorem Ecounts_ok : EnvOk Ecounts := envOk tt_ok trivial
theorem Fcounts_ok : FnOk Ecounts Try.f91 := ⟨rfl, rfl⟩
theorem Ecounts_t (x0 : List (Int × Int × Int × Unit)) : exec Ecounts 1000 [.code (bodyOf Try.prog 91)] (initSt ccounts.ps ((x0, ()))) =
  .cut (loopAt (bodyOf Try.prog 91) 3).1 (loopAt (bodyOf Try.prog 91) 3).2 (St.mk [(2, AV.ptr 2 []), (3, AV.ptr 3 []), (6, AV.val Es x0), (7, AV.val (Ty.int IntKind.i64) (↑(List.length x0) : Int)), (8, AV.val (Ty.int IntKind.i64) (0 : Int))] [(2, Ent.var Vec [(0 : Int), (0 : Int), (0 : Int), (0 : Int), (0 : Int), (0 : Int)]), (3, Ent.var Vec [(0 : Int), (0 : Int), (0 : Int), (0 : Int), (0 : Int), (0 : Int)])]) := by kernel_rfl
def Ecounts_s3 (v6 : List (Int × Int × Int × Unit)) (v7 : Int) (v8 : Int) (o2 : List Int) (o3 : List Int) : St := St.mk [(2, AV.ptr 2 []), (3, AV.ptr 3 []), (6, AV.val Es v6), (7, AV.val (Ty.int IntKind.i64) v7), (8, AV.val (Ty.int IntKind.i64) v8)] [(2, Ent.var Vec o2), (3, Ent.var Vec o3)]
theorem Ecounts_l3 (v6 : List (Int × Int × Int × Unit)) (v7 : Int) (v8 : Int) (o2 : List Int) (o3 : List Int) : exec Ecounts 1000 (.code (loopAt (bodyOf Try.prog 91) 3).1 :: .inLoop (loopAt (bodyOf Try.prog 91) 3).1 :: (loopAt (bodyOf Try.prog 91) 3).2) (Ecounts_s3 v6 v7 v8 o2 o3) =
  cond (decide (v8 < v7)) (.need ((0 : Int) ≤ v8 ∧ v8 < (↑(List.length v6) : Int)) (.need ((0 : Int) ≤ Prod.fst (List.getD v6 (Int.toNat v8) ((0 : Int), (0 : Int), (0 : Int), ())) ∧ Prod.fst (List.getD v6 (Int.toNat v8) ((0 : Int), (0 : Int), (0 : Int), ())) < (↑6 : Int)) (.need (inK IntKind.i64 (List.getD o3 (Int.toNat (Prod.fst (List.getD v6 (Int.toNat v8) ((0 : Int), (0 : Int), (0 : Int), ())))) (0 : Int) + (1 : Int))) (.need ((0 : Int) ≤ Prod.fst (List.getD v6 (Int.toNat v8) ((0 : Int), (0 : Int), (0 : Int), ())) ∧ Prod.fst (List.getD v6 (Int.toNat v8) ((0 : Int), (0 : Int), (0 : Int), ())) < (↑6 : Int)) (.need (inK IntKind.i64 (v8 + (1 : Int))) (.cut (loopAt (bodyOf Try.prog 91) 3).1 (loopAt (bodyOf Try.prog 91) 3).2 (St.mk [(2, AV.ptr 2 []), (3, AV.ptr 3 []), (6, AV.val Es v6), (7, AV.val (Ty.int IntKind.i64) v7), (8, AV.val (Ty.int IntKind.i64) (v8 + (1 : Int)))] [(2, Ent.var Vec o2), (3, Ent.var Vec (List.set o3 (Int.toNat (Prod.fst (List.getD v6 (Int.toNat v8) ((0 : Int), (0 : Int), (0 : Int), ())))) (List.getD o3 (Int.toNat (Prod.fst (List.getD v6 (Int.toNat v8) ((0 : Int), (0 : Int), (0 : Int), ())))) (0 : Int) + (1 : Int))))]))))))) (.ret ((o3, ()))) := by kernel_rfl
theorem ccounts_valid : ccounts.Valid Try.prog 91 := by
  refine Ctr.valid_of Ecounts_ok rfl rfl Try.func91 (c := bodyOf Try.prog 91) rfl rfl Fcounts_ok rfl ?_
  rintro ⟨(h : List Ev), ⟨⟩⟩ hh -
  have hh : scheck h = 0 := hh
  refine exec_sound (n := 1000) Ecounts_ok Fcounts_ok ?_
  refine holds_of_eq (Ecounts_t h) ?_
  have hl := (scheck_ok hh).1
  refine Reach.loopI Ecounts_ok Fcounts_ok (fun i : Nat => Ecounts_s3 h (h.length : Int) (i : Int) v0 (cntV h i)) (fun i => i ≤ h.length) (fun i => h.length - i) 1000 (fun _ => ⟨uniq_of rfl, uniq_of rfl⟩) ?_ 0 (by omega)
  rintro i hi - ih
  refine holds_of_eq (Ecounts_l3 ..) ?_
  by_cases hi2 : i < h.length
  · have ho := hist_ok hh hi2
    have e1 : (h.getD i e0).1 = (pr h i : Int) := by rw [ho.eq]
    have hp := ho.p
    have hcl := cnt_le' (h := h) (p := pr h i) (i := i)
    simp only [Int.toNat_natCast]
    rw [e1]
    simp only [holds_cond, Tree.holds, true_and, true_implies, decide_eq_true_eq, decide_eq_false_iff_not, Bool.not_eq_true', Bool.not_eq_false', Int.toNat_natCast, inK_i64, List.length_set, List.length_cons, List.length_nil]
    rw [cntV_at hp, cntV_set hp]
    exact ⟨fun _ => ⟨by omega, fun _ => ⟨by omega, fun _ => ⟨by omega, fun _ => ⟨by omega, fun _ => ⟨by omega, fun _ => ih (i + 1) (by omega) (by omega)⟩⟩⟩⟩⟩, fun h => absurd h (by omega)⟩
  · simp only [holds_cond, Tree.holds, true_and, true_implies, decide_eq_true_eq, decide_eq_false_iff_not, Bool.not_eq_true', Bool.not_eq_false', Int.toNat_natCast, inK_i64, List.length_set, List.length_cons, List.length_nil]
    refine ⟨fun b => absurd b (by omega), fun b => ?_⟩
    have e : i = h.length := by omega
    subst e; rfl
def csizes : Ctr := { ps := [.v Es], rs := [Vec], pre := fun x => hPre x.1, fn := fun x => (cntV x.1 x.1.length, ()), out := fun _ => () }
noncomputable def Esizes : Env := { P := Try.prog, tt := tt, ctr := [], res := [Go.ResultVar.cell 2 41], rs := [Ty.arr 6 (Ty.int IntKind.i64)], ps := [PK.v Es], cuts := [(3, [(2, none), (3, none), (6, none), (7, none), (8, none)])], nt := 20 }
theorem Esizes_ok : EnvOk Esizes := envOk tt_ok trivial
theorem Fsizes_ok : FnOk Esizes Try.f50 := ⟨rfl, rfl⟩
theorem Esizes_t (x0 : List (Int × Int × Int × Unit)) : exec Esizes 1000 [.code (bodyOf Try.prog 50)] (initSt csizes.ps ((x0, ()))) =
  .cut (loopAt (bodyOf Try.prog 50) 3).1 (loopAt (bodyOf Try.prog 50) 3).2 (St.mk [(2, AV.ptr 2 []), (3, AV.ptr 3 []), (6, AV.val Es x0), (7, AV.val (Ty.int IntKind.i64) (↑(List.length x0) : Int)), (8, AV.val (Ty.int IntKind.i64) (0 : Int))] [(2, Ent.var Vec [(0 : Int), (0 : Int), (0 : Int), (0 : Int), (0 : Int), (0 : Int)]), (3, Ent.var Vec [(0 : Int), (0 : Int), (0 : Int), (0 : Int), (0 : Int), (0 : Int)])]) := by kernel_rfl
def Esizes_s3 (v6 : List (Int × Int × Int × Unit)) (v7 : Int) (v8 : Int) (o2 : List Int) (o3 : List Int) : St := St.mk [(2, AV.ptr 2 []), (3, AV.ptr 3 []), (6, AV.val Es v6), (7, AV.val (Ty.int IntKind.i64) v7), (8, AV.val (Ty.int IntKind.i64) v8)] [(2, Ent.var Vec o2), (3, Ent.var Vec o3)]
theorem Esizes_l3 (v6 : List (Int × Int × Int × Unit)) (v7 : Int) (v8 : Int) (o2 : List Int) (o3 : List Int) : exec Esizes 1000 (.code (loopAt (bodyOf Try.prog 50) 3).1 :: .inLoop (loopAt (bodyOf Try.prog 50) 3).1 :: (loopAt (bodyOf Try.prog 50) 3).2) (Esizes_s3 v6 v7 v8 o2 o3) =
  cond (decide (v8 < v7)) (.need ((0 : Int) ≤ v8 ∧ v8 < (↑(List.length v6) : Int)) (.need ((0 : Int) ≤ Prod.fst (List.getD v6 (Int.toNat v8) ((0 : Int), (0 : Int), (0 : Int), ())) ∧ Prod.fst (List.getD v6 (Int.toNat v8) ((0 : Int), (0 : Int), (0 : Int), ())) < (↑6 : Int)) (.need (inK IntKind.i64 (List.getD o3 (Int.toNat (Prod.fst (List.getD v6 (Int.toNat v8) ((0 : Int), (0 : Int), (0 : Int), ())))) (0 : Int) + (1 : Int))) (.need ((0 : Int) ≤ Prod.fst (List.getD v6 (Int.toNat v8) ((0 : Int), (0 : Int), (0 : Int), ())) ∧ Prod.fst (List.getD v6 (Int.toNat v8) ((0 : Int), (0 : Int), (0 : Int), ())) < (↑6 : Int)) (.need (inK IntKind.i64 (v8 + (1 : Int))) (.cut (loopAt (bodyOf Try.prog 50) 3).1 (loopAt (bodyOf Try.prog 50) 3).2 (St.mk [(2, AV.ptr 2 []), (3, AV.ptr 3 []), (6, AV.val Es v6), (7, AV.val (Ty.int IntKind.i64) v7), (8, AV.val (Ty.int IntKind.i64) (v8 + (1 : Int)))] [(2, Ent.var Vec o2), (3, Ent.var Vec (List.set o3 (Int.toNat (Prod.fst (List.getD v6 (Int.toNat v8) ((0 : Int), (0 : Int), (0 : Int), ())))) (List.getD o3 (Int.toNat (Prod.fst (List.getD v6 (Int.toNat v8) ((0 : Int), (0 : Int), (0 : Int), ())))) (0 : Int) + (1 : Int))))]))))))) (.ret ((o3, ()))) := by kernel_rfl
theorem csizes_valid : csizes.Valid Try.prog 50 := by
  refine Ctr.valid_of Esizes_ok rfl rfl Try.func50 (c := bodyOf Try.prog 50) rfl rfl Fsizes_ok rfl ?_
  rintro ⟨(h : List Ev), ⟨⟩⟩ hh -
  have hh : scheck h = 0 := hh
  refine exec_sound (n := 1000) Esizes_ok Fsizes_ok ?_
  refine holds_of_eq (Esizes_t h) ?_
  have hl := (scheck_ok hh).1
  refine Reach.loopI Esizes_ok Fsizes_ok (fun i : Nat => Esizes_s3 h (h.length : Int) (i : Int) v0 (cntV h i)) (fun i => i ≤ h.length) (fun i => h.length - i) 1000 (fun _ => ⟨uniq_of rfl, uniq_of rfl⟩) ?_ 0 (by omega)
  rintro i hi - ih
  refine holds_of_eq (Esizes_l3 ..) ?_
  by_cases hi2 : i < h.length
  · have ho := hist_ok hh hi2
    have e1 : (h.getD i e0).1 = (pr h i : Int) := by rw [ho.eq]
    have hp := ho.p
    have hcl := cnt_le' (h := h) (p := pr h i) (i := i)
    simp only [Int.toNat_natCast]
    rw [e1]
    simp only [holds_cond, Tree.holds, true_and, true_implies, decide_eq_true_eq, decide_eq_false_iff_not, Bool.not_eq_true', Bool.not_eq_false', Int.toNat_natCast, inK_i64, List.length_set, List.length_cons, List.length_nil]
    rw [cntV_at hp, cntV_set hp]
    exact ⟨fun _ => ⟨by omega, fun _ => ⟨by omega, fun _ => ⟨by omega, fun _ => ⟨by omega, fun _ => ⟨by omega, fun _ => ih (i + 1) (by omega) (by omega)⟩⟩⟩⟩⟩, fun h => absurd h (by omega)⟩
  · simp only [holds_cond, Tree.holds, true_and, true_implies, decide_eq_true_eq, decide_eq_false_iff_not, Bool.not_eq_true', Bool.not_eq_false', Int.toNat_natCast, inK_i64, List.length_set, List.length_cons, List.length_nil]
    refine ⟨fun b => absurd b (by omega), fun b => ?_⟩
    have e : i = h.length := by omega
    subst e; rfl
def cutErr (h : List Ev) (c : List Int) : Int := if scheck h ≠ 0 then scheck h else if within v0 c = true ∧ within c (cntV h h.length) = true then 0 else 1
def ccheck : Ctr := { ps := [.v Es, .v Vec], rs := [I64], pre := fun _ => True, fn := fun x => (cutErr x.1 x.2.1, ()), out := fun _ => () }
noncomputable def Echeck : Env := { P := Try.prog, tt := tt, ctr := [(42, cscheck), (47, cwithin), (91, ccounts)], res := [Go.ResultVar.tmp 4], rs := [Ty.int IntKind.i64], ps := [PK.v Es, PK.v Vec], cuts := [], nt := 22 }
theorem Echeck_ok : EnvOk Echeck := envOk tt_ok ⟨cscheck_valid, cwithin_valid, ccounts_valid, trivial⟩
theorem Fcheck_ok : FnOk Echeck Try.f87 := ⟨rfl, rfl⟩
theorem Echeck_t (x0 : List (Int × Int × Int × Unit)) (x1 : List Int) : exec Echeck 1000 [.code (bodyOf Try.prog 87)] (initSt ccheck.ps ((x0, x1, ()))) =
  .need (True) (cond (decide (scheck x0 ≠ (0 : Int))) (.ret ((scheck x0, ()))) (.need (True) (cond (!within [(0 : Int), (0 : Int), (0 : Int), (0 : Int), (0 : Int), (0 : Int)] x1) (.ret (((1 : Int), ()))) (.need (hPre x0) (.need (True) (cond (!within x1 (cntV x0 (List.length x0))) (.ret (((1 : Int), ()))) (.ret (((0 : Int), ()))))))))) := by kernel_rfl
theorem ccheck_valid : ccheck.Valid Try.prog 87 := by
  refine Ctr.valid_of Echeck_ok rfl rfl Try.func87 (c := bodyOf Try.prog 87) rfl rfl Fcheck_ok rfl ?_
  rintro ⟨(h : List Ev), (c : List Int), ⟨⟩⟩ - -
  refine exec_sound (n := 1000) Echeck_ok Fcheck_ok ?_
  refine holds_of_eq (Echeck_t h c) ?_
  simp only [holds_cond, Tree.holds, true_and, true_implies, decide_eq_true_eq, decide_eq_false_iff_not, Bool.not_eq_true', Bool.not_eq_false', Int.toNat_natCast, inK_i64, List.length_set, List.length_cons, List.length_nil]
  refine ⟨fun a => ?_, fun a => ⟨fun b => ?_, fun b => ⟨(show scheck h = 0 from Decidable.of_not_not a), fun _ => ⟨fun d => ?_, fun d => ?_⟩⟩⟩⟩
  · show ((_, ()) : Int × Unit) = (cutErr h c, ()); rw [cutErr, if_pos a]
  · show ((_, ()) : Int × Unit) = (cutErr h c, ()); rw [cutErr, if_neg a, if_neg (by rintro ⟨h1, _⟩; rw [h1] at b; cases b)]
  · show ((_, ()) : Int × Unit) = (cutErr h c, ()); rw [cutErr, if_neg a, if_neg (by rintro ⟨_, h1⟩; rw [h1] at d; cases d)]
  · show ((_, ()) : Int × Unit) = (cutErr h c, ()); rw [cutErr, if_neg a, if_pos ⟨by simpa using b, by simpa using d⟩]
theorem cutErr_ok {h : List Ev} {c : List Int} (hc : c.length = 6) : cutErr h c = 0 ↔ scheck h = 0 ∧ CutOf h c := by
  unfold cutErr
  by_cases hh : scheck h = 0
  · rw [if_neg (by simp [hh])]
    constructor
    · intro h1
      split at h1
      · rename_i h2
        have a1 := (within_le hc).1 h2.1
        have a2 := (within_le cntV_len).1 h2.2
        exact ⟨hh, hc, fun p hp => by have := a1 p hp; rw [v0_at] at this; exact this, fun p hp => by have := a2 p hp; rw [cntV_at hp] at this; exact this⟩
      · cases h1
    · rintro ⟨_, h1⟩
      rw [if_pos]
      exact ⟨(within_le hc).2 (fun p hp => by rw [v0_at]; exact h1.lo p hp), (within_le cntV_len).2 (fun p hp => by rw [cntV_at hp]; exact h1.hi p hp)⟩
  · rw [if_pos hh]
    exact ⟨fun h1 => absurd h1 hh, fun h1 => absurd h1.1 hh⟩
def cvecs : Ctr := { ps := [.v Es], rs := [VecsT], pre := fun x => hPre x.1, fn := fun x => (vecsL x.1 x.1.length, ()), out := fun _ => () }
noncomputable def Evecs : Env := { P := Try.prog, tt := tt, ctr := [(97, cvectors)], res := [Go.ResultVar.cell 2 145], rs := [Ty.arr 6 (Ty.slc true Vec)], ps := [PK.v Es], cuts := [(4, [(2, none), (3, none), (4, some (Ty.slc true Vec)), (13, none), (14, none), (15, none)])], nt := 35 }
theorem Evecs_ok : EnvOk Evecs := envOk tt_ok ⟨cvectors_valid, trivial⟩
theorem Fvecs_ok : FnOk Evecs Try.f89 := ⟨rfl, rfl⟩
theorem Evecs_t (x0 : List (Int × Int × Int × Unit)) : exec Evecs 1000 [.code (bodyOf Try.prog 89)] (initSt cvecs.ps ((x0, ()))) =
  .need (True) (.cut (loopAt (bodyOf Try.prog 89) 4).1 (loopAt (bodyOf Try.prog 89) 4).2 (St.mk [(2, AV.ptr 2 []), (3, AV.ptr 3 []), (4, AV.at_ 1000004 []), (13, AV.val Es x0), (14, AV.val (Ty.int IntKind.i64) (↑(List.length x0) : Int)), (15, AV.val (Ty.int IntKind.i64) (0 : Int))] [(2, Ent.var (Ty.arr 6 (Ty.slc true Vec)) [[], [], [], [], [], []]), (3, Ent.var (Ty.arr 6 (Ty.slc true Vec)) [[], [], [], [], [], []]), (1000004, Ent.own (Ty.slc true Vec) (Prod.fst (vectors x0)))])) := by kernel_rfl
def Evecs_s4 (v13 : List (Int × Int × Int × Unit)) (v14 : Int) (v15 : Int) (o2 : List (List (List Int))) (o3 : List (List (List Int))) (o1000004 : List (List Int)) : St := St.mk [(2, AV.ptr 2 []), (3, AV.ptr 3 []), (4, AV.at_ 1000004 []), (13, AV.val Es v13), (14, AV.val (Ty.int IntKind.i64) v14), (15, AV.val (Ty.int IntKind.i64) v15)] [(2, Ent.var (Ty.arr 6 (Ty.slc true Vec)) o2), (3, Ent.var (Ty.arr 6 (Ty.slc true Vec)) o3), (1000004, Ent.own (Ty.slc true Vec) o1000004)]
theorem Evecs_l4 (v13 : List (Int × Int × Int × Unit)) (v14 : Int) (v15 : Int) (o2 : List (List (List Int))) (o3 : List (List (List Int))) (o1000004 : List (List Int)) : exec Evecs 1000 (.code (loopAt (bodyOf Try.prog 89) 4).1 :: .inLoop (loopAt (bodyOf Try.prog 89) 4).1 :: (loopAt (bodyOf Try.prog 89) 4).2) (Evecs_s4 v13 v14 v15 o2 o3 o1000004) =
  cond (decide (v15 < v14)) (.need ((0 : Int) ≤ v15 ∧ v15 < (↑(List.length v13) : Int)) (.need ((0 : Int) ≤ Prod.fst (List.getD v13 (Int.toNat v15) ((0 : Int), (0 : Int), (0 : Int), ())) ∧ Prod.fst (List.getD v13 (Int.toNat v15) ((0 : Int), (0 : Int), (0 : Int), ())) < (↑6 : Int)) (.need ((0 : Int) ≤ v15 ∧ v15 < (↑(List.length o1000004) : Int)) (.need ((0 : Int) ≤ Prod.fst (List.getD v13 (Int.toNat v15) ((0 : Int), (0 : Int), (0 : Int), ())) ∧ Prod.fst (List.getD v13 (Int.toNat v15) ((0 : Int), (0 : Int), (0 : Int), ())) < (↑6 : Int)) (.need ([] ++ [Step.idx (Prod.fst (List.getD v13 (Int.toNat v15) ((0 : Int), (0 : Int), (0 : Int), ())))] = [] ++ [Step.idx (Prod.fst (List.getD v13 (Int.toNat v15) ((0 : Int), (0 : Int), (0 : Int), ())))] ∧ List.length (List.getD o3 (Int.toNat (Prod.fst (List.getD v13 (Int.toNat v15) ((0 : Int), (0 : Int), (0 : Int), ())))) []) + List.length (List.set [[(0 : Int), (0 : Int), (0 : Int), (0 : Int), (0 : Int), (0 : Int)]] (Int.toNat (↑0 : Int)) (List.getD o1000004 (Int.toNat v15) [(0 : Int), (0 : Int), (0 : Int), (0 : Int), (0 : Int), (0 : Int)])) ≤ 140737488355328 ∧ (List.length (List.getD o3 (Int.toNat (Prod.fst (List.getD v13 (Int.toNat v15) ((0 : Int), (0 : Int), (0 : Int), ())))) []) + List.length (List.set [[(0 : Int), (0 : Int), (0 : Int), (0 : Int), (0 : Int), (0 : Int)]] (Int.toNat (↑0 : Int)) (List.getD o1000004 (Int.toNat v15) [(0 : Int), (0 : Int), (0 : Int), (0 : Int), (0 : Int), (0 : Int)]))) * Ty.wb Vec ≤ 140737488355328) (.need (inK IntKind.i64 (v15 + (1 : Int))) (.cut (loopAt (bodyOf Try.prog 89) 4).1 (loopAt (bodyOf Try.prog 89) 4).2 (St.mk [(2, AV.ptr 2 []), (3, AV.ptr 3 []), (4, AV.at_ 1000004 []), (13, AV.val Es v13), (14, AV.val (Ty.int IntKind.i64) v14), (15, AV.val (Ty.int IntKind.i64) (v15 + (1 : Int)))] [(2, Ent.var (Ty.arr 6 (Ty.slc true Vec)) o2), (3, Ent.var (Ty.arr 6 (Ty.slc true Vec)) (List.set o3 (Int.toNat (Prod.fst (List.getD v13 (Int.toNat v15) ((0 : Int), (0 : Int), (0 : Int), ())))) (List.getD o3 (Int.toNat (Prod.fst (List.getD v13 (Int.toNat v15) ((0 : Int), (0 : Int), (0 : Int), ())))) [] ++ List.set [[(0 : Int), (0 : Int), (0 : Int), (0 : Int), (0 : Int), (0 : Int)]] (Int.toNat (↑0 : Int)) (List.getD o1000004 (Int.toNat v15) [(0 : Int), (0 : Int), (0 : Int), (0 : Int), (0 : Int), (0 : Int)])))), (1000004, Ent.own (Ty.slc true Vec) o1000004)])))))))) (.ret ((o3, ()))) := by kernel_rfl
theorem cvecs_valid : cvecs.Valid Try.prog 89 := by
  refine Ctr.valid_of Evecs_ok rfl rfl Try.func89 (c := bodyOf Try.prog 89) rfl rfl Fvecs_ok rfl ?_
  rintro ⟨(h : List Ev), ⟨⟩⟩ hh -
  have hh : scheck h = 0 := hh
  have hl := (scheck_ok hh).1
  have hv := (vectors_spec hh).1
  refine exec_sound (n := 1000) Evecs_ok Fvecs_ok ?_
  refine holds_of_eq (Evecs_t h) ?_
  refine ⟨trivial, fun _ => ?_⟩
  refine Reach.loopI Evecs_ok Fvecs_ok (fun i : Nat => Evecs_s4 h (h.length : Int) (i : Int) (List.replicate 6 []) (vecsL h i) (vectors h).1) (fun i => i ≤ h.length) (fun i => h.length - i) 1000 (fun _ => ⟨uniq_of rfl, uniq_of rfl⟩) ?_ 0 (by omega)
  rintro i hi - ih
  refine holds_of_eq (Evecs_l4 ..) ?_
  by_cases hi2 : i < h.length
  · have ho := hist_ok hh hi2
    have e1 : (h.getD i e0).1 = (pr h i : Int) := by rw [ho.eq]
    have hp := ho.p
    have hcl := cnt_le' (h := h) (p := pr h i) (i := i)
    simp only [Int.toNat_natCast]
    rw [e1]
    simp only [holds_cond, Tree.holds, true_and, true_implies, decide_eq_true_eq, decide_eq_false_iff_not, Bool.not_eq_true', Bool.not_eq_false', Int.toNat_natCast, inK_i64, List.length_set, List.length_cons, List.length_nil, wb_vec]
    rw [vecsL_at hp, vecsOf_len]
    have h9 := ih (i + 1) (by omega) (by omega)
    rw [← vecsL_set hp] at h9
    exact ⟨fun _ => ⟨by omega, fun _ => ⟨by omega, fun _ => ⟨by omega, fun _ => ⟨by omega, fun _ => ⟨by omega, fun _ => ⟨by omega, fun _ => h9⟩⟩⟩⟩⟩⟩, fun h => absurd h (by omega)⟩
  · simp only [holds_cond, Tree.holds, true_and, true_implies, decide_eq_true_eq, decide_eq_false_iff_not, Bool.not_eq_true', Bool.not_eq_false', Int.toNat_natCast, inK_i64, List.length_set, List.length_cons, List.length_nil]
    refine ⟨fun b => absurd b (by omega), fun b => ?_⟩
    have e : i = h.length := by omega
    subst e; rfl
def grPre (l : List (List (List Int))) (c : List Int) : Prop := ∀ p, p < 6 → 0 < c.getD p 0 → c.getD p 0 ≤ (l.getD p []).length
def cgrown : Ctr := { ps := [.v VecsS, .v Vec], rs := [Vec], pre := fun x => grPre x.1 x.2.1, fn := fun x => (grGo x.1 x.2.1 6, ()), out := fun _ => () }
noncomputable def Egrown : Env := { P := Try.prog, tt := tt, ctr := [(74, cvmax)], res := [Go.ResultVar.cell 4 41], rs := [Ty.arr 6 (Ty.int IntKind.i64)], ps := [PK.v (Ty.arr 6 (Ty.slc false Vec)), PK.v Vec], cuts := [(3, [(2, none), (4, none), (5, none), (9, none), (10, none)])], nt := 27 }
theorem Egrown_ok : EnvOk Egrown := envOk tt_ok ⟨cvmax_valid, trivial⟩
theorem Fgrown_ok : FnOk Egrown Try.f88 := ⟨rfl, rfl⟩
theorem Egrown_t (x0 : List (List (List Int))) (x1 : List Int) : exec Egrown 1000 [.code (bodyOf Try.prog 88)] (initSt cgrown.ps ((x0, x1, ()))) =
  .cut (loopAt (bodyOf Try.prog 88) 3).1 (loopAt (bodyOf Try.prog 88) 3).2 (St.mk [(2, AV.ptr 2 []), (4, AV.ptr 4 []), (5, AV.ptr 5 []), (9, AV.val Vec x1), (10, AV.val (Ty.int IntKind.i64) (0 : Int))] [(2, Ent.var (Ty.arr 6 (Ty.slc false Vec)) x0), (4, Ent.var Vec [(0 : Int), (0 : Int), (0 : Int), (0 : Int), (0 : Int), (0 : Int)]), (5, Ent.var Vec x1)]) := by kernel_rfl
def Egrown_s3 (v9 : List Int) (v10 : Int) (o2 : List (List (List Int))) (o4 : List Int) (o5 : List Int) : St := St.mk [(2, AV.ptr 2 []), (4, AV.ptr 4 []), (5, AV.ptr 5 []), (9, AV.val Vec v9), (10, AV.val (Ty.int IntKind.i64) v10)] [(2, Ent.var (Ty.arr 6 (Ty.slc false Vec)) o2), (4, Ent.var Vec o4), (5, Ent.var Vec o5)]
theorem Egrown_l3 (v9 : List Int) (v10 : Int) (o2 : List (List (List Int))) (o4 : List Int) (o5 : List Int) : exec Egrown 1000 (.code (loopAt (bodyOf Try.prog 88) 3).1 :: .inLoop (loopAt (bodyOf Try.prog 88) 3).1 :: (loopAt (bodyOf Try.prog 88) 3).2) (Egrown_s3 v9 v10 o2 o4 o5) =
  cond (decide (v10 < (6 : Int))) (.need ((0 : Int) ≤ v10 ∧ v10 < (↑6 : Int)) (cond (decide ((0 : Int) < List.getD v9 (Int.toNat v10) (0 : Int))) (.need ((0 : Int) ≤ v10 ∧ v10 < (↑6 : Int)) (.need (inK IntKind.i64 (List.getD v9 (Int.toNat v10) (0 : Int) - (1 : Int))) (.need ((0 : Int) ≤ List.getD v9 (Int.toNat v10) (0 : Int) - (1 : Int) ∧ List.getD v9 (Int.toNat v10) (0 : Int) - (1 : Int) < (↑(List.length (List.getD o2 (Int.toNat v10) [])) : Int)) (.need (True) (.need (inK IntKind.i64 (v10 + (1 : Int))) (.cut (loopAt (bodyOf Try.prog 88) 3).1 (loopAt (bodyOf Try.prog 88) 3).2 (St.mk [(2, AV.ptr 2 []), (4, AV.ptr 4 []), (5, AV.ptr 5 []), (9, AV.val Vec v9), (10, AV.val (Ty.int IntKind.i64) (v10 + (1 : Int)))] [(2, Ent.var (Ty.arr 6 (Ty.slc false Vec)) o2), (4, Ent.var Vec o4), (5, Ent.var Vec (vmax o5 (List.getD (List.getD o2 (Int.toNat v10) []) (Int.toNat (List.getD v9 (Int.toNat v10) (0 : Int) - (1 : Int))) [(0 : Int), (0 : Int), (0 : Int), (0 : Int), (0 : Int), (0 : Int)])))]))))))) (.need (inK IntKind.i64 (v10 + (1 : Int))) (.cut (loopAt (bodyOf Try.prog 88) 3).1 (loopAt (bodyOf Try.prog 88) 3).2 (St.mk [(2, AV.ptr 2 []), (4, AV.ptr 4 []), (5, AV.ptr 5 []), (9, AV.val Vec v9), (10, AV.val (Ty.int IntKind.i64) (v10 + (1 : Int)))] [(2, Ent.var (Ty.arr 6 (Ty.slc false Vec)) o2), (4, Ent.var Vec o4), (5, Ent.var Vec o5)]))))) (.ret ((o5, ()))) := by kernel_rfl
theorem cgrown_valid : cgrown.Valid Try.prog 88 := by
  refine Ctr.valid_of Egrown_ok rfl rfl Try.func88 (c := bodyOf Try.prog 88) rfl rfl Fgrown_ok rfl ?_
  rintro ⟨(l : List (List (List Int))), (c : List Int), ⟨⟩⟩ hp ⟨-, ⟨hc, he⟩, -⟩
  have hp : grPre l c := hp
  have hc : c.length = 6 := hc
  have he : ∀ x ∈ c, inK .i64 x := he
  refine exec_sound (n := 1000) Egrown_ok Fgrown_ok ?_
  refine holds_of_eq (Egrown_t l c) ?_
  refine Reach.loopI Egrown_ok Fgrown_ok (fun i : Nat => Egrown_s3 c (i : Int) l v0 (grGo l c i)) (fun i => i ≤ 6) (fun i => 6 - i) 1000 (fun _ => ⟨uniq_of rfl, uniq_of rfl⟩) ?_ 0 (by omega)
  rintro i hi hr ih
  refine holds_of_eq (Egrown_l3 ..) ?_
  simp only [holds_cond, Tree.holds, true_and, true_implies, decide_eq_true_eq, decide_eq_false_iff_not, Bool.not_eq_true', Bool.not_eq_false', Int.toNat_natCast, inK_i64, List.length_set, List.length_cons, List.length_nil]
  refine ⟨fun a => ⟨by omega, fun _ => ⟨fun b => ?_, fun b => ⟨by omega, fun _ => ?_⟩⟩⟩, fun a => ?_⟩
  · have h1 := hp i (by omega) b
    have h9 := ih (i + 1) (by omega) (by omega)
    have e9 : grGo l c (i + 1) = vmax (grGo l c i) ((l.getD i []).getD (c.getD i 0 - 1).toNat v0) := by rw [grGo, if_pos b]
    rw [e9] at h9
    exact ⟨by omega, fun _ => ⟨by have := inK_i64.1 (he _ (getD_mem (d := 0) (show i < c.length by omega))); omega, fun _ => ⟨by omega, fun _ => ⟨by omega, fun _ => h9⟩⟩⟩⟩
  · have h9 := ih (i + 1) (by omega) (by omega)
    have e9 : grGo l c (i + 1) = grGo l c i := by rw [grGo, if_neg b]
    rw [e9] at h9
    exact h9
  · have e : i = 6 := by omega
    subst e; rfl
def growR (h : List Ev) (c : List Int) : List Int × Int × Unit := if cutErr h c ≠ 0 then (v0, cutErr h c, ()) else (growF h c, 0, ())
def cgrow : Ctr := { ps := [.v Es, .v Vec], rs := [Vec, I64], pre := fun _ => True, fn := fun x => growR x.1 x.2.1, out := fun _ => () }
noncomputable def Egrow : Env := { P := Try.prog, tt := tt, ctr := [(87, ccheck), (89, cvecs), (88, cgrown)], res := [Go.ResultVar.cell 4 41, Go.ResultVar.tmp 5], rs := [Ty.arr 6 (Ty.int IntKind.i64), Ty.int IntKind.i64], ps := [PK.v Es, PK.v Vec], cuts := [], nt := 18 }
theorem Egrow_ok : EnvOk Egrow := envOk tt_ok ⟨ccheck_valid, cvecs_valid, cgrown_valid, trivial⟩
theorem Fgrow_ok : FnOk Egrow Try.f72 := ⟨rfl, rfl⟩
theorem Egrow_t (x0 : List (Int × Int × Int × Unit)) (x1 : List Int) : exec Egrow 1000 [.code (bodyOf Try.prog 72)] (initSt cgrow.ps ((x0, x1, ()))) =
  .need (True) (cond (decide (cutErr x0 x1 ≠ (0 : Int))) (.ret (([(0 : Int), (0 : Int), (0 : Int), (0 : Int), (0 : Int), (0 : Int)], cutErr x0 x1, ()))) (.need (hPre x0) (.need (grPre (vecsL x0 (List.length x0)) x1) (.ret ((grGo (vecsL x0 (List.length x0)) x1 6, (0 : Int), ())))))) := by kernel_rfl
theorem cgrow_valid : cgrow.Valid Try.prog 72 := by
  refine Ctr.valid_of Egrow_ok rfl rfl Try.func72 (c := bodyOf Try.prog 72) rfl rfl Fgrow_ok rfl ?_
  rintro ⟨(h : List Ev), (c : List Int), ⟨⟩⟩ - ⟨-, ⟨hc, -⟩, -⟩
  have hc : c.length = 6 := hc
  refine exec_sound (n := 1000) Egrow_ok Fgrow_ok ?_
  refine holds_of_eq (Egrow_t h c) ?_
  simp only [holds_cond, Tree.holds, true_and, true_implies, decide_eq_true_eq, decide_eq_false_iff_not, Bool.not_eq_true', Bool.not_eq_false', Int.toNat_natCast, inK_i64, List.length_set, List.length_cons, List.length_nil]
  refine ⟨fun a => ?_, fun a => ?_⟩
  · show ((_, _, ()) : List Int × Int × Unit) = growR h c; rw [growR, if_pos a]
  have a : cutErr h c = 0 := Decidable.of_not_not a
  obtain ⟨hh, hcut⟩ := (cutErr_ok hc).1 a
  refine ⟨hh, fun _ => ⟨fun p hp h0 => ?_, fun _ => ?_⟩⟩
  · rw [vecsL_at hp, vecsOf_len]; exact hcut.hi p hp
  · show ((_, _, ()) : List Int × Int × Unit) = growR h c; rw [growR, if_neg (by simp [a])]; rfl
def rightR (h : List Ev) (c : List Int) : Bool × Int × Unit := (decide ((growR h c).2.1 = 0) && decide ((growR h c).1 = c), (growR h c).2.1, ())
def cright : Ctr := { ps := [.v Es, .v Vec], rs := [.bool, I64], pre := fun _ => True, fn := fun x => rightR x.1 x.2.1, out := fun _ => () }
noncomputable def Eright : Env := { P := Try.prog, tt := tt, ctr := [(72, cgrow)], res := [Go.ResultVar.tmp 4, Go.ResultVar.tmp 5], rs := [Ty.bool, Ty.int IntKind.i64], ps := [PK.v Es, PK.v Vec], cuts := [], nt := 22 }
theorem Eright_ok : EnvOk Eright := envOk tt_ok ⟨cgrow_valid, trivial⟩
theorem Fright_ok : FnOk Eright Try.f45 := ⟨rfl, rfl⟩
theorem Eright_t (x0 : List (Int × Int × Int × Unit)) (x1 : List Int) : exec Eright 1000 [.code (bodyOf Try.prog 45)] (initSt cright.ps ((x0, x1, ()))) =
  .need (True) (cond (decide (Prod.fst (Prod.snd (growR x0 x1)) = (0 : Int))) (.ret ((eqD (Ty.arr 6 I64) (Prod.fst (growR x0 x1)) x1, Prod.fst (Prod.snd (growR x0 x1)), ()))) (.ret ((false, Prod.fst (Prod.snd (growR x0 x1)), ())))) := by kernel_rfl
theorem cright_valid : cright.Valid Try.prog 45 := by
  refine Ctr.valid_of Eright_ok rfl rfl Try.func45 (c := bodyOf Try.prog 45) rfl rfl Fright_ok rfl ?_
  rintro ⟨(h : List Ev), (c : List Int), ⟨⟩⟩ - -
  refine exec_sound (n := 1000) Eright_ok Fright_ok ?_
  refine holds_of_eq (Eright_t h c) ?_
  rw [show eqD (Ty.arr 6 (Ty.int IntKind.i64)) (growR h c).1 c = decide ((growR h c).1 = c) from eqDL_iff]
  simp only [holds_cond, Tree.holds, true_and, true_implies, decide_eq_true_eq, decide_eq_false_iff_not, Bool.not_eq_true', Bool.not_eq_false', Int.toNat_natCast, inK_i64, List.length_set, List.length_cons, List.length_nil]
  refine ⟨fun a => ?_, fun a => ?_⟩
  · show ((_, _, ()) : Bool × Int × Unit) = rightR h c; rw [rightR, decide_eq_true a, Bool.true_and]
  · show ((_, _, ()) : Bool × Int × Unit) = rightR h c; rw [rightR, decide_eq_false a, Bool.false_and]
def shrinkR (h : List Ev) (c : List Int) : List Int × Int × Unit := if cutErr h c ≠ 0 then (v0, cutErr h c, ()) else (shrinkF h c, 0, ())
def cshrink : Ctr := { ps := [.v Es, .v Vec], rs := [Vec, I64], pre := fun _ => True, fn := fun x => shrinkR x.1 x.2.1, out := fun _ => () }
def shP (h : List Ev) (c : List Int) (p k : Nat) : List Int := (List.range 6).map (fun j => if j < p then (shGo ((vecsL h h.length).getD j []) c (c.getD j 0) 60 0 : Int) else if j = p then (k : Int) else 0)
theorem shP_at {h : List Ev} {c : List Int} {p k : Nat} (hp : p < 6) : (shP h c p k).getD p 0 = k := by rw [shP, getD_map_range _ _ hp, if_neg (by omega), if_pos rfl]
theorem shP_set {h : List Ev} {c : List Int} {p k : Nat} (hp : p < 6) : (shP h c p k).set p ((k : Int) + 1) = shP h c p (k + 1) := by
  rw [shP, set_map_range _ _ hp]
  refine List.map_congr_left (fun j _ => ?_)
  by_cases e : j = p
  · subst e; rw [if_pos rfl, if_neg (by omega), if_pos rfl]; omega
  · rw [if_neg e]; simp [e]
theorem shP_next {h : List Ev} {c : List Int} {p k : Nat} (hk : shGo ((vecsL h h.length).getD p []) c (c.getD p 0) 60 0 = k) : shP h c p k = shP h c (p + 1) 0 := by
  refine List.map_congr_left (fun j _ => ?_)
  by_cases e : j < p
  · rw [if_pos e, if_pos (by omega)]
  · rw [if_neg e]
    by_cases e2 : j = p
    · subst e2; rw [if_pos rfl, if_pos (by omega), hk]
    · rw [if_neg e2, if_neg (by omega)]; simp
theorem shP_done {h : List Ev} {c : List Int} : shP h c 6 0 = shrinkF h c := List.map_congr_left (fun j hj => by rw [if_pos (List.mem_range.1 hj)])
def restN (x n : Int) : Int := rest x (n + 1)
def someC (h : List Ev) (c : List Int) : List Int := (List.range 6).map (fun j => restN (c.getD j 0) ((cntV h h.length).getD j 0))
def csome : Ctr := { ps := [.v Es, .v Vec], rs := [Vec], pre := fun x => hPre x.1, fn := fun x => (someC x.1 x.2.1, ()), out := fun _ => () }
noncomputable def Esome : Env := { P := Try.prog, tt := tt, ctr := [(50, csizes), (20, crest)], res := [Go.ResultVar.cell 4 41], rs := [Ty.arr 6 (Ty.int IntKind.i64)], ps := [PK.v Es, PK.v Vec], cuts := [(2, [(3, none), (4, none), (8, none), (9, none)])], nt := 23 }
theorem Esome_ok : EnvOk Esome := envOk tt_ok ⟨csizes_valid, crest_valid, trivial⟩
theorem Fsome_ok : FnOk Esome Try.f44 := ⟨rfl, rfl⟩
theorem Esome_t (x0 : List (Int × Int × Int × Unit)) (x1 : List Int) : exec Esome 1000 [.code (bodyOf Try.prog 44)] (initSt csome.ps ((x0, x1, ()))) =
  .need (hPre x0) (.cut (loopAt (bodyOf Try.prog 44) 2).1 (loopAt (bodyOf Try.prog 44) 2).2 (St.mk [(3, AV.ptr 3 []), (4, AV.ptr 4 []), (8, AV.val Vec (cntV x0 (List.length x0))), (9, AV.val (Ty.int IntKind.i64) (0 : Int))] [(3, Ent.var Vec x1), (4, Ent.var Vec [(0 : Int), (0 : Int), (0 : Int), (0 : Int), (0 : Int), (0 : Int)])])) := by kernel_rfl
def Esome_s2 (v8 : List Int) (v9 : Int) (o3 : List Int) (o4 : List Int) : St := St.mk [(3, AV.ptr 3 []), (4, AV.ptr 4 []), (8, AV.val Vec v8), (9, AV.val (Ty.int IntKind.i64) v9)] [(3, Ent.var Vec o3), (4, Ent.var Vec o4)]
theorem Esome_l2 (v8 : List Int) (v9 : Int) (o3 : List Int) (o4 : List Int) : exec Esome 1000 (.code (loopAt (bodyOf Try.prog 44) 2).1 :: .inLoop (loopAt (bodyOf Try.prog 44) 2).1 :: (loopAt (bodyOf Try.prog 44) 2).2) (Esome_s2 v8 v9 o3 o4) =
  cond (decide (v9 < (6 : Int))) (.need ((0 : Int) ≤ v9 ∧ v9 < (↑6 : Int)) (.need ((0 : Int) ≤ v9 ∧ v9 < (↑6 : Int)) (.need (inK IntKind.i64 (List.getD v8 (Int.toNat v9) (0 : Int) + (1 : Int))) (.need (List.getD v8 (Int.toNat v9) (0 : Int) + (1 : Int) ≤ (1000000 : Int)) (.need ((0 : Int) ≤ v9 ∧ v9 < (↑6 : Int)) (.need (inK IntKind.i64 (v9 + (1 : Int))) (.cut (loopAt (bodyOf Try.prog 44) 2).1 (loopAt (bodyOf Try.prog 44) 2).2 (St.mk [(3, AV.ptr 3 []), (4, AV.ptr 4 []), (8, AV.val Vec v8), (9, AV.val (Ty.int IntKind.i64) (v9 + (1 : Int)))] [(3, Ent.var Vec (List.set o3 (Int.toNat v9) (rest (List.getD o3 (Int.toNat v9) (0 : Int)) (List.getD v8 (Int.toNat v9) (0 : Int) + (1 : Int))))), (4, Ent.var Vec o4)])))))))) (.ret ((o3, ()))) := by kernel_rfl
theorem csome_valid : csome.Valid Try.prog 44 := by
  refine Ctr.valid_of Esome_ok rfl rfl Try.func44 (c := bodyOf Try.prog 44) rfl rfl Fsome_ok rfl ?_
  rintro ⟨(h : List Ev), (c : List Int), ⟨⟩⟩ hh ⟨-, ⟨hc, -⟩, -⟩
  have hh : scheck h = 0 := hh
  have hc : c.length = 6 := hc
  have hl := (scheck_ok hh).1
  refine exec_sound (n := 1000) Esome_ok Fsome_ok ?_
  refine holds_of_eq (Esome_t h c) ?_
  refine ⟨hh, fun _ => ?_⟩
  have h0 : St.mk [(3, AV.ptr 3 []), (4, AV.ptr 4 []), (8, AV.val Vec (cntV h h.length)), (9, AV.val (Ty.int IntKind.i64) 0)] [(3, Ent.var Vec c), (4, Ent.var Vec v0)] = Esome_s2 (cntV h h.length) ((0 : Nat) : Int) (partM restN c (cntV h h.length) 0) v0 := by rw [partM_zero hc]; rfl
  rw [h0]
  refine Reach.loopI Esome_ok Fsome_ok (fun i : Nat => Esome_s2 (cntV h h.length) (i : Int) (partM restN c (cntV h h.length) i) v0) (fun i => i ≤ 6) (fun i => 6 - i) 1000 (fun _ => ⟨uniq_of rfl, uniq_of rfl⟩) ?_ 0 (by omega)
  rintro i hi - ih
  refine holds_of_eq (Esome_l2 ..) ?_
  simp only [holds_cond, Tree.holds, true_and, true_implies, decide_eq_true_eq, decide_eq_false_iff_not, Bool.not_eq_true', Bool.not_eq_false', Int.toNat_natCast, inK_i64, List.length_set, List.length_cons, List.length_nil]
  refine ⟨fun b => ?_, fun b => ?_⟩
  · have h9 := ih (i + 1) (by omega) (by omega)
    rw [← partM_set (by omega)] at h9
    have hcl := cnt_le' (h := h) (p := i) (i := h.length)
    rw [partM_at (by omega)]
    have e := cntV_at (h := h) (i := h.length) (p := i) (by omega)
    exact ⟨by omega, fun _ => ⟨by omega, fun _ => ⟨by omega, fun _ => ⟨by omega, fun _ => ⟨by omega, fun _ => ⟨by omega, fun _ => h9⟩⟩⟩⟩⟩⟩
  · have e : i = 6 := by omega
    subst e
    show ((partM restN c (cntV h h.length) 6, ()) : List Int × Unit) = (someC h c, ())
    rw [partM_done]; rfl
theorem someC_cut {h : List Ev} {c : List Int} : CutOf h (someC h c) := by
  have h1 : ∀ p, p < 6 → (someC h c).getD p 0 = rest (c.getD p 0) ((cnt h p h.length : Int) + 1) := fun p hp => by rw [someC, getD_map_range _ _ hp, restN, cntV_at hp]
  refine ⟨by simp [someC], fun p hp => ?_, fun p hp => ?_⟩
  all_goals
    rw [h1 p hp]
    have := rest_in (a := c.getD p 0) (n := (cnt h p h.length : Int) + 1) (by omega)
    omega
def sentH : List Ev := [(0, 2, 0, ()), (1, 3, 0, ())]
def csent : Ctr := { ps := [], rs := [.slc true Event], pre := fun _ => True, fn := fun _ => (sentH, ()), out := fun _ => () }
noncomputable def Esent : Env := { P := Try.prog, tt := tt, ctr := [], res := [Go.ResultVar.tmp 0], rs := [Ty.slc true Event], ps := [], cuts := [], nt := 4 }
theorem Esent_ok : EnvOk Esent := envOk tt_ok trivial
theorem Fsent_ok : FnOk Esent Try.f40 := ⟨rfl, rfl⟩
theorem Esent_t : exec Esent 1000 [.code (bodyOf Try.prog 40)] (initSt csent.ps (())) =
  .ret ((List.set (List.set [((0 : Int), (0 : Int), (0 : Int), ()), ((0 : Int), (0 : Int), (0 : Int), ())] (Int.toNat (↑0 : Int)) ((0 : Int), (2 : Int), (0 : Int), ())) (Int.toNat (↑1 : Int)) ((1 : Int), (3 : Int), (0 : Int), ()), ())) := by kernel_rfl
theorem csent_valid : csent.Valid Try.prog 40 := by
  refine Ctr.valid_of Esent_ok rfl rfl Try.func40 (c := bodyOf Try.prog 40) rfl rfl Fsent_ok rfl ?_
  rintro ⟨⟩ - -
  refine exec_sound (n := 1000) Esent_ok Fsent_ok ?_
  refine holds_of_eq (Esent_t) ?_
  rfl
end Go.Proofs.Ytcafiieffenohaa
