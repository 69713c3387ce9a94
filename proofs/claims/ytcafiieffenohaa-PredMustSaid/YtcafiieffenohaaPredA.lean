/- The package pred: what is checked; is it so in a cut; the first cut. -/
import Derived.Test.YtcafiieffenohaaCutM
namespace Go.Proofs.Ytcafiieffenohaa
open Go.Ex
set_option maxRecDepth 100000
abbrev Tr : Ty := .slc false (.slc false .bool)
abbrev TrD := List (List Bool)
/-- as many truths as there are states -/
def fitB (h : List Ev) (t : TrD) : Bool := decide (t.length = 6) && (List.range 6).all (fun p => decide ((t.getD p []).length = cnt h p h.length + 1))
def pErr (h : List Ev) (t : TrD) : Int := if scheck h ≠ 0 then scheck h else if fitB h t = true then 0 else 4
def cpcheck : Ctr := { ps := [.v Es, .v Tr], rs := [I64], pre := fun _ => True, fn := fun x => (pErr x.1 x.2.1, ()), out := fun _ => () }
noncomputable def Epcheck : Env := { P := Try.prog, tt := tt, ctr := [(42, cscheck)], res := [Go.ResultVar.tmp 4], rs := [Ty.int IntKind.i64], ps := [PK.v Es, PK.v (Ty.slc false (Ty.slc false Ty.bool))], cuts := [(6, [(1, none), (6, none), (16, none), (17, none), (18, none)]), (13, [(6, none), (32, none), (33, none), (34, none)])], nt := 47 }
theorem Epcheck_ok : EnvOk Epcheck := envOk tt_ok ⟨cscheck_valid, trivial⟩
theorem Fpcheck_ok : FnOk Epcheck Try.f70 := ⟨rfl, rfl⟩
theorem Epcheck_t (x0 : List (Int × Int × Int × Unit)) (x1 : List (List Bool)) : exec Epcheck 1000 [.code (bodyOf Try.prog 70)] (initSt cpcheck.ps ((x0, x1, ()))) =
  .need (True) (cond (decide (scheck x0 ≠ (0 : Int))) (.ret ((scheck x0, ()))) (.cut (loopAt (bodyOf Try.prog 70) 6).1 (loopAt (bodyOf Try.prog 70) 6).2 (St.mk [(1, AV.val (Ty.slc false (Ty.slc false Ty.bool)) x1), (6, AV.ptr 6 []), (16, AV.val Es x0), (17, AV.val (Ty.int IntKind.i64) (↑(List.length x0) : Int)), (18, AV.val (Ty.int IntKind.i64) (0 : Int))] [(6, Ent.var Vec [(0 : Int), (0 : Int), (0 : Int), (0 : Int), (0 : Int), (0 : Int)])]))) := by kernel_rfl
def Epcheck_s6 (v1 : List (List Bool)) (v16 : List (Int × Int × Int × Unit)) (v17 : Int) (v18 : Int) (o6 : List Int) : St := St.mk [(1, AV.val (Ty.slc false (Ty.slc false Ty.bool)) v1), (6, AV.ptr 6 []), (16, AV.val Es v16), (17, AV.val (Ty.int IntKind.i64) v17), (18, AV.val (Ty.int IntKind.i64) v18)] [(6, Ent.var Vec o6)]
theorem Epcheck_l6 (v1 : List (List Bool)) (v16 : List (Int × Int × Int × Unit)) (v17 : Int) (v18 : Int) (o6 : List Int) : exec Epcheck 1000 (.code (loopAt (bodyOf Try.prog 70) 6).1 :: .inLoop (loopAt (bodyOf Try.prog 70) 6).1 :: (loopAt (bodyOf Try.prog 70) 6).2) (Epcheck_s6 v1 v16 v17 v18 o6) =
  cond (decide (v18 < v17)) (.need ((0 : Int) ≤ v18 ∧ v18 < (↑(List.length v16) : Int)) (.need ((0 : Int) ≤ Prod.fst (List.getD v16 (Int.toNat v18) ((0 : Int), (0 : Int), (0 : Int), ())) ∧ Prod.fst (List.getD v16 (Int.toNat v18) ((0 : Int), (0 : Int), (0 : Int), ())) < (↑6 : Int)) (.need (inK IntKind.i64 (List.getD o6 (Int.toNat (Prod.fst (List.getD v16 (Int.toNat v18) ((0 : Int), (0 : Int), (0 : Int), ())))) (0 : Int) + (1 : Int))) (.need ((0 : Int) ≤ Prod.fst (List.getD v16 (Int.toNat v18) ((0 : Int), (0 : Int), (0 : Int), ())) ∧ Prod.fst (List.getD v16 (Int.toNat v18) ((0 : Int), (0 : Int), (0 : Int), ())) < (↑6 : Int)) (.need (inK IntKind.i64 (v18 + (1 : Int))) (.cut (loopAt (bodyOf Try.prog 70) 6).1 (loopAt (bodyOf Try.prog 70) 6).2 (St.mk [(1, AV.val (Ty.slc false (Ty.slc false Ty.bool)) v1), (6, AV.ptr 6 []), (16, AV.val Es v16), (17, AV.val (Ty.int IntKind.i64) v17), (18, AV.val (Ty.int IntKind.i64) (v18 + (1 : Int)))] [(6, Ent.var Vec (List.set o6 (Int.toNat (Prod.fst (List.getD v16 (Int.toNat v18) ((0 : Int), (0 : Int), (0 : Int), ())))) (List.getD o6 (Int.toNat (Prod.fst (List.getD v16 (Int.toNat v18) ((0 : Int), (0 : Int), (0 : Int), ())))) (0 : Int) + (1 : Int))))]))))))) (cond (decide ((↑(List.length v1) : Int) ≠ (6 : Int))) (.ret (((4 : Int), ()))) (.cut (loopAt (bodyOf Try.prog 70) 13).1 (loopAt (bodyOf Try.prog 70) 13).2 (St.mk [(6, AV.ptr 6 []), (32, AV.val (Ty.slc false (Ty.slc false Ty.bool)) v1), (33, AV.val (Ty.int IntKind.i64) (↑(List.length v1) : Int)), (34, AV.val (Ty.int IntKind.i64) (0 : Int))] [(6, Ent.var Vec o6)]))) := by kernel_rfl
def Epcheck_s13 (v32 : List (List Bool)) (v33 : Int) (v34 : Int) (o6 : List Int) : St := St.mk [(6, AV.ptr 6 []), (32, AV.val (Ty.slc false (Ty.slc false Ty.bool)) v32), (33, AV.val (Ty.int IntKind.i64) v33), (34, AV.val (Ty.int IntKind.i64) v34)] [(6, Ent.var Vec o6)]
theorem Epcheck_l13 (v32 : List (List Bool)) (v33 : Int) (v34 : Int) (o6 : List Int) : exec Epcheck 1000 (.code (loopAt (bodyOf Try.prog 70) 13).1 :: .inLoop (loopAt (bodyOf Try.prog 70) 13).1 :: (loopAt (bodyOf Try.prog 70) 13).2) (Epcheck_s13 v32 v33 v34 o6) =
  cond (decide (v34 < v33)) (.need ((0 : Int) ≤ v34 ∧ v34 < (↑(List.length v32) : Int)) (.need ((0 : Int) ≤ v34 ∧ v34 < (↑6 : Int)) (.need (inK IntKind.i64 (List.getD o6 (Int.toNat v34) (0 : Int) + (1 : Int))) (cond (decide ((↑(List.length (List.getD v32 (Int.toNat v34) [])) : Int) ≠ List.getD o6 (Int.toNat v34) (0 : Int) + (1 : Int))) (.ret (((4 : Int), ()))) (.need (inK IntKind.i64 (v34 + (1 : Int))) (.cut (loopAt (bodyOf Try.prog 70) 13).1 (loopAt (bodyOf Try.prog 70) 13).2 (St.mk [(6, AV.ptr 6 []), (32, AV.val (Ty.slc false (Ty.slc false Ty.bool)) v32), (33, AV.val (Ty.int IntKind.i64) v33), (34, AV.val (Ty.int IntKind.i64) (v34 + (1 : Int)))] [(6, Ent.var Vec o6)]))))))) (.ret (((0 : Int), ()))) := by kernel_rfl
theorem fit_iff {h : List Ev} {t : TrD} : fitB h t = true ↔ t.length = 6 ∧ ∀ p, p < 6 → (t.getD p []).length = cnt h p h.length + 1 := by
  rw [fitB, Bool.and_eq_true, decide_eq_true_eq, List.all_eq_true]
  refine and_congr Iff.rfl ⟨fun h1 p hp => of_decide_eq_true (h1 p (List.mem_range.2 hp)), fun h1 p hp => decide_eq_true (h1 p (List.mem_range.1 hp))⟩
theorem cpcheck_valid : cpcheck.Valid Try.prog 70 := by
  refine Ctr.valid_of Epcheck_ok rfl rfl Try.func70 (c := bodyOf Try.prog 70) rfl rfl Fpcheck_ok rfl ?_
  rintro ⟨(h : List Ev), (t : TrD), ⟨⟩⟩ - -
  refine exec_sound (n := 1000) Epcheck_ok Fpcheck_ok ?_
  refine holds_of_eq (Epcheck_t h t) ?_
  simp only [holds_cond, Tree.holds, true_and, true_implies, decide_eq_true_eq, decide_eq_false_iff_not, Bool.not_eq_true', Bool.not_eq_false', Int.toNat_natCast, inK_i64, List.length_set, List.length_cons, List.length_nil]
  refine ⟨fun a => ?_, fun a => ?_⟩
  · show ((_, ()) : Int × Unit) = (pErr h t, ()); rw [pErr, if_pos a]
  have hh : scheck h = 0 := Decidable.of_not_not a
  have hl := (scheck_ok hh).1
  have ep : pErr h t = if fitB h t = true then 0 else 4 := by rw [pErr, if_neg a]
  have bad : ¬ (t.length = 6 ∧ ∀ p, p < 6 → (t.getD p []).length = cnt h p h.length + 1) → ((4, ()) : Int × Unit) = (pErr h t, ()) := fun hb => by rw [ep, if_neg (fun h1 => hb (fit_iff.1 h1))]
  refine Reach.loopI Epcheck_ok Fpcheck_ok (fun i : Nat => Epcheck_s6 t h (h.length : Int) (i : Int) (cntV h i)) (fun i => i ≤ h.length) (fun i => h.length - i) 1000 (fun _ => ⟨uniq_of rfl, uniq_of rfl⟩) ?_ 0 (by omega)
  rintro i hi - ih
  refine holds_of_eq (Epcheck_l6 ..) ?_
  by_cases hi2 : i < h.length
  · have ho := hist_ok hh hi2
    have e1 : (h.getD i e0).1 = (pr h i : Int) := by rw [ho.eq]
    have hp := ho.p
    have hcl := cnt_le' (h := h) (p := pr h i) (i := i)
    simp only [Int.toNat_natCast]
    rw [e1]
    simp only [holds_cond, Tree.holds, true_and, true_implies, decide_eq_true_eq, decide_eq_false_iff_not, Bool.not_eq_true', Bool.not_eq_false', Int.toNat_natCast, inK_i64, List.length_set, List.length_cons, List.length_nil]
    rw [cntV_at hp, cntV_set hp]
    exact ⟨fun _ => ⟨by omega, fun _ => ⟨by omega, fun _ => ⟨by omega, fun _ => ⟨by omega, fun _ => ⟨by omega, fun _ => ih (i + 1) (by omega) (by omega)⟩⟩⟩⟩⟩, fun h => absurd h (by omega)⟩
  · have e : i = h.length := by omega
    subst e
    simp only [holds_cond, Tree.holds, true_and, true_implies, decide_eq_true_eq, decide_eq_false_iff_not, Bool.not_eq_true', Bool.not_eq_false', Int.toNat_natCast, inK_i64, List.length_set, List.length_cons, List.length_nil]
    refine ⟨fun b => absurd b (by omega), fun b => ⟨fun c => bad (fun h1 => c (by omega)), fun c => ?_⟩⟩
    have c : t.length = 6 := by omega
    clear ih
    refine Reach.loopI Epcheck_ok Fpcheck_ok (fun i : Nat => Epcheck_s13 t (t.length : Int) (i : Int) (cntV h h.length)) (fun i => i ≤ 6 ∧ ∀ p, p < i → (t.getD p []).length = cnt h p h.length + 1) (fun i => 6 - i) 1000 (fun _ => ⟨uniq_of rfl, uniq_of rfl⟩) ?_ 0 ⟨by omega, fun p hp => by omega⟩
    rintro i ⟨k1, k2⟩ - ih
    refine holds_of_eq (Epcheck_l13 ..) ?_
    simp only [holds_cond, Tree.holds, true_and, true_implies, decide_eq_true_eq, decide_eq_false_iff_not, Bool.not_eq_true', Bool.not_eq_false', Int.toNat_natCast, inK_i64, List.length_set, List.length_cons, List.length_nil, c]
    refine ⟨fun d => ?_, fun d => ?_⟩
    · have hcl := cnt_le' (h := h) (p := i) (i := h.length)
      rw [cntV_at (show i < 6 by omega)]
      refine ⟨by omega, fun _ => ⟨by omega, fun _ => ⟨by omega, fun _ => ⟨fun f => bad (fun h1 => f (by have := h1.2 i (by omega); omega)), fun f => ⟨by omega, fun _ => ?_⟩⟩⟩⟩⟩
      have h9 := ih (i + 1) ⟨by omega, fun p hp => ?_⟩ (by omega)
      · rw [c] at h9; exact h9
      · by_cases e : p = i
        · subst e; omega
        · exact k2 p (by omega)
    · show ((0, ()) : Int × Unit) = (pErr h t, ())
      rw [ep, if_pos (fit_iff.2 ⟨c, fun p hp => k2 p (by omega)⟩)]
def holdsB (t : TrD) (c : List Int) : Bool := (List.range 6).all (fun p => (t.getD p []).getD (c.getD p 0).toNat false)
def inTr (t : TrD) (c : List Int) : Prop := t.length = 6 ∧ ∀ p, p < 6 → 0 ≤ c.getD p 0 ∧ c.getD p 0 < (t.getD p []).length
def cholds : Ctr := { ps := [.v Tr, .v Vec], rs := [.bool], pre := fun x => inTr x.1 x.2.1, fn := fun x => (holdsB x.1 x.2.1, ()), out := fun _ => () }
noncomputable def Epholds : Env := { P := Try.prog, tt := tt, ctr := [], res := [Go.ResultVar.tmp 4], rs := [Ty.bool], ps := [PK.v (Ty.slc false (Ty.slc false Ty.bool)), PK.v Vec], cuts := [(2, [(0, none), (7, none), (8, none)])], nt := 21 }
theorem Epholds_ok : EnvOk Epholds := envOk tt_ok trivial
theorem Fpholds_ok : FnOk Epholds Try.f71 := ⟨rfl, rfl⟩
theorem Epholds_t (x0 : List (List Bool)) (x1 : List Int) : exec Epholds 1000 [.code (bodyOf Try.prog 71)] (initSt cholds.ps ((x0, x1, ()))) =
  .cut (loopAt (bodyOf Try.prog 71) 2).1 (loopAt (bodyOf Try.prog 71) 2).2 (St.mk [(0, AV.val (Ty.slc false (Ty.slc false Ty.bool)) x0), (7, AV.val Vec x1), (8, AV.val (Ty.int IntKind.i64) (0 : Int))] []) := by kernel_rfl
def Epholds_s2 (v0 : List (List Bool)) (v7 : List Int) (v8 : Int) : St := St.mk [(0, AV.val (Ty.slc false (Ty.slc false Ty.bool)) v0), (7, AV.val Vec v7), (8, AV.val (Ty.int IntKind.i64) v8)] []
theorem Epholds_l2 (v0 : List (List Bool)) (v7 : List Int) (v8 : Int) : exec Epholds 1000 (.code (loopAt (bodyOf Try.prog 71) 2).1 :: .inLoop (loopAt (bodyOf Try.prog 71) 2).1 :: (loopAt (bodyOf Try.prog 71) 2).2) (Epholds_s2 v0 v7 v8) =
  cond (decide (v8 < (6 : Int))) (.need ((0 : Int) ≤ v8 ∧ v8 < (↑6 : Int)) (.need ((0 : Int) ≤ v8 ∧ v8 < (↑(List.length v0) : Int)) (.need ((0 : Int) ≤ List.getD v7 (Int.toNat v8) (0 : Int) ∧ List.getD v7 (Int.toNat v8) (0 : Int) < (↑(List.length (List.getD v0 (Int.toNat v8) [])) : Int)) (cond (!List.getD (List.getD v0 (Int.toNat v8) []) (Int.toNat (List.getD v7 (Int.toNat v8) (0 : Int))) false) (.ret ((false, ()))) (.need (inK IntKind.i64 (v8 + (1 : Int))) (.cut (loopAt (bodyOf Try.prog 71) 2).1 (loopAt (bodyOf Try.prog 71) 2).2 (St.mk [(0, AV.val (Ty.slc false (Ty.slc false Ty.bool)) v0), (7, AV.val Vec v7), (8, AV.val (Ty.int IntKind.i64) (v8 + (1 : Int)))] []))))))) (.ret ((true, ()))) := by kernel_rfl
theorem holds_iff {t : TrD} {c : List Int} : holdsB t c = true ↔ ∀ p, p < 6 → (t.getD p []).getD (c.getD p 0).toNat false = true := by
  rw [holdsB, List.all_eq_true]
  exact ⟨fun h1 p hp => h1 p (List.mem_range.2 hp), fun h1 p hp => h1 p (List.mem_range.1 hp)⟩
theorem cholds_valid : cholds.Valid Try.prog 71 := by
  refine Ctr.valid_of Epholds_ok rfl rfl Try.func71 (c := bodyOf Try.prog 71) rfl rfl Fpholds_ok rfl ?_
  rintro ⟨(t : TrD), (c : List Int), ⟨⟩⟩ ⟨h6, hin⟩ -
  have h6 : t.length = 6 := h6
  have hin : ∀ p, p < 6 → 0 ≤ c.getD p 0 ∧ c.getD p 0 < (t.getD p []).length := hin
  refine exec_sound (n := 1000) Epholds_ok Fpholds_ok ?_
  refine holds_of_eq (Epholds_t t c) ?_
  refine Reach.loopI Epholds_ok Fpholds_ok (fun i : Nat => Epholds_s2 t c (i : Int)) (fun i => i ≤ 6 ∧ ∀ p, p < i → (t.getD p []).getD (c.getD p 0).toNat false = true) (fun i => 6 - i) 1000 (fun _ => ⟨uniq_of rfl, uniq_of rfl⟩) ?_ 0 ⟨by omega, fun p hp => by omega⟩
  rintro i ⟨k1, k2⟩ - ih
  refine holds_of_eq (Epholds_l2 ..) ?_
  simp only [holds_cond, Tree.holds, true_and, true_implies, decide_eq_true_eq, decide_eq_false_iff_not, Bool.not_eq_true', Bool.not_eq_false', Int.toNat_natCast, inK_i64, List.length_set, List.length_cons, List.length_nil, h6]
  refine ⟨fun d => ?_, fun d => ?_⟩
  · refine ⟨by omega, fun _ => ⟨by omega, fun _ => ⟨hin i (by omega), fun _ => ⟨fun f => ?_, fun f => ⟨by omega, fun _ => ih (i + 1) ⟨by omega, fun p hp => ?_⟩ (by omega)⟩⟩⟩⟩⟩
    · show ((false, ()) : Bool × Unit) = (holdsB t c, ())
      cases hc : holdsB t c with
      | false => rfl
      | true => rw [holds_iff.1 hc i (by omega)] at f; cases f
    · by_cases e : p = i
      · subst e; exact f
      · exact k2 p (by omega)
  · show ((true, ()) : Bool × Unit) = (holdsB t c, ())
    rw [holds_iff.2 (fun p hp => k2 p (by omega))]
def cso : Ctr := { ps := [.v Tr, .v Vec], rs := [.bool], pre := fun x => inTr x.1 x.2.1, fn := fun x => (holdsB x.1 x.2.1, ()), out := fun _ => () }
noncomputable def Epso : Env := { P := Try.prog, tt := tt, ctr := [], res := [Go.ResultVar.tmp 4], rs := [Ty.bool], ps := [PK.v (Ty.slc false (Ty.slc false Ty.bool)), PK.v Vec], cuts := [(2, [(0, none), (7, none), (8, none)])], nt := 21 }
theorem Epso_ok : EnvOk Epso := envOk tt_ok trivial
theorem Fpso_ok : FnOk Epso Try.f46 := ⟨rfl, rfl⟩
theorem Epso_t (x0 : List (List Bool)) (x1 : List Int) : exec Epso 1000 [.code (bodyOf Try.prog 46)] (initSt cso.ps ((x0, x1, ()))) =
  .cut (loopAt (bodyOf Try.prog 46) 2).1 (loopAt (bodyOf Try.prog 46) 2).2 (St.mk [(0, AV.val (Ty.slc false (Ty.slc false Ty.bool)) x0), (7, AV.val Vec x1), (8, AV.val (Ty.int IntKind.i64) (0 : Int))] []) := by kernel_rfl
def Epso_s2 (v0 : List (List Bool)) (v7 : List Int) (v8 : Int) : St := St.mk [(0, AV.val (Ty.slc false (Ty.slc false Ty.bool)) v0), (7, AV.val Vec v7), (8, AV.val (Ty.int IntKind.i64) v8)] []
theorem Epso_l2 (v0 : List (List Bool)) (v7 : List Int) (v8 : Int) : exec Epso 1000 (.code (loopAt (bodyOf Try.prog 46) 2).1 :: .inLoop (loopAt (bodyOf Try.prog 46) 2).1 :: (loopAt (bodyOf Try.prog 46) 2).2) (Epso_s2 v0 v7 v8) =
  cond (decide (v8 < (6 : Int))) (.need ((0 : Int) ≤ v8 ∧ v8 < (↑6 : Int)) (.need ((0 : Int) ≤ v8 ∧ v8 < (↑(List.length v0) : Int)) (.need ((0 : Int) ≤ List.getD v7 (Int.toNat v8) (0 : Int) ∧ List.getD v7 (Int.toNat v8) (0 : Int) < (↑(List.length (List.getD v0 (Int.toNat v8) [])) : Int)) (cond (!List.getD (List.getD v0 (Int.toNat v8) []) (Int.toNat (List.getD v7 (Int.toNat v8) (0 : Int))) false) (.ret ((false, ()))) (.need (inK IntKind.i64 (v8 + (1 : Int))) (.cut (loopAt (bodyOf Try.prog 46) 2).1 (loopAt (bodyOf Try.prog 46) 2).2 (St.mk [(0, AV.val (Ty.slc false (Ty.slc false Ty.bool)) v0), (7, AV.val Vec v7), (8, AV.val (Ty.int IntKind.i64) (v8 + (1 : Int)))] []))))))) (.ret ((true, ()))) := by kernel_rfl
theorem cso_valid : cso.Valid Try.prog 46 := by
  refine Ctr.valid_of Epso_ok rfl rfl Try.func46 (c := bodyOf Try.prog 46) rfl rfl Fpso_ok rfl ?_
  rintro ⟨(t : TrD), (c : List Int), ⟨⟩⟩ ⟨h6, hin⟩ -
  have h6 : t.length = 6 := h6
  have hin : ∀ p, p < 6 → 0 ≤ c.getD p 0 ∧ c.getD p 0 < (t.getD p []).length := hin
  refine exec_sound (n := 1000) Epso_ok Fpso_ok ?_
  refine holds_of_eq (Epso_t t c) ?_
  refine Reach.loopI Epso_ok Fpso_ok (fun i : Nat => Epso_s2 t c (i : Int)) (fun i => i ≤ 6 ∧ ∀ p, p < i → (t.getD p []).getD (c.getD p 0).toNat false = true) (fun i => 6 - i) 1000 (fun _ => ⟨uniq_of rfl, uniq_of rfl⟩) ?_ 0 ⟨by omega, fun p hp => by omega⟩
  rintro i ⟨k1, k2⟩ - ih
  refine holds_of_eq (Epso_l2 ..) ?_
  simp only [holds_cond, Tree.holds, true_and, true_implies, decide_eq_true_eq, decide_eq_false_iff_not, Bool.not_eq_true', Bool.not_eq_false', Int.toNat_natCast, inK_i64, List.length_set, List.length_cons, List.length_nil, h6]
  refine ⟨fun d => ?_, fun d => ?_⟩
  · refine ⟨by omega, fun _ => ⟨by omega, fun _ => ⟨hin i (by omega), fun _ => ⟨fun f => ?_, fun f => ⟨by omega, fun _ => ih (i + 1) ⟨by omega, fun p hp => ?_⟩ (by omega)⟩⟩⟩⟩⟩
    · show ((false, ()) : Bool × Unit) = (holdsB t c, ())
      cases hc : holdsB t c with
      | false => rfl
      | true => rw [holds_iff.1 hc i (by omega)] at f; cases f
    · by_cases e : p = i
      · subst e; exact f
      · exact k2 p (by omega)
  · show ((true, ()) : Bool × Unit) = (holdsB t c, ())
    rw [holds_iff.2 (fun p hp => k2 p (by omega))]
def firstC (h : List Ev) (t : TrD) : Option (List Int) := (allL h).find? (fun c => holdsB t c && (allL h).all (fun d => !(holdsB t d) || within c d))
def firstR (h : List Ev) (t : TrD) : List Int × Int × Unit := if pErr h t ≠ 0 then (v0, pErr h t, ()) else match firstC h t with
  | some c => (c, 0, ())
  | none => (v0, 6, ())
def cfirst : Ctr := { ps := [.v Es, .v Tr], rs := [Vec, I64], pre := fun _ => True, fn := fun x => firstR x.1 x.2.1, out := fun _ => () }
noncomputable def Epfirst : Env := { P := Try.prog, tt := tt, ctr := [(70, cpcheck), (71, cholds), (72, cgrow)], res := [Go.ResultVar.cell 4 41, Go.ResultVar.tmp 5], rs := [Ty.arr 6 (Ty.int IntKind.i64), Ty.int IntKind.i64], ps := [PK.v Es, PK.v (Ty.slc false (Ty.slc false Ty.bool))], cuts := [(5, [(0, none), (1, none), (4, none), (7, none)]), (7, [(0, none), (1, none), (4, none), (7, none), (20, none)]), (9, [(0, none), (1, none), (4, none), (7, none), (8, none), (20, none)])], nt := 56 }
theorem Epfirst_ok : EnvOk Epfirst := envOk tt_ok ⟨cpcheck_valid, cholds_valid, cgrow_valid, trivial⟩
theorem Fpfirst_ok : FnOk Epfirst Try.f39 := ⟨rfl, rfl⟩
theorem Epfirst_t (x0 : List (Int × Int × Int × Unit)) (x1 : List (List Bool)) : exec Epfirst 1000 [.code (bodyOf Try.prog 39)] (initSt cfirst.ps ((x0, x1, ()))) =
  .need (True) (cond (decide (pErr x0 x1 ≠ (0 : Int))) (.ret (([(0 : Int), (0 : Int), (0 : Int), (0 : Int), (0 : Int), (0 : Int)], pErr x0 x1, ()))) (.cut (loopAt (bodyOf Try.prog 39) 5).1 (loopAt (bodyOf Try.prog 39) 5).2 (St.mk [(0, AV.val Es x0), (1, AV.val (Ty.slc false (Ty.slc false Ty.bool)) x1), (4, AV.ptr 4 []), (7, AV.ptr 7 [])] [(4, Ent.var Vec [(0 : Int), (0 : Int), (0 : Int), (0 : Int), (0 : Int), (0 : Int)]), (7, Ent.var Vec [(0 : Int), (0 : Int), (0 : Int), (0 : Int), (0 : Int), (0 : Int)])]))) := by kernel_rfl
def Epfirst_s5 (v0 : List (Int × Int × Int × Unit)) (v1 : List (List Bool)) (o4 : List Int) (o7 : List Int) : St := St.mk [(0, AV.val Es v0), (1, AV.val (Ty.slc false (Ty.slc false Ty.bool)) v1), (4, AV.ptr 4 []), (7, AV.ptr 7 [])] [(4, Ent.var Vec o4), (7, Ent.var Vec o7)]
theorem Epfirst_l5 (v0 : List (Int × Int × Int × Unit)) (v1 : List (List Bool)) (o4 : List Int) (o7 : List Int) : exec Epfirst 1000 (.code (loopAt (bodyOf Try.prog 39) 5).1 :: .inLoop (loopAt (bodyOf Try.prog 39) 5).1 :: (loopAt (bodyOf Try.prog 39) 5).2) (Epfirst_s5 v0 v1 o4 o7) =
  .need (inTr v1 o7) (cond (!holdsB v1 o7) (.cut (loopAt (bodyOf Try.prog 39) 7).1 (loopAt (bodyOf Try.prog 39) 7).2 (St.mk [(0, AV.val Es v0), (1, AV.val (Ty.slc false (Ty.slc false Ty.bool)) v1), (4, AV.ptr 4 []), (7, AV.ptr 7 []), (20, AV.val (Ty.int IntKind.i64) (0 : Int))] [(4, Ent.var Vec o4), (7, Ent.var Vec o7)])) (.ret ((o7, (0 : Int), ())))) := by kernel_rfl
def Epfirst_s7 (v0 : List (Int × Int × Int × Unit)) (v1 : List (List Bool)) (v20 : Int) (o4 : List Int) (o7 : List Int) : St := St.mk [(0, AV.val Es v0), (1, AV.val (Ty.slc false (Ty.slc false Ty.bool)) v1), (4, AV.ptr 4 []), (7, AV.ptr 7 []), (20, AV.val (Ty.int IntKind.i64) v20)] [(4, Ent.var Vec o4), (7, Ent.var Vec o7)]
theorem Epfirst_l7 (v0 : List (Int × Int × Int × Unit)) (v1 : List (List Bool)) (v20 : Int) (o4 : List Int) (o7 : List Int) : exec Epfirst 1000 (.code (loopAt (bodyOf Try.prog 39) 7).1 :: .inLoop (loopAt (bodyOf Try.prog 39) 7).1 :: (loopAt (bodyOf Try.prog 39) 7).2) (Epfirst_s7 v0 v1 v20 o4 o7) =
  cond (decide (v20 < (6 : Int))) (.cut (loopAt (bodyOf Try.prog 39) 9).1 (loopAt (bodyOf Try.prog 39) 9).2 (St.mk [(0, AV.val Es v0), (1, AV.val (Ty.slc false (Ty.slc false Ty.bool)) v1), (4, AV.ptr 4 []), (7, AV.ptr 7 []), (8, AV.val (Ty.int IntKind.i64) v20), (20, AV.val (Ty.int IntKind.i64) v20)] [(4, Ent.var Vec o4), (7, Ent.var Vec o7)])) (.need (True) (.cut (loopAt (bodyOf Try.prog 39) 5).1 (loopAt (bodyOf Try.prog 39) 5).2 (St.mk [(0, AV.val Es v0), (1, AV.val (Ty.slc false (Ty.slc false Ty.bool)) v1), (4, AV.ptr 4 []), (7, AV.ptr 7 [])] [(4, Ent.var Vec o4), (7, Ent.var Vec (Prod.fst (growR v0 o7)))]))) := by kernel_rfl
def Epfirst_s9 (v0 : List (Int × Int × Int × Unit)) (v1 : List (List Bool)) (v8 : Int) (v20 : Int) (o4 : List Int) (o7 : List Int) : St := St.mk [(0, AV.val Es v0), (1, AV.val (Ty.slc false (Ty.slc false Ty.bool)) v1), (4, AV.ptr 4 []), (7, AV.ptr 7 []), (8, AV.val (Ty.int IntKind.i64) v8), (20, AV.val (Ty.int IntKind.i64) v20)] [(4, Ent.var Vec o4), (7, Ent.var Vec o7)]
theorem Epfirst_l9 (v0 : List (Int × Int × Int × Unit)) (v1 : List (List Bool)) (v8 : Int) (v20 : Int) (o4 : List Int) (o7 : List Int) : exec Epfirst 1000 (.code (loopAt (bodyOf Try.prog 39) 9).1 :: .inLoop (loopAt (bodyOf Try.prog 39) 9).1 :: (loopAt (bodyOf Try.prog 39) 9).2) (Epfirst_s9 v0 v1 v8 v20 o4 o7) =
  .need ((0 : Int) ≤ v8 ∧ v8 < (↑(List.length v1) : Int)) (.need ((0 : Int) ≤ v8 ∧ v8 < (↑6 : Int)) (.need ((0 : Int) ≤ List.getD o7 (Int.toNat v8) (0 : Int) ∧ List.getD o7 (Int.toNat v8) (0 : Int) < (↑(List.length (List.getD v1 (Int.toNat v8) [])) : Int)) (cond (!List.getD (List.getD v1 (Int.toNat v8) []) (Int.toNat (List.getD o7 (Int.toNat v8) (0 : Int))) false) (.need ((0 : Int) ≤ v8 ∧ v8 < (↑6 : Int)) (.need (inK IntKind.i64 (List.getD o7 (Int.toNat v8) (0 : Int) + (1 : Int))) (.need ((0 : Int) ≤ v8 ∧ v8 < (↑6 : Int)) (.need ((0 : Int) ≤ v8 ∧ v8 < (↑6 : Int)) (.need ((0 : Int) ≤ v8 ∧ v8 < (↑(List.length v1) : Int)) (cond (decide (List.getD (List.set o7 (Int.toNat v8) (List.getD o7 (Int.toNat v8) (0 : Int) + (1 : Int))) (Int.toNat v8) (0 : Int) = (↑(List.length (List.getD v1 (Int.toNat v8) [])) : Int))) (.ret (([(0 : Int), (0 : Int), (0 : Int), (0 : Int), (0 : Int), (0 : Int)], (6 : Int), ()))) (.cut (loopAt (bodyOf Try.prog 39) 9).1 (loopAt (bodyOf Try.prog 39) 9).2 (St.mk [(0, AV.val Es v0), (1, AV.val (Ty.slc false (Ty.slc false Ty.bool)) v1), (4, AV.ptr 4 []), (7, AV.ptr 7 []), (8, AV.val (Ty.int IntKind.i64) v8), (20, AV.val (Ty.int IntKind.i64) v20)] [(4, Ent.var Vec o4), (7, Ent.var Vec (List.set o7 (Int.toNat v8) (List.getD o7 (Int.toNat v8) (0 : Int) + (1 : Int))))])))))))) (.need (inK IntKind.i64 (v20 + (1 : Int))) (.cut (loopAt (bodyOf Try.prog 39) 7).1 (loopAt (bodyOf Try.prog 39) 7).2 (St.mk [(0, AV.val Es v0), (1, AV.val (Ty.slc false (Ty.slc false Ty.bool)) v1), (4, AV.ptr 4 []), (7, AV.ptr 7 []), (20, AV.val (Ty.int IntKind.i64) (v20 + (1 : Int)))] [(4, Ent.var Vec o4), (7, Ent.var Vec o7)])))))) := by kernel_rfl
/-- a right cut in which it is so -/
def Good (h : List Ev) (t : TrD) (d : List Int) : Prop := CutOf h d ∧ OkC h d ∧ holdsB t d = true
theorem first_some {h : List Ev} (hh : scheck h = 0) {t : TrD} {c : List Int} (hc : Good h t c) (hl : ∀ d, Good h t d → Le6 c d) : firstC h t = some c := by
  have key : (holdsB t c && (allL h).all (fun d => !(holdsB t d) || within c d)) = true := by
    rw [hc.2.2, Bool.true_and, List.all_eq_true]
    intro d hd
    obtain ⟨d1, d2⟩ := (mem_all hh).1 hd
    cases hd3 : holdsB t d with
    | false => rfl
    | true => exact (within_le d1.len).2 (hl d ⟨d1, d2, hd3⟩)
  cases hf : firstC h t with
  | none => exact absurd key (List.find?_eq_none.1 hf c ((mem_all hh).2 ⟨hc.1, hc.2.1⟩))
  | some d =>
    have h1 := List.find?_some hf
    obtain ⟨d1, d2⟩ := (mem_all hh).1 (List.mem_of_find?_eq_some hf)
    rw [Bool.and_eq_true, List.all_eq_true] at h1
    have h2 := h1.2 c ((mem_all hh).2 ⟨hc.1, hc.2.1⟩)
    rw [hc.2.2] at h2
    have h3 : Le6 d c := (within_le hc.1.len).1 h2
    rw [Le6.anti d1.len hc.1.len h3 (hl d ⟨d1, d2, h1.1⟩)]
theorem first_none {h : List Ev} (hh : scheck h = 0) {t : TrD} (hn : ∀ d, ¬ Good h t d) : firstC h t = none := by
  refine List.find?_eq_none.2 (fun d hd hp => ?_)
  obtain ⟨d1, d2⟩ := (mem_all hh).1 hd
  exact hn d ⟨d1, d2, (Bool.and_eq_true _ _ ▸ hp).1⟩
theorem pErr_ok {h : List Ev} {t : TrD} (he : pErr h t = 0) : scheck h = 0 ∧ t.length = 6 ∧ ∀ p, p < 6 → (t.getD p []).length = cnt h p h.length + 1 := by
  unfold pErr at he
  split at he
  · rename_i h1; exact absurd he h1
  · rename_i h1
    split at he
    · rename_i h2; exact ⟨Decidable.of_not_not h1, fit_iff.1 h2⟩
    · cases he
theorem cut_in {h : List Ev} {t : TrD} {c : List Int} (h6 : t.length = 6) (hf : ∀ p, p < 6 → (t.getD p []).length = cnt h p h.length + 1) (hc : CutOf h c) : inTr t c :=
  ⟨h6, fun p hp => by have := hc.lo p hp; have := hc.hi p hp; have := hf p hp; omega⟩
def gap (h : List Ev) (c : List Int) : Nat → Nat
  | 0 => 0
  | p + 1 => gap h c p + (cnt h p h.length - (c.getD p 0).toNat)
theorem gap_le {h : List Ev} {c d : List Int} (hc : CutOf h c) (hd : Le6 c d) : ∀ {n : Nat}, n ≤ 6 → gap h d n ≤ gap h c n
  | 0, _ => Nat.le_refl _
  | n + 1, hn => by
    have h1 := gap_le hc hd (n := n) (by omega)
    have h2 := hd n (by omega)
    have h3 := hc.lo n (by omega)
    simp only [gap]; omega
theorem gap_lt {h : List Ev} {c d : List Int} (hc : CutOf h c) (hcd : CutOf h d) (hd : Le6 c d) {p : Nat} : ∀ {n : Nat}, n ≤ 6 → p < n → c.getD p 0 < d.getD p 0 → gap h d n < gap h c n
  | 0, _, h1, _ => by omega
  | n + 1, hn, h1, h2 => by
    have h3 := hc.lo n (by omega)
    have h5 := hcd.hi n (by omega)
    have h6 := hd n (by omega)
    simp only [gap]
    by_cases e : p = n
    · subst e
      have := gap_le hc hd (n := p) (by omega)
      omega
    · have := gap_lt hc hcd hd (n := n) (by omega) (by omega) h2
      omega
theorem cfirst_valid : cfirst.Valid Try.prog 39 := by
  refine Ctr.valid_of Epfirst_ok rfl rfl Try.func39 (c := bodyOf Try.prog 39) rfl rfl Fpfirst_ok rfl ?_
  rintro ⟨(h : List Ev), (t : TrD), ⟨⟩⟩ - -
  refine exec_sound (n := 1000) Epfirst_ok Fpfirst_ok ?_
  refine holds_of_eq (Epfirst_t h t) ?_
  simp only [holds_cond, Tree.holds, true_and, true_implies, decide_eq_true_eq, decide_eq_false_iff_not, Bool.not_eq_true', Bool.not_eq_false', Int.toNat_natCast, inK_i64, List.length_set, List.length_cons, List.length_nil]
  refine ⟨fun a => ?_, fun a => ?_⟩
  · show ((_, _, ()) : List Int × Int × Unit) = firstR h t; rw [firstR, if_pos a]
  have a : pErr h t = 0 := Decidable.of_not_not a
  obtain ⟨hh, h6, hf⟩ := pErr_ok a
  have hl := (scheck_ok hh).1
  have eF : firstR h t = match firstC h t with
    | some c => (c, 0, ())
    | none => (v0, 6, ()) := by rw [firstR, if_neg (by simp [a])]
  refine Reach.loopI Epfirst_ok Fpfirst_ok (fun c : List Int => Epfirst_s5 h t v0 c) (fun c => CutOf h c ∧ OkC h c ∧ ∀ d, Good h t d → Le6 c d) (fun c => gap h c 6) 1000 (fun _ => ⟨uniq_of rfl, uniq_of rfl⟩) ?_ v0 ⟨CutOf.zero hh, okC_zero hh, fun d hd p hp => by rw [v0_at]; exact hd.1.lo p hp⟩
  rintro c ⟨k1, k2, k3⟩ - ihc
  refine holds_of_eq (Epfirst_l5 ..) ?_
  simp only [holds_cond, Tree.holds, true_and, true_implies, decide_eq_true_eq, decide_eq_false_iff_not, Bool.not_eq_true', Bool.not_eq_false', Int.toNat_natCast, inK_i64, List.length_set, List.length_cons, List.length_nil]
  refine ⟨cut_in h6 hf k1, fun _ => ⟨fun b => ?_, fun b => ?_⟩⟩
  · refine Reach.loopI Epfirst_ok Fpfirst_ok (fun s : Nat × List Int => Epfirst_s7 h t (s.1 : Int) v0 s.2) (fun s => s.1 ≤ 6 ∧ CutOf h s.2 ∧ Le6 c s.2 ∧ (∀ d, Good h t d → Le6 s.2 d) ∧ ∀ p, p < s.1 → (t.getD p []).getD (s.2.getD p 0).toNat false = true) (fun s => 6 - s.1) 1000 (fun _ => ⟨uniq_of rfl, uniq_of rfl⟩) ?_ (0, c) ⟨by simp, k1, Le6.refl, k3, fun p hp => by simp at hp⟩
    rintro ⟨i, e⟩ ⟨m1, m2, m3, m4, m5⟩ - ihi
    have m1 : i ≤ 6 := m1
    have m2 : CutOf h e := m2
    have m3 : Le6 c e := m3
    have m4 : ∀ d, Good h t d → Le6 e d := m4
    have m5 : ∀ p, p < i → (t.getD p []).getD (e.getD p 0).toNat false = true := m5
    refine holds_of_eq (Epfirst_l7 ..) ?_
    simp only [holds_cond, Tree.holds, true_and, true_implies, decide_eq_true_eq, decide_eq_false_iff_not, Bool.not_eq_true', Bool.not_eq_false', Int.toNat_natCast, inK_i64, List.length_set, List.length_cons, List.length_nil]
    refine ⟨fun f => ?_, fun f => ?_⟩
    · have hi : i < 6 := by omega
      refine Reach.loopI Epfirst_ok Fpfirst_ok (fun g : List Int => Epfirst_s9 h t (i : Int) (i : Int) v0 g) (fun g => CutOf h g ∧ Le6 c g ∧ (∀ d, Good h t d → Le6 g d) ∧ ∀ p, p < i → (t.getD p []).getD (g.getD p 0).toNat false = true) (fun g => gap h g 6) 1000 (fun _ => ⟨uniq_of rfl, uniq_of rfl⟩) ?_ e ⟨m2, m3, m4, m5⟩
      rintro g ⟨n2, n3, n4, n5⟩ - ihg
      refine holds_of_eq (Epfirst_l9 ..) ?_
      have q1 := n2.lo i hi
      have q2 := n2.hi i hi
      have q3 := hf i hi
      have q4 := cnt_le' (h := h) (p := i) (i := h.length)
      have q5 := n2.len
      have q6 : ∀ x : Int, (g.set i x).getD i 0 = x := fun x => by rw [getD_set (by omega), if_pos rfl]
      simp only [holds_cond, Tree.holds, true_and, true_implies, decide_eq_true_eq, decide_eq_false_iff_not, Bool.not_eq_true', Bool.not_eq_false', Int.toNat_natCast, inK_i64, List.length_set, List.length_cons, List.length_nil, h6, q6]
      refine ⟨by omega, fun _ => ⟨by omega, fun _ => ⟨by omega, fun _ => ⟨fun r => ⟨by omega, fun _ => ⟨by omega, fun _ => ⟨by omega, fun _ => ⟨by omega, fun _ => ⟨by omega, fun _ => ⟨fun s => ?_, fun s => ?_⟩⟩⟩⟩⟩⟩, fun r => ⟨by omega, fun _ => ?_⟩⟩⟩⟩⟩
      · show ((v0, 6, ()) : List Int × Int × Unit) = firstR h t
        rw [eF, first_none hh (fun d hd => ?_)]
        have u1 := n4 d hd i hi
        have u2 := hd.1.hi i hi
        have u3 : d.getD i 0 = g.getD i 0 := by omega
        have u4 := holds_iff.1 hd.2.2 i hi
        rw [u3, r] at u4; cases u4
      · have w : ∀ q, (g.set i (g.getD i 0 + 1)).getD q 0 = if q = i then g.getD i 0 + 1 else g.getD q 0 := fun q => getD_set (by omega)
        have w1 : Le6 g (g.set i (g.getD i 0 + 1)) := by
          intro q hq
          rw [w]; split
          · rename_i e1; subst e1; omega
          · exact Int.le_refl _
        have w2 : CutOf h (g.set i (g.getD i 0 + 1)) := by
          refine ⟨by simp [q5], fun q hq => Int.le_trans (n2.lo q hq) (w1 q hq), fun q hq => ?_⟩
          rw [w]; split
          · rename_i e1; subst e1; omega
          · exact n2.hi q hq
        refine ihg (g.set i (g.getD i 0 + 1)) ⟨w2, n3.trans w1, fun d hd q hq => ?_, fun p hp => ?_⟩ (gap_lt n2 w2 w1 (p := i) (Nat.le_refl 6) hi (by rw [w, if_pos rfl]; omega))
        · rw [w]; split
          · rename_i e1; subst e1
            have u1 := n4 d hd q hq
            by_cases u3 : d.getD q 0 = g.getD q 0
            · have u4 := holds_iff.1 hd.2.2 q hq
              rw [u3, r] at u4; cases u4
            · omega
          · exact n4 d hd q hq
        · rw [w, if_neg (by omega)]; exact n5 p hp
      · refine ihi (i + 1, g) ⟨by show i + 1 ≤ 6; omega, n2, n3, n4, fun p hp => ?_⟩ (by show 6 - (i + 1) < 6 - i; omega)
        have hp : p < i + 1 := hp
        by_cases e1 : p = i
        · subst e1; exact r
        · exact n5 p (by omega)
    · have hi : i = 6 := by omega
      subst hi
      have eg : growR h e = (growF h e, 0, ()) := by rw [growR, if_neg (by simp [(cutErr_ok m2.len).2 ⟨hh, m2⟩])]
      rw [eg]
      have g1 : Le6 e (growF h e) := grow_above hh m2
      refine ihc (growF h e) ⟨grow_cut hh m2, grow_ok hh m2, fun d hd => grow_least hh m2 hd.1 hd.2.1 (m4 d hd)⟩ ?_
      have g2 : Le6 c (growF h e) := m3.trans g1
      have : ∃ p, p < 6 ∧ c.getD p 0 < (growF h e).getD p 0 := by
        refine Decidable.byContradiction (fun hno => ?_)
        have heq : ∀ p, p < 6 → e.getD p 0 = c.getD p 0 := fun p hp => by
          have u1 : c.getD p 0 ≤ e.getD p 0 := m3 p hp
          have u2 : e.getD p 0 ≤ (growF h e).getD p 0 := g1 p hp
          have u3 : ¬ c.getD p 0 < (growF h e).getD p 0 := fun h1 => hno ⟨p, hp, h1⟩
          omega
        have : holdsB t c = true := holds_iff.2 (fun p hp => by rw [← heq p hp]; exact m5 p hp)
        rw [this] at b; cases b
      obtain ⟨p, hp, h1⟩ := this
      exact gap_lt k1 (grow_cut hh m2) g2 (Nat.le_refl 6) hp h1
  · show ((c, 0, ()) : List Int × Int × Unit) = firstR h t
    rw [eF, first_some hh ⟨k1, k2, b⟩ k3]
def bitT (x : Int) (k : Nat) : Bool := decide (bAnd .u64 (x / 2 ^ min k (IntKind.bits .u64)) 1 = 1)
def anyT (h : List Ev) (o : List Int) : TrD := (List.range 6).map (fun p => (List.range (cnt h p h.length + 1)).map (fun k => bitT (o.getD p 0) k))
def cany : Ctr := { ps := [.v Es, .v (.arr 6 (.int .u64))], rs := [.slc true (.slc true .bool)], pre := fun x => hPre x.1, fn := fun x => (anyT x.1 x.2.1, ()), out := fun _ => () }
noncomputable def Epany : Env := { P := Try.prog, tt := tt, ctr := [(50, csizes)], res := [Go.ResultVar.tmp 4], rs := [Ty.slc true (Ty.slc true Ty.bool)], ps := [PK.v Es, PK.v (Ty.arr 6 (Ty.int IntKind.u64))], cuts := [(3, [(3, none), (5, some (Ty.slc true (Ty.slc true Ty.bool))), (11, none), (12, none)]), (7, [(3, none), (5, some (Ty.slc true (Ty.slc true Ty.bool))), (6, none), (8, some (Ty.slc true Ty.bool)), (11, none), (12, none), (17, none), (18, none)])], nt := 38 }
theorem Epany_ok : EnvOk Epany := envOk tt_ok ⟨csizes_valid, trivial⟩
theorem Fpany_ok : FnOk Epany Try.f43 := ⟨rfl, rfl⟩
theorem Epany_t (x0 : List (Int × Int × Int × Unit)) (x1 : List Int) : exec Epany 1000 [.code (bodyOf Try.prog 43)] (initSt cany.ps ((x0, x1, ()))) =
  .need (hPre x0) (.cut (loopAt (bodyOf Try.prog 43) 3).1 (loopAt (bodyOf Try.prog 43) 3).2 (St.mk [(3, AV.ptr 3 []), (5, AV.at_ 1000005 []), (11, AV.val Vec (cntV x0 (List.length x0))), (12, AV.val (Ty.int IntKind.i64) (0 : Int))] [(3, Ent.var (Ty.arr 6 (Ty.int IntKind.u64)) x1), (1000005, Ent.own (Ty.slc true (Ty.slc true Ty.bool)) [])])) := by kernel_rfl
def Epany_s3 (v11 : List Int) (v12 : Int) (o3 : List Int) (o1000005 : List (List Bool)) : St := St.mk [(3, AV.ptr 3 []), (5, AV.at_ 1000005 []), (11, AV.val Vec v11), (12, AV.val (Ty.int IntKind.i64) v12)] [(3, Ent.var (Ty.arr 6 (Ty.int IntKind.u64)) o3), (1000005, Ent.own (Ty.slc true (Ty.slc true Ty.bool)) o1000005)]
theorem Epany_l3 (v11 : List Int) (v12 : Int) (o3 : List Int) (o1000005 : List (List Bool)) : exec Epany 1000 (.code (loopAt (bodyOf Try.prog 43) 3).1 :: .inLoop (loopAt (bodyOf Try.prog 43) 3).1 :: (loopAt (bodyOf Try.prog 43) 3).2) (Epany_s3 v11 v12 o3 o1000005) =
  cond (decide (v12 < (6 : Int))) (.need ((0 : Int) ≤ v12 ∧ v12 < (↑6 : Int)) (.need (inK IntKind.i64 (List.getD v11 (Int.toNat v12) (0 : Int) + (1 : Int))) (.cut (loopAt (bodyOf Try.prog 43) 7).1 (loopAt (bodyOf Try.prog 43) 7).2 (St.mk [(3, AV.ptr 3 []), (5, AV.at_ 1000005 []), (6, AV.val (Ty.int IntKind.i64) v12), (8, AV.at_ 1000008 []), (11, AV.val Vec v11), (12, AV.val (Ty.int IntKind.i64) v12), (17, AV.val (Ty.int IntKind.i64) (List.getD v11 (Int.toNat v12) (0 : Int) + (1 : Int))), (18, AV.val (Ty.int IntKind.i64) (0 : Int))] [(3, Ent.var (Ty.arr 6 (Ty.int IntKind.u64)) o3), (1000005, Ent.own (Ty.slc true (Ty.slc true Ty.bool)) o1000005), (1000008, Ent.own (Ty.slc true Ty.bool) [])])))) (.ret ((o1000005, ()))) := by kernel_rfl
def Epany_s7 (v6 : Int) (v11 : List Int) (v12 : Int) (v17 : Int) (v18 : Int) (o3 : List Int) (o1000005 : List (List Bool)) (o1000008 : List Bool) : St := St.mk [(3, AV.ptr 3 []), (5, AV.at_ 1000005 []), (6, AV.val (Ty.int IntKind.i64) v6), (8, AV.at_ 1000008 []), (11, AV.val Vec v11), (12, AV.val (Ty.int IntKind.i64) v12), (17, AV.val (Ty.int IntKind.i64) v17), (18, AV.val (Ty.int IntKind.i64) v18)] [(3, Ent.var (Ty.arr 6 (Ty.int IntKind.u64)) o3), (1000005, Ent.own (Ty.slc true (Ty.slc true Ty.bool)) o1000005), (1000008, Ent.own (Ty.slc true Ty.bool) o1000008)]
theorem Epany_l7 (v6 : Int) (v11 : List Int) (v12 : Int) (v17 : Int) (v18 : Int) (o3 : List Int) (o1000005 : List (List Bool)) (o1000008 : List Bool) : exec Epany 1000 (.code (loopAt (bodyOf Try.prog 43) 7).1 :: .inLoop (loopAt (bodyOf Try.prog 43) 7).1 :: (loopAt (bodyOf Try.prog 43) 7).2) (Epany_s7 v6 v11 v12 v17 v18 o3 o1000005 o1000008) =
  cond (decide (v18 < v17)) (.need ((0 : Int) ≤ v6 ∧ v6 < (↑6 : Int)) (.need ((0 : Int) ≤ v18) (.need (List.length o1000008 + List.length (List.set [false] (Int.toNat (↑0 : Int)) (decide (bAnd IntKind.u64 (List.getD o3 (Int.toNat v6) (0 : Int) / (2 : Int) ^ min (Int.toNat v18) (IntKind.bits IntKind.u64)) (1 : Int) = (1 : Int)))) ≤ 140737488355328 ∧ (List.length o1000008 + List.length (List.set [false] (Int.toNat (↑0 : Int)) (decide (bAnd IntKind.u64 (List.getD o3 (Int.toNat v6) (0 : Int) / (2 : Int) ^ min (Int.toNat v18) (IntKind.bits IntKind.u64)) (1 : Int) = (1 : Int))))) * Ty.wb Ty.bool ≤ 140737488355328) (.need (inK IntKind.i64 (v18 + (1 : Int))) (.cut (loopAt (bodyOf Try.prog 43) 7).1 (loopAt (bodyOf Try.prog 43) 7).2 (St.mk [(3, AV.ptr 3 []), (5, AV.at_ 1000005 []), (6, AV.val (Ty.int IntKind.i64) v6), (8, AV.at_ 1000008 []), (11, AV.val Vec v11), (12, AV.val (Ty.int IntKind.i64) v12), (17, AV.val (Ty.int IntKind.i64) v17), (18, AV.val (Ty.int IntKind.i64) (v18 + (1 : Int)))] [(3, Ent.var (Ty.arr 6 (Ty.int IntKind.u64)) o3), (1000005, Ent.own (Ty.slc true (Ty.slc true Ty.bool)) o1000005), (1000008, Ent.own (Ty.slc true Ty.bool) (o1000008 ++ List.set [false] (Int.toNat (↑0 : Int)) (decide (bAnd IntKind.u64 (List.getD o3 (Int.toNat v6) (0 : Int) / (2 : Int) ^ min (Int.toNat v18) (IntKind.bits IntKind.u64)) (1 : Int) = (1 : Int)))))])))))) (.need (List.length o1000005 + List.length (List.set [[]] (Int.toNat (↑0 : Int)) o1000008) ≤ 140737488355328 ∧ (List.length o1000005 + List.length (List.set [[]] (Int.toNat (↑0 : Int)) o1000008)) * Ty.wb (Ty.slc true Ty.bool) ≤ 140737488355328) (.need (inK IntKind.i64 (v12 + (1 : Int))) (.cut (loopAt (bodyOf Try.prog 43) 3).1 (loopAt (bodyOf Try.prog 43) 3).2 (St.mk [(3, AV.ptr 3 []), (5, AV.at_ 1000005 []), (11, AV.val Vec v11), (12, AV.val (Ty.int IntKind.i64) (v12 + (1 : Int)))] [(3, Ent.var (Ty.arr 6 (Ty.int IntKind.u64)) o3), (1000005, Ent.own (Ty.slc true (Ty.slc true Ty.bool)) (o1000005 ++ List.set [[]] (Int.toNat (↑0 : Int)) o1000008))])))) := by kernel_rfl
def anyR (h : List Ev) (o : List Int) (p n : Nat) : List Bool := (List.range n).map (fun k => bitT (o.getD p 0) k)
def anyN (h : List Ev) (o : List Int) (n : Nat) : TrD := (List.range n).map (fun p => anyR h o p (cnt h p h.length + 1))
theorem cany_valid : cany.Valid Try.prog 43 := by
  refine Ctr.valid_of Epany_ok rfl rfl Try.func43 (c := bodyOf Try.prog 43) rfl rfl Fpany_ok rfl ?_
  rintro ⟨(h : List Ev), (o : List Int), ⟨⟩⟩ hh -
  have hh : scheck h = 0 := hh
  have hl := (scheck_ok hh).1
  refine exec_sound (n := 1000) Epany_ok Fpany_ok ?_
  refine holds_of_eq (Epany_t h o) ?_
  refine ⟨hh, fun _ => ?_⟩
  refine Reach.loopI Epany_ok Fpany_ok (fun i : Nat => Epany_s3 (cntV h h.length) (i : Int) o (anyN h o i)) (fun i => i ≤ 6) (fun i => 6 - i) 1000 (fun _ => ⟨uniq_of rfl, uniq_of rfl⟩) ?_ 0 (by omega)
  rintro i hi - ihi
  refine holds_of_eq (Epany_l3 ..) ?_
  simp only [holds_cond, Tree.holds, true_and, true_implies, decide_eq_true_eq, decide_eq_false_iff_not, Bool.not_eq_true', Bool.not_eq_false', Int.toNat_natCast, inK_i64, List.length_set, List.length_cons, List.length_nil]
  refine ⟨fun b => ?_, fun b => ?_⟩
  · have hi : i < 6 := by omega
    have q4 := cnt_le' (h := h) (p := i) (i := h.length)
    rw [cntV_at hi]
    refine ⟨by omega, fun _ => ⟨by omega, fun _ => ?_⟩⟩
    refine Reach.loopI Epany_ok Fpany_ok (fun k : Nat => Epany_s7 (i : Int) (cntV h h.length) (i : Int) ((cnt h i h.length : Int) + 1) (k : Int) o (anyN h o i) (anyR h o i k)) (fun k => k ≤ cnt h i h.length + 1) (fun k => cnt h i h.length + 1 - k) 1000 (fun _ => ⟨uniq_of rfl, uniq_of rfl⟩) ?_ 0 (by omega)
    rintro k hk - ihk
    refine holds_of_eq (Epany_l7 ..) ?_
    have l1 : (anyR h o i k).length = k := by simp [anyR]
    have l2 : (anyN h o i).length = i := by simp [anyN]
    simp only [holds_cond, Tree.holds, true_and, true_implies, decide_eq_true_eq, decide_eq_false_iff_not, Bool.not_eq_true', Bool.not_eq_false', Int.toNat_natCast, inK_i64, List.length_set, List.length_cons, List.length_nil, wb_bool, wb_slc, l1, l2, List.set_cons_zero]
    refine ⟨fun c => ?_, fun c => ?_⟩
    · have h9 := ihk (k + 1) (by omega) (by omega)
      have e9 : anyR h o i (k + 1) = anyR h o i k ++ [bitT (o.getD i 0) k] := by rw [anyR, List.range_succ, List.map_append]; rfl
      rw [e9] at h9
      exact ⟨by omega, fun _ => ⟨by omega, fun _ => ⟨by omega, fun _ => ⟨by omega, fun _ => h9⟩⟩⟩⟩
    · have hk : k = cnt h i h.length + 1 := by omega
      subst hk
      have h9 := ihi (i + 1) (by omega) (by omega)
      have e9 : anyN h o (i + 1) = anyN h o i ++ [anyR h o i (cnt h i h.length + 1)] := by rw [anyN, List.range_succ, List.map_append]; rfl
      rw [e9] at h9
      exact ⟨by omega, fun _ => ⟨by omega, fun _ => h9⟩⟩
  · have hi : i = 6 := by omega
    subst hi
    rfl
def clate : Ctr := { ps := [.v Es], rs := [.slc true (.slc true .bool)], pre := fun x => hPre x.1, fn := fun x => (anyT x.1 [2, 3, 3, 3, 3, 3], ()), out := fun _ => () }
noncomputable def Eplate : Env := { P := Try.prog, tt := tt, ctr := [(43, cany)], res := [Go.ResultVar.tmp 2], rs := [Ty.slc true (Ty.slc true Ty.bool)], ps := [PK.v Es], cuts := [], nt := 6 }
theorem Eplate_ok : EnvOk Eplate := envOk tt_ok ⟨cany_valid, trivial⟩
theorem Fplate_ok : FnOk Eplate Try.f41 := ⟨rfl, rfl⟩
theorem Eplate_t (x0 : List (Int × Int × Int × Unit)) : exec Eplate 1000 [.code (bodyOf Try.prog 41)] (initSt clate.ps ((x0, ()))) =
  .need (hPre x0) (.ret ((anyT x0 (List.set (List.set (List.set (List.set (List.set (List.set [(0 : Int), (0 : Int), (0 : Int), (0 : Int), (0 : Int), (0 : Int)] (Int.toNat (↑0 : Int)) (2 : Int)) (Int.toNat (↑1 : Int)) (3 : Int)) (Int.toNat (↑2 : Int)) (3 : Int)) (Int.toNat (↑3 : Int)) (3 : Int)) (Int.toNat (↑4 : Int)) (3 : Int)) (Int.toNat (↑5 : Int)) (3 : Int)), ()))) := by kernel_rfl
theorem clate_valid : clate.Valid Try.prog 41 := by
  refine Ctr.valid_of Eplate_ok rfl rfl Try.func41 (c := bodyOf Try.prog 41) rfl rfl Fplate_ok rfl ?_
  rintro ⟨(h : List Ev), ⟨⟩⟩ hh -
  refine exec_sound (n := 1000) Eplate_ok Fplate_ok ?_
  refine holds_of_eq (Eplate_t h) ?_
  exact ⟨hh, fun _ => rfl⟩
end Go.Proofs.Ytcafiieffenohaa
