/- Quorum systems: Votes, Grid, Dual, Has, Meets. No condition but those named. -/
import Derived.Test.YtdhdpklmipkneaaQM
namespace Go.Proofs.Ytdhdpklmipkneaa
open Go.Ex Go.Sort
set_option maxRecDepth 100000
def votesR (v : List Int) (need : Int) : List Int × Int × Unit :=
  if (1 ≤ v.length ∧ v.length ≤ 10) ∧ (1 ≤ need ∧ need ≤ 16777215) ∧ (∀ y ∈ v, 0 ≤ y ∧ y ≤ 16777215) then (votesF v need, 0, ()) else ([], 1, ())
def cidxV : Ctr := { ps := [.v (.slc false I64), .clo 74 []], rs := [I64], pre := fun x => True, fn := fun x => (idxOf (offV) x.1, ()), out := fun _ => () }
noncomputable def EidxV : Env := { P := Try.prog, tt := tt, ctr := [(74, cvot1)], res := [Go.ResultVar.tmp 4], rs := [Ty.int IntKind.i64], ps := [PK.v (Ty.slc false (Ty.int IntKind.i64)), PK.clo 74 []], cuts := [(2, [(0, none), (1, none), (7, none), (8, none)])], nt := 19 }
theorem EidxV_ok : EnvOk EidxV := envOk tt_ok ⟨cvot1_valid, trivial⟩
theorem FidxV_ok : FnOk EidxV Try.f128 := ⟨rfl, rfl⟩
theorem EidxV_t (x0 : List Int) : exec EidxV 1000 [.code (bodyOf Try.prog 128)] (initSt cidxV.ps ((x0, (), ()))) =
  .cut (loopAt (bodyOf Try.prog 128) 2).1 (loopAt (bodyOf Try.prog 128) 2).2 (St.mk [(0, AV.val (Ty.slc false (Ty.int IntKind.i64)) x0), (1, AV.clo 74 AV.nil), (7, AV.val (Ty.int IntKind.i64) (↑(List.length x0) : Int)), (8, AV.val (Ty.int IntKind.i64) (0 : Int))] []) := by kernel_rfl
def EidxV_s2 (v0 : List Int) (v7 : Int) (v8 : Int) : St := St.mk [(0, AV.val (Ty.slc false (Ty.int IntKind.i64)) v0), (1, AV.clo 74 AV.nil), (7, AV.val (Ty.int IntKind.i64) v7), (8, AV.val (Ty.int IntKind.i64) v8)] []
theorem EidxV_l2 (v0 : List Int) (v7 : Int) (v8 : Int) : exec EidxV 1000 (.code (loopAt (bodyOf Try.prog 128) 2).1 :: .inLoop (loopAt (bodyOf Try.prog 128) 2).1 :: (loopAt (bodyOf Try.prog 128) 2).2) (EidxV_s2 v0 v7 v8) =
  cond (decide (v8 < v7)) (.need ((0 : Int) ≤ v8 ∧ v8 < (↑(List.length v0) : Int)) (.need (True) (cond (offV (List.getD v0 (Int.toNat v8) (0 : Int))) (.ret ((v8, ()))) (.need (inK IntKind.i64 (v8 + (1 : Int))) (.cut (loopAt (bodyOf Try.prog 128) 2).1 (loopAt (bodyOf Try.prog 128) 2).2 (St.mk [(0, AV.val (Ty.slc false (Ty.int IntKind.i64)) v0), (1, AV.clo 74 AV.nil), (7, AV.val (Ty.int IntKind.i64) v7), (8, AV.val (Ty.int IntKind.i64) (v8 + (1 : Int)))] [])))))) (.ret (((-1 : Int), ()))) := by kernel_rfl
theorem cidxV_valid : cidxV.Valid Try.prog 128 := by
  refine Ctr.valid_of EidxV_ok rfl rfl Try.func128 (c := bodyOf Try.prog 128) rfl rfl FidxV_ok rfl ?_
  rintro ⟨(l : List (Int)), ⟨⟩, ⟨⟩⟩ - ⟨⟨hl, -⟩, -⟩
  have hl : l.length ≤ 9223372036854775807 := hl
  refine exec_sound (n := 1000) EidxV_ok FidxV_ok ?_
  refine holds_of_eq (EidxV_t l ) ?_
  refine Reach.loopI EidxV_ok FidxV_ok (fun i : Nat => EidxV_s2 l  (l.length : Int) (i : Int)) (fun i => i ≤ l.length ∧ idxOf (offV) l = idxGo (offV) (l.drop i) i)
    (fun i => l.length - i) 1000 (fun _ => ⟨uniq_of rfl, uniq_of rfl⟩) ?_ 0 ⟨by omega, rfl⟩
  rintro i ⟨k1, k2⟩ - ih
  refine holds_of_eq (EidxV_l2 ..) ?_
  simp only [holds_cond, Tree.holds, true_and, true_implies, decide_eq_true_eq, decide_eq_false_iff_not, Bool.not_eq_true', Bool.not_eq_false', Int.toNat_natCast, inK_i64, List.length_set, List.length_cons, List.length_nil]
  refine ⟨fun h => ?_, fun h => ?_⟩
  · rw [drop_getD (show i < l.length by omega) 0, idxGo] at k2
    refine ⟨by omega, fun _ => ⟨fun c => ?_, fun c => ⟨by omega, fun _ => ih (i + 1) ⟨by omega, ?_⟩ (by omega)⟩⟩⟩
    · show (((i : Int), ()) : Int × Unit) = (idxOf (offV) l, ())
      rw [k2, if_pos (show (offV) (l.getD i 0) = true from c)]
    · rw [k2, if_neg (show ¬ (offV) (l.getD i 0) = true from fun h9 => Bool.noConfusion (Eq.trans (Eq.symm h9) c))]
  · rw [List.drop_eq_nil_of_le (by omega)] at k2
    show (((-1 : Int), ()) : Int × Unit) = (idxOf (offV) l, ())
    rw [k2]; rfl
def cconV : Ctr := { ps := [.v (.slc false I64), .clo 74 []], rs := [.bool], pre := fun x => True, fn := fun x => (List.any (α := Int) x.1 (offV), ()), out := fun _ => () }
noncomputable def EconV : Env := { P := Try.prog, tt := tt, ctr := [(128, cidxV)], res := [Go.ResultVar.tmp 4], rs := [Ty.bool], ps := [PK.v (Ty.slc false (Ty.int IntKind.i64)), PK.clo 74 []], cuts := [], nt := 9 }
theorem EconV_ok : EnvOk EconV := envOk tt_ok ⟨cidxV_valid, trivial⟩
theorem FconV_ok : FnOk EconV Try.f73 := ⟨rfl, rfl⟩
theorem EconV_t (x0 : List Int) : exec EconV 1000 [.code (bodyOf Try.prog 73)] (initSt cconV.ps ((x0, (), ()))) =
  .need (True) (.ret ((decide ((0 : Int) ≤ idxOf offV x0), ()))) := by kernel_rfl
theorem cconV_valid : cconV.Valid Try.prog 73 := by
  refine Ctr.valid_of EconV_ok rfl rfl Try.func73 (c := bodyOf Try.prog 73) rfl rfl FconV_ok rfl ?_
  rintro ⟨(l : List (Int)), ⟨⟩, ⟨⟩⟩ - -
  refine exec_sound (n := 1000) EconV_ok FconV_ok ?_
  refine holds_of_eq (EconV_t l ) ?_
  refine ⟨trivial, fun _ => ?_⟩
  show ((decide (0 ≤ idxOf (offV) l), ()) : Bool × Unit) = (l.any (offV), ())
  rw [idx_any]
def cvotes : Ctr := { ps := [.v (.slc false I64), .v I64], rs := [.slc true U16, I64], pre := fun _ => True, fn := fun x => votesR x.1 x.2.1, out := fun _ => () }
noncomputable def Evotes : Env := { P := Try.prog, tt := tt, ctr := [(72, cinQ), (73, cconV), (75, cminV)], res := [Go.ResultVar.tmp 4, Go.ResultVar.tmp 5], rs := [Ty.slc true (Ty.int IntKind.u16), Ty.int IntKind.i64], ps := [PK.v (Ty.slc false (Ty.int IntKind.i64)), PK.v (Ty.int IntKind.i64)], cuts := [], nt := 24 }
theorem Evotes_ok : EnvOk Evotes := envOk tt_ok ⟨cinQ_valid, cconV_valid, cminV_valid, trivial⟩
theorem Fvotes_ok : FnOk Evotes Try.f25 := ⟨rfl, rfl⟩
theorem Evotes_t (x0 : List Int) (x1 : Int) : exec Evotes 1000 [.code (bodyOf Try.prog 25)] (initSt cvotes.ps ((x0, x1, ()))) =
  .need (True) (cond (!inF (↑(List.length x0) : Int) (1 : Int) (10 : Int)) (.ret (([], (1 : Int), ()))) (.need (True) (cond (!inF x1 (1 : Int) (16777215 : Int)) (.ret (([], (1 : Int), ()))) (.need (True) (cond (List.any x0 offV) (.ret (([], (1 : Int), ()))) (.need ((1 : Int) ≤ (↑(List.length x0) : Int) ∧ (↑(List.length x0) : Int) ≤ (10 : Int) ∧ vokP x0) (.ret ((minF (Int.toNat (↑(List.length x0) : Int)) (enoughV x0 x1), (0 : Int), ()))))))))) := by kernel_rfl

theorem cvotes_valid : cvotes.Valid Try.prog 25 := by
  refine Ctr.valid_of Evotes_ok rfl rfl Try.func25 (c := bodyOf Try.prog 25) rfl rfl Fvotes_ok rfl ?_
  rintro ⟨(v : List Int), (need : Int), ⟨⟩⟩ - -
  refine exec_sound (n := 1000) Evotes_ok Fvotes_ok ?_
  refine holds_of_eq (Evotes_t v need) ?_
  simp only [holds_cond, Tree.holds, true_and, true_implies, decide_eq_true_eq, decide_eq_false_iff_not, Bool.not_eq_true', Bool.not_eq_false', Int.toNat_natCast, inK_i64, List.length_set, List.length_cons, List.length_nil]
  have no : ¬ ((1 ≤ v.length ∧ v.length ≤ 10) ∧ (1 ≤ need ∧ need ≤ 16777215) ∧ (∀ y ∈ v, 0 ≤ y ∧ y ≤ 16777215)) → (([], 1, ()) : List Int × Int × Unit) = votesR v need := fun h => by rw [votesR, if_neg h]
  refine ⟨fun a => no (fun h => ?_), fun a => ⟨fun b => no (fun h => ?_), fun b => ⟨fun c => no (fun h => ?_), fun c => ?_⟩⟩⟩
  · rw [inF_not] at a; omega
  · rw [inF_not] at b; omega
  · obtain ⟨y, h1, h2⟩ := List.any_eq_true.1 c
    have := h.2.2 y h1
    rw [offV, Bool.not_eq_true', inF_not] at h2; omega
  · rw [inF_iff] at a b
    have hv : ∀ y ∈ v, 0 ≤ y ∧ y ≤ 16777215 := fun y hy => by
      have := List.any_eq_false.1 c y hy
      rw [offV, Bool.not_eq_true', Bool.not_eq_false] at this
      exact inF_iff.1 this
    refine ⟨⟨by omega, by omega, by omega, hv⟩, fun _ => ?_⟩
    show ((minF v.length (enoughV v need), 0, ()) : List Int × Int × Unit) = votesR v need
    rw [votesR, if_pos ⟨by omega, b, hv⟩]; rfl
abbrev noStep : Prop := ([] : List Step) = []
def gridR (r c : Int) : List Int × Int × Unit :=
  if (1 ≤ r ∧ r ≤ 10) ∧ (1 ≤ c ∧ c ≤ 10) ∧ r * c ≤ 10 then (gridF r.toNat c.toNat, 0, ()) else ([], 1, ())
def cgrid : Ctr := { ps := [.v I64, .v I64], rs := [.slc true U16, I64], pre := fun _ => True, fn := fun x => gridR x.1 x.2.1, out := fun _ => () }
noncomputable def Egrid : Env := { P := Try.prog, tt := tt, ctr := [(72, cinQ), (75, cminG)], res := [Go.ResultVar.tmp 4, Go.ResultVar.tmp 5], rs := [Ty.slc true (Ty.int IntKind.u16), Ty.int IntKind.i64], ps := [PK.v (Ty.int IntKind.i64), PK.v (Ty.int IntKind.i64)], cuts := [(5, [(0, none), (1, none), (6, none), (25, none), (26, none)]), (8, [(0, none), (1, none), (6, none), (7, none), (25, none), (26, none), (29, none), (30, none)]), (12, [(0, none), (1, none), (6, none), (7, none), (8, none), (9, none), (25, none), (26, none), (29, none), (30, none), (35, none), (36, none)])], nt := 67 }
theorem Egrid_ok : EnvOk Egrid := envOk tt_ok ⟨cinQ_valid, cminG_valid, trivial⟩
theorem Fgrid_ok : FnOk Egrid Try.f37 := ⟨rfl, rfl⟩
theorem Egrid_t (x0 : Int) (x1 : Int) : exec Egrid 1000 [.code (bodyOf Try.prog 37)] (initSt cgrid.ps ((x0, x1, ()))) =
  .need (True) (cond (!inF x0 (1 : Int) (10 : Int)) (.ret (([], (1 : Int), ()))) (.need (True) (cond (!inF x1 (1 : Int) (10 : Int)) (.ret (([], (1 : Int), ()))) (.need (inK IntKind.i64 (x0 * x1)) (cond (decide ((10 : Int) < x0 * x1)) (.ret (([], (1 : Int), ()))) (.cut (loopAt (bodyOf Try.prog 37) 5).1 (loopAt (bodyOf Try.prog 37) 5).2 (St.mk [(0, AV.val (Ty.int IntKind.i64) x0), (1, AV.val (Ty.int IntKind.i64) x1), (6, AV.ptr 6 []), (25, AV.val (Ty.int IntKind.i64) x0), (26, AV.val (Ty.int IntKind.i64) (0 : Int))] [(6, Ent.var (Ty.slc true (Ty.int IntKind.u16)) [])]))))))) := by kernel_rfl
def Egrid_s5 (v0 : Int) (v1 : Int) (v25 : Int) (v26 : Int) (o6 : List Int) : St := St.mk [(0, AV.val (Ty.int IntKind.i64) v0), (1, AV.val (Ty.int IntKind.i64) v1), (6, AV.ptr 6 []), (25, AV.val (Ty.int IntKind.i64) v25), (26, AV.val (Ty.int IntKind.i64) v26)] [(6, Ent.var (Ty.slc true (Ty.int IntKind.u16)) o6)]
theorem Egrid_l5 (v0 : Int) (v1 : Int) (v25 : Int) (v26 : Int) (o6 : List Int) : exec Egrid 1000 (.code (loopAt (bodyOf Try.prog 37) 5).1 :: .inLoop (loopAt (bodyOf Try.prog 37) 5).1 :: (loopAt (bodyOf Try.prog 37) 5).2) (Egrid_s5 v0 v1 v25 v26 o6) =
  cond (decide (v26 < v25)) (.cut (loopAt (bodyOf Try.prog 37) 8).1 (loopAt (bodyOf Try.prog 37) 8).2 (St.mk [(0, AV.val (Ty.int IntKind.i64) v0), (1, AV.val (Ty.int IntKind.i64) v1), (6, AV.ptr 6 []), (7, AV.val (Ty.int IntKind.i64) v26), (25, AV.val (Ty.int IntKind.i64) v25), (26, AV.val (Ty.int IntKind.i64) v26), (29, AV.val (Ty.int IntKind.i64) v1), (30, AV.val (Ty.int IntKind.i64) (0 : Int))] [(6, Ent.var (Ty.slc true (Ty.int IntKind.u16)) o6)])) (.need (inK IntKind.i64 (v0 * v1)) (.need ((1 : Int) ≤ v0 * v1 ∧ v0 * v1 ≤ (10 : Int) ∧ True) (.ret ((minF (Int.toNat (v0 * v1)) (inL o6), (0 : Int), ()))))) := by kernel_rfl
def Egrid_s8 (v0 : Int) (v1 : Int) (v7 : Int) (v25 : Int) (v26 : Int) (v29 : Int) (v30 : Int) (o6 : List Int) : St := St.mk [(0, AV.val (Ty.int IntKind.i64) v0), (1, AV.val (Ty.int IntKind.i64) v1), (6, AV.ptr 6 []), (7, AV.val (Ty.int IntKind.i64) v7), (25, AV.val (Ty.int IntKind.i64) v25), (26, AV.val (Ty.int IntKind.i64) v26), (29, AV.val (Ty.int IntKind.i64) v29), (30, AV.val (Ty.int IntKind.i64) v30)] [(6, Ent.var (Ty.slc true (Ty.int IntKind.u16)) o6)]
theorem Egrid_l8 (v0 : Int) (v1 : Int) (v7 : Int) (v25 : Int) (v26 : Int) (v29 : Int) (v30 : Int) (o6 : List Int) : exec Egrid 1000 (.code (loopAt (bodyOf Try.prog 37) 8).1 :: .inLoop (loopAt (bodyOf Try.prog 37) 8).1 :: (loopAt (bodyOf Try.prog 37) 8).2) (Egrid_s8 v0 v1 v7 v25 v26 v29 v30 o6) =
  cond (decide (v30 < v29)) (.need (inK IntKind.i64 (v0 * v1)) (.cut (loopAt (bodyOf Try.prog 37) 12).1 (loopAt (bodyOf Try.prog 37) 12).2 (St.mk [(0, AV.val (Ty.int IntKind.i64) v0), (1, AV.val (Ty.int IntKind.i64) v1), (6, AV.ptr 6 []), (7, AV.val (Ty.int IntKind.i64) v7), (8, AV.val (Ty.int IntKind.i64) v30), (9, AV.val (Ty.int IntKind.u16) (0 : Int)), (25, AV.val (Ty.int IntKind.i64) v25), (26, AV.val (Ty.int IntKind.i64) v26), (29, AV.val (Ty.int IntKind.i64) v29), (30, AV.val (Ty.int IntKind.i64) v30), (35, AV.val (Ty.int IntKind.i64) (v0 * v1)), (36, AV.val (Ty.int IntKind.i64) (0 : Int))] [(6, Ent.var (Ty.slc true (Ty.int IntKind.u16)) o6)]))) (.need (inK IntKind.i64 (v26 + (1 : Int))) (.cut (loopAt (bodyOf Try.prog 37) 5).1 (loopAt (bodyOf Try.prog 37) 5).2 (St.mk [(0, AV.val (Ty.int IntKind.i64) v0), (1, AV.val (Ty.int IntKind.i64) v1), (6, AV.ptr 6 []), (25, AV.val (Ty.int IntKind.i64) v25), (26, AV.val (Ty.int IntKind.i64) (v26 + (1 : Int)))] [(6, Ent.var (Ty.slc true (Ty.int IntKind.u16)) o6)]))) := by kernel_rfl
def Egrid_s12 (v0 : Int) (v1 : Int) (v7 : Int) (v8 : Int) (v9 : Int) (v25 : Int) (v26 : Int) (v29 : Int) (v30 : Int) (v35 : Int) (v36 : Int) (o6 : List Int) : St := St.mk [(0, AV.val (Ty.int IntKind.i64) v0), (1, AV.val (Ty.int IntKind.i64) v1), (6, AV.ptr 6 []), (7, AV.val (Ty.int IntKind.i64) v7), (8, AV.val (Ty.int IntKind.i64) v8), (9, AV.val (Ty.int IntKind.u16) v9), (25, AV.val (Ty.int IntKind.i64) v25), (26, AV.val (Ty.int IntKind.i64) v26), (29, AV.val (Ty.int IntKind.i64) v29), (30, AV.val (Ty.int IntKind.i64) v30), (35, AV.val (Ty.int IntKind.i64) v35), (36, AV.val (Ty.int IntKind.i64) v36)] [(6, Ent.var (Ty.slc true (Ty.int IntKind.u16)) o6)]
theorem Egrid_l12 (v0 : Int) (v1 : Int) (v7 : Int) (v8 : Int) (v9 : Int) (v25 : Int) (v26 : Int) (v29 : Int) (v30 : Int) (v35 : Int) (v36 : Int) (o6 : List Int) : exec Egrid 1000 (.code (loopAt (bodyOf Try.prog 37) 12).1 :: .inLoop (loopAt (bodyOf Try.prog 37) 12).1 :: (loopAt (bodyOf Try.prog 37) 12).2) (Egrid_s12 v0 v1 v7 v8 v9 v25 v26 v29 v30 v35 v36 o6) =
  cond (decide (v36 < v35)) (.need ((0 : Int) < v1) (cond (decide (Int.tdiv v36 v1 = v7)) (.need ((0 : Int) ≤ v36) (.need (inK IntKind.i64 (v36 + (1 : Int))) (.cut (loopAt (bodyOf Try.prog 37) 12).1 (loopAt (bodyOf Try.prog 37) 12).2 (St.mk [(0, AV.val (Ty.int IntKind.i64) v0), (1, AV.val (Ty.int IntKind.i64) v1), (6, AV.ptr 6 []), (7, AV.val (Ty.int IntKind.i64) v7), (8, AV.val (Ty.int IntKind.i64) v8), (9, AV.val (Ty.int IntKind.u16) (bOr IntKind.u16 v9 (IntKind.wrap IntKind.u16 ((1 : Int) * (2 : Int) ^ min (Int.toNat v36) (IntKind.bits IntKind.u16))))), (25, AV.val (Ty.int IntKind.i64) v25), (26, AV.val (Ty.int IntKind.i64) v26), (29, AV.val (Ty.int IntKind.i64) v29), (30, AV.val (Ty.int IntKind.i64) v30), (35, AV.val (Ty.int IntKind.i64) v35), (36, AV.val (Ty.int IntKind.i64) (v36 + (1 : Int)))] [(6, Ent.var (Ty.slc true (Ty.int IntKind.u16)) o6)])))) (.need ((0 : Int) < v1) (cond (decide (Int.tmod v36 v1 = v8)) (.need ((0 : Int) ≤ v36) (.need (inK IntKind.i64 (v36 + (1 : Int))) (.cut (loopAt (bodyOf Try.prog 37) 12).1 (loopAt (bodyOf Try.prog 37) 12).2 (St.mk [(0, AV.val (Ty.int IntKind.i64) v0), (1, AV.val (Ty.int IntKind.i64) v1), (6, AV.ptr 6 []), (7, AV.val (Ty.int IntKind.i64) v7), (8, AV.val (Ty.int IntKind.i64) v8), (9, AV.val (Ty.int IntKind.u16) (bOr IntKind.u16 v9 (IntKind.wrap IntKind.u16 ((1 : Int) * (2 : Int) ^ min (Int.toNat v36) (IntKind.bits IntKind.u16))))), (25, AV.val (Ty.int IntKind.i64) v25), (26, AV.val (Ty.int IntKind.i64) v26), (29, AV.val (Ty.int IntKind.i64) v29), (30, AV.val (Ty.int IntKind.i64) v30), (35, AV.val (Ty.int IntKind.i64) v35), (36, AV.val (Ty.int IntKind.i64) (v36 + (1 : Int)))] [(6, Ent.var (Ty.slc true (Ty.int IntKind.u16)) o6)])))) (.need (inK IntKind.i64 (v36 + (1 : Int))) (.cut (loopAt (bodyOf Try.prog 37) 12).1 (loopAt (bodyOf Try.prog 37) 12).2 (St.mk [(0, AV.val (Ty.int IntKind.i64) v0), (1, AV.val (Ty.int IntKind.i64) v1), (6, AV.ptr 6 []), (7, AV.val (Ty.int IntKind.i64) v7), (8, AV.val (Ty.int IntKind.i64) v8), (9, AV.val (Ty.int IntKind.u16) v9), (25, AV.val (Ty.int IntKind.i64) v25), (26, AV.val (Ty.int IntKind.i64) v26), (29, AV.val (Ty.int IntKind.i64) v29), (30, AV.val (Ty.int IntKind.i64) v30), (35, AV.val (Ty.int IntKind.i64) v35), (36, AV.val (Ty.int IntKind.i64) (v36 + (1 : Int)))] [(6, Ent.var (Ty.slc true (Ty.int IntKind.u16)) o6)]))))))) (.need (noStep ∧ List.length o6 + List.length (List.set [(0 : Int)] (Int.toNat (↑0 : Int)) v9) ≤ 140737488355328 ∧ (List.length o6 + List.length (List.set [(0 : Int)] (Int.toNat (↑0 : Int)) v9)) * Ty.wb (Ty.int IntKind.u16) ≤ 140737488355328) (.need (inK IntKind.i64 (v30 + (1 : Int))) (.cut (loopAt (bodyOf Try.prog 37) 8).1 (loopAt (bodyOf Try.prog 37) 8).2 (St.mk [(0, AV.val (Ty.int IntKind.i64) v0), (1, AV.val (Ty.int IntKind.i64) v1), (6, AV.ptr 6 []), (7, AV.val (Ty.int IntKind.i64) v7), (25, AV.val (Ty.int IntKind.i64) v25), (26, AV.val (Ty.int IntKind.i64) v26), (29, AV.val (Ty.int IntKind.i64) v29), (30, AV.val (Ty.int IntKind.i64) (v30 + (1 : Int)))] [(6, Ent.var (Ty.slc true (Ty.int IntKind.u16)) (o6 ++ List.set [(0 : Int)] (Int.toNat (↑0 : Int)) v9))])))) := by kernel_rfl

theorem tdiv_nat {k c : Nat} : Int.tdiv (k : Int) (c : Int) = ((k / c : Nat) : Int) := by rw [Int.tdiv_eq_ediv_of_nonneg (by omega)]; push_cast; rfl
theorem tmod_nat {k c : Nat} : Int.tmod (k : Int) (c : Int) = ((k % c : Nat) : Int) := by rw [Int.tmod_eq_emod_of_nonneg (by omega)]; push_cast; rfl
theorem cgrid_valid : cgrid.Valid Try.prog 37 := by
  refine Ctr.valid_of Egrid_ok rfl rfl Try.func37 (c := bodyOf Try.prog 37) rfl rfl Fgrid_ok rfl ?_
  rintro ⟨(r0 : Int), (c0 : Int), ⟨⟩⟩ - -
  refine exec_sound (n := 1000) Egrid_ok Fgrid_ok ?_
  refine holds_of_eq (Egrid_t r0 c0) ?_
  simp only [holds_cond, Tree.holds, true_and, true_implies, decide_eq_true_eq, decide_eq_false_iff_not, Bool.not_eq_true', Bool.not_eq_false', Int.toNat_natCast, inK_i64, List.length_set, List.length_cons, List.length_nil]
  have no : ¬ ((1 ≤ r0 ∧ r0 ≤ 10) ∧ (1 ≤ c0 ∧ c0 ≤ 10) ∧ r0 * c0 ≤ 10) → (([], 1, ()) : List Int × Int × Unit) = gridR r0 c0 := fun h => by rw [gridR, if_neg h]
  refine ⟨fun a => no (fun h => ?_), fun a => ⟨fun b => no (fun h => ?_), fun b => ?_⟩⟩
  · rw [inF_not] at a; omega
  · rw [inF_not] at b; omega
  rw [inF_iff] at a b
  obtain ⟨rows, rfl⟩ : ∃ m : Nat, r0 = m := ⟨r0.toNat, by omega⟩
  obtain ⟨cols, rfl⟩ : ∃ m : Nat, c0 = m := ⟨c0.toNat, by omega⟩
  have hmul : (rows : Int) * (cols : Int) = ((rows * cols : Nat) : Int) := by push_cast; rfl
  have hle : rows * cols ≤ 10 * 10 := Nat.mul_le_mul (by omega) (by omega)
  have hpos : 1 * 1 ≤ rows * cols := Nat.mul_le_mul (by omega) (by omega)
  rw [hmul] at no ⊢
  refine ⟨by omega, fun _ => ⟨fun c => no (fun h => by omega), fun c => ?_⟩⟩
  have hfin : gridR (rows : Int) (cols : Int) = (gridF rows cols, 0, ()) := by rw [gridR, if_pos ⟨a, b, by rw [hmul]; omega⟩, Int.toNat_natCast, Int.toNat_natCast]
  generalize hn : rows * cols = n at *
  have hlen := @gridAll_len cols n
  refine Reach.loopI Egrid_ok Fgrid_ok (fun i : Nat => Egrid_s5 (rows : Int) (cols : Int) (rows : Int) (i : Int) (gridAll cols n i)) (fun i => i ≤ rows) (fun i => rows - i) 1000 (fun _ => ⟨uniq_of rfl, uniq_of rfl⟩) ?_ 0 (Nat.zero_le _)
  rintro i k1 - ih
  have k1 : i ≤ rows := k1
  refine holds_of_eq (Egrid_l5 ..) ?_
  simp only [holds_cond, Tree.holds, true_and, true_implies, decide_eq_true_eq, decide_eq_false_iff_not, Bool.not_eq_true', Bool.not_eq_false', Int.toNat_natCast, inK_i64, List.length_set, List.length_cons, List.length_nil]
  rw [hmul]
  refine ⟨fun d => ?_, fun d => ⟨by omega, fun _ => ⟨⟨by omega, by omega, trivial⟩, fun _ => ?_⟩⟩⟩
  · have next := ih (i + 1) (by show i + 1 ≤ rows; omega) (by omega)
    rw [gridAll_succ] at next
    suffices hs : Go.Ex.Reach Egrid Try.f37 _ _ (.code (loopAt (bodyOf Try.prog 37) 8).1 :: .inLoop (loopAt (bodyOf Try.prog 37) 8).1 :: (loopAt (bodyOf Try.prog 37) 8).2) (Egrid_s8 (rows : Int) (cols : Int) (i : Int) (rows : Int) (i : Int) (cols : Int) ((0 : Nat) : Int) (gridAll cols n i ++ gridRow cols n i 0)) by
      rw [show gridAll cols n i ++ gridRow cols n i 0 = gridAll cols n i from List.append_nil _] at hs
      exact hs
    refine Reach.loopI Egrid_ok Fgrid_ok (fun j : Nat => Egrid_s8 (rows : Int) (cols : Int) (i : Int) (rows : Int) (i : Int) (cols : Int) (j : Int) (gridAll cols n i ++ gridRow cols n i j)) (fun j => j ≤ cols) (fun j => cols - j) 1000 (fun _ => ⟨uniq_of rfl, uniq_of rfl⟩) ?_ 0 (Nat.zero_le _)
    rintro j k2 - ih2
    have k2 : j ≤ cols := k2
    refine holds_of_eq (Egrid_l8 ..) ?_
    simp only [holds_cond, Tree.holds, true_and, true_implies, decide_eq_true_eq, decide_eq_false_iff_not, Bool.not_eq_true', Bool.not_eq_false', Int.toNat_natCast, inK_i64, List.length_set, List.length_cons, List.length_nil]
    rw [hmul]
    refine ⟨fun e => ⟨by omega, fun _ => ?_⟩, fun e => ⟨by omega, fun _ => ?_⟩⟩
    · have next2 := ih2 (j + 1) (by show j + 1 ≤ cols; omega) (by omega)
      rw [gridRow_succ, ← List.append_assoc] at next2
      refine Reach.loopI Egrid_ok Fgrid_ok (fun k : Nat => Egrid_s12 (rows : Int) (cols : Int) (i : Int) (j : Int) (gridGo cols i j k) (rows : Int) (i : Int) (cols : Int) (j : Int) (n : Int) (k : Int) (gridAll cols n i ++ gridRow cols n i j)) (fun k => k ≤ n) (fun k => n - k) 1000 (fun _ => ⟨uniq_of rfl, uniq_of rfl⟩) ?_ 0 (Nat.zero_le _)
      rintro k k3 - ih3
      have k3 : k ≤ n := k3
      refine holds_of_eq (Egrid_l12 ..) ?_
      simp only [holds_cond, Tree.holds, true_and, true_implies, decide_eq_true_eq, decide_eq_false_iff_not, Bool.not_eq_true', Bool.not_eq_false', Int.toNat_natCast, inK_i64, List.length_set, List.length_cons, List.length_nil, wb_u16]
      rw [tdiv_nat, tmod_nat]
      refine ⟨fun f => ?_, fun f => ?_⟩
      · have next3 := ih3 (k + 1) (by show k + 1 ≤ n; omega) (by omega)
        rw [gridGo] at next3
        refine ⟨by omega, fun _ => ⟨fun g => ?_, fun g => ⟨by omega, fun _ => ⟨fun g2 => ?_, fun g2 => ?_⟩⟩⟩⟩
        · rw [if_pos (.inl (by omega))] at next3
          exact ⟨by omega, fun _ => ⟨by omega, fun _ => next3⟩⟩
        · rw [if_pos (.inr (by omega))] at next3
          exact ⟨by omega, fun _ => ⟨by omega, fun _ => next3⟩⟩
        · rw [if_neg (by omega)] at next3
          exact ⟨by omega, fun _ => next3⟩
      · obtain rfl : k = n := by omega
        have e1 : ([0] : List Int).set (Int.toNat 0) (gridGo cols i j k) = [gridGo cols i j k] := rfl
        have h1 := hlen (m := i)
        have h2 := @gridRow_len cols k i j
        have h3 : i * cols ≤ 10 * 10 := Nat.mul_le_mul (by omega) (by omega)
        rw [e1, List.length_append, h1, h2]
        exact ⟨⟨by omega, by omega⟩, fun _ => ⟨by omega, fun _ => next2⟩⟩
    · obtain rfl : j = cols := by omega
      exact next
  · obtain rfl : i = rows := by omega
    rw [Int.toNat_natCast]
    show ((minF n (inL (gridAll cols n i)), 0, ()) : List Int × Int × Unit) = gridR (i : Int) (cols : Int)
    rw [hfin, gridF, hn]; rfl
def dualR (n : Int) (l : List Int) : List Int × Int × Unit := if qcheck n l ≠ 0 then ([], qcheck n l, ()) else (dualF n.toNat l, 0, ())
def cdual : Ctr := { ps := [.v I64, .v (.slc false U16)], rs := [.slc true U16, I64], pre := fun _ => True, fn := fun x => dualR x.1 x.2.1, out := fun _ => () }
noncomputable def Edual : Env := { P := Try.prog, tt := tt, ctr := [(29, cqcheck), (75, cminD)], res := [Go.ResultVar.tmp 4, Go.ResultVar.tmp 5], rs := [Ty.slc true (Ty.int IntKind.u16), Ty.int IntKind.i64], ps := [PK.v (Ty.int IntKind.i64), PK.v (Ty.slc false (Ty.int IntKind.u16))], cuts := [], nt := 16 }
theorem Edual_ok : EnvOk Edual := envOk tt_ok ⟨cqcheck_valid, cminD_valid, trivial⟩
theorem Fdual_ok : FnOk Edual Try.f27 := ⟨rfl, rfl⟩
theorem Edual_t (x0 : Int) (x1 : List Int) : exec Edual 1000 [.code (bodyOf Try.prog 27)] (initSt cdual.ps ((x0, x1, ()))) =
  .need (True) (cond (decide (qcheck x0 x1 ≠ (0 : Int))) (.ret (([], qcheck x0 x1, ()))) (.need ((1 : Int) ≤ x0 ∧ x0 ≤ (10 : Int) ∧ True) (.ret ((minF (Int.toNat x0) (meetsP x1), (0 : Int), ()))))) := by kernel_rfl

theorem cdual_valid : cdual.Valid Try.prog 27 := by
  refine Ctr.valid_of Edual_ok rfl rfl Try.func27 (c := bodyOf Try.prog 27) rfl rfl Fdual_ok rfl ?_
  rintro ⟨(n : Int), (l : List Int), ⟨⟩⟩ - ⟨-, ⟨-, hr⟩, -⟩
  refine exec_sound (n := 1000) Edual_ok Fdual_ok ?_
  refine holds_of_eq (Edual_t n l) ?_
  simp only [holds_cond, Tree.holds, true_and, true_implies, decide_eq_true_eq, decide_eq_false_iff_not, Bool.not_eq_true', Bool.not_eq_false', Int.toNat_natCast, inK_i64, List.length_set, List.length_cons, List.length_nil]
  refine ⟨fun a => ?_, fun a => ?_⟩
  · show (([], qcheck n l, ()) : List Int × Int × Unit) = dualR n l
    rw [dualR, if_pos a]
  · obtain ⟨m, rfl, hq, -⟩ := qcheck_ok (fun s hs => inK_u16.1 (hr s hs)) (Decidable.not_not.1 a)
    have := hq.n1
    refine ⟨⟨by omega, by omega, trivial⟩, fun _ => ?_⟩
    show ((minF (Int.toNat (m : Int)) (meetsP l), 0, ()) : List Int × Int × Unit) = dualR (m : Int) l
    rw [dualR, if_neg a]; rfl
def chas : Ctr := { ps := [.v I64, .v (.slc false U16), .v U16], rs := [.bool, I64], pre := fun _ => True, fn := fun x => (if qcheck x.1 x.2.1 ≠ 0 then (false, qcheck x.1 x.2.1, ()) else (hasQ x.2.1 x.2.2.1, 0, ())), out := fun _ => () }
noncomputable def Ehas : Env := { P := Try.prog, tt := tt, ctr := [(29, cqcheck), (77, ccontains)], res := [Go.ResultVar.tmp 6, Go.ResultVar.tmp 7], rs := [Ty.bool, Ty.int IntKind.i64], ps := [PK.v (Ty.int IntKind.i64), PK.v (Ty.slc false (Ty.int IntKind.u16)), PK.v (Ty.int IntKind.u16)], cuts := [], nt := 18 }
theorem Ehas_ok : EnvOk Ehas := envOk tt_ok ⟨cqcheck_valid, ccontains_valid, trivial⟩
theorem Fhas_ok : FnOk Ehas Try.f26 := ⟨rfl, rfl⟩
theorem Ehas_t (x0 : Int) (x1 : List Int) (x2 : Int) : exec Ehas 1000 [.code (bodyOf Try.prog 26)] (initSt chas.ps ((x0, x1, x2, ()))) =
  .need (True) (cond (decide (qcheck x0 x1 ≠ (0 : Int))) (.ret ((false, qcheck x0 x1, ()))) (.need (True) (.ret ((hasQ x1 x2, (0 : Int), ()))))) := by kernel_rfl

theorem chas_valid : chas.Valid Try.prog 26 := by
  refine Ctr.valid_of Ehas_ok rfl rfl Try.func26 (c := bodyOf Try.prog 26) rfl rfl Fhas_ok rfl ?_
  rintro ⟨(n : Int), (l : List Int), (s : Int), ⟨⟩⟩ - -
  refine exec_sound (n := 1000) Ehas_ok Fhas_ok ?_
  refine holds_of_eq (Ehas_t n l s) ?_
  simp only [holds_cond, Tree.holds, true_and, true_implies, decide_eq_true_eq, decide_eq_false_iff_not, Bool.not_eq_true', Bool.not_eq_false', Int.toNat_natCast, inK_i64, List.length_set, List.length_cons, List.length_nil]
  refine ⟨fun a => ?_, fun a => ?_⟩
  · show ((false, qcheck n l, ()) : Bool × Int × Unit) = if qcheck n l ≠ 0 then (false, qcheck n l, ()) else (hasQ l s, 0, ())
    rw [if_pos a]
  · show ((hasQ l s, 0, ()) : Bool × Int × Unit) = if qcheck n l ≠ 0 then (false, qcheck n l, ()) else (hasQ l s, 0, ())
    rw [if_neg a]
def cidxN : Ctr := { ps := [.v (.slc false U16), .clo 82 [.slc false U16]], rs := [I64], pre := fun x => True, fn := fun x => (idxOf (missQ x.2.1.1) x.1, ()), out := fun _ => () }
noncomputable def EidxN : Env := { P := Try.prog, tt := tt, ctr := [(82, cmee2)], res := [Go.ResultVar.tmp 4], rs := [Ty.int IntKind.i64], ps := [PK.v (Ty.slc false (Ty.int IntKind.u16)), PK.clo 82 [Ty.slc false (Ty.int IntKind.u16)]], cuts := [(2, [(0, none), (1, none), (7, none), (8, none)])], nt := 19 }
theorem EidxN_ok : EnvOk EidxN := envOk tt_ok ⟨cmee2_valid, trivial⟩
theorem FidxN_ok : FnOk EidxN Try.f135 := ⟨rfl, rfl⟩
theorem EidxN_t (x0 : List Int) (x1c0 : List Int) : exec EidxN 1000 [.code (bodyOf Try.prog 135)] (initSt cidxN.ps ((x0, (x1c0, ()), ()))) =
  .cut (loopAt (bodyOf Try.prog 135) 2).1 (loopAt (bodyOf Try.prog 135) 2).2 (St.mk [(0, AV.val (Ty.slc false (Ty.int IntKind.u16)) x0), (1, AV.clo 82 (AV.cons (AV.rptr (Ty.slc false (Ty.int IntKind.u16)) x1c0) AV.nil)), (7, AV.val (Ty.int IntKind.i64) (↑(List.length x0) : Int)), (8, AV.val (Ty.int IntKind.i64) (0 : Int))] []) := by kernel_rfl
def EidxN_s2 (v0 : List Int) (v1a : List Int) (v7 : Int) (v8 : Int) : St := St.mk [(0, AV.val (Ty.slc false (Ty.int IntKind.u16)) v0), (1, AV.clo 82 (AV.cons (AV.rptr (Ty.slc false (Ty.int IntKind.u16)) v1a) AV.nil)), (7, AV.val (Ty.int IntKind.i64) v7), (8, AV.val (Ty.int IntKind.i64) v8)] []
theorem EidxN_l2 (v0 : List Int) (v1a : List Int) (v7 : Int) (v8 : Int) : exec EidxN 1000 (.code (loopAt (bodyOf Try.prog 135) 2).1 :: .inLoop (loopAt (bodyOf Try.prog 135) 2).1 :: (loopAt (bodyOf Try.prog 135) 2).2) (EidxN_s2 v0 v1a v7 v8) =
  cond (decide (v8 < v7)) (.need ((0 : Int) ≤ v8 ∧ v8 < (↑(List.length v0) : Int)) (.need (True) (cond (missQ v1a (List.getD v0 (Int.toNat v8) (0 : Int))) (.ret ((v8, ()))) (.need (inK IntKind.i64 (v8 + (1 : Int))) (.cut (loopAt (bodyOf Try.prog 135) 2).1 (loopAt (bodyOf Try.prog 135) 2).2 (St.mk [(0, AV.val (Ty.slc false (Ty.int IntKind.u16)) v0), (1, AV.clo 82 (AV.cons (AV.rptr (Ty.slc false (Ty.int IntKind.u16)) v1a) AV.nil)), (7, AV.val (Ty.int IntKind.i64) v7), (8, AV.val (Ty.int IntKind.i64) (v8 + (1 : Int)))] [])))))) (.ret (((-1 : Int), ()))) := by kernel_rfl
theorem cidxN_valid : cidxN.Valid Try.prog 135 := by
  refine Ctr.valid_of EidxN_ok rfl rfl Try.func135 (c := bodyOf Try.prog 135) rfl rfl FidxN_ok rfl ?_
  rintro ⟨(l : List (Int)), ⟨(l0 : List Int), ⟨⟩⟩, ⟨⟩⟩ - ⟨⟨hl, -⟩, -⟩
  have hl : l.length ≤ 9223372036854775807 := hl
  refine exec_sound (n := 1000) EidxN_ok FidxN_ok ?_
  refine holds_of_eq (EidxN_t l l0) ?_
  refine Reach.loopI EidxN_ok FidxN_ok (fun i : Nat => EidxN_s2 l l0 (l.length : Int) (i : Int)) (fun i => i ≤ l.length ∧ idxOf (missQ l0) l = idxGo (missQ l0) (l.drop i) i)
    (fun i => l.length - i) 1000 (fun _ => ⟨uniq_of rfl, uniq_of rfl⟩) ?_ 0 ⟨by omega, rfl⟩
  rintro i ⟨k1, k2⟩ - ih
  refine holds_of_eq (EidxN_l2 ..) ?_
  simp only [holds_cond, Tree.holds, true_and, true_implies, decide_eq_true_eq, decide_eq_false_iff_not, Bool.not_eq_true', Bool.not_eq_false', Int.toNat_natCast, inK_i64, List.length_set, List.length_cons, List.length_nil]
  refine ⟨fun h => ?_, fun h => ?_⟩
  · rw [drop_getD (show i < l.length by omega) 0, idxGo] at k2
    refine ⟨by omega, fun _ => ⟨fun c => ?_, fun c => ⟨by omega, fun _ => ih (i + 1) ⟨by omega, ?_⟩ (by omega)⟩⟩⟩
    · show (((i : Int), ()) : Int × Unit) = (idxOf (missQ l0) l, ())
      rw [k2, if_pos (show (missQ l0) (l.getD i 0) = true from c)]
    · rw [k2, if_neg (show ¬ (missQ l0) (l.getD i 0) = true from fun h9 => Bool.noConfusion (Eq.trans (Eq.symm h9) c))]
  · rw [List.drop_eq_nil_of_le (by omega)] at k2
    show (((-1 : Int), ()) : Int × Unit) = (idxOf (missQ l0) l, ())
    rw [k2]; rfl
def cconN : Ctr := { ps := [.v (.slc false U16), .clo 82 [.slc false U16]], rs := [.bool], pre := fun x => True, fn := fun x => (List.any (α := Int) x.1 (missQ x.2.1.1), ()), out := fun _ => () }
noncomputable def EconN : Env := { P := Try.prog, tt := tt, ctr := [(135, cidxN)], res := [Go.ResultVar.tmp 4], rs := [Ty.bool], ps := [PK.v (Ty.slc false (Ty.int IntKind.u16)), PK.clo 82 [Ty.slc false (Ty.int IntKind.u16)]], cuts := [], nt := 9 }
theorem EconN_ok : EnvOk EconN := envOk tt_ok ⟨cidxN_valid, trivial⟩
theorem FconN_ok : FnOk EconN Try.f81 := ⟨rfl, rfl⟩
theorem EconN_t (x0 : List Int) (x1c0 : List Int) : exec EconN 1000 [.code (bodyOf Try.prog 81)] (initSt cconN.ps ((x0, (x1c0, ()), ()))) =
  .need (True) (.ret ((decide ((0 : Int) ≤ idxOf (missQ x1c0) x0), ()))) := by kernel_rfl
theorem cconN_valid : cconN.Valid Try.prog 81 := by
  refine Ctr.valid_of EconN_ok rfl rfl Try.func81 (c := bodyOf Try.prog 81) rfl rfl FconN_ok rfl ?_
  rintro ⟨(l : List (Int)), ⟨(l0 : List Int), ⟨⟩⟩, ⟨⟩⟩ - -
  refine exec_sound (n := 1000) EconN_ok FconN_ok ?_
  refine holds_of_eq (EconN_t l l0) ?_
  refine ⟨trivial, fun _ => ?_⟩
  show ((decide (0 ≤ idxOf (missQ l0) l), ()) : Bool × Unit) = (l.any (missQ l0), ())
  rw [idx_any]
def allMeet (l : List Int) : Bool := !l.any (missQ l)
def cMeets : Ctr := { ps := [.v I64, .v (.slc false U16)], rs := [.bool, I64], pre := fun _ => True, fn := fun x => (if qcheck x.1 x.2.1 ≠ 0 then (false, qcheck x.1 x.2.1, ()) else (allMeet x.2.1, 0, ())), out := fun _ => () }
noncomputable def EMeets : Env := { P := Try.prog, tt := tt, ctr := [(29, cqcheck), (81, cconN)], res := [Go.ResultVar.tmp 4, Go.ResultVar.tmp 5], rs := [Ty.bool, Ty.int IntKind.i64], ps := [PK.v (Ty.int IntKind.i64), PK.v (Ty.slc false (Ty.int IntKind.u16))], cuts := [], nt := 17 }
theorem EMeets_ok : EnvOk EMeets := envOk tt_ok ⟨cqcheck_valid, cconN_valid, trivial⟩
theorem FMeets_ok : FnOk EMeets Try.f30 := ⟨rfl, rfl⟩
theorem EMeets_t (x0 : Int) (x1 : List Int) : exec EMeets 1000 [.code (bodyOf Try.prog 30)] (initSt cMeets.ps ((x0, x1, ()))) =
  .need (True) (cond (decide (qcheck x0 x1 ≠ (0 : Int))) (.ret ((false, qcheck x0 x1, ()))) (.need (True) (.ret ((!List.any x1 (missQ x1), (0 : Int), ()))))) := by kernel_rfl

theorem cMeets_valid : cMeets.Valid Try.prog 30 := by
  refine Ctr.valid_of EMeets_ok rfl rfl Try.func30 (c := bodyOf Try.prog 30) rfl rfl FMeets_ok rfl ?_
  rintro ⟨(n : Int), (l : List Int), ⟨⟩⟩ - -
  refine exec_sound (n := 1000) EMeets_ok FMeets_ok ?_
  refine holds_of_eq (EMeets_t n l) ?_
  simp only [holds_cond, Tree.holds, true_and, true_implies, decide_eq_true_eq, decide_eq_false_iff_not, Bool.not_eq_true', Bool.not_eq_false', Int.toNat_natCast, inK_i64, List.length_set, List.length_cons, List.length_nil]
  refine ⟨fun a => ?_, fun a => ?_⟩
  · show ((false, qcheck n l, ()) : Bool × Int × Unit) = if qcheck n l ≠ 0 then (false, qcheck n l, ()) else (allMeet l, 0, ())
    rw [if_pos a]
  · show ((allMeet l, 0, ()) : Bool × Int × Unit) = if qcheck n l ≠ 0 then (false, qcheck n l, ()) else (allMeet l, 0, ())
    rw [if_neg a]
end Go.Proofs.Ytdhdpklmipkneaa
