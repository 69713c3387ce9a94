/- turn.Step, and runs of turns. No condition but those named. -/
import Derived.Test.YtbcdpeogfghgcaaTurnP
namespace Go.Proofs.Ytbcdpeogfghgcaa
open Go.Ex
set_option maxRecDepth 100000
abbrev BeatD := Int × Int × Int × Unit
theorem row_iff {t : TurnD} {p : Nat} : rowBad t p = false ↔ ((0 ≤ t.2.2.2.2.1.getD p 0 ∧ t.2.2.2.2.1.getD p 0 ≤ t.2.2.2.1.length) ∧ (t.2.2.1.getD p []).length ≤ 30 ∧ twice (t.2.2.1.getD p []) = false ∧ ∀ x ∈ t.2.2.1.getD p [], x ∉ t.2.2.2.1) := by
  rw [rowBad]
  simp only [Bool.or_eq_false_iff, Bool.not_eq_false', inF_iff, decide_eq_false_iff_not, List.any_eq_false, inC, decide_eq_true_eq, Int.not_lt]
  constructor
  · rintro ⟨⟨⟨h1, h2⟩, h3⟩, h4⟩; exact ⟨h1, by omega, h3, h4⟩
  · rintro ⟨h1, h2, h3, h4⟩; exact ⟨⟨⟨h1, by omega⟩, h3⟩, h4⟩
/-- what a check that passes says -/
structure TOk (t : TurnD) : Prop where
  n : 1 ≤ t.1 ∧ t.1 ≤ 6
  has : 0 ≤ t.2.1 ∧ t.2.1 ≤ t.1 - 1
  log : t.2.2.2.1.length ≤ 100
  want : (t.2.2.1.length : Int) = t.1
  told : (t.2.2.2.2.1.length : Int) = t.1
  nd : twice t.2.2.2.1 = false
  row : ∀ p, p < t.2.2.1.length → rowBad t p = false
theorem tcheck_iff {t : TurnD} : tcheck t = 0 ↔ TOk t := by
  rw [tcheck]
  constructor
  · intro h
    split at h; · omega
    rename_i a
    split at h; · omega
    rename_i b
    split at h; · omega
    rename_i c
    split at h; · omega
    rename_i d
    split at h; · omega
    rename_i e
    split at h; · omega
    rename_i f
    split at h; · omega
    rename_i g
    exact ⟨inF_iff.1 (by simpa using a), inF_iff.1 (by simpa using b), by omega, by omega, by omega, by simpa using f, anyN_no.1 (by simpa using g)⟩
  · rintro ⟨h1, h2, h3, h4, h5, h6, h7⟩
    rw [if_neg (tnf (inF_iff.2 h1)), if_neg (tnf (inF_iff.2 h2)), if_neg (by omega), if_neg (by omega), if_neg (by omega), if_neg (by rw [h6]; simp), if_neg (by rw [anyN_no.2 h7]; simp)]
def twish (t : TurnD) (p n : Int) : TurnD := (t.1, t.2.1, t.2.2.1.set p.toNat (t.2.2.1.getD p.toNat [] ++ [n]), t.2.2.2.1, t.2.2.2.2.1, ())
def ttell (t : TurnD) (p : Int) : TurnD := (t.1, t.2.1, t.2.2.1, t.2.2.2.1, t.2.2.2.2.1.set p.toNat (t.2.2.2.2.1.getD p.toNat 0 + 1), ())
def tstep (t : TurnD) (b : BeatD) : TurnD × Int × Int × Unit :=
  if tcheck t ≠ 0 then (tz, 0, tcheck t, ()) else if inF b.1 1 3 = false then (tz, 0, 1, ()) else if inF b.2.1 0 (t.1 - 1) = false then (tz, 0, 1, ()) else if tmsg b.2.2.1 = false then (tz, 0, 1, ()) else
  if b.1 = 1 then (if b.2.2.1 ∈ t.2.2.2.1 then (tz, 0, 7, ()) else if b.2.2.1 ∈ t.2.2.1.getD b.2.1.toNat [] then (tz, 0, 7, ()) else (twish t b.2.1 b.2.2.1, 0, 0, ())) else
  if b.1 = 2 then (if b.2.1 ≠ t.2.1 then (tz, 0, 11, ()) else (tpass t, 0, 0, ())) else
  if t.2.2.2.2.1.getD b.2.1.toNat 0 = t.2.2.2.1.length then (tz, 0, 6, ()) else (ttell t b.2.1, t.2.2.2.1.getD (t.2.2.2.2.1.getD b.2.1.toNat 0).toNat 0, 0, ())
def ctstep : Ctr := { ps := [.v Turn, .v Word], rs := [TurnO, I64, I64], pre := fun _ => True, fn := fun x => tstep x.1 x.2.1, out := fun _ => () }
noncomputable def Etstep : Env := { P := Try.prog, tt := tt, ctr := [(32, ctcheck), (87, ctin), (90, ctmsg), (91, ctclone), (92, ctpass), (21, ccontI)], res := [Go.ResultVar.cell 4 63, Go.ResultVar.tmp 5, Go.ResultVar.tmp 6], rs := [Ty.pair (Ty.int IntKind.i64) (Ty.pair (Ty.int IntKind.i64) (Ty.pair (Ty.slc true Is) (Ty.pair Is (Ty.pair Is Ty.unit)))), Ty.int IntKind.i64, Ty.int IntKind.i64], ps := [PK.v (Ty.pair (Ty.int IntKind.i64) (Ty.pair (Ty.int IntKind.i64) (Ty.pair (Ty.slc false (Ty.slc false (Ty.int IntKind.i64))) (Ty.pair (Ty.slc false (Ty.int IntKind.i64)) (Ty.pair (Ty.slc false (Ty.int IntKind.i64)) Ty.unit))))), PK.v Word], cuts := [], nt := 113 }
theorem Etstep_ok : EnvOk Etstep := envOk tt_ok ⟨ctcheck_valid, ctin_valid, ctmsg_valid, ctclone_valid, ctpass_valid, ccontI_valid, trivial⟩
theorem Ftstep_ok : FnOk Etstep Try.f34 := ⟨rfl, rfl⟩
theorem Etstep_t (x0_1 : Int) (x0_2_1 : Int) (x0_2_2_1 : List (List Int)) (x0_2_2_2_1 : List Int) (x0_2_2_2_2_1 : List Int) (x1_1 : Int) (x1_2_1 : Int) (x1_2_2_1 : Int) : exec Etstep 1000 [.code (bodyOf Try.prog 34)] (initSt ctstep.ps (((x0_1, x0_2_1, x0_2_2_1, x0_2_2_2_1, x0_2_2_2_2_1, ()), (x1_1, x1_2_1, x1_2_2_1, ()), ()))) =
  .need (True) (cond (decide (tcheck (x0_1, x0_2_1, x0_2_2_1, x0_2_2_2_1, x0_2_2_2_2_1, ()) ≠ (0 : Int))) (.ret ((((0 : Int), (0 : Int), [], [], [], ()), (0 : Int), tcheck (x0_1, x0_2_1, x0_2_2_1, x0_2_2_2_1, x0_2_2_2_2_1, ()), ()))) (.need (True) (cond (!inF x1_1 (1 : Int) (3 : Int)) (.ret ((((0 : Int), (0 : Int), [], [], [], ()), (0 : Int), (1 : Int), ()))) (.need (inK IntKind.i64 (x0_1 - (1 : Int))) (.need (True) (cond (!inF x1_2_1 (0 : Int) (x0_1 - (1 : Int))) (.ret ((((0 : Int), (0 : Int), [], [], [], ()), (0 : Int), (1 : Int), ()))) (.need (True) (cond (!tmsg x1_2_2_1) (.ret ((((0 : Int), (0 : Int), [], [], [], ()), (0 : Int), (1 : Int), ()))) (.need (List.length x0_2_2_1 ≤ 1048576 ∧ List.length x0_2_2_2_1 ≤ 1048576 ∧ List.length x0_2_2_2_2_1 ≤ 1048576 ∧ ∀ (i : Nat), i < List.length x0_2_2_1 → List.length (List.getD x0_2_2_1 i []) ≤ 1048576) (cond (decide (x1_1 = (1 : Int))) (.need (True) (cond (decide (x1_2_2_1 ∈ x0_2_2_2_1)) (.ret ((((0 : Int), (0 : Int), [], [], [], ()), (0 : Int), (7 : Int), ()))) (.need ((0 : Int) ≤ x1_2_1 ∧ x1_2_1 < (↑(List.length x0_2_2_1) : Int)) (.need (True) (cond (decide (x1_2_2_1 ∈ List.getD x0_2_2_1 (Int.toNat x1_2_1) [])) (.ret ((((0 : Int), (0 : Int), [], [], [], ()), (0 : Int), (7 : Int), ()))) (.need ((0 : Int) ≤ x1_2_1 ∧ x1_2_1 < (↑(List.length x0_2_2_1) : Int)) (.need ((0 : Int) ≤ x1_2_1 ∧ x1_2_1 < (↑(List.length x0_2_2_1) : Int)) (.need ([] ++ [Step.fld 2] ++ [Step.idx x1_2_1] = [] ++ [Step.fld 2] ++ [Step.idx x1_2_1] ∧ List.length (List.getD x0_2_2_1 (Int.toNat x1_2_1) []) + List.length (List.set [(0 : Int)] (Int.toNat (↑0 : Int)) x1_2_2_1) ≤ 140737488355328 ∧ (List.length (List.getD x0_2_2_1 (Int.toNat x1_2_1) []) + List.length (List.set [(0 : Int)] (Int.toNat (↑0 : Int)) x1_2_2_1)) * Ty.wb (Ty.int IntKind.i64) ≤ 140737488355328) (.ret (((x0_1, x0_2_1, List.set x0_2_2_1 (Int.toNat x1_2_1) (List.getD x0_2_2_1 (Int.toNat x1_2_1) [] ++ List.set [(0 : Int)] (Int.toNat (↑0 : Int)) x1_2_2_1), x0_2_2_2_1, x0_2_2_2_2_1, ()), (0 : Int), (0 : Int), ()))))))))))) (cond (decide (x1_1 = (2 : Int))) (cond (decide (x1_2_1 ≠ x0_2_1)) (.ret ((((0 : Int), (0 : Int), [], [], [], ()), (0 : Int), (11 : Int), ()))) (.need (((0 : Int) ≤ x0_2_1 ∧ x0_2_1 ≤ (5 : Int) ∧ x0_2_1 < (↑(List.length x0_2_2_1) : Int)) ∧ (0 : Int) < x0_1 ∧ List.length x0_2_2_2_1 ≤ 100 ∧ List.length (List.getD x0_2_2_1 (Int.toNat x0_2_1) []) ≤ 30) (.ret (((x0_1, Int.tmod (x0_2_1 + (1 : Int)) x0_1, List.map (List.filter fun n => !decide (n ∈ tlog (List.getD x0_2_2_1 (Int.toNat x0_2_1) []) x0_2_2_2_1)) x0_2_2_1, tlog (List.getD x0_2_2_1 (Int.toNat x0_2_1) []) x0_2_2_2_1, x0_2_2_2_2_1, ()), (0 : Int), (0 : Int), ()))))) (.need ((0 : Int) ≤ x1_2_1 ∧ x1_2_1 < (↑(List.length x0_2_2_2_2_1) : Int)) (cond (decide (List.getD x0_2_2_2_2_1 (Int.toNat x1_2_1) (0 : Int) = (↑(List.length x0_2_2_2_1) : Int))) (.ret ((((0 : Int), (0 : Int), [], [], [], ()), (0 : Int), (6 : Int), ()))) (.need ((0 : Int) ≤ x1_2_1 ∧ x1_2_1 < (↑(List.length x0_2_2_2_2_1) : Int)) (.need (inK IntKind.i64 (List.getD x0_2_2_2_2_1 (Int.toNat x1_2_1) (0 : Int) + (1 : Int))) (.need ((0 : Int) ≤ x1_2_1 ∧ x1_2_1 < (↑(List.length x0_2_2_2_2_1) : Int)) (.need ((0 : Int) ≤ x1_2_1 ∧ x1_2_1 < (↑(List.length x0_2_2_2_2_1) : Int)) (.need ((0 : Int) ≤ List.getD x0_2_2_2_2_1 (Int.toNat x1_2_1) (0 : Int) ∧ List.getD x0_2_2_2_2_1 (Int.toNat x1_2_1) (0 : Int) < (↑(List.length x0_2_2_2_1) : Int)) (.ret (((x0_1, x0_2_1, x0_2_2_1, x0_2_2_2_1, List.set x0_2_2_2_2_1 (Int.toNat x1_2_1) (List.getD x0_2_2_2_2_1 (Int.toNat x1_2_1) (0 : Int) + (1 : Int)), ()), List.getD x0_2_2_2_1 (Int.toNat (List.getD x0_2_2_2_2_1 (Int.toNat x1_2_1) (0 : Int))) (0 : Int), (0 : Int), ()))))))))))))))))))))) := by kernel_rfl
theorem ctstep_valid : ctstep.Valid Try.prog 34 := by
  refine Ctr.valid_of Etstep_ok rfl rfl Try.func34 (c := bodyOf Try.prog 34) rfl rfl Ftstep_ok rfl ?_
  rintro ⟨⟨(n : Int), (h : Int), (w : List (List Int)), (l : List Int), (d : List Int), ⟨⟩⟩, ⟨(k : Int), (p : Int), (x : Int), ⟨⟩⟩, ⟨⟩⟩ - -
  refine exec_sound (n := 1000) Etstep_ok Ftstep_ok ?_
  refine holds_of_eq (Etstep_t n h w l d k p x) ?_
  have key : ∀ {y : TurnD × Int × Int × Unit}, tstep (n, h, w, l, d, ()) (k, p, x, ()) = y → y = tstep (n, h, w, l, d, ()) (k, p, x, ()) := fun h => h.symm
  have hd : tstep (n, h, w, l, d, ()) (k, p, x, ()) = if tcheck (n, h, w, l, d, ()) ≠ 0 then (tz, 0, tcheck (n, h, w, l, d, ()), ()) else if inF k 1 3 = false then (tz, 0, 1, ()) else if inF p 0 (n - 1) = false then (tz, 0, 1, ()) else if tmsg x = false then (tz, 0, 1, ()) else
    if k = 1 then (if x ∈ l then (tz, 0, 7, ()) else if x ∈ w.getD p.toNat [] then (tz, 0, 7, ()) else (twish (n, h, w, l, d, ()) p x, 0, 0, ())) else
    if k = 2 then (if p ≠ h then (tz, 0, 11, ()) else (tpass (n, h, w, l, d, ()), 0, 0, ())) else
    if d.getD p.toNat 0 = l.length then (tz, 0, 6, ()) else (ttell (n, h, w, l, d, ()) p, l.getD (d.getD p.toNat 0).toNat 0, 0, ()) := rfl
  simp only [holds_cond, Tree.holds, true_and, true_implies, decide_eq_true_eq, decide_eq_false_iff_not, Bool.not_eq_true', Bool.not_eq_false', Int.toNat_natCast, inK_i64, List.length_set, List.length_cons, List.length_nil, wb_i64]
  refine ⟨fun a => key (by rw [hd, if_pos a] <;> rfl), fun a => ?_⟩
  have hok := tcheck_iff.1 (Decidable.not_not.1 a)
  obtain ⟨⟨o1, o2⟩, ⟨o3, o4⟩, o5, o6, o7, o8, o9⟩ := hok
  simp only at o1 o2 o3 o4 o5 o6 o7 o8
  have o9 : ∀ i, i < w.length → ((0 ≤ d.getD i 0 ∧ d.getD i 0 ≤ l.length) ∧ (w.getD i []).length ≤ 30 ∧ twice (w.getD i []) = false ∧ ∀ x ∈ w.getD i [], x ∉ l) := fun i hi => row_iff.1 (o9 i hi)
  rw [if_neg a] at hd
  refine ⟨fun b => key (by rw [hd, if_pos b] <;> rfl), fun b => ⟨by omega, fun _ => ?_⟩⟩
  rw [if_neg (tnf b)] at hd
  have hk := inF_iff.1 b
  refine ⟨fun c => key (by rw [hd, if_pos c] <;> rfl), fun c => ?_⟩
  rw [if_neg (tnf c)] at hd
  have hp := inF_iff.1 c
  have hw := o9 p.toNat (by omega)
  refine ⟨fun e => key (by rw [hd, if_pos e] <;> rfl), fun e => ⟨⟨by omega, by omega, by omega, fun i hi => by have := (o9 i hi).2.1; omega⟩, fun _ => ?_⟩⟩
  rw [if_neg (tnf e)] at hd
  refine ⟨fun f => ?_, fun f => ?_⟩
  · rw [if_pos f] at hd
    refine ⟨fun g => key (by rw [hd, if_pos g] <;> rfl), fun g => ⟨by omega, fun _ => ?_⟩⟩
    rw [if_neg g] at hd
    refine ⟨fun g => key (by rw [hd, if_pos g] <;> rfl), fun g => ⟨by omega, fun _ => ⟨by omega, fun _ => ⟨by omega, fun _ => key (by rw [hd, if_neg g] <;> rfl)⟩⟩⟩⟩
  · rw [if_neg f] at hd
    refine ⟨fun g => ?_, fun g => ?_⟩
    · rw [if_pos g] at hd
      have hh := o9 h.toNat (by omega)
      exact ⟨fun q => key (by rw [hd, if_pos q] <;> rfl), fun q => ⟨⟨by omega, by omega, by omega, hh.2.1⟩, fun _ => key (by rw [hd, if_neg q] <;> rfl)⟩⟩
    · rw [if_neg g] at hd
      refine ⟨by omega, fun _ => ⟨fun q => key (by rw [hd, if_pos q] <;> rfl), fun q => ⟨by omega, fun _ => ⟨by omega, fun _ => ⟨by omega, fun _ => ⟨by omega, fun _ => ⟨by omega, fun _ => key (by rw [hd, if_neg q] <;> rfl)⟩⟩⟩⟩⟩⟩⟩
def ttOn (t : TurnD) : TurnD × Int × Bool × Unit := ((tstep t (2, t.2.1, 0, ())).1, (tstep t (2, t.2.1, 0, ())).2.1, decide ((tstep t (2, t.2.1, 0, ())).2.2.1 = 0), ())
def cttOn : Ctr := { ps := [.v Turn], rs := [TurnO, I64, .bool], pre := fun _ => True, fn := fun x => ttOn x.1, out := fun _ => () }
noncomputable def EttOn : Env := { P := Try.prog, tt := tt, ctr := [(34, ctstep)], res := [Go.ResultVar.cell 2 63, Go.ResultVar.tmp 3, Go.ResultVar.tmp 4], rs := [Ty.pair (Ty.int IntKind.i64) (Ty.pair (Ty.int IntKind.i64) (Ty.pair (Ty.slc true Is) (Ty.pair Is (Ty.pair Is Ty.unit)))), Ty.int IntKind.i64, Ty.bool], ps := [PK.v (Ty.pair (Ty.int IntKind.i64) (Ty.pair (Ty.int IntKind.i64) (Ty.pair (Ty.slc false (Ty.slc false (Ty.int IntKind.i64))) (Ty.pair (Ty.slc false (Ty.int IntKind.i64)) (Ty.pair (Ty.slc false (Ty.int IntKind.i64)) Ty.unit)))))], cuts := [], nt := 21 }
theorem EttOn_ok : EnvOk EttOn := envOk tt_ok ⟨ctstep_valid, trivial⟩
theorem FttOn_ok : FnOk EttOn Try.f39 := ⟨rfl, rfl⟩
theorem EttOn_t (x0_1 : Int) (x0_2_1 : Int) (x0_2_2_1 : List (List Int)) (x0_2_2_2_1 : List Int) (x0_2_2_2_2_1 : List Int) : exec EttOn 1000 [.code (bodyOf Try.prog 39)] (initSt cttOn.ps (((x0_1, x0_2_1, x0_2_2_1, x0_2_2_2_1, x0_2_2_2_2_1, ()), ()))) =
  .need (True) (.ret ((Prod.fst (tstep (x0_1, x0_2_1, x0_2_2_1, x0_2_2_2_1, x0_2_2_2_2_1, ()) ((2 : Int), x0_2_1, (0 : Int), ())), Prod.fst (Prod.snd (tstep (x0_1, x0_2_1, x0_2_2_1, x0_2_2_2_1, x0_2_2_2_2_1, ()) ((2 : Int), x0_2_1, (0 : Int), ()))), decide (Prod.fst (Prod.snd (Prod.snd (tstep (x0_1, x0_2_1, x0_2_2_1, x0_2_2_2_1, x0_2_2_2_2_1, ()) ((2 : Int), x0_2_1, (0 : Int), ())))) = (0 : Int)), ()))) := by kernel_rfl
theorem cttOn_valid : cttOn.Valid Try.prog 39 := by
  refine Ctr.valid_of EttOn_ok rfl rfl Try.func39 (c := bodyOf Try.prog 39) rfl rfl FttOn_ok rfl ?_
  rintro ⟨⟨(n : Int), (h : Int), (w : List (List Int)), (l : List Int), (d : List Int), ⟨⟩⟩, ⟨⟩⟩ - -
  refine exec_sound (n := 1000) EttOn_ok FttOn_ok ?_
  refine holds_of_eq (EttOn_t n h w l d) ?_
  exact ⟨trivial, fun _ => rfl⟩
end Go.Proofs.Ytbcdpeogfghgcaa
