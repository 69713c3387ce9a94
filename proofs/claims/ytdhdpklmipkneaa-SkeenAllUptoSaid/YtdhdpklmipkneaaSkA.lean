/- Skeen's numbers: the small functions' contracts. No condition but those named. -/
import Derived.Test.YtdhdpklmipkneaaCmpI
import Derived.Test.YtdhdpklmipkneaaSortC
import Derived.Shelf.SlGeneric
namespace Go.Proofs.Ytdhdpklmipkneaa
open Go.Ex Go.Sort
set_option maxRecDepth 100000
abbrev NumD : Type := Int × Int × Unit
abbrev WaitD : Type := Int × NumD × Bool × Unit
def ncmp (a b : NumD) : Int := if cmpI a.1 b.1 ≠ 0 then cmpI a.1 b.1 else cmpI a.2.1 b.2.1
def cncmp : Ctr := { ps := [.v Num, .v Num], rs := [I64], pre := fun _ => True, fn := fun x => (ncmp x.1 x.2.1, ()), out := fun _ => () }
noncomputable def Encmp : Env := { P := Try.prog, tt := tt, ctr := [(68, ccmpI), (67, corI)], res := [Go.ResultVar.tmp 4], rs := [Ty.int IntKind.i64], ps := [PK.v PairT, PK.v PairT], cuts := [], nt := 17 }
theorem Encmp_ok : EnvOk Encmp := envOk tt_ok ⟨ccmpI_valid, corI_valid, trivial⟩
theorem Fncmp_ok : FnOk Encmp Try.f89 := ⟨rfl, rfl⟩
theorem Encmp_t (x0_1 : Int) (x0_2_1 : Int) (x1_1 : Int) (x1_2_1 : Int) : exec Encmp 1000 [.code (bodyOf Try.prog 89)] (initSt cncmp.ps (((x0_1, x0_2_1, ()), (x1_1, x1_2_1, ()), ()))) =
  .need (True) (.need (True) (.need (True) (.ret ((orF (List.set (List.set [(0 : Int), (0 : Int)] (Int.toNat (↑0 : Int)) (cmpI x0_1 x1_1)) (Int.toNat (↑1 : Int)) (cmpI x0_2_1 x1_2_1)), ()))))) := by kernel_rfl
theorem cncmp_valid : cncmp.Valid Try.prog 89 := by
  refine Ctr.valid_of Encmp_ok rfl rfl Try.func89 (c := bodyOf Try.prog 89) rfl rfl Fncmp_ok rfl ?_
  rintro ⟨⟨(a1 : Int), (a2 : Int), ⟨⟩⟩, ⟨(b1 : Int), (b2 : Int), ⟨⟩⟩, ⟨⟩⟩ - -
  refine exec_sound (n := 1000) Encmp_ok Fncmp_ok ?_
  refine holds_of_eq (Encmp_t a1 a2 b1 b2) ?_
  refine ⟨trivial, fun _ => ⟨trivial, fun _ => ⟨trivial, fun _ => ?_⟩⟩⟩
  show ((orF [cmpI a1 b1, cmpI a2 b2], ()) : Int × Unit) = (ncmp (a1, a2, ()) (b1, b2, ()), ())
  rw [orF, orF, orF, ncmp]
  congr 1
  show _ = if cmpI a1 b1 ≠ 0 then cmpI a1 b1 else cmpI a2 b2
  by_cases h1 : cmpI a1 b1 ≠ 0
  · rw [if_pos h1, if_pos h1]
  · rw [if_neg h1, if_neg h1]
    by_cases h2 : cmpI a2 b2 ≠ 0
    · rw [if_pos h2]
    · rw [if_neg h2]; exact (Decidable.not_not.1 h2).symm
def cinS : Ctr := { ps := [.v I64, .v I64, .v I64], rs := [.bool], pre := fun _ => True, fn := fun x => (inF x.1 x.2.1 x.2.2.1, ()), out := fun _ => () }
noncomputable def EinS : Env := { P := Try.prog, tt := tt, ctr := [], res := [Go.ResultVar.tmp 6], rs := [Ty.bool], ps := [PK.v (Ty.int IntKind.i64), PK.v (Ty.int IntKind.i64), PK.v (Ty.int IntKind.i64)], cuts := [], nt := 15 }
theorem EinS_ok : EnvOk EinS := envOk tt_ok trivial
theorem FinS_ok : FnOk EinS Try.f85 := ⟨rfl, rfl⟩
theorem EinS_t (x0 : Int) (x1 : Int) (x2 : Int) : exec EinS 1000 [.code (bodyOf Try.prog 85)] (initSt cinS.ps ((x0, x1, x2, ()))) =
  cond (decide (x1 ≤ x0)) (.ret ((decide (x0 ≤ x2), ()))) (.ret ((false, ()))) := by kernel_rfl
theorem cinS_valid : cinS.Valid Try.prog 85 := by
  refine Ctr.valid_of EinS_ok rfl rfl Try.func85 (c := bodyOf Try.prog 85) rfl rfl FinS_ok rfl ?_
  rintro ⟨(a : Int), (b : Int), (c : Int), ⟨⟩⟩ - -
  refine exec_sound (n := 1000) EinS_ok FinS_ok ?_
  refine holds_of_eq (EinS_t a b c) ?_
  simp only [holds_cond, Tree.holds, true_and, true_implies, decide_eq_true_eq, decide_eq_false_iff_not, Bool.not_eq_true', Bool.not_eq_false', Int.toNat_natCast, inK_i64, List.length_set, List.length_cons, List.length_nil]
  repeat' first | exact trivial | (refine And.intro ?_ ?_) | (intro _)
  all_goals (show ((_, ()) : Bool × Unit) = (inF a b c, ()); simp [inF, *])
def sameId (id : Int) (w : WaitD) : Bool := decide (w.1 = id)
def cwai1 : Ctr := { ps := [.v Wait, .rd Wait], rs := [.bool], pre := fun _ => True, fn := fun x => (sameId x.2.1.1 x.1, ()), out := fun _ => () }
noncomputable def Ewai1 : Env := { P := Try.prog, tt := tt, ctr := [], res := [Go.ResultVar.tmp 3], rs := [Ty.bool], ps := [PK.v (Ty.pair (Ty.int IntKind.i64) (Ty.pair PairT (Ty.pair Ty.bool Ty.unit))), PK.rd (Ty.pair (Ty.int IntKind.i64) (Ty.pair PairT (Ty.pair Ty.bool Ty.unit)))], cuts := [], nt := 9 }
theorem Ewai1_ok : EnvOk Ewai1 := envOk tt_ok trivial
theorem Fwai1_ok : FnOk Ewai1 Try.f136 := ⟨rfl, rfl⟩
theorem Ewai1_t (x0_1 : Int) (x0_2_1_1 : Int) (x0_2_1_2_1 : Int) (x0_2_2_1 : Bool) (x1_1 : Int) (x1_2_1_1 : Int) (x1_2_1_2_1 : Int) (x1_2_2_1 : Bool) : exec Ewai1 1000 [.code (bodyOf Try.prog 136)] (initSt cwai1.ps (((x0_1, (x0_2_1_1, x0_2_1_2_1, ()), x0_2_2_1, ()), (x1_1, (x1_2_1_1, x1_2_1_2_1, ()), x1_2_2_1, ()), ()))) =
  .ret ((decide (x0_1 = x1_1), ())) := by kernel_rfl
theorem cwai1_valid : cwai1.Valid Try.prog 136 := by
  refine Ctr.valid_of Ewai1_ok rfl rfl Try.func136 (c := bodyOf Try.prog 136) rfl rfl Fwai1_ok rfl ?_
  rintro ⟨⟨(i : Int), ⟨(n1 : Int), (n2 : Int), ⟨⟩⟩, (f : Bool), ⟨⟩⟩, ⟨(j : Int), ⟨(m1 : Int), (m2 : Int), ⟨⟩⟩, (g : Bool), ⟨⟩⟩, ⟨⟩⟩ - -
  refine exec_sound (n := 1000) Ewai1_ok Fwai1_ok ?_
  refine holds_of_eq (Ewai1_t i n1 n2 f j m1 m2 g) ?_
  rfl
def coff1 : Ctr := { ps := [.v Wait, .rd I64], rs := [.bool], pre := fun _ => True, fn := fun x => (sameId x.2.1 x.1, ()), out := fun _ => () }
noncomputable def Eoff1 : Env := { P := Try.prog, tt := tt, ctr := [], res := [Go.ResultVar.tmp 3], rs := [Ty.bool], ps := [PK.v (Ty.pair (Ty.int IntKind.i64) (Ty.pair PairT (Ty.pair Ty.bool Ty.unit))), PK.rd (Ty.int IntKind.i64)], cuts := [], nt := 8 }
theorem Eoff1_ok : EnvOk Eoff1 := envOk tt_ok trivial
theorem Foff1_ok : FnOk Eoff1 Try.f83 := ⟨rfl, rfl⟩
theorem Eoff1_t (x0_1 : Int) (x0_2_1_1 : Int) (x0_2_1_2_1 : Int) (x0_2_2_1 : Bool) (x1 : Int) : exec Eoff1 1000 [.code (bodyOf Try.prog 83)] (initSt coff1.ps (((x0_1, (x0_2_1_1, x0_2_1_2_1, ()), x0_2_2_1, ()), x1, ()))) =
  .ret ((decide (x0_1 = x1), ())) := by kernel_rfl
theorem coff1_valid : coff1.Valid Try.prog 83 := by
  refine Ctr.valid_of Eoff1_ok rfl rfl Try.func83 (c := bodyOf Try.prog 83) rfl rfl Foff1_ok rfl ?_
  rintro ⟨⟨(i : Int), ⟨(n1 : Int), (n2 : Int), ⟨⟩⟩, (f : Bool), ⟨⟩⟩, (j : Int), ⟨⟩⟩ - -
  refine exec_sound (n := 1000) Eoff1_ok Foff1_ok ?_
  refine holds_of_eq (Eoff1_t i n1 n2 f j) ?_
  rfl
def openId (id : Int) (w : WaitD) : Bool := decide (w.1 = id) && !w.2.2.1
def cfix1 : Ctr := { ps := [.v Wait, .rd I64], rs := [.bool], pre := fun _ => True, fn := fun x => (openId x.2.1 x.1, ()), out := fun _ => () }
noncomputable def Efix1 : Env := { P := Try.prog, tt := tt, ctr := [], res := [Go.ResultVar.tmp 3], rs := [Ty.bool], ps := [PK.v (Ty.pair (Ty.int IntKind.i64) (Ty.pair PairT (Ty.pair Ty.bool Ty.unit))), PK.rd (Ty.int IntKind.i64)], cuts := [], nt := 13 }
theorem Efix1_ok : EnvOk Efix1 := envOk tt_ok trivial
theorem Ffix1_ok : FnOk Efix1 Try.f88 := ⟨rfl, rfl⟩
theorem Efix1_t (x0_1 : Int) (x0_2_1_1 : Int) (x0_2_1_2_1 : Int) (x0_2_2_1 : Bool) (x1 : Int) : exec Efix1 1000 [.code (bodyOf Try.prog 88)] (initSt cfix1.ps (((x0_1, (x0_2_1_1, x0_2_1_2_1, ()), x0_2_2_1, ()), x1, ()))) =
  cond (decide (x0_1 = x1)) (.ret ((!x0_2_2_1, ()))) (.ret ((false, ()))) := by kernel_rfl
theorem cfix1_valid : cfix1.Valid Try.prog 88 := by
  refine Ctr.valid_of Efix1_ok rfl rfl Try.func88 (c := bodyOf Try.prog 88) rfl rfl Ffix1_ok rfl ?_
  rintro ⟨⟨(i : Int), ⟨(n1 : Int), (n2 : Int), ⟨⟩⟩, (f : Bool), ⟨⟩⟩, (j : Int), ⟨⟩⟩ - -
  refine exec_sound (n := 1000) Efix1_ok Ffix1_ok ?_
  refine holds_of_eq (Efix1_t i n1 n2 f j) ?_
  simp only [holds_cond, Tree.holds, true_and, true_implies, decide_eq_true_eq, decide_eq_false_iff_not, Bool.not_eq_true', Bool.not_eq_false', Int.toNat_natCast, inK_i64, List.length_set, List.length_cons, List.length_nil]
  refine ⟨fun h => ?_, fun h => ?_⟩
  · show ((!f, ()) : Bool × Unit) = ((decide (i = j) && !f), ())
    rw [decide_eq_true h]; rfl
  · show ((false, ()) : Bool × Unit) = ((decide (i = j) && !f), ())
    rw [decide_eq_false h]; rfl
def taken (id : Int) (n : NumD) (w : WaitD) : Bool := !decide (w.1 = id) && decide (w.2.1 = n)
def cfix2 : Ctr := { ps := [.v Wait, .rd I64, .rd Num], rs := [.bool], pre := fun _ => True, fn := fun x => (taken x.2.1 x.2.2.1 x.1, ()), out := fun _ => () }
noncomputable def Efix2 : Env := { P := Try.prog, tt := tt, ctr := [], res := [Go.ResultVar.tmp 4], rs := [Ty.bool], ps := [PK.v (Ty.pair (Ty.int IntKind.i64) (Ty.pair PairT (Ty.pair Ty.bool Ty.unit))), PK.rd (Ty.int IntKind.i64), PK.rd PairT], cuts := [], nt := 15 }
theorem Efix2_ok : EnvOk Efix2 := envOk tt_ok trivial
theorem Ffix2_ok : FnOk Efix2 Try.f90 := ⟨rfl, rfl⟩
theorem Efix2_t (x0_1 : Int) (x0_2_1_1 : Int) (x0_2_1_2_1 : Int) (x0_2_2_1 : Bool) (x1 : Int) (x2_1 : Int) (x2_2_1 : Int) : exec Efix2 1000 [.code (bodyOf Try.prog 90)] (initSt cfix2.ps (((x0_1, (x0_2_1_1, x0_2_1_2_1, ()), x0_2_2_1, ()), x1, (x2_1, x2_2_1, ()), ()))) =
  cond (decide (x0_1 ≠ x1)) (.ret ((eqD PairT (x0_2_1_1, x0_2_1_2_1, ()) (x2_1, x2_2_1, ()), ()))) (.ret ((false, ()))) := by kernel_rfl
theorem eqNumD {a b : NumD} : eqD (Ty.pair (Ty.int IntKind.i64) (Ty.pair (Ty.int IntKind.i64) Ty.unit)) a b = decide (a = b) := by
  obtain ⟨a1, a2, ⟨⟩⟩ := a
  obtain ⟨b1, b2, ⟨⟩⟩ := b
  show (decide (a1 = b1) && (decide (a2 = b2) && decide ((() : Unit) = ()))) = _
  by_cases h1 : a1 = b1
  · by_cases h2 : a2 = b2
    · subst h1 h2; simp
    · rw [decide_eq_true h1, decide_eq_false h2, decide_eq_false (fun h => h2 (congrArg (fun q : NumD => q.2.1) h))]; rfl
  · rw [decide_eq_false h1, decide_eq_false (fun h => h1 (congrArg (fun q : NumD => q.1) h))]; rfl
theorem cfix2_valid : cfix2.Valid Try.prog 90 := by
  refine Ctr.valid_of Efix2_ok rfl rfl Try.func90 (c := bodyOf Try.prog 90) rfl rfl Ffix2_ok rfl ?_
  rintro ⟨⟨(i : Int), ⟨(n1 : Int), (n2 : Int), ⟨⟩⟩, (f : Bool), ⟨⟩⟩, (j : Int), ⟨(m1 : Int), (m2 : Int), ⟨⟩⟩, ⟨⟩⟩ - -
  refine exec_sound (n := 1000) Efix2_ok Ffix2_ok ?_
  refine holds_of_eq (Efix2_t i n1 n2 f j m1 m2) ?_
  have e : taken j (m1, m2, ()) (i, (n1, n2, ()), f, ()) = (!decide (i = j) && decide ((n1, n2, ()) = ((m1, m2, ()) : NumD))) := rfl
  simp only [holds_cond, Tree.holds, true_and, true_implies, decide_eq_true_eq, decide_eq_false_iff_not, Bool.not_eq_true', Bool.not_eq_false', Int.toNat_natCast, inK_i64, List.length_set, List.length_cons, List.length_nil, eqNumD]
  refine ⟨fun h => ?_, fun h => ?_⟩
  · show ((decide ((n1, n2, ()) = ((m1, m2, ()) : NumD)), ()) : Bool × Unit) = (taken j (m1, m2, ()) (i, (n1, n2, ()), f, ()), ())
    rw [e, decide_eq_false h]; rfl
  · show ((false, ()) : Bool × Unit) = (taken j (m1, m2, ()) (i, (n1, n2, ()), f, ()), ())
    have h : i = j := Decidable.not_not.1 h
    rw [e, decide_eq_true h]; rfl
def wcmp (a b : WaitD) : Int := ncmp a.2.1 b.2.1
def cfix3 : Ctr := { ps := [.v Wait, .v Wait], rs := [I64], pre := fun _ => True, fn := fun x => (wcmp x.1 x.2.1, ()), out := fun _ => () }
noncomputable def Efix3 : Env := { P := Try.prog, tt := tt, ctr := [(89, cncmp)], res := [Go.ResultVar.tmp 4], rs := [Ty.int IntKind.i64], ps := [PK.v (Ty.pair (Ty.int IntKind.i64) (Ty.pair PairT (Ty.pair Ty.bool Ty.unit))), PK.v (Ty.pair (Ty.int IntKind.i64) (Ty.pair PairT (Ty.pair Ty.bool Ty.unit)))], cuts := [], nt := 10 }
theorem Efix3_ok : EnvOk Efix3 := envOk tt_ok ⟨cncmp_valid, trivial⟩
theorem Ffix3_ok : FnOk Efix3 Try.f92 := ⟨rfl, rfl⟩
theorem Efix3_t (x0_1 : Int) (x0_2_1_1 : Int) (x0_2_1_2_1 : Int) (x0_2_2_1 : Bool) (x1_1 : Int) (x1_2_1_1 : Int) (x1_2_1_2_1 : Int) (x1_2_2_1 : Bool) : exec Efix3 1000 [.code (bodyOf Try.prog 92)] (initSt cfix3.ps (((x0_1, (x0_2_1_1, x0_2_1_2_1, ()), x0_2_2_1, ()), (x1_1, (x1_2_1_1, x1_2_1_2_1, ()), x1_2_2_1, ()), ()))) =
  .need (True) (.ret ((ncmp (x0_2_1_1, x0_2_1_2_1, ()) (x1_2_1_1, x1_2_1_2_1, ()), ()))) := by kernel_rfl
theorem cfix3_valid : cfix3.Valid Try.prog 92 := by
  refine Ctr.valid_of Efix3_ok rfl rfl Try.func92 (c := bodyOf Try.prog 92) rfl rfl Ffix3_ok rfl ?_
  rintro ⟨⟨(i : Int), ⟨(n1 : Int), (n2 : Int), ⟨⟩⟩, (f : Bool), ⟨⟩⟩, ⟨(j : Int), ⟨(m1 : Int), (m2 : Int), ⟨⟩⟩, (g : Bool), ⟨⟩⟩, ⟨⟩⟩ - -
  refine exec_sound (n := 1000) Efix3_ok Ffix3_ok ?_
  refine holds_of_eq (Efix3_t i n1 n2 f j m1 m2 g) ?_
  exact ⟨trivial, fun _ => rfl⟩
theorem cmpI_lt {a b : Int} : cmpI a b < 0 ↔ a < b := by unfold cmpI; split; omega; split <;> omega
theorem cmpI_eq {a b : Int} : cmpI a b = 0 ↔ a = b := by unfold cmpI; split; omega; split <;> omega
theorem ncmp_lt {a b : NumD} : ncmp a b < 0 ↔ a.1 < b.1 ∨ (a.1 = b.1 ∧ a.2.1 < b.2.1) := by
  unfold ncmp
  have h1 := @cmpI_lt a.1 b.1
  have h2 := @cmpI_eq a.1 b.1
  have h3 := @cmpI_lt a.2.1 b.2.1
  split <;> omega
theorem ncmp_le {a b : NumD} : ncmp a b ≤ 0 ↔ a.1 < b.1 ∨ (a.1 = b.1 ∧ a.2.1 ≤ b.2.1) := by
  unfold ncmp
  have h1 := @cmpI_lt a.1 b.1
  have h2 := @cmpI_eq a.1 b.1
  have h3 := @cmpI_lt a.2.1 b.2.1
  have h4 := @cmpI_eq a.2.1 b.2.1
  split <;> omega
theorem swoW : SWO (ltD wcmp) :=
  ⟨fun x => by rw [ltD, decide_eq_false_iff_not, wcmp, ncmp_lt]; omega, fun x y z => by simp only [ltD, wcmp, decide_eq_true_eq, ncmp_lt]; omega, fun x y z => by simp only [ltD, wcmp, decide_eq_false_iff_not, ncmp_lt]; omega⟩
def laySortW_ren : Go.Shelf.Ren := ⟨fun | 6 => 91 | 14 => 137 | 15 => 98 | 20 => 170 | 21 => 171 | 22 => 172 | 23 => 173 | 24 => 174 | 25 => 175 | 26 => 176 | 27 => 177 | 28 => 149 | 29 => 150 | 46 => 214 | 47 => 181 | 48 => 182 | 49 => 215 | 50 => 216 | 57 => 229 | n => n, fun | 0 => 0 | 3 => 3 | 4 => 4 | 5 => 5 | 9 => 9 | 22 => 52 | 24 => 62 | 25 => 146 | 39 => 155 | 45 => 206 | 46 => 207 | 50 => 211 | 53 => 214 | 55 => 216 | 66 => 242 | 70 => 246 | 76 => 270 | 77 => 271 | n => n, fun | n => n⟩
theorem laySortW : Go.Proofs.SlLaysF0.n6 Try.prog laySortW_ren := {
  mixed := by kernel_rfl,
  f6 := ⟨Try.f91.name, by decide, Try.func91.trans (congrArg some (by kernel_rfl))⟩,
  f14 := ⟨Try.f137.name, by decide, Try.func137.trans (congrArg some (by kernel_rfl))⟩,
  f15 := Try.func98.trans (congrArg some (by kernel_rfl)),
  f20 := ⟨Try.f170.name, by decide, Try.func170.trans (congrArg some (by kernel_rfl))⟩,
  f21 := ⟨Try.f171.name, by decide, Try.func171.trans (congrArg some (by kernel_rfl))⟩,
  f22 := ⟨Try.f172.name, by decide, Try.func172.trans (congrArg some (by kernel_rfl))⟩,
  f23 := ⟨Try.f173.name, by decide, Try.func173.trans (congrArg some (by kernel_rfl))⟩,
  f24 := ⟨Try.f174.name, by decide, Try.func174.trans (congrArg some (by kernel_rfl))⟩,
  f25 := ⟨Try.f175.name, by decide, Try.func175.trans (congrArg some (by kernel_rfl))⟩,
  f26 := ⟨Try.f176.name, by decide, Try.func176.trans (congrArg some (by kernel_rfl))⟩,
  f27 := ⟨Try.f177.name, by decide, Try.func177.trans (congrArg some (by kernel_rfl))⟩,
  f28 := Try.func149.trans (congrArg some (by kernel_rfl)),
  f29 := Try.func150.trans (congrArg some (by kernel_rfl)),
  f46 := ⟨Try.f214.name, by decide, Try.func214.trans (congrArg some (by kernel_rfl))⟩,
  f47 := Try.func181.trans (congrArg some (by kernel_rfl)),
  f48 := Try.func182.trans (congrArg some (by kernel_rfl)),
  f49 := ⟨Try.f215.name, by decide, Try.func215.trans (congrArg some (by kernel_rfl))⟩,
  f50 := ⟨Try.f216.name, by decide, Try.func216.trans (congrArg some (by kernel_rfl))⟩,
  f57 := ⟨Try.f229.name, by decide, Try.func229.trans (congrArg some (by kernel_rfl))⟩,
  t0 := Try.underlying0,
  a0 := Try.isAgg0,
  z0 := Try.sizeOf0,
  v0 := Try.zeroValue0,
  t3 := Try.underlying3,
  a3 := Try.isAgg3,
  z3 := Try.sizeOf3,
  v3 := Try.zeroValue3,
  t4 := Try.underlying4,
  a4 := Try.isAgg4,
  z4 := Try.sizeOf4,
  v4 := Try.zeroValue4,
  t5 := Try.underlying5,
  a5 := Try.isAgg5,
  z5 := Try.sizeOf5,
  v5 := Try.zeroValue5,
  t9 := Try.underlying9,
  a9 := Try.isAgg9,
  z9 := Try.sizeOf9,
  v9 := Try.zeroValue9,
  t22 := Try.underlying52,
  a22 := Try.isAgg52,
  z22 := Try.sizeOf52,
  v22 := Try.zeroValue52,
  t25 := Try.underlying146,
  a25 := Try.isAgg146,
  z25 := Try.sizeOf146,
  v25 := Try.zeroValue146,
  t39 := Try.underlying155,
  a39 := Try.isAgg155,
  z39 := Try.sizeOf155,
  v39 := Try.zeroValue155,
  t45 := Try.underlying206,
  a45 := Try.isAgg206,
  z45 := Try.sizeOf206,
  v45 := Try.zeroValue206,
  t46 := Try.underlying207,
  a46 := Try.isAgg207,
  z46 := Try.sizeOf207,
  v46 := Try.zeroValue207,
  t50 := Try.underlying211,
  a50 := Try.isAgg211,
  z50 := Try.sizeOf211,
  v50 := Try.zeroValue211,
  t53 := Try.underlying214,
  a53 := Try.isAgg214,
  z53 := Try.sizeOf214,
  v53 := Try.zeroValue214,
  t55 := Try.underlying216,
  a55 := Try.isAgg216,
  z55 := Try.sizeOf216,
  v55 := Try.zeroValue216,
  t66 := Try.underlying242,
  a66 := Try.isAgg242,
  z66 := Try.sizeOf242,
  v66 := Try.zeroValue242,
  t70 := Try.underlying246,
  a70 := Try.isAgg246,
  z70 := Try.sizeOf246,
  v70 := Try.zeroValue246,
  t76 := Try.underlying270,
  a76 := Try.isAgg270,
  z76 := Try.sizeOf270,
  v76 := Try.zeroValue270,
  t77 := Try.underlying271,
  a77 := Try.isAgg271,
  z77 := Try.sizeOf271,
  v77 := Try.zeroValue271 }
def csortW : Ctr := sortC Wait 92 wcmp (fun _ => True)
theorem csortW_valid : csortW.Valid Try.prog 91 :=
  sortK_valid (n := 100) laySortW (by kernel_rfl) rfl rfl (cmpOk_of cfix3_valid _ _ rfl (fun _ _ _ _ => trivial)) swoW
def cidxW : Ctr := { ps := [.v (.slc false Wait), .clo 136 [Wait]], rs := [I64], pre := fun x => True, fn := fun x => (idxOf (sameId x.2.1.1.1) x.1, ()), out := fun _ => () }
noncomputable def EidxW : Env := { P := Try.prog, tt := tt, ctr := [(136, cwai1)], res := [Go.ResultVar.tmp 4], rs := [Ty.int IntKind.i64], ps := [PK.v (Ty.slc false (Ty.pair (Ty.int IntKind.i64) (Ty.pair PairT (Ty.pair Ty.bool Ty.unit)))), PK.clo 136 [Ty.pair (Ty.int IntKind.i64) (Ty.pair PairT (Ty.pair Ty.bool Ty.unit))]], cuts := [(2, [(0, none), (1, none), (7, none), (8, none)])], nt := 19 }
theorem EidxW_ok : EnvOk EidxW := envOk tt_ok ⟨cwai1_valid, trivial⟩
theorem FidxW_ok : FnOk EidxW Try.f87 := ⟨rfl, rfl⟩
theorem EidxW_t (x0 : List (Int × (Int × Int × Unit) × Bool × Unit)) (x1c0_1 : Int) (x1c0_2_1_1 : Int) (x1c0_2_1_2_1 : Int) (x1c0_2_2_1 : Bool) : exec EidxW 1000 [.code (bodyOf Try.prog 87)] (initSt cidxW.ps ((x0, ((x1c0_1, (x1c0_2_1_1, x1c0_2_1_2_1, ()), x1c0_2_2_1, ()), ()), ()))) =
  .cut (loopAt (bodyOf Try.prog 87) 2).1 (loopAt (bodyOf Try.prog 87) 2).2 (St.mk [(0, AV.val (Ty.slc false (Ty.pair (Ty.int IntKind.i64) (Ty.pair PairT (Ty.pair Ty.bool Ty.unit)))) x0), (1, AV.clo 136 (AV.cons (AV.rptr (Ty.pair (Ty.int IntKind.i64) (Ty.pair PairT (Ty.pair Ty.bool Ty.unit))) (x1c0_1, (x1c0_2_1_1, x1c0_2_1_2_1, ()), x1c0_2_2_1, ())) AV.nil)), (7, AV.val (Ty.int IntKind.i64) (↑(List.length x0) : Int)), (8, AV.val (Ty.int IntKind.i64) (0 : Int))] []) := by kernel_rfl
def EidxW_s2 (v0 : List (Int × (Int × Int × Unit) × Bool × Unit)) (v1a_1 : Int) (v1a_2_1_1 : Int) (v1a_2_1_2_1 : Int) (v1a_2_2_1 : Bool) (v7 : Int) (v8 : Int) : St := St.mk [(0, AV.val (Ty.slc false (Ty.pair (Ty.int IntKind.i64) (Ty.pair PairT (Ty.pair Ty.bool Ty.unit)))) v0), (1, AV.clo 136 (AV.cons (AV.rptr (Ty.pair (Ty.int IntKind.i64) (Ty.pair PairT (Ty.pair Ty.bool Ty.unit))) (v1a_1, (v1a_2_1_1, v1a_2_1_2_1, ()), v1a_2_2_1, ())) AV.nil)), (7, AV.val (Ty.int IntKind.i64) v7), (8, AV.val (Ty.int IntKind.i64) v8)] []
theorem EidxW_l2 (v0 : List (Int × (Int × Int × Unit) × Bool × Unit)) (v1a_1 : Int) (v1a_2_1_1 : Int) (v1a_2_1_2_1 : Int) (v1a_2_2_1 : Bool) (v7 : Int) (v8 : Int) : exec EidxW 1000 (.code (loopAt (bodyOf Try.prog 87) 2).1 :: .inLoop (loopAt (bodyOf Try.prog 87) 2).1 :: (loopAt (bodyOf Try.prog 87) 2).2) (EidxW_s2 v0 v1a_1 v1a_2_1_1 v1a_2_1_2_1 v1a_2_2_1 v7 v8) =
  cond (decide (v8 < v7)) (.need ((0 : Int) ≤ v8 ∧ v8 < (↑(List.length v0) : Int)) (.need (True) (cond (sameId v1a_1 (List.getD v0 (Int.toNat v8) ((0 : Int), ((0 : Int), (0 : Int), ()), false, ()))) (.ret ((v8, ()))) (.need (inK IntKind.i64 (v8 + (1 : Int))) (.cut (loopAt (bodyOf Try.prog 87) 2).1 (loopAt (bodyOf Try.prog 87) 2).2 (St.mk [(0, AV.val (Ty.slc false (Ty.pair (Ty.int IntKind.i64) (Ty.pair PairT (Ty.pair Ty.bool Ty.unit)))) v0), (1, AV.clo 136 (AV.cons (AV.rptr (Ty.pair (Ty.int IntKind.i64) (Ty.pair PairT (Ty.pair Ty.bool Ty.unit))) (v1a_1, (v1a_2_1_1, v1a_2_1_2_1, ()), v1a_2_2_1, ())) AV.nil)), (7, AV.val (Ty.int IntKind.i64) v7), (8, AV.val (Ty.int IntKind.i64) (v8 + (1 : Int)))] [])))))) (.ret (((-1 : Int), ()))) := by kernel_rfl
theorem cidxW_valid : cidxW.Valid Try.prog 87 := by
  refine Ctr.valid_of EidxW_ok rfl rfl Try.func87 (c := bodyOf Try.prog 87) rfl rfl FidxW_ok rfl ?_
  rintro ⟨(l : List (WaitD)), ⟨⟨(j : Int), ⟨(m1 : Int), (m2 : Int), ⟨⟩⟩, (g9 : Bool), ⟨⟩⟩, ⟨⟩⟩, ⟨⟩⟩ - ⟨⟨hl, -⟩, -⟩
  have hl : l.length ≤ 9223372036854775807 := hl
  refine exec_sound (n := 1000) EidxW_ok FidxW_ok ?_
  refine holds_of_eq (EidxW_t l j m1 m2 g9) ?_
  refine Reach.loopI EidxW_ok FidxW_ok (fun i : Nat => EidxW_s2 l j m1 m2 g9 (l.length : Int) (i : Int)) (fun i => i ≤ l.length ∧ idxOf (sameId j) l = idxGo (sameId j) (l.drop i) i)
    (fun i => l.length - i) 1000 (fun _ => ⟨uniq_of rfl, uniq_of rfl⟩) ?_ 0 ⟨by omega, rfl⟩
  rintro i ⟨k1, k2⟩ - ih
  refine holds_of_eq (EidxW_l2 ..) ?_
  simp only [holds_cond, Tree.holds, true_and, true_implies, decide_eq_true_eq, decide_eq_false_iff_not, Bool.not_eq_true', Bool.not_eq_false', Int.toNat_natCast, inK_i64, List.length_set, List.length_cons, List.length_nil]
  refine ⟨fun h => ?_, fun h => ?_⟩
  · rw [drop_getD (show i < l.length by omega) ((0, (0, 0, ()), false, ())), idxGo] at k2
    refine ⟨by omega, fun _ => ⟨fun c => ?_, fun c => ⟨by omega, fun _ => ih (i + 1) ⟨by omega, ?_⟩ (by omega)⟩⟩⟩
    · show (((i : Int), ()) : Int × Unit) = (idxOf (sameId j) l, ())
      rw [k2, if_pos (show (sameId j) (l.getD i ((0, (0, 0, ()), false, ()))) = true from c)]
    · rw [k2, if_neg (show ¬ (sameId j) (l.getD i ((0, (0, 0, ()), false, ()))) = true from fun h9 => Bool.noConfusion (Eq.trans (Eq.symm h9) c))]
  · rw [List.drop_eq_nil_of_le (by omega)] at k2
    show (((-1 : Int), ()) : Int × Unit) = (idxOf (sameId j) l, ())
    rw [k2]; rfl
def cconW : Ctr := { ps := [.v (.slc false Wait), .clo 136 [Wait]], rs := [.bool], pre := fun x => True, fn := fun x => (List.any (α := WaitD) x.1 (sameId x.2.1.1.1), ()), out := fun _ => () }
noncomputable def EconW : Env := { P := Try.prog, tt := tt, ctr := [(87, cidxW)], res := [Go.ResultVar.tmp 4], rs := [Ty.bool], ps := [PK.v (Ty.slc false (Ty.pair (Ty.int IntKind.i64) (Ty.pair PairT (Ty.pair Ty.bool Ty.unit)))), PK.clo 136 [Ty.pair (Ty.int IntKind.i64) (Ty.pair PairT (Ty.pair Ty.bool Ty.unit))]], cuts := [], nt := 9 }
theorem EconW_ok : EnvOk EconW := envOk tt_ok ⟨cidxW_valid, trivial⟩
theorem FconW_ok : FnOk EconW Try.f33 := ⟨rfl, rfl⟩
theorem EconW_t (x0 : List (Int × (Int × Int × Unit) × Bool × Unit)) (x1c0_1 : Int) (x1c0_2_1_1 : Int) (x1c0_2_1_2_1 : Int) (x1c0_2_2_1 : Bool) : exec EconW 1000 [.code (bodyOf Try.prog 33)] (initSt cconW.ps ((x0, ((x1c0_1, (x1c0_2_1_1, x1c0_2_1_2_1, ()), x1c0_2_2_1, ()), ()), ()))) =
  .need (True) (.ret ((decide ((0 : Int) ≤ idxOf (sameId x1c0_1) x0), ()))) := by kernel_rfl
theorem cconW_valid : cconW.Valid Try.prog 33 := by
  refine Ctr.valid_of EconW_ok rfl rfl Try.func33 (c := bodyOf Try.prog 33) rfl rfl FconW_ok rfl ?_
  rintro ⟨(l : List (WaitD)), ⟨⟨(j : Int), ⟨(m1 : Int), (m2 : Int), ⟨⟩⟩, (g9 : Bool), ⟨⟩⟩, ⟨⟩⟩, ⟨⟩⟩ - -
  refine exec_sound (n := 1000) EconW_ok FconW_ok ?_
  refine holds_of_eq (EconW_t l j m1 m2 g9) ?_
  refine ⟨trivial, fun _ => ?_⟩
  show ((decide (0 ≤ idxOf (sameId j) l), ()) : Bool × Unit) = (l.any (sameId j), ())
  rw [idx_any]
def cidxO : Ctr := { ps := [.v (.slc false Wait), .clo 83 [I64]], rs := [I64], pre := fun x => True, fn := fun x => (idxOf (sameId x.2.1.1) x.1, ()), out := fun _ => () }
noncomputable def EidxO : Env := { P := Try.prog, tt := tt, ctr := [(83, coff1)], res := [Go.ResultVar.tmp 4], rs := [Ty.int IntKind.i64], ps := [PK.v (Ty.slc false (Ty.pair (Ty.int IntKind.i64) (Ty.pair PairT (Ty.pair Ty.bool Ty.unit)))), PK.clo 83 [Ty.int IntKind.i64]], cuts := [(2, [(0, none), (1, none), (7, none), (8, none)])], nt := 19 }
theorem EidxO_ok : EnvOk EidxO := envOk tt_ok ⟨coff1_valid, trivial⟩
theorem FidxO_ok : FnOk EidxO Try.f87 := ⟨rfl, rfl⟩
theorem EidxO_t (x0 : List (Int × (Int × Int × Unit) × Bool × Unit)) (x1c0 : Int) : exec EidxO 1000 [.code (bodyOf Try.prog 87)] (initSt cidxO.ps ((x0, (x1c0, ()), ()))) =
  .cut (loopAt (bodyOf Try.prog 87) 2).1 (loopAt (bodyOf Try.prog 87) 2).2 (St.mk [(0, AV.val (Ty.slc false (Ty.pair (Ty.int IntKind.i64) (Ty.pair PairT (Ty.pair Ty.bool Ty.unit)))) x0), (1, AV.clo 83 (AV.cons (AV.rptr (Ty.int IntKind.i64) x1c0) AV.nil)), (7, AV.val (Ty.int IntKind.i64) (↑(List.length x0) : Int)), (8, AV.val (Ty.int IntKind.i64) (0 : Int))] []) := by kernel_rfl
def EidxO_s2 (v0 : List (Int × (Int × Int × Unit) × Bool × Unit)) (v1a : Int) (v7 : Int) (v8 : Int) : St := St.mk [(0, AV.val (Ty.slc false (Ty.pair (Ty.int IntKind.i64) (Ty.pair PairT (Ty.pair Ty.bool Ty.unit)))) v0), (1, AV.clo 83 (AV.cons (AV.rptr (Ty.int IntKind.i64) v1a) AV.nil)), (7, AV.val (Ty.int IntKind.i64) v7), (8, AV.val (Ty.int IntKind.i64) v8)] []
theorem EidxO_l2 (v0 : List (Int × (Int × Int × Unit) × Bool × Unit)) (v1a : Int) (v7 : Int) (v8 : Int) : exec EidxO 1000 (.code (loopAt (bodyOf Try.prog 87) 2).1 :: .inLoop (loopAt (bodyOf Try.prog 87) 2).1 :: (loopAt (bodyOf Try.prog 87) 2).2) (EidxO_s2 v0 v1a v7 v8) =
  cond (decide (v8 < v7)) (.need ((0 : Int) ≤ v8 ∧ v8 < (↑(List.length v0) : Int)) (.need (True) (cond (sameId v1a (List.getD v0 (Int.toNat v8) ((0 : Int), ((0 : Int), (0 : Int), ()), false, ()))) (.ret ((v8, ()))) (.need (inK IntKind.i64 (v8 + (1 : Int))) (.cut (loopAt (bodyOf Try.prog 87) 2).1 (loopAt (bodyOf Try.prog 87) 2).2 (St.mk [(0, AV.val (Ty.slc false (Ty.pair (Ty.int IntKind.i64) (Ty.pair PairT (Ty.pair Ty.bool Ty.unit)))) v0), (1, AV.clo 83 (AV.cons (AV.rptr (Ty.int IntKind.i64) v1a) AV.nil)), (7, AV.val (Ty.int IntKind.i64) v7), (8, AV.val (Ty.int IntKind.i64) (v8 + (1 : Int)))] [])))))) (.ret (((-1 : Int), ()))) := by kernel_rfl
theorem cidxO_valid : cidxO.Valid Try.prog 87 := by
  refine Ctr.valid_of EidxO_ok rfl rfl Try.func87 (c := bodyOf Try.prog 87) rfl rfl FidxO_ok rfl ?_
  rintro ⟨(l : List (WaitD)), ⟨(j : Int), ⟨⟩⟩, ⟨⟩⟩ - ⟨⟨hl, -⟩, -⟩
  have hl : l.length ≤ 9223372036854775807 := hl
  refine exec_sound (n := 1000) EidxO_ok FidxO_ok ?_
  refine holds_of_eq (EidxO_t l j) ?_
  refine Reach.loopI EidxO_ok FidxO_ok (fun i : Nat => EidxO_s2 l j (l.length : Int) (i : Int)) (fun i => i ≤ l.length ∧ idxOf (sameId j) l = idxGo (sameId j) (l.drop i) i)
    (fun i => l.length - i) 1000 (fun _ => ⟨uniq_of rfl, uniq_of rfl⟩) ?_ 0 ⟨by omega, rfl⟩
  rintro i ⟨k1, k2⟩ - ih
  refine holds_of_eq (EidxO_l2 ..) ?_
  simp only [holds_cond, Tree.holds, true_and, true_implies, decide_eq_true_eq, decide_eq_false_iff_not, Bool.not_eq_true', Bool.not_eq_false', Int.toNat_natCast, inK_i64, List.length_set, List.length_cons, List.length_nil]
  refine ⟨fun h => ?_, fun h => ?_⟩
  · rw [drop_getD (show i < l.length by omega) ((0, (0, 0, ()), false, ())), idxGo] at k2
    refine ⟨by omega, fun _ => ⟨fun c => ?_, fun c => ⟨by omega, fun _ => ih (i + 1) ⟨by omega, ?_⟩ (by omega)⟩⟩⟩
    · show (((i : Int), ()) : Int × Unit) = (idxOf (sameId j) l, ())
      rw [k2, if_pos (show (sameId j) (l.getD i ((0, (0, 0, ()), false, ()))) = true from c)]
    · rw [k2, if_neg (show ¬ (sameId j) (l.getD i ((0, (0, 0, ()), false, ()))) = true from fun h9 => Bool.noConfusion (Eq.trans (Eq.symm h9) c))]
  · rw [List.drop_eq_nil_of_le (by omega)] at k2
    show (((-1 : Int), ()) : Int × Unit) = (idxOf (sameId j) l, ())
    rw [k2]; rfl
def cconO : Ctr := { ps := [.v (.slc false Wait), .clo 83 [I64]], rs := [.bool], pre := fun x => True, fn := fun x => (List.any (α := WaitD) x.1 (sameId x.2.1.1), ()), out := fun _ => () }
noncomputable def EconO : Env := { P := Try.prog, tt := tt, ctr := [(87, cidxO)], res := [Go.ResultVar.tmp 4], rs := [Ty.bool], ps := [PK.v (Ty.slc false (Ty.pair (Ty.int IntKind.i64) (Ty.pair PairT (Ty.pair Ty.bool Ty.unit)))), PK.clo 83 [Ty.int IntKind.i64]], cuts := [], nt := 9 }
theorem EconO_ok : EnvOk EconO := envOk tt_ok ⟨cidxO_valid, trivial⟩
theorem FconO_ok : FnOk EconO Try.f33 := ⟨rfl, rfl⟩
theorem EconO_t (x0 : List (Int × (Int × Int × Unit) × Bool × Unit)) (x1c0 : Int) : exec EconO 1000 [.code (bodyOf Try.prog 33)] (initSt cconO.ps ((x0, (x1c0, ()), ()))) =
  .need (True) (.ret ((decide ((0 : Int) ≤ idxOf (sameId x1c0) x0), ()))) := by kernel_rfl
theorem cconO_valid : cconO.Valid Try.prog 33 := by
  refine Ctr.valid_of EconO_ok rfl rfl Try.func33 (c := bodyOf Try.prog 33) rfl rfl FconO_ok rfl ?_
  rintro ⟨(l : List (WaitD)), ⟨(j : Int), ⟨⟩⟩, ⟨⟩⟩ - -
  refine exec_sound (n := 1000) EconO_ok FconO_ok ?_
  refine holds_of_eq (EconO_t l j) ?_
  refine ⟨trivial, fun _ => ?_⟩
  show ((decide (0 ≤ idxOf (sameId j) l), ()) : Bool × Unit) = (l.any (sameId j), ())
  rw [idx_any]
def cidxF : Ctr := { ps := [.v (.slc false Wait), .clo 88 [I64]], rs := [I64], pre := fun x => True, fn := fun x => (idxOf (openId x.2.1.1) x.1, ()), out := fun _ => () }
noncomputable def EidxF : Env := { P := Try.prog, tt := tt, ctr := [(88, cfix1)], res := [Go.ResultVar.tmp 4], rs := [Ty.int IntKind.i64], ps := [PK.v (Ty.slc false (Ty.pair (Ty.int IntKind.i64) (Ty.pair PairT (Ty.pair Ty.bool Ty.unit)))), PK.clo 88 [Ty.int IntKind.i64]], cuts := [(2, [(0, none), (1, none), (7, none), (8, none)])], nt := 19 }
theorem EidxF_ok : EnvOk EidxF := envOk tt_ok ⟨cfix1_valid, trivial⟩
theorem FidxF_ok : FnOk EidxF Try.f87 := ⟨rfl, rfl⟩
theorem EidxF_t (x0 : List (Int × (Int × Int × Unit) × Bool × Unit)) (x1c0 : Int) : exec EidxF 1000 [.code (bodyOf Try.prog 87)] (initSt cidxF.ps ((x0, (x1c0, ()), ()))) =
  .cut (loopAt (bodyOf Try.prog 87) 2).1 (loopAt (bodyOf Try.prog 87) 2).2 (St.mk [(0, AV.val (Ty.slc false (Ty.pair (Ty.int IntKind.i64) (Ty.pair PairT (Ty.pair Ty.bool Ty.unit)))) x0), (1, AV.clo 88 (AV.cons (AV.rptr (Ty.int IntKind.i64) x1c0) AV.nil)), (7, AV.val (Ty.int IntKind.i64) (↑(List.length x0) : Int)), (8, AV.val (Ty.int IntKind.i64) (0 : Int))] []) := by kernel_rfl
def EidxF_s2 (v0 : List (Int × (Int × Int × Unit) × Bool × Unit)) (v1a : Int) (v7 : Int) (v8 : Int) : St := St.mk [(0, AV.val (Ty.slc false (Ty.pair (Ty.int IntKind.i64) (Ty.pair PairT (Ty.pair Ty.bool Ty.unit)))) v0), (1, AV.clo 88 (AV.cons (AV.rptr (Ty.int IntKind.i64) v1a) AV.nil)), (7, AV.val (Ty.int IntKind.i64) v7), (8, AV.val (Ty.int IntKind.i64) v8)] []
theorem EidxF_l2 (v0 : List (Int × (Int × Int × Unit) × Bool × Unit)) (v1a : Int) (v7 : Int) (v8 : Int) : exec EidxF 1000 (.code (loopAt (bodyOf Try.prog 87) 2).1 :: .inLoop (loopAt (bodyOf Try.prog 87) 2).1 :: (loopAt (bodyOf Try.prog 87) 2).2) (EidxF_s2 v0 v1a v7 v8) =
  cond (decide (v8 < v7)) (.need ((0 : Int) ≤ v8 ∧ v8 < (↑(List.length v0) : Int)) (.need (True) (cond (openId v1a (List.getD v0 (Int.toNat v8) ((0 : Int), ((0 : Int), (0 : Int), ()), false, ()))) (.ret ((v8, ()))) (.need (inK IntKind.i64 (v8 + (1 : Int))) (.cut (loopAt (bodyOf Try.prog 87) 2).1 (loopAt (bodyOf Try.prog 87) 2).2 (St.mk [(0, AV.val (Ty.slc false (Ty.pair (Ty.int IntKind.i64) (Ty.pair PairT (Ty.pair Ty.bool Ty.unit)))) v0), (1, AV.clo 88 (AV.cons (AV.rptr (Ty.int IntKind.i64) v1a) AV.nil)), (7, AV.val (Ty.int IntKind.i64) v7), (8, AV.val (Ty.int IntKind.i64) (v8 + (1 : Int)))] [])))))) (.ret (((-1 : Int), ()))) := by kernel_rfl
theorem cidxF_valid : cidxF.Valid Try.prog 87 := by
  refine Ctr.valid_of EidxF_ok rfl rfl Try.func87 (c := bodyOf Try.prog 87) rfl rfl FidxF_ok rfl ?_
  rintro ⟨(l : List (WaitD)), ⟨(j : Int), ⟨⟩⟩, ⟨⟩⟩ - ⟨⟨hl, -⟩, -⟩
  have hl : l.length ≤ 9223372036854775807 := hl
  refine exec_sound (n := 1000) EidxF_ok FidxF_ok ?_
  refine holds_of_eq (EidxF_t l j) ?_
  refine Reach.loopI EidxF_ok FidxF_ok (fun i : Nat => EidxF_s2 l j (l.length : Int) (i : Int)) (fun i => i ≤ l.length ∧ idxOf (openId j) l = idxGo (openId j) (l.drop i) i)
    (fun i => l.length - i) 1000 (fun _ => ⟨uniq_of rfl, uniq_of rfl⟩) ?_ 0 ⟨by omega, rfl⟩
  rintro i ⟨k1, k2⟩ - ih
  refine holds_of_eq (EidxF_l2 ..) ?_
  simp only [holds_cond, Tree.holds, true_and, true_implies, decide_eq_true_eq, decide_eq_false_iff_not, Bool.not_eq_true', Bool.not_eq_false', Int.toNat_natCast, inK_i64, List.length_set, List.length_cons, List.length_nil]
  refine ⟨fun h => ?_, fun h => ?_⟩
  · rw [drop_getD (show i < l.length by omega) ((0, (0, 0, ()), false, ())), idxGo] at k2
    refine ⟨by omega, fun _ => ⟨fun c => ?_, fun c => ⟨by omega, fun _ => ih (i + 1) ⟨by omega, ?_⟩ (by omega)⟩⟩⟩
    · show (((i : Int), ()) : Int × Unit) = (idxOf (openId j) l, ())
      rw [k2, if_pos (show (openId j) (l.getD i ((0, (0, 0, ()), false, ()))) = true from c)]
    · rw [k2, if_neg (show ¬ (openId j) (l.getD i ((0, (0, 0, ()), false, ()))) = true from fun h9 => Bool.noConfusion (Eq.trans (Eq.symm h9) c))]
  · rw [List.drop_eq_nil_of_le (by omega)] at k2
    show (((-1 : Int), ()) : Int × Unit) = (idxOf (openId j) l, ())
    rw [k2]; rfl
def cidxT : Ctr := { ps := [.v (.slc false Wait), .clo 90 [I64, Num]], rs := [I64], pre := fun x => True, fn := fun x => (idxOf (taken x.2.1.1 x.2.1.2.1) x.1, ()), out := fun _ => () }
noncomputable def EidxT : Env := { P := Try.prog, tt := tt, ctr := [(90, cfix2)], res := [Go.ResultVar.tmp 4], rs := [Ty.int IntKind.i64], ps := [PK.v (Ty.slc false (Ty.pair (Ty.int IntKind.i64) (Ty.pair PairT (Ty.pair Ty.bool Ty.unit)))), PK.clo 90 [Ty.int IntKind.i64, Ty.pair (Ty.int IntKind.i64) (Ty.pair (Ty.int IntKind.i64) Ty.unit)]], cuts := [(2, [(0, none), (1, none), (7, none), (8, none)])], nt := 19 }
theorem EidxT_ok : EnvOk EidxT := envOk tt_ok ⟨cfix2_valid, trivial⟩
theorem FidxT_ok : FnOk EidxT Try.f87 := ⟨rfl, rfl⟩
theorem EidxT_t (x0 : List (Int × (Int × Int × Unit) × Bool × Unit)) (x1c0 : Int) (x1c1_1 : Int) (x1c1_2_1 : Int) : exec EidxT 1000 [.code (bodyOf Try.prog 87)] (initSt cidxT.ps ((x0, (x1c0, (x1c1_1, x1c1_2_1, ()), ()), ()))) =
  .cut (loopAt (bodyOf Try.prog 87) 2).1 (loopAt (bodyOf Try.prog 87) 2).2 (St.mk [(0, AV.val (Ty.slc false (Ty.pair (Ty.int IntKind.i64) (Ty.pair PairT (Ty.pair Ty.bool Ty.unit)))) x0), (1, AV.clo 90 (AV.cons (AV.rptr (Ty.int IntKind.i64) x1c0) (AV.cons (AV.rptr PairT (x1c1_1, x1c1_2_1, ())) AV.nil))), (7, AV.val (Ty.int IntKind.i64) (↑(List.length x0) : Int)), (8, AV.val (Ty.int IntKind.i64) (0 : Int))] []) := by kernel_rfl
def EidxT_s2 (v0 : List (Int × (Int × Int × Unit) × Bool × Unit)) (v1a : Int) (v1ba_1 : Int) (v1ba_2_1 : Int) (v7 : Int) (v8 : Int) : St := St.mk [(0, AV.val (Ty.slc false (Ty.pair (Ty.int IntKind.i64) (Ty.pair PairT (Ty.pair Ty.bool Ty.unit)))) v0), (1, AV.clo 90 (AV.cons (AV.rptr (Ty.int IntKind.i64) v1a) (AV.cons (AV.rptr PairT (v1ba_1, v1ba_2_1, ())) AV.nil))), (7, AV.val (Ty.int IntKind.i64) v7), (8, AV.val (Ty.int IntKind.i64) v8)] []
theorem EidxT_l2 (v0 : List (Int × (Int × Int × Unit) × Bool × Unit)) (v1a : Int) (v1ba_1 : Int) (v1ba_2_1 : Int) (v7 : Int) (v8 : Int) : exec EidxT 1000 (.code (loopAt (bodyOf Try.prog 87) 2).1 :: .inLoop (loopAt (bodyOf Try.prog 87) 2).1 :: (loopAt (bodyOf Try.prog 87) 2).2) (EidxT_s2 v0 v1a v1ba_1 v1ba_2_1 v7 v8) =
  cond (decide (v8 < v7)) (.need ((0 : Int) ≤ v8 ∧ v8 < (↑(List.length v0) : Int)) (.need (True) (cond (taken v1a (v1ba_1, v1ba_2_1, ()) (List.getD v0 (Int.toNat v8) ((0 : Int), ((0 : Int), (0 : Int), ()), false, ()))) (.ret ((v8, ()))) (.need (inK IntKind.i64 (v8 + (1 : Int))) (.cut (loopAt (bodyOf Try.prog 87) 2).1 (loopAt (bodyOf Try.prog 87) 2).2 (St.mk [(0, AV.val (Ty.slc false (Ty.pair (Ty.int IntKind.i64) (Ty.pair PairT (Ty.pair Ty.bool Ty.unit)))) v0), (1, AV.clo 90 (AV.cons (AV.rptr (Ty.int IntKind.i64) v1a) (AV.cons (AV.rptr PairT (v1ba_1, v1ba_2_1, ())) AV.nil))), (7, AV.val (Ty.int IntKind.i64) v7), (8, AV.val (Ty.int IntKind.i64) (v8 + (1 : Int)))] [])))))) (.ret (((-1 : Int), ()))) := by kernel_rfl
theorem cidxT_valid : cidxT.Valid Try.prog 87 := by
  refine Ctr.valid_of EidxT_ok rfl rfl Try.func87 (c := bodyOf Try.prog 87) rfl rfl FidxT_ok rfl ?_
  rintro ⟨(l : List (WaitD)), ⟨(j : Int), ⟨(m1 : Int), (m2 : Int), ⟨⟩⟩, ⟨⟩⟩, ⟨⟩⟩ - ⟨⟨hl, -⟩, -⟩
  have hl : l.length ≤ 9223372036854775807 := hl
  refine exec_sound (n := 1000) EidxT_ok FidxT_ok ?_
  refine holds_of_eq (EidxT_t l j m1 m2) ?_
  refine Reach.loopI EidxT_ok FidxT_ok (fun i : Nat => EidxT_s2 l j m1 m2 (l.length : Int) (i : Int)) (fun i => i ≤ l.length ∧ idxOf (taken j (m1, m2, ())) l = idxGo (taken j (m1, m2, ())) (l.drop i) i)
    (fun i => l.length - i) 1000 (fun _ => ⟨uniq_of rfl, uniq_of rfl⟩) ?_ 0 ⟨by omega, rfl⟩
  rintro i ⟨k1, k2⟩ - ih
  refine holds_of_eq (EidxT_l2 ..) ?_
  simp only [holds_cond, Tree.holds, true_and, true_implies, decide_eq_true_eq, decide_eq_false_iff_not, Bool.not_eq_true', Bool.not_eq_false', Int.toNat_natCast, inK_i64, List.length_set, List.length_cons, List.length_nil]
  refine ⟨fun h => ?_, fun h => ?_⟩
  · rw [drop_getD (show i < l.length by omega) ((0, (0, 0, ()), false, ())), idxGo] at k2
    refine ⟨by omega, fun _ => ⟨fun c => ?_, fun c => ⟨by omega, fun _ => ih (i + 1) ⟨by omega, ?_⟩ (by omega)⟩⟩⟩
    · show (((i : Int), ()) : Int × Unit) = (idxOf (taken j (m1, m2, ())) l, ())
      rw [k2, if_pos (show (taken j (m1, m2, ())) (l.getD i ((0, (0, 0, ()), false, ()))) = true from c)]
    · rw [k2, if_neg (show ¬ (taken j (m1, m2, ())) (l.getD i ((0, (0, 0, ()), false, ()))) = true from fun h9 => Bool.noConfusion (Eq.trans (Eq.symm h9) c))]
  · rw [List.drop_eq_nil_of_le (by omega)] at k2
    show (((-1 : Int), ()) : Int × Unit) = (idxOf (taken j (m1, m2, ())) l, ())
    rw [k2]; rfl
def cconT : Ctr := { ps := [.v (.slc false Wait), .clo 90 [I64, Num]], rs := [.bool], pre := fun x => True, fn := fun x => (List.any (α := WaitD) x.1 (taken x.2.1.1 x.2.1.2.1), ()), out := fun _ => () }
noncomputable def EconT : Env := { P := Try.prog, tt := tt, ctr := [(87, cidxT)], res := [Go.ResultVar.tmp 4], rs := [Ty.bool], ps := [PK.v (Ty.slc false (Ty.pair (Ty.int IntKind.i64) (Ty.pair PairT (Ty.pair Ty.bool Ty.unit)))), PK.clo 90 [Ty.int IntKind.i64, Ty.pair (Ty.int IntKind.i64) (Ty.pair (Ty.int IntKind.i64) Ty.unit)]], cuts := [], nt := 9 }
theorem EconT_ok : EnvOk EconT := envOk tt_ok ⟨cidxT_valid, trivial⟩
theorem FconT_ok : FnOk EconT Try.f33 := ⟨rfl, rfl⟩
theorem EconT_t (x0 : List (Int × (Int × Int × Unit) × Bool × Unit)) (x1c0 : Int) (x1c1_1 : Int) (x1c1_2_1 : Int) : exec EconT 1000 [.code (bodyOf Try.prog 33)] (initSt cconT.ps ((x0, (x1c0, (x1c1_1, x1c1_2_1, ()), ()), ()))) =
  .need (True) (.ret ((decide ((0 : Int) ≤ idxOf (taken x1c0 (x1c1_1, x1c1_2_1, ())) x0), ()))) := by kernel_rfl
theorem cconT_valid : cconT.Valid Try.prog 33 := by
  refine Ctr.valid_of EconT_ok rfl rfl Try.func33 (c := bodyOf Try.prog 33) rfl rfl FconT_ok rfl ?_
  rintro ⟨(l : List (WaitD)), ⟨(j : Int), ⟨(m1 : Int), (m2 : Int), ⟨⟩⟩, ⟨⟩⟩, ⟨⟩⟩ - -
  refine exec_sound (n := 1000) EconT_ok FconT_ok ?_
  refine holds_of_eq (EconT_t l j m1 m2) ?_
  refine ⟨trivial, fun _ => ?_⟩
  show ((decide (0 ≤ idxOf (taken j (m1, m2, ())) l), ()) : Bool × Unit) = (l.any (taken j (m1, m2, ())), ())
  rw [idx_any]
theorem wbclW : Ty.wb Wait = 32 := rfl
def cclW : Ctr := { ps := [.v (.slc false Wait)], rs := [.slc true Wait], pre := fun x => List.length (α := WaitD) x.1 ≤ 1048576, fn := fun x => x, out := fun _ => () }
noncomputable def EclW : Env := { P := Try.prog, tt := tt, ctr := [], res := [Go.ResultVar.tmp 2], rs := [Ty.slc true (Ty.pair (Ty.int IntKind.i64) (Ty.pair PairT (Ty.pair Ty.bool Ty.unit)))], ps := [PK.v (Ty.slc false (Ty.pair (Ty.int IntKind.i64) (Ty.pair PairT (Ty.pair Ty.bool Ty.unit))))], cuts := [], nt := 8 }
theorem EclW_ok : EnvOk EclW := envOk tt_ok trivial
theorem FclW_ok : FnOk EclW Try.f84 := ⟨rfl, rfl⟩
theorem EclW_t (x0 : List (Int × (Int × Int × Unit) × Bool × Unit)) : exec EclW 1000 [.code (bodyOf Try.prog 84)] (initSt cclW.ps ((x0, ()))) =
  .both (x0 = []) (.ret (([], ()))) (.need ((0 : Nat) + List.length x0 ≤ 140737488355328 ∧ ((0 : Nat) + List.length x0) * Ty.wb (Ty.pair (Ty.int IntKind.i64) (Ty.pair PairT (Ty.pair Ty.bool Ty.unit))) ≤ 140737488355328) (.ret (([] ++ x0, ())))) := by kernel_rfl
theorem cclW_valid : cclW.Valid Try.prog 84 := by
  refine Ctr.valid_of EclW_ok rfl rfl Try.func84 (c := bodyOf Try.prog 84) rfl rfl FclW_ok rfl ?_
  rintro ⟨(l : List (WaitD)), ⟨⟩⟩ hp -
  have hp : l.length ≤ 1048576 := hp
  refine exec_sound (n := 1000) EclW_ok FclW_ok ?_
  refine holds_of_eq (EclW_t l) ?_
  simp only [holds_cond, Tree.holds, true_and, true_implies, decide_eq_true_eq, decide_eq_false_iff_not, Bool.not_eq_true', Bool.not_eq_false', Int.toNat_natCast, inK_i64, List.length_set, List.length_cons, List.length_nil, wbclW]
  refine ⟨fun h => ?_, by omega, fun _ => rfl⟩
  show (([], ()) : List (WaitD) × Unit) = (l, ())
  rw [show l = [] from h]
end Go.Proofs.Ytdhdpklmipkneaa
