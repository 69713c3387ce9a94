/- The contracts of the package wire's functions. -/
import Derived.Test.YtcafiieffenohaaSum
import Derived.Test.YtcafiieffenohaaLat
namespace Go.Proofs.Ytcafiieffenohaa
open Go.Ex
set_option maxRecDepth 100000
abbrev NoteD := Int × Int × Int × Int × Int × List Int × List UInt8 × Unit
def inB (n a b : Int) : Bool := decide (a ≤ n) && decide (n ≤ b)
theorem inB_iff {n a b : Int} : inB n a b = true ↔ a ≤ n ∧ n ≤ b := by simp [inB]
def cinB : Ctr := { ps := [.v I64, .v I64, .v I64], rs := [.bool], pre := fun _ => True, fn := fun x => (inB x.1 x.2.1 x.2.2.1, ()), out := fun _ => () }
noncomputable def EinB : Env := { P := Try.prog, tt := tt, ctr := [], res := [Go.ResultVar.tmp 6], rs := [Ty.bool], ps := [PK.v (Ty.int IntKind.i64), PK.v (Ty.int IntKind.i64), PK.v (Ty.int IntKind.i64)], cuts := [], nt := 15 }
theorem EinB_ok : EnvOk EinB := envOk tt_ok trivial
theorem FinB_ok : FnOk EinB Try.f80 := ⟨rfl, rfl⟩
theorem EinB_t (x0 : Int) (x1 : Int) (x2 : Int) : exec EinB 1000 [.code (bodyOf Try.prog 80)] (initSt cinB.ps ((x0, x1, x2, ()))) =
  cond (decide (x1 ≤ x0)) (.ret ((decide (x0 ≤ x2), ()))) (.ret ((false, ()))) := by kernel_rfl
theorem cinB_valid : cinB.Valid Try.prog 80 := by
  refine Ctr.valid_of EinB_ok rfl rfl Try.func80 (c := bodyOf Try.prog 80) rfl rfl FinB_ok rfl ?_
  rintro ⟨(n : Int), (a : Int), (b : Int), ⟨⟩⟩ - -
  refine exec_sound (n := 1000) EinB_ok FinB_ok ?_
  refine holds_of_eq (EinB_t n a b) ?_
  simp only [holds_cond, Tree.holds, true_and, true_implies, decide_eq_true_eq, decide_eq_false_iff_not, Bool.not_eq_true', Bool.not_eq_false', Int.toNat_natCast, inK_i64, List.length_set, List.length_cons, List.length_nil]
  refine ⟨fun c => ?_, fun c => ?_⟩
  · show ((decide _, ()) : Bool × Unit) = (inB n a b, ()); rw [inB, decide_eq_true c, Bool.true_and]
  · show ((false, ()) : Bool × Unit) = (inB n a b, ()); rw [inB, decide_eq_false c, Bool.false_and]
def cnum : Ctr := { ps := [.v I64], rs := [.bool], pre := fun _ => True, fn := fun x => (inB x.1 0 16777215, ()), out := fun _ => () }
noncomputable def Enum : Env := { P := Try.prog, tt := tt, ctr := [(80, cinB)], res := [Go.ResultVar.tmp 2], rs := [Ty.bool], ps := [PK.v (Ty.int IntKind.i64)], cuts := [], nt := 5 }
theorem Enum_ok : EnvOk Enum := envOk tt_ok ⟨cinB_valid, trivial⟩
theorem Fnum_ok : FnOk Enum Try.f79 := ⟨rfl, rfl⟩
theorem Enum_t (x0 : Int) : exec Enum 1000 [.code (bodyOf Try.prog 79)] (initSt cnum.ps ((x0, ()))) =
  .need (True) (.ret ((inB x0 (0 : Int) (16777215 : Int), ()))) := by kernel_rfl
theorem cnum_valid : cnum.Valid Try.prog 79 := by
  refine Ctr.valid_of Enum_ok rfl rfl Try.func79 (c := bodyOf Try.prog 79) rfl rfl Fnum_ok rfl ?_
  rintro ⟨(n : Int), ⟨⟩⟩ - -
  refine exec_sound (n := 1000) Enum_ok Fnum_ok ?_
  refine holds_of_eq (Enum_t n) ?_
  exact ⟨trivial, fun _ => rfl⟩
def notNum (n : Int) : Bool := !inB n 0 16777215
def cnotNum : Ctr := { ps := [.v I64, .rd (.fn 79)], rs := [.bool], pre := fun x => Eq (α := Bool) x.2.1 true, fn := fun x => (notNum x.1, ()), out := fun _ => () }
noncomputable def EnotNum : Env := { P := Try.prog, tt := tt, ctr := [(79, cnum)], res := [Go.ResultVar.tmp 3], rs := [Ty.bool], ps := [PK.v (Ty.int IntKind.i64), PK.rd (Ty.fn 79)], cuts := [], nt := 8 }
theorem EnotNum_ok : EnvOk EnotNum := envOk tt_ok ⟨cnum_valid, trivial⟩
theorem FnotNum_ok : FnOk EnotNum Try.f81 := ⟨rfl, rfl⟩
theorem EnotNum_t (x0 : Int) (x1 : Bool) : exec EnotNum 1000 [.code (bodyOf Try.prog 81)] (initSt cnotNum.ps ((x0, x1, ()))) =
  .need (x1 = true ∧ True) (.ret ((!inB x0 (0 : Int) (16777215 : Int), ()))) := by kernel_rfl
theorem cnotNum_valid : cnotNum.Valid Try.prog 81 := by
  refine Ctr.valid_of EnotNum_ok rfl rfl Try.func81 (c := bodyOf Try.prog 81) rfl rfl FnotNum_ok rfl ?_
  rintro ⟨(n : Int), (b : Bool), ⟨⟩⟩ (hp : b = true) -
  refine exec_sound (n := 1000) EnotNum_ok FnotNum_ok ?_
  refine holds_of_eq (EnotNum_t n b) ?_
  exact ⟨⟨hp, trivial⟩, fun _ => rfl⟩
def cidxN : Ctr := { ps := [.v (.slc false I64), .clo 81 [.fn 79]], rs := [I64], pre := fun x => Eq (α := Bool) x.2.1.1 true, fn := fun x => (idxOf (notNum) x.1, ()), out := fun _ => () }
noncomputable def EidxN : Env := { P := Try.prog, tt := tt, ctr := [(81, cnotNum)], res := [Go.ResultVar.tmp 4], rs := [Ty.int IntKind.i64], ps := [PK.v (Ty.slc false (Ty.int IntKind.i64)), PK.clo 81 [Ty.fn 79]], cuts := [(2, [(0, none), (1, none), (7, none), (8, none)])], nt := 19 }
theorem EidxN_ok : EnvOk EidxN := envOk tt_ok ⟨cnotNum_valid, trivial⟩
theorem FidxN_ok : FnOk EidxN Try.f82 := ⟨rfl, rfl⟩
theorem EidxN_t (x0 : List Int) (x1c0 : Bool) : exec EidxN 1000 [.code (bodyOf Try.prog 82)] (initSt cidxN.ps ((x0, (x1c0, ()), ()))) =
  .cut (loopAt (bodyOf Try.prog 82) 2).1 (loopAt (bodyOf Try.prog 82) 2).2 (St.mk [(0, AV.val (Ty.slc false (Ty.int IntKind.i64)) x0), (1, AV.clo 81 (AV.cons (AV.rptr (Ty.fn 79) x1c0) AV.nil)), (7, AV.val (Ty.int IntKind.i64) (↑(List.length x0) : Int)), (8, AV.val (Ty.int IntKind.i64) (0 : Int))] []) := by kernel_rfl
def EidxN_s2 (v0 : List Int) (v1a : Bool) (v7 : Int) (v8 : Int) : St := St.mk [(0, AV.val (Ty.slc false (Ty.int IntKind.i64)) v0), (1, AV.clo 81 (AV.cons (AV.rptr (Ty.fn 79) v1a) AV.nil)), (7, AV.val (Ty.int IntKind.i64) v7), (8, AV.val (Ty.int IntKind.i64) v8)] []
theorem EidxN_l2 (v0 : List Int) (v1a : Bool) (v7 : Int) (v8 : Int) : exec EidxN 1000 (.code (loopAt (bodyOf Try.prog 82) 2).1 :: .inLoop (loopAt (bodyOf Try.prog 82) 2).1 :: (loopAt (bodyOf Try.prog 82) 2).2) (EidxN_s2 v0 v1a v7 v8) =
  cond (decide (v8 < v7)) (.need ((0 : Int) ≤ v8 ∧ v8 < (↑(List.length v0) : Int)) (.need (v1a = true) (cond (notNum (List.getD v0 (Int.toNat v8) (0 : Int))) (.ret ((v8, ()))) (.need (inK IntKind.i64 (v8 + (1 : Int))) (.cut (loopAt (bodyOf Try.prog 82) 2).1 (loopAt (bodyOf Try.prog 82) 2).2 (St.mk [(0, AV.val (Ty.slc false (Ty.int IntKind.i64)) v0), (1, AV.clo 81 (AV.cons (AV.rptr (Ty.fn 79) v1a) AV.nil)), (7, AV.val (Ty.int IntKind.i64) v7), (8, AV.val (Ty.int IntKind.i64) (v8 + (1 : Int)))] [])))))) (.ret (((-1 : Int), ()))) := by kernel_rfl
theorem cidxN_valid : cidxN.Valid Try.prog 82 := by
  refine Ctr.valid_of EidxN_ok rfl rfl Try.func82 (c := bodyOf Try.prog 82) rfl rfl FidxN_ok rfl ?_
  rintro ⟨(l : List (Int)), ⟨(b : Bool), ⟨⟩⟩, ⟨⟩⟩ hp ⟨⟨hl, -⟩, -⟩
  have hl : l.length ≤ 9223372036854775807 := hl
  have hp : b = true := hp
  refine exec_sound (n := 1000) EidxN_ok FidxN_ok ?_
  refine holds_of_eq (EidxN_t l b) ?_
  refine Reach.loopI EidxN_ok FidxN_ok (fun i : Nat => EidxN_s2 l b (l.length : Int) (i : Int)) (fun i => i ≤ l.length ∧ idxOf (notNum) l = idxGo (notNum) (l.drop i) i)
    (fun i => l.length - i) 1000 (fun _ => ⟨uniq_of rfl, uniq_of rfl⟩) ?_ 0 ⟨by omega, rfl⟩
  rintro i ⟨k1, k2⟩ - ih
  refine holds_of_eq (EidxN_l2 ..) ?_
  simp only [holds_cond, Tree.holds, true_and, true_implies, decide_eq_true_eq, decide_eq_false_iff_not, Bool.not_eq_true', Bool.not_eq_false', Int.toNat_natCast, inK_i64, List.length_set, List.length_cons, List.length_nil]
  refine ⟨fun h => ?_, fun h => ?_⟩
  · rw [drop_getD (show i < l.length by omega) 0, idxGo] at k2
    refine ⟨by omega, fun _ => ⟨hp, fun _ => ⟨fun c => ?_, fun c => ⟨by omega, fun _ => ih (i + 1) ⟨by omega, ?_⟩ (by omega)⟩⟩⟩⟩
    · show (((i : Int), ()) : Int × Unit) = (idxOf (notNum) l, ())
      rw [k2, if_pos c]
    · rw [k2, if_neg (fun h9 => Bool.noConfusion (Eq.trans (Eq.symm h9) c))]
  · rw [List.drop_eq_nil_of_le (by omega)] at k2
    show (((-1 : Int), ()) : Int × Unit) = (idxOf (notNum) l, ())
    rw [k2]; rfl
def ccontN : Ctr := { ps := [.v (.slc false I64), .clo 81 [.fn 79]], rs := [.bool], pre := fun x => Eq (α := Bool) x.2.1.1 true, fn := fun x => (List.any (α := Int) x.1 (notNum), ()), out := fun _ => () }
noncomputable def EcontN : Env := { P := Try.prog, tt := tt, ctr := [(82, cidxN)], res := [Go.ResultVar.tmp 4], rs := [Ty.bool], ps := [PK.v (Ty.slc false (Ty.int IntKind.i64)), PK.clo 81 [Ty.fn 79]], cuts := [], nt := 9 }
theorem EcontN_ok : EnvOk EcontN := envOk tt_ok ⟨cidxN_valid, trivial⟩
theorem FcontN_ok : FnOk EcontN Try.f60 := ⟨rfl, rfl⟩
theorem EcontN_t (x0 : List Int) (x1c0 : Bool) : exec EcontN 1000 [.code (bodyOf Try.prog 60)] (initSt ccontN.ps ((x0, (x1c0, ()), ()))) =
  .need (x1c0 = true) (.ret ((decide ((0 : Int) ≤ idxOf notNum x0), ()))) := by kernel_rfl
theorem ccontN_valid : ccontN.Valid Try.prog 60 := by
  refine Ctr.valid_of EcontN_ok rfl rfl Try.func60 (c := bodyOf Try.prog 60) rfl rfl FcontN_ok rfl ?_
  rintro ⟨(l : List (Int)), ⟨(b : Bool), ⟨⟩⟩, ⟨⟩⟩ hp -
  refine exec_sound (n := 1000) EcontN_ok FcontN_ok ?_
  refine holds_of_eq (EcontN_t l b) ?_
  refine ⟨hp, fun _ => ?_⟩
  show ((decide (0 ≤ idxOf (notNum) l), ()) : Bool × Unit) = (l.any (notNum), ())
  rw [idx_any]
def wfirst (n : NoteD) : Bool := inB n.1 0 255 && inB n.2.1 0 5 && inB n.2.2.1 0 5 && inB n.2.2.2.1 0 16777215 && inB n.2.2.2.2.1 0 16777215
def wcheck (n : NoteD) : Int :=
  if wfirst n = false then 1 else if n.2.2.2.2.2.1.any notNum = true then 1 else if 200 < n.2.2.2.2.2.2.1.length then 2 else 0
def cwcheck : Ctr := { ps := [.v Note], rs := [I64], pre := fun _ => True, fn := fun x => (wcheck x.1, ()), out := fun _ => () }
noncomputable def Ewcheck : Env := { P := Try.prog, tt := tt, ctr := [(80, cinB), (79, cnum), (60, ccontN)], res := [Go.ResultVar.tmp 2], rs := [Ty.int IntKind.i64], ps := [PK.v (Ty.pair (Ty.int IntKind.i64) (Ty.pair (Ty.int IntKind.i64) (Ty.pair (Ty.int IntKind.i64) (Ty.pair (Ty.int IntKind.i64) (Ty.pair (Ty.int IntKind.i64) (Ty.pair Vec (Ty.pair Ty.str Ty.unit)))))))], cuts := [], nt := 45 }
theorem Ewcheck_ok : EnvOk Ewcheck := envOk tt_ok ⟨cinB_valid, cnum_valid, ccontN_valid, trivial⟩
theorem Fwcheck_ok : FnOk Ewcheck Try.f55 := ⟨rfl, rfl⟩
theorem Ewcheck_t (x0_1 : Int) (x0_2_1 : Int) (x0_2_2_1 : Int) (x0_2_2_2_1 : Int) (x0_2_2_2_2_1 : Int) (x0_2_2_2_2_2_1 : List Int) (x0_2_2_2_2_2_2_1 : List UInt8) : exec Ewcheck 1000 [.code (bodyOf Try.prog 55)] (initSt cwcheck.ps (((x0_1, x0_2_1, x0_2_2_1, x0_2_2_2_1, x0_2_2_2_2_1, x0_2_2_2_2_2_1, x0_2_2_2_2_2_2_1, ()), ()))) =
  .need (True) (cond (!inB x0_1 (0 : Int) (255 : Int)) (.ret (((1 : Int), ()))) (.need (True) (cond (!inB x0_2_1 (0 : Int) (5 : Int)) (.ret (((1 : Int), ()))) (.need (True) (cond (!inB x0_2_2_1 (0 : Int) (5 : Int)) (.ret (((1 : Int), ()))) (.need (true = true ∧ True) (cond (!inB x0_2_2_2_1 (0 : Int) (16777215 : Int)) (.ret (((1 : Int), ()))) (.need (true = true ∧ True) (cond (!inB x0_2_2_2_2_1 (0 : Int) (16777215 : Int)) (.ret (((1 : Int), ()))) (.need ((0 : Int) ≤ (0 : Int) ∧ (0 : Int) ≤ (↑6 : Int) ∧ (↑6 : Int) ≤ (↑6 : Int)) (.need (true = true) (cond (List.any (cut2 (0 : Int) (↑6 : Int) x0_2_2_2_2_2_1) notNum) (.ret (((1 : Int), ()))) (cond (decide ((200 : Int) < (↑(List.length x0_2_2_2_2_2_2_1) : Int))) (.ret (((2 : Int), ()))) (.ret (((0 : Int), ())))))))))))))))) := by kernel_rfl
theorem cut_all {α : Type} {l : List α} {n : Nat} (h : l.length = n) : cut2 0 (n : Int) l = l := by subst h; simp [cut2]
theorem cwcheck_valid : cwcheck.Valid Try.prog 55 := by
  refine Ctr.valid_of Ewcheck_ok rfl rfl Try.func55 (c := bodyOf Try.prog 55) rfl rfl Fwcheck_ok rfl ?_
  rintro ⟨⟨(a : Int), (b : Int), (c : Int), (d : Int), (e : Int), (v : List Int), (t : List UInt8), ⟨⟩⟩, ⟨⟩⟩ - ⟨⟨-, -, -, -, -, ⟨hv, -⟩, -⟩, -⟩
  have hv : v.length = 6 := hv
  refine exec_sound (n := 1000) Ewcheck_ok Fwcheck_ok ?_
  refine holds_of_eq (Ewcheck_t a b c d e v t) ?_
  have hc : cut2 0 6 v = v := cut_all hv
  have bad : wfirst (a, b, c, d, e, v, t, ()) = false → (((1 : Int), ()) : Int × Unit) = (wcheck (a, b, c, d, e, v, t, ()), ()) := fun h => by rw [wcheck, if_pos h]
  simp only [holds_cond, Tree.holds, true_and, true_implies, decide_eq_true_eq, decide_eq_false_iff_not, Bool.not_eq_true', Bool.not_eq_false', Int.toNat_natCast, inK_i64, List.length_set, List.length_cons, List.length_nil, hc]
  refine ⟨fun h => bad (by simp [wfirst, h]), fun h1 => ⟨fun h => bad (by simp [wfirst, h]), fun h2 => ⟨fun h => bad (by simp [wfirst, h]), fun h3 => ⟨fun h => bad (by simp [wfirst, h]), fun h4 => ⟨fun h => bad (by simp [wfirst, h]), fun h5 => ⟨by omega, fun _ => ⟨fun h => ?_, fun h6 => ⟨fun h => ?_, fun h => ?_⟩⟩⟩⟩⟩⟩⟩⟩
  all_goals have hw : wfirst (a, b, c, d, e, v, t, ()) ≠ false := by simp [wfirst, h1, h2, h3, h4, h5]
  · show (((1 : Int), ()) : Int × Unit) = (wcheck (a, b, c, d, e, v, t, ()), ())
    rw [wcheck, if_neg hw, if_pos h]
  · show (((2 : Int), ()) : Int × Unit) = (wcheck (a, b, c, d, e, v, t, ()), ())
    rw [wcheck, if_neg hw, if_neg (fun h9 => Bool.noConfusion (Eq.trans (Eq.symm h9) h6)), if_pos (by show 200 < t.length; omega)]
  · show (((0 : Int), ()) : Int × Unit) = (wcheck (a, b, c, d, e, v, t, ()), ())
    rw [wcheck, if_neg hw, if_neg (fun h9 => Bool.noConfusion (Eq.trans (Eq.symm h9) h6)), if_neg (by show ¬ 200 < t.length; omega)]
/-- what is in a note that is right -/
structure NoteOk (n : NoteD) : Prop where
  kind : 0 ≤ n.1 ∧ n.1 ≤ 255
  from_ : 0 ≤ n.2.1 ∧ n.2.1 ≤ 5
  to : 0 ≤ n.2.2.1 ∧ n.2.2.1 ≤ 5
  view : 0 ≤ n.2.2.2.1 ∧ n.2.2.2.1 ≤ 16777215
  seq : 0 ≤ n.2.2.2.2.1 ∧ n.2.2.2.2.1 ≤ 16777215
  at_ : ∀ x ∈ n.2.2.2.2.2.1, 0 ≤ x ∧ x ≤ 16777215
  text : n.2.2.2.2.2.2.1.length ≤ 200
theorem wcheck_ok {n : NoteD} (h : wcheck n = 0) : NoteOk n := by
  unfold wcheck at h
  split at h
  · cases h
  split at h
  · cases h
  split at h
  · cases h
  · rename_i h1 h2 h3
    have h1 : wfirst n = true := by cases e : wfirst n with | true => rfl | false => exact absurd e h1
    simp only [wfirst, Bool.and_eq_true, inB_iff] at h1
    obtain ⟨⟨⟨⟨a, b⟩, c⟩, d⟩, e⟩ := h1
    refine ⟨a, b, c, d, e, fun x hx => ?_, by omega⟩
    have h2 : n.2.2.2.2.2.1.any notNum = false := by cases e : n.2.2.2.2.2.1.any notNum with | false => rfl | true => exact absurd e h2
    have := List.any_eq_false.1 h2 x hx
    rw [notNum, Bool.not_eq_true, Bool.not_eq_false'] at this
    exact inB_iff.1 this
def threeI (n : Int) : List Int := [IntKind.wrap .u8 n, IntKind.wrap .u8 (n / 256), IntKind.wrap .u8 (n / 65536)]
def cthree : Ctr := { ps := [.v I64], rs := [.slc true (.int .u8)], pre := fun _ => True, fn := fun x => (threeI x.1, ()), out := fun _ => () }
noncomputable def Ethree : Env := { P := Try.prog, tt := tt, ctr := [], res := [Go.ResultVar.tmp 2], rs := [Ty.slc true (Ty.int IntKind.u8)], ps := [PK.v (Ty.int IntKind.i64)], cuts := [], nt := 12 }
theorem Ethree_ok : EnvOk Ethree := envOk tt_ok trivial
theorem Fthree_ok : FnOk Ethree Try.f56 := ⟨rfl, rfl⟩
theorem Ethree_t (x0 : Int) : exec Ethree 1000 [.code (bodyOf Try.prog 56)] (initSt cthree.ps ((x0, ()))) =
  .need ((0 : Int) ≤ (8 : Int)) (.need ((0 : Int) ≤ (16 : Int)) (.ret ((List.set (List.set (List.set [(0 : Int), (0 : Int), (0 : Int)] (Int.toNat (↑0 : Int)) (IntKind.wrap IntKind.u8 x0)) (Int.toNat (↑1 : Int)) (IntKind.wrap IntKind.u8 (x0 / (2 : Int) ^ min (Int.toNat (8 : Int)) (IntKind.bits IntKind.i64)))) (Int.toNat (↑2 : Int)) (IntKind.wrap IntKind.u8 (x0 / (2 : Int) ^ min (Int.toNat (16 : Int)) (IntKind.bits IntKind.i64))), ())))) := by kernel_rfl
theorem cthree_valid : cthree.Valid Try.prog 56 := by
  refine Ctr.valid_of Ethree_ok rfl rfl Try.func56 (c := bodyOf Try.prog 56) rfl rfl Fthree_ok rfl ?_
  rintro ⟨(n : Int), ⟨⟩⟩ - -
  refine exec_sound (n := 1000) Ethree_ok Fthree_ok ?_
  refine holds_of_eq (Ethree_t n) ?_
  exact ⟨Int.le.intro 8 rfl, fun _ => ⟨Int.le.intro 16 rfl, fun _ => rfl⟩⟩
def le4I (x : Nat) : List Int := (le4 x).map (fun b => (b.toNat : Int))
theorem wrap8 (n : Int) : IntKind.wrap .u8 n = n % 256 := rfl
theorem u8_ofNat (x : Nat) : (UInt8.ofNat x).toNat = x % 256 := by simp
theorem le4I_eq (x : Nat) : le4I x = [(x : Int) % 256, (x : Int) / 256 % 256, (x : Int) / 65536 % 256, (x : Int) / 16777216 % 256] := by
  simp only [le4I, le4, List.map_cons, List.map_nil, u8_ofNat]
  simp only [List.cons.injEq, and_true]
  refine ⟨by omega, by omega, by omega, by omega⟩
theorem threeI_eq (n : Int) : threeI n = [n % 256, n / 256 % 256, n / 65536 % 256] := rfl
def cfour : Ctr := { ps := [.v (.int .u32)], rs := [.slc true (.int .u8)], pre := fun _ => True, fn := fun x => (le4I (Int.toNat x.1), ()), out := fun _ => () }
noncomputable def Efour : Env := { P := Try.prog, tt := tt, ctr := [(56, cthree)], res := [Go.ResultVar.tmp 2], rs := [Ty.slc true (Ty.int IntKind.u8)], ps := [PK.v (Ty.int IntKind.u32)], cuts := [], nt := 11 }
theorem Efour_ok : EnvOk Efour := envOk tt_ok ⟨cthree_valid, trivial⟩
theorem Ffour_ok : FnOk Efour Try.f57 := ⟨rfl, rfl⟩
theorem Efour_t (x0 : Int) : exec Efour 1000 [.code (bodyOf Try.prog 57)] (initSt cfour.ps ((x0, ()))) =
  .need (True) (.need ((0 : Int) ≤ (24 : Int)) (.need (List.length (threeI (IntKind.wrap IntKind.i64 x0)) + List.length (List.set [(0 : Int)] (Int.toNat (↑0 : Int)) (IntKind.wrap IntKind.u8 (x0 / (2 : Int) ^ min (Int.toNat (24 : Int)) (IntKind.bits IntKind.u32)))) ≤ 140737488355328 ∧ (List.length (threeI (IntKind.wrap IntKind.i64 x0)) + List.length (List.set [(0 : Int)] (Int.toNat (↑0 : Int)) (IntKind.wrap IntKind.u8 (x0 / (2 : Int) ^ min (Int.toNat (24 : Int)) (IntKind.bits IntKind.u32))))) * Ty.wb (Ty.int IntKind.u8) ≤ 140737488355328) (.ret ((threeI (IntKind.wrap IntKind.i64 x0) ++ List.set [(0 : Int)] (Int.toNat (↑0 : Int)) (IntKind.wrap IntKind.u8 (x0 / (2 : Int) ^ min (Int.toNat (24 : Int)) (IntKind.bits IntKind.u32))), ()))))) := by kernel_rfl
theorem cfour_valid : cfour.Valid Try.prog 57 := by
  refine Ctr.valid_of Efour_ok rfl rfl Try.func57 (c := bodyOf Try.prog 57) rfl rfl Ffour_ok rfl ?_
  rintro ⟨(n : Int), ⟨⟩⟩ - ⟨hr, -⟩
  have hr : 0 ≤ n ∧ n ≤ 4294967295 := inK_u32.1 hr
  refine exec_sound (n := 1000) Efour_ok Ffour_ok ?_
  refine holds_of_eq (Efour_t n) ?_
  have hw : IntKind.wrap .i64 n = n := wrap_same (inK_i64.2 ⟨by omega, by omega⟩)
  simp only [holds_cond, Tree.holds, true_and, true_implies, decide_eq_true_eq, decide_eq_false_iff_not, Bool.not_eq_true', Bool.not_eq_false', Int.toNat_natCast, inK_i64, List.length_set, List.length_cons, List.length_nil, hw, wb_u8, threeI_eq]
  refine ⟨by omega, fun _ => ⟨by omega, fun _ => ?_⟩⟩
  obtain ⟨x, rfl⟩ := Int.eq_ofNat_of_zero_le hr.1
  show (([(x : Int) % 256, (x : Int) / 256 % 256, (x : Int) / 65536 % 256, (x : Int) / 16777216 % 256], ()) : List Int × Unit) = (le4I (Int.toNat (x : Int)), ())
  rw [Int.toNat_natCast, le4I_eq]
def byteL (l : List Int) : List UInt8 := l.map (fun n => UInt8.ofNat n.toNat)
theorem byteL_back (t : List UInt8) : byteL (t.map (fun b => (b.toNat : Int))) = t := by
  rw [byteL, List.map_map]
  have : ((fun n : Int => UInt8.ofNat n.toNat) ∘ fun b : UInt8 => (b.toNat : Int)) = id := by
    funext b
    simp
  rw [this, List.map_id]
theorem byteL_app (l m : List Int) : byteL (l ++ m) = byteL l ++ byteL m := List.map_append
def headI (n : NoteD) : List Int := [IntKind.wrap .u8 n.1, IntKind.wrap .u8 n.2.1, IntKind.wrap .u8 n.2.2.1]
def numsI (n : NoteD) : List Int := n.2.2.2.1 :: n.2.2.2.2.1 :: n.2.2.2.2.2.1
def bodyI (n : NoteD) : List Int := headI n ++ (numsI n).flatMap threeI ++ n.2.2.2.2.2.2.1.map (fun b => (b.toNat : Int))
def bodyB (n : NoteD) : List UInt8 := byteL (bodyI n)
def packB (n : NoteD) : List UInt8 := bodyB n ++ le4 (crcN (bodyB n))
def packR (n : NoteD) : List UInt8 × Int × Unit := if wcheck n ≠ 0 then ([], wcheck n, ()) else (packB n, 0, ())
def cpack : Ctr := { ps := [.v Note], rs := [.str, I64], pre := fun _ => True, fn := fun x => packR x.1, out := fun _ => () }
noncomputable def Epack : Env := { P := Try.prog, tt := tt, ctr := [(55, cwcheck), (56, cthree), (57, cfour), (29, csum)], res := [Go.ResultVar.tmp 2, Go.ResultVar.tmp 3], rs := [Ty.str, Ty.int IntKind.i64], ps := [PK.v (Ty.pair (Ty.int IntKind.i64) (Ty.pair (Ty.int IntKind.i64) (Ty.pair (Ty.int IntKind.i64) (Ty.pair (Ty.int IntKind.i64) (Ty.pair (Ty.int IntKind.i64) (Ty.pair Vec (Ty.pair Ty.str Ty.unit)))))))], cuts := [(6, [(1, none), (5, some (Ty.slc true (Ty.int IntKind.u8))), (30, some Is), (31, none), (32, none)])], nt := 52 }
theorem Epack_ok : EnvOk Epack := envOk tt_ok ⟨cwcheck_valid, cthree_valid, cfour_valid, csum_valid, trivial⟩
theorem Fpack_ok : FnOk Epack Try.f27 := ⟨rfl, rfl⟩
theorem Epack_t (x0_1 : Int) (x0_2_1 : Int) (x0_2_2_1 : Int) (x0_2_2_2_1 : Int) (x0_2_2_2_2_1 : Int) (x0_2_2_2_2_2_1 : List Int) (x0_2_2_2_2_2_2_1 : List UInt8) : exec Epack 1000 [.code (bodyOf Try.prog 27)] (initSt cpack.ps (((x0_1, x0_2_1, x0_2_2_1, x0_2_2_2_1, x0_2_2_2_2_1, x0_2_2_2_2_2_1, x0_2_2_2_2_2_2_1, ()), ()))) =
  .need (True) (cond (decide (wcheck (x0_1, x0_2_1, x0_2_2_1, x0_2_2_2_1, x0_2_2_2_2_1, x0_2_2_2_2_2_1, x0_2_2_2_2_2_2_1, ()) ≠ (0 : Int))) (.ret ((Array.toList (ByteArray.data (ByteArray.mk #[])), wcheck (x0_1, x0_2_1, x0_2_2_1, x0_2_2_2_1, x0_2_2_2_2_1, x0_2_2_2_2_2_1, x0_2_2_2_2_2_2_1, ()), ()))) (.need ((0 : Int) ≤ (0 : Int) ∧ (0 : Int) ≤ (↑6 : Int) ∧ (↑6 : Int) ≤ (↑6 : Int)) (.need (List.length (List.set (List.set [(0 : Int), (0 : Int)] (Int.toNat (↑0 : Int)) x0_2_2_2_1) (Int.toNat (↑1 : Int)) x0_2_2_2_2_1) + List.length (cut2 (0 : Int) (↑6 : Int) x0_2_2_2_2_2_1) ≤ 140737488355328 ∧ (List.length (List.set (List.set [(0 : Int), (0 : Int)] (Int.toNat (↑0 : Int)) x0_2_2_2_1) (Int.toNat (↑1 : Int)) x0_2_2_2_2_1) + List.length (cut2 (0 : Int) (↑6 : Int) x0_2_2_2_2_2_1)) * Ty.wb (Ty.int IntKind.i64) ≤ 140737488355328) (.cut (loopAt (bodyOf Try.prog 27) 6).1 (loopAt (bodyOf Try.prog 27) 6).2 (St.mk [(1, AV.ptr 1 []), (5, AV.at_ 1000005 []), (30, AV.at_ 1000030 []), (31, AV.val (Ty.int IntKind.i64) (↑(List.length (List.set (List.set [(0 : Int), (0 : Int)] (Int.toNat (↑0 : Int)) x0_2_2_2_1) (Int.toNat (↑1 : Int)) x0_2_2_2_2_1 ++ cut2 (0 : Int) (↑6 : Int) x0_2_2_2_2_2_1)) : Int)), (32, AV.val (Ty.int IntKind.i64) (0 : Int))] [(1, Ent.var (Ty.pair (Ty.int IntKind.i64) (Ty.pair (Ty.int IntKind.i64) (Ty.pair (Ty.int IntKind.i64) (Ty.pair (Ty.int IntKind.i64) (Ty.pair (Ty.int IntKind.i64) (Ty.pair Vec (Ty.pair Ty.str Ty.unit))))))) (x0_1, x0_2_1, x0_2_2_1, x0_2_2_2_1, x0_2_2_2_2_1, x0_2_2_2_2_2_1, x0_2_2_2_2_2_2_1, ())), (1000005, Ent.own (Ty.slc true (Ty.int IntKind.u8)) (List.set (List.set (List.set [(0 : Int), (0 : Int), (0 : Int)] (Int.toNat (↑0 : Int)) (IntKind.wrap IntKind.u8 x0_1)) (Int.toNat (↑1 : Int)) (IntKind.wrap IntKind.u8 x0_2_1)) (Int.toNat (↑2 : Int)) (IntKind.wrap IntKind.u8 x0_2_2_1))), (1000030, Ent.own Is (List.set (List.set [(0 : Int), (0 : Int)] (Int.toNat (↑0 : Int)) x0_2_2_2_1) (Int.toNat (↑1 : Int)) x0_2_2_2_2_1 ++ cut2 (0 : Int) (↑6 : Int) x0_2_2_2_2_2_1))]))))) := by kernel_rfl
def Epack_s6 (v31 : Int) (v32 : Int) (o1_1 : Int) (o1_2_1 : Int) (o1_2_2_1 : Int) (o1_2_2_2_1 : Int) (o1_2_2_2_2_1 : Int) (o1_2_2_2_2_2_1 : List Int) (o1_2_2_2_2_2_2_1 : List UInt8) (o1000005 : List Int) (o1000030 : List Int) : St := St.mk [(1, AV.ptr 1 []), (5, AV.at_ 1000005 []), (30, AV.at_ 1000030 []), (31, AV.val (Ty.int IntKind.i64) v31), (32, AV.val (Ty.int IntKind.i64) v32)] [(1, Ent.var (Ty.pair (Ty.int IntKind.i64) (Ty.pair (Ty.int IntKind.i64) (Ty.pair (Ty.int IntKind.i64) (Ty.pair (Ty.int IntKind.i64) (Ty.pair (Ty.int IntKind.i64) (Ty.pair Vec (Ty.pair Ty.str Ty.unit))))))) (o1_1, o1_2_1, o1_2_2_1, o1_2_2_2_1, o1_2_2_2_2_1, o1_2_2_2_2_2_1, o1_2_2_2_2_2_2_1, ())), (1000005, Ent.own (Ty.slc true (Ty.int IntKind.u8)) o1000005), (1000030, Ent.own Is o1000030)]
theorem Epack_l6 (v31 : Int) (v32 : Int) (o1_1 : Int) (o1_2_1 : Int) (o1_2_2_1 : Int) (o1_2_2_2_1 : Int) (o1_2_2_2_2_1 : Int) (o1_2_2_2_2_2_1 : List Int) (o1_2_2_2_2_2_2_1 : List UInt8) (o1000005 : List Int) (o1000030 : List Int) : exec Epack 1000 (.code (loopAt (bodyOf Try.prog 27) 6).1 :: .inLoop (loopAt (bodyOf Try.prog 27) 6).1 :: (loopAt (bodyOf Try.prog 27) 6).2) (Epack_s6 v31 v32 o1_1 o1_2_1 o1_2_2_1 o1_2_2_2_1 o1_2_2_2_2_1 o1_2_2_2_2_2_1 o1_2_2_2_2_2_2_1 o1000005 o1000030) =
  cond (decide (v32 < v31)) (.need ((0 : Int) ≤ v32 ∧ v32 < (↑(List.length o1000030) : Int)) (.need (True) (.need (List.length o1000005 + List.length (threeI (List.getD o1000030 (Int.toNat v32) (0 : Int))) ≤ 140737488355328 ∧ (List.length o1000005 + List.length (threeI (List.getD o1000030 (Int.toNat v32) (0 : Int)))) * Ty.wb (Ty.int IntKind.u8) ≤ 140737488355328) (.need (inK IntKind.i64 (v32 + (1 : Int))) (.cut (loopAt (bodyOf Try.prog 27) 6).1 (loopAt (bodyOf Try.prog 27) 6).2 (St.mk [(1, AV.ptr 1 []), (5, AV.at_ 1000005 []), (30, AV.at_ 1000030 []), (31, AV.val (Ty.int IntKind.i64) v31), (32, AV.val (Ty.int IntKind.i64) (v32 + (1 : Int)))] [(1, Ent.var (Ty.pair (Ty.int IntKind.i64) (Ty.pair (Ty.int IntKind.i64) (Ty.pair (Ty.int IntKind.i64) (Ty.pair (Ty.int IntKind.i64) (Ty.pair (Ty.int IntKind.i64) (Ty.pair Vec (Ty.pair Ty.str Ty.unit))))))) (o1_1, o1_2_1, o1_2_2_1, o1_2_2_2_1, o1_2_2_2_2_1, o1_2_2_2_2_2_1, o1_2_2_2_2_2_2_1, ())), (1000005, Ent.own (Ty.slc true (Ty.int IntKind.u8)) (o1000005 ++ threeI (List.getD o1000030 (Int.toNat v32) (0 : Int)))), (1000030, Ent.own Is o1000030)])))))) (.need (List.length o1000005 + List.length (List.map (fun b => (↑(UInt8.toNat b) : Int)) o1_2_2_2_2_2_2_1) ≤ 140737488355328 ∧ (List.length o1000005 + List.length (List.map (fun b => (↑(UInt8.toNat b) : Int)) o1_2_2_2_2_2_2_1)) * Ty.wb (Ty.int IntKind.u8) ≤ 140737488355328) (.need (True) (.need (True) (.need (List.length (o1000005 ++ List.map (fun b => (↑(UInt8.toNat b) : Int)) o1_2_2_2_2_2_2_1) + List.length (le4I (Int.toNat (↑(crcN (List.map (fun n => UInt8.ofNat (Int.toNat n)) (o1000005 ++ List.map (fun b => (↑(UInt8.toNat b) : Int)) o1_2_2_2_2_2_2_1))) : Int))) ≤ 140737488355328 ∧ (List.length (o1000005 ++ List.map (fun b => (↑(UInt8.toNat b) : Int)) o1_2_2_2_2_2_2_1) + List.length (le4I (Int.toNat (↑(crcN (List.map (fun n => UInt8.ofNat (Int.toNat n)) (o1000005 ++ List.map (fun b => (↑(UInt8.toNat b) : Int)) o1_2_2_2_2_2_2_1))) : Int)))) * Ty.wb (Ty.int IntKind.u8) ≤ 140737488355328) (.ret ((List.map (fun n => UInt8.ofNat (Int.toNat n)) (o1000005 ++ List.map (fun b => (↑(UInt8.toNat b) : Int)) o1_2_2_2_2_2_2_1 ++ le4I (Int.toNat (↑(crcN (List.map (fun n => UInt8.ofNat (Int.toNat n)) (o1000005 ++ List.map (fun b => (↑(UInt8.toNat b) : Int)) o1_2_2_2_2_2_2_1))) : Int))), (0 : Int), ()))))))) := by kernel_rfl
theorem three_len (l : List Int) : (l.flatMap threeI).length = 3 * l.length := by
  induction l with
  | nil => rfl
  | cons x l ih => rw [List.flatMap_cons, List.length_append, ih, threeI]; simp; omega
theorem cpack_valid : cpack.Valid Try.prog 27 := by
  refine Ctr.valid_of Epack_ok rfl rfl Try.func27 (c := bodyOf Try.prog 27) rfl rfl Fpack_ok rfl ?_
  rintro ⟨⟨(a : Int), (b : Int), (c : Int), (d : Int), (e : Int), (v : List Int), (t : List UInt8), ⟨⟩⟩, ⟨⟩⟩ - ⟨⟨-, -, -, -, -, ⟨hv, -⟩, -⟩, -⟩
  have hv : v.length = 6 := hv
  obtain ⟨n, hn⟩ : ∃ n : NoteD, n = (a, b, c, d, e, v, t, ()) := ⟨_, rfl⟩
  refine exec_sound (n := 1000) Epack_ok Fpack_ok ?_
  refine holds_of_eq (Epack_t a b c d e v t) ?_
  have hc : cut2 0 6 v = v := cut_all hv
  have h0 : List.set (List.set [(0 : Int), 0] (Int.toNat ((0 : Nat) : Int)) d) (Int.toNat ((1 : Nat) : Int)) e ++ v = numsI n := by rw [hn]; rfl
  have h0' : ∀ m : List Int, List.set (List.set [(0 : Int), 0] (Int.toNat 0) d) (Int.toNat 1) e ++ m = d :: e :: m := fun m => rfl
  rw [← hn]
  have e6 : cut2 0 6 v = v := hc
  simp only [holds_cond, Tree.holds, true_and, true_implies, decide_eq_true_eq, decide_eq_false_iff_not, Bool.not_eq_true', Bool.not_eq_false', Int.toNat_natCast, inK_i64, List.length_set, List.length_cons, List.length_nil, hc, wb_u8, wb_i64]
  refine ⟨fun h => ?_, fun h => ⟨by omega, fun _ => ⟨by omega, fun _ => ?_⟩⟩⟩
  · show (([], wcheck n, ()) : List UInt8 × Int × Unit) = packR n
    rw [packR, if_pos h]
  have hok := wcheck_ok (n := n) (by omega)
  have ht : t.length ≤ 200 := by have := hok.text; rw [hn] at this; exact this
  have hnl : (numsI n).length = 8 := by rw [hn]; show (d :: e :: v).length = 8; simp [hv]
  suffices go : Go.Ex.Reach Epack Try.f27 (packR n) () (.code (loopAt (bodyOf Try.prog 27) 6).1 :: .inLoop (loopAt (bodyOf Try.prog 27) 6).1 :: (loopAt (bodyOf Try.prog 27) 6).2) (Epack_s6 ((numsI n).length : Int) ((0 : Nat) : Int) a b c d e v t (headI n ++ ((numsI n).take 0).flatMap threeI) (numsI n)) by
    subst hn
    exact go
  refine Reach.loopI Epack_ok Fpack_ok (fun i : Nat => Epack_s6 ((numsI n).length : Int) (i : Int) a b c d e v t (headI n ++ ((numsI n).take i).flatMap threeI) (numsI n)) (fun i => i ≤ (numsI n).length)
    (fun i => (numsI n).length - i) 1000 (fun _ => ⟨uniq_of rfl, uniq_of rfl⟩) ?_ 0 (Nat.zero_le _)
  · rintro i k1 - ih
    have k1 : i ≤ (numsI n).length := k1
    refine holds_of_eq (Epack_l6 ..) ?_
    have hl : (headI n ++ ((numsI n).take i).flatMap threeI).length = 3 + 3 * i := by
      rw [List.length_append, three_len, List.length_take]
      show 3 + _ = _
      omega
    have hl3 : ∀ x, (threeI x).length = 3 := fun _ => rfl
    simp only [holds_cond, Tree.holds, true_and, true_implies, decide_eq_true_eq, decide_eq_false_iff_not, Bool.not_eq_true', Bool.not_eq_false', Int.toNat_natCast, inK_i64, List.length_set, List.length_cons, List.length_nil, wb_u8, hl, hl3]
    refine ⟨fun c1 => ⟨by omega, fun _ => ⟨by omega, fun _ => ⟨by omega, fun _ => ?_⟩⟩⟩, fun c1 => ?_⟩
    · have := ih (i + 1) (by show i + 1 ≤ (numsI n).length; omega) (by omega)
      rw [take_getD (show i < (numsI n).length by omega) 0, List.flatMap_append, ← List.append_assoc] at this
      simp only [List.flatMap_cons, List.flatMap_nil, List.append_nil] at this
      exact this
    · rw [List.take_of_length_le (by omega)] at hl ⊢
      have hb : headI n ++ (numsI n).flatMap threeI ++ List.map (fun b : UInt8 => (b.toNat : Int)) t = bodyI n := by rw [bodyI, hn]
      have hbl : (bodyI n).length = 27 + t.length := by rw [← hb, List.length_append, hl, List.length_map]; omega
      have h4 : ∀ x, (le4I x).length = 4 := fun _ => rfl
      rw [hb]
      simp only [holds_cond, Tree.holds, true_and, true_implies, decide_eq_true_eq, decide_eq_false_iff_not, Bool.not_eq_true', Bool.not_eq_false', Int.toNat_natCast, inK_i64, List.length_set, List.length_cons, List.length_nil, hbl, h4, List.length_map]
      refine ⟨by omega, fun _ => ⟨by omega, fun _ => ?_⟩⟩
      show ((byteL (bodyI n ++ le4I (crcN (byteL (bodyI n)))), 0, ()) : List UInt8 × Int × Unit) = packR n
      rw [packR, if_neg h, byteL_app, packB, le4I, byteL_back]
      rfl
def byt1 (s : List UInt8) (i : Nat) : Int := ((s.getD i 0).toNat : Int)
theorem byt1_lt (s : List UInt8) (i : Nat) : 0 ≤ byt1 s i ∧ byt1 s i < 256 := by
  have := (s.getD i 0).toNat_lt
  exact ⟨Int.natCast_nonneg _, by unfold byt1; omega⟩
def num3 (s : List UInt8) (k : Nat) : Int := byt1 s (3 + 3 * k) + byt1 s (4 + 3 * k) * 256 + byt1 s (5 + 3 * k) * 65536
def cnum3 : Ctr := { ps := [.v I64, .rd .str], rs := [I64], pre := fun x => LE.le (α := Int) 0 x.1 ∧ LT.lt (α := Int) (5 + 3 * (show Int from x.1)) (List.length x.2.1), fn := fun x => (num3 x.2.1 (Int.toNat x.1), ()), out := fun _ => () }
noncomputable def Enum3 : Env := { P := Try.prog, tt := tt, ctr := [], res := [Go.ResultVar.tmp 3], rs := [Ty.int IntKind.i64], ps := [PK.v (Ty.int IntKind.i64), PK.rd Ty.str], cuts := [], nt := 26 }
theorem Enum3_ok : EnvOk Enum3 := envOk tt_ok trivial
theorem Fnum3_ok : FnOk Enum3 Try.f58 := ⟨rfl, rfl⟩
theorem Enum3_t (x0 : Int) (x1 : List UInt8) : exec Enum3 1000 [.code (bodyOf Try.prog 58)] (initSt cnum3.ps ((x0, x1, ()))) =
  .need (inK IntKind.i64 ((3 : Int) * x0)) (.need (inK IntKind.i64 ((3 : Int) + (3 : Int) * x0)) (.need ((0 : Int) ≤ (3 : Int) + (3 : Int) * x0 ∧ (3 : Int) + (3 : Int) * x0 < (↑(List.length x1) : Int)) (.need (inK IntKind.i64 ((3 : Int) + (3 : Int) * x0 + (1 : Int))) (.need ((0 : Int) ≤ (3 : Int) + (3 : Int) * x0 + (1 : Int) ∧ (3 : Int) + (3 : Int) * x0 + (1 : Int) < (↑(List.length x1) : Int)) (.need ((0 : Int) ≤ (8 : Int)) (.need (inK IntKind.i64 ((3 : Int) + (3 : Int) * x0 + (2 : Int))) (.need ((0 : Int) ≤ (3 : Int) + (3 : Int) * x0 + (2 : Int) ∧ (3 : Int) + (3 : Int) * x0 + (2 : Int) < (↑(List.length x1) : Int)) (.need ((0 : Int) ≤ (16 : Int)) (.ret ((bOr IntKind.i64 (bOr IntKind.i64 (IntKind.wrap IntKind.i64 (↑(UInt8.toNat (List.getD x1 (Int.toNat ((3 : Int) + (3 : Int) * x0)) (0 : UInt8))) : Int)) (IntKind.wrap IntKind.i64 (IntKind.wrap IntKind.i64 (↑(UInt8.toNat (List.getD x1 (Int.toNat ((3 : Int) + (3 : Int) * x0 + (1 : Int))) (0 : UInt8))) : Int) * (2 : Int) ^ min (Int.toNat (8 : Int)) (IntKind.bits IntKind.i64)))) (IntKind.wrap IntKind.i64 (IntKind.wrap IntKind.i64 (↑(UInt8.toNat (List.getD x1 (Int.toNat ((3 : Int) + (3 : Int) * x0 + (2 : Int))) (0 : UInt8))) : Int) * (2 : Int) ^ min (Int.toNat (16 : Int)) (IntKind.bits IntKind.i64))), ()))))))))))) := by kernel_rfl
theorem or64 {x y : Nat} (hx : x < 9223372036854775808) (hy : y < 9223372036854775808) : bOr .i64 (x : Int) (y : Int) = ((x ||| y : Nat) : Int) := by
  unfold bOr
  have e1 : (BitVec.ofInt (IntKind.bits .i64) (x : Int) ||| BitVec.ofInt (IntKind.bits .i64) (y : Int)).toNat = x ||| y := by
    show (BitVec.ofInt 64 (x : Int) ||| BitVec.ofInt 64 (y : Int)).toNat = x ||| y
    rw [BitVec.toNat_or, BitVec.toNat_ofInt, BitVec.toNat_ofInt]
    congr 1 <;> omega
  rw [e1]
  have := Nat.or_lt_two_pow (n := 63) hx hy
  exact wrap_same (inK_i64.2 ⟨by omega, by omega⟩)
theorem or_add {x y k : Nat} (hx : x < 2 ^ k) : x ||| (y * 2 ^ k) = x + y * 2 ^ k := by
  rw [Nat.or_comm, ← Nat.shiftLeft_eq, ← Nat.shiftLeft_add_eq_or_of_lt hx, Nat.add_comm]
theorem cnum3_valid : cnum3.Valid Try.prog 58 := by
  refine Ctr.valid_of Enum3_ok rfl rfl Try.func58 (c := bodyOf Try.prog 58) rfl rfl Fnum3_ok rfl ?_
  rintro ⟨(k : Int), (s : List UInt8), ⟨⟩⟩ ⟨h0, h1⟩ ⟨-, hs, -⟩
  have h0 : 0 ≤ k := h0
  have h1 : 5 + 3 * k < (s.length : Int) := h1
  have hs : s.length ≤ 9223372036854775807 := hs
  obtain ⟨m, rfl⟩ := Int.eq_ofNat_of_zero_le h0
  refine exec_sound (n := 1000) Enum3_ok Fnum3_ok ?_
  refine holds_of_eq (Enum3_t (m : Int) s) ?_
  simp only [holds_cond, Tree.holds, true_and, true_implies, decide_eq_true_eq, decide_eq_false_iff_not, Bool.not_eq_true', Bool.not_eq_false', Int.toNat_natCast, inK_i64, List.length_set, List.length_cons, List.length_nil]
  refine ⟨by omega, fun _ => ⟨by omega, fun _ => ⟨by omega, fun _ => ⟨by omega, fun _ => ⟨by omega, fun _ => ⟨Int.le.intro 8 rfl, fun _ => ⟨by omega, fun _ => ⟨by omega, fun _ => ⟨Int.le.intro 16 rfl, fun _ => ?_⟩⟩⟩⟩⟩⟩⟩⟩⟩
  have e1 : Int.toNat (3 + 3 * (m : Int)) = 3 + 3 * m := by omega
  have e2 : Int.toNat (3 + 3 * (m : Int) + 1) = 4 + 3 * m := by omega
  have e3 : Int.toNat (3 + 3 * (m : Int) + 2) = 5 + 3 * m := by omega
  rw [e1, e2, e3]
  show ((_, ()) : Int × Unit) = (num3 s (Int.toNat (m : Int)), ())
  rw [Int.toNat_natCast]
  have a1 := (s.getD (3 + 3 * m) 0).toNat_lt
  have a2 := (s.getD (4 + 3 * m) 0).toNat_lt
  have a3 := (s.getD (5 + 3 * m) 0).toNat_lt
  unfold num3 byt1
  generalize (s.getD (3 + 3 * m) 0).toNat = x at *
  generalize (s.getD (4 + 3 * m) 0).toNat = y at *
  generalize (s.getD (5 + 3 * m) 0).toNat = z at *
  have w : ∀ q : Nat, q < 16777216 → IntKind.wrap .i64 (q : Int) = (q : Int) := fun q hq => wrap_same (inK_i64.2 ⟨by omega, by omega⟩)
  have p8 : (2 : Int) ^ min (Int.toNat 8) (IntKind.bits .i64) = 256 := rfl
  have p16 : (2 : Int) ^ min (Int.toNat 16) (IntKind.bits .i64) = 65536 := rfl
  rw [w x (by omega), w y (by omega), w z (by omega), p8, p16, show (y : Int) * 256 = ((y * 2 ^ 8 : Nat) : Int) by omega, show (z : Int) * 65536 = ((z * 2 ^ 16 : Nat) : Int) by omega, w _ (by omega), w _ (by omega), or64 (by omega) (by omega), or_add (k := 8) (by omega), or64 (by omega) (by omega), or_add (k := 16) (by omega)]
  congr 1
def zeroNote : NoteD := (0, 0, 0, 0, 0, [0, 0, 0, 0, 0, 0], [], ())
def parse (s : List UInt8) : NoteD := (byt1 s 0, byt1 s 1, byt1 s 2, num3 s 0, num3 s 1, [num3 s 2, num3 s 3, num3 s 4, num3 s 5, num3 s 6, num3 s 7], s.drop 27, ())
def readR (s : List UInt8) : NoteD × Int × Unit :=
  if 231 < s.length then (zeroNote, 2, ()) else if s.length < 31 then (zeroNote, 3, ()) else if le4 (crcN (s.take (s.length - 4))) ≠ s.drop (s.length - 4) then (zeroNote, 5, ())
  else if wcheck (parse (s.take (s.length - 4))) ≠ 0 then (zeroNote, wcheck (parse (s.take (s.length - 4))), ()) else (parse (s.take (s.length - 4)), 0, ())
def cread : Ctr := { ps := [.v .str], rs := [Note, I64], pre := fun _ => True, fn := fun x => readR x.1, out := fun _ => () }
noncomputable def Eread : Env := { P := Try.prog, tt := tt, ctr := [(29, csum), (57, cfour), (58, cnum3), (55, cwcheck)], res := [Go.ResultVar.cell 2 43, Go.ResultVar.tmp 3], rs := [Ty.pair (Ty.int IntKind.i64) (Ty.pair (Ty.int IntKind.i64) (Ty.pair (Ty.int IntKind.i64) (Ty.pair (Ty.int IntKind.i64) (Ty.pair (Ty.int IntKind.i64) (Ty.pair Vec (Ty.pair Ty.str Ty.unit)))))), Ty.int IntKind.i64], ps := [PK.v Ty.str], cuts := [(11, [(2, none), (6, none), (7, none), (54, none)])], nt := 72 }
theorem Eread_ok : EnvOk Eread := envOk tt_ok ⟨csum_valid, cfour_valid, cnum3_valid, cwcheck_valid, trivial⟩
theorem Fread_ok : FnOk Eread Try.f28 := ⟨rfl, rfl⟩
theorem Eread_t (x0 : List UInt8) : exec Eread 1000 [.code (bodyOf Try.prog 28)] (initSt cread.ps ((x0, ()))) =
  cond (decide ((231 : Int) < (↑(List.length x0) : Int))) (.ret ((((0 : Int), (0 : Int), (0 : Int), (0 : Int), (0 : Int), [(0 : Int), (0 : Int), (0 : Int), (0 : Int), (0 : Int), (0 : Int)], [], ()), (2 : Int), ()))) (cond (decide ((↑(List.length x0) : Int) < (31 : Int))) (.ret ((((0 : Int), (0 : Int), (0 : Int), (0 : Int), (0 : Int), [(0 : Int), (0 : Int), (0 : Int), (0 : Int), (0 : Int), (0 : Int)], [], ()), (3 : Int), ()))) (.need (inK IntKind.i64 ((↑(List.length x0) : Int) - (4 : Int))) (.need ((0 : Int) ≤ (0 : Int) ∧ (0 : Int) ≤ (↑(List.length x0) : Int) - (4 : Int) ∧ (↑(List.length x0) : Int) - (4 : Int) ≤ (↑(List.length x0) : Int)) (.need (inK IntKind.i64 ((↑(List.length x0) : Int) - (4 : Int))) (.need ((0 : Int) ≤ (↑(List.length x0) : Int) - (4 : Int) ∧ (↑(List.length x0) : Int) - (4 : Int) ≤ (↑(List.length x0) : Int) ∧ (↑(List.length x0) : Int) ≤ (↑(List.length x0) : Int)) (.need (True) (.need (True) (cond (decide (List.map (fun n => UInt8.ofNat (Int.toNat n)) (le4I (Int.toNat (↑(crcN (cut2 (0 : Int) ((↑(List.length x0) : Int) - (4 : Int)) x0)) : Int))) ≠ cut2 ((↑(List.length x0) : Int) - (4 : Int)) (↑(List.length x0) : Int) x0)) (.ret ((((0 : Int), (0 : Int), (0 : Int), (0 : Int), (0 : Int), [(0 : Int), (0 : Int), (0 : Int), (0 : Int), (0 : Int), (0 : Int)], [], ()), (5 : Int), ()))) (.need ((0 : Int) ≤ (0 : Int) ∧ (0 : Int) < (↑(List.length (cut2 (0 : Int) ((↑(List.length x0) : Int) - (4 : Int)) x0)) : Int)) (.need ((0 : Int) ≤ (1 : Int) ∧ (1 : Int) < (↑(List.length (cut2 (0 : Int) ((↑(List.length x0) : Int) - (4 : Int)) x0)) : Int)) (.need ((0 : Int) ≤ (2 : Int) ∧ (2 : Int) < (↑(List.length (cut2 (0 : Int) ((↑(List.length x0) : Int) - (4 : Int)) x0)) : Int)) (.need ((0 : Int) ≤ (0 : Int) ∧ (5 : Int) + (3 : Int) * (0 : Int) < (↑(List.length (cut2 (0 : Int) ((↑(List.length x0) : Int) - (4 : Int)) x0)) : Int)) (.need ((0 : Int) ≤ (1 : Int) ∧ (5 : Int) + (3 : Int) * (1 : Int) < (↑(List.length (cut2 (0 : Int) ((↑(List.length x0) : Int) - (4 : Int)) x0)) : Int)) (.need ((0 : Int) ≤ (27 : Int) ∧ (27 : Int) ≤ (↑(List.length (cut2 (0 : Int) ((↑(List.length x0) : Int) - (4 : Int)) x0)) : Int) ∧ (↑(List.length (cut2 (0 : Int) ((↑(List.length x0) : Int) - (4 : Int)) x0)) : Int) ≤ (↑(List.length (cut2 (0 : Int) ((↑(List.length x0) : Int) - (4 : Int)) x0)) : Int)) (.cut (loopAt (bodyOf Try.prog 28) 11).1 (loopAt (bodyOf Try.prog 28) 11).2 (St.mk [(2, AV.ptr 2 []), (6, AV.clo 58 (AV.cons (AV.ptr 4 []) AV.nil)), (7, AV.ptr 7 []), (54, AV.val (Ty.int IntKind.i64) (0 : Int))] [(2, Ent.var (Ty.pair (Ty.int IntKind.i64) (Ty.pair (Ty.int IntKind.i64) (Ty.pair (Ty.int IntKind.i64) (Ty.pair (Ty.int IntKind.i64) (Ty.pair (Ty.int IntKind.i64) (Ty.pair Vec (Ty.pair Ty.str Ty.unit))))))) ((0 : Int), (0 : Int), (0 : Int), (0 : Int), (0 : Int), [(0 : Int), (0 : Int), (0 : Int), (0 : Int), (0 : Int), (0 : Int)], [], ())), (4, Ent.var Ty.str (cut2 (0 : Int) ((↑(List.length x0) : Int) - (4 : Int)) x0)), (7, Ent.var (Ty.pair (Ty.int IntKind.i64) (Ty.pair (Ty.int IntKind.i64) (Ty.pair (Ty.int IntKind.i64) (Ty.pair (Ty.int IntKind.i64) (Ty.pair (Ty.int IntKind.i64) (Ty.pair Vec (Ty.pair Ty.str Ty.unit))))))) (IntKind.wrap IntKind.i64 (↑(UInt8.toNat (List.getD (cut2 (0 : Int) ((↑(List.length x0) : Int) - (4 : Int)) x0) (Int.toNat (0 : Int)) (0 : UInt8))) : Int), IntKind.wrap IntKind.i64 (↑(UInt8.toNat (List.getD (cut2 (0 : Int) ((↑(List.length x0) : Int) - (4 : Int)) x0) (Int.toNat (1 : Int)) (0 : UInt8))) : Int), IntKind.wrap IntKind.i64 (↑(UInt8.toNat (List.getD (cut2 (0 : Int) ((↑(List.length x0) : Int) - (4 : Int)) x0) (Int.toNat (2 : Int)) (0 : UInt8))) : Int), num3 (cut2 (0 : Int) ((↑(List.length x0) : Int) - (4 : Int)) x0) (Int.toNat (0 : Int)), num3 (cut2 (0 : Int) ((↑(List.length x0) : Int) - (4 : Int)) x0) (Int.toNat (1 : Int)), [(0 : Int), (0 : Int), (0 : Int), (0 : Int), (0 : Int), (0 : Int)], cut2 (27 : Int) (↑(List.length (cut2 (0 : Int) ((↑(List.length x0) : Int) - (4 : Int)) x0)) : Int) (cut2 (0 : Int) ((↑(List.length x0) : Int) - (4 : Int)) x0), ()))])))))))))))))))) := by kernel_rfl
def Eread_s11 (v54 : Int) (o2_1 : Int) (o2_2_1 : Int) (o2_2_2_1 : Int) (o2_2_2_2_1 : Int) (o2_2_2_2_2_1 : Int) (o2_2_2_2_2_2_1 : List Int) (o2_2_2_2_2_2_2_1 : List UInt8) (o4 : List UInt8) (o7_1 : Int) (o7_2_1 : Int) (o7_2_2_1 : Int) (o7_2_2_2_1 : Int) (o7_2_2_2_2_1 : Int) (o7_2_2_2_2_2_1 : List Int) (o7_2_2_2_2_2_2_1 : List UInt8) : St := St.mk [(2, AV.ptr 2 []), (6, AV.clo 58 (AV.cons (AV.ptr 4 []) AV.nil)), (7, AV.ptr 7 []), (54, AV.val (Ty.int IntKind.i64) v54)] [(2, Ent.var (Ty.pair (Ty.int IntKind.i64) (Ty.pair (Ty.int IntKind.i64) (Ty.pair (Ty.int IntKind.i64) (Ty.pair (Ty.int IntKind.i64) (Ty.pair (Ty.int IntKind.i64) (Ty.pair Vec (Ty.pair Ty.str Ty.unit))))))) (o2_1, o2_2_1, o2_2_2_1, o2_2_2_2_1, o2_2_2_2_2_1, o2_2_2_2_2_2_1, o2_2_2_2_2_2_2_1, ())), (4, Ent.var Ty.str o4), (7, Ent.var (Ty.pair (Ty.int IntKind.i64) (Ty.pair (Ty.int IntKind.i64) (Ty.pair (Ty.int IntKind.i64) (Ty.pair (Ty.int IntKind.i64) (Ty.pair (Ty.int IntKind.i64) (Ty.pair Vec (Ty.pair Ty.str Ty.unit))))))) (o7_1, o7_2_1, o7_2_2_1, o7_2_2_2_1, o7_2_2_2_2_1, o7_2_2_2_2_2_1, o7_2_2_2_2_2_2_1, ()))]
theorem Eread_l11 (v54 : Int) (o2_1 : Int) (o2_2_1 : Int) (o2_2_2_1 : Int) (o2_2_2_2_1 : Int) (o2_2_2_2_2_1 : Int) (o2_2_2_2_2_2_1 : List Int) (o2_2_2_2_2_2_2_1 : List UInt8) (o4 : List UInt8) (o7_1 : Int) (o7_2_1 : Int) (o7_2_2_1 : Int) (o7_2_2_2_1 : Int) (o7_2_2_2_2_1 : Int) (o7_2_2_2_2_2_1 : List Int) (o7_2_2_2_2_2_2_1 : List UInt8) : exec Eread 1000 (.code (loopAt (bodyOf Try.prog 28) 11).1 :: .inLoop (loopAt (bodyOf Try.prog 28) 11).1 :: (loopAt (bodyOf Try.prog 28) 11).2) (Eread_s11 v54 o2_1 o2_2_1 o2_2_2_1 o2_2_2_2_1 o2_2_2_2_2_1 o2_2_2_2_2_2_1 o2_2_2_2_2_2_2_1 o4 o7_1 o7_2_1 o7_2_2_1 o7_2_2_2_1 o7_2_2_2_2_1 o7_2_2_2_2_2_1 o7_2_2_2_2_2_2_1) =
  cond (decide (v54 < (6 : Int))) (.need (inK IntKind.i64 ((2 : Int) + v54)) (.need ((0 : Int) ≤ (2 : Int) + v54 ∧ (5 : Int) + (3 : Int) * ((2 : Int) + v54) < (↑(List.length o4) : Int)) (.need ((0 : Int) ≤ v54 ∧ v54 < (↑6 : Int)) (.need (inK IntKind.i64 (v54 + (1 : Int))) (.cut (loopAt (bodyOf Try.prog 28) 11).1 (loopAt (bodyOf Try.prog 28) 11).2 (St.mk [(2, AV.ptr 2 []), (6, AV.clo 58 (AV.cons (AV.ptr 4 []) AV.nil)), (7, AV.ptr 7 []), (54, AV.val (Ty.int IntKind.i64) (v54 + (1 : Int)))] [(2, Ent.var (Ty.pair (Ty.int IntKind.i64) (Ty.pair (Ty.int IntKind.i64) (Ty.pair (Ty.int IntKind.i64) (Ty.pair (Ty.int IntKind.i64) (Ty.pair (Ty.int IntKind.i64) (Ty.pair Vec (Ty.pair Ty.str Ty.unit))))))) (o2_1, o2_2_1, o2_2_2_1, o2_2_2_2_1, o2_2_2_2_2_1, o2_2_2_2_2_2_1, o2_2_2_2_2_2_2_1, ())), (4, Ent.var Ty.str o4), (7, Ent.var (Ty.pair (Ty.int IntKind.i64) (Ty.pair (Ty.int IntKind.i64) (Ty.pair (Ty.int IntKind.i64) (Ty.pair (Ty.int IntKind.i64) (Ty.pair (Ty.int IntKind.i64) (Ty.pair Vec (Ty.pair Ty.str Ty.unit))))))) (o7_1, o7_2_1, o7_2_2_1, o7_2_2_2_1, o7_2_2_2_2_1, List.set o7_2_2_2_2_2_1 (Int.toNat v54) (num3 o4 (Int.toNat ((2 : Int) + v54))), o7_2_2_2_2_2_2_1, ()))])))))) (.need (True) (cond (decide (wcheck (o7_1, o7_2_1, o7_2_2_1, o7_2_2_2_1, o7_2_2_2_2_1, o7_2_2_2_2_2_1, o7_2_2_2_2_2_2_1, ()) ≠ (0 : Int))) (.ret ((((0 : Int), (0 : Int), (0 : Int), (0 : Int), (0 : Int), [(0 : Int), (0 : Int), (0 : Int), (0 : Int), (0 : Int), (0 : Int)], [], ()), wcheck (o7_1, o7_2_1, o7_2_2_1, o7_2_2_2_1, o7_2_2_2_2_1, o7_2_2_2_2_2_1, o7_2_2_2_2_2_2_1, ()), ()))) (.ret (((o7_1, o7_2_1, o7_2_2_1, o7_2_2_2_1, o7_2_2_2_2_1, o7_2_2_2_2_2_1, o7_2_2_2_2_2_2_1, ()), (0 : Int), ()))))) := by kernel_rfl
def atL (s : List UInt8) (i : Nat) : List Int := (List.range 6).map (fun j => if j < i then num3 s (2 + j) else 0)
theorem cread_valid : cread.Valid Try.prog 28 := by
  refine Ctr.valid_of Eread_ok rfl rfl Try.func28 (c := bodyOf Try.prog 28) rfl rfl Fread_ok rfl ?_
  rintro ⟨(s : List UInt8), ⟨⟩⟩ - -
  refine exec_sound (n := 1000) Eread_ok Fread_ok ?_
  refine holds_of_eq (Eread_t s) ?_
  simp only [holds_cond, Tree.holds, true_and, true_implies, decide_eq_true_eq, decide_eq_false_iff_not, Bool.not_eq_true', Bool.not_eq_false', Int.toNat_natCast, inK_i64, List.length_set, List.length_cons, List.length_nil]
  refine ⟨fun h => ?_, fun h1 => ⟨fun h => ?_, fun h2 => ⟨by omega, fun _ => ⟨by omega, fun _ => ⟨by omega, fun _ => ⟨by omega, fun _ => ?_⟩⟩⟩⟩⟩⟩
  · show ((zeroNote, 2, ()) : NoteD × Int × Unit) = readR s
    rw [readR, if_pos (by omega)]
  · show ((zeroNote, 3, ()) : NoteD × Int × Unit) = readR s
    rw [readR, if_neg (by omega), if_pos (by omega)]
  obtain ⟨n, hn⟩ : ∃ n : Nat, (s.length : Int) - 4 = n := ⟨s.length - 4, by omega⟩
  have hn4 : s.length - 4 = n := by omega
  have b1 : cut2 0 ((s.length : Int) - 4) s = s.take n := by rw [hn, cut2]; simp
  have b2 : cut2 ((s.length : Int) - 4) (s.length : Int) s = s.drop n := by rw [hn, cut2, Int.toNat_natCast, List.take_of_length_le (by rw [List.length_drop]; omega)]
  have hbl : (s.take n).length = n := by rw [List.length_take]; omega
  have b3 : cut2 27 (n : Int) (s.take n) = (s.take n).drop 27 := by rw [cut2, List.take_of_length_le (by rw [List.length_drop, hbl]; show n - 27 ≤ ((n : Int) - 27).toNat; omega)]; rfl
  have b4 : List.map (fun n : Int => UInt8.ofNat n.toNat) (le4I (crcN (s.take n))) = le4 (crcN (s.take n)) := byteL_back _
  have hR : readR s = if le4 (crcN (s.take n)) ≠ s.drop n then (zeroNote, 5, ()) else if wcheck (parse (s.take n)) ≠ 0 then (zeroNote, wcheck (parse (s.take n)), ()) else (parse (s.take n), 0, ()) := by
    rw [readR, if_neg (by omega), if_neg (by omega), hn4]
  generalize hbody : s.take n = body at *
  have w : ∀ q : UInt8, IntKind.wrap .i64 (q.toNat : Int) = (q.toNat : Int) := fun q => by have := q.toNat_lt; exact wrap_same (inK_i64.2 ⟨by omega, by omega⟩)
  simp only [holds_cond, Tree.holds, true_and, true_implies, decide_eq_true_eq, decide_eq_false_iff_not, Bool.not_eq_true', Bool.not_eq_false', Int.toNat_natCast, inK_i64, List.length_set, List.length_cons, List.length_nil, b1, b2, b4, hbl, b3, w]
  refine ⟨fun h => ?_, fun h => ⟨by omega, fun _ => ⟨by omega, fun _ => ⟨by omega, fun _ => ⟨by omega, fun _ => ⟨by omega, fun _ => ⟨by omega, fun _ => ?_⟩⟩⟩⟩⟩⟩⟩
  · show ((zeroNote, 5, ()) : NoteD × Int × Unit) = readR s
    rw [hR, if_pos h]
  rw [if_neg h] at hR
  refine Reach.loopI Eread_ok Fread_ok (fun i : Nat => Eread_s11 (i : Int) 0 0 0 0 0 [0, 0, 0, 0, 0, 0] [] body (byt1 body 0) (byt1 body 1) (byt1 body 2) (num3 body 0) (num3 body 1) (atL body i) (body.drop 27)) (fun i => i ≤ 6)
    (fun i => 6 - i) 1000 (fun _ => ⟨uniq_of rfl, uniq_of rfl⟩) ?_ 0 (Nat.zero_le _)
  rintro i k1 - ih
  have k1 : i ≤ 6 := k1
  refine holds_of_eq (Eread_l11 ..) ?_
  simp only [holds_cond, Tree.holds, true_and, true_implies, decide_eq_true_eq, decide_eq_false_iff_not, Bool.not_eq_true', Bool.not_eq_false', Int.toNat_natCast, inK_i64, List.length_set, List.length_cons, List.length_nil, hbl]
  refine ⟨fun c => ⟨by omega, fun _ => ⟨by omega, fun _ => ⟨by omega, fun _ => ⟨by omega, fun _ => ?_⟩⟩⟩⟩, fun c => ?_⟩
  · have hi : i < 6 := by omega
    have := ih (i + 1) (by show i + 1 ≤ 6; omega) (by omega)
    have e2 : Int.toNat (2 + (i : Int)) = 2 + i := by omega
    have : (atL body i).set i (num3 body (2 + i)) = atL body (i + 1) := by
      rw [atL, set_map_range _ _ hi, atL]
      refine List.map_congr_left (fun j hj => ?_)
      by_cases e : j = i
      · rw [if_pos e, if_pos (by omega), e]
      · rw [if_neg e]
        by_cases e2 : j < i
        · rw [if_pos e2, if_pos (by omega)]
        · rw [if_neg e2, if_neg (by omega)]
    rw [e2, this]
    assumption
  · obtain rfl : i = 6 := by omega
    have hp : (byt1 body 0, byt1 body 1, byt1 body 2, num3 body 0, num3 body 1, atL body 6, body.drop 27, ()) = parse body := rfl
    rw [hp]
    refine ⟨fun h => ?_, fun h => ?_⟩
    · show ((zeroNote, wcheck (parse body), ()) : NoteD × Int × Unit) = readR s
      rw [hR, if_pos h]
    · show ((parse body, 0, ()) : NoteD × Int × Unit) = readR s
      rw [hR, if_neg h]
end Go.Proofs.Ytcafiieffenohaa
