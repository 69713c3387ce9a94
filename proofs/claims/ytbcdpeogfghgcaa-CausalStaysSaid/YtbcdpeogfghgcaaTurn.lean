/- The contracts of the package turn's functions: Check and what it calls, clone. No condition but those named. -/
import Derived.Test.YtbcdpeogfghgcaaOver
namespace Go.Proofs.Ytbcdpeogfghgcaa
open Go.Ex
set_option maxRecDepth 100000
abbrev TurnD := Int × Int × List (List Int) × List Int × List Int × Unit
def ctin : Ctr := { ps := [.v I64, .v I64, .v I64], rs := [.bool], pre := fun _ => True, fn := fun x => (inF x.1 x.2.1 x.2.2.1, ()), out := fun _ => () }
noncomputable def Etin : Env := { P := Try.prog, tt := tt, ctr := [], res := [Go.ResultVar.tmp 6], rs := [Ty.bool], ps := [PK.v (Ty.int IntKind.i64), PK.v (Ty.int IntKind.i64), PK.v (Ty.int IntKind.i64)], cuts := [], nt := 15 }
theorem Etin_ok : EnvOk Etin := envOk tt_ok trivial
theorem Ftin_ok : FnOk Etin Try.f87 := ⟨rfl, rfl⟩
theorem Etin_t (x0 : Int) (x1 : Int) (x2 : Int) : exec Etin 1000 [.code (bodyOf Try.prog 87)] (initSt ctin.ps ((x0, x1, x2, ()))) =
  cond (decide (x1 ≤ x0)) (.ret ((decide (x0 ≤ x2), ()))) (.ret ((false, ()))) := by kernel_rfl
theorem ctin_valid : ctin.Valid Try.prog 87 := by
  refine Ctr.valid_of Etin_ok rfl rfl Try.func87 (c := bodyOf Try.prog 87) rfl rfl Ftin_ok rfl ?_
  rintro ⟨(a : Int), (b : Int), (c : Int), ⟨⟩⟩ - -
  refine exec_sound (n := 1000) Etin_ok Ftin_ok ?_
  refine holds_of_eq (Etin_t a b c) ?_
  simp only [holds_cond, Tree.holds, true_and, true_implies, decide_eq_true_eq, decide_eq_false_iff_not, Bool.not_eq_true', Bool.not_eq_false', Int.toNat_natCast, inK_i64, List.length_set, List.length_cons, List.length_nil]
  repeat' first | exact trivial | (refine And.intro ?_ ?_) | (intro _)
  all_goals (show ((_, ()) : Bool × Unit) = (inF a b c, ()); simp [inF, *])
def tmsg (n : Int) : Bool := inF n 0 29
def ctmsg : Ctr := { ps := [.v I64], rs := [.bool], pre := fun _ => True, fn := fun x => (tmsg x.1, ()), out := fun _ => () }
noncomputable def Etmsg : Env := { P := Try.prog, tt := tt, ctr := [(87, ctin)], res := [Go.ResultVar.tmp 2], rs := [Ty.bool], ps := [PK.v (Ty.int IntKind.i64)], cuts := [], nt := 5 }
theorem Etmsg_ok : EnvOk Etmsg := envOk tt_ok ⟨ctin_valid, trivial⟩
theorem Ftmsg_ok : FnOk Etmsg Try.f90 := ⟨rfl, rfl⟩
theorem Etmsg_t (x0 : Int) : exec Etmsg 1000 [.code (bodyOf Try.prog 90)] (initSt ctmsg.ps ((x0, ()))) =
  .need (True) (.ret ((inF x0 (0 : Int) (29 : Int), ()))) := by kernel_rfl
theorem ctmsg_valid : ctmsg.Valid Try.prog 90 := by
  refine Ctr.valid_of Etmsg_ok rfl rfl Try.func90 (c := bodyOf Try.prog 90) rfl rfl Ftmsg_ok rfl ?_
  rintro ⟨(n : Int), ⟨⟩⟩ - -
  refine exec_sound (n := 1000) Etmsg_ok Ftmsg_ok ?_
  refine holds_of_eq (Etmsg_t n) ?_
  exact ⟨trivial, fun _ => rfl⟩
def tbad (l : List Int) (i : Nat) : Bool := !tmsg (l.getD i 0) || decide (l.getD i 0 ∈ l.take i)
def anyN (f : Nat → Bool) : Nat → Bool
  | 0 => false
  | k + 1 => anyN f k || f k
theorem anyN_no {f : Nat → Bool} : ∀ {n : Nat}, anyN f n = false ↔ ∀ k, k < n → f k = false
  | 0 => by simp [anyN]
  | n + 1 => by
    rw [anyN, Bool.or_eq_false_iff, anyN_no (n := n)]
    constructor
    · rintro ⟨h1, h2⟩ k hk
      by_cases e : k = n
      · rw [e]; exact h2
      · exact h1 k (by omega)
    · intro h; exact ⟨fun k hk => h k (by omega), h n (by omega)⟩
theorem anyN_yes {f : Nat → Bool} {k n : Nat} (h : f k = true) (hk : k < n) : anyN f n = true := by
  cases e : anyN f n with
  | true => rfl
  | false => rw [anyN_no.1 e k hk] at h; cases h
theorem tnf {b : Bool} (h : b = true) : ¬ b = false := by rw [h]; simp
def twice (l : List Int) : Bool := anyN (tbad l) l.length
theorem cut2_tk {α : Type} {l : List α} {i : Nat} : cut2 0 (i : Int) l = l.take i := by
  rw [cut2, show ((i : Int) - 0).toNat = i by omega]; rfl
def ctwice : Ctr := { ps := [.v (.slc false I64)], rs := [.bool], pre := fun _ => True, fn := fun x => (twice x.1, ()), out := fun _ => () }
noncomputable def Etwice : Env := { P := Try.prog, tt := tt, ctr := [(90, ctmsg), (21, ccontI)], res := [Go.ResultVar.tmp 2], rs := [Ty.bool], ps := [PK.v (Ty.slc false (Ty.int IntKind.i64))], cuts := [(2, [(0, none), (5, none), (6, none), (7, none)])], nt := 23 }
theorem Etwice_ok : EnvOk Etwice := envOk tt_ok ⟨ctmsg_valid, ccontI_valid, trivial⟩
theorem Ftwice_ok : FnOk Etwice Try.f88 := ⟨rfl, rfl⟩
theorem Etwice_t (x0 : List Int) : exec Etwice 1000 [.code (bodyOf Try.prog 88)] (initSt ctwice.ps ((x0, ()))) =
  .cut (loopAt (bodyOf Try.prog 88) 2).1 (loopAt (bodyOf Try.prog 88) 2).2 (St.mk [(0, AV.val (Ty.slc false (Ty.int IntKind.i64)) x0), (5, AV.val (Ty.slc false (Ty.int IntKind.i64)) x0), (6, AV.val (Ty.int IntKind.i64) (↑(List.length x0) : Int)), (7, AV.val (Ty.int IntKind.i64) (0 : Int))] []) := by kernel_rfl
def Etwice_s2 (v0 : List Int) (v5 : List Int) (v6 : Int) (v7 : Int) : St := St.mk [(0, AV.val (Ty.slc false (Ty.int IntKind.i64)) v0), (5, AV.val (Ty.slc false (Ty.int IntKind.i64)) v5), (6, AV.val (Ty.int IntKind.i64) v6), (7, AV.val (Ty.int IntKind.i64) v7)] []
theorem Etwice_l2 (v0 : List Int) (v5 : List Int) (v6 : Int) (v7 : Int) : exec Etwice 1000 (.code (loopAt (bodyOf Try.prog 88) 2).1 :: .inLoop (loopAt (bodyOf Try.prog 88) 2).1 :: (loopAt (bodyOf Try.prog 88) 2).2) (Etwice_s2 v0 v5 v6 v7) =
  cond (decide (v7 < v6)) (.need ((0 : Int) ≤ v7 ∧ v7 < (↑(List.length v5) : Int)) (.need (True) (cond (!tmsg (List.getD v5 (Int.toNat v7) (0 : Int))) (.ret ((true, ()))) (.need ((0 : Int) ≤ (0 : Int) ∧ (0 : Int) ≤ v7 ∧ v7 ≤ (↑(List.length v0) : Int)) (.need (True) (cond (decide (List.getD v5 (Int.toNat v7) (0 : Int) ∈ cut2 (0 : Int) v7 v0)) (.ret ((true, ()))) (.need (inK IntKind.i64 (v7 + (1 : Int))) (.cut (loopAt (bodyOf Try.prog 88) 2).1 (loopAt (bodyOf Try.prog 88) 2).2 (St.mk [(0, AV.val (Ty.slc false (Ty.int IntKind.i64)) v0), (5, AV.val (Ty.slc false (Ty.int IntKind.i64)) v5), (6, AV.val (Ty.int IntKind.i64) v6), (7, AV.val (Ty.int IntKind.i64) (v7 + (1 : Int)))] []))))))))) (.ret ((false, ()))) := by kernel_rfl
theorem ctwice_valid : ctwice.Valid Try.prog 88 := by
  refine Ctr.valid_of Etwice_ok rfl rfl Try.func88 (c := bodyOf Try.prog 88) rfl rfl Ftwice_ok rfl ?_
  rintro ⟨(l : List Int), ⟨⟩⟩ - ⟨⟨hl, -⟩, -⟩
  have hl : l.length ≤ 9223372036854775807 := hl
  refine exec_sound (n := 1000) Etwice_ok Ftwice_ok ?_
  refine holds_of_eq (Etwice_t l) ?_
  refine Reach.loopI Etwice_ok Ftwice_ok (fun i : Nat => Etwice_s2 l l (l.length : Int) (i : Int)) (fun i => i ≤ l.length ∧ anyN (tbad l) i = false) (fun i => l.length - i) 1000 (fun _ => ⟨uniq_of rfl, uniq_of rfl⟩) ?_ 0 ⟨by omega, rfl⟩
  rintro i ⟨k1, k2⟩ - ih
  have k1 : i ≤ l.length := k1
  refine holds_of_eq (Etwice_l2 ..) ?_
  simp only [holds_cond, Tree.holds, true_and, true_implies, decide_eq_true_eq, decide_eq_false_iff_not, Bool.not_eq_true', Bool.not_eq_false', Int.toNat_natCast, inK_i64, List.length_set, List.length_cons, List.length_nil, cut2_tk]
  have yes : tbad l i = true → i < l.length → ((true, ()) : Bool × Unit) = (twice l, ()) := fun h h2 => by rw [twice, anyN_yes h h2]
  refine ⟨fun a => ⟨by omega, fun _ => ⟨fun b => yes (by rw [tbad, b]; rfl) (by omega), fun b => ⟨by omega, fun _ => ⟨fun c => yes ?_ (by omega), fun c => ⟨by omega, fun _ => ih (i + 1) ⟨by omega, ?_⟩ (by omega)⟩⟩⟩⟩⟩, fun a => ?_⟩
  · rw [tbad, decide_eq_true c, Bool.or_true]
  · rw [anyN, k2, tbad, b, decide_eq_false c]; rfl
  · rw [twice, show l.length = i by omega, k2]; rfl
theorem twice_no {l : List Int} : twice l = false ↔ l.Nodup ∧ ∀ x ∈ l, 0 ≤ x ∧ x ≤ 29 := by
  rw [twice, anyN_no]
  constructor
  · intro h
    have h' : ∀ k, k < l.length → tmsg (l.getD k 0) = true ∧ l.getD k 0 ∉ l.take k := fun k hk => by
      have := h k hk
      simpa [tbad] using this
    refine ⟨?_, fun x hx => ?_⟩
    · rw [List.nodup_iff_pairwise_ne, List.pairwise_iff_getElem]
      intro i j hi hj hij e
      refine (h' j hj).2 ?_
      rw [List.mem_take_iff_getElem]
      refine ⟨i, by omega, ?_⟩
      rw [e, List.getD_eq_getElem?_getD, List.getElem?_eq_getElem hj]; rfl
    · obtain ⟨k, hk, rfl⟩ := mem_getD (d := 0) hx
      exact inF_iff.1 (h' k hk).1
  · rintro ⟨h1, h2⟩ k hk
    have hm := h2 _ (getD_mem (d := 0) hk)
    rw [tbad, show tmsg (l.getD k 0) = true from inF_iff.2 hm, decide_eq_false]
    · rfl
    · intro h9
      rw [List.mem_take_iff_getElem] at h9
      obtain ⟨i, hi, e⟩ := h9
      rw [List.nodup_iff_pairwise_ne, List.pairwise_iff_getElem] at h1
      refine h1 i k (by omega) hk (by omega) ?_
      rw [e, List.getD_eq_getElem?_getD, List.getElem?_eq_getElem hk]; rfl
def inC (t : TurnD) (n : Int) : Bool := decide (n ∈ t.2.2.2.1)
def cinC : Ctr := { ps := [.v I64, .rd Turn], rs := [.bool], pre := fun _ => True, fn := fun x => (inC x.2.1 x.1, ()), out := fun _ => () }
noncomputable def EinC : Env := { P := Try.prog, tt := tt, ctr := [(21, ccontI)], res := [Go.ResultVar.tmp 3], rs := [Ty.bool], ps := [PK.v (Ty.int IntKind.i64), PK.rd (Ty.pair (Ty.int IntKind.i64) (Ty.pair (Ty.int IntKind.i64) (Ty.pair (Ty.slc false (Ty.slc false (Ty.int IntKind.i64))) (Ty.pair (Ty.slc false (Ty.int IntKind.i64)) (Ty.pair (Ty.slc false (Ty.int IntKind.i64)) Ty.unit)))))], cuts := [], nt := 8 }
theorem EinC_ok : EnvOk EinC := envOk tt_ok ⟨ccontI_valid, trivial⟩
theorem FinC_ok : FnOk EinC Try.f89 := ⟨rfl, rfl⟩
theorem EinC_t (x0 : Int) (x1_1 : Int) (x1_2_1 : Int) (x1_2_2_1 : List (List Int)) (x1_2_2_2_1 : List Int) (x1_2_2_2_2_1 : List Int) : exec EinC 1000 [.code (bodyOf Try.prog 89)] (initSt cinC.ps ((x0, (x1_1, x1_2_1, x1_2_2_1, x1_2_2_2_1, x1_2_2_2_2_1, ()), ()))) =
  .need (True) (.ret ((decide (x0 ∈ x1_2_2_2_1), ()))) := by kernel_rfl
theorem cinC_valid : cinC.Valid Try.prog 89 := by
  refine Ctr.valid_of EinC_ok rfl rfl Try.func89 (c := bodyOf Try.prog 89) rfl rfl FinC_ok rfl ?_
  rintro ⟨(x : Int), ⟨(n : Int), (h : Int), (w : List (List Int)), (l : List Int), (d : List Int), ⟨⟩⟩, ⟨⟩⟩ - -
  refine exec_sound (n := 1000) EinC_ok FinC_ok ?_
  refine holds_of_eq (EinC_t x n h w l d) ?_
  exact ⟨trivial, fun _ => rfl⟩
def cidxC : Ctr := { ps := [.v (.slc false I64), .clo 89 [Turn]], rs := [I64], pre := fun x => True, fn := fun x => (idxOf (inC x.2.1.1) x.1, ()), out := fun _ => () }
noncomputable def EidxC : Env := { P := Try.prog, tt := tt, ctr := [(89, cinC)], res := [Go.ResultVar.tmp 4], rs := [Ty.int IntKind.i64], ps := [PK.v (Ty.slc false (Ty.int IntKind.i64)), PK.clo 89 [Ty.pair (Ty.int IntKind.i64) (Ty.pair (Ty.int IntKind.i64) (Ty.pair (Ty.slc false (Ty.slc false (Ty.int IntKind.i64))) (Ty.pair (Ty.slc false (Ty.int IntKind.i64)) (Ty.pair (Ty.slc false (Ty.int IntKind.i64)) Ty.unit))))]], cuts := [(2, [(0, none), (1, none), (7, none), (8, none)])], nt := 19 }
theorem EidxC_ok : EnvOk EidxC := envOk tt_ok ⟨cinC_valid, trivial⟩
theorem FidxC_ok : FnOk EidxC Try.f123 := ⟨rfl, rfl⟩
theorem EidxC_t (x0 : List Int) (x1c0_1 : Int) (x1c0_2_1 : Int) (x1c0_2_2_1 : List (List Int)) (x1c0_2_2_2_1 : List Int) (x1c0_2_2_2_2_1 : List Int) : exec EidxC 1000 [.code (bodyOf Try.prog 123)] (initSt cidxC.ps ((x0, ((x1c0_1, x1c0_2_1, x1c0_2_2_1, x1c0_2_2_2_1, x1c0_2_2_2_2_1, ()), ()), ()))) =
  .cut (loopAt (bodyOf Try.prog 123) 2).1 (loopAt (bodyOf Try.prog 123) 2).2 (St.mk [(0, AV.val (Ty.slc false (Ty.int IntKind.i64)) x0), (1, AV.clo 89 (AV.cons (AV.rptr (Ty.pair (Ty.int IntKind.i64) (Ty.pair (Ty.int IntKind.i64) (Ty.pair (Ty.slc false (Ty.slc false (Ty.int IntKind.i64))) (Ty.pair (Ty.slc false (Ty.int IntKind.i64)) (Ty.pair (Ty.slc false (Ty.int IntKind.i64)) Ty.unit))))) (x1c0_1, x1c0_2_1, x1c0_2_2_1, x1c0_2_2_2_1, x1c0_2_2_2_2_1, ())) AV.nil)), (7, AV.val (Ty.int IntKind.i64) (↑(List.length x0) : Int)), (8, AV.val (Ty.int IntKind.i64) (0 : Int))] []) := by kernel_rfl
def EidxC_s2 (v0 : List Int) (v1a_1 : Int) (v1a_2_1 : Int) (v1a_2_2_1 : List (List Int)) (v1a_2_2_2_1 : List Int) (v1a_2_2_2_2_1 : List Int) (v7 : Int) (v8 : Int) : St := St.mk [(0, AV.val (Ty.slc false (Ty.int IntKind.i64)) v0), (1, AV.clo 89 (AV.cons (AV.rptr (Ty.pair (Ty.int IntKind.i64) (Ty.pair (Ty.int IntKind.i64) (Ty.pair (Ty.slc false (Ty.slc false (Ty.int IntKind.i64))) (Ty.pair (Ty.slc false (Ty.int IntKind.i64)) (Ty.pair (Ty.slc false (Ty.int IntKind.i64)) Ty.unit))))) (v1a_1, v1a_2_1, v1a_2_2_1, v1a_2_2_2_1, v1a_2_2_2_2_1, ())) AV.nil)), (7, AV.val (Ty.int IntKind.i64) v7), (8, AV.val (Ty.int IntKind.i64) v8)] []
theorem EidxC_l2 (v0 : List Int) (v1a_1 : Int) (v1a_2_1 : Int) (v1a_2_2_1 : List (List Int)) (v1a_2_2_2_1 : List Int) (v1a_2_2_2_2_1 : List Int) (v7 : Int) (v8 : Int) : exec EidxC 1000 (.code (loopAt (bodyOf Try.prog 123) 2).1 :: .inLoop (loopAt (bodyOf Try.prog 123) 2).1 :: (loopAt (bodyOf Try.prog 123) 2).2) (EidxC_s2 v0 v1a_1 v1a_2_1 v1a_2_2_1 v1a_2_2_2_1 v1a_2_2_2_2_1 v7 v8) =
  cond (decide (v8 < v7)) (.need ((0 : Int) ≤ v8 ∧ v8 < (↑(List.length v0) : Int)) (.need (True) (cond (inC (v1a_1, v1a_2_1, v1a_2_2_1, v1a_2_2_2_1, v1a_2_2_2_2_1, ()) (List.getD v0 (Int.toNat v8) (0 : Int))) (.ret ((v8, ()))) (.need (inK IntKind.i64 (v8 + (1 : Int))) (.cut (loopAt (bodyOf Try.prog 123) 2).1 (loopAt (bodyOf Try.prog 123) 2).2 (St.mk [(0, AV.val (Ty.slc false (Ty.int IntKind.i64)) v0), (1, AV.clo 89 (AV.cons (AV.rptr (Ty.pair (Ty.int IntKind.i64) (Ty.pair (Ty.int IntKind.i64) (Ty.pair (Ty.slc false (Ty.slc false (Ty.int IntKind.i64))) (Ty.pair (Ty.slc false (Ty.int IntKind.i64)) (Ty.pair (Ty.slc false (Ty.int IntKind.i64)) Ty.unit))))) (v1a_1, v1a_2_1, v1a_2_2_1, v1a_2_2_2_1, v1a_2_2_2_2_1, ())) AV.nil)), (7, AV.val (Ty.int IntKind.i64) v7), (8, AV.val (Ty.int IntKind.i64) (v8 + (1 : Int)))] [])))))) (.ret (((-1 : Int), ()))) := by kernel_rfl
theorem cidxC_valid : cidxC.Valid Try.prog 123 := by
  refine Ctr.valid_of EidxC_ok rfl rfl Try.func123 (c := bodyOf Try.prog 123) rfl rfl FidxC_ok rfl ?_
  rintro ⟨(l : List (Int)), ⟨⟨(q0 : Int), (q1 : Int), (q2 : List (List Int)), (q3 : List Int), (q4 : List Int), ⟨⟩⟩, ⟨⟩⟩, ⟨⟩⟩ - ⟨⟨hl, -⟩, -⟩
  have hl : l.length ≤ 9223372036854775807 := hl
  refine exec_sound (n := 1000) EidxC_ok FidxC_ok ?_
  refine holds_of_eq (EidxC_t l q0 q1 q2 q3 q4) ?_
  refine Reach.loopI EidxC_ok FidxC_ok (fun i : Nat => EidxC_s2 l q0 q1 q2 q3 q4 (l.length : Int) (i : Int)) (fun i => i ≤ l.length ∧ idxOf (inC (q0, q1, q2, q3, q4, ())) l = idxGo (inC (q0, q1, q2, q3, q4, ())) (l.drop i) i)
    (fun i => l.length - i) 1000 (fun _ => ⟨uniq_of rfl, uniq_of rfl⟩) ?_ 0 ⟨by omega, rfl⟩
  rintro i ⟨k1, k2⟩ - ih
  refine holds_of_eq (EidxC_l2 ..) ?_
  simp only [holds_cond, Tree.holds, true_and, true_implies, decide_eq_true_eq, decide_eq_false_iff_not, Bool.not_eq_true', Bool.not_eq_false', Int.toNat_natCast, inK_i64, List.length_set, List.length_cons, List.length_nil]
  refine ⟨fun h => ?_, fun h => ?_⟩
  · rw [drop_getD (show i < l.length by omega) 0, idxGo] at k2
    refine ⟨by omega, fun _ => ⟨fun c => ?_, fun c => ⟨by omega, fun _ => ih (i + 1) ⟨by omega, ?_⟩ (by omega)⟩⟩⟩
    · show (((i : Int), ()) : Int × Unit) = (idxOf (inC (q0, q1, q2, q3, q4, ())) l, ())
      rw [k2, if_pos c]
    · rw [k2, if_neg (fun h9 => Bool.noConfusion (Eq.trans (Eq.symm h9) c))]
  · rw [List.drop_eq_nil_of_le (by omega)] at k2
    show (((-1 : Int), ()) : Int × Unit) = (idxOf (inC (q0, q1, q2, q3, q4, ())) l, ())
    rw [k2]; rfl
def ccontC : Ctr := { ps := [.v (.slc false I64), .clo 89 [Turn]], rs := [.bool], pre := fun x => True, fn := fun x => (List.any (α := Int) x.1 (inC x.2.1.1), ()), out := fun _ => () }
noncomputable def EcontC : Env := { P := Try.prog, tt := tt, ctr := [(123, cidxC)], res := [Go.ResultVar.tmp 4], rs := [Ty.bool], ps := [PK.v (Ty.slc false (Ty.int IntKind.i64)), PK.clo 89 [Ty.pair (Ty.int IntKind.i64) (Ty.pair (Ty.int IntKind.i64) (Ty.pair (Ty.slc false (Ty.slc false (Ty.int IntKind.i64))) (Ty.pair (Ty.slc false (Ty.int IntKind.i64)) (Ty.pair (Ty.slc false (Ty.int IntKind.i64)) Ty.unit))))]], cuts := [], nt := 9 }
theorem EcontC_ok : EnvOk EcontC := envOk tt_ok ⟨cidxC_valid, trivial⟩
theorem FcontC_ok : FnOk EcontC Try.f83 := ⟨rfl, rfl⟩
theorem EcontC_t (x0 : List Int) (x1c0_1 : Int) (x1c0_2_1 : Int) (x1c0_2_2_1 : List (List Int)) (x1c0_2_2_2_1 : List Int) (x1c0_2_2_2_2_1 : List Int) : exec EcontC 1000 [.code (bodyOf Try.prog 83)] (initSt ccontC.ps ((x0, ((x1c0_1, x1c0_2_1, x1c0_2_2_1, x1c0_2_2_2_1, x1c0_2_2_2_2_1, ()), ()), ()))) =
  .need (True) (.ret ((decide ((0 : Int) ≤ idxOf (inC (x1c0_1, x1c0_2_1, x1c0_2_2_1, x1c0_2_2_2_1, x1c0_2_2_2_2_1, ())) x0), ()))) := by kernel_rfl
theorem ccontC_valid : ccontC.Valid Try.prog 83 := by
  refine Ctr.valid_of EcontC_ok rfl rfl Try.func83 (c := bodyOf Try.prog 83) rfl rfl FcontC_ok rfl ?_
  rintro ⟨(l : List (Int)), ⟨⟨(q0 : Int), (q1 : Int), (q2 : List (List Int)), (q3 : List Int), (q4 : List Int), ⟨⟩⟩, ⟨⟩⟩, ⟨⟩⟩ - -
  refine exec_sound (n := 1000) EcontC_ok FcontC_ok ?_
  refine holds_of_eq (EcontC_t l q0 q1 q2 q3 q4) ?_
  refine ⟨trivial, fun _ => ?_⟩
  show ((decide (0 ≤ idxOf (inC (q0, q1, q2, q3, q4, ())) l), ()) : Bool × Unit) = (l.any (inC (q0, q1, q2, q3, q4, ())), ())
  rw [idx_any]
def rowBad (t : TurnD) (p : Nat) : Bool := !inF (t.2.2.2.2.1.getD p 0) 0 t.2.2.2.1.length || decide ((30 : Int) < (t.2.2.1.getD p []).length) || twice (t.2.2.1.getD p []) || (t.2.2.1.getD p []).any (inC t)
def tcheck (t : TurnD) : Int := if inF t.1 1 6 = false then 1 else if inF t.2.1 0 (t.1 - 1) = false then 1 else if (100 : Int) < t.2.2.2.1.length then 1 else
  if (t.2.2.1.length : Int) ≠ t.1 then 4 else if (t.2.2.2.2.1.length : Int) ≠ t.1 then 4 else if twice t.2.2.2.1 = true then 4 else if anyN (rowBad t) t.2.2.1.length = true then 4 else 0
def ctcheck : Ctr := { ps := [.v Turn], rs := [I64], pre := fun _ => True, fn := fun x => (tcheck x.1, ()), out := fun _ => () }
noncomputable def Etcheck : Env := { P := Try.prog, tt := tt, ctr := [(87, ctin), (88, ctwice), (83, ccontC)], res := [Go.ResultVar.tmp 2], rs := [Ty.int IntKind.i64], ps := [PK.v (Ty.pair (Ty.int IntKind.i64) (Ty.pair (Ty.int IntKind.i64) (Ty.pair (Ty.slc false (Ty.slc false (Ty.int IntKind.i64))) (Ty.pair (Ty.slc false (Ty.int IntKind.i64)) (Ty.pair (Ty.slc false (Ty.int IntKind.i64)) Ty.unit)))))], cuts := [(6, [(1, none), (46, none), (47, none), (48, none)])], nt := 78 }
theorem Etcheck_ok : EnvOk Etcheck := envOk tt_ok ⟨ctin_valid, ctwice_valid, ccontC_valid, trivial⟩
theorem Ftcheck_ok : FnOk Etcheck Try.f32 := ⟨rfl, rfl⟩
theorem Etcheck_t (x0_1 : Int) (x0_2_1 : Int) (x0_2_2_1 : List (List Int)) (x0_2_2_2_1 : List Int) (x0_2_2_2_2_1 : List Int) : exec Etcheck 1000 [.code (bodyOf Try.prog 32)] (initSt ctcheck.ps (((x0_1, x0_2_1, x0_2_2_1, x0_2_2_2_1, x0_2_2_2_2_1, ()), ()))) =
  .need (True) (cond (!inF x0_1 (1 : Int) (6 : Int)) (.ret (((1 : Int), ()))) (.need (inK IntKind.i64 (x0_1 - (1 : Int))) (.need (True) (cond (!inF x0_2_1 (0 : Int) (x0_1 - (1 : Int))) (.ret (((1 : Int), ()))) (cond (decide ((100 : Int) < (↑(List.length x0_2_2_2_1) : Int))) (.ret (((1 : Int), ()))) (cond (decide ((↑(List.length x0_2_2_1) : Int) ≠ x0_1)) (.ret (((4 : Int), ()))) (cond (decide ((↑(List.length x0_2_2_2_2_1) : Int) ≠ x0_1)) (.ret (((4 : Int), ()))) (.need (True) (cond (twice x0_2_2_2_1) (.ret (((4 : Int), ()))) (.cut (loopAt (bodyOf Try.prog 32) 6).1 (loopAt (bodyOf Try.prog 32) 6).2 (St.mk [(1, AV.ptr 1 []), (46, AV.val (Ty.slc false (Ty.slc false (Ty.int IntKind.i64))) x0_2_2_1), (47, AV.val (Ty.int IntKind.i64) (↑(List.length x0_2_2_1) : Int)), (48, AV.val (Ty.int IntKind.i64) (0 : Int))] [(1, Ent.var (Ty.pair (Ty.int IntKind.i64) (Ty.pair (Ty.int IntKind.i64) (Ty.pair (Ty.slc false (Ty.slc false (Ty.int IntKind.i64))) (Ty.pair (Ty.slc false (Ty.int IntKind.i64)) (Ty.pair (Ty.slc false (Ty.int IntKind.i64)) Ty.unit))))) (x0_1, x0_2_1, x0_2_2_1, x0_2_2_2_1, x0_2_2_2_2_1, ()))]))))))))))) := by kernel_rfl
def Etcheck_s6 (v46 : List (List Int)) (v47 : Int) (v48 : Int) (o1_1 : Int) (o1_2_1 : Int) (o1_2_2_1 : List (List Int)) (o1_2_2_2_1 : List Int) (o1_2_2_2_2_1 : List Int) : St := St.mk [(1, AV.ptr 1 []), (46, AV.val (Ty.slc false (Ty.slc false (Ty.int IntKind.i64))) v46), (47, AV.val (Ty.int IntKind.i64) v47), (48, AV.val (Ty.int IntKind.i64) v48)] [(1, Ent.var (Ty.pair (Ty.int IntKind.i64) (Ty.pair (Ty.int IntKind.i64) (Ty.pair (Ty.slc false (Ty.slc false (Ty.int IntKind.i64))) (Ty.pair (Ty.slc false (Ty.int IntKind.i64)) (Ty.pair (Ty.slc false (Ty.int IntKind.i64)) Ty.unit))))) (o1_1, o1_2_1, o1_2_2_1, o1_2_2_2_1, o1_2_2_2_2_1, ()))]
theorem Etcheck_l6 (v46 : List (List Int)) (v47 : Int) (v48 : Int) (o1_1 : Int) (o1_2_1 : Int) (o1_2_2_1 : List (List Int)) (o1_2_2_2_1 : List Int) (o1_2_2_2_2_1 : List Int) : exec Etcheck 1000 (.code (loopAt (bodyOf Try.prog 32) 6).1 :: .inLoop (loopAt (bodyOf Try.prog 32) 6).1 :: (loopAt (bodyOf Try.prog 32) 6).2) (Etcheck_s6 v46 v47 v48 o1_1 o1_2_1 o1_2_2_1 o1_2_2_2_1 o1_2_2_2_2_1) =
  cond (decide (v48 < v47)) (.need ((0 : Int) ≤ v48 ∧ v48 < (↑(List.length v46) : Int)) (.need ((0 : Int) ≤ v48 ∧ v48 < (↑(List.length o1_2_2_2_2_1) : Int)) (.need (True) (cond (!inF (List.getD o1_2_2_2_2_1 (Int.toNat v48) (0 : Int)) (0 : Int) (↑(List.length o1_2_2_2_1) : Int)) (.ret (((4 : Int), ()))) (cond (decide ((30 : Int) < (↑(List.length (List.getD v46 (Int.toNat v48) [])) : Int))) (.ret (((4 : Int), ()))) (.need (True) (cond (twice (List.getD v46 (Int.toNat v48) [])) (.ret (((4 : Int), ()))) (.need (True) (cond (List.any (List.getD v46 (Int.toNat v48) []) (inC (o1_1, o1_2_1, o1_2_2_1, o1_2_2_2_1, o1_2_2_2_2_1, ()))) (.ret (((4 : Int), ()))) (.need (inK IntKind.i64 (v48 + (1 : Int))) (.cut (loopAt (bodyOf Try.prog 32) 6).1 (loopAt (bodyOf Try.prog 32) 6).2 (St.mk [(1, AV.ptr 1 []), (46, AV.val (Ty.slc false (Ty.slc false (Ty.int IntKind.i64))) v46), (47, AV.val (Ty.int IntKind.i64) v47), (48, AV.val (Ty.int IntKind.i64) (v48 + (1 : Int)))] [(1, Ent.var (Ty.pair (Ty.int IntKind.i64) (Ty.pair (Ty.int IntKind.i64) (Ty.pair (Ty.slc false (Ty.slc false (Ty.int IntKind.i64))) (Ty.pair (Ty.slc false (Ty.int IntKind.i64)) (Ty.pair (Ty.slc false (Ty.int IntKind.i64)) Ty.unit))))) (o1_1, o1_2_1, o1_2_2_1, o1_2_2_2_1, o1_2_2_2_2_1, ()))])))))))))))) (.ret (((0 : Int), ()))) := by kernel_rfl
theorem ctcheck_valid : ctcheck.Valid Try.prog 32 := by
  refine Ctr.valid_of Etcheck_ok rfl rfl Try.func32 (c := bodyOf Try.prog 32) rfl rfl Ftcheck_ok rfl ?_
  rintro ⟨⟨(n : Int), (h : Int), (w : List (List Int)), (l : List Int), (d : List Int), ⟨⟩⟩, ⟨⟩⟩ - ⟨⟨-, -, ⟨hw, -⟩, ⟨hl, -⟩, ⟨hd, -⟩, -⟩, -⟩
  have hw : w.length ≤ 9223372036854775807 := hw
  refine exec_sound (n := 1000) Etcheck_ok Ftcheck_ok ?_
  refine holds_of_eq (Etcheck_t n h w l d) ?_
  have key : ∀ {x : Int}, tcheck (n, h, w, l, d, ()) = x → ((x, ()) : Int × Unit) = (tcheck (n, h, w, l, d, ()), ()) := by rintro x rfl; rfl
  have hd : tcheck (n, h, w, l, d, ()) = if inF n 1 6 = false then 1 else if inF h 0 (n - 1) = false then 1 else if (100 : Int) < l.length then 1 else
    if (w.length : Int) ≠ n then 4 else if (d.length : Int) ≠ n then 4 else if twice l = true then 4 else if anyN (rowBad (n, h, w, l, d, ())) w.length = true then 4 else 0 := rfl
  simp only [holds_cond, Tree.holds, true_and, true_implies, decide_eq_true_eq, decide_eq_false_iff_not, Bool.not_eq_true', Bool.not_eq_false', Int.toNat_natCast, inK_i64, List.length_set, List.length_cons, List.length_nil]
  refine ⟨fun a => key (by rw [hd, if_pos a]), fun a => ?_⟩
  have hn := inF_iff.1 a
  rw [if_neg (tnf a)] at hd
  refine ⟨by omega, fun _ => ⟨fun b => key (by rw [hd, if_pos b]), fun b => ?_⟩⟩
  rw [if_neg (tnf b)] at hd
  refine ⟨fun c => key (by rw [hd, if_pos c]), fun c => ?_⟩
  rw [if_neg c] at hd
  refine ⟨fun c => key (by rw [hd, if_pos c]), fun c1 => ?_⟩
  rw [if_neg c1] at hd
  refine ⟨fun c => key (by rw [hd, if_pos c]), fun c2 => ?_⟩
  rw [if_neg c2] at hd
  refine ⟨fun c => key (by rw [hd, if_pos c]), fun c3 => ?_⟩
  rw [if_neg (by rw [c3]; simp)] at hd
  refine Reach.loopI Etcheck_ok Ftcheck_ok (fun i : Nat => Etcheck_s6 w (w.length : Int) (i : Int) n h w l d) (fun i => i ≤ w.length ∧ anyN (rowBad (n, h, w, l, d, ())) i = false) (fun i => w.length - i) 1000 (fun _ => ⟨uniq_of rfl, uniq_of rfl⟩) ?_ 0 ⟨by omega, rfl⟩
  rintro i ⟨k1, k2⟩ - ih
  have k1 : i ≤ w.length := k1
  refine holds_of_eq (Etcheck_l6 ..) ?_
  simp only [holds_cond, Tree.holds, true_and, true_implies, decide_eq_true_eq, decide_eq_false_iff_not, Bool.not_eq_true', Bool.not_eq_false', Int.toNat_natCast, inK_i64, List.length_set, List.length_cons, List.length_nil]
  have hb : rowBad (n, h, w, l, d, ()) i = (!inF (d.getD i 0) 0 l.length || decide ((30 : Int) < (w.getD i []).length) || twice (w.getD i []) || (w.getD i []).any (inC (n, h, w, l, d, ()))) := rfl
  refine ⟨fun a => ⟨by omega, fun _ => ⟨by omega, fun _ => ?_⟩⟩, fun a => key (by rw [hd, show w.length = i by omega, k2]; rfl)⟩
  have bad : rowBad (n, h, w, l, d, ()) i = true → ((4, ()) : Int × Unit) = (tcheck (n, h, w, l, d, ()), ()) := fun h9 => key (by rw [hd, if_pos (anyN_yes h9 (by omega))])
  refine ⟨fun e1 => bad (by rw [hb, e1]; rfl), fun e1 => ⟨fun e2 => bad (by rw [hb, decide_eq_true e2]; simp), fun e2 => ⟨fun e3 => bad (by rw [hb, e3]; simp), fun e3 => ⟨fun e4 => bad (by rw [hb, e4]; simp), fun e4 => ⟨by omega, fun _ => ih (i + 1) ⟨by omega, ?_⟩ (by omega)⟩⟩⟩⟩⟩
  rw [anyN, k2, hb, e1, decide_eq_false e2, e3, e4]; rfl
theorem take_sn {α : Type} {l : List α} {i : Nat} (h : i < l.length) (d : α) : l.take i ++ [l.getD i d] = l.take (i + 1) := by
  rw [List.getD_eq_getElem?_getD, List.getElem?_eq_getElem h]; simp
def ctclone : Ctr := { ps := [.v Turn], rs := [TurnO], pre := fun x => List.length (α := List Int) x.1.2.2.1 ≤ 1048576 ∧ List.length (α := Int) x.1.2.2.2.1 ≤ 1048576 ∧ List.length (α := Int) x.1.2.2.2.2.1 ≤ 1048576 ∧ ∀ i, i < List.length (α := List Int) x.1.2.2.1 → (List.getD (α := List Int) x.1.2.2.1 i []).length ≤ 1048576, fn := fun x => x, out := fun _ => () }
noncomputable def Etclone : Env := { P := Try.prog, tt := tt, ctr := [(33, cclI)], res := [Go.ResultVar.cell 2 63], rs := [Ty.pair (Ty.int IntKind.i64) (Ty.pair (Ty.int IntKind.i64) (Ty.pair (Ty.slc true Is) (Ty.pair Is (Ty.pair Is Ty.unit))))], ps := [PK.v (Ty.pair (Ty.int IntKind.i64) (Ty.pair (Ty.int IntKind.i64) (Ty.pair (Ty.slc false (Ty.slc false (Ty.int IntKind.i64))) (Ty.pair (Ty.slc false (Ty.int IntKind.i64)) (Ty.pair (Ty.slc false (Ty.int IntKind.i64)) Ty.unit)))))], cuts := [(3, [(2, none), (3, none), (18, none), (19, none), (20, none)])], nt := 33 }
theorem Etclone_ok : EnvOk Etclone := envOk tt_ok ⟨cclI_valid, trivial⟩
theorem Ftclone_ok : FnOk Etclone Try.f91 := ⟨rfl, rfl⟩
theorem Etclone_t (x0_1 : Int) (x0_2_1 : Int) (x0_2_2_1 : List (List Int)) (x0_2_2_2_1 : List Int) (x0_2_2_2_2_1 : List Int) : exec Etclone 1000 [.code (bodyOf Try.prog 91)] (initSt ctclone.ps (((x0_1, x0_2_1, x0_2_2_1, x0_2_2_2_1, x0_2_2_2_2_1, ()), ()))) =
  .need (List.length x0_2_2_2_1 ≤ 1048576) (.need (List.length x0_2_2_2_2_1 ≤ 1048576) (.cut (loopAt (bodyOf Try.prog 91) 3).1 (loopAt (bodyOf Try.prog 91) 3).2 (St.mk [(2, AV.ptr 2 []), (3, AV.ptr 3 []), (18, AV.val (Ty.slc false (Ty.slc false (Ty.int IntKind.i64))) x0_2_2_1), (19, AV.val (Ty.int IntKind.i64) (↑(List.length x0_2_2_1) : Int)), (20, AV.val (Ty.int IntKind.i64) (0 : Int))] [(2, Ent.var (Ty.pair (Ty.int IntKind.i64) (Ty.pair (Ty.int IntKind.i64) (Ty.pair (Ty.slc true Is) (Ty.pair Is (Ty.pair Is Ty.unit))))) ((0 : Int), (0 : Int), [], [], [], ())), (3, Ent.var (Ty.pair (Ty.int IntKind.i64) (Ty.pair (Ty.int IntKind.i64) (Ty.pair (Ty.slc true Is) (Ty.pair Is (Ty.pair Is Ty.unit))))) (x0_1, x0_2_1, [], x0_2_2_2_1, x0_2_2_2_2_1, ()))]))) := by kernel_rfl
def Etclone_s3 (v18 : List (List Int)) (v19 : Int) (v20 : Int) (o2_1 : Int) (o2_2_1 : Int) (o2_2_2_1 : List (List Int)) (o2_2_2_2_1 : List Int) (o2_2_2_2_2_1 : List Int) (o3_1 : Int) (o3_2_1 : Int) (o3_2_2_1 : List (List Int)) (o3_2_2_2_1 : List Int) (o3_2_2_2_2_1 : List Int) : St := St.mk [(2, AV.ptr 2 []), (3, AV.ptr 3 []), (18, AV.val (Ty.slc false (Ty.slc false (Ty.int IntKind.i64))) v18), (19, AV.val (Ty.int IntKind.i64) v19), (20, AV.val (Ty.int IntKind.i64) v20)] [(2, Ent.var (Ty.pair (Ty.int IntKind.i64) (Ty.pair (Ty.int IntKind.i64) (Ty.pair (Ty.slc true Is) (Ty.pair Is (Ty.pair Is Ty.unit))))) (o2_1, o2_2_1, o2_2_2_1, o2_2_2_2_1, o2_2_2_2_2_1, ())), (3, Ent.var (Ty.pair (Ty.int IntKind.i64) (Ty.pair (Ty.int IntKind.i64) (Ty.pair (Ty.slc true Is) (Ty.pair Is (Ty.pair Is Ty.unit))))) (o3_1, o3_2_1, o3_2_2_1, o3_2_2_2_1, o3_2_2_2_2_1, ()))]
theorem Etclone_l3 (v18 : List (List Int)) (v19 : Int) (v20 : Int) (o2_1 : Int) (o2_2_1 : Int) (o2_2_2_1 : List (List Int)) (o2_2_2_2_1 : List Int) (o2_2_2_2_2_1 : List Int) (o3_1 : Int) (o3_2_1 : Int) (o3_2_2_1 : List (List Int)) (o3_2_2_2_1 : List Int) (o3_2_2_2_2_1 : List Int) : exec Etclone 1000 (.code (loopAt (bodyOf Try.prog 91) 3).1 :: .inLoop (loopAt (bodyOf Try.prog 91) 3).1 :: (loopAt (bodyOf Try.prog 91) 3).2) (Etclone_s3 v18 v19 v20 o2_1 o2_2_1 o2_2_2_1 o2_2_2_2_1 o2_2_2_2_2_1 o3_1 o3_2_1 o3_2_2_1 o3_2_2_2_1 o3_2_2_2_2_1) =
  cond (decide (v20 < v19)) (.need ((0 : Int) ≤ v20 ∧ v20 < (↑(List.length v18) : Int)) (.need (List.length (List.getD v18 (Int.toNat v20) []) ≤ 1048576) (.need ([] ++ [Step.fld 2] = [] ++ [Step.fld 2] ∧ List.length o3_2_2_1 + List.length (List.set [[]] (Int.toNat (↑0 : Int)) (List.getD v18 (Int.toNat v20) [])) ≤ 140737488355328 ∧ (List.length o3_2_2_1 + List.length (List.set [[]] (Int.toNat (↑0 : Int)) (List.getD v18 (Int.toNat v20) []))) * Ty.wb Is ≤ 140737488355328) (.need (inK IntKind.i64 (v20 + (1 : Int))) (.cut (loopAt (bodyOf Try.prog 91) 3).1 (loopAt (bodyOf Try.prog 91) 3).2 (St.mk [(2, AV.ptr 2 []), (3, AV.ptr 3 []), (18, AV.val (Ty.slc false (Ty.slc false (Ty.int IntKind.i64))) v18), (19, AV.val (Ty.int IntKind.i64) v19), (20, AV.val (Ty.int IntKind.i64) (v20 + (1 : Int)))] [(2, Ent.var (Ty.pair (Ty.int IntKind.i64) (Ty.pair (Ty.int IntKind.i64) (Ty.pair (Ty.slc true Is) (Ty.pair Is (Ty.pair Is Ty.unit))))) (o2_1, o2_2_1, o2_2_2_1, o2_2_2_2_1, o2_2_2_2_2_1, ())), (3, Ent.var (Ty.pair (Ty.int IntKind.i64) (Ty.pair (Ty.int IntKind.i64) (Ty.pair (Ty.slc true Is) (Ty.pair Is (Ty.pair Is Ty.unit))))) (o3_1, o3_2_1, o3_2_2_1 ++ List.set [[]] (Int.toNat (↑0 : Int)) (List.getD v18 (Int.toNat v20) []), o3_2_2_2_1, o3_2_2_2_2_1, ()))])))))) (.ret (((o3_1, o3_2_1, o3_2_2_1, o3_2_2_2_1, o3_2_2_2_2_1, ()), ()))) := by kernel_rfl
theorem ctclone_valid : ctclone.Valid Try.prog 91 := by
  refine Ctr.valid_of Etclone_ok rfl rfl Try.func91 (c := bodyOf Try.prog 91) rfl rfl Ftclone_ok rfl ?_
  rintro ⟨⟨(n : Int), (h : Int), (w : List (List Int)), (l : List Int), (d : List Int), ⟨⟩⟩, ⟨⟩⟩ ⟨(h1 : w.length ≤ 1048576), (h2 : l.length ≤ 1048576), (h3 : d.length ≤ 1048576), (h4 : ∀ i, i < w.length → (w.getD i []).length ≤ 1048576)⟩ -
  refine exec_sound (n := 1000) Etclone_ok Ftclone_ok ?_
  refine holds_of_eq (Etclone_t n h w l d) ?_
  refine ⟨h2, fun _ => ⟨h3, fun _ => ?_⟩⟩
  refine Reach.loopI Etclone_ok Ftclone_ok (fun i : Nat => Etclone_s3 w (w.length : Int) (i : Int) 0 0 [] [] [] n h (w.take i) l d) (fun i => i ≤ w.length) (fun i => w.length - i) 1000 (fun _ => ⟨uniq_of rfl, uniq_of rfl⟩) ?_ 0 (by omega)
  rintro i k1 - ih
  have k1 : i ≤ w.length := k1
  refine holds_of_eq (Etclone_l3 ..) ?_
  have hw : Ty.wb (.slc true (.int .i64)) = 24 := rfl
  simp only [holds_cond, Tree.holds, true_and, true_implies, decide_eq_true_eq, decide_eq_false_iff_not, Bool.not_eq_true', Bool.not_eq_false', Int.toNat_natCast, inK_i64, List.length_set, List.length_cons, List.length_nil, hw]
  refine ⟨fun c => ?_, fun c => ?_⟩
  · have hi : i < w.length := by omega
    have next := ih (i + 1) (by show i + 1 ≤ w.length; omega) (by omega)
    rw [← take_sn hi []] at next
    have hln : (w.take i).length ≤ 1048576 := by rw [List.length_take]; omega
    exact ⟨by omega, fun _ => ⟨h4 i hi, fun _ => ⟨⟨by omega, by omega⟩, fun _ => ⟨by omega, fun _ => next⟩⟩⟩⟩
  · show ((n, h, w.take i, l, d, ()), ()) = (((n, h, w, l, d, ()), ()) : TurnD × Unit)
    rw [List.take_of_length_le (by omega)]
end Go.Proofs.Ytbcdpeogfghgcaa
