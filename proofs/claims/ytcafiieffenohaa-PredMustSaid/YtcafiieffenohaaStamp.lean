/- The contracts of the package stamp's functions. -/
import Derived.Test.YtcafiieffenohaaTys
namespace Go.Proofs.Ytcafiieffenohaa
open Go.Ex
set_option maxRecDepth 100000
abbrev Ev := Int × Int × Int × Unit
abbrev Ck : Ty := .pair (.arr 30 I64) (.pair (.arr 30 (.arr 6 .bool)) .unit)
abbrev CkD := List Int × List (List Bool) × Unit

theorem inK_i64 {n : Int} : inK .i64 n ↔ -9223372036854775808 ≤ n ∧ n ≤ 9223372036854775807 := Iff.rfl
theorem wb_i64 : Ty.wb (Ty.int IntKind.i64) = 8 := rfl
theorem wb_vec : Ty.wb Vec = 48 := rfl
theorem wb_pair : Ty.wb PairT = 16 := rfl
def inF (n a b : Int) : Bool := decide (a ≤ n) && decide (n ≤ b)
theorem inF_iff {n a b : Int} : inF n a b = true ↔ a ≤ n ∧ n ≤ b := by simp [inF]
theorem inF_if {n a b : Int} : cond (decide (a ≤ n)) (decide (n ≤ b)) false = inF n a b := by simp [inF, Bool.cond_eq_ite]
def csin : Ctr := { ps := [.v I64, .v I64, .v I64], rs := [.bool], pre := fun _ => True, fn := fun x => (inF x.1 x.2.1 x.2.2.1, ()), out := fun _ => () }
noncomputable def Esin : Env := { P := Try.prog, tt := tt, ctr := [], res := [Go.ResultVar.tmp 6], rs := [Ty.bool], ps := [PK.v (Ty.int IntKind.i64), PK.v (Ty.int IntKind.i64), PK.v (Ty.int IntKind.i64)], cuts := [], nt := 15 }
theorem Esin_ok : EnvOk Esin := envOk tt_ok trivial
theorem Fsin_ok : FnOk Esin Try.f90 := ⟨rfl, rfl⟩
theorem Esin_t (x0 : Int) (x1 : Int) (x2 : Int) : exec Esin 1000 [.code (bodyOf Try.prog 90)] (initSt csin.ps ((x0, x1, x2, ()))) =
  cond (decide (x1 ≤ x0)) (.ret ((decide (x0 ≤ x2), ()))) (.ret ((false, ()))) := by kernel_rfl
theorem csin_valid : csin.Valid Try.prog 90 := by
  refine Ctr.valid_of Esin_ok rfl rfl Try.func90 (c := bodyOf Try.prog 90) rfl rfl Fsin_ok rfl ?_
  rintro ⟨(a : Int), (b : Int), (c : Int), ⟨⟩⟩ - -
  refine exec_sound (n := 1000) Esin_ok Fsin_ok ?_
  refine holds_of_eq (Esin_t a b c) ?_
  simp only [holds_cond, Tree.holds, true_and, true_implies, decide_eq_true_eq, decide_eq_false_iff_not, Bool.not_eq_true', Bool.not_eq_false', Int.toNat_natCast, inK_i64, List.length_set, List.length_cons, List.length_nil]
  repeat' first | exact trivial | (refine And.intro ?_ ?_) | (intro _)
  all_goals (show ((_, ()) : Bool × Unit) = (inF a b c, ()); simp [inF, *])

abbrev f6 : List Bool := [false, false, false, false, false, false]
abbrev e0 : Ev := (0, 0, 0, ())
def evErr (c : CkD) (e : Ev) : Int :=
  if inF e.1 0 5 = false then 1 else if inF e.2.2.1 0 29 = false then 1
  else if e.2.1 = 1 then (if e.2.2.1 ≠ 0 then 4 else 0)
  else if e.2.1 = 2 then (if 0 < c.1.getD e.2.2.1.toNat 0 then 4 else 0)
  else if e.2.1 = 3 then (if c.1.getD e.2.2.1.toNat 0 = 0 then 4 else if c.1.getD e.2.2.1.toNat 0 = e.1 + 1 then 4 else if (c.2.1.getD e.2.2.1.toNat f6).getD e.1.toNat false = true then 4 else 0)
  else 4
def evSt (c : CkD) (e : Ev) : CkD :=
  if evErr c e ≠ 0 then c
  else if e.2.1 = 2 then (c.1.set e.2.2.1.toNat (e.1 + 1), c.2)
  else if e.2.1 = 3 then (c.1, c.2.1.set e.2.2.1.toNat ((c.2.1.getD e.2.2.1.toNat f6).set e.1.toNat true), ())
  else c
def cevent : Ctr := { ps := [.rw Ck, .v Event], rs := [I64], pre := fun _ => True, fn := fun x => (evErr x.1 x.2.1, ()), out := fun x => (evSt x.1 x.2.1, ()) }
noncomputable def Eevent : Env := { P := Try.prog, tt := tt, ctr := [(90, csin)], res := [Go.ResultVar.tmp 4], rs := [Ty.int IntKind.i64], ps := [PK.rw Ck, PK.v Event], cuts := [], nt := 85 }
theorem Eevent_ok : EnvOk Eevent := envOk tt_ok ⟨csin_valid, trivial⟩
theorem Fevent_ok : FnOk Eevent Try.f73 := ⟨rfl, rfl⟩
theorem Eevent_t (x0_1 : List Int) (x0_2_1 : List (List Bool)) (x1_1 : Int) (x1_2_1 : Int) (x1_2_2_1 : Int) : exec Eevent 1000 [.code (bodyOf Try.prog 73)] (initSt cevent.ps (((x0_1, x0_2_1, ()), (x1_1, x1_2_1, x1_2_2_1, ()), ()))) =
  .need (True) (cond (!inF x1_1 (0 : Int) (5 : Int)) (.ret (((1 : Int), (x0_1, x0_2_1, ()), ()))) (.need (True) (cond (!inF x1_2_2_1 (0 : Int) (29 : Int)) (.ret (((1 : Int), (x0_1, x0_2_1, ()), ()))) (cond (decide (x1_2_1 = (1 : Int))) (cond (decide (x1_2_2_1 ≠ (0 : Int))) (.ret (((4 : Int), (x0_1, x0_2_1, ()), ()))) (.ret (((0 : Int), (x0_1, x0_2_1, ()), ())))) (cond (decide (x1_2_1 = (2 : Int))) (.need ((0 : Int) ≤ x1_2_2_1 ∧ x1_2_2_1 < (↑30 : Int)) (cond (decide ((0 : Int) < List.getD x0_1 (Int.toNat x1_2_2_1) (0 : Int))) (.ret (((4 : Int), (x0_1, x0_2_1, ()), ()))) (.need (inK IntKind.i64 (x1_1 + (1 : Int))) (.need ((0 : Int) ≤ x1_2_2_1 ∧ x1_2_2_1 < (↑30 : Int)) (.ret (((0 : Int), (List.set x0_1 (Int.toNat x1_2_2_1) (x1_1 + (1 : Int)), x0_2_1, ()), ()))))))) (cond (decide (x1_2_1 = (3 : Int))) (.need ((0 : Int) ≤ x1_2_2_1 ∧ x1_2_2_1 < (↑30 : Int)) (cond (decide (List.getD x0_1 (Int.toNat x1_2_2_1) (0 : Int) = (0 : Int))) (.ret (((4 : Int), (x0_1, x0_2_1, ()), ()))) (.need ((0 : Int) ≤ x1_2_2_1 ∧ x1_2_2_1 < (↑30 : Int)) (.need (inK IntKind.i64 (x1_1 + (1 : Int))) (cond (decide (List.getD x0_1 (Int.toNat x1_2_2_1) (0 : Int) = x1_1 + (1 : Int))) (.ret (((4 : Int), (x0_1, x0_2_1, ()), ()))) (.need ((0 : Int) ≤ x1_2_2_1 ∧ x1_2_2_1 < (↑30 : Int)) (.need ((0 : Int) ≤ x1_1 ∧ x1_1 < (↑6 : Int)) (cond (List.getD (List.getD x0_2_1 (Int.toNat x1_2_2_1) [false, false, false, false, false, false]) (Int.toNat x1_1) false) (.ret (((4 : Int), (x0_1, x0_2_1, ()), ()))) (.need ((0 : Int) ≤ x1_2_2_1 ∧ x1_2_2_1 < (↑30 : Int)) (.need ((0 : Int) ≤ x1_1 ∧ x1_1 < (↑6 : Int)) (.ret (((0 : Int), (x0_1, List.set x0_2_1 (Int.toNat x1_2_2_1) (List.set (List.getD x0_2_1 (Int.toNat x1_2_2_1) [false, false, false, false, false, false]) (Int.toNat x1_1) true), ()), ()))))))))))))) (.ret (((4 : Int), (x0_1, x0_2_1, ()), ()))))))))) := by kernel_rfl
theorem cevent_valid : cevent.Valid Try.prog 73 := by
  refine Ctr.valid_of Eevent_ok rfl rfl Try.func73 (c := bodyOf Try.prog 73) rfl rfl Fevent_ok rfl ?_
  rintro ⟨⟨(sd : List Int), (tk : List (List Bool)), ⟨⟩⟩, ⟨(p : Int), (k : Int), (m : Int), ⟨⟩⟩, ⟨⟩⟩ - -
  refine exec_sound (n := 1000) Eevent_ok Fevent_ok ?_
  refine holds_of_eq (Eevent_t sd tk p k m) ?_
  simp only [holds_cond, Tree.holds, true_and, true_implies, decide_eq_true_eq, decide_eq_false_iff_not, Bool.not_eq_true', Bool.not_eq_false', Int.toNat_natCast, inK_i64, List.length_set, List.length_cons, List.length_nil]
  repeat' first | exact trivial | (refine And.intro ?_ ?_) | (intro _)
  all_goals first
    | (simp only [inF_iff] at *; omega)
    | (show _ = (evErr (sd, tk, ()) (p, k, m, ()), evSt (sd, tk, ()) (p, k, m, ()), ()); simp [-List.getD_eq_getElem?_getD, evErr, evSt, *]; try rfl)

def ck0 : CkD := (List.replicate 30 0, List.replicate 30 f6, ())
def checkGo (c : CkD) : List Ev → Int
  | [] => 0
  | e :: l => if evErr c e ≠ 0 then evErr c e else checkGo (evSt c e) l
def scheck (h : List Ev) : Int := if 60 < h.length then 2 else checkGo ck0 h
def cscheck : Ctr := { ps := [.v Es], rs := [I64], pre := fun _ => True, fn := fun x => (scheck x.1, ()), out := fun _ => () }
noncomputable def Escheck : Env := { P := Try.prog, tt := tt, ctr := [(73, cevent)], res := [Go.ResultVar.tmp 2], rs := [Ty.int IntKind.i64], ps := [PK.v Es], cuts := [(5, [(3, none), (12, none), (13, none), (14, none)])], nt := 25 }
theorem Escheck_ok : EnvOk Escheck := envOk tt_ok ⟨cevent_valid, trivial⟩
theorem Fscheck_ok : FnOk Escheck Try.f42 := ⟨rfl, rfl⟩
theorem Escheck_t (x0 : List (Int × Int × Int × Unit)) : exec Escheck 1000 [.code (bodyOf Try.prog 42)] (initSt cscheck.ps ((x0, ()))) =
  cond (decide ((60 : Int) < (↑(List.length x0) : Int))) (.ret (((2 : Int), ()))) (.cut (loopAt (bodyOf Try.prog 42) 5).1 (loopAt (bodyOf Try.prog 42) 5).2 (St.mk [(3, AV.ptr 11 []), (12, AV.val Es x0), (13, AV.val (Ty.int IntKind.i64) (↑(List.length x0) : Int)), (14, AV.val (Ty.int IntKind.i64) (0 : Int))] [(11, Ent.var Ck ([(0 : Int), (0 : Int), (0 : Int), (0 : Int), (0 : Int), (0 : Int), (0 : Int), (0 : Int), (0 : Int), (0 : Int), (0 : Int), (0 : Int), (0 : Int), (0 : Int), (0 : Int), (0 : Int), (0 : Int), (0 : Int), (0 : Int), (0 : Int), (0 : Int), (0 : Int), (0 : Int), (0 : Int), (0 : Int), (0 : Int), (0 : Int), (0 : Int), (0 : Int), (0 : Int)], [[false, false, false, false, false, false], [false, false, false, false, false, false], [false, false, false, false, false, false], [false, false, false, false, false, false], [false, false, false, false, false, false], [false, false, false, false, false, false], [false, false, false, false, false, false], [false, false, false, false, false, false], [false, false, false, false, false, false], [false, false, false, false, false, false], [false, false, false, false, false, false], [false, false, false, false, false, false], [false, false, false, false, false, false], [false, false, false, false, false, false], [false, false, false, false, false, false], [false, false, false, false, false, false], [false, false, false, false, false, false], [false, false, false, false, false, false], [false, false, false, false, false, false], [false, false, false, false, false, false], [false, false, false, false, false, false], [false, false, false, false, false, false], [false, false, false, false, false, false], [false, false, false, false, false, false], [false, false, false, false, false, false], [false, false, false, false, false, false], [false, false, false, false, false, false], [false, false, false, false, false, false], [false, false, false, false, false, false], [false, false, false, false, false, false]], ()))])) := by kernel_rfl
def Escheck_s5 (v12 : List (Int × Int × Int × Unit)) (v13 : Int) (v14 : Int) (o11_1 : List Int) (o11_2_1 : List (List Bool)) : St := St.mk [(3, AV.ptr 11 []), (12, AV.val Es v12), (13, AV.val (Ty.int IntKind.i64) v13), (14, AV.val (Ty.int IntKind.i64) v14)] [(11, Ent.var Ck (o11_1, o11_2_1, ()))]
theorem Escheck_l5 (v12 : List (Int × Int × Int × Unit)) (v13 : Int) (v14 : Int) (o11_1 : List Int) (o11_2_1 : List (List Bool)) : exec Escheck 1000 (.code (loopAt (bodyOf Try.prog 42) 5).1 :: .inLoop (loopAt (bodyOf Try.prog 42) 5).1 :: (loopAt (bodyOf Try.prog 42) 5).2) (Escheck_s5 v12 v13 v14 o11_1 o11_2_1) =
  cond (decide (v14 < v13)) (.need ((0 : Int) ≤ v14 ∧ v14 < (↑(List.length v12) : Int)) (.need (True) (cond (decide (evErr (o11_1, o11_2_1, ()) (List.getD v12 (Int.toNat v14) ((0 : Int), (0 : Int), (0 : Int), ())) ≠ (0 : Int))) (.ret ((evErr (o11_1, o11_2_1, ()) (List.getD v12 (Int.toNat v14) ((0 : Int), (0 : Int), (0 : Int), ())), ()))) (.need (inK IntKind.i64 (v14 + (1 : Int))) (.cut (loopAt (bodyOf Try.prog 42) 5).1 (loopAt (bodyOf Try.prog 42) 5).2 (St.mk [(3, AV.ptr 11 []), (12, AV.val Es v12), (13, AV.val (Ty.int IntKind.i64) v13), (14, AV.val (Ty.int IntKind.i64) (v14 + (1 : Int)))] [(11, Ent.var Ck (evSt (o11_1, o11_2_1, ()) (List.getD v12 (Int.toNat v14) ((0 : Int), (0 : Int), (0 : Int), ()))))])))))) (.ret (((0 : Int), ()))) := by kernel_rfl
theorem drop_getD {α : Type} {l : List α} {i : Nat} (h : i < l.length) (d : α) : l.drop i = l.getD i d :: l.drop (i + 1) := by
  rw [List.drop_eq_getElem_cons h, List.getD_eq_getElem?_getD, List.getElem?_eq_getElem h]; rfl
theorem cscheck_valid : cscheck.Valid Try.prog 42 := by
  refine Ctr.valid_of Escheck_ok rfl rfl Try.func42 (c := bodyOf Try.prog 42) rfl rfl Fscheck_ok rfl ?_
  rintro ⟨(h : List Ev), ⟨⟩⟩ - -
  refine exec_sound (n := 1000) Escheck_ok Fscheck_ok ?_
  refine holds_of_eq (Escheck_t h) ?_
  simp only [holds_cond, Tree.holds, true_and, true_implies, decide_eq_true_eq, decide_eq_false_iff_not, Bool.not_eq_true', Bool.not_eq_false', Int.toNat_natCast, inK_i64, List.length_set, List.length_cons, List.length_nil]
  refine ⟨fun a => ?_, fun a => ?_⟩
  · show ((2, ()) : Int × Unit) = (scheck h, ()); simp [scheck, show 60 < h.length by omega]
  have ha : ¬ 60 < h.length := by omega
  refine Reach.loopI Escheck_ok Fscheck_ok (fun s : Nat × CkD => Escheck_s5 h (h.length : Int) (s.1 : Int) s.2.1 s.2.2.1) (fun s => s.1 ≤ h.length ∧ scheck h = checkGo s.2 (h.drop s.1))
    (fun s => h.length - s.1) 1000 (fun _ => ⟨uniq_of rfl, uniq_of rfl⟩) ?_ (0, ck0) ⟨by simp, by simp [scheck, ha]⟩
  rintro ⟨i, sd, tk, ⟨⟩⟩ ⟨k1, k2⟩ - ih
  have k1 : i ≤ h.length := k1
  have k2 : scheck h = checkGo (sd, tk, ()) (h.drop i) := k2
  refine holds_of_eq (Escheck_l5 ..) ?_
  by_cases hi : i < h.length
  · rw [drop_getD hi e0, checkGo] at k2
    simp only [holds_cond, Tree.holds, true_and, true_implies, decide_eq_true_eq, decide_eq_false_iff_not, Bool.not_eq_true', Bool.not_eq_false', Int.toNat_natCast, inK_i64, List.length_set, List.length_cons, List.length_nil]
    refine ⟨fun _ => ⟨by omega, fun _ => ⟨fun b => ?_, fun b => ⟨by omega, fun _ => ?_⟩⟩⟩, fun b => absurd b (by omega)⟩
    · show ((_, ()) : Int × Unit) = (scheck h, ()); rw [k2, if_pos b]
    · exact ih (i + 1, evSt (sd, tk, ()) (h.getD i e0)) ⟨hi, by rw [k2, if_neg b]⟩ (by show h.length - (i + 1) < h.length - i; omega)
  · rw [List.drop_eq_nil_of_le (by omega)] at k2
    simp only [holds_cond, Tree.holds, true_and, true_implies, decide_eq_true_eq, decide_eq_false_iff_not, Bool.not_eq_true', Bool.not_eq_false', Int.toNat_natCast, inK_i64, List.length_set, List.length_cons, List.length_nil]
    refine ⟨fun b => absurd b (by omega), fun b => ?_⟩
    show ((_, ()) : Int × Unit) = (scheck h, ()); rw [k2]; rfl

def maxI (a b : Int) : Int := if a < b then b else a
def tOf (last sent : List Int) (e : Ev) : Int := (if e.2.1 = 3 then (if last.getD e.1.toNat 0 < sent.getD e.2.2.1.toNat 0 then sent.getD e.2.2.1.toNat 0 else last.getD e.1.toNat 0) else last.getD e.1.toNat 0) + 1
def stGo (last sent : List Int) : List Ev → List Int
  | [] => []
  | e :: l => tOf last sent e :: stGo (last.set e.1.toNat (tOf last sent e)) (if e.2.1 = 2 then sent.set e.2.2.1.toNat (tOf last sent e) else sent) l
def stamps (h : List Ev) : List Int × Int × Unit := if scheck h ≠ 0 then ([], scheck h, ()) else (stGo (List.replicate 6 0) (List.replicate 30 0) h, 0, ())
def cstamps : Ctr := { ps := [.v Es], rs := [Is, I64], pre := fun _ => True, fn := fun x => stamps x.1, out := fun _ => () }

theorem evErr_rng {c : CkD} {e : Ev} (h : evErr c e = 0) : (0 ≤ e.1 ∧ e.1 ≤ 5) ∧ (0 ≤ e.2.2.1 ∧ e.2.2.1 ≤ 29) ∧ (e.2.1 = 1 ∨ e.2.1 = 2 ∨ e.2.1 = 3) := by
  unfold evErr at h
  split at h
  · cases h
  · rename_i h1
    split at h
    · cases h
    · rename_i h2
      refine ⟨inF_iff.1 (by simpa using h1), inF_iff.1 (by simpa using h2), ?_⟩
      split at h
      · rename_i h3; exact .inl h3
      · split at h
        · rename_i h3; exact .inr (.inl h3)
        · split at h
          · rename_i h3; exact .inr (.inr h3)
          · cases h
theorem checkGo_rng : ∀ {l : List Ev} {c : CkD}, checkGo c l = 0 → ∀ e ∈ l, (0 ≤ e.1 ∧ e.1 ≤ 5) ∧ (0 ≤ e.2.2.1 ∧ e.2.2.1 ≤ 29) ∧ (e.2.1 = 1 ∨ e.2.1 = 2 ∨ e.2.1 = 3)
  | [], _, _, e, he => by cases he
  | x :: l, c, h, e, he => by
    simp only [checkGo] at h
    split at h
    · rename_i h1; exact absurd h h1
    · rename_i h1
      rcases List.mem_cons.1 he with rfl | he
      · exact evErr_rng (Decidable.of_not_not h1)
      · exact checkGo_rng h e he
theorem scheck_ok {h : List Ev} (hh : scheck h = 0) : h.length ≤ 60 ∧ checkGo ck0 h = 0 := by
  unfold scheck at hh
  split at hh
  · cases hh
  · exact ⟨by omega, hh⟩
theorem getD_mem {α : Type} {l : List α} {i : Nat} {d : α} (h : i < l.length) : l.getD i d ∈ l := by
  rw [List.getD_eq_getElem?_getD, List.getElem?_eq_getElem h]; exact List.getElem_mem h
theorem scheck_rng {h : List Ev} (hh : scheck h = 0) {i : Nat} (hi : i < h.length) : (0 ≤ (h.getD i e0).1 ∧ (h.getD i e0).1 ≤ 5) ∧ (0 ≤ (h.getD i e0).2.2.1 ∧ (h.getD i e0).2.2.1 ≤ 29) ∧ ((h.getD i e0).2.1 = 1 ∨ (h.getD i e0).2.1 = 2 ∨ (h.getD i e0).2.1 = 3) :=
  checkGo_rng (scheck_ok hh).2 _ (getD_mem hi)
theorem getD_set {α : Type} {l : List α} {i j : Nat} {x d : α} (h : i < l.length) : (l.set i x).getD j d = if j = i then x else l.getD j d := by
  rw [List.getD_eq_getElem?_getD, List.getD_eq_getElem?_getD, List.getElem?_set]
  by_cases e : i = j
  · subst e; simp [h]
  · rw [if_neg e, if_neg (fun h => e h.symm)]
theorem getD_set_le {l : List Int} {i j : Nat} {x b : Int} (h : ∀ j, l.getD j 0 ≤ b ∧ 0 ≤ l.getD j 0) (hx : x ≤ b ∧ 0 ≤ x) : (l.set i x).getD j 0 ≤ b ∧ 0 ≤ (l.set i x).getD j 0 := by
  by_cases hi : i < l.length
  · rw [getD_set hi]; split
    · exact hx
    · exact h j
  · rw [List.set_eq_of_length_le (by omega)]; exact h j
theorem tOf_le {last sent : List Int} {e : Ev} {b : Int} (hl : ∀ j, last.getD j 0 ≤ b ∧ 0 ≤ last.getD j 0) (hs : ∀ j, sent.getD j 0 ≤ b ∧ 0 ≤ sent.getD j 0) : tOf last sent e ≤ b + 1 ∧ 1 ≤ tOf last sent e := by
  have h1 := hl e.1.toNat
  have h2 := hs e.2.2.1.toNat
  unfold tOf
  repeat' split
  all_goals omega

end Go.Proofs.Ytcafiieffenohaa
