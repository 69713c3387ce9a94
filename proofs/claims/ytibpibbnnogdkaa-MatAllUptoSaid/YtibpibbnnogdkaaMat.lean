/- The contracts of the package mat's functions. -/
import Derived.Test.YtibpibbnnogdkaaVect
namespace Go.Proofs.Ytibpibbnnogdkaa
open Go.Ex
set_option maxRecDepth 100000
abbrev MatD := Int × Int × List (List Int) × Unit
abbrev r0 : List (List Int) := [v0, v0, v0, v0, v0, v0]
def m0 : MatD := (0, 0, r0, ())
def cmin_ : Ctr := { ps := [.v I64, .v I64, .v I64], rs := [.bool], pre := fun _ => True, fn := fun x => (inF x.1 x.2.1 x.2.2.1, ()), out := fun _ => () }
noncomputable def Emin_ : Env := { P := Try.prog, tt := tt, ctr := [], res := [Go.ResultVar.tmp 6], rs := [Ty.bool], ps := [PK.v (Ty.int IntKind.i64), PK.v (Ty.int IntKind.i64), PK.v (Ty.int IntKind.i64)], cuts := [], nt := 15 }
theorem Emin__ok : EnvOk Emin_ := envOk tt_ok trivial
theorem Fmin__ok : FnOk Emin_ Try.f53 := ⟨rfl, rfl⟩
theorem Emin__t (x0 : Int) (x1 : Int) (x2 : Int) : exec Emin_ 1000 [.code (bodyOf Try.prog 53)] (initSt cmin_.ps ((x0, x1, x2, ()))) =
  cond (decide (x1 ≤ x0)) (.ret ((decide (x0 ≤ x2), ()))) (.ret ((false, ()))) := by kernel_rfl
theorem cmin__valid : cmin_.Valid Try.prog 53 := by
  refine Ctr.valid_of Emin__ok rfl rfl Try.func53 (c := bodyOf Try.prog 53) rfl rfl Fmin__ok rfl ?_
  rintro ⟨(a : Int), (b : Int), (c : Int), ⟨⟩⟩ - -
  refine exec_sound (n := 1000) Emin__ok Fmin__ok ?_
  refine holds_of_eq (Emin__t a b c) ?_
  simp only [holds_cond, Tree.holds, true_and, true_implies, decide_eq_true_eq, decide_eq_false_iff_not, Bool.not_eq_true', Bool.not_eq_false', Int.toNat_natCast, inK_i64, List.length_set, List.length_cons, List.length_nil]
  repeat' first | exact trivial | (refine And.intro ?_ ?_) | (intro _)
  all_goals (show ((_, ()) : Bool × Unit) = (inF a b c, ()); simp [inF, *])
/-- the first that is not 0, of f 0 .. f (k - 1) -/
def firstE (f : Nat → Int) : Nat → Int
  | 0 => 0
  | k + 1 => if firstE f k ≠ 0 then firstE f k else f k
theorem firstE_stop {f : Nat → Int} {k : Nat} (h0 : firstE f k = 0) (h1 : f k ≠ 0) : ∀ {n : Nat}, k < n → firstE f n = f k
  | 0, h => by omega
  | n + 1, h => by
    by_cases e : k = n
    · subst e; simp [firstE, h0]
    · have := firstE_stop h0 h1 (n := n) (by omega)
      simp [firstE, this, h1]
theorem firstE_step {f : Nat → Int} {k : Nat} (h0 : firstE f k = 0) (h1 : f k = 0) : firstE f (k + 1) = 0 := by simp [firstE, h0, h1]
theorem firstE_zero {f : Nat → Int} : ∀ {n : Nat}, firstE f n = 0 ↔ ∀ k, k < n → f k = 0
  | 0 => by simp [firstE]
  | n + 1 => by
    constructor
    · intro h k hk
      have h2 : firstE f n = 0 := by
        by_cases e : firstE f n = 0
        · exact e
        · rw [firstE, if_pos e] at h; exact absurd h e
      by_cases e : k = n
      · subst e; simpa [firstE, h2] using h
      · exact firstE_zero.1 h2 k (by omega)
    · intro h
      exact firstE_step (firstE_zero.2 (fun k hk => h k (by omega))) (h n (by omega))
def at2 (r : List (List Int)) (i j : Nat) : Int := (r.getD i v0).getD j 0
def cellE (m : MatD) (i j : Nat) : Int := if inF (at2 m.2.2.1 i j) 0 16777215 = false then 1 else if (0 < at2 m.2.2.1 i j ∧ (m.1 ≤ i ∨ m.1 ≤ j)) ∨ at2 m.2.2.1 m.2.1.toNat j < at2 m.2.2.1 i j then 4 else 0
def cellT (m : MatD) (t : Nat) : Int := cellE m (t / 6) (t % 6)
def mcheck (m : MatD) : Int := if inF m.1 1 6 = false then 1 else if inF m.2.1 0 (m.1 - 1) = false then 1 else firstE (cellT m) 36
def cmcheck : Ctr := { ps := [.v Matrix], rs := [I64], pre := fun _ => True, fn := fun x => (mcheck x.1, ()), out := fun _ => () }
noncomputable def Emcheck : Env := { P := Try.prog, tt := tt, ctr := [(53, cmin_)], res := [Go.ResultVar.tmp 2], rs := [Ty.int IntKind.i64], ps := [PK.v Matrix], cuts := [(4, [(1, none), (21, none), (22, none)]), (7, [(1, none), (3, none), (21, none), (22, none), (26, none), (27, none)])], nt := 63 }
theorem Emcheck_ok : EnvOk Emcheck := envOk tt_ok ⟨cmin__valid, trivial⟩
theorem Fmcheck_ok : FnOk Emcheck Try.f30 := ⟨rfl, rfl⟩
theorem Emcheck_t (x0_1 : Int) (x0_2_1 : Int) (x0_2_2_1 : List (List Int)) : exec Emcheck 1000 [.code (bodyOf Try.prog 30)] (initSt cmcheck.ps (((x0_1, x0_2_1, x0_2_2_1, ()), ()))) =
  .need (True) (cond (!inF x0_1 (1 : Int) (6 : Int)) (.ret (((1 : Int), ()))) (.need (inK IntKind.i64 (x0_1 - (1 : Int))) (.need (True) (cond (!inF x0_2_1 (0 : Int) (x0_1 - (1 : Int))) (.ret (((1 : Int), ()))) (.cut (loopAt (bodyOf Try.prog 30) 4).1 (loopAt (bodyOf Try.prog 30) 4).2 (St.mk [(1, AV.ptr 1 []), (21, AV.val (Ty.arr 6 Vec) x0_2_2_1), (22, AV.val (Ty.int IntKind.i64) (0 : Int))] [(1, Ent.var Matrix (x0_1, x0_2_1, x0_2_2_1, ()))])))))) := by kernel_rfl
def Emcheck_s4 (v21 : List (List Int)) (v22 : Int) (o1_1 : Int) (o1_2_1 : Int) (o1_2_2_1 : List (List Int)) : St := St.mk [(1, AV.ptr 1 []), (21, AV.val (Ty.arr 6 Vec) v21), (22, AV.val (Ty.int IntKind.i64) v22)] [(1, Ent.var Matrix (o1_1, o1_2_1, o1_2_2_1, ()))]
theorem Emcheck_l4 (v21 : List (List Int)) (v22 : Int) (o1_1 : Int) (o1_2_1 : Int) (o1_2_2_1 : List (List Int)) : exec Emcheck 1000 (.code (loopAt (bodyOf Try.prog 30) 4).1 :: .inLoop (loopAt (bodyOf Try.prog 30) 4).1 :: (loopAt (bodyOf Try.prog 30) 4).2) (Emcheck_s4 v21 v22 o1_1 o1_2_1 o1_2_2_1) =
  cond (decide (v22 < (6 : Int))) (.need ((0 : Int) ≤ v22 ∧ v22 < (↑6 : Int)) (.cut (loopAt (bodyOf Try.prog 30) 7).1 (loopAt (bodyOf Try.prog 30) 7).2 (St.mk [(1, AV.ptr 1 []), (3, AV.val (Ty.int IntKind.i64) v22), (21, AV.val (Ty.arr 6 Vec) v21), (22, AV.val (Ty.int IntKind.i64) v22), (26, AV.val Vec (List.getD v21 (Int.toNat v22) [(0 : Int), (0 : Int), (0 : Int), (0 : Int), (0 : Int), (0 : Int)])), (27, AV.val (Ty.int IntKind.i64) (0 : Int))] [(1, Ent.var Matrix (o1_1, o1_2_1, o1_2_2_1, ()))]))) (.ret (((0 : Int), ()))) := by kernel_rfl
def Emcheck_s7 (v3 : Int) (v21 : List (List Int)) (v22 : Int) (v26 : List Int) (v27 : Int) (o1_1 : Int) (o1_2_1 : Int) (o1_2_2_1 : List (List Int)) : St := St.mk [(1, AV.ptr 1 []), (3, AV.val (Ty.int IntKind.i64) v3), (21, AV.val (Ty.arr 6 Vec) v21), (22, AV.val (Ty.int IntKind.i64) v22), (26, AV.val Vec v26), (27, AV.val (Ty.int IntKind.i64) v27)] [(1, Ent.var Matrix (o1_1, o1_2_1, o1_2_2_1, ()))]
theorem Emcheck_l7 (v3 : Int) (v21 : List (List Int)) (v22 : Int) (v26 : List Int) (v27 : Int) (o1_1 : Int) (o1_2_1 : Int) (o1_2_2_1 : List (List Int)) : exec Emcheck 1000 (.code (loopAt (bodyOf Try.prog 30) 7).1 :: .inLoop (loopAt (bodyOf Try.prog 30) 7).1 :: (loopAt (bodyOf Try.prog 30) 7).2) (Emcheck_s7 v3 v21 v22 v26 v27 o1_1 o1_2_1 o1_2_2_1) =
  cond (decide (v27 < (6 : Int))) (.need ((0 : Int) ≤ v27 ∧ v27 < (↑6 : Int)) (.need (True) (cond (!inF (List.getD v26 (Int.toNat v27) (0 : Int)) (0 : Int) (16777215 : Int)) (.ret (((1 : Int), ()))) (cond (decide ((0 : Int) < List.getD v26 (Int.toNat v27) (0 : Int))) (cond (decide (o1_1 ≤ v3)) (.ret (((4 : Int), ()))) (cond (decide (o1_1 ≤ v27)) (.ret (((4 : Int), ()))) (.need ((0 : Int) ≤ o1_2_1 ∧ o1_2_1 < (↑6 : Int)) (.need ((0 : Int) ≤ v27 ∧ v27 < (↑6 : Int)) (cond (decide (List.getD (List.getD o1_2_2_1 (Int.toNat o1_2_1) [(0 : Int), (0 : Int), (0 : Int), (0 : Int), (0 : Int), (0 : Int)]) (Int.toNat v27) (0 : Int) < List.getD v26 (Int.toNat v27) (0 : Int))) (.ret (((4 : Int), ()))) (.need (inK IntKind.i64 (v27 + (1 : Int))) (.cut (loopAt (bodyOf Try.prog 30) 7).1 (loopAt (bodyOf Try.prog 30) 7).2 (St.mk [(1, AV.ptr 1 []), (3, AV.val (Ty.int IntKind.i64) v3), (21, AV.val (Ty.arr 6 Vec) v21), (22, AV.val (Ty.int IntKind.i64) v22), (26, AV.val Vec v26), (27, AV.val (Ty.int IntKind.i64) (v27 + (1 : Int)))] [(1, Ent.var Matrix (o1_1, o1_2_1, o1_2_2_1, ()))])))))))) (.need ((0 : Int) ≤ o1_2_1 ∧ o1_2_1 < (↑6 : Int)) (.need ((0 : Int) ≤ v27 ∧ v27 < (↑6 : Int)) (cond (decide (List.getD (List.getD o1_2_2_1 (Int.toNat o1_2_1) [(0 : Int), (0 : Int), (0 : Int), (0 : Int), (0 : Int), (0 : Int)]) (Int.toNat v27) (0 : Int) < List.getD v26 (Int.toNat v27) (0 : Int))) (.ret (((4 : Int), ()))) (.need (inK IntKind.i64 (v27 + (1 : Int))) (.cut (loopAt (bodyOf Try.prog 30) 7).1 (loopAt (bodyOf Try.prog 30) 7).2 (St.mk [(1, AV.ptr 1 []), (3, AV.val (Ty.int IntKind.i64) v3), (21, AV.val (Ty.arr 6 Vec) v21), (22, AV.val (Ty.int IntKind.i64) v22), (26, AV.val Vec v26), (27, AV.val (Ty.int IntKind.i64) (v27 + (1 : Int)))] [(1, Ent.var Matrix (o1_1, o1_2_1, o1_2_2_1, ()))])))))))))) (.need (inK IntKind.i64 (v22 + (1 : Int))) (.cut (loopAt (bodyOf Try.prog 30) 4).1 (loopAt (bodyOf Try.prog 30) 4).2 (St.mk [(1, AV.ptr 1 []), (21, AV.val (Ty.arr 6 Vec) v21), (22, AV.val (Ty.int IntKind.i64) (v22 + (1 : Int)))] [(1, Ent.var Matrix (o1_1, o1_2_1, o1_2_2_1, ()))]))) := by kernel_rfl
theorem cellT_at {m : MatD} {i j : Nat} (hj : j < 6) : cellT m (6 * i + j) = cellE m i j := by
  rw [cellT, show (6 * i + j) / 6 = i by omega, show (6 * i + j) % 6 = j by omega]
theorem cmcheck_valid : cmcheck.Valid Try.prog 30 := by
  refine Ctr.valid_of Emcheck_ok rfl rfl Try.func30 (c := bodyOf Try.prog 30) rfl rfl Fmcheck_ok rfl ?_
  rintro ⟨⟨(n : Int), (me : Int), (r : List (List Int)), ⟨⟩⟩, ⟨⟩⟩ - -
  refine exec_sound (n := 1000) Emcheck_ok Fmcheck_ok ?_
  refine holds_of_eq (Emcheck_t n me r) ?_
  simp only [holds_cond, Tree.holds, true_and, true_implies, Bool.not_eq_true', Bool.not_eq_false']
  have key : ∀ {x : Int}, x = mcheck (n, me, r, ()) → ((x, ()) : Int × Unit) = (mcheck (n, me, r, ()), ()) := by rintro x rfl; rfl
  refine ⟨fun a => key (by rw [mcheck, if_pos a]), fun a => ?_⟩
  have hn := inF_iff.1 a
  refine ⟨inK_i64.2 ⟨by omega, by omega⟩, fun _ => ⟨fun b => key (by rw [mcheck, if_neg (by simp [a]), if_pos b]), fun b => ?_⟩⟩
  have hme := inF_iff.1 b
  have hm : mcheck (n, me, r, ()) = firstE (cellT (n, me, r, ())) 36 := by rw [mcheck, if_neg (by simp [a]), if_neg (by simp [b])]
  refine Reach.loopI Emcheck_ok Fmcheck_ok (fun i : Nat => Emcheck_s4 r (i : Int) n me r) (fun i => i ≤ 6 ∧ firstE (cellT (n, me, r, ())) (6 * i) = 0) (fun i => 6 - i) 1000 (fun _ => ⟨uniq_of rfl, uniq_of rfl⟩) ?_ 0 ⟨by omega, rfl⟩
  rintro i ⟨k1, k2⟩ - ih
  refine holds_of_eq (Emcheck_l4 ..) ?_
  simp only [holds_cond, Tree.holds, true_and, true_implies, decide_eq_true_eq, decide_eq_false_iff_not, Bool.not_eq_true', Bool.not_eq_false', Int.toNat_natCast, inK_i64, List.length_set, List.length_cons, List.length_nil]
  refine ⟨fun c => ⟨by omega, fun _ => ?_⟩, fun c => key (by rw [hm, show (36 : Nat) = 6 * i by omega, k2])⟩
  have hi : i < 6 := by omega
  refine Reach.loopI Emcheck_ok Fmcheck_ok (fun j : Nat => Emcheck_s7 (i : Int) r (i : Int) (r.getD i v0) (j : Int) n me r) (fun j => j ≤ 6 ∧ firstE (cellT (n, me, r, ())) (6 * i + j) = 0) (fun j => 6 - j) 1000 (fun _ => ⟨uniq_of rfl, uniq_of rfl⟩) ?_ 0 ⟨by omega, k2⟩
  rintro j ⟨k3, k4⟩ - ih2
  refine holds_of_eq (Emcheck_l7 ..) ?_
  by_cases hj : j < 6
  · have hcell := cellT_at (m := (n, me, r, ())) (i := i) hj
    have hstop : ∀ {x : Int}, cellE (n, me, r, ()) i j = x → x ≠ 0 → x = mcheck (n, me, r, ()) := by
      rintro x rfl hx
      rw [hm, firstE_stop k4 (by rw [hcell]; exact hx) (by omega), hcell]
    have hstep := fun (h0 : cellE (n, me, r, ()) i j = 0) => ih2 (j + 1) ⟨by omega, firstE_step k4 (hcell.trans h0)⟩ (by omega)
    have hd : cellE (n, me, r, ()) i j = if inF (at2 r i j) 0 16777215 = false then 1 else if (0 < at2 r i j ∧ (n ≤ i ∨ n ≤ j)) ∨ at2 r me.toNat j < at2 r i j then 4 else 0 := rfl
    change Tree.holds _ _ _
    simp only [holds_cond, Tree.holds, true_and, true_implies, decide_eq_true_eq, decide_eq_false_iff_not, Bool.not_eq_true', Bool.not_eq_false', Int.toNat_natCast, inK_i64, List.length_set, List.length_cons, List.length_nil]
    rw [show (r.getD i v0).getD j 0 = at2 r i j from rfl, show (r.getD me.toNat [0, 0, 0, 0, 0, 0]).getD j 0 = at2 r me.toNat j from rfl]
    refine ⟨fun _ => ⟨by omega, fun _ => ⟨fun d => key (hstop (by rw [hd, if_pos d]) (by decide)), fun d => ?_⟩⟩, fun h => absurd h (by omega)⟩
    have hd2 : ¬ inF (at2 r i j) 0 16777215 = false := by simp [d]
    refine ⟨fun e => ⟨fun f => key (hstop (by rw [hd, if_neg hd2, if_pos (.inl ⟨e, .inl f⟩)]) (by decide)), fun f => ⟨fun g => key (hstop (by rw [hd, if_neg hd2, if_pos (.inl ⟨e, .inr g⟩)]) (by decide)), fun g => ⟨by omega, fun _ => ⟨by omega, fun _ => ⟨fun k => key (hstop (by rw [hd, if_neg hd2, if_pos (.inr k)]) (by decide)), fun k => ⟨by omega, fun _ => hstep (by rw [hd, if_neg hd2, if_neg (by rintro (⟨_, h | h⟩ | h) <;> contradiction)])⟩⟩⟩⟩⟩⟩,
      fun e => ⟨by omega, fun _ => ⟨by omega, fun _ => ⟨fun k => key (hstop (by rw [hd, if_neg hd2, if_pos (.inr k)]) (by decide)), fun k => ⟨by omega, fun _ => hstep (by rw [hd, if_neg hd2, if_neg (by rintro (⟨h, _⟩ | h) <;> contradiction)])⟩⟩⟩⟩⟩
  · have hj6 : j = 6 := by omega
    subst hj6
    simp only [holds_cond, Tree.holds, true_and, true_implies, decide_eq_true_eq, decide_eq_false_iff_not, Bool.not_eq_true', Bool.not_eq_false', Int.toNat_natCast, inK_i64, List.length_set, List.length_cons, List.length_nil]
    exact ⟨fun h => absurd h (by omega), fun _ => ⟨by omega, fun _ => ih (i + 1) ⟨by omega, by rw [show 6 * (i + 1) = 6 * i + 6 by omega]; exact k4⟩ (by omega)⟩⟩

/-- what a check that passes says -/
structure MOk (m : MatD) : Prop where
  n : 1 ≤ m.1 ∧ m.1 ≤ 6
  me : 0 ≤ m.2.1 ∧ m.2.1 < m.1
  c : ∀ i j, i < 6 → j < 6 → 0 ≤ at2 m.2.2.1 i j ∧ at2 m.2.2.1 i j ≤ 16777215
  z : ∀ i j, i < 6 → j < 6 → 0 < at2 m.2.2.1 i j → (i : Int) < m.1 ∧ (j : Int) < m.1
  d : ∀ i j, i < 6 → j < 6 → at2 m.2.2.1 i j ≤ at2 m.2.2.1 m.2.1.toNat j
theorem mcheck_iff {m : MatD} : mcheck m = 0 ↔ MOk m := by
  constructor
  · intro h
    unfold mcheck at h
    split at h
    · cases h
    · rename_i h1
      split at h
      · cases h
      · rename_i h2
        have h1 := inF_iff.1 (by simpa using h1)
        have h2 := inF_iff.1 (by simpa using h2)
        have hc : ∀ i j, i < 6 → j < 6 → cellE m i j = 0 := fun i j hi hj => by rw [← cellT_at hj]; exact firstE_zero.1 h _ (by omega)
        have hc2 : ∀ i j, i < 6 → j < 6 → (0 ≤ at2 m.2.2.1 i j ∧ at2 m.2.2.1 i j ≤ 16777215) ∧ ¬ ((0 < at2 m.2.2.1 i j ∧ (m.1 ≤ i ∨ m.1 ≤ j)) ∨ at2 m.2.2.1 m.2.1.toNat j < at2 m.2.2.1 i j) := by
          intro i j hi hj
          have := hc i j hi hj
          unfold cellE at this
          split at this
          · cases this
          · rename_i h3
            split at this
            · cases this
            · rename_i h4; exact ⟨inF_iff.1 (by simpa using h3), h4⟩
        refine ⟨h1, by omega, fun i j hi hj => (hc2 i j hi hj).1, fun i j hi hj hp => ?_, fun i j hi hj => ?_⟩
        · have := (hc2 i j hi hj).2
          omega
        · have := (hc2 i j hi hj).2
          omega
  · intro h
    rw [mcheck, if_neg (by simp [inF_iff.2 h.n]), if_neg (by simp [inF_iff.2 (show 0 ≤ m.2.1 ∧ m.2.1 ≤ m.1 - 1 from ⟨h.me.1, by have := h.me.2; omega⟩)])]
    refine firstE_zero.2 (fun k hk => ?_)
    rw [cellT, cellE]
    have h1 := h.c (k / 6) (k % 6) (by omega) (by omega)
    have h2 := h.z (k / 6) (k % 6) (by omega) (by omega)
    have h3 := h.d (k / 6) (k % 6) (by omega) (by omega)
    rw [if_neg (by simp [inF_iff.2 h1]), if_neg (by omega)]

def mnew (n me : Int) : MatD × Int × Unit := if mcheck (n, me, r0, ()) ≠ 0 then (m0, mcheck (n, me, r0, ()), ()) else ((n, me, r0, ()), 0, ())
def cmnew : Ctr := { ps := [.v I64, .v I64], rs := [Matrix, I64], pre := fun _ => True, fn := fun x => mnew x.1 x.2.1, out := fun _ => () }
noncomputable def Emnew : Env := { P := Try.prog, tt := tt, ctr := [(30, cmcheck)], res := [Go.ResultVar.cell 4 26, Go.ResultVar.tmp 5], rs := [Ty.pair (Ty.int IntKind.i64) (Ty.pair (Ty.int IntKind.i64) (Ty.pair (Ty.arr 6 Vec) Ty.unit)), Ty.int IntKind.i64], ps := [PK.v (Ty.int IntKind.i64), PK.v (Ty.int IntKind.i64)], cuts := [], nt := 18 }
theorem Emnew_ok : EnvOk Emnew := envOk tt_ok ⟨cmcheck_valid, trivial⟩
theorem Fmnew_ok : FnOk Emnew Try.f19 := ⟨rfl, rfl⟩
theorem Emnew_t (x0 : Int) (x1 : Int) : exec Emnew 1000 [.code (bodyOf Try.prog 19)] (initSt cmnew.ps ((x0, x1, ()))) =
  .need (True) (cond (decide (mcheck (x0, x1, [[(0 : Int), (0 : Int), (0 : Int), (0 : Int), (0 : Int), (0 : Int)], [(0 : Int), (0 : Int), (0 : Int), (0 : Int), (0 : Int), (0 : Int)], [(0 : Int), (0 : Int), (0 : Int), (0 : Int), (0 : Int), (0 : Int)], [(0 : Int), (0 : Int), (0 : Int), (0 : Int), (0 : Int), (0 : Int)], [(0 : Int), (0 : Int), (0 : Int), (0 : Int), (0 : Int), (0 : Int)], [(0 : Int), (0 : Int), (0 : Int), (0 : Int), (0 : Int), (0 : Int)]], ()) ≠ (0 : Int))) (.ret ((((0 : Int), (0 : Int), [[(0 : Int), (0 : Int), (0 : Int), (0 : Int), (0 : Int), (0 : Int)], [(0 : Int), (0 : Int), (0 : Int), (0 : Int), (0 : Int), (0 : Int)], [(0 : Int), (0 : Int), (0 : Int), (0 : Int), (0 : Int), (0 : Int)], [(0 : Int), (0 : Int), (0 : Int), (0 : Int), (0 : Int), (0 : Int)], [(0 : Int), (0 : Int), (0 : Int), (0 : Int), (0 : Int), (0 : Int)], [(0 : Int), (0 : Int), (0 : Int), (0 : Int), (0 : Int), (0 : Int)]], ()), mcheck (x0, x1, [[(0 : Int), (0 : Int), (0 : Int), (0 : Int), (0 : Int), (0 : Int)], [(0 : Int), (0 : Int), (0 : Int), (0 : Int), (0 : Int), (0 : Int)], [(0 : Int), (0 : Int), (0 : Int), (0 : Int), (0 : Int), (0 : Int)], [(0 : Int), (0 : Int), (0 : Int), (0 : Int), (0 : Int), (0 : Int)], [(0 : Int), (0 : Int), (0 : Int), (0 : Int), (0 : Int), (0 : Int)], [(0 : Int), (0 : Int), (0 : Int), (0 : Int), (0 : Int), (0 : Int)]], ()), ()))) (.ret (((x0, x1, [[(0 : Int), (0 : Int), (0 : Int), (0 : Int), (0 : Int), (0 : Int)], [(0 : Int), (0 : Int), (0 : Int), (0 : Int), (0 : Int), (0 : Int)], [(0 : Int), (0 : Int), (0 : Int), (0 : Int), (0 : Int), (0 : Int)], [(0 : Int), (0 : Int), (0 : Int), (0 : Int), (0 : Int), (0 : Int)], [(0 : Int), (0 : Int), (0 : Int), (0 : Int), (0 : Int), (0 : Int)], [(0 : Int), (0 : Int), (0 : Int), (0 : Int), (0 : Int), (0 : Int)]], ()), (0 : Int), ())))) := by kernel_rfl
theorem cmnew_valid : cmnew.Valid Try.prog 19 := by
  refine Ctr.valid_of Emnew_ok rfl rfl Try.func19 (c := bodyOf Try.prog 19) rfl rfl Fmnew_ok rfl ?_
  rintro ⟨(n : Int), (me : Int), ⟨⟩⟩ - -
  refine exec_sound (n := 1000) Emnew_ok Fmnew_ok ?_
  refine holds_of_eq (Emnew_t n me) ?_
  simp only [holds_cond, Tree.holds, true_and, true_implies, decide_eq_true_eq, decide_eq_false_iff_not, Bool.not_eq_true', Bool.not_eq_false', Int.toNat_natCast, inK_i64, List.length_set, List.length_cons, List.length_nil]
  refine ⟨fun a => ?_, fun a => ?_⟩
  · show ((m0, mcheck (n, me, r0, ()), ()) : MatD × Int × Unit) = mnew n me; rw [mnew, if_pos a]
  · show (((n, me, r0, ()), 0, ()) : MatD × Int × Unit) = mnew n me; rw [mnew, if_neg a]
def bump (r : List (List Int)) (i : Nat) : List (List Int) := r.set i ((r.getD i v0).set i (at2 r i i + 1))
def mdid (m : MatD) : MatD × Int × Unit := if mcheck m ≠ 0 then (m0, mcheck m, ()) else if at2 m.2.2.1 m.2.1.toNat m.2.1.toNat = 16777215 then (m0, 8, ()) else ((m.1, m.2.1, bump m.2.2.1 m.2.1.toNat, ()), 0, ())
def cmdid : Ctr := { ps := [.v Matrix], rs := [Matrix, I64], pre := fun _ => True, fn := fun x => mdid x.1, out := fun _ => () }
noncomputable def Emdid : Env := { P := Try.prog, tt := tt, ctr := [(30, cmcheck)], res := [Go.ResultVar.cell 2 26, Go.ResultVar.tmp 3], rs := [Ty.pair (Ty.int IntKind.i64) (Ty.pair (Ty.int IntKind.i64) (Ty.pair (Ty.arr 6 Vec) Ty.unit)), Ty.int IntKind.i64], ps := [PK.v Matrix], cuts := [], nt := 34 }
theorem Emdid_ok : EnvOk Emdid := envOk tt_ok ⟨cmcheck_valid, trivial⟩
theorem Fmdid_ok : FnOk Emdid Try.f20 := ⟨rfl, rfl⟩
theorem Emdid_t (x0_1 : Int) (x0_2_1 : Int) (x0_2_2_1 : List (List Int)) : exec Emdid 1000 [.code (bodyOf Try.prog 20)] (initSt cmdid.ps (((x0_1, x0_2_1, x0_2_2_1, ()), ()))) =
  .need (True) (cond (decide (mcheck (x0_1, x0_2_1, x0_2_2_1, ()) ≠ (0 : Int))) (.ret ((((0 : Int), (0 : Int), [[(0 : Int), (0 : Int), (0 : Int), (0 : Int), (0 : Int), (0 : Int)], [(0 : Int), (0 : Int), (0 : Int), (0 : Int), (0 : Int), (0 : Int)], [(0 : Int), (0 : Int), (0 : Int), (0 : Int), (0 : Int), (0 : Int)], [(0 : Int), (0 : Int), (0 : Int), (0 : Int), (0 : Int), (0 : Int)], [(0 : Int), (0 : Int), (0 : Int), (0 : Int), (0 : Int), (0 : Int)], [(0 : Int), (0 : Int), (0 : Int), (0 : Int), (0 : Int), (0 : Int)]], ()), mcheck (x0_1, x0_2_1, x0_2_2_1, ()), ()))) (.need ((0 : Int) ≤ x0_2_1 ∧ x0_2_1 < (↑6 : Int)) (.need ((0 : Int) ≤ x0_2_1 ∧ x0_2_1 < (↑6 : Int)) (cond (decide (List.getD (List.getD x0_2_2_1 (Int.toNat x0_2_1) [(0 : Int), (0 : Int), (0 : Int), (0 : Int), (0 : Int), (0 : Int)]) (Int.toNat x0_2_1) (0 : Int) = (16777215 : Int))) (.ret ((((0 : Int), (0 : Int), [[(0 : Int), (0 : Int), (0 : Int), (0 : Int), (0 : Int), (0 : Int)], [(0 : Int), (0 : Int), (0 : Int), (0 : Int), (0 : Int), (0 : Int)], [(0 : Int), (0 : Int), (0 : Int), (0 : Int), (0 : Int), (0 : Int)], [(0 : Int), (0 : Int), (0 : Int), (0 : Int), (0 : Int), (0 : Int)], [(0 : Int), (0 : Int), (0 : Int), (0 : Int), (0 : Int), (0 : Int)], [(0 : Int), (0 : Int), (0 : Int), (0 : Int), (0 : Int), (0 : Int)]], ()), (8 : Int), ()))) (.need ((0 : Int) ≤ x0_2_1 ∧ x0_2_1 < (↑6 : Int)) (.need ((0 : Int) ≤ x0_2_1 ∧ x0_2_1 < (↑6 : Int)) (.need (inK IntKind.i64 (List.getD (List.getD x0_2_2_1 (Int.toNat x0_2_1) [(0 : Int), (0 : Int), (0 : Int), (0 : Int), (0 : Int), (0 : Int)]) (Int.toNat x0_2_1) (0 : Int) + (1 : Int))) (.need ((0 : Int) ≤ x0_2_1 ∧ x0_2_1 < (↑6 : Int)) (.need ((0 : Int) ≤ x0_2_1 ∧ x0_2_1 < (↑6 : Int)) (.ret (((x0_1, x0_2_1, List.set x0_2_2_1 (Int.toNat x0_2_1) (List.set (List.getD x0_2_2_1 (Int.toNat x0_2_1) [(0 : Int), (0 : Int), (0 : Int), (0 : Int), (0 : Int), (0 : Int)]) (Int.toNat x0_2_1) (List.getD (List.getD x0_2_2_1 (Int.toNat x0_2_1) [(0 : Int), (0 : Int), (0 : Int), (0 : Int), (0 : Int), (0 : Int)]) (Int.toNat x0_2_1) (0 : Int) + (1 : Int))), ()), (0 : Int), ())))))))))))) := by kernel_rfl
theorem cmdid_valid : cmdid.Valid Try.prog 20 := by
  refine Ctr.valid_of Emdid_ok rfl rfl Try.func20 (c := bodyOf Try.prog 20) rfl rfl Fmdid_ok rfl ?_
  rintro ⟨⟨(n : Int), (me : Int), (r : List (List Int)), ⟨⟩⟩, ⟨⟩⟩ - -
  refine exec_sound (n := 1000) Emdid_ok Fmdid_ok ?_
  refine holds_of_eq (Emdid_t n me r) ?_
  simp only [holds_cond, Tree.holds, true_and, true_implies, decide_eq_true_eq, decide_eq_false_iff_not]
  refine ⟨fun a => ?_, fun a => ?_⟩
  · show ((m0, mcheck (n, me, r, ()), ()) : MatD × Int × Unit) = mdid (n, me, r, ()); rw [mdid, if_pos a]
  · have ho := mcheck_iff.1 (Decidable.of_not_not a)
    have h1 : 1 ≤ n ∧ n ≤ 6 := ho.n
    have h2 : 0 ≤ me ∧ me < n := ho.me
    have h3 := ho.c me.toNat me.toNat (by omega) (by omega)
    have h3 : 0 ≤ at2 r me.toNat me.toNat ∧ at2 r me.toNat me.toNat ≤ 16777215 := h3
    rw [show (r.getD me.toNat [0, 0, 0, 0, 0, 0]).getD me.toNat 0 = at2 r me.toNat me.toNat from rfl]
    have hI : @LE.le Int Int.instLEInt 0 me ∧ @LT.lt Int Int.instLTInt me ((6 : Nat) : Int) := ⟨by omega, by omega⟩
    refine ⟨hI, fun _ => ⟨hI, fun _ => ⟨fun b => ?_, fun b => ⟨hI, fun _ => ⟨hI, fun _ => ⟨inK_i64.2 ⟨by omega, by omega⟩, fun _ => ⟨hI, fun _ => ⟨hI, fun _ => ?_⟩⟩⟩⟩⟩⟩⟩⟩
    · show ((m0, 8, ()) : MatD × Int × Unit) = mdid (n, me, r, ()); rw [mdid, if_neg a, if_pos b]
    · show (((n, me, bump r me.toNat, ()), 0, ()) : MatD × Int × Unit) = mdid (n, me, r, ()); rw [mdid, if_neg a, if_neg b]
def maxRows (a b : List (List Int)) : List (List Int) := (List.range 6).map (fun i => vmax (a.getD i v0) (b.getD i v0))
def mmeet (m o : MatD) : MatD × Int × Unit := if mcheck m ≠ 0 then (m0, mcheck m, ()) else if mcheck o ≠ 0 then (m0, mcheck o, ()) else if m.1 ≠ o.1 then (m0, 1, ()) else if m.2.1 = o.2.1 then (m0, 1, ()) else
  ((m.1, m.2.1, (maxRows m.2.2.1 o.2.2.1).set m.2.1.toNat (vmax ((maxRows m.2.2.1 o.2.2.1).getD m.2.1.toNat v0) (o.2.2.1.getD o.2.1.toNat v0)), ()), 0, ())
def cmmeet : Ctr := { ps := [.v Matrix, .v Matrix], rs := [Matrix, I64], pre := fun _ => True, fn := fun x => mmeet x.1 x.2.1, out := fun _ => () }
noncomputable def Emmeet : Env := { P := Try.prog, tt := tt, ctr := [(30, cmcheck), (24, cvmax)], res := [Go.ResultVar.cell 4 26, Go.ResultVar.tmp 5], rs := [Ty.pair (Ty.int IntKind.i64) (Ty.pair (Ty.int IntKind.i64) (Ty.pair (Ty.arr 6 Vec) Ty.unit)), Ty.int IntKind.i64], ps := [PK.v Matrix, PK.v Matrix], cuts := [(2, [(2, none), (3, none), (4, none), (12, some (Ty.slc true Matrix)), (13, none), (14, none)]), (11, [(2, none), (3, none), (4, none), (38, none)])], nt := 70 }
theorem Emmeet_ok : EnvOk Emmeet := envOk tt_ok ⟨cmcheck_valid, cvmax_valid, trivial⟩
theorem Fmmeet_ok : FnOk Emmeet Try.f31 := ⟨rfl, rfl⟩
theorem Emmeet_t (x0_1 : Int) (x0_2_1 : Int) (x0_2_2_1 : List (List Int)) (x1_1 : Int) (x1_2_1 : Int) (x1_2_2_1 : List (List Int)) : exec Emmeet 1000 [.code (bodyOf Try.prog 31)] (initSt cmmeet.ps (((x0_1, x0_2_1, x0_2_2_1, ()), (x1_1, x1_2_1, x1_2_2_1, ()), ()))) =
  .cut (loopAt (bodyOf Try.prog 31) 2).1 (loopAt (bodyOf Try.prog 31) 2).2 (St.mk [(2, AV.ptr 2 []), (3, AV.ptr 3 []), (4, AV.ptr 4 []), (12, AV.at_ 1000012 []), (13, AV.val (Ty.int IntKind.i64) (↑(List.length (List.set (List.set [((0 : Int), (0 : Int), [[(0 : Int), (0 : Int), (0 : Int), (0 : Int), (0 : Int), (0 : Int)], [(0 : Int), (0 : Int), (0 : Int), (0 : Int), (0 : Int), (0 : Int)], [(0 : Int), (0 : Int), (0 : Int), (0 : Int), (0 : Int), (0 : Int)], [(0 : Int), (0 : Int), (0 : Int), (0 : Int), (0 : Int), (0 : Int)], [(0 : Int), (0 : Int), (0 : Int), (0 : Int), (0 : Int), (0 : Int)], [(0 : Int), (0 : Int), (0 : Int), (0 : Int), (0 : Int), (0 : Int)]], ()), ((0 : Int), (0 : Int), [[(0 : Int), (0 : Int), (0 : Int), (0 : Int), (0 : Int), (0 : Int)], [(0 : Int), (0 : Int), (0 : Int), (0 : Int), (0 : Int), (0 : Int)], [(0 : Int), (0 : Int), (0 : Int), (0 : Int), (0 : Int), (0 : Int)], [(0 : Int), (0 : Int), (0 : Int), (0 : Int), (0 : Int), (0 : Int)], [(0 : Int), (0 : Int), (0 : Int), (0 : Int), (0 : Int), (0 : Int)], [(0 : Int), (0 : Int), (0 : Int), (0 : Int), (0 : Int), (0 : Int)]], ())] (Int.toNat (↑0 : Int)) (x0_1, x0_2_1, x0_2_2_1, ())) (Int.toNat (↑1 : Int)) (x1_1, x1_2_1, x1_2_2_1, ()))) : Int)), (14, AV.val (Ty.int IntKind.i64) (0 : Int))] [(2, Ent.var Matrix (x0_1, x0_2_1, x0_2_2_1, ())), (3, Ent.var Matrix (x1_1, x1_2_1, x1_2_2_1, ())), (4, Ent.var Matrix ((0 : Int), (0 : Int), [[(0 : Int), (0 : Int), (0 : Int), (0 : Int), (0 : Int), (0 : Int)], [(0 : Int), (0 : Int), (0 : Int), (0 : Int), (0 : Int), (0 : Int)], [(0 : Int), (0 : Int), (0 : Int), (0 : Int), (0 : Int), (0 : Int)], [(0 : Int), (0 : Int), (0 : Int), (0 : Int), (0 : Int), (0 : Int)], [(0 : Int), (0 : Int), (0 : Int), (0 : Int), (0 : Int), (0 : Int)], [(0 : Int), (0 : Int), (0 : Int), (0 : Int), (0 : Int), (0 : Int)]], ())), (1000012, Ent.own (Ty.slc true Matrix) (List.set (List.set [((0 : Int), (0 : Int), [[(0 : Int), (0 : Int), (0 : Int), (0 : Int), (0 : Int), (0 : Int)], [(0 : Int), (0 : Int), (0 : Int), (0 : Int), (0 : Int), (0 : Int)], [(0 : Int), (0 : Int), (0 : Int), (0 : Int), (0 : Int), (0 : Int)], [(0 : Int), (0 : Int), (0 : Int), (0 : Int), (0 : Int), (0 : Int)], [(0 : Int), (0 : Int), (0 : Int), (0 : Int), (0 : Int), (0 : Int)], [(0 : Int), (0 : Int), (0 : Int), (0 : Int), (0 : Int), (0 : Int)]], ()), ((0 : Int), (0 : Int), [[(0 : Int), (0 : Int), (0 : Int), (0 : Int), (0 : Int), (0 : Int)], [(0 : Int), (0 : Int), (0 : Int), (0 : Int), (0 : Int), (0 : Int)], [(0 : Int), (0 : Int), (0 : Int), (0 : Int), (0 : Int), (0 : Int)], [(0 : Int), (0 : Int), (0 : Int), (0 : Int), (0 : Int), (0 : Int)], [(0 : Int), (0 : Int), (0 : Int), (0 : Int), (0 : Int), (0 : Int)], [(0 : Int), (0 : Int), (0 : Int), (0 : Int), (0 : Int), (0 : Int)]], ())] (Int.toNat (↑0 : Int)) (x0_1, x0_2_1, x0_2_2_1, ())) (Int.toNat (↑1 : Int)) (x1_1, x1_2_1, x1_2_2_1, ())))]) := by kernel_rfl
def Emmeet_s2 (v13 : Int) (v14 : Int) (o2_1 : Int) (o2_2_1 : Int) (o2_2_2_1 : List (List Int)) (o3_1 : Int) (o3_2_1 : Int) (o3_2_2_1 : List (List Int)) (o4_1 : Int) (o4_2_1 : Int) (o4_2_2_1 : List (List Int)) (o1000012 : List (Int × Int × List (List Int) × Unit)) : St := St.mk [(2, AV.ptr 2 []), (3, AV.ptr 3 []), (4, AV.ptr 4 []), (12, AV.at_ 1000012 []), (13, AV.val (Ty.int IntKind.i64) v13), (14, AV.val (Ty.int IntKind.i64) v14)] [(2, Ent.var Matrix (o2_1, o2_2_1, o2_2_2_1, ())), (3, Ent.var Matrix (o3_1, o3_2_1, o3_2_2_1, ())), (4, Ent.var Matrix (o4_1, o4_2_1, o4_2_2_1, ())), (1000012, Ent.own (Ty.slc true Matrix) o1000012)]
theorem Emmeet_l2 (v13 : Int) (v14 : Int) (o2_1 : Int) (o2_2_1 : Int) (o2_2_2_1 : List (List Int)) (o3_1 : Int) (o3_2_1 : Int) (o3_2_2_1 : List (List Int)) (o4_1 : Int) (o4_2_1 : Int) (o4_2_2_1 : List (List Int)) (o1000012 : List (Int × Int × List (List Int) × Unit)) : exec Emmeet 1000 (.code (loopAt (bodyOf Try.prog 31) 2).1 :: .inLoop (loopAt (bodyOf Try.prog 31) 2).1 :: (loopAt (bodyOf Try.prog 31) 2).2) (Emmeet_s2 v13 v14 o2_1 o2_2_1 o2_2_2_1 o3_1 o3_2_1 o3_2_2_1 o4_1 o4_2_1 o4_2_2_1 o1000012) =
  cond (decide (v14 < v13)) (.need ((0 : Int) ≤ v14 ∧ v14 < (↑(List.length o1000012) : Int)) (.need (True) (cond (decide (mcheck (List.getD o1000012 (Int.toNat v14) ((0 : Int), (0 : Int), [[(0 : Int), (0 : Int), (0 : Int), (0 : Int), (0 : Int), (0 : Int)], [(0 : Int), (0 : Int), (0 : Int), (0 : Int), (0 : Int), (0 : Int)], [(0 : Int), (0 : Int), (0 : Int), (0 : Int), (0 : Int), (0 : Int)], [(0 : Int), (0 : Int), (0 : Int), (0 : Int), (0 : Int), (0 : Int)], [(0 : Int), (0 : Int), (0 : Int), (0 : Int), (0 : Int), (0 : Int)], [(0 : Int), (0 : Int), (0 : Int), (0 : Int), (0 : Int), (0 : Int)]], ())) ≠ (0 : Int))) (.ret ((((0 : Int), (0 : Int), [[(0 : Int), (0 : Int), (0 : Int), (0 : Int), (0 : Int), (0 : Int)], [(0 : Int), (0 : Int), (0 : Int), (0 : Int), (0 : Int), (0 : Int)], [(0 : Int), (0 : Int), (0 : Int), (0 : Int), (0 : Int), (0 : Int)], [(0 : Int), (0 : Int), (0 : Int), (0 : Int), (0 : Int), (0 : Int)], [(0 : Int), (0 : Int), (0 : Int), (0 : Int), (0 : Int), (0 : Int)], [(0 : Int), (0 : Int), (0 : Int), (0 : Int), (0 : Int), (0 : Int)]], ()), mcheck (List.getD o1000012 (Int.toNat v14) ((0 : Int), (0 : Int), [[(0 : Int), (0 : Int), (0 : Int), (0 : Int), (0 : Int), (0 : Int)], [(0 : Int), (0 : Int), (0 : Int), (0 : Int), (0 : Int), (0 : Int)], [(0 : Int), (0 : Int), (0 : Int), (0 : Int), (0 : Int), (0 : Int)], [(0 : Int), (0 : Int), (0 : Int), (0 : Int), (0 : Int), (0 : Int)], [(0 : Int), (0 : Int), (0 : Int), (0 : Int), (0 : Int), (0 : Int)], [(0 : Int), (0 : Int), (0 : Int), (0 : Int), (0 : Int), (0 : Int)]], ())), ()))) (.need (inK IntKind.i64 (v14 + (1 : Int))) (.cut (loopAt (bodyOf Try.prog 31) 2).1 (loopAt (bodyOf Try.prog 31) 2).2 (St.mk [(2, AV.ptr 2 []), (3, AV.ptr 3 []), (4, AV.ptr 4 []), (12, AV.at_ 1000012 []), (13, AV.val (Ty.int IntKind.i64) v13), (14, AV.val (Ty.int IntKind.i64) (v14 + (1 : Int)))] [(2, Ent.var Matrix (o2_1, o2_2_1, o2_2_2_1, ())), (3, Ent.var Matrix (o3_1, o3_2_1, o3_2_2_1, ())), (4, Ent.var Matrix (o4_1, o4_2_1, o4_2_2_1, ())), (1000012, Ent.own (Ty.slc true Matrix) o1000012)])))))) (cond (decide (o2_1 ≠ o3_1)) (.ret ((((0 : Int), (0 : Int), [[(0 : Int), (0 : Int), (0 : Int), (0 : Int), (0 : Int), (0 : Int)], [(0 : Int), (0 : Int), (0 : Int), (0 : Int), (0 : Int), (0 : Int)], [(0 : Int), (0 : Int), (0 : Int), (0 : Int), (0 : Int), (0 : Int)], [(0 : Int), (0 : Int), (0 : Int), (0 : Int), (0 : Int), (0 : Int)], [(0 : Int), (0 : Int), (0 : Int), (0 : Int), (0 : Int), (0 : Int)], [(0 : Int), (0 : Int), (0 : Int), (0 : Int), (0 : Int), (0 : Int)]], ()), (1 : Int), ()))) (cond (decide (o2_2_1 = o3_2_1)) (.ret ((((0 : Int), (0 : Int), [[(0 : Int), (0 : Int), (0 : Int), (0 : Int), (0 : Int), (0 : Int)], [(0 : Int), (0 : Int), (0 : Int), (0 : Int), (0 : Int), (0 : Int)], [(0 : Int), (0 : Int), (0 : Int), (0 : Int), (0 : Int), (0 : Int)], [(0 : Int), (0 : Int), (0 : Int), (0 : Int), (0 : Int), (0 : Int)], [(0 : Int), (0 : Int), (0 : Int), (0 : Int), (0 : Int), (0 : Int)], [(0 : Int), (0 : Int), (0 : Int), (0 : Int), (0 : Int), (0 : Int)]], ()), (1 : Int), ()))) (.cut (loopAt (bodyOf Try.prog 31) 11).1 (loopAt (bodyOf Try.prog 31) 11).2 (St.mk [(2, AV.ptr 2 []), (3, AV.ptr 3 []), (4, AV.ptr 4 []), (38, AV.val (Ty.int IntKind.i64) (0 : Int))] [(2, Ent.var Matrix (o2_1, o2_2_1, o2_2_2_1, ())), (3, Ent.var Matrix (o3_1, o3_2_1, o3_2_2_1, ())), (4, Ent.var Matrix (o4_1, o4_2_1, o4_2_2_1, ()))])))) := by kernel_rfl
def Emmeet_s11 (v38 : Int) (o2_1 : Int) (o2_2_1 : Int) (o2_2_2_1 : List (List Int)) (o3_1 : Int) (o3_2_1 : Int) (o3_2_2_1 : List (List Int)) (o4_1 : Int) (o4_2_1 : Int) (o4_2_2_1 : List (List Int)) : St := St.mk [(2, AV.ptr 2 []), (3, AV.ptr 3 []), (4, AV.ptr 4 []), (38, AV.val (Ty.int IntKind.i64) v38)] [(2, Ent.var Matrix (o2_1, o2_2_1, o2_2_2_1, ())), (3, Ent.var Matrix (o3_1, o3_2_1, o3_2_2_1, ())), (4, Ent.var Matrix (o4_1, o4_2_1, o4_2_2_1, ()))]
theorem Emmeet_l11 (v38 : Int) (o2_1 : Int) (o2_2_1 : Int) (o2_2_2_1 : List (List Int)) (o3_1 : Int) (o3_2_1 : Int) (o3_2_2_1 : List (List Int)) (o4_1 : Int) (o4_2_1 : Int) (o4_2_2_1 : List (List Int)) : exec Emmeet 1000 (.code (loopAt (bodyOf Try.prog 31) 11).1 :: .inLoop (loopAt (bodyOf Try.prog 31) 11).1 :: (loopAt (bodyOf Try.prog 31) 11).2) (Emmeet_s11 v38 o2_1 o2_2_1 o2_2_2_1 o3_1 o3_2_1 o3_2_2_1 o4_1 o4_2_1 o4_2_2_1) =
  cond (decide (v38 < (6 : Int))) (.need ((0 : Int) ≤ v38 ∧ v38 < (↑6 : Int)) (.need ((0 : Int) ≤ v38 ∧ v38 < (↑6 : Int)) (.need (True) (.need ((0 : Int) ≤ v38 ∧ v38 < (↑6 : Int)) (.need (inK IntKind.i64 (v38 + (1 : Int))) (.cut (loopAt (bodyOf Try.prog 31) 11).1 (loopAt (bodyOf Try.prog 31) 11).2 (St.mk [(2, AV.ptr 2 []), (3, AV.ptr 3 []), (4, AV.ptr 4 []), (38, AV.val (Ty.int IntKind.i64) (v38 + (1 : Int)))] [(2, Ent.var Matrix (o2_1, o2_2_1, List.set o2_2_2_1 (Int.toNat v38) (vmax (List.getD o2_2_2_1 (Int.toNat v38) [(0 : Int), (0 : Int), (0 : Int), (0 : Int), (0 : Int), (0 : Int)]) (List.getD o3_2_2_1 (Int.toNat v38) [(0 : Int), (0 : Int), (0 : Int), (0 : Int), (0 : Int), (0 : Int)])), ())), (3, Ent.var Matrix (o3_1, o3_2_1, o3_2_2_1, ())), (4, Ent.var Matrix (o4_1, o4_2_1, o4_2_2_1, ()))]))))))) (.need ((0 : Int) ≤ o2_2_1 ∧ o2_2_1 < (↑6 : Int)) (.need ((0 : Int) ≤ o3_2_1 ∧ o3_2_1 < (↑6 : Int)) (.need (True) (.need ((0 : Int) ≤ o2_2_1 ∧ o2_2_1 < (↑6 : Int)) (.ret (((o2_1, o2_2_1, List.set o2_2_2_1 (Int.toNat o2_2_1) (vmax (List.getD o2_2_2_1 (Int.toNat o2_2_1) [(0 : Int), (0 : Int), (0 : Int), (0 : Int), (0 : Int), (0 : Int)]) (List.getD o3_2_2_1 (Int.toNat o3_2_1) [(0 : Int), (0 : Int), (0 : Int), (0 : Int), (0 : Int), (0 : Int)])), ()), (0 : Int), ()))))))) := by kernel_rfl
def partR (a b : List (List Int)) (i : Nat) : List (List Int) := (List.range 6).map (fun j => if j < i then vmax (a.getD j v0) (b.getD j v0) else a.getD j v0)
theorem partR_zero {a b : List (List Int)} (ha : a.length = 6) : partR a b 0 = a := by
  rw [partR]; simp only [Nat.not_lt_zero, if_false]; exact map_range_getD ha
theorem partR_done {a b : List (List Int)} : partR a b 6 = maxRows a b := List.map_congr_left (fun j hj => by rw [if_pos (List.mem_range.1 hj)])
theorem partR_at {a b : List (List Int)} {i : Nat} (hi : i < 6) : (partR a b i).getD i v0 = a.getD i v0 := by
  rw [partR, getD_map_range _ _ hi, if_neg (by omega)]
theorem partR_set {a b : List (List Int)} {i : Nat} (hi : i < 6) : (partR a b i).set i (vmax (a.getD i v0) (b.getD i v0)) = partR a b (i + 1) := by
  rw [partR, set_map_range _ _ hi]
  refine List.map_congr_left (fun j _ => ?_)
  by_cases e : j = i
  · subst e; rw [if_pos rfl, if_pos (by omega)]
  · rw [if_neg e]
    by_cases e2 : j < i
    · rw [if_pos e2, if_pos (by omega)]
    · rw [if_neg e2, if_neg (by omega)]
theorem cmmeet_valid : cmmeet.Valid Try.prog 31 := by
  refine Ctr.valid_of Emmeet_ok rfl rfl Try.func31 (c := bodyOf Try.prog 31) rfl rfl Fmmeet_ok rfl ?_
  rintro ⟨⟨(n : Int), (me : Int), (r : List (List Int)), ⟨⟩⟩, ⟨(n2 : Int), (me2 : Int), (r2 : List (List Int)), ⟨⟩⟩, ⟨⟩⟩ - ⟨⟨-, -, ⟨hr, -⟩, -⟩, -⟩
  have hr : r.length = 6 := hr
  refine exec_sound (n := 1000) Emmeet_ok Fmmeet_ok ?_
  refine holds_of_eq (Emmeet_t n me r n2 me2 r2) ?_
  refine Reach.loopI Emmeet_ok Fmmeet_ok (fun i : Nat => Emmeet_s2 2 (i : Int) n me r n2 me2 r2 0 0 r0 [(n, me, r, ()), (n2, me2, r2, ())]) (fun i => i ≤ 2 ∧ (0 < i → mcheck (n, me, r, ()) = 0) ∧ (1 < i → mcheck (n2, me2, r2, ()) = 0)) (fun i => 2 - i) 1000 (fun _ => ⟨uniq_of rfl, uniq_of rfl⟩) ?_ 0 ⟨by omega, by omega, by omega⟩
  rintro i ⟨k1, k2, k3⟩ - ih
  refine holds_of_eq (Emmeet_l2 ..) ?_
  have key : ∀ {x : MatD × Int × Unit}, mmeet (n, me, r, ()) (n2, me2, r2, ()) = x → x = mmeet (n, me, r, ()) (n2, me2, r2, ()) := fun h => h.symm
  match i, k1 with
  | 0, _ =>
    simp only [holds_cond, Tree.holds, true_and, true_implies, decide_eq_true_eq, decide_eq_false_iff_not]
    refine ⟨fun _ => ⟨⟨by decide, by show (0 : Int) < 2; decide⟩, fun _ => ⟨fun a => key ?_, fun a => ⟨inK_i64.2 ⟨by decide, by decide⟩, fun _ => ih 1 ⟨by omega, fun _ => Decidable.of_not_not a, by omega⟩ (by omega)⟩⟩⟩, fun h => absurd (by decide) h⟩
    have a : mcheck (n, me, r, ()) ≠ 0 := a
    rw [mmeet, if_pos a]; rfl
  | 1, _ =>
    have c1 := k2 (by omega)
    simp only [holds_cond, Tree.holds, true_and, true_implies, decide_eq_true_eq, decide_eq_false_iff_not]
    refine ⟨fun _ => ⟨⟨by decide, by show (1 : Int) < 2; decide⟩, fun _ => ⟨fun a => key ?_, fun a => ⟨inK_i64.2 ⟨by decide, by decide⟩, fun _ => ih 2 ⟨by omega, fun _ => c1, fun _ => Decidable.of_not_not a⟩ (by omega)⟩⟩⟩, fun h => absurd (by decide) h⟩
    have a : mcheck (n2, me2, r2, ()) ≠ 0 := a
    rw [mmeet, if_neg (by simp [c1]), if_pos a]; rfl
  | 2, _ =>
    have c1 := k2 (by omega)
    have c2 := k3 (by omega)
    have o1 := mcheck_iff.1 c1
    have o2 := mcheck_iff.1 c2
    have h1 : 1 ≤ n ∧ n ≤ 6 := o1.n
    have h2 : 0 ≤ me ∧ me < n := o1.me
    have h3 : 1 ≤ n2 ∧ n2 ≤ 6 := o2.n
    have h4 : 0 ≤ me2 ∧ me2 < n2 := o2.me
    simp only [holds_cond, Tree.holds, true_and, true_implies, decide_eq_true_eq, decide_eq_false_iff_not]
    refine ⟨fun h => absurd h (by decide), fun _ => ⟨fun a => key ?_, fun a => ⟨fun b => key ?_, fun b => ?_⟩⟩⟩
    · rw [mmeet, if_neg (by simp [c1]), if_neg (by simp [c2]), if_pos a]; rfl
    · rw [mmeet, if_neg (by simp [c1]), if_neg (by simp [c2]), if_neg (by exact a), if_pos b]; rfl
    · have e0 : r = partR r r2 0 := (partR_zero hr).symm
      have hst : Emmeet_s11 ((0 : Nat) : Int) n me r n2 me2 r2 0 0 r0 = Emmeet_s11 ((0 : Nat) : Int) n me (partR r r2 0) n2 me2 r2 0 0 r0 := by rw [← e0]
      refine (show Ex.Reach Emmeet Try.f31 _ _ _ (Emmeet_s11 ((0 : Nat) : Int) n me r n2 me2 r2 0 0 r0) from ?_)
      rw [hst]
      refine Reach.loopI Emmeet_ok Fmmeet_ok (fun i : Nat => Emmeet_s11 (i : Int) n me (partR r r2 i) n2 me2 r2 0 0 r0) (fun i => i ≤ 6) (fun i => 6 - i) 1000 (fun _ => ⟨uniq_of rfl, uniq_of rfl⟩) ?_ 0 (by omega)
      rintro i k4 - ih2
      refine holds_of_eq (Emmeet_l11 ..) ?_
      simp only [holds_cond, Tree.holds, true_and, true_implies, decide_eq_true_eq, decide_eq_false_iff_not, Bool.not_eq_true', Bool.not_eq_false', Int.toNat_natCast, inK_i64, List.length_set, List.length_cons, List.length_nil]
      refine ⟨fun c => ?_, fun c => ?_⟩
      · have h9 := ih2 (i + 1) (by omega) (by omega)
        rw [← partR_set (by omega)] at h9
        rw [partR_at (by omega)]
        exact ⟨by omega, fun _ => ⟨by omega, fun _ => ⟨by omega, fun _ => ⟨by omega, fun _ => h9⟩⟩⟩⟩
      · have hi : i = 6 := by omega
        subst hi
        rw [partR_done]
        refine ⟨by omega, fun _ => ⟨by omega, fun _ => ⟨by omega, fun _ => key ?_⟩⟩⟩
        rw [mmeet, if_neg (by simp [c1]), if_neg (by simp [c2]), if_neg (by exact a), if_neg (by exact b)]; rfl
def minRows (r : List (List Int)) : Nat → List Int
  | 0 => r.getD 0 v0
  | k + 1 => vmin (minRows r k) (r.getD k v0)
def mfirm (m : MatD) : List Int × Int × Unit := if mcheck m ≠ 0 then (v0, mcheck m, ()) else (minRows m.2.2.1 m.1.toNat, 0, ())
def cmfirm : Ctr := { ps := [.v Matrix], rs := [Vec, I64], pre := fun _ => True, fn := fun x => mfirm x.1, out := fun _ => () }
noncomputable def Emfirm : Env := { P := Try.prog, tt := tt, ctr := [(30, cmcheck), (45, cvmin)], res := [Go.ResultVar.cell 2 23, Go.ResultVar.tmp 3], rs := [Ty.arr 6 (Ty.int IntKind.i64), Ty.int IntKind.i64], ps := [PK.v Matrix], cuts := [(6, [(1, none), (2, none), (5, none), (17, none), (18, none)])], nt := 29 }
theorem Emfirm_ok : EnvOk Emfirm := envOk tt_ok ⟨cmcheck_valid, cvmin_valid, trivial⟩
theorem Fmfirm_ok : FnOk Emfirm Try.f21 := ⟨rfl, rfl⟩
theorem Emfirm_t (x0_1 : Int) (x0_2_1 : Int) (x0_2_2_1 : List (List Int)) : exec Emfirm 1000 [.code (bodyOf Try.prog 21)] (initSt cmfirm.ps (((x0_1, x0_2_1, x0_2_2_1, ()), ()))) =
  .need (True) (cond (decide (mcheck (x0_1, x0_2_1, x0_2_2_1, ()) ≠ (0 : Int))) (.ret (([(0 : Int), (0 : Int), (0 : Int), (0 : Int), (0 : Int), (0 : Int)], mcheck (x0_1, x0_2_1, x0_2_2_1, ()), ()))) (.need ((0 : Int) ≤ (0 : Int) ∧ (0 : Int) < (↑6 : Int)) (.cut (loopAt (bodyOf Try.prog 21) 6).1 (loopAt (bodyOf Try.prog 21) 6).2 (St.mk [(1, AV.ptr 1 []), (2, AV.ptr 2 []), (5, AV.ptr 5 []), (17, AV.val (Ty.int IntKind.i64) x0_1), (18, AV.val (Ty.int IntKind.i64) (0 : Int))] [(1, Ent.var Matrix (x0_1, x0_2_1, x0_2_2_1, ())), (2, Ent.var Vec [(0 : Int), (0 : Int), (0 : Int), (0 : Int), (0 : Int), (0 : Int)]), (5, Ent.var Vec (List.getD x0_2_2_1 (Int.toNat (0 : Int)) [(0 : Int), (0 : Int), (0 : Int), (0 : Int), (0 : Int), (0 : Int)]))])))) := by kernel_rfl
def Emfirm_s6 (v17 : Int) (v18 : Int) (o1_1 : Int) (o1_2_1 : Int) (o1_2_2_1 : List (List Int)) (o2 : List Int) (o5 : List Int) : St := St.mk [(1, AV.ptr 1 []), (2, AV.ptr 2 []), (5, AV.ptr 5 []), (17, AV.val (Ty.int IntKind.i64) v17), (18, AV.val (Ty.int IntKind.i64) v18)] [(1, Ent.var Matrix (o1_1, o1_2_1, o1_2_2_1, ())), (2, Ent.var Vec o2), (5, Ent.var Vec o5)]
theorem Emfirm_l6 (v17 : Int) (v18 : Int) (o1_1 : Int) (o1_2_1 : Int) (o1_2_2_1 : List (List Int)) (o2 : List Int) (o5 : List Int) : exec Emfirm 1000 (.code (loopAt (bodyOf Try.prog 21) 6).1 :: .inLoop (loopAt (bodyOf Try.prog 21) 6).1 :: (loopAt (bodyOf Try.prog 21) 6).2) (Emfirm_s6 v17 v18 o1_1 o1_2_1 o1_2_2_1 o2 o5) =
  cond (decide (v18 < v17)) (.need ((0 : Int) ≤ v18 ∧ v18 < (↑6 : Int)) (.need (True) (.need (inK IntKind.i64 (v18 + (1 : Int))) (.cut (loopAt (bodyOf Try.prog 21) 6).1 (loopAt (bodyOf Try.prog 21) 6).2 (St.mk [(1, AV.ptr 1 []), (2, AV.ptr 2 []), (5, AV.ptr 5 []), (17, AV.val (Ty.int IntKind.i64) v17), (18, AV.val (Ty.int IntKind.i64) (v18 + (1 : Int)))] [(1, Ent.var Matrix (o1_1, o1_2_1, o1_2_2_1, ())), (2, Ent.var Vec o2), (5, Ent.var Vec (vmin o5 (List.getD o1_2_2_1 (Int.toNat v18) [(0 : Int), (0 : Int), (0 : Int), (0 : Int), (0 : Int), (0 : Int)])))]))))) (.ret ((o5, (0 : Int), ()))) := by kernel_rfl
theorem cmfirm_valid : cmfirm.Valid Try.prog 21 := by
  refine Ctr.valid_of Emfirm_ok rfl rfl Try.func21 (c := bodyOf Try.prog 21) rfl rfl Fmfirm_ok rfl ?_
  rintro ⟨⟨(n : Int), (me : Int), (r : List (List Int)), ⟨⟩⟩, ⟨⟩⟩ - -
  refine exec_sound (n := 1000) Emfirm_ok Fmfirm_ok ?_
  refine holds_of_eq (Emfirm_t n me r) ?_
  simp only [holds_cond, Tree.holds, true_and, true_implies, decide_eq_true_eq, decide_eq_false_iff_not]
  refine ⟨fun a => ?_, fun a => ⟨⟨by decide, by decide⟩, fun _ => ?_⟩⟩
  · show ((v0, mcheck (n, me, r, ()), ()) : List Int × Int × Unit) = mfirm (n, me, r, ()); rw [mfirm, if_pos a]
  have ho := mcheck_iff.1 (Decidable.of_not_not a)
  have h1 : 1 ≤ n ∧ n ≤ 6 := ho.n
  refine Reach.loopI Emfirm_ok Fmfirm_ok (fun i : Nat => Emfirm_s6 n (i : Int) n me r v0 (minRows r i)) (fun i => i ≤ n.toNat) (fun i => n.toNat - i) 1000 (fun _ => ⟨uniq_of rfl, uniq_of rfl⟩) ?_ 0 (by omega)
  rintro i k1 - ih
  refine holds_of_eq (Emfirm_l6 ..) ?_
  simp only [holds_cond, Tree.holds, true_and, true_implies, decide_eq_true_eq, decide_eq_false_iff_not, Bool.not_eq_true', Bool.not_eq_false', Int.toNat_natCast, inK_i64, List.length_set, List.length_cons, List.length_nil]
  refine ⟨fun c => ⟨by omega, fun _ => ⟨by omega, fun _ => ih (i + 1) (by omega) (by omega)⟩⟩, fun c => ?_⟩
  show ((minRows r i, 0, ()) : List Int × Int × Unit) = mfirm (n, me, r, ())
  rw [mfirm, if_neg a, show i = n.toNat by omega]
end Go.Proofs.Ytibpibbnnogdkaa
