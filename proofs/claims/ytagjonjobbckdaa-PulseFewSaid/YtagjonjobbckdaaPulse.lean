/- The contracts of the package pulse's functions. -/
import Derived.Test.YtagjonjobbckdaaTys
namespace Go.Proofs.Ytagjonjobbckdaa
open Go.Ex
set_option maxRecDepth 100000
abbrev PulseD := Int × Int × List Int × List Int × List Bool × Unit

def inF (n a b : Int) : Bool := decide (a ≤ n) && decide (n ≤ b)
def cin : Ctr := { ps := [.v I64, .v I64, .v I64], rs := [.bool], pre := fun _ => True, fn := fun x => (inF x.1 x.2.1 x.2.2.1, ()), out := fun _ => () }
noncomputable def Ein : Env := { P := Try.prog, tt := tt, ctr := [], res := [Go.ResultVar.tmp 6], rs := [Ty.bool], ps := [PK.v (Ty.int IntKind.i64), PK.v (Ty.int IntKind.i64), PK.v (Ty.int IntKind.i64)], cuts := [], nt := 15 }
theorem Ein_ok : EnvOk Ein := envOk tt_ok trivial
theorem Fin_ok : FnOk Ein Try.f39 := ⟨rfl, rfl⟩
theorem Ein_t (x0 : Int) (x1 : Int) (x2 : Int) : exec Ein 1000 [.code (bodyOf Try.prog 39)] (initSt cin.ps ((x0, x1, x2, ()))) =
  cond (decide (x1 ≤ x0)) (.ret ((decide (x0 ≤ x2), ()))) (.ret ((false, ()))) := by kernel_rfl
theorem cin_valid : cin.Valid Try.prog 39 := by
  refine Ctr.valid_of Ein_ok rfl rfl Try.func39 (c := bodyOf Try.prog 39) rfl rfl Fin_ok rfl ?_
  rintro ⟨(x0 : Int), (x1 : Int), (x2 : Int), ⟨⟩⟩ - -
  refine exec_sound (n := 1000) Ein_ok Fin_ok ?_
  refine holds_of_eq (Ein_t x0 x1 x2) ?_
  simp only [holds_cond, Tree.holds]
  refine ⟨fun a => ?_, fun a => ?_⟩
  · show ((decide (x0 ≤ x2), ()) : Bool × Unit) = (inF x0 x1 x2, ())
    rw [inF, a]; rfl
  · show ((false, ()) : Bool × Unit) = (inF x0 x1 x2, ())
    rw [inF, a]; rfl

def bad (p : PulseD) (i : Nat) : Int := if inF (p.2.2.1.getD i 0) 0 p.2.1 = false then 1 else if inF (p.2.2.2.1.getD i 0) 1 1000 = false then 1 else if (i : Int) = p.1 ∧ p.2.2.2.2.1.getD i false = true then 4 else 0
def badFrom (p : PulseD) : Nat → Nat → Int
  | 0, _ => 0
  | k + 1, i => if bad p i ≠ 0 then bad p i else badFrom p k (i + 1)
def pcheck (p : PulseD) : Int := if inF p.1 0 5 = false then 1 else if inF p.2.1 0 16777215 = false then 1 else badFrom p 6 0
def cpcheck : Ctr := { ps := [.v Pulse], rs := [I64], pre := fun _ => True, fn := fun x => (pcheck x.1, ()), out := fun _ => () }
noncomputable def EPCheck : Env := { P := Try.prog, tt := tt, ctr := [(39, cin)], res := [Go.ResultVar.tmp 2], rs := [Ty.int IntKind.i64], ps := [PK.v Pulse], cuts := [(4, [(1, none), (14, none)])], nt := 46 }
theorem EPCheck_ok : EnvOk EPCheck := envOk tt_ok ⟨cin_valid, trivial⟩
theorem FPCheck_ok : FnOk EPCheck Try.f30 := ⟨rfl, rfl⟩
theorem EPCheck_t (x0_1 : Int) (x0_2_1 : Int) (x0_2_2_1 : List Int) (x0_2_2_2_1 : List Int) (x0_2_2_2_2_1 : List Bool) : exec EPCheck 1000 [.code (bodyOf Try.prog 30)] (initSt cpcheck.ps (((x0_1, x0_2_1, x0_2_2_1, x0_2_2_2_1, x0_2_2_2_2_1, ()), ()))) =
  .need (True) (cond (!inF x0_1 (0 : Int) (5 : Int)) (.ret (((1 : Int), ()))) (.need (True) (cond (!inF x0_2_1 (0 : Int) (16777215 : Int)) (.ret (((1 : Int), ()))) (.cut (loopAt (bodyOf Try.prog 30) 4).1 (loopAt (bodyOf Try.prog 30) 4).2 (St.mk [(1, AV.ptr 1 []), (14, AV.val (Ty.int IntKind.i64) (0 : Int))] [(1, Ent.var Pulse (x0_1, x0_2_1, x0_2_2_1, x0_2_2_2_1, x0_2_2_2_2_1, ()))]))))) := by kernel_rfl
def EPCheck_s4 (v14 : Int) (o1_1 : Int) (o1_2_1 : Int) (o1_2_2_1 : List Int) (o1_2_2_2_1 : List Int) (o1_2_2_2_2_1 : List Bool) : St := St.mk [(1, AV.ptr 1 []), (14, AV.val (Ty.int IntKind.i64) v14)] [(1, Ent.var Pulse (o1_1, o1_2_1, o1_2_2_1, o1_2_2_2_1, o1_2_2_2_2_1, ()))]
theorem EPCheck_l4 (v14 : Int) (o1_1 : Int) (o1_2_1 : Int) (o1_2_2_1 : List Int) (o1_2_2_2_1 : List Int) (o1_2_2_2_2_1 : List Bool) : exec EPCheck 1000 (.code (loopAt (bodyOf Try.prog 30) 4).1 :: .inLoop (loopAt (bodyOf Try.prog 30) 4).1 :: (loopAt (bodyOf Try.prog 30) 4).2) (EPCheck_s4 v14 o1_1 o1_2_1 o1_2_2_1 o1_2_2_2_1 o1_2_2_2_2_1) =
  cond (decide (v14 < (6 : Int))) (.need ((0 : Int) ≤ v14 ∧ v14 < (↑6 : Int)) (.need (True) (cond (!inF (List.getD o1_2_2_1 (Int.toNat v14) (0 : Int)) (0 : Int) o1_2_1) (.ret (((1 : Int), ()))) (.need ((0 : Int) ≤ v14 ∧ v14 < (↑6 : Int)) (.need (True) (cond (!inF (List.getD o1_2_2_2_1 (Int.toNat v14) (0 : Int)) (1 : Int) (1000 : Int)) (.ret (((1 : Int), ()))) (cond (decide (v14 = o1_1)) (.need ((0 : Int) ≤ v14 ∧ v14 < (↑6 : Int)) (cond (List.getD o1_2_2_2_2_1 (Int.toNat v14) false) (.ret (((4 : Int), ()))) (.need (inK IntKind.i64 (v14 + (1 : Int))) (.cut (loopAt (bodyOf Try.prog 30) 4).1 (loopAt (bodyOf Try.prog 30) 4).2 (St.mk [(1, AV.ptr 1 []), (14, AV.val (Ty.int IntKind.i64) (v14 + (1 : Int)))] [(1, Ent.var Pulse (o1_1, o1_2_1, o1_2_2_1, o1_2_2_2_1, o1_2_2_2_2_1, ()))]))))) (.need (inK IntKind.i64 (v14 + (1 : Int))) (.cut (loopAt (bodyOf Try.prog 30) 4).1 (loopAt (bodyOf Try.prog 30) 4).2 (St.mk [(1, AV.ptr 1 []), (14, AV.val (Ty.int IntKind.i64) (v14 + (1 : Int)))] [(1, Ent.var Pulse (o1_1, o1_2_1, o1_2_2_1, o1_2_2_2_1, o1_2_2_2_2_1, ()))])))))))))) (.ret (((0 : Int), ()))) := by kernel_rfl

theorem bad_eq {me wait : Int} {hd pc : List Int} {dd : List Bool} {i : Nat} : bad (me, wait, hd, pc, dd, ()) i = if inF (hd.getD i 0) 0 wait = false then 1 else if inF (pc.getD i 0) 1 1000 = false then 1 else if (i : Int) = me ∧ dd.getD i false = true then 4 else 0 := rfl
theorem badFrom_step {p : PulseD} {i : Nat} (h : i < 6) : badFrom p (6 - i) i = if bad p i ≠ 0 then bad p i else badFrom p (6 - (i + 1)) (i + 1) := by
  rw [show 6 - i = (6 - (i + 1)) + 1 by omega, badFrom]

theorem cpcheck_valid : cpcheck.Valid Try.prog 30 := by
  refine Ctr.valid_of EPCheck_ok rfl rfl Try.func30 (c := bodyOf Try.prog 30) rfl rfl FPCheck_ok rfl ?_
  rintro ⟨⟨(me : Int), (wait : Int), (hd : List Int), (pc : List Int), (dd : List Bool), ⟨⟩⟩, ⟨⟩⟩ - ⟨⟨h0, h1, -⟩, -⟩
  refine exec_sound (n := 1000) EPCheck_ok FPCheck_ok ?_
  refine holds_of_eq (EPCheck_t me wait hd pc dd) ?_
  have key : ∀ {r : Int}, r = pcheck (me, wait, hd, pc, dd, ()) → ((r, ()) : Int × Unit) = (pcheck (me, wait, hd, pc, dd, ()), ()) := by rintro r rfl; rfl
  simp only [holds_cond, Tree.holds, Bool.not_eq_true', Bool.not_eq_false']
  refine ⟨trivial, fun _ => ⟨fun a => key (by rw [pcheck, if_pos a]), fun a => ⟨trivial, fun _ => ⟨fun b => key (by rw [pcheck, if_neg (by simp [a]), if_pos b]), fun b => ?_⟩⟩⟩⟩
  refine Reach.loop EPCheck_ok FPCheck_ok (fun i : Nat => EPCheck_s4 (i : Int) me wait hd pc dd) (fun i => i ≤ 6 ∧ pcheck (me, wait, hd, pc, dd, ()) = badFrom (me, wait, hd, pc, dd, ()) (6 - i) i)
    (fun i => 6 - i) 1000 (fun i => ⟨uniq_of rfl, uniq_of rfl⟩) ?_ 0 ⟨by omega, by rw [pcheck, if_neg (by simp [a]), if_neg (by simp [b])]⟩
  rintro i ⟨k1, k2⟩ -
  refine holds_of_eq (EPCheck_l4 ..) ?_
  simp only [holds_cond, Tree.holds, decide_eq_true_eq, decide_eq_false_iff_not, Int.toNat_natCast, Bool.not_eq_true', Bool.not_eq_false']
  refine ⟨fun c => ?_, fun c => ?_⟩
  · have hi : i < 6 := by omega
    rw [badFrom_step hi] at k2
    have hin : @LE.le Int Int.instLEInt 0 (i : Int) ∧ @LT.lt Int Int.instLTInt (i : Int) ((6 : Nat) : Int) := ⟨by omega, by omega⟩
    have hk : inK .i64 ((i : Int) + 1) := by
      constructor
      · show (-9223372036854775808 : Int) ≤ _; omega
      · show _ ≤ (9223372036854775807 : Int); omega
    refine ⟨hin, fun _ => ⟨trivial, fun _ => ⟨fun d => key ?_, fun d => ⟨hin, fun _ => ⟨trivial, fun _ => ⟨fun e => key ?_, fun e => ⟨fun f => ⟨hin, fun _ => ⟨fun g => key ?_, fun g => ⟨hk, fun _ => .inl ⟨trivial, trivial, i + 1, rfl, ⟨by omega, ?_⟩, by omega⟩⟩⟩⟩, fun f => ⟨hk, fun _ => .inl ⟨trivial, trivial, i + 1, rfl, ⟨by omega, ?_⟩, by omega⟩⟩⟩⟩⟩⟩⟩⟩⟩
    · have hb : bad (me, wait, hd, pc, dd, ()) i = 1 := by simp only [bad_eq, d, if_true]
      rw [k2, hb]; rfl
    · have hb : bad (me, wait, hd, pc, dd, ()) i = 1 := by simp only [bad_eq, d, e, Bool.true_eq_false, if_false, if_true]
      rw [k2, hb]; rfl
    · have hb : bad (me, wait, hd, pc, dd, ()) i = 4 := by simp only [bad_eq, d, e, f, g, Bool.true_eq_false, if_false, if_true, and_self]
      rw [k2, hb]; rfl
    · have hb : bad (me, wait, hd, pc, dd, ()) i = 0 := by simp only [bad_eq, d, e, g, Bool.true_eq_false, Bool.false_eq_true, if_false, and_false]
      rw [k2, hb]; rfl
    · have hb : bad (me, wait, hd, pc, dd, ()) i = 0 := by simp only [bad_eq, d, e, f, Bool.true_eq_false, if_false, false_and]
      rw [k2, hb]; rfl
  · have hi : i = 6 := by omega
    subst hi
    exact key (by rw [k2]; rfl)

theorem badFrom_inv {p : PulseD} : ∀ {k i : Nat}, badFrom p k i = 0 → ∀ j, i ≤ j → j < i + k → bad p j = 0
  | 0, i, _, j, h1, h2 => by omega
  | k + 1, i, h, j, h1, h2 => by
    simp only [badFrom] at h
    split at h
    · rename_i hb; exact absurd h hb
    · rename_i hb
      by_cases e : j = i
      · subst e; exact Decidable.of_not_not hb
      · exact badFrom_inv h j (by omega) (by omega)

theorem inF_iff {n a b : Int} : inF n a b = true ↔ a ≤ n ∧ n ≤ b := by simp [inF]

/-- what a check that passes says -/
theorem pcheck_inv {p : PulseD} (h : pcheck p = 0) : (0 ≤ p.1 ∧ p.1 ≤ 5) ∧ (0 ≤ p.2.1 ∧ p.2.1 ≤ 16777215) ∧ (∀ i, i < 6 → (0 ≤ p.2.2.1.getD i 0 ∧ p.2.2.1.getD i 0 ≤ p.2.1) ∧ 1 ≤ p.2.2.2.1.getD i 0 ∧ p.2.2.2.1.getD i 0 ≤ 1000) ∧ p.2.2.2.2.1.getD p.1.toNat false = false := by
  unfold pcheck at h
  split at h
  · cases h
  · rename_i h1
    split at h
    · cases h
    · rename_i h2
      have h1 := inF_iff.1 (by simpa using h1)
      have h2 := inF_iff.1 (by simpa using h2)
      have hb : ∀ i, i < 6 → bad p i = 0 := fun i hi => badFrom_inv h i (by omega) (by omega)
      have hbi : ∀ i, i < 6 → inF (p.2.2.1.getD i 0) 0 p.2.1 = true ∧ inF (p.2.2.2.1.getD i 0) 1 1000 = true ∧ ¬ ((i : Int) = p.1 ∧ p.2.2.2.2.1.getD i false = true) := by
        intro i hi
        have := hb i hi
        unfold bad at this
        split at this
        · cases this
        · rename_i k1
          split at this
          · cases this
          · rename_i k2
            split at this
            · cases this
            · rename_i k3; exact ⟨by simpa using k1, by simpa using k2, k3⟩
      refine ⟨h1, h2, fun i hi => ⟨inF_iff.1 (hbi i hi).1, inF_iff.1 (hbi i hi).2.1⟩, ?_⟩
      have := (hbi p.1.toNat (by omega)).2.2
      cases hd : p.2.2.2.2.1.getD p.1.toNat false with
      | false => rfl
      | true => exact absurd ⟨by omega, hd⟩ this

def leadN (l : List Bool) : Nat → Nat → Nat
  | 0, i => i
  | k + 1, i => if l.getD i false = true then leadN l k (i + 1) else i
def leadF (p : PulseD) : Int × Int × Unit := if pcheck p ≠ 0 then (0, pcheck p, ()) else (((leadN p.2.2.2.2.1 6 0 : Nat) : Int), 0, ())
def clead : Ctr := { ps := [.v Pulse], rs := [I64, I64], pre := fun _ => True, fn := fun x => leadF x.1, out := fun _ => () }
noncomputable def ELead : Env := { P := Try.prog, tt := tt, ctr := [(30, cpcheck)], res := [Go.ResultVar.tmp 2, Go.ResultVar.tmp 3], rs := [Ty.int IntKind.i64, Ty.int IntKind.i64], ps := [PK.v Pulse], cuts := [(5, [(1, none), (5, none)])], nt := 18 }
theorem ELead_ok : EnvOk ELead := envOk tt_ok ⟨cpcheck_valid, trivial⟩
theorem FLead_ok : FnOk ELead Try.f21 := ⟨rfl, rfl⟩
theorem ELead_t (x0_1 : Int) (x0_2_1 : Int) (x0_2_2_1 : List Int) (x0_2_2_2_1 : List Int) (x0_2_2_2_2_1 : List Bool) : exec ELead 1000 [.code (bodyOf Try.prog 21)] (initSt clead.ps (((x0_1, x0_2_1, x0_2_2_1, x0_2_2_2_1, x0_2_2_2_2_1, ()), ()))) =
  .need (True) (cond (decide (pcheck (x0_1, x0_2_1, x0_2_2_1, x0_2_2_2_1, x0_2_2_2_2_1, ()) ≠ (0 : Int))) (.ret (((0 : Int), pcheck (x0_1, x0_2_1, x0_2_2_1, x0_2_2_2_1, x0_2_2_2_2_1, ()), ()))) (.cut (loopAt (bodyOf Try.prog 21) 5).1 (loopAt (bodyOf Try.prog 21) 5).2 (St.mk [(1, AV.ptr 1 []), (5, AV.val (Ty.int IntKind.i64) (0 : Int))] [(1, Ent.var Pulse (x0_1, x0_2_1, x0_2_2_1, x0_2_2_2_1, x0_2_2_2_2_1, ()))]))) := by kernel_rfl
def ELead_s5 (v5 : Int) (o1_1 : Int) (o1_2_1 : Int) (o1_2_2_1 : List Int) (o1_2_2_2_1 : List Int) (o1_2_2_2_2_1 : List Bool) : St := St.mk [(1, AV.ptr 1 []), (5, AV.val (Ty.int IntKind.i64) v5)] [(1, Ent.var Pulse (o1_1, o1_2_1, o1_2_2_1, o1_2_2_2_1, o1_2_2_2_2_1, ()))]
theorem ELead_l5 (v5 : Int) (o1_1 : Int) (o1_2_1 : Int) (o1_2_2_1 : List Int) (o1_2_2_2_1 : List Int) (o1_2_2_2_2_1 : List Bool) : exec ELead 1000 (.code (loopAt (bodyOf Try.prog 21) 5).1 :: .inLoop (loopAt (bodyOf Try.prog 21) 5).1 :: (loopAt (bodyOf Try.prog 21) 5).2) (ELead_s5 v5 o1_1 o1_2_1 o1_2_2_1 o1_2_2_2_1 o1_2_2_2_2_1) =
  .need ((0 : Int) ≤ v5 ∧ v5 < (↑6 : Int)) (cond (List.getD o1_2_2_2_2_1 (Int.toNat v5) false) (.need (inK IntKind.i64 (v5 + (1 : Int))) (.cut (loopAt (bodyOf Try.prog 21) 5).1 (loopAt (bodyOf Try.prog 21) 5).2 (St.mk [(1, AV.ptr 1 []), (5, AV.val (Ty.int IntKind.i64) (v5 + (1 : Int)))] [(1, Ent.var Pulse (o1_1, o1_2_1, o1_2_2_1, o1_2_2_2_1, o1_2_2_2_2_1, ()))]))) (.ret ((v5, (0 : Int), ())))) := by kernel_rfl

theorem leadN_step {l : List Bool} {i : Nat} (h : i < 6) : leadN l (6 - i) i = if l.getD i false = true then leadN l (6 - (i + 1)) (i + 1) else i := by
  rw [show 6 - i = (6 - (i + 1)) + 1 by omega, leadN]
theorem leadN_spec {l : List Bool} : ∀ {k i : Nat}, (∃ j, i ≤ j ∧ j < i + k ∧ l.getD j false = false) → i ≤ leadN l k i ∧ leadN l k i < i + k ∧ l.getD (leadN l k i) false = false
  | 0, i, ⟨j, h1, h2, _⟩ => by omega
  | k + 1, i, ⟨j, h1, h2, h3⟩ => by
    simp only [leadN]
    split
    · rename_i h
      have hne : j ≠ i := by rintro rfl; rw [h3] at h; cases h
      obtain ⟨a, b, c⟩ := leadN_spec (l := l) (k := k) (i := i + 1) ⟨j, by omega, by omega, h3⟩
      exact ⟨by omega, by omega, c⟩
    · rename_i h; exact ⟨by omega, by omega, by simpa using h⟩

theorem clead_valid : clead.Valid Try.prog 21 := by
  refine Ctr.valid_of ELead_ok rfl rfl Try.func21 (c := bodyOf Try.prog 21) rfl rfl FLead_ok rfl ?_
  rintro ⟨⟨(me : Int), (wait : Int), (hd : List Int), (pc : List Int), (dd : List Bool), ⟨⟩⟩, ⟨⟩⟩ - -
  refine exec_sound (n := 1000) ELead_ok FLead_ok ?_
  refine holds_of_eq (ELead_t me wait hd pc dd) ?_
  simp only [holds_cond, Tree.holds, decide_eq_true_eq, decide_eq_false_iff_not]
  refine ⟨trivial, fun _ => ⟨fun a => ?_, fun a => ?_⟩⟩
  · show ((0, pcheck (me, wait, hd, pc, dd, ()), ()) : Int × Int × Unit) = leadF (me, wait, hd, pc, dd, ())
    rw [leadF, if_pos a]
  · have hp : pcheck (me, wait, hd, pc, dd, ()) = 0 := Decidable.of_not_not a
    obtain ⟨hm, _, _, hdd⟩ := pcheck_inv hp
    have hl : leadF (me, wait, hd, pc, dd, ()) = (((leadN dd 6 0 : Nat) : Int), 0, ()) := by rw [leadF, if_neg a]
    have hm : 0 ≤ me ∧ me ≤ 5 := hm
    have hdd : dd.getD me.toNat false = false := hdd
    refine Reach.loop ELead_ok FLead_ok (fun i : Nat => ELead_s5 (i : Int) me wait hd pc dd) (fun i => i < 6 ∧ i ≤ me.toNat ∧ leadN dd 6 0 = leadN dd (6 - i) i)
      (fun i => 6 - i) 1000 (fun i => ⟨uniq_of rfl, uniq_of rfl⟩) ?_ 0 ⟨by omega, by omega, rfl⟩
    rintro i ⟨k1, k3, k2⟩ -
    refine holds_of_eq (ELead_l5 ..) ?_
    simp only [holds_cond, Tree.holds, decide_eq_true_eq, decide_eq_false_iff_not, Int.toNat_natCast]
    rw [leadN_step k1] at k2
    have hk : inK .i64 ((i : Int) + 1) := by
      constructor
      · show (-9223372036854775808 : Int) ≤ _; omega
      · show _ ≤ (9223372036854775807 : Int); omega
    refine ⟨⟨by omega, by omega⟩, fun _ => ⟨fun c => ⟨hk, fun _ => .inl ⟨trivial, trivial, i + 1, rfl, ?_, by omega⟩⟩, fun c => ?_⟩⟩
    · rw [if_pos c] at k2
      have hne : i ≠ me.toNat := by rintro rfl; rw [hdd] at c; cases c
      exact ⟨by omega, by omega, k2⟩
    · show (((i : Int), 0, ()) : Int × Int × Unit) = leadF (me, wait, hd, pc, dd, ())
      rw [hl, k2, if_neg (by rw [c]; exact Bool.false_ne_true)]

theorem leadF_ok {p : PulseD} (h : (leadF p).2.1 = 0) : pcheck p = 0 ∧ leadF p = (((leadN p.2.2.2.2.1 6 0 : Nat) : Int), 0, ()) ∧ leadN p.2.2.2.2.1 6 0 < 6 ∧ p.2.2.2.2.1.getD (leadN p.2.2.2.2.1 6 0) false = false := by
  have hp : pcheck p = 0 := by
    unfold leadF at h
    split at h
    · rename_i hne; exact absurd h hne
    · rename_i hne; exact Decidable.of_not_not hne
  obtain ⟨h1, _, _, h4⟩ := pcheck_inv hp
  obtain ⟨a, b, c⟩ := leadN_spec (l := p.2.2.2.2.1) (k := 6) (i := 0) ⟨p.1.toNat, by omega, by omega, h4⟩
  exact ⟨hp, by rw [leadF, if_neg (by simp [hp])], by omega, c⟩
theorem leadF_err {p : PulseD} (h : (leadF p).2.1 ≠ 0) : (leadF p).1 = 0 := by
  unfold leadF at h ⊢
  split at h
  · rename_i hne; rw [if_pos hne]
  · exact absurd rfl h
end Go.Proofs.Ytagjonjobbckdaa
