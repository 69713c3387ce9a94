/- PulseFew: Hear, few, the law's contract. -/
import Derived.Test.YtagjonjobbckdaaPDead
namespace Go.Proofs.Ytagjonjobbckdaa
open Go.Ex
set_option maxRecDepth 100000

theorem inK_i64 {n : Int} : inK .i64 n ↔ -9223372036854775808 ≤ n ∧ n ≤ 9223372036854775807 := Iff.rfl

def hear (p : PulseD) (q : Int) : PulseD × Bool × Int × Unit :=
  if pcheck p ≠ 0 then (zeroP, false, pcheck p, ()) else if inF q 0 5 = false then (zeroP, false, 1, ()) else if q = p.1 then (zeroP, false, 1, ()) else
  if p.2.2.2.2.1.getD q.toNat false = false then ((p.1, p.2.1, p.2.2.1.set q.toNat p.2.1, p.2.2.2.1, p.2.2.2.2.1, ()), false, 0, ())
  else ((p.1, p.2.1, p.2.2.1.set q.toNat p.2.1, p.2.2.2.1.set q.toNat (if 1000 < p.2.2.2.1.getD q.toNat 0 + 1 then 1000 else p.2.2.2.1.getD q.toNat 0 + 1), p.2.2.2.2.1.set q.toNat false, ()), true, 0, ())
def chear : Ctr := { ps := [.v Pulse, .v I64], rs := [Pulse, .bool, I64], pre := fun _ => True, fn := fun x => hear x.1 x.2.1, out := fun _ => () }
noncomputable def EHear : Env := { P := Try.prog, tt := tt, ctr := [(30, cpcheck), (39, cin)], res := [Go.ResultVar.cell 4 41, Go.ResultVar.tmp 5, Go.ResultVar.tmp 6], rs := [Ty.pair (Ty.int IntKind.i64) (Ty.pair (Ty.int IntKind.i64) (Ty.pair (Ty.arr 6 (Ty.int IntKind.i64)) (Ty.pair (Ty.arr 6 (Ty.int IntKind.i64)) (Ty.pair (Ty.arr 6 Ty.bool) Ty.unit)))), Ty.bool, Ty.int IntKind.i64], ps := [PK.v Pulse, PK.v (Ty.int IntKind.i64)], cuts := [], nt := 48 }
theorem EHear_ok : EnvOk EHear := envOk tt_ok ⟨cpcheck_valid, cin_valid, trivial⟩
theorem FHear_ok : FnOk EHear Try.f33 := ⟨rfl, rfl⟩
theorem EHear_t (x0_1 : Int) (x0_2_1 : Int) (x0_2_2_1 : List Int) (x0_2_2_2_1 : List Int) (x0_2_2_2_2_1 : List Bool) (x1 : Int) : exec EHear 1000 [.code (bodyOf Try.prog 33)] (initSt chear.ps (((x0_1, x0_2_1, x0_2_2_1, x0_2_2_2_1, x0_2_2_2_2_1, ()), x1, ()))) =
  .need (True) (cond (decide (pcheck (x0_1, x0_2_1, x0_2_2_1, x0_2_2_2_1, x0_2_2_2_2_1, ()) ≠ (0 : Int))) (.ret ((((0 : Int), (0 : Int), [(0 : Int), (0 : Int), (0 : Int), (0 : Int), (0 : Int), (0 : Int)], [(0 : Int), (0 : Int), (0 : Int), (0 : Int), (0 : Int), (0 : Int)], [false, false, false, false, false, false], ()), false, pcheck (x0_1, x0_2_1, x0_2_2_1, x0_2_2_2_1, x0_2_2_2_2_1, ()), ()))) (.need (True) (cond (!inF x1 (0 : Int) (5 : Int)) (.ret ((((0 : Int), (0 : Int), [(0 : Int), (0 : Int), (0 : Int), (0 : Int), (0 : Int), (0 : Int)], [(0 : Int), (0 : Int), (0 : Int), (0 : Int), (0 : Int), (0 : Int)], [false, false, false, false, false, false], ()), false, (1 : Int), ()))) (cond (decide (x1 = x0_1)) (.ret ((((0 : Int), (0 : Int), [(0 : Int), (0 : Int), (0 : Int), (0 : Int), (0 : Int), (0 : Int)], [(0 : Int), (0 : Int), (0 : Int), (0 : Int), (0 : Int), (0 : Int)], [false, false, false, false, false, false], ()), false, (1 : Int), ()))) (.need ((0 : Int) ≤ x1 ∧ x1 < (↑6 : Int)) (.need ((0 : Int) ≤ x1 ∧ x1 < (↑6 : Int)) (cond (!List.getD x0_2_2_2_2_1 (Int.toNat x1) false) (.ret (((x0_1, x0_2_1, List.set x0_2_2_1 (Int.toNat x1) x0_2_1, x0_2_2_2_1, x0_2_2_2_2_1, ()), false, (0 : Int), ()))) (.need ((0 : Int) ≤ x1 ∧ x1 < (↑6 : Int)) (.need ((0 : Int) ≤ x1 ∧ x1 < (↑6 : Int)) (.need (inK IntKind.i64 (List.getD x0_2_2_2_1 (Int.toNat x1) (0 : Int) + (1 : Int))) (.need ((0 : Int) ≤ x1 ∧ x1 < (↑6 : Int)) (.ret (((x0_1, x0_2_1, List.set x0_2_2_1 (Int.toNat x1) x0_2_1, List.set x0_2_2_2_1 (Int.toNat x1) (if (1000 : Int) < List.getD x0_2_2_2_1 (Int.toNat x1) (0 : Int) + (1 : Int) then (1000 : Int) else List.getD x0_2_2_2_1 (Int.toNat x1) (0 : Int) + (1 : Int)), List.set x0_2_2_2_2_1 (Int.toNat x1) false, ()), true, (0 : Int), ())))))))))))))) := by kernel_rfl
theorem chear_valid : chear.Valid Try.prog 33 := by
  refine Ctr.valid_of EHear_ok rfl rfl Try.func33 (c := bodyOf Try.prog 33) rfl rfl FHear_ok rfl ?_
  rintro ⟨⟨(me : Int), (w : Int), (hd : List Int), (pc : List Int), (dd : List Bool), ⟨⟩⟩, (q : Int), ⟨⟩⟩ - -
  refine exec_sound (n := 1000) EHear_ok FHear_ok ?_
  refine holds_of_eq (EHear_t me w hd pc dd q) ?_
  simp only [holds_cond, Tree.holds, decide_eq_true_eq, decide_eq_false_iff_not, Bool.not_eq_true', Bool.not_eq_false']
  have key : ∀ {r : PulseD × Bool × Int × Unit}, r = hear (me, w, hd, pc, dd, ()) q → r = hear (me, w, hd, pc, dd, ()) q := id
  refine ⟨trivial, fun _ => ⟨fun a => key (by rw [hear, if_pos a]; rfl), fun a => ⟨trivial, fun _ => ⟨fun b => key (by rw [hear, if_neg a, if_pos b]; rfl), fun b => ⟨fun c => key (by rw [hear, if_neg a, if_neg (show ¬ inF q 0 5 = false by simp [b]), if_pos c]; rfl), fun c => ?_⟩⟩⟩⟩⟩
  have hq := inF_iff.1 b
  have hpc : 1 ≤ pc.getD q.toNat 0 ∧ pc.getD q.toNat 0 ≤ 1000 := ((pcheck_inv (Decidable.of_not_not a)).2.2.1 q.toNat (by omega)).2
  have hin : @LE.le Int Int.instLEInt 0 q ∧ @LT.lt Int Int.instLTInt q ((6 : Nat) : Int) := ⟨by omega, by omega⟩
  refine ⟨hin, fun _ => ⟨hin, fun _ => ⟨fun d => key (by rw [hear, if_neg a, if_neg (show ¬ inF q 0 5 = false by simp [b]), if_neg c, if_pos d]; rfl), fun d => ⟨hin, fun _ => ⟨hin, fun _ => ⟨inK_i64.2 ⟨by omega, by omega⟩, fun _ => ⟨hin, fun _ => key (by rw [hear, if_neg a, if_neg (show ¬ inF q 0 5 = false by simp [b]), if_neg c, if_neg (fun h : dd.getD q.toNat false = false => by rw [d] at h; cases h)]; rfl)⟩⟩⟩⟩⟩⟩⟩

def few (n : Int) : Int := rest n 6 + 1
def cfew : Ctr := { ps := [.v I64], rs := [I64], pre := fun _ => True, fn := fun x => (few x.1, ()), out := fun _ => () }
noncomputable def EFew : Env := { P := Try.prog, tt := tt, ctr := [(24, c24)], res := [Go.ResultVar.tmp 2], rs := [Ty.int IntKind.i64], ps := [PK.v (Ty.int IntKind.i64)], cuts := [], nt := 6 }
theorem EFew_ok : EnvOk EFew := envOk tt_ok ⟨c24_valid, trivial⟩
theorem FFew_ok : FnOk EFew Try.f32 := ⟨rfl, rfl⟩
theorem EFew_t (x0 : Int) : exec EFew 1000 [.code (bodyOf Try.prog 32)] (initSt cfew.ps ((x0, ()))) =
  .need ((6 : Int) ≤ (1000000 : Int)) (.need (inK IntKind.i64 (rest x0 (6 : Int) + (1 : Int))) (.ret ((rest x0 (6 : Int) + (1 : Int), ())))) := by kernel_rfl
theorem cfew_valid : cfew.Valid Try.prog 32 := by
  refine Ctr.valid_of EFew_ok rfl rfl Try.func32 (c := bodyOf Try.prog 32) rfl rfl FFew_ok rfl ?_
  rintro ⟨(n : Int), ⟨⟩⟩ - -
  refine exec_sound (n := 1000) EFew_ok FFew_ok ?_
  refine holds_of_eq (EFew_t n) ?_
  have := rest_in (a := n) (n := 6) (by omega)
  exact ⟨by decide, fun _ => ⟨inK_i64.2 ⟨by omega, by omega⟩, fun _ => rfl⟩⟩

/-- i ticks behind the last word of process 1 -/
def FewI (W M D i w : Int) (hd pc : List Int) (dd : List Bool) : Prop :=
  hd.length = 6 ∧ dd.length = 6 ∧ pc.length = 6 ∧ pcheck (0, w, hd, pc, dd, ()) = 0 ∧ hd.getD 1 0 = w - i ∧ pc.getD 1 0 = W + D - (if dd.getD 1 false = true then 1 else 0) ∧ (dd.getD 1 false = true ↔ pc.getD 1 0 < i) ∧ 0 ≤ D ∧ D ≤ (if 0 < M - W then M - W else 0)

theorem few_tick {W M D i w : Int} {hd pc : List Int} {dd : List Bool} (h : FewI W M D i w hd pc dd) (hi : 0 ≤ i ∧ i < M) (hw : w ≠ 16777215) :
    ∃ hd' dd' lost, tick (0, w, hd, pc, dd, ()) = ((0, w + 1, hd', pc, dd', ()), lost, 0, ()) ∧ FewI W M (if contains lost 1 = true then D + 1 else D) (i + 1) (w + 1) hd' pc dd' := by
  obtain ⟨h1, h2, h3, h4, h5, h6, h7, h8, h9⟩ := h
  obtain ⟨dd', lost, t1, t2, t3, t4⟩ := tick_ok ⟨h1, h2⟩ h4 hw
  obtain ⟨t5, t6⟩ := t4 1 (by omega)
  have hh : (hd.set (Int.toNat 0) (w + 1)).getD 1 0 = hd.getD 1 0 := by rw [getD_set (by show 0 < hd.length; omega), if_neg (by decide)]
  have hdue : due 0 (w + 1) (hd.set (Int.toNat 0) (w + 1)) pc dd 1 = (!dd.getD 1 false && decide (pc.getD 1 0 < i + 1)) := by
    have e1 : decide (((1 : Nat) : Int) ≠ 0) = true := by decide
    have e2 : decide (pc.getD 1 0 < w + 1 - hd.getD 1 0) = decide (pc.getD 1 0 < i + 1) := decide_eq_decide.2 (by omega)
    simp only [due, hh, e1, e2, Bool.true_and]
  have hc : contains lost 1 = (!dd.getD 1 false && decide (pc.getD 1 0 < i + 1)) := by
    rw [← hdue]
    cases hd2 : due 0 (w + 1) (hd.set (Int.toNat 0) (w + 1)) pc dd 1 with
    | true => exact decide_eq_true (t6.2 hd2)
    | false => exact decide_eq_false (fun h => by rw [t6.1 h] at hd2; cases hd2)
  rw [hdue] at t5
  refine ⟨_, dd', lost, t1, by simp [h1], t2, h3, t3, by rw [hh]; omega, ?_⟩
  rw [hc, t5]
  cases hd1 : dd.getD 1 false with
  | true =>
    have := h7.1 hd1
    rw [hd1] at h6
    simp only [Bool.not_true, Bool.false_and, Bool.true_or, Bool.false_eq_true, if_true, if_false] at h6 ⊢
    exact ⟨h6, ⟨fun _ => by omega, fun _ => trivial⟩, h8, h9⟩
  | false =>
    have h7' : ¬ pc.getD 1 0 < i := fun h => by have := h7.2 h; rw [hd1] at this; cases this
    rw [hd1] at h6
    simp only [Bool.false_eq_true, if_false] at h6
    by_cases hl : pc.getD 1 0 < i + 1
    · simp only [decide_eq_true hl, Bool.not_false, Bool.and_self, Bool.or_true, if_true]
      refine ⟨by omega, ⟨fun _ => hl, fun _ => trivial⟩, by omega, ?_⟩
      split <;> omega
    · simp only [decide_eq_false hl, Bool.not_false, Bool.and_false, Bool.or_false, Bool.false_eq_true, if_false]
      exact ⟨by omega, ⟨fun h => h.elim, fun h => (hl h).elim⟩, h8, h9⟩

theorem few_hear {W M D i w : Int} {hd pc : List Int} {dd : List Bool} (h : FewI W M D i w hd pc dd) (hW : W + D ≤ 100) :
    ∃ hd' pc' dd', hear (0, w, hd, pc, dd, ()) 1 = ((0, w, hd', pc', dd', ()), dd.getD 1 false, 0, ()) ∧ FewI W M D 0 w hd' pc' dd' := by
  obtain ⟨h1, h2, h3, h4, h5, h6, h7, h8, h9⟩ := h
  obtain ⟨p1, p2, p3, p4⟩ := pcheck_inv h4
  have p2 : 0 ≤ w ∧ w ≤ 16777215 := p2
  have p3 : ∀ i, i < 6 → (0 ≤ hd.getD i 0 ∧ hd.getD i 0 ≤ w) ∧ 1 ≤ pc.getD i 0 ∧ pc.getD i 0 ≤ 1000 := p3
  have p4 : dd.getD 0 false = false := p4
  have hset : ∀ j, (hd.set 1 w).getD j 0 = if j = 1 then w else hd.getD j 0 := fun j => getD_set (by omega)
  have hin : inF 1 0 5 = true := rfl
  have p5 := p3 1 (by omega)
  cases hd1 : dd.getD 1 false with
  | false =>
    refine ⟨hd.set 1 w, pc, dd, ?_, by simp [h1], h2, h3, pcheck_mk p1 p2 (fun j hj => ⟨?_, (p3 j hj).2⟩) p4, ?_, h6, ?_, h8, h9⟩
    · have hd1 : dd.getD (Int.toNat 1) false = false := hd1
      rw [hear, if_neg (by simp [h4]), if_neg (by simp [hin]), if_neg (show ¬ (1 : Int) = 0 by decide)]
      simp only [hd1, if_true]
      rfl
    · rw [hset]
      have := (p3 j hj).1
      split <;> omega
    · rw [hset, if_pos rfl]; omega
    · rw [hd1]; exact ⟨fun h => (by cases h), fun h => by omega⟩
  | true =>
    rw [hd1] at h6
    simp only [if_true] at h6
    have hset2 : ∀ j, (pc.set 1 (pc.getD 1 0 + 1)).getD j 0 = if j = 1 then pc.getD 1 0 + 1 else pc.getD j 0 := fun j => getD_set (by omega)
    have hset3 : ∀ j, (dd.set 1 false).getD j false = if j = 1 then false else dd.getD j false := fun j => getD_set (by omega)
    refine ⟨hd.set 1 w, pc.set 1 (pc.getD 1 0 + 1), dd.set 1 false, ?_, by simp [h1], by simp [h2], by simp [h3], pcheck_mk p1 p2 (fun j hj => ⟨?_, ?_⟩) ?_, ?_, ?_, ?_, h8, h9⟩
    · have hd1 : dd.getD (Int.toNat 1) false = true := hd1
      have hn : ¬ 1000 < pc.getD (Int.toNat 1) 0 + 1 := by show ¬ 1000 < pc.getD 1 0 + 1; omega
      rw [hear, if_neg (by simp [h4]), if_neg (by simp [hin]), if_neg (show ¬ (1 : Int) = 0 by decide)]
      simp only [hd1, Bool.true_eq_false, if_false, if_neg hn]
      rfl
    · rw [hset]
      have := (p3 j hj).1
      split <;> omega
    · rw [hset2]
      have := (p3 j hj).2
      split <;> omega
    · show (dd.set 1 false).getD 0 false = false
      rw [hset3, if_neg (by decide), p4]
    · rw [hset, if_pos rfl]; omega
    · rw [hset2, if_pos rfl, hset3, if_pos rfl]; simp only [Bool.false_eq_true, if_false]; omega
    · rw [hset2, if_pos rfl, hset3, if_pos rfl]
      exact ⟨fun h => (by cases h), fun h => by omega⟩

theorem few_new {W : Int} (h : 1 ≤ W ∧ W ≤ 6) (M : Int) : newP 0 W = (freshP 0 W, 0, ()) ∧ FewI W M 0 0 0 [0, 0, 0, 0, 0, 0] (List.replicate 6 W) [false, false, false, false, false, false] := by
  have hg : ∀ i, i < 6 → (List.replicate 6 W).getD i 0 = W := by
    intro i hi
    rw [List.getD_eq_getElem?_getD, List.getElem?_replicate, if_pos hi]; rfl
  have hz : ∀ i, i < 6 → ([0, 0, 0, 0, 0, 0] : List Int).getD i 0 = 0 := by
    intro i hi
    match i, hi with
    | 0, _ | 1, _ | 2, _ | 3, _ | 4, _ | 5, _ => rfl
  have hp : pcheck (freshP 0 W) = 0 := pcheck_mk (by decide) (by decide) (fun i hi => ⟨by rw [hz i hi]; decide, by rw [hg i hi]; omega⟩) rfl
  refine ⟨by rw [newP, if_neg (by simp [hp])], rfl, rfl, by simp, hp, rfl, ?_, ?_, by omega, ?_⟩
  · rw [hg 1 (by omega)]
    show W = W + 0 - 0
    omega
  · rw [hg 1 (by omega)]
    exact ⟨fun h => (by cases h), fun h => by omega⟩
  · split <;> omega

def cfewL : Ctr := lawC [I64, .slc false I64, I64] (fun _ => True)
noncomputable def EPulseFew : Env := { P := Try.prog, tt := tt, ctr := [(28, cnewP), (29, ctick), (33, chear), (32, cfew), (24, c24), (31, ccont)], res := [Go.ResultVar.tmp 6], rs := [Ty.bool], ps := [PK.v (Ty.int IntKind.i64), PK.v (Ty.slc false (Ty.int IntKind.i64)), PK.v (Ty.int IntKind.i64)], cuts := [(10, [(0, none), (2, none), (9, none), (11, none), (44, none), (45, none), (46, none)]), (13, [(0, none), (2, none), (9, none), (11, none), (44, none), (45, none), (46, none), (53, none), (54, none)])], nt := 110 }
theorem EPulseFew_ok : EnvOk EPulseFew := envOk tt_ok ⟨cnewP_valid, ctick_valid, chear_valid, cfew_valid, c24_valid, ccont_valid, trivial⟩
theorem FPulseFew_ok : FnOk EPulseFew Try.f11 := ⟨rfl, rfl⟩
theorem EPulseFew_t (x0 : Int) (x1 : List Int) (x2 : Int) : exec EPulseFew 1000 [.code (bodyOf Try.prog 11)] (initSt cfewL.ps ((x0, x1, x2, ()))) =
  .need (True) (cond (decide (Prod.fst (Prod.snd (newP (1 : Int) (3 : Int))) ≠ (0 : Int))) (.ret ((false, ()))) (.need ((0 : Int) ≤ (0 : Int) ∧ (0 : Int) < (↑6 : Int)) (cond (decide (List.getD (Prod.fst (Prod.snd (Prod.snd (Prod.snd (Prod.fst (newP (1 : Int) (3 : Int))))))) (Int.toNat (0 : Int)) (0 : Int) ≠ (3 : Int))) (.ret ((false, ()))) (.need (True) (.need ((12 : Int) ≤ (1000000 : Int)) (.need (inK IntKind.i64 (rest x2 (12 : Int) + (1 : Int))) (.need (True) (cond (decide (Prod.fst (Prod.snd (newP (0 : Int) (few x0))) ≠ (0 : Int))) (.ret ((false, ()))) (.cut (loopAt (bodyOf Try.prog 11) 10).1 (loopAt (bodyOf Try.prog 11) 10).2 (St.mk [(0, AV.val (Ty.int IntKind.i64) (few x0)), (2, AV.val (Ty.int IntKind.i64) (rest x2 (12 : Int) + (1 : Int))), (9, AV.ptr 9 []), (11, AV.val (Ty.int IntKind.i64) (0 : Int)), (44, AV.val (Ty.slc false (Ty.int IntKind.i64)) x1), (45, AV.val (Ty.int IntKind.i64) (↑(List.length x1) : Int)), (46, AV.val (Ty.int IntKind.i64) (0 : Int))] [(9, Ent.var Pulse (Prod.fst (newP (0 : Int) (few x0))))])))))))))) := by kernel_rfl
def EPulseFew_s10 (v0 : Int) (v2 : Int) (v11 : Int) (v44 : List Int) (v45 : Int) (v46 : Int) (o9_1 : Int) (o9_2_1 : Int) (o9_2_2_1 : List Int) (o9_2_2_2_1 : List Int) (o9_2_2_2_2_1 : List Bool) : St := St.mk [(0, AV.val (Ty.int IntKind.i64) v0), (2, AV.val (Ty.int IntKind.i64) v2), (9, AV.ptr 9 []), (11, AV.val (Ty.int IntKind.i64) v11), (44, AV.val (Ty.slc false (Ty.int IntKind.i64)) v44), (45, AV.val (Ty.int IntKind.i64) v45), (46, AV.val (Ty.int IntKind.i64) v46)] [(9, Ent.var Pulse (o9_1, o9_2_1, o9_2_2_1, o9_2_2_2_1, o9_2_2_2_2_1, ()))]
theorem EPulseFew_l10 (v0 : Int) (v2 : Int) (v11 : Int) (v44 : List Int) (v45 : Int) (v46 : Int) (o9_1 : Int) (o9_2_1 : Int) (o9_2_2_1 : List Int) (o9_2_2_2_1 : List Int) (o9_2_2_2_2_1 : List Bool) : exec EPulseFew 1000 (.code (loopAt (bodyOf Try.prog 11) 10).1 :: .inLoop (loopAt (bodyOf Try.prog 11) 10).1 :: (loopAt (bodyOf Try.prog 11) 10).2) (EPulseFew_s10 v0 v2 v11 v44 v45 v46 o9_1 o9_2_1 o9_2_2_1 o9_2_2_2_1 o9_2_2_2_2_1) =
  cond (decide (v46 < v45)) (.need ((0 : Int) ≤ v46 ∧ v46 < (↑(List.length v44) : Int)) (.need (v2 ≤ (1000000 : Int)) (.need (inK IntKind.i64 (rest (List.getD v44 (Int.toNat v46) (0 : Int)) v2 + (1 : Int))) (.cut (loopAt (bodyOf Try.prog 11) 13).1 (loopAt (bodyOf Try.prog 11) 13).2 (St.mk [(0, AV.val (Ty.int IntKind.i64) v0), (2, AV.val (Ty.int IntKind.i64) v2), (9, AV.ptr 9 []), (11, AV.val (Ty.int IntKind.i64) v11), (44, AV.val (Ty.slc false (Ty.int IntKind.i64)) v44), (45, AV.val (Ty.int IntKind.i64) v45), (46, AV.val (Ty.int IntKind.i64) v46), (53, AV.val (Ty.int IntKind.i64) (rest (List.getD v44 (Int.toNat v46) (0 : Int)) v2 + (1 : Int))), (54, AV.val (Ty.int IntKind.i64) (0 : Int))] [(9, Ent.var Pulse (o9_1, o9_2_1, o9_2_2_1, o9_2_2_2_1, o9_2_2_2_2_1, ()))]))))) (.need (inK IntKind.i64 (v2 - v0)) (cond (decide (v11 ≤ if (0 : Int) < v2 - v0 then v2 - v0 else (0 : Int))) (.need ((0 : Int) ≤ (1 : Int) ∧ (1 : Int) < (↑6 : Int)) (.need (inK IntKind.i64 (v0 + v11)) (.ret ((decide (List.getD o9_2_2_2_1 (Int.toNat (1 : Int)) (0 : Int) = v0 + v11), ()))))) (.ret ((false, ()))))) := by kernel_rfl
def EPulseFew_s13 (v0 : Int) (v2 : Int) (v11 : Int) (v44 : List Int) (v45 : Int) (v46 : Int) (v53 : Int) (v54 : Int) (o9_1 : Int) (o9_2_1 : Int) (o9_2_2_1 : List Int) (o9_2_2_2_1 : List Int) (o9_2_2_2_2_1 : List Bool) : St := St.mk [(0, AV.val (Ty.int IntKind.i64) v0), (2, AV.val (Ty.int IntKind.i64) v2), (9, AV.ptr 9 []), (11, AV.val (Ty.int IntKind.i64) v11), (44, AV.val (Ty.slc false (Ty.int IntKind.i64)) v44), (45, AV.val (Ty.int IntKind.i64) v45), (46, AV.val (Ty.int IntKind.i64) v46), (53, AV.val (Ty.int IntKind.i64) v53), (54, AV.val (Ty.int IntKind.i64) v54)] [(9, Ent.var Pulse (o9_1, o9_2_1, o9_2_2_1, o9_2_2_2_1, o9_2_2_2_2_1, ()))]
theorem EPulseFew_l13 (v0 : Int) (v2 : Int) (v11 : Int) (v44 : List Int) (v45 : Int) (v46 : Int) (v53 : Int) (v54 : Int) (o9_1 : Int) (o9_2_1 : Int) (o9_2_2_1 : List Int) (o9_2_2_2_1 : List Int) (o9_2_2_2_2_1 : List Bool) : exec EPulseFew 1000 (.code (loopAt (bodyOf Try.prog 11) 13).1 :: .inLoop (loopAt (bodyOf Try.prog 11) 13).1 :: (loopAt (bodyOf Try.prog 11) 13).2) (EPulseFew_s13 v0 v2 v11 v44 v45 v46 v53 v54 o9_1 o9_2_1 o9_2_2_1 o9_2_2_2_1 o9_2_2_2_2_1) =
  cond (decide (v54 < v53)) (.need (True) (cond (decide (Prod.fst (Prod.snd (Prod.snd (tick (o9_1, o9_2_1, o9_2_2_1, o9_2_2_2_1, o9_2_2_2_2_1, ())))) = (8 : Int))) (.need (inK IntKind.i64 (v2 - v0)) (.ret ((decide (v11 ≤ if (0 : Int) < v2 - v0 then v2 - v0 else (0 : Int)), ())))) (cond (decide (Prod.fst (Prod.snd (Prod.snd (tick (o9_1, o9_2_1, o9_2_2_1, o9_2_2_2_1, o9_2_2_2_2_1, ())))) ≠ (0 : Int))) (.ret ((false, ()))) (.need (True) (cond (contains (Prod.fst (Prod.snd (tick (o9_1, o9_2_1, o9_2_2_1, o9_2_2_2_1, o9_2_2_2_2_1, ())))) (1 : Int)) (.need (inK IntKind.i64 (v11 + (1 : Int))) (.need (inK IntKind.i64 (v54 + (1 : Int))) (.cut (loopAt (bodyOf Try.prog 11) 13).1 (loopAt (bodyOf Try.prog 11) 13).2 (St.mk [(0, AV.val (Ty.int IntKind.i64) v0), (2, AV.val (Ty.int IntKind.i64) v2), (9, AV.ptr 9 []), (11, AV.val (Ty.int IntKind.i64) (v11 + (1 : Int))), (44, AV.val (Ty.slc false (Ty.int IntKind.i64)) v44), (45, AV.val (Ty.int IntKind.i64) v45), (46, AV.val (Ty.int IntKind.i64) v46), (53, AV.val (Ty.int IntKind.i64) v53), (54, AV.val (Ty.int IntKind.i64) (v54 + (1 : Int)))] [(9, Ent.var Pulse (Prod.fst (tick (o9_1, o9_2_1, o9_2_2_1, o9_2_2_2_1, o9_2_2_2_2_1, ()))))])))) (.need (inK IntKind.i64 (v54 + (1 : Int))) (.cut (loopAt (bodyOf Try.prog 11) 13).1 (loopAt (bodyOf Try.prog 11) 13).2 (St.mk [(0, AV.val (Ty.int IntKind.i64) v0), (2, AV.val (Ty.int IntKind.i64) v2), (9, AV.ptr 9 []), (11, AV.val (Ty.int IntKind.i64) v11), (44, AV.val (Ty.slc false (Ty.int IntKind.i64)) v44), (45, AV.val (Ty.int IntKind.i64) v45), (46, AV.val (Ty.int IntKind.i64) v46), (53, AV.val (Ty.int IntKind.i64) v53), (54, AV.val (Ty.int IntKind.i64) (v54 + (1 : Int)))] [(9, Ent.var Pulse (Prod.fst (tick (o9_1, o9_2_1, o9_2_2_1, o9_2_2_2_1, o9_2_2_2_2_1, ()))))])))))))) (.need (True) (cond (decide (Prod.fst (Prod.snd (Prod.snd (hear (o9_1, o9_2_1, o9_2_2_1, o9_2_2_2_1, o9_2_2_2_2_1, ()) (1 : Int)))) ≠ (0 : Int))) (.ret ((false, ()))) (.need ((0 : Int) ≤ (1 : Int) ∧ (1 : Int) < (↑6 : Int)) (cond (Prod.fst (Prod.snd (hear (o9_1, o9_2_1, o9_2_2_1, o9_2_2_2_1, o9_2_2_2_2_1, ()) (1 : Int))) != List.getD o9_2_2_2_2_1 (Int.toNat (1 : Int)) false) (.ret ((false, ()))) (.need (inK IntKind.i64 (v46 + (1 : Int))) (.cut (loopAt (bodyOf Try.prog 11) 10).1 (loopAt (bodyOf Try.prog 11) 10).2 (St.mk [(0, AV.val (Ty.int IntKind.i64) v0), (2, AV.val (Ty.int IntKind.i64) v2), (9, AV.ptr 9 []), (11, AV.val (Ty.int IntKind.i64) v11), (44, AV.val (Ty.slc false (Ty.int IntKind.i64)) v44), (45, AV.val (Ty.int IntKind.i64) v45), (46, AV.val (Ty.int IntKind.i64) (v46 + (1 : Int)))] [(9, Ent.var Pulse (Prod.fst (hear (o9_1, o9_2_1, o9_2_2_1, o9_2_2_2_1, o9_2_2_2_2_1, ()) (1 : Int))))]))))))) := by kernel_rfl
theorem c11_valid : (lawC [I64, .slc false I64, I64] (fun _ => True)).Valid Try.prog 11 := by
  refine Ctr.valid_of EPulseFew_ok rfl rfl Try.func11 (c := bodyOf Try.prog 11) rfl rfl FPulseFew_ok rfl ?_
  rintro ⟨(x0 : Int), (l : List Int), (x2 : Int), ⟨⟩⟩ - ⟨-, ⟨hl, -⟩, -⟩
  have hl : l.length ≤ 9223372036854775807 := hl
  refine exec_sound (n := 1000) EPulseFew_ok FPulseFew_ok ?_
  refine holds_of_eq (EPulseFew_t x0 l x2) ?_
  have yes : ((true, ()) : Bool × Unit) = (true, ()) := rfl
  have yesd : ∀ {p : Prop} [Decidable p], p → ((decide p, ()) : Bool × Unit) = (true, ()) := fun h => by rw [decide_eq_true h]
  obtain ⟨n0, n5⟩ := rest_in (a := x2) (n := 12) (by omega)
  obtain ⟨q0, q5⟩ := rest_in (a := x0) (n := 6) (by omega)
  have hfew : few x0 = rest x0 6 + 1 := rfl
  generalize few x0 = W at *
  generalize rest x2 12 = M at *
  obtain ⟨f1, f2⟩ := few_new (W := W) (by omega) (M + 1)
  rw [f1]
  simp only [holds_cond, Tree.holds, decide_eq_true_eq, decide_eq_false_iff_not]
  refine ⟨trivial, fun _ => ⟨fun a => absurd (by decide +kernel) a, fun _ => ⟨⟨by decide, by decide⟩, fun _ => ⟨fun a => absurd (by decide +kernel) a, fun _ => ⟨trivial, fun _ => ⟨by decide, fun _ => ⟨inK_i64.2 ⟨by omega, by omega⟩, fun _ => ⟨trivial, fun _ => ⟨fun a => absurd rfl a, fun _ => ?_⟩⟩⟩⟩⟩⟩⟩⟩⟩
  refine Reach.loopI EPulseFew_ok FPulseFew_ok (fun s : Nat × Int × Int × List Int × List Int × List Bool => EPulseFew_s10 W (M + 1) s.2.1 l (l.length : Int) (s.1 : Int) 0 s.2.2.1 s.2.2.2.1 s.2.2.2.2.1 s.2.2.2.2.2)
    (fun s => s.1 ≤ l.length ∧ FewI W (M + 1) s.2.1 0 s.2.2.1 s.2.2.2.1 s.2.2.2.2.1 s.2.2.2.2.2)
    (fun s => l.length - s.1) 1000 (fun s => ⟨uniq_of rfl, uniq_of rfl⟩) ?_ (0, 0, 0, [0, 0, 0, 0, 0, 0], List.replicate 6 W, [false, false, false, false, false, false]) ⟨by simp, f2⟩
  rintro ⟨i, D, w, hd, pc, dd⟩ ⟨k1, k2⟩ - ih
  have k1 : i ≤ l.length := k1
  have k2 : FewI W (M + 1) D 0 w hd pc dd := k2
  have hD : D ≤ (if 0 < (M + 1) - W then (M + 1) - W else 0) := k2.2.2.2.2.2.2.2.2
  have hD0 : 0 ≤ D := k2.2.2.2.2.2.2.2.1
  have hD2 : D ≤ 12 := by split at hD <;> omega
  refine holds_of_eq (EPulseFew_l10 ..) ?_
  simp only [holds_cond, Tree.holds, decide_eq_true_eq, decide_eq_false_iff_not, Int.toNat_natCast]
  have hsub : inK .i64 (M + 1 - W) := inK_i64.2 ⟨by omega, by omega⟩
  refine ⟨fun a => ?_, fun a => ⟨hsub, fun _ => ⟨fun b => ⟨⟨by decide, by decide⟩, fun _ => ⟨inK_i64.2 ⟨by omega, by omega⟩, fun _ => yesd ?_⟩⟩, fun b => absurd hD b⟩⟩⟩
  · have hi : i < l.length := by omega
    obtain ⟨g0, g5⟩ := rest_in (a := l.getD i 0) (n := M + 1) (by omega)
    refine ⟨⟨by omega, by omega⟩, fun _ => ⟨by omega, fun _ => ⟨inK_i64.2 ⟨by omega, by omega⟩, fun _ => ?_⟩⟩⟩
    generalize rest (l.getD i 0) (M + 1) = G at *
    refine Reach.loopI EPulseFew_ok FPulseFew_ok (fun s : Nat × Int × Int × List Int × List Int × List Bool => EPulseFew_s13 W (M + 1) s.2.1 l (l.length : Int) (i : Int) (G + 1) (s.1 : Int) 0 s.2.2.1 s.2.2.2.1 s.2.2.2.2.1 s.2.2.2.2.2)
      (fun s => (s.1 : Int) ≤ G + 1 ∧ FewI W (M + 1) s.2.1 (s.1 : Int) s.2.2.1 s.2.2.2.1 s.2.2.2.2.1 s.2.2.2.2.2)
      (fun s => (G + 1).toNat - s.1) 1000 (fun s => ⟨uniq_of rfl, uniq_of rfl⟩) ?_ (0, D, w, hd, pc, dd) ⟨by simp; omega, k2⟩
    rintro ⟨j, D, w, hd, pc, dd⟩ ⟨m1, m2⟩ - ih2
    have m1 : (j : Int) ≤ G + 1 := m1
    have m2 : FewI W (M + 1) D j w hd pc dd := m2
    have hD : D ≤ (if 0 < (M + 1) - W then (M + 1) - W else 0) := m2.2.2.2.2.2.2.2.2
    have hD0 : 0 ≤ D := m2.2.2.2.2.2.2.2.1
    have hD2 : D ≤ 12 := by split at hD <;> omega
    have hk : inK .i64 ((j : Int) + 1) := inc_in (by omega)
    have hi1 : inK .i64 ((i : Int) + 1) := inK_i64.2 ⟨by omega, by omega⟩
    refine holds_of_eq (EPulseFew_l13 ..) ?_
    obtain ⟨hd', pc', dd', s1, s2⟩ := few_hear m2 (by omega)
    by_cases hj : (j : Int) < G + 1
    · by_cases hw : w = 16777215
      · have ht : tick (0, w, hd, pc, dd, ()) = (zeroP, [], 8, ()) := by
          rw [tick, if_neg (by simp [m2.2.2.2.1]), if_pos hw]
        simp only [ht]
        simp only [holds_cond, Tree.holds, decide_eq_true_eq, decide_eq_false_iff_not]
        exact ⟨fun _ => ⟨trivial, fun _ => ⟨fun _ => ⟨hsub, fun _ => yesd hD⟩, fun h => (h trivial).elim⟩⟩, fun h => (h hj).elim⟩
      · obtain ⟨hd1, dd1, lost, t1, t2⟩ := few_tick m2 (by omega) hw
        simp only [t1]
        simp only [holds_cond, Tree.holds, decide_eq_true_eq, decide_eq_false_iff_not]
        refine ⟨fun a => ⟨trivial, fun _ => ⟨fun h => absurd h (by decide), fun _ => ⟨fun h => (h rfl).elim, fun _ => ⟨trivial, fun _ => ⟨fun h => ⟨inK_i64.2 ⟨by omega, by omega⟩, fun _ => ⟨hk, fun _ => ?_⟩⟩, fun h => ⟨hk, fun _ => ?_⟩⟩⟩⟩⟩⟩, fun h => (h hj).elim⟩
        · rw [if_pos h] at t2
          exact ih2 (j + 1, D + 1, w + 1, hd1, pc, dd1) ⟨by show ((j + 1 : Nat) : Int) ≤ G + 1; omega, t2⟩ (by show (G + 1).toNat - (j + 1) < (G + 1).toNat - j; omega)
        · rw [if_neg (by simp [h])] at t2
          exact ih2 (j + 1, D, w + 1, hd1, pc, dd1) ⟨by show ((j + 1 : Nat) : Int) ≤ G + 1; omega, t2⟩ (by show (G + 1).toNat - (j + 1) < (G + 1).toNat - j; omega)
    · simp only [s1]
      simp only [holds_cond, Tree.holds, decide_eq_true_eq, decide_eq_false_iff_not]
      refine ⟨fun h => (hj h).elim, fun a => ⟨trivial, fun _ => ⟨fun h => (h rfl).elim, fun _ => ⟨⟨by decide, by decide⟩, fun _ => ⟨fun h => ?_, fun _ => ⟨hi1, fun _ => ?_⟩⟩⟩⟩⟩⟩
      · simp at h
      · exact ih (i + 1, D, w, hd', pc', dd') ⟨hi, s2⟩ (by show l.length - (i + 1) < l.length - i; omega)
  · have h1 := k2.2.2.2.2.2.1
    have h2 := k2.2.2.2.2.2.2.1
    have h3 : ¬ dd.getD 1 false = true := fun h => by
      have := h2.1 h
      have h4 := ((pcheck_inv k2.2.2.2.1).2.2.1 1 (by omega)).2
      have h4 : 1 ≤ pc.getD 1 0 ∧ pc.getD 1 0 ≤ 1000 := h4
      omega
    rw [if_neg h3] at h1
    show pc.getD 1 0 = W + D
    omega
end Go.Proofs.Ytagjonjobbckdaa
