/- PulseLead: the law's contract. -/
import Derived.Test.YtagjonjobbckdaaPulse
namespace Go.Proofs.Ytagjonjobbckdaa
open Go.Ex
set_option maxRecDepth 100000
def clawL : Ctr := lawC [Pulse, Pulse] (fun _ => True)
noncomputable def EPulseLead : Env := { P := Try.prog, tt := tt, ctr := [(21, clead)], res := [Go.ResultVar.tmp 4], rs := [Ty.bool], ps := [PK.v Pulse, PK.v Pulse], cuts := [], nt := 82 }
theorem EPulseLead_ok : EnvOk EPulseLead := envOk tt_ok ⟨clead_valid, trivial⟩
theorem FPulseLead_ok : FnOk EPulseLead Try.f6 := ⟨rfl, rfl⟩
theorem EPulseLead_t (x0_1 : Int) (x0_2_1 : Int) (x0_2_2_1 : List Int) (x0_2_2_2_1 : List Int) (x0_2_2_2_2_1 : List Bool) (x1_1 : Int) (x1_2_1 : Int) (x1_2_2_1 : List Int) (x1_2_2_2_1 : List Int) (x1_2_2_2_2_1 : List Bool) : exec EPulseLead 1000 [.code (bodyOf Try.prog 6)] (initSt clawL.ps (((x0_1, x0_2_1, x0_2_2_1, x0_2_2_2_1, x0_2_2_2_2_1, ()), (x1_1, x1_2_1, x1_2_2_1, x1_2_2_2_1, x1_2_2_2_2_1, ()), ()))) =
  .need (True) (cond (decide (Prod.fst (Prod.snd (leadF ((2 : Int), (0 : Int), [(0 : Int), (0 : Int), (0 : Int), (0 : Int), (0 : Int), (0 : Int)], List.set (List.set (List.set (List.set (List.set (List.set [(0 : Int), (0 : Int), (0 : Int), (0 : Int), (0 : Int), (0 : Int)] (Int.toNat (↑0 : Int)) (1 : Int)) (Int.toNat (↑1 : Int)) (1 : Int)) (Int.toNat (↑2 : Int)) (1 : Int)) (Int.toNat (↑3 : Int)) (1 : Int)) (Int.toNat (↑4 : Int)) (1 : Int)) (Int.toNat (↑5 : Int)) (1 : Int), List.set [false, false, false, false, false, false] (Int.toNat (↑0 : Int)) true, ()))) ≠ (0 : Int))) (.ret ((false, ()))) (cond (decide (Prod.fst (leadF ((2 : Int), (0 : Int), [(0 : Int), (0 : Int), (0 : Int), (0 : Int), (0 : Int), (0 : Int)], List.set (List.set (List.set (List.set (List.set (List.set [(0 : Int), (0 : Int), (0 : Int), (0 : Int), (0 : Int), (0 : Int)] (Int.toNat (↑0 : Int)) (1 : Int)) (Int.toNat (↑1 : Int)) (1 : Int)) (Int.toNat (↑2 : Int)) (1 : Int)) (Int.toNat (↑3 : Int)) (1 : Int)) (Int.toNat (↑4 : Int)) (1 : Int)) (Int.toNat (↑5 : Int)) (1 : Int), List.set [false, false, false, false, false, false] (Int.toNat (↑0 : Int)) true, ())) ≠ (1 : Int))) (.ret ((false, ()))) (.need (True) (.need (True) (cond (decide (Prod.fst (Prod.snd (leadF (x0_1, x0_2_1, x0_2_2_1, x0_2_2_2_1, x0_2_2_2_2_1, ()))) ≠ (0 : Int))) (cond (decide (Prod.fst (Prod.snd (leadF (x0_1, x0_2_1, x0_2_2_1, x0_2_2_2_1, x0_2_2_2_2_1, ()))) = (0 : Int))) (.ret ((true, ()))) (.ret ((decide (Prod.fst (leadF (x0_1, x0_2_1, x0_2_2_1, x0_2_2_2_1, x0_2_2_2_2_1, ())) = (0 : Int)), ())))) (cond (decide (Prod.fst (Prod.snd (leadF (x1_1, x1_2_1, x1_2_2_1, x1_2_2_2_1, x1_2_2_2_2_1, ()))) ≠ (0 : Int))) (cond (decide (Prod.fst (Prod.snd (leadF (x0_1, x0_2_1, x0_2_2_1, x0_2_2_2_1, x0_2_2_2_2_1, ()))) = (0 : Int))) (.ret ((true, ()))) (.ret ((decide (Prod.fst (leadF (x0_1, x0_2_1, x0_2_2_1, x0_2_2_2_1, x0_2_2_2_2_1, ())) = (0 : Int)), ())))) (cond (decide (Prod.fst (leadF (x0_1, x0_2_1, x0_2_2_1, x0_2_2_2_1, x0_2_2_2_2_1, ())) < (0 : Int))) (.ret ((false, ()))) (cond (decide ((5 : Int) < Prod.fst (leadF (x0_1, x0_2_1, x0_2_2_1, x0_2_2_2_1, x0_2_2_2_2_1, ())))) (.ret ((false, ()))) (.need ((0 : Int) ≤ Prod.fst (leadF (x0_1, x0_2_1, x0_2_2_1, x0_2_2_2_1, x0_2_2_2_2_1, ())) ∧ Prod.fst (leadF (x0_1, x0_2_1, x0_2_2_1, x0_2_2_2_1, x0_2_2_2_2_1, ())) < (↑6 : Int)) (cond (List.getD x0_2_2_2_2_1 (Int.toNat (Prod.fst (leadF (x0_1, x0_2_1, x0_2_2_1, x0_2_2_2_1, x0_2_2_2_2_1, ())))) false) (.ret ((false, ()))) (cond (decide (Prod.fst (leadF (x1_1, x1_2_1, x1_2_2_1, x1_2_2_2_1, x1_2_2_2_2_1, ())) < (0 : Int))) (.ret ((false, ()))) (cond (decide ((5 : Int) < Prod.fst (leadF (x1_1, x1_2_1, x1_2_2_1, x1_2_2_2_1, x1_2_2_2_2_1, ())))) (.ret ((false, ()))) (.need ((0 : Int) ≤ Prod.fst (leadF (x1_1, x1_2_1, x1_2_2_1, x1_2_2_2_1, x1_2_2_2_2_1, ())) ∧ Prod.fst (leadF (x1_1, x1_2_1, x1_2_2_1, x1_2_2_2_1, x1_2_2_2_2_1, ())) < (↑6 : Int)) (cond (List.getD x1_2_2_2_2_1 (Int.toNat (Prod.fst (leadF (x1_1, x1_2_1, x1_2_2_1, x1_2_2_2_1, x1_2_2_2_2_1, ())))) false) (.ret ((false, ()))) (cond (!eqD (Ty.arr 6 Ty.bool) x0_2_2_2_2_1 x1_2_2_2_2_1) (.ret ((true, ()))) (.ret ((decide (Prod.fst (leadF (x0_1, x0_2_1, x0_2_2_1, x0_2_2_2_1, x0_2_2_2_2_1, ())) = Prod.fst (leadF (x1_1, x1_2_1, x1_2_2_1, x1_2_2_2_1, x1_2_2_2_2_1, ()))), ())))))))))))))))))) := by kernel_rfl

theorem eq_bools : ∀ {l m : List Bool}, eqD (.arr 6 .bool) l m = true → l = m
  | [], [], _ => rfl
  | [], _ :: _, h => by cases h
  | _ :: _, [], h => by cases h
  | a :: l, b :: m, h => by
    have h : ((a == b) && eqD (.arr 6 .bool) l m) = true := h
    simp only [Bool.and_eq_true, beq_iff_eq] at h
    rw [h.1, eq_bools h.2]

theorem c6_valid : (lawC [Pulse, Pulse] (fun _ => True)).Valid Try.prog 6 := by
  refine Ctr.valid_of EPulseLead_ok rfl rfl Try.func6 (c := bodyOf Try.prog 6) rfl rfl FPulseLead_ok rfl ?_
  rintro ⟨⟨(me : Int), (wait : Int), (hd : List Int), (pc : List Int), (dd : List Bool), ⟨⟩⟩, ⟨(me' : Int), (wait' : Int), (hd' : List Int), (pc' : List Int), (dd' : List Bool), ⟨⟩⟩, ⟨⟩⟩ - -
  refine exec_sound (n := 1000) EPulseLead_ok FPulseLead_ok ?_
  refine holds_of_eq (EPulseLead_t me wait hd pc dd me' wait' hd' pc' dd') ?_
  simp only [holds_cond, Tree.holds, decide_eq_true_eq, decide_eq_false_iff_not]
  have yes : ((true, ()) : Bool × Unit) = (true, ()) := rfl
  refine ⟨trivial, fun _ => ⟨fun a => absurd (by decide +kernel) a, fun _ => ⟨fun a => absurd (by decide +kernel) a, fun _ => ⟨trivial, fun _ => ⟨trivial, fun _ => ⟨fun a => ⟨fun _ => yes, fun _ => ?_⟩, fun a => ⟨fun b => ⟨fun _ => yes, fun c => absurd (Decidable.of_not_not a) c⟩, fun b => ?_⟩⟩⟩⟩⟩⟩⟩
  · have := leadF_err a
    show ((decide _, ()) : Bool × Unit) = (true, ())
    rw [this]; rfl
  · obtain ⟨_, h1, h2, h3⟩ := leadF_ok (Decidable.of_not_not a)
    obtain ⟨_, g1, g2, g3⟩ := leadF_ok (Decidable.of_not_not b)
    have h1 : leadF (me, wait, hd, pc, dd, ()) = (((leadN dd 6 0 : Nat) : Int), 0, ()) := h1
    have g1 : leadF (me', wait', hd', pc', dd', ()) = (((leadN dd' 6 0 : Nat) : Int), 0, ()) := g1
    have h2 : leadN dd 6 0 < 6 := h2
    have g2 : leadN dd' 6 0 < 6 := g2
    have h3 : dd.getD (leadN dd 6 0) false = false := h3
    have g3 : dd'.getD (leadN dd' 6 0) false = false := g3
    rw [h1, g1]
    simp only [Int.toNat_natCast]
    refine ⟨fun c => absurd c (by omega), fun _ => ⟨fun c => absurd c (by omega), fun _ => ⟨⟨by omega, by omega⟩, fun _ => ⟨fun c => (by rw [h3] at c; cases c), fun _ => ⟨fun c => absurd c (by omega), fun _ => ⟨fun c => absurd c (by omega), fun _ => ⟨⟨by omega, by omega⟩, fun _ => ⟨fun c => (by rw [g3] at c; cases c), fun _ => ⟨fun _ => yes, fun c => ?_⟩⟩⟩⟩⟩⟩⟩⟩⟩
    have he := eq_bools (by simpa using c)
    show ((decide _, ()) : Bool × Unit) = (true, ())
    rw [he]; simp
end Go.Proofs.Ytagjonjobbckdaa
