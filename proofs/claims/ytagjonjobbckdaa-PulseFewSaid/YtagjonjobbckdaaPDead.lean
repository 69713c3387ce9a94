/- PulseDead: what Tick does, in plain words; the law's contract. -/
import Derived.Test.YtagjonjobbckdaaPulse2
import Derived.Test.YtagjonjobbckdaaRest
namespace Go.Proofs.Ytagjonjobbckdaa
open Go.Ex
set_option maxRecDepth 100000

theorem due_set {me w : Int} {hd pc : List Int} {dd : List Bool} {i j : Nat} (h : i < dd.length) (hij : j ≠ i) (b : Bool) : due me w hd pc (dd.set i b) j = due me w hd pc dd j := by
  simp only [due, getD_set h, if_neg hij]

theorem tickGo_spec {me w : Int} {hd pc : List Int} : ∀ {k i : Nat} {dd : List Bool} {lost : List Int}, i + k = 6 → dd.length = 6 →
    (tickGo me w hd pc k i dd lost).1.length = 6 ∧ ∀ j, j < 6 → (tickGo me w hd pc k i dd lost).1.getD j false = (dd.getD j false || (decide (i ≤ j) && due me w hd pc dd j)) ∧
      ((j : Int) ∈ (tickGo me w hd pc k i dd lost).2 ↔ (j : Int) ∈ lost ∨ (i ≤ j ∧ due me w hd pc dd j = true))
  | 0, i, dd, lost, hk, hl => by
    refine ⟨hl, fun j hj => ⟨?_, ?_⟩⟩
    · simp only [tickGo, decide_eq_false (show ¬ i ≤ j by omega), Bool.false_and, Bool.or_false]
    · simp only [tickGo]
      exact ⟨fun h => .inl h, fun h => h.elim id (fun h => by omega)⟩
  | k + 1, i, dd, lost, hk, hl => by
    simp only [tickGo]
    cases hdue : due me w hd pc dd i with
    | true =>
      simp only [if_true]
      obtain ⟨h1, h2⟩ := tickGo_spec (me := me) (w := w) (hd := hd) (pc := pc) (k := k) (i := i + 1) (dd := dd.set i true) (lost := lost ++ [(i : Int)]) (by omega) (by simp [hl])
      refine ⟨h1, fun j hj => ?_⟩
      obtain ⟨h3, h4⟩ := h2 j hj
      rw [h3, h4, getD_set (by omega)]
      by_cases hij : j = i
      · subst hij
        simp [hdue]
      · rw [if_neg hij, due_set (by omega) hij]
        have e : decide (i + 1 ≤ j) = decide (i ≤ j) := decide_eq_decide.2 (by omega)
        rw [e]
        refine ⟨rfl, ?_⟩
        simp only [List.mem_append, List.mem_cons, List.not_mem_nil, or_false]
        constructor
        · rintro ((h | h) | ⟨h, h'⟩)
          · exact .inl h
          · exact absurd (by omega : j = i) hij
          · exact .inr ⟨by omega, h'⟩
        · rintro (h | ⟨h, h'⟩)
          · exact .inl (.inl h)
          · exact .inr ⟨by omega, h'⟩
    | false =>
      simp only [Bool.false_eq_true, if_false]
      obtain ⟨h1, h2⟩ := tickGo_spec (me := me) (w := w) (hd := hd) (pc := pc) (k := k) (i := i + 1) (dd := dd) (lost := lost) (by omega) hl
      refine ⟨h1, fun j hj => ?_⟩
      obtain ⟨h3, h4⟩ := h2 j hj
      rw [h3, h4]
      by_cases hij : j = i
      · subst hij
        simp [hdue]
      · have e : decide (i + 1 ≤ j) = decide (i ≤ j) := decide_eq_decide.2 (by omega)
        rw [e]
        refine ⟨rfl, ?_⟩
        constructor
        · rintro (h | ⟨h, h'⟩)
          · exact .inl h
          · exact .inr ⟨by omega, h'⟩
        · rintro (h | ⟨h, h'⟩)
          · exact .inl h
          · exact .inr ⟨by omega, h'⟩

theorem badFrom_mk {p : PulseD} : ∀ {k i : Nat}, (∀ j, i ≤ j → j < i + k → bad p j = 0) → badFrom p k i = 0
  | 0, _, _ => rfl
  | k + 1, i, h => by
    have h0 := h i (by omega) (by omega)
    simp only [badFrom, h0]
    exact badFrom_mk (fun j h1 h2 => h j (by omega) (by omega))
theorem pcheck_mk {me w : Int} {hd pc : List Int} {dd : List Bool} (h1 : 0 ≤ me ∧ me ≤ 5) (h2 : 0 ≤ w ∧ w ≤ 16777215) (h3 : ∀ i, i < 6 → (0 ≤ hd.getD i 0 ∧ hd.getD i 0 ≤ w) ∧ 1 ≤ pc.getD i 0 ∧ pc.getD i 0 ≤ 1000) (h4 : dd.getD me.toNat false = false) : pcheck (me, w, hd, pc, dd, ()) = 0 := by
  have e1 : inF me 0 5 = true := inF_iff.2 h1
  have e2 : inF w 0 16777215 = true := inF_iff.2 h2
  rw [pcheck]
  simp only [e1, e2, Bool.true_eq_false, if_false]
  refine badFrom_mk (fun j _ hj => ?_)
  obtain ⟨k1, k2⟩ := h3 j (by omega)
  have e3 := inF_iff.2 k1
  have e4 := inF_iff.2 k2
  simp only [bad_eq, e3, e4, Bool.true_eq_false, if_false]
  rw [if_neg]
  rintro ⟨rfl, h⟩
  rw [Int.toNat_natCast] at h4
  rw [h4] at h; cases h

/-- Tick, where nothing is wrong -/
theorem tick_ok {me w : Int} {hd pc : List Int} {dd : List Bool} (hl : hd.length = 6 ∧ dd.length = 6) (hp : pcheck (me, w, hd, pc, dd, ()) = 0) (hw : w ≠ 16777215) :
    ∃ dd' lost, tick (me, w, hd, pc, dd, ()) = ((me, w + 1, hd.set me.toNat (w + 1), pc, dd', ()), lost, 0, ()) ∧ dd'.length = 6 ∧ pcheck (me, w + 1, hd.set me.toNat (w + 1), pc, dd', ()) = 0 ∧
      ∀ j, j < 6 → dd'.getD j false = (dd.getD j false || due me (w + 1) (hd.set me.toNat (w + 1)) pc dd j) ∧ ((j : Int) ∈ lost ↔ due me (w + 1) (hd.set me.toNat (w + 1)) pc dd j = true) := by
  obtain ⟨h1, h2, h3, h4⟩ := pcheck_inv hp
  have h1 : 0 ≤ me ∧ me ≤ 5 := h1
  have h2 : 0 ≤ w ∧ w ≤ 16777215 := h2
  have h3 : ∀ i, i < 6 → (0 ≤ hd.getD i 0 ∧ hd.getD i 0 ≤ w) ∧ 1 ≤ pc.getD i 0 ∧ pc.getD i 0 ≤ 1000 := h3
  have h4 : dd.getD me.toNat false = false := h4
  obtain ⟨s1, s2⟩ := tickGo_spec (me := me) (w := w + 1) (hd := hd.set me.toNat (w + 1)) (pc := pc) (k := 6) (i := 0) (dd := dd) (lost := []) rfl hl.2
  have s3 : ∀ j, j < 6 → (tickGo me (w + 1) (hd.set me.toNat (w + 1)) pc 6 0 dd []).1.getD j false = (dd.getD j false || due me (w + 1) (hd.set me.toNat (w + 1)) pc dd j) ∧ ((j : Int) ∈ (tickGo me (w + 1) (hd.set me.toNat (w + 1)) pc 6 0 dd []).2 ↔ due me (w + 1) (hd.set me.toNat (w + 1)) pc dd j = true) := by
    intro j hj
    obtain ⟨a, b⟩ := s2 j hj
    rw [a, b]
    simp
  refine ⟨_, _, by rw [tick, if_neg (by simp [hp]), if_neg hw], s1, pcheck_mk h1 (by omega) (fun i hi => ⟨?_, (h3 i hi).2⟩) ?_, s3⟩
  · rw [getD_set (by omega)]
    split
    · omega
    · have := (h3 i hi).1; omega
  · rw [(s3 me.toNat (by omega)).1, h4]
    have : ((me.toNat : Nat) : Int) = me := by omega
    simp [due, this]

noncomputable def EPulseDead : Env := { P := Try.prog, tt := tt, ctr := [(28, cnewP), (29, ctick), (30, cpcheck), (24, c24), (31, ccont)], res := [Go.ResultVar.tmp 6], rs := [Ty.bool], ps := [PK.v Pulse, PK.v (Ty.int IntKind.i64), PK.v (Ty.int IntKind.i64)], cuts := [(16, [(1, none), (3, none), (12, none), (73, none), (74, none)])], nt := 120 }
theorem EPulseDead_ok : EnvOk EPulseDead := envOk tt_ok ⟨cnewP_valid, ctick_valid, cpcheck_valid, c24_valid, ccont_valid, trivial⟩
theorem FPulseDead_ok : FnOk EPulseDead Try.f10 := ⟨rfl, rfl⟩
theorem EPulseDead_t (x0_1 : Int) (x0_2_1 : Int) (x0_2_2_1 : List Int) (x0_2_2_2_1 : List Int) (x0_2_2_2_2_1 : List Bool) (x1 : Int) (x2 : Int) : exec EPulseDead 1000 [.code (bodyOf Try.prog 10)] (initSt (lawC [Pulse, I64, I64] (fun _ => True)).ps (((x0_1, x0_2_1, x0_2_2_1, x0_2_2_2_1, x0_2_2_2_2_1, ()), x1, x2, ()))) =
  .need (True) (cond (decide (Prod.fst (Prod.snd (newP (0 : Int) (1 : Int))) ≠ (0 : Int))) (.ret ((false, ()))) (.need (True) (.need (True) (cond (decide (Prod.fst (Prod.snd (Prod.snd (tick (Prod.fst (tick (Prod.fst (newP (0 : Int) (1 : Int)))))))) ≠ (0 : Int))) (.ret ((false, ()))) (cond (decide ((↑(List.length (Prod.fst (Prod.snd (tick (Prod.fst (tick (Prod.fst (newP (0 : Int) (1 : Int))))))))) : Int) ≠ (5 : Int))) (.ret ((false, ()))) (.need (True) (cond (decide (pcheck (x0_1, x0_2_1, x0_2_2_1, x0_2_2_2_1, x0_2_2_2_2_1, ()) ≠ (0 : Int))) (.ret ((true, ()))) (cond (decide ((100000 : Int) < x0_2_1)) (.ret ((true, ()))) (.need ((6 : Int) ≤ (1000000 : Int)) (cond (decide (rest x1 (6 : Int) = x0_1)) (.ret ((true, ()))) (.need ((0 : Int) ≤ rest x1 (6 : Int) ∧ rest x1 (6 : Int) < (↑6 : Int)) (.need ((0 : Int) ≤ rest x1 (6 : Int) ∧ rest x1 (6 : Int) < (↑6 : Int)) (.need ((0 : Int) ≤ rest x1 (6 : Int) ∧ rest x1 (6 : Int) < (↑6 : Int)) (.need ((0 : Int) ≤ rest x1 (6 : Int) ∧ rest x1 (6 : Int) < (↑6 : Int)) (.need (inK IntKind.i64 (List.getD x0_2_2_1 (Int.toNat (rest x1 (6 : Int))) (0 : Int) + List.getD (List.set x0_2_2_2_1 (Int.toNat (rest x1 (6 : Int))) (if (40 : Int) < List.getD x0_2_2_2_1 (Int.toNat (rest x1 (6 : Int))) (0 : Int) then (40 : Int) else List.getD x0_2_2_2_1 (Int.toNat (rest x1 (6 : Int))) (0 : Int))) (Int.toNat (rest x1 (6 : Int))) (0 : Int))) (.need ((60 : Int) ≤ (1000000 : Int)) (.cut (loopAt (bodyOf Try.prog 10) 16).1 (loopAt (bodyOf Try.prog 10) 16).2 (St.mk [(1, AV.val (Ty.int IntKind.i64) (rest x1 (6 : Int))), (3, AV.ptr 3 []), (12, AV.val (Ty.int IntKind.i64) (List.getD x0_2_2_1 (Int.toNat (rest x1 (6 : Int))) (0 : Int) + List.getD (List.set x0_2_2_2_1 (Int.toNat (rest x1 (6 : Int))) (if (40 : Int) < List.getD x0_2_2_2_1 (Int.toNat (rest x1 (6 : Int))) (0 : Int) then (40 : Int) else List.getD x0_2_2_2_1 (Int.toNat (rest x1 (6 : Int))) (0 : Int))) (Int.toNat (rest x1 (6 : Int))) (0 : Int))), (73, AV.val (Ty.int IntKind.i64) (rest x2 (60 : Int))), (74, AV.val (Ty.int IntKind.i64) (0 : Int))] [(3, Ent.var Pulse (x0_1, x0_2_1, x0_2_2_1, List.set x0_2_2_2_1 (Int.toNat (rest x1 (6 : Int))) (if (40 : Int) < List.getD x0_2_2_2_1 (Int.toNat (rest x1 (6 : Int))) (0 : Int) then (40 : Int) else List.getD x0_2_2_2_1 (Int.toNat (rest x1 (6 : Int))) (0 : Int)), x0_2_2_2_2_1, ()))])))))))))))))))))) := by kernel_rfl
def EPulseDead_s16 (v1 : Int) (v12 : Int) (v73 : Int) (v74 : Int) (o3_1 : Int) (o3_2_1 : Int) (o3_2_2_1 : List Int) (o3_2_2_2_1 : List Int) (o3_2_2_2_2_1 : List Bool) : St := St.mk [(1, AV.val (Ty.int IntKind.i64) v1), (3, AV.ptr 3 []), (12, AV.val (Ty.int IntKind.i64) v12), (73, AV.val (Ty.int IntKind.i64) v73), (74, AV.val (Ty.int IntKind.i64) v74)] [(3, Ent.var Pulse (o3_1, o3_2_1, o3_2_2_1, o3_2_2_2_1, o3_2_2_2_2_1, ()))]
theorem EPulseDead_l16 (v1 : Int) (v12 : Int) (v73 : Int) (v74 : Int) (o3_1 : Int) (o3_2_1 : Int) (o3_2_2_1 : List Int) (o3_2_2_2_1 : List Int) (o3_2_2_2_2_1 : List Bool) : exec EPulseDead 1000 (.code (loopAt (bodyOf Try.prog 10) 16).1 :: .inLoop (loopAt (bodyOf Try.prog 10) 16).1 :: (loopAt (bodyOf Try.prog 10) 16).2) (EPulseDead_s16 v1 v12 v73 v74 o3_1 o3_2_1 o3_2_2_1 o3_2_2_2_1 o3_2_2_2_2_1) =
  cond (decide (v74 < v73)) (.need (True) (cond (decide (Prod.fst (Prod.snd (Prod.snd (tick (o3_1, o3_2_1, o3_2_2_1, o3_2_2_2_1, o3_2_2_2_2_1, ())))) ≠ (0 : Int))) (.ret ((false, ()))) (.need ((0 : Int) ≤ v1 ∧ v1 < (↑6 : Int)) (.need ((0 : Int) ≤ v1 ∧ v1 < (↑6 : Int)) (cond (List.getD o3_2_2_2_2_1 (Int.toNat v1) false) (cond (List.getD (Prod.fst (Prod.snd (Prod.snd (Prod.snd (Prod.snd (Prod.fst (tick (o3_1, o3_2_1, o3_2_2_1, o3_2_2_2_1, o3_2_2_2_2_1, ())))))))) (Int.toNat v1) false != true) (.ret ((false, ()))) (.need (True) (.need ((0 : Int) ≤ v1 ∧ v1 < (↑6 : Int)) (cond (List.getD (Prod.fst (Prod.snd (Prod.snd (Prod.snd (Prod.snd (Prod.fst (tick (o3_1, o3_2_1, o3_2_2_1, o3_2_2_2_1, o3_2_2_2_2_1, ())))))))) (Int.toNat v1) false) (.need ((0 : Int) ≤ v1 ∧ v1 < (↑6 : Int)) (cond (contains (Prod.fst (Prod.snd (tick (o3_1, o3_2_1, o3_2_2_1, o3_2_2_2_1, o3_2_2_2_2_1, ())))) v1 != !List.getD o3_2_2_2_2_1 (Int.toNat v1) false) (.ret ((false, ()))) (.need (inK IntKind.i64 (v74 + (1 : Int))) (.cut (loopAt (bodyOf Try.prog 10) 16).1 (loopAt (bodyOf Try.prog 10) 16).2 (St.mk [(1, AV.val (Ty.int IntKind.i64) v1), (3, AV.ptr 3 []), (12, AV.val (Ty.int IntKind.i64) v12), (73, AV.val (Ty.int IntKind.i64) v73), (74, AV.val (Ty.int IntKind.i64) (v74 + (1 : Int)))] [(3, Ent.var Pulse (Prod.fst (tick (o3_1, o3_2_1, o3_2_2_1, o3_2_2_2_1, o3_2_2_2_2_1, ()))))]))))) (cond (contains (Prod.fst (Prod.snd (tick (o3_1, o3_2_1, o3_2_2_1, o3_2_2_2_1, o3_2_2_2_2_1, ())))) v1 != false) (.ret ((false, ()))) (.need (inK IntKind.i64 (v74 + (1 : Int))) (.cut (loopAt (bodyOf Try.prog 10) 16).1 (loopAt (bodyOf Try.prog 10) 16).2 (St.mk [(1, AV.val (Ty.int IntKind.i64) v1), (3, AV.ptr 3 []), (12, AV.val (Ty.int IntKind.i64) v12), (73, AV.val (Ty.int IntKind.i64) v73), (74, AV.val (Ty.int IntKind.i64) (v74 + (1 : Int)))] [(3, Ent.var Pulse (Prod.fst (tick (o3_1, o3_2_1, o3_2_2_1, o3_2_2_2_1, o3_2_2_2_2_1, ()))))])))))))) (cond (List.getD (Prod.fst (Prod.snd (Prod.snd (Prod.snd (Prod.snd (Prod.fst (tick (o3_1, o3_2_1, o3_2_2_1, o3_2_2_2_1, o3_2_2_2_2_1, ())))))))) (Int.toNat v1) false != decide (v12 < Prod.fst (Prod.snd (Prod.fst (tick (o3_1, o3_2_1, o3_2_2_1, o3_2_2_2_1, o3_2_2_2_2_1, ())))))) (.ret ((false, ()))) (.need (True) (.need ((0 : Int) ≤ v1 ∧ v1 < (↑6 : Int)) (cond (List.getD (Prod.fst (Prod.snd (Prod.snd (Prod.snd (Prod.snd (Prod.fst (tick (o3_1, o3_2_1, o3_2_2_1, o3_2_2_2_1, o3_2_2_2_2_1, ())))))))) (Int.toNat v1) false) (.need ((0 : Int) ≤ v1 ∧ v1 < (↑6 : Int)) (cond (contains (Prod.fst (Prod.snd (tick (o3_1, o3_2_1, o3_2_2_1, o3_2_2_2_1, o3_2_2_2_2_1, ())))) v1 != !List.getD o3_2_2_2_2_1 (Int.toNat v1) false) (.ret ((false, ()))) (.need (inK IntKind.i64 (v74 + (1 : Int))) (.cut (loopAt (bodyOf Try.prog 10) 16).1 (loopAt (bodyOf Try.prog 10) 16).2 (St.mk [(1, AV.val (Ty.int IntKind.i64) v1), (3, AV.ptr 3 []), (12, AV.val (Ty.int IntKind.i64) v12), (73, AV.val (Ty.int IntKind.i64) v73), (74, AV.val (Ty.int IntKind.i64) (v74 + (1 : Int)))] [(3, Ent.var Pulse (Prod.fst (tick (o3_1, o3_2_1, o3_2_2_1, o3_2_2_2_1, o3_2_2_2_2_1, ()))))]))))) (cond (contains (Prod.fst (Prod.snd (tick (o3_1, o3_2_1, o3_2_2_1, o3_2_2_2_1, o3_2_2_2_2_1, ())))) v1 != false) (.ret ((false, ()))) (.need (inK IntKind.i64 (v74 + (1 : Int))) (.cut (loopAt (bodyOf Try.prog 10) 16).1 (loopAt (bodyOf Try.prog 10) 16).2 (St.mk [(1, AV.val (Ty.int IntKind.i64) v1), (3, AV.ptr 3 []), (12, AV.val (Ty.int IntKind.i64) v12), (73, AV.val (Ty.int IntKind.i64) v73), (74, AV.val (Ty.int IntKind.i64) (v74 + (1 : Int)))] [(3, Ent.var Pulse (Prod.fst (tick (o3_1, o3_2_1, o3_2_2_1, o3_2_2_2_1, o3_2_2_2_2_1, ()))))]))))))))))))) (.ret ((true, ()))) := by kernel_rfl
theorem c10_valid : (lawC [Pulse, I64, I64] (fun _ => True)).Valid Try.prog 10 := by
  refine Ctr.valid_of EPulseDead_ok rfl rfl Try.func10 (c := bodyOf Try.prog 10) rfl rfl FPulseDead_ok rfl ?_
  rintro ⟨⟨(me : Int), (w : Int), (hd : List Int), (pc : List Int), (dd : List Bool), ⟨⟩⟩, (x1 : Int), (x2 : Int), ⟨⟩⟩ - ⟨⟨-, -, ⟨hhl, -⟩, ⟨hpl, -⟩, ⟨hdl, -⟩, -⟩, -⟩
  have hhl : hd.length = 6 := hhl
  have hpl : pc.length = 6 := hpl
  have hdl : dd.length = 6 := hdl
  refine exec_sound (n := 1000) EPulseDead_ok FPulseDead_ok ?_
  refine holds_of_eq (EPulseDead_t me w hd pc dd x1 x2) ?_
  have yes : ((true, ()) : Bool × Unit) = (true, ()) := rfl
  obtain ⟨q0, q5⟩ := rest_in (a := x1) (n := 6) (by omega)
  obtain ⟨n0, n5⟩ := rest_in (a := x2) (n := 60) (by omega)
  generalize hq : rest x1 6 = q at *
  generalize hn : rest x2 60 = n at *
  obtain ⟨Q, rfl⟩ : ∃ Q : Nat, q = (Q : Int) := ⟨q.toNat, by omega⟩
  obtain ⟨N, rfl⟩ : ∃ N : Nat, n = (N : Int) := ⟨n.toNat, by omega⟩
  have hQ : Q < 6 := by omega
  simp only [holds_cond, Tree.holds, decide_eq_true_eq, decide_eq_false_iff_not, Int.toNat_natCast]
  refine ⟨trivial, fun _ => ⟨fun a => absurd (by decide +kernel) a, fun _ => ⟨trivial, fun _ => ⟨trivial, fun _ => ⟨fun a => absurd (by decide +kernel) a, fun _ => ⟨fun a => absurd (by decide +kernel) a, fun _ => ⟨trivial, fun _ => ⟨fun _ => yes, fun a => ⟨fun _ => yes, fun b => ⟨by decide, fun _ => ⟨fun _ => yes, fun c => ?_⟩⟩⟩⟩⟩⟩⟩⟩⟩⟩⟩
  have hp : pcheck (me, w, hd, pc, dd, ()) = 0 := Decidable.of_not_not a
  obtain ⟨h1, h2, h3, h4⟩ := pcheck_inv hp
  have h1 : 0 ≤ me ∧ me ≤ 5 := h1
  have h2 : 0 ≤ w ∧ w ≤ 16777215 := h2
  have h3 : ∀ i, i < 6 → (0 ≤ hd.getD i 0 ∧ hd.getD i 0 ≤ w) ∧ 1 ≤ pc.getD i 0 ∧ pc.getD i 0 ≤ 1000 := h3
  have h4 : dd.getD me.toNat false = false := h4
  have hin : @LE.le Int Int.instLEInt 0 (Q : Int) ∧ @LT.lt Int Int.instLTInt (Q : Int) ((6 : Nat) : Int) := ⟨by omega, by omega⟩
  generalize hv : (if (40 : Int) < pc.getD Q 0 then (40 : Int) else pc.getD Q 0) = v
  have hv1 : 1 ≤ v ∧ v ≤ 40 := by have := (h3 Q hQ).2; rw [← hv]; split <;> omega
  have hpq : (pc.set Q v).getD Q 0 = v := by rw [getD_set (by omega), if_pos rfl]
  rw [hpq]
  refine ⟨hin, fun _ => ⟨hin, fun _ => ⟨hin, fun _ => ⟨hin, fun _ => ⟨⟨?_, ?_⟩, fun _ => ⟨by decide, fun _ => ?_⟩⟩⟩⟩⟩⟩
  · have := h3 Q hQ
    show (-9223372036854775808 : Int) ≤ _; omega
  · have := h3 Q hQ
    show _ ≤ (9223372036854775807 : Int); omega
  refine Reach.loop EPulseDead_ok FPulseDead_ok (fun s : Nat × Int × List Int × List Bool => EPulseDead_s16 (Q : Int) (hd.getD Q 0 + v) (N : Int) (s.1 : Int) me s.2.1 s.2.2.1 (pc.set Q v) s.2.2.2)
    (fun s => s.1 ≤ N ∧ s.2.1 = w + s.1 ∧ s.2.2.1.length = 6 ∧ s.2.2.2.length = 6 ∧ pcheck (me, s.2.1, s.2.2.1, pc.set Q v, s.2.2.2, ()) = 0 ∧ s.2.2.1.getD Q 0 = hd.getD Q 0)
    (fun s => N - s.1) 1000 (fun s => ⟨uniq_of rfl, uniq_of rfl⟩) ?_ (0, w, hd, dd) ⟨by omega, by simp, hhl, hdl, pcheck_mk h1 h2 (fun i hi => ⟨(h3 i hi).1, ?_⟩) h4, rfl⟩
  · rintro ⟨i, w1, hd1, dd1⟩ ⟨k1, k2, k3, k4, k5, k6⟩ -
    have k1 : i ≤ N := k1
    have k2 : w1 = w + i := k2
    have k3 : hd1.length = 6 := k3
    have k4 : dd1.length = 6 := k4
    have k5 : pcheck (me, w1, hd1, pc.set Q v, dd1, ()) = 0 := k5
    have k6 : hd1.getD Q 0 = hd.getD Q 0 := k6
    refine holds_of_eq (EPulseDead_l16 ..) ?_
    obtain ⟨dd', lost, t1, t2, t3, t4⟩ := tick_ok ⟨k3, k4⟩ k5 (by omega)
    rw [t1]
    obtain ⟨t5, t6⟩ := t4 Q hQ
    have hmq : me.toNat ≠ Q := by omega
    have hhq : (hd1.set me.toNat (w1 + 1)).getD Q 0 = hd.getD Q 0 := by rw [getD_set (by omega), if_neg (fun h => hmq h.symm), k6]
    have hdue : due me (w1 + 1) (hd1.set me.toNat (w1 + 1)) (pc.set Q v) dd1 Q = (!dd1.getD Q false && decide (hd.getD Q 0 + v < w1 + 1)) := by
      have e1 : decide ((Q : Int) ≠ me) = true := decide_eq_true c
      have e2 : decide (v < w1 + 1 - hd.getD Q 0) = decide (hd.getD Q 0 + v < w1 + 1) := decide_eq_decide.2 (by omega)
      simp only [due, hhq, hpq, e1, e2, Bool.true_and]
    have hcont : contains lost (Q : Int) = (!dd1.getD Q false && decide (hd.getD Q 0 + v < w1 + 1)) := by
      rw [← hdue]
      cases hd2 : due me (w1 + 1) (hd1.set me.toNat (w1 + 1)) (pc.set Q v) dd1 Q with
      | true => exact decide_eq_true (t6.2 hd2)
      | false => exact decide_eq_false (fun h => by rw [t6.1 h] at hd2; cases hd2)
    rw [hdue] at t5
    have hnext : ∃ x' : Nat × Int × List Int × List Bool, EPulseDead_s16 (Q : Int) (hd.getD Q 0 + v) (N : Int) ((i : Int) + 1) me (w1 + 1) (hd1.set me.toNat (w1 + 1)) (pc.set Q v) dd' = EPulseDead_s16 (Q : Int) (hd.getD Q 0 + v) (N : Int) (x'.1 : Int) me x'.2.1 x'.2.2.1 (pc.set Q v) x'.2.2.2 ∧
        (i < N → (x'.1 ≤ N ∧ x'.2.1 = w + x'.1 ∧ x'.2.2.1.length = 6 ∧ x'.2.2.2.length = 6 ∧ pcheck (me, x'.2.1, x'.2.2.1, pc.set Q v, x'.2.2.2, ()) = 0 ∧ x'.2.2.1.getD Q 0 = hd.getD Q 0) ∧ N - x'.1 < N - i) :=
      ⟨(i + 1, w1 + 1, hd1.set me.toNat (w1 + 1), dd'), rfl, fun hi => ⟨⟨by show i + 1 ≤ N; omega, by show w1 + 1 = w + ((i + 1 : Nat) : Int); omega, by show (hd1.set me.toNat (w1 + 1)).length = 6; simp [k3], t2, t3, hhq⟩, by show N - (i + 1) < N - i; omega⟩⟩
    simp only [holds_cond, Tree.holds, decide_eq_true_eq, decide_eq_false_iff_not, Int.toNat_natCast]
    have hk : inK .i64 ((i : Int) + 1) := inc_in (by omega)
    refine ⟨fun a => ?_, fun _ => yes⟩
    have hi : i < N := by omega
    obtain ⟨x', x1, x2⟩ := hnext
    rw [t5, hcont]
    refine ⟨trivial, fun _ => ⟨fun h => absurd rfl h, fun _ => ⟨hin, fun _ => ⟨hin, fun _ => ?_⟩⟩⟩⟩
    generalize dd1.getD Q false = A
    generalize hD : decide (hd.getD Q 0 + v < w1 + 1) = D
    cases A <;> cases D
    all_goals
      repeat' first
        | exact trivial
        | exact hin
        | exact hk
        | exact Or.inl ⟨trivial, trivial, x', x1, (x2 hi).1, (x2 hi).2⟩
        | (intro h; first | (exact absurd h (by decide)) | skip)
        | (refine ⟨?_, ?_⟩)
  · rw [getD_set (by omega)]
    split
    · omega
    · exact (h3 i hi).2
end Go.Proofs.Ytagjonjobbckdaa
