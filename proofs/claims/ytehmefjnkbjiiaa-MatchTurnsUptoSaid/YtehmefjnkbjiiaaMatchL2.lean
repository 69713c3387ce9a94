/- MatchHalf. No condition. -/
import Derived.Test.YtehmefjnkbjiiaaMatchL
namespace Go.Proofs.Ytehmefjnkbjiiaa
open Go.Ex
set_option maxRecDepth 100000
theorem filter_split {α : Type} (p : α → Bool) : ∀ l : List α, l.length = (l.filter p).length + (l.filter (fun x => !p x)).length
  | [] => rfl
  | x :: l => by
    have := filter_split p l
    simp only [List.filter_cons]
    cases p x <;> simp <;> omega
/-- who takes what can be taken has half as many as there can be -/
theorem half {l P Q : List PairD} (hP : Match l P) (hall : ∀ q ∈ l, (∃ p ∈ Q, p.1 = q.1) ∨ ∃ p ∈ Q, p.2.1 = q.2.1) : P.length ≤ 2 * Q.length := by
  have h1 := filter_split (fun q : PairD => decide (∃ p ∈ Q, p.1 = q.1)) P
  have h2 : (P.filter (fun q : PairD => decide (∃ p ∈ Q, p.1 = q.1))).length ≤ Q.length := by
    have := nodup_sub (l := (P.filter (fun q : PairD => decide (∃ p ∈ Q, p.1 = q.1))).map (fun q => q.1)) (S := Q.map (fun q => q.1)) (by
      rw [List.nodup_iff_pairwise_ne, List.pairwise_map]; exact hP.one.sublist List.filter_sublist) (fun x hx => by
      obtain ⟨q, hq, rfl⟩ := List.mem_map.1 hx
      obtain ⟨p, hp, e⟩ := of_decide_eq_true (List.mem_filter.1 hq).2
      exact List.mem_map.2 ⟨p, hp, e⟩)
    simpa using this
  have h3 : (P.filter (fun q : PairD => !decide (∃ p ∈ Q, p.1 = q.1))).length ≤ Q.length := by
    have := nodup_sub (l := (P.filter (fun q : PairD => !decide (∃ p ∈ Q, p.1 = q.1))).map (fun q => q.2.1)) (S := Q.map (fun q => q.2.1)) (by
      rw [List.nodup_iff_pairwise_ne, List.pairwise_map]; exact hP.two.sublist List.filter_sublist) (fun x hx => by
      obtain ⟨q, hq, rfl⟩ := List.mem_map.1 hx
      obtain ⟨hq1, hq2⟩ := List.mem_filter.1 hq
      rcases hall q (hP.sub q hq1) with h | h
      · rw [decide_eq_true h] at hq2; cases hq2
      · obtain ⟨p, hp, e⟩ := h
        exact List.mem_map.2 ⟨p, hp, e⟩)
    simpa using this
  omega
def cMatchHalf : Ctr := { ps := [.v I64, .v I64, .v (.slc false PairT)], rs := [.bool], pre := fun _ => True, fn := fun _ => (true, ()), out := fun _ => () }
noncomputable def EMatchHalf : Env := { P := Try.prog, tt := tt, ctr := [(16, cmostR)], res := [Go.ResultVar.tmp 6], rs := [Ty.bool], ps := [PK.v (Ty.int IntKind.i64), PK.v (Ty.int IntKind.i64), PK.v (Ty.slc false PairT)], cuts := [(10, [(9, some (Ty.slc true PairT)), (11, none), (12, none), (13, none), (42, none), (43, none), (44, none)])], nt := 86 }
theorem EMatchHalf_ok : EnvOk EMatchHalf := envOk tt_ok ⟨cmostR_valid, trivial⟩
theorem FMatchHalf_ok : FnOk EMatchHalf Try.f3 := ⟨rfl, rfl⟩
theorem EMatchHalf_t (x0 : Int) (x1 : Int) (x2 : List (Int × Int × Unit)) : exec EMatchHalf 1000 [.code (bodyOf Try.prog 3)] (initSt cMatchHalf.ps ((x0, x1, x2, ()))) =
  .need (True) (.need (True) (cond (decide (Prod.fst (Prod.snd (mostR x0 x1 x2)) ≠ (0 : Int))) (.ret ((decide ((↑(List.length (Prod.fst (mostR x0 x1 x2))) : Int) = (0 : Int)), ()))) (.cut (loopAt (bodyOf Try.prog 3) 10).1 (loopAt (bodyOf Try.prog 3) 10).2 (St.mk [(9, AV.at_ 1000009 []), (11, AV.val (Ty.int IntKind.u64) (0 : Int)), (12, AV.val (Ty.int IntKind.u64) (0 : Int)), (13, AV.val (Ty.int IntKind.i64) (0 : Int)), (42, AV.val (Ty.slc false PairT) x2), (43, AV.val (Ty.int IntKind.i64) (↑(List.length x2) : Int)), (44, AV.val (Ty.int IntKind.i64) (0 : Int))] [(1000009, Ent.own (Ty.slc true PairT) (Prod.fst (mostR x0 x1 x2)))])))) := by kernel_rfl
def EMatchHalf_s10 (v11 : Int) (v12 : Int) (v13 : Int) (v42 : List (Int × Int × Unit)) (v43 : Int) (v44 : Int) (o1000009 : List (Int × Int × Unit)) : St := St.mk [(9, AV.at_ 1000009 []), (11, AV.val (Ty.int IntKind.u64) v11), (12, AV.val (Ty.int IntKind.u64) v12), (13, AV.val (Ty.int IntKind.i64) v13), (42, AV.val (Ty.slc false PairT) v42), (43, AV.val (Ty.int IntKind.i64) v43), (44, AV.val (Ty.int IntKind.i64) v44)] [(1000009, Ent.own (Ty.slc true PairT) o1000009)]
theorem EMatchHalf_l10 (v11 : Int) (v12 : Int) (v13 : Int) (v42 : List (Int × Int × Unit)) (v43 : Int) (v44 : Int) (o1000009 : List (Int × Int × Unit)) : exec EMatchHalf 1000 (.code (loopAt (bodyOf Try.prog 3) 10).1 :: .inLoop (loopAt (bodyOf Try.prog 3) 10).1 :: (loopAt (bodyOf Try.prog 3) 10).2) (EMatchHalf_s10 v11 v12 v13 v42 v43 v44 o1000009) =
  cond (decide (v44 < v43)) (.need ((0 : Int) ≤ v44 ∧ v44 < (↑(List.length v42) : Int)) (.need ((0 : Int) ≤ Prod.fst (List.getD v42 (Int.toNat v44) ((0 : Int), (0 : Int), ()))) (cond (decide (bAnd IntKind.u64 (v11 / (2 : Int) ^ min (Int.toNat (Prod.fst (List.getD v42 (Int.toNat v44) ((0 : Int), (0 : Int), ())))) (IntKind.bits IntKind.u64)) (1 : Int) = (0 : Int))) (.need ((0 : Int) ≤ Prod.fst (Prod.snd (List.getD v42 (Int.toNat v44) ((0 : Int), (0 : Int), ())))) (cond (decide (bAnd IntKind.u64 (v12 / (2 : Int) ^ min (Int.toNat (Prod.fst (Prod.snd (List.getD v42 (Int.toNat v44) ((0 : Int), (0 : Int), ()))))) (IntKind.bits IntKind.u64)) (1 : Int) = (0 : Int))) (.need ((0 : Int) ≤ Prod.fst (List.getD v42 (Int.toNat v44) ((0 : Int), (0 : Int), ()))) (.need ((0 : Int) ≤ Prod.fst (Prod.snd (List.getD v42 (Int.toNat v44) ((0 : Int), (0 : Int), ())))) (.need (inK IntKind.i64 (v13 + (1 : Int))) (.need (inK IntKind.i64 (v44 + (1 : Int))) (.cut (loopAt (bodyOf Try.prog 3) 10).1 (loopAt (bodyOf Try.prog 3) 10).2 (St.mk [(9, AV.at_ 1000009 []), (11, AV.val (Ty.int IntKind.u64) (bOr IntKind.u64 v11 (IntKind.wrap IntKind.u64 ((1 : Int) * (2 : Int) ^ min (Int.toNat (Prod.fst (List.getD v42 (Int.toNat v44) ((0 : Int), (0 : Int), ())))) (IntKind.bits IntKind.u64))))), (12, AV.val (Ty.int IntKind.u64) (bOr IntKind.u64 v12 (IntKind.wrap IntKind.u64 ((1 : Int) * (2 : Int) ^ min (Int.toNat (Prod.fst (Prod.snd (List.getD v42 (Int.toNat v44) ((0 : Int), (0 : Int), ()))))) (IntKind.bits IntKind.u64))))), (13, AV.val (Ty.int IntKind.i64) (v13 + (1 : Int))), (42, AV.val (Ty.slc false PairT) v42), (43, AV.val (Ty.int IntKind.i64) v43), (44, AV.val (Ty.int IntKind.i64) (v44 + (1 : Int)))] [(1000009, Ent.own (Ty.slc true PairT) o1000009)])))))) (.need (inK IntKind.i64 (v44 + (1 : Int))) (.cut (loopAt (bodyOf Try.prog 3) 10).1 (loopAt (bodyOf Try.prog 3) 10).2 (St.mk [(9, AV.at_ 1000009 []), (11, AV.val (Ty.int IntKind.u64) v11), (12, AV.val (Ty.int IntKind.u64) v12), (13, AV.val (Ty.int IntKind.i64) v13), (42, AV.val (Ty.slc false PairT) v42), (43, AV.val (Ty.int IntKind.i64) v43), (44, AV.val (Ty.int IntKind.i64) (v44 + (1 : Int)))] [(1000009, Ent.own (Ty.slc true PairT) o1000009)]))))) (.need (inK IntKind.i64 (v44 + (1 : Int))) (.cut (loopAt (bodyOf Try.prog 3) 10).1 (loopAt (bodyOf Try.prog 3) 10).2 (St.mk [(9, AV.at_ 1000009 []), (11, AV.val (Ty.int IntKind.u64) v11), (12, AV.val (Ty.int IntKind.u64) v12), (13, AV.val (Ty.int IntKind.i64) v13), (42, AV.val (Ty.slc false PairT) v42), (43, AV.val (Ty.int IntKind.i64) v43), (44, AV.val (Ty.int IntKind.i64) (v44 + (1 : Int)))] [(1000009, Ent.own (Ty.slc true PairT) o1000009)])))))) (cond (decide (v13 ≤ (↑(List.length o1000009) : Int))) (.need (inK IntKind.i64 ((2 : Int) * v13)) (.ret ((decide ((↑(List.length o1000009) : Int) ≤ (2 : Int) * v13), ())))) (.ret ((false, ())))) := by kernel_rfl
theorem cMatchHalf_valid : cMatchHalf.Valid Try.prog 3 := by
  refine Ctr.valid_of EMatchHalf_ok rfl rfl Try.func3 (c := bodyOf Try.prog 3) rfl rfl FMatchHalf_ok rfl ?_
  rintro ⟨(m : Int), (n : Int), (l : List PairD), ⟨⟩⟩ - -
  refine exec_sound (n := 1000) EMatchHalf_ok FMatchHalf_ok ?_
  refine holds_of_eq (EMatchHalf_t m n l) ?_
  have hz := mostR_err (m := m) (n := n) (l := l)
  have ht := mostR_match (m := m) (n := n) (l := l)
  have hln := mostR_len (m := m) (n := n) (l := l)
  simp only [holds_cond, Tree.holds, true_and, true_implies, decide_eq_true_eq, decide_eq_false_iff_not, Bool.not_eq_true', Bool.not_eq_false', Int.toNat_natCast, inK_i64, List.length_set, List.length_cons, List.length_nil]
  generalize mostR m n l = A at *
  refine ⟨fun e => yesd (by rw [(hz e).1]; rfl), fun e => ?_⟩
  obtain ⟨hin, hl, hM, hopt⟩ := ht (Decidable.not_not.1 e)
  obtain ⟨P, er, ⟨⟩⟩ := A
  have hM : Match l P := hM
  have hopt : ∀ Q, Match l Q → Q.length ≤ P.length := hopt
  have hln : P.length ≤ 40 := hln
  have hrg : ∀ q ∈ l, (0 ≤ q.1 ∧ q.1 < 40) ∧ (0 ≤ q.2.1 ∧ q.2.1 < 40) := fun q hq => by
    have := hin.2.2 q hq
    have := hin.1
    have := hin.2.1
    omega
  refine Reach.loopI EMatchHalf_ok FMatchHalf_ok (fun s : Nat × List PairD × Int × Int => EMatchHalf_s10 s.2.2.1 s.2.2.2 (s.2.1.length : Int) l (l.length : Int) (s.1 : Int) P) (fun s => s.1 ≤ l.length ∧ Match l s.2.1 ∧ MaskL s.2.2.1 s.2.2.2 s.2.1 ∧ ∀ q ∈ l.take s.1, (∃ p ∈ s.2.1, p.1 = q.1) ∨ ∃ p ∈ s.2.1, p.2.1 = q.2.1) (fun s => l.length - s.1) 1000 (fun _ => ⟨uniq_of rfl, uniq_of rfl⟩) ?_ (0, [], 0, 0) ⟨by omega, Match.nil l, MaskL.nil, fun q hq => by cases hq⟩
  rintro ⟨j, Q, a, b⟩ ⟨k1, k2, k3, k4⟩ - ih
  have k1 : j ≤ l.length := k1
  have k2 : Match l Q := k2
  have k3 : MaskL a b Q := k3
  have k4 : ∀ q ∈ l.take j, (∃ p ∈ Q, p.1 = q.1) ∨ ∃ p ∈ Q, p.2.1 = q.2.1 := k4
  have hQ := hopt Q k2
  refine holds_of_eq (EMatchHalf_l10 ..) ?_
  simp only [holds_cond, Tree.holds, true_and, true_implies, decide_eq_true_eq, decide_eq_false_iff_not, Bool.not_eq_true', Bool.not_eq_false', Int.toNat_natCast, inK_i64, List.length_set, List.length_cons, List.length_nil]
  refine ⟨fun c => ⟨by omega, fun _ => ?_⟩, fun c => ⟨fun _ => ⟨by omega, fun _ => yesd ?_⟩, fun d => absurd (by omega) d⟩⟩
  · have hj : j < l.length := by omega
    have hq := getD_mem (d := (0, 0, ())) hj
    have hs := take_s hj (0, 0, ())
    generalize l.getD j (0, 0, ()) = q at *
    have hqr := hrg q hq
    have t1 := k3.l.test (k := q.1.toNat) (by omega)
    have t2 := k3.r.test (k := q.2.1.toNat) (by omega)
    have skip := fun (h9 : (∃ p ∈ Q, p.1 = q.1) ∨ ∃ p ∈ Q, p.2.1 = q.2.1) => ih (j + 1, Q, a, b) ⟨by show j + 1 ≤ _; omega, k2, k3, by
      show ∀ r ∈ l.take (j + 1), _
      rw [hs]
      intro r hr
      rcases List.mem_append.1 hr with h | h
      · exact k4 r h
      · rw [List.mem_singleton] at h; rw [h]; exact h9⟩ (by show _ - (j + 1) < _ - j; omega)
    have yl : ¬ bAnd .u64 (a / 2 ^ min q.1.toNat (IntKind.bits .u64)) 1 = 0 → ∃ p ∈ Q, p.1 = q.1 := fun h => Decidable.by_contra (fun hn => h (t1.2 (by
      rintro ⟨p, hp, e9⟩
      have := hrg p (k2.sub p hp)
      exact hn ⟨p, hp, by omega⟩)))
    have yr : ¬ bAnd .u64 (b / 2 ^ min q.2.1.toNat (IntKind.bits .u64)) 1 = 0 → ∃ p ∈ Q, p.2.1 = q.2.1 := fun h => Decidable.by_contra (fun hn => h (t2.2 (by
      rintro ⟨p, hp, e9⟩
      have := hrg p (k2.sub p hp)
      exact hn ⟨p, hp, by omega⟩)))
    refine ⟨by omega, fun _ => ⟨fun c1 => ⟨by omega, fun _ => ⟨fun c2 => ⟨by omega, fun _ => ⟨by omega, fun _ => ⟨by omega, fun _ => ⟨by omega, fun _ => ?_⟩⟩⟩⟩, fun c2 => ⟨by omega, fun _ => skip (.inr (yr c2))⟩⟩⟩, fun c1 => ⟨by omega, fun _ => skip (.inl (yl c1))⟩⟩⟩
    have n1 : ∀ p ∈ Q, p.1 ≠ q.1 := fun p hp e9 => by
      have := t1.1 ⟨p, hp, by rw [e9]⟩
      rw [c1] at this; cases this
    have n2 : ∀ p ∈ Q, p.2.1 ≠ q.2.1 := fun p hp e9 => by
      have := t2.1 ⟨p, hp, by rw [e9]⟩
      rw [c2] at this; cases this
    have next := ih (j + 1, Q ++ [q], _, _) ⟨by show j + 1 ≤ _; omega, k2.add hq n1 n2, k3.add (by omega) (by omega), by
      show ∀ r ∈ l.take (j + 1), _
      rw [hs]
      intro r hr
      rcases List.mem_append.1 hr with h | h
      · exact (k4 r h).imp (fun ⟨p, hp, e⟩ => ⟨p, List.mem_append_left _ hp, e⟩) (fun ⟨p, hp, e⟩ => ⟨p, List.mem_append_left _ hp, e⟩)
      · rw [List.mem_singleton] at h; rw [h]; exact .inl ⟨q, by simp, rfl⟩⟩ (by show _ - (j + 1) < _ - j; omega)
    have hlen : (((Q ++ [q]).length : Nat) : Int) = (Q.length : Int) + 1 := by rw [List.length_append, List.length_singleton]; omega
    dsimp only at next
    rw [hlen] at next
    exact next
  · have := half hM (fun q hq => k4 q (by rw [List.take_of_length_le (by omega)]; exact hq))
    omega
end Go.Proofs.Ytehmefjnkbjiiaa
