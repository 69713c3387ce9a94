/- What a turn's step keeps: the plain law. No condition. -/
import Derived.Test.YtbcdpeogfghgcaaTurnS
namespace Go.Proofs.Ytbcdpeogfghgcaa
open Go.Ex
set_option maxRecDepth 100000
/-- different messages are at most thirty -/
theorem twice_len {l : List Int} (h : twice l = false) : l.length ≤ 30 := by
  obtain ⟨h1, h2⟩ := twice_no.1 h
  have h3 : (l.map Int.toNat).Nodup := by
    rw [List.nodup_iff_pairwise_ne] at h1 ⊢
    rw [List.pairwise_map]
    exact h1.imp_of_mem (fun {a b} ha hb hab e => hab (by have := h2 a ha; have := h2 b hb; omega))
  have := few_below (n := 30) h3 (fun x hx => by
    obtain ⟨y, hy, rfl⟩ := List.mem_map.1 hx
    have := h2 y hy; omega)
  simpa using this
theorem twice_snoc {l : List Int} {x : Int} (h : twice l = false) (hx : tmsg x = true) (hn : x ∉ l) : twice (l ++ [x]) = false := by
  obtain ⟨h1, h2⟩ := twice_no.1 h
  refine twice_no.2 ⟨List.nodup_append.2 ⟨h1, by simp, fun a ha b hb e => ?_⟩, fun y hy => ?_⟩
  · rw [List.mem_singleton] at hb
    subst hb; subst e; exact hn ha
  · rcases List.mem_append.1 hy with h | h
    · exact h2 y h
    · rw [List.mem_singleton] at h; subst h; exact inF_iff.1 hx
theorem TOk.rows {t : TurnD} (h : TOk t) {p : Nat} (hp : (p : Int) < t.1) : (0 ≤ t.2.2.2.2.1.getD p 0 ∧ t.2.2.2.2.1.getD p 0 ≤ t.2.2.2.1.length) ∧ (t.2.2.1.getD p []).length ≤ 30 ∧ twice (t.2.2.1.getD p []) = false ∧ ∀ x ∈ t.2.2.1.getD p [], x ∉ t.2.2.2.1 :=
  row_iff.1 (h.row p (by have := h.want; omega))
theorem twish_ok {t : TurnD} (h : TOk t) {p x : Int} (h0 : 0 ≤ p) (h1 : p ≤ t.1 - 1) (hm : tmsg x = true) (hl : x ∉ t.2.2.2.1) (hw : x ∉ t.2.2.1.getD p.toNat []) : TOk (twish t p x) := by
  have hwl := h.want
  have hp := h.rows (p := p.toNat) (by omega)
  have h9 := twice_snoc hp.2.2.1 hm hw
  refine ⟨h.n, h.has, h.log, by show ((t.2.2.1.set _ _).length : Int) = t.1; rw [List.length_set]; exact hwl, h.told, h.nd, fun q hq => row_iff.2 ?_⟩
  have hq : q < (t.2.2.1.set p.toNat (t.2.2.1.getD p.toNat [] ++ [x])).length := hq
  rw [List.length_set] at hq
  have hr := h.rows (p := q) (by omega)
  show (0 ≤ t.2.2.2.2.1.getD q 0 ∧ _) ∧ ((t.2.2.1.set p.toNat (t.2.2.1.getD p.toNat [] ++ [x])).getD q []).length ≤ 30 ∧ twice ((t.2.2.1.set p.toNat (t.2.2.1.getD p.toNat [] ++ [x])).getD q []) = false ∧ ∀ y ∈ (t.2.2.1.set p.toNat (t.2.2.1.getD p.toNat [] ++ [x])).getD q [], y ∉ t.2.2.2.1
  rw [getD_set (by omega)]
  by_cases e : q = p.toNat
  · rw [if_pos e]
    refine ⟨hr.1, twice_len h9, h9, fun y hy => ?_⟩
    rcases List.mem_append.1 hy with h | h
    · exact hp.2.2.2 y h
    · rw [List.mem_singleton] at h; subst h; exact hl
  · rw [if_neg e]; exact hr
theorem ttell_ok {t : TurnD} (h : TOk t) {p : Int} (h0 : 0 ≤ p) (h1 : p ≤ t.1 - 1) (hn : t.2.2.2.2.1.getD p.toNat 0 ≠ t.2.2.2.1.length) : TOk (ttell t p) := by
  have hwl := h.want
  have htl := h.told
  have hp := h.rows (p := p.toNat) (by omega)
  refine ⟨h.n, h.has, h.log, h.want, by show ((t.2.2.2.2.1.set _ _).length : Int) = t.1; rw [List.length_set]; exact htl, h.nd, fun q hq => row_iff.2 ?_⟩
  have hr := h.rows (p := q) (by have hq : q < t.2.2.1.length := hq; omega)
  refine ⟨?_, hr.2⟩
  show 0 ≤ (t.2.2.2.2.1.set p.toNat (t.2.2.2.2.1.getD p.toNat 0 + 1)).getD q 0 ∧ (t.2.2.2.2.1.set p.toNat (t.2.2.2.2.1.getD p.toNat 0 + 1)).getD q 0 ≤ t.2.2.2.1.length
  rw [getD_set (by omega)]
  by_cases e : q = p.toNat
  · rw [if_pos e]; omega
  · rw [if_neg e]; exact hr.1
theorem tlog_twice {w l : List Int} (hw : twice w = false) (hl : twice l = false) (hd : ∀ x ∈ w, x ∉ l) : twice (tlog w l) = false := by
  obtain ⟨h1, h2⟩ := twice_no.1 hw
  obtain ⟨h3, h4⟩ := twice_no.1 hl
  refine twice_no.2 ⟨List.nodup_append.2 ⟨h3, h1.sublist (List.take_sublist _ _), fun a ha b hb e => hd b (List.mem_of_mem_take hb) (e ▸ ha)⟩, fun x hx => ?_⟩
  rcases List.mem_append.1 hx with h | h
  · exact h4 x h
  · exact h2 x (List.mem_of_mem_take h)
/-- all that is wanted goes in -/
theorem tlog_all {w l : List Int} (hw : w.length ≤ 30) (hl : twice l = false) : tlog w l = l ++ w := by
  have := twice_len hl
  rw [tlog, List.take_of_length_le (by omega)]
theorem TOk.passLog {t : TurnD} (h : TOk t) : tlog (t.2.2.1.getD t.2.1.toNat []) t.2.2.2.1 = t.2.2.2.1 ++ t.2.2.1.getD t.2.1.toNat [] :=
  tlog_all (h.rows (p := t.2.1.toNat) (by have := h.has; omega)).2.1 h.nd
theorem tpass_row {t : TurnD} {q : Nat} (hq : q < t.2.2.1.length) : (tpass t).2.2.1.getD q [] = (t.2.2.1.getD q []).filter (fun n => !decide (n ∈ tlog (t.2.2.1.getD t.2.1.toNat []) t.2.2.2.1)) := getD_map' hq
theorem tpass_ok {t : TurnD} (h : TOk t) : TOk (tpass t) := by
  have hn := h.n
  have hh := h.has
  have hwl := h.want
  have hp := h.rows (p := t.2.1.toNat) (by omega)
  have h9 := tlog_twice hp.2.2.1 h.nd hp.2.2.2
  refine ⟨h.n, ?_, by have := twice_len h9; show (tlog _ _).length ≤ 100; omega, by show ((t.2.2.1.map _).length : Int) = t.1; rw [List.length_map]; exact hwl, h.told, h9, fun q hq => row_iff.2 ?_⟩
  · show 0 ≤ Int.tmod (t.2.1 + 1) t.1 ∧ Int.tmod (t.2.1 + 1) t.1 ≤ t.1 - 1
    rw [Int.tmod_eq_emod_of_nonneg (by omega)]
    have := Int.emod_nonneg (t.2.1 + 1) (b := t.1) (by omega)
    have := Int.emod_lt_of_pos (t.2.1 + 1) (b := t.1) (by omega)
    omega
  · have hq : q < (t.2.2.1.map (List.filter (fun n => !decide (n ∈ tlog (t.2.2.1.getD t.2.1.toNat []) t.2.2.2.1)))).length := hq
    rw [List.length_map] at hq
    have hr := h.rows (p := q) (by omega)
    rw [tpass_row hq]
    refine ⟨⟨hr.1.1, ?_⟩, ?_, ?_, fun x hx => ?_⟩
    · show t.2.2.2.2.1.getD q 0 ≤ ((tlog _ t.2.2.2.1).length : Int)
      rw [h.passLog, List.length_append]
      have := hr.1.2; omega
    · have := List.length_filter_le (fun n => !decide (n ∈ tlog (t.2.2.1.getD t.2.1.toNat []) t.2.2.2.1)) (t.2.2.1.getD q [])
      have := hr.2.1; omega
    · obtain ⟨k1, k2⟩ := twice_no.1 hr.2.2.1
      exact twice_no.2 ⟨k1.filter _, fun x hx => k2 x (List.mem_filter.1 hx).1⟩
    · have := (List.mem_filter.1 hx).2
      exact of_decide_eq_false (by rwa [Bool.not_eq_true'] at this)
/-- a step that can be -/
theorem tstep_cases {t : TurnD} (h : TOk t) (b : BeatD) (e : (tstep t b).2.2.1 = 0) : (0 ≤ b.2.1 ∧ b.2.1 ≤ t.1 - 1) ∧ (
    (b.1 = 1 ∧ tmsg b.2.2.1 = true ∧ b.2.2.1 ∉ t.2.2.2.1 ∧ b.2.2.1 ∉ t.2.2.1.getD b.2.1.toNat [] ∧ tstep t b = (twish t b.2.1 b.2.2.1, 0, 0, ())) ∨
    (b.1 = 2 ∧ b.2.1 = t.2.1 ∧ tstep t b = (tpass t, 0, 0, ())) ∨
    (b.1 = 3 ∧ t.2.2.2.2.1.getD b.2.1.toNat 0 ≠ t.2.2.2.1.length ∧ tstep t b = (ttell t b.2.1, t.2.2.2.1.getD (t.2.2.2.2.1.getD b.2.1.toNat 0).toNat 0, 0, ()))) := by
  have h0 := tcheck_iff.2 h
  rw [tstep, if_neg (by rw [h0]; simp)] at e ⊢
  split at e
  · cases e
  rename_i a
  have ha := inF_iff.1 (show inF b.1 1 3 = true by simpa using a)
  split at e
  · cases e
  rename_i c
  have hc := inF_iff.1 (show inF b.2.1 0 (t.1 - 1) = true by simpa using c)
  refine ⟨hc, ?_⟩
  split at e
  · cases e
  rename_i d
  rw [if_neg a, if_neg c, if_neg d]
  split at e
  · rename_i k
    rw [if_pos k]
    split at e
    · cases e
    split at e
    · cases e
    rename_i f g
    exact .inl ⟨k, by simpa using d, f, g, by rw [if_neg f, if_neg g]⟩
  · rename_i k
    rw [if_neg k]
    split at e
    · rename_i k2
      rw [if_pos k2]
      split at e
      · cases e
      rename_i f
      exact .inr (.inl ⟨k2, Decidable.not_not.1 f, by rw [if_neg f]⟩)
    · rename_i k2
      rw [if_neg k2]
      split at e
      · cases e
      rename_i f
      exact .inr (.inr ⟨by omega, f, by rw [if_neg f]⟩)
theorem tstep_ok {t : TurnD} (h : TOk t) (b : BeatD) (e : (tstep t b).2.2.1 = 0) : TOk (tstep t b).1 ∧ (tstep t b).1.1 = t.1 := by
  obtain ⟨⟨h0, h1⟩, ⟨_, h3, h4, h5, h6⟩ | ⟨_, h3, h6⟩ | ⟨_, h3, h6⟩⟩ := tstep_cases h b e
  · rw [h6]; exact ⟨twish_ok h h0 h1 h3 h4 h5, rfl⟩
  · rw [h6]; exact ⟨tpass_ok h, rfl⟩
  · rw [h6]; exact ⟨ttell_ok h h0 h1 h3, rfl⟩
end Go.Proofs.Ytbcdpeogfghgcaa
