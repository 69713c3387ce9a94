/- Histories: what is ahead of what, against the numbers and the vectors. -/
import Derived.Test.YtcafiieffenohaaAhead
import Derived.Test.YtcafiieffenohaaVect
namespace Go.Proofs.Ytcafiieffenohaa
open Go.Ex

theorem edge_iff {h : List Ev} {a b : Nat} (ha : EvOk h a) (hb : EvOk h b) : edgeB h a b = true ↔ pr h a = pr h b ∨ (kd h a = 2 ∧ kd h b = 3 ∧ ms h a = ms h b) := by
  have e1 := ha.eq
  have e2 := hb.eq
  rw [edgeB, e1, e2]
  simp only [Bool.or_eq_true, Bool.and_eq_true, decide_eq_true_eq]
  constructor
  · rintro (h | ⟨⟨h1, h2⟩, h3⟩)
    · left; omega
    · right; exact ⟨h1, h2, by omega⟩
  · rintro (h | ⟨h1, h2, h3⟩)
    · left; omega
    · right; exact ⟨⟨h1, h2⟩, by omega⟩

/-- who sent what is taken: there is just one -/
theorem sent_one {h : List Ev} {n : Nat} (hok : ∀ k, k < n → EvOk h k) {m a i : Nat} (ha : a < i) (hi : i ≤ n) (h1 : kd h a = 2) (h2 : ms h a = m) : sentIdx h m i = some a := by
  cases hs : sentIdx h m i with
  | none => exact absurd ⟨h1, h2⟩ (sentIdx_none hs a ha)
  | some j =>
    obtain ⟨j1, j2, j3, j4⟩ := sentIdx_some hs
    by_cases e : j = a
    · rw [e]
    · by_cases hlt : a < j
      · have := sentIdx_none ((hok j (by omega)).snd j2) a hlt
        rw [j3] at this
        exact absurd ⟨h1, h2⟩ this
      · exact absurd ⟨h1, h2⟩ (j4 a (by omega) ha)

theorem last_le {h : List Ev} {p a i : Nat} (ha : a < i) (h1 : pr h a = p) : ∃ j, lastIdx h p i = some j ∧ a ≤ j := by
  cases hs : lastIdx h p i with
  | none => exact absurd h1 (lastIdx_none hs a ha)
  | some j =>
    obtain ⟨j1, j2, j3⟩ := lastIdx_some hs
    refine ⟨j, rfl, ?_⟩
    by_cases e : a ≤ j
    · exact e
    · exact absurd h1 (j3 a (by omega) ha)

section
variable {h : List Ev} (hh : scheck h = 0)
include hh

theorem num_last {i j : Nat} (hi : i < h.length) (hj : lastIdx h (pr h i) i = some j) : (stamps h).1.getD j 0 < (stamps h).1.getD i 0 := by
  rw [(stamps_spec hh).2.2 i hi, numOf, hj]
  show (stamps h).1.getD j 0 < _
  simp only [valO]
  repeat' split
  all_goals omega
theorem num_sent {i j : Nat} (hi : i < h.length) (hk : kd h i = 3) (hj : sentIdx h (ms h i) i = some j) : (stamps h).1.getD j 0 < (stamps h).1.getD i 0 := by
  rw [(stamps_spec hh).2.2 i hi, numOf, if_pos hk, hj]
  show (stamps h).1.getD j 0 < (if valO (stamps h).1 (lastIdx h (pr h i) i) < (stamps h).1.getD j 0 then (stamps h).1.getD j 0 else valO (stamps h).1 (lastIdx h (pr h i) i)) + 1
  split <;> omega
theorem num_proc {a : Nat} : ∀ {b : Nat}, a < b → b < h.length → pr h a = pr h b → (stamps h).1.getD a 0 < (stamps h).1.getD b 0 := by
  intro b
  induction b using Nat.strongRecOn with
  | _ b ih =>
    intro hab hb he
    obtain ⟨j, hj, haj⟩ := last_le hab he
    have h1 := num_last hh hb hj
    obtain ⟨j1, j2, _⟩ := lastIdx_some hj
    by_cases e : a = j
    · rw [e]; exact h1
    · have := ih j j1 (by omega) (by omega) (by rw [he, j2])
      omega
theorem num_edge {a b : Nat} (hab : a < b) (hb : b < h.length) (he : edgeB h a b = true) : (stamps h).1.getD a 0 < (stamps h).1.getD b 0 := by
  rcases (edge_iff (hist_ok hh (by omega)) (hist_ok hh hb)).1 he with h1 | ⟨h1, h2, h3⟩
  · exact num_proc hh hab hb h1
  · exact num_sent hh hb h2 (sent_one (fun k hk => hist_ok hh hk) hab (by omega) h1 h3)
theorem num_hb {a : Nat} : ∀ {b : Nat}, b < h.length → hb h b a = true → a < b ∧ (stamps h).1.getD a 0 < (stamps h).1.getD b 0 := by
  intro b
  induction b using Nat.strongRecOn with
  | _ b ih =>
    intro hb' he
    obtain ⟨c, c1, c2, c3⟩ := hb_iff.1 he
    have h1 := num_edge hh c1 hb' c2
    rcases c3 with rfl | c3
    · exact ⟨c1, h1⟩
    · have := ih c c1 (by omega) c3
      omega
end

theorem mem_rowPairs {h : List Ev} {a : Nat} {x : Int × Int × Unit} : ∀ {n : Nat}, x ∈ rowPairs h a n ↔ ∃ b, b < n ∧ hb h b a = true ∧ x = ((a : Int), (b : Int), ())
  | 0 => by simp [rowPairs]
  | n + 1 => by
    simp only [rowPairs, List.mem_append, mem_rowPairs (n := n)]
    constructor
    · rintro (⟨b, h1, h2⟩ | h1)
      · exact ⟨b, by omega, h2⟩
      · split at h1
        · rename_i hc; exact ⟨n, by omega, hc, by simpa using h1⟩
        · cases h1
    · rintro ⟨b, h1, h2, h3⟩
      by_cases e : b = n
      · subst e; right; rw [if_pos h2]; simpa using h3
      · exact .inl ⟨b, by omega, h2, h3⟩
theorem mem_allPairs {h : List Ev} {n : Nat} {x : Int × Int × Unit} : ∀ {k : Nat}, x ∈ allPairs h n k ↔ ∃ a b, a < k ∧ b < n ∧ hb h b a = true ∧ x = ((a : Int), (b : Int), ())
  | 0 => by simp [allPairs]
  | k + 1 => by
    simp only [allPairs, List.mem_append, mem_allPairs (k := k), mem_rowPairs]
    constructor
    · rintro (⟨a, b, h1, h2⟩ | ⟨b, h1, h2⟩)
      · exact ⟨a, b, by omega, h2⟩
      · exact ⟨k, b, by omega, h1, h2⟩
    · rintro ⟨a, b, h1, h2, h3⟩
      by_cases e : a = k
      · subst e; exact .inr ⟨b, h2, h3⟩
      · exact .inl ⟨a, b, by omega, h2, h3⟩
theorem ahead_ok {h : List Ev} (hh : scheck h = 0) : aheadF h = (allPairs h h.length h.length, 0, ()) := by rw [aheadF, if_neg (by simp [hh])]
theorem ahead_len {h : List Ev} : (aheadF h).1.length ≤ 3600 := by
  by_cases hh : scheck h = 0
  · rw [ahead_ok hh]
    have h1 := (scheck_ok hh).1
    have := allPairs_len (h := h) h1 (a := h.length)
    show (allPairs h h.length h.length).length ≤ 3600
    omega
  · rw [aheadF, if_pos hh]; simp
theorem mem_ahead {h : List Ev} (hh : scheck h = 0) {x : Int × Int × Unit} : x ∈ (aheadF h).1 ↔ ∃ a b, a < h.length ∧ b < h.length ∧ hb h b a = true ∧ x = ((a : Int), (b : Int), ()) := by rw [ahead_ok hh, mem_allPairs]
theorem stamps_len {h : List Ev} : (stamps h).1.length ≤ 60 := by
  by_cases hh : scheck h = 0
  · rw [(stamps_spec hh).1]; exact (scheck_ok hh).1
  · rw [stamps, if_pos hh]; simp
theorem stamps_err {h : List Ev} : (stamps h).2.1 = scheck h := by
  by_cases hh : scheck h = 0
  · rw [(stamps_spec hh).2.1, hh]
  · rw [stamps, if_pos hh]
theorem ahead_err {h : List Ev} : (aheadF h).2.1 = scheck h := by
  by_cases hh : scheck h = 0
  · rw [ahead_ok hh, hh]
  · rw [aheadF, if_pos hh]
end Go.Proofs.Ytcafiieffenohaa
