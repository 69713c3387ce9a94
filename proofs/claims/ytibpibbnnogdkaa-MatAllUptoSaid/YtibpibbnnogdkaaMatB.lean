/- MatAll, in plain words: two rounds of meetings and all is known. -/
import Derived.Test.YtibpibbnnogdkaaMatK
namespace Go.Proofs.Ytibpibbnnogdkaa
open Go.Ex
set_option maxRecDepth 100000
abbrev mv (p q : Nat) : Ev := (1, (p : Int), (q : Int), ())
theorem rest_id {n p : Nat} (h : p < n) : rest (p : Int) (n : Int) = p := by
  have h1 : Int.tmod (p : Int) n = p := Int.tmod_eq_of_lt (by omega) (by omega)
  rw [rest, if_neg (by omega), h1]
  rw [Int.tmod_eq_emod_of_nonneg (by omega), Int.add_emod_right]; exact Int.emod_eq_of_lt (by omega) (by omega)
theorem kstep_mv {N p q : Nat} {s : KS} (hp : p < N) (hq : q < N) : kstep N s (mv p q) = if p = q then s else kmeet N s p q := by
  show kpq N s 1 (rest (p : Int) N) (rest (q : Int) N) = _
  rw [rest_id hp, rest_id hq, kpq, if_neg (by decide)]
  by_cases e : p = q
  · rw [if_pos e, if_pos (by omega)]
  · rw [if_neg e, if_neg (by omega)]; simp
/-- what a meeting takes away: nothing -/
structure Up (N : Nat) (s t : KS) : Prop where
  d : ∀ k, kD t k = kD s k
  h : ∀ r k, r < N → k < N → kh s r k ≤ kh t r k
  m : ∀ r i k, r < N → i < N → k < N → at2 (kM s r).2.2.1 i k ≤ at2 (kM t r).2.2.1 i k
theorem Up.refl {N : Nat} {s : KS} : Up N s s := ⟨fun _ => rfl, fun _ _ _ _ => Int.le_refl _, fun _ _ _ _ _ _ => Int.le_refl _⟩
theorem Up.trans {N : Nat} {s t u : KS} (h1 : Up N s t) (h2 : Up N t u) : Up N s u :=
  ⟨fun k => (h2.d k).trans (h1.d k), fun r k hr hk => Int.le_trans (h1.h r k hr hk) (h2.h r k hr hk), fun r i k hr hi hk => Int.le_trans (h1.m r i k hr hi hk) (h2.m r i k hr hi hk)⟩
theorem le_maxI {a b : Int} : a ≤ maxI a b ∧ b ≤ maxI a b := by unfold maxI; split <;> omega
theorem kmeet_up {N p q : Nat} {s : KS} (h : KInv N s) (hN : N ≤ 6) (hp : p < N) (hq : q < N) (hpq : p ≠ q) :
    Up N s (kmeet N s p q) ∧ (∀ k, k < N → kh s q k ≤ kh (kmeet N s p q) p k) ∧ (∀ i k, i < N → k < N → at2 (kM s q).2.2.1 i k ≤ at2 (kM (kmeet N s p q) p).2.2.1 i k) := by
  obtain ⟨o1, o2, o3, o4⟩ := h.ok p hp
  obtain ⟨u1, u2, u3, u4⟩ := h.ok q hq
  have o3' : (kM s p).2.1.toNat = p := by rw [o3]; omega
  have hm := mmeet_ok o1 u1 (by rw [o2, u2]) (by rw [o3, u3]; omega)
  have hat := fun i j => meetR_at (m := kM s p) (o := kM s q) (i := i) (j := j) (by omega)
  have eN : (N : Int).toNat = N := by omega
  have eM : ∀ r, kM (kmeet N s p q) r = if r = p then ((kM s p).1, (kM s p).2.1, meetR (kM s p) (kM s q), ()) else kM s r := fun r => by
    show (s.1.set p (mmeet (kM s p) (kM s q)).1).getD r m0 = _
    rw [hm, getD_set (by rw [h.la]; exact hp)]
  have eh : ∀ r k, k < N → kh (kmeet N s p q) r k = if r = p then maxI (kh s p k) (kh s q k) else kh s r k := fun r k hk => by
    show ((s.2.2.set p (hmerge (N : Int).toNat _ _)).getD r []).getD k 0 = _
    rw [getD_set (by rw [h.lh]; exact hp), eN]
    split
    · rw [hmerge, hpart_at hk, if_pos hk]
    · rfl
  have hmr : ∀ i k, i < N → k < N → at2 (kM s p).2.2.1 i k ≤ at2 (meetR (kM s p) (kM s q)) i k ∧ at2 (kM s q).2.2.1 i k ≤ at2 (meetR (kM s p) (kM s q)) i k := fun i k hi hk => by
    rw [hat i k (by omega) (by omega)]
    unfold maxI
    repeat' split
    all_goals omega
  refine ⟨⟨fun _ => rfl, fun r k hr hk => ?_, fun r i k hr hi hk => ?_⟩, fun k hk => ?_, fun i k hi hk => ?_⟩
  · rw [eh r k hk]; split
    · rename_i e; subst e; exact le_maxI.1
    · exact Int.le_refl _
  · rw [eM]; split
    · rename_i e; subst e; exact (hmr i k hi hk).1
    · exact Int.le_refl _
  · rw [eh p k hk, if_pos rfl]; exact le_maxI.2
  · rw [eM, if_pos rfl]; exact (hmr i k hi hk).2
/-- meetings alone -/
def MvAll (N : Nat) (l : List Ev) : Prop := ∀ x ∈ l, ∃ p q, p < N ∧ q < N ∧ x = mv p q
theorem meets_up {N : Nat} (h1 : 1 ≤ N) (hN : N ≤ 6) : ∀ {l : List Ev} {s : KS}, MvAll N l → KInv N s → Up N s (kGo N s l) ∧
    ∀ p q, p < N → q < N → p ≠ q → mv p q ∈ l → (∀ k, k < N → kh s q k ≤ kh (kGo N s l) p k) ∧ (∀ i k, i < N → k < N → at2 (kM s q).2.2.1 i k ≤ at2 (kM (kGo N s l) p).2.2.1 i k)
  | [], s, _, _ => ⟨Up.refl, fun _ _ _ _ _ hm => by cases hm⟩
  | x :: l, s, ha, hs => by
    obtain ⟨p0, q0, hp0, hq0, rfl⟩ := ha x (by simp)
    have hs' := kstep_inv (x := mv p0 q0) hs h1 hN
    obtain ⟨u1, u2⟩ := meets_up h1 hN (l := l) (s := kstep N s (mv p0 q0)) (fun x hx => ha x (by simp [hx])) hs'
    have hstep : Up N s (kstep N s (mv p0 q0)) := by
      rw [kstep_mv hp0 hq0]
      split
      · exact Up.refl
      · rename_i e; exact (kmeet_up hs hN hp0 hq0 e).1
    refine ⟨hstep.trans u1, fun p q hp hq hpq hm => ?_⟩
    rcases List.mem_cons.1 hm with e | hm
    · have e2 : p = p0 ∧ q = q0 := by
        simp only [mv, Prod.mk.injEq, and_true, true_and] at e; omega
      obtain ⟨rfl, rfl⟩ := e2
      have e3 := kmeet_up hs hN hp hq hpq
      have e4 : kstep N s (mv p q) = kmeet N s p q := by rw [kstep_mv hp hq, if_neg hpq]
      rw [← e4] at e3
      exact ⟨fun k hk => Int.le_trans (e3.2.1 k hk) (u1.h p k hp hk), fun i k hi hk => Int.le_trans (e3.2.2 i k hi hk) (u1.m p i k hp hi hk)⟩
    · have := u2 p q hp hq hpq hm
      exact ⟨fun k hk => Int.le_trans (hstep.h q k hq hk) (this.1 k hk), fun i k hi hk => Int.le_trans (hstep.m q i k hq hi hk) (this.2 i k hi hk)⟩
theorem kGo_append {n : Int} {s : KS} {a b : List Ev} : kGo n s (a ++ b) = kGo n (kGo n s a) b := List.foldl_append
/-- two rounds: all is known -/
theorem two_rounds {N : Nat} (h1 : 1 ≤ N) (hN : N ≤ 6) {s : KS} (hs : KInv N s) {a b : List Ev} (ha : MvAll N a) (hb : MvAll N b) (ha2 : ∀ p q, p < N → q < N → mv p q ∈ a) (hb2 : ∀ p q, p < N → q < N → mv p q ∈ b) :
    KInv N (kGo N s (a ++ b)) ∧ ∀ p i k, p < N → i < N → k < N → at2 (kM (kGo N s (a ++ b)) p).2.2.1 i k = kD (kGo N s (a ++ b)) k := by
  have i1 := kGo_inv h1 hN (l := a) hs
  have i2 := kGo_inv h1 hN (l := b) i1
  rw [kGo_append]
  obtain ⟨u1, u2⟩ := meets_up h1 hN ha hs
  obtain ⟨v1, v2⟩ := meets_up h1 hN hb i1
  generalize kGo N s a = s1 at *
  generalize kGo N s1 b = s2 at *
  have e1 : ∀ p k, p < N → k < N → kh s1 p k = kD s1 k := fun p k hp hk => by
    by_cases e : p = k
    · subst e; exact (i1.dh p hp).symm
    · have := (u2 p k hp hk e (ha2 p k hp hk)).1 k hk
      have h2 := hs.dh k hk
      have h3 := i1.hd p k hp hk
      have h4 := u1.d k
      omega
  refine ⟨i2, fun p i k hp hi hk => ?_⟩
  have hle := i2.le p i k hp hi hk
  have hd := i2.hd i k hi hk
  have hv := v1.d k
  by_cases e : p = i
  · subst e
    have h5 := i2.own p k hp hk
    have h6 := v1.h p k hp hk
    have h7 := e1 p k hp hk
    omega
  · have h8 := (v2 p i hp hi e (hb2 p i hp hi)).2 i k hi hk
    have h9 := i1.own i k hi hk
    have h7 := e1 i k hi hk
    omega
/-- the meetings that are written down -/
def mrow (N p j : Nat) : List Ev := (List.range j).map (fun q => mv p q)
def mall (N j : Nat) : List Ev := (List.range j).flatMap (fun p => mrow N p N)
def mrounds (N i : Nat) : List Ev := (List.range i).flatMap (fun _ => mall N N)
theorem mrow_succ {N p j : Nat} : mrow N p (j + 1) = mrow N p j ++ [mv p j] := by rw [mrow, List.range_succ, List.map_append]; rfl
theorem mall_succ {N j : Nat} : mall N (j + 1) = mall N j ++ mrow N j N := by rw [mall, List.range_succ, List.flatMap_append]; simp [mall]
theorem mrounds_succ {N i : Nat} : mrounds N (i + 1) = mrounds N i ++ mall N N := by rw [mrounds, List.range_succ, List.flatMap_append]; simp [mrounds]
theorem mrow_len {N p j : Nat} : (mrow N p j).length = j := by simp [mrow]
theorem mall_len {N : Nat} : ∀ {j : Nat}, (mall N j).length = j * N
  | 0 => by simp [mall]
  | j + 1 => by rw [mall_succ, List.length_append, mall_len, mrow_len, Nat.succ_mul]
theorem mrounds_len {N : Nat} : ∀ {i : Nat}, (mrounds N i).length = i * (N * N)
  | 0 => by simp [mrounds]
  | i + 1 => by rw [mrounds_succ, List.length_append, mrounds_len, mall_len, Nat.succ_mul]
theorem mem_mall {N : Nat} {x : Ev} : x ∈ mall N N ↔ ∃ p q, p < N ∧ q < N ∧ x = mv p q := by
  simp only [mall, mrow, List.mem_flatMap, List.mem_map, List.mem_range]
  constructor
  · rintro ⟨p, hp, q, hq, rfl⟩; exact ⟨p, q, hp, hq, rfl⟩
  · rintro ⟨p, q, hp, hq, rfl⟩; exact ⟨p, hp, q, hq, rfl⟩
theorem mrounds_all {N i : Nat} : MvAll N (mrounds N i) := by
  intro x hx
  simp only [mrounds, List.mem_flatMap] at hx
  obtain ⟨_, _, hx⟩ := hx
  exact mem_mall.1 hx
theorem known {N : Nat} (h1 : 1 ≤ N) (hN : N ≤ 6) {l : List Ev} : KInv N (kknow N (l ++ mrounds N (2 * N))) ∧ ∀ p i k, p < N → i < N → k < N → at2 (kM (kknow N (l ++ mrounds N (2 * N))) p).2.2.1 i k = kD (kknow N (l ++ mrounds N (2 * N))) k := by
  have e : mrounds N (2 * N) = mall N N ++ mrounds N (2 * N - 1) := by
    rw [mrounds, mrounds, show 2 * N = (2 * N - 1) + 1 by omega, List.range_succ_eq_map, List.flatMap_cons, List.flatMap_map]; rfl
  have e2 : ∃ m, mrounds N (2 * N - 1) = mrounds N m ++ mall N N := ⟨2 * N - 2, by rw [← mrounds_succ]; congr 1; omega⟩
  obtain ⟨m, e2⟩ := e2
  rw [kknow, kGo_append, e]
  refine two_rounds h1 hN (kknow_inv h1 hN l) (fun x hx => mem_mall.1 hx) mrounds_all (fun p q hp hq => mem_mall.2 ⟨p, q, hp, hq, rfl⟩) (fun p q hp hq => ?_)
  rw [e2]
  exact List.mem_append_right _ (mem_mall.2 ⟨p, q, hp, hq, rfl⟩)
end Go.Proofs.Ytibpibbnnogdkaa
