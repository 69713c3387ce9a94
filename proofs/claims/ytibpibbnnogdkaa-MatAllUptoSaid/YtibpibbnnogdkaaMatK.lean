/- What processes know of each other, in plain words. -/
import Derived.Test.YtibpibbnnogdkaaMatP
import Derived.Test.YtibpibbnnogdkaaBase
namespace Go.Proofs.Ytibpibbnnogdkaa
open Go.Ex
set_option maxRecDepth 100000
def few (n : Int) : Int := rest n 6 + 1
theorem few_in (n : Int) : 1 ≤ few n ∧ few n ≤ 6 := by have := rest_in (a := n) (n := 6) (by omega); unfold few; omega
abbrev KS := List MatD × List Int × List (List Int)
def hpart (n : Nat) (a b : List Int) (j : Nat) : List Int := (List.range n).map (fun k => if k < j then maxI (a.getD k 0) (b.getD k 0) else a.getD k 0)
def hmerge (n : Nat) (a b : List Int) : List Int := hpart n a b n
def kdo (s : KS) (p : Nat) : KS := (s.1.set p (mdid (s.1.getD p m0)).1, s.2.1.set p (s.2.1.getD p 0 + 1), s.2.2.set p ((s.2.2.getD p []).set p ((s.2.2.getD p []).getD p 0 + 1)))
def kmeet (n : Int) (s : KS) (p q : Nat) : KS := (s.1.set p (mmeet (s.1.getD p m0) (s.1.getD q m0)).1, s.2.1, s.2.2.set p (hmerge n.toNat (s.2.2.getD p []) (s.2.2.getD q [])))
def kpq (n : Int) (s : KS) (k p q : Int) : KS := if k = 0 then (if (mdid (s.1.getD p.toNat m0)).2.1 = 8 then s else kdo s p.toNat) else if p = q then s else kmeet n s p.toNat q.toNat
def kstep (n : Int) (s : KS) (x : Ev) : KS := kpq n s x.1 (rest x.2.1 n) (rest x.2.2.1 n)
def knew (n : Int) : KS := ((List.range n.toNat).map (fun (p : Nat) => ((n, (p : Int), r0, ()) : MatD)), List.replicate n.toNat 0, List.replicate n.toNat (List.replicate n.toNat 0))
def kGo (n : Int) (s : KS) (l : List Ev) : KS := l.foldl (kstep n) s
def kknow (n : Int) (l : List Ev) : KS := kGo n (knew n) l
abbrev kM (s : KS) (p : Nat) : MatD := s.1.getD p m0
abbrev kH (s : KS) (p : Nat) : List Int := s.2.2.getD p []
abbrev kh (s : KS) (p k : Nat) : Int := (s.2.2.getD p []).getD k 0
abbrev kD (s : KS) (k : Nat) : Int := s.2.1.getD k 0
structure KInv (N : Nat) (s : KS) : Prop where
  la : s.1.length = N
  ld : s.2.1.length = N
  lh : s.2.2.length = N
  lr : ∀ p, p < N → (kH s p).length = N
  ok : ∀ p, p < N → MOk (kM s p) ∧ (kM s p).1 = N ∧ (kM s p).2.1 = p ∧ LenOk (kM s p).2.2.1
  own : ∀ p k, p < N → k < N → at2 (kM s p).2.2.1 p k = kh s p k
  le : ∀ p i k, p < N → i < N → k < N → at2 (kM s p).2.2.1 i k ≤ kh s i k
  hd : ∀ p k, p < N → k < N → kh s p k ≤ kD s k
  dh : ∀ k, k < N → kD s k = kh s k k
theorem r0_at (i j : Nat) : at2 r0 i j = 0 := by
  have e : r0.getD i v0 = v0 := match i with | 0 | 1 | 2 | 3 | 4 | 5 => rfl | _ + 6 => rfl
  rw [at2, e]
  exact match j with | 0 | 1 | 2 | 3 | 4 | 5 => rfl | _ + 6 => rfl
theorem r0_len : LenOk r0 := ⟨rfl, fun i _ => by
  have e : r0.getD i v0 = v0 := match i with | 0 | 1 | 2 | 3 | 4 | 5 => rfl | _ + 6 => rfl
  rw [e]; rfl⟩
theorem mnew_MOk {n me : Int} (h1 : 1 ≤ n) (h2 : n ≤ 6) (h3 : 0 ≤ me) (h4 : me < n) : MOk (n, me, r0, ()) :=
  ⟨⟨h1, h2⟩, ⟨h3, h4⟩, fun i j _ _ => by show 0 ≤ at2 r0 i j ∧ _; rw [r0_at]; omega, fun i j _ _ => by show 0 < at2 r0 i j → _; rw [r0_at]; omega, fun i j _ _ => by show at2 r0 i j ≤ at2 r0 _ j; rw [r0_at, r0_at]; exact Int.le_refl _⟩
theorem getD_rep {α : Type} {n i : Nat} {x d : α} (h : i < n) : (List.replicate n x).getD i d = x := by
  rw [List.getD_eq_getElem?_getD, List.getElem?_eq_getElem (by simpa using h)]; simp
theorem knew_inv {N : Nat} (h1 : 1 ≤ N) (h2 : N ≤ 6) : KInv N (knew N) := by
  have e : (N : Int).toNat = N := by omega
  have eM : ∀ p, p < N → kM (knew N) p = ((N : Int), (p : Int), r0, ()) := fun p hp => by
    show ((List.range (N : Int).toNat).map _).getD p m0 = _
    rw [e, getD_map_range _ _ hp]
  have eH : ∀ p, p < N → kH (knew N) p = List.replicate N 0 := fun p hp => by
    show (List.replicate (N : Int).toNat _).getD p [] = _
    rw [e, getD_rep hp]
  have eh : ∀ p k, p < N → k < N → kh (knew N) p k = 0 := fun p k hp hk => by
    show (kH (knew N) p).getD k 0 = 0
    rw [eH p hp, getD_rep hk]
  have ed : ∀ k, k < N → kD (knew N) k = 0 := fun k hk => by
    show (List.replicate (N : Int).toNat (0 : Int)).getD k 0 = 0
    rw [e, getD_rep hk]
  refine ⟨by simp [knew], by simp [knew], by simp [knew], fun p hp => by rw [eH p hp]; simp, fun p hp => ?_, fun p k hp hk => ?_, fun p i k hp hi hk => ?_, fun p k hp hk => ?_, fun k hk => ?_⟩
  · rw [eM p hp]; exact ⟨mnew_MOk (by omega) (by omega) (by omega) (by omega), rfl, rfl, r0_len⟩
  · rw [eM p hp, eh p k hp hk]; exact r0_at p k
  · rw [eM p hp, eh i k hi hk]; show at2 r0 i k ≤ 0; rw [r0_at]; omega
  · rw [eh p k hp hk, ed k hk]; omega
  · rw [eh k k hk hk, ed k hk]
theorem getD_set2 {l : List (List Int)} {p q : Nat} {x : List Int} (h : p < l.length) (k : Nat) : ((l.set p x).getD q []).getD k 0 = if q = p then x.getD k 0 else (l.getD q []).getD k 0 := by
  rw [getD_set h]; split <;> rfl
theorem kdo_inv {N p : Nat} {s : KS} (h : KInv N s) (hN : N ≤ 6) (hp : p < N) (hf : (mdid (kM s p)).2.1 ≠ 8) :
    KInv N (kdo s p) ∧ (mdid (kM s p)).2.1 = 0 ∧ kD s p ≤ 16777214 := by
  obtain ⟨o1, o2, o3, o4⟩ := h.ok p hp
  have o3' : (kM s p).2.1.toNat = p := by rw [o3]; omega
  have hne : at2 (kM s p).2.2.1 (kM s p).2.1.toNat (kM s p).2.1.toNat ≠ 16777215 := by
    intro e; apply hf; rw [mdid, if_neg (fun h => h (mcheck_iff.2 o1)), if_pos e]
  have hd : mdid (kM s p) = (((kM s p).1, (kM s p).2.1, bump (kM s p).2.2.1 (kM s p).2.1.toNat, ()), 0, ()) := by rw [mdid, if_neg (fun h => h (mcheck_iff.2 o1)), if_neg hne]
  have hb := bump_MOk o4 o1 hne
  rw [o3'] at hd hb hne
  have hb2 := fun i j => bump_at o4 (me := p) (i := i) (j := j) (by omega)
  have hbl := bump_len o4 (me := p) (by omega)
  have hcp := (o1.c p p (by omega) (by omega)).2
  have hown := h.own p p hp hp
  have hdp := h.dh p hp
  refine ⟨?_, by rw [hd], by omega⟩
  have eM : ∀ q, kM (kdo s p) q = if q = p then ((kM s p).1, (kM s p).2.1, bump (kM s p).2.2.1 p, ()) else kM s q := fun q => by
    show (s.1.set p (mdid (kM s p)).1).getD q m0 = _
    rw [hd, getD_set (by rw [h.la]; exact hp)]
  have eH : ∀ q, kH (kdo s p) q = if q = p then (kH s p).set p (kh s p p + 1) else kH s q := fun q => by
    show (s.2.2.set p _).getD q [] = _
    rw [getD_set (by rw [h.lh]; exact hp)]
  have eh : ∀ q k, kh (kdo s p) q k = if q = p ∧ k = p then kh s p p + 1 else kh s q k := fun q k => by
    show (kH (kdo s p) q).getD k 0 = _
    rw [eH]
    by_cases e : q = p
    · subst e
      rw [if_pos rfl, getD_set (by rw [h.lr q hp]; exact hp)]
      by_cases e2 : k = q
      · rw [if_pos e2, if_pos ⟨rfl, e2⟩]
      · rw [if_neg e2, if_neg (fun h => e2 h.2)]
    · rw [if_neg e, if_neg (fun h => e h.1)]
  have ed : ∀ k, kD (kdo s p) k = if k = p then kD s p + 1 else kD s k := fun k => by
    show (s.2.1.set p _).getD k 0 = _
    rw [getD_set (by rw [h.ld]; exact hp)]
  refine ⟨by simp [kdo, h.la], by simp [kdo, h.ld], by simp [kdo, h.lh], fun q hq => ?_, fun q hq => ?_, fun q k hq hk => ?_, fun q i k hq hi hk => ?_, fun q k hq hk => ?_, fun k hk => ?_⟩
  · rw [eH]; split
    · simp [h.lr p hp, -List.getD_eq_getElem?_getD]
    · exact h.lr q hq
  · rw [eM]; split
    · rename_i e; subst e; exact ⟨hb, o2, o3, hbl⟩
    · exact h.ok q hq
  · rw [eM, eh]
    have h1 := h.own q k hq hk
    by_cases e : q = p
    · subst e
      rw [if_pos rfl]
      show at2 (bump (kM s q).2.2.1 q) q k = _
      rw [hb2]
      by_cases e2 : k = q
      · rw [if_pos ⟨rfl, e2⟩, if_pos ⟨rfl, e2⟩, hown]
      · rw [if_neg (fun h => e2 h.2), if_neg (fun h => e2 h.2)]; exact h1
    · rw [if_neg e, if_neg (fun h => e h.1)]; exact h1
  · rw [eM, eh]
    have h1 := h.le q i k hq hi hk
    have h2 := h.le q p p hq hp hp
    by_cases e : q = p
    · subst e
      rw [if_pos rfl]
      show at2 (bump (kM s q).2.2.1 q) i k ≤ _
      rw [hb2]
      split
      · rename_i e2; rw [hown]; exact Int.le_refl _
      · exact h1
    · rw [if_neg e]
      split
      · rename_i e2; obtain ⟨rfl, rfl⟩ := e2; omega
      · exact h1
  · rw [eh, ed]
    have h1 := h.hd q k hq hk
    by_cases e : k = p
    · subst e; rw [if_pos rfl]; split <;> omega
    · rw [if_neg e, if_neg (fun h => e h.2)]; exact h1
  · rw [eh, ed]
    have h1 := h.dh k hk
    by_cases e : k = p
    · subst e; rw [if_pos rfl, if_pos ⟨rfl, rfl⟩, h1]
    · rw [if_neg e, if_neg (fun h => e h.1)]; exact h1
theorem hpart_at {n : Nat} {a b : List Int} {j k : Nat} (hk : k < n) : (hpart n a b j).getD k 0 = if k < j then maxI (a.getD k 0) (b.getD k 0) else a.getD k 0 := getD_map_range _ _ hk
theorem kmeet_inv {N p q : Nat} {s : KS} (h : KInv N s) (hN : N ≤ 6) (hp : p < N) (hq : q < N) (hpq : p ≠ q) :
    KInv N (kmeet N s p q) ∧ (mmeet (kM s p) (kM s q)).2.1 = 0 := by
  obtain ⟨o1, o2, o3, o4⟩ := h.ok p hp
  obtain ⟨u1, u2, u3, u4⟩ := h.ok q hq
  have o3' : (kM s p).2.1.toNat = p := by rw [o3]; omega
  have u3' : (kM s q).2.1.toNat = q := by rw [u3]; omega
  have hm := mmeet_ok o1 u1 (by rw [o2, u2]) (by rw [o3, u3]; omega)
  have hmk := mmeet_MOk o1 u1 (by rw [o2, u2])
  have hat := fun i j => meetR_at (m := kM s p) (o := kM s q) (i := i) (j := j) (by omega)
  have hl := meetR_len (m := kM s p) (o := kM s q)
  rw [o3', u3'] at hat
  refine ⟨?_, by rw [hm]⟩
  have eN : (N : Int).toNat = N := by omega
  have eM : ∀ r, kM (kmeet N s p q) r = if r = p then ((kM s p).1, (kM s p).2.1, meetR (kM s p) (kM s q), ()) else kM s r := fun r => by
    show (s.1.set p (mmeet (kM s p) (kM s q)).1).getD r m0 = _
    rw [hm, getD_set (by rw [h.la]; exact hp)]
  have eH : ∀ r, kH (kmeet N s p q) r = if r = p then hmerge N (kH s p) (kH s q) else kH s r := fun r => by
    show (s.2.2.set p (hmerge (N : Int).toNat _ _)).getD r [] = _
    rw [getD_set (by rw [h.lh]; exact hp), eN]
  have eh : ∀ r k, k < N → kh (kmeet N s p q) r k = if r = p then maxI (kh s p k) (kh s q k) else kh s r k := fun r k hk => by
    show (kH (kmeet N s p q) r).getD k 0 = _
    rw [eH]
    split
    · rw [hmerge, hpart_at hk, if_pos hk]
    · rfl
  refine ⟨by simp [kmeet, h.la], h.ld, by simp [kmeet, h.lh], fun r hr => ?_, fun r hr => ?_, fun r k hr hk => ?_, fun r i k hr hi hk => ?_, fun r k hr hk => ?_, fun k hk => ?_⟩
  · rw [eH]; split
    · simp [hmerge, hpart]
    · exact h.lr r hr
  · rw [eM]; split
    · rename_i e; subst e; exact ⟨hmk, o2, o3, hl⟩
    · exact h.ok r hr
  · rw [eM, eh _ _ hk]
    by_cases e : r = p
    · subst e
      rw [if_pos rfl, if_pos rfl]
      show at2 (meetR (kM s r) (kM s q)) r k = _
      rw [hat r k (by omega) (by omega), if_pos rfl, h.own r k hp hk, h.own q k hq hk]
      have := h.le q r k hq hp hk
      unfold maxI
      repeat' split
      all_goals omega
    · rw [if_neg e, if_neg e]; exact h.own r k hr hk
  · rw [eM, eh _ _ hk]
    have h1 := h.le r i k hr hi hk
    have h2 := h.le p i k hp hi hk
    have h3 := h.le q i k hq hi hk
    have h4 := h.own q k hq hk
    have h5 := h.own p k hp hk
    by_cases e : r = p
    · subst e
      rw [if_pos rfl]
      show at2 (meetR (kM s r) (kM s q)) i k ≤ _
      rw [hat i k (by omega) (by omega)]
      unfold maxI
      by_cases e : i = r
      · subst e
        rw [if_pos rfl, if_pos rfl]
        repeat' split
        all_goals omega
      · rw [if_neg e, if_neg e]
        repeat' split
        all_goals omega
    · rw [if_neg e]
      unfold maxI
      by_cases e : i = p
      · subst e
        rw [if_pos rfl]
        split <;> omega
      · rw [if_neg e]; exact h1
  · rw [eh _ _ hk]
    show _ ≤ kD s k
    have h1 := h.hd r k hr hk
    have h2 := h.hd p k hp hk
    have h3 := h.hd q k hq hk
    unfold maxI
    repeat' split
    all_goals omega
  · rw [eh _ _ hk]
    show kD s k = _
    have h1 := h.dh k hk
    have h3 := h.hd q k hq hk
    by_cases e : k = p
    · subst e
      rw [if_pos rfl]
      unfold maxI
      split <;> omega
    · rw [if_neg e]; exact h1
theorem kpq_inv {N : Nat} {s : KS} {k p q : Int} (h : KInv N s) (hN : N ≤ 6) (hp : 0 ≤ p ∧ p < N) (hq : 0 ≤ q ∧ q < N) : KInv N (kpq N s k p q) := by
  unfold kpq
  split
  · split
    · exact h
    · rename_i e; exact (kdo_inv h hN (by omega) e).1
  · split
    · exact h
    · exact (kmeet_inv h hN (by omega) (by omega) (by omega)).1
theorem kstep_inv {N : Nat} {s : KS} {x : Ev} (h : KInv N s) (h1 : 1 ≤ N) (hN : N ≤ 6) : KInv N (kstep N s x) :=
  kpq_inv h hN (rest_in (by omega)) (rest_in (by omega))
theorem kGo_inv {N : Nat} (h1 : 1 ≤ N) (hN : N ≤ 6) : ∀ {l : List Ev} {s : KS}, KInv N s → KInv N (kGo N s l)
  | [], s, h => h
  | x :: l, s, h => kGo_inv h1 hN (l := l) (kstep_inv (x := x) h h1 hN)
theorem kknow_inv {N : Nat} (h1 : 1 ≤ N) (hN : N ≤ 6) (l : List Ev) : KInv N (kknow N l) := kGo_inv h1 hN (knew_inv h1 hN)
end Go.Proofs.Ytibpibbnnogdkaa
