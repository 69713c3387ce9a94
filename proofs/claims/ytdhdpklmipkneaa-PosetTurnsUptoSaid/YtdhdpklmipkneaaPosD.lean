/- Finite orders turned round: the plain laws. No condition but those named. -/
import Derived.Test.YtdhdpklmipkneaaPosX
namespace Go.Proofs.Ytdhdpklmipkneaa
open Go.Ex Go.Sort
set_option maxRecDepth 100000
def flipP (q : PairD) : PairD := (q.2.1, q.1, ())
theorem flip_inv (q : PairD) : flipP (flipP q) = q := by obtain ⟨a, b, ⟨⟩⟩ := q; rfl
theorem flip_flip (l : List PairD) : (l.map flipP).map flipP = l := by
  rw [List.map_map]
  conv => rhs; rw [← List.map_id l]
  exact List.map_congr_left (fun q _ => flip_inv q)
theorem mcheck_flip {m n : Int} {l : List PairD} : mcheck n m (l.map flipP) = mcheck m n l := by
  rw [mcheck, mcheck, List.length_map, List.any_map, Bool.and_comm, show badP n m ∘ flipP = badP m n from funext (fun q => by
    show (!inF q.2.1 0 (n - 1) || !inF q.1 0 (m - 1)) = (!inF q.1 0 (m - 1) || !inF q.2.1 0 (n - 1))
    rw [Bool.or_comm])]
theorem Match.flip {l P : List PairD} (h : Match l P) : Match (l.map flipP) (P.map flipP) := by
  refine ⟨fun q hq => ?_, ?_, ?_⟩
  · obtain ⟨p, hp, rfl⟩ := List.mem_map.1 hq
    exact List.mem_map.2 ⟨p, h.sub p hp, rfl⟩
  · rw [List.pairwise_map]; exact h.two
  · rw [List.pairwise_map]; exact h.one
theorem Match.mono {l l' P : List PairD} (h : Match l P) (hs : ∀ q ∈ l, q ∈ l') : Match l' P := ⟨fun q hq => hs q (h.sub q hq), h.one, h.two⟩
theorem rel_flip {l : List PairD} {a b : Nat} : relP (l.map flipP) a b = relP l b a := by
  have : relP (l.map flipP) a b = true ↔ relP l b a = true := by
    rw [relP_iff, relP_iff, List.mem_map]
    constructor
    · rintro ⟨q, hq, e⟩
      have : q = ((b : Int), (a : Int), ()) := by rw [← flip_inv q, e]; rfl
      rw [← this]; exact hq
    · intro h; exact ⟨_, h, rfl⟩
  cases e : relP l b a with
  | true => exact this.2 e
  | false =>
    cases e2 : relP (l.map flipP) a b with
    | false => rfl
    | true => rw [this.1 e2] at e; cases e
theorem wk_flip_le {l l' : List PairD} {n : Nat} (hr : ∀ q ∈ l, (0 ≤ q.1 ∧ q.1 < (n : Int)) ∧ (0 ≤ q.2.1 ∧ q.2.1 < (n : Int))) (he : ∀ a b, relP l' a b = true → relP l b a = true) {a b : Nat} (h : wk (relP l') n a b = true) : wk (relP l) n b a = true :=
  wk_least (T := fun a b => wk (relP l) n b a = true) (fun a b c h1 h2 => wk_trans (wk_out (rel_out hr) h1).1 h2 h1) (fun a b h => wk_ge (he a b h) n) h
theorem rng_flip {n : Nat} {l : List PairD} (hr : ∀ q ∈ l, (0 ≤ q.1 ∧ q.1 < (n : Int)) ∧ (0 ≤ q.2.1 ∧ q.2.1 < (n : Int))) : ∀ q ∈ l.map flipP, (0 ≤ q.1 ∧ q.1 < (n : Int)) ∧ (0 ≤ q.2.1 ∧ q.2.1 < (n : Int)) := by
  intro q hq
  obtain ⟨p, hp, rfl⟩ := List.mem_map.1 hq
  exact ⟨(hr p hp).2, (hr p hp).1⟩
theorem wk_flip {n : Nat} {l : List PairD} (hr : ∀ q ∈ l, (0 ≤ q.1 ∧ q.1 < (n : Int)) ∧ (0 ≤ q.2.1 ∧ q.2.1 < (n : Int))) (a b : Nat) : wk (relP (l.map flipP)) n a b = wk (relP l) n b a := by
  cases e : wk (relP l) n b a with
  | true => exact wk_flip_le (rng_flip hr) (fun x y h => by rw [rel_flip]; exact h) e
  | false =>
    cases e2 : wk (relP (l.map flipP)) n a b with
    | false => rfl
    | true => rw [wk_flip_le hr (fun x y h => by rw [rel_flip] at h; exact h) e2] at e; cases e
theorem PosOk.flip {n : Nat} {l : List PairD} (h : PosOk n l) : PosOk n (l.map flipP) :=
  ⟨h.n20, by rw [List.length_map]; exact h.len, rng_flip h.rng, fun k hk => by rw [wk_flip h.rng]; exact h.irr k hk⟩
theorem pcheck_flip {n : Int} {l : List PairD} : pcheck n (l.map flipP) = pcheck n l := by
  unfold pcheck
  by_cases h1 : n < 0 ∨ 20 < n
  · rw [if_pos h1, if_pos h1]
  · rw [if_neg h1, if_neg h1, mcheck_flip]
    by_cases h2 : mcheck n n l ≠ 0
    · rw [if_pos h2, if_pos h2]
    · rw [if_neg h2, if_neg h2]
      have e : loopB n.toNat (l.map flipP) = loopB n.toNat l := by
        obtain ⟨_, _, _, hr⟩ := mcheck_rng (Decidable.not_not.1 h2)
        have hr : ∀ q ∈ l, (0 ≤ q.1 ∧ q.1 < ((n.toNat : Nat) : Int)) ∧ (0 ≤ q.2.1 ∧ q.2.1 < ((n.toNat : Nat) : Int)) := fun q hq => by
          have := hr q hq
          rw [Int.toNat_of_nonneg (by omega)]; exact this
        rw [loopB, loopB]
        congr 1
        funext k
        exact wk_flip hr k k
      rw [e]
/-- the levels of an order -/
theorem lev_ok {n : Nat} {l : List PairD} (hp : PosOk n l) : LvOk (wk (relP l) n) n (orderN (wk (relP l) n) n n []) (levF (wk (relP l) n) n (orderN (wk (relP l) n) n n [])) ∧ ∀ x : Nat, x < n → (x : Int) ∈ orderN (wk (relP l) n) n n [] := by
  have hL := order_lv (fun x y z => pos_trans hp (a := x) (b := y) (c := z)) (fun x => pos_irr hp x) (fun x y => wk_out (pos_rel hp)) n [] (by simp) LvOk.start
  generalize wk (relP l) n = R at *
  generalize orderN R n n [] = ord at *
  obtain ⟨hol, hL⟩ := hL
  refine ⟨hL, fun x hx => Classical.byContradiction (fun hno => ?_)⟩
  have h1 : ((x : Int) :: ord).Nodup := List.nodup_cons.2 ⟨hno, hL.nodup⟩
  have := nodup_sub h1 (S := (List.range n).map (fun a : Nat => (a : Int))) (fun y hy => by
    rcases List.mem_cons.1 hy with rfl | hy
    · exact List.mem_map.2 ⟨x, List.mem_range.2 hx, rfl⟩
    · have := hL.rng y hy
      exact List.mem_map.2 ⟨y.toNat, List.mem_range.2 (by omega), by omega⟩)
  rw [List.length_cons, List.length_map, List.length_range] at this
  omega
theorem rows_max {lev : List Int} (h0 : ∀ x : Nat, 0 ≤ lev.getD x 0) : ∀ m, (∀ b, b < m → lev.getD b 0 + 1 ≤ ((rowsF lev m).length : Int)) ∧ ((rowsF lev m).length = 0 ∨ ∃ b, b < m ∧ lev.getD b 0 + 1 = ((rowsF lev m).length : Int))
  | 0 => ⟨fun b hb => by omega, .inl rfl⟩
  | m + 1 => by
    obtain ⟨h1, h2⟩ := rows_max h0 m
    have hm := h0 m
    rw [rowsF_succ, rowS_len]
    refine ⟨fun b hb => ?_, ?_⟩
    · by_cases e : b = m
      · subst e; omega
      · have := h1 b (by omega); omega
    · right
      by_cases e : (rowsF lev m).length ≤ (lev.getD m 0).toNat + 1
      · exact ⟨m, by omega, by omega⟩
      · rcases h2 with h2 | ⟨b, h3, h4⟩
        · omega
        · exact ⟨b, by omega, by omega⟩
theorem lev_climb {n : Nat} {R : Nat → Nat → Bool} {lev lev' : List Int} (one : ∀ y, y < n → lev.getD y 0 = 0 ∨ ∃ x, R x y = true ∧ lev.getD y 0 = lev.getD x 0 + 1) (ho : ∀ x y, R x y = true → x < n ∧ y < n)
    (up : ∀ x y, R x y = true → lev'.getD y 0 + 1 ≤ lev'.getD x 0) : ∀ (h : Nat) (y : Nat), y < n → lev.getD y 0 = h → ∃ x, x < n ∧ lev'.getD y 0 + h ≤ lev'.getD x 0
  | 0, y, hy, _ => ⟨y, hy, by omega⟩
  | h + 1, y, hy, e => by
    rcases one y hy with h1 | ⟨x, h1, h2⟩
    · omega
    · obtain ⟨z, hz, h3⟩ := lev_climb one ho up h x (ho x y h1).1 (by omega)
      have := up x y h1
      exact ⟨z, hz, by omega⟩
theorem rows_le {n : Nat} {l l' : List PairD} (hp : PosOk n l) (hp' : PosOk n l') (hw : ∀ a b, wk (relP l') n a b = wk (relP l) n b a) :
    (rowsF (levF (wk (relP l) n) n (orderN (wk (relP l) n) n n [])) n).length ≤ (rowsF (levF (wk (relP l') n) n (orderN (wk (relP l') n) n n [])) n).length := by
  obtain ⟨hL, all⟩ := lev_ok hp
  obtain ⟨hL', all'⟩ := lev_ok hp'
  have ho : ∀ x y, wk (relP l) n x y = true → x < n ∧ y < n := fun x y => wk_out (pos_rel hp)
  generalize hR : wk (relP l) n = R at *
  generalize hR' : wk (relP l') n = R' at *
  generalize orderN R n n [] = ord at *
  generalize orderN R' n n [] = ord' at *
  generalize levF R n ord = lev at *
  generalize levF R' n ord' = lev' at *
  obtain ⟨_, h2⟩ := rows_max (fun x => (hL.nn x).1) n
  obtain ⟨h3, _⟩ := rows_max (fun x => (hL'.nn x).1) n
  rcases h2 with h2 | ⟨b, hb, h2⟩
  · omega
  · have hb0 := (hL.nn b).1
    obtain ⟨x, hx, h4⟩ := lev_climb (lev := lev) (lev' := lev') (R := R) (fun y hy => hL.one y (all y hy)) ho (fun x y hr => hL'.up y x (by rw [hw]; exact hr) (all' x (ho x y hr).1)) (lev.getD b 0).toNat b hb (by omega)
    have h5 := h3 x hx
    have h6 := (hL'.nn b).1
    omega
theorem levels_flip {n : Nat} {l : List PairD} (hp : PosOk n l) : (levelsR n (l.map flipP)).1.length = (levelsR n l).1.length := by
  have e : ∀ {l : List PairD}, PosOk n l → (levelsR (n : Int) l).1 = rowsF (levF (wk (relP l) n) n (orderN (wk (relP l) n) n n [])) n := fun h => by rw [levelsR, if_neg (fun d => d (pcheck_of h)), Int.toNat_natCast]
  rw [e hp, e hp.flip]
  have h1 := rows_le hp hp.flip (wk_flip hp.rng)
  have h2 := rows_le hp.flip hp (fun a b => (wk_flip hp.rng b a).symm)
  omega
theorem pairs_flip {n : Nat} {R R' : Nat → Nat → Bool} (hw : ∀ a b, R' a b = R b a) {q : PairD} : flipP q ∈ pairsF n R' ↔ q ∈ pairsF n R := by
  rw [pairsF_mem, pairsF_mem]
  constructor
  · rintro ⟨a, b, ha, hb, h, e⟩
    exact ⟨b, a, hb, ha, by rw [← hw]; exact h, by rw [← flip_inv q, e]; rfl⟩
  · rintro ⟨a, b, ha, hb, h, rfl⟩
    exact ⟨b, a, hb, ha, by rw [hw]; exact h, rfl⟩
theorem pairs_le {n : Nat} {R R' : Nat → Nat → Bool} (hw : ∀ a b, R' a b = R b a) : (pairsF n R).length ≤ (pairsF n R').length := by
  have h1 : ((pairsF n R).map flipP).Nodup := by
    refine List.pairwise_map.2 (pairsF_nodup.imp ?_)
    intro a b h e
    exact h (by rw [← flip_inv a, e, flip_inv])
  have := nodup_sub h1 (S := pairsF n R') (fun x hx => by
    obtain ⟨q, hq, rfl⟩ := List.mem_map.1 hx
    exact (pairs_flip hw).2 hq)
  rwa [List.length_map] at this
theorem most_le {n : Nat} (hn : n ≤ 20) {R R' : Nat → Nat → Bool} (hw : ∀ a b, R' a b = R b a) : (mostR n n (pairsF n R)).1.length ≤ (mostR n n (pairsF n R')).1.length := by
  obtain ⟨_, _, hM, _⟩ := mostR_match (most_code (pairs_mcheck hn (R := R)))
  have := (pairs_most hn R').2 _ (hM.flip.mono (l' := pairsF n R') (fun q hq => by
    obtain ⟨p, hp, rfl⟩ := List.mem_map.1 hq
    exact (pairs_flip hw).2 hp))
  rwa [List.length_map] at this
theorem chains_flip {n : Nat} {l : List PairD} (hp : PosOk n l) : (chainsR n (l.map flipP)).1.length = (chainsR n l).1.length := by
  have e : ∀ {l : List PairD}, PosOk n l → (chainsR (n : Int) l).1 = chainsTo n (mostR n n (pairsF n (wk (relP l) n))).1 n := fun h => by rw [chainsR, if_neg (fun d => d (pcheck_of h)), Int.toNat_natCast]
  rw [e hp, e hp.flip]
  have h1 := (pairs_most hp.n20 (wk (relP l) n)).1.count
  have h2 := (pairs_most hp.n20 (wk (relP (l.map flipP)) n)).1.count
  have h3 := most_le hp.n20 (R := wk (relP l) n) (R' := wk (relP (l.map flipP)) n) (wk_flip hp.rng)
  have h4 := most_le hp.n20 (R := wk (relP (l.map flipP)) n) (R' := wk (relP l) n) (fun a b => (wk_flip hp.rng b a).symm)
  omega
end Go.Proofs.Ytdhdpklmipkneaa
