import Derived.Test.YtibpibbnnogdkaaExC
namespace Go.Ex

/-- does the part at 'p' hold what it held (a slice: its header), behind a store at 'q'? -/
def kc : Ty → List Step → List Step → Bool
  | .pair a _, .fld 0 :: q, .fld 0 :: p => kc a q p
  | .pair _ _, .fld 0 :: _, .fld (_ + 1) :: _ => true
  | .pair _ _, .fld (_ + 1) :: _, .fld 0 :: _ => true
  | .pair _ b, .fld (n + 1) :: q, .fld (m + 1) :: p => kc b (.fld n :: q) (.fld m :: p)
  | .arr _ t, .idx _ :: q, .idx _ :: p => kc t q p
  | .slc true t, .idx _ :: q, .idx _ :: p => kc t q p
  | .slc true _, .idx _ :: _, [] => true
  | _, _, _ => false

section
variable {H H' : Array Go.Obj} {S S' : Nat → Prop}

theorem cells_keep : ∀ {t : Ty} {q : List Step} {b off : Nat} {O1 : List Nat} {x : t.den}, RepBut H S t q b off O1 x →
    ∀ {u0 : Ty} {y0 : u0.den}, getP t x q = some ⟨u0, y0⟩ → ∀ {b' off' : Nat}, Nav H t q b off = some (b', off') →
    off + t.size ≤ (blk H b).length → b < H.size → O1.Nodup → b ∉ O1 → (∀ c ∈ O1, c < H.size) →
    ∀ {u : Ty} {y : u.den} {z : Sigma Ty.den}, Chg H H' b' off' u0.size → setP t x q u y = some z →
    ∀ {p : List Step}, kc t q p = true → okP t x p → ∀ {u1 : Ty} {y1 : u1.den}, getP t x p = some ⟨u1, y1⟩ →
    (∃ y2 : u1.den, getP z.1 z.2 p = some ⟨u1, y2⟩) ∧ ∀ b1 o1, Nav H t p b off = some (b1, o1) → cellsAt H' b1 o1 u1.size = cellsAt H b1 o1 u1.size := by
  intro t
  induction t with
  | pair a c iha ihc =>
    intro q b off O1 x hR u0 y0 hg b' off' hn hb hbs hnd hbO hO1 u y z hc hz p hk ho u1 y1 hg1
    match q, hR, hg, hn, hz, hk with
    | [], _, _, _, _, hk => simp [kc] at hk
    | .fld 0 :: q, ⟨P1, P2, e, h1, h2⟩, hg, hn, hz, hk =>
      subst e
      simp only [setP] at hz
      split at hz
      · rename_i t' w hw
        cases hz
        simp only [List.nodup_append, List.mem_append, not_or] at hnd hbO
        simp only [Ty.size] at hb
        have hrng := RepBut.range h1 hg hn
        match p, hk, ho, hg1 with
        | [], hk, _, _ => simp [kc] at hk
        | .fld 0 :: p, hk, ho, hg1 =>
          exact iha h1 hg hn (by omega) hbs hnd.1 hbO.1 (fun c hc => hO1 c (by simp [hc])) hc hw (by simpa [kc] using hk) ho hg1
        | .fld (m + 1) :: p, _, ho, hg1 =>
          refine ⟨⟨y1, hg1⟩, fun b1 o1 hn1 => ?_⟩
          refine at_rep h2 (by omega) ho ?_ ?_ hg1 hn1
          · refine hc.cells hbs (fun e => ?_)
            rcases hrng with ⟨_, g, g'⟩ | g
            · right; omega
            · exact absurd (by simp [e, g] : b ∈ P1) hbO.1
          · intro d hd
            refine hc.rest d ?_ (hO1 d (by simp [hd]))
            rintro rfl
            rcases hrng with ⟨g, _⟩ | g
            · subst g; exact hbO.2 hd
            · exact hnd.2.2 _ g _ hd rfl
        | .idx i :: p, hk, _, _ => simp [kc] at hk
      · cases hz
    | .fld (n + 1) :: q, ⟨P1, P2, e, h1, h2⟩, hg, hn, hz, hk =>
      subst e
      simp only [setP] at hz
      split at hz
      · rename_i t' w hw
        cases hz
        simp only [List.nodup_append, List.mem_append, not_or] at hnd hbO
        simp only [Ty.size] at hb
        have hrng := RepBut.range h2 hg hn
        match p, hk, ho, hg1 with
        | [], hk, _, _ => simp [kc] at hk
        | .fld 0 :: p, _, ho, hg1 =>
          refine ⟨⟨y1, hg1⟩, fun b1 o1 hn1 => ?_⟩
          refine at_rep h1 (by omega) ho ?_ ?_ hg1 hn1
          · refine hc.cells hbs (fun e => ?_)
            rcases hrng with ⟨_, g, g'⟩ | g
            · left; omega
            · exact absurd (by simp [e, g] : b ∈ P2) hbO.2
          · intro d hd
            refine hc.rest d ?_ (hO1 d (by simp [hd]))
            rintro rfl
            rcases hrng with ⟨g, _⟩ | g
            · subst g; exact hbO.1 hd
            · exact hnd.2.2 _ hd _ g rfl
        | .fld (m + 1) :: p, hk, ho, hg1 =>
          exact ihc h2 hg hn (by omega) hbs hnd.2.1 hbO.2 (fun c hc => hO1 c (by simp [hc])) hc hw (by simpa [kc] using hk) ho hg1
        | .idx i :: p, hk, _, _ => simp [kc] at hk
      · cases hz
    | .idx i :: q, hR, _, _, _, _ => simp [RepBut] at hR
  | arr n t ih =>
    intro q b off O1 x hR u0 y0 hg b' off' hn hb hbs hnd hbO hO1 u y z hc hz p hk ho u1 y1 hg1
    match q, hR, hg, hn, hz, hk with
    | [], _, _, _, _, hk => simp [kc] at hk
    | .idx i :: q, ⟨hl, hi, P1, P2, P3, e, h1, h2, h3⟩, hg, hn, hz, hk =>
      subst e
      simp only [setP] at hz
      split at hz
      · rename_i t' w hw
        split at hz
        · rename_i ht; subst ht; cases hz
          simp only [List.nodup_append, List.mem_append, not_or] at hnd hbO
          obtain ⟨b1, b2, b3, b4⟩ := idx_bound (sz := t'.size) hi
          simp only [Ty.size] at hb
          have hrng := RepBut.range h2 hg hn
          match p, hk, ho, hg1 with
          | [], hk, _, _ => simp [kc] at hk
          | .idx j :: p, hk, ho, hg1 =>
            obtain ⟨hj, ho⟩ := ho
            obtain ⟨d1, d2, d3, d4⟩ := idx_bound (sz := t'.size) hj
            simp only [getP] at hg1 ⊢
            simp only [Nav]
            by_cases hij : i.toNat = j.toNat
            · rw [← hij] at ho hg1 ⊢
              rw [getD_set, if_pos ⟨rfl, by rw [hl]; exact b1⟩]
              exact ih h2 hg hn (by omega) hbs hnd.2.1.1 hbO.2.1 (fun c hc => hO1 c (by simp [hc])) hc hw (by simpa [kc] using hk) ho hg1
            · rw [getD_set, if_neg (by simp [hij])]
              refine ⟨⟨y1, hg1⟩, fun bb oo hn1 => ?_⟩
              have hne : ∀ d, (d ∈ P1 ∨ d ∈ P3) → H'[d]? = H[d]? := by
                intro d hd
                refine hc.rest d ?_ (hO1 d (by rcases hd with h | h <;> simp [h]))
                rintro rfl
                rcases hrng with ⟨g, _⟩ | g
                · subst g; rcases hd with h | h
                  · exact hbO.1 h
                  · exact hbO.2.2 h
                · rcases hd with h | h
                  · exact hnd.2.2 _ h _ (.inl g) rfl
                  · exact hnd.2.1.2.2 _ g _ h rfl
              rcases Nat.lt_or_gt_of_ne hij with hlt | hgt
              · have hd : j.toNat - (i.toNat + 1) < (List.drop (i.toNat + 1) x).length := by simp only [List.length_drop]; omega
                obtain ⟨Q1, Q2, Q3, e, k1, k2, k3⟩ := RepL.split (d := t'.dflt) hd h3
                have e1 : (i.toNat + 1) * t'.size + (j.toNat - (i.toNat + 1)) * t'.size = j.toNat * t'.size := by rw [← Nat.add_mul]; congr 1; omega
                have hm : (j.toNat - (i.toNat + 1)) * t'.size + t'.size ≤ (n - (i.toNat + 1)) * t'.size := by omega
                rw [cellsAt_drop, cellsAt_take _ _ _ _ (by omega), Nat.add_assoc, e1] at k2
                have e2 : (List.drop (i.toNat + 1) x).getD (j.toNat - (i.toNat + 1)) t'.dflt = List.getD x j.toNat t'.dflt := by
                  simp only [List.getD_eq_getElem?_getD, List.getElem?_drop]
                  rw [show i.toNat + 1 + (j.toNat - (i.toNat + 1)) = j.toNat from by omega]
                rw [e2] at k2
                refine at_rep k2 (by omega) ho ?_ (fun d hd => hne d (.inr (by rw [e]; simp [hd]))) hg1 hn1
                refine hc.cells hbs (fun e => ?_)
                rcases hrng with ⟨_, g, g'⟩ | g
                · right; omega
                · exact absurd (by simp [e, g] : b ∈ P2) hbO.2.1
              · have hd : j.toNat < (List.take i.toNat x).length := by simp only [List.length_take]; omega
                obtain ⟨Q1, Q2, Q3, e, k1, k2, k3⟩ := RepL.split (d := t'.dflt) hd h1
                have hm : j.toNat * t'.size + t'.size ≤ i.toNat * t'.size := by
                  rw [← Nat.succ_mul]; exact Nat.mul_le_mul_right _ (by omega)
                rw [cellsAt_drop, cellsAt_take _ _ _ _ (by omega)] at k2
                have e2 : (List.take i.toNat x).getD j.toNat t'.dflt = List.getD x j.toNat t'.dflt := by
                  simp only [List.getD_eq_getElem?_getD, List.getElem?_take]
                  rw [if_pos (by omega)]
                rw [e2] at k2
                refine at_rep k2 (by omega) ho ?_ (fun d hd => hne d (.inl (by rw [e]; simp [hd]))) hg1 hn1
                refine hc.cells hbs (fun e => ?_)
                rcases hrng with ⟨_, g, g'⟩ | g
                · left; omega
                · exact absurd (by simp [e, g] : b ∈ P2) hbO.2.1
          | .fld i :: p, hk, _, _ => simp [kc] at hk
        · cases hz
      · cases hz
    | .fld i :: q, hR, _, _, _, _ => simp [RepBut] at hR
  | slc o t ih =>
    intro q b off O1 x hR u0 y0 hg b' off' hn hb hbs hnd hbO hO1 u y z hc hz p hk ho u1 y1 hg1
    match q, hR, hg, hn, hz, hk with
    | [], _, _, _, _, hk => cases o <;> simp [kc] at hk
    | .idx i :: q, hR, hg, hn, hz, hk =>
      cases o with
      | false => simp [RepBut] at hR
      | true =>
        obtain ⟨hi, c1, o1, cap, P1, P2, P3, e, e1, e2, e3, e4, e5, e6, e7⟩ := hR
        subst e
        simp only [Nav, e1] at hn
        simp only [setP] at hz
        split at hz
        · rename_i t' w hw
          split at hz
          · rename_i ht; subst ht; cases hz
            simp only [List.nodup_append, List.mem_append, List.nodup_cons, List.mem_cons, not_or] at hnd hbO
            obtain ⟨b1, b2, b3, b4⟩ := idx_bound (sz := t'.size) hi
            have hcap : List.length x * t'.size ≤ cap * t'.size := Nat.mul_le_mul_right _ e2
            have hfb := e4.blk
            have hc1 : c1 < H.size := hO1 c1 (by simp)
            have hrng := RepBut.range e6 hg hn
            have hbb : b ≠ b' := by
              rintro rfl
              rcases hrng with ⟨g, _⟩ | g
              · exact hbO.1 g
              · exact hbO.2.2.1 g
            match p, hk, ho, hg1 with
            | [], _, _, hg1 =>
              simp only [getP, Option.some.injEq] at hg1
              cases hg1
              refine ⟨⟨_, rfl⟩, fun bb oo hn1 => ?_⟩
              simp only [Nav, Option.some.injEq] at hn1
              cases hn1
              exact cellsAt_congr (hc.rest b hbb hbs) _ _
            | .idx j :: p, hk, ho, hg1 =>
              obtain ⟨hj, ho⟩ := ho
              obtain ⟨d1, d2, d3, d4⟩ := idx_bound (sz := t'.size) hj
              simp only [getP] at hg1 ⊢
              simp only [Nav, e1]
              by_cases hij : i.toNat = j.toNat
              · rw [← hij] at ho hg1 ⊢
                rw [getD_set, if_pos ⟨rfl, b1⟩]
                exact ih e6 hg hn (by omega) hc1 hnd.2.2.1.1 hnd.1.2.1 (fun c hc => hO1 c (by simp [hc])) hc hw (by simpa [kc] using hk) ho hg1
              · rw [getD_set, if_neg (by simp [hij])]
                refine ⟨⟨y1, hg1⟩, fun bb oo hn1 => ?_⟩
                have hne : ∀ d, (d ∈ P1 ∨ d ∈ P3) → H'[d]? = H[d]? := by
                  intro d hd
                  refine hc.rest d ?_ (hO1 d (by rcases hd with h | h <;> simp [h]))
                  rintro rfl
                  rcases hrng with ⟨g, _⟩ | g
                  · subst g; rcases hd with h | h
                    · exact hnd.1.1 h
                    · exact hnd.1.2.2 h
                  · rcases hd with h | h
                    · exact hnd.2.2.2 _ h _ (.inl g) rfl
                    · exact hnd.2.2.1.2.2 _ g _ h rfl
                rcases Nat.lt_or_gt_of_ne hij with hlt | hgt
                · have hd : j.toNat - (i.toNat + 1) < (List.drop (i.toNat + 1) x).length := by simp only [List.length_drop]; omega
                  obtain ⟨Q1, Q2, Q3, e, k1, k2, k3⟩ := RepL.split (d := t'.dflt) hd e7
                  have f1 : (i.toNat + 1) * t'.size + (j.toNat - (i.toNat + 1)) * t'.size = j.toNat * t'.size := by rw [← Nat.add_mul]; congr 1; omega
                  have hm : (j.toNat - (i.toNat + 1)) * t'.size + t'.size ≤ (List.length x - (i.toNat + 1)) * t'.size := by omega
                  rw [cellsAt_drop, cellsAt_take _ _ _ _ (by omega), Nat.add_assoc, f1] at k2
                  have f2 : (List.drop (i.toNat + 1) x).getD (j.toNat - (i.toNat + 1)) t'.dflt = List.getD x j.toNat t'.dflt := by
                    simp only [List.getD_eq_getElem?_getD, List.getElem?_drop]
                    rw [show i.toNat + 1 + (j.toNat - (i.toNat + 1)) = j.toNat from by omega]
                  rw [f2] at k2
                  refine at_rep k2 (by omega) ho ?_ (fun d hd => hne d (.inr (by rw [e]; simp [hd]))) hg1 hn1
                  refine hc.cells hc1 (fun e => ?_)
                  rcases hrng with ⟨_, g, g'⟩ | g
                  · right; omega
                  · exact absurd (by simp [e, g] : c1 ∈ P2) hnd.1.2.1
                · have hd : j.toNat < (List.take i.toNat x).length := by simp only [List.length_take]; omega
                  obtain ⟨Q1, Q2, Q3, e, k1, k2, k3⟩ := RepL.split (d := t'.dflt) hd e5
                  have hm : j.toNat * t'.size + t'.size ≤ i.toNat * t'.size := by
                    rw [← Nat.succ_mul]; exact Nat.mul_le_mul_right _ (by omega)
                  rw [cellsAt_drop, cellsAt_take _ _ _ _ (by omega)] at k2
                  have f2 : (List.take i.toNat x).getD j.toNat t'.dflt = List.getD x j.toNat t'.dflt := by
                    simp only [List.getD_eq_getElem?_getD, List.getElem?_take]
                    rw [if_pos (by omega)]
                  rw [f2] at k2
                  refine at_rep k2 (by omega) ho ?_ (fun d hd => hne d (.inl (by rw [e]; simp [hd]))) hg1 hn1
                  refine hc.cells hc1 (fun e => ?_)
                  rcases hrng with ⟨_, g, g'⟩ | g
                  · left; omega
                  · exact absurd (by simp [e, g] : c1 ∈ P2) hnd.1.2.1
            | .fld i :: p, hk, _, _ => simp [kc] at hk
          · cases hz
        · cases hz
    | .fld i :: q, hR, _, _, _, _ => cases o <;> simp [RepBut] at hR
  | _ =>
    intro q b off O1 x hR u0 y0 hg b' off' hn hb hbs hnd hbO hO1 u y z hc hz p hk ho u1 y1 hg1
    cases q <;> simp [kc] at hk
end
end Go.Ex
