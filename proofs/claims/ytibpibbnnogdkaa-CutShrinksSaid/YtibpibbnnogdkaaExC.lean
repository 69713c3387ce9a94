import Derived.Test.YtibpibbnnogdkaaExB
namespace Go.Ex

/-- does a pointer to 'p' still point to its part, behind a store at 'q'? -/
def kp : List Step → List Step → Bool
  | _, [] => true
  | [], .fld _ :: p => kp [] p
  | [], .idx _ :: _ => false
  | .fld n :: q, .fld m :: p => if n = m then kp q p else true
  | .idx _ :: q, .idx _ :: p => kp q p
  | _, _ => false

/-- does the part at 'p' hold what it held, behind a store at 'q'? -/
def ka : List Step → List Step → Bool
  | .fld n :: q, .fld m :: p => if n = m then ka q p else true
  | .idx _ :: q, .idx _ :: p => ka q p
  | _, _ => false

section
variable {H H' : Array Go.Obj} {S S' : Nat → Prop}

theorem cells_sub {b off n o m : Nat} (h : cellsAt H' b off n = cellsAt H b off n) (h1 : off ≤ o) (h2 : o + m ≤ off + n) : cellsAt H' b o m = cellsAt H b o m := by
  have e : ∀ K : Array Go.Obj, cellsAt K b o m = ((cellsAt K b off n).drop (o - off)).take m := by
    intro K
    rw [cellsAt_drop, cellsAt_take _ _ _ _ (by omega), show off + (o - off) = o from by omega]
  rw [e H', e H, h]

theorem blk_of_cells {b off n : Nat} (h : cellsAt H' b off n = cellsAt H b off n) {j : Nat} (h1 : off ≤ j) (h2 : j < off + n) : (blk H' b)[j]? = (blk H b)[j]? := by
  have e : ∀ K : Array Go.Obj, (blk K b)[j]? = (cellsAt K b off n)[j - off]? := by
    intro K
    simp only [cellsAt, List.getElem?_take, List.getElem?_drop]
    rw [if_pos (by omega), show off + (j - off) = j from by omega]
  rw [e H', e H, h]

theorem getP_some : ∀ {t : Ty} {x : t.den} {p : List Step}, okP t x p → ∃ u y, getP t x p = some ⟨u, y⟩ := by
  intro t
  induction t with
  | pair a c iha ihc =>
    intro x p h
    match p, h with
    | [], _ => exact ⟨_, _, rfl⟩
    | .fld 0 :: p, h => exact iha h
    | .fld (n + 1) :: p, h => exact ihc h
    | .idx i :: p, h => simp [okP] at h
  | arr n t ih =>
    intro x p h
    match p, h with
    | [], _ => exact ⟨_, _, rfl⟩
    | .idx i :: p, h => exact ih h.2
    | .fld i :: p, h => simp [okP] at h
  | slc o t ih =>
    intro x p h
    match p, h with
    | [], _ => cases o <;> exact ⟨_, _, rfl⟩
    | .idx i :: p, h => cases o with
      | true => exact ih h.2
      | false => simp [okP] at h
    | .fld i :: p, h => cases o <;> simp [okP] at h
  | _ =>
    intro x p h
    match p, h with
    | [], _ => exact ⟨_, _, rfl⟩
    | .idx i :: p, h => simp [okP] at h
    | .fld i :: p, h => simp [okP] at h

theorem sh_nav : ∀ {t t' : Ty} {p : List Step} {b off : Nat}, t'.sh = t.sh → kp [] p = true → Nav H' t' p b off = Nav H t p b off := by
  intro t
  induction t with
  | pair a c iha ihc =>
    intro t' p b off h hp
    cases t' <;> simp only [Ty.sh] at h <;> try cases h
    rename_i a' c'
    simp only [Ty.pair.injEq] at h
    match p, hp with
    | [], _ => rfl
    | .fld 0 :: p, hp => exact iha h.1 hp
    | .fld (n + 1) :: p, hp => simp only [Nav, size_er h.1]; exact ihc h.2 (by simpa [kp] using hp)
    | .idx i :: p, hp => simp [kp] at hp
  | slc o t ih =>
    intro t' p b off h hp
    cases t' <;> simp only [Ty.sh] at h <;> try cases h
    rename_i o' _
    match p, hp with
    | [], _ => cases o <;> cases o' <;> rfl
    | .fld i :: p, hp => cases o <;> cases o' <;> simp [Nav]
    | .idx i :: p, hp => simp [kp] at hp
  | _ =>
    intro t' p b off h hp
    cases t' <;> simp only [Ty.sh] at h <;> try cases h
    all_goals
      match p, hp with
      | [], _ => rfl
      | .fld i :: p, hp => simp [Nav]
      | .idx i :: p, hp => simp [kp] at hp

theorem sh_ok : ∀ {t t' : Ty} {p : List Step} {x : t.den} {y : t'.den}, t'.sh = t.sh → kp [] p = true → okP t x p → okP t' y p := by
  intro t
  induction t with
  | pair a c iha ihc =>
    intro t' p x y h hp ho
    cases t' <;> simp only [Ty.sh] at h <;> try cases h
    rename_i a' c'
    simp only [Ty.pair.injEq] at h
    match p, hp, ho with
    | [], _, _ => trivial
    | .fld 0 :: p, hp, ho => exact iha (t' := a') (y := y.1) h.1 hp ho
    | .fld (n + 1) :: p, hp, ho => exact ihc (t' := c') (y := y.2) h.2 (by simpa [kp] using hp) ho
    | .idx i :: p, hp, _ => simp [kp] at hp
  | slc o t ih =>
    intro t' p x y h hp ho
    match p, hp, ho with
    | [], _, _ => simp [okP]
    | .fld i :: p, hp, ho => cases o <;> simp [okP] at ho
    | .idx i :: p, hp, _ => simp [kp] at hp
  | _ =>
    intro t' p x y h hp ho
    match p, hp, ho with
    | [], _, _ => simp [okP]
    | .fld i :: p, hp, ho => simp [okP] at ho
    | .idx i :: p, hp, _ => simp [kp] at hp

/-- where nothing of a part has turned its own parts lie where they lay -/
theorem nav_rep : ∀ {t : Ty} {p : List Step} {b off : Nat} {O : List Nat} {x : t.den}, Rep H S t O (cellsAt H b off t.size) x → off + t.size ≤ (blk H b).length → okP t x p →
    cellsAt H' b off t.size = cellsAt H b off t.size → (∀ c ∈ O, H'[c]? = H[c]?) → Nav H' t p b off = Nav H t p b off := by
  intro t
  induction t with
  | pair a c iha ihc =>
    intro p b off O x hR hb ho hc hO
    match p, ho with
    | [], _ => rfl
    | .fld 0 :: p, ho =>
      obtain ⟨P1, P2, rfl, h1, h2⟩ := hR
      simp only [Ty.size] at *
      rw [cellsAt_take _ _ _ _ (by omega)] at h1
      exact iha h1 (by omega) ho (cells_sub hc (by omega) (by omega)) (fun c hc => hO c (by simp [hc]))
    | .fld (n + 1) :: p, ho =>
      obtain ⟨P1, P2, rfl, h1, h2⟩ := hR
      simp only [Ty.size] at *
      rw [cellsAt_drop, Nat.add_sub_cancel_left] at h2
      exact ihc h2 (by omega) ho (cells_sub hc (by omega) (by omega)) (fun c hc => hO c (by simp [hc]))
    | .idx i :: p, ho => simp [okP] at ho
  | arr n t ih =>
    intro p b off O x hR hb ho hc hO
    match p, ho with
    | [], _ => rfl
    | .idx i :: p, ho =>
      obtain ⟨hi, ho⟩ := ho
      obtain ⟨hl, hR⟩ := hR
      simp only [Ty.size] at *
      obtain ⟨b1, b2, b3, b4⟩ := idx_bound (sz := t.size) hi
      obtain ⟨P1, P2, P3, rfl, g1, g2, g3⟩ := RepL.split (d := t.dflt) (i := i.toNat) (by rw [hl]; exact b1) hR
      rw [cellsAt_drop, cellsAt_take _ _ _ _ (by omega)] at g2
      exact ih g2 (by omega) ho (cells_sub hc (by omega) (by omega)) (fun c hc => hO c (by simp [hc]))
    | .fld i :: p, ho => simp [okP] at ho
  | slc o t ih =>
    intro p b off O x hR hb ho hc hO
    match p, ho with
    | [], _ => cases o <;> rfl
    | .idx i :: p, ho =>
      cases o with
      | false => simp [okP] at ho
      | true =>
        obtain ⟨hi, ho⟩ := ho
        rcases hR with ⟨_, _, hn⟩ | ⟨b1, o1, cap, O', c1, c2, c3, c4, c5, rfl, c6⟩
        · subst hn; simp at hi; omega
        · simp only [Ty.size] at *
          have hh := (cellsAt_one b off _).1 c1
          have hh' := (cellsAt_one b off _).1 (hc.trans c1)
          obtain ⟨b1', b2, b3, b4⟩ := idx_bound (sz := t.size) hi
          obtain ⟨P1, P2, P3, rfl, g1, g2, g3⟩ := RepL.split (d := t.dflt) (i := i.toNat) b1' c5
          rw [cellsAt_drop, cellsAt_take _ _ _ _ (by omega)] at g2
          have hcap : List.length x * t.size ≤ cap * t.size := Nat.mul_le_mul_right _ c2
          simp only [Nav, hh, hh']
          exact ih g2 (by omega) ho (cellsAt_congr (hO b1 (by simp)) _ _) (fun c hc => hO c (by simp [hc]))
    | .fld i :: p, ho => cases o <;> simp [okP] at ho
  | _ =>
    intro p b off O x hR hb ho hc hO
    match p, ho with
    | [], _ => rfl
    | .fld i :: p, ho => simp [okP] at ho
    | .idx i :: p, ho => simp [okP] at ho

theorem at_rep {t : Ty} {p : List Step} {b off : Nat} {O : List Nat} {x : t.den} (hR : Rep H S t O (cellsAt H b off t.size) x) (hb : off + t.size ≤ (blk H b).length) (ho : okP t x p)
    (hc : cellsAt H' b off t.size = cellsAt H b off t.size) (hO : ∀ c ∈ O, H'[c]? = H[c]?) {u : Ty} {y : u.den} (hg : getP t x p = some ⟨u, y⟩) {b' off' : Nat} (hn : Nav H t p b off = some (b', off')) :
    cellsAt H' b' off' u.size = cellsAt H b' off' u.size := by
  obtain ⟨O1, O2, c1, c2, e1, e2, e3, e4, e5, e6⟩ := focus hR hb ho hg
  rw [hn] at e3; cases e3
  rcases e6 with ⟨rfl, g1, g2⟩ | ⟨g1, _⟩
  · exact cells_sub hc g1 g2
  · exact cellsAt_congr (hO _ (e1.mem_iff.2 (by simp [g1]))) _ _

theorem cast_set {t t' : Ty} (h : t' = t) (z : t'.den) (p : List Step) : okP t (h ▸ z : t.den) p ↔ okP t' z p := by subst h; rfl

theorem getD_set {α : Type} (l : List α) (i j : Nat) (v d : α) : (l.set i v).getD j d = if i = j ∧ j < l.length then v else l.getD j d := by
  simp only [List.getD_eq_getElem?_getD, List.getElem?_set]
  by_cases h : i = j
  · subst h
    by_cases h2 : i < l.length <;> simp [h2]
  · simp [h]


theorem setP_sh : ∀ {t : Ty} {x : t.den} {p : List Step} {u : Ty} {y : u.den} {z : Sigma Ty.den}, setP t x p u y = some z → z.1.sh = t.sh := by
  intro t
  induction t with
  | pair a c iha ihc =>
    intro x p u y z h
    match p, h with
    | [], h => simp only [setP] at h; split at h
               · rename_i e; cases h; exact e
               · cases h
    | .fld 0 :: p, h =>
      simp only [setP] at h
      split at h
      · rename_i t' w hw; cases h; simp only [Ty.sh, iha hw]
      · cases h
    | .fld (n + 1) :: p, h =>
      simp only [setP] at h
      split at h
      · rename_i t' w hw; cases h; simp only [Ty.sh, ihc hw]
      · cases h
    | .idx i :: p, h => simp [setP] at h
  | arr n t ih =>
    intro x p u y z h
    match p, h with
    | [], h => simp only [setP] at h; split at h
               · rename_i e; cases h; exact e
               · cases h
    | .idx i :: p, h =>
      simp only [setP] at h
      split at h
      · split at h
        · cases h; rfl
        · cases h
      · cases h
    | .fld i :: p, h => simp [setP] at h
  | slc o t ih =>
    intro x p u y z h
    match p, h with
    | [], h =>
      have h : (if u.sh = (Ty.slc o t).sh then some (⟨u, y⟩ : Sigma Ty.den) else none) = some z := by cases o <;> exact h
      split at h
      · rename_i e; cases h; exact e
      · cases h
    | .idx i :: p, h =>
      cases o with
      | false => simp [setP] at h
      | true =>
        simp only [setP] at h
        split at h
        · split at h
          · cases h; rfl
          · cases h
        · cases h
    | .fld i :: p, h => cases o <;> simp [setP] at h
  | _ =>
    intro x p u y z h
    match p, h with
    | [], h => simp only [setP] at h; split at h
               · rename_i e; cases h; exact e
               · cases h
    | .idx i :: p, h => simp [setP] at h
    | .fld i :: p, h => simp [setP] at h

/-- behind a store at 'q' a pointer that is kept points where it pointed -/
theorem nav_keep : ∀ {t : Ty} {q : List Step} {b off : Nat} {O1 : List Nat} {x : t.den}, RepBut H S t q b off O1 x →
    ∀ {u0 : Ty} {y0 : u0.den}, getP t x q = some ⟨u0, y0⟩ → ∀ {b' off' : Nat}, Nav H t q b off = some (b', off') →
    off + t.size ≤ (blk H b).length → b < H.size → O1.Nodup → b ∉ O1 → (∀ c ∈ O1, c < H.size) →
    ∀ {u : Ty} {y : u.den} {z : Sigma Ty.den}, Chg H H' b' off' u0.size → setP t x q u y = some z →
    ∀ {p : List Step}, kp q p = true → okP t x p → Nav H' z.1 p b off = Nav H t p b off ∧ okP z.1 z.2 p := by
  intro t
  induction t with
  | pair a c iha ihc =>
    intro q b off O1 x hR u0 y0 hg b' off' hn hb hbs hnd hbO hO1 u y z hc hz p hk ho
    match q, hR, hg, hn, hz, hk with
    | [], hR, hg, hn, hz, hk =>
      simp only [setP] at hz
      split at hz
      · rename_i e; cases hz; exact ⟨sh_nav e hk, sh_ok e hk ho⟩
      · cases hz
    | .fld 0 :: q, ⟨P1, P2, e, h1, h2⟩, hg, hn, hz, hk =>
      subst e
      simp only [setP] at hz
      split at hz
      · rename_i t' w hw
        cases hz
        simp only [List.nodup_append, List.mem_append, not_or] at hnd hbO
        simp only [Ty.size] at hb
        have hrng := RepBut.range h1 hg hn
        match p, hk, ho with
        | [], _, _ => exact ⟨rfl, trivial⟩
        | .fld 0 :: p, hk, ho =>
          exact iha h1 hg hn (by omega) hbs hnd.1 hbO.1 (fun c hc => hO1 c (by simp [hc])) hc hw (by simpa [kp] using hk) ho
        | .fld (m + 1) :: p, _, ho =>
          have hsz : t'.size = a.size := size_er (setP_sh hw)
          refine ⟨?_, ho⟩
          simp only [Nav, hsz]
          refine nav_rep h2 (by omega) ho ?_ ?_
          · refine hc.cells hbs (fun e => ?_)
            rcases hrng with ⟨_, g, g'⟩ | g
            · right; omega
            · exact absurd (by simp [e, g] : b ∈ P1) hbO.1
          · intro d hd
            refine hc.rest d ?_ (hO1 d (by simp [hd]))
            rintro rfl
            rcases hrng with ⟨g, _⟩ | g
            · subst g; exact hbO.2 hd
            · exact hnd.2.2 _ g _ hd rfl
        | .idx i :: p, hk, _ => simp [kp] at hk
      · cases hz
    | .fld (n + 1) :: q, ⟨P1, P2, e, h1, h2⟩, hg, hn, hz, hk =>
      subst e
      simp only [setP] at hz
      split at hz
      · rename_i t' w hw
        cases hz
        simp only [List.nodup_append, List.mem_append, not_or] at hnd hbO
        simp only [Ty.size] at hb
        have hrng := RepBut.range h2 hg hn
        match p, hk, ho with
        | [], _, _ => exact ⟨rfl, trivial⟩
        | .fld 0 :: p, _, ho =>
          refine ⟨?_, ho⟩
          simp only [Nav]
          refine nav_rep h1 (by omega) ho ?_ ?_
          · refine hc.cells hbs (fun e => ?_)
            rcases hrng with ⟨_, g, g'⟩ | g
            · left; omega
            · exact absurd (by simp [e, g] : b ∈ P2) hbO.2
          · intro d hd
            refine hc.rest d ?_ (hO1 d (by simp [hd]))
            rintro rfl
            rcases hrng with ⟨g, _⟩ | g
            · subst g; exact hbO.1 hd
            · exact hnd.2.2 _ hd _ g rfl
        | .fld (m + 1) :: p, hk, ho =>
          exact ihc h2 hg hn (by omega) hbs hnd.2.1 hbO.2 (fun c hc => hO1 c (by simp [hc])) hc hw (by
            simp only [kp, Nat.add_right_cancel_iff] at hk ⊢; exact hk) ho
        | .idx i :: p, hk, _ => simp [kp] at hk
      · cases hz
    | .idx i :: q, hR, _, _, _, _ => simp [RepBut] at hR
  | arr n t ih =>
    intro q b off O1 x hR u0 y0 hg b' off' hn hb hbs hnd hbO hO1 u y z hc hz p hk ho
    match q, hR, hg, hn, hz, hk with
    | [], hR, hg, hn, hz, hk =>
      simp only [setP] at hz
      split at hz
      · rename_i e; cases hz; exact ⟨sh_nav e hk, sh_ok e hk ho⟩
      · cases hz
    | .idx i :: q, ⟨hl, hi, P1, P2, P3, e, h1, h2, h3⟩, hg, hn, hz, hk =>
      subst e
      simp only [setP] at hz
      split at hz
      · rename_i t' w hw
        split at hz
        · rename_i ht; subst ht; cases hz
          simp only [List.nodup_append, List.mem_append, not_or] at hnd hbO
          obtain ⟨b1, b2, b3, b4⟩ := idx_bound (sz := t'.size) hi
          simp only [Ty.size] at hb
          have hrng := RepBut.range h2 hg hn
          match p, hk, ho with
          | [], _, _ => exact ⟨rfl, trivial⟩
          | .idx j :: p, hk, ho =>
            obtain ⟨hj, ho⟩ := ho
            obtain ⟨d1, d2, d3, d4⟩ := idx_bound (sz := t'.size) hj
            simp only [Nav, okP]
            by_cases hij : i.toNat = j.toNat
            · rw [← hij] at ho ⊢
              have := ih h2 hg hn (by omega) hbs hnd.2.1.1 hbO.2.1 (fun c hc => hO1 c (by simp [hc])) hc hw (by simpa [kp] using hk) ho
              refine ⟨this.1, hj, ?_⟩
              rw [getD_set, if_pos ⟨rfl, by rw [hl]; exact b1⟩]
              exact this.2
            · rw [getD_set, if_neg (by simp [hij])]
              refine ⟨?_, hj, ho⟩
              have hne : ∀ d, (d ∈ P1 ∨ d ∈ P3) → H'[d]? = H[d]? := by
                intro d hd
                refine hc.rest d ?_ (hO1 d (by rcases hd with h | h <;> simp [h]))
                rintro rfl
                rcases hrng with ⟨g, _⟩ | g
                · subst g; rcases hd with h | h
                  · exact hbO.1 h
                  · exact hbO.2.2 h
                · rcases hd with h | h
                  · exact hnd.2.2 _ h _ (.inl g) rfl
                  · exact hnd.2.1.2.2 _ g _ h rfl
              rcases Nat.lt_or_gt_of_ne hij with hlt | hgt
              · -- j above i
                have hd : j.toNat - (i.toNat + 1) < (List.drop (i.toNat + 1) x).length := by simp only [List.length_drop]; omega
                obtain ⟨Q1, Q2, Q3, e, k1, k2, k3⟩ := RepL.split (d := t'.dflt) hd h3
                have e1 : (i.toNat + 1) * t'.size + (j.toNat - (i.toNat + 1)) * t'.size = j.toNat * t'.size := by rw [← Nat.add_mul]; congr 1; omega
                have hm : (j.toNat - (i.toNat + 1)) * t'.size + t'.size ≤ (n - (i.toNat + 1)) * t'.size := by omega
                rw [cellsAt_drop, cellsAt_take _ _ _ _ (by omega), Nat.add_assoc, e1] at k2
                have e2 : (List.drop (i.toNat + 1) x).getD (j.toNat - (i.toNat + 1)) t'.dflt = List.getD x j.toNat t'.dflt := by
                  simp only [List.getD_eq_getElem?_getD, List.getElem?_drop]
                  rw [show i.toNat + 1 + (j.toNat - (i.toNat + 1)) = j.toNat from by omega]
                rw [e2] at k2
                refine nav_rep k2 (by omega) ho ?_ (fun d hd => hne d (.inr (by rw [e]; simp [hd])))
                refine hc.cells hbs (fun e => ?_)
                rcases hrng with ⟨_, g, g'⟩ | g
                · right; omega
                · exact absurd (by simp [e, g] : b ∈ P2) hbO.2.1
              · have hd : j.toNat < (List.take i.toNat x).length := by simp only [List.length_take]; omega
                obtain ⟨Q1, Q2, Q3, e, k1, k2, k3⟩ := RepL.split (d := t'.dflt) hd h1
                have hm : j.toNat * t'.size + t'.size ≤ i.toNat * t'.size := by
                  rw [← Nat.succ_mul]; exact Nat.mul_le_mul_right _ (by omega)
                rw [cellsAt_drop, cellsAt_take _ _ _ _ (by omega)] at k2
                have e2 : (List.take i.toNat x).getD j.toNat t'.dflt = List.getD x j.toNat t'.dflt := by
                  simp only [List.getD_eq_getElem?_getD, List.getElem?_take]
                  rw [if_pos (by omega)]
                rw [e2] at k2
                refine nav_rep k2 (by omega) ho ?_ (fun d hd => hne d (.inl (by rw [e]; simp [hd])))
                refine hc.cells hbs (fun e => ?_)
                rcases hrng with ⟨_, g, g'⟩ | g
                · left; omega
                · exact absurd (by simp [e, g] : b ∈ P2) hbO.2.1
          | .fld i :: p, hk, _ => simp [kp] at hk
        · cases hz
      · cases hz
    | .fld i :: q, hR, _, _, _, _ => simp [RepBut] at hR
  | slc o t ih =>
    intro q b off O1 x hR u0 y0 hg b' off' hn hb hbs hnd hbO hO1 u y z hc hz p hk ho
    match q, hR, hg, hn, hz, hk with
    | [], hR, hg, hn, hz, hk =>
      have hz : (if u.sh = (Ty.slc o t).sh then some (⟨u, y⟩ : Sigma Ty.den) else none) = some z := by cases o <;> exact hz
      split at hz
      · rename_i e; cases hz; exact ⟨sh_nav e hk, sh_ok e hk ho⟩
      · cases hz
    | .idx i :: q, hR, hg, hn, hz, hk =>
      cases o with
      | false => simp [RepBut] at hR
      | true =>
        obtain ⟨hi, c1, o1, cap, P1, P2, P3, e, e1, e2, e3, e4, e5, e6, e7⟩ := hR
        subst e
        simp only [Nav, e1] at hn
        simp only [setP] at hz
        split at hz
        · rename_i t' w hw
          split at hz
          · rename_i ht; subst ht; cases hz
            simp only [List.nodup_append, List.mem_append, List.nodup_cons, List.mem_cons, not_or] at hnd hbO
            obtain ⟨b1, b2, b3, b4⟩ := idx_bound (sz := t'.size) hi
            have hcap : List.length x * t'.size ≤ cap * t'.size := Nat.mul_le_mul_right _ e2
            have hfb := e4.blk
            have hc1 : c1 < H.size := hO1 c1 (by simp)
            have hrng := RepBut.range e6 hg hn
            have hbb : b ≠ b' := by
              rintro rfl
              rcases hrng with ⟨g, _⟩ | g
              · exact hbO.1 g
              · exact hbO.2.2.1 g
            have hhd : (blk H' b)[off]? = some (.slice (some ⟨c1, o1, none⟩) (List.length x) cap) := by
              rw [blk_congr (hc.rest b hbb hbs)]; exact e1
            match p, hk, ho with
            | [], _, _ => exact ⟨rfl, trivial⟩
            | .idx j :: p, hk, ho =>
              obtain ⟨hj, ho⟩ := ho
              obtain ⟨d1, d2, d3, d4⟩ := idx_bound (sz := t'.size) hj
              simp only [Nav, okP, e1, hhd, List.length_set]
              by_cases hij : i.toNat = j.toNat
              · rw [← hij] at ho ⊢
                have := ih e6 hg hn (by omega) hc1 hnd.2.2.1.1 hnd.1.2.1 (fun c hc => hO1 c (by simp [hc])) hc hw (by simpa [kp] using hk) ho
                refine ⟨this.1, hj, ?_⟩
                rw [getD_set, if_pos ⟨rfl, b1⟩]
                exact this.2
              · rw [getD_set, if_neg (by simp [hij])]
                refine ⟨?_, hj, ho⟩
                have hne : ∀ d, (d ∈ P1 ∨ d ∈ P3) → H'[d]? = H[d]? := by
                  intro d hd
                  refine hc.rest d ?_ (hO1 d (by rcases hd with h | h <;> simp [h]))
                  rintro rfl
                  rcases hrng with ⟨g, _⟩ | g
                  · subst g; rcases hd with h | h
                    · exact hnd.1.1 h
                    · exact hnd.1.2.2 h
                  · rcases hd with h | h
                    · exact hnd.2.2.2 _ h _ (.inl g) rfl
                    · exact hnd.2.2.1.2.2 _ g _ h rfl
                rcases Nat.lt_or_gt_of_ne hij with hlt | hgt
                · have hd : j.toNat - (i.toNat + 1) < (List.drop (i.toNat + 1) x).length := by simp only [List.length_drop]; omega
                  obtain ⟨Q1, Q2, Q3, e, k1, k2, k3⟩ := RepL.split (d := t'.dflt) hd e7
                  have f1 : (i.toNat + 1) * t'.size + (j.toNat - (i.toNat + 1)) * t'.size = j.toNat * t'.size := by rw [← Nat.add_mul]; congr 1; omega
                  have hm : (j.toNat - (i.toNat + 1)) * t'.size + t'.size ≤ (List.length x - (i.toNat + 1)) * t'.size := by omega
                  rw [cellsAt_drop, cellsAt_take _ _ _ _ (by omega), Nat.add_assoc, f1] at k2
                  have f2 : (List.drop (i.toNat + 1) x).getD (j.toNat - (i.toNat + 1)) t'.dflt = List.getD x j.toNat t'.dflt := by
                    simp only [List.getD_eq_getElem?_getD, List.getElem?_drop]
                    rw [show i.toNat + 1 + (j.toNat - (i.toNat + 1)) = j.toNat from by omega]
                  rw [f2] at k2
                  refine nav_rep k2 (by omega) ho ?_ (fun d hd => hne d (.inr (by rw [e]; simp [hd])))
                  refine hc.cells hc1 (fun e => ?_)
                  rcases hrng with ⟨_, g, g'⟩ | g
                  · right; omega
                  · exact absurd (by simp [e, g] : c1 ∈ P2) hnd.1.2.1
                · have hd : j.toNat < (List.take i.toNat x).length := by simp only [List.length_take]; omega
                  obtain ⟨Q1, Q2, Q3, e, k1, k2, k3⟩ := RepL.split (d := t'.dflt) hd e5
                  have hm : j.toNat * t'.size + t'.size ≤ i.toNat * t'.size := by
                    rw [← Nat.succ_mul]; exact Nat.mul_le_mul_right _ (by omega)
                  rw [cellsAt_drop, cellsAt_take _ _ _ _ (by omega)] at k2
                  have f2 : (List.take i.toNat x).getD j.toNat t'.dflt = List.getD x j.toNat t'.dflt := by
                    simp only [List.getD_eq_getElem?_getD, List.getElem?_take]
                    rw [if_pos (by omega)]
                  rw [f2] at k2
                  refine nav_rep k2 (by omega) ho ?_ (fun d hd => hne d (.inl (by rw [e]; simp [hd])))
                  refine hc.cells hc1 (fun e => ?_)
                  rcases hrng with ⟨_, g, g'⟩ | g
                  · left; omega
                  · exact absurd (by simp [e, g] : c1 ∈ P2) hnd.1.2.1
            | .fld i :: p, hk, _ => simp [kp] at hk
          · cases hz
        · cases hz
    | .fld i :: q, hR, _, _, _, _ => cases o <;> simp [RepBut] at hR
  | _ =>
    intro q b off O1 x hR u0 y0 hg b' off' hn hb hbs hnd hbO hO1 u y z hc hz p hk ho
    match q, hR, hg, hn, hz, hk with
    | [], hR, hg, hn, hz, hk =>
      simp only [setP] at hz
      split at hz
      · rename_i e; cases hz; exact ⟨sh_nav e hk, sh_ok e hk ho⟩
      · cases hz
    | .idx i :: q, hR, _, _, _, _ => simp [RepBut] at hR
    | .fld i :: q, hR, _, _, _, _ => simp [RepBut] at hR
end
end Go.Ex
