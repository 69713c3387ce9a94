/- What three processes are told (plain): prefixes of one order. No condition but those named. -/
import Derived.Test.YtdhdpklmipkneaaSkF
namespace Go.Proofs.Ytdhdpklmipkneaa
open Go.Ex Go.Sort
set_option maxRecDepth 100000
theorem who_in (x : TalkD) : 0 ≤ whoOf x ∧ whoOf x < 3 := rest_in (by decide)
theorem id_in (x : TalkD) : 0 ≤ idOf x ∧ idOf x < 8 := rest_in (by decide)
theorem fixGo_ok {nums : List (List NumD)} {ids : List Int} (hN : NumOk nums) : ∀ {l : List TalkD} {all : List SkD} {told : List (List Int)}, FixInv nums all told → ∃ told' all', fixGo nums ids l all told = (told', ids, true, ()) ∧ FixInv nums all' told'
  | [], all, told, h => ⟨told, all, rfl, h⟩
  | x :: l, all, told, h => by
    obtain ⟨p0, p3⟩ := who_in x
    obtain ⟨i0, i8⟩ := id_in x
    rw [fixGo]
    split
    · exact fixGo_ok hN h
    · rename_i h3
      have h3 : (numsAt nums (idOf x)).length = 3 := Decidable.not_not.1 h3
      have hm : mostF (nums.getD (idOf x).toNat []) = (finN nums (idOf x), 0, ()) := by
        rw [mostF, if_neg (by show ¬ (numsAt nums (idOf x)).length = 0; omega)]
      rw [hm]
      rw [if_neg (fun g => g rfl)]
      rcases fixInv_step hN h (p := (whoOf x).toNat) (by omega) i0 i8 h3 with e | ⟨e, h', _⟩
      · have e9 : fixF (all.getD (whoOf x).toNat noS) (idOf x) (finN nums (idOf x), 0, ()).1 = (noS, [], 6, ()) := e
        rw [e9]
        rw [if_neg (fun g => g.2 rfl), if_neg (by decide)]
        exact fixGo_ok hN h
      · have e9 : (fixF (all.getD (whoOf x).toNat noS) (idOf x) (finN nums (idOf x), 0, ()).1).2.2.1 = 0 := e
        rw [if_neg (fun g => g.1 e9), if_pos e9]
        exact fixGo_ok hN h'
/-- numbers of different messages differ -/
theorem fin_inj {nums : List (List NumD)} (hN : NumOk nums) {i j : Int} (hi : (0 ≤ i ∧ i < 8) ∧ (numsAt nums i).length = 3) (hj : (0 ≤ j ∧ j < 8) ∧ (numsAt nums j).length = 3) (e : finN nums i = finN nums j) : i = j :=
  hN.inj i j hi.1.1 hi.1.2 hj.1.1 hj.1.2 (finN nums i) (maxL_in (by omega)).1 (by rw [e]; exact (maxL_in (by omega)).1)
/-- two runs of the same order that are closed below have a common beginning -/
theorem runs_same {F : Int → NumD} : ∀ {l m : List Int}, (∀ i ∈ l, ∀ j ∈ m, F i = F j → i = j) → l.Pairwise (fun i j => ncmp (F i) (F j) < 0) → m.Pairwise (fun i j => ncmp (F i) (F j) < 0) →
    (∀ i ∈ l, ∀ j ∈ m, ncmp (F j) (F i) < 0 → j ∈ l) → (∀ j ∈ m, ∀ i ∈ l, ncmp (F i) (F j) < 0 → i ∈ m) → ∀ n, n ≤ l.length → n ≤ m.length → l.take n = m.take n
  | [], m, _, _, _, _, _, n, h, _ => by
    obtain rfl : n = 0 := (by simpa using h)
    rfl
  | x :: l, [], _, _, _, _, _, n, _, h => by
    obtain rfl : n = 0 := (by simpa using h)
    rfl
  | x :: l, y :: m, hi, hl, hm, h1, h2, n, k1, k2 => by
    cases n with
    | zero => rfl
    | succ n =>
      obtain ⟨a1, a2⟩ := List.pairwise_cons.1 hl
      obtain ⟨b1, b2⟩ := List.pairwise_cons.1 hm
      have hxy : x = y := by
        by_cases c1 : ncmp (F x) (F y) < 0
        · exfalso
          have := h2 y (by simp) x (by simp) c1
          rcases List.mem_cons.1 this with e | e
          · subst e; exact ncmp_self c1
          · have := b1 x e
            exact ncmp_self (ncmp_trans c1 this)
        · by_cases c2 : ncmp (F y) (F x) < 0
          · exfalso
            have := h1 x (by simp) y (by simp) c2
            rcases List.mem_cons.1 this with e | e
            · subst e; exact ncmp_self c2
            · have := a1 y e
              exact ncmp_self (ncmp_trans c2 this)
          · exact hi x (by simp) y (by simp) (wcmp_eq c1 c2)
      subst hxy
      rw [List.take_succ_cons, List.take_succ_cons]
      congr 1
      refine runs_same (fun i hi' j hj => hi i (by simp [hi']) j (by simp [hj])) a2 b2 (fun i hi' j hj hlt => ?_) (fun j hj i hi' hlt => ?_) n (by simpa using k1) (by simpa using k2)
      · rcases List.mem_cons.1 (h1 i (by simp [hi']) j (by simp [hj]) hlt) with e | e
        · subst e; exact absurd (b1 j hj) ncmp_self
        · exact e
      · rcases List.mem_cons.1 (h2 j (by simp [hj]) i (by simp [hi']) hlt) with e | e
        · subst e; exact absurd (a1 i hi') ncmp_self
        · exact e
theorem told_same {nums : List (List NumD)} (hN : NumOk nums) {all : List SkD} {told : List (List Int)} (h : FixInv nums all told) {p q : Nat} (hp : p < 3) (hq : q < 3) {n : Nat} (h1 : n ≤ (told.getD p []).length) (h2 : n ≤ (told.getD q []).length) : (told.getD p []).take n = (told.getD q []).take n := by
  have key : ∀ p q, p < 3 → q < 3 → ∀ i ∈ told.getD p [], ∀ j ∈ told.getD q [], ncmp (finN nums j) (finN nums i) < 0 → j ∈ told.getD p [] := by
    intro p q hp hq i hi j hj hlt
    obtain ⟨i1, i2, i3⟩ := h.told_ p hp i hi
    obtain ⟨j1, j2, _⟩ := h.told_ q hq j hj
    rcases h.all_ p hp j j1.1 j1.2 j2 with g | ⟨w, hw, e⟩
    · exact g
    · exfalso
      obtain ⟨g1, g2⟩ := i3 w hw
      obtain ⟨e1, e2⟩ := h.ent p hp w hw
      have hn := ent_num e2
      rw [e] at hn
      have := (maxL_in (l := numsAt nums j) (by omega)).2 _ hn
      have hle : ¬ ncmp (finN nums j) w.2.1 < 0 := this
      exact hle (ncmp_trans hlt g2)
  exact runs_same (F := finN nums) (fun i hi j hj e => fin_inj hN ⟨(h.told_ p hp i hi).1, (h.told_ p hp i hi).2.1⟩ ⟨(h.told_ q hq j hj).1, (h.told_ q hq j hj).2.1⟩ e) (h.inc p hp) (h.inc q hq) (fun i hi j hj hlt => key p q hp hq i hi j hj hlt) (fun j hj i hi hlt => key q p hq hp j hj i hi hlt) n h1 h2
/-- the state behind the offers is one to fix in -/
theorem off_inv (l : List TalkD) : OffInv (offAll l) := by
  have : ∀ (l : List TalkD) (st : AgD), OffInv st → OffInv (l.foldl offStep st) := by
    intro l
    induction l with
    | nil => exact fun st h => h
    | cons x l ih => exact fun st h => ih _ (offInv_step h x)
  exact this l agr0 offInv0
theorem off_nums {st : AgD} (h : OffInv st) : NumOk st.2.1 := by
  have conv : ∀ i : Int, 0 ≤ i → i < 8 → ∀ n ∈ numsAt st.2.1 i, ∃ k : Nat, k < 3 ∧ n.2.1 = (k : Int) ∧ (i, n, false, ()) ∈ (st.1.getD k noS).2.2.1 := by
    intro i i0 i8 n hn
    obtain ⟨k, h1, h2, h3⟩ := h.num i.toNat (by omega) n hn
    rw [Int.toNat_of_nonneg i0] at h3
    exact ⟨k, h1, h2, h3⟩
  refine ⟨fun i i0 i8 n hn => ?_, fun i j i0 i8 j0 j8 n hi hj => ?_⟩
  · obtain ⟨k, h1, h2, h3⟩ := conv i i0 i8 n hn
    obtain ⟨g1, g2⟩ := h.ok k h1
    obtain ⟨w1, w2, _⟩ := g1.num _ h3
    have := g1.clk.2
    have w1 : 1 ≤ n.1 ∧ n.1 ≤ (st.1.getD k noS).2.1 := w1
    exact ⟨⟨w1.1, by omega⟩, w2⟩
  · obtain ⟨k, h1, h2, h3⟩ := conv i i0 i8 n hi
    obtain ⟨k', g1, g2, g3⟩ := conv j j0 j8 n hj
    obtain rfl : k = k' := by omega
    have hpw := (h.ok k h1).1.inc
    rw [List.pairwise_iff_getElem] at hpw
    obtain ⟨a, ha, ea⟩ := List.getElem_of_mem h3
    obtain ⟨b, hb, eb⟩ := List.getElem_of_mem g3
    rcases Nat.lt_trichotomy a b with g | g | g
    · have := hpw a b ha hb g
      rw [ea, eb] at this
      exact absurd this ncmp_self
    · subst g
      rw [ea] at eb
      exact congrArg (·.1) eb
    · have := hpw b a hb ha g
      rw [ea, eb] at this
      exact absurd this ncmp_self
theorem fix_inv0 {st : AgD} (h : OffInv st) : FixInv st.2.1 st.1 [[], [], []] := by
  have ht : ∀ p, p < 3 → ([[], [], []] : List (List Int)).getD p [] = [] := by
    intro p hp
    match p, hp with
    | 0, _ => rfl
    | 1, _ => rfl
    | 2, _ => rfl
  refine ⟨h.l3, rfl, fun p hp => (h.ok p hp).1, fun p hp w hw => ?_, fun p hp i hi => ?_, fun p hp => ?_, fun p hp i i0 i8 hc => ?_, fun p hp => ?_⟩
  · obtain ⟨h1, h2, h3⟩ := h.open_ p hp w hw
    exact ⟨h2, fun _ => h3, fun g => by rw [h1] at g; cases g⟩
  · rw [ht p hp] at hi; cases hi
  · rw [ht p hp]; exact List.Pairwise.nil
  · right
    -- three numbers by three processes: one of them is p's
    have hby := h.by_ i.toNat (by omega)
    have hlen : (st.2.1.getD i.toNat []).length = 3 := hc
    have hp' : (p : Int) ∈ (st.2.1.getD i.toNat []).map (·.2.1) := by
      refine Decidable.by_contra (fun hn => ?_)
      have hnd : ((p : Int) :: (st.2.1.getD i.toNat []).map (·.2.1)).Nodup := List.nodup_cons.2 ⟨hn, List.pairwise_map.2 hby⟩
      have := nodup_subI hnd (S := [0, 1, 2]) (fun y hy => by
        rcases List.mem_cons.1 hy with rfl | hy
        · simp; omega
        · obtain ⟨a, ha, rfl⟩ := List.mem_map.1 hy
          obtain ⟨k, k1, k2, _⟩ := h.num i.toNat (by omega) a ha
          rw [k2]; simp; omega)
      simp only [List.length_cons, List.length_map, List.length_nil] at this
      omega
    obtain ⟨n, hn, e⟩ := List.mem_map.1 hp'
    obtain ⟨k, k1, k2, k3⟩ := h.num i.toNat (by omega) n hn
    have : k = p := by have e : n.2.1 = (p : Int) := e; omega
    subst this
    exact ⟨_, k3, Int.toNat_of_nonneg i0⟩
  · rw [ht p hp]
    have := (h.ok p hp).1.len
    simp only [List.length_nil]
    omega
end Go.Proofs.Ytdhdpklmipkneaa
