/- What three processes agree on (plain): offers, fixings. No condition but those named. -/
import Derived.Test.YtdhdpklmipkneaaSkC
namespace Go.Proofs.Ytdhdpklmipkneaa
open Go.Ex Go.Sort
set_option maxRecDepth 100000
abbrev idOf (x : TalkD) : Int := rest x.1 8
abbrev whoOf (x : TalkD) : Int := rest x.2.1 3
abbrev AgD : Type := List SkD × List (List NumD) × List Int
def offStep (st : AgD) (x : TalkD) : AgD :=
  if (offerF (st.1.getD (whoOf x).toNat noS) (idOf x)).2.2.1 = 0 ∧ (st.2.1.getD (idOf x).toNat []).any (byIs (whoOf x)) = false then
    (st.1.set (whoOf x).toNat (offerF (st.1.getD (whoOf x).toNat noS) (idOf x)).1, st.2.1.set (idOf x).toNat (st.2.1.getD (idOf x).toNat [] ++ [(offerF (st.1.getD (whoOf x).toNat noS) (idOf x)).2.1]),
      if (st.2.1.getD (idOf x).toNat []).length = 2 then st.2.2 ++ [idOf x] else st.2.2)
  else st
def agr0 : AgD := ([(0, 0, [], ()), (1, 0, [], ()), (2, 0, [], ())], [[], [], [], [], [], [], [], []], [])
def offAll (l : List TalkD) : AgD := l.foldl offStep agr0
def fixGo (nums : List (List NumD)) (ids : List Int) : List TalkD → List SkD → List (List Int) → List (List Int) × List Int × Bool × Unit
  | [], _, told => (told, ids, true, ())
  | x :: l, all, told =>
    if (nums.getD (idOf x).toNat []).length ≠ 3 then fixGo nums ids l all told
    else if (mostF (nums.getD (idOf x).toNat [])).2.1 ≠ 0 then (told, [], false, ())
    else if (fixF (all.getD (whoOf x).toNat noS) (idOf x) (mostF (nums.getD (idOf x).toNat [])).1).2.2.1 ≠ 0 ∧ (fixF (all.getD (whoOf x).toNat noS) (idOf x) (mostF (nums.getD (idOf x).toNat [])).1).2.2.1 ≠ 6 then (told, [], false, ())
    else if (fixF (all.getD (whoOf x).toNat noS) (idOf x) (mostF (nums.getD (idOf x).toNat [])).1).2.2.1 = 0 then
      fixGo nums ids l (all.set (whoOf x).toNat (fixF (all.getD (whoOf x).toNat noS) (idOf x) (mostF (nums.getD (idOf x).toNat [])).1).1) (told.set (whoOf x).toNat (told.getD (whoOf x).toNat [] ++ (fixF (all.getD (whoOf x).toNat noS) (idOf x) (mostF (nums.getD (idOf x).toNat [])).1).2.1))
    else fixGo nums ids l all told
def agreedF (offers fixes : List TalkD) : List (List Int) × List Int × Bool × Unit := fixGo (offAll offers).2.1 (offAll offers).2.2 fixes (offAll offers).1 [[], [], []]

/-! ### the offers -/
structure OffInv (st : AgD) : Prop where
  l3 : st.1.length = 3
  l8 : st.2.1.length = 8
  ok : ∀ p, p < 3 → SkOk (st.1.getD p noS) ∧ (st.1.getD p noS).1 = (p : Int)
  clk : ∀ p, p < 3 → (st.1.getD p noS).2.1 = ((st.1.getD p noS).2.2.1.length : Int)
  open_ : ∀ p, p < 3 → ∀ w ∈ (st.1.getD p noS).2.2.1, w.2.2.1 = false ∧ (0 ≤ w.1 ∧ w.1 < 8) ∧ w.2.1 ∈ st.2.1.getD w.1.toNat []
  num : ∀ i, i < 8 → ∀ n ∈ st.2.1.getD i [], ∃ p : Nat, p < 3 ∧ n.2.1 = (p : Int) ∧ ((i : Int), n, false, ()) ∈ (st.1.getD p noS).2.2.1
  by_ : ∀ i, i < 8 → (st.2.1.getD i []).Pairwise (fun a b => a.2.1 ≠ b.2.1)
  ids : st.2.2.Nodup ∧ ∀ i, i ∈ st.2.2 ↔ (0 ≤ i ∧ i < 8) ∧ (st.2.1.getD i.toNat []).length = 3
theorem offInv0 : OffInv agr0 := by
  have hall : ∀ p, p < 3 → (agr0.1.getD p noS) = ((p : Int), 0, [], ()) := by
    intro p hp
    match p, hp with
    | 0, _ => rfl
    | 1, _ => rfl
    | 2, _ => rfl
  have hnum : ∀ i, agr0.2.1.getD i [] = [] := by
    intro i
    match i with
    | 0 => rfl
    | 1 => rfl
    | 2 => rfl
    | 3 => rfl
    | 4 => rfl
    | 5 => rfl
    | 6 => rfl
    | 7 => rfl
    | i + 8 => rfl
  refine ⟨rfl, rfl, fun p hp => ?_, fun p hp => ?_, fun p hp w hw => ?_, fun i hi n hn => ?_, fun i hi => ?_, ?_, fun i => ?_⟩
  · rw [hall p hp]
    refine ⟨⟨⟨?_, ?_⟩, ⟨Int.le_refl _, ?_⟩, ?_, fun w hw => absurd hw (by simp), List.Pairwise.nil, List.Pairwise.nil, rfl⟩, rfl⟩
    · show (0 : Int) ≤ (p : Int); omega
    · show (p : Int) ≤ 5; omega
    · show (0 : Int) ≤ 16777215; omega
    · show 0 ≤ 40; omega
  · rw [hall p hp]; rfl
  · rw [hall p hp] at hw; cases hw
  · rw [hnum] at hn; cases hn
  · rw [hnum]; exact List.Pairwise.nil
  · exact List.nodup_nil
  · rw [hnum]
    exact ⟨fun h => absurd h (by simp [agr0]), fun h => absurd h.2 (by simp)⟩
theorem nodup_subI : ∀ {l S : List Int}, l.Nodup → (∀ x ∈ l, x ∈ S) → l.length ≤ S.length
  | [], _, _, _ => Nat.zero_le _
  | x :: l, S, hn, hs => by
    obtain ⟨h1, h2⟩ := List.nodup_cons.1 hn
    have hx : x ∈ S := hs x (by simp)
    have := nodup_subI (S := S.erase x) h2 (fun y hy => (List.mem_erase_of_ne (by rintro rfl; exact h1 hy)).2 (hs y (by simp [hy])))
    rw [List.length_erase_of_mem hx] at this
    have := List.length_pos_of_mem hx
    simp only [List.length_cons]
    omega
theorem getD_set_eq {α : Type} {l : List α} {k : Nat} {v d : α} (h : k < l.length) : (l.set k v).getD k d = v := by
  rw [List.getD_eq_getElem?_getD, List.getElem?_set_self h]; rfl
theorem getD_set_other {α : Type} {l : List α} {k j : Nat} {v d : α} (h : j ≠ k) : (l.set k v).getD j d = l.getD j d := by
  rw [List.getD_eq_getElem?_getD, List.getElem?_set_ne (Ne.symm h), List.getD_eq_getElem?_getD]
theorem offInv_step {st : AgD} (h : OffInv st) (x : TalkD) : OffInv (offStep st x) := by
  obtain ⟨all, nums, ids⟩ := st
  unfold offStep
  show OffInv (if (offerF (all.getD (whoOf x).toNat noS) (idOf x)).2.2.1 = 0 ∧ (nums.getD (idOf x).toNat []).any (byIs (whoOf x)) = false then
    (all.set (whoOf x).toNat (offerF (all.getD (whoOf x).toNat noS) (idOf x)).1, nums.set (idOf x).toNat (nums.getD (idOf x).toNat [] ++ [(offerF (all.getD (whoOf x).toNat noS) (idOf x)).2.1]),
      if (nums.getD (idOf x).toNat []).length = 2 then ids ++ [idOf x] else ids) else (all, nums, ids))
  obtain ⟨p0, p3⟩ := rest_in (a := x.2.1) (n := 3) (by decide)
  obtain ⟨i0, i8⟩ := rest_in (a := x.1) (n := 8) (by decide)
  have p0 : 0 ≤ whoOf x := p0
  have p3 : whoOf x < 3 := p3
  have i0 : 0 ≤ idOf x := i0
  have i8 : idOf x < 8 := i8
  obtain ⟨p, hp⟩ := Int.eq_ofNat_of_zero_le p0
  obtain ⟨i, hi⟩ := Int.eq_ofNat_of_zero_le i0
  have p3 : p < 3 := by omega
  have i8 : i < 8 := by omega
  rw [hp, hi, Int.toNat_natCast, Int.toNat_natCast]
  split
  · rename_i hc
    obtain ⟨c1, c2⟩ := hc
    have hok := h.ok p p3
    have hck := h.clk p p3
    have hop := h.open_ p p3
    have hokA : ∀ k, k < 3 → SkOk (all.getD k noS) ∧ (all.getD k noS).1 = (k : Int) := h.ok
    have hckA : ∀ k, k < 3 → (all.getD k noS).2.1 = ((all.getD k noS).2.2.1.length : Int) := h.clk
    have hopA : ∀ k, k < 3 → ∀ w ∈ (all.getD k noS).2.2.1, w.2.2.1 = false ∧ (0 ≤ w.1 ∧ w.1 < 8) ∧ w.2.1 ∈ nums.getD w.1.toNat [] := h.open_
    have hnumA : ∀ j, j < 8 → ∀ n ∈ nums.getD j [], ∃ k : Nat, k < 3 ∧ n.2.1 = (k : Int) ∧ ((j : Int), n, false, ()) ∈ (all.getD k noS).2.2.1 := h.num
    have hbyA : ∀ j, j < 8 → (nums.getD j []).Pairwise (fun a b => a.2.1 ≠ b.2.1) := h.by_
    have hidsA : ids.Nodup ∧ ∀ j, j ∈ ids ↔ (0 ≤ j ∧ j < 8) ∧ (nums.getD j.toNat []).length = 3 := h.ids
    have l3 : all.length = 3 := h.l3
    have l8 : nums.length = 8 := h.l8
    have hsE : ∀ k v, (all.set p v).getD k noS = if k = p then v else all.getD k noS := by
      intro k v
      split
      · rename_i e; subst e; exact getD_set_eq (by omega)
      · rename_i e; exact getD_set_other e
    have hnE : ∀ k v, (nums.set i v).getD k [] = if k = i then v else nums.getD k [] := by
      intro k v
      split
      · rename_i e; subst e; exact getD_set_eq (by omega)
      · rename_i e; exact getD_set_other e
    have hok : SkOk (all.getD p noS) ∧ (all.getD p noS).1 = (p : Int) := hok
    have hck : (all.getD p noS).2.1 = ((all.getD p noS).2.2.1.length : Int) := hck
    have hop : ∀ w ∈ (all.getD p noS).2.2.1, w.2.2.1 = false ∧ (0 ≤ w.1 ∧ w.1 < 8) ∧ w.2.1 ∈ nums.getD w.1.toNat [] := hop
    have hnp : ∀ j, j < 8 → ∀ n ∈ nums.getD j [], n.2.1 = (p : Int) → ((j : Int), n, false, ()) ∈ (all.getD p noS).2.2.1 := by
      intro j hj n hn hby
      obtain ⟨k, k1, k2, k3⟩ := hnumA j hj n hn
      have : k = p := by omega
      subst this; exact k3
    have hq : ∀ a ∈ nums.getD i [], a.2.1 ≠ (p : Int) := by
      intro a ha e
      rw [List.any_eq_false] at c2
      exact c2 a ha (by rw [byIs, decide_eq_true_eq]; exact e)
    generalize hS : all.getD p noS = S at *
    obtain ⟨me, clk, ws, ⟨⟩⟩ := S
    rcases offer_facts me clk ws (i : Int) with ⟨g1, g2, g3, g4, g5⟩ | ⟨e, g1, g2⟩
    · rw [g4]
      have hme : me = (p : Int) := hok.2
      have hck : clk = (ws.length : Int) := hck
      have hlen2 : (nums.getD i []).length ≤ 2 := by
        have hn : ((p : Int) :: (nums.getD i []).map (·.2.1)).Nodup := by
          refine List.nodup_cons.2 ⟨fun hm => ?_, List.pairwise_map.2 (hbyA i i8)⟩
          obtain ⟨a, ha, e⟩ := List.mem_map.1 hm
          exact hq a ha e
        have := nodup_subI hn (S := [0, 1, 2]) (fun y hy => by
          rcases List.mem_cons.1 hy with rfl | hy
          · simp; omega
          · obtain ⟨a, ha, rfl⟩ := List.mem_map.1 hy
            obtain ⟨k, k1, k2, _⟩ := hnumA i i8 a ha
            rw [k2]; simp; omega)
        simp only [List.length_cons, List.length_map, List.length_nil] at this
        omega
      refine ⟨by show (all.set p _).length = 3; rw [List.length_set]; exact l3, by show (nums.set i _).length = 8; rw [List.length_set]; exact l8, fun k hk => ?_, fun k hk => ?_, fun k hk w hw => ?_, fun j hj n hn => ?_, fun j hj => ?_, ?_⟩
      · show SkOk ((all.set p _).getD k noS) ∧ ((all.set p _).getD k noS).1 = (k : Int)
        rw [hsE]
        split
        · rename_i e; subst e; exact ⟨g5, hme⟩
        · exact hokA k hk
      · show ((all.set p _).getD k noS).2.1 = (((all.set p _).getD k noS).2.2.1.length : Int)
        rw [hsE]
        split
        · show clk + 1 = ((ws ++ [_]).length : Int)
          rw [List.length_append, List.length_singleton]; omega
        · exact hckA k hk
      · have hw : w ∈ ((all.set p _).getD k noS).2.2.1 := hw
        rw [hsE] at hw
        show w.2.2.1 = false ∧ (0 ≤ w.1 ∧ w.1 < 8) ∧ w.2.1 ∈ (nums.set i _).getD w.1.toNat []
        rw [hnE]
        have grow : w.2.2.1 = false ∧ (0 ≤ w.1 ∧ w.1 < 8) ∧ w.2.1 ∈ nums.getD w.1.toNat [] → w.2.2.1 = false ∧ (0 ≤ w.1 ∧ w.1 < 8) ∧ w.2.1 ∈ (if w.1.toNat = i then nums.getD i [] ++ [(clk + 1, me, ())] else nums.getD w.1.toNat []) := by
          rintro ⟨a1, a2, a3⟩
          refine ⟨a1, a2, ?_⟩
          split
          · rename_i e; rw [e] at a3; exact List.mem_append_left _ a3
          · exact a3
        split at hw
        · rcases List.mem_append.1 hw with hw | hw
          · exact grow (hop w hw)
          · rw [List.mem_singleton] at hw
            subst hw
            refine ⟨rfl, ⟨by show (0 : Int) ≤ (i : Int); omega, by show (i : Int) < 8; omega⟩, ?_⟩
            rw [if_pos (show Int.toNat (i : Int) = i from Int.toNat_natCast i)]
            exact List.mem_append_right _ (by simp)
        · exact grow (hopA k hk w hw)
      · have hn : n ∈ (nums.set i _).getD j [] := hn
        rw [hnE] at hn
        have grow : (∃ k : Nat, k < 3 ∧ n.2.1 = (k : Int) ∧ ((j : Int), n, false, ()) ∈ (all.getD k noS).2.2.1) → ∃ k : Nat, k < 3 ∧ n.2.1 = (k : Int) ∧ ((j : Int), n, false, ()) ∈ ((all.set p (me, clk + 1, ws ++ [((i : Int), (clk + 1, me, ()), false, ())], ())).getD k noS).2.2.1 := by
          rintro ⟨k, a1, a2, a3⟩
          refine ⟨k, a1, a2, ?_⟩
          rw [hsE]
          split
          · rename_i e; subst e; rw [hS] at a3; exact List.mem_append_left _ a3
          · exact a3
        split at hn
        · rename_i e
          subst e
          rcases List.mem_append.1 hn with hn | hn
          · exact grow (hnumA j hj n hn)
          · rw [List.mem_singleton] at hn
            subst hn
            refine ⟨p, p3, hme, ?_⟩
            show _ ∈ ((all.set p _).getD p noS).2.2.1
            rw [hsE, if_pos rfl]
            exact List.mem_append_right _ (by simp)
        · exact grow (hnumA j hj n hn)
      · show ((nums.set i _).getD j []).Pairwise _
        rw [hnE]
        split
        · refine List.pairwise_append.2 ⟨hbyA i i8, List.pairwise_singleton .., fun a ha b hb => ?_⟩
          rw [List.mem_singleton] at hb
          subst hb
          show a.2.1 ≠ me
          rw [hme]; exact hq a ha
        · exact hbyA j hj
      · obtain ⟨n1, n2⟩ := hidsA
        have hni : (i : Int) ∉ ids := fun hm => by
          have := ((n2 _).1 hm).2
          rw [Int.toNat_natCast] at this
          omega
        show (if (nums.getD i []).length = 2 then ids ++ [(i : Int)] else ids).Nodup ∧ ∀ j, j ∈ (if (nums.getD i []).length = 2 then ids ++ [(i : Int)] else ids) ↔ (0 ≤ j ∧ j < 8) ∧ ((nums.set i _).getD j.toNat []).length = 3
        split
        · rename_i e2
          refine ⟨List.nodup_append.2 ⟨n1, by simp, fun a ha b hb => ?_⟩, fun j => ?_⟩
          · rw [List.mem_singleton] at hb
            subst hb
            rintro rfl; exact hni ha
          · rw [hnE, List.mem_append, List.mem_singleton, n2]
            split
            · rename_i e
              rw [List.length_append, List.length_singleton]
              constructor
              · rintro (⟨a1, _⟩ | rfl)
                · exact ⟨a1, by omega⟩
                · exact ⟨⟨by omega, by omega⟩, by omega⟩
              · rintro ⟨a1, _⟩
                right; omega
            · rename_i e
              constructor
              · rintro (a1 | rfl)
                · exact a1
                · exact absurd (Int.toNat_natCast i) e
              · exact .inl
        · rename_i e2
          refine ⟨n1, fun j => ?_⟩
          rw [hnE, n2]
          split
          · rename_i e
            rw [e, List.length_append, List.length_singleton]
            constructor
            · rintro ⟨_, a2⟩; omega
            · rintro ⟨_, a2⟩; omega
          · exact Iff.rfl
    · rw [g2] at c1
      exact absurd c1 g1
  · exact h
end Go.Proofs.Ytdhdpklmipkneaa
