/- All that have all their numbers are told everywhere (plain). No condition but those named. -/
import Derived.Test.YtdhdpklmipkneaaSkX
namespace Go.Proofs.Ytdhdpklmipkneaa
open Go.Ex Go.Sort
set_option maxRecDepth 100000
/-- an offer that is not refused has its number behind it -/
theorem offStep_has {st : AgD} (h : OffInv st) (x : TalkD) : ((offStep st x).2.1.getD (idOf x).toNat []).any (byIs (whoOf x)) = true := by
  obtain ⟨p0, p3⟩ := who_in x
  obtain ⟨i0, i8⟩ := id_in x
  have l8 := h.l8
  have l3 := h.l3
  unfold offStep
  split
  · rename_i hc
    rw [show ((st.1.set (whoOf x).toNat (offerF (st.1.getD (whoOf x).toNat noS) (idOf x)).1, st.2.1.set (idOf x).toNat (st.2.1.getD (idOf x).toNat [] ++ [(offerF (st.1.getD (whoOf x).toNat noS) (idOf x)).2.1]),
      if (st.2.1.getD (idOf x).toNat []).length = 2 then st.2.2 ++ [idOf x] else st.2.2) : AgD).2.1 = st.2.1.set (idOf x).toNat (st.2.1.getD (idOf x).toNat [] ++ [(offerF (st.1.getD (whoOf x).toNat noS) (idOf x)).2.1]) from rfl]
    rw [getD_set_eq (by omega), List.any_append]
    obtain ⟨hok, hme⟩ := h.ok (whoOf x).toNat (by omega)
    generalize st.1.getD (whoOf x).toNat noS = s at hc hok hme ⊢
    obtain ⟨me, clk, ws, ⟨⟩⟩ := s
    rcases offer_facts me clk ws (idOf x) with ⟨_, _, _, e, _⟩ | ⟨e, e0, e1⟩
    · rw [e]
      have hme : me = ((whoOf x).toNat : Int) := hme
      simp [byIs, hme]; omega
    · rw [e1] at hc; exact absurd hc.1 e0
  · rename_i hc
    cases ha : (st.2.1.getD (idOf x).toNat []).any (byIs (whoOf x)) with
    | true => rfl
    | false =>
      exfalso
      refine hc ⟨?_, ha⟩
      obtain ⟨hok, hme⟩ := h.ok (whoOf x).toNat (by omega)
      have hck := h.clk (whoOf x).toNat (by omega)
      have hop := h.open_ (whoOf x).toNat (by omega)
      generalize st.1.getD (whoOf x).toNat noS = s at hok hme hck hop ⊢
      obtain ⟨me, clk, ws, ⟨⟩⟩ := s
      have hck : clk = (ws.length : Int) := hck
      have hme : me = ((whoOf x).toNat : Int) := hme
      have hop : ∀ w ∈ ws, w.2.2.1 = false ∧ (0 ≤ w.1 ∧ w.1 < 8) ∧ w.2.1 ∈ st.2.1.getD w.1.toNat [] := hop
      have h8 : ws.length ≤ 8 := by
        have := nodup_subI (l := ws.map (·.1)) (S := [0, 1, 2, 3, 4, 5, 6, 7]) (List.pairwise_map.2 hok.ids) (fun y hy => by
          obtain ⟨w, hw, rfl⟩ := List.mem_map.1 hy
          have := (hop w hw).2.1
          simp; omega)
        simpa using this
      have hth : ws.any (sameId (idOf x)) = false := by
        rw [List.any_eq_false]
        intro w hw hs
        rw [sameId, decide_eq_true_eq] at hs
        obtain ⟨g1, g2, g3⟩ := hop w hw
        have hb := (hok.num w hw).2.2.2 g1
        have hb : w.2.1.2.1 = me := hb
        rw [List.any_eq_false] at ha
        rw [hs] at g3
        refine ha _ g3 ?_
        rw [byIs, decide_eq_true_eq, hb, hme]; omega
      rw [offerF_at, if_neg (fun g => g (checkE_ok.2 hok)), if_neg (by omega), if_neg (by rw [hth]; simp), if_neg (by omega), if_neg (by omega)]
theorem offStep_keep {st : AgD} (x : TalkD) {i p : Int} (h : (st.2.1.getD i.toNat []).any (byIs p) = true) : ((offStep st x).2.1.getD i.toNat []).any (byIs p) = true := by
  unfold offStep
  split
  · show (List.any ((st.2.1.set (idOf x).toNat (st.2.1.getD (idOf x).toNat [] ++ [(offerF (st.1.getD (whoOf x).toNat noS) (idOf x)).2.1])).getD i.toNat []) (byIs p)) = true
    by_cases e : i.toNat = (idOf x).toNat
    · rw [e] at h ⊢
      by_cases hl : (idOf x).toNat < st.2.1.length
      · rw [getD_set_eq hl, List.any_append, h]; rfl
      · rw [List.getD_eq_getElem?_getD, List.getElem?_eq_none (by omega)] at h; cases h
    · rw [getD_set_other e]; exact h
  · exact h
theorem offs_has : ∀ (l : List TalkD) {st : AgD}, OffInv st → OffInv (l.foldl offStep st) ∧ (∀ i p : Int, (st.2.1.getD i.toNat []).any (byIs p) = true → ((l.foldl offStep st).2.1.getD i.toNat []).any (byIs p) = true) ∧
    ∀ x ∈ l, ((l.foldl offStep st).2.1.getD (idOf x).toNat []).any (byIs (whoOf x)) = true
  | [], _, h => ⟨h, fun _ _ h => h, fun x hx => absurd hx (by simp)⟩
  | y :: l, st, h => by
    obtain ⟨h1, h2, h3⟩ := offs_has l (offInv_step h y)
    refine ⟨h1, fun i p hp => h2 i p (offStep_keep y hp), fun x hx => ?_⟩
    rcases List.mem_cons.1 hx with rfl | hx
    · exact h2 _ _ (offStep_has h x)
    · exact h3 x hx
abbrev all8 : List TalkD := (List.range 8).flatMap three
theorem all8_mem {i p : Nat} (hi : i < 8) (hp : p < 3) : ((i : Int), (p : Int), ()) ∈ all8 := by
  refine List.mem_flatMap.2 ⟨i, by simpa using hi, ?_⟩
  match p, hp with
  | 0, _ => simp [three]
  | 1, _ => simp [three]
  | 2, _ => simp [three]
theorem id_lit {i p : Nat} (hi : i < 8) : idOf ((i : Int), (p : Int), ()) = (i : Int) := rest_id (a := (i : Int)) (n := 8) (by omega) (by omega)
theorem who_lit {i p : Nat} (hp : p < 3) : whoOf ((i : Int), (p : Int), ()) = (p : Int) := rest_id (a := (p : Int)) (n := 3) (by omega) (by omega)
theorem full_nums {os : List TalkD} (hos : ∀ x ∈ all8, x ∈ os) : (∀ i : Int, 0 ≤ i → i < 8 → (numsAt (offAll os).2.1 i).length = 3) ∧ (offAll os).2.2.length = 8 := by
  obtain ⟨h1, _, h3⟩ := offs_has os offInv0
  have h1 : OffInv (offAll os) := h1
  have hlen : ∀ i : Int, 0 ≤ i → i < 8 → (numsAt (offAll os).2.1 i).length = 3 := by
    intro i i0 i8
    obtain ⟨i, rfl⟩ := Int.eq_ofNat_of_zero_le i0
    have hi : i < 8 := by omega
    have hle := nums_few h1 hi
    have hge : 3 ≤ ((offAll os).2.1.getD i []).length := by
      have hin : ∀ p : Nat, p < 3 → (p : Int) ∈ ((offAll os).2.1.getD i []).map (·.2.1) := by
        intro p hp
        have := h3 _ (hos _ (all8_mem (i := i) (p := p) hi hp))
        rw [id_lit hi, who_lit hp, Int.toNat_natCast] at this
        obtain ⟨n, hn, hb⟩ := List.any_eq_true.1 this
        rw [byIs, decide_eq_true_eq] at hb
        exact List.mem_map.2 ⟨n, hn, hb⟩
      have := nodup_subI (l := [0, 1, 2]) (S := ((offAll os).2.1.getD i []).map (·.2.1)) (by decide) (fun y hy => by
        have : y = 0 ∨ y = 1 ∨ y = 2 := by simpa using hy
        rcases this with rfl | rfl | rfl
        · exact hin 0 (by omega)
        · exact hin 1 (by omega)
        · exact hin 2 (by omega))
      simpa using this
    show ((offAll os).2.1.getD (i : Int).toNat []).length = 3
    rw [Int.toNat_natCast]; omega
  refine ⟨hlen, ?_⟩
  have hle := ids_few h1
  have := nodup_subI (l := [0, 1, 2, 3, 4, 5, 6, 7]) (S := (offAll os).2.2) (by decide) (fun y hy => by
    have hy : 0 ≤ y ∧ y < 8 := by simp at hy; omega
    exact (h1.ids.2 y).2 ⟨hy, hlen y hy.1 hy.2⟩)
  simp only [List.length_cons, List.length_nil] at this
  omega
/-- is a message fixed at a process, or told? -/
def DoneAt (all : List SkD) (told : List (List Int)) (i : Int) (p : Nat) : Prop := i ∈ told.getD p [] ∨ ∃ w ∈ (all.getD p noS).2.2.1, w.1 = i ∧ w.2.2.1 = true
theorem fix_six {nums : List (List NumD)} (hN : NumOk nums) {s : SkD} (hok : SkOk s) (hent : ∀ w ∈ s.2.2.1, (0 ≤ w.1 ∧ w.1 < 8) ∧ (w.2.2.1 = false → w.2.1 ∈ numsAt nums w.1) ∧ (w.2.2.1 = true → (numsAt nums w.1).length = 3 ∧ w.2.1 = finN nums w.1))
    {i : Int} (i0 : 0 ≤ i) (i8 : i < 8) (hc : (numsAt nums i).length = 3) (h6 : fixF s i (finN nums i) = (noS, [], 6, ())) : ∀ w ∈ s.2.2.1, w.1 = i → w.2.2.1 = true := by
  obtain ⟨me, clk, ws, ⟨⟩⟩ := s
  intro w hw hi
  cases hf : w.2.2.1 with
  | true => rfl
  | false =>
    exfalso
    obtain ⟨m1, m2⟩ := maxL_in (l := numsAt nums i) (by omega)
    obtain ⟨r1, r2⟩ := hN.rng i i0 i8 _ m1
    have h3 : ¬ idxOf (openId i) ws < 0 := by
      have : decide (0 ≤ idxOf (openId i) ws) = true := by
        rw [idx_any]
        exact List.any_eq_true.2 ⟨w, hw, by rw [openId, hi, hf]; simp⟩
      have := of_decide_eq_true this
      omega
    rcases fix_total hN hok hent i0 i8 hc with e | ⟨_, _, _, e⟩
    · rw [fixF_at, if_neg (fun h => h (checkE_ok.2 hok)), if_neg (fun h => inF_not.1 h r1), if_neg (fun h => inF_not.1 h r2), if_neg h3] at e
      split at e
      · exact absurd (show (10 : Int) = 6 from congrArg (fun z : SkD × List Int × Int × Unit => z.2.2.1) e) (by decide)
      · split at e
        · exact absurd (show (10 : Int) = 6 from congrArg (fun z : SkD × List Int × Int × Unit => z.2.2.1) e) (by decide)
        · exact absurd (show (0 : Int) = 6 from congrArg (fun z : SkD × List Int × Int × Unit => z.2.2.1) e) (by decide)
    · rw [e] at h6
      exact absurd (show (0 : Int) = 6 from congrArg (fun z : SkD × List Int × Int × Unit => z.2.2.1) h6) (by decide)
theorem fixGo_all {nums : List (List NumD)} {ids : List Int} (hN : NumOk nums) (hF : ∀ i : Int, 0 ≤ i → i < 8 → (numsAt nums i).length = 3) : ∀ {l : List TalkD} {all : List SkD} {told : List (List Int)}, FixInv nums all told →
    ∃ told' all', fixGo nums ids l all told = (told', ids, true, ()) ∧ FixInv nums all' told' ∧ (∀ (i : Int) (p : Nat), p < 3 → DoneAt all told i p → DoneAt all' told' i p) ∧ ∀ x ∈ l, DoneAt all' told' (idOf x) (whoOf x).toNat
  | [], all, told, h => ⟨told, all, rfl, h, fun _ _ _ h => h, fun x hx => absurd hx (by simp)⟩
  | x :: l, all, told, h => by
    obtain ⟨p0, p3⟩ := who_in x
    obtain ⟨i0, i8⟩ := id_in x
    have h3 : (numsAt nums (idOf x)).length = 3 := hF _ i0 i8
    have hm : mostF (nums.getD (idOf x).toNat []) = (finN nums (idOf x), 0, ()) := by
      rw [mostF, if_neg (by show ¬ (numsAt nums (idOf x)).length = 0; omega)]
    have l3 := h.l3
    have t3 := h.t3
    rw [fixGo, if_neg (fun g => g h3), hm, if_neg (fun g => g rfl)]
    rcases fixInv_step hN h (p := (whoOf x).toNat) (by omega) i0 i8 h3 with e | ⟨e, h', k1, k2⟩
    · have e9 : fixF (all.getD (whoOf x).toNat noS) (idOf x) (finN nums (idOf x), 0, ()).1 = (noS, [], 6, ()) := e
      rw [e9]
      rw [if_neg (fun g => g.2 rfl), if_neg (by decide)]
      obtain ⟨told', all', g1, g2, g3, g4⟩ := fixGo_all (ids := ids) hN hF (l := l) h
      refine ⟨told', all', g1, g2, g3, fun y hy => ?_⟩
      rcases List.mem_cons.1 hy with rfl | hy
      · refine g3 _ _ (by omega) ?_
        rcases h.all_ (whoOf y).toNat (by omega) (idOf y) i0 i8 h3 with g | ⟨w, hw, hi⟩
        · exact .inl g
        · exact .inr ⟨w, hw, hi, fix_six hN (h.ok _ (by omega)) (h.ent _ (by omega)) i0 i8 h3 e w hw hi⟩
      · exact g4 y hy
    · have e9 : (fixF (all.getD (whoOf x).toNat noS) (idOf x) (finN nums (idOf x), 0, ()).1).2.2.1 = 0 := e
      rw [if_neg (fun g => g.1 e9), if_pos e9]
      obtain ⟨told', all', g1, g2, g3, g4⟩ := fixGo_all (ids := ids) hN hF (l := l) h'
      have hsE : ∀ k v, (all.set (whoOf x).toNat v).getD k noS = if k = (whoOf x).toNat then v else all.getD k noS := by
        intro k v
        split
        · rename_i e; subst e; exact getD_set_eq (by omega)
        · rename_i e; exact getD_set_other e
      have htE : ∀ k v, (told.set (whoOf x).toNat v).getD k [] = if k = (whoOf x).toNat then v else told.getD k [] := by
        intro k v
        split
        · rename_i e; subst e; exact getD_set_eq (by omega)
        · rename_i e; exact getD_set_other e
      have keep : ∀ (i : Int) (p : Nat), p < 3 → DoneAt all told i p → DoneAt (all.set (whoOf x).toNat (fixF (all.getD (whoOf x).toNat noS) (idOf x) (finN nums (idOf x))).1) (told.set (whoOf x).toNat (told.getD (whoOf x).toNat [] ++ (fixF (all.getD (whoOf x).toNat noS) (idOf x) (finN nums (idOf x))).2.1)) i p := by
        intro i p hp hd
        by_cases ep : p = (whoOf x).toNat
        · unfold DoneAt
          rw [hsE, htE, if_pos ep, if_pos ep]
          rcases hd with hd | ⟨w, hw, hi, hf⟩
          · exact .inl (List.mem_append_left _ (ep ▸ hd))
          · have hin := h.ent p hp w hw
            rw [hi] at hin
            have hall := h'.all_ p hp i hin.1.1 hin.1.2 (hF i hin.1.1 hin.1.2)
            rw [hsE, htE, if_pos ep, if_pos ep] at hall
            rcases hall with g | ⟨v, hv, hvi⟩
            · exact .inl g
            · refine .inr ⟨v, hv, hvi, ?_⟩
              rcases k2 v hv with g | g
              · exact k1 v hv g
              · -- the same one as before
                rw [← ep] at g
                have hids := (h.ok p hp).ids
                have hwv : v = w := by
                  obtain ⟨a, ha, rfl⟩ := List.getElem_of_mem g
                  obtain ⟨b, hb, rfl⟩ := List.getElem_of_mem hw
                  rw [List.pairwise_iff_getElem] at hids
                  rcases Nat.lt_trichotomy a b with c | c | c
                  · exact absurd (hvi.trans hi.symm) (hids a b ha hb c)
                  · subst c; rfl
                  · exact absurd (hi.trans hvi.symm) (hids b a hb ha c)
                rw [hwv]; exact hf
        · unfold DoneAt
          rw [hsE, htE, if_neg ep, if_neg ep]
          exact hd
      refine ⟨told', all', g1, g2, fun i p hp hd => g3 i p hp (keep i p hp hd), fun y hy => ?_⟩
      rcases List.mem_cons.1 hy with rfl | hy
      · refine g3 _ _ (by omega) ?_
        rcases h'.all_ (whoOf y).toNat (by omega) (idOf y) i0 i8 h3 with g | ⟨w, hw, hi⟩
        · exact .inl g
        · refine .inr ⟨w, hw, hi, k1 w ?_ hi⟩
          rw [hsE, if_pos rfl] at hw
          exact hw
      · exact g4 y hy
/-- whose told list holds all eight, rising by their numbers, has them just once -/
theorem told_eight {nums : List (List NumD)} {all : List SkD} {told : List (List Int)} (h : FixInv nums all told) (hF : ∀ i : Int, 0 ≤ i → i < 8 → (numsAt nums i).length = 3) {p : Nat} (hp : p < 3) (hd : ∀ i : Int, 0 ≤ i → i < 8 → DoneAt all told i p) :
    (told.getD p []).Perm [0, 1, 2, 3, 4, 5, 6, 7] := by
  have hnil : (all.getD p noS).2.2.1 = [] := by
    have hok := h.ok p hp
    have hent := h.ent p hp
    have ht := h.told_ p hp
    cases hw : (all.getD p noS).2.2.1 with
    | nil => rfl
    | cons w ws =>
      exfalso
      have hwm : w ∈ (all.getD p noS).2.2.1 := by rw [hw]; simp
      have hin := (hent w hwm).1
      have hh : w.2.2.1 = false := by have := hok.hd; rw [hw] at this; exact this
      rcases hd w.1 hin.1 hin.2 with g | ⟨v, hv, hvi, hvf⟩
      · exact ((ht w.1 g).2.2 w hwm).1 rfl
      · have hids := hok.ids
        have : v = w := by
          obtain ⟨a, ha, rfl⟩ := List.getElem_of_mem hv
          obtain ⟨b, hb, rfl⟩ := List.getElem_of_mem hwm
          rw [List.pairwise_iff_getElem] at hids
          rcases Nat.lt_trichotomy a b with c | c | c
          · exact absurd hvi (hids a b ha hb c)
          · subst c; rfl
          · exact absurd hvi.symm (hids b a hb ha c)
        rw [this, hh] at hvf
        cases hvf
  have hmem : ∀ i, i ∈ told.getD p [] ↔ i ∈ ([0, 1, 2, 3, 4, 5, 6, 7] : List Int) := by
    intro i
    constructor
    · intro hi
      have := (h.told_ p hp i hi).1
      simp; omega
    · intro hi
      have hi : 0 ≤ i ∧ i < 8 := by simp at hi; omega
      rcases hd i hi.1 hi.2 with g | ⟨v, hv, _⟩
      · exact g
      · rw [hnil] at hv; cases hv
  have hnd : (told.getD p []).Nodup := (h.inc p hp).imp (fun {a b} hab e => by subst e; exact ncmp_self hab)
  exact (List.perm_ext_iff_of_nodup hnd (by decide)).2 hmem
theorem skeen_all {os fs : List TalkD} (hos : ∀ x ∈ all8, x ∈ os) (hfs : ∀ x ∈ all8, x ∈ fs) : ∃ told ids, agreedF os fs = (told, ids, true, ()) ∧ ids.length = 8 ∧ told.length = 3 ∧ ∀ p, p < 3 → (told.getD p []).Perm [0, 1, 2, 3, 4, 5, 6, 7] := by
  obtain ⟨hF, hids⟩ := full_nums hos
  have hinv := off_inv os
  obtain ⟨told, all, e, h, _, hd⟩ := fixGo_all (ids := (offAll os).2.2) (off_nums hinv) hF (l := fs) (fix_inv0 hinv)
  refine ⟨told, (offAll os).2.2, e, hids, h.t3, fun p hp => told_eight h hF hp (fun i i0 i8 => ?_)⟩
  obtain ⟨i, rfl⟩ := Int.eq_ofNat_of_zero_le i0
  have hi : i < 8 := by omega
  have := hd _ (hfs _ (all8_mem (i := i) (p := p) hi hp))
  rw [id_lit hi, who_lit hp, Int.toNat_natCast] at this
  exact this
end Go.Proofs.Ytdhdpklmipkneaa
