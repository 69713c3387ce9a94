/- What three processes agree on (plain): fixings. No condition but those named. -/
import Derived.Test.YtdhdpklmipkneaaSkQ
namespace Go.Proofs.Ytdhdpklmipkneaa
open Go.Ex Go.Sort
set_option maxRecDepth 100000
theorem maxS_le {m x : NumD} : ¬ ncmp (maxS m x) m < 0 ∧ ¬ ncmp (maxS m x) x < 0 := by
  unfold maxS
  have h1 := @ncmp_lt x m
  have h2 := @ncmp_lt m x
  have h3 := @ncmp_le x m
  have h4 := @ncmp_self m
  have h5 := @ncmp_self x
  split <;> constructor <;> first | assumption | (rename_i h; omega)
theorem ncmp_ntrans {a b c : NumD} (h1 : ¬ ncmp a b < 0) (h2 : ¬ ncmp b c < 0) : ¬ ncmp a c < 0 := by rw [ncmp_lt] at *; omega
theorem foldl_max : ∀ {l : List NumD} {m : NumD}, ¬ ncmp (l.foldl maxS m) m < 0 ∧ (∀ x ∈ l, ¬ ncmp (l.foldl maxS m) x < 0) ∧ (l.foldl maxS m = m ∨ l.foldl maxS m ∈ l)
  | [], m => ⟨ncmp_self, fun x hx => absurd hx (by simp), .inl rfl⟩
  | y :: l, m => by
    obtain ⟨h1, h2, h3⟩ := foldl_max (l := l) (m := maxS m y)
    obtain ⟨g1, g2⟩ := @maxS_le m y
    refine ⟨ncmp_ntrans h1 g1, fun x hx => ?_, ?_⟩
    · rcases List.mem_cons.1 hx with rfl | hx
      · exact ncmp_ntrans h1 g2
      · exact h2 x hx
    · show (l.foldl maxS (maxS m y)) = m ∨ (l.foldl maxS (maxS m y)) ∈ y :: l
      rcases h3 with h3 | h3
      · rw [h3]
        unfold maxS
        split
        · exact .inr (by simp)
        · exact .inl rfl
      · exact .inr (List.mem_cons_of_mem _ h3)
theorem maxL_in {l : List NumD} (h : l.length ≠ 0) : maxL l ∈ l ∧ ∀ x ∈ l, ¬ ncmp (maxL l) x < 0 := by
  cases l with
  | nil => exact absurd rfl h
  | cons x l =>
    obtain ⟨h1, h2, h3⟩ := foldl_max (l := l) (m := x)
    refine ⟨?_, fun y hy => ?_⟩
    · rcases h3 with h3 | h3
      · show l.foldl maxS x ∈ x :: l; rw [h3]; simp
      · exact List.mem_cons_of_mem _ h3
    · rcases List.mem_cons.1 hy with rfl | hy
      · exact h1
      · exact h2 y hy
abbrev numsAt (nums : List (List NumD)) (i : Int) : List NumD := nums.getD i.toNat []
abbrev finN (nums : List (List NumD)) (i : Int) : NumD := maxL (numsAt nums i)
structure NumOk (nums : List (List NumD)) : Prop where
  rng : ∀ i : Int, 0 ≤ i → i < 8 → ∀ n ∈ numsAt nums i, (1 ≤ n.1 ∧ n.1 ≤ 16777215) ∧ (0 ≤ n.2.1 ∧ n.2.1 ≤ 5)
  inj : ∀ i j : Int, 0 ≤ i → i < 8 → 0 ≤ j → j < 8 → ∀ n, n ∈ numsAt nums i → n ∈ numsAt nums j → i = j
structure FixInv (nums : List (List NumD)) (all : List SkD) (told : List (List Int)) : Prop where
  l3 : all.length = 3
  t3 : told.length = 3
  ok : ∀ p, p < 3 → SkOk (all.getD p noS)
  ent : ∀ p, p < 3 → ∀ w ∈ (all.getD p noS).2.2.1, (0 ≤ w.1 ∧ w.1 < 8) ∧ (w.2.2.1 = false → w.2.1 ∈ numsAt nums w.1) ∧ (w.2.2.1 = true → (numsAt nums w.1).length = 3 ∧ w.2.1 = finN nums w.1)
  told_ : ∀ p, p < 3 → ∀ i ∈ told.getD p [], (0 ≤ i ∧ i < 8) ∧ (numsAt nums i).length = 3 ∧ ∀ w ∈ (all.getD p noS).2.2.1, w.1 ≠ i ∧ ncmp (finN nums i) w.2.1 < 0
  inc : ∀ p, p < 3 → (told.getD p []).Pairwise (fun i j => ncmp (finN nums i) (finN nums j) < 0)
  all_ : ∀ p, p < 3 → ∀ i, 0 ≤ i → i < 8 → (numsAt nums i).length = 3 → i ∈ told.getD p [] ∨ ∃ w ∈ (all.getD p noS).2.2.1, w.1 = i
  len : ∀ p, p < 3 → (told.getD p []).length + (all.getD p noS).2.2.1.length ≤ 40
theorem ent_num {nums : List (List NumD)} {w : WaitD} (h : (w.2.2.1 = false → w.2.1 ∈ numsAt nums w.1) ∧ (w.2.2.1 = true → (numsAt nums w.1).length = 3 ∧ w.2.1 = finN nums w.1)) : w.2.1 ∈ numsAt nums w.1 := by
  cases hf : w.2.2.1 with
  | false => exact h.1 hf
  | true =>
    obtain ⟨h1, h2⟩ := h.2 hf
    rw [h2]; exact (maxL_in (by omega)).1
/-- a fixing of a message with all its numbers succeeds, or there is nothing to be fixed -/
theorem fix_total {nums : List (List NumD)} (hN : NumOk nums) {me clk : Int} {ws : List WaitD} (hok : SkOk (me, clk, ws, ())) (hent : ∀ w ∈ ws, (0 ≤ w.1 ∧ w.1 < 8) ∧ (w.2.2.1 = false → w.2.1 ∈ numsAt nums w.1) ∧ (w.2.2.1 = true → (numsAt nums w.1).length = 3 ∧ w.2.1 = finN nums w.1))
    {i : Int} (i0 : 0 ≤ i) (i8 : i < 8) (hc : (numsAt nums i).length = 3) :
    fixF (me, clk, ws, ()) i (finN nums i) = (noS, [], 6, ()) ∨
    (¬ idxOf (openId i) ws < 0 ∧ ws.any (taken i (finN nums i)) = false ∧ ¬ ncmp (finN nums i) (ws.getD (idxOf (openId i) ws).toNat dW).2.1 < 0 ∧
      fixF (me, clk, ws, ()) i (finN nums i) = ((me, if clk < (finN nums i).1 then (finN nums i).1 else clk, (fixL ws i (finN nums i)).dropWhile fixedW, ()), ((fixL ws i (finN nums i)).takeWhile fixedW).map (·.1), 0, ())) := by
  obtain ⟨m1, m2⟩ := maxL_in (l := numsAt nums i) (by omega)
  obtain ⟨r1, r2⟩ := hN.rng i i0 i8 _ m1
  rw [fixF_at, if_neg (fun h => h (checkE_ok.2 hok)), if_neg (fun h => inF_not.1 h r1), if_neg (fun h => inF_not.1 h r2)]
  split
  · exact .inl rfl
  · rename_i h3
    obtain ⟨k1, k2, k3⟩ := openK h3
    have hw := getD_mem (d := dW) k1
    have h4 : ¬ ncmp (finN nums i) (ws.getD (idxOf (openId i) ws).toNat dW).2.1 < 0 := by
      have := (hent _ hw).2.1 k3
      rw [k2] at this
      exact m2 _ this
    have h5 : ws.any (taken i (finN nums i)) = false := by
      rw [List.any_eq_false]
      intro w hw ht
      rw [taken, Bool.and_eq_true, Bool.not_eq_true', decide_eq_false_iff_not, decide_eq_true_eq] at ht
      obtain ⟨e1, e2⟩ := hent w hw
      have := ent_num e2
      rw [ht.2] at this
      exact ht.1 (hN.inj w.1 i e1.1 e1.2 i0 i8 _ this m1)
    rw [if_neg h4, if_neg (by rw [h5]; simp)]
    exact .inr ⟨h3, h5, h4, rfl⟩
theorem takeW {α : Type} {q : α → Bool} : ∀ {l : List α} {w : α}, w ∈ l.takeWhile q → q w = true
  | [], _, h => absurd h (by simp)
  | x :: l, w, h => by
    rw [List.takeWhile_cons] at h
    split at h
    · rename_i hx
      rcases List.mem_cons.1 h with rfl | h
      · exact hx
      · exact takeW h
    · exact absurd h (by simp)
theorem fixInv_step {nums : List (List NumD)} (hN : NumOk nums) {all : List SkD} {told : List (List Int)} (h : FixInv nums all told) {p : Nat} (p3 : p < 3) {i : Int} (i0 : 0 ≤ i) (i8 : i < 8) (hc : (numsAt nums i).length = 3) :
    fixF (all.getD p noS) i (finN nums i) = (noS, [], 6, ()) ∨
    ((fixF (all.getD p noS) i (finN nums i)).2.2.1 = 0 ∧ FixInv nums (all.set p (fixF (all.getD p noS) i (finN nums i)).1) (told.set p (told.getD p [] ++ (fixF (all.getD p noS) i (finN nums i)).2.1)) ∧
      (∀ w ∈ (fixF (all.getD p noS) i (finN nums i)).1.2.2.1, w.1 = i → w.2.2.1 = true) ∧ ∀ w ∈ (fixF (all.getD p noS) i (finN nums i)).1.2.2.1, w.1 = i ∨ w ∈ (all.getD p noS).2.2.1) := by
  obtain ⟨l3, t3, ok, ent, told_, inc, all_, len⟩ := h
  have hsE : ∀ k v, (all.set p v).getD k noS = if k = p then v else all.getD k noS := by
    intro k v
    split
    · rename_i e; subst e; exact getD_set_eq (by omega)
    · rename_i e; exact getD_set_other e
  have htE : ∀ k v, (told.set p v).getD k [] = if k = p then v else told.getD k [] := by
    intro k v
    split
    · rename_i e; subst e; exact getD_set_eq (by omega)
    · rename_i e; exact getD_set_other e
  have okp := ok p p3
  have entp := ent p p3
  have toldp := told_ p p3
  have incp := inc p p3
  have allp := all_ p p3
  have lenp := len p p3
  generalize hS : all.getD p noS = S at *
  generalize hT : told.getD p [] = T at *
  obtain ⟨me, clk, ws, ⟨⟩⟩ := S
  rcases fix_total hN okp entp i0 i8 hc with e | ⟨c1, c2, c3, e⟩
  · exact .inl e
  refine .inr ?_
  rw [e]
  obtain ⟨m1, m2⟩ := maxL_in (l := numsAt nums i) (by omega)
  obtain ⟨r1, r2⟩ := hN.rng i i0 i8 _ m1
  obtain ⟨hp, hinc, hok'⟩ := fix_ok okp r1 r2 c1 c2
  have hids := hok'.ids
  obtain ⟨k1, k2, k3⟩ := openK c1
  have hwk := getD_mem (d := dW) k1
  have hp : (fixL ws i (finN nums i)).Perm (ws.set (idxOf (openId i) ws).toNat (i, finN nums i, true, ())) := hp
  have hinc : (fixL ws i (finN nums i)).Pairwise (fun a b => ncmp a.2.1 b.2.1 < 0) := hinc
  have hlen := fix_len (me := me) (clk := clk) (ws := ws) (id := i) (n := finN nums i)
  have okp6 : ws.Pairwise (fun a b => a.1 ≠ b.1) := okp.ids
  -- what is in the new list
  have hmem : ∀ w ∈ fixL ws i (finN nums i), (w ∈ ws ∧ w.1 ≠ i) ∨ w = (i, finN nums i, true, ()) := by
    intro w hw
    have hw := hp.mem_iff.1 hw
    obtain ⟨j, hj, rfl⟩ := List.getElem_of_mem hw
    rw [List.getElem_set]
    split
    · exact .inr rfl
    · rename_i hjk
      rw [List.length_set] at hj
      refine .inl ⟨List.getElem_mem .., fun e9 => ?_⟩
      rw [List.pairwise_iff_getElem] at okp6
      have hgk : ws.getD (idxOf (openId i) ws).toNat dW = ws[(idxOf (openId i) ws).toNat] := by rw [List.getD_eq_getElem?_getD, List.getElem?_eq_getElem k1]; rfl
      rw [hgk] at k2
      rcases Nat.lt_or_gt_of_ne hjk with g | g
      · exact okp6 _ _ k1 hj g (k2.trans e9.symm)
      · exact okp6 _ _ hj k1 g (e9.trans k2.symm)
  have hidL : (fixL ws i (finN nums i)).Pairwise (fun a b => a.1 ≠ b.1) := by
    have hgk : ws[(idxOf (openId i) ws).toNat].1 = i := by
      have : ws.getD (idxOf (openId i) ws).toNat dW = ws[(idxOf (openId i) ws).toNat] := by rw [List.getD_eq_getElem?_getD, List.getElem?_eq_getElem k1]; rfl
      rw [← this]; exact k2
    have e1 : (ws.set (idxOf (openId i) ws).toNat (i, finN nums i, true, ())).Pairwise (fun a b => a.1 ≠ b.1) := by
      have : ((ws.set (idxOf (openId i) ws).toNat (i, finN nums i, true, ())).map (·.1)).Pairwise (· ≠ ·) := by rw [set_ids k1 hgk]; exact List.pairwise_map.2 okp6
      exact List.pairwise_map.1 this
    exact hp.symm.pairwise e1 (fun h e => h e.symm)
  have entL : ∀ w ∈ fixL ws i (finN nums i), (0 ≤ w.1 ∧ w.1 < 8) ∧ (w.2.2.1 = false → w.2.1 ∈ numsAt nums w.1) ∧ (w.2.2.1 = true → (numsAt nums w.1).length = 3 ∧ w.2.1 = finN nums w.1) := by
    intro w hw
    rcases hmem w hw with ⟨h1, _⟩ | rfl
    · exact entp w h1
    · exact ⟨⟨i0, i8⟩, fun h => absurd h (by simp), fun _ => ⟨hc, rfl⟩⟩
  have toldL : ∀ j ∈ T, ∀ w ∈ fixL ws i (finN nums i), w.1 ≠ j ∧ ncmp (finN nums j) w.2.1 < 0 := by
    intro j hj w hw
    obtain ⟨_, _, h3⟩ := toldp j hj
    rcases hmem w hw with ⟨h1, _⟩ | rfl
    · exact h3 w h1
    · obtain ⟨g1, g2⟩ := h3 _ hwk
      refine ⟨fun e9 => g1 (k2.trans e9), ?_⟩
      show ncmp (finN nums j) (finN nums i) < 0
      rw [ncmp_lt] at g2 c3 ⊢
      omega
  have hsplit : fixL ws i (finN nums i) = (fixL ws i (finN nums i)).takeWhile fixedW ++ (fixL ws i (finN nums i)).dropWhile fixedW := (List.takeWhile_append_dropWhile).symm
  have hfix : ∀ w ∈ (fixL ws i (finN nums i)).takeWhile fixedW, w.2.2.1 = true ∧ w ∈ fixL ws i (finN nums i) := fun w hw => ⟨(show fixedW w = true from takeW hw), (List.takeWhile_sublist _).subset hw⟩
  have hdrop : ∀ w ∈ (fixL ws i (finN nums i)).dropWhile fixedW, w ∈ fixL ws i (finN nums i) := fun w hw => (List.dropWhile_sublist _).subset hw
  refine ⟨rfl, ⟨by rw [List.length_set]; exact l3, by rw [List.length_set]; exact t3, fun k hk => ?_, fun k hk w hw => ?_, fun k hk j hj => ?_, fun k hk => ?_, fun k hk j j0 j8 hj => ?_, fun k hk => ?_⟩, fun w hw hwi => ?_, fun w hw => ?_⟩
  · rw [hsE]; split
    · exact hok'
    · exact ok k hk
  · rw [hsE] at hw; split at hw
    · exact entL w (hdrop w hw)
    · exact ent k hk w hw
  · rw [htE] at hj
    rw [hsE]
    split at hj
    · rename_i ek
      rw [if_pos ek]
      rcases List.mem_append.1 hj with hj | hj
      · obtain ⟨h1, h2, _⟩ := toldp j hj
        exact ⟨h1, h2, fun w hw => toldL j hj w (hdrop w hw)⟩
      · obtain ⟨v, hv, rfl⟩ := List.mem_map.1 hj
        obtain ⟨hv1, hv2⟩ := hfix v hv
        obtain ⟨e1, _, e3⟩ := entL v hv2
        obtain ⟨e4, e5⟩ := e3 hv1
        refine ⟨e1, e4, fun w hw => ?_⟩
        have hw : w ∈ (fixL ws i (finN nums i)).dropWhile fixedW := hw
        rw [hsplit] at hinc hidL
        refine ⟨fun e9 => (List.pairwise_append.1 hidL).2.2 v hv w hw e9.symm, ?_⟩
        rw [← e5]
        exact (List.pairwise_append.1 hinc).2.2 v hv w hw
    · rename_i ek
      rw [if_neg ek]
      exact told_ k hk j hj
  · rw [htE]; split
    · refine List.pairwise_append.2 ⟨incp, ?_, fun a ha b hb => ?_⟩
      · refine List.pairwise_map.2 ((hinc.sublist (List.takeWhile_sublist _)).imp_of_mem (fun {a b} ha hb hab => ?_))
        obtain ⟨ha1, ha2⟩ := hfix a ha
        obtain ⟨hb1, hb2⟩ := hfix b hb
        rw [← ((entL a ha2).2.2 ha1).2, ← ((entL b hb2).2.2 hb1).2]
        exact hab
      · obtain ⟨v, hv, rfl⟩ := List.mem_map.1 hb
        obtain ⟨hv1, hv2⟩ := hfix v hv
        rw [← ((entL v hv2).2.2 hv1).2]
        exact (toldL a ha v hv2).2
    · exact inc k hk
  · rw [htE, hsE]; split
    · have hgo : (∃ w ∈ fixL ws i (finN nums i), w.1 = j) → j ∈ T ++ ((fixL ws i (finN nums i)).takeWhile fixedW).map (·.1) ∨ ∃ w ∈ (fixL ws i (finN nums i)).dropWhile fixedW, w.1 = j := by
        rintro ⟨w, hw, e9⟩
        rw [hsplit] at hw
        rcases List.mem_append.1 hw with hw | hw
        · exact .inl (List.mem_append_right _ (List.mem_map.2 ⟨w, hw, e9⟩))
        · exact .inr ⟨w, hw, e9⟩
      rcases allp j j0 j8 hj with h1 | ⟨w, hw, e9⟩
      · exact .inl (List.mem_append_left _ h1)
      · refine hgo ?_
        by_cases hji : j = i
        · subst hji
          exact ⟨(j, finN nums j, true, ()), hp.mem_iff.2 (List.mem_set k1 _), rfl⟩
        · refine ⟨w, hp.mem_iff.2 ?_, e9⟩
          have hw : w ∈ ws := hw
          obtain ⟨m, hm, rfl⟩ := List.getElem_of_mem hw
          have : m ≠ (idxOf (openId i) ws).toNat := by
            rintro rfl
            have hgk : ws.getD (idxOf (openId i) ws).toNat dW = ws[(idxOf (openId i) ws).toNat] := by rw [List.getD_eq_getElem?_getD, List.getElem?_eq_getElem k1]; rfl
            rw [hgk] at k2
            exact hji (e9.symm.trans k2)
          exact List.mem_iff_getElem.2 ⟨m, by rw [List.length_set]; exact hm, by rw [List.getElem_set, if_neg (Ne.symm this)]⟩
    · exact all_ k hk j j0 j8 hj
  · rw [htE, hsE]; split
    · have lenp : T.length + ws.length ≤ 40 := lenp
      show (T ++ ((fixL ws i (finN nums i)).takeWhile fixedW).map (·.1)).length + ((fixL ws i (finN nums i)).dropWhile fixedW).length ≤ 40
      rw [List.length_append]
      omega
    · exact len k hk
  · rcases hmem w (hdrop w hw) with ⟨_, h2⟩ | rfl
    · exact absurd hwi h2
    · rfl
  · rcases hmem w (hdrop w hw) with ⟨h1, _⟩ | rfl
    · exact .inr h1
    · exact .inl rfl
end Go.Proofs.Ytdhdpklmipkneaa
