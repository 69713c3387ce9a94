import Derived.Test.YtibpibbnnogdkaaExSc
namespace Go.Ex

section
variable {E : Env} {ops : Array Oper} {B : Base} {S : Nat → Prop} {ι : Ix} {s : St} {a : Act} {w : World}

def idxs (n : Nat) (listed : Array Bool) : List Nat := (List.range n).filter fun i => !listed.getD i true

theorem mem_idxs {n i : Nat} {listed : Array Bool} : i ∈ idxs n listed ↔ i < n ∧ listed.getD i true = false := by
  simp [idxs]

theorem idxs_sorted (n : Nat) (listed : Array Bool) : (idxs n listed).Pairwise (· < ·) := List.Pairwise.filter _ List.pairwise_lt_range

theorem idxs_set {n i : Nat} {listed : Array Bool} (hs : listed.size = n) (hi : i < n) : idxs n (listed.setIfInBounds i true) = (idxs n listed).filter (fun k => !(k == i)) := by
  unfold idxs
  rw [List.filter_filter]
  refine List.filter_congr (fun k hk => ?_)
  by_cases e : k = i
  · subst e
    have : k < listed.size := by omega
    simp [this]
  · have : (listed.setIfInBounds i true).getD k true = listed.getD k true := getD_set_ne true (Ne.symm e)
    rw [this]
    simp [e]

theorem idxs_split {n i : Nat} {listed : Array Bool} (hi : i ∈ idxs n listed) : ∃ pre post, idxs n listed = pre ++ i :: post ∧ (∀ j ∈ pre, j < i) ∧ (idxs n listed).filter (fun k => !(k == i)) = pre ++ post := by
  obtain ⟨pre, post, e⟩ := List.append_of_mem hi
  have hp := idxs_sorted n listed
  rw [e, List.pairwise_append] at hp
  obtain ⟨h1, h2, h3⟩ := hp
  have hlt : ∀ j ∈ pre, j < i := fun j hj => h3 j hj i (by simp)
  have hgt : ∀ j ∈ post, i < j := fun j hj => (List.pairwise_cons.1 h2).1 j hj
  refine ⟨pre, post, e, hlt, ?_⟩
  rw [e, List.filter_append, List.filter_cons]
  simp only [beq_self_eq_true, Bool.not_true, Bool.false_eq_true, if_false]
  rw [List.filter_eq_self.2 (fun j hj => by have := hlt j hj; simp; omega), List.filter_eq_self.2 (fun j hj => by have := hgt j hj; simp; omega)]

/-- what the check gives -/
theorem draw_spec (h : drawOk ops = true) : ∀ i o, ops[i]? = some o → (∀ e ∈ o.after, Region.binds .any e = true → e.on < i) ∧
    (∀ j, j < ops.size → ((masksGo ops.toList []).getD i 0).testBit j = true → ∃ e ∈ o.after, Region.binds .any e = true ∧ (e.on = j ∨ ((masksGo ops.toList []).getD e.on 0).testBit j = true)) ∧
    (∀ j x, j < i → ops[j]? = some x → ((masksGo ops.toList []).getD i 0).testBit j = true ∨ indep ops x o = true) := by
  intro i o ho
  have hi : i < ops.toList.length := by
    have := (Array.getElem?_eq_some_iff.1 ho).1
    simpa using this
  simp only [drawOk, List.all_eq_true, List.mem_range] at h
  have h1 := h i hi
  have hl : ops.toList[i]? = some o := by simpa using ho
  rw [hl] at h1
  simp only [Bool.and_eq_true, List.all_eq_true, List.mem_range] at h1
  obtain ⟨⟨k1, k2⟩, k3⟩ := h1
  refine ⟨?_, ?_, ?_⟩
  · intro e he hb
    simp only [depOk, List.all_eq_true] at k1
    have := k1 e (by simpa using he)
    rw [hb] at this
    simpa [Nat.blt_eq] using this
  · intro j hj hm
    simp only [maskOk, List.all_eq_true, List.mem_range] at k2
    have := k2 j (by simpa using hj)
    rw [hm] at this
    simp only [Bool.not_true, Bool.false_or, List.any_eq_true, Bool.and_eq_true, Bool.or_eq_true] at this
    obtain ⟨e, he, hb, h3⟩ := this
    exact ⟨e, by simpa using he, hb, h3.imp Nat.eq_of_beq_eq_true id⟩
  · intro j x hj hx
    have := k3 j hj
    have hx' : ops.toList[j]? = some x := by simpa using hx
    rw [hx'] at this
    simpa using this

def ClosedL (ops : Array Oper) (listed : Array Bool) : Prop := ∀ k o, ops[k]? = some o → listed.getD k true = true → ∀ e ∈ o.after, Region.binds .any e = true → listed.getD e.on false = true

theorem getD_flip {listed : Array Bool} {k : Nat} (h : listed.getD k false = true) : listed.getD k true = true := by
  rcases Nat.lt_or_ge k listed.size with h' | h'
  · simp [h'] at h ⊢; exact h
  · simp [Array.getElem?_eq_none h'] at h

theorem anc_listed {M : Nat → Nat} (hM : ∀ i o, ops[i]? = some o → (∀ e ∈ o.after, Region.binds .any e = true → e.on < i) ∧ (∀ j, j < ops.size → (M i).testBit j = true → ∃ e ∈ o.after, Region.binds .any e = true ∧ (e.on = j ∨ (M e.on).testBit j = true)))
    {listed : Array Bool} (hc : ClosedL ops listed) : ∀ (i : Nat) (o : Oper), ops[i]? = some o → (∀ e ∈ o.after, Region.binds .any e = true → listed.getD e.on false = true) → ∀ j, j < ops.size → (M i).testBit j = true → listed.getD j false = true := by
  intro i
  induction i using Nat.strongRecOn with
  | _ i ih =>
    intro o ho hp j hj hm
    obtain ⟨e, he, hb, h3⟩ := (hM i o ho).2 j hj hm
    have hlt := (hM i o ho).1 e he hb
    rcases h3 with rfl | h3
    · exact hp e he hb
    · have hi : i < ops.size := (Array.getElem?_eq_some_iff.1 ho).1
      have hel : ops[e.on]? = some (ops[e.on]'(by omega)) := Array.getElem?_eq_getElem (by omega)
      exact ih e.on hlt _ hel (hc e.on _ hel (getD_flip (hp e he hb))) j hj h3

theorem drawn_sound (hE : EnvOk E) (hn : B.n = E.nt) (hd : drawOk ops = true) {Q : Exit → Act → World → Prop} {s0 : St} (hQ : ∀ S ι a w, RS B S ι s0 a w → Q .normal a w) :
    ∀ (fuel : Nat) (listed : Array Bool) (S : Nat → Prop) (ι : Ix) (s s' : St) (a : Act) (w : World), listed.size = ops.size → (idxs ops.size listed).length = fuel → ClosedL ops listed → Apart (rem ops (idxs ops.size listed)) → uniq s.fr → CleanFor s (rem ops (idxs ops.size listed)) →
      RunsA E ops (fun i => (masksGo ops.toList []).getD i 0) [] (idxs ops.size listed) s s' → Eqv s' s0 → RS B S ι s a w → wpAny E.P .any ops Q fuel listed a w := by
  have hM := draw_spec hd
  have rs_eqv : ∀ {S : Nat → Prop} {ι : Ix} {s t : St} {a : Act} {w : World}, Eqv s t → RS B S ι s a w → RS B S ι t a w := by
    intro S ι s t a w he h
    have hvx : ∀ {v : AV} {vs : List Value}, VX w.heap S ι s.hp v vs → VX w.heap S ι t.hp v vs := by
      intro v vs hv
      exact VX.other (fun i _ => (he.2 i).symm) (fun i _ => SameAt.refl ι i) hv
    exact ⟨⟨h.hs.os, h.hs.tape, h.hs.out, h.hs.size, h.hs.frame, h.hs.slt, h.hs.s0, h.hs.s1, fun i e hi => h.hs.ob i e ((he.2 i).trans hi), fun i e hi => h.hs.bl i e ((he.2 i).trans hi), fun i j ei ej hi hj => h.hs.dj i j ei ej ((he.2 i).trans hi) ((he.2 j).trans hj), fun q hq => by obtain ⟨r1, ⟨e, r2⟩, r3⟩ := h.hs.pin q hq; exact ⟨r1, ⟨e, (he.2 q.1).symm.trans r2⟩, r3⟩⟩, h.dfr, h.sz,
      fun m v hv => hvx (h.fr m v ((he.1 m).trans hv))⟩
  intro fuel
  induction fuel with
  | zero =>
    intro listed S ι s s' a w hsz hlen hcl hap hu hcf hrun he hrs
    have hnil : idxs ops.size listed = [] := List.length_eq_zero_iff.1 hlen
    rw [hnil] at hrun
    have hss : s = s' := hrun
    subst hss
    refine ⟨?_, hQ S ι a w (rs_eqv he hrs)⟩
    rw [List.eq_nil_iff_forall_not_mem]
    intro i hi
    obtain ⟨h1, o, h2, _⟩ := mem_ready.1 hi
    have : i ∈ idxs ops.size listed := mem_idxs.2 ⟨(Array.getElem?_eq_some_iff.1 h2).1, h1⟩
    rw [hnil] at this
    cases this
  | succ fuel ih =>
    intro listed S ι s s' a w hsz hlen hcl hap hu hcf hrun he hrs
    refine ⟨fun hr => ?_, fun i hi => ?_⟩
    · exfalso
      cases hix : idxs ops.size listed with
      | nil => rw [hix] at hlen; cases hlen
      | cons i l =>
        have hmem : i ∈ idxs ops.size listed := by rw [hix]; simp
        obtain ⟨h1, h2⟩ := mem_idxs.1 hmem
        have ho : ops[i]? = some ops[i] := Array.getElem?_eq_getElem h1
        have : i ∈ Region.ready .any ops listed := by
          refine mem_ready.2 ⟨h2, ops[i], ho, fun e he hb => ?_⟩
          have hlt := (hM i _ ho).1 e he hb
          cases hle : listed.getD e.on true with
          | true =>
            have : e.on < listed.size := by omega
            simp [this] at hle ⊢; exact hle
          | false =>
            exfalso
            have hm2 : e.on ∈ idxs ops.size listed := mem_idxs.2 ⟨by omega, hle⟩
            have hs := idxs_sorted ops.size listed
            rw [hix] at hs hm2
            rcases List.mem_cons.1 hm2 with e1 | e1
            · omega
            · have := (List.pairwise_cons.1 hs).1 _ e1; omega
        rw [hr] at this
        cases this
    · obtain ⟨h1, o, ho, hpre⟩ := mem_ready.1 hi
      have hin : i < ops.size := (Array.getElem?_eq_some_iff.1 ho).1
      have hmem : i ∈ idxs ops.size listed := mem_idxs.2 ⟨hin, h1⟩
      obtain ⟨pre, post, e1, hlt, e2⟩ := idxs_split hmem
      have er : rem ops (pre ++ i :: post) = rem ops pre ++ o :: rem ops post := by simp [rem, List.filterMap_append, List.filterMap_cons, ho]
      have er2 : rem ops (pre ++ post) = rem ops pre ++ rem ops post := by simp [rem, List.filterMap_append]
      rw [e1] at hap hcf hrun
      have hind : ∀ j ∈ pre, ((masksGo ops.toList []).getD i 0).testBit j = false ∧ ∀ x, ops[j]? = some x → indep ops x o = true := by
        intro j hj
        have hnm : ((masksGo ops.toList []).getD i 0).testBit j = false := by
          cases hm : ((masksGo ops.toList []).getD i 0).testBit j with
          | false => rfl
          | true =>
            exfalso
            have hjl := anc_listed (M := fun i => (masksGo ops.toList []).getD i 0) (fun i o ho => ⟨(hM i o ho).1, (hM i o ho).2.1⟩) hcl i o ho hpre j (by have := hlt j hj; omega) hm
            have : j ∈ idxs ops.size listed := by rw [e1]; simp [hj]
            have := (mem_idxs.1 this).2
            rw [getD_flip hjl] at this
            cases this
        refine ⟨hnm, fun x hx => ?_⟩
        rcases (hM i o ho).2.2 j x (hlt j hj) hx with hm | hm
        · rw [hnm] at hm; cases hm
        · exact hm
      obtain ⟨p, s1, s2, k1, k2, k3, k4, _⟩ := bubble ho hap hind hu hcf hrun
      rw [er] at hap hcf
      have hset := (idxs_set hsz hin).trans e2
      have hap2 : Apart (rem ops pre ++ rem ops post) ∧ ∀ x ∈ rem ops pre ++ rem ops post, ∀ d, x.dst = some d → o.dst ≠ some d := by
        have : ∀ {A C : List Oper}, Apart (A ++ o :: C) → Apart (A ++ C) ∧ ∀ x ∈ A ++ C, ∀ d, x.dst = some d → o.dst ≠ some d := by
          intro A
          induction A with
          | nil => intro C h; exact ⟨h.2, fun x hx d hxd hod => h.1 d hod x hx hxd⟩
          | cons y A ih =>
            intro C h
            obtain ⟨m1, m2⟩ := ih h.2
            refine ⟨⟨fun d hd x hx => h.1 d hd x (by simp at hx ⊢; rcases hx with hx | hx <;> simp [hx]), m1⟩, fun x hx d hxd hod => ?_⟩
            rcases List.mem_cons.1 hx with rfl | hx
            · exact h.1 d hxd o (by simp) hod
            · exact m2 x hx d hxd hod
        exact this hap
      have hps := place_sound hE hn hrs (ops := ops) o (k := fun x => Tree.cut .skip [] x) (L := fun _ _ x => x = s1) (Rt := fun _ => True) (pl_place.2 ⟨p, s1, k1, k2, rfl⟩)
        (next := wpAny E.P .any ops Q fuel (listed.setIfInBounds i true)) (Q := Q) (fun S' ι' x a' w' hx hxe => by
          have hxe : x = s1 := hxe
          subst hxe
          refine ih (listed.setIfInBounds i true) S' ι' x s2 a' w' (by simp [hsz]) ?_ ?_ ?_ (place_uniq hu k1) ?_ ?_ (k4.trans he) hx
          · rw [hset]; rw [e1] at hlen; simp at hlen ⊢; omega
          · intro k y hy hk e' he' hb'
            by_cases hki : k = i
            · subst hki
              rw [ho] at hy; cases hy
              exact getD_set_true (hpre e' he' hb')
            · rw [getD_set_ne true (Ne.symm hki)] at hk
              exact getD_set_true (hcl k y hy hk e' he' hb')
          · rw [hset, er2]; exact hap2.1
          · rw [hset, er2]
            exact CleanFor.step hu (fun y hy => hcf y (by simp at hy ⊢; rcases hy with hy | hy <;> simp [hy])) hap2.2 k1
          · rw [hset]; exact k3)
      unfold wpOp
      rw [ho]
      simp only
      split
      · rename_i hw; rw [if_pos hw] at hps; exact .inl hps
      · rename_i hw; rw [if_neg hw] at hps; exact hps

theorem filterMap_some {α β : Type _} {f : α → Option β} {g : α → β} : ∀ {l : List α}, (∀ i ∈ l, f i = some (g i)) → l.filterMap f = l.map g
  | [], _ => rfl
  | x :: l, h => by rw [List.filterMap_cons, h x (by simp)]; simp [filterMap_some (l := l) (fun i hi => h i (by simp [hi]))]

theorem rem_all : rem ops (idxs ops.size (Array.replicate ops.size false)) = ops.toList := by
  have : idxs ops.size (Array.replicate ops.size false) = List.range ops.size := by
    unfold idxs
    refine List.filter_eq_self.2 (fun i hi => ?_)
    have : i < ops.size := List.mem_range.1 hi
    simp [this]
  rw [this]
  unfold rem
  apply List.ext_getElem?
  intro i
  have e : (List.range ops.size).filterMap (fun i => ops[i]?) = (List.range ops.size).map (fun i => ops.getD i default) := filterMap_some (fun i hi => by
    have : i < ops.size := List.mem_range.1 hi
    simp [this])
  rw [e]
  by_cases hi : i < ops.size
  · simp [hi]
  · simp [hi]

theorem apart_of : ∀ {l : List Oper}, distinctB (dsts l) = true → Apart l
  | [], _ => trivial
  | o :: l, h => by
    cases hd : o.dst with
    | none =>
      have : dsts (o :: l) = dsts l := by simp [dsts, List.filterMap_cons, hd]
      rw [this] at h
      exact ⟨fun d hd' => (by rw [hd] at hd'; cases hd'), apart_of h⟩
    | some d =>
      have : dsts (o :: l) = d :: dsts l := by simp [dsts, List.filterMap_cons, hd]
      rw [this] at h
      simp only [distinctB, Bool.and_eq_true, Bool.not_eq_true'] at h
      refine ⟨fun d' hd' x hx hxd => ?_, apart_of h.2⟩
      rw [hd] at hd'
      cases hd'
      have : d ∈ dsts l := List.mem_filterMap.2 ⟨x, hx, hxd⟩
      have h1 := h.1
      simp [this] at h1

theorem idxs_all : idxs ops.size (Array.replicate ops.size false) = List.range ops.size := by
  unfold idxs
  refine List.filter_eq_self.2 (fun i hi => ?_)
  have : i < ops.size := List.mem_range.1 hi
  simp [this]

/-- a region whose order is drawn, run in the text's order -/
theorem drawn_region (hE : EnvOk E) (hn : B.n = E.nt) {id : Nat} (hd : (drawOk ops && entryOk ops s && E.P.follows .mixedOrders) = true) {Q : Exit → Act → World → Prop} {s' : St} (hr : RunsA E ops (fun i => (masksGo ops.toList []).getD i 0) [] (List.range' 0 ops.toList.length) s s')
    (hQ : ∀ S ι a w, RS B S ι s' a w → Q .normal a w) (h : RS B S ι s a w) : (Code.region id ops true).wp E.P Q a w := by
  simp only [Bool.and_eq_true, entryOk, List.all_eq_true] at hd
  obtain ⟨⟨h1, ⟨h2, h3⟩, h4⟩, h5⟩ := hd
  refine wp_region_any h5 ?_
  have hlen : (idxs ops.size (Array.replicate ops.size false)).length = ops.size := by
    rw [idxs_all]; simp
  refine drawn_sound hE hn h1 hQ ops.size _ S ι s s' a w.drew (by simp) hlen ?_ ?_ (uniq_of h2) ?_ ?_ (Eqv.refl _) (h.turn Flt.nil Past.drew)
  · intro k o hk hl
    have : k < ops.size := (Array.getElem?_eq_some_iff.1 hk).1
    simp [this] at hl
  · rw [rem_all]; exact apart_of h3
  · rw [rem_all]
    intro o ho d hd
    exact h4 d (List.mem_filterMap.2 ⟨o, ho, hd⟩)
  · rw [idxs_all, List.range_eq_range']
    simpa using hr

end
end Go.Ex
