import Derived.Test.YtagjonjobbckdaaExL
namespace Go.Ex

section
variable {E : Env} {B : Base} {S S' : Nat → Prop} {ι : Ix} {s : St} {a : Act} {w : World} {hp : List (Nat × Ent)} {H H' : Array Go.Obj}

theorem Ty.sh_sh (t : Ty) : t.sh.sh = t.sh := by
  induction t with
  | pair a b iha ihb => simp only [Ty.sh, iha, ihb]
  | arr n t ih => simp only [Ty.sh, ih]
  | slc o t ih => simp only [Ty.sh, ih]
  | _ => rfl

theorem cast_pair {A A' C C' : Type} (ha : A = A') (hc : C = C') (h : (A × C) = (A' × C')) (x : A × C) : cast h x = (cast ha x.1, cast hc x.2) := by subst ha; subst hc; rfl
theorem cast_list {A A' : Type} (ha : A = A') (h : List A = List A') (l : List A) : cast h l = l.map (cast ha) := by
  subst ha
  show l = List.map (fun x => x) l
  simp

theorem RepL.map {α β : Type} {R : List Nat → List Value → α → Prop} {R' : List Nat → List Value → β → Prop} {sz : Nat} {f : α → β} {L : List Nat} (hr : ∀ O cs x, (∀ b ∈ O, b ∈ L) → R O cs x → R' [] cs (f x)) :
    ∀ {l : List α} {O : List Nat} {cs : List Value}, (∀ b ∈ O, b ∈ L) → RepL R sz O cs l → RepL R' sz [] cs (l.map f)
  | [], _, _, _, ⟨_, h⟩ => ⟨rfl, h⟩
  | _ :: _, _, _, hO, ⟨O1, O2, e, h1, h2⟩ => by
    subst e
    exact ⟨[], [], rfl, hr _ _ _ (fun b hb => hO b (by simp [hb])) h1, RepL.map hr (fun b hb => hO b (by simp [hb])) h2⟩

/-- an owned reading, as a shared one -/
theorem Rep.toSh : ∀ {u : Ty} {O : List Nat} {cs : List Value} {y : u.den}, Rep H S u O cs y → (∀ b ∈ O, S' b) → (∀ b, S b → S' b) → Rep H S' u.sh [] cs (cast (den_sh u).symm y) := by
  intro u
  induction u with
  | int k => intro O cs y h _ _; exact ⟨rfl, h.2⟩
  | bool => intro O cs y h _ _; exact ⟨rfl, h.2⟩
  | str => intro O cs y h _ _; exact ⟨rfl, h.2⟩
  | unit => intro O cs y h _ _; exact ⟨rfl, h.2⟩
  | pair a c iha ihc =>
    rintro O cs y ⟨O1, O2, rfl, h1, h2⟩ hO hS
    have e := cast_pair (den_sh a).symm (den_sh c).symm (den_sh (.pair a c)).symm y
    refine Eq.subst (motive := fun z => Rep H S' (.pair a.sh c.sh) [] cs z) e.symm ?_
    exact ⟨[], [], rfl, by rw [size_sh]; exact iha h1 (fun b hb => hO b (by simp [hb])) hS, by rw [size_sh]; exact ihc h2 (fun b hb => hO b (by simp [hb])) hS⟩
  | arr n t ih =>
    rintro O cs y ⟨h1, h2⟩ hO hS
    have e := cast_list (den_sh t).symm (den_sh (.arr n t)).symm y
    refine Eq.subst (motive := fun z => Rep H S' (.arr n t.sh) [] cs z) e.symm ?_
    refine ⟨by rw [List.length_map]; exact h1, ?_⟩
    rw [size_sh]
    exact RepL.map (L := O) (fun O1 cs x hL hr => ih hr (fun b hb => hO b (hL b hb)) hS) (fun _ h => h) h2
  | slc o t ih =>
    rintro O cs y h hO hS
    have e := cast_list (den_sh t).symm (den_sh (.slc o t)).symm y
    refine Eq.subst (motive := fun z => Rep H S' (.slc false t.sh) [] cs z) e.symm ?_
    rcases h with ⟨_, h2, h3⟩ | ⟨b, off, cap, O', c1, c2, c3, c4, c5, c6⟩
    · subst h3; exact .inl ⟨rfl, h2, rfl⟩
    · have hb : S' b := by
        cases o with
        | true => exact hO b (by rw [c6.1]; simp)
        | false => exact hS b c6.2.2
      have hO' : ∀ c ∈ O', c ∈ O := by
        intro c hc
        cases o with
        | true => rw [c6.1]; simp [hc]
        | false => rw [c6.2.1] at hc; cases hc
      refine .inr ⟨b, off, cap, [], by rw [List.length_map]; exact c1, by rw [List.length_map]; exact c2, c3, by rw [List.length_map, size_sh]; exact c4, ?_, rfl, rfl, hb⟩
      rw [List.length_map, size_sh]
      exact RepL.map (L := O) (fun O1 cs x hL hr => ih hr (fun b hb => hO b (hL b hb)) hS) hO' c5

/-- what a callee may read: what we may, and, if an object is lent, our objects -/
def Lend (S : Nat → Prop) (ι : Ix) (hp : List (Nat × Ent)) (b : Nat) : Prop := S b ∨ ∃ i e, look i hp = some e ∧ b ∈ blks ι i e

theorem sub_rep {i : Nat} {e : Ent} (ho : OB H S ι i e) {p : List Step} (hok : okP e.ty e.x p) {u : Ty} {y : u.den} (hg : getP e.ty e.x p = some ⟨u, y⟩) {cs : List Value} (hc : Cells H ι i e p u cs) :
    ∃ O2, (∀ c ∈ O2, c ∈ ι.own i) ∧ Rep H S u O2 cs y := by
  rcases hc with ⟨b, off, hl, rfl⟩ | ⟨t, x0, rfl, rfl, rfl⟩
  · obtain ⟨O2, k1, k2, _⟩ := Loc_mem ho hok hg hl
    exact ⟨O2, k1, k2⟩
  · obtain ⟨⟨O, hO, hR⟩, _⟩ := ho
    have hg : getP t x0 [] = some ⟨u, y⟩ := hg
    have : (⟨t, x0⟩ : Sigma Ty.den) = ⟨u, y⟩ := by
      cases t with
      | slc o t => cases o <;> (simp only [getP, Option.some.injEq] at hg; exact hg)
      | _ => simp only [getP, Option.some.injEq] at hg; exact hg
    cases this
    exact ⟨O, fun c hc => hO.mem_iff.1 hc, hR⟩

theorem own_blks {i : Nat} {e : Ent} {c : Nat} (h : c ∈ ι.own i) : c ∈ blks ι i e := by cases e <;> simp [blks, h]

theorem lend_inv {t : Ty} {i : Nat} {p : List Step} {x : t.den} (h : s.lend t i p = some x) {e : Ent} (he : look i s.hp = some e) : ∃ u y, getP e.ty e.x p = some ⟨u, y⟩ ∧ ∃ hu : u.sh = t, x = cast ((den_sh u).symm.trans (congrArg Ty.den hu)) y := by
  unfold St.lend at h
  have he' : s.obj i = some e := he
  cases e with
  | var t0 x0 =>
    simp only [he'] at h
    split at h
    · rename_i u y hg
      split at h
      · rename_i hu; cases h; exact ⟨u, y, hg, hu, rfl⟩
      · cases h
    · cases h
  | own t0 x0 =>
    simp only [he'] at h
    split at h
    · rename_i u y hg
      split at h
      · rename_i hu; cases h; exact ⟨u, y, hg, hu, rfl⟩
      · cases h
    · cases h

theorem as_rep {v : AV} {t : Ty} {x : t.den} {val : Value} (h : v.as t = some x) (hv : VX H S ι hp v [val]) : ∃ cs, val = toV t cs ∧ Rep H S t [] cs x := by
  unfold AV.as at h
  split at h
  · rename_i u y
    split at h
    · rename_i hu; subst hu; cases h
      obtain ⟨cs, e, hR⟩ := hv
      exact ⟨cs, by simpa using e, hR⟩
    · cases h
  · split at h
    · cases h
      have : [val] = [Value.slice none 0 0] := hv
      exact ⟨[.slice none 0 0], by simpa [toV, Ty.agg] using this, .inl ⟨rfl, rfl, rfl⟩⟩
    · cases h
  · cases h

/-- an argument, as the callee reads it -/
theorem asV_rep (h : HS B S ι s.hp w) {v : AV} {t : Ty} {x : t.den} {val : Value} (hx : v.asV s t = some x) (hv : VX w.heap S ι s.hp v [val]) {S1 : Nat → Prop} (hS : ∀ b, S b → S1 b) (hL : v.lent = true → ∀ b, Lend S ι s.hp b → S1 b) :
    ∃ cs, val = toV t cs ∧ Rep w.heap S1 t [] cs x := by
  unfold AV.asV at hx
  split at hx
  · rename_i i p
    obtain ⟨e, u, y, cs, h1, h2, h3, h4, h5⟩ := hv
    obtain ⟨u', y', hg, hu, e2⟩ := lend_inv hx h1
    rw [h3] at hg; cases hg
    subst hu
    obtain ⟨O2, k1, k2⟩ := sub_rep (h.ob i e h1) h2 h3 h4
    refine ⟨cs, by rw [toV_er (t := u) (by rw [Ty.sh_sh])]; simpa using h5, ?_⟩
    rw [e2]
    exact k2.toSh (fun b hb => hL rfl b (.inr ⟨i, e, h1, own_blks (k1 b hb)⟩)) hS
  · obtain ⟨cs, e, hR⟩ := as_rep hx hv
    exact ⟨cs, e, hR.stable (fun _ _ => rfl) hS⟩

theorem asR_rep (h : HS B S ι s.hp w) {v : AV} {t : Ty} {x : t.den} {val : Value} (hx : v.asR s t = some x) (hv : VX w.heap S ι s.hp v [val]) {S1 : Nat → Prop} (hS : ∀ b, S b → S1 b) (hL : v.lent = true → ∀ b, Lend S ι s.hp b → S1 b) :
    RdRep w.heap S1 t val x := by
  unfold AV.asR at hx
  split at hx
  · rename_i i p
    obtain ⟨e, b, off, h1, h2, h3, h4⟩ := hv
    obtain ⟨u, y, hg, hu, e2⟩ := lend_inv hx h1
    subst hu
    obtain ⟨O2, k1, k2, k3, k4, k5⟩ := Loc_mem (h.ob i e h1) h2 hg h3
    refine ⟨b, off, by simpa using h4, hL rfl b (.inr ⟨i, e, h1, k4⟩), by rw [size_sh]; exact k3, ?_⟩
    rw [e2, size_sh]
    exact k2.toSh (fun c hc => hL rfl c (.inr ⟨i, e, h1, own_blks (k1 c hc)⟩)) hS
  · rename_i u y
    split at hx
    · rename_i hu; subst hu; cases hx
      obtain ⟨b, off, e, h1, h2, h3⟩ := hv
      exact ⟨b, off, by simpa using e, hS b h1, h2, h3.stable (fun _ _ => rfl) hS⟩
    · cases hx
  · cases hx

theorem asRL_rep (h : HS B S ι s.hp w) {S1 : Nat → Prop} (hS : ∀ b, S b → S1 b) : ∀ {ts : List Ty} {v : AV} {x : DL ts} {vs : List Value}, AV.asRL s ts v = some x → VX w.heap S ι s.hp v vs → (v.lent = true → ∀ b, Lend S ι s.hp b → S1 b) → RdL w.heap S1 ts vs x
  | [], v, x, vs, hx, hv, _ => by
    cases v <;> simp only [AV.asRL] at hx <;> first | cases hx | skip
    exact hv
  | t :: ts, v, x, vs, hx, hv, hL => by
    cases v <;> simp only [AV.asRL] at hx <;> first | cases hx | skip
    rename_i a b
    obtain ⟨v1, us, e, ha, hb⟩ := hv
    split at hx
    · rename_i x1 y1 e1 e2
      cases hx
      exact ⟨v1, us, e, asR_rep h e1 ha hS (fun hl => hL (by simp [AV.lent, hl])), asRL_rep h hS e2 hb (fun hl => hL (by simp [AV.lent, hl]))⟩
    · cases hx

theorem asK_rep (h : HS B S ι s.hp w) {S1 : Nat → Prop} (hS : ∀ b, S b → S1 b) {k : PK} {v : AV} {x : k.den} {val : Value} (hx : v.asK s k = some x) (hv : VX w.heap S ι s.hp v [val]) (hL : v.lent = true → ∀ b, Lend S ι s.hp b → S1 b) : KRep w.heap S1 k val x := by
  cases k with
  | v t => exact asV_rep h hx hv hS hL
  | rd t => exact asR_rep h hx hv hS hL
  | clo f ts =>
    simp only [AV.asK] at hx
    split at hx
    · rename_i g l
      split at hx
      · rename_i hg
        have hg := Nat.eq_of_beq_eq_true hg
        subst hg
        obtain ⟨us, e, hl⟩ := hv
        exact ⟨us, by simpa using e, asRL_rep h hS hx hl hL⟩
      · cases hx
    · cases hx

theorem asKs_rep (h : HS B S ι s.hp w) {S1 : Nat → Prop} (hS : ∀ b, S b → S1 b) : ∀ {ks : List PK} {v : AV} {x : DK ks} {vs : List Value}, AV.asKs s ks v = some x → VX w.heap S ι s.hp v vs → (v.lent = true → ∀ b, Lend S ι s.hp b → S1 b) → KsRep w.heap S1 ks vs x
  | [], v, x, vs, hx, hv, _ => by
    cases v <;> simp only [AV.asKs] at hx <;> first | cases hx | skip
    exact hv
  | k :: ks, v, x, vs, hx, hv, hL => by
    cases v <;> simp only [AV.asKs] at hx <;> first | cases hx | skip
    rename_i a b
    obtain ⟨v1, us, e, ha, hb⟩ := hv
    split at hx
    · rename_i x1 y1 e1 e2
      cases hx
      exact ⟨v1, us, e, asK_rep h hS e1 ha (fun hl => hL (by simp [AV.lent, hl])), asKs_rep h hS e2 hb (fun hl => hL (by simp [AV.lent, hl]))⟩
    · cases hx

/-! results -/
theorem Rep.noSh : ∀ {t : Ty} {O : List Nat} {cs : List Value} {x : t.den}, t.noSh = true → Rep H S t O cs x → Rep H S' t O cs x := by
  intro t
  induction t with
  | int k => intro O cs x _ h; exact h
  | bool => intro O cs x _ h; exact h
  | str => intro O cs x _ h; exact h
  | unit => intro O cs x _ h; exact h
  | pair a c iha ihc =>
    rintro O cs x hn ⟨O1, O2, e, h1, h2⟩
    simp only [Ty.noSh, Bool.and_eq_true] at hn
    exact ⟨O1, O2, e, iha hn.1 h1, ihc hn.2 h2⟩
  | arr n t ih =>
    rintro O cs x hn ⟨h1, h2⟩
    exact ⟨h1, RepL.mono (L := O) (fun _ h => h) (fun _ _ _ _ h => ih hn h) h2⟩
  | slc o t ih =>
    rintro O cs x hn h
    simp only [Ty.noSh, Bool.and_eq_true] at hn
    rcases h with h | ⟨b, off, cap, O', c1, c2, c3, c4, c5, c6⟩
    · exact .inl h
    · rw [hn.1] at c6
      refine .inr ⟨b, off, cap, O', c1, c2, c3, c4, RepL.mono (L := O') (fun _ h => h) (fun _ _ _ _ h => ih hn.2 h) c5, ?_⟩
      rw [hn.1]; exact c6

theorem ResRep.noSh : ∀ {ts : List Ty} {O : List Nat} {vs : List Value} {x : DL ts}, ts.all Ty.noSh = true → ResRep H S ts O vs x → ResRep H S' ts O vs x
  | [], _, _, _, _, h => h
  | t :: ts, _, _, _, hn, ⟨v, us, O1, O2, cs, e1, e2, e3, h1, h2⟩ => by
    simp only [List.all_cons, Bool.and_eq_true] at hn
    exact ⟨v, us, O1, O2, cs, e1, e2, e3, h1.noSh hn.1, ResRep.noSh hn.2 h2⟩

/-- an object that is held by slots alone -/
theorem HS.hold (h : HS B S ι hp w) {d : Nat} (hd : look d hp = none) {t : Ty} {x : t.den} {O : List Nat} {cs : List Value} (hR : Rep w.heap S t O cs x) (hnd : O.Nodup)
    (hO : ∀ b ∈ O, ¬ S b ∧ (B.w0.heap.size ≤ b ∨ B.M b) ∧ b < w.heap.size ∧ ∀ i e, look i hp = some e → b ∉ blks ι i e) : HS B S (ι.setO d cs O) (Ex.put d (.own t x) hp) w := by
  refine ⟨h.os, h.tape, h.out, h.size, h.frame, h.slt, h.s0, h.s1, ?_, ?_, ?_⟩
  · intro i e h1
    rw [look_put] at h1
    by_cases e1 : i = d
    · subst e1
      rw [if_pos rfl] at h1; cases h1
      exact ⟨⟨O, by simp [Ix.setO], by simpa [Ix.setO] using hR⟩, by simpa [Ix.setO] using hnd⟩
    · rw [if_neg e1] at h1; exact (sameAt_setO e1 _ _).ob.2 (h.ob i e h1)
  · intro i e h1 b hb
    rw [look_put] at h1
    by_cases e1 : i = d
    · subst e1
      rw [if_pos rfl] at h1; cases h1
      simp only [blks, Ix.setO, if_pos] at hb
      exact ⟨(hO b hb).1, (hO b hb).2.1, (hO b hb).2.2.1⟩
    · rw [if_neg e1] at h1
      rw [(sameAt_setO e1 _ _).blks] at hb
      exact h.bl i e h1 b hb
  · intro i j ei ej h1 h2 hij b hb
    rw [look_put] at h1 h2
    by_cases e1 : i = d
    · subst e1
      rw [if_neg (Ne.symm hij)] at h2
      rw [if_pos rfl] at h1; cases h1
      simp only [blks, Ix.setO, if_pos] at hb
      rw [(sameAt_setO (Ne.symm hij) _ _).blks]
      exact (hO b hb).2.2.2 j ej h2
    · rw [if_neg e1] at h1
      rw [(sameAt_setO e1 _ _).blks] at hb
      by_cases e2 : j = d
      · subst e2
        rw [if_pos rfl] at h2; cases h2
        simp only [blks, Ix.setO, if_pos]
        exact fun hbb => (hO b hbb).2.2.2 i ei h1 hb
      · rw [if_neg e2] at h2
        rw [(sameAt_setO e2 _ _).blks]
        exact h.dj i j ei ej h1 h2 hij b hb

theorem layRes_sound : ∀ {ts : List Ty} {x : DL ts} {d j : Nat} {ι : Ix} {hp : List (Nat × Ent)} {l : AV} {hp' : List (Nat × Ent)} {O : List Nat} {us : List Value}, layRes ts x d j hp = some (l, hp') → HS B S ι hp w → ResRep w.heap S ts O us x → O.Nodup →
    (∀ b ∈ O, ¬ S b ∧ (B.w0.heap.size ≤ b ∨ B.M b) ∧ b < w.heap.size ∧ ∀ i e, look i hp = some e → b ∉ blks ι i e) →
    ∃ ι', HS B S ι' hp' w ∧ VX w.heap S ι' hp' l us ∧ (∀ v vs, (∀ k, j ≤ k → k < j + ts.length → v.ment (rid d k) = false) → VX w.heap S ι hp v vs → VX w.heap S ι' hp' v vs)
  | [], x, d, j, ι, hp, l, hp', O, us, hl, h, hR, _, _ => by
    simp only [layRes, Option.some.injEq, Prod.mk.injEq] at hl
    obtain ⟨rfl, rfl⟩ := hl
    exact ⟨ι, h, hR.2, fun v vs _ hv => hv⟩
  | t :: ts, x, d, j, ι, hp, l, hp', O, us, hl, h, ⟨v1, us1, O1, O2, cs, e1, e2, e3, h1, h2⟩, hnd, hO => by
    subst e2
    have hnd' := List.nodup_append.1 hnd
    simp only [layRes] at hl
    split at hl
    · rename_i hs
      split at hl
      · rename_i l' hp2 hl'
        cases hl
        have hO1 := h1.nilO hs
        subst hO1
        obtain ⟨ι', k1, k2, k3⟩ := layRes_sound hl' h h2 hnd'.2.1 (fun b hb => hO b (by simp [hb]))
        refine ⟨ι', k1, ⟨v1, us1, e1, ⟨cs, by rw [e3], h1⟩, k2⟩, fun v vs hm hv => k3 v vs (fun k hk1 hk2 => hm k (by omega) (by simp; omega)) hv⟩
      · cases hl
    · split at hl
      · cases hl
      · rename_i hlk
        split at hl
        · rename_i l' hp2 hl'
          cases hl
          have hd : look (rid d j) hp = none := hlk
          have hH := h.hold hd h1 hnd'.1 (fun b hb => hO b (by simp [hb]))
          have hne : ∀ i e, look i (Ex.put (rid d j) (.own t x.1) hp) = some e → ∀ b ∈ O2, b ∉ blks (ι.setO (rid d j) cs O1) i e := by
            intro i e hi b hb
            rw [look_put] at hi
            by_cases ei : i = rid d j
            · subst ei; rw [if_pos rfl] at hi; cases hi
              simp only [blks, Ix.setO, if_pos]
              exact fun hb1 => hnd'.2.2 b hb1 b hb rfl
            · rw [if_neg ei] at hi
              rw [(sameAt_setO ei _ _).blks]
              exact (hO b (by simp [hb])).2.2.2 i e hi
          obtain ⟨ι', k1, k2, k3⟩ := layRes_sound hl' hH h2 hnd'.2.1 (fun b hb => ⟨(hO b (by simp [hb])).1, (hO b (by simp [hb])).2.1, (hO b (by simp [hb])).2.2.1, fun i e hi => hne i e hi b hb⟩)
          have hat : VX w.heap S (ι.setO (rid d j) cs O1) (Ex.put (rid d j) (.own t x.1) hp) (.at_ (rid d j) []) [v1] := by
            refine ⟨.own t x.1, t, x.1, cs, by simp [look_put], ?_, ?_, .inr ⟨t, x.1, rfl, rfl, by simp [Ix.setO]⟩, by rw [e3]⟩
            · simp only [Ent.ty]; cases t <;> trivial
            · simp only [Ent.ty, Ent.x]; cases t <;> first | rfl | (rename_i o _; cases o <;> rfl)
          refine ⟨ι', k1, ⟨v1, us1, e1, k3 _ _ (fun k hk1 hk2 => ?_) hat, k2⟩, fun v vs hm hv => ?_⟩
          · exact beq_ne (by simp only [rid]; omega)
          · refine k3 v vs (fun k hk1 hk2 => hm k (by omega) (by simp; omega)) ?_
            exact VX.other (d := rid d j) (fun i hi => by rw [look_put, if_neg hi]) (fun i hi => sameAt_setO hi _ _) (hm j (Nat.le_refl _) (by simp)) hv
        · cases hl

theorem noMents_all {d : Nat} : ∀ {n : Nat} {fr : List (Nat × AV)}, noMents d n fr = true → ∀ k, k < n → noMent (rid d k) fr = true
  | 0, _, _, k, hk => by omega
  | n + 1, fr, h, k, hk => by
    simp only [noMents, Bool.and_eq_true] at h
    by_cases e : k = n
    · subst e; exact h.1
    · exact noMents_all h.2 k (by omega)

def AV.lst : AV → Bool
  | .nil => true
  | .cons _ b => b.lst
  | _ => false

theorem layRes_lst : ∀ {ts : List Ty} {x : DL ts} {d j : Nat} {hp : List (Nat × Ent)} {l : AV} {hp' : List (Nat × Ent)}, layRes ts x d j hp = some (l, hp') → l.lst = true
  | [], x, d, j, hp, l, hp', h => by
    simp only [layRes, Option.some.injEq, Prod.mk.injEq] at h
    rw [← h.1]; rfl
  | t :: ts, x, d, j, hp, l, hp', h => by
    simp only [layRes] at h
    split at h
    · split at h
      · rename_i l' hp2 hl'
        cases h
        show l'.lst = true
        exact layRes_lst hl'
      · cases h
    · split at h
      · cases h
      · split at h
        · rename_i l' hp2 hl'
          cases h
          show l'.lst = true
          exact layRes_lst hl'
        · cases h

theorem retV_one {l : AV} {us : List Value} (hl : l.lst = true) (h : VX H S ι hp l us) : VX H S ι hp l.one [retV us] := by
  cases l <;> simp only [AV.lst] at hl <;> first | cases hl | skip
  · have : us = [] := h
    subst this
    exact ⟨[], rfl, rfl⟩
  · rename_i a b
    obtain ⟨v, us', rfl, ha, hb⟩ := h
    cases b <;> simp only [AV.lst] at hl <;> first | cases hl | skip
    · have : us' = [] := hb
      subst this; exact ha
    · obtain ⟨v2, us2, rfl, hb1, hb2⟩ := hb
      exact ⟨v :: v2 :: us2, rfl, v, _, rfl, ha, v2, us2, rfl, hb1, hb2⟩

theorem VX.app {l m : AV} : ∀ {us vs : List Value}, l.lst = true → VX H S ι hp l us → VX H S ι hp m vs → VX H S ι hp (l.app m) (us ++ vs) := by
  induction l <;> intro us vs hl h hm <;> simp only [AV.lst] at hl <;> first | cases hl | skip
  · have : us = [] := h
    subst this; exact hm
  · rename_i a b _ ihb
    obtain ⟨v, us', rfl, ha, hb⟩ := h
    exact ⟨v, us' ++ vs, rfl, ha, ihb hl hb hm⟩

theorem evs_lst (s : St) : ∀ l : List Operand, (s.evs l).lst = true
  | [] => rfl
  | _ :: l => evs_lst s l

/-- a call by its contract -/
theorem callA_sound (hE : EnvOk E) (h : RS B S ι s a w) {o : Oper} {c : Call} (ho : o.op = .call c) {f : Operand} (hf : c.callee = .value f) {g : FuncId} {caps : AV} (hg : s.ev f = .clo g caps) :
    ORok E.P B o a w (callA E g ((s.evs c.args.toList).app caps) o.dst s) := by
  obtain ⟨us, he, hcap⟩ := evx h hg
  have he : a.eval f = .func (.func g) #[] us.toArray := by simpa using he
  have hargs := VX.app (evs_lst s _) (h.evs c.args.toList) hcap
  unfold callA
  split
  · trivial
  · rename_i ct hct
    have hV := hE.ctr g ct hct
    split
    · trivial
    · rename_i x hx
      split
      · trivial
      · rename_i hlend
        split
        · trivial
        · rename_i hnm
          split
          · rename_i l hp' hl
            intro hpre next Q hn
            obtain ⟨fn, hfn, hname, hbody⟩ := hV.ent
            -- what the callee may read
            let S1 : Nat → Prop := fun b => S b ∨ ((AV.app (s.evs c.args.toList) caps).lent = true ∧ Lend S ι s.hp b)
            have hK := asKs_rep (S1 := S1) h.hs (fun b hb => .inl hb) hx hargs (fun hl b hb => .inr ⟨hl, hb⟩)
            have hS1 : ∀ b, S1 b → b < w.heap.size := by
              rintro b (hb | ⟨_, hb | ⟨i, e, h1, h2⟩⟩)
              · exact h.hs.slt b hb
              · exact h.hs.slt b hb
              · exact (h.hs.bl i e h1 b h2).2.2
            have hcall := hV.run w S1 _ x hS1 hpre hK
            unfold Oper.wp
            have hrun : (execOp a.eval o).run E.P w = .ok (.enter g (c.args.toList.map a.eval ++ us).toArray) w := by
              have hnb : fn.body.isNone = false := hbody
              have hq : (fn.name == "runtime.NumGoroutine") = false := hname
              simp only [execOp, ho, resolve, hf, he, Deferred.ofValue, Sem.run_bind, Sem.run_pure, Result.andThen, invoke, callFunc, program]
              simp [Sem.run, hfn, hq, hnb]
            rw [hrun]
            refine Calls.mono hcall ?_
            rintro e w' ⟨rs, O, S', e1, hbelow, hs1, hs2, hres, hnd, hO⟩
            subst e1
            -- the state behind the call
            have hold : ∀ b, b < w.heap.size → w'.heap[b]? = w.heap[b]? := fun b hb => hbelow.block b hb
            have hsz := hbelow.size
            have main : ∀ S2 : Nat → Prop, (∀ b, S b → S2 b) → (∀ b, S2 b → S b ∨ (w.heap.size ≤ b ∧ b < w'.heap.size)) → (∀ b ∈ O, ¬ S2 b) → ResRep w'.heap S2 ct.rs O rs (ct.fn x) → next (a.put o.dst (retV rs)) w' := by
              intro S2 hS2 hS2' hOS hres2
              have hlt : ∀ {b}, (∃ i e, look i s.hp = some e ∧ b ∈ blks ι i e) ∨ S b → b < w.heap.size := fun hb => h.hs.bl_lt hb
              have hHS : HS B S2 ι s.hp w' := by
                refine ⟨hbelow.os.trans h.hs.os, hbelow.tape.trans h.hs.tape, hbelow.output.trans h.hs.out, Nat.le_trans h.hs.size hsz, ?_, ?_, fun b hb => hS2 b (h.hs.s0 b hb), ?_, ?_, ?_, h.hs.dj⟩
                · intro b hb hm; rw [hold b (by have := h.hs.size; omega)]; exact h.hs.frame b hb hm
                · intro b hb
                  rcases hS2' b hb with h1 | h1
                  · have := h.hs.slt b h1; omega
                  · exact h1.2
                · intro b hb
                  rcases hS2' b hb with h1 | h1
                  · exact h.hs.s1 b h1
                  · right; have := h.hs.size; omega
                · intro i e hi
                  exact (h.hs.ob i e hi).stable (fun b hb => hold b (hlt (hb.imp (fun h => ⟨i, e, hi, h⟩) id))) hS2
                · intro i e hi b hb
                  obtain ⟨q1, q2, q3⟩ := h.hs.bl i e hi b hb
                  refine ⟨fun hs => ?_, q2, by omega⟩
                  rcases hS2' b hs with h1 | h1
                  · exact q1 h1
                  · omega
              have hO2 : ∀ b ∈ O, ¬ S2 b ∧ (B.w0.heap.size ≤ b ∨ B.M b) ∧ b < w'.heap.size ∧ ∀ i e, look i s.hp = some e → b ∉ blks ι i e := by
                intro b hb
                obtain ⟨q1, q2, q3⟩ := hO b hb
                refine ⟨hOS b hb, .inl (by have := h.hs.size; omega), q3, fun i e hi hbb => ?_⟩
                have := (h.hs.bl i e hi b hbb).2.2
                omega
              obtain ⟨ι', k1, k2, k3⟩ := layRes_sound hl hHS hres2 hnd hO2
              refine hn S2 ι' w' (retV rs) ⟨k1, h.dfr, h.sz, fun t v hv => ?_⟩ (retV_one (layRes_lst hl) k2)
              have h0 := h.fr t v hv
              refine k3 v _ (fun k hk1 hk2 => look_noMent (noMents_all hnm k (by omega)) hv) ?_
              exact VX.grow (fun b hb => hold b (hlt hb)) hS2 h.hs.ob h0
            simp only [Bool.or_eq_true, Bool.not_eq_true'] at hlend
            rcases hlend with hno | hle
            · refine main S (fun _ h => h) (fun b hb => .inl hb) (fun b hb hs => (hO b hb).1 (hs1 b (.inl hs))) (hres.noSh hno)
            · refine main S' (fun b hb => hs1 b (.inl hb)) (fun b hb => ?_) (fun b hb => (hO b hb).1) hres
              rcases hs2 b hb with (h1 | ⟨h1, _⟩) | h1
              · exact .inl h1
              · rw [hle] at h1; cases h1
              · exact .inr h1
          · trivial

end
end Go.Ex
