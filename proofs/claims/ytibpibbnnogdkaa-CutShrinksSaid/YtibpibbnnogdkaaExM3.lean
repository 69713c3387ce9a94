import Derived.Test.YtibpibbnnogdkaaExM2
namespace Go.Ex

section
variable {E : Env} {B : Base} {S S' : Nat → Prop} {ι : Ix} {s : St} {a : Act} {w : World} {hp : List (Nat × Ent)} {H H' : Array Go.Obj}

theorem layRes_sound : ∀ {ts : List Ty} {x : DL ts} {d j : Nat} {ι : Ix} {hp : List (Nat × Ent)} {l : AV} {hp' : List (Nat × Ent)} {O : List Nat} {us : List Value}, layRes ts x d j hp = some (l, hp') → HS B S ι hp w → ResRep w.heap S ts O us x →
    Flt B S ι hp w O → ∃ ι', HS B S ι' hp' w ∧ VX w.heap S ι' hp' l us ∧ (∀ v vs, (∀ k, j ≤ k → k < j + ts.length → v.ment (rid d k) = false) → VX w.heap S ι hp v vs → VX w.heap S ι' hp' v vs)
  | [], x, d, j, ι, hp, l, hp', O, us, hl, h, hR, _ => by
    simp only [layRes, Option.some.injEq, Prod.mk.injEq] at hl
    obtain ⟨rfl, rfl⟩ := hl
    exact ⟨ι, h, hR.2, fun v vs _ hv => hv⟩
  | t :: ts, x, d, j, ι, hp, l, hp', O, us, hl, h, ⟨v1, us1, O1, O2, cs, e1, e2, e3, h1, h2⟩, hF => by
    subst e2
    have hnd' := List.nodup_append.1 hF.1
    simp only [layRes] at hl
    split at hl
    · rename_i hs
      split at hl
      · rename_i l' hp2 hl'
        cases hl
        have hO1 := h1.nilO hs
        subst hO1
        obtain ⟨ι', k1, k2, k3⟩ := layRes_sound hl' h h2 (hF.sub hnd'.2.1 (fun b hb => by simp [hb]))
        refine ⟨ι', k1, ⟨v1, us1, e1, ⟨cs, by rw [e3], h1⟩, k2⟩, fun v vs hm hv => k3 v vs (fun k hk1 hk2 => hm k (by omega) (by simp; omega)) hv⟩
      · cases hl
    · split at hl
      · cases hl
      · rename_i hlk
        split at hl
        · rename_i l' hp2 hl'
          cases hl
          have hd : look (rid d j) hp = none := hlk
          have hs : ∀ i, i ≠ rid d j → SameAt ι (ι.setO (rid d j) cs O1) i := fun i hi => sameAt_setO hi _ _
          have hH : HS B S (ι.setO (rid d j) cs O1) (Ex.put (rid d j) (.own t x.1) hp) w := h.add hd hs ⟨⟨O1, by simp [Ix.setO], by simpa [Ix.setO] using h1⟩, by simpa [Ix.setO] using hnd'.1⟩ (O := O1) (by intro b hb; simpa [blks, Ix.setO] using hb) (hF.sub hnd'.1 (fun b hb => by simp [hb]))
          have hF2 : Flt B S (ι.setO (rid d j) cs O1) (Ex.put (rid d j) (.own t x.1) hp) w O2 := by
            refine ⟨hnd'.2.1, fun b hb => ?_⟩
            obtain ⟨q1, q2, q3, q4⟩ := hF.2 b (by simp [hb])
            refine ⟨q1, q2, q3, fun i e hi => ?_⟩
            rw [look_put] at hi
            by_cases ei : i = rid d j
            · subst ei; rw [if_pos rfl] at hi; cases hi
              simp only [blks, Ix.setO, if_pos]
              exact fun hb1 => hnd'.2.2 b hb1 b hb rfl
            · rw [if_neg ei] at hi
              rw [(hs i ei).blks]
              exact q4 i e hi
          obtain ⟨ι', k1, k2, k3⟩ := layRes_sound hl' hH h2 hF2
          have hat : VX w.heap S (ι.setO (rid d j) cs O1) (Ex.put (rid d j) (.own t x.1) hp) (.at_ (rid d j) []) [v1] := by rw [e3]; exact at_new h1.length
          refine ⟨ι', k1, ⟨v1, us1, e1, k3 _ _ (fun k hk1 hk2 => ?_) hat, k2⟩, fun v vs hm hv => ?_⟩
          · exact beq_ne (by simp only [rid]; omega)
          · exact k3 v vs (fun k hk1 hk2 => hm k (by omega) (by simp; omega)) (VX.add hs (hm j (Nat.le_refl _) (by simp)) hv)
        · cases hl

theorem noMents_all {d : Nat} : ∀ {n : Nat} {fr : List (Nat × AV)}, noMents d n fr = true → ∀ k, k < n → noMent (rid d k) fr = true
  | 0, _, _, k, hk => by omega
  | n + 1, fr, h, k, hk => by
    simp only [noMents, Bool.and_eq_true] at h
    by_cases e : k = n
    · subst e; exact h.1
    · exact noMents_all h.2 k (by omega)

def AV.lst : AV → Bool
  | .nil => true
  | .cons _ b => b.lst
  | _ => false

theorem layRes_lst : ∀ {ts : List Ty} {x : DL ts} {d j : Nat} {hp : List (Nat × Ent)} {l : AV} {hp' : List (Nat × Ent)}, layRes ts x d j hp = some (l, hp') → l.lst = true
  | [], x, d, j, hp, l, hp', h => by
    simp only [layRes, Option.some.injEq, Prod.mk.injEq] at h
    rw [← h.1]; rfl
  | t :: ts, x, d, j, hp, l, hp', h => by
    simp only [layRes] at h
    split at h
    · split at h
      · rename_i l' hp2 hl'
        cases h
        show l'.lst = true
        exact layRes_lst hl'
      · cases h
    · split at h
      · cases h
      · split at h
        · rename_i l' hp2 hl'
          cases h
          show l'.lst = true
          exact layRes_lst hl'
        · cases h

theorem retV_one {l : AV} {us : List Value} (hl : l.lst = true) (h : VX H S ι hp l us) : VX H S ι hp l.one [retV us] := by
  cases l <;> simp only [AV.lst] at hl <;> first | cases hl | skip
  · have : us = [] := h
    subst this
    exact ⟨[], rfl, rfl⟩
  · rename_i a b
    obtain ⟨v, us', rfl, ha, hb⟩ := h
    cases b <;> simp only [AV.lst] at hl <;> first | cases hl | skip
    · have : us' = [] := hb
      subst this; exact ha
    · obtain ⟨v2, us2, rfl, hb1, hb2⟩ := hb
      exact ⟨v :: v2 :: us2, rfl, v, _, rfl, ha, v2, us2, rfl, hb1, hb2⟩

theorem VX.app {l m : AV} : ∀ {us vs : List Value}, l.lst = true → VX H S ι hp l us → VX H S ι hp m vs → VX H S ι hp (l.app m) (us ++ vs) := by
  induction l <;> intro us vs hl h hm <;> simp only [AV.lst] at hl <;> first | cases hl | skip
  · have : us = [] := h
    subst this; exact hm
  · rename_i a b _ ihb
    obtain ⟨v, us', rfl, ha, hb⟩ := h
    exact ⟨v, us' ++ vs, rfl, ha, ihb hl hb hm⟩

theorem evs_lst (s : St) : ∀ l : List Operand, (s.evs l).lst = true
  | [] => rfl
  | _ :: l => evs_lst s l


theorem out_none : ∀ {ks : List PK} {vs : List Value} {y : DL (wts ks)} {L : List Nat}, wts ks = [] → OutRep H S ks vs y L → L = []
  | [], _, _, _, _, h => h.2
  | .rw t :: ks, _, _, _, e, _ => by cases e
  | .mu t :: ks, _, _, _, e, _ => by cases e
  | .v _ :: ks, _, _, _, e, ⟨_, us, _, h⟩ => out_none (ks := ks) e h
  | .rd _ :: ks, _, _, _, e, ⟨_, us, _, h⟩ => out_none (ks := ks) e h
  | .clo _ _ :: ks, _, _, _, e, ⟨_, us, _, h⟩ => out_none (ks := ks) e h
  | .own _ :: ks, _, _, _, e, ⟨_, us, _, h⟩ => out_none (ks := ks) e h

theorem asK_m {k : PK} {v : AV} {x : k.den} {g m : List Nat} (h : v.asK s k = some (x, g, m)) (hk : (match k with | .rw _ | .mu _ => false | _ => true) = true) : m = [] := by
  cases k with
  | v t => simp only [AV.asK] at h; split at h <;> cases h; rfl
  | rd t => simp only [AV.asK] at h; split at h <;> cases h; rfl
  | clo f ts =>
    cases v <;> simp only [AV.asK] at h <;> first | cases h | skip
    split at h
    · split at h <;> cases h; rfl
    · cases h
  | own t =>
    simp only [AV.asK] at h
    split at h
    · split at h <;> cases h; rfl
    · split at h
      · split at h <;> cases h; rfl
      · cases h
  | rw t => cases hk
  | mu t => cases hk

/-- what a call leaves in the object that it writes -/
def Wrote (H' : Array Go.Obj) (S' : Nat → Prop) (ι : Ix) (i : Nat) (e' : Ent) (L : List Nat) : Prop :=
  ∃ O', OB H' S' (ι.setB i O') i e' ∧ L = blks (ι.setB i O') i e'

theorem wr_out (h : HS B S ι s.hp w) : ∀ {ks : List PK} {v : AV} {x : DK ks} {vs : List Value} {g m : List Nat} {y : DL (wts ks)} {s1 s2 : St} {L : List Nat}, AV.asKs s ks v = some (x, g, m) → VX w.heap S ι s.hp v vs → wr ks y m s1 = some s2 → OutRep H' S' ks vs y L → L.Nodup →
    (m = [] ∧ s2 = s1 ∧ L = []) ∨ (∃ i e e', m = [i] ∧ look i s.hp = some e ∧ Alike1 e e' ∧ s2 = (s1.killR i e.isOwn).putE i e' ∧ Wrote H' S' ι i e' L)
  | [], v, x, vs, g, m, y, s1, s2, L, hx, hv, hw, ho, hnd => by
    cases v <;> simp only [AV.asKs] at hx <;> first | cases hx | skip
    simp only [wr, Option.some.injEq] at hw
    exact .inl ⟨rfl, hw.symm, ho.2⟩
  | k :: ks, v, x, vs, g, m, y, s1, s2, L, hx, hv, hw, ho, hnd => by
    cases v <;> simp only [AV.asKs] at hx <;> first | cases hx | skip
    rename_i a b
    split at hx
    · rename_i x1 g1 m1 x2 g2 m2 h1 h2
      cases hx
      obtain ⟨v, us, rfl, ha, hb⟩ := hv
      cases k with
      | v t =>
        have := asK_m h1 rfl; subst this
        obtain ⟨v', us', e, ho'⟩ := ho
        cases e
        exact wr_out h h2 hb hw ho' hnd
      | rd t =>
        have := asK_m h1 rfl; subst this
        obtain ⟨v', us', e, ho'⟩ := ho
        cases e
        exact wr_out h h2 hb hw ho' hnd
      | clo f ts =>
        have := asK_m h1 rfl; subst this
        obtain ⟨v', us', e, ho'⟩ := ho
        cases e
        exact wr_out h h2 hb hw ho' hnd
      | own t =>
        have := asK_m h1 rfl; subst this
        obtain ⟨v', us', e, ho'⟩ := ho
        cases e
        exact wr_out h h2 hb hw ho' hnd
      | rw t =>
        simp only [AV.asK] at h1
        split at h1
        · rename_i i
          split at h1
          · rename_i u z hob
            split at h1
            · rename_i hu; subst hu; cases h1
              obtain ⟨e, b0, off, q1, q2, q3, q4⟩ := ha
              obtain rfl := ent_of q1 hob
              have hl : (ι.root i).1 = b0 ∧ (ι.root i).2 = off := by
                have := (Loc_place q3).1
                simp only [Place, Nav_nil, VR, Option.some.injEq, Prod.mk.injEq] at this
                exact this
              obtain ⟨rfl, rfl⟩ := hl
              obtain ⟨b1, off1, O, us', L', r1, r2, r3, r4, r5⟩ := ho
              have q4 : v = .pointer (some ⟨(ι.root i).1, (ι.root i).2, none⟩) := by simpa using q4
              rw [q4] at r1
              simp only [List.cons.injEq, Value.pointer.injEq, Option.some.injEq, Addr.mk.injEq, and_true] at r1
              obtain ⟨⟨rfl, rfl⟩, rfl⟩ := r1
              cases m2 with
              | cons j m2 => simp [wr] at hw
              | nil =>
                simp only [List.append_nil, wr] at hw
                split at hw
                · rename_i hwt
                  cases hw
                  have := out_none hwt r5
                  subst this
                  rw [List.append_nil] at r4
                  subst r4
                  exact .inr ⟨i, _, .var u y.1, rfl, q1, .inl ⟨u, z, y.1, rfl, rfl⟩, rfl, O, ⟨⟨O, by simp [Ix.setB], r2⟩, r3, by simpa [Ix.setB] using hnd⟩, by simp [blks, Ix.setB]⟩
                · cases hw
            · cases h1
          · cases h1
        · cases h1
      | mu t =>
        simp only [AV.asK] at h1
        split at h1
        · rename_i i
          split at h1
          · rename_i u z hob
            split at h1
            · rename_i hu; subst hu; cases h1
              obtain ⟨e, u', y', cs, q1, q2, q3, q4, q5⟩ := ha
              obtain rfl := ent_of q1 hob
              have q3 : getP (.slc true t) z [] = some ⟨u', y'⟩ := q3
              rw [getP_nil] at q3; cases q3
              obtain ⟨⟨O0, _, hR0⟩, _⟩ := h.ob i _ q1
              have hcs := own_cells_inv q4 hR0.length
              obtain ⟨cs1, O, us', L', r1, r1', r2, r4, r5⟩ := ho
              have q5 : v = toV (.slc true t) cs := by simpa using q5
              rw [q5] at r1
              have hcl : cs.length = 1 := by rw [hcs]; exact hR0.length
              have hcc : cs1 = cs := by
                match cs, cs1, hcl, r1' with
                | [c], [c'], _, _ =>
                  simp only [List.cons.injEq, toV, Ty.agg] at r1
                  have := r1.1
                  simp at this
                  rw [this]
              subst hcc
              cases m2 with
              | cons j m2 => simp [wr] at hw
              | nil =>
                simp only [List.append_nil, wr] at hw
                split at hw
                · rename_i hwt
                  cases hw
                  have := out_none hwt r5
                  subst this
                  rw [List.append_nil] at r4
                  subst r4
                  exact .inr ⟨i, _, .own (.slc true t) y.1, rfl, q1, .inr ⟨t, z, y.1, rfl, rfl⟩, rfl, L, ⟨⟨L, by simp [Ix.setB], by rw [show (ι.setB i L).cells i = cs1 from hcs.symm]; exact r2⟩, by simpa [Ix.setB] using hnd⟩, by simp [blks, Ix.setB]⟩
                · cases hw
            · cases h1
          · cases h1
        · cases h1
    · cases hx

end
end Go.Ex
