import Derived.Test.YtibpibbnnogdkaaExL
namespace Go.Ex

section
variable {E : Env} {B : Base} {S S' : Nat → Prop} {ι : Ix} {s : St} {a : Act} {w : World} {hp : List (Nat × Ent)} {H H' : Array Go.Obj}

theorem Ty.sh_sh (t : Ty) : t.sh.sh = t.sh := by
  induction t with
  | pair a b iha ihb => simp only [Ty.sh, iha, ihb]
  | arr n t ih => simp only [Ty.sh, ih]
  | slc o t ih => simp only [Ty.sh, ih]
  | _ => rfl

theorem cast_pair {A A' C C' : Type} (ha : A = A') (hc : C = C') (h : (A × C) = (A' × C')) (x : A × C) : cast h x = (cast ha x.1, cast hc x.2) := by subst ha; subst hc; rfl
theorem cast_list {A A' : Type} (ha : A = A') (h : List A = List A') (l : List A) : cast h l = l.map (cast ha) := by
  subst ha
  show l = List.map (fun x => x) l
  simp

theorem RepL.map {α β : Type} {R : List Nat → List Value → α → Prop} {R' : List Nat → List Value → β → Prop} {sz : Nat} {f : α → β} {L : List Nat} (hr : ∀ O cs x, (∀ b ∈ O, b ∈ L) → R O cs x → R' [] cs (f x)) :
    ∀ {l : List α} {O : List Nat} {cs : List Value}, (∀ b ∈ O, b ∈ L) → RepL R sz O cs l → RepL R' sz [] cs (l.map f)
  | [], _, _, _, ⟨_, h⟩ => ⟨rfl, h⟩
  | _ :: _, _, _, hO, ⟨O1, O2, e, h1, h2⟩ => by
    subst e
    exact ⟨[], [], rfl, hr _ _ _ (fun b hb => hO b (by simp [hb])) h1, RepL.map hr (fun b hb => hO b (by simp [hb])) h2⟩

/-- an owned reading, as a shared one -/
theorem Rep.toSh : ∀ {u : Ty} {O : List Nat} {cs : List Value} {y : u.den}, Rep H S u O cs y → (∀ b ∈ O, S' b) → (∀ b, S b → S' b) → Rep H S' u.sh [] cs (cast (den_sh u).symm y) := by
  intro u
  induction u with
  | int k => intro O cs y h _ _; exact ⟨rfl, h.2⟩
  | bool => intro O cs y h _ _; exact ⟨rfl, h.2⟩
  | str => intro O cs y h _ _; exact ⟨rfl, h.2⟩
  | unit => intro O cs y h _ _; exact ⟨rfl, h.2⟩
  | pair a c iha ihc =>
    rintro O cs y ⟨O1, O2, rfl, h1, h2⟩ hO hS
    have e := cast_pair (den_sh a).symm (den_sh c).symm (den_sh (.pair a c)).symm y
    refine Eq.subst (motive := fun z => Rep H S' (.pair a.sh c.sh) [] cs z) e.symm ?_
    exact ⟨[], [], rfl, by rw [size_sh]; exact iha h1 (fun b hb => hO b (by simp [hb])) hS, by rw [size_sh]; exact ihc h2 (fun b hb => hO b (by simp [hb])) hS⟩
  | arr n t ih =>
    rintro O cs y ⟨h1, h2⟩ hO hS
    have e := cast_list (den_sh t).symm (den_sh (.arr n t)).symm y
    refine Eq.subst (motive := fun z => Rep H S' (.arr n t.sh) [] cs z) e.symm ?_
    refine ⟨by rw [List.length_map]; exact h1, ?_⟩
    rw [size_sh]
    exact RepL.map (L := O) (fun O1 cs x hL hr => ih hr (fun b hb => hO b (hL b hb)) hS) (fun _ h => h) h2
  | slc o t ih =>
    rintro O cs y h hO hS
    have e := cast_list (den_sh t).symm (den_sh (.slc o t)).symm y
    refine Eq.subst (motive := fun z => Rep H S' (.slc false t.sh) [] cs z) e.symm ?_
    rcases h with ⟨_, ⟨a, c, h2, h2'⟩, h3⟩ | ⟨b, off, cap, O', c1, c2, c3, c4, c5, c6⟩
    · subst h3; exact .inl ⟨rfl, ⟨a, c, h2, fun h => by cases h⟩, rfl⟩
    · have hb : S' b := by
        cases o with
        | true => exact hO b (by rw [c6.1]; simp)
        | false => exact hS b c6.2.2
      have hO' : ∀ c ∈ O', c ∈ O := by
        intro c hc
        cases o with
        | true => rw [c6.1]; simp [hc]
        | false => rw [c6.2.1] at hc; cases hc
      refine .inr ⟨b, off, cap, [], by rw [List.length_map]; exact c1, by rw [List.length_map]; exact c2, ⟨c3.1, fun h => by cases h⟩, by rw [List.length_map, size_sh]; exact c4, ?_, rfl, rfl, hb⟩
      rw [List.length_map, size_sh]
      exact RepL.map (L := O) (fun O1 cs x hL hr => ih hr (fun b hb => hO b (hL b hb)) hS) hO' c5

/-- a block of object i -/
def BlkOf1 (ι : Ix) (hp : List (Nat × Ent)) (i b : Nat) : Prop := ∃ e, look i hp = some e ∧ b ∈ blks ι i e

/-- a view's elements lie in the object's own blocks -/
theorem sub_own (h : HS B S ι s.hp w) {i : Nat} {p : List Step} {lo hi : Int} {v : Value} (hv : VX w.heap S ι s.hp (.sub i p lo hi) [v]) {t : Ty} {l : List t.den} (hw : s.view i p lo hi = some ⟨t, l⟩) :
    ∃ A c, v = toV (.slc false t.sh) [.slice A l.length c] ∧ (l = [] ∨ ∃ b off O, A = some ⟨b, off, none⟩ ∧ BlkOf1 ι s.hp i b ∧ off + l.length * t.size ≤ (blk w.heap b).length ∧ RepL (Rep w.heap S t) t.size O (cellsAt w.heap b off (l.length * t.size)) l ∧ (∀ c ∈ O, BlkOf1 ι s.hp i c) ∧ (l.length ≤ c ∧ c ≤ maxLen)) := by
  obtain ⟨e, v', h1, h2, h3, h4, h5, h6⟩ := hv
  cases h3
  have hob := h.ob i e h1
  unfold St.view at hw
  rcases h6 with ⟨t', l', a, cap, k1, k2, k3, c, A, k4, kA, k5, k6⟩ | ⟨n, t', l', b, off, k1, ⟨k2, k2'⟩, k3, c, A, k4, kA, k5, k6⟩
  · have hp : s.part i p = some ⟨.slc true t', l'⟩ := by unfold St.part St.obj; rw [h1]; exact k1
    rw [hp] at hw
    simp only [Option.some.injEq, Sigma.mk.injEq] at hw
    obtain ⟨rfl, hw⟩ := hw
    have hw := eq_of_heq hw
    subst hw
    have hlen : (cut2 lo hi l').length = (hi - lo).toNat := cut2_length h4 k2
    refine ⟨_, c, by rw [hlen]; exact k4, ?_⟩
    by_cases hz : cut2 lo hi l' = []
    · exact .inl hz
    · obtain ⟨O2, m1, m2, m3⟩ := sub_rep h h1 h2 k1 k3
      rcases m3 with ⟨_, _, hn⟩ | ⟨b1, o1, cap', O', c1, c2, c3, c4, c5, rfl, c7⟩
      · exfalso; apply hz; rw [hn]; simp [cut2]
      · simp only [List.cons.injEq, Value.slice.injEq, and_true] at c1
        obtain ⟨rfl, _, rfl⟩ := c1
        have hpos : 0 < (hi - lo).toNat := by rw [← hlen]; exact List.length_pos_iff.2 hz
        obtain ⟨P1, P2, P3, e1, g⟩ := c5.cut lo.toNat (hi - lo).toNat
        have hle : lo.toNat * t'.size + (hi - lo).toNat * t'.size ≤ List.length l' * t'.size := by rw [← Nat.add_mul]; exact Nat.mul_le_mul_right _ (by omega)
        rw [cellsAt_drop, cellsAt_take _ _ _ _ (by omega)] at g
        refine .inr ⟨b1, o1 + lo.toNat * t'.size, P2, by rw [kA (by omega), Option.map_some, Addr.add_none], ⟨e, h1, own_blks (m1 b1 (by simp))⟩, by rw [hlen]; omega, by rw [hlen]; exact g, fun c hc => ⟨e, h1, own_blks (m1 c (by rw [e1]; simp [hc]))⟩, by rw [hlen]; exact k5, by have := c3.1; omega⟩
  · have hp : s.part i p = some ⟨.arr n t', l'⟩ := by unfold St.part St.obj; rw [h1]; exact k1
    rw [hp] at hw
    simp only [Option.some.injEq, Sigma.mk.injEq] at hw
    obtain ⟨rfl, hw⟩ := hw
    have hw := eq_of_heq hw
    subst hw
    obtain ⟨O2, m1, m2, m3, m4, m5, m6⟩ := Loc_mem (Loc_bag k3) hob h.slt h2 k1 k3
    obtain ⟨hl, m3⟩ := m3
    have hlen : (cut2 lo hi l').length = (hi - lo).toNat := cut2_length h4 (by rw [hl]; exact k2)
    refine ⟨_, c, by rw [hlen]; exact k4, ?_⟩
    by_cases hz : cut2 lo hi l' = []
    · exact .inl hz
    · have hpos : 0 < (hi - lo).toNat := by rw [← hlen]; exact List.length_pos_iff.2 hz
      obtain ⟨P1, P2, P3, e1, g⟩ := m3.cut lo.toNat (hi - lo).toNat
      have hle : lo.toNat * t'.size + (hi - lo).toNat * t'.size ≤ n * t'.size := by rw [← Nat.add_mul]; exact Nat.mul_le_mul_right _ (by omega)
      simp only [Ty.size] at g m4
      rw [cellsAt_drop, cellsAt_take _ _ _ _ (by omega)] at g
      exact .inr ⟨b, off + lo.toNat * t'.size, P2, by rw [kA (by omega), Option.map_some, Addr.add_none], ⟨e, h1, m5⟩, by rw [hlen]; omega, by rw [hlen]; exact g, fun c hc => ⟨e, h1, own_blks (m1 c (by rw [e1]; simp [hc]))⟩, by rw [hlen]; exact k5, by omega⟩


theorem lendP_inv {t : Ty} {r : Option (Sigma Ty.den)} {x : t.den} (h : lendP t r = some x) : ∃ u y, r = some ⟨u, y⟩ ∧ ∃ hu : u.sh = t, x = cast ((den_sh u).symm.trans (congrArg Ty.den hu)) y := by
  unfold lendP at h
  split at h
  · rename_i u y
    split at h
    · rename_i hu; cases h; exact ⟨u, y, rfl, hu, rfl⟩
    · cases h
  · cases h

theorem as_rep {v : AV} {t : Ty} {x : t.den} {val : Value} (h : v.as t = some x) (hv : VX H S ι hp v [val]) : ∃ cs, val = toV t cs ∧ Rep H S t [] cs x := by
  unfold AV.as at h
  split at h
  · rename_i u y
    split at h
    · rename_i hu; subst hu; cases h
      obtain ⟨cs, e, hR⟩ := hv
      exact ⟨cs, by simpa using e, hR⟩
    · cases h
  · split at h
    · cases h
      have : [val] = [Value.slice none 0 0] := hv
      exact ⟨[.slice none 0 0], by simpa [toV, Ty.agg] using this, .inl ⟨rfl, ⟨none, 0, rfl, fun _ => rfl⟩, rfl⟩⟩
    · cases h
  · cases h

/-- the blocks of the objects of a list -/
def BlkOf (ι : Ix) (hp : List (Nat × Ent)) (g : List Nat) (b : Nat) : Prop := ∃ i e, i ∈ g ∧ look i hp = some e ∧ b ∈ blks ι i e

/-- an argument, as the callee reads it -/
theorem asV_rep (h : HS B S ι s.hp w) {v : AV} {t : Ty} {x : t.den} {val : Value} (hx : v.asV s t = some x) (hv : VX w.heap S ι s.hp v [val]) {S1 : Nat → Prop} (hS : ∀ b, S b → S1 b) (hL : ∀ b, BlkOf ι s.hp v.lent b → S1 b) :
    ∃ cs, val = toV t cs ∧ Rep w.heap S1 t [] cs x := by
  unfold AV.asV at hx
  split at hx
  · rename_i i p
    obtain ⟨u, y, hp, hu, rfl⟩ := lendP_inv hx
    obtain ⟨e, u', y', cs, h1, h2, h3, h4, h5⟩ := hv
    have hg := part_of h1 hp
    rw [h3] at hg; cases hg
    subst hu
    obtain ⟨O2, k1, _, k2⟩ := sub_rep h h1 h2 h3 h4
    refine ⟨cs, by rw [toV_er (t := u) (by rw [Ty.sh_sh])]; simpa using h5, ?_⟩
    exact k2.toSh (fun b hb => hL b ⟨i, e, by simp [AV.lent], h1, own_blks (k1 b hb)⟩) hS
  · rename_i i p lo hi
    split at hx
    · rename_i u l hw
      obtain ⟨u', y, hp, hu, rfl⟩ := lendP_inv hx
      cases hp
      subst hu
      have hLB : ∀ b, (S b ∨ BlkOf1 ι s.hp i b) → S1 b := fun b hb => hb.elim (hS b) (fun ⟨e, h1, h2⟩ => hL b ⟨i, e, by simp [AV.lent], h1, h2⟩)
      -- the blocks are of object i or shared
      obtain ⟨A, c, k1, k2⟩ := sub_own h hv hw
      refine ⟨[.slice A l.length c], k1, ?_⟩
      have e := cast_list (den_sh u).symm (den_sh (.slc true u)).symm l
      refine Eq.subst (motive := fun z => Rep w.heap S1 (.slc false u.sh) [] [.slice A l.length c] z) e.symm ?_
      rcases k2 with rfl | ⟨b, off, O, rfl, hb, h4, h5, h6, h7⟩
      · exact .inl ⟨rfl, ⟨A, c, rfl, fun h => by cases h⟩, rfl⟩
      · refine .inr ⟨b, off, c, [], by rw [List.length_map], by rw [List.length_map]; exact h7.1, ⟨h7.2, fun h => by cases h⟩, by rw [List.length_map, size_sh]; exact h4, ?_, rfl, rfl, hLB b (.inr hb)⟩
        rw [List.length_map, size_sh]
        exact RepL.map (L := O) (fun O1 cs x hLm hr => hr.toSh (fun b hb => hLB b (.inr (h6 b (hLm b hb)))) hS) (fun _ h => h) h5
    · cases hx
  · rename_i u x'
    split at hx
    · rename_i hu; subst hu; cases hx
      obtain ⟨cs, e, hR⟩ := hv
      exact ⟨cs, by simpa using e, hR.stable (fun _ _ => rfl) hS⟩
    · obtain ⟨u', y, hp, hu, rfl⟩ := lendP_inv hx
      cases hp
      subst hu
      obtain ⟨cs, e, hR⟩ := hv
      refine ⟨cs, by rw [toV_er (t := u) (by rw [Ty.sh_sh])]; simpa using e, ?_⟩
      exact hR.toSh (by simp) hS
  · obtain ⟨cs, e, hR⟩ := as_rep hx hv
    exact ⟨cs, e, hR.stable (fun _ _ => rfl) hS⟩

theorem asR_rep (h : HS B S ι s.hp w) {v : AV} {t : Ty} {x : t.den} {val : Value} (hx : v.asR s t = some x) (hv : VX w.heap S ι s.hp v [val]) {S1 : Nat → Prop} (hS : ∀ b, S b → S1 b) (hL : ∀ b, BlkOf ι s.hp v.lent b → S1 b) :
    RdRep w.heap S1 t val x := by
  unfold AV.asR at hx
  split at hx
  · rename_i i p
    obtain ⟨u, y, hp, hu, rfl⟩ := lendP_inv hx
    obtain ⟨e, b, off, h1, h2, h3, h4⟩ := hv
    have hg := part_of h1 hp
    subst hu
    obtain ⟨O2, m1, m2, m3, m4, m5, _⟩ := Loc_mem (Loc_bag h3) (h.ob i e h1) h.slt h2 hg h3
    refine ⟨b, off, by simpa using h4, hL b ⟨i, e, by simp [AV.lent], h1, m5⟩, by rw [size_sh]; exact m4, ?_⟩
    rw [size_sh]
    exact m3.toSh (fun b hb => hL b ⟨i, e, by simp [AV.lent], h1, own_blks (m1 b hb)⟩) hS
  · rename_i u x'
    split at hx
    · rename_i hu; subst hu; cases hx
      obtain ⟨b, off, e, h1, h2, h3⟩ := hv
      exact ⟨b, off, by simpa using e, hS b h1, h2, h3.stable (fun _ _ => rfl) hS⟩
    · cases hx
  · cases hx

theorem asRL_rep (h : HS B S ι s.hp w) {S1 : Nat → Prop} (hS : ∀ b, S b → S1 b) : ∀ {ts : List Ty} {v : AV} {x : DL ts} {vs : List Value}, AV.asRL s ts v = some x → VX w.heap S ι s.hp v vs → (∀ b, BlkOf ι s.hp v.lent b → S1 b) → RdL w.heap S1 ts vs x
  | [], v, x, vs, hx, hv, _ => by
    cases v <;> simp only [AV.asRL] at hx <;> first | cases hx | skip
    exact hv
  | t :: ts, v, x, vs, hx, hv, hL => by
    cases v <;> simp only [AV.asRL] at hx <;> first | cases hx | skip
    rename_i a b
    split at hx
    · rename_i x1 x2 h1 h2
      cases hx
      obtain ⟨v, us, rfl, ha, hb⟩ := hv
      exact ⟨v, us, rfl, asR_rep h h1 ha hS (fun c hc => hL c (by obtain ⟨i, e, q1, q2⟩ := hc; exact ⟨i, e, by simp [AV.lent, q1], q2⟩)), asRL_rep h hS h2 hb (fun c hc => hL c (by obtain ⟨i, e, q1, q2⟩ := hc; exact ⟨i, e, by simp [AV.lent, q1], q2⟩))⟩
    · cases hx

/-- a view of an owned slice, as an owned slice of its own -/
theorem cut_rep {H : Array Go.Obj} {t' : Ty} {O2 : List Nat} {A : Option Addr} {cap : Nat} {x' : List t'.den} {lo hi : Int} {v : Value} (m3 : Rep H S (.slc true t') O2 [.slice A (List.length x') cap] x') (m2 : O2.Nodup) (h4 : 0 ≤ lo) (h5 : lo ≤ hi) (k2 : hi ≤ (List.length x' : Int)) (hv : SubV t'.size A cap lo hi v) :
    ∃ O cs, v = toV (.slc true t') cs ∧ Rep H S (.slc true t') O cs (cut2 lo hi x') ∧ O.Nodup ∧ ∀ b ∈ O, b ∈ O2 := by
  obtain ⟨c, A', k4, kA, k5, k6⟩ := hv
  have hlen : (cut2 lo hi x').length = (hi - lo).toNat := cut2_length h4 k2
  by_cases hc : c = 0
  · refine ⟨[], [.slice A' 0 0], ?_, .inl ⟨rfl, ⟨A', 0, rfl, fun _ => rfl⟩, ?_⟩, List.nodup_nil, by simp⟩
    · rw [k4, hc]
      have : (hi - lo).toNat = 0 := by omega
      rw [this]; rfl
    · exact List.length_eq_zero_iff.1 (by omega)
  · rcases m3 with ⟨_, ⟨a2, c2, q1, q2⟩, hn⟩ | ⟨b1, o1, cap', O', c1, c2, c3, c4, c5, rfl, c7⟩
    · exfalso
      simp only [List.cons.injEq, Value.slice.injEq, and_true] at q1
      have := q2 rfl
      omega
    · simp only [List.cons.injEq, Value.slice.injEq, and_true] at c1
      obtain ⟨rfl, _, rfl⟩ := c1
      obtain ⟨P1, P2, P3, e1, g1⟩ := c5.cut lo.toNat (hi - lo).toNat
      have hle : lo.toNat * t'.size + (hi - lo).toNat * t'.size ≤ List.length x' * t'.size := by rw [← Nat.add_mul]; exact Nat.mul_le_mul_right _ (by omega)
      have hcap : (lo.toNat + c) * t'.size ≤ cap * t'.size := Nat.mul_le_mul_right _ k6
      rw [Nat.add_mul] at hcap
      rw [cellsAt_drop, cellsAt_take _ _ _ _ (by omega)] at g1
      have hnd : (b1 :: P2).Nodup := by
        rw [e1] at m2
        have h1 := List.nodup_cons.1 m2
        refine List.nodup_cons.2 ⟨fun hb => h1.1 (by simp [hb]), (List.nodup_append.1 (List.nodup_append.1 h1.2).2.1).1⟩
      refine ⟨b1 :: P2, [.slice (some ⟨b1, o1 + lo.toNat * t'.size, none⟩) (cut2 lo hi x').length c], ?_, .inr ⟨b1, o1 + lo.toNat * t'.size, c, P2, rfl, by rw [hlen]; exact k5, ⟨by have := c3.1; omega, fun _ => by omega⟩, by rw [hlen]; omega, by rw [hlen]; exact g1, rfl, c7.mono (by omega)⟩, hnd, fun b hb => ?_⟩
      · rw [k4, kA hc, hlen, Option.map_some, Addr.add_none]; rfl
      · rcases List.mem_cons.1 hb with rfl | hb
        · simp
        · rw [e1]; simp [hb]

/-- what is handed over -/
theorem give_rep (h : HS B S ι s.hp w) {v : AV} {val : Value} {t : Ty} {x : t.den} {g : List Nat} (hg : v.give s = some (⟨t, x⟩, g)) (hv : VX w.heap S ι s.hp v [val]) :
    ∃ O cs, val = toV t cs ∧ Rep w.heap S t O cs x ∧ O.Nodup ∧ ∀ b ∈ O, BlkOf ι s.hp g b := by
  unfold AV.give at hg
  split at hg
  · cases hg
    obtain ⟨cs, e, hR⟩ := hv
    exact ⟨[], cs, by simpa using e, hR, List.nodup_nil, by simp⟩
  · rename_i i
    split at hg
    · rename_i t' x' hob
      cases hg
      obtain ⟨e, u, y, cs, h1, h2, h3, h4, h5⟩ := hv
      obtain rfl := ent_of h1 hob
      rw [getP_nil] at h3; cases h3
      obtain ⟨O2, m1, m2, m3⟩ := sub_rep h h1 h2 getP_nil h4
      have h5 : val = toV t cs := by simpa [Ent.ty] using h5
      exact ⟨O2, cs, h5, m3, m2, fun b hb => ⟨i, _, by simp, h1, own_blks (m1 b hb)⟩⟩
    · cases hg
  · rename_i i lo hi
    split at hg
    · rename_i t' x' hob
      cases hg
      obtain ⟨e, v, h1, h2, h3, h4, h5, h6⟩ := hv
      obtain rfl := ent_of h1 hob
      cases h3
      rcases h6 with ⟨t1, l, A, cap, k1, k2, k3, k4⟩ | ⟨n, t1, l, b, off, k1, _, k3, _⟩
      · have k1 : getP (.slc true t') x' [] = some ⟨.slc true t1, l⟩ := k1
        rw [getP_nil] at k1; cases k1
        obtain ⟨O2, m1, m2, m3⟩ := sub_rep h h1 h2 getP_nil k3
        obtain ⟨O, cs, q1, q2, q3, q4⟩ := cut_rep m3 m2 h4 h5 k2 k4
        exact ⟨O, cs, q1, q2, q3, fun b hb => ⟨i, _, by simp, h1, own_blks (m1 b (q4 b hb))⟩⟩
      · exfalso
        simp only [Loc, Place, Nav_nil, VR] at k3
        simp at k3
    · cases hg
  · cases hg

theorem giveV_rep (h : HS B S ι s.hp w) {v : AV} {val : Value} {t : Ty} {x : t.den} {g : List Nat} (hg : v.giveV s = some (⟨t, x⟩, g)) (hv : VX w.heap S ι s.hp v [val]) :
    ∃ O cs, val = toV t cs ∧ Rep w.heap S t O cs x ∧ O.Nodup ∧ ∀ b ∈ O, BlkOf ι s.hp g b := by
  unfold AV.giveV at hg
  split at hg
  · rename_i i
    split at hg
    · rename_i t' x' hob
      cases hg
      obtain ⟨e, u, y, cs, h1, h2, h3, h4, h5⟩ := hv
      obtain rfl := ent_of h1 hob
      rw [getP_nil] at h3; cases h3
      obtain ⟨O2, m1, m2, m3⟩ := sub_rep h h1 h2 getP_nil h4
      have h5 : val = toV t cs := by simpa [Ent.ty] using h5
      exact ⟨O2, cs, h5, m3, m2, fun b hb => ⟨i, _, by simp, h1, own_blks (m1 b hb)⟩⟩
    · exact give_rep h hg hv
  · exact give_rep h hg hv

theorem BlkOf.mono {g g' : List Nat} {b : Nat} (h : BlkOf ι hp g b) (hs : ∀ i ∈ g, i ∈ g') : BlkOf ι hp g' b := by
  obtain ⟨i, e, h1, h2⟩ := h; exact ⟨i, e, hs i h1, h2⟩

def PK.reads : PK → Bool
  | .own _ | .rw _ | .mu _ => false
  | _ => true

/-- one argument -/
theorem asK_rep (h : HS B S ι s.hp w) {S1 : Nat → Prop} (hS : ∀ b, S b → S1 b) {k : PK} {v : AV} {x : k.den} {val : Value} {g m : List Nat} (hx : v.asK s k = some (x, g, m)) (hv : VX w.heap S ι s.hp v [val])
    (hL : k.reads = true → ∀ b, BlkOf ι s.hp v.lent b → S1 b) :
    ∃ L, KRep w.heap S1 k val x L ∧ L.Nodup ∧ (∀ b ∈ L, BlkOf ι s.hp (g ++ m) b) ∧ ∀ i ∈ m, ∀ e, look i s.hp = some e → ∀ b ∈ blks ι i e, b ∈ L := by
  cases k with
  | v t =>
    simp only [AV.asK] at hx
    split at hx
    · rename_i y hy; cases hx
      obtain ⟨cs, e, hR⟩ := asV_rep h hy hv hS (hL rfl)
      exact ⟨[], ⟨rfl, cs, e, hR⟩, List.nodup_nil, by simp, by simp⟩
    · cases hx
  | rd t =>
    simp only [AV.asK] at hx
    split at hx
    · rename_i y hy; cases hx
      exact ⟨[], ⟨rfl, asR_rep h hy hv hS (hL rfl)⟩, List.nodup_nil, by simp, by simp⟩
    · cases hx
  | clo f ts =>
    cases v <;> simp only [AV.asK] at hx <;> first | cases hx | skip
    rename_i f' l
    cases hb : Nat.beq f f' with
    | false => rw [hb] at hx; cases hx
    | true =>
      rw [hb] at hx
      simp only at hx
      have hff := Nat.eq_of_beq_eq_true hb
      split at hx
      · rename_i y hy; cases hx
        obtain ⟨us, e, hus⟩ := hv
        exact ⟨[], ⟨rfl, us, by simpa [hff] using e, asRL_rep h hS hy hus (fun b hb => hL rfl b hb)⟩, List.nodup_nil, by simp, by simp⟩
      · cases hx
  | own t =>
    simp only [AV.asK] at hx
    split at hx
    · split at hx
      · rename_i y hy; cases hx
        obtain ⟨cs, e, hR⟩ := as_rep hy hv
        exact ⟨[], ⟨cs, e, hR.stable (fun _ _ => rfl) hS⟩, List.nodup_nil, by simp, by simp⟩
      · cases hx
    · split at hx
      · rename_i u y l hg
        split at hx
        · rename_i hu; subst hu; cases hx
          obtain ⟨O, cs, e, hR, hnd, hO⟩ := giveV_rep h hg hv
          exact ⟨O, ⟨cs, e, hR.stable (fun _ _ => rfl) hS⟩, hnd, fun b hb => (hO b hb).mono (by simp), by simp⟩
        · cases hx
      · cases hx
  | rw t =>
    simp only [AV.asK] at hx
    split at hx
    · rename_i i
      split at hx
      · rename_i u y hob
        split at hx
        · rename_i hu; subst hu; cases hx
          obtain ⟨e, b, off, h1, h2, h3, h4⟩ := hv
          obtain rfl := ent_of h1 hob
          obtain ⟨⟨O, hO, hR⟩, hf, hnd⟩ := h.ob i _ h1
          have hl : (ι.root i).1 = b ∧ (ι.root i).2 = off := by
            have := (Loc_place h3).1
            simp only [Place, Nav_nil, VR, Option.some.injEq, Prod.mk.injEq] at this
            exact this
          obtain ⟨rfl, rfl⟩ := hl
          refine ⟨(ι.root i).1 :: O, ⟨_, _, O, by simpa using h4, hR.stable (fun _ _ => rfl) hS, hf, rfl⟩, ?_, ?_, ?_⟩
          · exact ((hO.cons _).nodup_iff).2 hnd
          · intro c hc
            refine ⟨i, _, by simp, h1, ?_⟩
            simp only [blks]
            exact ((hO.cons _).mem_iff).1 hc
          · intro j hj e' he' c hc
            simp only [List.mem_cons, List.not_mem_nil, or_false] at hj
            subst hj
            rw [h1] at he'; cases he'
            exact ((hO.cons _).mem_iff).2 hc
        · cases hx
      · cases hx
    · cases hx
  | mu t =>
    simp only [AV.asK] at hx
    split at hx
    · rename_i i
      split at hx
      · rename_i u y hob
        split at hx
        · rename_i hu; subst hu; cases hx
          obtain ⟨e, u', y', cs, h1, h2, h3, h4, h5⟩ := hv
          obtain rfl := ent_of h1 hob
          rw [getP_nil] at h3; cases h3
          obtain ⟨⟨O, hO, hR⟩, hnd⟩ := h.ob i _ h1
          have hcs := own_cells_inv h4 hR.length
          have h5 : val = toV (.slc true t) cs := by simpa [Ent.ty] using h5
          refine ⟨O, ⟨cs, h5, by rw [hcs]; exact hR.stable (fun _ _ => rfl) hS⟩, (hO.nodup_iff).2 hnd, ?_, ?_⟩
          · intro c hc
            exact ⟨i, _, by simp, h1, hO.mem_iff.1 hc⟩
          · intro j hj e' he' c hc
            simp only [List.mem_cons, List.not_mem_nil, or_false] at hj
            subst hj
            rw [h1] at he'; cases he'
            exact hO.mem_iff.2 hc
        · cases hx
      · cases hx
    · cases hx

end
end Go.Ex
