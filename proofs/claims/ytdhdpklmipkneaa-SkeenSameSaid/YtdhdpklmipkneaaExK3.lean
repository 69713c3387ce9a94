import Derived.Test.YtdhdpklmipkneaaExK2
import Derived.Laws.AppendOwn
import Derived.Laws.BytesString
import Derived.Laws.IdiomStrings
import Derived.Deep.AppendSrc

namespace Go.Ex

section
variable {E : Env} {B : Base} {S S' : Nat → Prop} {ι : Ix} {s : St} {a : Act} {w : World} {hp : List (Nat × Ent)} {H H' : Array Go.Obj}

theorem Ty.sh_sh (t : Ty) : t.sh.sh = t.sh := by
 induction t with
 | pair a b iha ihb => simp only [Ty.sh, iha, ihb]
 | arr n t ih => simp only [Ty.sh, ih]
 | slc o t ih => simp only [Ty.sh, ih]
 | hole t ih => simp only [Ty.sh, ih]
 | box o g t ih => simp only [Ty.sh, ih]
 | _ => rfl

theorem cast_pair {A A' C C' : Type} (ha : A = A') (hc : C = C') (h : (A × C) = (A' × C')) (x : A × C) : cast h x = (cast ha x.1, cast hc x.2) := by subst ha; subst hc; rfl
theorem cast_list {A A' : Type} (ha : A = A') (h : List A = List A') (l : List A) : cast h l = l.map (cast ha) := by
 subst ha
 show l = List.map (fun x => x) l
 simp

theorem cast_opt {A A' : Type} (ha : A = A') (h : Option A = Option A') (x : Option A) : cast h x = x.map (cast ha) := by
 subst ha
 show x = Option.map (fun x => x) x
 simp

theorem RepL.map {α β : Type} {R : List Nat → List Value → α → Prop} {R' : List Nat → List Value → β → Prop} {sz : Nat} {f : α → β} {L : List Nat} (hr : ∀ O cs x, (∀ b ∈ O, b ∈ L) → R O cs x → R' [] cs (f x)) :
  ∀ {l : List α} {O : List Nat} {cs : List Value}, (∀ b ∈ O, b ∈ L) → RepL R sz O cs l → RepL R' sz [] cs (l.map f)
 | [], _, _, _, ⟨_, h⟩ => ⟨rfl, h⟩
 | _ :: _, _, _, hO, ⟨O1, O2, e, h1, h2⟩ => by
  subst e
  exact ⟨[], [], rfl, hr _ _ _ (fun b hb => hO b (by simp [hb])) h1, RepL.map hr (fun b hb => hO b (by simp [hb])) h2⟩

theorem Rep.toSh : ∀ {u : Ty} {O : List Nat} {cs : List Value} {y : u.den}, Rep H S u O cs y → (∀ b ∈ O, S' b) → (∀ b, S b → S' b) → u.noH = true → Rep H S' u.sh [] cs (cast (den_sh u).symm y) := by
 intro u
 induction u with
 | int k => intro O cs y h _ _ _; exact ⟨rfl, h.2⟩
 | bool => intro O cs y h _ _ _; exact ⟨rfl, h.2⟩
 | str => intro O cs y h _ _ _; exact ⟨rfl, h.2⟩
 | unit => intro O cs y h _ _ _; exact ⟨rfl, h.2⟩
 | fn f => intro O cs y h _ _ _; exact ⟨rfl, h.2⟩
 | map o k v =>
  rintro O cs y h hO hS hn
  show Rep H S' (.map false k v) [] cs y
  rcases h with h | ⟨l, b, es, ck, h0, h2, h3, h4, h5⟩
  ·exact .inl ⟨h.1, rfl, h.2.2⟩
  have hb : S' b := by
   cases o with
   | true => exact hO b (by rw [h5]; simp)
   | false => exact hS b h5.2
  exact .inr ⟨l, b, es, ck, h0, h2, h3, h4.mono (fun _ _ h => h.stable (fun _ _ => rfl) hS) (fun _ _ h => h.stable (fun _ _ => rfl) hS), rfl, hb⟩
 | box o g t ih =>
  rintro O cs y h hO hS hn
  have e := cast_opt (den_sh t).symm (den_sh (.box o g t)).symm y
  refine Eq.subst (motive := fun z => Rep H S' (.box false g t.sh) [] cs z) e.symm ?_
  rcases h with ⟨rfl, _, h⟩ | ⟨z, b, off, O', rfl, h1, h2, h3, h4⟩
  ·exact .inl ⟨rfl, rfl, h⟩
  have hb : S' b := by
   cases o with
   | true => exact hO b (by rw [h4.1]; simp)
   | false => exact hS b h4.2.2
  have hO' : ∀ c ∈ O', S' c := by
   intro c hc
   cases o with
   | true => exact hO c (by rw [h4.1]; simp [hc])
   | false => rw [h4.2.1] at hc; cases hc
  exact .inr ⟨_, b, off, [], rfl, h1, by rw [size_sh]; exact h2, by rw [size_sh]; exact ih h3 hO' hS hn, rfl, rfl, hb⟩
 | pair a c iha ihc =>
  rintro O cs y ⟨O1, O2, rfl, h1, h2⟩ hO hS hn
  simp only [Ty.noH, Bool.and_eq_true] at hn
  have e := cast_pair (den_sh a).symm (den_sh c).symm (den_sh (.pair a c)).symm y
  refine Eq.subst (motive := fun z => Rep H S' (.pair a.sh c.sh) [] cs z) e.symm ?_
  exact ⟨[], [], rfl, by rw [size_sh]; exact iha h1 (fun b hb => hO b (by simp [hb])) hS hn.1, by rw [size_sh]; exact ihc h2 (fun b hb => hO b (by simp [hb])) hS hn.2⟩
 | arr n t ih =>
  rintro O cs y ⟨h1, h2⟩ hO hS hn
  have e := cast_list (den_sh t).symm (den_sh (.arr n t)).symm y
  refine Eq.subst (motive := fun z => Rep H S' (.arr n t.sh) [] cs z) e.symm ?_
  refine ⟨by rw [List.length_map]; exact h1, ?_⟩
  rw [size_sh]
  exact RepL.map (L := O) (fun O1 cs x hL hr => ih hr (fun b hb => hO b (hL b hb)) hS hn) (fun _ h => h) h2
 | slc o t ih =>
  rintro O cs y h hO hS hn
  have e := cast_list (den_sh t).symm (den_sh (.slc o t)).symm y
  refine Eq.subst (motive := fun z => Rep H S' (.slc false t.sh) [] cs z) e.symm ?_
  rcases h with ⟨_, ⟨a, c, h2, h2'⟩, h3⟩ | ⟨b, off, cap, O', c1, c2, c3, c4, c5, c6⟩
  ·subst h3; exact .inl ⟨rfl, ⟨a, c, h2, fun h => by cases h⟩, rfl⟩
  ·have hb : S' b := by
    cases o with
    | true => exact hO b (by rw [c6.1]; simp)
    | false => exact hS b c6.2.2
   have hO' : ∀ c ∈ O', c ∈ O := by
    intro c hc
    cases o with
    | true => rw [c6.1]; simp [hc]
    | false => rw [c6.2.1] at hc; cases hc
   refine .inr ⟨b, off, cap, [], by rw [List.length_map]; exact c1, by rw [List.length_map]; exact c2, ⟨c3.1, fun h => by cases h⟩, by rw [List.length_map, size_sh]; exact c4, ?_, rfl, rfl, hb⟩
   rw [List.length_map, size_sh]
   exact RepL.map (L := O) (fun O1 cs x hL hr => ih hr (fun b hb => hO b (hL b hb)) hS hn) hO' c5
 | hole t ih => intro O cs y _ _ _ hn; cases hn

theorem Ty.shH_sh (t : Ty) : t.shH.sh = t.sh := by
 induction t with
 | pair a b iha ihb => simp only [Ty.shH, Ty.sh, iha, ihb]
 | arr n t ih => simp only [Ty.shH, Ty.sh, Ty.sh_sh]
 | slc o t ih => simp only [Ty.shH, Ty.sh, Ty.sh_sh]
 | box o g t ih => simp only [Ty.shH, Ty.sh, Ty.sh_sh]
 | _ => rfl

theorem size_shH (t : Ty) : t.shH.size = t.size := size_er (Ty.shH_sh t)

theorem Rep.toShH : ∀ {u : Ty} {O : List Nat} {cs : List Value} {y : u.den}, Rep H S u O cs y → (∀ b ∈ O, S' b) → (∀ b, S b → S' b) → u.okH = true → Rep H S' u.shH [] cs (cast (den_shH u).symm y) := by
 intro u
 induction u with
 | pair a c iha ihc =>
  rintro O cs y ⟨O1, O2, rfl, h1, h2⟩ hO hS hn
  simp only [Ty.okH, Bool.and_eq_true] at hn
  have e := cast_pair (den_shH a).symm (den_shH c).symm (den_shH (.pair a c)).symm y
  refine Eq.subst (motive := fun z => Rep H S' (.pair a.shH c.shH) [] cs z) e.symm ?_
  exact ⟨[], [], rfl, by rw [size_shH]; exact iha h1 (fun b hb => hO b (by simp [hb])) hS hn.1, by rw [size_shH]; exact ihc h2 (fun b hb => hO b (by simp [hb])) hS hn.2⟩
 | hole t ih => intro O cs y h _ _ _; exact ⟨rfl, h.2⟩
 | arr n t ih => intro O cs y h hO hS hn; exact Rep.toSh (u := .arr n t) h hO hS hn
 | slc o t ih => intro O cs y h hO hS hn; exact Rep.toSh (u := .slc o t) h hO hS hn
 | box o g t ih => intro O cs y h hO hS hn; exact Rep.toSh (u := .box o g t) h hO hS hn
 | map o k v => intro O cs y h hO hS hn; exact Rep.toSh (u := .map o k v) h hO hS hn
 | int k => intro O cs y h _ _ _; exact ⟨rfl, h.2⟩
 | bool => intro O cs y h _ _ _; exact ⟨rfl, h.2⟩
 | str => intro O cs y h _ _ _; exact ⟨rfl, h.2⟩
 | unit => intro O cs y h _ _ _; exact ⟨rfl, h.2⟩
 | fn f => intro O cs y h _ _ _; exact ⟨rfl, h.2⟩

theorem demV_rep : ∀ {u t : Ty} {y : u.den} {z : t.den} {O : List Nat} {cs : List Value}, demV u t y = some z → Rep H S u O cs y → ∃ O1 D, O.Perm (O1 ++ D) ∧ t.size = u.size ∧ ∀ S' : Nat → Prop, (∀ b, S b → S' b) → (∀ b ∈ D, S' b) → Rep H S' t O1 cs z := by
 have base : ∀ {u t : Ty} {y : u.den} {z : t.den} {O : List Nat} {cs : List Value}, (if h : u = t then some (castD h y) else if h : u.sh = t then (match u.noH with
   | true => some (cast ((den_sh u).symm.trans (congrArg Ty.den h)) y)
   | false => none) else none) = some z → Rep H S u O cs y → ∃ O1 D, O.Perm (O1 ++ D) ∧ t.size = u.size ∧ ∀ S' : Nat → Prop, (∀ b, S b → S' b) → (∀ b ∈ D, S' b) → Rep H S' t O1 cs z := by
  intro u t y z O cs h hR
  split at h
  ·rename_i e
   subst e
   cases h
   exact ⟨O, [], by simp, rfl, fun S' hS _ => hR.stable (fun _ _ => rfl) hS⟩
  ·split at h
   ·rename_i e
    subst e
    split at h
    ·rename_i hn
     cases h
     exact ⟨[], O, by simp, size_sh u, fun S' hS hD => hR.toSh hD hS hn⟩
    ·cases h
   ·cases h
 intro u
 induction u with
 | pair a b iha ihb =>
  intro t y z O cs h hR
  cases t with
  | pair c d =>
   simp only [demV] at h
   split at h
   ·rename_i x1 x2 h1 h2
    cases h
    obtain ⟨P1, P2, rfl, r1, r2⟩ := hR
    obtain ⟨A1, D1, e1, s1, k1⟩ := iha h1 r1
    obtain ⟨A2, D2, e2, s2, k2⟩ := ihb h2 r2
    refine ⟨A1 ++ A2, D1 ++ D2, ?_, by simp only [Ty.size, s1, s2], fun S' hS hD => ⟨A1, A2, rfl, ?_, ?_⟩⟩
    ·refine (e1.append e2).trans ?_
     rw [List.append_assoc, List.append_assoc]
     refine List.Perm.append_left _ ?_
     rw [← List.append_assoc, ← List.append_assoc]
     exact List.Perm.append_right _ List.perm_append_comm
    ·rw [s1]; exact k1 S' hS (fun b hb => hD b (by simp [hb]))
    ·rw [s1]; exact k2 S' hS (fun b hb => hD b (by simp [hb]))
   ·cases h
  | _ => exact base h hR
 | _ => intro t y z O cs h hR; cases t <;> exact base h hR

def BlkOf1 (ι : Ix) (hp : List (Nat × Ent)) (i b : Nat) : Prop := ∃ e, look i hp = some e ∧ b ∈ blks ι i e

theorem sub_own (h : HS B S ι s.hp w) {i : Nat} {p : List Step} {lo hi : Int} {v : Value} (hv : VX w.heap S ι s.hp (.sub i p lo hi) [v]) {t : Ty} {l : List t.den} (hw : s.view i p lo hi = some ⟨t, l⟩) :
  ∃ A c, v = toV (.slc false t.sh) [.slice A l.length c] ∧ (l = [] ∨ ∃ b off O, A = some ⟨b, off, none⟩ ∧ BlkOf1 ι s.hp i b ∧ off + l.length * t.size ≤ (blk w.heap b).length ∧ RepL (Rep w.heap S t) t.size O (cellsAt w.heap b off (l.length * t.size)) l ∧ (∀ c ∈ O, BlkOf1 ι s.hp i c) ∧ (l.length ≤ c ∧ c ≤ maxLen)) := by
 obtain ⟨e, v', h1, h2, h3, h4, h5, h6⟩ := hv
 cases h3
 have hob := h.ob i e h1
 unfold St.view at hw
 rcases h6 with ⟨t', l', a, cap, k1, k2, k3, c, A, k4, kA, k5, k6⟩ | ⟨n, t', l', b, off, k1, ⟨k2, k2'⟩, k3, c, A, k4, kA, k5, k6⟩
 ·have hp : s.part i p = some ⟨.slc true t', l'⟩ := by unfold St.part St.obj; rw [h1]; exact k1
  rw [hp] at hw
  simp only [Option.some.injEq, Sigma.mk.injEq] at hw
  obtain ⟨rfl, hw⟩ := hw
  have hw := eq_of_heq hw
  subst hw
  have hlen : (cut2 lo hi l').length = (hi - lo).toNat := cut2_length h4 k2
  refine ⟨_, c, by rw [hlen]; exact k4, ?_⟩
  by_cases hz : cut2 lo hi l' = []
  ·exact .inl hz
  ·obtain ⟨O2, m1, m2, m3⟩ := sub_rep h h1 h2 k1 k3
   rcases m3 with ⟨_, _, hn⟩ | ⟨b1, o1, cap', O', c1, c2, c3, c4, c5, rfl, c7⟩
   ·exfalso; apply hz; rw [hn]; simp [cut2]
   ·simp only [List.cons.injEq, Value.slice.injEq, and_true] at c1
    obtain ⟨rfl, _, rfl⟩ := c1
    have hpos : 0 < (hi - lo).toNat := by rw [← hlen]; exact List.length_pos_iff.2 hz
    obtain ⟨P1, P2, P3, e1, g⟩ := c5.cut lo.toNat (hi - lo).toNat
    have hle : lo.toNat * t'.size + (hi - lo).toNat * t'.size ≤ List.length l' * t'.size := by rw [← Nat.add_mul]; exact Nat.mul_le_mul_right _ (by omega)
    rw [cellsAt_drop, cellsAt_take _ _ _ _ (by omega)] at g
    refine .inr ⟨b1, o1 + lo.toNat * t'.size, P2, by rw [kA (by omega), Option.map_some, Addr.add_none], ⟨e, h1, own_blks (m1 b1 (by simp))⟩, by rw [hlen]; omega, by rw [hlen]; exact g, fun c hc => ⟨e, h1, own_blks (m1 c (by rw [e1]; simp [hc]))⟩, by rw [hlen]; exact k5, by have := c3.1; omega⟩
 ·have hp : s.part i p = some ⟨.arr n t', l'⟩ := by unfold St.part St.obj; rw [h1]; exact k1
  rw [hp] at hw
  simp only [Option.some.injEq, Sigma.mk.injEq] at hw
  obtain ⟨rfl, hw⟩ := hw
  have hw := eq_of_heq hw
  subst hw
  obtain ⟨O2, m1, m2, m3, m4, m5, m6⟩ := Loc_mem (Loc_bag k3) hob h.slt h2 k1 k3
  obtain ⟨hl, m3⟩ := m3
  have hlen : (cut2 lo hi l').length = (hi - lo).toNat := cut2_length h4 (by rw [hl]; exact k2)
  refine ⟨_, c, by rw [hlen]; exact k4, ?_⟩
  by_cases hz : cut2 lo hi l' = []
  ·exact .inl hz
  ·have hpos : 0 < (hi - lo).toNat := by rw [← hlen]; exact List.length_pos_iff.2 hz
   obtain ⟨P1, P2, P3, e1, g⟩ := m3.cut lo.toNat (hi - lo).toNat
   have hle : lo.toNat * t'.size + (hi - lo).toNat * t'.size ≤ n * t'.size := by rw [← Nat.add_mul]; exact Nat.mul_le_mul_right _ (by omega)
   simp only [Ty.size] at g m4
   rw [cellsAt_drop, cellsAt_take _ _ _ _ (by omega)] at g
   exact .inr ⟨b, off + lo.toNat * t'.size, P2, by rw [kA (by omega), Option.map_some, Addr.add_none], ⟨e, h1, m5⟩, by rw [hlen]; omega, by rw [hlen]; exact g, fun c hc => ⟨e, h1, own_blks (m1 c (by rw [e1]; simp [hc]))⟩, by rw [hlen]; exact k5, by omega⟩


theorem lendP_inv {t : Ty} {r : Option (Sigma Ty.den)} {x : t.den} (h : lendP t r = some x) : ∃ u y, r = some ⟨u, y⟩ ∧ ∃ hu : u.shH = t, u.okH = true ∧ x = cast ((den_shH u).symm.trans (congrArg Ty.den hu)) y := by
 unfold lendP at h
 split at h
 ·rename_i u y
  split at h
  ·rename_i hnh
   split at h
   ·rename_i hu; cases h; exact ⟨u, y, rfl, hu, hnh, rfl⟩
   ·cases h
  ·cases h
 ·cases h

theorem as_rep {v : AV} {t : Ty} {x : t.den} {val : Value} (h : v.as t = some x) (hv : VX H S ι hp v [val]) : ∃ cs, val = toV t cs ∧ Rep H S t [] cs x := by
 unfold AV.as at h
 split at h
 ·rename_i u y
  split at h
  ·rename_i hu; subst hu; cases h
   obtain ⟨cs, e, hR⟩ := hv
   exact ⟨cs, by simpa using e, hR⟩
  ·cases h
 ·split at h
  ·cases h
   have : [val] = [Value.slice none 0 0] := hv
   exact ⟨[.slice none 0 0], by simpa [toV, Ty.agg] using this, .inl ⟨rfl, ⟨none, 0, rfl, fun _ => rfl⟩, rfl⟩⟩
  ·cases h
 ·cases h

def BlkOf (ι : Ix) (hp : List (Nat × Ent)) (g : List Nat) (b : Nat) : Prop := ∃ i e, i ∈ g ∧ look i hp = some e ∧ b ∈ blks ι i e

theorem asV_rep (h : HS B S ι s.hp w) {v : AV} {t : Ty} {x : t.den} {val : Value} (hx : v.asV s t = some x) (hv : VX w.heap S ι s.hp v [val]) {S1 : Nat → Prop} (hS : ∀ b, S b → S1 b) (hL : ∀ b, BlkOf ι s.hp v.lent b → S1 b) :
  ∃ cs, val = toV t cs ∧ Rep w.heap S1 t [] cs x := by
 unfold AV.asV at hx
 split at hx
 ·rename_i i p
  obtain ⟨u, y, hp, hu, hnh, rfl⟩ := lendP_inv hx
  obtain ⟨e, u', y', cs, h1, h2, h3, h4, h5⟩ := hv
  have hg := part_of h1 hp
  rw [h3] at hg; cases hg
  subst hu
  obtain ⟨O2, k1, _, k2⟩ := sub_rep h h1 h2 h3 h4
  refine ⟨cs, by rw [toV_er (t := u) (by rw [Ty.shH_sh])]; simpa using h5, ?_⟩
  exact k2.toShH (fun b hb => hL b ⟨i, e, by simp [AV.lent], h1, own_blks (k1 b hb)⟩) hS hnh
 ·rename_i i p lo hi
  split at hx
  ·rename_i u l hw
   obtain ⟨u', y, hp, hu, hnh, rfl⟩ := lendP_inv hx
   cases hp
   subst hu
   have hLB : ∀ b, (S b ∨ BlkOf1 ι s.hp i b) → S1 b := fun b hb => hb.elim (hS b) (fun ⟨e, h1, h2⟩ => hL b ⟨i, e, by simp [AV.lent], h1, h2⟩)
   -- the blocks are of object i or shared
   obtain ⟨A, c, k1, k2⟩ := sub_own h hv hw
   refine ⟨[.slice A l.length c], k1, ?_⟩
   have e := cast_list (den_sh u).symm (den_shH (.slc true u)).symm l
   refine Eq.subst (motive := fun z => Rep w.heap S1 (.slc false u.sh) [] [.slice A l.length c] z) e.symm ?_
   rcases k2 with rfl | ⟨b, off, O, rfl, hb, h4, h5, h6, h7⟩
   ·exact .inl ⟨rfl, ⟨A, c, rfl, fun h => by cases h⟩, rfl⟩
   ·refine .inr ⟨b, off, c, [], by rw [List.length_map], by rw [List.length_map]; exact h7.1, ⟨h7.2, fun h => by cases h⟩, by rw [List.length_map, size_sh]; exact h4, ?_, rfl, rfl, hLB b (.inr hb)⟩
    rw [List.length_map, size_sh]
    exact RepL.map (L := O) (fun O1 cs x hLm hr => hr.toSh (fun b hb => hLB b (.inr (h6 b (hLm b hb)))) hS hnh) (fun _ h => h) h5
  ·cases hx
 ·rename_i u x'
  split at hx
  ·rename_i hu; subst hu; cases hx
   obtain ⟨cs, e, hR⟩ := hv
   exact ⟨cs, by simpa using e, hR.stable (fun _ _ => rfl) hS⟩
  ·obtain ⟨u', y, hp, hu, hnh, rfl⟩ := lendP_inv hx
   cases hp
   subst hu
   obtain ⟨cs, e, hR⟩ := hv
   refine ⟨cs, by rw [toV_er (t := u) (by rw [Ty.shH_sh])]; simpa using e, ?_⟩
   exact hR.toShH (by simp) hS hnh
 ·obtain ⟨cs, e, hR⟩ := as_rep hx hv
  exact ⟨cs, e, hR.stable (fun _ _ => rfl) hS⟩

theorem asR_rep (h : HS B S ι s.hp w) {v : AV} {t : Ty} {x : t.den} {val : Value} (hx : v.asR s t = some x) (hv : VX w.heap S ι s.hp v [val]) {S1 : Nat → Prop} (hS : ∀ b, S b → S1 b) (hL : ∀ b, BlkOf ι s.hp v.lent b → S1 b) :
  RdRep w.heap S1 t val x := by
 unfold AV.asR at hx
 split at hx
 ·rename_i i p
  obtain ⟨u, y, hp, hu, hnh, rfl⟩ := lendP_inv hx
  obtain ⟨e, b, off, h1, h2, h3, h4⟩ := hv
  have hg := part_of h1 hp
  subst hu
  obtain ⟨O2, m1, m2, m3, m4, m5, _⟩ := Loc_mem (Loc_bag h3) (h.ob i e h1) h.slt h2 hg h3
  refine ⟨b, off, by simpa using h4, hL b ⟨i, e, by simp [AV.lent], h1, m5⟩, by rw [size_shH]; exact m4, ?_⟩
  rw [size_shH]
  exact m3.toShH (fun b hb => hL b ⟨i, e, by simp [AV.lent], h1, own_blks (m1 b hb)⟩) hS hnh
 ·rename_i u x'
  split at hx
  ·rename_i hu; subst hu; cases hx
   obtain ⟨b, off, e, h1, h2, h3⟩ := hv
   exact ⟨b, off, by simpa using e, hS b h1, h2, h3.stable (fun _ _ => rfl) hS⟩
  ·cases hx
 ·rename_i i p
  split at hx
  ·rename_i u
   split at hx
   ·rename_i x0 hx0
    cases hx
    obtain ⟨u', y, hp, hu, hnh, rfl⟩ := lendP_inv hx0
    obtain ⟨b0, off0, v0, e0, hb0, hl0, hc0, e, b, off, h1, h2, h3, h4⟩ := hv
    have hg := part_of h1 hp
    subst hu
    obtain ⟨O2, m1, m2, m3, m4, m5, _⟩ := Loc_mem (Loc_bag h3) (h.ob i e h1) h.slt h2 hg h3
    obtain rfl : v0 = .pointer (some ⟨b, off, none⟩) := by simpa using h4
    have hk := m3.toShH (fun b hb => hL b ⟨i, e, by simp [AV.lent], h1, own_blks (m1 b hb)⟩) hS hnh
    refine ⟨b0, off0, by simpa using e0, hS _ hb0, hl0, ?_⟩
    rw [show cellsAt w.heap b0 off0 (Ty.box false none u'.shH).size = [.pointer (some ⟨b, off, none⟩)] from hc0]
    exact .inr ⟨_, b, off, [], rfl, rfl, by rw [size_shH]; exact m4, by rw [size_shH]; exact hk, rfl, rfl, hL b ⟨i, e, by simp [AV.lent], h1, m5⟩⟩
   ·cases hx
  ·cases hx
 ·cases hx

theorem asRL_rep (h : HS B S ι s.hp w) {S1 : Nat → Prop} (hS : ∀ b, S b → S1 b) : ∀ {ts : List Ty} {v : AV} {x : DL ts} {vs : List Value}, AV.asRL s ts v = some x → VX w.heap S ι s.hp v vs → (∀ b, BlkOf ι s.hp v.lent b → S1 b) → RdL w.heap S1 ts vs x
 | [], v, x, vs, hx, hv, _ => by
  cases v <;> simp only [AV.asRL] at hx <;> first | cases hx | skip
  exact hv
 | t :: ts, v, x, vs, hx, hv, hL => by
  cases v <;> simp only [AV.asRL] at hx <;> first | cases hx | skip
  rename_i a b
  split at hx
  ·rename_i x1 x2 h1 h2
   cases hx
   obtain ⟨v, us, rfl, ha, hb⟩ := hv
   exact ⟨v, us, rfl, asR_rep h h1 ha hS (fun c hc => hL c (by obtain ⟨i, e, q1, q2⟩ := hc; exact ⟨i, e, by simp [AV.lent, q1], q2⟩)), asRL_rep h hS h2 hb (fun c hc => hL c (by obtain ⟨i, e, q1, q2⟩ := hc; exact ⟨i, e, by simp [AV.lent, q1], q2⟩))⟩
  ·cases hx

theorem cut_rep {H : Array Go.Obj} {t' : Ty} {O2 : List Nat} {A : Option Addr} {cap : Nat} {x' : List t'.den} {lo hi : Int} {v : Value} (m3 : Rep H S (.slc true t') O2 [.slice A (List.length x') cap] x') (m2 : O2.Nodup) (h4 : 0 ≤ lo) (h5 : lo ≤ hi) (k2 : hi ≤ (List.length x' : Int)) (hv : SubV t'.size A cap lo hi v) :
  ∃ O cs, v = toV (.slc true t') cs ∧ Rep H S (.slc true t') O cs (cut2 lo hi x') ∧ O.Nodup ∧ ∀ b ∈ O, b ∈ O2 := by
 obtain ⟨c, A', k4, kA, k5, k6⟩ := hv
 have hlen : (cut2 lo hi x').length = (hi - lo).toNat := cut2_length h4 k2
 by_cases hc : c = 0
 ·refine ⟨[], [.slice A' 0 0], ?_, .inl ⟨rfl, ⟨A', 0, rfl, fun _ => rfl⟩, ?_⟩, List.nodup_nil, by simp⟩
  ·rw [k4, hc]
   have : (hi - lo).toNat = 0 := by omega
   rw [this]; rfl
  ·exact List.length_eq_zero_iff.1 (by omega)
 ·rcases m3 with ⟨_, ⟨a2, c2, q1, q2⟩, hn⟩ | ⟨b1, o1, cap', O', c1, c2, c3, c4, c5, rfl, c7⟩
  ·exfalso
   simp only [List.cons.injEq, Value.slice.injEq, and_true] at q1
   have := q2 rfl
   omega
  ·simp only [List.cons.injEq, Value.slice.injEq, and_true] at c1
   obtain ⟨rfl, _, rfl⟩ := c1
   obtain ⟨P1, P2, P3, e1, g1⟩ := c5.cut lo.toNat (hi - lo).toNat
   have hle : lo.toNat * t'.size + (hi - lo).toNat * t'.size ≤ List.length x' * t'.size := by rw [← Nat.add_mul]; exact Nat.mul_le_mul_right _ (by omega)
   have hcap : (lo.toNat + c) * t'.size ≤ cap * t'.size := Nat.mul_le_mul_right _ (Nat.le_of_eq k6)
   rw [Nat.add_mul] at hcap
   rw [cellsAt_drop, cellsAt_take _ _ _ _ (by omega)] at g1
   have hnd : (b1 :: P2).Nodup := by
    rw [e1] at m2
    have h1 := List.nodup_cons.1 m2
    refine List.nodup_cons.2 ⟨fun hb => h1.1 (by simp [hb]), (List.nodup_append.1 (List.nodup_append.1 h1.2).2.1).1⟩
   refine ⟨b1 :: P2, [.slice (some ⟨b1, o1 + lo.toNat * t'.size, none⟩) (cut2 lo hi x').length c], ?_, .inr ⟨b1, o1 + lo.toNat * t'.size, c, P2, rfl, by rw [hlen]; exact k5, ⟨by have := c3.1; omega, fun _ => by omega⟩, by rw [hlen]; omega, by rw [hlen]; exact g1, rfl, c7.mono (by omega)⟩, hnd, fun b hb => ?_⟩
   ·rw [k4, kA hc, hlen, Option.map_some, Addr.add_none]; rfl
   ·rcases List.mem_cons.1 hb with rfl | hb
    ·simp
    ·rw [e1]; simp [hb]

theorem give_rep (h : HS B S ι s.hp w) {v : AV} {val : Value} {t : Ty} {x : t.den} {g : List Nat} (hg : v.give s = some (⟨t, x⟩, g)) (hv : VX w.heap S ι s.hp v [val]) :
  ∃ O cs, val = toV t cs ∧ Rep w.heap S t O cs x ∧ O.Nodup ∧ ∀ b ∈ O, BlkOf ι s.hp g b := by
 unfold AV.give at hg
 split at hg
 ·cases hg
  obtain ⟨cs, e, hR⟩ := hv
  exact ⟨[], cs, by simpa using e, hR, List.nodup_nil, by simp⟩
 ·rename_i i
  split at hg
  ·rename_i t' x' hob
   cases hg
   obtain ⟨e, u, y, cs, h1, h2, h3, h4, h5⟩ := hv
   obtain rfl := ent_of h1 hob
   rw [getP_nil] at h3; cases h3
   obtain ⟨O2, m1, m2, m3⟩ := sub_rep h h1 h2 getP_nil h4
   have h5 : val = toV t cs := by simpa [Ent.ty] using h5
   exact ⟨O2, cs, h5, m3, m2, fun b hb => ⟨i, _, by simp, h1, own_blks (m1 b hb)⟩⟩
  ·cases hg
 ·rename_i i lo hi
  split at hg
  ·rename_i t' x' hob
   cases hg
   obtain ⟨e, v, h1, h2, h3, h4, h5, h6⟩ := hv
   obtain rfl := ent_of h1 hob
   cases h3
   rcases h6 with ⟨t1, l, A, cap, k1, k2, k3, k4⟩ | ⟨n, t1, l, b, off, k1, _, k3, _⟩
   ·have k1 : getP (.slc true t') x' [] = some ⟨.slc true t1, l⟩ := k1
    rw [getP_nil] at k1; cases k1
    obtain ⟨O2, m1, m2, m3⟩ := sub_rep h h1 h2 getP_nil k3
    obtain ⟨O, cs, q1, q2, q3, q4⟩ := cut_rep m3 m2 h4 h5 k2 k4
    exact ⟨O, cs, q1, q2, q3, fun b hb => ⟨i, _, by simp, h1, own_blks (m1 b (q4 b hb))⟩⟩
   ·exfalso
    simp only [Loc, Place, Nav_nil, VR] at k3
    simp at k3
  ·cases hg
 ·cases hg

theorem giveV_rep (h : HS B S ι s.hp w) {v : AV} {val : Value} {t : Ty} {x : t.den} {g : List Nat} (hg : v.giveV s = some (⟨t, x⟩, g)) (hv : VX w.heap S ι s.hp v [val]) :
  ∃ O cs, val = toV t cs ∧ Rep w.heap S t O cs x ∧ O.Nodup ∧ ∀ b ∈ O, BlkOf ι s.hp g b := by
 unfold AV.giveV at hg
 split at hg
 ·rename_i i
  split at hg
  ·rename_i t' x' hob
   cases hg
   obtain ⟨e, u, y, cs, h1, h2, h3, h4, h5⟩ := hv
   obtain rfl := ent_of h1 hob
   rw [getP_nil] at h3; cases h3
   obtain ⟨O2, m1, m2, m3⟩ := sub_rep h h1 h2 getP_nil h4
   have h5 : val = toV t cs := by simpa [Ent.ty] using h5
   exact ⟨O2, cs, h5, m3, m2, fun b hb => ⟨i, _, by simp, h1, own_blks (m1 b hb)⟩⟩
  ·exact give_rep h hg hv
 ·rename_i f
  cases hg
  obtain ⟨us, e, rfl⟩ := hv
  have e : val = .func (.func f) #[] #[] := by simpa using e
  exact ⟨[], [fnV f true], e, ⟨rfl, rfl⟩, List.nodup_nil, by simp⟩
 ·exact give_rep h hg hv

theorem BlkOf.mono {g g' : List Nat} {b : Nat} (h : BlkOf ι hp g b) (hs : ∀ i ∈ g, i ∈ g') : BlkOf ι hp g' b := by
 obtain ⟨i, e, h1, h2⟩ := h; exact ⟨i, e, hs i h1, h2⟩

def PK.reads : PK → Bool
 | .own _ | .rw _ | .mu _ => false
 | _ => true

theorem asK_rep (h : HS B S ι s.hp w) {S1 : Nat → Prop} (hS : ∀ b, S b → S1 b) {k : PK} {v : AV} {x : k.den} {val : Value} {g m : List Nat} (hx : v.asK s k = some (x, g, m)) (hv : VX w.heap S ι s.hp v [val])
  (hL : k.reads = true → ∀ b, BlkOf ι s.hp v.lent b → S1 b) :
  ∃ L, KRep w.heap S1 k val x L ∧ L.Nodup ∧ (∀ b ∈ L, BlkOf ι s.hp (g ++ m) b) ∧ ∀ i ∈ m, ∀ e, look i s.hp = some e → ∀ b ∈ blks ι i e, b ∈ L := by
 cases k with
 | v t =>
  simp only [AV.asK] at hx
  split at hx
  ·rename_i y hy; cases hx
   obtain ⟨cs, e, hR⟩ := asV_rep h hy hv hS (hL rfl)
   exact ⟨[], ⟨rfl, cs, e, hR⟩, List.nodup_nil, by simp, by simp⟩
  ·cases hx
 | rd t =>
  simp only [AV.asK] at hx
  split at hx
  ·rename_i y hy; cases hx
   exact ⟨[], ⟨rfl, asR_rep h hy hv hS (hL rfl)⟩, List.nodup_nil, by simp, by simp⟩
  ·cases hx
 | clo f ts =>
  cases v <;> simp only [AV.asK] at hx <;> first | cases hx | skip
  rename_i f' l
  cases hb : Nat.beq f f' with
  | false => rw [hb] at hx; cases hx
  | true =>
   rw [hb] at hx
   simp only at hx
   have hff := Nat.eq_of_beq_eq_true hb
   split at hx
   ·rename_i y hy; cases hx
    obtain ⟨us, e, hus⟩ := hv
    exact ⟨[], ⟨rfl, us, by simpa [hff] using e, asRL_rep h hS hy hus (fun b hb => hL rfl b hb)⟩, List.nodup_nil, by simp, by simp⟩
   ·cases hx
 | nilS =>
  simp only [AV.asK] at hx
  split at hx
  ·cases hx
   exact ⟨[], ⟨rfl, by simpa using (show [val] = [Value.slice none 0 0] from hv)⟩, List.nodup_nil, by simp, by simp⟩
  ·cases hx
 | own t =>
  simp only [AV.asK] at hx
  split at hx
  ·split at hx
   ·rename_i y hy; cases hx
    obtain ⟨cs, e, hR⟩ := as_rep hy hv
    exact ⟨[], ⟨cs, e, hR.stable (fun _ _ => rfl) hS⟩, List.nodup_nil, by simp, by simp⟩
   ·cases hx
  ·split at hx
   ·rename_i u y l hg
    split at hx
    ·rename_i hu; subst hu; cases hx
     obtain ⟨O, cs, e, hR, hnd, hO⟩ := giveV_rep h hg hv
     exact ⟨O, ⟨cs, e, hR.stable (fun _ _ => rfl) hS⟩, hnd, fun b hb => (hO b hb).mono (by simp), by simp⟩
    ·cases hx
   ·cases hx
 | rw t =>
  simp only [AV.asK] at hx
  split at hx
  ·rename_i i
   split at hx
   ·rename_i u y hob
    split at hx
    ·rename_i hu; subst hu; cases hx
     obtain ⟨e, b, off, h1, h2, h3, h4⟩ := hv
     obtain rfl := ent_of h1 hob
     obtain ⟨⟨O, hO, hR⟩, hf, hnd⟩ := h.ob i _ h1
     have hl : (ι.root i).1 = b ∧ (ι.root i).2 = off := by
      have := (Loc_place h3).1
      simp only [Place, Nav_nil, VR, Option.some.injEq, Prod.mk.injEq] at this
      exact this
     obtain ⟨rfl, rfl⟩ := hl
     refine ⟨(ι.root i).1 :: O, ⟨_, _, O, by simpa using h4, hR.stable (fun _ _ => rfl) hS, hf, rfl⟩, ?_, ?_, ?_⟩
     ·exact ((hO.cons _).nodup_iff).2 hnd
     ·intro c hc
      refine ⟨i, _, by simp, h1, ?_⟩
      simp only [blks]
      exact ((hO.cons _).mem_iff).1 hc
     ·intro j hj e' he' c hc
      simp only [List.mem_cons, List.not_mem_nil, or_false] at hj
      subst hj
      rw [h1] at he'; cases he'
      exact ((hO.cons _).mem_iff).2 hc
    ·cases hx
   ·cases hx
  ·cases hx
 | mu t =>
  simp only [AV.asK] at hx
  split at hx
  ·rename_i i
   split at hx
   ·rename_i u y hob
    split at hx
    ·rename_i hu; subst hu; cases hx
     obtain ⟨e, u', y', cs, h1, h2, h3, h4, h5⟩ := hv
     obtain rfl := ent_of h1 hob
     rw [getP_nil] at h3; cases h3
     obtain ⟨⟨O, hO, hR⟩, hnd⟩ := h.ob i _ h1
     have hcs := own_cells_inv h4 hR.length
     have h5 : val = toV (.slc true t) cs := by simpa [Ent.ty] using h5
     refine ⟨O, ⟨cs, h5, by rw [hcs]; exact hR.stable (fun _ _ => rfl) hS⟩, (hO.nodup_iff).2 hnd, ?_, ?_⟩
     ·intro c hc
      exact ⟨i, _, by simp, h1, hO.mem_iff.1 hc⟩
     ·intro j hj e' he' c hc
      simp only [List.mem_cons, List.not_mem_nil, or_false] at hj
      subst hj
      rw [h1] at he'; cases he'
      exact hO.mem_iff.2 hc
    ·cases hx
   ·cases hx
  ·cases hx

end
end Go.Ex

namespace Go.Ex

section
variable {E : Env} {B : Base} {S S' : Nat → Prop} {ι : Ix} {s : St} {a : Act} {w : World} {hp : List (Nat × Ent)} {H H' : Array Go.Obj}

theorem noDup_nodup : ∀ {l : List Nat}, noDup l = true → l.Nodup
 | [], _ => List.nodup_nil
 | a :: l, h => by
  simp only [noDup, Bool.and_eq_true, Bool.not_eq_true'] at h
  refine List.nodup_cons.2 ⟨fun hm => ?_, noDup_nodup h.2⟩
  have := h.1
  simp [hm] at this

theorem disj_spec : ∀ {l m : List Nat}, disj l m = true → ∀ i ∈ l, i ∉ m
 | [], _, _, i, hi => by cases hi
 | a :: l, m, h, i, hi => by
  simp only [disj, Bool.and_eq_true, Bool.not_eq_true'] at h
  rcases List.mem_cons.1 hi with rfl | hi
  ·intro hm; have := h.1; simp [hm] at this
  ·exact disj_spec h.2 i hi

theorem asKs_rep (h : HS B S ι s.hp w) {S1 : Nat → Prop} (hS : ∀ b, S b → S1 b) : ∀ {ks : List PK} {v : AV} {x : DK ks} {vs : List Value} {g m : List Nat}, AV.asKs s ks v = some (x, g, m) → VX w.heap S ι s.hp v vs → (g ++ m).Nodup →
  (∀ b, BlkOf ι s.hp (callA.loose ks v) b → S1 b) → ∃ L, KsRep w.heap S1 ks vs x L ∧ L.Nodup ∧ (∀ b ∈ L, BlkOf ι s.hp (g ++ m) b) ∧ ∀ i ∈ m, ∀ e, look i s.hp = some e → ∀ b ∈ blks ι i e, b ∈ L
 | [], v, x, vs, g, m, hx, hv, _, _ => by
  cases v <;> simp only [AV.asKs] at hx <;> first | cases hx | skip
  exact ⟨[], ⟨hv, rfl⟩, List.nodup_nil, by simp, by simp⟩
 | k :: ks, v, x, vs, g, m, hx, hv, hnd, hL => by
  cases v <;> simp only [AV.asKs] at hx <;> first | cases hx | skip
  rename_i a b
  split at hx
  ·rename_i x1 g1 m1 x2 g2 m2 h1 h2
   cases hx
   obtain ⟨v, us, rfl, ha, hb⟩ := hv
   have hn1 : ∀ i, i ∈ g1 ++ m1 → i ∉ g2 ++ m2 := by
    intro i hi hi'
    simp only [List.mem_append] at hi hi'
    have hgm := List.nodup_append.1 hnd
    have hg := List.nodup_append.1 hgm.1
    have hm := List.nodup_append.1 hgm.2.1
    rcases hi with hi | hi <;> rcases hi' with hi' | hi'
    ·exact hg.2.2 i hi i hi' rfl
    ·exact hgm.2.2 i (by simp [hi]) i (by simp [hi']) rfl
    ·exact hgm.2.2 i (by simp [hi']) i (by simp [hi]) rfl
    ·exact hm.2.2 i hi i hi' rfl
   have hnd2 : (g2 ++ m2).Nodup := by
    have hgm := List.nodup_append.1 hnd
    have hg := List.nodup_append.1 hgm.1
    have hm := List.nodup_append.1 hgm.2.1
    exact List.nodup_append.2 ⟨hg.2.1, hm.2.1, fun i hi j hj => hgm.2.2 i (by simp [hi]) j (by simp [hj])⟩
   obtain ⟨L1, k1, k2, k3, k4⟩ := asK_rep h hS h1 ha (fun hr c hc => hL c (by
    obtain ⟨i, e, q1, q2⟩ := hc
    refine ⟨i, e, ?_, q2⟩
    cases k <;> first | (show i ∈ a.lent ++ callA.loose ks b; exact List.mem_append_left _ q1) | (exfalso; simp [PK.reads] at hr; done)))
   obtain ⟨L2, n1, n2, n3, n4⟩ := asKs_rep h hS h2 hb hnd2 (fun c hc => hL c (by
    obtain ⟨i, e, q1, q2⟩ := hc
    refine ⟨i, e, ?_, q2⟩
    cases k <;> first | (show i ∈ a.lent ++ callA.loose ks b; exact List.mem_append_right _ q1) | (show i ∈ callA.loose ks b; exact q1)))
   refine ⟨L1 ++ L2, ⟨v, us, L1, L2, rfl, rfl, k1, n1⟩, List.nodup_append.2 ⟨k2, n2, ?_⟩, ?_, ?_⟩
   ·rintro c hc d hd rfl
    obtain ⟨i, e, q1, q2, q3⟩ := k3 c hc
    obtain ⟨j, e', r1, r2, r3⟩ := n3 c hd
    have hij : i ≠ j := by rintro rfl; exact hn1 i q1 r1
    exact h.dj i j e e' q2 r2 hij c q3 r3
   ·intro c hc
    rcases List.mem_append.1 hc with hc | hc
    ·exact (k3 c hc).mono (by simp; intro i hi; rcases hi with hi | hi <;> simp [hi])
    ·exact (n3 c hc).mono (by simp; intro i hi; rcases hi with hi | hi <;> simp [hi])
   ·intro i hi e he c hc
    rcases List.mem_append.1 hi with hi | hi
    ·exact List.mem_append_left _ (k4 i hi e he c hc)
    ·exact List.mem_append_right _ (n4 i hi e he c hc)
  ·cases hx

theorem Rep.noSh : ∀ {t : Ty} {O : List Nat} {cs : List Value} {x : t.den}, t.noSh = true → Rep H S t O cs x → Rep H S' t O cs x := by
 intro t
 induction t with
 | int k => intro O cs x _ h; exact h
 | bool => intro O cs x _ h; exact h
 | str => intro O cs x _ h; exact h
 | unit => intro O cs x _ h; exact h
 | fn f => intro O cs x _ h; exact h
 | hole t _ => intro O cs x _ h; exact h
 | map o k v ihk ihv =>
  rintro O cs x hn h
  simp only [Ty.noSh, Bool.and_eq_true] at hn
  rcases h with h | ⟨l, b, es, ck, h0, h2, h3, h4, h5⟩
  ·exact .inl h
  refine .inr ⟨l, b, es, ck, h0, h2, h3, h4.mono (fun _ _ h => ihk hn.1.2 h) (fun _ _ h => ihv hn.2 h), ?_⟩
  rw [hn.1.1] at h5 ⊢
  exact h5
 | box o g t ih =>
  rintro O cs x hn h
  simp only [Ty.noSh, Bool.and_eq_true] at hn
  rcases h with h | ⟨y, b, off, O', h0, h1, h2, h3, h4⟩
  ·exact .inl h
  refine .inr ⟨y, b, off, O', h0, h1, h2, ih hn.2 h3, ?_⟩
  rw [hn.1] at h4 ⊢
  exact h4
 | pair a c iha ihc =>
  rintro O cs x hn ⟨O1, O2, e, h1, h2⟩
  simp only [Ty.noSh, Bool.and_eq_true] at hn
  exact ⟨O1, O2, e, iha hn.1 h1, ihc hn.2 h2⟩
 | arr n t ih =>
  rintro O cs x hn ⟨h1, h2⟩
  exact ⟨h1, RepL.mono (L := O) (fun _ h => h) (fun _ _ _ _ h => ih hn h) h2⟩
 | slc o t ih =>
  rintro O cs x hn h
  simp only [Ty.noSh, Bool.and_eq_true] at hn
  rcases h with h | ⟨b, off, cap, O', c1, c2, c3, c4, c5, c6⟩
  ·exact .inl h
  ·rw [hn.1] at c6
   refine .inr ⟨b, off, cap, O', c1, c2, c3, c4, RepL.mono (L := O') (fun _ h => h) (fun _ _ _ _ h => ih hn.2 h) c5, ?_⟩
   rw [hn.1]; exact c6

theorem ResRep.mono {T : Nat → Prop} : ∀ {ts : List Ty} {O : List Nat} {vs : List Value} {x : DL ts}, ResRep H S ts O vs x → (∀ b, S b → T b) → ResRep H T ts O vs x
 | [], _, _, _, h, _ => h
 | t :: ts, _, _, _, ⟨v, us, O1, O2, cs, e1, e2, e3, h1, h2⟩, hT => ⟨v, us, O1, O2, cs, e1, e2, e3, h1.stable (fun _ _ => rfl) hT, ResRep.mono h2 hT⟩

theorem ResRep.noSh : ∀ {ts : List Ty} {O : List Nat} {vs : List Value} {x : DL ts}, ts.all Ty.noSh = true → ResRep H S ts O vs x → ResRep H S' ts O vs x
 | [], _, _, _, _, h => h
 | t :: ts, _, _, _, hn, ⟨v, us, O1, O2, cs, e1, e2, e3, h1, h2⟩ => by
  simp only [List.all_cons, Bool.and_eq_true] at hn
  exact ⟨v, us, O1, O2, cs, e1, e2, e3, h1.noSh hn.1, ResRep.noSh hn.2 h2⟩


theorem OutRep.noSh : ∀ {ks : List PK} {vs : List Value} {y : DL (wts ks)} {L : List Nat}, (wts ks).all Ty.noSh = true → OutRep H S ks vs y L → OutRep H S' ks vs y L
 | [], _, _, _, _, h => h
 | .rw t :: ks, _, _, _, hn, ⟨b, off, O, us, L', e1, e2, e3, e4, e5⟩ => by
  simp only [wts, List.all_cons, Bool.and_eq_true] at hn
  exact ⟨b, off, O, us, L', e1, e2.noSh hn.1, e3, e4, OutRep.noSh hn.2 e5⟩
 | .mu t :: ks, _, _, _, hn, ⟨cs, O, us, L', e1, e1', e2, e4, e5⟩ => by
  simp only [wts, List.all_cons, Bool.and_eq_true] at hn
  exact ⟨cs, O, us, L', e1, e1', e2.noSh hn.1, e4, OutRep.noSh hn.2 e5⟩
 | .v _ :: ks, _, _, _, hn, ⟨v, us, e, h⟩ => ⟨v, us, e, OutRep.noSh (ks := ks) hn h⟩
 | .rd _ :: ks, _, _, _, hn, ⟨v, us, e, h⟩ => ⟨v, us, e, OutRep.noSh (ks := ks) hn h⟩
 | .clo _ _ :: ks, _, _, _, hn, ⟨v, us, e, h⟩ => ⟨v, us, e, OutRep.noSh (ks := ks) hn h⟩
 | .nilS :: ks, _, _, _, hn, ⟨v, us, e, h⟩ => ⟨v, us, e, OutRep.noSh (ks := ks) hn h⟩
 | .own _ :: ks, _, _, _, hn, ⟨v, us, e, h⟩ => ⟨v, us, e, OutRep.noSh (ks := ks) hn h⟩


theorem Nav_flds : ∀ {t : Ty} {p : List Step} {b off : Nat} {G G' : Array Go.Obj}, flds p = true → Nav G t p b off = Nav G' t p b off := by
 intro t
 induction t with
 | pair a c iha ihc =>
  intro p b off G G' h
  match p, h with
  | [], _ => rfl
  | .fld 0 :: p, h => exact iha h
  | .fld (n + 1) :: p, h => exact ihc (p := .fld n :: p) h
  | .idx i :: p, h => cases h
 | slc o t ih =>
  intro p b off G G' h
  match p, h with
  | [], _ => rw [Nav_nil, Nav_nil]
  | .fld i :: p, _ => cases o <;> simp [Nav]
  | .idx i :: p, h => cases h
 | _ =>
  intro p b off G G' h
  match p, h with
  | [], _ => rw [Nav_nil, Nav_nil]
  | .fld i :: p, _ => simp [Nav]
  | .idx i :: p, h => cases h

theorem ok_flds : ∀ {t : Ty} {p : List Step} {x y : t.den}, flds p = true → okP t x p → okP t y p := by
 intro t
 induction t with
 | pair a c iha ihc =>
  intro p x y h ho
  match p, h, ho with
  | [], _, _ => trivial
  | .fld 0 :: p, h, ho => exact iha (x := x.1) h ho
  | .fld (n + 1) :: p, h, ho => exact ihc (p := .fld n :: p) (x := x.2) h ho
  | .idx i :: p, h, _ => cases h
 | slc o t ih =>
  intro p x y h ho
  match p, h, ho with
  | [], _, _ => exact okP_nil
  | .fld i :: p, _, ho => cases o <;> simp [okP] at ho
  | .idx i :: p, h, _ => cases h
 | _ =>
  intro p x y h ho
  match p, h, ho with
  | [], _, _ => exact okP_nil
  | .fld i :: p, _, ho => simp [okP] at ho
  | .idx i :: p, h, _ => cases h

def Alike1 (e e' : Ent) : Prop := (∃ t x x', e = .var t x ∧ e' = .var t x') ∨ (∃ t x x', e = .own (.slc true t) x ∧ e' = .own (.slc true t) x') ∨ (∃ o k v x x', e = .own (.map o k v) x ∧ e' = .own (.map o k v) x')

theorem RS.renew (h : RS B S ι s a w) {i : Nat} {e e' : Ent} (he : look i s.hp = some e) (hal : Alike1 e e') {F : List Nat} (hF : Flt B S ι s.hp w F) {L : List Nat} {w' : World} (k : Past L w w') (hLs : ∀ b ∈ L, b ∈ blks ι i e ∨ b ∈ F) (hS : ∀ b, S b → S' b)
  (hS' : ∀ b, S' b → S b ∨ (w.heap.size ≤ b ∧ b < w'.heap.size)) {O' : List Nat} (hob : OB w'.heap S' (ι.setB i O') i e') (hO' : ∀ c ∈ blks (ι.setB i O') i e', ¬ S' c ∧ (w.heap.size ≤ c ∨ c ∈ L) ∧ c < w'.heap.size) :
  RS B S' (ι.setB i O') ((s.killR i e.isOwn).putE i e') a w' := by
 have hnb : e ≠ .bag := by rcases hal with ⟨_, _, _, h, _⟩ | ⟨_, _, _, h, _⟩ | ⟨_, _, _, _, _, h, _⟩ <;> (rw [h]; intro h; cases h)
 have hLfact : ∀ b ∈ L, ¬ S b ∧ (B.w0.heap.size ≤ b ∨ B.M b) ∧ b < w.heap.size ∧ ∀ j ej, j ≠ i → look j s.hp = some ej → b ∉ blks ι j ej := by
  intro b hb
  rcases hLs b hb with h1 | h1
  ·obtain ⟨q1, q2, q3⟩ := h.hs.bl i e he b h1
   exact ⟨q1, q2, q3, fun j ej hj hlj => h.hs.dj i j e ej he hlj (Ne.symm hj) b h1⟩
  ·obtain ⟨q1, q2, q3, q4⟩ := hF.2 b h1
   exact ⟨q1, q2, q3, fun j ej _ hlj => q4 j ej hlj⟩
 have hold : ∀ {b : Nat}, ((∃ j ej, j ≠ i ∧ look j s.hp = some ej ∧ b ∈ blks ι j ej) ∨ S b) → w'.heap[b]? = w.heap[b]? := by
  intro b hb
  refine k.frame b (hb.elim (fun ⟨j, ej, _, h1, h2⟩ => (h.hs.bl j ej h1 b h2).2.2) (h.hs.slt b)) (fun hbL => ?_)
  obtain ⟨q1, _, _, q4⟩ := hLfact b hbL
  rcases hb with ⟨j, ej, h0, h1, h2⟩ | hb
  ·exact q4 j ej h0 h1 h2
  ·exact q1 hb
 have hnew : ∀ c ∈ blks (ι.setB i O') i e', (¬ S' c ∧ (B.w0.heap.size ≤ c ∨ B.M c) ∧ c < w'.heap.size) ∧ ∀ j ej, j ≠ i → look j s.hp = some ej → c ∉ blks ι j ej := by
  intro c hc
  obtain ⟨q1, q2, q3⟩ := hO' c hc
  rcases q2 with q2 | q2
  ·exact ⟨⟨q1, .inl (Nat.le_trans h.hs.size q2), q3⟩, fun j ej _ hlj hcb => by have := (h.hs.bl j ej hlj c hcb).2.2; omega⟩
  ·obtain ⟨r1, r2, r3, r4⟩ := hLfact c q2
   exact ⟨⟨q1, r2, q3⟩, r4⟩
 have hsame : ∀ j, j ≠ i → SameAt ι (ι.setB i O') j := fun j hj => sameAt_setB hj _
 have hHS : HS B S' (ι.setB i O') (Ex.put i e' s.hp) w' := by
  refine ⟨k.os.trans h.hs.os, k.tape.trans h.hs.tape, k.out.trans h.hs.out, Nat.le_trans h.hs.size k.size, ?_, ?_, fun b hb => hS b (h.hs.s0 b hb), ?_, ?_, ?_, ?_, ?_⟩
  ·intro c hc hm
   rw [k.frame c (Nat.lt_of_lt_of_le hc h.hs.size) (fun hcL => by rcases (hLfact c hcL).2.1 with h1 | h1; omega; exact hm h1)]
   exact h.hs.frame c hc hm
  ·intro b hb
   rcases hS' b hb with h1 | h1
   ·exact Nat.lt_of_lt_of_le (h.hs.slt b h1) k.size
   ·exact h1.2
  ·intro b hb
   rcases hS' b hb with h1 | h1
   ·exact h.hs.s1 b h1
   ·exact .inr (Nat.le_trans h.hs.size h1.1)
  ·intro j ej hj
   rw [look_put] at hj
   by_cases e1 : j = i
   ·subst e1; rw [if_pos rfl] at hj; cases hj; exact hob
   ·rw [if_neg e1] at hj
    exact (hsame j e1).ob.2 ((h.hs.ob j ej hj).stable (fun b hb => hold (hb.imp (fun hb => ⟨j, ej, e1, hj, hb⟩) id)) hS)
  ·intro j ej hj c hc
   rw [look_put] at hj
   by_cases e1 : j = i
   ·subst e1; rw [if_pos rfl] at hj; cases hj; exact (hnew c hc).1
   ·rw [if_neg e1] at hj
    rw [(hsame j e1).blks] at hc
    obtain ⟨q1, q2, q3⟩ := h.hs.bl j ej hj c hc
    refine ⟨fun hs => ?_, q2, Nat.lt_of_lt_of_le q3 k.size⟩
    rcases hS' c hs with h1 | h1
    ·exact q1 h1
    ·omega
  ·intro j l ej el hj hl hjl c hc
   rw [look_put] at hj hl
   by_cases e1 : j = i
   ·subst e1
    rw [if_pos rfl] at hj; cases hj
    rw [if_neg (Ne.symm hjl)] at hl
    rw [(hsame l (Ne.symm hjl)).blks]
    exact (hnew c hc).2 l el (Ne.symm hjl) hl
   ·rw [if_neg e1] at hj
    rw [(hsame j e1).blks] at hc
    by_cases e2 : l = i
    ·subst e2
     rw [if_pos rfl] at hl; cases hl
     exact fun hcc => (hnew c hcc).2 j ej e1 hj hc
    ·rw [if_neg e2] at hl
     rw [(hsame l e2).blks]
     exact h.hs.dj j l ej el hj hl hjl c hc
  ·intro q hq
   obtain ⟨k0, ⟨e1, k1⟩, k2, k3⟩ := h.hs.pin q hq
   refine ⟨k0, ?_, k2, k3⟩
   rw [look_put]
   by_cases e2 : q.1 = i
   ·exact ⟨_, by rw [if_pos e2]⟩
   ·exact ⟨e1, by rw [if_neg e2]; exact k1⟩
 refine ⟨hHS, h.dfr, h.sz, ?_⟩
 intro t v hv
 simp only [St.putE, St.killR, look_mapA, Option.map_eq_some_iff] at hv
 obtain ⟨v0, hv0, rfl⟩ := hv
 refine VX.map (fun c hc => hold (.inr hc)) hS (fun v vs hr hm hvx => ?_) (h.fr t v0 hv0)
 unfold AV.killR1
 have honex := VX.one hr hvx
 cases hmi : v.ment i with
 | false =>
  have hne : ∀ j, v.ment j = true → j ≠ i := by rintro j hj rfl; rw [hmi] at hj; cases hj
  have hst : VX w'.heap S' ι (del i s.hp) v vs := by
   refine VX.grow (fun c hcm => hold ?_) hS h.hs.slt (fun j ej hj => ?_) (VX.other (hp' := del i s.hp) (fun j hj => by rw [look_del, if_neg (hne j hj)]) (fun j _ => SameAt.refl ι j) hvx)
   ·rcases hcm with ⟨j, ej, hj, hcj⟩ | hcm
    ·rw [look_del] at hj
     split at hj
     ·cases hj
     ·rename_i hji
      exact .inl ⟨j, ej, hji, hj, hcj⟩
    ·exact .inr hcm
   ·rw [look_del] at hj
    split at hj
    ·cases hj
    ·exact h.hs.ob j ej hj
  exact VX.other (fun j hj => by simp only [St.putE, look_put, look_del, if_neg (hne j hj)]; rfl) (fun j hj => hsame j (hne j hj)) hst
 | true =>
  simp only
  cases v <;> simp only [AV.ref] at hr <;> try cases hr
  ·rename_i j q
   have hji : i = j := Nat.eq_of_beq_eq_true hmi
   subst hji
   cases hfl : flds q with
   | false => simp only [hfl]; exact honex
   | true =>
    simp only [hfl]
    obtain ⟨ej, b2, off2, k1, k2, k3, k4⟩ := hvx
    rw [he] at k1; cases k1
    rcases hal with ⟨t0, x0, x1, rfl, rfl⟩ | ⟨t0, x0, x1, rfl, rfl⟩ | ⟨o0, k0, v0, x0, x1, rfl, rfl⟩
    ·obtain ⟨p1, p2⟩ := Loc_place k3
     refine ⟨.var t0 x1, b2, off2, by simp [St.putE, look_put], ok_flds hfl k2, Loc_of ?_ (Nat.lt_of_lt_of_le p2 k.size), k4⟩
     simp only [Place, VR, VH, Ix.setB, Ent.ty] at p1 ⊢
     rw [Nav_flds (G' := w.heap) hfl]; exact p1
    ·exfalso
     obtain ⟨p1, p2⟩ := Loc_place k3
     cases q with
     | nil =>
      simp only [Place, Nav_nil, VR, Option.some.injEq, Prod.mk.injEq] at p1
      omega
     | cons st q =>
      cases st with
      | fld n => have k2 : okP (.slc true t0) x0 (.fld n :: q) := k2; simp [okP] at k2
      | idx n => cases hfl
    ·exfalso
     obtain ⟨p1, p2⟩ := Loc_place k3
     cases q with
     | nil =>
      simp only [Place, Nav_nil, VR, Option.some.injEq, Prod.mk.injEq] at p1
      omega
     | cons st q =>
      cases st with
      | fld n => have k2 : okP (.map o0 k0 v0) x0 (.fld n :: q) := k2; simp [okP] at k2
      | idx n => cases hfl
  ·rename_i j q
   have hji : i = j := Nat.eq_of_beq_eq_true hmi
   subst hji
   cases q with
   | cons st q => exact honex
   | nil =>
    rcases hal with ⟨t0, x0, x1, rfl, rfl⟩ | ⟨t0, x0, x1, rfl, rfl⟩ | ⟨o0, k0, v0, x0, x1, rfl, rfl⟩
    ·exact honex
    ·obtain ⟨ej, u2, y2, cs2, k1, k2, k3, k4, k5⟩ := hvx
     rw [he] at k1; cases k1
     rw [getP_nil] at k3; cases k3
     obtain ⟨⟨O1, _, hR1⟩, _⟩ := h.hs.ob i _ he
     have hcs2 := own_cells_inv k4 hR1.length
     exact ⟨.own (.slc true t0) x1, .slc true t0, x1, cs2, by simp [St.putE, look_put], okP_nil, getP_nil, own_cells (show ι.cells i = cs2 from hcs2.symm) (by rw [hcs2]; exact hR1.length), k5⟩
    ·obtain ⟨ej, u2, y2, cs2, k1, k2, k3, k4, k5⟩ := hvx
     rw [he] at k1; cases k1
     rw [getP_nil] at k3; cases k3
     obtain ⟨⟨O1, _, hR1⟩, _⟩ := h.hs.ob i _ he
     have hcs2 := own_cells_inv k4 hR1.length
     exact ⟨.own (.map o0 k0 v0) x1, .map o0 k0 v0, x1, cs2, by simp [St.putE, look_put], okP_nil, getP_nil, own_cells (show ι.cells i = cs2 from hcs2.symm) (by rw [hcs2]; exact hR1.length), k5⟩
  ·rename_i j q lo hi
   have hji : i = j := Nat.eq_of_beq_eq_true hmi
   subst hji
   cases q with
   | cons st q => exact honex
   | nil =>
    rcases hal with ⟨t0, x0, x1, rfl, rfl⟩ | ⟨t0, x0, x1, rfl, rfl⟩ | ⟨o0, k0, v0, x0, x1, rfl, rfl⟩
    ·exact honex
    ·obtain ⟨ej, v2, k1, k2, k3, k4, k5, k6⟩ := hvx
     rw [he] at k1; cases k1
     obtain ⟨⟨O1, _, hR1⟩, _⟩ := h.hs.ob i _ he
     rcases k6 with ⟨t', l, a', cap, g1, g2, g3, g4⟩ | ⟨n, t', l, b2, off2, g1, g2, g3, g4⟩
     ·have g1 : getP (.slc true t0) x0 [] = some ⟨.slc true t', l⟩ := g1
      rw [getP_nil] at g1; cases g1
      have hcs2 := own_cells_inv g3 hR1.length
      have hlen : List.length x1 = List.length x0 := by
       obtain ⟨⟨O'', _, hR''⟩, _⟩ := hob
       have hcc : (ι.setB i O').cells i = [.slice a' (List.length x0) cap] := (show ι.cells i = _ from hcs2.symm)
       rw [hcc] at hR''
       rcases hR'' with ⟨_, ⟨a2, c2, h1, _⟩, h3⟩ | ⟨b3, o3, cap3, O3, c1, _⟩
       ·simp only [List.cons.injEq, Value.slice.injEq, and_true] at h1
        subst h3
        simp [h1.2.1]
       ·simp only [List.cons.injEq, Value.slice.injEq, and_true] at c1
        exact c1.2.1.symm
      refine ⟨.own (.slc true t0) x1, v2, by simp [St.putE, look_put], okP_nil, k3, k4, k5, .inl ⟨t0, x1, a', cap, getP_nil, by rw [hlen]; exact g2, ?_, g4⟩⟩
      rw [hlen]
      exact own_cells (show ι.cells i = _ from hcs2.symm) rfl
     ·exfalso
      simp only [Loc, Place, Nav_nil, VR] at g3
      simp at g3
    ·exfalso
     obtain ⟨ej, v2, k1, k2, k3, k4, k5, k6⟩ := hvx
     rw [he] at k1; cases k1
     rcases k6 with ⟨t', l, a', cap, g1, _⟩ | ⟨n, t', l, b2, off2, g1, _⟩
     ·have g1 : getP (.map o0 k0 v0) x0 [] = some ⟨.slc true t', l⟩ := g1
      rw [getP_nil] at g1; cases g1
     ·have g1 : getP (.map o0 k0 v0) x0 [] = some ⟨.arr n t', l⟩ := g1
      rw [getP_nil] at g1; cases g1

end
end Go.Ex

namespace Go.Ex

section
variable {E : Env} {B : Base} {S S' : Nat → Prop} {ι : Ix} {s : St} {a : Act} {w : World} {hp : List (Nat × Ent)} {H H' : Array Go.Obj}

def bxV (g : Option Nat) (i : Nat) : AV := match g with | none => .ptr i [] | some f => .clo f (.cons (.ptr i []) .nil)
theorem layE_inv (t : Ty) (x : t.den) (i : Nat) : layE t x i = (.own t x, .at_ i []) ∨ ∃ g u y, (⟨t, x⟩ : Sigma Ty.den) = ⟨.box true g u, some y⟩ ∧ layE t x i = (.var u y, bxV g i) := by
 unfold layE
 split
 ·exact .inr ⟨none, _, _, rfl, rfl⟩
 ·exact .inr ⟨some _, _, _, rfl, rfl⟩
 ·exact .inl rfl

theorem layE_ment {t : Ty} {x : t.den} {i k : Nat} (h : k ≠ i) : (layE t x i).2.ment k = false := by
 rcases layE_inv t x i with e | ⟨g, u, y, _, e⟩
 ·rw [e]; exact beq_ne h
 ·rw [e]
  cases g with
  | none => exact beq_ne h
  | some f => show (AV.ment k (.ptr i []) || false) = false; rw [Bool.or_false]; exact beq_ne h

theorem layE_sound {t : Ty} {x : t.den} {i : Nat} {O : List Nat} {cs : List Value} (hR : Rep H S t O cs x) (hnd : O.Nodup) : ∃ ι1, (∀ j, j ≠ i → SameAt ι ι1 j) ∧ OB H S ι1 i (layE t x i).1 ∧ (∀ b ∈ blks ι1 i (layE t x i).1, b ∈ O) ∧
  VX H S ι1 (Ex.put i (layE t x i).1 hp) (layE t x i).2 [toV t cs] := by
 rcases layE_inv t x i with e | ⟨g, u, y, e0, e⟩
 ·rw [e]
  exact ⟨ι.setO i cs O, fun j hj => sameAt_setO hj _ _, ⟨⟨O, by simp [Ix.setO], by simpa [Ix.setO] using hR⟩, by simpa [Ix.setO] using hnd⟩, by intro b hb; simpa [blks, Ix.setO] using hb, at_new hR.length⟩
 ·cases e0
  rw [e]
  rcases hR with ⟨h0, _⟩ | ⟨z, b, off, O', h0, rfl, h2, h3, rfl, h5⟩
  ·cases h0
  cases h0
  have hlt : b < H.size := by obtain ⟨_, _, ⟨_, e, _⟩, _⟩ := h5; exact (Array.getElem?_eq_some_iff.1 e).1
  refine ⟨ι.setV i (b, off) O', fun j hj => sameAt_setV hj _ _, ⟨⟨O', by simp [Ix.setV], by simpa [Ix.setV] using h3⟩, by simpa [Ix.setV] using h5, by simpa [Ix.setV] using hnd⟩, by intro c hc; simpa [blks, Ix.setV] using hc, ?_⟩
  have hp : VX H S (ι.setV i (b, off) O') (Ex.put i (.var u y) hp) (.ptr i []) [.pointer (some ⟨b, off, none⟩)] := by
   refine ⟨.var u y, b, off, by simp [look_put], okP_nil, ?_, rfl⟩
   simp only [Loc, Place, VR, VH, Nav_nil, Ix.setV, if_true, hlt]
  cases g with
  | none => exact hp
  | some f => exact ⟨[.pointer (some ⟨b, off, none⟩)], rfl, _, _, rfl, hp, rfl⟩

theorem layRes_sound : ∀ {ts : List Ty} {x : DL ts} {d j : Nat} {ι : Ix} {hp : List (Nat × Ent)} {l : AV} {hp' : List (Nat × Ent)} {O : List Nat} {us : List Value}, layRes ts x d j hp = some (l, hp') → HS B S ι hp w → ResRep w.heap S ts O us x →
  Flt B S ι hp w O → ∃ ι', HS B S ι' hp' w ∧ VX w.heap S ι' hp' l us ∧ (∀ v vs, (∀ k, j ≤ k → k < j + ts.length → v.ment (rid d k) = false) → VX w.heap S ι hp v vs → VX w.heap S ι' hp' v vs)
 | [], x, d, j, ι, hp, l, hp', O, us, hl, h, hR, _ => by
  simp only [layRes, Option.some.injEq, Prod.mk.injEq] at hl
  obtain ⟨rfl, rfl⟩ := hl
  exact ⟨ι, h, hR.2, fun v vs _ hv => hv⟩
 | t :: ts, x, d, j, ι, hp, l, hp', O, us, hl, h, ⟨v1, us1, O1, O2, cs, e1, e2, e3, h1, h2⟩, hF => by
  subst e2
  have hnd' := List.nodup_append.1 hF.1
  simp only [layRes] at hl
  split at hl
  ·rename_i hs
   split at hl
   ·rename_i l' hp2 hl'
    cases hl
    have hO1 := h1.nilO hs
    subst hO1
    obtain ⟨ι', k1, k2, k3⟩ := layRes_sound hl' h h2 (hF.sub hnd'.2.1 (fun b hb => by simp [hb]))
    refine ⟨ι', k1, ⟨v1, us1, e1, ⟨cs, by rw [e3], h1⟩, k2⟩, fun v vs hm hv => k3 v vs (fun k hk1 hk2 => hm k (by omega) (by simp; omega)) hv⟩
   ·cases hl
  ·split at hl
   ·cases hl
   ·rename_i hlk
    split at hl
    ·rename_i l' hp2 hl'
     cases hl
     have hd : look (rid d j) hp = none := hlk
     obtain ⟨ι1, hs, hob1, hb1, hat⟩ := layE_sound (hp := hp) (ι := ι) (i := rid d j) h1 hnd'.1
     have hH : HS B S ι1 (Ex.put (rid d j) (layE t x.1 (rid d j)).1 hp) w := h.add hd hs hob1 (O := O1) hb1 (hF.sub hnd'.1 (fun b hb => by simp [hb]))
     have hF2 : Flt B S ι1 (Ex.put (rid d j) (layE t x.1 (rid d j)).1 hp) w O2 := by
      refine ⟨hnd'.2.1, fun b hb => ?_⟩
      obtain ⟨q1, q2, q3, q4⟩ := hF.2 b (by simp [hb])
      refine ⟨q1, q2, q3, fun i e hi => ?_⟩
      rw [look_put] at hi
      by_cases ei : i = rid d j
      ·subst ei; rw [if_pos rfl] at hi; cases hi
       exact fun hbb => hnd'.2.2 b (hb1 b hbb) b hb rfl
      ·rw [if_neg ei] at hi
       rw [(hs i ei).blks]
       exact q4 i e hi
     obtain ⟨ι', k1, k2, k3⟩ := layRes_sound hl' hH h2 hF2
     rw [← e3] at hat
     refine ⟨ι', k1, ⟨v1, us1, e1, k3 _ _ (fun k hk1 hk2 => ?_) hat, k2⟩, fun v vs hm hv => ?_⟩
     ·exact layE_ment (by simp only [rid]; omega)
     ·exact k3 v vs (fun k hk1 hk2 => hm k (by omega) (by simp; omega)) (VX.add hs (hm j (Nat.le_refl _) (by simp)) hv)
    ·cases hl

theorem noMents_all {d : Nat} : ∀ {n : Nat} {fr : List (Nat × AV)}, noMents d n fr = true → ∀ k, k < n → noMent (rid d k) fr = true
 | 0, _, _, k, hk => by omega
 | n + 1, fr, h, k, hk => by
  simp only [noMents, Bool.and_eq_true] at h
  by_cases e : k = n
  ·subst e; exact h.1
  ·exact noMents_all h.2 k (by omega)

def AV.lst : AV → Bool
 | .nil => true
 | .cons _ b => b.lst
 | _ => false

theorem layRes_lst : ∀ {ts : List Ty} {x : DL ts} {d j : Nat} {hp : List (Nat × Ent)} {l : AV} {hp' : List (Nat × Ent)}, layRes ts x d j hp = some (l, hp') → l.lst = true
 | [], x, d, j, hp, l, hp', h => by
  simp only [layRes, Option.some.injEq, Prod.mk.injEq] at h
  rw [← h.1]; rfl
 | t :: ts, x, d, j, hp, l, hp', h => by
  simp only [layRes] at h
  split at h
  ·split at h
   ·rename_i l' hp2 hl'
    cases h
    show l'.lst = true
    exact layRes_lst hl'
   ·cases h
  ·split at h
   ·cases h
   ·split at h
    ·rename_i l' hp2 hl'
     cases h
     show l'.lst = true
     exact layRes_lst hl'
    ·cases h

theorem retV_one {l : AV} {us : List Value} (hl : l.lst = true) (h : VX H S ι hp l us) : VX H S ι hp l.one [retV us] := by
 cases l <;> simp only [AV.lst] at hl <;> first | cases hl | skip
 ·have : us = [] := h
  subst this
  exact ⟨[], rfl, rfl⟩
 ·rename_i a b
  obtain ⟨v, us', rfl, ha, hb⟩ := h
  cases b <;> simp only [AV.lst] at hl <;> first | cases hl | skip
  ·have : us' = [] := hb
   subst this; exact ha
  ·obtain ⟨v2, us2, rfl, hb1, hb2⟩ := hb
   exact ⟨v :: v2 :: us2, rfl, v, _, rfl, ha, v2, us2, rfl, hb1, hb2⟩

theorem VX.app {l m : AV} : ∀ {us vs : List Value}, l.lst = true → VX H S ι hp l us → VX H S ι hp m vs → VX H S ι hp (l.app m) (us ++ vs) := by
 induction l <;> intro us vs hl h hm <;> simp only [AV.lst] at hl <;> first | cases hl | skip
 ·have : us = [] := h
  subst this; exact hm
 ·rename_i a b _ ihb
  obtain ⟨v, us', rfl, ha, hb⟩ := h
  exact ⟨v, us' ++ vs, rfl, ha, ihb hl hb hm⟩

theorem evs_lst (s : St) : ∀ l : List Operand, (s.evs l).lst = true
 | [] => rfl
 | _ :: l => evs_lst s l


theorem out_none : ∀ {ks : List PK} {vs : List Value} {y : DL (wts ks)} {L : List Nat}, wts ks = [] → OutRep H S ks vs y L → L = []
 | [], _, _, _, _, h => h.2
 | .rw t :: ks, _, _, _, e, _ => by cases e
 | .mu t :: ks, _, _, _, e, _ => by cases e
 | .v _ :: ks, _, _, _, e, ⟨_, us, _, h⟩ => out_none (ks := ks) e h
 | .rd _ :: ks, _, _, _, e, ⟨_, us, _, h⟩ => out_none (ks := ks) e h
 | .clo _ _ :: ks, _, _, _, e, ⟨_, us, _, h⟩ => out_none (ks := ks) e h
 | .nilS :: ks, _, _, _, e, ⟨_, us, _, h⟩ => out_none (ks := ks) e h
 | .own _ :: ks, _, _, _, e, ⟨_, us, _, h⟩ => out_none (ks := ks) e h

theorem asK_m {k : PK} {v : AV} {x : k.den} {g m : List Nat} (h : v.asK s k = some (x, g, m)) (hk : (match k with | .rw _ | .mu _ => false | _ => true) = true) : m = [] := by
 cases k with
 | v t => simp only [AV.asK] at h; split at h <;> cases h; rfl
 | rd t => simp only [AV.asK] at h; split at h <;> cases h; rfl
 | clo f ts =>
  cases v <;> simp only [AV.asK] at h <;> first | cases h | skip
  split at h
  ·split at h <;> cases h; rfl
  ·cases h
 | nilS => simp only [AV.asK] at h; split at h <;> cases h; rfl
 | own t =>
  simp only [AV.asK] at h
  split at h
  ·split at h <;> cases h; rfl
  ·split at h
   ·split at h <;> cases h; rfl
   ·cases h
 | rw t => cases hk
 | mu t => cases hk

def Wrote (H' : Array Go.Obj) (S' : Nat → Prop) (ι : Ix) (i : Nat) (e' : Ent) (L : List Nat) : Prop :=
 ∃ O', OB H' S' (ι.setB i O') i e' ∧ L = blks (ι.setB i O') i e'

theorem wr_out (h : HS B S ι s.hp w) : ∀ {ks : List PK} {v : AV} {x : DK ks} {vs : List Value} {g m : List Nat} {y : DL (wts ks)} {s1 s2 : St} {L : List Nat}, AV.asKs s ks v = some (x, g, m) → VX w.heap S ι s.hp v vs → wr ks y m s1 = some s2 → OutRep H' S' ks vs y L → L.Nodup →
  (m = [] ∧ s2 = s1 ∧ L = []) ∨ (∃ i e e', m = [i] ∧ look i s.hp = some e ∧ Alike1 e e' ∧ s2 = (s1.killR i e.isOwn).putE i e' ∧ Wrote H' S' ι i e' L)
 | [], v, x, vs, g, m, y, s1, s2, L, hx, hv, hw, ho, hnd => by
  cases v <;> simp only [AV.asKs] at hx <;> first | cases hx | skip
  simp only [wr, Option.some.injEq] at hw
  exact .inl ⟨rfl, hw.symm, ho.2⟩
 | k :: ks, v, x, vs, g, m, y, s1, s2, L, hx, hv, hw, ho, hnd => by
  cases v <;> simp only [AV.asKs] at hx <;> first | cases hx | skip
  rename_i a b
  split at hx
  ·rename_i x1 g1 m1 x2 g2 m2 h1 h2
   cases hx
   obtain ⟨v, us, rfl, ha, hb⟩ := hv
   cases k with
   | v t =>
    have := asK_m h1 rfl; subst this
    obtain ⟨v', us', e, ho'⟩ := ho
    cases e
    exact wr_out h h2 hb hw ho' hnd
   | rd t =>
    have := asK_m h1 rfl; subst this
    obtain ⟨v', us', e, ho'⟩ := ho
    cases e
    exact wr_out h h2 hb hw ho' hnd
   | clo f ts =>
    have := asK_m h1 rfl; subst this
    obtain ⟨v', us', e, ho'⟩ := ho
    cases e
    exact wr_out h h2 hb hw ho' hnd
   | nilS =>
    have := asK_m h1 rfl; subst this
    obtain ⟨v', us', e, ho'⟩ := ho
    cases e
    exact wr_out h h2 hb hw ho' hnd
   | own t =>
    have := asK_m h1 rfl; subst this
    obtain ⟨v', us', e, ho'⟩ := ho
    cases e
    exact wr_out h h2 hb hw ho' hnd
   | rw t =>
    simp only [AV.asK] at h1
    split at h1
    ·rename_i i
     split at h1
     ·rename_i u z hob
      split at h1
      ·rename_i hu; subst hu; cases h1
       obtain ⟨e, b0, off, q1, q2, q3, q4⟩ := ha
       obtain rfl := ent_of q1 hob
       have hl : (ι.root i).1 = b0 ∧ (ι.root i).2 = off := by
        have := (Loc_place q3).1
        simp only [Place, Nav_nil, VR, Option.some.injEq, Prod.mk.injEq] at this
        exact this
       obtain ⟨rfl, rfl⟩ := hl
       obtain ⟨b1, off1, O, us', L', r1, r2, r3, r4, r5⟩ := ho
       have q4 : v = .pointer (some ⟨(ι.root i).1, (ι.root i).2, none⟩) := by simpa using q4
       rw [q4] at r1
       simp only [List.cons.injEq, Value.pointer.injEq, Option.some.injEq, Addr.mk.injEq, and_true] at r1
       obtain ⟨⟨rfl, rfl⟩, rfl⟩ := r1
       cases m2 with
       | cons j m2 => simp [wr] at hw
       | nil =>
        simp only [List.append_nil, wr] at hw
        split at hw
        ·rename_i hwt
         cases hw
         have := out_none hwt r5
         subst this
         rw [List.append_nil] at r4
         subst r4
         exact .inr ⟨i, _, .var u y.1, rfl, q1, .inl ⟨u, z, y.1, rfl, rfl⟩, rfl, O, ⟨⟨O, by simp [Ix.setB], r2⟩, r3, by simpa [Ix.setB] using hnd⟩, by simp [blks, Ix.setB]⟩
        ·cases hw
      ·cases h1
     ·cases h1
    ·cases h1
   | mu t =>
    simp only [AV.asK] at h1
    split at h1
    ·rename_i i
     split at h1
     ·rename_i u z hob
      split at h1
      ·rename_i hu; subst hu; cases h1
       obtain ⟨e, u', y', cs, q1, q2, q3, q4, q5⟩ := ha
       obtain rfl := ent_of q1 hob
       have q3 : getP (.slc true t) z [] = some ⟨u', y'⟩ := q3
       rw [getP_nil] at q3; cases q3
       obtain ⟨⟨O0, _, hR0⟩, _⟩ := h.ob i _ q1
       have hcs := own_cells_inv q4 hR0.length
       obtain ⟨cs1, O, us', L', r1, r1', r2, r4, r5⟩ := ho
       have q5 : v = toV (.slc true t) cs := by simpa using q5
       rw [q5] at r1
       have hcl : cs.length = 1 := by rw [hcs]; exact hR0.length
       have hcc : cs1 = cs := by
        match cs, cs1, hcl, r1' with
        | [c], [c'], _, _ =>
         simp only [List.cons.injEq, toV, Ty.agg] at r1
         have := r1.1
         simp at this
         rw [this]
       subst hcc
       cases m2 with
       | cons j m2 => simp [wr] at hw
       | nil =>
        simp only [List.append_nil, wr] at hw
        split at hw
        ·rename_i hwt
         cases hw
         have := out_none hwt r5
         subst this
         rw [List.append_nil] at r4
         subst r4
         exact .inr ⟨i, _, .own (.slc true t) y.1, rfl, q1, .inr (.inl ⟨t, z, y.1, rfl, rfl⟩), rfl, L, ⟨⟨L, by simp [Ix.setB], by rw [show (ι.setB i L).cells i = cs1 from hcs.symm]; exact r2⟩, by simpa [Ix.setB] using hnd⟩, by simp [blks, Ix.setB]⟩
        ·cases hw
      ·cases h1
     ·cases h1
    ·cases h1
  ·cases hx

end
end Go.Ex

namespace Go.Ex

section
variable {E : Env} {B : Base} {S S' : Nat → Prop} {ι : Ix} {s : St} {a : Act} {w : World} {hp : List (Nat × Ent)} {H H' : Array Go.Obj}

theorem RS.share (h : RS B S ι s a w) (hS : ∀ b, S b → S' b) (hS' : ∀ b, S' b → S b ∨ (B.w0.heap.size ≤ b ∧ b < w.heap.size ∧ ∀ i e, look i s.hp = some e → b ∉ blks ι i e)) : RS B S' ι s a w := by
 refine ⟨⟨h.hs.os, h.hs.tape, h.hs.out, h.hs.size, h.hs.frame, ?_, fun b hb => hS b (h.hs.s0 b hb), ?_, ?_, ?_, h.hs.dj, h.hs.pin⟩, h.dfr, h.sz, fun t v hv => ?_⟩
 ·intro b hb; rcases hS' b hb with h1 | h1; exact h.hs.slt b h1; exact h1.2.1
 ·intro b hb; rcases hS' b hb with h1 | h1; exact h.hs.s1 b h1; exact .inr h1.1
 ·intro i e hi; exact (h.hs.ob i e hi).stable (fun _ _ => rfl) hS
 ·intro i e hi b hb
  obtain ⟨q1, q2, q3⟩ := h.hs.bl i e hi b hb
  exact ⟨fun hs => by rcases hS' b hs with h1 | h1; exact q1 h1; exact h1.2.2 i e hi hb, q2, q3⟩
 ·exact VX.grow (fun _ _ => rfl) hS h.hs.slt h.hs.ob (h.fr t v hv)

theorem callA_sound (hE : EnvOk E) (h : RS B S ι s a w) {o : Oper} {c : Call} (ho : o.op = .call c) {f : Operand} (hf : c.callee = .value f) {g : FuncId} {caps : AV} {us : List Value} (he : a.eval f = .func (.func g) #[] us.toArray) (hcap : VX w.heap S ι s.hp caps us) :
  ORok E.P B o a w (callA E g ((s.evs c.args.toList).app caps) o.dst s) := by
 have hargs := VX.app (evs_lst s _) (h.evs c.args.toList) hcap
 generalize hav : (s.evs c.args.toList).app caps = av at *
 unfold callA
 split
 ·trivial
 ·rename_i ct hct
  have hV := hE.ctr g ct hct
  split
  ·trivial
  ·rename_i x gs ms hx
   split
   ·trivial
   ·rename_i hck
    split
    ·trivial
    ·rename_i s2 hwr
     split
     ·trivial
     ·rename_i hnm
      split
      ·rename_i l hp' hl
       intro hpre next Q hn
       simp only [Bool.and_eq_true, Bool.or_eq_true] at hck
       obtain ⟨⟨⟨⟨hk1, hk2⟩, hk3⟩, hk4⟩, _⟩ := hck
       obtain ⟨fn, hfn, hname, hbody⟩ := hV.ent
       have hndg := noDup_nodup hk1
       let S1 : Nat → Prop := fun b => S b ∨ BlkOf ι s.hp (callA.loose ct.ps av) b
       obtain ⟨L, hK, hLn, hLb, hLm⟩ := asKs_rep (S1 := S1) h.hs (fun b hb => .inl hb) hx hargs hndg (fun b hb => .inr hb)
       have hS1 : ∀ b, S1 b → b < w.heap.size := by
        rintro b (hb | ⟨i, e, h1, h2, h3⟩)
        ·exact h.hs.slt b hb
        ·exact (h.hs.bl i e h2 b h3).2.2
       have hLS : ∀ b ∈ L, ¬ S1 b ∧ b < w.heap.size := by
        intro b hb
        obtain ⟨i, e, h1, h2, h3⟩ := hLb b hb
        obtain ⟨q1, q2, q3⟩ := h.hs.bl i e h2 b h3
        refine ⟨?_, q3⟩
        rintro (hs | ⟨j, ej, r1, r2, r3⟩)
        ·exact q1 hs
        ·have hij : i ≠ j := by rintro rfl; exact disj_spec hk2 i h1 r1
         exact h.hs.dj i j e ej h2 r2 hij b h3 r3
       have hcall : Calls E.P g (c.args.toList.map a.eval ++ us).toArray w (fun e w' => ∃ rs O Lo S', e = .returned (retV rs) ∧ Past L w w' ∧ (∀ b, S1 b → S' b) ∧ (∀ b, S' b → S1 b ∨ (w.heap.size ≤ b ∧ b < w'.heap.size)) ∧
         ResRep w'.heap S' ct.rs O rs (ct.fn x) ∧ OutRep w'.heap S' ct.ps (c.args.toList.map a.eval ++ us) (ct.out x) Lo ∧ (O ++ Lo).Nodup ∧ (∀ b ∈ O ++ Lo, ¬ S' b ∧ (w.heap.size ≤ b ∨ b ∈ L) ∧ b < w'.heap.size) ∧
         (ct.new = true → ResRep w'.heap (fun b => S' b ∧ w.heap.size ≤ b) ct.rs O rs (ct.fn x))) := by
        cases hnw : ct.new with
        | true => exact (hV.fresh hnw w S1 _ x L hS1 hpre hK hLn hLS).mono (fun e w' ⟨rs, O, Lo, S', a1, a2, a3, a4, a5, a6, a7, a8, a9⟩ => ⟨rs, O, Lo, S', a1, a2, a3, a4, a5, a6, a7, a8, fun _ => a9⟩)
        | false => exact (hV.run w S1 _ x L hS1 hpre hK hLn hLS).mono (fun e w' ⟨rs, O, Lo, S', a1, a2, a3, a4, a5, a6, a7, a8⟩ => ⟨rs, O, Lo, S', a1, a2, a3, a4, a5, a6, a7, a8, fun h => by cases h⟩)
       unfold Oper.wp
       have hrun : (execOp a.eval o).run E.P w = .ok (.enter g (c.args.toList.map a.eval ++ us).toArray) w := by
        have hnb : fn.body.isNone = false := hbody
        have hq : (fn.name == "runtime.NumGoroutine") = false := hname
        simp only [execOp, ho, resolve, hf, he, Deferred.ofValue, Sem.run_bind, Sem.run_pure, Result.andThen, invoke, callFunc, program]
        simp [Sem.run, hfn, hq, hnb]
       rw [hrun]
       refine Calls.mono hcall ?_
       rintro e w' ⟨rs, O, Lo, S', e1, hpast, hs1, hs2, hres, hout, hnd, hO, hnew⟩
       subst e1
       have hsz := hpast.size
       -- the state before, without what goes over
       have hd := h.drops (g := gs) (by simpa using hk3)
       have hgsi : ∀ i ∈ gs, i ∉ ms := fun i hi hm => (List.nodup_append.1 hndg).2.2 i hi i hm rfl
       have main : ∀ S2 : Nat → Prop, (∀ b, S b → S2 b) → (∀ b, S2 b → S b ∨ (w.heap.size ≤ b ∧ b < w'.heap.size)) → (∀ b ∈ O ++ Lo, ¬ S2 b) → ResRep w'.heap S2 ct.rs O rs (ct.fn x) → OutRep w'.heap S2 ct.ps (c.args.toList.map a.eval ++ us) (ct.out x) Lo → next (a.put o.dst (retV rs)) w' := by
        intro S2 hS2 hS2' hOS hres2 hout2
        have hF0 : ∀ {L' : List Nat}, L'.Nodup → (∀ b ∈ L', b ∈ L) → (∀ b ∈ L', ∀ i e, i ∈ ms → look i s.hp = some e → b ∉ blks ι i e) → Flt B S ι (St.drops gs s).hp w L' := by
         intro L' hn' hsub hnm'
         refine Flt.drops h.hs hn' (fun b hb => ?_)
         obtain ⟨i, e, q1, q2, q3⟩ := hLb b (hsub b hb)
         rcases List.mem_append.1 q1 with q1 | q1
         ·exact ⟨i, e, q1, q2, q3⟩
         ·exact absurd q3 (hnm' b hb i e q1 q2)
        have fin : ∀ {ι2 : Ix}, RS B S2 ι2 s2 a w' → Flt B S2 ι2 s2.hp w' O → next (a.put o.dst (retV rs)) w' := by
         intro ι2 hR2 hF2
         obtain ⟨ι', k1, k2, k3⟩ := layRes_sound hl hR2.hs hres2 hF2
         refine hn S2 ι' w' (retV rs) ⟨k1, hR2.dfr, hR2.sz, fun t v hv => ?_⟩ (retV_one (layRes_lst hl) k2)
         exact k3 v _ (fun k hk1 hk2 => look_noMent (noMents_all hnm k (by omega)) hv) (hR2.fr t v hv)
        have hOf : ∀ b ∈ O, ¬ S2 b ∧ (B.w0.heap.size ≤ b ∨ B.M b) ∧ b < w'.heap.size := by
         intro b hb
         obtain ⟨q1, q2, q3⟩ := hO b (List.mem_append_left _ hb)
         refine ⟨hOS b (List.mem_append_left _ hb), ?_, q3⟩
         rcases q2 with q2 | q2
         ·exact .inl (Nat.le_trans h.hs.size q2)
         ·obtain ⟨i, e, _, r2, r3⟩ := hLb b q2
          exact (h.hs.bl i e r2 b r3).2.1
        have hOj : ∀ b ∈ O, ∀ j ej, j ∉ gs → j ∉ ms → look j s.hp = some ej → b ∉ blks ι j ej := by
         intro b hb j ej hj1 hj2 hlj hbj
         obtain ⟨q1, q2, q3⟩ := hO b (List.mem_append_left _ hb)
         rcases q2 with q2 | q2
         ·have := (h.hs.bl j ej hlj b hbj).2.2; omega
         ·obtain ⟨i, e, r1, r2, r3⟩ := hLb b q2
          have hij : i ≠ j := by rintro rfl; rcases List.mem_append.1 r1 with r1 | r1; exact hj1 r1; exact hj2 r1
          exact h.hs.dj i j e ej r2 hlj hij b r3 hbj
        rcases wr_out h.hs hx hargs hwr hout2 (List.nodup_append.1 hnd).2.1 with ⟨rfl, rfl, rfl⟩ | ⟨i, e, e', rfl, hi, hal, rfl, O', hob, hLo⟩
        ·-- nothing is written
         have hF := hF0 hLn (fun b hb => hb) (by simp)
         have hR1 := hd.turn hF hpast
         have hR2 : RS B S2 ι (St.drops gs s) a w' := hR1.share hS2 (fun b hb => by
          rcases hS2' b hb with h1 | h1
          ·exact .inl h1
          ·refine .inr ⟨Nat.le_trans h.hs.size h1.1, h1.2, fun j ej hj hbj => ?_⟩
           have := (hd.hs.bl j ej hj b hbj).2.2; omega)
         refine fin hR2 ⟨(List.nodup_append.1 hnd).1, fun b hb => ?_⟩
         obtain ⟨q1, q2, q3⟩ := hOf b hb
         refine ⟨q1, q2, q3, fun j ej hj => ?_⟩
         rw [drops_look] at hj
         split at hj
         ·cases hj
         ·rename_i hjg; exact hOj b hb j ej hjg (by simp) hj
        ·-- one object is written
         have hig : i ∉ gs := fun hi' => hgsi i hi' (by simp)
         have hi' : look i (St.drops gs s).hp = some e := by rw [drops_look, if_neg hig]; exact hi
         have hF := hF0 (L' := L.filter (fun b => !(blks ι i e).contains b)) (hLn.filter _) (fun b hb => (List.mem_filter.1 hb).1) (fun b hb j ej hj hlj => by
          simp only [List.mem_cons, List.not_mem_nil, or_false] at hj
          subst hj
          rw [hi] at hlj; cases hlj
          have := (List.mem_filter.1 hb).2
          simpa using this)
         have hR2 := hd.renew hi' hal hF hpast (fun b hb => by
          by_cases hbi : b ∈ blks ι i e
          ·exact .inl hbi
          ·exact .inr (List.mem_filter.2 ⟨hb, by simpa using hbi⟩)) hS2 hS2' hob (fun c hc => by
           rw [← hLo] at hc
           obtain ⟨q1, q2, q3⟩ := hO c (List.mem_append_right _ hc)
           exact ⟨hOS c (List.mem_append_right _ hc), q2, q3⟩)
         refine fin hR2 ⟨(List.nodup_append.1 hnd).1, fun b hb => ?_⟩
         obtain ⟨q1, q2, q3⟩ := hOf b hb
         refine ⟨q1, q2, q3, fun j ej hj => ?_⟩
         simp only [St.putE, look_put] at hj
         by_cases hji : j = i
         ·subst hji
          rw [if_pos rfl] at hj; cases hj
          rw [← hLo]
          exact fun hbl => (List.nodup_append.1 hnd).2.2 b hb b hbl rfl
         ·rw [if_neg hji] at hj
          have hj : look j (St.drops gs s).hp = some ej := hj
          rw [(sameAt_setB hji O').blks]
          rw [drops_look] at hj
          split at hj
          ·cases hj
          ·rename_i hjg; exact hOj b hb j ej hjg (by simpa using hji) hj
       rcases hk4 with ⟨hno | hno, hno2⟩ | hle
       rotate_left
       ·refine main (fun b => S b ∨ (S' b ∧ w.heap.size ≤ b)) (fun _ h => .inl h) (fun b hb => ?_) (fun b hb hs => ?_) ?_ (hout.noSh hno2)
        ·rcases hb with hb | ⟨hb, hb2⟩
         ·exact .inl hb
         ·rcases hs2 b hb with h1 | h1
          ·have := hS1 b h1; omega
          ·exact .inr h1
        ·rcases hs with hs | hs
         ·exact (hO b hb).1 (hs1 b (.inl hs))
         ·exact (hO b hb).1 hs.1
        ·exact (hnew hno).mono (fun b hb => .inr hb)
       rotate_left
       ·exact main S (fun _ h => h) (fun b hb => .inl hb) (fun b hb hs => (hO b hb).1 (hs1 b (.inl hs))) (hres.noSh hno) (hout.noSh hno2)
       ·have hlo : callA.loose ct.ps av = [] := by
         revert hle
         cases callA.loose ct.ps av with
         | nil => intro _; rfl
         | cons x y => intro h; cases h
        refine main S' (fun b hb => hs1 b (.inl hb)) (fun b hb => ?_) (fun b hb => (hO b hb).1) hres hout
        rcases hs2 b hb with (h1 | ⟨i, e, h1, _⟩) | h1
        ·exact .inl h1
        ·rw [hlo] at h1; cases h1
        ·exact .inr h1
      ·trivial

theorem ORok.also {P : Program} {o : Oper} {r : OR} {p : Prop} (h : p → ORok P B o a w r) : ORok P B o a w (r.also p) := by
 cases r with
 | fail y => trivial
 | ok v s' => exact fun hp => h hp.1
 | okN q v s' => exact fun hp => h hp.1 hp.2

theorem fn_val (h : RS B S ι s a w) {x : Operand} {g : Nat} {b : Bool} (hx : s.ev x = .val (.fn g) b) : a.eval x = fnV g b := by
 obtain ⟨cs, e, _, rfl⟩ := evx h hx
 simpa [toV, Ty.agg] using e

end
end Go.Ex

namespace Go.Ex

section
variable {E : Env} {B : Base} {S S' : Nat → Prop} {ι : Ix} {s : St} {a : Act} {w : World} {hp : List (Nat × Ent)} {H H' : Array Go.Obj}

theorem index_sound (hE : EnvOk E) (h : RS B S ι s a w) {o : Oper} {T : TypeId} {x y : Operand} (ho : o.op = .index T x y) : ORok E.P B o a w (aop E o s) := by
 have he : execOp a.eval o = (do pure (.value (← Instr.index T (a.eval x) (a.eval y)))) := by simp [execOp, ho]
 unfold aop
 rw [ho]
 simp only
 split
 ·rename_i l k n hx hy
  split
  ·rename_i hc
   intro hn
   obtain ⟨hxv, _⟩ := VX.str_inv (evx h hx)
   obtain ⟨hyv, _⟩ := VX.int_inv (evx h hy)
   have hu := tyOk_str (chk_ok hE hc)
   exact exec_val he h (val := .int .u8 ((List.getD l (Int.toNat n) 0).toNat : Int)) (by rw [hxv, hyv]; exact run_index_str hu hn) (VX.int (by generalize List.getD l (Int.toNat n) 0 = c; have := c.toNat_lt; unfold inK; simp [IntKind.min, IntKind.max, IntKind.signed, IntKind.bits]; omega))
  ·trivial
 ·rename_i m t z k n hx hy
  split
  ·rename_i hc
   intro hn
   obtain ⟨cs, e, hR⟩ := evx h hx
   have e : a.eval x = toV (.arr m t) cs := by simpa using e
   obtain ⟨hyv, _⟩ := VX.int_inv (evx h hy)
   obtain ⟨et, k', h1, h2, h3⟩ := tyOk_arr (chk_ok hE hc)
   obtain ⟨b1', b2, b3, b4⟩ := idx_bound (sz := t.size) hn
   obtain ⟨P1, P2, P3, e1, g1, g2, g3⟩ := RepL.split (d := t.dflt) (i := Int.toNat n) (by rw [hR.1]; exact b1') hR.2
   have hP : P2 = [] := (List.append_eq_nil_iff.1 (List.append_eq_nil_iff.1 e1.symm).2).1
   rw [hP] at g2
   refine exec_val he h (val := toV t ((cs.drop (Int.toNat n * t.size)).take t.size)) ?_ ⟨_, rfl, g2⟩
   have hp := run_part (w := w) h3 g2
   rw [e, hyv, toV]
   have hn' : 0 ≤ (n : Int) ∧ (n : Int) < m := hn
   simp [Instr.index, asIntOf, run_under h1, Ty.agg, hn', run_sizeOf h3, hp]
  ·trivial
 ·rename_i i p k n hx hy
  split
  ·rename_i m t z hpt
   split
   ·rename_i hc
    obtain ⟨e, u', y', cs, q1, q2, q3, q4, q5⟩ := evx h hx
    have hgp := part_of q1 hpt
    rw [q3] at hgp; cases hgp
    have q5 : a.eval x = toV (.arr m t) cs := by simpa using q5
    obtain ⟨hyv, _⟩ := VX.int_inv (evx h hy)
    obtain ⟨O2, m1, m2, hR⟩ := sub_rep h.hs q1 q2 q3 q4
    obtain ⟨et, k', h1, h2, h3⟩ := tyOk_arr (chk_ok hE hc)
    have core : (0 ≤ (n : Int) ∧ (n : Int) < m) → ∃ P2, (∀ c ∈ P2, c ∈ O2) ∧ Rep w.heap S t P2 ((cs.drop (Int.toNat n * t.size)).take t.size) (List.getD z (Int.toNat n) t.dflt) ∧ (Instr.index T (a.eval x) (a.eval y)).run E.P w = .ok (toV t ((cs.drop (Int.toNat n * t.size)).take t.size)) w := by
     intro hn
     obtain ⟨b1', b2, b3, b4⟩ := idx_bound (sz := t.size) hn
     obtain ⟨P1, P2, P3, e1, g1, g2, g3⟩ := RepL.split (d := t.dflt) (i := Int.toNat n) (by rw [hR.1]; exact b1') hR.2
     refine ⟨P2, fun c hc => by rw [e1]; simp [hc], g2, ?_⟩
     have hp := run_part (w := w) h3 g2
     rw [q5, hyv, toV]
     have hn' : 0 ≤ (n : Int) ∧ (n : Int) < m := hn
     simp [Instr.index, asIntOf, run_under h1, Ty.agg, hn', run_sizeOf h3, hp]
    split
    ·rename_i hs
     intro hn
     obtain ⟨P2, k1, k2, k3⟩ := core hn
     have := k2.nilO hs
     subst this
     exact exec_val he h k3 ⟨_, rfl, k2⟩
    ·intro hn
     obtain ⟨P2, k1, k2, k3⟩ := core hn
     refine exec_val he h k3 ⟨e, t, List.getD z (Int.toNat n) t.dflt, _, q1, ok_append q3 q2 ⟨hn, okP_nil⟩, getP_append q3 getP_nil, ?_, rfl⟩
     obtain ⟨b0, off0, g1, rfl⟩ := q4
     obtain ⟨b1', b2, b3, b4⟩ := idx_bound (sz := t.size) hn
     refine ⟨b0, off0 + Int.toNat n * t.size, Place_append q3 g1 (by simp only [Nav, Nav_nil]), ?_⟩
     rw [cellsAt_drop, cellsAt_take _ _ _ _ (by simp only [Ty.size]; omega)]
   ·trivial
  ·trivial
 ·trivial
where
 run_index_str {P : Program} {w : World} {T : TypeId} {l : List UInt8} {k : IntKind} {n : Int} (hu : P.underlying T = some .string) (hn : 0 ≤ n ∧ n < (l.length : Int)) :
   (Instr.index T (.string ⟨l.toArray⟩) (.int k n)).run P w = .ok (.int .u8 ((l.getD n.toNat 0).toNat : Int)) w := by
  have h1 : n.toNat < l.length := by omega
  have h2 : (ByteArray.mk l.toArray)[n.toNat]? = some (l.getD n.toNat 0) := by
   have : n.toNat < (ByteArray.mk l.toArray).size := by simpa [ByteArray.size] using h1
   rw [getElem?_pos (ByteArray.mk l.toArray) n.toNat this]
   simp [ByteArray.getElem_eq_getElem_data, h1]
  simp [Instr.index, asIntOf, run_under hu, hn.1, h2]

theorem fold_sound {P : Program} (h : RS B S ι s a w) {k : IntKind} {f : Int → Int → Int} {m2 : Value → Value → Sem Value} (hf : ∀ x y, inK k x → inK k y → inK k (f x y)) (hm : ∀ x y, (m2 (.int k x) (.int k y)).run P w = .ok (.int k (f x y)) w) :
  ∀ {l : List Operand} {x : Int} {v : AV} {s' : St}, inK k x → foldI s k f x l = .ok v s' → ∃ n, v = .val (.int k) n ∧ s' = s ∧ inK k n ∧ ((l.map a.eval).foldlM m2 (.int k x)).run P w = .ok (.int k n) w
 | [], x, v, s', hx, hfo => by
  simp only [foldI, OR.ok.injEq] at hfo
  obtain ⟨rfl, rfl⟩ := hfo
  exact ⟨x, rfl, rfl, hx, rfl⟩
 | y :: l, x, v, s', hx, hfo => by
  simp only [foldI] at hfo
  split at hfo
  ·rename_i k' b hy
   split at hfo
   ·rename_i hk
    subst hk
    obtain ⟨hyv, hb⟩ := VX.int_inv (evx h hy)
    obtain ⟨n, k1, k2, k3, k4⟩ := fold_sound h hf hm (hf x b hx hb) hfo
    refine ⟨n, k1, k2, k3, ?_⟩
    simp only [List.map_cons, List.foldlM_cons, Sem.run_bind, hyv, hm, Result.andThen]
    exact k4
   ·cases hfo
  ·cases hfo

theorem foldI_okN {k : IntKind} {f : Int → Int → Int} : ∀ {l : List Operand} {x : Int} {p : Prop} {v : AV} {s' : St}, foldI s k f x l ≠ .okN p v s'
 | [], x, p, v, s', h => by cases h
 | y :: l, x, p, v, s', h => by
  simp only [foldI] at h
  split at h
  ·split at h
   ·exact foldI_okN h
   ·cases h
  ·cases h

theorem len_run {P : Program} {T ty : TypeId} {k : Nat} {u : Ty} (hT : tyOk P k T u = true) {v : Value} {n : Nat}
  (h : (∃ q t b off cap, u = .slc q t ∧ v = .slice b n cap ∧ off = 0) ∨ (∃ l : List UInt8, u = .str ∧ v = .string ⟨l.toArray⟩ ∧ n = l.length) ∨ (∃ t, u = .arr n t)) :
  (Builtin.len_ #[T] ty #[v]).run P w = .ok (.int .i64 n) w := by
 rcases h with ⟨q, t, b, off, cap, rfl, rfl, _⟩ | ⟨l, rfl, rfl, rfl⟩ | ⟨t, rfl⟩
 ·obtain ⟨e, k', h1, _⟩ := tyOk_slc hT
  simp [Builtin.len_, run_under h1, goInt]
 ·have h1 := tyOk_str hT
  have e : (ByteArray.mk l.toArray).size = l.length := rfl
  simp [Builtin.len_, run_under h1, goInt, e]
 ·obtain ⟨e, k', h1, _⟩ := tyOk_arr hT
  simp [Builtin.len_, run_under h1, goInt]

theorem len_sound (hE : EnvOk E) (h : RS B S ι s a w) {o : Oper} {c : Call} (ho : o.op = .call c) (hc : c.callee = .builtin .len) {x : Operand} {T : TypeId} (ha : c.args.toList = [x]) (hT : c.argTypes.toList = [T]) {u : Ty} (hk : chk E T u = true) {n : Nat}
  (hv : (∃ q t b off cap, u = .slc q t ∧ a.eval x = .slice b n cap ∧ off = 0) ∨ (∃ l : List UInt8, u = .str ∧ a.eval x = .string ⟨l.toArray⟩ ∧ n = l.length) ∨ (∃ t, u = .arr n t)) (hn : (n : Int) ≤ 9223372036854775807) :
  OpOk E.P B o a w (.val (.int .i64) (n : Int)) s := by
 have hargs : c.args = #[x] := by rw [← ha]
 have hts : c.argTypes = #[T] := by rw [← hT]
 refine OpOk.value (val := .int .i64 n) ?_ h (VX.int (by unfold inK; simp [IntKind.min, IntKind.max, IntKind.signed, IntKind.bits]; omega))
 have := len_run (w := w) (ty := o.type) (chk_ok hE hk) hv
 simp [execOp, ho, resolve, hc, invoke, builtin, hargs, hts, this]

theorem slc_val {q : Bool} {u : Ty} {O : List Nat} {cs : List Value} {z : (Ty.slc q u).den} (hR : Rep H S (.slc q u) O cs z) : ∃ b cap, toV (.slc q u) cs = .slice b (List.length z) cap ∧ ((List.length z : Nat) : Int) ≤ 9223372036854775807 := by
 rcases hR with ⟨_, ⟨a, c, h1, _⟩, h2⟩ | ⟨b, off, cap, O', c1, c2, c3, _⟩
 ·subst h2; subst h1; exact ⟨a, c, rfl, by simp⟩
 ·rw [c1]; exact ⟨_, cap, rfl, by have := c3.1; unfold maxLen at this; omega⟩

/-! ### structs and arrays written out -/
theorem foldl_set (off : Nat) : ∀ (vs : List Value) (k : Nat) (cells : Array Value), off + k + vs.length ≤ cells.size →
  ((vs.zipIdx k).foldl (fun cs (q : Value × Nat) => cs.setIfInBounds (off + q.2) q.1) cells) = (over cells.toList (off + k) vs).toArray
 | [], k, cells, _ => by simp [over]
 | v :: vs, k, cells, h => by
  simp only [List.length_cons] at h
  simp only [List.zipIdx_cons, List.foldl_cons]
  rw [foldl_set off vs (k + 1) _ (by simp; omega)]
  congr 1
  have e := list_seg_step cells.toList (off + k) v vs (by simp; omega)
  simpa [over, Array.toList_setIfInBounds, Nat.add_assoc] using e

theorem fill_one {place : Nat → Option (Nat × Nat)} {cells : List Value} {i off size : Nat} {v : Value} {vs : List Value} {rest : List (Nat × Value)} (hp : place i = some (off, size)) (hv : v.cells = vs.toArray) (hl : vs.length = size) (hb : off + size ≤ cells.length) :
  Instr.fill place cells.toArray ((i, v) :: rest) = Instr.fill place (over cells off vs).toArray rest := by
 have hz := foldl_set off vs 0 cells.toArray (by simp; omega)
 simp only [Instr.fill, hp, hv]
 have h1 : ¬ ((vs.toArray.size ≠ size) ∨ (off + vs.toArray.size > cells.toArray.size)) := by simp [hl]; omega
 simp only [Bool.or_eq_true, decide_eq_true_eq]
 rw [if_neg (by simpa using h1)]
 congr 1
 simp only [Nat.add_zero] at hz
 rw [← hz, ← Array.foldl_toList]
 simp

theorem rep_over {t : Ty} {x : t.den} {O : List Nat} {cs : List Value} (hR : Rep H S t O cs x) (hS : ∀ b, S b → b < H.size) (hO : ∀ b ∈ O, ¬ S b) (hnd : O.Nodup) {p : List Step} (hok : okP t x p) {u0 : Ty} {y0 : u0.den} (hg : getP t x p = some ⟨u0, y0⟩) {off : Nat}
  (hn : ∀ (G : Array Go.Obj) (b o : Nat), Nav G t p b o = some (b, o + off)) {u : Ty} {z : u.den} {O2 : List Nat} {cs' : List Value} (hz : Rep H S u O2 cs' z) (hnd2 : O2.Nodup) (hdj : ∀ b ∈ O2, b ∉ O) {r : Sigma Ty.den} (hset : setP t x p u z = some r) :
  ∃ O', Rep H S r.1 O' (over cs off cs') r.2 ∧ O'.Nodup ∧ (∀ b ∈ O', b ∈ O ∨ b ∈ O2) ∧ r.1.sh = t.sh ∧ off + u0.size ≤ cs.length ∧ u.size = u0.size := by
 have hush := getset_sh hg hset
 have husz := size_er hush
 let G : Array Go.Obj := H.push (.cells cs.toArray 0)
 let G' : Array Go.Obj := H.push (.cells (over cs off cs').toArray 0)
 have hold : ∀ {c}, c < H.size → G[c]? = H[c]? := fun h => push_old h
 have hold' : ∀ {c}, c < H.size → G'[c]? = H[c]? := fun h => push_old h
 have hblk : blk G H.size = cs := by simp [G, blk]
 have hblk' : blk G' H.size = over cs off cs' := by simp [G', blk]
 have hOl : ∀ c ∈ O, c < H.size := fun c hc => hR.memO c hc
 have hO2l : ∀ c ∈ O2, c < H.size := fun c hc => hz.memO c hc
 have hroot : cellsAt G H.size 0 t.size = cs := by
  simp only [cellsAt, hblk, List.drop_zero]
  exact List.take_of_length_le (by rw [hR.length]; exact Nat.le_refl _)
 have hRG : Rep G S t O (cellsAt G H.size 0 t.size) x := by
  rw [hroot]; exact hR.stable (fun c hc => hold (hc.elim (hOl c) (hS c))) (fun _ h => h)
 have hbG : 0 + t.size ≤ (blk G H.size).length := by rw [hblk, hR.length]; omega
 obtain ⟨O1, O3, b', off', e1, e2, e3, e4, e5, e6⟩ := focus (b := H.size) (off := 0) hRG hbG hok hg
 rw [hn] at e3; cases e3
 rw [hblk] at e5
 have hle : off + u0.size ≤ cs.length := by simpa using e5
 have hcl : cs'.length = u0.size := by rw [hz.length, husz]
 have hov : (over cs off cs').length = cs.length := over_length (by omega)
 have hnS : ¬ S H.size := fun h => Nat.lt_irrefl _ (hS _ h)
 have hc : Chg G G' H.size (0 + off) u0.size := by
  refine ⟨⟨cs.toArray, (over cs off cs').toArray, 0, ⟨_, ⟨push_new, .inl rfl⟩, push_new⟩, by simp [hov], ?_⟩, ?_⟩
  ·intro j hj
   exact over_out (by omega) (by omega)
  ·intro c hc1 hc2
   have : c < H.size := by simp [G] at hc2; omega
   rw [hold' this, hold this]
 have hz' : Rep G' S u O2 (cellsAt G' H.size (0 + off) u.size) z := by
  have : cellsAt G' H.size (0 + off) u.size = cs' := by
   simp only [cellsAt, hblk', Nat.zero_add]
   rw [← hz.length]; exact over_in (by omega)
  rw [this]
  exact hz.stable (fun c hc => hold' (hc.elim (hO2l c) (hS c))) (fun _ h => h)
 have hndO := (e1.nodup_iff).1 hnd
 have hm1 : ∀ c ∈ O1, c ∈ O := fun c hc => e1.mem_iff.2 (by simp [hc])
 obtain ⟨O4, f1, f2, f3⟩ := unfocus e2 hg (hn G H.size 0) hbG (by simp [G]) (List.nodup_append.1 hndO).1 (fun hm => Nat.lt_irrefl _ (hOl _ (hm1 _ hm))) (fun c hc => ⟨hO c (hm1 c hc), by have := hOl c (hm1 c hc); simp [G]; omega⟩) hnS
  (fun c hc => by have := hS c hc; simp [G]; omega) (fun _ h => h) hc hz' hset
 have hsub : ∀ b ∈ O4, b ∈ O ∨ b ∈ O2 := fun b hb => (List.mem_append.1 (f1.mem_iff.1 hb)).imp (hm1 b) id
 refine ⟨O4, ?_, (f1.nodup_iff).2 (List.nodup_append.2 ⟨(List.nodup_append.1 hndO).1, hnd2, fun c h1 d h2 e => hdj d h2 (e ▸ hm1 c h1)⟩), hsub, f3, hle, husz⟩
 have : cellsAt G' H.size 0 r.1.size = over cs off cs' := by
  simp only [cellsAt, hblk', List.drop_zero]
  exact List.take_of_length_le (by rw [hov, hR.length, size_er f3]; omega)
 rw [this] at f2
 exact f2.stable (fun c hc => (hold' (hc.elim (fun h => (hsub c h).elim (hOl c) (hO2l c)) (hS c))).symm) (fun _ h => h)

def offP (t : Ty) (i : Nat) : Nat :=
 match t with
 | .arr _ t => i * t.size
 | t => offF t i

theorem part_nav {t : Ty} {x : t.den} {i : Nat} (hi : inArr t i = true) {r : Sigma Ty.den} (hg : getP t x (partPath t i) = some r) : okP t x (partPath t i) ∧ ∀ (G : Array Go.Obj) (b o : Nat), Nav G t (partPath t i) b o = some (b, o + offP t i) := by
 obtain ⟨u, y⟩ := r
 cases t with
 | arr n t =>
  have : i < n := by simpa [inArr, Nat.blt_eq] using hi
  refine ⟨⟨by omega, okP_nil⟩, fun G b o => ?_⟩
  simp [partPath, Nav, offP, Nav_nil]
 | _ => exact ⟨ok_fld hg, fun G b o => Nav_fld hg⟩

theorem fill_sound (h : RS B S ι s a w) {place : Nat → Option (Nat × Nat)} : ∀ {parts : List (Nat × Operand)} {t : Ty} {x : t.den} {O : List Nat} {cs : List Value} {r : Sigma Ty.den} {G g : List Nat}, Rep w.heap S t O cs x → O.Nodup → (∀ b ∈ O, BlkOf ι s.hp G b) → (G ++ g).Nodup → parts.all (fun q => inArr t q.1) = true →
  (∀ (t' : Ty) (x' : t'.den) (i : Nat) (u : Ty) (y : u.den), t'.sh = t.sh → getP t' x' (partPath t' i) = some ⟨u, y⟩ → inArr t' i = true → place i = some (offP t' i, u.size)) → buildL s ⟨t, x⟩ parts = some (r, g) →
  ∃ cs' O', Instr.fill place cs.toArray (parts.map fun q => (q.1, a.eval q.2)) = some cs'.toArray ∧ Rep w.heap S r.1 O' cs' r.2 ∧ O'.Nodup ∧ (∀ b ∈ O', BlkOf ι s.hp (G ++ g) b) ∧ r.1.sh = t.sh
 | [], t, x, O, cs, r, G, g, hR, hnd, hO, _, _, _, hb => by
  simp only [buildL, Option.some.injEq, Prod.mk.injEq] at hb
  obtain ⟨rfl, rfl⟩ := hb
  exact ⟨cs, O, rfl, hR, hnd, fun b hb => (hO b hb).mono (by simp), rfl⟩
 | (i, v) :: parts, t, x, O, cs, r, G, g, hR, hnd, hO, hG, hall, hp, hb => by
  simp only [List.all_cons, Bool.and_eq_true] at hall
  simp only [buildL] at hb
  split at hb
  ·cases hb
  ·rename_i u0 y0 hg
   obtain ⟨hok, hnav⟩ := part_nav hall.1 hg
   have hplace := hp t x i u0 y0 rfl hg hall.1
   have hOS : ∀ b ∈ O, ¬ S b := fun b hb => by obtain ⟨j, e, _, q2, q3⟩ := hO b hb; exact (h.hs.bl j e q2 b q3).1
   -- one part
   have one : ∀ {u : Ty} {z : u.den} {O2 : List Nat} {cs1 : List Value} {r1 : Sigma Ty.den} {g1 g2 : List Nat}, Rep w.heap S u O2 cs1 z → O2.Nodup → (∀ b ∈ O2, BlkOf ι s.hp g1 b) → a.eval v = toV u cs1 → setP t x (partPath t i) u z = some r1 → buildL s r1 parts = some (r, g2) → g = g1 ++ g2 →
     ∃ cs' O', Instr.fill place cs.toArray (((i, v) :: parts).map fun q => (q.1, a.eval q.2)) = some cs'.toArray ∧ Rep w.heap S r.1 O' cs' r.2 ∧ O'.Nodup ∧ (∀ b ∈ O', BlkOf ι s.hp (G ++ g) b) ∧ r.1.sh = t.sh := by
    intro u z O2 cs1 r1 g1 g2 hz hnd2 hO2 hev hset hb hgg
    subst hgg
    have hdj : ∀ b ∈ O2, b ∉ O := by
     intro b hb2 hb1
     obtain ⟨i1, e1, q1, q2, q3⟩ := hO2 b hb2
     obtain ⟨i2, e2, r1', r2, r3⟩ := hO b hb1
     have hne : i1 ≠ i2 := by rintro rfl; exact (List.nodup_append.1 hG).2.2 i1 r1' i1 (by simp [q1]) rfl
     exact h.hs.dj i1 i2 e1 e2 q2 r2 hne b q3 r3
    obtain ⟨O', k1, k1n, k1s, k2, k3, k4⟩ := rep_over hR h.hs.slt hOS hnd hok hg hnav hz hnd2 hdj hset
    obtain ⟨t1, x1⟩ := r1
    have hsh : t1.sh = t.sh := k2
    have hin : ∀ j, inArr t1 j = inArr t j := by
     intro j
     cases t <;> cases t1 <;> simp only [Ty.sh] at hsh <;> first | cases hsh | rfl | skip
     all_goals first | rfl | (simp only [Ty.arr.injEq] at hsh; simp only [inArr, hsh.1])
    obtain ⟨cs', O4, q1, q2, q3, q4, q5⟩ := fill_sound h (place := place) (parts := parts) (G := G ++ g1) (g := g2) k1 k1n (fun b hb => (k1s b hb).elim (fun hb => (hO b hb).mono (by simp; intro i hi; exact .inl hi)) (fun hb => (hO2 b hb).mono (by simp; intro i hi; exact .inr hi))) (by rw [List.append_assoc]; exact hG) (by simp only [hin]; exact hall.2) (fun t' x' j u' y' e1 e2 e3 => hp t' x' j u' y' (e1.trans hsh) e2 e3) hb
    refine ⟨cs', O4, ?_, q2, q3, by rw [← List.append_assoc]; exact q4, q5.trans hsh⟩
    simp only [List.map_cons]
    rw [fill_one (vs := cs1) hplace (by rw [hev]; exact hz.cells) (by rw [hz.length, k4]) k3]
    exact q1
   split at hb
   ·rename_i hv
    have hv' : [a.eval v] = [Value.slice none 0 0] := evx h hv
    split at hb
    ·rename_i o' u' _
     split at hb
     ·rename_i r1 hset
      exact one (u := .slc o' u') (z := ([] : List u'.den)) (cs1 := [.slice none 0 0]) (g1 := []) (.inl ⟨rfl, ⟨none, 0, rfl, fun _ => rfl⟩, rfl⟩) List.nodup_nil (by simp) (by simpa [toV, Ty.agg] using hv') hset hb rfl
     ·cases hb
    ·cases hb
   ·split at hb
    ·rename_i u z g1 hgv
     obtain ⟨O2, cs1, e, hz, hnd2, hO2⟩ := giveV_rep h.hs hgv (h.ev v)
     split at hb
     ·rename_i r1 hset
      split at hb
      ·rename_i r2 g2 hb2
       simp only [Option.some.injEq, Prod.mk.injEq] at hb
       obtain ⟨rfl, rfl⟩ := hb
       exact one hz hnd2 hO2 e hset hb2 rfl
      ·cases hb
     ·cases hb
    ·cases hb

def plc : Ty → Nat → List (Nat × Nat)
 | .pair a b, off => (off, a.size) :: plc b (off + a.size)
 | _, _ => []

theorem plc_get : ∀ {t : Ty} {x : t.den} {n : Nat} {u : Ty} {z : u.den} {off : Nat}, getP t x [.fld n] = some ⟨u, z⟩ → (plc t off)[n]? = some (off + offF t n, u.size) := by
 intro t
 induction t with
 | pair a c _ ihc =>
  intro x n u z off h
  match n, h with
  | 0, h =>
   have h : some (⟨a, x.1⟩ : Sigma Ty.den) = some ⟨u, z⟩ := by rw [← h]; simp only [getP]
   cases h
   simp [plc, offF]
  | n + 1, h =>
   have := ihc (x := x.2) (off := off + a.size) h
   simp only [plc, offF, List.getElem?_cons_succ, this]
   simp [Nat.add_assoc]
 | slc o t _ => intro x n u z off h; cases o <;> simp [getP] at h
 | _ => intro x n u z off h; simp [getP] at h

theorem run_plc {P : Program} {k : Nat} : ∀ {fs : List Field} {off : Nat} {t : Ty}, fieldsOk (tyOk P k) fs off t = true → (fs.mapM fun f => Prod.mk f.offset <$> sizeOf f.type).run P w = .ok (plc t off) w
 | [], off, t, h => by
  cases t <;> simp [fieldsOk] at h
  rfl
 | f :: fs, off, t, h => by
  cases t <;> simp only [fieldsOk] at h <;> first | cases h | skip
  simp only [Bool.and_eq_true] at h
  obtain ⟨⟨⟨⟨h1, _⟩, h3⟩, _⟩, h4⟩ := h
  have ih := run_plc h4
  simp [List.mapM_cons, run_sizeOf h3, ih, plc, Nat.eq_of_beq_eq_true h1]

theorem plc_sh : ∀ {t u : Ty} {off : Nat}, u.sh = t.sh → plc u off = plc t off := by
 intro t
 induction t with
 | pair a c _ ihc =>
  intro u off h
  cases u <;> simp only [Ty.sh] at h <;> try cases h
  simp only [Ty.pair.injEq] at h
  simp only [plc, size_er h.1, ihc h.2]
 | _ =>
  intro u off h
  cases u <;> simp only [Ty.sh] at h <;> try cases h
  all_goals rfl

theorem tyOk_struct {P : Program} {k : Nat} {T : TypeId} {t : Ty} (h : tyOk P k T t = true) (ht : t.agg = true) (hn : ∀ n u, t ≠ .arr n u) : ∃ fs k', P.underlying T = some (.struct fs) ∧ fieldsOk (tyOk P k') fs.toList 0 t = true := by
 cases k with
 | zero => simp [tyOk] at h
 | succ k =>
  obtain ⟨d, h1, h2⟩ := tyOk_agg h
  simp only [tyOk, Bool.and_eq_true, h1] at h
  obtain ⟨_, h⟩ := h
  cases t with
  | pair a c => cases d <;> first | (exact (Bool.false_ne_true h).elim) | (exact ⟨_, k, h1, h⟩)
  | unit => cases d <;> first | (exact (Bool.false_ne_true h).elim) | (exact ⟨_, k, h1, h⟩)
  | arr n u => exact absurd rfl (hn n u)
  | _ => cases ht

end
end Go.Ex

namespace Go.Ex

section
variable {E : Env} {B : Base} {S S' : Nat → Prop} {ι : Ix} {s : St} {a : Act} {w : World} {hp : List (Nat × Ent)} {H H' : Array Go.Obj}

theorem zeros_list (z : List Value) : ∀ n : Nat, (List.range (n * z.length)).map (fun i => z.getD (i % z.length) default) = (List.replicate n z).flatten
 | 0 => by simp
 | n + 1 => by
  rw [Nat.succ_mul, Nat.add_comm, List.range_add, List.map_append, List.replicate_succ, List.flatten_cons, ← zeros_list z n]
  congr 1
  ·apply List.ext_getElem
   ·simp
   ·intro i h1 h2
    simp only [List.length_map, List.length_range] at h1
    simp [Nat.mod_eq_of_lt h1, List.getElem?_eq_getElem h1]
  ·simp [List.map_map, Function.comp_def]

theorem zeros_eq (z : List Value) (n : Nat) : ((Array.range (n * z.length)).map (z.toArray[· % z.toArray.size]!)) = (List.replicate n z).flatten.toArray := by
 rw [← zeros_list]
 apply Array.ext'
 simp [Array.toList_range, List.getD_eq_getElem?_getD]

theorem zeroCells_eq (z : List Value) (n : Nat) : Builtin.zeroCells z.toArray n = (List.replicate n z).flatten.toArray := zeros_eq z n

theorem RepL.zeros {t : Ty} : ∀ n : Nat, RepL (Rep H S t) t.size [] (List.replicate n (zc t)).flatten (List.replicate n t.dflt)
 | 0 => ⟨rfl, rfl⟩
 | n + 1 => ⟨[], [], rfl, by
   rw [List.replicate_succ, List.flatten_cons, List.take_left' (zc_length t)]; exact Rep.dflt t, by
   rw [List.replicate_succ, List.flatten_cons, List.drop_left' (zc_length t)]; exact RepL.zeros n⟩

theorem OpOk.lay {P : Program} {o : Oper} {d : Nat} {g : List Nat} {t : Ty} {x : t.den} {v : AV} {s' : St} (hl : s.lay d g t x = .ok v s') {w' : World} {val : Value} (hr : (execOp a.eval o).run P w = .ok (.value val) w')
  {O : List Nat} {cs : List Value} (hv : val = toV t cs) (hR : Rep w'.heap S t O cs x) (hs : RS B S ι (St.drops g s) a w') (hF : Flt B S ι (St.drops g s).hp w' O) : OpOk P B o a w v s' := by
 unfold St.lay at hl
 split at hl
 ·cases hl
 ·split at hl
  ·rename_i hf
   cases hl
   intro next Q hn
   unfold Oper.wp
   rw [hr]
   exact hn S _ w' val (hs.hold hf hR hF) (by rw [hv]; exact at_new hR.length)
  ·cases hl

theorem lay_all {d : Nat} {g : List Nat} {t : Ty} {x : t.den} {v : AV} {s' : St} (hl : s.lay d g t x = .ok v s') : g.Nodup ∧ (g.all fun i => !pinned i) = true := by
 unfold St.lay at hl
 split at hl
 ·cases hl
 ·rename_i hc
  simp only [Bool.and_eq_true] at hc
  exact ⟨noDup_nodup hc.1.1, hc.1.2⟩

theorem lay_okN {d : Nat} {g : List Nat} {t : Ty} {x : t.den} {p : Prop} {v : AV} {s' : St} : s.lay d g t x ≠ .okN p v s' := by
 unfold St.lay
 split
 ·simp
 ·split <;> simp

theorem ORok.needLay {P : Program} {o : Oper} {d : Nat} {g : List Nat} {t : Ty} {x : t.den} {p : Prop} (h : ∀ v s', s.lay d g t x = .ok v s' → p → OpOk P B o a w v s') : ORok P B o a w ((s.lay d g t x).need p) := by
 cases hl : s.lay d g t x with
 | fail y => trivial
 | ok v s' => exact fun hp => h v s' hl hp
 | okN q v s' => exact absurd hl lay_okN

theorem ORok.lay {P : Program} {o : Oper} {d : Nat} {g : List Nat} {t : Ty} {x : t.den} (h : ∀ v s', s.lay d g t x = .ok v s' → OpOk P B o a w v s') : ORok P B o a w (s.lay d g t x) := by
 cases hl : s.lay d g t x with
 | fail y => trivial
 | ok v s' => exact h v s' hl
 | okN q v s' => exact absurd hl lay_okN

theorem row_repW {t : Ty} {l : List t.den} {O : List Nat} {cells : List Value} (hS : ∀ c, S c → c < w.heap.size) (hR : RepL (Rep w.heap S t) t.size O (cells.take (l.length * t.size)) l) {cap : Nat} (hc : l.length ≤ cap) (hm : cap ≤ maxLen)
  (hsz : cap * t.size ≤ cells.length) (T : TypeId) (hO : ∀ c ∈ O, c < w.heap.size) {w' : World} {fz : Nat × Nat} (hh : w'.heap = w.heap.push (.cells cells.toArray T fz)) (hz : fz = (0, 0) ∨ cells.length ≤ fz.1) :
  ∃ O', Rep w'.heap S (.slc true t) O' [.slice (some ⟨w.heap.size, 0, none⟩) l.length cap] l ∧ (∀ b ∈ O', b = w.heap.size ∨ b ∈ O) ∧ (O.Nodup → O'.Nodup) := by
 have hnew : w'.heap[w.heap.size]? = some (.cells cells.toArray T fz) := by rw [hh]; exact push_new
 have hold : ∀ {b}, b < w.heap.size → w'.heap[b]? = w.heap[b]? := fun hb => by rw [hh]; exact push_old hb
 have hblk : blk w'.heap w.heap.size = cells := by simp only [blk, hnew]
 have hle : l.length * t.size ≤ cap * t.size := Nat.mul_le_mul_right _ hc
 by_cases h0 : cap = 0
 ·have hl0 : l.length = 0 := by omega
  have hl : l = [] := List.length_eq_zero_iff.1 hl0
  exact ⟨[], .inl ⟨rfl, ⟨some ⟨w.heap.size, 0, none⟩, 0, by rw [hl0, h0], fun _ => rfl⟩, hl⟩, by simp, fun _ => List.nodup_nil⟩
 ·refine ⟨w.heap.size :: O, .inr ⟨w.heap.size, 0, cap, O, rfl, hc, ⟨hm, fun _ => by omega⟩, ?_, ?_, rfl, cells.toArray, T, ⟨fz, hnew, by simpa using hz⟩, by simpa using hsz⟩, fun b hb => List.mem_cons.1 hb, fun hn => List.nodup_cons.2 ⟨fun hb => Nat.lt_irrefl _ (hO _ hb), hn⟩⟩
  ·rw [hblk, Nat.zero_add]; exact Nat.le_trans hle hsz
  ·have : cellsAt w'.heap w.heap.size 0 (List.length l * t.size) = cells.take (l.length * t.size) := by simp only [cellsAt, hblk, List.drop_zero]
   rw [this]
   exact RepL.mono (L := O) (fun _ h => h) (fun O1 cs y hL hr => hr.stable (fun b hb => hold (hb.elim (fun hb => hO b (hL b hb)) (hS b))) (fun _ h => h)) hR

theorem row_rep {t : Ty} {l : List t.den} {O : List Nat} {cells : List Value} (hS : ∀ c, S c → c < w.heap.size) (hR : RepL (Rep w.heap S t) t.size O (cells.take (l.length * t.size)) l) {cap : Nat} (hc : l.length ≤ cap) (hm : cap ≤ maxLen)
  (hsz : cap * t.size ≤ cells.length) (T : TypeId) (hO : ∀ c ∈ O, c < w.heap.size) :
  ∃ O', Rep (pushed w (.cells cells.toArray T)).heap S (.slc true t) O' [.slice (some ⟨w.heap.size, 0, none⟩) l.length cap] l ∧ (∀ b ∈ O', b = w.heap.size ∨ b ∈ O) ∧ (O.Nodup → O'.Nodup) :=
 row_repW hS hR hc hm hsz T hO (w' := pushed w (.cells cells.toArray T)) rfl (.inl rfl)

theorem Flt.new {O O' : List Nat} (h : RS B S ι s a w) (hF : Flt B S ι s.hp w O) {w' : World} (k : Past [] w w') (hlt : w.heap.size < w'.heap.size) (hs : ∀ b ∈ O', b = w.heap.size ∨ b ∈ O) (hn : O'.Nodup) : Flt B S ι s.hp w' O' := by
 refine ⟨hn, fun b hb => ?_⟩
 rcases hs b hb with rfl | hb
 ·refine ⟨fun hS => Nat.lt_irrefl _ (h.hs.slt _ hS), .inl h.hs.size, hlt, fun i e hi hbi => Nat.lt_irrefl _ (h.hs.bl i e hi _ hbi).2.2⟩
 ·exact (hF.turn k).2 b hb

theorem plc_arr_place {n : Nat} {t : Ty} (t' : Ty) (x' : t'.den) (i : Nat) (u' : Ty) (y' : u'.den) (e1 : t'.sh = (Ty.arr n t).sh) (e2 : getP t' x' (partPath t' i) = some ⟨u', y'⟩) (_ : inArr t' i = true) : some (i * t.size, t.size) = some (offP t' i, u'.size) := by
 cases t' <;> simp only [Ty.sh] at e1 <;> first | cases e1 | skip
 rename_i n' t'' _
 simp only [Ty.arr.injEq] at e1
 have : t'' = u' := by
  simp only [partPath, getP, getP_nil, Option.some.injEq] at e2
  exact congrArg Sigma.fst e2
 subst this
 simp only [offP, size_er e1.2]

theorem build_sound (hE : EnvOk E) (h : RS B S ι s a w) {o : Oper} {T : TypeId} {parts : Array (Nat × Operand)} (ho : o.op = .build T parts) : ORok E.P B o a w (aop E o s) := by
 have he : execOp a.eval o = (do pure (.value (← Instr.build T (parts.map fun q => (q.1, a.eval q.2))))) := by simp [execOp, ho]
 unfold aop
 rw [ho]
 simp only
 split
 ·rename_i ti hT
  split
  ·rename_i hall
   simp only [Bool.and_eq_true] at hall
   -- what is built
   have core : ∀ {u : Ty} {y : u.den} {g : List Nat}, buildL s ⟨ti.ty, ti.ty.dflt⟩ parts.toList = some (⟨u, y⟩, g) → g.Nodup → ∃ cs' O', (Instr.build T (parts.map fun q => (q.1, a.eval q.2))).run E.P w = .ok (toV u cs') w ∧ Rep w.heap S u O' cs' y ∧ O'.Nodup ∧ ∀ b ∈ O', BlkOf ι s.hp g b := by
    intro u y g hb hgn
    have hty := tt_ok hE hT
    have hz := run_zero (w := w) hty
    have hR0 : Rep w.heap S ti.ty [] (zc ti.ty) ti.ty.dflt := Rep.dflt _
    have hzc : (toV ti.ty (zc ti.ty)).cells = (zc ti.ty).toArray := hR0.cells
    have hpm : (parts.map fun q => (q.1, a.eval q.2)).toList = parts.toList.map fun q => (q.1, a.eval q.2) := by simp
    by_cases harr : ∃ n t, ti.ty = .arr n t
    ·obtain ⟨n, t, e0⟩ := harr
     rw [e0] at hty hb hR0 hall hz hzc
     obtain ⟨et, k', h1, h2, h3⟩ := tyOk_arr hty
     obtain ⟨cs', O', q1, q2, q3, q4, q5⟩ := fill_sound h (place := fun i => some (i * t.size, t.size)) (G := []) hR0 List.nodup_nil (by simp) (by simpa using hgn) hall.2 (fun t' x' i u' y' e1 e2 e3 => plc_arr_place t' x' i u' y' e1 e2 e3) hb
     refine ⟨cs', O', ?_, q2, q3, q4⟩
     have hag : u.agg = true := by rw [agg_er q5]; rfl
     simp only [Instr.build, Sem.run_bind, hz, Result.andThen, run_under h1, hzc, hpm, run_sizeOf h3, q1]
     simp [toV, hag]
    ·have hn : ∀ n u, ti.ty ≠ .arr n u := fun n u e => harr ⟨n, u, e⟩
     obtain ⟨fs, k', h1, h2⟩ := tyOk_struct hty hall.1 hn
     have hpl := run_plc (w := w) h2
     obtain ⟨cs', O', q1, q2, q3, q4, q5⟩ := fill_sound h (place := fun i => (plc ti.ty 0)[i]?) (G := []) hR0 List.nodup_nil (by simp) (by simpa using hgn) hall.2 (by
      intro t' x' i u' y' e1 e2 e3
      have hn' : ∀ n u, t' ≠ .arr n u := by
       rintro n u rfl
       cases ht : ti.ty <;> rw [ht] at e1 <;> simp only [Ty.sh] at e1 <;> first | cases e1 | skip
       exact harr ⟨_, _, ht⟩
      have e2' : getP t' x' [.fld i] = some ⟨u', y'⟩ := by
       cases t' <;> first | exact e2 | (exact absurd rfl (hn' _ _))
      have := plc_get (off := 0) e2'
      rw [plc_sh e1] at this
      have e4 : offP t' i = offF t' i := by cases t' <;> first | rfl | (exact absurd rfl (hn' _ _))
      rw [e4]
      simpa using this) hb
     refine ⟨cs', O', ?_, q2, q3, q4⟩
     have hag : u.agg = true := by rw [agg_er q5]; exact hall.1
     simp only [Instr.build, Sem.run_bind, hz, Result.andThen, run_under h1, hzc, hpm]
     simp [Array.mapM_eq_mapM_toList, hpl, q1, toV, hag]
   split
   ·rename_i u y hb
    obtain ⟨cs', O', q1, q2, q3, q4⟩ := core hb List.nodup_nil
    have : O' = [] := List.eq_nil_iff_forall_not_mem.2 (fun b hb => by obtain ⟨i, e, hi, _⟩ := q4 b hb; cases hi)
    subst this
    exact exec_val he h q1 ⟨cs', rfl, q2⟩
   ·rename_i u y g d hd hb hg0
    refine ORok.lay (fun v s' hl => ?_)
    obtain ⟨g1, g2⟩ := lay_all hl
    obtain ⟨cs', O', q1, q2, q3, q4⟩ := core hb g1
    exact OpOk.lay hl (exec_value he q1) rfl q2 (h.drops g2) (Flt.drops h.hs q3 q4)
   ·trivial
  ·trivial
 ·trivial

theorem bslL_inv {n : Nat} {t : Ty} {parts : List (Nat × Operand)} {r : Sigma Ty.den × List Nat} (h : bslL s n t parts = some r) : ∃ t0 : Ty, t0.sh = t.sh ∧ buildL s ⟨.arr n t0, (Ty.arr n t0).dflt⟩ parts = some r := by
 unfold bslL at h
 split at h
 ·rename_i r' hr
  cases h
  exact ⟨t, rfl, hr⟩
 ·exact ⟨t.sh, Ty.sh_sh t, h⟩

theorem buildSlice_sound (hE : EnvOk E) (h : RS B S ι s a w) {o : Oper} {T : TypeId} {n : Nat} {parts : Array (Nat × Operand)} (ho : o.op = .buildSlice T n parts) : ORok E.P B o a w (aop E o s) := by
 have he : execOp a.eval o = (do pure (.value (← Instr.buildSlice T n (parts.map fun q => (q.1, a.eval q.2))))) := by simp [execOp, ho]
 unfold aop
 rw [ho]
 simp only
 split
 ·rename_i t bts d hT hd
  split
  ·rename_i hall
   simp only [Bool.and_eq_true, Nat.ble_eq] at hall
   obtain ⟨⟨hfr, hin⟩, hsz⟩ := hall
   split
   ·rename_i m t' l g hb0
    obtain ⟨t0, ht0, hb⟩ := bslL_inv hb0
    refine ORok.lay (fun v s' hl => ?_)
    obtain ⟨gn, gp⟩ := lay_all hl
    have hty := tt_ok hE hT
    obtain ⟨et, k', h1, h2, h3⟩ := tyOk_slc hty
    have hzs : ∀ u : Ty, (zc u).length = u.size := fun u => (Rep.dflt (H := w.heap) (S := S) u).length
    have hR0 : Rep w.heap S (.arr n t0) [] (zc (.arr n t)) (Ty.arr n t0).dflt := by
     have := Rep.dflt (H := w.heap) (S := S) (.arr n t0)
     rwa [show zc (.arr n t0) = zc (.arr n t) from zc_er (congrArg (Ty.arr n) ht0)] at this
    obtain ⟨cs', O', q1, q2, qn, qb, q3⟩ := fill_sound h (place := fun i => some (i * t.size, t.size)) (G := []) hR0 List.nodup_nil (by simp) (by simpa using gn) (by simpa [inArr] using hin) (fun t' x' i u' y' e1 e2 e3 => plc_arr_place t' x' i u' y' (e1.trans (congrArg (Ty.arr n) ht0)) e2 e3) hb
    have hpm : (parts.map fun q => (q.1, a.eval q.2)).toList = parts.toList.map fun q => (q.1, a.eval q.2) := by simp
    simp only [Ty.sh, Ty.arr.injEq] at q3
    obtain ⟨rfl, q3⟩ := q3
    have q3 := q3.trans ht0
    have hts := size_er q3
    obtain ⟨g1, g2⟩ := q2
    have hlen : cs'.length = m * t'.size := by rw [RepL.length (fun _ _ _ h => h.length) g2, g1]
    have hnm : m * t'.size ≤ 16777216 := by rw [hts]; exact hsz
    have hmm : m ≤ maxLen := by
     have : m * 1 ≤ m * t'.size := Nat.mul_le_mul_left _ (by omega)
     unfold maxLen; omega
    have hrun : (execOp a.eval o).run E.P w = .ok (.value (.slice (some ⟨w.heap.size, 0, none⟩) m m)) (pushed w (.cells cs'.toArray et)) := by
     rw [he]
     have hz0 : (zc (.arr m t)).toArray = (List.replicate m (zc t)).flatten.toArray := rfl
     by_cases h0 : m * t.size = 0
     ·have : m = 0 := by rcases Nat.mul_eq_zero.1 h0 with h | h <;> omega
      subst this
      simp only [Instr.buildSlice, Sem.run_bind, run_under h1, Result.andThen, run_sizeOf h3]
      have e0 : (zc (.arr 0 t)).toArray = (#[] : Array Value) := rfl
      rw [e0] at q1
      have r0 : Array.range 0 = (#[] : Array Nat) := rfl
      simp only [Nat.zero_mul, r0, Array.map_empty]
      rw [hpm]
      simp [q1, newRow, newObj, Sem.run, pushed]
     ·have hzz : (toV t (zc t)).cells = (zc t).toArray := (Rep.dflt (H := w.heap) (S := S) t).cells
      have hle : ¬ (m * t.size > 16777216) := by omega
      have hq := zeros_eq (zc t) m
      rw [hzs] at hq
      rw [hz0] at q1
      have hle' : ¬ (m * t.size > 2 ^ 24) := by omega
      simp only [Instr.buildSlice, Sem.run_bind, run_under h1, Result.andThen, run_sizeOf h3, hle', h0, if_false, run_zero h3, hzz, hpm, Sem.run_pure, hq, q1]
      simp [newRow, newObj, Sem.run, pushed]
    have g1' : List.length l = m := g1
    have hO' : ∀ c ∈ O', c < w.heap.size := fun c hc => by obtain ⟨i, e, _, r2, r3⟩ := qb c hc; exact (h.hs.bl i e r2 c r3).2.2
    have hd' := h.drops (g := g) gp
    obtain ⟨O2, k1, k2, k3⟩ := row_rep (cap := m) h.hs.slt (O := O') (l := l) (cells := cs') (by rw [g1', List.take_of_length_le (by omega)]; exact g2) (by omega) hmm (by omega) et hO'
    have hp : Past [] w (pushed w (.cells cs'.toArray et)) := Past.push _
    exact OpOk.lay hl hrun (by rw [← g1']; rfl) k1 (hd'.turn Flt.nil hp) (Flt.new hd' (Flt.drops h.hs qn qb) hp (by simp [pushed]) k2 (k3 qn))
   ·trivial
  ·trivial
 ·trivial

theorem mark_run {P : Program} {m : Mark} : (mark m).run P w = .ok () w := rfl
theorem askRoom_run {P : Program} {n : Nat} : (askRoom n).run P w = .ok () w := by unfold askRoom; split <;> rfl

theorem run_asInt {P : Program} {k : IntKind} {n : Int} : (asInt (.int k n)).run P w = .ok n w := by simp [asInt, asIntOf]

theorem makeSlice_sound (hE : EnvOk E) (h : RS B S ι s a w) {o : Oper} {T : TypeId} {x y : Operand} (ho : o.op = .makeSlice T x y) : ORok E.P B o a w (aop E o s) := by
 have he : execOp a.eval o = (do pure (.value (← Instr.makeSlice T (a.eval x) (a.eval y)))) := by simp [execOp, ho]
 unfold aop
 rw [ho]
 simp only
 split
 ·rename_i t bts d k n k' m hT hd hx hy
  refine ORok.needLay (fun v s' hl hp => ?_)
  have hn0 : @LE.le Int Int.instLEInt 0 n := hp.1
  have hnm : @LE.le Int Int.instLEInt n m := hp.2.1
  have hmb : @LE.le Int Int.instLEInt m 140737488355328 := hp.2.2.1
  obtain ⟨hxv, _⟩ := VX.int_inv (evx h hx)
  obtain ⟨hyv, _⟩ := VX.int_inv (evx h hy)
  have hty := tt_ok hE hT
  obtain ⟨et, k2, h1, h2, h3⟩ := tyOk_slc hty
  obtain ⟨i, hi, hisz, hiz⟩ := tyOk_info h3
  have hib := tyOk_bytes h3 hi
  obtain ⟨M, rfl⟩ : ∃ M : Nat, m = ((M : Nat) : Int) := ⟨Int.toNat m, (Int.toNat_of_nonneg (Int.le_trans hn0 hnm)).symm⟩
  obtain ⟨N, rfl⟩ : ∃ N : Nat, n = ((N : Nat) : Int) := ⟨Int.toNat n, (Int.toNat_of_nonneg hn0).symm⟩
  have hbytes : ((t.wb : Nat) : Int) * (M : Int) ≤ 281474976710656 := by
   have := hp.2.2.2
   have e : ((M : Nat) : Int) * (t.wb : Nat) = (t.wb : Nat) * (M : Nat) := Int.mul_comm _ _
   have : @LE.le Int Int.instLEInt (((M : Nat) : Int) * (t.wb : Nat)) 140737488355328 := hp.2.2.2
   rw [e] at this
   omega
  have hzz : (toV t (zc t)).cells = (zc t).toArray := (Rep.dflt (H := w.heap) (S := S) t).cells
  have hw1 : IntKind.i64.wrap (M : Int) = (M : Int) := wrap_same (by unfold inK; simp [IntKind.min, IntKind.max, IntKind.signed, IntKind.bits]; omega)
  have hw2 : IntKind.i64.wrap (N : Int) = (N : Int) := wrap_same (by unfold inK; simp [IntKind.min, IntKind.max, IntKind.signed, IntKind.bits]; omega)
  have hrun : (Instr.makeSlice T (a.eval x) (a.eval y)).run E.P w = .ok (.slice (some ⟨w.heap.size, 0, none⟩) N M) (pushed w (.cells (List.replicate M (zc t)).flatten.toArray et)) := by
   rw [hxv, hyv]
   have c1 : ¬ ((M : Int) < 0) := by omega
   have c2 : ¬ ((N : Int) < 0) := by omega
   have c3 : ¬ ((M : Int) < (N : Int)) := by omega
   have c4 : ¬ (281474976710656 < ((t.wb : Nat) : Int) * (M : Int)) := by omega
   by_cases h0 : M * t.size = 0
   ·have : M = 0 := by rcases Nat.mul_eq_zero.1 h0 with h | h <;> omega
    subst this
    have hN : N = 0 := by omega
    subst hN
    simp only [Instr.makeSlice, Sem.run_bind, run_under h1, Result.andThen, run_asInt, typeInfo, hw1]
    have r0 : Array.range 0 = (#[] : Array Nat) := rfl
    simp [run_sizeOf h3, newRow, newObj, Sem.run, pushed, Result.andThen, hi, r0]
   ·have hq := zeros_eq (zc t) M
    rw [zc_length] at hq
    simp only [Instr.makeSlice, Sem.run_bind, run_under h1, Result.andThen, run_asInt, typeInfo, hw1, hw2]
    simp [c1, c2, c3, c4, run_sizeOf h3, h0, run_zero h3, hzz, Result.andThen, newRow, newObj, Sem.run, pushed, hi, hib]
    congr 2
    rw [← hq]
    apply Array.ext'
    simp [zc_length]
  have hd' := h.drops (g := []) rfl
  obtain ⟨O2, k1, k2', k3⟩ := row_rep (cap := M) h.hs.slt (O := []) (l := List.replicate N t.dflt) (cells := (List.replicate M (zc t)).flatten) (by
   have e : (List.replicate M (zc t)).flatten = (List.replicate N (zc t)).flatten ++ (List.replicate (M - N) (zc t)).flatten := by
    rw [← List.flatten_append, List.replicate_append_replicate]; congr 2; omega
   rw [e, List.take_left' (by simp [zc_length])]
   exact RepL.zeros N) (by simp; omega) (by unfold maxLen; omega) (by simp [zc_length]) et (by simp)
  have hp' : Past [] w (pushed w (.cells (List.replicate M (zc t)).flatten.toArray et)) := Past.push _
  exact OpOk.lay hl (exec_value he hrun) (by simp [toV, Ty.agg]) k1 (hd'.turn Flt.nil hp') (Flt.new hd' Flt.nil hp' (by simp [pushed]) k2' (k3 List.nodup_nil))
 ·trivial

end
end Go.Ex

namespace Go.Ex

section
variable {E : Env} {B : Base} {S S' : Nat → Prop} {ι : Ix} {s : St} {a : Act} {w : World} {hp : List (Nat × Ent)} {H H' : Array Go.Obj}

theorem setP_idx : ∀ {t : Ty} {x : t.den} {p : List Step} {u : Ty} {y : u.den} {r : Sigma Ty.den}, setP t x p u y = some r → flds p = false → r.1 = t := by
 intro t
 induction t with
 | pair a c iha ihc =>
  intro x p u y r h hf
  match p, h, hf with
  | [], _, hf => cases hf
  | .fld 0 :: p, h, hf =>
   simp only [setP] at h
   split at h
   ·rename_i t' w hw; cases h; exact congrArg (Ty.pair · c) (iha (r := ⟨t', w⟩) hw hf)
   ·cases h
  | .fld (n + 1) :: p, h, hf =>
   simp only [setP] at h
   split at h
   ·rename_i t' w hw; cases h; exact congrArg (Ty.pair a) (ihc (r := ⟨t', w⟩) hw hf)
   ·cases h
  | .idx i :: p, h, _ => simp [setP] at h
 | arr n t ih =>
  intro x p u y r h hf
  match p, h, hf with
  | [], _, hf => cases hf
  | .idx i :: p, h, _ =>
   simp only [setP] at h
   split at h
   ·split at h
    ·cases h; rfl
    ·cases h
   ·cases h
  | .fld i :: p, h, _ => simp [setP] at h
 | slc o t ih =>
  intro x p u y r h hf
  match p, h, hf with
  | [], _, hf => cases hf
  | .idx i :: p, h, _ =>
   cases o with
   | false => simp [setP] at h
   | true =>
    simp only [setP] at h
    split at h
    ·split at h
     ·cases h; rfl
     ·cases h
    ·cases h
  | .fld i :: p, h, _ => cases o <;> simp [setP] at h
 | _ =>
  intro x p u y r h hf
  match p, h, hf with
  | [], _, hf => cases hf
  | .idx i :: p, h, _ => simp [setP] at h
  | .fld i :: p, h, _ => simp [setP] at h

theorem OB.part_root {i : Nat} {e : Ent} (ho : OB H S ι i e) (he : e ≠ .bag) (hS : ∀ c, S c → c < H.size) {p : List Step} (hok : okP e.ty e.x p) {u : Ty} {y : u.den} (hg : getP e.ty e.x p = some ⟨u, y⟩) {b off : Nat} (hl : Loc H ι i e p = some (b, off))
  {Op : List Nat} (hR2 : Rep H S u Op (cellsAt H b off u.size) y) : b ∉ Op := by
 obtain ⟨h1, h2⟩ := Loc_place hl
 obtain ⟨O, hO, hR, hb, hnd, hlt, hns, hfr⟩ := ho.see he hS
 obtain ⟨O1, O2, b', off', e1, e2, e3, e4, e5, e6⟩ := focus hR hb hok hg
 rw [Place_eq he, e3] at h1; cases h1
 have hm : ∀ c, c ∈ O1 ∨ c ∈ O2 → c ∈ ι.own i := fun c hc => hO.mem_iff.1 (e1.mem_iff.2 (by simpa using hc))
 have hlt2 : ∀ c ∈ O2, c < H.size := fun c hc => ho.own_lt he (hm c (.inr hc))
 have k := (VH_rep (e := e) (ι := ι) (i := i) hlt2 hS).1 e4
 rw [cellsAt_congr (VH_old h2)] at k
 have hd := Rep.det k hR2
 subst hd
 rcases e6 with ⟨rfl, _⟩ | ⟨g1, _⟩
 ·intro hb; exact (List.nodup_cons.1 hnd).1 (hm _ (.inr hb))
 ·intro hb
  have := (e1.nodup_iff).1 ((hO.nodup_iff).2 (List.nodup_cons.1 hnd).2)
  exact (List.nodup_append.1 this).2.2 _ g1 _ hb rfl

theorem drop_noM {d i : Nat} : ∀ {v : AV}, v.ment d = false → (v.drop i).ment d = false := by
 intro v
 induction v with
 | cons a b iha ihb => intro h; simp only [AV.ment, Bool.or_eq_false_iff] at h; simp only [AV.drop, AV.map, AV.ment, Bool.or_eq_false_iff]; exact ⟨iha h.1, ihb h.2⟩
 | tup l ih => intro h; exact ih h
 | clo f l ih => intro h; exact ih h
 | bx l ih => intro h; exact ih h
 | ptr j p => intro h; simp only [AV.drop, AV.map]; split <;> first | rfl | exact h
 | at_ j p => intro h; simp only [AV.drop, AV.map]; split <;> first | rfl | exact h
 | sub j p x y => intro h; simp only [AV.drop, AV.map]; split <;> first | rfl | exact h
 | _ => intro h; rfl

theorem drops_noMent {d : Nat} : ∀ {g : List Nat} {s : St}, noMent d s.fr = true → noMent d (St.drops g s).fr = true
 | [], _, h => h
 | i :: g, s, h => drops_noMent (g := g) (s := s.drop i) (by
  simp only [St.drop]
  generalize s.fr = fr at h
  induction fr with
  | nil => rfl
  | cons q l ih =>
   obtain ⟨n, v⟩ := q
   simp only [noMent, Bool.and_eq_true, Bool.not_eq_true'] at h
   simp only [mapA, noMent, Bool.and_eq_true, Bool.not_eq_true']
   exact ⟨drop_noM h.1, ih h.2⟩)

theorem Nav_stay : ∀ {t : Ty} {p : List Step} {b off : Nat} {G : Array Go.Obj} {r : Nat × Nat}, flds p = true → Nav G t p b off = some r → r.1 = b := by
 intro t
 induction t with
 | pair a c iha ihc =>
  intro p b off G r h hn
  match p, h, hn with
  | [], _, hn => rw [Nav_nil] at hn; cases hn; rfl
  | .fld 0 :: p, h, hn => exact iha (p := p) h hn
  | .fld (n + 1) :: p, h, hn => exact ihc (p := .fld n :: p) h hn
  | .idx i :: p, h, _ => cases h
 | slc o t ih =>
  intro p b off G r h hn
  match p, h, hn with
  | [], _, hn => rw [Nav_nil] at hn; cases hn; rfl
  | .fld i :: p, _, hn => cases o <;> simp [Nav] at hn
  | .idx i :: p, h, _ => cases h
 | _ =>
  intro p b off G r h hn
  match p, h, hn with
  | [], _, hn => rw [Nav_nil] at hn; cases hn; rfl
  | .fld i :: p, _, hn => simp [Nav] at hn
  | .idx i :: p, h, _ => cases h

theorem own_idx {i : Nat} {e : Ent} {p : List Step} {r : Nat × Nat} (hl : Loc H ι i e p = some r) (he : e.isOwn = true) : flds p = false := by
 obtain ⟨h1, h2⟩ := Loc_place (b := r.1) (off := r.2) hl
 cases hf : flds p with
 | false => rfl
 | true =>
  exfalso
  cases e with
  | own t x =>
   rw [Place_eq (by simp)] at h1
   have := Nav_stay hf h1
   simp only [VR] at this
   omega
  | _ => cases he

theorem store_any (hE : EnvOk E) (h : RS B S ι s a w) {o : Oper} {T : TypeId} {x y : Operand} (ho : o.op = .store T x y) {i : Nat} {e : Ent} (h1 : look i s.hp = some e) {p : List Step} (h2 : okP e.ty e.x p) {b off : Nat} (h3 : Loc w.heap ι i e p = some (b, off)) (h4 : a.eval x = .pointer (some ⟨b, off, none⟩))
  {u : Ty} {y0 : u.den} (hg : getP e.ty e.x p = some ⟨u, y0⟩) (hck : chk E T u = true) {u' : Ty} {z : u'.den} {O2 : List Nat} {cs : List Value} {r : Sigma Ty.den}
  (hz : Rep w.heap S u' O2 cs z) (hnd : O2.Nodup) (hey : a.eval y = toV u' cs) (hset : setP e.ty e.x p u' z = some r)
  (hO2 : ∀ c ∈ O2, (¬ S c ∧ (B.w0.heap.size ≤ c ∨ B.M c) ∧ c < w.heap.size) ∧ (∀ j ej, j ≠ i → look j s.hp = some ej → c ∉ blks ι j ej) ∧ (c ∈ blks ι i e → ∃ Op, Rep w.heap S u Op (cellsAt w.heap b off u.size) y0 ∧ c ∈ Op)) (hbO : b ∉ O2) :
  OpOk E.P B o a w (.raw undef) ((s.kill i e.kd p).putE i (e.upd r)) := by
 intro next Q hn
 obtain ⟨Op, m1, mn, m2, m3, m4, m5⟩ := Loc_mem (Loc_bag h3) (h.hs.ob i e h1) h.hs.slt h2 hg h3
 have hsh := getset_sh hg hset
 have hnS : ¬ S b := (h.hs.bl i e h1 b m4).1
 obtain ⟨ι', hrs⟩ := h.store h1 h2 hg h3 (u' := u') (z := z) (cs := cs) (O2 := O2) (fun H' hsz hc => hz.stable (fun c hc' => hc.rest c (by
   rintro rfl
   rcases hc' with hc' | hc'
   ·exact hbO hc'
   ·exact hnS hc') (by
   rcases hc' with hc' | hc'
   ·exact (hO2 c hc').1.2.2
   ·exact h.hs.slt c hc')) (fun _ h => h)) (by rw [hz.length, size_er hsh]) hnd hO2 hset (fun how _ => setP_idx hset (own_idx h3 how))
 unfold Oper.wp
 have hrun : (execOp a.eval o).run E.P w = .ok .skip (w.setRow b (over (blk w.heap b) off cs).toArray) := by
  simp [execOp, ho, h4, hey, Instr.storeAt, Instr.sureAddr, run_storeVar (chk_ok hE hck) hsh m5 hz]
 rw [hrun]
 exact hn S ι' _ undef hrs rfl

theorem holed_sh : ∀ t : Ty, t.holed.sh = t.sh := by
 intro t
 induction t with
 | pair a b iha ihb => simp only [Ty.holed, Ty.sh, iha, ihb]
 | slc o t ih => cases o <;> rfl
 | _ => rfl

theorem Rep.holed {H : Array Go.Obj} {S : Nat → Prop} : ∀ {u : Ty} {O : List Nat} {cs : List Value} {y : u.den}, Rep H S u O cs y → u.holed.shared = true → Rep H S u.holed [] cs (holeV u y) := by
 intro u
 induction u with
 | pair a b iha ihb =>
  rintro O cs y ⟨O1, O2, rfl, h1, h2⟩ hs
  simp only [Ty.holed, Ty.shared, Bool.and_eq_true] at hs
  have ea : a.holed.size = a.size := size_er (holed_sh a)
  have eb : b.holed.size = b.size := size_er (holed_sh b)
  exact ⟨[], [], rfl, by rw [ea]; exact iha h1 hs.1, by rw [ea]; exact ihb h2 hs.2⟩
 | slc o t ih =>
  intro O cs y h hs
  cases o with
  | true =>
   rcases h with ⟨_, ⟨a, c, rfl, _⟩, _⟩ | ⟨b, off, cap, O', rfl, _⟩
   ·exact ⟨rfl, _, rfl, rfl⟩
   ·exact ⟨rfl, _, rfl, rfl⟩
  | false =>
   have hn := h.nilO hs
   subst hn; exact h
 | arr n t ih =>
  intro O cs y h hs
  have hn := h.nilO hs
  subst hn; exact h
 | map o k v =>
  intro O cs y h hs
  have hn := h.nilO hs
  subst hn; exact h
 | box o g t =>
  intro O cs y h hs
  have hn := h.nilO hs
  subst hn; exact h
 | _ =>
  intro O cs y h hs
  have hn := h.nilO hs
  subst hn; exact h

theorem storeA_sound (hE : EnvOk E) (h : RS B S ι s a w) {o : Oper} {T : TypeId} {x y : Operand} (ho : o.op = .store T x y) {i : Nat} {p : List Step} (hx : s.ev x = .ptr i p) : ORok E.P B o a w (storeA E T i p (s.ev y) s) := by
 obtain ⟨e, b, off, h1, h2, h3, h4⟩ := evx h hx
 have h4 : a.eval x = .pointer (some ⟨b, off, none⟩) := by simpa using h4
 unfold storeA
 split
 ·trivial
 ·rename_i e' hob
  obtain rfl := ent_of h1 hob
  split
  ·trivial
  ·rename_i u y0 hg
   obtain ⟨Op, m1, mn, m2, m3, m4, m5⟩ := Loc_mem (Loc_bag h3) (h.hs.ob i e' h1) h.hs.slt h2 hg h3
   split
   ·trivial
   ·rename_i hck
    split
    ·rename_i hy
     have hvy := evx h hy
     split
     ·rename_i o' u' _
      split
      ·rename_i r hset
       refine store_any hE h ho h1 h2 h3 h4 hg hck (u' := .slc o' u') (z := ([] : List u'.den)) (O2 := []) (cs := [.slice none 0 0]) (.inl ⟨rfl, ⟨none, 0, rfl, fun _ => rfl⟩, rfl⟩) List.nodup_nil ?_ hset (by simp) (by simp)
       have : [a.eval y] = [Value.slice none 0 0] := hvy
       simpa [toV, Ty.agg] using this
      ·trivial
     ·trivial
    ·rename_i j q lo hi hy
     split
     ·rename_i u' y1
      split
      ·rename_i r hset
       split
       ·rename_i hij
        have hij := Nat.eq_of_beq_eq_true hij
        subst hij
        rintro ⟨rfl, _⟩
        obtain ⟨e2, v2, k1, k2, k3, k4, k5, k6⟩ := evx h hy
        rw [h1] at k1; cases k1
        rcases k6 with ⟨t', l, A, cap, q1, q2, q3, q4⟩ | ⟨n, t', l, b2, off2, q1, _⟩
        ·rw [hg] at q1; cases q1
         obtain ⟨b0, off0, r1, r2⟩ := q3
         obtain ⟨r3, r4⟩ := Loc_place h3
         rw [r3] at r1; cases r1
         rw [cellsAt_congr (VH_old r4)] at r2
         have m2' : Rep w.heap S (.slc true u') Op [.slice A (List.length y1) cap] y1 := by rw [r2]; exact m2
         obtain ⟨O, cs, g1, g2, g3, g4⟩ := cut_rep m2' mn k4 k5 q2 q4
         have k3 : a.eval y = v2 := by simpa using k3
         refine store_any hE h ho h1 h2 h3 h4 hg hck (u' := .slc true u') (z := cut2 lo hi y1) g2 g3 (by rw [k3, g1]) hset (fun c hc => ?_) ?_
         ·have hcm := m1 c (g4 c hc)
          exact ⟨h.hs.bl i e' h1 c (own_blks hcm), fun j ej hj hlj => h.hs.dj i j e' ej h1 hlj (Ne.symm hj) c (own_blks hcm), fun _ => ⟨Op, m2, g4 c hc⟩⟩
         ·intro hb
          have := (h.hs.ob i e' h1).part_root (Loc_bag h3) h.hs.slt h2 hg h3 m2
          exact this (g4 b hb)
        ·rw [hg] at q1; cases q1
       ·trivial
      ·trivial
     ·trivial
    ·rename_i xv _ _
     split
     ·rename_i u' z g hgv
      split
      ·rename_i r hset
       split
       ·rename_i hgc
        simp only [Bool.and_eq_true, Bool.not_eq_true'] at hgc
        obtain ⟨⟨hgi, hgn⟩, hgp⟩ := hgc
        have hgi : i ∉ g := by
         intro hm
         simp [hm] at hgi
        obtain ⟨O2, cs, k1, k2, k3, k4⟩ := giveV_rep h.hs hgv (h.ev y)
        have hd := h.drops (g := g) hgp
        have hl1 : look i (St.drops g s).hp = some e' := by rw [drops_look, if_neg hgi]; exact h1
        have hne : ∀ c ∈ O2, ∀ j ej, j ∉ g → look j s.hp = some ej → c ∉ blks ι j ej := by
         intro c hc j ej hj hlj
         obtain ⟨j2, e2, q1, q2, q3⟩ := k4 c hc
         exact h.hs.dj j2 j e2 ej q2 hlj (by rintro rfl; exact hj q1) c q3
        refine store_any hE hd ho hl1 h2 h3 h4 hg hck k2 k3 k1 hset (fun c hc => ?_) (fun hb => hne b hb i e' hgi h1 m4)
        obtain ⟨j2, e2, q1, q2, q3⟩ := k4 c hc
        refine ⟨h.hs.bl j2 e2 q2 c q3, fun j ej hj hlj => ?_, fun hci => absurd hci (hne c hc i e' hgi h1)⟩
        rw [drops_look] at hlj
        split at hlj
        ·cases hlj
        ·rename_i hjg; exact hne c hc j ej hjg hlj
       ·trivial
      ·trivial
     ·split
      ·rename_i j q hy
       split
       ·rename_i u' y' hpt
        split
        ·rename_i r hset
         split
         ·rename_i hc
          simp only [Bool.and_eq_true] at hc
          obtain ⟨e2, u2, y2, cs, k1, k2, k3, k4, k5⟩ := evx h hy
          have hg2 := part_of k1 hpt
          rw [k3] at hg2; cases hg2
          obtain ⟨O2, g1, _, g2⟩ := sub_rep h.hs k1 k2 k3 k4
          exact store_any hE h ho h1 h2 h3 h4 hg hck (g2.holed hc.1.1) List.nodup_nil (by rw [toV_er (holed_sh _)]; simpa using k5) hset (by simp) (by simp)
         ·trivial
        ·trivial
       ·trivial
      ·trivial

theorem box_sound (_hE : EnvOk E) (h : RS B S ι s a w) {o : Oper} {T : TypeId} {x : Operand} (ho : o.op = .box T x) : ORok E.P B o a w (aop E o s) := by
 unfold aop
 rw [ho]
 simp only
 split
 ·rename_i t d ht hd
  split
  ·rename_i hf
   have core : ∀ {u : Ty} {y : u.den} {O : List Nat} {cs : List Value} {g : List Nat}, Rep w.heap S u O cs y → a.eval x = toV u cs → (g.all fun i => !pinned i) = true → d ∉ g → Flt B S ι (St.drops g s).hp w O → OpOk E.P B o a w (.ptr d []) ((St.drops g s).putE d (.var u y)) := by
    intro u y O cs g hR e hg hdg hF next Q hn
    unfold Oper.wp
    have : (execOp a.eval o).run E.P w = .ok (.value (.pointer (some ⟨w.heap.size, 0, none⟩))) (pushed w (.cells cs.toArray T)) := by
     simp [execOp, ho, Instr.box, e, newVar, newRow, newObj, Sem.run, pushed, hR.cells]
    rw [this]
    have hfd : (St.drops g s).fresh d = true := by
     obtain ⟨f1, f2⟩ := fresh_inv hf
     simp only [St.fresh, Bool.and_eq_true, Option.isNone_iff_eq_none]
     refine ⟨by rw [drops_look]; split <;> first | rfl | exact f1, ?_⟩
     exact drops_noMent (by simp only [St.fresh, Bool.and_eq_true] at hf; exact hf.2)
    exact hn S _ _ _ ((h.drops hg).alloc hfd hR hF T) (ptr_new (by simp [pushed]))
   split
   ·rename_i u y g hgv
    split
    ·rename_i hs
     split
     ·rename_i hgc
      simp only [Bool.and_eq_true, Bool.not_eq_true'] at hgc
      obtain ⟨⟨hgn, hgd⟩, hgp⟩ := hgc
      obtain ⟨O2, cs, k1, k2, k3, k4⟩ := giveV_rep h.hs hgv (h.ev x)
      exact core k2 k1 hgp (by intro hm; simp [hm] at hgd) (Flt.drops h.hs k3 k4)
     ·trivial
    ·trivial
   ·split
    ·rename_i o' u hx _
     have hv : [a.eval x] = [Value.slice none 0 0] := evx h hx
     exact core (g := []) (cs := [.slice none 0 0]) (u := .slc o' u) (y := ([] : List u.den)) (O := []) (.inl ⟨rfl, ⟨none, 0, rfl, fun _ => rfl⟩, rfl⟩) (by simpa [toV, Ty.agg] using hv) rfl (by simp) Flt.nil
    ·rename_i i p o0 t0 hx _
     intro next Q hn
     obtain ⟨e, b, off, k1, k2, k3, k4⟩ := evx h hx
     have k4 : a.eval x = .pointer (some ⟨b, off, none⟩) := by simpa using k4
     unfold Oper.wp
     have : (execOp a.eval o).run E.P w = .ok (.value (.pointer (some ⟨w.heap.size, 0, none⟩))) (pushed w (.cells #[.pointer (some ⟨b, off, none⟩)] T)) := by
      simp [execOp, ho, Instr.box, k4, newVar, newRow, newObj, Sem.run, pushed, Value.cells]
     rw [this]
     have h1 := h.turn Flt.nil (Past.push (.cells #[.pointer (some ⟨b, off, none⟩)] T))
     have h2 := h1.share (S' := fun c => S c ∨ c = w.heap.size) (fun _ h => .inl h) (fun c hc => by
      rcases hc with hc | rfl
      ·exact .inl hc
      ·exact .inr ⟨h.hs.size, by simp [pushed], fun j ej hj hb => Nat.lt_irrefl _ (h.hs.bl j ej hj _ hb).2.2⟩)
     have hb : blk (pushed w (.cells #[.pointer (some ⟨b, off, none⟩)] T)).heap w.heap.size = [.pointer (some ⟨b, off, none⟩)] := by
      simp only [blk, pushed, Array.getElem?_push_size]
     refine hn _ _ _ _ h2 ⟨w.heap.size, 0, .pointer (some ⟨b, off, none⟩), rfl, .inr rfl, by rw [hb]; simp, by rw [cellsAt, hb]; rfl, ?_⟩
     have h3 := h2.ev x
     rw [hx, k4] at h3
     exact h3
    ·trivial
  ·trivial
 ·trivial

end
end Go.Ex

namespace Go.Ex

section
variable {E : Env} {B : Base} {S S' : Nat → Prop} {ι : Ix} {s : St} {a : Act} {w : World} {hp : List (Nat × Ent)} {H H' : Array Go.Obj}

theorem append_grow {P : Program} {k : Nat} {T U : TypeId} {t : Ty} (hT : tyOk P k T (.slc true t) = true) (ty : TypeId) (hS : ∀ c, S c → c < w.heap.size)
  {base : Option Addr} {cap : Nat} {l m : List t.den} {O1 Og : List Nat} {x : Value} {olds news : List Value}
  (hold : (Builtin.firstCells t.size l.length (.slice base l.length cap)).run P w.drew = .ok olds.toArray w.drew) (hL : RepL (Rep w.heap S t) t.size O1 olds l)
  (hs : Src P t.size U x m.length news w) (hN : RepL (Rep w.heap S t) t.size Og news m) (hnd : (O1 ++ Og).Nodup) (hO : ∀ c ∈ O1 ++ Og, c < w.heap.size)
  (hcap : cap < l.length + m.length) (h63 : l.length + m.length ≤ 140737488355328) (hby : (l.length + m.length) * t.wb ≤ 140737488355328) :
  ∃ v' w' O', (Builtin.append_ #[T, U] ty #[.slice base l.length cap, x]).run P w = .ok v' w' ∧ Rep w'.heap S (.slc true t) O' [v'] (l ++ m) ∧ O'.Nodup ∧ Past [] w w' ∧ w.heap.size < w'.heap.size ∧ ∀ c ∈ O', (c = w.heap.size ∨ c ∈ O1 ++ Og) ∧ c < w'.heap.size := by
 obtain ⟨et, k2, h1, h2, h3⟩ := tyOk_slc hT
 obtain ⟨i, hi, hisz, hiz⟩ := tyOk_info h3
 have hib := tyOk_bytes h3 hi
 have hl1 : olds.length = l.length * t.size := RepL.length (fun _ _ _ h => h.length) hL
 have hl2 : news.length = m.length * t.size := RepL.length (fun _ _ _ h => h.length) hN
 have hge := grownCap_ge w (l.length + m.length) cap et
 have hmax := grownCap_le_maxLen w (l.length + m.length) cap et (by unfold maxLen; omega)
 have hzz : (toV t (zc t)).cells = (zc t).toArray := (Rep.dflt (H := w.heap) (S := S) t).cells
 have hrun := run_append_grow_src (P := P) w T U ty et i (toV t (zc t)) h1 hi hiz base l.length cap olds (by rw [hisz]; exact hold) x m.length news (by rw [hisz]; exact hs) hcap (by omega) (by rw [hib]; exact growslice_fits hcap hby)
 generalize hgc : grownCap w (l.length + m.length) cap et = gc at hrun hge hmax
 have hpast : Past [] w (w.drew.alloc (.cells ((olds ++ news).toArray ++ Builtin.zeroCells (toV t (zc t)).cells (gc - (l.length + m.length))) et)) :=
  Past.trans Past.drew (Past.push _) (by simp)
 have hcells : ((olds ++ news).toArray ++ Builtin.zeroCells (toV t (zc t)).cells (gc - (l.length + m.length))) = ((olds ++ news) ++ (List.replicate (gc - (l.length + m.length)) (zc t)).flatten).toArray := by
  rw [hzz, zeroCells_eq]; simp
 rw [hcells] at hrun hpast
 have hlt : (l ++ m).length = l.length + m.length := List.length_append
 obtain ⟨O', q1, q2, q3⟩ := row_repW (w := w) (t := t) (l := l ++ m) (cap := gc) hS (O := O1 ++ Og) (cells := (olds ++ news) ++ (List.replicate (gc - (l.length + m.length)) (zc t)).flatten) (by
  rw [hlt, List.take_left' (by rw [List.length_append, hl1, hl2, Nat.add_mul])]
  exact RepL.append (fun _ _ _ h => h.length) hL hN) (by rw [hlt]; exact hge) hmax (by
  simp only [List.length_append, hl1, hl2, List.length_flatten, List.map_replicate, List.sum_replicate_nat, zc_length]
  rw [← Nat.add_mul, ← Nat.add_mul]; exact Nat.mul_le_mul_right _ (by omega)) et hO (w' := w.drew.alloc (.cells ((olds ++ news) ++ (List.replicate (gc - (l.length + m.length)) (zc t)).flatten).toArray et)) rfl (.inl rfl)
 have hsz : (w.drew.alloc (.cells ((olds ++ news) ++ (List.replicate (gc - (l.length + m.length)) (zc t)).flatten).toArray et)).heap.size = w.heap.size + 1 := by
  show (w.heap.push _).size = _
  simp
 refine ⟨_, _, O', hrun, ?_, q3 hnd, hpast, by omega, fun c hc => ⟨q2 c hc, ?_⟩⟩
 ·rw [hlt] at q1; exact q1
 ·rcases q2 c hc with rfl | h
  ·omega
  ·have := hO c h; omega

theorem append_room {P : Program} {k : Nat} {T U : TypeId} {t : Ty} (hT : tyOk P k T (.slc true t) = true) (ty : TypeId)
  {b off cap : Nat} {l m : List t.den} {O1 Og : List Nat} {x : Value} {news : List Value}
  (hl : l.length ≤ cap) (hcm : cap ≤ maxLen) (hfree : Free w.heap b (off + cap * t.size)) (hL : RepL (Rep w.heap S t) t.size O1 (cellsAt w.heap b off (l.length * t.size)) l)
  (hs : Src P t.size U x m.length news w) (hN : RepL (Rep w.heap S t) t.size Og news m) (hnd : (b :: O1 ++ Og).Nodup) (hbS : ¬ S b)
  (hroom : l.length + m.length ≤ cap) (h1c : 1 ≤ cap) :
  ∃ w', (Builtin.append_ #[T, U] ty #[.slice (some ⟨b, off, none⟩) l.length cap, x]).run P w = .ok (.slice (some ⟨b, off, none⟩) (l.length + m.length) cap) w' ∧
   Chg w.heap w'.heap b (off + l.length * t.size) news.length ∧ w'.heap.size = w.heap.size ∧ Rep w'.heap S (.slc true t) (b :: (O1 ++ Og)) [.slice (some ⟨b, off, none⟩) (l.length + m.length) cap] (l ++ m) ∧ Past [b] w w' ∧
   Rep w'.heap S (.slc true t) (b :: O1) [.slice (some ⟨b, off, none⟩) l.length cap] l := by
 obtain ⟨et, k2, h1, h2, h3⟩ := tyOk_slc hT
 obtain ⟨i, hi, hisz, hiz⟩ := tyOk_info h3
 have hl2 : news.length = m.length * t.size := RepL.length (fun _ _ _ h => h.length) hN
 have hle : l.length * t.size + m.length * t.size ≤ cap * t.size := by rw [← Nat.add_mul]; exact Nat.mul_le_mul_right _ hroom
 have hlt : (l ++ m).length = l.length + m.length := List.length_append
 obtain ⟨arr, T', ⟨fz, e, ef⟩, hn⟩ := hfree
 have hbl : blk w.heap b = arr.toList := by simp only [blk, e]
 have hst := run_storeCells_fz (P := P) b (off + l.length * t.size) T' fz news 0 arr w ⟨e, ef⟩ (by omega) hs.one
 simp only [Nat.add_zero] at hst
 have hover : arr.toList.take (off + l.length * t.size) ++ news ++ arr.toList.drop (off + l.length * t.size + news.length) = over (blk w.heap b) (off + l.length * t.size) news := by rw [hbl]; rfl
 rw [hover] at hst
 have hrun : (Builtin.append_ #[T, U] ty #[.slice (some ⟨b, off, none⟩) l.length cap, x]).run P w = .ok (.slice (some ⟨b, off, none⟩) (l.length + m.length) cap) (w.setRow b (over (blk w.heap b) (off + l.length * t.size) news).toArray) := by
  rw [← hisz] at hs hst ⊢
  rcases hs.kind with ⟨e', hk⟩ | hk <;> simp [Builtin.append_, run_underlying h1, run_underlying hk, sizeOf, typeInfo, hi, hs.len, hroom, hs.cells, Addr.add_lit, hst]
 obtain ⟨hc, hcs⟩ := store_chg (w := w) (b := b) (off := off + l.length * t.size) (cs := news) ⟨arr, T', ⟨fz, e, ef⟩, by omega⟩
 have hblt : b < w.heap.size := (Array.getElem?_eq_some_iff.1 e).1
 have hndb := (List.nodup_cons.1 (by simpa using hnd : (b :: (O1 ++ Og)).Nodup))
 have hold : cellsAt (w.setRow b (over (blk w.heap b) (off + l.length * t.size) news).toArray).heap b off (l.length * t.size) = cellsAt w.heap b off (l.length * t.size) := hc.cells hblt (fun _ => .inl (Nat.le_refl _))
 have hst : ∀ {O : List Nat} {cs : List Value} {y : t.den}, (∀ c ∈ O, c ∈ O1 ++ Og) → Rep w.heap S t O cs y → Rep (w.setRow b (over (blk w.heap b) (off + l.length * t.size) news).toArray).heap S t O cs y := by
  intro O cs y hO hr
  refine hr.stable (fun c hcc => setRow_other ?_) (fun _ h => h)
  intro hcb
  rw [hcb] at hcc
  rcases hcc with h | h
  ·exact hndb.1 (hO _ h)
  ·exact hbS h
 have hfr : Free (w.setRow b (over (blk w.heap b) (off + l.length * t.size) news).toArray).heap b (off + cap * t.size) := hc.free ⟨arr, T', ⟨fz, e, ef⟩, hn⟩
 refine ⟨_, hrun, hc, setRow_size, ?_, ⟨rfl, .of rfl rfl, rfl, by rw [setRow_size]; exact Nat.le_refl _, fun c hcl hcb => setRow_other (by simpa using hcb)⟩, ?_⟩
 rotate_left
 ·refine .inr ⟨b, off, cap, O1, rfl, hl, ⟨hcm, fun _ => h1c⟩, ?_, ?_, rfl, hfr⟩
  ·have := hfr.blk
   have := Nat.mul_le_mul_right t.size hl
   omega
  ·rw [hold]
   exact RepL.mono (L := O1) (fun _ h => h) (fun O cs y hO hr => hst (fun c hc => by simp [hO c hc]) hr) hL
 refine .inr ⟨b, off, cap, O1 ++ Og, by rw [hlt], by rw [hlt]; exact hroom, ⟨hcm, fun _ => h1c⟩, ?_, ?_, rfl, hfr⟩
 ·have := hfr.blk
  rw [hlt, Nat.add_mul]; omega
 ·rw [hlt, Nat.add_mul, cellsAt_add, hold, ← hl2, hcs]
  exact RepL.append (fun _ _ _ h => h.length) (RepL.mono (L := O1) (fun _ h => h) (fun O cs y hO hr => hst (fun c hc => by simp [hO c hc]) hr) hL) (RepL.mono (L := Og) (fun _ h => h) (fun O cs y hO hr => hst (fun c hc => by simp [hO c hc]) hr) hN)

theorem append_run {P : Program} {k : Nat} {T U : TypeId} {t : Ty} (hT : tyOk P k T (.slc true t) = true) (ty : TypeId) (hS : ∀ c, S c → c < w.heap.size)
  {v : Value} {l m : List t.den} {Of Og : List Nat} {x : Value} {news : List Value}
  (hR : Rep w.heap S (.slc true t) Of [v] l) (hs : Src P t.size U x m.length news w) (hN : RepL (Rep w.heap S t) t.size Og news m)
  (hnd : (Of ++ Og).Nodup) (hO : ∀ c ∈ Of ++ Og, ¬ S c ∧ c < w.heap.size)
  (h63 : l.length + m.length ≤ 140737488355328) (hby : (l.length + m.length) * t.wb ≤ 140737488355328) :
  ∃ v' w' O', (Builtin.append_ #[T, U] ty #[v, x]).run P w = .ok v' w' ∧ Rep w'.heap S (.slc true t) O' [v'] (l ++ m) ∧ O'.Nodup ∧ Past Of w w' ∧ (∀ c ∈ O', (w.heap.size ≤ c ∨ c ∈ Of ++ Og) ∧ c < w'.heap.size) ∧ Rep w'.heap S (.slc true t) Of [v] l ∧
   (Past [] w w' ∨ ∃ b off cap n, v = .slice (some ⟨b, off, none⟩) l.length cap ∧ l.length ≤ cap ∧ 1 ≤ cap ∧ Chg w.heap w'.heap b (off + l.length * t.size) n ∧ w'.heap.size = w.heap.size) := by
 have hR0 := hR
 rcases hR with ⟨rfl, ⟨A, c, e, hc⟩, rfl⟩ | ⟨b, off, cap, O1, e, c2, c3, c4, c5, rfl, c7⟩
 ·obtain rfl := hc rfl
  simp only [List.cons.injEq, and_true] at e
  subst e
  by_cases h0 : m.length = 0
  ·obtain rfl : m = [] := List.length_eq_zero_iff.1 h0
   obtain ⟨rfl, rfl⟩ := hN
   obtain ⟨et, k2, h1, h2, h3⟩ := tyOk_slc hT
   obtain ⟨i, hi, hisz, hiz⟩ := tyOk_info h3
   refine ⟨.slice A 0 0, w, [], ?_, .inl ⟨rfl, ⟨A, 0, rfl, fun _ => rfl⟩, rfl⟩, List.nodup_nil, ⟨rfl, .refl _, rfl, Nat.le_refl _, fun _ _ _ => rfl⟩, by simp, hR0, .inl ⟨rfl, .refl _, rfl, Nat.le_refl _, fun _ _ _ => rfl⟩⟩
   rw [← hisz] at hs
   have hl0 := hs.len
   have hc0 := hs.cells
   simp only [List.length_nil] at hl0 hc0
   rcases hs.kind with ⟨e', hk⟩ | hk <;> cases A <;> simp [Builtin.append_, run_underlying h1, run_underlying hk, sizeOf, typeInfo, hi, hl0, hc0, storeCells]
  ·obtain ⟨v', w', O', q1, q2, q3, q4, q5, q6⟩ := append_grow hT ty hS (base := A) (cap := 0) (l := ([] : List t.den)) (olds := []) (O1 := []) (by
    cases A with
    | none => exact run_firstCells_none w.drew t.size 0 0 0
    | some A => exact run_firstCells_some w.drew t.size 0 A 0 0 [] (by simp) (by simp)) ⟨rfl, rfl⟩ hs hN (by simpa using hnd) (fun c hc => (hO c (by simpa using hc)).2) (by simp; omega) h63 hby
   exact ⟨v', w', O', q1, q2, q3, q4, fun c hc => ⟨(q6 c hc).1.imp (fun h => by omega) (fun h => by simpa using h), (q6 c hc).2⟩, hR0.stable (fun c hc => q4.frame c (hc.elim (fun h => by cases h) (hS c)) (by simp)) (fun _ h => h), .inl q4⟩
 ·simp only [List.cons.injEq, and_true] at e
  subst e
  by_cases hroom : l.length + m.length ≤ cap
  ·obtain ⟨w', q1, q2, q3, q4, q5, q6⟩ := append_room (S := S) hT ty c2 c3.1 c7 c5 hs hN hnd (hO b (by simp)).1 hroom (c3.2 rfl)
   refine ⟨_, w', b :: (O1 ++ Og), q1, q4, by simpa using hnd, q5.mono (by simp), fun c hc => ⟨.inr (by simpa using hc), ?_⟩, q6, .inr ⟨b, off, cap, news.length, rfl, c2, c3.2 rfl, q2, q3⟩⟩
   rw [q3]; exact (hO c (by simpa using hc)).2
  ·have hnd' : (O1 ++ Og).Nodup := (List.nodup_cons.1 (by simpa using hnd : (b :: (O1 ++ Og)).Nodup)).2
   obtain ⟨v', w', O', q1, q2, q3, q4, q5, q6⟩ := append_grow hT ty hS (base := some ⟨b, off, none⟩) (cap := cap) (l := l) (olds := cellsAt w.heap b off (l.length * t.size)) (O1 := O1) (by
    refine run_firstCells_some w.drew t.size l.length _ l.length cap _ (cellsAt_length _ _ _ c4) (fun j u hu => ?_)
    rw [Addr.add_none]; exact cell_of_cellsAt hu) c5 hs hN hnd' (fun c hc => (hO c (by simp at hc ⊢; exact .inr hc)).2) (by omega) h63 hby
   exact ⟨v', w', O', q1, q2, q3, q4.mono (by simp), fun c hc => ⟨(q6 c hc).1.imp (fun h => by omega) (fun h => by simp at h ⊢; exact .inr h), (q6 c hc).2⟩, hR0.stable (fun c hc => q4.frame c (hc.elim (fun h => (hO c (List.mem_append_left _ h)).2) (hS c)) (by simp)) (fun _ h => h), .inl q4⟩

theorem app1_rep {P : Program} (h : RS B S ι s a w) {v : AV} {t0 : Ty} {U : TypeId} (hk : (∃ e', P.underlying U = some (.slice e')) ∨ P.underlying U = some .string) {t : Ty} {m : List t.den} {g : List Nat} {x : Value} (hx : v.app1 s t0 = some (⟨t, m⟩, g)) (hv : VX w.heap S ι s.hp v [x]) :
  ∃ Og news, Src P t.size U x m.length news w ∧ RepL (Rep w.heap S t) t.size Og news m ∧ Og.Nodup ∧ ∀ b ∈ Og, BlkOf ι s.hp g b := by
 have src : ∀ {A : Option Addr} {n c : Nat} {news : List Value}, news.length = n * t.size → (n ≠ 0 → ∃ b off, A = some ⟨b, off, none⟩ ∧ news = cellsAt w.heap b off (n * t.size)) → (∀ u ∈ news, u.oneCell' = true) → Src P t.size U (.slice A n c) n news w := by
  intro A n c news hl hn h1
  by_cases h0 : n = 0
  ·subst h0
   have : news = [] := List.length_eq_zero_iff.1 (by omega)
   subst this
   cases A with
   | none => exact ⟨hk, fun _ => rfl, run_firstCells_none w _ 0 0 c, run_firstCells_none w.drew _ 0 0 c, by simp, fun _ h => by cases h⟩
   | some A => exact ⟨hk, fun _ => rfl, run_firstCells_some w _ 0 A 0 c [] (by simp) (by simp), run_firstCells_some w.drew _ 0 A 0 c [] (by simp) (by simp), by simp, fun _ h => by cases h⟩
  ·obtain ⟨b, off, rfl, e⟩ := hn h0
   have hcell : ∀ j u, news[j]? = some u → w.cell? ((⟨b, off, none⟩ : Addr).add j) = some u := by
    intro j u hu
    rw [Addr.add_none]; rw [e] at hu; exact cell_of_cellsAt hu
   exact ⟨hk, fun _ => rfl, run_firstCells_some w _ n _ n c news hl hcell, run_firstCells_some w.drew _ n _ n c news hl (by simpa using hcell), hl, h1⟩
 unfold AV.app1 at hx
 split at hx
 ·cases hx
  have hv' : [x] = [Value.slice none 0 0] := hv
  obtain rfl : x = .slice none 0 0 := by simpa using hv'
  exact ⟨[], [], src (by simp) (by simp) (by simp), ⟨rfl, rfl⟩, List.nodup_nil, by simp⟩
 ·rename_i y
  cases hx
  obtain ⟨rfl, hm⟩ := VX.str_inv hv
  refine ⟨[], byteCells ⟨y.toArray⟩, ?_, ?_, List.nodup_nil, by simp⟩
  ·have hl : (List.map (fun b : UInt8 => (b.toNat : Int)) y).length = (⟨y.toArray⟩ : ByteArray).size := by simp [ByteArray.size]
   have e : ∀ w' : World, (Builtin.firstCells 1 (⟨y.toArray⟩ : ByteArray).size (.string ⟨y.toArray⟩)).run P w' = .ok (byteCells ⟨y.toArray⟩).toArray w' := firstCells_string _
   show Src P 1 U (.string ⟨y.toArray⟩) (List.map (fun b : UInt8 => (b.toNat : Int)) y).length (byteCells ⟨y.toArray⟩) w
   rw [hl]
   exact ⟨hk, fun _ => rfl, e w, e w.drew, by rw [byteCells_length, Nat.mul_one], fun u hu => by
    obtain ⟨_, _, rfl⟩ := List.mem_map.1 hu
    rfl⟩
  ·simp only [byteCells]
   clear src hv hm
   induction y with
   | nil => exact ⟨rfl, rfl⟩
   | cons c y ih => exact ⟨[], [], rfl, ⟨rfl, rfl, by simp only [inK, IntKind.min, IntKind.max, IntKind.signed, IntKind.bits]; have := c.toNat_lt; simp; omega⟩, by simpa [Ty.size] using ih⟩
 ·split at hx
  ·cases hx
  ·rename_i t' l hels
   split at hx
   ·rename_i hsh
    cases hx
    obtain ⟨A, c, e, k⟩ := els_rep h.hs hv hels
    subst e
    rcases k with rfl | ⟨b, off, O', rfl, k1, k2, k3, k4⟩
    ·exact ⟨[], [], src (by simp) (by simp) (by simp), ⟨rfl, rfl⟩, List.nodup_nil, by simp⟩
    ·have hO : O' = [] := RepL.nilO (fun _ _ _ hr => Rep.nilO hsh hr) k3
     subst hO
     exact ⟨[], _, src (RepL.length (fun _ _ _ h => h.length) k3) (fun _ => ⟨b, off, rfl, rfl⟩) (RepL.plain (fun _ _ _ hr => hr.plain) k3 · · |>.1), k3, List.nodup_nil, by simp⟩
   ·split at hx
    ·rename_i u m' g' hgv
     cases hx
     obtain ⟨O, cs, k1, k2, k3, k4⟩ := give_rep h.hs hgv hv
     rcases k2 with ⟨rfl, ⟨A, c, rfl, hc⟩, rfl⟩ | ⟨b, off, cap, O', rfl, c2, c3, c4, c5, rfl, c7⟩
     ·have e : x = .slice A 0 c := k1
      subst e
      exact ⟨[], [], src (by simp) (by simp) (by simp), ⟨rfl, rfl⟩, List.nodup_nil, by simp⟩
     ·have e : x = .slice (some ⟨b, off, none⟩) (List.length m) cap := k1
      subst e
      exact ⟨O', _, src (RepL.length (fun _ _ _ h => h.length) c5) (fun _ => ⟨b, off, rfl, rfl⟩) (RepL.plain (fun _ _ _ hr => hr.plain) c5 · · |>.1), c5, (List.nodup_cons.1 k3).2, fun c hc => k4 c (by simp [hc])⟩
    ·cases hx

theorem append_own (hE : EnvOk E) (h : RS B S ι s a w) {o : Oper} {c : Call} (ho : o.op = .call c) (hc : c.callee = .builtin .append) {x y : Operand} {T U : TypeId} (ha : c.args.toList = [x, y]) (hTs : c.argTypes.toList = [T, U])
  {q : Bool} {t0 : Ty} {bts d : Nat} (hT : look T E.tt = some ⟨.slc q t0, bts⟩) {l m : List t0.den} {f g Of Og : List Nat} {v1 : Value} {news : List Value} (hv1 : a.eval x = v1) (hR : Rep w.heap S (.slc true t0) Of [v1] l) (hOf : Of.Nodup) (hbf : ∀ b ∈ Of, BlkOf ι s.hp f b)
  (hs : Src E.P t0.size U (a.eval y) m.length news w) (hN : RepL (Rep w.heap S t0) t0.size Og news m) (hOg : Og.Nodup) (hbg : ∀ b ∈ Og, BlkOf ι s.hp g b) {p : Prop} (hp : p → l.length + m.length ≤ 140737488355328 ∧ (l.length + m.length) * t0.wb ≤ 140737488355328) :
  ORok E.P B o a w ((s.lay d (f ++ g) (.slc true t0) (l ++ m)).need p) := by
 refine ORok.needLay (fun v s' hl hpp => ?_)
 obtain ⟨h63, hby⟩ := hp hpp
 obtain ⟨gn, gp⟩ := lay_all hl
 have hty : tyOk E.P 100 T (.slc true t0) = true := tyOk_sh (t := .slc q t0) (u := .slc true t0) rfl (tt_ok hE hT)
 have hnd : (Of ++ Og).Nodup := List.nodup_append.2 ⟨hOf, hOg, by
  rintro c h1 c' h2 rfl
  obtain ⟨i, e, i1, i2, i3⟩ := hbf c h1
  obtain ⟨j, e', j1, j2, j3⟩ := hbg c h2
  exact h.hs.dj i j e e' i2 j2 (fun e => (List.nodup_append.1 gn).2.2 i i1 j j1 e) c i3 j3⟩
 have hblk : ∀ b ∈ Of ++ Og, BlkOf ι s.hp (f ++ g) b := fun b hb => (List.mem_append.1 hb).elim (fun hb => (hbf b hb).mono (by simp +contextual)) (fun hb => (hbg b hb).mono (by simp +contextual))
 have hF := Flt.drops h.hs hnd hblk
 have hd := h.drops (g := f ++ g) gp
 obtain ⟨v', w', O', q1, q2, q3, q4, q5, _⟩ := append_run hty o.type h.hs.slt hR hs hN hnd (fun c hc => ⟨(hF.2 c hc).1, (hF.2 c hc).2.2.1⟩) h63 hby
 have hargs : c.args = #[x, y] := by rw [← ha]
 have hts : c.argTypes = #[T, U] := by rw [← hTs]
 have hrun : (execOp a.eval o).run E.P w = .ok (.value v') w' := by
  subst hv1
  simp [execOp, ho, resolve, hc, invoke, builtin, hargs, hts, q1]
 have hF1 : Flt B S ι (St.drops (f ++ g) s).hp w Of := hF.sub hOf (by simp +contextual)
 refine OpOk.lay hl hrun (cs := [v']) rfl q2 (hd.turn hF1 q4) ⟨q3, fun c hc => ?_⟩
 obtain ⟨k1, k2⟩ := q5 c hc
 rcases k1 with k1 | k1
 ·exact ⟨fun hS => by have := h.hs.slt c hS; omega, .inl (by have := h.hs.size; omega), k2, fun i e hi hb => by have := (hd.hs.bl i e hi c hb).2.2; omega⟩
 ·exact ⟨(hF.2 c k1).1, (hF.2 c k1).2.1, k2, (hF.2 c k1).2.2.2⟩

theorem append_sound (hE : EnvOk E) (h : RS B S ι s a w) {o : Oper} {c : Call} (ho : o.op = .call c) (hc : c.callee = .builtin .append) {x y : Operand} {T U : TypeId} (ha : c.args.toList = [x, y]) (hTs : c.argTypes.toList = [T, U])
  (hk : (∃ e', E.P.underlying U = some (.slice e')) ∨ E.P.underlying U = some .string) : ORok E.P B o a w (appendA E T (s.ev x) (s.ev y) o.dst s) := by
 unfold appendA
 split
 ·rename_i q t0 bts d hT hd
  split
  ·trivial
  ·rename_i t m g happ
   obtain ⟨Og, news, k1, k2, k3, k4⟩ := app1_rep (P := E.P) h hk happ (h.ev y)
   simp only
   have own : ∀ {l : List t0.den} {f Of : List Nat} {v1 : Value}, a.eval x = v1 → Rep w.heap S (.slc true t0) Of [v1] l → Of.Nodup → (∀ b ∈ Of, BlkOf ι s.hp f b) →
     ORok E.P B o a w (if h : t = t0 then (s.lay d (f ++ g) (.slc true t0) (l ++ castL h m)).need ((l.length + m.length : Nat) ≤ 140737488355328 ∧ (l.length + m.length : Nat) * (t0.wb : Nat) ≤ 140737488355328) else .fail "append: type") := by
    intro l f Of v1 e1 e2 e3 e4
    split
    ·rename_i ht
     subst ht
     exact append_own hE h ho hc ha hTs hT e1 e2 e3 e4 k1 k2 k3 k4 (fun hp => hp)
    ·trivial
   split
   ·rename_i hx
    have hx' : [a.eval x] = [Value.slice none 0 0] := evx h hx
    exact own (f := []) (Of := []) (v1 := .slice none 0 0) (by simpa using hx') (.inl ⟨rfl, ⟨none, 0, rfl, fun _ => rfl⟩, rfl⟩) List.nodup_nil (by simp)
   ·rename_i u lx hx
    split
    ·obtain ⟨cs, e, hR⟩ := evx h hx
     rcases hR with ⟨_, ⟨A, c, rfl, hc0⟩, rfl⟩ | ⟨b, off, cap, O', rfl, c2, c3, c4, c5, c6, c7⟩
     ·exact own (f := []) (Of := []) (v1 := .slice A 0 c) (by simpa [toV, Ty.agg] using e) (.inl ⟨rfl, ⟨A, c, rfl, hc0⟩, rfl⟩) List.nodup_nil (by simp)
     ·cases c6
    ·trivial
   ·rename_i xv _ _
    split
    ·rename_i u l f hgv
     split
     ·rename_i hu
      subst hu
      obtain ⟨O2, cs, r1, r2, r3, r4⟩ := give_rep h.hs hgv (h.ev x)
      have r1' : a.eval x = cs.headD undef := r1
      have hcs : cs = [cs.headD undef] := by
       have := r2.length
       match cs, this with
       | [c], _ => rfl
      rw [hcs] at r2
      exact own r1' r2 r3 r4
     ·trivial
    ·trivial
 ·trivial

end
end Go.Ex

namespace Go.Ex

section
variable {E : Env} {B : Base} {S S' : Nat → Prop} {ι : Ix} {s : St} {a : Act} {w : World} {hp : List (Nat × Ent)} {H H' : Array Go.Obj}

def BndV (a : Act) (d n : Int) : Option Operand → Prop
 | none => n = d
 | some x => ∃ k, a.eval x = .int k n

theorem bnd_val (h : RS B S ι s a w) {d n : Int} {x : Option Operand} (hb : bnd s d x = some n) : BndV a d n x := by
 unfold bnd at hb
 split at hb
 ·cases hb; rfl
 ·rename_i x
  split at hb
  ·rename_i k m hx
   cases hb
   exact ⟨k, (VX.int_inv (evx h hx)).1⟩
  ·cases hb

theorem run_bound {P : Program} {k : IntKind} {n : Int} {y : Nat} {c : BoundsCode} (h0 : 0 ≤ n) (h1 : n ≤ y) : (Instr.sliceBound (.int k n) y c).run P w = .ok n.toNat w := by
 simp [Instr.sliceBound, asIntOf, h0, h1]

theorem run_bounds {P : Program} {isS : Bool} {len cap : Nat} {lo hi : Option Operand} {x y : Int} (h1 : BndV a 0 x lo) (h2 : BndV a (len : Int) y hi) (h0 : 0 ≤ x) (hxy : x ≤ y) (hy : y ≤ (cap : Int)) :
  (Instr.sliceBounds isS len cap (lo.map a.eval) (hi.map a.eval) none).run P w = .ok (x.toNat, y.toNat, cap) w := by
 cases hi with
 | none =>
  have h2 : y = len := h2
  cases lo with
  | none =>
   have h1 : x = 0 := h1
   subst h1 h2
   simp [Instr.sliceBounds, Sem.run_pure]
  | some z =>
   obtain ⟨k, e⟩ := h1
   subst h2
   simp only [Instr.sliceBounds, Option.map_some, Option.map_none, e, Sem.run_bind, Sem.run_pure, Result.andThen_ok, run_bound h0 hxy, Int.toNat_natCast]
 | some z2 =>
  obtain ⟨k2, e2⟩ := h2
  have hb : ∀ c, (Instr.sliceBound (.int k2 y) cap c).run P w = .ok y.toNat w := fun c => run_bound (by omega) (by omega)
  cases lo with
  | none =>
   have h1 : x = 0 := h1
   subst h1
   simp [Instr.sliceBounds, e2, hb]
  | some z =>
   obtain ⟨k, e⟩ := h1
   have hb2 : ∀ c, (Instr.sliceBound (.int k x) y.toNat c).run P w = .ok x.toNat w := fun c => run_bound h0 (by omega)
   simp only [Instr.sliceBounds, Option.map_some, e, e2, Sem.run_bind, Sem.run_pure, Result.andThen_ok, hb, hb2]

theorem run_bounds3 {P : Program} {len cap : Nat} {lo : Option Operand} {x y : Operand} {k k' : IntKind} (h1 : BndV a 0 0 lo) (h2 : a.eval x = .int k 0) (h3 : a.eval y = .int k' 0) :
  (Instr.sliceBounds true len cap (lo.map a.eval) (some (a.eval x)) (some (a.eval y))).run P w = .ok (0, 0, 0) w := by
 have hb : ∀ (k : IntKind) (n : Nat) c, (Instr.sliceBound (.int k 0) n c).run P w = .ok 0 w := fun k n c => run_bound (n := 0) (by omega) (by omega)
 cases lo with
 | none => simp only [Instr.sliceBounds, Option.map_none, h2, h3, Sem.run_bind, hb, Sem.run_pure, Result.andThen_ok, if_true]
 | some z =>
  obtain ⟨k, e⟩ := h1
  simp only [Instr.sliceBounds, Option.map_some, e, h2, h3, Sem.run_bind, hb, Sem.run_pure, Result.andThen_ok, if_true]

theorem str_cut {y : List UInt8} {x z : Int} (h : 0 ≤ x) : (⟨y.toArray⟩ : ByteArray).extract x.toNat z.toNat = ⟨(cut2 x z y).toArray⟩ := by
 have : ((⟨y.toArray⟩ : ByteArray).extract x.toNat z.toNat).data = (cut2 x z y).toArray := by
  rw [ByteArray.data_extract]
  simp only [List.extract_toArray, List.extract_eq_take_drop, cut2]
  congr 2
  omega
 exact congrArg ByteArray.mk this

theorem cut2_le {α : Type} {x z : Int} {l : List α} : (cut2 x z l).length ≤ l.length := by simp only [cut2, List.length_take, List.length_drop]; omega

theorem run_slice' {P : Program} {T : TypeId} {k : Nat} {q : Bool} {t : Ty} (hT : tyOk P k T (.slc q t) = true) {A : Option Addr} {len cap : Nat} {lo hi : Option Operand} {x y : Int} (h1 : BndV a 0 x lo) (h2 : BndV a (len : Int) y hi) (h0 : 0 ≤ x) (hxy : x ≤ y) (hy : y ≤ (cap : Int)) :
  (Instr.sliceAt T (.slice A len cap) (lo.map a.eval) (hi.map a.eval) none).run P w = .ok (.slice (if cap = x.toNat then A else A.map (·.add (x.toNat * t.size))) (y.toNat - x.toNat) (cap - x.toNat)) w := by
 obtain ⟨et, k', e1, e2, e3⟩ := tyOk_slc hT
 simp only [Instr.sliceAt, Instr.slice, Sem.run_bind, run_under e1, Result.andThen_ok, run_bounds h1 h2 h0 hxy hy, run_sizeOf e3, Sem.run_pure]
theorem run_slice {P : Program} {T : TypeId} {k : Nat} {q : Bool} {t : Ty} (hT : tyOk P k T (.slc q t) = true) {A : Option Addr} {len cap : Nat} {lo hi : Option Operand} {x y : Int} (h1 : BndV a 0 x lo) (h2 : BndV a (len : Int) y hi) (h0 : 0 ≤ x) (hxy : x ≤ y) (hy : y ≤ (len : Int)) (hc : len ≤ cap) :
  (Instr.sliceAt T (.slice A len cap) (lo.map a.eval) (hi.map a.eval) none).run P w = .ok (.slice (if cap = x.toNat then A else A.map (·.add (x.toNat * t.size))) (y.toNat - x.toNat) (cap - x.toNat)) w := run_slice' hT h1 h2 h0 hxy (by omega)

theorem sliceA_sound (hE : EnvOk E) (h : RS B S ι s a w) {o : Oper} {T : TypeId} {x : Operand} {lo hi mx : Option Operand} (ho : o.op = .slice T x lo hi mx) : ORok E.P B o a w (sliceA E T (s.ev x) lo hi mx s) := by
 have he : execOp a.eval o = (do pure (.value (← Instr.sliceAt T (a.eval x) (lo.map a.eval) (hi.map a.eval) (mx.map a.eval)))) := by simp [execOp, ho]
 unfold sliceA
 split
 ·trivial
 ·rename_i m hlo
  have h1 := bnd_val h hlo
  -- [:0:0]
  have nil3 : ∀ {q : Bool} {t : Ty} {A : Option Addr} {len cap : Nat} {c n : Int}, chk E T (.slc q t) = true → hi.isSome = true → (∃ z, mx = some z) → bnd s 0 mx = some c → (bnd s (len : Int) hi = some n) → a.eval x = .slice A len cap → m = 0 ∧ n = 0 ∧ c = 0 →
    OpOk E.P B o a w (.val (.slc true t) ([] : List t.den)) s := by
   rintro q t A len cap c n hck hh ⟨z, rfl⟩ hm hb hv ⟨rfl, rfl, rfl⟩
   cases hi with
   | none => cases hh
   | some y =>
    obtain ⟨k1, e1⟩ := bnd_val h hb
    obtain ⟨k2, e2⟩ := bnd_val h hm
    obtain ⟨et, k', f1, f2, f3⟩ := tyOk_slc (chk_ok hE hck)
    refine OpOk.value (val := .slice A 0 0) ?_ h ⟨[.slice A 0 0], rfl, .inl ⟨rfl, ⟨A, 0, rfl, fun _ => rfl⟩, rfl⟩⟩
    rw [he]
    simp only [Option.map_some, hv, Instr.sliceAt, Instr.slice, Sem.run_bind, run_under f1, Result.andThen_ok, run_bounds3 h1 e1 e2, run_sizeOf f3, Sem.run_pure]
    simp
  have any3 : ∀ {q : Bool} {t : Ty} {A : Option Addr} {len cap : Nat} {c n : Int}, chk E T (.slc q t) = true → hi.isSome = true → lo.isSome = true → (∃ z, mx = some z) → bnd s 0 mx = some c → (bnd s (len : Int) hi = some n) → a.eval x = .slice A len cap → len ≤ cap → (0 ≤ m ∧ m ≤ n ∧ n ≤ c ∧ c ≤ (len : Int)) →
    OpOk E.P B o a w .any s := by
   rintro q t A len cap c n hck hh hl2 ⟨z, rfl⟩ hm hb hv hcap ⟨g1, g2, g3, g4⟩
   cases hi with
   | none => cases hh
   | some y =>
    cases lo with
    | none => cases hl2
    | some z0 =>
     obtain ⟨k1, e1⟩ := bnd_val h hb
     obtain ⟨k2, e2⟩ := bnd_val h hm
     obtain ⟨k0, e0⟩ := h1
     obtain ⟨et, k', f1, f2, f3⟩ := tyOk_slc (chk_ok hE hck)
     have hb1 : ∀ d, (Instr.sliceBound (.int k2 c) cap d).run E.P w = .ok c.toNat w := fun d => run_bound (by omega) (by omega)
     have hb2 : ∀ d, (Instr.sliceBound (.int k1 n) c.toNat d).run E.P w = .ok n.toNat w := fun d => run_bound (by omega) (by omega)
     have hb3 : ∀ d, (Instr.sliceBound (.int k0 m) n.toNat d).run E.P w = .ok m.toNat w := fun d => run_bound g1 (by omega)
     refine OpOk.value (val := .slice (if c.toNat = m.toNat then A else A.map (·.add (m.toNat * t.size))) (n.toNat - m.toNat) (c.toNat - m.toNat)) ?_ h ⟨_, rfl⟩
     rw [he]
     simp only [Option.map_some, hv, Instr.sliceAt, Instr.slice, Instr.sliceBounds, e0, e1, e2, hb1, hb2, hb3, Sem.run_bind, run_under f1, Result.andThen_ok, run_sizeOf f3, Sem.run_pure, if_true]
  split
  ·rename_i y hx
   split
   ·rename_i n hb
    split
    ·rename_i hck
     rintro ⟨g1, g2, g3⟩
     obtain ⟨hv, hl⟩ := VX.str_inv (evx h hx)
     have hu := tyOk_str (chk_ok hE hck)
     refine OpOk.value (val := .string ⟨(cut2 m n y).toArray⟩) ?_ h (VX.str (Nat.le_trans cut2_le hl))
     rw [he]
     have hsz : (⟨y.toArray⟩ : ByteArray).size = List.length y := rfl
     simp only [hv, Option.map_none, Instr.sliceAt, Instr.slice, Sem.run_bind, run_under hu, Result.andThen_ok, hsz]
     simp only [Option.isSome_none, Bool.false_eq_true, if_false, run_bounds (isS := false) h1 (bnd_val h hb) g1 g2 g3, Sem.run_pure, Result.andThen_ok, Sem.run_bind, str_cut g1]
    ·trivial
   ·trivial
  ·rename_i t y hx
   obtain ⟨cs, e, hR⟩ := evx h hx
   split
   ·rename_i n hb
    split
    ·rename_i hck
     rintro ⟨g1, g2, g3⟩
     have key : ∀ {A : Option Addr} {cap : Nat}, a.eval x = .slice A (List.length y) cap → List.length y ≤ cap → (∃ cs', Value.slice (if cap = m.toNat then A else A.map (·.add (m.toNat * t.size))) (n.toNat - m.toNat) (cap - m.toNat) = toV (.slc false t) cs' ∧ Rep w.heap S (.slc false t) [] cs' (cut2 m n y)) →
       OpOk E.P B o a w (.val (.slc false t) (cut2 m n y)) s := by
      rintro A cap hv hc ⟨cs', e1, e2⟩
      refine OpOk.value (val := toV (.slc false t) cs') ?_ h ⟨cs', rfl, e2⟩
      rw [he, hv, ← e1]
      simp only [Option.map_none, Sem.run_bind, run_slice (chk_ok hE hck) h1 (bnd_val h hb) g1 g2 g3 hc, Result.andThen_ok, Sem.run_pure]
     have hlen : (cut2 m n y).length = (n - m).toNat := cut2_length g1 g3
     rcases hR with ⟨_, ⟨A, c, rfl, _⟩, rfl⟩ | ⟨b1, o1, cap, O', rfl, c2, c3, c4, c5, c6, rfl, c7⟩
     ·have hn : n = 0 := by have : n ≤ ((([] : List t.den).length : Nat) : Int) := g3; simp at this; omega
      have hm0 : m = 0 := by omega
      subst hn hm0
      exact key (A := A) (cap := c) (by simpa [toV, Ty.agg] using e) (by simp) ⟨[_], rfl, .inl ⟨rfl, ⟨_, _, rfl, by simp⟩, by simp [cut2]⟩⟩
     ·refine key (A := some ⟨b1, o1, none⟩) (cap := cap) (by simpa [toV, Ty.agg] using e) c2 ⟨[_], rfl, ?_⟩
      by_cases hz : cut2 m n y = []
      ·have : n.toNat - m.toNat = 0 := by rw [hz] at hlen; simp at hlen; omega
       rw [this]
       exact .inl ⟨rfl, ⟨_, _, rfl, by simp⟩, hz⟩
      ·have hpos : 0 < (n - m).toNat := by rw [← hlen]; exact List.length_pos_iff.2 hz
       obtain ⟨P1, P2, P3, e1, g⟩ := c5.cut m.toNat (n - m).toNat
       have hP : P2 = [] := by have := e1.symm; simp at this; exact this.2.1
       subst hP
       have hle : m.toNat * t.size + (n - m).toNat * t.size ≤ List.length y * t.size := by rw [← Nat.add_mul]; exact Nat.mul_le_mul_right _ (by omega)
       rw [cellsAt_drop, cellsAt_take _ _ _ _ (by omega)] at g
       refine .inr ⟨b1, o1 + m.toNat * t.size, cap - m.toNat, [], ?_, by rw [hlen]; omega, ⟨by have := c3.1; omega, by simp⟩, by rw [hlen]; omega, by rw [hlen]; exact g, rfl, rfl, c7⟩
       rw [if_neg (by omega), Option.map_some, Addr.add_none, hlen, show n.toNat - m.toNat = (n - m).toNat from by omega]
    ·trivial
   ·rename_i z hb
    split
    ·rename_i c hck hc
     simp only [Bool.and_eq_true] at hck
     intro hp
     obtain ⟨A, c, e1, _⟩ := slc_val hR
     exact nil3 hck.1 hck.2 ⟨_, rfl⟩ hc hb (by rw [show a.eval x = toV (.slc false t) cs by simpa using e]; exact e1) hp
    ·trivial
   ·trivial
  ·rename_i hx
   split
   ·rename_i n q t bts hb hT
    rintro ⟨rfl, rfl⟩
    have hv : a.eval x = .slice none 0 0 := by simpa using (show [a.eval x] = [Value.slice none 0 0] from evx h hx)
    refine OpOk.value (val := .slice none 0 0) ?_ h rfl
    rw [he, hv]
    have := run_slice (w := w) (A := none) (len := 0) (cap := 0) (tt_ok hE hT) h1 (bnd_val h hb) (Int.le_refl _) (Int.le_refl _) (Int.le_refl _) (Nat.le_refl _)
    simp only [Option.map_none, Sem.run_bind, this, Result.andThen_ok, Sem.run_pure]
    simp
   ·trivial
  ·rename_i i p hx
   obtain ⟨e, u, y0, cs, k1, k2, k3, k4, k5⟩ := evx h hx
   have k5 : a.eval x = toV u cs := by simpa using k5
   split
   ·rename_i t y hpt
    have hg := part_of k1 hpt
    rw [k3] at hg; cases hg
    obtain ⟨O2, m1, m2, m3⟩ := sub_rep h.hs k1 k2 k3 k4
    have hform : ∃ A cap, cs = [.slice A (List.length y) cap] ∧ List.length y ≤ cap := by
     rcases m3 with ⟨_, ⟨A, c, rfl, _⟩, rfl⟩ | ⟨b1, o1, cap, O', rfl, c2, _⟩
     ·exact ⟨A, c, rfl, by simp⟩
     ·exact ⟨_, cap, rfl, c2⟩
    obtain ⟨A, cap, rfl, hc⟩ := hform
    have k5 : a.eval x = .slice A (List.length y) cap := k5
    split
    ·rename_i n hb
     split
     ·rename_i hck
      rintro ⟨g1, g2, g3⟩
      refine OpOk.value (val := .slice (if cap = m.toNat then A else A.map (·.add (m.toNat * t.size))) (n.toNat - m.toNat) (cap - m.toNat)) ?_ h ⟨e, _, k1, k2, rfl, g1, g2, .inl ⟨t, y, A, cap, k3, g3, k4, _, _, by rw [show (n - m).toNat = n.toNat - m.toNat from by omega], fun hne => by rw [if_neg (by omega)], by omega, by omega⟩⟩
      rw [he, k5]
      simp only [Option.map_none, Sem.run_bind, run_slice (chk_ok hE hck) h1 (bnd_val h hb) g1 g2 g3 hc, Result.andThen_ok, Sem.run_pure]
     ·trivial
    ·rename_i z hb
     split
     ·rename_i c hck hc'
      simp only [Bool.and_eq_true] at hck
      split
      ·intro hp
       exact nil3 hck.1 hck.2 ⟨_, rfl⟩ hc' hb k5 hp
      ·rename_i hlo2
       rintro ⟨g1, g2, g3, g4⟩
       exact any3 hck.1 hck.2 hlo2 ⟨_, rfl⟩ hc' hb k5 hc ⟨g1, g2, g3, g4⟩
     ·trivial
    ·trivial
   ·trivial
  ·rename_i i p a0 b0 hx
   obtain ⟨e, v, k1, k2, k3, k4, k5, k6⟩ := evx h hx
   have k3 : a.eval x = v := by simpa using k3
   have core : ∀ {t : Ty} {n : Int} {A0 : Option Addr} {cap : Nat}, chk E T (.slc true t) = true → bnd s (b0 - a0) hi = some n → mx = none → 0 ≤ m → m ≤ n → a0 + n ≤ (cap : Int) → SubV t.size A0 cap a0 b0 v → ∃ val, (execOp a.eval o).run E.P w = .ok (.value val) w ∧ SubV t.size A0 cap (a0 + m) (a0 + n) val := by
    rintro t n A0 cap hck hb rfl g1 g2 g3 ⟨c, A, e1, e2, e3, e4⟩
    refine ⟨.slice (if c = m.toNat then A else A.map (·.add (m.toNat * t.size))) (n.toNat - m.toNat) (c - m.toNat), ?_, _, _, by rw [show (a0 + n - (a0 + m)).toNat = n.toNat - m.toNat from by omega], ?_, by omega, by omega⟩
    ·rw [he, k3, e1]
     have hb' : bnd s (((b0 - a0).toNat : Nat) : Int) hi = some n := by rw [Int.toNat_of_nonneg (by omega)]; exact hb
     simp only [Option.map_none, Sem.run_bind, run_slice' (A := A) (cap := c) (chk_ok hE hck) h1 (bnd_val h hb') g1 g2 (show n ≤ (c : Int) by omega), Result.andThen_ok, Sem.run_pure]
    ·intro hne
     rw [if_neg (by omega), e2 (by omega), Option.map_map, show (a0 + m).toNat = a0.toNat + m.toNat from by omega]
     congr 1
     funext ad
     have hadd : ∀ x y : Nat, (ad.add x).add y = ad.add (x + y) := by
      intro x y
      unfold Addr.add
      by_cases hx : x = 0 <;> by_cases hy : y = 0 <;> simp [hx, hy, Nat.add_assoc]
     simp only [Function.comp, Nat.add_mul, hadd]
   split
   ·rename_i t y hvw
    split
    ·rename_i n hb
     split
     ·rename_i hck
      rintro ⟨g1, g2, g3⟩
      have hg := part_of k1 hvw
      rcases k6 with ⟨t', l, A, cap, q1, q2, q3, q4⟩ | ⟨n', t', l, b2, off2, q1, q2, q3, q4⟩
      ·rw [q1] at hg; cases hg
       obtain ⟨O2, m1, m2, m3⟩ := sub_rep h.hs k1 k2 q1 q3
       have hc : List.length y ≤ cap := by
        rcases m3 with ⟨_, ⟨A, c, _, _⟩, rfl⟩ | ⟨b1, o1, cap', O', c1, c2, _⟩
        ·simp
        ·cases c1; exact c2
       obtain ⟨val, r1, r2⟩ := core hck hb rfl g1 g2 (by omega) q4
       exact OpOk.value r1 h ⟨e, val, k1, k2, rfl, by omega, by omega, .inl ⟨_, _, A, cap, q1, by omega, q3, r2⟩⟩
      ·rw [q1] at hg; cases hg
     ·trivial
    ·trivial
   ·rename_i n0 t y hvw
    split
    ·rename_i n hb
     split
     ·rename_i hck
      rintro ⟨g1, g2, g3⟩
      have hg := part_of k1 hvw
      rcases k6 with ⟨t', l, A, cap, q1, q2, q3, q4⟩ | ⟨n', t', l, b2, off2, q1, q2, q3, q4⟩
      ·rw [q1] at hg; cases hg
      ·rw [q1] at hg; cases hg
       obtain ⟨val, r1, r2⟩ := core hck hb rfl g1 g2 (by omega) q4
       exact OpOk.value r1 h ⟨e, val, k1, k2, rfl, by omega, by omega, .inr ⟨_, _, _, b2, off2, q1, ⟨by omega, q2.2⟩, q3, r2⟩⟩
     ·trivial
    ·trivial
   ·trivial
  ·rename_i i p hx
   obtain ⟨e, b, off, k1, k2, k3, k4⟩ := evx h hx
   have k4 : a.eval x = .pointer (some ⟨b, off, none⟩) := by simpa using k4
   split
   ·rename_i N t y hpt
    have hg := part_of k1 hpt
    split
    ·rename_i n hb
     split
     ·rename_i hck
      simp only [Bool.and_eq_true, Nat.ble_eq] at hck
      rintro ⟨g1, g2, g3⟩
      have hb2 := run_bounds (P := E.P) (w := w) (isS := false) h1 (bnd_val h hb) g1 g2 g3
      refine OpOk.value (val := .slice (some (if N = m.toNat then ⟨b, off, none⟩ else (⟨b, off, none⟩ : Addr).add (m.toNat * t.size))) (n.toNat - m.toNat) (N - m.toNat)) ?_ h ⟨e, _, k1, k2, rfl, g1, g2, .inr ⟨N, t, y, b, off, hg, ⟨g3, by have := hck.2; unfold maxLen; omega⟩, k3, _, _, by rw [show (n - m).toNat = n.toNat - m.toNat from by omega], fun hne => by rw [if_neg (by omega)]; rfl, by omega, by omega⟩⟩
      rw [he, k4]
      have hc := hck.1
      unfold sliceA.chkP at hc
      split at hc
      ·rename_i A hT
       obtain ⟨et, k', f1, f2, f3⟩ := tyOk_arr (chk_ok hE hc)
       simp only [Option.map_none, Instr.sliceAt, Instr.slice, Sem.run_bind, run_under hT, run_under f1, asAddr, hb2, Result.andThen_ok, Sem.run_pure, run_sizeOf f3]
      ·obtain ⟨et, k', f1, f2, f3⟩ := tyOk_arr (chk_ok hE hc)
       simp only [Option.map_none, Instr.sliceAt, Sem.run_bind, run_under f1, Instr.sureAddr, hb2, Result.andThen_ok, Sem.run_pure, run_sizeOf f3]
      ·cases hc
     ·trivial
    ·trivial
   ·trivial
  ·trivial

end
end Go.Ex

namespace Go.Ex

section
variable {E : Env} {B : Base} {S S' : Nat → Prop} {ι : Ix} {s : St} {a : Act} {w : World} {hp : List (Nat × Ent)} {H H' : Array Go.Obj}

theorem slc_len {q : Bool} {u : Ty} {O : List Nat} {cs : List Value} {z : List u.den} (hR : Rep H S (.slc q u) O cs z) : z.length ≤ maxLen := by
 rcases hR with ⟨_, _, h2⟩ | ⟨b, off, cap, O', c1, c2, c3, _⟩
 ·rw [h2]; exact Nat.zero_le _
 ·have := c3.1
  have c2 : z.length ≤ cap := c2
  omega

theorem els_len (h : HS B S ι s.hp w) {v : AV} {val : Value} (hv : VX w.heap S ι s.hp v [val]) {t : Ty} {l : List t.den} (hw : v.els s = some ⟨t, l⟩) : l.length ≤ maxLen := by
 unfold AV.els at hw
 split at hw
 ·cases hw
  obtain ⟨cs, _, hR⟩ := hv
  exact slc_len hR
 ·rename_i i p
  split at hw
  ·rename_i q t' l' hp
   cases hw
   obtain ⟨e, u, y, cs, h1, h2, h3, h4, h5⟩ := hv
   have hg := part_of h1 hp
   rw [h3] at hg; cases hg
   obtain ⟨O2, m1, m2, m3⟩ := sub_rep h h1 h2 h3 h4
   exact slc_len m3
  ·cases hw
 ·obtain ⟨A, c, _, k⟩ := sub_own h hv hw
  rcases k with rfl | ⟨b, off, O, _, _, _, _, _, k1, k2⟩
  ·exact Nat.zero_le _
  ·omega
 ·cases hw

theorem byte_in (c : UInt8) : inK .u8 (c.toNat : Int) := by
 simp only [inK, IntKind.min, IntKind.max, IntKind.signed, IntKind.bits]; have := c.toNat_lt; simp; omega

theorem bytes_rep (y : List UInt8) : RepL (Rep H S (.int .u8)) 1 [] (byteCells ⟨y.toArray⟩) (List.map (fun b : UInt8 => (b.toNat : Int)) y : List Int) := by
 simp only [byteCells]
 induction y with
 | nil => exact ⟨rfl, rfl⟩
 | cons c y ih => exact ⟨[], [], rfl, ⟨rfl, rfl, byte_in c⟩, by simpa [Ty.size] using ih⟩

theorem ints_cells {k : IntKind} : ∀ {l : List Int} {O : List Nat} {cs : List Value}, RepL (Rep H S (.int k)) 1 O cs l → cs = l.map (Value.int k)
 | [], _, _, ⟨_, h⟩ => h
 | n :: l, O, cs, ⟨O1, O2, _, h1, h2⟩ => by
  have e1 : cs.take 1 = [.int k n] := h1.2.1
  have e2 := ints_cells h2
  rw [← List.take_append_drop 1 cs, e1, e2]; rfl

theorem push_all : ∀ (l : List Int) (r : ByteArray), l.foldl (fun r n => r.push (UInt8.ofNat n.toNat)) r = ⟨r.data ++ (l.map fun n => UInt8.ofNat n.toNat).toArray⟩
 | [], r => by simp
 | n :: l, r => by
  rw [List.foldl_cons, push_all l]
  simp [ByteArray.push]

theorem convert_sound (hE : EnvOk E) (h : RS B S ι s a w) {o : Oper} {T T' : TypeId} {x : Operand} (ho : o.op = .convert T' T x) : ORok E.P B o a w (aop E o s) := by
 have he : execOp a.eval o = (do pure (.value (← convert T' T (a.eval x)))) := by simp [execOp, ho]
 unfold aop
 rw [ho]
 simp only
 split
 ·rename_i k n k0 by0 k' by_ hx hT0 hT
  obtain ⟨hv, _⟩ := VX.int_inv (evx h hx)
  have hu := tyOk_int (tt_ok hE hT)
  have hu0 := tyOk_int (tt_ok hE hT0)
  refine exec_val he h (val := .int k' (k'.wrap n)) ?_ (VX.int (wrap_in _ _))
  rw [hv]
  simp [convert, run_under hu, run_under hu0, Conv.intToInt]
 ·rename_i y b0 b1 hx hT0 hT
  split
  ·rename_i d hd
   refine ORok.lay (fun v s' hl => ?_)
   obtain ⟨hv, hlen⟩ := VX.str_inv (evx h hx)
   have hu0 := tyOk_str (tt_ok hE hT0)
   obtain ⟨et, k', f1, f2, f3⟩ := tyOk_slc (tt_ok hE hT)
   have f4 := tyOk_int f3
   have hrun := run_bytes_of_string (P := E.P) w T' T et ⟨y.toArray⟩ hu0 f1 f4
   have hsz : (⟨y.toArray⟩ : ByteArray).size = List.length y := rfl
   rw [hsz] at hrun
   have hge := grownCap_ge w (List.length y) 0 et
   have hmax := grownCap_le_maxLen w (List.length y) 0 et hlen
   generalize grownCap w (List.length y) 0 et = gc at hrun hge hmax
   have hcells : (bytesRow ⟨y.toArray⟩ gc) = (byteCells ⟨y.toArray⟩ ++ List.replicate (gc - List.length y) (Value.int .u8 0)).toArray := by
    apply Array.ext'
    simp [bytesRow, byteCells, hsz]
   rw [hcells] at hrun
   have hbl : (byteCells ⟨y.toArray⟩).length = List.length y := by rw [byteCells_length]; rfl
   have hml : (List.map (fun b : UInt8 => (b.toNat : Int)) y).length = List.length y := List.length_map ..
   have hp : Past [] w (w.drew.alloc (.cells (byteCells ⟨y.toArray⟩ ++ List.replicate (gc - List.length y) (Value.int .u8 0)).toArray et ((byteCells ⟨y.toArray⟩ ++ List.replicate (gc - List.length y) (Value.int .u8 0)).toArray.size, (byteCells ⟨y.toArray⟩ ++ List.replicate (gc - List.length y) (Value.int .u8 0)).toArray.size + 1))) :=
    Past.trans Past.drew (Past.push _) (by simp)
   obtain ⟨O2, k1, k2, k3⟩ := row_repW (w := w) (S := S) (t := .int .u8) (l := (List.map (fun b : UInt8 => (b.toNat : Int)) y : List Int)) (cap := gc) h.hs.slt (O := []) (cells := byteCells ⟨y.toArray⟩ ++ List.replicate (gc - List.length y) (Value.int .u8 0)) (by
    show RepL _ 1 [] (List.take ((List.map (fun b : UInt8 => (b.toNat : Int)) y).length * 1) _) _
    rw [hml, Nat.mul_one, List.take_left' hbl]
    exact bytes_rep y) (by show (List.map (fun b : UInt8 => (b.toNat : Int)) y).length ≤ gc; rw [hml]; exact hge) hmax (by simp only [List.length_append, List.length_replicate, hbl, Ty.size]; omega) et (by simp)
    (w' := w.drew.alloc (.cells (byteCells ⟨y.toArray⟩ ++ List.replicate (gc - List.length y) (Value.int .u8 0)).toArray et ((byteCells ⟨y.toArray⟩ ++ List.replicate (gc - List.length y) (Value.int .u8 0)).toArray.size, (byteCells ⟨y.toArray⟩ ++ List.replicate (gc - List.length y) (Value.int .u8 0)).toArray.size + 1))) rfl (.inr (by simp))
   have hd' := h.drops (g := []) rfl
   refine OpOk.lay hl (val := .slice (some ⟨w.heap.size, 0, none⟩) (List.length y) gc) (by rw [he, hv]; simp only [Sem.run_bind, hrun, Result.andThen_ok, Sem.run_pure]) (by rw [← hml]; rfl) k1 (hd'.turn Flt.nil hp) (Flt.new hd' Flt.nil hp (by show w.heap.size < (w.heap.push _).size; simp) k2 (k3 List.nodup_nil))
  ·trivial
 ·rename_i b0 b1 _ hT0 hT
  obtain ⟨et, k', f1, f2, f3⟩ := tyOk_slc (tt_ok hE hT0)
  have f4 := tyOk_int f3
  have f5 := tyOk_str (tt_ok hE hT)
  split
  ·rename_i l hels
   obtain ⟨A, c, e, k⟩ := els_rep h.hs (h.ev x) hels
   have hlen := els_len h.hs (h.ev x) hels
   refine exec_val he h (val := .string ⟨(List.map (fun n : Int => UInt8.ofNat n.toNat) l).toArray⟩) ?_ (VX.str (by rw [List.length_map]; exact hlen))
   rw [e]
   simp only [convert, Sem.run_bind, run_under f1, run_under f5, Result.andThen_ok, run_under f4]
   have hsome : ∀ a0 : Addr, (loadCells a0 l.length).run E.P w = .ok (l.map (Value.int .u8)).toArray w → (Conv.bytesToString (.slice (some a0) l.length c)).run E.P w = .ok (.string ⟨(List.map (fun n : Int => UInt8.ofNat n.toNat) l).toArray⟩) w := by
    intro a0 hl
    rw [run_bytesToString w a0 l.length c l hl, push_all]
    simp
   rcases k with rfl | ⟨b, off, O', rfl, k1, k2, k3, k4⟩
   ·cases A with
    | none => simp [Conv.bytesToString, Sem.run_pure]; rfl
    | some A => exact hsome A (run_firstCells_some w 1 0 A 0 c [] (by simp) (by simp))
   ·refine hsome _ ?_
    have hc := ints_cells k3
    have := run_firstCells_some (P := E.P) w 1 l.length ⟨b, off, none⟩ l.length c (l.map (Value.int .u8)) (by simp) (fun j u hu => by
     rw [Addr.add_none]; rw [← hc] at hu; exact cell_of_cellsAt hu)
    simpa [Builtin.firstCells] using this
  ·split
   ·rename_i hx
    have hx' : [a.eval x] = [Value.slice none 0 0] := evx h hx
    have hx' : a.eval x = Value.slice none 0 0 := by simpa using hx'
    refine exec_val he h (val := .string ⟨([] : List UInt8).toArray⟩) ?_ (VX.str (by simp))
    rw [hx']
    simp [convert, Sem.run_bind, run_under f1, run_under f5, Result.andThen_ok, run_under f4, Conv.bytesToString, Sem.run_pure]
    rfl
   ·trivial
 ·trivial

end
end Go.Ex
