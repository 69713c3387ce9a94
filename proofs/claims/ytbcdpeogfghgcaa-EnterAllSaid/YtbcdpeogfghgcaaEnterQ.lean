/- What holds at the doors holds after each step; what it says of who is in; how long it takes. -/
import Derived.Test.YtbcdpeogfghgcaaEnterP
namespace Go.Proofs.Ytbcdpeogfghgcaa
open Go.Ex
variable {n p : Nat} {f : Nat → DoorD} {ws : List WordD} {t : EnterD}
def fD (t : EnterD) : Nat → DoorD := fun q => t.1.getD q door0
structure JE (n : Nat) (t : EnterD) : Prop where
  len : t.1.length = n
  n1 : 1 ≤ n ∧ n ≤ 6
  iv : IV n (fD t) t.2.1
theorem IV.count (h : IV n f ws) {q : Nat} (hq : q < n) (x : Int) : (f q).2.2.2.2.1.count x ≤ 1 := by
  by_cases hx : x ∈ (f q).2.2.2.2.1
  · obtain ⟨a, rfl, h2, h3, -, -⟩ := h.lr q hq x hx
    have := h.N a q h2 hq h3
    have h9 : lt f q a = (f q).2.2.2.2.1.count (a : Int) := rfl
    split at this <;> omega
  · rw [List.count_eq_zero.2 hx]; omega
theorem IV.nodup (h : IV n f ws) {q : Nat} (hq : q < n) : (f q).2.2.2.2.1.Nodup := List.nodup_iff_count.2 fun x => h.count hq x
theorem IV.later (h : IV n f ws) {q : Nat} (hq : q < n) : (f q).2.2.2.2.1.length ≤ n := by
  have := few_below (n := n) (l := (f q).2.2.2.2.1.map Int.toNat) (List.pairwise_map.2 ((h.nodup hq).imp_of_mem fun {a b} ha hb hne => by
    obtain ⟨a', rfl, -⟩ := h.lr q hq a ha
    obtain ⟨b', rfl, -⟩ := h.lr q hq b hb
    omega)) (fun x hx => by
    obtain ⟨z, hz, rfl⟩ := List.mem_map.1 hx
    obtain ⟨a, rfl, h2, -⟩ := h.lr q hq z hz
    omega)
  rw [List.length_map] at this; exact this
theorem IV.dok (h : IV n f ws) (hn : n ≤ 6) {q : Nat} (hq : q < n) : DOk (f q) q n := by
  have hy := h.y q hq
  refine ⟨(h.c q hq).1, (h.c q hq).2, Nat.le_trans (h.later hq) hn, ?_, fun hw => ⟨?_, ?_, h.l0 hq hw⟩, fun hi => ?_, fun i hi => ?_⟩
  · rw [zero_bits andNot_in.1]
    intro i
    rw [bit_andNot u8s hy.1 (others_in _ _), others_bit hn hq]
    cases hb : bit (f q).2.2.1 i with
    | false => rfl
    | true => rw [decide_eq_true (hy.2 i hb)]; rfl
  · rw [zero_bits hy.1.1]; exact h.y0 hq hw
  · cases hb : (f q).2.2.2.1 with
    | false => rfl
    | true => have := ((h.i q hq).1 hb).1; omega
  · exact (others_iff hn hq hy.1.1 hy.2).2 ((h.i q hq).1 hi).2
  · have hm : (f q).2.2.2.2.1.getD i 0 ∈ (f q).2.2.2.2.1 := by rw [List.getD_eq_getElem?_getD, List.getElem?_eq_getElem hi]; exact List.getElem_mem hi
    obtain ⟨a, h1, h2, h3, -⟩ := h.lr q hq _ hm
    refine ⟨by omega, by omega, fun hm2 => ?_⟩
    have h4 := h.count hq ((f q).2.2.2.2.1.getD i 0)
    have h5 : (f q).2.2.2.2.1.count ((f q).2.2.2.2.1.getD i 0) = (List.take i (f q).2.2.2.2.1 ++ (f q).2.2.2.2.1.getD i 0 :: List.drop (i + 1) (f q).2.2.2.2.1).count ((f q).2.2.2.2.1.getD i 0) := by rw [← del_split hi 0]
    rw [List.count_append, List.count_cons_self] at h5
    have := List.count_pos_iff.2 hm2
    omega
theorem JE.eok (h : JE n t) : EOk t := by
  refine ⟨by rw [h.len]; exact h.n1, fun i hi => ?_, h.iv.l, fun k hk => ?_⟩
  · rw [h.len] at hi ⊢
    exact edoor_iff.2 (h.iv.dok h.n1.2 hi)
  · have hm : t.2.1.getD k word0 ∈ t.2.1 := by rw [List.getD_eq_getElem?_getD, List.getElem?_eq_getElem hk]; exact List.getElem_mem hk
    obtain ⟨a1, a2, a3, a4, -⟩ := h.iv.w _ hm
    rw [h.len]; exact ⟨a1, a2, a3, a4⟩
theorem JE.ok (h : JE n t) : echeck t = 0 := echeck_iff.2 h.eok
theorem fD_set {hs : List DoorD} {ws : List WordD} {u : Unit} {d : DoorD} (hp : p < hs.length) (us : List WordD) (u2 : Unit) : fD (hs.set p d, ws, u) = upd (fD (hs, us, u2)) p d := funext fun q => by
  show (hs.set p d).getD q door0 = _
  rw [getD_set hp]; rfl
theorem wish_JE (h : JE n t) (hp : p < n) (hw : (fD t p).2.1 = 0) (hc : (fD t p).1 ≠ 16777215) (hl : t.2.1.length + n ≤ 101) : JE n (wish1 t p) := by
  obtain ⟨hs, ws, u⟩ := t
  have hlen : hs.length = n := h.len
  have hd : dAt (hs, ws, u) p = fD (hs, ws, u) p := by rw [dAt, Int.toNat_natCast]; rfl
  refine ⟨by rw [wish1, List.length_set]; exact hlen, h.n1, ?_⟩
  rw [wish1, hd, Int.toNat_natCast]
  show IV n (fD (hs.set p _, ws ++ reqs p _ hs.length, ())) (ws ++ reqs p _ hs.length)
  rw [fD_set (by omega) ws u, hlen]
  exact h.iv.wish hp hw hc hl rfl
theorem leave_JE (h : JE n t) (hp : p < n) (hi : (fD t p).2.2.2.1 = true) (hl : t.2.1.length + (fD t p).2.2.2.2.1.length ≤ 100) : JE n (leave1 t p) := by
  obtain ⟨hs, ws, u⟩ := t
  have hlen : hs.length = n := h.len
  have hd : dAt (hs, ws, u) p = fD (hs, ws, u) p := by rw [dAt, Int.toNat_natCast]; rfl
  refine ⟨by rw [leave1, List.length_set]; exact hlen, h.n1, ?_⟩
  rw [leave1, hd, Int.toNat_natCast]
  show IV n (fD (hs.set p _, _, ())) (ws ++ _)
  rw [fD_set (by omega) ws u]
  exact h.iv.leave hp hi hl
/-- what a delivery does, by the word -/
theorem take_cases (h : JE n t) {k : Nat} (hk : k < t.2.1.length) : ∃ (x y : Nat) (z : Int) (u u2 u3 : Unit) (A B : List WordD), A = t.2.1.take k ∧ x < n ∧ y < n ∧ x ≠ y ∧ t.2.1 = A ++ ((x : Int), (y : Int), z, u) :: B ∧ (etake1 t k).1.length = n ∧
    ((z = 0 ∧ 0 < (fD t y).2.1 ∧ (etake1 t k).2.1 = A ++ B ∧ fD (etake1 t k) = upd (fD t) y ((fD t y).1, (fD t y).2.1, bOr .u8 (fD t y).2.2.1 (sh1 x), decide (bOr .u8 (fD t y).2.2.1 (sh1 x) = others n y), (fD t y).2.2.2.2.1, u2)) ∨
     (z ≠ 0 ∧ ((fD t y).2.2.2.1 = true ∨ (0 < (fD t y).2.1 ∧ ((fD t y).2.1 < z ∨ ((fD t y).2.1 = z ∧ y < x)))) ∧ (etake1 t k).2.1 = A ++ B ∧
      fD (etake1 t k) = upd (fD t) y (if (fD t y).1 < z then z else (fD t y).1, (fD t y).2.1, (fD t y).2.2.1, (fD t y).2.2.2.1, (fD t y).2.2.2.2.1 ++ [(x : Int)], u2)) ∨
     (z ≠ 0 ∧ ¬ ((fD t y).2.2.2.1 = true ∨ (0 < (fD t y).2.1 ∧ ((fD t y).2.1 < z ∨ ((fD t y).2.1 = z ∧ y < x)))) ∧ (etake1 t k).2.1 = A ++ B ++ [((y : Int), (x : Int), 0, u3)] ∧
      fD (etake1 t k) = upd (fD t) y (if (fD t y).1 < z then z else (fD t y).1, (fD t y).2.1, (fD t y).2.2.1, (fD t y).2.2.2.1, (fD t y).2.2.2.2.1, u2))) := by
  obtain ⟨hs, ws, u0⟩ := t
  have hlen : hs.length = n := h.len
  have hk : k < ws.length := hk
  have hsp := del_split hk word0
  have hm : ws.getD k word0 ∈ ws := by rw [List.getD_eq_getElem?_getD, List.getElem?_eq_getElem hk]; exact List.getElem_mem hk
  obtain ⟨a1, a2, a3, a4, a5⟩ := h.iv.w _ hm
  have ht : etake1 (hs, ws, u0) k = (hs.set (ws.getD k word0).2.1.toNat (doorR (hs.getD (ws.getD k word0).2.1.toNat door0) (ws.getD k word0) hs.length), ws.take k ++ ws.drop (k + 1) ++ replyR (hs.getD (ws.getD k word0).2.1.toNat door0) (ws.getD k word0), ()) := by
    rw [etake1, ewAt, Int.toNat_natCast, show ((k : Int) + 1).toNat = k + 1 by omega]; rfl
  generalize ws.getD k word0 = w at *
  obtain ⟨x, y, z, u⟩ := w
  simp only at a1 a2 a3 a4 a5 ht
  obtain ⟨x, rfl⟩ : ∃ X : Nat, x = X := ⟨x.toNat, by omega⟩
  obtain ⟨y, rfl⟩ : ∃ Y : Nat, y = Y := ⟨y.toNat, by omega⟩
  rw [Int.toNat_natCast] at ht
  have hx : x < n := by omega
  have hy : y < n := by omega
  have hxy : x ≠ y := by omega
  have hd : hs.getD y door0 = fD (hs, ws, u0) y := rfl
  rw [hd] at ht
  have hiv := h.iv
  have hws : (hs, ws, u0).2.1 = ws := rfl
  rw [hws] at hiv
  refine ⟨x, y, z, u, (), (), ws.take k, ws.drop (k + 1), rfl, hx, hy, hxy, hsp, by rw [ht, List.length_set]; exact hlen, ?_⟩
  rw [ht]
  show (_ ∧ _ ∧ ws.take k ++ ws.drop (k + 1) ++ replyR _ _ = _ ∧ fD (hs.set y _, _, ()) = _) ∨ (_ ∧ _ ∧ ws.take k ++ ws.drop (k + 1) ++ replyR _ _ = _ ∧ fD (hs.set y _, _, ()) = _) ∨ (_ ∧ _ ∧ ws.take k ++ ws.drop (k + 1) ++ replyR _ _ = _ ∧ fD (hs.set y _, _, ()) = _)
  rw [fD_set (by omega) ws u0, hlen]
  generalize fD (hs, ws, u0) = f at *
  rw [hsp] at hiv
  have wr : waits (f y) ((x : Int), (y : Int), z, u) ↔ ((f y).2.2.2.1 = true ∨ (0 < (f y).2.1 ∧ ((f y).2.1 < z ∨ ((f y).2.1 = z ∧ y < x)))) := by
    show ((f y).2.2.2.1 = true ∨ (0 < (f y).2.1 ∧ ((f y).2.1 < z ∨ ((f y).2.1 = z ∧ (y : Int) < x)))) ↔ _
    rw [Int.ofNat_lt]
  have dr : doorR (f y) ((x : Int), (y : Int), z, u) n = if z = 0 then (if 0 < (f y).2.1 then ((f y).1, (f y).2.1, bOr .u8 (f y).2.2.1 (sh1 x), decide (bOr .u8 (f y).2.2.1 (sh1 x) = others n y), (f y).2.2.2.2.1, ()) else f y)
    else (if (f y).1 < z then z else (f y).1, (f y).2.1, (f y).2.2.1, (f y).2.2.2.1, if waits (f y) ((x : Int), (y : Int), z, u) then (if (x : Int) ∈ (f y).2.2.2.2.1 then (f y).2.2.2.2.1 else (f y).2.2.2.2.1 ++ [(x : Int)]) else (f y).2.2.2.2.1, ()) := rfl
  have rr : replyR (f y) ((x : Int), (y : Int), z, u) = if z = 0 ∨ waits (f y) ((x : Int), (y : Int), z, u) then [] else [((y : Int), (x : Int), 0, ())] := rfl
  rw [dr, rr]
  by_cases z0 : z = 0
  · left
    subst z0
    have hw := (hiv.reply (u2 := ()) h.n1.2 hx hy hxy rfl).1
    rw [if_pos rfl, if_pos hw, if_pos (.inl rfl), List.append_nil]
    exact ⟨rfl, hw, rfl, rfl⟩
  · right
    obtain ⟨q1, q2, q3, q4, q5, q6⟩ := hiv.asked hx hy hxy z0
    have hnl : (x : Int) ∉ (f y).2.2.2.2.1 := List.count_eq_zero.1 q5
    rw [if_neg z0]
    by_cases hw : waits (f y) ((x : Int), (y : Int), z, u)
    · left
      rw [if_pos hw, if_pos (.inr hw), if_neg hnl, List.append_nil]
      exact ⟨z0, wr.1 hw, rfl, rfl⟩
    · right
      rw [if_neg hw, if_neg (fun h => h.elim z0 hw)]
      exact ⟨z0, fun h => hw (wr.2 h), rfl, rfl⟩
theorem take_JE (h : JE n t) {k : Nat} (hk : k < t.2.1.length) : JE n (etake1 t k) := by
  obtain ⟨x, y, z, u, u2, u3, A, B, -, hx, hy, hxy, hsp, hl, hc⟩ := take_cases h hk
  have hiv := h.iv
  rw [hsp] at hiv
  refine ⟨hl, h.n1, ?_⟩
  rcases hc with ⟨rfl, h1, h2, h3⟩ | ⟨z0, h1, h2, h3⟩ | ⟨z0, h1, h2, h3⟩
  · rw [h2, h3]; exact (hiv.reply h.n1.2 hx hy hxy rfl).2
  · rw [h2, h3]; exact hiv.defer hx hy hxy z0 h1
  · rw [h2, h3]; exact hiv.answer hx hy hxy z0 h1
abbrev StepD := Int × Int × Unit
def estep1 (t : EnterD) (n : Int) (x : StepD) : EnterD × Int × Unit :=
  if x.1 = 0 then ewish t (rest x.2.1 n) else if x.1 = 3 then eleave t (rest x.2.1 n) else etake t (rest x.2.1 (if (1 : Int) < t.2.1.length then t.2.1.length else 1))
def estep (n : Int) (t : EnterD) (x : StepD) : EnterD := if (estep1 t n x).2.1 = 0 then (estep1 t n x).1 else t
def edoors (n : Int) (l : List StepD) : EnterD := l.foldl (estep n) (enew n).1
theorem ewish_JE (h : JE n t) {p : Int} (h0 : (ewish t p).2.1 = 0) : JE n (ewish t p).1 := by
  have hln := h.len
  unfold ewish at h0 ⊢
  rw [if_neg (by simp [h.ok])] at h0 ⊢
  split at h0
  · cases h0
  rename_i c1
  split at h0
  · cases h0
  rename_i c2
  split at h0
  · cases h0
  rename_i c3
  rw [if_neg c1, if_neg c2, if_neg c3]
  have hp := inF_iff.1 (Bool.not_eq_false _ ▸ c1)
  obtain ⟨P, rfl⟩ : ∃ P : Nat, p = P := ⟨p.toNat, by omega⟩
  have hd : dAt t P = fD t P := by rw [dAt, Int.toNat_natCast]; rfl
  rw [hd] at c2 c3
  have := h.iv.c P (by omega)
  exact wish_JE h (by omega) (by omega) (fun e => c3 (.inl e)) (by have : ¬ (100 : Int) < t.2.1.length + t.1.length - 1 := fun e => c3 (.inr e); omega)
theorem eleave_JE (h : JE n t) {p : Int} (h0 : (eleave t p).2.1 = 0) : JE n (eleave t p).1 := by
  have hln := h.len
  unfold eleave at h0 ⊢
  rw [if_neg (by simp [h.ok])] at h0 ⊢
  split at h0
  · cases h0
  rename_i c1
  split at h0
  · cases h0
  rename_i c2
  split at h0
  · cases h0
  rename_i c3
  rw [if_neg c1, if_neg c2, if_neg c3]
  have hp := inF_iff.1 (Bool.not_eq_false _ ▸ c1)
  obtain ⟨P, rfl⟩ : ∃ P : Nat, p = P := ⟨p.toNat, by omega⟩
  have hd : dAt t P = fD t P := by rw [dAt, Int.toNat_natCast]; rfl
  rw [hd] at c2 c3
  exact leave_JE h (by omega) (by simpa using c2) (by omega)
theorem etake_JE (h : JE n t) {k : Int} (h0 : (etake t k).2.1 = 0) : JE n (etake t k).1 := by
  unfold etake at h0 ⊢
  rw [if_neg (by simp [h.ok])] at h0 ⊢
  split at h0
  · cases h0
  rename_i c1
  rw [if_neg c1]
  have hk := inF_iff.1 (Bool.not_eq_false _ ▸ c1)
  obtain ⟨K, rfl⟩ : ∃ K : Nat, k = K := ⟨k.toNat, by omega⟩
  exact take_JE h (by omega)
theorem step_JE {m : Int} {x : StepD} (h : JE n t) : JE n (estep m t x) := by
  unfold estep
  split
  · rename_i h0
    unfold estep1 at h0 ⊢
    split at h0
    · rename_i e; rw [if_pos e]; exact ewish_JE h h0
    · split at h0
      · rename_i e e2; rw [if_neg e, if_pos e2]; exact eleave_JE h h0
      · rename_i e e2; rw [if_neg e, if_neg e2]; exact etake_JE h h0
  · exact h
theorem fold_JE {m : Int} : ∀ {l : List StepD} {s : EnterD}, JE n s → JE n (l.foldl (estep m) s)
  | [], _, h => h
  | x :: l, s, h => fold_JE (l := l) (s := estep m s x) (step_JE h)
theorem new_JE (h1 : 1 ≤ n) (h2 : n ≤ 6) : JE n (List.replicate n door0, [], ()) := by
  have hf : ∀ q, fD (List.replicate n door0, [], ()) q = door0 := fun q => by
    show (List.replicate n door0).getD q door0 = door0
    by_cases hq : q < n
    · exact repF _ _ hq _
    · rw [List.getD_eq_getElem?_getD, List.getElem?_replicate, if_neg hq]; rfl
  have b0 : ∀ q, bit 0 q = false := fun q => by rw [bit]; simp
  refine ⟨List.length_replicate, ⟨h1, h2⟩, ?_⟩
  generalize fD (List.replicate n door0, [], ()) = f at *
  constructor
  · intro q _; rw [hf]; decide
  · show (0 : Nat) ≤ 100; omega
  · intro w hw; cases hw
  · intro a b _ _ _; rw [lt, ys, hf, hf]; show 0 + 0 + 0 + (bit 0 b).toNat = _; rw [b0]; rfl
  · intro q _ x hx; rw [hf] at hx; cases hx
  · intro a b _ _ _ h0; rw [hf] at h0; exact absurd h0 (by decide)
  · intro a b _ _ _ _ h0; rw [hf] at h0; exact absurd h0 (by decide)
  · intro q _; rw [hf]; exact ⟨by decide, fun r hr => by have : bit 0 r = true := hr; rw [b0] at this; cases this⟩
  · intro q _; rw [hf]; exact ⟨fun h => absurd h (by decide), fun h => absurd h.1 (by decide)⟩
theorem enew_ok {n : Int} (h1 : 1 ≤ n) (h2 : n ≤ 6) : enew n = ((List.replicate n.toNat door0, [], ()), 0, ()) := by
  rw [enew, if_neg (by rw [inF_iff.2 ⟨h1, h2⟩]; simp)]
theorem doors_JE {l : List StepD} {m : Int} (h1 : 1 ≤ m) (h2 : m ≤ 6) : JE m.toNat (edoors m l) := by
  rw [edoors, enew_ok h1 h2]
  exact fold_JE (new_JE (by omega) (by omega))
end Go.Proofs.Ytbcdpeogfghgcaa
