/- CausalStays. No condition. -/
import Derived.Test.YtbcdpeogfghgcaaCausalC
import Derived.Test.YtbcdpeogfghgcaaVectW
namespace Go.Proofs.Ytbcdpeogfghgcaa
open Go.Ex
set_option maxRecDepth 100000
theorem ind_sum : ∀ k, k < 6 → sumN (fun i => if i = k then (1 : Int) else 0) 6 = 1 := by decide
theorem bump_sum {s : List Int} {m : MailD} (hs : s.length = 6) (hm : InR m) : sumN (fun i => (bump s m).getD i 0) 6 = sumN (fun i => s.getD i 0) 6 + 1 := by
  rw [show (fun i => (bump s m).getD i 0) = (fun i => s.getD i 0 + (if i = m.1.toNat then (1 : Int) else 0)) from funext (fun i => bump_get hs hm i), sumN_add, ind_sum _ (by have := hm.1; have := hm.2; omega)]
/-- what delivering leaves -/
structure Gone (s : List Int) (h : List MailD) (l : List MailD) (R : List Int × List MailD × List MailD) : Prop where
  len : R.1.length = 6
  up : ∀ i, s.getD i 0 ≤ R.1.getD i 0
  sub : R.2.1.Sublist h
  rest : ∀ x ∈ R.2.1, R.1.getD x.1.toNat 0 < x.2.1.getD x.1.toNat 0 ∧ delv R.1 x = false
  sum : sumN (fun i => R.1.getD i 0) 6 + l.length = sumN (fun i => s.getD i 0) 6 + R.2.2.length
  few : R.2.2.length ≤ l.length + h.length + 1
theorem hgo_gone : ∀ {f : Nat} {s : List Int} {h : List MailD} {m : MailD} {l : List MailD}, Held s h m → h.length < f → Gone s h l (hgo f s h m l)
  | 0, _, _, _, _, _, hf => by omega
  | f + 1, s, h, m, l, H, hf => by
    have hm := formed_in H.mok.1
    have hsum := bump_sum H.len hm
    have hup : ∀ i, s.getD i 0 ≤ (bump s m).getD i 0 := fun i => by rw [bump_get H.len hm]; split <;> omega
    have hln : (bump s m).length = 6 := by rw [bump, List.length_set]; exact H.len
    rw [hgo_step]
    split
    · rename_i c
      have c2 : idxOf (delv (bump s m)) h = -1 := by
        rcases Int.lt_or_le (idxOf (delv (bump s m)) h) 0 with h1 | h1
        · by_cases e : idxOf (delv (bump s m)) h = -1
          · exact e
          · obtain ⟨k, hk, _⟩ := idxGo_at (d := mail0) (l := h) (j := 0) (p := delv (bump s m)) e
            rw [idxOf, hk] at h1; omega
        · omega
      refine ⟨hln, hup, List.Sublist.refl _, fun x hx => ⟨H.above hx, idxGo_no c2 x hx⟩, ?_, ?_⟩
      · show sumN (fun i => (bump s m).getD i 0) 6 + _ = _ + (((l ++ [m]).length : Nat) : Int)
        rw [hsum, List.length_append, List.length_singleton]; omega
      · show (l ++ [m]).length ≤ _
        rw [List.length_append, List.length_singleton]; omega
    · rename_i c
      obtain ⟨k, hk, hkl, hdk, _⟩ := idxGo_at (p := delv (bump s m)) (d := mail0) (l := h) (j := 0) (by show idxOf _ h ≠ -1; omega)
      have hk : idxOf (delv (bump s m)) h = (k : Int) := by rw [idxOf, hk]; omega
      rw [hk, show ((k : Int) + 1).toNat = k + 1 by omega, Int.toNat_natCast]
      have hlen2 : (h.take k ++ h.drop (k + 1)).length + 1 = h.length := by rw [List.length_append, List.length_take, List.length_drop]; omega
      have G := hgo_gone (f := f) (l := l ++ [m]) (H.next hkl hdk) (by omega)
      have hsub : (h.take k ++ h.drop (k + 1)).Sublist h := by
        have h1 : (h.take k ++ h.drop (k + 1)).Sublist (h.take k ++ h.drop k) := List.Sublist.append_left (by rw [drop_getD hkl mail0]; exact List.sublist_cons_self _ _) _
        rwa [List.take_append_drop] at h1
      have g5 := G.sum
      have g6 := G.few
      rw [List.length_append, List.length_singleton] at g5 g6
      refine ⟨G.len, fun i => Int.le_trans (hup i) (G.up i), G.sub.trans hsub, G.rest, ?_, ?_⟩
      · omega
      · omega
theorem COk.of {me : Int} {s : List Int} {h : List MailD} (h1 : 0 ≤ me ∧ me ≤ 5) (h2 : ∀ i, 0 ≤ s.getD i 0) (h3 : h.length ≤ 40) (h4 : ∀ x ∈ h, formed x = true ∧ x.1 ≠ me ∧ s.getD x.1.toNat 0 < x.2.1.getD x.1.toNat 0 ∧ delv s x = false) (h5 : h.Pairwise (fun x y => sameM x y = false ∧ sameM y x = false)) : COk (me, s, h, ()) := by
  refine ⟨h1, ?_, h3, fun i hi => hbad_iff.2 ?_⟩
  · rw [List.any_eq_false]
    intro x hx
    obtain ⟨i, hi, rfl⟩ := mem_getD (d := 0) hx
    have := h2 i
    simp only [neg, decide_eq_true_eq]
    omega
  · have hi : i < h.length := hi
    obtain ⟨k1, k2, k3, k4⟩ := h4 _ (getD_mem (d := mail0) hi)
    refine ⟨k1, k2, k3, k4, fun y hy => ?_⟩
    have hy : y ∈ h.take i := hy
    rw [List.mem_take_iff_getElem] at hy
    obtain ⟨j, hj, rfl⟩ := hy
    rw [List.pairwise_iff_getElem] at h5
    have := (h5 j i (by omega) hi (by omega)).1
    show sameM _ (h.getD i mail0) = false
    rw [List.getD_eq_getElem?_getD, List.getElem?_eq_getElem hi]
    exact this
/-- what Hear answers where it answers -/
theorem chear_ok {c : CausalD} {m : MailD} (hs : c.2.1.length = 6) (hr : ∀ x ∈ c.2.2.1, RM x) (hmr : RM m) (he : (chear c m).2.2.1 = 0) :
    COk (chear c m).1 ∧ (chear c m).1.2.1.length = 6 ∧ (∀ i, c.2.1.getD i 0 ≤ (chear c m).1.2.1.getD i 0) ∧ (∀ i, 0 ≤ c.2.1.getD i 0) ∧ sumN (fun i => (chear c m).1.2.1.getD i 0) 6 = sumN (fun i => c.2.1.getD i 0) 6 + (chear c m).2.1.length ∧ (chear c m).2.1.length ≤ 41 := by
  obtain ⟨me, s, h, ⟨⟩⟩ := c
  have hs : s.length = 6 := hs
  rw [chear] at he ⊢
  split at he
  · rename_i e; exact absurd he e
  rename_i e0
  rw [if_neg e0]
  have ok := ccheck_iff.1 (Decidable.not_not.1 e0)
  have hnn : ∀ i, 0 ≤ s.getD i 0 := any_neg ok.nn
  have hle : h.length ≤ 40 := ok.len
  split at he
  · cases he
  rename_i e1
  rw [if_neg e1]
  have hfm : formed m = true := by simpa using e1
  have same : COk (me, s, h, ()) ∧ s.length = 6 ∧ (∀ i, s.getD i 0 ≤ s.getD i 0) ∧ (∀ i, 0 ≤ s.getD i 0) ∧ sumN (fun i => s.getD i 0) 6 = sumN (fun i => s.getD i 0) 6 + (([] : List MailD).length : Int) ∧ ([] : List MailD).length ≤ 41 := ⟨ok, hs, fun i => Int.le_refl _, hnn, by simp, by simp⟩
  split at he
  · rename_i e2; rw [if_pos e2]; exact same
  rename_i e2
  rw [if_neg e2]
  split at he
  · rename_i e3; rw [if_pos e3]; exact same
  rename_i e3
  rw [if_neg e3]
  split at he
  · rename_i e4; rw [if_pos e4]; exact same
  rename_i e4
  rw [if_neg e4]
  have hno : h.any (fun y => sameM y m) = false := by simpa using e4
  split at he
  · rename_i e5
    rw [if_pos e5]
    split at he
    · cases he
    rename_i e6
    rw [if_neg e6]
    have e6 : ¬ (h.length : Int) = 40 := e6
    refine ⟨COk.of ok.me hnn (by show (h ++ [m]).length ≤ 40; rw [List.length_append, List.length_singleton]; omega) (fun x hx => ?_) ?_, hs, fun i => Int.le_refl _, hnn, by show _ = _ + (([] : List MailD).length : Int); simp, by show ([] : List MailD).length ≤ 41; simp⟩
    · rcases List.mem_append.1 hx with h1 | h1
      · exact ok.mem h1
      · rw [List.mem_singleton] at h1
        subst h1
        exact ⟨hfm, e2, by have h9 : ¬ x.2.1.getD x.1.toNat 0 ≤ s.getD x.1.toNat 0 := e3; show s.getD x.1.toNat 0 < _; omega, e5⟩
    · refine List.pairwise_append.2 ⟨ok.dis, by simp, fun x hx y hy => ?_⟩
      rw [List.mem_singleton] at hy
      subst hy
      have h9 : sameM x y = false := by have := List.any_eq_false.1 hno x hx; simpa using this
      exact ⟨h9, by rw [sameM_comm]; exact h9⟩
  · rename_i e5
    rw [if_neg e5]
    have H : Held s h m := ok.held hs hr hfm hmr (by simpa using e5) hno
    have G := hgo_gone (f := h.length + 1) (l := []) H (by omega)
    show COk (me, (hgo (h.length + 1) s h m []).1, (hgo (h.length + 1) s h m []).2.1.filter (fun x => !stale (hgo (h.length + 1) s h m []).1 x), ()) ∧ (hgo (h.length + 1) s h m []).1.length = 6 ∧ (∀ i, s.getD i 0 ≤ (hgo (h.length + 1) s h m []).1.getD i 0) ∧ (∀ i, 0 ≤ s.getD i 0) ∧ sumN (fun i => (hgo (h.length + 1) s h m []).1.getD i 0) 6 = sumN (fun i => s.getD i 0) 6 + ((hgo (h.length + 1) s h m []).2.2.length : Int) ∧ (hgo (h.length + 1) s h m []).2.2.length ≤ 41
    generalize hgo (h.length + 1) s h m [] = R at G
    have hf : R.2.1.filter (fun x => !stale R.1 x) = R.2.1 := List.filter_eq_self.2 (fun x hx => by
      rw [stale, decide_eq_false (by have := (G.rest x hx).1; omega)]; rfl)
    rw [hf]
    have g5 := G.sum
    have g6 := G.few
    simp only [List.length_nil] at g5 g6
    refine ⟨COk.of ok.me (fun i => Int.le_trans (hnn i) (G.up i)) (by have := G.sub.length_le; omega) (fun x hx => ?_) (ok.dis.sublist G.sub), G.len, G.up, hnn, by omega, by omega⟩
    obtain ⟨k1, k2, _, _⟩ := ok.mem (G.sub.subset hx)
    exact ⟨k1, k2, (G.rest x hx).1, (G.rest x hx).2⟩
theorem chear_err {c : CausalD} {m : MailD} (he : (chear c m).2.2.1 ≠ 0) : (chear c m).1.2.1 = [0, 0, 0, 0, 0, 0] ∧ (chear c m).2.1 = [] := by
  rw [chear] at he ⊢
  repeat' split at he
  all_goals first | (exact absurd rfl he) | skip
  · rename_i e; rw [if_pos e]; exact ⟨rfl, rfl⟩
  · rename_i e e1; rw [if_neg e, if_pos e1]; exact ⟨rfl, rfl⟩
  · rename_i e e1 e2 e3 e4 e5 e6; rw [if_neg e, if_neg e1, if_neg e2, if_neg e3, if_neg e4, if_pos e5, if_pos e6]; exact ⟨rfl, rfl⟩
theorem sumN_sub {f g : Nat → Int} : ∀ {n : Nat}, sumN (fun i => f i - g i) n = sumN f n - sumN g n
  | 0 => rfl
  | n + 1 => by simp only [sumN, sumN_sub (n := n)]; omega
theorem sumN_pos {f : Nat → Int} (h : ∀ i, 0 ≤ f i) : ∀ {n : Nat}, 0 ≤ sumN f n
  | 0 => Int.le_refl _
  | n + 1 => by have := sumN_pos h (n := n); have := h n; simp only [sumN]; omega
theorem sumN_upto {f : Nat → Int} (h : ∀ i, 0 ≤ f i) {i n : Nat} (hi : i ≤ n) : sumN f i ≤ sumN f n := by
  obtain ⟨d, rfl⟩ := Nat.exists_eq_add_of_le hi
  rw [sumN_split]
  have := sumN_pos (f := fun j => f (i + j)) (fun j => h _) (n := d)
  omega
def cCausalStays : Ctr := { ps := [.v Causal, .v Mail], rs := [.bool], pre := fun _ => True, fn := fun _ => (true, ()), out := fun _ => () }
noncomputable def ECausalStays : Env := { P := Try.prog, tt := tt, ctr := [(26, cchear), (27, cccheck), (28, cwithin)], res := [Go.ResultVar.tmp 4], rs := [Ty.bool], ps := [PK.v (Ty.pair (Ty.int IntKind.i64) (Ty.pair Vec (Ty.pair (Ty.slc false (Ty.pair (Ty.int IntKind.i64) (Ty.pair Vec (Ty.pair Ty.str Ty.unit)))) Ty.unit))), PK.v (Ty.pair (Ty.int IntKind.i64) (Ty.pair Vec (Ty.pair Ty.str Ty.unit)))], cuts := [(9, [(2, none), (8, none), (9, some (Ty.slc true (Ty.pair (Ty.int IntKind.i64) (Ty.pair Vec (Ty.pair Ty.str Ty.unit))))), (11, none), (52, none)])], nt := 83 }
theorem ECausalStays_ok : EnvOk ECausalStays := envOk tt_ok ⟨cchear_valid, cccheck_valid, cwithin_valid, trivial⟩
theorem FCausalStays_ok : FnOk ECausalStays Try.f5 := ⟨rfl, rfl⟩
theorem ECausalStays_t (x0_1 : Int) (x0_2_1 : List Int) (x0_2_2_1 : List (Int × List Int × List UInt8 × Unit)) (x1_1 : Int) (x1_2_1 : List Int) (x1_2_2_1 : List UInt8) : exec ECausalStays 1000 [.code (bodyOf Try.prog 5)] (initSt cCausalStays.ps (((x0_1, x0_2_1, x0_2_2_1, ()), (x1_1, x1_2_1, x1_2_2_1, ()), ()))) =
  .need (True) (.need ((0 : Int) ≤ (1 : Int) ∧ (1 : Int) < (↑6 : Int)) (.need (True) (cond (decide (Prod.fst (Prod.snd (Prod.snd (chear (x0_1, x0_2_1, x0_2_2_1, ()) (x1_1, x1_2_1, x1_2_2_1, ())))) ≠ (0 : Int))) (cond (decide ((↑(List.length (Prod.fst (Prod.snd (chear (x0_1, x0_2_1, x0_2_2_1, ()) (x1_1, x1_2_1, x1_2_2_1, ()))))) : Int) = (0 : Int))) (.ret ((eqD (Ty.arr 6 I64) (Prod.fst (Prod.snd (Prod.fst (chear (x0_1, x0_2_1, x0_2_2_1, ()) (x1_1, x1_2_1, x1_2_2_1, ()))))) [(0 : Int), (0 : Int), (0 : Int), (0 : Int), (0 : Int), (0 : Int)], ()))) (.ret ((false, ())))) (.cut (loopAt (bodyOf Try.prog 5) 9).1 (loopAt (bodyOf Try.prog 5) 9).2 (St.mk [(2, AV.ptr 2 []), (8, AV.ptr 8 []), (9, AV.at_ 1000009 []), (11, AV.val (Ty.int IntKind.i64) (0 : Int)), (52, AV.val (Ty.int IntKind.i64) (0 : Int))] [(2, Ent.var (Ty.pair (Ty.int IntKind.i64) (Ty.pair Vec (Ty.pair (Ty.slc false (Ty.pair (Ty.int IntKind.i64) (Ty.pair Vec (Ty.pair Ty.str Ty.unit)))) Ty.unit))) (x0_1, x0_2_1, x0_2_2_1, ())), (8, Ent.var (Ty.pair (Ty.int IntKind.i64) (Ty.pair Vec (Ty.pair (Ty.slc true (Ty.pair (Ty.int IntKind.i64) (Ty.pair Vec (Ty.pair Ty.str Ty.unit)))) Ty.unit))) (Prod.fst (chear (x0_1, x0_2_1, x0_2_2_1, ()) (x1_1, x1_2_1, x1_2_2_1, ())))), (1000009, Ent.own (Ty.slc true (Ty.pair (Ty.int IntKind.i64) (Ty.pair Vec (Ty.pair Ty.str Ty.unit)))) (Prod.fst (Prod.snd (chear (x0_1, x0_2_1, x0_2_2_1, ()) (x1_1, x1_2_1, x1_2_2_1, ())))))]))))) := by kernel_rfl
def ECausalStays_s9 (v11 : Int) (v52 : Int) (o2_1 : Int) (o2_2_1 : List Int) (o2_2_2_1 : List (Int × List Int × List UInt8 × Unit)) (o8_1 : Int) (o8_2_1 : List Int) (o8_2_2_1 : List (Int × List Int × List UInt8 × Unit)) (o1000009 : List (Int × List Int × List UInt8 × Unit)) : St := St.mk [(2, AV.ptr 2 []), (8, AV.ptr 8 []), (9, AV.at_ 1000009 []), (11, AV.val (Ty.int IntKind.i64) v11), (52, AV.val (Ty.int IntKind.i64) v52)] [(2, Ent.var (Ty.pair (Ty.int IntKind.i64) (Ty.pair Vec (Ty.pair (Ty.slc false (Ty.pair (Ty.int IntKind.i64) (Ty.pair Vec (Ty.pair Ty.str Ty.unit)))) Ty.unit))) (o2_1, o2_2_1, o2_2_2_1, ())), (8, Ent.var (Ty.pair (Ty.int IntKind.i64) (Ty.pair Vec (Ty.pair (Ty.slc true (Ty.pair (Ty.int IntKind.i64) (Ty.pair Vec (Ty.pair Ty.str Ty.unit)))) Ty.unit))) (o8_1, o8_2_1, o8_2_2_1, ())), (1000009, Ent.own (Ty.slc true (Ty.pair (Ty.int IntKind.i64) (Ty.pair Vec (Ty.pair Ty.str Ty.unit)))) o1000009)]
theorem ECausalStays_l9 (v11 : Int) (v52 : Int) (o2_1 : Int) (o2_2_1 : List Int) (o2_2_2_1 : List (Int × List Int × List UInt8 × Unit)) (o8_1 : Int) (o8_2_1 : List Int) (o8_2_2_1 : List (Int × List Int × List UInt8 × Unit)) (o1000009 : List (Int × List Int × List UInt8 × Unit)) : exec ECausalStays 1000 (.code (loopAt (bodyOf Try.prog 5) 9).1 :: .inLoop (loopAt (bodyOf Try.prog 5) 9).1 :: (loopAt (bodyOf Try.prog 5) 9).2) (ECausalStays_s9 v11 v52 o2_1 o2_2_1 o2_2_2_1 o8_1 o8_2_1 o8_2_2_1 o1000009) =
  cond (decide (v52 < (6 : Int))) (.need ((0 : Int) ≤ v52 ∧ v52 < (↑6 : Int)) (.need ((0 : Int) ≤ v52 ∧ v52 < (↑6 : Int)) (.need (inK IntKind.i64 (List.getD o8_2_1 (Int.toNat v52) (0 : Int) - List.getD o2_2_1 (Int.toNat v52) (0 : Int))) (.need (inK IntKind.i64 (v11 + (List.getD o8_2_1 (Int.toNat v52) (0 : Int) - List.getD o2_2_1 (Int.toNat v52) (0 : Int)))) (.need (inK IntKind.i64 (v52 + (1 : Int))) (.cut (loopAt (bodyOf Try.prog 5) 9).1 (loopAt (bodyOf Try.prog 5) 9).2 (St.mk [(2, AV.ptr 2 []), (8, AV.ptr 8 []), (9, AV.at_ 1000009 []), (11, AV.val (Ty.int IntKind.i64) (v11 + (List.getD o8_2_1 (Int.toNat v52) (0 : Int) - List.getD o2_2_1 (Int.toNat v52) (0 : Int)))), (52, AV.val (Ty.int IntKind.i64) (v52 + (1 : Int)))] [(2, Ent.var (Ty.pair (Ty.int IntKind.i64) (Ty.pair Vec (Ty.pair (Ty.slc false (Ty.pair (Ty.int IntKind.i64) (Ty.pair Vec (Ty.pair Ty.str Ty.unit)))) Ty.unit))) (o2_1, o2_2_1, o2_2_2_1, ())), (8, Ent.var (Ty.pair (Ty.int IntKind.i64) (Ty.pair Vec (Ty.pair (Ty.slc true (Ty.pair (Ty.int IntKind.i64) (Ty.pair Vec (Ty.pair Ty.str Ty.unit)))) Ty.unit))) (o8_1, o8_2_1, o8_2_2_1, ())), (1000009, Ent.own (Ty.slc true (Ty.pair (Ty.int IntKind.i64) (Ty.pair Vec (Ty.pair Ty.str Ty.unit)))) o1000009)]))))))) (.need (True) (cond (decide (ccheck (o8_1, o8_2_1, o8_2_2_1, ()) = (0 : Int))) (.need (True) (cond (within o2_2_1 o8_2_1) (.ret ((decide (v11 = (↑(List.length o1000009) : Int)), ()))) (.ret ((false, ()))))) (.ret ((false, ()))))) := by kernel_rfl
theorem cCausalStays_valid : cCausalStays.Valid Try.prog 5 := by
  refine Ctr.valid_of ECausalStays_ok rfl rfl Try.func5 (c := bodyOf Try.prog 5) rfl rfl FCausalStays_ok rfl ?_
  rintro ⟨⟨(me : Int), (s : List Int), (h : List MailD), ⟨⟩⟩, ⟨(f : Int), (a : List Int), (t : List UInt8), ⟨⟩⟩, ⟨⟩⟩ - ⟨⟨-, ⟨hsl, hsr⟩, ⟨hl, hlr⟩, -⟩, ⟨-, ⟨hal, har⟩, -⟩, -⟩
  have hrm : ∀ x ∈ h, RM x := fun x hx => rm_of (hlr x hx)
  have hmr : RM (f, a, t, ()) := ⟨hal, fun n hn => (har n hn).2⟩
  have hsl : s.length = 6 := hsl
  refine exec_sound (n := 1000) ECausalStays_ok FCausalStays_ok ?_
  refine holds_of_eq (ECausalStays_t me s h f a t) ?_
  have hz := chear_err (c := (me, s, h, ())) (m := (f, a, t, ()))
  have ht := chear_ok (c := (me, s, h, ())) (m := (f, a, t, ())) hsl hrm hmr
  simp only [holds_cond, Tree.holds, true_and, true_implies, decide_eq_true_eq, decide_eq_false_iff_not, Bool.not_eq_true', Bool.not_eq_false', Int.toNat_natCast, inK_i64, List.length_set, List.length_cons, List.length_nil]
  generalize chear (me, s, h, ()) (f, a, t, ()) = A at *
  refine ⟨by omega, fun _ => ⟨fun e => ?_, fun e => ?_⟩⟩
  · obtain ⟨e1, e2⟩ := hz e
    refine ⟨fun _ => ?_, fun c => absurd (by rw [e2]; rfl) c⟩
    rw [e1]; rfl
  obtain ⟨k1, k2, k3, k4, k5, k6⟩ := ht (Decidable.not_not.1 e)
  obtain ⟨⟨ne, r, g, ⟨⟩⟩, l, er, ⟨⟩⟩ := A
  have k2 : r.length = 6 := k2
  have k3 : ∀ i, s.getD i 0 ≤ r.getD i 0 := k3
  have k4 : ∀ i, 0 ≤ s.getD i 0 := k4
  have k5 : sumN (fun i => r.getD i 0) 6 = sumN (fun i => s.getD i 0) 6 + l.length := k5
  have k6 : l.length ≤ 41 := k6
  have hd : sumN (fun i => r.getD i 0 - s.getD i 0) 6 = l.length := by rw [sumN_sub]; omega
  have hp : ∀ i, 0 ≤ r.getD i 0 - s.getD i 0 := fun i => by have := k3 i; omega
  refine Reach.loopI ECausalStays_ok FCausalStays_ok (fun i : Nat => ECausalStays_s9 (sumN (fun i => r.getD i 0 - s.getD i 0) i) (i : Int) me s h ne r g l) (fun i => i ≤ 6) (fun i => 6 - i) 1000 (fun _ => ⟨uniq_of rfl, uniq_of rfl⟩) ?_ 0 (by omega)
  rintro i q1 - ih
  have q1 : i ≤ 6 := q1
  refine holds_of_eq (ECausalStays_l9 ..) ?_
  simp only [holds_cond, Tree.holds, true_and, true_implies, decide_eq_true_eq, decide_eq_false_iff_not, Bool.not_eq_true', Bool.not_eq_false', Int.toNat_natCast, inK_i64, List.length_set, List.length_cons, List.length_nil]
  refine ⟨fun c => ?_, fun c => ?_⟩
  · have b0 := sumN_pos hp (n := i)
    have b1 := sumN_upto hp (i := i) (n := 6) q1
    have b2 := sumN_pos hp (n := i + 1)
    have b3 := sumN_upto hp (i := i + 1) (n := 6) (by omega)
    have next := ih (i + 1) (by show i + 1 ≤ 6; omega) (by omega)
    have e9 : sumN (fun i => r.getD i 0 - s.getD i 0) (i + 1) = sumN (fun i => r.getD i 0 - s.getD i 0) i + (r.getD i 0 - s.getD i 0) := rfl
    rw [e9] at next b2 b3
    exact ⟨by omega, fun _ => ⟨by omega, fun _ => ⟨by omega, fun _ => ⟨by omega, fun _ => ⟨by omega, fun _ => next⟩⟩⟩⟩⟩
  · obtain rfl : i = 6 := by omega
    refine ⟨fun _ => ⟨fun _ => yesd hd, fun w => absurd (w.symm.trans ((within_iff k2).2 (fun q _ => k3 q))) (by decide)⟩, fun w => absurd (ccheck_iff.2 k1) w⟩
end Go.Proofs.Ytbcdpeogfghgcaa
