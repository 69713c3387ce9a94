/- Matrices, in plain words; MatFirm and MatRises: the laws' contracts. -/
import Derived.Test.YtibpibbnnogdkaaMat
import Derived.Test.YtibpibbnnogdkaaHist3
namespace Go.Proofs.Ytibpibbnnogdkaa
open Go.Ex
set_option maxRecDepth 100000

theorem eqDL_gen {α : Type} {f : α → α → Bool} (hf : ∀ x y, f x y = true ↔ x = y) : ∀ {l m : List α}, eqD.eqDL f l m = true ↔ l = m
  | [], [] => by simp [eqD.eqDL]
  | [], _ :: _ => by simp [eqD.eqDL]
  | _ :: _, [] => by simp [eqD.eqDL]
  | a :: l, b :: m => by simp [eqD.eqDL, hf, eqDL_gen hf]
theorem eqD_iff : ∀ {t : Ty}, t.eqable = true → ∀ {x y : t.den}, eqD t x y = true ↔ x = y := by
  intro t
  induction t with
  | int k => intro _ x y; simp [eqD]
  | bool => intro _ x y; simp [eqD]
  | str => intro _ x y; simp [eqD]
  | unit => intro _ x y; simp [eqD]
  | pair a b iha ihb =>
    intro h x y
    simp only [Ty.eqable, Bool.and_eq_true] at h
    simp only [eqD, Bool.and_eq_true, iha h.1, ihb h.2]
    constructor
    · rintro ⟨h1, h2⟩; exact Prod.ext h1 h2
    · rintro rfl; exact ⟨rfl, rfl⟩
  | arr n t ih => intro h x y; exact eqDL_gen (fun x y => ih h)
  | slc o t ih => intro h; simp [Ty.eqable] at h

structure LenOk (r : List (List Int)) : Prop where
  l : r.length = 6
  r : ∀ i, i < 6 → (r.getD i v0).length = 6
theorem len_rng {r : List (List Int)} (h : r.length = 6) (h2 : ∀ x ∈ r, x.length = 6) : LenOk r := ⟨h, fun i hi => h2 _ (getD_mem (by omega))⟩
theorem rows_ext {a b : List (List Int)} (ha : LenOk a) (hb : LenOk b) (h : ∀ i j, i < 6 → j < 6 → at2 a i j = at2 b i j) : a = b :=
  eq_of_getD (d := v0) (by rw [ha.l, hb.l]) (fun i hi => ext6 (ha.r i (by have := ha.l; omega)) (hb.r i (by have := ha.l; omega)) (fun j hj => h i j (by have := ha.l; omega) hj))

theorem maxRows_at {a b : List (List Int)} {i j : Nat} (hi : i < 6) (hj : j < 6) : at2 (maxRows a b) i j = maxI (at2 a i j) (at2 b i j) := by
  rw [at2, maxRows, getD_map_range _ _ hi, vmax_at hj]; rfl
theorem maxRows_len {a b : List (List Int)} : LenOk (maxRows a b) := ⟨by simp [maxRows], fun i hi => by rw [maxRows, getD_map_range _ _ hi]; exact vmax_len⟩
/-- the rows behind a meeting -/
def meetR (m o : MatD) : List (List Int) := (maxRows m.2.2.1 o.2.2.1).set m.2.1.toNat (vmax ((maxRows m.2.2.1 o.2.2.1).getD m.2.1.toNat v0) (o.2.2.1.getD o.2.1.toNat v0))
theorem meetR_len {m o : MatD} : LenOk (meetR m o) := by
  refine ⟨by simp [meetR, maxRows], fun i hi => ?_⟩
  rw [meetR]
  by_cases h : m.2.1.toNat < 6
  · rw [getD_set (by rw [maxRows_len.l]; exact h)]
    split
    · exact vmax_len
    · exact maxRows_len.r i hi
  · rw [List.set_eq_of_length_le (by rw [maxRows_len.l]; omega)]; exact maxRows_len.r i hi
theorem meetR_at {m o : MatD} (hm : m.2.1.toNat < 6) {i j : Nat} (hi : i < 6) (hj : j < 6) :
    at2 (meetR m o) i j = if i = m.2.1.toNat then maxI (maxI (at2 m.2.2.1 i j) (at2 o.2.2.1 i j)) (at2 o.2.2.1 o.2.1.toNat j) else maxI (at2 m.2.2.1 i j) (at2 o.2.2.1 i j) := by
  rw [at2, meetR, getD_set (by rw [maxRows_len.l]; exact hm)]
  split
  · rename_i e
    rw [vmax_at hj, ← e]
    rw [show ((maxRows m.2.2.1 o.2.2.1).getD i v0).getD j 0 = at2 (maxRows m.2.2.1 o.2.2.1) i j from rfl, maxRows_at hi hj]; rfl
  · exact maxRows_at hi hj
theorem mmeet_ok {m o : MatD} (hm : MOk m) (ho : MOk o) (hn : m.1 = o.1) (hne : m.2.1 ≠ o.2.1) : mmeet m o = ((m.1, m.2.1, meetR m o, ()), 0, ()) := by
  rw [mmeet, if_neg (by simp [mcheck_iff.2 hm]), if_neg (by simp [mcheck_iff.2 ho]), if_neg (by simp [hn]), if_neg hne]; rfl
theorem mmeet_MOk {m o : MatD} (hm : MOk m) (ho : MOk o) (hn : m.1 = o.1) : MOk (m.1, m.2.1, meetR m o, ()) := by
  have h1 := hm.n
  have h2 := hm.me
  have h3 := ho.me
  have hme : m.2.1.toNat < 6 := by omega
  have hoe : o.2.1.toNat < 6 := by omega
  refine ⟨h1, h2, fun i j hi hj => ?_, fun i j hi hj => ?_, fun i j hi hj => ?_⟩
  · show 0 ≤ at2 (meetR m o) i j ∧ at2 (meetR m o) i j ≤ 16777215
    rw [meetR_at hme hi hj]
    have a := hm.c i j hi hj
    have b := ho.c i j hi hj
    have c := ho.c o.2.1.toNat j hoe hj
    unfold maxI
    repeat' split
    all_goals omega
  · show 0 < at2 (meetR m o) i j → (i : Int) < m.1 ∧ (j : Int) < m.1
    rw [meetR_at hme hi hj]
    have a := hm.z i j hi hj
    have b := ho.z i j hi hj
    have c := ho.z o.2.1.toNat j hoe hj
    unfold maxI
    repeat' split
    all_goals omega
  · show at2 (meetR m o) i j ≤ at2 (meetR m o) m.2.1.toNat j
    rw [meetR_at hme hi hj, meetR_at hme hme hj, if_pos rfl]
    have a := hm.d i j hi hj
    have b := ho.d i j hi hj
    unfold maxI
    split
    · rename_i e; rw [e]; exact Int.le_refl _
    · repeat' split
      all_goals omega

theorem vmin_at {a b : List Int} {p : Nat} (hp : p < 6) : (vmin a b).getD p 0 = minI (a.getD p 0) (b.getD p 0) := getD_map_range _ _ hp
theorem minRows_len {r : List (List Int)} (h : LenOk r) : ∀ k, (minRows r k).length = 6
  | 0 => h.r 0 (by omega)
  | k + 1 => by simp [minRows, vmin]
theorem minI_spec {a b : Int} : minI a b ≤ a ∧ minI a b ≤ b ∧ (minI a b = a ∨ minI a b = b) := by unfold minI; split <;> omega
theorem minRows_le {r : List (List Int)} {p : Nat} (hp : p < 6) : ∀ {k : Nat}, (minRows r k).getD p 0 ≤ at2 r 0 p ∧ ∀ i, i < k → (minRows r k).getD p 0 ≤ at2 r i p
  | 0 => ⟨Int.le_refl _, fun i hi => by omega⟩
  | k + 1 => by
    obtain ⟨h0, h1⟩ := minRows_le hp (r := r) (k := k)
    rw [minRows, vmin_at hp]
    have := minI_spec (a := (minRows r k).getD p 0) (b := (r.getD k v0).getD p 0)
    refine ⟨by omega, fun i hi => ?_⟩
    by_cases e : i = k
    · subst e; exact this.2.1
    · have := h1 i (by omega); omega
theorem minRows_get {r : List (List Int)} {p : Nat} (hp : p < 6) : ∀ {k : Nat}, 1 ≤ k → ∃ i, i < k ∧ (minRows r k).getD p 0 = at2 r i p
  | 0, h => by omega
  | k + 1, _ => by
    rw [minRows, vmin_at hp]
    have hs := minI_spec (a := (minRows r k).getD p 0) (b := (r.getD k v0).getD p 0)
    rcases hs.2.2 with e | e
    · by_cases hk : 1 ≤ k
      · obtain ⟨i, hi, he⟩ := minRows_get hp (r := r) hk
        exact ⟨i, by omega, by rw [e, he]⟩
      · refine ⟨0, by omega, ?_⟩
        have : k = 0 := by omega
        subst this
        rw [e]; rfl
    · exact ⟨k, by omega, e⟩
theorem mfirm_ok {m : MatD} (hm : MOk m) : mfirm m = (minRows m.2.2.1 m.1.toNat, 0, ()) := by rw [mfirm, if_neg (by simp [mcheck_iff.2 hm])]
theorem mfirm_bad {m : MatD} (hm : mcheck m ≠ 0) : mfirm m = (v0, mcheck m, ()) := by rw [mfirm, if_pos hm]

def cMatFirm : Ctr := lawC [Matrix] (fun _ => True)
noncomputable def EMatFirm : Env := { P := Try.prog, tt := tt, ctr := [(19, cmnew), (20, cmdid), (21, cmfirm), (22, cwithin)], res := [Go.ResultVar.tmp 2], rs := [Ty.bool], ps := [PK.v Matrix], cuts := [(14, [(1, none), (7, none), (49, none), (50, none)])], nt := 87 }
theorem EMatFirm_ok : EnvOk EMatFirm := envOk tt_ok ⟨cmnew_valid, cmdid_valid, cmfirm_valid, cwithin_valid, trivial⟩
theorem FMatFirm_ok : FnOk EMatFirm Try.f3 := ⟨rfl, rfl⟩
theorem EMatFirm_t (x0_1 : Int) (x0_2_1 : Int) (x0_2_2_1 : List (List Int)) : exec EMatFirm 1000 [.code (bodyOf Try.prog 3)] (initSt cMatFirm.ps (((x0_1, x0_2_1, x0_2_2_1, ()), ()))) =
  .need (True) (.need (True) (.need (True) (.need (True) (cond (decide (Prod.fst (Prod.snd (mfirm (x0_1, x0_2_1, x0_2_2_1, ()))) ≠ (0 : Int))) (.ret ((eqD (Ty.arr 6 I64) (Prod.fst (mfirm (x0_1, x0_2_1, x0_2_2_1, ()))) [(0 : Int), (0 : Int), (0 : Int), (0 : Int), (0 : Int), (0 : Int)], ()))) (.cut (loopAt (bodyOf Try.prog 3) 14).1 (loopAt (bodyOf Try.prog 3) 14).2 (St.mk [(1, AV.ptr 1 []), (7, AV.ptr 7 []), (49, AV.val (Ty.int IntKind.i64) x0_1), (50, AV.val (Ty.int IntKind.i64) (0 : Int))] [(1, Ent.var Matrix (x0_1, x0_2_1, x0_2_2_1, ())), (7, Ent.var Vec (Prod.fst (mfirm (x0_1, x0_2_1, x0_2_2_1, ()))))])))))) := by kernel_rfl
def EMatFirm_s14 (v49 : Int) (v50 : Int) (o1_1 : Int) (o1_2_1 : Int) (o1_2_2_1 : List (List Int)) (o7 : List Int) : St := St.mk [(1, AV.ptr 1 []), (7, AV.ptr 7 []), (49, AV.val (Ty.int IntKind.i64) v49), (50, AV.val (Ty.int IntKind.i64) v50)] [(1, Ent.var Matrix (o1_1, o1_2_1, o1_2_2_1, ())), (7, Ent.var Vec o7)]
theorem EMatFirm_l14 (v49 : Int) (v50 : Int) (o1_1 : Int) (o1_2_1 : Int) (o1_2_2_1 : List (List Int)) (o7 : List Int) : exec EMatFirm 1000 (.code (loopAt (bodyOf Try.prog 3) 14).1 :: .inLoop (loopAt (bodyOf Try.prog 3) 14).1 :: (loopAt (bodyOf Try.prog 3) 14).2) (EMatFirm_s14 v49 v50 o1_1 o1_2_1 o1_2_2_1 o7) =
  cond (decide (v50 < v49)) (.need ((0 : Int) ≤ v50 ∧ v50 < (↑6 : Int)) (.need (True) (cond (!within o7 (List.getD o1_2_2_1 (Int.toNat v50) [(0 : Int), (0 : Int), (0 : Int), (0 : Int), (0 : Int), (0 : Int)])) (.ret ((false, ()))) (.need (inK IntKind.i64 (v50 + (1 : Int))) (.cut (loopAt (bodyOf Try.prog 3) 14).1 (loopAt (bodyOf Try.prog 3) 14).2 (St.mk [(1, AV.ptr 1 []), (7, AV.ptr 7 []), (49, AV.val (Ty.int IntKind.i64) v49), (50, AV.val (Ty.int IntKind.i64) (v50 + (1 : Int)))] [(1, Ent.var Matrix (o1_1, o1_2_1, o1_2_2_1, ())), (7, Ent.var Vec o7)])))))) (.need (True) (.need (True) (cond (decide (Prod.fst (Prod.snd (mdid (o1_1, o1_2_1, o1_2_2_1, ()))) ≠ (0 : Int))) (.ret ((true, ()))) (cond (decide (Prod.fst (Prod.snd (mfirm (Prod.fst (mdid (o1_1, o1_2_1, o1_2_2_1, ()))))) = (0 : Int))) (cond (decide (o1_1 = (1 : Int))) (.ret ((true, ()))) (.ret ((eqD (Ty.arr 6 I64) (Prod.fst (mfirm (Prod.fst (mdid (o1_1, o1_2_1, o1_2_2_1, ()))))) o7, ())))) (.ret ((false, ()))))))) := by kernel_rfl
theorem bump_at {r : List (List Int)} (hr : LenOk r) {me i j : Nat} (hme : me < 6) : at2 (bump r me) i j = if i = me ∧ j = me then at2 r me me + 1 else at2 r i j := by
  rw [at2, bump, getD_set (by rw [hr.l]; exact hme)]
  by_cases e : i = me
  · subst e
    rw [if_pos rfl, getD_set (by rw [hr.r i hme]; exact hme)]
    by_cases e2 : j = i
    · rw [if_pos e2, if_pos ⟨rfl, e2⟩]
    · rw [if_neg e2, if_neg (fun h => e2 h.2)]; rfl
  · rw [if_neg e, if_neg (fun h => e h.1)]; rfl
theorem bump_len {r : List (List Int)} (hr : LenOk r) {me : Nat} (hme : me < 6) : LenOk (bump r me) := by
  refine ⟨by simp [bump, hr.l], fun i hi => ?_⟩
  rw [bump, getD_set (by rw [hr.l]; exact hme)]
  split
  · simp [hr.r me hme, -List.getD_eq_getElem?_getD]
  · exact hr.r i hi
theorem bump_MOk {m : MatD} (hr : LenOk m.2.2.1) (hm : MOk m) (hf : at2 m.2.2.1 m.2.1.toNat m.2.1.toNat ≠ 16777215) : MOk (m.1, m.2.1, bump m.2.2.1 m.2.1.toNat, ()) := by
  have h1 := hm.n
  have h2 := hm.me
  have hme : m.2.1.toNat < 6 := by omega
  have hcm := hm.c m.2.1.toNat m.2.1.toNat hme hme
  refine ⟨h1, h2, fun i j hi hj => ?_, fun i j hi hj => ?_, fun i j hi hj => ?_⟩
  · show 0 ≤ at2 (bump m.2.2.1 m.2.1.toNat) i j ∧ at2 (bump m.2.2.1 m.2.1.toNat) i j ≤ 16777215
    rw [bump_at hr hme]
    have := hm.c i j hi hj
    split <;> omega
  · show 0 < at2 (bump m.2.2.1 m.2.1.toNat) i j → (i : Int) < m.1 ∧ (j : Int) < m.1
    rw [bump_at hr hme]
    have := hm.z i j hi hj
    split <;> omega
  · show at2 (bump m.2.2.1 m.2.1.toNat) i j ≤ at2 (bump m.2.2.1 m.2.1.toNat) m.2.1.toNat j
    rw [bump_at hr hme, bump_at hr hme]
    have := hm.d i j hi hj
    by_cases e : j = m.2.1.toNat
    · subst e
      rw [if_pos (show m.2.1.toNat = m.2.1.toNat ∧ m.2.1.toNat = m.2.1.toNat from ⟨rfl, rfl⟩)]
      split <;> omega
    · rw [if_neg (fun h => e h.2), if_neg (fun h => e h.2)]; exact this
theorem cMatFirm_valid : (lawC [Matrix] (fun _ => True)).Valid Try.prog 3 := by
  refine Ctr.valid_of EMatFirm_ok rfl rfl Try.func3 (c := bodyOf Try.prog 3) rfl rfl FMatFirm_ok rfl ?_
  rintro ⟨⟨(n : Int), (me : Int), (r : List (List Int)), ⟨⟩⟩, ⟨⟩⟩ - ⟨⟨-, -, ⟨hr, hr2⟩, -⟩, -⟩
  have hr : LenOk r := len_rng hr (fun x hx => (hr2 x hx).1)
  refine exec_sound (n := 1000) EMatFirm_ok FMatFirm_ok ?_
  refine holds_of_eq (EMatFirm_t n me r) ?_
  by_cases hh : mcheck (n, me, r, ()) = 0
  · have ho := mcheck_iff.1 hh
    have h1 : 1 ≤ n ∧ n ≤ 6 := ho.n
    have h2 : 0 ≤ me ∧ me < n := ho.me
    have hme : me.toNat < 6 := by omega
    rw [mfirm_ok ho]
    simp only [holds_cond, Tree.holds, true_and, true_implies, decide_eq_true_eq, decide_eq_false_iff_not]
    refine ⟨fun h => absurd rfl h, fun _ => ?_⟩
    have hf := mfirm_ok ho
    generalize hv : minRows r n.toNat = v
    have hv' : ∀ p, p < 6 → ∀ i, i < n.toNat → v.getD p 0 ≤ at2 r i p := fun p hp i hi => by rw [← hv]; exact (minRows_le hp).2 i hi
    refine Reach.loopI EMatFirm_ok FMatFirm_ok (fun i : Nat => EMatFirm_s14 n (i : Int) n me r v) (fun i => i ≤ n.toNat) (fun i => n.toNat - i) 1000 (fun _ => ⟨uniq_of rfl, uniq_of rfl⟩) ?_ 0 (by omega)
    rintro i k1 - ih
    refine holds_of_eq (EMatFirm_l14 ..) ?_
    simp only [holds_cond, Tree.holds, true_and, true_implies, decide_eq_true_eq, decide_eq_false_iff_not, Bool.not_eq_true', Bool.not_eq_false', Int.toNat_natCast, inK_i64, List.length_set, List.length_cons, List.length_nil]
    refine ⟨fun c => ⟨by omega, fun _ => ⟨fun d => ?_, fun _ => ⟨by omega, fun _ => ih (i + 1) (by omega) (by omega)⟩⟩⟩, fun c => ?_⟩
    · have : within v (r.getD i v0) = true := (within_iff (hr.r i (by omega))).2 (fun p hp => hv' p hp i (by omega))
      have d : within v (r.getD i v0) = false := d
      rw [this] at d; cases d
    · refine ⟨fun _ => yes, fun d => ?_⟩
      have hd : at2 r me.toNat me.toNat ≠ 16777215 := by
        intro h
        have e : mdid (n, me, r, ()) = (m0, 8, ()) := by rw [mdid, if_neg (by simp [hh]), if_pos h]
        rw [e] at d; exact absurd d (by decide)
      have e : mdid (n, me, r, ()) = ((n, me, bump r me.toNat, ()), 0, ()) := by rw [mdid, if_neg (by simp [hh]), if_neg hd]
      have hb := bump_MOk (m := (n, me, r, ())) hr ho hd
      rw [e]
      rw [mfirm_ok hb]
      refine ⟨fun _ => ⟨fun _ => yes, fun f => ?_⟩, fun f => absurd rfl f⟩
      have : minRows (bump r me.toNat) n.toNat = v := by
        rw [← hv]
        refine ext6 (minRows_len (bump_len hr hme) _) (minRows_len hr _) (fun p hp => ?_)
        obtain ⟨i1, a1, a2⟩ := minRows_get (r := r) hp (show 1 ≤ n.toNat by omega)
        obtain ⟨i2, b1, b2⟩ := minRows_get (r := bump r me.toNat) hp (show 1 ≤ n.toNat by omega)
        have c1 := (minRows_le (r := r) hp (k := n.toNat)).2
        have c2 := (minRows_le (r := bump r me.toNat) hp (k := n.toNat)).2
        -- another process than one's own
        obtain ⟨q, q1, q2⟩ : ∃ q, q < n.toNat ∧ q ≠ me.toNat := by
          by_cases h : me.toNat = 0
          · exact ⟨1, by omega, by omega⟩
          · exact ⟨0, by omega, by omega⟩
        have d1 := c1 i2 b1
        have d2 := c2 i1 a1
        have d3 := c2 q q1
        have hqd : at2 r q p ≤ at2 r me.toNat p := ho.d q p (by omega) hp
        rw [bump_at hr hme] at b2 d2 d3
        rw [if_neg (fun h => q2 h.1)] at d3
        split at b2
        · rename_i e1
          obtain ⟨rfl, rfl⟩ := e1
          split at d2
          · rename_i e2; obtain ⟨rfl, _⟩ := e2
            omega
          · omega
        · split at d2
          · rename_i e2
            obtain ⟨rfl, rfl⟩ := e2
            have := c1 q q1
            omega
          · omega
      show ((eqD (.arr 6 I64) (minRows (bump r me.toNat) n.toNat) v, ()) : Bool × Unit) = (true, ())
      rw [this, eqDL_iff, decide_eq_true rfl]
  · rw [mfirm_bad hh]
    simp only [holds_cond, Tree.holds, true_and, true_implies, decide_eq_true_eq, decide_eq_false_iff_not]
    exact ⟨fun _ => rfl, fun h => absurd hh h⟩

def cMatRises : Ctr := lawC [Matrix, Matrix] (fun _ => True)
noncomputable def EMatRises : Env := { P := Try.prog, tt := tt, ctr := [(19, cmnew), (20, cmdid), (21, cmfirm), (22, cwithin), (31, cmmeet), (30, cmcheck)], res := [Go.ResultVar.tmp 4], rs := [Ty.bool], ps := [PK.v Matrix, PK.v Matrix], cuts := [(18, [(2, none), (3, none), (8, none), (9, none), (10, none), (11, none), (13, none), (84, none)])], nt := 127 }
theorem EMatRises_ok : EnvOk EMatRises := envOk tt_ok ⟨cmnew_valid, cmdid_valid, cmfirm_valid, cwithin_valid, cmmeet_valid, cmcheck_valid, trivial⟩
theorem FMatRises_ok : FnOk EMatRises Try.f7 := ⟨rfl, rfl⟩
theorem EMatRises_t (x0_1 : Int) (x0_2_1 : Int) (x0_2_2_1 : List (List Int)) (x1_1 : Int) (x1_2_1 : Int) (x1_2_2_1 : List (List Int)) : exec EMatRises 1000 [.code (bodyOf Try.prog 7)] (initSt cMatRises.ps (((x0_1, x0_2_1, x0_2_2_1, ()), (x1_1, x1_2_1, x1_2_2_1, ()), ()))) =
  .need (True) (.need (True) (.need (True) (.need (True) (.need ((0 : Int) ≤ (0 : Int) ∧ (0 : Int) < (↑6 : Int)) (.need ((0 : Int) ≤ (1 : Int) ∧ (1 : Int) < (↑6 : Int)) (.need (True) (cond (decide (Prod.fst (Prod.snd (mmeet (x0_1, x0_2_1, x0_2_2_1, ()) (x1_1, x1_2_1, x1_2_2_1, ()))) ≠ (0 : Int))) (.ret ((eqD (Ty.pair I64 (Ty.pair I64 (Ty.pair (Ty.arr 6 Vec) Ty.unit))) (Prod.fst (mmeet (x0_1, x0_2_1, x0_2_2_1, ()) (x1_1, x1_2_1, x1_2_2_1, ()))) ((0 : Int), (0 : Int), [[(0 : Int), (0 : Int), (0 : Int), (0 : Int), (0 : Int), (0 : Int)], [(0 : Int), (0 : Int), (0 : Int), (0 : Int), (0 : Int), (0 : Int)], [(0 : Int), (0 : Int), (0 : Int), (0 : Int), (0 : Int), (0 : Int)], [(0 : Int), (0 : Int), (0 : Int), (0 : Int), (0 : Int), (0 : Int)], [(0 : Int), (0 : Int), (0 : Int), (0 : Int), (0 : Int), (0 : Int)], [(0 : Int), (0 : Int), (0 : Int), (0 : Int), (0 : Int), (0 : Int)]], ()), ()))) (.need (True) (.need (True) (.need (True) (.cut (loopAt (bodyOf Try.prog 7) 18).1 (loopAt (bodyOf Try.prog 7) 18).2 (St.mk [(2, AV.ptr 2 []), (3, AV.ptr 3 []), (8, AV.val (Ty.int IntKind.i64) (Prod.fst (Prod.snd (mmeet (Prod.fst (mmeet (x0_1, x0_2_1, x0_2_2_1, ()) (x1_1, x1_2_1, x1_2_2_1, ()))) (x1_1, x1_2_1, x1_2_2_1, ()))))), (9, AV.ptr 9 []), (10, AV.ptr 10 []), (11, AV.ptr 11 []), (13, AV.ptr 13 []), (84, AV.val (Ty.int IntKind.i64) (0 : Int))] [(2, Ent.var Matrix (x0_1, x0_2_1, x0_2_2_1, ())), (3, Ent.var Matrix (x1_1, x1_2_1, x1_2_2_1, ())), (9, Ent.var Matrix (Prod.fst (mmeet (x0_1, x0_2_1, x0_2_2_1, ()) (x1_1, x1_2_1, x1_2_2_1, ())))), (10, Ent.var Matrix (Prod.fst (mmeet (Prod.fst (mmeet (x0_1, x0_2_1, x0_2_2_1, ()) (x1_1, x1_2_1, x1_2_2_1, ()))) (x1_1, x1_2_1, x1_2_2_1, ())))), (11, Ent.var Vec (Prod.fst (mfirm (x0_1, x0_2_1, x0_2_2_1, ())))), (13, Ent.var Vec (Prod.fst (mfirm (Prod.fst (mmeet (x0_1, x0_2_1, x0_2_2_1, ()) (x1_1, x1_2_1, x1_2_2_1, ()))))))])))))))))))) := by kernel_rfl
def EMatRises_s18 (v8 : Int) (v84 : Int) (o2_1 : Int) (o2_2_1 : Int) (o2_2_2_1 : List (List Int)) (o3_1 : Int) (o3_2_1 : Int) (o3_2_2_1 : List (List Int)) (o9_1 : Int) (o9_2_1 : Int) (o9_2_2_1 : List (List Int)) (o10_1 : Int) (o10_2_1 : Int) (o10_2_2_1 : List (List Int)) (o11 : List Int) (o13 : List Int) : St := St.mk [(2, AV.ptr 2 []), (3, AV.ptr 3 []), (8, AV.val (Ty.int IntKind.i64) v8), (9, AV.ptr 9 []), (10, AV.ptr 10 []), (11, AV.ptr 11 []), (13, AV.ptr 13 []), (84, AV.val (Ty.int IntKind.i64) v84)] [(2, Ent.var Matrix (o2_1, o2_2_1, o2_2_2_1, ())), (3, Ent.var Matrix (o3_1, o3_2_1, o3_2_2_1, ())), (9, Ent.var Matrix (o9_1, o9_2_1, o9_2_2_1, ())), (10, Ent.var Matrix (o10_1, o10_2_1, o10_2_2_1, ())), (11, Ent.var Vec o11), (13, Ent.var Vec o13)]
theorem EMatRises_l18 (v8 : Int) (v84 : Int) (o2_1 : Int) (o2_2_1 : Int) (o2_2_2_1 : List (List Int)) (o3_1 : Int) (o3_2_1 : Int) (o3_2_2_1 : List (List Int)) (o9_1 : Int) (o9_2_1 : Int) (o9_2_2_1 : List (List Int)) (o10_1 : Int) (o10_2_1 : Int) (o10_2_2_1 : List (List Int)) (o11 : List Int) (o13 : List Int) : exec EMatRises 1000 (.code (loopAt (bodyOf Try.prog 7) 18).1 :: .inLoop (loopAt (bodyOf Try.prog 7) 18).1 :: (loopAt (bodyOf Try.prog 7) 18).2) (EMatRises_s18 v8 v84 o2_1 o2_2_1 o2_2_2_1 o3_1 o3_2_1 o3_2_2_1 o9_1 o9_2_1 o9_2_2_1 o10_1 o10_2_1 o10_2_2_1 o11 o13) =
  cond (decide (v84 < (6 : Int))) (.need ((0 : Int) ≤ v84 ∧ v84 < (↑6 : Int)) (.need ((0 : Int) ≤ v84 ∧ v84 < (↑6 : Int)) (.need (True) (cond (!within (List.getD o2_2_2_1 (Int.toNat v84) [(0 : Int), (0 : Int), (0 : Int), (0 : Int), (0 : Int), (0 : Int)]) (List.getD o9_2_2_1 (Int.toNat v84) [(0 : Int), (0 : Int), (0 : Int), (0 : Int), (0 : Int), (0 : Int)])) (.ret ((false, ()))) (.need ((0 : Int) ≤ v84 ∧ v84 < (↑6 : Int)) (.need ((0 : Int) ≤ v84 ∧ v84 < (↑6 : Int)) (.need (True) (cond (!within (List.getD o3_2_2_1 (Int.toNat v84) [(0 : Int), (0 : Int), (0 : Int), (0 : Int), (0 : Int), (0 : Int)]) (List.getD o9_2_2_1 (Int.toNat v84) [(0 : Int), (0 : Int), (0 : Int), (0 : Int), (0 : Int), (0 : Int)])) (.ret ((false, ()))) (.need (inK IntKind.i64 (v84 + (1 : Int))) (.cut (loopAt (bodyOf Try.prog 7) 18).1 (loopAt (bodyOf Try.prog 7) 18).2 (St.mk [(2, AV.ptr 2 []), (3, AV.ptr 3 []), (8, AV.val (Ty.int IntKind.i64) v8), (9, AV.ptr 9 []), (10, AV.ptr 10 []), (11, AV.ptr 11 []), (13, AV.ptr 13 []), (84, AV.val (Ty.int IntKind.i64) (v84 + (1 : Int)))] [(2, Ent.var Matrix (o2_1, o2_2_1, o2_2_2_1, ())), (3, Ent.var Matrix (o3_1, o3_2_1, o3_2_2_1, ())), (9, Ent.var Matrix (o9_1, o9_2_1, o9_2_2_1, ())), (10, Ent.var Matrix (o10_1, o10_2_1, o10_2_2_1, ())), (11, Ent.var Vec o11), (13, Ent.var Vec o13)]))))))))))) (cond (decide (v8 = (0 : Int))) (cond (eqD Matrix (o10_1, o10_2_1, o10_2_2_1, ()) (o9_1, o9_2_1, o9_2_2_1, ())) (.need (True) (cond (within o11 o13) (.need (True) (.ret ((decide (mcheck (o9_1, o9_2_1, o9_2_2_1, ()) = (0 : Int)), ())))) (.ret ((false, ()))))) (.ret ((false, ())))) (.ret ((false, ())))) := by kernel_rfl
theorem mmeet_inv {m o : MatD} (h : (mmeet m o).2.1 = 0) : MOk m ∧ MOk o ∧ m.1 = o.1 ∧ m.2.1 ≠ o.2.1 := by
  unfold mmeet at h
  split at h
  · rename_i h1; exact absurd h h1
  · rename_i h1
    split at h
    · rename_i h2; exact absurd h h2
    · rename_i h2
      split at h
      · cases h
      · rename_i h3
        split at h
        · cases h
        · rename_i h4
          exact ⟨mcheck_iff.1 (Decidable.of_not_not h1), mcheck_iff.1 (Decidable.of_not_not h2), Decidable.of_not_not h3, h4⟩
theorem mmeet_err {m o : MatD} (h : (mmeet m o).2.1 ≠ 0) : (mmeet m o).1 = m0 := by
  unfold mmeet at h ⊢
  repeat' split
  all_goals first | rfl | (simp_all; done)
theorem cMatRises_valid : (lawC [Matrix, Matrix] (fun _ => True)).Valid Try.prog 7 := by
  refine Ctr.valid_of EMatRises_ok rfl rfl Try.func7 (c := bodyOf Try.prog 7) rfl rfl FMatRises_ok rfl ?_
  rintro ⟨⟨(n : Int), (me : Int), (r : List (List Int)), ⟨⟩⟩, ⟨(n2 : Int), (me2 : Int), (r2 : List (List Int)), ⟨⟩⟩, ⟨⟩⟩ - ⟨⟨-, -, ⟨hr, hr2⟩, -⟩, ⟨-, -, ⟨hs, hs2⟩, -⟩, -⟩
  have hr : LenOk r := len_rng hr (fun x hx => (hr2 x hx).1)
  have hs : LenOk r2 := len_rng hs (fun x hx => (hs2 x hx).1)
  refine exec_sound (n := 1000) EMatRises_ok FMatRises_ok ?_
  refine holds_of_eq (EMatRises_t n me r n2 me2 r2) ?_
  by_cases hh : (mmeet (n, me, r, ()) (n2, me2, r2, ())).2.1 = 0
  · obtain ⟨hm, ho, hn, hne⟩ := mmeet_inv hh
    have h1 : 1 ≤ n ∧ n ≤ 6 := hm.n
    have h2 : 0 ≤ me ∧ me < n := hm.me
    have h3 : 0 ≤ me2 ∧ me2 < n2 := ho.me
    have hn : n = n2 := hn
    have hme : me.toNat < 6 := by omega
    have hX := mmeet_MOk hm ho hn
    have hX2 := mmeet_ok hX ho hn hne
    rw [mmeet_ok hm ho hn hne]
    simp only at hX2 ⊢
    have hXe : meetR (n, me, meetR (n, me, r, ()) (n2, me2, r2, ()), ()) (n2, me2, r2, ()) = meetR (n, me, r, ()) (n2, me2, r2, ()) := by
      refine rows_ext meetR_len meetR_len (fun i j hi hj => ?_)
      rw [meetR_at (m := (n, me, meetR (n, me, r, ()) (n2, me2, r2, ()), ())) hme hi hj]
      show (if i = me.toNat then maxI (maxI (at2 (meetR (n, me, r, ()) (n2, me2, r2, ())) i j) (at2 r2 i j)) (at2 r2 me2.toNat j) else maxI (at2 (meetR (n, me, r, ()) (n2, me2, r2, ())) i j) (at2 r2 i j)) = _
      rw [meetR_at (m := (n, me, r, ())) hme hi hj]
      show (if i = me.toNat then maxI (maxI (if i = me.toNat then maxI (maxI (at2 r i j) (at2 r2 i j)) (at2 r2 me2.toNat j) else maxI (at2 r i j) (at2 r2 i j)) (at2 r2 i j)) (at2 r2 me2.toNat j) else maxI (if i = me.toNat then maxI (maxI (at2 r i j) (at2 r2 i j)) (at2 r2 me2.toNat j) else maxI (at2 r i j) (at2 r2 i j)) (at2 r2 i j)) = if i = me.toNat then maxI (maxI (at2 r i j) (at2 r2 i j)) (at2 r2 me2.toNat j) else maxI (at2 r i j) (at2 r2 i j)
      unfold maxI
      repeat' split
      all_goals omega
    rw [hXe] at hX2
    rw [hX2, mfirm_ok hm, mfirm_ok hX]
    generalize hR : meetR (n, me, r, ()) (n2, me2, r2, ()) = R at *
    have hRat : ∀ i j, i < 6 → j < 6 → at2 r i j ≤ at2 R i j ∧ at2 r2 i j ≤ at2 R i j := by
      intro i j hi hj
      rw [← hR, meetR_at (m := (n, me, r, ())) hme hi hj]
      show at2 r i j ≤ (if i = me.toNat then maxI (maxI (at2 r i j) (at2 r2 i j)) (at2 r2 me2.toNat j) else maxI (at2 r i j) (at2 r2 i j)) ∧ at2 r2 i j ≤ (if i = me.toNat then maxI (maxI (at2 r i j) (at2 r2 i j)) (at2 r2 me2.toNat j) else maxI (at2 r i j) (at2 r2 i j))
      unfold maxI
      repeat' split
      all_goals omega
    have hRl : LenOk R := by rw [← hR]; exact meetR_len
    have hck : mcheck (n, me, R, ()) = 0 := mcheck_iff.2 hX
    simp only [holds_cond, Tree.holds, true_and, true_implies, decide_eq_true_eq, decide_eq_false_iff_not]
    refine ⟨⟨by decide, by decide⟩, fun _ => ⟨⟨by decide, by decide⟩, fun _ => ⟨fun h => absurd rfl h, fun _ => ?_⟩⟩⟩
    refine Reach.loopI EMatRises_ok FMatRises_ok (fun i : Nat => EMatRises_s18 0 (i : Int) n me r n2 me2 r2 n me R n me R (minRows r n.toNat) (minRows R n.toNat)) (fun i => i ≤ 6) (fun i => 6 - i) 1000 (fun _ => ⟨uniq_of rfl, uniq_of rfl⟩) ?_ 0 (by omega)
    rintro i k1 - ih
    refine holds_of_eq (EMatRises_l18 ..) ?_
    rw [hck]
    simp only [holds_cond, Tree.holds, true_and, true_implies, decide_eq_true_eq, decide_eq_false_iff_not, Bool.not_eq_true', Bool.not_eq_false', Int.toNat_natCast, inK_i64, List.length_set, List.length_cons, List.length_nil]
    refine ⟨fun c => ⟨by omega, fun _ => ⟨by omega, fun _ => ⟨fun d => ?_, fun _ => ⟨by omega, fun _ => ⟨by omega, fun _ => ⟨fun d => ?_, fun _ => ⟨by omega, fun _ => ih (i + 1) (by omega) (by omega)⟩⟩⟩⟩⟩⟩⟩, fun c => ?_⟩
    · have : within (r.getD i v0) (R.getD i v0) = true := (within_iff (hRl.r i (by omega))).2 (fun p hp => (hRat i p (by omega) hp).1)
      have d : within (r.getD i v0) (R.getD i v0) = false := d
      rw [this] at d; cases d
    · have : within (r2.getD i v0) (R.getD i v0) = true := (within_iff (hRl.r i (by omega))).2 (fun p hp => (hRat i p (by omega) hp).2)
      have d : within (r2.getD i v0) (R.getD i v0) = false := d
      rw [this] at d; cases d
    · have e1 : eqD (Ty.pair (Ty.int IntKind.i64) (Ty.pair (Ty.int IntKind.i64) (Ty.pair (Ty.arr 6 (Ty.arr 6 (Ty.int IntKind.i64))) Ty.unit))) (n, me, R, ()) (n, me, R, ()) = true := (eqD_iff rfl).2 rfl
      have e2 : within (minRows r n.toNat) (minRows R n.toNat) = true := by
        refine (within_iff (minRows_len hRl _)).2 (fun p hp => ?_)
        obtain ⟨i2, b1, b2⟩ := minRows_get (r := R) hp (show 1 ≤ n.toNat by omega)
        have := (minRows_le (r := r) hp (k := n.toNat)).2 i2 b1
        have := (hRat i2 p (by omega) hp).1
        omega
      rw [e2]
      exact ⟨⟨fun _ => ⟨fun _ => yesd trivial, fun h => Bool.noConfusion h⟩, fun h => Bool.noConfusion (e1.symm.trans h)⟩, fun h => (h trivial).elim⟩
  · have := mmeet_err hh
    simp only [holds_cond, Tree.holds, true_and, true_implies, decide_eq_true_eq, decide_eq_false_iff_not]
    refine ⟨⟨by decide, by decide⟩, fun _ => ⟨⟨by decide, by decide⟩, fun _ => ⟨fun _ => ?_, fun h => absurd hh h⟩⟩⟩
    rw [this]; rfl
end Go.Proofs.Ytibpibbnnogdkaa
