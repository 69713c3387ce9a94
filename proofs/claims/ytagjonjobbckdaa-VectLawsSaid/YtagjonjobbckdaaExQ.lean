import Derived.Test.YtagjonjobbckdaaExP
namespace Go.Ex

/-! ### ranges: what every reading keeps -/
def rngL {α : Type} (p : α → Prop) (l : List α) : Prop := ∀ x ∈ l, p x

def rng : (t : Ty) → t.den → Prop
  | .int k, n => inK k n
  | .bool, _ => True
  | .str, s => List.length s ≤ maxLen
  | .unit, _ => True
  | .pair a b, x => rng a x.1 ∧ rng b x.2
  | .arr n t, l => List.length l = n ∧ rngL (rng t) l
  | .slc _ t, l => List.length l ≤ maxLen ∧ rngL (rng t) l

def AV.rng : AV → Prop
  | .val t x => Ex.rng t x
  | .rptr t x => Ex.rng t x
  | _ => True

def frRng : List (Nat × AV) → Prop
  | [] => True
  | (_, v) :: l => v.rng ∧ frRng l

def hpRng : List (Nat × Ent) → Prop
  | [] => True
  | (_, .var t x) :: l => Ex.rng t x ∧ hpRng l
  | (_, .own t x) :: l => Ex.rng t x ∧ hpRng l

def St.rng (s : St) : Prop := frRng s.fr ∧ hpRng s.hp

def PK.rng : (k : PK) → k.den → Prop
  | .v t, x => Ex.rng t x
  | .rd t, x => Ex.rng t x
  | .clo _ ts, x => rdRng ts x
where rdRng : (ts : List Ty) → DL ts → Prop
  | [], _ => True
  | t :: ts, x => Ex.rng t x.1 ∧ rdRng ts x.2

def ksRng : (ks : List PK) → DK ks → Prop
  | [], _ => True
  | k :: ks, x => k.rng x.1 ∧ ksRng ks x.2

section
variable {E : Env} {B : Base} {S S' : Nat → Prop} {ι : Ix} {s : St} {a : Act} {w : World} {hp : List (Nat × Ent)} {H H' : Array Go.Obj}

theorem RepL.rng {t : Ty} (hr : ∀ {O : List Nat} {cs : List Value} {x : t.den}, Rep H S t O cs x → Ex.rng t x) : ∀ {l : List t.den} {O : List Nat} {cs : List Value}, RepL (Rep H S t) t.size O cs l → rngL (Ex.rng t) l
  | [], _, _, _ => by intro x hx; cases hx
  | x :: l, _, _, ⟨O1, O2, _, h1, h2⟩ => by
    intro y hy
    rcases List.mem_cons.1 hy with rfl | hy
    · exact hr h1
    · exact RepL.rng hr h2 y hy

theorem Rep.rng : ∀ {t : Ty} {O : List Nat} {cs : List Value} {x : t.den}, Rep H S t O cs x → Ex.rng t x := by
  intro t
  induction t with
  | int k => intro O cs x h; exact h.2.2
  | bool => intro O cs x h; trivial
  | str => intro O cs x h; exact h.2.2
  | unit => intro O cs x h; trivial
  | pair a c iha ihc => rintro O cs x ⟨O1, O2, _, h1, h2⟩; exact ⟨iha h1, ihc h2⟩
  | arr n t ih => rintro O cs x ⟨h1, h2⟩; exact ⟨h1, RepL.rng (fun h => ih h) h2⟩
  | slc o t ih =>
    rintro O cs x h
    rcases h with ⟨_, _, h3⟩ | ⟨b, off, cap, O', c1, c2, c3, c4, c5, c6⟩
    · subst h3; exact ⟨Nat.zero_le _, by intro x hx; cases hx⟩
    · exact ⟨Nat.le_trans c2 c3, RepL.rng (fun h => ih h) c5⟩

theorem VX.rng {v : AV} {vs : List Value} (h : VX H S ι hp v vs) : v.rng := by
  cases v <;> try trivial
  · obtain ⟨cs, _, h⟩ := h; exact h.rng
  · obtain ⟨b, off, _, _, _, h⟩ := h; exact h.rng

theorem RS.rng (h : RS B S ι s a w) (h1 : uniq s.fr) (h2 : uniq s.hp) : s.rng := by
  have look_tail : ∀ {α : Type} {n m : Nat} {x : α} {l : List (Nat × α)} {y : α}, look m l = none → look n l = some y → look n ((m, x) :: l) = some y := by
    intro α n m x l y h1 h2
    simp only [look]
    cases hb : Nat.beq n m with
    | true =>
      have := Nat.eq_of_beq_eq_true hb
      subst this
      rw [h1] at h2; cases h2
    | false => exact h2
  have fr : ∀ l : List (Nat × AV), uniq l → (∀ t v, look t l = some v → v.rng) → frRng l := by
    intro l
    induction l with
    | nil => intro _ _; trivial
    | cons q l ih =>
      obtain ⟨n, v⟩ := q
      rintro ⟨k1, k2⟩ k3
      exact ⟨k3 n v (by simp [look]), ih k2 (fun t v hv => k3 t v (look_tail k1 hv))⟩
  have hpp : ∀ l : List (Nat × Ent), uniq l → (∀ t e, look t l = some e → Ex.rng e.ty e.x) → hpRng l := by
    intro l
    induction l with
    | nil => intro _ _; trivial
    | cons q l ih =>
      obtain ⟨n, e⟩ := q
      rintro ⟨k1, k2⟩ k3
      have h0 := k3 n e (by simp [look])
      have h3 := ih k2 (fun t e he => k3 t e (look_tail k1 he))
      cases e <;> exact ⟨h0, h3⟩
  refine ⟨fr _ h1 (fun t v hv => (h.fr t v hv).rng), hpp _ h2 (fun i e he => ?_)⟩
  have := h.hs.ob i e he
  cases e with
  | var t x => obtain ⟨⟨O, _, hR⟩, _⟩ := this; exact hR.rng
  | own t x => obtain ⟨⟨O, _, hR⟩, _⟩ := this; exact hR.rng

/-! ### the evaluator is sound -/
def Base.of (w : World) (S : Nat → Prop) (n : Nat) : Base := ⟨w, S, fun _ => False, n⟩

/-- from this place and this state the function comes to its end with the results y, whatever the world -/
def Reach (E : Env) (fn : Func) (y : DL E.rs) (k : List Item) (s : St) : Prop :=
  ∀ (w0 : World) (S0 : Nat → Prop) (S : Nat → Prop) (ι : Ix) (a : Act) (w : World), (∀ b, S0 b → b < w0.heap.size) → RS (Base.of w0 S0 fn.ntmps) S ι s a w → At E.P fn (ResOk w0 S0 E.rs y) k a w

structure FnOk (E : Env) (fn : Func) : Prop where
  nt : fn.ntmps = E.nt
  res : fn.results.toList = E.res

theorem finish_sound (hE : EnvOk E) {fn : Func} (hf : FnOk E fn) {y : DL E.rs} {L : Code → List Item → St → Prop} (ht : (finish E s).holds L (· = y)) {w0 : World} {S0 : Nat → Prop} (h : RS (Base.of w0 S0 fn.ntmps) S ι s a w) (e : Exit) (he : e = .normal ∨ e = .ret) :
    bodyPost E.P fn (ResOk w0 S0 E.rs y) e a w := by
  unfold finish at ht
  split at ht
  · exact ht.elim
  · rename_i l hl
    split at ht
    · rename_i y' hy
      have ht : y' = y := ht
      subst ht
      obtain ⟨us, h1, h2⟩ := results_run hE h hf.res hl
      obtain ⟨O, k1, k2, k3⟩ := retA_sound h.hs hy h2
      have hR : ResOk w0 S0 E.rs y' (.returned (retV us)) w := by
        refine ⟨us, O, S, rfl, ⟨h.hs.os, h.hs.tape, h.hs.out, h.hs.size, fun c hc => h.hs.frame c hc (fun h => h)⟩, h.hs.s0, fun b hb => ?_, k1, k2, fun b hb => ?_⟩
        · rcases h.hs.s1 b hb with h1 | h1
          · exact .inl h1
          · exact .inr ⟨h1, h.hs.slt b hb⟩
        · obtain ⟨i, e, _, n2, n3⟩ := k3 b hb
          obtain ⟨m1, m2, m3⟩ := h.hs.bl i e n2 b n3
          exact ⟨m1, m2.resolve_right (fun h => h), m3⟩
      rcases he with rfl | rfl
      · exact ⟨h.dfr, _, h1, hR⟩
      · exact ⟨h.dfr, _, h1, hR⟩
    · exact ht.elim

theorem holds_cond {rs : List Ty} {L : Code → List Item → St → Prop} {R : DL rs → Prop} {b : Bool} {t e : Tree rs} : (cond b t e).holds L R ↔ (b = true → t.holds L R) ∧ (b = false → e.holds L R) := by
  cases b <;> simp

theorem exec_sound (hE : EnvOk E) {fn : Func} (hf : FnOk E fn) {y : DL E.rs} : ∀ {n : Nat} {k : List Item} {s : St}, (exec E n k s).holds (fun c k s => Reach E fn y (.code c :: .inLoop c :: k) s) (· = y) → Reach E fn y k s
  | 0, k, s, ht => ht.elim
  | n + 1, k, s, ht => by
    intro w0 S0 S ι a w hS0 h
    unfold exec at ht
    split at ht
    · exact At.done (finish_sound hE hf ht h _ (.inl rfl))
    · refine At.step (fun b cs => step_inBlock) ?_
      exact exec_sound hE hf ht w0 S0 S ι a w hS0 h
    · rename_i c k'
      refine At.step (fun b cs => step_inLoop) ?_
      exact ht w0 S0 S ι a w hS0 (h.canon _)
    · rename_i c k'
      split at ht
      · exact At.step (fun b cs => step_skip) (exec_sound hE hf ht w0 S0 S ι a w hS0 h)
      · exact At.step (fun b cs => step_seq) (exec_sound hE hf ht w0 S0 S ι a w hS0 h)
      · rename_i x c1 c2
        split at ht
        · rename_i g hg
          have hgv := VX.bool_inv (evx h hg)
          refine At.step (fun b cs => step_cond hgv) ?_
          cases g with
          | true => exact exec_sound hE hf ht w0 S0 S ι a w hS0 h
          | false => exact exec_sound hE hf ht w0 S0 S ι a w hS0 h
        · exact ht.elim
      · exact At.step (fun b cs => step_block) (exec_sound hE hf ht w0 S0 S ι a w hS0 h)
      · exact At.step (fun b cs => step_loop) (ht w0 S0 S ι a w hS0 (h.canon _))
      · split at ht
        · rename_i k2 hx
          exact At.step (fun b cs => step_exit hx) (exec_sound hE hf ht w0 S0 S ι a w hS0 h)
        · exact ht.elim
      · exact At.ret (finish_sound hE hf ht h _ (.inr rfl))
      · rename_i id ops draw
        split at ht
        · refine At.region (wp_region_list ?_)
          exact regA_sound hE (by exact hf.nt) (Q := fun e a w => e = .normal ∧ At E.P fn (ResOk w0 S0 E.rs y) k' a w) (fun S' ι' s' a' w' h1 h2 => ⟨rfl, exec_sound hE hf h2 w0 S0 S' ι' a' w' hS0 h1⟩) h ht
        · split at ht
          · rename_i hd
            obtain ⟨s', h1, h2⟩ := reg_runs.1 ht
            exact At.region (drawn_region hE (by exact hf.nt) hd h1 (fun S' ι' a' w' h3 => ⟨rfl, exec_sound hE hf h2 w0 S0 S' ι' a' w' hS0 h3⟩) h)
          · exact ht.elim
      · exact ht.elim
    · exact ht.elim

theorem Tree.holds.mono {rs : List Ty} {L L' : Code → List Item → St → Prop} {R : DL rs → Prop} : ∀ {t : Tree rs}, t.holds L R → (∀ c k s, L c k s → L' c k s) → t.holds L' R
  | .need _ _, h, hl => ⟨h.1, fun hp => (h.2 hp).mono hl⟩
  | .cut c k s, h, hl => hl c k s h
  | .ret _, h, _ => h
  | .stuck _, h, _ => h

/-- a loop: an invariant over the state's variables, and a measure -/
theorem Reach.loop (hE : EnvOk E) {fn : Func} (hf : FnOk E fn) {y : DL E.rs} {c : Code} {k : List Item} {α : Type} (mk : α → St) (I : α → Prop) (μ : α → Nat) (n : Nat) (hu : ∀ x, uniq (mk x).fr ∧ uniq (mk x).hp)
    (h : ∀ x, I x → (mk x).rng → (exec E n (.code c :: .inLoop c :: k) (mk x)).holds (fun c' k' s' => (c' = c ∧ k' = k ∧ ∃ x', s' = mk x' ∧ I x' ∧ μ x' < μ x) ∨ Reach E fn y (.code c' :: .inLoop c' :: k') s') (· = y)) :
    ∀ x, I x → Reach E fn y (.code c :: .inLoop c :: k) (mk x) := by
  have key : ∀ m x, μ x = m → I x → Reach E fn y (.code c :: .inLoop c :: k) (mk x) := by
    intro m
    induction m using Nat.strongRecOn with
    | _ m ih =>
      intro x hm hI w0 S0 S ι a w hS0 hrs
      have hx := h x hI (hrs.rng (hu x).1 (hu x).2)
      refine exec_sound hE hf (hx.mono ?_) w0 S0 S ι a w hS0 hrs
      rintro c' k' s' (⟨rfl, rfl, x', rfl, h1, h2⟩ | h1)
      · exact ih (μ x') (hm ▸ h2) x' rfl h1
      · exact h1
  exact fun x hI => key (μ x) x rfl hI

/-! ### contracts from walks -/
theorem args_rep : ∀ {ks : List PK} {vs : List Value} {x : DK ks} {i : Nat} {t : Nat} {v : AV}, KsRep H S ks vs x → look t (argsFr ks x i) = some v → i ≤ t ∧ ∃ val, vs[t - i]? = some val ∧ VX H S ι hp v [val]
  | [], vs, x, i, t, v, _, h => by cases h
  | k :: ks, vs, x, i, t, v, ⟨v1, us, e, h1, h2⟩, h => by
    have hd : ∃ v0, argsFr (k :: ks) x i = (i, v0) :: argsFr ks x.2 (i + 1) ∧ VX H S ι hp v0 [v1] := by
      cases k with
      | v t => obtain ⟨cs, e1, hR⟩ := h1; exact ⟨_, rfl, cs, by rw [e1], hR⟩
      | rd t => obtain ⟨b, off, e1, k1, k2, k3⟩ := h1; exact ⟨_, rfl, b, off, by rw [e1], k1, k2, k3⟩
      | clo f ts =>
        obtain ⟨ws, e1, hl⟩ := h1
        refine ⟨_, rfl, ws, by rw [e1], ?_⟩
        have : ∀ {ts : List Ty} {ws : List Value} {y : DL ts}, RdL H S ts ws y → VX H S ι hp (argsFr.rdA ts y) ws := by
          intro ts
          induction ts with
          | nil => intro ws y h; exact h
          | cons t ts ih =>
            rintro ws y ⟨v, us, e, ⟨b, off, e1, k1, k2, k3⟩, hl⟩
            exact ⟨v, us, e, ⟨b, off, by rw [e1], k1, k2, k3⟩, ih hl⟩
        exact this hl
    obtain ⟨v0, e0, hv0⟩ := hd
    rw [e0] at h
    simp only [look] at h
    cases hb : Nat.beq t i with
    | true =>
      rw [hb] at h
      have := Nat.eq_of_beq_eq_true hb
      subst this
      cases h
      exact ⟨Nat.le_refl _, v1, by rw [e]; simp, hv0⟩
    | false =>
      rw [hb] at h
      obtain ⟨k1, val, k2, k3⟩ := args_rep h2 h
      refine ⟨by omega, val, ?_, k3⟩
      rw [e, show t - i = (t - (i + 1)) + 1 from by omega]
      simpa using k2

theorem ks_rng : ∀ {ks : List PK} {vs : List Value} {x : DK ks}, KsRep H S ks vs x → ksRng ks x
  | [], _, _, _ => trivial
  | k :: ks, vs, x, ⟨v1, us, e, h1, h2⟩ => by
    refine ⟨?_, ks_rng h2⟩
    cases k with
    | v t => obtain ⟨cs, e1, hR⟩ := h1; exact hR.rng
    | rd t => obtain ⟨b, off, e1, k1, k2, k3⟩ := h1; exact k3.rng
    | clo f ts =>
      obtain ⟨ws, e1, hl⟩ := h1
      have : ∀ {ts : List Ty} {ws : List Value} {y : DL ts}, RdL H S ts ws y → PK.rng.rdRng ts y := by
        intro ts
        induction ts with
        | nil => intro ws y h; trivial
        | cons t ts ih =>
          rintro ws y ⟨v, us, e, ⟨b, off, e1, k1, k2, k3⟩, hl⟩
          exact ⟨k3.rng, ih hl⟩
      exact this hl

theorem ks_len : ∀ {ks : List PK} {vs : List Value} {x : DK ks}, KsRep H S ks vs x → vs.length = ks.length
  | [], _, _, h => by rw [show _ = [] from h]; rfl
  | k :: ks, vs, x, ⟨v1, us, e, _, h2⟩ => by rw [e]; simp [ks_len h2]

/-- **a function's contract, from the evaluator's tree** -/
theorem Ctr.valid_of (hE : EnvOk E) {f : FuncId} {fn : Func} {c : Code} {ct : Ctr} (hrs : ct.rs = E.rs) (hf : E.P.funcs[f]? = some fn) (hb : fn.body = some c) (hname : (fn.name == "runtime.NumGoroutine") = false) (hF : FnOk E fn) (hlen : ct.ps.length ≤ fn.ntmps)
    (h : ∀ x, ct.pre x → ksRng ct.ps x → Reach E fn (hrs ▸ ct.fn x) [.code c] (initSt ct.ps x)) : ct.Valid E.P f := by
  refine ⟨⟨fn, hf, hname, by rw [hb]; rfl⟩, ?_⟩
  intro w S vs x hS hpre hK
  refine calls_of_at hf hb ?_
  obtain ⟨ps, rs, pre, fn'⟩ := ct
  simp only at hrs
  subst hrs
  refine h x hpre (ks_rng hK) w S S ⟨fun _ => (0, 0), fun _ => [], fun _ => []⟩ _ w hS ?_
  have hl := ks_len hK
  refine ⟨⟨rfl, rfl, rfl, Nat.le_refl _, fun _ _ _ => rfl, hS, fun _ h => h, fun b hb => .inl hb, ?_, ?_, ?_⟩, rfl, ?_, ?_⟩
  · intro i e hi; cases hi
  · intro i e hi; cases hi
  · intro i j ei ej hi; cases hi
  · simp only [Array.size_append, List.size_toArray, Array.size_replicate, Base.of]
    have h1 : ps.length ≤ fn.ntmps := hlen
    have h2 : vs.length = ps.length := hl
    omega
  · intro t v hv
    obtain ⟨_, val, k2, k3⟩ := args_rep (ι := ⟨fun _ => (0, 0), fun _ => [], fun _ => []⟩) (hp := []) hK hv
    simp only [Nat.sub_zero] at k2
    have : (vs.toArray ++ Array.replicate (fn.ntmps - vs.toArray.size) undef).getD t undef = val := by
      have hlt := (List.getElem?_eq_some_iff.1 k2).1
      simp only [Array.getD_eq_getD_getElem?]
      rw [Array.getElem?_append_left (by simpa using hlt)]
      simp [k2]
    rw [this]
    exact k3

end
end Go.Ex
