import Derived.Test.YtibpibbnnogdkaaExP
namespace Go.Ex

/-! ### ranges: what every reading keeps -/
def rngL {α : Type} (p : α → Prop) (l : List α) : Prop := ∀ x ∈ l, p x

def rng : (t : Ty) → t.den → Prop
  | .int k, n => inK k n
  | .bool, _ => True
  | .str, s => List.length s ≤ maxLen
  | .unit, _ => True
  | .pair a b, x => rng a x.1 ∧ rng b x.2
  | .arr n t, l => List.length l = n ∧ rngL (rng t) l
  | .slc _ t, l => List.length l ≤ maxLen ∧ rngL (rng t) l

def AV.rng : AV → Prop
  | .val t x => Ex.rng t x
  | .rptr t x => Ex.rng t x
  | _ => True

def frRng : List (Nat × AV) → Prop
  | [] => True
  | (_, v) :: l => v.rng ∧ frRng l

def hpRng : List (Nat × Ent) → Prop
  | [] => True
  | (_, .var t x) :: l => Ex.rng t x ∧ hpRng l
  | (_, .own t x) :: l => Ex.rng t x ∧ hpRng l
  | (_, .bag) :: l => hpRng l

def St.rng (s : St) : Prop := frRng s.fr ∧ hpRng s.hp

def PK.rng : (k : PK) → k.den → Prop
  | .v t, x => Ex.rng t x
  | .rd t, x => Ex.rng t x
  | .clo _ ts, x => rdRng ts x
  | .own t, x => Ex.rng t x
  | .rw t, x => Ex.rng t x
  | .mu t, x => Ex.rng (.slc true t) x
where rdRng : (ts : List Ty) → DL ts → Prop
  | [], _ => True
  | t :: ts, x => Ex.rng t x.1 ∧ rdRng ts x.2

def ksRng : (ks : List PK) → DK ks → Prop
  | [], _ => True
  | k :: ks, x => k.rng x.1 ∧ ksRng ks x.2

section
variable {E : Env} {B : Base} {S S' : Nat → Prop} {ι : Ix} {s : St} {a : Act} {w : World} {hp : List (Nat × Ent)} {H H' : Array Go.Obj}

theorem RepL.rng {t : Ty} (hr : ∀ {O : List Nat} {cs : List Value} {x : t.den}, Rep H S t O cs x → Ex.rng t x) : ∀ {l : List t.den} {O : List Nat} {cs : List Value}, RepL (Rep H S t) t.size O cs l → rngL (Ex.rng t) l
  | [], _, _, _ => by intro x hx; cases hx
  | x :: l, _, _, ⟨O1, O2, _, h1, h2⟩ => by
    intro y hy
    rcases List.mem_cons.1 hy with rfl | hy
    · exact hr h1
    · exact RepL.rng hr h2 y hy

theorem Rep.rng : ∀ {t : Ty} {O : List Nat} {cs : List Value} {x : t.den}, Rep H S t O cs x → Ex.rng t x := by
  intro t
  induction t with
  | int k => intro O cs x h; exact h.2.2
  | bool => intro O cs x h; trivial
  | str => intro O cs x h; exact h.2.2
  | unit => intro O cs x h; trivial
  | pair a c iha ihc => rintro O cs x ⟨O1, O2, _, h1, h2⟩; exact ⟨iha h1, ihc h2⟩
  | arr n t ih => rintro O cs x ⟨h1, h2⟩; exact ⟨h1, RepL.rng (fun h => ih h) h2⟩
  | slc o t ih =>
    rintro O cs x h
    rcases h with ⟨_, _, h3⟩ | ⟨b, off, cap, O', c1, c2, c3, c4, c5, c6⟩
    · subst h3; exact ⟨Nat.zero_le _, by intro x hx; cases hx⟩
    · exact ⟨Nat.le_trans c2 c3.1, RepL.rng (fun h => ih h) c5⟩

theorem VX.rng {v : AV} {vs : List Value} (h : VX H S ι hp v vs) : v.rng := by
  cases v <;> try trivial
  · obtain ⟨cs, _, h⟩ := h; exact h.rng
  · obtain ⟨b, off, _, _, _, h⟩ := h; exact h.rng

theorem RS.rng (h : RS B S ι s a w) (h1 : uniq s.fr) (h2 : uniq s.hp) : s.rng := by
  have look_tail : ∀ {α : Type} {n m : Nat} {x : α} {l : List (Nat × α)} {y : α}, look m l = none → look n l = some y → look n ((m, x) :: l) = some y := by
    intro α n m x l y h1 h2
    simp only [look]
    cases hb : Nat.beq n m with
    | true =>
      have := Nat.eq_of_beq_eq_true hb
      subst this
      rw [h1] at h2; cases h2
    | false => exact h2
  have fr : ∀ l : List (Nat × AV), uniq l → (∀ t v, look t l = some v → v.rng) → frRng l := by
    intro l
    induction l with
    | nil => intro _ _; trivial
    | cons q l ih =>
      obtain ⟨n, v⟩ := q
      rintro ⟨k0, k2⟩ k3
      have k1 := uniq_look k0
      exact ⟨k3 n v (by simp [look]), ih k2 (fun t v hv => k3 t v (look_tail k1 hv))⟩
  have hpp : ∀ l : List (Nat × Ent), uniq l → (∀ t e, look t l = some e → Ex.rng e.ty e.x) → hpRng l := by
    intro l
    induction l with
    | nil => intro _ _; trivial
    | cons q l ih =>
      obtain ⟨n, e⟩ := q
      rintro ⟨k0, k2⟩ k3
      have k1 := uniq_look k0
      have h0 := k3 n e (by simp [look])
      have h3 := ih k2 (fun t e he => k3 t e (look_tail k1 he))
      cases e <;> first | exact ⟨h0, h3⟩ | exact h3
  refine ⟨fr _ h1 (fun t v hv => (h.fr t v hv).rng), hpp _ h2 (fun i e he => ?_)⟩
  have := h.hs.ob i e he
  cases e with
  | var t x => obtain ⟨⟨O, _, hR⟩, _⟩ := this; exact hR.rng
  | own t x => obtain ⟨⟨O, _, hR⟩, _⟩ := this; exact hR.rng
  | bag => trivial

/-! ### the evaluator is sound -/
def Base.of (w : World) (S : Nat → Prop) (ps : List PK) (vs : List Value) (L : List Nat) (n : Nat) : Base := ⟨w, S, fun b => b ∈ L, n, pinsOf ps vs 0⟩

/-- from this place and this state the function comes to its end with the results y, having written z, whatever the world -/
def Reach (E : Env) (fn : Func) (y : DL E.rs) (z : DL (wts E.ps)) (k : List Item) (s : St) : Prop :=
  ∀ (w0 : World) (S0 : Nat → Prop) (vs : List Value) (x : DK E.ps) (L : List Nat) (S : Nat → Prop) (ι : Ix) (a : Act) (w : World), (∀ b, S0 b → b < w0.heap.size) → KsRep w0.heap S0 E.ps vs x L →
    RS (Base.of w0 S0 E.ps vs L fn.ntmps) S ι s a w → At E.P fn (ResOk w0 S0 E.rs E.ps vs L y z) k a w

structure FnOk (E : Env) (fn : Func) : Prop where
  nt : fn.ntmps = E.nt
  res : fn.results.toList = E.res

theorem app_inj : ∀ {a b : List Ty} {x x' : DL a} {y y' : DL b}, DL.app x y = DL.app x' y' → x = x' ∧ y = y'
  | [], _, _, _, _, _, h => ⟨rfl, h⟩
  | _ :: _, _, x, x', _, _, h => by
    have h1 := congrArg Prod.fst h
    have h2 := congrArg Prod.snd h
    obtain ⟨h3, h4⟩ := app_inj h2
    exact ⟨Prod.ext h1 h3, h4⟩

theorem finish_sound (hE : EnvOk E) {fn : Func} (hf : FnOk E fn) {y : DL E.rs} {z : DL (wts E.ps)} {L' : Code → List Item → St → Prop} (ht : (finish E s).holds L' (· = DL.app y z)) {w0 : World} {S0 : Nat → Prop} {vs : List Value} {x : DK E.ps} {L : List Nat} (hK : KsRep w0.heap S0 E.ps vs x L)
    (h : RS (Base.of w0 S0 E.ps vs L fn.ntmps) S ι s a w) (e : Exit) (he : e = .normal ∨ e = .ret) :
    bodyPost E.P fn (ResOk w0 S0 E.rs E.ps vs L y z) e a w := by
  unfold finish at ht
  split at ht
  · exact ht.elim
  · rename_i l hl
    split at ht
    · rename_i y' z' hy hz
      have ht : DL.app y' z' = DL.app y z := ht
      obtain ⟨rfl, rfl⟩ := app_inj ht
      obtain ⟨us, h1, h2⟩ := results_run hE h hf.res hl
      obtain ⟨O, k1, k2, k3⟩ := retA_sound h.hs hy h2
      obtain ⟨Lo, m1, m2, m3⟩ := outA_sound h.hs hK (fun q hq => hq) hz
      have hR : ResOk w0 S0 E.rs E.ps vs L y' z' (.returned (retV us)) w := by
        refine ⟨us, O, Lo, S, rfl, ⟨h.hs.os, h.hs.tape, h.hs.out, h.hs.size, fun c hc hL => h.hs.frame c hc hL⟩, h.hs.s0, fun b hb => ?_, k1, m1, List.nodup_append.2 ⟨k2, m2, ?_⟩, fun b hb => ?_⟩
        · rcases h.hs.s1 b hb with h1 | h1
          · exact .inl h1
          · exact .inr ⟨h1, h.hs.slt b hb⟩
        · rintro c hc d hd rfl
          obtain ⟨i, e, i0, ip, i1, i2⟩ := k3 c hc
          obtain ⟨j, e', j0, j1, j2⟩ := m3 c hd
          refine h.hs.dj i j e e' i1 j1 ?_ c i2 j2
          rintro rfl
          have : pinned i = true := by simp only [pinned, Nat.ble_eq]; omega
          rw [ip] at this; cases this
        · have : ∃ i e, look i s.hp = some e ∧ b ∈ blks ι i e := by
            rcases List.mem_append.1 hb with hb | hb
            · obtain ⟨i, e, _, _, n2, n3⟩ := k3 b hb; exact ⟨i, e, n2, n3⟩
            · obtain ⟨i, e, _, n2, n3⟩ := m3 b hb; exact ⟨i, e, n2, n3⟩
          obtain ⟨i, e, n2, n3⟩ := this
          exact h.hs.bl i e n2 b n3
      rcases he with rfl | rfl
      · exact ⟨h.dfr, _, h1, hR⟩
      · exact ⟨h.dfr, _, h1, hR⟩
    · exact ht.elim

theorem holds_cond {rs : List Ty} {L : Code → List Item → St → Prop} {R : DL rs → Prop} {b : Bool} {t e : Tree rs} : (cond b t e).holds L R ↔ (b = true → t.holds L R) ∧ (b = false → e.holds L R) := by
  cases b <;> simp

theorem exec_sound (hE : EnvOk E) {fn : Func} (hf : FnOk E fn) {y : DL E.rs} {z : DL (wts E.ps)} : ∀ {n : Nat} {k : List Item} {s : St}, (exec E n k s).holds (fun c k s => Reach E fn y z (.code c :: .inLoop c :: k) s) (· = DL.app y z) → Reach E fn y z k s
  | 0, k, s, ht => ht.elim
  | n + 1, k, s, ht => by
    intro w0 S0 vs x L S ι a w hS0 hK h
    unfold exec at ht
    split at ht
    · exact At.done (finish_sound hE hf ht hK h _ (.inl rfl))
    · refine At.step (fun b cs => step_inBlock) ?_
      exact exec_sound hE hf ht w0 S0 vs x L S ι a w hS0 hK h
    · rename_i c k'
      refine At.step (fun b cs => step_inLoop) ?_
      obtain ⟨ι', h'⟩ := h.canon ((look (firstRegion c) E.cuts).getD [])
      exact ht w0 S0 vs x L S ι' a w hS0 hK h'
    · rename_i c k'
      split at ht
      · exact At.step (fun b cs => step_skip) (exec_sound hE hf ht w0 S0 vs x L S ι a w hS0 hK h)
      · exact At.step (fun b cs => step_seq) (exec_sound hE hf ht w0 S0 vs x L S ι a w hS0 hK h)
      · rename_i xc c1 c2
        split at ht
        · rename_i g hg
          have hgv := VX.bool_inv (evx h hg)
          refine At.step (fun b cs => step_cond hgv) ?_
          cases g with
          | true => exact exec_sound hE hf ht w0 S0 vs x L S ι a w hS0 hK h
          | false => exact exec_sound hE hf ht w0 S0 vs x L S ι a w hS0 hK h
        · exact ht.elim
      · exact At.step (fun b cs => step_block) (exec_sound hE hf ht w0 S0 vs x L S ι a w hS0 hK h)
      · rename_i c'
        obtain ⟨ι', h'⟩ := h.canon ((look (firstRegion c') E.cuts).getD [])
        exact At.step (fun b cs => step_loop) (ht w0 S0 vs x L S ι' a w hS0 hK h')
      · split at ht
        · rename_i k2 hx
          exact At.step (fun b cs => step_exit hx) (exec_sound hE hf ht w0 S0 vs x L S ι a w hS0 hK h)
        · exact ht.elim
      · exact At.ret (finish_sound hE hf ht hK h _ (.inr rfl))
      · rename_i id ops draw
        split at ht
        · refine At.region (wp_region_list ?_)
          exact regF_sound hE (by exact hf.nt) (m := 0) (l := ops.toList) (Q := fun e a w => e = .normal ∧ At E.P fn (ResOk w0 S0 E.rs E.ps vs L y z) k' a w) (fun S' ι' s' a' w' h1 h2 => ⟨rfl, exec_sound hE hf h2 w0 S0 vs x L S' ι' a' w' hS0 hK h1⟩) h ht
        · split at ht
          · rename_i hd
            rcases regD_runs (acc' := []) rfl (by simp) ht with ⟨s', h1, h2⟩ | ⟨q, s', _, hA, h1, h2⟩
            · exact At.region (drawn_region hE (by exact hf.nt) hd h1 (fun S' ι' a' w' h3 => ⟨rfl, exec_sound hE hf h2 w0 S0 vs x L S' ι' a' w' hS0 hK h3⟩) h.forgetA)
            · have hany : look q.d (forgetA ops.toList s).fr = some .any := by
                obtain ⟨oa, c, a1, _, a3, _, a5, a6, _⟩ := hA
                exact forgetA_any a5 a6 a3 (by have := Array.mem_of_getElem? a1; simpa using this)
              exact At.region (drawn_pend hE (by exact hf.nt) hd hA h1 h2 hany (fun S' ι' s2 a' w' h3 h4 => ⟨rfl, exec_sound hE hf h4 w0 S0 vs x L S' ι' a' w' hS0 hK h3⟩) h.forgetA)
          · exact ht.elim
      · exact ht.elim
    · exact ht.elim

theorem Tree.holds.mono {rs : List Ty} {L L' : Code → List Item → St → Prop} {R : DL rs → Prop} : ∀ {t : Tree rs}, t.holds L R → (∀ c k s, L c k s → L' c k s) → t.holds L' R
  | .need _ _, h, hl => ⟨h.1, fun hp => (h.2 hp).mono hl⟩
  | .both _ _ _, h, hl => ⟨fun hp => (h.1 hp).mono hl, h.2.mono hl⟩
  | .cut c k s, h, hl => hl c k s h
  | .ret _, h, _ => h
  | .stuck _, h, _ => h

/-- a loop: an invariant over the state's variables, and a measure -/
theorem Reach.loop (hE : EnvOk E) {fn : Func} (hf : FnOk E fn) {y : DL E.rs} {z : DL (wts E.ps)} {c : Code} {k : List Item} {α : Type} (mk : α → St) (I : α → Prop) (μ : α → Nat) (n : Nat) (hu : ∀ x, uniq (mk x).fr ∧ uniq (mk x).hp)
    (h : ∀ x, I x → (mk x).rng → (exec E n (.code c :: .inLoop c :: k) (mk x)).holds (fun c' k' s' => (c' = c ∧ k' = k ∧ ∃ x', s' = mk x' ∧ I x' ∧ μ x' < μ x) ∨ Reach E fn y z (.code c' :: .inLoop c' :: k') s') (· = DL.app y z)) :
    ∀ x, I x → Reach E fn y z (.code c :: .inLoop c :: k) (mk x) := by
  have key : ∀ m x, μ x = m → I x → Reach E fn y z (.code c :: .inLoop c :: k) (mk x) := by
    intro m
    induction m using Nat.strongRecOn with
    | _ m ih =>
      intro x hm hI w0 S0 vs x0 L S ι a w hS0 hK hrs
      have hx := h x hI (hrs.rng (hu x).1 (hu x).2)
      refine exec_sound hE hf (hx.mono ?_) w0 S0 vs x0 L S ι a w hS0 hK hrs
      rintro c' k' s' (⟨rfl, rfl, x', rfl, h1, h2⟩ | h1)
      · exact ih (μ x') (hm ▸ h2) x' rfl h1
      · exact h1
  exact fun x hI => key (μ x) x rfl hI

end
end Go.Ex
