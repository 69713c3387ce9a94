import Derived.Test.YtibpibbnnogdkaaExQ
namespace Go.Ex

section
variable {E : Env} {B : Base} {S S' : Nat → Prop} {ι : Ix} {s : St} {a : Act} {w : World} {hp : List (Nat × Ent)} {H H' : Array Go.Obj}

theorem VX.has {v : AV} {i : Nat} : ∀ {vs : List Value}, VX H S ι hp v vs → v.ment i = true → ∃ e, look i hp = some e := by
  induction v with
  | cons a b iha ihb =>
    rintro vs ⟨v, us, _, ha, hb⟩ hm
    simp only [AV.ment, Bool.or_eq_true] at hm
    exact hm.elim (iha ha) (ihb hb)
  | tup l ih => rintro vs ⟨us, _, h⟩ hm; exact ih h hm
  | clo f l ih => rintro vs ⟨us, _, h⟩ hm; exact ih h hm
  | ptr j p => rintro vs ⟨e, _, _, h1, _⟩ hm; have := Nat.eq_of_beq_eq_true hm; subst this; exact ⟨e, h1⟩
  | at_ j p => rintro vs ⟨e, _, _, _, h1, _⟩ hm; have := Nat.eq_of_beq_eq_true hm; subst this; exact ⟨e, h1⟩
  | sub j p a b => rintro vs ⟨e, _, h1, _⟩ hm; have := Nat.eq_of_beq_eq_true hm; subst this; exact ⟨e, h1⟩
  | _ => intro vs _ hm; cases hm

/-- what a function finds where it begins -/
structure Begins (B : Base) (S : Nat → Prop) (w : World) (ks : List PK) (vs : List Value) (x : DK ks) (L : List Nat) (i : Nat) (ι : Ix) : Prop where
  hs : HS B S ι (argsHp ks x i) w
  fr : ∀ t v, look t (argsFr ks x i) = some v → i ≤ t ∧ ∃ val, vs[t - i]? = some val ∧ VX w.heap S ι (argsHp ks x i) v [val]
  pins : ∀ q ∈ pinsOf ks vs i, pinned q.1 = true ∧ (∃ e, look q.1 (argsHp ks x i) = some e) ∧ ι.root q.1 = q.2.1 ∧ ι.cells q.1 = q.2.2
  keys : ∀ k e, look k (argsHp ks x i) = some e → ∃ m, i ≤ m ∧ m < 1000 ∧ (k = 1500000 + m ∨ k = 2000000 + m)
  own : ∀ k e, look k (argsHp ks x i) = some e → ∀ b ∈ blks ι k e, b ∈ L
  rest : ∀ k, look k (argsHp ks x i) = none → ι.root k = (0, 0) ∧ ι.cells k = []

theorem begins (hB : B.pins = []) (hw : B.w0 = w) (hS0 : B.S0 = S) (hS : ∀ b, S b → b < w.heap.size) : ∀ {ks : List PK} {vs : List Value} {x : DK ks} {L : List Nat} {i : Nat}, KsRep w.heap S ks vs x L → L.Nodup → (∀ b ∈ L, ¬ S b ∧ B.M b ∧ b < w.heap.size) → i + ks.length ≤ 1000 → ∃ ι, Begins B S w ks vs x L i ι
  | [], vs, x, L, i, hK, _, _, _ => by
    refine ⟨⟨fun _ => (0, 0), fun _ => [], fun _ => []⟩, ⟨?_, ?_, ?_, ?_, ?_, fun k _ => ⟨rfl, rfl⟩⟩⟩
    · subst hw
      subst hS0
      refine ⟨rfl, rfl, rfl, Nat.le_refl _, fun _ _ _ => rfl, hS, fun _ h => h, fun b hb => .inl hb, ?_, ?_, ?_, ?_⟩
      · intro i e hi; cases hi
      · intro i e hi; cases hi
      · intro i j ei ej hi; cases hi
      · intro q hq; rw [hB] at hq; cases hq
    · intro t v h; cases h
    · intro q hq; simp [pinsOf] at hq
    · intro k e h; cases h
    · intro k e h; cases h
  | k :: ks, vs, x, L, i, ⟨v, us, L1, L2, e1, e2, hk, hK⟩, hn, hL, hi => by
    subst e1 e2
    have hnL := List.nodup_append.1 hn
    obtain ⟨ι, hb⟩ := begins (i := i + 1) hB hw hS0 hS hK hnL.2.1 (fun b hb => hL b (by simp [hb])) (by simp only [List.length_cons] at hi; omega)
    simp only [List.length_cons] at hi
    -- a parameter that is read alone
    have plain : ∀ {v0 : AV}, argsFr (k :: ks) x i = (i, v0) :: argsFr ks x.2 (i + 1) → argsHp (k :: ks) x i = argsHp ks x.2 (i + 1) → pinsOf (k :: ks) (v :: us) i = pinsOf ks us (i + 1) → VX w.heap S ι (argsHp ks x.2 (i + 1)) v0 [v] → ∃ ι, Begins B S w (k :: ks) (v :: us) x (L1 ++ L2) i ι := by
      intro v0 h1 h2 h3 h4
      refine ⟨ι, by rw [h2]; exact hb.hs, ?_, by rw [h3, h2]; exact hb.pins, ?_, ?_, by rw [h2]; exact hb.rest⟩
      · intro t u hu
        rw [h1] at hu
        simp only [look] at hu
        rw [h2]
        cases hbq : Nat.beq t i with
        | true =>
          rw [hbq] at hu
          have := Nat.eq_of_beq_eq_true hbq
          subst this
          cases hu
          exact ⟨Nat.le_refl _, v, by simp, h4⟩
        | false =>
          rw [hbq] at hu
          obtain ⟨k1, val, k2, k3⟩ := hb.fr t u hu
          refine ⟨by omega, val, ?_, k3⟩
          rw [show t - i = (t - (i + 1)) + 1 from by omega]
          simpa using k2
      · intro q e hq
        rw [h2] at hq
        obtain ⟨m, m1, m2, m3⟩ := hb.keys q e hq
        exact ⟨m, by omega, m2, m3⟩
      · intro q e hq b hbb
        rw [h2] at hq
        exact List.mem_append_right _ (hb.own q e hq b hbb)
    -- a parameter with an object
    have obj : ∀ {v0 : AV} {d : Nat} {e : Ent} {ι' : Ix}, argsFr (k :: ks) x i = (i, v0) :: argsFr ks x.2 (i + 1) → argsHp (k :: ks) x i = Ex.put d e (argsHp ks x.2 (i + 1)) → (d = 1500000 + i ∨ d = 2000000 + i) →
        (∀ q ∈ pinsOf (k :: ks) (v :: us) i, q ∈ pinsOf ks us (i + 1) ∨ (pinned q.1 = true ∧ q.1 = d ∧ ι'.root d = q.2.1 ∧ ι'.cells d = q.2.2)) → (∀ j, j ≠ d → SameAt ι ι' j) → OB w.heap S ι' d e → (∀ b ∈ blks ι' d e, b ∈ L1) →
        VX w.heap S ι' (Ex.put d e (argsHp ks x.2 (i + 1))) v0 [v] → ∃ ι, Begins B S w (k :: ks) (v :: us) x (L1 ++ L2) i ι := by
      intro v0 d e ι' h1 h2 hd h3 hs hob hbl h4
      have hnone : look d (argsHp ks x.2 (i + 1)) = none := by
        cases hlk : look d (argsHp ks x.2 (i + 1)) with
        | none => rfl
        | some e' => exfalso; obtain ⟨m, m1, m2, m3⟩ := hb.keys d e' hlk; omega
      have hF : Flt B S ι (argsHp ks x.2 (i + 1)) w L1 := by
        refine ⟨hnL.1, fun b hbb => ?_⟩
        obtain ⟨l1, l2, l3⟩ := hL b (by simp [hbb])
        exact ⟨l1, .inr l2, l3, fun j ej hj hbj => hnL.2.2 b hbb b (hb.own j ej hj b hbj) rfl⟩
      have hns : ∀ {u : AV} {us' : List Value}, VX w.heap S ι (argsHp ks x.2 (i + 1)) u us' → u.ment d = false := by
        intro u us' hu
        cases hm : u.ment d with
        | false => rfl
        | true => obtain ⟨e', he'⟩ := hu.has hm; rw [hnone] at he'; cases he'
      refine ⟨ι', by rw [h2]; exact hb.hs.add hnone hs hob hbl hF, ?_, ?_, ?_, ?_, ?_⟩
      · intro t u hu
        rw [h1] at hu
        simp only [look] at hu
        rw [h2]
        cases hbq : Nat.beq t i with
        | true =>
          rw [hbq] at hu
          have := Nat.eq_of_beq_eq_true hbq
          subst this
          cases hu
          exact ⟨Nat.le_refl _, v, by simp, h4⟩
        | false =>
          rw [hbq] at hu
          obtain ⟨k1, val, k2, k3⟩ := hb.fr t u hu
          refine ⟨by omega, val, ?_, VX.add hs (hns k3) k3⟩
          rw [show t - i = (t - (i + 1)) + 1 from by omega]
          simpa using k2
      · intro q hq
        rw [h2]
        rcases h3 q hq with hq | ⟨q1, q2, q3, q4⟩
        · obtain ⟨r1, ⟨e', r2⟩, r3, r4⟩ := hb.pins q hq
          have hne : q.1 ≠ d := by intro hqd; rw [hqd, hnone] at r2; cases r2
          obtain ⟨s1, s2, s3⟩ := hs q.1 hne
          exact ⟨r1, ⟨e', by rw [look_put, if_neg hne]; exact r2⟩, s1.trans r3, s2.trans r4⟩
        · exact ⟨q1, ⟨e, by rw [look_put, if_pos q2]⟩, by rw [q2]; exact q3, by rw [q2]; exact q4⟩
      · intro q e' hq
        rw [h2, look_put] at hq
        split at hq
        · rename_i hqd; exact ⟨i, Nat.le_refl _, by omega, by omega⟩
        · obtain ⟨m, m1, m2, m3⟩ := hb.keys q e' hq
          exact ⟨m, by omega, m2, m3⟩
      · intro q e' hq b hbb
        rw [h2, look_put] at hq
        split at hq
        · rename_i hqd; subst hqd; cases hq; exact List.mem_append_left _ (hbl b hbb)
        · rename_i hqd
          rw [(hs q hqd).blks] at hbb
          exact List.mem_append_right _ (hb.own q e' hq b hbb)
      · intro q hq
        rw [h2, look_put] at hq
        split at hq
        · cases hq
        · rename_i hqd
          obtain ⟨s1, s2, s3⟩ := hs q hqd
          obtain ⟨r1, r2⟩ := hb.rest q hq
          exact ⟨s1.trans r1, s2.trans r2⟩
    have hrest : ∀ d, d = 1500000 + i ∨ d = 2000000 + i → ι.root d = (0, 0) ∧ ι.cells d = [] := by
      intro d hd
      refine hb.rest d ?_
      cases hlk : look d (argsHp ks x.2 (i + 1)) with
      | none => rfl
      | some e' => exfalso; obtain ⟨m, m1, m2, m3⟩ := hb.keys d e' hlk; omega
    cases k with
    | v t => obtain ⟨_, cs, e1, hR⟩ := hk; exact plain rfl rfl rfl ⟨cs, by rw [e1], hR⟩
    | rd t => obtain ⟨_, b, off, e1, k1, k2, k3⟩ := hk; exact plain rfl rfl rfl ⟨b, off, by rw [e1], k1, k2, k3⟩
    | clo f ts =>
      obtain ⟨_, ws, e1, hl⟩ := hk
      refine plain rfl rfl rfl ⟨ws, by rw [e1], ?_⟩
      have : ∀ {ts : List Ty} {ws : List Value} {y : DL ts}, RdL w.heap S ts ws y → VX w.heap S ι (argsHp ks x.2 (i + 1)) (argsFr.rdA ts y) ws := by
        intro ts
        induction ts with
        | nil => intro ws y h; exact h
        | cons t ts ih =>
          rintro ws y ⟨v, us, e, ⟨b, off, e1, k1, k2, k3⟩, hl⟩
          exact ⟨v, us, e, ⟨b, off, by rw [e1], k1, k2, k3⟩, ih hl⟩
      exact this hl
    | own t =>
      obtain ⟨cs, rfl, hR⟩ := hk
      refine obj (d := 1500000 + i) (e := .own t x.1) (ι' := ι.setO (1500000 + i) cs L1) rfl rfl (.inl rfl) (fun q hq => .inl hq) (fun j hj => sameAt_setO hj _ _) ⟨⟨L1, by simp [Ix.setO], by simpa [Ix.setO] using hR⟩, by simpa [Ix.setO] using hnL.1⟩ ?_ (at_new hR.length)
      intro b hb; simpa [blks, Ix.setO] using hb
    | rw t =>
      obtain ⟨b, off, O, rfl, hR, hf, rfl⟩ := hk
      refine obj (d := 2000000 + i) (e := .var t x.1) (ι' := ι.setV (2000000 + i) (b, off) O) rfl rfl (.inr rfl) ?_ (fun j hj => sameAt_setV hj _ _) ⟨⟨O, by simp [Ix.setV], by simpa [Ix.setV] using hR⟩, by simpa [Ix.setV] using hf, by simpa [Ix.setV] using hnL.1⟩ ?_
        (ptr_new (s := ⟨[], argsHp ks x.2 (i + 1)⟩) (r := (b, off)) (o := O) hf.lt)
      · intro q hq
        simp only [pinsOf, List.mem_cons] at hq
        rcases hq with rfl | hq
        · exact .inr ⟨by simp only [pinned, Nat.ble_eq]; omega, rfl, by simp [Ix.setV], by simpa [Ix.setV] using (hrest (2000000 + i) (.inr rfl)).2⟩
        · exact .inl hq
      · intro c hc; simpa [blks, Ix.setV] using hc
    | mu t =>
      obtain ⟨cs, rfl, hR⟩ := hk
      have hcs : cs = [toV (.slc true t) cs] := by
        have := hR.length
        match cs, this with
        | [c], _ => rfl
      refine obj (d := 2000000 + i) (e := .own (.slc true t) x.1) (ι' := ι.setO (2000000 + i) cs L1) rfl rfl (.inr rfl) ?_ (fun j hj => sameAt_setO hj _ _) ⟨⟨L1, by simp [Ix.setO], by simpa [Ix.setO] using hR⟩, by simpa [Ix.setO] using hnL.1⟩ ?_ (at_new hR.length)
      · intro q hq
        simp only [pinsOf, List.mem_cons] at hq
        rcases hq with rfl | hq
        · exact .inr ⟨by simp only [pinned, Nat.ble_eq]; omega, rfl, by simpa [Ix.setO] using (hrest (2000000 + i) (.inr rfl)).1, by simpa [Ix.setO] using hcs⟩
        · exact .inl hq
      · intro b hb; simpa [blks, Ix.setO] using hb

theorem ks_rng : ∀ {ks : List PK} {vs : List Value} {x : DK ks} {L : List Nat}, KsRep H S ks vs x L → ksRng ks x
  | [], _, _, _, _ => trivial
  | k :: ks, vs, x, L, ⟨v1, us, L1, L2, e, _, h1, h2⟩ => by
    refine ⟨?_, ks_rng h2⟩
    cases k with
    | v t => obtain ⟨_, cs, e1, hR⟩ := h1; exact hR.rng
    | rd t => obtain ⟨_, b, off, e1, k1, k2, k3⟩ := h1; exact k3.rng
    | own t => obtain ⟨cs, e1, hR⟩ := h1; exact hR.rng
    | rw t => obtain ⟨b, off, O, e1, hR, _⟩ := h1; exact hR.rng
    | mu t => obtain ⟨cs, e1, hR⟩ := h1; exact hR.rng
    | clo f ts =>
      obtain ⟨_, ws, e1, hl⟩ := h1
      have : ∀ {ts : List Ty} {ws : List Value} {y : DL ts}, RdL H S ts ws y → PK.rng.rdRng ts y := by
        intro ts
        induction ts with
        | nil => intro ws y h; trivial
        | cons t ts ih =>
          rintro ws y ⟨v, us, e, ⟨b, off, e1, k1, k2, k3⟩, hl⟩
          exact ⟨k3.rng, ih hl⟩
      exact this hl

theorem ks_len : ∀ {ks : List PK} {vs : List Value} {x : DK ks} {L : List Nat}, KsRep H S ks vs x L → vs.length = ks.length
  | [], _, _, _, h => by rw [h.1]; rfl
  | k :: ks, vs, x, L, ⟨v1, us, L1, L2, e, _, _, h2⟩ => by rw [e]; simp [ks_len h2]

/-- **a function's contract, from the evaluator's tree** -/
theorem Ctr.valid_of (hE : EnvOk E) {f : FuncId} {fn : Func} {c : Code} {rs : List Ty} {ps : List PK} {pre : DK ps → Prop} {fn' : DK ps → DL rs} {out : DK ps → DL (wts ps)} (hrs : E.rs = rs) (hps : E.ps = ps) (hf : E.P.funcs[f]? = some fn) (hb : fn.body = some c) (hname : (fn.name == "runtime.NumGoroutine") = false) (hF : FnOk E fn)
    (hlen : (Nat.ble ps.length fn.ntmps && Nat.ble ps.length 1000) = true)
    (h : ∀ x : DK ps, pre x → ksRng ps x → Reach E fn (hrs ▸ fn' x) (hps ▸ out x) [.code c] (initSt ps x)) : (Ctr.mk ps rs pre fn' out).Valid E.P f := by
  subst hrs
  subst hps
  simp only [Bool.and_eq_true, Nat.ble_eq] at hlen
  refine ⟨⟨fn, hf, hname, by rw [hb]; rfl⟩, ?_⟩
  intro w S vs x L hS hpre hK hLn hLb
  refine calls_of_at hf hb ?_
  obtain ⟨ι, hbg⟩ := begins (B := ⟨w, S, fun b => b ∈ L, fn.ntmps, []⟩) (i := 0) rfl rfl rfl hS hK hLn (fun b hb => ⟨(hLb b hb).1, hb, (hLb b hb).2⟩) (by show 0 + E.ps.length ≤ 1000; omega)
  refine h x hpre (ks_rng hK) w S vs x L S ι _ w hS hK ?_
  have hl : vs.length = E.ps.length := ks_len hK
  have hs := hbg.hs
  refine ⟨⟨hs.os, hs.tape, hs.out, hs.size, hs.frame, hs.slt, hs.s0, hs.s1, hs.ob, hs.bl, hs.dj, fun q hq => hbg.pins q hq⟩, rfl, ?_, ?_⟩
  · simp only [Array.size_append, List.size_toArray, Array.size_replicate, Base.of]
    omega
  · intro t v hv
    obtain ⟨_, val, k2, k3⟩ := hbg.fr t v hv
    simp only [Nat.sub_zero] at k2
    have : (vs.toArray ++ Array.replicate (fn.ntmps - vs.toArray.size) undef).getD t undef = val := by
      have hlt := (List.getElem?_eq_some_iff.1 k2).1
      simp only [Array.getD_eq_getD_getElem?]
      rw [Array.getElem?_append_left (by simpa using hlt)]
      simp [k2]
    rw [this]
    exact k3

end
end Go.Ex
