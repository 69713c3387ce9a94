import Derived.Test.YtibpibbnnogdkaaExM3
namespace Go.Ex

section
variable {E : Env} {B : Base} {S S' : Nat → Prop} {ι : Ix} {s : St} {a : Act} {w : World} {hp : List (Nat × Ent)} {H H' : Array Go.Obj}

/-- more may be read: new blocks that belong to no object -/
theorem RS.share (h : RS B S ι s a w) (hS : ∀ b, S b → S' b) (hS' : ∀ b, S' b → S b ∨ (B.w0.heap.size ≤ b ∧ b < w.heap.size ∧ ∀ i e, look i s.hp = some e → b ∉ blks ι i e)) : RS B S' ι s a w := by
  refine ⟨⟨h.hs.os, h.hs.tape, h.hs.out, h.hs.size, h.hs.frame, ?_, fun b hb => hS b (h.hs.s0 b hb), ?_, ?_, ?_, h.hs.dj, h.hs.pin⟩, h.dfr, h.sz, fun t v hv => ?_⟩
  · intro b hb; rcases hS' b hb with h1 | h1; exact h.hs.slt b h1; exact h1.2.1
  · intro b hb; rcases hS' b hb with h1 | h1; exact h.hs.s1 b h1; exact .inr h1.1
  · intro i e hi; exact (h.hs.ob i e hi).stable (fun _ _ => rfl) hS
  · intro i e hi b hb
    obtain ⟨q1, q2, q3⟩ := h.hs.bl i e hi b hb
    exact ⟨fun hs => by rcases hS' b hs with h1 | h1; exact q1 h1; exact h1.2.2 i e hi hb, q2, q3⟩
  · exact VX.grow (fun _ _ => rfl) hS h.hs.slt h.hs.ob (h.fr t v hv)

theorem callA_sound (hE : EnvOk E) (h : RS B S ι s a w) {o : Oper} {c : Call} (ho : o.op = .call c) {f : Operand} (hf : c.callee = .value f) {g : FuncId} {caps : AV} (hg : s.ev f = .clo g caps) :
    ORok E.P B o a w (callA E g ((s.evs c.args.toList).app caps) o.dst s) := by
  obtain ⟨us, he, hcap⟩ := evx h hg
  have he : a.eval f = .func (.func g) #[] us.toArray := by simpa using he
  have hargs := VX.app (evs_lst s _) (h.evs c.args.toList) hcap
  generalize hav : (s.evs c.args.toList).app caps = av at *
  unfold callA
  split
  · trivial
  · rename_i ct hct
    have hV := hE.ctr g ct hct
    split
    · trivial
    · rename_i x gs ms hx
      split
      · trivial
      · rename_i hck
        split
        · trivial
        · rename_i s2 hwr
          split
          · trivial
          · rename_i hnm
            split
            · rename_i l hp' hl
              intro hpre next Q hn
              simp only [Bool.and_eq_true, Bool.or_eq_true] at hck
              obtain ⟨⟨⟨⟨hk1, hk2⟩, hk3⟩, hk4⟩, _⟩ := hck
              obtain ⟨fn, hfn, hname, hbody⟩ := hV.ent
              have hndg := noDup_nodup hk1
              let S1 : Nat → Prop := fun b => S b ∨ BlkOf ι s.hp (callA.loose ct.ps av) b
              obtain ⟨L, hK, hLn, hLb, hLm⟩ := asKs_rep (S1 := S1) h.hs (fun b hb => .inl hb) hx hargs hndg (fun b hb => .inr hb)
              have hS1 : ∀ b, S1 b → b < w.heap.size := by
                rintro b (hb | ⟨i, e, h1, h2, h3⟩)
                · exact h.hs.slt b hb
                · exact (h.hs.bl i e h2 b h3).2.2
              have hLS : ∀ b ∈ L, ¬ S1 b ∧ b < w.heap.size := by
                intro b hb
                obtain ⟨i, e, h1, h2, h3⟩ := hLb b hb
                obtain ⟨q1, q2, q3⟩ := h.hs.bl i e h2 b h3
                refine ⟨?_, q3⟩
                rintro (hs | ⟨j, ej, r1, r2, r3⟩)
                · exact q1 hs
                · have hij : i ≠ j := by rintro rfl; exact disj_spec hk2 i h1 r1
                  exact h.hs.dj i j e ej h2 r2 hij b h3 r3
              have hcall := hV.run w S1 _ x L hS1 hpre hK hLn hLS
              unfold Oper.wp
              have hrun : (execOp a.eval o).run E.P w = .ok (.enter g (c.args.toList.map a.eval ++ us).toArray) w := by
                have hnb : fn.body.isNone = false := hbody
                have hq : (fn.name == "runtime.NumGoroutine") = false := hname
                simp only [execOp, ho, resolve, hf, he, Deferred.ofValue, Sem.run_bind, Sem.run_pure, Result.andThen, invoke, callFunc, program]
                simp [Sem.run, hfn, hq, hnb]
              rw [hrun]
              refine Calls.mono hcall ?_
              rintro e w' ⟨rs, O, Lo, S', e1, hpast, hs1, hs2, hres, hout, hnd, hO⟩
              subst e1
              have hsz := hpast.size
              -- the state before, without what goes over
              have hd := h.drops (g := gs) (by simpa using hk3)
              have hgsi : ∀ i ∈ gs, i ∉ ms := fun i hi hm => (List.nodup_append.1 hndg).2.2 i hi i hm rfl
              have main : ∀ S2 : Nat → Prop, (∀ b, S b → S2 b) → (∀ b, S2 b → S b ∨ (w.heap.size ≤ b ∧ b < w'.heap.size)) → (∀ b ∈ O ++ Lo, ¬ S2 b) → ResRep w'.heap S2 ct.rs O rs (ct.fn x) → OutRep w'.heap S2 ct.ps (c.args.toList.map a.eval ++ us) (ct.out x) Lo → next (a.put o.dst (retV rs)) w' := by
                intro S2 hS2 hS2' hOS hres2 hout2
                have hF0 : ∀ {L' : List Nat}, L'.Nodup → (∀ b ∈ L', b ∈ L) → (∀ b ∈ L', ∀ i e, i ∈ ms → look i s.hp = some e → b ∉ blks ι i e) → Flt B S ι (St.drops gs s).hp w L' := by
                  intro L' hn' hsub hnm'
                  refine Flt.drops h.hs hn' (fun b hb => ?_)
                  obtain ⟨i, e, q1, q2, q3⟩ := hLb b (hsub b hb)
                  rcases List.mem_append.1 q1 with q1 | q1
                  · exact ⟨i, e, q1, q2, q3⟩
                  · exact absurd q3 (hnm' b hb i e q1 q2)
                have fin : ∀ {ι2 : Ix}, RS B S2 ι2 s2 a w' → Flt B S2 ι2 s2.hp w' O → next (a.put o.dst (retV rs)) w' := by
                  intro ι2 hR2 hF2
                  obtain ⟨ι', k1, k2, k3⟩ := layRes_sound hl hR2.hs hres2 hF2
                  refine hn S2 ι' w' (retV rs) ⟨k1, hR2.dfr, hR2.sz, fun t v hv => ?_⟩ (retV_one (layRes_lst hl) k2)
                  exact k3 v _ (fun k hk1 hk2 => look_noMent (noMents_all hnm k (by omega)) hv) (hR2.fr t v hv)
                have hOf : ∀ b ∈ O, ¬ S2 b ∧ (B.w0.heap.size ≤ b ∨ B.M b) ∧ b < w'.heap.size := by
                  intro b hb
                  obtain ⟨q1, q2, q3⟩ := hO b (List.mem_append_left _ hb)
                  refine ⟨hOS b (List.mem_append_left _ hb), ?_, q3⟩
                  rcases q2 with q2 | q2
                  · exact .inl (Nat.le_trans h.hs.size q2)
                  · obtain ⟨i, e, _, r2, r3⟩ := hLb b q2
                    exact (h.hs.bl i e r2 b r3).2.1
                have hOj : ∀ b ∈ O, ∀ j ej, j ∉ gs → j ∉ ms → look j s.hp = some ej → b ∉ blks ι j ej := by
                  intro b hb j ej hj1 hj2 hlj hbj
                  obtain ⟨q1, q2, q3⟩ := hO b (List.mem_append_left _ hb)
                  rcases q2 with q2 | q2
                  · have := (h.hs.bl j ej hlj b hbj).2.2; omega
                  · obtain ⟨i, e, r1, r2, r3⟩ := hLb b q2
                    have hij : i ≠ j := by rintro rfl; rcases List.mem_append.1 r1 with r1 | r1; exact hj1 r1; exact hj2 r1
                    exact h.hs.dj i j e ej r2 hlj hij b r3 hbj
                rcases wr_out h.hs hx hargs hwr hout2 (List.nodup_append.1 hnd).2.1 with ⟨rfl, rfl, rfl⟩ | ⟨i, e, e', rfl, hi, hal, rfl, O', hob, hLo⟩
                · -- nothing is written
                  have hF := hF0 hLn (fun b hb => hb) (by simp)
                  have hR1 := hd.turn hF hpast
                  have hR2 : RS B S2 ι (St.drops gs s) a w' := hR1.share hS2 (fun b hb => by
                    rcases hS2' b hb with h1 | h1
                    · exact .inl h1
                    · refine .inr ⟨Nat.le_trans h.hs.size h1.1, h1.2, fun j ej hj hbj => ?_⟩
                      have := (hd.hs.bl j ej hj b hbj).2.2; omega)
                  refine fin hR2 ⟨(List.nodup_append.1 hnd).1, fun b hb => ?_⟩
                  obtain ⟨q1, q2, q3⟩ := hOf b hb
                  refine ⟨q1, q2, q3, fun j ej hj => ?_⟩
                  rw [drops_look] at hj
                  split at hj
                  · cases hj
                  · rename_i hjg; exact hOj b hb j ej hjg (by simp) hj
                · -- one object is written
                  have hig : i ∉ gs := fun hi' => hgsi i hi' (by simp)
                  have hi' : look i (St.drops gs s).hp = some e := by rw [drops_look, if_neg hig]; exact hi
                  have hF := hF0 (L' := L.filter (fun b => !(blks ι i e).contains b)) (hLn.filter _) (fun b hb => (List.mem_filter.1 hb).1) (fun b hb j ej hj hlj => by
                    simp only [List.mem_cons, List.not_mem_nil, or_false] at hj
                    subst hj
                    rw [hi] at hlj; cases hlj
                    have := (List.mem_filter.1 hb).2
                    simpa using this)
                  have hR2 := hd.renew hi' hal hF hpast (fun b hb => by
                    by_cases hbi : b ∈ blks ι i e
                    · exact .inl hbi
                    · exact .inr (List.mem_filter.2 ⟨hb, by simpa using hbi⟩)) hS2 hS2' hob (fun c hc => by
                      rw [← hLo] at hc
                      obtain ⟨q1, q2, q3⟩ := hO c (List.mem_append_right _ hc)
                      exact ⟨hOS c (List.mem_append_right _ hc), q2, q3⟩)
                  refine fin hR2 ⟨(List.nodup_append.1 hnd).1, fun b hb => ?_⟩
                  obtain ⟨q1, q2, q3⟩ := hOf b hb
                  refine ⟨q1, q2, q3, fun j ej hj => ?_⟩
                  simp only [St.putE, look_put] at hj
                  by_cases hji : j = i
                  · subst hji
                    rw [if_pos rfl] at hj; cases hj
                    rw [← hLo]
                    exact fun hbl => (List.nodup_append.1 hnd).2.2 b hb b hbl rfl
                  · rw [if_neg hji] at hj
                    have hj : look j (St.drops gs s).hp = some ej := hj
                    rw [(sameAt_setB hji O').blks]
                    rw [drops_look] at hj
                    split at hj
                    · cases hj
                    · rename_i hjg; exact hOj b hb j ej hjg (by simpa using hji) hj
              rcases hk4 with ⟨hno, hno2⟩ | hle
              · exact main S (fun _ h => h) (fun b hb => .inl hb) (fun b hb hs => (hO b hb).1 (hs1 b (.inl hs))) (hres.noSh hno) (hout.noSh hno2)
              · have hlo : callA.loose ct.ps av = [] := by
                  revert hle
                  cases callA.loose ct.ps av with
                  | nil => intro _; rfl
                  | cons x y => intro h; cases h
                refine main S' (fun b hb => hs1 b (.inl hb)) (fun b hb => ?_) (fun b hb => (hO b hb).1) hres hout
                rcases hs2 b hb with (h1 | ⟨i, e, h1, _⟩) | h1
                · exact .inl h1
                · rw [hlo] at h1; cases h1
                · exact .inr h1
            · trivial

end
end Go.Ex
