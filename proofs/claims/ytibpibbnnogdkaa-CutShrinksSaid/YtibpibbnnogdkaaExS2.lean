import Derived.Test.YtibpibbnnogdkaaExS
namespace Go.Ex

section
variable {E : Env} {s t : St}

theorem storeA_loc {T : TypeId} {i : Nat} {p : List Step} {x : AV} {q : Prop} {v : AV} {s1 : St} (h : (storeA E T i p x s).get = some (q, v, s1)) :
    v = .raw undef ∧ ∃ g ow e, (∀ j ∈ g, x.ment j = true) ∧ ∀ t : St, t.obj i = s.obj i → Alike s t x → (storeA E T i p x t).get = some (q, .raw undef, ((St.drops g t).kill i ow p).putE i e) := by
  unfold storeA at h
  split at h
  · cases h
  · rename_i e hob
    split at h
    · cases h
    · rename_i u y hg
      split at h
      · cases h
      · rename_i hck
        have base : ∀ t : St, t.obj i = s.obj i → t.obj i = some e := fun t ht => ht.trans hob
        split at h
        · split at h
          · split at h
            · rename_i r hset
              cases h
              refine ⟨rfl, [], e.kd, e.upd r, by simp, fun t ht _ => ?_⟩
              unfold storeA
              simp only [base t ht, hg, hck, hset]
              rfl
            · cases h
          · cases h
        · rename_i j q' lo hi
          split at h
          · split at h
            · rename_i r hset
              split at h
              · rename_i hij
                cases h
                refine ⟨rfl, [], e.kd, e.upd r, by simp, fun t ht _ => ?_⟩
                unfold storeA
                simp only [base t ht, hg, hck, hset, hij]
                rfl
              · cases h
            · cases h
          · cases h
        · rename_i x' hx1 hx2
          split at h
          · rename_i u' z g hgv
            split at h
            · rename_i r hset
              split at h
              · rename_i hij
                cases h
                refine ⟨rfl, g, e.kd, e.upd r, giveV_ment hgv, fun t ht hal => ?_⟩
                have hgt := (giveV_st hal).trans hgv
                unfold storeA
                simp only [base t ht, hg, hck]
                simp only [hgt, hset, hij]
                rfl
              · cases h
            · cases h
          · cases h

theorem store_loc {o : Oper} {T : TypeId} {a x : Operand} (ho : o.op = .store T a x) {p : Prop} {v : AV} {s1 : St} (h : (aop E o s).get = some (p, v, s1)) : Hangs E o s p v := by
  have hptr : ∃ i q, s.ev a = .ptr i q := by
    unfold aop at h
    rw [ho] at h
    simp only at h
    split at h
    · exact ⟨_, _, by assumption⟩
    · cases h
  obtain ⟨i, q, hp⟩ := hptr
  have ha : ∀ t, t.ev a = .ptr i q → aop E o t = storeA E T i q (t.ev x) t := by
    intro t ht
    unfold aop
    rw [ho]
    simp only [ht]
  rw [ha s hp] at h
  obtain ⟨rfl, g, ow, e, hg, k⟩ := storeA_loc h
  have hT : takes E o s = (s.ev a).lent ++ (s.ev x).lent := by unfold takes; rw [ho]
  have hiT : i ∈ takes E o s := by rw [hT, hp]; simp [AV.lent]
  have hgT : ∀ j ∈ g, j ∈ takes E o s := fun j hj => by rw [hT]; exact List.mem_append_right _ (lent_ment.2 (hg j hj))
  have hao : a ∈ o.op.operands.toList := by rw [ho]; simp [Op.operands]
  have hxo : x ∈ o.op.operands.toList := by rw [ho]; simp [Op.operands]
  refine ⟨[], fun u => AV.kill i ow q (dropsF g u), fun j => if j = i then some e else if j ∈ g then none else look j s.hp, Trim.comp (Trim.drops g) (Trim.kill i ow q) hgT (by simpa using hiT), by simp [NewIds], by simp, by simp [AV.ment], ?_⟩
  intro t hu hag _
  have hev := (hag x hxo).1
  have hobj : t.obj i = s.obj i := (hag a hao).2 i (by rw [hp]; simp [AV.ment])
  refine ⟨((St.drops g t).kill i ow q).putE i e, ?_, uniq_mapA (uniq_drops hu), ⟨fun n => ?_, fun j => ?_⟩⟩
  · rw [ha t ((hag a hao).1.trans hp), hev]
    exact k t hobj (fun j hj => (hag x hxo).2 j hj)
  · show look n (mapA _ (St.drops g t).fr) = _
    rw [look_mapA, look_drops, Option.map_map]; rfl
  · show look j (Ex.put i e (St.drops g t).hp) = _
    rw [look_put, drops_look]
    by_cases h0 : j = i
    · subst h0; simp [hiT]
    · by_cases h1 : j ∈ g
      · simp [h0, h1, hgT j h1]
      · by_cases h2 : j ∈ takes E o s
        · simp [h0, h1, h2, takes_obj hag h2]
        · simp [h0, h1, h2]

theorem appendA_loc {T : TypeId} {x y : AV} {dst : Option Nat} {p : Prop} {v : AV} {s1 : St} (h : (appendA E T x y dst s).get = some (p, v, s1)) :
    ∃ d g u l, dst = some d ∧ (∀ j ∈ g, x.ment j = true ∨ y.ment j = true) ∧ ∀ t, Alike s t x → Alike s t y → appendA E T x y dst t = (St.lay t d g u l).need p := by
  unfold appendA at h
  split at h
  · rename_i q t0 bts d hT
    split at h
    · cases h
    · rename_i tt m g happ
      have hgm := app1_ment happ
      have ha : ∀ t, Alike s t y → y.app1 t t0 = some (⟨tt, m⟩, g) := fun t ht => (app1_st ht).trans happ
      simp only at h
      split at h
      · split at h
        · rename_i hty
          obtain rfl := need_W h (fun _ _ _ => lay_okN)
          refine ⟨d, [] ++ g, .slc true t0, (([] : List t0.den) ++ castL hty m), rfl, by simpa using fun j hj => .inr (hgm j hj), fun t _ hy => ?_⟩
          unfold appendA
          simp only [hT, ha t hy, hty, dif_pos]
        · cases h
      · split at h
        · rename_i hck
          split at h
          · rename_i hty
            obtain rfl := need_W h (fun _ _ _ => lay_okN)
            refine ⟨d, [] ++ g, .slc true t0, (([] : List t0.den) ++ castL hty m), rfl, by simpa using fun j hj => .inr (hgm j hj), fun t _ hy => ?_⟩
            unfold appendA
            simp only [hT, ha t hy, hty, dif_pos, hck]
          · cases h
        · cases h
      · rename_i hx1 hx2
        split at h
        · rename_i u l f hgv
          split at h
          · rename_i hu
            split at h
            · rename_i hty
              obtain rfl := need_W h (fun _ _ _ => lay_okN)
              refine ⟨d, f ++ g, .slc true t0, (castL hu l ++ castL hty m), rfl, ?_, fun t hx hy => ?_⟩
              · intro j hj
                rcases List.mem_append.1 hj with hj | hj
                · exact .inl (give_ment hgv j hj)
                · exact .inr (hgm j hj)
              · have hgt := (give_st hx).trans hgv
                unfold appendA
                simp only [hT, ha t hy]
                simp only [hgt, hu, hty, dif_pos]
            · cases h
          · cases h
        · cases h
  · cases h

theorem append_loc {o : Oper} {c : Call} (ho : o.op = .call c) (hc : c.callee = .builtin .append) {p : Prop} {v : AV} {s1 : St} (h : (aop E o s).get = some (p, v, s1)) : Hangs E o s p v := by
  have hxo : ∀ x ∈ c.args.toList, x ∈ o.op.operands.toList := fun x hx => by rw [ho]; exact ops_arg hx
  have hT : takes E o s = (s.evs c.args.toList).lent := by unfold takes; rw [ho]; simp only [hc]
  have key : ∃ x y T, c.args.toList = [x, y] ∧ ∀ t, aop E o t = appendA E T (t.ev x) (t.ev y) o.dst t := by
    unfold aop at h
    rw [ho] at h
    simp only [hc] at h
    split at h
    · rename_i x y T U hargs htys
      split at h
      · rename_i hU
        exact ⟨x, y, T, hargs, fun t => by unfold aop; rw [ho]; simp only [hc, hargs, htys, hU]⟩
      · rename_i hU
        exact ⟨x, y, T, hargs, fun t => by unfold aop; rw [ho]; simp only [hc, hargs, htys, hU]⟩
      · cases h
    · cases h
  obtain ⟨x, y, T, hargs, he⟩ := key
  have h0 := h
  rw [he] at h
  obtain ⟨d, g, u, l, hd, hg, k⟩ := appendA_loc h
  have hxm : x ∈ o.op.operands.toList := hxo x (by rw [hargs]; simp)
  have hym : y ∈ o.op.operands.toList := hxo y (by rw [hargs]; simp)
  refine Hangs.lay hd (g := g) (u := u) (x := l) (W := OR.need p) (fun _ _ => rfl) (fun _ => rfl) ?_ h0 (fun t ha => ?_)
  · intro j hj
    rw [hT, lent_ment, hargs]
    rcases hg j hj with h | h <;> simp [St.evs, AV.ment, h]
  · rw [he, (ha x hxm).1, (ha y hym).1]
    exact k t (ha x hxm).2 (ha y hym).2

end
end Go.Ex
