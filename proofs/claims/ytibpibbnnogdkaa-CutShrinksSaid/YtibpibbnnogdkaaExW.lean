import Derived.Test.YtibpibbnnogdkaaExU
import Derived.JoinedCond
namespace Go.Ex
open Go.ChangeShapes Go.WideShapes Go.ChangeAt Go.RowKit

section
variable {P : Program} {X : Type} {enc : TypeId × Value → X} {W W' : World} {sp : Nat → Bool} {held : Bool}

/-- an argument's value has the cells of its type and no others -/
theorem cells_of_ok {k : Nat} {T : TypeId} {t : Ty} (hT : tyOk P k T t = true) {r : Go.Reach} {base : Nat} {v : Value} (h : Value.okWide P W r base T v) : v = toV t v.cells.toList := by
  obtain ⟨d, hd, hag⟩ := tyOk_agg hT
  unfold Value.okWide at h
  rw [hd] at h
  cases t with
  | int q =>
    have hu := tyOk_int hT
    rw [hd] at hu; cases hu
    simp only [Cell.okWide, hd, Cell.ok] at h
    cases v <;> simp_all [toV, Ty.agg, Value.cells]
  | bool =>
    have hu := tyOk_bool hT
    rw [hd] at hu; cases hu
    simp only [Cell.okWide, hd, Cell.ok] at h
    cases v <;> simp_all [toV, Ty.agg, Value.cells]
  | str =>
    have hu := tyOk_str hT
    rw [hd] at hu; cases hu
    simp only [Cell.okWide, hd, Cell.ok] at h
    cases v <;> simp_all [toV, Ty.agg, Value.cells]
  | slc o u =>
    obtain ⟨e, _, hu, _⟩ := tyOk_slc hT
    rw [hd] at hu; cases hu
    simp only [Cell.okWide, hd, Cell.ok] at h
    cases v <;> simp_all [toV, Ty.agg, Value.cells]
  | _ =>
    cases d <;> first | (exact (Bool.false_ne_true hag.symm).elim) | skip
    all_goals
      obtain ⟨cs, rfl, _⟩ := h
      simp [toV, Ty.agg, Value.cells]

def tysOk (P : Program) : List TypeId → List Ty → Bool
  | [], [] => true
  | T :: ts, t :: us => tyOk P 100 T t && t.shared && P.readableRec T && decide (T < P.types.size) && tysOk P ts us
  | _, _ => false

def bulkK : (us : List Ty) → DK (us.map .v) → Nat
  | [], _ => 0
  | t :: us, x => t.bulk x.1 + bulkK us x.2

theorem ks_of_trod : ∀ {ts : List TypeId} {us : List Ty}, tysOk P ts us = true → ∀ {vs : List Value} {ds : List (DataW X)} {ps : List MemPlace} {base : Nat} {r : Go.Reach}, DataW.TrodAll enc P W 0 sp held ts vs ds ps →
    (∀ (j : Nat) T v, ts[j]? = some T → vs[j]? = some v → Value.okWide P W r base T v) → ∃ x : DK (us.map .v), KsRep W.heap (fun b => b < W.heap.size) (us.map .v) vs x [] ∧ ds.length = ts.length ∧ bulkK us x ≤ bulkWAll ds
  | [], [], _, vs, ds, ps, base, r, h, _ => by
    obtain ⟨rfl, rfl, rfl⟩ := trodAll_nil h
    exact ⟨(), ⟨rfl, rfl⟩, rfl, Nat.le_refl _⟩
  | [], _ :: _, h, _, _, _, _, _, _, _ => by cases h
  | _ :: _, [], h, _, _, _, _, _, _, _ => by cases h
  | T :: ts, t :: us, hty, vs, ds, ps, base, r, h, hok => by
    simp only [tysOk, Bool.and_eq_true] at hty
    obtain ⟨⟨⟨⟨h1, h2⟩, _⟩, _⟩, h5⟩ := hty
    obtain ⟨v, vs', d, ds', p, q, rfl, rfl, rfl, ⟨fuel, hv⟩, hr⟩ := trodAll_cons h
    obtain ⟨y, hy, hb⟩ := (rep_of_trod_aux t h2).1 h1 hv
    obtain ⟨x, hx, hl, hb2⟩ := ks_of_trod h5 hr (fun j T v hT hv => hok (j + 1) T v (by simpa using hT) (by simpa using hv))
    exact ⟨(y, x), ⟨v, vs', [], [], rfl, rfl, ⟨rfl, _, cells_of_ok h1 (hok 0 T v rfl rfl), hy⟩, hx⟩, by simp [hl], by simp only [bulkK, bulkWAll]; exact Nat.add_le_add hb hb2⟩

theorem trodAll_stays (hl : laidOutB P = true) (hb : Below W.heap.size W W') : ∀ {ts : List TypeId} {us : List Ty}, tysOk P ts us = true → ∀ {vs : List Value} {ds : List (DataW X)} {ps : List MemPlace}, DataW.TrodAll enc P W 0 (fun _ => true) true ts vs ds ps →
    (∀ p ∈ ps, p.block < W.heap.size) → (∀ p ∈ ps, sp p.block = true) → DataW.TrodAll enc P W' 0 sp true ts vs ds ps
  | [], [], _, vs, ds, ps, h, _, _ => by
    obtain ⟨rfl, rfl, rfl⟩ := trodAll_nil h
    rfl
  | [], _ :: _, h, _, _, _, _, _, _ => by cases h
  | _ :: _, [], h, _, _, _, _, _, _ => by cases h
  | T :: ts, t :: us, hty, vs, ds, ps, h, hlt, hsp => by
    simp only [tysOk, Bool.and_eq_true] at hty
    obtain ⟨⟨⟨⟨_, _⟩, h3⟩, h4⟩, h5⟩ := hty
    obtain ⟨v, vs', d, ds', p, q, rfl, rfl, rfl, hv, hr⟩ := trodAll_cons h
    refine trodAll_cons_mk (WideElems.Trod_stays hl h3 (of_decide_eq_true h4) hv (fun x hx => hb.same (hlt x (by simp [hx]))) (fun x hx => hsp x (by simp [hx]))) ?_
    exact trodAll_stays hl hb h5 hr (fun x hx => hlt x (by simp [hx])) (fun x hx => hsp x (by simp [hx]))

/-- a law's contract: true, whatever the arguments -/
def lawC (us : List Ty) (pre : DK (us.map .v) → Prop) : Ctr := { ps := us.map .v, rs := [.bool], pre := pre, fn := fun _ => (true, ()), out := fun _ => noOut us }
where noOut : (us : List Ty) → DL (wts (us.map .v))
  | [] => ()
  | _ :: us => noOut us

theorem out_noOut {H : Array Go.Obj} {S : Nat → Prop} : ∀ {us : List Ty} {vs : List Value} {y : DL (wts (us.map .v))} {L : List Nat}, OutRep H S (us.map .v) vs y L → L = []
  | [], _, _, _, h => h.2
  | _ :: us, _, _, _, ⟨_, _, _, h⟩ => out_noOut (us := us) h

/-- what a law's contract says of a call on what is read -/
theorem law_calls {C : Checked} {f : FuncId} {fn : Func} {s : ChangeSpec} {apart fresh handsOn again : Bool} {us : List Ty} {tb : TypeId} {pre : DK (us.map .v) → Prop}
    (hl : laidOutB C.prog = true) (hty : tysOk C.prog fn.params.toList us = true) (hvars : s.vars = []) (hs : ∀ ds : List (DataW X), ds.length = fn.params.toList.length → s.fn X ds = { results := [.lit (.bool true)], args := ds })
    (hres : fn.resultTypes = #[tb]) (htb : C.prog.underlying tb = some .bool) (hv : (lawC us pre).Valid C.prog f)
    {W : World} {base : Nat} {args : Array Value} {ds gs : List (DataW X)} {before : List MemPlace} {rr : Go.Reach} (hpre : ∀ x, bulkK us x ≤ bulkWAll ds → pre x)
    (hval : ∀ (j : Nat) t v, fn.params[j]? = some t → args[j]? = some v → Value.okWide C.prog W rr base t v) (hW : DataW.Whole enc C.prog fn.params.toList s.vars apart W args.toList ds gs before) :
    Calls C.prog f args W fun e W' => ∃ v, e = .returned v ∧ s.post enc C.prog fn apart fresh handsOn again W args v W' := by
  have hlt := DataW.Whole.lt hW
  have hW' := hW
  obtain ⟨p, q, hA, hV, rfl, hz, hn⟩ := hW
  rw [hvars] at hV
  obtain ⟨rfl, rfl⟩ := trodVars_none hV
  simp only [List.append_nil] at hlt hz hn hW'
  obtain ⟨x, hx, hlen, hbk⟩ := ks_of_trod hty hA (fun j T v hT hv => hval j T v (by simpa using hT) (by simpa using hv))
  have hc := hv.run W (fun b => b < W.heap.size) args.toList x [] (fun _ h => h) (hpre x hbk) hx List.nodup_nil (by simp)
  refine Calls.mono (by simpa using hc) ?_
  rintro e w' ⟨us', O, Lo, S', rfl, hpast, _, _, ⟨v, us2, O1, O2, cs, rfl, rfl, rfl, hR, hR2⟩, _, _, _⟩
  have hb : RowKit.Below W.heap.size W w' := ⟨hpast.os, hpast.tape, hpast.out, hpast.size, fun k hk => hpast.frame k hk (by simp)⟩
  obtain ⟨rfl, rfl⟩ := hR2
  obtain ⟨_, rfl⟩ := hR
  have hret : retV [toV .bool [.bool ((lawC us pre).fn x).1]] = .bool true := rfl
  rw [hret]
  have hfn' := hs ds hlen
  have hargs : ∀ sp : Nat → Bool, (∀ x ∈ p, sp x.block = true) → DataW.TrodAll enc C.prog w' 0 sp true fn.params.toList args.toList ds p := fun sp hsp => trodAll_stays hl hb hty hA hlt hsp
  have hrs : ∀ (b : Nat) (sp : Nat → Bool) (hd : Bool), DataW.TrodAll enc C.prog w' b sp hd fn.resultTypes.toList ((Value.bool true).resultList fn.resultTypes.size) [.lit (.bool true)] [] := by
    intro b sp hd
    rw [hres]
    exact trodAll_cons_mk (shut_bool htb _) trodAll_mk0
  have hvs : ∀ sp : Nat → Bool, DataW.TrodVars enc C.prog w' sp s.vars [] [] := by intro sp; rw [hvars]; rfl
  have hold : ∀ x ∈ p, (fun b => decide (b < W.heap.size)) x.block = true := fun x hx => by simpa using hlt x hx
  refine ⟨_, rfl, ds, [], p, [], p, [], hW', ?_, ?_, ?_, ?_, ?_⟩
  · rw [List.append_nil, hfn']; exact hrs _ _ _
  · rw [List.append_nil, hfn']; exact hargs _ hold
  · rw [List.append_nil, hfn']; exact hvs _
  · exact hb.frame _
  · intro _
    refine ⟨ok_one hres rfl (okWide_bool_mk htb _), .lit (.bool true) :: ds, [], p, ⟨[] ++ p, [], trodAll_append (hargs _ (fun _ _ => rfl)) (hrs _ _ _), hvs _, by simp, ?_, ?_⟩, fun x hx _ => by simpa using hx⟩
    · intro b off hp
      rw [hb.frozen (hlt _ hp)]
      exact hz b off hp
    · exact hn

theorem law_holds {C : Checked} {os : Os} {f : FuncId} {fn : Func} {s : ChangeSpec} {conds : List PathCond} {apart fresh handsOn again : Bool} {us : List Ty} {tb : TypeId} {a : Assume}
    (own : ownKnob C.prog.godebug = none) (started : os.Started) (noInit : C.prog.inits.idxOf? f = none) (hfn : C.prog.funcs[f]? = some fn)
    (witness : ∃ (w : World) (tape : Tape) (i : Input), w.os = os ∧ (w.forCall tape i).Shaped C.prog ∧ i.vars = [] ∧ Input.okWide C.prog (w.forCall tape i) .any w.heap.size f i ∧
      s.pre6 enc C.prog fn conds apart (w.forCall tape i).memory i.args ∧ a.holds C.prog (lone (Frame.enter C.prog f i.args .normal) [] (w.forCall tape i)))
    (hl : laidOutB C.prog = true) (hty : tysOk C.prog fn.params.toList us = true) (hvars : s.vars = []) (hs : ∀ ds : List (DataW X), ds.length = fn.params.toList.length → s.fn X ds = { results := [.lit (.bool true)], args := ds })
    (hres : fn.resultTypes = #[tb]) (htb : C.prog.underlying tb = some .bool) (hv : (lawC us (fun _ => True)).Valid C.prog f) :
    ReturnsInHanded a C os f .any (s.pre6 enc C.prog fn conds apart) (s.post enc C.prog fn apart fresh handsOn again) := by
  refine returnsInHanded_of_change own started noInit hfn witness ?_
  intro W base args ds gs before hval hW _ _
  exact law_calls hl hty hvars hs hres htb hv (fun _ _ => trivial) hval hW

/-- the same, where what is read is of bulk at most so many -/
def smallC (us : List Ty) : Ctr := lawC us (fun x => bulkK us x ≤ 1048576)
theorem law_upto {C : Checked} {os : Os} {f : FuncId} {fn : Func} {s : OpenSpec} {k : (H : Type) → List (DataW H) → Bool} (hk : s.cond = some k) {F : Stop.Interp} {conds : List PathCond} {apart fresh handsOn again : Bool} {us : List Ty} {tb : TypeId} {a : Assume}
    (own : ownKnob C.prog.godebug = none) (started : os.Started) (noInit : C.prog.inits.idxOf? f = none) (hfn : C.prog.funcs[f]? = some fn)
    (witness : ∃ (w : World) (tape : Tape) (i : Input), w.os = os ∧ (w.forCall tape i).Shaped C.prog ∧ i.vars = [] ∧ Input.okWide C.prog (w.forCall tape i) .any w.heap.size f i ∧
      s.pre6 enc C.prog fn conds apart (w.forCall tape i).memory i.args ∧ a.holds C.prog (lone (Frame.enter C.prog f i.args .normal) [] (w.forCall tape i)))
    (hkb : ∀ ds : List (DataW X), k X ds = true → bulkWAll ds ≤ 1048576)
    (hl : laidOutB C.prog = true) (hty : tysOk C.prog fn.params.toList us = true) (hvars : s.vars = []) (hs : ∀ ds : List (DataW X), ds.length = fn.params.toList.length → s.fn F X ds = { results := [.lit (.bool true)], args := ds })
    (hres : fn.resultTypes = #[tb]) (htb : C.prog.underlying tb = some .bool) (hv : (smallC us).Valid C.prog f) :
    ReturnsInHanded a C os f .any (s.pre6 enc C.prog fn conds apart) ((s.at F).post enc C.prog fn apart fresh handsOn again) := by
  refine returnsInHanded_of_cond hk own started noInit hfn witness ?_
  intro W base args ds gs before hval hW _ hkk _
  have hg : gs = [] := by
    obtain ⟨p, q, hA, hV, _⟩ := hW
    rw [hvars] at hV
    exact (trodVars_none hV).1
  subst hg
  rw [List.append_nil] at hkk
  exact law_calls (s := s.at F) hl hty hvars hs hres htb hv (fun x hx => Nat.le_trans hx (hkb ds hkk)) hval hW
end
end Go.Ex
