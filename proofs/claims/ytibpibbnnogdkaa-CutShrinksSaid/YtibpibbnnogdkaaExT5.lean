import Derived.Test.YtibpibbnnogdkaaExT4
namespace Go.Ex

section
variable {E : Env} {B : Base} {S S' : Nat → Prop} {ι : Ix} {s : St} {a : Act} {w : World} {hp : List (Nat × Ent)} {H H' : Array Go.Obj}

theorem slc_len {q : Bool} {u : Ty} {O : List Nat} {cs : List Value} {z : List u.den} (hR : Rep H S (.slc q u) O cs z) : z.length ≤ maxLen := by
  rcases hR with ⟨_, _, h2⟩ | ⟨b, off, cap, O', c1, c2, c3, _⟩
  · rw [h2]; exact Nat.zero_le _
  · have := c3.1
    have c2 : z.length ≤ cap := c2
    omega

theorem els_len (h : HS B S ι s.hp w) {v : AV} {val : Value} (hv : VX w.heap S ι s.hp v [val]) {t : Ty} {l : List t.den} (hw : v.els s = some ⟨t, l⟩) : l.length ≤ maxLen := by
  unfold AV.els at hw
  split at hw
  · cases hw
    obtain ⟨cs, _, hR⟩ := hv
    exact slc_len hR
  · rename_i i p
    split at hw
    · rename_i q t' l' hp
      cases hw
      obtain ⟨e, u, y, cs, h1, h2, h3, h4, h5⟩ := hv
      have hg := part_of h1 hp
      rw [h3] at hg; cases hg
      obtain ⟨O2, m1, m2, m3⟩ := sub_rep h h1 h2 h3 h4
      exact slc_len m3
    · cases hw
  · obtain ⟨A, c, _, k⟩ := sub_own h hv hw
    rcases k with rfl | ⟨b, off, O, _, _, _, _, _, k1, k2⟩
    · exact Nat.zero_le _
    · omega
  · cases hw

theorem byte_in (c : UInt8) : inK .u8 (c.toNat : Int) := by
  simp only [inK, IntKind.min, IntKind.max, IntKind.signed, IntKind.bits]; have := c.toNat_lt; simp; omega

theorem bytes_rep (y : List UInt8) : RepL (Rep H S (.int .u8)) 1 [] (byteCells ⟨y.toArray⟩) (List.map (fun b : UInt8 => (b.toNat : Int)) y : List Int) := by
  simp only [byteCells]
  induction y with
  | nil => exact ⟨rfl, rfl⟩
  | cons c y ih => exact ⟨[], [], rfl, ⟨rfl, rfl, byte_in c⟩, by simpa [Ty.size] using ih⟩

theorem ints_cells {k : IntKind} : ∀ {l : List Int} {O : List Nat} {cs : List Value}, RepL (Rep H S (.int k)) 1 O cs l → cs = l.map (Value.int k)
  | [], _, _, ⟨_, h⟩ => h
  | n :: l, O, cs, ⟨O1, O2, _, h1, h2⟩ => by
    have e1 : cs.take 1 = [.int k n] := h1.2.1
    have e2 := ints_cells h2
    rw [← List.take_append_drop 1 cs, e1, e2]; rfl

theorem push_all : ∀ (l : List Int) (r : ByteArray), l.foldl (fun r n => r.push (UInt8.ofNat n.toNat)) r = ⟨r.data ++ (l.map fun n => UInt8.ofNat n.toNat).toArray⟩
  | [], r => by simp
  | n :: l, r => by
    rw [List.foldl_cons, push_all l]
    simp [ByteArray.push]

theorem convert_sound (hE : EnvOk E) (h : RS B S ι s a w) {o : Oper} {T T' : TypeId} {x : Operand} (ho : o.op = .convert T' T x) : ORok E.P B o a w (aop E o s) := by
  have he : execOp a.eval o = (do pure (.value (← convert T' T (a.eval x)))) := by simp [execOp, ho]
  unfold aop
  rw [ho]
  simp only
  split
  · rename_i k n k0 by0 k' by_ hx hT0 hT
    obtain ⟨hv, _⟩ := VX.int_inv (evx h hx)
    have hu := tyOk_int (tt_ok hE hT)
    have hu0 := tyOk_int (tt_ok hE hT0)
    refine exec_val he h (val := .int k' (k'.wrap n)) ?_ (VX.int (wrap_in _ _))
    rw [hv]
    simp [convert, run_under hu, run_under hu0, Conv.intToInt]
  · rename_i y b0 b1 hx hT0 hT
    split
    · rename_i d hd
      refine ORok.lay (fun v s' hl => ?_)
      obtain ⟨hv, hlen⟩ := VX.str_inv (evx h hx)
      have hu0 := tyOk_str (tt_ok hE hT0)
      obtain ⟨et, k', f1, f2, f3⟩ := tyOk_slc (tt_ok hE hT)
      have f4 := tyOk_int f3
      have hrun := run_bytes_of_string (P := E.P) w T' T et ⟨y.toArray⟩ hu0 f1 f4
      have hsz : (⟨y.toArray⟩ : ByteArray).size = List.length y := rfl
      rw [hsz] at hrun
      have hge := grownCap_ge w (List.length y) 0 et
      have hmax := grownCap_le_maxLen w (List.length y) 0 et hlen
      generalize grownCap w (List.length y) 0 et = gc at hrun hge hmax
      have hcells : (bytesRow ⟨y.toArray⟩ gc) = (byteCells ⟨y.toArray⟩ ++ List.replicate (gc - List.length y) (Value.int .u8 0)).toArray := by
        apply Array.ext'
        simp [bytesRow, byteCells, hsz]
      rw [hcells] at hrun
      have hbl : (byteCells ⟨y.toArray⟩).length = List.length y := by rw [byteCells_length]; rfl
      have hml : (List.map (fun b : UInt8 => (b.toNat : Int)) y).length = List.length y := List.length_map ..
      have hp : Past [] w (w.drew.alloc (.cells (byteCells ⟨y.toArray⟩ ++ List.replicate (gc - List.length y) (Value.int .u8 0)).toArray et ((byteCells ⟨y.toArray⟩ ++ List.replicate (gc - List.length y) (Value.int .u8 0)).toArray.size, (byteCells ⟨y.toArray⟩ ++ List.replicate (gc - List.length y) (Value.int .u8 0)).toArray.size + 1))) :=
        Past.trans Past.drew (Past.push _) (by simp)
      obtain ⟨O2, k1, k2, k3⟩ := row_repW (w := w) (S := S) (t := .int .u8) (l := (List.map (fun b : UInt8 => (b.toNat : Int)) y : List Int)) (cap := gc) h.hs.slt (O := []) (cells := byteCells ⟨y.toArray⟩ ++ List.replicate (gc - List.length y) (Value.int .u8 0)) (by
        show RepL _ 1 [] (List.take ((List.map (fun b : UInt8 => (b.toNat : Int)) y).length * 1) _) _
        rw [hml, Nat.mul_one, List.take_left' hbl]
        exact bytes_rep y) (by show (List.map (fun b : UInt8 => (b.toNat : Int)) y).length ≤ gc; rw [hml]; exact hge) hmax (by simp only [List.length_append, List.length_replicate, hbl, Ty.size]; omega) et (by simp)
        (w' := w.drew.alloc (.cells (byteCells ⟨y.toArray⟩ ++ List.replicate (gc - List.length y) (Value.int .u8 0)).toArray et ((byteCells ⟨y.toArray⟩ ++ List.replicate (gc - List.length y) (Value.int .u8 0)).toArray.size, (byteCells ⟨y.toArray⟩ ++ List.replicate (gc - List.length y) (Value.int .u8 0)).toArray.size + 1))) rfl (.inr (by simp))
      have hd' := h.drops (g := []) rfl
      refine OpOk.lay hl (val := .slice (some ⟨w.heap.size, 0, none⟩) (List.length y) gc) (by rw [he, hv]; simp only [Sem.run_bind, hrun, Result.andThen_ok, Sem.run_pure]) (by rw [← hml]; rfl) k1 (hd'.turn Flt.nil hp) (Flt.new hd' Flt.nil hp (by show w.heap.size < (w.heap.push _).size; simp) k2 (k3 List.nodup_nil))
    · trivial
  · rename_i b0 b1 _ hT0 hT
    obtain ⟨et, k', f1, f2, f3⟩ := tyOk_slc (tt_ok hE hT0)
    have f4 := tyOk_int f3
    have f5 := tyOk_str (tt_ok hE hT)
    split
    · rename_i l hels
      obtain ⟨A, c, e, k⟩ := els_rep h.hs (h.ev x) hels
      have hlen := els_len h.hs (h.ev x) hels
      refine exec_val he h (val := .string ⟨(List.map (fun n : Int => UInt8.ofNat n.toNat) l).toArray⟩) ?_ (VX.str (by rw [List.length_map]; exact hlen))
      rw [e]
      simp only [convert, Sem.run_bind, run_under f1, run_under f5, Result.andThen_ok, run_under f4]
      have hsome : ∀ a0 : Addr, (loadCells a0 l.length).run E.P w = .ok (l.map (Value.int .u8)).toArray w → (Conv.bytesToString (.slice (some a0) l.length c)).run E.P w = .ok (.string ⟨(List.map (fun n : Int => UInt8.ofNat n.toNat) l).toArray⟩) w := by
        intro a0 hl
        rw [run_bytesToString w a0 l.length c l hl, push_all]
        simp
      rcases k with rfl | ⟨b, off, O', rfl, k1, k2, k3, k4⟩
      · cases A with
        | none => simp [Conv.bytesToString, Sem.run_pure]; rfl
        | some A => exact hsome A (run_firstCells_some w 1 0 A 0 c [] (by simp) (by simp))
      · refine hsome _ ?_
        have hc := ints_cells k3
        have := run_firstCells_some (P := E.P) w 1 l.length ⟨b, off, none⟩ l.length c (l.map (Value.int .u8)) (by simp) (fun j u hu => by
          rw [Addr.add_none]; rw [← hc] at hu; exact cell_of_cellsAt hu)
        simpa [Builtin.firstCells] using this
    · split
      · rename_i hx
        have hx' : [a.eval x] = [Value.slice none 0 0] := evx h hx
        have hx' : a.eval x = Value.slice none 0 0 := by simpa using hx'
        refine exec_val he h (val := .string ⟨([] : List UInt8).toArray⟩) ?_ (VX.str (by simp))
        rw [hx']
        simp [convert, Sem.run_bind, run_under f1, run_under f5, Result.andThen_ok, run_under f4, Conv.bytesToString, Sem.run_pure]
        rfl
      · trivial
  · trivial

end
end Go.Ex
