/- The contracts of the package pulse's functions: New, Tick; and of slices.Contains. -/
import Derived.Test.YtagjonjobbckdaaPulse
namespace Go.Proofs.Ytagjonjobbckdaa
open Go.Ex
set_option maxRecDepth 100000

def zeroP : PulseD := (0, 0, [0, 0, 0, 0, 0, 0], [0, 0, 0, 0, 0, 0], [false, false, false, false, false, false], ())
def freshP (me w : Int) : PulseD := (me, 0, [0, 0, 0, 0, 0, 0], List.replicate 6 w, [false, false, false, false, false, false], ())
def newP (me w : Int) : PulseD × Int × Unit := if pcheck (freshP me w) ≠ 0 then (zeroP, pcheck (freshP me w), ()) else (freshP me w, 0, ())
def cnewP : Ctr := { ps := [.v I64, .v I64], rs := [Pulse, I64], pre := fun _ => True, fn := fun x => newP x.1 x.2.1, out := fun _ => () }
noncomputable def ENewP : Env := { P := Try.prog, tt := tt, ctr := [(30, cpcheck)], res := [Go.ResultVar.cell 4 41, Go.ResultVar.tmp 5], rs := [Ty.pair (Ty.int IntKind.i64) (Ty.pair (Ty.int IntKind.i64) (Ty.pair (Ty.arr 6 (Ty.int IntKind.i64)) (Ty.pair (Ty.arr 6 (Ty.int IntKind.i64)) (Ty.pair (Ty.arr 6 Ty.bool) Ty.unit)))), Ty.int IntKind.i64], ps := [PK.v (Ty.int IntKind.i64), PK.v (Ty.int IntKind.i64)], cuts := [(3, [(1, none), (4, none), (6, none), (11, none)])], nt := 26 }
theorem ENewP_ok : EnvOk ENewP := envOk tt_ok ⟨cpcheck_valid, trivial⟩
theorem FNewP_ok : FnOk ENewP Try.f28 := ⟨rfl, rfl⟩
theorem ENewP_t (x0 : Int) (x1 : Int) : exec ENewP 1000 [.code (bodyOf Try.prog 28)] (initSt cnewP.ps ((x0, x1, ()))) =
  .cut (loopAt (bodyOf Try.prog 28) 3).1 (loopAt (bodyOf Try.prog 28) 3).2 (St.mk [(1, AV.val (Ty.int IntKind.i64) x1), (4, AV.ptr 4 []), (6, AV.ptr 6 []), (11, AV.val (Ty.int IntKind.i64) (0 : Int))] [(4, Ent.var Pulse ((0 : Int), (0 : Int), [(0 : Int), (0 : Int), (0 : Int), (0 : Int), (0 : Int), (0 : Int)], [(0 : Int), (0 : Int), (0 : Int), (0 : Int), (0 : Int), (0 : Int)], [false, false, false, false, false, false], ())), (6, Ent.var Pulse (x0, (0 : Int), [(0 : Int), (0 : Int), (0 : Int), (0 : Int), (0 : Int), (0 : Int)], [(0 : Int), (0 : Int), (0 : Int), (0 : Int), (0 : Int), (0 : Int)], [false, false, false, false, false, false], ()))]) := by kernel_rfl
def ENewP_s3 (v1 : Int) (v11 : Int) (o4_1 : Int) (o4_2_1 : Int) (o4_2_2_1 : List Int) (o4_2_2_2_1 : List Int) (o4_2_2_2_2_1 : List Bool) (o6_1 : Int) (o6_2_1 : Int) (o6_2_2_1 : List Int) (o6_2_2_2_1 : List Int) (o6_2_2_2_2_1 : List Bool) : St := St.mk [(1, AV.val (Ty.int IntKind.i64) v1), (4, AV.ptr 4 []), (6, AV.ptr 6 []), (11, AV.val (Ty.int IntKind.i64) v11)] [(4, Ent.var Pulse (o4_1, o4_2_1, o4_2_2_1, o4_2_2_2_1, o4_2_2_2_2_1, ())), (6, Ent.var Pulse (o6_1, o6_2_1, o6_2_2_1, o6_2_2_2_1, o6_2_2_2_2_1, ()))]
theorem ENewP_l3 (v1 : Int) (v11 : Int) (o4_1 : Int) (o4_2_1 : Int) (o4_2_2_1 : List Int) (o4_2_2_2_1 : List Int) (o4_2_2_2_2_1 : List Bool) (o6_1 : Int) (o6_2_1 : Int) (o6_2_2_1 : List Int) (o6_2_2_2_1 : List Int) (o6_2_2_2_2_1 : List Bool) : exec ENewP 1000 (.code (loopAt (bodyOf Try.prog 28) 3).1 :: .inLoop (loopAt (bodyOf Try.prog 28) 3).1 :: (loopAt (bodyOf Try.prog 28) 3).2) (ENewP_s3 v1 v11 o4_1 o4_2_1 o4_2_2_1 o4_2_2_2_1 o4_2_2_2_2_1 o6_1 o6_2_1 o6_2_2_1 o6_2_2_2_1 o6_2_2_2_2_1) =
  cond (decide (v11 < (6 : Int))) (.need ((0 : Int) ≤ v11 ∧ v11 < (↑6 : Int)) (.need (inK IntKind.i64 (v11 + (1 : Int))) (.cut (loopAt (bodyOf Try.prog 28) 3).1 (loopAt (bodyOf Try.prog 28) 3).2 (St.mk [(1, AV.val (Ty.int IntKind.i64) v1), (4, AV.ptr 4 []), (6, AV.ptr 6 []), (11, AV.val (Ty.int IntKind.i64) (v11 + (1 : Int)))] [(4, Ent.var Pulse (o4_1, o4_2_1, o4_2_2_1, o4_2_2_2_1, o4_2_2_2_2_1, ())), (6, Ent.var Pulse (o6_1, o6_2_1, o6_2_2_1, List.set o6_2_2_2_1 (Int.toNat v11) v1, o6_2_2_2_2_1, ()))])))) (.need (True) (cond (decide (pcheck (o6_1, o6_2_1, o6_2_2_1, o6_2_2_2_1, o6_2_2_2_2_1, ()) ≠ (0 : Int))) (.ret ((((0 : Int), (0 : Int), [(0 : Int), (0 : Int), (0 : Int), (0 : Int), (0 : Int), (0 : Int)], [(0 : Int), (0 : Int), (0 : Int), (0 : Int), (0 : Int), (0 : Int)], [false, false, false, false, false, false], ()), pcheck (o6_1, o6_2_1, o6_2_2_1, o6_2_2_2_1, o6_2_2_2_2_1, ()), ()))) (.ret (((o6_1, o6_2_1, o6_2_2_1, o6_2_2_2_1, o6_2_2_2_2_1, ()), (0 : Int), ()))))) := by kernel_rfl
def filled (w : Int) (i : Nat) : List Int := List.replicate i w ++ List.replicate (6 - i) 0
theorem filled_set {w : Int} {i : Nat} (h : i < 6) : (filled w i).set i w = filled w (i + 1) := by
  match i, h with
  | 0, _ | 1, _ | 2, _ | 3, _ | 4, _ | 5, _ => rfl
theorem inc_in {i : Nat} (h : i < 1000000) : inK .i64 ((i : Int) + 1) := by
  constructor
  · show (-9223372036854775808 : Int) ≤ _; omega
  · show _ ≤ (9223372036854775807 : Int); omega

theorem cnewP_valid : cnewP.Valid Try.prog 28 := by
  refine Ctr.valid_of ENewP_ok rfl rfl Try.func28 (c := bodyOf Try.prog 28) rfl rfl FNewP_ok rfl ?_
  rintro ⟨(me : Int), (w : Int), ⟨⟩⟩ - -
  refine exec_sound (n := 1000) ENewP_ok FNewP_ok ?_
  refine holds_of_eq (ENewP_t me w) ?_
  refine Reach.loop ENewP_ok FNewP_ok (fun i : Nat => ENewP_s3 w (i : Int) 0 0 [0, 0, 0, 0, 0, 0] [0, 0, 0, 0, 0, 0] [false, false, false, false, false, false] me 0 [0, 0, 0, 0, 0, 0] (filled w i) [false, false, false, false, false, false]) (fun i => i ≤ 6)
    (fun i => 6 - i) 1000 (fun i => ⟨uniq_of rfl, uniq_of rfl⟩) ?_ 0 (by omega)
  intro i k1 _
  refine holds_of_eq (ENewP_l3 ..) ?_
  simp only [holds_cond, Tree.holds, decide_eq_true_eq, decide_eq_false_iff_not, Int.toNat_natCast]
  refine ⟨fun a => ?_, fun a => ?_⟩
  · have hi : i < 6 := by omega
    rw [filled_set hi]
    exact ⟨⟨by omega, by omega⟩, fun _ => ⟨inc_in (by omega), fun _ => .inl ⟨trivial, trivial, i + 1, rfl, by omega, by omega⟩⟩⟩
  · have hi : i = 6 := by omega
    subst hi
    have hf : filled w 6 = List.replicate 6 w := rfl
    rw [hf]
    refine ⟨trivial, fun _ => ⟨fun b => ?_, fun b => ?_⟩⟩
    · have b : pcheck (freshP me w) ≠ 0 := b
      show ((zeroP, pcheck (freshP me w), ()) : PulseD × Int × Unit) = newP me w
      rw [newP, if_pos b]
    · have b : ¬ pcheck (freshP me w) ≠ 0 := b
      show ((freshP me w, 0, ()) : PulseD × Int × Unit) = newP me w
      rw [newP, if_neg b]

/-! Contains -/
def idxGo (l : List Int) (v : Int) : Nat → Nat → Int
  | 0, _ => -1
  | k + 1, i => if v = l.getD i 0 then (i : Int) else idxGo l v k (i + 1)
def idx (l : List Int) (v : Int) : Int := idxGo l v l.length 0
def cidx : Ctr := { ps := [.v (.slc false I64), .v I64], rs := [I64], pre := fun _ => True, fn := fun x => (idx x.1 x.2.1, ()), out := fun _ => () }
noncomputable def EIndex : Env := { P := Try.prog, tt := tt, ctr := [], res := [Go.ResultVar.tmp 4], rs := [Ty.int IntKind.i64], ps := [PK.v (Ty.slc false (Ty.int IntKind.i64)), PK.v (Ty.int IntKind.i64)], cuts := [(2, [(0, none), (1, none), (7, none), (8, none)])], nt := 19 }
theorem EIndex_ok : EnvOk EIndex := envOk tt_ok trivial
theorem FIndex_ok : FnOk EIndex Try.f40 := ⟨rfl, rfl⟩
theorem EIndex_t (x0 : List Int) (x1 : Int) : exec EIndex 1000 [.code (bodyOf Try.prog 40)] (initSt cidx.ps ((x0, x1, ()))) =
  .cut (loopAt (bodyOf Try.prog 40) 2).1 (loopAt (bodyOf Try.prog 40) 2).2 (St.mk [(0, AV.val (Ty.slc false (Ty.int IntKind.i64)) x0), (1, AV.val (Ty.int IntKind.i64) x1), (7, AV.val (Ty.int IntKind.i64) (↑(List.length x0) : Int)), (8, AV.val (Ty.int IntKind.i64) (0 : Int))] []) := by kernel_rfl
def EIndex_s2 (v0 : List Int) (v1 : Int) (v7 : Int) (v8 : Int) : St := St.mk [(0, AV.val (Ty.slc false (Ty.int IntKind.i64)) v0), (1, AV.val (Ty.int IntKind.i64) v1), (7, AV.val (Ty.int IntKind.i64) v7), (8, AV.val (Ty.int IntKind.i64) v8)] []
theorem EIndex_l2 (v0 : List Int) (v1 : Int) (v7 : Int) (v8 : Int) : exec EIndex 1000 (.code (loopAt (bodyOf Try.prog 40) 2).1 :: .inLoop (loopAt (bodyOf Try.prog 40) 2).1 :: (loopAt (bodyOf Try.prog 40) 2).2) (EIndex_s2 v0 v1 v7 v8) =
  cond (decide (v8 < v7)) (.need ((0 : Int) ≤ v8 ∧ v8 < (↑(List.length v0) : Int)) (cond (decide (v1 = List.getD v0 (Int.toNat v8) (0 : Int))) (.ret ((v8, ()))) (.need (inK IntKind.i64 (v8 + (1 : Int))) (.cut (loopAt (bodyOf Try.prog 40) 2).1 (loopAt (bodyOf Try.prog 40) 2).2 (St.mk [(0, AV.val (Ty.slc false (Ty.int IntKind.i64)) v0), (1, AV.val (Ty.int IntKind.i64) v1), (7, AV.val (Ty.int IntKind.i64) v7), (8, AV.val (Ty.int IntKind.i64) (v8 + (1 : Int)))] []))))) (.ret (((-1 : Int), ()))) := by kernel_rfl
theorem idxGo_step {l : List Int} {v : Int} {i : Nat} (h : i < l.length) : idxGo l v (l.length - i) i = if v = l.getD i 0 then (i : Int) else idxGo l v (l.length - (i + 1)) (i + 1) := by
  rw [show l.length - i = (l.length - (i + 1)) + 1 by omega, idxGo]
theorem idxGo_iff {l : List Int} {v : Int} : ∀ {k i : Nat}, 0 ≤ idxGo l v k i ↔ ∃ j, i ≤ j ∧ j < i + k ∧ v = l.getD j 0
  | 0, i => by simp only [idxGo]; constructor; (intro h; omega); (rintro ⟨j, h1, h2, _⟩; omega)
  | k + 1, i => by
    simp only [idxGo]
    split
    · rename_i h; exact ⟨fun _ => ⟨i, by omega, by omega, h⟩, fun _ => by omega⟩
    · rename_i h
      rw [idxGo_iff]
      constructor
      · rintro ⟨j, h1, h2, h3⟩; exact ⟨j, by omega, by omega, h3⟩
      · rintro ⟨j, h1, h2, h3⟩
        have : j ≠ i := by rintro rfl; exact h h3
        exact ⟨j, by omega, by omega, h3⟩
theorem idx_mem {l : List Int} {v : Int} : 0 ≤ idx l v ↔ v ∈ l := by
  rw [idx, idxGo_iff, List.mem_iff_getElem]
  constructor
  · rintro ⟨j, _, h2, h3⟩
    refine ⟨j, by omega, ?_⟩
    rw [h3, List.getD_eq_getElem?_getD, List.getElem?_eq_getElem (by omega)]; rfl
  · rintro ⟨j, h, e⟩
    refine ⟨j, by omega, by omega, ?_⟩
    rw [← e, List.getD_eq_getElem?_getD, List.getElem?_eq_getElem h]; rfl

theorem cidx_valid : cidx.Valid Try.prog 40 := by
  refine Ctr.valid_of EIndex_ok rfl rfl Try.func40 (c := bodyOf Try.prog 40) rfl rfl FIndex_ok rfl ?_
  rintro ⟨(l : List Int), (v : Int), ⟨⟩⟩ - ⟨⟨hl, -⟩, -⟩
  have hl : l.length ≤ 9223372036854775807 := hl
  refine exec_sound (n := 1000) EIndex_ok FIndex_ok ?_
  refine holds_of_eq (EIndex_t l v) ?_
  refine Reach.loop EIndex_ok FIndex_ok (fun i : Nat => EIndex_s2 l v (l.length : Int) (i : Int)) (fun i => i ≤ l.length ∧ idx l v = idxGo l v (l.length - i) i)
    (fun i => l.length - i) 1000 (fun i => ⟨uniq_of rfl, uniq_of rfl⟩) ?_ 0 ⟨by omega, rfl⟩
  rintro i ⟨k1, k2⟩ -
  refine holds_of_eq (EIndex_l2 ..) ?_
  simp only [holds_cond, Tree.holds, decide_eq_true_eq, decide_eq_false_iff_not, Int.toNat_natCast]
  refine ⟨fun a => ?_, fun a => ?_⟩
  · have hi : i < l.length := by omega
    rw [idxGo_step hi] at k2
    refine ⟨⟨by omega, by omega⟩, fun _ => ⟨fun b => ?_, fun b => ⟨⟨?_, ?_⟩, fun _ => .inl ⟨trivial, trivial, i + 1, rfl, ⟨hi, ?_⟩, by omega⟩⟩⟩⟩
    · show (((i : Int), ()) : Int × Unit) = (idx l v, ())
      rw [k2, if_pos b]
    · show (-9223372036854775808 : Int) ≤ _; omega
    · show _ ≤ (9223372036854775807 : Int); omega
    · rw [k2, if_neg b]
  · have hi : i = l.length := by omega
    show (((-1 : Int), ()) : Int × Unit) = (idx l v, ())
    rw [k2, hi, Nat.sub_self]; rfl

def contains (l : List Int) (v : Int) : Bool := decide (v ∈ l)
def ccont : Ctr := { ps := [.v (.slc false I64), .v I64], rs := [.bool], pre := fun _ => True, fn := fun x => (contains x.1 x.2.1, ()), out := fun _ => () }
noncomputable def EContains : Env := { P := Try.prog, tt := tt, ctr := [(40, cidx)], res := [Go.ResultVar.tmp 4], rs := [Ty.bool], ps := [PK.v (Ty.slc false (Ty.int IntKind.i64)), PK.v (Ty.int IntKind.i64)], cuts := [], nt := 9 }
theorem EContains_ok : EnvOk EContains := envOk tt_ok ⟨cidx_valid, trivial⟩
theorem FContains_ok : FnOk EContains Try.f31 := ⟨rfl, rfl⟩
theorem EContains_t (x0 : List Int) (x1 : Int) : exec EContains 1000 [.code (bodyOf Try.prog 31)] (initSt ccont.ps ((x0, x1, ()))) =
  .need (True) (.ret ((decide ((0 : Int) ≤ idx x0 x1), ()))) := by kernel_rfl
theorem ccont_valid : ccont.Valid Try.prog 31 := by
  refine Ctr.valid_of EContains_ok rfl rfl Try.func31 (c := bodyOf Try.prog 31) rfl rfl FContains_ok rfl ?_
  rintro ⟨(l : List Int), (v : Int), ⟨⟩⟩ - -
  refine exec_sound (n := 1000) EContains_ok FContains_ok ?_
  refine holds_of_eq (EContains_t l v) ?_
  refine ⟨trivial, fun _ => ?_⟩
  show ((decide (0 ≤ idx l v), ()) : Bool × Unit) = (decide (v ∈ l), ())
  rw [decide_eq_decide.2 idx_mem]

/-! Tick -/
def due (me w : Int) (hd pc : List Int) (dd : List Bool) (i : Nat) : Bool := decide ((i : Int) ≠ me) && !dd.getD i false && decide (pc.getD i 0 < w - hd.getD i 0)
def tickGo (me w : Int) (hd pc : List Int) : Nat → Nat → List Bool → List Int → List Bool × List Int
  | 0, _, dd, lost => (dd, lost)
  | k + 1, i, dd, lost => if due me w hd pc dd i = true then tickGo me w hd pc k (i + 1) (dd.set i true) (lost ++ [(i : Int)]) else tickGo me w hd pc k (i + 1) dd lost
def tick (p : PulseD) : PulseD × List Int × Int × Unit :=
  if pcheck p ≠ 0 then (zeroP, [], pcheck p, ()) else if p.2.1 = 16777215 then (zeroP, [], 8, ()) else
    let hd := p.2.2.1.set p.1.toNat (p.2.1 + 1)
    let r := tickGo p.1 (p.2.1 + 1) hd p.2.2.2.1 6 0 p.2.2.2.2.1 []
    ((p.1, p.2.1 + 1, hd, p.2.2.2.1, r.1, ()), r.2, 0, ())
def ctick : Ctr := { ps := [.v Pulse], rs := [Pulse, .slc true I64, I64], pre := fun _ => True, fn := fun x => tick x.1, out := fun _ => () }
noncomputable def ETick : Env := { P := Try.prog, tt := tt, ctr := [(30, cpcheck)], res := [Go.ResultVar.cell 2 41, Go.ResultVar.tmp 3, Go.ResultVar.tmp 4], rs := [Ty.pair (Ty.int IntKind.i64) (Ty.pair (Ty.int IntKind.i64) (Ty.pair (Ty.arr 6 (Ty.int IntKind.i64)) (Ty.pair (Ty.arr 6 (Ty.int IntKind.i64)) (Ty.pair (Ty.arr 6 Ty.bool) Ty.unit)))), Ty.slc true (Ty.int IntKind.i64), Ty.int IntKind.i64], ps := [PK.v Pulse], cuts := [(10, [(1, none), (2, none), (6, some (Ty.slc true (Ty.int IntKind.i64))), (28, none)])], nt := 66 }
theorem ETick_ok : EnvOk ETick := envOk tt_ok ⟨cpcheck_valid, trivial⟩
theorem FTick_ok : FnOk ETick Try.f29 := ⟨rfl, rfl⟩
theorem ETick_t (x0_1 : Int) (x0_2_1 : Int) (x0_2_2_1 : List Int) (x0_2_2_2_1 : List Int) (x0_2_2_2_2_1 : List Bool) : exec ETick 1000 [.code (bodyOf Try.prog 29)] (initSt ctick.ps (((x0_1, x0_2_1, x0_2_2_1, x0_2_2_2_1, x0_2_2_2_2_1, ()), ()))) =
  .need (True) (cond (decide (pcheck (x0_1, x0_2_1, x0_2_2_1, x0_2_2_2_1, x0_2_2_2_2_1, ()) ≠ (0 : Int))) (.ret ((((0 : Int), (0 : Int), [(0 : Int), (0 : Int), (0 : Int), (0 : Int), (0 : Int), (0 : Int)], [(0 : Int), (0 : Int), (0 : Int), (0 : Int), (0 : Int), (0 : Int)], [false, false, false, false, false, false], ()), [], pcheck (x0_1, x0_2_1, x0_2_2_1, x0_2_2_2_1, x0_2_2_2_2_1, ()), ()))) (cond (decide (x0_2_1 = (16777215 : Int))) (.ret ((((0 : Int), (0 : Int), [(0 : Int), (0 : Int), (0 : Int), (0 : Int), (0 : Int), (0 : Int)], [(0 : Int), (0 : Int), (0 : Int), (0 : Int), (0 : Int), (0 : Int)], [false, false, false, false, false, false], ()), [], (8 : Int), ()))) (.need (inK IntKind.i64 (x0_2_1 + (1 : Int))) (.need ((0 : Int) ≤ x0_1 ∧ x0_1 < (↑6 : Int)) (.cut (loopAt (bodyOf Try.prog 29) 10).1 (loopAt (bodyOf Try.prog 29) 10).2 (St.mk [(1, AV.ptr 1 []), (2, AV.ptr 2 []), (6, AV.at_ 1000006 []), (28, AV.val (Ty.int IntKind.i64) (0 : Int))] [(1, Ent.var Pulse (x0_1, x0_2_1 + (1 : Int), List.set x0_2_2_1 (Int.toNat x0_1) (x0_2_1 + (1 : Int)), x0_2_2_2_1, x0_2_2_2_2_1, ())), (2, Ent.var Pulse ((0 : Int), (0 : Int), [(0 : Int), (0 : Int), (0 : Int), (0 : Int), (0 : Int), (0 : Int)], [(0 : Int), (0 : Int), (0 : Int), (0 : Int), (0 : Int), (0 : Int)], [false, false, false, false, false, false], ())), (1000006, Ent.own (Ty.slc true (Ty.int IntKind.i64)) [])])))))) := by kernel_rfl
def ETick_s10 (v28 : Int) (o1_1 : Int) (o1_2_1 : Int) (o1_2_2_1 : List Int) (o1_2_2_2_1 : List Int) (o1_2_2_2_2_1 : List Bool) (o2_1 : Int) (o2_2_1 : Int) (o2_2_2_1 : List Int) (o2_2_2_2_1 : List Int) (o2_2_2_2_2_1 : List Bool) (o1000006 : List Int) : St := St.mk [(1, AV.ptr 1 []), (2, AV.ptr 2 []), (6, AV.at_ 1000006 []), (28, AV.val (Ty.int IntKind.i64) v28)] [(1, Ent.var Pulse (o1_1, o1_2_1, o1_2_2_1, o1_2_2_2_1, o1_2_2_2_2_1, ())), (2, Ent.var Pulse (o2_1, o2_2_1, o2_2_2_1, o2_2_2_2_1, o2_2_2_2_2_1, ())), (1000006, Ent.own (Ty.slc true (Ty.int IntKind.i64)) o1000006)]
theorem ETick_l10 (v28 : Int) (o1_1 : Int) (o1_2_1 : Int) (o1_2_2_1 : List Int) (o1_2_2_2_1 : List Int) (o1_2_2_2_2_1 : List Bool) (o2_1 : Int) (o2_2_1 : Int) (o2_2_2_1 : List Int) (o2_2_2_2_1 : List Int) (o2_2_2_2_2_1 : List Bool) (o1000006 : List Int) : exec ETick 1000 (.code (loopAt (bodyOf Try.prog 29) 10).1 :: .inLoop (loopAt (bodyOf Try.prog 29) 10).1 :: (loopAt (bodyOf Try.prog 29) 10).2) (ETick_s10 v28 o1_1 o1_2_1 o1_2_2_1 o1_2_2_2_1 o1_2_2_2_2_1 o2_1 o2_2_1 o2_2_2_1 o2_2_2_2_1 o2_2_2_2_2_1 o1000006) =
  cond (decide (v28 < (6 : Int))) (cond (decide (v28 ≠ o1_1)) (.need ((0 : Int) ≤ v28 ∧ v28 < (↑6 : Int)) (cond (!List.getD o1_2_2_2_2_1 (Int.toNat v28) false) (.need ((0 : Int) ≤ v28 ∧ v28 < (↑6 : Int)) (.need (inK IntKind.i64 (o1_2_1 - List.getD o1_2_2_1 (Int.toNat v28) (0 : Int))) (.need ((0 : Int) ≤ v28 ∧ v28 < (↑6 : Int)) (cond (decide (List.getD o1_2_2_2_1 (Int.toNat v28) (0 : Int) < o1_2_1 - List.getD o1_2_2_1 (Int.toNat v28) (0 : Int))) (.need ((0 : Int) ≤ v28 ∧ v28 < (↑6 : Int)) (.need (List.length o1000006 + List.length (List.set [(0 : Int)] (Int.toNat (↑0 : Int)) v28) ≤ 140737488355328 ∧ (List.length o1000006 + List.length (List.set [(0 : Int)] (Int.toNat (↑0 : Int)) v28)) * Ty.wb (Ty.int IntKind.i64) ≤ 140737488355328) (.need (inK IntKind.i64 (v28 + (1 : Int))) (.cut (loopAt (bodyOf Try.prog 29) 10).1 (loopAt (bodyOf Try.prog 29) 10).2 (St.mk [(1, AV.ptr 1 []), (2, AV.ptr 2 []), (6, AV.at_ 1000006 []), (28, AV.val (Ty.int IntKind.i64) (v28 + (1 : Int)))] [(1, Ent.var Pulse (o1_1, o1_2_1, o1_2_2_1, o1_2_2_2_1, List.set o1_2_2_2_2_1 (Int.toNat v28) true, ())), (2, Ent.var Pulse (o2_1, o2_2_1, o2_2_2_1, o2_2_2_2_1, o2_2_2_2_2_1, ())), (1000006, Ent.own (Ty.slc true (Ty.int IntKind.i64)) (o1000006 ++ List.set [(0 : Int)] (Int.toNat (↑0 : Int)) v28))]))))) (.need (inK IntKind.i64 (v28 + (1 : Int))) (.cut (loopAt (bodyOf Try.prog 29) 10).1 (loopAt (bodyOf Try.prog 29) 10).2 (St.mk [(1, AV.ptr 1 []), (2, AV.ptr 2 []), (6, AV.at_ 1000006 []), (28, AV.val (Ty.int IntKind.i64) (v28 + (1 : Int)))] [(1, Ent.var Pulse (o1_1, o1_2_1, o1_2_2_1, o1_2_2_2_1, o1_2_2_2_2_1, ())), (2, Ent.var Pulse (o2_1, o2_2_1, o2_2_2_1, o2_2_2_2_1, o2_2_2_2_2_1, ())), (1000006, Ent.own (Ty.slc true (Ty.int IntKind.i64)) o1000006)]))))))) (.need (inK IntKind.i64 (v28 + (1 : Int))) (.cut (loopAt (bodyOf Try.prog 29) 10).1 (loopAt (bodyOf Try.prog 29) 10).2 (St.mk [(1, AV.ptr 1 []), (2, AV.ptr 2 []), (6, AV.at_ 1000006 []), (28, AV.val (Ty.int IntKind.i64) (v28 + (1 : Int)))] [(1, Ent.var Pulse (o1_1, o1_2_1, o1_2_2_1, o1_2_2_2_1, o1_2_2_2_2_1, ())), (2, Ent.var Pulse (o2_1, o2_2_1, o2_2_2_1, o2_2_2_2_1, o2_2_2_2_2_1, ())), (1000006, Ent.own (Ty.slc true (Ty.int IntKind.i64)) o1000006)]))))) (.need (inK IntKind.i64 (v28 + (1 : Int))) (.cut (loopAt (bodyOf Try.prog 29) 10).1 (loopAt (bodyOf Try.prog 29) 10).2 (St.mk [(1, AV.ptr 1 []), (2, AV.ptr 2 []), (6, AV.at_ 1000006 []), (28, AV.val (Ty.int IntKind.i64) (v28 + (1 : Int)))] [(1, Ent.var Pulse (o1_1, o1_2_1, o1_2_2_1, o1_2_2_2_1, o1_2_2_2_2_1, ())), (2, Ent.var Pulse (o2_1, o2_2_1, o2_2_2_1, o2_2_2_2_1, o2_2_2_2_2_1, ())), (1000006, Ent.own (Ty.slc true (Ty.int IntKind.i64)) o1000006)])))) (.ret (((o1_1, o1_2_1, o1_2_2_1, o1_2_2_2_1, o1_2_2_2_2_1, ()), o1000006, (0 : Int), ()))) := by kernel_rfl
theorem tickGo_step {me w : Int} {hd pc : List Int} {i : Nat} {dd : List Bool} {lost : List Int} (h : i < 6) :
    tickGo me w hd pc (6 - i) i dd lost = if due me w hd pc dd i = true then tickGo me w hd pc (6 - (i + 1)) (i + 1) (dd.set i true) (lost ++ [(i : Int)]) else tickGo me w hd pc (6 - (i + 1)) (i + 1) dd lost := by
  rw [show 6 - i = (6 - (i + 1)) + 1 by omega, tickGo]
theorem getD_set {α : Type} {l : List α} {i j : Nat} {x d : α} (h : i < l.length) : (l.set i x).getD j d = if j = i then x else l.getD j d := by
  rw [List.getD_eq_getElem?_getD, List.getD_eq_getElem?_getD, List.getElem?_set]
  by_cases e : i = j
  · subst e; simp [h]
  · rw [if_neg e, if_neg (fun h => e h.symm)]

theorem ctick_valid : ctick.Valid Try.prog 29 := by
  refine Ctr.valid_of ETick_ok rfl rfl Try.func29 (c := bodyOf Try.prog 29) rfl rfl FTick_ok rfl ?_
  rintro ⟨⟨(me : Int), (w : Int), (hd : List Int), (pc : List Int), (dd : List Bool), ⟨⟩⟩, ⟨⟩⟩ - ⟨⟨-, -, ⟨hhl, -⟩, ⟨hpl, -⟩, ⟨hdl, -⟩, -⟩, -⟩
  have hhl : hd.length = 6 := hhl
  refine exec_sound (n := 1000) ETick_ok FTick_ok ?_
  refine holds_of_eq (ETick_t me w hd pc dd) ?_
  simp only [holds_cond, Tree.holds, decide_eq_true_eq, decide_eq_false_iff_not]
  refine ⟨trivial, fun _ => ⟨fun a => ?_, fun a => ⟨fun b => ?_, fun b => ?_⟩⟩⟩
  · show ((zeroP, [], pcheck (me, w, hd, pc, dd, ()), ()) : PulseD × List Int × Int × Unit) = tick (me, w, hd, pc, dd, ())
    rw [tick, if_pos a]
  · show ((zeroP, [], 8, ()) : PulseD × List Int × Int × Unit) = tick (me, w, hd, pc, dd, ())
    rw [tick, if_neg a, if_pos b]
  · obtain ⟨hm, hw, hall, _⟩ := pcheck_inv (Decidable.of_not_not a)
    have hm : 0 ≤ me ∧ me ≤ 5 := hm
    have hw : 0 ≤ w ∧ w ≤ 16777215 := hw
    have hall : ∀ i, i < 6 → (0 ≤ hd.getD i 0 ∧ hd.getD i 0 ≤ w) ∧ 1 ≤ pc.getD i 0 ∧ pc.getD i 0 ≤ 1000 := hall
    have hres : tick (me, w, hd, pc, dd, ()) = ((me, w + 1, hd.set me.toNat (w + 1), pc, (tickGo me (w + 1) (hd.set me.toNat (w + 1)) pc 6 0 dd []).1, ()), (tickGo me (w + 1) (hd.set me.toNat (w + 1)) pc 6 0 dd []).2, 0, ()) := by
      rw [tick, if_neg a, if_neg b]
    refine ⟨⟨?_, ?_⟩, fun _ => ⟨⟨by omega, by omega⟩, fun _ => ?_⟩⟩
    · show (-9223372036854775808 : Int) ≤ _; omega
    · show _ ≤ (9223372036854775807 : Int); omega
    generalize hh : hd.set me.toNat (w + 1) = hd' at hres
    have hrange : ∀ i, i < 6 → 0 ≤ hd'.getD i 0 ∧ hd'.getD i 0 ≤ w + 1 := by
      intro i hi
      rw [← hh, getD_set (by omega)]
      split
      · omega
      · have := (hall i hi).1; omega
    refine Reach.loop ETick_ok FTick_ok (fun q : Nat × List Bool × List Int => ETick_s10 (q.1 : Int) me (w + 1) hd' pc q.2.1 0 0 [0, 0, 0, 0, 0, 0] [0, 0, 0, 0, 0, 0] [false, false, false, false, false, false] q.2.2)
      (fun q => q.1 ≤ 6 ∧ q.2.2.length ≤ q.1 ∧ tickGo me (w + 1) hd' pc 6 0 dd [] = tickGo me (w + 1) hd' pc (6 - q.1) q.1 q.2.1 q.2.2)
      (fun q => 6 - q.1) 1000 (fun q => ⟨uniq_of rfl, uniq_of rfl⟩) ?_ (0, dd, []) ⟨by omega, by simp, rfl⟩
    rintro ⟨i, dd1, lost⟩ ⟨k1, k2, k3⟩ -
    have k1 : i ≤ 6 := k1
    have k2 : lost.length ≤ i := k2
    have k3 : tickGo me (w + 1) hd' pc 6 0 dd [] = tickGo me (w + 1) hd' pc (6 - i) i dd1 lost := k3
    refine holds_of_eq (ETick_l10 ..) ?_
    simp only [holds_cond, Tree.holds, decide_eq_true_eq, decide_eq_false_iff_not, Int.toNat_natCast, Bool.not_eq_true', Bool.not_eq_false']
    refine ⟨fun c => ?_, fun c => ?_⟩
    · have hi : i < 6 := by omega
      have hin : @LE.le Int Int.instLEInt 0 (i : Int) ∧ @LT.lt Int Int.instLTInt (i : Int) ((6 : Nat) : Int) := ⟨by omega, by omega⟩
      have hk : inK .i64 ((i : Int) + 1) := inc_in (by omega)
      have hs : inK .i64 (w + 1 - hd'.getD i 0) := by
        have := hrange i hi
        constructor
        · show (-9223372036854775808 : Int) ≤ _; omega
        · show _ ≤ (9223372036854775807 : Int); omega
      rw [tickGo_step hi] at k3
      have skip : due me (w + 1) hd' pc dd1 i = false → ∃ x' : Nat × List Bool × List Int, ETick_s10 ((i : Int) + 1) me (w + 1) hd' pc dd1 0 0 [0, 0, 0, 0, 0, 0] [0, 0, 0, 0, 0, 0] [false, false, false, false, false, false] lost = ETick_s10 (x'.1 : Int) me (w + 1) hd' pc x'.2.1 0 0 [0, 0, 0, 0, 0, 0] [0, 0, 0, 0, 0, 0] [false, false, false, false, false, false] x'.2.2 ∧
          (x'.1 ≤ 6 ∧ x'.2.2.length ≤ x'.1 ∧ tickGo me (w + 1) hd' pc 6 0 dd [] = tickGo me (w + 1) hd' pc (6 - x'.1) x'.1 x'.2.1 x'.2.2) ∧ 6 - x'.1 < 6 - i := by
        intro hdue
        exact ⟨(i + 1, dd1, lost), rfl, ⟨by show i + 1 ≤ 6; omega, by show lost.length ≤ i + 1; omega, by rw [k3, hdue]; rfl⟩, by show 6 - (i + 1) < 6 - i; omega⟩
      refine ⟨fun d => ⟨hin, fun _ => ⟨fun e => ⟨hin, fun _ => ⟨hs, fun _ => ⟨hin, fun _ => ⟨fun f => ⟨hin, fun _ => ⟨?_, fun _ => ⟨hk, fun _ => .inl ⟨trivial, trivial, (i + 1, dd1.set i true, lost ++ [(i : Int)]), rfl, ⟨by show i + 1 ≤ 6; omega, by show (lost ++ [(i : Int)]).length ≤ i + 1; simp; omega, ?_⟩, by show 6 - (i + 1) < 6 - i; omega⟩⟩⟩⟩, fun f => ⟨hk, fun _ => .inl ⟨trivial, trivial, skip ?_⟩⟩⟩⟩⟩⟩, fun e => ⟨hk, fun _ => .inl ⟨trivial, trivial, skip ?_⟩⟩⟩⟩, fun d => ⟨hk, fun _ => .inl ⟨trivial, trivial, skip ?_⟩⟩⟩
      · have : (List.set [(0 : Int)] 0 (i : Int)).length = 1 := rfl
        constructor
        · show lost.length + 1 ≤ 140737488355328; omega
        · show (lost.length + 1) * 8 ≤ 140737488355328; omega
      · have hdue : due me (w + 1) hd' pc dd1 i = true := by simp only [due, decide_eq_true d, e, decide_eq_true f, Bool.not_false, Bool.and_self]
        rw [k3, hdue]; rfl
      · simp only [due, decide_eq_false f, Bool.and_false]
      · simp only [due, e, Bool.not_true, Bool.and_false, Bool.false_and]
      · simp only [due, decide_eq_false d, Bool.false_and]
    · have hi : i = 6 := by omega
      subst hi
      show (((me, w + 1, hd', pc, dd1, ()), lost, 0, ()) : PulseD × List Int × Int × Unit) = tick (me, w, hd, pc, dd, ())
      rw [hres, k3]; rfl
end Go.Proofs.Ytagjonjobbckdaa
