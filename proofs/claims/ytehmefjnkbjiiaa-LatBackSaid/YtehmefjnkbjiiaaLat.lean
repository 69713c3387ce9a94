/- The contracts of the package lat's functions. -/
import Derived.Test.YtehmefjnkbjiiaaLatH
import Derived.Test.YtehmefjnkbjiiaaDowns
namespace Go.Proofs.Ytehmefjnkbjiiaa
open Go.Ex
set_option maxRecDepth 100000
theorem wb_u16 : Ty.wb (Ty.int IntKind.u16) = 2 := rfl
def zidx (l : List Int) (n : Nat) : List (Int × Int) := (List.range n).map (fun i => (l.getD i 0, (i : Int)))
theorem zidx_succ {l : List Int} {n : Nat} : zidx l (n + 1) = zidx l n ++ [(l.getD n 0, (n : Int))] := by rw [zidx, List.range_succ, List.map_append]; rfl
theorem zidx_get {l : List Int} {x : Int} : (mget (eqD U16) x (zidx l l.length)).isSome = decide (x ∈ l) := by
  rw [mget_isSome]
  have : (zidx l l.length).any (fun p => eqD U16 x p.1) = true ↔ x ∈ l := by
    rw [List.any_eq_true]
    constructor
    · rintro ⟨p, hp, h⟩
      obtain ⟨i, hi, rfl⟩ := List.mem_map.1 hp
      have h : x = l.getD i 0 := of_decide_eq_true h
      rw [h]; exact getD_mem (List.mem_range.1 hi)
    · intro h
      obtain ⟨i, hi, e⟩ := mem_getD (d := 0) h
      exact ⟨(l.getD i 0, (i : Int)), List.mem_map.2 ⟨i, List.mem_range.2 hi, rfl⟩, decide_eq_true e.symm⟩
  cases e : (zidx l l.length).any (fun p => eqD U16 x p.1) with
  | true => rw [decide_eq_true (this.1 e)]
  | false => rw [decide_eq_false (fun h => by rw [this.2 h] at e; cases e)]
theorem idx_notmem {l : List Int} (h : l.Nodup) {i j : Nat} (hi : i < l.length) (hj : j < l.length) (e : l.getD i 0 = l.getD j 0) : i = j := by
  have hp := List.pairwise_iff_getElem.1 h
  rw [List.getD_eq_getElem?_getD, List.getD_eq_getElem?_getD, List.getElem?_eq_getElem hi, List.getElem?_eq_getElem hj] at e
  have e : l[i] = l[j] := e
  rcases Nat.lt_trichotomy i j with h1 | h1 | h1
  · exact absurd e (hp i j hi hj h1)
  · exact h1
  · exact absurd e.symm (hp j i hj hi h1)
def cindices : Ctr := { ps := [.v (.slc false U16)], rs := [.map true U16 I64], pre := fun x => List.Nodup (α := Int) x.1, fn := fun x => (some (zidx x.1 (List.length x.1)), ()), out := fun _ => () }
noncomputable def Eindices : Env := { P := Try.prog, tt := tt, ctr := [], res := [Go.ResultVar.tmp 2], rs := [Ty.map true (Ty.int IntKind.u16) (Ty.int IntKind.i64)], ps := [PK.v (Ty.slc false (Ty.int IntKind.u16))], cuts := [(3, [(3, some (Ty.map true (Ty.int IntKind.u16) (Ty.int IntKind.i64))), (7, none), (8, none), (9, none)])], nt := 19 }
theorem Eindices_ok : EnvOk Eindices := envOk tt_ok trivial
theorem Findices_ok : FnOk Eindices Try.f107 := ⟨rfl, rfl⟩
theorem Eindices_t (x0 : List Int) : exec Eindices 1000 [.code (bodyOf Try.prog 107)] (initSt cindices.ps ((x0, ()))) =
  .cut (loopAt (bodyOf Try.prog 107) 3).1 (loopAt (bodyOf Try.prog 107) 3).2 (St.mk [(3, AV.at_ 1000003 []), (7, AV.val (Ty.slc false (Ty.int IntKind.u16)) x0), (8, AV.val (Ty.int IntKind.i64) (↑(List.length x0) : Int)), (9, AV.val (Ty.int IntKind.i64) (0 : Int))] [(1000003, Ent.own (Ty.map true (Ty.int IntKind.u16) (Ty.int IntKind.i64)) (some []))]) := by kernel_rfl
def Eindices_s3 (v7 : List Int) (v8 : Int) (v9 : Int) (o1000003 : List (Int × Int)) : St := St.mk [(3, AV.at_ 1000003 []), (7, AV.val (Ty.slc false (Ty.int IntKind.u16)) v7), (8, AV.val (Ty.int IntKind.i64) v8), (9, AV.val (Ty.int IntKind.i64) v9)] [(1000003, Ent.own (Ty.map true (Ty.int IntKind.u16) (Ty.int IntKind.i64)) (some o1000003))]
theorem Eindices_l3 (v7 : List Int) (v8 : Int) (v9 : Int) (o1000003 : List (Int × Int)) : exec Eindices 1000 (.code (loopAt (bodyOf Try.prog 107) 3).1 :: .inLoop (loopAt (bodyOf Try.prog 107) 3).1 :: (loopAt (bodyOf Try.prog 107) 3).2) (Eindices_s3 v7 v8 v9 o1000003) =
  cond (decide (v9 < v8)) (.need ((0 : Int) ≤ v9 ∧ v9 < (↑(List.length v7) : Int)) (.need (inK IntKind.i64 (v9 + (1 : Int))) (.cut (loopAt (bodyOf Try.prog 107) 3).1 (loopAt (bodyOf Try.prog 107) 3).2 (St.mk [(3, AV.at_ 1000003 []), (7, AV.val (Ty.slc false (Ty.int IntKind.u16)) v7), (8, AV.val (Ty.int IntKind.i64) v8), (9, AV.val (Ty.int IntKind.i64) (v9 + (1 : Int)))] [(1000003, Ent.own (Ty.map true (Ty.int IntKind.u16) (Ty.int IntKind.i64)) (some (mput (eqD (Ty.int IntKind.u16)) (List.getD v7 (Int.toNat v9) (0 : Int)) v9 o1000003)))])))) (.ret ((some o1000003, ()))) := by kernel_rfl
theorem cindices_valid : cindices.Valid Try.prog 107 := by
  refine Ctr.valid_of Eindices_ok rfl rfl Try.func107 (c := bodyOf Try.prog 107) rfl rfl Findices_ok rfl ?_
  rintro ⟨(l : List Int), ⟨⟩⟩ (hn : l.Nodup) ⟨⟨hl, -⟩, -⟩
  have hl : l.length ≤ 9223372036854775807 := hl
  refine exec_sound (n := 1000) Eindices_ok Findices_ok ?_
  refine holds_of_eq (Eindices_t l) ?_
  refine Reach.loopI Eindices_ok Findices_ok (fun i : Nat => Eindices_s3 l (l.length : Int) (i : Int) (zidx l i)) (fun i => i ≤ l.length)
    (fun i => l.length - i) 1000 (fun _ => ⟨uniq_of rfl, uniq_of rfl⟩) ?_ 0 (Nat.zero_le _)
  rintro i k1 - ih
  have k1 : i ≤ l.length := k1
  refine holds_of_eq (Eindices_l3 ..) ?_
  simp only [holds_cond, Tree.holds, true_and, true_implies, decide_eq_true_eq, decide_eq_false_iff_not, Bool.not_eq_true', Bool.not_eq_false', Int.toNat_natCast, inK_i64, List.length_set, List.length_cons, List.length_nil]
  refine ⟨fun c => ⟨by omega, fun _ => ⟨by omega, fun _ => ?_⟩⟩, fun c => ?_⟩
  · have := ih (i + 1) (by show i + 1 ≤ l.length; omega) (by omega)
    rw [zidx_succ] at this
    rw [mput_new]
    · exact this
    · intro p hp
      obtain ⟨j, hj, rfl⟩ := List.mem_map.1 hp
      have hj := List.mem_range.1 hj
      refine decide_eq_false (fun e => ?_)
      have := idx_notmem hn (show i < l.length by omega) (show j < l.length by omega) e
      omega
  · obtain rfl : i = l.length := by omega
    rfl
theorem lscan_step {l : List Int} {i : Nat} (hi : i < l.length) {p : Option Int} : lscan p (l.drop i) = if l.getD i 0 / 4096 ≠ 0 then 1 else if befU p (l.getD i 0) = true then 4 else lscan (some (l.getD i 0)) (l.drop (i + 1)) := by
  rw [drop_getD hi 0, lscan]
def preU (l : List Int) (i : Nat) : Option Int := if i = 0 then none else some (l.getD (i - 1) 0)
def clcheck : Ctr := { ps := [.v (.slc false U16)], rs := [I64], pre := fun _ => True, fn := fun x => (lcheck x.1, ()), out := fun _ => () }
noncomputable def Elcheck : Env := { P := Try.prog, tt := tt, ctr := [(107, cindices)], res := [Go.ResultVar.tmp 2], rs := [Ty.int IntKind.i64], ps := [PK.v (Ty.slc false (Ty.int IntKind.u16))], cuts := [(6, [(0, none), (26, none), (27, none), (28, none)]), (17, [(0, none), (5, some (Ty.map true (Ty.int IntKind.u16) (Ty.int IntKind.i64))), (55, none), (56, none), (57, none)]), (20, [(0, none), (5, some (Ty.map true (Ty.int IntKind.u16) (Ty.int IntKind.i64))), (7, none), (55, none), (56, none), (57, none), (61, none), (62, none), (63, none)])], nt := 91 }
theorem Elcheck_ok : EnvOk Elcheck := envOk tt_ok ⟨cindices_valid, trivial⟩
theorem Flcheck_ok : FnOk Elcheck Try.f99 := ⟨rfl, rfl⟩
theorem Elcheck_t (x0 : List Int) : exec Elcheck 1000 [.code (bodyOf Try.prog 99)] (initSt clcheck.ps ((x0, ()))) =
  cond (decide ((↑(List.length x0) : Int) < (1 : Int))) (.ret (((2 : Int), ()))) (cond (decide ((4096 : Int) < (↑(List.length x0) : Int))) (.ret (((2 : Int), ()))) (.need ((0 : Int) ≤ (0 : Int) ∧ (0 : Int) < (↑(List.length x0) : Int)) (cond (decide (List.getD x0 (Int.toNat (0 : Int)) (0 : Int) ≠ (0 : Int))) (.ret (((4 : Int), ()))) (.cut (loopAt (bodyOf Try.prog 99) 6).1 (loopAt (bodyOf Try.prog 99) 6).2 (St.mk [(0, AV.val (Ty.slc false (Ty.int IntKind.u16)) x0), (26, AV.val (Ty.slc false (Ty.int IntKind.u16)) x0), (27, AV.val (Ty.int IntKind.i64) (↑(List.length x0) : Int)), (28, AV.val (Ty.int IntKind.i64) (0 : Int))] []))))) := by kernel_rfl
def Elcheck_s6 (v0 : List Int) (v26 : List Int) (v27 : Int) (v28 : Int) : St := St.mk [(0, AV.val (Ty.slc false (Ty.int IntKind.u16)) v0), (26, AV.val (Ty.slc false (Ty.int IntKind.u16)) v26), (27, AV.val (Ty.int IntKind.i64) v27), (28, AV.val (Ty.int IntKind.i64) v28)] []
theorem Elcheck_l6 (v0 : List Int) (v26 : List Int) (v27 : Int) (v28 : Int) : exec Elcheck 1000 (.code (loopAt (bodyOf Try.prog 99) 6).1 :: .inLoop (loopAt (bodyOf Try.prog 99) 6).1 :: (loopAt (bodyOf Try.prog 99) 6).2) (Elcheck_s6 v0 v26 v27 v28) =
  cond (decide (v28 < v27)) (.need ((0 : Int) ≤ v28 ∧ v28 < (↑(List.length v26) : Int)) (.need ((0 : Int) ≤ (12 : Int)) (cond (decide (List.getD v26 (Int.toNat v28) (0 : Int) / (2 : Int) ^ min (Int.toNat (12 : Int)) (IntKind.bits IntKind.u16) ≠ (0 : Int))) (.ret (((1 : Int), ()))) (cond (decide ((0 : Int) < v28)) (.need (inK IntKind.i64 (v28 - (1 : Int))) (.need ((0 : Int) ≤ v28 - (1 : Int) ∧ v28 - (1 : Int) < (↑(List.length v0) : Int)) (cond (decide (List.getD v26 (Int.toNat v28) (0 : Int) ≤ List.getD v0 (Int.toNat (v28 - (1 : Int))) (0 : Int))) (.ret (((4 : Int), ()))) (.need (inK IntKind.i64 (v28 + (1 : Int))) (.cut (loopAt (bodyOf Try.prog 99) 6).1 (loopAt (bodyOf Try.prog 99) 6).2 (St.mk [(0, AV.val (Ty.slc false (Ty.int IntKind.u16)) v0), (26, AV.val (Ty.slc false (Ty.int IntKind.u16)) v26), (27, AV.val (Ty.int IntKind.i64) v27), (28, AV.val (Ty.int IntKind.i64) (v28 + (1 : Int)))] [])))))) (.need (inK IntKind.i64 (v28 + (1 : Int))) (.cut (loopAt (bodyOf Try.prog 99) 6).1 (loopAt (bodyOf Try.prog 99) 6).2 (St.mk [(0, AV.val (Ty.slc false (Ty.int IntKind.u16)) v0), (26, AV.val (Ty.slc false (Ty.int IntKind.u16)) v26), (27, AV.val (Ty.int IntKind.i64) v27), (28, AV.val (Ty.int IntKind.i64) (v28 + (1 : Int)))] []))))))) (cond (decide ((300 : Int) < (↑(List.length v0) : Int))) (.ret (((2 : Int), ()))) (.need (List.Nodup v0) (.cut (loopAt (bodyOf Try.prog 99) 17).1 (loopAt (bodyOf Try.prog 99) 17).2 (St.mk [(0, AV.val (Ty.slc false (Ty.int IntKind.u16)) v0), (5, AV.at_ 1000005 []), (55, AV.val (Ty.slc false (Ty.int IntKind.u16)) v0), (56, AV.val (Ty.int IntKind.i64) (↑(List.length v0) : Int)), (57, AV.val (Ty.int IntKind.i64) (0 : Int))] [(1000005, Ent.own (Ty.map true (Ty.int IntKind.u16) (Ty.int IntKind.i64)) (some (zidx v0 (List.length v0))))])))) := by kernel_rfl
def Elcheck_s17 (v0 : List Int) (v55 : List Int) (v56 : Int) (v57 : Int) (o1000005 : List (Int × Int)) : St := St.mk [(0, AV.val (Ty.slc false (Ty.int IntKind.u16)) v0), (5, AV.at_ 1000005 []), (55, AV.val (Ty.slc false (Ty.int IntKind.u16)) v55), (56, AV.val (Ty.int IntKind.i64) v56), (57, AV.val (Ty.int IntKind.i64) v57)] [(1000005, Ent.own (Ty.map true (Ty.int IntKind.u16) (Ty.int IntKind.i64)) (some o1000005))]
theorem Elcheck_l17 (v0 : List Int) (v55 : List Int) (v56 : Int) (v57 : Int) (o1000005 : List (Int × Int)) : exec Elcheck 1000 (.code (loopAt (bodyOf Try.prog 99) 17).1 :: .inLoop (loopAt (bodyOf Try.prog 99) 17).1 :: (loopAt (bodyOf Try.prog 99) 17).2) (Elcheck_s17 v0 v55 v56 v57 o1000005) =
  cond (decide (v57 < v56)) (.need ((0 : Int) ≤ v57 ∧ v57 < (↑(List.length v55) : Int)) (.cut (loopAt (bodyOf Try.prog 99) 20).1 (loopAt (bodyOf Try.prog 99) 20).2 (St.mk [(0, AV.val (Ty.slc false (Ty.int IntKind.u16)) v0), (5, AV.at_ 1000005 []), (7, AV.val (Ty.int IntKind.u16) (List.getD v55 (Int.toNat v57) (0 : Int))), (55, AV.val (Ty.slc false (Ty.int IntKind.u16)) v55), (56, AV.val (Ty.int IntKind.i64) v56), (57, AV.val (Ty.int IntKind.i64) v57), (61, AV.val (Ty.slc false (Ty.int IntKind.u16)) v0), (62, AV.val (Ty.int IntKind.i64) (↑(List.length v0) : Int)), (63, AV.val (Ty.int IntKind.i64) (0 : Int))] [(1000005, Ent.own (Ty.map true (Ty.int IntKind.u16) (Ty.int IntKind.i64)) (some o1000005))]))) (.ret (((0 : Int), ()))) := by kernel_rfl
def Elcheck_s20 (v0 : List Int) (v7 : Int) (v55 : List Int) (v56 : Int) (v57 : Int) (v61 : List Int) (v62 : Int) (v63 : Int) (o1000005 : List (Int × Int)) : St := St.mk [(0, AV.val (Ty.slc false (Ty.int IntKind.u16)) v0), (5, AV.at_ 1000005 []), (7, AV.val (Ty.int IntKind.u16) v7), (55, AV.val (Ty.slc false (Ty.int IntKind.u16)) v55), (56, AV.val (Ty.int IntKind.i64) v56), (57, AV.val (Ty.int IntKind.i64) v57), (61, AV.val (Ty.slc false (Ty.int IntKind.u16)) v61), (62, AV.val (Ty.int IntKind.i64) v62), (63, AV.val (Ty.int IntKind.i64) v63)] [(1000005, Ent.own (Ty.map true (Ty.int IntKind.u16) (Ty.int IntKind.i64)) (some o1000005))]
theorem Elcheck_l20 (v0 : List Int) (v7 : Int) (v55 : List Int) (v56 : Int) (v57 : Int) (v61 : List Int) (v62 : Int) (v63 : Int) (o1000005 : List (Int × Int)) : exec Elcheck 1000 (.code (loopAt (bodyOf Try.prog 99) 20).1 :: .inLoop (loopAt (bodyOf Try.prog 99) 20).1 :: (loopAt (bodyOf Try.prog 99) 20).2) (Elcheck_s20 v0 v7 v55 v56 v57 v61 v62 v63 o1000005) =
  cond (decide (v63 < v62)) (.need ((0 : Int) ≤ v63 ∧ v63 < (↑(List.length v61) : Int)) (cond (!Option.isSome (mget (eqD (Ty.int IntKind.u16)) (bOr IntKind.u16 v7 (List.getD v61 (Int.toNat v63) (0 : Int))) (Option.getD (some o1000005) []))) (.ret (((4 : Int), ()))) (cond (!Option.isSome (mget (eqD (Ty.int IntKind.u16)) (bAnd IntKind.u16 v7 (List.getD v61 (Int.toNat v63) (0 : Int))) (Option.getD (some o1000005) []))) (.ret (((4 : Int), ()))) (.need (inK IntKind.i64 (v63 + (1 : Int))) (.cut (loopAt (bodyOf Try.prog 99) 20).1 (loopAt (bodyOf Try.prog 99) 20).2 (St.mk [(0, AV.val (Ty.slc false (Ty.int IntKind.u16)) v0), (5, AV.at_ 1000005 []), (7, AV.val (Ty.int IntKind.u16) v7), (55, AV.val (Ty.slc false (Ty.int IntKind.u16)) v55), (56, AV.val (Ty.int IntKind.i64) v56), (57, AV.val (Ty.int IntKind.i64) v57), (61, AV.val (Ty.slc false (Ty.int IntKind.u16)) v61), (62, AV.val (Ty.int IntKind.i64) v62), (63, AV.val (Ty.int IntKind.i64) (v63 + (1 : Int)))] [(1000005, Ent.own (Ty.map true (Ty.int IntKind.u16) (Ty.int IntKind.i64)) (some o1000005))])))))) (.need (inK IntKind.i64 (v57 + (1 : Int))) (.cut (loopAt (bodyOf Try.prog 99) 17).1 (loopAt (bodyOf Try.prog 99) 17).2 (St.mk [(0, AV.val (Ty.slc false (Ty.int IntKind.u16)) v0), (5, AV.at_ 1000005 []), (55, AV.val (Ty.slc false (Ty.int IntKind.u16)) v55), (56, AV.val (Ty.int IntKind.i64) v56), (57, AV.val (Ty.int IntKind.i64) (v57 + (1 : Int)))] [(1000005, Ent.own (Ty.map true (Ty.int IntKind.u16) (Ty.int IntKind.i64)) (some o1000005))]))) := by kernel_rfl
theorem clcheck_valid : clcheck.Valid Try.prog 99 := by
  refine Ctr.valid_of Elcheck_ok rfl rfl Try.func99 (c := bodyOf Try.prog 99) rfl rfl Flcheck_ok rfl ?_
  rintro ⟨(l : List Int), ⟨⟩⟩ - ⟨⟨hl, hr⟩, -⟩
  have hl : l.length ≤ 9223372036854775807 := hl
  refine exec_sound (n := 1000) Elcheck_ok Flcheck_ok ?_
  refine holds_of_eq (Elcheck_t l) ?_
  simp only [holds_cond, Tree.holds, true_and, true_implies, decide_eq_true_eq, decide_eq_false_iff_not, Bool.not_eq_true', Bool.not_eq_false', Int.toNat_natCast, inK_i64, List.length_set, List.length_cons, List.length_nil]
  refine ⟨fun c => ?_, fun c1 => ⟨fun c => ?_, fun c2 => ⟨by omega, fun _ => ⟨fun c => ?_, fun c3 => ?_⟩⟩⟩⟩
  · show ((2, ()) : Int × Unit) = (lcheck l, ()); rw [lcheck, if_pos (.inl (by omega))]
  · show ((2, ()) : Int × Unit) = (lcheck l, ()); rw [lcheck, if_pos (.inr (by omega))]
  · show ((4, ()) : Int × Unit) = (lcheck l, ()); have c : l.getD 0 0 ≠ 0 := c; rw [lcheck, if_neg (by omega), if_pos c]
  have c3 : ¬ l.getD 0 0 ≠ 0 := c3
  have hc : lcheck l = if lscan none l ≠ 0 then lscan none l else if 300 < l.length then 2 else if closedL l = true then 0 else 4 := by
    rw [lcheck, if_neg (by omega), if_neg c3]
  refine Reach.loopI Elcheck_ok Flcheck_ok (fun i : Nat => Elcheck_s6 l l (l.length : Int) (i : Int)) (fun i => i ≤ l.length ∧ lscan none l = lscan (preU l i) (l.drop i))
    (fun i => l.length - i) 1000 (fun _ => ⟨uniq_of rfl, uniq_of rfl⟩) ?_ 0 ⟨Nat.zero_le _, rfl⟩
  rintro i ⟨k1, k2⟩ - ih
  refine holds_of_eq (Elcheck_l6 ..) ?_
  have e12 : (2 : Int) ^ min 12 (IntKind.bits .u16) = 4096 := rfl
  simp only [holds_cond, Tree.holds, true_and, true_implies, decide_eq_true_eq, decide_eq_false_iff_not, Bool.not_eq_true', Bool.not_eq_false', Int.toNat_natCast, inK_i64, List.length_set, List.length_cons, List.length_nil]
  refine ⟨fun c => ?_, fun c => ?_⟩
  · have hi : i < l.length := by omega
    rw [lscan_step hi] at k2
    refine ⟨by omega, fun _ => ⟨by omega, fun _ => ⟨fun c4 => ?_, fun c4 => ?_⟩⟩⟩
    · have c4 : l.getD i 0 / 4096 ≠ 0 := c4
      rw [if_pos c4] at k2
      show ((1, ()) : Int × Unit) = (lcheck l, ()); rw [hc, k2]; rfl
    · have c4 : ¬ l.getD i 0 / 4096 ≠ 0 := c4
      rw [if_neg c4] at k2
      have step : befU (preU l i) (l.getD i 0) ≠ true → lscan none l = lscan (preU l (i + 1)) (l.drop (i + 1)) := by
        intro h; rw [if_neg h] at k2; rw [k2, preU, if_neg (by omega)]; rfl
      refine ⟨fun c5 => ⟨by omega, fun _ => ⟨by omega, fun _ => ⟨fun c6 => ?_, fun c6 => ⟨by omega, fun _ => ih (i + 1) ⟨by omega, step ?_⟩ (by omega)⟩⟩⟩⟩, fun c5 => ⟨by omega, fun _ => ih (i + 1) ⟨by omega, step ?_⟩ (by omega)⟩⟩
      · have e : Int.toNat ((i : Int) - 1) = i - 1 := by omega
        rw [e] at c6
        rw [if_pos (by rw [preU, if_neg (by omega)]; exact decide_eq_true c6)] at k2
        show ((4, ()) : Int × Unit) = (lcheck l, ()); rw [hc, k2]; rfl
      · have e : Int.toNat ((i : Int) - 1) = i - 1 := by omega
        rw [e] at c6
        rw [preU, if_neg (by omega), befU]; exact fun h9 => c6 (of_decide_eq_true h9)
      · rw [preU, if_pos (by omega)]; simp [befU]
  · obtain rfl : i = l.length := by omega
    rw [List.drop_length] at k2
    have k2 : lscan none l = 0 := k2
    rw [k2, if_neg (by omega)] at hc
    refine ⟨fun c4 => ?_, fun c4 => ⟨up_nodup (lscan_up k2).2, fun _ => ?_⟩⟩
    · show ((2, ()) : Int × Unit) = (lcheck l, ()); rw [hc, if_pos (by omega)]
    rw [if_neg (by omega)] at hc
    have no : ∀ {a b : Nat}, a < l.length → b < l.length → ¬ (orU (l.getD a 0) (l.getD b 0) ∈ l ∧ andU (l.getD a 0) (l.getD b 0) ∈ l) → lcheck l = 4 := by
      intro a b ha hb h
      rw [hc, if_neg]
      intro h9
      have := List.all_eq_true.1 (List.all_eq_true.1 h9 _ (getD_mem (d := 0) ha)) _ (getD_mem (d := 0) hb)
      exact h (by simpa using this)
    refine Reach.loopI Elcheck_ok Flcheck_ok (fun i : Nat => Elcheck_s17 l l (l.length : Int) (i : Int) (zidx l l.length)) (fun i => i ≤ l.length ∧ ∀ a, a < i → ∀ b, b < l.length → orU (l.getD a 0) (l.getD b 0) ∈ l ∧ andU (l.getD a 0) (l.getD b 0) ∈ l)
      (fun i => l.length - i) 1000 (fun _ => ⟨uniq_of rfl, uniq_of rfl⟩) ?_ 0 ⟨Nat.zero_le _, fun a ha => by omega⟩
    rintro i ⟨k3, k4⟩ - ih
    refine holds_of_eq (Elcheck_l17 ..) ?_
    simp only [holds_cond, Tree.holds, true_and, true_implies, decide_eq_true_eq, decide_eq_false_iff_not, Bool.not_eq_true', Bool.not_eq_false', Int.toNat_natCast, inK_i64, List.length_set, List.length_cons, List.length_nil]
    refine ⟨fun c => ⟨by omega, fun _ => ?_⟩, fun c => ?_⟩
    · refine Reach.loopI Elcheck_ok Flcheck_ok (fun j : Nat => Elcheck_s20 l (l.getD i 0) l (l.length : Int) (i : Int) l (l.length : Int) (j : Int) (zidx l l.length)) (fun j => j ≤ l.length ∧ ∀ b, b < j → orU (l.getD i 0) (l.getD b 0) ∈ l ∧ andU (l.getD i 0) (l.getD b 0) ∈ l)
        (fun j => l.length - j) 1000 (fun _ => ⟨uniq_of rfl, uniq_of rfl⟩) ?_ 0 ⟨Nat.zero_le _, fun a ha => by omega⟩
      rintro j ⟨k5, k6⟩ - ih2
      refine holds_of_eq (Elcheck_l20 ..) ?_
      have g1 : (mget (eqD (Ty.int IntKind.u16)) (bOr IntKind.u16 (l.getD i 0) (l.getD j 0)) (zidx l l.length)).isSome = decide (orU (l.getD i 0) (l.getD j 0) ∈ l) := zidx_get
      have g2 : (mget (eqD (Ty.int IntKind.u16)) (bAnd IntKind.u16 (l.getD i 0) (l.getD j 0)) (zidx l l.length)).isSome = decide (andU (l.getD i 0) (l.getD j 0) ∈ l) := zidx_get
      simp only [holds_cond, Tree.holds, true_and, true_implies, decide_eq_true_eq, decide_eq_false_iff_not, Bool.not_eq_true', Bool.not_eq_false', Int.toNat_natCast, inK_i64, List.length_set, List.length_cons, List.length_nil, Option.getD_some, g1, g2]
      refine ⟨fun d1 => ⟨by omega, fun _ => ⟨fun d2 => ?_, fun d2 => ⟨fun d3 => ?_, fun d3 => ⟨by omega, fun _ => ih2 (j + 1) ⟨by omega, fun b hb => ?_⟩ (by omega)⟩⟩⟩⟩, fun d1 => ⟨by omega, fun _ => ih (i + 1) ⟨by omega, fun a ha b hb => ?_⟩ (by omega)⟩⟩
      · show ((4, ()) : Int × Unit) = (lcheck l, ()); rw [no (a := i) (b := j) (by omega) (by omega) (fun h => d2 h.1)]
      · show ((4, ()) : Int × Unit) = (lcheck l, ()); rw [no (a := i) (b := j) (by omega) (by omega) (fun h => d3 h.2)]
      · rcases Nat.lt_or_ge b j with h | h
        · exact k6 b h
        · obtain rfl : b = j := by omega
          exact ⟨d2, d3⟩
      · rcases Nat.lt_or_ge a i with h | h
        · exact k4 a h b hb
        · obtain rfl : a = i := by omega
          exact k6 b (by omega)
    · show ((0, ()) : Int × Unit) = (lcheck l, ())
      rw [hc, if_pos]
      rw [closedL, List.all_eq_true]
      intro a ha
      obtain ⟨i', hi', rfl⟩ := mem_getD (d := 0) ha
      refine List.all_eq_true.2 (fun b hb => ?_)
      obtain ⟨j', hj', rfl⟩ := mem_getD (d := 0) hb
      have := k4 i' (by omega) j' hj'
      simpa using this
def cwithinU : Ctr := { ps := [.v U16, .v U16], rs := [.bool], pre := fun _ => True, fn := fun x => (withinU x.1 x.2.1, ()), out := fun _ => () }
noncomputable def EwithinU : Env := { P := Try.prog, tt := tt, ctr := [], res := [Go.ResultVar.tmp 4], rs := [Ty.bool], ps := [PK.v (Ty.int IntKind.u16), PK.v (Ty.int IntKind.u16)], cuts := [], nt := 9 }
theorem EwithinU_ok : EnvOk EwithinU := envOk tt_ok trivial
theorem FwithinU_ok : FnOk EwithinU Try.f81 := ⟨rfl, rfl⟩
theorem EwithinU_t (x0 : Int) (x1 : Int) : exec EwithinU 1000 [.code (bodyOf Try.prog 81)] (initSt cwithinU.ps ((x0, x1, ()))) =
  .ret ((decide (bAndNot IntKind.u16 x0 x1 = (0 : Int)), ())) := by kernel_rfl
theorem cwithinU_valid : cwithinU.Valid Try.prog 81 := by
  refine Ctr.valid_of EwithinU_ok rfl rfl Try.func81 (c := bodyOf Try.prog 81) rfl rfl FwithinU_ok rfl ?_
  rintro ⟨(x0 : Int), (x1 : Int), ⟨⟩⟩ - -
  refine exec_sound (n := 1000) EwithinU_ok FwithinU_ok ?_
  refine holds_of_eq (EwithinU_t x0 x1) ?_
  exact rfl
def firmR (l : List Int) : List Int × Int × Unit := if lcheck l ≠ 0 then ([], lcheck l, ()) else (firmL l, 0, ())
def cfirm : Ctr := { ps := [.v (.slc false U16)], rs := [.slc true U16, I64], pre := fun _ => True, fn := fun x => firmR x.1, out := fun _ => () }
noncomputable def Efirm : Env := { P := Try.prog, tt := tt, ctr := [(99, clcheck), (81, cwithinU)], res := [Go.ResultVar.tmp 2, Go.ResultVar.tmp 3], rs := [Ty.slc true (Ty.int IntKind.u16), Ty.int IntKind.i64], ps := [PK.v (Ty.slc false (Ty.int IntKind.u16))], cuts := [(6, [(0, none), (5, some (Ty.slc true (Ty.int IntKind.u16))), (16, none), (17, none), (18, none)]), (10, [(0, none), (5, some (Ty.slc true (Ty.int IntKind.u16))), (7, none), (8, none), (16, none), (17, none), (18, none), (22, none), (23, none), (24, none)])], nt := 49 }
theorem Efirm_ok : EnvOk Efirm := envOk tt_ok ⟨clcheck_valid, cwithinU_valid, trivial⟩
theorem Ffirm_ok : FnOk Efirm Try.f80 := ⟨rfl, rfl⟩
theorem Efirm_t (x0 : List Int) : exec Efirm 1000 [.code (bodyOf Try.prog 80)] (initSt cfirm.ps ((x0, ()))) =
  .need (True) (cond (decide (lcheck x0 ≠ (0 : Int))) (.ret (([], lcheck x0, ()))) (.cut (loopAt (bodyOf Try.prog 80) 6).1 (loopAt (bodyOf Try.prog 80) 6).2 (St.mk [(0, AV.val (Ty.slc false (Ty.int IntKind.u16)) x0), (5, AV.at_ 1000005 []), (16, AV.val (Ty.slc false (Ty.int IntKind.u16)) x0), (17, AV.val (Ty.int IntKind.i64) (↑(List.length x0) : Int)), (18, AV.val (Ty.int IntKind.i64) (0 : Int))] [(1000005, Ent.own (Ty.slc true (Ty.int IntKind.u16)) [])]))) := by kernel_rfl
def Efirm_s6 (v0 : List Int) (v16 : List Int) (v17 : Int) (v18 : Int) (o1000005 : List Int) : St := St.mk [(0, AV.val (Ty.slc false (Ty.int IntKind.u16)) v0), (5, AV.at_ 1000005 []), (16, AV.val (Ty.slc false (Ty.int IntKind.u16)) v16), (17, AV.val (Ty.int IntKind.i64) v17), (18, AV.val (Ty.int IntKind.i64) v18)] [(1000005, Ent.own (Ty.slc true (Ty.int IntKind.u16)) o1000005)]
theorem Efirm_l6 (v0 : List Int) (v16 : List Int) (v17 : Int) (v18 : Int) (o1000005 : List Int) : exec Efirm 1000 (.code (loopAt (bodyOf Try.prog 80) 6).1 :: .inLoop (loopAt (bodyOf Try.prog 80) 6).1 :: (loopAt (bodyOf Try.prog 80) 6).2) (Efirm_s6 v0 v16 v17 v18 o1000005) =
  cond (decide (v18 < v17)) (.need ((0 : Int) ≤ v18 ∧ v18 < (↑(List.length v16) : Int)) (.cut (loopAt (bodyOf Try.prog 80) 10).1 (loopAt (bodyOf Try.prog 80) 10).2 (St.mk [(0, AV.val (Ty.slc false (Ty.int IntKind.u16)) v0), (5, AV.at_ 1000005 []), (7, AV.val (Ty.int IntKind.u16) (List.getD v16 (Int.toNat v18) (0 : Int))), (8, AV.val (Ty.int IntKind.u16) (0 : Int)), (16, AV.val (Ty.slc false (Ty.int IntKind.u16)) v16), (17, AV.val (Ty.int IntKind.i64) v17), (18, AV.val (Ty.int IntKind.i64) v18), (22, AV.val (Ty.slc false (Ty.int IntKind.u16)) v0), (23, AV.val (Ty.int IntKind.i64) (↑(List.length v0) : Int)), (24, AV.val (Ty.int IntKind.i64) (0 : Int))] [(1000005, Ent.own (Ty.slc true (Ty.int IntKind.u16)) o1000005)]))) (.ret ((o1000005, (0 : Int), ()))) := by kernel_rfl
def Efirm_s10 (v0 : List Int) (v7 : Int) (v8 : Int) (v16 : List Int) (v17 : Int) (v18 : Int) (v22 : List Int) (v23 : Int) (v24 : Int) (o1000005 : List Int) : St := St.mk [(0, AV.val (Ty.slc false (Ty.int IntKind.u16)) v0), (5, AV.at_ 1000005 []), (7, AV.val (Ty.int IntKind.u16) v7), (8, AV.val (Ty.int IntKind.u16) v8), (16, AV.val (Ty.slc false (Ty.int IntKind.u16)) v16), (17, AV.val (Ty.int IntKind.i64) v17), (18, AV.val (Ty.int IntKind.i64) v18), (22, AV.val (Ty.slc false (Ty.int IntKind.u16)) v22), (23, AV.val (Ty.int IntKind.i64) v23), (24, AV.val (Ty.int IntKind.i64) v24)] [(1000005, Ent.own (Ty.slc true (Ty.int IntKind.u16)) o1000005)]
theorem Efirm_l10 (v0 : List Int) (v7 : Int) (v8 : Int) (v16 : List Int) (v17 : Int) (v18 : Int) (v22 : List Int) (v23 : Int) (v24 : Int) (o1000005 : List Int) : exec Efirm 1000 (.code (loopAt (bodyOf Try.prog 80) 10).1 :: .inLoop (loopAt (bodyOf Try.prog 80) 10).1 :: (loopAt (bodyOf Try.prog 80) 10).2) (Efirm_s10 v0 v7 v8 v16 v17 v18 v22 v23 v24 o1000005) =
  cond (decide (v24 < v23)) (.need ((0 : Int) ≤ v24 ∧ v24 < (↑(List.length v22) : Int)) (cond (decide (List.getD v22 (Int.toNat v24) (0 : Int) ≠ v7)) (.need (True) (cond (withinU (List.getD v22 (Int.toNat v24) (0 : Int)) v7) (.need (inK IntKind.i64 (v24 + (1 : Int))) (.cut (loopAt (bodyOf Try.prog 80) 10).1 (loopAt (bodyOf Try.prog 80) 10).2 (St.mk [(0, AV.val (Ty.slc false (Ty.int IntKind.u16)) v0), (5, AV.at_ 1000005 []), (7, AV.val (Ty.int IntKind.u16) v7), (8, AV.val (Ty.int IntKind.u16) (bOr IntKind.u16 v8 (List.getD v22 (Int.toNat v24) (0 : Int)))), (16, AV.val (Ty.slc false (Ty.int IntKind.u16)) v16), (17, AV.val (Ty.int IntKind.i64) v17), (18, AV.val (Ty.int IntKind.i64) v18), (22, AV.val (Ty.slc false (Ty.int IntKind.u16)) v22), (23, AV.val (Ty.int IntKind.i64) v23), (24, AV.val (Ty.int IntKind.i64) (v24 + (1 : Int)))] [(1000005, Ent.own (Ty.slc true (Ty.int IntKind.u16)) o1000005)]))) (.need (inK IntKind.i64 (v24 + (1 : Int))) (.cut (loopAt (bodyOf Try.prog 80) 10).1 (loopAt (bodyOf Try.prog 80) 10).2 (St.mk [(0, AV.val (Ty.slc false (Ty.int IntKind.u16)) v0), (5, AV.at_ 1000005 []), (7, AV.val (Ty.int IntKind.u16) v7), (8, AV.val (Ty.int IntKind.u16) v8), (16, AV.val (Ty.slc false (Ty.int IntKind.u16)) v16), (17, AV.val (Ty.int IntKind.i64) v17), (18, AV.val (Ty.int IntKind.i64) v18), (22, AV.val (Ty.slc false (Ty.int IntKind.u16)) v22), (23, AV.val (Ty.int IntKind.i64) v23), (24, AV.val (Ty.int IntKind.i64) (v24 + (1 : Int)))] [(1000005, Ent.own (Ty.slc true (Ty.int IntKind.u16)) o1000005)]))))) (.need (inK IntKind.i64 (v24 + (1 : Int))) (.cut (loopAt (bodyOf Try.prog 80) 10).1 (loopAt (bodyOf Try.prog 80) 10).2 (St.mk [(0, AV.val (Ty.slc false (Ty.int IntKind.u16)) v0), (5, AV.at_ 1000005 []), (7, AV.val (Ty.int IntKind.u16) v7), (8, AV.val (Ty.int IntKind.u16) v8), (16, AV.val (Ty.slc false (Ty.int IntKind.u16)) v16), (17, AV.val (Ty.int IntKind.i64) v17), (18, AV.val (Ty.int IntKind.i64) v18), (22, AV.val (Ty.slc false (Ty.int IntKind.u16)) v22), (23, AV.val (Ty.int IntKind.i64) v23), (24, AV.val (Ty.int IntKind.i64) (v24 + (1 : Int)))] [(1000005, Ent.own (Ty.slc true (Ty.int IntKind.u16)) o1000005)]))))) (cond (decide (v8 ≠ v7)) (.need (List.length o1000005 + List.length (List.set [(0 : Int)] (Int.toNat (↑0 : Int)) v7) ≤ 140737488355328 ∧ (List.length o1000005 + List.length (List.set [(0 : Int)] (Int.toNat (↑0 : Int)) v7)) * Ty.wb (Ty.int IntKind.u16) ≤ 140737488355328) (.need (inK IntKind.i64 (v18 + (1 : Int))) (.cut (loopAt (bodyOf Try.prog 80) 6).1 (loopAt (bodyOf Try.prog 80) 6).2 (St.mk [(0, AV.val (Ty.slc false (Ty.int IntKind.u16)) v0), (5, AV.at_ 1000005 []), (16, AV.val (Ty.slc false (Ty.int IntKind.u16)) v16), (17, AV.val (Ty.int IntKind.i64) v17), (18, AV.val (Ty.int IntKind.i64) (v18 + (1 : Int)))] [(1000005, Ent.own (Ty.slc true (Ty.int IntKind.u16)) (o1000005 ++ List.set [(0 : Int)] (Int.toNat (↑0 : Int)) v7))])))) (.need (inK IntKind.i64 (v18 + (1 : Int))) (.cut (loopAt (bodyOf Try.prog 80) 6).1 (loopAt (bodyOf Try.prog 80) 6).2 (St.mk [(0, AV.val (Ty.slc false (Ty.int IntKind.u16)) v0), (5, AV.at_ 1000005 []), (16, AV.val (Ty.slc false (Ty.int IntKind.u16)) v16), (17, AV.val (Ty.int IntKind.i64) v17), (18, AV.val (Ty.int IntKind.i64) (v18 + (1 : Int)))] [(1000005, Ent.own (Ty.slc true (Ty.int IntKind.u16)) o1000005)])))) := by kernel_rfl
theorem lcheck_len {l : List Int} (h : lcheck l = 0) : l.length ≤ 300 := by
  unfold lcheck at h
  repeat' split at h
  all_goals first | (cases h; done) | contradiction | omega
theorem cfirm_valid : cfirm.Valid Try.prog 80 := by
  refine Ctr.valid_of Efirm_ok rfl rfl Try.func80 (c := bodyOf Try.prog 80) rfl rfl Ffirm_ok rfl ?_
  rintro ⟨(l : List Int), ⟨⟩⟩ - -
  refine exec_sound (n := 1000) Efirm_ok Ffirm_ok ?_
  refine holds_of_eq (Efirm_t l) ?_
  simp only [holds_cond, Tree.holds, true_and, true_implies, decide_eq_true_eq, decide_eq_false_iff_not, Bool.not_eq_true', Bool.not_eq_false', Int.toNat_natCast, inK_i64, List.length_set, List.length_cons, List.length_nil]
  refine ⟨fun c => ?_, fun c => ?_⟩
  · show (([], lcheck l, ()) : List Int × Int × Unit) = firmR l; rw [firmR, if_pos c]
  have h0 : lcheck l = 0 := by omega
  have hl := lcheck_len h0
  refine Reach.loopI Efirm_ok Ffirm_ok (fun i : Nat => Efirm_s6 l l (l.length : Int) (i : Int) ((l.take i).filter (fun s => decide (unionB l s ≠ s)))) (fun i => i ≤ l.length)
    (fun i => l.length - i) 1000 (fun _ => ⟨uniq_of rfl, uniq_of rfl⟩) ?_ 0 (Nat.zero_le _)
  rintro i k1 - ih
  have k1 : i ≤ l.length := k1
  refine holds_of_eq (Efirm_l6 ..) ?_
  simp only [holds_cond, Tree.holds, true_and, true_implies, decide_eq_true_eq, decide_eq_false_iff_not, Bool.not_eq_true', Bool.not_eq_false', Int.toNat_natCast, inK_i64, List.length_set, List.length_cons, List.length_nil]
  refine ⟨fun c1 => ⟨by omega, fun _ => ?_⟩, fun c1 => ?_⟩
  · have hi : i < l.length := by omega
    refine Reach.loopI Efirm_ok Ffirm_ok (fun j : Nat => Efirm_s10 l (l.getD i 0) (unionL (fun t => decide (t ≠ l.getD i 0) && withinU t (l.getD i 0)) (l.take j)) l (l.length : Int) (i : Int) l (l.length : Int) (j : Int) ((l.take i).filter (fun s => decide (unionB l s ≠ s)))) (fun j => j ≤ l.length)
      (fun j => l.length - j) 1000 (fun _ => ⟨uniq_of rfl, uniq_of rfl⟩) ?_ 0 (Nat.zero_le _)
    rintro j k2 - ih2
    have k2 : j ≤ l.length := k2
    refine holds_of_eq (Efirm_l10 ..) ?_
    have e0 : ∀ v : Int, List.set [(0 : Int)] (Int.toNat (((0 : Nat) : Nat) : Int)) v = [v] := fun _ => rfl
    have fl : ((l.take i).filter (fun s => decide (unionB l s ≠ s))).length ≤ 300 := Nat.le_trans (List.length_filter_le _ _) (by rw [List.length_take]; omega)
    simp only [holds_cond, Tree.holds, true_and, true_implies, decide_eq_true_eq, decide_eq_false_iff_not, Bool.not_eq_true', Bool.not_eq_false', Int.toNat_natCast, inK_i64, List.length_set, List.length_cons, List.length_nil, wb_u16]
    refine ⟨fun d1 => ⟨by omega, fun _ => ?_⟩, fun d1 => ?_⟩
    · have hj : j < l.length := by omega
      have tk := take_getD hj 0
      have := ih2 (j + 1) (by show j + 1 ≤ l.length; omega) (by omega)
      rw [tk, union_snoc] at this
      refine ⟨fun d2 => ⟨fun d3 => ⟨by omega, fun _ => ?_⟩, fun d3 => ⟨by omega, fun _ => ?_⟩⟩, fun d2 => ⟨by omega, fun _ => ?_⟩⟩
      · rw [if_pos (by rw [decide_eq_true d2, d3]; rfl)] at this; exact this
      · rw [if_neg (by rw [d3, Bool.and_false]; exact Bool.false_ne_true)] at this; exact this
      · rw [if_neg (by rw [decide_eq_false d2, Bool.false_and]; exact Bool.false_ne_true)] at this; exact this
    · have hjl : j = l.length := by omega
      subst hjl
      rw [List.take_length]
      have hu : unionL (fun t => decide (t ≠ l.getD i 0) && withinU t (l.getD i 0)) l = unionB l (l.getD i 0) := rfl
      rw [hu]
      have tk := take_getD hi 0
      have := ih (i + 1) (by show i + 1 ≤ l.length; omega) (by omega)
      rw [tk, List.filter_append] at this
      refine ⟨fun d2 => ⟨by omega, fun _ => ⟨by omega, fun _ => ?_⟩⟩, fun d2 => ⟨by omega, fun _ => ?_⟩⟩
      · rw [List.filter_cons, if_pos (decide_eq_true d2)] at this; exact this
      · rw [List.filter_cons, if_neg (fun h => d2 (of_decide_eq_true h)), List.filter_nil, List.append_nil] at this; exact this
  · obtain rfl : i = l.length := by omega
    rw [List.take_length]
    show ((firmL l, (0 : Int), ()) : List Int × Int × Unit) = firmR l
    rw [firmR, if_neg (fun c9 => c9 h0)]
end Go.Proofs.Ytehmefjnkbjiiaa
