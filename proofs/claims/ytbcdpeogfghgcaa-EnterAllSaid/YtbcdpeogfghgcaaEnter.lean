/- The contracts of the package enter's functions. -/
import Derived.Test.YtbcdpeogfghgcaaOver
import Derived.Test.YtbcdpeogfghgcaaBitP
namespace Go.Proofs.Ytbcdpeogfghgcaa
open Go.Ex
set_option maxRecDepth 100000
abbrev DoorD := Int × Int × Int × Bool × List Int × Unit
abbrev EnterD := List DoorD × List WordD × Unit
def door0 : DoorD := (0, 0, 0, false, [], ())
def cein : Ctr := { ps := [.v I64, .v I64, .v I64], rs := [.bool], pre := fun _ => True, fn := fun x => (inF x.1 x.2.1 x.2.2.1, ()), out := fun _ => () }
noncomputable def Eein : Env := { P := Try.prog, tt := tt, ctr := [], res := [Go.ResultVar.tmp 6], rs := [Ty.bool], ps := [PK.v (Ty.int IntKind.i64), PK.v (Ty.int IntKind.i64), PK.v (Ty.int IntKind.i64)], cuts := [], nt := 15 }
theorem Eein_ok : EnvOk Eein := envOk tt_ok trivial
theorem Fein_ok : FnOk Eein Try.f94 := ⟨rfl, rfl⟩
theorem Eein_t (x0 : Int) (x1 : Int) (x2 : Int) : exec Eein 1000 [.code (bodyOf Try.prog 94)] (initSt cein.ps ((x0, x1, x2, ()))) =
  cond (decide (x1 ≤ x0)) (.ret ((decide (x0 ≤ x2), ()))) (.ret ((false, ()))) := by kernel_rfl
theorem cein_valid : cein.Valid Try.prog 94 := by
  refine Ctr.valid_of Eein_ok rfl rfl Try.func94 (c := bodyOf Try.prog 94) rfl rfl Fein_ok rfl ?_
  rintro ⟨(a : Int), (b : Int), (c : Int), ⟨⟩⟩ - -
  refine exec_sound (n := 1000) Eein_ok Fein_ok ?_
  refine holds_of_eq (Eein_t a b c) ?_
  simp only [holds_cond, Tree.holds, true_and, true_implies, decide_eq_true_eq, decide_eq_false_iff_not, Bool.not_eq_true', Bool.not_eq_false', Int.toNat_natCast, inK_i64, List.length_set, List.length_cons, List.length_nil]
  repeat' first | exact trivial | (refine And.intro ?_ ?_) | (intro _)
  all_goals (show ((_, ()) : Bool × Unit) = (inF a b c, ()); simp [inF, *])
def sh1 (p : Int) : Int := IntKind.wrap .u8 (1 * 2 ^ min (Int.toNat p) (IntKind.u8).bits)
def others (n p : Int) : Int := bAndNot .u8 (IntKind.wrap .u8 (sh1 n - 1)) (sh1 p)
def cothers : Ctr := { ps := [.v I64, .v I64], rs := [U8], pre := fun x => LE.le (α := Int) 0 x.1 ∧ LE.le (α := Int) 0 x.2.1, fn := fun x => (others x.1 x.2.1, ()), out := fun _ => () }
noncomputable def Eothers : Env := { P := Try.prog, tt := tt, ctr := [], res := [Go.ResultVar.tmp 4], rs := [Ty.int IntKind.u8], ps := [PK.v (Ty.int IntKind.i64), PK.v (Ty.int IntKind.i64)], cuts := [], nt := 11 }
theorem Eothers_ok : EnvOk Eothers := envOk tt_ok trivial
theorem Fothers_ok : FnOk Eothers Try.f98 := ⟨rfl, rfl⟩
theorem Eothers_t (x0 : Int) (x1 : Int) : exec Eothers 1000 [.code (bodyOf Try.prog 98)] (initSt cothers.ps ((x0, x1, ()))) =
  .need ((0 : Int) ≤ x0) (.need ((0 : Int) ≤ x1) (.ret ((bAndNot IntKind.u8 (IntKind.wrap IntKind.u8 (IntKind.wrap IntKind.u8 ((1 : Int) * (2 : Int) ^ min (Int.toNat x0) (IntKind.bits IntKind.u8)) - (1 : Int))) (IntKind.wrap IntKind.u8 ((1 : Int) * (2 : Int) ^ min (Int.toNat x1) (IntKind.bits IntKind.u8))), ())))) := by kernel_rfl
theorem cothers_valid : cothers.Valid Try.prog 98 := by
  refine Ctr.valid_of Eothers_ok rfl rfl Try.func98 (c := bodyOf Try.prog 98) rfl rfl Fothers_ok rfl ?_
  rintro ⟨(n : Int), (p : Int), ⟨⟩⟩ ⟨h1, h2⟩ -
  refine exec_sound (n := 1000) Eothers_ok Fothers_ok ?_
  refine holds_of_eq (Eothers_t n p) ?_
  exact ⟨h1, fun _ => ⟨h2, fun _ => rfl⟩⟩
theorem nf {b : Bool} (h : b = true) : ¬ b = false := by rw [h]; simp
def laterE (l : List Int) (p n : Int) (i : Nat) : Int := if inF (l.getD i 0) 0 (n - 1) = false then 4 else if l.getD i 0 = p then 4 else if l.getD i 0 ∈ l.take i then 4 else 0
def edoor (d : DoorD) (p n : Int) : Int :=
  if inF d.1 0 16777215 = false then 1 else if inF d.2.1 0 d.1 = false then 1 else if (6 : Int) < d.2.2.2.2.1.length then 1 else
  if bAndNot .u8 d.2.2.1 (others n p) ≠ 0 then 4 else if d.2.1 = 0 ∧ (d.2.2.1 ≠ 0 ∨ d.2.2.2.1 = true ∨ (0 : Int) < d.2.2.2.2.1.length) then 4 else
  if d.2.2.2.1 = true ∧ d.2.2.1 ≠ others n p then 4 else firstE (laterE d.2.2.2.2.1 p n) d.2.2.2.2.1.length
def cedoor : Ctr := { ps := [.v Door, .v I64, .v I64], rs := [I64], pre := fun x => LE.le (α := Int) 0 x.2.1 ∧ LE.le (α := Int) 1 x.2.2.1 ∧ LE.le (α := Int) x.2.2.1 6, fn := fun x => (edoor x.1 x.2.1 x.2.2.1, ()), out := fun _ => () }
noncomputable def Eedoor : Env := { P := Try.prog, tt := tt, ctr := [(94, cein), (98, cothers), (21, ccontI)], res := [Go.ResultVar.tmp 6], rs := [Ty.int IntKind.i64], ps := [PK.v (Ty.pair (Ty.int IntKind.i64) (Ty.pair (Ty.int IntKind.i64) (Ty.pair (Ty.int IntKind.u8) (Ty.pair Ty.bool (Ty.pair (Ty.slc false (Ty.int IntKind.i64)) Ty.unit))))), PK.v (Ty.int IntKind.i64), PK.v (Ty.int IntKind.i64)], cuts := [(8, [(1, none), (2, none), (3, none), (68, none), (69, none), (70, none)])], nt := 94 }
theorem Eedoor_ok : EnvOk Eedoor := envOk tt_ok ⟨cein_valid, cothers_valid, ccontI_valid, trivial⟩
theorem Fedoor_ok : FnOk Eedoor Try.f95 := ⟨rfl, rfl⟩
theorem Eedoor_t (x0_1 : Int) (x0_2_1 : Int) (x0_2_2_1 : Int) (x0_2_2_2_1 : Bool) (x0_2_2_2_2_1 : List Int) (x1 : Int) (x2 : Int) : exec Eedoor 1000 [.code (bodyOf Try.prog 95)] (initSt cedoor.ps (((x0_1, x0_2_1, x0_2_2_1, x0_2_2_2_1, x0_2_2_2_2_1, ()), x1, x2, ()))) =
  .need (True) (cond (!inF x0_1 (0 : Int) (16777215 : Int)) (.ret (((1 : Int), ()))) (.need (True) (cond (!inF x0_2_1 (0 : Int) x0_1) (.ret (((1 : Int), ()))) (cond (decide ((6 : Int) < (↑(List.length x0_2_2_2_2_1) : Int))) (.ret (((1 : Int), ()))) (.need ((0 : Int) ≤ x2 ∧ (0 : Int) ≤ x1) (cond (decide (bAndNot IntKind.u8 x0_2_2_1 (others x2 x1) ≠ (0 : Int))) (.ret (((4 : Int), ()))) (cond (decide (x0_2_1 = (0 : Int))) (cond (decide (x0_2_2_1 ≠ (0 : Int))) (.ret (((4 : Int), ()))) (cond (x0_2_2_2_1) (.ret (((4 : Int), ()))) (cond (decide ((0 : Int) < (↑(List.length x0_2_2_2_2_1) : Int))) (.ret (((4 : Int), ()))) (cond (x0_2_2_2_1) (.need ((0 : Int) ≤ x2 ∧ (0 : Int) ≤ x1) (cond (decide (x0_2_2_1 ≠ others x2 x1)) (.ret (((4 : Int), ()))) (.cut (loopAt (bodyOf Try.prog 95) 8).1 (loopAt (bodyOf Try.prog 95) 8).2 (St.mk [(1, AV.val (Ty.int IntKind.i64) x1), (2, AV.val (Ty.int IntKind.i64) x2), (3, AV.ptr 3 []), (68, AV.val (Ty.slc false (Ty.int IntKind.i64)) x0_2_2_2_2_1), (69, AV.val (Ty.int IntKind.i64) (↑(List.length x0_2_2_2_2_1) : Int)), (70, AV.val (Ty.int IntKind.i64) (0 : Int))] [(3, Ent.var (Ty.pair (Ty.int IntKind.i64) (Ty.pair (Ty.int IntKind.i64) (Ty.pair (Ty.int IntKind.u8) (Ty.pair Ty.bool (Ty.pair (Ty.slc false (Ty.int IntKind.i64)) Ty.unit))))) (x0_1, x0_2_1, x0_2_2_1, x0_2_2_2_1, x0_2_2_2_2_1, ()))])))) (.cut (loopAt (bodyOf Try.prog 95) 8).1 (loopAt (bodyOf Try.prog 95) 8).2 (St.mk [(1, AV.val (Ty.int IntKind.i64) x1), (2, AV.val (Ty.int IntKind.i64) x2), (3, AV.ptr 3 []), (68, AV.val (Ty.slc false (Ty.int IntKind.i64)) x0_2_2_2_2_1), (69, AV.val (Ty.int IntKind.i64) (↑(List.length x0_2_2_2_2_1) : Int)), (70, AV.val (Ty.int IntKind.i64) (0 : Int))] [(3, Ent.var (Ty.pair (Ty.int IntKind.i64) (Ty.pair (Ty.int IntKind.i64) (Ty.pair (Ty.int IntKind.u8) (Ty.pair Ty.bool (Ty.pair (Ty.slc false (Ty.int IntKind.i64)) Ty.unit))))) (x0_1, x0_2_1, x0_2_2_1, x0_2_2_2_1, x0_2_2_2_2_1, ()))])))))) (cond (x0_2_2_2_1) (.need ((0 : Int) ≤ x2 ∧ (0 : Int) ≤ x1) (cond (decide (x0_2_2_1 ≠ others x2 x1)) (.ret (((4 : Int), ()))) (.cut (loopAt (bodyOf Try.prog 95) 8).1 (loopAt (bodyOf Try.prog 95) 8).2 (St.mk [(1, AV.val (Ty.int IntKind.i64) x1), (2, AV.val (Ty.int IntKind.i64) x2), (3, AV.ptr 3 []), (68, AV.val (Ty.slc false (Ty.int IntKind.i64)) x0_2_2_2_2_1), (69, AV.val (Ty.int IntKind.i64) (↑(List.length x0_2_2_2_2_1) : Int)), (70, AV.val (Ty.int IntKind.i64) (0 : Int))] [(3, Ent.var (Ty.pair (Ty.int IntKind.i64) (Ty.pair (Ty.int IntKind.i64) (Ty.pair (Ty.int IntKind.u8) (Ty.pair Ty.bool (Ty.pair (Ty.slc false (Ty.int IntKind.i64)) Ty.unit))))) (x0_1, x0_2_1, x0_2_2_1, x0_2_2_2_1, x0_2_2_2_2_1, ()))])))) (.cut (loopAt (bodyOf Try.prog 95) 8).1 (loopAt (bodyOf Try.prog 95) 8).2 (St.mk [(1, AV.val (Ty.int IntKind.i64) x1), (2, AV.val (Ty.int IntKind.i64) x2), (3, AV.ptr 3 []), (68, AV.val (Ty.slc false (Ty.int IntKind.i64)) x0_2_2_2_2_1), (69, AV.val (Ty.int IntKind.i64) (↑(List.length x0_2_2_2_2_1) : Int)), (70, AV.val (Ty.int IntKind.i64) (0 : Int))] [(3, Ent.var (Ty.pair (Ty.int IntKind.i64) (Ty.pair (Ty.int IntKind.i64) (Ty.pair (Ty.int IntKind.u8) (Ty.pair Ty.bool (Ty.pair (Ty.slc false (Ty.int IntKind.i64)) Ty.unit))))) (x0_1, x0_2_1, x0_2_2_1, x0_2_2_2_1, x0_2_2_2_2_1, ()))])))))))))) := by kernel_rfl
def Eedoor_s8 (v1 : Int) (v2 : Int) (v68 : List Int) (v69 : Int) (v70 : Int) (o3_1 : Int) (o3_2_1 : Int) (o3_2_2_1 : Int) (o3_2_2_2_1 : Bool) (o3_2_2_2_2_1 : List Int) : St := St.mk [(1, AV.val (Ty.int IntKind.i64) v1), (2, AV.val (Ty.int IntKind.i64) v2), (3, AV.ptr 3 []), (68, AV.val (Ty.slc false (Ty.int IntKind.i64)) v68), (69, AV.val (Ty.int IntKind.i64) v69), (70, AV.val (Ty.int IntKind.i64) v70)] [(3, Ent.var (Ty.pair (Ty.int IntKind.i64) (Ty.pair (Ty.int IntKind.i64) (Ty.pair (Ty.int IntKind.u8) (Ty.pair Ty.bool (Ty.pair (Ty.slc false (Ty.int IntKind.i64)) Ty.unit))))) (o3_1, o3_2_1, o3_2_2_1, o3_2_2_2_1, o3_2_2_2_2_1, ()))]
theorem Eedoor_l8 (v1 : Int) (v2 : Int) (v68 : List Int) (v69 : Int) (v70 : Int) (o3_1 : Int) (o3_2_1 : Int) (o3_2_2_1 : Int) (o3_2_2_2_1 : Bool) (o3_2_2_2_2_1 : List Int) : exec Eedoor 1000 (.code (loopAt (bodyOf Try.prog 95) 8).1 :: .inLoop (loopAt (bodyOf Try.prog 95) 8).1 :: (loopAt (bodyOf Try.prog 95) 8).2) (Eedoor_s8 v1 v2 v68 v69 v70 o3_1 o3_2_1 o3_2_2_1 o3_2_2_2_1 o3_2_2_2_2_1) =
  cond (decide (v70 < v69)) (.need ((0 : Int) ≤ v70 ∧ v70 < (↑(List.length v68) : Int)) (.need (inK IntKind.i64 (v2 - (1 : Int))) (.need (True) (cond (!inF (List.getD v68 (Int.toNat v70) (0 : Int)) (0 : Int) (v2 - (1 : Int))) (.ret (((4 : Int), ()))) (cond (decide (List.getD v68 (Int.toNat v70) (0 : Int) = v1)) (.ret (((4 : Int), ()))) (.need ((0 : Int) ≤ (0 : Int) ∧ (0 : Int) ≤ v70 ∧ v70 ≤ (↑(List.length o3_2_2_2_2_1) : Int)) (.need (True) (cond (decide (List.getD v68 (Int.toNat v70) (0 : Int) ∈ cut2 (0 : Int) v70 o3_2_2_2_2_1)) (.ret (((4 : Int), ()))) (.need (inK IntKind.i64 (v70 + (1 : Int))) (.cut (loopAt (bodyOf Try.prog 95) 8).1 (loopAt (bodyOf Try.prog 95) 8).2 (St.mk [(1, AV.val (Ty.int IntKind.i64) v1), (2, AV.val (Ty.int IntKind.i64) v2), (3, AV.ptr 3 []), (68, AV.val (Ty.slc false (Ty.int IntKind.i64)) v68), (69, AV.val (Ty.int IntKind.i64) v69), (70, AV.val (Ty.int IntKind.i64) (v70 + (1 : Int)))] [(3, Ent.var (Ty.pair (Ty.int IntKind.i64) (Ty.pair (Ty.int IntKind.i64) (Ty.pair (Ty.int IntKind.u8) (Ty.pair Ty.bool (Ty.pair (Ty.slc false (Ty.int IntKind.i64)) Ty.unit))))) (o3_1, o3_2_1, o3_2_2_1, o3_2_2_2_1, o3_2_2_2_2_1, ()))]))))))))))) (.ret (((0 : Int), ()))) := by kernel_rfl
theorem cut2_take {α : Type} {l : List α} {i : Nat} : cut2 0 (i : Int) l = l.take i := by
  rw [cut2, show ((i : Int) - 0).toNat = i by omega]; rfl
theorem cedoor_valid : cedoor.Valid Try.prog 95 := by
  refine Ctr.valid_of Eedoor_ok rfl rfl Try.func95 (c := bodyOf Try.prog 95) rfl rfl Fedoor_ok rfl ?_
  rintro ⟨⟨(c : Int), (w : Int), (y : Int), (b : Bool), (l : List Int), ⟨⟩⟩, (p : Int), (n : Int), ⟨⟩⟩ ⟨(h0 : 0 ≤ p), (h1 : 1 ≤ n), (h2 : n ≤ 6)⟩ ⟨⟨-, -, -, -, ⟨hl, -⟩, -⟩, -⟩
  have hl : l.length ≤ 9223372036854775807 := hl
  refine exec_sound (n := 1000) Eedoor_ok Fedoor_ok ?_
  refine holds_of_eq (Eedoor_t c w y b l p n) ?_
  have key : ∀ {x : Int}, edoor (c, w, y, b, l, ()) p n = x → ((x, ()) : Int × Unit) = (edoor (c, w, y, b, l, ()) p n, ()) := by rintro x rfl; rfl
  have hd : edoor (c, w, y, b, l, ()) p n = if inF c 0 16777215 = false then 1 else if inF w 0 c = false then 1 else if (6 : Int) < l.length then 1 else
    if bAndNot .u8 y (others n p) ≠ 0 then 4 else if w = 0 ∧ (y ≠ 0 ∨ b = true ∨ (0 : Int) < l.length) then 4 else
    if b = true ∧ y ≠ others n p then 4 else firstE (laterE l p n) l.length := rfl
  simp only [holds_cond, Tree.holds, true_and, true_implies, decide_eq_true_eq, decide_eq_false_iff_not, Bool.not_eq_true', Bool.not_eq_false', Int.toNat_natCast, inK_i64, List.length_set, List.length_cons, List.length_nil]
  refine ⟨fun a => key (by rw [hd, if_pos a]), fun a => ?_⟩
  rw [if_neg (nf a)] at hd
  refine ⟨fun a => key (by rw [hd, if_pos a]), fun a => ?_⟩
  rw [if_neg (nf a)] at hd
  refine ⟨fun a => key (by rw [hd, if_pos a]), fun a => ⟨⟨by omega, by omega⟩, fun _ => ?_⟩⟩
  rw [if_neg a] at hd
  refine ⟨fun a => key (by rw [hd, if_pos a]), fun a => ?_⟩
  rw [if_neg a] at hd
  suffices loop : edoor (c, w, y, b, l, ()) p n = firstE (laterE l p n) l.length → Go.Ex.Reach Eedoor Try.f95 (edoor (c, w, y, b, l, ()) p n, ()) () (.code (loopAt (bodyOf Try.prog 95) 8).1 :: .inLoop (loopAt (bodyOf Try.prog 95) 8).1 :: (loopAt (bodyOf Try.prog 95) 8).2) (Eedoor_s8 p n l (l.length : Int) ((0 : Nat) : Int) c w y b l) by
    refine ⟨fun e => ⟨fun f => key (by rw [hd, if_pos ⟨e, .inl f⟩]), fun f => ⟨fun g => key (by rw [hd, if_pos ⟨e, .inr (.inl g)⟩]), fun g => ⟨fun k => key (by rw [hd, if_pos ⟨e, .inr (.inr k)⟩]), fun k => ⟨fun g2 => absurd (g2.symm.trans g) (by simp), fun _ => loop ?_⟩⟩⟩⟩, fun e => ⟨fun g => ⟨⟨by omega, by omega⟩, fun _ => ⟨fun f => key (by rw [hd, if_neg (fun h => e h.1), if_pos ⟨g, f⟩]), fun f => loop ?_⟩⟩, fun g => loop ?_⟩⟩
    · rw [hd, if_neg (by rintro ⟨_, h | h | h⟩; exact f h; rw [g] at h; cases h; exact k h), if_neg (by rintro ⟨h, _⟩; rw [g] at h; cases h)]
    · rw [hd, if_neg (fun h => e h.1), if_neg (fun h => f h.2)]
    · rw [hd, if_neg (fun h => e h.1), if_neg (by rintro ⟨h, _⟩; rw [g] at h; cases h)]
  intro hd
  refine Reach.loopI Eedoor_ok Fedoor_ok (fun i : Nat => Eedoor_s8 p n l (l.length : Int) (i : Int) c w y b l) (fun i => i ≤ l.length ∧ firstE (laterE l p n) i = 0) (fun i => l.length - i) 1000 (fun _ => ⟨uniq_of rfl, uniq_of rfl⟩) ?_ 0 ⟨by omega, rfl⟩
  rintro i ⟨k1, k2⟩ - ih
  have k1 : i ≤ l.length := k1
  refine holds_of_eq (Eedoor_l8 ..) ?_
  simp only [holds_cond, Tree.holds, true_and, true_implies, decide_eq_true_eq, decide_eq_false_iff_not, Bool.not_eq_true', Bool.not_eq_false', Int.toNat_natCast, inK_i64, List.length_set, List.length_cons, List.length_nil, cut2_take]
  have hc : laterE l p n i = if inF (l.getD i 0) 0 (n - 1) = false then 4 else if l.getD i 0 = p then 4 else if l.getD i 0 ∈ l.take i then 4 else 0 := rfl
  refine ⟨fun a => ⟨by omega, fun _ => ⟨by omega, fun _ => ?_⟩⟩, fun a => key (by rw [hd, show l.length = i by omega, k2])⟩
  have stop : laterE l p n i = 4 → ((4, ()) : Int × Unit) = (edoor (c, w, y, b, l, ()) p n, ()) := fun h9 => key (by
    rw [hd, firstE_stop k2 (by rw [h9]; decide) (by omega), h9])
  refine ⟨fun f => stop (by rw [hc, if_pos f]), fun f => ⟨fun g => stop (by rw [hc, if_neg (nf f), if_pos g]), fun g => ⟨by omega, fun _ => ⟨fun e => stop (by rw [hc, if_neg (nf f), if_neg g, if_pos e]), fun e => ⟨by omega, fun _ => ih (i + 1) ⟨by omega, firstE_step k2 ?_⟩ (by omega)⟩⟩⟩⟩⟩
  rw [hc, if_neg (nf f), if_neg g, if_neg e]
def doorsE (t : EnterD) (i : Nat) : Int := edoor (t.1.getD i door0) i t.1.length
def ewordE (t : EnterD) (i : Nat) : Int := if inF (t.2.1.getD i word0).1 0 (t.1.length - 1) = false then 1 else if inF (t.2.1.getD i word0).2.1 0 (t.1.length - 1) = false then 1 else if inF (t.2.1.getD i word0).2.2.1 0 16777215 = false then 1 else if (t.2.1.getD i word0).1 = (t.2.1.getD i word0).2.1 then 4 else 0
def echeck (t : EnterD) : Int :=
  if inF (t.1.length : Int) 1 6 = false then 1 else if firstE (doorsE t) t.1.length ≠ 0 then firstE (doorsE t) t.1.length else
  if (100 : Int) < t.2.1.length then 2 else firstE (ewordE t) t.2.1.length
def cecheck : Ctr := { ps := [.v Enter], rs := [I64], pre := fun _ => True, fn := fun x => (echeck x.1, ()), out := fun _ => () }
noncomputable def Eecheck : Env := { P := Try.prog, tt := tt, ctr := [(94, cein), (95, cedoor)], res := [Go.ResultVar.tmp 2], rs := [Ty.int IntKind.i64], ps := [PK.v (Ty.pair (Ty.slc false (Ty.pair (Ty.int IntKind.i64) (Ty.pair (Ty.int IntKind.i64) (Ty.pair (Ty.int IntKind.u8) (Ty.pair Ty.bool (Ty.pair (Ty.slc false (Ty.int IntKind.i64)) Ty.unit)))))) (Ty.pair (Ty.slc false Word) Ty.unit))], cuts := [(5, [(1, none), (3, none), (16, none), (17, none), (18, none)]), (14, [(3, none), (36, none), (37, none), (38, none)])], nt := 70 }
theorem Eecheck_ok : EnvOk Eecheck := envOk tt_ok ⟨cein_valid, cedoor_valid, trivial⟩
theorem Fecheck_ok : FnOk Eecheck Try.f42 := ⟨rfl, rfl⟩
theorem Eecheck_t (x0_1 : List (Int × Int × Int × Bool × List Int × Unit)) (x0_2_1 : List (Int × Int × Int × Unit)) : exec Eecheck 1000 [.code (bodyOf Try.prog 42)] (initSt cecheck.ps (((x0_1, x0_2_1, ()), ()))) =
  .need (True) (cond (!inF (↑(List.length x0_1) : Int) (1 : Int) (6 : Int)) (.ret (((1 : Int), ()))) (.cut (loopAt (bodyOf Try.prog 42) 5).1 (loopAt (bodyOf Try.prog 42) 5).2 (St.mk [(1, AV.ptr 1 []), (3, AV.val (Ty.int IntKind.i64) (↑(List.length x0_1) : Int)), (16, AV.val (Ty.slc false (Ty.pair (Ty.int IntKind.i64) (Ty.pair (Ty.int IntKind.i64) (Ty.pair (Ty.int IntKind.u8) (Ty.pair Ty.bool (Ty.pair (Ty.slc false (Ty.int IntKind.i64)) Ty.unit)))))) x0_1), (17, AV.val (Ty.int IntKind.i64) (↑(List.length x0_1) : Int)), (18, AV.val (Ty.int IntKind.i64) (0 : Int))] [(1, Ent.var (Ty.pair (Ty.slc false (Ty.pair (Ty.int IntKind.i64) (Ty.pair (Ty.int IntKind.i64) (Ty.pair (Ty.int IntKind.u8) (Ty.pair Ty.bool (Ty.pair (Ty.slc false (Ty.int IntKind.i64)) Ty.unit)))))) (Ty.pair (Ty.slc false Word) Ty.unit)) (x0_1, x0_2_1, ()))]))) := by kernel_rfl
def Eecheck_s5 (v3 : Int) (v16 : List (Int × Int × Int × Bool × List Int × Unit)) (v17 : Int) (v18 : Int) (o1_1 : List (Int × Int × Int × Bool × List Int × Unit)) (o1_2_1 : List (Int × Int × Int × Unit)) : St := St.mk [(1, AV.ptr 1 []), (3, AV.val (Ty.int IntKind.i64) v3), (16, AV.val (Ty.slc false (Ty.pair (Ty.int IntKind.i64) (Ty.pair (Ty.int IntKind.i64) (Ty.pair (Ty.int IntKind.u8) (Ty.pair Ty.bool (Ty.pair (Ty.slc false (Ty.int IntKind.i64)) Ty.unit)))))) v16), (17, AV.val (Ty.int IntKind.i64) v17), (18, AV.val (Ty.int IntKind.i64) v18)] [(1, Ent.var (Ty.pair (Ty.slc false (Ty.pair (Ty.int IntKind.i64) (Ty.pair (Ty.int IntKind.i64) (Ty.pair (Ty.int IntKind.u8) (Ty.pair Ty.bool (Ty.pair (Ty.slc false (Ty.int IntKind.i64)) Ty.unit)))))) (Ty.pair (Ty.slc false Word) Ty.unit)) (o1_1, o1_2_1, ()))]
theorem Eecheck_l5 (v3 : Int) (v16 : List (Int × Int × Int × Bool × List Int × Unit)) (v17 : Int) (v18 : Int) (o1_1 : List (Int × Int × Int × Bool × List Int × Unit)) (o1_2_1 : List (Int × Int × Int × Unit)) : exec Eecheck 1000 (.code (loopAt (bodyOf Try.prog 42) 5).1 :: .inLoop (loopAt (bodyOf Try.prog 42) 5).1 :: (loopAt (bodyOf Try.prog 42) 5).2) (Eecheck_s5 v3 v16 v17 v18 o1_1 o1_2_1) =
  cond (decide (v18 < v17)) (.need ((0 : Int) ≤ v18 ∧ v18 < (↑(List.length v16) : Int)) (.need ((0 : Int) ≤ v18 ∧ (1 : Int) ≤ v3 ∧ v3 ≤ (6 : Int)) (cond (decide (edoor (List.getD v16 (Int.toNat v18) ((0 : Int), (0 : Int), (0 : Int), false, [], ())) v18 v3 ≠ (0 : Int))) (.ret ((edoor (List.getD v16 (Int.toNat v18) ((0 : Int), (0 : Int), (0 : Int), false, [], ())) v18 v3, ()))) (.need (inK IntKind.i64 (v18 + (1 : Int))) (.cut (loopAt (bodyOf Try.prog 42) 5).1 (loopAt (bodyOf Try.prog 42) 5).2 (St.mk [(1, AV.ptr 1 []), (3, AV.val (Ty.int IntKind.i64) v3), (16, AV.val (Ty.slc false (Ty.pair (Ty.int IntKind.i64) (Ty.pair (Ty.int IntKind.i64) (Ty.pair (Ty.int IntKind.u8) (Ty.pair Ty.bool (Ty.pair (Ty.slc false (Ty.int IntKind.i64)) Ty.unit)))))) v16), (17, AV.val (Ty.int IntKind.i64) v17), (18, AV.val (Ty.int IntKind.i64) (v18 + (1 : Int)))] [(1, Ent.var (Ty.pair (Ty.slc false (Ty.pair (Ty.int IntKind.i64) (Ty.pair (Ty.int IntKind.i64) (Ty.pair (Ty.int IntKind.u8) (Ty.pair Ty.bool (Ty.pair (Ty.slc false (Ty.int IntKind.i64)) Ty.unit)))))) (Ty.pair (Ty.slc false Word) Ty.unit)) (o1_1, o1_2_1, ()))])))))) (cond (decide ((100 : Int) < (↑(List.length o1_2_1) : Int))) (.ret (((2 : Int), ()))) (.cut (loopAt (bodyOf Try.prog 42) 14).1 (loopAt (bodyOf Try.prog 42) 14).2 (St.mk [(3, AV.val (Ty.int IntKind.i64) v3), (36, AV.val (Ty.slc false Word) o1_2_1), (37, AV.val (Ty.int IntKind.i64) (↑(List.length o1_2_1) : Int)), (38, AV.val (Ty.int IntKind.i64) (0 : Int))] []))) := by kernel_rfl
def Eecheck_s14 (v3 : Int) (v36 : List (Int × Int × Int × Unit)) (v37 : Int) (v38 : Int) : St := St.mk [(3, AV.val (Ty.int IntKind.i64) v3), (36, AV.val (Ty.slc false Word) v36), (37, AV.val (Ty.int IntKind.i64) v37), (38, AV.val (Ty.int IntKind.i64) v38)] []
theorem Eecheck_l14 (v3 : Int) (v36 : List (Int × Int × Int × Unit)) (v37 : Int) (v38 : Int) : exec Eecheck 1000 (.code (loopAt (bodyOf Try.prog 42) 14).1 :: .inLoop (loopAt (bodyOf Try.prog 42) 14).1 :: (loopAt (bodyOf Try.prog 42) 14).2) (Eecheck_s14 v3 v36 v37 v38) =
  cond (decide (v38 < v37)) (.need ((0 : Int) ≤ v38 ∧ v38 < (↑(List.length v36) : Int)) (.need (inK IntKind.i64 (v3 - (1 : Int))) (.need (True) (cond (!inF (Prod.fst (List.getD v36 (Int.toNat v38) ((0 : Int), (0 : Int), (0 : Int), ()))) (0 : Int) (v3 - (1 : Int))) (.ret (((1 : Int), ()))) (.need (inK IntKind.i64 (v3 - (1 : Int))) (.need (True) (cond (!inF (Prod.fst (Prod.snd (List.getD v36 (Int.toNat v38) ((0 : Int), (0 : Int), (0 : Int), ())))) (0 : Int) (v3 - (1 : Int))) (.ret (((1 : Int), ()))) (.need (True) (cond (!inF (Prod.fst (Prod.snd (Prod.snd (List.getD v36 (Int.toNat v38) ((0 : Int), (0 : Int), (0 : Int), ()))))) (0 : Int) (16777215 : Int)) (.ret (((1 : Int), ()))) (cond (decide (Prod.fst (List.getD v36 (Int.toNat v38) ((0 : Int), (0 : Int), (0 : Int), ())) = Prod.fst (Prod.snd (List.getD v36 (Int.toNat v38) ((0 : Int), (0 : Int), (0 : Int), ()))))) (.ret (((4 : Int), ()))) (.need (inK IntKind.i64 (v38 + (1 : Int))) (.cut (loopAt (bodyOf Try.prog 42) 14).1 (loopAt (bodyOf Try.prog 42) 14).2 (St.mk [(3, AV.val (Ty.int IntKind.i64) v3), (36, AV.val (Ty.slc false Word) v36), (37, AV.val (Ty.int IntKind.i64) v37), (38, AV.val (Ty.int IntKind.i64) (v38 + (1 : Int)))] []))))))))))))) (.ret (((0 : Int), ()))) := by kernel_rfl
theorem cecheck_valid : cecheck.Valid Try.prog 42 := by
  refine Ctr.valid_of Eecheck_ok rfl rfl Try.func42 (c := bodyOf Try.prog 42) rfl rfl Fecheck_ok rfl ?_
  rintro ⟨⟨(hs : List DoorD), (ws : List WordD), ⟨⟩⟩, ⟨⟩⟩ - ⟨⟨⟨hl1, -⟩, ⟨hl2, -⟩, -⟩, -⟩
  have hl1 : hs.length ≤ 9223372036854775807 := hl1
  have hl2 : ws.length ≤ 9223372036854775807 := hl2
  refine exec_sound (n := 1000) Eecheck_ok Fecheck_ok ?_
  refine holds_of_eq (Eecheck_t hs ws) ?_
  have key : ∀ {x : Int}, x = echeck (hs, ws, ()) → ((x, ()) : Int × Unit) = (echeck (hs, ws, ()), ()) := by rintro x rfl; rfl
  have hd : echeck (hs, ws, ()) = if inF (hs.length : Int) 1 6 = false then 1 else if firstE (doorsE (hs, ws, ())) hs.length ≠ 0 then firstE (doorsE (hs, ws, ())) hs.length else
    if (100 : Int) < ws.length then 2 else firstE (ewordE (hs, ws, ())) ws.length := rfl
  simp only [holds_cond, Tree.holds, true_and, true_implies, decide_eq_true_eq, decide_eq_false_iff_not, Bool.not_eq_true', Bool.not_eq_false', Int.toNat_natCast, inK_i64, List.length_set, List.length_cons, List.length_nil]
  refine ⟨fun a => key (by rw [hd, if_pos a]), fun a => ?_⟩
  have hn := inF_iff.1 a
  rw [if_neg (nf a)] at hd
  refine Reach.loopI Eecheck_ok Fecheck_ok (fun i : Nat => Eecheck_s5 (hs.length : Int) hs (hs.length : Int) (i : Int) hs ws) (fun i => i ≤ hs.length ∧ firstE (doorsE (hs, ws, ())) i = 0) (fun i => hs.length - i) 1000 (fun _ => ⟨uniq_of rfl, uniq_of rfl⟩) ?_ 0 ⟨by omega, rfl⟩
  rintro i ⟨k1, k2⟩ - ih
  have k1 : i ≤ hs.length := k1
  refine holds_of_eq (Eecheck_l5 ..) ?_
  simp only [holds_cond, Tree.holds, true_and, true_implies, decide_eq_true_eq, decide_eq_false_iff_not, Bool.not_eq_true', Bool.not_eq_false', Int.toNat_natCast, inK_i64, List.length_set, List.length_cons, List.length_nil]
  refine ⟨fun c => ⟨by omega, fun _ => ⟨by omega, fun _ => ?_⟩⟩, fun c => ?_⟩
  · have hc : doorsE (hs, ws, ()) i = edoor (hs.getD i (0, 0, 0, false, [], ())) i hs.length := rfl
    refine ⟨fun e => key ?_, fun e => ⟨by omega, fun _ => ih (i + 1) ⟨by omega, firstE_step k2 (hc.trans (Decidable.not_not.1 e))⟩ (by omega)⟩⟩
    have h9 : firstE (doorsE (hs, ws, ())) hs.length = doorsE (hs, ws, ()) i := firstE_stop k2 (by rw [hc]; exact e) (by omega)
    rw [hd, h9, if_pos (by rw [hc]; exact e), hc]
  · have e : i = hs.length := by omega
    rw [e] at k2
    rw [if_neg (by simp [k2])] at hd
    refine ⟨fun d => key (by rw [hd, if_pos d]), fun d => ?_⟩
    rw [if_neg d] at hd
    refine Reach.loopI Eecheck_ok Fecheck_ok (fun i : Nat => Eecheck_s14 (hs.length : Int) ws (ws.length : Int) (i : Int)) (fun i => i ≤ ws.length ∧ firstE (ewordE (hs, ws, ())) i = 0) (fun i => ws.length - i) 1000 (fun _ => ⟨uniq_of rfl, uniq_of rfl⟩) ?_ 0 ⟨by omega, rfl⟩
    rintro i ⟨k1, k2⟩ - ih
    have k1 : i ≤ ws.length := k1
    refine holds_of_eq (Eecheck_l14 ..) ?_
    simp only [holds_cond, Tree.holds, true_and, true_implies, decide_eq_true_eq, decide_eq_false_iff_not, Bool.not_eq_true', Bool.not_eq_false', Int.toNat_natCast, inK_i64, List.length_set, List.length_cons, List.length_nil]
    have hc : ewordE (hs, ws, ()) i = if inF (ws.getD i (0, 0, 0, ())).1 0 (hs.length - 1) = false then 1 else if inF (ws.getD i (0, 0, 0, ())).2.1 0 (hs.length - 1) = false then 1 else if inF (ws.getD i (0, 0, 0, ())).2.2.1 0 16777215 = false then 1 else if (ws.getD i (0, 0, 0, ())).1 = (ws.getD i (0, 0, 0, ())).2.1 then 4 else 0 := rfl
    generalize ws.getD i (0, 0, 0, ()) = w at hc
    obtain ⟨x, y, z, ⟨⟩⟩ := w
    refine ⟨fun c => ⟨by omega, fun _ => ⟨by omega, fun _ => ?_⟩⟩, fun c => key (by rw [hd, show ws.length = i by omega, k2])⟩
    have stop : ∀ {v : Int}, v ≠ 0 → ewordE (hs, ws, ()) i = v → ((v, ()) : Int × Unit) = (echeck (hs, ws, ()), ()) := fun hv h9 => key (by
      rw [hd, firstE_stop k2 (by rw [h9]; exact hv) (by omega), h9])
    refine ⟨fun p1 => stop (by decide) (by rw [hc, if_pos p1]), fun p1 => ⟨by omega, fun _ => ⟨fun p2 => stop (by decide) (by rw [hc, if_neg (nf p1), if_pos p2]), fun p2 => ⟨fun p3 => stop (by decide) (by rw [hc, if_neg (nf p1), if_neg (nf p2), if_pos p3]), fun p3 => ⟨fun p4 => stop (by decide) (by rw [hc, if_neg (nf p1), if_neg (nf p2), if_neg (nf p3), if_pos p4]), fun p4 => ⟨by omega, fun _ => ih (i + 1) ⟨by omega, firstE_step k2 ?_⟩ (by omega)⟩⟩⟩⟩⟩⟩
    rw [hc, if_neg (nf p1), if_neg (nf p2), if_neg (nf p3), if_neg p4]
def ceclone : Ctr := { ps := [.v Enter], rs := [EnterO], pre := fun x => List.length (α := DoorD) x.1.1 ≤ 1048576 ∧ List.length (α := WordD) x.1.2.1 ≤ 1048576 ∧ ∀ i, i < List.length (α := DoorD) x.1.1 → (List.getD (α := DoorD) x.1.1 i door0).2.2.2.2.1.length ≤ 1048576, fn := fun x => x, out := fun _ => () }
noncomputable def Eeclone : Env := { P := Try.prog, tt := tt, ctr := [(33, cclI), (126, cwClone)], res := [Go.ResultVar.cell 2 85], rs := [Ty.pair (Ty.slc true (Ty.pair (Ty.int IntKind.i64) (Ty.pair (Ty.int IntKind.i64) (Ty.pair (Ty.int IntKind.u8) (Ty.pair Ty.bool (Ty.pair Is Ty.unit)))))) (Ty.pair (Ty.slc true Word) Ty.unit)], ps := [PK.v (Ty.pair (Ty.slc false (Ty.pair (Ty.int IntKind.i64) (Ty.pair (Ty.int IntKind.i64) (Ty.pair (Ty.int IntKind.u8) (Ty.pair Ty.bool (Ty.pair (Ty.slc false (Ty.int IntKind.i64)) Ty.unit)))))) (Ty.pair (Ty.slc false Word) Ty.unit))], cuts := [(3, [(2, none), (3, none), (11, none), (12, none), (13, none)])], nt := 29 }
theorem Eeclone_ok : EnvOk Eeclone := envOk tt_ok ⟨cclI_valid, cwClone_valid, trivial⟩
theorem Feclone_ok : FnOk Eeclone Try.f96 := ⟨rfl, rfl⟩
theorem Eeclone_t (x0_1 : List (Int × Int × Int × Bool × List Int × Unit)) (x0_2_1 : List (Int × Int × Int × Unit)) : exec Eeclone 1000 [.code (bodyOf Try.prog 96)] (initSt ceclone.ps (((x0_1, x0_2_1, ()), ()))) =
  .need (List.length x0_2_1 ≤ 1048576) (.cut (loopAt (bodyOf Try.prog 96) 3).1 (loopAt (bodyOf Try.prog 96) 3).2 (St.mk [(2, AV.ptr 2 []), (3, AV.ptr 3 []), (11, AV.val (Ty.slc false (Ty.pair (Ty.int IntKind.i64) (Ty.pair (Ty.int IntKind.i64) (Ty.pair (Ty.int IntKind.u8) (Ty.pair Ty.bool (Ty.pair (Ty.slc false (Ty.int IntKind.i64)) Ty.unit)))))) x0_1), (12, AV.val (Ty.int IntKind.i64) (↑(List.length x0_1) : Int)), (13, AV.val (Ty.int IntKind.i64) (0 : Int))] [(2, Ent.var (Ty.pair (Ty.slc true (Ty.pair (Ty.int IntKind.i64) (Ty.pair (Ty.int IntKind.i64) (Ty.pair (Ty.int IntKind.u8) (Ty.pair Ty.bool (Ty.pair Is Ty.unit)))))) (Ty.pair (Ty.slc true Word) Ty.unit)) ([], [], ())), (3, Ent.var (Ty.pair (Ty.slc true (Ty.pair (Ty.int IntKind.i64) (Ty.pair (Ty.int IntKind.i64) (Ty.pair (Ty.int IntKind.u8) (Ty.pair Ty.bool (Ty.pair Is Ty.unit)))))) (Ty.pair (Ty.slc true Word) Ty.unit)) ([], x0_2_1, ()))])) := by kernel_rfl
def Eeclone_s3 (v11 : List (Int × Int × Int × Bool × List Int × Unit)) (v12 : Int) (v13 : Int) (o2_1 : List (Int × Int × Int × Bool × List Int × Unit)) (o2_2_1 : List (Int × Int × Int × Unit)) (o3_1 : List (Int × Int × Int × Bool × List Int × Unit)) (o3_2_1 : List (Int × Int × Int × Unit)) : St := St.mk [(2, AV.ptr 2 []), (3, AV.ptr 3 []), (11, AV.val (Ty.slc false (Ty.pair (Ty.int IntKind.i64) (Ty.pair (Ty.int IntKind.i64) (Ty.pair (Ty.int IntKind.u8) (Ty.pair Ty.bool (Ty.pair (Ty.slc false (Ty.int IntKind.i64)) Ty.unit)))))) v11), (12, AV.val (Ty.int IntKind.i64) v12), (13, AV.val (Ty.int IntKind.i64) v13)] [(2, Ent.var (Ty.pair (Ty.slc true (Ty.pair (Ty.int IntKind.i64) (Ty.pair (Ty.int IntKind.i64) (Ty.pair (Ty.int IntKind.u8) (Ty.pair Ty.bool (Ty.pair Is Ty.unit)))))) (Ty.pair (Ty.slc true Word) Ty.unit)) (o2_1, o2_2_1, ())), (3, Ent.var (Ty.pair (Ty.slc true (Ty.pair (Ty.int IntKind.i64) (Ty.pair (Ty.int IntKind.i64) (Ty.pair (Ty.int IntKind.u8) (Ty.pair Ty.bool (Ty.pair Is Ty.unit)))))) (Ty.pair (Ty.slc true Word) Ty.unit)) (o3_1, o3_2_1, ()))]
theorem Eeclone_l3 (v11 : List (Int × Int × Int × Bool × List Int × Unit)) (v12 : Int) (v13 : Int) (o2_1 : List (Int × Int × Int × Bool × List Int × Unit)) (o2_2_1 : List (Int × Int × Int × Unit)) (o3_1 : List (Int × Int × Int × Bool × List Int × Unit)) (o3_2_1 : List (Int × Int × Int × Unit)) : exec Eeclone 1000 (.code (loopAt (bodyOf Try.prog 96) 3).1 :: .inLoop (loopAt (bodyOf Try.prog 96) 3).1 :: (loopAt (bodyOf Try.prog 96) 3).2) (Eeclone_s3 v11 v12 v13 o2_1 o2_2_1 o3_1 o3_2_1) =
  cond (decide (v13 < v12)) (.need ((0 : Int) ≤ v13 ∧ v13 < (↑(List.length v11) : Int)) (.need (List.length (Prod.fst (Prod.snd (Prod.snd (Prod.snd (Prod.snd (List.getD v11 (Int.toNat v13) ((0 : Int), (0 : Int), (0 : Int), false, [], ()))))))) ≤ 1048576) (.need (True ∧ [] ++ [Step.fld 0] = [] ++ [Step.fld 0] ∧ List.length o3_1 + List.length (List.set [((0 : Int), (0 : Int), (0 : Int), false, [], ())] (Int.toNat (↑0 : Int)) (Prod.fst (List.getD v11 (Int.toNat v13) ((0 : Int), (0 : Int), (0 : Int), false, [], ())), Prod.fst (Prod.snd (List.getD v11 (Int.toNat v13) ((0 : Int), (0 : Int), (0 : Int), false, [], ()))), Prod.fst (Prod.snd (Prod.snd (List.getD v11 (Int.toNat v13) ((0 : Int), (0 : Int), (0 : Int), false, [], ())))), Prod.fst (Prod.snd (Prod.snd (Prod.snd (List.getD v11 (Int.toNat v13) ((0 : Int), (0 : Int), (0 : Int), false, [], ()))))), Prod.fst (Prod.snd (Prod.snd (Prod.snd (Prod.snd (List.getD v11 (Int.toNat v13) ((0 : Int), (0 : Int), (0 : Int), false, [], ())))))), Prod.snd (Prod.snd (Prod.snd (Prod.snd (Prod.snd (List.getD v11 (Int.toNat v13) ((0 : Int), (0 : Int), (0 : Int), false, [], ())))))))) ≤ 140737488355328 ∧ (List.length o3_1 + List.length (List.set [((0 : Int), (0 : Int), (0 : Int), false, [], ())] (Int.toNat (↑0 : Int)) (Prod.fst (List.getD v11 (Int.toNat v13) ((0 : Int), (0 : Int), (0 : Int), false, [], ())), Prod.fst (Prod.snd (List.getD v11 (Int.toNat v13) ((0 : Int), (0 : Int), (0 : Int), false, [], ()))), Prod.fst (Prod.snd (Prod.snd (List.getD v11 (Int.toNat v13) ((0 : Int), (0 : Int), (0 : Int), false, [], ())))), Prod.fst (Prod.snd (Prod.snd (Prod.snd (List.getD v11 (Int.toNat v13) ((0 : Int), (0 : Int), (0 : Int), false, [], ()))))), Prod.fst (Prod.snd (Prod.snd (Prod.snd (Prod.snd (List.getD v11 (Int.toNat v13) ((0 : Int), (0 : Int), (0 : Int), false, [], ())))))), Prod.snd (Prod.snd (Prod.snd (Prod.snd (Prod.snd (List.getD v11 (Int.toNat v13) ((0 : Int), (0 : Int), (0 : Int), false, [], ()))))))))) * Ty.wb (Ty.pair (Ty.int IntKind.i64) (Ty.pair (Ty.int IntKind.i64) (Ty.pair (Ty.int IntKind.u8) (Ty.pair Ty.bool (Ty.pair Is Ty.unit))))) ≤ 140737488355328) (.need (inK IntKind.i64 (v13 + (1 : Int))) (.cut (loopAt (bodyOf Try.prog 96) 3).1 (loopAt (bodyOf Try.prog 96) 3).2 (St.mk [(2, AV.ptr 2 []), (3, AV.ptr 3 []), (11, AV.val (Ty.slc false (Ty.pair (Ty.int IntKind.i64) (Ty.pair (Ty.int IntKind.i64) (Ty.pair (Ty.int IntKind.u8) (Ty.pair Ty.bool (Ty.pair (Ty.slc false (Ty.int IntKind.i64)) Ty.unit)))))) v11), (12, AV.val (Ty.int IntKind.i64) v12), (13, AV.val (Ty.int IntKind.i64) (v13 + (1 : Int)))] [(2, Ent.var (Ty.pair (Ty.slc true (Ty.pair (Ty.int IntKind.i64) (Ty.pair (Ty.int IntKind.i64) (Ty.pair (Ty.int IntKind.u8) (Ty.pair Ty.bool (Ty.pair Is Ty.unit)))))) (Ty.pair (Ty.slc true Word) Ty.unit)) (o2_1, o2_2_1, ())), (3, Ent.var (Ty.pair (Ty.slc true (Ty.pair (Ty.int IntKind.i64) (Ty.pair (Ty.int IntKind.i64) (Ty.pair (Ty.int IntKind.u8) (Ty.pair Ty.bool (Ty.pair Is Ty.unit)))))) (Ty.pair (Ty.slc true Word) Ty.unit)) (o3_1 ++ List.set [((0 : Int), (0 : Int), (0 : Int), false, [], ())] (Int.toNat (↑0 : Int)) (Prod.fst (List.getD v11 (Int.toNat v13) ((0 : Int), (0 : Int), (0 : Int), false, [], ())), Prod.fst (Prod.snd (List.getD v11 (Int.toNat v13) ((0 : Int), (0 : Int), (0 : Int), false, [], ()))), Prod.fst (Prod.snd (Prod.snd (List.getD v11 (Int.toNat v13) ((0 : Int), (0 : Int), (0 : Int), false, [], ())))), Prod.fst (Prod.snd (Prod.snd (Prod.snd (List.getD v11 (Int.toNat v13) ((0 : Int), (0 : Int), (0 : Int), false, [], ()))))), Prod.fst (Prod.snd (Prod.snd (Prod.snd (Prod.snd (List.getD v11 (Int.toNat v13) ((0 : Int), (0 : Int), (0 : Int), false, [], ())))))), Prod.snd (Prod.snd (Prod.snd (Prod.snd (Prod.snd (List.getD v11 (Int.toNat v13) ((0 : Int), (0 : Int), (0 : Int), false, [], ()))))))), o3_2_1, ()))])))))) (.ret (((o3_1, o3_2_1, ()), ()))) := by kernel_rfl
theorem wb_door : Ty.wb DoorO = 48 := rfl
theorem take_snoc {α : Type} {l : List α} {i : Nat} (h : i < l.length) (d : α) : l.take i ++ [l.getD i d] = l.take (i + 1) := by
  rw [List.getD_eq_getElem?_getD, List.getElem?_eq_getElem h]; simp
theorem ceclone_valid : ceclone.Valid Try.prog 96 := by
  refine Ctr.valid_of Eeclone_ok rfl rfl Try.func96 (c := bodyOf Try.prog 96) rfl rfl Feclone_ok rfl ?_
  rintro ⟨⟨(hs : List DoorD), (ws : List WordD), ⟨⟩⟩, ⟨⟩⟩ ⟨(h1 : hs.length ≤ 1048576), (h2 : ws.length ≤ 1048576), (h3 : ∀ i, i < hs.length → (hs.getD i door0).2.2.2.2.1.length ≤ 1048576)⟩ -
  refine exec_sound (n := 1000) Eeclone_ok Feclone_ok ?_
  refine holds_of_eq (Eeclone_t hs ws) ?_
  refine ⟨h2, fun _ => ?_⟩
  refine Reach.loopI Eeclone_ok Feclone_ok (fun i : Nat => Eeclone_s3 hs (hs.length : Int) (i : Int) [] [] (hs.take i) ws) (fun i => i ≤ hs.length) (fun i => hs.length - i) 1000 (fun _ => ⟨uniq_of rfl, uniq_of rfl⟩) ?_ 0 (by omega)
  rintro i k1 - ih
  have k1 : i ≤ hs.length := k1
  refine holds_of_eq (Eeclone_l3 ..) ?_
  simp only [holds_cond, Tree.holds, true_and, true_implies, decide_eq_true_eq, decide_eq_false_iff_not, Bool.not_eq_true', Bool.not_eq_false', Int.toNat_natCast, inK_i64, List.length_set, List.length_cons, List.length_nil, wb_door]
  refine ⟨fun c => ?_, fun c => ?_⟩
  · have hi : i < hs.length := by omega
    have h4 := h3 i hi
    have next := ih (i + 1) (by show i + 1 ≤ hs.length; omega) (by omega)
    rw [← take_snoc hi door0] at next
    have hln : (hs.take i).length ≤ 1048576 := by rw [List.length_take]; omega
    rw [show hs.getD i (0, 0, 0, false, [], ()) = hs.getD i door0 from rfl]
    generalize hs.getD i door0 = d at *
    obtain ⟨a, b, c9, e, f, ⟨⟩⟩ := d
    simp only at h4 ⊢
    exact ⟨by omega, fun _ => ⟨h4, fun _ => ⟨⟨by omega, by omega⟩, fun _ => ⟨by omega, fun _ => next⟩⟩⟩⟩
  · show ((hs.take i, ws, ()), ()) = (((hs, ws, ()), ()) : EnterD × Unit)
    rw [List.take_of_length_le (by omega)]
def e0 : EnterD := ([], [], ())
/-- what a check that passes says -/
structure EOk (t : EnterD) : Prop where
  n : 1 ≤ t.1.length ∧ t.1.length ≤ 6
  h : ∀ i : Nat, i < t.1.length → edoor (t.1.getD i door0) i t.1.length = 0
  l : t.2.1.length ≤ 100
  w : ∀ k, k < t.2.1.length → (0 ≤ (t.2.1.getD k word0).1 ∧ (t.2.1.getD k word0).1 < t.1.length) ∧ (0 ≤ (t.2.1.getD k word0).2.1 ∧ (t.2.1.getD k word0).2.1 < t.1.length) ∧ (0 ≤ (t.2.1.getD k word0).2.2.1 ∧ (t.2.1.getD k word0).2.2.1 ≤ 16777215) ∧ (t.2.1.getD k word0).1 ≠ (t.2.1.getD k word0).2.1
theorem eword_iff {t : EnterD} {k : Nat} : ewordE t k = 0 ↔ (0 ≤ (t.2.1.getD k word0).1 ∧ (t.2.1.getD k word0).1 ≤ t.1.length - 1) ∧ (0 ≤ (t.2.1.getD k word0).2.1 ∧ (t.2.1.getD k word0).2.1 ≤ t.1.length - 1) ∧ (0 ≤ (t.2.1.getD k word0).2.2.1 ∧ (t.2.1.getD k word0).2.2.1 ≤ 16777215) ∧ (t.2.1.getD k word0).1 ≠ (t.2.1.getD k word0).2.1 := by
  rw [ewordE, ← inF_iff, ← inF_iff, ← inF_iff]
  generalize t.2.1.getD k word0 = w
  cases inF w.1 0 (t.1.length - 1) <;> cases inF w.2.1 0 (t.1.length - 1) <;> cases inF w.2.2.1 0 16777215 <;> simp
theorem echeck_iff {t : EnterD} : echeck t = 0 ↔ EOk t := by
  constructor
  · intro h
    unfold echeck at h
    split at h
    · cases h
    · rename_i h1
      split at h
      · exact absurd h (by assumption)
      · rename_i h2
        split at h
        · cases h
        · rename_i h3
          have h1 := inF_iff.1 (by simpa using h1)
          have h2 := firstE_zero.1 (Decidable.not_not.1 h2)
          have h4 := firstE_zero.1 h
          refine ⟨by omega, h2, by omega, fun k hk => ?_⟩
          obtain ⟨q1, q2, q3, q4⟩ := eword_iff.1 (h4 k hk)
          exact ⟨by omega, by omega, q3, q4⟩
  · intro h
    rw [echeck, if_neg (by rw [inF_iff.2 (show (1 : Int) ≤ t.1.length ∧ (t.1.length : Int) ≤ 6 by have := h.n; omega)]; simp), if_neg, if_neg (by have := h.l; omega)]
    · refine firstE_zero.2 (fun k hk => eword_iff.2 ?_)
      obtain ⟨q1, q2, q3, q4⟩ := h.w k hk
      exact ⟨by omega, by omega, q3, q4⟩
    · exact not_not_intro (firstE_zero.2 h.h)
/-- what a door that passes says -/
structure DOk (d : DoorD) (p n : Int) : Prop where
  c : 0 ≤ d.1 ∧ d.1 ≤ 16777215
  w : 0 ≤ d.2.1 ∧ d.2.1 ≤ d.1
  l : d.2.2.2.2.1.length ≤ 6
  y : bAndNot .u8 d.2.2.1 (others n p) = 0
  z : d.2.1 = 0 → d.2.2.1 = 0 ∧ d.2.2.2.1 = false ∧ d.2.2.2.2.1 = []
  i : d.2.2.2.1 = true → d.2.2.1 = others n p
  f : ∀ i, i < d.2.2.2.2.1.length → (0 ≤ d.2.2.2.2.1.getD i 0 ∧ d.2.2.2.2.1.getD i 0 < n) ∧ d.2.2.2.2.1.getD i 0 ≠ p ∧ d.2.2.2.2.1.getD i 0 ∉ d.2.2.2.2.1.take i
theorem later_iff {l : List Int} {p n : Int} {i : Nat} : laterE l p n i = 0 ↔ (0 ≤ l.getD i 0 ∧ l.getD i 0 ≤ n - 1) ∧ l.getD i 0 ≠ p ∧ l.getD i 0 ∉ l.take i := by
  rw [laterE, ← inF_iff]
  generalize l.getD i 0 = x
  cases inF x 0 (n - 1) with
  | false => simp
  | true => by_cases e : x = p <;> by_cases e2 : x ∈ l.take i <;> simp [e, e2] <;> (subst e; exact e2)
theorem edoor_iff {d : DoorD} {p n : Int} : edoor d p n = 0 ↔ DOk d p n := by
  obtain ⟨c, w, y, b, l, u⟩ := d
  have hd : edoor (c, w, y, b, l, u) p n = if inF c 0 16777215 = false then 1 else if inF w 0 c = false then 1 else if (6 : Int) < l.length then 1 else
    if bAndNot .u8 y (others n p) ≠ 0 then 4 else if w = 0 ∧ (y ≠ 0 ∨ b = true ∨ (0 : Int) < l.length) then 4 else
    if b = true ∧ y ≠ others n p then 4 else firstE (laterE l p n) l.length := rfl
  rw [hd]
  constructor
  · intro h
    split at h
    · cases h
    rename_i h1
    split at h
    · cases h
    rename_i h2
    split at h
    · cases h
    rename_i h3
    split at h
    · cases h
    rename_i h4
    split at h
    · cases h
    rename_i h5
    split at h
    · cases h
    rename_i h6
    have h1 := inF_iff.1 (by simpa using h1)
    have h2 := inF_iff.1 (by simpa using h2)
    refine ⟨h1, h2, by show l.length ≤ 6; omega, Decidable.not_not.1 h4, fun e => ⟨?_, ?_, ?_⟩, fun e => ?_, fun i hi => ?_⟩
    · exact Decidable.not_not.1 (fun h9 => h5 ⟨e, .inl h9⟩)
    · cases hb : b with
      | false => rfl
      | true => exact absurd ⟨e, .inr (.inl hb)⟩ h5
    · show l = []
      refine List.length_eq_zero_iff.1 ?_
      have : ¬ (0 : Int) < l.length := fun h9 => h5 ⟨e, .inr (.inr h9)⟩
      omega
    · exact Decidable.not_not.1 (fun h9 => h6 ⟨e, h9⟩)
    · obtain ⟨q1, q2, q3⟩ := later_iff.1 (firstE_zero.1 h i hi)
      exact ⟨by show 0 ≤ l.getD i 0 ∧ l.getD i 0 < n; omega, q2, q3⟩
  · rintro ⟨h1, h2, h3, h4, h5, h6, h7⟩
    have h1 : 0 ≤ c ∧ c ≤ 16777215 := h1
    have h2 : 0 ≤ w ∧ w ≤ c := h2
    have h3 : l.length ≤ 6 := h3
    have h5 : w = 0 → y = 0 ∧ b = false ∧ l = [] := h5
    rw [if_neg (by simp [inF_iff.2 h1]), if_neg (by simp [inF_iff.2 h2]), if_neg (by omega), if_neg (by simpa using h4), if_neg, if_neg (fun h => h.2 (h6 h.1))]
    · refine firstE_zero.2 (fun i hi => later_iff.2 ?_)
      obtain ⟨q1, q2, q3⟩ := h7 i hi
      have q1 : 0 ≤ l.getD i 0 ∧ l.getD i 0 < n := q1
      exact ⟨by omega, q2, q3⟩
    · rintro ⟨e, h⟩
      obtain ⟨a1, a2, a3⟩ := h5 e
      subst a1; subst a2; subst a3
      simp at h
theorem EOk.d {t : EnterD} (h : EOk t) {i : Nat} (hi : i < t.1.length) : DOk (t.1.getD i door0) i t.1.length := edoor_iff.1 (h.h i hi)
end Go.Proofs.Ytbcdpeogfghgcaa
