/- ViewLine: the law's contract. -/
import Derived.Test.YtagjonjobbckdaaViewN
namespace Go.Proofs.Ytagjonjobbckdaa
open Go.Ex
set_option maxRecDepth 100000

def rest (a n : Int) : Int := if n ≤ 0 then 0 else Int.tmod (Int.tmod a n + n) n
def c24 : Ctr := { ps := [.v I64, .v I64], rs := [I64], pre := fun x => LE.le (α := Int) x.2.1 1000000, fn := fun x => (rest x.1 x.2.1, ()), out := fun _ => () }
noncomputable def E24 : Env := { P := Try.prog, tt := tt, ctr := [], res := [Go.ResultVar.tmp 4], rs := [Ty.int IntKind.i64], ps := [PK.v (Ty.int IntKind.i64), PK.v (Ty.int IntKind.i64)], cuts := [], nt := 14 }
theorem E24_ok : EnvOk E24 := envOk tt_ok trivial
theorem F24_ok : FnOk E24 Try.f24 := ⟨rfl, rfl⟩
theorem E24_t (x0 : Int) (x1 : Int) : exec E24 1000 [.code (bodyOf Try.prog 24)] (initSt c24.ps ((x0, x1, ()))) =
  cond (decide (x1 ≤ (0 : Int))) (.ret (((0 : Int), ()))) (.need ((0 : Int) < x1) (.need (inK IntKind.i64 (Int.tmod x0 x1 + x1)) (.need ((0 : Int) < x1) (.ret ((Int.tmod (Int.tmod x0 x1 + x1) x1, ())))))) := by kernel_rfl
theorem c24_valid : c24.Valid Try.prog 24 := by
  refine Ctr.valid_of E24_ok rfl rfl Try.func24 (c := bodyOf Try.prog 24) rfl rfl F24_ok rfl ?_
  rintro ⟨(x0 : Int), (x1 : Int), ⟨⟩⟩ hp -
  refine exec_sound (n := 1000) E24_ok F24_ok ?_
  refine holds_of_eq (E24_t x0 x1) ?_
  have hp : x1 ≤ 1000000 := hp
  simp only [holds_cond, Tree.holds, decide_eq_true_eq, decide_eq_false_iff_not]
  refine ⟨fun a => ?_, fun a => ?_⟩
  · show ((0, ()) : Int × Unit) = (rest x0 x1, ())
    rw [rest, if_pos a]
  · have h0 : 0 < x1 := by omega
    have h1 := Int.tmod_lt_of_pos x0 h0
    have h2 : -x1 < Int.tmod x0 x1 := by
      have := Int.tmod_lt_of_pos (-x0) h0
      rw [Int.neg_tmod] at this
      omega
    refine ⟨h0, fun _ => ⟨⟨?_, ?_⟩, fun _ => ⟨h0, fun _ => ?_⟩⟩⟩
    · show (-9223372036854775808 : Int) ≤ _; omega
    · show _ ≤ (9223372036854775807 : Int); omega
    · show ((_, ()) : Int × Unit) = (rest x0 x1, ())
      rw [rest, if_neg a]

theorem bAnd_comm (k : IntKind) (x y : Int) : bAnd k x y = bAnd k y x := by simp only [bAnd, BitVec.and_comm]

noncomputable def E8 : Env := { P := Try.prog, tt := tt, ctr := [(23, c23), (22, c22), (24, c24), (25, c25), (26, c26)], res := [Go.ResultVar.tmp 4], rs := [Ty.bool], ps := [PK.v V, PK.v (Ty.slc false (Ty.pair (Ty.int IntKind.i64) (Ty.pair (Ty.int IntKind.i64) Ty.unit)))], cuts := [(5, [(2, none), (23, none), (24, none), (25, none)])], nt := 71 }
theorem E8_ok : EnvOk E8 := envOk tt_ok ⟨c23_valid, c22_valid, c24_valid, c25_valid, c26_valid, trivial⟩
theorem F8_ok : FnOk E8 Try.f8 := ⟨rfl, rfl⟩
theorem E8_t (x0_1 : Int) (x0_2_1 : Int) (x1 : List (Int × Int × Unit)) : exec E8 1000 [.code (bodyOf Try.prog 8)] (initSt (lawC [V, .slc false PairT] (fun _ => True)).ps (((x0_1, x0_2_1, ()), x1, ()))) =
  .need (True) (cond (decide (Prod.fst (Prod.snd (firstV ((0 : Int), (12 : Int), ()))) ≠ (0 : Int))) (.ret ((false, ()))) (cond (decide (Prod.fst (firstV ((0 : Int), (12 : Int), ())) ≠ (2 : Int))) (.ret ((false, ()))) (.cut (loopAt (bodyOf Try.prog 8) 5).1 (loopAt (bodyOf Try.prog 8) 5).2 (St.mk [(2, AV.ptr 2 []), (23, AV.val (Ty.slc false (Ty.pair (Ty.int IntKind.i64) (Ty.pair (Ty.int IntKind.i64) Ty.unit))) x1), (24, AV.val (Ty.int IntKind.i64) (↑(List.length x1) : Int)), (25, AV.val (Ty.int IntKind.i64) (0 : Int))] [(2, Ent.var V (x0_1, x0_2_1, ()))])))) := by kernel_rfl
def E8_s5 (v23 : List (Int × Int × Unit)) (v24 : Int) (v25 : Int) (o2_1 : Int) (o2_2_1 : Int) : St := St.mk [(2, AV.ptr 2 []), (23, AV.val (Ty.slc false (Ty.pair (Ty.int IntKind.i64) (Ty.pair (Ty.int IntKind.i64) Ty.unit))) v23), (24, AV.val (Ty.int IntKind.i64) v24), (25, AV.val (Ty.int IntKind.i64) v25)] [(2, Ent.var V (o2_1, o2_2_1, ()))]
theorem E8_l5 (v23 : List (Int × Int × Unit)) (v24 : Int) (v25 : Int) (o2_1 : Int) (o2_2_1 : Int) : exec E8 1000 (.code (loopAt (bodyOf Try.prog 8) 5).1 :: .inLoop (loopAt (bodyOf Try.prog 8) 5).1 :: (loopAt (bodyOf Try.prog 8) 5).2) (E8_s5 v23 v24 v25 o2_1 o2_2_1) =
  cond (decide (v25 < v24)) (.need ((0 : Int) ≤ v25 ∧ v25 < (↑(List.length v23) : Int)) (.need ((64 : Int) ≤ (1000000 : Int)) (.need ((64 : Int) ≤ (1000000 : Int)) (.need (True) (cond (decide (Prod.fst (Prod.snd (nextV (o2_1, o2_2_1, ()) (IntKind.wrap IntKind.u8 (rest (Prod.fst (List.getD v23 (Int.toNat v25) ((0 : Int), (0 : Int), ()))) (64 : Int))) (IntKind.wrap IntKind.u8 (rest (Prod.fst (Prod.snd (List.getD v23 (Int.toNat v25) ((0 : Int), (0 : Int), ())))) (64 : Int))))) ≠ (0 : Int))) (.need (inK IntKind.i64 (v25 + (1 : Int))) (.cut (loopAt (bodyOf Try.prog 8) 5).1 (loopAt (bodyOf Try.prog 8) 5).2 (St.mk [(2, AV.ptr 2 []), (23, AV.val (Ty.slc false (Ty.pair (Ty.int IntKind.i64) (Ty.pair (Ty.int IntKind.i64) Ty.unit))) v23), (24, AV.val (Ty.int IntKind.i64) v24), (25, AV.val (Ty.int IntKind.i64) (v25 + (1 : Int)))] [(2, Ent.var V (o2_1, o2_2_1, ()))]))) (.need (True) (.need (inK IntKind.i64 (o2_1 + (1 : Int))) (cond (decide (Prod.fst (Prod.fst (nextV (o2_1, o2_2_1, ()) (IntKind.wrap IntKind.u8 (rest (Prod.fst (List.getD v23 (Int.toNat v25) ((0 : Int), (0 : Int), ()))) (64 : Int))) (IntKind.wrap IntKind.u8 (rest (Prod.fst (Prod.snd (List.getD v23 (Int.toNat v25) ((0 : Int), (0 : Int), ())))) (64 : Int))))) ≠ o2_1 + (1 : Int))) (.ret ((false, ()))) (.need (inK IntKind.i64 ((2 : Int) * ones (bAnd IntKind.u8 o2_2_1 (Prod.fst (Prod.snd (Prod.fst (nextV (o2_1, o2_2_1, ()) (IntKind.wrap IntKind.u8 (rest (Prod.fst (List.getD v23 (Int.toNat v25) ((0 : Int), (0 : Int), ()))) (64 : Int))) (IntKind.wrap IntKind.u8 (rest (Prod.fst (Prod.snd (List.getD v23 (Int.toNat v25) ((0 : Int), (0 : Int), ())))) (64 : Int)))))))))) (.need (True) (cond (decide ((2 : Int) * ones (bAnd IntKind.u8 o2_2_1 (Prod.fst (Prod.snd (Prod.fst (nextV (o2_1, o2_2_1, ()) (IntKind.wrap IntKind.u8 (rest (Prod.fst (List.getD v23 (Int.toNat v25) ((0 : Int), (0 : Int), ()))) (64 : Int))) (IntKind.wrap IntKind.u8 (rest (Prod.fst (Prod.snd (List.getD v23 (Int.toNat v25) ((0 : Int), (0 : Int), ())))) (64 : Int)))))))) ≤ ones o2_2_1)) (.ret ((false, ()))) (.need (True) (cond (decide (check (Prod.fst (nextV (o2_1, o2_2_1, ()) (IntKind.wrap IntKind.u8 (rest (Prod.fst (List.getD v23 (Int.toNat v25) ((0 : Int), (0 : Int), ()))) (64 : Int))) (IntKind.wrap IntKind.u8 (rest (Prod.fst (Prod.snd (List.getD v23 (Int.toNat v25) ((0 : Int), (0 : Int), ())))) (64 : Int))))) ≠ (0 : Int))) (.ret ((false, ()))) (.need (inK IntKind.i64 (v25 + (1 : Int))) (.cut (loopAt (bodyOf Try.prog 8) 5).1 (loopAt (bodyOf Try.prog 8) 5).2 (St.mk [(2, AV.ptr 2 []), (23, AV.val (Ty.slc false (Ty.pair (Ty.int IntKind.i64) (Ty.pair (Ty.int IntKind.i64) Ty.unit))) v23), (24, AV.val (Ty.int IntKind.i64) v24), (25, AV.val (Ty.int IntKind.i64) (v25 + (1 : Int)))] [(2, Ent.var V (Prod.fst (nextV (o2_1, o2_2_1, ()) (IntKind.wrap IntKind.u8 (rest (Prod.fst (List.getD v23 (Int.toNat v25) ((0 : Int), (0 : Int), ()))) (64 : Int))) (IntKind.wrap IntKind.u8 (rest (Prod.fst (Prod.snd (List.getD v23 (Int.toNat v25) ((0 : Int), (0 : Int), ())))) (64 : Int))))))])))))))))))))))) (.ret ((true, ()))) := by kernel_rfl
theorem c8_valid : (lawC [V, .slc false PairT] (fun _ => True)).Valid Try.prog 8 := by
  refine Ctr.valid_of E8_ok rfl rfl Try.func8 (c := bodyOf Try.prog 8) rfl rfl F8_ok rfl ?_
  rintro ⟨⟨(n : Int), (m : Int), ⟨⟩⟩, (l : List (Int × Int × Unit)), ⟨⟩⟩ - ⟨⟨h0, h1, -⟩, ⟨hl, -⟩, -⟩
  refine exec_sound (n := 1000) E8_ok F8_ok ?_
  refine holds_of_eq (E8_t n m l) ?_
  have f1 : firstV (0, 12, ()) = (2, 0, ()) := by decide +kernel
  have yes : ((true, ()) : Bool × Unit) = (true, ()) := rfl
  simp only [f1, holds_cond, Tree.holds, decide_eq_true_eq, decide_eq_false_iff_not]
  refine ⟨trivial, fun _ => ⟨fun a => absurd rfl a, fun _ => ⟨fun a => absurd rfl a, fun _ => ?_⟩⟩⟩
  have hl : l.length ≤ 9223372036854775807 := hl
  refine Reach.loop E8_ok F8_ok (fun q : Nat × Int × Int => E8_s5 l (l.length : Int) (q.1 : Int) q.2.1 q.2.2) (fun q => q.1 ≤ l.length ∧ (0 ≤ q.2.2 ∧ q.2.2 ≤ 255))
    (fun q => l.length - q.1) 1000 (fun q => ⟨uniq_of rfl, uniq_of rfl⟩) ?_ (0, n, m) ⟨by omega, h1⟩
  rintro ⟨i, n, m⟩ ⟨k1, k2⟩ -
  have k1 : i ≤ l.length := k1
  have k2 : 0 ≤ m ∧ m ≤ 255 := k2
  refine holds_of_eq (E8_l5 ..) ?_
  generalize hg : IntKind.wrap IntKind.u8 (rest (Prod.fst (List.getD l (Int.toNat ((i : Nat) : Int)) (0, 0, ()))) 64) = g
  generalize hc : IntKind.wrap IntKind.u8 (rest (Prod.fst (Prod.snd (List.getD l (Int.toNat ((i : Nat) : Int)) (0, 0, ())))) 64) = c
  have g1 : 0 ≤ g ∧ g ≤ 255 := by rw [← hg]; exact u8_in.1 (wrap_in _ _)
  have c1 : 0 ≤ c ∧ c ≤ 255 := by rw [← hc]; exact u8_in.1 (wrap_in _ _)
  simp only [holds_cond, Tree.holds, decide_eq_true_eq, decide_eq_false_iff_not]
  refine ⟨fun a => ?_, fun _ => yes⟩
  have hi : i < l.length := by omega
  have hk : inK .i64 ((i : Int) + 1) := by
    constructor
    · show (-9223372036854775808 : Int) ≤ _; omega
    · show _ ≤ (9223372036854775807 : Int); omega
  refine ⟨⟨by omega, by omega⟩, fun _ => ⟨by decide, fun _ => ⟨by decide, fun _ => ⟨trivial, fun _ => ⟨fun b => ?_, fun b => ?_⟩⟩⟩⟩⟩
  · exact ⟨hk, fun _ => .inl ⟨trivial, trivial, (i + 1, n, m), rfl, ⟨hi, k2⟩, by show l.length - (i + 1) < l.length - i; omega⟩⟩
  · have b : (nextV (n, m, ()) g c).2.1 = 0 := Decidable.of_not_not b
    obtain ⟨n1, n2, _, _⟩ := next_follows k2 g1 c1 b
    obtain ⟨e1, _, _, _, _, e2⟩ := nextV_inv b
    obtain ⟨r1, r2, _, _⟩ := check_inv e1
    have r1 : 0 ≤ n := r1
    have r2 : n ≤ 16777215 := r2
    simp only [e2]
    have hb : 0 ≤ ones (bAnd .u8 m (bOr .u8 (bAndNot .u8 m g) c)) ∧ ones (bAnd .u8 m (bOr .u8 (bAndNot .u8 m g) c)) ≤ 8 := ones_le _
    have hh : ones m < 2 * ones (bAnd .u8 m (bOr .u8 (bAndNot .u8 m g) c)) := by
      rw [bAnd_comm]
      simpa [half] using n2
    refine ⟨trivial, fun _ => ⟨⟨?_, ?_⟩, fun _ => ⟨fun d => absurd rfl d, fun _ => ⟨⟨?_, ?_⟩, fun _ => ⟨trivial, fun _ => ⟨fun d => absurd d (by omega), fun _ => ⟨trivial, fun _ => ⟨fun d => absurd n1 d, fun _ => ⟨hk, fun _ => .inl ⟨trivial, trivial, (i + 1, n + 1, bOr .u8 (bAndNot .u8 m g) c), rfl, ⟨hi, u8_in.1 or_in⟩, by show l.length - (i + 1) < l.length - i; omega⟩⟩⟩⟩⟩⟩⟩⟩⟩⟩
    · show (-9223372036854775808 : Int) ≤ _; omega
    · show _ ≤ (9223372036854775807 : Int); omega
    · show (-9223372036854775808 : Int) ≤ _; omega
    · show _ ≤ (9223372036854775807 : Int); omega
end Go.Proofs.Ytagjonjobbckdaa
