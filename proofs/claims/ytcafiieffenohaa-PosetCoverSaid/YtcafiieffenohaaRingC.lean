/- The contracts of the package ring's functions: send, and what slices.Repeat needs. -/
import Derived.Test.YtcafiieffenohaaRingB
namespace Go.Proofs.Ytcafiieffenohaa
open Go.Ex
set_option maxRecDepth 100000
def sendPre (l : List Int) (i d m : Int) : Prop := RingOk l ∧ 0 ≤ i ∧ i < l.length ∧ (d = 1 ∨ d = -1) ∧ 1 ≤ m ∧ m ≤ 64
def sendFn (l : List Int) (i d m : Int) : Int × Bool × Unit := ((sendF l (decide (d = 1)) i.toNat m.toNat).1, (sendF l (decide (d = 1)) i.toNat m.toNat).2, ())
def csend : Ctr := { ps := [.v (.slc false I64), .v I64, .v I64, .v I64], rs := [I64, .bool], pre := fun x => sendPre x.1 x.2.1 x.2.2.1 x.2.2.2.1, fn := fun x => sendFn x.1 x.2.1 x.2.2.1 x.2.2.2.1, out := fun _ => () }
noncomputable def Esend : Env := { P := Try.prog, tt := tt, ctr := [], res := [Go.ResultVar.tmp 8, Go.ResultVar.tmp 9], rs := [Ty.int IntKind.i64, Ty.bool], ps := [PK.v (Ty.slc false (Ty.int IntKind.i64)), PK.v (Ty.int IntKind.i64), PK.v (Ty.int IntKind.i64), PK.v (Ty.int IntKind.i64)], cuts := [(3, [(0, none), (1, none), (2, none), (3, none), (10, none), (11, none)])], nt := 49 }
theorem Esend_ok : EnvOk Esend := envOk tt_ok trivial
theorem Fsend_ok : FnOk Esend Try.f63 := ⟨rfl, rfl⟩
theorem Esend_t (x0 : List Int) (x1 : Int) (x2 : Int) (x3 : Int) : exec Esend 1000 [.code (bodyOf Try.prog 63)] (initSt csend.ps ((x0, x1, x2, x3, ()))) =
  .cut (loopAt (bodyOf Try.prog 63) 3).1 (loopAt (bodyOf Try.prog 63) 3).2 (St.mk [(0, AV.val (Ty.slc false (Ty.int IntKind.i64)) x0), (1, AV.val (Ty.int IntKind.i64) x1), (2, AV.val (Ty.int IntKind.i64) x2), (3, AV.val (Ty.int IntKind.i64) x3), (10, AV.val (Ty.int IntKind.i64) (↑(List.length x0) : Int)), (11, AV.val (Ty.int IntKind.i64) (1 : Int))] []) := by kernel_rfl
def Esend_s3 (v0 : List Int) (v1 : Int) (v2 : Int) (v3 : Int) (v10 : Int) (v11 : Int) : St := St.mk [(0, AV.val (Ty.slc false (Ty.int IntKind.i64)) v0), (1, AV.val (Ty.int IntKind.i64) v1), (2, AV.val (Ty.int IntKind.i64) v2), (3, AV.val (Ty.int IntKind.i64) v3), (10, AV.val (Ty.int IntKind.i64) v10), (11, AV.val (Ty.int IntKind.i64) v11)] []
theorem Esend_l3 (v0 : List Int) (v1 : Int) (v2 : Int) (v3 : Int) (v10 : Int) (v11 : Int) : exec Esend 1000 (.code (loopAt (bodyOf Try.prog 63) 3).1 :: .inLoop (loopAt (bodyOf Try.prog 63) 3).1 :: (loopAt (bodyOf Try.prog 63) 3).2) (Esend_s3 v0 v1 v2 v3 v10 v11) =
  cond (decide (v11 ≤ v3)) (.need (inK IntKind.i64 (v2 * v11)) (.need (inK IntKind.i64 (v1 + v2 * v11)) (.need ((0 : Int) < v10) (.need (inK IntKind.i64 (Int.tmod (v1 + v2 * v11) v10 + v10)) (.need ((0 : Int) < v10) (cond (decide (Int.tmod (Int.tmod (v1 + v2 * v11) v10 + v10) v10 = v1)) (.ret ((v11, true, ()))) (.need ((0 : Int) ≤ Int.tmod (Int.tmod (v1 + v2 * v11) v10 + v10) v10 ∧ Int.tmod (Int.tmod (v1 + v2 * v11) v10 + v10) v10 < (↑(List.length v0) : Int)) (.need ((0 : Int) ≤ v1 ∧ v1 < (↑(List.length v0) : Int)) (cond (decide (List.getD v0 (Int.toNat v1) (0 : Int) < List.getD v0 (Int.toNat (Int.tmod (Int.tmod (v1 + v2 * v11) v10 + v10) v10)) (0 : Int))) (.ret ((v11, false, ()))) (.need (inK IntKind.i64 (v11 + (1 : Int))) (.cut (loopAt (bodyOf Try.prog 63) 3).1 (loopAt (bodyOf Try.prog 63) 3).2 (St.mk [(0, AV.val (Ty.slc false (Ty.int IntKind.i64)) v0), (1, AV.val (Ty.int IntKind.i64) v1), (2, AV.val (Ty.int IntKind.i64) v2), (3, AV.val (Ty.int IntKind.i64) v3), (10, AV.val (Ty.int IntKind.i64) v10), (11, AV.val (Ty.int IntKind.i64) (v11 + (1 : Int)))] [])))))))))))) (.need (inK IntKind.i64 ((2 : Int) * v3)) (.ret (((2 : Int) * v3, true, ())))) := by kernel_rfl
theorem tmod_nn {z n : Int} (hn : 0 < n) : Int.tmod (Int.tmod z n + n) n = z % n := by
  have h1 := Int.lt_tmod_of_pos z hn
  rw [Int.tmod_eq_emod_of_nonneg (by omega), Int.tmod_def, show z - n * z.tdiv n + n = z + n * (1 - z.tdiv n) by rw [Int.mul_sub, Int.mul_one]; omega, Int.add_mul_emod_self_left]
theorem nb_int {n i k : Nat} {d : Int} (hn : 1 ≤ n) (hd : d = 1 ∨ d = -1) : Int.tmod (Int.tmod ((i : Int) + d * (k : Int)) (n : Int) + (n : Int)) (n : Int) = ((nb n (decide (d = 1)) i k : Nat) : Int) := by
  rw [tmod_nn (by omega)]
  rcases hd with rfl | rfl
  · rw [decide_eq_true rfl, Int.one_mul]; rfl
  · rw [decide_eq_false (by decide), nb, Int.natCast_emod]
    have h1 := Nat.div_add_mod k n
    have h2 := Nat.mod_lt k hn
    have h3 : (i : Int) + -1 * (k : Int) = ((i + (n - k % n) : Nat) : Int) + (n : Int) * (-((k / n : Nat) : Int) - 1) := by
      have h4 : (n : Int) * (-((k / n : Nat) : Int) - 1) = -((n * (k / n) : Nat) : Int) - n := by
        rw [Int.mul_sub, Int.mul_neg, Int.mul_one, Int.natCast_mul]
      rw [h4]; omega
    rw [h3, Int.add_mul_emod_self_left]
theorem csend_valid : csend.Valid Try.prog 63 := by
  refine Ctr.valid_of Esend_ok rfl rfl Try.func63 (c := bodyOf Try.prog 63) rfl rfl Fsend_ok rfl ?_
  rintro ⟨(l : List Int), (i : Int), (d : Int), (m : Int), ⟨⟩⟩ (hpre : sendPre l i d m) -
  obtain ⟨hr, h0, h1, hd, hm1, hm2⟩ := hpre
  obtain ⟨i, rfl⟩ := Int.eq_ofNat_of_zero_le h0
  obtain ⟨m, rfl⟩ := Int.eq_ofNat_of_zero_le (by omega : 0 ≤ m)
  have hp := hr.pos
  have hle := hr.le
  have hi : i < l.length := by omega
  have hdk : ∀ k : Nat, k ≤ 65 → -65 ≤ d * (k : Int) ∧ d * (k : Int) ≤ 65 := fun k hk => by rcases hd with rfl | rfl <;> omega
  refine exec_sound (n := 1000) Esend_ok Fsend_ok ?_
  refine holds_of_eq (Esend_t l (i : Int) d (m : Int)) ?_
  refine Reach.loopI Esend_ok Fsend_ok (fun k : Nat => Esend_s3 l (i : Int) d (m : Int) (l.length : Int) (k : Int)) (fun k => 1 ≤ k ∧ k ≤ m + 1 ∧ sendF l (decide (d = 1)) i m = sGo l (decide (d = 1)) i (m + 1 - k) k)
    (fun k => m + 1 - k) 1000 (fun _ => ⟨uniq_of rfl, uniq_of rfl⟩) ?_ 1 ⟨by omega, by omega, rfl⟩
  rintro k ⟨k1, k2, k3⟩ - ih
  refine holds_of_eq (Esend_l3 ..) ?_
  have e := nb_int (i := i) (k := k) hp hd
  have hb := nb_lt hp (s := decide (d = 1)) (i := i) (d := k)
  have hk := hdk k (by omega)
  have t1 := Int.lt_tmod_of_pos ((i : Int) + d * (k : Int)) (show (0 : Int) < l.length by omega)
  have t2 := Int.tmod_lt_of_pos ((i : Int) + d * (k : Int)) (show (0 : Int) < l.length by omega)
  simp only [holds_cond, Tree.holds, true_and, true_implies, decide_eq_true_eq, decide_eq_false_iff_not, Bool.not_eq_true', Bool.not_eq_false', Int.toNat_natCast, inK_i64, List.length_set, List.length_cons, List.length_nil, e]
  refine ⟨fun h => ⟨by omega, fun _ => ⟨by omega, fun _ => ⟨by omega, fun _ => ⟨by omega, fun _ => ⟨by omega, fun _ => ?_⟩⟩⟩⟩⟩, fun h => ⟨by omega, fun _ => ?_⟩⟩
  · obtain ⟨f, hf⟩ : ∃ f, m + 1 - k = f + 1 := ⟨m - k, by omega⟩
    rw [hf, sGo] at k3
    refine ⟨fun c => ?_, fun c => ⟨by omega, fun _ => ⟨by omega, fun _ => ⟨fun c2 => ?_, fun c2 => ⟨by omega, fun _ => ih (k + 1) ⟨by omega, by omega, ?_⟩ (by omega)⟩⟩⟩⟩⟩
    · show (((k : Int), true, ()) : Int × Bool × Unit) = ((sendF l (decide (d = 1)) i m).1, (sendF l (decide (d = 1)) i m).2, ())
      rw [k3, if_pos (by omega)]
    · show (((k : Int), false, ()) : Int × Bool × Unit) = ((sendF l (decide (d = 1)) i m).1, (sendF l (decide (d = 1)) i m).2, ())
      rw [k3, if_neg (by omega), if_pos c2]
    · rw [k3, if_neg (by omega), if_neg c2, show m + 1 - (k + 1) = f by omega]
  · have hk2 : k = m + 1 := by omega
    subst hk2
    rw [Nat.sub_self, sGo] at k3
    show ((2 * (m : Int), true, ()) : Int × Bool × Unit) = ((sendF l (decide (d = 1)) i m).1, (sendF l (decide (d = 1)) i m).2, ())
    rw [k3, show (2 * (((m + 1 : Nat) : Int) - 1)) = 2 * (m : Int) by omega]
def mulPre (x y : Int) : Prop := x = 1 ∧ 0 ≤ y ∧ y ≤ 1000
def mulFn (_ y : Int) : Int × Int × Unit := (0, y, ())
def cmul64 : Ctr := { ps := [.v (.int .u64), .v (.int .u64)], rs := [.int .u64, .int .u64], pre := fun x => mulPre x.1 x.2.1, fn := fun x => mulFn x.1 x.2.1, out := fun _ => () }
noncomputable def Emul64 : Env := { P := Try.prog, tt := tt, ctr := [], res := [Go.ResultVar.tmp 4, Go.ResultVar.tmp 5], rs := [Ty.int IntKind.u64, Ty.int IntKind.u64], ps := [PK.v (Ty.int IntKind.u64), PK.v (Ty.int IntKind.u64)], cuts := [], nt := 51 }
theorem Emul64_ok : EnvOk Emul64 := envOk tt_ok trivial
theorem Fmul64_ok : FnOk Emul64 Try.f93 := ⟨rfl, rfl⟩
theorem Emul64_t (x0 : Int) (x1 : Int) : exec Emul64 1000 [.code (bodyOf Try.prog 93)] (initSt cmul64.ps ((x0, x1, ()))) =
  .need ((0 : Int) ≤ (32 : Int)) (.need ((0 : Int) ≤ (32 : Int)) (.need ((0 : Int) ≤ (32 : Int)) (.need ((0 : Int) ≤ (32 : Int)) (.need ((0 : Int) ≤ (32 : Int)) (.ret ((IntKind.wrap IntKind.u64 (IntKind.wrap IntKind.u64 (IntKind.wrap IntKind.u64 (x0 / (2 : Int) ^ min (Int.toNat (32 : Int)) (IntKind.bits IntKind.u64) * (x1 / (2 : Int) ^ min (Int.toNat (32 : Int)) (IntKind.bits IntKind.u64))) + IntKind.wrap IntKind.u64 (IntKind.wrap IntKind.u64 (x0 / (2 : Int) ^ min (Int.toNat (32 : Int)) (IntKind.bits IntKind.u64) * bAnd IntKind.u64 x1 (4294967295 : Int)) + IntKind.wrap IntKind.u64 (bAnd IntKind.u64 x0 (4294967295 : Int) * bAnd IntKind.u64 x1 (4294967295 : Int)) / (2 : Int) ^ min (Int.toNat (32 : Int)) (IntKind.bits IntKind.u64)) / (2 : Int) ^ min (Int.toNat (32 : Int)) (IntKind.bits IntKind.u64)) + IntKind.wrap IntKind.u64 (bAnd IntKind.u64 (IntKind.wrap IntKind.u64 (IntKind.wrap IntKind.u64 (x0 / (2 : Int) ^ min (Int.toNat (32 : Int)) (IntKind.bits IntKind.u64) * bAnd IntKind.u64 x1 (4294967295 : Int)) + IntKind.wrap IntKind.u64 (bAnd IntKind.u64 x0 (4294967295 : Int) * bAnd IntKind.u64 x1 (4294967295 : Int)) / (2 : Int) ^ min (Int.toNat (32 : Int)) (IntKind.bits IntKind.u64))) (4294967295 : Int) + IntKind.wrap IntKind.u64 (bAnd IntKind.u64 x0 (4294967295 : Int) * (x1 / (2 : Int) ^ min (Int.toNat (32 : Int)) (IntKind.bits IntKind.u64)))) / (2 : Int) ^ min (Int.toNat (32 : Int)) (IntKind.bits IntKind.u64)), IntKind.wrap IntKind.u64 (x0 * x1), ()))))))) := by kernel_rfl
def mulL (x0 x1 : Int) : Int × Int × Unit := (IntKind.wrap IntKind.u64 (IntKind.wrap IntKind.u64 (IntKind.wrap IntKind.u64 (x0 / (2 : Int) ^ min (Int.toNat (32 : Int)) (IntKind.bits IntKind.u64) * (x1 / (2 : Int) ^ min (Int.toNat (32 : Int)) (IntKind.bits IntKind.u64))) + IntKind.wrap IntKind.u64 (IntKind.wrap IntKind.u64 (x0 / (2 : Int) ^ min (Int.toNat (32 : Int)) (IntKind.bits IntKind.u64) * bAnd IntKind.u64 x1 (4294967295 : Int)) + IntKind.wrap IntKind.u64 (bAnd IntKind.u64 x0 (4294967295 : Int) * bAnd IntKind.u64 x1 (4294967295 : Int)) / (2 : Int) ^ min (Int.toNat (32 : Int)) (IntKind.bits IntKind.u64)) / (2 : Int) ^ min (Int.toNat (32 : Int)) (IntKind.bits IntKind.u64)) + IntKind.wrap IntKind.u64 (bAnd IntKind.u64 (IntKind.wrap IntKind.u64 (IntKind.wrap IntKind.u64 (x0 / (2 : Int) ^ min (Int.toNat (32 : Int)) (IntKind.bits IntKind.u64) * bAnd IntKind.u64 x1 (4294967295 : Int)) + IntKind.wrap IntKind.u64 (bAnd IntKind.u64 x0 (4294967295 : Int) * bAnd IntKind.u64 x1 (4294967295 : Int)) / (2 : Int) ^ min (Int.toNat (32 : Int)) (IntKind.bits IntKind.u64))) (4294967295 : Int) + IntKind.wrap IntKind.u64 (bAnd IntKind.u64 x0 (4294967295 : Int) * (x1 / (2 : Int) ^ min (Int.toNat (32 : Int)) (IntKind.bits IntKind.u64)))) / (2 : Int) ^ min (Int.toNat (32 : Int)) (IntKind.bits IntKind.u64)), IntKind.wrap IntKind.u64 (x0 * x1), ())
theorem mulL_small : ∀ y : Nat, y < 1001 → mulL 1 (y : Int) = (0, (y : Int), ()) := by decide +kernel
theorem cmul64_valid : cmul64.Valid Try.prog 93 := by
  refine Ctr.valid_of Emul64_ok rfl rfl Try.func93 (c := bodyOf Try.prog 93) rfl rfl Fmul64_ok rfl ?_
  rintro ⟨(x : Int), (y : Int), ⟨⟩⟩ (hpre : mulPre x y) -
  obtain ⟨rfl, h1, h2⟩ := hpre
  refine exec_sound (n := 1000) Emul64_ok Fmul64_ok ?_
  refine holds_of_eq (Emul64_t 1 y) ?_
  obtain ⟨y, rfl⟩ := Int.eq_ofNat_of_zero_le h1
  have hy : y < 1001 := by omega
  simp only [Tree.holds]
  refine ⟨by decide, fun _ => ⟨by decide, fun _ => ⟨by decide, fun _ => ⟨by decide, fun _ => ⟨by decide, fun _ => ?_⟩⟩⟩⟩⟩
  exact mulL_small y hy
def cmul : Ctr := { ps := [.v (.int .u64), .v (.int .u64)], rs := [.int .u64, .int .u64], pre := fun x => mulPre x.1 x.2.1, fn := fun x => mulFn x.1 x.2.1, out := fun _ => () }
noncomputable def Emul : Env := { P := Try.prog, tt := tt, ctr := [(93, cmul64)], res := [Go.ResultVar.tmp 4, Go.ResultVar.tmp 5], rs := [Ty.int IntKind.u64, Ty.int IntKind.u64], ps := [PK.v (Ty.int IntKind.u64), PK.v (Ty.int IntKind.u64)], cuts := [], nt := 30 }
theorem Emul_ok : EnvOk Emul := envOk tt_ok ⟨cmul64_valid, trivial⟩
theorem Fmul_ok : FnOk Emul Try.f83 := ⟨rfl, rfl⟩
theorem Emul_t (x0 : Int) (x1 : Int) : exec Emul 1000 [.code (bodyOf Try.prog 83)] (initSt cmul.ps ((x0, x1, ()))) =
  .need (mulPre x0 x1) (.ret ((Prod.fst (mulFn x0 x1), Prod.fst (Prod.snd (mulFn x0 x1)), ()))) := by kernel_rfl
theorem cmul_valid : cmul.Valid Try.prog 83 := by
  refine Ctr.valid_of Emul_ok rfl rfl Try.func83 (c := bodyOf Try.prog 83) rfl rfl Fmul_ok rfl ?_
  rintro ⟨(x : Int), (y : Int), ⟨⟩⟩ (hpre : mulPre x y) -
  refine exec_sound (n := 1000) Emul_ok Fmul_ok ?_
  refine holds_of_eq (Emul_t x y) ?_
  simp only [holds_cond, Tree.holds, true_and, true_implies, decide_eq_true_eq, decide_eq_false_iff_not, Bool.not_eq_true', Bool.not_eq_false', Int.toNat_natCast, inK_i64, List.length_set, List.length_cons, List.length_nil]
  exact ⟨hpre, fun _ => rfl⟩
def repPre (l : List Bool) (n : Int) : Prop := l.length = 1 ∧ 0 ≤ n ∧ n ≤ 1000
def repFn (l : List Bool) (n : Int) : List Bool × Unit := (List.replicate n.toNat (l.getD 0 false), ())
def crepB : Ctr := { ps := [.v (.slc false .bool), .v I64], rs := [.slc true .bool], pre := fun x => repPre x.1 x.2.1, fn := fun x => repFn x.1 x.2.1, out := fun _ => () }
noncomputable def ErepB : Env := { P := Try.prog, tt := tt, ctr := [(83, cmul)], res := [Go.ResultVar.tmp 4], rs := [Ty.slc true Ty.bool], ps := [PK.v (Ty.slc false Ty.bool), PK.v (Ty.int IntKind.i64)], cuts := [(8, [(7, some (Ty.slc true Ty.bool)), (8, none)])], nt := 48 }
theorem ErepB_ok : EnvOk ErepB := envOk tt_ok ⟨cmul_valid, trivial⟩
theorem FrepB_ok : FnOk ErepB Try.f62 := ⟨rfl, rfl⟩
theorem ErepB_t (x0 : List Bool) (x1 : Int) : exec ErepB 1000 [.code (bodyOf Try.prog 62)] (initSt crepB.ps ((x0, x1, ()))) =
  cond (decide (x1 < (0 : Int))) (.stuck "op") (.need (mulPre (IntKind.wrap IntKind.u64 (↑(List.length x0) : Int)) (IntKind.wrap IntKind.u64 x1)) (cond (decide ((9223372036854775807 : Int) < Prod.fst (Prod.snd (mulFn (IntKind.wrap IntKind.u64 (↑(List.length x0) : Int)) (IntKind.wrap IntKind.u64 x1))))) (.stuck "op") (.need ((0 : Int) ≤ IntKind.wrap IntKind.i64 (Prod.fst (Prod.snd (mulFn (IntKind.wrap IntKind.u64 (↑(List.length x0) : Int)) (IntKind.wrap IntKind.u64 x1)))) ∧ IntKind.wrap IntKind.i64 (Prod.fst (Prod.snd (mulFn (IntKind.wrap IntKind.u64 (↑(List.length x0) : Int)) (IntKind.wrap IntKind.u64 x1)))) ≤ IntKind.wrap IntKind.i64 (Prod.fst (Prod.snd (mulFn (IntKind.wrap IntKind.u64 (↑(List.length x0) : Int)) (IntKind.wrap IntKind.u64 x1)))) ∧ IntKind.wrap IntKind.i64 (Prod.fst (Prod.snd (mulFn (IntKind.wrap IntKind.u64 (↑(List.length x0) : Int)) (IntKind.wrap IntKind.u64 x1)))) ≤ (140737488355328 : Int) ∧ IntKind.wrap IntKind.i64 (Prod.fst (Prod.snd (mulFn (IntKind.wrap IntKind.u64 (↑(List.length x0) : Int)) (IntKind.wrap IntKind.u64 x1)))) * (↑(Ty.wb Ty.bool) : Int) ≤ (140737488355328 : Int)) (.cut (loopAt (bodyOf Try.prog 62) 8).1 (loopAt (bodyOf Try.prog 62) 8).2 (St.mk [(7, AV.at_ 1000007 []), (8, AV.val (Ty.int IntKind.i64) (↑(List.length (List.take (Int.toNat ((↑(List.length (List.replicate (Int.toNat (IntKind.wrap IntKind.i64 (Prod.fst (Prod.snd (mulFn (IntKind.wrap IntKind.u64 (↑(List.length x0) : Int)) (IntKind.wrap IntKind.u64 x1)))))) false)) : Int) - (0 : Int))) x0)) : Int))] [(1000007, Ent.own (Ty.slc true Ty.bool) (List.take (Int.toNat (0 : Int)) (List.replicate (Int.toNat (IntKind.wrap IntKind.i64 (Prod.fst (Prod.snd (mulFn (IntKind.wrap IntKind.u64 (↑(List.length x0) : Int)) (IntKind.wrap IntKind.u64 x1)))))) false) ++ List.take (Int.toNat ((↑(List.length (List.replicate (Int.toNat (IntKind.wrap IntKind.i64 (Prod.fst (Prod.snd (mulFn (IntKind.wrap IntKind.u64 (↑(List.length x0) : Int)) (IntKind.wrap IntKind.u64 x1)))))) false)) : Int) - (0 : Int))) x0 ++ List.drop (Int.toNat (0 : Int) + List.length (List.take (Int.toNat ((↑(List.length (List.replicate (Int.toNat (IntKind.wrap IntKind.i64 (Prod.fst (Prod.snd (mulFn (IntKind.wrap IntKind.u64 (↑(List.length x0) : Int)) (IntKind.wrap IntKind.u64 x1)))))) false)) : Int) - (0 : Int))) x0)) (List.replicate (Int.toNat (IntKind.wrap IntKind.i64 (Prod.fst (Prod.snd (mulFn (IntKind.wrap IntKind.u64 (↑(List.length x0) : Int)) (IntKind.wrap IntKind.u64 x1)))))) false)))]))))) := by kernel_rfl
def ErepB_s8 (v8 : Int) (o1000007 : List Bool) : St := St.mk [(7, AV.at_ 1000007 []), (8, AV.val (Ty.int IntKind.i64) v8)] [(1000007, Ent.own (Ty.slc true Ty.bool) o1000007)]
theorem ErepB_l8 (v8 : Int) (o1000007 : List Bool) : exec ErepB 1000 (.code (loopAt (bodyOf Try.prog 62) 8).1 :: .inLoop (loopAt (bodyOf Try.prog 62) 8).1 :: (loopAt (bodyOf Try.prog 62) 8).2) (ErepB_s8 v8 o1000007) =
  cond (decide (v8 < (↑(List.length o1000007) : Int))) (.need ((0 : Int) ≤ v8 ∧ v8 ≤ (↑(List.length o1000007) : Int) ∧ (↑(List.length o1000007) : Int) ≤ (↑(List.length o1000007) : Int)) (.need ((0 : Int) ≤ (0 : Int) ∧ (0 : Int) ≤ v8 ∧ v8 ≤ (↑(List.length o1000007) : Int)) (.need (inK IntKind.i64 (v8 + (↑(List.length (List.take (Int.toNat ((↑(List.length o1000007) : Int) - v8)) (cut2 (0 : Int) v8 o1000007))) : Int))) (.cut (loopAt (bodyOf Try.prog 62) 8).1 (loopAt (bodyOf Try.prog 62) 8).2 (St.mk [(7, AV.at_ 1000007 []), (8, AV.val (Ty.int IntKind.i64) (v8 + (↑(List.length (List.take (Int.toNat ((↑(List.length o1000007) : Int) - v8)) (cut2 (0 : Int) v8 o1000007))) : Int)))] [(1000007, Ent.own (Ty.slc true Ty.bool) (List.take (Int.toNat v8) o1000007 ++ List.take (Int.toNat ((↑(List.length o1000007) : Int) - v8)) (cut2 (0 : Int) v8 o1000007) ++ List.drop (Int.toNat v8 + List.length (List.take (Int.toNat ((↑(List.length o1000007) : Int) - v8)) (cut2 (0 : Int) v8 o1000007))) o1000007))]))))) (.ret ((o1000007, ()))) := by kernel_rfl
theorem crepB_valid : crepB.Valid Try.prog 62 := by
  refine Ctr.valid_of ErepB_ok rfl rfl Try.func62 (c := bodyOf Try.prog 62) rfl rfl FrepB_ok rfl ?_
  rintro ⟨(l : List Bool), (n : Int), ⟨⟩⟩ (hpre : repPre l n) -
  obtain ⟨h1, h2, h3⟩ := hpre
  obtain ⟨n, rfl⟩ := Int.eq_ofNat_of_zero_le h2
  have hn : n ≤ 1000 := by omega
  obtain ⟨b, rfl⟩ := List.length_eq_one_iff.1 h1
  have w1 : IntKind.wrap .u64 (([b].length : Nat) : Int) = 1 := rfl
  have w2 : IntKind.wrap .u64 (n : Int) = n := wrap_same ⟨by show (0 : Int) ≤ n; omega, by show (n : Int) ≤ 18446744073709551615; omega⟩
  have w3 : IntKind.wrap .i64 (n : Int) = n := wrap_same ⟨by show (-9223372036854775808 : Int) ≤ n; omega, by show (n : Int) ≤ 9223372036854775807; omega⟩
  refine exec_sound (n := 1000) ErepB_ok FrepB_ok ?_
  refine holds_of_eq (ErepB_t [b] (n : Int)) ?_
  simp only [w1, w2, mulFn, w3]
  simp only [holds_cond, Tree.holds, true_and, true_implies, decide_eq_true_eq, decide_eq_false_iff_not, Bool.not_eq_true', Bool.not_eq_false', Int.toNat_natCast, inK_i64, List.length_set, List.length_cons, List.length_nil, wb_bool]
  refine ⟨fun h => by omega, fun _ => ⟨⟨rfl, by omega, by omega⟩, fun _ => ⟨fun h => by omega, fun _ => ⟨by omega, fun _ => ?_⟩⟩⟩⟩
  have q : List.take (Int.toNat ((((List.replicate n false).length : Nat) : Int) - 0)) [b] = List.replicate (min n 1) b := by
    rw [List.length_replicate]
    match n with
    | 0 => rfl
    | n + 1 => rw [show Int.toNat (((n + 1 : Nat) : Int) - 0) = n + 1 by omega, show min (n + 1) 1 = 1 by omega]; simp
  rw [q]
  refine Reach.loopI ErepB_ok FrepB_ok (fun p : Nat × List Bool => ErepB_s8 (p.1 : Int) p.2) (fun p => p.1 ≤ n ∧ p.2.length = n ∧ (0 < n → 0 < p.1) ∧ ∀ j, j < p.1 → p.2.getD j false = b)
    (fun p => n - p.1) 1000 (fun _ => ⟨uniq_of rfl, uniq_of rfl⟩) ?_ ((List.replicate (min n 1) b).length, _) ⟨by show (List.replicate (min n 1) b).length ≤ n; rw [List.length_replicate]; omega, ?_, fun h => by show 0 < (List.replicate (min n 1) b).length; rw [List.length_replicate]; omega, fun j hj => ?_⟩
  · rintro ⟨k, o⟩ ⟨k1, k2, k3, k4⟩ - ih
    have k1 : k ≤ n := k1
    have k2 : o.length = n := k2
    have k3 : 0 < n → 0 < k := k3
    have k4 : ∀ j, j < k → o.getD j false = b := k4
    refine holds_of_eq (ErepB_l8 ..) ?_
    have e1 : cut2 0 (k : Int) o = o.take k := rfl
    have e2 : List.take (Int.toNat ((o.length : Int) - (k : Int))) (o.take k) = o.take (min (n - k) k) := by
      rw [show Int.toNat ((o.length : Int) - (k : Int)) = n - k by omega, List.take_take]
    have e3 : (o.take (min (n - k) k)).length = min (n - k) k := by rw [List.length_take]; omega
    simp only [holds_cond, Tree.holds, true_and, true_implies, decide_eq_true_eq, decide_eq_false_iff_not, Bool.not_eq_true', Bool.not_eq_false', Int.toNat_natCast, inK_i64, List.length_set, List.length_cons, List.length_nil, e1, e2, e3]
    refine ⟨fun h => ⟨by omega, fun _ => ⟨by omega, fun _ => ⟨by omega, fun _ => ?_⟩⟩⟩, fun h => ?_⟩
    · refine ih (k + min (n - k) k, _) ⟨by show k + min (n - k) k ≤ n; omega, ?_, fun _ => by show 0 < k + min (n - k) k; omega, fun j hj => ?_⟩ (by show n - (k + min (n - k) k) < n - k; omega)
      · show (_ : List Bool).length = n
        rw [List.length_append, List.length_append, e3, List.length_take, List.length_drop]; omega
      · have hj : j < k + min (n - k) k := hj
        show (_ : List Bool).getD j false = b
        rw [getD_app_left (by rw [List.length_append, e3, List.length_take]; omega)]
        by_cases c : j < k
        · rw [getD_app_left (by rw [List.length_take]; omega), List.getD_eq_getElem?_getD, List.getElem?_take_of_lt c, ← List.getD_eq_getElem?_getD]; exact k4 j c
        · have hl : (o.take k).length = k := by rw [List.length_take]; omega
          rw [getD_app_right (by omega), hl, List.getD_eq_getElem?_getD, List.getElem?_take_of_lt (by omega), ← List.getD_eq_getElem?_getD]; exact k4 _ (by omega)
    · show ((o, ()) : List Bool × Unit) = (List.replicate n b, ())
      rw [show o = List.replicate n b from eq_of_getD (d := false) (by rw [List.length_replicate, k2]) (fun j hj => by rw [k4 j (by omega), repF _ _ (by omega)])]
  · show (_ : List Bool).length = n
    simp; omega
  · have hj : j < (List.replicate (min n 1) b).length := hj
    rw [List.length_replicate] at hj
    show (_ : List Bool).getD j false = b
    rw [show Int.toNat 0 = 0 from rfl, List.take_zero, List.nil_append, getD_app_left (by rw [List.length_replicate]; exact hj), repF _ _ hj]
end Go.Proofs.Ytcafiieffenohaa
