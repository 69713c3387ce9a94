/- PosetOrder. No condition. -/
import Derived.Test.YtdhdpklmipkneaaPosI
import Derived.Test.YtdhdpklmipkneaaSortD
import Derived.Shelf.SlGeneric
namespace Go.Proofs.Ytdhdpklmipkneaa
open Go.Ex Go.Sort
set_option maxRecDepth 100000
def laySortI_ren : Go.Shelf.Ren := ⟨fun | 5 => 41 | 7 => 97 | 8 => 98 | 10 => 140 | 11 => 141 | 12 => 142 | 13 => 143 | 14 => 144 | 15 => 145 | 16 => 146 | 17 => 147 | 18 => 148 | 19 => 149 | 20 => 150 | 30 => 180 | 31 => 181 | 32 => 182 | 33 => 183 | 34 => 184 | 35 => 126 | 40 => 217 | n => n, fun | 0 => 0 | 3 => 3 | 4 => 4 | 5 => 5 | 9 => 9 | 22 => 23 | 23 => 23 | 25 => 3 | 32 => 155 | 35 => 206 | 36 => 207 | 41 => 211 | 44 => 214 | 46 => 216 | 53 => 242 | 57 => 246 | 63 => 270 | 64 => 271 | n => n, fun | n => n⟩
theorem laySortI : Go.Proofs.SlLaysM.n5 Try.prog laySortI_ren := {
  mixed := by kernel_rfl,
  f5 := ⟨Try.f41.name, by decide, Try.func41.trans (congrArg some (by kernel_rfl))⟩,
  f7 := ⟨Try.f97.name, by decide, Try.func97.trans (congrArg some (by kernel_rfl))⟩,
  f8 := Try.func98.trans (congrArg some (by kernel_rfl)),
  f10 := ⟨Try.f140.name, by decide, Try.func140.trans (congrArg some (by kernel_rfl))⟩,
  f11 := ⟨Try.f141.name, by decide, Try.func141.trans (congrArg some (by kernel_rfl))⟩,
  f12 := ⟨Try.f142.name, by decide, Try.func142.trans (congrArg some (by kernel_rfl))⟩,
  f13 := ⟨Try.f143.name, by decide, Try.func143.trans (congrArg some (by kernel_rfl))⟩,
  f14 := ⟨Try.f144.name, by decide, Try.func144.trans (congrArg some (by kernel_rfl))⟩,
  f15 := ⟨Try.f145.name, by decide, Try.func145.trans (congrArg some (by kernel_rfl))⟩,
  f16 := ⟨Try.f146.name, by decide, Try.func146.trans (congrArg some (by kernel_rfl))⟩,
  f17 := ⟨Try.f147.name, by decide, Try.func147.trans (congrArg some (by kernel_rfl))⟩,
  f18 := ⟨Try.f148.name, by decide, Try.func148.trans (congrArg some (by kernel_rfl))⟩,
  f19 := Try.func149.trans (congrArg some (by kernel_rfl)),
  f20 := Try.func150.trans (congrArg some (by kernel_rfl)),
  f30 := ⟨Try.f180.name, by decide, Try.func180.trans (congrArg some (by kernel_rfl))⟩,
  f31 := Try.func181.trans (congrArg some (by kernel_rfl)),
  f32 := Try.func182.trans (congrArg some (by kernel_rfl)),
  f33 := ⟨Try.f183.name, by decide, Try.func183.trans (congrArg some (by kernel_rfl))⟩,
  f34 := ⟨Try.f184.name, by decide, Try.func184.trans (congrArg some (by kernel_rfl))⟩,
  f35 := ⟨Try.f126.name, by decide, Try.func126.trans (congrArg some (by kernel_rfl))⟩,
  f40 := ⟨Try.f217.name, by decide, Try.func217.trans (congrArg some (by kernel_rfl))⟩,
  t0 := Try.underlying0,
  a0 := Try.isAgg0,
  z0 := Try.sizeOf0,
  v0 := Try.zeroValue0,
  t3 := Try.underlying3,
  a3 := Try.isAgg3,
  z3 := Try.sizeOf3,
  v3 := Try.zeroValue3,
  t4 := Try.underlying4,
  a4 := Try.isAgg4,
  z4 := Try.sizeOf4,
  v4 := Try.zeroValue4,
  t5 := Try.underlying5,
  a5 := Try.isAgg5,
  z5 := Try.sizeOf5,
  v5 := Try.zeroValue5,
  t9 := Try.underlying9,
  a9 := Try.isAgg9,
  z9 := Try.sizeOf9,
  v9 := Try.zeroValue9,
  t22 := Try.underlying23,
  a22 := Try.isAgg23,
  z22 := Try.sizeOf23,
  v22 := Try.zeroValue23,
  t23 := Try.underlying23,
  a23 := Try.isAgg23,
  z23 := Try.sizeOf23,
  v23 := Try.zeroValue23,
  t25 := Try.underlying3,
  a25 := Try.isAgg3,
  z25 := Try.sizeOf3,
  v25 := Try.zeroValue3,
  t32 := Try.underlying155,
  a32 := Try.isAgg155,
  z32 := Try.sizeOf155,
  v32 := Try.zeroValue155,
  t35 := Try.underlying206,
  a35 := Try.isAgg206,
  z35 := Try.sizeOf206,
  v35 := Try.zeroValue206,
  t36 := Try.underlying207,
  a36 := Try.isAgg207,
  z36 := Try.sizeOf207,
  v36 := Try.zeroValue207,
  t41 := Try.underlying211,
  a41 := Try.isAgg211,
  z41 := Try.sizeOf211,
  v41 := Try.zeroValue211,
  t44 := Try.underlying214,
  a44 := Try.isAgg214,
  z44 := Try.sizeOf214,
  v44 := Try.zeroValue214,
  t46 := Try.underlying216,
  a46 := Try.isAgg216,
  z46 := Try.sizeOf216,
  v46 := Try.zeroValue216,
  t53 := Try.underlying242,
  a53 := Try.isAgg242,
  z53 := Try.sizeOf242,
  v53 := Try.zeroValue242,
  t57 := Try.underlying246,
  a57 := Try.isAgg246,
  z57 := Try.sizeOf246,
  v57 := Try.zeroValue246,
  t63 := Try.underlying270,
  a63 := Try.isAgg270,
  z63 := Try.sizeOf270,
  v63 := Try.zeroValue270,
  t64 := Try.underlying271,
  a64 := Try.isAgg271,
  z64 := Try.sizeOf271,
  v64 := Try.zeroValue271 }
def csortI : Ctr := sortIC
theorem csortI_valid : csortI.Valid Try.prog 41 := sortI_valid laySortI
def ccompI : Ctr := { ps := [.own (.slc true I64)], rs := [.slc true I64], pre := fun x => List.Nodup (α := Int) x.1, fn := fun x => (x.1, ()), out := fun _ => () }
noncomputable def EcompI : Env := { P := Try.prog, tt := tt, ctr := [], res := [Go.ResultVar.tmp 2], rs := [Ty.slc true (Ty.int IntKind.i64)], ps := [PK.own Is], cuts := [(4, [(0, some Is), (3, none)]), (9, [(0, some Is), (3, none), (4, some Is), (5, none)])], nt := 61 }
theorem EcompI_ok : EnvOk EcompI := envOk tt_ok trivial
theorem FcompI_ok : FnOk EcompI Try.f42 := ⟨rfl, rfl⟩
theorem EcompI_t (x0 : List Int) : exec EcompI 1000 [.code (bodyOf Try.prog 42)] (initSt ccompI.ps ((x0, ()))) =
  cond (decide ((↑(List.length x0) : Int) < (2 : Int))) (.ret ((x0, ()))) (.cut (loopAt (bodyOf Try.prog 42) 4).1 (loopAt (bodyOf Try.prog 42) 4).2 (St.mk [(0, AV.at_ 1000000 []), (3, AV.val (Ty.int IntKind.i64) (1 : Int))] [(1000000, Ent.own Is x0)])) := by kernel_rfl
def EcompI_s4 (v3 : Int) (o1000000 : List Int) : St := St.mk [(0, AV.at_ 1000000 []), (3, AV.val (Ty.int IntKind.i64) v3)] [(1000000, Ent.own Is o1000000)]
theorem EcompI_l4 (v3 : Int) (o1000000 : List Int) : exec EcompI 1000 (.code (loopAt (bodyOf Try.prog 42) 4).1 :: .inLoop (loopAt (bodyOf Try.prog 42) 4).1 :: (loopAt (bodyOf Try.prog 42) 4).2) (EcompI_s4 v3 o1000000) =
  cond (decide (v3 < (↑(List.length o1000000) : Int))) (.need ((0 : Int) ≤ v3 ∧ v3 < (↑(List.length o1000000) : Int)) (.need (inK IntKind.i64 (v3 - (1 : Int))) (.need ((0 : Int) ≤ v3 - (1 : Int) ∧ v3 - (1 : Int) < (↑(List.length o1000000) : Int)) (cond (decide (List.getD o1000000 (Int.toNat v3) (0 : Int) = List.getD o1000000 (Int.toNat (v3 - (1 : Int))) (0 : Int))) (.need ((0 : Int) ≤ v3 ∧ v3 ≤ (↑(List.length o1000000) : Int) ∧ (↑(List.length o1000000) : Int) ≤ (↑(List.length o1000000) : Int)) (.cut (loopAt (bodyOf Try.prog 42) 9).1 (loopAt (bodyOf Try.prog 42) 9).2 (St.mk [(0, AV.any), (3, AV.val (Ty.int IntKind.i64) v3), (4, AV.at_ 1000004 []), (5, AV.val (Ty.int IntKind.i64) (1 : Int))] [(1000004, Ent.own Is (cut2 v3 (↑(List.length o1000000) : Int) o1000000))]))) (.need (inK IntKind.i64 (v3 + (1 : Int))) (.cut (loopAt (bodyOf Try.prog 42) 4).1 (loopAt (bodyOf Try.prog 42) 4).2 (St.mk [(0, AV.at_ 1000000 []), (3, AV.val (Ty.int IntKind.i64) (v3 + (1 : Int)))] [(1000000, Ent.own Is o1000000)]))))))) (.ret ((o1000000, ()))) := by kernel_rfl
def EcompI_s9 (v3 : Int) (v5 : Int) (o1000004 : List Int) : St := St.mk [(0, AV.any), (3, AV.val (Ty.int IntKind.i64) v3), (4, AV.at_ 1000004 []), (5, AV.val (Ty.int IntKind.i64) v5)] [(1000004, Ent.own Is o1000004)]
theorem EcompI_l9 (v3 : Int) (v5 : Int) (o1000004 : List Int) : exec EcompI 1000 (.code (loopAt (bodyOf Try.prog 42) 9).1 :: .inLoop (loopAt (bodyOf Try.prog 42) 9).1 :: (loopAt (bodyOf Try.prog 42) 9).2) (EcompI_s9 v3 v5 o1000004) =
  cond (decide (v5 < (↑(List.length o1000004) : Int))) (.need ((0 : Int) ≤ v5 ∧ v5 < (↑(List.length o1000004) : Int)) (.need (inK IntKind.i64 (v5 - (1 : Int))) (.need ((0 : Int) ≤ v5 - (1 : Int) ∧ v5 - (1 : Int) < (↑(List.length o1000004) : Int)) (cond (decide (List.getD o1000004 (Int.toNat v5) (0 : Int) ≠ List.getD o1000004 (Int.toNat (v5 - (1 : Int))) (0 : Int))) (.need ((0 : Int) ≤ v5 ∧ v5 < (↑(List.length o1000004) : Int)) (.stuck "indexAddr")) (.need (inK IntKind.i64 (v5 + (1 : Int))) (.cut (loopAt (bodyOf Try.prog 42) 9).1 (loopAt (bodyOf Try.prog 42) 9).2 (St.mk [(0, AV.any), (3, AV.val (Ty.int IntKind.i64) v3), (4, AV.at_ 1000004 []), (5, AV.val (Ty.int IntKind.i64) (v5 + (1 : Int)))] [(1000004, Ent.own Is o1000004)]))))))) (.stuck "slice") := by kernel_rfl
theorem ccompI_valid : ccompI.Valid Try.prog 42 := by
  refine Ctr.valid_of EcompI_ok rfl rfl Try.func42 (c := bodyOf Try.prog 42) rfl rfl FcompI_ok rfl ?_
  rintro ⟨(l : List Int), ⟨⟩⟩ (hn : l.Nodup) ⟨⟨hl, -⟩, -⟩
  have hl : l.length ≤ 9223372036854775807 := hl
  refine exec_sound (n := 1000) EcompI_ok FcompI_ok ?_
  refine holds_of_eq (EcompI_t l) ?_
  simp only [holds_cond, Tree.holds, true_and, true_implies, decide_eq_true_eq, decide_eq_false_iff_not, Bool.not_eq_true', Bool.not_eq_false', Int.toNat_natCast, inK_i64, List.length_set, List.length_cons, List.length_nil]
  refine ⟨fun _ => rfl, fun c => ?_⟩
  refine Reach.loopI EcompI_ok FcompI_ok (fun i : Nat => EcompI_s4 ((i + 1 : Nat) : Int) l) (fun i => i + 1 ≤ l.length) (fun i => l.length - i) 1000 (fun _ => ⟨uniq_of rfl, uniq_of rfl⟩) ?_ 0 (by show 0 + 1 ≤ l.length; omega)
  rintro i k1 - ih
  have k1 : i + 1 ≤ l.length := k1
  refine holds_of_eq (EcompI_l4 ..) ?_
  simp only [holds_cond, Tree.holds, true_and, true_implies, decide_eq_true_eq, decide_eq_false_iff_not, Bool.not_eq_true', Bool.not_eq_false', Int.toNat_natCast, inK_i64, List.length_set, List.length_cons, List.length_nil]
  refine ⟨fun d => ⟨by omega, fun _ => ⟨by omega, fun _ => ⟨by omega, fun _ => ⟨fun e => ?_, fun e => ⟨by omega, fun _ => ?_⟩⟩⟩⟩⟩, fun d => rfl⟩
  · exfalso
    have h1 : i + 1 < l.length := by omega
    have e1 : Int.toNat (((i + 1 : Nat) : Int) - 1) = i := by omega
    rw [e1, List.getD_eq_getElem?_getD, List.getD_eq_getElem?_getD, List.getElem?_eq_getElem h1, List.getElem?_eq_getElem (show i < l.length by omega)] at e
    exact List.pairwise_iff_getElem.1 hn i (i + 1) (by omega) h1 (by omega) (Eq.symm e)
  · exact ih (i + 1) (by show i + 1 + 1 ≤ l.length; omega) (by omega)
def corderS : Ctr := { ps := [.v Pos], rs := [.slc false I64, I64], pre := fun _ => True, fn := fun x => orderR x.1.1 x.1.2.1, out := fun _ => (), new := true }
theorem corderS_valid : corderS.Valid Try.prog 38 := corder_valid.share (rs' := [.slc false I64, I64]) rfl rfl rfl
theorem ahead_pairs {n : Nat} {R : Nat → Nat → Bool} {a b : Int} (ha : 0 ≤ a ∧ a < (n : Int)) (hb : 0 ≤ b ∧ b < (n : Int)) : memP (a, b, ()) (pairsF n R) = R a.toNat b.toNat := by
  have : memP (a, b, ()) (pairsF n R) = true ↔ R a.toNat b.toNat = true := by
    rw [memP, decide_eq_true_eq, pairsF_mem]
    constructor
    · rintro ⟨x, y, hx, hy, h, e⟩
      simp only [Prod.mk.injEq, and_true] at e
      rw [e.1, e.2, Int.toNat_natCast, Int.toNat_natCast]; exact h
    · intro h
      exact ⟨a.toNat, b.toNat, by omega, by omega, h, by simp only [Prod.mk.injEq, and_true]; omega⟩
  cases e : R a.toNat b.toNat with
  | true => exact this.2 e
  | false =>
    cases e2 : memP (a, b, ()) (pairsF n R) with
    | false => rfl
    | true => rw [this.1 e2] at e; cases e
theorem order_pair {R : Nat → Nat → Bool} {n : Nat} (ht : ∀ x y z, R x y = true → R y z = true → R x z = true) (hi : ∀ x, R x x = false) (ho : ∀ x y, R x y = true → x < n ∧ y < n) : ∀ (k : Nat) (out : List Int), out.length + k = n → LvOk R n out (levF R n out) → out.Pairwise (fun a b => R b.toNat a.toNat = false) → (orderN R n k out).Pairwise (fun a b => R b.toNat a.toNat = false)
  | 0, out, hl, h, hp => by rw [orderN]; exact hp
  | k + 1, out, hl, h, hp => by
    rw [orderN]
    cases e : nextO R n out n 0 with
    | none => exact hp
    | some b =>
      obtain ⟨⟨_, hb⟩, hr⟩ := nextO_some e
      have hs := h.step hi ho (by omega) hr
      refine order_pair ht hi ho k (out ++ [(b : Int)]) (by rw [List.length_append, List.length_singleton]; omega) (by rw [levF, List.foldl_append]; exact hs) ?_
      refine List.pairwise_append.2 ⟨hp, List.pairwise_singleton _ _, fun a ha c hc => ?_⟩
      rw [List.mem_singleton] at hc
      subst hc
      rw [Int.toNat_natCast]
      cases e2 : R b a.toNat with
      | false => rfl
      | true =>
        have h0 := h.rng a ha
        have := h.dc b a.toNat e2 (by rw [Int.toNat_of_nonneg h0.1]; exact ha)
        simp only [readyB, Bool.and_eq_true, Bool.not_eq_true', decide_eq_false_iff_not] at hr
        exact absurd this hr.1
def cPosetOrder : Ctr := { ps := [.v Pos], rs := [.bool], pre := fun _ => True, fn := fun _ => (true, ()), out := fun _ => () }
noncomputable def EPosetOrder : Env := { P := Try.prog, tt := tt, ctr := [(38, corderS), (39, cahead), (20, ceqI), (96, cahead1), (40, cclI), (41, csortI), (42, ccompI)], res := [Go.ResultVar.tmp 2], rs := [Ty.bool], ps := [PK.v (Ty.pair (Ty.int IntKind.i64) (Ty.pair (Ty.slc false PairT) Ty.unit))], cuts := [(9, [(1, none), (5, none), (7, none), (52, none), (53, none), (54, none)]), (12, [(1, none), (5, none), (7, none), (10, none), (52, none), (53, none), (54, none), (61, none), (62, none), (63, none)])], nt := 90 }
theorem EPosetOrder_ok : EnvOk EPosetOrder := envOk tt_ok ⟨corderS_valid, cahead_valid, ceqI_valid, cahead1_valid, cclI_valid, csortI_valid, ccompI_valid, trivial⟩
theorem FPosetOrder_ok : FnOk EPosetOrder Try.f10 := ⟨rfl, rfl⟩
theorem EPosetOrder_t (x0_1 : Int) (x0_2_1 : List (Int × Int × Unit)) : exec EPosetOrder 1000 [.code (bodyOf Try.prog 10)] (initSt cPosetOrder.ps (((x0_1, x0_2_1, ()), ()))) =
  .need (True) (.need (True) (.need (True) (.need (True) (cond (!decide (Prod.fst (Prod.snd (closeR x0_1 x0_2_1)) = (0 : Int))) (cond (decide (Prod.fst (Prod.snd (orderR x0_1 x0_2_1)) ≠ (0 : Int))) (.ret ((decide ((↑(List.length (Prod.fst (orderR x0_1 x0_2_1))) : Int) = (0 : Int)), ()))) (.ret ((false, ())))) (cond (decide (Prod.fst (Prod.snd (orderR x0_1 x0_2_1)) ≠ (0 : Int))) (cond (decide (Prod.fst (Prod.snd (orderR x0_1 x0_2_1)) ≠ (0 : Int))) (.ret ((decide ((↑(List.length (Prod.fst (orderR x0_1 x0_2_1))) : Int) = (0 : Int)), ()))) (.ret ((false, ())))) (.cut (loopAt (bodyOf Try.prog 10) 9).1 (loopAt (bodyOf Try.prog 10) 9).2 (St.mk [(1, AV.ptr 1 []), (5, AV.val (Ty.box false (some 96) (Ty.slc false PairT)) (some (Prod.fst (closeR x0_1 x0_2_1)))), (7, AV.val (Ty.slc false (Ty.int IntKind.i64)) (Prod.fst (orderR x0_1 x0_2_1))), (52, AV.val (Ty.slc false (Ty.int IntKind.i64)) (Prod.fst (orderR x0_1 x0_2_1))), (53, AV.val (Ty.int IntKind.i64) (↑(List.length (Prod.fst (orderR x0_1 x0_2_1))) : Int)), (54, AV.val (Ty.int IntKind.i64) (0 : Int))] [(1, Ent.var (Ty.pair (Ty.int IntKind.i64) (Ty.pair (Ty.slc false PairT) Ty.unit)) (x0_1, x0_2_1, ()))]))))))) := by kernel_rfl
def EPosetOrder_s9 (v5_b : List (Int × Int × Unit)) (v7 : List Int) (v52 : List Int) (v53 : Int) (v54 : Int) (o1_1 : Int) (o1_2_1 : List (Int × Int × Unit)) : St := St.mk [(1, AV.ptr 1 []), (5, AV.val (Ty.box false (some 96) (Ty.slc false PairT)) (some v5_b)), (7, AV.val (Ty.slc false (Ty.int IntKind.i64)) v7), (52, AV.val (Ty.slc false (Ty.int IntKind.i64)) v52), (53, AV.val (Ty.int IntKind.i64) v53), (54, AV.val (Ty.int IntKind.i64) v54)] [(1, Ent.var (Ty.pair (Ty.int IntKind.i64) (Ty.pair (Ty.slc false PairT) Ty.unit)) (o1_1, o1_2_1, ()))]
theorem EPosetOrder_l9 (v5_b : List (Int × Int × Unit)) (v7 : List Int) (v52 : List Int) (v53 : Int) (v54 : Int) (o1_1 : Int) (o1_2_1 : List (Int × Int × Unit)) : exec EPosetOrder 1000 (.code (loopAt (bodyOf Try.prog 10) 9).1 :: .inLoop (loopAt (bodyOf Try.prog 10) 9).1 :: (loopAt (bodyOf Try.prog 10) 9).2) (EPosetOrder_s9 v5_b v7 v52 v53 v54 o1_1 o1_2_1) =
  cond (decide (v54 < v53)) (.need ((0 : Int) ≤ v54 ∧ v54 < (↑(List.length v52) : Int)) (.need ((0 : Int) ≤ v54 ∧ v54 ≤ (↑(List.length v7) : Int) ∧ (↑(List.length v7) : Int) ≤ (↑(List.length v7) : Int)) (.cut (loopAt (bodyOf Try.prog 10) 12).1 (loopAt (bodyOf Try.prog 10) 12).2 (St.mk [(1, AV.ptr 1 []), (5, AV.val (Ty.box false (some 96) (Ty.slc false PairT)) (some v5_b)), (7, AV.val (Ty.slc false (Ty.int IntKind.i64)) v7), (10, AV.val (Ty.int IntKind.i64) (List.getD v52 (Int.toNat v54) (0 : Int))), (52, AV.val (Ty.slc false (Ty.int IntKind.i64)) v52), (53, AV.val (Ty.int IntKind.i64) v53), (54, AV.val (Ty.int IntKind.i64) v54), (61, AV.val (Ty.slc false (Ty.int IntKind.i64)) (cut2 v54 (↑(List.length v7) : Int) v7)), (62, AV.val (Ty.int IntKind.i64) (↑(List.length (cut2 v54 (↑(List.length v7) : Int) v7)) : Int)), (63, AV.val (Ty.int IntKind.i64) (0 : Int))] [(1, Ent.var (Ty.pair (Ty.int IntKind.i64) (Ty.pair (Ty.slc false PairT) Ty.unit)) (o1_1, o1_2_1, ()))])))) (.need (List.length v7 ≤ 1048576) (.need (List.length v7 ≤ 1048576) (.need (List.Nodup (sortI v7)) (cond (decide ((↑(List.length (sortI v7)) : Int) = o1_1)) (.ret ((decide ((↑(List.length v7) : Int) = o1_1), ()))) (.ret ((false, ()))))))) := by kernel_rfl
def EPosetOrder_s12 (v5_b : List (Int × Int × Unit)) (v7 : List Int) (v10 : Int) (v52 : List Int) (v53 : Int) (v54 : Int) (v61 : List Int) (v62 : Int) (v63 : Int) (o1_1 : Int) (o1_2_1 : List (Int × Int × Unit)) : St := St.mk [(1, AV.ptr 1 []), (5, AV.val (Ty.box false (some 96) (Ty.slc false PairT)) (some v5_b)), (7, AV.val (Ty.slc false (Ty.int IntKind.i64)) v7), (10, AV.val (Ty.int IntKind.i64) v10), (52, AV.val (Ty.slc false (Ty.int IntKind.i64)) v52), (53, AV.val (Ty.int IntKind.i64) v53), (54, AV.val (Ty.int IntKind.i64) v54), (61, AV.val (Ty.slc false (Ty.int IntKind.i64)) v61), (62, AV.val (Ty.int IntKind.i64) v62), (63, AV.val (Ty.int IntKind.i64) v63)] [(1, Ent.var (Ty.pair (Ty.int IntKind.i64) (Ty.pair (Ty.slc false PairT) Ty.unit)) (o1_1, o1_2_1, ()))]
theorem EPosetOrder_l12 (v5_b : List (Int × Int × Unit)) (v7 : List Int) (v10 : Int) (v52 : List Int) (v53 : Int) (v54 : Int) (v61 : List Int) (v62 : Int) (v63 : Int) (o1_1 : Int) (o1_2_1 : List (Int × Int × Unit)) : exec EPosetOrder 1000 (.code (loopAt (bodyOf Try.prog 10) 12).1 :: .inLoop (loopAt (bodyOf Try.prog 10) 12).1 :: (loopAt (bodyOf Try.prog 10) 12).2) (EPosetOrder_s12 v5_b v7 v10 v52 v53 v54 v61 v62 v63 o1_1 o1_2_1) =
  cond (decide (v63 < v62)) (.need ((0 : Int) ≤ v63 ∧ v63 < (↑(List.length v61) : Int)) (.need (Option.isSome (some v5_b) = true ∧ True) (cond (memP (List.getD v61 (Int.toNat v63) (0 : Int), v10, ()) (Option.getD (some v5_b) [])) (.ret ((false, ()))) (.need (inK IntKind.i64 (v63 + (1 : Int))) (.cut (loopAt (bodyOf Try.prog 10) 12).1 (loopAt (bodyOf Try.prog 10) 12).2 (St.mk [(1, AV.ptr 1 []), (5, AV.val (Ty.box false (some 96) (Ty.slc false PairT)) (some v5_b)), (7, AV.val (Ty.slc false (Ty.int IntKind.i64)) v7), (10, AV.val (Ty.int IntKind.i64) v10), (52, AV.val (Ty.slc false (Ty.int IntKind.i64)) v52), (53, AV.val (Ty.int IntKind.i64) v53), (54, AV.val (Ty.int IntKind.i64) v54), (61, AV.val (Ty.slc false (Ty.int IntKind.i64)) v61), (62, AV.val (Ty.int IntKind.i64) v62), (63, AV.val (Ty.int IntKind.i64) (v63 + (1 : Int)))] [(1, Ent.var (Ty.pair (Ty.int IntKind.i64) (Ty.pair (Ty.slc false PairT) Ty.unit)) (o1_1, o1_2_1, ()))])))))) (.need (inK IntKind.i64 (v54 + (1 : Int))) (.cut (loopAt (bodyOf Try.prog 10) 9).1 (loopAt (bodyOf Try.prog 10) 9).2 (St.mk [(1, AV.ptr 1 []), (5, AV.val (Ty.box false (some 96) (Ty.slc false PairT)) (some v5_b)), (7, AV.val (Ty.slc false (Ty.int IntKind.i64)) v7), (52, AV.val (Ty.slc false (Ty.int IntKind.i64)) v52), (53, AV.val (Ty.int IntKind.i64) v53), (54, AV.val (Ty.int IntKind.i64) (v54 + (1 : Int)))] [(1, Ent.var (Ty.pair (Ty.int IntKind.i64) (Ty.pair (Ty.slc false PairT) Ty.unit)) (o1_1, o1_2_1, ()))]))) := by kernel_rfl
theorem cPosetOrder_valid : cPosetOrder.Valid Try.prog 10 := by
  refine Ctr.valid_of EPosetOrder_ok rfl rfl Try.func10 (c := bodyOf Try.prog 10) rfl rfl FPosetOrder_ok rfl ?_
  rintro ⟨⟨(n0 : Int), (l : List PairD), ⟨⟩⟩, ⟨⟩⟩ - -
  refine exec_sound (n := 1000) EPosetOrder_ok FPosetOrder_ok ?_
  refine holds_of_eq (EPosetOrder_t n0 l) ?_
  have ec : (closeR n0 l).2.1 = pcheck n0 l := by
    rw [closeR]; split
    · rfl
    · rename_i h; exact (Decidable.not_not.1 h).symm
  have el : (orderR n0 l).2.1 = pcheck n0 l := by
    rw [orderR]; split
    · rfl
    · rename_i h; exact (Decidable.not_not.1 h).symm
  have e0 : pcheck n0 l ≠ 0 → (orderR n0 l).1 = [] := fun h => by rw [orderR, if_pos h]
  simp only [holds_cond, Tree.holds, true_and, true_implies, decide_eq_true_eq, decide_eq_false_iff_not, Bool.not_eq_true', Bool.not_eq_false', Int.toNat_natCast, inK_i64, List.length_set, List.length_cons, List.length_nil]
  rw [ec, el]
  refine ⟨fun c => ⟨fun _ => yesd (by rw [e0 c]; rfl), fun d => absurd c (by simpa using d)⟩, fun c => ⟨fun d => ⟨fun _ => yesd (by rw [e0 d]; rfl), fun e => absurd d e⟩, fun _ => ?_⟩⟩
  obtain ⟨n, rfl, hp⟩ := pcheck_ok c
  have hn := hp.n20
  have ht : ∀ x y z, _ := fun x y z => pos_trans hp (a := x) (b := y) (c := z)
  have hi := fun x => pos_irr hp x
  have ho : ∀ x y, wk (relP l) n x y = true → x < n ∧ y < n := fun x y => wk_out (pos_rel hp)
  obtain ⟨hlen, hL⟩ := order_lv ht hi ho n [] (by simp) LvOk.start
  have hpair := order_pair ht hi ho n [] (by simp) LvOk.start List.Pairwise.nil
  rw [closeR_ok hp, show (orderR (n : Int) l).1 = orderN (wk (relP l) n) n n [] by rw [orderR, if_neg (fun d => d c), Int.toNat_natCast]]
  generalize wk (relP l) n = R at *
  generalize orderN R n n [] = out at *
  refine Reach.loopI EPosetOrder_ok FPosetOrder_ok (fun i : Nat => EPosetOrder_s9 (pairsF n R) out out (out.length : Int) (i : Int) (n : Int) l) (fun i => i ≤ out.length) (fun i => out.length - i) 1000 (fun _ => ⟨uniq_of rfl, uniq_of rfl⟩) ?_ 0 (Nat.zero_le _)
  rintro i k1 - ih
  have k1 : i ≤ out.length := k1
  refine holds_of_eq (EPosetOrder_l9 ..) ?_
  simp only [holds_cond, Tree.holds, true_and, true_implies, decide_eq_true_eq, decide_eq_false_iff_not, Bool.not_eq_true', Bool.not_eq_false', Int.toNat_natCast, inK_i64, List.length_set, List.length_cons, List.length_nil]
  refine ⟨fun d => ⟨by omega, fun _ => ⟨by omega, fun _ => ?_⟩⟩, fun d => ?_⟩
  · have hi2 : i < out.length := by omega
    have next := ih (i + 1) hi2 (by omega)
    have ecut : cut2 (i : Int) (out.length : Int) out = out.drop i := by
      simp only [cut2, Int.toNat_natCast]
      rw [List.take_of_length_le]
      rw [List.length_drop]; omega
    rw [ecut]
    have hdl : (out.drop i).length = out.length - i := List.length_drop
    have hdg : ∀ j, (out.drop i).getD j 0 = out.getD (i + j) 0 := fun j => by rw [List.getD_eq_getElem?_getD, List.getD_eq_getElem?_getD, List.getElem?_drop]
    have hrow : ∀ j, j < (out.drop i).length → memP ((out.drop i).getD j 0, out.getD i 0, ()) (pairsF n R) = false := by
      intro j hj
      rw [hdl] at hj
      have hm1 := hL.rng _ (getD_mem (d := 0) (show i + j < out.length by omega))
      have hm2 := hL.rng _ (getD_mem (d := 0) hi2)
      rw [hdg, ahead_pairs hm1 hm2]
      by_cases h0 : j = 0
      · subst h0; exact hi _
      · have := List.pairwise_iff_getElem.1 hpair i (i + j) hi2 (by omega) (by omega)
        rw [List.getD_eq_getElem?_getD, List.getD_eq_getElem?_getD, List.getElem?_eq_getElem hi2, List.getElem?_eq_getElem (show i + j < out.length by omega)]
        exact this
    generalize out.drop i = row at *
    refine Reach.loopI EPosetOrder_ok FPosetOrder_ok (fun j : Nat => EPosetOrder_s12 (pairsF n R) out (out.getD i 0) out (out.length : Int) (i : Int) row (row.length : Int) (j : Int) (n : Int) l) (fun j => j ≤ row.length) (fun j => row.length - j) 1000 (fun _ => ⟨uniq_of rfl, uniq_of rfl⟩) ?_ 0 (Nat.zero_le _)
    rintro j k2 - ih2
    have k2 : j ≤ row.length := k2
    refine holds_of_eq (EPosetOrder_l12 ..) ?_
    simp only [holds_cond, Tree.holds, true_and, true_implies, decide_eq_true_eq, decide_eq_false_iff_not, Bool.not_eq_true', Bool.not_eq_false', Int.toNat_natCast, inK_i64, List.length_set, List.length_cons, List.length_nil]
    refine ⟨fun e => ⟨by omega, fun _ => ⟨⟨rfl, trivial⟩, fun _ => ?_⟩⟩, fun e => ⟨by omega, fun _ => next⟩⟩
    have hf := hrow j (by omega)
    show (memP (row.getD j 0, out.getD i 0, ()) (pairsF n R) = true → _) ∧ (memP (row.getD j 0, out.getD i 0, ()) (pairsF n R) = false → _)
    rw [hf]
    exact ⟨fun h => (by cases h), fun _ => ⟨by omega, fun _ => ih2 (j + 1) (by show j + 1 ≤ row.length; omega) (by omega)⟩⟩
  · have hsp : (sortI out).Perm out := sortBy_perm _ _
    have hsl := hsp.length_eq
    exact ⟨by omega, fun _ => ⟨by omega, fun _ => ⟨hsp.nodup_iff.2 hL.nodup, fun _ => ⟨fun _ => yesd (by omega), fun h => absurd (by omega) h⟩⟩⟩⟩
end Go.Proofs.Ytdhdpklmipkneaa
