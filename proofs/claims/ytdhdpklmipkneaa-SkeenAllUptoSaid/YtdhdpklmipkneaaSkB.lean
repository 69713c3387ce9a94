/- Skeen: wait, Check, Offer, Fix. No condition but those named. -/
import Derived.Test.YtdhdpklmipkneaaSkP
namespace Go.Proofs.Ytdhdpklmipkneaa
open Go.Ex Go.Sort
set_option maxRecDepth 100000
def cwait : Ctr := { ps := [.v Skeen, .v I64], rs := [I64], pre := fun x => LE.le (α := Int) 0 x.2.1 ∧ LT.lt (α := Int) x.2.1 (List.length (α := WaitD) x.1.2.2.1), fn := fun x => (waitE x.1.1 x.1.2.1 x.1.2.2.1 (Int.toNat x.2.1), ()), out := fun _ => () }
noncomputable def Ewait : Env := { P := Try.prog, tt := tt, ctr := [(85, cinS), (89, cncmp), (33, cconW)], res := [Go.ResultVar.tmp 4], rs := [Ty.int IntKind.i64], ps := [PK.v (Ty.pair (Ty.int IntKind.i64) (Ty.pair (Ty.int IntKind.i64) (Ty.pair (Ty.slc false (Ty.pair (Ty.int IntKind.i64) (Ty.pair PairT (Ty.pair Ty.bool Ty.unit)))) Ty.unit))), PK.v (Ty.int IntKind.i64)], cuts := [], nt := 67 }
theorem Ewait_ok : EnvOk Ewait := envOk tt_ok ⟨cinS_valid, cncmp_valid, cconW_valid, trivial⟩
theorem Fwait_ok : FnOk Ewait Try.f86 := ⟨rfl, rfl⟩
theorem Ewait_t (x0_1 : Int) (x0_2_1 : Int) (x0_2_2_1 : List (Int × (Int × Int × Unit) × Bool × Unit)) (x1 : Int) : exec Ewait 1000 [.code (bodyOf Try.prog 86)] (initSt cwait.ps (((x0_1, x0_2_1, x0_2_2_1, ()), x1, ()))) =
  .need ((0 : Int) ≤ x1 ∧ x1 < (↑(List.length x0_2_2_1) : Int)) (.need (True) (cond (!inF (Prod.fst (Prod.fst (Prod.snd (List.getD x0_2_2_1 (Int.toNat x1) ((0 : Int), ((0 : Int), (0 : Int), ()), false, ()))))) (1 : Int) x0_2_1) (.ret (((1 : Int), ()))) (.need (True) (cond (!inF (Prod.fst (Prod.snd (Prod.fst (Prod.snd (List.getD x0_2_2_1 (Int.toNat x1) ((0 : Int), ((0 : Int), (0 : Int), ()), false, ())))))) (0 : Int) (5 : Int)) (.ret (((1 : Int), ()))) (cond (decide (Prod.fst (List.getD x0_2_2_1 (Int.toNat x1) ((0 : Int), ((0 : Int), (0 : Int), ()), false, ())) < (0 : Int))) (.ret (((1 : Int), ()))) (cond (!Prod.fst (Prod.snd (Prod.snd (List.getD x0_2_2_1 (Int.toNat x1) ((0 : Int), ((0 : Int), (0 : Int), ()), false, ()))))) (cond (decide (Prod.fst (Prod.snd (Prod.fst (Prod.snd (List.getD x0_2_2_1 (Int.toNat x1) ((0 : Int), ((0 : Int), (0 : Int), ()), false, ()))))) ≠ x0_1)) (.ret (((4 : Int), ()))) (cond (decide ((0 : Int) < x1)) (.need (inK IntKind.i64 (x1 - (1 : Int))) (.need ((0 : Int) ≤ x1 - (1 : Int) ∧ x1 - (1 : Int) < (↑(List.length x0_2_2_1) : Int)) (.need (True) (cond (decide (ncmp (Prod.fst (Prod.snd (List.getD x0_2_2_1 (Int.toNat x1) ((0 : Int), ((0 : Int), (0 : Int), ()), false, ())))) (Prod.fst (Prod.snd (List.getD x0_2_2_1 (Int.toNat (x1 - (1 : Int))) ((0 : Int), ((0 : Int), (0 : Int), ()), false, ())))) ≤ (0 : Int))) (.ret (((4 : Int), ()))) (.need ((0 : Int) ≤ (0 : Int) ∧ (0 : Int) ≤ x1 ∧ x1 ≤ (↑(List.length x0_2_2_1) : Int)) (.need (True) (cond (List.any (cut2 (0 : Int) x1 x0_2_2_1) (sameId (Prod.fst (List.getD x0_2_2_1 (Int.toNat x1) ((0 : Int), ((0 : Int), (0 : Int), ()), false, ()))))) (.ret (((4 : Int), ()))) (.ret (((0 : Int), ())))))))))) (.need ((0 : Int) ≤ (0 : Int) ∧ (0 : Int) ≤ x1 ∧ x1 ≤ (↑(List.length x0_2_2_1) : Int)) (.need (True) (cond (List.any (cut2 (0 : Int) x1 x0_2_2_1) (sameId (Prod.fst (List.getD x0_2_2_1 (Int.toNat x1) ((0 : Int), ((0 : Int), (0 : Int), ()), false, ()))))) (.ret (((4 : Int), ()))) (.ret (((0 : Int), ())))))))) (cond (decide ((0 : Int) < x1)) (.need (inK IntKind.i64 (x1 - (1 : Int))) (.need ((0 : Int) ≤ x1 - (1 : Int) ∧ x1 - (1 : Int) < (↑(List.length x0_2_2_1) : Int)) (.need (True) (cond (decide (ncmp (Prod.fst (Prod.snd (List.getD x0_2_2_1 (Int.toNat x1) ((0 : Int), ((0 : Int), (0 : Int), ()), false, ())))) (Prod.fst (Prod.snd (List.getD x0_2_2_1 (Int.toNat (x1 - (1 : Int))) ((0 : Int), ((0 : Int), (0 : Int), ()), false, ())))) ≤ (0 : Int))) (.ret (((4 : Int), ()))) (.need ((0 : Int) ≤ (0 : Int) ∧ (0 : Int) ≤ x1 ∧ x1 ≤ (↑(List.length x0_2_2_1) : Int)) (.need (True) (cond (List.any (cut2 (0 : Int) x1 x0_2_2_1) (sameId (Prod.fst (List.getD x0_2_2_1 (Int.toNat x1) ((0 : Int), ((0 : Int), (0 : Int), ()), false, ()))))) (.ret (((4 : Int), ()))) (.ret (((0 : Int), ())))))))))) (.need ((0 : Int) ≤ (0 : Int) ∧ (0 : Int) ≤ x1 ∧ x1 ≤ (↑(List.length x0_2_2_1) : Int)) (.need (True) (cond (List.any (cut2 (0 : Int) x1 x0_2_2_1) (sameId (Prod.fst (List.getD x0_2_2_1 (Int.toNat x1) ((0 : Int), ((0 : Int), (0 : Int), ()), false, ()))))) (.ret (((4 : Int), ()))) (.ret (((0 : Int), ()))))))))))))) := by kernel_rfl
theorem cwait_valid : cwait.Valid Try.prog 86 := by
  refine Ctr.valid_of Ewait_ok rfl rfl Try.func86 (c := bodyOf Try.prog 86) rfl rfl Fwait_ok rfl ?_
  rintro ⟨⟨(me : Int), (clk : Int), (ws : List WaitD), ⟨⟩⟩, (i : Int), ⟨⟩⟩ ⟨(h0 : 0 ≤ i), (h1 : i < (ws.length : Int))⟩ ⟨-, (hi : _), -⟩
  have hb : LE.le (α := Int) (-9223372036854775808) i ∧ i ≤ 9223372036854775807 := inK_i64.1 hi
  obtain ⟨i, rfl⟩ := Int.eq_ofNat_of_zero_le h0
  refine exec_sound (n := 1000) Ewait_ok Fwait_ok ?_
  refine holds_of_eq (Ewait_t me clk ws ((i : Nat) : Int)) ?_
  have hg : Int.toNat ((i : Nat) : Int) = i := Int.toNat_natCast i
  simp only [holds_cond, Tree.holds, true_and, true_implies, decide_eq_true_eq, decide_eq_false_iff_not, Bool.not_eq_true', Bool.not_eq_false', Int.toNat_natCast, inK_i64, List.length_set, List.length_cons, List.length_nil]
  have ct : cut2 0 ((i : Nat) : Int) ws = ws.take i := by simp [cut2]
  have nf : ∀ {b : Bool}, b = true → ¬ b = false := fun {b} h => by rw [h]; simp
  rw [ct]
  refine ⟨⟨h0, h1⟩, fun _ => ⟨fun c1 => ?_, fun c1 => ⟨fun c2 => ?_, fun c2 => ⟨fun c3 => ?_, fun c3 => ⟨fun c4 => ⟨fun c5 => ?_, fun c5 => ?_⟩, fun c4 => ?_⟩⟩⟩⟩⟩
  · show ((1, ()) : Int × Unit) = (waitE me clk ws i, ())
    rw [waitE, if_pos c1]
  · show ((1, ()) : Int × Unit) = (waitE me clk ws i, ())
    rw [waitE, if_neg (nf c1), if_pos c2]
  · show ((1, ()) : Int × Unit) = (waitE me clk ws i, ())
    rw [waitE, if_neg (nf c1), if_neg (nf c2), if_pos c3]
  · show ((4, ()) : Int × Unit) = (waitE me clk ws i, ())
    rw [waitE, if_neg (nf c1), if_neg (nf c2), if_neg c3, if_pos ⟨c4, c5⟩]
  all_goals
    have hr : waitE me clk ws i = if 0 < i ∧ ncmp (ws.getD i dW).2.1 (ws.getD (i - 1) dW).2.1 ≤ 0 then 4 else if (ws.take i).any (sameId (ws.getD i dW).1) = true then 4 else 0 := by
      rw [waitE, if_neg (nf c1), if_neg (nf c2), if_neg c3, if_neg (by first | exact fun h => c5 h.2 | exact fun h => nf c4 h.1)]
    rw [hr]
    refine ⟨fun c6 => ⟨by omega, fun _ => ⟨by omega, fun _ => ?_⟩⟩, fun c6 => ⟨by omega, fun _ => ⟨fun c8 => ?_, fun c8 => ?_⟩⟩⟩
    · rw [show Int.toNat ((i : Int) - 1) = i - 1 by omega]
      refine ⟨fun c7 => ?_, fun c7 => ⟨by omega, fun _ => ⟨fun c8 => ?_, fun c8 => ?_⟩⟩⟩
      · rw [if_pos ⟨by omega, c7⟩]; rfl
      · rw [if_neg (fun h => c7 h.2), if_pos c8]; rfl
      · rw [if_neg (fun h => c7 h.2), if_neg (by rw [c8]; simp)]; rfl
    · rw [if_neg (fun h => c6 (by omega)), if_pos c8]; rfl
    · rw [if_neg (fun h => c6 (by omega)), if_neg (by rw [c8]; simp)]; rfl
def cscheck : Ctr := { ps := [.v Skeen], rs := [I64], pre := fun _ => True, fn := fun x => (checkE x.1, ()), out := fun _ => () }
noncomputable def Escheck : Env := { P := Try.prog, tt := tt, ctr := [(85, cinS), (86, cwait)], res := [Go.ResultVar.tmp 2], rs := [Ty.int IntKind.i64], ps := [PK.v (Ty.pair (Ty.int IntKind.i64) (Ty.pair (Ty.int IntKind.i64) (Ty.pair (Ty.slc false (Ty.pair (Ty.int IntKind.i64) (Ty.pair PairT (Ty.pair Ty.bool Ty.unit)))) Ty.unit)))], cuts := [(6, [(1, none), (23, none), (24, none)])], nt := 45 }
theorem Escheck_ok : EnvOk Escheck := envOk tt_ok ⟨cinS_valid, cwait_valid, trivial⟩
theorem Fscheck_ok : FnOk Escheck Try.f32 := ⟨rfl, rfl⟩
theorem Escheck_t (x0_1 : Int) (x0_2_1 : Int) (x0_2_2_1 : List (Int × (Int × Int × Unit) × Bool × Unit)) : exec Escheck 1000 [.code (bodyOf Try.prog 32)] (initSt cscheck.ps (((x0_1, x0_2_1, x0_2_2_1, ()), ()))) =
  .need (True) (cond (!inF x0_1 (0 : Int) (5 : Int)) (.ret (((1 : Int), ()))) (.need (True) (cond (!inF x0_2_1 (0 : Int) (16777215 : Int)) (.ret (((1 : Int), ()))) (cond (decide ((40 : Int) < (↑(List.length x0_2_2_1) : Int))) (.ret (((2 : Int), ()))) (.cut (loopAt (bodyOf Try.prog 32) 6).1 (loopAt (bodyOf Try.prog 32) 6).2 (St.mk [(1, AV.ptr 1 []), (23, AV.val (Ty.int IntKind.i64) (↑(List.length x0_2_2_1) : Int)), (24, AV.val (Ty.int IntKind.i64) (0 : Int))] [(1, Ent.var (Ty.pair (Ty.int IntKind.i64) (Ty.pair (Ty.int IntKind.i64) (Ty.pair (Ty.slc false (Ty.pair (Ty.int IntKind.i64) (Ty.pair PairT (Ty.pair Ty.bool Ty.unit)))) Ty.unit))) (x0_1, x0_2_1, x0_2_2_1, ()))])))))) := by kernel_rfl
def Escheck_s6 (v23 : Int) (v24 : Int) (o1_1 : Int) (o1_2_1 : Int) (o1_2_2_1 : List (Int × (Int × Int × Unit) × Bool × Unit)) : St := St.mk [(1, AV.ptr 1 []), (23, AV.val (Ty.int IntKind.i64) v23), (24, AV.val (Ty.int IntKind.i64) v24)] [(1, Ent.var (Ty.pair (Ty.int IntKind.i64) (Ty.pair (Ty.int IntKind.i64) (Ty.pair (Ty.slc false (Ty.pair (Ty.int IntKind.i64) (Ty.pair PairT (Ty.pair Ty.bool Ty.unit)))) Ty.unit))) (o1_1, o1_2_1, o1_2_2_1, ()))]
theorem Escheck_l6 (v23 : Int) (v24 : Int) (o1_1 : Int) (o1_2_1 : Int) (o1_2_2_1 : List (Int × (Int × Int × Unit) × Bool × Unit)) : exec Escheck 1000 (.code (loopAt (bodyOf Try.prog 32) 6).1 :: .inLoop (loopAt (bodyOf Try.prog 32) 6).1 :: (loopAt (bodyOf Try.prog 32) 6).2) (Escheck_s6 v23 v24 o1_1 o1_2_1 o1_2_2_1) =
  cond (decide (v24 < v23)) (.need ((0 : Int) ≤ v24 ∧ v24 < (↑(List.length o1_2_2_1) : Int)) (cond (decide (waitE o1_1 o1_2_1 o1_2_2_1 (Int.toNat v24) ≠ (0 : Int))) (.ret ((waitE o1_1 o1_2_1 o1_2_2_1 (Int.toNat v24), ()))) (.need (inK IntKind.i64 (v24 + (1 : Int))) (.cut (loopAt (bodyOf Try.prog 32) 6).1 (loopAt (bodyOf Try.prog 32) 6).2 (St.mk [(1, AV.ptr 1 []), (23, AV.val (Ty.int IntKind.i64) v23), (24, AV.val (Ty.int IntKind.i64) (v24 + (1 : Int)))] [(1, Ent.var (Ty.pair (Ty.int IntKind.i64) (Ty.pair (Ty.int IntKind.i64) (Ty.pair (Ty.slc false (Ty.pair (Ty.int IntKind.i64) (Ty.pair PairT (Ty.pair Ty.bool Ty.unit)))) Ty.unit))) (o1_1, o1_2_1, o1_2_2_1, ()))]))))) (cond (decide ((0 : Int) < (↑(List.length o1_2_2_1) : Int))) (.need ((0 : Int) ≤ (0 : Int) ∧ (0 : Int) < (↑(List.length o1_2_2_1) : Int)) (cond (Prod.fst (Prod.snd (Prod.snd (List.getD o1_2_2_1 (Int.toNat (0 : Int)) ((0 : Int), ((0 : Int), (0 : Int), ()), false, ()))))) (.ret (((4 : Int), ()))) (.ret (((0 : Int), ()))))) (.ret (((0 : Int), ())))) := by kernel_rfl
theorem checkE_at (me clk : Int) (ws : List WaitD) : checkE (me, clk, ws, ()) = if inF me 0 5 = false then 1 else if inF clk 0 16777215 = false then 1 else if 40 < ws.length then 2
  else if firstE (waitE me clk ws) (List.range' 0 ws.length) ≠ 0 then firstE (waitE me clk ws) (List.range' 0 ws.length) else if headF ws = true then 4 else 0 := rfl
theorem cscheck_valid : cscheck.Valid Try.prog 32 := by
  refine Ctr.valid_of Escheck_ok rfl rfl Try.func32 (c := bodyOf Try.prog 32) rfl rfl Fscheck_ok rfl ?_
  rintro ⟨⟨(me : Int), (clk : Int), (ws : List WaitD), ⟨⟩⟩, ⟨⟩⟩ - -
  refine exec_sound (n := 1000) Escheck_ok Fscheck_ok ?_
  refine holds_of_eq (Escheck_t me clk ws) ?_
  have nf : ∀ {b : Bool}, b = true → ¬ b = false := fun {b} h => by rw [h]; simp
  simp only [holds_cond, Tree.holds, true_and, true_implies, decide_eq_true_eq, decide_eq_false_iff_not, Bool.not_eq_true', Bool.not_eq_false', Int.toNat_natCast, inK_i64, List.length_set, List.length_cons, List.length_nil]
  refine ⟨fun c1 => ?_, fun c1 => ⟨fun c2 => ?_, fun c2 => ⟨fun c3 => ?_, fun c3 => ?_⟩⟩⟩
  · show ((1, ()) : Int × Unit) = (checkE (me, clk, ws, ()), ())
    rw [checkE_at, if_pos c1]
  · show ((1, ()) : Int × Unit) = (checkE (me, clk, ws, ()), ())
    rw [checkE_at, if_neg (nf c1), if_pos c2]
  · show ((2, ()) : Int × Unit) = (checkE (me, clk, ws, ()), ())
    rw [checkE_at, if_neg (nf c1), if_neg (nf c2), if_pos (by omega)]
  have e0 : checkE (me, clk, ws, ()) = if firstE (waitE me clk ws) (List.range' 0 ws.length) ≠ 0 then firstE (waitE me clk ws) (List.range' 0 ws.length) else if headF ws = true then 4 else 0 := by
    rw [checkE_at, if_neg (nf c1), if_neg (nf c2), if_neg (by omega)]
  refine Reach.loopI Escheck_ok Fscheck_ok (fun i : Nat => Escheck_s6 (ws.length : Int) (i : Int) me clk ws) (fun i => i ≤ ws.length ∧ firstE (waitE me clk ws) (List.range' 0 ws.length) = firstE (waitE me clk ws) (List.range' i (ws.length - i))) (fun i => ws.length - i) 1000 (fun _ => ⟨uniq_of rfl, uniq_of rfl⟩) ?_ 0 ⟨Nat.zero_le _, rfl⟩
  rintro i ⟨(k1 : i ≤ ws.length), k2⟩ - ih
  rw [k2] at e0
  refine holds_of_eq (Escheck_l6 ..) ?_
  simp only [holds_cond, Tree.holds, true_and, true_implies, decide_eq_true_eq, decide_eq_false_iff_not, Bool.not_eq_true', Bool.not_eq_false', Int.toNat_natCast, inK_i64, List.length_set, List.length_cons, List.length_nil]
  refine ⟨fun c => ⟨⟨by omega, c⟩, fun _ => ?_⟩, fun c => ?_⟩
  · have hi : i < ws.length := by omega
    have er : firstE (waitE me clk ws) (List.range' i (ws.length - i)) = if waitE me clk ws i ≠ 0 then waitE me clk ws i else firstE (waitE me clk ws) (List.range' (i + 1) (ws.length - (i + 1))) := by
      rw [show ws.length - i = (ws.length - (i + 1)) + 1 by omega]; rfl
    refine ⟨fun c4 => ?_, fun c4 => ⟨by omega, fun _ => ih (i + 1) ⟨hi, ?_⟩ (by omega)⟩⟩
    · show ((waitE me clk ws i, ()) : Int × Unit) = (checkE (me, clk, ws, ()), ())
      rw [e0, er, if_pos c4, if_pos c4]
    · rw [k2, er, if_neg c4]
  · obtain rfl : i = ws.length := by omega
    have er : firstE (waitE me clk ws) (List.range' ws.length (ws.length - ws.length)) = 0 := by rw [Nat.sub_self]; rfl
    rw [er, if_neg (fun h => h rfl)] at e0
    cases ws with
    | nil => exact ⟨fun h => absurd h (by simp), fun _ => by show ((0, ()) : Int × Unit) = (checkE (me, clk, [], ()), ()); rw [e0]; rfl⟩
    | cons w l =>
      refine ⟨fun _ => ⟨⟨by omega, by simp⟩, fun _ => ⟨fun h => ?_, fun h => ?_⟩⟩, fun h => absurd (show (0 : Int) < ((w :: l).length : Int) by simp) h⟩
      · have h : w.2.2.1 = true := h
        show ((4, ()) : Int × Unit) = (checkE (me, clk, w :: l, ()), ())
        rw [e0, if_pos (show headF (w :: l) = true from h)]
      · have h : w.2.2.1 = false := h
        show ((0, ()) : Int × Unit) = (checkE (me, clk, w :: l, ()), ())
        rw [e0, if_neg (by rw [show headF (w :: l) = false from h]; simp)]
def coffer : Ctr := { ps := [.v Skeen, .v I64], rs := [SkeenO, Num, I64], pre := fun _ => True, fn := fun x => offerF x.1 x.2.1, out := fun _ => () }
noncomputable def Eoffer : Env := { P := Try.prog, tt := tt, ctr := [(32, cscheck), (33, cconO), (84, cclW)], res := [Go.ResultVar.cell 4 54, Go.ResultVar.cell 5 56, Go.ResultVar.tmp 6], rs := [Ty.pair (Ty.int IntKind.i64) (Ty.pair (Ty.int IntKind.i64) (Ty.pair (Ty.slc true (Ty.pair (Ty.int IntKind.i64) (Ty.pair PairT (Ty.pair Ty.bool Ty.unit)))) Ty.unit)), Ty.pair (Ty.int IntKind.i64) (Ty.pair (Ty.int IntKind.i64) Ty.unit), Ty.int IntKind.i64], ps := [PK.v (Ty.pair (Ty.int IntKind.i64) (Ty.pair (Ty.int IntKind.i64) (Ty.pair (Ty.slc false (Ty.pair (Ty.int IntKind.i64) (Ty.pair PairT (Ty.pair Ty.bool Ty.unit)))) Ty.unit))), PK.v (Ty.int IntKind.i64)], cuts := [], nt := 60 }
theorem Eoffer_ok : EnvOk Eoffer := envOk tt_ok ⟨cscheck_valid, cconO_valid, cclW_valid, trivial⟩
theorem Foffer_ok : FnOk Eoffer Try.f31 := ⟨rfl, rfl⟩
theorem Eoffer_t (x0_1 : Int) (x0_2_1 : Int) (x0_2_2_1 : List (Int × (Int × Int × Unit) × Bool × Unit)) (x1 : Int) : exec Eoffer 1000 [.code (bodyOf Try.prog 31)] (initSt coffer.ps (((x0_1, x0_2_1, x0_2_2_1, ()), x1, ()))) =
  .need (True) (cond (decide (checkE (x0_1, x0_2_1, x0_2_2_1, ()) ≠ (0 : Int))) (.ret ((((0 : Int), (0 : Int), [], ()), ((0 : Int), (0 : Int), ()), checkE (x0_1, x0_2_1, x0_2_2_1, ()), ()))) (cond (decide (x1 < (0 : Int))) (.ret ((((0 : Int), (0 : Int), [], ()), ((0 : Int), (0 : Int), ()), (1 : Int), ()))) (.need (True) (cond (List.any x0_2_2_1 (sameId x1)) (.ret ((((0 : Int), (0 : Int), [], ()), ((0 : Int), (0 : Int), ()), (7 : Int), ()))) (cond (decide ((↑(List.length x0_2_2_1) : Int) = (40 : Int))) (.ret ((((0 : Int), (0 : Int), [], ()), ((0 : Int), (0 : Int), ()), (8 : Int), ()))) (cond (decide (x0_2_1 = (16777215 : Int))) (.ret ((((0 : Int), (0 : Int), [], ()), ((0 : Int), (0 : Int), ()), (8 : Int), ()))) (.need (inK IntKind.i64 (x0_2_1 + (1 : Int))) (.need (List.length x0_2_2_1 ≤ 1048576) (.need (List.length x0_2_2_1 + List.length (List.set [((0 : Int), ((0 : Int), (0 : Int), ()), false, ())] (Int.toNat (↑0 : Int)) (x1, (x0_2_1 + (1 : Int), x0_1, ()), false, ())) ≤ 140737488355328 ∧ (List.length x0_2_2_1 + List.length (List.set [((0 : Int), ((0 : Int), (0 : Int), ()), false, ())] (Int.toNat (↑0 : Int)) (x1, (x0_2_1 + (1 : Int), x0_1, ()), false, ()))) * Ty.wb (Ty.pair (Ty.int IntKind.i64) (Ty.pair PairT (Ty.pair Ty.bool Ty.unit))) ≤ 140737488355328) (.ret (((x0_1, x0_2_1 + (1 : Int), x0_2_2_1 ++ List.set [((0 : Int), ((0 : Int), (0 : Int), ()), false, ())] (Int.toNat (↑0 : Int)) (x1, (x0_2_1 + (1 : Int), x0_1, ()), false, ()), ()), (x0_2_1 + (1 : Int), x0_1, ()), (0 : Int), ())))))))))))) := by kernel_rfl
theorem checkE_n (s : SkD) : checkE s = 0 → s.2.1 ≤ 16777215 ∧ s.2.2.1.length ≤ 40 := fun h => ⟨(checkE_ok.1 h).clk.2, (checkE_ok.1 h).len⟩
theorem offerF_at (me clk : Int) (ws : List WaitD) (id : Int) : offerF (me, clk, ws, ()) id = if checkE (me, clk, ws, ()) ≠ 0 then (noS, noN, checkE (me, clk, ws, ()), ()) else if id < 0 then (noS, noN, 1, ()) else if ws.any (sameId id) = true then (noS, noN, 7, ()) else if ws.length = 40 then (noS, noN, 8, ())
  else if clk = 16777215 then (noS, noN, 8, ()) else ((me, clk + 1, ws ++ [(id, (clk + 1, me, ()), false, ())], ()), (clk + 1, me, ()), 0, ()) := rfl
theorem wb_wait : Ty.wb ((Ty.int IntKind.i64).pair (PairT.pair (Ty.bool.pair Ty.unit))) = 32 := rfl
theorem coffer_valid : coffer.Valid Try.prog 31 := by
  refine Ctr.valid_of Eoffer_ok rfl rfl Try.func31 (c := bodyOf Try.prog 31) rfl rfl Foffer_ok rfl ?_
  rintro ⟨⟨(me : Int), (clk : Int), (ws : List WaitD), ⟨⟩⟩, (id : Int), ⟨⟩⟩ - -
  refine exec_sound (n := 1000) Eoffer_ok Foffer_ok ?_
  refine holds_of_eq (Eoffer_t me clk ws id) ?_
  have nt : ∀ {b : Bool}, b = false → ¬ b = true := fun {b} h => by rw [h]; simp
  simp only [holds_cond, Tree.holds, true_and, true_implies, decide_eq_true_eq, decide_eq_false_iff_not, Bool.not_eq_true', Bool.not_eq_false', Int.toNat_natCast, inK_i64, List.length_set, List.length_cons, List.length_nil]
  refine ⟨fun c0 => ?_, fun c0 => ⟨fun c1 => ?_, fun c1 => ⟨fun c2 => ?_, fun c2 => ⟨fun c3 => ?_, fun c3 => ⟨fun c4 => ?_, fun c4 => ?_⟩⟩⟩⟩⟩
  · show ((noS, noN, checkE (me, clk, ws, ()), ()) : SkD × NumD × Int × Unit) = offerF (me, clk, ws, ()) id
    rw [offerF_at, if_pos c0]
  · show ((noS, noN, 1, ()) : SkD × NumD × Int × Unit) = offerF (me, clk, ws, ()) id
    rw [offerF_at, if_neg c0, if_pos c1]
  · show ((noS, noN, 7, ()) : SkD × NumD × Int × Unit) = offerF (me, clk, ws, ()) id
    rw [offerF_at, if_neg c0, if_neg c1, if_pos c2]
  · show ((noS, noN, 8, ()) : SkD × NumD × Int × Unit) = offerF (me, clk, ws, ()) id
    rw [offerF_at, if_neg c0, if_neg c1, if_neg (nt c2), if_pos (by omega)]
  · show ((noS, noN, 8, ()) : SkD × NumD × Int × Unit) = offerF (me, clk, ws, ()) id
    rw [offerF_at, if_neg c0, if_neg c1, if_neg (nt c2), if_neg (by omega), if_pos c4]
  · have hok := checkE_ok.1 (Decidable.not_not.1 c0)
    have k1 : 0 ≤ clk ∧ clk ≤ 16777215 := hok.clk
    have k2 : ws.length ≤ 40 := hok.len
    rw [wb_wait]
    refine ⟨by omega, fun _ => ⟨by omega, fun _ => ⟨by omega, fun _ => ?_⟩⟩⟩
    show (((me, clk + 1, ws ++ [(id, (clk + 1, me, ()), false, ())], ()), (clk + 1, me, ()), 0, ()) : SkD × NumD × Int × Unit) = offerF (me, clk, ws, ()) id
    rw [offerF_at, if_neg c0, if_neg c1, if_neg (nt c2), if_neg (by omega), if_neg c4]
def cfix : Ctr := { ps := [.v Skeen, .v I64, .v Num], rs := [SkeenO, .slc true I64, I64], pre := fun _ => True, fn := fun x => fixF x.1 x.2.1 x.2.2.1, out := fun _ => () }
noncomputable def Efix : Env := { P := Try.prog, tt := tt, ctr := [(32, cscheck), (87, cidxF), (33, cconT), (84, cclW), (91, csortW), (85, cinS), (89, cncmp)], res := [Go.ResultVar.cell 6 54, Go.ResultVar.tmp 7, Go.ResultVar.tmp 8], rs := [Ty.pair (Ty.int IntKind.i64) (Ty.pair (Ty.int IntKind.i64) (Ty.pair (Ty.slc true (Ty.pair (Ty.int IntKind.i64) (Ty.pair PairT (Ty.pair Ty.bool Ty.unit)))) Ty.unit)), Ty.slc true (Ty.int IntKind.i64), Ty.int IntKind.i64], ps := [PK.v (Ty.pair (Ty.int IntKind.i64) (Ty.pair (Ty.int IntKind.i64) (Ty.pair (Ty.slc false (Ty.pair (Ty.int IntKind.i64) (Ty.pair PairT (Ty.pair Ty.bool Ty.unit)))) Ty.unit))), PK.v (Ty.int IntKind.i64), PK.v PairT], cuts := [(15, [(6, none), (11, none), (12, some Is)])], nt := 107 }
theorem Efix_ok : EnvOk Efix := envOk tt_ok ⟨cscheck_valid, cidxF_valid, cconT_valid, cclW_valid, csortW_valid, cinS_valid, cncmp_valid, trivial⟩
theorem Ffix_ok : FnOk Efix Try.f35 := ⟨rfl, rfl⟩
theorem Efix_t (x0_1 : Int) (x0_2_1 : Int) (x0_2_2_1 : List (Int × (Int × Int × Unit) × Bool × Unit)) (x1 : Int) (x2_1 : Int) (x2_2_1 : Int) : exec Efix 1000 [.code (bodyOf Try.prog 35)] (initSt cfix.ps (((x0_1, x0_2_1, x0_2_2_1, ()), x1, (x2_1, x2_2_1, ()), ()))) =
  .need (True) (cond (decide (checkE (x0_1, x0_2_1, x0_2_2_1, ()) ≠ (0 : Int))) (.ret ((((0 : Int), (0 : Int), [], ()), [], checkE (x0_1, x0_2_1, x0_2_2_1, ()), ()))) (.need (True) (cond (!inF x2_1 (1 : Int) (16777215 : Int)) (.ret ((((0 : Int), (0 : Int), [], ()), [], (1 : Int), ()))) (.need (True) (cond (!inF x2_2_1 (0 : Int) (5 : Int)) (.ret ((((0 : Int), (0 : Int), [], ()), [], (1 : Int), ()))) (.need (True) (cond (decide (idxOf (openId x1) x0_2_2_1 < (0 : Int))) (.ret ((((0 : Int), (0 : Int), [], ()), [], (6 : Int), ()))) (.need ((0 : Int) ≤ idxOf (openId x1) x0_2_2_1 ∧ idxOf (openId x1) x0_2_2_1 < (↑(List.length x0_2_2_1) : Int)) (.need (True) (cond (decide (ncmp (x2_1, x2_2_1, ()) (Prod.fst (Prod.snd (List.getD x0_2_2_1 (Int.toNat (idxOf (openId x1) x0_2_2_1)) ((0 : Int), ((0 : Int), (0 : Int), ()), false, ())))) < (0 : Int))) (.ret ((((0 : Int), (0 : Int), [], ()), [], (10 : Int), ()))) (.need (True) (cond (List.any x0_2_2_1 (taken x1 (x2_1, x2_2_1, ()))) (.ret ((((0 : Int), (0 : Int), [], ()), [], (10 : Int), ()))) (.need (List.length x0_2_2_1 ≤ 1048576) (.need ((0 : Int) ≤ idxOf (openId x1) x0_2_2_1 ∧ idxOf (openId x1) x0_2_2_1 < (↑(List.length x0_2_2_1) : Int)) (.need ((0 : Int) ≤ idxOf (openId x1) x0_2_2_1 ∧ idxOf (openId x1) x0_2_2_1 < (↑(List.length (List.set x0_2_2_1 (Int.toNat (idxOf (openId x1) x0_2_2_1)) (Prod.fst (List.getD x0_2_2_1 (Int.toNat (idxOf (openId x1) x0_2_2_1)) ((0 : Int), ((0 : Int), (0 : Int), ()), false, ())), (x2_1, x2_2_1, ()), Prod.snd (Prod.snd (List.getD x0_2_2_1 (Int.toNat (idxOf (openId x1) x0_2_2_1)) ((0 : Int), ((0 : Int), (0 : Int), ()), false, ())))))) : Int)) (.need (List.length (List.set (List.set x0_2_2_1 (Int.toNat (idxOf (openId x1) x0_2_2_1)) (Prod.fst (List.getD x0_2_2_1 (Int.toNat (idxOf (openId x1) x0_2_2_1)) ((0 : Int), ((0 : Int), (0 : Int), ()), false, ())), (x2_1, x2_2_1, ()), Prod.snd (Prod.snd (List.getD x0_2_2_1 (Int.toNat (idxOf (openId x1) x0_2_2_1)) ((0 : Int), ((0 : Int), (0 : Int), ()), false, ()))))) (Int.toNat (idxOf (openId x1) x0_2_2_1)) (Prod.fst (List.getD (List.set x0_2_2_1 (Int.toNat (idxOf (openId x1) x0_2_2_1)) (Prod.fst (List.getD x0_2_2_1 (Int.toNat (idxOf (openId x1) x0_2_2_1)) ((0 : Int), ((0 : Int), (0 : Int), ()), false, ())), (x2_1, x2_2_1, ()), Prod.snd (Prod.snd (List.getD x0_2_2_1 (Int.toNat (idxOf (openId x1) x0_2_2_1)) ((0 : Int), ((0 : Int), (0 : Int), ()), false, ()))))) (Int.toNat (idxOf (openId x1) x0_2_2_1)) ((0 : Int), ((0 : Int), (0 : Int), ()), false, ())), Prod.fst (Prod.snd (List.getD (List.set x0_2_2_1 (Int.toNat (idxOf (openId x1) x0_2_2_1)) (Prod.fst (List.getD x0_2_2_1 (Int.toNat (idxOf (openId x1) x0_2_2_1)) ((0 : Int), ((0 : Int), (0 : Int), ()), false, ())), (x2_1, x2_2_1, ()), Prod.snd (Prod.snd (List.getD x0_2_2_1 (Int.toNat (idxOf (openId x1) x0_2_2_1)) ((0 : Int), ((0 : Int), (0 : Int), ()), false, ()))))) (Int.toNat (idxOf (openId x1) x0_2_2_1)) ((0 : Int), ((0 : Int), (0 : Int), ()), false, ()))), true, Prod.snd (Prod.snd (Prod.snd (List.getD (List.set x0_2_2_1 (Int.toNat (idxOf (openId x1) x0_2_2_1)) (Prod.fst (List.getD x0_2_2_1 (Int.toNat (idxOf (openId x1) x0_2_2_1)) ((0 : Int), ((0 : Int), (0 : Int), ()), false, ())), (x2_1, x2_2_1, ()), Prod.snd (Prod.snd (List.getD x0_2_2_1 (Int.toNat (idxOf (openId x1) x0_2_2_1)) ((0 : Int), ((0 : Int), (0 : Int), ()), false, ()))))) (Int.toNat (idxOf (openId x1) x0_2_2_1)) ((0 : Int), ((0 : Int), (0 : Int), ()), false, ())))))) ≤ 1048576 ∧ (∀ (a : Ty.den Wait), a ∈ List.set (List.set x0_2_2_1 (Int.toNat (idxOf (openId x1) x0_2_2_1)) (Prod.fst (List.getD x0_2_2_1 (Int.toNat (idxOf (openId x1) x0_2_2_1)) ((0 : Int), ((0 : Int), (0 : Int), ()), false, ())), (x2_1, x2_2_1, ()), Prod.snd (Prod.snd (List.getD x0_2_2_1 (Int.toNat (idxOf (openId x1) x0_2_2_1)) ((0 : Int), ((0 : Int), (0 : Int), ()), false, ()))))) (Int.toNat (idxOf (openId x1) x0_2_2_1)) (Prod.fst (List.getD (List.set x0_2_2_1 (Int.toNat (idxOf (openId x1) x0_2_2_1)) (Prod.fst (List.getD x0_2_2_1 (Int.toNat (idxOf (openId x1) x0_2_2_1)) ((0 : Int), ((0 : Int), (0 : Int), ()), false, ())), (x2_1, x2_2_1, ()), Prod.snd (Prod.snd (List.getD x0_2_2_1 (Int.toNat (idxOf (openId x1) x0_2_2_1)) ((0 : Int), ((0 : Int), (0 : Int), ()), false, ()))))) (Int.toNat (idxOf (openId x1) x0_2_2_1)) ((0 : Int), ((0 : Int), (0 : Int), ()), false, ())), Prod.fst (Prod.snd (List.getD (List.set x0_2_2_1 (Int.toNat (idxOf (openId x1) x0_2_2_1)) (Prod.fst (List.getD x0_2_2_1 (Int.toNat (idxOf (openId x1) x0_2_2_1)) ((0 : Int), ((0 : Int), (0 : Int), ()), false, ())), (x2_1, x2_2_1, ()), Prod.snd (Prod.snd (List.getD x0_2_2_1 (Int.toNat (idxOf (openId x1) x0_2_2_1)) ((0 : Int), ((0 : Int), (0 : Int), ()), false, ()))))) (Int.toNat (idxOf (openId x1) x0_2_2_1)) ((0 : Int), ((0 : Int), (0 : Int), ()), false, ()))), true, Prod.snd (Prod.snd (Prod.snd (List.getD (List.set x0_2_2_1 (Int.toNat (idxOf (openId x1) x0_2_2_1)) (Prod.fst (List.getD x0_2_2_1 (Int.toNat (idxOf (openId x1) x0_2_2_1)) ((0 : Int), ((0 : Int), (0 : Int), ()), false, ())), (x2_1, x2_2_1, ()), Prod.snd (Prod.snd (List.getD x0_2_2_1 (Int.toNat (idxOf (openId x1) x0_2_2_1)) ((0 : Int), ((0 : Int), (0 : Int), ()), false, ()))))) (Int.toNat (idxOf (openId x1) x0_2_2_1)) ((0 : Int), ((0 : Int), (0 : Int), ()), false, ()))))) → True) ∧ ∀ (a : Ty.den Wait), a ∈ List.set (List.set x0_2_2_1 (Int.toNat (idxOf (openId x1) x0_2_2_1)) (Prod.fst (List.getD x0_2_2_1 (Int.toNat (idxOf (openId x1) x0_2_2_1)) ((0 : Int), ((0 : Int), (0 : Int), ()), false, ())), (x2_1, x2_2_1, ()), Prod.snd (Prod.snd (List.getD x0_2_2_1 (Int.toNat (idxOf (openId x1) x0_2_2_1)) ((0 : Int), ((0 : Int), (0 : Int), ()), false, ()))))) (Int.toNat (idxOf (openId x1) x0_2_2_1)) (Prod.fst (List.getD (List.set x0_2_2_1 (Int.toNat (idxOf (openId x1) x0_2_2_1)) (Prod.fst (List.getD x0_2_2_1 (Int.toNat (idxOf (openId x1) x0_2_2_1)) ((0 : Int), ((0 : Int), (0 : Int), ()), false, ())), (x2_1, x2_2_1, ()), Prod.snd (Prod.snd (List.getD x0_2_2_1 (Int.toNat (idxOf (openId x1) x0_2_2_1)) ((0 : Int), ((0 : Int), (0 : Int), ()), false, ()))))) (Int.toNat (idxOf (openId x1) x0_2_2_1)) ((0 : Int), ((0 : Int), (0 : Int), ()), false, ())), Prod.fst (Prod.snd (List.getD (List.set x0_2_2_1 (Int.toNat (idxOf (openId x1) x0_2_2_1)) (Prod.fst (List.getD x0_2_2_1 (Int.toNat (idxOf (openId x1) x0_2_2_1)) ((0 : Int), ((0 : Int), (0 : Int), ()), false, ())), (x2_1, x2_2_1, ()), Prod.snd (Prod.snd (List.getD x0_2_2_1 (Int.toNat (idxOf (openId x1) x0_2_2_1)) ((0 : Int), ((0 : Int), (0 : Int), ()), false, ()))))) (Int.toNat (idxOf (openId x1) x0_2_2_1)) ((0 : Int), ((0 : Int), (0 : Int), ()), false, ()))), true, Prod.snd (Prod.snd (Prod.snd (List.getD (List.set x0_2_2_1 (Int.toNat (idxOf (openId x1) x0_2_2_1)) (Prod.fst (List.getD x0_2_2_1 (Int.toNat (idxOf (openId x1) x0_2_2_1)) ((0 : Int), ((0 : Int), (0 : Int), ()), false, ())), (x2_1, x2_2_1, ()), Prod.snd (Prod.snd (List.getD x0_2_2_1 (Int.toNat (idxOf (openId x1) x0_2_2_1)) ((0 : Int), ((0 : Int), (0 : Int), ()), false, ()))))) (Int.toNat (idxOf (openId x1) x0_2_2_1)) ((0 : Int), ((0 : Int), (0 : Int), ()), false, ()))))) → ∀ (b : Ty.den Wait), b ∈ List.set (List.set x0_2_2_1 (Int.toNat (idxOf (openId x1) x0_2_2_1)) (Prod.fst (List.getD x0_2_2_1 (Int.toNat (idxOf (openId x1) x0_2_2_1)) ((0 : Int), ((0 : Int), (0 : Int), ()), false, ())), (x2_1, x2_2_1, ()), Prod.snd (Prod.snd (List.getD x0_2_2_1 (Int.toNat (idxOf (openId x1) x0_2_2_1)) ((0 : Int), ((0 : Int), (0 : Int), ()), false, ()))))) (Int.toNat (idxOf (openId x1) x0_2_2_1)) (Prod.fst (List.getD (List.set x0_2_2_1 (Int.toNat (idxOf (openId x1) x0_2_2_1)) (Prod.fst (List.getD x0_2_2_1 (Int.toNat (idxOf (openId x1) x0_2_2_1)) ((0 : Int), ((0 : Int), (0 : Int), ()), false, ())), (x2_1, x2_2_1, ()), Prod.snd (Prod.snd (List.getD x0_2_2_1 (Int.toNat (idxOf (openId x1) x0_2_2_1)) ((0 : Int), ((0 : Int), (0 : Int), ()), false, ()))))) (Int.toNat (idxOf (openId x1) x0_2_2_1)) ((0 : Int), ((0 : Int), (0 : Int), ()), false, ())), Prod.fst (Prod.snd (List.getD (List.set x0_2_2_1 (Int.toNat (idxOf (openId x1) x0_2_2_1)) (Prod.fst (List.getD x0_2_2_1 (Int.toNat (idxOf (openId x1) x0_2_2_1)) ((0 : Int), ((0 : Int), (0 : Int), ()), false, ())), (x2_1, x2_2_1, ()), Prod.snd (Prod.snd (List.getD x0_2_2_1 (Int.toNat (idxOf (openId x1) x0_2_2_1)) ((0 : Int), ((0 : Int), (0 : Int), ()), false, ()))))) (Int.toNat (idxOf (openId x1) x0_2_2_1)) ((0 : Int), ((0 : Int), (0 : Int), ()), false, ()))), true, Prod.snd (Prod.snd (Prod.snd (List.getD (List.set x0_2_2_1 (Int.toNat (idxOf (openId x1) x0_2_2_1)) (Prod.fst (List.getD x0_2_2_1 (Int.toNat (idxOf (openId x1) x0_2_2_1)) ((0 : Int), ((0 : Int), (0 : Int), ()), false, ())), (x2_1, x2_2_1, ()), Prod.snd (Prod.snd (List.getD x0_2_2_1 (Int.toNat (idxOf (openId x1) x0_2_2_1)) ((0 : Int), ((0 : Int), (0 : Int), ()), false, ()))))) (Int.toNat (idxOf (openId x1) x0_2_2_1)) ((0 : Int), ((0 : Int), (0 : Int), ()), false, ()))))) → ltD wcmp a b = false → ltD wcmp b a = false → a = b) (.cut (loopAt (bodyOf Try.prog 35) 15).1 (loopAt (bodyOf Try.prog 35) 15).2 (St.mk [(6, AV.ptr 6 []), (11, AV.ptr 11 []), (12, AV.at_ 1000012 [])] [(6, Ent.var (Ty.pair (Ty.int IntKind.i64) (Ty.pair (Ty.int IntKind.i64) (Ty.pair (Ty.slc true (Ty.pair (Ty.int IntKind.i64) (Ty.pair PairT (Ty.pair Ty.bool Ty.unit)))) Ty.unit))) ((0 : Int), (0 : Int), [], ())), (11, Ent.var (Ty.pair (Ty.int IntKind.i64) (Ty.pair (Ty.int IntKind.i64) (Ty.pair (Ty.slc true (Ty.pair (Ty.int IntKind.i64) (Ty.pair PairT (Ty.pair Ty.bool Ty.unit)))) Ty.unit))) (x0_1, if x0_2_1 < x2_1 then x2_1 else x0_2_1, sortBy (ltD wcmp) (List.set (List.set x0_2_2_1 (Int.toNat (idxOf (openId x1) x0_2_2_1)) (Prod.fst (List.getD x0_2_2_1 (Int.toNat (idxOf (openId x1) x0_2_2_1)) ((0 : Int), ((0 : Int), (0 : Int), ()), false, ())), (x2_1, x2_2_1, ()), Prod.snd (Prod.snd (List.getD x0_2_2_1 (Int.toNat (idxOf (openId x1) x0_2_2_1)) ((0 : Int), ((0 : Int), (0 : Int), ()), false, ()))))) (Int.toNat (idxOf (openId x1) x0_2_2_1)) (Prod.fst (List.getD (List.set x0_2_2_1 (Int.toNat (idxOf (openId x1) x0_2_2_1)) (Prod.fst (List.getD x0_2_2_1 (Int.toNat (idxOf (openId x1) x0_2_2_1)) ((0 : Int), ((0 : Int), (0 : Int), ()), false, ())), (x2_1, x2_2_1, ()), Prod.snd (Prod.snd (List.getD x0_2_2_1 (Int.toNat (idxOf (openId x1) x0_2_2_1)) ((0 : Int), ((0 : Int), (0 : Int), ()), false, ()))))) (Int.toNat (idxOf (openId x1) x0_2_2_1)) ((0 : Int), ((0 : Int), (0 : Int), ()), false, ())), Prod.fst (Prod.snd (List.getD (List.set x0_2_2_1 (Int.toNat (idxOf (openId x1) x0_2_2_1)) (Prod.fst (List.getD x0_2_2_1 (Int.toNat (idxOf (openId x1) x0_2_2_1)) ((0 : Int), ((0 : Int), (0 : Int), ()), false, ())), (x2_1, x2_2_1, ()), Prod.snd (Prod.snd (List.getD x0_2_2_1 (Int.toNat (idxOf (openId x1) x0_2_2_1)) ((0 : Int), ((0 : Int), (0 : Int), ()), false, ()))))) (Int.toNat (idxOf (openId x1) x0_2_2_1)) ((0 : Int), ((0 : Int), (0 : Int), ()), false, ()))), true, Prod.snd (Prod.snd (Prod.snd (List.getD (List.set x0_2_2_1 (Int.toNat (idxOf (openId x1) x0_2_2_1)) (Prod.fst (List.getD x0_2_2_1 (Int.toNat (idxOf (openId x1) x0_2_2_1)) ((0 : Int), ((0 : Int), (0 : Int), ()), false, ())), (x2_1, x2_2_1, ()), Prod.snd (Prod.snd (List.getD x0_2_2_1 (Int.toNat (idxOf (openId x1) x0_2_2_1)) ((0 : Int), ((0 : Int), (0 : Int), ()), false, ()))))) (Int.toNat (idxOf (openId x1) x0_2_2_1)) ((0 : Int), ((0 : Int), (0 : Int), ()), false, ())))))), ())), (1000012, Ent.own Is [])])))))))))))))))))) := by kernel_rfl
def Efix_s15 (o6_1 : Int) (o6_2_1 : Int) (o6_2_2_1 : List (Int × (Int × Int × Unit) × Bool × Unit)) (o11_1 : Int) (o11_2_1 : Int) (o11_2_2_1 : List (Int × (Int × Int × Unit) × Bool × Unit)) (o1000012 : List Int) : St := St.mk [(6, AV.ptr 6 []), (11, AV.ptr 11 []), (12, AV.at_ 1000012 [])] [(6, Ent.var (Ty.pair (Ty.int IntKind.i64) (Ty.pair (Ty.int IntKind.i64) (Ty.pair (Ty.slc true (Ty.pair (Ty.int IntKind.i64) (Ty.pair PairT (Ty.pair Ty.bool Ty.unit)))) Ty.unit))) (o6_1, o6_2_1, o6_2_2_1, ())), (11, Ent.var (Ty.pair (Ty.int IntKind.i64) (Ty.pair (Ty.int IntKind.i64) (Ty.pair (Ty.slc true (Ty.pair (Ty.int IntKind.i64) (Ty.pair PairT (Ty.pair Ty.bool Ty.unit)))) Ty.unit))) (o11_1, o11_2_1, o11_2_2_1, ())), (1000012, Ent.own Is o1000012)]
theorem Efix_l15 (o6_1 : Int) (o6_2_1 : Int) (o6_2_2_1 : List (Int × (Int × Int × Unit) × Bool × Unit)) (o11_1 : Int) (o11_2_1 : Int) (o11_2_2_1 : List (Int × (Int × Int × Unit) × Bool × Unit)) (o1000012 : List Int) : exec Efix 1000 (.code (loopAt (bodyOf Try.prog 35) 15).1 :: .inLoop (loopAt (bodyOf Try.prog 35) 15).1 :: (loopAt (bodyOf Try.prog 35) 15).2) (Efix_s15 o6_1 o6_2_1 o6_2_2_1 o11_1 o11_2_1 o11_2_2_1 o1000012) =
  cond (decide ((0 : Int) < (↑(List.length o11_2_2_1) : Int))) (.need ((0 : Int) ≤ (0 : Int) ∧ (0 : Int) < (↑(List.length o11_2_2_1) : Int)) (cond (Prod.fst (Prod.snd (Prod.snd (List.getD o11_2_2_1 (Int.toNat (0 : Int)) ((0 : Int), ((0 : Int), (0 : Int), ()), false, ()))))) (.need ((0 : Int) ≤ (0 : Int) ∧ (0 : Int) < (↑(List.length o11_2_2_1) : Int)) (.need (List.length o1000012 + List.length (List.set [(0 : Int)] (Int.toNat (↑0 : Int)) (Prod.fst (List.getD o11_2_2_1 (Int.toNat (0 : Int)) ((0 : Int), ((0 : Int), (0 : Int), ()), false, ())))) ≤ 140737488355328 ∧ (List.length o1000012 + List.length (List.set [(0 : Int)] (Int.toNat (↑0 : Int)) (Prod.fst (List.getD o11_2_2_1 (Int.toNat (0 : Int)) ((0 : Int), ((0 : Int), (0 : Int), ()), false, ()))))) * Ty.wb (Ty.int IntKind.i64) ≤ 140737488355328) (.need ((0 : Int) ≤ (1 : Int) ∧ (1 : Int) ≤ (↑(List.length o11_2_2_1) : Int) ∧ (↑(List.length o11_2_2_1) : Int) ≤ (↑(List.length o11_2_2_1) : Int)) (.need ([] ++ [Step.fld 2] = [] ++ [Step.fld 2] ∧ True) (.cut (loopAt (bodyOf Try.prog 35) 15).1 (loopAt (bodyOf Try.prog 35) 15).2 (St.mk [(6, AV.ptr 6 []), (11, AV.ptr 11 []), (12, AV.at_ 1000012 [])] [(6, Ent.var (Ty.pair (Ty.int IntKind.i64) (Ty.pair (Ty.int IntKind.i64) (Ty.pair (Ty.slc true (Ty.pair (Ty.int IntKind.i64) (Ty.pair PairT (Ty.pair Ty.bool Ty.unit)))) Ty.unit))) (o6_1, o6_2_1, o6_2_2_1, ())), (11, Ent.var (Ty.pair (Ty.int IntKind.i64) (Ty.pair (Ty.int IntKind.i64) (Ty.pair (Ty.slc true (Ty.pair (Ty.int IntKind.i64) (Ty.pair PairT (Ty.pair Ty.bool Ty.unit)))) Ty.unit))) (o11_1, o11_2_1, cut2 (1 : Int) (↑(List.length o11_2_2_1) : Int) o11_2_2_1, ())), (1000012, Ent.own Is (o1000012 ++ List.set [(0 : Int)] (Int.toNat (↑0 : Int)) (Prod.fst (List.getD o11_2_2_1 (Int.toNat (0 : Int)) ((0 : Int), ((0 : Int), (0 : Int), ()), false, ())))))])))))) (.need (List.length o11_2_2_1 ≤ 1048576) (.ret (((o11_1, o11_2_1, o11_2_2_1, ()), o1000012, (0 : Int), ())))))) (.need (List.length o11_2_2_1 ≤ 1048576) (.ret (((o11_1, o11_2_1, o11_2_2_1, ()), o1000012, (0 : Int), ())))) := by kernel_rfl
theorem fixF_at (me clk : Int) (ws : List WaitD) (id : Int) (n : NumD) : fixF (me, clk, ws, ()) id n = if checkE (me, clk, ws, ()) ≠ 0 then (noS, [], checkE (me, clk, ws, ()), ()) else if inF n.1 1 16777215 = false then (noS, [], 1, ()) else if inF n.2.1 0 5 = false then (noS, [], 1, ())
  else if idxOf (openId id) ws < 0 then (noS, [], 6, ()) else if ncmp n (ws.getD (idxOf (openId id) ws).toNat dW).2.1 < 0 then (noS, [], 10, ()) else if ws.any (taken id n) = true then (noS, [], 10, ())
  else ((me, if clk < n.1 then n.1 else clk, (fixL ws id n).dropWhile fixedW, ()), ((fixL ws id n).takeWhile fixedW).map (·.1), 0, ()) := rfl
theorem cut2_one {α : Type} (w : α) (l : List α) : cut2 1 ((w :: l).length : Int) (w :: l) = l := by simp [cut2]
theorem cfix_valid : cfix.Valid Try.prog 35 := by
  refine Ctr.valid_of Efix_ok rfl rfl Try.func35 (c := bodyOf Try.prog 35) rfl rfl Ffix_ok rfl ?_
  rintro ⟨⟨(me : Int), (clk : Int), (ws : List WaitD), ⟨⟩⟩, (id : Int), ⟨(a : Int), (b : Int), ⟨⟩⟩, ⟨⟩⟩ - -
  refine exec_sound (n := 1000) Efix_ok Ffix_ok ?_
  refine holds_of_eq (Efix_t me clk ws id a b) ?_
  have nf : ∀ {b : Bool}, b = true → ¬ b = false := fun {b} h => by rw [h]; simp
  have nt : ∀ {b : Bool}, b = false → ¬ b = true := fun {b} h => by rw [h]; simp
  simp only [holds_cond, Tree.holds, true_and, true_implies, decide_eq_true_eq, decide_eq_false_iff_not, Bool.not_eq_true', Bool.not_eq_false', Int.toNat_natCast, inK_i64, List.length_set, List.length_cons, List.length_nil]
  refine ⟨fun c0 => ?_, fun c0 => ⟨fun c1 => ?_, fun c1 => ⟨fun c2 => ?_, fun c2 => ⟨fun c3 => ?_, fun c3 => ?_⟩⟩⟩⟩
  · show ((noS, [], checkE (me, clk, ws, ()), ()) : SkD × List Int × Int × Unit) = fixF (me, clk, ws, ()) id (a, b, ())
    rw [fixF_at, if_pos c0]
  · show ((noS, [], 1, ()) : SkD × List Int × Int × Unit) = fixF (me, clk, ws, ()) id (a, b, ())
    rw [fixF_at, if_neg c0, if_pos c1]
  · show ((noS, [], 1, ()) : SkD × List Int × Int × Unit) = fixF (me, clk, ws, ()) id (a, b, ())
    rw [fixF_at, if_neg c0, if_neg (nf c1), if_pos c2]
  · show ((noS, [], 6, ()) : SkD × List Int × Int × Unit) = fixF (me, clk, ws, ()) id (a, b, ())
    rw [fixF_at, if_neg c0, if_neg (nf c1), if_neg (nf c2), if_pos c3]
  have hok := checkE_ok.1 (Decidable.not_not.1 c0)
  have k2 : ws.length ≤ 40 := hok.len
  have hk1 := (openK c3).1
  refine ⟨⟨by omega, by omega⟩, fun hk => ⟨fun c4 => ?_, fun c4 => ⟨fun c5 => ?_, fun c5 => ⟨by omega, fun _ => ⟨hk, fun _ => ⟨hk, fun _ => ?_⟩⟩⟩⟩⟩⟩
  · show ((noS, [], 10, ()) : SkD × List Int × Int × Unit) = fixF (me, clk, ws, ()) id (a, b, ())
    rw [fixF_at, if_neg c0, if_neg (nf c1), if_neg (nf c2), if_neg c3, if_pos c4]
  · show ((noS, [], 10, ()) : SkD × List Int × Int × Unit) = fixF (me, clk, ws, ()) id (a, b, ())
    rw [fixF_at, if_neg c0, if_neg (nf c1), if_neg (nf c2), if_neg c3, if_neg c4, if_pos c5]
  rw [set2 hk1]
  refine ⟨⟨by omega, fun _ _ => trivial, fix_tie hok c3 c5⟩, fun _ => ?_⟩
  have hfin : fixF (me, clk, ws, ()) id (a, b, ()) = ((me, if clk < a then a else clk, (fixL ws id (a, b, ())).dropWhile fixedW, ()), ((fixL ws id (a, b, ())).takeWhile fixedW).map (·.1), 0, ()) := by
    rw [fixF_at, if_neg c0, if_neg (nf c1), if_neg (nf c2), if_neg c3, if_neg c4, if_neg (nt c5)]
  have hlen : (fixL ws id (a, b, ())).length ≤ 40 := by
    rw [fixL, (sortBy_perm _ _).length_eq, List.length_set]; exact k2
  show Go.Ex.Reach Efix Try.f35 (fixF (me, clk, ws, ()) id (a, b, ())) () (.code (loopAt (bodyOf Try.prog 35) 15).1 :: .inLoop (loopAt (bodyOf Try.prog 35) 15).1 :: (loopAt (bodyOf Try.prog 35) 15).2) ((Efix_s15 0 0 [] me (if clk < a then a else clk) (fixL ws id (a, b, ())) []))
  generalize (if clk < a then a else clk) = clk' at *
  generalize fixL ws id (a, b, ()) = L at *
  refine Reach.loopI Efix_ok Ffix_ok (fun x : List WaitD × List Int => Efix_s15 0 0 [] me clk' x.1 x.2) (fun x => x.1.dropWhile fixedW = L.dropWhile fixedW ∧ x.2 ++ (x.1.takeWhile fixedW).map (·.1) = (L.takeWhile fixedW).map (·.1) ∧ x.1.length + x.2.length ≤ 40) (fun x => x.1.length) 1000 (fun _ => ⟨uniq_of rfl, uniq_of rfl⟩) ?_ (L, []) ⟨rfl, rfl, by simpa using hlen⟩
  rintro ⟨l, ids⟩ ⟨(j1 : l.dropWhile fixedW = _), (j2 : ids ++ (l.takeWhile fixedW).map (·.1) = _), (j3 : l.length + ids.length ≤ 40)⟩ - ih
  refine holds_of_eq (Efix_l15 ..) ?_
  simp only [holds_cond, Tree.holds, true_and, true_implies, decide_eq_true_eq, decide_eq_false_iff_not, Bool.not_eq_true', Bool.not_eq_false', Int.toNat_natCast, inK_i64, List.length_set, List.length_cons, List.length_nil]
  rw [wb_i64]
  cases l with
  | nil =>
    refine ⟨fun h => absurd h (by simp), fun _ => ⟨by simp, fun _ => ?_⟩⟩
    show (((me, clk', [], ()), ids, 0, ()) : SkD × List Int × Int × Unit) = fixF (me, clk, ws, ()) id (a, b, ())
    rw [hfin, ← j1, ← j2]
    simp
  | cons w l =>
    have j3 : l.length + 1 + ids.length ≤ 40 := j3
    refine ⟨fun _ => ⟨⟨by omega, by simp⟩, fun _ => ⟨fun hf => ?_, fun hf => ?_⟩⟩, fun h => absurd (show (0 : Int) < ((w :: l).length : Int) by simp) h⟩
    · have hf : fixedW w = true := hf
      refine ⟨⟨by omega, by simp⟩, fun _ => ⟨by omega, fun _ => ⟨⟨by omega, by simp; omega, by omega⟩, fun _ => ?_⟩⟩⟩
      rw [cut2_one]
      refine ih (l, ids ++ [w.1]) ⟨?_, ?_, ?_⟩ ?_
      · rw [← j1, List.dropWhile_cons, if_pos hf]
      · rw [← j2, List.takeWhile_cons, if_pos hf]; simp
      · show l.length + (ids ++ [w.1]).length ≤ 40
        rw [List.length_append, List.length_singleton]; omega
      · show l.length < (w :: l).length
        simp
    · have hf : fixedW w = false := hf
      refine ⟨by show l.length + 1 ≤ 1048576; omega, fun _ => ?_⟩
      show (((me, clk', w :: l, ()), ids, 0, ()) : SkD × List Int × Int × Unit) = fixF (me, clk, ws, ()) id (a, b, ())
      rw [hfin, ← j1, ← j2, List.dropWhile_cons, if_neg (nt hf), List.takeWhile_cons, if_neg (nt hf)]
      simp
/-- what an offer yields -/
theorem offer_facts (me clk : Int) (ws : List WaitD) (id : Int) : (SkOk (me, clk, ws, ()) ∧ 0 ≤ id ∧ ws.any (sameId id) = false ∧ offerF (me, clk, ws, ()) id = ((me, clk + 1, ws ++ [(id, (clk + 1, me, ()), false, ())], ()), (clk + 1, me, ()), 0, ()) ∧ SkOk (me, clk + 1, ws ++ [(id, (clk + 1, me, ()), false, ())], ())) ∨
    ∃ e, e ≠ 0 ∧ offerF (me, clk, ws, ()) id = (noS, noN, e, ()) := by
  rw [offerF_at]
  split
  · rename_i h; exact .inr ⟨_, h, rfl⟩
  · rename_i c0
    have hok := checkE_ok.1 (Decidable.not_not.1 c0)
    split
    · exact .inr ⟨1, by decide, rfl⟩
    · rename_i c1
      split
      · exact .inr ⟨7, by decide, rfl⟩
      · rename_i c2
        split
        · exact .inr ⟨8, by decide, rfl⟩
        · rename_i c3
          split
          · exact .inr ⟨8, by decide, rfl⟩
          · rename_i c4
            have c2 : ws.any (sameId id) = false := by simpa using c2
            exact .inl ⟨hok, by omega, c2, rfl, offer_ok hok (by omega) c2 c3 c4⟩
/-- what a fixing yields -/
theorem fix_facts (me clk : Int) (ws : List WaitD) (id : Int) (n : NumD) : (SkOk (me, clk, ws, ()) ∧ (1 ≤ n.1 ∧ n.1 ≤ 16777215) ∧ (0 ≤ n.2.1 ∧ n.2.1 ≤ 5) ∧ ¬ idxOf (openId id) ws < 0 ∧ ¬ ncmp n (ws.getD (idxOf (openId id) ws).toNat dW).2.1 < 0 ∧ ws.any (taken id n) = false ∧
      fixF (me, clk, ws, ()) id n = ((me, if clk < n.1 then n.1 else clk, (fixL ws id n).dropWhile fixedW, ()), ((fixL ws id n).takeWhile fixedW).map (·.1), 0, ())) ∨
    ∃ e, e ≠ 0 ∧ fixF (me, clk, ws, ()) id n = (noS, [], e, ()) := by
  rw [fixF_at]
  split
  · rename_i h; exact .inr ⟨_, h, rfl⟩
  · rename_i c0
    have hok := checkE_ok.1 (Decidable.not_not.1 c0)
    split
    · exact .inr ⟨1, by decide, rfl⟩
    · rename_i c1
      split
      · exact .inr ⟨1, by decide, rfl⟩
      · rename_i c2
        split
        · exact .inr ⟨6, by decide, rfl⟩
        · rename_i c3
          split
          · exact .inr ⟨10, by decide, rfl⟩
          · rename_i c4
            split
            · exact .inr ⟨10, by decide, rfl⟩
            · rename_i c5
              exact .inl ⟨hok, inF_iff.1 (by simpa using c1), inF_iff.1 (by simpa using c2), c3, c4, by simpa using c5, rfl⟩
theorem fix_len {me clk : Int} {ws : List WaitD} {id : Int} {n : NumD} : ((fixL ws id n).dropWhile fixedW).length + (((fixL ws id n).takeWhile fixedW).map (·.1)).length = ws.length := by
  rw [List.length_map, Nat.add_comm, ← List.length_append, List.takeWhile_append_dropWhile, fixL, (sortBy_perm _ _).length_eq, List.length_set]
end Go.Proofs.Ytdhdpklmipkneaa
