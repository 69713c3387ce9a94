/- turn.pass and what it calls. No condition but those named. -/
import Derived.Test.YtbcdpeogfghgcaaTurn
import Derived.Test.YtbcdpeogfghgcaaListD
namespace Go.Proofs.Ytbcdpeogfghgcaa
open Go.Ex
set_option maxRecDepth 100000
abbrev TurnB := Option TurnD
def tz : TurnD := (0, 0, [], [], [], ())
def isT (o : TurnB) : Prop := o.isSome = true
def inLog (o : TurnB) (n : Int) : Bool := decide (n ∈ (o.getD tz).2.2.2.1)
def cinLog : Ctr := { ps := [.v I64, .rd BoxTH], rs := [.bool], pre := fun x => isT x.2.1, fn := fun x => (inLog x.2.1 x.1, ()), out := fun _ => () }
noncomputable def EinLog : Env := { P := Try.prog, tt := tt, ctr := [(21, ccontI)], res := [Go.ResultVar.tmp 3], rs := [Ty.bool], ps := [PK.v (Ty.int IntKind.i64), PK.rd (Ty.box false (Ty.pair (Ty.int IntKind.i64) (Ty.pair (Ty.int IntKind.i64) (Ty.pair (Ty.hole Is) (Ty.pair (Ty.slc false (Ty.int IntKind.i64)) (Ty.pair (Ty.slc false (Ty.int IntKind.i64)) Ty.unit))))))], cuts := [], nt := 10 }
theorem EinLog_ok : EnvOk EinLog := envOk tt_ok ⟨ccontI_valid, trivial⟩
theorem FinLog_ok : FnOk EinLog Try.f125 := ⟨rfl, rfl⟩
theorem EinLog_t (x0 : Int) (x1_b_1 : Int) (x1_b_2_1 : Int) (x1_b_2_2_1 : List (List Int)) (x1_b_2_2_2_1 : List Int) (x1_b_2_2_2_2_1 : List Int) : exec EinLog 1000 [.code (bodyOf Try.prog 125)] (initSt cinLog.ps ((x0, some (x1_b_1, x1_b_2_1, x1_b_2_2_1, x1_b_2_2_2_1, x1_b_2_2_2_2_1, ()), ()))) =
  .need (Option.isSome (some (x1_b_1, x1_b_2_1, x1_b_2_2_1, x1_b_2_2_2_1, x1_b_2_2_2_2_1, ())) = true) (.need (True) (.ret ((decide (x0 ∈ Prod.fst (Prod.snd (Prod.snd (Prod.snd (Option.getD (some (x1_b_1, x1_b_2_1, x1_b_2_2_1, x1_b_2_2_2_1, x1_b_2_2_2_2_1, ())) ((0 : Int), (0 : Int), [], [], [], ())))))), ())))) := by kernel_rfl
theorem cinLog_valid : cinLog.Valid Try.prog 125 := by
  refine Ctr.valid_of EinLog_ok rfl rfl Try.func125 (c := bodyOf Try.prog 125) rfl rfl FinLog_ok rfl ?_
  rintro ⟨(n : Int), (o : TurnB), ⟨⟩⟩ (ho : o.isSome = true) -
  obtain ⟨⟨a, b, c, d, e, ⟨⟩⟩, rfl⟩ := Option.isSome_iff_exists.1 ho
  refine exec_sound (n := 1000) EinLog_ok FinLog_ok ?_
  refine holds_of_eq (EinLog_t n a b c d e) ?_
  exact ⟨rfl, fun _ => ⟨trivial, fun _ => rfl⟩⟩
def out1 (o : TurnB) (l : List Int) : List Int := l.filter (fun n => !(inLog o) n)
def cidxL : Ctr := { ps := [.v (.slc false I64), .clo 125 [BoxTH]], rs := [I64], pre := fun x => isT x.2.1.1, fn := fun x => (idxOf (inLog x.2.1.1) x.1, ()), out := fun _ => () }
noncomputable def EidxL : Env := { P := Try.prog, tt := tt, ctr := [(125, cinLog)], res := [Go.ResultVar.tmp 4], rs := [Ty.int IntKind.i64], ps := [PK.v (Ty.slc false (Ty.int IntKind.i64)), PK.clo 125 [Ty.box false (Ty.pair (Ty.int IntKind.i64) (Ty.pair (Ty.int IntKind.i64) (Ty.pair (Ty.hole Is) (Ty.pair (Ty.slc false (Ty.int IntKind.i64)) (Ty.pair (Ty.slc false (Ty.int IntKind.i64)) Ty.unit)))))]], cuts := [(2, [(0, none), (1, none), (7, none), (8, none)])], nt := 19 }
theorem EidxL_ok : EnvOk EidxL := envOk tt_ok ⟨cinLog_valid, trivial⟩
theorem FidxL_ok : FnOk EidxL Try.f123 := ⟨rfl, rfl⟩
theorem EidxL_t (x0 : List Int) (x1c0_b_1 : Int) (x1c0_b_2_1 : Int) (x1c0_b_2_2_1 : List (List Int)) (x1c0_b_2_2_2_1 : List Int) (x1c0_b_2_2_2_2_1 : List Int) : exec EidxL 1000 [.code (bodyOf Try.prog 123)] (initSt cidxL.ps ((x0, (some (x1c0_b_1, x1c0_b_2_1, x1c0_b_2_2_1, x1c0_b_2_2_2_1, x1c0_b_2_2_2_2_1, ()), ()), ()))) =
  .cut (loopAt (bodyOf Try.prog 123) 2).1 (loopAt (bodyOf Try.prog 123) 2).2 (St.mk [(0, AV.val (Ty.slc false (Ty.int IntKind.i64)) x0), (1, AV.clo 125 (AV.cons (AV.rptr (Ty.box false (Ty.pair (Ty.int IntKind.i64) (Ty.pair (Ty.int IntKind.i64) (Ty.pair (Ty.hole Is) (Ty.pair (Ty.slc false (Ty.int IntKind.i64)) (Ty.pair (Ty.slc false (Ty.int IntKind.i64)) Ty.unit)))))) (some (x1c0_b_1, x1c0_b_2_1, x1c0_b_2_2_1, x1c0_b_2_2_2_1, x1c0_b_2_2_2_2_1, ()))) AV.nil)), (7, AV.val (Ty.int IntKind.i64) (↑(List.length x0) : Int)), (8, AV.val (Ty.int IntKind.i64) (0 : Int))] []) := by kernel_rfl
def EidxL_s2 (v0 : List Int) (v1a_b_1 : Int) (v1a_b_2_1 : Int) (v1a_b_2_2_1 : List (List Int)) (v1a_b_2_2_2_1 : List Int) (v1a_b_2_2_2_2_1 : List Int) (v7 : Int) (v8 : Int) : St := St.mk [(0, AV.val (Ty.slc false (Ty.int IntKind.i64)) v0), (1, AV.clo 125 (AV.cons (AV.rptr (Ty.box false (Ty.pair (Ty.int IntKind.i64) (Ty.pair (Ty.int IntKind.i64) (Ty.pair (Ty.hole Is) (Ty.pair (Ty.slc false (Ty.int IntKind.i64)) (Ty.pair (Ty.slc false (Ty.int IntKind.i64)) Ty.unit)))))) (some (v1a_b_1, v1a_b_2_1, v1a_b_2_2_1, v1a_b_2_2_2_1, v1a_b_2_2_2_2_1, ()))) AV.nil)), (7, AV.val (Ty.int IntKind.i64) v7), (8, AV.val (Ty.int IntKind.i64) v8)] []
theorem EidxL_l2 (v0 : List Int) (v1a_b_1 : Int) (v1a_b_2_1 : Int) (v1a_b_2_2_1 : List (List Int)) (v1a_b_2_2_2_1 : List Int) (v1a_b_2_2_2_2_1 : List Int) (v7 : Int) (v8 : Int) : exec EidxL 1000 (.code (loopAt (bodyOf Try.prog 123) 2).1 :: .inLoop (loopAt (bodyOf Try.prog 123) 2).1 :: (loopAt (bodyOf Try.prog 123) 2).2) (EidxL_s2 v0 v1a_b_1 v1a_b_2_1 v1a_b_2_2_1 v1a_b_2_2_2_1 v1a_b_2_2_2_2_1 v7 v8) =
  cond (decide (v8 < v7)) (.need ((0 : Int) ≤ v8 ∧ v8 < (↑(List.length v0) : Int)) (.need (isT (some (v1a_b_1, v1a_b_2_1, v1a_b_2_2_1, v1a_b_2_2_2_1, v1a_b_2_2_2_2_1, ()))) (cond (inLog (some (v1a_b_1, v1a_b_2_1, v1a_b_2_2_1, v1a_b_2_2_2_1, v1a_b_2_2_2_2_1, ())) (List.getD v0 (Int.toNat v8) (0 : Int))) (.ret ((v8, ()))) (.need (inK IntKind.i64 (v8 + (1 : Int))) (.cut (loopAt (bodyOf Try.prog 123) 2).1 (loopAt (bodyOf Try.prog 123) 2).2 (St.mk [(0, AV.val (Ty.slc false (Ty.int IntKind.i64)) v0), (1, AV.clo 125 (AV.cons (AV.rptr (Ty.box false (Ty.pair (Ty.int IntKind.i64) (Ty.pair (Ty.int IntKind.i64) (Ty.pair (Ty.hole Is) (Ty.pair (Ty.slc false (Ty.int IntKind.i64)) (Ty.pair (Ty.slc false (Ty.int IntKind.i64)) Ty.unit)))))) (some (v1a_b_1, v1a_b_2_1, v1a_b_2_2_1, v1a_b_2_2_2_1, v1a_b_2_2_2_2_1, ()))) AV.nil)), (7, AV.val (Ty.int IntKind.i64) v7), (8, AV.val (Ty.int IntKind.i64) (v8 + (1 : Int)))] [])))))) (.ret (((-1 : Int), ()))) := by kernel_rfl
theorem cidxL_valid : cidxL.Valid Try.prog 123 := by
  refine Ctr.valid_of EidxL_ok rfl rfl Try.func123 (c := bodyOf Try.prog 123) rfl rfl FidxL_ok rfl ?_
  rintro ⟨(l : List (Int)), ⟨(o : TurnB), ⟨⟩⟩, ⟨⟩⟩ hp ⟨⟨hl, -⟩, -⟩
  have hl : l.length ≤ 9223372036854775807 := hl
  obtain ⟨⟨q0, q1, q2, q3, q4, ⟨⟩⟩, rfl⟩ := Option.isSome_iff_exists.1 hp
  have hp : isT (some (q0, q1, q2, q3, q4, ())) := hp
  refine exec_sound (n := 1000) EidxL_ok FidxL_ok ?_
  refine holds_of_eq (EidxL_t l q0 q1 q2 q3 q4) ?_
  refine Reach.loopI EidxL_ok FidxL_ok (fun i : Nat => EidxL_s2 l q0 q1 q2 q3 q4 (l.length : Int) (i : Int)) (fun i => i ≤ l.length ∧ idxOf (inLog (some (q0, q1, q2, q3, q4, ()))) l = idxGo (inLog (some (q0, q1, q2, q3, q4, ()))) (l.drop i) i)
    (fun i => l.length - i) 1000 (fun _ => ⟨uniq_of rfl, uniq_of rfl⟩) ?_ 0 ⟨by omega, rfl⟩
  rintro i ⟨k1, k2⟩ - ih
  refine holds_of_eq (EidxL_l2 ..) ?_
  simp only [holds_cond, Tree.holds, true_and, true_implies, decide_eq_true_eq, decide_eq_false_iff_not, Bool.not_eq_true', Bool.not_eq_false', Int.toNat_natCast, inK_i64, List.length_set, List.length_cons, List.length_nil]
  refine ⟨fun h => ?_, fun h => ?_⟩
  · rw [drop_getD (show i < l.length by omega) 0, idxGo] at k2
    refine ⟨by omega, fun _ => ⟨hp, fun _ => ⟨fun c => ?_, fun c => ⟨by omega, fun _ => ih (i + 1) ⟨by omega, ?_⟩ (by omega)⟩⟩⟩⟩
    · show (((i : Int), ()) : Int × Unit) = (idxOf (inLog (some (q0, q1, q2, q3, q4, ()))) l, ())
      rw [k2, if_pos c]
    · rw [k2, if_neg (fun h9 => Bool.noConfusion (Eq.trans (Eq.symm h9) c))]
  · rw [List.drop_eq_nil_of_le (by omega)] at k2
    show (((-1 : Int), ()) : Int × Unit) = (idxOf (inLog (some (q0, q1, q2, q3, q4, ()))) l, ())
    rw [k2]; rfl
def cdelF : Ctr := { ps := [.own (.slc true I64), .clo 125 [BoxTH]], rs := [.slc true I64], pre := fun x => isT x.2.1.1, fn := fun x => (List.filter (α := Int) (fun y => !(inLog x.2.1.1) y) x.1, ()), out := fun _ => () }
noncomputable def EdelF : Env := { P := Try.prog, tt := tt, ctr := [(123, cidxL), (125, cinLog)], res := [Go.ResultVar.tmp 4], rs := [Ty.slc true (Ty.int IntKind.i64)], ps := [PK.own Is, PK.clo 125 [Ty.box false (Ty.pair (Ty.int IntKind.i64) (Ty.pair (Ty.int IntKind.i64) (Ty.pair (Ty.hole Is) (Ty.pair (Ty.slc false (Ty.int IntKind.i64)) (Ty.pair (Ty.slc false (Ty.int IntKind.i64)) Ty.unit)))))]], cuts := [(5, [(0, some Is), (1, none), (5, none), (6, none)])], nt := 42 }
theorem EdelF_ok : EnvOk EdelF := envOk tt_ok ⟨cidxL_valid, cinLog_valid, trivial⟩
theorem FdelF_ok : FnOk EdelF Try.f138 := ⟨rfl, rfl⟩
theorem EdelF_t (x0 : List Int) (x1c0_b_1 : Int) (x1c0_b_2_1 : Int) (x1c0_b_2_2_1 : List (List Int)) (x1c0_b_2_2_2_1 : List Int) (x1c0_b_2_2_2_2_1 : List Int) : exec EdelF 1000 [.code (bodyOf Try.prog 138)] (initSt cdelF.ps ((x0, (some (x1c0_b_1, x1c0_b_2_1, x1c0_b_2_2_1, x1c0_b_2_2_2_1, x1c0_b_2_2_2_2_1, ()), ()), ()))) =
  .need (isT (some (x1c0_b_1, x1c0_b_2_1, x1c0_b_2_2_1, x1c0_b_2_2_2_1, x1c0_b_2_2_2_2_1, ()))) (cond (decide (idxOf (inLog (some (x1c0_b_1, x1c0_b_2_1, x1c0_b_2_2_1, x1c0_b_2_2_2_1, x1c0_b_2_2_2_2_1, ()))) x0 = (-1 : Int))) (.ret ((x0, ()))) (.need (inK IntKind.i64 (idxOf (inLog (some (x1c0_b_1, x1c0_b_2_1, x1c0_b_2_2_1, x1c0_b_2_2_2_1, x1c0_b_2_2_2_2_1, ()))) x0 + (1 : Int))) (.cut (loopAt (bodyOf Try.prog 138) 5).1 (loopAt (bodyOf Try.prog 138) 5).2 (St.mk [(0, AV.at_ 1000000 []), (1, AV.clo 125 (AV.cons (AV.rptr (Ty.box false (Ty.pair (Ty.int IntKind.i64) (Ty.pair (Ty.int IntKind.i64) (Ty.pair (Ty.hole Is) (Ty.pair (Ty.slc false (Ty.int IntKind.i64)) (Ty.pair (Ty.slc false (Ty.int IntKind.i64)) Ty.unit)))))) (some (x1c0_b_1, x1c0_b_2_1, x1c0_b_2_2_1, x1c0_b_2_2_2_1, x1c0_b_2_2_2_2_1, ()))) AV.nil)), (5, AV.val (Ty.int IntKind.i64) (idxOf (inLog (some (x1c0_b_1, x1c0_b_2_1, x1c0_b_2_2_1, x1c0_b_2_2_2_1, x1c0_b_2_2_2_2_1, ()))) x0)), (6, AV.val (Ty.int IntKind.i64) (idxOf (inLog (some (x1c0_b_1, x1c0_b_2_1, x1c0_b_2_2_1, x1c0_b_2_2_2_1, x1c0_b_2_2_2_2_1, ()))) x0 + (1 : Int)))] [(1000000, Ent.own Is x0)])))) := by kernel_rfl
def EdelF_s5 (v1a_b_1 : Int) (v1a_b_2_1 : Int) (v1a_b_2_2_1 : List (List Int)) (v1a_b_2_2_2_1 : List Int) (v1a_b_2_2_2_2_1 : List Int) (v5 : Int) (v6 : Int) (o1000000 : List Int) : St := St.mk [(0, AV.at_ 1000000 []), (1, AV.clo 125 (AV.cons (AV.rptr (Ty.box false (Ty.pair (Ty.int IntKind.i64) (Ty.pair (Ty.int IntKind.i64) (Ty.pair (Ty.hole Is) (Ty.pair (Ty.slc false (Ty.int IntKind.i64)) (Ty.pair (Ty.slc false (Ty.int IntKind.i64)) Ty.unit)))))) (some (v1a_b_1, v1a_b_2_1, v1a_b_2_2_1, v1a_b_2_2_2_1, v1a_b_2_2_2_2_1, ()))) AV.nil)), (5, AV.val (Ty.int IntKind.i64) v5), (6, AV.val (Ty.int IntKind.i64) v6)] [(1000000, Ent.own Is o1000000)]
theorem EdelF_l5 (v1a_b_1 : Int) (v1a_b_2_1 : Int) (v1a_b_2_2_1 : List (List Int)) (v1a_b_2_2_2_1 : List Int) (v1a_b_2_2_2_2_1 : List Int) (v5 : Int) (v6 : Int) (o1000000 : List Int) : exec EdelF 1000 (.code (loopAt (bodyOf Try.prog 138) 5).1 :: .inLoop (loopAt (bodyOf Try.prog 138) 5).1 :: (loopAt (bodyOf Try.prog 138) 5).2) (EdelF_s5 v1a_b_1 v1a_b_2_1 v1a_b_2_2_1 v1a_b_2_2_2_1 v1a_b_2_2_2_2_1 v5 v6 o1000000) =
  cond (decide (v6 < (↑(List.length o1000000) : Int))) (.need ((0 : Int) ≤ v6 ∧ v6 < (↑(List.length o1000000) : Int)) (.need (isT (some (v1a_b_1, v1a_b_2_1, v1a_b_2_2_1, v1a_b_2_2_2_1, v1a_b_2_2_2_2_1, ()))) (cond (!inLog (some (v1a_b_1, v1a_b_2_1, v1a_b_2_2_1, v1a_b_2_2_2_1, v1a_b_2_2_2_2_1, ())) (List.getD o1000000 (Int.toNat v6) (0 : Int))) (.need ((0 : Int) ≤ v5 ∧ v5 < (↑(List.length o1000000) : Int)) (.need (inK IntKind.i64 (v5 + (1 : Int))) (.need (inK IntKind.i64 (v6 + (1 : Int))) (.cut (loopAt (bodyOf Try.prog 138) 5).1 (loopAt (bodyOf Try.prog 138) 5).2 (St.mk [(0, AV.at_ 1000000 []), (1, AV.clo 125 (AV.cons (AV.rptr (Ty.box false (Ty.pair (Ty.int IntKind.i64) (Ty.pair (Ty.int IntKind.i64) (Ty.pair (Ty.hole Is) (Ty.pair (Ty.slc false (Ty.int IntKind.i64)) (Ty.pair (Ty.slc false (Ty.int IntKind.i64)) Ty.unit)))))) (some (v1a_b_1, v1a_b_2_1, v1a_b_2_2_1, v1a_b_2_2_2_1, v1a_b_2_2_2_2_1, ()))) AV.nil)), (5, AV.val (Ty.int IntKind.i64) (v5 + (1 : Int))), (6, AV.val (Ty.int IntKind.i64) (v6 + (1 : Int)))] [(1000000, Ent.own Is (List.set o1000000 (Int.toNat v5) (List.getD o1000000 (Int.toNat v6) (0 : Int))))]))))) (.need (inK IntKind.i64 (v6 + (1 : Int))) (.cut (loopAt (bodyOf Try.prog 138) 5).1 (loopAt (bodyOf Try.prog 138) 5).2 (St.mk [(0, AV.at_ 1000000 []), (1, AV.clo 125 (AV.cons (AV.rptr (Ty.box false (Ty.pair (Ty.int IntKind.i64) (Ty.pair (Ty.int IntKind.i64) (Ty.pair (Ty.hole Is) (Ty.pair (Ty.slc false (Ty.int IntKind.i64)) (Ty.pair (Ty.slc false (Ty.int IntKind.i64)) Ty.unit)))))) (some (v1a_b_1, v1a_b_2_1, v1a_b_2_2_1, v1a_b_2_2_2_1, v1a_b_2_2_2_2_1, ()))) AV.nil)), (5, AV.val (Ty.int IntKind.i64) v5), (6, AV.val (Ty.int IntKind.i64) (v6 + (1 : Int)))] [(1000000, Ent.own Is o1000000)])))))) (.need ((0 : Int) ≤ v5 ∧ v5 ≤ (↑(List.length o1000000) : Int) ∧ (↑(List.length o1000000) : Int) ≤ (↑(List.length o1000000) : Int)) (.need ((0 : Int) ≤ (0 : Int) ∧ (0 : Int) ≤ v5 ∧ v5 ≤ (↑(List.length (List.take (Int.toNat v5) o1000000 ++ List.replicate (Int.toNat ((↑(List.length o1000000) : Int) - v5)) (0 : Int) ++ List.drop (Int.toNat v5 + List.length (List.replicate (Int.toNat ((↑(List.length o1000000) : Int) - v5)) (0 : Int))) o1000000)) : Int)) (.ret ((cut2 (0 : Int) v5 (List.take (Int.toNat v5) o1000000 ++ List.replicate (Int.toNat ((↑(List.length o1000000) : Int) - v5)) (0 : Int) ++ List.drop (Int.toNat v5 + List.length (List.replicate (Int.toNat ((↑(List.length o1000000) : Int) - v5)) (0 : Int))) o1000000), ()))))) := by kernel_rfl
theorem cdelF_valid : cdelF.Valid Try.prog 138 := by
  refine Ctr.valid_of EdelF_ok rfl rfl Try.func138 (c := bodyOf Try.prog 138) rfl rfl FdelF_ok rfl ?_
  rintro ⟨(l : List (Int)), ⟨(o : TurnB), ⟨⟩⟩, ⟨⟩⟩ hp ⟨⟨hl, -⟩, -⟩
  have hl : l.length ≤ 9223372036854775807 := hl
  obtain ⟨⟨q0, q1, q2, q3, q4, ⟨⟩⟩, rfl⟩ := Option.isSome_iff_exists.1 hp
  have hp : isT (some (q0, q1, q2, q3, q4, ())) := hp
  refine exec_sound (n := 1000) EdelF_ok FdelF_ok ?_
  refine holds_of_eq (EdelF_t l q0 q1 q2 q3 q4) ?_
  simp only [holds_cond, Tree.holds, true_and, true_implies, decide_eq_true_eq, decide_eq_false_iff_not, Bool.not_eq_true', Bool.not_eq_false', Int.toNat_natCast, inK_i64, List.length_set, List.length_cons, List.length_nil]
  refine ⟨hp, fun _ => ⟨fun c => ?_, fun c => ?_⟩⟩
  · show ((l, ()) : List (Int) × Unit) = (List.filter (fun y => !(inLog (some (q0, q1, q2, q3, q4, ()))) y) l, ())
    rw [filter_yes (idxGo_no c)]
  obtain ⟨k, hk, hkl, hk0⟩ := DelInv.start (0) c
  rw [hk]
  refine ⟨by omega, fun _ => ?_⟩
  refine Reach.loopI EdelF_ok FdelF_ok (fun s : List (Int) × Nat × Nat => EdelF_s5 q0 q1 q2 q3 q4 (s.2.1 : Int) (s.2.2 : Int) s.1) (fun s => DelInv (inLog (some (q0, q1, q2, q3, q4, ()))) l s.1 s.2.1 s.2.2) (fun s => l.length - s.2.2) 1000 (fun _ => ⟨uniq_of rfl, uniq_of rfl⟩) ?_ (l, k, k + 1) hk0
  rintro ⟨m, i, j⟩ h0 - ih
  have h0 : DelInv (inLog (some (q0, q1, q2, q3, q4, ()))) l m i j := h0
  refine holds_of_eq (EdelF_l5 ..) ?_
  have q1 := h0.len
  have q2 := h0.lt
  have q3 := h0.le
  simp only [holds_cond, Tree.holds, true_and, true_implies, decide_eq_true_eq, decide_eq_false_iff_not, Bool.not_eq_true', Bool.not_eq_false', Int.toNat_natCast, inK_i64, List.length_set, List.length_cons, List.length_nil]
  refine ⟨fun c1 => ⟨by omega, fun _ => ⟨hp, fun _ => ⟨fun c2 => ⟨by omega, fun _ => ⟨by omega, fun _ => ⟨by omega, fun _ => ih (m.set i (m.getD j (0)), i + 1, j + 1) (h0.keep (by omega) c2) (by show l.length - (j + 1) < l.length - j; omega)⟩⟩⟩, fun c2 => ⟨by omega, fun _ => ih (m, i, j + 1) (h0.skip (by omega) c2) (by show l.length - (j + 1) < l.length - j; omega)⟩⟩⟩⟩, fun c1 => ⟨by omega, fun _ => ⟨?_, fun _ => ?_⟩⟩⟩
  · simp only [List.length_append, List.length_take, List.length_drop, List.length_replicate]; omega
  · exact congrArg (fun y => (y, ())) (h0.fin (by omega))
def cwithout : Ctr := { ps := [.mu Is, .clo 125 [BoxTH]], rs := [], pre := fun x => isT x.2.1.1, fn := fun _ => (), out := fun x => (List.map (out1 x.2.1.1) x.1, ()) }
noncomputable def Ewithout : Env := { P := Try.prog, tt := tt, ctr := [(138, cdelF)], res := [], rs := [], ps := [PK.mu Is, PK.clo 125 [Ty.box false (Ty.pair (Ty.int IntKind.i64) (Ty.pair (Ty.int IntKind.i64) (Ty.pair (Ty.hole Is) (Ty.pair (Ty.slc false (Ty.int IntKind.i64)) (Ty.pair (Ty.slc false (Ty.int IntKind.i64)) Ty.unit)))))]], cuts := [(1, [(0, none), (1, none), (6, none), (7, none), (8, none)])], nt := 20 }
theorem Ewithout_ok : EnvOk Ewithout := envOk tt_ok ⟨cdelF_valid, trivial⟩
theorem Fwithout_ok : FnOk Ewithout Try.f124 := ⟨rfl, rfl⟩
theorem Ewithout_t (x0 : List (List Int)) (x1c0_b_1 : Int) (x1c0_b_2_1 : Int) (x1c0_b_2_2_1 : List (List Int)) (x1c0_b_2_2_2_1 : List Int) (x1c0_b_2_2_2_2_1 : List Int) : exec Ewithout 1000 [.code (bodyOf Try.prog 124)] (initSt cwithout.ps ((x0, (some (x1c0_b_1, x1c0_b_2_1, x1c0_b_2_2_1, x1c0_b_2_2_2_1, x1c0_b_2_2_2_2_1, ()), ()), ()))) =
  .cut (loopAt (bodyOf Try.prog 124) 1).1 (loopAt (bodyOf Try.prog 124) 1).2 (St.mk [(0, AV.at_ 2000000 []), (1, AV.clo 125 (AV.cons (AV.rptr (Ty.box false (Ty.pair (Ty.int IntKind.i64) (Ty.pair (Ty.int IntKind.i64) (Ty.pair (Ty.hole Is) (Ty.pair (Ty.slc false (Ty.int IntKind.i64)) (Ty.pair (Ty.slc false (Ty.int IntKind.i64)) Ty.unit)))))) (some (x1c0_b_1, x1c0_b_2_1, x1c0_b_2_2_1, x1c0_b_2_2_2_1, x1c0_b_2_2_2_2_1, ()))) AV.nil)), (6, AV.at_ 2000000 []), (7, AV.val (Ty.int IntKind.i64) (↑(List.length x0) : Int)), (8, AV.val (Ty.int IntKind.i64) (0 : Int))] [(2000000, Ent.own (Ty.slc true Is) x0)]) := by kernel_rfl
def Ewithout_s1 (v1a_b_1 : Int) (v1a_b_2_1 : Int) (v1a_b_2_2_1 : List (List Int)) (v1a_b_2_2_2_1 : List Int) (v1a_b_2_2_2_2_1 : List Int) (v7 : Int) (v8 : Int) (o2000000 : List (List Int)) : St := St.mk [(0, AV.at_ 2000000 []), (1, AV.clo 125 (AV.cons (AV.rptr (Ty.box false (Ty.pair (Ty.int IntKind.i64) (Ty.pair (Ty.int IntKind.i64) (Ty.pair (Ty.hole Is) (Ty.pair (Ty.slc false (Ty.int IntKind.i64)) (Ty.pair (Ty.slc false (Ty.int IntKind.i64)) Ty.unit)))))) (some (v1a_b_1, v1a_b_2_1, v1a_b_2_2_1, v1a_b_2_2_2_1, v1a_b_2_2_2_2_1, ()))) AV.nil)), (6, AV.at_ 2000000 []), (7, AV.val (Ty.int IntKind.i64) v7), (8, AV.val (Ty.int IntKind.i64) v8)] [(2000000, Ent.own (Ty.slc true Is) o2000000)]
theorem Ewithout_l1 (v1a_b_1 : Int) (v1a_b_2_1 : Int) (v1a_b_2_2_1 : List (List Int)) (v1a_b_2_2_2_1 : List Int) (v1a_b_2_2_2_2_1 : List Int) (v7 : Int) (v8 : Int) (o2000000 : List (List Int)) : exec Ewithout 1000 (.code (loopAt (bodyOf Try.prog 124) 1).1 :: .inLoop (loopAt (bodyOf Try.prog 124) 1).1 :: (loopAt (bodyOf Try.prog 124) 1).2) (Ewithout_s1 v1a_b_1 v1a_b_2_1 v1a_b_2_2_1 v1a_b_2_2_2_1 v1a_b_2_2_2_2_1 v7 v8 o2000000) =
  cond (decide (v8 < v7)) (.need ((0 : Int) ≤ v8 ∧ v8 < (↑(List.length o2000000) : Int)) (.need (((0 : Int) ≤ v8 ∧ v8 < (↑(List.length o2000000) : Int)) ∧ [] ++ [Step.idx v8] = [] ++ [Step.idx v8] ∧ isT (some (v1a_b_1, v1a_b_2_1, v1a_b_2_2_1, v1a_b_2_2_2_1, v1a_b_2_2_2_2_1, ()))) (.need (inK IntKind.i64 (v8 + (1 : Int))) (.cut (loopAt (bodyOf Try.prog 124) 1).1 (loopAt (bodyOf Try.prog 124) 1).2 (St.mk [(0, AV.at_ 2000000 []), (1, AV.clo 125 (AV.cons (AV.rptr (Ty.box false (Ty.pair (Ty.int IntKind.i64) (Ty.pair (Ty.int IntKind.i64) (Ty.pair (Ty.hole Is) (Ty.pair (Ty.slc false (Ty.int IntKind.i64)) (Ty.pair (Ty.slc false (Ty.int IntKind.i64)) Ty.unit)))))) (some (v1a_b_1, v1a_b_2_1, v1a_b_2_2_1, v1a_b_2_2_2_1, v1a_b_2_2_2_2_1, ()))) AV.nil)), (6, AV.at_ 2000000 []), (7, AV.val (Ty.int IntKind.i64) v7), (8, AV.val (Ty.int IntKind.i64) (v8 + (1 : Int)))] [(2000000, Ent.own (Ty.slc true Is) (List.set o2000000 (Int.toNat v8) (List.filter (fun y => !inLog (some (v1a_b_1, v1a_b_2_1, v1a_b_2_2_1, v1a_b_2_2_2_1, v1a_b_2_2_2_2_1, ())) y) (List.getD o2000000 (Int.toNat v8) []))))]))))) (.ret ((o2000000, ()))) := by kernel_rfl
theorem map_set_step {α : Type} {f : α → α} {l : List α} {i : Nat} (h : i < l.length) (d : α) : ((l.take i).map f ++ l.drop i).set i (f (l.getD i d)) = (l.take (i + 1)).map f ++ l.drop (i + 1) := by
  have hl : ((l.take i).map f).length = i := by rw [List.length_map, List.length_take]; omega
  rw [take_s h d, List.map_append, drop_getD h d, List.set_append_right _ _ (by omega), hl, Nat.sub_self]
  simp
theorem map_get_step {α : Type} {f : α → α} {l : List α} {i : Nat} (d : α) : ((l.take i).map f ++ l.drop i).getD i d = l.getD i d := by
  by_cases h : i < l.length
  · have hl : ((l.take i).map f).length = i := by rw [List.length_map, List.length_take]; omega
    rw [getD_app_right (by omega), hl, Nat.sub_self, drop_getD h d]; rfl
  · rw [List.drop_eq_nil_of_le (by omega), List.append_nil, List.getD_eq_getElem?_getD, List.getD_eq_getElem?_getD, List.getElem?_eq_none (by rw [List.length_map, List.length_take]; omega), List.getElem?_eq_none (by omega)]
theorem cwithout_valid : cwithout.Valid Try.prog 124 := by
  refine Ctr.valid_of Ewithout_ok rfl rfl Try.func124 (c := bodyOf Try.prog 124) rfl rfl Fwithout_ok rfl ?_
  rintro ⟨(l : List (List Int)), ⟨(o : TurnB), ⟨⟩⟩, ⟨⟩⟩ hp ⟨⟨hl, -⟩, -⟩
  have hl : l.length ≤ 9223372036854775807 := hl
  obtain ⟨⟨q0, q1, q2, q3, q4, ⟨⟩⟩, rfl⟩ := Option.isSome_iff_exists.1 hp
  refine exec_sound (n := 1000) Ewithout_ok Fwithout_ok ?_
  refine holds_of_eq (Ewithout_t l q0 q1 q2 q3 q4) ?_
  refine Reach.loopI Ewithout_ok Fwithout_ok (fun i : Nat => Ewithout_s1 q0 q1 q2 q3 q4 (l.length : Int) (i : Int) ((l.take i).map (out1 (some (q0, q1, q2, q3, q4, ()))) ++ l.drop i)) (fun i => i ≤ l.length) (fun i => l.length - i) 1000 (fun _ => ⟨uniq_of rfl, uniq_of rfl⟩) ?_ 0 (by omega)
  rintro i k1 - ih
  have k1 : i ≤ l.length := k1
  have hln : ((l.take i).map (out1 (some (q0, q1, q2, q3, q4, ()))) ++ l.drop i).length = l.length := by simp; omega
  refine holds_of_eq (Ewithout_l1 ..) ?_
  simp only [holds_cond, Tree.holds, true_and, true_implies, decide_eq_true_eq, decide_eq_false_iff_not, Bool.not_eq_true', Bool.not_eq_false', Int.toNat_natCast, inK_i64, List.length_set, List.length_cons, List.length_nil, map_get_step]
  rw [hln]
  refine ⟨fun c => ?_, fun c => ?_⟩
  · have next := ih (i + 1) (by show i + 1 ≤ l.length; omega) (by omega)
    rw [← map_set_step (by omega) []] at next
    exact ⟨by omega, fun _ => ⟨⟨by omega, rfl⟩, fun _ => ⟨by omega, fun _ => next⟩⟩⟩
  · rw [List.take_of_length_le (by omega), List.drop_eq_nil_of_le (by omega), List.append_nil]; rfl
def tlog (w l : List Int) : List Int := l ++ w.take (100 - l.length)
/-- the turn passes on -/
def tpass (t : TurnD) : TurnD :=
  (t.1, Int.tmod (t.2.1 + 1) t.1, t.2.2.1.map (List.filter (fun n => !decide (n ∈ tlog (t.2.2.1.getD t.2.1.toNat []) t.2.2.2.1))), tlog (t.2.2.1.getD t.2.1.toNat []) t.2.2.2.1, t.2.2.2.2.1, ())
def ctpass : Ctr := { ps := [.rw TurnO], rs := [], pre := fun x => (LE.le (α := Int) 0 x.1.2.1 ∧ LE.le (α := Int) x.1.2.1 5 ∧ LT.lt (α := Int) x.1.2.1 (List.length (α := List Int) x.1.2.2.1)) ∧ LT.lt (α := Int) 0 x.1.1 ∧ List.length (α := Int) x.1.2.2.2.1 ≤ 100 ∧ (List.getD (α := List Int) x.1.2.2.1 (Int.toNat x.1.2.1) []).length ≤ 30, fn := fun _ => (), out := fun x => (tpass x.1, ()) }
noncomputable def Etpass : Env := { P := Try.prog, tt := tt, ctr := [(124, cwithout)], res := [], rs := [], ps := [PK.rw (Ty.pair (Ty.int IntKind.i64) (Ty.pair (Ty.int IntKind.i64) (Ty.pair (Ty.slc true Is) (Ty.pair Is (Ty.pair Is Ty.unit)))))], cuts := [(2, [(1, none), (13, none), (14, none), (15, none)])], nt := 55 }
theorem Etpass_ok : EnvOk Etpass := envOk tt_ok ⟨cwithout_valid, trivial⟩
theorem Ftpass_ok : FnOk Etpass Try.f92 := ⟨rfl, rfl⟩
theorem Etpass_t (x0_1 : Int) (x0_2_1 : Int) (x0_2_2_1 : List (List Int)) (x0_2_2_2_1 : List Int) (x0_2_2_2_2_1 : List Int) : exec Etpass 1000 [.code (bodyOf Try.prog 92)] (initSt ctpass.ps (((x0_1, x0_2_1, x0_2_2_1, x0_2_2_2_1, x0_2_2_2_2_1, ()), ()))) =
  .need ((0 : Int) ≤ x0_2_1 ∧ x0_2_1 < (↑(List.length x0_2_2_1) : Int)) (.cut (loopAt (bodyOf Try.prog 92) 2).1 (loopAt (bodyOf Try.prog 92) 2).2 (St.mk [(1, AV.bx (AV.ptr 2000000 [])), (13, AV.at_ 2000000 [Step.fld 2, Step.idx x0_2_1]), (14, AV.val (Ty.int IntKind.i64) (↑(List.length (List.getD x0_2_2_1 (Int.toNat x0_2_1) [])) : Int)), (15, AV.val (Ty.int IntKind.i64) (0 : Int))] [(2000000, Ent.var (Ty.pair (Ty.int IntKind.i64) (Ty.pair (Ty.int IntKind.i64) (Ty.pair (Ty.slc true Is) (Ty.pair Is (Ty.pair Is Ty.unit))))) (x0_1, x0_2_1, x0_2_2_1, x0_2_2_2_1, x0_2_2_2_2_1, ()))])) := by kernel_rfl
def Etpass_s2 (v13i : Int) (v14 : Int) (v15 : Int) (o2000000_1 : Int) (o2000000_2_1 : Int) (o2000000_2_2_1 : List (List Int)) (o2000000_2_2_2_1 : List Int) (o2000000_2_2_2_2_1 : List Int) : St := St.mk [(1, AV.bx (AV.ptr 2000000 [])), (13, AV.at_ 2000000 [Step.fld 2, Step.idx v13i]), (14, AV.val (Ty.int IntKind.i64) v14), (15, AV.val (Ty.int IntKind.i64) v15)] [(2000000, Ent.var (Ty.pair (Ty.int IntKind.i64) (Ty.pair (Ty.int IntKind.i64) (Ty.pair (Ty.slc true Is) (Ty.pair Is (Ty.pair Is Ty.unit))))) (o2000000_1, o2000000_2_1, o2000000_2_2_1, o2000000_2_2_2_1, o2000000_2_2_2_2_1, ()))]
theorem Etpass_l2 (v13i : Int) (v14 : Int) (v15 : Int) (o2000000_1 : Int) (o2000000_2_1 : Int) (o2000000_2_2_1 : List (List Int)) (o2000000_2_2_2_1 : List Int) (o2000000_2_2_2_2_1 : List Int) : exec Etpass 1000 (.code (loopAt (bodyOf Try.prog 92) 2).1 :: .inLoop (loopAt (bodyOf Try.prog 92) 2).1 :: (loopAt (bodyOf Try.prog 92) 2).2) (Etpass_s2 v13i v14 v15 o2000000_1 o2000000_2_1 o2000000_2_2_1 o2000000_2_2_2_1 o2000000_2_2_2_2_1) =
  cond (decide (v15 < v14)) (.need ((0 : Int) ≤ v15 ∧ v15 < (↑(List.length (List.getD o2000000_2_2_1 (Int.toNat v13i) [])) : Int)) (cond (decide ((↑(List.length o2000000_2_2_2_1) : Int) < (100 : Int))) (.need ([] ++ [Step.fld 3] = [] ++ [Step.fld 3] ∧ List.length o2000000_2_2_2_1 + List.length (List.set [(0 : Int)] (Int.toNat (↑0 : Int)) (List.getD (List.getD o2000000_2_2_1 (Int.toNat v13i) []) (Int.toNat v15) (0 : Int))) ≤ 140737488355328 ∧ (List.length o2000000_2_2_2_1 + List.length (List.set [(0 : Int)] (Int.toNat (↑0 : Int)) (List.getD (List.getD o2000000_2_2_1 (Int.toNat v13i) []) (Int.toNat v15) (0 : Int)))) * Ty.wb (Ty.int IntKind.i64) ≤ 140737488355328) (.need (inK IntKind.i64 (v15 + (1 : Int))) (.cut (loopAt (bodyOf Try.prog 92) 2).1 (loopAt (bodyOf Try.prog 92) 2).2 (St.mk [(1, AV.bx (AV.ptr 2000000 [])), (13, AV.at_ 2000000 [Step.fld 2, Step.idx v13i]), (14, AV.val (Ty.int IntKind.i64) v14), (15, AV.val (Ty.int IntKind.i64) (v15 + (1 : Int)))] [(2000000, Ent.var (Ty.pair (Ty.int IntKind.i64) (Ty.pair (Ty.int IntKind.i64) (Ty.pair (Ty.slc true Is) (Ty.pair Is (Ty.pair Is Ty.unit))))) (o2000000_1, o2000000_2_1, o2000000_2_2_1, o2000000_2_2_2_1 ++ List.set [(0 : Int)] (Int.toNat (↑0 : Int)) (List.getD (List.getD o2000000_2_2_1 (Int.toNat v13i) []) (Int.toNat v15) (0 : Int)), o2000000_2_2_2_2_1, ()))])))) (.need (inK IntKind.i64 (v15 + (1 : Int))) (.cut (loopAt (bodyOf Try.prog 92) 2).1 (loopAt (bodyOf Try.prog 92) 2).2 (St.mk [(1, AV.bx (AV.ptr 2000000 [])), (13, AV.at_ 2000000 [Step.fld 2, Step.idx v13i]), (14, AV.val (Ty.int IntKind.i64) v14), (15, AV.val (Ty.int IntKind.i64) (v15 + (1 : Int)))] [(2000000, Ent.var (Ty.pair (Ty.int IntKind.i64) (Ty.pair (Ty.int IntKind.i64) (Ty.pair (Ty.slc true Is) (Ty.pair Is (Ty.pair Is Ty.unit))))) (o2000000_1, o2000000_2_1, o2000000_2_2_1, o2000000_2_2_2_1, o2000000_2_2_2_2_1, ()))]))))) (.need (isT (some (o2000000_1, o2000000_2_1, [], o2000000_2_2_2_1, o2000000_2_2_2_2_1, ()))) (.need (inK IntKind.i64 (o2000000_2_1 + (1 : Int))) (.need ((0 : Int) < o2000000_1) (.ret (((o2000000_1, Int.tmod (o2000000_2_1 + (1 : Int)) o2000000_1, List.map (out1 (some (o2000000_1, o2000000_2_1, [], o2000000_2_2_2_1, o2000000_2_2_2_2_1, ()))) o2000000_2_2_1, o2000000_2_2_2_1, o2000000_2_2_2_2_1, ()), ())))))) := by kernel_rfl
theorem ctpass_valid : ctpass.Valid Try.prog 92 := by
  refine Ctr.valid_of Etpass_ok rfl rfl Try.func92 (c := bodyOf Try.prog 92) rfl rfl Ftpass_ok rfl ?_
  rintro ⟨⟨(n : Int), (h : Int), (w : List (List Int)), (l : List Int), (d : List Int), ⟨⟩⟩, ⟨⟩⟩ ⟨⟨(h1 : 0 ≤ h), (h2 : h ≤ 5), (h3 : h < w.length)⟩, (h4 : 0 < n), (h5 : l.length ≤ 100), (h6 : (w.getD h.toNat []).length ≤ 30)⟩ -
  refine exec_sound (n := 1000) Etpass_ok Ftpass_ok ?_
  refine holds_of_eq (Etpass_t n h w l d) ?_
  refine ⟨⟨h1, h3⟩, fun _ => ?_⟩
  refine Reach.loopI Etpass_ok Ftpass_ok (fun s : Nat × List Int => Etpass_s2 h ((w.getD h.toNat []).length : Int) (s.1 : Int) n h w s.2 d) (fun s => s.1 ≤ (w.getD h.toNat []).length ∧ s.2 = tlog ((w.getD h.toNat []).take s.1) l) (fun s => (w.getD h.toNat []).length - s.1) 1000 (fun _ => ⟨uniq_of rfl, uniq_of rfl⟩) ?_ (0, l) ⟨by omega, by simp [tlog]⟩
  rintro ⟨i, m⟩ ⟨k1, k2⟩ - ih
  have k1 : i ≤ (w.getD h.toNat []).length := k1
  have k2 : m = tlog ((w.getD h.toNat []).take i) l := k2
  refine holds_of_eq (Etpass_l2 ..) ?_
  have hml : m.length = min 100 (l.length + i) := by
    rw [k2, tlog, List.length_append, List.length_take, List.length_take]; omega
  simp only [holds_cond, Tree.holds, true_and, true_implies, decide_eq_true_eq, decide_eq_false_iff_not, Bool.not_eq_true', Bool.not_eq_false', Int.toNat_natCast, inK_i64, List.length_set, List.length_cons, List.length_nil, wb_i64]
  refine ⟨fun c => ⟨by omega, fun _ => ⟨fun c2 => ⟨⟨by omega, by omega⟩, fun _ => ⟨by omega, fun _ => ih (i + 1, m ++ [(w.getD h.toNat []).getD i 0]) ⟨by show i + 1 ≤ _; omega, ?_⟩ (by show _ - (i + 1) < _ - i; omega)⟩⟩, fun c2 => ⟨by omega, fun _ => ih (i + 1, m) ⟨by show i + 1 ≤ _; omega, ?_⟩ (by show _ - (i + 1) < _ - i; omega)⟩⟩⟩, fun c => ⟨rfl, fun _ => ⟨by omega, fun _ => ⟨h4, fun _ => ?_⟩⟩⟩⟩
  · show m ++ [(w.getD h.toNat []).getD i 0] = tlog ((w.getD h.toNat []).take (i + 1)) l
    have h7 : i < (w.getD h.toNat []).length := by omega
    rw [k2, tlog, tlog, take_s h7 0, List.append_assoc]
    congr 1
    have h8 : ((w.getD h.toNat []).take i).length < 100 - l.length := by rw [List.length_take]; omega
    rw [List.take_of_length_le (show ((w.getD h.toNat []).take i).length ≤ 100 - l.length by omega), List.take_of_length_le (show ((w.getD h.toNat []).take i ++ [(w.getD h.toNat []).getD i 0]).length ≤ 100 - l.length by rw [List.length_append, List.length_singleton]; omega)]
  · show m = tlog ((w.getD h.toNat []).take (i + 1)) l
    have h7 : i < (w.getD h.toNat []).length := by omega
    rw [k2, tlog, tlog, take_s h7 0]
    congr 1
    rw [List.take_append_of_le_length (show 100 - l.length ≤ ((w.getD h.toNat []).take i).length by rw [List.length_take]; omega)]
  · have e : i = (w.getD h.toNat []).length := by omega
    rw [e, List.take_of_length_le (Nat.le_refl _)] at k2
    rw [k2]; rfl
end Go.Proofs.Ytbcdpeogfghgcaa
