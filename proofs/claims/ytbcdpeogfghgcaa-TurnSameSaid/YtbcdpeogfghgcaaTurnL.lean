/- TurnSame. No condition. -/
import Derived.Test.YtbcdpeogfghgcaaTurnR
namespace Go.Proofs.Ytbcdpeogfghgcaa
open Go.Ex
set_option maxRecDepth 100000
def cTurnSame : Ctr := { ps := [.v I64, .v (.slc false Word)], rs := [.bool], pre := fun _ => True, fn := fun _ => (true, ()), out := fun _ => () }
noncomputable def ETurnSame : Env := { P := Try.prog, tt := tt, ctr := [(29, ctturns), (31, cfew), (30, ceqI), (32, ctcheck)], res := [Go.ResultVar.tmp 4], rs := [Ty.bool], ps := [PK.v (Ty.int IntKind.i64), PK.v (Ty.slc false Word)], cuts := [(8, [(8, none), (42, some (Ty.slc true Is)), (43, none), (44, none)])], nt := 79 }
theorem ETurnSame_ok : EnvOk ETurnSame := envOk tt_ok ⟨ctturns_valid, cfew_valid, ceqI_valid, ctcheck_valid, trivial⟩
theorem FTurnSame_ok : FnOk ETurnSame Try.f6 := ⟨rfl, rfl⟩
theorem ETurnSame_t (x0 : Int) (x1 : List (Int × Int × Int × Unit)) : exec ETurnSame 1000 [.code (bodyOf Try.prog 6)] (initSt cTurnSame.ps ((x0, x1, ()))) =
  .need ((2 : Int) ≤ (1000 : Int)) (.need ((0 : Int) ≤ (1 : Int) ∧ (1 : Int) < (↑(List.length (Prod.fst (Prod.snd (tturns (2 : Int) (List.set (List.set (List.set [((0 : Int), (0 : Int), (0 : Int), ()), ((0 : Int), (0 : Int), (0 : Int), ()), ((0 : Int), (0 : Int), (0 : Int), ())] (Int.toNat (↑0 : Int)) ((1 : Int), (0 : Int), (4 : Int), ())) (Int.toNat (↑1 : Int)) ((2 : Int), (0 : Int), (0 : Int), ())) (Int.toNat (↑2 : Int)) ((3 : Int), (1 : Int), (0 : Int), ())))))) : Int)) (.need (True) (.need (True) (.need (few x0 ≤ (1000 : Int)) (cond (!Prod.fst (Prod.snd (Prod.snd (tturns (few x0) x1)))) (.ret ((false, ()))) (.cut (loopAt (bodyOf Try.prog 6) 8).1 (loopAt (bodyOf Try.prog 6) 8).2 (St.mk [(8, AV.ptr 8 []), (42, AV.at_ 1000042 []), (43, AV.val (Ty.int IntKind.i64) (↑(List.length (Prod.fst (Prod.snd (tturns (few x0) x1)))) : Int)), (44, AV.val (Ty.int IntKind.i64) (0 : Int))] [(8, Ent.var (Ty.pair (Ty.int IntKind.i64) (Ty.pair (Ty.int IntKind.i64) (Ty.pair (Ty.slc true Is) (Ty.pair Is (Ty.pair Is Ty.unit))))) (Prod.fst (tturns (few x0) x1))), (1000042, Ent.own (Ty.slc true Is) (Prod.fst (Prod.snd (tturns (few x0) x1))))]))))))) := by kernel_rfl
def ETurnSame_s8 (v43 : Int) (v44 : Int) (o8_1 : Int) (o8_2_1 : Int) (o8_2_2_1 : List (List Int)) (o8_2_2_2_1 : List Int) (o8_2_2_2_2_1 : List Int) (o1000042 : List (List Int)) : St := St.mk [(8, AV.ptr 8 []), (42, AV.at_ 1000042 []), (43, AV.val (Ty.int IntKind.i64) v43), (44, AV.val (Ty.int IntKind.i64) v44)] [(8, Ent.var (Ty.pair (Ty.int IntKind.i64) (Ty.pair (Ty.int IntKind.i64) (Ty.pair (Ty.slc true Is) (Ty.pair Is (Ty.pair Is Ty.unit))))) (o8_1, o8_2_1, o8_2_2_1, o8_2_2_2_1, o8_2_2_2_2_1, ())), (1000042, Ent.own (Ty.slc true Is) o1000042)]
theorem ETurnSame_l8 (v43 : Int) (v44 : Int) (o8_1 : Int) (o8_2_1 : Int) (o8_2_2_1 : List (List Int)) (o8_2_2_2_1 : List Int) (o8_2_2_2_2_1 : List Int) (o1000042 : List (List Int)) : exec ETurnSame 1000 (.code (loopAt (bodyOf Try.prog 6) 8).1 :: .inLoop (loopAt (bodyOf Try.prog 6) 8).1 :: (loopAt (bodyOf Try.prog 6) 8).2) (ETurnSame_s8 v43 v44 o8_1 o8_2_1 o8_2_2_1 o8_2_2_2_1 o8_2_2_2_2_1 o1000042) =
  cond (decide (v44 < v43)) (.need ((0 : Int) ≤ v44 ∧ v44 < (↑(List.length o1000042) : Int)) (cond (decide ((↑(List.length o8_2_2_2_1) : Int) < (↑(List.length (List.getD o1000042 (Int.toNat v44) [])) : Int))) (.ret ((false, ()))) (.need ((0 : Int) ≤ (0 : Int) ∧ (0 : Int) ≤ (↑(List.length (List.getD o1000042 (Int.toNat v44) [])) : Int) ∧ (↑(List.length (List.getD o1000042 (Int.toNat v44) [])) : Int) ≤ (↑(List.length o8_2_2_2_1) : Int)) (.need (True) (cond (!decide (List.getD o1000042 (Int.toNat v44) [] = cut2 (0 : Int) (↑(List.length (List.getD o1000042 (Int.toNat v44) [])) : Int) o8_2_2_2_1)) (.ret ((false, ()))) (.need ((0 : Int) ≤ v44 ∧ v44 < (↑(List.length o8_2_2_2_2_1) : Int)) (cond (decide (List.getD o8_2_2_2_2_1 (Int.toNat v44) (0 : Int) ≠ (↑(List.length (List.getD o1000042 (Int.toNat v44) [])) : Int))) (.ret ((false, ()))) (.need (inK IntKind.i64 (v44 + (1 : Int))) (.cut (loopAt (bodyOf Try.prog 6) 8).1 (loopAt (bodyOf Try.prog 6) 8).2 (St.mk [(8, AV.ptr 8 []), (42, AV.at_ 1000042 []), (43, AV.val (Ty.int IntKind.i64) v43), (44, AV.val (Ty.int IntKind.i64) (v44 + (1 : Int)))] [(8, Ent.var (Ty.pair (Ty.int IntKind.i64) (Ty.pair (Ty.int IntKind.i64) (Ty.pair (Ty.slc true Is) (Ty.pair Is (Ty.pair Is Ty.unit))))) (o8_1, o8_2_1, o8_2_2_1, o8_2_2_2_1, o8_2_2_2_2_1, ())), (1000042, Ent.own (Ty.slc true Is) o1000042)])))))))))) (.need (True) (.ret ((decide (tcheck (o8_1, o8_2_1, o8_2_2_1, o8_2_2_2_1, o8_2_2_2_2_1, ()) = (0 : Int)), ())))) := by kernel_rfl
theorem cTurnSame_valid : cTurnSame.Valid Try.prog 6 := by
  refine Ctr.valid_of ETurnSame_ok rfl rfl Try.func6 (c := bodyOf Try.prog 6) rfl rfl FTurnSame_ok rfl ?_
  rintro ⟨(n : Int), (l : List BeatD), ⟨⟩⟩ - -
  refine exec_sound (n := 1000) ETurnSame_ok FTurnSame_ok ?_
  refine holds_of_eq (ETurnSame_t n l) ?_
  have hf := few_in n
  obtain ⟨e1, inv⟩ := tturns_inv hf.1 hf.2 l
  simp only [holds_cond, Tree.holds, true_and, true_implies, decide_eq_true_eq, decide_eq_false_iff_not, Bool.not_eq_true', Bool.not_eq_false', Int.toNat_natCast, inK_i64, List.length_set, List.length_cons, List.length_nil]
  refine ⟨by omega, fun _ => ⟨by decide +kernel, fun _ => ⟨by omega, fun _ => ⟨fun a => absurd (a.symm.trans e1) (by decide), fun _ => ?_⟩⟩⟩⟩
  generalize tturns (few n) l = r at *
  obtain ⟨⟨q0, q1, q2, q3, q4, ⟨⟩⟩, m, b, ⟨⟩⟩ := r
  generalize few n = k at *
  have htl : (q4.length : Int) = q0 := inv.ok.told
  have hq0 : q0 = k := inv.num
  have hml : (m.length : Int) = k := inv.len
  refine Reach.loopI ETurnSame_ok FTurnSame_ok (fun i : Nat => ETurnSame_s8 (m.length : Int) (i : Int) q0 q1 q2 q3 q4 m) (fun i => i ≤ m.length) (fun i => m.length - i) 1000 (fun _ => ⟨uniq_of rfl, uniq_of rfl⟩) ?_ 0 (by omega)
  rintro i k1 - ih
  have k1 : i ≤ m.length := k1
  refine holds_of_eq (ETurnSame_l8 ..) ?_
  simp only [holds_cond, Tree.holds, true_and, true_implies, decide_eq_true_eq, decide_eq_false_iff_not, Bool.not_eq_true', Bool.not_eq_false', Int.toNat_natCast, inK_i64, List.length_set, List.length_cons, List.length_nil, cut2_tk]
  refine ⟨fun a => ⟨by omega, fun _ => ?_⟩, fun a => yesd (tcheck_iff.2 inv.ok)⟩
  have ht : m.getD i [] = q3.take (q4.getD i 0).toNat := inv.told i (by omega)
  have hr : 0 ≤ q4.getD i 0 ∧ q4.getD i 0 ≤ q3.length := (inv.ok.rows (p := i) (by show (i : Int) < q0; omega)).1
  have hlen : ((m.getD i []).length : Int) = q4.getD i 0 := by rw [ht, List.length_take]; omega
  refine ⟨fun c => by omega, fun _ => ⟨by omega, fun _ => ⟨fun c => absurd ?_ c, fun _ => ⟨by omega, fun _ => ⟨fun c => absurd hlen.symm c, fun _ => ⟨by omega, fun _ => ih (i + 1) (by show i + 1 ≤ m.length; omega) (by omega)⟩⟩⟩⟩⟩⟩
  rw [show (m.getD i []).length = (q4.getD i 0).toNat by omega]; exact ht
end Go.Proofs.Ytbcdpeogfghgcaa
