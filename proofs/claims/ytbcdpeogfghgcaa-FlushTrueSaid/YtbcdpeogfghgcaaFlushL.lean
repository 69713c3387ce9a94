/- FlushTrue: the walk. -/
import Derived.Test.YtbcdpeogfghgcaaFlush
namespace Go.Proofs.Ytbcdpeogfghgcaa
open Go.Ex
set_option maxRecDepth 100000
def cFlushTrue : Ctr := { ps := [.v Flush, .v U8], rs := [.bool], pre := fun _ => True, fn := fun _ => (true, ()), out := fun _ => () }
noncomputable def EFlushTrue : Env := { P := Try.prog, tt := tt, ctr := [(19, cfnew), (20, cfchange), (21, ccontI)], res := [Go.ResultVar.tmp 4], rs := [Ty.bool], ps := [PK.v (Ty.pair (Ty.pair (Ty.int IntKind.i64) (Ty.pair (Ty.int IntKind.u8) Ty.unit)) (Ty.pair (Ty.int IntKind.u8) (Ty.pair (Ty.arr 6 (Ty.slc false (Ty.int IntKind.i64))) Ty.unit))), PK.v (Ty.int IntKind.u8)], cuts := [(8, [(2, none), (7, none), (8, none), (35, none)]), (11, [(2, none), (7, none), (8, none), (35, none), (40, none), (41, none), (42, none)]), (15, [(2, none), (7, none), (8, none), (11, none), (12, none), (35, none), (40, none), (41, none), (42, none), (46, none)])], nt := 88 }
theorem EFlushTrue_ok : EnvOk EFlushTrue := envOk tt_ok ⟨cfnew_valid, cfchange_valid, ccontI_valid, trivial⟩
theorem FFlushTrue_ok : FnOk EFlushTrue Try.f3 := ⟨rfl, rfl⟩
theorem EFlushTrue_t (x0_1_1 : Int) (x0_1_2_1 : Int) (x0_2_1 : Int) (x0_2_2_1 : List (List Int)) (x1 : Int) : exec EFlushTrue 1000 [.code (bodyOf Try.prog 3)] (initSt cFlushTrue.ps ((((x0_1_1, x0_1_2_1, ()), x0_2_1, x0_2_2_1, ()), x1, ()))) =
  .need (True) (.need (True) (cond (decide (Prod.fst (Prod.snd (Prod.snd (fchange ((x0_1_1, x0_1_2_1, ()), x0_2_1, x0_2_2_1, ()) x1))) ≠ (0 : Int))) (.ret ((true, ()))) (.cut (loopAt (bodyOf Try.prog 3) 8).1 (loopAt (bodyOf Try.prog 3) 8).2 (St.mk [(2, AV.ptr 2 []), (7, AV.ptr 7 []), (8, AV.ptr 8 []), (35, AV.val (Ty.int IntKind.i64) (0 : Int))] [(2, Ent.var (Ty.pair (Ty.pair (Ty.int IntKind.i64) (Ty.pair (Ty.int IntKind.u8) Ty.unit)) (Ty.pair (Ty.int IntKind.u8) (Ty.pair (Ty.arr 6 (Ty.slc false (Ty.int IntKind.i64))) Ty.unit))) ((x0_1_1, x0_1_2_1, ()), x0_2_1, x0_2_2_1, ())), (7, Ent.var (Ty.pair (Ty.pair (Ty.int IntKind.i64) (Ty.pair (Ty.int IntKind.u8) Ty.unit)) (Ty.pair (Ty.int IntKind.u8) (Ty.pair (Ty.arr 6 Is) Ty.unit))) (Prod.fst (fchange ((x0_1_1, x0_1_2_1, ()), x0_2_1, x0_2_2_1, ()) x1))), (8, Ent.var (Ty.arr 6 Is) (Prod.fst (Prod.snd (fchange ((x0_1_1, x0_1_2_1, ()), x0_2_1, x0_2_2_1, ()) x1))))])))) := by kernel_rfl
def EFlushTrue_s8 (v35 : Int) (o2_1_1 : Int) (o2_1_2_1 : Int) (o2_2_1 : Int) (o2_2_2_1 : List (List Int)) (o7_1_1 : Int) (o7_1_2_1 : Int) (o7_2_1 : Int) (o7_2_2_1 : List (List Int)) (o8 : List (List Int)) : St := St.mk [(2, AV.ptr 2 []), (7, AV.ptr 7 []), (8, AV.ptr 8 []), (35, AV.val (Ty.int IntKind.i64) v35)] [(2, Ent.var (Ty.pair (Ty.pair (Ty.int IntKind.i64) (Ty.pair (Ty.int IntKind.u8) Ty.unit)) (Ty.pair (Ty.int IntKind.u8) (Ty.pair (Ty.arr 6 (Ty.slc false (Ty.int IntKind.i64))) Ty.unit))) ((o2_1_1, o2_1_2_1, ()), o2_2_1, o2_2_2_1, ())), (7, Ent.var (Ty.pair (Ty.pair (Ty.int IntKind.i64) (Ty.pair (Ty.int IntKind.u8) Ty.unit)) (Ty.pair (Ty.int IntKind.u8) (Ty.pair (Ty.arr 6 Is) Ty.unit))) ((o7_1_1, o7_1_2_1, ()), o7_2_1, o7_2_2_1, ())), (8, Ent.var (Ty.arr 6 Is) o8)]
theorem EFlushTrue_l8 (v35 : Int) (o2_1_1 : Int) (o2_1_2_1 : Int) (o2_2_1 : Int) (o2_2_2_1 : List (List Int)) (o7_1_1 : Int) (o7_1_2_1 : Int) (o7_2_1 : Int) (o7_2_2_1 : List (List Int)) (o8 : List (List Int)) : exec EFlushTrue 1000 (.code (loopAt (bodyOf Try.prog 3) 8).1 :: .inLoop (loopAt (bodyOf Try.prog 3) 8).1 :: (loopAt (bodyOf Try.prog 3) 8).2) (EFlushTrue_s8 v35 o2_1_1 o2_1_2_1 o2_2_1 o2_2_2_1 o7_1_1 o7_1_2_1 o7_2_1 o7_2_2_1 o8) =
  cond (decide (v35 < (6 : Int))) (.need ((0 : Int) ≤ v35 ∧ v35 < (↑6 : Int)) (.cut (loopAt (bodyOf Try.prog 3) 11).1 (loopAt (bodyOf Try.prog 3) 11).2 (St.mk [(2, AV.ptr 2 []), (7, AV.ptr 7 []), (8, AV.ptr 8 []), (35, AV.val (Ty.int IntKind.i64) v35), (40, AV.at_ 8 [Step.idx v35]), (41, AV.val (Ty.int IntKind.i64) (↑(List.length (List.getD o8 (Int.toNat v35) [])) : Int)), (42, AV.val (Ty.int IntKind.i64) (0 : Int))] [(2, Ent.var (Ty.pair (Ty.pair (Ty.int IntKind.i64) (Ty.pair (Ty.int IntKind.u8) Ty.unit)) (Ty.pair (Ty.int IntKind.u8) (Ty.pair (Ty.arr 6 (Ty.slc false (Ty.int IntKind.i64))) Ty.unit))) ((o2_1_1, o2_1_2_1, ()), o2_2_1, o2_2_2_1, ())), (7, Ent.var (Ty.pair (Ty.pair (Ty.int IntKind.i64) (Ty.pair (Ty.int IntKind.u8) Ty.unit)) (Ty.pair (Ty.int IntKind.u8) (Ty.pair (Ty.arr 6 Is) Ty.unit))) ((o7_1_1, o7_1_2_1, ()), o7_2_1, o7_2_2_1, ())), (8, Ent.var (Ty.arr 6 Is) o8)]))) (cond (decide (o7_2_1 = (0 : Int))) (.need (inK IntKind.i64 (o2_1_1 + (1 : Int))) (.ret ((decide (o7_1_1 = o2_1_1 + (1 : Int)), ())))) (.ret ((false, ())))) := by kernel_rfl
def EFlushTrue_s11 (v35 : Int) (v40i : Int) (v41 : Int) (v42 : Int) (o2_1_1 : Int) (o2_1_2_1 : Int) (o2_2_1 : Int) (o2_2_2_1 : List (List Int)) (o7_1_1 : Int) (o7_1_2_1 : Int) (o7_2_1 : Int) (o7_2_2_1 : List (List Int)) (o8 : List (List Int)) : St := St.mk [(2, AV.ptr 2 []), (7, AV.ptr 7 []), (8, AV.ptr 8 []), (35, AV.val (Ty.int IntKind.i64) v35), (40, AV.at_ 8 [Step.idx v40i]), (41, AV.val (Ty.int IntKind.i64) v41), (42, AV.val (Ty.int IntKind.i64) v42)] [(2, Ent.var (Ty.pair (Ty.pair (Ty.int IntKind.i64) (Ty.pair (Ty.int IntKind.u8) Ty.unit)) (Ty.pair (Ty.int IntKind.u8) (Ty.pair (Ty.arr 6 (Ty.slc false (Ty.int IntKind.i64))) Ty.unit))) ((o2_1_1, o2_1_2_1, ()), o2_2_1, o2_2_2_1, ())), (7, Ent.var (Ty.pair (Ty.pair (Ty.int IntKind.i64) (Ty.pair (Ty.int IntKind.u8) Ty.unit)) (Ty.pair (Ty.int IntKind.u8) (Ty.pair (Ty.arr 6 Is) Ty.unit))) ((o7_1_1, o7_1_2_1, ()), o7_2_1, o7_2_2_1, ())), (8, Ent.var (Ty.arr 6 Is) o8)]
theorem EFlushTrue_l11 (v35 : Int) (v40i : Int) (v41 : Int) (v42 : Int) (o2_1_1 : Int) (o2_1_2_1 : Int) (o2_2_1 : Int) (o2_2_2_1 : List (List Int)) (o7_1_1 : Int) (o7_1_2_1 : Int) (o7_2_1 : Int) (o7_2_2_1 : List (List Int)) (o8 : List (List Int)) : exec EFlushTrue 1000 (.code (loopAt (bodyOf Try.prog 3) 11).1 :: .inLoop (loopAt (bodyOf Try.prog 3) 11).1 :: (loopAt (bodyOf Try.prog 3) 11).2) (EFlushTrue_s11 v35 v40i v41 v42 o2_1_1 o2_1_2_1 o2_2_1 o2_2_2_1 o7_1_1 o7_1_2_1 o7_2_1 o7_2_2_1 o8) =
  cond (decide (v42 < v41)) (.need ((0 : Int) ≤ v42 ∧ v42 < (↑(List.length (List.getD o8 (Int.toNat v40i) [])) : Int)) (.cut (loopAt (bodyOf Try.prog 3) 15).1 (loopAt (bodyOf Try.prog 3) 15).2 (St.mk [(2, AV.ptr 2 []), (7, AV.ptr 7 []), (8, AV.ptr 8 []), (11, AV.val (Ty.int IntKind.i64) (List.getD (List.getD o8 (Int.toNat v40i) []) (Int.toNat v42) (0 : Int))), (12, AV.val Ty.bool false), (35, AV.val (Ty.int IntKind.i64) v35), (40, AV.at_ 8 [Step.idx v40i]), (41, AV.val (Ty.int IntKind.i64) v41), (42, AV.val (Ty.int IntKind.i64) v42), (46, AV.val (Ty.int IntKind.i64) (0 : Int))] [(2, Ent.var (Ty.pair (Ty.pair (Ty.int IntKind.i64) (Ty.pair (Ty.int IntKind.u8) Ty.unit)) (Ty.pair (Ty.int IntKind.u8) (Ty.pair (Ty.arr 6 (Ty.slc false (Ty.int IntKind.i64))) Ty.unit))) ((o2_1_1, o2_1_2_1, ()), o2_2_1, o2_2_2_1, ())), (7, Ent.var (Ty.pair (Ty.pair (Ty.int IntKind.i64) (Ty.pair (Ty.int IntKind.u8) Ty.unit)) (Ty.pair (Ty.int IntKind.u8) (Ty.pair (Ty.arr 6 Is) Ty.unit))) ((o7_1_1, o7_1_2_1, ()), o7_2_1, o7_2_2_1, ())), (8, Ent.var (Ty.arr 6 Is) o8)]))) (.need (inK IntKind.i64 (v35 + (1 : Int))) (.cut (loopAt (bodyOf Try.prog 3) 8).1 (loopAt (bodyOf Try.prog 3) 8).2 (St.mk [(2, AV.ptr 2 []), (7, AV.ptr 7 []), (8, AV.ptr 8 []), (35, AV.val (Ty.int IntKind.i64) (v35 + (1 : Int)))] [(2, Ent.var (Ty.pair (Ty.pair (Ty.int IntKind.i64) (Ty.pair (Ty.int IntKind.u8) Ty.unit)) (Ty.pair (Ty.int IntKind.u8) (Ty.pair (Ty.arr 6 (Ty.slc false (Ty.int IntKind.i64))) Ty.unit))) ((o2_1_1, o2_1_2_1, ()), o2_2_1, o2_2_2_1, ())), (7, Ent.var (Ty.pair (Ty.pair (Ty.int IntKind.i64) (Ty.pair (Ty.int IntKind.u8) Ty.unit)) (Ty.pair (Ty.int IntKind.u8) (Ty.pair (Ty.arr 6 Is) Ty.unit))) ((o7_1_1, o7_1_2_1, ()), o7_2_1, o7_2_2_1, ())), (8, Ent.var (Ty.arr 6 Is) o8)]))) := by kernel_rfl
def EFlushTrue_s15 (v11 : Int) (v12 : Bool) (v35 : Int) (v40i : Int) (v41 : Int) (v42 : Int) (v46 : Int) (o2_1_1 : Int) (o2_1_2_1 : Int) (o2_2_1 : Int) (o2_2_2_1 : List (List Int)) (o7_1_1 : Int) (o7_1_2_1 : Int) (o7_2_1 : Int) (o7_2_2_1 : List (List Int)) (o8 : List (List Int)) : St := St.mk [(2, AV.ptr 2 []), (7, AV.ptr 7 []), (8, AV.ptr 8 []), (11, AV.val (Ty.int IntKind.i64) v11), (12, AV.val Ty.bool v12), (35, AV.val (Ty.int IntKind.i64) v35), (40, AV.at_ 8 [Step.idx v40i]), (41, AV.val (Ty.int IntKind.i64) v41), (42, AV.val (Ty.int IntKind.i64) v42), (46, AV.val (Ty.int IntKind.i64) v46)] [(2, Ent.var (Ty.pair (Ty.pair (Ty.int IntKind.i64) (Ty.pair (Ty.int IntKind.u8) Ty.unit)) (Ty.pair (Ty.int IntKind.u8) (Ty.pair (Ty.arr 6 (Ty.slc false (Ty.int IntKind.i64))) Ty.unit))) ((o2_1_1, o2_1_2_1, ()), o2_2_1, o2_2_2_1, ())), (7, Ent.var (Ty.pair (Ty.pair (Ty.int IntKind.i64) (Ty.pair (Ty.int IntKind.u8) Ty.unit)) (Ty.pair (Ty.int IntKind.u8) (Ty.pair (Ty.arr 6 Is) Ty.unit))) ((o7_1_1, o7_1_2_1, ()), o7_2_1, o7_2_2_1, ())), (8, Ent.var (Ty.arr 6 Is) o8)]
theorem EFlushTrue_l15 (v11 : Int) (v12 : Bool) (v35 : Int) (v40i : Int) (v41 : Int) (v42 : Int) (v46 : Int) (o2_1_1 : Int) (o2_1_2_1 : Int) (o2_2_1 : Int) (o2_2_2_1 : List (List Int)) (o7_1_1 : Int) (o7_1_2_1 : Int) (o7_2_1 : Int) (o7_2_2_1 : List (List Int)) (o8 : List (List Int)) : exec EFlushTrue 1000 (.code (loopAt (bodyOf Try.prog 3) 15).1 :: .inLoop (loopAt (bodyOf Try.prog 3) 15).1 :: (loopAt (bodyOf Try.prog 3) 15).2) (EFlushTrue_s15 v11 v12 v35 v40i v41 v42 v46 o2_1_1 o2_1_2_1 o2_2_1 o2_2_2_1 o7_1_1 o7_1_2_1 o7_2_1 o7_2_2_1 o8) =
  cond (decide (v46 < (6 : Int))) (cond (v12) (.need (inK IntKind.i64 (v46 + (1 : Int))) (.cut (loopAt (bodyOf Try.prog 3) 15).1 (loopAt (bodyOf Try.prog 3) 15).2 (St.mk [(2, AV.ptr 2 []), (7, AV.ptr 7 []), (8, AV.ptr 8 []), (11, AV.val (Ty.int IntKind.i64) v11), (12, AV.val Ty.bool true), (35, AV.val (Ty.int IntKind.i64) v35), (40, AV.at_ 8 [Step.idx v40i]), (41, AV.val (Ty.int IntKind.i64) v41), (42, AV.val (Ty.int IntKind.i64) v42), (46, AV.val (Ty.int IntKind.i64) (v46 + (1 : Int)))] [(2, Ent.var (Ty.pair (Ty.pair (Ty.int IntKind.i64) (Ty.pair (Ty.int IntKind.u8) Ty.unit)) (Ty.pair (Ty.int IntKind.u8) (Ty.pair (Ty.arr 6 (Ty.slc false (Ty.int IntKind.i64))) Ty.unit))) ((o2_1_1, o2_1_2_1, ()), o2_2_1, o2_2_2_1, ())), (7, Ent.var (Ty.pair (Ty.pair (Ty.int IntKind.i64) (Ty.pair (Ty.int IntKind.u8) Ty.unit)) (Ty.pair (Ty.int IntKind.u8) (Ty.pair (Ty.arr 6 Is) Ty.unit))) ((o7_1_1, o7_1_2_1, ()), o7_2_1, o7_2_2_1, ())), (8, Ent.var (Ty.arr 6 Is) o8)]))) (.need ((0 : Int) ≤ v46) (cond (decide (bAnd IntKind.u8 (bAndNot IntKind.u8 o2_1_2_1 o2_2_1 / (2 : Int) ^ min (Int.toNat v46) (IntKind.bits IntKind.u8)) (1 : Int) = (1 : Int))) (.need ((0 : Int) ≤ v46 ∧ v46 < (↑6 : Int)) (.need (True) (.need (inK IntKind.i64 (v46 + (1 : Int))) (.cut (loopAt (bodyOf Try.prog 3) 15).1 (loopAt (bodyOf Try.prog 3) 15).2 (St.mk [(2, AV.ptr 2 []), (7, AV.ptr 7 []), (8, AV.ptr 8 []), (11, AV.val (Ty.int IntKind.i64) v11), (12, AV.val Ty.bool (decide (v11 ∈ List.getD o2_2_2_1 (Int.toNat v46) []))), (35, AV.val (Ty.int IntKind.i64) v35), (40, AV.at_ 8 [Step.idx v40i]), (41, AV.val (Ty.int IntKind.i64) v41), (42, AV.val (Ty.int IntKind.i64) v42), (46, AV.val (Ty.int IntKind.i64) (v46 + (1 : Int)))] [(2, Ent.var (Ty.pair (Ty.pair (Ty.int IntKind.i64) (Ty.pair (Ty.int IntKind.u8) Ty.unit)) (Ty.pair (Ty.int IntKind.u8) (Ty.pair (Ty.arr 6 (Ty.slc false (Ty.int IntKind.i64))) Ty.unit))) ((o2_1_1, o2_1_2_1, ()), o2_2_1, o2_2_2_1, ())), (7, Ent.var (Ty.pair (Ty.pair (Ty.int IntKind.i64) (Ty.pair (Ty.int IntKind.u8) Ty.unit)) (Ty.pair (Ty.int IntKind.u8) (Ty.pair (Ty.arr 6 Is) Ty.unit))) ((o7_1_1, o7_1_2_1, ()), o7_2_1, o7_2_2_1, ())), (8, Ent.var (Ty.arr 6 Is) o8)]))))) (.need (inK IntKind.i64 (v46 + (1 : Int))) (.cut (loopAt (bodyOf Try.prog 3) 15).1 (loopAt (bodyOf Try.prog 3) 15).2 (St.mk [(2, AV.ptr 2 []), (7, AV.ptr 7 []), (8, AV.ptr 8 []), (11, AV.val (Ty.int IntKind.i64) v11), (12, AV.val Ty.bool false), (35, AV.val (Ty.int IntKind.i64) v35), (40, AV.at_ 8 [Step.idx v40i]), (41, AV.val (Ty.int IntKind.i64) v41), (42, AV.val (Ty.int IntKind.i64) v42), (46, AV.val (Ty.int IntKind.i64) (v46 + (1 : Int)))] [(2, Ent.var (Ty.pair (Ty.pair (Ty.int IntKind.i64) (Ty.pair (Ty.int IntKind.u8) Ty.unit)) (Ty.pair (Ty.int IntKind.u8) (Ty.pair (Ty.arr 6 (Ty.slc false (Ty.int IntKind.i64))) Ty.unit))) ((o2_1_1, o2_1_2_1, ()), o2_2_1, o2_2_2_1, ())), (7, Ent.var (Ty.pair (Ty.pair (Ty.int IntKind.i64) (Ty.pair (Ty.int IntKind.u8) Ty.unit)) (Ty.pair (Ty.int IntKind.u8) (Ty.pair (Ty.arr 6 Is) Ty.unit))) ((o7_1_1, o7_1_2_1, ()), o7_2_1, o7_2_2_1, ())), (8, Ent.var (Ty.arr 6 Is) o8)])))))) (cond (!v12) (.ret ((false, ()))) (.need (inK IntKind.i64 (v42 + (1 : Int))) (.cut (loopAt (bodyOf Try.prog 3) 11).1 (loopAt (bodyOf Try.prog 3) 11).2 (St.mk [(2, AV.ptr 2 []), (7, AV.ptr 7 []), (8, AV.ptr 8 []), (35, AV.val (Ty.int IntKind.i64) v35), (40, AV.at_ 8 [Step.idx v40i]), (41, AV.val (Ty.int IntKind.i64) v41), (42, AV.val (Ty.int IntKind.i64) (v42 + (1 : Int)))] [(2, Ent.var (Ty.pair (Ty.pair (Ty.int IntKind.i64) (Ty.pair (Ty.int IntKind.u8) Ty.unit)) (Ty.pair (Ty.int IntKind.u8) (Ty.pair (Ty.arr 6 (Ty.slc false (Ty.int IntKind.i64))) Ty.unit))) ((o2_1_1, o2_1_2_1, ()), o2_2_1, o2_2_2_1, ())), (7, Ent.var (Ty.pair (Ty.pair (Ty.int IntKind.i64) (Ty.pair (Ty.int IntKind.u8) Ty.unit)) (Ty.pair (Ty.int IntKind.u8) (Ty.pair (Ty.arr 6 Is) Ty.unit))) ((o7_1_1, o7_1_2_1, ()), o7_2_1, o7_2_2_1, ())), (8, Ent.var (Ty.arr 6 Is) o8)])))) := by kernel_rfl
def hasB (L : Int) (T : List (List Int)) (m : Int) : Nat → Bool
  | 0 => false
  | q + 1 => hasB L T m q || (decide (lft L q = 1) && decide (m ∈ T.getD q []))
theorem hasB_mem {L : Int} {T : List (List Int)} {m : Int} {q : Nat} (h1 : lft L q = 1) (h2 : m ∈ T.getD q []) : ∀ {n : Nat}, q < n → hasB L T m n = true
  | 0, h => by omega
  | n + 1, h => by
    rw [hasB]
    by_cases e : q = n
    · subst e; rw [decide_eq_true h1, decide_eq_true h2]; simp
    · rw [hasB_mem h1 h2 (by omega)]; rfl
theorem nextV_ok {v : ViewD} {g c : Int} (h : (nextV v g c).2.1 = 0) : 0 ≤ v.1 ∧ v.1 ≤ 16777214 ∧ (nextV v g c).1.1 = v.1 + 1 := by
  unfold nextV at h ⊢
  split at h
  · exact absurd h (by assumption)
  rename_i c1
  rw [if_neg c1]
  split at h
  · cases h
  rename_i c2
  rw [if_neg c2]
  split at h
  · cases h
  rename_i c3
  rw [if_neg c3]
  split at h
  · cases h
  rename_i c4
  rw [if_neg c4]
  split at h
  · cases h
  rename_i c5
  rw [if_neg c5]
  have := vcheck_inv (Decidable.not_not.1 c1)
  exact ⟨this.1, by omega, rfl⟩
theorem cFlushTrue_valid : cFlushTrue.Valid Try.prog 3 := by
  refine Ctr.valid_of EFlushTrue_ok rfl rfl Try.func3 (c := bodyOf Try.prog 3) rfl rfl FFlushTrue_ok rfl ?_
  rintro ⟨⟨⟨(num : Int), (M : Int), ⟨⟩⟩, (g : Int), (T : List (List Int)), ⟨⟩⟩, (c : Int), ⟨⟩⟩ - -
  refine exec_sound (n := 1000) EFlushTrue_ok FFlushTrue_ok ?_
  refine holds_of_eq (EFlushTrue_t num M g T c) ?_
  have hd : fchange ((num, M, ()), g, T, ()) c = if fcheck ((num, M, ()), g, T, ()) ≠ 0 then (flush0, no6, fcheck ((num, M, ()), g, T, ()), ()) else if (nextV (num, M, ()) g c).2.1 ≠ 0 then (flush0, no6, (nextV (num, M, ()) g c).2.1, ()) else
    (((nextV (num, M, ()) g c).1, 0, no6, ()), outs (bAndNot .u8 M g) (allIn (bAndNot .u8 M g) T 6) T 6, 0, ()) := rfl
  simp only [holds_cond, Tree.holds, true_and, true_implies, decide_eq_true_eq, decide_eq_false_iff_not, Bool.not_eq_true', Bool.not_eq_false', Int.toNat_natCast, inK_i64, List.length_set, List.length_cons, List.length_nil]
  refine ⟨fun _ => rfl, fun a => ?_⟩
  by_cases f1 : fcheck ((num, M, ()), g, T, ()) ≠ 0
  · rw [hd, if_pos f1] at a; exact absurd f1 a
  rw [if_neg f1] at hd
  by_cases f2 : (nextV (num, M, ()) g c).2.1 ≠ 0
  · rw [hd, if_pos f2] at a; exact absurd f2 a
  rw [if_neg f2] at hd
  clear a
  have hv := nextV_ok (Decidable.not_not.1 f2)
  have hlen : ∀ q, q < 6 → (T.getD q []).length ≤ 30 := fun q hq => fcheck_len (Decidable.not_not.1 f1) hq
  have hmsg : ∀ q, q < 6 → ∀ x ∈ T.getD q [], 0 ≤ x ∧ x ≤ 29 := fun q hq x hx => by
    obtain ⟨k, hk, rfl⟩ := List.getElem_of_mem hx
    have := fcheck_msgs (Decidable.not_not.1 f1) hq hk
    rw [List.getD_eq_getElem?_getD, List.getElem?_eq_getElem hk] at this; exact this
  rw [hd]
  generalize (nextV (num, M, ()) g c).1 = V at *
  obtain ⟨vn, vm, vu⟩ := V
  simp only at hv
  have hO : ∀ p, p < 6 → ∀ x ∈ (outs (bAndNot .u8 M g) (allIn (bAndNot .u8 M g) T 6) T 6).getD p [], hasB (bAndNot .u8 M g) T x 6 = true := fun p hp x hx => by
    rw [outs_at (by omega) hp, if_pos hp] at hx
    obtain ⟨k, rfl, hk, h3⟩ := outP_mem hx
    obtain ⟨q, h1, h2, h4⟩ := allIn_true hk hmsg h3
    exact hasB_mem h2 h4 h1
  have hOl : ∀ p, p < 6 → ((outs (bAndNot .u8 M g) (allIn (bAndNot .u8 M g) T 6) T 6).getD p []).length ≤ 30 := fun p hp => by
    rw [outs_at (by omega) hp, if_pos hp]; exact outP_len
  generalize outs (bAndNot .u8 M g) (allIn (bAndNot .u8 M g) T 6) T 6 = O at *
  refine Reach.loopI EFlushTrue_ok FFlushTrue_ok (fun p : Nat => EFlushTrue_s8 (p : Int) num M g T vn vm 0 no6 O) (fun p => p ≤ 6) (fun p => 6 - p) 1000 (fun _ => ⟨uniq_of rfl, uniq_of rfl⟩) ?_ 0 (by omega)
  rintro p k1 - ih
  have k1 : p ≤ 6 := k1
  refine holds_of_eq (EFlushTrue_l8 ..) ?_
  simp only [holds_cond, Tree.holds, true_and, true_implies, decide_eq_true_eq, decide_eq_false_iff_not, Bool.not_eq_true', Bool.not_eq_false', Int.toNat_natCast, inK_i64, List.length_set, List.length_cons, List.length_nil]
  refine ⟨fun h => ⟨by omega, fun _ => ?_⟩, fun h => ⟨⟨by omega, fun _ => yesd hv.2.2⟩, fun e => absurd trivial e⟩⟩
  have next := ih (p + 1) (by show p + 1 ≤ 6; omega) (by omega)
  have hp : p < 6 := by omega
  have hOp := hO p hp
  have hOlp := hOl p hp
  refine Reach.loopI EFlushTrue_ok FFlushTrue_ok (fun k : Nat => EFlushTrue_s11 (p : Int) (p : Int) ((O.getD p []).length : Int) (k : Int) num M g T vn vm 0 no6 O) (fun k => k ≤ (O.getD p []).length) (fun k => (O.getD p []).length - k) 1000 (fun _ => ⟨uniq_of rfl, uniq_of rfl⟩) ?_ 0 (by omega)
  rintro k j1 - ih2
  have j1 : k ≤ (O.getD p []).length := j1
  refine holds_of_eq (EFlushTrue_l11 ..) ?_
  simp only [holds_cond, Tree.holds, true_and, true_implies, decide_eq_true_eq, decide_eq_false_iff_not, Bool.not_eq_true', Bool.not_eq_false', Int.toNat_natCast, inK_i64, List.length_set, List.length_cons, List.length_nil]
  refine ⟨fun h2 => ⟨by omega, fun _ => ?_⟩, fun h2 => ⟨by omega, fun _ => next⟩⟩
  have hk : k < (O.getD p []).length := by omega
  have next2 := ih2 (k + 1) (by show k + 1 ≤ (O.getD p []).length; omega) (by omega)
  have hx := hOp ((O.getD p []).getD k 0) (getD_mem hk)
  generalize (O.getD p []).getD k 0 = x at *
  refine Reach.loopI EFlushTrue_ok FFlushTrue_ok (fun q : Nat => EFlushTrue_s15 x (hasB (bAndNot .u8 M g) T x q) (p : Int) (p : Int) ((O.getD p []).length : Int) (k : Int) (q : Int) num M g T vn vm 0 no6 O) (fun q => q ≤ 6) (fun q => 6 - q) 1000 (fun _ => ⟨uniq_of rfl, uniq_of rfl⟩) ?_ 0 (by omega)
  rintro q i1 - ih3
  have i1 : q ≤ 6 := i1
  refine holds_of_eq (EFlushTrue_l15 ..) ?_
  have next3 : q < 6 → _ := fun hq => ih3 (q + 1) (by show q + 1 ≤ 6; omega) (by omega)
  simp only [holds_cond, Tree.holds, true_and, true_implies, decide_eq_true_eq, decide_eq_false_iff_not, Bool.not_eq_true', Bool.not_eq_false', Int.toNat_natCast, inK_i64, List.length_set, List.length_cons, List.length_nil]
  refine ⟨fun h3 => ?_, fun h3 => ?_⟩
  · have next3 := next3 (by omega)
    rw [hasB] at next3
    refine ⟨fun e => ⟨by omega, fun _ => ?_⟩, fun e => ⟨by omega, fun _ => ⟨fun e2 => ⟨by omega, fun _ => ⟨by omega, fun _ => ?_⟩⟩, fun e2 => ⟨by omega, fun _ => ?_⟩⟩⟩⟩
    · rw [e, Bool.true_or] at next3; exact next3
    · rw [e, Bool.false_or, decide_eq_true (show lft (bAndNot .u8 M g) q = 1 from e2), Bool.true_and] at next3; exact next3
    · rw [e, Bool.false_or, decide_eq_false (show ¬ lft (bAndNot .u8 M g) q = 1 from e2), Bool.false_and] at next3; exact next3
  · have e : q = 6 := by omega
    subst e
    exact ⟨fun h => absurd (h.symm.trans hx) (by decide), fun _ => ⟨by omega, fun _ => next2⟩⟩
end Go.Proofs.Ytbcdpeogfghgcaa
