/- MatAll: the walks. -/
import Derived.Test.YtibpibbnnogdkaaMatB
import Derived.Test.YtibpibbnnogdkaaMatT
namespace Go.Proofs.Ytibpibbnnogdkaa
open Go.Ex
set_option maxRecDepth 100000
theorem wb_kn : Ty.wb Event = 24 := rfl
theorem bulkL_len {α : Type} {f : α → Nat} {c : Nat} (h : ∀ x, c ≤ f x) : ∀ l : List α, l.length * c ≤ bulkL f l
  | [] => by simp [bulkL]
  | x :: l => by have := bulkL_len h l; have := h x; simp only [List.length_cons, bulkL, Nat.succ_mul]; omega
def cclone : Ctr := { ps := [.v Es], rs := [.slc true Event], pre := fun x => List.length x.1 ≤ 1048576, fn := fun x => (x.1, ()), out := fun _ => () }
noncomputable def Eclone : Env := { P := Try.prog, tt := tt, ctr := [], res := [Go.ResultVar.tmp 2], rs := [Ty.slc true Event], ps := [PK.v Es], cuts := [], nt := 8 }
theorem Eclone_ok : EnvOk Eclone := envOk tt_ok trivial
theorem Fclone_ok : FnOk Eclone Try.f32 := ⟨rfl, rfl⟩
theorem Eclone_t (x0 : List (Int × Int × Int × Unit)) : exec Eclone 1000 [.code (bodyOf Try.prog 32)] (initSt cclone.ps ((x0, ()))) =
  .both (x0 = []) (.ret (([], ()))) (.need ((0 : Nat) + List.length x0 ≤ 140737488355328 ∧ ((0 : Nat) + List.length x0) * Ty.wb Event ≤ 140737488355328) (.ret (([] ++ x0, ())))) := by kernel_rfl
theorem cclone_valid : cclone.Valid Try.prog 32 := by
  refine Ctr.valid_of Eclone_ok rfl rfl Try.func32 (c := bodyOf Try.prog 32) rfl rfl Fclone_ok rfl ?_
  rintro ⟨(l : List Ev), ⟨⟩⟩ hp -
  have hp : l.length ≤ 1048576 := hp
  refine exec_sound (n := 1000) Eclone_ok Fclone_ok ?_
  refine holds_of_eq (Eclone_t l) ?_
  simp only [holds_cond, Tree.holds, true_and, true_implies, decide_eq_true_eq, decide_eq_false_iff_not, Bool.not_eq_true', Bool.not_eq_false', Int.toNat_natCast, inK_i64, List.length_set, List.length_cons, List.length_nil, wb_kn]
  refine ⟨fun h => ?_, by omega, fun _ => rfl⟩
  show (([], ()) : List Ev × Unit) = (l, ())
  rw [show l = [] from h]
def cMatAll : Ctr := smallC [I64, Es]
noncomputable def EMatAll : Env := { P := Try.prog, tt := tt, ctr := [(29, cfew), (28, cknow), (21, cmfirm), (30, cmcheck), (32, cclone)], res := [Go.ResultVar.tmp 4], rs := [Ty.bool], ps := [PK.v (Ty.int IntKind.i64), PK.v Es], cuts := [(7, [(0, none), (9, some (Ty.slc true Event)), (45, none), (46, none)]), (9, [(0, none), (9, some (Ty.slc true Event)), (45, none), (46, none), (48, none), (49, none)]), (12, [(0, none), (9, some (Ty.slc true Event)), (10, none), (45, none), (46, none), (48, none), (49, none), (52, none), (53, none)]), (22, [(0, none), (13, some Is), (75, some (Ty.slc true Matrix)), (76, none), (77, none)]), (26, [(0, none), (13, some Is), (18, none), (19, none), (75, some (Ty.slc true Matrix)), (76, none), (77, none), (86, none), (87, none)])], nt := 104 }
theorem EMatAll_ok : EnvOk EMatAll := envOk tt_ok ⟨cfew_valid, cknow_valid, cmfirm_valid, cmcheck_valid, cclone_valid, trivial⟩
theorem FMatAll_ok : FnOk EMatAll Try.f8 := ⟨rfl, rfl⟩
theorem EMatAll_t (x0 : Int) (x1 : List (Int × Int × Int × Unit)) : exec EMatAll 1000 [.code (bodyOf Try.prog 8)] (initSt cMatAll.ps ((x0, x1, ()))) =
  .need ((1 : Int) ≤ (1 : Int) ∧ (1 : Int) ≤ (6 : Int)) (.need ((0 : Int) ≤ (0 : Int) ∧ (0 : Int) < (↑(List.length (Prod.fst (kknow (1 : Int) (List.set [((0 : Int), (0 : Int), (0 : Int), ())] (Int.toNat (↑0 : Int)) ((0 : Int), (0 : Int), (0 : Int), ()))))) : Int)) (.need ((0 : Int) ≤ (0 : Int) ∧ (0 : Int) < (↑6 : Int)) (.need ((0 : Int) ≤ (0 : Int) ∧ (0 : Int) < (↑6 : Int)) (.need (True) (.need (List.length x1 ≤ 1048576) (.need (inK IntKind.i64 ((2 : Int) * few x0)) (.cut (loopAt (bodyOf Try.prog 8) 7).1 (loopAt (bodyOf Try.prog 8) 7).2 (St.mk [(0, AV.val (Ty.int IntKind.i64) (few x0)), (9, AV.at_ 1000009 []), (45, AV.val (Ty.int IntKind.i64) ((2 : Int) * few x0)), (46, AV.val (Ty.int IntKind.i64) (0 : Int))] [(1000009, Ent.own (Ty.slc true Event) x1)])))))))) := by kernel_rfl
def EMatAll_s7 (v0 : Int) (v45 : Int) (v46 : Int) (o1000009 : List (Int × Int × Int × Unit)) : St := St.mk [(0, AV.val (Ty.int IntKind.i64) v0), (9, AV.at_ 1000009 []), (45, AV.val (Ty.int IntKind.i64) v45), (46, AV.val (Ty.int IntKind.i64) v46)] [(1000009, Ent.own (Ty.slc true Event) o1000009)]
theorem EMatAll_l7 (v0 : Int) (v45 : Int) (v46 : Int) (o1000009 : List (Int × Int × Int × Unit)) : exec EMatAll 1000 (.code (loopAt (bodyOf Try.prog 8) 7).1 :: .inLoop (loopAt (bodyOf Try.prog 8) 7).1 :: (loopAt (bodyOf Try.prog 8) 7).2) (EMatAll_s7 v0 v45 v46 o1000009) =
  cond (decide (v46 < v45)) (.cut (loopAt (bodyOf Try.prog 8) 9).1 (loopAt (bodyOf Try.prog 8) 9).2 (St.mk [(0, AV.val (Ty.int IntKind.i64) v0), (9, AV.at_ 1000009 []), (45, AV.val (Ty.int IntKind.i64) v45), (46, AV.val (Ty.int IntKind.i64) v46), (48, AV.val (Ty.int IntKind.i64) v0), (49, AV.val (Ty.int IntKind.i64) (0 : Int))] [(1000009, Ent.own (Ty.slc true Event) o1000009)])) (.need ((1 : Int) ≤ v0 ∧ v0 ≤ (6 : Int)) (.cut (loopAt (bodyOf Try.prog 8) 22).1 (loopAt (bodyOf Try.prog 8) 22).2 (St.mk [(0, AV.val (Ty.int IntKind.i64) v0), (13, AV.at_ 1000013 []), (75, AV.at_ 1000075 []), (76, AV.val (Ty.int IntKind.i64) (↑(List.length (Prod.fst (kknow v0 o1000009))) : Int)), (77, AV.val (Ty.int IntKind.i64) (0 : Int))] [(1000013, Ent.own Is (Prod.fst (Prod.snd (kknow v0 o1000009)))), (1000075, Ent.own (Ty.slc true Matrix) (Prod.fst (kknow v0 o1000009)))]))) := by kernel_rfl
def EMatAll_s9 (v0 : Int) (v45 : Int) (v46 : Int) (v48 : Int) (v49 : Int) (o1000009 : List (Int × Int × Int × Unit)) : St := St.mk [(0, AV.val (Ty.int IntKind.i64) v0), (9, AV.at_ 1000009 []), (45, AV.val (Ty.int IntKind.i64) v45), (46, AV.val (Ty.int IntKind.i64) v46), (48, AV.val (Ty.int IntKind.i64) v48), (49, AV.val (Ty.int IntKind.i64) v49)] [(1000009, Ent.own (Ty.slc true Event) o1000009)]
theorem EMatAll_l9 (v0 : Int) (v45 : Int) (v46 : Int) (v48 : Int) (v49 : Int) (o1000009 : List (Int × Int × Int × Unit)) : exec EMatAll 1000 (.code (loopAt (bodyOf Try.prog 8) 9).1 :: .inLoop (loopAt (bodyOf Try.prog 8) 9).1 :: (loopAt (bodyOf Try.prog 8) 9).2) (EMatAll_s9 v0 v45 v46 v48 v49 o1000009) =
  cond (decide (v49 < v48)) (.cut (loopAt (bodyOf Try.prog 8) 12).1 (loopAt (bodyOf Try.prog 8) 12).2 (St.mk [(0, AV.val (Ty.int IntKind.i64) v0), (9, AV.at_ 1000009 []), (10, AV.val (Ty.int IntKind.i64) v49), (45, AV.val (Ty.int IntKind.i64) v45), (46, AV.val (Ty.int IntKind.i64) v46), (48, AV.val (Ty.int IntKind.i64) v48), (49, AV.val (Ty.int IntKind.i64) v49), (52, AV.val (Ty.int IntKind.i64) v0), (53, AV.val (Ty.int IntKind.i64) (0 : Int))] [(1000009, Ent.own (Ty.slc true Event) o1000009)])) (.need (inK IntKind.i64 (v46 + (1 : Int))) (.cut (loopAt (bodyOf Try.prog 8) 7).1 (loopAt (bodyOf Try.prog 8) 7).2 (St.mk [(0, AV.val (Ty.int IntKind.i64) v0), (9, AV.at_ 1000009 []), (45, AV.val (Ty.int IntKind.i64) v45), (46, AV.val (Ty.int IntKind.i64) (v46 + (1 : Int)))] [(1000009, Ent.own (Ty.slc true Event) o1000009)]))) := by kernel_rfl
def EMatAll_s22 (v0 : Int) (v76 : Int) (v77 : Int) (o1000013 : List Int) (o1000075 : List (Int × Int × List (List Int) × Unit)) : St := St.mk [(0, AV.val (Ty.int IntKind.i64) v0), (13, AV.at_ 1000013 []), (75, AV.at_ 1000075 []), (76, AV.val (Ty.int IntKind.i64) v76), (77, AV.val (Ty.int IntKind.i64) v77)] [(1000013, Ent.own Is o1000013), (1000075, Ent.own (Ty.slc true Matrix) o1000075)]
theorem EMatAll_l22 (v0 : Int) (v76 : Int) (v77 : Int) (o1000013 : List Int) (o1000075 : List (Int × Int × List (List Int) × Unit)) : exec EMatAll 1000 (.code (loopAt (bodyOf Try.prog 8) 22).1 :: .inLoop (loopAt (bodyOf Try.prog 8) 22).1 :: (loopAt (bodyOf Try.prog 8) 22).2) (EMatAll_s22 v0 v76 v77 o1000013 o1000075) =
  cond (decide (v77 < v76)) (.need ((0 : Int) ≤ v77 ∧ v77 < (↑(List.length o1000075) : Int)) (.need (True) (.cut (loopAt (bodyOf Try.prog 8) 26).1 (loopAt (bodyOf Try.prog 8) 26).2 (St.mk [(0, AV.val (Ty.int IntKind.i64) v0), (13, AV.at_ 1000013 []), (18, AV.ptr 18 []), (19, AV.val (Ty.int IntKind.i64) (Prod.fst (Prod.snd (mfirm (List.getD o1000075 (Int.toNat v77) ((0 : Int), (0 : Int), [[(0 : Int), (0 : Int), (0 : Int), (0 : Int), (0 : Int), (0 : Int)], [(0 : Int), (0 : Int), (0 : Int), (0 : Int), (0 : Int), (0 : Int)], [(0 : Int), (0 : Int), (0 : Int), (0 : Int), (0 : Int), (0 : Int)], [(0 : Int), (0 : Int), (0 : Int), (0 : Int), (0 : Int), (0 : Int)], [(0 : Int), (0 : Int), (0 : Int), (0 : Int), (0 : Int), (0 : Int)], [(0 : Int), (0 : Int), (0 : Int), (0 : Int), (0 : Int), (0 : Int)]], ())))))), (75, AV.at_ 1000075 []), (76, AV.val (Ty.int IntKind.i64) v76), (77, AV.val (Ty.int IntKind.i64) v77), (86, AV.val (Ty.int IntKind.i64) v0), (87, AV.val (Ty.int IntKind.i64) (0 : Int))] [(18, Ent.var Vec (Prod.fst (mfirm (List.getD o1000075 (Int.toNat v77) ((0 : Int), (0 : Int), [[(0 : Int), (0 : Int), (0 : Int), (0 : Int), (0 : Int), (0 : Int)], [(0 : Int), (0 : Int), (0 : Int), (0 : Int), (0 : Int), (0 : Int)], [(0 : Int), (0 : Int), (0 : Int), (0 : Int), (0 : Int), (0 : Int)], [(0 : Int), (0 : Int), (0 : Int), (0 : Int), (0 : Int), (0 : Int)], [(0 : Int), (0 : Int), (0 : Int), (0 : Int), (0 : Int), (0 : Int)], [(0 : Int), (0 : Int), (0 : Int), (0 : Int), (0 : Int), (0 : Int)]], ()))))), (1000013, Ent.own Is o1000013), (1000075, Ent.own (Ty.slc true Matrix) o1000075)])))) (.ret ((true, ()))) := by kernel_rfl
def EMatAll_s12 (v0 : Int) (v10 : Int) (v45 : Int) (v46 : Int) (v48 : Int) (v49 : Int) (v52 : Int) (v53 : Int) (o1000009 : List (Int × Int × Int × Unit)) : St := St.mk [(0, AV.val (Ty.int IntKind.i64) v0), (9, AV.at_ 1000009 []), (10, AV.val (Ty.int IntKind.i64) v10), (45, AV.val (Ty.int IntKind.i64) v45), (46, AV.val (Ty.int IntKind.i64) v46), (48, AV.val (Ty.int IntKind.i64) v48), (49, AV.val (Ty.int IntKind.i64) v49), (52, AV.val (Ty.int IntKind.i64) v52), (53, AV.val (Ty.int IntKind.i64) v53)] [(1000009, Ent.own (Ty.slc true Event) o1000009)]
theorem EMatAll_l12 (v0 : Int) (v10 : Int) (v45 : Int) (v46 : Int) (v48 : Int) (v49 : Int) (v52 : Int) (v53 : Int) (o1000009 : List (Int × Int × Int × Unit)) : exec EMatAll 1000 (.code (loopAt (bodyOf Try.prog 8) 12).1 :: .inLoop (loopAt (bodyOf Try.prog 8) 12).1 :: (loopAt (bodyOf Try.prog 8) 12).2) (EMatAll_s12 v0 v10 v45 v46 v48 v49 v52 v53 o1000009) =
  cond (decide (v53 < v52)) (.need (List.length o1000009 + List.length (List.set [((0 : Int), (0 : Int), (0 : Int), ())] (Int.toNat (↑0 : Int)) ((1 : Int), v10, v53, ())) ≤ 140737488355328 ∧ (List.length o1000009 + List.length (List.set [((0 : Int), (0 : Int), (0 : Int), ())] (Int.toNat (↑0 : Int)) ((1 : Int), v10, v53, ()))) * Ty.wb Event ≤ 140737488355328) (.need (inK IntKind.i64 (v53 + (1 : Int))) (.cut (loopAt (bodyOf Try.prog 8) 12).1 (loopAt (bodyOf Try.prog 8) 12).2 (St.mk [(0, AV.val (Ty.int IntKind.i64) v0), (9, AV.at_ 1000009 []), (10, AV.val (Ty.int IntKind.i64) v10), (45, AV.val (Ty.int IntKind.i64) v45), (46, AV.val (Ty.int IntKind.i64) v46), (48, AV.val (Ty.int IntKind.i64) v48), (49, AV.val (Ty.int IntKind.i64) v49), (52, AV.val (Ty.int IntKind.i64) v52), (53, AV.val (Ty.int IntKind.i64) (v53 + (1 : Int)))] [(1000009, Ent.own (Ty.slc true Event) (o1000009 ++ List.set [((0 : Int), (0 : Int), (0 : Int), ())] (Int.toNat (↑0 : Int)) ((1 : Int), v10, v53, ())))])))) (.need (inK IntKind.i64 (v49 + (1 : Int))) (.cut (loopAt (bodyOf Try.prog 8) 9).1 (loopAt (bodyOf Try.prog 8) 9).2 (St.mk [(0, AV.val (Ty.int IntKind.i64) v0), (9, AV.at_ 1000009 []), (45, AV.val (Ty.int IntKind.i64) v45), (46, AV.val (Ty.int IntKind.i64) v46), (48, AV.val (Ty.int IntKind.i64) v48), (49, AV.val (Ty.int IntKind.i64) (v49 + (1 : Int)))] [(1000009, Ent.own (Ty.slc true Event) o1000009)]))) := by kernel_rfl
def EMatAll_s26 (v0 : Int) (v19 : Int) (v76 : Int) (v77 : Int) (v86 : Int) (v87 : Int) (o18 : List Int) (o1000013 : List Int) (o1000075 : List (Int × Int × List (List Int) × Unit)) : St := St.mk [(0, AV.val (Ty.int IntKind.i64) v0), (13, AV.at_ 1000013 []), (18, AV.ptr 18 []), (19, AV.val (Ty.int IntKind.i64) v19), (75, AV.at_ 1000075 []), (76, AV.val (Ty.int IntKind.i64) v76), (77, AV.val (Ty.int IntKind.i64) v77), (86, AV.val (Ty.int IntKind.i64) v86), (87, AV.val (Ty.int IntKind.i64) v87)] [(18, Ent.var Vec o18), (1000013, Ent.own Is o1000013), (1000075, Ent.own (Ty.slc true Matrix) o1000075)]
theorem EMatAll_l26 (v0 : Int) (v19 : Int) (v76 : Int) (v77 : Int) (v86 : Int) (v87 : Int) (o18 : List Int) (o1000013 : List Int) (o1000075 : List (Int × Int × List (List Int) × Unit)) : exec EMatAll 1000 (.code (loopAt (bodyOf Try.prog 8) 26).1 :: .inLoop (loopAt (bodyOf Try.prog 8) 26).1 :: (loopAt (bodyOf Try.prog 8) 26).2) (EMatAll_s26 v0 v19 v76 v77 v86 v87 o18 o1000013 o1000075) =
  cond (decide (v87 < v86)) (cond (decide (v19 ≠ (0 : Int))) (.ret ((false, ()))) (.need ((0 : Int) ≤ v87 ∧ v87 < (↑6 : Int)) (.need ((0 : Int) ≤ v87 ∧ v87 < (↑(List.length o1000013) : Int)) (cond (decide (List.getD o18 (Int.toNat v87) (0 : Int) ≠ List.getD o1000013 (Int.toNat v87) (0 : Int))) (.ret ((false, ()))) (.need (inK IntKind.i64 (v87 + (1 : Int))) (.cut (loopAt (bodyOf Try.prog 8) 26).1 (loopAt (bodyOf Try.prog 8) 26).2 (St.mk [(0, AV.val (Ty.int IntKind.i64) v0), (13, AV.at_ 1000013 []), (18, AV.ptr 18 []), (19, AV.val (Ty.int IntKind.i64) v19), (75, AV.at_ 1000075 []), (76, AV.val (Ty.int IntKind.i64) v76), (77, AV.val (Ty.int IntKind.i64) v77), (86, AV.val (Ty.int IntKind.i64) v86), (87, AV.val (Ty.int IntKind.i64) (v87 + (1 : Int)))] [(18, Ent.var Vec o18), (1000013, Ent.own Is o1000013), (1000075, Ent.own (Ty.slc true Matrix) o1000075)]))))))) (.need (inK IntKind.i64 (v77 + (1 : Int))) (.cut (loopAt (bodyOf Try.prog 8) 22).1 (loopAt (bodyOf Try.prog 8) 22).2 (St.mk [(0, AV.val (Ty.int IntKind.i64) v0), (13, AV.at_ 1000013 []), (75, AV.at_ 1000075 []), (76, AV.val (Ty.int IntKind.i64) v76), (77, AV.val (Ty.int IntKind.i64) (v77 + (1 : Int)))] [(1000013, Ent.own Is o1000013), (1000075, Ent.own (Ty.slc true Matrix) o1000075)]))) := by kernel_rfl
theorem cMatAll_valid : (smallC [I64, Es]).Valid Try.prog 8 := by
  refine Ctr.valid_of EMatAll_ok rfl rfl Try.func8 (c := bodyOf Try.prog 8) rfl rfl FMatAll_ok rfl ?_
  rintro ⟨(x : Int), (l : List Ev), ⟨⟩⟩ hp -
  have hlen : l.length ≤ 1048576 := by
    have h1 : 1 + ((bulkL (Ty.bulk Event) l + 1) + 0) ≤ 1048576 := hp
    have h2 := bulkL_len (f := Ty.bulk Event) (c := 1) (fun x => by show 1 ≤ 1 + (1 + (1 + 0)); omega) l
    omega
  refine exec_sound (n := 1000) EMatAll_ok FMatAll_ok ?_
  refine holds_of_eq (EMatAll_t x l) ?_
  have hf := few_in x
  simp only [holds_cond, Tree.holds, true_and, true_implies, decide_eq_true_eq, decide_eq_false_iff_not, Bool.not_eq_true', Bool.not_eq_false', Int.toNat_natCast, inK_i64, List.length_set, List.length_cons, List.length_nil]
  generalize few x = n at *
  obtain ⟨N, rfl⟩ : ∃ N : Nat, n = N := ⟨n.toNat, by omega⟩
  refine ⟨by decide +kernel, fun _ => ⟨by decide +kernel, fun _ => ⟨by decide, fun _ => ⟨by decide, fun _ => ⟨hlen, fun _ => ⟨by omega, fun _ => ?_⟩⟩⟩⟩⟩⟩
  refine Reach.loopI EMatAll_ok FMatAll_ok (fun s : Nat × List Ev => EMatAll_s7 (N : Int) (2 * (N : Int)) (s.1 : Int) s.2) (fun s => s.1 ≤ 2 * N ∧ s.2 = l ++ mrounds N s.1) (fun s => 2 * N - s.1) 1000 (fun _ => ⟨uniq_of rfl, uniq_of rfl⟩) ?_ (0, l) ⟨by simp, by simp [mrounds]⟩
  rintro ⟨i, o⟩ ⟨k1, k2⟩ - ih
  have k1 : i ≤ 2 * N := k1
  have k2 : o = l ++ mrounds N i := k2
  have hNN : N * N ≤ 36 := Nat.mul_le_mul (by omega : N ≤ 6) (by omega : N ≤ 6)
  have hoi : i * (N * N) ≤ 12 * 36 := Nat.mul_le_mul (by omega) hNN
  have hol : o.length ≤ 1048576 + 432 := by rw [k2, List.length_append, mrounds_len]; omega
  refine holds_of_eq (EMatAll_l7 ..) ?_
  by_cases hi : i < 2 * N
  · simp only [holds_cond, Tree.holds, true_and, true_implies, decide_eq_true_eq, decide_eq_false_iff_not, Bool.not_eq_true', Bool.not_eq_false', Int.toNat_natCast, inK_i64, List.length_set, List.length_cons, List.length_nil]
    refine ⟨fun _ => ?_, fun h => absurd h (by omega)⟩
    refine Reach.loopI EMatAll_ok FMatAll_ok (fun s : Nat × List Ev => EMatAll_s9 (N : Int) (2 * (N : Int)) (i : Int) (N : Int) (s.1 : Int) s.2) (fun s => s.1 ≤ N ∧ s.2 = o ++ mall N s.1) (fun s => N - s.1) 1000 (fun _ => ⟨uniq_of rfl, uniq_of rfl⟩) ?_ (0, o) ⟨by simp, by simp [mall]⟩
    rintro ⟨p, o2⟩ ⟨k3, k4⟩ - ih2
    have k3 : p ≤ N := k3
    have k4 : o2 = o ++ mall N p := k4
    have hop : p * N ≤ 36 := Nat.mul_le_mul (by omega : p ≤ 6) (by omega : N ≤ 6)
    have hol2 : o2.length ≤ 1048576 + 468 := by rw [k4, List.length_append, mall_len]; omega
    refine holds_of_eq (EMatAll_l9 ..) ?_
    by_cases hp : p < N
    · simp only [holds_cond, Tree.holds, true_and, true_implies, decide_eq_true_eq, decide_eq_false_iff_not, Bool.not_eq_true', Bool.not_eq_false', Int.toNat_natCast, inK_i64, List.length_set, List.length_cons, List.length_nil]
      refine ⟨fun _ => ?_, fun h => absurd h (by omega)⟩
      refine Reach.loopI EMatAll_ok FMatAll_ok (fun s : Nat × List Ev => EMatAll_s12 (N : Int) (p : Int) (2 * (N : Int)) (i : Int) (N : Int) (p : Int) (N : Int) (s.1 : Int) s.2) (fun s => s.1 ≤ N ∧ s.2 = o2 ++ mrow N p s.1) (fun s => N - s.1) 1000 (fun _ => ⟨uniq_of rfl, uniq_of rfl⟩) ?_ (0, o2) ⟨by simp, by simp [mrow]⟩
      rintro ⟨q, o3⟩ ⟨k5, k6⟩ - ih3
      have k5 : q ≤ N := k5
      have k6 : o3 = o2 ++ mrow N p q := k6
      have hol3 : o3.length ≤ 1048576 + 474 := by rw [k6, List.length_append, mrow_len]; omega
      refine holds_of_eq (EMatAll_l12 ..) ?_
      by_cases hq : q < N
      · have h9 := ih3 (q + 1, o3 ++ [mv p q]) ⟨hq, by show o3 ++ [mv p q] = o2 ++ mrow N p (q + 1); rw [mrow_succ, k6, List.append_assoc]⟩ (by show N - (q + 1) < N - q; omega)
        simp only [holds_cond, Tree.holds, true_and, true_implies, decide_eq_true_eq, decide_eq_false_iff_not, Bool.not_eq_true', Bool.not_eq_false', Int.toNat_natCast, inK_i64, List.length_set, List.length_cons, List.length_nil, wb_kn]
        exact ⟨fun _ => ⟨by omega, fun _ => ⟨by omega, fun _ => h9⟩⟩, fun h => absurd h (by omega)⟩
      · have hq : q = N := by omega
        subst hq
        simp only [holds_cond, Tree.holds, true_and, true_implies, decide_eq_true_eq, decide_eq_false_iff_not, Bool.not_eq_true', Bool.not_eq_false', Int.toNat_natCast, inK_i64, List.length_set, List.length_cons, List.length_nil]
        refine ⟨fun h => absurd h (by omega), fun _ => ⟨by omega, fun _ => ih2 (p + 1, o3) ⟨hp, ?_⟩ (by show q - (p + 1) < q - p; omega)⟩⟩
        show o3 = o ++ mall q (p + 1)
        rw [mall_succ, k6, k4, List.append_assoc]
    · have hp : p = N := by omega
      subst hp
      simp only [holds_cond, Tree.holds, true_and, true_implies, decide_eq_true_eq, decide_eq_false_iff_not, Bool.not_eq_true', Bool.not_eq_false', Int.toNat_natCast, inK_i64, List.length_set, List.length_cons, List.length_nil]
      refine ⟨fun h => absurd h (by omega), fun _ => ⟨by omega, fun _ => ih (i + 1, o2) ⟨hi, ?_⟩ (by show 2 * p - (i + 1) < 2 * p - i; omega)⟩⟩
      show o2 = l ++ mrounds p (i + 1)
      rw [mrounds_succ, k4, k2, List.append_assoc]
  · have hi : i = 2 * N := by omega
    subst hi
    simp only [holds_cond, Tree.holds, true_and, true_implies, decide_eq_true_eq, decide_eq_false_iff_not, Bool.not_eq_true', Bool.not_eq_false', Int.toNat_natCast, inK_i64, List.length_set, List.length_cons, List.length_nil]
    refine ⟨fun h => absurd h (by omega), fun _ => ⟨by omega, fun _ => ?_⟩⟩
    obtain ⟨hK, hA⟩ := known (N := N) (by omega) (by omega) (l := l)
    rw [← k2] at hK hA
    generalize kknow N o = S at *
    have hla := hK.la
    have hld := hK.ld
    refine Reach.loopI EMatAll_ok FMatAll_ok (fun p : Nat => EMatAll_s22 (N : Int) (S.1.length : Int) (p : Int) S.2.1 S.1) (fun p => p ≤ N) (fun p => N - p) 1000 (fun _ => ⟨uniq_of rfl, uniq_of rfl⟩) ?_ 0 (by omega)
    rintro p k3 - ih2
    refine holds_of_eq (EMatAll_l22 ..) ?_
    by_cases hp : p < N
    · obtain ⟨o1, o2, o3, o4⟩ := hK.ok p hp
      have hA := hA p
      have e0 : kM S p = S.1.getD (Int.toNat (p : Int)) (0, 0, r0, ()) := rfl
      rw [e0] at o1 o2 o3 o4
      have hA : ∀ i k, p < N → i < N → k < N → at2 (S.1.getD (Int.toNat (p : Int)) (0, 0, r0, ())).2.2.1 i k = S.2.1.getD k 0 := hA
      generalize S.1.getD (Int.toNat (p : Int)) (0, 0, r0, ()) = M at *
      obtain ⟨n, me, r, ⟨⟩⟩ := M
      have o2 : n = N := o2
      subst o2
      have hA : ∀ i k, p < N → i < N → k < N → at2 r i k = S.2.1.getD k 0 := hA
      rw [mfirm_ok o1]
      have hmin : ∀ k, k < N → (minRows r N).getD k 0 = S.2.1.getD k 0 := fun k hk => by
        obtain ⟨i, hi, e⟩ := minRows_get (r := r) (p := k) (by omega) (show 1 ≤ N by omega)
        rw [e]; exact hA i k hp hi hk
      dsimp only
      rw [show (N : Int).toNat = N by omega]
      generalize minRows r N = v at *
      simp only [holds_cond, Tree.holds, true_and, true_implies, decide_eq_true_eq, decide_eq_false_iff_not, Bool.not_eq_true', Bool.not_eq_false', Int.toNat_natCast, inK_i64, List.length_set, List.length_cons, List.length_nil]
      refine ⟨fun _ => ⟨by omega, fun _ => ?_⟩, fun h => absurd h (by omega)⟩
      refine Reach.loopI EMatAll_ok FMatAll_ok (fun k : Nat => EMatAll_s26 (N : Int) 0 (S.1.length : Int) (p : Int) (N : Int) (k : Int) v S.2.1 S.1) (fun k => k ≤ N) (fun k => N - k) 1000 (fun _ => ⟨uniq_of rfl, uniq_of rfl⟩) ?_ 0 (by omega)
      rintro k k4 - ih3
      refine holds_of_eq (EMatAll_l26 ..) ?_
      by_cases hk : k < N
      · have f1 := hmin k hk
        simp only [holds_cond, Tree.holds, true_and, true_implies, decide_eq_true_eq, decide_eq_false_iff_not, Bool.not_eq_true', Bool.not_eq_false', Int.toNat_natCast, inK_i64, List.length_set, List.length_cons, List.length_nil]
        refine ⟨fun _ => ⟨fun h => absurd rfl h, fun _ => ⟨by omega, fun _ => ⟨by omega, fun _ => ⟨fun h => absurd f1 h, fun _ => ⟨by omega, fun _ => ih3 (k + 1) (by omega) (by omega)⟩⟩⟩⟩⟩, fun h => absurd h (by omega)⟩
      · simp only [holds_cond, Tree.holds, true_and, true_implies, decide_eq_true_eq, decide_eq_false_iff_not, Bool.not_eq_true', Bool.not_eq_false', Int.toNat_natCast, inK_i64, List.length_set, List.length_cons, List.length_nil]
        exact ⟨fun h => absurd h (by omega), fun _ => ⟨by omega, fun _ => ih2 (p + 1) (by omega) (by omega)⟩⟩
    · simp only [holds_cond, Tree.holds, true_and, true_implies, decide_eq_true_eq, decide_eq_false_iff_not, Bool.not_eq_true', Bool.not_eq_false', Int.toNat_natCast, inK_i64, List.length_set, List.length_cons, List.length_nil]
      exact ⟨fun h => absurd h (by omega), fun _ => yes⟩
end Go.Proofs.Ytibpibbnnogdkaa
