/- SkeenSame. No condition. -/
import Derived.Test.YtdhdpklmipkneaaSkW
namespace Go.Proofs.Ytdhdpklmipkneaa
open Go.Ex Go.Sort
set_option maxRecDepth 100000
/-- the same sort by insertion: it reduces -/
def insW (w : WaitD) : List WaitD → List WaitD
  | [] => [w]
  | v :: l => if ltD wcmp v w = true then v :: insW w l else w :: v :: l
def isort : List WaitD → List WaitD
  | [] => []
  | w :: l => insW w (isort l)
theorem insW_perm (w : WaitD) : ∀ l : List WaitD, (insW w l).Perm (w :: l)
  | [] => List.Perm.refl _
  | v :: l => by
    rw [insW]
    split
    · exact ((insW_perm w l).cons v).trans (List.Perm.swap w v l)
    · exact List.Perm.refl _
theorem isort_perm : ∀ l : List WaitD, (isort l).Perm l
  | [] => List.Perm.refl _
  | w :: l => (insW_perm w (isort l)).trans ((isort_perm l).cons w)
theorem insW_sorted (w : WaitD) : ∀ {l : List WaitD}, l.Pairwise (fun a b => ltD wcmp b a = false) → (insW w l).Pairwise (fun a b => ltD wcmp b a = false)
  | [], _ => List.pairwise_singleton ..
  | v :: l, h => by
    obtain ⟨h1, h2⟩ := List.pairwise_cons.1 h
    rw [insW]
    split
    · rename_i hv
      refine List.pairwise_cons.2 ⟨fun b hb => ?_, insW_sorted w h2⟩
      rcases List.mem_cons.1 ((insW_perm w l).mem_iff.1 hb) with rfl | hb
      · rw [ltD, decide_eq_true_eq, wcmp, ncmp_lt] at hv
        rw [ltD, decide_eq_false_iff_not, wcmp, ncmp_lt]
        omega
      · exact h1 b hb
    · rename_i hv
      refine List.pairwise_cons.2 ⟨fun b hb => ?_, h⟩
      have hv : ltD wcmp v w = false := by simpa using hv
      rcases List.mem_cons.1 hb with rfl | hb
      · exact hv
      · have h3 := h1 b hb
        rw [ltD, decide_eq_false_iff_not, wcmp, ncmp_lt] at hv h3 ⊢
        omega
theorem isort_sorted : ∀ l : List WaitD, (isort l).Pairwise (fun a b => ltD wcmp b a = false)
  | [] => List.Pairwise.nil
  | w :: l => insW_sorted w (isort_sorted l)
def fixL' (ws : List WaitD) (id : Int) (n : NumD) : List WaitD := isort (ws.set (idxOf (openId id) ws).toNat ((ws.getD (idxOf (openId id) ws).toNat dW).1, n, true, ()))
def fixF' (s : SkD) (id : Int) (n : NumD) : SkD × List Int × Int × Unit :=
  if checkE s ≠ 0 then (noS, [], checkE s, ()) else if inF n.1 1 16777215 = false then (noS, [], 1, ()) else if inF n.2.1 0 5 = false then (noS, [], 1, ()) else if idxOf (openId id) s.2.2.1 < 0 then (noS, [], 6, ())
  else if ncmp n (s.2.2.1.getD (idxOf (openId id) s.2.2.1).toNat dW).2.1 < 0 then (noS, [], 10, ()) else if s.2.2.1.any (taken id n) = true then (noS, [], 10, ())
  else ((s.1, if s.2.1 < n.1 then n.1 else s.2.1, (fixL' s.2.2.1 id n).dropWhile fixedW, ()), ((fixL' s.2.2.1 id n).takeWhile fixedW).map (·.1), 0, ())
theorem fixF_is (s : SkD) (id : Int) (n : NumD) : fixF s id n = fixF' s id n := by
  unfold fixF fixF'
  by_cases c0 : checkE s ≠ 0
  · rw [if_pos c0, if_pos c0]
  rw [if_neg c0, if_neg c0]
  by_cases c3 : idxOf (openId id) s.2.2.1 < 0
  · rw [if_pos c3, if_pos c3]
  rw [if_neg c3, if_neg c3]
  by_cases c5 : s.2.2.1.any (taken id n) = true
  · rw [if_pos c5, if_pos c5]
  rw [if_neg c5, if_neg c5]
  have e : fixL s.2.2.1 id n = fixL' s.2.2.1 id n := by
    obtain ⟨me, clk, ws, ⟨⟩⟩ := s
    exact (sortBy_eq swoW (isort_perm _) (isort_sorted _) (fix_tie (checkE_ok.1 (Decidable.not_not.1 c0)) c3 (by simpa using c5))).symm
  rw [e]
def fixGo' (nums : List (List NumD)) (ids : List Int) : List TalkD → List SkD → List (List Int) → List (List Int) × List Int × Bool × Unit
  | [], _, told => (told, ids, true, ())
  | x :: l, all, told =>
    if (nums.getD (idOf x).toNat []).length ≠ 3 then fixGo' nums ids l all told
    else if (mostF (nums.getD (idOf x).toNat [])).2.1 ≠ 0 then (told, [], false, ())
    else if (fixF' (all.getD (whoOf x).toNat noS) (idOf x) (mostF (nums.getD (idOf x).toNat [])).1).2.2.1 ≠ 0 ∧ (fixF' (all.getD (whoOf x).toNat noS) (idOf x) (mostF (nums.getD (idOf x).toNat [])).1).2.2.1 ≠ 6 then (told, [], false, ())
    else if (fixF' (all.getD (whoOf x).toNat noS) (idOf x) (mostF (nums.getD (idOf x).toNat [])).1).2.2.1 = 0 then
      fixGo' nums ids l (all.set (whoOf x).toNat (fixF' (all.getD (whoOf x).toNat noS) (idOf x) (mostF (nums.getD (idOf x).toNat [])).1).1) (told.set (whoOf x).toNat (told.getD (whoOf x).toNat [] ++ (fixF' (all.getD (whoOf x).toNat noS) (idOf x) (mostF (nums.getD (idOf x).toNat [])).1).2.1))
    else fixGo' nums ids l all told
theorem fixGo_is {nums : List (List NumD)} {ids : List Int} : ∀ {l : List TalkD} {all : List SkD} {told : List (List Int)}, fixGo nums ids l all told = fixGo' nums ids l all told
  | [], _, _ => rfl
  | x :: l, all, told => by simp only [fixGo, fixGo', fixF_is, fixGo_is (l := l)]
def agreedF' (offers fixes : List TalkD) : List (List Int) × List Int × Bool × Unit := fixGo' (offAll offers).2.1 (offAll offers).2.2 fixes (offAll offers).1 [[], [], []]
theorem agreedF_is (os fs : List TalkD) : agreedF os fs = agreedF' os fs := fixGo_is
theorem ex2 : agreedF ((List.range 2).flatMap three) ((List.range 2).flatMap three) = ([[0, 1], [0, 1], [0, 1]], [0, 1], true, ()) := by
  rw [agreedF_is]; decide +kernel
def ceqI9 : Ctr := { ps := [.v (.slc false I64), .v (.slc false I64)], rs := [.bool], pre := fun _ => True, fn := fun x => (decide ((show List (Int) from x.1) = (show List (Int) from x.2.1)), ()), out := fun _ => () }
noncomputable def EeqI9 : Env := { P := Try.prog, tt := tt, ctr := [], res := [Go.ResultVar.tmp 4], rs := [Ty.bool], ps := [PK.v (Ty.slc false (Ty.int IntKind.i64)), PK.v (Ty.slc false (Ty.int IntKind.i64))], cuts := [(4, [(0, none), (1, none), (12, none), (13, none)])], nt := 26 }
theorem EeqI9_ok : EnvOk EeqI9 := envOk tt_ok trivial
theorem FeqI9_ok : FnOk EeqI9 Try.f20 := ⟨rfl, rfl⟩
theorem EeqI9_t (x0 : List Int) (x1 : List Int) : exec EeqI9 1000 [.code (bodyOf Try.prog 20)] (initSt ceqI9.ps ((x0, x1, ()))) =
  cond (decide ((↑(List.length x0) : Int) ≠ (↑(List.length x1) : Int))) (.ret ((false, ()))) (.cut (loopAt (bodyOf Try.prog 20) 4).1 (loopAt (bodyOf Try.prog 20) 4).2 (St.mk [(0, AV.val (Ty.slc false (Ty.int IntKind.i64)) x0), (1, AV.val (Ty.slc false (Ty.int IntKind.i64)) x1), (12, AV.val (Ty.int IntKind.i64) (↑(List.length x0) : Int)), (13, AV.val (Ty.int IntKind.i64) (0 : Int))] [])) := by kernel_rfl
def EeqI9_s4 (v0 : List Int) (v1 : List Int) (v12 : Int) (v13 : Int) : St := St.mk [(0, AV.val (Ty.slc false (Ty.int IntKind.i64)) v0), (1, AV.val (Ty.slc false (Ty.int IntKind.i64)) v1), (12, AV.val (Ty.int IntKind.i64) v12), (13, AV.val (Ty.int IntKind.i64) v13)] []
theorem EeqI9_l4 (v0 : List Int) (v1 : List Int) (v12 : Int) (v13 : Int) : exec EeqI9 1000 (.code (loopAt (bodyOf Try.prog 20) 4).1 :: .inLoop (loopAt (bodyOf Try.prog 20) 4).1 :: (loopAt (bodyOf Try.prog 20) 4).2) (EeqI9_s4 v0 v1 v12 v13) =
  cond (decide (v13 < v12)) (.need ((0 : Int) ≤ v13 ∧ v13 < (↑(List.length v0) : Int)) (.need ((0 : Int) ≤ v13 ∧ v13 < (↑(List.length v1) : Int)) (cond (decide (List.getD v0 (Int.toNat v13) (0 : Int) ≠ List.getD v1 (Int.toNat v13) (0 : Int))) (.ret ((false, ()))) (.need (inK IntKind.i64 (v13 + (1 : Int))) (.cut (loopAt (bodyOf Try.prog 20) 4).1 (loopAt (bodyOf Try.prog 20) 4).2 (St.mk [(0, AV.val (Ty.slc false (Ty.int IntKind.i64)) v0), (1, AV.val (Ty.slc false (Ty.int IntKind.i64)) v1), (12, AV.val (Ty.int IntKind.i64) v12), (13, AV.val (Ty.int IntKind.i64) (v13 + (1 : Int)))] [])))))) (.ret ((true, ()))) := by kernel_rfl
theorem ceqI9_valid : ceqI9.Valid Try.prog 20 := by
  refine Ctr.valid_of EeqI9_ok rfl rfl Try.func20 (c := bodyOf Try.prog 20) rfl rfl FeqI9_ok rfl ?_
  rintro ⟨(l : List (Int)), (m : List (Int)), ⟨⟩⟩ - ⟨⟨hl, -⟩, -⟩
  have hl : l.length ≤ 9223372036854775807 := hl
  refine exec_sound (n := 1000) EeqI9_ok FeqI9_ok ?_
  refine holds_of_eq (EeqI9_t l m) ?_
  have fin : ∀ {b : Bool}, (b = true ↔ l = m) → ((b, ()) : Bool × Unit) = (decide (l = m), ()) := fun {b} h => by
    cases b with
    | true => rw [decide_eq_true (h.1 rfl)]
    | false => rw [decide_eq_false (fun e => by cases h.2 e)]
  simp only [holds_cond, Tree.holds, true_and, true_implies, decide_eq_true_eq, decide_eq_false_iff_not, Bool.not_eq_true', Bool.not_eq_false', Int.toNat_natCast, inK_i64, List.length_set, List.length_cons, List.length_nil]
  refine ⟨fun c => fin ⟨fun h => (by cases h), fun h => absurd (congrArg (fun q : List (Int) => (q.length : Int)) h) c⟩, fun c => ?_⟩
  refine Reach.loopI EeqI9_ok FeqI9_ok (fun i : Nat => EeqI9_s4 l m (l.length : Int) (i : Int)) (fun i => i ≤ l.length ∧ ∀ j, j < i → l.getD j 0 = m.getD j 0)
    (fun i => l.length - i) 1000 (fun _ => ⟨uniq_of rfl, uniq_of rfl⟩) ?_ 0 ⟨Nat.zero_le _, fun j hj => by omega⟩
  rintro i ⟨k1, k2⟩ - ih
  refine holds_of_eq (EeqI9_l4 ..) ?_
  have c : l.length = m.length := by omega
  simp only [holds_cond, Tree.holds, true_and, true_implies, decide_eq_true_eq, decide_eq_false_iff_not, Bool.not_eq_true', Bool.not_eq_false', Int.toNat_natCast, inK_i64, List.length_set, List.length_cons, List.length_nil]
  refine ⟨fun d1 => ⟨by omega, fun _ => ⟨by omega, fun _ => ⟨fun d2 => fin ⟨fun h => (by cases h), fun h => absurd (congrArg (fun q : List (Int) => q.getD i 0) h) (d2)⟩, fun d2 => ⟨by omega, fun _ => ih (i + 1) ⟨by omega, fun j hj => ?_⟩ (by omega)⟩⟩⟩⟩, fun d1 => fin ⟨fun _ => eq_of_getD c (fun j hj => k2 j (by omega)), fun _ => rfl⟩⟩
  rcases Nat.lt_or_ge j i with h | h
  · exact k2 j h
  · obtain rfl : j = i := by omega
    exact Decidable.not_not.1 d2
def cSkeenSame : Ctr := { ps := [.v (.slc false PairT), .v (.slc false PairT)], rs := [.bool], pre := fun _ => True, fn := fun _ => (true, ()), out := fun _ => () }
noncomputable def ESkeenSame : Env := { P := Try.prog, tt := tt, ctr := [(44, callOf), (43, cagreed), (20, ceqI9)], res := [Go.ResultVar.tmp 4], rs := [Ty.bool], ps := [PK.v (Ty.slc false PairT), PK.v (Ty.slc false PairT)], cuts := [(8, [(8, none), (53, none), (54, none)]), (11, [(8, none), (12, none), (53, none), (54, none), (57, none), (58, none)])], nt := 76 }
theorem ESkeenSame_ok : EnvOk ESkeenSame := envOk tt_ok ⟨callOf_valid, cagreed_valid, ceqI9_valid, trivial⟩
theorem FSkeenSame_ok : FnOk ESkeenSame Try.f11 := ⟨rfl, rfl⟩
theorem ESkeenSame_t (x0 : List (Int × Int × Unit)) (x1 : List (Int × Int × Unit)) : exec ESkeenSame 1000 [.code (bodyOf Try.prog 11)] (initSt cSkeenSame.ps ((x0, x1, ()))) =
  .need ((0 : Int) ≤ (2 : Int) ∧ (2 : Int) ≤ (8 : Int)) (.need ((0 : Int) ≤ (2 : Int) ∧ (2 : Int) ≤ (8 : Int)) (.need (True) (cond (!Prod.fst (Prod.snd (Prod.snd (agreedF (List.flatMap three (List.range (Int.toNat (2 : Int)))) (List.flatMap three (List.range (Int.toNat (2 : Int)))))))) (.ret ((false, ()))) (cond (decide ((↑(List.length (Prod.fst (Prod.snd (agreedF (List.flatMap three (List.range (Int.toNat (2 : Int)))) (List.flatMap three (List.range (Int.toNat (2 : Int)))))))) : Int) ≠ (2 : Int))) (.ret ((false, ()))) (.need ((0 : Int) ≤ (0 : Int) ∧ (0 : Int) < (↑3 : Int)) (cond (decide ((↑(List.length (List.getD (Prod.fst (agreedF (List.flatMap three (List.range (Int.toNat (2 : Int)))) (List.flatMap three (List.range (Int.toNat (2 : Int)))))) (Int.toNat (0 : Int)) [])) : Int) ≠ (2 : Int))) (.ret ((false, ()))) (.need ((0 : Int) ≤ (0 : Int) ∧ (0 : Int) < (↑3 : Int)) (.need ((0 : Int) ≤ (2 : Int) ∧ (2 : Int) < (↑3 : Int)) (.need (True) (cond (!decide (List.getD (Prod.fst (agreedF (List.flatMap three (List.range (Int.toNat (2 : Int)))) (List.flatMap three (List.range (Int.toNat (2 : Int)))))) (Int.toNat (0 : Int)) [] = List.getD (Prod.fst (agreedF (List.flatMap three (List.range (Int.toNat (2 : Int)))) (List.flatMap three (List.range (Int.toNat (2 : Int)))))) (Int.toNat (2 : Int)) [])) (.ret ((false, ()))) (.need (True) (cond (!Prod.fst (Prod.snd (Prod.snd (agreedF x0 x1)))) (.ret ((false, ()))) (.cut (loopAt (bodyOf Try.prog 11) 8).1 (loopAt (bodyOf Try.prog 11) 8).2 (St.mk [(8, AV.ptr 8 []), (53, AV.at_ 8 []), (54, AV.val (Ty.int IntKind.i64) (0 : Int))] [(8, Ent.var (Ty.arr 3 Is) (Prod.fst (agreedF x0 x1)))])))))))))))))) := by kernel_rfl
def ESkeenSame_s8 (v54 : Int) (o8 : List (List Int)) : St := St.mk [(8, AV.ptr 8 []), (53, AV.at_ 8 []), (54, AV.val (Ty.int IntKind.i64) v54)] [(8, Ent.var (Ty.arr 3 Is) o8)]
theorem ESkeenSame_l8 (v54 : Int) (o8 : List (List Int)) : exec ESkeenSame 1000 (.code (loopAt (bodyOf Try.prog 11) 8).1 :: .inLoop (loopAt (bodyOf Try.prog 11) 8).1 :: (loopAt (bodyOf Try.prog 11) 8).2) (ESkeenSame_s8 v54 o8) =
  cond (decide (v54 < (3 : Int))) (.need ((0 : Int) ≤ v54 ∧ v54 < (↑3 : Int)) (.cut (loopAt (bodyOf Try.prog 11) 11).1 (loopAt (bodyOf Try.prog 11) 11).2 (St.mk [(8, AV.ptr 8 []), (12, AV.at_ 8 [Step.idx v54]), (53, AV.at_ 8 []), (54, AV.val (Ty.int IntKind.i64) v54), (57, AV.at_ 8 []), (58, AV.val (Ty.int IntKind.i64) (0 : Int))] [(8, Ent.var (Ty.arr 3 Is) o8)]))) (.ret ((true, ()))) := by kernel_rfl
def ESkeenSame_s11 (v12i : Int) (v54 : Int) (v58 : Int) (o8 : List (List Int)) : St := St.mk [(8, AV.ptr 8 []), (12, AV.at_ 8 [Step.idx v12i]), (53, AV.at_ 8 []), (54, AV.val (Ty.int IntKind.i64) v54), (57, AV.at_ 8 []), (58, AV.val (Ty.int IntKind.i64) v58)] [(8, Ent.var (Ty.arr 3 Is) o8)]
theorem ESkeenSame_l11 (v12i : Int) (v54 : Int) (v58 : Int) (o8 : List (List Int)) : exec ESkeenSame 1000 (.code (loopAt (bodyOf Try.prog 11) 11).1 :: .inLoop (loopAt (bodyOf Try.prog 11) 11).1 :: (loopAt (bodyOf Try.prog 11) 11).2) (ESkeenSame_s11 v12i v54 v58 o8) =
  cond (decide (v58 < (3 : Int))) (.need ((0 : Int) ≤ v58 ∧ v58 < (↑3 : Int)) (.need ((0 : Int) ≤ (0 : Int) ∧ ((0 : Int) ≤ if (↑(List.length (List.getD o8 (Int.toNat v58) [])) : Int) < (↑(List.length (List.getD o8 (Int.toNat v12i) [])) : Int) then (↑(List.length (List.getD o8 (Int.toNat v58) [])) : Int) else (↑(List.length (List.getD o8 (Int.toNat v12i) [])) : Int)) ∧ (if (↑(List.length (List.getD o8 (Int.toNat v58) [])) : Int) < (↑(List.length (List.getD o8 (Int.toNat v12i) [])) : Int) then (↑(List.length (List.getD o8 (Int.toNat v58) [])) : Int) else (↑(List.length (List.getD o8 (Int.toNat v12i) [])) : Int)) ≤ (↑(List.length (List.getD o8 (Int.toNat v12i) [])) : Int)) (.need ((0 : Int) ≤ (0 : Int) ∧ ((0 : Int) ≤ if (↑(List.length (List.getD o8 (Int.toNat v58) [])) : Int) < (↑(List.length (List.getD o8 (Int.toNat v12i) [])) : Int) then (↑(List.length (List.getD o8 (Int.toNat v58) [])) : Int) else (↑(List.length (List.getD o8 (Int.toNat v12i) [])) : Int)) ∧ (if (↑(List.length (List.getD o8 (Int.toNat v58) [])) : Int) < (↑(List.length (List.getD o8 (Int.toNat v12i) [])) : Int) then (↑(List.length (List.getD o8 (Int.toNat v58) [])) : Int) else (↑(List.length (List.getD o8 (Int.toNat v12i) [])) : Int)) ≤ (↑(List.length (List.getD o8 (Int.toNat v58) [])) : Int)) (.need (True) (cond (!decide (cut2 (0 : Int) (if (↑(List.length (List.getD o8 (Int.toNat v58) [])) : Int) < (↑(List.length (List.getD o8 (Int.toNat v12i) [])) : Int) then (↑(List.length (List.getD o8 (Int.toNat v58) [])) : Int) else (↑(List.length (List.getD o8 (Int.toNat v12i) [])) : Int)) (List.getD o8 (Int.toNat v12i) []) = cut2 (0 : Int) (if (↑(List.length (List.getD o8 (Int.toNat v58) [])) : Int) < (↑(List.length (List.getD o8 (Int.toNat v12i) [])) : Int) then (↑(List.length (List.getD o8 (Int.toNat v58) [])) : Int) else (↑(List.length (List.getD o8 (Int.toNat v12i) [])) : Int)) (List.getD o8 (Int.toNat v58) []))) (.ret ((false, ()))) (.need (inK IntKind.i64 (v58 + (1 : Int))) (.cut (loopAt (bodyOf Try.prog 11) 11).1 (loopAt (bodyOf Try.prog 11) 11).2 (St.mk [(8, AV.ptr 8 []), (12, AV.at_ 8 [Step.idx v12i]), (53, AV.at_ 8 []), (54, AV.val (Ty.int IntKind.i64) v54), (57, AV.at_ 8 []), (58, AV.val (Ty.int IntKind.i64) (v58 + (1 : Int)))] [(8, Ent.var (Ty.arr 3 Is) o8)])))))))) (.need (inK IntKind.i64 (v54 + (1 : Int))) (.cut (loopAt (bodyOf Try.prog 11) 8).1 (loopAt (bodyOf Try.prog 11) 8).2 (St.mk [(8, AV.ptr 8 []), (53, AV.at_ 8 []), (54, AV.val (Ty.int IntKind.i64) (v54 + (1 : Int)))] [(8, Ent.var (Ty.arr 3 Is) o8)]))) := by kernel_rfl
theorem cSkeenSame_valid : cSkeenSame.Valid Try.prog 11 := by
  refine Ctr.valid_of ESkeenSame_ok rfl rfl Try.func11 (c := bodyOf Try.prog 11) rfl rfl FSkeenSame_ok rfl ?_
  rintro ⟨(os : List TalkD), (fs : List TalkD), ⟨⟩⟩ - -
  refine exec_sound (n := 1000) ESkeenSame_ok FSkeenSame_ok ?_
  refine holds_of_eq (ESkeenSame_t os fs) ?_
  rw [show Int.toNat 2 = 2 from rfl, ex2]
  have hinv := off_inv os
  obtain ⟨told, all, e, hF⟩ := fixGo_ok (ids := (offAll os).2.2) (off_nums hinv) (l := fs) (fix_inv0 hinv)
  have e : agreedF os fs = (told, (offAll os).2.2, true, ()) := e
  rw [e]
  simp only [holds_cond, Tree.holds, true_and, true_implies, decide_eq_true_eq, decide_eq_false_iff_not, Bool.not_eq_true', Bool.not_eq_false', Int.toNat_natCast, inK_i64, List.length_set, List.length_cons, List.length_nil]
  refine ⟨by omega, fun _ => ⟨by omega, fun _ => ⟨fun h => (by cases h), fun h => absurd rfl h, fun _ => ⟨by omega, fun _ => ⟨fun h => absurd rfl h, fun _ => ⟨by omega, fun _ => ⟨by omega, fun _ => ⟨fun h => absurd rfl h, fun _ => ⟨fun h => (by cases h), ?_⟩⟩⟩⟩⟩⟩⟩⟩⟩
  refine Reach.loopI ESkeenSame_ok FSkeenSame_ok (fun i : Nat => ESkeenSame_s8 (i : Int) told) (fun i => i ≤ 3) (fun i => 3 - i) 1000 (fun _ => ⟨uniq_of rfl, uniq_of rfl⟩) ?_ 0 (Nat.zero_le _)
  rintro i (k1 : i ≤ 3) - ih
  refine holds_of_eq (ESkeenSame_l8 ..) ?_
  simp only [holds_cond, Tree.holds, true_and, true_implies, decide_eq_true_eq, decide_eq_false_iff_not, Bool.not_eq_true', Bool.not_eq_false', Int.toNat_natCast, inK_i64, List.length_set, List.length_cons, List.length_nil]
  refine ⟨fun c => ⟨by omega, fun _ => ?_⟩, fun _ => rfl⟩
  have hi : i < 3 := by omega
  refine Reach.loopI ESkeenSame_ok FSkeenSame_ok (fun j : Nat => ESkeenSame_s11 (i : Int) (i : Int) (j : Int) told) (fun j => j ≤ 3) (fun j => 3 - j) 1000 (fun _ => ⟨uniq_of rfl, uniq_of rfl⟩) ?_ 0 (Nat.zero_le _)
  rintro j (m1 : j ≤ 3) - ih2
  refine holds_of_eq (ESkeenSame_l11 ..) ?_
  simp only [holds_cond, Tree.holds, true_and, true_implies, decide_eq_true_eq, decide_eq_false_iff_not, Bool.not_eq_true', Bool.not_eq_false', Int.toNat_natCast, inK_i64, List.length_set, List.length_cons, List.length_nil]
  have hmn : (if ((told.getD j []).length : Int) < ((told.getD i []).length : Int) then ((told.getD j []).length : Int) else ((told.getD i []).length : Int)) = ((min (told.getD i []).length (told.getD j []).length : Nat) : Int) := by split <;> omega
  rw [hmn]
  have hct : ∀ (n : Nat) (l : List Int), cut2 0 (n : Int) l = l.take n := fun n l => by simp [cut2]
  rw [hct, hct]
  refine ⟨fun c2 => ⟨by omega, fun _ => ⟨by omega, fun _ => ⟨by omega, fun _ => ⟨fun h => absurd (told_same (off_nums hinv) hF hi (show j < 3 by omega) (Nat.min_le_left _ _) (Nat.min_le_right _ _)) h, fun _ => ⟨by omega, fun _ => ih2 (j + 1) (by omega) (by omega)⟩⟩⟩⟩⟩, fun _ => ⟨by omega, fun _ => ih (i + 1) hi (by omega)⟩⟩
end Go.Proofs.Ytdhdpklmipkneaa
