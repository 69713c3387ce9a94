/- The law of rings that stand rising or falling. -/
import Derived.Test.YtcafiieffenohaaRingL
namespace Go.Proofs.Ytcafiieffenohaa
open Go.Ex
set_option maxRecDepth 100000
def cRingRound : Ctr := { ps := [.v (.slc false I64), .v I64], rs := [.bool], pre := fun _ => True, fn := fun _ => (true, ()), out := fun _ => () }
noncomputable def ERingRound : Env := { P := Try.prog, tt := tt, ctr := [(19, cround), (20, crest)], res := [Go.ResultVar.tmp 4], rs := [Ty.bool], ps := [PK.v (Ty.slc false (Ty.int IntKind.i64)), PK.v (Ty.int IntKind.i64)], cuts := [(11, [(1, none), (12, some Is), (13, some Is), (62, none), (63, none)])], nt := 111 }
theorem ERingRound_ok : EnvOk ERingRound := envOk tt_ok ⟨cround_valid, crest_valid, trivial⟩
theorem FRingRound_ok : FnOk ERingRound Try.f3 := ⟨rfl, rfl⟩
theorem ERingRound_t (x0 : List Int) (x1 : Int) : exec ERingRound 1000 [.code (bodyOf Try.prog 3)] (initSt cRingRound.ps ((x0, x1, ()))) =
  .need (True) (.need (True) (cond (decide (Prod.fst (Prod.snd (Prod.snd (roundR x0))) = (0 : Int))) (.need (inK IntKind.i64 ((2 : Int) * (↑(List.length x0) : Int))) (.need (inK IntKind.i64 ((2 : Int) * (↑(List.length x0) : Int) - (1 : Int))) (cond (decide (Prod.fst (Prod.snd (roundR x0)) < (2 : Int) * (↑(List.length x0) : Int) - (1 : Int))) (.ret ((false, ()))) (.need (inK IntKind.i64 ((↑(List.length x0) : Int) + (1 : Int))) (.need (inK IntKind.i64 ((↑(List.length x0) : Int) * ((↑(List.length x0) : Int) + (1 : Int)))) (.need ((0 : Int) < (2 : Int)) (cond (decide (Int.tdiv ((↑(List.length x0) : Int) * ((↑(List.length x0) : Int) + (1 : Int))) (2 : Int) < Prod.fst (Prod.snd (roundR x0)))) (.ret ((false, ()))) (.need ((30 : Int) ≤ (1000000 : Int)) (.need (inK IntKind.i64 (rest x1 (30 : Int) + (1 : Int))) (.cut (loopAt (bodyOf Try.prog 3) 11).1 (loopAt (bodyOf Try.prog 3) 11).2 (St.mk [(1, AV.val (Ty.int IntKind.i64) (rest x1 (30 : Int) + (1 : Int))), (12, AV.at_ 1000012 []), (13, AV.at_ 1000013 []), (62, AV.val (Ty.int IntKind.i64) (rest x1 (30 : Int) + (1 : Int))), (63, AV.val (Ty.int IntKind.i64) (0 : Int))] [(1000012, Ent.own Is []), (1000013, Ent.own Is [])]))))))))))) (.need ((30 : Int) ≤ (1000000 : Int)) (.need (inK IntKind.i64 (rest x1 (30 : Int) + (1 : Int))) (.cut (loopAt (bodyOf Try.prog 3) 11).1 (loopAt (bodyOf Try.prog 3) 11).2 (St.mk [(1, AV.val (Ty.int IntKind.i64) (rest x1 (30 : Int) + (1 : Int))), (12, AV.at_ 1000012 []), (13, AV.at_ 1000013 []), (62, AV.val (Ty.int IntKind.i64) (rest x1 (30 : Int) + (1 : Int))), (63, AV.val (Ty.int IntKind.i64) (0 : Int))] [(1000012, Ent.own Is []), (1000013, Ent.own Is [])])))))) := by kernel_rfl
def ERingRound_s11 (v1 : Int) (v62 : Int) (v63 : Int) (o1000012 : List Int) (o1000013 : List Int) : St := St.mk [(1, AV.val (Ty.int IntKind.i64) v1), (12, AV.at_ 1000012 []), (13, AV.at_ 1000013 []), (62, AV.val (Ty.int IntKind.i64) v62), (63, AV.val (Ty.int IntKind.i64) v63)] [(1000012, Ent.own Is o1000012), (1000013, Ent.own Is o1000013)]
theorem ERingRound_l11 (v1 : Int) (v62 : Int) (v63 : Int) (o1000012 : List Int) (o1000013 : List Int) : exec ERingRound 1000 (.code (loopAt (bodyOf Try.prog 3) 11).1 :: .inLoop (loopAt (bodyOf Try.prog 3) 11).1 :: (loopAt (bodyOf Try.prog 3) 11).2) (ERingRound_s11 v1 v62 v63 o1000012 o1000013) =
  cond (decide (v63 < v62)) (.need (List.length o1000012 + List.length (List.set [(0 : Int)] (Int.toNat (↑0 : Int)) v63) ≤ 140737488355328 ∧ (List.length o1000012 + List.length (List.set [(0 : Int)] (Int.toNat (↑0 : Int)) v63)) * Ty.wb (Ty.int IntKind.i64) ≤ 140737488355328) (.need (inK IntKind.i64 (v1 - v63)) (.need (List.length o1000013 + List.length (List.set [(0 : Int)] (Int.toNat (↑0 : Int)) (v1 - v63)) ≤ 140737488355328 ∧ (List.length o1000013 + List.length (List.set [(0 : Int)] (Int.toNat (↑0 : Int)) (v1 - v63))) * Ty.wb (Ty.int IntKind.i64) ≤ 140737488355328) (.need (inK IntKind.i64 (v63 + (1 : Int))) (.cut (loopAt (bodyOf Try.prog 3) 11).1 (loopAt (bodyOf Try.prog 3) 11).2 (St.mk [(1, AV.val (Ty.int IntKind.i64) v1), (12, AV.at_ 1000012 []), (13, AV.at_ 1000013 []), (62, AV.val (Ty.int IntKind.i64) v62), (63, AV.val (Ty.int IntKind.i64) (v63 + (1 : Int)))] [(1000012, Ent.own Is (o1000012 ++ List.set [(0 : Int)] (Int.toNat (↑0 : Int)) v63)), (1000013, Ent.own Is (o1000013 ++ List.set [(0 : Int)] (Int.toNat (↑0 : Int)) (v1 - v63)))])))))) (.need (True) (.need (True) (cond (decide (Prod.fst (Prod.snd (Prod.snd (roundR o1000012))) = (0 : Int))) (cond (decide (Prod.fst (Prod.snd (Prod.snd (roundR o1000013))) = (0 : Int))) (.need (inK IntKind.i64 ((2 : Int) * v1)) (.need (inK IntKind.i64 ((2 : Int) * v1 - (1 : Int))) (cond (decide (Prod.fst (Prod.snd (roundR o1000012)) = (2 : Int) * v1 - (1 : Int))) (.need (inK IntKind.i64 (v1 + (1 : Int))) (.need (inK IntKind.i64 (v1 * (v1 + (1 : Int)))) (.need ((0 : Int) < (2 : Int)) (.ret ((decide (Prod.fst (Prod.snd (roundR o1000013)) = Int.tdiv (v1 * (v1 + (1 : Int))) (2 : Int)), ())))))) (.ret ((false, ())))))) (.ret ((false, ())))) (.ret ((false, ())))))) := by kernel_rfl
theorem up_ok {n : Nat} (h1 : 1 ≤ n) (h2 : n ≤ 30) : RingOk ((List.range n).map (fun j : Nat => (j : Int))) :=
  ⟨by simpa using h1, by simpa using h2, fun x hx => by
    obtain ⟨j, hj, rfl⟩ := List.mem_map.1 hx
    have := List.mem_range.1 hj; omega, map_nodup List.nodup_range (fun a _ b _ e => by omega)⟩
theorem down_ok {n : Nat} (h1 : 1 ≤ n) (h2 : n ≤ 30) : RingOk ((List.range n).map (fun j : Nat => (n : Int) - (j : Int))) :=
  ⟨by simpa using h1, by simpa using h2, fun x hx => by
    obtain ⟨j, hj, rfl⟩ := List.mem_map.1 hx
    have := List.mem_range.1 hj; omega, map_nodup List.nodup_range (fun a _ b _ e => by omega)⟩
theorem cRingRound_valid : cRingRound.Valid Try.prog 3 := by
  refine Ctr.valid_of ERingRound_ok rfl rfl Try.func3 (c := bodyOf Try.prog 3) rfl rfl FRingRound_ok rfl ?_
  rintro ⟨(l : List Int), (x : Int), ⟨⟩⟩ - ⟨⟨hl, -⟩, -⟩
  have hl : l.length ≤ 9223372036854775807 := hl
  have hx := rest_in (a := x) (n := 30) (by omega)
  obtain ⟨n0, hn0⟩ := Int.eq_ofNat_of_zero_le hx.1
  obtain ⟨n, hn⟩ : ∃ n : Nat, n = n0 + 1 := ⟨_, rfl⟩
  have e1 : rest x 30 + 1 = (n : Int) := by omega
  have go : Go.Ex.Reach ERingRound Try.f3 ((true, ()) : Bool × Unit) () (.code (loopAt (bodyOf Try.prog 3) 11).1 :: .inLoop (loopAt (bodyOf Try.prog 3) 11).1 :: (loopAt (bodyOf Try.prog 3) 11).2)
      (ERingRound_s11 (n : Int) (n : Int) 0 [] []) := by
    refine Reach.loopI ERingRound_ok FRingRound_ok (fun i : Nat => ERingRound_s11 (n : Int) (n : Int) (i : Int) ((List.range i).map (fun j : Nat => (j : Int))) ((List.range i).map (fun j : Nat => (n : Int) - (j : Int)))) (fun i => i ≤ n)
      (fun i => n - i) 1000 (fun _ => ⟨uniq_of rfl, uniq_of rfl⟩) ?_ 0 (by omega)
    rintro i k1 - ih
    have k1 : i ≤ n := k1
    refine holds_of_eq (ERingRound_l11 ..) ?_
    have e0 : ∀ v : Int, List.set [(0 : Int)] (Int.toNat (((0 : Nat) : Nat) : Int)) v = [v] := fun _ => rfl
    have r1 : (List.range (i + 1)).map (fun j : Nat => (j : Int)) = (List.range i).map (fun j : Nat => (j : Int)) ++ [(i : Int)] := by rw [List.range_succ, List.map_append]; rfl
    have r2 : (List.range (i + 1)).map (fun j : Nat => (n : Int) - (j : Int)) = (List.range i).map (fun j : Nat => (n : Int) - (j : Int)) ++ [(n : Int) - (i : Int)] := by rw [List.range_succ, List.map_append]; rfl
    simp only [holds_cond, Tree.holds, true_and, true_implies, decide_eq_true_eq, decide_eq_false_iff_not, Bool.not_eq_true', Bool.not_eq_false', Int.toNat_natCast, inK_i64, List.length_set, List.length_cons, List.length_nil, List.length_map, List.length_range, wb_i64]
    refine ⟨fun c => ⟨by omega, fun _ => ⟨by omega, fun _ => ⟨by omega, fun _ => ⟨by omega, fun _ => ?_⟩⟩⟩⟩, fun c => ?_⟩
    · have := ih (i + 1) (by show i + 1 ≤ n; omega) (by omega)
      rw [r1, r2] at this
      exact this
    · have ei : i = n := by omega
      subst ei
      have u : rcheck ((List.range i).map (fun j : Nat => (j : Int))) = 0 := rcheck_iff.2 (up_ok (by omega) (by omega))
      have v : rcheck ((List.range i).map (fun j : Nat => (i : Int) - (j : Int))) = 0 := rcheck_iff.2 (down_ok (by omega) (by omega))
      have a := round_up (n := i) (by omega)
      have b := round_down (n := i) (by omega)
      simp only [roundR_ok u, roundR_ok v]
      have m2 : (i : Int) * ((i : Int) + 1) ≤ 930 ∧ 0 ≤ (i : Int) * ((i : Int) + 1) := by
        have h1 := Nat.mul_le_mul (show i ≤ 30 by omega) (show i + 1 ≤ 31 by omega)
        have e : (i : Int) * ((i : Int) + 1) = ((i * (i + 1) : Nat) : Int) := by rw [Int.natCast_mul]; rfl
        rw [e]; omega
      have q : Int.tdiv ((i : Int) * ((i : Int) + 1)) 2 = roundF ((List.range i).map (fun j : Nat => (i : Int) - (j : Int))) := by
        rw [Int.tdiv_eq_ediv_of_nonneg m2.2]; omega
      refine ⟨fun _ => ⟨fun _ => ⟨by omega, fun _ => ⟨by omega, fun _ => ⟨fun _ => ⟨by omega, fun _ => ⟨by omega, fun _ => ⟨by omega, fun _ => fine q.symm⟩⟩⟩, fun c => absurd a c⟩⟩⟩, fun c => absurd trivial c⟩, fun c => absurd trivial c⟩
  refine exec_sound (n := 1000) ERingRound_ok FRingRound_ok ?_
  refine holds_of_eq (ERingRound_t l x) ?_
  by_cases h : rcheck l = 0
  · have hr : RingOk l := rcheck_iff.1 h
    have hp := hr.pos
    have hle := hr.le
    have hlo := round_low hr
    have hhi := round_high hr
    simp only [holds_cond, Tree.holds, true_and, true_implies, decide_eq_true_eq, decide_eq_false_iff_not, Bool.not_eq_true', Bool.not_eq_false', Int.toNat_natCast, inK_i64, List.length_set, List.length_cons, List.length_nil, roundR_ok h, e1]
    have m2 : (l.length : Int) * ((l.length : Int) + 1) ≤ 930 ∧ 0 ≤ (l.length : Int) * ((l.length : Int) + 1) := by
      have h1 := Nat.mul_le_mul hle (show l.length + 1 ≤ 31 by omega)
      have e : (l.length : Int) * ((l.length : Int) + 1) = ((l.length * (l.length + 1) : Nat) : Int) := by rw [Int.natCast_mul]; rfl
      rw [e]; omega
    have q : roundF l ≤ Int.tdiv ((l.length : Int) * ((l.length : Int) + 1)) 2 := by
      rw [Int.tdiv_eq_ediv_of_nonneg m2.2]; omega
    refine ⟨⟨by omega, fun _ => ⟨by omega, fun _ => ⟨fun c => by omega, fun _ => ⟨by omega, fun _ => ⟨by omega, fun _ => ⟨by omega, fun _ => ⟨fun c => by omega, fun _ => ⟨by omega, fun _ => ⟨by omega, fun _ => go⟩⟩⟩⟩⟩⟩⟩⟩⟩, fun c => absurd trivial c⟩
  · simp only [holds_cond, Tree.holds, true_and, true_implies, decide_eq_true_eq, decide_eq_false_iff_not, Bool.not_eq_true', Bool.not_eq_false', Int.toNat_natCast, inK_i64, List.length_set, List.length_cons, List.length_nil, roundR_no h, h, e1]
    exact ⟨fun c => absurd c (by simp), fun _ => ⟨by omega, fun _ => ⟨by omega, fun _ => go⟩⟩⟩
end Go.Proofs.Ytcafiieffenohaa
