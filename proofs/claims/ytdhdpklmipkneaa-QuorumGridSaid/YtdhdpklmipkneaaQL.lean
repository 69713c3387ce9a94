/- The laws of quorum systems. No condition. -/
import Derived.Test.YtdhdpklmipkneaaQT
namespace Go.Proofs.Ytdhdpklmipkneaa
open Go.Ex Go.Sort
set_option maxRecDepth 100000
def ceqU : Ctr := { ps := [.v (.slc false U16), .v (.slc false U16)], rs := [.bool], pre := fun _ => True, fn := fun x => (decide ((show List (Int) from x.1) = (show List (Int) from x.2.1)), ()), out := fun _ => () }
noncomputable def EeqU : Env := { P := Try.prog, tt := tt, ctr := [], res := [Go.ResultVar.tmp 4], rs := [Ty.bool], ps := [PK.v (Ty.slc false (Ty.int IntKind.u16)), PK.v (Ty.slc false (Ty.int IntKind.u16))], cuts := [(4, [(0, none), (1, none), (12, none), (13, none)])], nt := 26 }
theorem EeqU_ok : EnvOk EeqU := envOk tt_ok trivial
theorem FeqU_ok : FnOk EeqU Try.f28 := ⟨rfl, rfl⟩
theorem EeqU_t (x0 : List Int) (x1 : List Int) : exec EeqU 1000 [.code (bodyOf Try.prog 28)] (initSt ceqU.ps ((x0, x1, ()))) =
  cond (decide ((↑(List.length x0) : Int) ≠ (↑(List.length x1) : Int))) (.ret ((false, ()))) (.cut (loopAt (bodyOf Try.prog 28) 4).1 (loopAt (bodyOf Try.prog 28) 4).2 (St.mk [(0, AV.val (Ty.slc false (Ty.int IntKind.u16)) x0), (1, AV.val (Ty.slc false (Ty.int IntKind.u16)) x1), (12, AV.val (Ty.int IntKind.i64) (↑(List.length x0) : Int)), (13, AV.val (Ty.int IntKind.i64) (0 : Int))] [])) := by kernel_rfl
def EeqU_s4 (v0 : List Int) (v1 : List Int) (v12 : Int) (v13 : Int) : St := St.mk [(0, AV.val (Ty.slc false (Ty.int IntKind.u16)) v0), (1, AV.val (Ty.slc false (Ty.int IntKind.u16)) v1), (12, AV.val (Ty.int IntKind.i64) v12), (13, AV.val (Ty.int IntKind.i64) v13)] []
theorem EeqU_l4 (v0 : List Int) (v1 : List Int) (v12 : Int) (v13 : Int) : exec EeqU 1000 (.code (loopAt (bodyOf Try.prog 28) 4).1 :: .inLoop (loopAt (bodyOf Try.prog 28) 4).1 :: (loopAt (bodyOf Try.prog 28) 4).2) (EeqU_s4 v0 v1 v12 v13) =
  cond (decide (v13 < v12)) (.need ((0 : Int) ≤ v13 ∧ v13 < (↑(List.length v0) : Int)) (.need ((0 : Int) ≤ v13 ∧ v13 < (↑(List.length v1) : Int)) (cond (decide (List.getD v0 (Int.toNat v13) (0 : Int) ≠ List.getD v1 (Int.toNat v13) (0 : Int))) (.ret ((false, ()))) (.need (inK IntKind.i64 (v13 + (1 : Int))) (.cut (loopAt (bodyOf Try.prog 28) 4).1 (loopAt (bodyOf Try.prog 28) 4).2 (St.mk [(0, AV.val (Ty.slc false (Ty.int IntKind.u16)) v0), (1, AV.val (Ty.slc false (Ty.int IntKind.u16)) v1), (12, AV.val (Ty.int IntKind.i64) v12), (13, AV.val (Ty.int IntKind.i64) (v13 + (1 : Int)))] [])))))) (.ret ((true, ()))) := by kernel_rfl
theorem ceqU_valid : ceqU.Valid Try.prog 28 := by
  refine Ctr.valid_of EeqU_ok rfl rfl Try.func28 (c := bodyOf Try.prog 28) rfl rfl FeqU_ok rfl ?_
  rintro ⟨(l : List (Int)), (m : List (Int)), ⟨⟩⟩ - ⟨⟨hl, -⟩, -⟩
  have hl : l.length ≤ 9223372036854775807 := hl
  refine exec_sound (n := 1000) EeqU_ok FeqU_ok ?_
  refine holds_of_eq (EeqU_t l m) ?_
  have fin : ∀ {b : Bool}, (b = true ↔ l = m) → ((b, ()) : Bool × Unit) = (decide (l = m), ()) := fun {b} h => by
    cases b with
    | true => rw [decide_eq_true (h.1 rfl)]
    | false => rw [decide_eq_false (fun e => by cases h.2 e)]
  simp only [holds_cond, Tree.holds, true_and, true_implies, decide_eq_true_eq, decide_eq_false_iff_not, Bool.not_eq_true', Bool.not_eq_false', Int.toNat_natCast, inK_i64, List.length_set, List.length_cons, List.length_nil]
  refine ⟨fun c => fin ⟨fun h => (by cases h), fun h => absurd (congrArg (fun q : List (Int) => (q.length : Int)) h) c⟩, fun c => ?_⟩
  refine Reach.loopI EeqU_ok FeqU_ok (fun i : Nat => EeqU_s4 l m (l.length : Int) (i : Int)) (fun i => i ≤ l.length ∧ ∀ j, j < i → l.getD j 0 = m.getD j 0)
    (fun i => l.length - i) 1000 (fun _ => ⟨uniq_of rfl, uniq_of rfl⟩) ?_ 0 ⟨Nat.zero_le _, fun j hj => by omega⟩
  rintro i ⟨k1, k2⟩ - ih
  refine holds_of_eq (EeqU_l4 ..) ?_
  have c : l.length = m.length := by omega
  simp only [holds_cond, Tree.holds, true_and, true_implies, decide_eq_true_eq, decide_eq_false_iff_not, Bool.not_eq_true', Bool.not_eq_false', Int.toNat_natCast, inK_i64, List.length_set, List.length_cons, List.length_nil]
  refine ⟨fun d1 => ⟨by omega, fun _ => ⟨by omega, fun _ => ⟨fun d2 => fin ⟨fun h => (by cases h), fun h => absurd (congrArg (fun q : List (Int) => q.getD i 0) h) (d2)⟩, fun d2 => ⟨by omega, fun _ => ih (i + 1) ⟨by omega, fun j hj => ?_⟩ (by omega)⟩⟩⟩⟩, fun d1 => fin ⟨fun _ => eq_of_getD c (fun j hj => k2 j (by omega)), fun _ => rfl⟩⟩
  rcases Nat.lt_or_ge j i with h | h
  · exact k2 j h
  · obtain rfl : j = i := by omega
    exact Decidable.not_not.1 d2
def csumOf : Ctr := { ps := [.v (.slc false I64)], rs := [I64], pre := fun x => vokP x.1, fn := fun x => (sumN (fun i => List.getD (α := Int) x.1 i 0) (List.length (α := Int) x.1), ()), out := fun _ => () }

noncomputable def EsumOf : Env := { P := Try.prog, tt := tt, ctr := [], res := [Go.ResultVar.tmp 2], rs := [Ty.int IntKind.i64], ps := [PK.v (Ty.slc false (Ty.int IntKind.i64))], cuts := [(3, [(3, none), (6, none), (7, none), (8, none)])], nt := 17 }
theorem EsumOf_ok : EnvOk EsumOf := envOk tt_ok trivial
theorem FsumOf_ok : FnOk EsumOf Try.f36 := ⟨rfl, rfl⟩
theorem EsumOf_t (x0 : List Int) : exec EsumOf 1000 [.code (bodyOf Try.prog 36)] (initSt csumOf.ps ((x0, ()))) =
  .cut (loopAt (bodyOf Try.prog 36) 3).1 (loopAt (bodyOf Try.prog 36) 3).2 (St.mk [(3, AV.val (Ty.int IntKind.i64) (0 : Int)), (6, AV.val (Ty.slc false (Ty.int IntKind.i64)) x0), (7, AV.val (Ty.int IntKind.i64) (↑(List.length x0) : Int)), (8, AV.val (Ty.int IntKind.i64) (0 : Int))] []) := by kernel_rfl
def EsumOf_s3 (v3 : Int) (v6 : List Int) (v7 : Int) (v8 : Int) : St := St.mk [(3, AV.val (Ty.int IntKind.i64) v3), (6, AV.val (Ty.slc false (Ty.int IntKind.i64)) v6), (7, AV.val (Ty.int IntKind.i64) v7), (8, AV.val (Ty.int IntKind.i64) v8)] []
theorem EsumOf_l3 (v3 : Int) (v6 : List Int) (v7 : Int) (v8 : Int) : exec EsumOf 1000 (.code (loopAt (bodyOf Try.prog 36) 3).1 :: .inLoop (loopAt (bodyOf Try.prog 36) 3).1 :: (loopAt (bodyOf Try.prog 36) 3).2) (EsumOf_s3 v3 v6 v7 v8) =
  cond (decide (v8 < v7)) (.need ((0 : Int) ≤ v8 ∧ v8 < (↑(List.length v6) : Int)) (.need (inK IntKind.i64 (v3 + List.getD v6 (Int.toNat v8) (0 : Int))) (.need (inK IntKind.i64 (v8 + (1 : Int))) (.cut (loopAt (bodyOf Try.prog 36) 3).1 (loopAt (bodyOf Try.prog 36) 3).2 (St.mk [(3, AV.val (Ty.int IntKind.i64) (v3 + List.getD v6 (Int.toNat v8) (0 : Int))), (6, AV.val (Ty.slc false (Ty.int IntKind.i64)) v6), (7, AV.val (Ty.int IntKind.i64) v7), (8, AV.val (Ty.int IntKind.i64) (v8 + (1 : Int)))] []))))) (.ret ((v3, ()))) := by kernel_rfl
theorem sumV {v : List Int} (hv : ∀ y ∈ v, 0 ≤ y ∧ y ≤ 16777215) : ∀ k, k ≤ v.length → 0 ≤ sumN (fun i => v.getD i 0) k ∧ sumN (fun i => v.getD i 0) k ≤ 16777215 * k
  | 0, _ => by simp [sumN]
  | k + 1, hk => by
    have ih := sumV hv k (by omega)
    have h0 := hv _ (getD_mem (d := 0) (show k < v.length by omega))
    rw [sumN]; omega
theorem csumOf_valid : csumOf.Valid Try.prog 36 := by
  refine Ctr.valid_of EsumOf_ok rfl rfl Try.func36 (c := bodyOf Try.prog 36) rfl rfl FsumOf_ok rfl ?_
  rintro ⟨(v : List Int), ⟨⟩⟩ ⟨(h10 : v.length ≤ 10), (hv : ∀ y ∈ v, 0 ≤ y ∧ y ≤ 16777215)⟩ -
  refine exec_sound (n := 1000) EsumOf_ok FsumOf_ok ?_
  refine holds_of_eq (EsumOf_t v) ?_
  refine Reach.loopI EsumOf_ok FsumOf_ok (fun i : Nat => EsumOf_s3 (sumN (fun i => v.getD i 0) i) v (v.length : Int) (i : Int)) (fun i => i ≤ v.length) (fun i => v.length - i) 1000 (fun _ => ⟨uniq_of rfl, uniq_of rfl⟩) ?_ 0 (Nat.zero_le _)
  rintro i k1 - ih
  have k1 : i ≤ v.length := k1
  refine holds_of_eq (EsumOf_l3 ..) ?_
  simp only [holds_cond, Tree.holds, true_and, true_implies, decide_eq_true_eq, decide_eq_false_iff_not, Bool.not_eq_true', Bool.not_eq_false', Int.toNat_natCast, inK_i64, List.length_set, List.length_cons, List.length_nil]
  refine ⟨fun c => ⟨by omega, fun _ => ?_⟩, fun c => ?_⟩
  · have hi : i < v.length := by omega
    have h1 := sumV hv i k1
    have h2 := sumV hv (i + 1) hi
    have next := ih (i + 1) hi (by omega)
    rw [sumN] at next h2
    exact ⟨by omega, fun _ => ⟨by omega, fun _ => next⟩⟩
  · obtain rfl : i = v.length := by omega
    rfl
theorem votesR_ok {v : List Int} {need : Int} (h : (votesR v need).2.1 = 0) : (1 ≤ v.length ∧ v.length ≤ 10) ∧ (∀ y ∈ v, 0 ≤ y ∧ y ≤ 16777215) ∧ (1 ≤ need ∧ need ≤ 16777215) ∧ votesR v need = (votesF v need, 0, ()) := by
  unfold votesR at h ⊢
  split at h
  · rename_i hc
    exact ⟨hc.1, hc.2.2, hc.2.1, by rw [if_pos hc]⟩
  · cases h
theorem hasR_is {n : Int} {l : List Int} (h : qcheck n l = 0) (s : Int) : (if qcheck n l ≠ 0 then (false, qcheck n l, ()) else (hasQ l s, 0, ()) : Bool × Int × Unit) = (hasQ l s, 0, ()) := if_neg (by rw [h]; simp)
theorem meetR_is {n : Int} {l : List Int} (h : qcheck n l = 0) : (if qcheck n l ≠ 0 then (false, qcheck n l, ()) else (allMeet l, 0, ()) : Bool × Int × Unit) = (allMeet l, 0, ()) := if_neg (by rw [h]; simp)
theorem votes_ok {v : List Int} {need : Int} (h : 1 ≤ v.length ∧ v.length ≤ 10) : QOk v.length (votesF v need) := min_ok h _
theorem more_within {a b : Int} : withinU a (bOr .u16 a b) = true := within_iff.2 (fun i h => by rw [show bOr .u16 a b = orU a b from rfl, has_or, h]; rfl)
def cQuorumMore : Ctr := { ps := [.v (.slc false I64), .v I64, .v I64, .v U16, .v U16], rs := [.bool], pre := fun _ => True, fn := fun _ => (true, ()), out := fun _ => () }
noncomputable def EQuorumMore : Env := { P := Try.prog, tt := tt, ctr := [(25, cvotes), (26, chas)], res := [Go.ResultVar.tmp 10], rs := [Ty.bool], ps := [PK.v (Ty.slc false (Ty.int IntKind.i64)), PK.v (Ty.int IntKind.i64), PK.v (Ty.int IntKind.i64), PK.v (Ty.int IntKind.u16), PK.v (Ty.int IntKind.u16)], cuts := [], nt := 120 }
theorem EQuorumMore_ok : EnvOk EQuorumMore := envOk tt_ok ⟨cvotes_valid, chas_valid, trivial⟩
theorem FQuorumMore_ok : FnOk EQuorumMore Try.f4 := ⟨rfl, rfl⟩
theorem EQuorumMore_t (x0 : List Int) (x1 : Int) (x2 : Int) (x3 : Int) (x4 : Int) : exec EQuorumMore 1000 [.code (bodyOf Try.prog 4)] (initSt cQuorumMore.ps ((x0, x1, x2, x3, x4, ()))) =
  .need (True) (.need (True) (.need (True) (.need (True) (cond (decide (Prod.fst (Prod.snd (votesR x0 (if x2 < x1 then x2 else x1))) ≠ (0 : Int))) (.ret ((true, ()))) (cond (decide (Prod.fst (Prod.snd (votesR x0 (if x1 < x2 then x2 else x1))) ≠ (0 : Int))) (.ret ((true, ()))) (.need (True) (.need (True) (.need (True) (cond (decide (Prod.fst (Prod.snd (if qcheck (↑(List.length x0) : Int) (Prod.fst (votesR x0 (if x2 < x1 then x2 else x1))) ≠ (0 : Int) then (false, qcheck (↑(List.length x0) : Int) (Prod.fst (votesR x0 (if x2 < x1 then x2 else x1))), ()) else (hasQ (Prod.fst (votesR x0 (if x2 < x1 then x2 else x1))) x3, (0 : Ty.den I64), ()))) = (0 : Int))) (cond (decide (Prod.fst (Prod.snd (if qcheck (↑(List.length x0) : Int) (Prod.fst (votesR x0 (if x2 < x1 then x2 else x1))) ≠ (0 : Int) then (false, qcheck (↑(List.length x0) : Int) (Prod.fst (votesR x0 (if x2 < x1 then x2 else x1))), ()) else (hasQ (Prod.fst (votesR x0 (if x2 < x1 then x2 else x1))) (bOr IntKind.u16 x3 x4), (0 : Ty.den I64), ()))) = (0 : Int))) (cond (decide (Prod.fst (Prod.snd (if qcheck (↑(List.length x0) : Int) (Prod.fst (votesR x0 (if x1 < x2 then x2 else x1))) ≠ (0 : Int) then (false, qcheck (↑(List.length x0) : Int) (Prod.fst (votesR x0 (if x1 < x2 then x2 else x1))), ()) else (hasQ (Prod.fst (votesR x0 (if x1 < x2 then x2 else x1))) x3, (0 : Ty.den I64), ()))) = (0 : Int))) (cond (!Prod.fst (if qcheck (↑(List.length x0) : Int) (Prod.fst (votesR x0 (if x2 < x1 then x2 else x1))) ≠ (0 : Int) then (false, qcheck (↑(List.length x0) : Int) (Prod.fst (votesR x0 (if x2 < x1 then x2 else x1))), ()) else (hasQ (Prod.fst (votesR x0 (if x2 < x1 then x2 else x1))) x3, (0 : Ty.den I64), ()))) (cond (!Prod.fst (if qcheck (↑(List.length x0) : Int) (Prod.fst (votesR x0 (if x1 < x2 then x2 else x1))) ≠ (0 : Int) then (false, qcheck (↑(List.length x0) : Int) (Prod.fst (votesR x0 (if x1 < x2 then x2 else x1))), ()) else (hasQ (Prod.fst (votesR x0 (if x1 < x2 then x2 else x1))) x3, (0 : Ty.den I64), ()))) (.ret ((true, ()))) (.ret ((Prod.fst (if qcheck (↑(List.length x0) : Int) (Prod.fst (votesR x0 (if x2 < x1 then x2 else x1))) ≠ (0 : Int) then (false, qcheck (↑(List.length x0) : Int) (Prod.fst (votesR x0 (if x2 < x1 then x2 else x1))), ()) else (hasQ (Prod.fst (votesR x0 (if x2 < x1 then x2 else x1))) x3, (0 : Ty.den I64), ())), ())))) (cond (Prod.fst (if qcheck (↑(List.length x0) : Int) (Prod.fst (votesR x0 (if x2 < x1 then x2 else x1))) ≠ (0 : Int) then (false, qcheck (↑(List.length x0) : Int) (Prod.fst (votesR x0 (if x2 < x1 then x2 else x1))), ()) else (hasQ (Prod.fst (votesR x0 (if x2 < x1 then x2 else x1))) (bOr IntKind.u16 x3 x4), (0 : Ty.den I64), ()))) (cond (!Prod.fst (if qcheck (↑(List.length x0) : Int) (Prod.fst (votesR x0 (if x1 < x2 then x2 else x1))) ≠ (0 : Int) then (false, qcheck (↑(List.length x0) : Int) (Prod.fst (votesR x0 (if x1 < x2 then x2 else x1))), ()) else (hasQ (Prod.fst (votesR x0 (if x1 < x2 then x2 else x1))) x3, (0 : Ty.den I64), ()))) (.ret ((true, ()))) (.ret ((Prod.fst (if qcheck (↑(List.length x0) : Int) (Prod.fst (votesR x0 (if x2 < x1 then x2 else x1))) ≠ (0 : Int) then (false, qcheck (↑(List.length x0) : Int) (Prod.fst (votesR x0 (if x2 < x1 then x2 else x1))), ()) else (hasQ (Prod.fst (votesR x0 (if x2 < x1 then x2 else x1))) x3, (0 : Ty.den I64), ())), ())))) (.ret ((false, ()))))) (.ret ((false, ())))) (.ret ((false, ())))) (.ret ((false, ())))))))))))) := by kernel_rfl
theorem cQuorumMore_valid : cQuorumMore.Valid Try.prog 4 := by
  refine Ctr.valid_of EQuorumMore_ok rfl rfl Try.func4 (c := bodyOf Try.prog 4) rfl rfl FQuorumMore_ok rfl ?_
  rintro ⟨(v : List Int), (a : Int), (b : Int), (s : Int), (more : Int), ⟨⟩⟩ - ⟨-, -, -, hs, -, -⟩
  have hs : inU s := inK_u16.1 hs
  refine exec_sound (n := 1000) EQuorumMore_ok FQuorumMore_ok ?_
  refine holds_of_eq (EQuorumMore_t v a b s more) ?_
  simp only [holds_cond, Tree.holds, true_and, true_implies, decide_eq_true_eq, decide_eq_false_iff_not, Bool.not_eq_true', Bool.not_eq_false', Int.toNat_natCast, inK_i64, List.length_set, List.length_cons, List.length_nil]
  have hle : (if b < a then b else a) ≤ (if a < b then b else a) := by split <;> split <;> omega
  generalize (if b < a then b else a) = lo at *
  generalize (if a < b then b else a) = hi at *
  refine ⟨fun _ => yes, fun c1 => ⟨fun _ => yes, fun c2 => ?_⟩⟩
  obtain ⟨hn, hv, -, e1⟩ := votesR_ok (Decidable.not_not.1 c1)
  obtain ⟨-, -, -, e2⟩ := votesR_ok (Decidable.not_not.1 c2)
  rw [e1, e2]
  have q1 := (votes_ok (need := lo) hn).check
  have q2 := (votes_ok (need := hi) hn).check
  have hv0 : ∀ y ∈ v, 0 ≤ y := fun y hy => (hv y hy).1
  have m1 : hasQ (votesF v lo) s = true → hasQ (votesF v lo) (bOr .u16 s more) = true := hasQ_mono more_within
  have m2 : hasQ (votesF v hi) s = true → hasQ (votesF v lo) s = true := by
    rw [votes_has hn.2 hv0 hs, votes_has hn.2 hv0 hs, decide_eq_true_eq, decide_eq_true_eq]; omega
  simp only [hasR_is q1, hasR_is q2]
  generalize hasQ (votesF v lo) s = p at *
  generalize hasQ (votesF v lo) (bOr .u16 s more) = q at *
  generalize hasQ (votesF v hi) s = r at *
  cases p <;> cases q <;> cases r <;> first | (simp at m1 m2 ⊢; done) | (simp at m1 m2 ⊢; rfl)
def cQuorumDual : Ctr := { ps := [.v I64, .v (.slc false U16), .v U16], rs := [.bool], pre := fun _ => True, fn := fun _ => (true, ()), out := fun _ => () }
noncomputable def EQuorumDual : Env := { P := Try.prog, tt := tt, ctr := [(27, cdual), (26, chas), (29, cqcheck), (28, ceqU)], res := [Go.ResultVar.tmp 6], rs := [Ty.bool], ps := [PK.v (Ty.int IntKind.i64), PK.v (Ty.slc false (Ty.int IntKind.u16)), PK.v (Ty.int IntKind.u16)], cuts := [], nt := 98 }
theorem EQuorumDual_ok : EnvOk EQuorumDual := envOk tt_ok ⟨cdual_valid, chas_valid, cqcheck_valid, ceqU_valid, trivial⟩
theorem FQuorumDual_ok : FnOk EQuorumDual Try.f5 := ⟨rfl, rfl⟩
theorem EQuorumDual_t (x0 : Int) (x1 : List Int) (x2 : Int) : exec EQuorumDual 1000 [.code (bodyOf Try.prog 5)] (initSt cQuorumDual.ps ((x0, x1, x2, ()))) =
  .need (True) (.need (True) (.need (True) (cond (decide (Prod.fst (Prod.snd (dualR x0 x1)) ≠ (0 : Int))) (cond (decide ((↑(List.length (Prod.fst (dualR x0 x1))) : Int) = (0 : Int))) (.need (True) (.ret ((decide (qcheck x0 x1 = Prod.fst (Prod.snd (dualR x0 x1))), ())))) (.ret ((false, ())))) (.need (True) (.need ((0 : Int) ≤ x0) (.need (True) (.need ((0 : Int) ≤ x0) (.need (True) (cond (decide (Prod.fst (Prod.snd (dualR x0 (Prod.fst (dualR x0 x1)))) = (0 : Int))) (.need (True) (cond (decide (Prod.fst (dualR x0 (Prod.fst (dualR x0 x1))) = x1)) (cond (decide (Prod.fst (Prod.snd (if qcheck x0 x1 ≠ (0 : Int) then (false, qcheck x0 x1, ()) else (hasQ x1 (bAnd IntKind.u16 x2 (IntKind.wrap IntKind.u16 (IntKind.wrap IntKind.u16 ((1 : Int) * (2 : Int) ^ min (Int.toNat x0) (IntKind.bits IntKind.u16)) - (1 : Int)))), (0 : Ty.den I64), ()))) = (0 : Int))) (cond (decide (Prod.fst (Prod.snd (if qcheck x0 (Prod.fst (dualR x0 x1)) ≠ (0 : Int) then (false, qcheck x0 (Prod.fst (dualR x0 x1)), ()) else (hasQ (Prod.fst (dualR x0 x1)) (bAnd IntKind.u16 (bXor IntKind.u16 (if IntKind.signed IntKind.u16 = true then (-1 : Int) else IntKind.max IntKind.u16) (bAnd IntKind.u16 x2 (IntKind.wrap IntKind.u16 (IntKind.wrap IntKind.u16 ((1 : Int) * (2 : Int) ^ min (Int.toNat x0) (IntKind.bits IntKind.u16)) - (1 : Int))))) (IntKind.wrap IntKind.u16 (IntKind.wrap IntKind.u16 ((1 : Int) * (2 : Int) ^ min (Int.toNat x0) (IntKind.bits IntKind.u16)) - (1 : Int)))), (0 : Ty.den I64), ()))) = (0 : Int))) (.ret ((Prod.fst (if qcheck x0 x1 ≠ (0 : Int) then (false, qcheck x0 x1, ()) else (hasQ x1 (bAnd IntKind.u16 x2 (IntKind.wrap IntKind.u16 (IntKind.wrap IntKind.u16 ((1 : Int) * (2 : Int) ^ min (Int.toNat x0) (IntKind.bits IntKind.u16)) - (1 : Int)))), (0 : Ty.den I64), ())) != Prod.fst (if qcheck x0 (Prod.fst (dualR x0 x1)) ≠ (0 : Int) then (false, qcheck x0 (Prod.fst (dualR x0 x1)), ()) else (hasQ (Prod.fst (dualR x0 x1)) (bAnd IntKind.u16 (bXor IntKind.u16 (if IntKind.signed IntKind.u16 = true then (-1 : Int) else IntKind.max IntKind.u16) (bAnd IntKind.u16 x2 (IntKind.wrap IntKind.u16 (IntKind.wrap IntKind.u16 ((1 : Int) * (2 : Int) ^ min (Int.toNat x0) (IntKind.bits IntKind.u16)) - (1 : Int))))) (IntKind.wrap IntKind.u16 (IntKind.wrap IntKind.u16 ((1 : Int) * (2 : Int) ^ min (Int.toNat x0) (IntKind.bits IntKind.u16)) - (1 : Int)))), (0 : Ty.den I64), ())), ()))) (.ret ((false, ())))) (.ret ((false, ())))) (.ret ((false, ()))))) (.ret ((false, ())))))))))))) := by kernel_rfl
theorem dualR_ok {n : Int} {l : List Int} (hr : ∀ s ∈ l, inU s) (h : (dualR n l).2.1 = 0) : ∃ m : Nat, n = m ∧ QOk m l ∧ dualR n l = (dualF m l, 0, ()) := by
  unfold dualR at h ⊢
  split at h
  · contradiction
  · rename_i hc
    obtain ⟨m, rfl, hq, -⟩ := qcheck_ok hr (Decidable.not_not.1 hc)
    exact ⟨m, rfl, hq, by rw [if_neg hc, Int.toNat_natCast]⟩
theorem cQuorumDual_valid : cQuorumDual.Valid Try.prog 5 := by
  refine Ctr.valid_of EQuorumDual_ok rfl rfl Try.func5 (c := bodyOf Try.prog 5) rfl rfl FQuorumDual_ok rfl ?_
  rintro ⟨(n0 : Int), (l : List Int), (s : Int), ⟨⟩⟩ - ⟨-, ⟨-, hr⟩, hs, -⟩
  have hsu : inU s := inK_u16.1 hs
  have hru : ∀ s ∈ l, inU s := fun s h => inK_u16.1 (hr s h)
  refine exec_sound (n := 1000) EQuorumDual_ok FQuorumDual_ok ?_
  refine holds_of_eq (EQuorumDual_t n0 l s) ?_
  simp only [holds_cond, Tree.holds, true_and, true_implies, decide_eq_true_eq, decide_eq_false_iff_not, Bool.not_eq_true', Bool.not_eq_false', Int.toNat_natCast, inK_i64, List.length_set, List.length_cons, List.length_nil]
  refine ⟨fun c => ?_, fun c => ?_⟩
  · have e : dualR n0 l = ([], qcheck n0 l, ()) := by
      unfold dualR at c ⊢
      split at c
      · rename_i hc; rw [if_pos hc]
      · exact absurd rfl c
    rw [e]
    exact ⟨fun _ => yesd rfl, fun h => absurd rfl h⟩
  obtain ⟨n, rfl, hq, e1⟩ := dualR_ok hru (Decidable.not_not.1 c)
  have hd := min_ok hq.n1 (fun s => meetsQ s l)
  have hn := hq.n1.2
  have e2 : dualR (n : Int) (dualF n l) = (dualF n (dualF n l), 0, ()) := by
    rw [dualR, if_neg (by rw [show qcheck (n : Int) (dualF n l) = 0 from hd.check]; simp), Int.toNat_natCast]
  rw [e1]
  refine ⟨by omega, fun _ => ⟨by omega, fun _ => ?_⟩⟩
  have hp := pow_leN hn
  have e16 : IntKind.wrap .u16 (IntKind.wrap .u16 (1 * 2 ^ min (Int.toNat (n : Int)) (IntKind.bits .u16)) - 1) = 2 ^ n - 1 := by
    rw [two_pow hn]
    have h1 : 1 ≤ 2 ^ n := Nat.one_le_two_pow
    have e : ((2 ^ n : Nat) : Int) = 2 ^ n := by push_cast; rfl
    rw [show ((2 ^ n : Nat) : Int) - 1 = ((2 ^ n - 1 : Nat) : Int) by omega, wrapU (by omega)]
    omega
  rw [e16]
  have hL := lacks_of hn hsu rfl
  have hLa : bAnd .u16 s (2 ^ n - 1) = andU s (2 ^ n - 1) := rfl
  have hin : inU (andU s (2 ^ n - 1)) := andU_in _ _
  have hL2 : Lacks n (andU s (2 ^ n - 1)) (bAnd .u16 (bXor .u16 (if IntKind.u16.signed = true then -1 else IntKind.u16.max) (andU s (2 ^ n - 1))) (2 ^ n - 1)) := by
    have hx : bXor .u16 (if IntKind.u16.signed = true then -1 else IntKind.u16.max) (andU s (2 ^ n - 1)) = 65535 - andU s (2 ^ n - 1) := by
      refine bits_eq (inK_u16.1 xor_in) (by unfold inU at *; omega) (fun i => ?_)
      have hm : (if IntKind.u16.signed = true then -1 else IntKind.u16.max) = (65535 : Int) := rfl
      have h3 : inU (65535 : Int) := ⟨by omega, by omega⟩
      have h4 : inU (65535 - andU s (2 ^ n - 1)) := by unfold inU at *; omega
      have h5 : (65535 - andU s (2 ^ n - 1)).toNat = 2 ^ 16 - ((andU s (2 ^ n - 1)).toNat + 1) := by unfold inU at *; omega
      rw [hm, has_nat (inK_u16.1 xor_in), has_nat h4, h5, Nat.testBit_two_pow_sub_succ (by unfold inU at hin; omega)]
      have := bit_xor (k := .u16) rfl (inK_u16.2 h3) (inK_u16.2 hin) i
      rw [show (bXor .u16 65535 (andU s (2 ^ n - 1))).toNat.testBit i = bit (bXor .u16 65535 (andU s (2 ^ n - 1))) i from rfl, this]
      show ((2 ^ 16 - 1 : Nat).testBit i ^^ (andU s (2 ^ n - 1)).toNat.testBit i) = _
      rw [Nat.testBit_two_pow_sub_one]
      by_cases h16 : i < 16
      · rw [decide_eq_true h16]; simp
      · rw [decide_eq_false h16, Nat.testBit_lt_two_pow (Nat.lt_of_lt_of_le (show (andU s (2 ^ n - 1)).toNat < 2 ^ 16 by unfold inU at hin; omega) (Nat.pow_le_pow_right (by omega) (by omega)))]; simp
    rw [hx]
    have := lacks_of hn hin rfl
    have e : andU (andU s (2 ^ n - 1)) (2 ^ n - 1) = andU s (2 ^ n - 1) := bits_eq (andU_in _ _) (andU_in _ _) (fun i => by rw [has_and, has_and]; cases hasB s i <;> cases hasB (2 ^ n - 1) i <;> rfl)
    rw [e] at this
    exact this
  rw [hLa]
  have hx := dual_has hn (l := l) hL2.yr
  rw [lacks_meets hn hq.rng hL2] at hx
  have q1 := hq.check
  have q2 : qcheck (n : Int) (dualF n l) = 0 := hd.check
  simp only [e2, dual_back hq, hasR_is q1, hasR_is q2]
  rw [hx]
  cases hasQ l (andU s (2 ^ n - 1)) <;> first | (simp; done) | (simp; rfl)
def cQuorumSelf : Ctr := { ps := [.v I64, .v (.slc false U16)], rs := [.bool], pre := fun _ => True, fn := fun _ => (true, ()), out := fun _ => () }
noncomputable def EQuorumSelf : Env := { P := Try.prog, tt := tt, ctr := [(27, cdual), (26, chas), (30, cMeets), (28, ceqU)], res := [Go.ResultVar.tmp 4], rs := [Ty.bool], ps := [PK.v (Ty.int IntKind.i64), PK.v (Ty.slc false (Ty.int IntKind.u16))], cuts := [(13, [(0, none), (1, none), (9, some (Ty.slc true (Ty.int IntKind.u16))), (11, none), (12, none), (13, none), (53, none), (54, none), (55, none)])], nt := 89 }
theorem EQuorumSelf_ok : EnvOk EQuorumSelf := envOk tt_ok ⟨cdual_valid, chas_valid, cMeets_valid, ceqU_valid, trivial⟩
theorem FQuorumSelf_ok : FnOk EQuorumSelf Try.f6 := ⟨rfl, rfl⟩
theorem EQuorumSelf_t (x0 : Int) (x1 : List Int) : exec EQuorumSelf 1000 [.code (bodyOf Try.prog 6)] (initSt cQuorumSelf.ps ((x0, x1, ()))) =
  .need (True) (.need (True) (.need (True) (cond (decide (Prod.fst (Prod.snd (dualR x0 x1)) ≠ (0 : Int))) (.ret ((true, ()))) (.need (True) (.cut (loopAt (bodyOf Try.prog 6) 13).1 (loopAt (bodyOf Try.prog 6) 13).2 (St.mk [(0, AV.val (Ty.int IntKind.i64) x0), (1, AV.val (Ty.slc false (Ty.int IntKind.u16)) x1), (9, AV.at_ 1000009 []), (11, AV.val Ty.bool (Prod.fst (if qcheck x0 x1 ≠ (0 : Int) then (false, qcheck x0 x1, ()) else (allMeet x1, (0 : Ty.den I64), ())))), (12, AV.val (Ty.int IntKind.i64) (Prod.fst (Prod.snd (if qcheck x0 x1 ≠ (0 : Int) then (false, qcheck x0 x1, ()) else (allMeet x1, (0 : Ty.den I64), ()))))), (13, AV.val Ty.bool true), (53, AV.val (Ty.slc false (Ty.int IntKind.u16)) x1), (54, AV.val (Ty.int IntKind.i64) (↑(List.length x1) : Int)), (55, AV.val (Ty.int IntKind.i64) (0 : Int))] [(1000009, Ent.own (Ty.slc true (Ty.int IntKind.u16)) (Prod.fst (dualR x0 x1)))])))))) := by kernel_rfl
def EQuorumSelf_s13 (v0 : Int) (v1 : List Int) (v11 : Bool) (v12 : Int) (v13 : Bool) (v53 : List Int) (v54 : Int) (v55 : Int) (o1000009 : List Int) : St := St.mk [(0, AV.val (Ty.int IntKind.i64) v0), (1, AV.val (Ty.slc false (Ty.int IntKind.u16)) v1), (9, AV.at_ 1000009 []), (11, AV.val Ty.bool v11), (12, AV.val (Ty.int IntKind.i64) v12), (13, AV.val Ty.bool v13), (53, AV.val (Ty.slc false (Ty.int IntKind.u16)) v53), (54, AV.val (Ty.int IntKind.i64) v54), (55, AV.val (Ty.int IntKind.i64) v55)] [(1000009, Ent.own (Ty.slc true (Ty.int IntKind.u16)) o1000009)]
theorem EQuorumSelf_l13 (v0 : Int) (v1 : List Int) (v11 : Bool) (v12 : Int) (v13 : Bool) (v53 : List Int) (v54 : Int) (v55 : Int) (o1000009 : List Int) : exec EQuorumSelf 1000 (.code (loopAt (bodyOf Try.prog 6) 13).1 :: .inLoop (loopAt (bodyOf Try.prog 6) 13).1 :: (loopAt (bodyOf Try.prog 6) 13).2) (EQuorumSelf_s13 v0 v1 v11 v12 v13 v53 v54 v55 o1000009) =
  cond (decide (v55 < v54)) (.need ((0 : Int) ≤ v55 ∧ v55 < (↑(List.length v53) : Int)) (.need (True) (cond (decide (Prod.fst (Prod.snd (if qcheck v0 o1000009 ≠ (0 : Int) then (false, qcheck v0 o1000009, ()) else (hasQ o1000009 (List.getD v53 (Int.toNat v55) (0 : Int)), (0 : Ty.den I64), ()))) ≠ (0 : Int))) (.ret ((false, ()))) (cond (v13) (.need (inK IntKind.i64 (v55 + (1 : Int))) (.cut (loopAt (bodyOf Try.prog 6) 13).1 (loopAt (bodyOf Try.prog 6) 13).2 (St.mk [(0, AV.val (Ty.int IntKind.i64) v0), (1, AV.val (Ty.slc false (Ty.int IntKind.u16)) v1), (9, AV.at_ 1000009 []), (11, AV.val Ty.bool v11), (12, AV.val (Ty.int IntKind.i64) v12), (13, AV.val Ty.bool (Prod.fst (if qcheck v0 o1000009 ≠ (0 : Int) then (false, qcheck v0 o1000009, ()) else (hasQ o1000009 (List.getD v53 (Int.toNat v55) (0 : Int)), (0 : Ty.den I64), ())))), (53, AV.val (Ty.slc false (Ty.int IntKind.u16)) v53), (54, AV.val (Ty.int IntKind.i64) v54), (55, AV.val (Ty.int IntKind.i64) (v55 + (1 : Int)))] [(1000009, Ent.own (Ty.slc true (Ty.int IntKind.u16)) o1000009)]))) (.need (inK IntKind.i64 (v55 + (1 : Int))) (.cut (loopAt (bodyOf Try.prog 6) 13).1 (loopAt (bodyOf Try.prog 6) 13).2 (St.mk [(0, AV.val (Ty.int IntKind.i64) v0), (1, AV.val (Ty.slc false (Ty.int IntKind.u16)) v1), (9, AV.at_ 1000009 []), (11, AV.val Ty.bool v11), (12, AV.val (Ty.int IntKind.i64) v12), (13, AV.val Ty.bool false), (53, AV.val (Ty.slc false (Ty.int IntKind.u16)) v53), (54, AV.val (Ty.int IntKind.i64) v54), (55, AV.val (Ty.int IntKind.i64) (v55 + (1 : Int)))] [(1000009, Ent.own (Ty.slc true (Ty.int IntKind.u16)) o1000009)]))))))) (cond (decide (v12 = (0 : Int))) (cond (v11 == v13) (.need (True) (cond (!decide (o1000009 = v1)) (.ret ((true, ()))) (.ret ((v11, ()))))) (.ret ((false, ())))) (.ret ((false, ())))) := by kernel_rfl
theorem all_congr' {α : Type} {p q : α → Bool} : ∀ {l : List α}, (∀ x ∈ l, p x = q x) → l.all p = l.all q
  | [], _ => rfl
  | x :: l, h => by rw [List.all_cons, List.all_cons, h x (by simp), all_congr' (fun y hy => h y (by simp [hy]))]
theorem take_getD {α : Type} {l : List α} {i : Nat} (h : i < l.length) (d : α) : l.take (i + 1) = l.take i ++ [l.getD i d] := by
  rw [List.take_add_one, List.getElem?_eq_getElem h, List.getD_eq_getElem?_getD, List.getElem?_eq_getElem h]; rfl
theorem all_snoc {α : Type} {l : List α} {i : Nat} {d : α} {p : α → Bool} (hi : i < l.length) : (l.take (i + 1)).all p = ((l.take i).all p && p (l.getD i d)) := by
  rw [take_getD hi d, List.all_append]; simp
theorem allMeet_eq {l : List Int} : allMeet l = l.all (fun s => meetsQ s l) := by
  rw [allMeet, List.not_any_eq_all_not]
  congr 1
  funext s
  rw [missQ, Bool.not_not]
theorem cQuorumSelf_valid : cQuorumSelf.Valid Try.prog 6 := by
  refine Ctr.valid_of EQuorumSelf_ok rfl rfl Try.func6 (c := bodyOf Try.prog 6) rfl rfl FQuorumSelf_ok rfl ?_
  rintro ⟨(n0 : Int), (l : List Int), ⟨⟩⟩ - ⟨-, ⟨-, hr⟩, -⟩
  have hru : ∀ s ∈ l, inU s := fun s h => inK_u16.1 (hr s h)
  refine exec_sound (n := 1000) EQuorumSelf_ok FQuorumSelf_ok ?_
  refine holds_of_eq (EQuorumSelf_t n0 l) ?_
  simp only [holds_cond, Tree.holds, true_and, true_implies, decide_eq_true_eq, decide_eq_false_iff_not, Bool.not_eq_true', Bool.not_eq_false', Int.toNat_natCast, inK_i64, List.length_set, List.length_cons, List.length_nil]
  refine ⟨fun _ => yes, fun c => ?_⟩
  obtain ⟨n, rfl, hq, e1⟩ := dualR_ok hru (Decidable.not_not.1 c)
  have hd := min_ok hq.n1 (fun s => meetsQ s l)
  have hn := hq.n1.2
  have q1 := hq.check
  have q2 : qcheck (n : Int) (dualF n l) = 0 := hd.check
  have key : ∀ s ∈ l, hasQ (dualF n l) s = meetsQ s l := fun s hs => dual_has hn (hq.rng s hs)
  rw [e1]
  simp only [meetR_is q1]
  refine Reach.loopI EQuorumSelf_ok FQuorumSelf_ok (fun i : Nat => EQuorumSelf_s13 (n : Int) l (allMeet l) (0 : Int) ((l.take i).all (hasQ (dualF n l))) l (l.length : Int) (i : Int) (dualF n l)) (fun i => i ≤ l.length) (fun i => l.length - i) 1000 (fun _ => ⟨uniq_of rfl, uniq_of rfl⟩) ?_ 0 (Nat.zero_le _)
  rintro i k1 - ih
  have k1 : i ≤ l.length := k1
  have hl := hq.few
  refine holds_of_eq (EQuorumSelf_l13 ..) ?_
  simp only [holds_cond, Tree.holds, true_and, true_implies, decide_eq_true_eq, decide_eq_false_iff_not, Bool.not_eq_true', Bool.not_eq_false', Int.toNat_natCast, inK_i64, List.length_set, List.length_cons, List.length_nil]
  simp only [hasR_is q2]
  refine ⟨fun d => ?_, fun d => ⟨?_, fun h => absurd trivial h⟩⟩
  · have hi : i < l.length := by omega
    have next := ih (i + 1) hi (by omega)
    rw [all_snoc (d := 0) hi] at next
    refine ⟨by omega, fun _ => ⟨fun h => absurd rfl h, fun _ => ⟨fun e => ⟨by omega, fun _ => ?_⟩, fun e => ⟨by omega, fun _ => ?_⟩⟩⟩⟩
    · rw [e, Bool.true_and] at next
      exact next
    · rw [e, Bool.false_and] at next
      exact next
  · obtain rfl : i = l.length := by omega
    rw [List.take_length]
    have hall : l.all (hasQ (dualF n l)) = allMeet l := by
      rw [allMeet_eq]
      exact all_congr' key
    rw [hall]
    have same : dualF n l = l → allMeet l = true := fun e => by
      rw [← hall, e, List.all_eq_true]
      exact fun s hs => hasQ_iff.2 ⟨s, hs, within_refl s⟩
    refine ⟨fun _ => ⟨fun _ => yes, fun h => ?_⟩, fun h => ?_⟩
    · exact congrArg (fun b => (b, ())) (same h)
    · simp at h
def cQuorumVotes : Ctr := { ps := [.v (.slc false I64), .v I64, .v U16], rs := [.bool], pre := fun _ => True, fn := fun _ => (true, ()), out := fun _ => () }
noncomputable def EQuorumVotes : Env := { P := Try.prog, tt := tt, ctr := [(25, cvotes), (26, chas), (30, cMeets), (36, csumOf), (28, ceqU)], res := [Go.ResultVar.tmp 6], rs := [Ty.bool], ps := [PK.v (Ty.slc false (Ty.int IntKind.i64)), PK.v (Ty.int IntKind.i64), PK.v (Ty.int IntKind.u16)], cuts := [(17, [(1, none), (2, none), (15, none), (16, none), (17, none), (78, none), (79, none), (80, none)])], nt := 103 }
theorem EQuorumVotes_ok : EnvOk EQuorumVotes := envOk tt_ok ⟨cvotes_valid, chas_valid, cMeets_valid, csumOf_valid, ceqU_valid, trivial⟩
theorem FQuorumVotes_ok : FnOk EQuorumVotes Try.f8 := ⟨rfl, rfl⟩
theorem EQuorumVotes_t (x0 : List Int) (x1 : Int) (x2 : Int) : exec EQuorumVotes 1000 [.code (bodyOf Try.prog 8)] (initSt cQuorumVotes.ps ((x0, x1, x2, ()))) =
  .need (True) (.need (True) (cond (!decide (Prod.fst (votesR (List.set (List.set (List.set [(0 : Int), (0 : Int), (0 : Int)] (Int.toNat (↑0 : Int)) (1 : Int)) (Int.toNat (↑1 : Int)) (1 : Int)) (Int.toNat (↑2 : Int)) (1 : Int)) (2 : Int)) = List.set (List.set (List.set [(0 : Int), (0 : Int), (0 : Int)] (Int.toNat (↑0 : Int)) (3 : Int)) (Int.toNat (↑1 : Int)) (5 : Int)) (Int.toNat (↑2 : Int)) (6 : Int))) (.ret ((false, ()))) (.need (True) (cond (decide (Prod.fst (Prod.snd (votesR x0 x1)) ≠ (0 : Int))) (.ret ((decide ((↑(List.length (Prod.fst (votesR x0 x1))) : Int) = (0 : Int)), ()))) (.need (vokP x0) (.need (True) (cond (decide (Prod.fst (Prod.snd (if qcheck (↑(List.length x0) : Int) (Prod.fst (votesR x0 x1)) ≠ (0 : Int) then (false, qcheck (↑(List.length x0) : Int) (Prod.fst (votesR x0 x1)), ()) else (allMeet (Prod.fst (votesR x0 x1)), (0 : Ty.den I64), ()))) ≠ (0 : Int))) (cond (decide (Prod.fst (Prod.snd (if qcheck (↑(List.length x0) : Int) (Prod.fst (votesR x0 x1)) ≠ (0 : Int) then (false, qcheck (↑(List.length x0) : Int) (Prod.fst (votesR x0 x1)), ()) else (allMeet (Prod.fst (votesR x0 x1)), (0 : Ty.den I64), ()))) = (2 : Int))) (.ret ((decide ((300 : Int) < (↑(List.length (Prod.fst (votesR x0 x1))) : Int)), ()))) (.ret ((false, ())))) (.need (inK IntKind.i64 ((2 : Int) * x1)) (cond (decide (sumN (fun i => List.getD x0 i (0 : Int)) (List.length x0) < (2 : Int) * x1)) (cond (!Prod.fst (if qcheck (↑(List.length x0) : Int) (Prod.fst (votesR x0 x1)) ≠ (0 : Int) then (false, qcheck (↑(List.length x0) : Int) (Prod.fst (votesR x0 x1)), ()) else (allMeet (Prod.fst (votesR x0 x1)), (0 : Ty.den I64), ()))) (.ret ((false, ()))) (.need (True) (.cut (loopAt (bodyOf Try.prog 8) 17).1 (loopAt (bodyOf Try.prog 8) 17).2 (St.mk [(1, AV.val (Ty.int IntKind.i64) x1), (2, AV.val (Ty.int IntKind.u16) x2), (15, AV.val Ty.bool (Prod.fst (if qcheck (↑(List.length x0) : Int) (Prod.fst (votesR x0 x1)) ≠ (0 : Int) then (false, qcheck (↑(List.length x0) : Int) (Prod.fst (votesR x0 x1)), ()) else (hasQ (Prod.fst (votesR x0 x1)) x2, (0 : Ty.den I64), ())))), (16, AV.val (Ty.int IntKind.i64) (Prod.fst (Prod.snd (if qcheck (↑(List.length x0) : Int) (Prod.fst (votesR x0 x1)) ≠ (0 : Int) then (false, qcheck (↑(List.length x0) : Int) (Prod.fst (votesR x0 x1)), ()) else (hasQ (Prod.fst (votesR x0 x1)) x2, (0 : Ty.den I64), ()))))), (17, AV.val (Ty.int IntKind.i64) (0 : Int)), (78, AV.val (Ty.slc false (Ty.int IntKind.i64)) x0), (79, AV.val (Ty.int IntKind.i64) (↑(List.length x0) : Int)), (80, AV.val (Ty.int IntKind.i64) (0 : Int))] [])))) (.need (True) (.cut (loopAt (bodyOf Try.prog 8) 17).1 (loopAt (bodyOf Try.prog 8) 17).2 (St.mk [(1, AV.val (Ty.int IntKind.i64) x1), (2, AV.val (Ty.int IntKind.u16) x2), (15, AV.val Ty.bool (Prod.fst (if qcheck (↑(List.length x0) : Int) (Prod.fst (votesR x0 x1)) ≠ (0 : Int) then (false, qcheck (↑(List.length x0) : Int) (Prod.fst (votesR x0 x1)), ()) else (hasQ (Prod.fst (votesR x0 x1)) x2, (0 : Ty.den I64), ())))), (16, AV.val (Ty.int IntKind.i64) (Prod.fst (Prod.snd (if qcheck (↑(List.length x0) : Int) (Prod.fst (votesR x0 x1)) ≠ (0 : Int) then (false, qcheck (↑(List.length x0) : Int) (Prod.fst (votesR x0 x1)), ()) else (hasQ (Prod.fst (votesR x0 x1)) x2, (0 : Ty.den I64), ()))))), (17, AV.val (Ty.int IntKind.i64) (0 : Int)), (78, AV.val (Ty.slc false (Ty.int IntKind.i64)) x0), (79, AV.val (Ty.int IntKind.i64) (↑(List.length x0) : Int)), (80, AV.val (Ty.int IntKind.i64) (0 : Int))] [])))))))))))) := by kernel_rfl
def EQuorumVotes_s17 (v1 : Int) (v2 : Int) (v15 : Bool) (v16 : Int) (v17 : Int) (v78 : List Int) (v79 : Int) (v80 : Int) : St := St.mk [(1, AV.val (Ty.int IntKind.i64) v1), (2, AV.val (Ty.int IntKind.u16) v2), (15, AV.val Ty.bool v15), (16, AV.val (Ty.int IntKind.i64) v16), (17, AV.val (Ty.int IntKind.i64) v17), (78, AV.val (Ty.slc false (Ty.int IntKind.i64)) v78), (79, AV.val (Ty.int IntKind.i64) v79), (80, AV.val (Ty.int IntKind.i64) v80)] []
theorem EQuorumVotes_l17 (v1 : Int) (v2 : Int) (v15 : Bool) (v16 : Int) (v17 : Int) (v78 : List Int) (v79 : Int) (v80 : Int) : exec EQuorumVotes 1000 (.code (loopAt (bodyOf Try.prog 8) 17).1 :: .inLoop (loopAt (bodyOf Try.prog 8) 17).1 :: (loopAt (bodyOf Try.prog 8) 17).2) (EQuorumVotes_s17 v1 v2 v15 v16 v17 v78 v79 v80) =
  cond (decide (v80 < v79)) (.need ((0 : Int) ≤ v80 ∧ v80 < (↑(List.length v78) : Int)) (.need ((0 : Int) ≤ v80) (cond (decide (bAnd IntKind.u16 (v2 / (2 : Int) ^ min (Int.toNat v80) (IntKind.bits IntKind.u16)) (1 : Int) = (1 : Int))) (.need (inK IntKind.i64 (v17 + List.getD v78 (Int.toNat v80) (0 : Int))) (.need (inK IntKind.i64 (v80 + (1 : Int))) (.cut (loopAt (bodyOf Try.prog 8) 17).1 (loopAt (bodyOf Try.prog 8) 17).2 (St.mk [(1, AV.val (Ty.int IntKind.i64) v1), (2, AV.val (Ty.int IntKind.u16) v2), (15, AV.val Ty.bool v15), (16, AV.val (Ty.int IntKind.i64) v16), (17, AV.val (Ty.int IntKind.i64) (v17 + List.getD v78 (Int.toNat v80) (0 : Int))), (78, AV.val (Ty.slc false (Ty.int IntKind.i64)) v78), (79, AV.val (Ty.int IntKind.i64) v79), (80, AV.val (Ty.int IntKind.i64) (v80 + (1 : Int)))] [])))) (.need (inK IntKind.i64 (v80 + (1 : Int))) (.cut (loopAt (bodyOf Try.prog 8) 17).1 (loopAt (bodyOf Try.prog 8) 17).2 (St.mk [(1, AV.val (Ty.int IntKind.i64) v1), (2, AV.val (Ty.int IntKind.u16) v2), (15, AV.val Ty.bool v15), (16, AV.val (Ty.int IntKind.i64) v16), (17, AV.val (Ty.int IntKind.i64) v17), (78, AV.val (Ty.slc false (Ty.int IntKind.i64)) v78), (79, AV.val (Ty.int IntKind.i64) v79), (80, AV.val (Ty.int IntKind.i64) (v80 + (1 : Int)))] [])))))) (cond (decide (v16 = (0 : Int))) (.ret ((v15 == decide (v1 ≤ v17), ()))) (.ret ((false, ())))) := by kernel_rfl
theorem votes_ex : (votesR [1, 1, 1] 2).1 = [3, 5, 6] := by
  have e : allQ 3 (enoughV [1, 1, 1] 2) = [3, 5, 6, 7] := by decide +kernel
  have h : [3, 5, 6, 7] = sortBy (ltD qcmp) (allQ 3 (enoughV [1, 1, 1] 2)) := sortBy_eq swoQ (by rw [e]) (by decide +kernel) (fun a _ b _ => qtie)
  rw [votesR, if_pos (by decide)]
  show minGo (sortBy (ltD qcmp) (allQ 3 (enoughV [1, 1, 1] 2))) [] = _
  rw [← h]; decide +kernel
theorem bit_at {s : Int} (h : inU s) (k : Nat) : bAnd .u16 (s / 2 ^ min k (IntKind.bits .u16)) 1 = if hasB s k = true then 1 else 0 := by
  have h1 := bit_of h k
  have h2 : inU (bAnd .u16 (s / 2 ^ min k (IntKind.bits .u16)) 1) := inK_u16.1 and_in
  rwa [wrap_same (inK_i64.2 (by unfold inU at h2; omega))] at h1
theorem votes_allMeet {v : List Int} {need : Int} (hn : v.length ≤ 10) (hv : ∀ x ∈ v, 0 ≤ x) (h2 : sumN (fun i => v.getD i 0) v.length < 2 * need) : allMeet (votesF v need) = true := by
  rw [allMeet_eq, List.all_eq_true]
  exact fun s hs => votes_meet hn hv h2 hs
theorem cQuorumVotes_valid : cQuorumVotes.Valid Try.prog 8 := by
  refine Ctr.valid_of EQuorumVotes_ok rfl rfl Try.func8 (c := bodyOf Try.prog 8) rfl rfl FQuorumVotes_ok rfl ?_
  rintro ⟨(v : List Int), (need : Int), (s : Int), ⟨⟩⟩ - ⟨-, -, hs, -⟩
  have hs : inU s := inK_u16.1 hs
  refine exec_sound (n := 1000) EQuorumVotes_ok FQuorumVotes_ok ?_
  refine holds_of_eq (EQuorumVotes_t v need s) ?_
  simp only [holds_cond, Tree.holds, true_and, true_implies, decide_eq_true_eq, decide_eq_false_iff_not, Bool.not_eq_true', Bool.not_eq_false', Int.toNat_natCast, inK_i64, List.length_set, List.length_cons, List.length_nil]
  refine ⟨fun h => absurd votes_ex h, fun _ => ⟨fun c => ?_, fun c => ?_⟩⟩
  · have e : votesR v need = ([], 1, ()) := by
      unfold votesR at c ⊢
      split at c
      · exact absurd rfl c
      · rename_i hc; rw [if_neg hc]
    rw [e]; exact yesd rfl
  obtain ⟨hn, hv, hne, e1⟩ := votesR_ok (Decidable.not_not.1 c)
  have hv0 : ∀ y ∈ v, 0 ≤ y := fun y hy => (hv y hy).1
  have q1 : qcheck (v.length : Int) (votesF v need) = 0 := (votes_ok hn).check
  rw [e1]
  simp only [meetR_is q1, hasR_is q1]
  refine ⟨⟨hn.2, hv⟩, fun _ => ⟨fun h => absurd rfl h, fun _ => ⟨by omega, fun _ => ?_⟩⟩⟩
  suffices hs : Go.Ex.Reach EQuorumVotes Try.f8 _ _ (.code (loopAt (bodyOf Try.prog 8) 17).1 :: .inLoop (loopAt (bodyOf Try.prog 8) 17).1 :: (loopAt (bodyOf Try.prog 8) 17).2) (EQuorumVotes_s17 need s (hasQ (votesF v need) s) (0 : Int) (0 : Int) v (v.length : Int) ((0 : Nat) : Int)) from
    ⟨fun d => ⟨fun h => (by rw [votes_allMeet hn.2 hv0 d] at h; cases h), fun _ => hs⟩, fun _ => hs⟩
  refine Reach.loopI EQuorumVotes_ok FQuorumVotes_ok (fun i : Nat => EQuorumVotes_s17 need s (hasQ (votesF v need) s) (0 : Int) (wsum v s i) v (v.length : Int) (i : Int)) (fun i => i ≤ v.length) (fun i => v.length - i) 1000 (fun _ => ⟨uniq_of rfl, uniq_of rfl⟩) ?_ 0 (Nat.zero_le _)
  rintro i k1 - ih
  have k1 : i ≤ v.length := k1
  refine holds_of_eq (EQuorumVotes_l17 ..) ?_
  simp only [holds_cond, Tree.holds, true_and, true_implies, decide_eq_true_eq, decide_eq_false_iff_not, Bool.not_eq_true', Bool.not_eq_false', Int.toNat_natCast, inK_i64, List.length_set, List.length_cons, List.length_nil]
  rw [bit_at hs]
  refine ⟨fun d => ?_, fun d => ⟨?_, fun h => absurd trivial h⟩⟩
  · have hi : i < v.length := by omega
    have hb := hv _ (getD_mem (d := 0) hi)
    have h1 := wsum_nonneg hv0 (a := s) i k1
    have h2 := wsum_le hv (a := s) i k1
    have next := ih (i + 1) hi (by omega)
    rw [wsum] at next
    by_cases e : hasB s i = true
    · rw [if_pos e] at next ⊢
      exact ⟨by omega, fun _ => ⟨by omega, fun _ => ⟨fun _ => ⟨by omega, fun _ => ⟨by omega, fun _ => next⟩⟩, fun h => absurd rfl h⟩⟩⟩
    · rw [if_neg e] at next ⊢
      rw [Int.add_zero] at next
      exact ⟨by omega, fun _ => ⟨by omega, fun _ => ⟨fun h => (by cases h), fun _ => ⟨by omega, fun _ => next⟩⟩⟩⟩
  · obtain rfl : i = v.length := by omega
    rw [votes_has hn.2 hv0 hs]
    exact congrArg (fun b => (b, ())) (beq_self_eq_true _)
def cQuorumGrid : Ctr := { ps := [.v I64, .v I64], rs := [.bool], pre := fun _ => True, fn := fun _ => (true, ()), out := fun _ => () }
noncomputable def EQuorumGrid : Env := { P := Try.prog, tt := tt, ctr := [(37, cgrid), (30, cMeets), (28, ceqU)], res := [Go.ResultVar.tmp 4], rs := [Ty.bool], ps := [PK.v (Ty.int IntKind.i64), PK.v (Ty.int IntKind.i64)], cuts := [], nt := 52 }
theorem EQuorumGrid_ok : EnvOk EQuorumGrid := envOk tt_ok ⟨cgrid_valid, cMeets_valid, ceqU_valid, trivial⟩
theorem FQuorumGrid_ok : FnOk EQuorumGrid Try.f9 := ⟨rfl, rfl⟩
theorem EQuorumGrid_t (x0 : Int) (x1 : Int) : exec EQuorumGrid 1000 [.code (bodyOf Try.prog 9)] (initSt cQuorumGrid.ps ((x0, x1, ()))) =
  .need (True) (.need (True) (cond (!decide (Prod.fst (gridR (2 : Int) (2 : Int)) = List.set (List.set (List.set (List.set [(0 : Int), (0 : Int), (0 : Int), (0 : Int)] (Int.toNat (↑0 : Int)) (7 : Int)) (Int.toNat (↑1 : Int)) (11 : Int)) (Int.toNat (↑2 : Int)) (13 : Int)) (Int.toNat (↑3 : Int)) (14 : Int))) (.ret ((false, ()))) (.need (True) (cond (decide (Prod.fst (Prod.snd (gridR x0 x1)) ≠ (0 : Int))) (.ret ((decide ((↑(List.length (Prod.fst (gridR x0 x1))) : Int) = (0 : Int)), ()))) (.need (inK IntKind.i64 (x0 * x1)) (.need (True) (cond (decide (Prod.fst (Prod.snd (if qcheck (x0 * x1) (Prod.fst (gridR x0 x1)) ≠ (0 : Int) then (false, qcheck (x0 * x1) (Prod.fst (gridR x0 x1)), ()) else (allMeet (Prod.fst (gridR x0 x1)), (0 : Ty.den I64), ()))) = (0 : Int))) (cond (Prod.fst (if qcheck (x0 * x1) (Prod.fst (gridR x0 x1)) ≠ (0 : Int) then (false, qcheck (x0 * x1) (Prod.fst (gridR x0 x1)), ()) else (allMeet (Prod.fst (gridR x0 x1)), (0 : Ty.den I64), ()))) (.ret ((decide ((0 : Int) < (↑(List.length (Prod.fst (gridR x0 x1))) : Int)), ()))) (.ret ((false, ())))) (.ret ((false, ())))))))))) := by kernel_rfl
theorem grid_ex : (gridR 2 2).1 = [7, 11, 13, 14] := by
  have e : allQ 4 (inL (gridAll 2 4 2)) = [7, 11, 13, 14] := by decide +kernel
  have h : [7, 11, 13, 14] = sortBy (ltD qcmp) (allQ 4 (inL (gridAll 2 4 2))) := sortBy_eq swoQ (by rw [e]) (by decide +kernel) (fun a _ b _ => qtie)
  rw [gridR, if_pos (by decide)]
  show minGo (sortBy (ltD qcmp) (allQ 4 (inL (gridAll 2 4 2)))) [] = _
  rw [← h]; decide +kernel
theorem cQuorumGrid_valid : cQuorumGrid.Valid Try.prog 9 := by
  refine Ctr.valid_of EQuorumGrid_ok rfl rfl Try.func9 (c := bodyOf Try.prog 9) rfl rfl FQuorumGrid_ok rfl ?_
  rintro ⟨(r0 : Int), (c0 : Int), ⟨⟩⟩ - -
  refine exec_sound (n := 1000) EQuorumGrid_ok FQuorumGrid_ok ?_
  refine holds_of_eq (EQuorumGrid_t r0 c0) ?_
  simp only [holds_cond, Tree.holds, true_and, true_implies, decide_eq_true_eq, decide_eq_false_iff_not, Bool.not_eq_true', Bool.not_eq_false', Int.toNat_natCast, inK_i64, List.length_set, List.length_cons, List.length_nil]
  refine ⟨fun h => absurd grid_ex h, fun _ => ⟨fun c => ?_, fun c => ?_⟩⟩
  · have e : gridR r0 c0 = ([], 1, ()) := by
      unfold gridR at c ⊢
      split at c
      · exact absurd rfl c
      · rename_i hc; rw [if_neg hc]
    rw [e]; exact yesd rfl
  obtain ⟨rows, cols, rfl, rfl, hr, hc, hm, e⟩ : ∃ rows cols : Nat, r0 = rows ∧ c0 = cols ∧ 1 ≤ rows ∧ 1 ≤ cols ∧ rows * cols ≤ 10 ∧ gridR r0 c0 = (gridF rows cols, 0, ()) := by
    unfold gridR at c ⊢
    split at c
    · rename_i hc
      obtain ⟨h1, h2, h3⟩ := hc
      have e : r0 * c0 = ((r0.toNat * c0.toNat : Nat) : Int) := by push_cast; rw [Int.toNat_of_nonneg (by omega), Int.toNat_of_nonneg (by omega)]
      exact ⟨r0.toNat, c0.toNat, by omega, by omega, by omega, by omega, by omega, by rw [if_pos ⟨h1, h2, h3⟩]⟩
    · exact absurd (by simp) c
  have hmul : (rows : Int) * (cols : Int) = ((rows * cols : Nat) : Int) := by push_cast; rfl
  have hpos : 1 * 1 ≤ rows * cols := Nat.mul_le_mul hr hc
  have q1 : qcheck ((rows * cols : Nat) : Int) (gridF rows cols) = 0 := (min_ok ⟨by omega, hm⟩ _).check
  have ha : allMeet (gridF rows cols) = true := by
    rw [allMeet_eq, List.all_eq_true]
    exact fun s hs => grid_meet hm hs
  have hne := grid_some hm hr hc
  rw [e, hmul]
  simp only [meetR_is q1]
  rw [ha]
  refine ⟨by omega, fun _ => ⟨fun _ => ⟨fun _ => yesd ?_, fun h => (by cases h)⟩, fun h => absurd trivial h⟩⟩
  have := List.length_pos_iff.2 hne
  omega
end Go.Proofs.Ytdhdpklmipkneaa
