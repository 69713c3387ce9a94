/- The laws of rings: how many messages. -/
import Derived.Test.YtcafiieffenohaaRingD
namespace Go.Proofs.Ytcafiieffenohaa
open Go.Ex
set_option maxRecDepth 100000
def rest (a n : Int) : Int := if n ≤ 0 then 0 else Int.tmod (Int.tmod a n + n) n
def crest : Ctr := { ps := [.v I64, .v I64], rs := [I64], pre := fun x => LE.le (α := Int) x.2.1 1000000, fn := fun x => (rest x.1 x.2.1, ()), out := fun _ => () }
noncomputable def Erest : Env := { P := Try.prog, tt := tt, ctr := [], res := [Go.ResultVar.tmp 4], rs := [Ty.int IntKind.i64], ps := [PK.v (Ty.int IntKind.i64), PK.v (Ty.int IntKind.i64)], cuts := [], nt := 14 }
theorem Erest_ok : EnvOk Erest := envOk tt_ok trivial
theorem Frest_ok : FnOk Erest Try.f20 := ⟨rfl, rfl⟩
theorem Erest_t (x0 : Int) (x1 : Int) : exec Erest 1000 [.code (bodyOf Try.prog 20)] (initSt crest.ps ((x0, x1, ()))) =
  cond (decide (x1 ≤ (0 : Int))) (.ret (((0 : Int), ()))) (.need ((0 : Int) < x1) (.need (inK IntKind.i64 (Int.tmod x0 x1 + x1)) (.need ((0 : Int) < x1) (.ret ((Int.tmod (Int.tmod x0 x1 + x1) x1, ())))))) := by kernel_rfl
theorem crest_valid : crest.Valid Try.prog 20 := by
  refine Ctr.valid_of Erest_ok rfl rfl Try.func20 (c := bodyOf Try.prog 20) rfl rfl Frest_ok rfl ?_
  rintro ⟨(x0 : Int), (x1 : Int), ⟨⟩⟩ hp -
  refine exec_sound (n := 1000) Erest_ok Frest_ok ?_
  refine holds_of_eq (Erest_t x0 x1) ?_
  have hp : x1 ≤ 1000000 := hp
  simp only [holds_cond, Tree.holds, true_and, true_implies, decide_eq_true_eq, decide_eq_false_iff_not, Bool.not_eq_true', Bool.not_eq_false', Int.toNat_natCast, inK_i64, List.length_set, List.length_cons, List.length_nil]
  refine ⟨fun a => ?_, fun a => ?_⟩
  · show ((0, ()) : Int × Unit) = (rest x0 x1, ())
    rw [rest, if_pos a]
  · have h0 : 0 < x1 := by omega
    have h1 := Int.tmod_lt_of_pos x0 h0
    have h2 : -x1 < Int.tmod x0 x1 := by
      have := Int.tmod_lt_of_pos (-x0) h0
      rw [Int.neg_tmod] at this
      omega
    refine ⟨h0, fun _ => ⟨by omega, fun _ => ⟨h0, fun _ => ?_⟩⟩⟩
    show ((_, ()) : Int × Unit) = (rest x0 x1, ())
    rw [rest, if_neg a]
theorem rest_in {a n : Int} (h : 0 < n) : 0 ≤ rest a n ∧ rest a n < n := by
  have h1 := Int.tmod_lt_of_pos (-a) h
  rw [Int.neg_tmod] at h1
  rw [rest, if_neg (by omega)]
  exact ⟨Int.tmod_nonneg _ (by omega), Int.tmod_lt_of_pos _ h⟩

theorem roundR_ok {l : List Int} (h : rcheck l = 0) : roundR l = (leaderF l, roundF l, 0, ()) := if_neg (fun c => c h)
theorem roundR_no {l : List Int} (h : rcheck l ≠ 0) : roundR l = (0, 0, rcheck l, ()) := if_pos h
theorem halvesR_ok {l : List Int} (h : rcheck l = 0) : halvesR l = (leaderF l, (halvesB l).2, 0, ()) := (if_neg (fun c => c h)).trans (by rw [idxB, halves_first (rcheck_iff.1 h)])
theorem halvesR_no {l : List Int} (h : rcheck l ≠ 0) : halvesR l = (0, 0, rcheck l, ()) := if_pos h
theorem fine {p : Prop} [Decidable p] (h : p) : ((decide p, ()) : Bool × Unit) = (true, ()) := by rw [decide_eq_true h]
def cRingHalves : Ctr := { ps := [.v (.slc false I64)], rs := [.bool], pre := fun _ => True, fn := fun _ => (true, ()), out := fun _ => () }
noncomputable def ERingHalves : Env := { P := Try.prog, tt := tt, ctr := [(33, chalves)], res := [Go.ResultVar.tmp 2], rs := [Ty.bool], ps := [PK.v (Ty.slc false (Ty.int IntKind.i64))], cuts := [(9, [(7, none), (9, none), (10, none)])], nt := 60 }
theorem ERingHalves_ok : EnvOk ERingHalves := envOk tt_ok ⟨chalves_valid, trivial⟩
theorem FRingHalves_ok : FnOk ERingHalves Try.f10 := ⟨rfl, rfl⟩
theorem ERingHalves_t (x0 : List Int) : exec ERingHalves 1000 [.code (bodyOf Try.prog 10)] (initSt cRingHalves.ps ((x0, ()))) =
  .need (True) (.need (True) (cond (decide (Prod.fst (Prod.snd (Prod.snd (halvesR x0))) ≠ (0 : Int))) (.ret ((decide (Prod.fst (Prod.snd (halvesR x0)) = (0 : Int)), ()))) (.cut (loopAt (bodyOf Try.prog 10) 9).1 (loopAt (bodyOf Try.prog 10) 9).2 (St.mk [(7, AV.val (Ty.int IntKind.i64) (Prod.fst (Prod.snd (halvesR x0)))), (9, AV.val (Ty.int IntKind.i64) (↑(List.length x0) : Int)), (10, AV.val (Ty.int IntKind.i64) (0 : Int))] [])))) := by kernel_rfl
def ERingHalves_s9 (v7 : Int) (v9 : Int) (v10 : Int) : St := St.mk [(7, AV.val (Ty.int IntKind.i64) v7), (9, AV.val (Ty.int IntKind.i64) v9), (10, AV.val (Ty.int IntKind.i64) v10)] []
theorem ERingHalves_l9 (v7 : Int) (v9 : Int) (v10 : Int) : exec ERingHalves 1000 (.code (loopAt (bodyOf Try.prog 10) 9).1 :: .inLoop (loopAt (bodyOf Try.prog 10) 9).1 :: (loopAt (bodyOf Try.prog 10) 9).2) (ERingHalves_s9 v7 v9 v10) =
  .need ((0 : Int) ≤ v10) (cond (decide (IntKind.wrap IntKind.i64 ((1 : Int) * (2 : Int) ^ min (Int.toNat v10) (IntKind.bits IntKind.i64)) < v9)) (.need (inK IntKind.i64 (v10 + (1 : Int))) (.cut (loopAt (bodyOf Try.prog 10) 9).1 (loopAt (bodyOf Try.prog 10) 9).2 (St.mk [(7, AV.val (Ty.int IntKind.i64) v7), (9, AV.val (Ty.int IntKind.i64) v9), (10, AV.val (Ty.int IntKind.i64) (v10 + (1 : Int)))] []))) (.need (inK IntKind.i64 ((2 : Int) * v9)) (cond (decide ((2 : Int) * v9 ≤ v7)) (.need (inK IntKind.i64 ((4 : Int) * v9)) (.need (inK IntKind.i64 ((8 : Int) * v9)) (.need (inK IntKind.i64 ((8 : Int) * v9 * v10)) (.need (inK IntKind.i64 ((4 : Int) * v9 + (8 : Int) * v9 * v10)) (.ret ((decide (v7 ≤ (4 : Int) * v9 + (8 : Int) * v9 * v10), ()))))))) (.ret ((false, ())))))) := by kernel_rfl
theorem cRingHalves_valid : cRingHalves.Valid Try.prog 10 := by
  refine Ctr.valid_of ERingHalves_ok rfl rfl Try.func10 (c := bodyOf Try.prog 10) rfl rfl FRingHalves_ok rfl ?_
  rintro ⟨(l : List Int), ⟨⟩⟩ - -
  refine exec_sound (n := 1000) ERingHalves_ok FRingHalves_ok ?_
  refine holds_of_eq (ERingHalves_t l) ?_
  by_cases h : rcheck l = 0
  · have hr : RingOk l := rcheck_iff.1 h
    have hp := hr.pos
    have hle := hr.le
    simp only [holds_cond, Tree.holds, true_and, true_implies, decide_eq_true_eq, decide_eq_false_iff_not, Bool.not_eq_true', Bool.not_eq_false', Int.toNat_natCast, inK_i64, List.length_set, List.length_cons, List.length_nil, halvesR_ok h, ne_eq, not_true_eq_false, not_false_eq_true, false_implies]
    refine Reach.loopI ERingHalves_ok FRingHalves_ok (fun d : Nat => ERingHalves_s9 (halvesB l).2 (l.length : Int) (d : Int)) (fun d => d ≤ 5 ∧ ∀ i, i < d → 2 ^ i < l.length)
      (fun d => 5 - d) 1000 (fun _ => ⟨uniq_of rfl, uniq_of rfl⟩) ?_ 0 ⟨by omega, fun i hi => by omega⟩
    rintro d ⟨k1, k2⟩ - ih
    refine holds_of_eq (ERingHalves_l9 ..) ?_
    have hm := pow_small d k1
    have w : IntKind.wrap .i64 ((1 : Int) * (2 : Int) ^ min d (IntKind.bits .i64)) = ((2 ^ d : Nat) : Int) := by
      rw [show min d (IntKind.bits .i64) = d from Nat.min_eq_left (by show d ≤ 64; omega), Int.one_mul, show (2 : Int) ^ d = ((2 ^ d : Nat) : Int) from (Int.natCast_pow 2 d).symm]
      exact wrap_same ⟨by show (-9223372036854775808 : Int) ≤ _; omega, by show _ ≤ (9223372036854775807 : Int); omega⟩
    simp only [holds_cond, Tree.holds, true_and, true_implies, decide_eq_true_eq, decide_eq_false_iff_not, Bool.not_eq_true', Bool.not_eq_false', Int.toNat_natCast, inK_i64, List.length_set, List.length_cons, List.length_nil, w]
    refine ⟨by omega, fun _ => ⟨fun c => ⟨by omega, fun _ => ih (d + 1) ⟨?_, fun i hi => ?_⟩ ?_⟩, fun c => ?_⟩⟩
    · by_cases e : d = 5
      · have := hm.2.2 e; omega
      · omega
    · by_cases e : i = d
      · subst e; omega
      · exact k2 i (by omega)
    · by_cases e : d = 5
      · have := hm.2.2 e; omega
      · omega
    · obtain ⟨_, b1, b2⟩ := halves_spec hr (J := d) (by omega) k2
      have b3 : 8 * (l.length : Int) * (d : Int) ≤ 1200 ∧ 0 ≤ 8 * (l.length : Int) * (d : Int) := by
        have h1 := Nat.mul_le_mul hle k1
        have e : 8 * (l.length : Int) * (d : Int) = 8 * ((l.length * d : Nat) : Int) := by rw [Int.natCast_mul, Int.mul_assoc]
        rw [e]; omega
      refine ⟨by omega, fun _ => ⟨fun _ => ⟨by omega, fun _ => ⟨by omega, fun _ => ⟨by omega, fun _ => ⟨by omega, fun _ => fine b2⟩⟩⟩⟩, fun c2 => by omega⟩⟩
  · simp only [holds_cond, Tree.holds, true_and, true_implies, decide_eq_true_eq, decide_eq_false_iff_not, Bool.not_eq_true', Bool.not_eq_false', Int.toNat_natCast, inK_i64, List.length_set, List.length_cons, List.length_nil, halvesR_no h, ne_eq, h]
    exact ⟨fun _ => rfl, fun c => absurd c (by simp)⟩
def cRingFirst : Ctr := { ps := [.v (.slc false I64)], rs := [.bool], pre := fun _ => True, fn := fun _ => (true, ()), out := fun _ => () }
noncomputable def ERingFirst : Env := { P := Try.prog, tt := tt, ctr := [(19, cround), (33, chalves), (38, cmaxL)], res := [Go.ResultVar.tmp 2], rs := [Ty.bool], ps := [PK.v (Ty.slc false (Ty.int IntKind.i64))], cuts := [], nt := 87 }
theorem ERingFirst_ok : EnvOk ERingFirst := envOk tt_ok ⟨cround_valid, chalves_valid, cmaxL_valid, trivial⟩
theorem FRingFirst_ok : FnOk ERingFirst Try.f12 := ⟨rfl, rfl⟩
theorem ERingFirst_t (x0 : List Int) : exec ERingFirst 1000 [.code (bodyOf Try.prog 12)] (initSt cRingFirst.ps ((x0, ()))) =
  .need (True) (.need (True) (.need (True) (cond (decide (Prod.fst (Prod.snd (Prod.snd (roundR x0))) ≠ (0 : Int))) (cond (decide (Prod.fst (Prod.snd (Prod.snd (roundR x0))) = Prod.fst (Prod.snd (Prod.snd (halvesR x0))))) (cond (decide (Prod.fst (roundR x0) = (0 : Int))) (cond (decide (Prod.fst (halvesR x0) = (0 : Int))) (cond (decide (Prod.fst (Prod.snd (roundR x0)) = (0 : Int))) (.ret ((decide (Prod.fst (Prod.snd (halvesR x0)) = (0 : Int)), ()))) (.ret ((false, ())))) (.ret ((false, ())))) (.ret ((false, ())))) (.ret ((false, ())))) (cond (decide (Prod.fst (Prod.snd (Prod.snd (halvesR x0))) ≠ (0 : Int))) (cond (decide (Prod.fst (Prod.snd (Prod.snd (roundR x0))) = Prod.fst (Prod.snd (Prod.snd (halvesR x0))))) (cond (decide (Prod.fst (roundR x0) = (0 : Int))) (cond (decide (Prod.fst (halvesR x0) = (0 : Int))) (cond (decide (Prod.fst (Prod.snd (roundR x0)) = (0 : Int))) (.ret ((decide (Prod.fst (Prod.snd (halvesR x0)) = (0 : Int)), ()))) (.ret ((false, ())))) (.ret ((false, ())))) (.ret ((false, ())))) (.ret ((false, ())))) (cond (decide (Prod.fst (roundR x0) = Prod.fst (halvesR x0))) (cond (decide ((0 : Int) ≤ Prod.fst (roundR x0))) (cond (decide (Prod.fst (roundR x0) < (↑(List.length x0) : Int))) (.need ((0 : Int) ≤ Prod.fst (roundR x0) ∧ Prod.fst (roundR x0) < (↑(List.length x0) : Int)) (.need (1 ≤ List.length x0) (.ret ((decide (List.getD x0 (Int.toNat (Prod.fst (roundR x0))) (0 : Int) = maxL x0), ()))))) (.ret ((false, ())))) (.ret ((false, ())))) (.ret ((false, ())))))))) := by kernel_rfl
theorem cRingFirst_valid : cRingFirst.Valid Try.prog 12 := by
  refine Ctr.valid_of ERingFirst_ok rfl rfl Try.func12 (c := bodyOf Try.prog 12) rfl rfl FRingFirst_ok rfl ?_
  rintro ⟨(l : List Int), ⟨⟩⟩ - -
  refine exec_sound (n := 1000) ERingFirst_ok FRingFirst_ok ?_
  refine holds_of_eq (ERingFirst_t l) ?_
  by_cases h : rcheck l = 0
  · have hr : RingOk l := rcheck_iff.1 h
    obtain ⟨p, hp, e, hm, _⟩ := leader_spec hr
    simp only [holds_cond, Tree.holds, true_and, true_implies, decide_eq_true_eq, decide_eq_false_iff_not, Bool.not_eq_true', Bool.not_eq_false', Int.toNat_natCast, inK_i64, List.length_set, List.length_cons, List.length_nil, halvesR_ok h, roundR_ok h, ne_eq, not_true_eq_false, not_false_eq_true, false_implies, e]
    exact ⟨⟨fun _ => ⟨fun _ => ⟨⟨by omega, by omega⟩, fun _ => ⟨hr.pos, fun _ => fine hm⟩⟩, fun c => by omega⟩, fun c => by omega⟩, by simp⟩
  · simp only [holds_cond, Tree.holds, true_and, true_implies, decide_eq_true_eq, decide_eq_false_iff_not, Bool.not_eq_true', Bool.not_eq_false', Int.toNat_natCast, inK_i64, List.length_set, List.length_cons, List.length_nil, halvesR_no h, roundR_no h, ne_eq, h, not_true_eq_false, not_false_eq_true, false_implies]
    exact ⟨⟨⟨⟨⟨rfl, trivial⟩, trivial⟩, trivial⟩, trivial⟩, trivial⟩
end Go.Proofs.Ytcafiieffenohaa
