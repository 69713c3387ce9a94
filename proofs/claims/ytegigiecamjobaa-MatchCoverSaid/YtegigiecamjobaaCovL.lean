/- MatchCover. No condition. -/
import Derived.Test.YtegigiecamjobaaCovP
import Derived.Test.YtegigiecamjobaaMatchL
namespace Go.Proofs.Ytegigiecamjobaa
open Go.Ex
set_option maxRecDepth 100000
def ceqPP : Ctr := { ps := [.v (.slc false PairT), .v (.slc false PairT)], rs := [.bool], pre := fun _ => True, fn := fun x => (decide ((show List (PairD) from x.1) = (show List (PairD) from x.2.1)), ()), out := fun _ => () }
noncomputable def EeqPP : Env := { P := Try.prog, tt := tt, ctr := [], res := [Go.ResultVar.tmp 4], rs := [Ty.bool], ps := [PK.v (Ty.slc false PairT), PK.v (Ty.slc false PairT)], cuts := [(4, [(0, none), (1, none), (12, none), (13, none)])], nt := 26 }
theorem EeqPP_ok : EnvOk EeqPP := envOk tt_ok trivial
theorem FeqPP_ok : FnOk EeqPP Try.f32 := ⟨rfl, rfl⟩
theorem EeqPP_t (x0 : List (Int × Int × Unit)) (x1 : List (Int × Int × Unit)) : exec EeqPP 1000 [.code (bodyOf Try.prog 32)] (initSt ceqPP.ps ((x0, x1, ()))) =
  cond (decide ((↑(List.length x0) : Int) ≠ (↑(List.length x1) : Int))) (.ret ((false, ()))) (.cut (loopAt (bodyOf Try.prog 32) 4).1 (loopAt (bodyOf Try.prog 32) 4).2 (St.mk [(0, AV.val (Ty.slc false PairT) x0), (1, AV.val (Ty.slc false PairT) x1), (12, AV.val (Ty.int IntKind.i64) (↑(List.length x0) : Int)), (13, AV.val (Ty.int IntKind.i64) (0 : Int))] [])) := by kernel_rfl
def EeqPP_s4 (v0 : List (Int × Int × Unit)) (v1 : List (Int × Int × Unit)) (v12 : Int) (v13 : Int) : St := St.mk [(0, AV.val (Ty.slc false PairT) v0), (1, AV.val (Ty.slc false PairT) v1), (12, AV.val (Ty.int IntKind.i64) v12), (13, AV.val (Ty.int IntKind.i64) v13)] []
theorem EeqPP_l4 (v0 : List (Int × Int × Unit)) (v1 : List (Int × Int × Unit)) (v12 : Int) (v13 : Int) : exec EeqPP 1000 (.code (loopAt (bodyOf Try.prog 32) 4).1 :: .inLoop (loopAt (bodyOf Try.prog 32) 4).1 :: (loopAt (bodyOf Try.prog 32) 4).2) (EeqPP_s4 v0 v1 v12 v13) =
  cond (decide (v13 < v12)) (.need ((0 : Int) ≤ v13 ∧ v13 < (↑(List.length v0) : Int)) (.need ((0 : Int) ≤ v13 ∧ v13 < (↑(List.length v1) : Int)) (cond (!eqD PairT (List.getD v0 (Int.toNat v13) ((0 : Int), (0 : Int), ())) (List.getD v1 (Int.toNat v13) ((0 : Int), (0 : Int), ()))) (.ret ((false, ()))) (.need (inK IntKind.i64 (v13 + (1 : Int))) (.cut (loopAt (bodyOf Try.prog 32) 4).1 (loopAt (bodyOf Try.prog 32) 4).2 (St.mk [(0, AV.val (Ty.slc false PairT) v0), (1, AV.val (Ty.slc false PairT) v1), (12, AV.val (Ty.int IntKind.i64) v12), (13, AV.val (Ty.int IntKind.i64) (v13 + (1 : Int)))] [])))))) (.ret ((true, ()))) := by kernel_rfl
theorem ceqPP_valid : ceqPP.Valid Try.prog 32 := by
  refine Ctr.valid_of EeqPP_ok rfl rfl Try.func32 (c := bodyOf Try.prog 32) rfl rfl FeqPP_ok rfl ?_
  rintro ⟨(l : List (PairD)), (m : List (PairD)), ⟨⟩⟩ - ⟨⟨hl, -⟩, -⟩
  have hl : l.length ≤ 9223372036854775807 := hl
  refine exec_sound (n := 1000) EeqPP_ok FeqPP_ok ?_
  refine holds_of_eq (EeqPP_t l m) ?_
  have fin : ∀ {b : Bool}, (b = true ↔ l = m) → ((b, ()) : Bool × Unit) = (decide (l = m), ()) := fun {b} h => by
    cases b with
    | true => rw [decide_eq_true (h.1 rfl)]
    | false => rw [decide_eq_false (fun e => by cases h.2 e)]
  simp only [holds_cond, Tree.holds, true_and, true_implies, decide_eq_true_eq, decide_eq_false_iff_not, Bool.not_eq_true', Bool.not_eq_false', Int.toNat_natCast, inK_i64, List.length_set, List.length_cons, List.length_nil]
  refine ⟨fun c => fin ⟨fun h => (by cases h), fun h => absurd (congrArg (fun q : List (PairD) => (q.length : Int)) h) c⟩, fun c => ?_⟩
  refine Reach.loopI EeqPP_ok FeqPP_ok (fun i : Nat => EeqPP_s4 l m (l.length : Int) (i : Int)) (fun i => i ≤ l.length ∧ ∀ j, j < i → l.getD j (0, 0, ()) = m.getD j (0, 0, ()))
    (fun i => l.length - i) 1000 (fun _ => ⟨uniq_of rfl, uniq_of rfl⟩) ?_ 0 ⟨Nat.zero_le _, fun j hj => by omega⟩
  rintro i ⟨k1, k2⟩ - ih
  refine holds_of_eq (EeqPP_l4 ..) ?_
  have c : l.length = m.length := by omega
  simp only [holds_cond, Tree.holds, true_and, true_implies, decide_eq_true_eq, decide_eq_false_iff_not, Bool.not_eq_true', Bool.not_eq_false', Int.toNat_natCast, inK_i64, List.length_set, List.length_cons, List.length_nil]
  refine ⟨fun d1 => ⟨by omega, fun _ => ⟨by omega, fun _ => ⟨fun d2 => fin ⟨fun h => (by cases h), fun h => absurd (congrArg (fun q : List (PairD) => q.getD i (0, 0, ())) h) (eqPairN d2)⟩, fun d2 => ⟨by omega, fun _ => ih (i + 1) ⟨by omega, fun j hj => ?_⟩ (by omega)⟩⟩⟩⟩, fun d1 => fin ⟨fun _ => eq_of_getD c (fun j hj => k2 j (by omega)), fun _ => rfl⟩⟩
  rcases Nat.lt_or_ge j i with h | h
  · exact k2 j h
  · obtain rfl : j = i := by omega
    exact eqPairP.1 d2
def cMatchCover : Ctr := { ps := [.v I64, .v I64, .v (.slc false PairT)], rs := [.bool], pre := fun _ => True, fn := fun _ => (true, ()), out := fun _ => () }
noncomputable def EMatchCover : Env := { P := Try.prog, tt := tt, ctr := [(31, cmostR), (33, ccover), (32, ceqPP), (34, ccontI)], res := [Go.ResultVar.tmp 6], rs := [Ty.bool], ps := [PK.v (Ty.int IntKind.i64), PK.v (Ty.int IntKind.i64), PK.v (Ty.slc false PairT)], cuts := [(9, [(9, some (Ty.slc true PairT)), (11, some Is), (12, some Is), (63, none), (64, none), (65, none)])], nt := 90 }
theorem EMatchCover_ok : EnvOk EMatchCover := envOk tt_ok ⟨cmostR_valid, ccover_valid, ceqPP_valid, ccontI_valid, trivial⟩
theorem FMatchCover_ok : FnOk EMatchCover Try.f7 := ⟨rfl, rfl⟩
theorem EMatchCover_t (x0 : Int) (x1 : Int) (x2 : List (Int × Int × Unit)) : exec EMatchCover 1000 [.code (bodyOf Try.prog 7)] (initSt cMatchCover.ps ((x0, x1, x2, ()))) =
  .need (True) (.need (True) (.need (True) (.need (True) (cond (decide (Prod.fst (Prod.snd (mostR x0 x1 x2)) ≠ (0 : Int))) (cond (decide (Prod.fst (Prod.snd (mostR x0 x1 x2)) = Prod.fst (Prod.snd (Prod.snd (coverR x0 x1 x2))))) (.ret ((decide ((↑(List.length (Prod.fst (mostR x0 x1 x2))) : Int) = (0 : Int)), ()))) (.ret ((false, ())))) (cond (decide (Prod.fst (Prod.snd (Prod.snd (coverR x0 x1 x2))) ≠ (0 : Int))) (cond (decide (Prod.fst (Prod.snd (mostR x0 x1 x2)) = Prod.fst (Prod.snd (Prod.snd (coverR x0 x1 x2))))) (.ret ((decide ((↑(List.length (Prod.fst (mostR x0 x1 x2))) : Int) = (0 : Int)), ()))) (.ret ((false, ())))) (.cut (loopAt (bodyOf Try.prog 7) 9).1 (loopAt (bodyOf Try.prog 7) 9).2 (St.mk [(9, AV.at_ 1000009 []), (11, AV.at_ 1000011 []), (12, AV.at_ 1000012 []), (63, AV.val (Ty.slc false PairT) x2), (64, AV.val (Ty.int IntKind.i64) (↑(List.length x2) : Int)), (65, AV.val (Ty.int IntKind.i64) (0 : Int))] [(1000009, Ent.own (Ty.slc true PairT) (Prod.fst (mostR x0 x1 x2))), (1000011, Ent.own Is (Prod.fst (coverR x0 x1 x2))), (1000012, Ent.own Is (Prod.fst (Prod.snd (coverR x0 x1 x2))))]))))))) := by kernel_rfl
def EMatchCover_s9 (v63 : List (Int × Int × Unit)) (v64 : Int) (v65 : Int) (o1000009 : List (Int × Int × Unit)) (o1000011 : List Int) (o1000012 : List Int) : St := St.mk [(9, AV.at_ 1000009 []), (11, AV.at_ 1000011 []), (12, AV.at_ 1000012 []), (63, AV.val (Ty.slc false PairT) v63), (64, AV.val (Ty.int IntKind.i64) v64), (65, AV.val (Ty.int IntKind.i64) v65)] [(1000009, Ent.own (Ty.slc true PairT) o1000009), (1000011, Ent.own Is o1000011), (1000012, Ent.own Is o1000012)]
theorem EMatchCover_l9 (v63 : List (Int × Int × Unit)) (v64 : Int) (v65 : Int) (o1000009 : List (Int × Int × Unit)) (o1000011 : List Int) (o1000012 : List Int) : exec EMatchCover 1000 (.code (loopAt (bodyOf Try.prog 7) 9).1 :: .inLoop (loopAt (bodyOf Try.prog 7) 9).1 :: (loopAt (bodyOf Try.prog 7) 9).2) (EMatchCover_s9 v63 v64 v65 o1000009 o1000011 o1000012) =
  cond (decide (v65 < v64)) (.need ((0 : Int) ≤ v65 ∧ v65 < (↑(List.length v63) : Int)) (.need (True) (cond (!decide (Prod.fst (List.getD v63 (Int.toNat v65) ((0 : Int), (0 : Int), ())) ∈ o1000011)) (.need (True) (cond (!decide (Prod.fst (Prod.snd (List.getD v63 (Int.toNat v65) ((0 : Int), (0 : Int), ()))) ∈ o1000012)) (.ret ((false, ()))) (.need (inK IntKind.i64 (v65 + (1 : Int))) (.cut (loopAt (bodyOf Try.prog 7) 9).1 (loopAt (bodyOf Try.prog 7) 9).2 (St.mk [(9, AV.at_ 1000009 []), (11, AV.at_ 1000011 []), (12, AV.at_ 1000012 []), (63, AV.val (Ty.slc false PairT) v63), (64, AV.val (Ty.int IntKind.i64) v64), (65, AV.val (Ty.int IntKind.i64) (v65 + (1 : Int)))] [(1000009, Ent.own (Ty.slc true PairT) o1000009), (1000011, Ent.own Is o1000011), (1000012, Ent.own Is o1000012)]))))) (.need (inK IntKind.i64 (v65 + (1 : Int))) (.cut (loopAt (bodyOf Try.prog 7) 9).1 (loopAt (bodyOf Try.prog 7) 9).2 (St.mk [(9, AV.at_ 1000009 []), (11, AV.at_ 1000011 []), (12, AV.at_ 1000012 []), (63, AV.val (Ty.slc false PairT) v63), (64, AV.val (Ty.int IntKind.i64) v64), (65, AV.val (Ty.int IntKind.i64) (v65 + (1 : Int)))] [(1000009, Ent.own (Ty.slc true PairT) o1000009), (1000011, Ent.own Is o1000011), (1000012, Ent.own Is o1000012)])))))) (.need (inK IntKind.i64 ((↑(List.length o1000011) : Int) + (↑(List.length o1000012) : Int))) (.ret ((decide ((↑(List.length o1000009) : Int) = (↑(List.length o1000011) : Int) + (↑(List.length o1000012) : Int)), ())))) := by kernel_rfl
theorem whereB_mem {v : Bool} {l : List Bool} {k : Nat} {x : Int} : x ∈ whereB v l k ↔ ∃ a : Nat, a < k ∧ x = (a : Int) ∧ l.getD a false = v := by
  rw [whereB, List.mem_map]
  constructor
  · rintro ⟨a, ha, rfl⟩
    rw [List.mem_filter, List.mem_range] at ha
    exact ⟨a, ha.1, rfl, by simpa using ha.2⟩
  · rintro ⟨a, h1, rfl, h2⟩
    exact ⟨a, by rw [List.mem_filter, List.mem_range]; exact ⟨h1, by simpa using h2⟩, rfl⟩
theorem mostR_code (m n : Int) (l : List PairD) : (mostR m n l).2.1 = mcheck m n l := by
  rw [mostR]; split
  · rfl
  · rename_i h; exact (Decidable.not_not.1 h).symm
theorem coverR_code (m n : Int) (l : List PairD) : (coverR m n l).2.2.1 = mcheck m n l := by
  rw [coverR]; split
  · rfl
  · rename_i h; exact (Decidable.not_not.1 h).symm
/-- what Most and Cover tell of a right graph -/
theorem cover_facts {m n : Int} {l : List PairD} (h : mcheck m n l = 0) : ∃ (M N : Nat) (s : LR), m = (M : Int) ∧ n = (N : Int) ∧ M ≤ 40 ∧ N ≤ 40 ∧ inP (M : Int) (N : Int) l ∧ MInv M N M (mostF (M : Int) (N : Int) l) ∧ Konig M N (mostF (M : Int) (N : Int) l) s ∧
    coverR m n l = (whereB false s.1 M, whereB true s.2 N, 0, ()) ∧ mostR m n l = (outP (mostF (M : Int) (N : Int) l).2.1 M, 0, ()) := by
  have hin := (mcheck_ok h).1
  obtain ⟨M, rfl⟩ : ∃ M : Nat, m = (M : Int) := ⟨m.toNat, by have := hin.1.1; omega⟩
  obtain ⟨N, rfl⟩ : ∃ N : Nat, n = (N : Int) := ⟨n.toNat, by have := hin.2.1.1; omega⟩
  have hM : M ≤ 40 := by have := hin.1.2; omega
  have hN : N ≤ 40 := by have := hin.2.1.2; omega
  have hI : MInv M N M (mostF (M : Int) (N : Int) l) := most_inv hM hN (Nat.le_refl M)
  refine ⟨M, N, covLR (mostF (M : Int) (N : Int) l) M N, rfl, rfl, hM, hN, hin, hI, cov_konig hI hM hN, ?_, ?_⟩
  · rw [coverR, if_neg (fun g => g h), Int.toNat_natCast, Int.toNat_natCast]
  · rw [mostR, if_neg (fun g => g h), Int.toNat_natCast]
theorem cover_covers {m n : Int} {l : List PairD} (h : mcheck m n l = 0) {q : PairD} (hq : q ∈ l) : q.1 ∈ (coverR m n l).1 ∨ q.2.1 ∈ (coverR m n l).2.1 := by
  obtain ⟨M, N, s, rfl, rfl, hM, hN, hin, hI, hK, e1, e2⟩ := cover_facts h
  rw [e1]
  obtain ⟨q1, q2, ⟨⟩⟩ := q
  have hr := hin.2.2 (q1, q2, ()) hq
  obtain ⟨a, rfl⟩ : ∃ a : Nat, q1 = (a : Int) := ⟨q1.toNat, by have : 0 ≤ q1 := hr.1.1; omega⟩
  obtain ⟨b, rfl⟩ : ∃ b : Nat, q2 = (b : Int) := ⟨q2.toNat, by have : 0 ≤ q2 := hr.2.1; omega⟩
  have ha : a < M := by have : (a : Int) < M := hr.1.2; omega
  have hb : b < N := by have : (b : Int) < N := hr.2.2; omega
  have he := (edge_iff hM hN hin (x := (a : Int)) (y := b) (by omega)).2 hq
  cases hs : s.1.getD a false with
  | false => exact .inl (whereB_mem.2 ⟨a, ha, rfl, hs⟩)
  | true => exact .inr (whereB_mem.2 ⟨b, hb, rfl, hK.out a hs b hb he⟩)
theorem cover_size {m n : Int} {l : List PairD} (h : mcheck m n l = 0) : (mostR m n l).1.length = (coverR m n l).1.length + (coverR m n l).2.1.length ∧ (coverR m n l).1.length ≤ 40 ∧ (coverR m n l).2.1.length ≤ 40 := by
  obtain ⟨M, N, s, rfl, rfl, hM, hN, hin, hI, hK, e1, e2⟩ := cover_facts h
  rw [e1, e2]
  have h1 := whereB_len false s.1 M
  have h2 := whereB_len true s.2 N
  refine ⟨?_, by show (whereB false s.1 M).length ≤ 40; omega, by show (whereB true s.2 N).length ≤ 40; omega⟩
  show (outP (mostF (M : Int) (N : Int) l).2.1 M).length = (whereB false s.1 M).length + (whereB true s.2 N).length
  rw [outP_count]
  exact (konig_count hI hK).1
theorem cMatchCover_valid : cMatchCover.Valid Try.prog 7 := by
  refine Ctr.valid_of EMatchCover_ok rfl rfl Try.func7 (c := bodyOf Try.prog 7) rfl rfl FMatchCover_ok rfl ?_
  rintro ⟨(m : Int), (n : Int), (l : List PairD), ⟨⟩⟩ - ⟨-, -, ⟨hl, -⟩, -⟩
  have hl : l.length ≤ 9223372036854775807 := hl
  refine exec_sound (n := 1000) EMatchCover_ok FMatchCover_ok ?_
  refine holds_of_eq (EMatchCover_t m n l) ?_
  simp only [holds_cond, Tree.holds, true_and, true_implies, decide_eq_true_eq, decide_eq_false_iff_not, Bool.not_eq_true', Bool.not_eq_false', Int.toNat_natCast, inK_i64, List.length_set, List.length_cons, List.length_nil]
  rw [mostR_code, coverR_code]
  refine ⟨fun e => ⟨fun _ => ?_, fun e2 => absurd rfl e2⟩, fun e => ⟨fun e2 => absurd e2 e, fun _ => ?_⟩⟩
  · have := (mostR_err (m := m) (n := n) (l := l) (by rw [mostR_code]; exact e)).1
    exact yesd (by rw [this]; rfl)
  have e := Decidable.not_not.1 e
  have hc := fun q hq => cover_covers e (q := q) hq
  obtain ⟨hs, hx, hy⟩ := cover_size e
  generalize (mostR m n l).1 = P at *
  generalize (coverR m n l).1 = X at *
  generalize (coverR m n l).2.1 = Y at *
  refine Reach.loopI EMatchCover_ok FMatchCover_ok (fun i : Nat => EMatchCover_s9 l (l.length : Int) (i : Int) P X Y) (fun i => i ≤ l.length) (fun i => l.length - i) 1000 (fun _ => ⟨uniq_of rfl, uniq_of rfl⟩) ?_ 0 (Nat.zero_le _)
  rintro i (k1 : i ≤ l.length) - ih
  refine holds_of_eq (EMatchCover_l9 ..) ?_
  simp only [holds_cond, Tree.holds, true_and, true_implies, decide_eq_true_eq, decide_eq_false_iff_not, Bool.not_eq_true', Bool.not_eq_false', Int.toNat_natCast, inK_i64, List.length_set, List.length_cons, List.length_nil]
  refine ⟨fun c => ⟨by omega, fun _ => ⟨fun d => ⟨fun d2 => ?_, fun d2 => ⟨by omega, fun _ => ih (i + 1) (by show i + 1 ≤ l.length; omega) (by omega)⟩⟩, fun d => ⟨by omega, fun _ => ih (i + 1) (by show i + 1 ≤ l.length; omega) (by omega)⟩⟩⟩, fun c => ⟨by omega, fun _ => yesd (by omega)⟩⟩
  have d : ¬ (l.getD i (0, 0, ())).1 ∈ X := by simpa using d
  have d2 : ¬ (l.getD i (0, 0, ())).2.1 ∈ Y := by simpa using d2
  exact absurd (hc _ (getD_mem (by omega))) (fun h => h.elim d d2)
end Go.Proofs.Ytegigiecamjobaa
