/- The law of rings that are turned round. -/
import Derived.Test.YtcafiieffenohaaRingN
namespace Go.Proofs.Ytcafiieffenohaa
open Go.Ex
set_option maxRecDepth 100000
def cgrowI : Ctr := { ps := [.nilS, .v I64], rs := [.slc true I64], pre := fun x => LE.le (α := Int) 0 x.2.1 ∧ LE.le (α := Int) x.2.1 1048576, fn := fun _ => ([], ()), out := fun _ => () }
noncomputable def EgrowI : Env := { P := Try.prog, tt := tt, ctr := [], res := [Go.ResultVar.tmp 4], rs := [Ty.slc true (Ty.int IntKind.i64)], ps := [PK.nilS, PK.v (Ty.int IntKind.i64)], cuts := [], nt := 27 }
theorem EgrowI_ok : EnvOk EgrowI := envOk tt_ok trivial
theorem FgrowI_ok : FnOk EgrowI Try.f75 := ⟨rfl, rfl⟩
theorem EgrowI_t (x1 : Int) : exec EgrowI 1000 [.code (bodyOf Try.prog 75)] (initSt cgrowI.ps (((), x1, ()))) =
  cond (decide (x1 < (0 : Int))) (.stuck "op") (.need (inK IntKind.i64 ((0 : Int) - (0 : Int))) (.need (inK IntKind.i64 (x1 - ((0 : Int) - (0 : Int)))) (cond (decide ((0 : Int) < x1 - ((0 : Int) - (0 : Int)))) (.need ((0 : Int) = (0 : Int) ∧ (0 : Int) = (0 : Int)) (.need ((0 : Int) ≤ x1 - ((0 : Int) - (0 : Int)) ∧ x1 - ((0 : Int) - (0 : Int)) ≤ (140737488355328 : Int) ∧ (x1 - ((0 : Int) - (0 : Int))) * (↑(Ty.wb (Ty.int IntKind.i64)) : Int) ≤ (140737488355328 : Int)) (.need ((0 : Int) ≤ (0 : Int) ∧ (0 : Int) ≤ (0 : Int) ∧ (0 : Int) ≤ (↑(List.length (List.replicate (Int.toNat (x1 - ((0 : Int) - (0 : Int)))) (0 : Int))) : Int)) (.ret ((cut2 (0 : Int) (0 : Int) (List.replicate (Int.toNat (x1 - ((0 : Int) - (0 : Int)))) (0 : Int)), ())))))) (.ret (([], ())))))) := by kernel_rfl
theorem cgrowI_valid : cgrowI.Valid Try.prog 75 := by
  refine Ctr.valid_of EgrowI_ok rfl rfl Try.func75 (c := bodyOf Try.prog 75) rfl rfl FgrowI_ok rfl ?_
  rintro ⟨⟨⟩, (n : Int), ⟨⟩⟩ ⟨(h0 : 0 ≤ n), (h1 : n ≤ 1048576)⟩ -
  refine exec_sound (n := 1000) EgrowI_ok FgrowI_ok ?_
  refine holds_of_eq (EgrowI_t n) ?_
  simp only [holds_cond, Tree.holds, true_and, true_implies, decide_eq_true_eq, decide_eq_false_iff_not, Bool.not_eq_true', Bool.not_eq_false', Int.toNat_natCast, inK_i64, List.length_set, List.length_cons, List.length_nil, wb_i64]
  refine ⟨fun h => by omega, fun _ => ⟨by omega, fun _ => ⟨by omega, fun _ => ⟨fun _ => ⟨by omega, fun _ => ⟨by omega, fun _ => ?_⟩⟩, fun _ => rfl⟩⟩⟩⟩
  rfl
theorem sum_len_take {α : Type} : ∀ (l : List (List α)) (i : Nat), ((l.take i).map List.length).sum ≤ l.flatten.length
  | [], i => by simp
  | a :: l, 0 => by simp
  | a :: l, i + 1 => by have := sum_len_take l i; simp only [List.take_succ_cons, List.map_cons, List.sum_cons, List.flatten_cons, List.length_append]; omega
def cconI : Ctr := { ps := [.v (.slc false (.slc false I64))], rs := [.slc true I64], pre := fun x => (List.flatten (α := Int) x.1).length ≤ 1048576, fn := fun x => (List.flatten (α := Int) x.1, ()), out := fun _ => () }
noncomputable def EconI : Env := { P := Try.prog, tt := tt, ctr := [(75, cgrowI)], res := [Go.ResultVar.tmp 2], rs := [Ty.slc true (Ty.int IntKind.i64)], ps := [PK.v (Ty.slc false (Ty.slc false (Ty.int IntKind.i64)))], cuts := [(3, [(0, none), (3, none), (9, none), (10, none), (11, none)]), (11, [(6, some Is), (25, none), (26, none), (27, none)])], nt := 36 }
theorem EconI_ok : EnvOk EconI := envOk tt_ok ⟨cgrowI_valid, trivial⟩
theorem FconI_ok : FnOk EconI Try.f48 := ⟨rfl, rfl⟩
theorem EconI_t (x0 : List (List Int)) : exec EconI 1000 [.code (bodyOf Try.prog 48)] (initSt cconI.ps ((x0, ()))) =
  .cut (loopAt (bodyOf Try.prog 48) 3).1 (loopAt (bodyOf Try.prog 48) 3).2 (St.mk [(0, AV.val (Ty.slc false (Ty.slc false (Ty.int IntKind.i64))) x0), (3, AV.val (Ty.int IntKind.i64) (0 : Int)), (9, AV.val (Ty.slc false (Ty.slc false (Ty.int IntKind.i64))) x0), (10, AV.val (Ty.int IntKind.i64) (↑(List.length x0) : Int)), (11, AV.val (Ty.int IntKind.i64) (0 : Int))] []) := by kernel_rfl
def EconI_s3 (v0 : List (List Int)) (v3 : Int) (v9 : List (List Int)) (v10 : Int) (v11 : Int) : St := St.mk [(0, AV.val (Ty.slc false (Ty.slc false (Ty.int IntKind.i64))) v0), (3, AV.val (Ty.int IntKind.i64) v3), (9, AV.val (Ty.slc false (Ty.slc false (Ty.int IntKind.i64))) v9), (10, AV.val (Ty.int IntKind.i64) v10), (11, AV.val (Ty.int IntKind.i64) v11)] []
theorem EconI_l3 (v0 : List (List Int)) (v3 : Int) (v9 : List (List Int)) (v10 : Int) (v11 : Int) : exec EconI 1000 (.code (loopAt (bodyOf Try.prog 48) 3).1 :: .inLoop (loopAt (bodyOf Try.prog 48) 3).1 :: (loopAt (bodyOf Try.prog 48) 3).2) (EconI_s3 v0 v3 v9 v10 v11) =
  cond (decide (v11 < v10)) (.need ((0 : Int) ≤ v11 ∧ v11 < (↑(List.length v9) : Int)) (.need (inK IntKind.i64 (v3 + (↑(List.length (List.getD v9 (Int.toNat v11) [])) : Int))) (cond (decide (v3 + (↑(List.length (List.getD v9 (Int.toNat v11) [])) : Int) < (0 : Int))) (.stuck "op") (.need (inK IntKind.i64 (v11 + (1 : Int))) (.cut (loopAt (bodyOf Try.prog 48) 3).1 (loopAt (bodyOf Try.prog 48) 3).2 (St.mk [(0, AV.val (Ty.slc false (Ty.slc false (Ty.int IntKind.i64))) v0), (3, AV.val (Ty.int IntKind.i64) (v3 + (↑(List.length (List.getD v9 (Int.toNat v11) [])) : Int))), (9, AV.val (Ty.slc false (Ty.slc false (Ty.int IntKind.i64))) v9), (10, AV.val (Ty.int IntKind.i64) v10), (11, AV.val (Ty.int IntKind.i64) (v11 + (1 : Int)))] [])))))) (.need ((0 : Int) ≤ v3 ∧ v3 ≤ (1048576 : Int)) (.cut (loopAt (bodyOf Try.prog 48) 11).1 (loopAt (bodyOf Try.prog 48) 11).2 (St.mk [(6, AV.at_ 1000006 []), (25, AV.val (Ty.slc false (Ty.slc false (Ty.int IntKind.i64))) v0), (26, AV.val (Ty.int IntKind.i64) (↑(List.length v0) : Int)), (27, AV.val (Ty.int IntKind.i64) (0 : Int))] [(1000006, Ent.own Is [])]))) := by kernel_rfl
def EconI_s11 (v25 : List (List Int)) (v26 : Int) (v27 : Int) (o1000006 : List Int) : St := St.mk [(6, AV.at_ 1000006 []), (25, AV.val (Ty.slc false (Ty.slc false (Ty.int IntKind.i64))) v25), (26, AV.val (Ty.int IntKind.i64) v26), (27, AV.val (Ty.int IntKind.i64) v27)] [(1000006, Ent.own Is o1000006)]
theorem EconI_l11 (v25 : List (List Int)) (v26 : Int) (v27 : Int) (o1000006 : List Int) : exec EconI 1000 (.code (loopAt (bodyOf Try.prog 48) 11).1 :: .inLoop (loopAt (bodyOf Try.prog 48) 11).1 :: (loopAt (bodyOf Try.prog 48) 11).2) (EconI_s11 v25 v26 v27 o1000006) =
  cond (decide (v27 < v26)) (.need ((0 : Int) ≤ v27 ∧ v27 < (↑(List.length v25) : Int)) (.need (List.length o1000006 + List.length (List.getD v25 (Int.toNat v27) []) ≤ 140737488355328 ∧ (List.length o1000006 + List.length (List.getD v25 (Int.toNat v27) [])) * Ty.wb (Ty.int IntKind.i64) ≤ 140737488355328) (.need (inK IntKind.i64 (v27 + (1 : Int))) (.cut (loopAt (bodyOf Try.prog 48) 11).1 (loopAt (bodyOf Try.prog 48) 11).2 (St.mk [(6, AV.at_ 1000006 []), (25, AV.val (Ty.slc false (Ty.slc false (Ty.int IntKind.i64))) v25), (26, AV.val (Ty.int IntKind.i64) v26), (27, AV.val (Ty.int IntKind.i64) (v27 + (1 : Int)))] [(1000006, Ent.own Is (o1000006 ++ List.getD v25 (Int.toNat v27) []))]))))) (.ret ((o1000006, ()))) := by kernel_rfl
theorem cconI_valid : cconI.Valid Try.prog 48 := by
  refine Ctr.valid_of EconI_ok rfl rfl Try.func48 (c := bodyOf Try.prog 48) rfl rfl FconI_ok rfl ?_
  rintro ⟨(l : List (List Int)), ⟨⟩⟩ hp ⟨⟨hl, -⟩, -⟩
  have hl : l.length ≤ 9223372036854775807 := hl
  have hp : l.flatten.length ≤ 1048576 := hp
  refine exec_sound (n := 1000) EconI_ok FconI_ok ?_
  refine holds_of_eq (EconI_t l) ?_
  refine Reach.loopI EconI_ok FconI_ok (fun i : Nat => EconI_s3 l (((l.take i).map List.length).sum : Nat) l (l.length : Int) (i : Int)) (fun i => i ≤ l.length)
    (fun i => l.length - i) 1000 (fun _ => ⟨uniq_of rfl, uniq_of rfl⟩) ?_ 0 (Nat.zero_le _)
  rintro i k1 - ih
  have k1 : i ≤ l.length := k1
  refine holds_of_eq (EconI_l3 ..) ?_
  have hs := sum_len_take l i
  simp only [holds_cond, Tree.holds, true_and, true_implies, decide_eq_true_eq, decide_eq_false_iff_not, Bool.not_eq_true', Bool.not_eq_false', Int.toNat_natCast, inK_i64, List.length_set, List.length_cons, List.length_nil]
  refine ⟨fun c => ⟨by omega, fun _ => ?_⟩, fun c => ?_⟩
  · have tk := take_getD (show i < l.length by omega) ([] : List Int)
    have hs1 := sum_len_take l (i + 1)
    have e1 : ((l.take (i + 1)).map List.length).sum = ((l.take i).map List.length).sum + (l.getD i []).length := by rw [tk]; simp
    rw [e1] at hs1
    have := ih (i + 1) (by show i + 1 ≤ l.length; omega) (by omega)
    rw [e1] at this
    exact ⟨by omega, fun _ => ⟨fun h => by omega, fun _ => ⟨by omega, fun _ => this⟩⟩⟩
  · refine ⟨by omega, fun _ => ?_⟩
    refine Reach.loopI EconI_ok FconI_ok (fun i : Nat => EconI_s11 l (l.length : Int) (i : Int) (l.take i).flatten) (fun i => i ≤ l.length)
      (fun i => l.length - i) 1000 (fun _ => ⟨uniq_of rfl, uniq_of rfl⟩) ?_ 0 (Nat.zero_le _)
    rintro i k1 - ih
    have k1 : i ≤ l.length := k1
    refine holds_of_eq (EconI_l11 ..) ?_
    simp only [holds_cond, Tree.holds, true_and, true_implies, decide_eq_true_eq, decide_eq_false_iff_not, Bool.not_eq_true', Bool.not_eq_false', Int.toNat_natCast, inK_i64, List.length_set, List.length_cons, List.length_nil, wb_i64]
    refine ⟨fun c => ?_, fun c => ?_⟩
    · have tk := take_getD (show i < l.length by omega) ([] : List Int)
      have e1 : (l.take (i + 1)).flatten = (l.take i).flatten ++ l.getD i [] := by rw [tk]; simp
      have hb : ((l.take i).flatten ++ l.getD i []).length ≤ l.flatten.length := by
        rw [← e1]
        conv => rhs; rw [← List.take_append_drop (i + 1) l, List.flatten_append, List.length_append]
        omega
      rw [List.length_append] at hb
      have := ih (i + 1) (by show i + 1 ≤ l.length; omega) (by omega)
      rw [e1] at this
      exact ⟨by omega, fun _ => ⟨by omega, fun _ => ⟨by omega, fun _ => this⟩⟩⟩
    · rw [List.take_of_length_le (by omega)]
      rfl
theorem turnL_ok {l : List Int} (h : RingOk l) {i : Nat} (hi : i < l.length) : RingOk (turnL l i) := by
  have hp : (turnL l i).Perm l := by
    have := List.take_append_drop i l
    conv => rhs; rw [← this]
    exact List.perm_append_comm
  exact ⟨by rw [hp.length_eq]; exact h.pos, by rw [hp.length_eq]; exact h.le, fun x hx => h.rng x (hp.mem_iff.1 hx), hp.nodup_iff.2 h.nd⟩
theorem turn_max {l : List Int} (h : RingOk l) {i : Nat} (hi : i < l.length) : maxL (turnL l i) = maxL l := by
  have ht := turnL_ok h hi
  obtain ⟨a1, a2⟩ := maxL_spec h.pos
  obtain ⟨b1, b2⟩ := maxL_spec ht.pos
  have hm : ∀ x, x ∈ turnL l i ↔ x ∈ l := fun x => by
    unfold turnL
    conv => rhs; rw [← List.take_append_drop i l]
    simp only [List.mem_append]
    exact Or.comm
  have := a2 _ ((hm _).1 b1)
  have := b2 _ ((hm _).2 a1)
  omega
def cRingTurns : Ctr := { ps := [.v (.slc false I64), .v I64], rs := [.bool], pre := fun _ => True, fn := fun _ => (true, ()), out := fun _ => () }
noncomputable def ERingTurns : Env := { P := Try.prog, tt := tt, ctr := [(19, cround), (33, chalves), (20, crest), (48, cconI)], res := [Go.ResultVar.tmp 4], rs := [Ty.bool], ps := [PK.v (Ty.slc false (Ty.int IntKind.i64)), PK.v (Ty.int IntKind.i64)], cuts := [], nt := 115 }
theorem ERingTurns_ok : EnvOk ERingTurns := envOk tt_ok ⟨cround_valid, chalves_valid, crest_valid, cconI_valid, trivial⟩
theorem FRingTurns_ok : FnOk ERingTurns Try.f15 := ⟨rfl, rfl⟩
theorem ERingTurns_t (x0 : List Int) (x1 : Int) : exec ERingTurns 1000 [.code (bodyOf Try.prog 15)] (initSt cRingTurns.ps ((x0, x1, ()))) =
  .need (True) (.need (True) (.need (True) (cond (decide (Prod.fst (Prod.snd (Prod.snd (roundR x0))) ≠ (0 : Int))) (.ret ((decide (Prod.fst (Prod.snd (Prod.snd (roundR x0))) = Prod.fst (Prod.snd (Prod.snd (halvesR x0)))), ()))) (cond (decide (Prod.fst (Prod.snd (Prod.snd (halvesR x0))) ≠ (0 : Int))) (.ret ((decide (Prod.fst (Prod.snd (Prod.snd (roundR x0))) = Prod.fst (Prod.snd (Prod.snd (halvesR x0)))), ()))) (.need ((↑(List.length x0) : Int) ≤ (1000000 : Int)) (.need ((0 : Int) ≤ rest x1 (↑(List.length x0) : Int) ∧ rest x1 (↑(List.length x0) : Int) ≤ (↑(List.length x0) : Int) ∧ (↑(List.length x0) : Int) ≤ (↑(List.length x0) : Int)) (.need ((0 : Int) ≤ (0 : Int) ∧ (0 : Int) ≤ rest x1 (↑(List.length x0) : Int) ∧ rest x1 (↑(List.length x0) : Int) ≤ (↑(List.length x0) : Int)) (.need (List.length (List.flatten (List.set (List.set [[], []] (Int.toNat (↑0 : Int)) (cut2 (rest x1 (↑(List.length x0) : Int)) (↑(List.length x0) : Int) x0)) (Int.toNat (↑1 : Int)) (cut2 (0 : Int) (rest x1 (↑(List.length x0) : Int)) x0))) ≤ 1048576) (.need (True) (.need (True) (cond (decide (Prod.fst (Prod.snd (Prod.snd (roundR (List.flatten (List.set (List.set [[], []] (Int.toNat (↑0 : Int)) (cut2 (rest x1 (↑(List.length x0) : Int)) (↑(List.length x0) : Int) x0)) (Int.toNat (↑1 : Int)) (cut2 (0 : Int) (rest x1 (↑(List.length x0) : Int)) x0)))))) = (0 : Int))) (cond (decide (Prod.fst (Prod.snd (Prod.snd (halvesR (List.flatten (List.set (List.set [[], []] (Int.toNat (↑0 : Int)) (cut2 (rest x1 (↑(List.length x0) : Int)) (↑(List.length x0) : Int) x0)) (Int.toNat (↑1 : Int)) (cut2 (0 : Int) (rest x1 (↑(List.length x0) : Int)) x0)))))) = (0 : Int))) (.need ((0 : Int) ≤ Prod.fst (roundR (List.flatten (List.set (List.set [[], []] (Int.toNat (↑0 : Int)) (cut2 (rest x1 (↑(List.length x0) : Int)) (↑(List.length x0) : Int) x0)) (Int.toNat (↑1 : Int)) (cut2 (0 : Int) (rest x1 (↑(List.length x0) : Int)) x0)))) ∧ Prod.fst (roundR (List.flatten (List.set (List.set [[], []] (Int.toNat (↑0 : Int)) (cut2 (rest x1 (↑(List.length x0) : Int)) (↑(List.length x0) : Int) x0)) (Int.toNat (↑1 : Int)) (cut2 (0 : Int) (rest x1 (↑(List.length x0) : Int)) x0)))) < (↑(List.length (List.flatten (List.set (List.set [[], []] (Int.toNat (↑0 : Int)) (cut2 (rest x1 (↑(List.length x0) : Int)) (↑(List.length x0) : Int) x0)) (Int.toNat (↑1 : Int)) (cut2 (0 : Int) (rest x1 (↑(List.length x0) : Int)) x0)))) : Int)) (.need ((0 : Int) ≤ Prod.fst (roundR x0) ∧ Prod.fst (roundR x0) < (↑(List.length x0) : Int)) (cond (decide (List.getD (List.flatten (List.set (List.set [[], []] (Int.toNat (↑0 : Int)) (cut2 (rest x1 (↑(List.length x0) : Int)) (↑(List.length x0) : Int) x0)) (Int.toNat (↑1 : Int)) (cut2 (0 : Int) (rest x1 (↑(List.length x0) : Int)) x0))) (Int.toNat (Prod.fst (roundR (List.flatten (List.set (List.set [[], []] (Int.toNat (↑0 : Int)) (cut2 (rest x1 (↑(List.length x0) : Int)) (↑(List.length x0) : Int) x0)) (Int.toNat (↑1 : Int)) (cut2 (0 : Int) (rest x1 (↑(List.length x0) : Int)) x0)))))) (0 : Int) = List.getD x0 (Int.toNat (Prod.fst (roundR x0))) (0 : Int))) (.need ((0 : Int) ≤ Prod.fst (halvesR (List.flatten (List.set (List.set [[], []] (Int.toNat (↑0 : Int)) (cut2 (rest x1 (↑(List.length x0) : Int)) (↑(List.length x0) : Int) x0)) (Int.toNat (↑1 : Int)) (cut2 (0 : Int) (rest x1 (↑(List.length x0) : Int)) x0)))) ∧ Prod.fst (halvesR (List.flatten (List.set (List.set [[], []] (Int.toNat (↑0 : Int)) (cut2 (rest x1 (↑(List.length x0) : Int)) (↑(List.length x0) : Int) x0)) (Int.toNat (↑1 : Int)) (cut2 (0 : Int) (rest x1 (↑(List.length x0) : Int)) x0)))) < (↑(List.length (List.flatten (List.set (List.set [[], []] (Int.toNat (↑0 : Int)) (cut2 (rest x1 (↑(List.length x0) : Int)) (↑(List.length x0) : Int) x0)) (Int.toNat (↑1 : Int)) (cut2 (0 : Int) (rest x1 (↑(List.length x0) : Int)) x0)))) : Int)) (.need ((0 : Int) ≤ Prod.fst (halvesR x0) ∧ Prod.fst (halvesR x0) < (↑(List.length x0) : Int)) (cond (decide (List.getD (List.flatten (List.set (List.set [[], []] (Int.toNat (↑0 : Int)) (cut2 (rest x1 (↑(List.length x0) : Int)) (↑(List.length x0) : Int) x0)) (Int.toNat (↑1 : Int)) (cut2 (0 : Int) (rest x1 (↑(List.length x0) : Int)) x0))) (Int.toNat (Prod.fst (halvesR (List.flatten (List.set (List.set [[], []] (Int.toNat (↑0 : Int)) (cut2 (rest x1 (↑(List.length x0) : Int)) (↑(List.length x0) : Int) x0)) (Int.toNat (↑1 : Int)) (cut2 (0 : Int) (rest x1 (↑(List.length x0) : Int)) x0)))))) (0 : Int) = List.getD x0 (Int.toNat (Prod.fst (halvesR x0))) (0 : Int))) (cond (decide (Prod.fst (Prod.snd (roundR (List.flatten (List.set (List.set [[], []] (Int.toNat (↑0 : Int)) (cut2 (rest x1 (↑(List.length x0) : Int)) (↑(List.length x0) : Int) x0)) (Int.toNat (↑1 : Int)) (cut2 (0 : Int) (rest x1 (↑(List.length x0) : Int)) x0))))) = Prod.fst (Prod.snd (roundR x0)))) (.ret ((decide (Prod.fst (Prod.snd (halvesR (List.flatten (List.set (List.set [[], []] (Int.toNat (↑0 : Int)) (cut2 (rest x1 (↑(List.length x0) : Int)) (↑(List.length x0) : Int) x0)) (Int.toNat (↑1 : Int)) (cut2 (0 : Int) (rest x1 (↑(List.length x0) : Int)) x0))))) = Prod.fst (Prod.snd (halvesR x0))), ()))) (.ret ((false, ())))) (.ret ((false, ())))))) (.ret ((false, ())))))) (.ret ((false, ())))) (.ret ((false, ())))))))))))))) := by kernel_rfl
theorem cRingTurns_valid : cRingTurns.Valid Try.prog 15 := by
  refine Ctr.valid_of ERingTurns_ok rfl rfl Try.func15 (c := bodyOf Try.prog 15) rfl rfl FRingTurns_ok rfl ?_
  rintro ⟨(l : List Int), (x : Int), ⟨⟩⟩ - -
  refine exec_sound (n := 1000) ERingTurns_ok FRingTurns_ok ?_
  refine holds_of_eq (ERingTurns_t l x) ?_
  by_cases h : rcheck l = 0
  · have hr : RingOk l := rcheck_iff.1 h
    have hp := hr.pos
    have hle := hr.le
    have hx := rest_in (a := x) (n := (l.length : Int)) (by omega)
    obtain ⟨i, hi⟩ := Int.eq_ofNat_of_zero_le hx.1
    have hil : i < l.length := by omega
    have e1 : cut2 (rest x (l.length : Int)) (l.length : Int) l = l.drop i := by
      rw [hi, cut2, Int.toNat_natCast, List.take_of_length_le (by rw [List.length_drop]; omega)]
    have e2 : cut2 0 (rest x (l.length : Int)) l = l.take i := by rw [hi, cut2]; simp
    have e3 : List.flatten (List.set (List.set [([] : List Int), []] (Int.toNat ((0 : Nat) : Int)) (cut2 (rest x (l.length : Int)) (l.length : Int) l)) (Int.toNat ((1 : Nat) : Int)) (cut2 0 (rest x (l.length : Int)) l)) = turnL l i := by
      rw [e1, e2]
      show List.flatten [l.drop i, l.take i] = _
      simp [turnL]
    have e5 : ∀ u v : List Int, List.flatten (List.set (List.set [([] : List Int), []] (Int.toNat 0) u) (Int.toNat 1) v) = u ++ v := fun u v => by
      show List.flatten [u, v] = _
      simp
    have e4 : l.drop i ++ l.take i = turnL l i := rfl
    have ht := turnL_ok hr hil
    have h' : rcheck (turnL l i) = 0 := rcheck_iff.2 ht
    obtain ⟨p, p1, p2, p3, _⟩ := leader_spec hr
    obtain ⟨q, q1, q2, q3, _⟩ := leader_spec ht
    have hpq : (turnL l i).getD q 0 = l.getD p 0 := by rw [p3, q3, turn_max hr hil]
    have hR : roundF (turnL l i) = roundF l := iso_round (turn_iso hil) hp
    have hH : (halvesB (turnL l i)).2 = (halvesB l).2 := iso_halves (turn_iso hil) hp
    simp only [holds_cond, Tree.holds, true_and, true_implies, decide_eq_true_eq, decide_eq_false_iff_not, Bool.not_eq_true', Bool.not_eq_false', Int.toNat_natCast, inK_i64, List.length_set, List.length_cons, List.length_nil, e3, e5, e1, e2, e4, roundR_ok h, roundR_ok h', halvesR_ok h, halvesR_ok h', p2, q2, hR, hH, hpq, ne_eq, not_true_eq_false, not_false_eq_true, false_implies]
    have hlt := turn_len (l := l) (i := i) (by omega)
    have g1 : (0 : Int) ≤ (q : Int) ∧ (q : Int) < ((turnL l i).length : Int) := ⟨by omega, by omega⟩
    have g2 : (0 : Int) ≤ (p : Int) ∧ (p : Int) < (l.length : Int) := ⟨by omega, by omega⟩
    rw [← p2] at g2
    rw [← q2] at g1
    repeat' first | exact trivial | rfl | assumption | (refine And.intro ?_ ?_) | (intro _) | omega
  · simp only [holds_cond, Tree.holds, true_and, true_implies, decide_eq_true_eq, decide_eq_false_iff_not, Bool.not_eq_true', Bool.not_eq_false', Int.toNat_natCast, inK_i64, List.length_set, List.length_cons, List.length_nil, roundR_no h, halvesR_no h, h, ne_eq, not_false_eq_true, not_true_eq_false, false_implies]
    exact ⟨rfl, trivial⟩
end Go.Proofs.Ytcafiieffenohaa
