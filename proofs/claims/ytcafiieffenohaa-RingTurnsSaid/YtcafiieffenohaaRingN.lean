/- The law of rings with each number doubled. -/
import Derived.Test.YtcafiieffenohaaRingL
namespace Go.Proofs.Ytcafiieffenohaa
open Go.Ex
set_option maxRecDepth 100000
def cRingOrder : Ctr := smallC [.slc false I64]
noncomputable def ERingOrder : Env := { P := Try.prog, tt := tt, ctr := [(19, cround), (33, chalves)], res := [Go.ResultVar.tmp 2], rs := [Ty.bool], ps := [PK.v (Ty.slc false (Ty.int IntKind.i64))], cuts := [(6, [(0, none), (6, some Is), (37, none), (38, none), (39, none)])], nt := 108 }
theorem ERingOrder_ok : EnvOk ERingOrder := envOk tt_ok ⟨cround_valid, chalves_valid, trivial⟩
theorem FRingOrder_ok : FnOk ERingOrder Try.f13 := ⟨rfl, rfl⟩
theorem ERingOrder_t (x0 : List Int) : exec ERingOrder 1000 [.code (bodyOf Try.prog 13)] (initSt cRingOrder.ps ((x0, ()))) =
  .need (True) (.cut (loopAt (bodyOf Try.prog 13) 6).1 (loopAt (bodyOf Try.prog 13) 6).2 (St.mk [(0, AV.val (Ty.slc false (Ty.int IntKind.i64)) x0), (6, AV.at_ 1000006 []), (37, AV.val (Ty.slc false (Ty.int IntKind.i64)) x0), (38, AV.val (Ty.int IntKind.i64) (↑(List.length x0) : Int)), (39, AV.val (Ty.int IntKind.i64) (0 : Int))] [(1000006, Ent.own Is [])])) := by kernel_rfl
def ERingOrder_s6 (v0 : List Int) (v37 : List Int) (v38 : Int) (v39 : Int) (o1000006 : List Int) : St := St.mk [(0, AV.val (Ty.slc false (Ty.int IntKind.i64)) v0), (6, AV.at_ 1000006 []), (37, AV.val (Ty.slc false (Ty.int IntKind.i64)) v37), (38, AV.val (Ty.int IntKind.i64) v38), (39, AV.val (Ty.int IntKind.i64) v39)] [(1000006, Ent.own Is o1000006)]
theorem ERingOrder_l6 (v0 : List Int) (v37 : List Int) (v38 : Int) (v39 : Int) (o1000006 : List Int) : exec ERingOrder 1000 (.code (loopAt (bodyOf Try.prog 13) 6).1 :: .inLoop (loopAt (bodyOf Try.prog 13) 6).1 :: (loopAt (bodyOf Try.prog 13) 6).2) (ERingOrder_s6 v0 v37 v38 v39 o1000006) =
  cond (decide (v39 < v38)) (.need ((0 : Int) ≤ v39 ∧ v39 < (↑(List.length v37) : Int)) (cond (decide (List.getD v37 (Int.toNat v39) (0 : Int) < (0 : Int))) (.ret ((true, ()))) (cond (decide ((1000000 : Int) < List.getD v37 (Int.toNat v39) (0 : Int))) (.ret ((true, ()))) (.need (inK IntKind.i64 ((2 : Int) * List.getD v37 (Int.toNat v39) (0 : Int))) (.need (inK IntKind.i64 ((2 : Int) * List.getD v37 (Int.toNat v39) (0 : Int) + (1 : Int))) (.need (List.length o1000006 + List.length (List.set [(0 : Int)] (Int.toNat (↑0 : Int)) ((2 : Int) * List.getD v37 (Int.toNat v39) (0 : Int) + (1 : Int))) ≤ 140737488355328 ∧ (List.length o1000006 + List.length (List.set [(0 : Int)] (Int.toNat (↑0 : Int)) ((2 : Int) * List.getD v37 (Int.toNat v39) (0 : Int) + (1 : Int)))) * Ty.wb (Ty.int IntKind.i64) ≤ 140737488355328) (.need (inK IntKind.i64 (v39 + (1 : Int))) (.cut (loopAt (bodyOf Try.prog 13) 6).1 (loopAt (bodyOf Try.prog 13) 6).2 (St.mk [(0, AV.val (Ty.slc false (Ty.int IntKind.i64)) v0), (6, AV.at_ 1000006 []), (37, AV.val (Ty.slc false (Ty.int IntKind.i64)) v37), (38, AV.val (Ty.int IntKind.i64) v38), (39, AV.val (Ty.int IntKind.i64) (v39 + (1 : Int)))] [(1000006, Ent.own Is (o1000006 ++ List.set [(0 : Int)] (Int.toNat (↑0 : Int)) ((2 : Int) * List.getD v37 (Int.toNat v39) (0 : Int) + (1 : Int))))]))))))))) (.need (True) (.need (True) (.need (True) (.need (True) (cond (decide (Prod.fst (roundR v0) = Prod.fst (roundR o1000006))) (cond (decide (Prod.fst (Prod.snd (roundR v0)) = Prod.fst (Prod.snd (roundR o1000006)))) (cond (decide (Prod.fst (Prod.snd (Prod.snd (roundR v0))) = Prod.fst (Prod.snd (Prod.snd (roundR o1000006))))) (cond (decide (Prod.fst (halvesR v0) = Prod.fst (halvesR o1000006))) (cond (decide (Prod.fst (Prod.snd (halvesR v0)) = Prod.fst (Prod.snd (halvesR o1000006)))) (.ret ((decide (Prod.fst (Prod.snd (Prod.snd (halvesR v0))) = Prod.fst (Prod.snd (Prod.snd (halvesR o1000006)))), ()))) (.ret ((false, ())))) (.ret ((false, ())))) (.ret ((false, ())))) (.ret ((false, ())))) (.ret ((false, ())))))))) := by kernel_rfl
theorem bulkL_len {α : Type} {f : α → Nat} {c : Nat} (h : ∀ x, c ≤ f x) : ∀ l : List α, c * l.length ≤ bulkL f l
  | [] => by simp [bulkL]
  | x :: l => by have h1 := h x; have h2 := bulkL_len h l; simp only [bulkL, List.length_cons, Nat.mul_add]; omega
theorem order_same {l : List Int} (h : ∀ x ∈ l, 0 ≤ x ∧ x ≤ 1000000) : roundR (dblL l) = roundR l ∧ halvesR (dblL l) = halvesR l := by
  have e := rcheck_dbl h
  by_cases c : rcheck l = 0
  · have c' : rcheck (dblL l) = 0 := e.trans c
    have hr := rcheck_iff.1 c
    have hr' := rcheck_iff.1 c'
    rw [roundR_ok c, roundR_ok c', halvesR_ok c, halvesR_ok c', leader_dbl hr hr', iso_round dbl_iso, iso_halves dbl_iso]
    · exact ⟨rfl, rfl⟩
    · exact hr.pos
    · exact hr.pos
  · rw [roundR_no c, halvesR_no c, roundR_no (e ▸ c), halvesR_no (e ▸ c), e]
    exact ⟨rfl, rfl⟩
theorem cRingOrder_valid : (smallC [.slc false I64]).Valid Try.prog 13 := by
  refine Ctr.valid_of ERingOrder_ok rfl rfl Try.func13 (c := bodyOf Try.prog 13) rfl rfl FRingOrder_ok rfl ?_
  rintro ⟨(l : List Int), ⟨⟩⟩ hp -
  have hlen : l.length ≤ 1048576 := by
    have h1 : (bulkL (Ty.bulk I64) l + 1) + 0 ≤ 1048576 := hp
    have h2 := bulkL_len (f := Ty.bulk I64) (c := 1) (fun x => Nat.le_refl _) l
    omega
  refine exec_sound (n := 1000) ERingOrder_ok FRingOrder_ok ?_
  refine holds_of_eq (ERingOrder_t l) ?_
  simp only [holds_cond, Tree.holds, true_and, true_implies, decide_eq_true_eq, decide_eq_false_iff_not, Bool.not_eq_true', Bool.not_eq_false', Int.toNat_natCast, inK_i64, List.length_set, List.length_cons, List.length_nil]
  refine Reach.loopI ERingOrder_ok FRingOrder_ok (fun i : Nat => ERingOrder_s6 l l (l.length : Int) (i : Int) (dblL (l.take i))) (fun i => i ≤ l.length ∧ ∀ x ∈ l.take i, 0 ≤ x ∧ x ≤ 1000000)
    (fun i => l.length - i) 1000 (fun _ => ⟨uniq_of rfl, uniq_of rfl⟩) ?_ 0 ⟨by omega, fun x hx => by simp at hx⟩
  rintro i ⟨k1, k2⟩ - ih
  refine holds_of_eq (ERingOrder_l6 ..) ?_
  have e0 : ∀ v : Int, List.set [(0 : Int)] (Int.toNat (((0 : Nat) : Nat) : Int)) v = [v] := fun _ => rfl
  have dl : (dblL (l.take i)).length = i := by rw [dblL, List.length_map, List.length_take]; omega
  simp only [holds_cond, Tree.holds, true_and, true_implies, decide_eq_true_eq, decide_eq_false_iff_not, Bool.not_eq_true', Bool.not_eq_false', Int.toNat_natCast, inK_i64, List.length_set, List.length_cons, List.length_nil, dl, wb_i64]
  refine ⟨fun c => ⟨by omega, fun _ => ⟨fun _ => rfl, fun c1 => ⟨fun _ => rfl, fun c2 => ⟨by omega, fun _ => ⟨by omega, fun _ => ⟨by omega, fun _ => ⟨by omega, fun _ => ?_⟩⟩⟩⟩⟩⟩⟩, fun c => ?_⟩
  · have tk := take_getD (show i < l.length by omega) 0
    have := ih (i + 1) ⟨by omega, fun x hx => by
      rw [tk] at hx
      rcases List.mem_append.1 hx with h1 | h1
      · exact k2 x h1
      · have : x = l.getD i 0 := by simpa using h1
        omega⟩ (by omega)
    rw [tk, show dblL (l.take i ++ [l.getD i 0]) = dblL (l.take i) ++ [2 * l.getD i 0 + 1] by simp [dblL]] at this
    exact this
  · rw [List.take_of_length_le (by omega)] at k2 ⊢
    obtain ⟨a, b⟩ := order_same k2
    simp only [a, b]
    simp
    rfl
end Go.Proofs.Ytcafiieffenohaa
