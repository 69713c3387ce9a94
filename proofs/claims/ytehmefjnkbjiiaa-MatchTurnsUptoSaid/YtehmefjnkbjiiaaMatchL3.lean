/- MatchTurns, where the pairs are of bulk at most 1048576. -/
import Derived.Test.YtehmefjnkbjiiaaMatchL2
namespace Go.Proofs.Ytehmefjnkbjiiaa
open Go.Ex
set_option maxRecDepth 100000
def flipP (q : PairD) : PairD := (q.2.1, q.1, ())
theorem flip_flip (l : List PairD) : (l.map flipP).map flipP = l := by
  rw [List.map_map]
  conv => rhs; rw [← List.map_id l]
  exact List.map_congr_left (fun q _ => by obtain ⟨a, b, ⟨⟩⟩ := q; rfl)
theorem mcheck_flip {m n : Int} {l : List PairD} : mcheck n m (l.map flipP) = mcheck m n l := by
  rw [mcheck, mcheck, List.length_map, List.any_map, Bool.and_comm, show badP n m ∘ flipP = badP m n from funext (fun q => by
    show (!inF q.2.1 0 (n - 1) || !inF q.1 0 (m - 1)) = (!inF q.1 0 (m - 1) || !inF q.2.1 0 (n - 1))
    rw [Bool.or_comm])]
theorem mostR_code {m n : Int} {l : List PairD} : (mostR m n l).2.1 = mcheck m n l := by
  rw [mostR]
  split
  · rfl
  · rename_i e; exact (Decidable.not_not.1 e).symm
theorem Match.flip {l P : List PairD} (h : Match l P) : Match (l.map flipP) (P.map flipP) := by
  refine ⟨fun q hq => ?_, ?_, ?_⟩
  · obtain ⟨p, hp, rfl⟩ := List.mem_map.1 hq
    exact List.mem_map.2 ⟨p, h.sub p hp, rfl⟩
  · rw [List.pairwise_map]; exact h.two
  · rw [List.pairwise_map]; exact h.one
theorem Match.mono {l l' P : List PairD} (h : Match l P) (hs : ∀ q ∈ l, q ∈ l') : Match l' P := ⟨fun q hq => hs q (h.sub q hq), h.one, h.two⟩
/-- without one pair it is one less at most -/
theorem Match.drop {l P : List PairD} {x : PairD} (h : Match (l ++ [x]) P) : ∃ Q, Match l Q ∧ P.length ≤ Q.length + 1 := by
  refine ⟨P.filter (fun q => !decide (q = x)), ⟨fun q hq => ?_, h.one.sublist List.filter_sublist, h.two.sublist List.filter_sublist⟩, ?_⟩
  · obtain ⟨h1, h2⟩ := List.mem_filter.1 hq
    rcases List.mem_append.1 (h.sub q h1) with h3 | h3
    · exact h3
    · rw [List.mem_singleton] at h3; rw [decide_eq_true h3] at h2; cases h2
  · have h1 := filter_split (fun q : PairD => decide (q = x)) P
    have h2 : (P.filter (fun q : PairD => decide (q = x))).length ≤ 1 := by
      have hp := h.one.sublist (List.filter_sublist (p := fun q : PairD => decide (q = x)))
      have hm : ∀ q ∈ P.filter (fun q : PairD => decide (q = x)), q = x := fun q hq => of_decide_eq_true (List.mem_filter.1 hq).2
      generalize P.filter (fun q : PairD => decide (q = x)) = F at *
      match F, hp, hm with
      | [], _, _ => simp
      | [_], _, _ => simp
      | a :: b :: F, hp, hm =>
        exfalso
        refine (List.pairwise_cons.1 hp).1 b (by simp) ?_
        rw [hm a (by simp), hm b (by simp)]
    omega
theorem blkL_len {α : Type} {f : α → Nat} {c : Nat} (h : ∀ x, c ≤ f x) : ∀ l : List α, c * l.length ≤ bulkL f l
  | [] => by simp [bulkL]
  | x :: l => by have h1 := h x; have h2 := blkL_len h l; simp only [bulkL, List.length_cons, Nat.mul_add]; omega
theorem wbclP : Ty.wb PairT = 16 := rfl
def cclP : Ctr := { ps := [.v (.slc false PairT)], rs := [.slc true PairT], pre := fun x => List.length (α := PairD) x.1 ≤ 1048576, fn := fun x => x, out := fun _ => () }
noncomputable def EclP : Env := { P := Try.prog, tt := tt, ctr := [], res := [Go.ResultVar.tmp 2], rs := [Ty.slc true PairT], ps := [PK.v (Ty.slc false PairT)], cuts := [], nt := 8 }
theorem EclP_ok : EnvOk EclP := envOk tt_ok trivial
theorem FclP_ok : FnOk EclP Try.f23 := ⟨rfl, rfl⟩
theorem EclP_t (x0 : List (Int × Int × Unit)) : exec EclP 1000 [.code (bodyOf Try.prog 23)] (initSt cclP.ps ((x0, ()))) =
  .both (x0 = []) (.ret (([], ()))) (.need ((0 : Nat) + List.length x0 ≤ 140737488355328 ∧ ((0 : Nat) + List.length x0) * Ty.wb PairT ≤ 140737488355328) (.ret (([] ++ x0, ())))) := by kernel_rfl
theorem cclP_valid : cclP.Valid Try.prog 23 := by
  refine Ctr.valid_of EclP_ok rfl rfl Try.func23 (c := bodyOf Try.prog 23) rfl rfl FclP_ok rfl ?_
  rintro ⟨(l : List (PairD)), ⟨⟩⟩ hp -
  have hp : l.length ≤ 1048576 := hp
  refine exec_sound (n := 1000) EclP_ok FclP_ok ?_
  refine holds_of_eq (EclP_t l) ?_
  simp only [holds_cond, Tree.holds, true_and, true_implies, decide_eq_true_eq, decide_eq_false_iff_not, Bool.not_eq_true', Bool.not_eq_false', Int.toNat_natCast, inK_i64, List.length_set, List.length_cons, List.length_nil, wbclP]
  refine ⟨fun h => ?_, by omega, fun _ => rfl⟩
  show (([], ()) : List (PairD) × Unit) = (l, ())
  rw [show l = [] from h]
def cMatchTurns : Ctr := smallC [I64, I64, .slc false PairT, PairT]
noncomputable def EMatchTurns : Env := { P := Try.prog, tt := tt, ctr := [(16, cmostR), (23, cclP)], res := [Go.ResultVar.tmp 8], rs := [Ty.bool], ps := [PK.v (Ty.int IntKind.i64), PK.v (Ty.int IntKind.i64), PK.v (Ty.slc false PairT), PK.v PairT], cuts := [(7, [(0, none), (1, none), (2, none), (7, none), (11, some (Ty.slc true PairT)), (12, none), (13, some (Ty.slc true PairT)), (40, none), (41, none), (42, none)])], nt := 106 }
theorem EMatchTurns_ok : EnvOk EMatchTurns := envOk tt_ok ⟨cmostR_valid, cclP_valid, trivial⟩
theorem FMatchTurns_ok : FnOk EMatchTurns Try.f6 := ⟨rfl, rfl⟩
theorem EMatchTurns_t (x0 : Int) (x1 : Int) (x2 : List (Int × Int × Unit)) (x3_1 : Int) (x3_2_1 : Int) : exec EMatchTurns 1000 [.code (bodyOf Try.prog 6)] (initSt cMatchTurns.ps ((x0, x1, x2, (x3_1, x3_2_1, ()), ()))) =
  .need (True) (.need (True) (.cut (loopAt (bodyOf Try.prog 6) 7).1 (loopAt (bodyOf Try.prog 6) 7).2 (St.mk [(0, AV.val (Ty.int IntKind.i64) x0), (1, AV.val (Ty.int IntKind.i64) x1), (2, AV.val (Ty.slc false PairT) x2), (7, AV.ptr 7 []), (11, AV.at_ 1000011 []), (12, AV.val (Ty.int IntKind.i64) (Prod.fst (Prod.snd (mostR x0 x1 x2)))), (13, AV.at_ 1000013 []), (40, AV.val (Ty.slc false PairT) x2), (41, AV.val (Ty.int IntKind.i64) (↑(List.length x2) : Int)), (42, AV.val (Ty.int IntKind.i64) (0 : Int))] [(7, Ent.var PairT (x3_1, x3_2_1, ())), (1000011, Ent.own (Ty.slc true PairT) (Prod.fst (mostR x0 x1 x2))), (1000013, Ent.own (Ty.slc true PairT) [])]))) := by kernel_rfl
def EMatchTurns_s7 (v0 : Int) (v1 : Int) (v2 : List (Int × Int × Unit)) (v12 : Int) (v40 : List (Int × Int × Unit)) (v41 : Int) (v42 : Int) (o7_1 : Int) (o7_2_1 : Int) (o1000011 : List (Int × Int × Unit)) (o1000013 : List (Int × Int × Unit)) : St := St.mk [(0, AV.val (Ty.int IntKind.i64) v0), (1, AV.val (Ty.int IntKind.i64) v1), (2, AV.val (Ty.slc false PairT) v2), (7, AV.ptr 7 []), (11, AV.at_ 1000011 []), (12, AV.val (Ty.int IntKind.i64) v12), (13, AV.at_ 1000013 []), (40, AV.val (Ty.slc false PairT) v40), (41, AV.val (Ty.int IntKind.i64) v41), (42, AV.val (Ty.int IntKind.i64) v42)] [(7, Ent.var PairT (o7_1, o7_2_1, ())), (1000011, Ent.own (Ty.slc true PairT) o1000011), (1000013, Ent.own (Ty.slc true PairT) o1000013)]
theorem EMatchTurns_l7 (v0 : Int) (v1 : Int) (v2 : List (Int × Int × Unit)) (v12 : Int) (v40 : List (Int × Int × Unit)) (v41 : Int) (v42 : Int) (o7_1 : Int) (o7_2_1 : Int) (o1000011 : List (Int × Int × Unit)) (o1000013 : List (Int × Int × Unit)) : exec EMatchTurns 1000 (.code (loopAt (bodyOf Try.prog 6) 7).1 :: .inLoop (loopAt (bodyOf Try.prog 6) 7).1 :: (loopAt (bodyOf Try.prog 6) 7).2) (EMatchTurns_s7 v0 v1 v2 v12 v40 v41 v42 o7_1 o7_2_1 o1000011 o1000013) =
  cond (decide (v42 < v41)) (.need ((0 : Int) ≤ v42 ∧ v42 < (↑(List.length v40) : Int)) (.need (List.length o1000013 + List.length (List.set [((0 : Int), (0 : Int), ())] (Int.toNat (↑0 : Int)) (Prod.fst (Prod.snd (List.getD v40 (Int.toNat v42) ((0 : Int), (0 : Int), ()))), Prod.fst (List.getD v40 (Int.toNat v42) ((0 : Int), (0 : Int), ())), ())) ≤ 140737488355328 ∧ (List.length o1000013 + List.length (List.set [((0 : Int), (0 : Int), ())] (Int.toNat (↑0 : Int)) (Prod.fst (Prod.snd (List.getD v40 (Int.toNat v42) ((0 : Int), (0 : Int), ()))), Prod.fst (List.getD v40 (Int.toNat v42) ((0 : Int), (0 : Int), ())), ()))) * Ty.wb PairT ≤ 140737488355328) (.need (inK IntKind.i64 (v42 + (1 : Int))) (.cut (loopAt (bodyOf Try.prog 6) 7).1 (loopAt (bodyOf Try.prog 6) 7).2 (St.mk [(0, AV.val (Ty.int IntKind.i64) v0), (1, AV.val (Ty.int IntKind.i64) v1), (2, AV.val (Ty.slc false PairT) v2), (7, AV.ptr 7 []), (11, AV.at_ 1000011 []), (12, AV.val (Ty.int IntKind.i64) v12), (13, AV.at_ 1000013 []), (40, AV.val (Ty.slc false PairT) v40), (41, AV.val (Ty.int IntKind.i64) v41), (42, AV.val (Ty.int IntKind.i64) (v42 + (1 : Int)))] [(7, Ent.var PairT (o7_1, o7_2_1, ())), (1000011, Ent.own (Ty.slc true PairT) o1000011), (1000013, Ent.own (Ty.slc true PairT) (o1000013 ++ List.set [((0 : Int), (0 : Int), ())] (Int.toNat (↑0 : Int)) (Prod.fst (Prod.snd (List.getD v40 (Int.toNat v42) ((0 : Int), (0 : Int), ()))), Prod.fst (List.getD v40 (Int.toNat v42) ((0 : Int), (0 : Int), ())), ())))]))))) (.need (True) (cond (decide (v12 ≠ (0 : Int))) (.ret ((decide (v12 = Prod.fst (Prod.snd (mostR v1 v0 o1000013))), ()))) (cond (decide (Prod.fst (Prod.snd (mostR v1 v0 o1000013)) ≠ (0 : Int))) (.ret ((decide (v12 = Prod.fst (Prod.snd (mostR v1 v0 o1000013))), ()))) (.need (List.length v2 ≤ 1048576) (.need (List.length v2 + List.length (List.set [((0 : Int), (0 : Int), ())] (Int.toNat (↑0 : Int)) (o7_1, o7_2_1, ())) ≤ 140737488355328 ∧ (List.length v2 + List.length (List.set [((0 : Int), (0 : Int), ())] (Int.toNat (↑0 : Int)) (o7_1, o7_2_1, ()))) * Ty.wb PairT ≤ 140737488355328) (.need (True) (cond (decide ((↑(List.length o1000011) : Int) = (↑(List.length (Prod.fst (mostR v1 v0 o1000013))) : Int))) (cond (decide (Prod.fst (Prod.snd (mostR v0 v1 (v2 ++ List.set [((0 : Int), (0 : Int), ())] (Int.toNat (↑0 : Int)) (o7_1, o7_2_1, ())))) ≠ (0 : Int))) (.ret ((true, ()))) (cond (decide ((↑(List.length (Prod.fst (mostR v0 v1 (v2 ++ List.set [((0 : Int), (0 : Int), ())] (Int.toNat (↑0 : Int)) (o7_1, o7_2_1, ()))))) : Int) = (↑(List.length o1000011) : Int))) (.ret ((true, ()))) (.need (inK IntKind.i64 ((↑(List.length o1000011) : Int) + (1 : Int))) (.ret ((decide ((↑(List.length (Prod.fst (mostR v0 v1 (v2 ++ List.set [((0 : Int), (0 : Int), ())] (Int.toNat (↑0 : Int)) (o7_1, o7_2_1, ()))))) : Int) = (↑(List.length o1000011) : Int) + (1 : Int)), ())))))) (.ret ((false, ())))))))))) := by kernel_rfl
theorem cMatchTurns_valid : (smallC [I64, I64, .slc false PairT, PairT]).Valid Try.prog 6 := by
  refine Ctr.valid_of EMatchTurns_ok rfl rfl Try.func6 (c := bodyOf Try.prog 6) rfl rfl FMatchTurns_ok rfl ?_
  rintro ⟨(m : Int), (n : Int), (l : List PairD), ⟨(x1 : Int), (x2 : Int), ⟨⟩⟩, ⟨⟩⟩ hp -
  refine exec_sound (n := 1000) EMatchTurns_ok FMatchTurns_ok ?_
  refine holds_of_eq (EMatchTurns_t m n l x1 x2) ?_
  have hlen : l.length ≤ 1048576 := by
    have h2 := blkL_len (f := Ty.bulk PairT) (c := 1) (fun x => by
      show 1 ≤ 1 + (1 + 0); omega) l
    have h1 : 1 + (1 + ((bulkL (Ty.bulk PairT) l + 1) + ((1 + (1 + 0)) + 0))) ≤ 1048576 := hp
    omega
  have hw : Ty.wb (.pair (.int .i64) (.pair (.int .i64) .unit)) = 16 := rfl
  simp only [holds_cond, Tree.holds, true_and, true_implies, decide_eq_true_eq, decide_eq_false_iff_not, Bool.not_eq_true', Bool.not_eq_false', Int.toNat_natCast, inK_i64, List.length_set, List.length_cons, List.length_nil, hw]
  refine Reach.loopI EMatchTurns_ok FMatchTurns_ok (fun i : Nat => EMatchTurns_s7 m n l (mostR m n l).2.1 l (l.length : Int) (i : Int) x1 x2 (mostR m n l).1 ((l.take i).map flipP)) (fun i => i ≤ l.length) (fun i => l.length - i) 1000 (fun _ => ⟨uniq_of rfl, uniq_of rfl⟩) ?_ 0 (by omega)
  rintro i k1 - ih
  have k1 : i ≤ l.length := k1
  have kl : ((l.take i).map flipP).length = i := by rw [List.length_map, List.length_take]; omega
  refine holds_of_eq (EMatchTurns_l7 ..) ?_
  simp only [holds_cond, Tree.holds, true_and, true_implies, decide_eq_true_eq, decide_eq_false_iff_not, Bool.not_eq_true', Bool.not_eq_false', Int.toNat_natCast, inK_i64, List.length_set, List.length_cons, List.length_nil, hw]
  refine ⟨fun c => ⟨by omega, fun _ => ⟨⟨by omega, by omega⟩, fun _ => ⟨by omega, fun _ => ?_⟩⟩⟩, fun c => ?_⟩
  · have next := ih (i + 1) (by show i + 1 ≤ l.length; omega) (by show _ - (i + 1) < _ - i; omega)
    rw [take_s (by omega) (0, 0, ()), List.map_append] at next
    exact next
  · rw [List.take_of_length_le (by omega)]
    have e1 : (mostR n m (l.map flipP)).2.1 = (mostR m n l).2.1 := by rw [mostR_code, mostR_code, mcheck_flip]
    refine ⟨fun d => yesd e1.symm, fun d => ⟨fun d2 => yesd e1.symm, fun d2 => ⟨by omega, fun _ => ⟨⟨by omega, by omega⟩, fun _ => ?_⟩⟩⟩⟩
    obtain ⟨-, -, hM, hopt⟩ := mostR_match (Decidable.not_not.1 d)
    obtain ⟨-, -, hM2, hopt2⟩ := mostR_match (Decidable.not_not.1 d2)
    have q1 := hopt2 _ hM.flip
    have q2 := hopt _ (flip_flip l ▸ hM2.flip)
    rw [List.length_map] at q1 q2
    have hln := mostR_len (m := m) (n := n) (l := l)
    refine ⟨fun _ => ⟨fun _ => rfl, fun d3 => ?_⟩, fun c => absurd (by omega) c⟩
    obtain ⟨-, -, hM3, hopt3⟩ := mostR_match (Decidable.not_not.1 d3)
    have q3 := hopt3 _ (hM.mono (fun q hq => List.mem_append_left _ hq))
    obtain ⟨Q, hQ, hQl⟩ := hM3.drop
    have q4 := hopt _ hQ
    refine ⟨fun _ => rfl, fun d4 => ⟨by omega, fun _ => yesd ?_⟩⟩
    omega
end Go.Proofs.Ytehmefjnkbjiiaa
