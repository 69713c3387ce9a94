/- MatchMost, MatchHalf. No condition. -/
import Derived.Test.YtehmefjnkbjiiaaMatchX
import Derived.Test.YtehmefjnkbjiiaaBitW
namespace Go.Proofs.Ytehmefjnkbjiiaa
open Go.Ex
set_option maxRecDepth 100000
theorem eqPairP {a b : PairD} : eqD (Ty.pair (Ty.int IntKind.i64) (Ty.pair (Ty.int IntKind.i64) Ty.unit)) a b = true ↔ a = b := by
  obtain ⟨a1, a2, a3⟩ := a
  obtain ⟨b1, b2, b3⟩ := b
  show (decide (a1 = b1) && (decide (a2 = b2) && decide ((a3 : Unit) = b3))) = true ↔ _
  rw [Bool.and_eq_true, Bool.and_eq_true, decide_eq_true_eq, decide_eq_true_eq]
  constructor
  · rintro ⟨rfl, rfl, _⟩; rfl
  · intro h; cases h; exact ⟨rfl, rfl, by simp⟩
theorem eqPairN {a b : PairD} (d : eqD (Ty.pair (Ty.int IntKind.i64) (Ty.pair (Ty.int IntKind.i64) Ty.unit)) a b = false) : ¬ a = b := fun h => by rw [eqPairP.2 h] at d; cases d
def cidxPP : Ctr := { ps := [.v (.slc false PairT), .v PairT], rs := [I64], pre := fun _ => True, fn := fun x => (idxOf (fun y => decide ((show PairD from x.2.1) = y)) x.1, ()), out := fun _ => () }
noncomputable def EidxPP : Env := { P := Try.prog, tt := tt, ctr := [], res := [Go.ResultVar.tmp 4], rs := [Ty.int IntKind.i64], ps := [PK.v (Ty.slc false PairT), PK.v PairT], cuts := [(2, [(0, none), (3, none), (7, none), (8, none)])], nt := 19 }
theorem EidxPP_ok : EnvOk EidxPP := envOk tt_ok trivial
theorem FidxPP_ok : FnOk EidxPP Try.f56 := ⟨rfl, rfl⟩
theorem EidxPP_t (x0 : List (Int × Int × Unit)) (x1_1 : Int) (x1_2_1 : Int) : exec EidxPP 1000 [.code (bodyOf Try.prog 56)] (initSt cidxPP.ps ((x0, (x1_1, x1_2_1, ()), ()))) =
  .cut (loopAt (bodyOf Try.prog 56) 2).1 (loopAt (bodyOf Try.prog 56) 2).2 (St.mk [(0, AV.val (Ty.slc false PairT) x0), (3, AV.ptr 3 []), (7, AV.val (Ty.int IntKind.i64) (↑(List.length x0) : Int)), (8, AV.val (Ty.int IntKind.i64) (0 : Int))] [(3, Ent.var PairT (x1_1, x1_2_1, ()))]) := by kernel_rfl
def EidxPP_s2 (v0 : List (Int × Int × Unit)) (v7 : Int) (v8 : Int) (o3_1 : Int) (o3_2_1 : Int) : St := St.mk [(0, AV.val (Ty.slc false PairT) v0), (3, AV.ptr 3 []), (7, AV.val (Ty.int IntKind.i64) v7), (8, AV.val (Ty.int IntKind.i64) v8)] [(3, Ent.var PairT (o3_1, o3_2_1, ()))]
theorem EidxPP_l2 (v0 : List (Int × Int × Unit)) (v7 : Int) (v8 : Int) (o3_1 : Int) (o3_2_1 : Int) : exec EidxPP 1000 (.code (loopAt (bodyOf Try.prog 56) 2).1 :: .inLoop (loopAt (bodyOf Try.prog 56) 2).1 :: (loopAt (bodyOf Try.prog 56) 2).2) (EidxPP_s2 v0 v7 v8 o3_1 o3_2_1) =
  cond (decide (v8 < v7)) (.need ((0 : Int) ≤ v8 ∧ v8 < (↑(List.length v0) : Int)) (cond (eqD PairT (o3_1, o3_2_1, ()) (List.getD v0 (Int.toNat v8) ((0 : Int), (0 : Int), ()))) (.ret ((v8, ()))) (.need (inK IntKind.i64 (v8 + (1 : Int))) (.cut (loopAt (bodyOf Try.prog 56) 2).1 (loopAt (bodyOf Try.prog 56) 2).2 (St.mk [(0, AV.val (Ty.slc false PairT) v0), (3, AV.ptr 3 []), (7, AV.val (Ty.int IntKind.i64) v7), (8, AV.val (Ty.int IntKind.i64) (v8 + (1 : Int)))] [(3, Ent.var PairT (o3_1, o3_2_1, ()))]))))) (.ret (((-1 : Int), ()))) := by kernel_rfl
theorem cidxPP_valid : cidxPP.Valid Try.prog 56 := by
  refine Ctr.valid_of EidxPP_ok rfl rfl Try.func56 (c := bodyOf Try.prog 56) rfl rfl FidxPP_ok rfl ?_
  rintro ⟨(l : List (PairD)), (x : PairD), ⟨⟩⟩ - ⟨⟨hl, -⟩, -⟩
  have hl : l.length ≤ 9223372036854775807 := hl
  refine exec_sound (n := 1000) EidxPP_ok FidxPP_ok ?_
  refine holds_of_eq (EidxPP_t l x.1 x.2.1) ?_
  refine Reach.loopI EidxPP_ok FidxPP_ok (fun i : Nat => EidxPP_s2 l  (l.length : Int) (i : Int) x.1 x.2.1) (fun i => i ≤ l.length ∧ idxOf (fun y => decide (x = y)) l = idxGo (fun y => decide (x = y)) (l.drop i) i)
    (fun i => l.length - i) 1000 (fun _ => ⟨uniq_of rfl, uniq_of rfl⟩) ?_ 0 ⟨by omega, rfl⟩
  rintro i ⟨k1, k2⟩ - ih
  refine holds_of_eq (EidxPP_l2 ..) ?_
  simp only [holds_cond, Tree.holds, true_and, true_implies, decide_eq_true_eq, decide_eq_false_iff_not, Bool.not_eq_true', Bool.not_eq_false', Int.toNat_natCast, inK_i64, List.length_set, List.length_cons, List.length_nil]
  refine ⟨fun h => ?_, fun h => ?_⟩
  · rw [drop_getD (show i < l.length by omega) (0, 0, ()), idxGo] at k2
    have key : ∀ b : Bool, (b = true ↔ x = l.getD i (0, 0, ())) → (b = true → (((i : Int), ()) : Int × Unit) = (idxOf (fun y => decide (x = y)) l, ())) ∧ (b = false → idxOf (fun y => decide (x = y)) l = idxGo (fun y => decide (x = y)) (l.drop (i + 1)) (i + 1)) := fun b hb => by
      refine ⟨fun c => ?_, fun c => ?_⟩
      · rw [k2, if_pos (decide_eq_true (hb.1 c))]
      · rw [k2, if_neg (fun h9 => by rw [hb.2 (of_decide_eq_true h9)] at c; cases c)]
    refine ⟨by omega, fun _ => ⟨fun c => ?_, fun c => ⟨by omega, fun _ => ih (i + 1) ⟨by omega, ?_⟩ (by omega)⟩⟩⟩
    · exact (key true ⟨fun _ => eqPairP.1 c, fun _ => rfl⟩).1 rfl
    · exact (key false ⟨fun h9 => (by cases h9), fun h9 => (eqPairN c h9).elim⟩).2 rfl
  · rw [List.drop_eq_nil_of_le (by omega)] at k2
    show (((-1 : Int), ()) : Int × Unit) = (idxOf (fun y => decide (x = y)) l, ())
    rw [k2]; rfl
def ccontPP : Ctr := { ps := [.v (.slc false PairT), .v PairT], rs := [.bool], pre := fun _ => True, fn := fun x => (decide ((show PairD from x.2.1) ∈ (show List (PairD) from x.1)), ()), out := fun _ => () }
noncomputable def EcontPP : Env := { P := Try.prog, tt := tt, ctr := [(56, cidxPP)], res := [Go.ResultVar.tmp 4], rs := [Ty.bool], ps := [PK.v (Ty.slc false PairT), PK.v PairT], cuts := [], nt := 9 }
theorem EcontPP_ok : EnvOk EcontPP := envOk tt_ok ⟨cidxPP_valid, trivial⟩
theorem FcontPP_ok : FnOk EcontPP Try.f18 := ⟨rfl, rfl⟩
theorem EcontPP_t (x0 : List (Int × Int × Unit)) (x1_1 : Int) (x1_2_1 : Int) : exec EcontPP 1000 [.code (bodyOf Try.prog 18)] (initSt ccontPP.ps ((x0, (x1_1, x1_2_1, ()), ()))) =
  .need (True) (.ret ((decide ((0 : Int) ≤ idxOf (fun y => decide ((x1_1, x1_2_1, ()) = y)) x0), ()))) := by kernel_rfl
theorem ccontPP_valid : ccontPP.Valid Try.prog 18 := by
  refine Ctr.valid_of EcontPP_ok rfl rfl Try.func18 (c := bodyOf Try.prog 18) rfl rfl FcontPP_ok rfl ?_
  rintro ⟨(l : List (PairD)), (x : PairD), ⟨⟩⟩ - -
  refine exec_sound (n := 1000) EcontPP_ok FcontPP_ok ?_
  refine holds_of_eq (EcontPP_t l x.1 x.2.1) ?_
  refine ⟨trivial, fun _ => ?_⟩
  show ((decide (0 ≤ idxOf (fun y => decide (x = y)) l), ()) : Bool × Unit) = (decide (x ∈ l), ())
  rw [idx_any]
  have : l.any (fun y => decide (x = y)) = true ↔ x ∈ l := by
    rw [List.any_eq_true]
    exact ⟨fun ⟨y, h1, h2⟩ => by rw [of_decide_eq_true h2]; exact h1, fun h => ⟨x, h, decide_eq_true rfl⟩⟩
  cases e : l.any (fun y => decide (x = y)) with
  | true => rw [decide_eq_true (this.1 e)]
  | false => rw [decide_eq_false (fun h => by rw [this.2 h] at e; cases e)]
/-- the nodes of some pairs, as words -/
structure MaskL (a b : Int) (Q : List PairD) : Prop where
  l : Mask a (fun x => ∃ q ∈ Q, q.1.toNat = x)
  r : Mask b (fun x => ∃ q ∈ Q, q.2.1.toNat = x)
theorem MaskL.nil : MaskL 0 0 [] := ⟨Mask.zero.congr (fun i => by simp), Mask.zero.congr (fun i => by simp)⟩
theorem MaskL.add {a b : Int} {Q : List PairD} (h : MaskL a b Q) {q : PairD} (h1 : q.1.toNat < 64) (h2 : q.2.1.toNat < 64) :
    MaskL (bOr .u64 a (IntKind.wrap .u64 (1 * 2 ^ min q.1.toNat (IntKind.bits .u64)))) (bOr .u64 b (IntKind.wrap .u64 (1 * 2 ^ min q.2.1.toNat (IntKind.bits .u64)))) (Q ++ [q]) := by
  refine ⟨(h.l.add h1).congr (fun i => ?_), (h.r.add h2).congr (fun i => ?_)⟩
  all_goals
    simp only [List.mem_append, List.mem_singleton]
    constructor
    · rintro (⟨p, hp, e⟩ | e)
      · exact ⟨p, .inl hp, e⟩
      · exact ⟨q, .inr rfl, e.symm⟩
    · rintro ⟨p, hp | rfl, e⟩
      · exact .inl ⟨p, hp, e⟩
      · exact .inr e.symm
theorem pair_take {P : List PairD} {R : PairD → PairD → Prop} (h : P.Pairwise R) {i : Nat} (hi : i < P.length) : ∀ p ∈ P.take i, R p (P.getD i (0, 0, ())) := by
  intro p hp
  rw [List.mem_take_iff_getElem] at hp
  obtain ⟨j, hj, rfl⟩ := hp
  rw [List.pairwise_iff_getElem] at h
  rw [List.getD_eq_getElem?_getD, List.getElem?_eq_getElem hi]
  exact h j i (by omega) hi (by omega)
theorem Match.nil (l : List PairD) : Match l [] := ⟨by simp, List.Pairwise.nil, List.Pairwise.nil⟩
theorem Match.add {l Q : List PairD} (h : Match l Q) {q : PairD} (hq : q ∈ l) (h1 : ∀ p ∈ Q, p.1 ≠ q.1) (h2 : ∀ p ∈ Q, p.2.1 ≠ q.2.1) : Match l (Q ++ [q]) := by
  refine ⟨fun p hp => ?_, List.pairwise_append.2 ⟨h.one, by simp, fun p hp r hr => ?_⟩, List.pairwise_append.2 ⟨h.two, by simp, fun p hp r hr => ?_⟩⟩
  · rcases List.mem_append.1 hp with h9 | h9
    · exact h.sub p h9
    · rw [List.mem_singleton] at h9; rw [h9]; exact hq
  · rw [List.mem_singleton] at hr; rw [hr]; exact h1 p hp
  · rw [List.mem_singleton] at hr; rw [hr]; exact h2 p hp
theorem mostR_len {m n : Int} {l : List PairD} : (mostR m n l).1.length ≤ 40 := by
  rw [mostR]
  split
  · simp
  · rename_i e
    have := (mcheck_ok (Decidable.not_not.1 e)).1.1
    have h := outP_len (left := (mostF m n l).2.1) m.toNat
    show (outP (mostF m n l).2.1 m.toNat).length ≤ 40
    omega
def cMatchMost : Ctr := { ps := [.v I64, .v I64, .v (.slc false PairT), .v (.slc false I64)], rs := [.bool], pre := fun _ => True, fn := fun _ => (true, ()), out := fun _ => () }
noncomputable def EMatchMost : Env := { P := Try.prog, tt := tt, ctr := [(16, cmostR), (17, cmcheck), (19, crest), (18, ccontPP)], res := [Go.ResultVar.tmp 8], rs := [Ty.bool], ps := [PK.v (Ty.int IntKind.i64), PK.v (Ty.int IntKind.i64), PK.v (Ty.slc false PairT), PK.v (Ty.slc false (Ty.int IntKind.i64))], cuts := [(9, [(2, none), (3, none), (11, some (Ty.slc true PairT)), (13, none), (14, none), (54, some (Ty.slc true PairT)), (55, none), (56, none)]), (18, [(2, none), (11, some (Ty.slc true PairT)), (13, none), (14, none), (17, none), (91, none), (92, none), (93, none)])], nt := 138 }
theorem EMatchMost_ok : EnvOk EMatchMost := envOk tt_ok ⟨cmostR_valid, cmcheck_valid, crest_valid, ccontPP_valid, trivial⟩
theorem FMatchMost_ok : FnOk EMatchMost Try.f4 := ⟨rfl, rfl⟩
theorem EMatchMost_t (x0 : Int) (x1 : Int) (x2 : List (Int × Int × Unit)) (x3 : List Int) : exec EMatchMost 1000 [.code (bodyOf Try.prog 4)] (initSt cMatchMost.ps ((x0, x1, x2, x3, ()))) =
  .need (True) (.need (True) (cond (decide (Prod.fst (Prod.snd (mostR x0 x1 x2)) ≠ (0 : Int))) (cond (decide ((↑(List.length (Prod.fst (mostR x0 x1 x2))) : Int) = (0 : Int))) (.need (True) (.ret ((decide (mcheck x0 x1 x2 = Prod.fst (Prod.snd (mostR x0 x1 x2))), ())))) (.ret ((false, ())))) (.cut (loopAt (bodyOf Try.prog 4) 9).1 (loopAt (bodyOf Try.prog 4) 9).2 (St.mk [(2, AV.val (Ty.slc false PairT) x2), (3, AV.val (Ty.slc false (Ty.int IntKind.i64)) x3), (11, AV.at_ 1000054 []), (13, AV.val (Ty.int IntKind.u64) (0 : Int)), (14, AV.val (Ty.int IntKind.u64) (0 : Int)), (54, AV.at_ 1000054 []), (55, AV.val (Ty.int IntKind.i64) (↑(List.length (Prod.fst (mostR x0 x1 x2))) : Int)), (56, AV.val (Ty.int IntKind.i64) (0 : Int))] [(1000054, Ent.own (Ty.slc true PairT) (Prod.fst (mostR x0 x1 x2)))])))) := by kernel_rfl
def EMatchMost_s9 (v2 : List (Int × Int × Unit)) (v3 : List Int) (v13 : Int) (v14 : Int) (v55 : Int) (v56 : Int) (o1000054 : List (Int × Int × Unit)) : St := St.mk [(2, AV.val (Ty.slc false PairT) v2), (3, AV.val (Ty.slc false (Ty.int IntKind.i64)) v3), (11, AV.at_ 1000054 []), (13, AV.val (Ty.int IntKind.u64) v13), (14, AV.val (Ty.int IntKind.u64) v14), (54, AV.at_ 1000054 []), (55, AV.val (Ty.int IntKind.i64) v55), (56, AV.val (Ty.int IntKind.i64) v56)] [(1000054, Ent.own (Ty.slc true PairT) o1000054)]
theorem EMatchMost_l9 (v2 : List (Int × Int × Unit)) (v3 : List Int) (v13 : Int) (v14 : Int) (v55 : Int) (v56 : Int) (o1000054 : List (Int × Int × Unit)) : exec EMatchMost 1000 (.code (loopAt (bodyOf Try.prog 4) 9).1 :: .inLoop (loopAt (bodyOf Try.prog 4) 9).1 :: (loopAt (bodyOf Try.prog 4) 9).2) (EMatchMost_s9 v2 v3 v13 v14 v55 v56 o1000054) =
  cond (decide (v56 < v55)) (.need ((0 : Int) ≤ v56 ∧ v56 < (↑(List.length o1000054) : Int)) (.need (True) (cond (!decide (List.getD o1000054 (Int.toNat v56) ((0 : Int), (0 : Int), ()) ∈ v2)) (.ret ((false, ()))) (.need ((0 : Int) ≤ Prod.fst (List.getD o1000054 (Int.toNat v56) ((0 : Int), (0 : Int), ()))) (cond (decide (bAnd IntKind.u64 (v13 / (2 : Int) ^ min (Int.toNat (Prod.fst (List.getD o1000054 (Int.toNat v56) ((0 : Int), (0 : Int), ())))) (IntKind.bits IntKind.u64)) (1 : Int) = (1 : Int))) (.ret ((false, ()))) (.need ((0 : Int) ≤ Prod.fst (Prod.snd (List.getD o1000054 (Int.toNat v56) ((0 : Int), (0 : Int), ())))) (cond (decide (bAnd IntKind.u64 (v14 / (2 : Int) ^ min (Int.toNat (Prod.fst (Prod.snd (List.getD o1000054 (Int.toNat v56) ((0 : Int), (0 : Int), ()))))) (IntKind.bits IntKind.u64)) (1 : Int) = (1 : Int))) (.ret ((false, ()))) (.need ((0 : Int) ≤ Prod.fst (List.getD o1000054 (Int.toNat v56) ((0 : Int), (0 : Int), ()))) (.need ((0 : Int) ≤ Prod.fst (Prod.snd (List.getD o1000054 (Int.toNat v56) ((0 : Int), (0 : Int), ())))) (.need (inK IntKind.i64 (v56 + (1 : Int))) (.cut (loopAt (bodyOf Try.prog 4) 9).1 (loopAt (bodyOf Try.prog 4) 9).2 (St.mk [(2, AV.val (Ty.slc false PairT) v2), (3, AV.val (Ty.slc false (Ty.int IntKind.i64)) v3), (11, AV.at_ 1000054 []), (13, AV.val (Ty.int IntKind.u64) (bOr IntKind.u64 v13 (IntKind.wrap IntKind.u64 ((1 : Int) * (2 : Int) ^ min (Int.toNat (Prod.fst (List.getD o1000054 (Int.toNat v56) ((0 : Int), (0 : Int), ())))) (IntKind.bits IntKind.u64))))), (14, AV.val (Ty.int IntKind.u64) (bOr IntKind.u64 v14 (IntKind.wrap IntKind.u64 ((1 : Int) * (2 : Int) ^ min (Int.toNat (Prod.fst (Prod.snd (List.getD o1000054 (Int.toNat v56) ((0 : Int), (0 : Int), ()))))) (IntKind.bits IntKind.u64))))), (54, AV.at_ 1000054 []), (55, AV.val (Ty.int IntKind.i64) v55), (56, AV.val (Ty.int IntKind.i64) (v56 + (1 : Int)))] [(1000054, Ent.own (Ty.slc true PairT) o1000054)])))))))))))) (.cut (loopAt (bodyOf Try.prog 4) 18).1 (loopAt (bodyOf Try.prog 4) 18).2 (St.mk [(2, AV.val (Ty.slc false PairT) v2), (11, AV.at_ 1000011 []), (13, AV.val (Ty.int IntKind.u64) (0 : Int)), (14, AV.val (Ty.int IntKind.u64) (0 : Int)), (17, AV.val (Ty.int IntKind.i64) (0 : Int)), (91, AV.val (Ty.slc false (Ty.int IntKind.i64)) v3), (92, AV.val (Ty.int IntKind.i64) (↑(List.length v3) : Int)), (93, AV.val (Ty.int IntKind.i64) (0 : Int))] [(1000011, Ent.own (Ty.slc true PairT) o1000054)])) := by kernel_rfl
def EMatchMost_s18 (v2 : List (Int × Int × Unit)) (v13 : Int) (v14 : Int) (v17 : Int) (v91 : List Int) (v92 : Int) (v93 : Int) (o1000011 : List (Int × Int × Unit)) : St := St.mk [(2, AV.val (Ty.slc false PairT) v2), (11, AV.at_ 1000011 []), (13, AV.val (Ty.int IntKind.u64) v13), (14, AV.val (Ty.int IntKind.u64) v14), (17, AV.val (Ty.int IntKind.i64) v17), (91, AV.val (Ty.slc false (Ty.int IntKind.i64)) v91), (92, AV.val (Ty.int IntKind.i64) v92), (93, AV.val (Ty.int IntKind.i64) v93)] [(1000011, Ent.own (Ty.slc true PairT) o1000011)]
theorem EMatchMost_l18 (v2 : List (Int × Int × Unit)) (v13 : Int) (v14 : Int) (v17 : Int) (v91 : List Int) (v92 : Int) (v93 : Int) (o1000011 : List (Int × Int × Unit)) : exec EMatchMost 1000 (.code (loopAt (bodyOf Try.prog 4) 18).1 :: .inLoop (loopAt (bodyOf Try.prog 4) 18).1 :: (loopAt (bodyOf Try.prog 4) 18).2) (EMatchMost_s18 v2 v13 v14 v17 v91 v92 v93 o1000011) =
  cond (decide (v93 < v92)) (.need ((0 : Int) ≤ v93 ∧ v93 < (↑(List.length v91) : Int)) (cond (decide ((↑(List.length v2) : Int) = (0 : Int))) (.ret ((decide (v17 ≤ (↑(List.length o1000011) : Int)), ()))) (.need ((↑(List.length v2) : Int) ≤ (1000000 : Int)) (.need ((0 : Int) ≤ rest (List.getD v91 (Int.toNat v93) (0 : Int)) (↑(List.length v2) : Int) ∧ rest (List.getD v91 (Int.toNat v93) (0 : Int)) (↑(List.length v2) : Int) < (↑(List.length v2) : Int)) (.need ((0 : Int) ≤ Prod.fst (List.getD v2 (Int.toNat (rest (List.getD v91 (Int.toNat v93) (0 : Int)) (↑(List.length v2) : Int))) ((0 : Int), (0 : Int), ()))) (cond (decide (bAnd IntKind.u64 (v13 / (2 : Int) ^ min (Int.toNat (Prod.fst (List.getD v2 (Int.toNat (rest (List.getD v91 (Int.toNat v93) (0 : Int)) (↑(List.length v2) : Int))) ((0 : Int), (0 : Int), ())))) (IntKind.bits IntKind.u64)) (1 : Int) = (0 : Int))) (.need ((0 : Int) ≤ Prod.fst (Prod.snd (List.getD v2 (Int.toNat (rest (List.getD v91 (Int.toNat v93) (0 : Int)) (↑(List.length v2) : Int))) ((0 : Int), (0 : Int), ())))) (cond (decide (bAnd IntKind.u64 (v14 / (2 : Int) ^ min (Int.toNat (Prod.fst (Prod.snd (List.getD v2 (Int.toNat (rest (List.getD v91 (Int.toNat v93) (0 : Int)) (↑(List.length v2) : Int))) ((0 : Int), (0 : Int), ()))))) (IntKind.bits IntKind.u64)) (1 : Int) = (0 : Int))) (.need ((0 : Int) ≤ Prod.fst (List.getD v2 (Int.toNat (rest (List.getD v91 (Int.toNat v93) (0 : Int)) (↑(List.length v2) : Int))) ((0 : Int), (0 : Int), ()))) (.need ((0 : Int) ≤ Prod.fst (Prod.snd (List.getD v2 (Int.toNat (rest (List.getD v91 (Int.toNat v93) (0 : Int)) (↑(List.length v2) : Int))) ((0 : Int), (0 : Int), ())))) (.need (inK IntKind.i64 (v17 + (1 : Int))) (.need (inK IntKind.i64 (v93 + (1 : Int))) (.cut (loopAt (bodyOf Try.prog 4) 18).1 (loopAt (bodyOf Try.prog 4) 18).2 (St.mk [(2, AV.val (Ty.slc false PairT) v2), (11, AV.at_ 1000011 []), (13, AV.val (Ty.int IntKind.u64) (bOr IntKind.u64 v13 (IntKind.wrap IntKind.u64 ((1 : Int) * (2 : Int) ^ min (Int.toNat (Prod.fst (List.getD v2 (Int.toNat (rest (List.getD v91 (Int.toNat v93) (0 : Int)) (↑(List.length v2) : Int))) ((0 : Int), (0 : Int), ())))) (IntKind.bits IntKind.u64))))), (14, AV.val (Ty.int IntKind.u64) (bOr IntKind.u64 v14 (IntKind.wrap IntKind.u64 ((1 : Int) * (2 : Int) ^ min (Int.toNat (Prod.fst (Prod.snd (List.getD v2 (Int.toNat (rest (List.getD v91 (Int.toNat v93) (0 : Int)) (↑(List.length v2) : Int))) ((0 : Int), (0 : Int), ()))))) (IntKind.bits IntKind.u64))))), (17, AV.val (Ty.int IntKind.i64) (v17 + (1 : Int))), (91, AV.val (Ty.slc false (Ty.int IntKind.i64)) v91), (92, AV.val (Ty.int IntKind.i64) v92), (93, AV.val (Ty.int IntKind.i64) (v93 + (1 : Int)))] [(1000011, Ent.own (Ty.slc true PairT) o1000011)])))))) (.need (inK IntKind.i64 (v93 + (1 : Int))) (.cut (loopAt (bodyOf Try.prog 4) 18).1 (loopAt (bodyOf Try.prog 4) 18).2 (St.mk [(2, AV.val (Ty.slc false PairT) v2), (11, AV.at_ 1000011 []), (13, AV.val (Ty.int IntKind.u64) v13), (14, AV.val (Ty.int IntKind.u64) v14), (17, AV.val (Ty.int IntKind.i64) v17), (91, AV.val (Ty.slc false (Ty.int IntKind.i64)) v91), (92, AV.val (Ty.int IntKind.i64) v92), (93, AV.val (Ty.int IntKind.i64) (v93 + (1 : Int)))] [(1000011, Ent.own (Ty.slc true PairT) o1000011)]))))) (.need (inK IntKind.i64 (v93 + (1 : Int))) (.cut (loopAt (bodyOf Try.prog 4) 18).1 (loopAt (bodyOf Try.prog 4) 18).2 (St.mk [(2, AV.val (Ty.slc false PairT) v2), (11, AV.at_ 1000011 []), (13, AV.val (Ty.int IntKind.u64) v13), (14, AV.val (Ty.int IntKind.u64) v14), (17, AV.val (Ty.int IntKind.i64) v17), (91, AV.val (Ty.slc false (Ty.int IntKind.i64)) v91), (92, AV.val (Ty.int IntKind.i64) v92), (93, AV.val (Ty.int IntKind.i64) (v93 + (1 : Int)))] [(1000011, Ent.own (Ty.slc true PairT) o1000011)]))))))))) (.ret ((decide (v17 ≤ (↑(List.length o1000011) : Int)), ()))) := by kernel_rfl
theorem cMatchMost_valid : cMatchMost.Valid Try.prog 4 := by
  refine Ctr.valid_of EMatchMost_ok rfl rfl Try.func4 (c := bodyOf Try.prog 4) rfl rfl FMatchMost_ok rfl ?_
  rintro ⟨(m : Int), (n : Int), (l : List PairD), (pk : List Int), ⟨⟩⟩ - ⟨-, -, -, ⟨hpk, -⟩, -⟩
  have hpk : pk.length ≤ 9223372036854775807 := hpk
  refine exec_sound (n := 1000) EMatchMost_ok FMatchMost_ok ?_
  refine holds_of_eq (EMatchMost_t m n l pk) ?_
  have hz := mostR_err (m := m) (n := n) (l := l)
  have ht := mostR_match (m := m) (n := n) (l := l)
  have hln := mostR_len (m := m) (n := n) (l := l)
  simp only [holds_cond, Tree.holds, true_and, true_implies, decide_eq_true_eq, decide_eq_false_iff_not, Bool.not_eq_true', Bool.not_eq_false', Int.toNat_natCast, inK_i64, List.length_set, List.length_cons, List.length_nil]
  generalize mostR m n l = A at *
  refine ⟨fun e => ?_, fun e => ?_⟩
  · obtain ⟨e1, e2⟩ := hz e
    refine ⟨fun _ => yesd e2.symm, fun c => absurd (by rw [e1]; rfl) c⟩
  obtain ⟨hin, hl, hM, hopt⟩ := ht (Decidable.not_not.1 e)
  obtain ⟨P, er, ⟨⟩⟩ := A
  have hM : Match l P := hM
  have hopt : ∀ Q, Match l Q → Q.length ≤ P.length := hopt
  have hln : P.length ≤ 40 := hln
  have hrg : ∀ q ∈ l, (0 ≤ q.1 ∧ q.1 < 40) ∧ (0 ≤ q.2.1 ∧ q.2.1 < 40) := fun q hq => by
    have := hin.2.2 q hq
    have := hin.1
    have := hin.2.1
    omega
  have second : Go.Ex.Reach EMatchMost Try.f4 (true, ()) () (.code (loopAt (bodyOf Try.prog 4) 18).1 :: .inLoop (loopAt (bodyOf Try.prog 4) 18).1 :: (loopAt (bodyOf Try.prog 4) 18).2) (EMatchMost_s18 l ((0 : Int)) ((0 : Int)) ((0 : Nat) : Int) pk (pk.length : Int) ((0 : Nat) : Int) P) := by
    refine Reach.loopI EMatchMost_ok FMatchMost_ok (fun s : Nat × List PairD × Int × Int => EMatchMost_s18 l s.2.2.1 s.2.2.2 (s.2.1.length : Int) pk (pk.length : Int) (s.1 : Int) P) (fun s => s.1 ≤ pk.length ∧ Match l s.2.1 ∧ MaskL s.2.2.1 s.2.2.2 s.2.1) (fun s => pk.length - s.1) 1000 (fun _ => ⟨uniq_of rfl, uniq_of rfl⟩) ?_ (0, [], 0, 0) ⟨by omega, Match.nil l, MaskL.nil⟩
    rintro ⟨j, Q, a, b⟩ ⟨k1, k2, k3⟩ - ih
    have k1 : j ≤ pk.length := k1
    have k2 : Match l Q := k2
    have k3 : MaskL a b Q := k3
    have hQ := hopt Q k2
    refine holds_of_eq (EMatchMost_l18 ..) ?_
    simp only [holds_cond, Tree.holds, true_and, true_implies, decide_eq_true_eq, decide_eq_false_iff_not, Bool.not_eq_true', Bool.not_eq_false', Int.toNat_natCast, inK_i64, List.length_set, List.length_cons, List.length_nil]
    refine ⟨fun c => ⟨by omega, fun _ => ⟨fun d => yesd (by omega), fun d => ⟨by omega, fun _ => ?_⟩⟩⟩, fun c => yesd (by omega)⟩
    have hr := rest_in (a := pk.getD j 0) (n := (l.length : Int)) (by omega)
    generalize rest (pk.getD j 0) (l.length : Int) = t at *
    refine ⟨by omega, fun _ => ?_⟩
    have hq : l.getD t.toNat (0, 0, ()) ∈ l := getD_mem (by omega)
    generalize l.getD t.toNat (0, 0, ()) = q at *
    have hqr := hrg q hq
    have t1 := k3.l.test (k := q.1.toNat) (by omega)
    have t2 := k3.r.test (k := q.2.1.toNat) (by omega)
    have skip := ih (j + 1, Q, a, b) ⟨by show j + 1 ≤ _; omega, k2, k3⟩ (by show _ - (j + 1) < _ - j; omega)
    refine ⟨by omega, fun _ => ⟨fun c1 => ⟨by omega, fun _ => ⟨fun c2 => ⟨by omega, fun _ => ⟨by omega, fun _ => ⟨by omega, fun _ => ⟨by omega, fun _ => ?_⟩⟩⟩⟩, fun c2 => ⟨by omega, fun _ => skip⟩⟩⟩, fun c1 => ⟨by omega, fun _ => skip⟩⟩⟩
    have n1 : ∀ p ∈ Q, p.1 ≠ q.1 := fun p hp e9 => by
      have := t1.1 ⟨p, hp, by rw [e9]⟩
      rw [c1] at this; cases this
    have n2 : ∀ p ∈ Q, p.2.1 ≠ q.2.1 := fun p hp e9 => by
      have := t2.1 ⟨p, hp, by rw [e9]⟩
      rw [c2] at this; cases this
    have next := ih (j + 1, Q ++ [q], _, _) ⟨by show j + 1 ≤ _; omega, k2.add hq n1 n2, k3.add (by omega) (by omega)⟩ (by show _ - (j + 1) < _ - j; omega)
    have hlen : (((Q ++ [q]).length : Nat) : Int) = (Q.length : Int) + 1 := by rw [List.length_append, List.length_singleton]; omega
    dsimp only at next
    rw [hlen] at next
    exact next
  refine Reach.loopI EMatchMost_ok FMatchMost_ok (fun s : Nat × Int × Int => EMatchMost_s9 l pk s.2.1 s.2.2 (P.length : Int) (s.1 : Int) P) (fun s => s.1 ≤ P.length ∧ MaskL s.2.1 s.2.2 (P.take s.1)) (fun s => P.length - s.1) 1000 (fun _ => ⟨uniq_of rfl, uniq_of rfl⟩) ?_ (0, 0, 0) ⟨by omega, MaskL.nil⟩
  rintro ⟨i, a, b⟩ ⟨k1, k2⟩ - ih
  have k1 : i ≤ P.length := k1
  have k2 : MaskL a b (P.take i) := k2
  refine holds_of_eq (EMatchMost_l9 ..) ?_
  simp only [holds_cond, Tree.holds, true_and, true_implies, decide_eq_true_eq, decide_eq_false_iff_not, Bool.not_eq_true', Bool.not_eq_false', Int.toNat_natCast, inK_i64, List.length_set, List.length_cons, List.length_nil]
  refine ⟨fun c => ⟨by omega, fun _ => ?_⟩, fun c => second⟩
  have hi : i < P.length := by omega
  have o1 := pair_take hM.one hi
  have o2 := pair_take hM.two hi
  have hq := hM.sub _ (getD_mem (d := (0, 0, ())) hi)
  have hs := take_s hi (0, 0, ())
  generalize P.getD i (0, 0, ()) = q at *
  have hqr := hrg q hq
  have t1 := (k2.l.test (k := q.1.toNat) (by omega)).2 (by
    rintro ⟨p, hp, e9⟩
    have := hrg p (hM.sub p (List.mem_of_mem_take hp))
    exact o1 p hp (by omega))
  have t2 := (k2.r.test (k := q.2.1.toNat) (by omega)).2 (by
    rintro ⟨p, hp, e9⟩
    have := hrg p (hM.sub p (List.mem_of_mem_take hp))
    exact o2 p hp (by omega))
  have next := ih (i + 1, _, _) ⟨by show i + 1 ≤ _; omega, by show MaskL _ _ (P.take (i + 1)); rw [hs]; exact k2.add (q := q) (by omega) (by omega)⟩ (by show _ - (i + 1) < _ - i; omega)
  refine ⟨fun c1 => absurd hq c1, fun _ => ⟨by omega, fun _ => ⟨fun c1 => (by rw [t1] at c1; cases c1), fun _ => ⟨by omega, fun _ => ⟨fun c2 => (by rw [t2] at c2; cases c2), fun _ => ⟨by omega, fun _ => ⟨by omega, fun _ => ⟨by omega, fun _ => next⟩⟩⟩⟩⟩⟩⟩⟩
end Go.Proofs.Ytehmefjnkbjiiaa
