/- What three processes agree on: the small functions' contracts. No condition but those named. -/
import Derived.Test.YtdhdpklmipkneaaSkB
namespace Go.Proofs.Ytdhdpklmipkneaa
open Go.Ex Go.Sort
set_option maxRecDepth 100000
def maxS (m x : NumD) : NumD := if 0 < ncmp x m then x else m
def maxL : List NumD → NumD
  | [] => noN
  | x :: l => l.foldl maxS x
def cmaxN : Ctr := { ps := [.v (.slc false Num), .clo 89 []], rs := [Num], pre := fun x => LT.lt (α := Nat) 0 (List.length (α := NumD) x.1), fn := fun x => (maxL x.1, ()), out := fun _ => () }
noncomputable def EmaxN : Env := { P := Try.prog, tt := tt, ctr := [(89, cncmp)], res := [Go.ResultVar.cell 4 56], rs := [Ty.pair (Ty.int IntKind.i64) (Ty.pair (Ty.int IntKind.i64) Ty.unit)], ps := [PK.v (Ty.slc false PairT), PK.clo 89 []], cuts := [(5, [(0, none), (1, none), (4, none), (5, none), (6, none)])], nt := 33 }
theorem EmaxN_ok : EnvOk EmaxN := envOk tt_ok ⟨cncmp_valid, trivial⟩
theorem FmaxN_ok : FnOk EmaxN Try.f152 := ⟨rfl, rfl⟩
theorem EmaxN_t (x0 : List (Int × Int × Unit)) : exec EmaxN 1000 [.code (bodyOf Try.prog 152)] (initSt cmaxN.ps ((x0, (), ()))) =
  cond (decide ((↑(List.length x0) : Int) < (1 : Int))) (.stuck "op") (.need ((0 : Int) ≤ (0 : Int) ∧ (0 : Int) < (↑(List.length x0) : Int)) (.cut (loopAt (bodyOf Try.prog 152) 5).1 (loopAt (bodyOf Try.prog 152) 5).2 (St.mk [(0, AV.val (Ty.slc false PairT) x0), (1, AV.clo 89 AV.nil), (4, AV.ptr 4 []), (5, AV.ptr 5 []), (6, AV.val (Ty.int IntKind.i64) (1 : Int))] [(4, Ent.var PairT ((0 : Int), (0 : Int), ())), (5, Ent.var PairT (List.getD x0 (Int.toNat (0 : Int)) ((0 : Int), (0 : Int), ())))]))) := by kernel_rfl
def EmaxN_s5 (v0 : List (Int × Int × Unit)) (v6 : Int) (o4_1 : Int) (o4_2_1 : Int) (o5_1 : Int) (o5_2_1 : Int) : St := St.mk [(0, AV.val (Ty.slc false PairT) v0), (1, AV.clo 89 AV.nil), (4, AV.ptr 4 []), (5, AV.ptr 5 []), (6, AV.val (Ty.int IntKind.i64) v6)] [(4, Ent.var PairT (o4_1, o4_2_1, ())), (5, Ent.var PairT (o5_1, o5_2_1, ()))]
theorem EmaxN_l5 (v0 : List (Int × Int × Unit)) (v6 : Int) (o4_1 : Int) (o4_2_1 : Int) (o5_1 : Int) (o5_2_1 : Int) : exec EmaxN 1000 (.code (loopAt (bodyOf Try.prog 152) 5).1 :: .inLoop (loopAt (bodyOf Try.prog 152) 5).1 :: (loopAt (bodyOf Try.prog 152) 5).2) (EmaxN_s5 v0 v6 o4_1 o4_2_1 o5_1 o5_2_1) =
  cond (decide (v6 < (↑(List.length v0) : Int))) (.need ((0 : Int) ≤ v6 ∧ v6 < (↑(List.length v0) : Int)) (.need (True) (cond (decide ((0 : Int) < ncmp (List.getD v0 (Int.toNat v6) ((0 : Int), (0 : Int), ())) (o5_1, o5_2_1, ()))) (.need ((0 : Int) ≤ v6 ∧ v6 < (↑(List.length v0) : Int)) (.need (inK IntKind.i64 (v6 + (1 : Int))) (.cut (loopAt (bodyOf Try.prog 152) 5).1 (loopAt (bodyOf Try.prog 152) 5).2 (St.mk [(0, AV.val (Ty.slc false PairT) v0), (1, AV.clo 89 AV.nil), (4, AV.ptr 4 []), (5, AV.ptr 5 []), (6, AV.val (Ty.int IntKind.i64) (v6 + (1 : Int)))] [(4, Ent.var PairT (o4_1, o4_2_1, ())), (5, Ent.var PairT (List.getD v0 (Int.toNat v6) ((0 : Int), (0 : Int), ())))])))) (.need (inK IntKind.i64 (v6 + (1 : Int))) (.cut (loopAt (bodyOf Try.prog 152) 5).1 (loopAt (bodyOf Try.prog 152) 5).2 (St.mk [(0, AV.val (Ty.slc false PairT) v0), (1, AV.clo 89 AV.nil), (4, AV.ptr 4 []), (5, AV.ptr 5 []), (6, AV.val (Ty.int IntKind.i64) (v6 + (1 : Int)))] [(4, Ent.var PairT (o4_1, o4_2_1, ())), (5, Ent.var PairT (o5_1, o5_2_1, ()))])))))) (.ret (((o5_1, o5_2_1, ()), ()))) := by kernel_rfl
theorem maxL_take {l : List NumD} {i : Nat} (h1 : 1 ≤ i) (h2 : i < l.length) : maxL (l.take (i + 1)) = maxS (maxL (l.take i)) (l.getD i (0, 0, ())) := by
  cases l with
  | nil => simp at h2
  | cons x l =>
    obtain ⟨i, rfl⟩ : ∃ j, i = j + 1 := ⟨i - 1, by omega⟩
    have h2 : i < l.length := by simpa using h2
    show (l.take (i + 1)).foldl maxS x = maxS ((l.take i).foldl maxS x) (l.getD i (0, 0, ()))
    rw [List.take_add_one, List.foldl_append, List.getD_eq_getElem?_getD, List.getElem?_eq_getElem h2]
    rfl
theorem cmaxN_valid : cmaxN.Valid Try.prog 152 := by
  refine Ctr.valid_of EmaxN_ok rfl rfl Try.func152 (c := bodyOf Try.prog 152) rfl rfl FmaxN_ok rfl ?_
  rintro ⟨(l : List NumD), ⟨⟩⟩ (h0 : 0 < l.length) ⟨⟨hl, -⟩, -⟩
  have hl : l.length ≤ 9223372036854775807 := hl
  refine exec_sound (n := 1000) EmaxN_ok FmaxN_ok ?_
  refine holds_of_eq (EmaxN_t l) ?_
  simp only [holds_cond, Tree.holds, true_and, true_implies, decide_eq_true_eq, decide_eq_false_iff_not, Bool.not_eq_true', Bool.not_eq_false', Int.toNat_natCast, inK_i64, List.length_set, List.length_cons, List.length_nil]
  refine ⟨fun h => absurd h (by omega), fun _ => ⟨⟨by omega, by omega⟩, fun _ => ?_⟩⟩
  have e1 : maxL (l.take 1) = l.getD 0 (0, 0, ()) := by cases l with | nil => simp at h0 | cons x l => rfl
  have st : ∀ i : Nat, 1 ≤ i → i ≤ l.length → Ex.Reach EmaxN Try.f152 (maxL l, ()) () (Item.code (loopAt (bodyOf Try.prog 152) 5).1 :: Item.inLoop (loopAt (bodyOf Try.prog 152) 5).1 :: (loopAt (bodyOf Try.prog 152) 5).2) (EmaxN_s5 l (i : Int) 0 0 (maxL (l.take i)).1 (maxL (l.take i)).2.1) := by
    intro i h1 h2
    refine Reach.loopI EmaxN_ok FmaxN_ok (fun i : Nat => EmaxN_s5 l (i : Int) 0 0 (maxL (l.take i)).1 (maxL (l.take i)).2.1) (fun i => 1 ≤ i ∧ i ≤ l.length) (fun i => l.length - i) 1000 (fun _ => ⟨uniq_of rfl, uniq_of rfl⟩) ?_ i ⟨h1, h2⟩
    rintro i ⟨k1, k2⟩ - ih
    refine holds_of_eq (EmaxN_l5 ..) ?_
    simp only [holds_cond, Tree.holds, true_and, true_implies, decide_eq_true_eq, decide_eq_false_iff_not, Bool.not_eq_true', Bool.not_eq_false', Int.toNat_natCast, inK_i64, List.length_set, List.length_cons, List.length_nil]
    refine ⟨fun c => ⟨⟨by omega, c⟩, fun _ => ?_⟩, fun c => ?_⟩
    · have hi : i < l.length := by omega
      have next := ih (i + 1) ⟨by omega, hi⟩ (by omega)
      rw [maxL_take k1 hi] at next
      refine ⟨fun g => ⟨⟨by omega, c⟩, fun _ => ⟨by omega, fun _ => ?_⟩⟩, fun g => ⟨by omega, fun _ => ?_⟩⟩
      · rw [maxS, if_pos g] at next
        exact next
      · rw [maxS, if_neg g] at next
        exact next
    · obtain rfl : i = l.length := by omega
      rw [List.take_length]
      rfl
  have := st 1 (Nat.le_refl 1) h0
  rw [e1] at this
  exact this
def mostF (l : List NumD) : NumD × Int × Unit := if l.length = 0 then (noN, 6, ()) else (maxL l, 0, ())
def cmost : Ctr := { ps := [.v (.slc false Num)], rs := [Num, I64], pre := fun _ => True, fn := fun x => mostF x.1, out := fun _ => () }
noncomputable def Emost : Env := { P := Try.prog, tt := tt, ctr := [(152, cmaxN)], res := [Go.ResultVar.cell 2 56, Go.ResultVar.tmp 3], rs := [Ty.pair (Ty.int IntKind.i64) (Ty.pair (Ty.int IntKind.i64) Ty.unit), Ty.int IntKind.i64], ps := [PK.v (Ty.slc false PairT)], cuts := [], nt := 10 }
theorem Emost_ok : EnvOk Emost := envOk tt_ok ⟨cmaxN_valid, trivial⟩
theorem Fmost_ok : FnOk Emost Try.f101 := ⟨rfl, rfl⟩
theorem Emost_t (x0 : List (Int × Int × Unit)) : exec Emost 1000 [.code (bodyOf Try.prog 101)] (initSt cmost.ps ((x0, ()))) =
  cond (decide ((↑(List.length x0) : Int) = (0 : Int))) (.ret ((((0 : Int), (0 : Int), ()), (6 : Int), ()))) (.need (0 < List.length x0) (.ret ((maxL x0, (0 : Int), ())))) := by kernel_rfl
theorem cmost_valid : cmost.Valid Try.prog 101 := by
  refine Ctr.valid_of Emost_ok rfl rfl Try.func101 (c := bodyOf Try.prog 101) rfl rfl Fmost_ok rfl ?_
  rintro ⟨(l : List NumD), ⟨⟩⟩ - -
  refine exec_sound (n := 1000) Emost_ok Fmost_ok ?_
  refine holds_of_eq (Emost_t l) ?_
  simp only [holds_cond, Tree.holds, true_and, true_implies, decide_eq_true_eq, decide_eq_false_iff_not, Bool.not_eq_true', Bool.not_eq_false', Int.toNat_natCast, inK_i64, List.length_set, List.length_cons, List.length_nil]
  refine ⟨fun c => ?_, fun c => ⟨by omega, fun _ => ?_⟩⟩
  · show ((noN, 6, ()) : NumD × Int × Unit) = mostF l
    rw [mostF, if_pos (by omega)]
  · show ((maxL l, 0, ()) : NumD × Int × Unit) = mostF l
    rw [mostF, if_neg (by omega)]
def byIs (p : Int) (k : NumD) : Bool := decide (k.2.1 = p)
def cagr1 : Ctr := { ps := [.v Num, .rd I64], rs := [.bool], pre := fun _ => True, fn := fun x => (byIs x.2.1 x.1, ()), out := fun _ => () }
noncomputable def Eagr1 : Env := { P := Try.prog, tt := tt, ctr := [], res := [Go.ResultVar.tmp 3], rs := [Ty.bool], ps := [PK.v PairT, PK.rd (Ty.int IntKind.i64)], cuts := [], nt := 8 }
theorem Eagr1_ok : EnvOk Eagr1 := envOk tt_ok trivial
theorem Fagr1_ok : FnOk Eagr1 Try.f100 := ⟨rfl, rfl⟩
theorem Eagr1_t (x0_1 : Int) (x0_2_1 : Int) (x1 : Int) : exec Eagr1 1000 [.code (bodyOf Try.prog 100)] (initSt cagr1.ps (((x0_1, x0_2_1, ()), x1, ()))) =
  .ret ((decide (x0_2_1 = x1), ())) := by kernel_rfl
theorem cagr1_valid : cagr1.Valid Try.prog 100 := by
  refine Ctr.valid_of Eagr1_ok rfl rfl Try.func100 (c := bodyOf Try.prog 100) rfl rfl Fagr1_ok rfl ?_
  rintro ⟨⟨(a : Int), (b : Int), ⟨⟩⟩, (p : Int), ⟨⟩⟩ - -
  refine exec_sound (n := 1000) Eagr1_ok Fagr1_ok ?_
  refine holds_of_eq (Eagr1_t a b p) ?_
  rfl
abbrev TalkD : Type := Int × Int × Unit
def three (i : Nat) : List TalkD := [((i : Int), 0, ()), ((i : Int), 1, ()), ((i : Int), 2, ())]
def callOf : Ctr := { ps := [.v I64], rs := [.slc true PairT], pre := fun x => LE.le (α := Int) 0 x.1 ∧ LE.le (α := Int) x.1 8, fn := fun x => ((List.range (Int.toNat x.1)).flatMap three, ()), out := fun _ => () }
noncomputable def EallOf : Env := { P := Try.prog, tt := tt, ctr := [], res := [Go.ResultVar.tmp 2], rs := [Ty.slc true PairT], ps := [PK.v (Ty.int IntKind.i64)], cuts := [(3, [(3, some (Ty.slc true PairT)), (6, none), (7, none)]), (6, [(3, some (Ty.slc true PairT)), (4, none), (6, none), (7, none), (10, none)])], nt := 22 }
theorem EallOf_ok : EnvOk EallOf := envOk tt_ok trivial
theorem FallOf_ok : FnOk EallOf Try.f44 := ⟨rfl, rfl⟩
theorem EallOf_t (x0 : Int) : exec EallOf 1000 [.code (bodyOf Try.prog 44)] (initSt callOf.ps ((x0, ()))) =
  .cut (loopAt (bodyOf Try.prog 44) 3).1 (loopAt (bodyOf Try.prog 44) 3).2 (St.mk [(3, AV.at_ 1000003 []), (6, AV.val (Ty.int IntKind.i64) x0), (7, AV.val (Ty.int IntKind.i64) (0 : Int))] [(1000003, Ent.own (Ty.slc true PairT) [])]) := by kernel_rfl
def EallOf_s3 (v6 : Int) (v7 : Int) (o1000003 : List (Int × Int × Unit)) : St := St.mk [(3, AV.at_ 1000003 []), (6, AV.val (Ty.int IntKind.i64) v6), (7, AV.val (Ty.int IntKind.i64) v7)] [(1000003, Ent.own (Ty.slc true PairT) o1000003)]
theorem EallOf_l3 (v6 : Int) (v7 : Int) (o1000003 : List (Int × Int × Unit)) : exec EallOf 1000 (.code (loopAt (bodyOf Try.prog 44) 3).1 :: .inLoop (loopAt (bodyOf Try.prog 44) 3).1 :: (loopAt (bodyOf Try.prog 44) 3).2) (EallOf_s3 v6 v7 o1000003) =
  cond (decide (v7 < v6)) (.cut (loopAt (bodyOf Try.prog 44) 6).1 (loopAt (bodyOf Try.prog 44) 6).2 (St.mk [(3, AV.at_ 1000003 []), (4, AV.val (Ty.int IntKind.i64) v7), (6, AV.val (Ty.int IntKind.i64) v6), (7, AV.val (Ty.int IntKind.i64) v7), (10, AV.val (Ty.int IntKind.i64) (0 : Int))] [(1000003, Ent.own (Ty.slc true PairT) o1000003)])) (.ret ((o1000003, ()))) := by kernel_rfl
def EallOf_s6 (v4 : Int) (v6 : Int) (v7 : Int) (v10 : Int) (o1000003 : List (Int × Int × Unit)) : St := St.mk [(3, AV.at_ 1000003 []), (4, AV.val (Ty.int IntKind.i64) v4), (6, AV.val (Ty.int IntKind.i64) v6), (7, AV.val (Ty.int IntKind.i64) v7), (10, AV.val (Ty.int IntKind.i64) v10)] [(1000003, Ent.own (Ty.slc true PairT) o1000003)]
theorem EallOf_l6 (v4 : Int) (v6 : Int) (v7 : Int) (v10 : Int) (o1000003 : List (Int × Int × Unit)) : exec EallOf 1000 (.code (loopAt (bodyOf Try.prog 44) 6).1 :: .inLoop (loopAt (bodyOf Try.prog 44) 6).1 :: (loopAt (bodyOf Try.prog 44) 6).2) (EallOf_s6 v4 v6 v7 v10 o1000003) =
  cond (decide (v10 < (3 : Int))) (.need (List.length o1000003 + List.length (List.set [((0 : Int), (0 : Int), ())] (Int.toNat (↑0 : Int)) (v4, v10, ())) ≤ 140737488355328 ∧ (List.length o1000003 + List.length (List.set [((0 : Int), (0 : Int), ())] (Int.toNat (↑0 : Int)) (v4, v10, ()))) * Ty.wb PairT ≤ 140737488355328) (.need (inK IntKind.i64 (v10 + (1 : Int))) (.cut (loopAt (bodyOf Try.prog 44) 6).1 (loopAt (bodyOf Try.prog 44) 6).2 (St.mk [(3, AV.at_ 1000003 []), (4, AV.val (Ty.int IntKind.i64) v4), (6, AV.val (Ty.int IntKind.i64) v6), (7, AV.val (Ty.int IntKind.i64) v7), (10, AV.val (Ty.int IntKind.i64) (v10 + (1 : Int)))] [(1000003, Ent.own (Ty.slc true PairT) (o1000003 ++ List.set [((0 : Int), (0 : Int), ())] (Int.toNat (↑0 : Int)) (v4, v10, ())))])))) (.need (inK IntKind.i64 (v7 + (1 : Int))) (.cut (loopAt (bodyOf Try.prog 44) 3).1 (loopAt (bodyOf Try.prog 44) 3).2 (St.mk [(3, AV.at_ 1000003 []), (6, AV.val (Ty.int IntKind.i64) v6), (7, AV.val (Ty.int IntKind.i64) (v7 + (1 : Int)))] [(1000003, Ent.own (Ty.slc true PairT) o1000003)]))) := by kernel_rfl
theorem wb_talk : Ty.wb ((Ty.int IntKind.i64).pair ((Ty.int IntKind.i64).pair Ty.unit)) = 16 := rfl
theorem three_len (i : Nat) : ((List.range i).flatMap three).length = 3 * i := by
  induction i with
  | zero => rfl
  | succ i ih => rw [List.range_succ, List.flatMap_append, List.length_append, ih]; simp [three]; omega
theorem callOf_valid : callOf.Valid Try.prog 44 := by
  refine Ctr.valid_of EallOf_ok rfl rfl Try.func44 (c := bodyOf Try.prog 44) rfl rfl FallOf_ok rfl ?_
  rintro ⟨(n : Int), ⟨⟩⟩ ⟨(h0 : 0 ≤ n), (h8 : n ≤ 8)⟩ -
  obtain ⟨n, rfl⟩ := Int.eq_ofNat_of_zero_le h0
  refine exec_sound (n := 1000) EallOf_ok FallOf_ok ?_
  refine holds_of_eq (EallOf_t (n : Int)) ?_
  refine Reach.loopI EallOf_ok FallOf_ok (fun i : Nat => EallOf_s3 (n : Int) (i : Int) ((List.range i).flatMap three)) (fun i => i ≤ n) (fun i => n - i) 1000 (fun _ => ⟨uniq_of rfl, uniq_of rfl⟩) ?_ 0 (Nat.zero_le _)
  rintro i k1 - ih
  have k1 : i ≤ n := k1
  refine holds_of_eq (EallOf_l3 ..) ?_
  simp only [holds_cond, Tree.holds, true_and, true_implies, decide_eq_true_eq, decide_eq_false_iff_not, Bool.not_eq_true', Bool.not_eq_false', Int.toNat_natCast, inK_i64, List.length_set, List.length_cons, List.length_nil]
  refine ⟨fun c => ?_, fun c => ?_⟩
  · have hi : i < n := by omega
    have next := ih (i + 1) hi (by omega)
    rw [List.range_succ, List.flatMap_append] at next
    rw [← List.append_nil (List.flatMap three (List.range i))]
    refine Reach.loopI EallOf_ok FallOf_ok (fun j : Nat => EallOf_s6 (i : Int) (n : Int) (i : Int) (j : Int) ((List.range i).flatMap three ++ (three i).take j)) (fun j => j ≤ 3) (fun j => 3 - j) 1000 (fun _ => ⟨uniq_of rfl, uniq_of rfl⟩) ?_ 0 (Nat.zero_le _)
    rintro j m1 - ih2
    have m1 : j ≤ 3 := m1
    have hl : ((List.range i).flatMap three ++ (three i).take j).length ≤ 27 := by
      rw [List.length_append, three_len, List.length_take]; simp [three]; omega
    refine holds_of_eq (EallOf_l6 ..) ?_
    simp only [holds_cond, Tree.holds, true_and, true_implies, decide_eq_true_eq, decide_eq_false_iff_not, Bool.not_eq_true', Bool.not_eq_false', Int.toNat_natCast, inK_i64, List.length_set, List.length_cons, List.length_nil]
    rw [wb_talk]
    refine ⟨fun c2 => ⟨by omega, fun _ => ⟨by omega, fun _ => ?_⟩⟩, fun c2 => ⟨by omega, fun _ => ?_⟩⟩
    · have hj : j < 3 := by omega
      have next2 := ih2 (j + 1) hj (by omega)
      rw [List.take_add_one] at next2
      have : (three i)[j]?.toList = [((i : Int), (j : Int), ())] := by
        match j, hj with
        | 0, _ => rfl
        | 1, _ => rfl
        | 2, _ => rfl
      rw [this, ← List.append_assoc] at next2
      exact next2
    · obtain rfl : j = 3 := by omega
      have : [i].flatMap three = (three i).take 3 := by simp [three]
      rw [this] at next
      exact next
  · obtain rfl : i = n := by omega
    rfl
def cidxN8 : Ctr := { ps := [.v (.slc false Num), .clo 100 [I64]], rs := [I64], pre := fun x => True, fn := fun x => (idxOf (byIs x.2.1.1) x.1, ()), out := fun _ => () }
noncomputable def EidxN8 : Env := { P := Try.prog, tt := tt, ctr := [(100, cagr1)], res := [Go.ResultVar.tmp 4], rs := [Ty.int IntKind.i64], ps := [PK.v (Ty.slc false PairT), PK.clo 100 [Ty.int IntKind.i64]], cuts := [(2, [(0, none), (1, none), (7, none), (8, none)])], nt := 19 }
theorem EidxN8_ok : EnvOk EidxN8 := envOk tt_ok ⟨cagr1_valid, trivial⟩
theorem FidxN8_ok : FnOk EidxN8 Try.f151 := ⟨rfl, rfl⟩
theorem EidxN8_t (x0 : List (Int × Int × Unit)) (x1c0 : Int) : exec EidxN8 1000 [.code (bodyOf Try.prog 151)] (initSt cidxN8.ps ((x0, (x1c0, ()), ()))) =
  .cut (loopAt (bodyOf Try.prog 151) 2).1 (loopAt (bodyOf Try.prog 151) 2).2 (St.mk [(0, AV.val (Ty.slc false PairT) x0), (1, AV.clo 100 (AV.cons (AV.rptr (Ty.int IntKind.i64) x1c0) AV.nil)), (7, AV.val (Ty.int IntKind.i64) (↑(List.length x0) : Int)), (8, AV.val (Ty.int IntKind.i64) (0 : Int))] []) := by kernel_rfl
def EidxN8_s2 (v0 : List (Int × Int × Unit)) (v1a : Int) (v7 : Int) (v8 : Int) : St := St.mk [(0, AV.val (Ty.slc false PairT) v0), (1, AV.clo 100 (AV.cons (AV.rptr (Ty.int IntKind.i64) v1a) AV.nil)), (7, AV.val (Ty.int IntKind.i64) v7), (8, AV.val (Ty.int IntKind.i64) v8)] []
theorem EidxN8_l2 (v0 : List (Int × Int × Unit)) (v1a : Int) (v7 : Int) (v8 : Int) : exec EidxN8 1000 (.code (loopAt (bodyOf Try.prog 151) 2).1 :: .inLoop (loopAt (bodyOf Try.prog 151) 2).1 :: (loopAt (bodyOf Try.prog 151) 2).2) (EidxN8_s2 v0 v1a v7 v8) =
  cond (decide (v8 < v7)) (.need ((0 : Int) ≤ v8 ∧ v8 < (↑(List.length v0) : Int)) (.need (True) (cond (byIs v1a (List.getD v0 (Int.toNat v8) ((0 : Int), (0 : Int), ()))) (.ret ((v8, ()))) (.need (inK IntKind.i64 (v8 + (1 : Int))) (.cut (loopAt (bodyOf Try.prog 151) 2).1 (loopAt (bodyOf Try.prog 151) 2).2 (St.mk [(0, AV.val (Ty.slc false PairT) v0), (1, AV.clo 100 (AV.cons (AV.rptr (Ty.int IntKind.i64) v1a) AV.nil)), (7, AV.val (Ty.int IntKind.i64) v7), (8, AV.val (Ty.int IntKind.i64) (v8 + (1 : Int)))] [])))))) (.ret (((-1 : Int), ()))) := by kernel_rfl
theorem cidxN8_valid : cidxN8.Valid Try.prog 151 := by
  refine Ctr.valid_of EidxN8_ok rfl rfl Try.func151 (c := bodyOf Try.prog 151) rfl rfl FidxN8_ok rfl ?_
  rintro ⟨(l : List (NumD)), ⟨(j : Int), ⟨⟩⟩, ⟨⟩⟩ - ⟨⟨hl, -⟩, -⟩
  have hl : l.length ≤ 9223372036854775807 := hl
  refine exec_sound (n := 1000) EidxN8_ok FidxN8_ok ?_
  refine holds_of_eq (EidxN8_t l j) ?_
  refine Reach.loopI EidxN8_ok FidxN8_ok (fun i : Nat => EidxN8_s2 l j (l.length : Int) (i : Int)) (fun i => i ≤ l.length ∧ idxOf (byIs j) l = idxGo (byIs j) (l.drop i) i)
    (fun i => l.length - i) 1000 (fun _ => ⟨uniq_of rfl, uniq_of rfl⟩) ?_ 0 ⟨by omega, rfl⟩
  rintro i ⟨k1, k2⟩ - ih
  refine holds_of_eq (EidxN8_l2 ..) ?_
  simp only [holds_cond, Tree.holds, true_and, true_implies, decide_eq_true_eq, decide_eq_false_iff_not, Bool.not_eq_true', Bool.not_eq_false', Int.toNat_natCast, inK_i64, List.length_set, List.length_cons, List.length_nil]
  refine ⟨fun h => ?_, fun h => ?_⟩
  · rw [drop_getD (show i < l.length by omega) ((0, 0, ())), idxGo] at k2
    refine ⟨by omega, fun _ => ⟨fun c => ?_, fun c => ⟨by omega, fun _ => ih (i + 1) ⟨by omega, ?_⟩ (by omega)⟩⟩⟩
    · show (((i : Int), ()) : Int × Unit) = (idxOf (byIs j) l, ())
      rw [k2, if_pos (show (byIs j) (l.getD i ((0, 0, ()))) = true from c)]
    · rw [k2, if_neg (show ¬ (byIs j) (l.getD i ((0, 0, ()))) = true from fun h9 => Bool.noConfusion (Eq.trans (Eq.symm h9) c))]
  · rw [List.drop_eq_nil_of_le (by omega)] at k2
    show (((-1 : Int), ()) : Int × Unit) = (idxOf (byIs j) l, ())
    rw [k2]; rfl
def cconN8 : Ctr := { ps := [.v (.slc false Num), .clo 100 [I64]], rs := [.bool], pre := fun x => True, fn := fun x => (List.any (α := NumD) x.1 (byIs x.2.1.1), ()), out := fun _ => () }
noncomputable def EconN8 : Env := { P := Try.prog, tt := tt, ctr := [(151, cidxN8)], res := [Go.ResultVar.tmp 4], rs := [Ty.bool], ps := [PK.v (Ty.slc false PairT), PK.clo 100 [Ty.int IntKind.i64]], cuts := [], nt := 9 }
theorem EconN8_ok : EnvOk EconN8 := envOk tt_ok ⟨cidxN8_valid, trivial⟩
theorem FconN8_ok : FnOk EconN8 Try.f99 := ⟨rfl, rfl⟩
theorem EconN8_t (x0 : List (Int × Int × Unit)) (x1c0 : Int) : exec EconN8 1000 [.code (bodyOf Try.prog 99)] (initSt cconN8.ps ((x0, (x1c0, ()), ()))) =
  .need (True) (.ret ((decide ((0 : Int) ≤ idxOf (byIs x1c0) x0), ()))) := by kernel_rfl
theorem cconN8_valid : cconN8.Valid Try.prog 99 := by
  refine Ctr.valid_of EconN8_ok rfl rfl Try.func99 (c := bodyOf Try.prog 99) rfl rfl FconN8_ok rfl ?_
  rintro ⟨(l : List (NumD)), ⟨(j : Int), ⟨⟩⟩, ⟨⟩⟩ - -
  refine exec_sound (n := 1000) EconN8_ok FconN8_ok ?_
  refine holds_of_eq (EconN8_t l j) ?_
  refine ⟨trivial, fun _ => ?_⟩
  show ((decide (0 ≤ idxOf (byIs j) l), ()) : Bool × Unit) = (l.any (byIs j), ())
  rw [idx_any]
def cofferS : Ctr := { ps := [.v Skeen, .v I64], rs := [Skeen, Num, I64], pre := fun _ => True, fn := fun x => offerF x.1 x.2.1, out := fun _ => (), new := true }
theorem cofferS_valid : cofferS.Valid Try.prog 31 := coffer_valid.share (rs' := [Skeen, Num, I64]) rfl rfl rfl
def cfixS : Ctr := { ps := [.v Skeen, .v I64, .v Num], rs := [Skeen, .slc false I64, I64], pre := fun _ => True, fn := fun x => fixF x.1 x.2.1 x.2.2.1, out := fun _ => (), new := true }
theorem cfixS_valid : cfixS.Valid Try.prog 35 := cfix_valid.share (rs' := [Skeen, .slc false I64, I64]) rfl rfl rfl
end Go.Proofs.Ytdhdpklmipkneaa
