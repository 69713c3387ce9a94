/- The down-sets of a finite order. -/
import Derived.Test.YtehmefjnkbjiiaaPoset
import Derived.Test.YtehmefjnkbjiiaaBitP
namespace Go.Proofs.Ytehmefjnkbjiiaa
open Go.Ex
set_option maxRecDepth 100000
def isDown (l : List PairD) (s : Nat) : Bool := l.all fun q => !(s.testBit q.2.1.toNat) || s.testBit q.1.toNat
def downsL (n : Nat) (l : List PairD) : List Int := ((List.range (2 ^ n)).filter (isDown l)).map fun s : Nat => (s : Int)
def downsR (n : Int) (l : List PairD) : List Int × Int × Unit := if pcheck n l ≠ 0 then ([], pcheck n l, ()) else if 12 < n then ([], 2, ()) else (downsL n.toNat l, 0, ())
def cdowns : Ctr := { ps := [.v Pos], rs := [.slc true U16, I64], pre := fun _ => True, fn := fun x => downsR x.1.1 x.1.2.1, out := fun _ => () }
noncomputable def Edowns : Env := { P := Try.prog, tt := tt, ctr := [(49, ccloseR)], res := [Go.ResultVar.tmp 2, Go.ResultVar.tmp 3], rs := [Ty.slc true (Ty.int IntKind.u16), Ty.int IntKind.i64], ps := [PK.v (Ty.pair (Ty.int IntKind.i64) (Ty.pair (Ty.slc false PairT) Ty.unit))], cuts := [(8, [(1, none), (6, none), (24, some (Ty.slc true PairT)), (25, none), (26, none)]), (14, [(1, none), (6, none), (9, some (Ty.slc true (Ty.int IntKind.u16))), (42, none), (43, none)]), (18, [(1, none), (6, none), (9, some (Ty.slc true (Ty.int IntKind.u16))), (10, none), (11, none), (42, none), (43, none), (47, none), (48, none)])], nt := 75 }
theorem Edowns_ok : EnvOk Edowns := envOk tt_ok ⟨ccloseR_valid, trivial⟩
theorem Fdowns_ok : FnOk Edowns Try.f46 := ⟨rfl, rfl⟩
theorem Edowns_t (x0_1 : Int) (x0_2_1 : List (Int × Int × Unit)) : exec Edowns 1000 [.code (bodyOf Try.prog 46)] (initSt cdowns.ps (((x0_1, x0_2_1, ()), ()))) =
  .need (True) (cond (decide (Prod.fst (Prod.snd (closeR x0_1 x0_2_1)) ≠ (0 : Int))) (.ret (([], Prod.fst (Prod.snd (closeR x0_1 x0_2_1)), ()))) (cond (decide ((12 : Int) < x0_1)) (.ret (([], (2 : Int), ()))) (.cut (loopAt (bodyOf Try.prog 46) 8).1 (loopAt (bodyOf Try.prog 46) 8).2 (St.mk [(1, AV.ptr 1 []), (6, AV.ptr 6 []), (24, AV.at_ 1000024 []), (25, AV.val (Ty.int IntKind.i64) (↑(List.length (Prod.fst (closeR x0_1 x0_2_1))) : Int)), (26, AV.val (Ty.int IntKind.i64) (0 : Int))] [(1, Ent.var (Ty.pair (Ty.int IntKind.i64) (Ty.pair (Ty.slc false PairT) Ty.unit)) (x0_1, x0_2_1, ())), (6, Ent.var (Ty.arr 12 (Ty.int IntKind.u16)) [(0 : Int), (0 : Int), (0 : Int), (0 : Int), (0 : Int), (0 : Int), (0 : Int), (0 : Int), (0 : Int), (0 : Int), (0 : Int), (0 : Int)]), (1000024, Ent.own (Ty.slc true PairT) (Prod.fst (closeR x0_1 x0_2_1)))])))) := by kernel_rfl
def Edowns_s8 (v25 : Int) (v26 : Int) (o1_1 : Int) (o1_2_1 : List (Int × Int × Unit)) (o6 : List Int) (o1000024 : List (Int × Int × Unit)) : St := St.mk [(1, AV.ptr 1 []), (6, AV.ptr 6 []), (24, AV.at_ 1000024 []), (25, AV.val (Ty.int IntKind.i64) v25), (26, AV.val (Ty.int IntKind.i64) v26)] [(1, Ent.var (Ty.pair (Ty.int IntKind.i64) (Ty.pair (Ty.slc false PairT) Ty.unit)) (o1_1, o1_2_1, ())), (6, Ent.var (Ty.arr 12 (Ty.int IntKind.u16)) o6), (1000024, Ent.own (Ty.slc true PairT) o1000024)]
theorem Edowns_l8 (v25 : Int) (v26 : Int) (o1_1 : Int) (o1_2_1 : List (Int × Int × Unit)) (o6 : List Int) (o1000024 : List (Int × Int × Unit)) : exec Edowns 1000 (.code (loopAt (bodyOf Try.prog 46) 8).1 :: .inLoop (loopAt (bodyOf Try.prog 46) 8).1 :: (loopAt (bodyOf Try.prog 46) 8).2) (Edowns_s8 v25 v26 o1_1 o1_2_1 o6 o1000024) =
  cond (decide (v26 < v25)) (.need ((0 : Int) ≤ v26 ∧ v26 < (↑(List.length o1000024) : Int)) (.need ((0 : Int) ≤ Prod.fst (Prod.snd (List.getD o1000024 (Int.toNat v26) ((0 : Int), (0 : Int), ()))) ∧ Prod.fst (Prod.snd (List.getD o1000024 (Int.toNat v26) ((0 : Int), (0 : Int), ()))) < (↑12 : Int)) (.need ((0 : Int) ≤ Prod.fst (List.getD o1000024 (Int.toNat v26) ((0 : Int), (0 : Int), ()))) (.need ((0 : Int) ≤ Prod.fst (Prod.snd (List.getD o1000024 (Int.toNat v26) ((0 : Int), (0 : Int), ()))) ∧ Prod.fst (Prod.snd (List.getD o1000024 (Int.toNat v26) ((0 : Int), (0 : Int), ()))) < (↑12 : Int)) (.need (inK IntKind.i64 (v26 + (1 : Int))) (.cut (loopAt (bodyOf Try.prog 46) 8).1 (loopAt (bodyOf Try.prog 46) 8).2 (St.mk [(1, AV.ptr 1 []), (6, AV.ptr 6 []), (24, AV.at_ 1000024 []), (25, AV.val (Ty.int IntKind.i64) v25), (26, AV.val (Ty.int IntKind.i64) (v26 + (1 : Int)))] [(1, Ent.var (Ty.pair (Ty.int IntKind.i64) (Ty.pair (Ty.slc false PairT) Ty.unit)) (o1_1, o1_2_1, ())), (6, Ent.var (Ty.arr 12 (Ty.int IntKind.u16)) (List.set o6 (Int.toNat (Prod.fst (Prod.snd (List.getD o1000024 (Int.toNat v26) ((0 : Int), (0 : Int), ()))))) (bOr IntKind.u16 (List.getD o6 (Int.toNat (Prod.fst (Prod.snd (List.getD o1000024 (Int.toNat v26) ((0 : Int), (0 : Int), ()))))) (0 : Int)) (IntKind.wrap IntKind.u16 ((1 : Int) * (2 : Int) ^ min (Int.toNat (Prod.fst (List.getD o1000024 (Int.toNat v26) ((0 : Int), (0 : Int), ())))) (IntKind.bits IntKind.u16)))))), (1000024, Ent.own (Ty.slc true PairT) o1000024)]))))))) (.need ((0 : Int) ≤ o1_1) (.cut (loopAt (bodyOf Try.prog 46) 14).1 (loopAt (bodyOf Try.prog 46) 14).2 (St.mk [(1, AV.ptr 1 []), (6, AV.ptr 6 []), (9, AV.at_ 1000009 []), (42, AV.val (Ty.int IntKind.u16) (IntKind.wrap IntKind.u16 ((1 : Int) * (2 : Int) ^ min (Int.toNat o1_1) (IntKind.bits IntKind.u16)))), (43, AV.val (Ty.int IntKind.u16) (0 : Int))] [(1, Ent.var (Ty.pair (Ty.int IntKind.i64) (Ty.pair (Ty.slc false PairT) Ty.unit)) (o1_1, o1_2_1, ())), (6, Ent.var (Ty.arr 12 (Ty.int IntKind.u16)) o6), (1000009, Ent.own (Ty.slc true (Ty.int IntKind.u16)) [])]))) := by kernel_rfl
def Edowns_s14 (v42 : Int) (v43 : Int) (o1_1 : Int) (o1_2_1 : List (Int × Int × Unit)) (o6 : List Int) (o1000009 : List Int) : St := St.mk [(1, AV.ptr 1 []), (6, AV.ptr 6 []), (9, AV.at_ 1000009 []), (42, AV.val (Ty.int IntKind.u16) v42), (43, AV.val (Ty.int IntKind.u16) v43)] [(1, Ent.var (Ty.pair (Ty.int IntKind.i64) (Ty.pair (Ty.slc false PairT) Ty.unit)) (o1_1, o1_2_1, ())), (6, Ent.var (Ty.arr 12 (Ty.int IntKind.u16)) o6), (1000009, Ent.own (Ty.slc true (Ty.int IntKind.u16)) o1000009)]
theorem Edowns_l14 (v42 : Int) (v43 : Int) (o1_1 : Int) (o1_2_1 : List (Int × Int × Unit)) (o6 : List Int) (o1000009 : List Int) : exec Edowns 1000 (.code (loopAt (bodyOf Try.prog 46) 14).1 :: .inLoop (loopAt (bodyOf Try.prog 46) 14).1 :: (loopAt (bodyOf Try.prog 46) 14).2) (Edowns_s14 v42 v43 o1_1 o1_2_1 o6 o1000009) =
  cond (decide (v43 < v42)) (.cut (loopAt (bodyOf Try.prog 46) 18).1 (loopAt (bodyOf Try.prog 46) 18).2 (St.mk [(1, AV.ptr 1 []), (6, AV.ptr 6 []), (9, AV.at_ 1000009 []), (10, AV.val (Ty.int IntKind.u16) v43), (11, AV.val Ty.bool true), (42, AV.val (Ty.int IntKind.u16) v42), (43, AV.val (Ty.int IntKind.u16) v43), (47, AV.val (Ty.int IntKind.i64) o1_1), (48, AV.val (Ty.int IntKind.i64) (0 : Int))] [(1, Ent.var (Ty.pair (Ty.int IntKind.i64) (Ty.pair (Ty.slc false PairT) Ty.unit)) (o1_1, o1_2_1, ())), (6, Ent.var (Ty.arr 12 (Ty.int IntKind.u16)) o6), (1000009, Ent.own (Ty.slc true (Ty.int IntKind.u16)) o1000009)])) (.ret ((o1000009, (0 : Int), ()))) := by kernel_rfl
def Edowns_s18 (v10 : Int) (v11 : Bool) (v42 : Int) (v43 : Int) (v47 : Int) (v48 : Int) (o1_1 : Int) (o1_2_1 : List (Int × Int × Unit)) (o6 : List Int) (o1000009 : List Int) : St := St.mk [(1, AV.ptr 1 []), (6, AV.ptr 6 []), (9, AV.at_ 1000009 []), (10, AV.val (Ty.int IntKind.u16) v10), (11, AV.val Ty.bool v11), (42, AV.val (Ty.int IntKind.u16) v42), (43, AV.val (Ty.int IntKind.u16) v43), (47, AV.val (Ty.int IntKind.i64) v47), (48, AV.val (Ty.int IntKind.i64) v48)] [(1, Ent.var (Ty.pair (Ty.int IntKind.i64) (Ty.pair (Ty.slc false PairT) Ty.unit)) (o1_1, o1_2_1, ())), (6, Ent.var (Ty.arr 12 (Ty.int IntKind.u16)) o6), (1000009, Ent.own (Ty.slc true (Ty.int IntKind.u16)) o1000009)]
theorem Edowns_l18 (v10 : Int) (v11 : Bool) (v42 : Int) (v43 : Int) (v47 : Int) (v48 : Int) (o1_1 : Int) (o1_2_1 : List (Int × Int × Unit)) (o6 : List Int) (o1000009 : List Int) : exec Edowns 1000 (.code (loopAt (bodyOf Try.prog 46) 18).1 :: .inLoop (loopAt (bodyOf Try.prog 46) 18).1 :: (loopAt (bodyOf Try.prog 46) 18).2) (Edowns_s18 v10 v11 v42 v43 v47 v48 o1_1 o1_2_1 o6 o1000009) =
  cond (decide (v48 < v47)) (cond (v11) (.need ((0 : Int) ≤ v48) (cond (decide (bAnd IntKind.u16 (v10 / (2 : Int) ^ min (Int.toNat v48) (IntKind.bits IntKind.u16)) (1 : Int) = (0 : Int))) (.need (inK IntKind.i64 (v48 + (1 : Int))) (.cut (loopAt (bodyOf Try.prog 46) 18).1 (loopAt (bodyOf Try.prog 46) 18).2 (St.mk [(1, AV.ptr 1 []), (6, AV.ptr 6 []), (9, AV.at_ 1000009 []), (10, AV.val (Ty.int IntKind.u16) v10), (11, AV.val Ty.bool true), (42, AV.val (Ty.int IntKind.u16) v42), (43, AV.val (Ty.int IntKind.u16) v43), (47, AV.val (Ty.int IntKind.i64) v47), (48, AV.val (Ty.int IntKind.i64) (v48 + (1 : Int)))] [(1, Ent.var (Ty.pair (Ty.int IntKind.i64) (Ty.pair (Ty.slc false PairT) Ty.unit)) (o1_1, o1_2_1, ())), (6, Ent.var (Ty.arr 12 (Ty.int IntKind.u16)) o6), (1000009, Ent.own (Ty.slc true (Ty.int IntKind.u16)) o1000009)]))) (.need ((0 : Int) ≤ v48 ∧ v48 < (↑12 : Int)) (.need (inK IntKind.i64 (v48 + (1 : Int))) (.cut (loopAt (bodyOf Try.prog 46) 18).1 (loopAt (bodyOf Try.prog 46) 18).2 (St.mk [(1, AV.ptr 1 []), (6, AV.ptr 6 []), (9, AV.at_ 1000009 []), (10, AV.val (Ty.int IntKind.u16) v10), (11, AV.val Ty.bool (decide (bAndNot IntKind.u16 (List.getD o6 (Int.toNat v48) (0 : Int)) v10 = (0 : Int)))), (42, AV.val (Ty.int IntKind.u16) v42), (43, AV.val (Ty.int IntKind.u16) v43), (47, AV.val (Ty.int IntKind.i64) v47), (48, AV.val (Ty.int IntKind.i64) (v48 + (1 : Int)))] [(1, Ent.var (Ty.pair (Ty.int IntKind.i64) (Ty.pair (Ty.slc false PairT) Ty.unit)) (o1_1, o1_2_1, ())), (6, Ent.var (Ty.arr 12 (Ty.int IntKind.u16)) o6), (1000009, Ent.own (Ty.slc true (Ty.int IntKind.u16)) o1000009)])))))) (.need (inK IntKind.i64 (v48 + (1 : Int))) (.cut (loopAt (bodyOf Try.prog 46) 18).1 (loopAt (bodyOf Try.prog 46) 18).2 (St.mk [(1, AV.ptr 1 []), (6, AV.ptr 6 []), (9, AV.at_ 1000009 []), (10, AV.val (Ty.int IntKind.u16) v10), (11, AV.val Ty.bool false), (42, AV.val (Ty.int IntKind.u16) v42), (43, AV.val (Ty.int IntKind.u16) v43), (47, AV.val (Ty.int IntKind.i64) v47), (48, AV.val (Ty.int IntKind.i64) (v48 + (1 : Int)))] [(1, Ent.var (Ty.pair (Ty.int IntKind.i64) (Ty.pair (Ty.slc false PairT) Ty.unit)) (o1_1, o1_2_1, ())), (6, Ent.var (Ty.arr 12 (Ty.int IntKind.u16)) o6), (1000009, Ent.own (Ty.slc true (Ty.int IntKind.u16)) o1000009)])))) (cond (v11) (.need (List.length o1000009 + List.length (List.set [(0 : Int)] (Int.toNat (↑0 : Int)) v10) ≤ 140737488355328 ∧ (List.length o1000009 + List.length (List.set [(0 : Int)] (Int.toNat (↑0 : Int)) v10)) * Ty.wb (Ty.int IntKind.u16) ≤ 140737488355328) (.cut (loopAt (bodyOf Try.prog 46) 14).1 (loopAt (bodyOf Try.prog 46) 14).2 (St.mk [(1, AV.ptr 1 []), (6, AV.ptr 6 []), (9, AV.at_ 1000009 []), (42, AV.val (Ty.int IntKind.u16) v42), (43, AV.val (Ty.int IntKind.u16) (IntKind.wrap IntKind.u16 (v43 + (1 : Int))))] [(1, Ent.var (Ty.pair (Ty.int IntKind.i64) (Ty.pair (Ty.slc false PairT) Ty.unit)) (o1_1, o1_2_1, ())), (6, Ent.var (Ty.arr 12 (Ty.int IntKind.u16)) o6), (1000009, Ent.own (Ty.slc true (Ty.int IntKind.u16)) (o1000009 ++ List.set [(0 : Int)] (Int.toNat (↑0 : Int)) v10))]))) (.cut (loopAt (bodyOf Try.prog 46) 14).1 (loopAt (bodyOf Try.prog 46) 14).2 (St.mk [(1, AV.ptr 1 []), (6, AV.ptr 6 []), (9, AV.at_ 1000009 []), (42, AV.val (Ty.int IntKind.u16) v42), (43, AV.val (Ty.int IntKind.u16) (IntKind.wrap IntKind.u16 (v43 + (1 : Int))))] [(1, Ent.var (Ty.pair (Ty.int IntKind.i64) (Ty.pair (Ty.slc false PairT) Ty.unit)) (o1_1, o1_2_1, ())), (6, Ent.var (Ty.arr 12 (Ty.int IntKind.u16)) o6), (1000009, Ent.own (Ty.slc true (Ty.int IntKind.u16)) o1000009)]))) := by kernel_rfl
theorem u16s : IntKind.u16.signed = false := rfl
def one16 (p : Nat) : Int := IntKind.wrap .u16 (1 * 2 ^ min p (IntKind.bits .u16))
theorem one16_in (p : Nat) : inK .u16 (one16 p) := wrap_in _ _
theorem one16_eq {p : Nat} (hp : p < 13) : one16 p = ((2 ^ p : Nat) : Int) := by
  match p, hp with
  | 0, _ => decide +kernel
  | 1, _ => decide +kernel
  | 2, _ => decide +kernel
  | 3, _ => decide +kernel
  | 4, _ => decide +kernel
  | 5, _ => decide +kernel
  | 6, _ => decide +kernel
  | 7, _ => decide +kernel
  | 8, _ => decide +kernel
  | 9, _ => decide +kernel
  | 10, _ => decide +kernel
  | 11, _ => decide +kernel
  | 12, _ => decide +kernel
theorem one16_bit {p : Nat} (hp : p < 13) (i : Nat) : bit (one16 p) i = decide (p = i) := by
  rw [one16_eq hp, bit, Int.toNat_natCast, Nat.testBit_two_pow]
def bstep (A : List Int) (q : PairD) : List Int := A.set q.2.1.toNat (bOr .u16 (A.getD q.2.1.toNat 0) (one16 q.1.toNat))
theorem dgetD_set {α : Type} {l : List α} {i j : Nat} {x d : α} (h : i < l.length) : (l.set i x).getD j d = if j = i then x else l.getD j d := by
  rw [List.getD_eq_getElem?_getD, List.getElem?_set, List.getD_eq_getElem?_getD]
  by_cases e : i = j
  · subst e; rw [if_pos rfl, if_pos rfl, if_pos h]; rfl
  · rw [if_neg e, if_neg (fun h => e h.symm)]
theorem bfold {c : List PairD} : ∀ {A : List Int}, A.length = 12 → (∀ k, k < 12 → inK .u16 (A.getD k 0)) → (∀ q ∈ c, (0 ≤ q.1 ∧ q.1 < 12) ∧ (0 ≤ q.2.1 ∧ q.2.1 < 12)) →
    (c.foldl bstep A).length = 12 ∧ ∀ k, k < 12 → inK .u16 ((c.foldl bstep A).getD k 0) ∧ ∀ i, bit ((c.foldl bstep A).getD k 0) i = (bit (A.getD k 0) i || relP c i k) := by
  induction c with
  | nil => intro A h1 h2 _; exact ⟨h1, fun k hk => ⟨h2 k hk, fun i => by rw [show relP [] i k = false from rfl, Bool.or_false]; rfl⟩⟩
  | cons q c ih =>
    intro A h1 h2 h3
    have hq := h3 q List.mem_cons_self
    have hl : (bstep A q).length = 12 := by rw [bstep, List.length_set]; exact h1
    have hg : ∀ k, (bstep A q).getD k 0 = if k = q.2.1.toNat then bOr .u16 (A.getD q.2.1.toNat 0) (one16 q.1.toNat) else A.getD k 0 := fun k => by rw [bstep, dgetD_set (by omega)]
    obtain ⟨e1, e2⟩ := ih (A := bstep A q) hl (fun k hk => by rw [hg]; split; exact or_in; exact h2 k hk) (fun x hx => h3 x (List.mem_cons_of_mem _ hx))
    rw [List.foldl_cons]
    refine ⟨e1, fun k hk => ⟨(e2 k hk).1, fun i => ?_⟩⟩
    rw [(e2 k hk).2 i, hg]
    have hr : relP (q :: c) i k = (decide (q.1 = i) && decide (q.2.1 = k) || relP c i k) := rfl
    rw [hr]
    by_cases e : k = q.2.1.toNat
    · rw [if_pos e, bit_or u16s (h2 _ (by omega)) (one16_in _), one16_bit (by omega), ← e, decide_eq_true (show q.2.1 = (k : Int) by omega), Bool.and_true, Bool.or_assoc]
      congr 2
      exact decide_eq_decide.2 (by omega)
    · rw [if_neg e, decide_eq_false (show ¬ q.2.1 = (k : Int) by omega), Bool.and_false, Bool.false_or]
def zero12 : List Int := [0, 0, 0, 0, 0, 0, 0, 0, 0, 0, 0, 0]
theorem bit0 (i : Nat) : bit 0 i = false := by rw [bit]; simp
theorem zero12_at {k : Nat} (hk : k < 12) : zero12.getD k 0 = 0 := by
  match k, hk with
  | 0, _ => rfl
  | 1, _ => rfl
  | 2, _ => rfl
  | 3, _ => rfl
  | 4, _ => rfl
  | 5, _ => rfl
  | 6, _ => rfl
  | 7, _ => rfl
  | 8, _ => rfl
  | 9, _ => rfl
  | 10, _ => rfl
  | 11, _ => rfl
/-- the bit that the code asks for -/
def ask (s : Int) (k : Nat) : Int := bAnd .u16 (s / 2 ^ min k (IntKind.bits .u16)) 1
theorem ask_iff {s k : Nat} (hs : s < 65536) (hk : k < 12) : ask s k = 0 ↔ s.testBit k = false := by
  have e : ((s : Int) / 2 ^ min k (IntKind.bits .u16)) = ((s / 2 ^ k : Nat) : Int) := by
    rw [show min k (IntKind.bits .u16) = k from Nat.min_eq_left (by show k ≤ 16; omega)]
    rw [Int.natCast_ediv, Int.natCast_pow]; rfl
  have hin : inK .u16 ((s / 2 ^ k : Nat) : Int) := by
    have : s / 2 ^ k ≤ s := Nat.div_le_self _ _
    generalize s / 2 ^ k = d at this
    show (0 : Int) ≤ _ ∧ _ ≤ (65535 : Int); omega
  have h1 : inK .u16 1 := by decide
  rw [ask, e, zero_bits and_in.1]
  constructor
  · intro h
    have h0 := h 0
    rw [bit_and u16s hin h1, show bit 1 0 = true by decide, Bool.and_true, bit, Int.toNat_natCast, Nat.testBit_div_two_pow, Nat.zero_add] at h0
    exact h0
  · intro h i
    rw [bit_and u16s hin h1]
    by_cases e : i = 0
    · subst e; rw [bit, Int.toNat_natCast, Nat.testBit_div_two_pow, Nat.zero_add, h]; rfl
    · have : bit 1 i = false := by
        have := Nat.testBit_two_pow (n := 0) (m := i)
        rw [bit]; show (1 : Nat).testBit i = false
        rw [show (1 : Nat) = 2 ^ 0 from rfl, this]; exact decide_eq_false (by omega)
      rw [this, Bool.and_false]
def dn (A : List Int) (s : Int) : Nat → Bool
  | 0 => true
  | k + 1 => dn A s k && (decide (ask s k = 0) || decide (bAndNot .u16 (A.getD k 0) s = 0))
theorem dn_iff {A : List Int} {s : Int} : ∀ {n : Nat}, dn A s n = true ↔ ∀ k, k < n → ask s k = 0 ∨ bAndNot .u16 (A.getD k 0) s = 0
  | 0 => by simp [dn]
  | n + 1 => by
    rw [dn, Bool.and_eq_true, dn_iff, Bool.or_eq_true, decide_eq_true_eq, decide_eq_true_eq]
    constructor
    · rintro ⟨h1, h2⟩ k hk
      by_cases e : k = n
      · subst e; exact h2
      · exact h1 k (by omega)
    · intro h; exact ⟨fun k hk => h k (by omega), h n (by omega)⟩
theorem bool_ext {a b : Bool} (h : a = true ↔ b = true) : a = b := by cases a <;> cases b <;> simp_all
theorem dn_down {n : Nat} {l : List PairD} (hp : PosOk n l) (hn : n ≤ 12) {s : Nat} (hs : s < 2 ^ n) : dn ((pairsF n (wk (relP l) n)).foldl bstep zero12) s n = isDown l s := by
  have hs16 : s < 65536 := Nat.lt_of_lt_of_le hs (by
    have : 2 ^ n ≤ 2 ^ 16 := Nat.pow_le_pow_right (by omega) (by omega)
    exact this)
  have hins : inK .u16 (s : Int) := by show (0 : Int) ≤ _ ∧ _ ≤ (65535 : Int); omega
  obtain ⟨-, hb⟩ := bfold (c := pairsF n (wk (relP l) n)) (A := zero12) rfl (fun k hk => by rw [zero12_at hk]; decide) (fun q hq => by
    obtain ⟨a, b, ha, hb, -, rfl⟩ := pairsF_mem.1 hq
    exact ⟨⟨by show (0 : Int) ≤ a; omega, by show (a : Int) < 12; omega⟩, ⟨by show (0 : Int) ≤ b; omega, by show (b : Int) < 12; omega⟩⟩)
  refine bool_ext ?_
  rw [dn_iff, isDown, List.all_eq_true]
  have hk : ∀ k, k < n → ((ask s k = 0 ∨ bAndNot .u16 (((pairsF n (wk (relP l) n)).foldl bstep zero12).getD k 0) s = 0) ↔ (s.testBit k = true → ∀ i, wk (relP l) n i k = true → s.testBit i = true)) := fun k hk => by
    obtain ⟨h1, h2⟩ := hb k (by omega)
    rw [ask_iff hs16 (by omega), zero_bits andNot_in.1]
    have h3 : ∀ i, bit (bAndNot .u16 (((pairsF n (wk (relP l) n)).foldl bstep zero12).getD k 0) s) i = (relP (pairsF n (wk (relP l) n)) i k && !s.testBit i) := fun i => by
      rw [bit_andNot u16s h1 hins, h2, zero12_at (by omega), bit0, Bool.false_or]; rfl
    constructor
    · rintro (h | h) ht i hi
      · rw [h] at ht; cases ht
      · have h4 := h i
        have hout := wk_out (pos_rel hp) hi
        rw [h3, pairsF_rel.2 ⟨hout.1, hout.2, hi⟩, Bool.true_and] at h4
        simpa using h4
    · intro h
      cases ht : s.testBit k with
      | false => exact .inl rfl
      | true =>
        right; intro i
        rw [h3]
        cases hr : relP (pairsF n (wk (relP l) n)) i k with
        | false => rfl
        | true => rw [h ht i (pairsF_rel.1 hr).2.2]; rfl
  constructor
  · intro h q hq
    have hr := hp.rng q hq
    obtain ⟨x, y, u⟩ := q
    simp only at hr
    obtain ⟨X, rfl⟩ : ∃ X : Nat, x = X := ⟨x.toNat, by omega⟩
    obtain ⟨Y, rfl⟩ : ∃ Y : Nat, y = Y := ⟨y.toNat, by omega⟩
    have hw : wk (relP l) n X Y = true := wk_ge (relP_iff.2 hq) n
    have := (hk Y (by omega)).1 (h Y (by omega))
    show (!(s.testBit (Y : Int).toNat) || s.testBit (X : Int).toNat) = true
    rw [Int.toNat_natCast, Int.toNat_natCast]
    cases ht : s.testBit Y with
    | false => rfl
    | true => rw [this ht X hw]; rfl
  · intro h k hkn
    refine (hk k hkn).2 (fun ht i hi => ?_)
    refine wk_least (T := fun a b => s.testBit b = true → s.testBit a = true) (fun a b c h1 h2 h3 => h1 (h2 h3)) (fun a b hab hb => ?_) hi ht
    have := h _ (relP_iff.1 hab)
    rw [show (((a : Int), (b : Int), ()) : PairD).2.1.toNat = b from Int.toNat_natCast b, show (((a : Int), (b : Int), ()) : PairD).1.toNat = a from Int.toNat_natCast a, hb] at this
    simpa using this
/-- the down-sets among the first -/
def dsL (l : List PairD) (m : Nat) : List Int := ((List.range m).filter (isDown l)).map fun s : Nat => (s : Int)
theorem dsL_len {l : List PairD} {m : Nat} : (dsL l m).length ≤ m := by
  rw [dsL, List.length_map]
  exact Nat.le_trans (List.length_filter_le _ _) (by rw [List.length_range]; exact Nat.le_refl _)
theorem dsL_step {l : List PairD} {m : Nat} : dsL l (m + 1) = dsL l m ++ (if isDown l m = true then [(m : Int)] else []) := by
  rw [dsL, List.range_succ, List.filter_append, List.map_append]
  congr 1
  rw [List.filter_cons]
  split <;> rfl
theorem dfoldl_take {α β : Type} {f : β → α → β} {b : β} {l : List α} {i : Nat} (h : i < l.length) (d : α) : (l.take (i + 1)).foldl f b = f ((l.take i).foldl f b) (l.getD i d) := by
  rw [List.take_add_one, List.foldl_append, List.getD_eq_getElem?_getD, List.getElem?_eq_getElem h]; rfl
theorem cdowns_valid : cdowns.Valid Try.prog 46 := by
  refine Ctr.valid_of Edowns_ok rfl rfl Try.func46 (c := bodyOf Try.prog 46) rfl rfl Fdowns_ok rfl ?_
  rintro ⟨⟨(n0 : Int), (l : List PairD), ⟨⟩⟩, ⟨⟩⟩ - -
  refine exec_sound (n := 1000) Edowns_ok Fdowns_ok ?_
  refine holds_of_eq (Edowns_t n0 l) ?_
  have key : ∀ {x : List Int × Int × Unit}, downsR n0 l = x → x = downsR n0 l := fun h => h.symm
  have hd : downsR n0 l = if pcheck n0 l ≠ 0 then ([], pcheck n0 l, ()) else if 12 < n0 then ([], 2, ()) else (downsL n0.toNat l, 0, ()) := rfl
  by_cases h0 : pcheck n0 l ≠ 0
  · rw [closeR, if_pos h0]
    simp only [holds_cond, Tree.holds, true_and, true_implies, decide_eq_true_eq, decide_eq_false_iff_not, Bool.not_eq_true', Bool.not_eq_false', Int.toNat_natCast, inK_i64, List.length_set, List.length_cons, List.length_nil]
    exact ⟨fun _ => key (by rw [hd, if_pos h0] <;> rfl), fun c => absurd h0 c⟩
  obtain ⟨n, rfl, hp⟩ := pcheck_ok (Decidable.not_not.1 h0)
  rw [if_neg h0] at hd
  rw [closeR_ok hp]
  simp only [holds_cond, Tree.holds, true_and, true_implies, decide_eq_true_eq, decide_eq_false_iff_not, Bool.not_eq_true', Bool.not_eq_false', Int.toNat_natCast, inK_i64, List.length_set, List.length_cons, List.length_nil]
  refine ⟨fun c => absurd rfl c, fun _ => ⟨fun c => key (by rw [hd, if_pos c] <;> rfl), fun c => ?_⟩⟩
  rw [if_neg c, Int.toNat_natCast] at hd
  have hn : n ≤ 12 := by omega
  have hdn := fun s hs => dn_down hp hn (s := s) hs
  have hcl : (pairsF n (wk (relP l) n)).length ≤ n * n := pairsF_len
  have hcl2 : n * n ≤ 12 * 12 := Nat.mul_le_mul hn hn
  have hcr : ∀ q ∈ pairsF n (wk (relP l) n), (0 ≤ q.1 ∧ q.1 < 12) ∧ (0 ≤ q.2.1 ∧ q.2.1 < 12) := fun q hq => by
    obtain ⟨a, b, ha, hb, -, rfl⟩ := pairsF_mem.1 hq
    exact ⟨⟨by show (0 : Int) ≤ a; omega, by show (a : Int) < 12; omega⟩, ⟨by show (0 : Int) ≤ b; omega, by show (b : Int) < 12; omega⟩⟩
  generalize pairsF n (wk (relP l) n) = C at *
  refine Reach.loopI Edowns_ok Fdowns_ok (fun i : Nat => Edowns_s8 (C.length : Int) (i : Int) (n : Int) l ((C.take i).foldl bstep zero12) C) (fun i => i ≤ C.length) (fun i => C.length - i) 1000 (fun _ => ⟨uniq_of rfl, uniq_of rfl⟩) ?_ 0 (by omega)
  rintro i k1 - ih
  have k1 : i ≤ C.length := k1
  refine holds_of_eq (Edowns_l8 ..) ?_
  simp only [holds_cond, Tree.holds, true_and, true_implies, decide_eq_true_eq, decide_eq_false_iff_not, Bool.not_eq_true', Bool.not_eq_false', Int.toNat_natCast, inK_i64, List.length_set, List.length_cons, List.length_nil]
  refine ⟨fun c1 => ⟨by omega, fun _ => ?_⟩, fun c1 => ⟨by omega, fun _ => ?_⟩⟩
  · have hi : i < C.length := by omega
    have hq := hcr (C.getD i (0, 0, ())) (getD_mem hi)
    have next := ih (i + 1) (by show i + 1 ≤ C.length; omega) (by omega)
    rw [dfoldl_take hi (0, 0, ())] at next
    exact ⟨hq.2, fun _ => ⟨hq.1.1, fun _ => ⟨hq.2, fun _ => ⟨by omega, fun _ => next⟩⟩⟩⟩
  rw [List.take_of_length_le (by omega)]
  generalize C.foldl bstep zero12 = A at *
  have hpow : 2 ^ n ≤ 2 ^ 12 := Nat.pow_le_pow_right (by omega) hn
  have hpow : 2 ^ n ≤ 4096 := hpow
  rw [show IntKind.wrap .u16 (1 * 2 ^ min n (IntKind.bits .u16)) = ((2 ^ n : Nat) : Int) from one16_eq (by omega)]
  have hdl : downsL n l = dsL l (2 ^ n) := rfl
  rw [hdl] at hd
  generalize 2 ^ n = N at *
  refine Reach.loopI Edowns_ok Fdowns_ok (fun s : Nat => Edowns_s14 (N : Int) (s : Int) (n : Int) l A (dsL l s)) (fun s => s ≤ N) (fun s => N - s) 1000 (fun _ => ⟨uniq_of rfl, uniq_of rfl⟩) ?_ 0 (by omega)
  rintro s j1 - ih2
  have j1 : s ≤ N := j1
  refine holds_of_eq (Edowns_l14 ..) ?_
  have hsl := dsL_len (l := l) (m := s)
  simp only [holds_cond, Tree.holds, true_and, true_implies, decide_eq_true_eq, decide_eq_false_iff_not, Bool.not_eq_true', Bool.not_eq_false', Int.toNat_natCast, inK_i64, List.length_set, List.length_cons, List.length_nil]
  refine ⟨fun c2 => ?_, fun c2 => key (by rw [hd, show s = N by omega] <;> rfl)⟩
  have next2 := ih2 (s + 1) (by show s + 1 ≤ N; omega) (by omega)
  rw [dsL_step, ← hdn s (by omega)] at next2
  refine Reach.loopI Edowns_ok Fdowns_ok (fun k : Nat => Edowns_s18 (s : Int) (dn A s k) (N : Int) (s : Int) (n : Int) (k : Int) (n : Int) l A (dsL l s)) (fun k => k ≤ n) (fun k => n - k) 1000 (fun _ => ⟨uniq_of rfl, uniq_of rfl⟩) ?_ 0 (by omega)
  rintro k i1 - ih3
  have i1 : k ≤ n := i1
  refine holds_of_eq (Edowns_l18 ..) ?_
  have next3 : k < n → _ := fun hk => ih3 (k + 1) (by show k + 1 ≤ n; omega) (by omega)
  have hwr : IntKind.wrap .u16 ((s : Int) + 1) = ((s + 1 : Nat) : Int) := (wrap_same (by show (0 : Int) ≤ _ ∧ _ ≤ (65535 : Int); omega)).trans (by omega)
  have wb16 : Ty.wb (Ty.int .u16) = 2 := rfl
  simp only [holds_cond, Tree.holds, true_and, true_implies, decide_eq_true_eq, decide_eq_false_iff_not, Bool.not_eq_true', Bool.not_eq_false', Int.toNat_natCast, inK_i64, List.length_set, List.length_cons, List.length_nil, hwr, wb16]
  refine ⟨fun c3 => ⟨fun d => ⟨by omega, fun _ => ⟨fun a => ⟨by omega, fun _ => ?_⟩, fun a => ⟨by omega, fun _ => ⟨by omega, fun _ => ?_⟩⟩⟩⟩, fun d => ⟨by omega, fun _ => ?_⟩⟩, fun c3 => ⟨fun d => ⟨⟨by omega, by omega⟩, fun _ => ?_⟩, fun d => ?_⟩⟩
  · have nx := next3 (by omega)
    rw [dn, d, decide_eq_true (show ask s k = 0 from a), Bool.true_or, Bool.and_true] at nx; exact nx
  · have nx := next3 (by omega)
    rw [dn, d, decide_eq_false (show ¬ ask s k = 0 from a), Bool.false_or, Bool.true_and] at nx; exact nx
  · have nx := next3 (by omega)
    rw [dn, d, Bool.false_and] at nx; exact nx
  · have e : k = n := by omega
    subst e
    rw [if_pos d] at next2; exact next2
  · have e : k = n := by omega
    subst e
    rw [if_neg (by rw [d]; decide), List.append_nil] at next2; exact next2
end Go.Proofs.Ytehmefjnkbjiiaa
