/- stamp.Ahead: its contract: which events are ahead of which. -/
import Derived.Test.YtibpibbnnogdkaaBase
import Derived.Test.YtibpibbnnogdkaaHist
namespace Go.Proofs.Ytibpibbnnogdkaa
open Go.Ex
set_option maxRecDepth 100000
def edgeB (h : List Ev) (a b : Nat) : Bool := decide ((h.getD a e0).1 = (h.getD b e0).1) || (decide ((h.getD a e0).2.1 = 2) && decide ((h.getD b e0).2.1 = 3) && decide ((h.getD a e0).2.2.1 = (h.getD b e0).2.2.1))
def hbRow (h : List Ev) (T : Nat → Nat → Bool) (b : Nat) : Nat → Nat → Bool
  | 0, _ => false
  | a + 1, k => hbRow h T b a k || (edgeB h a b && (decide (k = a) || T a k))
def hbTab (h : List Ev) : Nat → Nat → Nat → Bool
  | 0, _, _ => false
  | n + 1, b, k => if b = n then hbRow h (hbTab h n) n n k else hbTab h n b k
/-- is k ahead of b? -/
def hb (h : List Ev) (b k : Nat) : Bool := hbTab h (b + 1) b k
def rowPairs (h : List Ev) (a : Nat) : Nat → List (Int × Int × Unit)
  | 0 => []
  | b + 1 => rowPairs h a b ++ (if hb h b a = true then [((a : Int), (b : Int), ())] else [])
def allPairs (h : List Ev) (n : Nat) : Nat → List (Int × Int × Unit)
  | 0 => []
  | a + 1 => allPairs h n a ++ rowPairs h a n
def aheadF (h : List Ev) : List (Int × Int × Unit) × Int × Unit := if scheck h ≠ 0 then ([], scheck h, ()) else (allPairs h h.length h.length, 0, ())
def cahead : Ctr := { ps := [.v Es], rs := [.slc true PairT, I64], pre := fun _ => True, fn := fun x => aheadF x.1, out := fun _ => () }
noncomputable def Eahead : Env := { P := Try.prog, tt := tt, ctr := [(40, cscheck)], res := [Go.ResultVar.tmp 2, Go.ResultVar.tmp 3], rs := [Ty.slc true PairT, Ty.int IntKind.i64], ps := [PK.v Es], cuts := [(6, [(0, none), (5, some (Ty.slc true (Ty.slc true Ty.bool))), (23, none), (24, none), (25, none)]), (10, [(0, none), (5, some (Ty.slc true (Ty.slc true Ty.bool))), (6, none), (7, none), (23, none), (24, none), (25, none), (38, none), (39, none), (40, none)]), (15, [(0, none), (5, some (Ty.slc true (Ty.slc true Ty.bool))), (6, none), (7, none), (23, none), (24, none), (25, none), (38, none), (39, none), (40, none), (77, none), (78, none), (79, none)]), (23, [(0, none), (5, some (Ty.slc true (Ty.slc true Ty.bool))), (12, some (Ty.slc true PairT)), (104, none), (105, none)]), (26, [(0, none), (5, some (Ty.slc true (Ty.slc true Ty.bool))), (12, some (Ty.slc true PairT)), (13, none), (104, none), (105, none), (109, none), (110, none)])], nt := 129 }
theorem Eahead_ok : EnvOk Eahead := envOk tt_ok ⟨cscheck_valid, trivial⟩
theorem Fahead_ok : FnOk Eahead Try.f33 := ⟨rfl, rfl⟩
theorem Eahead_t (x0 : List (Int × Int × Int × Unit)) : exec Eahead 1000 [.code (bodyOf Try.prog 33)] (initSt cahead.ps ((x0, ()))) =
  .need (True) (cond (decide (scheck x0 ≠ (0 : Int))) (.ret (([], scheck x0, ()))) (.need ((0 : Int) ≤ (↑(List.length x0) : Int) ∧ (↑(List.length x0) : Int) ≤ (↑(List.length x0) : Int) ∧ (↑(List.length x0) : Int) ≤ (140737488355328 : Int) ∧ (↑(List.length x0) : Int) * (↑(Ty.wb (Ty.slc true Ty.bool)) : Int) ≤ (140737488355328 : Int)) (.cut (loopAt (bodyOf Try.prog 33) 6).1 (loopAt (bodyOf Try.prog 33) 6).2 (St.mk [(0, AV.val Es x0), (5, AV.at_ 1000005 []), (23, AV.val Es x0), (24, AV.val (Ty.int IntKind.i64) (↑(List.length x0) : Int)), (25, AV.val (Ty.int IntKind.i64) (0 : Int))] [(1000005, Ent.own (Ty.slc true (Ty.slc true Ty.bool)) (List.replicate (Int.toNat (↑(List.length x0) : Int)) []))])))) := by kernel_rfl
def Eahead_s6 (v0 : List (Int × Int × Int × Unit)) (v23 : List (Int × Int × Int × Unit)) (v24 : Int) (v25 : Int) (o1000005 : List (List Bool)) : St := St.mk [(0, AV.val Es v0), (5, AV.at_ 1000005 []), (23, AV.val Es v23), (24, AV.val (Ty.int IntKind.i64) v24), (25, AV.val (Ty.int IntKind.i64) v25)] [(1000005, Ent.own (Ty.slc true (Ty.slc true Ty.bool)) o1000005)]
theorem Eahead_l6 (v0 : List (Int × Int × Int × Unit)) (v23 : List (Int × Int × Int × Unit)) (v24 : Int) (v25 : Int) (o1000005 : List (List Bool)) : exec Eahead 1000 (.code (loopAt (bodyOf Try.prog 33) 6).1 :: .inLoop (loopAt (bodyOf Try.prog 33) 6).1 :: (loopAt (bodyOf Try.prog 33) 6).2) (Eahead_s6 v0 v23 v24 v25 o1000005) =
  cond (decide (v25 < v24)) (.need ((0 : Int) ≤ v25 ∧ v25 < (↑(List.length v23) : Int)) (.need ((0 : Int) ≤ (↑(List.length v0) : Int) ∧ (↑(List.length v0) : Int) ≤ (↑(List.length v0) : Int) ∧ (↑(List.length v0) : Int) ≤ (140737488355328 : Int) ∧ (↑(List.length v0) : Int) * (↑(Ty.wb Ty.bool) : Int) ≤ (140737488355328 : Int)) (.need ((0 : Int) ≤ v25 ∧ v25 < (↑(List.length o1000005) : Int)) (.need ((0 : Int) ≤ (0 : Int) ∧ (0 : Int) ≤ v25 ∧ v25 ≤ (↑(List.length v0) : Int)) (.cut (loopAt (bodyOf Try.prog 33) 10).1 (loopAt (bodyOf Try.prog 33) 10).2 (St.mk [(0, AV.val Es v0), (5, AV.at_ 1000005 []), (6, AV.val (Ty.int IntKind.i64) v25), (7, AV.ptr 7 []), (23, AV.val Es v23), (24, AV.val (Ty.int IntKind.i64) v24), (25, AV.val (Ty.int IntKind.i64) v25), (38, AV.val Es (cut2 (0 : Int) v25 v0)), (39, AV.val (Ty.int IntKind.i64) (↑(List.length (cut2 (0 : Int) v25 v0)) : Int)), (40, AV.val (Ty.int IntKind.i64) (0 : Int))] [(7, Ent.var Event (List.getD v23 (Int.toNat v25) ((0 : Int), (0 : Int), (0 : Int), ()))), (1000005, Ent.own (Ty.slc true (Ty.slc true Ty.bool)) (List.set o1000005 (Int.toNat v25) (List.replicate (Int.toNat (↑(List.length v0) : Int)) false)))])))))) (.cut (loopAt (bodyOf Try.prog 33) 23).1 (loopAt (bodyOf Try.prog 33) 23).2 (St.mk [(0, AV.val Es v0), (5, AV.at_ 1000005 []), (12, AV.at_ 1000012 []), (104, AV.val (Ty.int IntKind.i64) (↑(List.length v0) : Int)), (105, AV.val (Ty.int IntKind.i64) (0 : Int))] [(1000005, Ent.own (Ty.slc true (Ty.slc true Ty.bool)) o1000005), (1000012, Ent.own (Ty.slc true PairT) [])])) := by kernel_rfl
def Eahead_s10 (v0 : List (Int × Int × Int × Unit)) (v6 : Int) (v23 : List (Int × Int × Int × Unit)) (v24 : Int) (v25 : Int) (v38 : List (Int × Int × Int × Unit)) (v39 : Int) (v40 : Int) (o7_1 : Int) (o7_2_1 : Int) (o7_2_2_1 : Int) (o1000005 : List (List Bool)) : St := St.mk [(0, AV.val Es v0), (5, AV.at_ 1000005 []), (6, AV.val (Ty.int IntKind.i64) v6), (7, AV.ptr 7 []), (23, AV.val Es v23), (24, AV.val (Ty.int IntKind.i64) v24), (25, AV.val (Ty.int IntKind.i64) v25), (38, AV.val Es v38), (39, AV.val (Ty.int IntKind.i64) v39), (40, AV.val (Ty.int IntKind.i64) v40)] [(7, Ent.var Event (o7_1, o7_2_1, o7_2_2_1, ())), (1000005, Ent.own (Ty.slc true (Ty.slc true Ty.bool)) o1000005)]
theorem Eahead_l10 (v0 : List (Int × Int × Int × Unit)) (v6 : Int) (v23 : List (Int × Int × Int × Unit)) (v24 : Int) (v25 : Int) (v38 : List (Int × Int × Int × Unit)) (v39 : Int) (v40 : Int) (o7_1 : Int) (o7_2_1 : Int) (o7_2_2_1 : Int) (o1000005 : List (List Bool)) : exec Eahead 1000 (.code (loopAt (bodyOf Try.prog 33) 10).1 :: .inLoop (loopAt (bodyOf Try.prog 33) 10).1 :: (loopAt (bodyOf Try.prog 33) 10).2) (Eahead_s10 v0 v6 v23 v24 v25 v38 v39 v40 o7_1 o7_2_1 o7_2_2_1 o1000005) =
  cond (decide (v40 < v39)) (.need ((0 : Int) ≤ v40 ∧ v40 < (↑(List.length v38) : Int)) (cond (decide (Prod.fst (List.getD v38 (Int.toNat v40) ((0 : Int), (0 : Int), (0 : Int), ())) ≠ o7_1)) (cond (decide (Prod.fst (Prod.snd (List.getD v38 (Int.toNat v40) ((0 : Int), (0 : Int), (0 : Int), ()))) = (2 : Int))) (cond (decide (o7_2_1 = (3 : Int))) (cond (!decide (Prod.fst (Prod.snd (Prod.snd (List.getD v38 (Int.toNat v40) ((0 : Int), (0 : Int), (0 : Int), ())))) = o7_2_2_1)) (.need (inK IntKind.i64 (v40 + (1 : Int))) (.cut (loopAt (bodyOf Try.prog 33) 10).1 (loopAt (bodyOf Try.prog 33) 10).2 (St.mk [(0, AV.val Es v0), (5, AV.at_ 1000005 []), (6, AV.val (Ty.int IntKind.i64) v6), (7, AV.ptr 7 []), (23, AV.val Es v23), (24, AV.val (Ty.int IntKind.i64) v24), (25, AV.val (Ty.int IntKind.i64) v25), (38, AV.val Es v38), (39, AV.val (Ty.int IntKind.i64) v39), (40, AV.val (Ty.int IntKind.i64) (v40 + (1 : Int)))] [(7, Ent.var Event (o7_1, o7_2_1, o7_2_2_1, ())), (1000005, Ent.own (Ty.slc true (Ty.slc true Ty.bool)) o1000005)]))) (.need ((0 : Int) ≤ v6 ∧ v6 < (↑(List.length o1000005) : Int)) (.need ((0 : Int) ≤ v40 ∧ v40 < (↑(List.length (List.getD o1000005 (Int.toNat v6) [])) : Int)) (.need ((0 : Int) ≤ v40 ∧ v40 < (↑(List.length (List.set o1000005 (Int.toNat v6) (List.set (List.getD o1000005 (Int.toNat v6) []) (Int.toNat v40) true))) : Int)) (.cut (loopAt (bodyOf Try.prog 33) 15).1 (loopAt (bodyOf Try.prog 33) 15).2 (St.mk [(0, AV.val Es v0), (5, AV.at_ 1000005 []), (6, AV.val (Ty.int IntKind.i64) v6), (7, AV.ptr 7 []), (23, AV.val Es v23), (24, AV.val (Ty.int IntKind.i64) v24), (25, AV.val (Ty.int IntKind.i64) v25), (38, AV.val Es v38), (39, AV.val (Ty.int IntKind.i64) v39), (40, AV.val (Ty.int IntKind.i64) v40), (77, AV.at_ 1000005 [Step.idx v40]), (78, AV.val (Ty.int IntKind.i64) (↑(List.length (List.getD (List.set o1000005 (Int.toNat v6) (List.set (List.getD o1000005 (Int.toNat v6) []) (Int.toNat v40) true)) (Int.toNat v40) [])) : Int)), (79, AV.val (Ty.int IntKind.i64) (0 : Int))] [(7, Ent.var Event (o7_1, o7_2_1, o7_2_2_1, ())), (1000005, Ent.own (Ty.slc true (Ty.slc true Ty.bool)) (List.set o1000005 (Int.toNat v6) (List.set (List.getD o1000005 (Int.toNat v6) []) (Int.toNat v40) true)))])))))) (.need (inK IntKind.i64 (v40 + (1 : Int))) (.cut (loopAt (bodyOf Try.prog 33) 10).1 (loopAt (bodyOf Try.prog 33) 10).2 (St.mk [(0, AV.val Es v0), (5, AV.at_ 1000005 []), (6, AV.val (Ty.int IntKind.i64) v6), (7, AV.ptr 7 []), (23, AV.val Es v23), (24, AV.val (Ty.int IntKind.i64) v24), (25, AV.val (Ty.int IntKind.i64) v25), (38, AV.val Es v38), (39, AV.val (Ty.int IntKind.i64) v39), (40, AV.val (Ty.int IntKind.i64) (v40 + (1 : Int)))] [(7, Ent.var Event (o7_1, o7_2_1, o7_2_2_1, ())), (1000005, Ent.own (Ty.slc true (Ty.slc true Ty.bool)) o1000005)])))) (.need (inK IntKind.i64 (v40 + (1 : Int))) (.cut (loopAt (bodyOf Try.prog 33) 10).1 (loopAt (bodyOf Try.prog 33) 10).2 (St.mk [(0, AV.val Es v0), (5, AV.at_ 1000005 []), (6, AV.val (Ty.int IntKind.i64) v6), (7, AV.ptr 7 []), (23, AV.val Es v23), (24, AV.val (Ty.int IntKind.i64) v24), (25, AV.val (Ty.int IntKind.i64) v25), (38, AV.val Es v38), (39, AV.val (Ty.int IntKind.i64) v39), (40, AV.val (Ty.int IntKind.i64) (v40 + (1 : Int)))] [(7, Ent.var Event (o7_1, o7_2_1, o7_2_2_1, ())), (1000005, Ent.own (Ty.slc true (Ty.slc true Ty.bool)) o1000005)])))) (.need ((0 : Int) ≤ v6 ∧ v6 < (↑(List.length o1000005) : Int)) (.need ((0 : Int) ≤ v40 ∧ v40 < (↑(List.length (List.getD o1000005 (Int.toNat v6) [])) : Int)) (.need ((0 : Int) ≤ v40 ∧ v40 < (↑(List.length (List.set o1000005 (Int.toNat v6) (List.set (List.getD o1000005 (Int.toNat v6) []) (Int.toNat v40) true))) : Int)) (.cut (loopAt (bodyOf Try.prog 33) 15).1 (loopAt (bodyOf Try.prog 33) 15).2 (St.mk [(0, AV.val Es v0), (5, AV.at_ 1000005 []), (6, AV.val (Ty.int IntKind.i64) v6), (7, AV.ptr 7 []), (23, AV.val Es v23), (24, AV.val (Ty.int IntKind.i64) v24), (25, AV.val (Ty.int IntKind.i64) v25), (38, AV.val Es v38), (39, AV.val (Ty.int IntKind.i64) v39), (40, AV.val (Ty.int IntKind.i64) v40), (77, AV.at_ 1000005 [Step.idx v40]), (78, AV.val (Ty.int IntKind.i64) (↑(List.length (List.getD (List.set o1000005 (Int.toNat v6) (List.set (List.getD o1000005 (Int.toNat v6) []) (Int.toNat v40) true)) (Int.toNat v40) [])) : Int)), (79, AV.val (Ty.int IntKind.i64) (0 : Int))] [(7, Ent.var Event (o7_1, o7_2_1, o7_2_2_1, ())), (1000005, Ent.own (Ty.slc true (Ty.slc true Ty.bool)) (List.set o1000005 (Int.toNat v6) (List.set (List.getD o1000005 (Int.toNat v6) []) (Int.toNat v40) true)))]))))))) (.need (inK IntKind.i64 (v25 + (1 : Int))) (.cut (loopAt (bodyOf Try.prog 33) 6).1 (loopAt (bodyOf Try.prog 33) 6).2 (St.mk [(0, AV.val Es v0), (5, AV.at_ 1000005 []), (23, AV.val Es v23), (24, AV.val (Ty.int IntKind.i64) v24), (25, AV.val (Ty.int IntKind.i64) (v25 + (1 : Int)))] [(1000005, Ent.own (Ty.slc true (Ty.slc true Ty.bool)) o1000005)]))) := by kernel_rfl
def Eahead_s23 (v0 : List (Int × Int × Int × Unit)) (v104 : Int) (v105 : Int) (o1000005 : List (List Bool)) (o1000012 : List (Int × Int × Unit)) : St := St.mk [(0, AV.val Es v0), (5, AV.at_ 1000005 []), (12, AV.at_ 1000012 []), (104, AV.val (Ty.int IntKind.i64) v104), (105, AV.val (Ty.int IntKind.i64) v105)] [(1000005, Ent.own (Ty.slc true (Ty.slc true Ty.bool)) o1000005), (1000012, Ent.own (Ty.slc true PairT) o1000012)]
theorem Eahead_l23 (v0 : List (Int × Int × Int × Unit)) (v104 : Int) (v105 : Int) (o1000005 : List (List Bool)) (o1000012 : List (Int × Int × Unit)) : exec Eahead 1000 (.code (loopAt (bodyOf Try.prog 33) 23).1 :: .inLoop (loopAt (bodyOf Try.prog 33) 23).1 :: (loopAt (bodyOf Try.prog 33) 23).2) (Eahead_s23 v0 v104 v105 o1000005 o1000012) =
  cond (decide (v105 < v104)) (.cut (loopAt (bodyOf Try.prog 33) 26).1 (loopAt (bodyOf Try.prog 33) 26).2 (St.mk [(0, AV.val Es v0), (5, AV.at_ 1000005 []), (12, AV.at_ 1000012 []), (13, AV.val (Ty.int IntKind.i64) v105), (104, AV.val (Ty.int IntKind.i64) v104), (105, AV.val (Ty.int IntKind.i64) v105), (109, AV.val (Ty.int IntKind.i64) (↑(List.length v0) : Int)), (110, AV.val (Ty.int IntKind.i64) (0 : Int))] [(1000005, Ent.own (Ty.slc true (Ty.slc true Ty.bool)) o1000005), (1000012, Ent.own (Ty.slc true PairT) o1000012)])) (.ret ((o1000012, (0 : Int), ()))) := by kernel_rfl
def Eahead_s15 (v0 : List (Int × Int × Int × Unit)) (v6 : Int) (v23 : List (Int × Int × Int × Unit)) (v24 : Int) (v25 : Int) (v38 : List (Int × Int × Int × Unit)) (v39 : Int) (v40 : Int) (v77i : Int) (v78 : Int) (v79 : Int) (o7_1 : Int) (o7_2_1 : Int) (o7_2_2_1 : Int) (o1000005 : List (List Bool)) : St := St.mk [(0, AV.val Es v0), (5, AV.at_ 1000005 []), (6, AV.val (Ty.int IntKind.i64) v6), (7, AV.ptr 7 []), (23, AV.val Es v23), (24, AV.val (Ty.int IntKind.i64) v24), (25, AV.val (Ty.int IntKind.i64) v25), (38, AV.val Es v38), (39, AV.val (Ty.int IntKind.i64) v39), (40, AV.val (Ty.int IntKind.i64) v40), (77, AV.at_ 1000005 [Step.idx v77i]), (78, AV.val (Ty.int IntKind.i64) v78), (79, AV.val (Ty.int IntKind.i64) v79)] [(7, Ent.var Event (o7_1, o7_2_1, o7_2_2_1, ())), (1000005, Ent.own (Ty.slc true (Ty.slc true Ty.bool)) o1000005)]
theorem Eahead_l15 (v0 : List (Int × Int × Int × Unit)) (v6 : Int) (v23 : List (Int × Int × Int × Unit)) (v24 : Int) (v25 : Int) (v38 : List (Int × Int × Int × Unit)) (v39 : Int) (v40 : Int) (v77i : Int) (v78 : Int) (v79 : Int) (o7_1 : Int) (o7_2_1 : Int) (o7_2_2_1 : Int) (o1000005 : List (List Bool)) : exec Eahead 1000 (.code (loopAt (bodyOf Try.prog 33) 15).1 :: .inLoop (loopAt (bodyOf Try.prog 33) 15).1 :: (loopAt (bodyOf Try.prog 33) 15).2) (Eahead_s15 v0 v6 v23 v24 v25 v38 v39 v40 v77i v78 v79 o7_1 o7_2_1 o7_2_2_1 o1000005) =
  cond (decide (v79 < v78)) (.need ((0 : Int) ≤ v79 ∧ v79 < (↑(List.length (List.getD o1000005 (Int.toNat v77i) [])) : Int)) (.need ((0 : Int) ≤ v6 ∧ v6 < (↑(List.length o1000005) : Int)) (.need ((0 : Int) ≤ v6 ∧ v6 < (↑(List.length o1000005) : Int)) (.need ((0 : Int) ≤ v79 ∧ v79 < (↑(List.length (List.getD o1000005 (Int.toNat v6) [])) : Int)) (cond (List.getD (List.getD o1000005 (Int.toNat v6) []) (Int.toNat v79) false) (.need ((0 : Int) ≤ v79 ∧ v79 < (↑(List.length (List.getD o1000005 (Int.toNat v6) [])) : Int)) (.need (inK IntKind.i64 (v79 + (1 : Int))) (.cut (loopAt (bodyOf Try.prog 33) 15).1 (loopAt (bodyOf Try.prog 33) 15).2 (St.mk [(0, AV.val Es v0), (5, AV.at_ 1000005 []), (6, AV.val (Ty.int IntKind.i64) v6), (7, AV.ptr 7 []), (23, AV.val Es v23), (24, AV.val (Ty.int IntKind.i64) v24), (25, AV.val (Ty.int IntKind.i64) v25), (38, AV.val Es v38), (39, AV.val (Ty.int IntKind.i64) v39), (40, AV.val (Ty.int IntKind.i64) v40), (77, AV.at_ 1000005 [Step.idx v77i]), (78, AV.val (Ty.int IntKind.i64) v78), (79, AV.val (Ty.int IntKind.i64) (v79 + (1 : Int)))] [(7, Ent.var Event (o7_1, o7_2_1, o7_2_2_1, ())), (1000005, Ent.own (Ty.slc true (Ty.slc true Ty.bool)) (List.set o1000005 (Int.toNat v6) (List.set (List.getD o1000005 (Int.toNat v6) []) (Int.toNat v79) true)))])))) (.need ((0 : Int) ≤ v79 ∧ v79 < (↑(List.length (List.getD o1000005 (Int.toNat v6) [])) : Int)) (.need (inK IntKind.i64 (v79 + (1 : Int))) (.cut (loopAt (bodyOf Try.prog 33) 15).1 (loopAt (bodyOf Try.prog 33) 15).2 (St.mk [(0, AV.val Es v0), (5, AV.at_ 1000005 []), (6, AV.val (Ty.int IntKind.i64) v6), (7, AV.ptr 7 []), (23, AV.val Es v23), (24, AV.val (Ty.int IntKind.i64) v24), (25, AV.val (Ty.int IntKind.i64) v25), (38, AV.val Es v38), (39, AV.val (Ty.int IntKind.i64) v39), (40, AV.val (Ty.int IntKind.i64) v40), (77, AV.at_ 1000005 [Step.idx v77i]), (78, AV.val (Ty.int IntKind.i64) v78), (79, AV.val (Ty.int IntKind.i64) (v79 + (1 : Int)))] [(7, Ent.var Event (o7_1, o7_2_1, o7_2_2_1, ())), (1000005, Ent.own (Ty.slc true (Ty.slc true Ty.bool)) (List.set o1000005 (Int.toNat v6) (List.set (List.getD o1000005 (Int.toNat v6) []) (Int.toNat v79) (List.getD (List.getD o1000005 (Int.toNat v77i) []) (Int.toNat v79) false))))]))))))))) (.need (inK IntKind.i64 (v40 + (1 : Int))) (.cut (loopAt (bodyOf Try.prog 33) 10).1 (loopAt (bodyOf Try.prog 33) 10).2 (St.mk [(0, AV.val Es v0), (5, AV.at_ 1000005 []), (6, AV.val (Ty.int IntKind.i64) v6), (7, AV.ptr 7 []), (23, AV.val Es v23), (24, AV.val (Ty.int IntKind.i64) v24), (25, AV.val (Ty.int IntKind.i64) v25), (38, AV.val Es v38), (39, AV.val (Ty.int IntKind.i64) v39), (40, AV.val (Ty.int IntKind.i64) (v40 + (1 : Int)))] [(7, Ent.var Event (o7_1, o7_2_1, o7_2_2_1, ())), (1000005, Ent.own (Ty.slc true (Ty.slc true Ty.bool)) o1000005)]))) := by kernel_rfl
def Eahead_s26 (v0 : List (Int × Int × Int × Unit)) (v13 : Int) (v104 : Int) (v105 : Int) (v109 : Int) (v110 : Int) (o1000005 : List (List Bool)) (o1000012 : List (Int × Int × Unit)) : St := St.mk [(0, AV.val Es v0), (5, AV.at_ 1000005 []), (12, AV.at_ 1000012 []), (13, AV.val (Ty.int IntKind.i64) v13), (104, AV.val (Ty.int IntKind.i64) v104), (105, AV.val (Ty.int IntKind.i64) v105), (109, AV.val (Ty.int IntKind.i64) v109), (110, AV.val (Ty.int IntKind.i64) v110)] [(1000005, Ent.own (Ty.slc true (Ty.slc true Ty.bool)) o1000005), (1000012, Ent.own (Ty.slc true PairT) o1000012)]
theorem Eahead_l26 (v0 : List (Int × Int × Int × Unit)) (v13 : Int) (v104 : Int) (v105 : Int) (v109 : Int) (v110 : Int) (o1000005 : List (List Bool)) (o1000012 : List (Int × Int × Unit)) : exec Eahead 1000 (.code (loopAt (bodyOf Try.prog 33) 26).1 :: .inLoop (loopAt (bodyOf Try.prog 33) 26).1 :: (loopAt (bodyOf Try.prog 33) 26).2) (Eahead_s26 v0 v13 v104 v105 v109 v110 o1000005 o1000012) =
  cond (decide (v110 < v109)) (.need ((0 : Int) ≤ v110 ∧ v110 < (↑(List.length o1000005) : Int)) (.need ((0 : Int) ≤ v13 ∧ v13 < (↑(List.length (List.getD o1000005 (Int.toNat v110) [])) : Int)) (cond (List.getD (List.getD o1000005 (Int.toNat v110) []) (Int.toNat v13) false) (.need (List.length o1000012 + List.length (List.set [((0 : Int), (0 : Int), ())] (Int.toNat (↑0 : Int)) (v13, v110, ())) ≤ 140737488355328 ∧ (List.length o1000012 + List.length (List.set [((0 : Int), (0 : Int), ())] (Int.toNat (↑0 : Int)) (v13, v110, ()))) * Ty.wb PairT ≤ 140737488355328) (.need (inK IntKind.i64 (v110 + (1 : Int))) (.cut (loopAt (bodyOf Try.prog 33) 26).1 (loopAt (bodyOf Try.prog 33) 26).2 (St.mk [(0, AV.val Es v0), (5, AV.at_ 1000005 []), (12, AV.at_ 1000012 []), (13, AV.val (Ty.int IntKind.i64) v13), (104, AV.val (Ty.int IntKind.i64) v104), (105, AV.val (Ty.int IntKind.i64) v105), (109, AV.val (Ty.int IntKind.i64) v109), (110, AV.val (Ty.int IntKind.i64) (v110 + (1 : Int)))] [(1000005, Ent.own (Ty.slc true (Ty.slc true Ty.bool)) o1000005), (1000012, Ent.own (Ty.slc true PairT) (o1000012 ++ List.set [((0 : Int), (0 : Int), ())] (Int.toNat (↑0 : Int)) (v13, v110, ())))])))) (.need (inK IntKind.i64 (v110 + (1 : Int))) (.cut (loopAt (bodyOf Try.prog 33) 26).1 (loopAt (bodyOf Try.prog 33) 26).2 (St.mk [(0, AV.val Es v0), (5, AV.at_ 1000005 []), (12, AV.at_ 1000012 []), (13, AV.val (Ty.int IntKind.i64) v13), (104, AV.val (Ty.int IntKind.i64) v104), (105, AV.val (Ty.int IntKind.i64) v105), (109, AV.val (Ty.int IntKind.i64) v109), (110, AV.val (Ty.int IntKind.i64) (v110 + (1 : Int)))] [(1000005, Ent.own (Ty.slc true (Ty.slc true Ty.bool)) o1000005), (1000012, Ent.own (Ty.slc true PairT) o1000012)])))))) (.need (inK IntKind.i64 (v105 + (1 : Int))) (.cut (loopAt (bodyOf Try.prog 33) 23).1 (loopAt (bodyOf Try.prog 33) 23).2 (St.mk [(0, AV.val Es v0), (5, AV.at_ 1000005 []), (12, AV.at_ 1000012 []), (104, AV.val (Ty.int IntKind.i64) v104), (105, AV.val (Ty.int IntKind.i64) (v105 + (1 : Int)))] [(1000005, Ent.own (Ty.slc true (Ty.slc true Ty.bool)) o1000005), (1000012, Ent.own (Ty.slc true PairT) o1000012)]))) := by kernel_rfl

theorem hbTab_eq {h : List Ev} : ∀ {n b : Nat}, b < n → ∀ k, hbTab h n b k = hb h b k
  | 0, _, hb, _ => by omega
  | n + 1, b, hlt, k => by
    by_cases e : b = n
    · subst e; rfl
    · simp only [hbTab, if_neg e]; exact hbTab_eq (by omega) k
theorem hbRow_congr {h : List Ev} {T T' : Nat → Nat → Bool} {b : Nat} : ∀ {a : Nat}, (∀ c, c < a → ∀ k, T c k = T' c k) → ∀ k, hbRow h T b a k = hbRow h T' b a k
  | 0, _, _ => rfl
  | a + 1, hT, k => by simp only [hbRow, hbRow_congr (a := a) (fun c hc => hT c (by omega)), hT a (by omega)]
theorem hb_row {h : List Ev} {b k : Nat} : hb h b k = hbRow h (hb h) b b k := by
  rw [hb, hbTab, if_pos rfl]
  exact hbRow_congr (fun c hc k => hbTab_eq hc k) k
theorem hbRow_iff {h : List Ev} {T : Nat → Nat → Bool} {b k : Nat} : ∀ {a : Nat}, hbRow h T b a k = true ↔ ∃ c, c < a ∧ edgeB h c b = true ∧ (k = c ∨ T c k = true)
  | 0 => by simp [hbRow]
  | a + 1 => by
    simp only [hbRow, Bool.or_eq_true, Bool.and_eq_true, decide_eq_true_eq, hbRow_iff (a := a)]
    constructor
    · rintro (⟨c, a1, a2⟩ | ⟨a1, a2⟩)
      · exact ⟨c, by omega, a2⟩
      · exact ⟨a, by omega, a1, a2⟩
    · rintro ⟨c, a1, a2, a3⟩
      by_cases e : c = a
      · subst e; exact .inr ⟨a2, a3⟩
      · exact .inl ⟨c, by omega, a2, a3⟩
theorem hb_iff {h : List Ev} {b k : Nat} : hb h b k = true ↔ ∃ c, c < b ∧ edgeB h c b = true ∧ (k = c ∨ hb h c k = true) := by rw [hb_row, hbRow_iff]

/-! the table, as it grows -/
def rowL (h : List Ev) (b : Nat) : List Bool := (List.range h.length).map (hb h b)
def rowP (h : List Ev) (b a : Nat) : List Bool := (List.range h.length).map (hbRow h (hb h) b a)
/-- behind k's turn, when a is ahead of b -/
def rowQ (h : List Ev) (b a k : Nat) : List Bool := (List.range h.length).map (fun j => hbRow h (hb h) b a j || decide (j = a) || (decide (j < k) && hb h a j))
def tabL (h : List Ev) (b : Nat) (r : List Bool) : List (List Bool) := (List.range b).map (rowL h) ++ r :: List.replicate (h.length - (b + 1)) []
theorem rowP_done {h : List Ev} {b : Nat} : rowP h b b = rowL h b := by
  refine List.map_congr_left (fun k _ => ?_)
  exact hb_row.symm
theorem rowP_zero {h : List Ev} {b : Nat} : rowP h b 0 = List.replicate h.length false := by
  refine List.ext_getElem (by simp [rowP]) (fun i h1 h2 => ?_)
  simp [rowP, hbRow]
theorem getD_map_range {α : Type} {n i : Nat} (f : Nat → α) (d : α) (hi : i < n) : ((List.range n).map f).getD i d = f i := by
  rw [List.getD_eq_getElem?_getD, List.getElem?_map, List.getElem?_range hi]; rfl
theorem set_map_range {α : Type} {n i : Nat} (f : Nat → α) (x : α) (hi : i < n) : ((List.range n).map f).set i x = (List.range n).map (fun j => if j = i then x else f j) := by
  refine List.ext_getElem (by simp) (fun j h1 h2 => ?_)
  rw [List.getElem_set]
  simp only [List.getElem_map, List.getElem_range]
  by_cases e : i = j
  · rw [if_pos e, if_pos e.symm]
  · rw [if_neg e, if_neg (fun h => e h.symm)]
theorem rowQ_zero {h : List Ev} {b a : Nat} (ha : a < h.length) : (rowP h b a).set a true = rowQ h b a 0 := by
  rw [rowP, set_map_range _ _ ha]
  refine List.map_congr_left (fun j _ => ?_)
  by_cases e : j = a
  · simp [e]
  · simp [e]
theorem rowQ_step {h : List Ev} {b a k : Nat} (hk : k < h.length) : (rowQ h b a k).set k ((rowQ h b a k).getD k false || hb h a k) = rowQ h b a (k + 1) := by
  rw [rowQ, getD_map_range _ _ hk, set_map_range _ _ hk]
  refine List.map_congr_left (fun j _ => ?_)
  by_cases e : j = k
  · subst e
    rw [if_pos rfl]
    simp [show ¬ j < j by omega, show j < j + 1 by omega]
  · rw [if_neg e, show decide (j < k + 1) = decide (j < k) from decide_eq_decide.2 (by omega)]
theorem rowQ_done {h : List Ev} {b a : Nat} (he : edgeB h a b = true) : rowQ h b a h.length = rowP h b (a + 1) := by
  refine List.map_congr_left (fun j hj => ?_)
  have hj : j < h.length := List.mem_range.1 hj
  simp [hbRow, he, hj, Bool.or_assoc]
theorem rowP_skip {h : List Ev} {b a : Nat} (he : edgeB h a b = false) : rowP h b (a + 1) = rowP h b a := by
  refine List.map_congr_left (fun j _ => ?_)
  simp [hbRow, he]
theorem tabL_len {h : List Ev} {b : Nat} {r : List Bool} (hb : b < h.length) : (tabL h b r).length = h.length := by simp [tabL]; omega
theorem tabL_at {h : List Ev} {b : Nat} {r : List Bool} : (tabL h b r).getD b [] = r := by
  rw [tabL, List.getD_eq_getElem?_getD, List.getElem?_append_right (by simp)]; simp
theorem tabL_old {h : List Ev} {b a : Nat} {r : List Bool} (hab : a < b) : (tabL h b r).getD a [] = rowL h a := by
  rw [tabL, List.getD_eq_getElem?_getD, List.getElem?_append_left (by simpa using hab), List.getElem?_map, List.getElem?_range hab]; rfl
theorem tabL_set {h : List Ev} {b : Nat} {r x : List Bool} : (tabL h b r).set b x = tabL h b x := by
  rw [tabL, List.set_append, if_neg (by simp)]; simp [tabL]
theorem tab_first {h : List Ev} {b : Nat} (hb : b < h.length) (x : List Bool) : ((List.range b).map (rowL h) ++ List.replicate (h.length - b) []).set b x = tabL h b x := by
  rw [List.set_append, if_neg (by simp), show h.length - b = (h.length - (b + 1)) + 1 by omega, List.replicate_succ]; simp [tabL]
theorem tab_next {h : List Ev} {b : Nat} (hb : b < h.length) : tabL h b (rowL h b) = (List.range (b + 1)).map (rowL h) ++ List.replicate (h.length - (b + 1)) [] := by
  rw [tabL, List.range_succ, List.map_append, List.append_assoc]; rfl
theorem rowL_len {h : List Ev} {a : Nat} : (rowL h a).length = h.length := by simp [rowL]
theorem rowP_len {h : List Ev} {b a : Nat} : (rowP h b a).length = h.length := by simp [rowP]
theorem rowQ_len {h : List Ev} {b a k : Nat} : (rowQ h b a k).length = h.length := by simp [rowQ]
theorem rowL_at {h : List Ev} {a k : Nat} (hk : k < h.length) : (rowL h a).getD k false = hb h a k := getD_map_range _ _ hk
theorem take_getD {α : Type} {l : List α} {a b : Nat} {d : α} (h : a < b) : (l.take b).getD a d = l.getD a d := by
  rw [List.getD_eq_getElem?_getD, List.getD_eq_getElem?_getD, List.getElem?_take, if_pos h]
theorem rowPairs_len {h : List Ev} {a : Nat} : ∀ {b : Nat}, (rowPairs h a b).length ≤ b
  | 0 => by simp [rowPairs]
  | b + 1 => by
    have := rowPairs_len (h := h) (a := a) (b := b)
    simp only [rowPairs, List.length_append]
    split <;> simp <;> omega
theorem allPairs_len {h : List Ev} {n : Nat} (hn : n ≤ 60) : ∀ {a : Nat}, (allPairs h n a).length ≤ a * 60
  | 0 => by simp [allPairs]
  | a + 1 => by
    have h1 := allPairs_len (h := h) hn (a := a)
    have h2 := rowPairs_len (h := h) (a := a) (b := n)
    simp only [allPairs, List.length_append]
    omega
theorem cut_take {α : Type} (l : List α) (n : Nat) : cut2 0 (n : Int) l = l.take n := by simp [cut2]
theorem wb_slc (o : Bool) (t : Ty) : Ty.wb (.slc o t) = 24 := rfl
theorem wb_bool : Ty.wb .bool = 1 := rfl

theorem cahead_valid : cahead.Valid Try.prog 33 := by
  refine Ctr.valid_of Eahead_ok rfl rfl Try.func33 (c := bodyOf Try.prog 33) rfl rfl Fahead_ok rfl ?_
  rintro ⟨(h : List Ev), ⟨⟩⟩ - -
  refine exec_sound (n := 1000) Eahead_ok Fahead_ok ?_
  refine holds_of_eq (Eahead_t h) ?_
  simp only [holds_cond, Tree.holds, true_and, true_implies, decide_eq_true_eq, decide_eq_false_iff_not, Bool.not_eq_true', Bool.not_eq_false', Int.toNat_natCast, inK_i64, List.length_set, List.length_cons, List.length_nil, wb_slc]
  refine ⟨fun a => ?_, fun a => ?_⟩
  · show (([], scheck h, ()) : List (Int × Int × Unit) × Int × Unit) = aheadF h; rw [aheadF, if_pos a]
  have hh : scheck h = 0 := Decidable.of_not_not a
  have hl := (scheck_ok hh).1
  refine ⟨⟨by omega, by omega, by omega, by omega⟩, fun _ => ?_⟩
  refine Reach.loopI Eahead_ok Fahead_ok (fun b : Nat => Eahead_s6 h h (h.length : Int) (b : Int) ((List.range b).map (rowL h) ++ List.replicate (h.length - b) [])) (fun b => b ≤ h.length)
    (fun b => h.length - b) 1000 (fun _ => ⟨uniq_of rfl, uniq_of rfl⟩) ?_ 0 (by omega)
  rintro b kb - ihb
  refine holds_of_eq (Eahead_l6 ..) ?_
  simp only [holds_cond, Tree.holds, true_and, true_implies, decide_eq_true_eq, decide_eq_false_iff_not, Bool.not_eq_true', Bool.not_eq_false', Int.toNat_natCast, inK_i64, List.length_set, List.length_cons, List.length_nil, wb_slc, wb_bool, List.length_append, List.length_map, List.length_range, List.length_replicate]
  have hk : inK .i64 ((b : Int) + 1) := inK_i64.2 ⟨by omega, by omega⟩
  refine ⟨fun hb => ⟨by omega, fun _ => ⟨⟨by omega, by omega, by omega, by omega⟩, fun _ => ⟨by omega, fun _ => ⟨⟨by omega, by omega⟩, fun _ => ?_⟩⟩⟩⟩, fun hb => ?_⟩
  · have hb : b < h.length := by omega
    rw [tab_first hb, ← rowP_zero (h := h) (b := b), cut_take]
    refine Reach.loopI Eahead_ok Fahead_ok (fun a : Nat => Eahead_s10 h (b : Int) h (h.length : Int) (b : Int) (h.take b) ((h.take b).length : Int) (a : Int) (h.getD b e0).1 (h.getD b e0).2.1 (h.getD b e0).2.2.1 (tabL h b (rowP h b a))) (fun a => a ≤ b)
      (fun a => b - a) 1000 (fun _ => ⟨uniq_of rfl, uniq_of rfl⟩) ?_ 0 (by omega)
    rintro a ka - iha
    refine holds_of_eq (Eahead_l10 ..) ?_
    have htl : (h.take b).length = b := by simp; omega
    simp only [holds_cond, Tree.holds, true_and, true_implies, decide_eq_true_eq, decide_eq_false_iff_not, Bool.not_eq_true', Bool.not_eq_false', Int.toNat_natCast, inK_i64, List.length_set, List.length_cons, List.length_nil, htl, tabL_len hb, tabL_at, rowP_len, tabL_set]
    have hke : a < b → ∀ {P : Prop}, inK .i64 ((a : Int) + 1) := fun h _ => inK_i64.2 ⟨by omega, by omega⟩
    refine ⟨fun hab => ⟨by omega, fun _ => ?_⟩, fun hab => ⟨by omega, fun _ => ?_⟩⟩
    · have hab : a < b := by omega
      rw [take_getD hab]
      rw [show ((tabL h b ((rowP h b a).set a true)).getD a []).length = h.length by rw [tabL_old hab, rowL_len]]
      have hin : edgeB h a b = true → Ex.Reach Eahead Try.f33 (aheadF h) () (.code (loopAt (bodyOf Try.prog 33) 15).1 :: .inLoop (loopAt (bodyOf Try.prog 33) 15).1 :: (loopAt (bodyOf Try.prog 33) 15).2)
          (Eahead_s15 h (b : Int) h (h.length : Int) (b : Int) (h.take b) (b : Int) (a : Int) (a : Int) (h.length : Int) 0 (h.getD b e0).1 (h.getD b e0).2.1 (h.getD b e0).2.2.1 (tabL h b ((rowP h b a).set a true))) := by
        intro he
        rw [rowQ_zero (by omega)]
        refine Reach.loopI Eahead_ok Fahead_ok (fun k : Nat => Eahead_s15 h (b : Int) h (h.length : Int) (b : Int) (h.take b) (b : Int) (a : Int) (a : Int) (h.length : Int) (k : Int) (h.getD b e0).1 (h.getD b e0).2.1 (h.getD b e0).2.2.1 (tabL h b (rowQ h b a k))) (fun k => k ≤ h.length)
          (fun k => h.length - k) 1000 (fun _ => ⟨uniq_of rfl, uniq_of rfl⟩) ?_ 0 (by omega)
        rintro k kk - ihk
        refine holds_of_eq (Eahead_l15 ..) ?_
        simp only [holds_cond, Tree.holds, true_and, true_implies, decide_eq_true_eq, decide_eq_false_iff_not, Bool.not_eq_true', Bool.not_eq_false', Int.toNat_natCast, inK_i64, List.length_set, List.length_cons, List.length_nil, tabL_len hb, tabL_at, tabL_old hab, rowQ_len, rowL_len, tabL_set]
        refine ⟨fun hkl => ?_, fun hkl => ⟨by omega, fun _ => ?_⟩⟩
        · have hkl : k < h.length := by omega
          have h9 := ihk (k + 1) (by omega) (by omega)
          rw [← rowQ_step hkl] at h9
          rw [rowL_at hkl]
          refine ⟨by omega, fun _ => ⟨by omega, fun _ => ⟨by omega, fun _ => ⟨by omega, fun _ => ⟨fun hr => ⟨by omega, fun _ => ⟨by omega, fun _ => ?_⟩⟩, fun hr => ⟨by omega, fun _ => ⟨by omega, fun _ => ?_⟩⟩⟩⟩⟩⟩⟩
          · rw [hr, Bool.true_or] at h9; exact h9
          · rw [hr, Bool.false_or] at h9; exact h9
        · have hkl : k = h.length := by omega
          subst hkl
          rw [rowQ_done he]
          have h9 := iha (a + 1) (by omega) (by omega)
          rw [htl] at h9
          exact h9
      have hsk : edgeB h a b = false → Ex.Reach Eahead Try.f33 (aheadF h) () (.code (loopAt (bodyOf Try.prog 33) 10).1 :: .inLoop (loopAt (bodyOf Try.prog 33) 10).1 :: (loopAt (bodyOf Try.prog 33) 10).2)
          (Eahead_s10 h (b : Int) h (h.length : Int) (b : Int) (h.take b) (b : Int) ((a : Int) + 1) (h.getD b e0).1 (h.getD b e0).2.1 (h.getD b e0).2.2.1 (tabL h b (rowP h b a))) := by
        intro he
        have h9 := iha (a + 1) (by omega) (by omega)
        rw [rowP_skip he, htl] at h9
        exact h9
      have hK : -9223372036854775808 ≤ (a : Int) + 1 ∧ (a : Int) + 1 ≤ 9223372036854775807 := by omega
      refine ⟨fun e1 => ⟨fun e2 => ⟨fun e3 => ⟨fun e4 => ⟨hK, fun _ => hsk (by simp [edgeB, -List.getD_eq_getElem?_getD, e1, e4])⟩, fun e4 => ⟨by omega, fun _ => ⟨by omega, fun _ => ⟨by omega, fun _ => hin (by simp [edgeB, -List.getD_eq_getElem?_getD, e2, e3, e4])⟩⟩⟩⟩,
        fun e3 => ⟨hK, fun _ => hsk (by simp [edgeB, -List.getD_eq_getElem?_getD, e1, e3])⟩⟩, fun e2 => ⟨hK, fun _ => hsk (by simp [edgeB, -List.getD_eq_getElem?_getD, e1, e2])⟩⟩, fun e1 => ⟨by omega, fun _ => ⟨by omega, fun _ => ⟨by omega, fun _ => hin (by simp [edgeB, -List.getD_eq_getElem?_getD, Decidable.of_not_not e1])⟩⟩⟩⟩
    · have hab : a = b := by omega
      subst hab
      rw [rowP_done, tab_next hb]
      exact ihb (a + 1) (by omega) (by omega)
  have hbe : b = h.length := by omega
  subst hbe
  rw [Nat.sub_self, List.replicate_zero, List.append_nil]
  have htl : ((List.range h.length).map (rowL h)).length = h.length := by simp
  clear ihb
  refine Reach.loopI Eahead_ok Fahead_ok (fun a : Nat => Eahead_s23 h (h.length : Int) (a : Int) ((List.range h.length).map (rowL h)) (allPairs h h.length a)) (fun a => a ≤ h.length)
    (fun a => h.length - a) 1000 (fun _ => ⟨uniq_of rfl, uniq_of rfl⟩) ?_ 0 (by omega)
  rintro a ka - iha
  refine holds_of_eq (Eahead_l23 ..) ?_
  simp only [holds_cond, Tree.holds, true_and, true_implies, decide_eq_true_eq, decide_eq_false_iff_not, Bool.not_eq_true', Bool.not_eq_false', Int.toNat_natCast, inK_i64, List.length_set, List.length_cons, List.length_nil]
  refine ⟨fun ha => ?_, fun ha => ?_⟩
  · have ha : a < h.length := by omega
    rw [show allPairs h h.length a = allPairs h h.length a ++ rowPairs h a 0 by simp [rowPairs]]
    refine Reach.loopI Eahead_ok Fahead_ok (fun b : Nat => Eahead_s26 h (a : Int) (h.length : Int) (a : Int) (h.length : Int) (b : Int) ((List.range h.length).map (rowL h)) (allPairs h h.length a ++ rowPairs h a b)) (fun b => b ≤ h.length)
      (fun b => h.length - b) 1000 (fun _ => ⟨uniq_of rfl, uniq_of rfl⟩) ?_ 0 (by omega)
    rintro b kb - ihb
    refine holds_of_eq (Eahead_l26 ..) ?_
    simp only [holds_cond, Tree.holds, true_and, true_implies, decide_eq_true_eq, decide_eq_false_iff_not, Bool.not_eq_true', Bool.not_eq_false', Int.toNat_natCast, inK_i64, List.length_set, List.length_cons, List.length_nil, htl]
    have q1 := allPairs_len (h := h) hl (a := a)
    have q2 := rowPairs_len (h := h) (a := a) (b := b)
    refine ⟨fun hb => ?_, fun hb => ⟨by omega, fun _ => ?_⟩⟩
    · have hb : b < h.length := by omega
      have h9 := ihb (b + 1) (by omega) (by omega)
      rw [getD_map_range _ _ hb, rowL_len, rowL_at ha]
      refine ⟨by omega, fun _ => ⟨by omega, fun _ => ⟨fun hr => ⟨?_, fun _ => ⟨by omega, fun _ => ?_⟩⟩, fun hr => ⟨by omega, fun _ => ?_⟩⟩⟩⟩
      · simp only [List.length_append, wb_pair]; omega
      · rw [rowPairs, if_pos hr, ← List.append_assoc] at h9; exact h9
      · rw [rowPairs, if_neg (by simp [hr]), List.append_nil] at h9; exact h9
    · have hb : b = h.length := by omega
      subst hb
      exact iha (a + 1) (by omega) (by omega)
  · have ha : a = h.length := by omega
    subst ha
    show ((allPairs h h.length h.length, 0, ()) : List (Int × Int × Unit) × Int × Unit) = aheadF h
    rw [aheadF, if_neg (by simp [hh])]
end Go.Proofs.Ytibpibbnnogdkaa
