/- Runs of turns. No condition but those named. -/
import Derived.Test.YtbcdpeogfghgcaaTurnQ
namespace Go.Proofs.Ytbcdpeogfghgcaa
open Go.Ex
set_option maxRecDepth 100000
def mx (n : Int) : Int := if 0 < n then n else 0
def t0 (n : Int) : TurnD := (n, 0, List.replicate (mx n).toNat [], [], List.replicate (mx n).toNat 0, ())
def tgo (s : TurnD × List (List Int)) (b : BeatD) : TurnD × List (List Int) :=
  if (tstep s.1 b).2.2.1 ≠ 0 then s else ((tstep s.1 b).1, if b.1 = 3 ∧ 0 ≤ b.2.1 ∧ b.2.1 < s.2.length then s.2.set b.2.1.toNat (s.2.getD b.2.1.toNat [] ++ [(tstep s.1 b).2.1]) else s.2)
/-- what holds of a run: the state is right, and each is told a beginning of the log -/
structure TInv (n : Int) (s : TurnD × List (List Int)) : Prop where
  ok : TOk s.1
  num : s.1.1 = n
  len : (s.2.length : Int) = n
  told : ∀ p : Nat, (p : Int) < n → s.2.getD p [] = s.1.2.2.2.1.take (s.1.2.2.2.2.1.getD p 0).toNat
theorem TInv.start {n : Int} (h : tcheck (t0 n) = 0) : TInv n (t0 n, List.replicate (mx n).toNat []) := by
  have ok := tcheck_iff.1 h
  have hm : mx n = n := by have := ok.n.1; rw [mx, if_pos (by have h : 1 ≤ n := this; omega)]
  refine ⟨ok, rfl, by show ((List.replicate (mx n).toNat []).length : Int) = n; rw [List.length_replicate, hm]; have h : 1 ≤ n := ok.n.1; omega, fun p hp => ?_⟩
  show (List.replicate (mx n).toNat ([] : List Int)).getD p [] = ([] : List Int).take _
  rw [hm, repF _ _ (by omega), List.take_nil]
theorem TInv.go {n : Int} {s : TurnD × List (List Int)} (h : TInv n s) (b : BeatD) : TInv n (tgo s b) := by
  rw [tgo]
  split
  · exact h
  rename_i e
  have e := Decidable.not_not.1 e
  have hok := tstep_ok h.ok b e
  have hn := h.num
  have hl := h.len
  obtain ⟨⟨h0, h1⟩, ⟨k, h3, h4, h5, h6⟩ | ⟨k, h3, h6⟩ | ⟨k, h3, h6⟩⟩ := tstep_cases h.ok b e
  · rw [if_neg (by rw [k]; rintro ⟨h, _⟩; cases h)]
    refine ⟨hok.1, hok.2.trans hn, hl, fun p hp => ?_⟩
    rw [h6]; exact h.told p hp
  · rw [if_neg (by rw [k]; rintro ⟨h, _⟩; cases h)]
    refine ⟨hok.1, hok.2.trans hn, hl, fun p hp => ?_⟩
    rw [h6]
    show s.2.getD p [] = (tlog (s.1.2.2.1.getD s.1.2.1.toNat []) s.1.2.2.2.1).take (s.1.2.2.2.2.1.getD p 0).toNat
    rw [h.told p hp, tlog, List.take_append_of_le_length]
    have := (h.ok.rows (p := p) (by omega)).1.2; omega
  · rw [if_pos ⟨k, h0, by omega⟩]
    refine ⟨hok.1, hok.2.trans hn, by rw [List.length_set]; exact hl, fun p hp => ?_⟩
    rw [h6]
    have htl := h.ok.told
    have hr := (h.ok.rows (p := b.2.1.toNat) (by omega)).1
    show (s.2.set b.2.1.toNat _).getD p [] = s.1.2.2.2.1.take (((s.1.2.2.2.2.1.set b.2.1.toNat (s.1.2.2.2.2.1.getD b.2.1.toNat 0 + 1)).getD p 0).toNat)
    rw [getD_set (by omega), getD_set (by omega)]
    by_cases q : p = b.2.1.toNat
    · rw [if_pos q, if_pos q, h.told _ (by omega)]
      rw [show (s.1.2.2.2.2.1.getD b.2.1.toNat 0 + 1).toNat = (s.1.2.2.2.2.1.getD b.2.1.toNat 0).toNat + 1 by omega, take_s (by omega) 0]
    · rw [if_neg q, if_neg q]; exact h.told p hp
theorem TInv.run {n : Int} : ∀ {l : List BeatD} {s : TurnD × List (List Int)}, TInv n s → TInv n (l.foldl tgo s)
  | [], _, h => h
  | b :: l, s, h => TInv.run (l := l) (s := tgo s b) (h.go b)
theorem TInv.short {n : Int} {s : TurnD × List (List Int)} (h : TInv n s) {p : Nat} (hp : (p : Int) < n) : (s.2.getD p []).length ≤ 100 := by
  rw [h.told p hp, List.length_take]
  have := h.ok.log; omega
def tturns (n : Int) (l : List BeatD) : TurnD × List (List Int) × Bool × Unit :=
  if tcheck (t0 n) ≠ 0 then (t0 n, List.replicate (mx n).toNat [], false, ()) else ((l.foldl tgo (t0 n, List.replicate (mx n).toNat [])).1, (l.foldl tgo (t0 n, List.replicate (mx n).toNat [])).2, true, ())
def ctturns : Ctr := { ps := [.v I64, .v (.slc false Word)], rs := [TurnO, .slc true Is, .bool], pre := fun x => LE.le (α := Int) x.1 1000, fn := fun x => tturns x.1 x.2.1, out := fun _ => () }
noncomputable def Etturns : Env := { P := Try.prog, tt := tt, ctr := [(32, ctcheck), (34, ctstep)], res := [Go.ResultVar.cell 4 63, Go.ResultVar.tmp 5, Go.ResultVar.tmp 6], rs := [Ty.pair (Ty.int IntKind.i64) (Ty.pair (Ty.int IntKind.i64) (Ty.pair (Ty.slc true Is) (Ty.pair Is (Ty.pair Is Ty.unit)))), Ty.slc true Is, Ty.bool], ps := [PK.v (Ty.int IntKind.i64), PK.v (Ty.slc false Word)], cuts := [(6, [(4, none), (7, none), (8, some (Ty.slc true Is)), (30, none), (31, none), (32, none)])], nt := 76 }
theorem Etturns_ok : EnvOk Etturns := envOk tt_ok ⟨ctcheck_valid, ctstep_valid, trivial⟩
theorem Ftturns_ok : FnOk Etturns Try.f29 := ⟨rfl, rfl⟩
theorem Etturns_t (x0 : Int) (x1 : List (Int × Int × Int × Unit)) : exec Etturns 1000 [.code (bodyOf Try.prog 29)] (initSt ctturns.ps ((x0, x1, ()))) =
  .need (((0 : Int) ≤ if (0 : Int) < x0 then x0 else (0 : Int)) ∧ ((if (0 : Int) < x0 then x0 else (0 : Int)) ≤ if (0 : Int) < x0 then x0 else (0 : Int)) ∧ (if (0 : Int) < x0 then x0 else (0 : Int)) ≤ (140737488355328 : Int) ∧ (if (0 : Int) < x0 then x0 else (0 : Int)) * (↑(Ty.wb Is) : Int) ≤ (140737488355328 : Int)) (.need (((0 : Int) ≤ if (0 : Int) < x0 then x0 else (0 : Int)) ∧ ((if (0 : Int) < x0 then x0 else (0 : Int)) ≤ if (0 : Int) < x0 then x0 else (0 : Int)) ∧ (if (0 : Int) < x0 then x0 else (0 : Int)) ≤ (140737488355328 : Int) ∧ (if (0 : Int) < x0 then x0 else (0 : Int)) * (↑(Ty.wb (Ty.int IntKind.i64)) : Int) ≤ (140737488355328 : Int)) (.need (((0 : Int) ≤ if (0 : Int) < x0 then x0 else (0 : Int)) ∧ ((if (0 : Int) < x0 then x0 else (0 : Int)) ≤ if (0 : Int) < x0 then x0 else (0 : Int)) ∧ (if (0 : Int) < x0 then x0 else (0 : Int)) ≤ (140737488355328 : Int) ∧ (if (0 : Int) < x0 then x0 else (0 : Int)) * (↑(Ty.wb Is) : Int) ≤ (140737488355328 : Int)) (.need (True) (cond (decide (tcheck (x0, (0 : Int), List.replicate (Int.toNat (if (0 : Int) < x0 then x0 else (0 : Int))) [], [], List.replicate (Int.toNat (if (0 : Int) < x0 then x0 else (0 : Int))) (0 : Int), ()) ≠ (0 : Int))) (.ret (((x0, (0 : Int), List.replicate (Int.toNat (if (0 : Int) < x0 then x0 else (0 : Int))) [], [], List.replicate (Int.toNat (if (0 : Int) < x0 then x0 else (0 : Int))) (0 : Int), ()), List.replicate (Int.toNat (if (0 : Int) < x0 then x0 else (0 : Int))) [], false, ()))) (.cut (loopAt (bodyOf Try.prog 29) 6).1 (loopAt (bodyOf Try.prog 29) 6).2 (St.mk [(4, AV.ptr 4 []), (7, AV.ptr 7 []), (8, AV.at_ 1000008 []), (30, AV.val (Ty.slc false Word) x1), (31, AV.val (Ty.int IntKind.i64) (↑(List.length x1) : Int)), (32, AV.val (Ty.int IntKind.i64) (0 : Int))] [(4, Ent.var (Ty.pair (Ty.int IntKind.i64) (Ty.pair (Ty.int IntKind.i64) (Ty.pair (Ty.slc true Is) (Ty.pair Is (Ty.pair Is Ty.unit))))) ((0 : Int), (0 : Int), [], [], [], ())), (7, Ent.var (Ty.pair (Ty.int IntKind.i64) (Ty.pair (Ty.int IntKind.i64) (Ty.pair (Ty.slc true Is) (Ty.pair Is (Ty.pair Is Ty.unit))))) (x0, (0 : Int), List.replicate (Int.toNat (if (0 : Int) < x0 then x0 else (0 : Int))) [], [], List.replicate (Int.toNat (if (0 : Int) < x0 then x0 else (0 : Int))) (0 : Int), ())), (1000008, Ent.own (Ty.slc true Is) (List.replicate (Int.toNat (if (0 : Int) < x0 then x0 else (0 : Int))) []))])))))) := by kernel_rfl
def Etturns_s6 (v30 : List (Int × Int × Int × Unit)) (v31 : Int) (v32 : Int) (o4_1 : Int) (o4_2_1 : Int) (o4_2_2_1 : List (List Int)) (o4_2_2_2_1 : List Int) (o4_2_2_2_2_1 : List Int) (o7_1 : Int) (o7_2_1 : Int) (o7_2_2_1 : List (List Int)) (o7_2_2_2_1 : List Int) (o7_2_2_2_2_1 : List Int) (o1000008 : List (List Int)) : St := St.mk [(4, AV.ptr 4 []), (7, AV.ptr 7 []), (8, AV.at_ 1000008 []), (30, AV.val (Ty.slc false Word) v30), (31, AV.val (Ty.int IntKind.i64) v31), (32, AV.val (Ty.int IntKind.i64) v32)] [(4, Ent.var (Ty.pair (Ty.int IntKind.i64) (Ty.pair (Ty.int IntKind.i64) (Ty.pair (Ty.slc true Is) (Ty.pair Is (Ty.pair Is Ty.unit))))) (o4_1, o4_2_1, o4_2_2_1, o4_2_2_2_1, o4_2_2_2_2_1, ())), (7, Ent.var (Ty.pair (Ty.int IntKind.i64) (Ty.pair (Ty.int IntKind.i64) (Ty.pair (Ty.slc true Is) (Ty.pair Is (Ty.pair Is Ty.unit))))) (o7_1, o7_2_1, o7_2_2_1, o7_2_2_2_1, o7_2_2_2_2_1, ())), (1000008, Ent.own (Ty.slc true Is) o1000008)]
theorem Etturns_l6 (v30 : List (Int × Int × Int × Unit)) (v31 : Int) (v32 : Int) (o4_1 : Int) (o4_2_1 : Int) (o4_2_2_1 : List (List Int)) (o4_2_2_2_1 : List Int) (o4_2_2_2_2_1 : List Int) (o7_1 : Int) (o7_2_1 : Int) (o7_2_2_1 : List (List Int)) (o7_2_2_2_1 : List Int) (o7_2_2_2_2_1 : List Int) (o1000008 : List (List Int)) : exec Etturns 1000 (.code (loopAt (bodyOf Try.prog 29) 6).1 :: .inLoop (loopAt (bodyOf Try.prog 29) 6).1 :: (loopAt (bodyOf Try.prog 29) 6).2) (Etturns_s6 v30 v31 v32 o4_1 o4_2_1 o4_2_2_1 o4_2_2_2_1 o4_2_2_2_2_1 o7_1 o7_2_1 o7_2_2_1 o7_2_2_2_1 o7_2_2_2_2_1 o1000008) =
  cond (decide (v32 < v31)) (.need ((0 : Int) ≤ v32 ∧ v32 < (↑(List.length v30) : Int)) (.need (True) (cond (decide (Prod.fst (Prod.snd (Prod.snd (tstep (o7_1, o7_2_1, o7_2_2_1, o7_2_2_2_1, o7_2_2_2_2_1, ()) (List.getD v30 (Int.toNat v32) ((0 : Int), (0 : Int), (0 : Int), ()))))) ≠ (0 : Int))) (.need (inK IntKind.i64 (v32 + (1 : Int))) (.cut (loopAt (bodyOf Try.prog 29) 6).1 (loopAt (bodyOf Try.prog 29) 6).2 (St.mk [(4, AV.ptr 4 []), (7, AV.ptr 7 []), (8, AV.at_ 1000008 []), (30, AV.val (Ty.slc false Word) v30), (31, AV.val (Ty.int IntKind.i64) v31), (32, AV.val (Ty.int IntKind.i64) (v32 + (1 : Int)))] [(4, Ent.var (Ty.pair (Ty.int IntKind.i64) (Ty.pair (Ty.int IntKind.i64) (Ty.pair (Ty.slc true Is) (Ty.pair Is (Ty.pair Is Ty.unit))))) (o4_1, o4_2_1, o4_2_2_1, o4_2_2_2_1, o4_2_2_2_2_1, ())), (7, Ent.var (Ty.pair (Ty.int IntKind.i64) (Ty.pair (Ty.int IntKind.i64) (Ty.pair (Ty.slc true Is) (Ty.pair Is (Ty.pair Is Ty.unit))))) (o7_1, o7_2_1, o7_2_2_1, o7_2_2_2_1, o7_2_2_2_2_1, ())), (1000008, Ent.own (Ty.slc true Is) o1000008)]))) (cond (decide (Prod.fst (List.getD v30 (Int.toNat v32) ((0 : Int), (0 : Int), (0 : Int), ())) = (3 : Int))) (cond (decide ((0 : Int) ≤ Prod.fst (Prod.snd (List.getD v30 (Int.toNat v32) ((0 : Int), (0 : Int), (0 : Int), ()))))) (cond (decide (Prod.fst (Prod.snd (List.getD v30 (Int.toNat v32) ((0 : Int), (0 : Int), (0 : Int), ()))) < (↑(List.length o1000008) : Int))) (.need ((0 : Int) ≤ Prod.fst (Prod.snd (List.getD v30 (Int.toNat v32) ((0 : Int), (0 : Int), (0 : Int), ()))) ∧ Prod.fst (Prod.snd (List.getD v30 (Int.toNat v32) ((0 : Int), (0 : Int), (0 : Int), ()))) < (↑(List.length o1000008) : Int)) (.need ((0 : Int) ≤ Prod.fst (Prod.snd (List.getD v30 (Int.toNat v32) ((0 : Int), (0 : Int), (0 : Int), ()))) ∧ Prod.fst (Prod.snd (List.getD v30 (Int.toNat v32) ((0 : Int), (0 : Int), (0 : Int), ()))) < (↑(List.length o1000008) : Int)) (.need ([] ++ [Step.idx (Prod.fst (Prod.snd (List.getD v30 (Int.toNat v32) ((0 : Int), (0 : Int), (0 : Int), ()))))] = [] ++ [Step.idx (Prod.fst (Prod.snd (List.getD v30 (Int.toNat v32) ((0 : Int), (0 : Int), (0 : Int), ()))))] ∧ List.length (List.getD o1000008 (Int.toNat (Prod.fst (Prod.snd (List.getD v30 (Int.toNat v32) ((0 : Int), (0 : Int), (0 : Int), ()))))) []) + List.length (List.set [(0 : Int)] (Int.toNat (↑0 : Int)) (Prod.fst (Prod.snd (tstep (o7_1, o7_2_1, o7_2_2_1, o7_2_2_2_1, o7_2_2_2_2_1, ()) (List.getD v30 (Int.toNat v32) ((0 : Int), (0 : Int), (0 : Int), ())))))) ≤ 140737488355328 ∧ (List.length (List.getD o1000008 (Int.toNat (Prod.fst (Prod.snd (List.getD v30 (Int.toNat v32) ((0 : Int), (0 : Int), (0 : Int), ()))))) []) + List.length (List.set [(0 : Int)] (Int.toNat (↑0 : Int)) (Prod.fst (Prod.snd (tstep (o7_1, o7_2_1, o7_2_2_1, o7_2_2_2_1, o7_2_2_2_2_1, ()) (List.getD v30 (Int.toNat v32) ((0 : Int), (0 : Int), (0 : Int), ()))))))) * Ty.wb (Ty.int IntKind.i64) ≤ 140737488355328) (.need (inK IntKind.i64 (v32 + (1 : Int))) (.cut (loopAt (bodyOf Try.prog 29) 6).1 (loopAt (bodyOf Try.prog 29) 6).2 (St.mk [(4, AV.ptr 4 []), (7, AV.ptr 7 []), (8, AV.at_ 1000008 []), (30, AV.val (Ty.slc false Word) v30), (31, AV.val (Ty.int IntKind.i64) v31), (32, AV.val (Ty.int IntKind.i64) (v32 + (1 : Int)))] [(4, Ent.var (Ty.pair (Ty.int IntKind.i64) (Ty.pair (Ty.int IntKind.i64) (Ty.pair (Ty.slc true Is) (Ty.pair Is (Ty.pair Is Ty.unit))))) (o4_1, o4_2_1, o4_2_2_1, o4_2_2_2_1, o4_2_2_2_2_1, ())), (7, Ent.var (Ty.pair (Ty.int IntKind.i64) (Ty.pair (Ty.int IntKind.i64) (Ty.pair (Ty.slc true Is) (Ty.pair Is (Ty.pair Is Ty.unit))))) (Prod.fst (tstep (o7_1, o7_2_1, o7_2_2_1, o7_2_2_2_1, o7_2_2_2_2_1, ()) (List.getD v30 (Int.toNat v32) ((0 : Int), (0 : Int), (0 : Int), ()))))), (1000008, Ent.own (Ty.slc true Is) (List.set o1000008 (Int.toNat (Prod.fst (Prod.snd (List.getD v30 (Int.toNat v32) ((0 : Int), (0 : Int), (0 : Int), ()))))) (List.getD o1000008 (Int.toNat (Prod.fst (Prod.snd (List.getD v30 (Int.toNat v32) ((0 : Int), (0 : Int), (0 : Int), ()))))) [] ++ List.set [(0 : Int)] (Int.toNat (↑0 : Int)) (Prod.fst (Prod.snd (tstep (o7_1, o7_2_1, o7_2_2_1, o7_2_2_2_1, o7_2_2_2_2_1, ()) (List.getD v30 (Int.toNat v32) ((0 : Int), (0 : Int), (0 : Int), ()))))))))])))))) (.need (inK IntKind.i64 (v32 + (1 : Int))) (.cut (loopAt (bodyOf Try.prog 29) 6).1 (loopAt (bodyOf Try.prog 29) 6).2 (St.mk [(4, AV.ptr 4 []), (7, AV.ptr 7 []), (8, AV.at_ 1000008 []), (30, AV.val (Ty.slc false Word) v30), (31, AV.val (Ty.int IntKind.i64) v31), (32, AV.val (Ty.int IntKind.i64) (v32 + (1 : Int)))] [(4, Ent.var (Ty.pair (Ty.int IntKind.i64) (Ty.pair (Ty.int IntKind.i64) (Ty.pair (Ty.slc true Is) (Ty.pair Is (Ty.pair Is Ty.unit))))) (o4_1, o4_2_1, o4_2_2_1, o4_2_2_2_1, o4_2_2_2_2_1, ())), (7, Ent.var (Ty.pair (Ty.int IntKind.i64) (Ty.pair (Ty.int IntKind.i64) (Ty.pair (Ty.slc true Is) (Ty.pair Is (Ty.pair Is Ty.unit))))) (Prod.fst (tstep (o7_1, o7_2_1, o7_2_2_1, o7_2_2_2_1, o7_2_2_2_2_1, ()) (List.getD v30 (Int.toNat v32) ((0 : Int), (0 : Int), (0 : Int), ()))))), (1000008, Ent.own (Ty.slc true Is) o1000008)])))) (.need (inK IntKind.i64 (v32 + (1 : Int))) (.cut (loopAt (bodyOf Try.prog 29) 6).1 (loopAt (bodyOf Try.prog 29) 6).2 (St.mk [(4, AV.ptr 4 []), (7, AV.ptr 7 []), (8, AV.at_ 1000008 []), (30, AV.val (Ty.slc false Word) v30), (31, AV.val (Ty.int IntKind.i64) v31), (32, AV.val (Ty.int IntKind.i64) (v32 + (1 : Int)))] [(4, Ent.var (Ty.pair (Ty.int IntKind.i64) (Ty.pair (Ty.int IntKind.i64) (Ty.pair (Ty.slc true Is) (Ty.pair Is (Ty.pair Is Ty.unit))))) (o4_1, o4_2_1, o4_2_2_1, o4_2_2_2_1, o4_2_2_2_2_1, ())), (7, Ent.var (Ty.pair (Ty.int IntKind.i64) (Ty.pair (Ty.int IntKind.i64) (Ty.pair (Ty.slc true Is) (Ty.pair Is (Ty.pair Is Ty.unit))))) (Prod.fst (tstep (o7_1, o7_2_1, o7_2_2_1, o7_2_2_2_1, o7_2_2_2_2_1, ()) (List.getD v30 (Int.toNat v32) ((0 : Int), (0 : Int), (0 : Int), ()))))), (1000008, Ent.own (Ty.slc true Is) o1000008)])))) (.need (inK IntKind.i64 (v32 + (1 : Int))) (.cut (loopAt (bodyOf Try.prog 29) 6).1 (loopAt (bodyOf Try.prog 29) 6).2 (St.mk [(4, AV.ptr 4 []), (7, AV.ptr 7 []), (8, AV.at_ 1000008 []), (30, AV.val (Ty.slc false Word) v30), (31, AV.val (Ty.int IntKind.i64) v31), (32, AV.val (Ty.int IntKind.i64) (v32 + (1 : Int)))] [(4, Ent.var (Ty.pair (Ty.int IntKind.i64) (Ty.pair (Ty.int IntKind.i64) (Ty.pair (Ty.slc true Is) (Ty.pair Is (Ty.pair Is Ty.unit))))) (o4_1, o4_2_1, o4_2_2_1, o4_2_2_2_1, o4_2_2_2_2_1, ())), (7, Ent.var (Ty.pair (Ty.int IntKind.i64) (Ty.pair (Ty.int IntKind.i64) (Ty.pair (Ty.slc true Is) (Ty.pair Is (Ty.pair Is Ty.unit))))) (Prod.fst (tstep (o7_1, o7_2_1, o7_2_2_1, o7_2_2_2_1, o7_2_2_2_2_1, ()) (List.getD v30 (Int.toNat v32) ((0 : Int), (0 : Int), (0 : Int), ()))))), (1000008, Ent.own (Ty.slc true Is) o1000008)]))))))) (.ret (((o7_1, o7_2_1, o7_2_2_1, o7_2_2_2_1, o7_2_2_2_2_1, ()), o1000008, true, ()))) := by kernel_rfl
theorem ctturns_valid : ctturns.Valid Try.prog 29 := by
  refine Ctr.valid_of Etturns_ok rfl rfl Try.func29 (c := bodyOf Try.prog 29) rfl rfl Ftturns_ok rfl ?_
  rintro ⟨(n : Int), (l : List BeatD), ⟨⟩⟩ (hn : n ≤ 1000) ⟨-, ⟨hl, -⟩, -⟩
  have hl : l.length ≤ 9223372036854775807 := hl
  refine exec_sound (n := 1000) Etturns_ok Ftturns_ok ?_
  refine holds_of_eq (Etturns_t n l) ?_
  have hw : Ty.wb (.slc true (.int .i64)) = 24 := rfl
  have hm : mx n = if 0 < n then n else 0 := rfl
  have hm2 : 0 ≤ mx n ∧ mx n ≤ 1000 := by rw [hm]; split <;> omega
  simp only [holds_cond, Tree.holds, true_and, true_implies, decide_eq_true_eq, decide_eq_false_iff_not, Bool.not_eq_true', Bool.not_eq_false', Int.toNat_natCast, inK_i64, List.length_set, List.length_cons, List.length_nil, hw, wb_i64, ← hm]
  refine ⟨by omega, fun _ => ⟨by omega, fun _ => ⟨by omega, fun _ => ⟨fun c => ?_, fun c => ?_⟩⟩⟩⟩
  · show (t0 n, List.replicate (mx n).toNat [], false, ()) = tturns n l
    rw [tturns, if_pos (show tcheck (t0 n) ≠ 0 from c)]
  have inv0 := TInv.start (Decidable.not_not.1 c)
  have hn9 : tturns n l = ((l.foldl tgo (t0 n, List.replicate (mx n).toNat [])).1, (l.foldl tgo (t0 n, List.replicate (mx n).toNat [])).2, true, ()) := by rw [tturns, if_neg (show ¬ tcheck (t0 n) ≠ 0 from c)]
  refine Reach.loopI Etturns_ok Ftturns_ok (fun s : Nat × TurnD × List (List Int) => Etturns_s6 l (l.length : Int) (s.1 : Int) 0 0 [] [] [] s.2.1.1 s.2.1.2.1 s.2.1.2.2.1 s.2.1.2.2.2.1 s.2.1.2.2.2.2.1 s.2.2) (fun s => s.1 ≤ l.length ∧ (l.drop s.1).foldl tgo s.2 = l.foldl tgo (t0 n, List.replicate (mx n).toNat []) ∧ TInv n s.2) (fun s => l.length - s.1) 1000 (fun _ => ⟨uniq_of rfl, uniq_of rfl⟩) ?_ (0, t0 n, List.replicate (mx n).toNat []) ⟨by omega, rfl, inv0⟩
  rintro ⟨i, ⟨n', h, w, lo, d, ⟨⟩⟩, m⟩ ⟨k1, k2, k3⟩ - ih
  have k1 : i ≤ l.length := k1
  have k2 : (l.drop i).foldl tgo ((n', h, w, lo, d, ()), m) = l.foldl tgo (t0 n, List.replicate (mx n).toNat []) := k2
  have k3 : TInv n ((n', h, w, lo, d, ()), m) := k3
  refine holds_of_eq (Etturns_l6 ..) ?_
  simp only [holds_cond, Tree.holds, true_and, true_implies, decide_eq_true_eq, decide_eq_false_iff_not, Bool.not_eq_true', Bool.not_eq_false', Int.toNat_natCast, inK_i64, List.length_set, List.length_cons, List.length_nil, hw, wb_i64]
  have hml : (m.length : Int) = n := k3.len
  refine ⟨fun a => ⟨by omega, fun _ => ?_⟩, fun a => ?_⟩
  · have hi : i < l.length := by omega
    rw [drop_getD hi (0, 0, 0, ()), List.foldl_cons] at k2
    have hb : l.getD i (0, 0, 0, ()) = l.getD i (0, 0, 0, ()) := rfl
    revert k2
    generalize l.getD i (0, 0, 0, ()) = b
    intro k2
    have k4 := k3.go b
    have next := fun s (e : tgo ((n', h, w, lo, d, ()), m) b = s) => ih (i + 1, s) ⟨by show i + 1 ≤ l.length; omega, by show (l.drop (i + 1)).foldl tgo s = _; rw [← e]; exact k2, by show TInv n s; rw [← e]; exact k4⟩ (by show l.length - (i + 1) < l.length - i; omega)
    have hg : tgo ((n', h, w, lo, d, ()), m) b = if (tstep (n', h, w, lo, d, ()) b).2.2.1 ≠ 0 then ((n', h, w, lo, d, ()), m) else ((tstep (n', h, w, lo, d, ()) b).1, if b.1 = 3 ∧ 0 ≤ b.2.1 ∧ b.2.1 < m.length then m.set b.2.1.toNat (m.getD b.2.1.toNat [] ++ [(tstep (n', h, w, lo, d, ()) b).2.1]) else m) := rfl
    refine ⟨fun e => ⟨by omega, fun _ => next ((n', h, w, lo, d, ()), m) (by rw [hg, if_pos e])⟩, fun e => ?_⟩
    rw [if_neg e] at hg
    refine ⟨fun f => ⟨fun f1 => ⟨fun f2 => ⟨by omega, fun _ => ⟨by omega, fun _ => ?_⟩⟩, fun f2 => ?_⟩, fun f1 => ?_⟩, fun f => ?_⟩
    · rw [if_pos ⟨f, f1, f2⟩] at hg
      have hsh : (m.getD b.2.1.toNat []).length ≤ 100 := k3.short (p := b.2.1.toNat) (by omega)
      exact ⟨by omega, fun _ => ⟨by omega, fun _ => next _ hg⟩⟩
    · rw [if_neg (fun h => f2 h.2.2)] at hg
      exact ⟨by omega, fun _ => next _ hg⟩
    · rw [if_neg (fun h => f1 h.2.1)] at hg
      exact ⟨by omega, fun _ => next _ hg⟩
    · rw [if_neg (fun h => f h.1)] at hg
      exact ⟨by omega, fun _ => next _ hg⟩
  · rw [List.drop_eq_nil_of_le (by omega), List.foldl_nil] at k2
    show ((n', h, w, lo, d, ()), m, true, ()) = tturns n l
    rw [hn9, ← k2]
theorem t0_ok {n : Int} (h1 : 1 ≤ n) (h2 : n ≤ 6) : tcheck (t0 n) = 0 := by
  have : n = 1 ∨ n = 2 ∨ n = 3 ∨ n = 4 ∨ n = 5 ∨ n = 6 := by omega
  rcases this with rfl | rfl | rfl | rfl | rfl | rfl <;> decide +kernel
theorem tturns_eq {n : Int} (h1 : 1 ≤ n) (h2 : n ≤ 6) (l : List BeatD) : tturns n l = ((l.foldl tgo (t0 n, List.replicate (mx n).toNat [])).1, (l.foldl tgo (t0 n, List.replicate (mx n).toNat [])).2, true, ()) := by
  rw [tturns, if_neg (by rw [t0_ok h1 h2]; simp)]
theorem tturns_inv {n : Int} (h1 : 1 ≤ n) (h2 : n ≤ 6) (l : List BeatD) : (tturns n l).2.2.1 = true ∧ TInv n ((tturns n l).1, (tturns n l).2.1) := by
  rw [tturns_eq h1 h2]
  exact ⟨rfl, TInv.run (TInv.start (t0_ok h1 h2))⟩
end Go.Proofs.Ytbcdpeogfghgcaa
