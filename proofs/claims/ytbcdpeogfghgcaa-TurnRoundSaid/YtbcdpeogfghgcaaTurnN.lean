/- TurnRound. No condition. -/
import Derived.Test.YtbcdpeogfghgcaaTurnM
namespace Go.Proofs.Ytbcdpeogfghgcaa
open Go.Ex
set_option maxRecDepth 100000
def mxN (l : List Int) : Nat → Int
  | 0 => l.getD 0 0
  | k + 1 => if mxN l k < l.getD (k + 1) 0 then l.getD (k + 1) 0 else mxN l k
def mnN (l : List Int) : Nat → Int
  | 0 => l.getD 0 0
  | k + 1 => if l.getD (k + 1) 0 < mnN l k then l.getD (k + 1) 0 else mnN l k
def maxL (l : List Int) : Int := mxN l (l.length - 1)
def minL (l : List Int) : Int := mnN l (l.length - 1)
theorem mxN_in {l : List Int} {a b : Int} : ∀ {k : Nat}, (∀ i, i ≤ k → a ≤ l.getD i 0 ∧ l.getD i 0 ≤ b) → a ≤ mxN l k ∧ mxN l k ≤ b
  | 0, h => h 0 (by omega)
  | k + 1, h => by
    have h1 := mxN_in (k := k) (fun i hi => h i (by omega))
    have h2 := h (k + 1) (by omega)
    rw [mxN]; split <;> omega
theorem mnN_in {l : List Int} {a b : Int} : ∀ {k : Nat}, (∀ i, i ≤ k → a ≤ l.getD i 0 ∧ l.getD i 0 ≤ b) → a ≤ mnN l k ∧ mnN l k ≤ b
  | 0, h => h 0 (by omega)
  | k + 1, h => by
    have h1 := mnN_in (k := k) (fun i hi => h i (by omega))
    have h2 := h (k + 1) (by omega)
    rw [mnN]; split <;> omega
theorem maxL_in {l : List Int} {a b : Int} (hl : 0 < l.length) (h : ∀ i, i < l.length → a ≤ l.getD i 0 ∧ l.getD i 0 ≤ b) : a ≤ maxL l ∧ maxL l ≤ b := mxN_in (fun i hi => h i (by omega))
theorem minL_in {l : List Int} {a b : Int} (hl : 0 < l.length) (h : ∀ i, i < l.length → a ≤ l.getD i 0 ∧ l.getD i 0 ≤ b) : a ≤ minL l ∧ minL l ≤ b := mnN_in (fun i hi => h i (by omega))
def cmaxI : Ctr := { ps := [.v (.slc false I64)], rs := [I64], pre := fun x => LT.lt (α := Nat) 0 (List.length (α := Int) x.1), fn := fun x => (maxL x.1, ()), out := fun _ => () }
noncomputable def EmaxI : Env := { P := Try.prog, tt := tt, ctr := [], res := [Go.ResultVar.tmp 2], rs := [Ty.int IntKind.i64], ps := [PK.v (Ty.slc false (Ty.int IntKind.i64))], cuts := [(5, [(0, none), (3, none), (4, none)])], nt := 25 }
theorem EmaxI_ok : EnvOk EmaxI := envOk tt_ok trivial
theorem FmaxI_ok : FnOk EmaxI Try.f37 := ⟨rfl, rfl⟩
theorem EmaxI_t (x0 : List Int) : exec EmaxI 1000 [.code (bodyOf Try.prog 37)] (initSt cmaxI.ps ((x0, ()))) =
  cond (decide ((↑(List.length x0) : Int) < (1 : Int))) (.stuck "op") (.need ((0 : Int) ≤ (0 : Int) ∧ (0 : Int) < (↑(List.length x0) : Int)) (.cut (loopAt (bodyOf Try.prog 37) 5).1 (loopAt (bodyOf Try.prog 37) 5).2 (St.mk [(0, AV.val (Ty.slc false (Ty.int IntKind.i64)) x0), (3, AV.val (Ty.int IntKind.i64) (List.getD x0 (Int.toNat (0 : Int)) (0 : Int))), (4, AV.val (Ty.int IntKind.i64) (1 : Int))] []))) := by kernel_rfl
def EmaxI_s5 (v0 : List Int) (v3 : Int) (v4 : Int) : St := St.mk [(0, AV.val (Ty.slc false (Ty.int IntKind.i64)) v0), (3, AV.val (Ty.int IntKind.i64) v3), (4, AV.val (Ty.int IntKind.i64) v4)] []
theorem EmaxI_l5 (v0 : List Int) (v3 : Int) (v4 : Int) : exec EmaxI 1000 (.code (loopAt (bodyOf Try.prog 37) 5).1 :: .inLoop (loopAt (bodyOf Try.prog 37) 5).1 :: (loopAt (bodyOf Try.prog 37) 5).2) (EmaxI_s5 v0 v3 v4) =
  cond (decide (v4 < (↑(List.length v0) : Int))) (.need ((0 : Int) ≤ v4 ∧ v4 < (↑(List.length v0) : Int)) (.need (inK IntKind.i64 (v4 + (1 : Int))) (.cut (loopAt (bodyOf Try.prog 37) 5).1 (loopAt (bodyOf Try.prog 37) 5).2 (St.mk [(0, AV.val (Ty.slc false (Ty.int IntKind.i64)) v0), (3, AV.val (Ty.int IntKind.i64) (if v3 < List.getD v0 (Int.toNat v4) (0 : Int) then List.getD v0 (Int.toNat v4) (0 : Int) else v3)), (4, AV.val (Ty.int IntKind.i64) (v4 + (1 : Int)))] [])))) (.ret ((v3, ()))) := by kernel_rfl
theorem cmaxI_valid : cmaxI.Valid Try.prog 37 := by
  refine Ctr.valid_of EmaxI_ok rfl rfl Try.func37 (c := bodyOf Try.prog 37) rfl rfl FmaxI_ok rfl ?_
  rintro ⟨(l : List Int), ⟨⟩⟩ (hp : 0 < l.length) ⟨⟨hl, -⟩, -⟩
  have hl : l.length ≤ 9223372036854775807 := hl
  refine exec_sound (n := 1000) EmaxI_ok FmaxI_ok ?_
  refine holds_of_eq (EmaxI_t l) ?_
  simp only [holds_cond, Tree.holds, true_and, true_implies, decide_eq_true_eq, decide_eq_false_iff_not, Bool.not_eq_true', Bool.not_eq_false', Int.toNat_natCast, inK_i64, List.length_set, List.length_cons, List.length_nil]
  refine ⟨fun h => by omega, fun _ => ⟨by omega, fun _ => ?_⟩⟩
  refine Reach.loopI EmaxI_ok FmaxI_ok (fun s : Nat × Int => EmaxI_s5 l s.2 ((s.1 + 1 : Nat) : Int)) (fun s => s.1 < l.length ∧ s.2 = mxN l s.1) (fun s => l.length - s.1) 1000 (fun _ => ⟨uniq_of rfl, uniq_of rfl⟩) ?_ (0, l.getD 0 0) ⟨hp, rfl⟩
  rintro ⟨i, m⟩ ⟨k1, k2⟩ - ih
  have k1 : i < l.length := k1
  have k2 : m = mxN l i := k2
  refine holds_of_eq (EmaxI_l5 ..) ?_
  simp only [holds_cond, Tree.holds, true_and, true_implies, decide_eq_true_eq, decide_eq_false_iff_not, Bool.not_eq_true', Bool.not_eq_false', Int.toNat_natCast, inK_i64, List.length_set, List.length_cons, List.length_nil]
  refine ⟨fun c => ⟨by omega, fun _ => ⟨by omega, fun _ => ih (i + 1, if m < l.getD (i + 1) 0 then l.getD (i + 1) 0 else m) ⟨by show i + 1 < _; omega, by show (if m < l.getD (i + 1) 0 then l.getD (i + 1) 0 else m) = mxN l (i + 1); rw [k2, mxN]⟩ (by show _ - (i + 1) < _ - i; omega)⟩⟩, fun c => ?_⟩
  show ((m, ()) : Int × Unit) = (maxL l, ())
  rw [k2, maxL, show l.length - 1 = i by omega]
def cminI : Ctr := { ps := [.v (.slc false I64)], rs := [I64], pre := fun x => LT.lt (α := Nat) 0 (List.length (α := Int) x.1), fn := fun x => (minL x.1, ()), out := fun _ => () }
noncomputable def EminI : Env := { P := Try.prog, tt := tt, ctr := [], res := [Go.ResultVar.tmp 2], rs := [Ty.int IntKind.i64], ps := [PK.v (Ty.slc false (Ty.int IntKind.i64))], cuts := [(5, [(0, none), (3, none), (4, none)])], nt := 25 }
theorem EminI_ok : EnvOk EminI := envOk tt_ok trivial
theorem FminI_ok : FnOk EminI Try.f38 := ⟨rfl, rfl⟩
theorem EminI_t (x0 : List Int) : exec EminI 1000 [.code (bodyOf Try.prog 38)] (initSt cminI.ps ((x0, ()))) =
  cond (decide ((↑(List.length x0) : Int) < (1 : Int))) (.stuck "op") (.need ((0 : Int) ≤ (0 : Int) ∧ (0 : Int) < (↑(List.length x0) : Int)) (.cut (loopAt (bodyOf Try.prog 38) 5).1 (loopAt (bodyOf Try.prog 38) 5).2 (St.mk [(0, AV.val (Ty.slc false (Ty.int IntKind.i64)) x0), (3, AV.val (Ty.int IntKind.i64) (List.getD x0 (Int.toNat (0 : Int)) (0 : Int))), (4, AV.val (Ty.int IntKind.i64) (1 : Int))] []))) := by kernel_rfl
def EminI_s5 (v0 : List Int) (v3 : Int) (v4 : Int) : St := St.mk [(0, AV.val (Ty.slc false (Ty.int IntKind.i64)) v0), (3, AV.val (Ty.int IntKind.i64) v3), (4, AV.val (Ty.int IntKind.i64) v4)] []
theorem EminI_l5 (v0 : List Int) (v3 : Int) (v4 : Int) : exec EminI 1000 (.code (loopAt (bodyOf Try.prog 38) 5).1 :: .inLoop (loopAt (bodyOf Try.prog 38) 5).1 :: (loopAt (bodyOf Try.prog 38) 5).2) (EminI_s5 v0 v3 v4) =
  cond (decide (v4 < (↑(List.length v0) : Int))) (.need ((0 : Int) ≤ v4 ∧ v4 < (↑(List.length v0) : Int)) (.need (inK IntKind.i64 (v4 + (1 : Int))) (.cut (loopAt (bodyOf Try.prog 38) 5).1 (loopAt (bodyOf Try.prog 38) 5).2 (St.mk [(0, AV.val (Ty.slc false (Ty.int IntKind.i64)) v0), (3, AV.val (Ty.int IntKind.i64) (if List.getD v0 (Int.toNat v4) (0 : Int) < v3 then List.getD v0 (Int.toNat v4) (0 : Int) else v3)), (4, AV.val (Ty.int IntKind.i64) (v4 + (1 : Int)))] [])))) (.ret ((v3, ()))) := by kernel_rfl
theorem cminI_valid : cminI.Valid Try.prog 38 := by
  refine Ctr.valid_of EminI_ok rfl rfl Try.func38 (c := bodyOf Try.prog 38) rfl rfl FminI_ok rfl ?_
  rintro ⟨(l : List Int), ⟨⟩⟩ (hp : 0 < l.length) ⟨⟨hl, -⟩, -⟩
  have hl : l.length ≤ 9223372036854775807 := hl
  refine exec_sound (n := 1000) EminI_ok FminI_ok ?_
  refine holds_of_eq (EminI_t l) ?_
  simp only [holds_cond, Tree.holds, true_and, true_implies, decide_eq_true_eq, decide_eq_false_iff_not, Bool.not_eq_true', Bool.not_eq_false', Int.toNat_natCast, inK_i64, List.length_set, List.length_cons, List.length_nil]
  refine ⟨fun h => by omega, fun _ => ⟨by omega, fun _ => ?_⟩⟩
  refine Reach.loopI EminI_ok FminI_ok (fun s : Nat × Int => EminI_s5 l s.2 ((s.1 + 1 : Nat) : Int)) (fun s => s.1 < l.length ∧ s.2 = mnN l s.1) (fun s => l.length - s.1) 1000 (fun _ => ⟨uniq_of rfl, uniq_of rfl⟩) ?_ (0, l.getD 0 0) ⟨hp, rfl⟩
  rintro ⟨i, m⟩ ⟨k1, k2⟩ - ih
  have k1 : i < l.length := k1
  have k2 : m = mnN l i := k2
  refine holds_of_eq (EminI_l5 ..) ?_
  simp only [holds_cond, Tree.holds, true_and, true_implies, decide_eq_true_eq, decide_eq_false_iff_not, Bool.not_eq_true', Bool.not_eq_false', Int.toNat_natCast, inK_i64, List.length_set, List.length_cons, List.length_nil]
  refine ⟨fun c => ⟨by omega, fun _ => ⟨by omega, fun _ => ih (i + 1, if l.getD (i + 1) 0 < m then l.getD (i + 1) 0 else m) ⟨by show i + 1 < _; omega, by show (if l.getD (i + 1) 0 < m then l.getD (i + 1) 0 else m) = mnN l (i + 1); rw [k2, mnN]⟩ (by show _ - (i + 1) < _ - i; omega)⟩⟩, fun c => ?_⟩
  show ((m, ()) : Int × Unit) = (minL l, ())
  rw [k2, minL, show l.length - 1 = i by omega]
/-- how often p has had the turn, of j turns from h on -/
def had (n h : Int) (j p : Nat) : Int := ((j : Int) + n - 1 - ((p : Int) - h) % n) / n
theorem had_all {n h : Int} {j p : Nat} (hn : 1 ≤ n ∧ n ≤ 6) (hh : 0 ≤ h ∧ h < n) (hp : (p : Int) < n) : had n h (j + 1) p = had n h j p + (if (p : Int) = (h + j) % n then 1 else 0) ∧ (j : Int) / n ≤ had n h j p ∧ had n h j p ≤ (j : Int) / n + 1 ∧ had n h 0 p = 0 ∧ ∀ r : Int, (j : Int) = r * n → had n h j p = r := by
  have : n = 1 ∨ n = 2 ∨ n = 3 ∨ n = 4 ∨ n = 5 ∨ n = 6 := by omega
  unfold had
  rcases this with rfl | rfl | rfl | rfl | rfl | rfl <;> refine ⟨?_, by omega, by omega, by omega, fun r hr => by omega⟩ <;> split <;> omega
def cTurnRound : Ctr := { ps := [.v I64, .v (.slc false Word), .v I64], rs := [.bool], pre := fun _ => True, fn := fun _ => (true, ()), out := fun _ => () }
noncomputable def ETurnRound : Env := { P := Try.prog, tt := tt, ctr := [(29, ctturns), (31, cfew), (24, crest), (39, cttOn), (37, cmaxI), (38, cminI)], res := [Go.ResultVar.tmp 6], rs := [Ty.bool], ps := [PK.v (Ty.int IntKind.i64), PK.v (Ty.slc false Word), PK.v (Ty.int IntKind.i64)], cuts := [(11, [(0, none), (10, none), (13, some Is), (14, none), (51, none), (52, none)])], nt := 99 }
theorem ETurnRound_ok : EnvOk ETurnRound := envOk tt_ok ⟨ctturns_valid, cfew_valid, crest_valid, cttOn_valid, cmaxI_valid, cminI_valid, trivial⟩
theorem FTurnRound_ok : FnOk ETurnRound Try.f9 := ⟨rfl, rfl⟩
theorem ETurnRound_t (x0 : Int) (x1 : List (Int × Int × Int × Unit)) (x2 : Int) : exec ETurnRound 1000 [.code (bodyOf Try.prog 9)] (initSt cTurnRound.ps ((x0, x1, x2, ()))) =
  .need ((3 : Int) ≤ (1000 : Int)) (.need (True) (.need (few x0 ≤ (1000 : Int)) (cond (!Prod.fst (Prod.snd (Prod.snd (tturns (few x0) x1)))) (.ret ((false, ()))) (.need ((0 : Int) ≤ few x0 ∧ few x0 ≤ few x0 ∧ few x0 ≤ (140737488355328 : Int) ∧ few x0 * (↑(Ty.wb (Ty.int IntKind.i64)) : Int) ≤ (140737488355328 : Int)) (.need ((5 : Int) ≤ (1000000 : Int)) (.need (inK IntKind.i64 (rest x2 (5 : Int) + (1 : Int))) (.need (inK IntKind.i64 ((rest x2 (5 : Int) + (1 : Int)) * few x0)) (.cut (loopAt (bodyOf Try.prog 9) 11).1 (loopAt (bodyOf Try.prog 9) 11).2 (St.mk [(0, AV.val (Ty.int IntKind.i64) (few x0)), (10, AV.ptr 10 []), (13, AV.at_ 1000013 []), (14, AV.val (Ty.int IntKind.i64) (rest x2 (5 : Int) + (1 : Int))), (51, AV.val (Ty.int IntKind.i64) ((rest x2 (5 : Int) + (1 : Int)) * few x0)), (52, AV.val (Ty.int IntKind.i64) (0 : Int))] [(10, Ent.var (Ty.pair (Ty.int IntKind.i64) (Ty.pair (Ty.int IntKind.i64) (Ty.pair (Ty.slc true Is) (Ty.pair Is (Ty.pair Is Ty.unit))))) (Prod.fst (tturns (few x0) x1))), (1000013, Ent.own Is (List.replicate (Int.toNat (few x0)) (0 : Int)))]))))))))) := by kernel_rfl
def ETurnRound_s11 (v0 : Int) (v14 : Int) (v51 : Int) (v52 : Int) (o10_1 : Int) (o10_2_1 : Int) (o10_2_2_1 : List (List Int)) (o10_2_2_2_1 : List Int) (o10_2_2_2_2_1 : List Int) (o1000013 : List Int) : St := St.mk [(0, AV.val (Ty.int IntKind.i64) v0), (10, AV.ptr 10 []), (13, AV.at_ 1000013 []), (14, AV.val (Ty.int IntKind.i64) v14), (51, AV.val (Ty.int IntKind.i64) v51), (52, AV.val (Ty.int IntKind.i64) v52)] [(10, Ent.var (Ty.pair (Ty.int IntKind.i64) (Ty.pair (Ty.int IntKind.i64) (Ty.pair (Ty.slc true Is) (Ty.pair Is (Ty.pair Is Ty.unit))))) (o10_1, o10_2_1, o10_2_2_1, o10_2_2_2_1, o10_2_2_2_2_1, ())), (1000013, Ent.own Is o1000013)]
theorem ETurnRound_l11 (v0 : Int) (v14 : Int) (v51 : Int) (v52 : Int) (o10_1 : Int) (o10_2_1 : Int) (o10_2_2_1 : List (List Int)) (o10_2_2_2_1 : List Int) (o10_2_2_2_2_1 : List Int) (o1000013 : List Int) : exec ETurnRound 1000 (.code (loopAt (bodyOf Try.prog 9) 11).1 :: .inLoop (loopAt (bodyOf Try.prog 9) 11).1 :: (loopAt (bodyOf Try.prog 9) 11).2) (ETurnRound_s11 v0 v14 v51 v52 o10_1 o10_2_1 o10_2_2_1 o10_2_2_2_1 o10_2_2_2_2_1 o1000013) =
  cond (decide (v52 < v51)) (cond (decide (o10_2_1 < (0 : Int))) (.ret ((false, ()))) (cond (decide (v0 ≤ o10_2_1)) (.ret ((false, ()))) (.need ((0 : Int) ≤ o10_2_1 ∧ o10_2_1 < (↑(List.length o1000013) : Int)) (.need (inK IntKind.i64 (List.getD o1000013 (Int.toNat o10_2_1) (0 : Int) + (1 : Int))) (.need ((0 : Int) ≤ o10_2_1 ∧ o10_2_1 < (↑(List.length o1000013) : Int)) (.need (0 < List.length (List.set o1000013 (Int.toNat o10_2_1) (List.getD o1000013 (Int.toNat o10_2_1) (0 : Int) + (1 : Int)))) (.need (0 < List.length (List.set o1000013 (Int.toNat o10_2_1) (List.getD o1000013 (Int.toNat o10_2_1) (0 : Int) + (1 : Int)))) (.need (inK IntKind.i64 (maxL (List.set o1000013 (Int.toNat o10_2_1) (List.getD o1000013 (Int.toNat o10_2_1) (0 : Int) + (1 : Int))) - minL (List.set o1000013 (Int.toNat o10_2_1) (List.getD o1000013 (Int.toNat o10_2_1) (0 : Int) + (1 : Int))))) (cond (decide ((1 : Int) < maxL (List.set o1000013 (Int.toNat o10_2_1) (List.getD o1000013 (Int.toNat o10_2_1) (0 : Int) + (1 : Int))) - minL (List.set o1000013 (Int.toNat o10_2_1) (List.getD o1000013 (Int.toNat o10_2_1) (0 : Int) + (1 : Int))))) (.ret ((false, ()))) (.need (True) (cond (Prod.fst (Prod.snd (Prod.snd (ttOn (o10_1, o10_2_1, o10_2_2_1, o10_2_2_2_1, o10_2_2_2_2_1, ()))))) (cond (decide (Prod.fst (Prod.snd (ttOn (o10_1, o10_2_1, o10_2_2_1, o10_2_2_2_1, o10_2_2_2_2_1, ()))) = (0 : Int))) (.need (inK IntKind.i64 (v52 + (1 : Int))) (.cut (loopAt (bodyOf Try.prog 9) 11).1 (loopAt (bodyOf Try.prog 9) 11).2 (St.mk [(0, AV.val (Ty.int IntKind.i64) v0), (10, AV.ptr 10 []), (13, AV.at_ 1000013 []), (14, AV.val (Ty.int IntKind.i64) v14), (51, AV.val (Ty.int IntKind.i64) v51), (52, AV.val (Ty.int IntKind.i64) (v52 + (1 : Int)))] [(10, Ent.var (Ty.pair (Ty.int IntKind.i64) (Ty.pair (Ty.int IntKind.i64) (Ty.pair (Ty.slc true Is) (Ty.pair Is (Ty.pair Is Ty.unit))))) (Prod.fst (ttOn (o10_1, o10_2_1, o10_2_2_1, o10_2_2_2_1, o10_2_2_2_2_1, ())))), (1000013, Ent.own Is (List.set o1000013 (Int.toNat o10_2_1) (List.getD o1000013 (Int.toNat o10_2_1) (0 : Int) + (1 : Int))))]))) (.ret ((false, ())))) (.ret ((false, ())))))))))))))) (.need (0 < List.length o1000013) (cond (decide (minL o1000013 = v14)) (.need (0 < List.length o1000013) (.ret ((decide (maxL o1000013 = v14), ())))) (.ret ((false, ()))))) := by kernel_rfl
theorem cTurnRound_valid : cTurnRound.Valid Try.prog 9 := by
  refine Ctr.valid_of ETurnRound_ok rfl rfl Try.func9 (c := bodyOf Try.prog 9) rfl rfl FTurnRound_ok rfl ?_
  rintro ⟨(n : Int), (l : List BeatD), (z : Int), ⟨⟩⟩ - -
  refine exec_sound (n := 1000) ETurnRound_ok FTurnRound_ok ?_
  refine holds_of_eq (ETurnRound_t n l z) ?_
  have hf := few_in n
  obtain ⟨e1, inv⟩ := tturns_inv hf.1 hf.2 l
  have hz := rest_in (a := z) (n := 5) (by omega)
  generalize rest z 5 = zr at *
  have hmul : 0 ≤ (zr + 1) * few n ∧ (zr + 1) * few n ≤ 5 * 6 := ⟨Int.mul_nonneg (by omega) (by omega), Int.mul_le_mul (by omega) (by omega) (by omega) (by omega)⟩
  simp only [holds_cond, Tree.holds, true_and, true_implies, decide_eq_true_eq, decide_eq_false_iff_not, Bool.not_eq_true', Bool.not_eq_false', Int.toNat_natCast, inK_i64, List.length_set, List.length_cons, List.length_nil, wb_i64]
  refine ⟨by omega, fun _ => ⟨by omega, fun _ => ⟨fun a => absurd (a.symm.trans e1) (by decide), fun _ => ⟨by omega, fun _ => ⟨by omega, fun _ => ⟨by omega, fun _ => ⟨by omega, fun _ => ?_⟩⟩⟩⟩⟩⟩⟩
  generalize tturns (few n) l = r at *
  obtain ⟨⟨q0, q1, q2, q3, q4, ⟨⟩⟩, m, b, ⟨⟩⟩ := r
  generalize few n = k at *
  have hq0 : q0 = k := inv.num
  have hok : TOk (q0, q1, q2, q3, q4, ()) := inv.ok
  have hhas : 0 ≤ q1 ∧ q1 ≤ q0 - 1 := hok.has
  have hh : 0 ≤ q1 ∧ q1 < k := by omega
  generalize hN : (zr + 1) * k = N at *
  have hr0 : Round k q1 [] 0 (q0, q1, q2, q3, q4, ()) := ⟨hok, hq0, by show q1 = (q1 + ((0 : Nat) : Int)) % k; rw [show q1 + ((0 : Nat) : Int) = q1 by omega, Int.emod_eq_of_lt (by omega) (by omega)], fun i hi => by omega, fun x hx => by cases hx⟩
  refine Reach.loopI ETurnRound_ok FTurnRound_ok (fun s : Nat × TurnD × List Int => ETurnRound_s11 k (zr + 1) N (s.1 : Int) s.2.1.1 s.2.1.2.1 s.2.1.2.2.1 s.2.1.2.2.2.1 s.2.1.2.2.2.2.1 s.2.2) (fun s => (s.1 : Int) ≤ N ∧ Round k q1 [] s.1 s.2.1 ∧ (s.2.2.length : Int) = k ∧ ∀ p : Nat, (p : Int) < k → s.2.2.getD p 0 = had k q1 s.1 p) (fun s => N.toNat - s.1) 1000 (fun _ => ⟨uniq_of rfl, uniq_of rfl⟩) ?_ (0, (q0, q1, q2, q3, q4, ()), List.replicate k.toNat 0) ⟨by show ((0 : Nat) : Int) ≤ N; omega, hr0, by show ((List.replicate k.toNat (0 : Int)).length : Int) = k; rw [List.length_replicate]; omega, fun p hp => by show (List.replicate k.toNat (0 : Int)).getD p 0 = had k q1 0 p; rw [repF _ _ (by omega), (had_all hf hh hp (j := 0)).2.2.2.1]⟩
  clear hr0
  rintro ⟨j, ⟨p0, p1, p2, p3, p4, ⟨⟩⟩, s⟩ ⟨k1, k2, k3, k4⟩ - ih
  have k1 : (j : Int) ≤ N := k1
  have k2 : Round k q1 [] j (p0, p1, p2, p3, p4, ()) := k2
  have k3 : (s.length : Int) = k := k3
  have k4 : ∀ p : Nat, (p : Int) < k → s.getD p 0 = had k q1 j p := k4
  have hp0 : p0 = k := k2.num
  have hp1 : 0 ≤ p1 ∧ p1 ≤ p0 - 1 := k2.ok.has
  have hp1m : p1 = (q1 + j) % k := k2.has
  have ep : ttOn (p0, p1, p2, p3, p4, ()) = (tpass (p0, p1, p2, p3, p4, ()), 0, true, ()) := by
    rw [ttOn, show tstep (p0, p1, p2, p3, p4, ()) (2, p1, 0, ()) = (tpass (p0, p1, p2, p3, p4, ()), 0, 0, ()) from tstep_pass k2.ok]; rfl
  refine holds_of_eq (ETurnRound_l11 ..) ?_
  have hjd : 0 ≤ (j : Int) / k ∧ (j : Int) / k ≤ j := ⟨Int.ediv_nonneg (by omega) (by omega), Int.ediv_le_self _ (by omega)⟩
  have hsp := k4 p1.toNat (by omega)
  have hsb := (had_all hf hh (p := p1.toNat) (by omega) (j := j)).2
  have hset : ∀ p : Nat, (p : Int) < k → (s.set p1.toNat (s.getD p1.toNat 0 + 1)).getD p 0 = had k q1 (j + 1) p := by
    intro p hp
    rw [getD_set (by omega), (had_all hf hh hp (j := j)).1]
    by_cases e : p = p1.toNat
    · rw [if_pos e, if_pos (by omega), hsp, e]
    · rw [if_neg e, if_neg (by omega), k4 p hp]; omega
  have hb2 : ∀ p, p < (s.set p1.toNat (s.getD p1.toNat 0 + 1)).length → ((j + 1 : Nat) : Int) / k ≤ (s.set p1.toNat (s.getD p1.toNat 0 + 1)).getD p 0 ∧ (s.set p1.toNat (s.getD p1.toNat 0 + 1)).getD p 0 ≤ ((j + 1 : Nat) : Int) / k + 1 := by
    intro p hp
    rw [List.length_set] at hp
    rw [hset p (by omega)]
    have := (had_all hf hh (p := p) (by omega) (j := j + 1)).2
    exact ⟨this.1, this.2.1⟩
  have hl0 : 0 < (s.set p1.toNat (s.getD p1.toNat 0 + 1)).length := by rw [List.length_set]; omega
  have b1 := maxL_in hl0 hb2
  have b2 := minL_in hl0 hb2
  have hj1 : 0 ≤ ((j + 1 : Nat) : Int) / k ∧ ((j + 1 : Nat) : Int) / k ≤ (j + 1 : Nat) := ⟨Int.ediv_nonneg (by omega) (by omega), Int.ediv_le_self _ (by omega)⟩
  simp only [holds_cond, Tree.holds, true_and, true_implies, decide_eq_true_eq, decide_eq_false_iff_not, Bool.not_eq_true', Bool.not_eq_false', Int.toNat_natCast, inK_i64, List.length_set, List.length_cons, List.length_nil, ep]
  rw [List.length_set] at hl0
  refine ⟨fun c => ⟨fun d => by omega, fun _ => ⟨fun d => by omega, fun _ => ⟨by omega, fun _ => ⟨by omega, fun _ => ⟨by omega, fun _ => ⟨by omega, fun _ => ⟨by omega, fun _ => ⟨by omega, fun _ => ⟨fun d => by omega, fun _ => ⟨⟨⟨by omega, fun _ => ?_⟩, fun d => absurd trivial d⟩, fun d => by cases d⟩⟩⟩⟩⟩⟩⟩⟩⟩⟩, fun c => ?_⟩
  · exact ih (j + 1, tpass (p0, p1, p2, p3, p4, ()), s.set p1.toNat (s.getD p1.toNat 0 + 1)) ⟨by show ((j + 1 : Nat) : Int) ≤ N; omega, k2.next, by show ((s.set _ _).length : Int) = k; rw [List.length_set]; exact k3, hset⟩ (by show _ - (j + 1) < _ - j; omega)
  · have hjN : (j : Int) = (zr + 1) * k := by omega
    have hb3 : ∀ p, p < s.length → zr + 1 ≤ s.getD p 0 ∧ s.getD p 0 ≤ zr + 1 := by
      intro p hp
      rw [k4 p (by omega), (had_all hf hh (p := p) (by omega) (j := j)).2.2.2.2 _ hjN]
      omega
    have b3 := maxL_in hl0 hb3
    have b4 := minL_in hl0 hb3
    exact ⟨hl0, fun _ => ⟨fun _ => ⟨hl0, fun _ => yesd (by omega)⟩, fun d => by omega⟩⟩
end Go.Proofs.Ytbcdpeogfghgcaa
