/- pred.Must: what must be so. -/
import Derived.Test.YtcafiieffenohaaPFst
namespace Go.Proofs.Ytcafiieffenohaa
open Go.Ex
set_option maxRecDepth 100000
/-- those that are reached without its being so -/
def preB (R : List (List Int)) (c : List Int) : Nat → Bool
  | 0 => false
  | p + 1 => preB R c p || decide (c.set p (c.getD p 0 - 1) ∈ R)
def mStep (t : TrD) (R : List (List Int)) (c : List Int) : List (List Int) :=
  if holdsB t c = true then R else if c = v0 then R ++ [c] else if preB R c 6 = true then R ++ [c] else R
def mAll (t : TrD) (l : List (List Int)) : List (List Int) := l.foldl (mStep t) []
def mustR (h : List Ev) (t : TrD) : Bool × Int × Unit := if pErr h t ≠ 0 then (false, pErr h t, ()) else if 4096 < room h then (false, 2, ()) else (!decide (cntV h h.length ∈ mAll t (allL h)), 0, ())
def cmust : Ctr := { ps := [.v Es, .v Tr], rs := [.bool, I64], pre := fun _ => True, fn := fun x => mustR x.1 x.2.1, out := fun _ => () }
noncomputable def Epmust : Env := { P := Try.prog, tt := tt, ctr := [(70, cpcheck), (71, cholds), (76, call)], res := [Go.ResultVar.tmp 4, Go.ResultVar.tmp 5], rs := [Ty.bool, Ty.int IntKind.i64], ps := [PK.v Es, PK.v (Ty.slc false (Ty.slc false Ty.bool))], cuts := [(10, [(1, none), (9, some (Ty.map true Vec Ty.bool)), (10, none), (30, some (Ty.slc true Vec)), (31, none), (32, none)]), (17, [(1, none), (9, some (Ty.map true Vec Ty.bool)), (10, none), (12, none), (30, some (Ty.slc true Vec)), (31, none), (32, none), (45, none)])], nt := 65 }
theorem Epmust_ok : EnvOk Epmust := envOk tt_ok ⟨cpcheck_valid, cholds_valid, call_valid, trivial⟩
theorem Fpmust_ok : FnOk Epmust Try.f49 := ⟨rfl, rfl⟩
theorem Epmust_t (x0 : List (Int × Int × Int × Unit)) (x1 : List (List Bool)) : exec Epmust 1000 [.code (bodyOf Try.prog 49)] (initSt cmust.ps ((x0, x1, ()))) =
  .need (True) (cond (decide (pErr x0 x1 ≠ (0 : Int))) (.ret ((false, pErr x0 x1, ()))) (.need (True) (cond (decide (Prod.fst (Prod.snd (allR x0)) ≠ (0 : Int))) (.ret ((false, Prod.fst (Prod.snd (allR x0)), ()))) (.cut (loopAt (bodyOf Try.prog 49) 10).1 (loopAt (bodyOf Try.prog 49) 10).2 (St.mk [(1, AV.val (Ty.slc false (Ty.slc false Ty.bool)) x1), (9, AV.at_ 1000009 []), (10, AV.ptr 10 []), (30, AV.at_ 1000030 []), (31, AV.val (Ty.int IntKind.i64) (↑(List.length (Prod.fst (allR x0))) : Int)), (32, AV.val (Ty.int IntKind.i64) (0 : Int))] [(10, Ent.var Vec [(0 : Int), (0 : Int), (0 : Int), (0 : Int), (0 : Int), (0 : Int)]), (1000009, Ent.own (Ty.map true Vec Ty.bool) (some [])), (1000030, Ent.own (Ty.slc true Vec) (Prod.fst (allR x0)))]))))) := by kernel_rfl
def Epmust_s10 (v1 : List (List Bool)) (v31 : Int) (v32 : Int) (o10 : List Int) (o1000009 : List (List Int × Bool)) (o1000030 : List (List Int)) : St := St.mk [(1, AV.val (Ty.slc false (Ty.slc false Ty.bool)) v1), (9, AV.at_ 1000009 []), (10, AV.ptr 10 []), (30, AV.at_ 1000030 []), (31, AV.val (Ty.int IntKind.i64) v31), (32, AV.val (Ty.int IntKind.i64) v32)] [(10, Ent.var Vec o10), (1000009, Ent.own (Ty.map true Vec Ty.bool) (some o1000009)), (1000030, Ent.own (Ty.slc true Vec) o1000030)]
theorem Epmust_l10 (v1 : List (List Bool)) (v31 : Int) (v32 : Int) (o10 : List Int) (o1000009 : List (List Int × Bool)) (o1000030 : List (List Int)) : exec Epmust 1000 (.code (loopAt (bodyOf Try.prog 49) 10).1 :: .inLoop (loopAt (bodyOf Try.prog 49) 10).1 :: (loopAt (bodyOf Try.prog 49) 10).2) (Epmust_s10 v1 v31 v32 o10 o1000009 o1000030) =
  cond (decide (v32 < v31)) (.need ((0 : Int) ≤ v32 ∧ v32 < (↑(List.length o1000030) : Int)) (.need (inTr v1 (List.getD o1000030 (Int.toNat v32) [(0 : Int), (0 : Int), (0 : Int), (0 : Int), (0 : Int), (0 : Int)])) (cond (holdsB v1 (List.getD o1000030 (Int.toNat v32) [(0 : Int), (0 : Int), (0 : Int), (0 : Int), (0 : Int), (0 : Int)])) (.need (inK IntKind.i64 (v32 + (1 : Int))) (.cut (loopAt (bodyOf Try.prog 49) 10).1 (loopAt (bodyOf Try.prog 49) 10).2 (St.mk [(1, AV.val (Ty.slc false (Ty.slc false Ty.bool)) v1), (9, AV.at_ 1000009 []), (10, AV.ptr 10 []), (30, AV.at_ 1000030 []), (31, AV.val (Ty.int IntKind.i64) v31), (32, AV.val (Ty.int IntKind.i64) (v32 + (1 : Int)))] [(10, Ent.var Vec (List.getD o1000030 (Int.toNat v32) [(0 : Int), (0 : Int), (0 : Int), (0 : Int), (0 : Int), (0 : Int)])), (1000009, Ent.own (Ty.map true Vec Ty.bool) (some o1000009)), (1000030, Ent.own (Ty.slc true Vec) o1000030)]))) (cond (eqD Vec (List.getD o1000030 (Int.toNat v32) [(0 : Int), (0 : Int), (0 : Int), (0 : Int), (0 : Int), (0 : Int)]) [(0 : Int), (0 : Int), (0 : Int), (0 : Int), (0 : Int), (0 : Int)]) (.need (inK IntKind.i64 (v32 + (1 : Int))) (.cut (loopAt (bodyOf Try.prog 49) 10).1 (loopAt (bodyOf Try.prog 49) 10).2 (St.mk [(1, AV.val (Ty.slc false (Ty.slc false Ty.bool)) v1), (9, AV.at_ 1000009 []), (10, AV.ptr 10 []), (30, AV.at_ 1000030 []), (31, AV.val (Ty.int IntKind.i64) v31), (32, AV.val (Ty.int IntKind.i64) (v32 + (1 : Int)))] [(10, Ent.var Vec (List.getD o1000030 (Int.toNat v32) [(0 : Int), (0 : Int), (0 : Int), (0 : Int), (0 : Int), (0 : Int)])), (1000009, Ent.own (Ty.map true Vec Ty.bool) (some (mput (eqD Vec) (List.getD o1000030 (Int.toNat v32) [(0 : Int), (0 : Int), (0 : Int), (0 : Int), (0 : Int), (0 : Int)]) true o1000009))), (1000030, Ent.own (Ty.slc true Vec) o1000030)]))) (.cut (loopAt (bodyOf Try.prog 49) 17).1 (loopAt (bodyOf Try.prog 49) 17).2 (St.mk [(1, AV.val (Ty.slc false (Ty.slc false Ty.bool)) v1), (9, AV.at_ 1000009 []), (10, AV.ptr 10 []), (12, AV.ptr 12 []), (30, AV.at_ 1000030 []), (31, AV.val (Ty.int IntKind.i64) v31), (32, AV.val (Ty.int IntKind.i64) v32), (45, AV.val (Ty.int IntKind.i64) (0 : Int))] [(10, Ent.var Vec (List.getD o1000030 (Int.toNat v32) [(0 : Int), (0 : Int), (0 : Int), (0 : Int), (0 : Int), (0 : Int)])), (12, Ent.var Vec (List.getD o1000030 (Int.toNat v32) [(0 : Int), (0 : Int), (0 : Int), (0 : Int), (0 : Int), (0 : Int)])), (1000009, Ent.own (Ty.map true Vec Ty.bool) (some o1000009)), (1000030, Ent.own (Ty.slc true Vec) o1000030)])))))) (.ret ((!Option.getD (mget (eqD Vec) o10 (Option.getD (some o1000009) [])) false, (0 : Int), ()))) := by kernel_rfl
def Epmust_s17 (v1 : List (List Bool)) (v31 : Int) (v32 : Int) (v45 : Int) (o10 : List Int) (o12 : List Int) (o1000009 : List (List Int × Bool)) (o1000030 : List (List Int)) : St := St.mk [(1, AV.val (Ty.slc false (Ty.slc false Ty.bool)) v1), (9, AV.at_ 1000009 []), (10, AV.ptr 10 []), (12, AV.ptr 12 []), (30, AV.at_ 1000030 []), (31, AV.val (Ty.int IntKind.i64) v31), (32, AV.val (Ty.int IntKind.i64) v32), (45, AV.val (Ty.int IntKind.i64) v45)] [(10, Ent.var Vec o10), (12, Ent.var Vec o12), (1000009, Ent.own (Ty.map true Vec Ty.bool) (some o1000009)), (1000030, Ent.own (Ty.slc true Vec) o1000030)]
theorem Epmust_l17 (v1 : List (List Bool)) (v31 : Int) (v32 : Int) (v45 : Int) (o10 : List Int) (o12 : List Int) (o1000009 : List (List Int × Bool)) (o1000030 : List (List Int)) : exec Epmust 1000 (.code (loopAt (bodyOf Try.prog 49) 17).1 :: .inLoop (loopAt (bodyOf Try.prog 49) 17).1 :: (loopAt (bodyOf Try.prog 49) 17).2) (Epmust_s17 v1 v31 v32 v45 o10 o12 o1000009 o1000030) =
  cond (decide (v45 < (6 : Int))) (.need ((0 : Int) ≤ v45 ∧ v45 < (↑6 : Int)) (.need (inK IntKind.i64 (List.getD o12 (Int.toNat v45) (0 : Int) - (1 : Int))) (.need ((0 : Int) ≤ v45 ∧ v45 < (↑6 : Int)) (cond (Option.getD (mget (eqD Vec) (List.set o12 (Int.toNat v45) (List.getD o12 (Int.toNat v45) (0 : Int) - (1 : Int))) (Option.getD (some o1000009) [])) false) (.need (inK IntKind.i64 (v45 + (1 : Int))) (.cut (loopAt (bodyOf Try.prog 49) 17).1 (loopAt (bodyOf Try.prog 49) 17).2 (St.mk [(1, AV.val (Ty.slc false (Ty.slc false Ty.bool)) v1), (9, AV.at_ 1000009 []), (10, AV.ptr 10 []), (12, AV.ptr 12 []), (30, AV.at_ 1000030 []), (31, AV.val (Ty.int IntKind.i64) v31), (32, AV.val (Ty.int IntKind.i64) v32), (45, AV.val (Ty.int IntKind.i64) (v45 + (1 : Int)))] [(10, Ent.var Vec o10), (12, Ent.var Vec o12), (1000009, Ent.own (Ty.map true Vec Ty.bool) (some (mput (eqD Vec) o12 true o1000009))), (1000030, Ent.own (Ty.slc true Vec) o1000030)]))) (.need (inK IntKind.i64 (v45 + (1 : Int))) (.cut (loopAt (bodyOf Try.prog 49) 17).1 (loopAt (bodyOf Try.prog 49) 17).2 (St.mk [(1, AV.val (Ty.slc false (Ty.slc false Ty.bool)) v1), (9, AV.at_ 1000009 []), (10, AV.ptr 10 []), (12, AV.ptr 12 []), (30, AV.at_ 1000030 []), (31, AV.val (Ty.int IntKind.i64) v31), (32, AV.val (Ty.int IntKind.i64) v32), (45, AV.val (Ty.int IntKind.i64) (v45 + (1 : Int)))] [(10, Ent.var Vec o10), (12, Ent.var Vec o12), (1000009, Ent.own (Ty.map true Vec Ty.bool) (some o1000009)), (1000030, Ent.own (Ty.slc true Vec) o1000030)]))))))) (.need (inK IntKind.i64 (v32 + (1 : Int))) (.cut (loopAt (bodyOf Try.prog 49) 10).1 (loopAt (bodyOf Try.prog 49) 10).2 (St.mk [(1, AV.val (Ty.slc false (Ty.slc false Ty.bool)) v1), (9, AV.at_ 1000009 []), (10, AV.ptr 10 []), (30, AV.at_ 1000030 []), (31, AV.val (Ty.int IntKind.i64) v31), (32, AV.val (Ty.int IntKind.i64) (v32 + (1 : Int)))] [(10, Ent.var Vec o10), (1000009, Ent.own (Ty.map true Vec Ty.bool) (some o1000009)), (1000030, Ent.own (Ty.slc true Vec) o1000030)]))) := by kernel_rfl
theorem posOf_up {α β : Type} {f : α → α → Bool} {a : α} : ∀ {l : List (α × β)} {i : Nat}, posOf f a l (i + 1) = (posOf f a l i).map (fun q => (q.1 + 1, q.2))
  | [], _ => rfl
  | (x, y) :: l, i => by
    simp only [posOf]
    cases f a x with
    | true => rfl
    | false => exact posOf_up
theorem mget_cons {α β : Type} {f : α → α → Bool} {a x : α} {y : β} {l : List (α × β)} : mget f a ((x, y) :: l) = if f a x = true then some y else mget f a l := by
  simp only [mget, posOf]
  cases f a x with
  | true => rfl
  | false => rw [posOf_up, if_neg (by simp), Option.map_map]; rfl
theorem mput_cons {α β : Type} {f : α → α → Bool} {a x : α} {y z : β} {l : List (α × β)} : mput f a z ((x, y) :: l) = if f a x = true then (a, z) :: l else (x, y) :: mput f a z l := by
  simp only [mput, posOf]
  cases f a x with
  | true => rfl
  | false =>
    rw [posOf_up, if_neg (by simp)]
    cases posOf f a l 0 <;> rfl
theorem mget_put {α : Type} [DecidableEq α] {f : α → α → Bool} (hf : ∀ a b, f a b = decide (a = b)) {x c : α} : ∀ {m : List (α × Bool)}, (mget f x (mput f c true m)).getD false = (decide (x = c) || (mget f x m).getD false)
  | [] => by
    show (mget f x [(c, true)]).getD false = _
    rw [mget_cons, hf]
    by_cases e : x = c
    · rw [if_pos (decide_eq_true e), decide_eq_true e]; rfl
    · rw [if_neg (by simp [e]), decide_eq_false e]; rfl
  | (k, y) :: m => by
    rw [mput_cons, mget_cons, hf c k, hf x k]
    by_cases e : c = k
    · subst e
      rw [if_pos (decide_eq_true rfl), mget_cons, hf x c]
      by_cases e2 : x = c
      · rw [if_pos (decide_eq_true e2), decide_eq_true e2]; rfl
      · rw [if_neg (by simp [e2]), if_neg (by simp [e2]), decide_eq_false e2]; rfl
    · rw [if_neg (by simp [e]), mget_cons, hf x k]
      by_cases e2 : x = k
      · rw [if_pos (decide_eq_true e2), if_pos (decide_eq_true e2), decide_eq_false (fun h => e (by rw [← h, e2]))]; rfl
      · rw [if_neg (by simp [e2]), if_neg (by simp [e2])]
        exact mget_put hf
theorem take_snoc {α : Type} {l : List α} {i : Nat} (hi : i < l.length) (d : α) : l.take (i + 1) = l.take i ++ [l.getD i d] := by
  rw [List.take_succ_eq_append_getElem hi, List.getD_eq_getElem?_getD, List.getElem?_eq_getElem hi]; rfl
theorem mAll_snoc {t : TrD} {l : List (List Int)} {i : Nat} (hi : i < l.length) : mAll t (l.take (i + 1)) = mStep t (mAll t (l.take i)) (l.getD i v0) := by
  rw [take_snoc hi v0, mAll, List.foldl_append]; rfl
theorem eqV6 (a b : List Int) : eqD (Ty.arr 6 (Ty.int IntKind.i64)) a b = decide (a = b) := eqDL_iff
theorem cmust_valid : cmust.Valid Try.prog 49 := by
  refine Ctr.valid_of Epmust_ok rfl rfl Try.func49 (c := bodyOf Try.prog 49) rfl rfl Fpmust_ok rfl ?_
  rintro ⟨(h : List Ev), (t : TrD), ⟨⟩⟩ - -
  refine exec_sound (n := 1000) Epmust_ok Fpmust_ok ?_
  refine holds_of_eq (Epmust_t h t) ?_
  simp only [holds_cond, Tree.holds, true_and, true_implies, decide_eq_true_eq, decide_eq_false_iff_not, Bool.not_eq_true', Bool.not_eq_false', Int.toNat_natCast, inK_i64, List.length_set, List.length_cons, List.length_nil]
  refine ⟨fun a => ?_, fun a => ?_⟩
  · show ((_, _, ()) : Bool × Int × Unit) = mustR h t; rw [mustR, if_pos a]
  have a : pErr h t = 0 := Decidable.of_not_not a
  obtain ⟨hh, h6, hf⟩ := pErr_ok a
  have hl := (scheck_ok hh).1
  by_cases hr : 4096 < room h
  · have e : allR h = ([], 2, ()) := by rw [allR, if_neg (by simp [hh]), if_pos hr]
    rw [e]
    refine ⟨fun _ => ?_, fun b => absurd (show ¬ (2 : Int) = 0 by decide) b⟩
    show ((_, _, ()) : Bool × Int × Unit) = mustR h t; rw [mustR, if_neg (by simp [a]), if_pos hr]
  have e : allR h = (allL h, 0, ()) := by rw [allR, if_neg (by simp [hh]), if_neg hr]
  rw [e]
  refine ⟨fun b => absurd rfl b, fun _ => ?_⟩
  have eM : mustR h t = (!decide (cntV h h.length ∈ mAll t (allL h)), 0, ()) := by rw [mustR, if_neg (by simp [a]), if_neg hr]
  have hmem : ∀ i, i < (allL h).length → CutOf h ((allL h).getD i v0) := fun i hi => ((mem_all hh).1 (getD_mem hi)).1
  have hsmall : (allL h).length ≤ 4096 := by
    have h1 := allTo_len (h := h) (k := (room h).toNat)
    have h2 : allTo h (room h).toNat = allL h := rfl
    rw [h2] at h1; omega
  obtain ⟨l0, hlast⟩ := all_last hh
  have hfin : (v0 :: allL h).getD (allL h).length v0 = cntV h h.length := by rw [hlast]; simp
  generalize allL h = L at *
  refine Reach.loopI Epmust_ok Fpmust_ok (fun s : Nat × List (List Int × Bool) => Epmust_s10 t (L.length : Int) (s.1 : Int) ((v0 :: L).getD s.1 v0) s.2 L) (fun s => s.1 ≤ L.length ∧ ∀ x, (mget (eqD (Ty.arr 6 (Ty.int IntKind.i64))) x s.2).getD false = decide (x ∈ mAll t (L.take s.1))) (fun s => L.length - s.1) 1000 (fun _ => ⟨uniq_of rfl, uniq_of rfl⟩) ?_ (0, []) ⟨by simp, fun x => by simp [mAll]; rfl⟩
  rintro ⟨i, m⟩ ⟨k1, k2⟩ - ih
  have k1 : i ≤ L.length := k1
  have k2 : ∀ x, (mget (eqD (Ty.arr 6 (Ty.int IntKind.i64))) x m).getD false = decide (x ∈ mAll t (L.take i)) := k2
  refine holds_of_eq (Epmust_l10 ..) ?_
  by_cases hi : i < L.length
  · have hc := hmem i hi
    have ein := cut_in h6 hf hc
    have eS := mAll_snoc (t := t) hi
    have hnext : ∀ m', (∀ x, (mget (eqD (Ty.arr 6 (Ty.int IntKind.i64))) x m').getD false = decide (x ∈ mStep t (mAll t (L.take i)) (L.getD i v0))) → _ := fun m' hm => ih (i + 1, m') ⟨hi, by show ∀ x, _ = decide (x ∈ mAll t (L.take (i + 1))); rw [eS]; exact hm⟩ (by show L.length - (i + 1) < L.length - i; omega)
    have eL : (v0 :: L).getD (i + 1) v0 = L.getD i v0 := rfl
    simp only [eL] at hnext
    generalize mAll t (L.take i) = R at *
    rw [eqV6]
    simp only [Int.toNat_natCast]
    obtain ⟨c, hcd⟩ : ∃ c, c = L.getD i v0 := ⟨_, rfl⟩
    simp only [← hcd] at hnext hc ein ⊢
    simp only [holds_cond, Tree.holds, true_and, true_implies, decide_eq_true_eq, decide_eq_false_iff_not, Bool.not_eq_true', Bool.not_eq_false', Int.toNat_natCast, inK_i64, List.length_set, List.length_cons, List.length_nil]
    refine ⟨fun _ => ⟨by omega, fun _ => ⟨ein, fun _ => ⟨fun b => ⟨by omega, fun _ => hnext m (fun x => by rw [k2, mStep, if_pos b])⟩, fun b => ⟨fun d => ⟨by omega, fun _ => hnext _ (fun x => ?_)⟩, fun d => ?_⟩⟩⟩⟩, fun f => absurd f (by omega)⟩
    · rw [mget_put eqV6, k2, mStep, if_neg (by simp [b]), if_pos d]
      by_cases e1 : x = c <;> by_cases e2 : x ∈ R <;> simp [e1, e2]
    · refine Reach.loopI Epmust_ok Fpmust_ok (fun s : Nat × List (List Int × Bool) => Epmust_s17 t (L.length : Int) (i : Int) (s.1 : Int) c c s.2 L) (fun s => s.1 ≤ 6 ∧ ∀ x, (mget (eqD (Ty.arr 6 (Ty.int IntKind.i64))) x s.2).getD false = (decide (x ∈ R) || (decide (x = c) && preB R c s.1))) (fun s => 6 - s.1) 1000 (fun _ => ⟨uniq_of rfl, uniq_of rfl⟩) ?_ (0, m) ⟨by simp, fun x => by rw [k2]; simp [preB]⟩
      rintro ⟨p, m'⟩ ⟨n1, n2⟩ - ihp
      have n1 : p ≤ 6 := n1
      have n2 : ∀ x, (mget (eqD (Ty.arr 6 (Ty.int IntKind.i64))) x m').getD false = (decide (x ∈ R) || (decide (x = c) && preB R c p)) := n2
      refine holds_of_eq (Epmust_l17 ..) ?_
      by_cases hp : p < 6
      · have q1 := hc.lo p hp
        have q2 := hc.hi p hp
        have q3 := cnt_le' (h := h) (p := p) (i := h.length)
        have q5 := hc.len
        have hne : ¬ c.set p (c.getD p 0 - 1) = c := fun h1 => by
          have := getD_set (l := c) (i := p) (j := p) (x := c.getD p 0 - 1) (d := 0) (by omega)
          rw [h1, if_pos rfl] at this; omega
        have hb : (mget (eqD (Ty.arr 6 (Ty.int IntKind.i64))) (c.set p (c.getD p 0 - 1)) m').getD false = decide (c.set p (c.getD p 0 - 1) ∈ R) := by rw [n2, decide_eq_false hne]; simp
        have hpn := fun (m'' : List (List Int × Bool)) (hm : ∀ x, (mget (eqD (Ty.arr 6 (Ty.int IntKind.i64))) x m'').getD false = (decide (x ∈ R) || (decide (x = c) && preB R c (p + 1)))) => ihp (p + 1, m'') ⟨by show p + 1 ≤ 6; omega, hm⟩ (by show 6 - (p + 1) < 6 - p; omega)
        simp only [holds_cond, Tree.holds, true_and, true_implies, decide_eq_true_eq, decide_eq_false_iff_not, Bool.not_eq_true', Bool.not_eq_false', Int.toNat_natCast, inK_i64, List.length_set, List.length_cons, List.length_nil, Option.getD_some]
        rw [hb]
        refine ⟨fun _ => ⟨by omega, fun _ => ⟨by omega, fun _ => ⟨by omega, fun _ => ⟨fun r => ⟨by omega, fun _ => hpn (mput (eqD (Ty.arr 6 (Ty.int IntKind.i64))) c true m') (fun x => ?_)⟩, fun r => ⟨by omega, fun _ => hpn m' (fun x => ?_)⟩⟩⟩⟩⟩, fun f => absurd f (by omega)⟩
        · rw [mget_put eqV6, n2, preB, r]
          by_cases e1 : x = c <;> simp [e1]
        · rw [n2, preB, r, Bool.or_false]
      · have hp6 : p = 6 := by omega
        subst hp6
        simp only [holds_cond, Tree.holds, true_and, true_implies, decide_eq_true_eq, decide_eq_false_iff_not, Bool.not_eq_true', Bool.not_eq_false', Int.toNat_natCast, inK_i64, List.length_set, List.length_cons, List.length_nil]
        refine ⟨fun f => absurd f (by omega), fun _ => ⟨by omega, fun _ => hnext m' (fun x => ?_)⟩⟩
        rw [n2, mStep, if_neg (by simp [b]), if_neg d]
        cases hb : preB R c 6 with
        | true => rw [if_pos rfl]; by_cases e1 : x = c <;> by_cases e2 : x ∈ R <;> simp [e1, e2]
        | false => rw [if_neg (by simp)]; simp
  · have hi2 : i = L.length := by omega
    subst hi2
    simp only [holds_cond, Tree.holds, true_and, true_implies, decide_eq_true_eq, decide_eq_false_iff_not, Bool.not_eq_true', Bool.not_eq_false', Int.toNat_natCast, inK_i64, List.length_set, List.length_cons, List.length_nil, Option.getD_some]
    refine ⟨fun f => absurd f (by omega), fun _ => ?_⟩
    show ((_, _, ()) : Bool × Int × Unit) = mustR h t
    rw [k2, hfin, eM, List.take_length]
end Go.Proofs.Ytcafiieffenohaa
