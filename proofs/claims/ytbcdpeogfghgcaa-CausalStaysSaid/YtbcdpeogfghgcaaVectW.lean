/- vect.Max and vect.Within. No condition. -/
import Derived.Test.YtbcdpeogfghgcaaUtil
namespace Go.Proofs.Ytbcdpeogfghgcaa
open Go.Ex
set_option maxRecDepth 100000
def maxI (a b : Int) : Int := if a < b then b else a
def minI (a b : Int) : Int := if b < a then b else a
def vmax (a b : List Int) : List Int := (List.range 6).map (fun j => maxI (a.getD j 0) (b.getD j 0))
def vmin (a b : List Int) : List Int := (List.range 6).map (fun j => minI (a.getD j 0) (b.getD j 0))
def partM (f : Int → Int → Int) (a b : List Int) (i : Nat) : List Int := (List.range 6).map (fun j => if j < i then f (a.getD j 0) (b.getD j 0) else a.getD j 0)
theorem partM_zero {f : Int → Int → Int} {a b : List Int} (ha : a.length = 6) : partM f a b 0 = a := by
  rw [partM]; simp only [Nat.not_lt_zero, if_false]; exact map_range_getD ha
theorem partM_done {f : Int → Int → Int} {a b : List Int} : partM f a b 6 = (List.range 6).map (fun j => f (a.getD j 0) (b.getD j 0)) :=
  List.map_congr_left (fun j hj => by rw [if_pos (List.mem_range.1 hj)])
theorem partM_at {f : Int → Int → Int} {a b : List Int} {i : Nat} (hi : i < 6) : (partM f a b i).getD i 0 = a.getD i 0 := by
  rw [partM, getD_map_range _ _ hi, if_neg (by omega)]
theorem partM_set {f : Int → Int → Int} {a b : List Int} {i : Nat} (hi : i < 6) : (partM f a b i).set i (f (a.getD i 0) (b.getD i 0)) = partM f a b (i + 1) := by
  rw [partM, set_map_range _ _ hi]
  refine List.map_congr_left (fun j _ => ?_)
  by_cases e : j = i
  · subst e; rw [if_pos rfl, if_pos (by omega)]
  · rw [if_neg e]
    by_cases e2 : j < i
    · rw [if_pos e2, if_pos (by omega)]
    · rw [if_neg e2, if_neg (by omega)]

def cvmax : Ctr := { ps := [.v Vec, .v Vec], rs := [Vec], pre := fun _ => True, fn := fun x => (vmax x.1 x.2.1, ()), out := fun _ => () }
noncomputable def Evmax : Env := { P := Try.prog, tt := tt, ctr := [], res := [Go.ResultVar.cell 4 49], rs := [Ty.arr 6 (Ty.int IntKind.i64)], ps := [PK.v Vec, PK.v Vec], cuts := [(2, [(2, none), (3, none), (4, none), (6, none)])], nt := 20 }
theorem Evmax_ok : EnvOk Evmax := envOk tt_ok trivial
theorem Fvmax_ok : FnOk Evmax Try.f86 := ⟨rfl, rfl⟩
theorem Evmax_t (x0 : List Int) (x1 : List Int) : exec Evmax 1000 [.code (bodyOf Try.prog 86)] (initSt cvmax.ps ((x0, x1, ()))) =
  .cut (loopAt (bodyOf Try.prog 86) 2).1 (loopAt (bodyOf Try.prog 86) 2).2 (St.mk [(2, AV.ptr 2 []), (3, AV.ptr 3 []), (4, AV.ptr 4 []), (6, AV.val (Ty.int IntKind.i64) (0 : Int))] [(2, Ent.var Vec x0), (3, Ent.var Vec x1), (4, Ent.var Vec [(0 : Int), (0 : Int), (0 : Int), (0 : Int), (0 : Int), (0 : Int)])]) := by kernel_rfl
def Evmax_s2 (v6 : Int) (o2 : List Int) (o3 : List Int) (o4 : List Int) : St := St.mk [(2, AV.ptr 2 []), (3, AV.ptr 3 []), (4, AV.ptr 4 []), (6, AV.val (Ty.int IntKind.i64) v6)] [(2, Ent.var Vec o2), (3, Ent.var Vec o3), (4, Ent.var Vec o4)]
theorem Evmax_l2 (v6 : Int) (o2 : List Int) (o3 : List Int) (o4 : List Int) : exec Evmax 1000 (.code (loopAt (bodyOf Try.prog 86) 2).1 :: .inLoop (loopAt (bodyOf Try.prog 86) 2).1 :: (loopAt (bodyOf Try.prog 86) 2).2) (Evmax_s2 v6 o2 o3 o4) =
  cond (decide (v6 < (6 : Int))) (.need ((0 : Int) ≤ v6 ∧ v6 < (↑6 : Int)) (.need ((0 : Int) ≤ v6 ∧ v6 < (↑6 : Int)) (.need ((0 : Int) ≤ v6 ∧ v6 < (↑6 : Int)) (.need (inK IntKind.i64 (v6 + (1 : Int))) (.cut (loopAt (bodyOf Try.prog 86) 2).1 (loopAt (bodyOf Try.prog 86) 2).2 (St.mk [(2, AV.ptr 2 []), (3, AV.ptr 3 []), (4, AV.ptr 4 []), (6, AV.val (Ty.int IntKind.i64) (v6 + (1 : Int)))] [(2, Ent.var Vec (List.set o2 (Int.toNat v6) (if List.getD o2 (Int.toNat v6) (0 : Int) < List.getD o3 (Int.toNat v6) (0 : Int) then List.getD o3 (Int.toNat v6) (0 : Int) else List.getD o2 (Int.toNat v6) (0 : Int)))), (3, Ent.var Vec o3), (4, Ent.var Vec o4)])))))) (.ret ((o2, ()))) := by kernel_rfl
theorem cvmax_valid : cvmax.Valid Try.prog 86 := by
  refine Ctr.valid_of Evmax_ok rfl rfl Try.func86 (c := bodyOf Try.prog 86) rfl rfl Fvmax_ok rfl ?_
  rintro ⟨(a : List Int), (b : List Int), ⟨⟩⟩ - ⟨⟨ha, -⟩, ⟨hb, -⟩, -⟩
  have ha : a.length = 6 := ha
  refine exec_sound (n := 1000) Evmax_ok Fvmax_ok ?_
  refine holds_of_eq (Evmax_t a b) ?_
  have h0 : St.mk [(2, AV.ptr 2 []), (3, AV.ptr 3 []), (4, AV.ptr 4 []), (6, AV.val (Ty.int IntKind.i64) 0)] [(2, Ent.var Vec a), (3, Ent.var Vec b), (4, Ent.var Vec [0, 0, 0, 0, 0, 0])] = Evmax_s2 ((0 : Nat) : Int) (partM maxI a b 0) b [0, 0, 0, 0, 0, 0] := by rw [partM_zero ha]; rfl
  rw [h0]
  refine Reach.loopI Evmax_ok Fvmax_ok (fun i : Nat => Evmax_s2 (i : Int) (partM maxI a b i) b [0, 0, 0, 0, 0, 0]) (fun i => i ≤ 6) (fun i => 6 - i) 1000 (fun _ => ⟨uniq_of rfl, uniq_of rfl⟩) ?_ 0 (by omega)
  rintro i k1 - ih
  refine holds_of_eq (Evmax_l2 ..) ?_
  simp only [holds_cond, Tree.holds, true_and, true_implies, decide_eq_true_eq, decide_eq_false_iff_not, Bool.not_eq_true', Bool.not_eq_false', Int.toNat_natCast, inK_i64, List.length_set, List.length_cons, List.length_nil]
  refine ⟨fun h => ?_, fun h => ?_⟩
  · have h9 := ih (i + 1) (by omega) (by omega)
    rw [← partM_set (by omega)] at h9
    rw [partM_at (by omega)]
    exact ⟨by omega, fun _ => ⟨by omega, fun _ => ⟨by omega, fun _ => ⟨by omega, fun _ => h9⟩⟩⟩⟩
  · have hi : i = 6 := by omega
    subst hi
    show ((partM maxI a b 6, ()) : List Int × Unit) = (vmax a b, ())
    rw [partM_done]; rfl
theorem eqDL_iff : ∀ {l m : List Int}, eqD (.arr 6 I64) l m = decide (l = m)
  | [], [] => rfl
  | [], _ :: _ => by simp [eqD, eqD.eqDL]
  | _ :: _, [] => by simp [eqD, eqD.eqDL]
  | a :: l, b :: m => by
    show (decide ((a : Int) = b) && eqD (.arr 6 I64) l m) = _
    rw [eqDL_iff]
    by_cases e : a = b <;> by_cases e2 : l = m <;> simp [e, e2]
def within (a b : List Int) : Bool := decide (vmax a b = b)
def cwithin : Ctr := { ps := [.v Vec, .v Vec], rs := [.bool], pre := fun _ => True, fn := fun x => (within x.1 x.2.1, ()), out := fun _ => () }
noncomputable def Ewithin : Env := { P := Try.prog, tt := tt, ctr := [(86, cvmax)], res := [Go.ResultVar.tmp 4], rs := [Ty.bool], ps := [PK.v Vec, PK.v Vec], cuts := [], nt := 10 }
theorem Ewithin_ok : EnvOk Ewithin := envOk tt_ok ⟨cvmax_valid, trivial⟩
theorem Fwithin_ok : FnOk Ewithin Try.f28 := ⟨rfl, rfl⟩
theorem Ewithin_t (x0 : List Int) (x1 : List Int) : exec Ewithin 1000 [.code (bodyOf Try.prog 28)] (initSt cwithin.ps ((x0, x1, ()))) =
  .need (True) (.ret ((eqD (Ty.arr 6 I64) (vmax x0 x1) x1, ()))) := by kernel_rfl
theorem cwithin_valid : cwithin.Valid Try.prog 28 := by
  refine Ctr.valid_of Ewithin_ok rfl rfl Try.func28 (c := bodyOf Try.prog 28) rfl rfl Fwithin_ok rfl ?_
  rintro ⟨(a : List Int), (b : List Int), ⟨⟩⟩ - -
  refine exec_sound (n := 1000) Ewithin_ok Fwithin_ok ?_
  refine holds_of_eq (Ewithin_t a b) ?_
  refine ⟨trivial, fun _ => ?_⟩
  show ((_, ()) : Bool × Unit) = (within a b, ())
  rw [within, ← eqDL_iff]
theorem vmax_get {a b : List Int} {q : Nat} (hq : q < 6) : (vmax a b).getD q 0 = maxI (a.getD q 0) (b.getD q 0) := getD_map_range _ _ hq
theorem within_iff {a b : List Int} (hb : b.length = 6) : within a b = true ↔ ∀ q, q < 6 → a.getD q 0 ≤ b.getD q 0 := by
  rw [within, decide_eq_true_eq]
  constructor
  · intro h q hq
    have := vmax_get (a := a) (b := b) hq
    rw [h, maxI] at this
    split at this <;> omega
  · intro h
    refine eq_of_getD (d := 0) (by simp [vmax, hb]) (fun q hq => ?_)
    have hq : q < 6 := by simpa [vmax] using hq
    rw [vmax_get hq, maxI]
    have := h q hq
    split <;> omega
end Go.Proofs.Ytbcdpeogfghgcaa
