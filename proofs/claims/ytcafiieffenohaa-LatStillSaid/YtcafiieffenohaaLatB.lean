/- The laws of lattices of sets. -/
import Derived.Test.YtcafiieffenohaaLat
namespace Go.Proofs.Ytcafiieffenohaa
open Go.Ex
set_option maxRecDepth 100000
def cidxU : Ctr := { ps := [.v (.slc false U16), .v U16], rs := [I64], pre := fun _ => True, fn := fun x => (idxI x.1 x.2.1, ()), out := fun _ => () }
noncomputable def EidxU : Env := { P := Try.prog, tt := tt, ctr := [], res := [Go.ResultVar.tmp 4], rs := [Ty.int IntKind.i64], ps := [PK.v (Ty.slc false (Ty.int IntKind.u16)), PK.v (Ty.int IntKind.u16)], cuts := [(2, [(0, none), (1, none), (7, none), (8, none)])], nt := 19 }
theorem EidxU_ok : EnvOk EidxU := envOk tt_ok trivial
theorem FidxU_ok : FnOk EidxU Try.f24 := ⟨rfl, rfl⟩
theorem EidxU_t (x0 : List Int) (x1 : Int) : exec EidxU 1000 [.code (bodyOf Try.prog 24)] (initSt cidxU.ps ((x0, x1, ()))) =
  .cut (loopAt (bodyOf Try.prog 24) 2).1 (loopAt (bodyOf Try.prog 24) 2).2 (St.mk [(0, AV.val (Ty.slc false (Ty.int IntKind.u16)) x0), (1, AV.val (Ty.int IntKind.u16) x1), (7, AV.val (Ty.int IntKind.i64) (↑(List.length x0) : Int)), (8, AV.val (Ty.int IntKind.i64) (0 : Int))] []) := by kernel_rfl
def EidxU_s2 (v0 : List Int) (v1 : Int) (v7 : Int) (v8 : Int) : St := St.mk [(0, AV.val (Ty.slc false (Ty.int IntKind.u16)) v0), (1, AV.val (Ty.int IntKind.u16) v1), (7, AV.val (Ty.int IntKind.i64) v7), (8, AV.val (Ty.int IntKind.i64) v8)] []
theorem EidxU_l2 (v0 : List Int) (v1 : Int) (v7 : Int) (v8 : Int) : exec EidxU 1000 (.code (loopAt (bodyOf Try.prog 24) 2).1 :: .inLoop (loopAt (bodyOf Try.prog 24) 2).1 :: (loopAt (bodyOf Try.prog 24) 2).2) (EidxU_s2 v0 v1 v7 v8) =
  cond (decide (v8 < v7)) (.need ((0 : Int) ≤ v8 ∧ v8 < (↑(List.length v0) : Int)) (cond (decide (v1 = List.getD v0 (Int.toNat v8) (0 : Int))) (.ret ((v8, ()))) (.need (inK IntKind.i64 (v8 + (1 : Int))) (.cut (loopAt (bodyOf Try.prog 24) 2).1 (loopAt (bodyOf Try.prog 24) 2).2 (St.mk [(0, AV.val (Ty.slc false (Ty.int IntKind.u16)) v0), (1, AV.val (Ty.int IntKind.u16) v1), (7, AV.val (Ty.int IntKind.i64) v7), (8, AV.val (Ty.int IntKind.i64) (v8 + (1 : Int)))] []))))) (.ret (((-1 : Int), ()))) := by kernel_rfl
theorem cidxU_valid : cidxU.Valid Try.prog 24 := by
  refine Ctr.valid_of EidxU_ok rfl rfl Try.func24 (c := bodyOf Try.prog 24) rfl rfl FidxU_ok rfl ?_
  rintro ⟨(l : List Int), (x : Int), ⟨⟩⟩ - ⟨⟨hl, -⟩, -⟩
  have hl : l.length ≤ 9223372036854775807 := hl
  refine exec_sound (n := 1000) EidxU_ok FidxU_ok ?_
  refine holds_of_eq (EidxU_t l x) ?_
  refine Reach.loopI EidxU_ok FidxU_ok (fun i : Nat => EidxU_s2 l x (l.length : Int) (i : Int)) (fun i => i ≤ l.length ∧ idxI l x = idxGo (fun y => decide (x = y)) (l.drop i) i)
    (fun i => l.length - i) 1000 (fun _ => ⟨uniq_of rfl, uniq_of rfl⟩) ?_ 0 ⟨by omega, rfl⟩
  rintro i ⟨k1, k2⟩ - ih
  refine holds_of_eq (EidxU_l2 ..) ?_
  simp only [holds_cond, Tree.holds, true_and, true_implies, decide_eq_true_eq, decide_eq_false_iff_not, Bool.not_eq_true', Bool.not_eq_false', Int.toNat_natCast, inK_i64, List.length_set, List.length_cons, List.length_nil]
  refine ⟨fun h => ?_, fun h => ?_⟩
  · rw [drop_getD (show i < l.length by omega) 0, idxGo] at k2
    refine ⟨by omega, fun _ => ⟨fun c => ?_, fun c => ⟨by omega, fun _ => ih (i + 1) ⟨by omega, ?_⟩ (by omega)⟩⟩⟩
    · show (((i : Int), ()) : Int × Unit) = (idxI l x, ())
      rw [k2, if_pos (decide_eq_true c)]
    · rw [k2, if_neg (fun h9 => c (of_decide_eq_true h9))]
  · rw [List.drop_eq_nil_of_le (by omega)] at k2
    show (((-1 : Int), ()) : Int × Unit) = (idxI l x, ())
    rw [k2]; rfl
theorem idx_spec {l : List Int} {x : Int} (h : x ∈ l) : 0 ≤ idxI l x ∧ idxI l x < (l.length : Int) ∧ l.getD (idxI l x).toNat 0 = x := by
  have key : ∀ {l : List Int} {i : Nat}, x ∈ l → ∃ k, k < l.length ∧ idxGo (fun y => decide (x = y)) l i = ((i + k : Nat) : Int) ∧ l.getD k 0 = x := by
    intro l
    induction l with
    | nil => intro i h; cases h
    | cons y l ih =>
      intro i h
      by_cases e : x = y
      · exact ⟨0, by simp, by rw [idxGo, if_pos (decide_eq_true e)]; rfl, e.symm⟩
      · obtain ⟨k, h1, h2, h3⟩ := ih (i := i + 1) ((List.mem_cons.1 h).resolve_left e)
        refine ⟨k + 1, by simpa using h1, ?_, h3⟩
        rw [idxGo, if_neg (fun h => e (of_decide_eq_true h)), h2]
        omega
  obtain ⟨k, h1, h2, h3⟩ := key (i := 0) h
  rw [show idxI l x = ((0 + k : Nat) : Int) from h2]
  refine ⟨by omega, by omega, ?_⟩
  rw [Int.toNat_natCast, Nat.zero_add]; exact h3
def ceqU : Ctr := { ps := [.v (.slc false U16), .v (.slc false U16)], rs := [.bool], pre := fun _ => True, fn := fun x => (decide ((show List Int from x.1) = (show List Int from x.2.1)), ()), out := fun _ => () }
noncomputable def EeqU : Env := { P := Try.prog, tt := tt, ctr := [], res := [Go.ResultVar.tmp 4], rs := [Ty.bool], ps := [PK.v (Ty.slc false (Ty.int IntKind.u16)), PK.v (Ty.slc false (Ty.int IntKind.u16))], cuts := [(4, [(0, none), (1, none), (12, none), (13, none)])], nt := 26 }
theorem EeqU_ok : EnvOk EeqU := envOk tt_ok trivial
theorem FeqU_ok : FnOk EeqU Try.f26 := ⟨rfl, rfl⟩
theorem EeqU_t (x0 : List Int) (x1 : List Int) : exec EeqU 1000 [.code (bodyOf Try.prog 26)] (initSt ceqU.ps ((x0, x1, ()))) =
  cond (decide ((↑(List.length x0) : Int) ≠ (↑(List.length x1) : Int))) (.ret ((false, ()))) (.cut (loopAt (bodyOf Try.prog 26) 4).1 (loopAt (bodyOf Try.prog 26) 4).2 (St.mk [(0, AV.val (Ty.slc false (Ty.int IntKind.u16)) x0), (1, AV.val (Ty.slc false (Ty.int IntKind.u16)) x1), (12, AV.val (Ty.int IntKind.i64) (↑(List.length x0) : Int)), (13, AV.val (Ty.int IntKind.i64) (0 : Int))] [])) := by kernel_rfl
def EeqU_s4 (v0 : List Int) (v1 : List Int) (v12 : Int) (v13 : Int) : St := St.mk [(0, AV.val (Ty.slc false (Ty.int IntKind.u16)) v0), (1, AV.val (Ty.slc false (Ty.int IntKind.u16)) v1), (12, AV.val (Ty.int IntKind.i64) v12), (13, AV.val (Ty.int IntKind.i64) v13)] []
theorem EeqU_l4 (v0 : List Int) (v1 : List Int) (v12 : Int) (v13 : Int) : exec EeqU 1000 (.code (loopAt (bodyOf Try.prog 26) 4).1 :: .inLoop (loopAt (bodyOf Try.prog 26) 4).1 :: (loopAt (bodyOf Try.prog 26) 4).2) (EeqU_s4 v0 v1 v12 v13) =
  cond (decide (v13 < v12)) (.need ((0 : Int) ≤ v13 ∧ v13 < (↑(List.length v0) : Int)) (.need ((0 : Int) ≤ v13 ∧ v13 < (↑(List.length v1) : Int)) (cond (decide (List.getD v0 (Int.toNat v13) (0 : Int) ≠ List.getD v1 (Int.toNat v13) (0 : Int))) (.ret ((false, ()))) (.need (inK IntKind.i64 (v13 + (1 : Int))) (.cut (loopAt (bodyOf Try.prog 26) 4).1 (loopAt (bodyOf Try.prog 26) 4).2 (St.mk [(0, AV.val (Ty.slc false (Ty.int IntKind.u16)) v0), (1, AV.val (Ty.slc false (Ty.int IntKind.u16)) v1), (12, AV.val (Ty.int IntKind.i64) v12), (13, AV.val (Ty.int IntKind.i64) (v13 + (1 : Int)))] [])))))) (.ret ((true, ()))) := by kernel_rfl
theorem ceqU_valid : ceqU.Valid Try.prog 26 := by
  refine Ctr.valid_of EeqU_ok rfl rfl Try.func26 (c := bodyOf Try.prog 26) rfl rfl FeqU_ok rfl ?_
  rintro ⟨(l : List Int), (m : List Int), ⟨⟩⟩ - ⟨⟨hl, -⟩, -⟩
  have hl : l.length ≤ 9223372036854775807 := hl
  refine exec_sound (n := 1000) EeqU_ok FeqU_ok ?_
  refine holds_of_eq (EeqU_t l m) ?_
  have fin : ∀ {b : Bool}, (b = true ↔ l = m) → ((b, ()) : Bool × Unit) = (decide (l = m), ()) := fun {b} h => by
    cases b with
    | true => rw [decide_eq_true (h.1 rfl)]
    | false => rw [decide_eq_false (fun e => by cases h.2 e)]
  simp only [holds_cond, Tree.holds, true_and, true_implies, decide_eq_true_eq, decide_eq_false_iff_not, Bool.not_eq_true', Bool.not_eq_false', Int.toNat_natCast, inK_i64, List.length_set, List.length_cons, List.length_nil]
  refine ⟨fun c => fin ⟨fun h => (by cases h), fun h => absurd (congrArg (fun q : List Int => (q.length : Int)) h) c⟩, fun c => ?_⟩
  refine Reach.loopI EeqU_ok FeqU_ok (fun i : Nat => EeqU_s4 l m (l.length : Int) (i : Int)) (fun i => i ≤ l.length ∧ ∀ j, j < i → l.getD j 0 = m.getD j 0)
    (fun i => l.length - i) 1000 (fun _ => ⟨uniq_of rfl, uniq_of rfl⟩) ?_ 0 ⟨Nat.zero_le _, fun j hj => by omega⟩
  rintro i ⟨k1, k2⟩ - ih
  refine holds_of_eq (EeqU_l4 ..) ?_
  have c : l.length = m.length := by omega
  simp only [holds_cond, Tree.holds, true_and, true_implies, decide_eq_true_eq, decide_eq_false_iff_not, Bool.not_eq_true', Bool.not_eq_false', Int.toNat_natCast, inK_i64, List.length_set, List.length_cons, List.length_nil]
  refine ⟨fun d1 => ⟨by omega, fun _ => ⟨by omega, fun _ => ⟨fun d2 => fin ⟨fun h => (by cases h), fun h => absurd (congrArg (fun q : List Int => q.getD i 0) h) d2⟩, fun d2 => ⟨by omega, fun _ => ih (i + 1) ⟨by omega, fun j hj => ?_⟩ (by omega)⟩⟩⟩⟩, fun d1 => fin ⟨fun _ => eq_of_getD c (fun j hj => k2 j (by omega)), fun _ => rfl⟩⟩
  rcases Nat.lt_or_ge j i with h | h
  · exact k2 j h
  · obtain rfl : j = i := by omega
    exact Decidable.not_not.1 d2
def cstill1 : Ctr := { ps := [.v I64, .rd (.slc false I64)], rs := [I64], pre := fun x => (0 ≤ (show Int from x.1) ∧ (show Int from x.1) < List.length x.2.1) ∧ (∀ k ∈ (show List Int from x.2.1), 0 ≤ k ∧ k < List.length x.2.1) ∧ List.getD (α := Int) x.2.1 (stillN x.2.1 (List.length x.2.1) x.1).toNat 0 = stillN x.2.1 (List.length x.2.1) x.1, fn := fun x => (stillN x.2.1 (List.length x.2.1) x.1, ()), out := fun _ => () }
noncomputable def Estill1 : Env := { P := Try.prog, tt := tt, ctr := [], res := [Go.ResultVar.tmp 3], rs := [Ty.int IntKind.i64], ps := [PK.v (Ty.int IntKind.i64), PK.rd (Ty.slc false (Ty.int IntKind.i64))], cuts := [(1, [(0, none), (1, none)])], nt := 15 }
theorem Estill1_ok : EnvOk Estill1 := envOk tt_ok trivial
theorem Fstill1_ok : FnOk Estill1 Try.f59 := ⟨rfl, rfl⟩
theorem Estill1_t (x0 : Int) (x1 : List Int) : exec Estill1 1000 [.code (bodyOf Try.prog 59)] (initSt cstill1.ps ((x0, x1, ()))) =
  .cut (loopAt (bodyOf Try.prog 59) 1).1 (loopAt (bodyOf Try.prog 59) 1).2 (St.mk [(0, AV.val (Ty.int IntKind.i64) x0), (1, AV.rptr (Ty.slc false (Ty.int IntKind.i64)) x1)] []) := by kernel_rfl
def Estill1_s1 (v0 : Int) (v1 : List Int) : St := St.mk [(0, AV.val (Ty.int IntKind.i64) v0), (1, AV.rptr (Ty.slc false (Ty.int IntKind.i64)) v1)] []
theorem Estill1_l1 (v0 : Int) (v1 : List Int) : exec Estill1 1000 (.code (loopAt (bodyOf Try.prog 59) 1).1 :: .inLoop (loopAt (bodyOf Try.prog 59) 1).1 :: (loopAt (bodyOf Try.prog 59) 1).2) (Estill1_s1 v0 v1) =
  .need ((0 : Int) ≤ v0 ∧ v0 < (↑(List.length v1) : Int)) (cond (decide (List.getD v1 (Int.toNat v0) (0 : Int) ≠ v0)) (.need ((0 : Int) ≤ v0 ∧ v0 < (↑(List.length v1) : Int)) (.cut (loopAt (bodyOf Try.prog 59) 1).1 (loopAt (bodyOf Try.prog 59) 1).2 (St.mk [(0, AV.val (Ty.int IntKind.i64) (List.getD v1 (Int.toNat v0) (0 : Int))), (1, AV.rptr (Ty.slc false (Ty.int IntKind.i64)) v1)] []))) (.ret ((v0, ())))) := by kernel_rfl
theorem still_same {f : List Int} : ∀ {n : Nat} {k : Int}, f.getD k.toNat 0 = k → stillN f n k = k
  | 0, k, h => rfl
  | n + 1, k, h => by rw [stillN, if_pos h]
theorem cstill1_valid : cstill1.Valid Try.prog 59 := by
  refine Ctr.valid_of Estill1_ok rfl rfl Try.func59 (c := bodyOf Try.prog 59) rfl rfl Fstill1_ok rfl ?_
  rintro ⟨(k0 : Int), (f : List Int), ⟨⟩⟩ ⟨⟨h1, h2⟩, h3, h4⟩ -
  have h1 : 0 ≤ k0 := h1
  have h2 : k0 < (f.length : Int) := h2
  have h3 : ∀ k ∈ f, 0 ≤ k ∧ k < (f.length : Int) := h3
  have h4 : f.getD (stillN f f.length k0).toNat 0 = stillN f f.length k0 := h4
  refine exec_sound (n := 1000) Estill1_ok Fstill1_ok ?_
  refine holds_of_eq (Estill1_t k0 f) ?_
  refine Reach.loopI Estill1_ok Fstill1_ok (fun p : Nat × Int => Estill1_s1 p.2 f) (fun p => (0 ≤ p.2 ∧ p.2 < (f.length : Int)) ∧ stillN f p.1 p.2 = stillN f f.length k0)
    (fun p => p.1) 1000 (fun _ => ⟨uniq_of rfl, uniq_of rfl⟩) ?_ (f.length, k0) ⟨⟨h1, h2⟩, rfl⟩
  rintro ⟨n, k⟩ ⟨k1, k2⟩ - ih
  have k1 : 0 ≤ k ∧ k < (f.length : Int) := k1
  have k2 : stillN f n k = stillN f f.length k0 := k2
  refine holds_of_eq (Estill1_l1 ..) ?_
  simp only [holds_cond, Tree.holds, true_and, true_implies, decide_eq_true_eq, decide_eq_false_iff_not, Bool.not_eq_true', Bool.not_eq_false', Int.toNat_natCast, inK_i64, List.length_set, List.length_cons, List.length_nil]
  refine ⟨k1, fun _ => ⟨fun c => ⟨k1, fun _ => ?_⟩, fun c => ?_⟩⟩
  · cases n with
    | zero =>
      exfalso
      have k2 : k = stillN f f.length k0 := k2
      rw [← k2] at h4
      exact c h4
    | succ n =>
      rw [stillN, if_neg c] at k2
      exact ih (n, f.getD k.toNat 0) ⟨h3 _ (getD_mem (by omega)), k2⟩ (by show n < n + 1; omega)
  · show ((k, ()) : Int × Unit) = (stillN f f.length k0, ())
    rw [← k2, still_same (Decidable.not_not.1 c)]
def stillR (l f : List Int) : Int × Int × Int × Unit := if rises l f ≠ 0 then (0, 0, rises l f, ()) else (stillN f f.length 0, stillN f f.length ((l.length : Int) - 1), 0, ())
def cstill : Ctr := { ps := [.v (.slc false U16), .v (.slc false I64)], rs := [I64, I64, I64], pre := fun _ => True, fn := fun x => stillR x.1 x.2.1, out := fun _ => () }
noncomputable def Estill : Env := { P := Try.prog, tt := tt, ctr := [(32, crises), (59, cstill1)], res := [Go.ResultVar.tmp 4, Go.ResultVar.tmp 5, Go.ResultVar.tmp 6], rs := [Ty.int IntKind.i64, Ty.int IntKind.i64, Ty.int IntKind.i64], ps := [PK.v (Ty.slc false (Ty.int IntKind.u16)), PK.v (Ty.slc false (Ty.int IntKind.i64))], cuts := [], nt := 23 }
theorem Estill_ok : EnvOk Estill := envOk tt_ok ⟨crises_valid, cstill1_valid, trivial⟩
theorem Fstill_ok : FnOk Estill Try.f31 := ⟨rfl, rfl⟩
theorem Estill_t (x0 : List Int) (x1 : List Int) : exec Estill 1000 [.code (bodyOf Try.prog 31)] (initSt cstill.ps ((x0, x1, ()))) =
  .need (True) (cond (decide (rises x0 x1 ≠ (0 : Int))) (.ret (((0 : Int), (0 : Int), rises x0 x1, ()))) (.need (((0 : Int) ≤ (0 : Int) ∧ (0 : Int) < (↑(List.length x1) : Int)) ∧ (∀ (k : Int), k ∈ x1 → (0 : Int) ≤ k ∧ k < (↑(List.length x1) : Int)) ∧ List.getD x1 (Int.toNat (stillN x1 (List.length x1) (0 : Int))) (0 : Int) = stillN x1 (List.length x1) (0 : Int)) (.need (inK IntKind.i64 ((↑(List.length x0) : Int) - (1 : Int))) (.need (((0 : Int) ≤ (↑(List.length x0) : Int) - (1 : Int) ∧ (↑(List.length x0) : Int) - (1 : Int) < (↑(List.length x1) : Int)) ∧ (∀ (k : Int), k ∈ x1 → (0 : Int) ≤ k ∧ k < (↑(List.length x1) : Int)) ∧ List.getD x1 (Int.toNat (stillN x1 (List.length x1) ((↑(List.length x0) : Int) - (1 : Int)))) (0 : Int) = stillN x1 (List.length x1) ((↑(List.length x0) : Int) - (1 : Int))) (.ret ((stillN x1 (List.length x1) (0 : Int), stillN x1 (List.length x1) ((↑(List.length x0) : Int) - (1 : Int)), (0 : Int), ()))))))) := by kernel_rfl
theorem cstill_valid : cstill.Valid Try.prog 31 := by
  refine Ctr.valid_of Estill_ok rfl rfl Try.func31 (c := bodyOf Try.prog 31) rfl rfl Fstill_ok rfl ?_
  rintro ⟨(l : List Int), (f : List Int), ⟨⟩⟩ - ⟨⟨-, hr⟩, -⟩
  have hr : ∀ x ∈ l, inU x := fun x hx => inK_u16.1 (hr x hx)
  refine exec_sound (n := 1000) Estill_ok Fstill_ok ?_
  refine holds_of_eq (Estill_t l f) ?_
  simp only [holds_cond, Tree.holds, true_and, true_implies, decide_eq_true_eq, decide_eq_false_iff_not, Bool.not_eq_true', Bool.not_eq_false', Int.toNat_natCast, inK_i64, List.length_set, List.length_cons, List.length_nil]
  refine ⟨fun c => ?_, fun c => ?_⟩
  · show (((0 : Int), (0 : Int), rises l f, ()) : Int × Int × Int × Unit) = stillR l f
    rw [stillR, if_pos c]
  · have h0 : rises l f = 0 := by omega
    have h := rises_ok hr h0
    obtain ⟨a1, a2, a3⟩ := still_low h
    obtain ⟨b1, b2, b3⟩ := still_high h
    have hp := h.lat.pos
    have hl := h.lat.le
    have hlen := h.len
    have hrng := h.rng
    rw [← hlen] at hrng
    refine ⟨⟨⟨Int.le_refl _, by omega⟩, hrng, a1⟩, fun _ => ⟨by omega, fun _ => ⟨⟨⟨by omega, by omega⟩, hrng, b1⟩, fun _ => ?_⟩⟩⟩
    show ((_, _, (0 : Int), ()) : Int × Int × Int × Unit) = stillR l f
    rw [stillR, if_neg c]
def caset : Ctr := { ps := [.v U16, .rd (.slc false U16)], rs := [I64], pre := fun _ => True, fn := fun x => (idxI x.2.1 x.1, ()), out := fun _ => () }
noncomputable def Easet : Env := { P := Try.prog, tt := tt, ctr := [(24, cidxU)], res := [Go.ResultVar.tmp 3], rs := [Ty.int IntKind.i64], ps := [PK.v (Ty.int IntKind.u16), PK.rd (Ty.slc false (Ty.int IntKind.u16))], cuts := [], nt := 7 }
theorem Easet_ok : EnvOk Easet := envOk tt_ok ⟨cidxU_valid, trivial⟩
theorem Faset_ok : FnOk Easet Try.f23 := ⟨rfl, rfl⟩
theorem Easet_t (x0 : Int) (x1 : List Int) : exec Easet 1000 [.code (bodyOf Try.prog 23)] (initSt caset.ps ((x0, x1, ()))) =
  .need (True) (.ret ((idxI x1 x0, ()))) := by kernel_rfl
theorem caset_valid : caset.Valid Try.prog 23 := by
  refine Ctr.valid_of Easet_ok rfl rfl Try.func23 (c := bodyOf Try.prog 23) rfl rfl Faset_ok rfl ?_
  rintro ⟨(x : Int), (l : List Int), ⟨⟩⟩ - -
  refine exec_sound (n := 1000) Easet_ok Faset_ok ?_
  refine holds_of_eq (Easet_t x l) ?_
  exact ⟨trivial, fun _ => rfl⟩
theorem dist_U {a b c : Int} : andU a (orU b c) = orU (andU a b) (andU a c) := by
  refine bits_eq (andU_in _ _) (orU_in _ _) (fun i => ?_)
  rw [has_and, has_or, has_or, has_and, has_and, Bool.and_or_distrib_left]
theorem absorb_U {a b : Int} (h : inU a) : orU a (andU a b) = a := by
  refine bits_eq (orU_in _ _) h (fun i => ?_)
  rw [has_or, has_and]
  cases hasB a i <;> simp
theorem bothR_ok {l : List Int} {a b : Int} (h : lcheck l = 0) (ha : 0 ≤ a ∧ a < (l.length : Int)) (hb : 0 ≤ b ∧ b < (l.length : Int)) : bothR l a b = (orU (l.getD a.toNat 0) (l.getD b.toNat 0), andU (l.getD a.toNat 0) (l.getD b.toNat 0), 0, ()) := by
  rw [bothR, if_neg (fun c => c h), if_neg (by omega)]
def cLatLaws : Ctr := { ps := [.v (.slc false U16), .v I64, .v I64, .v I64], rs := [.bool], pre := fun _ => True, fn := fun _ => (true, ()), out := fun _ => () }
noncomputable def ELatLaws : Env := { P := Try.prog, tt := tt, ctr := [(22, clcheck), (21, cboth), (20, crest), (23, caset), (24, cidxU)], res := [Go.ResultVar.tmp 8], rs := [Ty.bool], ps := [PK.v (Ty.slc false (Ty.int IntKind.u16)), PK.v (Ty.int IntKind.i64), PK.v (Ty.int IntKind.i64), PK.v (Ty.int IntKind.i64)], cuts := [], nt := 157 }
theorem ELatLaws_ok : EnvOk ELatLaws := envOk tt_ok ⟨clcheck_valid, cboth_valid, crest_valid, caset_valid, cidxU_valid, trivial⟩
theorem FLatLaws_ok : FnOk ELatLaws Try.f4 := ⟨rfl, rfl⟩
theorem ELatLaws_t (x0 : List Int) (x1 : Int) (x2 : Int) (x3 : Int) : exec ELatLaws 1000 [.code (bodyOf Try.prog 4)] (initSt cLatLaws.ps ((x0, x1, x2, x3, ()))) =
  .need (True) (.need (True) (cond (decide (lcheck x0 ≠ (0 : Int))) (.ret ((true, ()))) (.need ((↑(List.length x0) : Int) ≤ (1000000 : Int)) (.need ((↑(List.length x0) : Int) ≤ (1000000 : Int)) (.need ((↑(List.length x0) : Int) ≤ (1000000 : Int)) (.need (True) (.need (True) (.need (True) (cond (decide (Prod.fst (Prod.snd (Prod.snd (bothR x0 (rest x2 (↑(List.length x0) : Int)) (rest x3 (↑(List.length x0) : Int))))) ≠ (0 : Int))) (.ret ((false, ()))) (cond (decide (Prod.fst (Prod.snd (Prod.snd (bothR x0 (rest x1 (↑(List.length x0) : Int)) (rest x3 (↑(List.length x0) : Int))))) ≠ (0 : Int))) (.ret ((false, ()))) (.need (True) (cond (decide (idxI x0 (Prod.fst (bothR x0 (rest x2 (↑(List.length x0) : Int)) (rest x3 (↑(List.length x0) : Int)))) < (0 : Int))) (.ret ((false, ()))) (.need (True) (cond (decide (idxI x0 (Prod.fst (Prod.snd (bothR x0 (rest x1 (↑(List.length x0) : Int)) (rest x2 (↑(List.length x0) : Int))))) < (0 : Int))) (.ret ((false, ()))) (.need (True) (cond (decide (idxI x0 (Prod.fst (Prod.snd (bothR x0 (rest x1 (↑(List.length x0) : Int)) (rest x3 (↑(List.length x0) : Int))))) < (0 : Int))) (.ret ((false, ()))) (.need (True) (.need (True) (.need (True) (.need (True) (.need (True) (.need (True) (.need (True) (cond (decide (Prod.fst (Prod.snd (bothR x0 (rest x1 (↑(List.length x0) : Int)) (idxI x0 (Prod.fst (bothR x0 (rest x2 (↑(List.length x0) : Int)) (rest x3 (↑(List.length x0) : Int))))))) = Prod.fst (bothR x0 (idxI x0 (Prod.fst (Prod.snd (bothR x0 (rest x1 (↑(List.length x0) : Int)) (rest x2 (↑(List.length x0) : Int)))))) (idxI x0 (Prod.fst (Prod.snd (bothR x0 (rest x1 (↑(List.length x0) : Int)) (rest x3 (↑(List.length x0) : Int))))))))) (.need ((0 : Int) ≤ rest x1 (↑(List.length x0) : Int) ∧ rest x1 (↑(List.length x0) : Int) < (↑(List.length x0) : Int)) (.ret ((decide (Prod.fst (bothR x0 (rest x1 (↑(List.length x0) : Int)) (idxI x0 (Prod.fst (Prod.snd (bothR x0 (rest x1 (↑(List.length x0) : Int)) (rest x2 (↑(List.length x0) : Int))))))) = List.getD x0 (Int.toNat (rest x1 (↑(List.length x0) : Int))) (0 : Int)), ())))) (.ret ((false, ()))))))))))))))))))))))))))) := by kernel_rfl
theorem cLatLaws_valid : cLatLaws.Valid Try.prog 4 := by
  refine Ctr.valid_of ELatLaws_ok rfl rfl Try.func4 (c := bodyOf Try.prog 4) rfl rfl FLatLaws_ok rfl ?_
  rintro ⟨(l : List Int), (a : Int), (b : Int), (c : Int), ⟨⟩⟩ - ⟨⟨-, hr⟩, -⟩
  have hr : ∀ x ∈ l, inU x := fun x hx => inK_u16.1 (hr x hx)
  refine exec_sound (n := 1000) ELatLaws_ok FLatLaws_ok ?_
  refine holds_of_eq (ELatLaws_t l a b c) ?_
  simp only [holds_cond, Tree.holds, true_and, true_implies, decide_eq_true_eq, decide_eq_false_iff_not, Bool.not_eq_true', Bool.not_eq_false', Int.toNat_natCast, inK_i64, List.length_set, List.length_cons, List.length_nil]
  refine ⟨fun _ => rfl, fun h9 => ?_⟩
  have h0 : lcheck l = 0 := by omega
  have h := lcheck_ok hr h0
  have hp := h.pos
  have hle := h.le
  have hi := rest_in (a := a) (n := (l.length : Int)) (by omega)
  have hj := rest_in (a := b) (n := (l.length : Int)) (by omega)
  have hk := rest_in (a := c) (n := (l.length : Int)) (by omega)
  generalize rest a (l.length : Int) = i at *
  generalize rest b (l.length : Int) = j at *
  generalize rest c (l.length : Int) = k at *
  have mi := getD_mem (l := l) (d := 0) (show i.toNat < l.length by omega)
  have mj := getD_mem (l := l) (d := 0) (show j.toNat < l.length by omega)
  have mk := getD_mem (l := l) (d := 0) (show k.toNat < l.length by omega)
  obtain ⟨o1, o2, o3⟩ := idx_spec (h.or _ mj _ mk)
  obtain ⟨p1, p2, p3⟩ := idx_spec (h.and _ mi _ mj)
  obtain ⟨q1, q2, q3⟩ := idx_spec (h.and _ mi _ mk)
  simp only [bothR_ok h0 hj hk, bothR_ok h0 hi hj, bothR_ok h0 hi hk, bothR_ok h0 hi ⟨o1, o2⟩, bothR_ok h0 ⟨p1, p2⟩ ⟨q1, q2⟩, bothR_ok h0 hi ⟨p1, p2⟩, o3, p3, q3, dist_U, absorb_U (hr _ mi)]
  refine ⟨by omega, fun _ => ⟨by omega, fun _ => ⟨by omega, fun _ => ⟨fun e => absurd rfl e, fun _ => ⟨fun e => absurd rfl e, fun _ => ⟨fun e => by omega, fun _ => ⟨fun e => by omega, fun _ => ⟨fun e => by omega, fun _ => ⟨fun _ => ⟨hi, fun _ => ?_⟩, fun e => absurd trivial e⟩⟩⟩⟩⟩⟩⟩⟩⟩
  show ((decide True, ()) : Bool × Unit) = (true, ())
  rfl
def cLatFirm : Ctr := { ps := [.v (.slc false U16)], rs := [.bool], pre := fun _ => True, fn := fun _ => (true, ()), out := fun _ => () }
noncomputable def ELatFirm : Env := { P := Try.prog, tt := tt, ctr := [(22, clcheck), (25, cfirm), (26, ceqU)], res := [Go.ResultVar.tmp 2], rs := [Ty.bool], ps := [PK.v (Ty.slc false (Ty.int IntKind.u16))], cuts := [(8, [(5, some (Ty.slc true (Ty.int IntKind.u16))), (41, none), (42, none), (43, none)]), (12, [(5, some (Ty.slc true (Ty.int IntKind.u16))), (8, none), (9, none), (41, none), (42, none), (43, none), (47, some (Ty.slc true (Ty.int IntKind.u16))), (48, none), (49, none)])], nt := 65 }
theorem ELatFirm_ok : EnvOk ELatFirm := envOk tt_ok ⟨clcheck_valid, cfirm_valid, ceqU_valid, trivial⟩
theorem FLatFirm_ok : FnOk ELatFirm Try.f5 := ⟨rfl, rfl⟩
theorem ELatFirm_t (x0 : List Int) : exec ELatFirm 1000 [.code (bodyOf Try.prog 5)] (initSt cLatFirm.ps ((x0, ()))) =
  .need (True) (.need (True) (.need (True) (cond (decide (Prod.fst (Prod.snd (firmR x0)) ≠ (0 : Int))) (cond (decide ((↑(List.length (Prod.fst (firmR x0))) : Int) = (0 : Int))) (.need (True) (.ret ((decide (lcheck x0 = Prod.fst (Prod.snd (firmR x0))), ())))) (.ret ((false, ())))) (.cut (loopAt (bodyOf Try.prog 5) 8).1 (loopAt (bodyOf Try.prog 5) 8).2 (St.mk [(5, AV.at_ 1000005 []), (41, AV.val (Ty.slc false (Ty.int IntKind.u16)) x0), (42, AV.val (Ty.int IntKind.i64) (↑(List.length x0) : Int)), (43, AV.val (Ty.int IntKind.i64) (0 : Int))] [(1000005, Ent.own (Ty.slc true (Ty.int IntKind.u16)) (Prod.fst (firmR x0)))]))))) := by kernel_rfl
def ELatFirm_s8 (v41 : List Int) (v42 : Int) (v43 : Int) (o1000005 : List Int) : St := St.mk [(5, AV.at_ 1000005 []), (41, AV.val (Ty.slc false (Ty.int IntKind.u16)) v41), (42, AV.val (Ty.int IntKind.i64) v42), (43, AV.val (Ty.int IntKind.i64) v43)] [(1000005, Ent.own (Ty.slc true (Ty.int IntKind.u16)) o1000005)]
theorem ELatFirm_l8 (v41 : List Int) (v42 : Int) (v43 : Int) (o1000005 : List Int) : exec ELatFirm 1000 (.code (loopAt (bodyOf Try.prog 5) 8).1 :: .inLoop (loopAt (bodyOf Try.prog 5) 8).1 :: (loopAt (bodyOf Try.prog 5) 8).2) (ELatFirm_s8 v41 v42 v43 o1000005) =
  cond (decide (v43 < v42)) (.need ((0 : Int) ≤ v43 ∧ v43 < (↑(List.length v41) : Int)) (.cut (loopAt (bodyOf Try.prog 5) 12).1 (loopAt (bodyOf Try.prog 5) 12).2 (St.mk [(5, AV.at_ 1000047 []), (8, AV.val (Ty.int IntKind.u16) (List.getD v41 (Int.toNat v43) (0 : Int))), (9, AV.val (Ty.int IntKind.u16) (0 : Int)), (41, AV.val (Ty.slc false (Ty.int IntKind.u16)) v41), (42, AV.val (Ty.int IntKind.i64) v42), (43, AV.val (Ty.int IntKind.i64) v43), (47, AV.at_ 1000047 []), (48, AV.val (Ty.int IntKind.i64) (↑(List.length o1000005) : Int)), (49, AV.val (Ty.int IntKind.i64) (0 : Int))] [(1000047, Ent.own (Ty.slc true (Ty.int IntKind.u16)) o1000005)]))) (.ret ((true, ()))) := by kernel_rfl
def ELatFirm_s12 (v8 : Int) (v9 : Int) (v41 : List Int) (v42 : Int) (v43 : Int) (v48 : Int) (v49 : Int) (o1000047 : List Int) : St := St.mk [(5, AV.at_ 1000047 []), (8, AV.val (Ty.int IntKind.u16) v8), (9, AV.val (Ty.int IntKind.u16) v9), (41, AV.val (Ty.slc false (Ty.int IntKind.u16)) v41), (42, AV.val (Ty.int IntKind.i64) v42), (43, AV.val (Ty.int IntKind.i64) v43), (47, AV.at_ 1000047 []), (48, AV.val (Ty.int IntKind.i64) v48), (49, AV.val (Ty.int IntKind.i64) v49)] [(1000047, Ent.own (Ty.slc true (Ty.int IntKind.u16)) o1000047)]
theorem ELatFirm_l12 (v8 : Int) (v9 : Int) (v41 : List Int) (v42 : Int) (v43 : Int) (v48 : Int) (v49 : Int) (o1000047 : List Int) : exec ELatFirm 1000 (.code (loopAt (bodyOf Try.prog 5) 12).1 :: .inLoop (loopAt (bodyOf Try.prog 5) 12).1 :: (loopAt (bodyOf Try.prog 5) 12).2) (ELatFirm_s12 v8 v9 v41 v42 v43 v48 v49 o1000047) =
  cond (decide (v49 < v48)) (.need ((0 : Int) ≤ v49 ∧ v49 < (↑(List.length o1000047) : Int)) (cond (decide (bAndNot IntKind.u16 (List.getD o1000047 (Int.toNat v49) (0 : Int)) v8 = (0 : Int))) (.need (inK IntKind.i64 (v49 + (1 : Int))) (.cut (loopAt (bodyOf Try.prog 5) 12).1 (loopAt (bodyOf Try.prog 5) 12).2 (St.mk [(5, AV.at_ 1000047 []), (8, AV.val (Ty.int IntKind.u16) v8), (9, AV.val (Ty.int IntKind.u16) (bOr IntKind.u16 v9 (List.getD o1000047 (Int.toNat v49) (0 : Int)))), (41, AV.val (Ty.slc false (Ty.int IntKind.u16)) v41), (42, AV.val (Ty.int IntKind.i64) v42), (43, AV.val (Ty.int IntKind.i64) v43), (47, AV.at_ 1000047 []), (48, AV.val (Ty.int IntKind.i64) v48), (49, AV.val (Ty.int IntKind.i64) (v49 + (1 : Int)))] [(1000047, Ent.own (Ty.slc true (Ty.int IntKind.u16)) o1000047)]))) (.need (inK IntKind.i64 (v49 + (1 : Int))) (.cut (loopAt (bodyOf Try.prog 5) 12).1 (loopAt (bodyOf Try.prog 5) 12).2 (St.mk [(5, AV.at_ 1000047 []), (8, AV.val (Ty.int IntKind.u16) v8), (9, AV.val (Ty.int IntKind.u16) v9), (41, AV.val (Ty.slc false (Ty.int IntKind.u16)) v41), (42, AV.val (Ty.int IntKind.i64) v42), (43, AV.val (Ty.int IntKind.i64) v43), (47, AV.at_ 1000047 []), (48, AV.val (Ty.int IntKind.i64) v48), (49, AV.val (Ty.int IntKind.i64) (v49 + (1 : Int)))] [(1000047, Ent.own (Ty.slc true (Ty.int IntKind.u16)) o1000047)]))))) (cond (decide (v9 ≠ v8)) (.ret ((false, ()))) (.need (inK IntKind.i64 (v43 + (1 : Int))) (.cut (loopAt (bodyOf Try.prog 5) 8).1 (loopAt (bodyOf Try.prog 5) 8).2 (St.mk [(5, AV.at_ 1000005 []), (41, AV.val (Ty.slc false (Ty.int IntKind.u16)) v41), (42, AV.val (Ty.int IntKind.i64) v42), (43, AV.val (Ty.int IntKind.i64) (v43 + (1 : Int)))] [(1000005, Ent.own (Ty.slc true (Ty.int IntKind.u16)) o1000047)])))) := by kernel_rfl
theorem cLatFirm_valid : cLatFirm.Valid Try.prog 5 := by
  refine Ctr.valid_of ELatFirm_ok rfl rfl Try.func5 (c := bodyOf Try.prog 5) rfl rfl FLatFirm_ok rfl ?_
  rintro ⟨(l : List Int), ⟨⟩⟩ - ⟨⟨-, hr⟩, -⟩
  have hr : ∀ x ∈ l, inU x := fun x hx => inK_u16.1 (hr x hx)
  refine exec_sound (n := 1000) ELatFirm_ok FLatFirm_ok ?_
  refine holds_of_eq (ELatFirm_t l) ?_
  simp only [holds_cond, Tree.holds, true_and, true_implies, decide_eq_true_eq, decide_eq_false_iff_not, Bool.not_eq_true', Bool.not_eq_false', Int.toNat_natCast, inK_i64, List.length_set, List.length_cons, List.length_nil]
  by_cases h0 : lcheck l = 0
  · have hl := lcheck_len h0
    have e : firmR l = (firmL l, 0, ()) := by rw [firmR, if_neg (fun c => c h0)]
    rw [e]
    refine ⟨fun h => absurd rfl h, fun _ => ?_⟩
    have hf : (firmL l).length ≤ 300 := Nat.le_trans (List.length_filter_le _ _) hl
    refine Reach.loopI ELatFirm_ok FLatFirm_ok (fun i : Nat => ELatFirm_s8 l (l.length : Int) (i : Int) (firmL l)) (fun i => i ≤ l.length)
      (fun i => l.length - i) 1000 (fun _ => ⟨uniq_of rfl, uniq_of rfl⟩) ?_ 0 (Nat.zero_le _)
    rintro i k1 - ih
    have k1 : i ≤ l.length := k1
    refine holds_of_eq (ELatFirm_l8 ..) ?_
    simp only [holds_cond, Tree.holds, true_and, true_implies, decide_eq_true_eq, decide_eq_false_iff_not, Bool.not_eq_true', Bool.not_eq_false', Int.toNat_natCast, inK_i64, List.length_set, List.length_cons, List.length_nil]
    refine ⟨fun c1 => ⟨by omega, fun _ => ?_⟩, fun _ => rfl⟩
    have hi : i < l.length := by omega
    refine Reach.loopI ELatFirm_ok FLatFirm_ok (fun j : Nat => ELatFirm_s12 (l.getD i 0) (unionL (fun t => withinU t (l.getD i 0)) ((firmL l).take j)) l (l.length : Int) (i : Int) ((firmL l).length : Int) (j : Int) (firmL l)) (fun j => j ≤ (firmL l).length)
      (fun j => (firmL l).length - j) 1000 (fun _ => ⟨uniq_of rfl, uniq_of rfl⟩) ?_ 0 (Nat.zero_le _)
    rintro j k2 - ih2
    have k2 : j ≤ (firmL l).length := k2
    refine holds_of_eq (ELatFirm_l12 ..) ?_
    simp only [holds_cond, Tree.holds, true_and, true_implies, decide_eq_true_eq, decide_eq_false_iff_not, Bool.not_eq_true', Bool.not_eq_false', Int.toNat_natCast, inK_i64, List.length_set, List.length_cons, List.length_nil]
    refine ⟨fun d1 => ⟨by omega, fun _ => ?_⟩, fun d1 => ?_⟩
    · have tk := take_getD (show j < (firmL l).length by omega) 0
      have := ih2 (j + 1) (by show j + 1 ≤ (firmL l).length; omega) (by omega)
      rw [tk, union_snoc] at this
      refine ⟨fun d2 => ⟨by omega, fun _ => ?_⟩, fun d2 => ⟨by omega, fun _ => ?_⟩⟩
      · rw [if_pos (show withinU ((firmL l).getD j 0) (l.getD i 0) = true from decide_eq_true d2)] at this; exact this
      · rw [if_neg (fun h : withinU ((firmL l).getD j 0) (l.getD i 0) = true => d2 (of_decide_eq_true h))] at this; exact this
    · rw [List.take_of_length_le (by omega), firm_all hr ((l.getD i 0).toNat + 1) _ (getD_mem hi) (by omega)]
      exact ⟨fun h => absurd rfl h, fun _ => ⟨by omega, fun _ => ih (i + 1) (by show i + 1 ≤ l.length; omega) (by omega)⟩⟩
  · have e : firmR l = ([], lcheck l, ()) := by rw [firmR, if_pos h0]
    rw [e]
    refine ⟨fun _ => ⟨fun _ => ?_, fun h => absurd rfl h⟩, fun h => absurd h0 h⟩
    show ((decide (lcheck l = lcheck l), ()) : Bool × Unit) = (true, ())
    rw [decide_eq_true rfl]
def cLatStill : Ctr := { ps := [.v (.slc false U16), .v (.slc false I64)], rs := [.bool], pre := fun _ => True, fn := fun _ => (true, ()), out := fun _ => () }
noncomputable def ELatStill : Env := { P := Try.prog, tt := tt, ctr := [(31, cstill), (32, crises)], res := [Go.ResultVar.tmp 4], rs := [Ty.bool], ps := [PK.v (Ty.slc false (Ty.int IntKind.u16)), PK.v (Ty.slc false (Ty.int IntKind.i64))], cuts := [(10, [(0, none), (8, none), (9, none), (66, none), (67, none), (68, none)])], nt := 101 }
theorem ELatStill_ok : EnvOk ELatStill := envOk tt_ok ⟨cstill_valid, crises_valid, trivial⟩
theorem FLatStill_ok : FnOk ELatStill Try.f9 := ⟨rfl, rfl⟩
theorem ELatStill_t (x0 : List Int) (x1 : List Int) : exec ELatStill 1000 [.code (bodyOf Try.prog 9)] (initSt cLatStill.ps ((x0, x1, ()))) =
  .need (True) (.need (True) (cond (decide (Prod.fst (Prod.snd (Prod.snd (stillR x0 x1))) ≠ (0 : Int))) (cond (decide (Prod.fst (stillR x0 x1) = (0 : Int))) (cond (decide (Prod.fst (Prod.snd (stillR x0 x1)) = (0 : Int))) (.need (True) (.ret ((decide (rises x0 x1 = Prod.fst (Prod.snd (Prod.snd (stillR x0 x1)))), ())))) (.ret ((false, ())))) (.ret ((false, ())))) (.need ((0 : Int) ≤ Prod.fst (stillR x0 x1) ∧ Prod.fst (stillR x0 x1) < (↑(List.length x1) : Int)) (cond (decide (List.getD x1 (Int.toNat (Prod.fst (stillR x0 x1))) (0 : Int) ≠ Prod.fst (stillR x0 x1))) (.ret ((false, ()))) (.need ((0 : Int) ≤ Prod.fst (Prod.snd (stillR x0 x1)) ∧ Prod.fst (Prod.snd (stillR x0 x1)) < (↑(List.length x1) : Int)) (cond (decide (List.getD x1 (Int.toNat (Prod.fst (Prod.snd (stillR x0 x1)))) (0 : Int) ≠ Prod.fst (Prod.snd (stillR x0 x1)))) (.ret ((false, ()))) (.cut (loopAt (bodyOf Try.prog 9) 10).1 (loopAt (bodyOf Try.prog 9) 10).2 (St.mk [(0, AV.val (Ty.slc false (Ty.int IntKind.u16)) x0), (8, AV.val (Ty.int IntKind.i64) (Prod.fst (stillR x0 x1))), (9, AV.val (Ty.int IntKind.i64) (Prod.fst (Prod.snd (stillR x0 x1)))), (66, AV.val (Ty.slc false (Ty.int IntKind.i64)) x1), (67, AV.val (Ty.int IntKind.i64) (↑(List.length x1) : Int)), (68, AV.val (Ty.int IntKind.i64) (0 : Int))] [])))))))) := by kernel_rfl
def ELatStill_s10 (v0 : List Int) (v8 : Int) (v9 : Int) (v66 : List Int) (v67 : Int) (v68 : Int) : St := St.mk [(0, AV.val (Ty.slc false (Ty.int IntKind.u16)) v0), (8, AV.val (Ty.int IntKind.i64) v8), (9, AV.val (Ty.int IntKind.i64) v9), (66, AV.val (Ty.slc false (Ty.int IntKind.i64)) v66), (67, AV.val (Ty.int IntKind.i64) v67), (68, AV.val (Ty.int IntKind.i64) v68)] []
theorem ELatStill_l10 (v0 : List Int) (v8 : Int) (v9 : Int) (v66 : List Int) (v67 : Int) (v68 : Int) : exec ELatStill 1000 (.code (loopAt (bodyOf Try.prog 9) 10).1 :: .inLoop (loopAt (bodyOf Try.prog 9) 10).1 :: (loopAt (bodyOf Try.prog 9) 10).2) (ELatStill_s10 v0 v8 v9 v66 v67 v68) =
  cond (decide (v68 < v67)) (.need ((0 : Int) ≤ v68 ∧ v68 < (↑(List.length v66) : Int)) (cond (decide (v68 = List.getD v66 (Int.toNat v68) (0 : Int))) (.need ((0 : Int) ≤ v8 ∧ v8 < (↑(List.length v0) : Int)) (.need ((0 : Int) ≤ v68 ∧ v68 < (↑(List.length v0) : Int)) (cond (decide (bAndNot IntKind.u16 (List.getD v0 (Int.toNat v8) (0 : Int)) (List.getD v0 (Int.toNat v68) (0 : Int)) ≠ (0 : Int))) (.ret ((false, ()))) (.need ((0 : Int) ≤ v68 ∧ v68 < (↑(List.length v0) : Int)) (.need ((0 : Int) ≤ v9 ∧ v9 < (↑(List.length v0) : Int)) (cond (decide (bAndNot IntKind.u16 (List.getD v0 (Int.toNat v68) (0 : Int)) (List.getD v0 (Int.toNat v9) (0 : Int)) ≠ (0 : Int))) (.ret ((false, ()))) (.need (inK IntKind.i64 (v68 + (1 : Int))) (.cut (loopAt (bodyOf Try.prog 9) 10).1 (loopAt (bodyOf Try.prog 9) 10).2 (St.mk [(0, AV.val (Ty.slc false (Ty.int IntKind.u16)) v0), (8, AV.val (Ty.int IntKind.i64) v8), (9, AV.val (Ty.int IntKind.i64) v9), (66, AV.val (Ty.slc false (Ty.int IntKind.i64)) v66), (67, AV.val (Ty.int IntKind.i64) v67), (68, AV.val (Ty.int IntKind.i64) (v68 + (1 : Int)))] []))))))))) (.need (inK IntKind.i64 (v68 + (1 : Int))) (.cut (loopAt (bodyOf Try.prog 9) 10).1 (loopAt (bodyOf Try.prog 9) 10).2 (St.mk [(0, AV.val (Ty.slc false (Ty.int IntKind.u16)) v0), (8, AV.val (Ty.int IntKind.i64) v8), (9, AV.val (Ty.int IntKind.i64) v9), (66, AV.val (Ty.slc false (Ty.int IntKind.i64)) v66), (67, AV.val (Ty.int IntKind.i64) v67), (68, AV.val (Ty.int IntKind.i64) (v68 + (1 : Int)))] []))))) (.ret ((true, ()))) := by kernel_rfl
theorem cLatStill_valid : cLatStill.Valid Try.prog 9 := by
  refine Ctr.valid_of ELatStill_ok rfl rfl Try.func9 (c := bodyOf Try.prog 9) rfl rfl FLatStill_ok rfl ?_
  rintro ⟨(l : List Int), (f : List Int), ⟨⟩⟩ - ⟨⟨-, hr⟩, -⟩
  have hr : ∀ x ∈ l, inU x := fun x hx => inK_u16.1 (hr x hx)
  refine exec_sound (n := 1000) ELatStill_ok FLatStill_ok ?_
  refine holds_of_eq (ELatStill_t l f) ?_
  simp only [holds_cond, Tree.holds, true_and, true_implies, decide_eq_true_eq, decide_eq_false_iff_not, Bool.not_eq_true', Bool.not_eq_false', Int.toNat_natCast, inK_i64, List.length_set, List.length_cons, List.length_nil]
  by_cases h0 : rises l f = 0
  · have h := rises_ok hr h0
    obtain ⟨a1, a2, a3⟩ := still_low h
    obtain ⟨b1, b2, b3⟩ := still_high h
    have hlen := h.len
    have hle := h.lat.le
    have e : stillR l f = (stillN f f.length 0, stillN f f.length ((l.length : Int) - 1), 0, ()) := by rw [stillR, if_neg (fun c => c h0)]
    rw [e]
    generalize stillN f f.length 0 = A at *
    generalize stillN f f.length ((l.length : Int) - 1) = Z at *
    refine ⟨fun h => absurd rfl h, fun _ => ⟨by rw [hlen]; exact a2, fun _ => ⟨fun h => absurd a1 h, fun _ => ⟨by rw [hlen]; exact b2, fun _ => ⟨fun h => absurd b1 h, fun _ => ?_⟩⟩⟩⟩⟩
    refine Reach.loopI ELatStill_ok FLatStill_ok (fun i : Nat => ELatStill_s10 l A Z f (f.length : Int) (i : Int)) (fun i => i ≤ f.length)
      (fun i => f.length - i) 1000 (fun _ => ⟨uniq_of rfl, uniq_of rfl⟩) ?_ 0 (Nat.zero_le _)
    rintro i k1 - ih
    have k1 : i ≤ f.length := k1
    refine holds_of_eq (ELatStill_l10 ..) ?_
    simp only [holds_cond, Tree.holds, true_and, true_implies, decide_eq_true_eq, decide_eq_false_iff_not, Bool.not_eq_true', Bool.not_eq_false', Int.toNat_natCast, inK_i64, List.length_set, List.length_cons, List.length_nil]
    have nx := fun h => ih (i + 1) (show i + 1 ≤ f.length from h) (by omega)
    refine ⟨fun c1 => ⟨by omega, fun _ => ⟨fun c2 => ⟨a2, fun _ => ⟨by omega, fun _ => ⟨fun c3 => ?_, fun _ => ⟨by omega, fun _ => ⟨b2, fun _ => ⟨fun c3 => ?_, fun _ => ⟨by omega, fun _ => nx (by omega)⟩⟩⟩⟩⟩⟩⟩, fun _ => ⟨by omega, fun _ => nx (by omega)⟩⟩⟩, fun _ => rfl⟩
    · have := a3 i (by omega) c2.symm
      exact absurd (of_decide_eq_true this) c3
    · have := b3 i (by omega) c2.symm
      exact absurd (of_decide_eq_true this) c3
  · have e : stillR l f = (0, 0, rises l f, ()) := by rw [stillR, if_pos h0]
    rw [e]
    refine ⟨fun _ => ⟨fun _ => ⟨fun _ => ?_, fun h => absurd rfl h⟩, fun h => absurd rfl h⟩, fun h => absurd h0 h⟩
    show ((decide (rises l f = rises l f), ()) : Bool × Unit) = (true, ())
    rw [decide_eq_true rfl]
end Go.Proofs.Ytcafiieffenohaa
