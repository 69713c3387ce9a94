/- Runs at the doors, and who is in. -/
import Derived.Test.YtbcdpeogfghgcaaEnterQ
namespace Go.Proofs.Ytbcdpeogfghgcaa
open Go.Ex
set_option maxRecDepth 100000
variable {n p : Nat} {t : EnterD}
def cedoors : Ctr := { ps := [.v I64, .v (.slc false PairT)], rs := [EnterO, .bool], pre := fun x => LE.le (α := Int) 1 x.1 ∧ LE.le (α := Int) x.1 6, fn := fun x => (edoors x.1 x.2.1, true, ()), out := fun _ => () }
noncomputable def Eedoors : Env := { P := Try.prog, tt := tt, ctr := [(24, crest), (43, cenew), (44, cewish), (45, cetake), (47, celeave)], res := [Go.ResultVar.cell 4 85, Go.ResultVar.tmp 5], rs := [Ty.pair (Ty.slc true (Ty.pair (Ty.int IntKind.i64) (Ty.pair (Ty.int IntKind.i64) (Ty.pair (Ty.int IntKind.u8) (Ty.pair Ty.bool (Ty.pair Is Ty.unit)))))) (Ty.pair (Ty.slc true Word) Ty.unit), Ty.bool], ps := [PK.v (Ty.int IntKind.i64), PK.v (Ty.slc false PairT)], cuts := [(5, [(0, none), (4, none), (6, none), (26, none), (27, none), (28, none)])], nt := 79 }
theorem Eedoors_ok : EnvOk Eedoors := envOk tt_ok ⟨crest_valid, cenew_valid, cewish_valid, cetake_valid, celeave_valid, trivial⟩
theorem Fedoors_ok : FnOk Eedoors Try.f40 := ⟨rfl, rfl⟩
theorem Eedoors_t (x0 : Int) (x1 : List (Int × Int × Unit)) : exec Eedoors 1000 [.code (bodyOf Try.prog 40)] (initSt cedoors.ps ((x0, x1, ()))) =
  .need (True) (cond (decide (Prod.fst (Prod.snd (enew x0)) ≠ (0 : Int))) (.ret ((Prod.fst (enew x0), false, ()))) (cond (decide ((↑(List.length (Prod.fst (Prod.fst (enew x0)))) : Int) ≠ x0)) (.ret ((Prod.fst (enew x0), false, ()))) (.cut (loopAt (bodyOf Try.prog 40) 5).1 (loopAt (bodyOf Try.prog 40) 5).2 (St.mk [(0, AV.val (Ty.int IntKind.i64) x0), (4, AV.ptr 4 []), (6, AV.ptr 6 []), (26, AV.val (Ty.slc false PairT) x1), (27, AV.val (Ty.int IntKind.i64) (↑(List.length x1) : Int)), (28, AV.val (Ty.int IntKind.i64) (0 : Int))] [(4, Ent.var (Ty.pair (Ty.slc true (Ty.pair (Ty.int IntKind.i64) (Ty.pair (Ty.int IntKind.i64) (Ty.pair (Ty.int IntKind.u8) (Ty.pair Ty.bool (Ty.pair Is Ty.unit)))))) (Ty.pair (Ty.slc true Word) Ty.unit)) ([], [], ())), (6, Ent.var (Ty.pair (Ty.slc true (Ty.pair (Ty.int IntKind.i64) (Ty.pair (Ty.int IntKind.i64) (Ty.pair (Ty.int IntKind.u8) (Ty.pair Ty.bool (Ty.pair Is Ty.unit)))))) (Ty.pair (Ty.slc true Word) Ty.unit)) (Prod.fst (enew x0)))])))) := by kernel_rfl
def Eedoors_s5 (v0 : Int) (v26 : List (Int × Int × Unit)) (v27 : Int) (v28 : Int) (o4_1 : List (Int × Int × Int × Bool × List Int × Unit)) (o4_2_1 : List (Int × Int × Int × Unit)) (o6_1 : List (Int × Int × Int × Bool × List Int × Unit)) (o6_2_1 : List (Int × Int × Int × Unit)) : St := St.mk [(0, AV.val (Ty.int IntKind.i64) v0), (4, AV.ptr 4 []), (6, AV.ptr 6 []), (26, AV.val (Ty.slc false PairT) v26), (27, AV.val (Ty.int IntKind.i64) v27), (28, AV.val (Ty.int IntKind.i64) v28)] [(4, Ent.var (Ty.pair (Ty.slc true (Ty.pair (Ty.int IntKind.i64) (Ty.pair (Ty.int IntKind.i64) (Ty.pair (Ty.int IntKind.u8) (Ty.pair Ty.bool (Ty.pair Is Ty.unit)))))) (Ty.pair (Ty.slc true Word) Ty.unit)) (o4_1, o4_2_1, ())), (6, Ent.var (Ty.pair (Ty.slc true (Ty.pair (Ty.int IntKind.i64) (Ty.pair (Ty.int IntKind.i64) (Ty.pair (Ty.int IntKind.u8) (Ty.pair Ty.bool (Ty.pair Is Ty.unit)))))) (Ty.pair (Ty.slc true Word) Ty.unit)) (o6_1, o6_2_1, ()))]
theorem Eedoors_l5 (v0 : Int) (v26 : List (Int × Int × Unit)) (v27 : Int) (v28 : Int) (o4_1 : List (Int × Int × Int × Bool × List Int × Unit)) (o4_2_1 : List (Int × Int × Int × Unit)) (o6_1 : List (Int × Int × Int × Bool × List Int × Unit)) (o6_2_1 : List (Int × Int × Int × Unit)) : exec Eedoors 1000 (.code (loopAt (bodyOf Try.prog 40) 5).1 :: .inLoop (loopAt (bodyOf Try.prog 40) 5).1 :: (loopAt (bodyOf Try.prog 40) 5).2) (Eedoors_s5 v0 v26 v27 v28 o4_1 o4_2_1 o6_1 o6_2_1) =
  cond (decide (v28 < v27)) (.need ((0 : Int) ≤ v28 ∧ v28 < (↑(List.length v26) : Int)) (cond (decide (Prod.fst (List.getD v26 (Int.toNat v28) ((0 : Int), (0 : Int), ())) = (0 : Int))) (.need (v0 ≤ (1000000 : Int)) (.need (True) (cond (decide (Prod.fst (Prod.snd (ewish (o6_1, o6_2_1, ()) (rest (Prod.fst (Prod.snd (List.getD v26 (Int.toNat v28) ((0 : Int), (0 : Int), ())))) v0))) = (0 : Int))) (cond (decide ((↑(List.length (Prod.fst (Prod.fst (ewish (o6_1, o6_2_1, ()) (rest (Prod.fst (Prod.snd (List.getD v26 (Int.toNat v28) ((0 : Int), (0 : Int), ())))) v0))))) : Int) ≠ v0)) (.ret ((Prod.fst (ewish (o6_1, o6_2_1, ()) (rest (Prod.fst (Prod.snd (List.getD v26 (Int.toNat v28) ((0 : Int), (0 : Int), ())))) v0)), false, ()))) (.need (inK IntKind.i64 (v28 + (1 : Int))) (.cut (loopAt (bodyOf Try.prog 40) 5).1 (loopAt (bodyOf Try.prog 40) 5).2 (St.mk [(0, AV.val (Ty.int IntKind.i64) v0), (4, AV.ptr 4 []), (6, AV.ptr 6 []), (26, AV.val (Ty.slc false PairT) v26), (27, AV.val (Ty.int IntKind.i64) v27), (28, AV.val (Ty.int IntKind.i64) (v28 + (1 : Int)))] [(4, Ent.var (Ty.pair (Ty.slc true (Ty.pair (Ty.int IntKind.i64) (Ty.pair (Ty.int IntKind.i64) (Ty.pair (Ty.int IntKind.u8) (Ty.pair Ty.bool (Ty.pair Is Ty.unit)))))) (Ty.pair (Ty.slc true Word) Ty.unit)) (o4_1, o4_2_1, ())), (6, Ent.var (Ty.pair (Ty.slc true (Ty.pair (Ty.int IntKind.i64) (Ty.pair (Ty.int IntKind.i64) (Ty.pair (Ty.int IntKind.u8) (Ty.pair Ty.bool (Ty.pair Is Ty.unit)))))) (Ty.pair (Ty.slc true Word) Ty.unit)) (Prod.fst (ewish (o6_1, o6_2_1, ()) (rest (Prod.fst (Prod.snd (List.getD v26 (Int.toNat v28) ((0 : Int), (0 : Int), ())))) v0))))])))) (cond (decide ((↑(List.length o6_1) : Int) ≠ v0)) (.ret (((o6_1, o6_2_1, ()), false, ()))) (.need (inK IntKind.i64 (v28 + (1 : Int))) (.cut (loopAt (bodyOf Try.prog 40) 5).1 (loopAt (bodyOf Try.prog 40) 5).2 (St.mk [(0, AV.val (Ty.int IntKind.i64) v0), (4, AV.ptr 4 []), (6, AV.ptr 6 []), (26, AV.val (Ty.slc false PairT) v26), (27, AV.val (Ty.int IntKind.i64) v27), (28, AV.val (Ty.int IntKind.i64) (v28 + (1 : Int)))] [(4, Ent.var (Ty.pair (Ty.slc true (Ty.pair (Ty.int IntKind.i64) (Ty.pair (Ty.int IntKind.i64) (Ty.pair (Ty.int IntKind.u8) (Ty.pair Ty.bool (Ty.pair Is Ty.unit)))))) (Ty.pair (Ty.slc true Word) Ty.unit)) (o4_1, o4_2_1, ())), (6, Ent.var (Ty.pair (Ty.slc true (Ty.pair (Ty.int IntKind.i64) (Ty.pair (Ty.int IntKind.i64) (Ty.pair (Ty.int IntKind.u8) (Ty.pair Ty.bool (Ty.pair Is Ty.unit)))))) (Ty.pair (Ty.slc true Word) Ty.unit)) (o6_1, o6_2_1, ()))]))))))) (cond (decide (Prod.fst (List.getD v26 (Int.toNat v28) ((0 : Int), (0 : Int), ())) = (3 : Int))) (.need (v0 ≤ (1000000 : Int)) (.need (True) (cond (decide (Prod.fst (Prod.snd (eleave (o6_1, o6_2_1, ()) (rest (Prod.fst (Prod.snd (List.getD v26 (Int.toNat v28) ((0 : Int), (0 : Int), ())))) v0))) = (0 : Int))) (cond (decide ((↑(List.length (Prod.fst (Prod.fst (eleave (o6_1, o6_2_1, ()) (rest (Prod.fst (Prod.snd (List.getD v26 (Int.toNat v28) ((0 : Int), (0 : Int), ())))) v0))))) : Int) ≠ v0)) (.ret ((Prod.fst (eleave (o6_1, o6_2_1, ()) (rest (Prod.fst (Prod.snd (List.getD v26 (Int.toNat v28) ((0 : Int), (0 : Int), ())))) v0)), false, ()))) (.need (inK IntKind.i64 (v28 + (1 : Int))) (.cut (loopAt (bodyOf Try.prog 40) 5).1 (loopAt (bodyOf Try.prog 40) 5).2 (St.mk [(0, AV.val (Ty.int IntKind.i64) v0), (4, AV.ptr 4 []), (6, AV.ptr 6 []), (26, AV.val (Ty.slc false PairT) v26), (27, AV.val (Ty.int IntKind.i64) v27), (28, AV.val (Ty.int IntKind.i64) (v28 + (1 : Int)))] [(4, Ent.var (Ty.pair (Ty.slc true (Ty.pair (Ty.int IntKind.i64) (Ty.pair (Ty.int IntKind.i64) (Ty.pair (Ty.int IntKind.u8) (Ty.pair Ty.bool (Ty.pair Is Ty.unit)))))) (Ty.pair (Ty.slc true Word) Ty.unit)) (o4_1, o4_2_1, ())), (6, Ent.var (Ty.pair (Ty.slc true (Ty.pair (Ty.int IntKind.i64) (Ty.pair (Ty.int IntKind.i64) (Ty.pair (Ty.int IntKind.u8) (Ty.pair Ty.bool (Ty.pair Is Ty.unit)))))) (Ty.pair (Ty.slc true Word) Ty.unit)) (Prod.fst (eleave (o6_1, o6_2_1, ()) (rest (Prod.fst (Prod.snd (List.getD v26 (Int.toNat v28) ((0 : Int), (0 : Int), ())))) v0))))])))) (cond (decide ((↑(List.length o6_1) : Int) ≠ v0)) (.ret (((o6_1, o6_2_1, ()), false, ()))) (.need (inK IntKind.i64 (v28 + (1 : Int))) (.cut (loopAt (bodyOf Try.prog 40) 5).1 (loopAt (bodyOf Try.prog 40) 5).2 (St.mk [(0, AV.val (Ty.int IntKind.i64) v0), (4, AV.ptr 4 []), (6, AV.ptr 6 []), (26, AV.val (Ty.slc false PairT) v26), (27, AV.val (Ty.int IntKind.i64) v27), (28, AV.val (Ty.int IntKind.i64) (v28 + (1 : Int)))] [(4, Ent.var (Ty.pair (Ty.slc true (Ty.pair (Ty.int IntKind.i64) (Ty.pair (Ty.int IntKind.i64) (Ty.pair (Ty.int IntKind.u8) (Ty.pair Ty.bool (Ty.pair Is Ty.unit)))))) (Ty.pair (Ty.slc true Word) Ty.unit)) (o4_1, o4_2_1, ())), (6, Ent.var (Ty.pair (Ty.slc true (Ty.pair (Ty.int IntKind.i64) (Ty.pair (Ty.int IntKind.i64) (Ty.pair (Ty.int IntKind.u8) (Ty.pair Ty.bool (Ty.pair Is Ty.unit)))))) (Ty.pair (Ty.slc true Word) Ty.unit)) (o6_1, o6_2_1, ()))]))))))) (.need ((if (1 : Int) < (↑(List.length o6_2_1) : Int) then (↑(List.length o6_2_1) : Int) else (1 : Int)) ≤ (1000000 : Int)) (.need (True) (cond (decide (Prod.fst (Prod.snd (etake (o6_1, o6_2_1, ()) (rest (Prod.fst (Prod.snd (List.getD v26 (Int.toNat v28) ((0 : Int), (0 : Int), ())))) (if (1 : Int) < (↑(List.length o6_2_1) : Int) then (↑(List.length o6_2_1) : Int) else (1 : Int))))) = (0 : Int))) (cond (decide ((↑(List.length (Prod.fst (Prod.fst (etake (o6_1, o6_2_1, ()) (rest (Prod.fst (Prod.snd (List.getD v26 (Int.toNat v28) ((0 : Int), (0 : Int), ())))) (if (1 : Int) < (↑(List.length o6_2_1) : Int) then (↑(List.length o6_2_1) : Int) else (1 : Int))))))) : Int) ≠ v0)) (.ret ((Prod.fst (etake (o6_1, o6_2_1, ()) (rest (Prod.fst (Prod.snd (List.getD v26 (Int.toNat v28) ((0 : Int), (0 : Int), ())))) (if (1 : Int) < (↑(List.length o6_2_1) : Int) then (↑(List.length o6_2_1) : Int) else (1 : Int)))), false, ()))) (.need (inK IntKind.i64 (v28 + (1 : Int))) (.cut (loopAt (bodyOf Try.prog 40) 5).1 (loopAt (bodyOf Try.prog 40) 5).2 (St.mk [(0, AV.val (Ty.int IntKind.i64) v0), (4, AV.ptr 4 []), (6, AV.ptr 6 []), (26, AV.val (Ty.slc false PairT) v26), (27, AV.val (Ty.int IntKind.i64) v27), (28, AV.val (Ty.int IntKind.i64) (v28 + (1 : Int)))] [(4, Ent.var (Ty.pair (Ty.slc true (Ty.pair (Ty.int IntKind.i64) (Ty.pair (Ty.int IntKind.i64) (Ty.pair (Ty.int IntKind.u8) (Ty.pair Ty.bool (Ty.pair Is Ty.unit)))))) (Ty.pair (Ty.slc true Word) Ty.unit)) (o4_1, o4_2_1, ())), (6, Ent.var (Ty.pair (Ty.slc true (Ty.pair (Ty.int IntKind.i64) (Ty.pair (Ty.int IntKind.i64) (Ty.pair (Ty.int IntKind.u8) (Ty.pair Ty.bool (Ty.pair Is Ty.unit)))))) (Ty.pair (Ty.slc true Word) Ty.unit)) (Prod.fst (etake (o6_1, o6_2_1, ()) (rest (Prod.fst (Prod.snd (List.getD v26 (Int.toNat v28) ((0 : Int), (0 : Int), ())))) (if (1 : Int) < (↑(List.length o6_2_1) : Int) then (↑(List.length o6_2_1) : Int) else (1 : Int))))))])))) (cond (decide ((↑(List.length o6_1) : Int) ≠ v0)) (.ret (((o6_1, o6_2_1, ()), false, ()))) (.need (inK IntKind.i64 (v28 + (1 : Int))) (.cut (loopAt (bodyOf Try.prog 40) 5).1 (loopAt (bodyOf Try.prog 40) 5).2 (St.mk [(0, AV.val (Ty.int IntKind.i64) v0), (4, AV.ptr 4 []), (6, AV.ptr 6 []), (26, AV.val (Ty.slc false PairT) v26), (27, AV.val (Ty.int IntKind.i64) v27), (28, AV.val (Ty.int IntKind.i64) (v28 + (1 : Int)))] [(4, Ent.var (Ty.pair (Ty.slc true (Ty.pair (Ty.int IntKind.i64) (Ty.pair (Ty.int IntKind.i64) (Ty.pair (Ty.int IntKind.u8) (Ty.pair Ty.bool (Ty.pair Is Ty.unit)))))) (Ty.pair (Ty.slc true Word) Ty.unit)) (o4_1, o4_2_1, ())), (6, Ent.var (Ty.pair (Ty.slc true (Ty.pair (Ty.int IntKind.i64) (Ty.pair (Ty.int IntKind.i64) (Ty.pair (Ty.int IntKind.u8) (Ty.pair Ty.bool (Ty.pair Is Ty.unit)))))) (Ty.pair (Ty.slc true Word) Ty.unit)) (o6_1, o6_2_1, ()))])))))))))) (.ret (((o6_1, o6_2_1, ()), true, ()))) := by kernel_rfl
theorem doorsT (n : Int) (l : List StepD) (i : Nat) (h1 : 1 ≤ n) (h2 : n ≤ 6) : JE n.toNat ((l.take i).foldl (estep n) (enew n).1) := doors_JE (l := l.take i) h1 h2
theorem cedoors_valid : cedoors.Valid Try.prog 40 := by
  refine Ctr.valid_of Eedoors_ok rfl rfl Try.func40 (c := bodyOf Try.prog 40) rfl rfl Fedoors_ok rfl ?_
  rintro ⟨(n : Int), (l : List StepD), ⟨⟩⟩ ⟨(h1 : 1 ≤ n), (h2 : n ≤ 6)⟩ ⟨-, ⟨hl, -⟩, -⟩
  have hl : l.length ≤ 9223372036854775807 := hl
  refine exec_sound (n := 1000) Eedoors_ok Fedoors_ok ?_
  refine holds_of_eq (Eedoors_t n l) ?_
  have he : (enew n).2.1 = 0 := by rw [enew_ok h1 h2]
  have hJ0 := (doorsT n l 0 h1 h2).len
  have hJ0 : ((enew n).1.1.length : Int) = n := by have h9 : (enew n).1.1.length = n.toNat := hJ0; omega
  simp only [holds_cond, Tree.holds, true_and, true_implies, decide_eq_true_eq, decide_eq_false_iff_not, Bool.not_eq_true', Bool.not_eq_false', Int.toNat_natCast, inK_i64, List.length_set, List.length_cons, List.length_nil]
  refine ⟨fun a => absurd he a, fun _ => ⟨fun a => absurd hJ0 a, fun _ => ?_⟩⟩
  refine Reach.loopI Eedoors_ok Fedoors_ok (fun i : Nat => Eedoors_s5 n l (l.length : Int) (i : Int) [] [] ((l.take i).foldl (estep n) (enew n).1).1 ((l.take i).foldl (estep n) (enew n).1).2.1) (fun i => i ≤ l.length) (fun i => l.length - i) 1000 (fun _ => ⟨uniq_of rfl, uniq_of rfl⟩) ?_ 0 (by omega)
  rintro i k1 - ih
  have k1 : i ≤ l.length := k1
  refine holds_of_eq (Eedoors_l5 ..) ?_
  have next : i < l.length → _ := fun hi => ih (i + 1) (by show i + 1 ≤ l.length; omega) (by omega)
  have hfin : edoors n l = l.foldl (estep n) (enew n).1 := rfl
  have hJ := doorsT n l i h1 h2
  have hJ2 := doorsT n l (i + 1) h1 h2
  simp only [holds_cond, Tree.holds, true_and, true_implies, decide_eq_true_eq, decide_eq_false_iff_not, Bool.not_eq_true', Bool.not_eq_false', Int.toNat_natCast, inK_i64, List.length_set, List.length_cons, List.length_nil]
  generalize hT : (l.take i).foldl (estep n) (enew n).1 = t at *
  obtain ⟨hs, ws, ⟨⟩⟩ := t
  have hlen : (hs.length : Int) = n := by have h9 : hs.length = n.toNat := hJ.len; omega
  refine ⟨fun c => ⟨by omega, fun _ => ?_⟩, fun c => ?_⟩
  · have next := next (by omega)
    rw [foldl_take (by omega) (0, 0, ()), hT] at next
    rw [foldl_take (by omega) (0, 0, ()), hT] at hJ2
    have hw : ws.length ≤ 100 := hJ.iv.l
    generalize l.getD i (0, 0, ()) = x at *
    obtain ⟨kd, a, ⟨⟩⟩ := x
    have fork : ∀ {u : EnterD × Int × Unit}, estep1 (hs, ws, ()) n (kd, a, ()) = u → (u.2.1 = 0 → estep n (hs, ws, ()) (kd, a, ()) = u.1 ∧ (u.1.1.length : Int) = n) ∧ (u.2.1 ≠ 0 → estep n (hs, ws, ()) (kd, a, ()) = (hs, ws, ())) := fun {u} h => by
      have e : estep n (hs, ws, ()) (kd, a, ()) = if u.2.1 = 0 then u.1 else (hs, ws, ()) := by rw [estep, h]
      refine ⟨fun h0 => ?_, fun h0 => by rw [e, if_neg h0]⟩
      rw [e, if_pos h0] at hJ2 ⊢
      exact ⟨rfl, by have := hJ2.len; omega⟩
    refine ⟨fun d => ⟨by omega, fun _ => ?_⟩, fun d => ⟨fun d2 => ⟨by omega, fun _ => ?_⟩, fun d2 => ⟨by show (if (1 : Int) < ws.length then (ws.length : Int) else 1) ≤ 1000000; split <;> omega, fun _ => ?_⟩⟩⟩
    · obtain ⟨f1, f2⟩ := fork (u := ewish (hs, ws, ()) (rest a n)) (by rw [estep1, if_pos d])
      refine ⟨fun e => ?_, fun e => ?_⟩
      · obtain ⟨g1, g2⟩ := f1 e
        rw [g1] at next
        exact ⟨fun h => absurd g2 h, fun _ => ⟨by omega, fun _ => next⟩⟩
      · rw [f2 e] at next
        exact ⟨fun h => absurd hlen h, fun _ => ⟨by omega, fun _ => next⟩⟩
    · obtain ⟨f1, f2⟩ := fork (u := eleave (hs, ws, ()) (rest a n)) (by rw [estep1, if_neg d, if_pos d2])
      refine ⟨fun e => ?_, fun e => ?_⟩
      · obtain ⟨g1, g2⟩ := f1 e
        rw [g1] at next
        exact ⟨fun h => absurd g2 h, fun _ => ⟨by omega, fun _ => next⟩⟩
      · rw [f2 e] at next
        exact ⟨fun h => absurd hlen h, fun _ => ⟨by omega, fun _ => next⟩⟩
    · obtain ⟨f1, f2⟩ := fork (u := etake (hs, ws, ()) (rest a (if (1 : Int) < ws.length then ws.length else 1))) (by rw [estep1, if_neg d, if_neg d2])
      refine ⟨fun e => ?_, fun e => ?_⟩
      · obtain ⟨g1, g2⟩ := f1 e
        rw [g1] at next
        exact ⟨fun h => absurd g2 h, fun _ => ⟨by omega, fun _ => next⟩⟩
      · rw [f2 e] at next
        exact ⟨fun h => absurd hlen h, fun _ => ⟨by omega, fun _ => next⟩⟩
  · show (((hs, ws, ()), true, ()) : EnterD × Bool × Unit) = (edoors n l, true, ())
    rw [hfin, ← hT, List.take_of_length_le (by omega)]
theorem insR_mem {z : Int} : ∀ {l : List DoorD} {i : Nat}, z ∈ insR l i ↔ ∃ k, k < l.length ∧ (l.getD k door0).2.2.2.1 = true ∧ z = ((i + k : Nat) : Int)
  | [], i => by simp [insR]
  | d :: l, i => by
    have step : (∃ k, k < (d :: l).length ∧ ((d :: l).getD k door0).2.2.2.1 = true ∧ z = ((i + k : Nat) : Int)) ↔ (d.2.2.2.1 = true ∧ z = (i : Int)) ∨ z ∈ insR l (i + 1) := by
      rw [insR_mem (l := l)]
      constructor
      · rintro ⟨k, h1, h2, h3⟩
        match k, h1, h2, h3 with
        | 0, _, h2, h3 => exact .inl ⟨h2, by omega⟩
        | k + 1, h1, h2, h3 => exact .inr ⟨k, by simpa using h1, h2, by omega⟩
      · rintro (⟨h1, h2⟩ | ⟨k, h1, h2, h3⟩)
        · exact ⟨0, by simp, h1, by omega⟩
        · exact ⟨k + 1, by simpa using h1, h2, by omega⟩
    rw [step, insR]
    by_cases e : d.2.2.2.1 = true
    · rw [if_pos e, List.mem_cons]; simp [e]
    · rw [if_neg e]; simp [e]
theorem insR_pw : ∀ {l : List DoorD} {i : Nat}, (insR l i).Pairwise (· < ·)
  | [], _ => List.Pairwise.nil
  | d :: l, i => by
    rw [insR]
    split
    · refine List.pairwise_cons.2 ⟨fun z hz => ?_, insR_pw⟩
      obtain ⟨k, _, _, rfl⟩ := insR_mem.1 hz
      omega
    · exact insR_pw
/-- never are two in at one time -/
theorem JE.one (h : JE n t) {p q : Nat} (hp : p < n) (hq : q < n) (h1 : (fD t p).2.2.2.1 = true) (h2 : (fD t q).2.2.2.1 = true) : p = q := by
  refine Decidable.byContradiction fun hne => ?_
  obtain ⟨a1, a2⟩ := (h.iv.i p hp).1 h1
  obtain ⟨b1, b2⟩ := (h.iv.i q hq).1 h2
  have e1 : ys (fD t) p q = 1 := by rw [ys, a2 q hq (fun e => hne e.symm)]; rfl
  have e2 : ys (fD t) q p = 1 := by rw [ys, b2 p hp hne]; rfl
  have c1 := h.iv.gr p q hp hq hne (by omega) b1
  have c2 := h.iv.gr q p hq hp (fun e => hne e.symm) (by omega) a1
  unfold bef at c1 c2
  omega
theorem JE.ins (h : JE n t) {z : Int} : z ∈ insideR t ↔ ∃ p : Nat, z = p ∧ p < n ∧ (fD t p).2.2.2.1 = true := by
  rw [insideR, insR_mem, h.len]
  constructor
  · rintro ⟨k, h1, h2, h3⟩; exact ⟨k, by omega, h1, h2⟩
  · rintro ⟨p, h1, h2, h3⟩; exact ⟨p, h2, h3, by omega⟩
theorem JE.inside (h : JE n t) : insideR t = [] ∨ ∃ p : Nat, insideR t = [(p : Int)] ∧ p < n ∧ (fD t p).2.2.2.1 = true := by
  cases hl : insideR t with
  | nil => exact .inl rfl
  | cons x l =>
    right
    obtain ⟨p, hp1, hp2, hp3⟩ := h.ins.1 (by rw [hl]; exact List.mem_cons_self : x ∈ insideR t)
    cases hl2 : l with
    | nil => exact ⟨p, by rw [hp1], hp2, hp3⟩
    | cons y m =>
      exfalso
      rw [hl2] at hl
      obtain ⟨q, hq1, hq2, hq3⟩ := h.ins.1 (by rw [hl]; exact List.mem_cons_of_mem _ List.mem_cons_self : y ∈ insideR t)
      have hpw := insR_pw (l := t.1) (i := 0)
      rw [show insR t.1 0 = x :: y :: m from hl] at hpw
      have := (List.pairwise_cons.1 hpw).1 y List.mem_cons_self
      have := h.one hp2 hq2 hp3 hq3
      omega
theorem JE.few (h : JE n t) : (insideR t).length ≤ 1 := by
  rcases h.inside with e | ⟨p, e, -⟩ <;> rw [e] <;> simp
end Go.Proofs.Ytbcdpeogfghgcaa
