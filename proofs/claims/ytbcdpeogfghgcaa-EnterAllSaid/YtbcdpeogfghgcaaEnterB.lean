/- More contracts of the package enter's functions, and of a run of them. -/
import Derived.Test.YtbcdpeogfghgcaaEnter
import Derived.Test.YtbcdpeogfghgcaaOverB
namespace Go.Proofs.Ytbcdpeogfghgcaa
open Go.Ex
set_option maxRecDepth 100000
def dAt (t : EnterD) (p : Int) : DoorD := t.1.getD p.toNat door0
def reqs (p at_ : Int) : Nat → List WordD
  | 0 => []
  | q + 1 => reqs p at_ q ++ (if (q : Int) ≠ p then [(p, (q : Int), at_, ())] else [])
theorem reqs_len (p at_ : Int) : ∀ n, (reqs p at_ n).length ≤ n
  | 0 => Nat.le_refl _
  | n + 1 => by
    have := reqs_len p at_ n
    rw [reqs, List.length_append]
    split <;> simp <;> omega
def wish1 (t : EnterD) (p : Int) : EnterD := (t.1.set p.toNat ((dAt t p).1 + 1, (dAt t p).1 + 1, (dAt t p).2.2.1, decide ((t.1.length : Int) = 1), (dAt t p).2.2.2.2.1, (dAt t p).2.2.2.2.2), t.2.1 ++ reqs p ((dAt t p).1 + 1) t.1.length, ())
def ewish (t : EnterD) (p : Int) : EnterD × Int × Unit :=
  if echeck t ≠ 0 then (e0, echeck t, ()) else if inF p 0 (t.1.length - 1) = false then (e0, 1, ()) else if 0 < (dAt t p).2.1 then (e0, 11, ()) else
  if (dAt t p).1 = 16777215 ∨ (100 : Int) < t.2.1.length + t.1.length - 1 then (e0, 8, ()) else (wish1 t p, 0, ())
def cewish : Ctr := { ps := [.v Enter, .v I64], rs := [EnterO, I64], pre := fun _ => True, fn := fun x => ewish x.1 x.2.1, out := fun _ => () }
noncomputable def Eewish : Env := { P := Try.prog, tt := tt, ctr := [(94, cein), (42, cecheck), (96, ceclone)], res := [Go.ResultVar.cell 4 85, Go.ResultVar.tmp 5], rs := [Ty.pair (Ty.slc true (Ty.pair (Ty.int IntKind.i64) (Ty.pair (Ty.int IntKind.i64) (Ty.pair (Ty.int IntKind.u8) (Ty.pair Ty.bool (Ty.pair Is Ty.unit)))))) (Ty.pair (Ty.slc true Word) Ty.unit), Ty.int IntKind.i64], ps := [PK.v (Ty.pair (Ty.slc false (Ty.pair (Ty.int IntKind.i64) (Ty.pair (Ty.int IntKind.i64) (Ty.pair (Ty.int IntKind.u8) (Ty.pair Ty.bool (Ty.pair (Ty.slc false (Ty.int IntKind.i64)) Ty.unit)))))) (Ty.pair (Ty.slc false Word) Ty.unit)), PK.v (Ty.int IntKind.i64)], cuts := [(17, [(1, none), (4, none), (8, none), (9, none), (79, none), (80, none)])], nt := 100 }
theorem Eewish_ok : EnvOk Eewish := envOk tt_ok ⟨cein_valid, cecheck_valid, ceclone_valid, trivial⟩
theorem Fewish_ok : FnOk Eewish Try.f44 := ⟨rfl, rfl⟩
theorem Eewish_t (x0_1 : List (Int × Int × Int × Bool × List Int × Unit)) (x0_2_1 : List (Int × Int × Int × Unit)) (x1 : Int) : exec Eewish 1000 [.code (bodyOf Try.prog 44)] (initSt cewish.ps (((x0_1, x0_2_1, ()), x1, ()))) =
  .need (True) (cond (decide (echeck (x0_1, x0_2_1, ()) ≠ (0 : Int))) (.ret ((([], [], ()), echeck (x0_1, x0_2_1, ()), ()))) (.need (inK IntKind.i64 ((↑(List.length x0_1) : Int) - (1 : Int))) (.need (True) (cond (!inF x1 (0 : Int) ((↑(List.length x0_1) : Int) - (1 : Int))) (.ret ((([], [], ()), (1 : Int), ()))) (.need ((0 : Int) ≤ x1 ∧ x1 < (↑(List.length x0_1) : Int)) (cond (decide ((0 : Int) < Prod.fst (Prod.snd (List.getD x0_1 (Int.toNat x1) ((0 : Int), (0 : Int), (0 : Int), false, [], ()))))) (.ret ((([], [], ()), (11 : Int), ()))) (.need ((0 : Int) ≤ x1 ∧ x1 < (↑(List.length x0_1) : Int)) (cond (decide (Prod.fst (List.getD x0_1 (Int.toNat x1) ((0 : Int), (0 : Int), (0 : Int), false, [], ())) = (16777215 : Int))) (.ret ((([], [], ()), (8 : Int), ()))) (.need (inK IntKind.i64 ((↑(List.length x0_2_1) : Int) + (↑(List.length x0_1) : Int))) (.need (inK IntKind.i64 ((↑(List.length x0_2_1) : Int) + (↑(List.length x0_1) : Int) - (1 : Int))) (cond (decide ((100 : Int) < (↑(List.length x0_2_1) : Int) + (↑(List.length x0_1) : Int) - (1 : Int))) (.ret ((([], [], ()), (8 : Int), ()))) (.need (List.length x0_1 ≤ 1048576 ∧ List.length x0_2_1 ≤ 1048576 ∧ ∀ (i : Nat), i < List.length x0_1 → List.length (Prod.fst (Prod.snd (Prod.snd (Prod.snd (Prod.snd (List.getD x0_1 i door0)))))) ≤ 1048576) (.need ((0 : Int) ≤ x1 ∧ x1 < (↑(List.length x0_1) : Int)) (.need (inK IntKind.i64 (Prod.fst (List.getD x0_1 (Int.toNat x1) ((0 : Int), (0 : Int), (0 : Int), false, [], ())) + (1 : Int))) (.cut (loopAt (bodyOf Try.prog 44) 17).1 (loopAt (bodyOf Try.prog 44) 17).2 (St.mk [(1, AV.val (Ty.int IntKind.i64) x1), (4, AV.ptr 4 []), (8, AV.ptr 8 []), (9, AV.ptr 8 [Step.fld 0, Step.idx x1]), (79, AV.val (Ty.int IntKind.i64) (↑(List.length x0_1) : Int)), (80, AV.val (Ty.int IntKind.i64) (0 : Int))] [(4, Ent.var (Ty.pair (Ty.slc true (Ty.pair (Ty.int IntKind.i64) (Ty.pair (Ty.int IntKind.i64) (Ty.pair (Ty.int IntKind.u8) (Ty.pair Ty.bool (Ty.pair Is Ty.unit)))))) (Ty.pair (Ty.slc true Word) Ty.unit)) ([], [], ())), (8, Ent.var (Ty.pair (Ty.slc true (Ty.pair (Ty.int IntKind.i64) (Ty.pair (Ty.int IntKind.i64) (Ty.pair (Ty.int IntKind.u8) (Ty.pair Ty.bool (Ty.pair Is Ty.unit)))))) (Ty.pair (Ty.slc true Word) Ty.unit)) (List.set (List.set (List.set x0_1 (Int.toNat x1) (Prod.fst (List.getD x0_1 (Int.toNat x1) ((0 : Int), (0 : Int), (0 : Int), false, [], ())) + (1 : Int), Prod.snd (List.getD x0_1 (Int.toNat x1) ((0 : Int), (0 : Int), (0 : Int), false, [], ())))) (Int.toNat x1) (Prod.fst (List.getD (List.set x0_1 (Int.toNat x1) (Prod.fst (List.getD x0_1 (Int.toNat x1) ((0 : Int), (0 : Int), (0 : Int), false, [], ())) + (1 : Int), Prod.snd (List.getD x0_1 (Int.toNat x1) ((0 : Int), (0 : Int), (0 : Int), false, [], ())))) (Int.toNat x1) ((0 : Int), (0 : Int), (0 : Int), false, [], ())), Prod.fst (List.getD (List.set x0_1 (Int.toNat x1) (Prod.fst (List.getD x0_1 (Int.toNat x1) ((0 : Int), (0 : Int), (0 : Int), false, [], ())) + (1 : Int), Prod.snd (List.getD x0_1 (Int.toNat x1) ((0 : Int), (0 : Int), (0 : Int), false, [], ())))) (Int.toNat x1) ((0 : Int), (0 : Int), (0 : Int), false, [], ())), Prod.snd (Prod.snd (List.getD (List.set x0_1 (Int.toNat x1) (Prod.fst (List.getD x0_1 (Int.toNat x1) ((0 : Int), (0 : Int), (0 : Int), false, [], ())) + (1 : Int), Prod.snd (List.getD x0_1 (Int.toNat x1) ((0 : Int), (0 : Int), (0 : Int), false, [], ())))) (Int.toNat x1) ((0 : Int), (0 : Int), (0 : Int), false, [], ()))))) (Int.toNat x1) (Prod.fst (List.getD (List.set (List.set x0_1 (Int.toNat x1) (Prod.fst (List.getD x0_1 (Int.toNat x1) ((0 : Int), (0 : Int), (0 : Int), false, [], ())) + (1 : Int), Prod.snd (List.getD x0_1 (Int.toNat x1) ((0 : Int), (0 : Int), (0 : Int), false, [], ())))) (Int.toNat x1) (Prod.fst (List.getD (List.set x0_1 (Int.toNat x1) (Prod.fst (List.getD x0_1 (Int.toNat x1) ((0 : Int), (0 : Int), (0 : Int), false, [], ())) + (1 : Int), Prod.snd (List.getD x0_1 (Int.toNat x1) ((0 : Int), (0 : Int), (0 : Int), false, [], ())))) (Int.toNat x1) ((0 : Int), (0 : Int), (0 : Int), false, [], ())), Prod.fst (List.getD (List.set x0_1 (Int.toNat x1) (Prod.fst (List.getD x0_1 (Int.toNat x1) ((0 : Int), (0 : Int), (0 : Int), false, [], ())) + (1 : Int), Prod.snd (List.getD x0_1 (Int.toNat x1) ((0 : Int), (0 : Int), (0 : Int), false, [], ())))) (Int.toNat x1) ((0 : Int), (0 : Int), (0 : Int), false, [], ())), Prod.snd (Prod.snd (List.getD (List.set x0_1 (Int.toNat x1) (Prod.fst (List.getD x0_1 (Int.toNat x1) ((0 : Int), (0 : Int), (0 : Int), false, [], ())) + (1 : Int), Prod.snd (List.getD x0_1 (Int.toNat x1) ((0 : Int), (0 : Int), (0 : Int), false, [], ())))) (Int.toNat x1) ((0 : Int), (0 : Int), (0 : Int), false, [], ()))))) (Int.toNat x1) ((0 : Int), (0 : Int), (0 : Int), false, [], ())), Prod.fst (Prod.snd (List.getD (List.set (List.set x0_1 (Int.toNat x1) (Prod.fst (List.getD x0_1 (Int.toNat x1) ((0 : Int), (0 : Int), (0 : Int), false, [], ())) + (1 : Int), Prod.snd (List.getD x0_1 (Int.toNat x1) ((0 : Int), (0 : Int), (0 : Int), false, [], ())))) (Int.toNat x1) (Prod.fst (List.getD (List.set x0_1 (Int.toNat x1) (Prod.fst (List.getD x0_1 (Int.toNat x1) ((0 : Int), (0 : Int), (0 : Int), false, [], ())) + (1 : Int), Prod.snd (List.getD x0_1 (Int.toNat x1) ((0 : Int), (0 : Int), (0 : Int), false, [], ())))) (Int.toNat x1) ((0 : Int), (0 : Int), (0 : Int), false, [], ())), Prod.fst (List.getD (List.set x0_1 (Int.toNat x1) (Prod.fst (List.getD x0_1 (Int.toNat x1) ((0 : Int), (0 : Int), (0 : Int), false, [], ())) + (1 : Int), Prod.snd (List.getD x0_1 (Int.toNat x1) ((0 : Int), (0 : Int), (0 : Int), false, [], ())))) (Int.toNat x1) ((0 : Int), (0 : Int), (0 : Int), false, [], ())), Prod.snd (Prod.snd (List.getD (List.set x0_1 (Int.toNat x1) (Prod.fst (List.getD x0_1 (Int.toNat x1) ((0 : Int), (0 : Int), (0 : Int), false, [], ())) + (1 : Int), Prod.snd (List.getD x0_1 (Int.toNat x1) ((0 : Int), (0 : Int), (0 : Int), false, [], ())))) (Int.toNat x1) ((0 : Int), (0 : Int), (0 : Int), false, [], ()))))) (Int.toNat x1) ((0 : Int), (0 : Int), (0 : Int), false, [], ()))), Prod.fst (Prod.snd (Prod.snd (List.getD (List.set (List.set x0_1 (Int.toNat x1) (Prod.fst (List.getD x0_1 (Int.toNat x1) ((0 : Int), (0 : Int), (0 : Int), false, [], ())) + (1 : Int), Prod.snd (List.getD x0_1 (Int.toNat x1) ((0 : Int), (0 : Int), (0 : Int), false, [], ())))) (Int.toNat x1) (Prod.fst (List.getD (List.set x0_1 (Int.toNat x1) (Prod.fst (List.getD x0_1 (Int.toNat x1) ((0 : Int), (0 : Int), (0 : Int), false, [], ())) + (1 : Int), Prod.snd (List.getD x0_1 (Int.toNat x1) ((0 : Int), (0 : Int), (0 : Int), false, [], ())))) (Int.toNat x1) ((0 : Int), (0 : Int), (0 : Int), false, [], ())), Prod.fst (List.getD (List.set x0_1 (Int.toNat x1) (Prod.fst (List.getD x0_1 (Int.toNat x1) ((0 : Int), (0 : Int), (0 : Int), false, [], ())) + (1 : Int), Prod.snd (List.getD x0_1 (Int.toNat x1) ((0 : Int), (0 : Int), (0 : Int), false, [], ())))) (Int.toNat x1) ((0 : Int), (0 : Int), (0 : Int), false, [], ())), Prod.snd (Prod.snd (List.getD (List.set x0_1 (Int.toNat x1) (Prod.fst (List.getD x0_1 (Int.toNat x1) ((0 : Int), (0 : Int), (0 : Int), false, [], ())) + (1 : Int), Prod.snd (List.getD x0_1 (Int.toNat x1) ((0 : Int), (0 : Int), (0 : Int), false, [], ())))) (Int.toNat x1) ((0 : Int), (0 : Int), (0 : Int), false, [], ()))))) (Int.toNat x1) ((0 : Int), (0 : Int), (0 : Int), false, [], ())))), decide ((↑(List.length x0_1) : Int) = (1 : Int)), Prod.snd (Prod.snd (Prod.snd (Prod.snd (List.getD (List.set (List.set x0_1 (Int.toNat x1) (Prod.fst (List.getD x0_1 (Int.toNat x1) ((0 : Int), (0 : Int), (0 : Int), false, [], ())) + (1 : Int), Prod.snd (List.getD x0_1 (Int.toNat x1) ((0 : Int), (0 : Int), (0 : Int), false, [], ())))) (Int.toNat x1) (Prod.fst (List.getD (List.set x0_1 (Int.toNat x1) (Prod.fst (List.getD x0_1 (Int.toNat x1) ((0 : Int), (0 : Int), (0 : Int), false, [], ())) + (1 : Int), Prod.snd (List.getD x0_1 (Int.toNat x1) ((0 : Int), (0 : Int), (0 : Int), false, [], ())))) (Int.toNat x1) ((0 : Int), (0 : Int), (0 : Int), false, [], ())), Prod.fst (List.getD (List.set x0_1 (Int.toNat x1) (Prod.fst (List.getD x0_1 (Int.toNat x1) ((0 : Int), (0 : Int), (0 : Int), false, [], ())) + (1 : Int), Prod.snd (List.getD x0_1 (Int.toNat x1) ((0 : Int), (0 : Int), (0 : Int), false, [], ())))) (Int.toNat x1) ((0 : Int), (0 : Int), (0 : Int), false, [], ())), Prod.snd (Prod.snd (List.getD (List.set x0_1 (Int.toNat x1) (Prod.fst (List.getD x0_1 (Int.toNat x1) ((0 : Int), (0 : Int), (0 : Int), false, [], ())) + (1 : Int), Prod.snd (List.getD x0_1 (Int.toNat x1) ((0 : Int), (0 : Int), (0 : Int), false, [], ())))) (Int.toNat x1) ((0 : Int), (0 : Int), (0 : Int), false, [], ()))))) (Int.toNat x1) ((0 : Int), (0 : Int), (0 : Int), false, [], ())))))), x0_2_1, ()))])))))))))))))))) := by kernel_rfl
def Eewish_s17 (v1 : Int) (v9i : Int) (v79 : Int) (v80 : Int) (o4_1 : List (Int × Int × Int × Bool × List Int × Unit)) (o4_2_1 : List (Int × Int × Int × Unit)) (o8_1 : List (Int × Int × Int × Bool × List Int × Unit)) (o8_2_1 : List (Int × Int × Int × Unit)) : St := St.mk [(1, AV.val (Ty.int IntKind.i64) v1), (4, AV.ptr 4 []), (8, AV.ptr 8 []), (9, AV.ptr 8 [Step.fld 0, Step.idx v9i]), (79, AV.val (Ty.int IntKind.i64) v79), (80, AV.val (Ty.int IntKind.i64) v80)] [(4, Ent.var (Ty.pair (Ty.slc true (Ty.pair (Ty.int IntKind.i64) (Ty.pair (Ty.int IntKind.i64) (Ty.pair (Ty.int IntKind.u8) (Ty.pair Ty.bool (Ty.pair Is Ty.unit)))))) (Ty.pair (Ty.slc true Word) Ty.unit)) (o4_1, o4_2_1, ())), (8, Ent.var (Ty.pair (Ty.slc true (Ty.pair (Ty.int IntKind.i64) (Ty.pair (Ty.int IntKind.i64) (Ty.pair (Ty.int IntKind.u8) (Ty.pair Ty.bool (Ty.pair Is Ty.unit)))))) (Ty.pair (Ty.slc true Word) Ty.unit)) (o8_1, o8_2_1, ()))]
theorem Eewish_l17 (v1 : Int) (v9i : Int) (v79 : Int) (v80 : Int) (o4_1 : List (Int × Int × Int × Bool × List Int × Unit)) (o4_2_1 : List (Int × Int × Int × Unit)) (o8_1 : List (Int × Int × Int × Bool × List Int × Unit)) (o8_2_1 : List (Int × Int × Int × Unit)) : exec Eewish 1000 (.code (loopAt (bodyOf Try.prog 44) 17).1 :: .inLoop (loopAt (bodyOf Try.prog 44) 17).1 :: (loopAt (bodyOf Try.prog 44) 17).2) (Eewish_s17 v1 v9i v79 v80 o4_1 o4_2_1 o8_1 o8_2_1) =
  cond (decide (v80 < v79)) (cond (decide (v80 ≠ v1)) (.need ([] ++ [Step.fld 1] = [] ++ [Step.fld 1] ∧ List.length o8_2_1 + List.length (List.set [((0 : Int), (0 : Int), (0 : Int), ())] (Int.toNat (↑0 : Int)) (v1, v80, Prod.fst (Prod.snd (List.getD o8_1 (Int.toNat v9i) ((0 : Int), (0 : Int), (0 : Int), false, [], ()))), ())) ≤ 140737488355328 ∧ (List.length o8_2_1 + List.length (List.set [((0 : Int), (0 : Int), (0 : Int), ())] (Int.toNat (↑0 : Int)) (v1, v80, Prod.fst (Prod.snd (List.getD o8_1 (Int.toNat v9i) ((0 : Int), (0 : Int), (0 : Int), false, [], ()))), ()))) * Ty.wb Word ≤ 140737488355328) (.need (inK IntKind.i64 (v80 + (1 : Int))) (.cut (loopAt (bodyOf Try.prog 44) 17).1 (loopAt (bodyOf Try.prog 44) 17).2 (St.mk [(1, AV.val (Ty.int IntKind.i64) v1), (4, AV.ptr 4 []), (8, AV.ptr 8 []), (9, AV.ptr 8 [Step.fld 0, Step.idx v9i]), (79, AV.val (Ty.int IntKind.i64) v79), (80, AV.val (Ty.int IntKind.i64) (v80 + (1 : Int)))] [(4, Ent.var (Ty.pair (Ty.slc true (Ty.pair (Ty.int IntKind.i64) (Ty.pair (Ty.int IntKind.i64) (Ty.pair (Ty.int IntKind.u8) (Ty.pair Ty.bool (Ty.pair Is Ty.unit)))))) (Ty.pair (Ty.slc true Word) Ty.unit)) (o4_1, o4_2_1, ())), (8, Ent.var (Ty.pair (Ty.slc true (Ty.pair (Ty.int IntKind.i64) (Ty.pair (Ty.int IntKind.i64) (Ty.pair (Ty.int IntKind.u8) (Ty.pair Ty.bool (Ty.pair Is Ty.unit)))))) (Ty.pair (Ty.slc true Word) Ty.unit)) (o8_1, o8_2_1 ++ List.set [((0 : Int), (0 : Int), (0 : Int), ())] (Int.toNat (↑0 : Int)) (v1, v80, Prod.fst (Prod.snd (List.getD o8_1 (Int.toNat v9i) ((0 : Int), (0 : Int), (0 : Int), false, [], ()))), ()), ()))])))) (.need (inK IntKind.i64 (v80 + (1 : Int))) (.cut (loopAt (bodyOf Try.prog 44) 17).1 (loopAt (bodyOf Try.prog 44) 17).2 (St.mk [(1, AV.val (Ty.int IntKind.i64) v1), (4, AV.ptr 4 []), (8, AV.ptr 8 []), (9, AV.ptr 8 [Step.fld 0, Step.idx v9i]), (79, AV.val (Ty.int IntKind.i64) v79), (80, AV.val (Ty.int IntKind.i64) (v80 + (1 : Int)))] [(4, Ent.var (Ty.pair (Ty.slc true (Ty.pair (Ty.int IntKind.i64) (Ty.pair (Ty.int IntKind.i64) (Ty.pair (Ty.int IntKind.u8) (Ty.pair Ty.bool (Ty.pair Is Ty.unit)))))) (Ty.pair (Ty.slc true Word) Ty.unit)) (o4_1, o4_2_1, ())), (8, Ent.var (Ty.pair (Ty.slc true (Ty.pair (Ty.int IntKind.i64) (Ty.pair (Ty.int IntKind.i64) (Ty.pair (Ty.int IntKind.u8) (Ty.pair Ty.bool (Ty.pair Is Ty.unit)))))) (Ty.pair (Ty.slc true Word) Ty.unit)) (o8_1, o8_2_1, ()))])))) (.ret (((o8_1, o8_2_1, ()), (0 : Int), ()))) := by kernel_rfl
theorem EOk.clone {t : EnterD} (h : EOk t) : t.1.length ≤ 1048576 ∧ t.2.1.length ≤ 1048576 ∧ ∀ i, i < t.1.length → (t.1.getD i door0).2.2.2.2.1.length ≤ 1048576 :=
  ⟨by have := h.n; omega, by have := h.l; omega, fun i hi => by have := (h.d hi).l; omega⟩
theorem cewish_valid : cewish.Valid Try.prog 44 := by
  refine Ctr.valid_of Eewish_ok rfl rfl Try.func44 (c := bodyOf Try.prog 44) rfl rfl Fewish_ok rfl ?_
  rintro ⟨⟨(hs : List DoorD), (ws : List WordD), ⟨⟩⟩, (p : Int), ⟨⟩⟩ - ⟨⟨⟨hl1, -⟩, ⟨hl2, -⟩, -⟩, -⟩
  have hl1 : hs.length ≤ 9223372036854775807 := hl1
  have hl2 : ws.length ≤ 9223372036854775807 := hl2
  refine exec_sound (n := 1000) Eewish_ok Fewish_ok ?_
  refine holds_of_eq (Eewish_t hs ws p) ?_
  simp only [holds_cond, Tree.holds, true_and, true_implies, decide_eq_true_eq, decide_eq_false_iff_not, Bool.not_eq_true', Bool.not_eq_false', Int.toNat_natCast, inK_i64, List.length_set, List.length_cons, List.length_nil, wbwClone]
  have ho : ewish (hs, ws, ()) p = if echeck (hs, ws, ()) ≠ 0 then (e0, echeck (hs, ws, ()), ()) else if inF p 0 (hs.length - 1) = false then (e0, 1, ()) else if 0 < (hs.getD p.toNat door0).2.1 then (e0, 11, ()) else
    if (hs.getD p.toNat door0).1 = 16777215 ∨ (100 : Int) < ws.length + hs.length - 1 then (e0, 8, ()) else
    ((hs.set p.toNat ((hs.getD p.toNat door0).1 + 1, (hs.getD p.toNat door0).1 + 1, (hs.getD p.toNat door0).2.2.1, decide ((hs.length : Int) = 1), (hs.getD p.toNat door0).2.2.2.2.1, (hs.getD p.toNat door0).2.2.2.2.2), ws ++ reqs p ((hs.getD p.toNat door0).1 + 1) hs.length, ()), 0, ()) := rfl
  have key : ∀ {x : EnterD × Int × Unit}, ewish (hs, ws, ()) p = x → x = ewish (hs, ws, ()) p := fun h => h.symm
  refine ⟨fun a => key (by rw [ho, if_pos a] <;> rfl), fun a => ?_⟩
  rw [if_neg a] at ho
  have hok := echeck_iff.1 (Decidable.not_not.1 a)
  have hn : 1 ≤ hs.length ∧ hs.length ≤ 6 := hok.n
  have hw100 : ws.length ≤ 100 := hok.l
  have hcl := hok.clone
  refine ⟨by omega, fun _ => ⟨fun c => key (by rw [ho, if_pos c] <;> rfl), fun c => ?_⟩⟩
  have hp := inF_iff.1 c
  rw [if_neg (nf c)] at ho
  have hpl : p.toNat < hs.length := by omega
  have hd := hok.d hpl
  have hdc : 0 ≤ (hs.getD p.toNat door0).1 ∧ (hs.getD p.toNat door0).1 ≤ 16777215 := hd.c
  have hI : @LE.le Int Int.instLEInt 0 p ∧ @LT.lt Int Int.instLTInt p (hs.length : Int) := ⟨by omega, by omega⟩
  rw [show hs.getD p.toNat (0, 0, 0, false, [], ()) = hs.getD p.toNat door0 from rfl]
  generalize hs.getD p.toNat door0 = d at *
  obtain ⟨cl, wi, ye, inn, la, ⟨⟩⟩ := d
  simp only [getD_set_same hpl, List.set_set] at ho hdc ⊢
  refine ⟨hI, fun _ => ⟨fun f => key (by rw [ho, if_pos f] <;> rfl), fun f => ?_⟩⟩
  rw [if_neg f] at ho
  refine ⟨hI, fun _ => ⟨fun g => key (by rw [ho, if_pos (.inl g)] <;> rfl), fun g => ⟨by omega, fun _ => ⟨by omega, fun _ => ⟨fun k => key (by rw [ho, if_pos (.inr k)] <;> rfl), fun k => ?_⟩⟩⟩⟩⟩
  rw [if_neg (by rintro (h | h); exact g h; exact k h)] at ho
  refine ⟨hcl, fun _ => ⟨hI, fun _ => ⟨by omega, fun _ => ?_⟩⟩⟩
  refine (show Ex.Reach Eewish Try.f44 _ _ _ (Eewish_s17 p p (hs.length : Int) ((0 : Nat) : Int) [] [] (hs.set p.toNat (cl + 1, cl + 1, ye, decide ((hs.length : Int) = 1), la, ())) ws) from ?_)
  have e00 : ws = ws ++ reqs p (cl + 1) 0 := by simp [reqs]
  suffices hs2 : Go.Ex.Reach Eewish Try.f44 (ewish (hs, ws, ()) p) () (.code (loopAt (bodyOf Try.prog 44) 17).1 :: .inLoop (loopAt (bodyOf Try.prog 44) 17).1 :: (loopAt (bodyOf Try.prog 44) 17).2) (Eewish_s17 p p (hs.length : Int) ((0 : Nat) : Int) [] [] (hs.set p.toNat (cl + 1, cl + 1, ye, decide ((hs.length : Int) = 1), la, ())) (ws ++ reqs p (cl + 1) 0)) by
    rw [← e00] at hs2; exact hs2
  refine Reach.loopI Eewish_ok Fewish_ok (fun i : Nat => Eewish_s17 p p (hs.length : Int) (i : Int) [] [] (hs.set p.toNat (cl + 1, cl + 1, ye, decide ((hs.length : Int) = 1), la, ())) (ws ++ reqs p (cl + 1) i)) (fun i => i ≤ hs.length) (fun i => hs.length - i) 1000 (fun _ => ⟨uniq_of rfl, uniq_of rfl⟩) ?_ 0 (by omega)
  rintro i k1 - ih
  have k1 : i ≤ hs.length := k1
  have hrl := reqs_len p (cl + 1) i
  refine holds_of_eq (Eewish_l17 ..) ?_
  simp only [holds_cond, Tree.holds, true_and, true_implies, decide_eq_true_eq, decide_eq_false_iff_not, Bool.not_eq_true', Bool.not_eq_false', Int.toNat_natCast, inK_i64, List.length_set, List.length_cons, List.length_nil, wbwClone, getD_set_same hpl]
  refine ⟨fun c => ?_, fun c => key ?_⟩
  · have next := ih (i + 1) (by show i + 1 ≤ hs.length; omega) (by omega)
    rw [reqs] at next
    have hln : (ws ++ reqs p (cl + 1) i).length ≤ 106 := by rw [List.length_append]; omega
    refine ⟨fun e => ⟨⟨by omega, by omega⟩, fun _ => ⟨by omega, fun _ => ?_⟩⟩, fun e => ⟨by omega, fun _ => ?_⟩⟩
    · rw [if_pos e, ← List.append_assoc] at next; exact next
    · rw [if_neg e, List.append_nil] at next; exact next
  · rw [ho, show i = hs.length by omega]; rfl
def leave1 (t : EnterD) (p : Int) : EnterD := (t.1.set p.toNat ((dAt t p).1, 0, 0, false, [], ()), t.2.1 ++ (dAt t p).2.2.2.2.1.map (fun q => (p, q, 0, ())), ())
def eleave (t : EnterD) (p : Int) : EnterD × Int × Unit :=
  if echeck t ≠ 0 then (e0, echeck t, ()) else if inF p 0 (t.1.length - 1) = false then (e0, 1, ()) else if (dAt t p).2.2.2.1 = false then (e0, 11, ()) else
  if (100 : Int) < t.2.1.length + (dAt t p).2.2.2.2.1.length then (e0, 8, ()) else (leave1 t p, 0, ())
def celeave : Ctr := { ps := [.v Enter, .v I64], rs := [EnterO, I64], pre := fun _ => True, fn := fun x => eleave x.1 x.2.1, out := fun _ => () }
noncomputable def Eeleave : Env := { P := Try.prog, tt := tt, ctr := [(94, cein), (42, cecheck), (96, ceclone)], res := [Go.ResultVar.cell 4 85, Go.ResultVar.tmp 5], rs := [Ty.pair (Ty.slc true (Ty.pair (Ty.int IntKind.i64) (Ty.pair (Ty.int IntKind.i64) (Ty.pair (Ty.int IntKind.u8) (Ty.pair Ty.bool (Ty.pair Is Ty.unit)))))) (Ty.pair (Ty.slc true Word) Ty.unit), Ty.int IntKind.i64], ps := [PK.v (Ty.pair (Ty.slc false (Ty.pair (Ty.int IntKind.i64) (Ty.pair (Ty.int IntKind.i64) (Ty.pair (Ty.int IntKind.u8) (Ty.pair Ty.bool (Ty.pair (Ty.slc false (Ty.int IntKind.i64)) Ty.unit)))))) (Ty.pair (Ty.slc false Word) Ty.unit)), PK.v (Ty.int IntKind.i64)], cuts := [(12, [(1, none), (2, none), (4, none), (7, none), (55, none), (56, none), (57, none)])], nt := 82 }
theorem Eeleave_ok : EnvOk Eeleave := envOk tt_ok ⟨cein_valid, cecheck_valid, ceclone_valid, trivial⟩
theorem Feleave_ok : FnOk Eeleave Try.f47 := ⟨rfl, rfl⟩
theorem Eeleave_t (x0_1 : List (Int × Int × Int × Bool × List Int × Unit)) (x0_2_1 : List (Int × Int × Int × Unit)) (x1 : Int) : exec Eeleave 1000 [.code (bodyOf Try.prog 47)] (initSt celeave.ps (((x0_1, x0_2_1, ()), x1, ()))) =
  .need (True) (cond (decide (echeck (x0_1, x0_2_1, ()) ≠ (0 : Int))) (.ret ((([], [], ()), echeck (x0_1, x0_2_1, ()), ()))) (.need (inK IntKind.i64 ((↑(List.length x0_1) : Int) - (1 : Int))) (.need (True) (cond (!inF x1 (0 : Int) ((↑(List.length x0_1) : Int) - (1 : Int))) (.ret ((([], [], ()), (1 : Int), ()))) (.need ((0 : Int) ≤ x1 ∧ x1 < (↑(List.length x0_1) : Int)) (cond (!Prod.fst (Prod.snd (Prod.snd (Prod.snd (List.getD x0_1 (Int.toNat x1) ((0 : Int), (0 : Int), (0 : Int), false, [], ())))))) (.ret ((([], [], ()), (11 : Int), ()))) (.need ((0 : Int) ≤ x1 ∧ x1 < (↑(List.length x0_1) : Int)) (.need (inK IntKind.i64 ((↑(List.length x0_2_1) : Int) + (↑(List.length (Prod.fst (Prod.snd (Prod.snd (Prod.snd (Prod.snd (List.getD x0_1 (Int.toNat x1) ((0 : Int), (0 : Int), (0 : Int), false, [], ())))))))) : Int))) (cond (decide ((100 : Int) < (↑(List.length x0_2_1) : Int) + (↑(List.length (Prod.fst (Prod.snd (Prod.snd (Prod.snd (Prod.snd (List.getD x0_1 (Int.toNat x1) ((0 : Int), (0 : Int), (0 : Int), false, [], ())))))))) : Int))) (.ret ((([], [], ()), (8 : Int), ()))) (.need (List.length x0_1 ≤ 1048576 ∧ List.length x0_2_1 ≤ 1048576 ∧ ∀ (i : Nat), i < List.length x0_1 → List.length (Prod.fst (Prod.snd (Prod.snd (Prod.snd (Prod.snd (List.getD x0_1 i door0)))))) ≤ 1048576) (.need ((0 : Int) ≤ x1 ∧ x1 < (↑(List.length x0_1) : Int)) (.cut (loopAt (bodyOf Try.prog 47) 12).1 (loopAt (bodyOf Try.prog 47) 12).2 (St.mk [(1, AV.val (Ty.int IntKind.i64) x1), (2, AV.ptr 2 []), (4, AV.ptr 4 []), (7, AV.ptr 7 []), (55, AV.at_ 7 [Step.fld 0, Step.idx x1, Step.fld 4]), (56, AV.val (Ty.int IntKind.i64) (↑(List.length (Prod.fst (Prod.snd (Prod.snd (Prod.snd (Prod.snd (List.getD x0_1 (Int.toNat x1) ((0 : Int), (0 : Int), (0 : Int), false, [], ())))))))) : Int)), (57, AV.val (Ty.int IntKind.i64) (0 : Int))] [(2, Ent.var (Ty.pair (Ty.slc false (Ty.pair (Ty.int IntKind.i64) (Ty.pair (Ty.int IntKind.i64) (Ty.pair (Ty.int IntKind.u8) (Ty.pair Ty.bool (Ty.pair (Ty.slc false (Ty.int IntKind.i64)) Ty.unit)))))) (Ty.pair (Ty.slc false Word) Ty.unit)) (x0_1, x0_2_1, ())), (4, Ent.var (Ty.pair (Ty.slc true (Ty.pair (Ty.int IntKind.i64) (Ty.pair (Ty.int IntKind.i64) (Ty.pair (Ty.int IntKind.u8) (Ty.pair Ty.bool (Ty.pair Is Ty.unit)))))) (Ty.pair (Ty.slc true Word) Ty.unit)) ([], [], ())), (7, Ent.var (Ty.pair (Ty.slc true (Ty.pair (Ty.int IntKind.i64) (Ty.pair (Ty.int IntKind.i64) (Ty.pair (Ty.int IntKind.u8) (Ty.pair Ty.bool (Ty.pair Is Ty.unit)))))) (Ty.pair (Ty.slc true Word) Ty.unit)) (x0_1, x0_2_1, ()))]))))))))))))) := by kernel_rfl
def Eeleave_s12 (v1 : Int) (v55i : Int) (v56 : Int) (v57 : Int) (o2_1 : List (Int × Int × Int × Bool × List Int × Unit)) (o2_2_1 : List (Int × Int × Int × Unit)) (o4_1 : List (Int × Int × Int × Bool × List Int × Unit)) (o4_2_1 : List (Int × Int × Int × Unit)) (o7_1 : List (Int × Int × Int × Bool × List Int × Unit)) (o7_2_1 : List (Int × Int × Int × Unit)) : St := St.mk [(1, AV.val (Ty.int IntKind.i64) v1), (2, AV.ptr 2 []), (4, AV.ptr 4 []), (7, AV.ptr 7 []), (55, AV.at_ 7 [Step.fld 0, Step.idx v55i, Step.fld 4]), (56, AV.val (Ty.int IntKind.i64) v56), (57, AV.val (Ty.int IntKind.i64) v57)] [(2, Ent.var (Ty.pair (Ty.slc false (Ty.pair (Ty.int IntKind.i64) (Ty.pair (Ty.int IntKind.i64) (Ty.pair (Ty.int IntKind.u8) (Ty.pair Ty.bool (Ty.pair (Ty.slc false (Ty.int IntKind.i64)) Ty.unit)))))) (Ty.pair (Ty.slc false Word) Ty.unit)) (o2_1, o2_2_1, ())), (4, Ent.var (Ty.pair (Ty.slc true (Ty.pair (Ty.int IntKind.i64) (Ty.pair (Ty.int IntKind.i64) (Ty.pair (Ty.int IntKind.u8) (Ty.pair Ty.bool (Ty.pair Is Ty.unit)))))) (Ty.pair (Ty.slc true Word) Ty.unit)) (o4_1, o4_2_1, ())), (7, Ent.var (Ty.pair (Ty.slc true (Ty.pair (Ty.int IntKind.i64) (Ty.pair (Ty.int IntKind.i64) (Ty.pair (Ty.int IntKind.u8) (Ty.pair Ty.bool (Ty.pair Is Ty.unit)))))) (Ty.pair (Ty.slc true Word) Ty.unit)) (o7_1, o7_2_1, ()))]
theorem Eeleave_l12 (v1 : Int) (v55i : Int) (v56 : Int) (v57 : Int) (o2_1 : List (Int × Int × Int × Bool × List Int × Unit)) (o2_2_1 : List (Int × Int × Int × Unit)) (o4_1 : List (Int × Int × Int × Bool × List Int × Unit)) (o4_2_1 : List (Int × Int × Int × Unit)) (o7_1 : List (Int × Int × Int × Bool × List Int × Unit)) (o7_2_1 : List (Int × Int × Int × Unit)) : exec Eeleave 1000 (.code (loopAt (bodyOf Try.prog 47) 12).1 :: .inLoop (loopAt (bodyOf Try.prog 47) 12).1 :: (loopAt (bodyOf Try.prog 47) 12).2) (Eeleave_s12 v1 v55i v56 v57 o2_1 o2_2_1 o4_1 o4_2_1 o7_1 o7_2_1) =
  cond (decide (v57 < v56)) (.need ((0 : Int) ≤ v57 ∧ v57 < (↑(List.length (Prod.fst (Prod.snd (Prod.snd (Prod.snd (Prod.snd (List.getD o7_1 (Int.toNat v55i) ((0 : Int), (0 : Int), (0 : Int), false, [], ())))))))) : Int)) (.need (True ∧ [] ++ [Step.fld 1] = [] ++ [Step.fld 1] ∧ List.length o7_2_1 + List.length (List.set [((0 : Int), (0 : Int), (0 : Int), ())] (Int.toNat (↑0 : Int)) (v1, List.getD (Prod.fst (Prod.snd (Prod.snd (Prod.snd (Prod.snd (List.getD o7_1 (Int.toNat v55i) ((0 : Int), (0 : Int), (0 : Int), false, [], ()))))))) (Int.toNat v57) (0 : Int), (0 : Int), ())) ≤ 140737488355328 ∧ (List.length o7_2_1 + List.length (List.set [((0 : Int), (0 : Int), (0 : Int), ())] (Int.toNat (↑0 : Int)) (v1, List.getD (Prod.fst (Prod.snd (Prod.snd (Prod.snd (Prod.snd (List.getD o7_1 (Int.toNat v55i) ((0 : Int), (0 : Int), (0 : Int), false, [], ()))))))) (Int.toNat v57) (0 : Int), (0 : Int), ()))) * Ty.wb Word ≤ 140737488355328) (.need (inK IntKind.i64 (v57 + (1 : Int))) (.cut (loopAt (bodyOf Try.prog 47) 12).1 (loopAt (bodyOf Try.prog 47) 12).2 (St.mk [(1, AV.val (Ty.int IntKind.i64) v1), (2, AV.ptr 2 []), (4, AV.ptr 4 []), (7, AV.ptr 7 []), (55, AV.at_ 7 [Step.fld 0, Step.idx v55i, Step.fld 4]), (56, AV.val (Ty.int IntKind.i64) v56), (57, AV.val (Ty.int IntKind.i64) (v57 + (1 : Int)))] [(2, Ent.var (Ty.pair (Ty.slc false (Ty.pair (Ty.int IntKind.i64) (Ty.pair (Ty.int IntKind.i64) (Ty.pair (Ty.int IntKind.u8) (Ty.pair Ty.bool (Ty.pair (Ty.slc false (Ty.int IntKind.i64)) Ty.unit)))))) (Ty.pair (Ty.slc false Word) Ty.unit)) (o2_1, o2_2_1, ())), (4, Ent.var (Ty.pair (Ty.slc true (Ty.pair (Ty.int IntKind.i64) (Ty.pair (Ty.int IntKind.i64) (Ty.pair (Ty.int IntKind.u8) (Ty.pair Ty.bool (Ty.pair Is Ty.unit)))))) (Ty.pair (Ty.slc true Word) Ty.unit)) (o4_1, o4_2_1, ())), (7, Ent.var (Ty.pair (Ty.slc true (Ty.pair (Ty.int IntKind.i64) (Ty.pair (Ty.int IntKind.i64) (Ty.pair (Ty.int IntKind.u8) (Ty.pair Ty.bool (Ty.pair Is Ty.unit)))))) (Ty.pair (Ty.slc true Word) Ty.unit)) (o7_1, o7_2_1 ++ List.set [((0 : Int), (0 : Int), (0 : Int), ())] (Int.toNat (↑0 : Int)) (v1, List.getD (Prod.fst (Prod.snd (Prod.snd (Prod.snd (Prod.snd (List.getD o7_1 (Int.toNat v55i) ((0 : Int), (0 : Int), (0 : Int), false, [], ()))))))) (Int.toNat v57) (0 : Int), (0 : Int), ()), ()))]))))) (.need ((0 : Int) ≤ v1 ∧ v1 < (↑(List.length o2_1) : Int)) (.need ((0 : Int) ≤ v1 ∧ v1 < (↑(List.length o7_1) : Int)) (.ret (((List.set o7_1 (Int.toNat v1) (Prod.fst (List.getD o2_1 (Int.toNat v1) ((0 : Int), (0 : Int), (0 : Int), false, [], ())), (0 : Int), (0 : Int), false, [], ()), o7_2_1, ()), (0 : Int), ()))))) := by kernel_rfl
theorem celeave_valid : celeave.Valid Try.prog 47 := by
  refine Ctr.valid_of Eeleave_ok rfl rfl Try.func47 (c := bodyOf Try.prog 47) rfl rfl Feleave_ok rfl ?_
  rintro ⟨⟨(hs : List DoorD), (ws : List WordD), ⟨⟩⟩, (p : Int), ⟨⟩⟩ - ⟨⟨⟨hl1, -⟩, ⟨hl2, -⟩, -⟩, -⟩
  have hl1 : hs.length ≤ 9223372036854775807 := hl1
  have hl2 : ws.length ≤ 9223372036854775807 := hl2
  refine exec_sound (n := 1000) Eeleave_ok Feleave_ok ?_
  refine holds_of_eq (Eeleave_t hs ws p) ?_
  simp only [holds_cond, Tree.holds, true_and, true_implies, decide_eq_true_eq, decide_eq_false_iff_not, Bool.not_eq_true', Bool.not_eq_false', Int.toNat_natCast, inK_i64, List.length_set, List.length_cons, List.length_nil, wbwClone]
  have ho : eleave (hs, ws, ()) p = if echeck (hs, ws, ()) ≠ 0 then (e0, echeck (hs, ws, ()), ()) else if inF p 0 (hs.length - 1) = false then (e0, 1, ()) else if (hs.getD p.toNat door0).2.2.2.1 = false then (e0, 11, ()) else
    if (100 : Int) < ws.length + (hs.getD p.toNat door0).2.2.2.2.1.length then (e0, 8, ()) else
    ((hs.set p.toNat ((hs.getD p.toNat door0).1, 0, 0, false, [], ()), ws ++ (hs.getD p.toNat door0).2.2.2.2.1.map (fun q => (p, q, 0, ())), ()), 0, ()) := rfl
  have key : ∀ {x : EnterD × Int × Unit}, eleave (hs, ws, ()) p = x → x = eleave (hs, ws, ()) p := fun h => h.symm
  refine ⟨fun a => key (by rw [ho, if_pos a] <;> rfl), fun a => ?_⟩
  rw [if_neg a] at ho
  have hok := echeck_iff.1 (Decidable.not_not.1 a)
  have hn : 1 ≤ hs.length ∧ hs.length ≤ 6 := hok.n
  have hw100 : ws.length ≤ 100 := hok.l
  have hcl := hok.clone
  refine ⟨by omega, fun _ => ⟨fun c => key (by rw [ho, if_pos c] <;> rfl), fun c => ?_⟩⟩
  have hp := inF_iff.1 c
  rw [if_neg (nf c)] at ho
  have hpl : p.toNat < hs.length := by omega
  have hd := hok.d hpl
  have hdl : (hs.getD p.toNat door0).2.2.2.2.1.length ≤ 6 := hd.l
  have hI : @LE.le Int Int.instLEInt 0 p ∧ @LT.lt Int Int.instLTInt p (hs.length : Int) := ⟨by omega, by omega⟩
  rw [show hs.getD p.toNat (0, 0, 0, false, [], ()) = hs.getD p.toNat door0 from rfl]
  generalize hD : hs.getD p.toNat door0 = d at *
  obtain ⟨cl, wi, ye, inn, la, ⟨⟩⟩ := d
  simp only at ho hdl ⊢
  refine ⟨hI, fun _ => ⟨fun f => key (by rw [ho, if_pos f] <;> rfl), fun f => ?_⟩⟩
  rw [if_neg (nf f)] at ho
  refine ⟨hI, fun _ => ⟨by omega, fun _ => ⟨fun k => key (by rw [ho, if_pos k] <;> rfl), fun k => ?_⟩⟩⟩
  rw [if_neg k] at ho
  refine ⟨hcl, fun _ => ⟨hI, fun _ => ?_⟩⟩
  have e00 : ws = ws ++ (la.take 0).map (fun q => ((p, q, 0, ()) : WordD)) := by simp
  refine (show Ex.Reach Eeleave Try.f47 _ _ _ (Eeleave_s12 p p (la.length : Int) ((0 : Nat) : Int) hs ws [] [] hs ws) from ?_)
  suffices hs2 : Go.Ex.Reach Eeleave Try.f47 (eleave (hs, ws, ()) p) () (.code (loopAt (bodyOf Try.prog 47) 12).1 :: .inLoop (loopAt (bodyOf Try.prog 47) 12).1 :: (loopAt (bodyOf Try.prog 47) 12).2) (Eeleave_s12 p p (la.length : Int) ((0 : Nat) : Int) hs ws [] [] hs (ws ++ (la.take 0).map (fun q => ((p, q, 0, ()) : WordD)))) by
    rw [← e00] at hs2; exact hs2
  refine Reach.loopI Eeleave_ok Feleave_ok (fun i : Nat => Eeleave_s12 p p (la.length : Int) (i : Int) hs ws [] [] hs (ws ++ (la.take i).map (fun q => ((p, q, 0, ()) : WordD)))) (fun i => i ≤ la.length) (fun i => la.length - i) 1000 (fun _ => ⟨uniq_of rfl, uniq_of rfl⟩) ?_ 0 (by omega)
  rintro i k1 - ih
  have k1 : i ≤ la.length := k1
  refine holds_of_eq (Eeleave_l12 ..) ?_
  rw [show hs.getD p.toNat (0, 0, 0, false, [], ()) = hs.getD p.toNat door0 from rfl, hD]
  simp only [holds_cond, Tree.holds, true_and, true_implies, decide_eq_true_eq, decide_eq_false_iff_not, Bool.not_eq_true', Bool.not_eq_false', Int.toNat_natCast, inK_i64, List.length_set, List.length_cons, List.length_nil, wbwClone]
  refine ⟨fun c => ?_, fun c => ⟨hI, fun _ => ⟨hI, fun _ => key ?_⟩⟩⟩
  · have hi : i < la.length := by omega
    have next := ih (i + 1) (by show i + 1 ≤ la.length; omega) (by omega)
    rw [← take_snoc hi 0, List.map_append, ← List.append_assoc] at next
    have hln : (ws ++ (la.take i).map (fun q => ((p, q, 0, ()) : WordD))).length ≤ 106 := by rw [List.length_append, List.length_map, List.length_take]; omega
    exact ⟨by omega, fun _ => ⟨⟨by omega, by omega⟩, fun _ => ⟨by omega, fun _ => next⟩⟩⟩
  · rw [ho, List.take_of_length_le (by omega)]; rfl
def enew (n : Int) : EnterD × Int × Unit := if inF n 1 6 = false then (e0, 1, ()) else ((List.replicate n.toNat door0, [], ()), 0, ())
def cenew : Ctr := { ps := [.v I64], rs := [EnterO, I64], pre := fun _ => True, fn := fun x => enew x.1, out := fun _ => () }
noncomputable def Eenew : Env := { P := Try.prog, tt := tt, ctr := [(94, cein)], res := [Go.ResultVar.cell 2 85, Go.ResultVar.tmp 3], rs := [Ty.pair (Ty.slc true (Ty.pair (Ty.int IntKind.i64) (Ty.pair (Ty.int IntKind.i64) (Ty.pair (Ty.int IntKind.u8) (Ty.pair Ty.bool (Ty.pair Is Ty.unit)))))) (Ty.pair (Ty.slc true Word) Ty.unit), Ty.int IntKind.i64], ps := [PK.v (Ty.int IntKind.i64)], cuts := [], nt := 11 }
theorem Eenew_ok : EnvOk Eenew := envOk tt_ok ⟨cein_valid, trivial⟩
theorem Fenew_ok : FnOk Eenew Try.f43 := ⟨rfl, rfl⟩
theorem Eenew_t (x0 : Int) : exec Eenew 1000 [.code (bodyOf Try.prog 43)] (initSt cenew.ps ((x0, ()))) =
  .need (True) (cond (!inF x0 (1 : Int) (6 : Int)) (.ret ((([], [], ()), (1 : Int), ()))) (.need ((0 : Int) ≤ x0 ∧ x0 ≤ x0 ∧ x0 ≤ (140737488355328 : Int) ∧ x0 * (↑(Ty.wb (Ty.pair (Ty.int IntKind.i64) (Ty.pair (Ty.int IntKind.i64) (Ty.pair (Ty.int IntKind.u8) (Ty.pair Ty.bool (Ty.pair Is Ty.unit)))))) : Int) ≤ (140737488355328 : Int)) (.ret (((List.replicate (Int.toNat x0) ((0 : Int), (0 : Int), (0 : Int), false, [], ()), [], ()), (0 : Int), ()))))) := by kernel_rfl
theorem cenew_valid : cenew.Valid Try.prog 43 := by
  refine Ctr.valid_of Eenew_ok rfl rfl Try.func43 (c := bodyOf Try.prog 43) rfl rfl Fenew_ok rfl ?_
  rintro ⟨(n : Int), ⟨⟩⟩ - -
  refine exec_sound (n := 1000) Eenew_ok Fenew_ok ?_
  refine holds_of_eq (Eenew_t n) ?_
  simp only [holds_cond, Tree.holds, true_and, true_implies, decide_eq_true_eq, decide_eq_false_iff_not, Bool.not_eq_true', Bool.not_eq_false', Int.toNat_natCast, inK_i64, List.length_set, List.length_cons, List.length_nil, wb_door]
  refine ⟨fun a => ?_, fun a => ?_⟩
  · show ((e0, 1, ()) : EnterD × Int × Unit) = enew n
    rw [enew, if_pos a]
  · have hn := inF_iff.1 a
    refine ⟨⟨by omega, by omega, by omega, by omega⟩, fun _ => ?_⟩
    show ((_, 0, ()) : EnterD × Int × Unit) = enew n
    rw [enew, if_neg (nf a)]
    rfl
def insR : List DoorD → Nat → List Int
  | [], _ => []
  | d :: l, i => if d.2.2.2.1 = true then (i : Int) :: insR l (i + 1) else insR l (i + 1)
def insideR (t : EnterD) : List Int := insR t.1 0
def cinside : Ctr := { ps := [.v Enter], rs := [Is], pre := fun x => List.length (α := DoorD) x.1.1 ≤ 1000, fn := fun x => (insideR x.1, ()), out := fun _ => () }
noncomputable def Einside : Env := { P := Try.prog, tt := tt, ctr := [], res := [Go.ResultVar.tmp 2], rs := [Ty.slc true (Ty.int IntKind.i64)], ps := [PK.v (Ty.pair (Ty.slc false (Ty.pair (Ty.int IntKind.i64) (Ty.pair (Ty.int IntKind.i64) (Ty.pair (Ty.int IntKind.u8) (Ty.pair Ty.bool (Ty.pair (Ty.slc false (Ty.int IntKind.i64)) Ty.unit)))))) (Ty.pair (Ty.slc false Word) Ty.unit))], cuts := [(3, [(3, some Is), (7, none), (8, none), (9, none)])], nt := 22 }
theorem Einside_ok : EnvOk Einside := envOk tt_ok trivial
theorem Finside_ok : FnOk Einside Try.f41 := ⟨rfl, rfl⟩
theorem Einside_t (x0_1 : List (Int × Int × Int × Bool × List Int × Unit)) (x0_2_1 : List (Int × Int × Int × Unit)) : exec Einside 1000 [.code (bodyOf Try.prog 41)] (initSt cinside.ps (((x0_1, x0_2_1, ()), ()))) =
  .cut (loopAt (bodyOf Try.prog 41) 3).1 (loopAt (bodyOf Try.prog 41) 3).2 (St.mk [(3, AV.at_ 1000003 []), (7, AV.val (Ty.slc false (Ty.pair (Ty.int IntKind.i64) (Ty.pair (Ty.int IntKind.i64) (Ty.pair (Ty.int IntKind.u8) (Ty.pair Ty.bool (Ty.pair (Ty.slc false (Ty.int IntKind.i64)) Ty.unit)))))) x0_1), (8, AV.val (Ty.int IntKind.i64) (↑(List.length x0_1) : Int)), (9, AV.val (Ty.int IntKind.i64) (0 : Int))] [(1000003, Ent.own Is [])]) := by kernel_rfl
def Einside_s3 (v7 : List (Int × Int × Int × Bool × List Int × Unit)) (v8 : Int) (v9 : Int) (o1000003 : List Int) : St := St.mk [(3, AV.at_ 1000003 []), (7, AV.val (Ty.slc false (Ty.pair (Ty.int IntKind.i64) (Ty.pair (Ty.int IntKind.i64) (Ty.pair (Ty.int IntKind.u8) (Ty.pair Ty.bool (Ty.pair (Ty.slc false (Ty.int IntKind.i64)) Ty.unit)))))) v7), (8, AV.val (Ty.int IntKind.i64) v8), (9, AV.val (Ty.int IntKind.i64) v9)] [(1000003, Ent.own Is o1000003)]
theorem Einside_l3 (v7 : List (Int × Int × Int × Bool × List Int × Unit)) (v8 : Int) (v9 : Int) (o1000003 : List Int) : exec Einside 1000 (.code (loopAt (bodyOf Try.prog 41) 3).1 :: .inLoop (loopAt (bodyOf Try.prog 41) 3).1 :: (loopAt (bodyOf Try.prog 41) 3).2) (Einside_s3 v7 v8 v9 o1000003) =
  cond (decide (v9 < v8)) (.need ((0 : Int) ≤ v9 ∧ v9 < (↑(List.length v7) : Int)) (cond (Prod.fst (Prod.snd (Prod.snd (Prod.snd (List.getD v7 (Int.toNat v9) ((0 : Int), (0 : Int), (0 : Int), false, [], ())))))) (.need (List.length o1000003 + List.length (List.set [(0 : Int)] (Int.toNat (↑0 : Int)) v9) ≤ 140737488355328 ∧ (List.length o1000003 + List.length (List.set [(0 : Int)] (Int.toNat (↑0 : Int)) v9)) * Ty.wb (Ty.int IntKind.i64) ≤ 140737488355328) (.need (inK IntKind.i64 (v9 + (1 : Int))) (.cut (loopAt (bodyOf Try.prog 41) 3).1 (loopAt (bodyOf Try.prog 41) 3).2 (St.mk [(3, AV.at_ 1000003 []), (7, AV.val (Ty.slc false (Ty.pair (Ty.int IntKind.i64) (Ty.pair (Ty.int IntKind.i64) (Ty.pair (Ty.int IntKind.u8) (Ty.pair Ty.bool (Ty.pair (Ty.slc false (Ty.int IntKind.i64)) Ty.unit)))))) v7), (8, AV.val (Ty.int IntKind.i64) v8), (9, AV.val (Ty.int IntKind.i64) (v9 + (1 : Int)))] [(1000003, Ent.own Is (o1000003 ++ List.set [(0 : Int)] (Int.toNat (↑0 : Int)) v9))])))) (.need (inK IntKind.i64 (v9 + (1 : Int))) (.cut (loopAt (bodyOf Try.prog 41) 3).1 (loopAt (bodyOf Try.prog 41) 3).2 (St.mk [(3, AV.at_ 1000003 []), (7, AV.val (Ty.slc false (Ty.pair (Ty.int IntKind.i64) (Ty.pair (Ty.int IntKind.i64) (Ty.pair (Ty.int IntKind.u8) (Ty.pair Ty.bool (Ty.pair (Ty.slc false (Ty.int IntKind.i64)) Ty.unit)))))) v7), (8, AV.val (Ty.int IntKind.i64) v8), (9, AV.val (Ty.int IntKind.i64) (v9 + (1 : Int)))] [(1000003, Ent.own Is o1000003)]))))) (.ret ((o1000003, ()))) := by kernel_rfl
theorem insR_snoc : ∀ {l : List DoorD} {d : DoorD} {i : Nat}, insR (l ++ [d]) i = insR l i ++ (if d.2.2.2.1 = true then [((i + l.length : Nat) : Int)] else [])
  | [], d, i => by simp [insR]
  | x :: l, d, i => by
    simp only [List.cons_append, insR, insR_snoc (l := l), List.length_cons]
    rw [show i + 1 + l.length = i + (l.length + 1) by omega]
    split <;> simp
theorem insR_len : ∀ {l : List DoorD} {i : Nat}, (insR l i).length ≤ l.length
  | [], _ => by simp [insR]
  | x :: l, i => by
    have := insR_len (l := l) (i := i + 1)
    rw [insR]; split <;> simp <;> omega
theorem cinside_valid : cinside.Valid Try.prog 41 := by
  refine Ctr.valid_of Einside_ok rfl rfl Try.func41 (c := bodyOf Try.prog 41) rfl rfl Finside_ok rfl ?_
  rintro ⟨⟨(hs : List DoorD), (ws : List WordD), ⟨⟩⟩, ⟨⟩⟩ hp -
  have hp : hs.length ≤ 1000 := hp
  refine exec_sound (n := 1000) Einside_ok Finside_ok ?_
  refine holds_of_eq (Einside_t hs ws) ?_
  refine Reach.loopI Einside_ok Finside_ok (fun i : Nat => Einside_s3 hs (hs.length : Int) (i : Int) (insR (hs.take i) 0)) (fun i => i ≤ hs.length) (fun i => hs.length - i) 1000 (fun _ => ⟨uniq_of rfl, uniq_of rfl⟩) ?_ 0 (by omega)
  rintro i k1 - ih
  have k1 : i ≤ hs.length := k1
  refine holds_of_eq (Einside_l3 ..) ?_
  have hil := insR_len (l := hs.take i) (i := 0)
  rw [List.length_take] at hil
  simp only [holds_cond, Tree.holds, true_and, true_implies, decide_eq_true_eq, decide_eq_false_iff_not, Bool.not_eq_true', Bool.not_eq_false', Int.toNat_natCast, inK_i64, List.length_set, List.length_cons, List.length_nil, wb_i64]
  refine ⟨fun c => ⟨by omega, fun _ => ?_⟩, fun c => ?_⟩
  · have hi : i < hs.length := by omega
    have next := ih (i + 1) (by show i + 1 ≤ hs.length; omega) (by omega)
    rw [← take_snoc hi door0, insR_snoc, List.length_take, Nat.min_eq_left k1, Nat.zero_add] at next
    rw [show hs.getD i (0, 0, 0, false, [], ()) = hs.getD i door0 from rfl]
    refine ⟨fun d => ⟨⟨by omega, by omega⟩, fun _ => ⟨by omega, fun _ => ?_⟩⟩, fun d => ⟨by omega, fun _ => ?_⟩⟩
    · rw [if_pos d] at next; exact next
    · rw [if_neg (by rw [d]; simp), List.append_nil] at next; exact next
  · show ((insR (hs.take i) 0, ()) : List Int × Unit) = (insideR (hs, ws, ()), ())
    rw [List.take_of_length_le (by omega)]; rfl
end Go.Proofs.Ytbcdpeogfghgcaa
