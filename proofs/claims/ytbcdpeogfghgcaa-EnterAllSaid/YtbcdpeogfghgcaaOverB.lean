/- More contracts of the package over's functions, and of a run of them. -/
import Derived.Test.YtbcdpeogfghgcaaOver
namespace Go.Proofs.Ytbcdpeogfghgcaa
open Go.Ex
set_option maxRecDepth 100000
def give1 (t : OverD) (p q : Int) : OverD := (t.1.set p.toNat ((hAt t p).1, (hAt t p).2.1, (hAt t p).2.2.1 + 1, (hAt t p).2.2.2), t.2.1 ++ [(p, q, 1, ())], ())
def ogive (t : OverD) (p q : Int) : OverD × Int × Unit :=
  if ocheck t ≠ 0 then (o0, ocheck t, ()) else if inF p 0 (t.1.length - 1) = false ∨ inF q 0 (t.1.length - 1) = false ∨ p = q then (o0, 1, ()) else
  if (hAt t p).1 = false then (o0, 11, ()) else if (hAt t p).2.2.1 = 16777215 ∨ (t.2.1.length : Int) = 100 then (o0, 8, ()) else (give1 t p q, 0, ())
def cogive : Ctr := { ps := [.v Over, .v I64, .v I64], rs := [OverO, I64], pre := fun _ => True, fn := fun x => ogive x.1 x.2.1 x.2.2.1, out := fun _ => () }
noncomputable def Eogive : Env := { P := Try.prog, tt := tt, ctr := [(109, coin), (58, cocheck), (110, coclone)], res := [Go.ResultVar.cell 6 100, Go.ResultVar.tmp 7], rs := [Ty.pair (Ty.slc true Hand) (Ty.pair (Ty.slc true Word) Ty.unit), Ty.int IntKind.i64], ps := [PK.v (Ty.pair (Ty.slc false Hand) (Ty.pair (Ty.slc false Word) Ty.unit)), PK.v (Ty.int IntKind.i64), PK.v (Ty.int IntKind.i64)], cuts := [], nt := 83 }
theorem Eogive_ok : EnvOk Eogive := envOk tt_ok ⟨coin_valid, cocheck_valid, coclone_valid, trivial⟩
theorem Fogive_ok : FnOk Eogive Try.f100 := ⟨rfl, rfl⟩
theorem Eogive_t (x0_1 : List (Bool × Int × Int × Unit)) (x0_2_1 : List (Int × Int × Int × Unit)) (x1 : Int) (x2 : Int) : exec Eogive 1000 [.code (bodyOf Try.prog 100)] (initSt cogive.ps (((x0_1, x0_2_1, ()), x1, x2, ()))) =
  .need (True) (cond (decide (ocheck (x0_1, x0_2_1, ()) ≠ (0 : Int))) (.ret ((([], [], ()), ocheck (x0_1, x0_2_1, ()), ()))) (.need (inK IntKind.i64 ((↑(List.length x0_1) : Int) - (1 : Int))) (.need (True) (cond (!inF x1 (0 : Int) ((↑(List.length x0_1) : Int) - (1 : Int))) (.ret ((([], [], ()), (1 : Int), ()))) (.need (inK IntKind.i64 ((↑(List.length x0_1) : Int) - (1 : Int))) (.need (True) (cond (!inF x2 (0 : Int) ((↑(List.length x0_1) : Int) - (1 : Int))) (.ret ((([], [], ()), (1 : Int), ()))) (cond (decide (x1 = x2)) (.ret ((([], [], ()), (1 : Int), ()))) (.need ((0 : Int) ≤ x1 ∧ x1 < (↑(List.length x0_1) : Int)) (cond (!Prod.fst (List.getD x0_1 (Int.toNat x1) (false, (0 : Int), (0 : Int), ()))) (.ret ((([], [], ()), (11 : Int), ()))) (.need ((0 : Int) ≤ x1 ∧ x1 < (↑(List.length x0_1) : Int)) (cond (decide (Prod.fst (Prod.snd (Prod.snd (List.getD x0_1 (Int.toNat x1) (false, (0 : Int), (0 : Int), ())))) = (16777215 : Int))) (.ret ((([], [], ()), (8 : Int), ()))) (cond (decide ((↑(List.length x0_2_1) : Int) = (100 : Int))) (.ret ((([], [], ()), (8 : Int), ()))) (.need (List.length x0_1 ≤ 1048576 ∧ List.length x0_2_1 ≤ 1048576) (.need ((0 : Int) ≤ x1 ∧ x1 < (↑(List.length x0_1) : Int)) (.need (inK IntKind.i64 (Prod.fst (Prod.snd (Prod.snd (List.getD x0_1 (Int.toNat x1) (false, (0 : Int), (0 : Int), ())))) + (1 : Int))) (.need ((0 : Int) ≤ x1 ∧ x1 < (↑(List.length x0_1) : Int)) (.need (True ∧ [] ++ [Step.fld 1] = [] ++ [Step.fld 1] ∧ List.length x0_2_1 + List.length (List.set [((0 : Int), (0 : Int), (0 : Int), ())] (Int.toNat (↑0 : Int)) (x1, x2, (1 : Int), ())) ≤ 140737488355328 ∧ (List.length x0_2_1 + List.length (List.set [((0 : Int), (0 : Int), (0 : Int), ())] (Int.toNat (↑0 : Int)) (x1, x2, (1 : Int), ()))) * Ty.wb Word ≤ 140737488355328) (.ret (((List.set x0_1 (Int.toNat x1) (Prod.fst (List.getD x0_1 (Int.toNat x1) (false, (0 : Int), (0 : Int), ())), Prod.fst (Prod.snd (List.getD x0_1 (Int.toNat x1) (false, (0 : Int), (0 : Int), ()))), Prod.fst (Prod.snd (Prod.snd (List.getD x0_1 (Int.toNat x1) (false, (0 : Int), (0 : Int), ())))) + (1 : Int), Prod.snd (Prod.snd (Prod.snd (List.getD x0_1 (Int.toNat x1) (false, (0 : Int), (0 : Int), ()))))), x0_2_1 ++ List.set [((0 : Int), (0 : Int), (0 : Int), ())] (Int.toNat (↑0 : Int)) (x1, x2, (1 : Int), ()), ()), (0 : Int), ()))))))))))))))))))))) := by kernel_rfl
theorem cogive_valid : cogive.Valid Try.prog 100 := by
  refine Ctr.valid_of Eogive_ok rfl rfl Try.func100 (c := bodyOf Try.prog 100) rfl rfl Fogive_ok rfl ?_
  rintro ⟨⟨(hs : List HandD), (ws : List WordD), ⟨⟩⟩, (p : Int), (q : Int), ⟨⟩⟩ - ⟨⟨⟨hl1, -⟩, ⟨hl2, -⟩, -⟩, -⟩
  have hl1 : hs.length ≤ 9223372036854775807 := hl1
  have hl2 : ws.length ≤ 9223372036854775807 := hl2
  refine exec_sound (n := 1000) Eogive_ok Fogive_ok ?_
  refine holds_of_eq (Eogive_t hs ws p q) ?_
  simp only [holds_cond, Tree.holds, true_and, true_implies, decide_eq_true_eq, decide_eq_false_iff_not, Bool.not_eq_true', Bool.not_eq_false', Int.toNat_natCast, inK_i64, List.length_set, List.length_cons, List.length_nil, wbwClone]
  have ho : ogive (hs, ws, ()) p q = if ocheck (hs, ws, ()) ≠ 0 then (o0, ocheck (hs, ws, ()), ()) else if inF p 0 (hs.length - 1) = false ∨ inF q 0 (hs.length - 1) = false ∨ p = q then (o0, 1, ()) else
    if (hs.getD p.toNat (false, 0, 0, ())).1 = false then (o0, 11, ()) else if (hs.getD p.toNat (false, 0, 0, ())).2.2.1 = 16777215 ∨ (ws.length : Int) = 100 then (o0, 8, ()) else
    ((hs.set p.toNat ((hs.getD p.toNat (false, 0, 0, ())).1, (hs.getD p.toNat (false, 0, 0, ())).2.1, (hs.getD p.toNat (false, 0, 0, ())).2.2.1 + 1, (hs.getD p.toNat (false, 0, 0, ())).2.2.2), ws ++ [(p, q, 1, ())], ()), 0, ()) := rfl
  have key : ∀ {x : OverD × Int × Unit}, ogive (hs, ws, ()) p q = x → x = ogive (hs, ws, ()) p q := fun h => h.symm
  refine ⟨fun a => key (by rw [ho, if_pos a] <;> rfl), fun a => ?_⟩
  rw [if_neg a] at ho
  have hok := ocheck_iff.1 (Decidable.not_not.1 a)
  have hn : hs.length ≤ 6 := hok.n.2
  have hw100 : ws.length ≤ 100 := hok.l
  refine ⟨by omega, fun _ => ⟨fun c => key (by rw [ho, if_pos (.inl c)] <;> rfl), fun c => ⟨by omega, fun _ => ⟨fun d => key (by rw [ho, if_pos (.inr (.inl d))] <;> rfl), fun d => ⟨fun e => key (by rw [ho, if_pos (.inr (.inr e))] <;> rfl), fun e => ?_⟩⟩⟩⟩⟩
  have hp := inF_iff.1 c
  have hh := hok.h p.toNat (show p.toNat < hs.length by omega)
  have hh : (-1 ≤ (hs.getD p.toNat (false, 0, 0, ())).2.1 ∧ _) ∧ (0 ≤ (hs.getD p.toNat (false, 0, 0, ())).2.2.1 ∧ (hs.getD p.toNat (false, 0, 0, ())).2.2.1 ≤ 16777215) ∧ _ := hh
  rw [if_neg (by rintro (h | h | h) <;> simp_all)] at ho
  generalize hs.getD p.toNat (false, 0, 0, ()) = h at *
  obtain ⟨b, s, o, ⟨⟩⟩ := h
  have hh := hh.2.1
  simp only at hh ho ⊢
  refine ⟨by omega, fun _ => ⟨fun f => key (by rw [ho, if_pos f] <;> rfl), fun f => ⟨by omega, fun _ => ⟨fun g => key (by rw [ho, if_neg (by simp [f] <;> rfl), if_pos (.inl g)]; rfl), fun g => ⟨fun k => key (by rw [ho, if_neg (by simp [f] <;> rfl), if_pos (.inr k)]; rfl), fun k => ?_⟩⟩⟩⟩⟩
  refine ⟨by omega, fun _ => ⟨by omega, fun _ => ⟨by omega, fun _ => ⟨by omega, fun _ => ⟨⟨by omega, by omega⟩, fun _ => key ?_⟩⟩⟩⟩⟩
  rw [ho, if_neg (by simp [f]), if_neg (by omega)]
  rfl
def rest1 (t : OverD) (p : Int) : OverD := odet (t.1.set p.toNat (false, (hAt t p).2), t.2.1, ()) p
def orest (t : OverD) (p : Int) : OverD × Int × Unit :=
  if ocheck t ≠ 0 then (o0, ocheck t, ()) else if inF p 0 (t.1.length - 1) = false then (o0, 1, ()) else
  if (hAt t p).1 = false then (o0, 11, ()) else if (t.2.1.length : Int) = 100 then (o0, 8, ()) else (rest1 t p, 0, ())
def corest : Ctr := { ps := [.v Over, .v I64], rs := [OverO, I64], pre := fun _ => True, fn := fun x => orest x.1 x.2.1, out := fun _ => () }
noncomputable def Eorest : Env := { P := Try.prog, tt := tt, ctr := [(109, coin), (58, cocheck), (110, coclone), (111, codet)], res := [Go.ResultVar.cell 4 100, Go.ResultVar.tmp 5], rs := [Ty.pair (Ty.slc true Hand) (Ty.pair (Ty.slc true Word) Ty.unit), Ty.int IntKind.i64], ps := [PK.v (Ty.pair (Ty.slc false Hand) (Ty.pair (Ty.slc false Word) Ty.unit)), PK.v (Ty.int IntKind.i64)], cuts := [], nt := 48 }
theorem Eorest_ok : EnvOk Eorest := envOk tt_ok ⟨coin_valid, cocheck_valid, coclone_valid, codet_valid, trivial⟩
theorem Forest_ok : FnOk Eorest Try.f57 := ⟨rfl, rfl⟩
theorem Eorest_t (x0_1 : List (Bool × Int × Int × Unit)) (x0_2_1 : List (Int × Int × Int × Unit)) (x1 : Int) : exec Eorest 1000 [.code (bodyOf Try.prog 57)] (initSt corest.ps (((x0_1, x0_2_1, ()), x1, ()))) =
  .need (True) (cond (decide (ocheck (x0_1, x0_2_1, ()) ≠ (0 : Int))) (.ret ((([], [], ()), ocheck (x0_1, x0_2_1, ()), ()))) (.need (inK IntKind.i64 ((↑(List.length x0_1) : Int) - (1 : Int))) (.need (True) (cond (!inF x1 (0 : Int) ((↑(List.length x0_1) : Int) - (1 : Int))) (.ret ((([], [], ()), (1 : Int), ()))) (.need ((0 : Int) ≤ x1 ∧ x1 < (↑(List.length x0_1) : Int)) (cond (!Prod.fst (List.getD x0_1 (Int.toNat x1) (false, (0 : Int), (0 : Int), ()))) (.ret ((([], [], ()), (11 : Int), ()))) (cond (decide ((↑(List.length x0_2_1) : Int) = (100 : Int))) (.ret ((([], [], ()), (8 : Int), ()))) (.need (List.length x0_1 ≤ 1048576 ∧ List.length x0_2_1 ≤ 1048576) (.need ((0 : Int) ≤ x1 ∧ x1 < (↑(List.length x0_1) : Int)) (.need ((0 : Int) ≤ x1 ∧ x1 < (↑(List.length (List.set x0_1 (Int.toNat x1) (false, Prod.snd (List.getD x0_1 (Int.toNat x1) (false, (0 : Int), (0 : Int), ()))))) : Int) ∧ List.length x0_2_1 ≤ 1048576) (.ret ((odet (List.set x0_1 (Int.toNat x1) (false, Prod.snd (List.getD x0_1 (Int.toNat x1) (false, (0 : Int), (0 : Int), ()))), x0_2_1, ()) x1, (0 : Int), ()))))))))))))) := by kernel_rfl
theorem corest_valid : corest.Valid Try.prog 57 := by
  refine Ctr.valid_of Eorest_ok rfl rfl Try.func57 (c := bodyOf Try.prog 57) rfl rfl Forest_ok rfl ?_
  rintro ⟨⟨(hs : List HandD), (ws : List WordD), ⟨⟩⟩, (p : Int), ⟨⟩⟩ - ⟨⟨⟨hl1, -⟩, ⟨hl2, -⟩, -⟩, -⟩
  have hl1 : hs.length ≤ 9223372036854775807 := hl1
  have hl2 : ws.length ≤ 9223372036854775807 := hl2
  refine exec_sound (n := 1000) Eorest_ok Forest_ok ?_
  refine holds_of_eq (Eorest_t hs ws p) ?_
  simp only [holds_cond, Tree.holds, true_and, true_implies, decide_eq_true_eq, decide_eq_false_iff_not, Bool.not_eq_true', Bool.not_eq_false', Int.toNat_natCast, inK_i64, List.length_set, List.length_cons, List.length_nil, wbwClone]
  have ho : orest (hs, ws, ()) p = if ocheck (hs, ws, ()) ≠ 0 then (o0, ocheck (hs, ws, ()), ()) else if inF p 0 (hs.length - 1) = false then (o0, 1, ()) else
    if (hs.getD p.toNat (false, 0, 0, ())).1 = false then (o0, 11, ()) else if (ws.length : Int) = 100 then (o0, 8, ()) else
    (odet (hs.set p.toNat (false, (hs.getD p.toNat (false, 0, 0, ())).2), ws, ()) p, 0, ()) := rfl
  have key : ∀ {x : OverD × Int × Unit}, orest (hs, ws, ()) p = x → x = orest (hs, ws, ()) p := fun h => h.symm
  refine ⟨fun a => key (by rw [ho, if_pos a] <;> rfl), fun a => ?_⟩
  rw [if_neg a] at ho
  have hok := ocheck_iff.1 (Decidable.not_not.1 a)
  have hn : hs.length ≤ 6 := hok.n.2
  have hw100 : ws.length ≤ 100 := hok.l
  refine ⟨by omega, fun _ => ⟨fun c => key (by rw [ho, if_pos c] <;> rfl), fun c => ?_⟩⟩
  have hp := inF_iff.1 c
  rw [if_neg (by simp [c])] at ho
  generalize hs.getD p.toNat (false, 0, 0, ()) = h at *
  obtain ⟨b, s, o, ⟨⟩⟩ := h
  simp only at ho ⊢
  refine ⟨by omega, fun _ => ⟨fun f => key (by rw [ho, if_pos f] <;> rfl), fun f => ⟨fun k => key (by rw [ho, if_neg (by simp [f] <;> rfl), if_pos k]; rfl), fun k => ?_⟩⟩⟩
  refine ⟨by omega, fun _ => ⟨by omega, fun _ => ⟨by omega, fun _ => key ?_⟩⟩⟩
  rw [ho, if_neg (by simp [f]), if_neg k] <;> rfl
def odone (t : OverD) : Bool × Int × Unit := if ocheck t ≠ 0 then (false, ocheck t, ()) else (!(hAt t 0).1 && decide ((hAt t 0).2.2.1 = 0), 0, ())
def codone : Ctr := { ps := [.v Over], rs := [.bool, I64], pre := fun _ => True, fn := fun x => odone x.1, out := fun _ => () }
noncomputable def Eodone : Env := { P := Try.prog, tt := tt, ctr := [(58, cocheck)], res := [Go.ResultVar.tmp 2, Go.ResultVar.tmp 3], rs := [Ty.bool, Ty.int IntKind.i64], ps := [PK.v (Ty.pair (Ty.slc false Hand) (Ty.pair (Ty.slc false Word) Ty.unit))], cuts := [], nt := 24 }
theorem Eodone_ok : EnvOk Eodone := envOk tt_ok ⟨cocheck_valid, trivial⟩
theorem Fodone_ok : FnOk Eodone Try.f53 := ⟨rfl, rfl⟩
theorem Eodone_t (x0_1 : List (Bool × Int × Int × Unit)) (x0_2_1 : List (Int × Int × Int × Unit)) : exec Eodone 1000 [.code (bodyOf Try.prog 53)] (initSt codone.ps (((x0_1, x0_2_1, ()), ()))) =
  .need (True) (cond (decide (ocheck (x0_1, x0_2_1, ()) ≠ (0 : Int))) (.ret ((false, ocheck (x0_1, x0_2_1, ()), ()))) (.need ((0 : Int) ≤ (0 : Int) ∧ (0 : Int) < (↑(List.length x0_1) : Int)) (cond (!Prod.fst (List.getD x0_1 (Int.toNat (0 : Int)) (false, (0 : Int), (0 : Int), ()))) (.need ((0 : Int) ≤ (0 : Int) ∧ (0 : Int) < (↑(List.length x0_1) : Int)) (.ret ((decide (Prod.fst (Prod.snd (Prod.snd (List.getD x0_1 (Int.toNat (0 : Int)) (false, (0 : Int), (0 : Int), ())))) = (0 : Int)), (0 : Int), ())))) (.ret ((false, (0 : Int), ())))))) := by kernel_rfl
theorem codone_valid : codone.Valid Try.prog 53 := by
  refine Ctr.valid_of Eodone_ok rfl rfl Try.func53 (c := bodyOf Try.prog 53) rfl rfl Fodone_ok rfl ?_
  rintro ⟨⟨(hs : List HandD), (ws : List WordD), ⟨⟩⟩, ⟨⟩⟩ - -
  refine exec_sound (n := 1000) Eodone_ok Fodone_ok ?_
  refine holds_of_eq (Eodone_t hs ws) ?_
  simp only [holds_cond, Tree.holds, true_and, true_implies, decide_eq_true_eq, decide_eq_false_iff_not, Bool.not_eq_true', Bool.not_eq_false', Int.toNat_natCast, inK_i64, List.length_set, List.length_cons, List.length_nil, Int.toNat_zero]
  have ho : odone (hs, ws, ()) = if ocheck (hs, ws, ()) ≠ 0 then (false, ocheck (hs, ws, ()), ()) else (!(hs.getD 0 (false, 0, 0, ())).1 && decide ((hs.getD 0 (false, 0, 0, ())).2.2.1 = 0), 0, ()) := rfl
  have key : ∀ {x : Bool × Int × Unit}, odone (hs, ws, ()) = x → x = odone (hs, ws, ()) := fun h => h.symm
  refine ⟨fun a => key (by rw [ho, if_pos a] <;> rfl), fun a => ?_⟩
  rw [if_neg a] at ho
  have hok := ocheck_iff.1 (Decidable.not_not.1 a)
  have hn : 1 ≤ hs.length := hok.n.1
  refine ⟨by omega, fun _ => ⟨fun c => ⟨by omega, fun _ => key ?_⟩, fun c => key ?_⟩⟩
  · rw [ho, c] <;> rfl
  · rw [ho, c] <;> rfl
theorem u64_id {x : Int} (h0 : 0 ≤ x) (h1 : x ≤ 18446744073709551615) : IntKind.wrap .u64 x = x := by
  simp only [IntKind.wrap, IntKind.bits, IntKind.signed]
  simp
  omega
def cmul64 : Ctr := { ps := [.v (.int .u64), .v (.int .u64)], rs := [.int .u64, .int .u64], pre := fun x => (LE.le (α := Int) 0 x.1 ∧ LE.le (α := Int) x.1 65535) ∧ LE.le (α := Int) 0 x.2.1 ∧ LE.le (α := Int) x.2.1 65535, fn := fun x => ((0 : Int), HMul.hMul (α := Int) (β := Int) x.1 x.2.1, ()), out := fun _ => () }
noncomputable def Emul64 : Env := { P := Try.prog, tt := tt, ctr := [], res := [Go.ResultVar.tmp 4, Go.ResultVar.tmp 5], rs := [Ty.int IntKind.u64, Ty.int IntKind.u64], ps := [PK.v (Ty.int IntKind.u64), PK.v (Ty.int IntKind.u64)], cuts := [], nt := 51 }
theorem Emul64_ok : EnvOk Emul64 := envOk tt_ok trivial
theorem Fmul64_ok : FnOk Emul64 Try.f145 := ⟨rfl, rfl⟩
theorem Emul64_t (x0 : Int) (x1 : Int) : exec Emul64 1000 [.code (bodyOf Try.prog 145)] (initSt cmul64.ps ((x0, x1, ()))) =
  .need ((0 : Int) ≤ (32 : Int)) (.need ((0 : Int) ≤ (32 : Int)) (.need ((0 : Int) ≤ (32 : Int)) (.need ((0 : Int) ≤ (32 : Int)) (.need ((0 : Int) ≤ (32 : Int)) (.ret ((IntKind.wrap IntKind.u64 (IntKind.wrap IntKind.u64 (IntKind.wrap IntKind.u64 (x0 / (2 : Int) ^ min (Int.toNat (32 : Int)) (IntKind.bits IntKind.u64) * (x1 / (2 : Int) ^ min (Int.toNat (32 : Int)) (IntKind.bits IntKind.u64))) + IntKind.wrap IntKind.u64 (IntKind.wrap IntKind.u64 (x0 / (2 : Int) ^ min (Int.toNat (32 : Int)) (IntKind.bits IntKind.u64) * bAnd IntKind.u64 x1 (4294967295 : Int)) + IntKind.wrap IntKind.u64 (bAnd IntKind.u64 x0 (4294967295 : Int) * bAnd IntKind.u64 x1 (4294967295 : Int)) / (2 : Int) ^ min (Int.toNat (32 : Int)) (IntKind.bits IntKind.u64)) / (2 : Int) ^ min (Int.toNat (32 : Int)) (IntKind.bits IntKind.u64)) + IntKind.wrap IntKind.u64 (bAnd IntKind.u64 (IntKind.wrap IntKind.u64 (IntKind.wrap IntKind.u64 (x0 / (2 : Int) ^ min (Int.toNat (32 : Int)) (IntKind.bits IntKind.u64) * bAnd IntKind.u64 x1 (4294967295 : Int)) + IntKind.wrap IntKind.u64 (bAnd IntKind.u64 x0 (4294967295 : Int) * bAnd IntKind.u64 x1 (4294967295 : Int)) / (2 : Int) ^ min (Int.toNat (32 : Int)) (IntKind.bits IntKind.u64))) (4294967295 : Int) + IntKind.wrap IntKind.u64 (bAnd IntKind.u64 x0 (4294967295 : Int) * (x1 / (2 : Int) ^ min (Int.toNat (32 : Int)) (IntKind.bits IntKind.u64)))) / (2 : Int) ^ min (Int.toNat (32 : Int)) (IntKind.bits IntKind.u64)), IntKind.wrap IntKind.u64 (x0 * x1), ()))))))) := by kernel_rfl
theorem and32 {x : Int} (h0 : 0 ≤ x) (h1 : x ≤ 65535) : bAnd .u64 x 4294967295 = x := by
  obtain ⟨n, rfl⟩ : ∃ n : Nat, x = n := ⟨x.toNat, by omega⟩
  have hn : n < 65536 := by omega
  have e : (BitVec.ofInt 64 (n : Int) &&& BitVec.ofInt 64 4294967295).toNat = n := by
    rw [BitVec.toNat_and, BitVec.ofInt_natCast, show BitVec.ofInt 64 4294967295 = BitVec.ofNat 64 4294967295 from rfl, BitVec.toNat_ofNat, BitVec.toNat_ofNat, Nat.mod_eq_of_lt (by omega), Nat.mod_eq_of_lt (by omega), show 4294967295 = 2 ^ 32 - 1 from rfl, Nat.and_two_pow_sub_one_eq_mod, Nat.mod_eq_of_lt (by omega)]
  show IntKind.wrap .u64 ((BitVec.ofInt 64 (n : Int) &&& BitVec.ofInt 64 4294967295).toNat : Int) = n
  rw [e]
  exact u64_id (by omega) (by omega)
theorem cmul64_valid : cmul64.Valid Try.prog 145 := by
  refine Ctr.valid_of Emul64_ok rfl rfl Try.func145 (c := bodyOf Try.prog 145) rfl rfl Fmul64_ok rfl ?_
  rintro ⟨(x : Int), (y : Int), ⟨⟩⟩ ⟨⟨(h0 : 0 ≤ x), (h1 : x ≤ 65535)⟩, (h2 : 0 ≤ y), (h3 : y ≤ 65535)⟩ -
  have hm : 0 ≤ x * y := Int.mul_nonneg h0 h2
  have hm2 : x * y ≤ 4294836225 := Int.le_trans (Int.mul_le_mul h1 h3 h2 (by omega)) (by decide)
  have hxs : x / 2 ^ (min (Int.toNat 32) (IntKind.u64).bits) = 0 := Int.ediv_eq_zero_of_lt h0 (by show x < 2 ^ 32; omega)
  have hys : y / 2 ^ (min (Int.toNat 32) (IntKind.u64).bits) = 0 := Int.ediv_eq_zero_of_lt h2 (by show y < 2 ^ 32; omega)
  have hw : IntKind.wrap .u64 (x * y) = x * y := u64_id hm (by omega)
  have hws : (x * y) / 2 ^ (min (Int.toNat 32) (IntKind.u64).bits) = 0 := Int.ediv_eq_zero_of_lt hm (by show x * y < 2 ^ 32; omega)
  refine exec_sound (n := 1000) Emul64_ok Fmul64_ok ?_
  refine holds_of_eq (Emul64_t x y) ?_
  simp only [Tree.holds]
  refine ⟨by decide, fun _ => ⟨by decide, fun _ => ⟨by decide, fun _ => ⟨by decide, fun _ => ⟨by decide, fun _ => ?_⟩⟩⟩⟩⟩
  rw [and32 h0 h1, and32 h2 h3, hxs, hys, hw, hws]
  simp only [Int.zero_mul, Int.mul_zero]
  rfl
def cmul : Ctr := { ps := [.v (.int .u64), .v (.int .u64)], rs := [.int .u64, .int .u64], pre := fun x => (LE.le (α := Int) 0 x.1 ∧ LE.le (α := Int) x.1 65535) ∧ LE.le (α := Int) 0 x.2.1 ∧ LE.le (α := Int) x.2.1 65535, fn := fun x => ((0 : Int), HMul.hMul (α := Int) (β := Int) x.1 x.2.1, ()), out := fun _ => () }
noncomputable def Emul : Env := { P := Try.prog, tt := tt, ctr := [(145, cmul64)], res := [Go.ResultVar.tmp 4, Go.ResultVar.tmp 5], rs := [Ty.int IntKind.u64, Ty.int IntKind.u64], ps := [PK.v (Ty.int IntKind.u64), PK.v (Ty.int IntKind.u64)], cuts := [], nt := 30 }
theorem Emul_ok : EnvOk Emul := envOk tt_ok ⟨cmul64_valid, trivial⟩
theorem Fmul_ok : FnOk Emul Try.f139 := ⟨rfl, rfl⟩
theorem Emul_t (x0 : Int) (x1 : Int) : exec Emul 1000 [.code (bodyOf Try.prog 139)] (initSt cmul.ps ((x0, x1, ()))) =
  .need (((0 : Int) ≤ x0 ∧ x0 ≤ (65535 : Int)) ∧ (0 : Int) ≤ x1 ∧ x1 ≤ (65535 : Int)) (.ret (((0 : Int), x0 * x1, ()))) := by kernel_rfl
theorem cmul_valid : cmul.Valid Try.prog 139 := by
  refine Ctr.valid_of Emul_ok rfl rfl Try.func139 (c := bodyOf Try.prog 139) rfl rfl Fmul_ok rfl ?_
  rintro ⟨(x : Int), (y : Int), ⟨⟩⟩ hp -
  refine exec_sound (n := 1000) Emul_ok Fmul_ok ?_
  refine holds_of_eq (Emul_t x y) ?_
  exact ⟨hp, fun _ => rfl⟩
def crep : Ctr := { ps := [.v (.slc false Hand), .v I64], rs := [.slc true Hand], pre := fun x => List.length (α := HandD) x.1 = 1 ∧ LE.le (α := Int) 0 x.2.1 ∧ LE.le (α := Int) x.2.1 1000, fn := fun x => (List.replicate (Int.toNat x.2.1) (List.getD (α := HandD) x.1 0 hand0), ()), out := fun _ => () }
noncomputable def Erep : Env := { P := Try.prog, tt := tt, ctr := [(139, cmul)], res := [Go.ResultVar.tmp 4], rs := [Ty.slc true Hand], ps := [PK.v (Ty.slc false Hand), PK.v (Ty.int IntKind.i64)], cuts := [(8, [(7, some (Ty.slc true Hand)), (8, none)])], nt := 48 }
theorem Erep_ok : EnvOk Erep := envOk tt_ok ⟨cmul_valid, trivial⟩
theorem Frep_ok : FnOk Erep Try.f127 := ⟨rfl, rfl⟩
theorem Erep_t (x0 : List (Bool × Int × Int × Unit)) (x1 : Int) : exec Erep 1000 [.code (bodyOf Try.prog 127)] (initSt crep.ps ((x0, x1, ()))) =
  cond (decide (x1 < (0 : Int))) (.stuck "op") (.need (((0 : Int) ≤ IntKind.wrap IntKind.u64 (↑(List.length x0) : Int) ∧ IntKind.wrap IntKind.u64 (↑(List.length x0) : Int) ≤ (65535 : Int)) ∧ (0 : Int) ≤ IntKind.wrap IntKind.u64 x1 ∧ IntKind.wrap IntKind.u64 x1 ≤ (65535 : Int)) (cond (decide ((9223372036854775807 : Int) < IntKind.wrap IntKind.u64 (↑(List.length x0) : Int) * IntKind.wrap IntKind.u64 x1)) (.stuck "op") (.need ((0 : Int) ≤ IntKind.wrap IntKind.i64 (IntKind.wrap IntKind.u64 (↑(List.length x0) : Int) * IntKind.wrap IntKind.u64 x1) ∧ IntKind.wrap IntKind.i64 (IntKind.wrap IntKind.u64 (↑(List.length x0) : Int) * IntKind.wrap IntKind.u64 x1) ≤ IntKind.wrap IntKind.i64 (IntKind.wrap IntKind.u64 (↑(List.length x0) : Int) * IntKind.wrap IntKind.u64 x1) ∧ IntKind.wrap IntKind.i64 (IntKind.wrap IntKind.u64 (↑(List.length x0) : Int) * IntKind.wrap IntKind.u64 x1) ≤ (140737488355328 : Int) ∧ IntKind.wrap IntKind.i64 (IntKind.wrap IntKind.u64 (↑(List.length x0) : Int) * IntKind.wrap IntKind.u64 x1) * (↑(Ty.wb Hand) : Int) ≤ (140737488355328 : Int)) (.cut (loopAt (bodyOf Try.prog 127) 8).1 (loopAt (bodyOf Try.prog 127) 8).2 (St.mk [(7, AV.at_ 1000007 []), (8, AV.val (Ty.int IntKind.i64) (↑(List.length (List.take (Int.toNat ((↑(List.length (List.replicate (Int.toNat (IntKind.wrap IntKind.i64 (IntKind.wrap IntKind.u64 (↑(List.length x0) : Int) * IntKind.wrap IntKind.u64 x1))) (false, (0 : Int), (0 : Int), ()))) : Int) - (0 : Int))) x0)) : Int))] [(1000007, Ent.own (Ty.slc true Hand) (List.take (Int.toNat (0 : Int)) (List.replicate (Int.toNat (IntKind.wrap IntKind.i64 (IntKind.wrap IntKind.u64 (↑(List.length x0) : Int) * IntKind.wrap IntKind.u64 x1))) (false, (0 : Int), (0 : Int), ())) ++ List.take (Int.toNat ((↑(List.length (List.replicate (Int.toNat (IntKind.wrap IntKind.i64 (IntKind.wrap IntKind.u64 (↑(List.length x0) : Int) * IntKind.wrap IntKind.u64 x1))) (false, (0 : Int), (0 : Int), ()))) : Int) - (0 : Int))) x0 ++ List.drop (Int.toNat (0 : Int) + List.length (List.take (Int.toNat ((↑(List.length (List.replicate (Int.toNat (IntKind.wrap IntKind.i64 (IntKind.wrap IntKind.u64 (↑(List.length x0) : Int) * IntKind.wrap IntKind.u64 x1))) (false, (0 : Int), (0 : Int), ()))) : Int) - (0 : Int))) x0)) (List.replicate (Int.toNat (IntKind.wrap IntKind.i64 (IntKind.wrap IntKind.u64 (↑(List.length x0) : Int) * IntKind.wrap IntKind.u64 x1))) (false, (0 : Int), (0 : Int), ()))))]))))) := by kernel_rfl
def Erep_s8 (v8 : Int) (o1000007 : List (Bool × Int × Int × Unit)) : St := St.mk [(7, AV.at_ 1000007 []), (8, AV.val (Ty.int IntKind.i64) v8)] [(1000007, Ent.own (Ty.slc true Hand) o1000007)]
theorem Erep_l8 (v8 : Int) (o1000007 : List (Bool × Int × Int × Unit)) : exec Erep 1000 (.code (loopAt (bodyOf Try.prog 127) 8).1 :: .inLoop (loopAt (bodyOf Try.prog 127) 8).1 :: (loopAt (bodyOf Try.prog 127) 8).2) (Erep_s8 v8 o1000007) =
  cond (decide (v8 < (↑(List.length o1000007) : Int))) (.need ((0 : Int) ≤ v8 ∧ v8 ≤ (↑(List.length o1000007) : Int) ∧ (↑(List.length o1000007) : Int) ≤ (↑(List.length o1000007) : Int)) (.need ((0 : Int) ≤ (0 : Int) ∧ (0 : Int) ≤ v8 ∧ v8 ≤ (↑(List.length o1000007) : Int)) (.need (inK IntKind.i64 (v8 + (↑(List.length (List.take (Int.toNat ((↑(List.length o1000007) : Int) - v8)) (cut2 (0 : Int) v8 o1000007))) : Int))) (.cut (loopAt (bodyOf Try.prog 127) 8).1 (loopAt (bodyOf Try.prog 127) 8).2 (St.mk [(7, AV.at_ 1000007 []), (8, AV.val (Ty.int IntKind.i64) (v8 + (↑(List.length (List.take (Int.toNat ((↑(List.length o1000007) : Int) - v8)) (cut2 (0 : Int) v8 o1000007))) : Int)))] [(1000007, Ent.own (Ty.slc true Hand) (List.take (Int.toNat v8) o1000007 ++ List.take (Int.toNat ((↑(List.length o1000007) : Int) - v8)) (cut2 (0 : Int) v8 o1000007) ++ List.drop (Int.toNat v8 + List.length (List.take (Int.toNat ((↑(List.length o1000007) : Int) - v8)) (cut2 (0 : Int) v8 o1000007))) o1000007))]))))) (.ret ((o1000007, ()))) := by kernel_rfl
theorem i64_id {x : Int} (h0 : 0 ≤ x) (h1 : x ≤ 9223372036854775807) : IntKind.wrap .i64 x = x := by
  have h : x % 18446744073709551616 = x := Int.emod_eq_of_lt h0 (by omega)
  simp [IntKind.wrap, IntKind.bits, IntKind.signed, h]
  omega
/-- a list that begins with copies of x, copied behind itself -/
theorem dbl {α : Type} {x d : α} {n k : Nat} (hk : 1 ≤ k) (hkn : k ≤ n) : List.take k (List.replicate k x ++ List.replicate (n - k) d) ++ List.take (n - k) (List.take k (List.replicate k x ++ List.replicate (n - k) d)) ++ List.drop (k + (List.take (n - k) (List.take k (List.replicate k x ++ List.replicate (n - k) d))).length) (List.replicate k x ++ List.replicate (n - k) d) =
    List.replicate (min n (2 * k)) x ++ List.replicate (n - min n (2 * k)) d := by
  have e1 : List.take k (List.replicate k x ++ List.replicate (n - k) d) = List.replicate k x := by
    rw [List.take_append_of_le_length (by simp), List.take_replicate, Nat.min_self]
  rw [e1, List.take_replicate, List.length_replicate, List.drop_append, List.drop_replicate, List.drop_replicate, List.length_replicate, List.replicate_append_replicate]
  rw [show k - (k + min (n - k) k) = 0 by omega, show k + min (n - k) k - k = min (n - k) k by omega, List.replicate_zero, List.nil_append]
  congr 2 <;> omega
theorem crep_valid : crep.Valid Try.prog 127 := by
  refine Ctr.valid_of Erep_ok rfl rfl Try.func127 (c := bodyOf Try.prog 127) rfl rfl Frep_ok rfl ?_
  rintro ⟨(l : List HandD), (c : Int), ⟨⟩⟩ ⟨(h0 : l.length = 1), (h1 : 0 ≤ c), (h2 : c ≤ 1000)⟩ -
  obtain ⟨x, rfl⟩ : ∃ x, l = [x] := by
    match l, h0 with
    | [x], _ => exact ⟨x, rfl⟩
  obtain ⟨N, rfl⟩ : ∃ N : Nat, c = N := ⟨c.toNat, by omega⟩
  have w1 : IntKind.wrap .u64 (([x] : List HandD).length : Int) = 1 := rfl
  have w2 : IntKind.wrap .u64 (N : Int) = N := u64_id (by omega) (by omega)
  have w3 : IntKind.wrap .i64 (N : Int) = N := i64_id (by omega) (by omega)
  refine exec_sound (n := 1000) Erep_ok Frep_ok ?_
  refine holds_of_eq (Erep_t [x] (N : Int)) ?_
  rw [w1, w2, Int.one_mul, w3]
  simp only [holds_cond, Tree.holds, true_and, true_implies, decide_eq_true_eq, decide_eq_false_iff_not, Bool.not_eq_true', Bool.not_eq_false', Int.toNat_natCast, inK_i64, List.length_set, List.length_cons, List.length_nil, wbhClone, List.length_replicate, Int.sub_zero]
  refine ⟨by omega, fun _ => ⟨by omega, fun _ => ⟨by omega, fun _ => ⟨by omega, fun _ => ?_⟩⟩⟩⟩
  refine (show Ex.Reach Erep Try.f127 _ _ _ (Erep_s8 ((List.take N [x]).length : Int) (List.take 0 (List.replicate N hand0) ++ List.take N [x] ++ List.drop (0 + (List.take N [x]).length) (List.replicate N hand0))) from ?_)
  have es : ∃ k0 : Nat, Erep_s8 ((List.take N [x]).length : Int) (List.take 0 (List.replicate N hand0) ++ List.take N [x] ++ List.drop (0 + (List.take N [x]).length) (List.replicate N hand0)) = Erep_s8 (k0 : Int) (List.replicate k0 x ++ List.replicate (N - k0) hand0) ∧ k0 ≤ N ∧ (N = 0 ∨ 1 ≤ k0) := by
    match N with
    | 0 => exact ⟨0, rfl, by omega, by omega⟩
    | M + 1 => exact ⟨1, by simp, by omega, by omega⟩
  obtain ⟨k0, es, h3, h4⟩ := es
  rw [es]
  refine Reach.loopI Erep_ok Frep_ok (fun k : Nat => Erep_s8 (k : Int) (List.replicate k x ++ List.replicate (N - k) hand0)) (fun k => k ≤ N ∧ (N = 0 ∨ 1 ≤ k)) (fun k => N - k) 1000 (fun _ => ⟨uniq_of rfl, uniq_of rfl⟩) ?_ k0 ⟨h3, h4⟩
  rintro k ⟨k1, k2⟩ - ih
  refine holds_of_eq (Erep_l8 ..) ?_
  have hl : (List.replicate k x ++ List.replicate (N - k) hand0).length = N := by simp; omega
  have hc : cut2 0 (k : Int) (List.replicate k x ++ List.replicate (N - k) hand0) = List.take k (List.replicate k x ++ List.replicate (N - k) hand0) := by
    rw [cut2, show ((k : Int) - 0).toNat = k by omega]; rfl
  simp only [holds_cond, Tree.holds, true_and, true_implies, decide_eq_true_eq, decide_eq_false_iff_not, Bool.not_eq_true', Bool.not_eq_false', Int.toNat_natCast, inK_i64, List.length_set, List.length_cons, List.length_nil, hl, hc]
  have hd : ((N : Int) - (k : Int)).toNat = N - k := by omega
  rw [hd]
  refine ⟨fun h => ⟨by omega, fun _ => ⟨by omega, fun _ => ?_⟩⟩, fun h => ?_⟩
  · have e1 : List.take k (List.replicate k x ++ List.replicate (N - k) hand0) = List.replicate k x := by
      rw [List.take_append_of_le_length (by simp), List.take_replicate, Nat.min_self]
    have e2 : (List.take (N - k) (List.take k (List.replicate k x ++ List.replicate (N - k) hand0))).length = min (N - k) k := by rw [e1]; simp
    have hk2 : k + min (N - k) k = min N (2 * k) := by omega
    rw [dbl (by omega) (by omega), e2]
    refine ⟨by omega, fun _ => ?_⟩
    have := ih (min N (2 * k)) ⟨by omega, by omega⟩ (by omega)
    rw [← hk2, Int.natCast_add] at this
    rw [← hk2]
    exact this
  · obtain rfl : k = N := by omega
    show ((List.replicate k x ++ List.replicate (k - k) hand0, ()) : List HandD × Unit) = (List.replicate k x, ())
    rw [Nat.sub_self]; simp

def onew1 (n : Nat) : OverD := ((List.replicate n ((false, -1, 0, ()) : HandD)).set 0 (true, -1, 0, ()), [], ())
def onew (n : Int) : OverD × Int × Unit := if inF n 1 6 = false then (o0, 1, ()) else (onew1 n.toNat, 0, ())
def conew : Ctr := { ps := [.v I64], rs := [OverO, I64], pre := fun _ => True, fn := fun x => onew x.1, out := fun _ => () }
noncomputable def Eonew : Env := { P := Try.prog, tt := tt, ctr := [(109, coin), (127, crep)], res := [Go.ResultVar.cell 2 100, Go.ResultVar.tmp 3], rs := [Ty.pair (Ty.slc true Hand) (Ty.pair (Ty.slc true Word) Ty.unit), Ty.int IntKind.i64], ps := [PK.v (Ty.int IntKind.i64)], cuts := [], nt := 19 }
theorem Eonew_ok : EnvOk Eonew := envOk tt_ok ⟨coin_valid, crep_valid, trivial⟩
theorem Fonew_ok : FnOk Eonew Try.f99 := ⟨rfl, rfl⟩
theorem Eonew_t (x0 : Int) : exec Eonew 1000 [.code (bodyOf Try.prog 99)] (initSt conew.ps ((x0, ()))) =
  .need (True) (cond (!inF x0 (1 : Int) (6 : Int)) (.ret ((([], [], ()), (1 : Int), ()))) (.need (List.length (List.set [(false, (0 : Int), (0 : Int), ())] (Int.toNat (↑0 : Int)) (false, (-1 : Int), (0 : Int), ())) = 1 ∧ (0 : Int) ≤ x0 ∧ x0 ≤ (1000 : Int)) (.need ((0 : Int) ≤ (0 : Int) ∧ (0 : Int) < (↑(List.length (List.replicate (Int.toNat x0) (List.getD (List.set [(false, (0 : Int), (0 : Int), ())] (Int.toNat (↑0 : Int)) (false, (-1 : Int), (0 : Int), ())) 0 hand0))) : Int)) (.ret (((List.set (List.replicate (Int.toNat x0) (List.getD (List.set [(false, (0 : Int), (0 : Int), ())] (Int.toNat (↑0 : Int)) (false, (-1 : Int), (0 : Int), ())) 0 hand0)) (Int.toNat (0 : Int)) (true, Prod.snd (List.getD (List.replicate (Int.toNat x0) (List.getD (List.set [(false, (0 : Int), (0 : Int), ())] (Int.toNat (↑0 : Int)) (false, (-1 : Int), (0 : Int), ())) 0 hand0)) (Int.toNat (0 : Int)) (false, (0 : Int), (0 : Int), ()))), [], ()), (0 : Int), ())))))) := by kernel_rfl
theorem conew_valid : conew.Valid Try.prog 99 := by
  refine Ctr.valid_of Eonew_ok rfl rfl Try.func99 (c := bodyOf Try.prog 99) rfl rfl Fonew_ok rfl ?_
  rintro ⟨(n : Int), ⟨⟩⟩ - -
  refine exec_sound (n := 1000) Eonew_ok Fonew_ok ?_
  refine holds_of_eq (Eonew_t n) ?_
  simp only [holds_cond, Tree.holds, true_and, true_implies, decide_eq_true_eq, decide_eq_false_iff_not, Bool.not_eq_true', Bool.not_eq_false', Int.toNat_natCast, inK_i64, List.length_set, List.length_cons, List.length_nil]
  refine ⟨fun a => ?_, fun a => ?_⟩
  · show ((o0, 1, ()) : OverD × Int × Unit) = onew n
    rw [onew, if_pos a]
  · have hn := inF_iff.1 a
    simp only [List.length_set, List.length_cons, List.length_nil, List.length_replicate]
    refine ⟨⟨by omega, by omega⟩, fun _ => ⟨by omega, fun _ => ?_⟩⟩
    show (((List.replicate n.toNat ((false, -1, 0, ()) : HandD)).set 0 (true, ((List.replicate n.toNat ((false, -1, 0, ()) : HandD)).getD 0 (false, 0, 0, ())).2), [], ()), 0, ()) = onew n
    rw [repF _ _ (by omega), onew, if_neg (by simp [a])]
    rfl
abbrev WorkD := Int × Int × Int × Unit
def ostep1 (t : OverD) (n : Int) (x : WorkD) : OverD × Int × Unit :=
  if x.1 = 0 then ogive t (rest x.2.1 n) (rest x.2.2.1 n) else if x.1 = 3 then orest t (rest x.2.1 n) else otake t (rest x.2.2.1 (if (1 : Int) < t.2.1.length then t.2.1.length else 1))
def ostep (n : Int) (t : OverD) (x : WorkD) : OverD := if (ostep1 t n x).2.1 = 0 then (ostep1 t n x).1 else t
def ohands (n : Int) (l : List WorkD) : OverD := l.foldl (ostep n) (onew n).1
def cohands : Ctr := { ps := [.v I64, .v (.slc false Word)], rs := [OverO, .bool], pre := fun x => LE.le (α := Int) 1 x.1 ∧ LE.le (α := Int) x.1 6, fn := fun x => (ohands x.1 x.2.1, true, ()), out := fun _ => () }
noncomputable def Eohands : Env := { P := Try.prog, tt := tt, ctr := [(24, crest), (99, conew), (100, cogive), (57, corest), (56, cotake)], res := [Go.ResultVar.cell 4 100, Go.ResultVar.tmp 5], rs := [Ty.pair (Ty.slc true Hand) (Ty.pair (Ty.slc true Word) Ty.unit), Ty.bool], ps := [PK.v (Ty.int IntKind.i64), PK.v (Ty.slc false Word)], cuts := [(5, [(0, none), (4, none), (6, none), (28, none), (29, none), (30, none)])], nt := 84 }
theorem Eohands_ok : EnvOk Eohands := envOk tt_ok ⟨crest_valid, conew_valid, cogive_valid, corest_valid, cotake_valid, trivial⟩
theorem Fohands_ok : FnOk Eohands Try.f46 := ⟨rfl, rfl⟩
theorem Eohands_t (x0 : Int) (x1 : List (Int × Int × Int × Unit)) : exec Eohands 1000 [.code (bodyOf Try.prog 46)] (initSt cohands.ps ((x0, x1, ()))) =
  .need (True) (cond (decide (Prod.fst (Prod.snd (onew x0)) ≠ (0 : Int))) (.ret ((Prod.fst (onew x0), false, ()))) (cond (decide ((↑(List.length (Prod.fst (Prod.fst (onew x0)))) : Int) ≠ x0)) (.ret ((Prod.fst (onew x0), false, ()))) (.cut (loopAt (bodyOf Try.prog 46) 5).1 (loopAt (bodyOf Try.prog 46) 5).2 (St.mk [(0, AV.val (Ty.int IntKind.i64) x0), (4, AV.ptr 4 []), (6, AV.ptr 6 []), (28, AV.val (Ty.slc false Word) x1), (29, AV.val (Ty.int IntKind.i64) (↑(List.length x1) : Int)), (30, AV.val (Ty.int IntKind.i64) (0 : Int))] [(4, Ent.var (Ty.pair (Ty.slc true Hand) (Ty.pair (Ty.slc true Word) Ty.unit)) ([], [], ())), (6, Ent.var (Ty.pair (Ty.slc true Hand) (Ty.pair (Ty.slc true Word) Ty.unit)) (Prod.fst (onew x0)))])))) := by kernel_rfl
def Eohands_s5 (v0 : Int) (v28 : List (Int × Int × Int × Unit)) (v29 : Int) (v30 : Int) (o4_1 : List (Bool × Int × Int × Unit)) (o4_2_1 : List (Int × Int × Int × Unit)) (o6_1 : List (Bool × Int × Int × Unit)) (o6_2_1 : List (Int × Int × Int × Unit)) : St := St.mk [(0, AV.val (Ty.int IntKind.i64) v0), (4, AV.ptr 4 []), (6, AV.ptr 6 []), (28, AV.val (Ty.slc false Word) v28), (29, AV.val (Ty.int IntKind.i64) v29), (30, AV.val (Ty.int IntKind.i64) v30)] [(4, Ent.var (Ty.pair (Ty.slc true Hand) (Ty.pair (Ty.slc true Word) Ty.unit)) (o4_1, o4_2_1, ())), (6, Ent.var (Ty.pair (Ty.slc true Hand) (Ty.pair (Ty.slc true Word) Ty.unit)) (o6_1, o6_2_1, ()))]
theorem Eohands_l5 (v0 : Int) (v28 : List (Int × Int × Int × Unit)) (v29 : Int) (v30 : Int) (o4_1 : List (Bool × Int × Int × Unit)) (o4_2_1 : List (Int × Int × Int × Unit)) (o6_1 : List (Bool × Int × Int × Unit)) (o6_2_1 : List (Int × Int × Int × Unit)) : exec Eohands 1000 (.code (loopAt (bodyOf Try.prog 46) 5).1 :: .inLoop (loopAt (bodyOf Try.prog 46) 5).1 :: (loopAt (bodyOf Try.prog 46) 5).2) (Eohands_s5 v0 v28 v29 v30 o4_1 o4_2_1 o6_1 o6_2_1) =
  cond (decide (v30 < v29)) (.need ((0 : Int) ≤ v30 ∧ v30 < (↑(List.length v28) : Int)) (.need (v0 ≤ (1000000 : Int)) (.need (v0 ≤ (1000000 : Int)) (cond (decide (Prod.fst (List.getD v28 (Int.toNat v30) ((0 : Int), (0 : Int), (0 : Int), ())) = (0 : Int))) (.need (True) (cond (decide (Prod.fst (Prod.snd (ogive (o6_1, o6_2_1, ()) (rest (Prod.fst (Prod.snd (List.getD v28 (Int.toNat v30) ((0 : Int), (0 : Int), (0 : Int), ())))) v0) (rest (Prod.fst (Prod.snd (Prod.snd (List.getD v28 (Int.toNat v30) ((0 : Int), (0 : Int), (0 : Int), ()))))) v0))) = (0 : Int))) (cond (decide ((↑(List.length (Prod.fst (Prod.fst (ogive (o6_1, o6_2_1, ()) (rest (Prod.fst (Prod.snd (List.getD v28 (Int.toNat v30) ((0 : Int), (0 : Int), (0 : Int), ())))) v0) (rest (Prod.fst (Prod.snd (Prod.snd (List.getD v28 (Int.toNat v30) ((0 : Int), (0 : Int), (0 : Int), ()))))) v0))))) : Int) ≠ v0)) (.ret ((Prod.fst (ogive (o6_1, o6_2_1, ()) (rest (Prod.fst (Prod.snd (List.getD v28 (Int.toNat v30) ((0 : Int), (0 : Int), (0 : Int), ())))) v0) (rest (Prod.fst (Prod.snd (Prod.snd (List.getD v28 (Int.toNat v30) ((0 : Int), (0 : Int), (0 : Int), ()))))) v0)), false, ()))) (.need (inK IntKind.i64 (v30 + (1 : Int))) (.cut (loopAt (bodyOf Try.prog 46) 5).1 (loopAt (bodyOf Try.prog 46) 5).2 (St.mk [(0, AV.val (Ty.int IntKind.i64) v0), (4, AV.ptr 4 []), (6, AV.ptr 6 []), (28, AV.val (Ty.slc false Word) v28), (29, AV.val (Ty.int IntKind.i64) v29), (30, AV.val (Ty.int IntKind.i64) (v30 + (1 : Int)))] [(4, Ent.var (Ty.pair (Ty.slc true Hand) (Ty.pair (Ty.slc true Word) Ty.unit)) (o4_1, o4_2_1, ())), (6, Ent.var (Ty.pair (Ty.slc true Hand) (Ty.pair (Ty.slc true Word) Ty.unit)) (Prod.fst (ogive (o6_1, o6_2_1, ()) (rest (Prod.fst (Prod.snd (List.getD v28 (Int.toNat v30) ((0 : Int), (0 : Int), (0 : Int), ())))) v0) (rest (Prod.fst (Prod.snd (Prod.snd (List.getD v28 (Int.toNat v30) ((0 : Int), (0 : Int), (0 : Int), ()))))) v0))))])))) (cond (decide ((↑(List.length o6_1) : Int) ≠ v0)) (.ret (((o6_1, o6_2_1, ()), false, ()))) (.need (inK IntKind.i64 (v30 + (1 : Int))) (.cut (loopAt (bodyOf Try.prog 46) 5).1 (loopAt (bodyOf Try.prog 46) 5).2 (St.mk [(0, AV.val (Ty.int IntKind.i64) v0), (4, AV.ptr 4 []), (6, AV.ptr 6 []), (28, AV.val (Ty.slc false Word) v28), (29, AV.val (Ty.int IntKind.i64) v29), (30, AV.val (Ty.int IntKind.i64) (v30 + (1 : Int)))] [(4, Ent.var (Ty.pair (Ty.slc true Hand) (Ty.pair (Ty.slc true Word) Ty.unit)) (o4_1, o4_2_1, ())), (6, Ent.var (Ty.pair (Ty.slc true Hand) (Ty.pair (Ty.slc true Word) Ty.unit)) (o6_1, o6_2_1, ()))])))))) (cond (decide (Prod.fst (List.getD v28 (Int.toNat v30) ((0 : Int), (0 : Int), (0 : Int), ())) = (3 : Int))) (.need (True) (cond (decide (Prod.fst (Prod.snd (orest (o6_1, o6_2_1, ()) (rest (Prod.fst (Prod.snd (List.getD v28 (Int.toNat v30) ((0 : Int), (0 : Int), (0 : Int), ())))) v0))) = (0 : Int))) (cond (decide ((↑(List.length (Prod.fst (Prod.fst (orest (o6_1, o6_2_1, ()) (rest (Prod.fst (Prod.snd (List.getD v28 (Int.toNat v30) ((0 : Int), (0 : Int), (0 : Int), ())))) v0))))) : Int) ≠ v0)) (.ret ((Prod.fst (orest (o6_1, o6_2_1, ()) (rest (Prod.fst (Prod.snd (List.getD v28 (Int.toNat v30) ((0 : Int), (0 : Int), (0 : Int), ())))) v0)), false, ()))) (.need (inK IntKind.i64 (v30 + (1 : Int))) (.cut (loopAt (bodyOf Try.prog 46) 5).1 (loopAt (bodyOf Try.prog 46) 5).2 (St.mk [(0, AV.val (Ty.int IntKind.i64) v0), (4, AV.ptr 4 []), (6, AV.ptr 6 []), (28, AV.val (Ty.slc false Word) v28), (29, AV.val (Ty.int IntKind.i64) v29), (30, AV.val (Ty.int IntKind.i64) (v30 + (1 : Int)))] [(4, Ent.var (Ty.pair (Ty.slc true Hand) (Ty.pair (Ty.slc true Word) Ty.unit)) (o4_1, o4_2_1, ())), (6, Ent.var (Ty.pair (Ty.slc true Hand) (Ty.pair (Ty.slc true Word) Ty.unit)) (Prod.fst (orest (o6_1, o6_2_1, ()) (rest (Prod.fst (Prod.snd (List.getD v28 (Int.toNat v30) ((0 : Int), (0 : Int), (0 : Int), ())))) v0))))])))) (cond (decide ((↑(List.length o6_1) : Int) ≠ v0)) (.ret (((o6_1, o6_2_1, ()), false, ()))) (.need (inK IntKind.i64 (v30 + (1 : Int))) (.cut (loopAt (bodyOf Try.prog 46) 5).1 (loopAt (bodyOf Try.prog 46) 5).2 (St.mk [(0, AV.val (Ty.int IntKind.i64) v0), (4, AV.ptr 4 []), (6, AV.ptr 6 []), (28, AV.val (Ty.slc false Word) v28), (29, AV.val (Ty.int IntKind.i64) v29), (30, AV.val (Ty.int IntKind.i64) (v30 + (1 : Int)))] [(4, Ent.var (Ty.pair (Ty.slc true Hand) (Ty.pair (Ty.slc true Word) Ty.unit)) (o4_1, o4_2_1, ())), (6, Ent.var (Ty.pair (Ty.slc true Hand) (Ty.pair (Ty.slc true Word) Ty.unit)) (o6_1, o6_2_1, ()))])))))) (.need ((if (1 : Int) < (↑(List.length o6_2_1) : Int) then (↑(List.length o6_2_1) : Int) else (1 : Int)) ≤ (1000000 : Int)) (.need (True) (cond (decide (Prod.fst (Prod.snd (otake (o6_1, o6_2_1, ()) (rest (Prod.fst (Prod.snd (Prod.snd (List.getD v28 (Int.toNat v30) ((0 : Int), (0 : Int), (0 : Int), ()))))) (if (1 : Int) < (↑(List.length o6_2_1) : Int) then (↑(List.length o6_2_1) : Int) else (1 : Int))))) = (0 : Int))) (cond (decide ((↑(List.length (Prod.fst (Prod.fst (otake (o6_1, o6_2_1, ()) (rest (Prod.fst (Prod.snd (Prod.snd (List.getD v28 (Int.toNat v30) ((0 : Int), (0 : Int), (0 : Int), ()))))) (if (1 : Int) < (↑(List.length o6_2_1) : Int) then (↑(List.length o6_2_1) : Int) else (1 : Int))))))) : Int) ≠ v0)) (.ret ((Prod.fst (otake (o6_1, o6_2_1, ()) (rest (Prod.fst (Prod.snd (Prod.snd (List.getD v28 (Int.toNat v30) ((0 : Int), (0 : Int), (0 : Int), ()))))) (if (1 : Int) < (↑(List.length o6_2_1) : Int) then (↑(List.length o6_2_1) : Int) else (1 : Int)))), false, ()))) (.need (inK IntKind.i64 (v30 + (1 : Int))) (.cut (loopAt (bodyOf Try.prog 46) 5).1 (loopAt (bodyOf Try.prog 46) 5).2 (St.mk [(0, AV.val (Ty.int IntKind.i64) v0), (4, AV.ptr 4 []), (6, AV.ptr 6 []), (28, AV.val (Ty.slc false Word) v28), (29, AV.val (Ty.int IntKind.i64) v29), (30, AV.val (Ty.int IntKind.i64) (v30 + (1 : Int)))] [(4, Ent.var (Ty.pair (Ty.slc true Hand) (Ty.pair (Ty.slc true Word) Ty.unit)) (o4_1, o4_2_1, ())), (6, Ent.var (Ty.pair (Ty.slc true Hand) (Ty.pair (Ty.slc true Word) Ty.unit)) (Prod.fst (otake (o6_1, o6_2_1, ()) (rest (Prod.fst (Prod.snd (Prod.snd (List.getD v28 (Int.toNat v30) ((0 : Int), (0 : Int), (0 : Int), ()))))) (if (1 : Int) < (↑(List.length o6_2_1) : Int) then (↑(List.length o6_2_1) : Int) else (1 : Int))))))])))) (cond (decide ((↑(List.length o6_1) : Int) ≠ v0)) (.ret (((o6_1, o6_2_1, ()), false, ()))) (.need (inK IntKind.i64 (v30 + (1 : Int))) (.cut (loopAt (bodyOf Try.prog 46) 5).1 (loopAt (bodyOf Try.prog 46) 5).2 (St.mk [(0, AV.val (Ty.int IntKind.i64) v0), (4, AV.ptr 4 []), (6, AV.ptr 6 []), (28, AV.val (Ty.slc false Word) v28), (29, AV.val (Ty.int IntKind.i64) v29), (30, AV.val (Ty.int IntKind.i64) (v30 + (1 : Int)))] [(4, Ent.var (Ty.pair (Ty.slc true Hand) (Ty.pair (Ty.slc true Word) Ty.unit)) (o4_1, o4_2_1, ())), (6, Ent.var (Ty.pair (Ty.slc true Hand) (Ty.pair (Ty.slc true Word) Ty.unit)) (o6_1, o6_2_1, ()))])))))))))))) (.ret (((o6_1, o6_2_1, ()), true, ()))) := by kernel_rfl
/-- as many hands as there were, and not too many words -/
def HB (n : Int) (t : OverD) : Prop := (t.1.length : Int) = n ∧ t.2.1.length ≤ 100
theorem odet_len (t : OverD) (p : Int) : (odet t p).1.length = t.1.length ∧ (odet t p).2.1.length ≤ t.2.1.length + 1 := by
  rw [odet]
  split
  · exact ⟨rfl, by omega⟩
  · simp
theorem ogive_HB {n : Int} {t : OverD} {p q : Int} (h : HB n t) (h0 : (ogive t p q).2.1 = 0) : HB n (ogive t p q).1 := by
  unfold ogive at h0 ⊢
  split at h0
  · exact absurd h0 (by assumption)
  · split at h0
    · cases h0
    · split at h0
      · cases h0
      · split at h0
        · cases h0
        · rename_i h1 h2 h3 h4
          rw [if_neg h1, if_neg h2, if_neg h3, if_neg h4]
          have := (ocheck_iff.1 (Decidable.not_not.1 h1)).l
          refine ⟨?_, ?_⟩
          · simp only [give1, List.length_set]; exact h.1
          · simp only [give1, List.length_append, List.length_cons, List.length_nil]; omega
theorem orest_HB {n : Int} {t : OverD} {p : Int} (h : HB n t) (h0 : (orest t p).2.1 = 0) : HB n (orest t p).1 := by
  unfold orest at h0 ⊢
  split at h0
  · exact absurd h0 (by assumption)
  · split at h0
    · cases h0
    · split at h0
      · cases h0
      · split at h0
        · cases h0
        · rename_i h1 h2 h3 h4
          rw [if_neg h1, if_neg h2, if_neg h3, if_neg h4]
          have hl := (ocheck_iff.1 (Decidable.not_not.1 h1)).l
          have := odet_len (t.1.set p.toNat (false, (hAt t p).2), t.2.1, ()) p
          simp only [List.length_set] at this
          refine ⟨?_, ?_⟩
          · rw [rest1, this.1]; exact h.1
          · show (odet _ p).2.1.length ≤ 100
            have h9 := this.2
            have h8 : t.2.1.length ≤ 99 := by omega
            exact Nat.le_trans h9 (by omega)
theorem otake_HB {n : Int} {t : OverD} {k : Int} (h : HB n t) (h0 : (otake t k).2.1 = 0) : HB n (otake t k).1 := by
  unfold otake at h0 ⊢
  split at h0
  · exact absurd h0 (by assumption)
  · split at h0
    · cases h0
    · rename_i h1 h2
      rw [if_neg h1, if_neg h2]
      have hk := inF_iff.1 (Bool.not_eq_false _ ▸ h2)
      have hl := (ocheck_iff.1 (Decidable.not_not.1 h1)).l
      have hd : (delW t k).length ≤ 99 := by
        simp only [delW, List.length_append, List.length_take, List.length_drop]; omega
      show HB n (take1 t k)
      unfold take1
      split
      · have := odet_len (t.1.set (wAt t k).2.1.toNat (ackH (hAt t (wAt t k).2.1)), delW t k, ()) (wAt t k).2.1
        simp only [List.length_set] at this
        exact ⟨by rw [this.1]; exact h.1, Nat.le_trans this.2 (by omega)⟩
      · split
        · exact ⟨by simp only [List.length_set]; exact h.1, by show (delW t k).length ≤ 100; omega⟩
        · exact ⟨by simp only [List.length_set]; exact h.1, by show (delW t k ++ _).length ≤ 100; simp only [List.length_append, List.length_cons, List.length_nil]; omega⟩
theorem ostep1_HB {n : Int} {t : OverD} {x : WorkD} (h : HB n t) (h0 : (ostep1 t n x).2.1 = 0) : HB n (ostep1 t n x).1 := by
  unfold ostep1 at h0 ⊢
  split at h0
  · rename_i h1; rw [if_pos h1]; exact ogive_HB h h0
  · split at h0
    · rename_i h1 h2; rw [if_neg h1, if_pos h2]; exact orest_HB h h0
    · rename_i h1 h2; rw [if_neg h1, if_neg h2]; exact otake_HB h h0
theorem ostep_HB {n : Int} {t : OverD} {x : WorkD} (h : HB n t) : HB n (ostep n t x) := by
  unfold ostep
  split
  · rename_i h0; exact ostep1_HB h h0
  · exact h
theorem onew_ok {n : Int} (h1 : 1 ≤ n) (h2 : n ≤ 6) : onew n = (onew1 n.toNat, 0, ()) := by
  rw [onew, if_neg (by rw [inF_iff.2 ⟨h1, h2⟩]; simp)]
theorem onew_HB {n : Int} (h1 : 1 ≤ n) (h2 : n ≤ 6) : HB n (onew n).1 := by
  rw [onew_ok h1 h2]
  exact ⟨by simp [onew1]; omega, by simp [onew1]⟩
theorem foldl_take {α β : Type} {f : β → α → β} {b : β} {l : List α} {i : Nat} (h : i < l.length) (d : α) : (l.take (i + 1)).foldl f b = f ((l.take i).foldl f b) (l.getD i d) := by
  rw [List.take_add_one, List.foldl_append, List.getD_eq_getElem?_getD, List.getElem?_eq_getElem h]; rfl
theorem cohands_valid : cohands.Valid Try.prog 46 := by
  refine Ctr.valid_of Eohands_ok rfl rfl Try.func46 (c := bodyOf Try.prog 46) rfl rfl Fohands_ok rfl ?_
  rintro ⟨(n : Int), (l : List WorkD), ⟨⟩⟩ ⟨(h1 : 1 ≤ n), (h2 : n ≤ 6)⟩ ⟨-, ⟨hl, -⟩, -⟩
  have hl : l.length ≤ 9223372036854775807 := hl
  refine exec_sound (n := 1000) Eohands_ok Fohands_ok ?_
  refine holds_of_eq (Eohands_t n l) ?_
  have h0 := onew_HB h1 h2
  have he : (onew n).2.1 = 0 := by rw [onew_ok h1 h2]
  simp only [holds_cond, Tree.holds, true_and, true_implies, decide_eq_true_eq, decide_eq_false_iff_not, Bool.not_eq_true', Bool.not_eq_false', Int.toNat_natCast, inK_i64, List.length_set, List.length_cons, List.length_nil]
  refine ⟨fun a => absurd he a, fun _ => ⟨fun a => absurd h0.1 a, fun _ => ?_⟩⟩
  refine Reach.loopI Eohands_ok Fohands_ok (fun i : Nat => Eohands_s5 n l (l.length : Int) (i : Int) [] [] ((l.take i).foldl (ostep n) (onew n).1).1 ((l.take i).foldl (ostep n) (onew n).1).2.1) (fun i => i ≤ l.length ∧ HB n ((l.take i).foldl (ostep n) (onew n).1)) (fun i => l.length - i) 1000 (fun _ => ⟨uniq_of rfl, uniq_of rfl⟩) ?_ 0 ⟨by omega, h0⟩
  rintro i ⟨k1, k2⟩ - ih
  have k1 : i ≤ l.length := k1
  refine holds_of_eq (Eohands_l5 ..) ?_
  have next : i < l.length → _ := fun hi => ih (i + 1) ⟨by omega, by rw [foldl_take hi (0, 0, 0, ())]; exact ostep_HB k2⟩ (by omega)
  have hfin : ohands n l = l.foldl (ostep n) (onew n).1 := rfl
  simp only [holds_cond, Tree.holds, true_and, true_implies, decide_eq_true_eq, decide_eq_false_iff_not, Bool.not_eq_true', Bool.not_eq_false', Int.toNat_natCast, inK_i64, List.length_set, List.length_cons, List.length_nil]
  generalize hT : (l.take i).foldl (ostep n) (onew n).1 = t at *
  obtain ⟨hs, ws, ⟨⟩⟩ := t
  refine ⟨fun c => ⟨by omega, fun _ => ⟨by omega, fun _ => ⟨by omega, fun _ => ?_⟩⟩⟩, fun c => ?_⟩
  · have next := next (by omega)
    rw [foldl_take (by omega) (0, 0, 0, ()), hT] at next
    have hh := ostep_HB (x := l.getD i (0, 0, 0, ())) k2
    have hw : ws.length ≤ 100 := k2.2
    generalize l.getD i (0, 0, 0, ()) = x at *
    obtain ⟨kd, a, b, ⟨⟩⟩ := x
    have hs1 : ∀ {u : OverD × Int × Unit}, ostep1 (hs, ws, ()) n (kd, a, b, ()) = u → ostep n (hs, ws, ()) (kd, a, b, ()) = if u.2.1 = 0 then u.1 else (hs, ws, ()) := fun h => by rw [ostep, h]
    have fork : ∀ {u : OverD × Int × Unit}, ostep1 (hs, ws, ()) n (kd, a, b, ()) = u → (u.2.1 = 0 → ostep n (hs, ws, ()) (kd, a, b, ()) = u.1 ∧ HB n u.1) ∧ (u.2.1 ≠ 0 → ostep n (hs, ws, ()) (kd, a, b, ()) = (hs, ws, ())) := fun {u} h => by
      rw [hs1 h]
      refine ⟨fun h0 => ?_, fun h0 => by rw [if_neg h0]⟩
      rw [if_pos h0]
      exact ⟨rfl, by rw [hs1 h, if_pos h0] at hh; exact hh⟩
    refine ⟨fun d => ?_, fun d => ⟨fun d2 => ?_, fun d2 => ⟨by show (if (1 : Int) < ws.length then (ws.length : Int) else 1) ≤ 1000000; split <;> omega, fun _ => ?_⟩⟩⟩
    · obtain ⟨f1, f2⟩ := fork (u := ogive (hs, ws, ()) (rest a n) (rest b n)) (by rw [ostep1, if_pos d])
      refine ⟨fun e => ?_, fun e => ?_⟩
      · obtain ⟨g1, g2⟩ := f1 e
        rw [g1] at next
        exact ⟨fun h => absurd g2.1 h, fun _ => ⟨by omega, fun _ => next⟩⟩
      · rw [f2 e] at next
        exact ⟨fun h => absurd k2.1 h, fun _ => ⟨by omega, fun _ => next⟩⟩
    · obtain ⟨f1, f2⟩ := fork (u := orest (hs, ws, ()) (rest a n)) (by rw [ostep1, if_neg d, if_pos d2])
      refine ⟨fun e => ?_, fun e => ?_⟩
      · obtain ⟨g1, g2⟩ := f1 e
        rw [g1] at next
        exact ⟨fun h => absurd g2.1 h, fun _ => ⟨by omega, fun _ => next⟩⟩
      · rw [f2 e] at next
        exact ⟨fun h => absurd k2.1 h, fun _ => ⟨by omega, fun _ => next⟩⟩
    · obtain ⟨f1, f2⟩ := fork (u := otake (hs, ws, ()) (rest b (if (1 : Int) < ws.length then ws.length else 1))) (by rw [ostep1, if_neg d, if_neg d2])
      refine ⟨fun e => ?_, fun e => ?_⟩
      · obtain ⟨g1, g2⟩ := f1 e
        rw [g1] at next
        exact ⟨fun h => absurd g2.1 h, fun _ => ⟨by omega, fun _ => next⟩⟩
      · rw [f2 e] at next
        exact ⟨fun h => absurd k2.1 h, fun _ => ⟨by omega, fun _ => next⟩⟩
  · show (((hs, ws, ()), true, ()) : OverD × Bool × Unit) = (ohands n l, true, ())
    rw [hfin, ← hT, List.take_of_length_le (by omega)]
end Go.Proofs.Ytbcdpeogfghgcaa
