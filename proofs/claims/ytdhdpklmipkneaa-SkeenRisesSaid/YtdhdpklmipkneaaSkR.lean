/- SkeenRises. No condition. -/
import Derived.Test.YtdhdpklmipkneaaSkB
namespace Go.Proofs.Ytdhdpklmipkneaa
open Go.Ex Go.Sort
set_option maxRecDepth 100000
def notUnder (n : Int) (w : WaitD) : Bool := decide (n ≤ w.2.1.1)
def cris1 : Ctr := { ps := [.v Wait, .rd Num], rs := [.bool], pre := fun _ => True, fn := fun x => (notUnder x.2.1.1 x.1, ()), out := fun _ => () }
noncomputable def Eris1 : Env := { P := Try.prog, tt := tt, ctr := [], res := [Go.ResultVar.tmp 3], rs := [Ty.bool], ps := [PK.v (Ty.pair (Ty.int IntKind.i64) (Ty.pair PairT (Ty.pair Ty.bool Ty.unit))), PK.rd PairT], cuts := [], nt := 10 }
theorem Eris1_ok : EnvOk Eris1 := envOk tt_ok trivial
theorem Fris1_ok : FnOk Eris1 Try.f34 := ⟨rfl, rfl⟩
theorem Eris1_t (x0_1 : Int) (x0_2_1_1 : Int) (x0_2_1_2_1 : Int) (x0_2_2_1 : Bool) (x1_1 : Int) (x1_2_1 : Int) : exec Eris1 1000 [.code (bodyOf Try.prog 34)] (initSt cris1.ps (((x0_1, (x0_2_1_1, x0_2_1_2_1, ()), x0_2_2_1, ()), (x1_1, x1_2_1, ()), ()))) =
  .ret ((decide (x1_1 ≤ x0_2_1_1), ())) := by kernel_rfl
theorem cris1_valid : cris1.Valid Try.prog 34 := by
  refine Ctr.valid_of Eris1_ok rfl rfl Try.func34 (c := bodyOf Try.prog 34) rfl rfl Fris1_ok rfl ?_
  rintro ⟨⟨(i : Int), ⟨(n1 : Int), (n2 : Int), ⟨⟩⟩, (f : Bool), ⟨⟩⟩, ⟨(m1 : Int), (m2 : Int), ⟨⟩⟩, ⟨⟩⟩ - -
  refine exec_sound (n := 1000) Eris1_ok Fris1_ok ?_
  refine holds_of_eq (Eris1_t i n1 n2 f m1 m2) ?_
  rfl
def cidxR : Ctr := { ps := [.v (.slc false Wait), .clo 34 [Num]], rs := [I64], pre := fun x => True, fn := fun x => (idxOf (notUnder x.2.1.1.1) x.1, ()), out := fun _ => () }
noncomputable def EidxR : Env := { P := Try.prog, tt := tt, ctr := [(34, cris1)], res := [Go.ResultVar.tmp 4], rs := [Ty.int IntKind.i64], ps := [PK.v (Ty.slc false (Ty.pair (Ty.int IntKind.i64) (Ty.pair PairT (Ty.pair Ty.bool Ty.unit)))), PK.clo 34 [Ty.pair (Ty.int IntKind.i64) (Ty.pair (Ty.int IntKind.i64) Ty.unit)]], cuts := [(2, [(0, none), (1, none), (7, none), (8, none)])], nt := 19 }
theorem EidxR_ok : EnvOk EidxR := envOk tt_ok ⟨cris1_valid, trivial⟩
theorem FidxR_ok : FnOk EidxR Try.f87 := ⟨rfl, rfl⟩
theorem EidxR_t (x0 : List (Int × (Int × Int × Unit) × Bool × Unit)) (x1c0_1 : Int) (x1c0_2_1 : Int) : exec EidxR 1000 [.code (bodyOf Try.prog 87)] (initSt cidxR.ps ((x0, ((x1c0_1, x1c0_2_1, ()), ()), ()))) =
  .cut (loopAt (bodyOf Try.prog 87) 2).1 (loopAt (bodyOf Try.prog 87) 2).2 (St.mk [(0, AV.val (Ty.slc false (Ty.pair (Ty.int IntKind.i64) (Ty.pair PairT (Ty.pair Ty.bool Ty.unit)))) x0), (1, AV.clo 34 (AV.cons (AV.rptr PairT (x1c0_1, x1c0_2_1, ())) AV.nil)), (7, AV.val (Ty.int IntKind.i64) (↑(List.length x0) : Int)), (8, AV.val (Ty.int IntKind.i64) (0 : Int))] []) := by kernel_rfl
def EidxR_s2 (v0 : List (Int × (Int × Int × Unit) × Bool × Unit)) (v1a_1 : Int) (v1a_2_1 : Int) (v7 : Int) (v8 : Int) : St := St.mk [(0, AV.val (Ty.slc false (Ty.pair (Ty.int IntKind.i64) (Ty.pair PairT (Ty.pair Ty.bool Ty.unit)))) v0), (1, AV.clo 34 (AV.cons (AV.rptr PairT (v1a_1, v1a_2_1, ())) AV.nil)), (7, AV.val (Ty.int IntKind.i64) v7), (8, AV.val (Ty.int IntKind.i64) v8)] []
theorem EidxR_l2 (v0 : List (Int × (Int × Int × Unit) × Bool × Unit)) (v1a_1 : Int) (v1a_2_1 : Int) (v7 : Int) (v8 : Int) : exec EidxR 1000 (.code (loopAt (bodyOf Try.prog 87) 2).1 :: .inLoop (loopAt (bodyOf Try.prog 87) 2).1 :: (loopAt (bodyOf Try.prog 87) 2).2) (EidxR_s2 v0 v1a_1 v1a_2_1 v7 v8) =
  cond (decide (v8 < v7)) (.need ((0 : Int) ≤ v8 ∧ v8 < (↑(List.length v0) : Int)) (.need (True) (cond (notUnder v1a_1 (List.getD v0 (Int.toNat v8) ((0 : Int), ((0 : Int), (0 : Int), ()), false, ()))) (.ret ((v8, ()))) (.need (inK IntKind.i64 (v8 + (1 : Int))) (.cut (loopAt (bodyOf Try.prog 87) 2).1 (loopAt (bodyOf Try.prog 87) 2).2 (St.mk [(0, AV.val (Ty.slc false (Ty.pair (Ty.int IntKind.i64) (Ty.pair PairT (Ty.pair Ty.bool Ty.unit)))) v0), (1, AV.clo 34 (AV.cons (AV.rptr PairT (v1a_1, v1a_2_1, ())) AV.nil)), (7, AV.val (Ty.int IntKind.i64) v7), (8, AV.val (Ty.int IntKind.i64) (v8 + (1 : Int)))] [])))))) (.ret (((-1 : Int), ()))) := by kernel_rfl
theorem cidxR_valid : cidxR.Valid Try.prog 87 := by
  refine Ctr.valid_of EidxR_ok rfl rfl Try.func87 (c := bodyOf Try.prog 87) rfl rfl FidxR_ok rfl ?_
  rintro ⟨(l : List (WaitD)), ⟨⟨(j : Int), (j2 : Int), ⟨⟩⟩, ⟨⟩⟩, ⟨⟩⟩ - ⟨⟨hl, -⟩, -⟩
  have hl : l.length ≤ 9223372036854775807 := hl
  refine exec_sound (n := 1000) EidxR_ok FidxR_ok ?_
  refine holds_of_eq (EidxR_t l j j2) ?_
  refine Reach.loopI EidxR_ok FidxR_ok (fun i : Nat => EidxR_s2 l j j2 (l.length : Int) (i : Int)) (fun i => i ≤ l.length ∧ idxOf (notUnder j) l = idxGo (notUnder j) (l.drop i) i)
    (fun i => l.length - i) 1000 (fun _ => ⟨uniq_of rfl, uniq_of rfl⟩) ?_ 0 ⟨by omega, rfl⟩
  rintro i ⟨k1, k2⟩ - ih
  refine holds_of_eq (EidxR_l2 ..) ?_
  simp only [holds_cond, Tree.holds, true_and, true_implies, decide_eq_true_eq, decide_eq_false_iff_not, Bool.not_eq_true', Bool.not_eq_false', Int.toNat_natCast, inK_i64, List.length_set, List.length_cons, List.length_nil]
  refine ⟨fun h => ?_, fun h => ?_⟩
  · rw [drop_getD (show i < l.length by omega) ((0, (0, 0, ()), false, ())), idxGo] at k2
    refine ⟨by omega, fun _ => ⟨fun c => ?_, fun c => ⟨by omega, fun _ => ih (i + 1) ⟨by omega, ?_⟩ (by omega)⟩⟩⟩
    · show (((i : Int), ()) : Int × Unit) = (idxOf (notUnder j) l, ())
      rw [k2, if_pos (show (notUnder j) (l.getD i ((0, (0, 0, ()), false, ()))) = true from c)]
    · rw [k2, if_neg (show ¬ (notUnder j) (l.getD i ((0, (0, 0, ()), false, ()))) = true from fun h9 => Bool.noConfusion (Eq.trans (Eq.symm h9) c))]
  · rw [List.drop_eq_nil_of_le (by omega)] at k2
    show (((-1 : Int), ()) : Int × Unit) = (idxOf (notUnder j) l, ())
    rw [k2]; rfl
def cconR : Ctr := { ps := [.v (.slc false Wait), .clo 34 [Num]], rs := [.bool], pre := fun x => True, fn := fun x => (List.any (α := WaitD) x.1 (notUnder x.2.1.1.1), ()), out := fun _ => () }
noncomputable def EconR : Env := { P := Try.prog, tt := tt, ctr := [(87, cidxR)], res := [Go.ResultVar.tmp 4], rs := [Ty.bool], ps := [PK.v (Ty.slc false (Ty.pair (Ty.int IntKind.i64) (Ty.pair PairT (Ty.pair Ty.bool Ty.unit)))), PK.clo 34 [Ty.pair (Ty.int IntKind.i64) (Ty.pair (Ty.int IntKind.i64) Ty.unit)]], cuts := [], nt := 9 }
theorem EconR_ok : EnvOk EconR := envOk tt_ok ⟨cidxR_valid, trivial⟩
theorem FconR_ok : FnOk EconR Try.f33 := ⟨rfl, rfl⟩
theorem EconR_t (x0 : List (Int × (Int × Int × Unit) × Bool × Unit)) (x1c0_1 : Int) (x1c0_2_1 : Int) : exec EconR 1000 [.code (bodyOf Try.prog 33)] (initSt cconR.ps ((x0, ((x1c0_1, x1c0_2_1, ()), ()), ()))) =
  .need (True) (.ret ((decide ((0 : Int) ≤ idxOf (notUnder x1c0_1) x0), ()))) := by kernel_rfl
theorem cconR_valid : cconR.Valid Try.prog 33 := by
  refine Ctr.valid_of EconR_ok rfl rfl Try.func33 (c := bodyOf Try.prog 33) rfl rfl FconR_ok rfl ?_
  rintro ⟨(l : List (WaitD)), ⟨⟨(j : Int), (j2 : Int), ⟨⟩⟩, ⟨⟩⟩, ⟨⟩⟩ - -
  refine exec_sound (n := 1000) EconR_ok FconR_ok ?_
  refine holds_of_eq (EconR_t l j j2) ?_
  refine ⟨trivial, fun _ => ?_⟩
  show ((decide (0 ≤ idxOf (notUnder j) l), ()) : Bool × Unit) = (l.any (notUnder j), ())
  rw [idx_any]
def cSkeenRises : Ctr := { ps := [.v Skeen, .v I64, .v Num], rs := [.bool], pre := fun _ => True, fn := fun _ => (true, ()), out := fun _ => () }
noncomputable def ESkeenRises : Env := { P := Try.prog, tt := tt, ctr := [(31, coffer), (32, cscheck), (35, cfix), (33, cconR)], res := [Go.ResultVar.tmp 6], rs := [Ty.bool], ps := [PK.v (Ty.pair (Ty.int IntKind.i64) (Ty.pair (Ty.int IntKind.i64) (Ty.pair (Ty.slc false (Ty.pair (Ty.int IntKind.i64) (Ty.pair PairT (Ty.pair Ty.bool Ty.unit)))) Ty.unit))), PK.v (Ty.int IntKind.i64), PK.v PairT], cuts := [], nt := 108 }
theorem ESkeenRises_ok : EnvOk ESkeenRises := envOk tt_ok ⟨coffer_valid, cscheck_valid, cfix_valid, cconR_valid, trivial⟩
theorem FSkeenRises_ok : FnOk ESkeenRises Try.f7 := ⟨rfl, rfl⟩
theorem ESkeenRises_t (x0_1 : Int) (x0_2_1 : Int) (x0_2_2_1 : List (Int × (Int × Int × Unit) × Bool × Unit)) (x1 : Int) (x2_1 : Int) (x2_2_1 : Int) : exec ESkeenRises 1000 [.code (bodyOf Try.prog 7)] (initSt cSkeenRises.ps (((x0_1, x0_2_1, x0_2_2_1, ()), x1, (x2_1, x2_2_1, ()), ()))) =
  .need (True) (.need (True) (cond (decide (Prod.fst (Prod.snd (Prod.snd (offerF (x0_1, x0_2_1, x0_2_2_1, ()) x1))) = (0 : Int))) (.need (True) (cond (decide (checkE (Prod.fst (offerF (x0_1, x0_2_1, x0_2_2_1, ()) x1)) ≠ (0 : Int))) (.ret ((false, ()))) (.need (inK IntKind.i64 (x0_2_1 + (1 : Int))) (cond (decide (Prod.fst (Prod.fst (Prod.snd (offerF (x0_1, x0_2_1, x0_2_2_1, ()) x1))) ≠ x0_2_1 + (1 : Int))) (.ret ((false, ()))) (.need (True) (cond (List.any x0_2_2_1 (notUnder (Prod.fst (Prod.fst (Prod.snd (offerF (x0_1, x0_2_1, x0_2_2_1, ()) x1)))))) (.ret ((false, ()))) (.need (True) (cond (decide (Prod.fst (Prod.snd (Prod.snd (fixF (x0_1, x0_2_1, x0_2_2_1, ()) x1 (x2_1, x2_2_1, ())))) ≠ (0 : Int))) (cond (decide ((↑(List.length (Prod.fst (Prod.snd (fixF (x0_1, x0_2_1, x0_2_2_1, ()) x1 (x2_1, x2_2_1, ()))))) : Int) = (0 : Int))) (cond (decide (Prod.fst (Prod.snd (Prod.snd (offerF (x0_1, x0_2_1, x0_2_2_1, ()) x1))) = (0 : Int))) (.ret ((true, ()))) (.ret ((decide ((↑(List.length (Prod.fst (Prod.snd (Prod.snd (Prod.fst (offerF (x0_1, x0_2_1, x0_2_2_1, ()) x1)))))) : Int) = (0 : Int)), ())))) (.ret ((false, ())))) (.need (True) (cond (decide (checkE (Prod.fst (fixF (x0_1, x0_2_1, x0_2_2_1, ()) x1 (x2_1, x2_2_1, ()))) = (0 : Int))) (.need (inK IntKind.i64 ((↑(List.length (Prod.fst (Prod.snd (Prod.snd (Prod.fst (fixF (x0_1, x0_2_1, x0_2_2_1, ()) x1 (x2_1, x2_2_1, ()))))))) : Int) + (↑(List.length (Prod.fst (Prod.snd (fixF (x0_1, x0_2_1, x0_2_2_1, ()) x1 (x2_1, x2_2_1, ()))))) : Int))) (cond (decide ((↑(List.length (Prod.fst (Prod.snd (Prod.snd (Prod.fst (fixF (x0_1, x0_2_1, x0_2_2_1, ()) x1 (x2_1, x2_2_1, ()))))))) : Int) + (↑(List.length (Prod.fst (Prod.snd (fixF (x0_1, x0_2_1, x0_2_2_1, ()) x1 (x2_1, x2_2_1, ()))))) : Int) = (↑(List.length x0_2_2_1) : Int))) (.ret ((decide (x0_2_1 ≤ Prod.fst (Prod.snd (Prod.fst (fixF (x0_1, x0_2_1, x0_2_2_1, ()) x1 (x2_1, x2_2_1, ()))))), ()))) (.ret ((false, ()))))) (.ret ((false, ()))))))))))))) (.need (True) (cond (decide (Prod.fst (Prod.snd (Prod.snd (fixF (x0_1, x0_2_1, x0_2_2_1, ()) x1 (x2_1, x2_2_1, ())))) ≠ (0 : Int))) (cond (decide ((↑(List.length (Prod.fst (Prod.snd (fixF (x0_1, x0_2_1, x0_2_2_1, ()) x1 (x2_1, x2_2_1, ()))))) : Int) = (0 : Int))) (cond (decide (Prod.fst (Prod.snd (Prod.snd (offerF (x0_1, x0_2_1, x0_2_2_1, ()) x1))) = (0 : Int))) (.ret ((true, ()))) (.ret ((decide ((↑(List.length (Prod.fst (Prod.snd (Prod.snd (Prod.fst (offerF (x0_1, x0_2_1, x0_2_2_1, ()) x1)))))) : Int) = (0 : Int)), ())))) (.ret ((false, ())))) (.need (True) (cond (decide (checkE (Prod.fst (fixF (x0_1, x0_2_1, x0_2_2_1, ()) x1 (x2_1, x2_2_1, ()))) = (0 : Int))) (.need (inK IntKind.i64 ((↑(List.length (Prod.fst (Prod.snd (Prod.snd (Prod.fst (fixF (x0_1, x0_2_1, x0_2_2_1, ()) x1 (x2_1, x2_2_1, ()))))))) : Int) + (↑(List.length (Prod.fst (Prod.snd (fixF (x0_1, x0_2_1, x0_2_2_1, ()) x1 (x2_1, x2_2_1, ()))))) : Int))) (cond (decide ((↑(List.length (Prod.fst (Prod.snd (Prod.snd (Prod.fst (fixF (x0_1, x0_2_1, x0_2_2_1, ()) x1 (x2_1, x2_2_1, ()))))))) : Int) + (↑(List.length (Prod.fst (Prod.snd (fixF (x0_1, x0_2_1, x0_2_2_1, ()) x1 (x2_1, x2_2_1, ()))))) : Int) = (↑(List.length x0_2_2_1) : Int))) (.ret ((decide (x0_2_1 ≤ Prod.fst (Prod.snd (Prod.fst (fixF (x0_1, x0_2_1, x0_2_2_1, ()) x1 (x2_1, x2_2_1, ()))))), ()))) (.ret ((false, ()))))) (.ret ((false, ()))))))))) := by kernel_rfl
theorem cSkeenRises_valid : cSkeenRises.Valid Try.prog 7 := by
  refine Ctr.valid_of ESkeenRises_ok rfl rfl Try.func7 (c := bodyOf Try.prog 7) rfl rfl FSkeenRises_ok rfl ?_
  rintro ⟨⟨(me : Int), (clk : Int), (ws : List WaitD), ⟨⟩⟩, (id : Int), ⟨(a : Int), (b : Int), ⟨⟩⟩, ⟨⟩⟩ - ⟨hm, -⟩
  refine exec_sound (n := 1000) ESkeenRises_ok FSkeenRises_ok ?_
  refine holds_of_eq (ESkeenRises_t me clk ws id a b) ?_
  have hm : (PK.v Skeen).rng ((me, clk, ws, ()) : SkD) := hm
  have hlen : ws.length ≤ 9223372036854775807 := by
    obtain ⟨-, -, ⟨h, -⟩, -⟩ := hm; exact h
  simp only [holds_cond, Tree.holds, true_and, true_implies, decide_eq_true_eq, decide_eq_false_iff_not, Bool.not_eq_true', Bool.not_eq_false', Int.toNat_natCast, inK_i64, List.length_set, List.length_cons, List.length_nil]
  have hO : ((offerF (me, clk, ws, ()) id).2.2.1 = 0 ∧ checkE (offerF (me, clk, ws, ()) id).1 = 0 ∧ (offerF (me, clk, ws, ()) id).2.1.1 = clk + 1 ∧ (-9223372036854775808 ≤ clk + 1 ∧ clk + 1 ≤ 9223372036854775807) ∧ ws.any (notUnder (offerF (me, clk, ws, ()) id).2.1.1) = false) ∨
      ((offerF (me, clk, ws, ()) id).2.2.1 ≠ 0 ∧ (offerF (me, clk, ws, ()) id).1.2.2.1.length = 0) := by
    rcases offer_facts me clk ws id with ⟨h1, h2, h3, h4, h5⟩ | ⟨e, h1, h2⟩
    · rw [h4]
      have hc : 0 ≤ clk ∧ clk ≤ 16777215 := h1.clk
      refine .inl ⟨rfl, checkE_ok.2 h5, rfl, by omega, ?_⟩
      rw [List.any_eq_false]
      intro w hw
      have : w.2.1.1 ≤ clk := (h1.num w hw).1.2
      show ¬ decide (clk + 1 ≤ w.2.1.1) = true
      rw [decide_eq_true_eq]; omega
    · rw [h2]; exact .inr ⟨h1, rfl⟩
  have hF : ((fixF (me, clk, ws, ()) id (a, b, ())).2.2.1 = 0 ∧ checkE (fixF (me, clk, ws, ()) id (a, b, ())).1 = 0 ∧ (fixF (me, clk, ws, ()) id (a, b, ())).1.2.2.1.length + (fixF (me, clk, ws, ()) id (a, b, ())).2.1.length = ws.length ∧ clk ≤ (fixF (me, clk, ws, ()) id (a, b, ())).1.2.1) ∨
      ((fixF (me, clk, ws, ()) id (a, b, ())).2.2.1 ≠ 0 ∧ (fixF (me, clk, ws, ()) id (a, b, ())).2.1.length = 0) := by
    rcases fix_facts me clk ws id (a, b, ()) with ⟨h1, h2, h3, h4, h5, h6, h7⟩ | ⟨e, h1, h2⟩
    · rw [h7]
      refine .inl ⟨rfl, checkE_ok.2 (fix_ok h1 h2 h3 h4 h6).2.2, fix_len (me := me) (clk := clk), ?_⟩
      show clk ≤ if clk < a then a else clk
      split <;> omega
    · rw [h2]; exact .inr ⟨h1, rfl⟩
  generalize offerF (me, clk, ws, ()) id = o at *
  generalize fixF (me, clk, ws, ()) id (a, b, ()) = f at *
  have rest : (o.2.2.1 = 0 ∨ (¬ o.2.2.1 = 0 ∧ o.1.2.2.1.length = 0)) → (f.2.2.1 ≠ 0 → ((f.2.1.length : Int) = 0 → (o.2.2.1 = 0 → ((true, ()) : Bool × Unit) = (true, ())) ∧ (¬ o.2.2.1 = 0 → ((decide ((o.1.2.2.1.length : Int) = 0), ()) : Bool × Unit) = (true, ()))) ∧ (¬ (f.2.1.length : Int) = 0 → ((false, ()) : Bool × Unit) = (true, ()))) ∧
      (¬ f.2.2.1 ≠ 0 → (checkE f.1 = 0 → (-9223372036854775808 ≤ (f.1.2.2.1.length : Int) + (f.2.1.length : Int) ∧ (f.1.2.2.1.length : Int) + (f.2.1.length : Int) ≤ 9223372036854775807) ∧ (-9223372036854775808 ≤ (f.1.2.2.1.length : Int) + (f.2.1.length : Int) ∧ (f.1.2.2.1.length : Int) + (f.2.1.length : Int) ≤ 9223372036854775807 →
        ((f.1.2.2.1.length : Int) + (f.2.1.length : Int) = (ws.length : Int) → ((decide (clk ≤ f.1.2.1), ()) : Bool × Unit) = (true, ())) ∧ (¬ (f.1.2.2.1.length : Int) + (f.2.1.length : Int) = (ws.length : Int) → ((false, ()) : Bool × Unit) = (true, ())))) ∧ (¬ checkE f.1 = 0 → ((false, ()) : Bool × Unit) = (true, ()))) := by
    intro ho
    rcases hF with ⟨g1, g2, g3, g4⟩ | ⟨g1, g2⟩
    · exact ⟨fun h => absurd g1 h, fun _ => ⟨fun _ => ⟨by omega, fun _ => ⟨fun _ => by rw [decide_eq_true g4], fun h => absurd (by omega) h⟩⟩, fun h => absurd g2 h⟩⟩
    · refine ⟨fun _ => ⟨fun _ => ⟨fun _ => rfl, fun h => ?_⟩, fun h => absurd (by omega) h⟩, fun h => absurd g1 h⟩
      rcases ho with ho | ⟨_, ho⟩
      · exact absurd ho h
      · rw [decide_eq_true (by omega)]
  rcases hO with ⟨g1, g2, g3, g4, g5⟩ | ⟨g1, g2⟩
  · exact ⟨fun _ => ⟨fun h => absurd g2 h, fun _ => ⟨g4, fun _ => ⟨fun h => absurd g3 h, fun _ => ⟨fun h => (by rw [g5] at h; cases h), fun _ => rest (.inl g1)⟩⟩⟩⟩, fun h => absurd g1 h⟩
  · exact ⟨fun h => absurd h g1, fun _ => rest (.inr ⟨g1, g2⟩)⟩
end Go.Proofs.Ytdhdpklmipkneaa
