/- The contracts of the package over's functions. -/
import Derived.Test.YtbcdpeogfghgcaaBase
namespace Go.Proofs.Ytbcdpeogfghgcaa
open Go.Ex
set_option maxRecDepth 100000
abbrev HandD := Bool × Int × Int × Unit
abbrev WordD := Int × Int × Int × Unit
abbrev OverD := List HandD × List WordD × Unit
def coin : Ctr := { ps := [.v I64, .v I64, .v I64], rs := [.bool], pre := fun _ => True, fn := fun x => (inF x.1 x.2.1 x.2.2.1, ()), out := fun _ => () }
noncomputable def Eoin : Env := { P := Try.prog, tt := tt, ctr := [], res := [Go.ResultVar.tmp 6], rs := [Ty.bool], ps := [PK.v (Ty.int IntKind.i64), PK.v (Ty.int IntKind.i64), PK.v (Ty.int IntKind.i64)], cuts := [], nt := 15 }
theorem Eoin_ok : EnvOk Eoin := envOk tt_ok trivial
theorem Foin_ok : FnOk Eoin Try.f109 := ⟨rfl, rfl⟩
theorem Eoin_t (x0 : Int) (x1 : Int) (x2 : Int) : exec Eoin 1000 [.code (bodyOf Try.prog 109)] (initSt coin.ps ((x0, x1, x2, ()))) =
  cond (decide (x1 ≤ x0)) (.ret ((decide (x0 ≤ x2), ()))) (.ret ((false, ()))) := by kernel_rfl
theorem coin_valid : coin.Valid Try.prog 109 := by
  refine Ctr.valid_of Eoin_ok rfl rfl Try.func109 (c := bodyOf Try.prog 109) rfl rfl Foin_ok rfl ?_
  rintro ⟨(a : Int), (b : Int), (c : Int), ⟨⟩⟩ - -
  refine exec_sound (n := 1000) Eoin_ok Foin_ok ?_
  refine holds_of_eq (Eoin_t a b c) ?_
  simp only [holds_cond, Tree.holds, true_and, true_implies, decide_eq_true_eq, decide_eq_false_iff_not, Bool.not_eq_true', Bool.not_eq_false', Int.toNat_natCast, inK_i64, List.length_set, List.length_cons, List.length_nil]
  repeat' first | exact trivial | (refine And.intro ?_ ?_) | (intro _)
  all_goals (show ((_, ()) : Bool × Unit) = (inF a b c, ()); simp [inF, *])
def ohand (h : HandD) (p n : Int) : Int := if inF h.2.1 (-1) (n - 1) = false then 1 else if inF h.2.2.1 0 16777215 = false then 1 else if h.2.1 = p ∨ (p = 0 ∧ h.2.1 ≠ -1) ∨ (p ≠ 0 ∧ h.2.1 = -1 ∧ (h.1 = true ∨ 0 < h.2.2.1)) then 4 else 0
def cohand : Ctr := { ps := [.v Hand, .v I64, .v I64], rs := [I64], pre := fun x => LE.le (α := Int) 0 x.2.1 ∧ LE.le (α := Int) 1 x.2.2.1 ∧ LE.le (α := Int) x.2.2.1 1000, fn := fun x => (ohand x.1 x.2.1 x.2.2.1, ()), out := fun _ => () }
noncomputable def Eohand : Env := { P := Try.prog, tt := tt, ctr := [(109, coin)], res := [Go.ResultVar.tmp 6], rs := [Ty.int IntKind.i64], ps := [PK.v Hand, PK.v (Ty.int IntKind.i64), PK.v (Ty.int IntKind.i64)], cuts := [], nt := 52 }
theorem Eohand_ok : EnvOk Eohand := envOk tt_ok ⟨coin_valid, trivial⟩
theorem Fohand_ok : FnOk Eohand Try.f112 := ⟨rfl, rfl⟩
theorem Eohand_t (x0_1 : Bool) (x0_2_1 : Int) (x0_2_2_1 : Int) (x1 : Int) (x2 : Int) : exec Eohand 1000 [.code (bodyOf Try.prog 112)] (initSt cohand.ps (((x0_1, x0_2_1, x0_2_2_1, ()), x1, x2, ()))) =
  .need (inK IntKind.i64 (x2 - (1 : Int))) (.need (True) (cond (!inF x0_2_1 (-1 : Int) (x2 - (1 : Int))) (.ret (((1 : Int), ()))) (.need (True) (cond (!inF x0_2_2_1 (0 : Int) (16777215 : Int)) (.ret (((1 : Int), ()))) (cond (decide (x0_2_1 = x1)) (.ret (((4 : Int), ()))) (cond (decide (x1 = (0 : Int))) (cond (decide (x0_2_1 ≠ (-1 : Int))) (.ret (((4 : Int), ()))) (cond (decide (x1 ≠ (0 : Int))) (cond (decide (x0_2_1 = (-1 : Int))) (cond (x0_1) (.ret (((4 : Int), ()))) (cond (decide ((0 : Int) < x0_2_2_1)) (.ret (((4 : Int), ()))) (.ret (((0 : Int), ()))))) (.ret (((0 : Int), ())))) (.ret (((0 : Int), ()))))) (cond (decide (x1 ≠ (0 : Int))) (cond (decide (x0_2_1 = (-1 : Int))) (cond (x0_1) (.ret (((4 : Int), ()))) (cond (decide ((0 : Int) < x0_2_2_1)) (.ret (((4 : Int), ()))) (.ret (((0 : Int), ()))))) (.ret (((0 : Int), ())))) (.ret (((0 : Int), ())))))))))) := by kernel_rfl
theorem cohand_valid : cohand.Valid Try.prog 112 := by
  refine Ctr.valid_of Eohand_ok rfl rfl Try.func112 (c := bodyOf Try.prog 112) rfl rfl Fohand_ok rfl ?_
  rintro ⟨⟨(b : Bool), (s : Int), (o : Int), ⟨⟩⟩, (p : Int), (n : Int), ⟨⟩⟩ ⟨(h0 : 0 ≤ p), (h1 : 1 ≤ n), (h2 : n ≤ 1000)⟩ -
  refine exec_sound (n := 1000) Eohand_ok Fohand_ok ?_
  refine holds_of_eq (Eohand_t b s o p n) ?_
  have key : ∀ {x : Int}, x = ohand (b, s, o, ()) p n → ((x, ()) : Int × Unit) = (ohand (b, s, o, ()) p n, ()) := by rintro x rfl; rfl
  simp only [holds_cond, Tree.holds, true_and, true_implies, decide_eq_true_eq, decide_eq_false_iff_not, Bool.not_eq_true', Bool.not_eq_false', Int.toNat_natCast, inK_i64, List.length_set, List.length_cons, List.length_nil]
  refine ⟨by omega, fun _ => ⟨fun a => key (by rw [ohand, if_pos a]), fun a => ⟨fun c => key (by rw [ohand, if_neg (by simp [a]), if_pos c]), fun c => ?_⟩⟩⟩
  have hd : ohand (b, s, o, ()) p n = if s = p ∨ (p = 0 ∧ s ≠ -1) ∨ (p ≠ 0 ∧ s = -1 ∧ (b = true ∨ 0 < o)) then 4 else 0 := by rw [ohand, if_neg (by simp [a]), if_neg (by simp [c])]
  repeat' first | exact trivial | (refine And.intro ?_ ?_) | (intro _)
  all_goals first | (exfalso; omega) | (exfalso; simp_all; done) | skip
  all_goals (refine key ?_; rw [hd]; split <;> first | rfl | (exfalso; omega) | (exfalso; rename_i h8 h9; subst h8; simp at h9; omega) | (exfalso; rename_i h7 h8 h9; subst h7; simp at h9; omega))
def hand0 : HandD := (false, 0, 0, ())
def word0 : WordD := (0, 0, 0, ())
def oword (w : WordD) (n : Int) : Int := if inF w.1 0 (n - 1) = false then 1 else if inF w.2.1 0 (n - 1) = false then 1 else if w.1 = w.2.1 then 4 else if inF w.2.2.1 0 1 = false then 4 else 0
def handsE (t : OverD) (i : Nat) : Int := ohand (t.1.getD i hand0) i t.1.length
def wordsE (t : OverD) (i : Nat) : Int := oword (t.2.1.getD i word0) t.1.length
def ocheck (t : OverD) : Int :=
  if inF (t.1.length : Int) 1 6 = false then 1 else if firstE (handsE t) t.1.length ≠ 0 then firstE (handsE t) t.1.length else
  if (100 : Int) < t.2.1.length then 2 else firstE (wordsE t) t.2.1.length
def cocheck : Ctr := { ps := [.v Over], rs := [I64], pre := fun _ => True, fn := fun x => (ocheck x.1, ()), out := fun _ => () }
noncomputable def Eocheck : Env := { P := Try.prog, tt := tt, ctr := [(109, coin), (112, cohand)], res := [Go.ResultVar.tmp 2], rs := [Ty.int IntKind.i64], ps := [PK.v (Ty.pair (Ty.slc false Hand) (Ty.pair (Ty.slc false Word) Ty.unit))], cuts := [(5, [(1, none), (3, none), (16, none), (17, none), (18, none)]), (14, [(3, none), (36, none), (37, none), (38, none)])], nt := 70 }
theorem Eocheck_ok : EnvOk Eocheck := envOk tt_ok ⟨coin_valid, cohand_valid, trivial⟩
theorem Focheck_ok : FnOk Eocheck Try.f58 := ⟨rfl, rfl⟩
theorem Eocheck_t (x0_1 : List (Bool × Int × Int × Unit)) (x0_2_1 : List (Int × Int × Int × Unit)) : exec Eocheck 1000 [.code (bodyOf Try.prog 58)] (initSt cocheck.ps (((x0_1, x0_2_1, ()), ()))) =
  .need (True) (cond (!inF (↑(List.length x0_1) : Int) (1 : Int) (6 : Int)) (.ret (((1 : Int), ()))) (.cut (loopAt (bodyOf Try.prog 58) 5).1 (loopAt (bodyOf Try.prog 58) 5).2 (St.mk [(1, AV.ptr 1 []), (3, AV.val (Ty.int IntKind.i64) (↑(List.length x0_1) : Int)), (16, AV.val (Ty.slc false Hand) x0_1), (17, AV.val (Ty.int IntKind.i64) (↑(List.length x0_1) : Int)), (18, AV.val (Ty.int IntKind.i64) (0 : Int))] [(1, Ent.var (Ty.pair (Ty.slc false Hand) (Ty.pair (Ty.slc false Word) Ty.unit)) (x0_1, x0_2_1, ()))]))) := by kernel_rfl
def Eocheck_s5 (v3 : Int) (v16 : List (Bool × Int × Int × Unit)) (v17 : Int) (v18 : Int) (o1_1 : List (Bool × Int × Int × Unit)) (o1_2_1 : List (Int × Int × Int × Unit)) : St := St.mk [(1, AV.ptr 1 []), (3, AV.val (Ty.int IntKind.i64) v3), (16, AV.val (Ty.slc false Hand) v16), (17, AV.val (Ty.int IntKind.i64) v17), (18, AV.val (Ty.int IntKind.i64) v18)] [(1, Ent.var (Ty.pair (Ty.slc false Hand) (Ty.pair (Ty.slc false Word) Ty.unit)) (o1_1, o1_2_1, ()))]
theorem Eocheck_l5 (v3 : Int) (v16 : List (Bool × Int × Int × Unit)) (v17 : Int) (v18 : Int) (o1_1 : List (Bool × Int × Int × Unit)) (o1_2_1 : List (Int × Int × Int × Unit)) : exec Eocheck 1000 (.code (loopAt (bodyOf Try.prog 58) 5).1 :: .inLoop (loopAt (bodyOf Try.prog 58) 5).1 :: (loopAt (bodyOf Try.prog 58) 5).2) (Eocheck_s5 v3 v16 v17 v18 o1_1 o1_2_1) =
  cond (decide (v18 < v17)) (.need ((0 : Int) ≤ v18 ∧ v18 < (↑(List.length v16) : Int)) (.need ((0 : Int) ≤ v18 ∧ (1 : Int) ≤ v3 ∧ v3 ≤ (1000 : Int)) (cond (decide (ohand (List.getD v16 (Int.toNat v18) (false, (0 : Int), (0 : Int), ())) v18 v3 ≠ (0 : Int))) (.ret ((ohand (List.getD v16 (Int.toNat v18) (false, (0 : Int), (0 : Int), ())) v18 v3, ()))) (.need (inK IntKind.i64 (v18 + (1 : Int))) (.cut (loopAt (bodyOf Try.prog 58) 5).1 (loopAt (bodyOf Try.prog 58) 5).2 (St.mk [(1, AV.ptr 1 []), (3, AV.val (Ty.int IntKind.i64) v3), (16, AV.val (Ty.slc false Hand) v16), (17, AV.val (Ty.int IntKind.i64) v17), (18, AV.val (Ty.int IntKind.i64) (v18 + (1 : Int)))] [(1, Ent.var (Ty.pair (Ty.slc false Hand) (Ty.pair (Ty.slc false Word) Ty.unit)) (o1_1, o1_2_1, ()))])))))) (cond (decide ((100 : Int) < (↑(List.length o1_2_1) : Int))) (.ret (((2 : Int), ()))) (.cut (loopAt (bodyOf Try.prog 58) 14).1 (loopAt (bodyOf Try.prog 58) 14).2 (St.mk [(3, AV.val (Ty.int IntKind.i64) v3), (36, AV.val (Ty.slc false Word) o1_2_1), (37, AV.val (Ty.int IntKind.i64) (↑(List.length o1_2_1) : Int)), (38, AV.val (Ty.int IntKind.i64) (0 : Int))] []))) := by kernel_rfl
def Eocheck_s14 (v3 : Int) (v36 : List (Int × Int × Int × Unit)) (v37 : Int) (v38 : Int) : St := St.mk [(3, AV.val (Ty.int IntKind.i64) v3), (36, AV.val (Ty.slc false Word) v36), (37, AV.val (Ty.int IntKind.i64) v37), (38, AV.val (Ty.int IntKind.i64) v38)] []
theorem Eocheck_l14 (v3 : Int) (v36 : List (Int × Int × Int × Unit)) (v37 : Int) (v38 : Int) : exec Eocheck 1000 (.code (loopAt (bodyOf Try.prog 58) 14).1 :: .inLoop (loopAt (bodyOf Try.prog 58) 14).1 :: (loopAt (bodyOf Try.prog 58) 14).2) (Eocheck_s14 v3 v36 v37 v38) =
  cond (decide (v38 < v37)) (.need ((0 : Int) ≤ v38 ∧ v38 < (↑(List.length v36) : Int)) (.need (inK IntKind.i64 (v3 - (1 : Int))) (.need (True) (cond (!inF (Prod.fst (List.getD v36 (Int.toNat v38) ((0 : Int), (0 : Int), (0 : Int), ()))) (0 : Int) (v3 - (1 : Int))) (.ret (((1 : Int), ()))) (.need (inK IntKind.i64 (v3 - (1 : Int))) (.need (True) (cond (!inF (Prod.fst (Prod.snd (List.getD v36 (Int.toNat v38) ((0 : Int), (0 : Int), (0 : Int), ())))) (0 : Int) (v3 - (1 : Int))) (.ret (((1 : Int), ()))) (cond (decide (Prod.fst (List.getD v36 (Int.toNat v38) ((0 : Int), (0 : Int), (0 : Int), ())) = Prod.fst (Prod.snd (List.getD v36 (Int.toNat v38) ((0 : Int), (0 : Int), (0 : Int), ()))))) (.ret (((4 : Int), ()))) (.need (True) (cond (!inF (Prod.fst (Prod.snd (Prod.snd (List.getD v36 (Int.toNat v38) ((0 : Int), (0 : Int), (0 : Int), ()))))) (0 : Int) (1 : Int)) (.ret (((4 : Int), ()))) (.need (inK IntKind.i64 (v38 + (1 : Int))) (.cut (loopAt (bodyOf Try.prog 58) 14).1 (loopAt (bodyOf Try.prog 58) 14).2 (St.mk [(3, AV.val (Ty.int IntKind.i64) v3), (36, AV.val (Ty.slc false Word) v36), (37, AV.val (Ty.int IntKind.i64) v37), (38, AV.val (Ty.int IntKind.i64) (v38 + (1 : Int)))] []))))))))))))) (.ret (((0 : Int), ()))) := by kernel_rfl
theorem cocheck_valid : cocheck.Valid Try.prog 58 := by
  refine Ctr.valid_of Eocheck_ok rfl rfl Try.func58 (c := bodyOf Try.prog 58) rfl rfl Focheck_ok rfl ?_
  rintro ⟨⟨(hs : List HandD), (ws : List WordD), ⟨⟩⟩, ⟨⟩⟩ - ⟨⟨⟨hl1, -⟩, ⟨hl2, -⟩, -⟩, -⟩
  have hl1 : hs.length ≤ 9223372036854775807 := hl1
  have hl2 : ws.length ≤ 9223372036854775807 := hl2
  refine exec_sound (n := 1000) Eocheck_ok Focheck_ok ?_
  refine holds_of_eq (Eocheck_t hs ws) ?_
  have key : ∀ {x : Int}, x = ocheck (hs, ws, ()) → ((x, ()) : Int × Unit) = (ocheck (hs, ws, ()), ()) := by rintro x rfl; rfl
  have hd : ocheck (hs, ws, ()) = if inF (hs.length : Int) 1 6 = false then 1 else if firstE (handsE (hs, ws, ())) hs.length ≠ 0 then firstE (handsE (hs, ws, ())) hs.length else
    if (100 : Int) < ws.length then 2 else firstE (wordsE (hs, ws, ())) ws.length := rfl
  simp only [holds_cond, Tree.holds, true_and, true_implies, decide_eq_true_eq, decide_eq_false_iff_not, Bool.not_eq_true', Bool.not_eq_false', Int.toNat_natCast, inK_i64, List.length_set, List.length_cons, List.length_nil]
  refine ⟨fun a => key (by rw [hd, if_pos a]), fun a => ?_⟩
  have hn := inF_iff.1 a
  rw [if_neg (by simp [a])] at hd
  refine Reach.loopI Eocheck_ok Focheck_ok (fun i : Nat => Eocheck_s5 (hs.length : Int) hs (hs.length : Int) (i : Int) hs ws) (fun i => i ≤ hs.length ∧ firstE (handsE (hs, ws, ())) i = 0) (fun i => hs.length - i) 1000 (fun _ => ⟨uniq_of rfl, uniq_of rfl⟩) ?_ 0 ⟨by omega, rfl⟩
  rintro i ⟨k1, k2⟩ - ih
  have k1 : i ≤ hs.length := k1
  refine holds_of_eq (Eocheck_l5 ..) ?_
  simp only [holds_cond, Tree.holds, true_and, true_implies, decide_eq_true_eq, decide_eq_false_iff_not, Bool.not_eq_true', Bool.not_eq_false', Int.toNat_natCast, inK_i64, List.length_set, List.length_cons, List.length_nil]
  refine ⟨fun c => ⟨by omega, fun _ => ⟨by omega, fun _ => ?_⟩⟩, fun c => ?_⟩
  · have hc : handsE (hs, ws, ()) i = ohand (hs.getD i (false, 0, 0, ())) i hs.length := rfl
    refine ⟨fun e => key ?_, fun e => ⟨by omega, fun _ => ih (i + 1) ⟨by omega, firstE_step k2 (hc.trans (Decidable.not_not.1 e))⟩ (by omega)⟩⟩
    have h9 : firstE (handsE (hs, ws, ())) hs.length = handsE (hs, ws, ()) i := firstE_stop k2 (by rw [hc]; exact e) (by omega)
    rw [hd, h9, if_pos (by rw [hc]; exact e), hc]
  · have e : i = hs.length := by omega
    rw [e] at k2
    rw [if_neg (by simp [k2])] at hd
    refine ⟨fun d => key (by rw [hd, if_pos d]), fun d => ?_⟩
    rw [if_neg d] at hd
    refine Reach.loopI Eocheck_ok Focheck_ok (fun i : Nat => Eocheck_s14 (hs.length : Int) ws (ws.length : Int) (i : Int)) (fun i => i ≤ ws.length ∧ firstE (wordsE (hs, ws, ())) i = 0) (fun i => ws.length - i) 1000 (fun _ => ⟨uniq_of rfl, uniq_of rfl⟩) ?_ 0 ⟨by omega, rfl⟩
    rintro i ⟨k1, k2⟩ - ih
    have k1 : i ≤ ws.length := k1
    refine holds_of_eq (Eocheck_l14 ..) ?_
    simp only [holds_cond, Tree.holds, true_and, true_implies, decide_eq_true_eq, decide_eq_false_iff_not, Bool.not_eq_true', Bool.not_eq_false', Int.toNat_natCast, inK_i64, List.length_set, List.length_cons, List.length_nil]
    have hc : wordsE (hs, ws, ()) i = oword (ws.getD i (0, 0, 0, ())) hs.length := rfl
    generalize ws.getD i (0, 0, 0, ()) = w at hc
    obtain ⟨x, y, z, ⟨⟩⟩ := w
    refine ⟨fun c => ⟨by omega, fun _ => ⟨by omega, fun _ => ?_⟩⟩, fun c => key (by rw [hd, show ws.length = i by omega, k2])⟩
    have stop : ∀ {v : Int}, v ≠ 0 → oword (x, y, z, ()) hs.length = v → ((v, ()) : Int × Unit) = (ocheck (hs, ws, ()), ()) := fun hv h9 => key (by
      rw [hd, firstE_stop k2 (by rw [hc, h9]; exact hv) (by omega), hc, h9])
    refine ⟨fun p1 => stop (by decide) (by rw [oword, if_pos p1]), fun p1 => ⟨by omega, fun _ => ⟨fun p2 => stop (by decide) (by rw [oword, if_neg (by simp [p1]), if_pos p2]), fun p2 => ⟨fun p3 => stop (by decide) (by rw [oword, if_neg (by simp [p1]), if_neg (by simp [p2]), if_pos p3]), fun p3 => ⟨fun p4 => stop (by decide) (by rw [oword, if_neg (by simp [p1]), if_neg (by simp [p2]), if_neg p3, if_pos p4]), fun p4 => ⟨by omega, fun _ => ih (i + 1) ⟨by omega, firstE_step k2 ?_⟩ (by omega)⟩⟩⟩⟩⟩⟩
    rw [hc, oword, if_neg (by simp [p1]), if_neg (by simp [p2]), if_neg p3, if_neg (by simp [p4])]
def cwDel : Ctr := { ps := [.own (.slc true Word), .v I64, .v I64], rs := [.slc true Word], pre := fun x => LE.le (α := Int) 0 x.2.1 ∧ LE.le (α := Int) x.2.1 x.2.2.1 ∧ LE.le (α := Int) x.2.2.1 (List.length (α := WordD) x.1), fn := fun x => (List.take (α := WordD) (Int.toNat x.2.1) x.1 ++ List.drop (α := WordD) (Int.toNat x.2.2.1) x.1, ()), out := fun _ => () }
noncomputable def EwDel : Env := { P := Try.prog, tt := tt, ctr := [], res := [Go.ResultVar.tmp 6], rs := [Ty.slc true Word], ps := [PK.own (Ty.slc true Word), PK.v (Ty.int IntKind.i64), PK.v (Ty.int IntKind.i64)], cuts := [], nt := 33 }
theorem EwDel_ok : EnvOk EwDel := envOk tt_ok trivial
theorem FwDel_ok : FnOk EwDel Try.f97 := ⟨rfl, rfl⟩
theorem EwDel_t (x0 : List (Int × Int × Int × Unit)) (x1 : Int) (x2 : Int) : exec EwDel 1000 [.code (bodyOf Try.prog 97)] (initSt cwDel.ps ((x0, x1, x2, ()))) =
  .need ((0 : Int) ≤ x1 ∧ x1 ≤ x2 ∧ x2 ≤ (↑(List.length x0) : Int) ∧ (↑(List.length x0) : Int) ≤ (↑(List.length x0) : Int)) (cond (decide (x1 = x2)) (.ret ((x0, ()))) (.need ((0 : Int) ≤ (0 : Int) ∧ (0 : Int) ≤ x1 ∧ x1 ≤ (↑(List.length x0) : Int)) (.need ((0 : Int) ≤ x2 ∧ x2 ≤ (↑(List.length x0) : Int) ∧ (↑(List.length x0) : Int) ≤ (↑(List.length x0) : Int)) (.need (x1 + (↑(List.length (cut2 x2 (↑(List.length x0) : Int) x0)) : Int) ≤ (↑(List.length x0) : Int)) (.need ((0 : Int) ≤ x1 + (↑(List.length (cut2 x2 (↑(List.length x0) : Int) x0)) : Int) - (0 : Int) ∧ x1 + (↑(List.length (cut2 x2 (↑(List.length x0) : Int) x0)) : Int) - (0 : Int) ≤ (↑(List.length x0) : Int) ∧ (0 : Int) + (↑(List.length x0) : Int) ≤ (↑(List.length (List.take (Int.toNat x1) x0 ++ cut2 x2 (↑(List.length x0) : Int) x0 ++ List.drop (Int.toNat x1 + List.length (cut2 x2 (↑(List.length x0) : Int) x0)) x0)) : Int)) (.ret ((cut2 (0 : Int) (x1 + (↑(List.length (cut2 x2 (↑(List.length x0) : Int) x0)) : Int)) (List.take (Int.toNat ((0 : Int) + (x1 + (↑(List.length (cut2 x2 (↑(List.length x0) : Int) x0)) : Int) - (0 : Int)))) (List.take (Int.toNat x1) x0 ++ cut2 x2 (↑(List.length x0) : Int) x0 ++ List.drop (Int.toNat x1 + List.length (cut2 x2 (↑(List.length x0) : Int) x0)) x0) ++ List.replicate (Int.toNat ((0 : Int) + (↑(List.length x0) : Int) - ((0 : Int) + (x1 + (↑(List.length (cut2 x2 (↑(List.length x0) : Int) x0)) : Int) - (0 : Int))))) ((0 : Int), (0 : Int), (0 : Int), ()) ++ List.drop (Int.toNat ((0 : Int) + (x1 + (↑(List.length (cut2 x2 (↑(List.length x0) : Int) x0)) : Int) - (0 : Int))) + List.length (List.replicate (Int.toNat ((0 : Int) + (↑(List.length x0) : Int) - ((0 : Int) + (x1 + (↑(List.length (cut2 x2 (↑(List.length x0) : Int) x0)) : Int) - (0 : Int))))) ((0 : Int), (0 : Int), (0 : Int), ()))) (List.take (Int.toNat x1) x0 ++ cut2 x2 (↑(List.length x0) : Int) x0 ++ List.drop (Int.toNat x1 + List.length (cut2 x2 (↑(List.length x0) : Int) x0)) x0)), ())))))))) := by kernel_rfl
theorem cwDel_valid : cwDel.Valid Try.prog 97 := by
  refine Ctr.valid_of EwDel_ok rfl rfl Try.func97 (c := bodyOf Try.prog 97) rfl rfl FwDel_ok rfl ?_
  rintro ⟨(l : List (WordD)), (i : Int), (j : Int), ⟨⟩⟩ ⟨(h0 : 0 ≤ i), (h1 : i ≤ j), (h2 : j ≤ (l.length : Int))⟩ -
  refine exec_sound (n := 1000) EwDel_ok FwDel_ok ?_
  refine holds_of_eq (EwDel_t l i j) ?_
  simp only [holds_cond, Tree.holds, true_and, true_implies, decide_eq_true_eq, decide_eq_false_iff_not, Bool.not_eq_true', Bool.not_eq_false', Int.toNat_natCast, inK_i64, List.length_set, List.length_cons, List.length_nil]
  have hc := del_len h0 h1 h2 (l := l)
  have hm := del_mid h0 h1 h2 (l := l)
  refine ⟨⟨h0, h1, h2, Int.le_refl _⟩, fun _ => ⟨fun e => ?_, fun e => ⟨by omega, fun _ => ⟨by omega, fun _ => ⟨by omega, fun _ => ⟨by omega, fun _ => ?_⟩⟩⟩⟩⟩⟩
  · subst e
    show ((l, ()) : List (WordD) × Unit) = (l.take i.toNat ++ l.drop i.toNat, ())
    rw [List.take_append_drop]
  · exact congrArg (fun y => (y, ())) (del_fin h0 h1 h2 (l := l))
theorem wbwClone : Ty.wb Word = 24 := rfl
def cwClone : Ctr := { ps := [.v (.slc false Word)], rs := [.slc true Word], pre := fun x => List.length (α := WordD) x.1 ≤ 1048576, fn := fun x => x, out := fun _ => () }
noncomputable def EwClone : Env := { P := Try.prog, tt := tt, ctr := [], res := [Go.ResultVar.tmp 2], rs := [Ty.slc true Word], ps := [PK.v (Ty.slc false Word)], cuts := [], nt := 8 }
theorem EwClone_ok : EnvOk EwClone := envOk tt_ok trivial
theorem FwClone_ok : FnOk EwClone Try.f126 := ⟨rfl, rfl⟩
theorem EwClone_t (x0 : List (Int × Int × Int × Unit)) : exec EwClone 1000 [.code (bodyOf Try.prog 126)] (initSt cwClone.ps ((x0, ()))) =
  .both (x0 = []) (.ret (([], ()))) (.need ((0 : Nat) + List.length x0 ≤ 140737488355328 ∧ ((0 : Nat) + List.length x0) * Ty.wb Word ≤ 140737488355328) (.ret (([] ++ x0, ())))) := by kernel_rfl
theorem cwClone_valid : cwClone.Valid Try.prog 126 := by
  refine Ctr.valid_of EwClone_ok rfl rfl Try.func126 (c := bodyOf Try.prog 126) rfl rfl FwClone_ok rfl ?_
  rintro ⟨(l : List (WordD)), ⟨⟩⟩ hp -
  have hp : l.length ≤ 1048576 := hp
  refine exec_sound (n := 1000) EwClone_ok FwClone_ok ?_
  refine holds_of_eq (EwClone_t l) ?_
  simp only [holds_cond, Tree.holds, true_and, true_implies, decide_eq_true_eq, decide_eq_false_iff_not, Bool.not_eq_true', Bool.not_eq_false', Int.toNat_natCast, inK_i64, List.length_set, List.length_cons, List.length_nil, wbwClone]
  refine ⟨fun h => ?_, by omega, fun _ => rfl⟩
  show (([], ()) : List (WordD) × Unit) = (l, ())
  rw [show l = [] from h]
theorem wbhClone : Ty.wb Hand = 24 := rfl
def chClone : Ctr := { ps := [.v (.slc false Hand)], rs := [.slc true Hand], pre := fun x => List.length (α := HandD) x.1 ≤ 1048576, fn := fun x => x, out := fun _ => () }
noncomputable def EhClone : Env := { P := Try.prog, tt := tt, ctr := [], res := [Go.ResultVar.tmp 2], rs := [Ty.slc true Hand], ps := [PK.v (Ty.slc false Hand)], cuts := [], nt := 8 }
theorem EhClone_ok : EnvOk EhClone := envOk tt_ok trivial
theorem FhClone_ok : FnOk EhClone Try.f130 := ⟨rfl, rfl⟩
theorem EhClone_t (x0 : List (Bool × Int × Int × Unit)) : exec EhClone 1000 [.code (bodyOf Try.prog 130)] (initSt chClone.ps ((x0, ()))) =
  .both (x0 = []) (.ret (([], ()))) (.need ((0 : Nat) + List.length x0 ≤ 140737488355328 ∧ ((0 : Nat) + List.length x0) * Ty.wb Hand ≤ 140737488355328) (.ret (([] ++ x0, ())))) := by kernel_rfl
theorem chClone_valid : chClone.Valid Try.prog 130 := by
  refine Ctr.valid_of EhClone_ok rfl rfl Try.func130 (c := bodyOf Try.prog 130) rfl rfl FhClone_ok rfl ?_
  rintro ⟨(l : List (HandD)), ⟨⟩⟩ hp -
  have hp : l.length ≤ 1048576 := hp
  refine exec_sound (n := 1000) EhClone_ok FhClone_ok ?_
  refine holds_of_eq (EhClone_t l) ?_
  simp only [holds_cond, Tree.holds, true_and, true_implies, decide_eq_true_eq, decide_eq_false_iff_not, Bool.not_eq_true', Bool.not_eq_false', Int.toNat_natCast, inK_i64, List.length_set, List.length_cons, List.length_nil, wbhClone]
  refine ⟨fun h => ?_, by omega, fun _ => rfl⟩
  show (([], ()) : List (HandD) × Unit) = (l, ())
  rw [show l = [] from h]
def coclone : Ctr := { ps := [.v Over], rs := [OverO], pre := fun x => List.length (α := HandD) x.1.1 ≤ 1048576 ∧ List.length (α := WordD) x.1.2.1 ≤ 1048576, fn := fun x => x, out := fun _ => () }
noncomputable def Eoclone : Env := { P := Try.prog, tt := tt, ctr := [(130, chClone), (126, cwClone)], res := [Go.ResultVar.cell 2 100], rs := [Ty.pair (Ty.slc true Hand) (Ty.pair (Ty.slc true Word) Ty.unit)], ps := [PK.v (Ty.pair (Ty.slc false Hand) (Ty.pair (Ty.slc false Word) Ty.unit))], cuts := [], nt := 10 }
theorem Eoclone_ok : EnvOk Eoclone := envOk tt_ok ⟨chClone_valid, cwClone_valid, trivial⟩
theorem Foclone_ok : FnOk Eoclone Try.f110 := ⟨rfl, rfl⟩
theorem Eoclone_t (x0_1 : List (Bool × Int × Int × Unit)) (x0_2_1 : List (Int × Int × Int × Unit)) : exec Eoclone 1000 [.code (bodyOf Try.prog 110)] (initSt coclone.ps (((x0_1, x0_2_1, ()), ()))) =
  .need (List.length x0_1 ≤ 1048576) (.need (List.length x0_2_1 ≤ 1048576) (.ret (((x0_1, x0_2_1, ()), ())))) := by kernel_rfl
theorem coclone_valid : coclone.Valid Try.prog 110 := by
  refine Ctr.valid_of Eoclone_ok rfl rfl Try.func110 (c := bodyOf Try.prog 110) rfl rfl Foclone_ok rfl ?_
  rintro ⟨⟨(hs : List HandD), (ws : List WordD), ⟨⟩⟩, ⟨⟩⟩ ⟨h1, h2⟩ -
  refine exec_sound (n := 1000) Eoclone_ok Foclone_ok ?_
  refine holds_of_eq (Eoclone_t hs ws) ?_
  exact ⟨h1, fun _ => ⟨h2, fun _ => rfl⟩⟩
def hAt (t : OverD) (p : Int) : HandD := t.1.getD p.toNat hand0
def detB (h : HandD) (p : Int) : Bool := decide (p = 0) || decide (h.2.1 = -1) || h.1 || decide (0 < h.2.2.1)
def odet (t : OverD) (p : Int) : OverD := if detB (hAt t p) p = true then t else (t.1.set p.toNat ((hAt t p).1, -1, (hAt t p).2.2), t.2.1 ++ [(p, (hAt t p).2.1, 0, ())], ())
def codet : Ctr := { ps := [.rw OverO, .v I64], rs := [], pre := fun x => LE.le (α := Int) 0 x.2.1 ∧ LT.lt (α := Int) x.2.1 (List.length (α := HandD) x.1.1) ∧ List.length (α := WordD) x.1.2.1 ≤ 1048576, fn := fun _ => (), out := fun x => (odet x.1 x.2.1, ()) }
noncomputable def Eodet : Env := { P := Try.prog, tt := tt, ctr := [], res := [], rs := [], ps := [PK.rw (Ty.pair (Ty.slc true Hand) (Ty.pair (Ty.slc true Word) Ty.unit)), PK.v (Ty.int IntKind.i64)], cuts := [], nt := 51 }
theorem Eodet_ok : EnvOk Eodet := envOk tt_ok trivial
theorem Fodet_ok : FnOk Eodet Try.f111 := ⟨rfl, rfl⟩
theorem Eodet_t (x0_1 : List (Bool × Int × Int × Unit)) (x0_2_1 : List (Int × Int × Int × Unit)) (x1 : Int) : exec Eodet 1000 [.code (bodyOf Try.prog 111)] (initSt codet.ps (((x0_1, x0_2_1, ()), x1, ()))) =
  .need ((0 : Int) ≤ x1 ∧ x1 < (↑(List.length x0_1) : Int)) (cond (decide (x1 = (0 : Int))) (.ret (((x0_1, x0_2_1, ()), ()))) (cond (decide (Prod.fst (Prod.snd (List.getD x0_1 (Int.toNat x1) (false, (0 : Int), (0 : Int), ()))) = (-1 : Int))) (.ret (((x0_1, x0_2_1, ()), ()))) (cond (Prod.fst (List.getD x0_1 (Int.toNat x1) (false, (0 : Int), (0 : Int), ()))) (.ret (((x0_1, x0_2_1, ()), ()))) (cond (decide ((0 : Int) < Prod.fst (Prod.snd (Prod.snd (List.getD x0_1 (Int.toNat x1) (false, (0 : Int), (0 : Int), ())))))) (.ret (((x0_1, x0_2_1, ()), ()))) (.need ([] ++ [Step.fld 1] = [] ++ [Step.fld 1] ∧ List.length x0_2_1 + List.length (List.set [((0 : Int), (0 : Int), (0 : Int), ())] (Int.toNat (↑0 : Int)) (x1, Prod.fst (Prod.snd (List.getD x0_1 (Int.toNat x1) (false, (0 : Int), (0 : Int), ()))), (0 : Int), ())) ≤ 140737488355328 ∧ (List.length x0_2_1 + List.length (List.set [((0 : Int), (0 : Int), (0 : Int), ())] (Int.toNat (↑0 : Int)) (x1, Prod.fst (Prod.snd (List.getD x0_1 (Int.toNat x1) (false, (0 : Int), (0 : Int), ()))), (0 : Int), ()))) * Ty.wb Word ≤ 140737488355328) (.ret (((List.set x0_1 (Int.toNat x1) (Prod.fst (List.getD x0_1 (Int.toNat x1) (false, (0 : Int), (0 : Int), ())), (-1 : Int), Prod.snd (Prod.snd (List.getD x0_1 (Int.toNat x1) (false, (0 : Int), (0 : Int), ())))), x0_2_1 ++ List.set [((0 : Int), (0 : Int), (0 : Int), ())] (Int.toNat (↑0 : Int)) (x1, Prod.fst (Prod.snd (List.getD x0_1 (Int.toNat x1) (false, (0 : Int), (0 : Int), ()))), (0 : Int), ()), ()), ())))))))) := by kernel_rfl
theorem codet_valid : codet.Valid Try.prog 111 := by
  refine Ctr.valid_of Eodet_ok rfl rfl Try.func111 (c := bodyOf Try.prog 111) rfl rfl Fodet_ok rfl ?_
  rintro ⟨⟨(hs : List HandD), (ws : List WordD), ⟨⟩⟩, (p : Int), ⟨⟩⟩ ⟨(h0 : 0 ≤ p), (h1 : p < (hs.length : Int)), (h2 : ws.length ≤ 1048576)⟩ -
  refine exec_sound (n := 1000) Eodet_ok Fodet_ok ?_
  refine holds_of_eq (Eodet_t hs ws p) ?_
  have key : ∀ {x : OverD}, x = odet (hs, ws, ()) p → ((x, ()) : OverD × Unit) = (odet (hs, ws, ()) p, ()) := by rintro x rfl; rfl
  have hd : odet (hs, ws, ()) p = if detB (hs.getD p.toNat (false, 0, 0, ())) p = true then (hs, ws, ()) else (hs.set p.toNat ((hs.getD p.toNat (false, 0, 0, ())).1, -1, (hs.getD p.toNat (false, 0, 0, ())).2.2), ws ++ [(p, (hs.getD p.toNat (false, 0, 0, ())).2.1, 0, ())], ()) := rfl
  generalize hs.getD p.toNat (false, 0, 0, ()) = h at hd
  obtain ⟨b, s, o, ⟨⟩⟩ := h
  simp only [holds_cond, Tree.holds, true_and, true_implies, decide_eq_true_eq, decide_eq_false_iff_not, Bool.not_eq_true', Bool.not_eq_false', Int.toNat_natCast, inK_i64, List.length_set, List.length_cons, List.length_nil, wbwClone]
  refine ⟨⟨h0, h1⟩, fun _ => ⟨fun a => key (by rw [hd, if_pos (by simp [detB, a])]), fun a => ⟨fun c => key (by rw [hd, if_pos (by simp [detB, c])]), fun c => ⟨fun d => key (by rw [hd, if_pos (by simp [detB, d])]), fun d => ⟨fun e => key (by rw [hd, if_pos (by simp [detB, e])]), fun e => ?_⟩⟩⟩⟩⟩
  refine ⟨⟨by omega, by omega⟩, fun _ => key ?_⟩
  rw [hd, if_neg (by simp [detB, a, c, d]; omega)]
  rfl
def o0 : OverD := ([], [], ())
def wAt (t : OverD) (k : Int) : WordD := t.2.1.getD k.toNat word0
def delW (t : OverD) (k : Int) : List WordD := t.2.1.take k.toNat ++ t.2.1.drop (k + 1).toNat
def dec0 (n : Int) : Int := if n - 1 < 0 then 0 else n - 1
def ackH (h : HandD) : HandD := (h.1, h.2.1, dec0 h.2.2.1, h.2.2.2)
def take1 (t : OverD) (k : Int) : OverD :=
  if (wAt t k).2.2.1 = 0 then odet (t.1.set (wAt t k).2.1.toNat (ackH (hAt t (wAt t k).2.1)), delW t k, ()) (wAt t k).2.1
  else if (wAt t k).2.1 ≠ 0 ∧ (hAt t (wAt t k).2.1).2.1 = -1 then (t.1.set (wAt t k).2.1.toNat (true, (wAt t k).1, (hAt t (wAt t k).2.1).2.2), delW t k, ())
  else (t.1.set (wAt t k).2.1.toNat (true, (hAt t (wAt t k).2.1).2), delW t k ++ [((wAt t k).2.1, (wAt t k).1, 0, ())], ())
def otake (t : OverD) (k : Int) : OverD × Int × Unit := if ocheck t ≠ 0 then (o0, ocheck t, ()) else if inF k 0 (t.2.1.length - 1) = false then (o0, 6, ()) else (take1 t k, 0, ())
def cotake : Ctr := { ps := [.v Over, .v I64], rs := [OverO, I64], pre := fun _ => True, fn := fun x => otake x.1 x.2.1, out := fun _ => () }
noncomputable def Eotake : Env := { P := Try.prog, tt := tt, ctr := [(109, coin), (58, cocheck), (110, coclone), (97, cwDel), (111, codet)], res := [Go.ResultVar.cell 4 100, Go.ResultVar.tmp 5], rs := [Ty.pair (Ty.slc true Hand) (Ty.pair (Ty.slc true Word) Ty.unit), Ty.int IntKind.i64], ps := [PK.v (Ty.pair (Ty.slc false Hand) (Ty.pair (Ty.slc false Word) Ty.unit)), PK.v (Ty.int IntKind.i64)], cuts := [], nt := 88 }
theorem Eotake_ok : EnvOk Eotake := envOk tt_ok ⟨coin_valid, cocheck_valid, coclone_valid, cwDel_valid, codet_valid, trivial⟩
theorem Fotake_ok : FnOk Eotake Try.f56 := ⟨rfl, rfl⟩
theorem Eotake_t (x0_1 : List (Bool × Int × Int × Unit)) (x0_2_1 : List (Int × Int × Int × Unit)) (x1 : Int) : exec Eotake 1000 [.code (bodyOf Try.prog 56)] (initSt cotake.ps (((x0_1, x0_2_1, ()), x1, ()))) =
  .need (True) (cond (decide (ocheck (x0_1, x0_2_1, ()) ≠ (0 : Int))) (.ret ((([], [], ()), ocheck (x0_1, x0_2_1, ()), ()))) (.need (inK IntKind.i64 ((↑(List.length x0_2_1) : Int) - (1 : Int))) (.need (True) (cond (!inF x1 (0 : Int) ((↑(List.length x0_2_1) : Int) - (1 : Int))) (.ret ((([], [], ()), (6 : Int), ()))) (.need (List.length x0_1 ≤ 1048576 ∧ List.length x0_2_1 ≤ 1048576) (.need ((0 : Int) ≤ x1 ∧ x1 < (↑(List.length x0_2_1) : Int)) (.need (inK IntKind.i64 (x1 + (1 : Int))) (.need (True ∧ [] ++ [Step.fld 1] = [] ++ [Step.fld 1] ∧ (0 : Int) ≤ x1 ∧ x1 ≤ x1 + (1 : Int) ∧ x1 + (1 : Int) ≤ (↑(List.length x0_2_1) : Int)) (.need ((0 : Int) ≤ Prod.fst (Prod.snd (List.getD x0_2_1 (Int.toNat x1) ((0 : Int), (0 : Int), (0 : Int), ()))) ∧ Prod.fst (Prod.snd (List.getD x0_2_1 (Int.toNat x1) ((0 : Int), (0 : Int), (0 : Int), ()))) < (↑(List.length x0_1) : Int)) (cond (decide (Prod.fst (Prod.snd (Prod.snd (List.getD x0_2_1 (Int.toNat x1) ((0 : Int), (0 : Int), (0 : Int), ())))) = (0 : Int))) (.need (inK IntKind.i64 (Prod.fst (Prod.snd (Prod.snd (List.getD x0_1 (Int.toNat (Prod.fst (Prod.snd (List.getD x0_2_1 (Int.toNat x1) ((0 : Int), (0 : Int), (0 : Int), ()))))) (false, (0 : Int), (0 : Int), ())))) - (1 : Int))) (.need ((0 : Int) ≤ Prod.fst (Prod.snd (List.getD x0_2_1 (Int.toNat x1) ((0 : Int), (0 : Int), (0 : Int), ()))) ∧ Prod.fst (Prod.snd (List.getD x0_2_1 (Int.toNat x1) ((0 : Int), (0 : Int), (0 : Int), ()))) < (↑(List.length (List.set x0_1 (Int.toNat (Prod.fst (Prod.snd (List.getD x0_2_1 (Int.toNat x1) ((0 : Int), (0 : Int), (0 : Int), ()))))) (Prod.fst (List.getD x0_1 (Int.toNat (Prod.fst (Prod.snd (List.getD x0_2_1 (Int.toNat x1) ((0 : Int), (0 : Int), (0 : Int), ()))))) (false, (0 : Int), (0 : Int), ())), Prod.fst (Prod.snd (List.getD x0_1 (Int.toNat (Prod.fst (Prod.snd (List.getD x0_2_1 (Int.toNat x1) ((0 : Int), (0 : Int), (0 : Int), ()))))) (false, (0 : Int), (0 : Int), ()))), if Prod.fst (Prod.snd (Prod.snd (List.getD x0_1 (Int.toNat (Prod.fst (Prod.snd (List.getD x0_2_1 (Int.toNat x1) ((0 : Int), (0 : Int), (0 : Int), ()))))) (false, (0 : Int), (0 : Int), ())))) - (1 : Int) < (0 : Int) then (0 : Int) else Prod.fst (Prod.snd (Prod.snd (List.getD x0_1 (Int.toNat (Prod.fst (Prod.snd (List.getD x0_2_1 (Int.toNat x1) ((0 : Int), (0 : Int), (0 : Int), ()))))) (false, (0 : Int), (0 : Int), ())))) - (1 : Int), Prod.snd (Prod.snd (Prod.snd (List.getD x0_1 (Int.toNat (Prod.fst (Prod.snd (List.getD x0_2_1 (Int.toNat x1) ((0 : Int), (0 : Int), (0 : Int), ()))))) (false, (0 : Int), (0 : Int), ()))))))) : Int) ∧ List.length (List.take (Int.toNat x1) x0_2_1 ++ List.drop (Int.toNat (x1 + (1 : Int))) x0_2_1) ≤ 1048576) (.ret ((odet (List.set x0_1 (Int.toNat (Prod.fst (Prod.snd (List.getD x0_2_1 (Int.toNat x1) ((0 : Int), (0 : Int), (0 : Int), ()))))) (Prod.fst (List.getD x0_1 (Int.toNat (Prod.fst (Prod.snd (List.getD x0_2_1 (Int.toNat x1) ((0 : Int), (0 : Int), (0 : Int), ()))))) (false, (0 : Int), (0 : Int), ())), Prod.fst (Prod.snd (List.getD x0_1 (Int.toNat (Prod.fst (Prod.snd (List.getD x0_2_1 (Int.toNat x1) ((0 : Int), (0 : Int), (0 : Int), ()))))) (false, (0 : Int), (0 : Int), ()))), if Prod.fst (Prod.snd (Prod.snd (List.getD x0_1 (Int.toNat (Prod.fst (Prod.snd (List.getD x0_2_1 (Int.toNat x1) ((0 : Int), (0 : Int), (0 : Int), ()))))) (false, (0 : Int), (0 : Int), ())))) - (1 : Int) < (0 : Int) then (0 : Int) else Prod.fst (Prod.snd (Prod.snd (List.getD x0_1 (Int.toNat (Prod.fst (Prod.snd (List.getD x0_2_1 (Int.toNat x1) ((0 : Int), (0 : Int), (0 : Int), ()))))) (false, (0 : Int), (0 : Int), ())))) - (1 : Int), Prod.snd (Prod.snd (Prod.snd (List.getD x0_1 (Int.toNat (Prod.fst (Prod.snd (List.getD x0_2_1 (Int.toNat x1) ((0 : Int), (0 : Int), (0 : Int), ()))))) (false, (0 : Int), (0 : Int), ()))))), List.take (Int.toNat x1) x0_2_1 ++ List.drop (Int.toNat (x1 + (1 : Int))) x0_2_1, ()) (Prod.fst (Prod.snd (List.getD x0_2_1 (Int.toNat x1) ((0 : Int), (0 : Int), (0 : Int), ())))), (0 : Int), ()))))) (cond (decide (Prod.fst (Prod.snd (List.getD x0_2_1 (Int.toNat x1) ((0 : Int), (0 : Int), (0 : Int), ()))) ≠ (0 : Int))) (cond (decide (Prod.fst (Prod.snd (List.getD (List.set x0_1 (Int.toNat (Prod.fst (Prod.snd (List.getD x0_2_1 (Int.toNat x1) ((0 : Int), (0 : Int), (0 : Int), ()))))) (true, Prod.snd (List.getD x0_1 (Int.toNat (Prod.fst (Prod.snd (List.getD x0_2_1 (Int.toNat x1) ((0 : Int), (0 : Int), (0 : Int), ()))))) (false, (0 : Int), (0 : Int), ())))) (Int.toNat (Prod.fst (Prod.snd (List.getD x0_2_1 (Int.toNat x1) ((0 : Int), (0 : Int), (0 : Int), ()))))) (false, (0 : Int), (0 : Int), ()))) = (-1 : Int))) (.ret (((List.set (List.set x0_1 (Int.toNat (Prod.fst (Prod.snd (List.getD x0_2_1 (Int.toNat x1) ((0 : Int), (0 : Int), (0 : Int), ()))))) (true, Prod.snd (List.getD x0_1 (Int.toNat (Prod.fst (Prod.snd (List.getD x0_2_1 (Int.toNat x1) ((0 : Int), (0 : Int), (0 : Int), ()))))) (false, (0 : Int), (0 : Int), ())))) (Int.toNat (Prod.fst (Prod.snd (List.getD x0_2_1 (Int.toNat x1) ((0 : Int), (0 : Int), (0 : Int), ()))))) (Prod.fst (List.getD (List.set x0_1 (Int.toNat (Prod.fst (Prod.snd (List.getD x0_2_1 (Int.toNat x1) ((0 : Int), (0 : Int), (0 : Int), ()))))) (true, Prod.snd (List.getD x0_1 (Int.toNat (Prod.fst (Prod.snd (List.getD x0_2_1 (Int.toNat x1) ((0 : Int), (0 : Int), (0 : Int), ()))))) (false, (0 : Int), (0 : Int), ())))) (Int.toNat (Prod.fst (Prod.snd (List.getD x0_2_1 (Int.toNat x1) ((0 : Int), (0 : Int), (0 : Int), ()))))) (false, (0 : Int), (0 : Int), ())), Prod.fst (List.getD x0_2_1 (Int.toNat x1) ((0 : Int), (0 : Int), (0 : Int), ())), Prod.snd (Prod.snd (List.getD (List.set x0_1 (Int.toNat (Prod.fst (Prod.snd (List.getD x0_2_1 (Int.toNat x1) ((0 : Int), (0 : Int), (0 : Int), ()))))) (true, Prod.snd (List.getD x0_1 (Int.toNat (Prod.fst (Prod.snd (List.getD x0_2_1 (Int.toNat x1) ((0 : Int), (0 : Int), (0 : Int), ()))))) (false, (0 : Int), (0 : Int), ())))) (Int.toNat (Prod.fst (Prod.snd (List.getD x0_2_1 (Int.toNat x1) ((0 : Int), (0 : Int), (0 : Int), ()))))) (false, (0 : Int), (0 : Int), ())))), List.take (Int.toNat x1) x0_2_1 ++ List.drop (Int.toNat (x1 + (1 : Int))) x0_2_1, ()), (0 : Int), ()))) (.need (True ∧ [] ++ [Step.fld 1] = [] ++ [Step.fld 1] ∧ List.length (List.take (Int.toNat x1) x0_2_1 ++ List.drop (Int.toNat (x1 + (1 : Int))) x0_2_1) + List.length (List.set [((0 : Int), (0 : Int), (0 : Int), ())] (Int.toNat (↑0 : Int)) (Prod.fst (Prod.snd (List.getD x0_2_1 (Int.toNat x1) ((0 : Int), (0 : Int), (0 : Int), ()))), Prod.fst (List.getD x0_2_1 (Int.toNat x1) ((0 : Int), (0 : Int), (0 : Int), ())), (0 : Int), ())) ≤ 140737488355328 ∧ (List.length (List.take (Int.toNat x1) x0_2_1 ++ List.drop (Int.toNat (x1 + (1 : Int))) x0_2_1) + List.length (List.set [((0 : Int), (0 : Int), (0 : Int), ())] (Int.toNat (↑0 : Int)) (Prod.fst (Prod.snd (List.getD x0_2_1 (Int.toNat x1) ((0 : Int), (0 : Int), (0 : Int), ()))), Prod.fst (List.getD x0_2_1 (Int.toNat x1) ((0 : Int), (0 : Int), (0 : Int), ())), (0 : Int), ()))) * Ty.wb Word ≤ 140737488355328) (.ret (((List.set x0_1 (Int.toNat (Prod.fst (Prod.snd (List.getD x0_2_1 (Int.toNat x1) ((0 : Int), (0 : Int), (0 : Int), ()))))) (true, Prod.snd (List.getD x0_1 (Int.toNat (Prod.fst (Prod.snd (List.getD x0_2_1 (Int.toNat x1) ((0 : Int), (0 : Int), (0 : Int), ()))))) (false, (0 : Int), (0 : Int), ()))), List.take (Int.toNat x1) x0_2_1 ++ List.drop (Int.toNat (x1 + (1 : Int))) x0_2_1 ++ List.set [((0 : Int), (0 : Int), (0 : Int), ())] (Int.toNat (↑0 : Int)) (Prod.fst (Prod.snd (List.getD x0_2_1 (Int.toNat x1) ((0 : Int), (0 : Int), (0 : Int), ()))), Prod.fst (List.getD x0_2_1 (Int.toNat x1) ((0 : Int), (0 : Int), (0 : Int), ())), (0 : Int), ()), ()), (0 : Int), ()))))) (.need (True ∧ [] ++ [Step.fld 1] = [] ++ [Step.fld 1] ∧ List.length (List.take (Int.toNat x1) x0_2_1 ++ List.drop (Int.toNat (x1 + (1 : Int))) x0_2_1) + List.length (List.set [((0 : Int), (0 : Int), (0 : Int), ())] (Int.toNat (↑0 : Int)) (Prod.fst (Prod.snd (List.getD x0_2_1 (Int.toNat x1) ((0 : Int), (0 : Int), (0 : Int), ()))), Prod.fst (List.getD x0_2_1 (Int.toNat x1) ((0 : Int), (0 : Int), (0 : Int), ())), (0 : Int), ())) ≤ 140737488355328 ∧ (List.length (List.take (Int.toNat x1) x0_2_1 ++ List.drop (Int.toNat (x1 + (1 : Int))) x0_2_1) + List.length (List.set [((0 : Int), (0 : Int), (0 : Int), ())] (Int.toNat (↑0 : Int)) (Prod.fst (Prod.snd (List.getD x0_2_1 (Int.toNat x1) ((0 : Int), (0 : Int), (0 : Int), ()))), Prod.fst (List.getD x0_2_1 (Int.toNat x1) ((0 : Int), (0 : Int), (0 : Int), ())), (0 : Int), ()))) * Ty.wb Word ≤ 140737488355328) (.ret (((List.set x0_1 (Int.toNat (Prod.fst (Prod.snd (List.getD x0_2_1 (Int.toNat x1) ((0 : Int), (0 : Int), (0 : Int), ()))))) (true, Prod.snd (List.getD x0_1 (Int.toNat (Prod.fst (Prod.snd (List.getD x0_2_1 (Int.toNat x1) ((0 : Int), (0 : Int), (0 : Int), ()))))) (false, (0 : Int), (0 : Int), ()))), List.take (Int.toNat x1) x0_2_1 ++ List.drop (Int.toNat (x1 + (1 : Int))) x0_2_1 ++ List.set [((0 : Int), (0 : Int), (0 : Int), ())] (Int.toNat (↑0 : Int)) (Prod.fst (Prod.snd (List.getD x0_2_1 (Int.toNat x1) ((0 : Int), (0 : Int), (0 : Int), ()))), Prod.fst (List.getD x0_2_1 (Int.toNat x1) ((0 : Int), (0 : Int), (0 : Int), ())), (0 : Int), ()), ()), (0 : Int), ()))))))))))))))) := by kernel_rfl
/-- what a check that passes says -/
structure OOk (t : OverD) : Prop where
  n : 1 ≤ t.1.length ∧ t.1.length ≤ 6
  h : ∀ i : Nat, i < t.1.length → (-1 ≤ (t.1.getD i hand0).2.1 ∧ (t.1.getD i hand0).2.1 < t.1.length) ∧ (0 ≤ (t.1.getD i hand0).2.2.1 ∧ (t.1.getD i hand0).2.2.1 ≤ 16777215) ∧ (t.1.getD i hand0).2.1 ≠ i ∧ (i = 0 → (t.1.getD i hand0).2.1 = -1) ∧
    (i ≠ 0 → (t.1.getD i hand0).2.1 = -1 → (t.1.getD i hand0).1 = false ∧ (t.1.getD i hand0).2.2.1 ≤ 0)
  l : t.2.1.length ≤ 100
  w : ∀ k, k < t.2.1.length → (0 ≤ (t.2.1.getD k word0).1 ∧ (t.2.1.getD k word0).1 < t.1.length) ∧ (0 ≤ (t.2.1.getD k word0).2.1 ∧ (t.2.1.getD k word0).2.1 < t.1.length) ∧ (t.2.1.getD k word0).1 ≠ (t.2.1.getD k word0).2.1 ∧ (0 ≤ (t.2.1.getD k word0).2.2.1 ∧ (t.2.1.getD k word0).2.2.1 ≤ 1)
theorem ohand_iff {h : HandD} {p n : Int} : ohand h p n = 0 ↔ (-1 ≤ h.2.1 ∧ h.2.1 ≤ n - 1) ∧ (0 ≤ h.2.2.1 ∧ h.2.2.1 ≤ 16777215) ∧ ¬ (h.2.1 = p ∨ (p = 0 ∧ h.2.1 ≠ -1) ∨ (p ≠ 0 ∧ h.2.1 = -1 ∧ (h.1 = true ∨ 0 < h.2.2.1))) := by
  rw [ohand, ← inF_iff, ← inF_iff]
  cases inF h.2.1 (-1) (n - 1) <;> cases inF h.2.2.1 0 16777215 <;> simp
theorem oword_iff {w : WordD} {n : Int} : oword w n = 0 ↔ (0 ≤ w.1 ∧ w.1 ≤ n - 1) ∧ (0 ≤ w.2.1 ∧ w.2.1 ≤ n - 1) ∧ w.1 ≠ w.2.1 ∧ (0 ≤ w.2.2.1 ∧ w.2.2.1 ≤ 1) := by
  rw [oword, ← inF_iff, ← inF_iff, ← inF_iff]
  cases inF w.1 0 (n - 1) <;> cases inF w.2.1 0 (n - 1) <;> cases inF w.2.2.1 0 1 <;> simp
theorem ocheck_iff {t : OverD} : ocheck t = 0 ↔ OOk t := by
  constructor
  · intro h
    unfold ocheck at h
    split at h
    · cases h
    · rename_i h1
      split at h
      · exact absurd h (by assumption)
      · rename_i h2
        split at h
        · cases h
        · rename_i h3
          have h1 := inF_iff.1 (by simpa using h1)
          have h2 := firstE_zero.1 (Decidable.not_not.1 h2)
          have h4 := firstE_zero.1 h
          refine ⟨by omega, fun i hi => ?_, by omega, fun k hk => ?_⟩
          · obtain ⟨q1, q2, q3⟩ := ohand_iff.1 (h2 i hi)
            refine ⟨by omega, q2, fun e => q3 (.inl e), fun e => ?_, fun e1 e2 => ?_⟩
            · rcases Decidable.em ((t.1.getD i hand0).2.1 = -1) with h | h
              · exact h
              · exact absurd (.inr (.inl ⟨by omega, h⟩)) q3
            · refine ⟨?_, ?_⟩
              · cases hb : (t.1.getD i hand0).1 with
                | false => rfl
                | true => exact absurd (.inr (.inr ⟨by omega, e2, .inl hb⟩)) q3
              · rcases Int.lt_or_le 0 (t.1.getD i hand0).2.2.1 with h | h
                · exact absurd (.inr (.inr ⟨by omega, e2, .inr h⟩)) q3
                · exact h
          · obtain ⟨q1, q2, q3, q4⟩ := oword_iff.1 (h4 k hk)
            exact ⟨by omega, by omega, q3, q4⟩
  · intro h
    rw [ocheck, if_neg (by rw [inF_iff.2 (show (1 : Int) ≤ t.1.length ∧ (t.1.length : Int) ≤ 6 by have := h.n; omega)]; simp), if_neg, if_neg (by have := h.l; omega)]
    · refine firstE_zero.2 (fun k hk => oword_iff.2 ?_)
      obtain ⟨q1, q2, q3, q4⟩ := h.w k hk
      exact ⟨by omega, by omega, q3, q4⟩
    · refine not_not_intro (firstE_zero.2 (fun i hi => ohand_iff.2 ?_))
      obtain ⟨q1, q2, q3, q4, q5⟩ := h.h i hi
      refine ⟨by omega, q2, ?_⟩
      rintro (e | ⟨e1, e2⟩ | ⟨e1, e2, e3⟩)
      · exact q3 e
      · exact e2 (q4 (by omega))
      · obtain ⟨r1, r2⟩ := q5 (by omega) e2
        rcases e3 with e3 | e3
        · rw [r1] at e3; cases e3
        · omega
theorem getD_set_same {α : Type} {l : List α} {i : Nat} {x d : α} (h : i < l.length) : (l.set i x).getD i d = x := by rw [getD_set h, if_pos rfl]
theorem cotake_valid : cotake.Valid Try.prog 56 := by
  refine Ctr.valid_of Eotake_ok rfl rfl Try.func56 (c := bodyOf Try.prog 56) rfl rfl Fotake_ok rfl ?_
  rintro ⟨⟨(hs : List HandD), (ws : List WordD), ⟨⟩⟩, (k : Int), ⟨⟩⟩ - ⟨⟨⟨hl1, -⟩, ⟨hl2, -⟩, -⟩, -⟩
  have hl1 : hs.length ≤ 9223372036854775807 := hl1
  have hl2 : ws.length ≤ 9223372036854775807 := hl2
  refine exec_sound (n := 1000) Eotake_ok Fotake_ok ?_
  refine holds_of_eq (Eotake_t hs ws k) ?_
  have key : ∀ {x : OverD × Int × Unit}, x = otake (hs, ws, ()) k → x = otake (hs, ws, ()) k := fun h => h
  simp only [holds_cond, Tree.holds, true_and, true_implies, decide_eq_true_eq, decide_eq_false_iff_not, Bool.not_eq_true', Bool.not_eq_false', Int.toNat_natCast, inK_i64, List.length_set, List.length_cons, List.length_nil, wbwClone]
  refine ⟨fun a => ?_, fun a => ⟨by omega, fun _ => ⟨fun c => ?_, fun c => ?_⟩⟩⟩
  · show ((o0, ocheck (hs, ws, ()), ()) : OverD × Int × Unit) = otake (hs, ws, ()) k
    rw [otake, if_pos a]
  · show ((o0, 6, ()) : OverD × Int × Unit) = otake (hs, ws, ()) k
    rw [otake, if_neg a, if_pos c]
  have hok := ocheck_iff.1 (Decidable.not_not.1 a)
  have hk := inF_iff.1 c
  have hn : hs.length ≤ 6 := hok.n.2
  have hw100 : ws.length ≤ 100 := hok.l
  have hw := hok.w k.toNat (show k.toNat < ws.length by omega)
  have hh := hok.h (ws.getD k.toNat word0).2.1.toNat
  have ho : otake (hs, ws, ()) k = (take1 (hs, ws, ()) k, 0, ()) := by rw [otake, if_neg a, if_neg (by simp [c])]
  have ht : take1 (hs, ws, ()) k = if (ws.getD k.toNat word0).2.2.1 = 0 then odet (hs.set (ws.getD k.toNat word0).2.1.toNat (ackH (hs.getD (ws.getD k.toNat word0).2.1.toNat hand0)), ws.take k.toNat ++ ws.drop (k + 1).toNat, ()) (ws.getD k.toNat word0).2.1
    else if (ws.getD k.toNat word0).2.1 ≠ 0 ∧ (hs.getD (ws.getD k.toNat word0).2.1.toNat hand0).2.1 = -1 then (hs.set (ws.getD k.toNat word0).2.1.toNat (true, (ws.getD k.toNat word0).1, (hs.getD (ws.getD k.toNat word0).2.1.toNat hand0).2.2), ws.take k.toNat ++ ws.drop (k + 1).toNat, ())
    else (hs.set (ws.getD k.toNat word0).2.1.toNat (true, (hs.getD (ws.getD k.toNat word0).2.1.toNat hand0).2), ws.take k.toNat ++ ws.drop (k + 1).toNat ++ [((ws.getD k.toNat word0).2.1, (ws.getD k.toNat word0).1, 0, ())], ()) := rfl
  change _ ∧ _ at hw
  simp only at hw hh
  rw [show ws.getD k.toNat (0, 0, 0, ()) = ws.getD k.toNat word0 from rfl] at *
  generalize ws.getD k.toNat word0 = w at *
  obtain ⟨x, y, z, ⟨⟩⟩ := w
  simp only at hw hh ht ⊢
  have hy : y.toNat < hs.length := by omega
  have hh := hh hy
  rw [show hs.getD y.toNat (false, 0, 0, ()) = hs.getD y.toNat hand0 from rfl]
  have hlen : (List.take k.toNat ws ++ List.drop (k + 1).toNat ws).length ≤ 100 := by simp only [List.length_append, List.length_take, List.length_drop]; omega
  simp only [getD_set_same hy]
  generalize hs.getD y.toNat hand0 = h at *
  obtain ⟨b, s, o, ⟨⟩⟩ := h
  simp only at hh ht ⊢
  rw [ho]
  refine ⟨⟨by omega, by omega⟩, fun _ => ⟨⟨by omega, by omega⟩, fun _ => ⟨by omega, fun _ => ⟨⟨by omega, by omega, by omega⟩, fun _ => ⟨⟨by omega, by omega⟩, fun _ => ⟨fun d => ?_, fun d => ?_⟩⟩⟩⟩⟩⟩
  · refine ⟨by omega, fun _ => ⟨⟨by omega, by omega, by omega⟩, fun _ => ?_⟩⟩
    rw [ht, if_pos d]; rfl
  · refine ⟨fun e => ⟨fun f => ?_, fun f => ⟨⟨by omega, by omega⟩, fun _ => ?_⟩⟩, fun e => ⟨⟨by omega, by omega⟩, fun _ => ?_⟩⟩
    · rw [ht, if_neg d, if_pos ⟨e, f⟩, List.set_set]; rfl
    · rw [ht, if_neg d, if_neg (fun h => f h.2)]; rfl
    · rw [ht, if_neg d, if_neg (fun h => e h.1)]; rfl
end Go.Proofs.Ytbcdpeogfghgcaa
