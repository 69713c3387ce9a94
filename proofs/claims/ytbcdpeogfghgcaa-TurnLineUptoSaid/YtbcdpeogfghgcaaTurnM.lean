/- TurnAll. No condition. -/
import Derived.Test.YtbcdpeogfghgcaaTurnR
namespace Go.Proofs.Ytbcdpeogfghgcaa
open Go.Ex
set_option maxRecDepth 100000
def longW (w : List Int) : Bool := decide (0 < w.length)
def clongW : Ctr := { ps := [.v (.slc false I64)], rs := [.bool], pre := fun _ => True, fn := fun x => (longW x.1, ()), out := fun _ => () }
noncomputable def ElongW : Env := { P := Try.prog, tt := tt, ctr := [], res := [Go.ResultVar.tmp 2], rs := [Ty.bool], ps := [PK.v (Ty.slc false (Ty.int IntKind.i64))], cuts := [], nt := 6 }
theorem ElongW_ok : EnvOk ElongW := envOk tt_ok trivial
theorem FlongW_ok : FnOk ElongW Try.f36 := ⟨rfl, rfl⟩
theorem ElongW_t (x0 : List Int) : exec ElongW 1000 [.code (bodyOf Try.prog 36)] (initSt clongW.ps ((x0, ()))) =
  .ret ((decide ((0 : Int) < (↑(List.length x0) : Int)), ())) := by kernel_rfl
theorem clongW_valid : clongW.Valid Try.prog 36 := by
  refine Ctr.valid_of ElongW_ok rfl rfl Try.func36 (c := bodyOf Try.prog 36) rfl rfl FlongW_ok rfl ?_
  rintro ⟨(l : List Int), ⟨⟩⟩ - -
  refine exec_sound (n := 1000) ElongW_ok FlongW_ok ?_
  refine holds_of_eq (ElongW_t l) ?_
  show ((decide ((0 : Int) < l.length), ()) : Bool × Unit) = (longW l, ())
  rw [longW]
  congr 1
  exact decide_eq_decide.2 (by omega)
def cidxLW : Ctr := { ps := [.v (.slc false (.slc false I64)), .clo 36 []], rs := [I64], pre := fun x => True, fn := fun x => (idxOf (longW) x.1, ()), out := fun _ => () }
noncomputable def EidxLW : Env := { P := Try.prog, tt := tt, ctr := [(36, clongW)], res := [Go.ResultVar.tmp 4], rs := [Ty.int IntKind.i64], ps := [PK.v (Ty.slc false (Ty.slc false (Ty.int IntKind.i64))), PK.clo 36 []], cuts := [(2, [(0, none), (1, none), (7, none), (8, none)])], nt := 19 }
theorem EidxLW_ok : EnvOk EidxLW := envOk tt_ok ⟨clongW_valid, trivial⟩
theorem FidxLW_ok : FnOk EidxLW Try.f93 := ⟨rfl, rfl⟩
theorem EidxLW_t (x0 : List (List Int)) : exec EidxLW 1000 [.code (bodyOf Try.prog 93)] (initSt cidxLW.ps ((x0, (), ()))) =
  .cut (loopAt (bodyOf Try.prog 93) 2).1 (loopAt (bodyOf Try.prog 93) 2).2 (St.mk [(0, AV.val (Ty.slc false (Ty.slc false (Ty.int IntKind.i64))) x0), (1, AV.clo 36 AV.nil), (7, AV.val (Ty.int IntKind.i64) (↑(List.length x0) : Int)), (8, AV.val (Ty.int IntKind.i64) (0 : Int))] []) := by kernel_rfl
def EidxLW_s2 (v0 : List (List Int)) (v7 : Int) (v8 : Int) : St := St.mk [(0, AV.val (Ty.slc false (Ty.slc false (Ty.int IntKind.i64))) v0), (1, AV.clo 36 AV.nil), (7, AV.val (Ty.int IntKind.i64) v7), (8, AV.val (Ty.int IntKind.i64) v8)] []
theorem EidxLW_l2 (v0 : List (List Int)) (v7 : Int) (v8 : Int) : exec EidxLW 1000 (.code (loopAt (bodyOf Try.prog 93) 2).1 :: .inLoop (loopAt (bodyOf Try.prog 93) 2).1 :: (loopAt (bodyOf Try.prog 93) 2).2) (EidxLW_s2 v0 v7 v8) =
  cond (decide (v8 < v7)) (.need ((0 : Int) ≤ v8 ∧ v8 < (↑(List.length v0) : Int)) (.need (True) (cond (longW (List.getD v0 (Int.toNat v8) [])) (.ret ((v8, ()))) (.need (inK IntKind.i64 (v8 + (1 : Int))) (.cut (loopAt (bodyOf Try.prog 93) 2).1 (loopAt (bodyOf Try.prog 93) 2).2 (St.mk [(0, AV.val (Ty.slc false (Ty.slc false (Ty.int IntKind.i64))) v0), (1, AV.clo 36 AV.nil), (7, AV.val (Ty.int IntKind.i64) v7), (8, AV.val (Ty.int IntKind.i64) (v8 + (1 : Int)))] [])))))) (.ret (((-1 : Int), ()))) := by kernel_rfl
theorem cidxLW_valid : cidxLW.Valid Try.prog 93 := by
  refine Ctr.valid_of EidxLW_ok rfl rfl Try.func93 (c := bodyOf Try.prog 93) rfl rfl FidxLW_ok rfl ?_
  rintro ⟨(l : List (List Int)), ⟨⟩, ⟨⟩⟩ - ⟨⟨hl, -⟩, -⟩
  have hl : l.length ≤ 9223372036854775807 := hl
  refine exec_sound (n := 1000) EidxLW_ok FidxLW_ok ?_
  refine holds_of_eq (EidxLW_t l ) ?_
  refine Reach.loopI EidxLW_ok FidxLW_ok (fun i : Nat => EidxLW_s2 l  (l.length : Int) (i : Int)) (fun i => i ≤ l.length ∧ idxOf (longW) l = idxGo (longW) (l.drop i) i)
    (fun i => l.length - i) 1000 (fun _ => ⟨uniq_of rfl, uniq_of rfl⟩) ?_ 0 ⟨by omega, rfl⟩
  rintro i ⟨k1, k2⟩ - ih
  refine holds_of_eq (EidxLW_l2 ..) ?_
  simp only [holds_cond, Tree.holds, true_and, true_implies, decide_eq_true_eq, decide_eq_false_iff_not, Bool.not_eq_true', Bool.not_eq_false', Int.toNat_natCast, inK_i64, List.length_set, List.length_cons, List.length_nil]
  refine ⟨fun h => ?_, fun h => ?_⟩
  · rw [drop_getD (show i < l.length by omega) [], idxGo] at k2
    refine ⟨by omega, fun _ => ⟨fun c => ?_, fun c => ⟨by omega, fun _ => ih (i + 1) ⟨by omega, ?_⟩ (by omega)⟩⟩⟩
    · show (((i : Int), ()) : Int × Unit) = (idxOf (longW) l, ())
      rw [k2, if_pos c]
    · rw [k2, if_neg (fun h9 => Bool.noConfusion (Eq.trans (Eq.symm h9) c))]
  · rw [List.drop_eq_nil_of_le (by omega)] at k2
    show (((-1 : Int), ()) : Int × Unit) = (idxOf (longW) l, ())
    rw [k2]; rfl
def ccontLW : Ctr := { ps := [.v (.slc false (.slc false I64)), .clo 36 []], rs := [.bool], pre := fun x => True, fn := fun x => (List.any (α := List Int) x.1 (longW), ()), out := fun _ => () }
noncomputable def EcontLW : Env := { P := Try.prog, tt := tt, ctr := [(93, cidxLW)], res := [Go.ResultVar.tmp 4], rs := [Ty.bool], ps := [PK.v (Ty.slc false (Ty.slc false (Ty.int IntKind.i64))), PK.clo 36 []], cuts := [], nt := 9 }
theorem EcontLW_ok : EnvOk EcontLW := envOk tt_ok ⟨cidxLW_valid, trivial⟩
theorem FcontLW_ok : FnOk EcontLW Try.f35 := ⟨rfl, rfl⟩
theorem EcontLW_t (x0 : List (List Int)) : exec EcontLW 1000 [.code (bodyOf Try.prog 35)] (initSt ccontLW.ps ((x0, (), ()))) =
  .need (True) (.ret ((decide ((0 : Int) ≤ idxOf longW x0), ()))) := by kernel_rfl
theorem ccontLW_valid : ccontLW.Valid Try.prog 35 := by
  refine Ctr.valid_of EcontLW_ok rfl rfl Try.func35 (c := bodyOf Try.prog 35) rfl rfl FcontLW_ok rfl ?_
  rintro ⟨(l : List (List Int)), ⟨⟩, ⟨⟩⟩ - -
  refine exec_sound (n := 1000) EcontLW_ok FcontLW_ok ?_
  refine holds_of_eq (EcontLW_t l ) ?_
  refine ⟨trivial, fun _ => ?_⟩
  show ((decide (0 ≤ idxOf (longW) l), ()) : Bool × Unit) = (l.any (longW), ())
  rw [idx_any]
theorem tstep_pass {t : TurnD} (h : TOk t) : tstep t (2, t.2.1, 0, ()) = (tpass t, 0, 0, ()) := by
  have h0 := tcheck_iff.2 h
  rw [tstep, if_neg (by rw [h0]; simp), if_neg (by show ¬ inF 2 1 3 = false; decide), if_neg (tnf (inF_iff.2 h.has)), if_neg (by show ¬ tmsg 0 = false; decide), if_neg (by show ¬ (2 : Int) = 1; decide), if_pos rfl, if_neg (by simp)]
theorem tpass_has {t : TurnD} (h : TOk t) : (tpass t).2.1 = (t.2.1 + 1) % t.1 := by
  show Int.tmod (t.2.1 + 1) t.1 = _
  have := h.has
  rw [Int.tmod_eq_emod_of_nonneg (by omega)]
theorem tpass_own {t : TurnD} (h : TOk t) : (tpass t).2.2.1.getD t.2.1.toNat [] = [] := by
  have h1 := h.has
  have h2 := h.want
  rw [tpass_row (by omega), h.passLog, List.filter_eq_nil_iff]
  intro x hx
  rw [decide_eq_true (List.mem_append_right _ hx)]; simp
theorem tpass_empty {t : TurnD} {p : Nat} (hp : p < t.2.2.1.length) (h : t.2.2.1.getD p [] = []) : (tpass t).2.2.1.getD p [] = [] := by
  rw [tpass_row hp, h]; rfl
/-- wanted, or in the log -/
def Covered (t : TurnD) (x : Int) : Prop := x ∈ t.2.2.2.1 ∨ ∃ p : Nat, p < t.2.2.1.length ∧ x ∈ t.2.2.1.getD p []
theorem tpass_cov {t : TurnD} (h : TOk t) {x : Int} (hc : Covered t x) : Covered (tpass t) x := by
  rcases hc with hc | ⟨p, hp, hx⟩
  · refine .inl ?_
    show x ∈ tlog _ _
    rw [h.passLog]; exact List.mem_append_left _ hc
  · by_cases e : x ∈ tlog (t.2.2.1.getD t.2.1.toNat []) t.2.2.2.1
    · exact .inl e
    · refine .inr ⟨p, by show p < (t.2.2.1.map _).length; rw [List.length_map]; exact hp, ?_⟩
      rw [tpass_row hp]
      exact List.mem_filter.2 ⟨hx, by rw [decide_eq_false e]; rfl⟩
/-- while the turn goes round -/
structure Round (n h0 : Int) (w : List Int) (j : Nat) (t : TurnD) : Prop where
  ok : TOk t
  num : t.1 = n
  has : t.2.1 = (h0 + j) % n
  done : ∀ i : Nat, i < j → t.2.2.1.getD ((h0 + i) % n).toNat [] = []
  cov : ∀ x ∈ w, Covered t x
theorem Round.next {n h0 : Int} {w : List Int} {j : Nat} {t : TurnD} (h : Round n h0 w j t) : Round n h0 w (j + 1) (tpass t) := by
  have hn := h.ok.n
  rw [h.num] at hn
  have hwl := h.ok.want
  rw [h.num] at hwl
  refine ⟨tpass_ok h.ok, h.num, ?_, fun i hi => ?_, fun x hx => tpass_cov h.ok (h.cov x hx)⟩
  · rw [tpass_has h.ok, h.has, h.num, Int.emod_add_emod]; congr 1; omega
  · have hm1 := Int.emod_nonneg (h0 + i) (b := n) (by omega)
    have hm2 := Int.emod_lt_of_pos (h0 + i) (b := n) (by omega)
    by_cases e : i = j
    · rw [e, ← h.has]; exact tpass_own h.ok
    · exact tpass_empty (by omega) (h.done i (by omega))
theorem Round.all {n h0 : Int} {w : List Int} {t : TurnD} (hh : 0 ≤ h0 ∧ h0 < n) (h : Round n h0 w n.toNat t) {p : Nat} (hp : p < t.2.2.1.length) : t.2.2.1.getD p [] = [] := by
  have hwl := h.ok.want
  rw [h.num] at hwl
  have := h.done (((p : Int) + n - h0) % n).toNat (by
    have := Int.emod_nonneg ((p : Int) + n - h0) (b := n) (by omega)
    have := Int.emod_lt_of_pos ((p : Int) + n - h0) (b := n) (by omega)
    omega)
  have e : (h0 + ((((p : Int) + n - h0) % n).toNat : Int)) % n = p := by
    have := Int.emod_nonneg ((p : Int) + n - h0) (b := n) (by omega)
    rw [Int.toNat_of_nonneg this, Int.add_emod_emod, show h0 + ((p : Int) + n - h0) = p + n by omega, Int.add_emod_right, Int.emod_eq_of_lt (by omega) (by omega)]
  rw [e] at this
  simpa using this
theorem Round.log {n h0 : Int} {w : List Int} {t : TurnD} (hh : 0 ≤ h0 ∧ h0 < n) (h : Round n h0 w n.toNat t) {x : Int} (hx : x ∈ w) : x ∈ t.2.2.2.1 := by
  rcases h.cov x hx with h1 | ⟨p, hp, h1⟩
  · exact h1
  · rw [h.all hh hp] at h1; cases h1
theorem flat_take {l : List (List Int)} {x : Int} {i : Nat} (h : x ∈ (l.take i).flatten) : ∃ p : Nat, p < l.length ∧ x ∈ l.getD p [] := by
  rw [List.mem_flatten] at h
  obtain ⟨r, hr, hx⟩ := h
  obtain ⟨p, hp, e⟩ := mem_getD (d := []) (List.mem_of_mem_take hr)
  exact ⟨p, hp, by rw [e]; exact hx⟩
def cTurnAll : Ctr := { ps := [.v I64, .v (.slc false Word)], rs := [.bool], pre := fun _ => True, fn := fun _ => (true, ()), out := fun _ => () }
noncomputable def ETurnAll : Env := { P := Try.prog, tt := tt, ctr := [(29, ctturns), (31, cfew), (30, ceqI), (33, cclI), (34, ctstep), (21, ccontI), (35, ccontLW)], res := [Go.ResultVar.tmp 4], rs := [Ty.bool], ps := [PK.v (Ty.int IntKind.i64), PK.v (Ty.slc false Word)], cuts := [(10, [(0, none), (8, none), (11, some Is), (57, none), (58, none), (59, none)]), (15, [(8, none), (11, some Is), (67, none), (68, none)]), (22, [(8, none), (83, some Is), (84, none), (85, none)])], nt := 99 }
theorem ETurnAll_ok : EnvOk ETurnAll := envOk tt_ok ⟨ctturns_valid, cfew_valid, ceqI_valid, cclI_valid, ctstep_valid, ccontI_valid, ccontLW_valid, trivial⟩
theorem FTurnAll_ok : FnOk ETurnAll Try.f7 := ⟨rfl, rfl⟩
theorem ETurnAll_t (x0 : Int) (x1 : List (Int × Int × Int × Unit)) : exec ETurnAll 1000 [.code (bodyOf Try.prog 7)] (initSt cTurnAll.ps ((x0, x1, ()))) =
  .need ((2 : Int) ≤ (1000 : Int)) (.need (True) (.need (True) (.need (few x0 ≤ (1000 : Int)) (cond (!Prod.fst (Prod.snd (Prod.snd (tturns (few x0) x1)))) (.ret ((false, ()))) (.need (List.length (Prod.fst (Prod.snd (Prod.snd (Prod.snd (Prod.fst (tturns (few x0) x1)))))) ≤ 1048576) (.cut (loopAt (bodyOf Try.prog 7) 10).1 (loopAt (bodyOf Try.prog 7) 10).2 (St.mk [(0, AV.val (Ty.int IntKind.i64) (few x0)), (8, AV.ptr 8 []), (11, AV.at_ 1000011 []), (57, AV.at_ 8 [Step.fld 2]), (58, AV.val (Ty.int IntKind.i64) (↑(List.length (Prod.fst (Prod.snd (Prod.snd (Prod.fst (tturns (few x0) x1)))))) : Int)), (59, AV.val (Ty.int IntKind.i64) (0 : Int))] [(8, Ent.var (Ty.pair (Ty.int IntKind.i64) (Ty.pair (Ty.int IntKind.i64) (Ty.pair (Ty.slc true Is) (Ty.pair Is (Ty.pair Is Ty.unit))))) (Prod.fst (tturns (few x0) x1))), (1000011, Ent.own Is (Prod.fst (Prod.snd (Prod.snd (Prod.snd (Prod.fst (tturns (few x0) x1)))))))]))))))) := by kernel_rfl
def ETurnAll_s10 (v0 : Int) (v58 : Int) (v59 : Int) (o8_1 : Int) (o8_2_1 : Int) (o8_2_2_1 : List (List Int)) (o8_2_2_2_1 : List Int) (o8_2_2_2_2_1 : List Int) (o1000011 : List Int) : St := St.mk [(0, AV.val (Ty.int IntKind.i64) v0), (8, AV.ptr 8 []), (11, AV.at_ 1000011 []), (57, AV.at_ 8 [Step.fld 2]), (58, AV.val (Ty.int IntKind.i64) v58), (59, AV.val (Ty.int IntKind.i64) v59)] [(8, Ent.var (Ty.pair (Ty.int IntKind.i64) (Ty.pair (Ty.int IntKind.i64) (Ty.pair (Ty.slc true Is) (Ty.pair Is (Ty.pair Is Ty.unit))))) (o8_1, o8_2_1, o8_2_2_1, o8_2_2_2_1, o8_2_2_2_2_1, ())), (1000011, Ent.own Is o1000011)]
theorem ETurnAll_l10 (v0 : Int) (v58 : Int) (v59 : Int) (o8_1 : Int) (o8_2_1 : Int) (o8_2_2_1 : List (List Int)) (o8_2_2_2_1 : List Int) (o8_2_2_2_2_1 : List Int) (o1000011 : List Int) : exec ETurnAll 1000 (.code (loopAt (bodyOf Try.prog 7) 10).1 :: .inLoop (loopAt (bodyOf Try.prog 7) 10).1 :: (loopAt (bodyOf Try.prog 7) 10).2) (ETurnAll_s10 v0 v58 v59 o8_1 o8_2_1 o8_2_2_1 o8_2_2_2_1 o8_2_2_2_2_1 o1000011) =
  cond (decide (v59 < v58)) (.need ((0 : Int) ≤ v59 ∧ v59 < (↑(List.length o8_2_2_1) : Int)) (.need (List.length o1000011 + List.length (List.getD o8_2_2_1 (Int.toNat v59) []) ≤ 140737488355328 ∧ (List.length o1000011 + List.length (List.getD o8_2_2_1 (Int.toNat v59) [])) * Ty.wb (Ty.int IntKind.i64) ≤ 140737488355328) (.need (inK IntKind.i64 (v59 + (1 : Int))) (.cut (loopAt (bodyOf Try.prog 7) 10).1 (loopAt (bodyOf Try.prog 7) 10).2 (St.mk [(0, AV.val (Ty.int IntKind.i64) v0), (8, AV.ptr 8 []), (11, AV.at_ 1000011 []), (57, AV.at_ 8 [Step.fld 2]), (58, AV.val (Ty.int IntKind.i64) v58), (59, AV.val (Ty.int IntKind.i64) (v59 + (1 : Int)))] [(8, Ent.var (Ty.pair (Ty.int IntKind.i64) (Ty.pair (Ty.int IntKind.i64) (Ty.pair (Ty.slc true Is) (Ty.pair Is (Ty.pair Is Ty.unit))))) (o8_1, o8_2_1, o8_2_2_1, o8_2_2_2_1, o8_2_2_2_2_1, ())), (1000011, Ent.own Is (o1000011 ++ List.getD o8_2_2_1 (Int.toNat v59) []))]))))) (.cut (loopAt (bodyOf Try.prog 7) 15).1 (loopAt (bodyOf Try.prog 7) 15).2 (St.mk [(8, AV.ptr 8 []), (11, AV.at_ 1000011 []), (67, AV.val (Ty.int IntKind.i64) v0), (68, AV.val (Ty.int IntKind.i64) (0 : Int))] [(8, Ent.var (Ty.pair (Ty.int IntKind.i64) (Ty.pair (Ty.int IntKind.i64) (Ty.pair (Ty.slc true Is) (Ty.pair Is (Ty.pair Is Ty.unit))))) (o8_1, o8_2_1, o8_2_2_1, o8_2_2_2_1, o8_2_2_2_2_1, ())), (1000011, Ent.own Is o1000011)])) := by kernel_rfl
def ETurnAll_s15 (v67 : Int) (v68 : Int) (o8_1 : Int) (o8_2_1 : Int) (o8_2_2_1 : List (List Int)) (o8_2_2_2_1 : List Int) (o8_2_2_2_2_1 : List Int) (o1000011 : List Int) : St := St.mk [(8, AV.ptr 8 []), (11, AV.at_ 1000011 []), (67, AV.val (Ty.int IntKind.i64) v67), (68, AV.val (Ty.int IntKind.i64) v68)] [(8, Ent.var (Ty.pair (Ty.int IntKind.i64) (Ty.pair (Ty.int IntKind.i64) (Ty.pair (Ty.slc true Is) (Ty.pair Is (Ty.pair Is Ty.unit))))) (o8_1, o8_2_1, o8_2_2_1, o8_2_2_2_1, o8_2_2_2_2_1, ())), (1000011, Ent.own Is o1000011)]
theorem ETurnAll_l15 (v67 : Int) (v68 : Int) (o8_1 : Int) (o8_2_1 : Int) (o8_2_2_1 : List (List Int)) (o8_2_2_2_1 : List Int) (o8_2_2_2_2_1 : List Int) (o1000011 : List Int) : exec ETurnAll 1000 (.code (loopAt (bodyOf Try.prog 7) 15).1 :: .inLoop (loopAt (bodyOf Try.prog 7) 15).1 :: (loopAt (bodyOf Try.prog 7) 15).2) (ETurnAll_s15 v67 v68 o8_1 o8_2_1 o8_2_2_1 o8_2_2_2_1 o8_2_2_2_2_1 o1000011) =
  cond (decide (v68 < v67)) (.need (True) (cond (decide (Prod.fst (Prod.snd (Prod.snd (tstep (o8_1, o8_2_1, o8_2_2_1, o8_2_2_2_1, o8_2_2_2_2_1, ()) ((2 : Int), o8_2_1, (0 : Int), ())))) ≠ (0 : Int))) (.ret ((false, ()))) (.need (inK IntKind.i64 (v68 + (1 : Int))) (.cut (loopAt (bodyOf Try.prog 7) 15).1 (loopAt (bodyOf Try.prog 7) 15).2 (St.mk [(8, AV.ptr 8 []), (11, AV.at_ 1000011 []), (67, AV.val (Ty.int IntKind.i64) v67), (68, AV.val (Ty.int IntKind.i64) (v68 + (1 : Int)))] [(8, Ent.var (Ty.pair (Ty.int IntKind.i64) (Ty.pair (Ty.int IntKind.i64) (Ty.pair (Ty.slc true Is) (Ty.pair Is (Ty.pair Is Ty.unit))))) (Prod.fst (tstep (o8_1, o8_2_1, o8_2_2_1, o8_2_2_2_1, o8_2_2_2_2_1, ()) ((2 : Int), o8_2_1, (0 : Int), ())))), (1000011, Ent.own Is o1000011)]))))) (.cut (loopAt (bodyOf Try.prog 7) 22).1 (loopAt (bodyOf Try.prog 7) 22).2 (St.mk [(8, AV.ptr 8 []), (83, AV.at_ 1000083 []), (84, AV.val (Ty.int IntKind.i64) (↑(List.length o1000011) : Int)), (85, AV.val (Ty.int IntKind.i64) (0 : Int))] [(8, Ent.var (Ty.pair (Ty.int IntKind.i64) (Ty.pair (Ty.int IntKind.i64) (Ty.pair (Ty.slc true Is) (Ty.pair Is (Ty.pair Is Ty.unit))))) (o8_1, o8_2_1, o8_2_2_1, o8_2_2_2_1, o8_2_2_2_2_1, ())), (1000083, Ent.own Is o1000011)])) := by kernel_rfl
def ETurnAll_s22 (v84 : Int) (v85 : Int) (o8_1 : Int) (o8_2_1 : Int) (o8_2_2_1 : List (List Int)) (o8_2_2_2_1 : List Int) (o8_2_2_2_2_1 : List Int) (o1000083 : List Int) : St := St.mk [(8, AV.ptr 8 []), (83, AV.at_ 1000083 []), (84, AV.val (Ty.int IntKind.i64) v84), (85, AV.val (Ty.int IntKind.i64) v85)] [(8, Ent.var (Ty.pair (Ty.int IntKind.i64) (Ty.pair (Ty.int IntKind.i64) (Ty.pair (Ty.slc true Is) (Ty.pair Is (Ty.pair Is Ty.unit))))) (o8_1, o8_2_1, o8_2_2_1, o8_2_2_2_1, o8_2_2_2_2_1, ())), (1000083, Ent.own Is o1000083)]
theorem ETurnAll_l22 (v84 : Int) (v85 : Int) (o8_1 : Int) (o8_2_1 : Int) (o8_2_2_1 : List (List Int)) (o8_2_2_2_1 : List Int) (o8_2_2_2_2_1 : List Int) (o1000083 : List Int) : exec ETurnAll 1000 (.code (loopAt (bodyOf Try.prog 7) 22).1 :: .inLoop (loopAt (bodyOf Try.prog 7) 22).1 :: (loopAt (bodyOf Try.prog 7) 22).2) (ETurnAll_s22 v84 v85 o8_1 o8_2_1 o8_2_2_1 o8_2_2_2_1 o8_2_2_2_2_1 o1000083) =
  cond (decide (v85 < v84)) (.need ((0 : Int) ≤ v85 ∧ v85 < (↑(List.length o1000083) : Int)) (.need (True) (cond (!decide (List.getD o1000083 (Int.toNat v85) (0 : Int) ∈ o8_2_2_2_1)) (.ret ((false, ()))) (.need (inK IntKind.i64 (v85 + (1 : Int))) (.cut (loopAt (bodyOf Try.prog 7) 22).1 (loopAt (bodyOf Try.prog 7) 22).2 (St.mk [(8, AV.ptr 8 []), (83, AV.at_ 1000083 []), (84, AV.val (Ty.int IntKind.i64) v84), (85, AV.val (Ty.int IntKind.i64) (v85 + (1 : Int)))] [(8, Ent.var (Ty.pair (Ty.int IntKind.i64) (Ty.pair (Ty.int IntKind.i64) (Ty.pair (Ty.slc true Is) (Ty.pair Is (Ty.pair Is Ty.unit))))) (o8_1, o8_2_1, o8_2_2_1, o8_2_2_2_1, o8_2_2_2_2_1, ())), (1000083, Ent.own Is o1000083)])))))) (.need (True) (.ret ((!List.any o8_2_2_1 longW, ())))) := by kernel_rfl
theorem cTurnAll_valid : cTurnAll.Valid Try.prog 7 := by
  refine Ctr.valid_of ETurnAll_ok rfl rfl Try.func7 (c := bodyOf Try.prog 7) rfl rfl FTurnAll_ok rfl ?_
  rintro ⟨(n : Int), (l : List BeatD), ⟨⟩⟩ - -
  refine exec_sound (n := 1000) ETurnAll_ok FTurnAll_ok ?_
  refine holds_of_eq (ETurnAll_t n l) ?_
  have hf := few_in n
  obtain ⟨e1, inv⟩ := tturns_inv hf.1 hf.2 l
  have hlog : (tturns (few n) l).1.2.2.2.1.length ≤ 100 := inv.ok.log
  simp only [holds_cond, Tree.holds, true_and, true_implies, decide_eq_true_eq, decide_eq_false_iff_not, Bool.not_eq_true', Bool.not_eq_false', Int.toNat_natCast, inK_i64, List.length_set, List.length_cons, List.length_nil]
  refine ⟨by omega, fun _ => ⟨by omega, fun _ => ⟨fun a => absurd (a.symm.trans e1) (by decide), fun _ => ⟨by omega, fun _ => ?_⟩⟩⟩⟩
  generalize tturns (few n) l = r at *
  obtain ⟨⟨q0, q1, q2, q3, q4, ⟨⟩⟩, m, b, ⟨⟩⟩ := r
  generalize few n = k at *
  have hq0 : q0 = k := inv.num
  have hok : TOk (q0, q1, q2, q3, q4, ()) := inv.ok
  have hwl : (q2.length : Int) = q0 := hok.want
  have hhas : 0 ≤ q1 ∧ q1 ≤ q0 - 1 := hok.has
  refine Reach.loopI ETurnAll_ok FTurnAll_ok (fun s : Nat × List Int => ETurnAll_s10 k (q2.length : Int) (s.1 : Int) q0 q1 q2 q3 q4 s.2) (fun s => s.1 ≤ q2.length ∧ s.2 = q3 ++ (q2.take s.1).flatten ∧ s.2.length ≤ 100 + 30 * s.1) (fun s => q2.length - s.1) 1000 (fun _ => ⟨uniq_of rfl, uniq_of rfl⟩) ?_ (0, q3) ⟨by omega, by simp, by show q3.length ≤ _; have h : q3.length ≤ 100 := hlog; omega⟩
  rintro ⟨i, w⟩ ⟨k1, k2, k3⟩ - ih
  have k1 : i ≤ q2.length := k1
  have k2 : w = q3 ++ (q2.take i).flatten := k2
  have k3 : w.length ≤ 100 + 30 * i := k3
  refine holds_of_eq (ETurnAll_l10 ..) ?_
  simp only [holds_cond, Tree.holds, true_and, true_implies, decide_eq_true_eq, decide_eq_false_iff_not, Bool.not_eq_true', Bool.not_eq_false', Int.toNat_natCast, inK_i64, List.length_set, List.length_cons, List.length_nil, wb_i64]
  refine ⟨fun c => ?_, fun c => ?_⟩
  · have hi : i < q2.length := by omega
    have hr : (q2.getD i []).length ≤ 30 := (hok.rows (p := i) (by show (i : Int) < q0; omega)).2.1
    exact ⟨by omega, fun _ => ⟨⟨by omega, by omega⟩, fun _ => ⟨by omega, fun _ => ih (i + 1, w ++ q2.getD i []) ⟨by show i + 1 ≤ _; omega, by show w ++ _ = _; rw [k2, take_s hi [], List.flatten_append, List.append_assoc]; simp, by show (w ++ q2.getD i []).length ≤ 100 + 30 * (i + 1); rw [List.length_append]; omega⟩ (by show _ - (i + 1) < _ - i; omega)⟩⟩⟩
  have hcov : ∀ x ∈ w, Covered (q0, q1, q2, q3, q4, ()) x := by
    intro x hx
    rw [k2] at hx
    rcases List.mem_append.1 hx with h | h
    · exact .inl h
    · exact .inr (flat_take h)
  clear ih k1 k2 c
  have hr0 : Round k q1 w 0 (q0, q1, q2, q3, q4, ()) := ⟨hok, hq0, by show q1 = (q1 + ((0 : Nat) : Int)) % k; rw [show q1 + ((0 : Nat) : Int) = q1 by omega, Int.emod_eq_of_lt (by omega) (by omega)], fun i hi => by omega, hcov⟩
  refine Reach.loopI ETurnAll_ok FTurnAll_ok (fun s : Nat × TurnD => ETurnAll_s15 k (s.1 : Int) s.2.1 s.2.2.1 s.2.2.2.1 s.2.2.2.2.1 s.2.2.2.2.2.1 w) (fun s => s.1 ≤ k.toNat ∧ Round k q1 w s.1 s.2) (fun s => k.toNat - s.1) 1000 (fun _ => ⟨uniq_of rfl, uniq_of rfl⟩) ?_ (0, (q0, q1, q2, q3, q4, ())) ⟨by omega, hr0⟩
  clear hr0 hcov
  rintro ⟨j, ⟨p0, p1, p2, p3, p4, ⟨⟩⟩⟩ ⟨k1, k2⟩ - ih
  have k1 : j ≤ k.toNat := k1
  have k2 : Round k q1 w j (p0, p1, p2, p3, p4, ()) := k2
  have ep : tstep (p0, p1, p2, p3, p4, ()) (2, p1, 0, ()) = (tpass (p0, p1, p2, p3, p4, ()), 0, 0, ()) := tstep_pass k2.ok
  refine holds_of_eq (ETurnAll_l15 ..) ?_
  simp only [holds_cond, Tree.holds, true_and, true_implies, decide_eq_true_eq, decide_eq_false_iff_not, Bool.not_eq_true', Bool.not_eq_false', Int.toNat_natCast, inK_i64, List.length_set, List.length_cons, List.length_nil, ep]
  refine ⟨fun c => ⟨fun h => absurd rfl h, fun _ => ⟨by omega, fun _ => ih (j + 1, tpass (p0, p1, p2, p3, p4, ())) ⟨by show j + 1 ≤ _; omega, k2.next⟩ (by show _ - (j + 1) < _ - j; omega)⟩⟩, fun c => ?_⟩
  obtain rfl : j = k.toNat := by omega
  clear ih k1
  refine Reach.loopI ETurnAll_ok FTurnAll_ok (fun i : Nat => ETurnAll_s22 (w.length : Int) (i : Int) p0 p1 p2 p3 p4 w) (fun i => i ≤ w.length) (fun i => w.length - i) 1000 (fun _ => ⟨uniq_of rfl, uniq_of rfl⟩) ?_ 0 (by omega)
  rintro i k1 - ih
  have k1 : i ≤ w.length := k1
  refine holds_of_eq (ETurnAll_l22 ..) ?_
  simp only [holds_cond, Tree.holds, true_and, true_implies, decide_eq_true_eq, decide_eq_false_iff_not, Bool.not_eq_true', Bool.not_eq_false', Int.toNat_natCast, inK_i64, List.length_set, List.length_cons, List.length_nil]
  refine ⟨fun c => ⟨by omega, fun _ => ⟨fun d => absurd (k2.log (by omega) (getD_mem (by omega))) d, fun _ => ⟨by omega, fun _ => ih (i + 1) (by show i + 1 ≤ _; omega) (by omega)⟩⟩⟩, fun c => ?_⟩
  show ((!List.any p2 longW, ()) : Bool × Unit) = (true, ())
  have : p2.any longW = false := by
    rw [List.any_eq_false]
    intro x hx
    obtain ⟨p, hp, rfl⟩ := mem_getD (d := []) hx
    have := k2.all (by omega) (p := p) hp
    rw [show p2.getD p [] = [] from this]; decide
  rw [this]; rfl
end Go.Proofs.Ytbcdpeogfghgcaa
