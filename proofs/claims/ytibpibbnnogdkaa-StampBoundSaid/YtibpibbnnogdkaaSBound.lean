/- StampBound: the law's contract. -/
import Derived.Test.YtibpibbnnogdkaaBase
namespace Go.Proofs.Ytibpibbnnogdkaa
open Go.Ex
set_option maxRecDepth 100000

theorem stGo_len : ∀ {l : List Ev} {last sent : List Int}, (stGo last sent l).length = l.length
  | [], _, _ => rfl
  | e :: l, _, _ => by simp only [stGo, List.length_cons, stGo_len]
theorem stGo_bound : ∀ {l : List Ev} {last sent : List Int} {b : Int}, (∀ j, last.getD j 0 ≤ b ∧ 0 ≤ last.getD j 0) → (∀ j, sent.getD j 0 ≤ b ∧ 0 ≤ sent.getD j 0) → ∀ i, i < l.length → 1 ≤ (stGo last sent l).getD i 0 ∧ (stGo last sent l).getD i 0 ≤ b + i + 1
  | [], _, _, _, _, _, i, hi => by simp at hi
  | e :: l, last, sent, b, h1, h2, i, hi => by
    have ht := tOf_le (e := e) h1 h2
    simp only [stGo]
    cases i with
    | zero => simp only [List.getD_cons_zero]; omega
    | succ i =>
      simp only [List.getD_cons_succ]
      have := stGo_bound (l := l) (last := last.set e.1.toNat (tOf last sent e)) (sent := if e.2.1 = 2 then sent.set e.2.2.1.toNat (tOf last sent e) else sent) (b := b + 1)
        (fun j => getD_set_le (fun j => by have := h1 j; omega) (by omega)) (fun j => by
          split
          · exact getD_set_le (fun j => by have := h2 j; omega) (by omega)
          · have := h2 j; omega) i (by simpa using hi)
      omega
theorem rep0 (n j : Nat) : (List.replicate n (0 : Int)).getD j 0 = 0 := by rw [List.getD_eq_getElem?_getD, List.getElem?_replicate]; split <;> rfl
theorem stamps_bound {h : List Ev} {i : Nat} (hi : i < (stamps h).1.length) : 1 ≤ (stamps h).1.getD i 0 ∧ (stamps h).1.getD i 0 ≤ i + 1 := by
  by_cases hh : scheck h = 0
  · rw [stamps, if_neg (by simp [hh])] at hi ⊢
    have := stGo_bound (l := h) (last := List.replicate 6 0) (sent := List.replicate 30 0) (b := 0) (fun j => by rw [rep0]; omega) (fun j => by rw [rep0]; omega) i (by simpa [stGo_len] using hi)
    simp only at this ⊢
    omega
  · rw [stamps, if_pos hh] at hi; simp at hi
theorem stamps_len {h : List Ev} (hh : (stamps h).2.1 = 0) : (stamps h).1.length = h.length := by
  by_cases h0 : scheck h = 0
  · rw [stamps, if_neg (by simp [h0])]; exact stGo_len
  · rw [stamps, if_pos h0] at hh; exact absurd hh h0

abbrev a1 : Ev := (0, 1, 0, ())
theorem checkGo_alone : ∀ {n : Nat} {c : CkD}, checkGo c (List.replicate n a1) = 0
  | 0, _ => rfl
  | n + 1, c => by
    have e1 : evErr c a1 = 0 := by simp [evErr, inF]
    rw [List.replicate_succ, checkGo, if_neg (by simp [e1])]; exact checkGo_alone
theorem stGo_alone : ∀ {n : Nat} {last sent : List Int}, 0 < last.length → ∀ i, i < n → (stGo last sent (List.replicate n a1)).getD i 0 = last.getD 0 0 + i + 1
  | 0, _, _, _, i, hi => by omega
  | n + 1, last, sent, hl, i, hi => by
    have e1 : tOf last sent a1 = last.getD 0 0 + 1 := rfl
    rw [List.replicate_succ, stGo, e1]
    cases i with
    | zero => simp only [List.getD_cons_zero]; omega
    | succ i =>
      rw [List.getD_cons_succ, stGo_alone (by simpa using hl) i (by omega), getD_set (show Int.toNat 0 < last.length from hl), if_pos (show 0 = Int.toNat 0 from rfl)]
      omega
theorem stamps_alone {n : Nat} (hn : n ≤ 60) : scheck (List.replicate n a1) = 0 ∧ ∀ i, i < n → (stamps (List.replicate n a1)).1.getD i 0 = i + 1 := by
  have hc : scheck (List.replicate n a1) = 0 := by rw [scheck, if_neg (by simp; omega)]; exact checkGo_alone
  refine ⟨hc, fun i hi => ?_⟩
  rw [stamps, if_neg (by simp [hc]), stGo_alone (by decide) i hi]
  show (0 : Int) + i + 1 = i + 1
  omega

def cStampBound : Ctr := lawC [Es, I64] (fun _ => True)
noncomputable def EStampBound : Env := { P := Try.prog, tt := tt, ctr := [(25, cstamps), (26, ceqI), (27, crest)], res := [Go.ResultVar.tmp 4], rs := [Ty.bool], ps := [PK.v Es, PK.v (Ty.int IntKind.i64)], cuts := [(6, [(0, none), (1, none), (7, some Is), (8, none), (37, some Is), (38, none), (39, none)]), (13, [(0, none), (7, some Is), (8, none), (11, some (Ty.slc true Event)), (57, none), (58, none)]), (19, [(0, none), (7, none), (8, none), (11, none), (13, some Is), (14, none), (71, some Is), (72, none), (73, none)])], nt := 103 }
theorem EStampBound_ok : EnvOk EStampBound := envOk tt_ok ⟨cstamps_valid, ceqI_valid, crest_valid, trivial⟩
theorem FStampBound_ok : FnOk EStampBound Try.f5 := ⟨rfl, rfl⟩
theorem EStampBound_t (x0 : List (Int × Int × Int × Unit)) (x1 : Int) : exec EStampBound 1000 [.code (bodyOf Try.prog 5)] (initSt cStampBound.ps ((x0, x1, ()))) =
  .need (True) (.need (True) (.need (True) (.cut (loopAt (bodyOf Try.prog 5) 6).1 (loopAt (bodyOf Try.prog 5) 6).2 (St.mk [(0, AV.val Es x0), (1, AV.val (Ty.int IntKind.i64) x1), (7, AV.at_ 1000037 []), (8, AV.val (Ty.int IntKind.i64) (Prod.fst (Prod.snd (stamps x0)))), (37, AV.at_ 1000037 []), (38, AV.val (Ty.int IntKind.i64) (↑(List.length (Prod.fst (stamps x0))) : Int)), (39, AV.val (Ty.int IntKind.i64) (0 : Int))] [(1000037, Ent.own Is (Prod.fst (stamps x0)))])))) := by kernel_rfl
def EStampBound_s6 (v0 : List (Int × Int × Int × Unit)) (v1 : Int) (v8 : Int) (v38 : Int) (v39 : Int) (o1000037 : List Int) : St := St.mk [(0, AV.val Es v0), (1, AV.val (Ty.int IntKind.i64) v1), (7, AV.at_ 1000037 []), (8, AV.val (Ty.int IntKind.i64) v8), (37, AV.at_ 1000037 []), (38, AV.val (Ty.int IntKind.i64) v38), (39, AV.val (Ty.int IntKind.i64) v39)] [(1000037, Ent.own Is o1000037)]
theorem EStampBound_l6 (v0 : List (Int × Int × Int × Unit)) (v1 : Int) (v8 : Int) (v38 : Int) (v39 : Int) (o1000037 : List Int) : exec EStampBound 1000 (.code (loopAt (bodyOf Try.prog 5) 6).1 :: .inLoop (loopAt (bodyOf Try.prog 5) 6).1 :: (loopAt (bodyOf Try.prog 5) 6).2) (EStampBound_s6 v0 v1 v8 v38 v39 o1000037) =
  cond (decide (v39 < v38)) (.need ((0 : Int) ≤ v39 ∧ v39 < (↑(List.length o1000037) : Int)) (cond (decide (List.getD o1000037 (Int.toNat v39) (0 : Int) < (1 : Int))) (.ret ((false, ()))) (.need (inK IntKind.i64 (v39 + (1 : Int))) (cond (decide (v39 + (1 : Int) < List.getD o1000037 (Int.toNat v39) (0 : Int))) (.ret ((false, ()))) (.need (inK IntKind.i64 (v39 + (1 : Int))) (.cut (loopAt (bodyOf Try.prog 5) 6).1 (loopAt (bodyOf Try.prog 5) 6).2 (St.mk [(0, AV.val Es v0), (1, AV.val (Ty.int IntKind.i64) v1), (7, AV.at_ 1000037 []), (8, AV.val (Ty.int IntKind.i64) v8), (37, AV.at_ 1000037 []), (38, AV.val (Ty.int IntKind.i64) v38), (39, AV.val (Ty.int IntKind.i64) (v39 + (1 : Int)))] [(1000037, Ent.own Is o1000037)]))))))) (.need ((61 : Int) ≤ (1000000 : Int)) (.need ((0 : Int) ≤ rest v1 (61 : Int) ∧ rest v1 (61 : Int) ≤ rest v1 (61 : Int) ∧ rest v1 (61 : Int) ≤ (140737488355328 : Int) ∧ rest v1 (61 : Int) * (↑(Ty.wb Event) : Int) ≤ (140737488355328 : Int)) (.cut (loopAt (bodyOf Try.prog 5) 13).1 (loopAt (bodyOf Try.prog 5) 13).2 (St.mk [(0, AV.val Es v0), (7, AV.at_ 1000007 []), (8, AV.val (Ty.int IntKind.i64) v8), (11, AV.at_ 1000011 []), (57, AV.val (Ty.int IntKind.i64) (↑(List.length (List.replicate (Int.toNat (rest v1 (61 : Int))) ((0 : Int), (0 : Int), (0 : Int), ()))) : Int)), (58, AV.val (Ty.int IntKind.i64) (0 : Int))] [(1000007, Ent.own Is o1000037), (1000011, Ent.own (Ty.slc true Event) (List.replicate (Int.toNat (rest v1 (61 : Int))) ((0 : Int), (0 : Int), (0 : Int), ())))])))) := by kernel_rfl
def EStampBound_s13 (v0 : List (Int × Int × Int × Unit)) (v8 : Int) (v57 : Int) (v58 : Int) (o1000007 : List Int) (o1000011 : List (Int × Int × Int × Unit)) : St := St.mk [(0, AV.val Es v0), (7, AV.at_ 1000007 []), (8, AV.val (Ty.int IntKind.i64) v8), (11, AV.at_ 1000011 []), (57, AV.val (Ty.int IntKind.i64) v57), (58, AV.val (Ty.int IntKind.i64) v58)] [(1000007, Ent.own Is o1000007), (1000011, Ent.own (Ty.slc true Event) o1000011)]
theorem EStampBound_l13 (v0 : List (Int × Int × Int × Unit)) (v8 : Int) (v57 : Int) (v58 : Int) (o1000007 : List Int) (o1000011 : List (Int × Int × Int × Unit)) : exec EStampBound 1000 (.code (loopAt (bodyOf Try.prog 5) 13).1 :: .inLoop (loopAt (bodyOf Try.prog 5) 13).1 :: (loopAt (bodyOf Try.prog 5) 13).2) (EStampBound_s13 v0 v8 v57 v58 o1000007 o1000011) =
  cond (decide (v58 < v57)) (.need ((0 : Int) ≤ v58 ∧ v58 < (↑(List.length o1000011) : Int)) (.need (inK IntKind.i64 (v58 + (1 : Int))) (.cut (loopAt (bodyOf Try.prog 5) 13).1 (loopAt (bodyOf Try.prog 5) 13).2 (St.mk [(0, AV.val Es v0), (7, AV.at_ 1000007 []), (8, AV.val (Ty.int IntKind.i64) v8), (11, AV.at_ 1000011 []), (57, AV.val (Ty.int IntKind.i64) v57), (58, AV.val (Ty.int IntKind.i64) (v58 + (1 : Int)))] [(1000007, Ent.own Is o1000007), (1000011, Ent.own (Ty.slc true Event) (List.set o1000011 (Int.toNat v58) (Prod.fst (List.getD o1000011 (Int.toNat v58) ((0 : Int), (0 : Int), (0 : Int), ())), (1 : Int), Prod.snd (Prod.snd (List.getD o1000011 (Int.toNat v58) ((0 : Int), (0 : Int), (0 : Int), ()))))))])))) (.need (True) (.cut (loopAt (bodyOf Try.prog 5) 19).1 (loopAt (bodyOf Try.prog 5) 19).2 (St.mk [(0, AV.val Es v0), (7, AV.at_ 1000007 []), (8, AV.val (Ty.int IntKind.i64) v8), (11, AV.at_ 1000011 []), (13, AV.at_ 1000071 []), (14, AV.val (Ty.int IntKind.i64) (Prod.fst (Prod.snd (stamps o1000011)))), (71, AV.at_ 1000071 []), (72, AV.val (Ty.int IntKind.i64) (↑(List.length (Prod.fst (stamps o1000011))) : Int)), (73, AV.val (Ty.int IntKind.i64) (0 : Int))] [(1000007, Ent.own Is o1000007), (1000011, Ent.own (Ty.slc true Event) o1000011), (1000071, Ent.own Is (Prod.fst (stamps o1000011)))]))) := by kernel_rfl
def EStampBound_s19 (v0 : List (Int × Int × Int × Unit)) (v8 : Int) (v14 : Int) (v72 : Int) (v73 : Int) (o1000007 : List Int) (o1000011 : List (Int × Int × Int × Unit)) (o1000071 : List Int) : St := St.mk [(0, AV.val Es v0), (7, AV.at_ 1000007 []), (8, AV.val (Ty.int IntKind.i64) v8), (11, AV.at_ 1000011 []), (13, AV.at_ 1000071 []), (14, AV.val (Ty.int IntKind.i64) v14), (71, AV.at_ 1000071 []), (72, AV.val (Ty.int IntKind.i64) v72), (73, AV.val (Ty.int IntKind.i64) v73)] [(1000007, Ent.own Is o1000007), (1000011, Ent.own (Ty.slc true Event) o1000011), (1000071, Ent.own Is o1000071)]
theorem EStampBound_l19 (v0 : List (Int × Int × Int × Unit)) (v8 : Int) (v14 : Int) (v72 : Int) (v73 : Int) (o1000007 : List Int) (o1000011 : List (Int × Int × Int × Unit)) (o1000071 : List Int) : exec EStampBound 1000 (.code (loopAt (bodyOf Try.prog 5) 19).1 :: .inLoop (loopAt (bodyOf Try.prog 5) 19).1 :: (loopAt (bodyOf Try.prog 5) 19).2) (EStampBound_s19 v0 v8 v14 v72 v73 o1000007 o1000011 o1000071) =
  cond (decide (v73 < v72)) (.need ((0 : Int) ≤ v73 ∧ v73 < (↑(List.length o1000071) : Int)) (.need (inK IntKind.i64 (v73 + (1 : Int))) (cond (decide (List.getD o1000071 (Int.toNat v73) (0 : Int) ≠ v73 + (1 : Int))) (.ret ((false, ()))) (.need (inK IntKind.i64 (v73 + (1 : Int))) (.cut (loopAt (bodyOf Try.prog 5) 19).1 (loopAt (bodyOf Try.prog 5) 19).2 (St.mk [(0, AV.val Es v0), (7, AV.at_ 1000007 []), (8, AV.val (Ty.int IntKind.i64) v8), (11, AV.at_ 1000011 []), (13, AV.at_ 1000071 []), (14, AV.val (Ty.int IntKind.i64) v14), (71, AV.at_ 1000071 []), (72, AV.val (Ty.int IntKind.i64) v72), (73, AV.val (Ty.int IntKind.i64) (v73 + (1 : Int)))] [(1000007, Ent.own Is o1000007), (1000011, Ent.own (Ty.slc true Event) o1000011), (1000071, Ent.own Is o1000071)])))))) (cond (decide (v14 = (0 : Int))) (cond (decide ((↑(List.length o1000071) : Int) = (↑(List.length o1000011) : Int))) (cond (decide (v8 ≠ (0 : Int))) (.ret ((true, ()))) (.ret ((decide ((↑(List.length o1000007) : Int) = (↑(List.length v0) : Int)), ())))) (.ret ((false, ())))) (.ret ((false, ())))) := by kernel_rfl
theorem wb_ev : Ty.wb Event = 24 := rfl
theorem alone_set {i n : Nat} (h : i < n) : (List.replicate i a1 ++ List.replicate (n - i) e0).set i ((List.replicate i a1 ++ List.replicate (n - i) e0).getD i e0 |> fun e => (e.1, 1, e.2.2)) = List.replicate (i + 1) a1 ++ List.replicate (n - (i + 1)) e0 := by
  have hg : (List.replicate i a1 ++ List.replicate (n - i) e0).getD i e0 = e0 := by
    rw [List.getD_eq_getElem?_getD, List.getElem?_append_right (by simp), List.length_replicate, Nat.sub_self, List.getElem?_replicate]
    split <;> rfl
  rw [hg, List.set_append, if_neg (by simp), List.length_replicate, Nat.sub_self, show n - i = (n - (i + 1)) + 1 by omega, List.replicate_succ, List.set_cons_zero, List.replicate_succ', List.append_assoc]
  rfl

theorem cStampBound_valid : (lawC [Es, I64] (fun _ => True)).Valid Try.prog 5 := by
  refine Ctr.valid_of EStampBound_ok rfl rfl Try.func5 (c := bodyOf Try.prog 5) rfl rfl FStampBound_ok rfl ?_
  rintro ⟨(h : List Ev), (x : Int), ⟨⟩⟩ - -
  refine exec_sound (n := 1000) EStampBound_ok FStampBound_ok ?_
  refine holds_of_eq (EStampBound_t h x) ?_
  obtain ⟨n0, n1⟩ := rest_in (a := x) (n := 61) (by omega)
  have hsl : (stamps h).1.length ≤ 60 := by
    by_cases h0 : scheck h = 0
    · rw [stamps_len (by rw [stamps, if_neg (by simp [h0])])]; exact (scheck_ok h0).1
    · rw [stamps, if_pos h0]; simp
  obtain ⟨n, hn⟩ : ∃ n : Nat, rest x 61 = (n : Int) := ⟨(rest x 61).toNat, by omega⟩
  simp only [holds_cond, Tree.holds, true_and, true_implies, decide_eq_true_eq, decide_eq_false_iff_not, Bool.not_eq_true', Bool.not_eq_false', Int.toNat_natCast, inK_i64, List.length_set, List.length_cons, List.length_nil]
  refine Reach.loopI EStampBound_ok FStampBound_ok (fun i : Nat => EStampBound_s6 h x (stamps h).2.1 ((stamps h).1.length : Int) (i : Int) (stamps h).1) (fun i => i ≤ (stamps h).1.length)
    (fun i => (stamps h).1.length - i) 1000 (fun _ => ⟨uniq_of rfl, uniq_of rfl⟩) ?_ 0 (by omega)
  rintro i k1 - ih
  refine holds_of_eq (EStampBound_l6 ..) ?_
  rw [hn]
  simp only [holds_cond, Tree.holds, true_and, true_implies, decide_eq_true_eq, decide_eq_false_iff_not, Bool.not_eq_true', Bool.not_eq_false', Int.toNat_natCast, inK_i64, List.length_set, List.length_cons, List.length_nil, wb_ev, List.length_replicate]
  refine ⟨fun a => ?_, fun a => ⟨by omega, fun _ => ⟨⟨by omega, by omega, by omega, by omega⟩, fun _ => ?_⟩⟩⟩
  · have := stamps_bound (h := h) (i := i) (by omega)
    exact ⟨by omega, fun _ => ⟨fun b => absurd b (by omega), fun _ => ⟨by omega, fun _ => ⟨fun b => absurd b (by omega), fun _ => ⟨by omega, fun _ => ih (i + 1) (by omega) (by omega)⟩⟩⟩⟩⟩
  clear ih
  refine Reach.loopI EStampBound_ok FStampBound_ok (fun i : Nat => EStampBound_s13 h (stamps h).2.1 (n : Int) (i : Int) (stamps h).1 (List.replicate i a1 ++ List.replicate (n - i) e0)) (fun i => i ≤ n)
    (fun i => n - i) 1000 (fun _ => ⟨uniq_of rfl, uniq_of rfl⟩) ?_ 0 (by omega)
  rintro i k1 - ih
  refine holds_of_eq (EStampBound_l13 ..) ?_
  simp only [holds_cond, Tree.holds, true_and, true_implies, decide_eq_true_eq, decide_eq_false_iff_not, Bool.not_eq_true', Bool.not_eq_false', Int.toNat_natCast, inK_i64, List.length_set, List.length_cons, List.length_nil, List.length_append, List.length_replicate]
  refine ⟨fun a => ⟨by omega, fun _ => ⟨by omega, fun _ => ?_⟩⟩, fun a => ?_⟩
  · have h9 := ih (i + 1) (by omega) (by omega)
    rw [← alone_set (by omega)] at h9
    exact h9
  have hi : i = n := by omega
  subst hi
  obtain ⟨c1, c2⟩ := stamps_alone (n := i) (by omega)
  have hla : (stamps (List.replicate i a1)).1.length = i := by rw [stamps_len (by rw [stamps, if_neg (by simp [c1])]), List.length_replicate]
  have he : (stamps (List.replicate i a1)).2.1 = 0 := by rw [stamps, if_neg (by simp [c1])]
  rw [Nat.sub_self, List.replicate_zero, List.append_nil, hla, he]
  clear ih
  refine Reach.loopI EStampBound_ok FStampBound_ok (fun j : Nat => EStampBound_s19 h (stamps h).2.1 0 (i : Int) (j : Int) (stamps h).1 (List.replicate i a1) (stamps (List.replicate i a1)).1) (fun j => j ≤ i)
    (fun j => i - j) 1000 (fun _ => ⟨uniq_of rfl, uniq_of rfl⟩) ?_ 0 (by omega)
  rintro j k1 - ih
  refine holds_of_eq (EStampBound_l19 ..) ?_
  simp only [holds_cond, Tree.holds, true_and, true_implies, decide_eq_true_eq, decide_eq_false_iff_not, Bool.not_eq_true', Bool.not_eq_false', Int.toNat_natCast, inK_i64, List.length_set, List.length_cons, List.length_nil, hla, List.length_replicate]
  refine ⟨fun a => ⟨by omega, fun _ => ⟨by omega, fun _ => ⟨fun b => absurd (c2 j (by omega)) b, fun _ => ⟨by omega, fun _ => ih (j + 1) (by omega) (by omega)⟩⟩⟩⟩, fun a => ⟨⟨⟨fun b => yes, fun b => yesd ?_⟩, fun b => (b trivial).elim⟩, fun b => (b trivial).elim⟩⟩
  rw [stamps_len (Decidable.of_not_not b)]
end Go.Proofs.Ytibpibbnnogdkaa
