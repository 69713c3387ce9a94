/- The laws of the package wire. -/
import Derived.Test.YtcafiieffenohaaWire
namespace Go.Proofs.Ytcafiieffenohaa
open Go.Ex
set_option maxRecDepth 100000
def ub (n : Int) : UInt8 := UInt8.ofNat (n % 256).toNat
def tb (n : Int) : List UInt8 := [ub n, ub (n / 256), ub (n / 65536)]
theorem ub_b (x : UInt8) : ub (x.toNat : Int) = x := by
  have := x.toNat_lt
  apply UInt8.toNat_inj.1
  rw [ub, u8_ofNat]; omega
theorem ub_lt (n : Int) : ((ub n).toNat : Int) = n % 256 := by rw [ub, u8_ofNat]; omega
theorem tb_num (x y z : UInt8) : tb ((x.toNat : Int) + (y.toNat : Int) * 256 + (z.toNat : Int) * 65536) = [x, y, z] := by
  have h1 := x.toNat_lt
  have h2 := y.toNat_lt
  have h3 := z.toNat_lt
  rw [tb, List.cons.injEq, List.cons.injEq, List.cons.injEq]
  refine ⟨?_, ?_, ?_, rfl⟩ <;> (apply UInt8.toNat_inj.1; rw [ub, u8_ofNat]; omega)
theorem byteL_three (l : List Int) : byteL (l.flatMap threeI) = l.flatMap tb := by
  induction l with
  | nil => rfl
  | cons x l ih => rw [List.flatMap_cons, byteL_app, ih, List.flatMap_cons]; rfl
theorem bodyB_eq (n : NoteD) : bodyB n = [ub n.1, ub n.2.1, ub n.2.2.1] ++ (numsI n).flatMap tb ++ n.2.2.2.2.2.2.1 := by
  rw [bodyB, bodyI, byteL_app, byteL_app, byteL_three, byteL_back]; rfl
theorem cons_of {k : Nat} {s : List UInt8} (h : k + 1 ≤ s.length) : ∃ b t, s = b :: t ∧ k ≤ t.length := by
  match s, h with
  | b :: t, h => exact ⟨b, t, rfl, by simpa using h⟩
theorem body_parse {s : List UInt8} (h : 27 ≤ s.length) : bodyB (parse s) = s := by
  obtain ⟨b0, t0, rfl, h0⟩ := cons_of (k := 26) h
  obtain ⟨b1, t1, rfl, h1⟩ := cons_of (k := 25) h0
  obtain ⟨b2, t2, rfl, h2⟩ := cons_of (k := 24) h1
  obtain ⟨b3, t3, rfl, h3⟩ := cons_of (k := 23) h2
  obtain ⟨b4, t4, rfl, h4⟩ := cons_of (k := 22) h3
  obtain ⟨b5, t5, rfl, h5⟩ := cons_of (k := 21) h4
  obtain ⟨b6, t6, rfl, h6⟩ := cons_of (k := 20) h5
  obtain ⟨b7, t7, rfl, h7⟩ := cons_of (k := 19) h6
  obtain ⟨b8, t8, rfl, h8⟩ := cons_of (k := 18) h7
  obtain ⟨b9, t9, rfl, h9⟩ := cons_of (k := 17) h8
  obtain ⟨b10, t10, rfl, h10⟩ := cons_of (k := 16) h9
  obtain ⟨b11, t11, rfl, h11⟩ := cons_of (k := 15) h10
  obtain ⟨b12, t12, rfl, h12⟩ := cons_of (k := 14) h11
  obtain ⟨b13, t13, rfl, h13⟩ := cons_of (k := 13) h12
  obtain ⟨b14, t14, rfl, h14⟩ := cons_of (k := 12) h13
  obtain ⟨b15, t15, rfl, h15⟩ := cons_of (k := 11) h14
  obtain ⟨b16, t16, rfl, h16⟩ := cons_of (k := 10) h15
  obtain ⟨b17, t17, rfl, h17⟩ := cons_of (k := 9) h16
  obtain ⟨b18, t18, rfl, h18⟩ := cons_of (k := 8) h17
  obtain ⟨b19, t19, rfl, h19⟩ := cons_of (k := 7) h18
  obtain ⟨b20, t20, rfl, h20⟩ := cons_of (k := 6) h19
  obtain ⟨b21, t21, rfl, h21⟩ := cons_of (k := 5) h20
  obtain ⟨b22, t22, rfl, h22⟩ := cons_of (k := 4) h21
  obtain ⟨b23, t23, rfl, h23⟩ := cons_of (k := 3) h22
  obtain ⟨b24, t24, rfl, h24⟩ := cons_of (k := 2) h23
  obtain ⟨b25, t25, rfl, h25⟩ := cons_of (k := 1) h24
  obtain ⟨b26, t, rfl, h26⟩ := cons_of (k := 0) h25
  rw [bodyB_eq]
  show [ub (b0.toNat : Int), ub (b1.toNat : Int), ub (b2.toNat : Int)] ++ (tb ((b3.toNat : Int) + (b4.toNat : Int) * 256 + (b5.toNat : Int) * 65536) ++ (tb ((b6.toNat : Int) + (b7.toNat : Int) * 256 + (b8.toNat : Int) * 65536) ++ (tb ((b9.toNat : Int) + (b10.toNat : Int) * 256 + (b11.toNat : Int) * 65536) ++ (tb ((b12.toNat : Int) + (b13.toNat : Int) * 256 + (b14.toNat : Int) * 65536) ++ (tb ((b15.toNat : Int) + (b16.toNat : Int) * 256 + (b17.toNat : Int) * 65536) ++ (tb ((b18.toNat : Int) + (b19.toNat : Int) * 256 + (b20.toNat : Int) * 65536) ++ (tb ((b21.toNat : Int) + (b22.toNat : Int) * 256 + (b23.toNat : Int) * 65536) ++ (tb ((b24.toNat : Int) + (b25.toNat : Int) * 256 + (b26.toNat : Int) * 65536) ++ [])))))))) ++ t = _
  rw [tb_num, tb_num, tb_num, tb_num, tb_num, tb_num, tb_num, tb_num, ub_b, ub_b, ub_b]
  rfl
theorem parse_body : ∀ {n : NoteD}, NoteOk n → n.2.2.2.2.2.1.length = 6 → parse (bodyB n) = n
  | (a, b, c, d, e, [v0, v1, v2, v3, v4, v5], t, ()), h, _ => by
    have num : ∀ x : Int, 0 ≤ x ∧ x ≤ 16777215 → ((ub x).toNat : Int) + ((ub (x / 256)).toNat : Int) * 256 + ((ub (x / 65536)).toNat : Int) * 65536 = x := by
      intro x hx; rw [ub_lt, ub_lt, ub_lt]; omega
    have one : ∀ x : Int, 0 ≤ x ∧ x ≤ 255 → ((ub x).toNat : Int) = x := by intro x hx; rw [ub_lt]; omega
    rw [bodyB_eq]
    show (((ub a).toNat : Int), ((ub b).toNat : Int), ((ub c).toNat : Int), ((ub d).toNat : Int) + ((ub (d / 256)).toNat : Int) * 256 + ((ub (d / 65536)).toNat : Int) * 65536, ((ub e).toNat : Int) + ((ub (e / 256)).toNat : Int) * 256 + ((ub (e / 65536)).toNat : Int) * 65536,
      [((ub v0).toNat : Int) + ((ub (v0 / 256)).toNat : Int) * 256 + ((ub (v0 / 65536)).toNat : Int) * 65536, ((ub v1).toNat : Int) + ((ub (v1 / 256)).toNat : Int) * 256 + ((ub (v1 / 65536)).toNat : Int) * 65536, ((ub v2).toNat : Int) + ((ub (v2 / 256)).toNat : Int) * 256 + ((ub (v2 / 65536)).toNat : Int) * 65536,
       ((ub v3).toNat : Int) + ((ub (v3 / 256)).toNat : Int) * 256 + ((ub (v3 / 65536)).toNat : Int) * 65536, ((ub v4).toNat : Int) + ((ub (v4 / 256)).toNat : Int) * 256 + ((ub (v4 / 65536)).toNat : Int) * 65536, ((ub v5).toNat : Int) + ((ub (v5 / 256)).toNat : Int) * 256 + ((ub (v5 / 65536)).toNat : Int) * 65536], t, ()) = _
    have hv : ∀ x ∈ [v0, v1, v2, v3, v4, v5], 0 ≤ x ∧ x ≤ 16777215 := h.at_
    have hf : 0 ≤ b ∧ b ≤ 5 := h.from_
    have ht : 0 ≤ c ∧ c ≤ 5 := h.to
    rw [one a h.kind, one b (by omega), one c (by omega), num d h.view, num e h.seq, num v0 (hv _ (by simp)), num v1 (hv _ (by simp)), num v2 (hv _ (by simp)), num v3 (hv _ (by simp)), num v4 (hv _ (by simp)), num v5 (hv _ (by simp))]
theorem body_len {n : NoteD} (h : n.2.2.2.2.2.1.length = 6) : (bodyB n).length = 27 + n.2.2.2.2.2.2.1.length := by
  have : ∀ l : List Int, (l.flatMap tb).length = 3 * l.length := fun l => by rw [← byteL_three, byteL, List.length_map, three_len]
  rw [bodyB_eq, List.length_append, List.length_append, this]
  show 3 + 3 * (n.2.2.2.2.2.1.length + 1 + 1) + _ = _
  omega
theorem pack_len {n : NoteD} (hok : NoteOk n) (h : n.2.2.2.2.2.1.length = 6) : 31 ≤ (packB n).length ∧ (packB n).length ≤ 231 := by
  rw [packB, List.length_append, body_len h]
  have := hok.text
  show _ ∧ _ + 4 ≤ 231
  exact ⟨by show 31 ≤ _ + 4; omega, by omega⟩
theorem read_pack {n : NoteD} (hc : wcheck n = 0) (h : n.2.2.2.2.2.1.length = 6) : readR (packB n) = (n, 0, ()) := by
  have hok := wcheck_ok hc
  obtain ⟨h1, h2⟩ := pack_len hok h
  have e4 : (packB n).length - 4 = (bodyB n).length := by rw [packB, List.length_append]; show (bodyB n).length + 4 - 4 = _; omega
  have e5 : (packB n).take ((packB n).length - 4) = bodyB n := by rw [e4, packB, List.take_left']; rfl
  have e6 : (packB n).drop ((packB n).length - 4) = le4 (crcN (bodyB n)) := by rw [e4, packB, List.drop_left']; rfl
  rw [readR, if_neg (by omega), if_neg (by omega), e5, e6, if_neg (fun c => c rfl), parse_body hok h, if_neg (fun c => c hc)]
theorem reg_pack (n : NoteD) : reg 4294967295 (packB n) = steps 32 4294967295 := reg_valid _
/-- a text whose sum is another one -/
theorem read_bad {u : List UInt8} (h1 : 31 ≤ u.length) (h2 : u.length ≤ 231) (h : reg 4294967295 u ≠ steps 32 4294967295) : (readR u).2.1 = 5 := by
  rw [readR, if_neg (by omega), if_neg (by omega), if_pos]
  intro e
  apply h
  have := reg_valid (u.take (u.length - 4))
  rw [e, List.take_append_drop] at this
  exact this
theorem read_ok {s : List UInt8} (h : (readR s).2.1 = 0) : wcheck (readR s).1 = 0 ∧ packB (readR s).1 = s := by
  unfold readR at h ⊢
  split at h
  · cases h
  split at h
  · cases h
  split at h
  · cases h
  split at h
  · rename_i c; exact absurd h c
  · rename_i c1 c2 c3 c4
    rw [if_neg c1, if_neg c2, if_neg c3, if_neg c4]
    have hl : 27 ≤ (s.take (s.length - 4)).length := by rw [List.length_take]; omega
    refine ⟨Decidable.not_not.1 c4, ?_⟩
    show bodyB (parse (s.take (s.length - 4))) ++ le4 (crcN (bodyB (parse (s.take (s.length - 4))))) = s
    rw [body_parse hl, Decidable.not_not.1 c3, List.take_append_drop]
theorem read_no {s : List UInt8} (h : (readR s).2.1 ≠ 0) : (readR s).1 = zeroNote := by
  unfold readR at h ⊢
  by_cases c1 : 231 < s.length
  · rw [if_pos c1]
  rw [if_neg c1] at h ⊢
  by_cases c2 : s.length < 31
  · rw [if_pos c2]
  rw [if_neg c2] at h ⊢
  by_cases c3 : le4 (crcN (s.take (s.length - 4))) ≠ s.drop (s.length - 4)
  · rw [if_pos c3]
  rw [if_neg c3] at h ⊢
  by_cases c4 : wcheck (parse (s.take (s.length - 4))) ≠ 0
  · rw [if_pos c4]
  rw [if_neg c4] at h
  exact absurd rfl h
theorem packR_ok {n : NoteD} (h : wcheck n = 0) : packR n = (packB n, 0, ()) := by rw [packR, if_neg (fun c => c h)]
theorem packR_no {n : NoteD} (h : wcheck n ≠ 0) : packR n = ([], wcheck n, ()) := by rw [packR, if_pos h]
theorem eqDL_refl {α : Type} {f : α → α → Bool} (h : ∀ x, f x x = true) : ∀ l : List α, eqD.eqDL f l l = true
  | [] => rfl
  | x :: l => by simp only [eqD.eqDL, h x, eqDL_refl h l, Bool.and_self]
theorem eqD_note (n : NoteD) : eqD Note n n = true := by
  obtain ⟨a, b, c, d, e, v, t, ⟨⟩⟩ := n
  have hi : ∀ x : Int, eqD (.int .i64) x x = true := fun x => decide_eq_true rfl
  show (eqD I64 a a && (eqD I64 b b && (eqD I64 c c && (eqD I64 d d && (eqD I64 e e && (eqD.eqDL (eqD I64) v v && (eqD .str t t && true))))))) = true
  rw [hi, hi, hi, hi, hi, eqDL_refl hi, show eqD .str t t = true from decide_eq_true rfl]
  rfl
def cflip : Ctr := { ps := [.v .str, .v I64], rs := [.str], pre := fun x => LE.le (α := Int) 0 x.2.1 ∧ LT.lt (α := Int) x.2.1 (8 * List.length x.1), fn := fun x => (flipB x.1 (Int.toNat x.2.1), ()), out := fun _ => () }
noncomputable def Eflip : Env := { P := Try.prog, tt := tt, ctr := [], res := [Go.ResultVar.tmp 4], rs := [Ty.str], ps := [PK.v Ty.str, PK.v (Ty.int IntKind.i64)], cuts := [], nt := 20 }
theorem Eflip_ok : EnvOk Eflip := envOk tt_ok trivial
theorem Fflip_ok : FnOk Eflip Try.f30 := ⟨rfl, rfl⟩
theorem Eflip_t (x0 : List UInt8) (x1 : Int) : exec Eflip 1000 [.code (bodyOf Try.prog 30)] (initSt cflip.ps ((x0, x1, ()))) =
  .need ((0 : Int) < (8 : Int)) (.need ((0 : Int) ≤ Int.tdiv x1 (8 : Int) ∧ Int.tdiv x1 (8 : Int) < (↑(List.length (List.map (fun b => (↑(UInt8.toNat b) : Int)) x0)) : Int)) (.need ((0 : Int) < (8 : Int)) (.need ((0 : Int) ≤ Int.tmod x1 (8 : Int)) (.need ((0 : Int) ≤ Int.tdiv x1 (8 : Int) ∧ Int.tdiv x1 (8 : Int) < (↑(List.length (List.map (fun b => (↑(UInt8.toNat b) : Int)) x0)) : Int)) (.ret ((List.map (fun n => UInt8.ofNat (Int.toNat n)) (List.set (List.map (fun b => (↑(UInt8.toNat b) : Int)) x0) (Int.toNat (Int.tdiv x1 (8 : Int))) (bXor IntKind.u8 (List.getD (List.map (fun b => (↑(UInt8.toNat b) : Int)) x0) (Int.toNat (Int.tdiv x1 (8 : Int))) (0 : Int)) (IntKind.wrap IntKind.u8 ((1 : Int) * (2 : Int) ^ min (Int.toNat (Int.tmod x1 (8 : Int))) (IntKind.bits IntKind.u8))))), ()))))))) := by kernel_rfl
theorem cflip_valid : cflip.Valid Try.prog 30 := by
  refine Ctr.valid_of Eflip_ok rfl rfl Try.func30 (c := bodyOf Try.prog 30) rfl rfl Fflip_ok rfl ?_
  rintro ⟨(s : List UInt8), (k : Int), ⟨⟩⟩ ⟨h0, h1⟩ -
  have h0 : 0 ≤ k := h0
  have h1 : k < 8 * (s.length : Int) := h1
  obtain ⟨m, rfl⟩ := Int.eq_ofNat_of_zero_le h0
  refine exec_sound (n := 1000) Eflip_ok Fflip_ok ?_
  refine holds_of_eq (Eflip_t s (m : Int)) ?_
  have d1 : Int.tdiv (m : Int) 8 = ((m / 8 : Nat) : Int) := by rw [Int.tdiv_eq_ediv_of_nonneg (by omega)]; omega
  have d2 : Int.tmod (m : Int) 8 = ((m % 8 : Nat) : Int) := by rw [Int.tmod_eq_emod_of_nonneg (by omega)]; omega
  simp only [holds_cond, Tree.holds, true_and, true_implies, decide_eq_true_eq, decide_eq_false_iff_not, Bool.not_eq_true', Bool.not_eq_false', Int.toNat_natCast, inK_i64, List.length_set, List.length_cons, List.length_nil, d1, d2, List.length_map]
  refine ⟨by omega, fun _ => ⟨by omega, fun _ => ⟨by omega, fun _ => ⟨by omega, fun _ => ⟨by omega, fun _ => ?_⟩⟩⟩⟩⟩
  show ((byteL _, ()) : List UInt8 × Unit) = (flipB s (Int.toNat (m : Int)), ())
  have hm : m / 8 < s.length := by omega
  have hp : 2 ^ (m % 8) < 256 := by
    have : 2 ^ (m % 8) ≤ 2 ^ 7 := Nat.pow_le_pow_right (by decide) (by omega)
    omega
  have e1 : IntKind.wrap .u8 (1 * 2 ^ min (m % 8) (IntKind.bits .u8)) = ((2 ^ (m % 8) : Nat) : Int) := by
    rw [show min (m % 8) (IntKind.bits .u8) = m % 8 from Nat.min_eq_left (by show m % 8 ≤ 8; omega), Int.one_mul, ← show ((2 ^ (m % 8) : Nat) : Int) = 2 ^ (m % 8) from Int.natCast_pow 2 _, wrap8]
    generalize 2 ^ (m % 8) = z at hp ⊢
    omega
  have hb := (s.getD (m / 8) 0).toNat_lt
  rw [Int.toNat_natCast, e1, getD_map' (d' := 0) hm, xor8 hb hp]
  congr 1
  rw [flipB]
  refine List.ext_getElem (by simp [byteL]) (fun i h1 h2 => ?_)
  have hi : i < s.length := by simpa [byteL] using h1
  simp only [byteL, List.getElem_map, List.getElem_set]
  by_cases e : m / 8 = i
  · rw [if_pos e, if_pos e]
    apply UInt8.toNat_inj.1
    rw [u8_ofNat, UInt8.toNat_xor, bit8 (by omega), Int.toNat_natCast]
    exact Nat.mod_eq_of_lt (Nat.xor_lt_two_pow (n := 8) hb hp)
  · rw [if_neg e, if_neg e]
    simp
def cWireBack : Ctr := { ps := [.v Note, .v .str], rs := [.bool], pre := fun _ => True, fn := fun _ => (true, ()), out := fun _ => () }
noncomputable def EWireBack : Env := { P := Try.prog, tt := tt, ctr := [(27, cpack), (28, cread)], res := [Go.ResultVar.tmp 4], rs := [Ty.bool], ps := [PK.v (Ty.pair (Ty.int IntKind.i64) (Ty.pair (Ty.int IntKind.i64) (Ty.pair (Ty.int IntKind.i64) (Ty.pair (Ty.int IntKind.i64) (Ty.pair (Ty.int IntKind.i64) (Ty.pair Vec (Ty.pair Ty.str Ty.unit))))))), PK.v Ty.str], cuts := [], nt := 96 }
theorem EWireBack_ok : EnvOk EWireBack := envOk tt_ok ⟨cpack_valid, cread_valid, trivial⟩
theorem FWireBack_ok : FnOk EWireBack Try.f6 := ⟨rfl, rfl⟩
theorem EWireBack_t (x0_1 : Int) (x0_2_1 : Int) (x0_2_2_1 : Int) (x0_2_2_2_1 : Int) (x0_2_2_2_2_1 : Int) (x0_2_2_2_2_2_1 : List Int) (x0_2_2_2_2_2_2_1 : List UInt8) (x1 : List UInt8) : exec EWireBack 1000 [.code (bodyOf Try.prog 6)] (initSt cWireBack.ps (((x0_1, x0_2_1, x0_2_2_1, x0_2_2_2_1, x0_2_2_2_2_1, x0_2_2_2_2_2_1, x0_2_2_2_2_2_2_1, ()), x1, ()))) =
  .need (True) (.need ((0 : Int) ≤ (0 : Int) ∧ (0 : Int) < (↑(List.length (Prod.fst (packR ((7 : Int), (0 : Int), (0 : Int), (0 : Int), (258 : Int), [(0 : Int), (0 : Int), (0 : Int), (0 : Int), (0 : Int), (0 : Int)], Array.toList (ByteArray.data (ByteArray.mk #[(97 : UInt8), (98 : UInt8)])), ())))) : Int)) (.need ((0 : Int) ≤ (6 : Int) ∧ (6 : Int) < (↑(List.length (Prod.fst (packR ((7 : Int), (0 : Int), (0 : Int), (0 : Int), (258 : Int), [(0 : Int), (0 : Int), (0 : Int), (0 : Int), (0 : Int), (0 : Int)], Array.toList (ByteArray.data (ByteArray.mk #[(97 : UInt8), (98 : UInt8)])), ())))) : Int)) (.need ((0 : Int) ≤ (7 : Int) ∧ (7 : Int) < (↑(List.length (Prod.fst (packR ((7 : Int), (0 : Int), (0 : Int), (0 : Int), (258 : Int), [(0 : Int), (0 : Int), (0 : Int), (0 : Int), (0 : Int), (0 : Int)], Array.toList (ByteArray.data (ByteArray.mk #[(97 : UInt8), (98 : UInt8)])), ())))) : Int)) (.need ((0 : Int) ≤ (27 : Int) ∧ (27 : Int) ≤ (29 : Int) ∧ (29 : Int) ≤ (↑(List.length (Prod.fst (packR ((7 : Int), (0 : Int), (0 : Int), (0 : Int), (258 : Int), [(0 : Int), (0 : Int), (0 : Int), (0 : Int), (0 : Int), (0 : Int)], Array.toList (ByteArray.data (ByteArray.mk #[(97 : UInt8), (98 : UInt8)])), ())))) : Int)) (.need (True) (cond (decide (Prod.fst (Prod.snd (packR (x0_1, x0_2_1, x0_2_2_1, x0_2_2_2_1, x0_2_2_2_2_1, x0_2_2_2_2_2_1, x0_2_2_2_2_2_2_1, ()))) = (0 : Int))) (.need (True) (cond (decide (Prod.fst (Prod.snd (readR (Prod.fst (packR (x0_1, x0_2_1, x0_2_2_1, x0_2_2_2_1, x0_2_2_2_2_1, x0_2_2_2_2_2_1, x0_2_2_2_2_2_2_1, ()))))) ≠ (0 : Int))) (.ret ((false, ()))) (cond (!eqD (Ty.pair I64 (Ty.pair I64 (Ty.pair I64 (Ty.pair I64 (Ty.pair I64 (Ty.pair Vec (Ty.pair Ty.str Ty.unit))))))) (Prod.fst (readR (Prod.fst (packR (x0_1, x0_2_1, x0_2_2_1, x0_2_2_2_1, x0_2_2_2_2_1, x0_2_2_2_2_2_1, x0_2_2_2_2_2_2_1, ()))))) (x0_1, x0_2_1, x0_2_2_1, x0_2_2_2_1, x0_2_2_2_2_1, x0_2_2_2_2_2_1, x0_2_2_2_2_2_2_1, ())) (.ret ((false, ()))) (.need (True) (.need (True) (cond (decide (Prod.fst (Prod.snd (readR x1)) ≠ (0 : Int))) (cond (eqD (Ty.pair I64 (Ty.pair I64 (Ty.pair I64 (Ty.pair I64 (Ty.pair I64 (Ty.pair Vec (Ty.pair Ty.str Ty.unit))))))) (Prod.fst (readR x1)) ((0 : Int), (0 : Int), (0 : Int), (0 : Int), (0 : Int), [(0 : Int), (0 : Int), (0 : Int), (0 : Int), (0 : Int), (0 : Int)], [], ())) (.ret ((true, ()))) (cond (decide (Prod.fst (Prod.snd (readR x1)) = (0 : Int))) (cond (decide (Prod.fst (Prod.snd (packR (Prod.fst (readR x1)))) = (0 : Int))) (.ret ((decide (Prod.fst (packR (Prod.fst (readR x1))) = x1), ()))) (.ret ((false, ())))) (.ret ((false, ()))))) (cond (decide (Prod.fst (Prod.snd (readR x1)) = (0 : Int))) (cond (decide (Prod.fst (Prod.snd (packR (Prod.fst (readR x1)))) = (0 : Int))) (.ret ((decide (Prod.fst (packR (Prod.fst (readR x1))) = x1), ()))) (.ret ((false, ())))) (.ret ((false, ())))))))))) (.need (True) (.need (True) (cond (decide (Prod.fst (Prod.snd (readR x1)) ≠ (0 : Int))) (cond (eqD (Ty.pair I64 (Ty.pair I64 (Ty.pair I64 (Ty.pair I64 (Ty.pair I64 (Ty.pair Vec (Ty.pair Ty.str Ty.unit))))))) (Prod.fst (readR x1)) ((0 : Int), (0 : Int), (0 : Int), (0 : Int), (0 : Int), [(0 : Int), (0 : Int), (0 : Int), (0 : Int), (0 : Int), (0 : Int)], [], ())) (.ret ((true, ()))) (cond (decide (Prod.fst (Prod.snd (readR x1)) = (0 : Int))) (cond (decide (Prod.fst (Prod.snd (packR (Prod.fst (readR x1)))) = (0 : Int))) (.ret ((decide (Prod.fst (packR (Prod.fst (readR x1))) = x1), ()))) (.ret ((false, ())))) (.ret ((false, ()))))) (cond (decide (Prod.fst (Prod.snd (readR x1)) = (0 : Int))) (cond (decide (Prod.fst (Prod.snd (packR (Prod.fst (readR x1)))) = (0 : Int))) (.ret ((decide (Prod.fst (packR (Prod.fst (readR x1))) = x1), ()))) (.ret ((false, ())))) (.ret ((false, ()))))))))))))) := by kernel_rfl
theorem cWireBack_valid : cWireBack.Valid Try.prog 6 := by
  refine Ctr.valid_of EWireBack_ok rfl rfl Try.func6 (c := bodyOf Try.prog 6) rfl rfl FWireBack_ok rfl ?_
  rintro ⟨⟨(a : Int), (b : Int), (c : Int), (d : Int), (e : Int), (v : List Int), (t : List UInt8), ⟨⟩⟩, (s : List UInt8), ⟨⟩⟩ - ⟨⟨-, -, -, -, -, ⟨hv, -⟩, -⟩, -⟩
  have hv : v.length = 6 := hv
  obtain ⟨n, hn⟩ : ∃ n : NoteD, n = (a, b, c, d, e, v, t, ()) := ⟨_, rfl⟩
  have hn6 : n.2.2.2.2.2.1.length = 6 := by rw [hn]; exact hv
  refine exec_sound (n := 1000) EWireBack_ok FWireBack_ok ?_
  refine holds_of_eq (EWireBack_t a b c d e v t s) ?_
  rw [← hn]
  have l0 : List.length (packR (7, 0, 0, 0, 258, [0, 0, 0, 0, 0, 0], [97, 98], ())).1 = 33 := by decide +kernel
  simp only [holds_cond, Tree.holds, true_and, true_implies, decide_eq_true_eq, decide_eq_false_iff_not, Bool.not_eq_true', Bool.not_eq_false', Int.toNat_natCast, inK_i64, List.length_set, List.length_cons, List.length_nil, l0]
  refine ⟨by omega, fun _ => ⟨by omega, fun _ => ⟨by omega, fun _ => ⟨by omega, fun _ => ?_⟩⟩⟩⟩
  have rest : ∀ P : (List UInt8 × Bool → Prop), True := fun _ => trivial
  have second : ((readR s).2.1 ≠ 0 → eqD Note (readR s).1 (0, 0, 0, 0, 0, [0, 0, 0, 0, 0, 0], [], ()) = true) ∧ ((readR s).2.1 = 0 → (packR (readR s).1).2.1 = 0 ∧ (packR (readR s).1).1 = s) := by
    refine ⟨fun h => ?_, fun h => ?_⟩
    · rw [read_no h]; decide +kernel
    · obtain ⟨h1, h2⟩ := read_ok h
      rw [packR_ok h1]; exact ⟨rfl, h2⟩
  by_cases hs : (readR s).2.1 = 0
  · obtain ⟨q1, q2⟩ := second.2 hs
    by_cases hw : wcheck n = 0
    · rw [packR_ok hw, read_pack hw hn6]
      simp only [hs, q1, q2, eqD_note, ne_eq, not_true_eq_false, false_implies, true_implies, not_false_eq_true, Bool.true_eq_false, Bool.not_true, Bool.false_eq_true]
      simp
      rfl
    · rw [packR_no hw]
      simp only [hs, q1, q2, hw, ne_eq, not_true_eq_false, false_implies, true_implies, not_false_eq_true]
      simp
      rfl
  · have q := second.1 hs
    by_cases hw : wcheck n = 0
    · rw [packR_ok hw, read_pack hw hn6]
      simp only [hs, q, eqD_note, ne_eq, not_true_eq_false, false_implies, true_implies, not_false_eq_true]
      simp
      rfl
    · rw [packR_no hw]
      simp only [hs, q, hw, ne_eq, not_true_eq_false, false_implies, true_implies, not_false_eq_true]
      simp
      rfl
theorem mod_step {x i : Nat} : x % 2 ^ (i + 1) = if (x / 2 ^ i) % 2 = 1 then (x % 2 ^ i) ^^^ 2 ^ i else x % 2 ^ i := by
  rw [Nat.mod_pow_succ]
  have h2 : x / 2 ^ i % 2 < 2 := Nat.mod_lt _ (by decide)
  have hlt : x % 2 ^ i < 2 ^ i := Nat.mod_lt _ (Nat.two_pow_pos i)
  split
  · rename_i h
    rw [h, Nat.mul_one, Nat.xor_comm]
    have : 2 ^ i ^^^ x % 2 ^ i = 2 ^ i + x % 2 ^ i := by
      apply Nat.eq_of_testBit_eq
      intro j
      rw [Nat.testBit_xor, Nat.testBit_two_pow]
      rcases Nat.lt_trichotomy i j with h1 | h1 | h1
      · rw [Nat.testBit_lt_two_pow (x := 2 ^ i + x % 2 ^ i) (by
          have : 2 ^ (i + 1) ≤ 2 ^ j := Nat.pow_le_pow_right (by decide) (by omega)
          omega), Nat.testBit_lt_two_pow (Nat.lt_of_lt_of_le hlt (Nat.pow_le_pow_right (by decide) (by omega))), decide_eq_false (by omega)]
        rfl
      · subst h1
        rw [Nat.testBit_two_pow_add_eq, decide_eq_true rfl, Bool.true_xor]
      · rw [Nat.testBit_two_pow_add_gt h1, decide_eq_false (by omega), Bool.false_xor]
    omega
  · rename_i h
    have : x / 2 ^ i % 2 = 0 := by omega
    rw [this]; omega
theorem burst_step {L k i : Nat} (hk : k + 32 ≤ 8 * L) (hi : i < 32) : steps (8 * L - (k + i)) 1 = steps (8 * L - k - 32) (steps 32 (2 ^ i)) := by
  rw [steps_one (by omega), ← steps_add]
  congr 1
  omega
def cWireBursts : Ctr := { ps := [.v Note, .v I64, .v (.int .u32)], rs := [.bool], pre := fun _ => True, fn := fun _ => (true, ()), out := fun _ => () }
noncomputable def EWireBursts : Env := { P := Try.prog, tt := tt, ctr := [(27, cpack), (28, cread), (29, csum), (20, crest), (30, cflip)], res := [Go.ResultVar.tmp 6], rs := [Ty.bool], ps := [PK.v (Ty.pair (Ty.int IntKind.i64) (Ty.pair (Ty.int IntKind.i64) (Ty.pair (Ty.int IntKind.i64) (Ty.pair (Ty.int IntKind.i64) (Ty.pair (Ty.int IntKind.i64) (Ty.pair Vec (Ty.pair Ty.str Ty.unit))))))), PK.v (Ty.int IntKind.i64), PK.v (Ty.int IntKind.u32)], cuts := [(9, [(2, none), (9, none), (10, none), (41, none)])], nt := 62 }
theorem EWireBursts_ok : EnvOk EWireBursts := envOk tt_ok ⟨cpack_valid, cread_valid, csum_valid, crest_valid, cflip_valid, trivial⟩
theorem FWireBursts_ok : FnOk EWireBursts Try.f7 := ⟨rfl, rfl⟩
theorem EWireBursts_t (x0_1 : Int) (x0_2_1 : Int) (x0_2_2_1 : Int) (x0_2_2_2_1 : Int) (x0_2_2_2_2_1 : Int) (x0_2_2_2_2_2_1 : List Int) (x0_2_2_2_2_2_2_1 : List UInt8) (x1 : Int) (x2 : Int) : exec EWireBursts 1000 [.code (bodyOf Try.prog 7)] (initSt cWireBursts.ps (((x0_1, x0_2_1, x0_2_2_1, x0_2_2_2_1, x0_2_2_2_2_1, x0_2_2_2_2_2_1, x0_2_2_2_2_2_2_1, ()), x1, x2, ()))) =
  .need (True) (.need (True) (cond (decide (Prod.fst (Prod.snd (packR (x0_1, x0_2_1, x0_2_2_1, x0_2_2_2_1, x0_2_2_2_2_1, x0_2_2_2_2_2_1, x0_2_2_2_2_2_2_1, ()))) ≠ (0 : Int))) (cond (decide (Prod.fst (Prod.snd (packR (x0_1, x0_2_1, x0_2_2_1, x0_2_2_2_1, x0_2_2_2_2_1, x0_2_2_2_2_2_1, x0_2_2_2_2_2_2_1, ()))) ≠ (0 : Int))) (.ret ((true, ()))) (.ret ((decide ((31 : Int) ≤ (↑(List.length (Prod.fst (packR (x0_1, x0_2_1, x0_2_2_1, x0_2_2_2_1, x0_2_2_2_2_1, x0_2_2_2_2_2_1, x0_2_2_2_2_2_2_1, ())))) : Int)), ())))) (cond (decide (x2 = (0 : Int))) (cond (decide (Prod.fst (Prod.snd (packR (x0_1, x0_2_1, x0_2_2_1, x0_2_2_2_1, x0_2_2_2_2_1, x0_2_2_2_2_2_1, x0_2_2_2_2_2_2_1, ()))) ≠ (0 : Int))) (.ret ((true, ()))) (.ret ((decide ((31 : Int) ≤ (↑(List.length (Prod.fst (packR (x0_1, x0_2_1, x0_2_2_1, x0_2_2_2_1, x0_2_2_2_2_1, x0_2_2_2_2_2_1, x0_2_2_2_2_2_2_1, ())))) : Int)), ())))) (.need (inK IntKind.i64 ((8 : Int) * (↑(List.length (Prod.fst (packR (x0_1, x0_2_1, x0_2_2_1, x0_2_2_2_1, x0_2_2_2_2_1, x0_2_2_2_2_2_1, x0_2_2_2_2_2_2_1, ())))) : Int))) (.need (inK IntKind.i64 ((8 : Int) * (↑(List.length (Prod.fst (packR (x0_1, x0_2_1, x0_2_2_1, x0_2_2_2_1, x0_2_2_2_2_1, x0_2_2_2_2_2_1, x0_2_2_2_2_2_2_1, ())))) : Int) - (31 : Int))) (.need ((8 : Int) * (↑(List.length (Prod.fst (packR (x0_1, x0_2_1, x0_2_2_1, x0_2_2_2_1, x0_2_2_2_2_1, x0_2_2_2_2_2_1, x0_2_2_2_2_2_2_1, ())))) : Int) - (31 : Int) ≤ (1000000 : Int)) (.cut (loopAt (bodyOf Try.prog 7) 9).1 (loopAt (bodyOf Try.prog 7) 9).2 (St.mk [(2, AV.val (Ty.int IntKind.u32) x2), (9, AV.val (Ty.int IntKind.i64) (rest x1 ((8 : Int) * (↑(List.length (Prod.fst (packR (x0_1, x0_2_1, x0_2_2_1, x0_2_2_2_1, x0_2_2_2_2_1, x0_2_2_2_2_2_1, x0_2_2_2_2_2_2_1, ())))) : Int) - (31 : Int)))), (10, AV.val Ty.str (Prod.fst (packR (x0_1, x0_2_1, x0_2_2_1, x0_2_2_2_1, x0_2_2_2_2_1, x0_2_2_2_2_2_1, x0_2_2_2_2_2_2_1, ())))), (41, AV.val (Ty.int IntKind.i64) (0 : Int))] [])))))))) := by kernel_rfl
def EWireBursts_s9 (v2 : Int) (v9 : Int) (v10 : List UInt8) (v41 : Int) : St := St.mk [(2, AV.val (Ty.int IntKind.u32) v2), (9, AV.val (Ty.int IntKind.i64) v9), (10, AV.val Ty.str v10), (41, AV.val (Ty.int IntKind.i64) v41)] []
theorem EWireBursts_l9 (v2 : Int) (v9 : Int) (v10 : List UInt8) (v41 : Int) : exec EWireBursts 1000 (.code (loopAt (bodyOf Try.prog 7) 9).1 :: .inLoop (loopAt (bodyOf Try.prog 7) 9).1 :: (loopAt (bodyOf Try.prog 7) 9).2) (EWireBursts_s9 v2 v9 v10 v41) =
  cond (decide (v41 < (32 : Int))) (.need ((0 : Int) ≤ v41) (cond (decide (bAnd IntKind.u32 (v2 / (2 : Int) ^ min (Int.toNat v41) (IntKind.bits IntKind.u32)) (1 : Int) = (1 : Int))) (.need (inK IntKind.i64 (v9 + v41)) (.need ((0 : Int) ≤ v9 + v41 ∧ v9 + v41 < (8 : Int) * (↑(List.length v10) : Int)) (.need (inK IntKind.i64 (v41 + (1 : Int))) (.cut (loopAt (bodyOf Try.prog 7) 9).1 (loopAt (bodyOf Try.prog 7) 9).2 (St.mk [(2, AV.val (Ty.int IntKind.u32) v2), (9, AV.val (Ty.int IntKind.i64) v9), (10, AV.val Ty.str (flipB v10 (Int.toNat (v9 + v41)))), (41, AV.val (Ty.int IntKind.i64) (v41 + (1 : Int)))] []))))) (.need (inK IntKind.i64 (v41 + (1 : Int))) (.cut (loopAt (bodyOf Try.prog 7) 9).1 (loopAt (bodyOf Try.prog 7) 9).2 (St.mk [(2, AV.val (Ty.int IntKind.u32) v2), (9, AV.val (Ty.int IntKind.i64) v9), (10, AV.val Ty.str v10), (41, AV.val (Ty.int IntKind.i64) (v41 + (1 : Int)))] []))))) (.need (True) (.ret ((decide (Prod.fst (Prod.snd (readR v10)) = (5 : Int)), ())))) := by kernel_rfl
theorem cWireBursts_valid : cWireBursts.Valid Try.prog 7 := by
  refine Ctr.valid_of EWireBursts_ok rfl rfl Try.func7 (c := bodyOf Try.prog 7) rfl rfl FWireBursts_ok rfl ?_
  rintro ⟨⟨(a : Int), (b : Int), (c : Int), (d : Int), (e : Int), (v : List Int), (t : List UInt8), ⟨⟩⟩, (y : Int), (x : Int), ⟨⟩⟩ - ⟨⟨-, -, -, -, -, ⟨hv, -⟩, -⟩, -, hx, -⟩
  have hv : v.length = 6 := hv
  have hx : 0 ≤ x ∧ x ≤ 4294967295 := inK_u32.1 hx
  obtain ⟨n, hn⟩ : ∃ n : NoteD, n = (a, b, c, d, e, v, t, ()) := ⟨_, rfl⟩
  have hn6 : n.2.2.2.2.2.1.length = 6 := by rw [hn]; exact hv
  refine exec_sound (n := 1000) EWireBursts_ok FWireBursts_ok ?_
  refine holds_of_eq (EWireBursts_t a b c d e v t y x) ?_
  rw [← hn]
  simp only [holds_cond, Tree.holds, true_and, true_implies, decide_eq_true_eq, decide_eq_false_iff_not, Bool.not_eq_true', Bool.not_eq_false', Int.toNat_natCast, inK_i64, List.length_set, List.length_cons, List.length_nil]
  by_cases hw : wcheck n = 0
  · obtain ⟨l1, l2⟩ := pack_len (wcheck_ok hw) hn6
    rw [packR_ok hw]
    generalize hL : (packB n).length = L at *
    refine ⟨fun h => absurd rfl h, fun _ => ⟨fun _ => ⟨fun h => absurd rfl h, fun _ => ?_⟩, fun h0 => ⟨by omega, fun _ => ⟨by omega, fun _ => ⟨by omega, fun _ => ?_⟩⟩⟩⟩⟩
    · show ((decide _, ()) : Bool × Unit) = (true, ())
      rw [decide_eq_true (by omega)]
    have hk := rest_in (a := y) (n := 8 * (L : Int) - 31) (by omega)
    obtain ⟨k, hke⟩ := Int.eq_ofNat_of_zero_le hk.1
    rw [hke] at hk ⊢
    obtain ⟨X, rfl⟩ := Int.eq_ofNat_of_zero_le hx.1
    refine Reach.loopI EWireBursts_ok FWireBursts_ok (fun p : Nat × List UInt8 => EWireBursts_s9 (X : Int) (k : Int) p.2 (p.1 : Int)) (fun p => p.1 ≤ 32 ∧ p.2.length = L ∧ reg 4294967295 p.2 = steps 32 4294967295 ^^^ steps (8 * L - k - 32) (steps 32 (X % 2 ^ p.1)))
      (fun p => 32 - p.1) 1000 (fun _ => ⟨uniq_of rfl, uniq_of rfl⟩) ?_ (0, packB n) ⟨Nat.zero_le _, hL, ?_⟩
    · rintro ⟨i, u⟩ ⟨k1, k2, k3⟩ - ih
      have k1 : i ≤ 32 := k1
      have k2 : u.length = L := k2
      have k3 : reg 4294967295 u = steps 32 4294967295 ^^^ steps (8 * L - k - 32) (steps 32 (X % 2 ^ i)) := k3
      refine holds_of_eq (EWireBursts_l9 ..) ?_
      simp only [holds_cond, Tree.holds, true_and, true_implies, decide_eq_true_eq, decide_eq_false_iff_not, Bool.not_eq_true', Bool.not_eq_false', Int.toNat_natCast, inK_i64, List.length_set, List.length_cons, List.length_nil, k2]
      refine ⟨fun c => ⟨by omega, fun _ => ?_⟩, fun c => ?_⟩
      · have hi : i < 32 := by omega
        have e1 : (X : Int) / 2 ^ min i (IntKind.bits .u32) = ((X / 2 ^ i : Nat) : Int) := by
          rw [show min i (IntKind.bits .u32) = i from Nat.min_eq_left (by show i ≤ 32; omega), ← show ((2 ^ i : Nat) : Int) = 2 ^ i from Int.natCast_pow 2 _]
          omega
        have hX : X / 2 ^ i < 4294967296 := Nat.lt_of_le_of_lt (Nat.div_le_self _ _) (by omega)
        rw [e1, odd32 hX]
        have ms := mod_step (x := X) (i := i)
        refine ⟨fun c2 => ⟨by omega, fun _ => ⟨by omega, fun _ => ⟨by omega, fun _ => ?_⟩⟩⟩, fun c2 => ⟨by omega, fun _ => ?_⟩⟩
        · have e2 : Int.toNat ((k : Int) + (i : Int)) = k + i := by omega
          rw [e2]
          refine ih (i + 1, flipB u (k + i)) ⟨by show i + 1 ≤ 32; omega, by rw [flipB_len]; exact k2, ?_⟩ (by show 32 - (i + 1) < 32 - i; omega)
          show reg 4294967295 (flipB u (k + i)) = _
          rw [reg_flip (by omega), k2, k3, burst_step (by omega) hi, ms, if_pos (by omega), steps_xor, steps_xor, Nat.xor_assoc]
        · refine ih (i + 1, u) ⟨by show i + 1 ≤ 32; omega, k2, ?_⟩ (by show 32 - (i + 1) < 32 - i; omega)
          show reg 4294967295 u = _
          rw [k3, ms, if_neg (by omega)]
      · obtain rfl : i = 32 := by omega
        have hX : X % 2 ^ 32 = X := Nat.mod_eq_of_lt (by omega)
        rw [hX] at k3
        have bad : reg 4294967295 u ≠ steps 32 4294967295 := by
          rw [k3]
          intro h9
          have h8 : steps (8 * L - k - 32) (steps 32 X) = 0 := by
            have := congrArg (fun q => steps 32 4294967295 ^^^ q) h9
            simp only [← Nat.xor_assoc, Nat.xor_self, Nat.zero_xor] at this
            exact this
          have h7 := steps_inj _ (steps_lt 32 (show X < 4294967296 by omega)) h8
          have h6 := steps_inj _ (show X < 4294967296 by omega) h7
          omega
        show ((decide ((readR u).2.1 = 5), ()) : Bool × Unit) = (true, ())
        rw [decide_eq_true (read_bad (by omega) (by omega) bad)]
    · show reg 4294967295 (packB n) = steps 32 4294967295 ^^^ steps (8 * L - k - 32) (steps 32 (X % 2 ^ 0))
      rw [reg_pack, Nat.pow_zero, Nat.mod_one, steps_zero, steps_zero, Nat.xor_zero]
  · rw [packR_no hw]
    exact ⟨fun _ => ⟨fun _ => rfl, fun h => absurd hw h⟩, fun h => absurd hw h⟩
theorem few_flips {t : List UInt8} (h1 : 31 ≤ t.length) (h2 : t.length ≤ 231) (hr : reg 4294967295 t = steps 32 4294967295) : ∀ {ps : List Nat}, ps.length ≤ 3 → (∀ p ∈ ps, p < 8 * t.length) → ps.foldl flipB t = t ∨ reg 4294967295 (ps.foldl flipB t) ≠ steps 32 4294967295
  | [], _, _ => .inl rfl
  | [p], _, hp => by
    have hp := hp p (by simp)
    right
    show reg 4294967295 (flipB t p) ≠ _
    rw [reg_flip hp, hr]
    intro h9
    have h8 : steps (8 * t.length - p) 1 = 0 := by
      have := congrArg (fun q => steps 32 4294967295 ^^^ q) h9
      simp only [← Nat.xor_assoc, Nat.xor_self, Nat.zero_xor] at this
      exact this
    have := steps_inj _ (by decide) h8
    cases this
  | [p, q], _, hp => by
    have hq := hp q (by simp)
    have hp := hp p (by simp)
    by_cases e : p = q
    · left; rw [e]; exact flip_flip t q
    · right
      show reg 4294967295 (flipB (flipB t p) q) ≠ _
      rw [reg_flip (by rw [flipB_len]; exact hq), flipB_len, reg_flip hp, hr, Nat.xor_assoc]
      intro h9
      have h8 : steps (8 * t.length - p) 1 ^^^ steps (8 * t.length - q) 1 = 0 := by
        have := congrArg (fun q => steps 32 4294967295 ^^^ q) h9
        simp only [← Nat.xor_assoc, Nat.xor_self, Nat.zero_xor] at this
        exact this
      have h7 := xor_eq_zero h8
      rcases Nat.lt_or_ge (8 * t.length - p) (8 * t.length - q) with h | h
      · exact steps_ne h (by omega) h7
      · exact steps_ne (show 8 * t.length - q < 8 * t.length - p by omega) (by omega) h7.symm
  | [p, q, r], _, hp => by
    have hr' := hp r (by simp)
    have hq := hp q (by simp)
    have hp := hp p (by simp)
    right
    show reg 4294967295 (flipB (flipB (flipB t p) q) r) ≠ _
    rw [reg_flip (by rw [flipB_len, flipB_len]; exact hr'), flipB_len, flipB_len, reg_flip (by rw [flipB_len]; exact hq), flipB_len, reg_flip hp, hr]
    intro h9
    have := congrArg (par 32) h9
    rw [par_xor, par_xor, par_xor, par_one, par_one, par_one] at this
    revert this
    generalize par 32 (steps 32 4294967295) = z
    cases z <;> decide
  | _ :: _ :: _ :: _ :: _, h, _ => by simp at h
def cWireFew : Ctr := { ps := [.v Note, .v (.slc false I64)], rs := [.bool], pre := fun _ => True, fn := fun _ => (true, ()), out := fun _ => () }
noncomputable def EWireFew : Env := { P := Try.prog, tt := tt, ctr := [(27, cpack), (28, cread), (20, crest), (30, cflip)], res := [Go.ResultVar.tmp 4], rs := [Ty.bool], ps := [PK.v (Ty.pair (Ty.int IntKind.i64) (Ty.pair (Ty.int IntKind.i64) (Ty.pair (Ty.int IntKind.i64) (Ty.pair (Ty.int IntKind.i64) (Ty.pair (Ty.int IntKind.i64) (Ty.pair Vec (Ty.pair Ty.str Ty.unit))))))), PK.v (Ty.slc false (Ty.int IntKind.i64))], cuts := [(9, [(7, none), (9, none), (30, none), (31, none), (32, none)])], nt := 66 }
theorem EWireFew_ok : EnvOk EWireFew := envOk tt_ok ⟨cpack_valid, cread_valid, crest_valid, cflip_valid, trivial⟩
theorem FWireFew_ok : FnOk EWireFew Try.f8 := ⟨rfl, rfl⟩
theorem EWireFew_t (x0_1 : Int) (x0_2_1 : Int) (x0_2_2_1 : Int) (x0_2_2_2_1 : Int) (x0_2_2_2_2_1 : Int) (x0_2_2_2_2_2_1 : List Int) (x0_2_2_2_2_2_2_1 : List UInt8) (x1 : List Int) : exec EWireFew 1000 [.code (bodyOf Try.prog 8)] (initSt cWireFew.ps (((x0_1, x0_2_1, x0_2_2_1, x0_2_2_2_1, x0_2_2_2_2_1, x0_2_2_2_2_2_1, x0_2_2_2_2_2_2_1, ()), x1, ()))) =
  .need (True) (.need (True) (cond (decide (Prod.fst (Prod.snd (packR (x0_1, x0_2_1, x0_2_2_1, x0_2_2_2_1, x0_2_2_2_2_1, x0_2_2_2_2_2_1, x0_2_2_2_2_2_2_1, ()))) ≠ (0 : Int))) (.ret ((decide (Prod.fst (packR (x0_1, x0_2_1, x0_2_2_1, x0_2_2_2_1, x0_2_2_2_2_1, x0_2_2_2_2_2_1, x0_2_2_2_2_2_2_1, ())) = Array.toList (ByteArray.data (ByteArray.mk #[]))), ()))) (.cut (loopAt (bodyOf Try.prog 8) 9).1 (loopAt (bodyOf Try.prog 8) 9).2 (St.mk [(7, AV.val Ty.str (Prod.fst (packR (x0_1, x0_2_1, x0_2_2_1, x0_2_2_2_1, x0_2_2_2_2_1, x0_2_2_2_2_2_1, x0_2_2_2_2_2_2_1, ())))), (9, AV.val Ty.str (Prod.fst (packR (x0_1, x0_2_1, x0_2_2_1, x0_2_2_2_1, x0_2_2_2_2_1, x0_2_2_2_2_2_1, x0_2_2_2_2_2_2_1, ())))), (30, AV.val (Ty.slc false (Ty.int IntKind.i64)) x1), (31, AV.val (Ty.int IntKind.i64) (↑(List.length x1) : Int)), (32, AV.val (Ty.int IntKind.i64) (0 : Int))] [])))) := by kernel_rfl
def EWireFew_s9 (v7 : List UInt8) (v9 : List UInt8) (v30 : List Int) (v31 : Int) (v32 : Int) : St := St.mk [(7, AV.val Ty.str v7), (9, AV.val Ty.str v9), (30, AV.val (Ty.slc false (Ty.int IntKind.i64)) v30), (31, AV.val (Ty.int IntKind.i64) v31), (32, AV.val (Ty.int IntKind.i64) v32)] []
theorem EWireFew_l9 (v7 : List UInt8) (v9 : List UInt8) (v30 : List Int) (v31 : Int) (v32 : Int) : exec EWireFew 1000 (.code (loopAt (bodyOf Try.prog 8) 9).1 :: .inLoop (loopAt (bodyOf Try.prog 8) 9).1 :: (loopAt (bodyOf Try.prog 8) 9).2) (EWireFew_s9 v7 v9 v30 v31 v32) =
  cond (decide (v32 < v31)) (.need ((0 : Int) ≤ v32 ∧ v32 < (↑(List.length v30) : Int)) (cond (decide (v32 < (3 : Int))) (.need (inK IntKind.i64 ((8 : Int) * (↑(List.length v7) : Int))) (.need ((8 : Int) * (↑(List.length v7) : Int) ≤ (1000000 : Int)) (.need ((0 : Int) ≤ rest (List.getD v30 (Int.toNat v32) (0 : Int)) ((8 : Int) * (↑(List.length v7) : Int)) ∧ rest (List.getD v30 (Int.toNat v32) (0 : Int)) ((8 : Int) * (↑(List.length v7) : Int)) < (8 : Int) * (↑(List.length v9) : Int)) (.need (inK IntKind.i64 (v32 + (1 : Int))) (.cut (loopAt (bodyOf Try.prog 8) 9).1 (loopAt (bodyOf Try.prog 8) 9).2 (St.mk [(7, AV.val Ty.str v7), (9, AV.val Ty.str (flipB v9 (Int.toNat (rest (List.getD v30 (Int.toNat v32) (0 : Int)) ((8 : Int) * (↑(List.length v7) : Int)))))), (30, AV.val (Ty.slc false (Ty.int IntKind.i64)) v30), (31, AV.val (Ty.int IntKind.i64) v31), (32, AV.val (Ty.int IntKind.i64) (v32 + (1 : Int)))] [])))))) (.need (inK IntKind.i64 (v32 + (1 : Int))) (.cut (loopAt (bodyOf Try.prog 8) 9).1 (loopAt (bodyOf Try.prog 8) 9).2 (St.mk [(7, AV.val Ty.str v7), (9, AV.val Ty.str v9), (30, AV.val (Ty.slc false (Ty.int IntKind.i64)) v30), (31, AV.val (Ty.int IntKind.i64) v31), (32, AV.val (Ty.int IntKind.i64) (v32 + (1 : Int)))] []))))) (.need (True) (cond (decide (v9 = v7) == decide (Prod.fst (Prod.snd (readR v9)) = (0 : Int))) (cond (decide (Prod.fst (Prod.snd (readR v9)) = (0 : Int))) (.ret ((true, ()))) (.ret ((decide (Prod.fst (Prod.snd (readR v9)) = (5 : Int)), ())))) (.ret ((false, ()))))) := by kernel_rfl
theorem cWireFew_valid : cWireFew.Valid Try.prog 8 := by
  refine Ctr.valid_of EWireFew_ok rfl rfl Try.func8 (c := bodyOf Try.prog 8) rfl rfl FWireFew_ok rfl ?_
  rintro ⟨⟨(a : Int), (b : Int), (c : Int), (d : Int), (e : Int), (v : List Int), (t : List UInt8), ⟨⟩⟩, (l : List Int), ⟨⟩⟩ - ⟨⟨-, -, -, -, -, ⟨hv, -⟩, -⟩, ⟨hl, -⟩, -⟩
  have hv : v.length = 6 := hv
  have hl : l.length ≤ 9223372036854775807 := hl
  obtain ⟨n, hn⟩ : ∃ n : NoteD, n = (a, b, c, d, e, v, t, ()) := ⟨_, rfl⟩
  have hn6 : n.2.2.2.2.2.1.length = 6 := by rw [hn]; exact hv
  refine exec_sound (n := 1000) EWireFew_ok FWireFew_ok ?_
  refine holds_of_eq (EWireFew_t a b c d e v t l) ?_
  rw [← hn]
  simp only [holds_cond, Tree.holds, true_and, true_implies, decide_eq_true_eq, decide_eq_false_iff_not, Bool.not_eq_true', Bool.not_eq_false', Int.toNat_natCast, inK_i64, List.length_set, List.length_cons, List.length_nil]
  by_cases hw : wcheck n = 0
  · obtain ⟨l1, l2⟩ := pack_len (wcheck_ok hw) hn6
    rw [packR_ok hw]
    refine ⟨fun h => absurd rfl h, fun _ => ?_⟩
    refine Reach.loopI EWireFew_ok FWireFew_ok (fun p : Nat × List Nat => EWireFew_s9 (packB n) (p.2.foldl flipB (packB n)) l (l.length : Int) (p.1 : Int)) (fun p => p.1 ≤ l.length ∧ p.2.length = min 3 p.1 ∧ ∀ q ∈ p.2, q < 8 * (packB n).length)
      (fun p => l.length - p.1) 1000 (fun _ => ⟨uniq_of rfl, uniq_of rfl⟩) ?_ (0, []) ⟨Nat.zero_le _, rfl, by simp⟩
    rintro ⟨i, ps⟩ ⟨k1, k2, k3⟩ - ih
    have k1 : i ≤ l.length := k1
    have k2 : ps.length = min 3 i := k2
    have k3 : ∀ q ∈ ps, q < 8 * (packB n).length := k3
    refine holds_of_eq (EWireFew_l9 ..) ?_
    have hlen : ∀ ps : List Nat, (ps.foldl flipB (packB n)).length = (packB n).length := by
      intro ps
      suffices ∀ t : List UInt8, (ps.foldl flipB t).length = t.length from this _
      induction ps with
      | nil => intro t; rfl
      | cons p ps ih => intro t; rw [List.foldl_cons, ih, flipB_len]
    simp only [holds_cond, Tree.holds, true_and, true_implies, decide_eq_true_eq, decide_eq_false_iff_not, Bool.not_eq_true', Bool.not_eq_false', Int.toNat_natCast, inK_i64, List.length_set, List.length_cons, List.length_nil, hlen]
    refine ⟨fun c1 => ⟨by omega, fun _ => ⟨fun c2 => ⟨by omega, fun _ => ⟨by omega, fun _ => ?_⟩⟩, fun c2 => ⟨by omega, fun _ => ih (i + 1, ps) ⟨by show i + 1 ≤ l.length; omega, by show ps.length = min 3 (i + 1); omega, k3⟩ (by show l.length - (i + 1) < l.length - i; omega)⟩⟩⟩, fun c1 => ?_⟩
    · have hk := rest_in (a := l.getD i 0) (n := 8 * ((packB n).length : Int)) (by omega)
      obtain ⟨r, hr⟩ := Int.eq_ofNat_of_zero_le hk.1
      rw [hr] at hk ⊢
      refine ⟨hk, fun _ => ⟨by omega, fun _ => ?_⟩⟩
      have := ih (i + 1, ps ++ [r]) ⟨by show i + 1 ≤ l.length; omega, by show (ps ++ [_]).length = min 3 (i + 1); rw [List.length_append, k2]; show _ + 1 = _; omega, fun q hq => by
        rcases List.mem_append.1 hq with h | h
        · exact k3 q h
        · have h : q = r := by simpa using h
          omega⟩ (by show l.length - (i + 1) < l.length - i; omega)
      simp only [List.foldl_append, List.foldl_cons, List.foldl_nil] at this
      exact this
    · generalize hu : ps.foldl flipB (packB n) = u at *
      have h9 := few_flips l1 l2 (reg_pack n) (ps := ps) (by omega) k3
      rw [hu] at h9
      by_cases e : u = packB n
      · rw [e, read_pack hw hn6]
        simp
        rfl
      · have h8 := read_bad (u := u) (by rw [← hu, hlen]; exact l1) (by rw [← hu, hlen]; exact l2) (h9.resolve_left e)
        rw [h8]
        simp [e]
        rfl
  · rw [packR_no hw]
    exact ⟨fun _ => (by show ((decide (([] : List UInt8) = []), ()) : Bool × Unit) = (true, ()); rw [decide_eq_true rfl]), fun h => absurd hw h⟩
end Go.Proofs.Ytcafiieffenohaa
