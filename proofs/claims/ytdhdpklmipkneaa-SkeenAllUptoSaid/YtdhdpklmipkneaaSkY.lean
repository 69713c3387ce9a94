/- SkeenAll: all that have all their numbers, and are fixed, are told everywhere. No condition but the size. -/
import Derived.Test.YtdhdpklmipkneaaSkZ
import Derived.Test.YtdhdpklmipkneaaSortD
import Derived.Shelf.SlGeneric
namespace Go.Proofs.Ytdhdpklmipkneaa
open Go.Ex Go.Sort
set_option maxRecDepth 100000
def laySortK_ren : Go.Shelf.Ren := ⟨fun | 5 => 41 | 7 => 97 | 8 => 98 | 10 => 140 | 11 => 141 | 12 => 142 | 13 => 143 | 14 => 144 | 15 => 145 | 16 => 146 | 17 => 147 | 18 => 148 | 19 => 149 | 20 => 150 | 30 => 180 | 31 => 181 | 32 => 182 | 33 => 183 | 34 => 184 | 35 => 126 | 40 => 217 | n => n, fun | 0 => 0 | 3 => 3 | 4 => 4 | 5 => 5 | 9 => 9 | 22 => 23 | 23 => 23 | 25 => 3 | 32 => 155 | 35 => 206 | 36 => 207 | 41 => 211 | 44 => 214 | 46 => 216 | 53 => 242 | 57 => 246 | 63 => 270 | 64 => 271 | n => n, fun | n => n⟩
theorem laySortK : Go.Proofs.SlLaysM.n5 Try.prog laySortK_ren := {
  mixed := by kernel_rfl,
  f5 := ⟨Try.f41.name, by decide, Try.func41.trans (congrArg some (by kernel_rfl))⟩,
  f7 := ⟨Try.f97.name, by decide, Try.func97.trans (congrArg some (by kernel_rfl))⟩,
  f8 := Try.func98.trans (congrArg some (by kernel_rfl)),
  f10 := ⟨Try.f140.name, by decide, Try.func140.trans (congrArg some (by kernel_rfl))⟩,
  f11 := ⟨Try.f141.name, by decide, Try.func141.trans (congrArg some (by kernel_rfl))⟩,
  f12 := ⟨Try.f142.name, by decide, Try.func142.trans (congrArg some (by kernel_rfl))⟩,
  f13 := ⟨Try.f143.name, by decide, Try.func143.trans (congrArg some (by kernel_rfl))⟩,
  f14 := ⟨Try.f144.name, by decide, Try.func144.trans (congrArg some (by kernel_rfl))⟩,
  f15 := ⟨Try.f145.name, by decide, Try.func145.trans (congrArg some (by kernel_rfl))⟩,
  f16 := ⟨Try.f146.name, by decide, Try.func146.trans (congrArg some (by kernel_rfl))⟩,
  f17 := ⟨Try.f147.name, by decide, Try.func147.trans (congrArg some (by kernel_rfl))⟩,
  f18 := ⟨Try.f148.name, by decide, Try.func148.trans (congrArg some (by kernel_rfl))⟩,
  f19 := Try.func149.trans (congrArg some (by kernel_rfl)),
  f20 := Try.func150.trans (congrArg some (by kernel_rfl)),
  f30 := ⟨Try.f180.name, by decide, Try.func180.trans (congrArg some (by kernel_rfl))⟩,
  f31 := Try.func181.trans (congrArg some (by kernel_rfl)),
  f32 := Try.func182.trans (congrArg some (by kernel_rfl)),
  f33 := ⟨Try.f183.name, by decide, Try.func183.trans (congrArg some (by kernel_rfl))⟩,
  f34 := ⟨Try.f184.name, by decide, Try.func184.trans (congrArg some (by kernel_rfl))⟩,
  f35 := ⟨Try.f126.name, by decide, Try.func126.trans (congrArg some (by kernel_rfl))⟩,
  f40 := ⟨Try.f217.name, by decide, Try.func217.trans (congrArg some (by kernel_rfl))⟩,
  t0 := Try.underlying0,
  a0 := Try.isAgg0,
  z0 := Try.sizeOf0,
  v0 := Try.zeroValue0,
  t3 := Try.underlying3,
  a3 := Try.isAgg3,
  z3 := Try.sizeOf3,
  v3 := Try.zeroValue3,
  t4 := Try.underlying4,
  a4 := Try.isAgg4,
  z4 := Try.sizeOf4,
  v4 := Try.zeroValue4,
  t5 := Try.underlying5,
  a5 := Try.isAgg5,
  z5 := Try.sizeOf5,
  v5 := Try.zeroValue5,
  t9 := Try.underlying9,
  a9 := Try.isAgg9,
  z9 := Try.sizeOf9,
  v9 := Try.zeroValue9,
  t22 := Try.underlying23,
  a22 := Try.isAgg23,
  z22 := Try.sizeOf23,
  v22 := Try.zeroValue23,
  t23 := Try.underlying23,
  a23 := Try.isAgg23,
  z23 := Try.sizeOf23,
  v23 := Try.zeroValue23,
  t25 := Try.underlying3,
  a25 := Try.isAgg3,
  z25 := Try.sizeOf3,
  v25 := Try.zeroValue3,
  t32 := Try.underlying155,
  a32 := Try.isAgg155,
  z32 := Try.sizeOf155,
  v32 := Try.zeroValue155,
  t35 := Try.underlying206,
  a35 := Try.isAgg206,
  z35 := Try.sizeOf206,
  v35 := Try.zeroValue206,
  t36 := Try.underlying207,
  a36 := Try.isAgg207,
  z36 := Try.sizeOf207,
  v36 := Try.zeroValue207,
  t41 := Try.underlying211,
  a41 := Try.isAgg211,
  z41 := Try.sizeOf211,
  v41 := Try.zeroValue211,
  t44 := Try.underlying214,
  a44 := Try.isAgg214,
  z44 := Try.sizeOf214,
  v44 := Try.zeroValue214,
  t46 := Try.underlying216,
  a46 := Try.isAgg216,
  z46 := Try.sizeOf216,
  v46 := Try.zeroValue216,
  t53 := Try.underlying242,
  a53 := Try.isAgg242,
  z53 := Try.sizeOf242,
  v53 := Try.zeroValue242,
  t57 := Try.underlying246,
  a57 := Try.isAgg246,
  z57 := Try.sizeOf246,
  v57 := Try.zeroValue246,
  t63 := Try.underlying270,
  a63 := Try.isAgg270,
  z63 := Try.sizeOf270,
  v63 := Try.zeroValue270,
  t64 := Try.underlying271,
  a64 := Try.isAgg271,
  z64 := Try.sizeOf271,
  v64 := Try.zeroValue271 }
def csortIK : Ctr := sortIC
theorem csortIK_valid : csortIK.Valid Try.prog 41 := sortI_valid laySortK
theorem take_getD {α : Type} {l : List α} {i : Nat} (h : i < l.length) (d : α) : l.take (i + 1) = l.take i ++ [l.getD i d] := by
  rw [List.take_succ_eq_append_getElem h, List.getD_eq_getElem?_getD, List.getElem?_eq_getElem h]; rfl
theorem sum_len_take {α : Type} : ∀ (l : List (List α)) (i : Nat), ((l.take i).map List.length).sum ≤ l.flatten.length
  | [], i => by simp
  | a :: l, 0 => by simp
  | a :: l, i + 1 => by have := sum_len_take l i; simp only [List.take_succ_cons, List.map_cons, List.sum_cons, List.flatten_cons, List.length_append]; omega
theorem wbclT : Ty.wb PairT = 16 := rfl
def cclT : Ctr := { ps := [.v (.slc false PairT)], rs := [.slc true PairT], pre := fun x => List.length (α := TalkD) x.1 ≤ 1048576, fn := fun x => x, out := fun _ => () }
noncomputable def EclT : Env := { P := Try.prog, tt := tt, ctr := [], res := [Go.ResultVar.tmp 2], rs := [Ty.slc true PairT], ps := [PK.v (Ty.slc false PairT)], cuts := [], nt := 8 }
theorem EclT_ok : EnvOk EclT := envOk tt_ok trivial
theorem FclT_ok : FnOk EclT Try.f60 := ⟨rfl, rfl⟩
theorem EclT_t (x0 : List (Int × Int × Unit)) : exec EclT 1000 [.code (bodyOf Try.prog 60)] (initSt cclT.ps ((x0, ()))) =
  .both (x0 = []) (.ret (([], ()))) (.need ((0 : Nat) + List.length x0 ≤ 140737488355328 ∧ ((0 : Nat) + List.length x0) * Ty.wb PairT ≤ 140737488355328) (.ret (([] ++ x0, ())))) := by kernel_rfl
theorem cclT_valid : cclT.Valid Try.prog 60 := by
  refine Ctr.valid_of EclT_ok rfl rfl Try.func60 (c := bodyOf Try.prog 60) rfl rfl FclT_ok rfl ?_
  rintro ⟨(l : List (TalkD)), ⟨⟩⟩ hp -
  have hp : l.length ≤ 1048576 := hp
  refine exec_sound (n := 1000) EclT_ok FclT_ok ?_
  refine holds_of_eq (EclT_t l) ?_
  simp only [holds_cond, Tree.holds, true_and, true_implies, decide_eq_true_eq, decide_eq_false_iff_not, Bool.not_eq_true', Bool.not_eq_false', Int.toNat_natCast, inK_i64, List.length_set, List.length_cons, List.length_nil, wbclT]
  refine ⟨fun h => ?_, by omega, fun _ => rfl⟩
  show (([], ()) : List (TalkD) × Unit) = (l, ())
  rw [show l = [] from h]
def cgrowT : Ctr := { ps := [.nilS, .v I64], rs := [.slc true PairT], pre := fun x => LE.le (α := Int) 0 x.2.1 ∧ LE.le (α := Int) x.2.1 1048576, fn := fun _ => ([], ()), out := fun _ => () }
noncomputable def EgrowT : Env := { P := Try.prog, tt := tt, ctr := [], res := [Go.ResultVar.tmp 4], rs := [Ty.slc true PairT], ps := [PK.nilS, PK.v (Ty.int IntKind.i64)], cuts := [], nt := 27 }
theorem EgrowT_ok : EnvOk EgrowT := envOk tt_ok trivial
theorem FgrowT_ok : FnOk EgrowT Try.f123 := ⟨rfl, rfl⟩
theorem EgrowT_t (x1 : Int) : exec EgrowT 1000 [.code (bodyOf Try.prog 123)] (initSt cgrowT.ps (((), x1, ()))) =
  cond (decide (x1 < (0 : Int))) (.stuck "op") (.need (inK IntKind.i64 ((0 : Int) - (0 : Int))) (.need (inK IntKind.i64 (x1 - ((0 : Int) - (0 : Int)))) (cond (decide ((0 : Int) < x1 - ((0 : Int) - (0 : Int)))) (.need ((0 : Int) = (0 : Int) ∧ (0 : Int) = (0 : Int)) (.need ((0 : Int) ≤ x1 - ((0 : Int) - (0 : Int)) ∧ x1 - ((0 : Int) - (0 : Int)) ≤ (140737488355328 : Int) ∧ (x1 - ((0 : Int) - (0 : Int))) * (↑(Ty.wb PairT) : Int) ≤ (140737488355328 : Int)) (.need ((0 : Int) ≤ (0 : Int) ∧ (0 : Int) ≤ (0 : Int) ∧ (0 : Int) ≤ (↑(List.length (List.replicate (Int.toNat (x1 - ((0 : Int) - (0 : Int)))) ((0 : Int), (0 : Int), ()))) : Int)) (.ret ((cut2 (0 : Int) (0 : Int) (List.replicate (Int.toNat (x1 - ((0 : Int) - (0 : Int)))) ((0 : Int), (0 : Int), ())), ())))))) (.ret (([], ())))))) := by kernel_rfl
theorem cgrowT_valid : cgrowT.Valid Try.prog 123 := by
  refine Ctr.valid_of EgrowT_ok rfl rfl Try.func123 (c := bodyOf Try.prog 123) rfl rfl FgrowT_ok rfl ?_
  rintro ⟨⟨⟩, (n : Int), ⟨⟩⟩ ⟨(h0 : 0 ≤ n), (h1 : n ≤ 1048576)⟩ -
  refine exec_sound (n := 1000) EgrowT_ok FgrowT_ok ?_
  refine holds_of_eq (EgrowT_t n) ?_
  simp only [holds_cond, Tree.holds, true_and, true_implies, decide_eq_true_eq, decide_eq_false_iff_not, Bool.not_eq_true', Bool.not_eq_false', Int.toNat_natCast, inK_i64, List.length_set, List.length_cons, List.length_nil, wb_talk2]
  refine ⟨fun h => by omega, fun _ => ⟨by omega, fun _ => ⟨by omega, fun _ => ⟨fun _ => ⟨by omega, fun _ => ⟨by omega, fun _ => ?_⟩⟩, fun _ => rfl⟩⟩⟩⟩
  rfl
def cconTk : Ctr := { ps := [.v (.slc false (.slc false PairT))], rs := [.slc true PairT], pre := fun x => (List.flatten (α := TalkD) x.1).length ≤ 1048576, fn := fun x => (List.flatten (α := TalkD) x.1, ()), out := fun _ => () }
noncomputable def EconTk : Env := { P := Try.prog, tt := tt, ctr := [(123, cgrowT)], res := [Go.ResultVar.tmp 2], rs := [Ty.slc true PairT], ps := [PK.v (Ty.slc false (Ty.slc false PairT))], cuts := [(3, [(0, none), (3, none), (9, none), (10, none), (11, none)]), (11, [(6, some (Ty.slc true PairT)), (25, none), (26, none), (27, none)])], nt := 36 }
theorem EconTk_ok : EnvOk EconTk := envOk tt_ok ⟨cgrowT_valid, trivial⟩
theorem FconTk_ok : FnOk EconTk Try.f62 := ⟨rfl, rfl⟩
theorem EconTk_t (x0 : List (List (Int × Int × Unit))) : exec EconTk 1000 [.code (bodyOf Try.prog 62)] (initSt cconTk.ps ((x0, ()))) =
  .cut (loopAt (bodyOf Try.prog 62) 3).1 (loopAt (bodyOf Try.prog 62) 3).2 (St.mk [(0, AV.val (Ty.slc false (Ty.slc false PairT)) x0), (3, AV.val (Ty.int IntKind.i64) (0 : Int)), (9, AV.val (Ty.slc false (Ty.slc false PairT)) x0), (10, AV.val (Ty.int IntKind.i64) (↑(List.length x0) : Int)), (11, AV.val (Ty.int IntKind.i64) (0 : Int))] []) := by kernel_rfl
def EconTk_s3 (v0 : List (List (Int × Int × Unit))) (v3 : Int) (v9 : List (List (Int × Int × Unit))) (v10 : Int) (v11 : Int) : St := St.mk [(0, AV.val (Ty.slc false (Ty.slc false PairT)) v0), (3, AV.val (Ty.int IntKind.i64) v3), (9, AV.val (Ty.slc false (Ty.slc false PairT)) v9), (10, AV.val (Ty.int IntKind.i64) v10), (11, AV.val (Ty.int IntKind.i64) v11)] []
theorem EconTk_l3 (v0 : List (List (Int × Int × Unit))) (v3 : Int) (v9 : List (List (Int × Int × Unit))) (v10 : Int) (v11 : Int) : exec EconTk 1000 (.code (loopAt (bodyOf Try.prog 62) 3).1 :: .inLoop (loopAt (bodyOf Try.prog 62) 3).1 :: (loopAt (bodyOf Try.prog 62) 3).2) (EconTk_s3 v0 v3 v9 v10 v11) =
  cond (decide (v11 < v10)) (.need ((0 : Int) ≤ v11 ∧ v11 < (↑(List.length v9) : Int)) (.need (inK IntKind.i64 (v3 + (↑(List.length (List.getD v9 (Int.toNat v11) [])) : Int))) (cond (decide (v3 + (↑(List.length (List.getD v9 (Int.toNat v11) [])) : Int) < (0 : Int))) (.stuck "op") (.need (inK IntKind.i64 (v11 + (1 : Int))) (.cut (loopAt (bodyOf Try.prog 62) 3).1 (loopAt (bodyOf Try.prog 62) 3).2 (St.mk [(0, AV.val (Ty.slc false (Ty.slc false PairT)) v0), (3, AV.val (Ty.int IntKind.i64) (v3 + (↑(List.length (List.getD v9 (Int.toNat v11) [])) : Int))), (9, AV.val (Ty.slc false (Ty.slc false PairT)) v9), (10, AV.val (Ty.int IntKind.i64) v10), (11, AV.val (Ty.int IntKind.i64) (v11 + (1 : Int)))] [])))))) (.need ((0 : Int) ≤ v3 ∧ v3 ≤ (1048576 : Int)) (.cut (loopAt (bodyOf Try.prog 62) 11).1 (loopAt (bodyOf Try.prog 62) 11).2 (St.mk [(6, AV.at_ 1000006 []), (25, AV.val (Ty.slc false (Ty.slc false PairT)) v0), (26, AV.val (Ty.int IntKind.i64) (↑(List.length v0) : Int)), (27, AV.val (Ty.int IntKind.i64) (0 : Int))] [(1000006, Ent.own (Ty.slc true PairT) [])]))) := by kernel_rfl
def EconTk_s11 (v25 : List (List (Int × Int × Unit))) (v26 : Int) (v27 : Int) (o1000006 : List (Int × Int × Unit)) : St := St.mk [(6, AV.at_ 1000006 []), (25, AV.val (Ty.slc false (Ty.slc false PairT)) v25), (26, AV.val (Ty.int IntKind.i64) v26), (27, AV.val (Ty.int IntKind.i64) v27)] [(1000006, Ent.own (Ty.slc true PairT) o1000006)]
theorem EconTk_l11 (v25 : List (List (Int × Int × Unit))) (v26 : Int) (v27 : Int) (o1000006 : List (Int × Int × Unit)) : exec EconTk 1000 (.code (loopAt (bodyOf Try.prog 62) 11).1 :: .inLoop (loopAt (bodyOf Try.prog 62) 11).1 :: (loopAt (bodyOf Try.prog 62) 11).2) (EconTk_s11 v25 v26 v27 o1000006) =
  cond (decide (v27 < v26)) (.need ((0 : Int) ≤ v27 ∧ v27 < (↑(List.length v25) : Int)) (.need (List.length o1000006 + List.length (List.getD v25 (Int.toNat v27) []) ≤ 140737488355328 ∧ (List.length o1000006 + List.length (List.getD v25 (Int.toNat v27) [])) * Ty.wb PairT ≤ 140737488355328) (.need (inK IntKind.i64 (v27 + (1 : Int))) (.cut (loopAt (bodyOf Try.prog 62) 11).1 (loopAt (bodyOf Try.prog 62) 11).2 (St.mk [(6, AV.at_ 1000006 []), (25, AV.val (Ty.slc false (Ty.slc false PairT)) v25), (26, AV.val (Ty.int IntKind.i64) v26), (27, AV.val (Ty.int IntKind.i64) (v27 + (1 : Int)))] [(1000006, Ent.own (Ty.slc true PairT) (o1000006 ++ List.getD v25 (Int.toNat v27) []))]))))) (.ret ((o1000006, ()))) := by kernel_rfl
theorem cconTk_valid : cconTk.Valid Try.prog 62 := by
  refine Ctr.valid_of EconTk_ok rfl rfl Try.func62 (c := bodyOf Try.prog 62) rfl rfl FconTk_ok rfl ?_
  rintro ⟨(l : List (List (TalkD))), ⟨⟩⟩ hp ⟨⟨hl, -⟩, -⟩
  have hl : l.length ≤ 9223372036854775807 := hl
  have hp : l.flatten.length ≤ 1048576 := hp
  refine exec_sound (n := 1000) EconTk_ok FconTk_ok ?_
  refine holds_of_eq (EconTk_t l) ?_
  refine Reach.loopI EconTk_ok FconTk_ok (fun i : Nat => EconTk_s3 l (((l.take i).map List.length).sum : Nat) l (l.length : Int) (i : Int)) (fun i => i ≤ l.length)
    (fun i => l.length - i) 1000 (fun _ => ⟨uniq_of rfl, uniq_of rfl⟩) ?_ 0 (Nat.zero_le _)
  rintro i k1 - ih
  have k1 : i ≤ l.length := k1
  refine holds_of_eq (EconTk_l3 ..) ?_
  have hs := sum_len_take l i
  simp only [holds_cond, Tree.holds, true_and, true_implies, decide_eq_true_eq, decide_eq_false_iff_not, Bool.not_eq_true', Bool.not_eq_false', Int.toNat_natCast, inK_i64, List.length_set, List.length_cons, List.length_nil]
  refine ⟨fun c => ⟨by omega, fun _ => ?_⟩, fun c => ?_⟩
  · have tk := take_getD (show i < l.length by omega) ([] : List (TalkD))
    have hs1 := sum_len_take l (i + 1)
    have e1 : ((l.take (i + 1)).map List.length).sum = ((l.take i).map List.length).sum + (l.getD i []).length := by rw [tk]; simp
    rw [e1] at hs1
    have := ih (i + 1) (by show i + 1 ≤ l.length; omega) (by omega)
    rw [e1] at this
    exact ⟨by omega, fun _ => ⟨fun h => by omega, fun _ => ⟨by omega, fun _ => this⟩⟩⟩
  · refine ⟨by omega, fun _ => ?_⟩
    refine Reach.loopI EconTk_ok FconTk_ok (fun i : Nat => EconTk_s11 l (l.length : Int) (i : Int) (l.take i).flatten) (fun i => i ≤ l.length)
      (fun i => l.length - i) 1000 (fun _ => ⟨uniq_of rfl, uniq_of rfl⟩) ?_ 0 (Nat.zero_le _)
    rintro i k1 - ih
    have k1 : i ≤ l.length := k1
    refine holds_of_eq (EconTk_l11 ..) ?_
    simp only [holds_cond, Tree.holds, true_and, true_implies, decide_eq_true_eq, decide_eq_false_iff_not, Bool.not_eq_true', Bool.not_eq_false', Int.toNat_natCast, inK_i64, List.length_set, List.length_cons, List.length_nil, wb_talk2]
    refine ⟨fun c => ?_, fun c => ?_⟩
    · have tk := take_getD (show i < l.length by omega) ([] : List (TalkD))
      have e1 : (l.take (i + 1)).flatten = (l.take i).flatten ++ l.getD i [] := by rw [tk]; simp
      have hb : ((l.take i).flatten ++ l.getD i []).length ≤ l.flatten.length := by
        rw [← e1]
        conv => rhs; rw [← List.take_append_drop (i + 1) l, List.flatten_append, List.length_append]
        omega
      rw [List.length_append] at hb
      have := ih (i + 1) (by show i + 1 ≤ l.length; omega) (by omega)
      rw [e1] at this
      exact ⟨by omega, fun _ => ⟨by omega, fun _ => ⟨by omega, fun _ => this⟩⟩⟩
    · rw [List.take_of_length_le (by omega)]
      rfl
theorem wbclI9 : Ty.wb I64 = 8 := rfl
def cclI9 : Ctr := { ps := [.v (.slc false I64)], rs := [.slc true I64], pre := fun x => List.length (α := Int) x.1 ≤ 1048576, fn := fun x => x, out := fun _ => () }
noncomputable def EclI9 : Env := { P := Try.prog, tt := tt, ctr := [], res := [Go.ResultVar.tmp 2], rs := [Ty.slc true (Ty.int IntKind.i64)], ps := [PK.v (Ty.slc false (Ty.int IntKind.i64))], cuts := [], nt := 8 }
theorem EclI9_ok : EnvOk EclI9 := envOk tt_ok trivial
theorem FclI9_ok : FnOk EclI9 Try.f40 := ⟨rfl, rfl⟩
theorem EclI9_t (x0 : List Int) : exec EclI9 1000 [.code (bodyOf Try.prog 40)] (initSt cclI9.ps ((x0, ()))) =
  .both (x0 = []) (.ret (([], ()))) (.need ((0 : Nat) + List.length x0 ≤ 140737488355328 ∧ ((0 : Nat) + List.length x0) * Ty.wb (Ty.int IntKind.i64) ≤ 140737488355328) (.ret (([] ++ x0, ())))) := by kernel_rfl
theorem cclI9_valid : cclI9.Valid Try.prog 40 := by
  refine Ctr.valid_of EclI9_ok rfl rfl Try.func40 (c := bodyOf Try.prog 40) rfl rfl FclI9_ok rfl ?_
  rintro ⟨(l : List (Int)), ⟨⟩⟩ hp -
  have hp : l.length ≤ 1048576 := hp
  refine exec_sound (n := 1000) EclI9_ok FclI9_ok ?_
  refine holds_of_eq (EclI9_t l) ?_
  simp only [holds_cond, Tree.holds, true_and, true_implies, decide_eq_true_eq, decide_eq_false_iff_not, Bool.not_eq_true', Bool.not_eq_false', Int.toNat_natCast, inK_i64, List.length_set, List.length_cons, List.length_nil, wbclI9]
  refine ⟨fun h => ?_, by omega, fun _ => rfl⟩
  show (([], ()) : List (Int) × Unit) = (l, ())
  rw [show l = [] from h]
def callOfS : Ctr := { ps := [.v I64], rs := [.slc false PairT], pre := fun x => LE.le (α := Int) 0 x.1 ∧ LE.le (α := Int) x.1 8, fn := fun x => ((List.range (Int.toNat x.1)).flatMap three, ()), out := fun _ => (), new := true }
theorem callOfS_valid : callOfS.Valid Try.prog 44 := callOf_valid.share (rs' := [.slc false PairT]) rfl rfl rfl
def cSkeenAll : Ctr := smallC [.slc false PairT, I64]
noncomputable def ESkeenAll : Env := { P := Try.prog, tt := tt, ctr := [(44, callOfS), (43, cagreed), (20, ceqI9), (60, cclT), (62, cconTk), (40, cclI9), (41, csortIK), (61, crest)], res := [Go.ResultVar.tmp 4], rs := [Ty.bool], ps := [PK.v (Ty.slc false PairT), PK.v (Ty.int IntKind.i64)], cuts := [(11, [(60, none), (61, none)])], nt := 73 }
theorem ESkeenAll_ok : EnvOk ESkeenAll := envOk tt_ok ⟨callOfS_valid, cagreed_valid, ceqI9_valid, cclT_valid, cconTk_valid, cclI9_valid, csortIK_valid, crest_valid, trivial⟩
theorem FSkeenAll_ok : FnOk ESkeenAll Try.f17 := ⟨rfl, rfl⟩
theorem ESkeenAll_t (x0 : List (Int × Int × Unit)) (x1 : Int) : exec ESkeenAll 1000 [.code (bodyOf Try.prog 17)] (initSt cSkeenAll.ps ((x0, x1, ()))) =
  .need ((0 : Int) ≤ (1 : Int) ∧ (1 : Int) ≤ (8 : Int)) (.need ((0 : Int) ≤ (1 : Int) ∧ (1 : Int) ≤ (8 : Int)) (.need (True) (.need ((0 : Int) ≤ (1 : Int) ∧ (1 : Int) < (↑3 : Int)) (.need (True) (.need (List.length x0 ≤ 1048576) (.need ((0 : Int) ≤ (8 : Int) ∧ (8 : Int) ≤ (8 : Int)) (.need (List.length x0 + List.length (List.flatMap three (List.range (Int.toNat (8 : Int)))) ≤ 140737488355328 ∧ (List.length x0 + List.length (List.flatMap three (List.range (Int.toNat (8 : Int))))) * Ty.wb PairT ≤ 140737488355328) (.need ((0 : Int) ≤ (8 : Int) ∧ (8 : Int) ≤ (8 : Int)) (.need ((24 : Int) ≤ (1000000 : Int)) (.need ((0 : Int) ≤ rest x1 (24 : Int) ∧ rest x1 (24 : Int) ≤ (↑(List.length (List.flatMap three (List.range (Int.toNat (8 : Int))))) : Int) ∧ (↑(List.length (List.flatMap three (List.range (Int.toNat (8 : Int))))) : Int) ≤ (↑(List.length (List.flatMap three (List.range (Int.toNat (8 : Int))))) : Int)) (.need ((0 : Int) ≤ (0 : Int) ∧ (0 : Int) ≤ rest x1 (24 : Int) ∧ rest x1 (24 : Int) ≤ (↑(List.length (List.flatMap three (List.range (Int.toNat (8 : Int))))) : Int)) (.need (List.length (List.flatten (List.set (List.set [[], []] (Int.toNat (↑0 : Int)) (cut2 (rest x1 (24 : Int)) (↑(List.length (List.flatMap three (List.range (Int.toNat (8 : Int))))) : Int) (List.flatMap three (List.range (Int.toNat (8 : Int)))))) (Int.toNat (↑1 : Int)) (cut2 (0 : Int) (rest x1 (24 : Int)) (List.flatMap three (List.range (Int.toNat (8 : Int))))))) ≤ 1048576) (.need (True) (cond (!Prod.fst (Prod.snd (Prod.snd (agreedF (x0 ++ List.flatMap three (List.range (Int.toNat (8 : Int)))) (List.flatten (List.set (List.set [[], []] (Int.toNat (↑0 : Int)) (cut2 (rest x1 (24 : Int)) (↑(List.length (List.flatMap three (List.range (Int.toNat (8 : Int))))) : Int) (List.flatMap three (List.range (Int.toNat (8 : Int)))))) (Int.toNat (↑1 : Int)) (cut2 (0 : Int) (rest x1 (24 : Int)) (List.flatMap three (List.range (Int.toNat (8 : Int))))))))))) (.ret ((false, ()))) (cond (decide ((↑(List.length (Prod.fst (Prod.snd (agreedF (x0 ++ List.flatMap three (List.range (Int.toNat (8 : Int)))) (List.flatten (List.set (List.set [[], []] (Int.toNat (↑0 : Int)) (cut2 (rest x1 (24 : Int)) (↑(List.length (List.flatMap three (List.range (Int.toNat (8 : Int))))) : Int) (List.flatMap three (List.range (Int.toNat (8 : Int)))))) (Int.toNat (↑1 : Int)) (cut2 (0 : Int) (rest x1 (24 : Int)) (List.flatMap three (List.range (Int.toNat (8 : Int))))))))))) : Int) ≠ (8 : Int))) (.ret ((false, ()))) (.cut (loopAt (bodyOf Try.prog 17) 11).1 (loopAt (bodyOf Try.prog 17) 11).2 (St.mk [(60, AV.at_ 10 []), (61, AV.val (Ty.int IntKind.i64) (0 : Int))] [(10, Ent.var (Ty.arr 3 Is) (Prod.fst (agreedF (x0 ++ List.flatMap three (List.range (Int.toNat (8 : Int)))) (List.flatten (List.set (List.set [[], []] (Int.toNat (↑0 : Int)) (cut2 (rest x1 (24 : Int)) (↑(List.length (List.flatMap three (List.range (Int.toNat (8 : Int))))) : Int) (List.flatMap three (List.range (Int.toNat (8 : Int)))))) (Int.toNat (↑1 : Int)) (cut2 (0 : Int) (rest x1 (24 : Int)) (List.flatMap three (List.range (Int.toNat (8 : Int))))))))))]))))))))))))))))) := by kernel_rfl
def ESkeenAll_s11 (v61 : Int) (o10 : List (List Int)) : St := St.mk [(60, AV.at_ 10 []), (61, AV.val (Ty.int IntKind.i64) v61)] [(10, Ent.var (Ty.arr 3 Is) o10)]
theorem ESkeenAll_l11 (v61 : Int) (o10 : List (List Int)) : exec ESkeenAll 1000 (.code (loopAt (bodyOf Try.prog 17) 11).1 :: .inLoop (loopAt (bodyOf Try.prog 17) 11).1 :: (loopAt (bodyOf Try.prog 17) 11).2) (ESkeenAll_s11 v61 o10) =
  cond (decide (v61 < (3 : Int))) (.need ((0 : Int) ≤ v61 ∧ v61 < (↑3 : Int)) (.need (List.length (List.getD o10 (Int.toNat v61) []) ≤ 1048576) (.need (List.length (List.getD o10 (Int.toNat v61) []) ≤ 1048576) (.need (True) (cond (!decide (sortI (List.getD o10 (Int.toNat v61) []) = List.set (List.set (List.set (List.set (List.set (List.set (List.set (List.set [(0 : Int), (0 : Int), (0 : Int), (0 : Int), (0 : Int), (0 : Int), (0 : Int), (0 : Int)] (Int.toNat (↑0 : Int)) (0 : Int)) (Int.toNat (↑1 : Int)) (1 : Int)) (Int.toNat (↑2 : Int)) (2 : Int)) (Int.toNat (↑3 : Int)) (3 : Int)) (Int.toNat (↑4 : Int)) (4 : Int)) (Int.toNat (↑5 : Int)) (5 : Int)) (Int.toNat (↑6 : Int)) (6 : Int)) (Int.toNat (↑7 : Int)) (7 : Int))) (.ret ((false, ()))) (.need (inK IntKind.i64 (v61 + (1 : Int))) (.cut (loopAt (bodyOf Try.prog 17) 11).1 (loopAt (bodyOf Try.prog 17) 11).2 (St.mk [(60, AV.at_ 10 []), (61, AV.val (Ty.int IntKind.i64) (v61 + (1 : Int)))] [(10, Ent.var (Ty.arr 3 Is) o10)])))))))) (.ret ((true, ()))) := by kernel_rfl
theorem blkL_lenS {α : Type} {f : α → Nat} {c : Nat} (h : ∀ x, c ≤ f x) : ∀ l : List α, c * l.length ≤ bulkL f l
  | [] => by simp [bulkL]
  | x :: l => by have h1 := h x; have h2 := blkL_lenS h l; simp only [bulkL, List.length_cons, Nat.mul_add]; omega
theorem sort8 {l : List Int} (h : l.Perm [0, 1, 2, 3, 4, 5, 6, 7]) : sortI l = [0, 1, 2, 3, 4, 5, 6, 7] :=
  (sortBy_eq swoI h.symm (by decide) (fun a _ b _ => by simp only [decide_eq_false_iff_not]; omega)).symm
theorem all8_len : all8.length = 24 := three_len 8
theorem cSkeenAll_valid : (smallC [.slc false PairT, I64]).Valid Try.prog 17 := by
  refine Ctr.valid_of ESkeenAll_ok rfl rfl Try.func17 (c := bodyOf Try.prog 17) rfl rfl FSkeenAll_ok rfl ?_
  rintro ⟨(os : List TalkD), (t : Int), ⟨⟩⟩ hp -
  refine exec_sound (n := 1000) ESkeenAll_ok FSkeenAll_ok ?_
  refine holds_of_eq (ESkeenAll_t os t) ?_
  have hlen : os.length ≤ 1048576 := by
    have h2 := blkL_lenS (f := Ty.bulk PairT) (c := 1) (fun x => by
      show 1 ≤ 1 + (1 + 0); omega) os
    have hb : bulkK [.slc false PairT, I64] (os, t, ()) ≤ 1048576 := hp
    simp only [bulkK, Ty.bulk] at hb
    have h3 : bulkL (Ty.bulk PairT) os ≤ 1048576 := by
      refine Nat.le_trans ?_ hb
      show bulkL (Ty.bulk PairT) os ≤ bulkL (Ty.bulk PairT) os + 1 + _
      omega
    omega
  have hw : Ty.wb (.pair (.int .i64) (.pair (.int .i64) .unit)) = 16 := rfl
  obtain ⟨t0, t24⟩ := rest_in (a := t) (n := 24) (by decide)
  obtain ⟨K, hK⟩ := Int.eq_ofNat_of_zero_le t0
  rw [hK] at t24 ⊢
  rw [show Int.toNat (8 : Int) = 8 from rfl]
  have hfs : List.flatten (List.set (List.set [[], []] (Int.toNat (0 : Int)) (cut2 (K : Int) ((List.length (List.flatMap three (List.range 8)) : Nat) : Int) (List.flatMap three (List.range 8)))) (Int.toNat (1 : Int)) (cut2 (0 : Int) (K : Int) (List.flatMap three (List.range 8)))) = all8.drop K ++ all8.take K := by
    show cut2 (K : Int) (all8.length : Int) all8 ++ (cut2 0 (K : Int) all8 ++ []) = _
    rw [List.append_nil]
    congr 1
    simp only [cut2, Int.toNat_natCast]
    rw [List.take_of_length_le]
    rw [List.length_drop]; omega
  rw [hfs]
  have h24 : (List.flatMap three (List.range 8)).length = 24 := all8_len
  obtain ⟨told, ids, e, hids, ht, hpm⟩ := skeen_all (os := os ++ List.flatMap three (List.range 8)) (fs := all8.drop K ++ all8.take K) (fun x hx => List.mem_append_right _ hx) (fun x hx => by
    rw [List.mem_append]
    have : x ∈ all8.take K ++ all8.drop K := by rw [List.take_append_drop]; exact hx
    exact (List.mem_append.1 this).symm)
  rw [e]
  have hfl : (all8.drop K ++ all8.take K).length = 24 := by
    rw [List.length_append, List.length_drop, List.length_take, all8_len]; omega
  have hids : ids.length = 8 := hids
  rw [hfl, h24]
  simp only [holds_cond, Tree.holds, true_and, true_implies, decide_eq_true_eq, decide_eq_false_iff_not, Bool.not_eq_true', Bool.not_eq_false', Int.toNat_natCast, inK_i64, List.length_set, List.length_cons, List.length_nil, hw, hids]
  refine ⟨by omega, fun _ => ⟨by omega, fun _ => ⟨by omega, fun _ => ⟨hlen, fun _ => ⟨by omega, fun _ => ⟨by omega, fun _ => ⟨by omega, fun _ => ⟨by omega, fun _ => ⟨by omega, fun _ => ⟨by omega, fun _ => ⟨by omega, fun _ => ?_⟩⟩⟩⟩⟩⟩⟩⟩⟩⟩⟩
  refine ⟨fun h => (by cases h), fun h => absurd rfl h, fun _ => ?_⟩
  refine Reach.loopI ESkeenAll_ok FSkeenAll_ok (fun i : Nat => ESkeenAll_s11 (i : Int) told) (fun i => i ≤ 3) (fun i => 3 - i) 1000 (fun _ => ⟨uniq_of rfl, uniq_of rfl⟩) ?_ 0 (Nat.zero_le _)
  rintro i (k1 : i ≤ 3) - ih
  refine holds_of_eq (ESkeenAll_l11 ..) ?_
  simp only [holds_cond, Tree.holds, true_and, true_implies, decide_eq_true_eq, decide_eq_false_iff_not, Bool.not_eq_true', Bool.not_eq_false', Int.toNat_natCast, inK_i64, List.length_set, List.length_cons, List.length_nil]
  refine ⟨fun c => ?_, fun _ => rfl⟩
  have hi : i < 3 := by omega
  have hp := hpm i hi
  have hl := hp.length_eq
  have hl : (told.getD i []).length = 8 := hl
  have hs := sort8 hp
  refine ⟨by omega, fun _ => ⟨by rw [hl]; omega, fun _ => ⟨by rw [hl]; omega, fun _ => ⟨fun h => absurd hs h, fun _ => ⟨by omega, fun _ => ih (i + 1) (by show i + 1 ≤ 3; omega) (by omega)⟩⟩⟩⟩⟩
end Go.Proofs.Ytdhdpklmipkneaa
