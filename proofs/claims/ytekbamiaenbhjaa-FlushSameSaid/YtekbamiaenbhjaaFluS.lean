/- FlushSame: its tree. -/
import Derived.Test.YtekbamiaenbhjaaFluB
import Derived.Test.YtekbamiaenbhjaaSortD
namespace Go.Proofs.Ytekbamiaenbhjaa
open Go.Ex Go.Sort
set_option maxRecDepth 100000
def apart (l:List Int):Prop:=∀ i,i+1<l.length→l.getD i 0≠l.getD (i+1) 0
def b0e:D4:={ ps:=[.own (.d0 true J3)],rs:=[.d0 true J3],pre:=fun x=>apart x.1,fn:=fun x=>(x.1,()),out:=fun _=>() }
noncomputable def a7w:Env:={ P:=Try.prog,tt:=tt,G8:=[],res:=[Go.ResultVar.tmp 2],rs:=[Ty.d0 true (Ty.int IntKind.i64)],ps:=[PK.own Is],J6:=[(4,[(0,some Is),(3,none)]),(9,[(0,some Is),(3,none),(4,none),(5,none)])],nt:=61 }
theorem a5d:H8 a7w:=L9 w7 trivial
theorem a5a:L7 a7w Try.f85:=⟨rfl,rfl⟩
theorem b6g (x0:List Int):exec a7w 1000 [.code (g9 Try.prog 85)] (G9 b0e.ps ((x0,()))) =
  cond (decide ((↑(List.length x0):Int)<(2:Int))) (.ret ((x0,()))) (.cut (j8 (g9 Try.prog 85) 4).1 (j8 (g9 Try.prog 85) 4).2 (St.mk [(0,AV.at_ 1000000 []),(3,AV.val (Ty.int IntKind.i64) (1:Int))] [(1000000,f9.own Is x0)])):=by kernel_rfl
def a8Q (v3:Int) (o1000000:List Int):St:=St.mk [(0,AV.at_ 1000000 []),(3,AV.val (Ty.int IntKind.i64) v3)] [(1000000,f9.own Is o1000000)]
theorem b5l (v3:Int) (o1000000:List Int):exec a7w 1000 (.code (j8 (g9 Try.prog 85) 4).1::.inLoop (j8 (g9 Try.prog 85) 4).1::(j8 (g9 Try.prog 85) 4).2) (a8Q v3 o1000000) =
  cond (decide (v3<(↑(List.length o1000000):Int))) (.n8 ((0:Int)≤v3∧v3<(↑(List.length o1000000):Int)) (.n8 (A4 IntKind.i64 (v3 - (1:Int))) (.n8 ((0:Int)≤v3 - (1:Int)∧v3 - (1:Int)<(↑(List.length o1000000):Int)) (cond (decide (List.getD o1000000 (Int.toNat v3) (0:Int)=List.getD o1000000 (Int.toNat (v3 - (1:Int))) (0:Int))) (.n8 ((0:Int)≤v3∧v3≤(↑(List.length o1000000):Int)∧(↑(List.length o1000000):Int)≤(↑(List.length o1000000):Int)) (.cut (j8 (g9 Try.prog 85) 9).1 (j8 (g9 Try.prog 85) 9).2 (St.mk [(0,AV.at_ 1000000 []),(3,AV.val (Ty.int IntKind.i64) v3),(4,AV.sub 1000000 [] v3 (↑(List.length o1000000):Int)),(5,AV.val (Ty.int IntKind.i64) (1:Int))] [(1000000,f9.own Is o1000000)]))) (.n8 (A4 IntKind.i64 (v3+(1:Int))) (.cut (j8 (g9 Try.prog 85) 4).1 (j8 (g9 Try.prog 85) 4).2 (St.mk [(0,AV.at_ 1000000 []),(3,AV.val (Ty.int IntKind.i64) (v3+(1:Int)))] [(1000000,f9.own Is o1000000)]))))))) (.ret ((o1000000,()))):=by kernel_rfl
theorem b0d:b0e.Valid Try.prog 85:=by
  refine D4.F1 a5d rfl rfl Try.func85 (c:=g9 Try.prog 85) rfl rfl a5a rfl ?_
  rintro ⟨(l:List Int),⟨⟩⟩ (hp:apart l) ⟨⟨hl,-⟩,-⟩
  have hl:l.length≤9223372036854775807:=hl
  refine r8 (n:=1000) a5d a5a ?_
  refine s5 (b6g l) ?_
  simp only [x6,Tree.holds,true_and,true_implies,decide_eq_true_eq,decide_eq_false_iff_not,Bool.not_eq_true',Bool.not_eq_false',Int.toNat_natCast,F8,List.length_set,List.length_cons,List.length_nil]
  refine ⟨fun c=>rfl,fun c=>?_⟩
  have h2:2≤l.length:=by omega
  refine Reach.Z9 a5d a5a (fun i:Nat=>a8Q ((i+1:Nat):Int) l) (fun i=>i+1≤l.length) (fun i=>l.length - i) 1000 (fun _=>⟨A3 rfl,A3 rfl⟩) ?_ 0 (by omega)
  rintro i (k1:i+1≤l.length) - ih
  refine s5 (b5l ..) ?_
  simp only [x6,Tree.holds,true_and,true_implies,decide_eq_true_eq,decide_eq_false_iff_not,Bool.not_eq_true',Bool.not_eq_false',Int.toNat_natCast,F8,List.length_set,List.length_cons,List.length_nil]
  have e1:Int.toNat ((i+1:Nat):Int)=i+1:=Int.toNat_natCast _
  have e2:Int.toNat (((i+1:Nat):Int) - 1)=i:=by omega
  refine ⟨fun d=>⟨by omega,fun _=>⟨by omega,fun _=>⟨by omega,fun _=>⟨fun e=>⟨by omega,fun _=>?_⟩,fun e=>⟨by omega,fun _=>ih (i+1) (by omega) (by omega)⟩⟩⟩⟩⟩,fun d=>rfl⟩
  rw [e2] at e
  exact absurd e.symm (hp i (by omega))
def a9L:Go.Shelf.Ren:=⟨fun|5=>84|7=>179|8=>180|10=>245|11=>246|12=>247|13=>248|14=>249|15=>250|16=>251|17=>252|18=>253|19=>254|20=>255|30=>293|31=>294|32=>295|33=>296|34=>297|35=>223|40=>330|n=>n,fun|0=>0|3=>3|4=>4|5=>5|9=>9|22=>24|23=>24|25=>3|32=>297|35=>358|36=>359|41=>268|44=>365|46=>367|53=>395|57=>399|63=>421|64=>422|n=>n,fun|n=>n⟩
theorem b5K:Go.Proofs.SlLaysM.n5 Try.prog a9L:={
  mixed:=by kernel_rfl,
  f5:=⟨Try.f84.name,by decide,Try.func84.trans (congrArg some (by kernel_rfl))⟩,
  f7:=⟨Try.f179.name,by decide,Try.func179.trans (congrArg some (by kernel_rfl))⟩,
  f8:=Try.func180.trans (congrArg some (by kernel_rfl)),
  f10:=⟨Try.f245.name,by decide,Try.func245.trans (congrArg some (by kernel_rfl))⟩,
  f11:=⟨Try.f246.name,by decide,Try.func246.trans (congrArg some (by kernel_rfl))⟩,
  f12:=⟨Try.f247.name,by decide,Try.func247.trans (congrArg some (by kernel_rfl))⟩,
  f13:=⟨Try.f248.name,by decide,Try.func248.trans (congrArg some (by kernel_rfl))⟩,
  f14:=⟨Try.f249.name,by decide,Try.func249.trans (congrArg some (by kernel_rfl))⟩,
  f15:=⟨Try.f250.name,by decide,Try.func250.trans (congrArg some (by kernel_rfl))⟩,
  f16:=⟨Try.f251.name,by decide,Try.func251.trans (congrArg some (by kernel_rfl))⟩,
  f17:=⟨Try.f252.name,by decide,Try.func252.trans (congrArg some (by kernel_rfl))⟩,
  f18:=⟨Try.f253.name,by decide,Try.func253.trans (congrArg some (by kernel_rfl))⟩,
  f19:=Try.func254.trans (congrArg some (by kernel_rfl)),
  f20:=Try.func255.trans (congrArg some (by kernel_rfl)),
  f30:=⟨Try.f293.name,by decide,Try.func293.trans (congrArg some (by kernel_rfl))⟩,
  f31:=Try.func294.trans (congrArg some (by kernel_rfl)),
  f32:=Try.func295.trans (congrArg some (by kernel_rfl)),
  f33:=⟨Try.f296.name,by decide,Try.func296.trans (congrArg some (by kernel_rfl))⟩,
  f34:=⟨Try.f297.name,by decide,Try.func297.trans (congrArg some (by kernel_rfl))⟩,
  f35:=⟨Try.f223.name,by decide,Try.func223.trans (congrArg some (by kernel_rfl))⟩,
  f40:=⟨Try.f330.name,by decide,Try.func330.trans (congrArg some (by kernel_rfl))⟩,
  t0:=Try.underlying0,
  a0:=Try.isAgg0,
  z0:=Try.sizeOf0,
  v0:=Try.zeroValue0,
  t3:=Try.underlying3,
  a3:=Try.isAgg3,
  z3:=Try.sizeOf3,
  v3:=Try.zeroValue3,
  t4:=Try.underlying4,
  a4:=Try.isAgg4,
  z4:=Try.sizeOf4,
  v4:=Try.zeroValue4,
  t5:=Try.underlying5,
  a5:=Try.isAgg5,
  z5:=Try.sizeOf5,
  v5:=Try.zeroValue5,
  t9:=Try.underlying9,
  a9:=Try.isAgg9,
  z9:=Try.sizeOf9,
  v9:=Try.zeroValue9,
  t22:=Try.underlying24,
  a22:=Try.isAgg24,
  z22:=Try.sizeOf24,
  v22:=Try.zeroValue24,
  t23:=Try.underlying24,
  a23:=Try.isAgg24,
  z23:=Try.sizeOf24,
  v23:=Try.zeroValue24,
  t25:=Try.underlying3,
  a25:=Try.isAgg3,
  z25:=Try.sizeOf3,
  v25:=Try.zeroValue3,
  t32:=Try.underlying297,
  a32:=Try.isAgg297,
  z32:=Try.sizeOf297,
  v32:=Try.zeroValue297,
  t35:=Try.underlying358,
  a35:=Try.isAgg358,
  z35:=Try.sizeOf358,
  v35:=Try.zeroValue358,
  t36:=Try.underlying359,
  a36:=Try.isAgg359,
  z36:=Try.sizeOf359,
  v36:=Try.zeroValue359,
  t41:=Try.underlying268,
  a41:=Try.isAgg268,
  z41:=Try.sizeOf268,
  v41:=Try.zeroValue268,
  t44:=Try.underlying365,
  a44:=Try.isAgg365,
  z44:=Try.sizeOf365,
  v44:=Try.zeroValue365,
  t46:=Try.underlying367,
  a46:=Try.isAgg367,
  z46:=Try.sizeOf367,
  v46:=Try.zeroValue367,
  t53:=Try.underlying395,
  a53:=Try.isAgg395,
  z53:=Try.sizeOf395,
  v53:=Try.zeroValue395,
  t57:=Try.underlying399,
  a57:=Try.isAgg399,
  z57:=Try.sizeOf399,
  v57:=Try.zeroValue399,
  t63:=Try.underlying421,
  a63:=Try.isAgg421,
  z63:=Try.sizeOf421,
  v63:=Try.zeroValue421,
  t64:=Try.underlying422,
  a64:=Try.isAgg422,
  z64:=Try.sizeOf422,
  v64:=Try.zeroValue422 }
def b4X:D4:=b4j
theorem a94:b4X.Valid Try.prog 84:=b0U b5K
abbrev b8g:Ty:=.arr 6 (.d0 false J3)
def a7i:D4:={ ps:=[.v a39,.v U8],rs:=[.bool],pre:=fun _=>True,fn:=fun _=>(true,()),out:=fun _=>() }
noncomputable def a1W:Env:={ P:=Try.prog,tt:=tt,G8:=[(14,b3u),(16,b0a),(21,a6p),(17,a3m),(18,b3y),(19,b5W),(84,b4X),(85,b0e),(78,b3z)],res:=[Go.ResultVar.tmp 4],rs:=[Ty.bool],ps:=[PK.v (Ty.pair (Ty.pair (Ty.int IntKind.i64) (Ty.pair (Ty.int IntKind.u8) Ty.unit)) (Ty.pair (Ty.int IntKind.u8) (Ty.pair (Ty.arr 6 (Ty.d0 false (Ty.int IntKind.i64))) Ty.unit))),PK.v (Ty.int IntKind.u8)],J6:=[(16,[(2,none),(10,none),(11,some b8g),(12,some Is),(13,none),(63,none)])],nt:=113 }
theorem a1I:H8 a1W:=L9 w7 ⟨b1w,a99,a7U,a1F,b1y,b3w,a94,b0d,a7h,trivial⟩
theorem a1H:L7 a1W Try.f10:=⟨rfl,rfl⟩
theorem b0Q (x0_1_1:Int) (x0_1_2_1:Int) (x0_2_1:Int) (x0_2_2_1:List (List Int)) (x1:Int):exec a1W 1000 [.code (g9 Try.prog 10)] (G9 a7i.ps ((((x0_1_1,x0_1_2_1,()),x0_2_1,x0_2_2_1,()),x1,()))) =
  .n8 (True) (.n8 (True) (.n8 (True) (.n8 ((0:Int)≤(1:Int)∧(1:Int)<(↑6:Int)) (.n8 (True) (.n8 ((0:Int)≤(0:Int)∧(0:Int)<(↑6:Int)) (.n8 (True) (cond (decide (Prod.fst (Prod.snd (Prod.snd (J0 ((x0_1_1,x0_1_2_1,()),x0_2_1,x0_2_2_1,()) x1)))≠(0:Int))) (.ret ((G0 (Ty.pair J3 (Ty.pair U8 Ty.unit)) (Prod.fst (Prod.fst (J0 ((x0_1_1,x0_1_2_1,()),x0_2_1,x0_2_2_1,()) x1))) ((0:Int),(0:Int),()),()))) (.cut (j8 (g9 Try.prog 10) 16).1 (j8 (g9 Try.prog 10) 16).2 (St.mk [(2,AV.ptr 2 []),(10,AV.ptr 10 []),(11,AV.ptr 11 []),(12,AV.at_ 1000012 []),(13,AV.val Ty.bool false),(63,AV.val (Ty.int IntKind.i64) (0:Int))] [(2,f9.var (Ty.pair (Ty.pair (Ty.int IntKind.i64) (Ty.pair (Ty.int IntKind.u8) Ty.unit)) (Ty.pair (Ty.int IntKind.u8) (Ty.pair (Ty.arr 6 (Ty.d0 false (Ty.int IntKind.i64))) Ty.unit))) ((x0_1_1,x0_1_2_1,()),x0_2_1,x0_2_2_1,())),(10,f9.var (Ty.pair (Ty.pair (Ty.int IntKind.i64) (Ty.pair (Ty.int IntKind.u8) Ty.unit)) (Ty.pair (Ty.int IntKind.u8) (Ty.pair (Ty.arr 6 Is) Ty.unit))) (Prod.fst (J0 ((x0_1_1,x0_1_2_1,()),x0_2_1,x0_2_2_1,()) x1))),(11,f9.var (Ty.arr 6 (Ty.d0 false (Ty.int IntKind.i64))) (Prod.fst (Prod.snd (J0 ((x0_1_1,x0_1_2_1,()),x0_2_1,x0_2_2_1,()) x1)))),(1000012,f9.own Is [])]))))))))):=by kernel_rfl
def a3r (v13:Bool) (v63:Int) (o2_1_1:Int) (o2_1_2_1:Int) (o2_2_1:Int) (o2_2_2_1:List (List Int)) (o10_1_1:Int) (o10_1_2_1:Int) (o10_2_1:Int) (o10_2_2_1:List (List Int)) (o11:List (List Int)) (o1000012:List Int):St:=St.mk [(2,AV.ptr 2 []),(10,AV.ptr 10 []),(11,AV.ptr 11 []),(12,AV.at_ 1000012 []),(13,AV.val Ty.bool v13),(63,AV.val (Ty.int IntKind.i64) v63)] [(2,f9.var (Ty.pair (Ty.pair (Ty.int IntKind.i64) (Ty.pair (Ty.int IntKind.u8) Ty.unit)) (Ty.pair (Ty.int IntKind.u8) (Ty.pair (Ty.arr 6 (Ty.d0 false (Ty.int IntKind.i64))) Ty.unit))) ((o2_1_1,o2_1_2_1,()),o2_2_1,o2_2_2_1,())),(10,f9.var (Ty.pair (Ty.pair (Ty.int IntKind.i64) (Ty.pair (Ty.int IntKind.u8) Ty.unit)) (Ty.pair (Ty.int IntKind.u8) (Ty.pair (Ty.arr 6 Is) Ty.unit))) ((o10_1_1,o10_1_2_1,()),o10_2_1,o10_2_2_1,())),(11,f9.var (Ty.arr 6 (Ty.d0 false (Ty.int IntKind.i64))) o11),(1000012,f9.own Is o1000012)]
theorem a74 (v13:Bool) (v63:Int) (o2_1_1:Int) (o2_1_2_1:Int) (o2_2_1:Int) (o2_2_2_1:List (List Int)) (o10_1_1:Int) (o10_1_2_1:Int) (o10_2_1:Int) (o10_2_2_1:List (List Int)) (o11:List (List Int)) (o1000012:List Int):exec a1W 1000 (.code (j8 (g9 Try.prog 10) 16).1::.inLoop (j8 (g9 Try.prog 10) 16).1::(j8 (g9 Try.prog 10) 16).2) (a3r v13 v63 o2_1_1 o2_1_2_1 o2_2_1 o2_2_2_1 o10_1_1 o10_1_2_1 o10_2_1 o10_2_2_1 o11 o1000012) =
  cond (decide (v63<(6:Int))) (.n8 ((0:Int)≤v63) (cond (decide (R5 IntKind.u8 (p8 IntKind.u8 o2_1_2_1 o2_2_1 / (2:Int)^min (Int.toNat v63) (IntKind.bits IntKind.u8)) (1:Int)=(0:Int))) (.n8 ((0:Int)≤v63∧v63<(↑6:Int)) (cond (decide ((0:Int)<(↑(List.length (List.getD o11 (Int.toNat v63) [])):Int))) (.ret ((false,()))) (.n8 (A4 IntKind.i64 (v63+(1:Int))) (.cut (j8 (g9 Try.prog 10) 16).1 (j8 (g9 Try.prog 10) 16).2 (St.mk [(2,AV.ptr 2 []),(10,AV.ptr 10 []),(11,AV.ptr 11 []),(12,AV.at_ 1000012 []),(13,AV.val Ty.bool v13),(63,AV.val (Ty.int IntKind.i64) (v63+(1:Int)))] [(2,f9.var (Ty.pair (Ty.pair (Ty.int IntKind.i64) (Ty.pair (Ty.int IntKind.u8) Ty.unit)) (Ty.pair (Ty.int IntKind.u8) (Ty.pair (Ty.arr 6 (Ty.d0 false (Ty.int IntKind.i64))) Ty.unit))) ((o2_1_1,o2_1_2_1,()),o2_2_1,o2_2_2_1,())),(10,f9.var (Ty.pair (Ty.pair (Ty.int IntKind.i64) (Ty.pair (Ty.int IntKind.u8) Ty.unit)) (Ty.pair (Ty.int IntKind.u8) (Ty.pair (Ty.arr 6 Is) Ty.unit))) ((o10_1_1,o10_1_2_1,()),o10_2_1,o10_2_2_1,())),(11,f9.var (Ty.arr 6 (Ty.d0 false (Ty.int IntKind.i64))) o11),(1000012,f9.own Is o1000012)]))))) (.n8 ((0:Int)≤v63∧v63<(↑6:Int)) (.n8 ((0:Int)≤v63∧v63<(↑6:Int)) (.n8 (List.length (List.flatten (List.set (List.set [[],[]] (Int.toNat (↑0:Int)) (List.getD o2_2_2_1 (Int.toNat v63) [])) (Int.toNat (↑1:Int)) (List.getD o11 (Int.toNat v63) [])))≤1048576) (.n8 (List.length (List.flatten (List.set (List.set [[],[]] (Int.toNat (↑0:Int)) (List.getD o2_2_2_1 (Int.toNat v63) [])) (Int.toNat (↑1:Int)) (List.getD o11 (Int.toNat v63) [])))≤1048576) (.n8 (List.length (F5 (List.flatten (List.set (List.set [[],[]] (Int.toNat (↑0:Int)) (List.getD o2_2_2_1 (Int.toNat v63) [])) (Int.toNat (↑1:Int)) (List.getD o11 (Int.toNat v63) []))))≤1048576) (.n8 (apart (F5 (List.flatten (List.set (List.set [[],[]] (Int.toNat (↑0:Int)) (List.getD o2_2_2_1 (Int.toNat v63) [])) (Int.toNat (↑1:Int)) (List.getD o11 (Int.toNat v63) []))))) (cond (decide ((↑(List.length (F5 (List.flatten (List.set (List.set [[],[]] (Int.toNat (↑0:Int)) (List.getD o2_2_2_1 (Int.toNat v63) [])) (Int.toNat (↑1:Int)) (List.getD o11 (Int.toNat v63) []))))):Int)≠(↑(List.length (F5 (List.flatten (List.set (List.set [[],[]] (Int.toNat (↑0:Int)) (List.getD o2_2_2_1 (Int.toNat v63) [])) (Int.toNat (↑1:Int)) (List.getD o11 (Int.toNat v63) []))))):Int))) (.ret ((false,()))) (cond (!v13) (.n8 (True) (cond (!decide (F5 (List.flatten (List.set (List.set [[],[]] (Int.toNat (↑0:Int)) (List.getD o2_2_2_1 (Int.toNat v63) [])) (Int.toNat (↑1:Int)) (List.getD o11 (Int.toNat v63) [])))=F5 (List.flatten (List.set (List.set [[],[]] (Int.toNat (↑0:Int)) (List.getD o2_2_2_1 (Int.toNat v63) [])) (Int.toNat (↑1:Int)) (List.getD o11 (Int.toNat v63) []))))) (.ret ((false,()))) (.n8 (A4 IntKind.i64 (v63+(1:Int))) (.cut (j8 (g9 Try.prog 10) 16).1 (j8 (g9 Try.prog 10) 16).2 (St.mk [(2,AV.ptr 2 []),(10,AV.ptr 10 []),(11,AV.ptr 11 []),(12,AV.at_ 1000012 []),(13,AV.val Ty.bool true),(63,AV.val (Ty.int IntKind.i64) (v63+(1:Int)))] [(2,f9.var (Ty.pair (Ty.pair (Ty.int IntKind.i64) (Ty.pair (Ty.int IntKind.u8) Ty.unit)) (Ty.pair (Ty.int IntKind.u8) (Ty.pair (Ty.arr 6 (Ty.d0 false (Ty.int IntKind.i64))) Ty.unit))) ((o2_1_1,o2_1_2_1,()),o2_2_1,o2_2_2_1,())),(10,f9.var (Ty.pair (Ty.pair (Ty.int IntKind.i64) (Ty.pair (Ty.int IntKind.u8) Ty.unit)) (Ty.pair (Ty.int IntKind.u8) (Ty.pair (Ty.arr 6 Is) Ty.unit))) ((o10_1_1,o10_1_2_1,()),o10_2_1,o10_2_2_1,())),(11,f9.var (Ty.arr 6 (Ty.d0 false (Ty.int IntKind.i64))) o11),(1000012,f9.own Is (F5 (List.flatten (List.set (List.set [[],[]] (Int.toNat (↑0:Int)) (List.getD o2_2_2_1 (Int.toNat v63) [])) (Int.toNat (↑1:Int)) (List.getD o11 (Int.toNat v63) [])))))]))))) (.n8 (True) (cond (!decide (o1000012=F5 (List.flatten (List.set (List.set [[],[]] (Int.toNat (↑0:Int)) (List.getD o2_2_2_1 (Int.toNat v63) [])) (Int.toNat (↑1:Int)) (List.getD o11 (Int.toNat v63) []))))) (.ret ((false,()))) (.n8 (A4 IntKind.i64 (v63+(1:Int))) (.cut (j8 (g9 Try.prog 10) 16).1 (j8 (g9 Try.prog 10) 16).2 (St.mk [(2,AV.ptr 2 []),(10,AV.ptr 10 []),(11,AV.ptr 11 []),(12,AV.at_ 1000012 []),(13,AV.val Ty.bool v13),(63,AV.val (Ty.int IntKind.i64) (v63+(1:Int)))] [(2,f9.var (Ty.pair (Ty.pair (Ty.int IntKind.i64) (Ty.pair (Ty.int IntKind.u8) Ty.unit)) (Ty.pair (Ty.int IntKind.u8) (Ty.pair (Ty.arr 6 (Ty.d0 false (Ty.int IntKind.i64))) Ty.unit))) ((o2_1_1,o2_1_2_1,()),o2_2_1,o2_2_2_1,())),(10,f9.var (Ty.pair (Ty.pair (Ty.int IntKind.i64) (Ty.pair (Ty.int IntKind.u8) Ty.unit)) (Ty.pair (Ty.int IntKind.u8) (Ty.pair (Ty.arr 6 Is) Ty.unit))) ((o10_1_1,o10_1_2_1,()),o10_2_1,o10_2_2_1,())),(11,f9.var (Ty.arr 6 (Ty.d0 false (Ty.int IntKind.i64))) o11),(1000012,f9.own Is o1000012)]))))))))))))))) (cond (v13) (.n8 (True) (.ret ((decide (B9 ((o10_1_1,o10_1_2_1,()),o10_2_1,o10_2_2_1,())=(0:Int)),())))) (.ret ((false,())))):=by kernel_rfl
end Go.Proofs.Ytekbamiaenbhjaa
