/- synod.Chosen where at most one text is chosen. No condition but those named. -/
import Derived.Test.YtegigiecamjobaaSynQ
import Derived.Test.YtegigiecamjobaaSortS
namespace Go.Proofs.Ytegigiecamjobaa
open Go.Ex Go.Sort
set_option maxRecDepth 100000
def laySortS_ren:Go.Shelf.Ren:=⟨fun|6=>93|8=>100|9=>130|19=>143|20=>144|21=>154|22=>155|23=>156|24=>157|25=>158|26=>159|27=>160|28=>161|29=>162|31=>164|32=>165|36=>179|37=>180|38=>181|39=>182|41=>187|n=>n,fun|0=>0|3=>3|4=>4|5=>5|9=>9|26=>82|27=>82|29=>9|32=>183|35=>218|36=>219|41=>164|44=>225|46=>169|53=>239|57=>243|63=>257|64=>258|n=>n,fun|n=>n⟩
theorem laySortS:Go.Proofs.SlLaysM.n6 Try.prog laySortS_ren:={
  mixed:=by kernel_rfl,
  f6:=⟨Try.f93.name,by decide,Try.func93.trans (congrArg some (by kernel_rfl))⟩,
  f8:=Try.func100.trans (congrArg some (by kernel_rfl)),
  f9:=⟨Try.f130.name,by decide,Try.func130.trans (congrArg some (by kernel_rfl))⟩,
  f19:=Try.func143.trans (congrArg some (by kernel_rfl)),
  f20:=Try.func144.trans (congrArg some (by kernel_rfl)),
  f21:=⟨Try.f154.name,by decide,Try.func154.trans (congrArg some (by kernel_rfl))⟩,
  f22:=⟨Try.f155.name,by decide,Try.func155.trans (congrArg some (by kernel_rfl))⟩,
  f23:=⟨Try.f156.name,by decide,Try.func156.trans (congrArg some (by kernel_rfl))⟩,
  f24:=⟨Try.f157.name,by decide,Try.func157.trans (congrArg some (by kernel_rfl))⟩,
  f25:=⟨Try.f158.name,by decide,Try.func158.trans (congrArg some (by kernel_rfl))⟩,
  f26:=⟨Try.f159.name,by decide,Try.func159.trans (congrArg some (by kernel_rfl))⟩,
  f27:=⟨Try.f160.name,by decide,Try.func160.trans (congrArg some (by kernel_rfl))⟩,
  f28:=⟨Try.f161.name,by decide,Try.func161.trans (congrArg some (by kernel_rfl))⟩,
  f29:=⟨Try.f162.name,by decide,Try.func162.trans (congrArg some (by kernel_rfl))⟩,
  f31:=Try.func164.trans (congrArg some (by kernel_rfl)),
  f32:=Try.func165.trans (congrArg some (by kernel_rfl)),
  f36:=⟨Try.f179.name,by decide,Try.func179.trans (congrArg some (by kernel_rfl))⟩,
  f37:=⟨Try.f180.name,by decide,Try.func180.trans (congrArg some (by kernel_rfl))⟩,
  f38:=⟨Try.f181.name,by decide,Try.func181.trans (congrArg some (by kernel_rfl))⟩,
  f39:=⟨Try.f182.name,by decide,Try.func182.trans (congrArg some (by kernel_rfl))⟩,
  f41:=⟨Try.f187.name,by decide,Try.func187.trans (congrArg some (by kernel_rfl))⟩,
  t0:=Try.underlying0,
  a0:=Try.isAgg0,
  z0:=Try.sizeOf0,
  v0:=Try.zeroValue0,
  t3:=Try.underlying3,
  a3:=Try.isAgg3,
  z3:=Try.sizeOf3,
  v3:=Try.zeroValue3,
  t4:=Try.underlying4,
  a4:=Try.isAgg4,
  z4:=Try.sizeOf4,
  v4:=Try.zeroValue4,
  t5:=Try.underlying5,
  a5:=Try.isAgg5,
  z5:=Try.sizeOf5,
  v5:=Try.zeroValue5,
  t9:=Try.underlying9,
  a9:=Try.isAgg9,
  z9:=Try.sizeOf9,
  v9:=Try.zeroValue9,
  t26:=Try.underlying82,
  a26:=Try.isAgg82,
  z26:=Try.sizeOf82,
  v26:=Try.zeroValue82,
  t27:=Try.underlying82,
  a27:=Try.isAgg82,
  z27:=Try.sizeOf82,
  v27:=Try.zeroValue82,
  t29:=Try.underlying9,
  a29:=Try.isAgg9,
  z29:=Try.sizeOf9,
  v29:=Try.zeroValue9,
  t32:=Try.underlying183,
  a32:=Try.isAgg183,
  z32:=Try.sizeOf183,
  v32:=Try.zeroValue183,
  t35:=Try.underlying218,
  a35:=Try.isAgg218,
  z35:=Try.sizeOf218,
  v35:=Try.zeroValue218,
  t36:=Try.underlying219,
  a36:=Try.isAgg219,
  z36:=Try.sizeOf219,
  v36:=Try.zeroValue219,
  t41:=Try.underlying164,
  a41:=Try.isAgg164,
  z41:=Try.sizeOf164,
  v41:=Try.zeroValue164,
  t44:=Try.underlying225,
  a44:=Try.isAgg225,
  z44:=Try.sizeOf225,
  v44:=Try.zeroValue225,
  t46:=Try.underlying169,
  a46:=Try.isAgg169,
  z46:=Try.sizeOf169,
  v46:=Try.zeroValue169,
  t53:=Try.underlying239,
  a53:=Try.isAgg239,
  z53:=Try.sizeOf239,
  v53:=Try.zeroValue239,
  t57:=Try.underlying243,
  a57:=Try.isAgg243,
  z57:=Try.sizeOf243,
  v57:=Try.zeroValue243,
  t63:=Try.underlying257,
  a63:=Try.isAgg257,
  z63:=Try.sizeOf257,
  v63:=Try.zeroValue257,
  t64:=Try.underlying258,
  a64:=Try.isAgg258,
  z64:=Try.sizeOf258,
  v64:=Try.zeroValue258 }
def csortS:Ctr:=sortSC
theorem csortS_valid:csortS.Valid Try.prog 93:=sortS_valid laySortS
def ccompS:Ctr:={ ps:=[.own (.slc true .str)],rs:=[.slc true .str],pre:=fun x=>∀ a∈(show List (List UInt8) from x.1),∀ b∈(show List (List UInt8) from x.1),a=b,fn:=fun x=>(List.take 1 (show List (List UInt8) from x.1),()),out:=fun _=>() }
abbrev repB (n:Nat):List (List UInt8):=List.replicate n []
noncomputable def EcompS:Env:={ P:=Try.prog,tt:=tt,ctr:=[],res:=[Go.ResultVar.tmp 2],rs:=[Ty.slc true Ty.str],ps:=[PK.own (Ty.slc true Ty.str)],cuts:=[(4,[(0,some (Ty.slc true Ty.str)),(3,none)]),(9,[(0,some (Ty.slc true Ty.str)),(3,none),(4,none),(5,none)])],nt:=61 }
theorem EcompS_ok:EnvOk EcompS:=envOk tt_ok trivial
theorem FcompS_ok:FnOk EcompS Try.f94:=⟨rfl,rfl⟩
theorem EcompS_t (x0:List (List UInt8)):exec EcompS 1000 [.code (bodyOf Try.prog 94)] (initSt ccompS.ps ((x0,()))) =
  cond (decide ((↑(List.length x0):Int)<(2:Int))) (.ret ((x0,()))) (.cut (loopAt (bodyOf Try.prog 94) 4).1 (loopAt (bodyOf Try.prog 94) 4).2 (St.mk [(0,AV.at_ 1000000 []),(3,AV.val (Ty.int IntKind.i64) (1:Int))] [(1000000,Ent.own (Ty.slc true Ty.str) x0)])):=by kernel_rfl
def EcompS_s4 (v3:Int) (o1000000:List (List UInt8)):St:=St.mk [(0,AV.at_ 1000000 []),(3,AV.val (Ty.int IntKind.i64) v3)] [(1000000,Ent.own (Ty.slc true Ty.str) o1000000)]
theorem EcompS_l4 (v3:Int) (o1000000:List (List UInt8)):exec EcompS 1000 (.code (loopAt (bodyOf Try.prog 94) 4).1::.inLoop (loopAt (bodyOf Try.prog 94) 4).1::(loopAt (bodyOf Try.prog 94) 4).2) (EcompS_s4 v3 o1000000) =
  cond (decide (v3<(↑(List.length o1000000):Int))) (.need ((0:Int)≤v3∧v3<(↑(List.length o1000000):Int)) (.need (inK IntKind.i64 (v3 - (1:Int))) (.need ((0:Int)≤v3 - (1:Int)∧v3 - (1:Int)<(↑(List.length o1000000):Int)) (cond (decide (List.getD o1000000 (Int.toNat v3) []=List.getD o1000000 (Int.toNat (v3 - (1:Int))) [])) (.need ((0:Int)≤v3∧v3≤(↑(List.length o1000000):Int)∧(↑(List.length o1000000):Int)≤(↑(List.length o1000000):Int)) (.cut (loopAt (bodyOf Try.prog 94) 9).1 (loopAt (bodyOf Try.prog 94) 9).2 (St.mk [(0,AV.at_ 1000000 []),(3,AV.val (Ty.int IntKind.i64) v3),(4,AV.sub 1000000 [] v3 (↑(List.length o1000000):Int)),(5,AV.val (Ty.int IntKind.i64) (1:Int))] [(1000000,Ent.own (Ty.slc true Ty.str) o1000000)]))) (.need (inK IntKind.i64 (v3+(1:Int))) (.cut (loopAt (bodyOf Try.prog 94) 4).1 (loopAt (bodyOf Try.prog 94) 4).2 (St.mk [(0,AV.at_ 1000000 []),(3,AV.val (Ty.int IntKind.i64) (v3+(1:Int)))] [(1000000,Ent.own (Ty.slc true Ty.str) o1000000)]))))))) (.ret ((o1000000,()))):=by kernel_rfl
def EcompS_s9 (v3:Int) (v4lo:Int) (v4hi:Int) (v5:Int) (o1000000:List (List UInt8)):St:=St.mk [(0,AV.at_ 1000000 []),(3,AV.val (Ty.int IntKind.i64) v3),(4,AV.sub 1000000 [] v4lo v4hi),(5,AV.val (Ty.int IntKind.i64) v5)] [(1000000,Ent.own (Ty.slc true Ty.str) o1000000)]
theorem EcompS_l9 (v3:Int) (v4lo:Int) (v4hi:Int) (v5:Int) (o1000000:List (List UInt8)):exec EcompS 1000 (.code (loopAt (bodyOf Try.prog 94) 9).1::.inLoop (loopAt (bodyOf Try.prog 94) 9).1::(loopAt (bodyOf Try.prog 94) 9).2) (EcompS_s9 v3 v4lo v4hi v5 o1000000) =
  cond (decide (v5<v4hi - v4lo)) (.need ((0:Int)≤v5∧v5<v4hi - v4lo) (.need (inK IntKind.i64 (v5 - (1:Int))) (.need ((0:Int)≤v5 - (1:Int)∧v5 - (1:Int)<v4hi - v4lo) (cond (decide (List.getD o1000000 (Int.toNat (v4lo+v5)) []≠List.getD o1000000 (Int.toNat (v4lo+(v5 - (1:Int)))) [])) (.need ((0:Int)≤v5∧v5<v4hi - v4lo) (.need ((0:Int)≤v3∧v3<(↑(List.length o1000000):Int)) (.need (inK IntKind.i64 (v3+(1:Int))) (.need (inK IntKind.i64 (v5+(1:Int))) (.cut (loopAt (bodyOf Try.prog 94) 9).1 (loopAt (bodyOf Try.prog 94) 9).2 (St.mk [(0,AV.at_ 1000000 []),(3,AV.val (Ty.int IntKind.i64) (v3+(1:Int))),(4,AV.sub 1000000 [] v4lo v4hi),(5,AV.val (Ty.int IntKind.i64) (v5+(1:Int)))] [(1000000,Ent.own (Ty.slc true Ty.str) (List.set o1000000 (Int.toNat v3) (List.getD o1000000 (Int.toNat (v4lo+v5)) [])))])))))) (.need (inK IntKind.i64 (v5+(1:Int))) (.cut (loopAt (bodyOf Try.prog 94) 9).1 (loopAt (bodyOf Try.prog 94) 9).2 (St.mk [(0,AV.at_ 1000000 []),(3,AV.val (Ty.int IntKind.i64) v3),(4,AV.sub 1000000 [] v4lo v4hi),(5,AV.val (Ty.int IntKind.i64) (v5+(1:Int)))] [(1000000,Ent.own (Ty.slc true Ty.str) o1000000)]))))))) (.need ((0:Int)≤v3∧v3≤(↑(List.length o1000000):Int)∧(↑(List.length o1000000):Int)≤(↑(List.length o1000000):Int)) (.need ((0:Int)≤(0:Int)∧(0:Int)≤v3∧v3≤(↑(List.length (List.take (Int.toNat v3) o1000000++repB (Int.toNat ((↑(List.length o1000000):Int) - v3))++List.drop (Int.toNat v3+List.length (repB (Int.toNat ((↑(List.length o1000000):Int) - v3)))) o1000000)):Int)) (.ret ((cut2 (0:Int) v3 (List.take (Int.toNat v3) o1000000++repB (Int.toNat ((↑(List.length o1000000):Int) - v3))++List.drop (Int.toNat v3+List.length (repB (Int.toNat ((↑(List.length o1000000):Int) - v3)))) o1000000),()))))):=by kernel_rfl
theorem ccompS_valid:ccompS.Valid Try.prog 94:=by
  refine Ctr.valid_of EcompS_ok rfl rfl Try.func94 (c:=bodyOf Try.prog 94) rfl rfl FcompS_ok rfl ?_
  rintro ⟨(l:List (List UInt8)),⟨⟩⟩ (hone:∀ a∈l,∀ b∈l,a=b) ⟨⟨hl,-⟩,-⟩
  have hl:l.length≤9223372036854775807:=hl
  refine exec_sound (n:=1000) EcompS_ok FcompS_ok ?_
  refine holds_of_eq (EcompS_t l) ?_
  have same:∀ i j:Nat,i<l.length→j<l.length→l.getD i []=l.getD j []:=fun i j hi hj=>hone _ (getD_mem hi) _ (getD_mem hj)
  simp only [holds_cond,Tree.holds,true_and,true_implies,decide_eq_true_eq,decide_eq_false_iff_not,Bool.not_eq_true',Bool.not_eq_false',Int.toNat_natCast,inK_i64,List.length_set,List.length_cons,List.length_nil]
  refine ⟨fun c=>?_,fun c=>?_⟩
  · show ((l,()):List (List UInt8)×Unit)=(l.take 1,())
    rw [List.take_of_length_le (by omega)]
  have h2:2≤l.length:=by omega
  refine Reach.loopI EcompS_ok FcompS_ok (fun _:Nat=>EcompS_s4 1 l) (fun _=>True) (fun i=>i) 1000 (fun _=>⟨uniq_of rfl,uniq_of rfl⟩) ?_ 0 trivial
  rintro i - - -
  refine holds_of_eq (EcompS_l4 ..) ?_
  simp only [holds_cond,Tree.holds,true_and,true_implies,decide_eq_true_eq,decide_eq_false_iff_not,Bool.not_eq_true',Bool.not_eq_false',Int.toNat_natCast,inK_i64,List.length_set,List.length_cons,List.length_nil]
  have e0:l.getD (Int.toNat 1) []=l.getD (Int.toNat (1 - 1)) []:=same 1 0 (by omega) (by omega)
  refine ⟨fun d=>⟨by omega,fun _=>⟨by omega,fun _=>⟨by omega,fun _=>⟨fun _=>⟨by omega,fun _=>?_⟩,fun e=>absurd e0 e⟩⟩⟩⟩,fun d=>by omega⟩
  refine Reach.loopI EcompS_ok FcompS_ok (fun j:Nat=>EcompS_s9 1 1 (l.length:Int) (j:Int) l) (fun j=>1≤j∧j+1≤l.length) (fun j=>l.length - j) 1000 (fun _=>⟨uniq_of rfl,uniq_of rfl⟩) ?_ 1 ⟨by omega,h2⟩
  rintro j ⟨(k1:1≤j),(k2:j+1≤l.length)⟩ - ih
  refine holds_of_eq (EcompS_l9 ..) ?_
  simp only [holds_cond,Tree.holds,true_and,true_implies,decide_eq_true_eq,decide_eq_false_iff_not,Bool.not_eq_true',Bool.not_eq_false',Int.toNat_natCast,inK_i64,List.length_set,List.length_cons,List.length_nil]
  refine ⟨fun d=>⟨by omega,fun _=>⟨by omega,fun _=>⟨by omega,fun _=>⟨fun e=>?_,fun e=>⟨by omega,fun _=>ih (j+1) ⟨by omega,by omega⟩ (by omega)⟩⟩⟩⟩⟩,fun d=>?_⟩
  · exact absurd (same (Int.toNat (1+(j:Int))) (Int.toNat (1+((j:Int) - 1))) (by omega) (by omega)) e
  · refine ⟨by omega,fun _=>⟨⟨by omega,by omega,?_⟩,fun _=>?_⟩⟩
    · simp only [List.length_append,List.length_take,List.length_drop,List.length_replicate]; omega
    · show ((cut2 0 1 _,()):List (List UInt8)×Unit)=(l.take 1,())
      refine congrArg (fun x=>(x,())) ?_
      rw [cut2,Int.toNat_zero,List.drop_zero,List.append_assoc,show ((1:Int) - 0).toNat=1 from rfl,show Int.toNat 1=1 from rfl,List.take_append_of_le_length (by rw [List.length_take]; omega),List.take_take,Nat.min_self]
def chosenL (s:SynodD):List (List UInt8):=(s.2.1.filter (fun r=>maj r.2.2.2.1 s.1.length)).map (fun r=>r.2.2.2.2.2.1)
def chosenR (s:SynodD):List (List UInt8)×Int×Unit:=if scheck s≠0 then ([],scheck s,()) else ((chosenL s).take 1,0,())
def cchosen:Ctr:={ ps:=[.v Synod],rs:=[.slc true .str,I64],pre:=fun x=>scheck x.1=0→∀ a∈chosenL x.1,∀ b∈chosenL x.1,a=b,fn:=fun x=>chosenR x.1,out:=fun _=>() }
theorem scheck_len2 {V:List VoterD} {R:List RoundD} (h:scheck (V,R,())=0):R.length≤30:=(scheck_len h).2
noncomputable def Echosen:Env:={ P:=Try.prog,tt:=tt,ctr:=[(50,cscheck),(92,cmaj),(93,csortS),(94,ccompS)],res:=[Go.ResultVar.tmp 2,Go.ResultVar.tmp 3],rs:=[Ty.slc true Ty.str,Ty.int IntKind.i64],ps:=[PK.v (Ty.pair (Ty.slc false (Ty.pair (Ty.int IntKind.i64) (Ty.pair (Ty.int IntKind.i64) (Ty.pair Ty.str Ty.unit)))) (Ty.pair (Ty.slc false (Ty.pair (Ty.int IntKind.i64) (Ty.pair (Ty.int IntKind.i64) (Ty.pair (Ty.int IntKind.u8) (Ty.pair (Ty.int IntKind.u8) (Ty.pair Ty.bool (Ty.pair Ty.str Ty.unit))))))) Ty.unit))],cuts:=[(6,[(1,none),(5,some (Ty.slc true Ty.str)),(14,none),(15,none),(16,none)])],nt:=36 }
theorem Echosen_ok:EnvOk Echosen:=envOk tt_ok ⟨cscheck_valid,cmaj_valid,csortS_valid,ccompS_valid,trivial⟩
theorem Fchosen_ok:FnOk Echosen Try.f48:=⟨rfl,rfl⟩
theorem Echosen_t (x0_1:List (Int×Int×List UInt8×Unit)) (x0_2_1:List (Int×Int×Int×Int×Bool×List UInt8×Unit)):exec Echosen 1000 [.code (bodyOf Try.prog 48)] (initSt cchosen.ps (((x0_1,x0_2_1,()),()))) =
  .need (True) (cond (decide (scheck (x0_1,x0_2_1,())≠(0:Int))) (.ret (([],scheck (x0_1,x0_2_1,()),()))) (.cut (loopAt (bodyOf Try.prog 48) 6).1 (loopAt (bodyOf Try.prog 48) 6).2 (St.mk [(1,AV.ptr 1 []),(5,AV.at_ 1000005 []),(14,AV.val (Ty.slc false (Ty.pair (Ty.int IntKind.i64) (Ty.pair (Ty.int IntKind.i64) (Ty.pair (Ty.int IntKind.u8) (Ty.pair (Ty.int IntKind.u8) (Ty.pair Ty.bool (Ty.pair Ty.str Ty.unit))))))) x0_2_1),(15,AV.val (Ty.int IntKind.i64) (↑(List.length x0_2_1):Int)),(16,AV.val (Ty.int IntKind.i64) (0:Int))] [(1,Ent.var (Ty.pair (Ty.slc false (Ty.pair (Ty.int IntKind.i64) (Ty.pair (Ty.int IntKind.i64) (Ty.pair Ty.str Ty.unit)))) (Ty.pair (Ty.slc false (Ty.pair (Ty.int IntKind.i64) (Ty.pair (Ty.int IntKind.i64) (Ty.pair (Ty.int IntKind.u8) (Ty.pair (Ty.int IntKind.u8) (Ty.pair Ty.bool (Ty.pair Ty.str Ty.unit))))))) Ty.unit)) (x0_1,x0_2_1,())),(1000005,Ent.own (Ty.slc true Ty.str) [])]))):=by kernel_rfl
def Echosen_s6 (v14:List (Int×Int×Int×Int×Bool×List UInt8×Unit)) (v15:Int) (v16:Int) (o1_1:List (Int×Int×List UInt8×Unit)) (o1_2_1:List (Int×Int×Int×Int×Bool×List UInt8×Unit)) (o1000005:List (List UInt8)):St:=St.mk [(1,AV.ptr 1 []),(5,AV.at_ 1000005 []),(14,AV.val (Ty.slc false (Ty.pair (Ty.int IntKind.i64) (Ty.pair (Ty.int IntKind.i64) (Ty.pair (Ty.int IntKind.u8) (Ty.pair (Ty.int IntKind.u8) (Ty.pair Ty.bool (Ty.pair Ty.str Ty.unit))))))) v14),(15,AV.val (Ty.int IntKind.i64) v15),(16,AV.val (Ty.int IntKind.i64) v16)] [(1,Ent.var (Ty.pair (Ty.slc false (Ty.pair (Ty.int IntKind.i64) (Ty.pair (Ty.int IntKind.i64) (Ty.pair Ty.str Ty.unit)))) (Ty.pair (Ty.slc false (Ty.pair (Ty.int IntKind.i64) (Ty.pair (Ty.int IntKind.i64) (Ty.pair (Ty.int IntKind.u8) (Ty.pair (Ty.int IntKind.u8) (Ty.pair Ty.bool (Ty.pair Ty.str Ty.unit))))))) Ty.unit)) (o1_1,o1_2_1,())),(1000005,Ent.own (Ty.slc true Ty.str) o1000005)]
theorem Echosen_l6 (v14:List (Int×Int×Int×Int×Bool×List UInt8×Unit)) (v15:Int) (v16:Int) (o1_1:List (Int×Int×List UInt8×Unit)) (o1_2_1:List (Int×Int×Int×Int×Bool×List UInt8×Unit)) (o1000005:List (List UInt8)):exec Echosen 1000 (.code (loopAt (bodyOf Try.prog 48) 6).1::.inLoop (loopAt (bodyOf Try.prog 48) 6).1::(loopAt (bodyOf Try.prog 48) 6).2) (Echosen_s6 v14 v15 v16 o1_1 o1_2_1 o1000005) =
  cond (decide (v16<v15)) (.need ((0:Int)≤v16∧v16<(↑(List.length v14):Int)) (.need (True) (cond (maj (Prod.fst (Prod.snd (Prod.snd (Prod.snd (List.getD v14 (Int.toNat v16) ((0:Int),(0:Int),(0:Int),(0:Int),false,[],())))))) (↑(List.length o1_1):Int)) (.need (List.length o1000005+List.length (List.set [[]] (Int.toNat (↑0:Int)) (Prod.fst (Prod.snd (Prod.snd (Prod.snd (Prod.snd (Prod.snd (List.getD v14 (Int.toNat v16) ((0:Int),(0:Int),(0:Int),(0:Int),false,[],())))))))))≤140737488355328∧(List.length o1000005+List.length (List.set [[]] (Int.toNat (↑0:Int)) (Prod.fst (Prod.snd (Prod.snd (Prod.snd (Prod.snd (Prod.snd (List.getD v14 (Int.toNat v16) ((0:Int),(0:Int),(0:Int),(0:Int),false,[],()))))))))))*Ty.wb Ty.str≤140737488355328) (.need (inK IntKind.i64 (v16+(1:Int))) (.cut (loopAt (bodyOf Try.prog 48) 6).1 (loopAt (bodyOf Try.prog 48) 6).2 (St.mk [(1,AV.ptr 1 []),(5,AV.at_ 1000005 []),(14,AV.val (Ty.slc false (Ty.pair (Ty.int IntKind.i64) (Ty.pair (Ty.int IntKind.i64) (Ty.pair (Ty.int IntKind.u8) (Ty.pair (Ty.int IntKind.u8) (Ty.pair Ty.bool (Ty.pair Ty.str Ty.unit))))))) v14),(15,AV.val (Ty.int IntKind.i64) v15),(16,AV.val (Ty.int IntKind.i64) (v16+(1:Int)))] [(1,Ent.var (Ty.pair (Ty.slc false (Ty.pair (Ty.int IntKind.i64) (Ty.pair (Ty.int IntKind.i64) (Ty.pair Ty.str Ty.unit)))) (Ty.pair (Ty.slc false (Ty.pair (Ty.int IntKind.i64) (Ty.pair (Ty.int IntKind.i64) (Ty.pair (Ty.int IntKind.u8) (Ty.pair (Ty.int IntKind.u8) (Ty.pair Ty.bool (Ty.pair Ty.str Ty.unit))))))) Ty.unit)) (o1_1,o1_2_1,())),(1000005,Ent.own (Ty.slc true Ty.str) (o1000005++List.set [[]] (Int.toNat (↑0:Int)) (Prod.fst (Prod.snd (Prod.snd (Prod.snd (Prod.snd (Prod.snd (List.getD v14 (Int.toNat v16) ((0:Int),(0:Int),(0:Int),(0:Int),false,[],()))))))))))])))) (.need (inK IntKind.i64 (v16+(1:Int))) (.cut (loopAt (bodyOf Try.prog 48) 6).1 (loopAt (bodyOf Try.prog 48) 6).2 (St.mk [(1,AV.ptr 1 []),(5,AV.at_ 1000005 []),(14,AV.val (Ty.slc false (Ty.pair (Ty.int IntKind.i64) (Ty.pair (Ty.int IntKind.i64) (Ty.pair (Ty.int IntKind.u8) (Ty.pair (Ty.int IntKind.u8) (Ty.pair Ty.bool (Ty.pair Ty.str Ty.unit))))))) v14),(15,AV.val (Ty.int IntKind.i64) v15),(16,AV.val (Ty.int IntKind.i64) (v16+(1:Int)))] [(1,Ent.var (Ty.pair (Ty.slc false (Ty.pair (Ty.int IntKind.i64) (Ty.pair (Ty.int IntKind.i64) (Ty.pair Ty.str Ty.unit)))) (Ty.pair (Ty.slc false (Ty.pair (Ty.int IntKind.i64) (Ty.pair (Ty.int IntKind.i64) (Ty.pair (Ty.int IntKind.u8) (Ty.pair (Ty.int IntKind.u8) (Ty.pair Ty.bool (Ty.pair Ty.str Ty.unit))))))) Ty.unit)) (o1_1,o1_2_1,())),(1000005,Ent.own (Ty.slc true Ty.str) o1000005)])))))) (.need ((∀ (a:List UInt8),a∈o1000005→∀ (b:List UInt8),b∈o1000005→a=b)∧List.length o1000005≤1048576) (.need (∀ (a:List UInt8),a∈o1000005→∀ (b:List UInt8),b∈o1000005→a=b) (.ret ((List.take 1 o1000005,(0:Int),()))))):=by kernel_rfl
def chTo (n:Int) (R:List RoundD) (i:Nat):List (List UInt8):=((R.take i).filter (fun r=>maj r.2.2.2.1 n)).map (fun r=>r.2.2.2.2.2.1)
theorem chTo_succ {n:Int} {R:List RoundD} {i:Nat} (hi:i<R.length):chTo n R (i+1)=if maj (R.getD i r00).2.2.2.1 n=true then chTo n R i++[(R.getD i r00).2.2.2.2.2.1] else chTo n R i:=by
  have tk:R.take (i+1)=R.take i++[R.getD i r00]:=by
    rw [List.take_add_one,List.getElem?_eq_getElem hi,List.getD_eq_getElem?_getD,List.getElem?_eq_getElem hi]; rfl
  rw [chTo,tk,List.filter_append,List.map_append]
  split
  · rename_i h
    rw [List.filter_cons_of_pos (by exact h)]; rfl
  · rename_i h
    rw [List.filter_cons_of_neg (by exact h)]; simp [chTo]
theorem chTo_len {n:Int} {R:List RoundD} (i:Nat):(chTo n R i).length≤R.length:=by
  rw [chTo,List.length_map]
  exact Nat.le_trans (List.length_filter_le ..) (by rw [List.length_take]; omega)
theorem cchosen_valid:cchosen.Valid Try.prog 48:=by
  refine Ctr.valid_of Echosen_ok rfl rfl Try.func48 (c:=bodyOf Try.prog 48) rfl rfl Fchosen_ok rfl ?_
  rintro ⟨⟨(V:List VoterD),(R:List RoundD),⟨⟩⟩,⟨⟩⟩ (hp:scheck (V,R,())=0→∀ a∈chosenL (V,R,()),∀ b∈chosenL (V,R,()),a=b) -
  refine exec_sound (n:=1000) Echosen_ok Fchosen_ok ?_
  refine holds_of_eq (Echosen_t V R) ?_
  simp only [holds_cond,Tree.holds,true_and,true_implies,decide_eq_true_eq,decide_eq_false_iff_not,Bool.not_eq_true',Bool.not_eq_false',Int.toNat_natCast,inK_i64,List.length_set,List.length_cons,List.length_nil]
  refine ⟨fun a=>?_,fun a=>?_⟩
  · show (([],scheck (V,R,()),()):List (List UInt8)×Int×Unit)=chosenR (V,R,())
    rw [chosenR,if_pos a]
  have a:=Decidable.not_not.1 a
  have hp:=hp a
  have hR:=scheck_len2 a
  have hfin:chosenR (V,R,())=((chosenL (V,R,())).take 1,0,()):=if_neg (by rw [a]; simp)
  have hall:chTo (V.length:Int) R R.length=chosenL (V,R,()):=by rw [chTo,List.take_length]; rfl
  have hw:Ty.wb .str=16:=rfl
  suffices hs:Go.Ex.Reach Echosen Try.f48 ((chosenL (V,R,())).take 1,0,()) () (.code (loopAt (bodyOf Try.prog 48) 6).1::.inLoop (loopAt (bodyOf Try.prog 48) 6).1::(loopAt (bodyOf Try.prog 48) 6).2) (Echosen_s6 R (R.length:Int) ((0:Nat):Int) V R (chTo (V.length:Int) R 0)) by
    show Go.Ex.Reach Echosen Try.f48 (chosenR (V,R,())) () (.code (loopAt (bodyOf Try.prog 48) 6).1::.inLoop (loopAt (bodyOf Try.prog 48) 6).1::(loopAt (bodyOf Try.prog 48) 6).2) (Echosen_s6 R (R.length:Int) ((0:Nat):Int) V R (chTo (V.length:Int) R 0))
    rw [hfin]; exact hs
  refine Reach.loopI Echosen_ok Fchosen_ok (fun i:Nat=>Echosen_s6 R (R.length:Int) (i:Int) V R (chTo (V.length:Int) R i)) (fun i=>i≤R.length) (fun i=>R.length - i) 1000 (fun _=>⟨uniq_of rfl,uniq_of rfl⟩) ?_ 0 (Nat.zero_le _)
  rintro i (k1:i≤R.length) - ih
  refine holds_of_eq (Echosen_l6 ..) ?_
  have hl:=chTo_len (n:=(V.length:Int)) (R:=R) i
  simp only [holds_cond,Tree.holds,true_and,true_implies,decide_eq_true_eq,decide_eq_false_iff_not,Bool.not_eq_true',Bool.not_eq_false',Int.toNat_natCast,inK_i64,List.length_set,List.length_cons,List.length_nil,hw]
  refine ⟨fun c=>⟨by omega,fun _=>?_⟩,fun c=>?_⟩
  · have hi:i<R.length:=by omega
    have next:=ih (i+1) hi (by omega)
    rw [chTo_succ hi] at next
    have e1:List.getD R i (0,0,0,0,false,[],())=R.getD i r00:=rfl
    simp only [e1]
    generalize R.getD i r00=r at *
    refine ⟨fun d=>⟨by omega,fun _=>⟨by omega,fun _=>?_⟩⟩,fun d=>⟨by omega,fun _=>?_⟩⟩
    · rw [if_pos d] at next
      exact next
    · rw [if_neg (by rw [d]; simp)] at next
      exact next
  · obtain rfl:i=R.length:=by omega
    rw [hall]
    rw [hall] at hl
    exact ⟨⟨hp,by omega⟩,fun _=>⟨hp,fun _=>rfl⟩⟩
end Go.Proofs.Ytegigiecamjobaa
