/- PosetWide. No condition. -/
import Derived.Test.YtegigiecamjobaaPosK
import Derived.Test.YtegigiecamjobaaPosA
import Derived.Test.YtegigiecamjobaaSortD
import Derived.Shelf.SlGeneric
namespace Go.Proofs.Ytegigiecamjobaa
open Go.Ex Go.Sort
set_option maxRecDepth 100000
theorem sum_len_take {α:Type}:∀ (l:List (List α)) (i:Nat),((l.take i).map List.length).sum≤l.flatten.length
  | [],i=>by simp
  | a::l,0=>by simp
  | a::l,i+1=>by have:=sum_len_take l i; simp only [List.take_succ_cons,List.map_cons,List.sum_cons,List.flatten_cons,List.length_append]; omega
def cgrowI:Ctr:={ ps:=[.nilS,.v I64],rs:=[.slc true I64],pre:=fun x=>LE.le (α:=Int) 0 x.2.1∧LE.le (α:=Int) x.2.1 1048576,fn:=fun _=>([],()),out:=fun _=>() }
noncomputable def EgrowI:Env:={ P:=Try.prog,tt:=tt,ctr:=[],res:=[Go.ResultVar.tmp 4],rs:=[Ty.slc true (Ty.int IntKind.i64)],ps:=[PK.nilS,PK.v (Ty.int IntKind.i64)],cuts:=[],nt:=27 }
theorem EgrowI_ok:EnvOk EgrowI:=envOk tt_ok trivial
theorem FgrowI_ok:FnOk EgrowI Try.f75:=⟨rfl,rfl⟩
theorem EgrowI_t (x1:Int):exec EgrowI 1000 [.code (bodyOf Try.prog 75)] (initSt cgrowI.ps (((),x1,()))) =
  cond (decide (x1<(0:Int))) (.stuck "op") (.need (inK IntKind.i64 ((0:Int) - (0:Int))) (.need (inK IntKind.i64 (x1 - ((0:Int) - (0:Int)))) (cond (decide ((0:Int)<x1 - ((0:Int) - (0:Int)))) (.need ((0:Int)=(0:Int)∧(0:Int)=(0:Int)) (.need ((0:Int)≤x1 - ((0:Int) - (0:Int))∧x1 - ((0:Int) - (0:Int))≤(140737488355328:Int)∧(x1 - ((0:Int) - (0:Int)))*(↑(Ty.wb (Ty.int IntKind.i64)):Int)≤(140737488355328:Int)) (.need ((0:Int)≤(0:Int)∧(0:Int)≤(0:Int)∧(0:Int)≤(↑(List.length (List.replicate (Int.toNat (x1 - ((0:Int) - (0:Int)))) (0:Int))):Int)) (.ret ((cut2 (0:Int) (0:Int) (List.replicate (Int.toNat (x1 - ((0:Int) - (0:Int)))) (0:Int)),())))))) (.ret (([],())))))):=by kernel_rfl
theorem cgrowI_valid:cgrowI.Valid Try.prog 75:=by
  refine Ctr.valid_of EgrowI_ok rfl rfl Try.func75 (c:=bodyOf Try.prog 75) rfl rfl FgrowI_ok rfl ?_
  rintro ⟨⟨⟩,(n:Int),⟨⟩⟩ ⟨(h0:0≤n),(h1:n≤1048576)⟩ -
  refine exec_sound (n:=1000) EgrowI_ok FgrowI_ok ?_
  refine holds_of_eq (EgrowI_t n) ?_
  simp only [holds_cond,Tree.holds,true_and,true_implies,decide_eq_true_eq,decide_eq_false_iff_not,Bool.not_eq_true',Bool.not_eq_false',Int.toNat_natCast,inK_i64,List.length_set,List.length_cons,List.length_nil,wb_i64]
  refine ⟨fun h=>by omega,fun _=>⟨by omega,fun _=>⟨by omega,fun _=>⟨fun _=>⟨by omega,fun _=>⟨by omega,fun _=>?_⟩⟩,fun _=>rfl⟩⟩⟩⟩
  rfl
def cconI:Ctr:={ ps:=[.v (.slc false (.slc false I64))],rs:=[.slc true I64],pre:=fun x=>(List.flatten (α:=Int) x.1).length≤1048576,fn:=fun x=>(List.flatten (α:=Int) x.1,()),out:=fun _=>() }
noncomputable def EconI:Env:={ P:=Try.prog,tt:=tt,ctr:=[(75,cgrowI)],res:=[Go.ResultVar.tmp 2],rs:=[Ty.slc true (Ty.int IntKind.i64)],ps:=[PK.v (Ty.slc false (Ty.slc false (Ty.int IntKind.i64)))],cuts:=[(3,[(0,none),(3,none),(9,none),(10,none),(11,none)]),(11,[(6,some Is),(25,none),(26,none),(27,none)])],nt:=36 }
theorem EconI_ok:EnvOk EconI:=envOk tt_ok ⟨cgrowI_valid,trivial⟩
theorem FconI_ok:FnOk EconI Try.f28:=⟨rfl,rfl⟩
theorem EconI_t (x0:List (List Int)):exec EconI 1000 [.code (bodyOf Try.prog 28)] (initSt cconI.ps ((x0,()))) =
  .cut (loopAt (bodyOf Try.prog 28) 3).1 (loopAt (bodyOf Try.prog 28) 3).2 (St.mk [(0,AV.val (Ty.slc false (Ty.slc false (Ty.int IntKind.i64))) x0),(3,AV.val (Ty.int IntKind.i64) (0:Int)),(9,AV.val (Ty.slc false (Ty.slc false (Ty.int IntKind.i64))) x0),(10,AV.val (Ty.int IntKind.i64) (↑(List.length x0):Int)),(11,AV.val (Ty.int IntKind.i64) (0:Int))] []):=by kernel_rfl
def EconI_s3 (v0:List (List Int)) (v3:Int) (v9:List (List Int)) (v10:Int) (v11:Int):St:=St.mk [(0,AV.val (Ty.slc false (Ty.slc false (Ty.int IntKind.i64))) v0),(3,AV.val (Ty.int IntKind.i64) v3),(9,AV.val (Ty.slc false (Ty.slc false (Ty.int IntKind.i64))) v9),(10,AV.val (Ty.int IntKind.i64) v10),(11,AV.val (Ty.int IntKind.i64) v11)] []
theorem EconI_l3 (v0:List (List Int)) (v3:Int) (v9:List (List Int)) (v10:Int) (v11:Int):exec EconI 1000 (.code (loopAt (bodyOf Try.prog 28) 3).1::.inLoop (loopAt (bodyOf Try.prog 28) 3).1::(loopAt (bodyOf Try.prog 28) 3).2) (EconI_s3 v0 v3 v9 v10 v11) =
  cond (decide (v11<v10)) (.need ((0:Int)≤v11∧v11<(↑(List.length v9):Int)) (.need (inK IntKind.i64 (v3+(↑(List.length (List.getD v9 (Int.toNat v11) [])):Int))) (cond (decide (v3+(↑(List.length (List.getD v9 (Int.toNat v11) [])):Int)<(0:Int))) (.stuck "op") (.need (inK IntKind.i64 (v11+(1:Int))) (.cut (loopAt (bodyOf Try.prog 28) 3).1 (loopAt (bodyOf Try.prog 28) 3).2 (St.mk [(0,AV.val (Ty.slc false (Ty.slc false (Ty.int IntKind.i64))) v0),(3,AV.val (Ty.int IntKind.i64) (v3+(↑(List.length (List.getD v9 (Int.toNat v11) [])):Int))),(9,AV.val (Ty.slc false (Ty.slc false (Ty.int IntKind.i64))) v9),(10,AV.val (Ty.int IntKind.i64) v10),(11,AV.val (Ty.int IntKind.i64) (v11+(1:Int)))] [])))))) (.need ((0:Int)≤v3∧v3≤(1048576:Int)) (.cut (loopAt (bodyOf Try.prog 28) 11).1 (loopAt (bodyOf Try.prog 28) 11).2 (St.mk [(6,AV.at_ 1000006 []),(25,AV.val (Ty.slc false (Ty.slc false (Ty.int IntKind.i64))) v0),(26,AV.val (Ty.int IntKind.i64) (↑(List.length v0):Int)),(27,AV.val (Ty.int IntKind.i64) (0:Int))] [(1000006,Ent.own Is [])]))):=by kernel_rfl
def EconI_s11 (v25:List (List Int)) (v26:Int) (v27:Int) (o1000006:List Int):St:=St.mk [(6,AV.at_ 1000006 []),(25,AV.val (Ty.slc false (Ty.slc false (Ty.int IntKind.i64))) v25),(26,AV.val (Ty.int IntKind.i64) v26),(27,AV.val (Ty.int IntKind.i64) v27)] [(1000006,Ent.own Is o1000006)]
theorem EconI_l11 (v25:List (List Int)) (v26:Int) (v27:Int) (o1000006:List Int):exec EconI 1000 (.code (loopAt (bodyOf Try.prog 28) 11).1::.inLoop (loopAt (bodyOf Try.prog 28) 11).1::(loopAt (bodyOf Try.prog 28) 11).2) (EconI_s11 v25 v26 v27 o1000006) =
  cond (decide (v27<v26)) (.need ((0:Int)≤v27∧v27<(↑(List.length v25):Int)) (.need (List.length o1000006+List.length (List.getD v25 (Int.toNat v27) [])≤140737488355328∧(List.length o1000006+List.length (List.getD v25 (Int.toNat v27) []))*Ty.wb (Ty.int IntKind.i64)≤140737488355328) (.need (inK IntKind.i64 (v27+(1:Int))) (.cut (loopAt (bodyOf Try.prog 28) 11).1 (loopAt (bodyOf Try.prog 28) 11).2 (St.mk [(6,AV.at_ 1000006 []),(25,AV.val (Ty.slc false (Ty.slc false (Ty.int IntKind.i64))) v25),(26,AV.val (Ty.int IntKind.i64) v26),(27,AV.val (Ty.int IntKind.i64) (v27+(1:Int)))] [(1000006,Ent.own Is (o1000006++List.getD v25 (Int.toNat v27) []))]))))) (.ret ((o1000006,()))):=by kernel_rfl
theorem cconI_valid:cconI.Valid Try.prog 28:=by
  refine Ctr.valid_of EconI_ok rfl rfl Try.func28 (c:=bodyOf Try.prog 28) rfl rfl FconI_ok rfl ?_
  rintro ⟨(l:List (List (Int))),⟨⟩⟩ hp ⟨⟨hl,-⟩,-⟩
  have hl:l.length≤9223372036854775807:=hl
  have hp:l.flatten.length≤1048576:=hp
  refine exec_sound (n:=1000) EconI_ok FconI_ok ?_
  refine holds_of_eq (EconI_t l) ?_
  refine Reach.loopI EconI_ok FconI_ok (fun i:Nat=>EconI_s3 l (((l.take i).map List.length).sum:Nat) l (l.length:Int) (i:Int)) (fun i=>i≤l.length)
    (fun i=>l.length - i) 1000 (fun _=>⟨uniq_of rfl,uniq_of rfl⟩) ?_ 0 (Nat.zero_le _)
  rintro i k1 - ih
  have k1:i≤l.length:=k1
  refine holds_of_eq (EconI_l3 ..) ?_
  have hs:=sum_len_take l i
  simp only [holds_cond,Tree.holds,true_and,true_implies,decide_eq_true_eq,decide_eq_false_iff_not,Bool.not_eq_true',Bool.not_eq_false',Int.toNat_natCast,inK_i64,List.length_set,List.length_cons,List.length_nil]
  refine ⟨fun c=>⟨by omega,fun _=>?_⟩,fun c=>?_⟩
  · have tk:=take_getD (show i<l.length by omega) ([]:List (Int))
    have hs1:=sum_len_take l (i+1)
    have e1:((l.take (i+1)).map List.length).sum=((l.take i).map List.length).sum+(l.getD i []).length:=by rw [tk]; simp
    rw [e1] at hs1
    have:=ih (i+1) (by show i+1≤l.length; omega) (by omega)
    rw [e1] at this
    exact ⟨by omega,fun _=>⟨fun h=>by omega,fun _=>⟨by omega,fun _=>this⟩⟩⟩
  · refine ⟨by omega,fun _=>?_⟩
    refine Reach.loopI EconI_ok FconI_ok (fun i:Nat=>EconI_s11 l (l.length:Int) (i:Int) (l.take i).flatten) (fun i=>i≤l.length)
      (fun i=>l.length - i) 1000 (fun _=>⟨uniq_of rfl,uniq_of rfl⟩) ?_ 0 (Nat.zero_le _)
    rintro i k1 - ih
    have k1:i≤l.length:=k1
    refine holds_of_eq (EconI_l11 ..) ?_
    simp only [holds_cond,Tree.holds,true_and,true_implies,decide_eq_true_eq,decide_eq_false_iff_not,Bool.not_eq_true',Bool.not_eq_false',Int.toNat_natCast,inK_i64,List.length_set,List.length_cons,List.length_nil,wb_i64]
    refine ⟨fun c=>?_,fun c=>?_⟩
    · have tk:=take_getD (show i<l.length by omega) ([]:List (Int))
      have e1:(l.take (i+1)).flatten=(l.take i).flatten++l.getD i []:=by rw [tk]; simp
      have hb:((l.take i).flatten++l.getD i []).length≤l.flatten.length:=by
        rw [← e1]
        conv=>rhs; rw [← List.take_append_drop (i+1) l,List.flatten_append,List.length_append]
        omega
      rw [List.length_append] at hb
      have:=ih (i+1) (by show i+1≤l.length; omega) (by omega)
      rw [e1] at this
      exact ⟨by omega,fun _=>⟨by omega,fun _=>⟨by omega,fun _=>this⟩⟩⟩
    · rw [List.take_of_length_le (by omega)]
      rfl
def laySortI_ren:Go.Shelf.Ren:=⟨fun|5=>53|7=>99|8=>100|10=>134|11=>135|12=>136|13=>137|14=>138|15=>139|16=>140|17=>141|18=>142|19=>143|20=>144|30=>163|31=>164|32=>165|33=>166|34=>167|35=>149|40=>183|n=>n,fun|0=>0|3=>3|4=>4|5=>5|9=>9|22=>22|23=>22|25=>3|32=>183|35=>218|36=>219|41=>164|44=>225|46=>169|53=>239|57=>243|63=>257|64=>258|n=>n,fun|n=>n⟩
theorem laySortI:Go.Proofs.SlLaysM.n5 Try.prog laySortI_ren:={
  mixed:=by kernel_rfl,
  f5:=⟨Try.f53.name,by decide,Try.func53.trans (congrArg some (by kernel_rfl))⟩,
  f7:=⟨Try.f99.name,by decide,Try.func99.trans (congrArg some (by kernel_rfl))⟩,
  f8:=Try.func100.trans (congrArg some (by kernel_rfl)),
  f10:=⟨Try.f134.name,by decide,Try.func134.trans (congrArg some (by kernel_rfl))⟩,
  f11:=⟨Try.f135.name,by decide,Try.func135.trans (congrArg some (by kernel_rfl))⟩,
  f12:=⟨Try.f136.name,by decide,Try.func136.trans (congrArg some (by kernel_rfl))⟩,
  f13:=⟨Try.f137.name,by decide,Try.func137.trans (congrArg some (by kernel_rfl))⟩,
  f14:=⟨Try.f138.name,by decide,Try.func138.trans (congrArg some (by kernel_rfl))⟩,
  f15:=⟨Try.f139.name,by decide,Try.func139.trans (congrArg some (by kernel_rfl))⟩,
  f16:=⟨Try.f140.name,by decide,Try.func140.trans (congrArg some (by kernel_rfl))⟩,
  f17:=⟨Try.f141.name,by decide,Try.func141.trans (congrArg some (by kernel_rfl))⟩,
  f18:=⟨Try.f142.name,by decide,Try.func142.trans (congrArg some (by kernel_rfl))⟩,
  f19:=Try.func143.trans (congrArg some (by kernel_rfl)),
  f20:=Try.func144.trans (congrArg some (by kernel_rfl)),
  f30:=⟨Try.f163.name,by decide,Try.func163.trans (congrArg some (by kernel_rfl))⟩,
  f31:=Try.func164.trans (congrArg some (by kernel_rfl)),
  f32:=Try.func165.trans (congrArg some (by kernel_rfl)),
  f33:=⟨Try.f166.name,by decide,Try.func166.trans (congrArg some (by kernel_rfl))⟩,
  f34:=⟨Try.f167.name,by decide,Try.func167.trans (congrArg some (by kernel_rfl))⟩,
  f35:=⟨Try.f149.name,by decide,Try.func149.trans (congrArg some (by kernel_rfl))⟩,
  f40:=⟨Try.f183.name,by decide,Try.func183.trans (congrArg some (by kernel_rfl))⟩,
  t0:=Try.underlying0,
  a0:=Try.isAgg0,
  z0:=Try.sizeOf0,
  v0:=Try.zeroValue0,
  t3:=Try.underlying3,
  a3:=Try.isAgg3,
  z3:=Try.sizeOf3,
  v3:=Try.zeroValue3,
  t4:=Try.underlying4,
  a4:=Try.isAgg4,
  z4:=Try.sizeOf4,
  v4:=Try.zeroValue4,
  t5:=Try.underlying5,
  a5:=Try.isAgg5,
  z5:=Try.sizeOf5,
  v5:=Try.zeroValue5,
  t9:=Try.underlying9,
  a9:=Try.isAgg9,
  z9:=Try.sizeOf9,
  v9:=Try.zeroValue9,
  t22:=Try.underlying22,
  a22:=Try.isAgg22,
  z22:=Try.sizeOf22,
  v22:=Try.zeroValue22,
  t23:=Try.underlying22,
  a23:=Try.isAgg22,
  z23:=Try.sizeOf22,
  v23:=Try.zeroValue22,
  t25:=Try.underlying3,
  a25:=Try.isAgg3,
  z25:=Try.sizeOf3,
  v25:=Try.zeroValue3,
  t32:=Try.underlying183,
  a32:=Try.isAgg183,
  z32:=Try.sizeOf183,
  v32:=Try.zeroValue183,
  t35:=Try.underlying218,
  a35:=Try.isAgg218,
  z35:=Try.sizeOf218,
  v35:=Try.zeroValue218,
  t36:=Try.underlying219,
  a36:=Try.isAgg219,
  z36:=Try.sizeOf219,
  v36:=Try.zeroValue219,
  t41:=Try.underlying164,
  a41:=Try.isAgg164,
  z41:=Try.sizeOf164,
  v41:=Try.zeroValue164,
  t44:=Try.underlying225,
  a44:=Try.isAgg225,
  z44:=Try.sizeOf225,
  v44:=Try.zeroValue225,
  t46:=Try.underlying169,
  a46:=Try.isAgg169,
  z46:=Try.sizeOf169,
  v46:=Try.zeroValue169,
  t53:=Try.underlying239,
  a53:=Try.isAgg239,
  z53:=Try.sizeOf239,
  v53:=Try.zeroValue239,
  t57:=Try.underlying243,
  a57:=Try.isAgg243,
  z57:=Try.sizeOf243,
  v57:=Try.zeroValue243,
  t63:=Try.underlying257,
  a63:=Try.isAgg257,
  z63:=Try.sizeOf257,
  v63:=Try.zeroValue257,
  t64:=Try.underlying258,
  a64:=Try.isAgg258,
  z64:=Try.sizeOf258,
  v64:=Try.zeroValue258 }
def csortI:Ctr:=sortIC
theorem csortI_valid:csortI.Valid Try.prog 53:=sortI_valid laySortI
def ccompI:Ctr:={ ps:=[.own (.slc true I64)],rs:=[.slc true I64],pre:=fun x=>List.Nodup (α:=Int) x.1,fn:=fun x=>(x.1,()),out:=fun _=>() }
noncomputable def EcompI:Env:={ P:=Try.prog,tt:=tt,ctr:=[],res:=[Go.ResultVar.tmp 2],rs:=[Ty.slc true (Ty.int IntKind.i64)],ps:=[PK.own Is],cuts:=[(4,[(0,some Is),(3,none)]),(9,[(0,some Is),(3,none),(4,some Is),(5,none)])],nt:=61 }
theorem EcompI_ok:EnvOk EcompI:=envOk tt_ok trivial
theorem FcompI_ok:FnOk EcompI Try.f54:=⟨rfl,rfl⟩
theorem EcompI_t (x0:List Int):exec EcompI 1000 [.code (bodyOf Try.prog 54)] (initSt ccompI.ps ((x0,()))) =
  cond (decide ((↑(List.length x0):Int)<(2:Int))) (.ret ((x0,()))) (.cut (loopAt (bodyOf Try.prog 54) 4).1 (loopAt (bodyOf Try.prog 54) 4).2 (St.mk [(0,AV.at_ 1000000 []),(3,AV.val (Ty.int IntKind.i64) (1:Int))] [(1000000,Ent.own Is x0)])):=by kernel_rfl
def EcompI_s4 (v3:Int) (o1000000:List Int):St:=St.mk [(0,AV.at_ 1000000 []),(3,AV.val (Ty.int IntKind.i64) v3)] [(1000000,Ent.own Is o1000000)]
theorem EcompI_l4 (v3:Int) (o1000000:List Int):exec EcompI 1000 (.code (loopAt (bodyOf Try.prog 54) 4).1::.inLoop (loopAt (bodyOf Try.prog 54) 4).1::(loopAt (bodyOf Try.prog 54) 4).2) (EcompI_s4 v3 o1000000) =
  cond (decide (v3<(↑(List.length o1000000):Int))) (.need ((0:Int)≤v3∧v3<(↑(List.length o1000000):Int)) (.need (inK IntKind.i64 (v3 - (1:Int))) (.need ((0:Int)≤v3 - (1:Int)∧v3 - (1:Int)<(↑(List.length o1000000):Int)) (cond (decide (List.getD o1000000 (Int.toNat v3) (0:Int)=List.getD o1000000 (Int.toNat (v3 - (1:Int))) (0:Int))) (.need ((0:Int)≤v3∧v3≤(↑(List.length o1000000):Int)∧(↑(List.length o1000000):Int)≤(↑(List.length o1000000):Int)) (.cut (loopAt (bodyOf Try.prog 54) 9).1 (loopAt (bodyOf Try.prog 54) 9).2 (St.mk [(0,AV.any),(3,AV.val (Ty.int IntKind.i64) v3),(4,AV.at_ 1000004 []),(5,AV.val (Ty.int IntKind.i64) (1:Int))] [(1000004,Ent.own Is (cut2 v3 (↑(List.length o1000000):Int) o1000000))]))) (.need (inK IntKind.i64 (v3+(1:Int))) (.cut (loopAt (bodyOf Try.prog 54) 4).1 (loopAt (bodyOf Try.prog 54) 4).2 (St.mk [(0,AV.at_ 1000000 []),(3,AV.val (Ty.int IntKind.i64) (v3+(1:Int)))] [(1000000,Ent.own Is o1000000)]))))))) (.ret ((o1000000,()))):=by kernel_rfl
def EcompI_s9 (v3:Int) (v5:Int) (o1000004:List Int):St:=St.mk [(0,AV.any),(3,AV.val (Ty.int IntKind.i64) v3),(4,AV.at_ 1000004 []),(5,AV.val (Ty.int IntKind.i64) v5)] [(1000004,Ent.own Is o1000004)]
theorem ccompI_valid:ccompI.Valid Try.prog 54:=by
  refine Ctr.valid_of EcompI_ok rfl rfl Try.func54 (c:=bodyOf Try.prog 54) rfl rfl FcompI_ok rfl ?_
  rintro ⟨(l:List Int),⟨⟩⟩ (hn:l.Nodup) ⟨⟨hl,-⟩,-⟩
  have hl:l.length≤9223372036854775807:=hl
  refine exec_sound (n:=1000) EcompI_ok FcompI_ok ?_
  refine holds_of_eq (EcompI_t l) ?_
  simp only [holds_cond,Tree.holds,true_and,true_implies,decide_eq_true_eq,decide_eq_false_iff_not,Bool.not_eq_true',Bool.not_eq_false',Int.toNat_natCast,inK_i64,List.length_set,List.length_cons,List.length_nil]
  refine ⟨fun _=>rfl,fun c=>?_⟩
  refine Reach.loopI EcompI_ok FcompI_ok (fun i:Nat=>EcompI_s4 ((i+1:Nat):Int) l) (fun i=>i+1≤l.length) (fun i=>l.length - i) 1000 (fun _=>⟨uniq_of rfl,uniq_of rfl⟩) ?_ 0 (by show 0+1≤l.length; omega)
  rintro i k1 - ih
  have k1:i+1≤l.length:=k1
  refine holds_of_eq (EcompI_l4 ..) ?_
  simp only [holds_cond,Tree.holds,true_and,true_implies,decide_eq_true_eq,decide_eq_false_iff_not,Bool.not_eq_true',Bool.not_eq_false',Int.toNat_natCast,inK_i64,List.length_set,List.length_cons,List.length_nil]
  refine ⟨fun d=>⟨by omega,fun _=>⟨by omega,fun _=>⟨by omega,fun _=>⟨fun e=>?_,fun e=>⟨by omega,fun _=>?_⟩⟩⟩⟩⟩,fun d=>rfl⟩
  · exfalso
    have h1:i+1<l.length:=by omega
    have e1:Int.toNat (((i+1:Nat):Int) - 1)=i:=by omega
    rw [e1,List.getD_eq_getElem?_getD,List.getD_eq_getElem?_getD,List.getElem?_eq_getElem h1,List.getElem?_eq_getElem (show i<l.length by omega)] at e
    exact List.pairwise_iff_getElem.1 hn i (i+1) (by omega) h1 (by omega) (Eq.symm e)
  · exact ih (i+1) (by show i+1+1≤l.length; omega) (by omega)
def cchainsS:Ctr:={ ps:=[.v Pos],rs:=[.slc false (.slc false I64),I64],pre:=fun _=>True,fn:=fun x=>chainsR x.1.1 x.1.2.1,out:=fun _=>(),new:=true }
theorem cchainsS_valid:cchainsS.Valid Try.prog 58:=cchains_valid.share (rs':=[.slc false (.slc false I64),I64]) rfl rfl rfl
def capartS:Ctr:={ ps:=[.v Pos],rs:=[.slc false I64,I64],pre:=fun _=>True,fn:=fun x=>apartR x.1.1 x.1.2.1,out:=fun _=>(),new:=true }
theorem capartS_valid:capartS.Valid Try.prog 57:=capart_valid.share (rs':=[.slc false I64,I64]) rfl rfl rfl
theorem ahead_pairs {n:Nat} {R:Nat→Nat→Bool} {a b:Int} (ha:0≤a∧a<(n:Int)) (hb:0≤b∧b<(n:Int)):memP (a,b,()) (pairsF n R)=R a.toNat b.toNat:=by
  have:memP (a,b,()) (pairsF n R)=true↔R a.toNat b.toNat=true:=by
    rw [memP,decide_eq_true_eq,pairsF_mem]
    constructor
    · rintro ⟨x,y,hx,hy,h,e⟩
      simp only [Prod.mk.injEq,and_true] at e
      rw [e.1,e.2,Int.toNat_natCast,Int.toNat_natCast]; exact h
    · intro h
      exact ⟨a.toNat,b.toNat,by omega,by omega,h,by simp only [Prod.mk.injEq,and_true]; omega⟩
  cases e:R a.toNat b.toNat with
  | true=>exact this.2 e
  | false =>
    cases e2:memP (a,b,()) (pairsF n R) with
    | false=>rfl
    | true=>rw [this.1 e2] at e; cases e
def cPosetWide:Ctr:={ ps:=[.v Pos],rs:=[.bool],pre:=fun _=>True,fn:=fun _=>(true,()),out:=fun _=>() }
noncomputable def EPosetWide:Env:={ P:=Try.prog,tt:=tt,ctr:=[(58,cchainsS),(57,capartS),(60,cahead),(112,cahead1),(28,cconI),(53,csortI),(54,ccompI)],res:=[Go.ResultVar.tmp 2],rs:=[Ty.bool],ps:=[PK.v (Ty.pair (Ty.int IntKind.i64) (Ty.pair (Ty.slc false PairT) Ty.unit))],cuts:=[(11,[(1,none),(5,none),(7,none),(9,none),(11,none),(75,none),(76,none),(77,none)]),(14,[(1,none),(5,none),(7,none),(9,none),(11,none),(13,none),(75,none),(76,none),(77,none),(81,none),(82,none),(83,none)]),(22,[(1,none),(5,none),(7,none),(9,none),(11,none),(105,none),(106,none),(107,none)]),(25,[(1,none),(5,none),(7,none),(9,none),(11,none),(17,none),(105,none),(106,none),(107,none),(111,none),(112,none),(113,none)])],nt:=146 }
theorem EPosetWide_ok:EnvOk EPosetWide:=envOk tt_ok ⟨cchainsS_valid,capartS_valid,cahead_valid,cahead1_valid,cconI_valid,csortI_valid,ccompI_valid,trivial⟩
theorem FPosetWide_ok:FnOk EPosetWide Try.f18:=⟨rfl,rfl⟩
theorem EPosetWide_t (x0_1:Int) (x0_2_1:List (Int×Int×Unit)):exec EPosetWide 1000 [.code (bodyOf Try.prog 18)] (initSt cPosetWide.ps (((x0_1,x0_2_1,()),()))) =
  .need (True) (.need (True) (.need (True) (.need (True) (cond (!decide (Prod.fst (Prod.snd (closeR x0_1 x0_2_1))=(0:Int))) (cond (decide (Prod.fst (Prod.snd (chainsR x0_1 x0_2_1))=Prod.fst (Prod.snd (apartR x0_1 x0_2_1)))) (cond (decide (Prod.fst (Prod.snd (chainsR x0_1 x0_2_1))≠(0:Int))) (.need (inK IntKind.i64 ((↑(List.length (Prod.fst (chainsR x0_1 x0_2_1))):Int)+(↑(List.length (Prod.fst (apartR x0_1 x0_2_1))):Int))) (.ret ((decide ((↑(List.length (Prod.fst (chainsR x0_1 x0_2_1))):Int)+(↑(List.length (Prod.fst (apartR x0_1 x0_2_1))):Int)=(0:Int)),())))) (.ret ((false,())))) (.ret ((false,())))) (cond (decide (Prod.fst (Prod.snd (chainsR x0_1 x0_2_1))≠(0:Int))) (cond (decide (Prod.fst (Prod.snd (chainsR x0_1 x0_2_1))=Prod.fst (Prod.snd (apartR x0_1 x0_2_1)))) (cond (decide (Prod.fst (Prod.snd (chainsR x0_1 x0_2_1))≠(0:Int))) (.need (inK IntKind.i64 ((↑(List.length (Prod.fst (chainsR x0_1 x0_2_1))):Int)+(↑(List.length (Prod.fst (apartR x0_1 x0_2_1))):Int))) (.ret ((decide ((↑(List.length (Prod.fst (chainsR x0_1 x0_2_1))):Int)+(↑(List.length (Prod.fst (apartR x0_1 x0_2_1))):Int)=(0:Int)),())))) (.ret ((false,())))) (.ret ((false,())))) (cond (decide (Prod.fst (Prod.snd (apartR x0_1 x0_2_1))≠(0:Int))) (cond (decide (Prod.fst (Prod.snd (chainsR x0_1 x0_2_1))=Prod.fst (Prod.snd (apartR x0_1 x0_2_1)))) (cond (decide (Prod.fst (Prod.snd (chainsR x0_1 x0_2_1))≠(0:Int))) (.need (inK IntKind.i64 ((↑(List.length (Prod.fst (chainsR x0_1 x0_2_1))):Int)+(↑(List.length (Prod.fst (apartR x0_1 x0_2_1))):Int))) (.ret ((decide ((↑(List.length (Prod.fst (chainsR x0_1 x0_2_1))):Int)+(↑(List.length (Prod.fst (apartR x0_1 x0_2_1))):Int)=(0:Int)),())))) (.ret ((false,())))) (.ret ((false,())))) (.cut (loopAt (bodyOf Try.prog 18) 11).1 (loopAt (bodyOf Try.prog 18) 11).2 (St.mk [(1,AV.ptr 1 []),(5,AV.val (Ty.box false (some 112) (Ty.slc false PairT)) (some (Prod.fst (closeR x0_1 x0_2_1)))),(7,AV.val (Ty.slc false (Ty.slc false (Ty.int IntKind.i64))) (Prod.fst (chainsR x0_1 x0_2_1))),(9,AV.val (Ty.slc false (Ty.int IntKind.i64)) (Prod.fst (apartR x0_1 x0_2_1))),(11,AV.val (Ty.int IntKind.i64) (0:Int)),(75,AV.val (Ty.slc false (Ty.slc false (Ty.int IntKind.i64))) (Prod.fst (chainsR x0_1 x0_2_1))),(76,AV.val (Ty.int IntKind.i64) (↑(List.length (Prod.fst (chainsR x0_1 x0_2_1))):Int)),(77,AV.val (Ty.int IntKind.i64) (0:Int))] [(1,Ent.var (Ty.pair (Ty.int IntKind.i64) (Ty.pair (Ty.slc false PairT) Ty.unit)) (x0_1,x0_2_1,()))])))))))):=by kernel_rfl
def EPosetWide_s11 (v5_b:List (Int×Int×Unit)) (v7:List (List Int)) (v9:List Int) (v11:Int) (v75:List (List Int)) (v76:Int) (v77:Int) (o1_1:Int) (o1_2_1:List (Int×Int×Unit)):St:=St.mk [(1,AV.ptr 1 []),(5,AV.val (Ty.box false (some 112) (Ty.slc false PairT)) (some v5_b)),(7,AV.val (Ty.slc false (Ty.slc false (Ty.int IntKind.i64))) v7),(9,AV.val (Ty.slc false (Ty.int IntKind.i64)) v9),(11,AV.val (Ty.int IntKind.i64) v11),(75,AV.val (Ty.slc false (Ty.slc false (Ty.int IntKind.i64))) v75),(76,AV.val (Ty.int IntKind.i64) v76),(77,AV.val (Ty.int IntKind.i64) v77)] [(1,Ent.var (Ty.pair (Ty.int IntKind.i64) (Ty.pair (Ty.slc false PairT) Ty.unit)) (o1_1,o1_2_1,()))]
theorem EPosetWide_l11 (v5_b:List (Int×Int×Unit)) (v7:List (List Int)) (v9:List Int) (v11:Int) (v75:List (List Int)) (v76:Int) (v77:Int) (o1_1:Int) (o1_2_1:List (Int×Int×Unit)):exec EPosetWide 1000 (.code (loopAt (bodyOf Try.prog 18) 11).1::.inLoop (loopAt (bodyOf Try.prog 18) 11).1::(loopAt (bodyOf Try.prog 18) 11).2) (EPosetWide_s11 v5_b v7 v9 v11 v75 v76 v77 o1_1 o1_2_1) =
  cond (decide (v77<v76)) (.need ((0:Int)≤v77∧v77<(↑(List.length v75):Int)) (.cut (loopAt (bodyOf Try.prog 18) 14).1 (loopAt (bodyOf Try.prog 18) 14).2 (St.mk [(1,AV.ptr 1 []),(5,AV.val (Ty.box false (some 112) (Ty.slc false PairT)) (some v5_b)),(7,AV.val (Ty.slc false (Ty.slc false (Ty.int IntKind.i64))) v7),(9,AV.val (Ty.slc false (Ty.int IntKind.i64)) v9),(11,AV.val (Ty.int IntKind.i64) v11),(13,AV.val (Ty.slc false (Ty.int IntKind.i64)) (List.getD v75 (Int.toNat v77) [])),(75,AV.val (Ty.slc false (Ty.slc false (Ty.int IntKind.i64))) v75),(76,AV.val (Ty.int IntKind.i64) v76),(77,AV.val (Ty.int IntKind.i64) v77),(81,AV.val (Ty.slc false (Ty.int IntKind.i64)) (List.getD v75 (Int.toNat v77) [])),(82,AV.val (Ty.int IntKind.i64) (↑(List.length (List.getD v75 (Int.toNat v77) [])):Int)),(83,AV.val (Ty.int IntKind.i64) (0:Int))] [(1,Ent.var (Ty.pair (Ty.int IntKind.i64) (Ty.pair (Ty.slc false PairT) Ty.unit)) (o1_1,o1_2_1,()))]))) (.cut (loopAt (bodyOf Try.prog 18) 22).1 (loopAt (bodyOf Try.prog 18) 22).2 (St.mk [(1,AV.ptr 1 []),(5,AV.val (Ty.box false (some 112) (Ty.slc false PairT)) (some v5_b)),(7,AV.val (Ty.slc false (Ty.slc false (Ty.int IntKind.i64))) v7),(9,AV.val (Ty.slc false (Ty.int IntKind.i64)) v9),(11,AV.val (Ty.int IntKind.i64) v11),(105,AV.val (Ty.slc false (Ty.int IntKind.i64)) v9),(106,AV.val (Ty.int IntKind.i64) (↑(List.length v9):Int)),(107,AV.val (Ty.int IntKind.i64) (0:Int))] [(1,Ent.var (Ty.pair (Ty.int IntKind.i64) (Ty.pair (Ty.slc false PairT) Ty.unit)) (o1_1,o1_2_1,()))])):=by kernel_rfl
def EPosetWide_s14 (v5_b:List (Int×Int×Unit)) (v7:List (List Int)) (v9:List Int) (v11:Int) (v13:List Int) (v75:List (List Int)) (v76:Int) (v77:Int) (v81:List Int) (v82:Int) (v83:Int) (o1_1:Int) (o1_2_1:List (Int×Int×Unit)):St:=St.mk [(1,AV.ptr 1 []),(5,AV.val (Ty.box false (some 112) (Ty.slc false PairT)) (some v5_b)),(7,AV.val (Ty.slc false (Ty.slc false (Ty.int IntKind.i64))) v7),(9,AV.val (Ty.slc false (Ty.int IntKind.i64)) v9),(11,AV.val (Ty.int IntKind.i64) v11),(13,AV.val (Ty.slc false (Ty.int IntKind.i64)) v13),(75,AV.val (Ty.slc false (Ty.slc false (Ty.int IntKind.i64))) v75),(76,AV.val (Ty.int IntKind.i64) v76),(77,AV.val (Ty.int IntKind.i64) v77),(81,AV.val (Ty.slc false (Ty.int IntKind.i64)) v81),(82,AV.val (Ty.int IntKind.i64) v82),(83,AV.val (Ty.int IntKind.i64) v83)] [(1,Ent.var (Ty.pair (Ty.int IntKind.i64) (Ty.pair (Ty.slc false PairT) Ty.unit)) (o1_1,o1_2_1,()))]
theorem EPosetWide_l14 (v5_b:List (Int×Int×Unit)) (v7:List (List Int)) (v9:List Int) (v11:Int) (v13:List Int) (v75:List (List Int)) (v76:Int) (v77:Int) (v81:List Int) (v82:Int) (v83:Int) (o1_1:Int) (o1_2_1:List (Int×Int×Unit)):exec EPosetWide 1000 (.code (loopAt (bodyOf Try.prog 18) 14).1::.inLoop (loopAt (bodyOf Try.prog 18) 14).1::(loopAt (bodyOf Try.prog 18) 14).2) (EPosetWide_s14 v5_b v7 v9 v11 v13 v75 v76 v77 v81 v82 v83 o1_1 o1_2_1) =
  cond (decide (v83<v82)) (.need ((0:Int)≤v83∧v83<(↑(List.length v81):Int)) (cond (decide ((0:Int)<v83)) (.need (inK IntKind.i64 (v83 - (1:Int))) (.need ((0:Int)≤v83 - (1:Int)∧v83 - (1:Int)<(↑(List.length v13):Int)) (.need (Option.isSome (some v5_b)=true∧True) (cond (!memP (List.getD v13 (Int.toNat (v83 - (1:Int))) (0:Int),List.getD v81 (Int.toNat v83) (0:Int),()) (Option.getD (some v5_b) [])) (.ret ((false,()))) (.need (inK IntKind.i64 (v11+(1:Int))) (.need (inK IntKind.i64 (v83+(1:Int))) (.cut (loopAt (bodyOf Try.prog 18) 14).1 (loopAt (bodyOf Try.prog 18) 14).2 (St.mk [(1,AV.ptr 1 []),(5,AV.val (Ty.box false (some 112) (Ty.slc false PairT)) (some v5_b)),(7,AV.val (Ty.slc false (Ty.slc false (Ty.int IntKind.i64))) v7),(9,AV.val (Ty.slc false (Ty.int IntKind.i64)) v9),(11,AV.val (Ty.int IntKind.i64) (v11+(1:Int))),(13,AV.val (Ty.slc false (Ty.int IntKind.i64)) v13),(75,AV.val (Ty.slc false (Ty.slc false (Ty.int IntKind.i64))) v75),(76,AV.val (Ty.int IntKind.i64) v76),(77,AV.val (Ty.int IntKind.i64) v77),(81,AV.val (Ty.slc false (Ty.int IntKind.i64)) v81),(82,AV.val (Ty.int IntKind.i64) v82),(83,AV.val (Ty.int IntKind.i64) (v83+(1:Int)))] [(1,Ent.var (Ty.pair (Ty.int IntKind.i64) (Ty.pair (Ty.slc false PairT) Ty.unit)) (o1_1,o1_2_1,()))])))))))) (.need (inK IntKind.i64 (v11+(1:Int))) (.need (inK IntKind.i64 (v83+(1:Int))) (.cut (loopAt (bodyOf Try.prog 18) 14).1 (loopAt (bodyOf Try.prog 18) 14).2 (St.mk [(1,AV.ptr 1 []),(5,AV.val (Ty.box false (some 112) (Ty.slc false PairT)) (some v5_b)),(7,AV.val (Ty.slc false (Ty.slc false (Ty.int IntKind.i64))) v7),(9,AV.val (Ty.slc false (Ty.int IntKind.i64)) v9),(11,AV.val (Ty.int IntKind.i64) (v11+(1:Int))),(13,AV.val (Ty.slc false (Ty.int IntKind.i64)) v13),(75,AV.val (Ty.slc false (Ty.slc false (Ty.int IntKind.i64))) v75),(76,AV.val (Ty.int IntKind.i64) v76),(77,AV.val (Ty.int IntKind.i64) v77),(81,AV.val (Ty.slc false (Ty.int IntKind.i64)) v81),(82,AV.val (Ty.int IntKind.i64) v82),(83,AV.val (Ty.int IntKind.i64) (v83+(1:Int)))] [(1,Ent.var (Ty.pair (Ty.int IntKind.i64) (Ty.pair (Ty.slc false PairT) Ty.unit)) (o1_1,o1_2_1,()))])))))) (.need (inK IntKind.i64 (v77+(1:Int))) (.cut (loopAt (bodyOf Try.prog 18) 11).1 (loopAt (bodyOf Try.prog 18) 11).2 (St.mk [(1,AV.ptr 1 []),(5,AV.val (Ty.box false (some 112) (Ty.slc false PairT)) (some v5_b)),(7,AV.val (Ty.slc false (Ty.slc false (Ty.int IntKind.i64))) v7),(9,AV.val (Ty.slc false (Ty.int IntKind.i64)) v9),(11,AV.val (Ty.int IntKind.i64) v11),(75,AV.val (Ty.slc false (Ty.slc false (Ty.int IntKind.i64))) v75),(76,AV.val (Ty.int IntKind.i64) v76),(77,AV.val (Ty.int IntKind.i64) (v77+(1:Int)))] [(1,Ent.var (Ty.pair (Ty.int IntKind.i64) (Ty.pair (Ty.slc false PairT) Ty.unit)) (o1_1,o1_2_1,()))]))):=by kernel_rfl
def EPosetWide_s22 (v5_b:List (Int×Int×Unit)) (v7:List (List Int)) (v9:List Int) (v11:Int) (v105:List Int) (v106:Int) (v107:Int) (o1_1:Int) (o1_2_1:List (Int×Int×Unit)):St:=St.mk [(1,AV.ptr 1 []),(5,AV.val (Ty.box false (some 112) (Ty.slc false PairT)) (some v5_b)),(7,AV.val (Ty.slc false (Ty.slc false (Ty.int IntKind.i64))) v7),(9,AV.val (Ty.slc false (Ty.int IntKind.i64)) v9),(11,AV.val (Ty.int IntKind.i64) v11),(105,AV.val (Ty.slc false (Ty.int IntKind.i64)) v105),(106,AV.val (Ty.int IntKind.i64) v106),(107,AV.val (Ty.int IntKind.i64) v107)] [(1,Ent.var (Ty.pair (Ty.int IntKind.i64) (Ty.pair (Ty.slc false PairT) Ty.unit)) (o1_1,o1_2_1,()))]
theorem EPosetWide_l22 (v5_b:List (Int×Int×Unit)) (v7:List (List Int)) (v9:List Int) (v11:Int) (v105:List Int) (v106:Int) (v107:Int) (o1_1:Int) (o1_2_1:List (Int×Int×Unit)):exec EPosetWide 1000 (.code (loopAt (bodyOf Try.prog 18) 22).1::.inLoop (loopAt (bodyOf Try.prog 18) 22).1::(loopAt (bodyOf Try.prog 18) 22).2) (EPosetWide_s22 v5_b v7 v9 v11 v105 v106 v107 o1_1 o1_2_1) =
  cond (decide (v107<v106)) (.need ((0:Int)≤v107∧v107<(↑(List.length v105):Int)) (.cut (loopAt (bodyOf Try.prog 18) 25).1 (loopAt (bodyOf Try.prog 18) 25).2 (St.mk [(1,AV.ptr 1 []),(5,AV.val (Ty.box false (some 112) (Ty.slc false PairT)) (some v5_b)),(7,AV.val (Ty.slc false (Ty.slc false (Ty.int IntKind.i64))) v7),(9,AV.val (Ty.slc false (Ty.int IntKind.i64)) v9),(11,AV.val (Ty.int IntKind.i64) v11),(17,AV.val (Ty.int IntKind.i64) (List.getD v105 (Int.toNat v107) (0:Int))),(105,AV.val (Ty.slc false (Ty.int IntKind.i64)) v105),(106,AV.val (Ty.int IntKind.i64) v106),(107,AV.val (Ty.int IntKind.i64) v107),(111,AV.val (Ty.slc false (Ty.int IntKind.i64)) v9),(112,AV.val (Ty.int IntKind.i64) (↑(List.length v9):Int)),(113,AV.val (Ty.int IntKind.i64) (0:Int))] [(1,Ent.var (Ty.pair (Ty.int IntKind.i64) (Ty.pair (Ty.slc false PairT) Ty.unit)) (o1_1,o1_2_1,()))]))) (.need (List.length (List.flatten v7)≤1048576) (.need (List.length (List.flatten v7)≤1048576) (cond (decide ((↑(List.length v7):Int)=(↑(List.length v9):Int))) (cond (decide (v11=o1_1)) (.need (List.Nodup (sortI (List.flatten v7))) (.ret ((decide ((↑(List.length (sortI (List.flatten v7))):Int)=o1_1),())))) (.ret ((false,())))) (.ret ((false,())))))):=by kernel_rfl
def EPosetWide_s25 (v5_b:List (Int×Int×Unit)) (v7:List (List Int)) (v9:List Int) (v11:Int) (v17:Int) (v105:List Int) (v106:Int) (v107:Int) (v111:List Int) (v112:Int) (v113:Int) (o1_1:Int) (o1_2_1:List (Int×Int×Unit)):St:=St.mk [(1,AV.ptr 1 []),(5,AV.val (Ty.box false (some 112) (Ty.slc false PairT)) (some v5_b)),(7,AV.val (Ty.slc false (Ty.slc false (Ty.int IntKind.i64))) v7),(9,AV.val (Ty.slc false (Ty.int IntKind.i64)) v9),(11,AV.val (Ty.int IntKind.i64) v11),(17,AV.val (Ty.int IntKind.i64) v17),(105,AV.val (Ty.slc false (Ty.int IntKind.i64)) v105),(106,AV.val (Ty.int IntKind.i64) v106),(107,AV.val (Ty.int IntKind.i64) v107),(111,AV.val (Ty.slc false (Ty.int IntKind.i64)) v111),(112,AV.val (Ty.int IntKind.i64) v112),(113,AV.val (Ty.int IntKind.i64) v113)] [(1,Ent.var (Ty.pair (Ty.int IntKind.i64) (Ty.pair (Ty.slc false PairT) Ty.unit)) (o1_1,o1_2_1,()))]
theorem EPosetWide_l25 (v5_b:List (Int×Int×Unit)) (v7:List (List Int)) (v9:List Int) (v11:Int) (v17:Int) (v105:List Int) (v106:Int) (v107:Int) (v111:List Int) (v112:Int) (v113:Int) (o1_1:Int) (o1_2_1:List (Int×Int×Unit)):exec EPosetWide 1000 (.code (loopAt (bodyOf Try.prog 18) 25).1::.inLoop (loopAt (bodyOf Try.prog 18) 25).1::(loopAt (bodyOf Try.prog 18) 25).2) (EPosetWide_s25 v5_b v7 v9 v11 v17 v105 v106 v107 v111 v112 v113 o1_1 o1_2_1) =
  cond (decide (v113<v112)) (.need ((0:Int)≤v113∧v113<(↑(List.length v111):Int)) (.need (Option.isSome (some v5_b)=true∧True) (cond (memP (v17,List.getD v111 (Int.toNat v113) (0:Int),()) (Option.getD (some v5_b) [])) (.ret ((false,()))) (.need (inK IntKind.i64 (v113+(1:Int))) (.cut (loopAt (bodyOf Try.prog 18) 25).1 (loopAt (bodyOf Try.prog 18) 25).2 (St.mk [(1,AV.ptr 1 []),(5,AV.val (Ty.box false (some 112) (Ty.slc false PairT)) (some v5_b)),(7,AV.val (Ty.slc false (Ty.slc false (Ty.int IntKind.i64))) v7),(9,AV.val (Ty.slc false (Ty.int IntKind.i64)) v9),(11,AV.val (Ty.int IntKind.i64) v11),(17,AV.val (Ty.int IntKind.i64) v17),(105,AV.val (Ty.slc false (Ty.int IntKind.i64)) v105),(106,AV.val (Ty.int IntKind.i64) v106),(107,AV.val (Ty.int IntKind.i64) v107),(111,AV.val (Ty.slc false (Ty.int IntKind.i64)) v111),(112,AV.val (Ty.int IntKind.i64) v112),(113,AV.val (Ty.int IntKind.i64) (v113+(1:Int)))] [(1,Ent.var (Ty.pair (Ty.int IntKind.i64) (Ty.pair (Ty.slc false PairT) Ty.unit)) (o1_1,o1_2_1,()))])))))) (.need (inK IntKind.i64 (v107+(1:Int))) (.cut (loopAt (bodyOf Try.prog 18) 22).1 (loopAt (bodyOf Try.prog 18) 22).2 (St.mk [(1,AV.ptr 1 []),(5,AV.val (Ty.box false (some 112) (Ty.slc false PairT)) (some v5_b)),(7,AV.val (Ty.slc false (Ty.slc false (Ty.int IntKind.i64))) v7),(9,AV.val (Ty.slc false (Ty.int IntKind.i64)) v9),(11,AV.val (Ty.int IntKind.i64) v11),(105,AV.val (Ty.slc false (Ty.int IntKind.i64)) v105),(106,AV.val (Ty.int IntKind.i64) v106),(107,AV.val (Ty.int IntKind.i64) (v107+(1:Int)))] [(1,Ent.var (Ty.pair (Ty.int IntKind.i64) (Ty.pair (Ty.slc false PairT) Ty.unit)) (o1_1,o1_2_1,()))]))):=by kernel_rfl
theorem chainsR_code (n:Int) (l:List PairD):(chainsR n l).2.1=pcheck n l:=by
  rw [chainsR]; split
  · rfl
  · rename_i h; exact (Decidable.not_not.1 h).symm
theorem apartR_code (n:Int) (l:List PairD):(apartR n l).2.1=pcheck n l:=by
  rw [apartR]; split
  · rfl
  · rename_i h; exact (Decidable.not_not.1 h).symm
theorem closeR_code (n:Int) (l:List PairD):(closeR n l).2.1=pcheck n l:=by
  rw [closeR]; split
  · rfl
  · rename_i h; exact (Decidable.not_not.1 h).symm
theorem sum_take_s {l:List (List Int)} {i:Nat} (hi:i<l.length):((l.take (i+1)).map List.length).sum=((l.take i).map List.length).sum+(l.getD i []).length:=by
  rw [take_s1 hi [],List.map_append,List.sum_append]
  simp
theorem cPosetWide_valid:cPosetWide.Valid Try.prog 18:=by
  refine Ctr.valid_of EPosetWide_ok rfl rfl Try.func18 (c:=bodyOf Try.prog 18) rfl rfl FPosetWide_ok rfl ?_
  rintro ⟨⟨(n0:Int),(l:List PairD),⟨⟩⟩,⟨⟩⟩ - -
  refine exec_sound (n:=1000) EPosetWide_ok FPosetWide_ok ?_
  refine holds_of_eq (EPosetWide_t n0 l) ?_
  rw [closeR_code,chainsR_code,apartR_code]
  by_cases h0:pcheck n0 l≠0
  · have e1:(chainsR n0 l).1=[]:=by rw [chainsR,if_pos h0]
    have e2:(apartR n0 l).1=[]:=by rw [apartR,if_pos h0]
    rw [e1,e2]
    simp only [holds_cond,Tree.holds,true_and,true_implies,decide_eq_true_eq,decide_eq_false_iff_not,Bool.not_eq_true',Bool.not_eq_false',Int.toNat_natCast,inK_i64,List.length_set,List.length_cons,List.length_nil]
    exact ⟨fun _=>⟨⟨fun _=>⟨by decide,fun _=>yesd rfl⟩,fun h=>absurd h0 h⟩,fun h=>absurd trivial h⟩,fun h=>absurd h h0⟩
  have h0:=Decidable.not_not.1 h0
  obtain ⟨n,rfl,hp⟩:=pcheck_ok h0
  obtain ⟨M,hM,hC,hcnt,_,⟨A,hA,hA1,hA2,hA3,hA4,hA5⟩,_⟩:=pos_facts hp h0
  have hn:=hp.n20
  have ht:=fun x y z=>pos_trans hp (a:=x) (b:=y) (c:=z)
  have hi:=fun x=>pos_irr hp x
  obtain ⟨hnd,hfl⟩:=hM.chains_part ht hi
  have hlk:=hM.chains_link ht
  have hcl:(chainsTo n M n).length≤n:=by omega
  have hAn:A.length+M.length≤n:=by
    have:=hM.anti ht (S:=A.map Int.toNat) (by
      rw [List.nodup_iff_pairwise_ne,List.pairwise_map]
      refine hA3.imp_of_mem ?_
      intro a b ha hb hab e
      have:=hA4 a ha; have:=hA4 b hb
      omega) (fun x hx=>by
      obtain ⟨a,ha,rfl⟩:=List.mem_map.1 hx
      have:=hA4 a ha; omega) (fun x hx y hy=>by
      obtain ⟨a,ha,rfl⟩:=List.mem_map.1 hx
      obtain ⟨b,hb,rfl⟩:=List.mem_map.1 hy
      exact hA5 a ha b hb)
    rwa [List.length_map] at this
  rw [closeR_ok hp,hC,hA]
  generalize chainsTo n M n=C at *
  generalize wk (relP l) n=R at *
  have hsum:∀ i,((C.take i).map List.length).sum≤n:=fun i=>by have:=sum_len_take C i; omega
  have hall:((C.take C.length).map List.length).sum=n:=by rw [List.take_length,← List.length_flatten,hfl]
  simp only [holds_cond,Tree.holds,true_and,true_implies,decide_eq_true_eq,decide_eq_false_iff_not,Bool.not_eq_true',Bool.not_eq_false',Int.toNat_natCast,inK_i64,List.length_set,List.length_cons,List.length_nil]
  refine ⟨fun c=>absurd h0 c,fun _=>⟨fun c=>absurd h0 c,fun _=>⟨fun c=>absurd h0 c,fun _=>?_⟩⟩⟩
  refine Reach.loopI EPosetWide_ok FPosetWide_ok (fun i:Nat=>EPosetWide_s11 (pairsF n R) C A ((((C.take i).map List.length).sum:Nat):Int) C (C.length:Int) (i:Int) (n:Int) l) (fun i=>i≤C.length) (fun i=>C.length - i) 1000 (fun _=>⟨uniq_of rfl,uniq_of rfl⟩) ?_ 0 (Nat.zero_le _)
  rintro i (k1:i≤C.length) - ih
  refine holds_of_eq (EPosetWide_l11 ..) ?_
  have hs0:=hsum i
  simp only [holds_cond,Tree.holds,true_and,true_implies,decide_eq_true_eq,decide_eq_false_iff_not,Bool.not_eq_true',Bool.not_eq_false',Int.toNat_natCast,inK_i64,List.length_set,List.length_cons,List.length_nil]
  refine ⟨fun c=>⟨by omega,fun _=>?_⟩,fun c=>?_⟩
  · have hi2:i<C.length:=by omega
    have next:=ih (i+1) hi2 (by omega)
    have hs1:=hsum (i+1)
    rw [sum_take_s hi2] at next hs1
    have hc:=hlk _ (getD_mem (d:=[]) hi2)
    generalize C.getD i []=ch at *
    refine Reach.loopI EPosetWide_ok FPosetWide_ok (fun j:Nat=>EPosetWide_s14 (pairsF n R) C A (((((C.take i).map List.length).sum+j:Nat):Int)) ch C (C.length:Int) (i:Int) ch (ch.length:Int) (j:Int) (n:Int) l) (fun j=>j≤ch.length) (fun j=>ch.length - j) 1000 (fun _=>⟨uniq_of rfl,uniq_of rfl⟩) ?_ 0 (Nat.zero_le _)
    rintro j (k2:j≤ch.length) - ih2
    refine holds_of_eq (EPosetWide_l14 ..) ?_
    have next2:=fun h=>ih2 (j+1) h (by omega)
    simp only [holds_cond,Tree.holds,true_and,true_implies,decide_eq_true_eq,decide_eq_false_iff_not,Bool.not_eq_true',Bool.not_eq_false',Int.toNat_natCast,inK_i64,List.length_set,List.length_cons,List.length_nil]
    refine ⟨fun d=>?_,fun d=>⟨by omega,fun _=>?_⟩⟩
    · have hj:j<ch.length:=by omega
      have step:∀ {s:Int},s=(((C.take i).map List.length).sum+j:Nat)+1→s=((((C.take i).map List.length).sum+(j+1):Nat):Int):=fun h=>by omega
      refine ⟨by omega,fun _=>⟨fun e=>⟨by omega,fun _=>⟨by omega,fun _=>⟨⟨rfl,trivial⟩,fun _=>?_⟩⟩⟩,fun e=>⟨by omega,fun _=>⟨by omega,fun _=>next2 hj⟩⟩⟩⟩
      have e1:Int.toNat ((j:Int) - 1)=j - 1:=by omega
      have hm:memP (ch.getD (Int.toNat ((j:Int) - 1)) 0,ch.getD j 0,()) (pairsF n R)=true:=by
        rw [e1,ahead_pairs (hc.1 _ (getD_mem (by omega))) (hc.1 _ (getD_mem (by omega)))]
        have:=List.pairwise_iff_getElem.1 hc.2 (j - 1) j (by omega) hj (by omega)
        rw [List.getD_eq_getElem?_getD,List.getD_eq_getElem?_getD,List.getElem?_eq_getElem hj,List.getElem?_eq_getElem (show j - 1<ch.length by omega)]
        exact this
      show (memP (ch.getD (Int.toNat ((j:Int) - 1)) 0,ch.getD j 0,()) (pairsF n R)=false→_)∧(memP (ch.getD (Int.toNat ((j:Int) - 1)) 0,ch.getD j 0,()) (pairsF n R)=true→_)
      rw [hm]
      exact ⟨fun h=>(by cases h),fun _=>⟨by omega,fun _=>⟨by omega,fun _=>next2 hj⟩⟩⟩
    · obtain rfl:j=ch.length:=by omega
      exact next
  · obtain rfl:i=C.length:=by omega
    rw [hall]
    refine Reach.loopI EPosetWide_ok FPosetWide_ok (fun a:Nat=>EPosetWide_s22 (pairsF n R) C A (n:Int) A (A.length:Int) (a:Int) (n:Int) l) (fun a=>a≤A.length) (fun a=>A.length - a) 1000 (fun _=>⟨uniq_of rfl,uniq_of rfl⟩) ?_ 0 (Nat.zero_le _)
    rintro a (k1:a≤A.length) - ih3
    refine holds_of_eq (EPosetWide_l22 ..) ?_
    have hperm:(sortI C.flatten).Perm C.flatten:=sortBy_perm _ _
    have hsl:=hperm.length_eq
    simp only [holds_cond,Tree.holds,true_and,true_implies,decide_eq_true_eq,decide_eq_false_iff_not,Bool.not_eq_true',Bool.not_eq_false',Int.toNat_natCast,inK_i64,List.length_set,List.length_cons,List.length_nil]
    refine ⟨fun c=>⟨by omega,fun _=>?_⟩,fun c=>⟨by omega,fun _=>⟨by omega,fun _=>⟨fun _=>⟨⟨hperm.nodup_iff.2 hnd,fun _=>yesd (by omega)⟩,fun h=>absurd trivial h⟩,fun h=>absurd (by omega) h⟩⟩⟩⟩
    have ha2:a<A.length:=by omega
    have next:=ih3 (a+1) ha2 (by omega)
    refine Reach.loopI EPosetWide_ok FPosetWide_ok (fun b:Nat=>EPosetWide_s25 (pairsF n R) C A (n:Int) (A.getD a 0) A (A.length:Int) (a:Int) A (A.length:Int) (b:Int) (n:Int) l) (fun b=>b≤A.length) (fun b=>A.length - b) 1000 (fun _=>⟨uniq_of rfl,uniq_of rfl⟩) ?_ 0 (Nat.zero_le _)
    rintro b (k2:b≤A.length) - ih4
    refine holds_of_eq (EPosetWide_l25 ..) ?_
    have next4:=fun h=>ih4 (b+1) h (by omega)
    simp only [holds_cond,Tree.holds,true_and,true_implies,decide_eq_true_eq,decide_eq_false_iff_not,Bool.not_eq_true',Bool.not_eq_false',Int.toNat_natCast,inK_i64,List.length_set,List.length_cons,List.length_nil]
    refine ⟨fun d=>⟨by omega,fun _=>⟨⟨rfl,trivial⟩,fun _=>?_⟩⟩,fun d=>⟨by omega,fun _=>next⟩⟩
    have hb2:b<A.length:=by omega
    have hm:memP (A.getD a 0,A.getD b 0,()) (pairsF n R)=false:=by
      have m1:=getD_mem (d:=0) ha2
      have m2:=getD_mem (d:=0) hb2
      rw [ahead_pairs (hA4 _ m1) (hA4 _ m2)]
      exact hA5 _ m1 _ m2
    show (memP (A.getD a 0,A.getD b 0,()) (pairsF n R)=true→_)∧(memP (A.getD a 0,A.getD b 0,()) (pairsF n R)=false→_)
    rw [hm]
    exact ⟨fun h=>(by cases h),fun _=>⟨by omega,fun _=>next4 hb2⟩⟩
end Go.Proofs.Ytegigiecamjobaa
