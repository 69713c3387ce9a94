/- poset.Chains. No condition. -/
import Derived.Test.YtegigiecamjobaaPosC
import Derived.Test.YtegigiecamjobaaSortE
import Derived.Test.YtegigiecamjobaaCmpI
import Derived.Shelf.SlGeneric
namespace Go.Proofs.Ytegigiecamjobaa
open Go.Ex Go.Sort
set_option maxRecDepth 100000
def crepB:Ctr:={ ps:=[.v (.slc false .bool),.v I64],rs:=[.slc true .bool],pre:=fun x=>List.length (α:=Bool) x.1=1∧LE.le (α:=Int) 0 x.2.1∧LE.le (α:=Int) x.2.1 40,fn:=fun x=>(List.replicate (Int.toNat x.2.1) (List.getD (α:=Bool) x.1 0 false),()),out:=fun _=>() }
noncomputable def ErepB:Env:={ P:=Try.prog,tt:=tt,ctr:=[(147,cmul)],res:=[Go.ResultVar.tmp 4],rs:=[Ty.slc true Ty.bool],ps:=[PK.v (Ty.slc false Ty.bool),PK.v (Ty.int IntKind.i64)],cuts:=[(8,[(7,some (Ty.slc true Ty.bool)),(8,none)])],nt:=48 }
theorem ErepB_ok:EnvOk ErepB:=envOk tt_ok ⟨cmul_valid,trivial⟩
theorem FrepB_ok:FnOk ErepB Try.f105:=⟨rfl,rfl⟩
theorem ErepB_t (x0:List Bool) (x1:Int):exec ErepB 1000 [.code (bodyOf Try.prog 105)] (initSt crepB.ps ((x0,x1,()))) =
  cond (decide (x1<(0:Int))) (.stuck "op") (.need (IntKind.wrap IntKind.u64 (↑(List.length x0):Int)=(1:Int)∧(0:Int)≤IntKind.wrap IntKind.u64 x1∧IntKind.wrap IntKind.u64 x1≤(40:Int)) (cond (decide ((9223372036854775807:Int)<IntKind.wrap IntKind.u64 x1)) (.stuck "op") (.need ((0:Int)≤IntKind.wrap IntKind.i64 (IntKind.wrap IntKind.u64 x1)∧IntKind.wrap IntKind.i64 (IntKind.wrap IntKind.u64 x1)≤IntKind.wrap IntKind.i64 (IntKind.wrap IntKind.u64 x1)∧IntKind.wrap IntKind.i64 (IntKind.wrap IntKind.u64 x1)≤(140737488355328:Int)∧IntKind.wrap IntKind.i64 (IntKind.wrap IntKind.u64 x1)*(↑(Ty.wb Ty.bool):Int)≤(140737488355328:Int)) (.cut (loopAt (bodyOf Try.prog 105) 8).1 (loopAt (bodyOf Try.prog 105) 8).2 (St.mk [(7,AV.at_ 1000007 []),(8,AV.val (Ty.int IntKind.i64) (↑(List.length (List.take (Int.toNat ((↑(List.length (List.replicate (Int.toNat (IntKind.wrap IntKind.i64 (IntKind.wrap IntKind.u64 x1))) false)):Int) - (0:Int))) x0)):Int))] [(1000007,Ent.own (Ty.slc true Ty.bool) (List.take (Int.toNat (0:Int)) (List.replicate (Int.toNat (IntKind.wrap IntKind.i64 (IntKind.wrap IntKind.u64 x1))) false)++List.take (Int.toNat ((↑(List.length (List.replicate (Int.toNat (IntKind.wrap IntKind.i64 (IntKind.wrap IntKind.u64 x1))) false)):Int) - (0:Int))) x0++List.drop (Int.toNat (0:Int)+List.length (List.take (Int.toNat ((↑(List.length (List.replicate (Int.toNat (IntKind.wrap IntKind.i64 (IntKind.wrap IntKind.u64 x1))) false)):Int) - (0:Int))) x0)) (List.replicate (Int.toNat (IntKind.wrap IntKind.i64 (IntKind.wrap IntKind.u64 x1))) false)))]))))):=by kernel_rfl
def ErepB_s8 (v8:Int) (o1000007:List Bool):St:=St.mk [(7,AV.at_ 1000007 []),(8,AV.val (Ty.int IntKind.i64) v8)] [(1000007,Ent.own (Ty.slc true Ty.bool) o1000007)]
theorem ErepB_l8 (v8:Int) (o1000007:List Bool):exec ErepB 1000 (.code (loopAt (bodyOf Try.prog 105) 8).1::.inLoop (loopAt (bodyOf Try.prog 105) 8).1::(loopAt (bodyOf Try.prog 105) 8).2) (ErepB_s8 v8 o1000007) =
  cond (decide (v8<(↑(List.length o1000007):Int))) (.need ((0:Int)≤v8∧v8≤(↑(List.length o1000007):Int)∧(↑(List.length o1000007):Int)≤(↑(List.length o1000007):Int)) (.need ((0:Int)≤(0:Int)∧(0:Int)≤v8∧v8≤(↑(List.length o1000007):Int)) (.need (inK IntKind.i64 (v8+(↑(List.length (List.take (Int.toNat ((↑(List.length o1000007):Int) - v8)) (cut2 (0:Int) v8 o1000007))):Int))) (.cut (loopAt (bodyOf Try.prog 105) 8).1 (loopAt (bodyOf Try.prog 105) 8).2 (St.mk [(7,AV.at_ 1000007 []),(8,AV.val (Ty.int IntKind.i64) (v8+(↑(List.length (List.take (Int.toNat ((↑(List.length o1000007):Int) - v8)) (cut2 (0:Int) v8 o1000007))):Int)))] [(1000007,Ent.own (Ty.slc true Ty.bool) (List.take (Int.toNat v8) o1000007++List.take (Int.toNat ((↑(List.length o1000007):Int) - v8)) (cut2 (0:Int) v8 o1000007)++List.drop (Int.toNat v8+List.length (List.take (Int.toNat ((↑(List.length o1000007):Int) - v8)) (cut2 (0:Int) v8 o1000007))) o1000007))]))))) (.ret ((o1000007,()))):=by kernel_rfl
def flB (N c:Nat) (v:Bool):List Bool:=List.replicate c v++List.replicate (N - c) false
theorem flB_step {N c:Nat} {v:Bool} (hc:c≤N):List.take c (flB N c v)++List.take (N - c) (List.take c (flB N c v))++List.drop (c+(List.take (N - c) (List.take c (flB N c v))).length) (flB N c v)=flB N (c+min (N - c) c) v:=by
  have h1:List.take c (flB N c v)=List.replicate c v:=by rw [flB,List.take_append_of_le_length (by simp),List.take_of_length_le (by simp)]
  rw [h1,List.take_replicate,List.length_replicate,flB,flB,List.drop_append,List.drop_eq_nil_of_le (by simp),List.nil_append,List.length_replicate,List.drop_replicate,List.replicate_append_replicate]
  congr 2
  omega
theorem crepB_valid:crepB.Valid Try.prog 105:=by
  refine Ctr.valid_of ErepB_ok rfl rfl Try.func105 (c:=bodyOf Try.prog 105) rfl rfl FrepB_ok rfl ?_
  rintro ⟨(l:List Bool),(n:Int),⟨⟩⟩ ⟨(hl:l.length=1),(h0:0≤n),(h1:n≤40)⟩ -
  obtain ⟨v,rfl⟩:∃ v,l=[v]:=by
    match l,hl with
    | [v],_=>exact ⟨v,rfl⟩
  obtain ⟨N,rfl⟩:∃ N:Nat,n=(N:Int):=⟨n.toNat,by omega⟩
  refine exec_sound (n:=1000) ErepB_ok FrepB_ok ?_
  refine holds_of_eq (ErepB_t [v] (N:Int)) ?_
  have w1:IntKind.wrap .u64 (N:Int)=N:=wrap_same ⟨by show (0:Int)≤_; omega,by show (N:Int)≤18446744073709551615; omega⟩
  have w2:IntKind.wrap .i64 (N:Int)=N:=wrap_same ⟨by show (-9223372036854775808:Int)≤_; omega,by show (N:Int)≤9223372036854775807; omega⟩
  have w3:IntKind.wrap .u64 ((([v]:List Bool).length:Nat):Int)=1:=by show IntKind.wrap .u64 (1:Int)=1; decide
  have w4:Ty.wb .bool=1:=rfl
  simp only [holds_cond,Tree.holds,true_and,true_implies,decide_eq_true_eq,decide_eq_false_iff_not,Bool.not_eq_true',Bool.not_eq_false',Int.toNat_natCast,inK_i64,List.length_set,List.length_cons,List.length_nil,w1,w2,w4]
  refine ⟨fun c=>by omega,fun _=>⟨⟨w3,by omega,by omega⟩,fun _=>⟨fun c=>by omega,fun _=>⟨by omega,fun _=>?_⟩⟩⟩⟩
  have loop:∀ c:Nat,(c≤N∧(N=0∨1≤c))→Go.Ex.Reach ErepB Try.f105 (List.replicate N v,()) () (.code (loopAt (bodyOf Try.prog 105) 8).1::.inLoop (loopAt (bodyOf Try.prog 105) 8).1::(loopAt (bodyOf Try.prog 105) 8).2) (ErepB_s8 (c:Int) (flB N c v)):=by
    refine Reach.loopI ErepB_ok FrepB_ok (fun c:Nat=>ErepB_s8 (c:Int) (flB N c v)) (fun c=>c≤N∧(N=0∨1≤c)) (fun c=>N - c) 1000 (fun _=>⟨uniq_of rfl,uniq_of rfl⟩) ?_
    rintro c ⟨k1,k2⟩ - ih
    have hlen:(flB N c v).length=N:=by rw [flB,List.length_append,List.length_replicate,List.length_replicate]; omega
    have h1:List.take c (flB N c v)=List.replicate c v:=by rw [flB,List.take_append_of_le_length (by simp),List.take_of_length_le (by simp)]
    refine holds_of_eq (ErepB_l8 ..) ?_
    have e1:cut2 0 (c:Int) (flB N c v)=List.take c (flB N c v):=by rw [cut2,Int.toNat_zero,List.drop_zero,show ((c:Int) - 0).toNat=c by omega]
    have e2:(((flB N c v).length:Int) - (c:Int)).toNat=N - c:=by omega
    have e3:(List.take (N - c) (List.take c (flB N c v))).length=min (N - c) c:=by rw [h1,List.length_take,List.length_replicate]
    have e4:=flB_step (v:=v) k1
    rw [e3] at e4
    simp only [holds_cond,Tree.holds,true_and,true_implies,decide_eq_true_eq,decide_eq_false_iff_not,Bool.not_eq_true',Bool.not_eq_false',Int.toNat_natCast,inK_i64,List.length_set,List.length_cons,List.length_nil,e1,e2,e3,e4]
    rw [hlen]
    refine ⟨fun a=>⟨by omega,fun _=>⟨by omega,fun _=>⟨by omega,fun _=>ih (c+min (N - c) c) ⟨by omega,by omega⟩ (by omega)⟩⟩⟩,fun a=>?_⟩
    show ((flB N c v,()):List Bool×Unit)=(List.replicate N v,())
    rw [show c=N by omega,flB,Nat.sub_self,List.replicate_zero,List.append_nil]
  have hs:=loop (min N 1) ⟨by omega,by omega⟩
  have e5:List.take ((((List.replicate N false).length:Nat):Int) - 0).toNat [v]=List.replicate (min N 1) v:=by
    rw [List.length_replicate,show ((N:Int) - 0).toNat=N by omega]
    cases N with
    | zero=>rfl
    | succ N=>rw [show min (N+1) 1=1 by omega]; simp
  have e6:List.take 0 (List.replicate N false)++List.replicate (min N 1) v++List.drop (0+(List.replicate (min N 1) v).length) (List.replicate N false)=flB N (min N 1) v:=by
    rw [List.take_zero,List.nil_append,List.length_replicate,List.drop_replicate,Nat.zero_add]; rfl
  have hs2:=hs
  rw [← e6] at hs2
  rw [e5]
  rw [List.length_replicate] at hs2 ⊢
  exact hs2

def cmpL (x y:List Int):Int:=cmpI (x.getD 0 0) (y.getD 0 0)
def cch1:Ctr:={ ps:=[.v (.slc false I64),.v (.slc false I64)],rs:=[I64],pre:=fun x=>1≤List.length (α:=Int) x.1∧1≤List.length (α:=Int) x.2.1,fn:=fun x=>(cmpL x.1 x.2.1,()),out:=fun _=>() }
noncomputable def Ech1:Env:={ P:=Try.prog,tt:=tt,ctr:=[(108,ccmpI)],res:=[Go.ResultVar.tmp 4],rs:=[Ty.int IntKind.i64],ps:=[PK.v (Ty.slc false (Ty.int IntKind.i64)),PK.v (Ty.slc false (Ty.int IntKind.i64))],cuts:=[],nt:=12 }
theorem Ech1_ok:EnvOk Ech1:=envOk tt_ok ⟨ccmpI_valid,trivial⟩
theorem Fch1_ok:FnOk Ech1 Try.f107:=⟨rfl,rfl⟩
theorem Ech1_t (x0:List Int) (x1:List Int):exec Ech1 1000 [.code (bodyOf Try.prog 107)] (initSt cch1.ps ((x0,x1,()))) =
  .need ((0:Int)≤(0:Int)∧(0:Int)<(↑(List.length x0):Int)) (.need ((0:Int)≤(0:Int)∧(0:Int)<(↑(List.length x1):Int)) (.need (True) (.ret ((cmpI (List.getD x0 (Int.toNat (0:Int)) (0:Int)) (List.getD x1 (Int.toNat (0:Int)) (0:Int)),()))))):=by kernel_rfl
theorem cch1_valid:cch1.Valid Try.prog 107:=by
  refine Ctr.valid_of Ech1_ok rfl rfl Try.func107 (c:=bodyOf Try.prog 107) rfl rfl Fch1_ok rfl ?_
  rintro ⟨(x:List Int),(y:List Int),⟨⟩⟩ ⟨(h1:1≤x.length),(h2:1≤y.length)⟩ -
  refine exec_sound (n:=1000) Ech1_ok Fch1_ok ?_
  refine holds_of_eq (Ech1_t x y) ?_
  simp only [holds_cond,Tree.holds,true_and,true_implies,decide_eq_true_eq,decide_eq_false_iff_not,Bool.not_eq_true',Bool.not_eq_false',Int.toNat_natCast,inK_i64,List.length_set,List.length_cons,List.length_nil]
  exact ⟨by omega,fun _=>⟨by omega,fun _=>rfl⟩⟩
theorem cmpL_lt {x y:List Int}:cmpL x y<0↔x.getD 0 0<y.getD 0 0:=by
  unfold cmpL cmpI
  split
  · omega
  · split<;>omega
theorem swoL:SWO (ltD cmpL) :=
  ⟨fun x=>by rw [ltD,decide_eq_false_iff_not,cmpL_lt]; omega,fun x y z=>by simp only [ltD,decide_eq_true_eq,cmpL_lt]; omega,fun x y z=>by simp only [ltD,decide_eq_false_iff_not,cmpL_lt]; omega⟩
def laySortL_ren:Go.Shelf.Ren:=⟨fun|6=>106|14=>148|15=>100|20=>170|21=>171|22=>172|23=>173|24=>174|25=>175|26=>176|27=>177|28=>143|29=>144|46=>184|47=>164|48=>165|49=>185|50=>186|57=>188|n=>n,fun|0=>0|3=>3|4=>4|5=>5|9=>9|22=>24|24=>22|25=>195|39=>183|45=>218|46=>219|50=>164|53=>225|55=>169|66=>239|70=>243|76=>257|77=>258|n=>n,fun|n=>n⟩
theorem laySortL:Go.Proofs.SlLaysF.n6 Try.prog laySortL_ren:={
  mixed:=by kernel_rfl,
  f6:=⟨Try.f106.name,by decide,Try.func106.trans (congrArg some (by kernel_rfl))⟩,
  f14:=⟨Try.f148.name,by decide,Try.func148.trans (congrArg some (by kernel_rfl))⟩,
  f15:=Try.func100.trans (congrArg some (by kernel_rfl)),
  f20:=⟨Try.f170.name,by decide,Try.func170.trans (congrArg some (by kernel_rfl))⟩,
  f21:=⟨Try.f171.name,by decide,Try.func171.trans (congrArg some (by kernel_rfl))⟩,
  f22:=⟨Try.f172.name,by decide,Try.func172.trans (congrArg some (by kernel_rfl))⟩,
  f23:=⟨Try.f173.name,by decide,Try.func173.trans (congrArg some (by kernel_rfl))⟩,
  f24:=⟨Try.f174.name,by decide,Try.func174.trans (congrArg some (by kernel_rfl))⟩,
  f25:=⟨Try.f175.name,by decide,Try.func175.trans (congrArg some (by kernel_rfl))⟩,
  f26:=⟨Try.f176.name,by decide,Try.func176.trans (congrArg some (by kernel_rfl))⟩,
  f27:=⟨Try.f177.name,by decide,Try.func177.trans (congrArg some (by kernel_rfl))⟩,
  f28:=Try.func143.trans (congrArg some (by kernel_rfl)),
  f29:=Try.func144.trans (congrArg some (by kernel_rfl)),
  f46:=⟨Try.f184.name,by decide,Try.func184.trans (congrArg some (by kernel_rfl))⟩,
  f47:=Try.func164.trans (congrArg some (by kernel_rfl)),
  f48:=Try.func165.trans (congrArg some (by kernel_rfl)),
  f49:=⟨Try.f185.name,by decide,Try.func185.trans (congrArg some (by kernel_rfl))⟩,
  f50:=⟨Try.f186.name,by decide,Try.func186.trans (congrArg some (by kernel_rfl))⟩,
  f57:=⟨Try.f188.name,by decide,Try.func188.trans (congrArg some (by kernel_rfl))⟩,
  t0:=Try.underlying0,
  a0:=Try.isAgg0,
  z0:=Try.sizeOf0,
  v0:=Try.zeroValue0,
  t3:=Try.underlying3,
  a3:=Try.isAgg3,
  z3:=Try.sizeOf3,
  v3:=Try.zeroValue3,
  t4:=Try.underlying4,
  a4:=Try.isAgg4,
  z4:=Try.sizeOf4,
  v4:=Try.zeroValue4,
  t5:=Try.underlying5,
  a5:=Try.isAgg5,
  z5:=Try.sizeOf5,
  v5:=Try.zeroValue5,
  t9:=Try.underlying9,
  a9:=Try.isAgg9,
  z9:=Try.sizeOf9,
  v9:=Try.zeroValue9,
  t22:=Try.underlying24,
  a22:=Try.isAgg24,
  z22:=Try.sizeOf24,
  v22:=Try.zeroValue24,
  a24:=Try.isAgg22,
  z24:=Try.sizeOf22,
  t25:=Try.underlying195,
  a25:=Try.isAgg195,
  z25:=Try.sizeOf195,
  v25:=Try.zeroValue195,
  t39:=Try.underlying183,
  a39:=Try.isAgg183,
  z39:=Try.sizeOf183,
  v39:=Try.zeroValue183,
  t45:=Try.underlying218,
  a45:=Try.isAgg218,
  z45:=Try.sizeOf218,
  v45:=Try.zeroValue218,
  t46:=Try.underlying219,
  a46:=Try.isAgg219,
  z46:=Try.sizeOf219,
  v46:=Try.zeroValue219,
  t50:=Try.underlying164,
  a50:=Try.isAgg164,
  z50:=Try.sizeOf164,
  v50:=Try.zeroValue164,
  t53:=Try.underlying225,
  a53:=Try.isAgg225,
  z53:=Try.sizeOf225,
  v53:=Try.zeroValue225,
  t55:=Try.underlying169,
  a55:=Try.isAgg169,
  z55:=Try.sizeOf169,
  v55:=Try.zeroValue169,
  t66:=Try.underlying239,
  a66:=Try.isAgg239,
  z66:=Try.sizeOf239,
  v66:=Try.zeroValue239,
  t70:=Try.underlying243,
  a70:=Try.isAgg243,
  z70:=Try.sizeOf243,
  v70:=Try.zeroValue243,
  t76:=Try.underlying257,
  a76:=Try.isAgg257,
  z76:=Try.sizeOf257,
  v76:=Try.zeroValue257,
  t77:=Try.underlying258,
  a77:=Try.isAgg258,
  z77:=Try.sizeOf258,
  v77:=Try.zeroValue258 }
def csortL:Ctr:=sortC (.slc true I64) 107 cmpL (fun x=>1≤List.length (α:=Int) x)
theorem csortL_valid:csortL.Valid Try.prog 106 :=
  sortO_valid laySortL rfl rfl (cmpOwn_of cch1_valid _ (fun x=>cmpL x.1 x.2.1) _ rfl (fun x y hx hy=>⟨hx,hy⟩) (fun _ _=>rfl) rfl rfl) swoL
def chainsR (n:Int) (l:List PairD):List (List Int)×Int×Unit:=if pcheck n l≠0 then ([],pcheck n l,()) else (chainsTo n.toNat (mostR n n (pairsF n.toNat (wk (relP l) n.toNat))).1 n.toNat,0,())
def cchains:Ctr:={ ps:=[.v Pos],rs:=[.slc true (.slc true I64),I64],pre:=fun _=>True,fn:=fun x=>chainsR x.1.1 x.1.2.1,out:=fun _=>() }
noncomputable def Echains:Env:={ P:=Try.prog,tt:=tt,ctr:=[(102,cpcheckR),(103,callP),(31,cmostR),(104,crep),(105,crepB),(106,csortL)],res:=[Go.ResultVar.tmp 2,Go.ResultVar.tmp 3],rs:=[Ty.slc true Is,Ty.int IntKind.i64],ps:=[PK.v (Ty.pair (Ty.int IntKind.i64) (Ty.pair (Ty.slc false PairT) Ty.unit))],cuts:=[(8,[(8,some Is),(9,some (Ty.slc true Ty.bool)),(44,some (Ty.slc true PairT)),(45,none),(46,none)]),(15,[(8,some Is),(12,some (Ty.slc true Is)),(61,some (Ty.slc true Ty.bool)),(62,none),(63,none)]),(19,[(8,some Is),(12,some (Ty.slc true Is)),(13,none),(15,some Is),(61,some (Ty.slc true Ty.bool)),(62,none),(63,none)])],nt:=88 }
theorem Echains_ok:EnvOk Echains:=envOk tt_ok ⟨cpcheckR_valid,callP_valid,cmostR_valid,crep_valid,crepB_valid,csortL_valid,trivial⟩
theorem Fchains_ok:FnOk Echains Try.f58:=⟨rfl,rfl⟩
theorem Echains_t (x0_1:Int) (x0_2_1:List (Int×Int×Unit)):exec Echains 1000 [.code (bodyOf Try.prog 58)] (initSt cchains.ps (((x0_1,x0_2_1,()),()))) =
  .need (True) (cond (decide (Prod.fst (Prod.snd (pcheckR x0_1 x0_2_1))≠(0:Int))) (.ret (([],Prod.fst (Prod.snd (pcheckR x0_1 x0_2_1)),()))) (.need ((0:Int)≤x0_1∧x0_1≤(20:Int)) (.need (True) (.need (List.length (List.set [(0:Int)] (Int.toNat (↑0:Int)) (-1:Int))=1∧(0:Int)≤x0_1∧x0_1≤(40:Int)) (.need (List.length (List.set [false] (Int.toNat (↑0:Int)) true)=1∧(0:Int)≤x0_1∧x0_1≤(40:Int)) (.cut (loopAt (bodyOf Try.prog 58) 8).1 (loopAt (bodyOf Try.prog 58) 8).2 (St.mk [(8,AV.at_ 1000008 []),(9,AV.at_ 1000009 []),(44,AV.at_ 1000044 []),(45,AV.val (Ty.int IntKind.i64) (↑(List.length (Prod.fst (mostR x0_1 x0_1 (pairsF (Int.toNat x0_1) (gB (Prod.fst (pcheckR x0_1 x0_2_1))))))):Int)),(46,AV.val (Ty.int IntKind.i64) (0:Int))] [(1000008,Ent.own Is (List.replicate (Int.toNat x0_1) (List.getD (List.set [(0:Int)] (Int.toNat (↑0:Int)) (-1:Int)) 0 (0:Int)))),(1000009,Ent.own (Ty.slc true Ty.bool) (List.replicate (Int.toNat x0_1) (List.getD (List.set [false] (Int.toNat (↑0:Int)) true) 0 false))),(1000044,Ent.own (Ty.slc true PairT) (Prod.fst (mostR x0_1 x0_1 (pairsF (Int.toNat x0_1) (gB (Prod.fst (pcheckR x0_1 x0_2_1)))))))]))))))):=by kernel_rfl
def Echains_s8 (v45:Int) (v46:Int) (o1000008:List Int) (o1000009:List Bool) (o1000044:List (Int×Int×Unit)):St:=St.mk [(8,AV.at_ 1000008 []),(9,AV.at_ 1000009 []),(44,AV.at_ 1000044 []),(45,AV.val (Ty.int IntKind.i64) v45),(46,AV.val (Ty.int IntKind.i64) v46)] [(1000008,Ent.own Is o1000008),(1000009,Ent.own (Ty.slc true Ty.bool) o1000009),(1000044,Ent.own (Ty.slc true PairT) o1000044)]
theorem Echains_l8 (v45:Int) (v46:Int) (o1000008:List Int) (o1000009:List Bool) (o1000044:List (Int×Int×Unit)):exec Echains 1000 (.code (loopAt (bodyOf Try.prog 58) 8).1::.inLoop (loopAt (bodyOf Try.prog 58) 8).1::(loopAt (bodyOf Try.prog 58) 8).2) (Echains_s8 v45 v46 o1000008 o1000009 o1000044) =
  cond (decide (v46<v45)) (.need ((0:Int)≤v46∧v46<(↑(List.length o1000044):Int)) (.need ((0:Int)≤Prod.fst (List.getD o1000044 (Int.toNat v46) ((0:Int),(0:Int),()))∧Prod.fst (List.getD o1000044 (Int.toNat v46) ((0:Int),(0:Int),()))<(↑(List.length o1000008):Int)) (.need ((0:Int)≤Prod.fst (Prod.snd (List.getD o1000044 (Int.toNat v46) ((0:Int),(0:Int),())))∧Prod.fst (Prod.snd (List.getD o1000044 (Int.toNat v46) ((0:Int),(0:Int),())))<(↑(List.length o1000009):Int)) (.need (inK IntKind.i64 (v46+(1:Int))) (.cut (loopAt (bodyOf Try.prog 58) 8).1 (loopAt (bodyOf Try.prog 58) 8).2 (St.mk [(8,AV.at_ 1000008 []),(9,AV.at_ 1000009 []),(44,AV.at_ 1000044 []),(45,AV.val (Ty.int IntKind.i64) v45),(46,AV.val (Ty.int IntKind.i64) (v46+(1:Int)))] [(1000008,Ent.own Is (List.set o1000008 (Int.toNat (Prod.fst (List.getD o1000044 (Int.toNat v46) ((0:Int),(0:Int),())))) (Prod.fst (Prod.snd (List.getD o1000044 (Int.toNat v46) ((0:Int),(0:Int),())))))),(1000009,Ent.own (Ty.slc true Ty.bool) (List.set o1000009 (Int.toNat (Prod.fst (Prod.snd (List.getD o1000044 (Int.toNat v46) ((0:Int),(0:Int),()))))) false)),(1000044,Ent.own (Ty.slc true PairT) o1000044)])))))) (.cut (loopAt (bodyOf Try.prog 58) 15).1 (loopAt (bodyOf Try.prog 58) 15).2 (St.mk [(8,AV.at_ 1000008 []),(12,AV.at_ 1000012 []),(61,AV.at_ 1000061 []),(62,AV.val (Ty.int IntKind.i64) (↑(List.length o1000009):Int)),(63,AV.val (Ty.int IntKind.i64) (0:Int))] [(1000008,Ent.own Is o1000008),(1000012,Ent.own (Ty.slc true Is) []),(1000061,Ent.own (Ty.slc true Ty.bool) o1000009)])):=by kernel_rfl
def Echains_s15 (v62:Int) (v63:Int) (o1000008:List Int) (o1000012:List (List Int)) (o1000061:List Bool):St:=St.mk [(8,AV.at_ 1000008 []),(12,AV.at_ 1000012 []),(61,AV.at_ 1000061 []),(62,AV.val (Ty.int IntKind.i64) v62),(63,AV.val (Ty.int IntKind.i64) v63)] [(1000008,Ent.own Is o1000008),(1000012,Ent.own (Ty.slc true Is) o1000012),(1000061,Ent.own (Ty.slc true Ty.bool) o1000061)]
theorem Echains_l15 (v62:Int) (v63:Int) (o1000008:List Int) (o1000012:List (List Int)) (o1000061:List Bool):exec Echains 1000 (.code (loopAt (bodyOf Try.prog 58) 15).1::.inLoop (loopAt (bodyOf Try.prog 58) 15).1::(loopAt (bodyOf Try.prog 58) 15).2) (Echains_s15 v62 v63 o1000008 o1000012 o1000061) =
  cond (decide (v63<v62)) (.need ((0:Int)≤v63∧v63<(↑(List.length o1000061):Int)) (cond (!List.getD o1000061 (Int.toNat v63) false) (.need (inK IntKind.i64 (v63+(1:Int))) (.cut (loopAt (bodyOf Try.prog 58) 15).1 (loopAt (bodyOf Try.prog 58) 15).2 (St.mk [(8,AV.at_ 1000008 []),(12,AV.at_ 1000012 []),(61,AV.at_ 1000061 []),(62,AV.val (Ty.int IntKind.i64) v62),(63,AV.val (Ty.int IntKind.i64) (v63+(1:Int)))] [(1000008,Ent.own Is o1000008),(1000012,Ent.own (Ty.slc true Is) o1000012),(1000061,Ent.own (Ty.slc true Ty.bool) o1000061)]))) (.cut (loopAt (bodyOf Try.prog 58) 19).1 (loopAt (bodyOf Try.prog 58) 19).2 (St.mk [(8,AV.at_ 1000008 []),(12,AV.at_ 1000012 []),(13,AV.val (Ty.int IntKind.i64) v63),(15,AV.at_ 1000015 []),(61,AV.at_ 1000061 []),(62,AV.val (Ty.int IntKind.i64) v62),(63,AV.val (Ty.int IntKind.i64) v63)] [(1000008,Ent.own Is o1000008),(1000012,Ent.own (Ty.slc true Is) o1000012),(1000015,Ent.own Is []),(1000061,Ent.own (Ty.slc true Ty.bool) o1000061)])))) (.need (List.length o1000012≤1048576∧(∀ (a:Ty.den (Ty.slc true I64)),a∈o1000012→1≤List.length a)∧∀ (a:Ty.den (Ty.slc true I64)),a∈o1000012→∀ (b:Ty.den (Ty.slc true I64)),b∈o1000012→ltD cmpL a b=false→ltD cmpL b a=false→a=b) (.ret ((sortBy (ltD cmpL) o1000012,(0:Int),())))):=by kernel_rfl
def Echains_s19 (v13:Int) (v62:Int) (v63:Int) (o1000008:List Int) (o1000012:List (List Int)) (o1000015:List Int) (o1000061:List Bool):St:=St.mk [(8,AV.at_ 1000008 []),(12,AV.at_ 1000012 []),(13,AV.val (Ty.int IntKind.i64) v13),(15,AV.at_ 1000015 []),(61,AV.at_ 1000061 []),(62,AV.val (Ty.int IntKind.i64) v62),(63,AV.val (Ty.int IntKind.i64) v63)] [(1000008,Ent.own Is o1000008),(1000012,Ent.own (Ty.slc true Is) o1000012),(1000015,Ent.own Is o1000015),(1000061,Ent.own (Ty.slc true Ty.bool) o1000061)]
theorem Echains_l19 (v13:Int) (v62:Int) (v63:Int) (o1000008:List Int) (o1000012:List (List Int)) (o1000015:List Int) (o1000061:List Bool):exec Echains 1000 (.code (loopAt (bodyOf Try.prog 58) 19).1::.inLoop (loopAt (bodyOf Try.prog 58) 19).1::(loopAt (bodyOf Try.prog 58) 19).2) (Echains_s19 v13 v62 v63 o1000008 o1000012 o1000015 o1000061) =
  cond (decide ((0:Int)≤v13)) (.need (List.length o1000015+List.length (List.set [(0:Int)] (Int.toNat (↑0:Int)) v13)≤140737488355328∧(List.length o1000015+List.length (List.set [(0:Int)] (Int.toNat (↑0:Int)) v13))*Ty.wb (Ty.int IntKind.i64)≤140737488355328) (.need ((0:Int)≤v13∧v13<(↑(List.length o1000008):Int)) (.cut (loopAt (bodyOf Try.prog 58) 19).1 (loopAt (bodyOf Try.prog 58) 19).2 (St.mk [(8,AV.at_ 1000008 []),(12,AV.at_ 1000012 []),(13,AV.val (Ty.int IntKind.i64) (List.getD o1000008 (Int.toNat v13) (0:Int))),(15,AV.at_ 1000015 []),(61,AV.at_ 1000061 []),(62,AV.val (Ty.int IntKind.i64) v62),(63,AV.val (Ty.int IntKind.i64) v63)] [(1000008,Ent.own Is o1000008),(1000012,Ent.own (Ty.slc true Is) o1000012),(1000015,Ent.own Is (o1000015++List.set [(0:Int)] (Int.toNat (↑0:Int)) v13)),(1000061,Ent.own (Ty.slc true Ty.bool) o1000061)])))) (.need (List.length o1000012+List.length (List.set [[]] (Int.toNat (↑0:Int)) o1000015)≤140737488355328∧(List.length o1000012+List.length (List.set [[]] (Int.toNat (↑0:Int)) o1000015))*Ty.wb Is≤140737488355328) (.need (inK IntKind.i64 (v63+(1:Int))) (.cut (loopAt (bodyOf Try.prog 58) 15).1 (loopAt (bodyOf Try.prog 58) 15).2 (St.mk [(8,AV.at_ 1000008 []),(12,AV.at_ 1000012 []),(61,AV.at_ 1000061 []),(62,AV.val (Ty.int IntKind.i64) v62),(63,AV.val (Ty.int IntKind.i64) (v63+(1:Int)))] [(1000008,Ent.own Is o1000008),(1000012,Ent.own (Ty.slc true Is) (o1000012++List.set [[]] (Int.toNat (↑0:Int)) o1000015)),(1000061,Ent.own (Ty.slc true Ty.bool) o1000061)])))):=by kernel_rfl
theorem pairs_mcheck {n:Nat} (hn:n≤20) {R:Nat→Nat→Bool}:mcheck (n:Int) (n:Int) (pairsF n R)=0:=by
  have hl:=@pairsF_len n R
  have:n*n≤20*20:=Nat.mul_le_mul hn hn
  rw [mcheck,if_neg (by rw [inF_iff.2 ⟨by omega,by omega⟩]; decide),if_neg (by omega),if_neg]
  intro h9
  obtain ⟨q,hq,h8⟩:=List.any_eq_true.1 h9
  obtain ⟨a,b,ha,hb,_,rfl⟩:=pairsF_mem.1 hq
  rw [badP,inF_iff.2 ⟨by show (0:Int)≤(a:Int); omega,by show (a:Int)≤(n:Int) - 1; omega⟩,inF_iff.2 ⟨by show (0:Int)≤(b:Int); omega,by show (b:Int)≤(n:Int) - 1; omega⟩] at h8
  cases h8
theorem most_code {m n:Int} {l:List PairD} (h:mcheck m n l=0):(mostR m n l).2.1=0:=by
  rw [mostR,if_neg (by rw [h]; simp)]
theorem pairs_most {n:Nat} (hn:n≤20) (R:Nat→Nat→Bool):OrdM R n (mostR n n (pairsF n R)).1∧∀ P,Match (pairsF n R) P→P.length≤(mostR n n (pairsF n R)).1.length:=by
  obtain ⟨_,_,hM,hopt⟩:=mostR_match (most_code (pairs_mcheck hn (R:=R)))
  refine ⟨⟨fun q hq=>?_,hM.one,hM.two⟩,hopt⟩
  obtain ⟨a,b,ha,hb,hr,rfl⟩:=pairsF_mem.1 (hM.sub q hq)
  refine ⟨⟨by show (0:Int)≤(a:Int); omega,by show (a:Int)<(n:Int); omega⟩,⟨by show (0:Int)≤(b:Int); omega,by show (b:Int)<(n:Int); omega⟩,?_⟩
  show R (Int.toNat (a:Int)) (Int.toNat (b:Int))=true
  rw [Int.toNat_natCast,Int.toNat_natCast]; exact hr
theorem wb_sl:Ty.wb (.slc true (.int .i64))=24:=rfl
theorem take_s1 {α:Type} {l:List α} {i:Nat} (h:i<l.length) (d:α):l.take (i+1)=l.take i++[l.getD i d]:=by
  rw [List.take_add_one,List.getElem?_eq_getElem h,List.getD_eq_getElem?_getD,List.getElem?_eq_getElem h]; rfl
theorem chains_sorted {n:Nat} {M:List PairD}:sortBy (ltD cmpL) (chainsTo n M n)=chainsTo n M n:=by
  refine (sortBy_eq swoL (List.Perm.refl _) ?_ ?_).symm
  · rw [chainsTo,List.pairwise_map]
    refine (List.pairwise_lt_range.filter _).imp ?_
    intro a b hab
    rw [ltD,decide_eq_false_iff_not,cmpL_lt,headD_chain,headD_chain]; omega
  · intro x hx y hy h1 h2
    obtain ⟨a,_,rfl⟩:=List.mem_map.1 hx
    obtain ⟨b,_,rfl⟩:=List.mem_map.1 hy
    rw [ltD,decide_eq_false_iff_not,cmpL_lt,headD_chain,headD_chain] at h1 h2
    rw [show a=b by omega]
theorem chains_tie {n:Nat} {M:List PairD}:∀ x∈chainsTo n M n,∀ y∈chainsTo n M n,ltD cmpL x y=false→ltD cmpL y x=false→x=y:=by
  intro x hx y hy h1 h2
  obtain ⟨a,_,rfl⟩:=List.mem_map.1 hx
  obtain ⟨b,_,rfl⟩:=List.mem_map.1 hy
  rw [ltD,decide_eq_false_iff_not,cmpL_lt,headD_chain,headD_chain] at h1 h2
  rw [show a=b by omega]
theorem chains_pos {n:Nat} {M:List PairD}:∀ x∈chainsTo n M n,1≤x.length:=by
  intro x hx
  obtain ⟨a,_,rfl⟩:=List.mem_map.1 hx
  exact List.length_pos_iff.2 chain_ne
theorem chainsTo_len {n:Nat} {M:List PairD} (i:Nat):(chainsTo n M i).length≤i:=by
  rw [chainsTo,List.length_map]
  exact Nat.le_trans (List.length_filter_le _ _) (by rw [List.length_range]; exact Nat.le_refl _)
theorem cchains_valid:cchains.Valid Try.prog 58:=by
  refine Ctr.valid_of Echains_ok rfl rfl Try.func58 (c:=bodyOf Try.prog 58) rfl rfl Fchains_ok rfl ?_
  rintro ⟨⟨(n0:Int),(l:List PairD),⟨⟩⟩,⟨⟩⟩ - -
  refine exec_sound (n:=1000) Echains_ok Fchains_ok ?_
  refine holds_of_eq (Echains_t n0 l) ?_
  by_cases h0:pcheck n0 l≠0
  · rw [pcheckR_no h0]
    simp only [holds_cond,Tree.holds,true_and,true_implies,decide_eq_true_eq,decide_eq_false_iff_not,Bool.not_eq_true',Bool.not_eq_false',Int.toNat_natCast,inK_i64,List.length_set,List.length_cons,List.length_nil]
    refine ⟨fun _=>?_,fun c=>absurd h0 c⟩
    show (([],pcheck n0 l,()):List (List Int)×Int×Unit)=chainsR n0 l
    rw [chainsR,if_pos h0]
  obtain ⟨n,rfl,hp⟩:=pcheck_ok (Decidable.not_not.1 h0)
  have hn:=hp.n20
  have hfin:chainsR (n:Int) l=(chainsTo n (mostR n n (pairsF n (wk (relP l) n))).1 n,0,()):=by rw [chainsR,if_neg h0,Int.toNat_natCast]
  have ht:=fun x y z=>pos_trans hp (a:=x) (b:=y) (c:=z)
  have hi:=fun x=>pos_irr hp x
  rw [pcheckR_ok hp]
  simp only [holds_cond,Tree.holds,true_and,true_implies,decide_eq_true_eq,decide_eq_false_iff_not,Bool.not_eq_true',Bool.not_eq_false',Int.toNat_natCast,inK_i64,List.length_set,List.length_cons,List.length_nil]
  rw [pairsF_congr (fun a b ha hb=>gB_mkO (f:=wk (relP l) n) (by omega) (by omega))]
  obtain ⟨hM,-⟩:=pairs_most hn (wk (relP l) n)
  generalize wk (relP l) n=R at *
  generalize (mostR (n:Int) (n:Int) (pairsF n R)).1=M at *
  refine ⟨fun c=>absurd rfl c,fun _=>⟨by omega,fun _=>⟨⟨by omega,by omega⟩,fun _=>⟨⟨by omega,by omega⟩,fun _=>?_⟩⟩⟩⟩
  refine Reach.loopI Echains_ok Fchains_ok (fun i:Nat=>Echains_s8 (M.length:Int) (i:Int) (nextF n (M.take i)) (firstF n (M.take i)) M) (fun i=>i≤M.length) (fun i=>M.length - i) 1000 (fun _=>⟨uniq_of rfl,uniq_of rfl⟩) ?_ 0 (Nat.zero_le _)
  rintro i k1 - ih
  have k1:i≤M.length:=k1
  have hMl:M.length≤n:=by have:=hM.count; omega
  refine holds_of_eq (Echains_l8 ..) ?_
  have e1:(nextF n (M.take i)).length=n:=nextF_len
  have e2:(firstF n (M.take i)).length=n:=firstF_len
  simp only [holds_cond,Tree.holds,true_and,true_implies,decide_eq_true_eq,decide_eq_false_iff_not,Bool.not_eq_true',Bool.not_eq_false',Int.toNat_natCast,inK_i64,List.length_set,List.length_cons,List.length_nil]
  rw [e1,e2]
  refine ⟨fun c=>?_,fun c=>?_⟩
  · have hi2:i<M.length:=by omega
    obtain ⟨r1,r2,-⟩:=hM.rng _ (getD_mem (d:=(0,0,())) hi2)
    have next:=ih (i+1) hi2 (by omega)
    rw [take_s1 hi2 (0,0,()),nextF,firstF,List.foldl_append,List.foldl_append] at next
    exact ⟨by omega,fun _=>⟨r1,fun _=>⟨r2,fun _=>⟨by omega,fun _=>next⟩⟩⟩⟩
  · rw [List.take_of_length_le (by omega)]
    have f1:(nextF n M).length=n:=nextF_len
    have f2:(firstF n M).length=n:=firstF_len
    suffices hs:Go.Ex.Reach Echains Try.f58 (chainsTo n M n,0,()) () (.code (loopAt (bodyOf Try.prog 58) 15).1::.inLoop (loopAt (bodyOf Try.prog 58) 15).1::(loopAt (bodyOf Try.prog 58) 15).2) (Echains_s15 (n:Int) ((0:Nat):Int) (nextF n M) (chainsTo n M 0) (firstF n M)) by
      show Go.Ex.Reach Echains Try.f58 (chainsR (n:Int) l) () (.code (loopAt (bodyOf Try.prog 58) 15).1::.inLoop (loopAt (bodyOf Try.prog 58) 15).1::(loopAt (bodyOf Try.prog 58) 15).2) (Echains_s15 (n:Int) ((0:Nat):Int) (nextF n M) (chainsTo n M 0) (firstF n M))
      rw [hfin]; exact hs
    refine Reach.loopI Echains_ok Fchains_ok (fun i:Nat=>Echains_s15 (n:Int) (i:Int) (nextF n M) (chainsTo n M i) (firstF n M)) (fun i=>i≤n) (fun i=>n - i) 1000 (fun _=>⟨uniq_of rfl,uniq_of rfl⟩) ?_ 0 (Nat.zero_le _)
    rintro i k1 - ih
    have k1:i≤n:=k1
    refine holds_of_eq (Echains_l15 ..) ?_
    simp only [holds_cond,Tree.holds,true_and,true_implies,decide_eq_true_eq,decide_eq_false_iff_not,Bool.not_eq_true',Bool.not_eq_false',Int.toNat_natCast,inK_i64,List.length_set,List.length_cons,List.length_nil]
    rw [f2]
    refine ⟨fun c2=>⟨by omega,fun _=>?_⟩,fun c2=>?_⟩
    · have next:=ih (i+1) (by show i+1≤n; omega) (by omega)
      rw [chainsTo_succ] at next
      refine ⟨fun d=>⟨by omega,fun _=>?_⟩,fun d=>?_⟩
      · rw [if_neg (by rw [d]; simp)] at next
        exact next
      · rw [if_pos d] at next
        refine Reach.loopI Echains_ok Fchains_ok (fun s:Int×List Int=>Echains_s19 s.1 (n:Int) (i:Int) (nextF n M) (chainsTo n M i) s.2 (firstF n M))
          (fun s=>chainGo (nextF n M) (n+1) (i:Int)=s.2++chainGo (nextF n M) (n+1 - s.2.length) s.1∧s.2.length≤n∧(s.1=-1∨∃ x:Nat,x<n∧s.1=x∧s.2.length≤(before R n x).length))
          (fun s=>n+1 - s.2.length) 1000 (fun _=>⟨uniq_of rfl,uniq_of rfl⟩) ?_ ((i:Int),[]) ⟨by simp,by simp,.inr ⟨i,by omega,rfl,by simp⟩⟩
        rintro ⟨a,ch⟩ ⟨k2,k3,k4⟩ - ih2
        have k2:chainGo (nextF n M) (n+1) (i:Int)=ch++chainGo (nextF n M) (n+1 - ch.length) a:=k2
        have k3:ch.length≤n:=k3
        have k4:a=-1∨∃ x:Nat,x<n∧a=x∧ch.length≤(before R n x).length:=k4
        refine holds_of_eq (Echains_l19 ..) ?_
        have hcl:=@chainsTo_len n M i
        simp only [holds_cond,Tree.holds,true_and,true_implies,decide_eq_true_eq,decide_eq_false_iff_not,Bool.not_eq_true',Bool.not_eq_false',Int.toNat_natCast,inK_i64,List.length_set,List.length_cons,List.length_nil,wb_i64,wb_sl]
        rw [f1]
        refine ⟨fun e=>?_,fun e=>?_⟩
        · obtain ⟨x,hx,rfl,hb⟩:∃ x:Nat,x<n∧a=x∧ch.length≤(before R n x).length:=k4.resolve_left (by omega)
          have hbn:(before R n x).length<n:=by
            have h1:(x::before R n x).Nodup:=List.nodup_cons.2 ⟨fun h=>(by have:=(List.mem_filter.1 h).2; rw [hi] at this; cases this),List.Pairwise.sublist List.filter_sublist List.nodup_range⟩
            have:=nodup_sub h1 (S:=List.range n) (fun y hy=>by
              rcases List.mem_cons.1 hy with rfl|hy
              · exact List.mem_range.2 hx
              · exact (List.mem_filter.1 hy).1)
            rw [List.length_cons,List.length_range] at this
            omega
          obtain ⟨k,hk⟩:∃ k,n+1 - ch.length=k+1:=⟨n - ch.length,by omega⟩
          have ex:chainGo (nextF n M) (k+1) (x:Int)=(x:Int)::chainGo (nextF n M) k ((nextF n M).getD x 0):=by rw [chainGo,if_pos (by omega),Int.toNat_natCast]
          rw [hk,ex] at k2
          have e3:([0]:List Int).set (Int.toNat 0) (x:Int)=[(x:Int)]:=rfl
          rw [e3]
          refine ⟨by omega,fun _=>⟨by omega,fun _=>ih2 ((nextF n M).getD x 0,ch++[(x:Int)]) ⟨?_,?_,?_⟩ ?_⟩⟩
          · show chainGo (nextF n M) (n+1) (i:Int)=(ch++[(x:Int)])++chainGo (nextF n M) (n+1 - (ch++[(x:Int)]).length) ((nextF n M).getD x 0)
            rw [k2,List.length_append,List.length_singleton,show n+1 - (ch.length+1)=k by omega]
            simp
          · show (ch++[(x:Int)]).length≤n
            rw [List.length_append,List.length_singleton]; omega
          · show (nextF n M).getD x 0=-1∨_
            rcases hM.next hx with ⟨h1,_⟩|⟨y,hy,h1,h2,_⟩
            · exact .inl h1
            · refine .inr ⟨y,hy,h1,?_⟩
              have:=before_lt ht hi hx h2
              show (ch++[(x:Int)]).length≤_
              rw [List.length_append,List.length_singleton]; omega
          · show n+1 - (ch++[(x:Int)]).length<n+1 - ch.length
            rw [List.length_append,List.length_singleton]; omega
        · have ez:chainGo (nextF n M) (n+1 - ch.length) a=[]:=chainGo_neg (by omega)
          rw [ez,List.append_nil] at k2
          rw [k2] at next
          have e3:([[]]:List (List Int)).set (Int.toNat 0) ch=[ch]:=rfl
          rw [e3]
          exact ⟨by omega,fun _=>⟨by omega,fun _=>next⟩⟩
    · obtain rfl:i=n:=by omega
      have hcl:=@chainsTo_len i M i
      exact ⟨⟨by omega,chains_pos,chains_tie⟩,fun _=>by rw [chains_sorted]; rfl⟩
end Go.Proofs.Ytegigiecamjobaa
