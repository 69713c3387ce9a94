/- partkeep.laneRun. -/
import Derived.Test.YtegigiecamjobaaLaneP
namespace Go.Proofs.Ytegigiecamjobaa
open Go.Ex
set_option maxRecDepth 100000
def crun:Ctr:={ ps:=[.v (.slc false LActT)],rs:=[.slc true .str,.slc true .str,FromO,ToO,.bool],pre:=fun x=>List.length (α:=LActD) x.1≤1048576,fn:=fun x=>((lgo x.1 (List.length (α:=LActD) x.1)).1,(lgo x.1 (List.length (α:=LActD) x.1)).2.1,(lgo x.1 (List.length (α:=LActD) x.1)).2.2.1,(lgo x.1 (List.length (α:=LActD) x.1)).2.2.2.1,true,()),out:=fun _=>() }
noncomputable def Erun:Env:={ P:=Try.prog,tt:=tt,ctr:=[(37,cltake),(89,clput),(44,clsends),(45,clheard),(22,crest)],res:=[Go.ResultVar.tmp 2,Go.ResultVar.tmp 3,Go.ResultVar.cell 4 92,Go.ResultVar.cell 5 79,Go.ResultVar.tmp 6],rs:=[Ty.slc true Ty.str,Ty.slc true Ty.str,Ty.pair (Ty.int IntKind.i64) (Ty.pair (Ty.slc true Ty.str) Ty.unit),Ty.pair (Ty.int IntKind.i64) (Ty.pair (Ty.slc true (Ty.pair (Ty.int IntKind.i64) (Ty.pair Ty.str Ty.unit))) Ty.unit),Ty.bool],ps:=[PK.v (Ty.slc false (Ty.pair (Ty.int IntKind.i64) (Ty.pair (Ty.int IntKind.i64) (Ty.pair Ty.str Ty.unit))))],cuts:=[(3,[(2,some (Ty.slc true Ty.str)),(3,some (Ty.slc true Ty.str)),(4,none),(5,none),(7,some (Ty.slc true (Ty.pair (Ty.int IntKind.i64) (Ty.pair Ty.str Ty.unit)))),(19,none),(20,none),(21,none)])],nt:=104 }
theorem Erun_ok:EnvOk Erun:=envOk tt_ok ⟨cltake_valid,clput_valid,clsends_valid,clheard_valid,crest_valid,trivial⟩
theorem Frun_ok:FnOk Erun Try.f41:=⟨rfl,rfl⟩
theorem Erun_t (x0:List (Int×Int×List UInt8×Unit)):exec Erun 1000 [.code (bodyOf Try.prog 41)] (initSt crun.ps ((x0,()))) =
  .cut (loopAt (bodyOf Try.prog 41) 3).1 (loopAt (bodyOf Try.prog 41) 3).2 (St.mk [(2,AV.at_ 1000002 []),(3,AV.at_ 1000003 []),(4,AV.ptr 4 []),(5,AV.ptr 5 []),(7,AV.at_ 1000007 []),(19,AV.val (Ty.slc false (Ty.pair (Ty.int IntKind.i64) (Ty.pair (Ty.int IntKind.i64) (Ty.pair Ty.str Ty.unit)))) x0),(20,AV.val (Ty.int IntKind.i64) (↑(List.length x0):Int)),(21,AV.val (Ty.int IntKind.i64) (0:Int))] [(4,Ent.var (Ty.pair (Ty.int IntKind.i64) (Ty.pair (Ty.slc true Ty.str) Ty.unit)) ((0:Int),[],())),(5,Ent.var (Ty.pair (Ty.int IntKind.i64) (Ty.pair (Ty.slc true (Ty.pair (Ty.int IntKind.i64) (Ty.pair Ty.str Ty.unit))) Ty.unit)) ((0:Int),[],())),(1000002,Ent.own (Ty.slc true Ty.str) []),(1000003,Ent.own (Ty.slc true Ty.str) []),(1000007,Ent.own (Ty.slc true (Ty.pair (Ty.int IntKind.i64) (Ty.pair Ty.str Ty.unit))) [])]):=by kernel_rfl
def Erun_s3 (v19:List (Int×Int×List UInt8×Unit)) (v20:Int) (v21:Int) (o4_1:Int) (o4_2_1:List (List UInt8)) (o5_1:Int) (o5_2_1:List (Int×List UInt8×Unit)) (o1000002:List (List UInt8)) (o1000003:List (List UInt8)) (o1000007:List (Int×List UInt8×Unit)):St:=St.mk [(2,AV.at_ 1000002 []),(3,AV.at_ 1000003 []),(4,AV.ptr 4 []),(5,AV.ptr 5 []),(7,AV.at_ 1000007 []),(19,AV.val (Ty.slc false (Ty.pair (Ty.int IntKind.i64) (Ty.pair (Ty.int IntKind.i64) (Ty.pair Ty.str Ty.unit)))) v19),(20,AV.val (Ty.int IntKind.i64) v20),(21,AV.val (Ty.int IntKind.i64) v21)] [(4,Ent.var (Ty.pair (Ty.int IntKind.i64) (Ty.pair (Ty.slc true Ty.str) Ty.unit)) (o4_1,o4_2_1,())),(5,Ent.var (Ty.pair (Ty.int IntKind.i64) (Ty.pair (Ty.slc true (Ty.pair (Ty.int IntKind.i64) (Ty.pair Ty.str Ty.unit))) Ty.unit)) (o5_1,o5_2_1,())),(1000002,Ent.own (Ty.slc true Ty.str) o1000002),(1000003,Ent.own (Ty.slc true Ty.str) o1000003),(1000007,Ent.own (Ty.slc true (Ty.pair (Ty.int IntKind.i64) (Ty.pair Ty.str Ty.unit))) o1000007)]
theorem Erun_l3 (v19:List (Int×Int×List UInt8×Unit)) (v20:Int) (v21:Int) (o4_1:Int) (o4_2_1:List (List UInt8)) (o5_1:Int) (o5_2_1:List (Int×List UInt8×Unit)) (o1000002:List (List UInt8)) (o1000003:List (List UInt8)) (o1000007:List (Int×List UInt8×Unit)):exec Erun 1000 (.code (loopAt (bodyOf Try.prog 41) 3).1::.inLoop (loopAt (bodyOf Try.prog 41) 3).1::(loopAt (bodyOf Try.prog 41) 3).2) (Erun_s3 v19 v20 v21 o4_1 o4_2_1 o5_1 o5_2_1 o1000002 o1000003 o1000007) =
  cond (decide (v21<v20)) (.need ((0:Int)≤v21∧v21<(↑(List.length v19):Int)) (cond (decide (Prod.fst (List.getD v19 (Int.toNat v21) ((0:Int),(0:Int),[],()))=(3:Int))) (cond (decide ((↑(List.length o1000007):Int)=(0:Int))) (.need (inK IntKind.i64 (v21+(1:Int))) (.cut (loopAt (bodyOf Try.prog 41) 3).1 (loopAt (bodyOf Try.prog 41) 3).2 (St.mk [(2,AV.at_ 1000002 []),(3,AV.at_ 1000003 []),(4,AV.ptr 4 []),(5,AV.ptr 5 []),(7,AV.at_ 1000007 []),(19,AV.val (Ty.slc false (Ty.pair (Ty.int IntKind.i64) (Ty.pair (Ty.int IntKind.i64) (Ty.pair Ty.str Ty.unit)))) v19),(20,AV.val (Ty.int IntKind.i64) v20),(21,AV.val (Ty.int IntKind.i64) (v21+(1:Int)))] [(4,Ent.var (Ty.pair (Ty.int IntKind.i64) (Ty.pair (Ty.slc true Ty.str) Ty.unit)) (o4_1,o4_2_1,())),(5,Ent.var (Ty.pair (Ty.int IntKind.i64) (Ty.pair (Ty.slc true (Ty.pair (Ty.int IntKind.i64) (Ty.pair Ty.str Ty.unit))) Ty.unit)) (o5_1,o5_2_1,())),(1000002,Ent.own (Ty.slc true Ty.str) o1000002),(1000003,Ent.own (Ty.slc true Ty.str) o1000003),(1000007,Ent.own (Ty.slc true (Ty.pair (Ty.int IntKind.i64) (Ty.pair Ty.str Ty.unit))) o1000007)]))) (.need ((↑(List.length o1000007):Int)≤(1000000000:Int)) (.need ((0:Int)≤rest (Prod.fst (Prod.snd (List.getD v19 (Int.toNat v21) ((0:Int),(0:Int),[],())))) (↑(List.length o1000007):Int)∧rest (Prod.fst (Prod.snd (List.getD v19 (Int.toNat v21) ((0:Int),(0:Int),[],())))) (↑(List.length o1000007):Int)<(↑(List.length o1000007):Int)) (.need (True) (cond (decide (Prod.fst (Prod.snd (Prod.snd (ltake (o5_1,o5_2_1,()) (List.getD o1000007 (Int.toNat (rest (Prod.fst (Prod.snd (List.getD v19 (Int.toNat v21) ((0:Int),(0:Int),[],())))) (↑(List.length o1000007):Int))) ((0:Int),[],())))))≠(0:Int))) (.stuck "draw") (.need (List.length o1000003+List.length (Prod.fst (Prod.snd (ltake (o5_1,o5_2_1,()) (List.getD o1000007 (Int.toNat (rest (Prod.fst (Prod.snd (List.getD v19 (Int.toNat v21) ((0:Int),(0:Int),[],())))) (↑(List.length o1000007):Int))) ((0:Int),[],())))))≤140737488355328∧(List.length o1000003+List.length (Prod.fst (Prod.snd (ltake (o5_1,o5_2_1,()) (List.getD o1000007 (Int.toNat (rest (Prod.fst (Prod.snd (List.getD v19 (Int.toNat v21) ((0:Int),(0:Int),[],())))) (↑(List.length o1000007):Int))) ((0:Int),[],()))))))*Ty.wb Ty.str≤140737488355328) (.need (inK IntKind.i64 (v21+(1:Int))) (.cut (loopAt (bodyOf Try.prog 41) 3).1 (loopAt (bodyOf Try.prog 41) 3).2 (St.mk [(2,AV.at_ 1000002 []),(3,AV.at_ 1000003 []),(4,AV.ptr 4 []),(5,AV.ptr 5 []),(7,AV.at_ 1000007 []),(19,AV.val (Ty.slc false (Ty.pair (Ty.int IntKind.i64) (Ty.pair (Ty.int IntKind.i64) (Ty.pair Ty.str Ty.unit)))) v19),(20,AV.val (Ty.int IntKind.i64) v20),(21,AV.val (Ty.int IntKind.i64) (v21+(1:Int)))] [(4,Ent.var (Ty.pair (Ty.int IntKind.i64) (Ty.pair (Ty.slc true Ty.str) Ty.unit)) (o4_1,o4_2_1,())),(5,Ent.var (Ty.pair (Ty.int IntKind.i64) (Ty.pair (Ty.slc true (Ty.pair (Ty.int IntKind.i64) (Ty.pair Ty.str Ty.unit))) Ty.unit)) (Prod.fst (ltake (o5_1,o5_2_1,()) (List.getD o1000007 (Int.toNat (rest (Prod.fst (Prod.snd (List.getD v19 (Int.toNat v21) ((0:Int),(0:Int),[],())))) (↑(List.length o1000007):Int))) ((0:Int),[],()))))),(1000002,Ent.own (Ty.slc true Ty.str) o1000002),(1000003,Ent.own (Ty.slc true Ty.str) (o1000003++Prod.fst (Prod.snd (ltake (o5_1,o5_2_1,()) (List.getD o1000007 (Int.toNat (rest (Prod.fst (Prod.snd (List.getD v19 (Int.toNat v21) ((0:Int),(0:Int),[],())))) (↑(List.length o1000007):Int))) ((0:Int),[],())))))),(1000007,Ent.own (Ty.slc true (Ty.pair (Ty.int IntKind.i64) (Ty.pair Ty.str Ty.unit))) o1000007)]))))))))) (cond (decide (Prod.fst (List.getD v19 (Int.toNat v21) ((0:Int),(0:Int),[],()))=(4:Int))) (.need (True) (cond (decide (Prod.fst (Prod.snd (lsends (o4_1,o4_2_1,()) (Prod.fst (Prod.snd (List.getD v19 (Int.toNat v21) ((0:Int),(0:Int),[],()))))))≠(0:Int))) (.stuck "draw") (.need (List.length o1000007+List.length (Prod.fst (lsends (o4_1,o4_2_1,()) (Prod.fst (Prod.snd (List.getD v19 (Int.toNat v21) ((0:Int),(0:Int),[],()))))))≤140737488355328∧(List.length o1000007+List.length (Prod.fst (lsends (o4_1,o4_2_1,()) (Prod.fst (Prod.snd (List.getD v19 (Int.toNat v21) ((0:Int),(0:Int),[],())))))))*Ty.wb (Ty.pair (Ty.int IntKind.i64) (Ty.pair Ty.str Ty.unit))≤140737488355328) (.need (inK IntKind.i64 (v21+(1:Int))) (.cut (loopAt (bodyOf Try.prog 41) 3).1 (loopAt (bodyOf Try.prog 41) 3).2 (St.mk [(2,AV.at_ 1000002 []),(3,AV.at_ 1000003 []),(4,AV.ptr 4 []),(5,AV.ptr 5 []),(7,AV.at_ 1000007 []),(19,AV.val (Ty.slc false (Ty.pair (Ty.int IntKind.i64) (Ty.pair (Ty.int IntKind.i64) (Ty.pair Ty.str Ty.unit)))) v19),(20,AV.val (Ty.int IntKind.i64) v20),(21,AV.val (Ty.int IntKind.i64) (v21+(1:Int)))] [(4,Ent.var (Ty.pair (Ty.int IntKind.i64) (Ty.pair (Ty.slc true Ty.str) Ty.unit)) (o4_1,o4_2_1,())),(5,Ent.var (Ty.pair (Ty.int IntKind.i64) (Ty.pair (Ty.slc true (Ty.pair (Ty.int IntKind.i64) (Ty.pair Ty.str Ty.unit))) Ty.unit)) (o5_1,o5_2_1,())),(1000002,Ent.own (Ty.slc true Ty.str) o1000002),(1000003,Ent.own (Ty.slc true Ty.str) o1000003),(1000007,Ent.own (Ty.slc true (Ty.pair (Ty.int IntKind.i64) (Ty.pair Ty.str Ty.unit))) (o1000007++Prod.fst (lsends (o4_1,o4_2_1,()) (Prod.fst (Prod.snd (List.getD v19 (Int.toNat v21) ((0:Int),(0:Int),[],())))))))])))))) (cond (decide (Prod.fst (List.getD v19 (Int.toNat v21) ((0:Int),(0:Int),[],()))=(5:Int))) (.need ((0:Int)≤o5_1) (cond (decide (Prod.fst (Prod.snd (lheard (o4_1,o4_2_1,()) o5_1))≠(0:Int))) (.stuck "draw") (.need (inK IntKind.i64 (v21+(1:Int))) (.cut (loopAt (bodyOf Try.prog 41) 3).1 (loopAt (bodyOf Try.prog 41) 3).2 (St.mk [(2,AV.at_ 1000002 []),(3,AV.at_ 1000003 []),(4,AV.ptr 4 []),(5,AV.ptr 5 []),(7,AV.at_ 1000007 []),(19,AV.val (Ty.slc false (Ty.pair (Ty.int IntKind.i64) (Ty.pair (Ty.int IntKind.i64) (Ty.pair Ty.str Ty.unit)))) v19),(20,AV.val (Ty.int IntKind.i64) v20),(21,AV.val (Ty.int IntKind.i64) (v21+(1:Int)))] [(4,Ent.var (Ty.pair (Ty.int IntKind.i64) (Ty.pair (Ty.slc true Ty.str) Ty.unit)) (Prod.fst (lheard (o4_1,o4_2_1,()) o5_1))),(5,Ent.var (Ty.pair (Ty.int IntKind.i64) (Ty.pair (Ty.slc true (Ty.pair (Ty.int IntKind.i64) (Ty.pair Ty.str Ty.unit))) Ty.unit)) (o5_1,o5_2_1,())),(1000002,Ent.own (Ty.slc true Ty.str) o1000002),(1000003,Ent.own (Ty.slc true Ty.str) o1000003),(1000007,Ent.own (Ty.slc true (Ty.pair (Ty.int IntKind.i64) (Ty.pair Ty.str Ty.unit))) o1000007)]))))) (.need (True) (cond (decide (Prod.fst (Prod.snd (lput (o4_1,o4_2_1,()) (Prod.fst (Prod.snd (Prod.snd (List.getD v19 (Int.toNat v21) ((0:Int),(0:Int),[],())))))))=(0:Int))) (.need (List.length o1000002+List.length (List.set [[]] (Int.toNat (↑0:Int)) (Prod.fst (Prod.snd (Prod.snd (List.getD v19 (Int.toNat v21) ((0:Int),(0:Int),[],()))))))≤140737488355328∧(List.length o1000002+List.length (List.set [[]] (Int.toNat (↑0:Int)) (Prod.fst (Prod.snd (Prod.snd (List.getD v19 (Int.toNat v21) ((0:Int),(0:Int),[],())))))))*Ty.wb Ty.str≤140737488355328) (.need (inK IntKind.i64 (v21+(1:Int))) (.cut (loopAt (bodyOf Try.prog 41) 3).1 (loopAt (bodyOf Try.prog 41) 3).2 (St.mk [(2,AV.at_ 1000002 []),(3,AV.at_ 1000003 []),(4,AV.ptr 4 []),(5,AV.ptr 5 []),(7,AV.at_ 1000007 []),(19,AV.val (Ty.slc false (Ty.pair (Ty.int IntKind.i64) (Ty.pair (Ty.int IntKind.i64) (Ty.pair Ty.str Ty.unit)))) v19),(20,AV.val (Ty.int IntKind.i64) v20),(21,AV.val (Ty.int IntKind.i64) (v21+(1:Int)))] [(4,Ent.var (Ty.pair (Ty.int IntKind.i64) (Ty.pair (Ty.slc true Ty.str) Ty.unit)) (Prod.fst (lput (o4_1,o4_2_1,()) (Prod.fst (Prod.snd (Prod.snd (List.getD v19 (Int.toNat v21) ((0:Int),(0:Int),[],())))))))),(5,Ent.var (Ty.pair (Ty.int IntKind.i64) (Ty.pair (Ty.slc true (Ty.pair (Ty.int IntKind.i64) (Ty.pair Ty.str Ty.unit))) Ty.unit)) (o5_1,o5_2_1,())),(1000002,Ent.own (Ty.slc true Ty.str) (o1000002++List.set [[]] (Int.toNat (↑0:Int)) (Prod.fst (Prod.snd (Prod.snd (List.getD v19 (Int.toNat v21) ((0:Int),(0:Int),[],()))))))),(1000003,Ent.own (Ty.slc true Ty.str) o1000003),(1000007,Ent.own (Ty.slc true (Ty.pair (Ty.int IntKind.i64) (Ty.pair Ty.str Ty.unit))) o1000007)])))) (.need (inK IntKind.i64 (v21+(1:Int))) (.cut (loopAt (bodyOf Try.prog 41) 3).1 (loopAt (bodyOf Try.prog 41) 3).2 (St.mk [(2,AV.at_ 1000002 []),(3,AV.at_ 1000003 []),(4,AV.ptr 4 []),(5,AV.ptr 5 []),(7,AV.at_ 1000007 []),(19,AV.val (Ty.slc false (Ty.pair (Ty.int IntKind.i64) (Ty.pair (Ty.int IntKind.i64) (Ty.pair Ty.str Ty.unit)))) v19),(20,AV.val (Ty.int IntKind.i64) v20),(21,AV.val (Ty.int IntKind.i64) (v21+(1:Int)))] [(4,Ent.var (Ty.pair (Ty.int IntKind.i64) (Ty.pair (Ty.slc true Ty.str) Ty.unit)) (o4_1,o4_2_1,())),(5,Ent.var (Ty.pair (Ty.int IntKind.i64) (Ty.pair (Ty.slc true (Ty.pair (Ty.int IntKind.i64) (Ty.pair Ty.str Ty.unit))) Ty.unit)) (o5_1,o5_2_1,())),(1000002,Ent.own (Ty.slc true Ty.str) o1000002),(1000003,Ent.own (Ty.slc true Ty.str) o1000003),(1000007,Ent.own (Ty.slc true (Ty.pair (Ty.int IntKind.i64) (Ty.pair Ty.str Ty.unit))) o1000007)]))))))))) (.ret ((o1000002,o1000003,(o4_1,o4_2_1,()),(o5_1,o5_2_1,()),true,()))):=by kernel_rfl
set_option maxHeartbeats 1000000 in
theorem crun_valid:crun.Valid Try.prog 41:=by
  refine Ctr.valid_of Erun_ok rfl rfl Try.func41 (c:=bodyOf Try.prog 41) rfl rfl Frun_ok rfl ?_
  rintro ⟨(l:List LActD),⟨⟩⟩ (hp:l.length≤1048576) -
  refine exec_sound (n:=1000) Erun_ok Frun_ok ?_
  refine holds_of_eq (Erun_t l) ?_
  have w16:Ty.wb .str=16:=rfl
  have w24:Ty.wb Parcel=24:=rfl
  have one:∀ y:Str,List.set [([]:Str)] (Int.toNat 0) y=[y]:=fun _=>rfl
  refine Reach.loopI Erun_ok Frun_ok (fun k:Nat=>Erun_s3 l (l.length:Int) (k:Int) (lgo l k).2.2.1.1 (lgo l k).2.2.1.2.1 (lgo l k).2.2.2.1.1 (lgo l k).2.2.2.1.2.1 (lgo l k).1 (lgo l k).2.1 (lgo l k).2.2.2.2) (fun k=>k≤l.length) (fun k=>l.length - k) 1000 (fun _=>⟨uniq_of rfl,uniq_of rfl⟩) ?_ 0 (Nat.zero_le _)
  rintro k (k1:k≤l.length) - ih
  refine holds_of_eq (Erun_l3 ..) ?_
  simp only [holds_cond,Tree.holds,true_and,true_implies,decide_eq_true_eq,decide_eq_false_iff_not,Bool.not_eq_true',Bool.not_eq_false',Int.toNat_natCast,inK_i64,List.length_set,List.length_cons,List.length_nil,w16,w24,one]
  have hI:=lgo_ok l k
  have hwl:=lgo_way l k
  have next:=ih (k+1)
  have hlast:k=l.length→crun.fn (l,())=((lgo l k).1,(lgo l k).2.1,(lgo l k).2.2.1,(lgo l k).2.2.2.1,true,()):=fun h=>by subst h; rfl
  rw [lgo] at next
  generalize lgo l k=st at *
  generalize l.getD k (0,0,[],())=a at *
  obtain ⟨put,told,⟨b,late,⟨⟩⟩,⟨n,early,⟨⟩⟩,way⟩:=st
  obtain ⟨kd,m,x,⟨⟩⟩:=a
  have hI:LI put told (b,late,()) (n,early,()) way:=hI
  have hd:lstep (put,told,(b,late,()),(n,early,()),way) (kd,m,x,())=if kd=3 then (if way.length=0 then (put,told,(b,late,()),(n,early,()),way) else
    (put,told++(ltake (n,early,()) (way.getD (rest m way.length).toNat p00)).2.1,(b,late,()),(ltake (n,early,()) (way.getD (rest m way.length).toNat p00)).1,way))
    else if kd=4 then (put,told,(b,late,()),(n,early,()),way++(lsends (b,late,()) m).1)
    else if kd=5 then (put,told,(lheard (b,late,()) n).1,(n,early,()),way)
    else if (lput (b,late,()) x).2.1=0 then (put++[x],told,(lput (b,late,()) x).1,(n,early,()),way) else (put,told,(b,late,()),(n,early,()),way):=rfl
  have hok:0≤n∧n≤16777215:=hI.ok.rg
  have hput:put.length≤16777215:=hI.all
  obtain ⟨t1,t2,t3⟩:=hI.told_len
  have hwl:way.length≤16*k:=hwl
  have t1:(told.length:Int)=n:=t1
  dsimp only
  refine ⟨fun c=>⟨⟨by omega,by omega⟩,fun _=>⟨fun c3=>⟨fun c4=>⟨by omega,fun _=>?_⟩,fun c4=>?_⟩,fun c3=>⟨fun c4=>?_,fun c4=>⟨fun c5=>⟨by omega,fun _=>?_⟩,fun c5=>?_⟩⟩⟩⟩,fun c=>?_⟩
  · have next:=next (by omega) (by omega)
    rw [hd,if_pos c3,if_pos (by omega)] at next
    exact next
  · have hr:=rest_in (a:=m) (show 0<(way.length:Int) by omega)
    have hp9:=hI.take (hI.way_ (way.getD (rest m way.length).toNat p00) (getD_mem (d:=p00) (by omega)))
    have e0:way.getD (rest m way.length).toNat (0,[],())=way.getD (rest m way.length).toNat p00:=rfl
    rw [e0]
    have next:=next (by omega) (by omega)
    rw [hd,if_pos c3,if_neg (by omega)] at next
    have hl9:=hp9.1.told_len
    rw [List.length_append] at hl9
    refine ⟨by omega,fun _=>⟨⟨by omega,by omega⟩,fun _=>⟨fun e=>absurd hp9.2.1 e,fun _=>⟨⟨by omega,by omega⟩,fun _=>⟨by omega,fun _=>next⟩⟩⟩⟩⟩
  · have hs:=hI.sends m
    have next:=next (by omega) (by omega)
    rw [hd,if_neg c3,if_pos c4] at next
    have hsl:(lsends (b,late,()) m).1.length≤16:=by
      have hf:late.length≤16:=hI.few
      have:(lsends (b,late,()) m).1.length≤late.length:=by
        rw [lsends]; split
        · exact Nat.zero_le _
        · exact sendsL_len
      omega
    exact ⟨fun e=>absurd hs.1 e,fun _=>⟨⟨by omega,by omega⟩,fun _=>⟨by omega,fun _=>next⟩⟩⟩
  · have hs:=hI.heard
    have next:=next (by omega) (by omega)
    rw [hd,if_neg c3,if_neg c4,if_pos c5] at next
    exact ⟨fun e=>absurd hs.1 e,fun _=>⟨by omega,fun _=>next⟩⟩
  · have next:=next (by omega) (by omega)
    rw [hd,if_neg c3,if_neg c4,if_neg c5] at next
    refine ⟨fun e=>⟨⟨by omega,by omega⟩,fun _=>⟨by omega,fun _=>?_⟩⟩,fun e=>⟨by omega,fun _=>?_⟩⟩
    · rw [if_pos e] at next; exact next
    · rw [if_neg e] at next; exact next
  · have:=hlast (by omega)
    show ((put,told,(b,late,()),(n,early,()),true,()):List Str×List Str×FromD×ToD×Bool×Unit)=crun.fn (l,())
    rw [this]
end Go.Proofs.Ytegigiecamjobaa
