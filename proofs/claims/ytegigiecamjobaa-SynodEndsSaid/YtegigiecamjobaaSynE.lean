/- partkeep.voted: a synod after some acts. No condition but those named. -/
import Derived.Test.YtegigiecamjobaaSynD
import Derived.Test.YtegigiecamjobaaSynK
namespace Go.Proofs.Ytegigiecamjobaa
open Go.Ex Go.Sort
set_option maxRecDepth 100000
def few (n:Int):Int:=rest n 6+1
def cfew:Ctr:={ ps:=[.v I64],rs:=[I64],pre:=fun _=>True,fn:=fun x=>(few x.1,()),out:=fun _=>() }
noncomputable def Efew:Env:={ P:=Try.prog,tt:=tt,ctr:=[(22,crest)],res:=[Go.ResultVar.tmp 2],rs:=[Ty.int IntKind.i64],ps:=[PK.v (Ty.int IntKind.i64)],cuts:=[],nt:=6 }
theorem Efew_ok:EnvOk Efew:=envOk tt_ok ⟨crest_valid,trivial⟩
theorem Ffew_ok:FnOk Efew Try.f49:=⟨rfl,rfl⟩
theorem Efew_t (x0:Int):exec Efew 1000 [.code (bodyOf Try.prog 49)] (initSt cfew.ps ((x0,()))) =
  .need ((6:Int)≤(1000000:Int)) (.need (inK IntKind.i64 (rest x0 (6:Int)+(1:Int))) (.ret ((rest x0 (6:Int)+(1:Int),())))):=by kernel_rfl
theorem few_in (n:Int):1≤few n∧few n≤6:=by
  have:=rest_in (a:=n) (n:=6) (by decide)
  rw [few]; omega
theorem cfew_valid:cfew.Valid Try.prog 49:=by
  refine Ctr.valid_of Efew_ok rfl rfl Try.func49 (c:=bodyOf Try.prog 49) rfl rfl Ffew_ok rfl ?_
  rintro ⟨(n:Int),⟨⟩⟩ - -
  refine exec_sound (n:=1000) Efew_ok Ffew_ok ?_
  refine holds_of_eq (Efew_t n) ?_
  have:=few_in n
  rw [few] at this
  simp only [holds_cond,Tree.holds,true_and,true_implies,decide_eq_true_eq,decide_eq_false_iff_not,Bool.not_eq_true',Bool.not_eq_false',Int.toNat_natCast,inK_i64,List.length_set,List.length_cons,List.length_nil]
  exact ⟨by decide,fun _=>⟨by omega,fun _=>rfl⟩⟩
abbrev oneTo (k:Int) (b:Int) (n:Nat):List ActD:=(List.range n).map (fun p:Nat=>(k,b,(p:Int),[],()))
def oneF (b n:Int) (t:List UInt8):List ActD:=[(1,b,0,t,())]++oneTo 2 b n.toNat++[(3,b,0,[],())]++oneTo 4 b n.toNat
def cone:Ctr:={ ps:=[.v I64,.v I64,.v .str],rs:=[.slc true Act],pre:=fun x=>LE.le (α:=Int) 0 x.2.1∧LE.le (α:=Int) x.2.1 10,fn:=fun x=>(oneF x.1 x.2.1 x.2.2.1,()),out:=fun _=>() }
abbrev a00l:List ActD:=[(0,0,0,[],())]
abbrev s1l:List (List UInt8):=[[]]
noncomputable def Eone:Env:={ P:=Try.prog,tt:=tt,ctr:=[],res:=[Go.ResultVar.tmp 6],rs:=[Ty.slc true (Ty.pair (Ty.int IntKind.i64) (Ty.pair (Ty.int IntKind.i64) (Ty.pair (Ty.int IntKind.i64) (Ty.pair Ty.str Ty.unit))))],ps:=[PK.v (Ty.int IntKind.i64),PK.v (Ty.int IntKind.i64),PK.v Ty.str],cuts:=[(3,[(0,none),(1,none),(7,some (Ty.slc true (Ty.pair (Ty.int IntKind.i64) (Ty.pair (Ty.int IntKind.i64) (Ty.pair (Ty.int IntKind.i64) (Ty.pair Ty.str Ty.unit)))))),(14,none),(15,none)]),(9,[(0,none),(7,some (Ty.slc true (Ty.pair (Ty.int IntKind.i64) (Ty.pair (Ty.int IntKind.i64) (Ty.pair (Ty.int IntKind.i64) (Ty.pair Ty.str Ty.unit)))))),(30,none),(31,none)])],nt:=42 }
theorem Eone_ok:EnvOk Eone:=envOk tt_ok trivial
theorem Fone_ok:FnOk Eone Try.f47:=⟨rfl,rfl⟩
theorem Eone_t (x0:Int) (x1:Int) (x2:List UInt8):exec Eone 1000 [.code (bodyOf Try.prog 47)] (initSt cone.ps ((x0,x1,x2,()))) =
  .cut (loopAt (bodyOf Try.prog 47) 3).1 (loopAt (bodyOf Try.prog 47) 3).2 (St.mk [(0,AV.val (Ty.int IntKind.i64) x0),(1,AV.val (Ty.int IntKind.i64) x1),(7,AV.at_ 1000007 []),(14,AV.val (Ty.int IntKind.i64) x1),(15,AV.val (Ty.int IntKind.i64) (0:Int))] [(1000007,Ent.own (Ty.slc true (Ty.pair (Ty.int IntKind.i64) (Ty.pair (Ty.int IntKind.i64) (Ty.pair (Ty.int IntKind.i64) (Ty.pair Ty.str Ty.unit))))) (List.set a00l (Int.toNat (↑0:Int)) ((1:Int),x0,(0:Int),x2,())))]):=by kernel_rfl
def Eone_s3 (v0:Int) (v1:Int) (v14:Int) (v15:Int) (o1000007:List (Int×Int×Int×List UInt8×Unit)):St:=St.mk [(0,AV.val (Ty.int IntKind.i64) v0),(1,AV.val (Ty.int IntKind.i64) v1),(7,AV.at_ 1000007 []),(14,AV.val (Ty.int IntKind.i64) v14),(15,AV.val (Ty.int IntKind.i64) v15)] [(1000007,Ent.own (Ty.slc true (Ty.pair (Ty.int IntKind.i64) (Ty.pair (Ty.int IntKind.i64) (Ty.pair (Ty.int IntKind.i64) (Ty.pair Ty.str Ty.unit))))) o1000007)]
theorem Eone_l3 (v0:Int) (v1:Int) (v14:Int) (v15:Int) (o1000007:List (Int×Int×Int×List UInt8×Unit)):exec Eone 1000 (.code (loopAt (bodyOf Try.prog 47) 3).1::.inLoop (loopAt (bodyOf Try.prog 47) 3).1::(loopAt (bodyOf Try.prog 47) 3).2) (Eone_s3 v0 v1 v14 v15 o1000007) =
  cond (decide (v15<v14)) (.need (List.length o1000007+List.length (List.set a00l (Int.toNat (↑0:Int)) ((2:Int),v0,v15,[],()))≤140737488355328∧(List.length o1000007+List.length (List.set a00l (Int.toNat (↑0:Int)) ((2:Int),v0,v15,[],())))*Ty.wb (Ty.pair (Ty.int IntKind.i64) (Ty.pair (Ty.int IntKind.i64) (Ty.pair (Ty.int IntKind.i64) (Ty.pair Ty.str Ty.unit))))≤140737488355328) (.need (inK IntKind.i64 (v15+(1:Int))) (.cut (loopAt (bodyOf Try.prog 47) 3).1 (loopAt (bodyOf Try.prog 47) 3).2 (St.mk [(0,AV.val (Ty.int IntKind.i64) v0),(1,AV.val (Ty.int IntKind.i64) v1),(7,AV.at_ 1000007 []),(14,AV.val (Ty.int IntKind.i64) v14),(15,AV.val (Ty.int IntKind.i64) (v15+(1:Int)))] [(1000007,Ent.own (Ty.slc true (Ty.pair (Ty.int IntKind.i64) (Ty.pair (Ty.int IntKind.i64) (Ty.pair (Ty.int IntKind.i64) (Ty.pair Ty.str Ty.unit))))) (o1000007++List.set a00l (Int.toNat (↑0:Int)) ((2:Int),v0,v15,[],())))])))) (.need (List.length o1000007+List.length (List.set a00l (Int.toNat (↑0:Int)) ((3:Int),v0,(0:Int),[],()))≤140737488355328∧(List.length o1000007+List.length (List.set a00l (Int.toNat (↑0:Int)) ((3:Int),v0,(0:Int),[],())))*Ty.wb (Ty.pair (Ty.int IntKind.i64) (Ty.pair (Ty.int IntKind.i64) (Ty.pair (Ty.int IntKind.i64) (Ty.pair Ty.str Ty.unit))))≤140737488355328) (.cut (loopAt (bodyOf Try.prog 47) 9).1 (loopAt (bodyOf Try.prog 47) 9).2 (St.mk [(0,AV.val (Ty.int IntKind.i64) v0),(7,AV.at_ 1000007 []),(30,AV.val (Ty.int IntKind.i64) v1),(31,AV.val (Ty.int IntKind.i64) (0:Int))] [(1000007,Ent.own (Ty.slc true (Ty.pair (Ty.int IntKind.i64) (Ty.pair (Ty.int IntKind.i64) (Ty.pair (Ty.int IntKind.i64) (Ty.pair Ty.str Ty.unit))))) (o1000007++List.set a00l (Int.toNat (↑0:Int)) ((3:Int),v0,(0:Int),[],())))]))):=by kernel_rfl
def Eone_s9 (v0:Int) (v30:Int) (v31:Int) (o1000007:List (Int×Int×Int×List UInt8×Unit)):St:=St.mk [(0,AV.val (Ty.int IntKind.i64) v0),(7,AV.at_ 1000007 []),(30,AV.val (Ty.int IntKind.i64) v30),(31,AV.val (Ty.int IntKind.i64) v31)] [(1000007,Ent.own (Ty.slc true (Ty.pair (Ty.int IntKind.i64) (Ty.pair (Ty.int IntKind.i64) (Ty.pair (Ty.int IntKind.i64) (Ty.pair Ty.str Ty.unit))))) o1000007)]
theorem Eone_l9 (v0:Int) (v30:Int) (v31:Int) (o1000007:List (Int×Int×Int×List UInt8×Unit)):exec Eone 1000 (.code (loopAt (bodyOf Try.prog 47) 9).1::.inLoop (loopAt (bodyOf Try.prog 47) 9).1::(loopAt (bodyOf Try.prog 47) 9).2) (Eone_s9 v0 v30 v31 o1000007) =
  cond (decide (v31<v30)) (.need (List.length o1000007+List.length (List.set a00l (Int.toNat (↑0:Int)) ((4:Int),v0,v31,[],()))≤140737488355328∧(List.length o1000007+List.length (List.set a00l (Int.toNat (↑0:Int)) ((4:Int),v0,v31,[],())))*Ty.wb (Ty.pair (Ty.int IntKind.i64) (Ty.pair (Ty.int IntKind.i64) (Ty.pair (Ty.int IntKind.i64) (Ty.pair Ty.str Ty.unit))))≤140737488355328) (.need (inK IntKind.i64 (v31+(1:Int))) (.cut (loopAt (bodyOf Try.prog 47) 9).1 (loopAt (bodyOf Try.prog 47) 9).2 (St.mk [(0,AV.val (Ty.int IntKind.i64) v0),(7,AV.at_ 1000007 []),(30,AV.val (Ty.int IntKind.i64) v30),(31,AV.val (Ty.int IntKind.i64) (v31+(1:Int)))] [(1000007,Ent.own (Ty.slc true (Ty.pair (Ty.int IntKind.i64) (Ty.pair (Ty.int IntKind.i64) (Ty.pair (Ty.int IntKind.i64) (Ty.pair Ty.str Ty.unit))))) (o1000007++List.set a00l (Int.toNat (↑0:Int)) ((4:Int),v0,v31,[],())))])))) (.ret ((o1000007,()))):=by kernel_rfl
theorem wb_act:Ty.wb (Ty.pair (.int .i64) (.pair (.int .i64) (.pair (.int .i64) (.pair .str .unit))))=40:=rfl
theorem oneTo_succ {k b:Int} {n:Nat}:oneTo k b (n+1)=oneTo k b n++[(k,b,(n:Int),[],())]:=by
  show (List.range (n+1)).map _=_
  rw [List.range_succ,List.map_append]; rfl
theorem oneTo_len {k b:Int} {n:Nat}:(oneTo k b n).length=n:=by simp
theorem cone_valid:cone.Valid Try.prog 47:=by
  refine Ctr.valid_of Eone_ok rfl rfl Try.func47 (c:=bodyOf Try.prog 47) rfl rfl Fone_ok rfl ?_
  rintro ⟨(b:Int),(n0:Int),(t:List UInt8),⟨⟩⟩ ⟨(h0:0≤n0),(h1:n0≤10)⟩ -
  obtain ⟨n,rfl⟩:∃ n:Nat,n0=(n:Int):=⟨n0.toNat,by omega⟩
  refine exec_sound (n:=1000) Eone_ok Fone_ok ?_
  refine holds_of_eq (Eone_t b (n:Int) t) ?_
  refine Reach.loopI Eone_ok Fone_ok (fun i:Nat=>Eone_s3 b (n:Int) (n:Int) (i:Int) ([(1,b,0,t,())]++oneTo 2 b i)) (fun i=>i≤n) (fun i=>n - i) 1000 (fun _=>⟨uniq_of rfl,uniq_of rfl⟩) ?_ 0 (Nat.zero_le _)
  rintro i (k1:i≤n) - ih
  refine holds_of_eq (Eone_l3 ..) ?_
  have next:=fun h=>ih (i+1) h (by omega)
  rw [oneTo_succ] at next
  have hl:=@oneTo_len 2 b i
  generalize hLi:oneTo 2 b i=L at *
  simp only [holds_cond,Tree.holds,true_and,true_implies,decide_eq_true_eq,decide_eq_false_iff_not,Bool.not_eq_true',Bool.not_eq_false',Int.toNat_natCast,inK_i64,List.length_set,List.length_cons,List.length_nil,wb_act,List.length_append]
  refine ⟨fun c=>⟨by omega,fun _=>⟨by omega,fun _=>?_⟩⟩,fun c=>⟨by omega,fun _=>?_⟩⟩
  · have:=next (show i+1≤n by omega)
    rw [← List.append_assoc] at this
    exact this
  clear next ih
  have k2:i=n:=by omega
  have hfin:∀ m:Nat,L.length=m→m=n→L=oneTo 2 b n→Go.Ex.Reach Eone Try.f47 (oneF b (n:Int) t,()) () (.code (loopAt (bodyOf Try.prog 47) 9).1::.inLoop (loopAt (bodyOf Try.prog 47) 9).1::(loopAt (bodyOf Try.prog 47) 9).2) (Eone_s9 b (n:Int) ((0:Nat):Int) (([(1,b,0,t,())]++L++[(3,b,0,[],())])++oneTo 4 b 0)):=by
    rintro m hm rfl hL
    have hF:oneF b (m:Int) t=(([(1,b,0,t,())]++L++[(3,b,0,[],())])++oneTo 4 b m):=by rw [oneF,Int.toNat_natCast,← hL]
    rw [hF]
    have hpl:([(1,b,0,t,())]++L++[(3,b,0,[],())]:List ActD).length=m+2:=by simp [hm]
    generalize ([(1,b,0,t,())]++L++[(3,b,0,[],())]:List ActD)=P at *
    refine Reach.loopI Eone_ok Fone_ok (fun j:Nat=>Eone_s9 b (m:Int) (j:Int) (P++oneTo 4 b j)) (fun j=>j≤m) (fun j=>m - j) 1000 (fun _=>⟨uniq_of rfl,uniq_of rfl⟩) ?_ 0 (Nat.zero_le _)
    rintro j (j1:j≤m) - ih
    refine holds_of_eq (Eone_l9 ..) ?_
    have next:=fun h=>ih (j+1) h (by omega)
    rw [oneTo_succ] at next
    have hl:=@oneTo_len 4 b j
    simp only [holds_cond,Tree.holds,true_and,true_implies,decide_eq_true_eq,decide_eq_false_iff_not,Bool.not_eq_true',Bool.not_eq_false',Int.toNat_natCast,inK_i64,List.length_set,List.length_cons,List.length_nil,wb_act,List.length_append]
    refine ⟨fun c=>⟨by omega,fun _=>⟨by omega,fun _=>?_⟩⟩,fun c=>?_⟩
    · have:=next (show j+1≤m by omega)
      rw [← List.append_assoc] at this
      exact this
    · obtain rfl:j=m:=by omega
      rfl
  have:=hfin i hl k2 (by rw [← hLi,k2])
  rw [show oneTo 4 b 0=[] from rfl,List.append_nil] at this
  exact this
def votStep (st:SynodD×List (List UInt8)) (a:ActD):SynodD×List (List UInt8):=if stepE st.1 a≠0 then st else (stepS st.1 a,if a.1=1 then st.2++[a.2.2.2.1] else st.2)
def vot0 (n:Int):SynodD:=(List.replicate n.toNat v00,[],())
def votF (n:Int) (l:List ActD):SynodD×List (List UInt8):=l.foldl votStep (vot0 n,[])
def cvoted:Ctr:={ ps:=[.v I64,.v (.slc false Act)],rs:=[SynodO,.slc true .str,.bool],pre:=fun x=>LE.le (α:=Int) 1 x.1∧LE.le (α:=Int) x.1 6,fn:=fun x=>((votF x.1 x.2.1).1,(votF x.1 x.2.1).2,true,()),out:=fun _=>() }
noncomputable def Evoted:Env:={ P:=Try.prog,tt:=tt,ctr:=[(48,cchosen),(50,cscheck),(23,cstep)],res:=[Go.ResultVar.cell 4 39,Go.ResultVar.tmp 5,Go.ResultVar.tmp 6],rs:=[Ty.pair (Ty.slc true (Ty.pair (Ty.int IntKind.i64) (Ty.pair (Ty.int IntKind.i64) (Ty.pair Ty.str Ty.unit)))) (Ty.pair (Ty.slc true (Ty.pair (Ty.int IntKind.i64) (Ty.pair (Ty.int IntKind.i64) (Ty.pair (Ty.int IntKind.u8) (Ty.pair (Ty.int IntKind.u8) (Ty.pair Ty.bool (Ty.pair Ty.str Ty.unit))))))) Ty.unit),Ty.slc true Ty.str,Ty.bool],ps:=[PK.v (Ty.int IntKind.i64),PK.v (Ty.slc false (Ty.pair (Ty.int IntKind.i64) (Ty.pair (Ty.int IntKind.i64) (Ty.pair (Ty.int IntKind.i64) (Ty.pair Ty.str Ty.unit)))))],cuts:=[(7,[(0,none),(4,none),(7,none),(8,some (Ty.slc true Ty.str)),(36,none),(37,none),(38,none)])],nt:=68 }
theorem Evoted_ok:EnvOk Evoted:=envOk tt_ok ⟨cchosen_valid,cscheck_valid,cstep_valid,trivial⟩
theorem Fvoted_ok:FnOk Evoted Try.f46:=⟨rfl,rfl⟩
theorem Evoted_t (x0:Int) (x1:List (Int×Int×Int×List UInt8×Unit)):exec Evoted 1000 [.code (bodyOf Try.prog 46)] (initSt cvoted.ps ((x0,x1,()))) =
  .need ((0:Int)≤x0∧x0≤x0∧x0≤(140737488355328:Int)∧x0*(↑(Ty.wb (Ty.pair (Ty.int IntKind.i64) (Ty.pair (Ty.int IntKind.i64) (Ty.pair Ty.str Ty.unit)))):Int)≤(140737488355328:Int)) (.need (scheck (List.replicate (Int.toNat x0) ((0:Int),(0:Int),[],()),[],())=(0:Int)→∀ (a:List UInt8),a∈chosenL (List.replicate (Int.toNat x0) ((0:Int),(0:Int),[],()),[],())→∀ (b:List UInt8),b∈chosenL (List.replicate (Int.toNat x0) ((0:Int),(0:Int),[],()),[],())→a=b) (cond (decide (Prod.fst (Prod.snd (chosenR (List.replicate (Int.toNat x0) ((0:Int),(0:Int),[],()),[],())))≠(0:Int))) (.ret (((List.replicate (Int.toNat x0) ((0:Int),(0:Int),[],()),[],()),[],false,()))) (cond (decide ((0:Int)<(↑(List.length (Prod.fst (chosenR (List.replicate (Int.toNat x0) ((0:Int),(0:Int),[],()),[],())))):Int))) (.ret (((List.replicate (Int.toNat x0) ((0:Int),(0:Int),[],()),[],()),[],false,()))) (.need (True) (cond (decide (scheck (List.replicate (Int.toNat x0) ((0:Int),(0:Int),[],()),[],())≠(0:Int))) (.ret (((List.replicate (Int.toNat x0) ((0:Int),(0:Int),[],()),[],()),[],false,()))) (.cut (loopAt (bodyOf Try.prog 46) 7).1 (loopAt (bodyOf Try.prog 46) 7).2 (St.mk [(0,AV.val (Ty.int IntKind.i64) x0),(4,AV.ptr 4 []),(7,AV.ptr 7 []),(8,AV.at_ 1000008 []),(36,AV.val (Ty.slc false (Ty.pair (Ty.int IntKind.i64) (Ty.pair (Ty.int IntKind.i64) (Ty.pair (Ty.int IntKind.i64) (Ty.pair Ty.str Ty.unit))))) x1),(37,AV.val (Ty.int IntKind.i64) (↑(List.length x1):Int)),(38,AV.val (Ty.int IntKind.i64) (0:Int))] [(4,Ent.var (Ty.pair (Ty.slc true (Ty.pair (Ty.int IntKind.i64) (Ty.pair (Ty.int IntKind.i64) (Ty.pair Ty.str Ty.unit)))) (Ty.pair (Ty.slc true (Ty.pair (Ty.int IntKind.i64) (Ty.pair (Ty.int IntKind.i64) (Ty.pair (Ty.int IntKind.u8) (Ty.pair (Ty.int IntKind.u8) (Ty.pair Ty.bool (Ty.pair Ty.str Ty.unit))))))) Ty.unit)) ([],[],())),(7,Ent.var (Ty.pair (Ty.slc true (Ty.pair (Ty.int IntKind.i64) (Ty.pair (Ty.int IntKind.i64) (Ty.pair Ty.str Ty.unit)))) (Ty.pair (Ty.slc true (Ty.pair (Ty.int IntKind.i64) (Ty.pair (Ty.int IntKind.i64) (Ty.pair (Ty.int IntKind.u8) (Ty.pair (Ty.int IntKind.u8) (Ty.pair Ty.bool (Ty.pair Ty.str Ty.unit))))))) Ty.unit)) (List.replicate (Int.toNat x0) ((0:Int),(0:Int),[],()),[],())),(1000008,Ent.own (Ty.slc true Ty.str) [])]))))))):=by kernel_rfl
def Evoted_s7 (v0:Int) (v36:List (Int×Int×Int×List UInt8×Unit)) (v37:Int) (v38:Int) (o4_1:List (Int×Int×List UInt8×Unit)) (o4_2_1:List (Int×Int×Int×Int×Bool×List UInt8×Unit)) (o7_1:List (Int×Int×List UInt8×Unit)) (o7_2_1:List (Int×Int×Int×Int×Bool×List UInt8×Unit)) (o1000008:List (List UInt8)):St:=St.mk [(0,AV.val (Ty.int IntKind.i64) v0),(4,AV.ptr 4 []),(7,AV.ptr 7 []),(8,AV.at_ 1000008 []),(36,AV.val (Ty.slc false (Ty.pair (Ty.int IntKind.i64) (Ty.pair (Ty.int IntKind.i64) (Ty.pair (Ty.int IntKind.i64) (Ty.pair Ty.str Ty.unit))))) v36),(37,AV.val (Ty.int IntKind.i64) v37),(38,AV.val (Ty.int IntKind.i64) v38)] [(4,Ent.var (Ty.pair (Ty.slc true (Ty.pair (Ty.int IntKind.i64) (Ty.pair (Ty.int IntKind.i64) (Ty.pair Ty.str Ty.unit)))) (Ty.pair (Ty.slc true (Ty.pair (Ty.int IntKind.i64) (Ty.pair (Ty.int IntKind.i64) (Ty.pair (Ty.int IntKind.u8) (Ty.pair (Ty.int IntKind.u8) (Ty.pair Ty.bool (Ty.pair Ty.str Ty.unit))))))) Ty.unit)) (o4_1,o4_2_1,())),(7,Ent.var (Ty.pair (Ty.slc true (Ty.pair (Ty.int IntKind.i64) (Ty.pair (Ty.int IntKind.i64) (Ty.pair Ty.str Ty.unit)))) (Ty.pair (Ty.slc true (Ty.pair (Ty.int IntKind.i64) (Ty.pair (Ty.int IntKind.i64) (Ty.pair (Ty.int IntKind.u8) (Ty.pair (Ty.int IntKind.u8) (Ty.pair Ty.bool (Ty.pair Ty.str Ty.unit))))))) Ty.unit)) (o7_1,o7_2_1,())),(1000008,Ent.own (Ty.slc true Ty.str) o1000008)]
theorem Evoted_l7 (v0:Int) (v36:List (Int×Int×Int×List UInt8×Unit)) (v37:Int) (v38:Int) (o4_1:List (Int×Int×List UInt8×Unit)) (o4_2_1:List (Int×Int×Int×Int×Bool×List UInt8×Unit)) (o7_1:List (Int×Int×List UInt8×Unit)) (o7_2_1:List (Int×Int×Int×Int×Bool×List UInt8×Unit)) (o1000008:List (List UInt8)):exec Evoted 1000 (.code (loopAt (bodyOf Try.prog 46) 7).1::.inLoop (loopAt (bodyOf Try.prog 46) 7).1::(loopAt (bodyOf Try.prog 46) 7).2) (Evoted_s7 v0 v36 v37 v38 o4_1 o4_2_1 o7_1 o7_2_1 o1000008) =
  cond (decide (v38<v37)) (.need ((0:Int)≤v38∧v38<(↑(List.length v36):Int)) (.need (True) (cond (decide (Prod.fst (Prod.snd (stepR (o7_1,o7_2_1,()) (List.getD v36 (Int.toNat v38) ((0:Int),(0:Int),(0:Int),[],()))))≠(0:Int))) (.need (inK IntKind.i64 (v38+(1:Int))) (.cut (loopAt (bodyOf Try.prog 46) 7).1 (loopAt (bodyOf Try.prog 46) 7).2 (St.mk [(0,AV.val (Ty.int IntKind.i64) v0),(4,AV.ptr 4 []),(7,AV.ptr 7 []),(8,AV.at_ 1000008 []),(36,AV.val (Ty.slc false (Ty.pair (Ty.int IntKind.i64) (Ty.pair (Ty.int IntKind.i64) (Ty.pair (Ty.int IntKind.i64) (Ty.pair Ty.str Ty.unit))))) v36),(37,AV.val (Ty.int IntKind.i64) v37),(38,AV.val (Ty.int IntKind.i64) (v38+(1:Int)))] [(4,Ent.var (Ty.pair (Ty.slc true (Ty.pair (Ty.int IntKind.i64) (Ty.pair (Ty.int IntKind.i64) (Ty.pair Ty.str Ty.unit)))) (Ty.pair (Ty.slc true (Ty.pair (Ty.int IntKind.i64) (Ty.pair (Ty.int IntKind.i64) (Ty.pair (Ty.int IntKind.u8) (Ty.pair (Ty.int IntKind.u8) (Ty.pair Ty.bool (Ty.pair Ty.str Ty.unit))))))) Ty.unit)) (o4_1,o4_2_1,())),(7,Ent.var (Ty.pair (Ty.slc true (Ty.pair (Ty.int IntKind.i64) (Ty.pair (Ty.int IntKind.i64) (Ty.pair Ty.str Ty.unit)))) (Ty.pair (Ty.slc true (Ty.pair (Ty.int IntKind.i64) (Ty.pair (Ty.int IntKind.i64) (Ty.pair (Ty.int IntKind.u8) (Ty.pair (Ty.int IntKind.u8) (Ty.pair Ty.bool (Ty.pair Ty.str Ty.unit))))))) Ty.unit)) (o7_1,o7_2_1,())),(1000008,Ent.own (Ty.slc true Ty.str) o1000008)]))) (cond (decide ((↑(List.length (Prod.fst (Prod.fst (stepR (o7_1,o7_2_1,()) (List.getD v36 (Int.toNat v38) ((0:Int),(0:Int),(0:Int),[],())))))):Int)≠v0)) (.ret (((o7_1,o7_2_1,()),[],false,()))) (cond (decide (Prod.fst (List.getD v36 (Int.toNat v38) ((0:Int),(0:Int),(0:Int),[],()))=(1:Int))) (.need (List.length o1000008+List.length (List.set s1l (Int.toNat (↑0:Int)) (Prod.fst (Prod.snd (Prod.snd (Prod.snd (List.getD v36 (Int.toNat v38) ((0:Int),(0:Int),(0:Int),[],())))))))≤140737488355328∧(List.length o1000008+List.length (List.set s1l (Int.toNat (↑0:Int)) (Prod.fst (Prod.snd (Prod.snd (Prod.snd (List.getD v36 (Int.toNat v38) ((0:Int),(0:Int),(0:Int),[],()))))))))*Ty.wb Ty.str≤140737488355328) (.need (inK IntKind.i64 (v38+(1:Int))) (.cut (loopAt (bodyOf Try.prog 46) 7).1 (loopAt (bodyOf Try.prog 46) 7).2 (St.mk [(0,AV.val (Ty.int IntKind.i64) v0),(4,AV.ptr 4 []),(7,AV.ptr 7 []),(8,AV.at_ 1000008 []),(36,AV.val (Ty.slc false (Ty.pair (Ty.int IntKind.i64) (Ty.pair (Ty.int IntKind.i64) (Ty.pair (Ty.int IntKind.i64) (Ty.pair Ty.str Ty.unit))))) v36),(37,AV.val (Ty.int IntKind.i64) v37),(38,AV.val (Ty.int IntKind.i64) (v38+(1:Int)))] [(4,Ent.var (Ty.pair (Ty.slc true (Ty.pair (Ty.int IntKind.i64) (Ty.pair (Ty.int IntKind.i64) (Ty.pair Ty.str Ty.unit)))) (Ty.pair (Ty.slc true (Ty.pair (Ty.int IntKind.i64) (Ty.pair (Ty.int IntKind.i64) (Ty.pair (Ty.int IntKind.u8) (Ty.pair (Ty.int IntKind.u8) (Ty.pair Ty.bool (Ty.pair Ty.str Ty.unit))))))) Ty.unit)) (o4_1,o4_2_1,())),(7,Ent.var (Ty.pair (Ty.slc true (Ty.pair (Ty.int IntKind.i64) (Ty.pair (Ty.int IntKind.i64) (Ty.pair Ty.str Ty.unit)))) (Ty.pair (Ty.slc true (Ty.pair (Ty.int IntKind.i64) (Ty.pair (Ty.int IntKind.i64) (Ty.pair (Ty.int IntKind.u8) (Ty.pair (Ty.int IntKind.u8) (Ty.pair Ty.bool (Ty.pair Ty.str Ty.unit))))))) Ty.unit)) (Prod.fst (stepR (o7_1,o7_2_1,()) (List.getD v36 (Int.toNat v38) ((0:Int),(0:Int),(0:Int),[],()))))),(1000008,Ent.own (Ty.slc true Ty.str) (o1000008++List.set s1l (Int.toNat (↑0:Int)) (Prod.fst (Prod.snd (Prod.snd (Prod.snd (List.getD v36 (Int.toNat v38) ((0:Int),(0:Int),(0:Int),[],()))))))))])))) (.need (inK IntKind.i64 (v38+(1:Int))) (.cut (loopAt (bodyOf Try.prog 46) 7).1 (loopAt (bodyOf Try.prog 46) 7).2 (St.mk [(0,AV.val (Ty.int IntKind.i64) v0),(4,AV.ptr 4 []),(7,AV.ptr 7 []),(8,AV.at_ 1000008 []),(36,AV.val (Ty.slc false (Ty.pair (Ty.int IntKind.i64) (Ty.pair (Ty.int IntKind.i64) (Ty.pair (Ty.int IntKind.i64) (Ty.pair Ty.str Ty.unit))))) v36),(37,AV.val (Ty.int IntKind.i64) v37),(38,AV.val (Ty.int IntKind.i64) (v38+(1:Int)))] [(4,Ent.var (Ty.pair (Ty.slc true (Ty.pair (Ty.int IntKind.i64) (Ty.pair (Ty.int IntKind.i64) (Ty.pair Ty.str Ty.unit)))) (Ty.pair (Ty.slc true (Ty.pair (Ty.int IntKind.i64) (Ty.pair (Ty.int IntKind.i64) (Ty.pair (Ty.int IntKind.u8) (Ty.pair (Ty.int IntKind.u8) (Ty.pair Ty.bool (Ty.pair Ty.str Ty.unit))))))) Ty.unit)) (o4_1,o4_2_1,())),(7,Ent.var (Ty.pair (Ty.slc true (Ty.pair (Ty.int IntKind.i64) (Ty.pair (Ty.int IntKind.i64) (Ty.pair Ty.str Ty.unit)))) (Ty.pair (Ty.slc true (Ty.pair (Ty.int IntKind.i64) (Ty.pair (Ty.int IntKind.i64) (Ty.pair (Ty.int IntKind.u8) (Ty.pair (Ty.int IntKind.u8) (Ty.pair Ty.bool (Ty.pair Ty.str Ty.unit))))))) Ty.unit)) (Prod.fst (stepR (o7_1,o7_2_1,()) (List.getD v36 (Int.toNat v38) ((0:Int),(0:Int),(0:Int),[],()))))),(1000008,Ent.own (Ty.slc true Ty.str) o1000008)])))))))) (.ret (((o7_1,o7_2_1,()),o1000008,true,()))):=by kernel_rfl
theorem act_len {s:SynodD} {i:Nat} {a:ActD}:(actF s i a).1.length=s.1.length∧(actF s i a).2.1.length=s.2.1.length:=by
  rw [actF,actG]
  split
  · split
    · exact ⟨rfl,rfl⟩
    split
    · exact ⟨List.length_set,rfl⟩
    split
    · exact ⟨List.length_set,List.length_set⟩
    · exact ⟨List.length_set,List.length_set⟩
  split
  · exact ⟨rfl,List.length_set⟩
  split
  · split
    · exact ⟨List.length_set,List.length_set⟩
    · exact ⟨rfl,rfl⟩
  · exact ⟨rfl,rfl⟩
structure VotOk (n:Nat) (st:SynodD×List (List UInt8)):Prop where
  pax:Pax st.2 st.1.1 st.1.2.1
  len:st.1.1.length=n
  said:st.2.length=st.1.2.1.length
theorem VotOk.ok {n:Nat} {st:SynodD×List (List UInt8)} (h:VotOk n st):scheck st.1=0:=(scheck_iff h.pax.u8).2 h.pax.toSOk
theorem VotOk.did {n:Nat} {st:SynodD×List (List UInt8)} (h:VotOk n st) {a:ActD} (he:stepE st.1 a=0):VotOk n (stepS st.1 a,if a.1=1 then st.2++[a.2.2.2.1] else st.2):=by
  obtain ⟨⟨V,R,⟨⟩⟩,said⟩:=st
  have hd:=did_step he h.pax.toSOk
  refine ⟨h.pax.did hd,by rw [← h.len]; exact (hd.keeps h.pax.toSOk).1,?_⟩
  have h1:said.length=R.length:=h.said
  show (if a.1=1 then said++[a.2.2.2.1] else said).length=(stepS (V,R,()) a).2.1.length
  rw [stepS]
  split
  · rw [List.length_append,List.length_append,h1]; rfl
  · rw [act_len.2]; exact h1
theorem VotOk.step {n:Nat} {st:SynodD×List (List UInt8)} (h:VotOk n st) (a:ActD):VotOk n (votStep st a):=by
  rw [votStep]
  split
  · exact h
  · rename_i c; exact h.did (Decidable.not_not.1 c)
theorem VotOk.all {n:Nat}:∀ (l:List ActD) {st:SynodD×List (List UInt8)},VotOk n st→VotOk n (l.foldl votStep st)
  | [],_,h=>h
  | a::l,_,h=>(h.step a).all l
theorem vot0_ok {n:Int} (h1:1≤n) (h2:n≤6):VotOk n.toNat (vot0 n,[]):=by
  refine ⟨⟨⟨by rw [vot0,List.length_replicate]; omega,by simp [vot0],by simp [vot0],by simp [vot0],by simp [vot0],by simp [vot0],by simp [vot0],by simp [vot0],fun k hk=>?_⟩,by simp [vot0],by simp [vot0],by simp [vot0]⟩,by rw [vot0,List.length_replicate],by simp [vot0]⟩
  rw [vot0,List.length_replicate] at hk
  have e:(vot0 n).1.getD k v00=v00:=repF _ _ hk _
  rw [e]
  exact ⟨by decide,fun h=>absurd h (by decide),by simp [vot0],by simp [vot0],fun h=>absurd h (by decide),fun _=>rfl⟩
theorem VotOk.alike {n:Nat} {st:SynodD×List (List UInt8)} (h:VotOk n st):∀ a∈chosenL st.1,∀ b∈chosenL st.1,a=b:=by
  intro a ha b hb
  obtain ⟨x,hx,rfl⟩:=List.mem_map.1 ha
  obtain ⟨y,hy,rfl⟩:=List.mem_map.1 hb
  obtain ⟨x1,x2⟩:=List.mem_filter.1 hx
  obtain ⟨y1,y2⟩:=List.mem_filter.1 hy
  exact h.pax.agree y1 x1 (of_decide_eq_true y2) (of_decide_eq_true x2)
theorem VotOk.chosen {n:Nat} {st:SynodD×List (List UInt8)} (h:VotOk n st):chosenR st.1=((chosenL st.1).take 1,0,()):=by
  rw [chosenR,if_neg (by rw [h.ok]; simp)]
theorem votF_ok {n:Int} (h1:1≤n) (h2:n≤6) (l:List ActD):VotOk n.toNat (votF n l):=VotOk.all l (vot0_ok h1 h2)
theorem cvoted_valid:cvoted.Valid Try.prog 46:=by
  refine Ctr.valid_of Evoted_ok rfl rfl Try.func46 (c:=bodyOf Try.prog 46) rfl rfl Fvoted_ok rfl ?_
  rintro ⟨(n:Int),(l:List ActD),⟨⟩⟩ ⟨(h1:1≤n),(h2:n≤6)⟩ ⟨-,⟨hl,-⟩,-⟩
  have hl:l.length≤9223372036854775807:=hl
  refine exec_sound (n:=1000) Evoted_ok Fvoted_ok ?_
  refine holds_of_eq (Evoted_t n l) ?_
  have hw:Ty.wb .str=16:=rfl
  have hv0:=vot0_ok h1 h2
  have e0:((List.replicate (Int.toNat n) (0,0,[],()),[],()):SynodD)=vot0 n:=rfl
  have ev:Ty.wb (Ty.pair (.int .i64) (.pair (.int .i64) (.pair .str .unit)))=32:=rfl
  rw [e0,ev]
  have hal:=hv0.alike
  have hch:=hv0.chosen
  have hok:=hv0.ok
  have hal:∀ a∈chosenL (vot0 n),∀ b∈chosenL (vot0 n),a=b:=hal
  have hch:chosenR (vot0 n)=([],0,()):=hch
  have hok:scheck (vot0 n)=0:=hok
  rw [hch,hok]
  simp only [holds_cond,Tree.holds,true_and,true_implies,decide_eq_true_eq,decide_eq_false_iff_not,Bool.not_eq_true',Bool.not_eq_false',Int.toNat_natCast,inK_i64,List.length_set,List.length_cons,List.length_nil]
  refine ⟨by omega,fun _=>⟨hal,fun _=>⟨fun c=>absurd rfl c,fun _=>⟨fun c=>absurd c (by decide),fun _=>⟨fun c=>absurd rfl c,fun _=>?_⟩⟩⟩⟩⟩
  refine Reach.loopI Evoted_ok Fvoted_ok (fun s:Nat×SynodD×List (List UInt8)=>Evoted_s7 n l (l.length:Int) (s.1:Int) [] [] s.2.1.1 s.2.1.2.1 s.2.2) (fun s=>s.1≤l.length∧s.2=(l.take s.1).foldl votStep (vot0 n,[])) (fun s=>l.length - s.1) 1000 (fun _=>⟨uniq_of rfl,uniq_of rfl⟩) ?_ (0,vot0 n,[]) ⟨Nat.zero_le _,rfl⟩
  rintro ⟨i,⟨V,R,⟨⟩⟩,said⟩ ⟨(k1:i≤l.length),(k2:((V,R,()),said)=(l.take i).foldl votStep (vot0 n,[]))⟩ - ih
  have hok:VotOk n.toNat ((V,R,()),said):=by rw [k2]; exact VotOk.all _ hv0
  refine holds_of_eq (Evoted_l7 ..) ?_
  simp only [holds_cond,Tree.holds,true_and,true_implies,decide_eq_true_eq,decide_eq_false_iff_not,Bool.not_eq_true',Bool.not_eq_false',Int.toNat_natCast,inK_i64,List.length_set,List.length_cons,List.length_nil,hw]
  refine ⟨fun c=>⟨by omega,fun _=>?_⟩,fun c=>?_⟩
  · have hi:i<l.length:=by omega
    have tk:l.take (i+1)=l.take i++[l.getD i (0,0,0,[],())]:=by
      rw [List.take_add_one,List.getElem?_eq_getElem hi,List.getD_eq_getElem?_getD,List.getElem?_eq_getElem hi]; rfl
    generalize l.getD i (0,0,0,[],())=a at *
    have next:∀ s:SynodD×List (List UInt8),s=votStep ((V,R,()),said) a→_:=fun s e=>ih (i+1,s) ⟨hi,by show s=(l.take (i+1)).foldl votStep (vot0 n,[]); rw [tk,List.foldl_append,← k2,e]; rfl⟩ (by show l.length - (i+1)<l.length - i; omega)
    have hr30:=hok.pax.r30
    have hsd:said.length=R.length:=hok.said
    have hr30:R.length≤30:=hr30
    by_cases he:stepE (V,R,()) a≠0
    · have e1:votStep ((V,R,()),said) a=((V,R,()),said):=if_pos he
      rw [stepR_no he]
      exact ⟨fun _=>⟨by omega,fun _=>next _ e1.symm⟩,fun d=>absurd he d⟩
    · have he0:=Decidable.not_not.1 he
      have e1:votStep ((V,R,()),said) a=(stepS (V,R,()) a,if a.1=1 then said++[a.2.2.2.1] else said):=if_neg he
      have hlen:(stepS (V,R,()) a).1.length=n.toNat:=(hok.did he0).len
      rw [stepR_ok he0]
      refine ⟨fun d=>absurd rfl d,fun _=>⟨fun d=>absurd (show ((stepS (V,R,()) a).1.length:Int)=n by omega) d,fun _=>⟨fun e=>⟨by omega,fun _=>⟨by omega,fun _=>?_⟩⟩,fun e=>⟨by omega,fun _=>?_⟩⟩⟩⟩
      · rw [if_pos e] at e1
        exact next _ e1.symm
      · rw [if_neg e] at e1
        exact next _ e1.symm
  · rw [List.take_of_length_le (by omega)] at k2
    show (((V,R,()),said,true,()):SynodD×List (List UInt8)×Bool×Unit)=((votF n l).1,(votF n l).2,true,())
    rw [votF,← k2]
end Go.Proofs.Ytegigiecamjobaa
