/- snap.Play. No condition. -/
import Derived.Test.YtgmbfnlhmnpciaaSnaP
namespace Go.Proofs.Ytgmbfnlhmnpciaa
open Go.Ex
set_option maxRecDepth 100000
def p0:PicD:=([],[],false,[],0,())
def plF (v:List Int) (l:List MoveD):PicD×Int×Unit:=if snE v l≠0 then (p0,snE v l,()) else (picF (mvsF (g0 v) l l.length),0,())
def cplay:Ctr:={ ps:=[.v (.slc false I64),.v (.slc false Move)],rs:=[PictS,I64],pre:=fun _=>True,fn:=fun x=>plF x.1 x.2.1,out:=fun _=>() }
theorem wbsclI:Ty.wb I64=8:=rfl
def csclI:Ctr:={ ps:=[.v (.slc false I64)],rs:=[.slc true I64],pre:=fun x=>List.length (α:=Int) x.1≤1048576,fn:=fun x=>x,out:=fun _=>() }
noncomputable def EsclI:Env:={ P:=Try.prog,tt:=tt,ctr:=[],res:=[Go.ResultVar.tmp 2],rs:=[Ty.slc true (Ty.int IntKind.i64)],ps:=[PK.v (Ty.slc false (Ty.int IntKind.i64))],cuts:=[],nt:=8 }
theorem EsclI_ok:EnvOk EsclI:=envOk tt_ok trivial
theorem FsclI_ok:FnOk EsclI Try.f19:=⟨rfl,rfl⟩
theorem EsclI_t (x0:List Int):exec EsclI 1000 [.code (bodyOf Try.prog 19)] (initSt csclI.ps ((x0,()))) =
  .both (x0=[]) (.ret (([],()))) (.need ((0:Nat)+List.length x0≤140737488355328∧((0:Nat)+List.length x0)*Ty.wb (Ty.int IntKind.i64)≤140737488355328) (.ret (([]++x0,())))):=by kernel_rfl
theorem csclI_valid:csclI.Valid Try.prog 19:=by
  refine Ctr.valid_of EsclI_ok rfl rfl Try.func19 (c:=bodyOf Try.prog 19) rfl rfl FsclI_ok rfl ?_
  rintro ⟨(l:List (Int)),⟨⟩⟩ hp -
  have hp:l.length≤1048576:=hp
  refine exec_sound (n:=1000) EsclI_ok FsclI_ok ?_
  refine holds_of_eq (EsclI_t l) ?_
  simp only [holds_cond,Tree.holds,true_and,true_implies,decide_eq_true_eq,decide_eq_false_iff_not,Bool.not_eq_true',Bool.not_eq_false',Int.toNat_natCast,inK_i64,List.length_set,List.length_cons,List.length_nil,wbsclI]
  refine ⟨fun h=>?_,by omega,fun _=>rfl⟩
  show (([],()):List (Int)×Unit)=(l,())
  rw [show l=[] from h]
abbrev repL (n:Nat):List LaneD:=List.replicate n ([],false,0,())
noncomputable def Eplay:Env:={ P:=Try.prog,tt:=tt,ctr:=[(18,csnck),(19,csclI),(20,cmv),(21,cpic)],res:=[Go.ResultVar.cell 4 26,Go.ResultVar.tmp 5],rs:=[Ty.pair (Ty.slc false (Ty.int IntKind.i64)) (Ty.pair (Ty.slc true Is) (Ty.pair Ty.bool (Ty.pair (Ty.slc false (Ty.int IntKind.i64)) (Ty.pair (Ty.int IntKind.i64) Ty.unit)))),Ty.int IntKind.i64],ps:=[PK.v (Ty.slc false (Ty.int IntKind.i64)),PK.v (Ty.slc false (Ty.pair (Ty.int IntKind.i64) (Ty.pair (Ty.int IntKind.i64) PairT)))],cuts:=[(7,[(1,none),(4,none),(7,none),(8,none),(28,none),(29,none)]),(11,[(4,none),(8,none),(43,none),(44,none),(45,none)])],nt:=55 }
theorem Eplay_ok:EnvOk Eplay:=envOk tt_ok ⟨csnck_valid,csclI_valid,cmv_valid,cpic_valid,trivial⟩
theorem Fplay_ok:FnOk Eplay Try.f6:=⟨rfl,rfl⟩
theorem Eplay_t (x0:List Int) (x1:List (Int×Int×Int×Int×Unit)):exec Eplay 1000 [.code (bodyOf Try.prog 6)] (initSt cplay.ps ((x0,x1,()))) =
  .need (True) (cond (decide (snE x0 x1≠(0:Int))) (.ret ((([],[],false,[],(0:Int),()),snE x0 x1,()))) (.need (List.length x0≤1048576) (.need ((0:Int)≤(↑(List.length x0):Int)∧(↑(List.length x0):Int)≤(↑(List.length x0):Int)∧(↑(List.length x0):Int)≤(140737488355328:Int)∧(↑(List.length x0):Int)*(↑(Ty.wb (Ty.int IntKind.i64)):Int)≤(140737488355328:Int)) (.need ((0:Int)≤(↑(List.length x0):Int)∧(↑(List.length x0):Int)≤(↑(List.length x0):Int)∧(↑(List.length x0):Int)≤(140737488355328:Int)∧(↑(List.length x0):Int)*(↑(Ty.wb Ty.bool):Int)≤(140737488355328:Int)) (.cut (loopAt (bodyOf Try.prog 6) 7).1 (loopAt (bodyOf Try.prog 6) 7).2 (St.mk [(1,AV.val (Ty.slc false (Ty.pair (Ty.int IntKind.i64) (Ty.pair (Ty.int IntKind.i64) PairT))) x1),(4,AV.ptr 4 []),(7,AV.val (Ty.int IntKind.i64) (↑(List.length x0):Int)),(8,AV.ptr 27 []),(28,AV.val (Ty.int IntKind.i64) (↑(List.length x0):Int)),(29,AV.val (Ty.int IntKind.i64) (0:Int))] [(4,Ent.var (Ty.pair Is (Ty.pair (Ty.slc true Is) (Ty.pair Ty.bool (Ty.pair Is (Ty.pair (Ty.int IntKind.i64) Ty.unit))))) ([],[],false,[],(0:Int),())),(27,Ent.var (Ty.pair Is (Ty.pair Is (Ty.pair (Ty.slc true Ty.bool) (Ty.pair (Ty.slc true (Ty.slc true (Ty.pair Is (Ty.pair Ty.bool (Ty.pair (Ty.int IntKind.i64) Ty.unit))))) Ty.unit)))) (x0,List.replicate (Int.toNat (↑(List.length x0):Int)) (0:Int),List.replicate (Int.toNat (↑(List.length x0):Int)) false,[],()))])))))):=by kernel_rfl
def Eplay_s7 (v1:List (Int×Int×Int×Int×Unit)) (v7:Int) (v28:Int) (v29:Int) (o4_1:List Int) (o4_2_1:List (List Int)) (o4_2_2_1:Bool) (o4_2_2_2_1:List Int) (o4_2_2_2_2_1:Int) (o27_1:List Int) (o27_2_1:List Int) (o27_2_2_1:List Bool) (o27_2_2_2_1:List (List (List Int×Bool×Int×Unit))):St:=St.mk [(1,AV.val (Ty.slc false (Ty.pair (Ty.int IntKind.i64) (Ty.pair (Ty.int IntKind.i64) PairT))) v1),(4,AV.ptr 4 []),(7,AV.val (Ty.int IntKind.i64) v7),(8,AV.ptr 27 []),(28,AV.val (Ty.int IntKind.i64) v28),(29,AV.val (Ty.int IntKind.i64) v29)] [(4,Ent.var (Ty.pair Is (Ty.pair (Ty.slc true Is) (Ty.pair Ty.bool (Ty.pair Is (Ty.pair (Ty.int IntKind.i64) Ty.unit))))) (o4_1,o4_2_1,o4_2_2_1,o4_2_2_2_1,o4_2_2_2_2_1,())),(27,Ent.var (Ty.pair Is (Ty.pair Is (Ty.pair (Ty.slc true Ty.bool) (Ty.pair (Ty.slc true (Ty.slc true (Ty.pair Is (Ty.pair Ty.bool (Ty.pair (Ty.int IntKind.i64) Ty.unit))))) Ty.unit)))) (o27_1,o27_2_1,o27_2_2_1,o27_2_2_2_1,()))]
theorem Eplay_l7 (v1:List (Int×Int×Int×Int×Unit)) (v7:Int) (v28:Int) (v29:Int) (o4_1:List Int) (o4_2_1:List (List Int)) (o4_2_2_1:Bool) (o4_2_2_2_1:List Int) (o4_2_2_2_2_1:Int) (o27_1:List Int) (o27_2_1:List Int) (o27_2_2_1:List Bool) (o27_2_2_2_1:List (List (List Int×Bool×Int×Unit))):exec Eplay 1000 (.code (loopAt (bodyOf Try.prog 6) 7).1::.inLoop (loopAt (bodyOf Try.prog 6) 7).1::(loopAt (bodyOf Try.prog 6) 7).2) (Eplay_s7 v1 v7 v28 v29 o4_1 o4_2_1 o4_2_2_1 o4_2_2_2_1 o4_2_2_2_2_1 o27_1 o27_2_1 o27_2_2_1 o27_2_2_2_1) =
  cond (decide (v29<v28)) (.need ((0:Int)≤v7∧v7≤v7∧v7≤(140737488355328:Int)∧v7*(↑(Ty.wb (Ty.pair Is (Ty.pair Ty.bool (Ty.pair (Ty.int IntKind.i64) Ty.unit)))):Int)≤(140737488355328:Int)) (.need ([]++[Step.fld 3]=[]++[Step.fld 3]∧List.length o27_2_2_2_1+List.length (List.set [[]] (Int.toNat (↑0:Int)) (repL (Int.toNat v7)))≤140737488355328∧(List.length o27_2_2_2_1+List.length (List.set [[]] (Int.toNat (↑0:Int)) (repL (Int.toNat v7))))*Ty.wb (Ty.slc true (Ty.pair Is (Ty.pair Ty.bool (Ty.pair (Ty.int IntKind.i64) Ty.unit))))≤140737488355328) (.need (inK IntKind.i64 (v29+(1:Int))) (.cut (loopAt (bodyOf Try.prog 6) 7).1 (loopAt (bodyOf Try.prog 6) 7).2 (St.mk [(1,AV.val (Ty.slc false (Ty.pair (Ty.int IntKind.i64) (Ty.pair (Ty.int IntKind.i64) PairT))) v1),(4,AV.ptr 4 []),(7,AV.val (Ty.int IntKind.i64) v7),(8,AV.ptr 27 []),(28,AV.val (Ty.int IntKind.i64) v28),(29,AV.val (Ty.int IntKind.i64) (v29+(1:Int)))] [(4,Ent.var (Ty.pair Is (Ty.pair (Ty.slc true Is) (Ty.pair Ty.bool (Ty.pair Is (Ty.pair (Ty.int IntKind.i64) Ty.unit))))) (o4_1,o4_2_1,o4_2_2_1,o4_2_2_2_1,o4_2_2_2_2_1,())),(27,Ent.var (Ty.pair Is (Ty.pair Is (Ty.pair (Ty.slc true Ty.bool) (Ty.pair (Ty.slc true (Ty.slc true (Ty.pair Is (Ty.pair Ty.bool (Ty.pair (Ty.int IntKind.i64) Ty.unit))))) Ty.unit)))) (o27_1,o27_2_1,o27_2_2_1,o27_2_2_2_1++List.set [[]] (Int.toNat (↑0:Int)) (repL (Int.toNat v7)),()))]))))) (.cut (loopAt (bodyOf Try.prog 6) 11).1 (loopAt (bodyOf Try.prog 6) 11).2 (St.mk [(4,AV.ptr 4 []),(8,AV.ptr 27 []),(43,AV.val (Ty.slc false (Ty.pair (Ty.int IntKind.i64) (Ty.pair (Ty.int IntKind.i64) PairT))) v1),(44,AV.val (Ty.int IntKind.i64) (↑(List.length v1):Int)),(45,AV.val (Ty.int IntKind.i64) (0:Int))] [(4,Ent.var (Ty.pair Is (Ty.pair (Ty.slc true Is) (Ty.pair Ty.bool (Ty.pair Is (Ty.pair (Ty.int IntKind.i64) Ty.unit))))) (o4_1,o4_2_1,o4_2_2_1,o4_2_2_2_1,o4_2_2_2_2_1,())),(27,Ent.var (Ty.pair Is (Ty.pair Is (Ty.pair (Ty.slc true Ty.bool) (Ty.pair (Ty.slc true (Ty.slc true (Ty.pair Is (Ty.pair Ty.bool (Ty.pair (Ty.int IntKind.i64) Ty.unit))))) Ty.unit)))) (o27_1,o27_2_1,o27_2_2_1,o27_2_2_2_1,()))])):=by kernel_rfl
def Eplay_s11 (v43:List (Int×Int×Int×Int×Unit)) (v44:Int) (v45:Int) (o4_1:List Int) (o4_2_1:List (List Int)) (o4_2_2_1:Bool) (o4_2_2_2_1:List Int) (o4_2_2_2_2_1:Int) (o27_1:List Int) (o27_2_1:List Int) (o27_2_2_1:List Bool) (o27_2_2_2_1:List (List (List Int×Bool×Int×Unit))):St:=St.mk [(4,AV.ptr 4 []),(8,AV.ptr 27 []),(43,AV.val (Ty.slc false (Ty.pair (Ty.int IntKind.i64) (Ty.pair (Ty.int IntKind.i64) PairT))) v43),(44,AV.val (Ty.int IntKind.i64) v44),(45,AV.val (Ty.int IntKind.i64) v45)] [(4,Ent.var (Ty.pair Is (Ty.pair (Ty.slc true Is) (Ty.pair Ty.bool (Ty.pair Is (Ty.pair (Ty.int IntKind.i64) Ty.unit))))) (o4_1,o4_2_1,o4_2_2_1,o4_2_2_2_1,o4_2_2_2_2_1,())),(27,Ent.var (Ty.pair Is (Ty.pair Is (Ty.pair (Ty.slc true Ty.bool) (Ty.pair (Ty.slc true (Ty.slc true (Ty.pair Is (Ty.pair Ty.bool (Ty.pair (Ty.int IntKind.i64) Ty.unit))))) Ty.unit)))) (o27_1,o27_2_1,o27_2_2_1,o27_2_2_2_1,()))]
theorem Eplay_l11 (v43:List (Int×Int×Int×Int×Unit)) (v44:Int) (v45:Int) (o4_1:List Int) (o4_2_1:List (List Int)) (o4_2_2_1:Bool) (o4_2_2_2_1:List Int) (o4_2_2_2_2_1:Int) (o27_1:List Int) (o27_2_1:List Int) (o27_2_2_1:List Bool) (o27_2_2_2_1:List (List (List Int×Bool×Int×Unit))):exec Eplay 1000 (.code (loopAt (bodyOf Try.prog 6) 11).1::.inLoop (loopAt (bodyOf Try.prog 6) 11).1::(loopAt (bodyOf Try.prog 6) 11).2) (Eplay_s11 v43 v44 v45 o4_1 o4_2_1 o4_2_2_1 o4_2_2_2_1 o4_2_2_2_2_1 o27_1 o27_2_1 o27_2_2_1 o27_2_2_2_1) =
  cond (decide (v45<v44)) (.need ((0:Int)≤v45∧v45<(↑(List.length v43):Int)) (.need (∃ n,Sized n (o27_1,o27_2_1,o27_2_2_1,o27_2_2_2_1,())∧Small (o27_1,o27_2_1,o27_2_2_1,o27_2_2_2_1,())∧MvOk n (List.getD v43 (Int.toNat v45) ((0:Int),(0:Int),(0:Int),(0:Int),()))) (.need (inK IntKind.i64 (v45+(1:Int))) (.cut (loopAt (bodyOf Try.prog 6) 11).1 (loopAt (bodyOf Try.prog 6) 11).2 (St.mk [(4,AV.ptr 4 []),(8,AV.ptr 27 []),(43,AV.val (Ty.slc false (Ty.pair (Ty.int IntKind.i64) (Ty.pair (Ty.int IntKind.i64) PairT))) v43),(44,AV.val (Ty.int IntKind.i64) v44),(45,AV.val (Ty.int IntKind.i64) (v45+(1:Int)))] [(4,Ent.var (Ty.pair Is (Ty.pair (Ty.slc true Is) (Ty.pair Ty.bool (Ty.pair Is (Ty.pair (Ty.int IntKind.i64) Ty.unit))))) (o4_1,o4_2_1,o4_2_2_1,o4_2_2_2_1,o4_2_2_2_2_1,())),(27,Ent.var (Ty.pair Is (Ty.pair Is (Ty.pair (Ty.slc true Ty.bool) (Ty.pair (Ty.slc true (Ty.slc true (Ty.pair Is (Ty.pair Ty.bool (Ty.pair (Ty.int IntKind.i64) Ty.unit))))) Ty.unit)))) (mvF (o27_1,o27_2_1,o27_2_2_1,o27_2_2_2_1,()) (List.getD v43 (Int.toNat v45) ((0:Int),(0:Int),(0:Int),(0:Int),()))))]))))) (.need (∃ n,n≤6∧Sized n (o27_1,o27_2_1,o27_2_2_1,o27_2_2_2_1,())∧Small (o27_1,o27_2_1,o27_2_2_1,o27_2_2_2_1,())) (.ret (((o27_2_1,Prod.fst (picS o27_2_2_2_1 (!decide (false∈o27_2_2_1)) (List.length o27_2_2_2_1)),Prod.fst (Prod.snd (picS o27_2_2_2_1 (!decide (false∈o27_2_2_1)) (List.length o27_2_2_2_1))),o27_1,Prod.snd (Prod.snd (picS o27_2_2_2_1 (!decide (false∈o27_2_2_1)) (List.length o27_2_2_2_1))),()),(0:Int),())))):=by kernel_rfl
theorem cplay_valid:cplay.Valid Try.prog 6:=by
  refine Ctr.valid_of Eplay_ok rfl rfl Try.func6 (c:=bodyOf Try.prog 6) rfl rfl Fplay_ok rfl ?_
  rintro ⟨(v:List Int),(l:List MoveD),⟨⟩⟩ - -
  refine exec_sound (n:=1000) Eplay_ok Fplay_ok ?_
  refine holds_of_eq (Eplay_t v l) ?_
  have w8:Ty.wb (.int .i64)=8:=rfl
  have w1:Ty.wb .bool=1:=rfl
  have wl:Ty.wb Lane=40:=rfl
  have ws:Ty.wb (.slc true Lane)=24:=rfl
  simp only [holds_cond,Tree.holds,true_and,true_implies,decide_eq_true_eq,decide_eq_false_iff_not,Bool.not_eq_true',Bool.not_eq_false',Int.toNat_natCast,inK_i64,List.length_set,List.length_cons,List.length_nil,w8,w1]
  refine ⟨fun a=>?_,fun a=>?_⟩
  · show ((p0,snE v l,()):PicD×Int×Unit)=plF v l
    rw [plF,if_pos a]
  have a:=Decidable.not_not.1 a
  obtain ⟨h1,h2,h3,h4⟩:=snE_ok a
  have hfin:plF v l=(picF (mvsF (g0 v) l l.length),0,()):=if_neg (by rw [a]; simp)
  have hW:=GW.moves a
  refine ⟨by omega,fun _=>⟨⟨by omega,by omega,by omega,by omega⟩,fun _=>⟨⟨by omega,by omega,by omega,by omega⟩,fun _=>?_⟩⟩⟩
  refine Reach.loopI Eplay_ok Fplay_ok (fun i:Nat=>Eplay_s7 l (v.length:Int) (v.length:Int) (i:Int) [] [] false [] 0 v (List.replicate v.length 0) (List.replicate v.length false) (List.replicate i (List.replicate v.length l0))) (fun i=>i≤v.length) (fun i=>v.length - i) 1000 (fun _=>⟨uniq_of rfl,uniq_of rfl⟩) ?_ 0 (Nat.zero_le _)
  rintro i (k1:i≤v.length) - ih
  refine holds_of_eq (Eplay_l7 ..) ?_
  simp only [holds_cond,Tree.holds,true_and,true_implies,decide_eq_true_eq,decide_eq_false_iff_not,Bool.not_eq_true',Bool.not_eq_false',Int.toNat_natCast,inK_i64,List.length_set,List.length_cons,List.length_nil,wl,ws,List.length_replicate]
  refine ⟨fun c=>⟨⟨by omega,by omega,by omega,by omega⟩,fun _=>⟨⟨by omega,by omega⟩,fun _=>⟨by omega,fun _=>?_⟩⟩⟩,fun c=>?_⟩
  · have next:=ih (i+1) (by omega) (by omega)
    rw [List.replicate_succ'] at next
    exact next
  obtain rfl:i=v.length:=by omega
  refine Reach.loopI Eplay_ok Fplay_ok (fun k:Nat=>Eplay_s11 l (l.length:Int) (k:Int) [] [] false [] 0 (mvsF (g0 v) l k).1 (mvsF (g0 v) l k).2.1 (mvsF (g0 v) l k).2.2.1 (mvsF (g0 v) l k).2.2.2.1) (fun k=>k≤l.length) (fun k=>l.length - k) 1000 (fun _=>⟨uniq_of rfl,uniq_of rfl⟩) ?_ 0 (Nat.zero_le _)
  rintro k (k2:k≤l.length) - ih2
  refine holds_of_eq (Eplay_l11 ..) ?_
  have hk:=hW k k2
  simp only [holds_cond,Tree.holds,true_and,true_implies,decide_eq_true_eq,decide_eq_false_iff_not,Bool.not_eq_true',Bool.not_eq_false',Int.toNat_natCast,inK_i64,List.length_set,List.length_cons,List.length_nil]
  refine ⟨fun c2=>⟨⟨by omega,by omega⟩,fun _=>⟨⟨v.length,hk.sized (by omega),hk.small (by omega),h4 k (by omega)⟩,fun _=>⟨by omega,fun _=>?_⟩⟩⟩,fun c2=>?_⟩
  · exact ih2 (k+1) (by omega) (by omega)
  · obtain rfl:k=l.length:=by omega
    refine ⟨⟨v.length,h1.2,hk.sized (by omega),hk.small (by omega)⟩,fun _=>?_⟩
    show ((picF (mvsF (g0 v) l l.length),0,()):PicD×Int×Unit)=plF v l
    rw [hfin]
end Go.Proofs.Ytgmbfnlhmnpciaa
