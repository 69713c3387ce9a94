/- poset.Order. No condition. -/
import Derived.Test.YtegigiecamjobaaPosA
import Derived.Test.YtegigiecamjobaaMatchK
namespace Go.Proofs.Ytegigiecamjobaa
open Go.Ex
set_option maxRecDepth 100000
def readyB (R:Nat→Nat→Bool) (n:Nat) (out:List Int) (b:Nat):Bool:=!decide ((b:Int)∈out) && (List.range n).all (fun a=>!R a b || decide ((a:Int)∈out))
def nextO (R:Nat→Nat→Bool) (n:Nat) (out:List Int):Nat→Nat→Option Nat
  | 0,_=>none
  | k+1,b=>if readyB R n out b=true then some b else nextO R n out k (b+1)
def orderN (R:Nat→Nat→Bool) (n:Nat):Nat→List Int→List Int
  | 0,out=>out
  | k+1,out=>match nextO R n out n 0 with
    | some b=>orderN R n k (out++[(b:Int)])
    | none=>out
theorem nextO_none {R:Nat→Nat→Bool} {n:Nat} {out:List Int}:∀ {k b:Nat},nextO R n out k b=none→∀ c,b≤c→c<b+k→readyB R n out c=false
  | 0,b,_,c,h1,h2=>by omega
  | k+1,b,h,c,h1,h2=>by
    rw [nextO] at h
    split at h
    · cases h
    · rename_i hr
      by_cases e:c=b
      · subst e; exact Bool.not_eq_true _ |>.mp hr
      · exact nextO_none h c (by omega) (by omega)
theorem nextO_some {R:Nat→Nat→Bool} {n:Nat} {out:List Int}:∀ {k b c:Nat},nextO R n out k b=some c→(b≤c∧c<b+k)∧readyB R n out c=true
  | 0,b,c,h=>by cases h
  | k+1,b,c,h=>by
    rw [nextO] at h
    split at h
    · rename_i hr; cases h; exact ⟨⟨by omega,by omega⟩,hr⟩
    · obtain ⟨h1,h2⟩:=nextO_some h
      exact ⟨⟨by omega,by omega⟩,h2⟩
def before (R:Nat→Nat→Bool) (n b:Nat):List Nat:=(List.range n).filter (fun a=>R a b)
theorem before_lt {R:Nat→Nat→Bool} {n a b:Nat} (ht:∀ x y z,R x y=true→R y z=true→R x z=true) (hi:∀ x,R x x=false) (ha:a<n) (h:R a b=true):(before R n a).length<(before R n b).length:=by
  have hnd:∀ c,(before R n c).Nodup:=fun c=>List.Pairwise.sublist List.filter_sublist List.nodup_range
  have h1:(a::before R n a).Nodup:=List.nodup_cons.2 ⟨fun h=>(by have:=(List.mem_filter.1 h).2; rw [hi] at this; cases this),hnd a⟩
  have:=nodup_sub h1 (S:=before R n b) (fun x hx=>by
    rcases List.mem_cons.1 hx with rfl|hx
    · exact List.mem_filter.2 ⟨List.mem_range.2 ha,h⟩
    · obtain ⟨h2,h3⟩:=List.mem_filter.1 hx
      exact List.mem_filter.2 ⟨h2,ht _ _ _ h3 h⟩)
  rw [List.length_cons] at this
  omega
theorem ready_of {R:Nat→Nat→Bool} {n:Nat} {out:List Int} (ht:∀ x y z,R x y=true→R y z=true→R x z=true) (hi:∀ x,R x x=false):∀ k b:Nat,(before R n b).length<k→b<n→(b:Int)∉out→∃ c,c<n∧readyB R n out c=true
  | 0,b,h,_,_=>by omega
  | k+1,b,h,hb,hno=>by
    by_cases hr:readyB R n out b=true
    · exact ⟨b,hb,hr⟩
    · rw [readyB,decide_eq_false hno,Bool.not_false,Bool.true_and,List.all_eq_true] at hr
      obtain ⟨a,ha⟩:=Classical.not_forall.1 hr
      obtain ⟨h1,h2⟩:=Classical.not_imp.1 ha
      have h1:=List.mem_range.1 h1
      simp only [Bool.or_eq_true,Bool.not_eq_true',decide_eq_true_eq,not_or,Bool.not_eq_false] at h2
      have:=before_lt ht hi h1 h2.1
      exact ready_of ht hi k a (by omega) h1 h2.2
theorem next_is {R:Nat→Nat→Bool} {n:Nat} {out:List Int} (ht:∀ x y z,R x y=true→R y z=true→R x z=true) (hi:∀ x,R x x=false) (hl:out.length<n):nextO R n out n 0≠none:=by
  intro h
  have h1:∃ b,b<n∧(b:Int)∉out:=by
    refine Classical.byContradiction (fun hno=>?_)
    have:=nodup_sub (l:=(List.range n).map (fun a:Nat=>(a:Int))) (S:=out) (by
      rw [List.nodup_iff_pairwise_ne,List.pairwise_map]
      exact List.pairwise_lt_range.imp (fun h=>by omega)) (fun x hx=>by
      obtain ⟨a,ha,rfl⟩:=List.mem_map.1 hx
      exact Classical.byContradiction (fun hh=>hno ⟨a,List.mem_range.1 ha,hh⟩))
    rw [List.length_map,List.length_range] at this
    omega
  obtain ⟨b,hb,hno⟩:=h1
  obtain ⟨c,hc,hr⟩:=ready_of ht hi (n:=n) (out:=out) _ b (Nat.lt_succ_self _) hb hno
  rw [nextO_none h c (by omega) (by omega)] at hr
  cases hr
def orderR (n:Int) (l:List PairD):List Int×Int×Unit:=if pcheck n l≠0 then ([],pcheck n l,()) else (orderN (wk (relP l) n.toNat) n.toNat n.toNat [],0,())
def corder:Ctr:={ ps:=[.v Pos],rs:=[.slc true I64,I64],pre:=fun _=>True,fn:=fun x=>orderR x.1.1 x.1.2.1,out:=fun _=>() }
noncomputable def Eorder:Env:={ P:=Try.prog,tt:=tt,ctr:=[(102,cpcheckR),(34,ccontI)],res:=[Go.ResultVar.tmp 2,Go.ResultVar.tmp 3],rs:=[Ty.slc true (Ty.int IntKind.i64),Ty.int IntKind.i64],ps:=[PK.v (Ty.pair (Ty.int IntKind.i64) (Ty.pair (Ty.slc false PairT) Ty.unit))],cuts:=[(5,[(1,none),(4,none),(6,some Is)]),(7,[(1,none),(4,none),(6,some Is),(24,none),(25,none)]),(12,[(1,none),(4,none),(6,some Is),(7,none),(8,none),(24,none),(25,none),(32,none),(33,none)])],nt:=58 }
theorem Eorder_ok:EnvOk Eorder:=envOk tt_ok ⟨cpcheckR_valid,ccontI_valid,trivial⟩
theorem Forder_ok:FnOk Eorder Try.f109:=⟨rfl,rfl⟩
theorem Eorder_t (x0_1:Int) (x0_2_1:List (Int×Int×Unit)):exec Eorder 1000 [.code (bodyOf Try.prog 109)] (initSt corder.ps (((x0_1,x0_2_1,()),()))) =
  .need (True) (cond (decide (Prod.fst (Prod.snd (pcheckR x0_1 x0_2_1))≠(0:Int))) (.ret (([],Prod.fst (Prod.snd (pcheckR x0_1 x0_2_1)),()))) (.cut (loopAt (bodyOf Try.prog 109) 5).1 (loopAt (bodyOf Try.prog 109) 5).2 (St.mk [(1,AV.ptr 1 []),(4,AV.ptr 4 []),(6,AV.at_ 1000006 [])] [(1,Ent.var (Ty.pair (Ty.int IntKind.i64) (Ty.pair (Ty.slc false PairT) Ty.unit)) (x0_1,x0_2_1,())),(4,Ent.var (Ty.arr 20 (Ty.arr 20 Ty.bool)) (Prod.fst (pcheckR x0_1 x0_2_1))),(1000006,Ent.own Is [])]))):=by kernel_rfl
def Eorder_s5 (o1_1:Int) (o1_2_1:List (Int×Int×Unit)) (o4:List (List Bool)) (o1000006:List Int):St:=St.mk [(1,AV.ptr 1 []),(4,AV.ptr 4 []),(6,AV.at_ 1000006 [])] [(1,Ent.var (Ty.pair (Ty.int IntKind.i64) (Ty.pair (Ty.slc false PairT) Ty.unit)) (o1_1,o1_2_1,())),(4,Ent.var (Ty.arr 20 (Ty.arr 20 Ty.bool)) o4),(1000006,Ent.own Is o1000006)]
theorem Eorder_l5 (o1_1:Int) (o1_2_1:List (Int×Int×Unit)) (o4:List (List Bool)) (o1000006:List Int):exec Eorder 1000 (.code (loopAt (bodyOf Try.prog 109) 5).1::.inLoop (loopAt (bodyOf Try.prog 109) 5).1::(loopAt (bodyOf Try.prog 109) 5).2) (Eorder_s5 o1_1 o1_2_1 o4 o1000006) =
  cond (decide ((↑(List.length o1000006):Int)<o1_1)) (.cut (loopAt (bodyOf Try.prog 109) 7).1 (loopAt (bodyOf Try.prog 109) 7).2 (St.mk [(1,AV.ptr 1 []),(4,AV.ptr 4 []),(6,AV.at_ 1000006 []),(24,AV.val (Ty.int IntKind.i64) o1_1),(25,AV.val (Ty.int IntKind.i64) (0:Int))] [(1,Ent.var (Ty.pair (Ty.int IntKind.i64) (Ty.pair (Ty.slc false PairT) Ty.unit)) (o1_1,o1_2_1,())),(4,Ent.var (Ty.arr 20 (Ty.arr 20 Ty.bool)) o4),(1000006,Ent.own Is o1000006)])) (.ret ((o1000006,(0:Int),()))):=by kernel_rfl
def Eorder_s7 (v24:Int) (v25:Int) (o1_1:Int) (o1_2_1:List (Int×Int×Unit)) (o4:List (List Bool)) (o1000006:List Int):St:=St.mk [(1,AV.ptr 1 []),(4,AV.ptr 4 []),(6,AV.at_ 1000006 []),(24,AV.val (Ty.int IntKind.i64) v24),(25,AV.val (Ty.int IntKind.i64) v25)] [(1,Ent.var (Ty.pair (Ty.int IntKind.i64) (Ty.pair (Ty.slc false PairT) Ty.unit)) (o1_1,o1_2_1,())),(4,Ent.var (Ty.arr 20 (Ty.arr 20 Ty.bool)) o4),(1000006,Ent.own Is o1000006)]
theorem Eorder_l7 (v24:Int) (v25:Int) (o1_1:Int) (o1_2_1:List (Int×Int×Unit)) (o4:List (List Bool)) (o1000006:List Int):exec Eorder 1000 (.code (loopAt (bodyOf Try.prog 109) 7).1::.inLoop (loopAt (bodyOf Try.prog 109) 7).1::(loopAt (bodyOf Try.prog 109) 7).2) (Eorder_s7 v24 v25 o1_1 o1_2_1 o4 o1000006) =
  cond (decide (v25<v24)) (.need (True) (cond (decide (v25∈o1000006)) (.need (inK IntKind.i64 (v25+(1:Int))) (.cut (loopAt (bodyOf Try.prog 109) 7).1 (loopAt (bodyOf Try.prog 109) 7).2 (St.mk [(1,AV.ptr 1 []),(4,AV.ptr 4 []),(6,AV.at_ 1000006 []),(24,AV.val (Ty.int IntKind.i64) v24),(25,AV.val (Ty.int IntKind.i64) (v25+(1:Int)))] [(1,Ent.var (Ty.pair (Ty.int IntKind.i64) (Ty.pair (Ty.slc false PairT) Ty.unit)) (o1_1,o1_2_1,())),(4,Ent.var (Ty.arr 20 (Ty.arr 20 Ty.bool)) o4),(1000006,Ent.own Is o1000006)]))) (.cut (loopAt (bodyOf Try.prog 109) 12).1 (loopAt (bodyOf Try.prog 109) 12).2 (St.mk [(1,AV.ptr 1 []),(4,AV.ptr 4 []),(6,AV.at_ 1000006 []),(7,AV.val (Ty.int IntKind.i64) v25),(8,AV.val Ty.bool true),(24,AV.val (Ty.int IntKind.i64) v24),(25,AV.val (Ty.int IntKind.i64) v25),(32,AV.val (Ty.int IntKind.i64) o1_1),(33,AV.val (Ty.int IntKind.i64) (0:Int))] [(1,Ent.var (Ty.pair (Ty.int IntKind.i64) (Ty.pair (Ty.slc false PairT) Ty.unit)) (o1_1,o1_2_1,())),(4,Ent.var (Ty.arr 20 (Ty.arr 20 Ty.bool)) o4),(1000006,Ent.own Is o1000006)])))) (.cut (loopAt (bodyOf Try.prog 109) 5).1 (loopAt (bodyOf Try.prog 109) 5).2 (St.mk [(1,AV.ptr 1 []),(4,AV.ptr 4 []),(6,AV.at_ 1000006 [])] [(1,Ent.var (Ty.pair (Ty.int IntKind.i64) (Ty.pair (Ty.slc false PairT) Ty.unit)) (o1_1,o1_2_1,())),(4,Ent.var (Ty.arr 20 (Ty.arr 20 Ty.bool)) o4),(1000006,Ent.own Is o1000006)])):=by kernel_rfl
def Eorder_s12 (v7:Int) (v8:Bool) (v24:Int) (v25:Int) (v32:Int) (v33:Int) (o1_1:Int) (o1_2_1:List (Int×Int×Unit)) (o4:List (List Bool)) (o1000006:List Int):St:=St.mk [(1,AV.ptr 1 []),(4,AV.ptr 4 []),(6,AV.at_ 1000006 []),(7,AV.val (Ty.int IntKind.i64) v7),(8,AV.val Ty.bool v8),(24,AV.val (Ty.int IntKind.i64) v24),(25,AV.val (Ty.int IntKind.i64) v25),(32,AV.val (Ty.int IntKind.i64) v32),(33,AV.val (Ty.int IntKind.i64) v33)] [(1,Ent.var (Ty.pair (Ty.int IntKind.i64) (Ty.pair (Ty.slc false PairT) Ty.unit)) (o1_1,o1_2_1,())),(4,Ent.var (Ty.arr 20 (Ty.arr 20 Ty.bool)) o4),(1000006,Ent.own Is o1000006)]
theorem Eorder_l12 (v7:Int) (v8:Bool) (v24:Int) (v25:Int) (v32:Int) (v33:Int) (o1_1:Int) (o1_2_1:List (Int×Int×Unit)) (o4:List (List Bool)) (o1000006:List Int):exec Eorder 1000 (.code (loopAt (bodyOf Try.prog 109) 12).1::.inLoop (loopAt (bodyOf Try.prog 109) 12).1::(loopAt (bodyOf Try.prog 109) 12).2) (Eorder_s12 v7 v8 v24 v25 v32 v33 o1_1 o1_2_1 o4 o1000006) =
  cond (decide (v33<v32)) (cond (v8) (.need ((0:Int)≤v33∧v33<(↑20:Int)) (.need ((0:Int)≤v7∧v7<(↑20:Int)) (cond (!List.getD (List.getD o4 (Int.toNat v33) [false,false,false,false,false,false,false,false,false,false,false,false,false,false,false,false,false,false,false,false]) (Int.toNat v7) false) (.need (inK IntKind.i64 (v33+(1:Int))) (.cut (loopAt (bodyOf Try.prog 109) 12).1 (loopAt (bodyOf Try.prog 109) 12).2 (St.mk [(1,AV.ptr 1 []),(4,AV.ptr 4 []),(6,AV.at_ 1000006 []),(7,AV.val (Ty.int IntKind.i64) v7),(8,AV.val Ty.bool true),(24,AV.val (Ty.int IntKind.i64) v24),(25,AV.val (Ty.int IntKind.i64) v25),(32,AV.val (Ty.int IntKind.i64) v32),(33,AV.val (Ty.int IntKind.i64) (v33+(1:Int)))] [(1,Ent.var (Ty.pair (Ty.int IntKind.i64) (Ty.pair (Ty.slc false PairT) Ty.unit)) (o1_1,o1_2_1,())),(4,Ent.var (Ty.arr 20 (Ty.arr 20 Ty.bool)) o4),(1000006,Ent.own Is o1000006)]))) (.need (True) (.need (inK IntKind.i64 (v33+(1:Int))) (.cut (loopAt (bodyOf Try.prog 109) 12).1 (loopAt (bodyOf Try.prog 109) 12).2 (St.mk [(1,AV.ptr 1 []),(4,AV.ptr 4 []),(6,AV.at_ 1000006 []),(7,AV.val (Ty.int IntKind.i64) v7),(8,AV.val Ty.bool (decide (v33∈o1000006))),(24,AV.val (Ty.int IntKind.i64) v24),(25,AV.val (Ty.int IntKind.i64) v25),(32,AV.val (Ty.int IntKind.i64) v32),(33,AV.val (Ty.int IntKind.i64) (v33+(1:Int)))] [(1,Ent.var (Ty.pair (Ty.int IntKind.i64) (Ty.pair (Ty.slc false PairT) Ty.unit)) (o1_1,o1_2_1,())),(4,Ent.var (Ty.arr 20 (Ty.arr 20 Ty.bool)) o4),(1000006,Ent.own Is o1000006)]))))))) (.need (inK IntKind.i64 (v33+(1:Int))) (.cut (loopAt (bodyOf Try.prog 109) 12).1 (loopAt (bodyOf Try.prog 109) 12).2 (St.mk [(1,AV.ptr 1 []),(4,AV.ptr 4 []),(6,AV.at_ 1000006 []),(7,AV.val (Ty.int IntKind.i64) v7),(8,AV.val Ty.bool false),(24,AV.val (Ty.int IntKind.i64) v24),(25,AV.val (Ty.int IntKind.i64) v25),(32,AV.val (Ty.int IntKind.i64) v32),(33,AV.val (Ty.int IntKind.i64) (v33+(1:Int)))] [(1,Ent.var (Ty.pair (Ty.int IntKind.i64) (Ty.pair (Ty.slc false PairT) Ty.unit)) (o1_1,o1_2_1,())),(4,Ent.var (Ty.arr 20 (Ty.arr 20 Ty.bool)) o4),(1000006,Ent.own Is o1000006)])))) (cond (v8) (.need (List.length o1000006+List.length (List.set [(0:Int)] (Int.toNat (↑0:Int)) v7)≤140737488355328∧(List.length o1000006+List.length (List.set [(0:Int)] (Int.toNat (↑0:Int)) v7))*Ty.wb (Ty.int IntKind.i64)≤140737488355328) (.cut (loopAt (bodyOf Try.prog 109) 5).1 (loopAt (bodyOf Try.prog 109) 5).2 (St.mk [(1,AV.ptr 1 []),(4,AV.ptr 4 []),(6,AV.at_ 1000006 [])] [(1,Ent.var (Ty.pair (Ty.int IntKind.i64) (Ty.pair (Ty.slc false PairT) Ty.unit)) (o1_1,o1_2_1,())),(4,Ent.var (Ty.arr 20 (Ty.arr 20 Ty.bool)) o4),(1000006,Ent.own Is (o1000006++List.set [(0:Int)] (Int.toNat (↑0:Int)) v7))]))) (.need (inK IntKind.i64 (v25+(1:Int))) (.cut (loopAt (bodyOf Try.prog 109) 7).1 (loopAt (bodyOf Try.prog 109) 7).2 (St.mk [(1,AV.ptr 1 []),(4,AV.ptr 4 []),(6,AV.at_ 1000006 []),(24,AV.val (Ty.int IntKind.i64) v24),(25,AV.val (Ty.int IntKind.i64) (v25+(1:Int)))] [(1,Ent.var (Ty.pair (Ty.int IntKind.i64) (Ty.pair (Ty.slc false PairT) Ty.unit)) (o1_1,o1_2_1,())),(4,Ent.var (Ty.arr 20 (Ty.arr 20 Ty.bool)) o4),(1000006,Ent.own Is o1000006)])))):=by kernel_rfl
theorem corder_valid:corder.Valid Try.prog 109:=by
  refine Ctr.valid_of Eorder_ok rfl rfl Try.func109 (c:=bodyOf Try.prog 109) rfl rfl Forder_ok rfl ?_
  rintro ⟨⟨(n0:Int),(l:List PairD),⟨⟩⟩,⟨⟩⟩ - -
  refine exec_sound (n:=1000) Eorder_ok Forder_ok ?_
  refine holds_of_eq (Eorder_t n0 l) ?_
  have hd:orderR n0 l=if pcheck n0 l≠0 then ([],pcheck n0 l,()) else (orderN (wk (relP l) n0.toNat) n0.toNat n0.toNat [],0,()):=rfl
  by_cases h0:pcheck n0 l≠0
  · rw [if_pos h0] at hd
    rw [pcheckR_no h0]
    simp only [holds_cond,Tree.holds,true_and,true_implies,decide_eq_true_eq,decide_eq_false_iff_not,Bool.not_eq_true',Bool.not_eq_false',Int.toNat_natCast,inK_i64,List.length_set,List.length_cons,List.length_nil]
    exact ⟨fun _=>hd.symm,fun c=>absurd h0 c⟩
  obtain ⟨n,rfl,hp⟩:=pcheck_ok (Decidable.not_not.1 h0)
  rw [if_neg h0,Int.toNat_natCast] at hd
  rw [pcheckR_ok hp]
  have hn:=hp.n20
  have ht:=fun x y z=>pos_trans hp (a:=x) (b:=y) (c:=z)
  have hi:=fun x=>pos_irr hp x
  generalize wk (relP l) n=R at *
  simp only [holds_cond,Tree.holds,true_and,true_implies,decide_eq_true_eq,decide_eq_false_iff_not,Bool.not_eq_true',Bool.not_eq_false',Int.toNat_natCast,inK_i64,List.length_set,List.length_cons,List.length_nil]
  refine ⟨fun c=>absurd rfl c,fun _=>?_⟩
  refine Reach.loopI Eorder_ok Forder_ok (fun out:List Int=>Eorder_s5 (n:Int) l (mkO R) out) (fun out=>out.length≤n∧orderN R n n []=orderN R n (n - out.length) out) (fun out=>n - out.length) 1000 (fun _=>⟨uniq_of rfl,uniq_of rfl⟩) ?_ [] ⟨by simp,rfl⟩
  rintro out ⟨k1,k2⟩ - ih
  refine holds_of_eq (Eorder_l5 ..) ?_
  simp only [holds_cond,Tree.holds,true_and,true_implies,decide_eq_true_eq,decide_eq_false_iff_not,Bool.not_eq_true',Bool.not_eq_false',Int.toNat_natCast,inK_i64,List.length_set,List.length_cons,List.length_nil]
  refine ⟨fun c=>?_,fun c=>?_⟩
  · have hl:out.length<n:=by omega
    have hne:=next_is ht hi hl
    have go:∀ b,nextO R n out n 0=some b→out.length+1≤n∧orderN R n n []=orderN R n (n - (out.length+1)) (out++[(b:Int)]):=fun b hb=>by
      refine ⟨by omega,?_⟩
      rw [k2,show n - out.length=(n - (out.length+1))+1 by omega,orderN,hb]
    refine Reach.loopI Eorder_ok Forder_ok (fun b:Nat=>Eorder_s7 (n:Int) (b:Int) (n:Int) l (mkO R) out) (fun b=>b≤n∧nextO R n out n 0=nextO R n out (n - b) b) (fun b=>n - b) 1000 (fun _=>⟨uniq_of rfl,uniq_of rfl⟩) ?_ 0 ⟨by omega,rfl⟩
    rintro b ⟨k3,k4⟩ - ih2
    refine holds_of_eq (Eorder_l7 ..) ?_
    simp only [holds_cond,Tree.holds,true_and,true_implies,decide_eq_true_eq,decide_eq_false_iff_not,Bool.not_eq_true',Bool.not_eq_false',Int.toNat_natCast,inK_i64,List.length_set,List.length_cons,List.length_nil]
    refine ⟨fun d=>?_,fun d=>absurd (by rw [k4,show n - b=0 by omega]; rfl) hne⟩
    have hb:b<n:=by omega
    rw [show n - b=(n - (b+1))+1 by omega,nextO] at k4
    refine ⟨fun e=>⟨by omega,fun _=>?_⟩,fun e=>?_⟩
    · rw [if_neg (by rw [readyB,decide_eq_true e,Bool.not_true,Bool.false_and]; decide)] at k4
      exact ih2 (b+1) ⟨by show b+1≤n; omega,k4⟩ (by omega)
    refine Reach.loopI Eorder_ok Forder_ok (fun a:Nat=>Eorder_s12 (b:Int) ((List.range a).all (fun a=>!R a b || decide ((a:Int)∈out))) (n:Int) (b:Int) (n:Int) (a:Int) (n:Int) l (mkO R) out) (fun a=>a≤n) (fun a=>n - a) 1000 (fun _=>⟨uniq_of rfl,uniq_of rfl⟩) ?_ 0 (by omega)
    rintro a k5 - ih3
    have k5:a≤n:=k5
    refine holds_of_eq (Eorder_l12 ..) ?_
    have hw:Ty.wb (Ty.int IntKind.i64)=8:=rfl
    simp only [holds_cond,Tree.holds,true_and,true_implies,decide_eq_true_eq,decide_eq_false_iff_not,Bool.not_eq_true',Bool.not_eq_false',Int.toNat_natCast,inK_i64,List.length_set,List.length_cons,List.length_nil,hw]
    refine ⟨fun f=>?_,fun f=>?_⟩
    · have ha:a<n:=by omega
      have next:=ih3 (a+1) (by show a+1≤n; omega) (by omega)
      rw [List.range_succ,List.all_append,List.all_cons,List.all_nil,Bool.and_true] at next
      have hg:(((mkO R).getD a F20).getD b false)=R a b:=gB_mkO (by omega) (by omega)
      refine ⟨fun g=>⟨by omega,fun _=>⟨by omega,fun _=>⟨fun e1=>⟨by omega,fun _=>?_⟩,fun e1=>⟨by omega,fun _=>?_⟩⟩⟩⟩,fun g=>⟨by omega,fun _=>?_⟩⟩
      · have e1:R a b=false:=hg.symm.trans e1
        rw [g,e1] at next; exact next
      · have e1:R a b=true:=hg.symm.trans e1
        rw [g,e1,Bool.not_true,Bool.false_or,Bool.true_and] at next; exact next
      · rw [g,Bool.false_and] at next; exact next
    · have ha:a=n:=by omega
      subst ha
      refine ⟨fun g=>⟨by omega,fun _=>?_⟩,fun g=>⟨by omega,fun _=>?_⟩⟩
      · rw [if_pos (by rw [readyB,decide_eq_false e,g]; rfl)] at k4
        have:=ih (out++[(b:Int)]) (by
          have:=go b k4
          rw [show (out++[(b:Int)]).length=out.length+1 by simp]
          exact this) (by show _ - (out++[(b:Int)]).length<_; rw [List.length_append,List.length_singleton]; omega)
        exact this
      · rw [if_neg (by rw [readyB,g,Bool.and_false]; decide)] at k4
        exact ih2 (b+1) ⟨by show b+1≤a; omega,k4⟩ (by omega)
  · have:out.length=n:=by omega
    rw [hd,k2,this,Nat.sub_self]; rfl
end Go.Proofs.Ytegigiecamjobaa
