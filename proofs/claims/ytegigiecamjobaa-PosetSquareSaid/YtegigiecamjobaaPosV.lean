/- poset.Levels. No condition. -/
import Derived.Test.YtegigiecamjobaaPosT
namespace Go.Proofs.Ytegigiecamjobaa
open Go.Ex
set_option maxRecDepth 100000
def padR (out:List (List Int)) (k:Nat):List (List Int):=out++List.replicate (k+1 - out.length) []
def rowS (out:List (List Int)) (b:Nat) (k:Int):List (List Int):=(padR out k.toNat).set k.toNat ((padR out k.toNat).getD k.toNat []++[(b:Int)])
def rowsF (lev:List Int) (m:Nat):List (List Int):=(List.range m).foldl (fun out b=>rowS out b (lev.getD b 0)) []
def levelsR (n:Int) (l:List PairD):List (List Int)×Int×Unit:=if pcheck n l≠0 then ([],pcheck n l,()) else (rowsF (levF (wk (relP l) n.toNat) n.toNat (orderN (wk (relP l) n.toNat) n.toNat n.toNat [])) n.toNat,0,())
def clevels:Ctr:={ ps:=[.v Pos],rs:=[.slc true (.slc true I64),I64],pre:=fun _=>True,fn:=fun x=>levelsR x.1.1 x.1.2.1,out:=fun _=>() }
abbrev Nil1:List (List Int):=[[]]
noncomputable def Elevels:Env:={ P:=Try.prog,tt:=tt,ctr:=[(109,corder),(110,cclosed)],res:=[Go.ResultVar.tmp 2,Go.ResultVar.tmp 3],rs:=[Ty.slc true Is,Ty.int IntKind.i64],ps:=[PK.v (Ty.pair (Ty.int IntKind.i64) (Ty.pair (Ty.slc false PairT) Ty.unit))],cuts:=[(8,[(1,none),(6,none),(7,some Is),(8,none),(27,some Is),(28,none),(29,none)]),(11,[(1,none),(6,none),(7,some Is),(8,none),(10,none),(27,some Is),(28,none),(29,none),(34,none),(35,none)]),(18,[(8,some (Ty.slc true Is)),(58,some Is),(59,none),(60,none)]),(20,[(8,some (Ty.slc true Is)),(12,none),(13,none),(58,some Is),(59,none),(60,none)])],nt:=84 }
theorem Elevels_ok:EnvOk Elevels:=envOk tt_ok ⟨corder_valid,cclosed_valid,trivial⟩
theorem Flevels_ok:FnOk Elevels Try.f59:=⟨rfl,rfl⟩
theorem Elevels_t (x0_1:Int) (x0_2_1:List (Int×Int×Unit)):exec Elevels 1000 [.code (bodyOf Try.prog 59)] (initSt clevels.ps (((x0_1,x0_2_1,()),()))) =
  .need (True) (cond (decide (Prod.fst (Prod.snd (orderR x0_1 x0_2_1))≠(0:Int))) (.ret (([],Prod.fst (Prod.snd (orderR x0_1 x0_2_1)),()))) (.need (((0:Int)≤x0_1∧x0_1≤(20:Int))∧∀ (q:PairD),q∈x0_2_1→((0:Int)≤Prod.fst q∧Prod.fst q<x0_1)∧(0:Int)≤Prod.fst (Prod.snd q)∧Prod.fst (Prod.snd q)<x0_1) (.need ((0:Int)≤x0_1∧x0_1≤x0_1∧x0_1≤(140737488355328:Int)∧x0_1*(↑(Ty.wb (Ty.int IntKind.i64)):Int)≤(140737488355328:Int)) (.cut (loopAt (bodyOf Try.prog 59) 8).1 (loopAt (bodyOf Try.prog 59) 8).2 (St.mk [(1,AV.ptr 1 []),(6,AV.ptr 6 []),(7,AV.at_ 1000007 []),(8,AV.raw (Go.Value.slice none 0 0)),(27,AV.at_ 1000027 []),(28,AV.val (Ty.int IntKind.i64) (↑(List.length (Prod.fst (orderR x0_1 x0_2_1))):Int)),(29,AV.val (Ty.int IntKind.i64) (0:Int))] [(1,Ent.var (Ty.pair (Ty.int IntKind.i64) (Ty.pair (Ty.slc false PairT) Ty.unit)) (x0_1,x0_2_1,())),(6,Ent.var (Ty.arr 20 (Ty.arr 20 Ty.bool)) (mkO (wk (relP x0_2_1) (Int.toNat x0_1)))),(1000007,Ent.own Is (List.replicate (Int.toNat x0_1) (0:Int))),(1000027,Ent.own Is (Prod.fst (orderR x0_1 x0_2_1)))]))))):=by kernel_rfl
def Elevels_s8 (v28:Int) (v29:Int) (o1_1:Int) (o1_2_1:List (Int×Int×Unit)) (o6:List (List Bool)) (o1000007:List Int) (o1000027:List Int):St:=St.mk [(1,AV.ptr 1 []),(6,AV.ptr 6 []),(7,AV.at_ 1000007 []),(8,AV.raw (Go.Value.slice none 0 0)),(27,AV.at_ 1000027 []),(28,AV.val (Ty.int IntKind.i64) v28),(29,AV.val (Ty.int IntKind.i64) v29)] [(1,Ent.var (Ty.pair (Ty.int IntKind.i64) (Ty.pair (Ty.slc false PairT) Ty.unit)) (o1_1,o1_2_1,())),(6,Ent.var (Ty.arr 20 (Ty.arr 20 Ty.bool)) o6),(1000007,Ent.own Is o1000007),(1000027,Ent.own Is o1000027)]
theorem Elevels_l8 (v28:Int) (v29:Int) (o1_1:Int) (o1_2_1:List (Int×Int×Unit)) (o6:List (List Bool)) (o1000007:List Int) (o1000027:List Int):exec Elevels 1000 (.code (loopAt (bodyOf Try.prog 59) 8).1::.inLoop (loopAt (bodyOf Try.prog 59) 8).1::(loopAt (bodyOf Try.prog 59) 8).2) (Elevels_s8 v28 v29 o1_1 o1_2_1 o6 o1000007 o1000027) =
  cond (decide (v29<v28)) (.need ((0:Int)≤v29∧v29<(↑(List.length o1000027):Int)) (.cut (loopAt (bodyOf Try.prog 59) 11).1 (loopAt (bodyOf Try.prog 59) 11).2 (St.mk [(1,AV.ptr 1 []),(6,AV.ptr 6 []),(7,AV.at_ 1000007 []),(8,AV.raw (Go.Value.slice none 0 0)),(10,AV.val (Ty.int IntKind.i64) (List.getD o1000027 (Int.toNat v29) (0:Int))),(27,AV.at_ 1000027 []),(28,AV.val (Ty.int IntKind.i64) v28),(29,AV.val (Ty.int IntKind.i64) v29),(34,AV.val (Ty.int IntKind.i64) o1_1),(35,AV.val (Ty.int IntKind.i64) (0:Int))] [(1,Ent.var (Ty.pair (Ty.int IntKind.i64) (Ty.pair (Ty.slc false PairT) Ty.unit)) (o1_1,o1_2_1,())),(6,Ent.var (Ty.arr 20 (Ty.arr 20 Ty.bool)) o6),(1000007,Ent.own Is o1000007),(1000027,Ent.own Is o1000027)]))) (.cut (loopAt (bodyOf Try.prog 59) 18).1 (loopAt (bodyOf Try.prog 59) 18).2 (St.mk [(8,AV.at_ 1000008 []),(58,AV.at_ 1000058 []),(59,AV.val (Ty.int IntKind.i64) (↑(List.length o1000007):Int)),(60,AV.val (Ty.int IntKind.i64) (0:Int))] [(1000008,Ent.own (Ty.slc true Is) []),(1000058,Ent.own Is o1000007)])):=by kernel_rfl
def Elevels_s11 (v10:Int) (v28:Int) (v29:Int) (v34:Int) (v35:Int) (o1_1:Int) (o1_2_1:List (Int×Int×Unit)) (o6:List (List Bool)) (o1000007:List Int) (o1000027:List Int):St:=St.mk [(1,AV.ptr 1 []),(6,AV.ptr 6 []),(7,AV.at_ 1000007 []),(8,AV.raw (Go.Value.slice none 0 0)),(10,AV.val (Ty.int IntKind.i64) v10),(27,AV.at_ 1000027 []),(28,AV.val (Ty.int IntKind.i64) v28),(29,AV.val (Ty.int IntKind.i64) v29),(34,AV.val (Ty.int IntKind.i64) v34),(35,AV.val (Ty.int IntKind.i64) v35)] [(1,Ent.var (Ty.pair (Ty.int IntKind.i64) (Ty.pair (Ty.slc false PairT) Ty.unit)) (o1_1,o1_2_1,())),(6,Ent.var (Ty.arr 20 (Ty.arr 20 Ty.bool)) o6),(1000007,Ent.own Is o1000007),(1000027,Ent.own Is o1000027)]
theorem Elevels_l11 (v10:Int) (v28:Int) (v29:Int) (v34:Int) (v35:Int) (o1_1:Int) (o1_2_1:List (Int×Int×Unit)) (o6:List (List Bool)) (o1000007:List Int) (o1000027:List Int):exec Elevels 1000 (.code (loopAt (bodyOf Try.prog 59) 11).1::.inLoop (loopAt (bodyOf Try.prog 59) 11).1::(loopAt (bodyOf Try.prog 59) 11).2) (Elevels_s11 v10 v28 v29 v34 v35 o1_1 o1_2_1 o6 o1000007 o1000027) =
  cond (decide (v35<v34)) (.need ((0:Int)≤v35∧v35<(↑20:Int)) (.need ((0:Int)≤v10∧v10<(↑20:Int)) (cond (List.getD (List.getD o6 (Int.toNat v35) [false,false,false,false,false,false,false,false,false,false,false,false,false,false,false,false,false,false,false,false]) (Int.toNat v10) false) (.need ((0:Int)≤v10∧v10<(↑(List.length o1000007):Int)) (.need ((0:Int)≤v35∧v35<(↑(List.length o1000007):Int)) (.need (inK IntKind.i64 (List.getD o1000007 (Int.toNat v35) (0:Int)+(1:Int))) (.need ((0:Int)≤v10∧v10<(↑(List.length o1000007):Int)) (.need (inK IntKind.i64 (v35+(1:Int))) (.cut (loopAt (bodyOf Try.prog 59) 11).1 (loopAt (bodyOf Try.prog 59) 11).2 (St.mk [(1,AV.ptr 1 []),(6,AV.ptr 6 []),(7,AV.at_ 1000007 []),(8,AV.raw (Go.Value.slice none 0 0)),(10,AV.val (Ty.int IntKind.i64) v10),(27,AV.at_ 1000027 []),(28,AV.val (Ty.int IntKind.i64) v28),(29,AV.val (Ty.int IntKind.i64) v29),(34,AV.val (Ty.int IntKind.i64) v34),(35,AV.val (Ty.int IntKind.i64) (v35+(1:Int)))] [(1,Ent.var (Ty.pair (Ty.int IntKind.i64) (Ty.pair (Ty.slc false PairT) Ty.unit)) (o1_1,o1_2_1,())),(6,Ent.var (Ty.arr 20 (Ty.arr 20 Ty.bool)) o6),(1000007,Ent.own Is (List.set o1000007 (Int.toNat v10) (if List.getD o1000007 (Int.toNat v10) (0:Int)<List.getD o1000007 (Int.toNat v35) (0:Int)+(1:Int) then List.getD o1000007 (Int.toNat v35) (0:Int)+(1:Int) else List.getD o1000007 (Int.toNat v10) (0:Int)))),(1000027,Ent.own Is o1000027)]))))))) (.need (inK IntKind.i64 (v35+(1:Int))) (.cut (loopAt (bodyOf Try.prog 59) 11).1 (loopAt (bodyOf Try.prog 59) 11).2 (St.mk [(1,AV.ptr 1 []),(6,AV.ptr 6 []),(7,AV.at_ 1000007 []),(8,AV.raw (Go.Value.slice none 0 0)),(10,AV.val (Ty.int IntKind.i64) v10),(27,AV.at_ 1000027 []),(28,AV.val (Ty.int IntKind.i64) v28),(29,AV.val (Ty.int IntKind.i64) v29),(34,AV.val (Ty.int IntKind.i64) v34),(35,AV.val (Ty.int IntKind.i64) (v35+(1:Int)))] [(1,Ent.var (Ty.pair (Ty.int IntKind.i64) (Ty.pair (Ty.slc false PairT) Ty.unit)) (o1_1,o1_2_1,())),(6,Ent.var (Ty.arr 20 (Ty.arr 20 Ty.bool)) o6),(1000007,Ent.own Is o1000007),(1000027,Ent.own Is o1000027)])))))) (.need (inK IntKind.i64 (v29+(1:Int))) (.cut (loopAt (bodyOf Try.prog 59) 8).1 (loopAt (bodyOf Try.prog 59) 8).2 (St.mk [(1,AV.ptr 1 []),(6,AV.ptr 6 []),(7,AV.at_ 1000007 []),(8,AV.raw (Go.Value.slice none 0 0)),(27,AV.at_ 1000027 []),(28,AV.val (Ty.int IntKind.i64) v28),(29,AV.val (Ty.int IntKind.i64) (v29+(1:Int)))] [(1,Ent.var (Ty.pair (Ty.int IntKind.i64) (Ty.pair (Ty.slc false PairT) Ty.unit)) (o1_1,o1_2_1,())),(6,Ent.var (Ty.arr 20 (Ty.arr 20 Ty.bool)) o6),(1000007,Ent.own Is o1000007),(1000027,Ent.own Is o1000027)]))):=by kernel_rfl
def Elevels_s18 (v59:Int) (v60:Int) (o1000008:List (List Int)) (o1000058:List Int):St:=St.mk [(8,AV.at_ 1000008 []),(58,AV.at_ 1000058 []),(59,AV.val (Ty.int IntKind.i64) v59),(60,AV.val (Ty.int IntKind.i64) v60)] [(1000008,Ent.own (Ty.slc true Is) o1000008),(1000058,Ent.own Is o1000058)]
theorem Elevels_l18 (v59:Int) (v60:Int) (o1000008:List (List Int)) (o1000058:List Int):exec Elevels 1000 (.code (loopAt (bodyOf Try.prog 59) 18).1::.inLoop (loopAt (bodyOf Try.prog 59) 18).1::(loopAt (bodyOf Try.prog 59) 18).2) (Elevels_s18 v59 v60 o1000008 o1000058) =
  cond (decide (v60<v59)) (.need ((0:Int)≤v60∧v60<(↑(List.length o1000058):Int)) (.cut (loopAt (bodyOf Try.prog 59) 20).1 (loopAt (bodyOf Try.prog 59) 20).2 (St.mk [(8,AV.at_ 1000008 []),(12,AV.val (Ty.int IntKind.i64) v60),(13,AV.val (Ty.int IntKind.i64) (List.getD o1000058 (Int.toNat v60) (0:Int))),(58,AV.at_ 1000058 []),(59,AV.val (Ty.int IntKind.i64) v59),(60,AV.val (Ty.int IntKind.i64) v60)] [(1000008,Ent.own (Ty.slc true Is) o1000008),(1000058,Ent.own Is o1000058)]))) (.ret ((o1000008,(0:Int),()))):=by kernel_rfl
def Elevels_s20 (v12:Int) (v13:Int) (v59:Int) (v60:Int) (o1000008:List (List Int)) (o1000058:List Int):St:=St.mk [(8,AV.at_ 1000008 []),(12,AV.val (Ty.int IntKind.i64) v12),(13,AV.val (Ty.int IntKind.i64) v13),(58,AV.at_ 1000058 []),(59,AV.val (Ty.int IntKind.i64) v59),(60,AV.val (Ty.int IntKind.i64) v60)] [(1000008,Ent.own (Ty.slc true Is) o1000008),(1000058,Ent.own Is o1000058)]
theorem Elevels_l20 (v12:Int) (v13:Int) (v59:Int) (v60:Int) (o1000008:List (List Int)) (o1000058:List Int):exec Elevels 1000 (.code (loopAt (bodyOf Try.prog 59) 20).1::.inLoop (loopAt (bodyOf Try.prog 59) 20).1::(loopAt (bodyOf Try.prog 59) 20).2) (Elevels_s20 v12 v13 v59 v60 o1000008 o1000058) =
  cond (decide ((↑(List.length o1000008):Int)≤v13)) (.need (List.length o1000008+List.length (List.set Nil1 (Int.toNat (↑0:Int)) [])≤140737488355328∧(List.length o1000008+List.length (List.set Nil1 (Int.toNat (↑0:Int)) []))*Ty.wb Is≤140737488355328) (.cut (loopAt (bodyOf Try.prog 59) 20).1 (loopAt (bodyOf Try.prog 59) 20).2 (St.mk [(8,AV.at_ 1000008 []),(12,AV.val (Ty.int IntKind.i64) v12),(13,AV.val (Ty.int IntKind.i64) v13),(58,AV.at_ 1000058 []),(59,AV.val (Ty.int IntKind.i64) v59),(60,AV.val (Ty.int IntKind.i64) v60)] [(1000008,Ent.own (Ty.slc true Is) (o1000008++List.set Nil1 (Int.toNat (↑0:Int)) [])),(1000058,Ent.own Is o1000058)]))) (.need ((0:Int)≤v13∧v13<(↑(List.length o1000008):Int)) (.need (((0:Int)≤v13∧v13<(↑(List.length o1000008):Int))∧[]++[Step.idx v13]=[]++[Step.idx v13]∧List.length (List.getD o1000008 (Int.toNat v13) [])+List.length (List.set [(0:Int)] (Int.toNat (↑0:Int)) v12)≤140737488355328∧(List.length (List.getD o1000008 (Int.toNat v13) [])+List.length (List.set [(0:Int)] (Int.toNat (↑0:Int)) v12))*Ty.wb (Ty.int IntKind.i64)≤140737488355328) (.need (inK IntKind.i64 (v60+(1:Int))) (.cut (loopAt (bodyOf Try.prog 59) 18).1 (loopAt (bodyOf Try.prog 59) 18).2 (St.mk [(8,AV.at_ 1000008 []),(58,AV.at_ 1000058 []),(59,AV.val (Ty.int IntKind.i64) v59),(60,AV.val (Ty.int IntKind.i64) (v60+(1:Int)))] [(1000008,Ent.own (Ty.slc true Is) (List.set o1000008 (Int.toNat v13) (List.getD o1000008 (Int.toNat v13) []++List.set [(0:Int)] (Int.toNat (↑0:Int)) v12))),(1000058,Ent.own Is o1000058)]))))):=by kernel_rfl
theorem levF_len {R:Nat→Nat→Bool} {n:Nat} (ord:List Int):(levF R n ord).length=n:=by
  have:∀ (ord lev:List Int),(ord.foldl (lvB R n) lev).length=lev.length:=by
    intro ord
    induction ord with
    | nil=>intro lev; rfl
    | cons b ord ih =>
      intro lev
      rw [List.foldl_cons,ih,lvB]
      generalize List.range n=L
      induction L generalizing lev with
      | nil=>rfl
      | cons a L ih2=>rw [List.foldl_cons,ih2,lvA_len]
  rw [levF,this,List.length_replicate]
theorem levF_bd {R:Nat→Nat→Bool} {n:Nat}:∀ (ord:List Int),Bd (n*ord.length) (levF R n ord):=by
  have:∀ (ord lev:List Int) (c:Nat),Bd c lev→Bd (c+n*ord.length) (ord.foldl (lvB R n) lev):=by
    intro ord
    induction ord with
    | nil=>intro lev c h; exact h
    | cons b ord ih =>
      intro lev c h
      have:=ih _ _ (h.fold R b.toNat n)
      rw [List.foldl_cons,List.length_cons,Nat.mul_succ,show c+(n*ord.length+n)=c+n+n*ord.length by omega]
      exact this
  intro ord
  have:=this ord _ 0 (Bd.zero n)
  rw [Nat.zero_add] at this
  exact this
theorem rowS_len {out:List (List Int)} {b:Nat} {k:Int}:(rowS out b k).length=max out.length (k.toNat+1):=by
  rw [rowS,List.length_set,padR,List.length_append,List.length_replicate]; omega
theorem rowsF_succ {lev:List Int} {m:Nat}:rowsF lev (m+1)=rowS (rowsF lev m) m (lev.getD m 0):=by rw [rowsF,List.range_succ,List.foldl_append]; rfl
theorem rowsF_len {lev:List Int} {c:Nat} (h:Bd c lev):∀ m,(rowsF lev m).length≤c+1
  | 0=>by show 0≤c+1; omega
  | m+1=>by
    have ih:=rowsF_len h m
    have:=h m
    rw [rowsF_succ,rowS_len]; omega
theorem pad_getD {out:List (List Int)} {k j:Nat}:(padR out k).getD j []=out.getD j []:=by
  rw [padR,List.getD_eq_getElem?_getD,List.getD_eq_getElem?_getD,List.getElem?_append]
  split
  · rfl
  · rw [List.getElem?_replicate,List.getElem?_eq_none (by omega:out.length≤j)]
    split<;>rfl
theorem rowsF_row {lev:List Int} {c:Nat} (h:Bd c lev):∀ m j,((rowsF lev m).getD j []).length≤m
  | 0,j=>by show (([]:List (List Int)).getD j []).length≤0; simp
  | m+1,j=>by
    have ih:=rowsF_row h m
    rw [rowsF_succ,rowS,getD_set (by rw [padR,List.length_append,List.length_replicate]; omega),pad_getD]
    split
    · have:=ih (lev.getD m 0).toNat
      rw [List.length_append,List.length_singleton]; omega
    · rw [pad_getD]; have:=ih j; omega
theorem clevels_valid:clevels.Valid Try.prog 59:=by
  refine Ctr.valid_of Elevels_ok rfl rfl Try.func59 (c:=bodyOf Try.prog 59) rfl rfl Flevels_ok rfl ?_
  rintro ⟨⟨(n0:Int),(l:List PairD),⟨⟩⟩,⟨⟩⟩ - -
  refine exec_sound (n:=1000) Elevels_ok Flevels_ok ?_
  refine holds_of_eq (Elevels_t n0 l) ?_
  have hd:levelsR n0 l=if pcheck n0 l≠0 then ([],pcheck n0 l,()) else (rowsF (levF (wk (relP l) n0.toNat) n0.toNat (orderN (wk (relP l) n0.toNat) n0.toNat n0.toNat [])) n0.toNat,0,()):=rfl
  have hod:orderR n0 l=if pcheck n0 l≠0 then ([],pcheck n0 l,()) else (orderN (wk (relP l) n0.toNat) n0.toNat n0.toNat [],0,()):=rfl
  by_cases h0:pcheck n0 l≠0
  · rw [if_pos h0] at hd hod
    rw [hod]
    simp only [holds_cond,Tree.holds,true_and,true_implies,decide_eq_true_eq,decide_eq_false_iff_not,Bool.not_eq_true',Bool.not_eq_false',Int.toNat_natCast,inK_i64,List.length_set,List.length_cons,List.length_nil]
    exact ⟨fun _=>hd.symm,fun c=>absurd h0 c⟩
  obtain ⟨n,rfl,hp⟩:=pcheck_ok (Decidable.not_not.1 h0)
  rw [if_neg h0,Int.toNat_natCast] at hd hod
  rw [hod,Int.toNat_natCast]
  have hn:=hp.n20
  have hrg:=hp.rng
  have hL:=order_lv (fun x y z=>pos_trans hp (a:=x) (b:=y) (c:=z)) (fun x=>pos_irr hp x) (fun x y=>wk_out (pos_rel hp)) n [] (by simp) LvOk.start
  generalize wk (relP l) n=R at *
  generalize orderN R n n []=ord at *
  obtain ⟨hol,hL⟩:=hL
  have hw:Ty.wb (Ty.int IntKind.i64)=8:=rfl
  have hw2:Ty.wb (Ty.slc true (Ty.int IntKind.i64))=24:=rfl
  simp only [holds_cond,Tree.holds,true_and,true_implies,decide_eq_true_eq,decide_eq_false_iff_not,Bool.not_eq_true',Bool.not_eq_false',Int.toNat_natCast,inK_i64,List.length_set,List.length_cons,List.length_nil,hw]
  refine ⟨fun c=>absurd rfl c,fun _=>⟨⟨⟨by omega,by omega⟩,hrg⟩,fun _=>⟨⟨by omega,by omega,by omega,by omega⟩,fun _=>?_⟩⟩⟩
  refine Reach.loopI Elevels_ok Flevels_ok (fun i:Nat=>Elevels_s8 (ord.length:Int) (i:Int) (n:Int) l (mkO R) (levF R n (ord.take i)) ord) (fun i=>i≤ord.length) (fun i=>ord.length - i) 1000 (fun _=>⟨uniq_of rfl,uniq_of rfl⟩) ?_ 0 (by omega)
  rintro i k1 - ih
  have k1:i≤ord.length:=k1
  refine holds_of_eq (Elevels_l8 ..) ?_
  have hlen:=levF_len (R:=R) (n:=n) (ord.take i)
  simp only [holds_cond,Tree.holds,true_and,true_implies,decide_eq_true_eq,decide_eq_false_iff_not,Bool.not_eq_true',Bool.not_eq_false',Int.toNat_natCast,inK_i64,List.length_set,List.length_cons,List.length_nil]
  refine ⟨fun c=>⟨by omega,fun _=>?_⟩,fun c=>?_⟩
  · have hi:i<ord.length:=by omega
    have hr:=hL.rng _ (getD_mem (d:=0) hi)
    have next:=ih (i+1) (by show i+1≤ord.length; omega) (by omega)
    rw [take_s hi 0,levF,List.foldl_append,← levF,List.foldl_cons,List.foldl_nil] at next
    have hbd:=levF_bd (R:=R) (n:=n) (ord.take i)
    have hbl:n*(ord.take i).length≤20*20:=Nat.mul_le_mul hn (by rw [List.length_take]; omega)
    generalize levF R n (ord.take i)=lev at *
    obtain ⟨b,hb⟩:∃ b:Nat,ord.getD i 0=(b:Int):=⟨(ord.getD i 0).toNat,by omega⟩
    rw [hb] at hr next ⊢
    rw [lvB,Int.toNat_natCast] at next
    refine Reach.loopI Elevels_ok Flevels_ok (fun a:Nat=>Elevels_s11 (b:Int) (ord.length:Int) (i:Int) (n:Int) (a:Int) (n:Int) l (mkO R) ((List.range a).foldl (lvA R b) lev) ord) (fun a=>a≤n) (fun a=>n - a) 1000 (fun _=>⟨uniq_of rfl,uniq_of rfl⟩) ?_ 0 (by omega)
    rintro a k2 - ih2
    have k2:a≤n:=k2
    refine holds_of_eq (Elevels_l11 ..) ?_
    have hla:((List.range a).foldl (lvA R b) lev).length=n:=by
      have:∀ a,((List.range a).foldl (lvA R b) lev).length=lev.length:=fun a=>by
        induction a with
        | zero=>rfl
        | succ a ih=>rw [List.range_succ,List.foldl_append,List.foldl_cons,List.foldl_nil,lvA_len,ih]
      rw [this,hlen]
    have hba:=hbd.fold R b a
    have n2:=ih2 (a+1)
    rw [List.range_succ,List.foldl_append,List.foldl_cons,List.foldl_nil] at n2
    generalize hl1:(List.range a).foldl (lvA R b) lev=l1 at hla hba n2 ⊢
    simp only [holds_cond,Tree.holds,true_and,true_implies,decide_eq_true_eq,decide_eq_false_iff_not,Bool.not_eq_true',Bool.not_eq_false',Int.toNat_natCast,inK_i64,List.length_set,List.length_cons,List.length_nil]
    refine ⟨fun d=>⟨by omega,fun _=>⟨by omega,fun _=>?_⟩⟩,fun d=>⟨by omega,fun _=>?_⟩⟩
    · have hg:(((mkO R).getD a F20).getD b false)=R a b:=gB_mkO (by omega) (by omega)
      have n2:=n2 (by show a+1≤n; omega) (by omega)
      have q1:=hba a
      refine ⟨fun e=>⟨by omega,fun _=>⟨by omega,fun _=>⟨by omega,fun _=>⟨by omega,fun _=>⟨by omega,fun _=>?_⟩⟩⟩⟩⟩,fun e=>⟨by omega,fun _=>?_⟩⟩
      · rw [lvA,if_pos (hg.symm.trans e)] at n2; exact n2
      · rw [lvA,if_neg (by rw [← hg,e]; decide)] at n2; exact n2
    · have:a=n:=by omega
      subst this
      rw [← hl1]
      exact next
  · have hi:i=ord.length:=by omega
    subst hi
    rw [List.take_length] at hlen ⊢
    have hbd:=levF_bd (R:=R) (n:=n) ord
    have hbl:n*ord.length≤20*20:=Nat.mul_le_mul hn (by omega)
    generalize levF R n ord=lev at *
    refine Reach.loopI Elevels_ok Flevels_ok (fun b:Nat=>Elevels_s18 (lev.length:Int) (b:Int) (rowsF lev b) lev) (fun b=>b≤lev.length) (fun b=>lev.length - b) 1000 (fun _=>⟨uniq_of rfl,uniq_of rfl⟩) ?_ 0 (by omega)
    rintro b k2 - ih2
    have k2:b≤lev.length:=k2
    refine holds_of_eq (Elevels_l18 ..) ?_
    simp only [holds_cond,Tree.holds,true_and,true_implies,decide_eq_true_eq,decide_eq_false_iff_not,Bool.not_eq_true',Bool.not_eq_false',Int.toNat_natCast,inK_i64,List.length_set,List.length_cons,List.length_nil]
    refine ⟨fun d=>⟨by omega,fun _=>?_⟩,fun d=>?_⟩
    · have hk:=hbd b
      have next:=ih2 (b+1) (by show b+1≤lev.length; omega) (by omega)
      rw [rowsF_succ] at next
      have hol2:=rowsF_len hbd b
      have hrow:=rowsF_row hbd b
      generalize rowsF lev b=out at *
      generalize lev.getD b 0=k at *
      refine Reach.loopI Elevels_ok Flevels_ok (fun o:List (List Int)=>Elevels_s20 (b:Int) k (lev.length:Int) (b:Int) o lev) (fun o=>∃ m,o=out++List.replicate m []∧m≤k.toNat+1 - out.length) (fun o=>k.toNat+1 - o.length) 1000 (fun _=>⟨uniq_of rfl,uniq_of rfl⟩) ?_ out ⟨0,by simp,by omega⟩
      rintro o ⟨m,rfl,hm⟩ - ih3
      refine holds_of_eq (Elevels_l20 ..) ?_
      have hol3:(out++List.replicate m ([]:List Int)).length=out.length+m:=by rw [List.length_append,List.length_replicate]
      simp only [holds_cond,Tree.holds,true_and,true_implies,decide_eq_true_eq,decide_eq_false_iff_not,Bool.not_eq_true',Bool.not_eq_false',Int.toNat_natCast,inK_i64,List.length_set,List.length_cons,List.length_nil,hw,hw2]
      refine ⟨fun e=>⟨⟨by omega,by omega⟩,fun _=>?_⟩,fun e=>?_⟩
      · refine ih3 (out++List.replicate m []++[[]]) ⟨m+1,by rw [List.append_assoc,List.replicate_succ'],by omega⟩ (by rw [List.length_append,hol3,List.length_singleton]; omega)
      · have em:m=k.toNat+1 - out.length:=by omega
        subst em
        have hr:=hrow k.toNat
        rw [← pad_getD (k:=k.toNat)] at hr
        exact ⟨by omega,fun _=>⟨⟨by omega,by unfold padR at hr; omega,by unfold padR at hr; omega⟩,fun _=>⟨by omega,fun _=>next⟩⟩⟩
    · have:b=n:=by omega
      subst this
      rw [hd]; rfl
end Go.Proofs.Ytegigiecamjobaa
