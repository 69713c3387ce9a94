/- The law SameKey: the walk. -/
import Derived.Test.YtgmbfnlhmnpciaaDoorSmE
namespace Go.Proofs.YtgmbfnlhmnpciaaDoor
open Go.Ex
set_option maxRecDepth 100000
def cSameKey:Ctr:=smallC [Vals,.str]
noncomputable def ESameKey:Env:={ P:=Tryd.prog,tt:=tt,ctr:=[(15,cread),(16,cRun)],res:=[Go.ResultVar.tmp 4],rs:=[Ty.bool],ps:=[PK.v (Ty.arr 10 (Ty.int IntKind.i64)),PK.v Ty.str],cuts:=[(8,[(1,none),(2,none),(35,none)]),(17,[(2,none),(10,none),(12,none),(13,none),(72,none)])],nt:=103 }
theorem ESameKey_ok:EnvOk ESameKey:=envOk tt_ok ⟨cread_valid,cRun_valid,trivial⟩
theorem FSameKey_ok:FnOk ESameKey Tryd.f6:=⟨rfl,rfl⟩
theorem ESameKey_t (x0:List Int) (x1:List UInt8):exec ESameKey 1000 [.code (bodyOf Tryd.prog 6)] (initSt cSameKey.ps ((x0,x1,()))) =
  .need (List.length (Array.toList (ByteArray.data (ByteArray.mk #[(109:UInt8),(111:UInt8),(115:UInt8),(116:UInt8),(32:UInt8),(51:UInt8),(32:UInt8),(45:UInt8),(53:UInt8)])))≤4294967280) (.need (∀ (s:StrD),s∈List.set [[]] (Int.toNat (↑0:Int)) (Array.toList (ByteArray.data (ByteArray.mk #[(97:UInt8),(100:UInt8),(100:UInt8),(32:UInt8),(50:UInt8),(32:UInt8),(55:UInt8)])))→List.length s≤4294967280) (.cut (loopAt (bodyOf Tryd.prog 6) 8).1 (loopAt (bodyOf Tryd.prog 6) 8).2 (St.mk [(1,AV.val Ty.str x1),(2,AV.ptr 2 []),(35,AV.val (Ty.int IntKind.i64) (0:Int))] [(2,Ent.var (Ty.arr 10 (Ty.int IntKind.i64)) x0)]))):=by kernel_rfl
def ESameKey_s8 (v1:List UInt8) (v35:Int) (o2:List Int):St:=St.mk [(1,AV.val Ty.str v1),(2,AV.ptr 2 []),(35,AV.val (Ty.int IntKind.i64) v35)] [(2,Ent.var (Ty.arr 10 (Ty.int IntKind.i64)) o2)]
theorem ESameKey_l8 (v1:List UInt8) (v35:Int) (o2:List Int):exec ESameKey 1000 (.code (loopAt (bodyOf Tryd.prog 6) 8).1::.inLoop (loopAt (bodyOf Tryd.prog 6) 8).1::(loopAt (bodyOf Tryd.prog 6) 8).2) (ESameKey_s8 v1 v35 o2) =
  cond (decide (v35<(10:Int))) (.need ((0:Int)≤v35∧v35<(↑10:Int)) (.need ((0:Int)≤v35∧v35<(↑10:Int)) (.need (inK IntKind.i64 (v35+(1:Int))) (.cut (loopAt (bodyOf Tryd.prog 6) 8).1 (loopAt (bodyOf Tryd.prog 6) 8).2 (St.mk [(1,AV.val Ty.str v1),(2,AV.ptr 2 []),(35,AV.val (Ty.int IntKind.i64) (v35+(1:Int)))] [(2,Ent.var (Ty.arr 10 (Ty.int IntKind.i64)) (List.set o2 (Int.toNat v35) (if (-1000000000:Int)<if (1000000000:Int)<List.getD o2 (Int.toNat v35) (0:Int) then (1000000000:Int) else List.getD o2 (Int.toNat v35) (0:Int) then if (1000000000:Int)<List.getD o2 (Int.toNat v35) (0:Int) then (1000000000:Int) else List.getD o2 (Int.toNat v35) (0:Int) else (-1000000000:Int))))]))))) (.need (List.length v1≤4294967280) (.need (∀ (s:StrD),s∈List.set [[]] (Int.toNat (↑0:Int)) v1→List.length s≤4294967280) (cond (decide (Prod.snd (readF v1)≠(0:Int))) (cond (eqD (Ty.arr 10 I64) (Prod.fst (runAll o2 (List.set [[]] (Int.toNat (↑0:Int)) v1))) o2) (cond (decide (Prod.snd (runAll o2 (List.set [[]] (Int.toNat (↑0:Int)) v1))=(1:Int))) (.ret ((eqD (Ty.pair I64 (Ty.pair I64 (Ty.pair I64 Ty.unit))) (Prod.fst (readF v1)) ((0:Int),(0:Int),(0:Int),()),()))) (.ret ((false,())))) (.ret ((false,())))) (.cut (loopAt (bodyOf Tryd.prog 6) 17).1 (loopAt (bodyOf Tryd.prog 6) 17).2 (St.mk [(2,AV.ptr 2 []),(10,AV.ptr 10 []),(12,AV.ptr 12 []),(13,AV.val (Ty.int IntKind.i64) (Prod.snd (runAll o2 (List.set [[]] (Int.toNat (↑0:Int)) v1)))),(72,AV.val (Ty.int IntKind.i64) (0:Int))] [(2,Ent.var (Ty.arr 10 (Ty.int IntKind.i64)) o2),(10,Ent.var (Ty.pair (Ty.int IntKind.i64) PairT) (Prod.fst (readF v1))),(12,Ent.var (Ty.arr 10 (Ty.int IntKind.i64)) (Prod.fst (runAll o2 (List.set [[]] (Int.toNat (↑0:Int)) v1))))]))))):=by kernel_rfl
def ESameKey_s17 (v13:Int) (v72:Int) (o2:List Int) (o10_1:Int) (o10_2_1:Int) (o10_2_2_1:Int) (o12:List Int):St:=St.mk [(2,AV.ptr 2 []),(10,AV.ptr 10 []),(12,AV.ptr 12 []),(13,AV.val (Ty.int IntKind.i64) v13),(72,AV.val (Ty.int IntKind.i64) v72)] [(2,Ent.var (Ty.arr 10 (Ty.int IntKind.i64)) o2),(10,Ent.var (Ty.pair (Ty.int IntKind.i64) PairT) (o10_1,o10_2_1,o10_2_2_1,())),(12,Ent.var (Ty.arr 10 (Ty.int IntKind.i64)) o12)]
theorem ESameKey_l17 (v13:Int) (v72:Int) (o2:List Int) (o10_1:Int) (o10_2_1:Int) (o10_2_2_1:Int) (o12:List Int):exec ESameKey 1000 (.code (loopAt (bodyOf Tryd.prog 6) 17).1::.inLoop (loopAt (bodyOf Tryd.prog 6) 17).1::(loopAt (bodyOf Tryd.prog 6) 17).2) (ESameKey_s17 v13 v72 o2 o10_1 o10_2_1 o10_2_2_1 o12) =
  cond (decide (v72<(10:Int))) (cond (decide (v72≠o10_2_1)) (.need ((0:Int)≤v72∧v72<(↑10:Int)) (.need ((0:Int)≤v72∧v72<(↑10:Int)) (cond (decide (List.getD o12 (Int.toNat v72) (0:Int)≠List.getD o2 (Int.toNat v72) (0:Int))) (.ret ((false,()))) (.need ((0:Int)≤v72∧v72<(↑10:Int)) (cond (decide (List.getD o12 (Int.toNat v72) (0:Int)<(-1000000000:Int))) (.ret ((false,()))) (.need ((0:Int)≤v72∧v72<(↑10:Int)) (cond (decide ((1000000000:Int)<List.getD o12 (Int.toNat v72) (0:Int))) (.ret ((false,()))) (.need (inK IntKind.i64 (v72+(1:Int))) (.cut (loopAt (bodyOf Tryd.prog 6) 17).1 (loopAt (bodyOf Tryd.prog 6) 17).2 (St.mk [(2,AV.ptr 2 []),(10,AV.ptr 10 []),(12,AV.ptr 12 []),(13,AV.val (Ty.int IntKind.i64) v13),(72,AV.val (Ty.int IntKind.i64) (v72+(1:Int)))] [(2,Ent.var (Ty.arr 10 (Ty.int IntKind.i64)) o2),(10,Ent.var (Ty.pair (Ty.int IntKind.i64) PairT) (o10_1,o10_2_1,o10_2_2_1,())),(12,Ent.var (Ty.arr 10 (Ty.int IntKind.i64)) o12)])))))))))) (.need ((0:Int)≤v72∧v72<(↑10:Int)) (cond (decide (List.getD o12 (Int.toNat v72) (0:Int)<(-1000000000:Int))) (.ret ((false,()))) (.need ((0:Int)≤v72∧v72<(↑10:Int)) (cond (decide ((1000000000:Int)<List.getD o12 (Int.toNat v72) (0:Int))) (.ret ((false,()))) (.need (inK IntKind.i64 (v72+(1:Int))) (.cut (loopAt (bodyOf Tryd.prog 6) 17).1 (loopAt (bodyOf Tryd.prog 6) 17).2 (St.mk [(2,AV.ptr 2 []),(10,AV.ptr 10 []),(12,AV.ptr 12 []),(13,AV.val (Ty.int IntKind.i64) v13),(72,AV.val (Ty.int IntKind.i64) (v72+(1:Int)))] [(2,Ent.var (Ty.arr 10 (Ty.int IntKind.i64)) o2),(10,Ent.var (Ty.pair (Ty.int IntKind.i64) PairT) (o10_1,o10_2_1,o10_2_2_1,())),(12,Ent.var (Ty.arr 10 (Ty.int IntKind.i64)) o12)])))))))) (.ret ((decide (v13=(0:Int)),()))):=by kernel_rfl
theorem one_set (s:StrD):List.set [[]] (Int.toNat (0:Int)) s=[s]:=rfl
theorem run_one (o:List Int) (s:StrD):runAll o [s]=if (readF s).2=0 then (runF o (readF s).1,0) else (o,1):=rfl
def Bd (x:Int):Prop:=-1000000000≤x∧x≤1000000000
theorem cell_b {o:List Int} (c:CmdD) (h:∀ j,Bd (o.getD j 0)):Bd (cellF o c):=by
  have h1:=clampF_b c.2.2.1
  have h2:=clampF_b (farF (o.getD c.2.1.toNat 0)+clampF c.2.2.1)
  have h3:=h c.2.1.toNat
  have h4:=h c.2.2.1.toNat
  unfold cellF
  split
  · exact h1
  split
  · exact h2
  split
  · unfold Bd at *; omega
  split
  · exact h4
  · exact h3
theorem mm_b (a:Int):Bd (if (-1000000000:Int)<(if (1000000000:Int)<a then (1000000000:Int) else a) then (if (1000000000:Int)<a then (1000000000:Int) else a) else (-1000000000:Int)):=by
  unfold Bd
  split<;>split<;>omega
theorem cSameKey_valid:cSameKey.Valid Tryd.prog 6:=by
  refine Ctr.valid_of ESameKey_ok rfl rfl Tryd.func6 (c:=bodyOf Tryd.prog 6) rfl rfl FSameKey_ok rfl ?_
  rintro ⟨(v:List Int),(s:List UInt8),⟨⟩⟩ hp ⟨⟨(hl:v.length=10),-⟩,-⟩
  have hb:bulkK [Vals,.str] (v,s,())≤1048576:=hp
  have hs:bulkK [Vals,.str] (v,s,())=Ty.bulk Vals v+((s.length+1)+0):=rfl
  have hs4:s.length≤4294967280:=by omega
  refine exec_sound (n:=1000) ESameKey_ok FSameKey_ok ?_
  refine holds_of_eq (ESameKey_t v s) ?_
  refine ⟨by decide,fun _=>⟨by decide,fun _=>?_⟩⟩
  refine Reach.loopI ESameKey_ok FSameKey_ok (fun q:Nat×List Int=>ESameKey_s8 s (q.1:Int) q.2) (fun q=>q.1≤10∧q.2.length=10∧∀ j,j<q.1→Bd (q.2.getD j 0)) (fun q=>10 - q.1) 1000 (fun _=>⟨uniq_of rfl,uniq_of rfl⟩) ?_ (0,v) ⟨Nat.zero_le _,hl,fun j hj=>absurd hj (Nat.not_lt_zero _)⟩
  rintro ⟨i,o⟩ ⟨(h1:i≤10),(h2:o.length=10),(h3:∀ j,j<i→Bd (o.getD j 0))⟩ - ih
  refine holds_of_eq (ESameKey_l8 ..) ?_
  have hm:=mm_b (o.getD i 0)
  simp only [holds_cond,Tree.holds,true_and,true_implies,decide_eq_true_eq,decide_eq_false_iff_not,Bool.not_eq_true',Bool.not_eq_false',Int.toNat_natCast,inK_i64,List.length_set,List.length_cons,List.length_nil,one_set]
  refine ⟨fun c=>⟨by omega,fun _=>⟨by omega,fun _=>⟨by omega,fun _=>ih (i+1,_) ⟨by show i+1≤10; omega,?_,?_⟩ (by show 10 - (i+1)<10 - i; omega)⟩⟩⟩,fun c=>?_⟩
  · show (List.set o i _).length=10
    rw [List.length_set]; exact h2
  · intro j hj
    have hj:j<i+1:=hj
    show Bd ((List.set o i _).getD j 0)
    rw [set_get (by omega)]
    by_cases e:j=i
    · rw [if_pos e]; exact hm
    · rw [if_neg e]; exact h3 j (by omega)
  have hi:i=10:=by omega
  subst hi
  have h4:∀ j,Bd (o.getD j 0):=fun j=>by
    by_cases e:j<10
    · exact h3 j e
    · rw [List.getD_eq_getElem?_getD,List.getElem?_eq_none (by omega)]; exact ⟨by decide,by decide⟩
  have h1s:∀ t∈(show List StrD from [s]),t.length≤4294967280:=fun t ht=>by rw [List.mem_singleton] at ht; rw [ht]; exact hs4
  have hro:=run_one o s
  have hok:=read_ok (s:=s)
  have hbad:(readF s).2≠0→(readF s).1=(0,0,0,()):=fun e=>by
    unfold readF readL at e ⊢
    split
    · rfl
    rename_i g1; rw [if_neg g1] at e
    split
    · rfl
    rename_i g2; rw [if_neg g2] at e
    split
    · rfl
    rename_i g3; rw [if_neg g3] at e
    split
    · rfl
    rename_i g4; rw [if_neg g4] at e
    split
    · rfl
    rename_i g5; rw [if_neg g5] at e
    split
    · rfl
    rename_i g6; rw [if_neg g6] at e
    exact absurd rfl e
  have hcb:=cell_b (readF s).1 h4
  refine ⟨hs4,fun _=>⟨h1s,fun _=>?_⟩⟩
  generalize hrd:readF s=r at *
  obtain ⟨⟨c1,c2,c3,⟨⟩⟩,e⟩:=r
  simp only at hro hok hbad hcb
  refine ⟨fun a=>?_,fun a=>?_⟩
  · rw [if_neg a] at hro
    have w1:(runAll o [s]).1=o:=by rw [hro]
    have w2:(runAll o [s]).2=1:=by rw [hro]
    refine ⟨fun _=>⟨fun _=>?_,fun b=>absurd w2 (of_decide_eq_false b)⟩,fun b=>?_⟩
    · rw [hbad a]; rfl
    · exfalso; rw [arr_eq.2 w1] at b; cases b
  · have a:e=0:=Decidable.not_not.1 a
    rw [if_pos a] at hro
    obtain ⟨⟨k1,k2⟩,k3,-⟩:=hok a
    rw [hro,run_cell]
    simp only at k1 k2 hcb ⊢
    refine Reach.loopI ESameKey_ok FSameKey_ok (fun q:Nat=>ESameKey_s17 0 (q:Int) o c1 c2 c3 (List.set o c2.toNat (cellF o (c1,c2,c3,())))) (fun q=>q≤10) (fun q=>10 - q) 1000 (fun _=>⟨uniq_of rfl,uniq_of rfl⟩) ?_ 0 (by decide)
    intro q hq _ ih2
    have hq:q≤10:=hq
    refine holds_of_eq (ESameKey_l17 ..) ?_
    have hget:(List.set o c2.toNat (cellF o (c1,c2,c3,()))).getD q 0=if q=c2.toNat then cellF o (c1,c2,c3,()) else o.getD q 0:=set_get (by omega)
    have hqb:Bd ((List.set o c2.toNat (cellF o (c1,c2,c3,()))).getD q 0):=by
      rw [hget]; split
      · exact hcb
      · exact h4 q
    have hqb1:=hqb.1
    have hqb2:=hqb.2
    simp only [holds_cond,Tree.holds,true_and,true_implies,decide_eq_true_eq,decide_eq_false_iff_not,Bool.not_eq_true',Bool.not_eq_false',Int.toNat_natCast,inK_i64,List.length_set,List.length_cons,List.length_nil]
    refine ⟨fun g=>⟨fun g2=>⟨by omega,fun _=>⟨by omega,fun _=>⟨fun g3=>?_,fun g3=>⟨by omega,fun _=>⟨fun g4=>?_,fun g4=>⟨by omega,fun _=>⟨fun g5=>?_,fun g5=>⟨by omega,fun _=>ih2 (q+1) (by show q+1≤10; omega) (by omega)⟩⟩⟩⟩⟩⟩⟩⟩,fun g2=>⟨by omega,fun _=>⟨fun g4=>?_,fun g4=>⟨by omega,fun _=>⟨fun g5=>?_,fun g5=>⟨by omega,fun _=>ih2 (q+1) (by show q+1≤10; omega) (by omega)⟩⟩⟩⟩⟩⟩,fun g=>by rfl⟩
    · exfalso; apply g3; rw [hget,if_neg (by omega)]
    all_goals omega
end Go.Proofs.YtgmbfnlhmnpciaaDoor
