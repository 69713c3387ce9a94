/- The law SamePrefix: the walk. -/
import Derived.Test.YtgmbfnlhmnpciaaDoorSmG
namespace Go.Proofs.YtgmbfnlhmnpciaaDoor
open Go.Ex
set_option maxRecDepth 100000
theorem sum_len_take {α:Type}:∀ (l:List (List α)) (i:Nat),((l.take i).map List.length).sum≤l.flatten.length
  | [],i=>by simp
  | a::l,0=>by simp
  | a::l,i+1=>by have:=sum_len_take l i; simp only [List.take_succ_cons,List.map_cons,List.sum_cons,List.flatten_cons,List.length_append]; omega
theorem take_getD {α:Type} {l:List α} {i:Nat} (h:i<l.length) (d:α):l.take (i+1)=l.take i++[l.getD i d]:=by
  rw [List.take_add_one,List.getElem?_eq_getElem h,List.getD_eq_getElem?_getD,List.getElem?_eq_getElem h]; rfl
abbrev nS:StrD:=[]
def cgrowS:Ctr:={ ps:=[.nilS,.v I64],rs:=[.slc true .str],pre:=fun x=>LE.le (α:=Int) 0 x.2.1∧LE.le (α:=Int) x.2.1 1048576,fn:=fun _=>([],()),out:=fun _=>() }
noncomputable def EgrowS:Env:={ P:=Tryd.prog,tt:=tt,ctr:=[],res:=[Go.ResultVar.tmp 4],rs:=[Ty.slc true Ty.str],ps:=[PK.nilS,PK.v (Ty.int IntKind.i64)],cuts:=[],nt:=27 }
theorem EgrowS_ok:EnvOk EgrowS:=envOk tt_ok trivial
theorem FgrowS_ok:FnOk EgrowS Tryd.f31:=⟨rfl,rfl⟩
theorem EgrowS_t (x1:Int):exec EgrowS 1000 [.code (bodyOf Tryd.prog 31)] (initSt cgrowS.ps (((),x1,()))) =
  cond (decide (x1<(0:Int))) (.stuck "op") (.need (inK IntKind.i64 ((0:Int) - (0:Int))) (.need (inK IntKind.i64 (x1 - ((0:Int) - (0:Int)))) (cond (decide ((0:Int)<x1 - ((0:Int) - (0:Int)))) (.need ((0:Int)=(0:Int)∧(0:Int)=(0:Int)) (.need ((0:Int)≤x1 - ((0:Int) - (0:Int))∧x1 - ((0:Int) - (0:Int))≤(140737488355328:Int)∧(x1 - ((0:Int) - (0:Int)))*(↑(Ty.wb Ty.str):Int)≤(140737488355328:Int)) (.need ((0:Int)≤(0:Int)∧(0:Int)≤(0:Int)∧(0:Int)≤(↑(List.length (List.replicate (Int.toNat (x1 - ((0:Int) - (0:Int)))) nS)):Int)) (.ret ((cut2 (0:Int) (0:Int) (List.replicate (Int.toNat (x1 - ((0:Int) - (0:Int)))) nS),())))))) (.ret (([],())))))):=by kernel_rfl
theorem cgrowS_valid:cgrowS.Valid Tryd.prog 31:=by
  refine Ctr.valid_of EgrowS_ok rfl rfl Tryd.func31 (c:=bodyOf Tryd.prog 31) rfl rfl FgrowS_ok rfl ?_
  rintro ⟨⟨⟩,(n:Int),⟨⟩⟩ ⟨(h0:0≤n),(h1:n≤1048576)⟩ -
  refine exec_sound (n:=1000) EgrowS_ok FgrowS_ok ?_
  refine holds_of_eq (EgrowS_t n) ?_
  simp only [holds_cond,Tree.holds,true_and,true_implies,decide_eq_true_eq,decide_eq_false_iff_not,Bool.not_eq_true',Bool.not_eq_false',Int.toNat_natCast,inK_i64,List.length_set,List.length_cons,List.length_nil,wb_str]
  refine ⟨fun h=>by omega,fun _=>⟨by omega,fun _=>⟨by omega,fun _=>⟨fun _=>⟨by omega,fun _=>⟨by omega,fun _=>?_⟩⟩,fun _=>rfl⟩⟩⟩⟩
  rfl
def cconS:Ctr:={ ps:=[.v (.slc false (.slc false .str))],rs:=[.slc true .str],pre:=fun x=>(List.flatten (α:=(List UInt8)) x.1).length≤1048576,fn:=fun x=>(List.flatten (α:=(List UInt8)) x.1,()),out:=fun _=>() }
noncomputable def EconS:Env:={ P:=Tryd.prog,tt:=tt,ctr:=[(31,cgrowS)],res:=[Go.ResultVar.tmp 2],rs:=[Ty.slc true Ty.str],ps:=[PK.v (Ty.slc false (Ty.slc false Ty.str))],cuts:=[(3,[(0,none),(3,none),(9,none),(10,none),(11,none)]),(11,[(6,some (Ty.slc true Ty.str)),(25,none),(26,none),(27,none)])],nt:=36 }
theorem EconS_ok:EnvOk EconS:=envOk tt_ok ⟨cgrowS_valid,trivial⟩
theorem FconS_ok:FnOk EconS Tryd.f19:=⟨rfl,rfl⟩
theorem EconS_t (x0:List (List (List UInt8))):exec EconS 1000 [.code (bodyOf Tryd.prog 19)] (initSt cconS.ps ((x0,()))) =
  .cut (loopAt (bodyOf Tryd.prog 19) 3).1 (loopAt (bodyOf Tryd.prog 19) 3).2 (St.mk [(0,AV.val (Ty.slc false (Ty.slc false Ty.str)) x0),(3,AV.val (Ty.int IntKind.i64) (0:Int)),(9,AV.val (Ty.slc false (Ty.slc false Ty.str)) x0),(10,AV.val (Ty.int IntKind.i64) (↑(List.length x0):Int)),(11,AV.val (Ty.int IntKind.i64) (0:Int))] []):=by kernel_rfl
def EconS_s3 (v0:List (List (List UInt8))) (v3:Int) (v9:List (List (List UInt8))) (v10:Int) (v11:Int):St:=St.mk [(0,AV.val (Ty.slc false (Ty.slc false Ty.str)) v0),(3,AV.val (Ty.int IntKind.i64) v3),(9,AV.val (Ty.slc false (Ty.slc false Ty.str)) v9),(10,AV.val (Ty.int IntKind.i64) v10),(11,AV.val (Ty.int IntKind.i64) v11)] []
theorem EconS_l3 (v0:List (List (List UInt8))) (v3:Int) (v9:List (List (List UInt8))) (v10:Int) (v11:Int):exec EconS 1000 (.code (loopAt (bodyOf Tryd.prog 19) 3).1::.inLoop (loopAt (bodyOf Tryd.prog 19) 3).1::(loopAt (bodyOf Tryd.prog 19) 3).2) (EconS_s3 v0 v3 v9 v10 v11) =
  cond (decide (v11<v10)) (.need ((0:Int)≤v11∧v11<(↑(List.length v9):Int)) (.need (inK IntKind.i64 (v3+(↑(List.length (List.getD v9 (Int.toNat v11) [])):Int))) (cond (decide (v3+(↑(List.length (List.getD v9 (Int.toNat v11) [])):Int)<(0:Int))) (.stuck "op") (.need (inK IntKind.i64 (v11+(1:Int))) (.cut (loopAt (bodyOf Tryd.prog 19) 3).1 (loopAt (bodyOf Tryd.prog 19) 3).2 (St.mk [(0,AV.val (Ty.slc false (Ty.slc false Ty.str)) v0),(3,AV.val (Ty.int IntKind.i64) (v3+(↑(List.length (List.getD v9 (Int.toNat v11) [])):Int))),(9,AV.val (Ty.slc false (Ty.slc false Ty.str)) v9),(10,AV.val (Ty.int IntKind.i64) v10),(11,AV.val (Ty.int IntKind.i64) (v11+(1:Int)))] [])))))) (.need ((0:Int)≤v3∧v3≤(1048576:Int)) (.cut (loopAt (bodyOf Tryd.prog 19) 11).1 (loopAt (bodyOf Tryd.prog 19) 11).2 (St.mk [(6,AV.at_ 1000006 []),(25,AV.val (Ty.slc false (Ty.slc false Ty.str)) v0),(26,AV.val (Ty.int IntKind.i64) (↑(List.length v0):Int)),(27,AV.val (Ty.int IntKind.i64) (0:Int))] [(1000006,Ent.own (Ty.slc true Ty.str) [])]))):=by kernel_rfl
def EconS_s11 (v25:List (List (List UInt8))) (v26:Int) (v27:Int) (o1000006:List (List UInt8)):St:=St.mk [(6,AV.at_ 1000006 []),(25,AV.val (Ty.slc false (Ty.slc false Ty.str)) v25),(26,AV.val (Ty.int IntKind.i64) v26),(27,AV.val (Ty.int IntKind.i64) v27)] [(1000006,Ent.own (Ty.slc true Ty.str) o1000006)]
theorem EconS_l11 (v25:List (List (List UInt8))) (v26:Int) (v27:Int) (o1000006:List (List UInt8)):exec EconS 1000 (.code (loopAt (bodyOf Tryd.prog 19) 11).1::.inLoop (loopAt (bodyOf Tryd.prog 19) 11).1::(loopAt (bodyOf Tryd.prog 19) 11).2) (EconS_s11 v25 v26 v27 o1000006) =
  cond (decide (v27<v26)) (.need ((0:Int)≤v27∧v27<(↑(List.length v25):Int)) (.need (List.length o1000006+List.length (List.getD v25 (Int.toNat v27) [])≤140737488355328∧(List.length o1000006+List.length (List.getD v25 (Int.toNat v27) []))*Ty.wb Ty.str≤140737488355328) (.need (inK IntKind.i64 (v27+(1:Int))) (.cut (loopAt (bodyOf Tryd.prog 19) 11).1 (loopAt (bodyOf Tryd.prog 19) 11).2 (St.mk [(6,AV.at_ 1000006 []),(25,AV.val (Ty.slc false (Ty.slc false Ty.str)) v25),(26,AV.val (Ty.int IntKind.i64) v26),(27,AV.val (Ty.int IntKind.i64) (v27+(1:Int)))] [(1000006,Ent.own (Ty.slc true Ty.str) (o1000006++List.getD v25 (Int.toNat v27) []))]))))) (.ret ((o1000006,()))):=by kernel_rfl
theorem cconS_valid:cconS.Valid Tryd.prog 19:=by
  refine Ctr.valid_of EconS_ok rfl rfl Tryd.func19 (c:=bodyOf Tryd.prog 19) rfl rfl FconS_ok rfl ?_
  rintro ⟨(l:List (List ((List UInt8)))),⟨⟩⟩ hp ⟨⟨hl,-⟩,-⟩
  have hl:l.length≤9223372036854775807:=hl
  have hp:l.flatten.length≤1048576:=hp
  refine exec_sound (n:=1000) EconS_ok FconS_ok ?_
  refine holds_of_eq (EconS_t l) ?_
  refine Reach.loopI EconS_ok FconS_ok (fun i:Nat=>EconS_s3 l (((l.take i).map List.length).sum:Nat) l (l.length:Int) (i:Int)) (fun i=>i≤l.length)
    (fun i=>l.length - i) 1000 (fun _=>⟨uniq_of rfl,uniq_of rfl⟩) ?_ 0 (Nat.zero_le _)
  rintro i k1 - ih
  have k1:i≤l.length:=k1
  refine holds_of_eq (EconS_l3 ..) ?_
  have hs:=sum_len_take l i
  simp only [holds_cond,Tree.holds,true_and,true_implies,decide_eq_true_eq,decide_eq_false_iff_not,Bool.not_eq_true',Bool.not_eq_false',Int.toNat_natCast,inK_i64,List.length_set,List.length_cons,List.length_nil]
  refine ⟨fun c=>⟨by omega,fun _=>?_⟩,fun c=>?_⟩
  · have tk:=take_getD (show i<l.length by omega) ([]:List ((List UInt8)))
    have hs1:=sum_len_take l (i+1)
    have e1:((l.take (i+1)).map List.length).sum=((l.take i).map List.length).sum+(l.getD i []).length:=by rw [tk]; simp
    rw [e1] at hs1
    have:=ih (i+1) (by show i+1≤l.length; omega) (by omega)
    rw [e1] at this
    exact ⟨by omega,fun _=>⟨fun h=>by omega,fun _=>⟨by omega,fun _=>this⟩⟩⟩
  · refine ⟨by omega,fun _=>?_⟩
    refine Reach.loopI EconS_ok FconS_ok (fun i:Nat=>EconS_s11 l (l.length:Int) (i:Int) (l.take i).flatten) (fun i=>i≤l.length)
      (fun i=>l.length - i) 1000 (fun _=>⟨uniq_of rfl,uniq_of rfl⟩) ?_ 0 (Nat.zero_le _)
    rintro i k1 - ih
    have k1:i≤l.length:=k1
    refine holds_of_eq (EconS_l11 ..) ?_
    simp only [holds_cond,Tree.holds,true_and,true_implies,decide_eq_true_eq,decide_eq_false_iff_not,Bool.not_eq_true',Bool.not_eq_false',Int.toNat_natCast,inK_i64,List.length_set,List.length_cons,List.length_nil,wb_str]
    refine ⟨fun c=>?_,fun c=>?_⟩
    · have tk:=take_getD (show i<l.length by omega) ([]:List ((List UInt8)))
      have e1:(l.take (i+1)).flatten=(l.take i).flatten++l.getD i []:=by rw [tk]; simp
      have hb:((l.take i).flatten++l.getD i []).length≤l.flatten.length:=by
        rw [← e1]
        conv=>rhs; rw [← List.take_append_drop (i+1) l,List.flatten_append,List.length_append]
        omega
      rw [List.length_append] at hb
      have:=ih (i+1) (by show i+1≤l.length; omega) (by omega)
      rw [e1] at this
      exact ⟨by omega,fun _=>⟨by omega,fun _=>⟨by omega,fun _=>this⟩⟩⟩
    · rw [List.take_of_length_le (by omega)]
      rfl
def cSamePrefix:Ctr:=smallC [Vals,.slc false .str,.slc false .str]
noncomputable def ESamePrefix:Env:={ P:=Tryd.prog,tt:=tt,ctr:=[(16,cRun),(19,cconS)],res:=[Go.ResultVar.tmp 6],rs:=[Ty.bool],ps:=[PK.v (Ty.arr 10 (Ty.int IntKind.i64)),PK.v (Ty.slc false Ty.str),PK.v (Ty.slc false Ty.str)],cuts:=[],nt:=59 }
theorem ESamePrefix_ok:EnvOk ESamePrefix:=envOk tt_ok ⟨cRun_valid,cconS_valid,trivial⟩
theorem FSamePrefix_ok:FnOk ESamePrefix Tryd.f9:=⟨rfl,rfl⟩
theorem ESamePrefix_t (x0:List Int) (x1:List (List UInt8)) (x2:List (List UInt8)):exec ESamePrefix 1000 [.code (bodyOf Tryd.prog 9)] (initSt cSamePrefix.ps ((x0,x1,x2,()))) =
  .need (∀ (s:StrD),s∈List.set (List.set (List.set [[],[],[]] (Int.toNat (↑0:Int)) (Array.toList (ByteArray.data (ByteArray.mk #[(115:UInt8),(101:UInt8),(116:UInt8),(32:UInt8),(51:UInt8),(32:UInt8),(53:UInt8)])))) (Int.toNat (↑1:Int)) (Array.toList (ByteArray.data (ByteArray.mk #[(97:UInt8),(100:UInt8),(100:UInt8),(32:UInt8),(51:UInt8),(32:UInt8),(50:UInt8)])))) (Int.toNat (↑2:Int)) (Array.toList (ByteArray.data (ByteArray.mk #[(119:UInt8),(104:UInt8),(97:UInt8),(116:UInt8)])))→List.length s≤4294967280) (.need (∀ (s:StrD),s∈x1→List.length s≤4294967280) (.need (∀ (s:StrD),s∈x2→List.length s≤4294967280) (.need (List.length (List.flatten (List.set (List.set [[],[]] (Int.toNat (↑0:Int)) x1) (Int.toNat (↑1:Int)) x2))≤1048576) (.need (∀ (s:StrD),s∈List.flatten (List.set (List.set [[],[]] (Int.toNat (↑0:Int)) x1) (Int.toNat (↑1:Int)) x2)→List.length s≤4294967280) (cond (eqD (Ty.arr 10 I64) (Prod.fst (runAll (Prod.fst (runAll x0 x1)) x2)) (Prod.fst (runAll x0 (List.flatten (List.set (List.set [[],[]] (Int.toNat (↑0:Int)) x1) (Int.toNat (↑1:Int)) x2))))) (.need (inK IntKind.i64 (Prod.snd (runAll x0 x1)+Prod.snd (runAll (Prod.fst (runAll x0 x1)) x2))) (.ret ((decide (Prod.snd (runAll x0 (List.flatten (List.set (List.set [[],[]] (Int.toNat (↑0:Int)) x1) (Int.toNat (↑1:Int)) x2)))=Prod.snd (runAll x0 x1)+Prod.snd (runAll (Prod.fst (runAll x0 x1)) x2)),())))) (.ret ((false,())))))))):=by kernel_rfl
theorem fold_add {l:List StrD}:∀ {v:List Int} {k:Int},l.foldl stepR (v,k)=((runAll v l).1,k+(runAll v l).2):=by
  unfold runAll
  induction l with
  | nil=>intro v k; simp
  | cons s l ih =>
    intro v k
    rw [List.foldl_cons,List.foldl_cons]
    unfold stepR
    split
    · rename_i h; simp only; exact ih
    · rename_i h
      simp only
      have h1:=ih (v:=v) (k:=k+1)
      have h2:=ih (v:=v) (k:=0+1)
      unfold stepR at h1 h2
      rw [h1,h2]
      simp only [Prod.mk.injEq,true_and]; omega
theorem runAll_app (v:List Int) (a b:List StrD):runAll v (a++b)=((runAll (runAll v a).1 b).1,(runAll v a).2+(runAll (runAll v a).1 b).2):=by
  rw [← fold_add]
  unfold runAll
  rw [List.foldl_append]
theorem cSamePrefix_valid:cSamePrefix.Valid Tryd.prog 9:=by
  refine Ctr.valid_of ESamePrefix_ok rfl rfl Tryd.func9 (c:=bodyOf Tryd.prog 9) rfl rfl FSamePrefix_ok rfl ?_
  rintro ⟨(v:List Int),(a:List StrD),(b:List StrD),⟨⟩⟩ hp -
  have hb:bulkK [Vals,.slc false .str,.slc false .str] (v,a,b,())≤1048576:=hp
  have hs:bulkK [Vals,.slc false .str,.slc false .str] (v,a,b,())=Ty.bulk Vals v+((bulkL (Ty.bulk .str) a+1)+((bulkL (Ty.bulk .str) b+1)+0)):=rfl
  have hl:a.length≤1048576∧b.length≤1048576∧a.length+b.length≤1048576:=by
    have h1:=blk_l0 a
    have h2:=blk_l0 b
    omega
  have ha:∀ s∈a,s.length≤4294967280:=fun s h=>Nat.le_trans ((blk_len (l:=a) (by omega)).2 s h) (by decide)
  have hbb:∀ s∈b,s.length≤4294967280:=fun s h=>Nat.le_trans ((blk_len (l:=b) (by omega)).2 s h) (by decide)
  refine exec_sound (n:=1000) ESamePrefix_ok FSamePrefix_ok ?_
  refine holds_of_eq (ESamePrefix_t v a b) ?_
  have c0:∀ s∈(show List StrD from [[115,101,116,32,51,32,53],[97,100,100,32,51,32,50],[119,104,97,116]]),s.length≤4294967280:=fun s h=>by
    rcases List.mem_cons.1 h with rfl|h
    · decide
    rcases List.mem_cons.1 h with rfl|h
    · decide
    · rw [List.mem_singleton] at h; rw [h]; decide
  have e0:List.flatten (List.set (List.set [([]:List StrD),[]] (Int.toNat (0:Int)) a) (Int.toNat (1:Int)) b)=a++b:=by
    show a++(b++[])=a++b
    rw [List.append_nil]
  have hab:∀ s∈a++b,s.length≤4294967280:=fun s h=>by
    rcases List.mem_append.1 h with h|h
    · exact ha s h
    · exact hbb s h
  have hlen:(a++b).length≤1048576:=by rw [List.length_append]; omega
  have hr:=runAll_app v a b
  have k1:=runAll_snd (l:=a) (a:=(v,0))
  have k2:=runAll_snd (l:=b) (a:=((runAll v a).1,0))
  have k1:0≤(runAll v a).2∧(runAll v a).2≤0+a.length:=k1
  have k2:0≤(runAll (runAll v a).1 b).2∧(runAll (runAll v a).1 b).2≤0+b.length:=k2
  refine ⟨c0,fun _=>⟨ha,fun _=>⟨hbb,fun _=>?_⟩⟩⟩
  simp only [show List.flatten (List.set (List.set [([]:List StrD),[]] (Int.toNat (0:Int)) a) (Int.toNat (1:Int)) b)=a++b from e0]
  refine ⟨hlen,fun _=>⟨hab,fun _=>?_⟩⟩
  have f1:eqD (.arr 10 I64) (runAll (runAll v a).1 b).1 (runAll v (a++b)).1=true:=arr_eq.2 (by rw [hr])
  have f2:(runAll v (a++b)).2=(runAll v a).2+(runAll (runAll v a).1 b).2:=by rw [hr]
  simp only [holds_cond,Tree.holds,true_and,true_implies,decide_eq_true_eq,decide_eq_false_iff_not,Bool.not_eq_true',Bool.not_eq_false',Int.toNat_natCast,inK_i64,List.length_set,List.length_cons,List.length_nil]
  refine ⟨fun _=>⟨by omega,fun _=>yesd f2⟩,fun e=>?_⟩
  rw [f1] at e; cases e
end Go.Proofs.YtgmbfnlhmnpciaaDoor
