/- The law SameLine: the walk. -/
import Derived.Test.YtgmbfnlhmnpciaaDoorSmE
namespace Go.Proofs.YtgmbfnlhmnpciaaDoor
open Go.Ex
set_option maxRecDepth 100000
theorem blk_l0:∀ l:List StrD,l.length≤bulkL (Ty.bulk .str) l
  | []=>by simp
  | y::l=>by
    have:bulkL (Ty.bulk .str) (y::l)=(List.length (α:=UInt8) y+1)+bulkL (Ty.bulk .str) l:=rfl
    have:=blk_l0 l
    rw [List.length_cons]; omega
theorem blk_len {l:List StrD}:bulkL (Ty.bulk .str) l≤1048576→l.length≤1048576∧∀ s∈l,s.length≤1048576:=by
  induction l with
  | nil=>intro _; exact ⟨by simp,by simp⟩
  | cons x l ih =>
    intro h
    have h:(List.length (α:=UInt8) x+1)+bulkL (Ty.bulk .str) l≤1048576:=h
    have h2:=blk_l0 l
    obtain ⟨h3,h4⟩:=ih (by omega)
    refine ⟨by rw [List.length_cons]; omega,fun s hs=>?_⟩
    rcases List.mem_cons.1 hs with rfl|hs
    · omega
    · exact h4 s hs
theorem fold_len {l:List StrD}:∀ {p:List Int×Int},(l.foldl stepR p).1.length=p.1.length:=by
  induction l with
  | nil=>intro p; rfl
  | cons s l ih=>intro p; rw [List.foldl_cons,ih,step_len]
theorem split2 {α:Type} {l:List α} {i:Nat} {d:α} (h:i+1<l.length):l=l.take i++l.getD i d::l.getD (i+1) d::l.drop (i+2):=by
  conv=>lhs; rw [← List.take_append_drop i l]
  rw [drop_getD (by omega) d,drop_getD h d]
theorem set2 {α:Type} {l:List α} {i:Nat} {d:α} (h:i+1<l.length) (x y:α):(l.set i x).set (i+1) y=l.take i++x::y::l.drop (i+2):=by
  refine eq_of_getD (d:=d) ?_ fun j _=>?_
  · simp only [List.length_set,List.length_append,List.length_cons,List.length_take,List.length_drop]; omega
  rw [getD_set (by rw [List.length_set]; exact h),getD_set (by omega)]
  have h1:(l.take i).length=i:=by rw [List.length_take]; omega
  by_cases e1:j<i
  · rw [if_neg (by omega),if_neg (by omega),getD_app_left (by omega),List.getD_eq_getElem?_getD,List.getD_eq_getElem?_getD,List.getElem?_take_of_lt e1]
  rw [getD_app_right (by omega),h1]
  by_cases e2:j=i
  · rw [if_neg (by omega),if_pos e2,show j - i=0 by omega]; rfl
  by_cases e3:j=i+1
  · rw [if_pos e3,show j - i=0+1 by omega]; rfl
  · rw [if_neg e3,if_neg e2,show j - i=(j - i - 2)+1+1 by omega]
    show _=(l.drop (i+2)).getD (j - i - 2) d
    rw [List.getD_eq_getElem?_getD,List.getD_eq_getElem?_getD,List.getElem?_drop,show i+2+(j - i - 2)=j by omega]
theorem swap_runAll {v:List Int} {l:List StrD} {i:Nat} (h:i+1<l.length) (hl:v.length=10) (hs:swapsF (l.getD i []) (l.getD (i+1) [])=true):runAll v ((l.set i (l.getD (i+1) [])).set (i+1) (l.getD i []))=runAll v l:=by
  rw [set2 (d:=[]) h]
  conv=>rhs; rw [split2 (d:=[]) h]
  unfold runAll
  rw [List.foldl_append,List.foldl_append,List.foldl_cons,List.foldl_cons,List.foldl_cons,List.foldl_cons,swaps_step hs (by rw [fold_len]; exact hl)]
theorem wbcloS:Ty.wb .str=16:=rfl
def ccloS:Ctr:={ ps:=[.v (.slc false .str)],rs:=[.slc true .str],pre:=fun x=>List.length (α:=(List UInt8)) x.1≤1048576,fn:=fun x=>x,out:=fun _=>() }
noncomputable def EcloS:Env:={ P:=Tryd.prog,tt:=tt,ctr:=[],res:=[Go.ResultVar.tmp 2],rs:=[Ty.slc true Ty.str],ps:=[PK.v (Ty.slc false Ty.str)],cuts:=[],nt:=8 }
theorem EcloS_ok:EnvOk EcloS:=envOk tt_ok trivial
theorem FcloS_ok:FnOk EcloS Tryd.f18:=⟨rfl,rfl⟩
theorem EcloS_t (x0:List (List UInt8)):exec EcloS 1000 [.code (bodyOf Tryd.prog 18)] (initSt ccloS.ps ((x0,()))) =
  .both (x0=[]) (.ret (([],()))) (.need ((0:Nat)+List.length x0≤140737488355328∧((0:Nat)+List.length x0)*Ty.wb Ty.str≤140737488355328) (.ret (([]++x0,())))):=by kernel_rfl
theorem ccloS_valid:ccloS.Valid Tryd.prog 18:=by
  refine Ctr.valid_of EcloS_ok rfl rfl Tryd.func18 (c:=bodyOf Tryd.prog 18) rfl rfl FcloS_ok rfl ?_
  rintro ⟨(l:List ((List UInt8))),⟨⟩⟩ hp -
  have hp:l.length≤1048576:=hp
  refine exec_sound (n:=1000) EcloS_ok FcloS_ok ?_
  refine holds_of_eq (EcloS_t l) ?_
  simp only [holds_cond,Tree.holds,true_and,true_implies,decide_eq_true_eq,decide_eq_false_iff_not,Bool.not_eq_true',Bool.not_eq_false',Int.toNat_natCast,inK_i64,List.length_set,List.length_cons,List.length_nil,wbcloS]
  refine ⟨fun h=>?_,by omega,fun _=>rfl⟩
  show (([],()):List ((List UInt8))×Unit)=(l,())
  rw [show l=[] from h]
def cSameLine:Ctr:=smallC [.slc false .str,.slc false I64]
noncomputable def ESameLine:Env:={ P:=Tryd.prog,tt:=tt,ctr:=[(17,cSwaps),(16,cRun),(18,ccloS),(11,crest)],res:=[Go.ResultVar.tmp 4],rs:=[Ty.bool],ps:=[PK.v (Ty.slc false Ty.str),PK.v (Ty.slc false (Ty.int IntKind.i64))],cuts:=[(6,[(0,none),(7,some (Ty.slc true Ty.str)),(26,none),(27,none),(28,none)])],nt:=87 }
theorem ESameLine_ok:EnvOk ESameLine:=envOk tt_ok ⟨cSwaps_valid,cRun_valid,ccloS_valid,crest_valid,trivial⟩
theorem FSameLine_ok:FnOk ESameLine Tryd.f8:=⟨rfl,rfl⟩
theorem ESameLine_t (x0:List (List UInt8)) (x1:List Int):exec ESameLine 1000 [.code (bodyOf Tryd.prog 8)] (initSt cSameLine.ps ((x0,x1,()))) =
  .need (∀ (s:StrD),s∈List.set (List.set [[],[]] (Int.toNat (↑0:Int)) (Array.toList (ByteArray.data (ByteArray.mk #[(99:UInt8),(111:UInt8),(112:UInt8),(121:UInt8),(32:UInt8),(49:UInt8),(32:UInt8),(50:UInt8)])))) (Int.toNat (↑1:Int)) (Array.toList (ByteArray.data (ByteArray.mk #[(109:UInt8),(111:UInt8),(115:UInt8),(116:UInt8),(32:UInt8),(50:UInt8),(32:UInt8),(57:UInt8)])))→List.length s≤4294967280) (.need (List.length x0≤1048576) (.cut (loopAt (bodyOf Tryd.prog 8) 6).1 (loopAt (bodyOf Tryd.prog 8) 6).2 (St.mk [(0,AV.val (Ty.slc false Ty.str) x0),(7,AV.at_ 1000007 []),(26,AV.val (Ty.slc false (Ty.int IntKind.i64)) x1),(27,AV.val (Ty.int IntKind.i64) (↑(List.length x1):Int)),(28,AV.val (Ty.int IntKind.i64) (0:Int))] [(1000007,Ent.own (Ty.slc true Ty.str) x0)]))):=by kernel_rfl
def ESameLine_s6 (v0:List (List UInt8)) (v26:List Int) (v27:Int) (v28:Int) (o1000007:List (List UInt8)):St:=St.mk [(0,AV.val (Ty.slc false Ty.str) v0),(7,AV.at_ 1000007 []),(26,AV.val (Ty.slc false (Ty.int IntKind.i64)) v26),(27,AV.val (Ty.int IntKind.i64) v27),(28,AV.val (Ty.int IntKind.i64) v28)] [(1000007,Ent.own (Ty.slc true Ty.str) o1000007)]
theorem ESameLine_l6 (v0:List (List UInt8)) (v26:List Int) (v27:Int) (v28:Int) (o1000007:List (List UInt8)):exec ESameLine 1000 (.code (loopAt (bodyOf Tryd.prog 8) 6).1::.inLoop (loopAt (bodyOf Tryd.prog 8) 6).1::(loopAt (bodyOf Tryd.prog 8) 6).2) (ESameLine_s6 v0 v26 v27 v28 o1000007) =
  cond (decide (v28<v27)) (.need ((0:Int)≤v28∧v28<(↑(List.length v26):Int)) (cond (decide ((↑(List.length o1000007):Int)<(2:Int))) (.need (∀ (s:StrD),s∈v0→List.length s≤4294967280) (.need (∀ (s:StrD),s∈o1000007→List.length s≤4294967280) (cond (eqD (Ty.arr 10 I64) (Prod.fst (runAll [(0:Int),(0:Int),(0:Int),(0:Int),(0:Int),(0:Int),(0:Int),(0:Int),(0:Int),(0:Int)] v0)) (Prod.fst (runAll [(0:Int),(0:Int),(0:Int),(0:Int),(0:Int),(0:Int),(0:Int),(0:Int),(0:Int),(0:Int)] o1000007))) (.ret ((decide (Prod.snd (runAll [(0:Int),(0:Int),(0:Int),(0:Int),(0:Int),(0:Int),(0:Int),(0:Int),(0:Int),(0:Int)] v0)=Prod.snd (runAll [(0:Int),(0:Int),(0:Int),(0:Int),(0:Int),(0:Int),(0:Int),(0:Int),(0:Int),(0:Int)] o1000007)),()))) (.ret ((false,())))))) (.need (inK IntKind.i64 ((↑(List.length o1000007):Int) - (1:Int))) (.need ((↑(List.length o1000007):Int) - (1:Int)≤(1000000000:Int)) (.need ((0:Int)≤rest (List.getD v26 (Int.toNat v28) (0:Int)) ((↑(List.length o1000007):Int) - (1:Int))∧rest (List.getD v26 (Int.toNat v28) (0:Int)) ((↑(List.length o1000007):Int) - (1:Int))<(↑(List.length o1000007):Int)) (.need (inK IntKind.i64 (rest (List.getD v26 (Int.toNat v28) (0:Int)) ((↑(List.length o1000007):Int) - (1:Int))+(1:Int))) (.need ((0:Int)≤rest (List.getD v26 (Int.toNat v28) (0:Int)) ((↑(List.length o1000007):Int) - (1:Int))+(1:Int)∧rest (List.getD v26 (Int.toNat v28) (0:Int)) ((↑(List.length o1000007):Int) - (1:Int))+(1:Int)<(↑(List.length o1000007):Int)) (.need (List.length (List.getD o1000007 (Int.toNat (rest (List.getD v26 (Int.toNat v28) (0:Int)) ((↑(List.length o1000007):Int) - (1:Int)))) [])≤4294967280∧List.length (List.getD o1000007 (Int.toNat (rest (List.getD v26 (Int.toNat v28) (0:Int)) ((↑(List.length o1000007):Int) - (1:Int))+(1:Int))) [])≤4294967280) (cond (swapsF (List.getD o1000007 (Int.toNat (rest (List.getD v26 (Int.toNat v28) (0:Int)) ((↑(List.length o1000007):Int) - (1:Int)))) []) (List.getD o1000007 (Int.toNat (rest (List.getD v26 (Int.toNat v28) (0:Int)) ((↑(List.length o1000007):Int) - (1:Int))+(1:Int))) [])) (.need (inK IntKind.i64 (rest (List.getD v26 (Int.toNat v28) (0:Int)) ((↑(List.length o1000007):Int) - (1:Int))+(1:Int))) (.need (inK IntKind.i64 (rest (List.getD v26 (Int.toNat v28) (0:Int)) ((↑(List.length o1000007):Int) - (1:Int))+(1:Int))) (.need ((0:Int)≤rest (List.getD v26 (Int.toNat v28) (0:Int)) ((↑(List.length o1000007):Int) - (1:Int))+(1:Int)∧rest (List.getD v26 (Int.toNat v28) (0:Int)) ((↑(List.length o1000007):Int) - (1:Int))+(1:Int)<(↑(List.length o1000007):Int)) (.need ((0:Int)≤rest (List.getD v26 (Int.toNat v28) (0:Int)) ((↑(List.length o1000007):Int) - (1:Int))∧rest (List.getD v26 (Int.toNat v28) (0:Int)) ((↑(List.length o1000007):Int) - (1:Int))<(↑(List.length o1000007):Int)) (.need ((0:Int)≤rest (List.getD v26 (Int.toNat v28) (0:Int)) ((↑(List.length o1000007):Int) - (1:Int))∧rest (List.getD v26 (Int.toNat v28) (0:Int)) ((↑(List.length o1000007):Int) - (1:Int))<(↑(List.length o1000007):Int)) (.need ((0:Int)≤rest (List.getD v26 (Int.toNat v28) (0:Int)) ((↑(List.length o1000007):Int) - (1:Int))+(1:Int)∧rest (List.getD v26 (Int.toNat v28) (0:Int)) ((↑(List.length o1000007):Int) - (1:Int))+(1:Int)<(↑(List.length (List.set o1000007 (Int.toNat (rest (List.getD v26 (Int.toNat v28) (0:Int)) ((↑(List.length o1000007):Int) - (1:Int)))) (List.getD o1000007 (Int.toNat (rest (List.getD v26 (Int.toNat v28) (0:Int)) ((↑(List.length o1000007):Int) - (1:Int))+(1:Int))) []))):Int)) (.need (inK IntKind.i64 (v28+(1:Int))) (.cut (loopAt (bodyOf Tryd.prog 8) 6).1 (loopAt (bodyOf Tryd.prog 8) 6).2 (St.mk [(0,AV.val (Ty.slc false Ty.str) v0),(7,AV.at_ 1000007 []),(26,AV.val (Ty.slc false (Ty.int IntKind.i64)) v26),(27,AV.val (Ty.int IntKind.i64) v27),(28,AV.val (Ty.int IntKind.i64) (v28+(1:Int)))] [(1000007,Ent.own (Ty.slc true Ty.str) (List.set (List.set o1000007 (Int.toNat (rest (List.getD v26 (Int.toNat v28) (0:Int)) ((↑(List.length o1000007):Int) - (1:Int)))) (List.getD o1000007 (Int.toNat (rest (List.getD v26 (Int.toNat v28) (0:Int)) ((↑(List.length o1000007):Int) - (1:Int))+(1:Int))) [])) (Int.toNat (rest (List.getD v26 (Int.toNat v28) (0:Int)) ((↑(List.length o1000007):Int) - (1:Int))+(1:Int))) (List.getD o1000007 (Int.toNat (rest (List.getD v26 (Int.toNat v28) (0:Int)) ((↑(List.length o1000007):Int) - (1:Int)))) [])))]))))))))) (.need (inK IntKind.i64 (v28+(1:Int))) (.cut (loopAt (bodyOf Tryd.prog 8) 6).1 (loopAt (bodyOf Tryd.prog 8) 6).2 (St.mk [(0,AV.val (Ty.slc false Ty.str) v0),(7,AV.at_ 1000007 []),(26,AV.val (Ty.slc false (Ty.int IntKind.i64)) v26),(27,AV.val (Ty.int IntKind.i64) v27),(28,AV.val (Ty.int IntKind.i64) (v28+(1:Int)))] [(1000007,Ent.own (Ty.slc true Ty.str) o1000007)])))))))))))) (.need (∀ (s:StrD),s∈v0→List.length s≤4294967280) (.need (∀ (s:StrD),s∈o1000007→List.length s≤4294967280) (cond (eqD (Ty.arr 10 I64) (Prod.fst (runAll [(0:Int),(0:Int),(0:Int),(0:Int),(0:Int),(0:Int),(0:Int),(0:Int),(0:Int),(0:Int)] v0)) (Prod.fst (runAll [(0:Int),(0:Int),(0:Int),(0:Int),(0:Int),(0:Int),(0:Int),(0:Int),(0:Int),(0:Int)] o1000007))) (.ret ((decide (Prod.snd (runAll [(0:Int),(0:Int),(0:Int),(0:Int),(0:Int),(0:Int),(0:Int),(0:Int),(0:Int),(0:Int)] v0)=Prod.snd (runAll [(0:Int),(0:Int),(0:Int),(0:Int),(0:Int),(0:Int),(0:Int),(0:Int),(0:Int),(0:Int)] o1000007)),()))) (.ret ((false,())))))):=by kernel_rfl
theorem mem_set2 {l:List StrD} {i j:Nat} {p:StrD→Prop} (h:∀ s∈l,p s) (x y:StrD) (hx:p x) (hy:p y):∀ s∈(l.set i x).set j y,p s:=fun s hs=>by
  rcases List.mem_or_eq_of_mem_set hs with hs|rfl
  · rcases List.mem_or_eq_of_mem_set hs with hs|rfl
    · exact h s hs
    · exact hx
  · exact hy
abbrev vz:List Int:=[0,0,0,0,0,0,0,0,0,0]
theorem cSameLine_valid:cSameLine.Valid Tryd.prog 8:=by
  refine Ctr.valid_of ESameLine_ok rfl rfl Tryd.func8 (c:=bodyOf Tryd.prog 8) rfl rfl FSameLine_ok rfl ?_
  rintro ⟨(l:List StrD),(at_:List Int),⟨⟩⟩ hp ⟨-,⟨hr,-⟩,-⟩
  have hat:at_.length≤9223372036854775807:=hr
  have hb:bulkK [.slc false .str,.slc false I64] (l,at_,())≤1048576:=hp
  have hs:bulkK [.slc false .str,.slc false I64] (l,at_,())=(bulkL (Ty.bulk .str) l+1)+((bulkL (Ty.bulk I64) at_+1)+0):=rfl
  obtain ⟨hlen,hstr⟩:=blk_len (l:=l) (by omega)
  have hs4:∀ s∈l,s.length≤4294967280:=fun s h=>Nat.le_trans (hstr s h) (by decide)
  refine exec_sound (n:=1000) ESameLine_ok FSameLine_ok ?_
  refine holds_of_eq (ESameLine_t l at_) ?_
  have c0:∀ s∈(show List StrD from [[99,111,112,121,32,49,32,50],[109,111,115,116,32,50,32,57]]),s.length≤4294967280:=fun s h=>by
    rcases List.mem_cons.1 h with rfl|h
    · decide
    · rw [List.mem_singleton] at h; rw [h]; decide
  refine ⟨c0,fun _=>⟨hlen,fun _=>?_⟩⟩
  refine Reach.loopI ESameLine_ok FSameLine_ok (fun q:Nat×List StrD=>ESameLine_s6 l at_ (at_.length:Int) (q.1:Int) q.2) (fun q=>q.1≤at_.length∧q.2.length=l.length∧(∀ s∈q.2,s.length≤4294967280)∧runAll vz l=runAll vz q.2) (fun q=>at_.length - q.1) 1000 (fun _=>⟨uniq_of rfl,uniq_of rfl⟩) ?_ (0,l) ⟨Nat.zero_le _,rfl,hs4,rfl⟩
  rintro ⟨i,o⟩ ⟨(h1:i≤at_.length),(h2:o.length=l.length),(h3:∀ s∈o,s.length≤4294967280),(h4:runAll vz l=runAll vz o)⟩ - ih
  refine holds_of_eq (ESameLine_l6 ..) ?_
  have fin1:eqD (.arr 10 I64) (runAll vz l).1 (runAll vz o).1=true:=arr_eq.2 (by rw [h4])
  have fin2:(runAll vz l).2=(runAll vz o).2:=by rw [h4]
  simp only [holds_cond,Tree.holds,true_and,true_implies,decide_eq_true_eq,decide_eq_false_iff_not,Bool.not_eq_true',Bool.not_eq_false',Int.toNat_natCast,inK_i64,List.length_set,List.length_cons,List.length_nil]
  refine ⟨fun c=>⟨by omega,fun _=>⟨fun c2=>⟨hs4,fun _=>⟨h3,fun _=>⟨fun _=>?_,fun e=>?_⟩⟩⟩,fun c2=>⟨by omega,fun _=>⟨by omega,fun _=>?_⟩⟩⟩⟩,fun c=>⟨hs4,fun _=>⟨h3,fun _=>⟨fun _=>?_,fun e=>?_⟩⟩⟩⟩
  · exact yesd fin2
  · rw [fin1] at e; cases e
  · have hr:=rest_in (a:=at_.getD i 0) (n:=(o.length:Int) - 1) (by omega)
    generalize rest (at_.getD i 0) ((o.length:Int) - 1)=r at *
    obtain ⟨k,rfl⟩:∃ k:Nat,r=(k:Int):=⟨r.toNat,by omega⟩
    have hk1:((k:Int)+1).toNat=k+1:=by omega
    have hx:=h3 _ (getD_mem (d:=[]) (show k<o.length by omega))
    have hy:=h3 _ (getD_mem (d:=[]) (show k+1<o.length by omega))
    simp only [Int.toNat_natCast,hk1]
    refine ⟨by omega,fun _=>⟨by omega,fun _=>⟨by omega,fun _=>⟨⟨hx,hy⟩,fun _=>⟨fun c3=>⟨by omega,fun _=>⟨by omega,fun _=>⟨by omega,fun _=>⟨by omega,fun _=>⟨by omega,fun _=>⟨by omega,fun _=>⟨by omega,fun _=>?_⟩⟩⟩⟩⟩⟩⟩,fun _=>⟨by omega,fun _=>?_⟩⟩⟩⟩⟩⟩
    · refine ih (i+1,_) ⟨by show i+1≤at_.length; omega,?_,mem_set2 h3 _ _ hy hx,?_⟩ (by show at_.length - (i+1)<at_.length - i; omega)
      · show (List.set (List.set o k _) (k+1) _).length=l.length
        rw [List.length_set,List.length_set]; exact h2
      · exact h4.trans (swap_runAll (show k+1<o.length by omega) rfl c3).symm
    · exact ih (i+1,o) ⟨by show i+1≤at_.length; omega,h2,h3,h4⟩ (by show at_.length - (i+1)<at_.length - i; omega)
  · exact yesd fin2
  · rw [fin1] at e; cases e
end Go.Proofs.YtgmbfnlhmnpciaaDoor
