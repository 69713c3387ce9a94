/- SynodOne. No condition. -/
import Derived.Test.YtegigiecamjobaaSynE
namespace Go.Proofs.Ytegigiecamjobaa
open Go.Ex Go.Sort
set_option maxRecDepth 100000
def ceqS:Ctr:={ ps:=[.v (.slc false .str),.v (.slc false .str)],rs:=[.bool],pre:=fun _=>True,fn:=fun x=>(decide ((show List (List UInt8) from x.1)=(show List (List UInt8) from x.2.1)),()),out:=fun _=>() }
noncomputable def EeqS:Env:={ P:=Try.prog,tt:=tt,ctr:=[],res:=[Go.ResultVar.tmp 4],rs:=[Ty.bool],ps:=[PK.v (Ty.slc false Ty.str),PK.v (Ty.slc false Ty.str)],cuts:=[(4,[(0,none),(1,none),(12,none),(13,none)])],nt:=26 }
theorem EeqS_ok:EnvOk EeqS:=envOk tt_ok trivial
theorem FeqS_ok:FnOk EeqS Try.f42:=⟨rfl,rfl⟩
theorem EeqS_t (x0:List (List UInt8)) (x1:List (List UInt8)):exec EeqS 1000 [.code (bodyOf Try.prog 42)] (initSt ceqS.ps ((x0,x1,()))) =
  cond (decide ((↑(List.length x0):Int)≠(↑(List.length x1):Int))) (.ret ((false,()))) (.cut (loopAt (bodyOf Try.prog 42) 4).1 (loopAt (bodyOf Try.prog 42) 4).2 (St.mk [(0,AV.val (Ty.slc false Ty.str) x0),(1,AV.val (Ty.slc false Ty.str) x1),(12,AV.val (Ty.int IntKind.i64) (↑(List.length x0):Int)),(13,AV.val (Ty.int IntKind.i64) (0:Int))] [])):=by kernel_rfl
def EeqS_s4 (v0:List (List UInt8)) (v1:List (List UInt8)) (v12:Int) (v13:Int):St:=St.mk [(0,AV.val (Ty.slc false Ty.str) v0),(1,AV.val (Ty.slc false Ty.str) v1),(12,AV.val (Ty.int IntKind.i64) v12),(13,AV.val (Ty.int IntKind.i64) v13)] []
theorem EeqS_l4 (v0:List (List UInt8)) (v1:List (List UInt8)) (v12:Int) (v13:Int):exec EeqS 1000 (.code (loopAt (bodyOf Try.prog 42) 4).1::.inLoop (loopAt (bodyOf Try.prog 42) 4).1::(loopAt (bodyOf Try.prog 42) 4).2) (EeqS_s4 v0 v1 v12 v13) =
  cond (decide (v13<v12)) (.need ((0:Int)≤v13∧v13<(↑(List.length v0):Int)) (.need ((0:Int)≤v13∧v13<(↑(List.length v1):Int)) (cond (decide (List.getD v0 (Int.toNat v13) []≠List.getD v1 (Int.toNat v13) [])) (.ret ((false,()))) (.need (inK IntKind.i64 (v13+(1:Int))) (.cut (loopAt (bodyOf Try.prog 42) 4).1 (loopAt (bodyOf Try.prog 42) 4).2 (St.mk [(0,AV.val (Ty.slc false Ty.str) v0),(1,AV.val (Ty.slc false Ty.str) v1),(12,AV.val (Ty.int IntKind.i64) v12),(13,AV.val (Ty.int IntKind.i64) (v13+(1:Int)))] [])))))) (.ret ((true,()))):=by kernel_rfl
theorem ceqS_valid:ceqS.Valid Try.prog 42:=by
  refine Ctr.valid_of EeqS_ok rfl rfl Try.func42 (c:=bodyOf Try.prog 42) rfl rfl FeqS_ok rfl ?_
  rintro ⟨(l:List (List UInt8)),(m:List (List UInt8)),⟨⟩⟩ - ⟨⟨hl,-⟩,-⟩
  have hl:l.length≤9223372036854775807:=hl
  refine exec_sound (n:=1000) EeqS_ok FeqS_ok ?_
  refine holds_of_eq (EeqS_t l m) ?_
  have fin:∀ {b:Bool},(b=true↔l=m)→((b,()):Bool×Unit)=(decide (l=m),()):=fun {b} h=>by
    cases b with
    | true=>rw [decide_eq_true (h.1 rfl)]
    | false=>rw [decide_eq_false (fun e=>by cases h.2 e)]
  simp only [holds_cond,Tree.holds,true_and,true_implies,decide_eq_true_eq,decide_eq_false_iff_not,Bool.not_eq_true',Bool.not_eq_false',Int.toNat_natCast,inK_i64,List.length_set,List.length_cons,List.length_nil]
  refine ⟨fun c=>fin ⟨fun h=>(by cases h),fun h=>absurd (congrArg (fun q:List (List UInt8)=>(q.length:Int)) h) c⟩,fun c=>?_⟩
  refine Reach.loopI EeqS_ok FeqS_ok (fun i:Nat=>EeqS_s4 l m (l.length:Int) (i:Int)) (fun i=>i≤l.length∧∀ j,j<i→l.getD j []=m.getD j [])
    (fun i=>l.length - i) 1000 (fun _=>⟨uniq_of rfl,uniq_of rfl⟩) ?_ 0 ⟨Nat.zero_le _,fun j hj=>by omega⟩
  rintro i ⟨k1,k2⟩ - ih
  refine holds_of_eq (EeqS_l4 ..) ?_
  have c:l.length=m.length:=by omega
  simp only [holds_cond,Tree.holds,true_and,true_implies,decide_eq_true_eq,decide_eq_false_iff_not,Bool.not_eq_true',Bool.not_eq_false',Int.toNat_natCast,inK_i64,List.length_set,List.length_cons,List.length_nil]
  refine ⟨fun d1=>⟨by omega,fun _=>⟨by omega,fun _=>⟨fun d2=>fin ⟨fun h=>(by cases h),fun h=>absurd (congrArg (fun q:List (List UInt8)=>q.getD i []) h) (d2)⟩,fun d2=>⟨by omega,fun _=>ih (i+1) ⟨by omega,fun j hj=>?_⟩ (by omega)⟩⟩⟩⟩,fun d1=>fin ⟨fun _=>eq_of_getD c (fun j hj=>k2 j (by omega)),fun _=>rfl⟩⟩
  rcases Nat.lt_or_ge j i with h|h
  · exact k2 j h
  · obtain rfl:j=i:=by omega
    exact Decidable.not_not.1 d2
def cidxS:Ctr:={ ps:=[.v (.slc false .str),.v .str],rs:=[I64],pre:=fun _=>True,fn:=fun x=>(idxOf (fun y=>decide ((show List UInt8 from x.2.1)=y)) x.1,()),out:=fun _=>() }
noncomputable def EidxS:Env:={ P:=Try.prog,tt:=tt,ctr:=[],res:=[Go.ResultVar.tmp 4],rs:=[Ty.int IntKind.i64],ps:=[PK.v (Ty.slc false Ty.str),PK.v Ty.str],cuts:=[(2,[(0,none),(1,none),(7,none),(8,none)])],nt:=19 }
theorem EidxS_ok:EnvOk EidxS:=envOk tt_ok trivial
theorem FidxS_ok:FnOk EidxS Try.f97:=⟨rfl,rfl⟩
theorem EidxS_t (x0:List (List UInt8)) (x1:List UInt8):exec EidxS 1000 [.code (bodyOf Try.prog 97)] (initSt cidxS.ps ((x0,x1,()))) =
  .cut (loopAt (bodyOf Try.prog 97) 2).1 (loopAt (bodyOf Try.prog 97) 2).2 (St.mk [(0,AV.val (Ty.slc false Ty.str) x0),(1,AV.val Ty.str x1),(7,AV.val (Ty.int IntKind.i64) (↑(List.length x0):Int)),(8,AV.val (Ty.int IntKind.i64) (0:Int))] []):=by kernel_rfl
def EidxS_s2 (v0:List (List UInt8)) (v1:List UInt8) (v7:Int) (v8:Int):St:=St.mk [(0,AV.val (Ty.slc false Ty.str) v0),(1,AV.val Ty.str v1),(7,AV.val (Ty.int IntKind.i64) v7),(8,AV.val (Ty.int IntKind.i64) v8)] []
theorem EidxS_l2 (v0:List (List UInt8)) (v1:List UInt8) (v7:Int) (v8:Int):exec EidxS 1000 (.code (loopAt (bodyOf Try.prog 97) 2).1::.inLoop (loopAt (bodyOf Try.prog 97) 2).1::(loopAt (bodyOf Try.prog 97) 2).2) (EidxS_s2 v0 v1 v7 v8) =
  cond (decide (v8<v7)) (.need ((0:Int)≤v8∧v8<(↑(List.length v0):Int)) (cond (decide (v1=List.getD v0 (Int.toNat v8) [])) (.ret ((v8,()))) (.need (inK IntKind.i64 (v8+(1:Int))) (.cut (loopAt (bodyOf Try.prog 97) 2).1 (loopAt (bodyOf Try.prog 97) 2).2 (St.mk [(0,AV.val (Ty.slc false Ty.str) v0),(1,AV.val Ty.str v1),(7,AV.val (Ty.int IntKind.i64) v7),(8,AV.val (Ty.int IntKind.i64) (v8+(1:Int)))] []))))) (.ret (((-1:Int),()))):=by kernel_rfl
theorem cidxS_valid:cidxS.Valid Try.prog 97:=by
  refine Ctr.valid_of EidxS_ok rfl rfl Try.func97 (c:=bodyOf Try.prog 97) rfl rfl FidxS_ok rfl ?_
  rintro ⟨(l:List (List UInt8)),(x:List UInt8),⟨⟩⟩ - ⟨⟨hl,-⟩,-⟩
  have hl:l.length≤9223372036854775807:=hl
  refine exec_sound (n:=1000) EidxS_ok FidxS_ok ?_
  refine holds_of_eq (EidxS_t l x) ?_
  refine Reach.loopI EidxS_ok FidxS_ok (fun i:Nat=>EidxS_s2 l x (l.length:Int) (i:Int) ) (fun i=>i≤l.length∧idxOf (fun y=>decide (x=y)) l=idxGo (fun y=>decide (x=y)) (l.drop i) i)
    (fun i=>l.length - i) 1000 (fun _=>⟨uniq_of rfl,uniq_of rfl⟩) ?_ 0 ⟨by omega,rfl⟩
  rintro i ⟨k1,k2⟩ - ih
  refine holds_of_eq (EidxS_l2 ..) ?_
  simp only [holds_cond,Tree.holds,true_and,true_implies,decide_eq_true_eq,decide_eq_false_iff_not,Bool.not_eq_true',Bool.not_eq_false',Int.toNat_natCast,inK_i64,List.length_set,List.length_cons,List.length_nil]
  refine ⟨fun h=>?_,fun h=>?_⟩
  · rw [drop_getD (show i<l.length by omega) [],idxGo] at k2
    have key:∀ b:Bool,(b=true↔x=l.getD i [])→(b=true→(((i:Int),()):Int×Unit)=(idxOf (fun y=>decide (x=y)) l,()))∧(b=false→idxOf (fun y=>decide (x=y)) l=idxGo (fun y=>decide (x=y)) (l.drop (i+1)) (i+1)):=fun b hb=>by
      refine ⟨fun c=>?_,fun c=>?_⟩
      · rw [k2,if_pos (decide_eq_true (hb.1 c))]
      · rw [k2,if_neg (fun h9=>by rw [hb.2 (of_decide_eq_true h9)] at c; cases c)]
    refine ⟨by omega,fun _=>⟨fun c=>?_,fun c=>⟨by omega,fun _=>ih (i+1) ⟨by omega,?_⟩ (by omega)⟩⟩⟩
    · exact (key true ⟨fun _=>c,fun _=>rfl⟩).1 rfl
    · exact (key false ⟨fun h9=>(by cases h9),fun h9=>(c h9).elim⟩).2 rfl
  · rw [List.drop_eq_nil_of_le (by omega)] at k2
    show (((-1:Int),()):Int×Unit)=(idxOf (fun y=>decide (x=y)) l,())
    rw [k2]; rfl
def ccontS:Ctr:={ ps:=[.v (.slc false .str),.v .str],rs:=[.bool],pre:=fun _=>True,fn:=fun x=>(decide ((show List UInt8 from x.2.1)∈(show List (List UInt8) from x.1)),()),out:=fun _=>() }
noncomputable def EcontS:Env:={ P:=Try.prog,tt:=tt,ctr:=[(97,cidxS)],res:=[Go.ResultVar.tmp 4],rs:=[Ty.bool],ps:=[PK.v (Ty.slc false Ty.str),PK.v Ty.str],cuts:=[],nt:=9 }
theorem EcontS_ok:EnvOk EcontS:=envOk tt_ok ⟨cidxS_valid,trivial⟩
theorem FcontS_ok:FnOk EcontS Try.f51:=⟨rfl,rfl⟩
theorem EcontS_t (x0:List (List UInt8)) (x1:List UInt8):exec EcontS 1000 [.code (bodyOf Try.prog 51)] (initSt ccontS.ps ((x0,x1,()))) =
  .need (True) (.ret ((decide ((0:Int)≤idxOf (fun y=>decide (x1=y)) x0),()))):=by kernel_rfl
theorem ccontS_valid:ccontS.Valid Try.prog 51:=by
  refine Ctr.valid_of EcontS_ok rfl rfl Try.func51 (c:=bodyOf Try.prog 51) rfl rfl FcontS_ok rfl ?_
  rintro ⟨(l:List (List UInt8)),(x:List UInt8),⟨⟩⟩ - -
  refine exec_sound (n:=1000) EcontS_ok FcontS_ok ?_
  refine holds_of_eq (EcontS_t l x) ?_
  refine ⟨trivial,fun _=>?_⟩
  show ((decide (0≤idxOf (fun y=>decide (x=y)) l),()):Bool×Unit)=(decide (x∈l),())
  rw [idx_any]
  have:l.any (fun y=>decide (x=y))=true↔x∈l:=by
    rw [List.any_eq_true]
    exact ⟨fun ⟨y,h1,h2⟩=>by rw [of_decide_eq_true h2]; exact h1,fun h=>⟨x,h,decide_eq_true rfl⟩⟩
  cases e:l.any (fun y=>decide (x=y)) with
  | true=>rw [decide_eq_true (this.1 e)]
  | false=>rw [decide_eq_false (fun h=>by rw [this.2 h] at e; cases e)]
def cSynodOne:Ctr:={ ps:=[.v I64,.v (.slc false Act)],rs:=[.bool],pre:=fun _=>True,fn:=fun _=>(true,()),out:=fun _=>() }
noncomputable def ESynodOne:Env:={ P:=Try.prog,tt:=tt,ctr:=[(49,cfew),(46,cvoted),(47,cone),(48,cchosen),(50,cscheck),(42,ceqS),(51,ccontS)],res:=[Go.ResultVar.tmp 4],rs:=[Ty.bool],ps:=[PK.v (Ty.int IntKind.i64),PK.v (Ty.slc false (Ty.pair (Ty.int IntKind.i64) (Ty.pair (Ty.int IntKind.i64) (Ty.pair (Ty.int IntKind.i64) (Ty.pair Ty.str Ty.unit)))))],cuts:=[],nt:=75 }
theorem ESynodOne_ok:EnvOk ESynodOne:=envOk tt_ok ⟨cfew_valid,cvoted_valid,cone_valid,cchosen_valid,cscheck_valid,ceqS_valid,ccontS_valid,trivial⟩
theorem FSynodOne_ok:FnOk ESynodOne Try.f13:=⟨rfl,rfl⟩
theorem ESynodOne_t (x0:Int) (x1:List (Int×Int×Int×List UInt8×Unit)):exec ESynodOne 1000 [.code (bodyOf Try.prog 13)] (initSt cSynodOne.ps ((x0,x1,()))) =
  .need ((0:Int)≤(3:Int)∧(3:Int)≤(10:Int)) (.need ((1:Int)≤(3:Int)∧(3:Int)≤(6:Int)) (.need (scheck (Prod.fst (votF (3:Int) (oneF (5:Int) (3:Int) (Array.toList (ByteArray.data (ByteArray.mk #[(97:UInt8)]))))))=(0:Int)→∀ (a:List UInt8),a∈chosenL (Prod.fst (votF (3:Int) (oneF (5:Int) (3:Int) (Array.toList (ByteArray.data (ByteArray.mk #[(97:UInt8)]))))))→∀ (b:List UInt8),b∈chosenL (Prod.fst (votF (3:Int) (oneF (5:Int) (3:Int) (Array.toList (ByteArray.data (ByteArray.mk #[(97:UInt8)]))))))→a=b) (.need (True) (.need (True) (.need ((1:Int)≤few x0∧few x0≤(6:Int)) (.need (scheck (Prod.fst (votF (few x0) x1))=(0:Int)→∀ (a:List UInt8),a∈chosenL (Prod.fst (votF (few x0) x1))→∀ (b:List UInt8),b∈chosenL (Prod.fst (votF (few x0) x1))→a=b) (cond (decide (Prod.fst (Prod.snd (chosenR (Prod.fst (votF (few x0) x1))))=(0:Int))) (.need (True) (cond (decide (scheck (Prod.fst (votF (few x0) x1))=(0:Int))) (cond (decide ((↑(List.length (Prod.fst (chosenR (Prod.fst (votF (few x0) x1))))):Int)≤(1:Int))) (cond (decide ((↑(List.length (Prod.fst (chosenR (Prod.fst (votF (few x0) x1))))):Int)=(0:Int))) (.ret ((true,()))) (.need ((0:Int)≤(0:Int)∧(0:Int)<(↑(List.length (Prod.fst (chosenR (Prod.fst (votF (few x0) x1))))):Int)) (.need (True) (.ret ((decide (List.getD (Prod.fst (chosenR (Prod.fst (votF (few x0) x1)))) (Int.toNat (0:Int)) []∈Prod.snd (votF (few x0) x1)),())))))) (.ret ((false,())))) (.ret ((false,()))))) (.ret ((false,())))))))))):=by kernel_rfl
theorem VotOk.said_in {n:Nat} {st:SynodD×List (List UInt8)} (h:VotOk n st):∀ x∈chosenL st.1,x∈st.2:=by
  intro x hx
  obtain ⟨r,hr,rfl⟩:=List.mem_map.1 hx
  exact h.pax.j3 r (List.mem_filter.1 hr).1
theorem few_votes (n:Int) (l:List ActD):VotOk (few n).toNat (votF (few n) l):=votF_ok (few_in n).1 (few_in n).2 l
theorem cSynodOne_valid:cSynodOne.Valid Try.prog 13:=by
  refine Ctr.valid_of ESynodOne_ok rfl rfl Try.func13 (c:=bodyOf Try.prog 13) rfl rfl FSynodOne_ok rfl ?_
  rintro ⟨(n:Int),(l:List ActD),⟨⟩⟩ - -
  refine exec_sound (n:=1000) ESynodOne_ok FSynodOne_ok ?_
  refine holds_of_eq (ESynodOne_t n l) ?_
  have h:=few_votes n l
  have hf:=few_in n
  have h3:=votF_ok (n:=3) (by decide) (by decide) (oneF 5 3 [97])
  have hs:=h.said_in
  have ha:=h.alike
  rw [h.chosen,h.ok]
  generalize hst:votF (few n) l=st at *
  generalize chosenL st.1=L at *
  simp only [holds_cond,Tree.holds,true_and,true_implies,decide_eq_true_eq,decide_eq_false_iff_not,Bool.not_eq_true',Bool.not_eq_false',Int.toNat_natCast,inK_i64,List.length_set,List.length_cons,List.length_nil]
  refine ⟨by decide,fun _=>⟨by decide,fun _=>⟨fun _=>h3.alike,fun _=>⟨hf,fun _=>⟨ha,fun _=>?_⟩⟩⟩⟩⟩
  have hl:(L.take 1).length≤1:=by rw [List.length_take]; omega
  refine ⟨⟨⟨fun _=>⟨fun _=>rfl,fun c=>⟨by omega,fun _=>?_⟩⟩,fun c=>absurd (by omega) c⟩,fun c=>absurd trivial c⟩,fun c=>absurd trivial c⟩
  cases L with
  | nil=>exact absurd rfl c
  | cons x L=>exact yesd (hs x (by simp))
end Go.Proofs.Ytegigiecamjobaa
