/- The contracts of causal.Check, clone, Hear. No condition but those named. -/
import Derived.Test.YtgmbfnlhmnpciaaCausal
namespace Go.Proofs.Ytgmbfnlhmnpciaa
open Go.Ex
set_option maxRecDepth 100000
abbrev InR (m:MailD):Prop:=0≤m.1∧m.1≤5
def allR (l:List MailD) (m:MailD):Prop:=(∀ x∈l,InR x)∧InR m
def cidxK:Ctr:={ ps:=[.v (.slc false Mail),.clo 51 [Mail]],rs:=[I64],pre:=fun x=>allR x.1 x.2.1.1,fn:=fun x=>(idxOf (fun y=>sameM y x.2.1.1) x.1,()),out:=fun _=>() }
noncomputable def EidxK:Env:={ P:=Try.prog,tt:=tt,ctr:=[(51,cC2)],res:=[Go.ResultVar.tmp 4],rs:=[Ty.int IntKind.i64],ps:=[PK.v (Ty.slc false (Ty.pair (Ty.int IntKind.i64) (Ty.pair Vec (Ty.pair Ty.str Ty.unit)))),PK.clo 51 [Ty.pair (Ty.int IntKind.i64) (Ty.pair Vec (Ty.pair Ty.str Ty.unit))]],cuts:=[(2,[(0,none),(1,none),(7,none),(8,none)])],nt:=19 }
theorem EidxK_ok:EnvOk EidxK:=envOk tt_ok ⟨cC2_valid,trivial⟩
theorem FidxK_ok:FnOk EidxK Try.f29:=⟨rfl,rfl⟩
theorem EidxK_t (x0:List (Int×List Int×List UInt8×Unit)) (x1c0_1:Int) (x1c0_2_1:List Int) (x1c0_2_2_1:List UInt8):exec EidxK 1000 [.code (bodyOf Try.prog 29)] (initSt cidxK.ps ((x0,((x1c0_1,x1c0_2_1,x1c0_2_2_1,()),()),()))) =
  .cut (loopAt (bodyOf Try.prog 29) 2).1 (loopAt (bodyOf Try.prog 29) 2).2 (St.mk [(0,AV.val (Ty.slc false (Ty.pair (Ty.int IntKind.i64) (Ty.pair Vec (Ty.pair Ty.str Ty.unit)))) x0),(1,AV.clo 51 (AV.cons (AV.rptr (Ty.pair (Ty.int IntKind.i64) (Ty.pair Vec (Ty.pair Ty.str Ty.unit))) (x1c0_1,x1c0_2_1,x1c0_2_2_1,())) AV.nil)),(7,AV.val (Ty.int IntKind.i64) (↑(List.length x0):Int)),(8,AV.val (Ty.int IntKind.i64) (0:Int))] []):=by kernel_rfl
def EidxK_s2 (v0:List (Int×List Int×List UInt8×Unit)) (v1a_1:Int) (v1a_2_1:List Int) (v1a_2_2_1:List UInt8) (v7:Int) (v8:Int):St:=St.mk [(0,AV.val (Ty.slc false (Ty.pair (Ty.int IntKind.i64) (Ty.pair Vec (Ty.pair Ty.str Ty.unit)))) v0),(1,AV.clo 51 (AV.cons (AV.rptr (Ty.pair (Ty.int IntKind.i64) (Ty.pair Vec (Ty.pair Ty.str Ty.unit))) (v1a_1,v1a_2_1,v1a_2_2_1,())) AV.nil)),(7,AV.val (Ty.int IntKind.i64) v7),(8,AV.val (Ty.int IntKind.i64) v8)] []
theorem EidxK_l2 (v0:List (Int×List Int×List UInt8×Unit)) (v1a_1:Int) (v1a_2_1:List Int) (v1a_2_2_1:List UInt8) (v7:Int) (v8:Int):exec EidxK 1000 (.code (loopAt (bodyOf Try.prog 29) 2).1::.inLoop (loopAt (bodyOf Try.prog 29) 2).1::(loopAt (bodyOf Try.prog 29) 2).2) (EidxK_s2 v0 v1a_1 v1a_2_1 v1a_2_2_1 v7 v8) =
  cond (decide (v8<v7)) (.need ((0:Int)≤v8∧v8<(↑(List.length v0):Int)) (.need (((0:Int)≤Prod.fst (List.getD v0 (Int.toNat v8) ((0:Int),[(0:Int),(0:Int),(0:Int),(0:Int),(0:Int),(0:Int)],[],()))∧Prod.fst (List.getD v0 (Int.toNat v8) ((0:Int),[(0:Int),(0:Int),(0:Int),(0:Int),(0:Int),(0:Int)],[],()))≤(5:Int))∧(0:Int)≤v1a_1∧v1a_1≤(5:Int)) (cond (sameM (List.getD v0 (Int.toNat v8) ((0:Int),[(0:Int),(0:Int),(0:Int),(0:Int),(0:Int),(0:Int)],[],())) (v1a_1,v1a_2_1,v1a_2_2_1,())) (.ret ((v8,()))) (.need (inK IntKind.i64 (v8+(1:Int))) (.cut (loopAt (bodyOf Try.prog 29) 2).1 (loopAt (bodyOf Try.prog 29) 2).2 (St.mk [(0,AV.val (Ty.slc false (Ty.pair (Ty.int IntKind.i64) (Ty.pair Vec (Ty.pair Ty.str Ty.unit)))) v0),(1,AV.clo 51 (AV.cons (AV.rptr (Ty.pair (Ty.int IntKind.i64) (Ty.pair Vec (Ty.pair Ty.str Ty.unit))) (v1a_1,v1a_2_1,v1a_2_2_1,())) AV.nil)),(7,AV.val (Ty.int IntKind.i64) v7),(8,AV.val (Ty.int IntKind.i64) (v8+(1:Int)))] [])))))) (.ret (((-1:Int),()))):=by kernel_rfl
theorem cidxK_valid:cidxK.Valid Try.prog 29:=by
  refine Ctr.valid_of EidxK_ok rfl rfl Try.func29 (c:=bodyOf Try.prog 29) rfl rfl FidxK_ok rfl ?_
  rintro ⟨(l:List (MailD)),⟨⟨(q0:Int),(q1:List Int),(q2:List UInt8),⟨⟩⟩,⟨⟩⟩,⟨⟩⟩ hp ⟨⟨hl,-⟩,-⟩
  have hl:l.length≤9223372036854775807:=hl
  have hp:allR l (q0,q1,q2,()):=hp
  refine exec_sound (n:=1000) EidxK_ok FidxK_ok ?_
  refine holds_of_eq (EidxK_t l q0 q1 q2) ?_
  refine Reach.loopI EidxK_ok FidxK_ok (fun i:Nat=>EidxK_s2 l q0 q1 q2 (l.length:Int) (i:Int)) (fun i=>i≤l.length∧idxOf (fun y=>sameM y (q0,q1,q2,())) l=idxGo (fun y=>sameM y (q0,q1,q2,())) (l.drop i) i)
    (fun i=>l.length - i) 1000 (fun _=>⟨uniq_of rfl,uniq_of rfl⟩) ?_ 0 ⟨by omega,rfl⟩
  rintro i ⟨k1,k2⟩ - ih
  refine holds_of_eq (EidxK_l2 ..) ?_
  simp only [holds_cond,Tree.holds,true_and,true_implies,decide_eq_true_eq,decide_eq_false_iff_not,Bool.not_eq_true',Bool.not_eq_false',Int.toNat_natCast,inK_i64,List.length_set,List.length_cons,List.length_nil]
  refine ⟨fun h=>?_,fun h=>?_⟩
  · rw [drop_getD (show i<l.length by omega) (0,[0,0,0,0,0,0],[],()),idxGo] at k2
    refine ⟨by omega,fun _=>⟨⟨hp.1 _ (getD_mem (by omega)),hp.2⟩,fun _=>⟨fun c=>?_,fun c=>⟨by omega,fun _=>ih (i+1) ⟨by omega,?_⟩ (by omega)⟩⟩⟩⟩
    · show (((i:Int),()):Int×Unit)=(idxOf (fun y=>sameM y (q0,q1,q2,())) l,())
      rw [k2,if_pos (show (fun y=>sameM y (q0,q1,q2,())) (l.getD i (0,[0,0,0,0,0,0],[],()))=true from c)]
    · rw [k2,if_neg (show ¬ (fun y=>sameM y (q0,q1,q2,())) (l.getD i (0,[0,0,0,0,0,0],[],()))=true from fun h9=>Bool.noConfusion (Eq.trans (Eq.symm h9) c))]
  · rw [List.drop_eq_nil_of_le (by omega)] at k2
    show (((-1:Int),()):Int×Unit)=(idxOf (fun y=>sameM y (q0,q1,q2,())) l,())
    rw [k2]; rfl
def ccontK:Ctr:={ ps:=[.v (.slc false Mail),.clo 51 [Mail]],rs:=[.bool],pre:=fun x=>allR x.1 x.2.1.1,fn:=fun x=>(List.any (α:=MailD) x.1 (fun y=>sameM y x.2.1.1),()),out:=fun _=>() }
noncomputable def EcontK:Env:={ P:=Try.prog,tt:=tt,ctr:=[(29,cidxK)],res:=[Go.ResultVar.tmp 4],rs:=[Ty.bool],ps:=[PK.v (Ty.slc false (Ty.pair (Ty.int IntKind.i64) (Ty.pair Vec (Ty.pair Ty.str Ty.unit)))),PK.clo 51 [Ty.pair (Ty.int IntKind.i64) (Ty.pair Vec (Ty.pair Ty.str Ty.unit))]],cuts:=[],nt:=9 }
theorem EcontK_ok:EnvOk EcontK:=envOk tt_ok ⟨cidxK_valid,trivial⟩
theorem FcontK_ok:FnOk EcontK Try.f25:=⟨rfl,rfl⟩
theorem EcontK_t (x0:List (Int×List Int×List UInt8×Unit)) (x1c0_1:Int) (x1c0_2_1:List Int) (x1c0_2_2_1:List UInt8):exec EcontK 1000 [.code (bodyOf Try.prog 25)] (initSt ccontK.ps ((x0,((x1c0_1,x1c0_2_1,x1c0_2_2_1,()),()),()))) =
  .need (allR x0 (x1c0_1,x1c0_2_1,x1c0_2_2_1,())) (.ret ((decide ((0:Int)≤idxOf (fun y=>sameM y (x1c0_1,x1c0_2_1,x1c0_2_2_1,())) x0),()))):=by kernel_rfl
theorem ccontK_valid:ccontK.Valid Try.prog 25:=by
  refine Ctr.valid_of EcontK_ok rfl rfl Try.func25 (c:=bodyOf Try.prog 25) rfl rfl FcontK_ok rfl ?_
  rintro ⟨(l:List (MailD)),⟨⟨(q0:Int),(q1:List Int),(q2:List UInt8),⟨⟩⟩,⟨⟩⟩,⟨⟩⟩ hp -
  refine exec_sound (n:=1000) EcontK_ok FcontK_ok ?_
  refine holds_of_eq (EcontK_t l q0 q1 q2) ?_
  refine ⟨hp,fun _=>?_⟩
  show ((decide (0≤idxOf (fun y=>sameM y (q0,q1,q2,())) l),()):Bool×Unit)=(l.any (fun y=>sameM y (q0,q1,q2,())),())
  rw [idx_any]
def RM (m:MailD):Prop:=m.2.1.length=6∧∀ n∈m.2.1,n≤9223372036854775807
theorem rm_of {m:MailD} (h:rng Mail m):RM m:=⟨h.2.1.1,fun n hn=>(h.2.1.2 n hn).2⟩
theorem RM.get {m:MailD} (h:RM m) (i:Nat):m.2.1.getD i 0≤9223372036854775807:=by
  rcases Nat.lt_or_ge i m.2.1.length with h1|h1
  · exact h.2 _ (getD_mem h1)
  · rw [List.getD_eq_getElem?_getD,List.getElem?_eq_none h1]; decide
theorem any_neg {l:List Int} (h:l.any neg=false) (i:Nat):0≤l.getD i 0:=by
  rcases Nat.lt_or_ge i l.length with h1|h1
  · have:=List.any_eq_false.1 h _ (getD_mem (d:=0) h1)
    simp only [neg,decide_eq_true_eq] at this
    omega
  · rw [List.getD_eq_getElem?_getD,List.getElem?_eq_none h1]; decide
theorem formed_iff {m:MailD}:formed m=true↔InR m∧m.2.1.any neg=false∧0<m.2.1.getD m.1.toNat 0:=by
  rw [formed,Bool.and_eq_true,Bool.and_eq_true,inF_iff,Bool.not_eq_true',decide_eq_true_eq,and_assoc]
theorem formed_in {m:MailD} (h:formed m=true):InR m:=(formed_iff.1 h).1
def hbad (c:CausalD) (i:Nat):Bool:=!formed (c.2.2.1.getD i mail0) || decide ((c.2.2.1.getD i mail0).1=c.1) || decide ((c.2.2.1.getD i mail0).2.1.getD (c.2.2.1.getD i mail0).1.toNat 0≤c.2.1.getD (c.2.2.1.getD i mail0).1.toNat 0) || delv c.2.1 (c.2.2.1.getD i mail0) || (c.2.2.1.take i).any (fun y=>sameM y (c.2.2.1.getD i mail0))
def ccheck (c:CausalD):Int:=if inF c.1 0 5=false then 1 else if c.2.1.any neg=true then 1 else if (40:Int)<c.2.2.1.length then 2 else if anyN (hbad c) c.2.2.1.length=true then 4 else 0
def cccheck:Ctr:={ ps:=[.v Causal],rs:=[I64],pre:=fun _=>True,fn:=fun x=>(ccheck x.1,()),out:=fun _=>() }
noncomputable def Eccheck:Env:={ P:=Try.prog,tt:=tt,ctr:=[(49,ccin),(44,ccontN2),(24,cformed),(28,cdelv),(25,ccontK)],res:=[Go.ResultVar.tmp 2],rs:=[Ty.int IntKind.i64],ps:=[PK.v (Ty.pair (Ty.int IntKind.i64) (Ty.pair Vec (Ty.pair (Ty.slc false (Ty.pair (Ty.int IntKind.i64) (Ty.pair Vec (Ty.pair Ty.str Ty.unit)))) Ty.unit)))],cuts:=[(6,[(1,none),(21,none),(22,none),(23,none)])],nt:=66 }
theorem Eccheck_ok:EnvOk Eccheck:=envOk tt_ok ⟨ccin_valid,ccontN2_valid,cformed_valid,cdelv_valid,ccontK_valid,trivial⟩
theorem Fccheck_ok:FnOk Eccheck Try.f22:=⟨rfl,rfl⟩
theorem Eccheck_t (x0_1:Int) (x0_2_1:List Int) (x0_2_2_1:List (Int×List Int×List UInt8×Unit)):exec Eccheck 1000 [.code (bodyOf Try.prog 22)] (initSt cccheck.ps (((x0_1,x0_2_1,x0_2_2_1,()),()))) =
  .need (True) (cond (!inF x0_1 (0:Int) (5:Int)) (.ret (((1:Int),()))) (.need ((0:Int)≤(0:Int)∧(0:Int)≤(↑6:Int)∧(↑6:Int)≤(↑6:Int)) (.need (True) (cond (List.any (cut2 (0:Int) (↑6:Int) x0_2_1) neg) (.ret (((1:Int),()))) (cond (decide ((40:Int)<(↑(List.length x0_2_2_1):Int))) (.ret (((2:Int),()))) (.cut (loopAt (bodyOf Try.prog 22) 6).1 (loopAt (bodyOf Try.prog 22) 6).2 (St.mk [(1,AV.ptr 1 []),(21,AV.val (Ty.slc false (Ty.pair (Ty.int IntKind.i64) (Ty.pair Vec (Ty.pair Ty.str Ty.unit)))) x0_2_2_1),(22,AV.val (Ty.int IntKind.i64) (↑(List.length x0_2_2_1):Int)),(23,AV.val (Ty.int IntKind.i64) (0:Int))] [(1,Ent.var (Ty.pair (Ty.int IntKind.i64) (Ty.pair Vec (Ty.pair (Ty.slc false (Ty.pair (Ty.int IntKind.i64) (Ty.pair Vec (Ty.pair Ty.str Ty.unit)))) Ty.unit))) (x0_1,x0_2_1,x0_2_2_1,()))]))))))):=by kernel_rfl
def Eccheck_s6 (v21:List (Int×List Int×List UInt8×Unit)) (v22:Int) (v23:Int) (o1_1:Int) (o1_2_1:List Int) (o1_2_2_1:List (Int×List Int×List UInt8×Unit)):St:=St.mk [(1,AV.ptr 1 []),(21,AV.val (Ty.slc false (Ty.pair (Ty.int IntKind.i64) (Ty.pair Vec (Ty.pair Ty.str Ty.unit)))) v21),(22,AV.val (Ty.int IntKind.i64) v22),(23,AV.val (Ty.int IntKind.i64) v23)] [(1,Ent.var (Ty.pair (Ty.int IntKind.i64) (Ty.pair Vec (Ty.pair (Ty.slc false (Ty.pair (Ty.int IntKind.i64) (Ty.pair Vec (Ty.pair Ty.str Ty.unit)))) Ty.unit))) (o1_1,o1_2_1,o1_2_2_1,()))]
theorem Eccheck_l6 (v21:List (Int×List Int×List UInt8×Unit)) (v22:Int) (v23:Int) (o1_1:Int) (o1_2_1:List Int) (o1_2_2_1:List (Int×List Int×List UInt8×Unit)):exec Eccheck 1000 (.code (loopAt (bodyOf Try.prog 22) 6).1::.inLoop (loopAt (bodyOf Try.prog 22) 6).1::(loopAt (bodyOf Try.prog 22) 6).2) (Eccheck_s6 v21 v22 v23 o1_1 o1_2_1 o1_2_2_1) =
  cond (decide (v23<v22)) (.need ((0:Int)≤v23∧v23<(↑(List.length v21):Int)) (.need (True) (cond (!formed (List.getD v21 (Int.toNat v23) ((0:Int),[(0:Int),(0:Int),(0:Int),(0:Int),(0:Int),(0:Int)],[],()))) (.ret (((4:Int),()))) (cond (decide (Prod.fst (List.getD v21 (Int.toNat v23) ((0:Int),[(0:Int),(0:Int),(0:Int),(0:Int),(0:Int),(0:Int)],[],()))=o1_1)) (.ret (((4:Int),()))) (.need ((0:Int)≤Prod.fst (List.getD v21 (Int.toNat v23) ((0:Int),[(0:Int),(0:Int),(0:Int),(0:Int),(0:Int),(0:Int)],[],()))∧Prod.fst (List.getD v21 (Int.toNat v23) ((0:Int),[(0:Int),(0:Int),(0:Int),(0:Int),(0:Int),(0:Int)],[],()))<(↑6:Int)) (.need ((0:Int)≤Prod.fst (List.getD v21 (Int.toNat v23) ((0:Int),[(0:Int),(0:Int),(0:Int),(0:Int),(0:Int),(0:Int)],[],()))∧Prod.fst (List.getD v21 (Int.toNat v23) ((0:Int),[(0:Int),(0:Int),(0:Int),(0:Int),(0:Int),(0:Int)],[],()))<(↑6:Int)) (cond (decide (List.getD (Prod.fst (Prod.snd (List.getD v21 (Int.toNat v23) ((0:Int),[(0:Int),(0:Int),(0:Int),(0:Int),(0:Int),(0:Int)],[],())))) (Int.toNat (Prod.fst (List.getD v21 (Int.toNat v23) ((0:Int),[(0:Int),(0:Int),(0:Int),(0:Int),(0:Int),(0:Int)],[],())))) (0:Int)≤List.getD o1_2_1 (Int.toNat (Prod.fst (List.getD v21 (Int.toNat v23) ((0:Int),[(0:Int),(0:Int),(0:Int),(0:Int),(0:Int),(0:Int)],[],())))) (0:Int))) (.ret (((4:Int),()))) (.need ((0:Int)≤List.getD o1_2_1 (Int.toNat (Prod.fst (List.getD v21 (Int.toNat v23) ((0:Int),[(0:Int),(0:Int),(0:Int),(0:Int),(0:Int),(0:Int)],[],())))) (0:Int)∧List.getD o1_2_1 (Int.toNat (Prod.fst (List.getD v21 (Int.toNat v23) ((0:Int),[(0:Int),(0:Int),(0:Int),(0:Int),(0:Int),(0:Int)],[],())))) (0:Int)≤(9223372036854775806:Int)) (cond (delv o1_2_1 (List.getD v21 (Int.toNat v23) ((0:Int),[(0:Int),(0:Int),(0:Int),(0:Int),(0:Int),(0:Int)],[],()))) (.ret (((4:Int),()))) (.need ((0:Int)≤(0:Int)∧(0:Int)≤v23∧v23≤(↑(List.length o1_2_2_1):Int)) (.need (allR (cut2 (0:Int) v23 o1_2_2_1) (List.getD v21 (Int.toNat v23) ((0:Int),[(0:Int),(0:Int),(0:Int),(0:Int),(0:Int),(0:Int)],[],()))) (cond (List.any (cut2 (0:Int) v23 o1_2_2_1) fun y=>sameM y (List.getD v21 (Int.toNat v23) ((0:Int),[(0:Int),(0:Int),(0:Int),(0:Int),(0:Int),(0:Int)],[],()))) (.ret (((4:Int),()))) (.need (inK IntKind.i64 (v23+(1:Int))) (.cut (loopAt (bodyOf Try.prog 22) 6).1 (loopAt (bodyOf Try.prog 22) 6).2 (St.mk [(1,AV.ptr 1 []),(21,AV.val (Ty.slc false (Ty.pair (Ty.int IntKind.i64) (Ty.pair Vec (Ty.pair Ty.str Ty.unit)))) v21),(22,AV.val (Ty.int IntKind.i64) v22),(23,AV.val (Ty.int IntKind.i64) (v23+(1:Int)))] [(1,Ent.var (Ty.pair (Ty.int IntKind.i64) (Ty.pair Vec (Ty.pair (Ty.slc false (Ty.pair (Ty.int IntKind.i64) (Ty.pair Vec (Ty.pair Ty.str Ty.unit)))) Ty.unit))) (o1_1,o1_2_1,o1_2_2_1,()))]))))))))))))))) (.ret (((0:Int),()))):=by kernel_rfl
theorem cccheck_valid:cccheck.Valid Try.prog 22:=by
  refine Ctr.valid_of Eccheck_ok rfl rfl Try.func22 (c:=bodyOf Try.prog 22) rfl rfl Fccheck_ok rfl ?_
  rintro ⟨⟨(me:Int),(s:List Int),(h:List MailD),⟨⟩⟩,⟨⟩⟩ - ⟨⟨-,⟨hsl,-⟩,⟨hl,hlr⟩,-⟩,-⟩
  have hsl:s.length=6:=hsl
  have hl:h.length≤9223372036854775807:=hl
  have hrm:∀ x∈h,RM x:=fun x hx=>rm_of (hlr x hx)
  refine exec_sound (n:=1000) Eccheck_ok Fccheck_ok ?_
  refine holds_of_eq (Eccheck_t me s h) ?_
  have key:∀ {x:Int},ccheck (me,s,h,())=x→((x,()):Int×Unit)=(ccheck (me,s,h,()),()):=by rintro x rfl; rfl
  have hd:ccheck (me,s,h,())=if inF me 0 5=false then 1 else if s.any neg=true then 1 else if (40:Int)<h.length then 2 else if anyN (hbad (me,s,h,())) h.length=true then 4 else 0:=rfl
  have hc:cut2 0 6 s=s:=by rw [cut2,Int.toNat_zero,List.drop_zero]; exact List.take_of_length_le (by rw [hsl]; decide)
  simp only [holds_cond,Tree.holds,true_and,true_implies,decide_eq_true_eq,decide_eq_false_iff_not,Bool.not_eq_true',Bool.not_eq_false',Int.toNat_natCast,inK_i64,List.length_set,List.length_cons,List.length_nil,hc]
  refine ⟨fun a=>key (by rw [hd,if_pos a]),fun a=>⟨by omega,fun _=>?_⟩⟩
  rw [if_neg (tnf a)] at hd
  refine ⟨fun a=>key (by rw [hd,if_pos a]),fun a=>?_⟩
  have hnn:=any_neg a
  rw [if_neg (by rw [a]; simp)] at hd
  refine ⟨fun a=>key (by rw [hd,if_pos a]),fun a=>?_⟩
  rw [if_neg a] at hd
  refine Reach.loopI Eccheck_ok Fccheck_ok (fun i:Nat=>Eccheck_s6 h (h.length:Int) (i:Int) me s h) (fun i=>i≤h.length∧anyN (hbad (me,s,h,())) i=false) (fun i=>h.length - i) 1000 (fun _=>⟨uniq_of rfl,uniq_of rfl⟩) ?_ 0 ⟨by omega,rfl⟩
  rintro i ⟨k1,k2⟩ - ih
  have k1:i≤h.length:=k1
  refine holds_of_eq (Eccheck_l6 ..) ?_
  simp only [holds_cond,Tree.holds,true_and,true_implies,decide_eq_true_eq,decide_eq_false_iff_not,Bool.not_eq_true',Bool.not_eq_false',Int.toNat_natCast,inK_i64,List.length_set,List.length_cons,List.length_nil,cut2_tk]
  have hb:hbad (me,s,h,()) i=(!formed (h.getD i (0,[0,0,0,0,0,0],[],())) || decide ((h.getD i (0,[0,0,0,0,0,0],[],())).1=me) || decide ((h.getD i (0,[0,0,0,0,0,0],[],())).2.1.getD (h.getD i (0,[0,0,0,0,0,0],[],())).1.toNat 0≤s.getD (h.getD i (0,[0,0,0,0,0,0],[],())).1.toNat 0) || delv s (h.getD i (0,[0,0,0,0,0,0],[],())) || (h.take i).any (fun y=>sameM y (h.getD i (0,[0,0,0,0,0,0],[],())))):=rfl
  refine ⟨fun a=>⟨by omega,fun _=>?_⟩,fun a=>key (by rw [hd,show h.length=i by omega,k2]; rfl)⟩
  have hi:i<h.length:=by omega
  have hmr:RM (h.getD i (0,[0,0,0,0,0,0],[],())):=hrm _ (getD_mem hi)
  generalize h.getD i (0,[0,0,0,0,0,0],[],())=m at *
  have bad:hbad (me,s,h,()) i=true→((4,()):Int×Unit)=(ccheck (me,s,h,()),()):=fun h9=>key (by rw [hd,if_pos (anyN_yes h9 hi)])
  refine ⟨fun e1=>bad (by rw [hb,e1]; rfl),fun e1=>⟨fun e2=>bad (by rw [hb,decide_eq_true e2]; simp),fun e2=>?_⟩⟩
  have hm:=formed_in e1
  refine ⟨by omega,fun _=>⟨by omega,fun _=>⟨fun e3=>bad (by rw [hb,decide_eq_true e3]; simp),fun e3=>⟨⟨hnn _,?_⟩,fun _=>⟨fun e4=>bad (by rw [hb,e4]; simp),fun e4=>⟨by omega,fun _=>⟨⟨fun x hx=>?_,hm⟩,fun _=>⟨fun e5=>bad (by rw [hb,e5]; simp),fun e5=>⟨by omega,fun _=>ih (i+1) ⟨by omega,?_⟩ (by omega)⟩⟩⟩⟩⟩⟩⟩⟩⟩
  · have:=hmr.get m.1.toNat; omega
  · obtain ⟨k,hk,rfl⟩:=mem_getD (d:=mail0) hx
    rw [List.length_take] at hk
    have h9:=anyN_no.1 k2 k (by omega)
    rw [List.getD_eq_getElem?_getD,List.getElem?_take,if_pos (by omega),← List.getD_eq_getElem?_getD]
    exact formed_in (by
      rw [hbad] at h9
      simp only [Bool.or_eq_false_iff,Bool.not_eq_false'] at h9
      exact h9.1.1.1.1)
  · rw [anyN,k2,hb,e1,decide_eq_false e2,decide_eq_false e3,e4,e5]; rfl
theorem wbmcl:Ty.wb Mail=72:=rfl
def cmcl:Ctr:={ ps:=[.v (.slc false Mail)],rs:=[.slc true Mail],pre:=fun x=>List.length (α:=MailD) x.1≤1048576,fn:=fun x=>x,out:=fun _=>() }
noncomputable def Emcl:Env:={ P:=Try.prog,tt:=tt,ctr:=[],res:=[Go.ResultVar.tmp 2],rs:=[Ty.slc true (Ty.pair (Ty.int IntKind.i64) (Ty.pair Vec (Ty.pair Ty.str Ty.unit)))],ps:=[PK.v (Ty.slc false (Ty.pair (Ty.int IntKind.i64) (Ty.pair Vec (Ty.pair Ty.str Ty.unit))))],cuts:=[],nt:=8 }
theorem Emcl_ok:EnvOk Emcl:=envOk tt_ok trivial
theorem Fmcl_ok:FnOk Emcl Try.f52:=⟨rfl,rfl⟩
theorem Emcl_t (x0:List (Int×List Int×List UInt8×Unit)):exec Emcl 1000 [.code (bodyOf Try.prog 52)] (initSt cmcl.ps ((x0,()))) =
  .both (x0=[]) (.ret (([],()))) (.need ((0:Nat)+List.length x0≤140737488355328∧((0:Nat)+List.length x0)*Ty.wb (Ty.pair (Ty.int IntKind.i64) (Ty.pair Vec (Ty.pair Ty.str Ty.unit)))≤140737488355328) (.ret (([]++x0,())))):=by kernel_rfl
theorem cmcl_valid:cmcl.Valid Try.prog 52:=by
  refine Ctr.valid_of Emcl_ok rfl rfl Try.func52 (c:=bodyOf Try.prog 52) rfl rfl Fmcl_ok rfl ?_
  rintro ⟨(l:List (MailD)),⟨⟩⟩ hp -
  have hp:l.length≤1048576:=hp
  refine exec_sound (n:=1000) Emcl_ok Fmcl_ok ?_
  refine holds_of_eq (Emcl_t l) ?_
  simp only [holds_cond,Tree.holds,true_and,true_implies,decide_eq_true_eq,decide_eq_false_iff_not,Bool.not_eq_true',Bool.not_eq_false',Int.toNat_natCast,inK_i64,List.length_set,List.length_cons,List.length_nil,wbmcl]
  refine ⟨fun h=>?_,by omega,fun _=>rfl⟩
  show (([],()):List (MailD)×Unit)=(l,())
  rw [show l=[] from h]
def ccclone:Ctr:={ ps:=[.v Causal],rs:=[CausalO],pre:=fun x=>List.length (α:=MailD) x.1.2.2.1≤1048576,fn:=fun x=>x,out:=fun _=>() }
noncomputable def Ecclone:Env:={ P:=Try.prog,tt:=tt,ctr:=[(52,cmcl)],res:=[Go.ResultVar.cell 2 40],rs:=[Ty.pair (Ty.int IntKind.i64) (Ty.pair Vec (Ty.pair (Ty.slc true (Ty.pair (Ty.int IntKind.i64) (Ty.pair Vec (Ty.pair Ty.str Ty.unit)))) Ty.unit))],ps:=[PK.v (Ty.pair (Ty.int IntKind.i64) (Ty.pair Vec (Ty.pair (Ty.slc false (Ty.pair (Ty.int IntKind.i64) (Ty.pair Vec (Ty.pair Ty.str Ty.unit)))) Ty.unit)))],cuts:=[],nt:=8 }
theorem Ecclone_ok:EnvOk Ecclone:=envOk tt_ok ⟨cmcl_valid,trivial⟩
theorem Fcclone_ok:FnOk Ecclone Try.f23:=⟨rfl,rfl⟩
theorem Ecclone_t (x0_1:Int) (x0_2_1:List Int) (x0_2_2_1:List (Int×List Int×List UInt8×Unit)):exec Ecclone 1000 [.code (bodyOf Try.prog 23)] (initSt ccclone.ps (((x0_1,x0_2_1,x0_2_2_1,()),()))) =
  .need (List.length x0_2_2_1≤1048576) (.ret (((x0_1,x0_2_1,x0_2_2_1,()),()))):=by kernel_rfl
theorem ccclone_valid:ccclone.Valid Try.prog 23:=by
  refine Ctr.valid_of Ecclone_ok rfl rfl Try.func23 (c:=bodyOf Try.prog 23) rfl rfl Fcclone_ok rfl ?_
  rintro ⟨⟨(me:Int),(s:List Int),(h:List MailD),⟨⟩⟩,⟨⟩⟩ hp -
  refine exec_sound (n:=1000) Ecclone_ok Fcclone_ok ?_
  refine holds_of_eq (Ecclone_t me s h) ?_
  exact ⟨hp,fun _=>rfl⟩
end Go.Proofs.Ytgmbfnlhmnpciaa
