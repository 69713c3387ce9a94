/- The contract of causal.Hear. No condition. -/
import Derived.Test.YtgmbfnlhmnpciaaCausalB
namespace Go.Proofs.Ytgmbfnlhmnpciaa
open Go.Ex
set_option maxRecDepth 100000
abbrev dM:MailD:=(0,[0,0,0,0,0,0],[],())
def cH1:Ctr:={ ps:=[.v Mail,.rd Mail],rs:=[.bool],pre:=fun x=>(LE.le (α:=Int) 0 x.1.1∧LE.le (α:=Int) x.1.1 5)∧(LE.le (α:=Int) 0 x.2.1.1∧LE.le (α:=Int) x.2.1.1 5),fn:=fun x=>(sameM x.1 x.2.1,()),out:=fun _=>() }
noncomputable def EH1:Env:={ P:=Try.prog,tt:=tt,ctr:=[(27,csameM)],res:=[Go.ResultVar.tmp 3],rs:=[Ty.bool],ps:=[PK.v (Ty.pair (Ty.int IntKind.i64) (Ty.pair Vec (Ty.pair Ty.str Ty.unit))),PK.rd (Ty.pair (Ty.int IntKind.i64) (Ty.pair Vec (Ty.pair Ty.str Ty.unit)))],cuts:=[],nt:=7 }
theorem EH1_ok:EnvOk EH1:=envOk tt_ok ⟨csameM_valid,trivial⟩
theorem FH1_ok:FnOk EH1 Try.f26:=⟨rfl,rfl⟩
theorem EH1_t (x0_1:Int) (x0_2_1:List Int) (x0_2_2_1:List UInt8) (x1_1:Int) (x1_2_1:List Int) (x1_2_2_1:List UInt8):exec EH1 1000 [.code (bodyOf Try.prog 26)] (initSt cH1.ps (((x0_1,x0_2_1,x0_2_2_1,()),(x1_1,x1_2_1,x1_2_2_1,()),()))) =
  .need (((0:Int)≤x0_1∧x0_1≤(5:Int))∧(0:Int)≤x1_1∧x1_1≤(5:Int)) (.ret ((sameM (x0_1,x0_2_1,x0_2_2_1,()) (x1_1,x1_2_1,x1_2_2_1,()),()))):=by kernel_rfl
theorem cH1_valid:cH1.Valid Try.prog 26:=by
  refine Ctr.valid_of EH1_ok rfl rfl Try.func26 (c:=bodyOf Try.prog 26) rfl rfl FH1_ok rfl ?_
  rintro ⟨⟨(f:Int),(a:List Int),(t:List UInt8),⟨⟩⟩,⟨(g:Int),(b:List Int),(u:List UInt8),⟨⟩⟩,⟨⟩⟩ ⟨⟨h1,h2⟩,h3,h4⟩ -
  refine exec_sound (n:=1000) EH1_ok FH1_ok ?_
  refine holds_of_eq (EH1_t f a t g b u) ?_
  exact ⟨⟨⟨h1,h2⟩,h3,h4⟩,fun _=>rfl⟩
def cidxH1:Ctr:={ ps:=[.v (.slc false Mail),.clo 26 [Mail]],rs:=[I64],pre:=fun x=>allR x.1 x.2.1.1,fn:=fun x=>(idxOf (fun y=>sameM y x.2.1.1) x.1,()),out:=fun _=>() }
noncomputable def EidxH1:Env:={ P:=Try.prog,tt:=tt,ctr:=[(26,cH1)],res:=[Go.ResultVar.tmp 4],rs:=[Ty.int IntKind.i64],ps:=[PK.v (Ty.slc false (Ty.pair (Ty.int IntKind.i64) (Ty.pair Vec (Ty.pair Ty.str Ty.unit)))),PK.clo 26 [Ty.pair (Ty.int IntKind.i64) (Ty.pair Vec (Ty.pair Ty.str Ty.unit))]],cuts:=[(2,[(0,none),(1,none),(7,none),(8,none)])],nt:=19 }
theorem EidxH1_ok:EnvOk EidxH1:=envOk tt_ok ⟨cH1_valid,trivial⟩
theorem FidxH1_ok:FnOk EidxH1 Try.f29:=⟨rfl,rfl⟩
theorem EidxH1_t (x0:List (Int×List Int×List UInt8×Unit)) (x1c0_1:Int) (x1c0_2_1:List Int) (x1c0_2_2_1:List UInt8):exec EidxH1 1000 [.code (bodyOf Try.prog 29)] (initSt cidxH1.ps ((x0,((x1c0_1,x1c0_2_1,x1c0_2_2_1,()),()),()))) =
  .cut (loopAt (bodyOf Try.prog 29) 2).1 (loopAt (bodyOf Try.prog 29) 2).2 (St.mk [(0,AV.val (Ty.slc false (Ty.pair (Ty.int IntKind.i64) (Ty.pair Vec (Ty.pair Ty.str Ty.unit)))) x0),(1,AV.clo 26 (AV.cons (AV.rptr (Ty.pair (Ty.int IntKind.i64) (Ty.pair Vec (Ty.pair Ty.str Ty.unit))) (x1c0_1,x1c0_2_1,x1c0_2_2_1,())) AV.nil)),(7,AV.val (Ty.int IntKind.i64) (↑(List.length x0):Int)),(8,AV.val (Ty.int IntKind.i64) (0:Int))] []):=by kernel_rfl
def EidxH1_s2 (v0:List (Int×List Int×List UInt8×Unit)) (v1a_1:Int) (v1a_2_1:List Int) (v1a_2_2_1:List UInt8) (v7:Int) (v8:Int):St:=St.mk [(0,AV.val (Ty.slc false (Ty.pair (Ty.int IntKind.i64) (Ty.pair Vec (Ty.pair Ty.str Ty.unit)))) v0),(1,AV.clo 26 (AV.cons (AV.rptr (Ty.pair (Ty.int IntKind.i64) (Ty.pair Vec (Ty.pair Ty.str Ty.unit))) (v1a_1,v1a_2_1,v1a_2_2_1,())) AV.nil)),(7,AV.val (Ty.int IntKind.i64) v7),(8,AV.val (Ty.int IntKind.i64) v8)] []
theorem EidxH1_l2 (v0:List (Int×List Int×List UInt8×Unit)) (v1a_1:Int) (v1a_2_1:List Int) (v1a_2_2_1:List UInt8) (v7:Int) (v8:Int):exec EidxH1 1000 (.code (loopAt (bodyOf Try.prog 29) 2).1::.inLoop (loopAt (bodyOf Try.prog 29) 2).1::(loopAt (bodyOf Try.prog 29) 2).2) (EidxH1_s2 v0 v1a_1 v1a_2_1 v1a_2_2_1 v7 v8) =
  cond (decide (v8<v7)) (.need ((0:Int)≤v8∧v8<(↑(List.length v0):Int)) (.need (((0:Int)≤Prod.fst (List.getD v0 (Int.toNat v8) ((0:Int),[(0:Int),(0:Int),(0:Int),(0:Int),(0:Int),(0:Int)],[],()))∧Prod.fst (List.getD v0 (Int.toNat v8) ((0:Int),[(0:Int),(0:Int),(0:Int),(0:Int),(0:Int),(0:Int)],[],()))≤(5:Int))∧(0:Int)≤v1a_1∧v1a_1≤(5:Int)) (cond (sameM (List.getD v0 (Int.toNat v8) ((0:Int),[(0:Int),(0:Int),(0:Int),(0:Int),(0:Int),(0:Int)],[],())) (v1a_1,v1a_2_1,v1a_2_2_1,())) (.ret ((v8,()))) (.need (inK IntKind.i64 (v8+(1:Int))) (.cut (loopAt (bodyOf Try.prog 29) 2).1 (loopAt (bodyOf Try.prog 29) 2).2 (St.mk [(0,AV.val (Ty.slc false (Ty.pair (Ty.int IntKind.i64) (Ty.pair Vec (Ty.pair Ty.str Ty.unit)))) v0),(1,AV.clo 26 (AV.cons (AV.rptr (Ty.pair (Ty.int IntKind.i64) (Ty.pair Vec (Ty.pair Ty.str Ty.unit))) (v1a_1,v1a_2_1,v1a_2_2_1,())) AV.nil)),(7,AV.val (Ty.int IntKind.i64) v7),(8,AV.val (Ty.int IntKind.i64) (v8+(1:Int)))] [])))))) (.ret (((-1:Int),()))):=by kernel_rfl
theorem cidxH1_valid:cidxH1.Valid Try.prog 29:=by
  refine Ctr.valid_of EidxH1_ok rfl rfl Try.func29 (c:=bodyOf Try.prog 29) rfl rfl FidxH1_ok rfl ?_
  rintro ⟨(l:List (MailD)),⟨⟨(q0:Int),(q1:List Int),(q2:List UInt8),⟨⟩⟩,⟨⟩⟩,⟨⟩⟩ hp ⟨⟨hl,-⟩,-⟩
  have hl:l.length≤9223372036854775807:=hl
  have hp:allR l (q0,q1,q2,()):=hp
  refine exec_sound (n:=1000) EidxH1_ok FidxH1_ok ?_
  refine holds_of_eq (EidxH1_t l q0 q1 q2) ?_
  refine Reach.loopI EidxH1_ok FidxH1_ok (fun i:Nat=>EidxH1_s2 l q0 q1 q2 (l.length:Int) (i:Int)) (fun i=>i≤l.length∧idxOf (fun y=>sameM y (q0,q1,q2,())) l=idxGo (fun y=>sameM y (q0,q1,q2,())) (l.drop i) i)
    (fun i=>l.length - i) 1000 (fun _=>⟨uniq_of rfl,uniq_of rfl⟩) ?_ 0 ⟨by omega,rfl⟩
  rintro i ⟨k1,k2⟩ - ih
  refine holds_of_eq (EidxH1_l2 ..) ?_
  simp only [holds_cond,Tree.holds,true_and,true_implies,decide_eq_true_eq,decide_eq_false_iff_not,Bool.not_eq_true',Bool.not_eq_false',Int.toNat_natCast,inK_i64,List.length_set,List.length_cons,List.length_nil]
  refine ⟨fun h=>?_,fun h=>?_⟩
  · rw [drop_getD (show i<l.length by omega) (0,[0,0,0,0,0,0],[],()),idxGo] at k2
    refine ⟨by omega,fun _=>⟨⟨hp.1 _ (getD_mem (by omega)),hp.2⟩,fun _=>⟨fun c=>?_,fun c=>⟨by omega,fun _=>ih (i+1) ⟨by omega,?_⟩ (by omega)⟩⟩⟩⟩
    · show (((i:Int),()):Int×Unit)=(idxOf (fun y=>sameM y (q0,q1,q2,())) l,())
      rw [k2,if_pos (show (fun y=>sameM y (q0,q1,q2,())) (l.getD i (0,[0,0,0,0,0,0],[],()))=true from c)]
    · rw [k2,if_neg (show ¬ (fun y=>sameM y (q0,q1,q2,())) (l.getD i (0,[0,0,0,0,0,0],[],()))=true from fun h9=>Bool.noConfusion (Eq.trans (Eq.symm h9) c))]
  · rw [List.drop_eq_nil_of_le (by omega)] at k2
    show (((-1:Int),()):Int×Unit)=(idxOf (fun y=>sameM y (q0,q1,q2,())) l,())
    rw [k2]; rfl
def ccontH1:Ctr:={ ps:=[.v (.slc false Mail),.clo 26 [Mail]],rs:=[.bool],pre:=fun x=>allR x.1 x.2.1.1,fn:=fun x=>(List.any (α:=MailD) x.1 (fun y=>sameM y x.2.1.1),()),out:=fun _=>() }
noncomputable def EcontH1:Env:={ P:=Try.prog,tt:=tt,ctr:=[(29,cidxH1)],res:=[Go.ResultVar.tmp 4],rs:=[Ty.bool],ps:=[PK.v (Ty.slc false (Ty.pair (Ty.int IntKind.i64) (Ty.pair Vec (Ty.pair Ty.str Ty.unit)))),PK.clo 26 [Ty.pair (Ty.int IntKind.i64) (Ty.pair Vec (Ty.pair Ty.str Ty.unit))]],cuts:=[],nt:=9 }
theorem EcontH1_ok:EnvOk EcontH1:=envOk tt_ok ⟨cidxH1_valid,trivial⟩
theorem FcontH1_ok:FnOk EcontH1 Try.f25:=⟨rfl,rfl⟩
theorem EcontH1_t (x0:List (Int×List Int×List UInt8×Unit)) (x1c0_1:Int) (x1c0_2_1:List Int) (x1c0_2_2_1:List UInt8):exec EcontH1 1000 [.code (bodyOf Try.prog 25)] (initSt ccontH1.ps ((x0,((x1c0_1,x1c0_2_1,x1c0_2_2_1,()),()),()))) =
  .need (allR x0 (x1c0_1,x1c0_2_1,x1c0_2_2_1,())) (.ret ((decide ((0:Int)≤idxOf (fun y=>sameM y (x1c0_1,x1c0_2_1,x1c0_2_2_1,())) x0),()))):=by kernel_rfl
theorem ccontH1_valid:ccontH1.Valid Try.prog 25:=by
  refine Ctr.valid_of EcontH1_ok rfl rfl Try.func25 (c:=bodyOf Try.prog 25) rfl rfl FcontH1_ok rfl ?_
  rintro ⟨(l:List (MailD)),⟨⟨(q0:Int),(q1:List Int),(q2:List UInt8),⟨⟩⟩,⟨⟩⟩,⟨⟩⟩ hp -
  refine exec_sound (n:=1000) EcontH1_ok FcontH1_ok ?_
  refine holds_of_eq (EcontH1_t l q0 q1 q2) ?_
  refine ⟨hp,fun _=>?_⟩
  show ((decide (0≤idxOf (fun y=>sameM y (q0,q1,q2,())) l),()):Bool×Unit)=(l.any (fun y=>sameM y (q0,q1,q2,())),())
  rw [idx_any]
def nextOk (s:List Int) (m:MailD):Prop:=0≤s.getD m.1.toNat 0∧s.getD m.1.toNat 0≤9223372036854775806
def cH2:Ctr:={ ps:=[.v Mail,.rd Causal],rs:=[.bool],pre:=fun x=>nextOk x.2.1.2.1 x.1,fn:=fun x=>(delv x.2.1.2.1 x.1,()),out:=fun _=>() }
noncomputable def EH2:Env:={ P:=Try.prog,tt:=tt,ctr:=[(28,cdelv)],res:=[Go.ResultVar.tmp 3],rs:=[Ty.bool],ps:=[PK.v (Ty.pair (Ty.int IntKind.i64) (Ty.pair Vec (Ty.pair Ty.str Ty.unit))),PK.rd (Ty.pair (Ty.int IntKind.i64) (Ty.pair Vec (Ty.pair (Ty.slc false (Ty.pair (Ty.int IntKind.i64) (Ty.pair Vec (Ty.pair Ty.str Ty.unit)))) Ty.unit)))],cuts:=[],nt:=8 }
theorem EH2_ok:EnvOk EH2:=envOk tt_ok ⟨cdelv_valid,trivial⟩
theorem FH2_ok:FnOk EH2 Try.f30:=⟨rfl,rfl⟩
theorem EH2_t (x0_1:Int) (x0_2_1:List Int) (x0_2_2_1:List UInt8) (x1_1:Int) (x1_2_1:List Int) (x1_2_2_1:List (Int×List Int×List UInt8×Unit)):exec EH2 1000 [.code (bodyOf Try.prog 30)] (initSt cH2.ps (((x0_1,x0_2_1,x0_2_2_1,()),(x1_1,x1_2_1,x1_2_2_1,()),()))) =
  .need ((0:Int)≤List.getD x1_2_1 (Int.toNat x0_1) (0:Int)∧List.getD x1_2_1 (Int.toNat x0_1) (0:Int)≤(9223372036854775806:Int)) (.ret ((delv x1_2_1 (x0_1,x0_2_1,x0_2_2_1,()),()))):=by kernel_rfl
theorem cH2_valid:cH2.Valid Try.prog 30:=by
  refine Ctr.valid_of EH2_ok rfl rfl Try.func30 (c:=bodyOf Try.prog 30) rfl rfl FH2_ok rfl ?_
  rintro ⟨⟨(f:Int),(a:List Int),(t:List UInt8),⟨⟩⟩,⟨(me:Int),(s:List Int),(h:List MailD),⟨⟩⟩,⟨⟩⟩ hp -
  refine exec_sound (n:=1000) EH2_ok FH2_ok ?_
  refine holds_of_eq (EH2_t f a t me s h) ?_
  exact ⟨hp,fun _=>rfl⟩
def cidxH2:Ctr:={ ps:=[.v (.slc false Mail),.clo 30 [Causal]],rs:=[I64],pre:=fun x=>∀ y∈(show List MailD from x.1),nextOk x.2.1.1.2.1 y,fn:=fun x=>(idxOf (delv x.2.1.1.2.1) x.1,()),out:=fun _=>() }
noncomputable def EidxH2:Env:={ P:=Try.prog,tt:=tt,ctr:=[(30,cH2)],res:=[Go.ResultVar.tmp 4],rs:=[Ty.int IntKind.i64],ps:=[PK.v (Ty.slc false (Ty.pair (Ty.int IntKind.i64) (Ty.pair Vec (Ty.pair Ty.str Ty.unit)))),PK.clo 30 [Ty.pair (Ty.int IntKind.i64) (Ty.pair Vec (Ty.pair (Ty.slc false (Ty.pair (Ty.int IntKind.i64) (Ty.pair Vec (Ty.pair Ty.str Ty.unit)))) Ty.unit))]],cuts:=[(2,[(0,none),(1,none),(7,none),(8,none)])],nt:=19 }
theorem EidxH2_ok:EnvOk EidxH2:=envOk tt_ok ⟨cH2_valid,trivial⟩
theorem FidxH2_ok:FnOk EidxH2 Try.f29:=⟨rfl,rfl⟩
theorem EidxH2_t (x0:List (Int×List Int×List UInt8×Unit)) (x1c0_1:Int) (x1c0_2_1:List Int) (x1c0_2_2_1:List (Int×List Int×List UInt8×Unit)):exec EidxH2 1000 [.code (bodyOf Try.prog 29)] (initSt cidxH2.ps ((x0,((x1c0_1,x1c0_2_1,x1c0_2_2_1,()),()),()))) =
  .cut (loopAt (bodyOf Try.prog 29) 2).1 (loopAt (bodyOf Try.prog 29) 2).2 (St.mk [(0,AV.val (Ty.slc false (Ty.pair (Ty.int IntKind.i64) (Ty.pair Vec (Ty.pair Ty.str Ty.unit)))) x0),(1,AV.clo 30 (AV.cons (AV.rptr (Ty.pair (Ty.int IntKind.i64) (Ty.pair Vec (Ty.pair (Ty.slc false (Ty.pair (Ty.int IntKind.i64) (Ty.pair Vec (Ty.pair Ty.str Ty.unit)))) Ty.unit))) (x1c0_1,x1c0_2_1,x1c0_2_2_1,())) AV.nil)),(7,AV.val (Ty.int IntKind.i64) (↑(List.length x0):Int)),(8,AV.val (Ty.int IntKind.i64) (0:Int))] []):=by kernel_rfl
def EidxH2_s2 (v0:List (Int×List Int×List UInt8×Unit)) (v1a_1:Int) (v1a_2_1:List Int) (v1a_2_2_1:List (Int×List Int×List UInt8×Unit)) (v7:Int) (v8:Int):St:=St.mk [(0,AV.val (Ty.slc false (Ty.pair (Ty.int IntKind.i64) (Ty.pair Vec (Ty.pair Ty.str Ty.unit)))) v0),(1,AV.clo 30 (AV.cons (AV.rptr (Ty.pair (Ty.int IntKind.i64) (Ty.pair Vec (Ty.pair (Ty.slc false (Ty.pair (Ty.int IntKind.i64) (Ty.pair Vec (Ty.pair Ty.str Ty.unit)))) Ty.unit))) (v1a_1,v1a_2_1,v1a_2_2_1,())) AV.nil)),(7,AV.val (Ty.int IntKind.i64) v7),(8,AV.val (Ty.int IntKind.i64) v8)] []
theorem EidxH2_l2 (v0:List (Int×List Int×List UInt8×Unit)) (v1a_1:Int) (v1a_2_1:List Int) (v1a_2_2_1:List (Int×List Int×List UInt8×Unit)) (v7:Int) (v8:Int):exec EidxH2 1000 (.code (loopAt (bodyOf Try.prog 29) 2).1::.inLoop (loopAt (bodyOf Try.prog 29) 2).1::(loopAt (bodyOf Try.prog 29) 2).2) (EidxH2_s2 v0 v1a_1 v1a_2_1 v1a_2_2_1 v7 v8) =
  cond (decide (v8<v7)) (.need ((0:Int)≤v8∧v8<(↑(List.length v0):Int)) (.need (nextOk v1a_2_1 (List.getD v0 (Int.toNat v8) ((0:Int),[(0:Int),(0:Int),(0:Int),(0:Int),(0:Int),(0:Int)],[],()))) (cond (delv v1a_2_1 (List.getD v0 (Int.toNat v8) ((0:Int),[(0:Int),(0:Int),(0:Int),(0:Int),(0:Int),(0:Int)],[],()))) (.ret ((v8,()))) (.need (inK IntKind.i64 (v8+(1:Int))) (.cut (loopAt (bodyOf Try.prog 29) 2).1 (loopAt (bodyOf Try.prog 29) 2).2 (St.mk [(0,AV.val (Ty.slc false (Ty.pair (Ty.int IntKind.i64) (Ty.pair Vec (Ty.pair Ty.str Ty.unit)))) v0),(1,AV.clo 30 (AV.cons (AV.rptr (Ty.pair (Ty.int IntKind.i64) (Ty.pair Vec (Ty.pair (Ty.slc false (Ty.pair (Ty.int IntKind.i64) (Ty.pair Vec (Ty.pair Ty.str Ty.unit)))) Ty.unit))) (v1a_1,v1a_2_1,v1a_2_2_1,())) AV.nil)),(7,AV.val (Ty.int IntKind.i64) v7),(8,AV.val (Ty.int IntKind.i64) (v8+(1:Int)))] [])))))) (.ret (((-1:Int),()))):=by kernel_rfl
theorem cidxH2_valid:cidxH2.Valid Try.prog 29:=by
  refine Ctr.valid_of EidxH2_ok rfl rfl Try.func29 (c:=bodyOf Try.prog 29) rfl rfl FidxH2_ok rfl ?_
  rintro ⟨(l:List (MailD)),⟨⟨(q0:Int),(q1:List Int),(q2:List MailD),⟨⟩⟩,⟨⟩⟩,⟨⟩⟩ hp ⟨⟨hl,-⟩,-⟩
  have hl:l.length≤9223372036854775807:=hl
  have hp:∀ y∈l,nextOk q1 y:=hp
  refine exec_sound (n:=1000) EidxH2_ok FidxH2_ok ?_
  refine holds_of_eq (EidxH2_t l q0 q1 q2) ?_
  refine Reach.loopI EidxH2_ok FidxH2_ok (fun i:Nat=>EidxH2_s2 l q0 q1 q2 (l.length:Int) (i:Int)) (fun i=>i≤l.length∧idxOf (delv q1) l=idxGo (delv q1) (l.drop i) i)
    (fun i=>l.length - i) 1000 (fun _=>⟨uniq_of rfl,uniq_of rfl⟩) ?_ 0 ⟨by omega,rfl⟩
  rintro i ⟨k1,k2⟩ - ih
  refine holds_of_eq (EidxH2_l2 ..) ?_
  simp only [holds_cond,Tree.holds,true_and,true_implies,decide_eq_true_eq,decide_eq_false_iff_not,Bool.not_eq_true',Bool.not_eq_false',Int.toNat_natCast,inK_i64,List.length_set,List.length_cons,List.length_nil]
  refine ⟨fun h=>?_,fun h=>?_⟩
  · rw [drop_getD (show i<l.length by omega) (0,[0,0,0,0,0,0],[],()),idxGo] at k2
    refine ⟨by omega,fun _=>⟨hp _ (getD_mem (by omega)),fun _=>⟨fun c=>?_,fun c=>⟨by omega,fun _=>ih (i+1) ⟨by omega,?_⟩ (by omega)⟩⟩⟩⟩
    · show (((i:Int),()):Int×Unit)=(idxOf (delv q1) l,())
      rw [k2,if_pos (show (delv q1) (l.getD i (0,[0,0,0,0,0,0],[],()))=true from c)]
    · rw [k2,if_neg (show ¬ (delv q1) (l.getD i (0,[0,0,0,0,0,0],[],()))=true from fun h9=>Bool.noConfusion (Eq.trans (Eq.symm h9) c))]
  · rw [List.drop_eq_nil_of_le (by omega)] at k2
    show (((-1:Int),()):Int×Unit)=(idxOf (delv q1) l,())
    rw [k2]; rfl
def stale (s:List Int) (m:MailD):Bool:=decide (m.2.1.getD m.1.toNat 0≤s.getD m.1.toNat 0)
def cH3:Ctr:={ ps:=[.v Mail,.rd CausalH],rs:=[.bool],pre:=fun x=>LE.le (α:=Int) 0 x.1.1∧LE.le (α:=Int) x.1.1 5,fn:=fun x=>(stale x.2.1.2.1 x.1,()),out:=fun _=>() }
noncomputable def EH3:Env:={ P:=Try.prog,tt:=tt,ctr:=[],res:=[Go.ResultVar.tmp 3],rs:=[Ty.bool],ps:=[PK.v (Ty.pair (Ty.int IntKind.i64) (Ty.pair Vec (Ty.pair Ty.str Ty.unit))),PK.rd (Ty.pair (Ty.int IntKind.i64) (Ty.pair Vec (Ty.pair (Ty.hole (Ty.pair (Ty.int IntKind.i64) (Ty.pair Vec (Ty.pair Ty.str Ty.unit)))) Ty.unit)))],cuts:=[],nt:=15 }
theorem EH3_ok:EnvOk EH3:=envOk tt_ok trivial
theorem FH3_ok:FnOk EH3 Try.f33:=⟨rfl,rfl⟩
theorem EH3_t (x0_1:Int) (x0_2_1:List Int) (x0_2_2_1:List UInt8) (x1_1:Int) (x1_2_1:List Int) (x1_2_2_1:List (Int×List Int×List UInt8×Unit)):exec EH3 1000 [.code (bodyOf Try.prog 33)] (initSt cH3.ps (((x0_1,x0_2_1,x0_2_2_1,()),(x1_1,x1_2_1,x1_2_2_1,()),()))) =
  .need ((0:Int)≤x0_1∧x0_1<(↑6:Int)) (.need ((0:Int)≤x0_1∧x0_1<(↑6:Int)) (.ret ((decide (List.getD x0_2_1 (Int.toNat x0_1) (0:Int)≤List.getD x1_2_1 (Int.toNat x0_1) (0:Int)),())))):=by kernel_rfl
theorem cH3_valid:cH3.Valid Try.prog 33:=by
  refine Ctr.valid_of EH3_ok rfl rfl Try.func33 (c:=bodyOf Try.prog 33) rfl rfl FH3_ok rfl ?_
  rintro ⟨⟨(f:Int),(a:List Int),(t:List UInt8),⟨⟩⟩,⟨(me:Int),(s:List Int),(h:List MailD),⟨⟩⟩,⟨⟩⟩ ⟨(h1:0≤f),(h2:f≤5)⟩ -
  refine exec_sound (n:=1000) EH3_ok FH3_ok ?_
  refine holds_of_eq (EH3_t f a t me s h) ?_
  simp only [holds_cond,Tree.holds,true_and,true_implies,decide_eq_true_eq,decide_eq_false_iff_not,Bool.not_eq_true',Bool.not_eq_false',Int.toNat_natCast,inK_i64,List.length_set,List.length_cons,List.length_nil]
  exact ⟨by omega,fun _=>⟨by omega,fun _=>rfl⟩⟩
def cidxH3:Ctr:={ ps:=[.v (.slc false Mail),.clo 33 [CausalH]],rs:=[I64],pre:=fun x=>∀ y∈(show List MailD from x.1),InR y,fn:=fun x=>(idxOf (stale x.2.1.1.2.1) x.1,()),out:=fun _=>() }
noncomputable def EidxH3:Env:={ P:=Try.prog,tt:=tt,ctr:=[(33,cH3)],res:=[Go.ResultVar.tmp 4],rs:=[Ty.int IntKind.i64],ps:=[PK.v (Ty.slc false (Ty.pair (Ty.int IntKind.i64) (Ty.pair Vec (Ty.pair Ty.str Ty.unit)))),PK.clo 33 [Ty.pair (Ty.int IntKind.i64) (Ty.pair Vec (Ty.pair (Ty.hole (Ty.pair (Ty.int IntKind.i64) (Ty.pair Vec (Ty.pair Ty.str Ty.unit)))) Ty.unit))]],cuts:=[(2,[(0,none),(1,none),(7,none),(8,none)])],nt:=19 }
theorem EidxH3_ok:EnvOk EidxH3:=envOk tt_ok ⟨cH3_valid,trivial⟩
theorem FidxH3_ok:FnOk EidxH3 Try.f29:=⟨rfl,rfl⟩
theorem EidxH3_t (x0:List (Int×List Int×List UInt8×Unit)) (x1c0_1:Int) (x1c0_2_1:List Int) (x1c0_2_2_1:List (Int×List Int×List UInt8×Unit)):exec EidxH3 1000 [.code (bodyOf Try.prog 29)] (initSt cidxH3.ps ((x0,((x1c0_1,x1c0_2_1,x1c0_2_2_1,()),()),()))) =
  .cut (loopAt (bodyOf Try.prog 29) 2).1 (loopAt (bodyOf Try.prog 29) 2).2 (St.mk [(0,AV.val (Ty.slc false (Ty.pair (Ty.int IntKind.i64) (Ty.pair Vec (Ty.pair Ty.str Ty.unit)))) x0),(1,AV.clo 33 (AV.cons (AV.rptr (Ty.pair (Ty.int IntKind.i64) (Ty.pair Vec (Ty.pair (Ty.hole (Ty.pair (Ty.int IntKind.i64) (Ty.pair Vec (Ty.pair Ty.str Ty.unit)))) Ty.unit))) (x1c0_1,x1c0_2_1,x1c0_2_2_1,())) AV.nil)),(7,AV.val (Ty.int IntKind.i64) (↑(List.length x0):Int)),(8,AV.val (Ty.int IntKind.i64) (0:Int))] []):=by kernel_rfl
def EidxH3_s2 (v0:List (Int×List Int×List UInt8×Unit)) (v1a_1:Int) (v1a_2_1:List Int) (v1a_2_2_1:List (Int×List Int×List UInt8×Unit)) (v7:Int) (v8:Int):St:=St.mk [(0,AV.val (Ty.slc false (Ty.pair (Ty.int IntKind.i64) (Ty.pair Vec (Ty.pair Ty.str Ty.unit)))) v0),(1,AV.clo 33 (AV.cons (AV.rptr (Ty.pair (Ty.int IntKind.i64) (Ty.pair Vec (Ty.pair (Ty.hole (Ty.pair (Ty.int IntKind.i64) (Ty.pair Vec (Ty.pair Ty.str Ty.unit)))) Ty.unit))) (v1a_1,v1a_2_1,v1a_2_2_1,())) AV.nil)),(7,AV.val (Ty.int IntKind.i64) v7),(8,AV.val (Ty.int IntKind.i64) v8)] []
theorem EidxH3_l2 (v0:List (Int×List Int×List UInt8×Unit)) (v1a_1:Int) (v1a_2_1:List Int) (v1a_2_2_1:List (Int×List Int×List UInt8×Unit)) (v7:Int) (v8:Int):exec EidxH3 1000 (.code (loopAt (bodyOf Try.prog 29) 2).1::.inLoop (loopAt (bodyOf Try.prog 29) 2).1::(loopAt (bodyOf Try.prog 29) 2).2) (EidxH3_s2 v0 v1a_1 v1a_2_1 v1a_2_2_1 v7 v8) =
  cond (decide (v8<v7)) (.need ((0:Int)≤v8∧v8<(↑(List.length v0):Int)) (.need ((0:Int)≤Prod.fst (List.getD v0 (Int.toNat v8) ((0:Int),[(0:Int),(0:Int),(0:Int),(0:Int),(0:Int),(0:Int)],[],()))∧Prod.fst (List.getD v0 (Int.toNat v8) ((0:Int),[(0:Int),(0:Int),(0:Int),(0:Int),(0:Int),(0:Int)],[],()))≤(5:Int)) (cond (stale v1a_2_1 (List.getD v0 (Int.toNat v8) ((0:Int),[(0:Int),(0:Int),(0:Int),(0:Int),(0:Int),(0:Int)],[],()))) (.ret ((v8,()))) (.need (inK IntKind.i64 (v8+(1:Int))) (.cut (loopAt (bodyOf Try.prog 29) 2).1 (loopAt (bodyOf Try.prog 29) 2).2 (St.mk [(0,AV.val (Ty.slc false (Ty.pair (Ty.int IntKind.i64) (Ty.pair Vec (Ty.pair Ty.str Ty.unit)))) v0),(1,AV.clo 33 (AV.cons (AV.rptr (Ty.pair (Ty.int IntKind.i64) (Ty.pair Vec (Ty.pair (Ty.hole (Ty.pair (Ty.int IntKind.i64) (Ty.pair Vec (Ty.pair Ty.str Ty.unit)))) Ty.unit))) (v1a_1,v1a_2_1,v1a_2_2_1,())) AV.nil)),(7,AV.val (Ty.int IntKind.i64) v7),(8,AV.val (Ty.int IntKind.i64) (v8+(1:Int)))] [])))))) (.ret (((-1:Int),()))):=by kernel_rfl
theorem cidxH3_valid:cidxH3.Valid Try.prog 29:=by
  refine Ctr.valid_of EidxH3_ok rfl rfl Try.func29 (c:=bodyOf Try.prog 29) rfl rfl FidxH3_ok rfl ?_
  rintro ⟨(l:List (MailD)),⟨⟨(q0:Int),(q1:List Int),(q2:List MailD),⟨⟩⟩,⟨⟩⟩,⟨⟩⟩ hp ⟨⟨hl,-⟩,-⟩
  have hl:l.length≤9223372036854775807:=hl
  have hp:∀ y∈l,InR y:=hp
  refine exec_sound (n:=1000) EidxH3_ok FidxH3_ok ?_
  refine holds_of_eq (EidxH3_t l q0 q1 q2) ?_
  refine Reach.loopI EidxH3_ok FidxH3_ok (fun i:Nat=>EidxH3_s2 l q0 q1 q2 (l.length:Int) (i:Int)) (fun i=>i≤l.length∧idxOf (stale q1) l=idxGo (stale q1) (l.drop i) i)
    (fun i=>l.length - i) 1000 (fun _=>⟨uniq_of rfl,uniq_of rfl⟩) ?_ 0 ⟨by omega,rfl⟩
  rintro i ⟨k1,k2⟩ - ih
  refine holds_of_eq (EidxH3_l2 ..) ?_
  simp only [holds_cond,Tree.holds,true_and,true_implies,decide_eq_true_eq,decide_eq_false_iff_not,Bool.not_eq_true',Bool.not_eq_false',Int.toNat_natCast,inK_i64,List.length_set,List.length_cons,List.length_nil]
  refine ⟨fun h=>?_,fun h=>?_⟩
  · rw [drop_getD (show i<l.length by omega) (0,[0,0,0,0,0,0],[],()),idxGo] at k2
    refine ⟨by omega,fun _=>⟨hp _ (getD_mem (by omega)),fun _=>⟨fun c=>?_,fun c=>⟨by omega,fun _=>ih (i+1) ⟨by omega,?_⟩ (by omega)⟩⟩⟩⟩
    · show (((i:Int),()):Int×Unit)=(idxOf (stale q1) l,())
      rw [k2,if_pos (show (stale q1) (l.getD i (0,[0,0,0,0,0,0],[],()))=true from c)]
    · rw [k2,if_neg (show ¬ (stale q1) (l.getD i (0,[0,0,0,0,0,0],[],()))=true from fun h9=>Bool.noConfusion (Eq.trans (Eq.symm h9) c))]
  · rw [List.drop_eq_nil_of_le (by omega)] at k2
    show (((-1:Int),()):Int×Unit)=(idxOf (stale q1) l,())
    rw [k2]; rfl
def cdelH3:Ctr:={ ps:=[.own (.slc true Mail),.clo 33 [CausalH]],rs:=[.slc true Mail],pre:=fun x=>∀ y∈(show List MailD from x.1),InR y,fn:=fun x=>(List.filter (α:=MailD) (fun y=>!(stale x.2.1.1.2.1) y) x.1,()),out:=fun _=>() }
noncomputable def EdelH3:Env:={ P:=Try.prog,tt:=tt,ctr:=[(29,cidxH3),(33,cH3)],res:=[Go.ResultVar.tmp 4],rs:=[Ty.slc true (Ty.pair (Ty.int IntKind.i64) (Ty.pair Vec (Ty.pair Ty.str Ty.unit)))],ps:=[PK.own (Ty.slc true (Ty.pair (Ty.int IntKind.i64) (Ty.pair Vec (Ty.pair Ty.str Ty.unit)))),PK.clo 33 [Ty.pair (Ty.int IntKind.i64) (Ty.pair Vec (Ty.pair (Ty.hole (Ty.pair (Ty.int IntKind.i64) (Ty.pair Vec (Ty.pair Ty.str Ty.unit)))) Ty.unit))]],cuts:=[(5,[(0,some (Ty.slc true (Ty.pair (Ty.int IntKind.i64) (Ty.pair Vec (Ty.pair Ty.str Ty.unit))))),(1,none),(5,none),(6,none)])],nt:=42 }
theorem EdelH3_ok:EnvOk EdelH3:=envOk tt_ok ⟨cidxH3_valid,cH3_valid,trivial⟩
theorem FdelH3_ok:FnOk EdelH3 Try.f32:=⟨rfl,rfl⟩
theorem EdelH3_t (x0:List (Int×List Int×List UInt8×Unit)) (x1c0_1:Int) (x1c0_2_1:List Int) (x1c0_2_2_1:List (Int×List Int×List UInt8×Unit)):exec EdelH3 1000 [.code (bodyOf Try.prog 32)] (initSt cdelH3.ps ((x0,((x1c0_1,x1c0_2_1,x1c0_2_2_1,()),()),()))) =
  .need (∀ (y:MailD),y∈x0→InR y) (cond (decide (idxOf (stale x1c0_2_1) x0=(-1:Int))) (.ret ((x0,()))) (.need (inK IntKind.i64 (idxOf (stale x1c0_2_1) x0+(1:Int))) (.cut (loopAt (bodyOf Try.prog 32) 5).1 (loopAt (bodyOf Try.prog 32) 5).2 (St.mk [(0,AV.at_ 1000000 []),(1,AV.clo 33 (AV.cons (AV.rptr (Ty.pair (Ty.int IntKind.i64) (Ty.pair Vec (Ty.pair (Ty.hole (Ty.pair (Ty.int IntKind.i64) (Ty.pair Vec (Ty.pair Ty.str Ty.unit)))) Ty.unit))) (x1c0_1,x1c0_2_1,x1c0_2_2_1,())) AV.nil)),(5,AV.val (Ty.int IntKind.i64) (idxOf (stale x1c0_2_1) x0)),(6,AV.val (Ty.int IntKind.i64) (idxOf (stale x1c0_2_1) x0+(1:Int)))] [(1000000,Ent.own (Ty.slc true (Ty.pair (Ty.int IntKind.i64) (Ty.pair Vec (Ty.pair Ty.str Ty.unit)))) x0)])))):=by kernel_rfl
def EdelH3_s5 (v1a_1:Int) (v1a_2_1:List Int) (v1a_2_2_1:List (Int×List Int×List UInt8×Unit)) (v5:Int) (v6:Int) (o1000000:List (Int×List Int×List UInt8×Unit)):St:=St.mk [(0,AV.at_ 1000000 []),(1,AV.clo 33 (AV.cons (AV.rptr (Ty.pair (Ty.int IntKind.i64) (Ty.pair Vec (Ty.pair (Ty.hole (Ty.pair (Ty.int IntKind.i64) (Ty.pair Vec (Ty.pair Ty.str Ty.unit)))) Ty.unit))) (v1a_1,v1a_2_1,v1a_2_2_1,())) AV.nil)),(5,AV.val (Ty.int IntKind.i64) v5),(6,AV.val (Ty.int IntKind.i64) v6)] [(1000000,Ent.own (Ty.slc true (Ty.pair (Ty.int IntKind.i64) (Ty.pair Vec (Ty.pair Ty.str Ty.unit)))) o1000000)]
theorem EdelH3_l5 (v1a_1:Int) (v1a_2_1:List Int) (v1a_2_2_1:List (Int×List Int×List UInt8×Unit)) (v5:Int) (v6:Int) (o1000000:List (Int×List Int×List UInt8×Unit)):exec EdelH3 1000 (.code (loopAt (bodyOf Try.prog 32) 5).1::.inLoop (loopAt (bodyOf Try.prog 32) 5).1::(loopAt (bodyOf Try.prog 32) 5).2) (EdelH3_s5 v1a_1 v1a_2_1 v1a_2_2_1 v5 v6 o1000000) =
  cond (decide (v6<(↑(List.length o1000000):Int))) (.need ((0:Int)≤v6∧v6<(↑(List.length o1000000):Int)) (.need ((0:Int)≤Prod.fst (List.getD o1000000 (Int.toNat v6) dM)∧Prod.fst (List.getD o1000000 (Int.toNat v6) dM)≤(5:Int)) (cond (!stale v1a_2_1 (List.getD o1000000 (Int.toNat v6) dM)) (.need ((0:Int)≤v5∧v5<(↑(List.length o1000000):Int)) (.need (inK IntKind.i64 (v5+(1:Int))) (.need (inK IntKind.i64 (v6+(1:Int))) (.cut (loopAt (bodyOf Try.prog 32) 5).1 (loopAt (bodyOf Try.prog 32) 5).2 (St.mk [(0,AV.at_ 1000000 []),(1,AV.clo 33 (AV.cons (AV.rptr (Ty.pair (Ty.int IntKind.i64) (Ty.pair Vec (Ty.pair (Ty.hole (Ty.pair (Ty.int IntKind.i64) (Ty.pair Vec (Ty.pair Ty.str Ty.unit)))) Ty.unit))) (v1a_1,v1a_2_1,v1a_2_2_1,())) AV.nil)),(5,AV.val (Ty.int IntKind.i64) (v5+(1:Int))),(6,AV.val (Ty.int IntKind.i64) (v6+(1:Int)))] [(1000000,Ent.own (Ty.slc true (Ty.pair (Ty.int IntKind.i64) (Ty.pair Vec (Ty.pair Ty.str Ty.unit)))) (List.set o1000000 (Int.toNat v5) (List.getD o1000000 (Int.toNat v6) dM)))]))))) (.need (inK IntKind.i64 (v6+(1:Int))) (.cut (loopAt (bodyOf Try.prog 32) 5).1 (loopAt (bodyOf Try.prog 32) 5).2 (St.mk [(0,AV.at_ 1000000 []),(1,AV.clo 33 (AV.cons (AV.rptr (Ty.pair (Ty.int IntKind.i64) (Ty.pair Vec (Ty.pair (Ty.hole (Ty.pair (Ty.int IntKind.i64) (Ty.pair Vec (Ty.pair Ty.str Ty.unit)))) Ty.unit))) (v1a_1,v1a_2_1,v1a_2_2_1,())) AV.nil)),(5,AV.val (Ty.int IntKind.i64) v5),(6,AV.val (Ty.int IntKind.i64) (v6+(1:Int)))] [(1000000,Ent.own (Ty.slc true (Ty.pair (Ty.int IntKind.i64) (Ty.pair Vec (Ty.pair Ty.str Ty.unit)))) o1000000)])))))) (.need ((0:Int)≤v5∧v5≤(↑(List.length o1000000):Int)∧(↑(List.length o1000000):Int)≤(↑(List.length o1000000):Int)) (.need ((0:Int)≤(0:Int)∧(0:Int)≤v5∧v5≤(↑(List.length (List.take (Int.toNat v5) o1000000++List.replicate (Int.toNat ((↑(List.length o1000000):Int) - v5)) dM++List.drop (Int.toNat v5+List.length (List.replicate (Int.toNat ((↑(List.length o1000000):Int) - v5)) dM)) o1000000)):Int)) (.ret ((cut2 (0:Int) v5 (List.take (Int.toNat v5) o1000000++List.replicate (Int.toNat ((↑(List.length o1000000):Int) - v5)) dM++List.drop (Int.toNat v5+List.length (List.replicate (Int.toNat ((↑(List.length o1000000):Int) - v5)) dM)) o1000000),()))))):=by kernel_rfl
theorem cdelH3_valid:cdelH3.Valid Try.prog 32:=by
  refine Ctr.valid_of EdelH3_ok rfl rfl Try.func32 (c:=bodyOf Try.prog 32) rfl rfl FdelH3_ok rfl ?_
  rintro ⟨(l:List (MailD)),⟨⟨(q0:Int),(q1:List Int),(q2:List MailD),⟨⟩⟩,⟨⟩⟩,⟨⟩⟩ hp ⟨⟨hl,-⟩,-⟩
  have hl:l.length≤9223372036854775807:=hl
  have hp:∀ y∈l,InR y:=hp
  refine exec_sound (n:=1000) EdelH3_ok FdelH3_ok ?_
  refine holds_of_eq (EdelH3_t l q0 q1 q2) ?_
  simp only [holds_cond,Tree.holds,true_and,true_implies,decide_eq_true_eq,decide_eq_false_iff_not,Bool.not_eq_true',Bool.not_eq_false',Int.toNat_natCast,inK_i64,List.length_set,List.length_cons,List.length_nil]
  refine ⟨hp,fun _=>⟨fun c=>?_,fun c=>?_⟩⟩
  · show ((l,()):List (MailD)×Unit)=(List.filter (fun y=>!(stale q1) y) l,())
    rw [filter_yes (idxGo_no c)]
  obtain ⟨k,hk,hkl,hk0⟩:=DelInv.start ((0,[0,0,0,0,0,0],[],())) c
  rw [hk]
  refine ⟨by omega,fun _=>?_⟩
  refine Reach.loopI EdelH3_ok FdelH3_ok (fun s:List (MailD)×Nat×Nat=>EdelH3_s5 q0 q1 q2 (s.2.1:Int) (s.2.2:Int) s.1) (fun s=>DelInv (stale q1) l s.1 s.2.1 s.2.2) (fun s=>l.length - s.2.2) 1000 (fun _=>⟨uniq_of rfl,uniq_of rfl⟩) ?_ (l,k,k+1) hk0
  rintro ⟨m,i,j⟩ h0 - ih
  have h0:DelInv (stale q1) l m i j:=h0
  refine holds_of_eq (EdelH3_l5 ..) ?_
  have q1:=h0.len
  have q2:=h0.lt
  have q3:=h0.le
  simp only [holds_cond,Tree.holds,true_and,true_implies,decide_eq_true_eq,decide_eq_false_iff_not,Bool.not_eq_true',Bool.not_eq_false',Int.toNat_natCast,inK_i64,List.length_set,List.length_cons,List.length_nil]
  refine ⟨fun c1=>⟨by omega,fun _=>⟨hp _ (by rw [h0.at_]<;>exact getD_mem (by omega)),fun _=>⟨fun c2=>⟨by omega,fun _=>⟨by omega,fun _=>⟨by omega,fun _=>ih (m.set i (m.getD j ((0,[0,0,0,0,0,0],[],()))),i+1,j+1) (h0.keep (by omega) c2) (by show l.length - (j+1)<l.length - j; omega)⟩⟩⟩,fun c2=>⟨by omega,fun _=>ih (m,i,j+1) (h0.skip (by omega) c2) (by show l.length - (j+1)<l.length - j; omega)⟩⟩⟩⟩,fun c1=>⟨by omega,fun _=>⟨?_,fun _=>?_⟩⟩⟩
  · simp only [List.length_append,List.length_take,List.length_drop,List.length_replicate]; omega
  · exact congrArg (fun y=>(y,())) (h0.fin (by omega))
def cmDel:Ctr:={ ps:=[.own (.slc true Mail),.v I64,.v I64],rs:=[.slc true Mail],pre:=fun x=>LE.le (α:=Int) 0 x.2.1∧LE.le (α:=Int) x.2.1 x.2.2.1∧LE.le (α:=Int) x.2.2.1 (List.length (α:=MailD) x.1),fn:=fun x=>(List.take (α:=MailD) (Int.toNat x.2.1) x.1++List.drop (α:=MailD) (Int.toNat x.2.2.1) x.1,()),out:=fun _=>() }
noncomputable def EmDel:Env:={ P:=Try.prog,tt:=tt,ctr:=[],res:=[Go.ResultVar.tmp 6],rs:=[Ty.slc true (Ty.pair (Ty.int IntKind.i64) (Ty.pair Vec (Ty.pair Ty.str Ty.unit)))],ps:=[PK.own (Ty.slc true (Ty.pair (Ty.int IntKind.i64) (Ty.pair Vec (Ty.pair Ty.str Ty.unit)))),PK.v (Ty.int IntKind.i64),PK.v (Ty.int IntKind.i64)],cuts:=[],nt:=33 }
theorem EmDel_ok:EnvOk EmDel:=envOk tt_ok trivial
theorem FmDel_ok:FnOk EmDel Try.f31:=⟨rfl,rfl⟩
theorem EmDel_t (x0:List (Int×List Int×List UInt8×Unit)) (x1:Int) (x2:Int):exec EmDel 1000 [.code (bodyOf Try.prog 31)] (initSt cmDel.ps ((x0,x1,x2,()))) =
  .need ((0:Int)≤x1∧x1≤x2∧x2≤(↑(List.length x0):Int)∧(↑(List.length x0):Int)≤(↑(List.length x0):Int)) (cond (decide (x1=x2)) (.ret ((x0,()))) (.need ((0:Int)≤(0:Int)∧(0:Int)≤x1∧x1≤(↑(List.length x0):Int)) (.need ((0:Int)≤x2∧x2≤(↑(List.length x0):Int)∧(↑(List.length x0):Int)≤(↑(List.length x0):Int)) (.need (x1+(↑(List.length (cut2 x2 (↑(List.length x0):Int) x0)):Int)≤(↑(List.length x0):Int)) (.need ((0:Int)≤x1+(↑(List.length (cut2 x2 (↑(List.length x0):Int) x0)):Int) - (0:Int)∧x1+(↑(List.length (cut2 x2 (↑(List.length x0):Int) x0)):Int) - (0:Int)≤(↑(List.length x0):Int)∧(0:Int)+(↑(List.length x0):Int)≤(↑(List.length (List.take (Int.toNat x1) x0++cut2 x2 (↑(List.length x0):Int) x0++List.drop (Int.toNat x1+List.length (cut2 x2 (↑(List.length x0):Int) x0)) x0)):Int)) (.ret ((cut2 (0:Int) (x1+(↑(List.length (cut2 x2 (↑(List.length x0):Int) x0)):Int)) (List.take (Int.toNat ((0:Int)+(x1+(↑(List.length (cut2 x2 (↑(List.length x0):Int) x0)):Int) - (0:Int)))) (List.take (Int.toNat x1) x0++cut2 x2 (↑(List.length x0):Int) x0++List.drop (Int.toNat x1+List.length (cut2 x2 (↑(List.length x0):Int) x0)) x0)++List.replicate (Int.toNat ((0:Int)+(↑(List.length x0):Int) - ((0:Int)+(x1+(↑(List.length (cut2 x2 (↑(List.length x0):Int) x0)):Int) - (0:Int))))) dM++List.drop (Int.toNat ((0:Int)+(x1+(↑(List.length (cut2 x2 (↑(List.length x0):Int) x0)):Int) - (0:Int)))+List.length (List.replicate (Int.toNat ((0:Int)+(↑(List.length x0):Int) - ((0:Int)+(x1+(↑(List.length (cut2 x2 (↑(List.length x0):Int) x0)):Int) - (0:Int))))) dM)) (List.take (Int.toNat x1) x0++cut2 x2 (↑(List.length x0):Int) x0++List.drop (Int.toNat x1+List.length (cut2 x2 (↑(List.length x0):Int) x0)) x0)),())))))))):=by kernel_rfl
theorem cmDel_valid:cmDel.Valid Try.prog 31:=by
  refine Ctr.valid_of EmDel_ok rfl rfl Try.func31 (c:=bodyOf Try.prog 31) rfl rfl FmDel_ok rfl ?_
  rintro ⟨(l:List (MailD)),(i:Int),(j:Int),⟨⟩⟩ ⟨(h0:0≤i),(h1:i≤j),(h2:j≤(l.length:Int))⟩ -
  refine exec_sound (n:=1000) EmDel_ok FmDel_ok ?_
  refine holds_of_eq (EmDel_t l i j) ?_
  simp only [holds_cond,Tree.holds,true_and,true_implies,decide_eq_true_eq,decide_eq_false_iff_not,Bool.not_eq_true',Bool.not_eq_false',Int.toNat_natCast,inK_i64,List.length_set,List.length_cons,List.length_nil]
  have hc:=del_len h0 h1 h2 (l:=l)
  have hm:=del_mid h0 h1 h2 (l:=l)
  refine ⟨⟨h0,h1,h2,Int.le_refl _⟩,fun _=>⟨fun e=>?_,fun e=>⟨by omega,fun _=>⟨by omega,fun _=>⟨by omega,fun _=>⟨by omega,fun _=>?_⟩⟩⟩⟩⟩⟩
  · subst e
    show ((l,()):List (MailD)×Unit)=(l.take i.toNat++l.drop i.toNat,())
    rw [List.take_append_drop]
  · exact congrArg (fun y=>(y,())) (del_fin h0 h1 h2 (l:=l))
def c0:CausalD:=(0,[0,0,0,0,0,0],[],())
def hgo:Nat→List Int→List MailD→MailD→List MailD→List Int×List MailD×List MailD
  | 0,s,h,_,l=>(s,h,l)
  | f+1,s,h,m,l =>
    if idxOf (delv (s.set m.1.toNat (s.getD m.1.toNat 0+1))) h<0 then (s.set m.1.toNat (s.getD m.1.toNat 0+1),h,l++[m])
    else hgo f (s.set m.1.toNat (s.getD m.1.toNat 0+1)) (h.take (idxOf (delv (s.set m.1.toNat (s.getD m.1.toNat 0+1))) h).toNat++h.drop (idxOf (delv (s.set m.1.toNat (s.getD m.1.toNat 0+1))) h+1).toNat) (h.getD (idxOf (delv (s.set m.1.toNat (s.getD m.1.toNat 0+1))) h).toNat mail0) (l++[m])
theorem delv_iff {s:List Int} {m:MailD}:delv s m=true↔∀ p:Nat,p<6→((p:Int)=m.1→m.2.1.getD p 0=s.getD p 0+1)∧((p:Int)≠m.1→m.2.1.getD p 0≤s.getD p 0):=by
  rw [delv,Bool.not_eq_true',anyN_no]
  refine forall_congr' (fun p=>forall_congr' (fun hp=>?_))
  rw [dbad]
  by_cases e:(p:Int)=m.1
  · rw [if_pos e]
    constructor
    · intro h; exact ⟨fun _=>by simpa using h,fun h2=>absurd e h2⟩
    · intro h; exact decide_eq_false (by simpa using h.1 e)
  · rw [if_neg e]
    constructor
    · intro h; exact ⟨fun h2=>absurd h2 e,fun _=>by simpa using h⟩
    · intro h; exact decide_eq_false (by have:=h.2 e; omega)
theorem sameM_no {x m:MailD}:sameM x m=false↔(x.1=m.1→x.2.1.getD x.1.toNat 0≠m.2.1.getD m.1.toNat 0):=by
  rw [sameM,Bool.and_eq_false_iff]
  constructor
  · rintro (h|h) e
    · exact absurd e (of_decide_eq_false h)
    · exact of_decide_eq_false h
  · intro h
    by_cases e:x.1=m.1
    · exact .inr (decide_eq_false (h e))
    · exact .inl (decide_eq_false e)
def bump (s:List Int) (m:MailD):List Int:=s.set m.1.toNat (s.getD m.1.toNat 0+1)
theorem bump_get {s:List Int} {m:MailD} (hs:s.length=6) (hm:InR m) (i:Nat):(bump s m).getD i 0=s.getD i 0+(if i=m.1.toNat then 1 else 0):=by
  rw [bump,getD_set (by have:=hm.1; have:=hm.2; omega)]
  split
  · rename_i e; rw [e]
  · omega
structure Held (s:List Int) (h:List MailD) (m:MailD):Prop where
  len:s.length=6
  nn:∀ i,0≤s.getD i 0
  mok:formed m=true∧RM m
  del:delv s m=true
  hok:∀ x∈h,formed x=true∧RM x∧s.getD x.1.toNat 0<x.2.1.getD x.1.toNat 0∧sameM x m=false
  dis:h.Pairwise (fun x y=>sameM x y=false∧sameM y x=false)
theorem Held.num {s:List Int} {h:List MailD} {m:MailD} (H:Held s h m):m.2.1.getD m.1.toNat 0=s.getD m.1.toNat 0+1:=by
  have hm:=formed_in H.mok.1
  have h1:=hm.1
  have h2:=hm.2
  exact (delv_iff.1 H.del m.1.toNat (by omega)).1 (by omega)
theorem Held.above {s:List Int} {h:List MailD} {m:MailD} (H:Held s h m) {x:MailD} (hx:x∈h):(bump s m).getD x.1.toNat 0<x.2.1.getD x.1.toNat 0:=by
  obtain ⟨k1,k2,k3,k4⟩:=H.hok x hx
  have hm:=formed_in H.mok.1
  have hx:=formed_in k1
  have h1:=hm.1
  have h2:=hx.1
  rw [bump_get H.len hm]
  split
  · rename_i e
    have e2:x.1=m.1:=by omega
    have h4:=sameM_no.1 k4 e2
    have h5:=H.num
    rw [e2] at h4 k3 ⊢
    omega
  · omega
theorem Held.next {s:List Int} {h:List MailD} {m:MailD} (H:Held s h m) {k:Nat} (hk:k<h.length) (hd:delv (bump s m) (h.getD k mail0)=true):Held (bump s m) (h.take k++h.drop (k+1)) (h.getD k mail0):=by
  have hm:=formed_in H.mok.1
  have hmem:=getD_mem (d:=mail0) hk
  obtain ⟨k1,k2,k3,k4⟩:=H.hok _ hmem
  have hp:=H.dis
  rw [← List.take_append_drop k h,drop_getD hk mail0,List.pairwise_append] at hp
  obtain ⟨p1,p2,p3⟩:=hp
  rw [List.pairwise_cons] at p2
  refine ⟨by rw [bump,List.length_set]; exact H.len,fun i=>?_,⟨k1,k2⟩,hd,fun x hx=>?_,?_⟩
  · rw [bump_get H.len hm]
    have:=H.nn i
    split<;>omega
  · have hx2:x∈h∧sameM x (h.getD k mail0)=false:=by
      rcases List.mem_append.1 hx with h1|h1
      · exact ⟨List.mem_of_mem_take h1,(p3 x h1 _ (by simp)).1⟩
      · exact ⟨List.mem_of_mem_drop h1,(p2.1 x h1).2⟩
    obtain ⟨q1,q2,_,_⟩:=H.hok x hx2.1
    exact ⟨q1,q2,H.above hx2.1,hx2.2⟩
  · exact List.pairwise_append.2 ⟨p1,p2.2,fun a ha b hb=>p3 a ha b (by simp [hb])⟩
structure COk (c:CausalD):Prop where
  me:0≤c.1∧c.1≤5
  nn:c.2.1.any neg=false
  len:c.2.2.1.length≤40
  row:∀ i,i<c.2.2.1.length→hbad c i=false
theorem ccheck_iff {c:CausalD}:ccheck c=0↔COk c:=by
  rw [ccheck]
  constructor
  · intro h
    split at h; · omega
    rename_i a
    split at h; · omega
    rename_i b
    split at h; · omega
    rename_i d
    split at h; · omega
    rename_i e
    exact ⟨inF_iff.1 (by simpa using a),by simpa using b,by omega,anyN_no.1 (by simpa using e)⟩
  · rintro ⟨h1,h2,h3,h4⟩
    rw [if_neg (tnf (inF_iff.2 h1)),if_neg (by rw [h2]; simp),if_neg (by omega),if_neg (by rw [anyN_no.2 h4]; simp)]
theorem hbad_iff {c:CausalD} {i:Nat}:hbad c i=false↔formed (c.2.2.1.getD i mail0)=true∧(c.2.2.1.getD i mail0).1≠c.1∧c.2.1.getD (c.2.2.1.getD i mail0).1.toNat 0<(c.2.2.1.getD i mail0).2.1.getD (c.2.2.1.getD i mail0).1.toNat 0∧delv c.2.1 (c.2.2.1.getD i mail0)=false∧∀ y∈c.2.2.1.take i,sameM y (c.2.2.1.getD i mail0)=false:=by
  rw [hbad]
  simp only [Bool.or_eq_false_iff,Bool.not_eq_false',decide_eq_false_iff_not,List.any_eq_false,Int.not_le]
  constructor
  · rintro ⟨⟨⟨⟨h1,h2⟩,h3⟩,h4⟩,h5⟩; exact ⟨h1,h2,h3,h4,fun y hy=>by simpa using h5 y hy⟩
  · rintro ⟨h1,h2,h3,h4,h5⟩; exact ⟨⟨⟨⟨h1,h2⟩,h3⟩,h4⟩,fun y hy=>by simpa using h5 y hy⟩
theorem COk.mem {c:CausalD} (h:COk c) {x:MailD} (hx:x∈c.2.2.1):formed x=true∧x.1≠c.1∧c.2.1.getD x.1.toNat 0<x.2.1.getD x.1.toNat 0∧delv c.2.1 x=false:=by
  obtain ⟨i,hi,rfl⟩:=mem_getD (d:=mail0) hx
  obtain ⟨h1,h2,h3,h4,_⟩:=hbad_iff.1 (h.row i hi)
  exact ⟨h1,h2,h3,h4⟩
theorem sameM_comm {x y:MailD}:sameM x y=sameM y x:=by
  rw [sameM,sameM]
  congr 1
  · exact decide_eq_decide.2 ⟨Eq.symm,Eq.symm⟩
  · exact decide_eq_decide.2 ⟨Eq.symm,Eq.symm⟩
theorem COk.dis {c:CausalD} (h:COk c):c.2.2.1.Pairwise (fun x y=>sameM x y=false∧sameM y x=false):=by
  rw [List.pairwise_iff_getElem]
  intro i j hi hj hij
  have:=(hbad_iff.1 (h.row j hj)).2.2.2.2 (c.2.2.1.getD i mail0) (by
    rw [List.mem_take_iff_getElem]
    exact ⟨i,by omega,by rw [List.getD_eq_getElem?_getD,List.getElem?_eq_getElem hi]; rfl⟩)
  rw [List.getD_eq_getElem?_getD,List.getElem?_eq_getElem hi,List.getD_eq_getElem?_getD,List.getElem?_eq_getElem hj] at this
  have h2:sameM c.2.2.1[i] c.2.2.1[j]=false:=this
  exact ⟨h2,by rw [sameM_comm]; exact h2⟩
theorem COk.held {c:CausalD} {m:MailD} (h:COk c) (hs:c.2.1.length=6) (hr:∀ x∈c.2.2.1,RM x) (hm:formed m=true) (hmr:RM m) (hd:delv c.2.1 m=true) (hn:c.2.2.1.any (fun y=>sameM y m)=false):Held c.2.1 c.2.2.1 m :=
  ⟨hs,any_neg h.nn,⟨hm,hmr⟩,hd,fun x hx=>⟨(h.mem hx).1,hr x hx,(h.mem hx).2.2.1,by have:=List.any_eq_false.1 hn x hx; simpa using this⟩,h.dis⟩
theorem hgo_step {f:Nat} {s:List Int} {h:List MailD} {m:MailD} {l:List MailD}:hgo (f+1) s h m l=if idxOf (delv (bump s m)) h<0 then (bump s m,h,l++[m]) else hgo f (bump s m) (h.take (idxOf (delv (bump s m)) h).toNat++h.drop (idxOf (delv (bump s m)) h+1).toNat) (h.getD (idxOf (delv (bump s m)) h).toNat mail0) (l++[m]):=rfl
def chear (c:CausalD) (m:MailD):CausalD×List MailD×Int×Unit :=
  if ccheck c≠0 then (c0,[],ccheck c,()) else if formed m=false then (c0,[],1,()) else
  if m.1=c.1 then (c,[],0,()) else if m.2.1.getD m.1.toNat 0≤c.2.1.getD m.1.toNat 0 then (c,[],0,()) else if c.2.2.1.any (fun y=>sameM y m)=true then (c,[],0,()) else
  if delv c.2.1 m=false then (if (c.2.2.1.length:Int)=40 then (c0,[],8,()) else ((c.1,c.2.1,c.2.2.1++[m],()),[],0,())) else
  ((c.1,(hgo (c.2.2.1.length+1) c.2.1 c.2.2.1 m []).1,(hgo (c.2.2.1.length+1) c.2.1 c.2.2.1 m []).2.1.filter (fun x=>!stale (hgo (c.2.2.1.length+1) c.2.1 c.2.2.1 m []).1 x),()),(hgo (c.2.2.1.length+1) c.2.1 c.2.2.1 m []).2.2,0,())
def cchear:Ctr:={ ps:=[.v Causal,.v Mail],rs:=[CausalO,.slc true Mail,I64],pre:=fun _=>True,fn:=fun x=>chear x.1 x.2.1,out:=fun _=>() }
noncomputable def Echear:Env:={ P:=Try.prog,tt:=tt,ctr:=[(22,cccheck),(24,cformed),(23,ccclone),(25,ccontH1),(28,cdelv),(29,cidxH2),(31,cmDel),(32,cdelH3)],res:=[Go.ResultVar.cell 4 40,Go.ResultVar.tmp 5,Go.ResultVar.tmp 6],rs:=[Ty.pair (Ty.int IntKind.i64) (Ty.pair Vec (Ty.pair (Ty.slc true (Ty.pair (Ty.int IntKind.i64) (Ty.pair Vec (Ty.pair Ty.str Ty.unit)))) Ty.unit)),Ty.slc true (Ty.pair (Ty.int IntKind.i64) (Ty.pair Vec (Ty.pair Ty.str Ty.unit))),Ty.int IntKind.i64],ps:=[PK.v (Ty.pair (Ty.int IntKind.i64) (Ty.pair Vec (Ty.pair (Ty.slc false (Ty.pair (Ty.int IntKind.i64) (Ty.pair Vec (Ty.pair Ty.str Ty.unit)))) Ty.unit))),PK.v (Ty.pair (Ty.int IntKind.i64) (Ty.pair Vec (Ty.pair Ty.str Ty.unit)))],cuts:=[(15,[(3,none),(4,none),(8,none),(9,some (Ty.slc true (Ty.pair (Ty.int IntKind.i64) (Ty.pair Vec (Ty.pair Ty.str Ty.unit)))))])],nt:=102 }
theorem Echear_ok:EnvOk Echear:=envOk tt_ok ⟨cccheck_valid,cformed_valid,ccclone_valid,ccontH1_valid,cdelv_valid,cidxH2_valid,cmDel_valid,cdelH3_valid,trivial⟩
theorem Fchear_ok:FnOk Echear Try.f10:=⟨rfl,rfl⟩
theorem Echear_t (x0_1:Int) (x0_2_1:List Int) (x0_2_2_1:List (Int×List Int×List UInt8×Unit)) (x1_1:Int) (x1_2_1:List Int) (x1_2_2_1:List UInt8):exec Echear 1000 [.code (bodyOf Try.prog 10)] (initSt cchear.ps (((x0_1,x0_2_1,x0_2_2_1,()),(x1_1,x1_2_1,x1_2_2_1,()),()))) =
  .need (True) (cond (decide (ccheck (x0_1,x0_2_1,x0_2_2_1,())≠(0:Int))) (.ret ((((0:Int),[(0:Int),(0:Int),(0:Int),(0:Int),(0:Int),(0:Int)],[],()),[],ccheck (x0_1,x0_2_1,x0_2_2_1,()),()))) (.need (True) (cond (!formed (x1_1,x1_2_1,x1_2_2_1,())) (.ret ((((0:Int),[(0:Int),(0:Int),(0:Int),(0:Int),(0:Int),(0:Int)],[],()),[],(1:Int),()))) (.need (List.length x0_2_2_1≤1048576) (cond (decide (x1_1=x0_1)) (.ret (((x0_1,x0_2_1,x0_2_2_1,()),[],(0:Int),()))) (.need ((0:Int)≤x1_1∧x1_1<(↑6:Int)) (.need ((0:Int)≤x1_1∧x1_1<(↑6:Int)) (cond (decide (List.getD x1_2_1 (Int.toNat x1_1) (0:Int)≤List.getD x0_2_1 (Int.toNat x1_1) (0:Int))) (.ret (((x0_1,x0_2_1,x0_2_2_1,()),[],(0:Int),()))) (.need (allR x0_2_2_1 (x1_1,x1_2_1,x1_2_2_1,())) (cond (List.any x0_2_2_1 fun y=>sameM y (x1_1,x1_2_1,x1_2_2_1,())) (.ret (((x0_1,x0_2_1,x0_2_2_1,()),[],(0:Int),()))) (.need ((0:Int)≤List.getD x0_2_1 (Int.toNat x1_1) (0:Int)∧List.getD x0_2_1 (Int.toNat x1_1) (0:Int)≤(9223372036854775806:Int)) (cond (!delv x0_2_1 (x1_1,x1_2_1,x1_2_2_1,())) (cond (decide ((↑(List.length x0_2_2_1):Int)=(40:Int))) (.ret ((((0:Int),[(0:Int),(0:Int),(0:Int),(0:Int),(0:Int),(0:Int)],[],()),[],(8:Int),()))) (.need (True∧[]++[Step.fld 2]=[]++[Step.fld 2]∧List.length x0_2_2_1+List.length (List.set [((0:Int),[(0:Int),(0:Int),(0:Int),(0:Int),(0:Int),(0:Int)],[],())] (Int.toNat (↑0:Int)) (x1_1,x1_2_1,x1_2_2_1,()))≤140737488355328∧(List.length x0_2_2_1+List.length (List.set [((0:Int),[(0:Int),(0:Int),(0:Int),(0:Int),(0:Int),(0:Int)],[],())] (Int.toNat (↑0:Int)) (x1_1,x1_2_1,x1_2_2_1,())))*Ty.wb (Ty.pair (Ty.int IntKind.i64) (Ty.pair Vec (Ty.pair Ty.str Ty.unit)))≤140737488355328) (.ret (((x0_1,x0_2_1,x0_2_2_1++List.set [((0:Int),[(0:Int),(0:Int),(0:Int),(0:Int),(0:Int),(0:Int)],[],())] (Int.toNat (↑0:Int)) (x1_1,x1_2_1,x1_2_2_1,()),()),[],(0:Int),()))))) (.cut (loopAt (bodyOf Try.prog 10) 15).1 (loopAt (bodyOf Try.prog 10) 15).2 (St.mk [(3,AV.ptr 3 []),(4,AV.ptr 4 []),(8,AV.ptr 8 []),(9,AV.at_ 1000009 [])] [(3,Ent.var (Ty.pair (Ty.int IntKind.i64) (Ty.pair Vec (Ty.pair Ty.str Ty.unit))) (x1_1,x1_2_1,x1_2_2_1,())),(4,Ent.var (Ty.pair (Ty.int IntKind.i64) (Ty.pair Vec (Ty.pair (Ty.slc true (Ty.pair (Ty.int IntKind.i64) (Ty.pair Vec (Ty.pair Ty.str Ty.unit)))) Ty.unit))) ((0:Int),[(0:Int),(0:Int),(0:Int),(0:Int),(0:Int),(0:Int)],[],())),(8,Ent.var (Ty.pair (Ty.int IntKind.i64) (Ty.pair Vec (Ty.pair (Ty.slc true (Ty.pair (Ty.int IntKind.i64) (Ty.pair Vec (Ty.pair Ty.str Ty.unit)))) Ty.unit))) (x0_1,x0_2_1,x0_2_2_1,())),(1000009,Ent.own (Ty.slc true (Ty.pair (Ty.int IntKind.i64) (Ty.pair Vec (Ty.pair Ty.str Ty.unit)))) [])])))))))))))))):=by kernel_rfl
def Echear_s15 (o3_1:Int) (o3_2_1:List Int) (o3_2_2_1:List UInt8) (o4_1:Int) (o4_2_1:List Int) (o4_2_2_1:List (Int×List Int×List UInt8×Unit)) (o8_1:Int) (o8_2_1:List Int) (o8_2_2_1:List (Int×List Int×List UInt8×Unit)) (o1000009:List (Int×List Int×List UInt8×Unit)):St:=St.mk [(3,AV.ptr 3 []),(4,AV.ptr 4 []),(8,AV.ptr 8 []),(9,AV.at_ 1000009 [])] [(3,Ent.var (Ty.pair (Ty.int IntKind.i64) (Ty.pair Vec (Ty.pair Ty.str Ty.unit))) (o3_1,o3_2_1,o3_2_2_1,())),(4,Ent.var (Ty.pair (Ty.int IntKind.i64) (Ty.pair Vec (Ty.pair (Ty.slc true (Ty.pair (Ty.int IntKind.i64) (Ty.pair Vec (Ty.pair Ty.str Ty.unit)))) Ty.unit))) (o4_1,o4_2_1,o4_2_2_1,())),(8,Ent.var (Ty.pair (Ty.int IntKind.i64) (Ty.pair Vec (Ty.pair (Ty.slc true (Ty.pair (Ty.int IntKind.i64) (Ty.pair Vec (Ty.pair Ty.str Ty.unit)))) Ty.unit))) (o8_1,o8_2_1,o8_2_2_1,())),(1000009,Ent.own (Ty.slc true (Ty.pair (Ty.int IntKind.i64) (Ty.pair Vec (Ty.pair Ty.str Ty.unit)))) o1000009)]
theorem Echear_l15 (o3_1:Int) (o3_2_1:List Int) (o3_2_2_1:List UInt8) (o4_1:Int) (o4_2_1:List Int) (o4_2_2_1:List (Int×List Int×List UInt8×Unit)) (o8_1:Int) (o8_2_1:List Int) (o8_2_2_1:List (Int×List Int×List UInt8×Unit)) (o1000009:List (Int×List Int×List UInt8×Unit)):exec Echear 1000 (.code (loopAt (bodyOf Try.prog 10) 15).1::.inLoop (loopAt (bodyOf Try.prog 10) 15).1::(loopAt (bodyOf Try.prog 10) 15).2) (Echear_s15 o3_1 o3_2_1 o3_2_2_1 o4_1 o4_2_1 o4_2_2_1 o8_1 o8_2_1 o8_2_2_1 o1000009) =
  .need ((0:Int)≤o3_1∧o3_1<(↑6:Int)) (.need (inK IntKind.i64 (List.getD o8_2_1 (Int.toNat o3_1) (0:Int)+(1:Int))) (.need ((0:Int)≤o3_1∧o3_1<(↑6:Int)) (.need (List.length o1000009+List.length (List.set [((0:Int),[(0:Int),(0:Int),(0:Int),(0:Int),(0:Int),(0:Int)],[],())] (Int.toNat (↑0:Int)) (o3_1,o3_2_1,o3_2_2_1,()))≤140737488355328∧(List.length o1000009+List.length (List.set [((0:Int),[(0:Int),(0:Int),(0:Int),(0:Int),(0:Int),(0:Int)],[],())] (Int.toNat (↑0:Int)) (o3_1,o3_2_1,o3_2_2_1,())))*Ty.wb (Ty.pair (Ty.int IntKind.i64) (Ty.pair Vec (Ty.pair Ty.str Ty.unit)))≤140737488355328) (.need (∀ (y:MailD),y∈o8_2_2_1→nextOk (List.set o8_2_1 (Int.toNat o3_1) (List.getD o8_2_1 (Int.toNat o3_1) (0:Int)+(1:Int))) y) (cond (decide (idxOf (delv (List.set o8_2_1 (Int.toNat o3_1) (List.getD o8_2_1 (Int.toNat o3_1) (0:Int)+(1:Int)))) o8_2_2_1<(0:Int))) (.need (True∧[]++[Step.fld 2]=[]++[Step.fld 2]∧∀ (y:MailD),y∈o8_2_2_1→InR y) (.ret (((o8_1,List.set o8_2_1 (Int.toNat o3_1) (List.getD o8_2_1 (Int.toNat o3_1) (0:Int)+(1:Int)),List.filter (fun y=>!stale (List.set o8_2_1 (Int.toNat o3_1) (List.getD o8_2_1 (Int.toNat o3_1) (0:Int)+(1:Int))) y) o8_2_2_1,()),o1000009++List.set [((0:Int),[(0:Int),(0:Int),(0:Int),(0:Int),(0:Int),(0:Int)],[],())] (Int.toNat (↑0:Int)) (o3_1,o3_2_1,o3_2_2_1,()),(0:Int),())))) (.need ((0:Int)≤idxOf (delv (List.set o8_2_1 (Int.toNat o3_1) (List.getD o8_2_1 (Int.toNat o3_1) (0:Int)+(1:Int)))) o8_2_2_1∧idxOf (delv (List.set o8_2_1 (Int.toNat o3_1) (List.getD o8_2_1 (Int.toNat o3_1) (0:Int)+(1:Int)))) o8_2_2_1<(↑(List.length o8_2_2_1):Int)) (.need (inK IntKind.i64 (idxOf (delv (List.set o8_2_1 (Int.toNat o3_1) (List.getD o8_2_1 (Int.toNat o3_1) (0:Int)+(1:Int)))) o8_2_2_1+(1:Int))) (.need (True∧[]++[Step.fld 2]=[]++[Step.fld 2]∧(0:Int)≤idxOf (delv (List.set o8_2_1 (Int.toNat o3_1) (List.getD o8_2_1 (Int.toNat o3_1) (0:Int)+(1:Int)))) o8_2_2_1∧idxOf (delv (List.set o8_2_1 (Int.toNat o3_1) (List.getD o8_2_1 (Int.toNat o3_1) (0:Int)+(1:Int)))) o8_2_2_1≤idxOf (delv (List.set o8_2_1 (Int.toNat o3_1) (List.getD o8_2_1 (Int.toNat o3_1) (0:Int)+(1:Int)))) o8_2_2_1+(1:Int)∧idxOf (delv (List.set o8_2_1 (Int.toNat o3_1) (List.getD o8_2_1 (Int.toNat o3_1) (0:Int)+(1:Int)))) o8_2_2_1+(1:Int)≤(↑(List.length o8_2_2_1):Int)) (.cut (loopAt (bodyOf Try.prog 10) 15).1 (loopAt (bodyOf Try.prog 10) 15).2 (St.mk [(3,AV.ptr 3 []),(4,AV.ptr 4 []),(8,AV.ptr 8 []),(9,AV.at_ 1000009 [])] [(3,Ent.var (Ty.pair (Ty.int IntKind.i64) (Ty.pair Vec (Ty.pair Ty.str Ty.unit))) (List.getD o8_2_2_1 (Int.toNat (idxOf (delv (List.set o8_2_1 (Int.toNat o3_1) (List.getD o8_2_1 (Int.toNat o3_1) (0:Int)+(1:Int)))) o8_2_2_1)) ((0:Int),[(0:Int),(0:Int),(0:Int),(0:Int),(0:Int),(0:Int)],[],()))),(4,Ent.var (Ty.pair (Ty.int IntKind.i64) (Ty.pair Vec (Ty.pair (Ty.slc true (Ty.pair (Ty.int IntKind.i64) (Ty.pair Vec (Ty.pair Ty.str Ty.unit)))) Ty.unit))) (o4_1,o4_2_1,o4_2_2_1,())),(8,Ent.var (Ty.pair (Ty.int IntKind.i64) (Ty.pair Vec (Ty.pair (Ty.slc true (Ty.pair (Ty.int IntKind.i64) (Ty.pair Vec (Ty.pair Ty.str Ty.unit)))) Ty.unit))) (o8_1,List.set o8_2_1 (Int.toNat o3_1) (List.getD o8_2_1 (Int.toNat o3_1) (0:Int)+(1:Int)),List.take (Int.toNat (idxOf (delv (List.set o8_2_1 (Int.toNat o3_1) (List.getD o8_2_1 (Int.toNat o3_1) (0:Int)+(1:Int)))) o8_2_2_1)) o8_2_2_1++List.drop (Int.toNat (idxOf (delv (List.set o8_2_1 (Int.toNat o3_1) (List.getD o8_2_1 (Int.toNat o3_1) (0:Int)+(1:Int)))) o8_2_2_1+(1:Int))) o8_2_2_1,())),(1000009,Ent.own (Ty.slc true (Ty.pair (Ty.int IntKind.i64) (Ty.pair Vec (Ty.pair Ty.str Ty.unit)))) (o1000009++List.set [((0:Int),[(0:Int),(0:Int),(0:Int),(0:Int),(0:Int),(0:Int)],[],())] (Int.toNat (↑0:Int)) (o3_1,o3_2_1,o3_2_2_1,())))])))))))))):=by kernel_rfl
theorem cchear_valid:cchear.Valid Try.prog 10:=by
  refine Ctr.valid_of Echear_ok rfl rfl Try.func10 (c:=bodyOf Try.prog 10) rfl rfl Fchear_ok rfl ?_
  rintro ⟨⟨(me:Int),(s:List Int),(h:List MailD),⟨⟩⟩,⟨(f:Int),(a:List Int),(t:List UInt8),⟨⟩⟩,⟨⟩⟩ - ⟨⟨-,⟨hsl,-⟩,⟨hl,hlr⟩,-⟩,⟨-,⟨hal,har⟩,-⟩,-⟩
  have hrm:∀ x∈h,RM x:=fun x hx=>rm_of (hlr x hx)
  have hmr:RM (f,a,t,()):=⟨hal,fun n hn=>(har n hn).2⟩
  have hsl:s.length=6:=hsl
  refine exec_sound (n:=1000) Echear_ok Fchear_ok ?_
  refine holds_of_eq (Echear_t me s h f a t) ?_
  have key:∀ {y:CausalD×List MailD×Int×Unit},chear (me,s,h,()) (f,a,t,())=y→y=chear (me,s,h,()) (f,a,t,()):=fun h=>h.symm
  have hd:chear (me,s,h,()) (f,a,t,())=if ccheck (me,s,h,())≠0 then (c0,[],ccheck (me,s,h,()),()) else if formed (f,a,t,())=false then (c0,[],1,()) else
    if f=me then ((me,s,h,()),[],0,()) else if a.getD f.toNat 0≤s.getD f.toNat 0 then ((me,s,h,()),[],0,()) else if h.any (fun y=>sameM y (f,a,t,()))=true then ((me,s,h,()),[],0,()) else
    if delv s (f,a,t,())=false then (if (h.length:Int)=40 then (c0,[],8,()) else ((me,s,h++[(f,a,t,())],()),[],0,())) else
    ((me,(hgo (h.length+1) s h (f,a,t,()) []).1,(hgo (h.length+1) s h (f,a,t,()) []).2.1.filter (fun x=>!stale (hgo (h.length+1) s h (f,a,t,()) []).1 x),()),(hgo (h.length+1) s h (f,a,t,()) []).2.2,0,()):=rfl
  have hw:Ty.wb (.pair (.int .i64) (.pair (.arr 6 (.int .i64)) (.pair .str .unit)))=72:=rfl
  simp only [holds_cond,Tree.holds,true_and,true_implies,decide_eq_true_eq,decide_eq_false_iff_not,Bool.not_eq_true',Bool.not_eq_false',Int.toNat_natCast,inK_i64,List.length_set,List.length_cons,List.length_nil,hw]
  refine ⟨fun e=>key (by rw [hd,if_pos e]<;>rfl),fun e=>?_⟩
  have hok:=ccheck_iff.1 (Decidable.not_not.1 e)
  have hlen:h.length≤40:=hok.len
  have hnn:∀ i,0≤s.getD i 0:=any_neg hok.nn
  rw [if_neg e] at hd
  refine ⟨fun e1=>key (by rw [hd,if_pos e1]<;>rfl),fun e1=>⟨by omega,fun _=>?_⟩⟩
  have hin:InR (f,a,t,()):=formed_in e1
  have hf1:0≤f:=hin.1
  have hf2:f≤5:=hin.2
  rw [if_neg (tnf e1)] at hd
  refine ⟨fun e2=>key (by rw [hd,if_pos e2]<;>rfl),fun e2=>⟨by omega,fun _=>⟨by omega,fun _=>?_⟩⟩⟩
  rw [if_neg e2] at hd
  have hmx:a.getD f.toNat 0≤9223372036854775807:=hmr.get f.toNat
  have hnf:=hnn f.toNat
  refine ⟨fun e3=>key (by rw [hd,if_pos e3]<;>rfl),fun e3=>⟨⟨fun x hx=>formed_in (hok.mem hx).1,hin⟩,fun _=>?_⟩⟩
  rw [if_neg e3] at hd
  refine ⟨fun e4=>key (by rw [hd,if_pos e4]<;>rfl),fun e4=>⟨⟨hnf,by omega⟩,fun _=>?_⟩⟩
  rw [if_neg (by rw [e4]; simp)] at hd
  refine ⟨fun e5=>?_,fun e5=>?_⟩
  · rw [if_pos e5] at hd
    refine ⟨fun e6=>key (by rw [hd,if_pos e6]<;>rfl),fun e6=>⟨⟨by omega,by omega⟩,fun _=>key (by rw [hd,if_neg e6]<;>rfl)⟩⟩
  rw [if_neg (tnf e5)] at hd
  have hheld:Held s h (f,a,t,()):=hok.held hsl hrm e1 hmr e5 e4
  refine Reach.loopI Echear_ok Fchear_ok (fun x:MailD×List Int×List MailD×List MailD=>Echear_s15 x.1.1 x.1.2.1 x.1.2.2.1 0 [0,0,0,0,0,0] [] me x.2.1 x.2.2.1 x.2.2.2) (fun x=>Held x.2.1 x.2.2.1 x.1∧x.2.2.2.length+x.2.2.1.length≤40∧hgo (x.2.2.1.length+1) x.2.1 x.2.2.1 x.1 x.2.2.2=hgo (h.length+1) s h (f,a,t,()) []) (fun x=>x.2.2.1.length) 1000 (fun _=>⟨uniq_of rfl,uniq_of rfl⟩) ?_ ((f,a,t,()),s,h,[]) ⟨hheld,by show 0+h.length≤40; omega,rfl⟩
  rintro ⟨m,q,g,l⟩ ⟨k1,k2,k3⟩ - ih
  have k1:Held q g m:=k1
  have k2:l.length+g.length≤40:=k2
  have k3:hgo (g.length+1) q g m l=hgo (h.length+1) s h (f,a,t,()) []:=k3
  refine holds_of_eq (Echear_l15 ..) ?_
  obtain ⟨mf,ma,mt,⟨⟩⟩:=m
  have hmin:=formed_in k1.mok.1
  have hm1:0≤mf:=hmin.1
  have hm2:mf≤5:=hmin.2
  have hnum:ma.getD mf.toNat 0=q.getD mf.toNat 0+1:=k1.num
  have hmx2:ma.getD mf.toNat 0≤9223372036854775807:=k1.mok.2.get mf.toNat
  have hq0:=k1.nn mf.toNat
  have hbump:q.set mf.toNat (q.getD mf.toNat 0+1)=bump q (mf,ma,mt,()):=rfl
  rw [← k3,hgo_step] at hd
  simp only [holds_cond,Tree.holds,true_and,true_implies,decide_eq_true_eq,decide_eq_false_iff_not,Bool.not_eq_true',Bool.not_eq_false',Int.toNat_natCast,inK_i64,List.length_set,List.length_cons,List.length_nil,hw,hbump]
  refine ⟨by omega,fun _=>⟨by omega,fun _=>⟨by omega,fun _=>⟨⟨by omega,by omega⟩,fun _=>⟨fun y hy=>?_,fun _=>⟨fun c=>⟨fun y hy=>formed_in (k1.hok y hy).1,fun _=>key ?_⟩,fun c=>?_⟩⟩⟩⟩⟩⟩
  · have h1:(bump q (mf,ma,mt,())).getD y.1.toNat 0<y.2.1.getD y.1.toNat 0:=k1.above hy
    have h2:=(k1.hok y hy).2.1.get y.1.toNat
    refine ⟨?_,by omega⟩
    rw [bump_get k1.len hmin]
    have:=k1.nn y.1.toNat
    split<;>omega
  · rw [hd,if_pos c]<;>rfl
  · obtain ⟨k,hk,hkl,hdk,_⟩:=idxGo_at (p:=delv (bump q (mf,ma,mt,()))) (d:=mail0) (l:=g) (j:=0) (by show idxOf _ g≠-1; omega)
    have hk:idxOf (delv (bump q (mf,ma,mt,()))) g=(k:Int):=by rw [idxOf,hk]; omega
    rw [hk] at hd ⊢
    rw [if_neg (by omega)] at hd
    have hlen2:(g.take k++g.drop (k+1)).length+1=g.length:=by rw [List.length_append,List.length_take,List.length_drop]; omega
    have next:=ih (g.getD k mail0,bump q (mf,ma,mt,()),g.take k++g.drop (k+1),l++[(mf,ma,mt,())]) ⟨k1.next hkl hdk,by show (l++[(mf,ma,mt,())]).length+(g.take k++g.drop (k+1)).length≤40; rw [List.length_append,List.length_singleton]; omega,by
      show hgo ((g.take k++g.drop (k+1)).length+1) (bump q (mf,ma,mt,())) (g.take k++g.drop (k+1)) (g.getD k mail0) (l++[(mf,ma,mt,())])=_
      rw [hlen2,← k3,hgo_step,hk,if_neg (by omega),show ((k:Int)+1).toNat=k+1 by omega]; rfl⟩ (by show (g.take k++g.drop (k+1)).length<g.length; omega)
    rw [show ((k:Int)+1).toNat=k+1 by omega]
    exact ⟨by omega,fun _=>⟨by omega,fun _=>⟨by omega,fun _=>next⟩⟩⟩
end Go.Proofs.Ytgmbfnlhmnpciaa
