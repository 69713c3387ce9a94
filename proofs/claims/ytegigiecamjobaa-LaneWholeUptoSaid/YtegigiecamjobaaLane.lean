/- The contracts of the package lane's functions. -/
import Derived.Test.YtegigiecamjobaaBase
namespace Go.Proofs.Ytegigiecamjobaa
open Go.Ex
set_option maxRecDepth 100000
def firstE (f:Nat→Int):Nat→Int
  | 0=>0
  | k+1=>if firstE f k≠0 then firstE f k else f k
theorem firstE_stop {f:Nat→Int} {k:Nat} (h0:firstE f k=0) (h1:f k≠0):∀ {n:Nat},k<n→firstE f n=f k
  | 0,h=>by omega
  | n+1,h=>by
    by_cases e:k=n
    · subst e; simp [firstE,h0]
    · have:=firstE_stop h0 h1 (n:=n) (by omega)
      simp [firstE,this,h1]
theorem firstE_step {f:Nat→Int} {k:Nat} (h0:firstE f k=0) (h1:f k=0):firstE f (k+1)=0:=by simp [firstE,h0,h1]
theorem firstE_zero {f:Nat→Int}:∀ {n:Nat},firstE f n=0↔∀ k,k<n→f k=0
  | 0=>by simp [firstE]
  | n+1=>by
    constructor
    · intro h k hk
      have h2:firstE f n=0:=by
        by_cases e:firstE f n=0
        · exact e
        · rw [firstE,if_pos e] at h; exact absurd h e
      by_cases e:k=n
      · subst e; simpa [firstE,h2] using h
      · exact firstE_zero.1 h2 k (by omega)
    · intro h
      exact firstE_step (firstE_zero.2 (fun k hk=>h k (by omega))) (h n (by omega))
abbrev ParcelD:=Int×List UInt8×Unit
abbrev FromD:=Int×List (List UInt8)×Unit
abbrev ToD:=Int×List ParcelD×Unit
def clin:Ctr:={ ps:=[.v I64,.v I64,.v I64],rs:=[.bool],pre:=fun _=>True,fn:=fun x=>(inF x.1 x.2.1 x.2.2.1,()),out:=fun _=>() }
noncomputable def Elin:Env:={ P:=Try.prog,tt:=tt,ctr:=[],res:=[Go.ResultVar.tmp 6],rs:=[Ty.bool],ps:=[PK.v (Ty.int IntKind.i64),PK.v (Ty.int IntKind.i64),PK.v (Ty.int IntKind.i64)],cuts:=[],nt:=15 }
theorem Elin_ok:EnvOk Elin:=envOk tt_ok trivial
theorem Flin_ok:FnOk Elin Try.f81:=⟨rfl,rfl⟩
theorem Elin_t (x0:Int) (x1:Int) (x2:Int):exec Elin 1000 [.code (bodyOf Try.prog 81)] (initSt clin.ps ((x0,x1,x2,()))) =
  cond (decide (x1≤x0)) (.ret ((decide (x0≤x2),()))) (.ret ((false,()))):=by kernel_rfl
theorem clin_valid:clin.Valid Try.prog 81:=by
  refine Ctr.valid_of Elin_ok rfl rfl Try.func81 (c:=bodyOf Try.prog 81) rfl rfl Flin_ok rfl ?_
  rintro ⟨(a:Int),(b:Int),(c:Int),⟨⟩⟩ - -
  refine exec_sound (n:=1000) Elin_ok Flin_ok ?_
  refine holds_of_eq (Elin_t a b c) ?_
  simp only [holds_cond,Tree.holds,true_and,true_implies,decide_eq_true_eq,decide_eq_false_iff_not,Bool.not_eq_true',Bool.not_eq_false',Int.toNat_natCast,inK_i64,List.length_set,List.length_cons,List.length_nil]
  repeat' first|exact trivial|(refine And.intro ?_ ?_)|(intro _)
  all_goals (show ((_,()):Bool×Unit)=(inF a b c,()); simp [inF, *])
def llong (s:List UInt8):Bool:=decide ((200:Int)<s.length)
def cllong:Ctr:={ ps:=[.v .str],rs:=[.bool],pre:=fun _=>True,fn:=fun x=>(llong x.1,()),out:=fun _=>() }
noncomputable def Ellong:Env:={ P:=Try.prog,tt:=tt,ctr:=[],res:=[Go.ResultVar.tmp 2],rs:=[Ty.bool],ps:=[PK.v Ty.str],cuts:=[],nt:=6 }
theorem Ellong_ok:EnvOk Ellong:=envOk tt_ok trivial
theorem Fllong_ok:FnOk Ellong Try.f82:=⟨rfl,rfl⟩
theorem Ellong_t (x0:List UInt8):exec Ellong 1000 [.code (bodyOf Try.prog 82)] (initSt cllong.ps ((x0,()))) =
  .ret ((decide ((200:Int)<(↑(List.length x0):Int)),())):=by kernel_rfl
theorem cllong_valid:cllong.Valid Try.prog 82:=by
  refine Ctr.valid_of Ellong_ok rfl rfl Try.func82 (c:=bodyOf Try.prog 82) rfl rfl Fllong_ok rfl ?_
  rintro ⟨(s:List UInt8),⟨⟩⟩ - -
  refine exec_sound (n:=1000) Ellong_ok Fllong_ok ?_
  refine holds_of_eq (Ellong_t s) ?_
  rfl
def cidxS:Ctr:={ ps:=[.v (.slc false .str),.clo 82 []],rs:=[I64],pre:=fun x=>True,fn:=fun x=>(idxOf (llong) x.1,()),out:=fun _=>() }
noncomputable def EidxS:Env:={ P:=Try.prog,tt:=tt,ctr:=[(82,cllong)],res:=[Go.ResultVar.tmp 4],rs:=[Ty.int IntKind.i64],ps:=[PK.v (Ty.slc false Ty.str),PK.clo 82 []],cuts:=[(2,[(0,none),(1,none),(7,none),(8,none)])],nt:=19 }
theorem EidxS_ok:EnvOk EidxS:=envOk tt_ok ⟨cllong_valid,trivial⟩
theorem FidxS_ok:FnOk EidxS Try.f128:=⟨rfl,rfl⟩
theorem EidxS_t (x0:List (List UInt8)):exec EidxS 1000 [.code (bodyOf Try.prog 128)] (initSt cidxS.ps ((x0,(),()))) =
  .cut (loopAt (bodyOf Try.prog 128) 2).1 (loopAt (bodyOf Try.prog 128) 2).2 (St.mk [(0,AV.val (Ty.slc false Ty.str) x0),(1,AV.clo 82 AV.nil),(7,AV.val (Ty.int IntKind.i64) (↑(List.length x0):Int)),(8,AV.val (Ty.int IntKind.i64) (0:Int))] []):=by kernel_rfl
def EidxS_s2 (v0:List (List UInt8)) (v7:Int) (v8:Int):St:=St.mk [(0,AV.val (Ty.slc false Ty.str) v0),(1,AV.clo 82 AV.nil),(7,AV.val (Ty.int IntKind.i64) v7),(8,AV.val (Ty.int IntKind.i64) v8)] []
theorem EidxS_l2 (v0:List (List UInt8)) (v7:Int) (v8:Int):exec EidxS 1000 (.code (loopAt (bodyOf Try.prog 128) 2).1::.inLoop (loopAt (bodyOf Try.prog 128) 2).1::(loopAt (bodyOf Try.prog 128) 2).2) (EidxS_s2 v0 v7 v8) =
  cond (decide (v8<v7)) (.need ((0:Int)≤v8∧v8<(↑(List.length v0):Int)) (.need (True) (cond (llong (List.getD v0 (Int.toNat v8) [])) (.ret ((v8,()))) (.need (inK IntKind.i64 (v8+(1:Int))) (.cut (loopAt (bodyOf Try.prog 128) 2).1 (loopAt (bodyOf Try.prog 128) 2).2 (St.mk [(0,AV.val (Ty.slc false Ty.str) v0),(1,AV.clo 82 AV.nil),(7,AV.val (Ty.int IntKind.i64) v7),(8,AV.val (Ty.int IntKind.i64) (v8+(1:Int)))] [])))))) (.ret (((-1:Int),()))):=by kernel_rfl
theorem cidxS_valid:cidxS.Valid Try.prog 128:=by
  refine Ctr.valid_of EidxS_ok rfl rfl Try.func128 (c:=bodyOf Try.prog 128) rfl rfl FidxS_ok rfl ?_
  rintro ⟨(l:List (List UInt8)),⟨⟩,⟨⟩⟩ - ⟨⟨hl,-⟩,-⟩
  have hl:l.length≤9223372036854775807:=hl
  refine exec_sound (n:=1000) EidxS_ok FidxS_ok ?_
  refine holds_of_eq (EidxS_t l ) ?_
  refine Reach.loopI EidxS_ok FidxS_ok (fun i:Nat=>EidxS_s2 l  (l.length:Int) (i:Int)) (fun i=>i≤l.length∧idxOf (llong) l=idxGo (llong) (l.drop i) i)
    (fun i=>l.length - i) 1000 (fun _=>⟨uniq_of rfl,uniq_of rfl⟩) ?_ 0 ⟨by omega,rfl⟩
  rintro i ⟨k1,k2⟩ - ih
  refine holds_of_eq (EidxS_l2 ..) ?_
  simp only [holds_cond,Tree.holds,true_and,true_implies,decide_eq_true_eq,decide_eq_false_iff_not,Bool.not_eq_true',Bool.not_eq_false',Int.toNat_natCast,inK_i64,List.length_set,List.length_cons,List.length_nil]
  refine ⟨fun h=>?_,fun h=>?_⟩
  · rw [drop_getD (show i<l.length by omega) [],idxGo] at k2
    refine ⟨by omega,fun _=>⟨fun c=>?_,fun c=>⟨by omega,fun _=>ih (i+1) ⟨by omega,?_⟩ (by omega)⟩⟩⟩
    · show (((i:Int),()):Int×Unit)=(idxOf (llong) l,())
      rw [k2,if_pos (show (llong) (l.getD i [])=true from c)]
    · rw [k2,if_neg (show ¬ (llong) (l.getD i [])=true from fun h9=>Bool.noConfusion (Eq.trans (Eq.symm h9) c))]
  · rw [List.drop_eq_nil_of_le (by omega)] at k2
    show (((-1:Int),()):Int×Unit)=(idxOf (llong) l,())
    rw [k2]; rfl
def ccontS:Ctr:={ ps:=[.v (.slc false .str),.clo 82 []],rs:=[.bool],pre:=fun x=>True,fn:=fun x=>(List.any (α:=List UInt8) x.1 (llong),()),out:=fun _=>() }
noncomputable def EcontS:Env:={ P:=Try.prog,tt:=tt,ctr:=[(128,cidxS)],res:=[Go.ResultVar.tmp 4],rs:=[Ty.bool],ps:=[PK.v (Ty.slc false Ty.str),PK.clo 82 []],cuts:=[],nt:=9 }
theorem EcontS_ok:EnvOk EcontS:=envOk tt_ok ⟨cidxS_valid,trivial⟩
theorem FcontS_ok:FnOk EcontS Try.f90:=⟨rfl,rfl⟩
theorem EcontS_t (x0:List (List UInt8)):exec EcontS 1000 [.code (bodyOf Try.prog 90)] (initSt ccontS.ps ((x0,(),()))) =
  .need (True) (.ret ((decide ((0:Int)≤idxOf llong x0),()))):=by kernel_rfl
theorem ccontS_valid:ccontS.Valid Try.prog 90:=by
  refine Ctr.valid_of EcontS_ok rfl rfl Try.func90 (c:=bodyOf Try.prog 90) rfl rfl FcontS_ok rfl ?_
  rintro ⟨(l:List (List UInt8)),⟨⟩,⟨⟩⟩ - -
  refine exec_sound (n:=1000) EcontS_ok FcontS_ok ?_
  refine holds_of_eq (EcontS_t l ) ?_
  refine ⟨trivial,fun _=>?_⟩
  show ((decide (0≤idxOf (llong) l),()):Bool×Unit)=(l.any (llong),())
  rw [idx_any]
theorem wbscl:Ty.wb .str=16:=rfl
def cscl:Ctr:={ ps:=[.v (.slc false .str)],rs:=[.slc true .str],pre:=fun x=>List.length (α:=List UInt8) x.1≤1048576,fn:=fun x=>x,out:=fun _=>() }
noncomputable def Escl:Env:={ P:=Try.prog,tt:=tt,ctr:=[],res:=[Go.ResultVar.tmp 2],rs:=[Ty.slc true Ty.str],ps:=[PK.v (Ty.slc false Ty.str)],cuts:=[],nt:=8 }
theorem Escl_ok:EnvOk Escl:=envOk tt_ok trivial
theorem Fscl_ok:FnOk Escl Try.f91:=⟨rfl,rfl⟩
theorem Escl_t (x0:List (List UInt8)):exec Escl 1000 [.code (bodyOf Try.prog 91)] (initSt cscl.ps ((x0,()))) =
  .both (x0=[]) (.ret (([],()))) (.need ((0:Nat)+List.length x0≤140737488355328∧((0:Nat)+List.length x0)*Ty.wb Ty.str≤140737488355328) (.ret (([]++x0,())))):=by kernel_rfl
theorem cscl_valid:cscl.Valid Try.prog 91:=by
  refine Ctr.valid_of Escl_ok rfl rfl Try.func91 (c:=bodyOf Try.prog 91) rfl rfl Fscl_ok rfl ?_
  rintro ⟨(l:List (List UInt8)),⟨⟩⟩ hp -
  have hp:l.length≤1048576:=hp
  refine exec_sound (n:=1000) Escl_ok Fscl_ok ?_
  refine holds_of_eq (Escl_t l) ?_
  simp only [holds_cond,Tree.holds,true_and,true_implies,decide_eq_true_eq,decide_eq_false_iff_not,Bool.not_eq_true',Bool.not_eq_false',Int.toNat_natCast,inK_i64,List.length_set,List.length_cons,List.length_nil,wbscl]
  refine ⟨fun h=>?_,by omega,fun _=>rfl⟩
  show (([],()):List (List UInt8)×Unit)=(l,())
  rw [show l=[] from h]
def cpcl:Ctr:={ ps:=[.v (.slc false Parcel)],rs:=[.slc true Parcel],pre:=fun x=>List.length (α:=ParcelD) x.1≤1048576,fn:=fun x=>x,out:=fun _=>() }
noncomputable def Epcl:Env:={ P:=Try.prog,tt:=tt,ctr:=[],res:=[Go.ResultVar.tmp 2],rs:=[Ty.slc true (Ty.pair (Ty.int IntKind.i64) (Ty.pair Ty.str Ty.unit))],ps:=[PK.v (Ty.slc false (Ty.pair (Ty.int IntKind.i64) (Ty.pair Ty.str Ty.unit)))],cuts:=[],nt:=8 }
def ceqS:Ctr:={ ps:=[.v (.slc false .str),.v (.slc false .str)],rs:=[.bool],pre:=fun _=>True,fn:=fun x=>(decide ((show List (List UInt8) from x.1)=(show List (List UInt8) from x.2.1)),()),out:=fun _=>() }
noncomputable def EeqS:Env:={ P:=Try.prog,tt:=tt,ctr:=[],res:=[Go.ResultVar.tmp 4],rs:=[Ty.bool],ps:=[PK.v (Ty.slc false Ty.str),PK.v (Ty.slc false Ty.str)],cuts:=[(4,[(0,none),(1,none),(12,none),(13,none)])],nt:=26 }
theorem EeqS_ok:EnvOk EeqS:=envOk tt_ok trivial
theorem FeqS_ok:FnOk EeqS Try.f42:=⟨rfl,rfl⟩
theorem EeqS_t (x0:List (List UInt8)) (x1:List (List UInt8)):exec EeqS 1000 [.code (bodyOf Try.prog 42)] (initSt ceqS.ps ((x0,x1,()))) =
  cond (decide ((↑(List.length x0):Int)≠(↑(List.length x1):Int))) (.ret ((false,()))) (.cut (loopAt (bodyOf Try.prog 42) 4).1 (loopAt (bodyOf Try.prog 42) 4).2 (St.mk [(0,AV.val (Ty.slc false Ty.str) x0),(1,AV.val (Ty.slc false Ty.str) x1),(12,AV.val (Ty.int IntKind.i64) (↑(List.length x0):Int)),(13,AV.val (Ty.int IntKind.i64) (0:Int))] [])):=by kernel_rfl
def EeqS_s4 (v0:List (List UInt8)) (v1:List (List UInt8)) (v12:Int) (v13:Int):St:=St.mk [(0,AV.val (Ty.slc false Ty.str) v0),(1,AV.val (Ty.slc false Ty.str) v1),(12,AV.val (Ty.int IntKind.i64) v12),(13,AV.val (Ty.int IntKind.i64) v13)] []
theorem EeqS_l4 (v0:List (List UInt8)) (v1:List (List UInt8)) (v12:Int) (v13:Int):exec EeqS 1000 (.code (loopAt (bodyOf Try.prog 42) 4).1::.inLoop (loopAt (bodyOf Try.prog 42) 4).1::(loopAt (bodyOf Try.prog 42) 4).2) (EeqS_s4 v0 v1 v12 v13) =
  cond (decide (v13<v12)) (.need ((0:Int)≤v13∧v13<(↑(List.length v0):Int)) (.need ((0:Int)≤v13∧v13<(↑(List.length v1):Int)) (cond (decide (List.getD v0 (Int.toNat v13) []≠List.getD v1 (Int.toNat v13) [])) (.ret ((false,()))) (.need (inK IntKind.i64 (v13+(1:Int))) (.cut (loopAt (bodyOf Try.prog 42) 4).1 (loopAt (bodyOf Try.prog 42) 4).2 (St.mk [(0,AV.val (Ty.slc false Ty.str) v0),(1,AV.val (Ty.slc false Ty.str) v1),(12,AV.val (Ty.int IntKind.i64) v12),(13,AV.val (Ty.int IntKind.i64) (v13+(1:Int)))] [])))))) (.ret ((true,()))):=by kernel_rfl
theorem ceqS_valid:ceqS.Valid Try.prog 42:=by
  refine Ctr.valid_of EeqS_ok rfl rfl Try.func42 (c:=bodyOf Try.prog 42) rfl rfl FeqS_ok rfl ?_
  rintro ⟨(l:List (List UInt8)),(m:List (List UInt8)),⟨⟩⟩ - ⟨⟨hl,-⟩,-⟩
  have hl:l.length≤9223372036854775807:=hl
  refine exec_sound (n:=1000) EeqS_ok FeqS_ok ?_
  refine holds_of_eq (EeqS_t l m) ?_
  have fin:∀ {b:Bool},(b=true↔l=m)→((b,()):Bool×Unit)=(decide (l=m),()):=fun {b} h=>by
    cases b with
    | true=>rw [decide_eq_true (h.1 rfl)]
    | false=>rw [decide_eq_false (fun e=>by cases h.2 e)]
  simp only [holds_cond,Tree.holds,true_and,true_implies,decide_eq_true_eq,decide_eq_false_iff_not,Bool.not_eq_true',Bool.not_eq_false',Int.toNat_natCast,inK_i64,List.length_set,List.length_cons,List.length_nil]
  refine ⟨fun c=>fin ⟨fun h=>(by cases h),fun h=>absurd (congrArg (fun q:List (List UInt8)=>(q.length:Int)) h) c⟩,fun c=>?_⟩
  refine Reach.loopI EeqS_ok FeqS_ok (fun i:Nat=>EeqS_s4 l m (l.length:Int) (i:Int)) (fun i=>i≤l.length∧∀ j,j<i→l.getD j []=m.getD j [])
    (fun i=>l.length - i) 1000 (fun _=>⟨uniq_of rfl,uniq_of rfl⟩) ?_ 0 ⟨Nat.zero_le _,fun j hj=>by omega⟩
  rintro i ⟨k1,k2⟩ - ih
  refine holds_of_eq (EeqS_l4 ..) ?_
  have c:l.length=m.length:=by omega
  simp only [holds_cond,Tree.holds,true_and,true_implies,decide_eq_true_eq,decide_eq_false_iff_not,Bool.not_eq_true',Bool.not_eq_false',Int.toNat_natCast,inK_i64,List.length_set,List.length_cons,List.length_nil]
  refine ⟨fun d1=>⟨by omega,fun _=>⟨by omega,fun _=>⟨fun d2=>fin ⟨fun h=>(by cases h),fun h=>absurd (congrArg (fun q:List (List UInt8)=>q.getD i []) h) (d2)⟩,fun d2=>⟨by omega,fun _=>ih (i+1) ⟨by omega,fun j hj=>?_⟩ (by omega)⟩⟩⟩⟩,fun d1=>fin ⟨fun _=>eq_of_getD c (fun j hj=>k2 j (by omega)),fun _=>rfl⟩⟩
  rcases Nat.lt_or_ge j i with h|h
  · exact k2 j h
  · obtain rfl:j=i:=by omega
    exact Decidable.not_not.1 d2
def f00:FromD:=(0,[],())
def fromE (s:FromD):Int:=if inF s.1 0 16777215=false then 1 else if (16:Int)<s.2.1.length then 1 else if s.2.1.any llong=true then 2 else 0
def cfromE:Ctr:={ ps:=[.v FromT],rs:=[I64],pre:=fun _=>True,fn:=fun x=>(fromE x.1,()),out:=fun _=>() }
noncomputable def EfromE:Env:={ P:=Try.prog,tt:=tt,ctr:=[(81,clin),(90,ccontS)],res:=[Go.ResultVar.tmp 2],rs:=[Ty.int IntKind.i64],ps:=[PK.v (Ty.pair (Ty.int IntKind.i64) (Ty.pair (Ty.slc false Ty.str) Ty.unit))],cuts:=[],nt:=18 }
theorem EfromE_ok:EnvOk EfromE:=envOk tt_ok ⟨clin_valid,ccontS_valid,trivial⟩
theorem FfromE_ok:FnOk EfromE Try.f43:=⟨rfl,rfl⟩
theorem EfromE_t (x0_1:Int) (x0_2_1:List (List UInt8)):exec EfromE 1000 [.code (bodyOf Try.prog 43)] (initSt cfromE.ps (((x0_1,x0_2_1,()),()))) =
  .need (True) (cond (!inF x0_1 (0:Int) (16777215:Int)) (.ret (((1:Int),()))) (cond (decide ((16:Int)<(↑(List.length x0_2_1):Int))) (.ret (((1:Int),()))) (.need (True) (cond (List.any x0_2_1 llong) (.ret (((2:Int),()))) (.ret (((0:Int),()))))))):=by kernel_rfl
theorem lnf {b:Bool} (h:b=true):¬ b=false:=by rw [h]; simp
theorem cfromE_valid:cfromE.Valid Try.prog 43:=by
  refine Ctr.valid_of EfromE_ok rfl rfl Try.func43 (c:=bodyOf Try.prog 43) rfl rfl FfromE_ok rfl ?_
  rintro ⟨⟨(b:Int),(l:List (List UInt8)),⟨⟩⟩,⟨⟩⟩ - -
  refine exec_sound (n:=1000) EfromE_ok FfromE_ok ?_
  refine holds_of_eq (EfromE_t b l) ?_
  have key:∀ {x:Int},fromE (b,l,())=x→((x,()):Int×Unit)=(fromE (b,l,()),()):=by rintro x rfl; rfl
  have hd:fromE (b,l,())=if inF b 0 16777215=false then 1 else if (16:Int)<l.length then 1 else if l.any llong=true then 2 else 0:=rfl
  simp only [holds_cond,Tree.holds,true_and,true_implies,decide_eq_true_eq,decide_eq_false_iff_not,Bool.not_eq_true',Bool.not_eq_false',Int.toNat_natCast,inK_i64,List.length_set,List.length_cons,List.length_nil]
  refine ⟨fun a=>key (by rw [hd,if_pos a]),fun a=>⟨fun c=>key (by rw [hd,if_neg (lnf a),if_pos c]),fun c=>⟨fun d=>key (by rw [hd,if_neg (lnf a),if_neg c,if_pos d]),fun d=>key (by rw [hd,if_neg (lnf a),if_neg c,if_neg (by rw [d]; simp)])⟩⟩⟩
theorem fromE_ok {s:FromD} (h:fromE s=0):(0≤s.1∧s.1≤16777215)∧s.2.1.length≤16∧s.2.1.any llong=false:=by
  unfold fromE at h
  split at h
  · cases h
  rename_i c1
  split at h
  · cases h
  rename_i c2
  split at h
  · cases h
  rename_i c3
  exact ⟨inF_iff.1 (Bool.not_eq_false _▸c1),by omega,by simpa using c3⟩
def lput (s:FromD) (x:List UInt8):FromD×Int×Unit :=
  if fromE s≠0 then (f00,fromE s,()) else if llong x=true then (f00,2,()) else if (s.2.1.length:Int)=16∨16777215≤s.1+s.2.1.length then (f00,8,()) else ((s.1,s.2.1++[x],()),0,())
def clput:Ctr:={ ps:=[.v FromT,.v .str],rs:=[FromO,I64],pre:=fun _=>True,fn:=fun x=>lput x.1 x.2.1,out:=fun _=>() }
noncomputable def Elput:Env:={ P:=Try.prog,tt:=tt,ctr:=[(43,cfromE),(82,cllong),(91,cscl)],res:=[Go.ResultVar.cell 4 92,Go.ResultVar.tmp 5],rs:=[Ty.pair (Ty.int IntKind.i64) (Ty.pair (Ty.slc true Ty.str) Ty.unit),Ty.int IntKind.i64],ps:=[PK.v (Ty.pair (Ty.int IntKind.i64) (Ty.pair (Ty.slc false Ty.str) Ty.unit)),PK.v Ty.str],cuts:=[],nt:=41 }
theorem Elput_ok:EnvOk Elput:=envOk tt_ok ⟨cfromE_valid,cllong_valid,cscl_valid,trivial⟩
theorem Flput_ok:FnOk Elput Try.f89:=⟨rfl,rfl⟩
theorem Elput_t (x0_1:Int) (x0_2_1:List (List UInt8)) (x1:List UInt8):exec Elput 1000 [.code (bodyOf Try.prog 89)] (initSt clput.ps (((x0_1,x0_2_1,()),x1,()))) =
  .need (True) (cond (decide (fromE (x0_1,x0_2_1,())≠(0:Int))) (.ret ((((0:Int),[],()),fromE (x0_1,x0_2_1,()),()))) (.need (True) (cond (llong x1) (.ret ((((0:Int),[],()),(2:Int),()))) (cond (decide ((↑(List.length x0_2_1):Int)=(16:Int))) (.ret ((((0:Int),[],()),(8:Int),()))) (.need (inK IntKind.i64 (x0_1+(↑(List.length x0_2_1):Int))) (cond (decide ((16777215:Int)≤x0_1+(↑(List.length x0_2_1):Int))) (.ret ((((0:Int),[],()),(8:Int),()))) (.need (List.length x0_2_1≤1048576) (.need (List.length x0_2_1+List.length (List.set [[]] (Int.toNat (↑0:Int)) x1)≤140737488355328∧(List.length x0_2_1+List.length (List.set [[]] (Int.toNat (↑0:Int)) x1))*Ty.wb Ty.str≤140737488355328) (.ret (((x0_1,x0_2_1++List.set [[]] (Int.toNat (↑0:Int)) x1,()),(0:Int),()))))))))))):=by kernel_rfl
theorem clput_valid:clput.Valid Try.prog 89:=by
  refine Ctr.valid_of Elput_ok rfl rfl Try.func89 (c:=bodyOf Try.prog 89) rfl rfl Flput_ok rfl ?_
  rintro ⟨⟨(b:Int),(l:List (List UInt8)),⟨⟩⟩,(x:List UInt8),⟨⟩⟩ - -
  refine exec_sound (n:=1000) Elput_ok Flput_ok ?_
  refine holds_of_eq (Elput_t b l x) ?_
  have key:∀ {y:FromD×Int×Unit},lput (b,l,()) x=y→y=lput (b,l,()) x:=fun h=>h.symm
  have hd:lput (b,l,()) x=if fromE (b,l,())≠0 then (f00,fromE (b,l,()),()) else if llong x=true then (f00,2,()) else if (l.length:Int)=16∨16777215≤b+l.length then (f00,8,()) else ((b,l++[x],()),0,()):=rfl
  have hw:Ty.wb .str=16:=rfl
  simp only [holds_cond,Tree.holds,true_and,true_implies,decide_eq_true_eq,decide_eq_false_iff_not,Bool.not_eq_true',Bool.not_eq_false',Int.toNat_natCast,inK_i64,List.length_set,List.length_cons,List.length_nil,hw]
  refine ⟨fun a=>key (by rw [hd,if_pos a]<;>rfl),fun a=>?_⟩
  have hok:=fromE_ok (Decidable.not_not.1 a)
  simp only at hok
  rw [if_neg a] at hd
  refine ⟨fun c=>key (by rw [hd,if_pos c]<;>rfl),fun c=>?_⟩
  rw [if_neg (by rw [c]; simp)] at hd
  refine ⟨fun d=>key (by rw [hd,if_pos (.inl d)]<;>rfl),fun d=>⟨by omega,fun _=>⟨fun e=>key (by rw [hd,if_pos (.inr e)]<;>rfl),fun e=>⟨by omega,fun _=>⟨⟨by omega,by omega⟩,fun _=>key ?_⟩⟩⟩⟩⟩
  rw [hd,if_neg (by rintro (h|h); exact d h; exact e h)]; rfl
def ahd (b x:Int):Int:=if x - b<0 then 0 else x - b
def lheard (s:FromD) (x:Int):FromD×Int×Unit :=
  if fromE s≠0 then (f00,fromE s,()) else if s.1+s.2.1.length<x then (f00,1,()) else ((s.1+ahd s.1 x,s.2.1.drop (ahd s.1 x).toNat,()),0,())
def clheard:Ctr:={ ps:=[.v FromT,.v I64],rs:=[FromO,I64],pre:=fun x=>LE.le (α:=Int) 0 x.2.1,fn:=fun x=>lheard x.1 x.2.1,out:=fun _=>() }
noncomputable def Elheard:Env:={ P:=Try.prog,tt:=tt,ctr:=[(43,cfromE),(91,cscl)],res:=[Go.ResultVar.cell 4 92,Go.ResultVar.tmp 5],rs:=[Ty.pair (Ty.int IntKind.i64) (Ty.pair (Ty.slc true Ty.str) Ty.unit),Ty.int IntKind.i64],ps:=[PK.v (Ty.pair (Ty.int IntKind.i64) (Ty.pair (Ty.slc false Ty.str) Ty.unit)),PK.v (Ty.int IntKind.i64)],cuts:=[],nt:=38 }
theorem Elheard_ok:EnvOk Elheard:=envOk tt_ok ⟨cfromE_valid,cscl_valid,trivial⟩
theorem Flheard_ok:FnOk Elheard Try.f45:=⟨rfl,rfl⟩
theorem Elheard_t (x0_1:Int) (x0_2_1:List (List UInt8)) (x1:Int):exec Elheard 1000 [.code (bodyOf Try.prog 45)] (initSt clheard.ps (((x0_1,x0_2_1,()),x1,()))) =
  .need (True) (cond (decide (fromE (x0_1,x0_2_1,())≠(0:Int))) (.ret ((((0:Int),[],()),fromE (x0_1,x0_2_1,()),()))) (.need (inK IntKind.i64 (x0_1+(↑(List.length x0_2_1):Int))) (cond (decide (x0_1+(↑(List.length x0_2_1):Int)<x1)) (.ret ((((0:Int),[],()),(1:Int),()))) (.need (inK IntKind.i64 (x1 - x0_1)) (.need (inK IntKind.i64 (x0_1+if x1 - x0_1<(0:Int) then (0:Int) else x1 - x0_1)) (.need (((0:Int)≤if x1 - x0_1<(0:Int) then (0:Int) else x1 - x0_1)∧(if x1 - x0_1<(0:Int) then (0:Int) else x1 - x0_1)≤(↑(List.length x0_2_1):Int)∧(↑(List.length x0_2_1):Int)≤(↑(List.length x0_2_1):Int)) (.need (List.length (cut2 (if x1 - x0_1<(0:Int) then (0:Int) else x1 - x0_1) (↑(List.length x0_2_1):Int) x0_2_1)≤1048576) (.ret (((x0_1+if x1 - x0_1<(0:Int) then (0:Int) else x1 - x0_1,cut2 (if x1 - x0_1<(0:Int) then (0:Int) else x1 - x0_1) (↑(List.length x0_2_1):Int) x0_2_1,()),(0:Int),())))))))))):=by kernel_rfl
theorem clheard_valid:clheard.Valid Try.prog 45:=by
  refine Ctr.valid_of Elheard_ok rfl rfl Try.func45 (c:=bodyOf Try.prog 45) rfl rfl Flheard_ok rfl ?_
  rintro ⟨⟨(b:Int),(l:List (List UInt8)),⟨⟩⟩,(x:Int),⟨⟩⟩ (h0:0≤x) -
  refine exec_sound (n:=1000) Elheard_ok Flheard_ok ?_
  refine holds_of_eq (Elheard_t b l x) ?_
  have key:∀ {y:FromD×Int×Unit},lheard (b,l,()) x=y→y=lheard (b,l,()) x:=fun h=>h.symm
  have hd:lheard (b,l,()) x=if fromE (b,l,())≠0 then (f00,fromE (b,l,()),()) else if b+l.length<x then (f00,1,()) else ((b+ahd b x,l.drop (ahd b x).toNat,()),0,()):=rfl
  have ha:(if x - b<0 then 0 else x - b)=ahd b x:=rfl
  have ha2:0≤ahd b x∧(x≤b+l.length→ahd b x≤l.length)∧(ahd b x=0∨ahd b x=x - b):=by rw [ahd]; split<;>omega
  have hcut:0≤ahd b x→cut2 (ahd b x) (l.length:Int) l=l.drop (ahd b x).toNat:=fun h=>by
    rw [cut2,List.take_of_length_le (by rw [List.length_drop]; omega)]
  rw [ha]
  generalize ahd b x=n at *
  rw [hcut ha2.1]
  simp only [holds_cond,Tree.holds,true_and,true_implies,decide_eq_true_eq,decide_eq_false_iff_not,Bool.not_eq_true',Bool.not_eq_false',Int.toNat_natCast,inK_i64,List.length_set,List.length_cons,List.length_nil]
  refine ⟨fun a=>key (by rw [hd,if_pos a]<;>rfl),fun a=>?_⟩
  have hok:=fromE_ok (Decidable.not_not.1 a)
  simp only at hok
  rw [if_neg a] at hd
  refine ⟨by omega,fun _=>⟨fun c=>key (by rw [hd,if_pos c]<;>rfl),fun c=>?_⟩⟩
  rw [if_neg c] at hd
  refine ⟨by omega,fun _=>⟨by omega,fun _=>⟨by omega,fun _=>⟨?_,fun _=>key (by rw [hd]<;>rfl)⟩⟩⟩⟩
  rw [List.length_drop]; omega
def sendsL (b most:Int) (l:List (List UInt8)):Nat→List ParcelD
  | 0=>[]
  | i+1=>sendsL b most l i++(if (i:Int)<most then [(b+i,l.getD i [],())] else [])
theorem sendsL_len {b most:Int} {l:List (List UInt8)}:∀ {i:Nat},(sendsL b most l i).length≤i
  | 0=>Nat.le_refl _
  | i+1=>by
    have:=sendsL_len (b:=b) (most:=most) (l:=l) (i:=i)
    rw [sendsL,List.length_append]
    split<;>simp<;>omega
def lsends (s:FromD) (most:Int):List ParcelD×Int×Unit:=if fromE s≠0 then ([],fromE s,()) else (sendsL s.1 most s.2.1 s.2.1.length,0,())
def clsends:Ctr:={ ps:=[.v FromT,.v I64],rs:=[.slc true Parcel,I64],pre:=fun _=>True,fn:=fun x=>lsends x.1 x.2.1,out:=fun _=>() }
noncomputable def Elsends:Env:={ P:=Try.prog,tt:=tt,ctr:=[(43,cfromE)],res:=[Go.ResultVar.tmp 4,Go.ResultVar.tmp 5],rs:=[Ty.slc true (Ty.pair (Ty.int IntKind.i64) (Ty.pair Ty.str Ty.unit)),Ty.int IntKind.i64],ps:=[PK.v (Ty.pair (Ty.int IntKind.i64) (Ty.pair (Ty.slc false Ty.str) Ty.unit)),PK.v (Ty.int IntKind.i64)],cuts:=[(6,[(1,none),(2,none),(7,some (Ty.slc true (Ty.pair (Ty.int IntKind.i64) (Ty.pair Ty.str Ty.unit)))),(16,none),(17,none),(18,none)])],nt:=37 }
theorem Elsends_ok:EnvOk Elsends:=envOk tt_ok ⟨cfromE_valid,trivial⟩
theorem Flsends_ok:FnOk Elsends Try.f44:=⟨rfl,rfl⟩
theorem Elsends_t (x0_1:Int) (x0_2_1:List (List UInt8)) (x1:Int):exec Elsends 1000 [.code (bodyOf Try.prog 44)] (initSt clsends.ps (((x0_1,x0_2_1,()),x1,()))) =
  .need (True) (cond (decide (fromE (x0_1,x0_2_1,())≠(0:Int))) (.ret (([],fromE (x0_1,x0_2_1,()),()))) (.cut (loopAt (bodyOf Try.prog 44) 6).1 (loopAt (bodyOf Try.prog 44) 6).2 (St.mk [(1,AV.val (Ty.int IntKind.i64) x1),(2,AV.ptr 2 []),(7,AV.at_ 1000007 []),(16,AV.val (Ty.slc false Ty.str) x0_2_1),(17,AV.val (Ty.int IntKind.i64) (↑(List.length x0_2_1):Int)),(18,AV.val (Ty.int IntKind.i64) (0:Int))] [(2,Ent.var (Ty.pair (Ty.int IntKind.i64) (Ty.pair (Ty.slc false Ty.str) Ty.unit)) (x0_1,x0_2_1,())),(1000007,Ent.own (Ty.slc true (Ty.pair (Ty.int IntKind.i64) (Ty.pair Ty.str Ty.unit))) [])]))):=by kernel_rfl
def Elsends_s6 (v1:Int) (v16:List (List UInt8)) (v17:Int) (v18:Int) (o2_1:Int) (o2_2_1:List (List UInt8)) (o1000007:List (Int×List UInt8×Unit)):St:=St.mk [(1,AV.val (Ty.int IntKind.i64) v1),(2,AV.ptr 2 []),(7,AV.at_ 1000007 []),(16,AV.val (Ty.slc false Ty.str) v16),(17,AV.val (Ty.int IntKind.i64) v17),(18,AV.val (Ty.int IntKind.i64) v18)] [(2,Ent.var (Ty.pair (Ty.int IntKind.i64) (Ty.pair (Ty.slc false Ty.str) Ty.unit)) (o2_1,o2_2_1,())),(1000007,Ent.own (Ty.slc true (Ty.pair (Ty.int IntKind.i64) (Ty.pair Ty.str Ty.unit))) o1000007)]
theorem Elsends_l6 (v1:Int) (v16:List (List UInt8)) (v17:Int) (v18:Int) (o2_1:Int) (o2_2_1:List (List UInt8)) (o1000007:List (Int×List UInt8×Unit)):exec Elsends 1000 (.code (loopAt (bodyOf Try.prog 44) 6).1::.inLoop (loopAt (bodyOf Try.prog 44) 6).1::(loopAt (bodyOf Try.prog 44) 6).2) (Elsends_s6 v1 v16 v17 v18 o2_1 o2_2_1 o1000007) =
  cond (decide (v18<v17)) (.need ((0:Int)≤v18∧v18<(↑(List.length v16):Int)) (cond (decide (v18<v1)) (.need (inK IntKind.i64 (o2_1+v18)) (.need (List.length o1000007+List.length (List.set [((0:Int),[],())] (Int.toNat (↑0:Int)) (o2_1+v18,List.getD v16 (Int.toNat v18) [],()))≤140737488355328∧(List.length o1000007+List.length (List.set [((0:Int),[],())] (Int.toNat (↑0:Int)) (o2_1+v18,List.getD v16 (Int.toNat v18) [],())))*Ty.wb (Ty.pair (Ty.int IntKind.i64) (Ty.pair Ty.str Ty.unit))≤140737488355328) (.need (inK IntKind.i64 (v18+(1:Int))) (.cut (loopAt (bodyOf Try.prog 44) 6).1 (loopAt (bodyOf Try.prog 44) 6).2 (St.mk [(1,AV.val (Ty.int IntKind.i64) v1),(2,AV.ptr 2 []),(7,AV.at_ 1000007 []),(16,AV.val (Ty.slc false Ty.str) v16),(17,AV.val (Ty.int IntKind.i64) v17),(18,AV.val (Ty.int IntKind.i64) (v18+(1:Int)))] [(2,Ent.var (Ty.pair (Ty.int IntKind.i64) (Ty.pair (Ty.slc false Ty.str) Ty.unit)) (o2_1,o2_2_1,())),(1000007,Ent.own (Ty.slc true (Ty.pair (Ty.int IntKind.i64) (Ty.pair Ty.str Ty.unit))) (o1000007++List.set [((0:Int),[],())] (Int.toNat (↑0:Int)) (o2_1+v18,List.getD v16 (Int.toNat v18) [],())))]))))) (.need (inK IntKind.i64 (v18+(1:Int))) (.cut (loopAt (bodyOf Try.prog 44) 6).1 (loopAt (bodyOf Try.prog 44) 6).2 (St.mk [(1,AV.val (Ty.int IntKind.i64) v1),(2,AV.ptr 2 []),(7,AV.at_ 1000007 []),(16,AV.val (Ty.slc false Ty.str) v16),(17,AV.val (Ty.int IntKind.i64) v17),(18,AV.val (Ty.int IntKind.i64) (v18+(1:Int)))] [(2,Ent.var (Ty.pair (Ty.int IntKind.i64) (Ty.pair (Ty.slc false Ty.str) Ty.unit)) (o2_1,o2_2_1,())),(1000007,Ent.own (Ty.slc true (Ty.pair (Ty.int IntKind.i64) (Ty.pair Ty.str Ty.unit))) o1000007)]))))) (.ret ((o1000007,(0:Int),()))):=by kernel_rfl
theorem clsends_valid:clsends.Valid Try.prog 44:=by
  refine Ctr.valid_of Elsends_ok rfl rfl Try.func44 (c:=bodyOf Try.prog 44) rfl rfl Flsends_ok rfl ?_
  rintro ⟨⟨(b:Int),(l:List (List UInt8)),⟨⟩⟩,(m:Int),⟨⟩⟩ - -
  refine exec_sound (n:=1000) Elsends_ok Flsends_ok ?_
  refine holds_of_eq (Elsends_t b l m) ?_
  have key:∀ {y:List ParcelD×Int×Unit},lsends (b,l,()) m=y→y=lsends (b,l,()) m:=fun h=>h.symm
  have hd:lsends (b,l,()) m=if fromE (b,l,())≠0 then ([],fromE (b,l,()),()) else (sendsL b m l l.length,0,()):=rfl
  have hw:Ty.wb Parcel=24:=rfl
  simp only [holds_cond,Tree.holds,true_and,true_implies,decide_eq_true_eq,decide_eq_false_iff_not,Bool.not_eq_true',Bool.not_eq_false',Int.toNat_natCast,inK_i64,List.length_set,List.length_cons,List.length_nil]
  refine ⟨fun a=>key (by rw [hd,if_pos a]<;>rfl),fun a=>?_⟩
  have hok:=fromE_ok (Decidable.not_not.1 a)
  simp only at hok
  rw [if_neg a] at hd
  refine Reach.loopI Elsends_ok Flsends_ok (fun i:Nat=>Elsends_s6 m l (l.length:Int) (i:Int) b l (sendsL b m l i)) (fun i=>i≤l.length) (fun i=>l.length - i) 1000 (fun _=>⟨uniq_of rfl,uniq_of rfl⟩) ?_ 0 (by omega)
  rintro i k1 - ih
  have k1:i≤l.length:=k1
  refine holds_of_eq (Elsends_l6 ..) ?_
  have hsl:=sendsL_len (b:=b) (most:=m) (l:=l) (i:=i)
  simp only [holds_cond,Tree.holds,true_and,true_implies,decide_eq_true_eq,decide_eq_false_iff_not,Bool.not_eq_true',Bool.not_eq_false',Int.toNat_natCast,inK_i64,List.length_set,List.length_cons,List.length_nil,hw]
  refine ⟨fun c=>⟨by omega,fun _=>?_⟩,fun c=>key (by rw [hd,show i=l.length by omega]<;>rfl)⟩
  have next:=ih (i+1) (by show i+1≤l.length; omega) (by omega)
  rw [sendsL] at next
  refine ⟨fun d=>⟨by omega,fun _=>⟨⟨by omega,by omega⟩,fun _=>⟨by omega,fun _=>?_⟩⟩⟩,fun d=>⟨by omega,fun _=>?_⟩⟩
  · rw [if_pos d] at next; exact next
  · rw [if_neg d,List.append_nil] at next; exact next
def p00:ParcelD:=(0,[],())
def t00:ToD:=(0,[],())
def befE (r:Int) (l:List ParcelD):Nat→Int
  | 0=>r
  | i+1=>(l.getD i p00).1
def earlyE (r:Int) (l:List ParcelD) (i:Nat):Int:=if (l.getD i p00).1≤befE r l i then 4 else if r+16≤(l.getD i p00).1 then 4 else if llong (l.getD i p00).2.1=true then 4 else 0
def toE (s:ToD):Int:=if inF s.1 0 16777215=false then 1 else if (16:Int)<s.2.1.length then 2 else firstE (earlyE s.1 s.2.1) s.2.1.length
def ctoE:Ctr:={ ps:=[.v ToT],rs:=[I64],pre:=fun _=>True,fn:=fun x=>(toE x.1,()),out:=fun _=>() }
noncomputable def EtoE:Env:={ P:=Try.prog,tt:=tt,ctr:=[(81,clin),(82,cllong)],res:=[Go.ResultVar.tmp 2],rs:=[Ty.int IntKind.i64],ps:=[PK.v (Ty.pair (Ty.int IntKind.i64) (Ty.pair (Ty.slc false (Ty.pair (Ty.int IntKind.i64) (Ty.pair Ty.str Ty.unit))) Ty.unit))],cuts:=[(7,[(1,none),(3,none),(19,none),(20,none),(21,none)])],nt:=45 }
theorem EtoE_ok:EnvOk EtoE:=envOk tt_ok ⟨clin_valid,cllong_valid,trivial⟩
theorem FtoE_ok:FnOk EtoE Try.f39:=⟨rfl,rfl⟩
theorem EtoE_t (x0_1:Int) (x0_2_1:List (Int×List UInt8×Unit)):exec EtoE 1000 [.code (bodyOf Try.prog 39)] (initSt ctoE.ps (((x0_1,x0_2_1,()),()))) =
  .need (True) (cond (!inF x0_1 (0:Int) (16777215:Int)) (.ret (((1:Int),()))) (cond (decide ((16:Int)<(↑(List.length x0_2_1):Int))) (.ret (((2:Int),()))) (.cut (loopAt (bodyOf Try.prog 39) 7).1 (loopAt (bodyOf Try.prog 39) 7).2 (St.mk [(1,AV.ptr 1 []),(3,AV.val (Ty.int IntKind.i64) x0_1),(19,AV.val (Ty.slc false (Ty.pair (Ty.int IntKind.i64) (Ty.pair Ty.str Ty.unit))) x0_2_1),(20,AV.val (Ty.int IntKind.i64) (↑(List.length x0_2_1):Int)),(21,AV.val (Ty.int IntKind.i64) (0:Int))] [(1,Ent.var (Ty.pair (Ty.int IntKind.i64) (Ty.pair (Ty.slc false (Ty.pair (Ty.int IntKind.i64) (Ty.pair Ty.str Ty.unit))) Ty.unit)) (x0_1,x0_2_1,()))])))):=by kernel_rfl
def EtoE_s7 (v3:Int) (v19:List (Int×List UInt8×Unit)) (v20:Int) (v21:Int) (o1_1:Int) (o1_2_1:List (Int×List UInt8×Unit)):St:=St.mk [(1,AV.ptr 1 []),(3,AV.val (Ty.int IntKind.i64) v3),(19,AV.val (Ty.slc false (Ty.pair (Ty.int IntKind.i64) (Ty.pair Ty.str Ty.unit))) v19),(20,AV.val (Ty.int IntKind.i64) v20),(21,AV.val (Ty.int IntKind.i64) v21)] [(1,Ent.var (Ty.pair (Ty.int IntKind.i64) (Ty.pair (Ty.slc false (Ty.pair (Ty.int IntKind.i64) (Ty.pair Ty.str Ty.unit))) Ty.unit)) (o1_1,o1_2_1,()))]
theorem EtoE_l7 (v3:Int) (v19:List (Int×List UInt8×Unit)) (v20:Int) (v21:Int) (o1_1:Int) (o1_2_1:List (Int×List UInt8×Unit)):exec EtoE 1000 (.code (loopAt (bodyOf Try.prog 39) 7).1::.inLoop (loopAt (bodyOf Try.prog 39) 7).1::(loopAt (bodyOf Try.prog 39) 7).2) (EtoE_s7 v3 v19 v20 v21 o1_1 o1_2_1) =
  cond (decide (v21<v20)) (.need ((0:Int)≤v21∧v21<(↑(List.length v19):Int)) (cond (decide (Prod.fst (List.getD v19 (Int.toNat v21) ((0:Int),[],()))≤v3)) (.ret (((4:Int),()))) (.need (inK IntKind.i64 (o1_1+(16:Int))) (cond (decide (o1_1+(16:Int)≤Prod.fst (List.getD v19 (Int.toNat v21) ((0:Int),[],())))) (.ret (((4:Int),()))) (.need (True) (cond (llong (Prod.fst (Prod.snd (List.getD v19 (Int.toNat v21) ((0:Int),[],()))))) (.ret (((4:Int),()))) (.need (inK IntKind.i64 (v21+(1:Int))) (.cut (loopAt (bodyOf Try.prog 39) 7).1 (loopAt (bodyOf Try.prog 39) 7).2 (St.mk [(1,AV.ptr 1 []),(3,AV.val (Ty.int IntKind.i64) (Prod.fst (List.getD v19 (Int.toNat v21) ((0:Int),[],())))),(19,AV.val (Ty.slc false (Ty.pair (Ty.int IntKind.i64) (Ty.pair Ty.str Ty.unit))) v19),(20,AV.val (Ty.int IntKind.i64) v20),(21,AV.val (Ty.int IntKind.i64) (v21+(1:Int)))] [(1,Ent.var (Ty.pair (Ty.int IntKind.i64) (Ty.pair (Ty.slc false (Ty.pair (Ty.int IntKind.i64) (Ty.pair Ty.str Ty.unit))) Ty.unit)) (o1_1,o1_2_1,()))]))))))))) (.ret (((0:Int),()))):=by kernel_rfl
theorem ctoE_valid:ctoE.Valid Try.prog 39:=by
  refine Ctr.valid_of EtoE_ok rfl rfl Try.func39 (c:=bodyOf Try.prog 39) rfl rfl FtoE_ok rfl ?_
  rintro ⟨⟨(r:Int),(l:List ParcelD),⟨⟩⟩,⟨⟩⟩ - -
  refine exec_sound (n:=1000) EtoE_ok FtoE_ok ?_
  refine holds_of_eq (EtoE_t r l) ?_
  have key:∀ {x:Int},toE (r,l,())=x→((x,()):Int×Unit)=(toE (r,l,()),()):=by rintro x rfl; rfl
  have hd:toE (r,l,())=if inF r 0 16777215=false then 1 else if (16:Int)<l.length then 2 else firstE (earlyE r l) l.length:=rfl
  simp only [holds_cond,Tree.holds,true_and,true_implies,decide_eq_true_eq,decide_eq_false_iff_not,Bool.not_eq_true',Bool.not_eq_false',Int.toNat_natCast,inK_i64,List.length_set,List.length_cons,List.length_nil]
  refine ⟨fun a=>key (by rw [hd,if_pos a]),fun a=>?_⟩
  have hr:=inF_iff.1 a
  rw [if_neg (lnf a)] at hd
  refine ⟨fun a=>key (by rw [hd,if_pos a]),fun a=>?_⟩
  rw [if_neg a] at hd
  refine Reach.loopI EtoE_ok FtoE_ok (fun i:Nat=>EtoE_s7 (befE r l i) l (l.length:Int) (i:Int) r l) (fun i=>i≤l.length∧firstE (earlyE r l) i=0) (fun i=>l.length - i) 1000 (fun _=>⟨uniq_of rfl,uniq_of rfl⟩) ?_ 0 ⟨by omega,rfl⟩
  rintro i ⟨k1,k2⟩ - ih
  have k1:i≤l.length:=k1
  refine holds_of_eq (EtoE_l7 ..) ?_
  simp only [holds_cond,Tree.holds,true_and,true_implies,decide_eq_true_eq,decide_eq_false_iff_not,Bool.not_eq_true',Bool.not_eq_false',Int.toNat_natCast,inK_i64,List.length_set,List.length_cons,List.length_nil]
  have hE:earlyE r l i=if (l.getD i (0,[],())).1≤befE r l i then 4 else if r+16≤(l.getD i (0,[],())).1 then 4 else if llong (l.getD i (0,[],())).2.1=true then 4 else 0:=rfl
  have hB:befE r l (i+1)=(l.getD i (0,[],())).1:=rfl
  have stop:earlyE r l i=4→i<l.length→toE (r,l,())=4:=fun h9 hi=>by rw [hd,firstE_stop k2 (by rw [h9]; decide) hi,h9]
  have next:=fun (h:earlyE r l i=0) (hi:i<l.length)=>ih (i+1) ⟨by omega,firstE_step k2 h⟩ (by omega)
  rw [hB] at next
  generalize l.getD i (0,[],())=w at *
  obtain ⟨q,x,u⟩:=w
  simp only at hE next ⊢
  refine ⟨fun c=>⟨by omega,fun _=>⟨fun c1=>key (stop (by rw [hE,if_pos c1]) (by omega)),fun c1=>⟨by omega,fun _=>⟨fun c2=>key (stop (by rw [hE,if_neg c1,if_pos c2]) (by omega)),fun c2=>⟨fun c3=>key (stop (by rw [hE,if_neg c1,if_neg c2,if_pos c3]) (by omega)),fun c3=>⟨by omega,fun _=>next (by rw [hE,if_neg c1,if_neg c2,if_neg (by rw [c3]; simp)]) (by omega)⟩⟩⟩⟩⟩⟩,fun c=>key (by rw [hd,show l.length=i by omega,k2])⟩
end Go.Proofs.Ytegigiecamjobaa
