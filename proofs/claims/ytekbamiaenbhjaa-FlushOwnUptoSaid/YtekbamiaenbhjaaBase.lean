/- Small contracts: Rest, few, equality and search in lists of numbers; what deleting leaves. No condition but those named. -/
import Derived.Test.YtekbamiaenbhjaaUtil
namespace Go.Proofs.Ytekbamiaenbhjaa
open Go.Ex
set_option maxRecDepth 100000
def inF (n a b:Int):Bool:=decide (a≤n) && decide (n≤b)
theorem inF_iff {n a b:Int}:inF n a b=true↔a≤n∧n≤b:=by simp [inF]
def firstE (f:Nat→Int):Nat→Int
  | 0=>0
  | k+1=>if firstE f k≠0 then firstE f k else f k
theorem firstE_stop {f:Nat→Int} {k:Nat} (h0:firstE f k=0) (h1:f k≠0):∀ {n:Nat},k<n→firstE f n=f k
  | 0,h=>by omega
  | n+1,h=>by
    by_cases e:k=n
    · subst e; simp [firstE,h0]
    · have:=firstE_stop h0 h1 (n:=n) (by omega)
      simp [firstE,this,h1]
theorem firstE_step {f:Nat→Int} {k:Nat} (h0:firstE f k=0) (h1:f k=0):firstE f (k+1)=0:=by simp [firstE,h0,h1]
theorem firstE_zero {f:Nat→Int}:∀ {n:Nat},firstE f n=0↔∀ k,k<n→f k=0
  | 0=>by simp [firstE]
  | n+1=>by
    constructor
    · intro h k hk
      have h2:firstE f n=0:=by
        by_cases e:firstE f n=0
        · exact e
        · rw [firstE,if_pos e] at h; exact absurd h e
      by_cases e:k=n
      · subst e; simpa [firstE,h2] using h
      · exact firstE_zero.1 h2 k (by omega)
    · intro h
      exact firstE_step (firstE_zero.2 (fun k hk=>h k (by omega))) (h n (by omega))
def ceqI:Ctr:={ ps:=[.v (.slc false I64),.v (.slc false I64)],rs:=[.bool],pre:=fun _=>True,fn:=fun x=>(decide ((show List (Int) from x.1)=(show List (Int) from x.2.1)),()),out:=fun _=>() }
noncomputable def EeqI:Env:={ P:=Try.prog,tt:=tt,ctr:=[],res:=[Go.ResultVar.tmp 4],rs:=[Ty.bool],ps:=[PK.v (Ty.slc false (Ty.int IntKind.i64)),PK.v (Ty.slc false (Ty.int IntKind.i64))],cuts:=[(4,[(0,none),(1,none),(12,none),(13,none)])],nt:=26 }
theorem EeqI_ok:EnvOk EeqI:=envOk tt_ok trivial
theorem FeqI_ok:FnOk EeqI Try.f19:=⟨rfl,rfl⟩
theorem EeqI_t (x0:List Int) (x1:List Int):exec EeqI 1000 [.code (bodyOf Try.prog 19)] (initSt ceqI.ps ((x0,x1,()))) =
  cond (decide ((↑(List.length x0):Int)≠(↑(List.length x1):Int))) (.ret ((false,()))) (.cut (loopAt (bodyOf Try.prog 19) 4).1 (loopAt (bodyOf Try.prog 19) 4).2 (St.mk [(0,AV.val (Ty.slc false (Ty.int IntKind.i64)) x0),(1,AV.val (Ty.slc false (Ty.int IntKind.i64)) x1),(12,AV.val (Ty.int IntKind.i64) (↑(List.length x0):Int)),(13,AV.val (Ty.int IntKind.i64) (0:Int))] [])):=by kernel_rfl
def EeqI_s4 (v0:List Int) (v1:List Int) (v12:Int) (v13:Int):St:=St.mk [(0,AV.val (Ty.slc false (Ty.int IntKind.i64)) v0),(1,AV.val (Ty.slc false (Ty.int IntKind.i64)) v1),(12,AV.val (Ty.int IntKind.i64) v12),(13,AV.val (Ty.int IntKind.i64) v13)] []
theorem EeqI_l4 (v0:List Int) (v1:List Int) (v12:Int) (v13:Int):exec EeqI 1000 (.code (loopAt (bodyOf Try.prog 19) 4).1::.inLoop (loopAt (bodyOf Try.prog 19) 4).1::(loopAt (bodyOf Try.prog 19) 4).2) (EeqI_s4 v0 v1 v12 v13) =
  cond (decide (v13<v12)) (.need ((0:Int)≤v13∧v13<(↑(List.length v0):Int)) (.need ((0:Int)≤v13∧v13<(↑(List.length v1):Int)) (cond (decide (List.getD v0 (Int.toNat v13) (0:Int)≠List.getD v1 (Int.toNat v13) (0:Int))) (.ret ((false,()))) (.need (inK IntKind.i64 (v13+(1:Int))) (.cut (loopAt (bodyOf Try.prog 19) 4).1 (loopAt (bodyOf Try.prog 19) 4).2 (St.mk [(0,AV.val (Ty.slc false (Ty.int IntKind.i64)) v0),(1,AV.val (Ty.slc false (Ty.int IntKind.i64)) v1),(12,AV.val (Ty.int IntKind.i64) v12),(13,AV.val (Ty.int IntKind.i64) (v13+(1:Int)))] [])))))) (.ret ((true,()))):=by kernel_rfl
theorem ceqI_valid:ceqI.Valid Try.prog 19:=by
  refine Ctr.valid_of EeqI_ok rfl rfl Try.func19 (c:=bodyOf Try.prog 19) rfl rfl FeqI_ok rfl ?_
  rintro ⟨(l:List (Int)),(m:List (Int)),⟨⟩⟩ - ⟨⟨hl,-⟩,-⟩
  have hl:l.length≤9223372036854775807:=hl
  refine exec_sound (n:=1000) EeqI_ok FeqI_ok ?_
  refine holds_of_eq (EeqI_t l m) ?_
  have fin:∀ {b:Bool},(b=true↔l=m)→((b,()):Bool×Unit)=(decide (l=m),()):=fun {b} h=>by
    cases b with
    | true=>rw [decide_eq_true (h.1 rfl)]
    | false=>rw [decide_eq_false (fun e=>by cases h.2 e)]
  simp only [holds_cond,Tree.holds,true_and,true_implies,decide_eq_true_eq,decide_eq_false_iff_not,Bool.not_eq_true',Bool.not_eq_false',Int.toNat_natCast,inK_i64,List.length_set,List.length_cons,List.length_nil]
  refine ⟨fun c=>fin ⟨fun h=>(by cases h),fun h=>absurd (congrArg (fun q:List (Int)=>(q.length:Int)) h) c⟩,fun c=>?_⟩
  refine Reach.loopI EeqI_ok FeqI_ok (fun i:Nat=>EeqI_s4 l m (l.length:Int) (i:Int)) (fun i=>i≤l.length∧∀ j,j<i→l.getD j 0=m.getD j 0)
    (fun i=>l.length - i) 1000 (fun _=>⟨uniq_of rfl,uniq_of rfl⟩) ?_ 0 ⟨Nat.zero_le _,fun j hj=>by omega⟩
  rintro i ⟨k1,k2⟩ - ih
  refine holds_of_eq (EeqI_l4 ..) ?_
  have c:l.length=m.length:=by omega
  simp only [holds_cond,Tree.holds,true_and,true_implies,decide_eq_true_eq,decide_eq_false_iff_not,Bool.not_eq_true',Bool.not_eq_false',Int.toNat_natCast,inK_i64,List.length_set,List.length_cons,List.length_nil]
  refine ⟨fun d1=>⟨by omega,fun _=>⟨by omega,fun _=>⟨fun d2=>fin ⟨fun h=>(by cases h),fun h=>absurd (congrArg (fun q:List (Int)=>q.getD i 0) h) (d2)⟩,fun d2=>⟨by omega,fun _=>ih (i+1) ⟨by omega,fun j hj=>?_⟩ (by omega)⟩⟩⟩⟩,fun d1=>fin ⟨fun _=>eq_of_getD c (fun j hj=>k2 j (by omega)),fun _=>rfl⟩⟩
  rcases Nat.lt_or_ge j i with h|h
  · exact k2 j h
  · obtain rfl:j=i:=by omega
    exact Decidable.not_not.1 d2
def cidxI:Ctr:={ ps:=[.v (.slc false I64),.v I64],rs:=[I64],pre:=fun _=>True,fn:=fun x=>(idxOf (fun y=>decide ((show Int from x.2.1)=y)) x.1,()),out:=fun _=>() }
noncomputable def EidxI:Env:={ P:=Try.prog,tt:=tt,ctr:=[],res:=[Go.ResultVar.tmp 4],rs:=[Ty.int IntKind.i64],ps:=[PK.v (Ty.slc false (Ty.int IntKind.i64)),PK.v (Ty.int IntKind.i64)],cuts:=[(2,[(0,none),(1,none),(7,none),(8,none)])],nt:=19 }
theorem EidxI_ok:EnvOk EidxI:=envOk tt_ok trivial
theorem FidxI_ok:FnOk EidxI Try.f152:=⟨rfl,rfl⟩
theorem EidxI_t (x0:List Int) (x1:Int):exec EidxI 1000 [.code (bodyOf Try.prog 152)] (initSt cidxI.ps ((x0,x1,()))) =
  .cut (loopAt (bodyOf Try.prog 152) 2).1 (loopAt (bodyOf Try.prog 152) 2).2 (St.mk [(0,AV.val (Ty.slc false (Ty.int IntKind.i64)) x0),(1,AV.val (Ty.int IntKind.i64) x1),(7,AV.val (Ty.int IntKind.i64) (↑(List.length x0):Int)),(8,AV.val (Ty.int IntKind.i64) (0:Int))] []):=by kernel_rfl
def EidxI_s2 (v0:List Int) (v1:Int) (v7:Int) (v8:Int):St:=St.mk [(0,AV.val (Ty.slc false (Ty.int IntKind.i64)) v0),(1,AV.val (Ty.int IntKind.i64) v1),(7,AV.val (Ty.int IntKind.i64) v7),(8,AV.val (Ty.int IntKind.i64) v8)] []
theorem EidxI_l2 (v0:List Int) (v1:Int) (v7:Int) (v8:Int):exec EidxI 1000 (.code (loopAt (bodyOf Try.prog 152) 2).1::.inLoop (loopAt (bodyOf Try.prog 152) 2).1::(loopAt (bodyOf Try.prog 152) 2).2) (EidxI_s2 v0 v1 v7 v8) =
  cond (decide (v8<v7)) (.need ((0:Int)≤v8∧v8<(↑(List.length v0):Int)) (cond (decide (v1=List.getD v0 (Int.toNat v8) (0:Int))) (.ret ((v8,()))) (.need (inK IntKind.i64 (v8+(1:Int))) (.cut (loopAt (bodyOf Try.prog 152) 2).1 (loopAt (bodyOf Try.prog 152) 2).2 (St.mk [(0,AV.val (Ty.slc false (Ty.int IntKind.i64)) v0),(1,AV.val (Ty.int IntKind.i64) v1),(7,AV.val (Ty.int IntKind.i64) v7),(8,AV.val (Ty.int IntKind.i64) (v8+(1:Int)))] []))))) (.ret (((-1:Int),()))):=by kernel_rfl
theorem cidxI_valid:cidxI.Valid Try.prog 152:=by
  refine Ctr.valid_of EidxI_ok rfl rfl Try.func152 (c:=bodyOf Try.prog 152) rfl rfl FidxI_ok rfl ?_
  rintro ⟨(l:List (Int)),(x:Int),⟨⟩⟩ - ⟨⟨hl,-⟩,-⟩
  have hl:l.length≤9223372036854775807:=hl
  refine exec_sound (n:=1000) EidxI_ok FidxI_ok ?_
  refine holds_of_eq (EidxI_t l x) ?_
  refine Reach.loopI EidxI_ok FidxI_ok (fun i:Nat=>EidxI_s2 l x (l.length:Int) (i:Int) ) (fun i=>i≤l.length∧idxOf (fun y=>decide (x=y)) l=idxGo (fun y=>decide (x=y)) (l.drop i) i)
    (fun i=>l.length - i) 1000 (fun _=>⟨uniq_of rfl,uniq_of rfl⟩) ?_ 0 ⟨by omega,rfl⟩
  rintro i ⟨k1,k2⟩ - ih
  refine holds_of_eq (EidxI_l2 ..) ?_
  simp only [holds_cond,Tree.holds,true_and,true_implies,decide_eq_true_eq,decide_eq_false_iff_not,Bool.not_eq_true',Bool.not_eq_false',Int.toNat_natCast,inK_i64,List.length_set,List.length_cons,List.length_nil]
  refine ⟨fun h=>?_,fun h=>?_⟩
  · rw [drop_getD (show i<l.length by omega) 0,idxGo] at k2
    have key:∀ b:Bool,(b=true↔x=l.getD i 0)→(b=true→(((i:Int),()):Int×Unit)=(idxOf (fun y=>decide (x=y)) l,()))∧(b=false→idxOf (fun y=>decide (x=y)) l=idxGo (fun y=>decide (x=y)) (l.drop (i+1)) (i+1)):=fun b hb=>by
      refine ⟨fun c=>?_,fun c=>?_⟩
      · rw [k2,if_pos (decide_eq_true (hb.1 c))]
      · rw [k2,if_neg (fun h9=>by rw [hb.2 (of_decide_eq_true h9)] at c; cases c)]
    refine ⟨by omega,fun _=>⟨fun c=>?_,fun c=>⟨by omega,fun _=>ih (i+1) ⟨by omega,?_⟩ (by omega)⟩⟩⟩
    · exact (key true ⟨fun _=>c,fun _=>rfl⟩).1 rfl
    · exact (key false ⟨fun h9=>(by cases h9),fun h9=>(c h9).elim⟩).2 rfl
  · rw [List.drop_eq_nil_of_le (by omega)] at k2
    show (((-1:Int),()):Int×Unit)=(idxOf (fun y=>decide (x=y)) l,())
    rw [k2]; rfl
def ccontI:Ctr:={ ps:=[.v (.slc false I64),.v I64],rs:=[.bool],pre:=fun _=>True,fn:=fun x=>(decide ((show Int from x.2.1)∈(show List (Int) from x.1)),()),out:=fun _=>() }
noncomputable def EcontI:Env:={ P:=Try.prog,tt:=tt,ctr:=[(152,cidxI)],res:=[Go.ResultVar.tmp 4],rs:=[Ty.bool],ps:=[PK.v (Ty.slc false (Ty.int IntKind.i64)),PK.v (Ty.int IntKind.i64)],cuts:=[],nt:=9 }
theorem EcontI_ok:EnvOk EcontI:=envOk tt_ok ⟨cidxI_valid,trivial⟩
theorem FcontI_ok:FnOk EcontI Try.f48:=⟨rfl,rfl⟩
theorem EcontI_t (x0:List Int) (x1:Int):exec EcontI 1000 [.code (bodyOf Try.prog 48)] (initSt ccontI.ps ((x0,x1,()))) =
  .need (True) (.ret ((decide ((0:Int)≤idxOf (fun y=>decide (x1=y)) x0),()))):=by kernel_rfl
theorem ccontI_valid:ccontI.Valid Try.prog 48:=by
  refine Ctr.valid_of EcontI_ok rfl rfl Try.func48 (c:=bodyOf Try.prog 48) rfl rfl FcontI_ok rfl ?_
  rintro ⟨(l:List (Int)),(x:Int),⟨⟩⟩ - -
  refine exec_sound (n:=1000) EcontI_ok FcontI_ok ?_
  refine holds_of_eq (EcontI_t l x) ?_
  refine ⟨trivial,fun _=>?_⟩
  show ((decide (0≤idxOf (fun y=>decide (x=y)) l),()):Bool×Unit)=(decide (x∈l),())
  rw [idx_any]
  have:l.any (fun y=>decide (x=y))=true↔x∈l:=by
    rw [List.any_eq_true]
    exact ⟨fun ⟨y,h1,h2⟩=>by rw [of_decide_eq_true h2]; exact h1,fun h=>⟨x,h,decide_eq_true rfl⟩⟩
  cases e:l.any (fun y=>decide (x=y)) with
  | true=>rw [decide_eq_true (this.1 e)]
  | false=>rw [decide_eq_false (fun h=>by rw [this.2 h] at e; cases e)]
theorem wbclI:Ty.wb I64=8:=rfl
def cclI:Ctr:={ ps:=[.v (.slc false I64)],rs:=[.slc true I64],pre:=fun x=>List.length (α:=Int) x.1≤1048576,fn:=fun x=>x,out:=fun _=>() }
noncomputable def EclI:Env:={ P:=Try.prog,tt:=tt,ctr:=[],res:=[Go.ResultVar.tmp 2],rs:=[Ty.slc true (Ty.int IntKind.i64)],ps:=[PK.v (Ty.slc false (Ty.int IntKind.i64))],cuts:=[],nt:=8 }
theorem EclI_ok:EnvOk EclI:=envOk tt_ok trivial
theorem FclI_ok:FnOk EclI Try.f78:=⟨rfl,rfl⟩
theorem EclI_t (x0:List Int):exec EclI 1000 [.code (bodyOf Try.prog 78)] (initSt cclI.ps ((x0,()))) =
  .both (x0=[]) (.ret (([],()))) (.need ((0:Nat)+List.length x0≤140737488355328∧((0:Nat)+List.length x0)*Ty.wb (Ty.int IntKind.i64)≤140737488355328) (.ret (([]++x0,())))):=by kernel_rfl
theorem cclI_valid:cclI.Valid Try.prog 78:=by
  refine Ctr.valid_of EclI_ok rfl rfl Try.func78 (c:=bodyOf Try.prog 78) rfl rfl FclI_ok rfl ?_
  rintro ⟨(l:List (Int)),⟨⟩⟩ hp -
  have hp:l.length≤1048576:=hp
  refine exec_sound (n:=1000) EclI_ok FclI_ok ?_
  refine holds_of_eq (EclI_t l) ?_
  simp only [holds_cond,Tree.holds,true_and,true_implies,decide_eq_true_eq,decide_eq_false_iff_not,Bool.not_eq_true',Bool.not_eq_false',Int.toNat_natCast,inK_i64,List.length_set,List.length_cons,List.length_nil,wbclI]
  refine ⟨fun h=>?_,by omega,fun _=>rfl⟩
  show (([],()):List (Int)×Unit)=(l,())
  rw [show l=[] from h]
end Go.Proofs.Ytekbamiaenbhjaa
