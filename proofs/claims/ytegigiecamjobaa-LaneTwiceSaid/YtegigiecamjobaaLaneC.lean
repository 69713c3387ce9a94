/- Two receivers that are the same. -/
import Derived.Test.YtegigiecamjobaaLaneB
namespace Go.Proofs.Ytegigiecamjobaa
open Go.Ex
set_option maxRecDepth 100000
theorem eqParcel {a b:ParcelD}:eqD (Ty.pair (Ty.int IntKind.i64) (Ty.pair Ty.str Ty.unit)) a b=true↔a=b:=by
  obtain ⟨a1,a2,a3⟩:=a
  obtain ⟨b1,b2,b3⟩:=b
  show (decide (a1=b1) && (decide ((a2:List UInt8)=b2) && decide ((a3:Unit)=b3)))=true↔_
  rw [Bool.and_eq_true,Bool.and_eq_true,decide_eq_true_eq,decide_eq_true_eq]
  constructor
  · rintro ⟨rfl,rfl,_⟩; rfl
  · intro h; cases h; exact ⟨rfl,rfl,by simp⟩
theorem eqParcelN {a b:ParcelD} (d:eqD (Ty.pair (Ty.int IntKind.i64) (Ty.pair Ty.str Ty.unit)) a b=false):¬ a=b:=fun h=>by rw [eqParcel.2 h] at d; cases d
def ceqP:Ctr:={ ps:=[.v (.slc false Parcel),.v (.slc false Parcel)],rs:=[.bool],pre:=fun _=>True,fn:=fun x=>(decide ((show List (ParcelD) from x.1)=(show List (ParcelD) from x.2.1)),()),out:=fun _=>() }
noncomputable def EeqP:Env:={ P:=Try.prog,tt:=tt,ctr:=[],res:=[Go.ResultVar.tmp 4],rs:=[Ty.bool],ps:=[PK.v (Ty.slc false (Ty.pair (Ty.int IntKind.i64) (Ty.pair Ty.str Ty.unit))),PK.v (Ty.slc false (Ty.pair (Ty.int IntKind.i64) (Ty.pair Ty.str Ty.unit)))],cuts:=[(4,[(0,none),(1,none),(12,none),(13,none)])],nt:=26 }
theorem EeqP_ok:EnvOk EeqP:=envOk tt_ok trivial
theorem FeqP_ok:FnOk EeqP Try.f87:=⟨rfl,rfl⟩
theorem EeqP_t (x0:List (Int×List UInt8×Unit)) (x1:List (Int×List UInt8×Unit)):exec EeqP 1000 [.code (bodyOf Try.prog 87)] (initSt ceqP.ps ((x0,x1,()))) =
  cond (decide ((↑(List.length x0):Int)≠(↑(List.length x1):Int))) (.ret ((false,()))) (.cut (loopAt (bodyOf Try.prog 87) 4).1 (loopAt (bodyOf Try.prog 87) 4).2 (St.mk [(0,AV.val (Ty.slc false (Ty.pair (Ty.int IntKind.i64) (Ty.pair Ty.str Ty.unit))) x0),(1,AV.val (Ty.slc false (Ty.pair (Ty.int IntKind.i64) (Ty.pair Ty.str Ty.unit))) x1),(12,AV.val (Ty.int IntKind.i64) (↑(List.length x0):Int)),(13,AV.val (Ty.int IntKind.i64) (0:Int))] [])):=by kernel_rfl
def EeqP_s4 (v0:List (Int×List UInt8×Unit)) (v1:List (Int×List UInt8×Unit)) (v12:Int) (v13:Int):St:=St.mk [(0,AV.val (Ty.slc false (Ty.pair (Ty.int IntKind.i64) (Ty.pair Ty.str Ty.unit))) v0),(1,AV.val (Ty.slc false (Ty.pair (Ty.int IntKind.i64) (Ty.pair Ty.str Ty.unit))) v1),(12,AV.val (Ty.int IntKind.i64) v12),(13,AV.val (Ty.int IntKind.i64) v13)] []
theorem EeqP_l4 (v0:List (Int×List UInt8×Unit)) (v1:List (Int×List UInt8×Unit)) (v12:Int) (v13:Int):exec EeqP 1000 (.code (loopAt (bodyOf Try.prog 87) 4).1::.inLoop (loopAt (bodyOf Try.prog 87) 4).1::(loopAt (bodyOf Try.prog 87) 4).2) (EeqP_s4 v0 v1 v12 v13) =
  cond (decide (v13<v12)) (.need ((0:Int)≤v13∧v13<(↑(List.length v0):Int)) (.need ((0:Int)≤v13∧v13<(↑(List.length v1):Int)) (cond (!eqD (Ty.pair (Ty.int IntKind.i64) (Ty.pair Ty.str Ty.unit)) (List.getD v0 (Int.toNat v13) ((0:Int),[],())) (List.getD v1 (Int.toNat v13) ((0:Int),[],()))) (.ret ((false,()))) (.need (inK IntKind.i64 (v13+(1:Int))) (.cut (loopAt (bodyOf Try.prog 87) 4).1 (loopAt (bodyOf Try.prog 87) 4).2 (St.mk [(0,AV.val (Ty.slc false (Ty.pair (Ty.int IntKind.i64) (Ty.pair Ty.str Ty.unit))) v0),(1,AV.val (Ty.slc false (Ty.pair (Ty.int IntKind.i64) (Ty.pair Ty.str Ty.unit))) v1),(12,AV.val (Ty.int IntKind.i64) v12),(13,AV.val (Ty.int IntKind.i64) (v13+(1:Int)))] [])))))) (.ret ((true,()))):=by kernel_rfl
theorem ceqP_valid:ceqP.Valid Try.prog 87:=by
  refine Ctr.valid_of EeqP_ok rfl rfl Try.func87 (c:=bodyOf Try.prog 87) rfl rfl FeqP_ok rfl ?_
  rintro ⟨(l:List (ParcelD)),(m:List (ParcelD)),⟨⟩⟩ - ⟨⟨hl,-⟩,-⟩
  have hl:l.length≤9223372036854775807:=hl
  refine exec_sound (n:=1000) EeqP_ok FeqP_ok ?_
  refine holds_of_eq (EeqP_t l m) ?_
  have fin:∀ {b:Bool},(b=true↔l=m)→((b,()):Bool×Unit)=(decide (l=m),()):=fun {b} h=>by
    cases b with
    | true=>rw [decide_eq_true (h.1 rfl)]
    | false=>rw [decide_eq_false (fun e=>by cases h.2 e)]
  simp only [holds_cond,Tree.holds,true_and,true_implies,decide_eq_true_eq,decide_eq_false_iff_not,Bool.not_eq_true',Bool.not_eq_false',Int.toNat_natCast,inK_i64,List.length_set,List.length_cons,List.length_nil]
  refine ⟨fun c=>fin ⟨fun h=>(by cases h),fun h=>absurd (congrArg (fun q:List (ParcelD)=>(q.length:Int)) h) c⟩,fun c=>?_⟩
  refine Reach.loopI EeqP_ok FeqP_ok (fun i:Nat=>EeqP_s4 l m (l.length:Int) (i:Int)) (fun i=>i≤l.length∧∀ j,j<i→l.getD j (0,[],())=m.getD j (0,[],()))
    (fun i=>l.length - i) 1000 (fun _=>⟨uniq_of rfl,uniq_of rfl⟩) ?_ 0 ⟨Nat.zero_le _,fun j hj=>by omega⟩
  rintro i ⟨k1,k2⟩ - ih
  refine holds_of_eq (EeqP_l4 ..) ?_
  have c:l.length=m.length:=by omega
  simp only [holds_cond,Tree.holds,true_and,true_implies,decide_eq_true_eq,decide_eq_false_iff_not,Bool.not_eq_true',Bool.not_eq_false',Int.toNat_natCast,inK_i64,List.length_set,List.length_cons,List.length_nil]
  refine ⟨fun d1=>⟨by omega,fun _=>⟨by omega,fun _=>⟨fun d2=>fin ⟨fun h=>(by cases h),fun h=>absurd (congrArg (fun q:List (ParcelD)=>q.getD i (0,[],())) h) (eqParcelN d2)⟩,fun d2=>⟨by omega,fun _=>ih (i+1) ⟨by omega,fun j hj=>?_⟩ (by omega)⟩⟩⟩⟩,fun d1=>fin ⟨fun _=>eq_of_getD c (fun j hj=>k2 j (by omega)),fun _=>rfl⟩⟩
  rcases Nat.lt_or_ge j i with h|h
  · exact k2 j h
  · obtain rfl:j=i:=by omega
    exact eqParcel.1 d2
def sameTo (a b:ToD):Bool:=decide (a.1=b.1) && decide (a.2.1=b.2.1)
def csameTo:Ctr:={ ps:=[.v ToT,.v ToT],rs:=[.bool],pre:=fun _=>True,fn:=fun x=>(sameTo x.1 x.2.1,()),out:=fun _=>() }
noncomputable def EsameTo:Env:={ P:=Try.prog,tt:=tt,ctr:=[(87,ceqP)],res:=[Go.ResultVar.tmp 4],rs:=[Ty.bool],ps:=[PK.v (Ty.pair (Ty.int IntKind.i64) (Ty.pair (Ty.slc false (Ty.pair (Ty.int IntKind.i64) (Ty.pair Ty.str Ty.unit))) Ty.unit)),PK.v (Ty.pair (Ty.int IntKind.i64) (Ty.pair (Ty.slc false (Ty.pair (Ty.int IntKind.i64) (Ty.pair Ty.str Ty.unit))) Ty.unit))],cuts:=[],nt:=17 }
theorem EsameTo_ok:EnvOk EsameTo:=envOk tt_ok ⟨ceqP_valid,trivial⟩
theorem FsameTo_ok:FnOk EsameTo Try.f38:=⟨rfl,rfl⟩
theorem EsameTo_t (x0_1:Int) (x0_2_1:List (Int×List UInt8×Unit)) (x1_1:Int) (x1_2_1:List (Int×List UInt8×Unit)):exec EsameTo 1000 [.code (bodyOf Try.prog 38)] (initSt csameTo.ps (((x0_1,x0_2_1,()),(x1_1,x1_2_1,()),()))) =
  cond (decide (x0_1=x1_1)) (.need (True) (.ret ((decide (x0_2_1=x1_2_1),())))) (.ret ((false,()))):=by kernel_rfl
theorem csameTo_valid:csameTo.Valid Try.prog 38:=by
  refine Ctr.valid_of EsameTo_ok rfl rfl Try.func38 (c:=bodyOf Try.prog 38) rfl rfl FsameTo_ok rfl ?_
  rintro ⟨⟨(r:Int),(l:List ParcelD),⟨⟩⟩,⟨(q:Int),(m:List ParcelD),⟨⟩⟩,⟨⟩⟩ - -
  refine exec_sound (n:=1000) EsameTo_ok FsameTo_ok ?_
  refine holds_of_eq (EsameTo_t r l q m) ?_
  have key:∀ {x:Bool},sameTo (r,l,()) (q,m,())=x→((x,()):Bool×Unit)=(sameTo (r,l,()) (q,m,()),()):=by rintro x rfl; rfl
  have hd:sameTo (r,l,()) (q,m,())=(decide (r=q) && decide (l=m)):=rfl
  simp only [holds_cond,Tree.holds,true_and,true_implies,decide_eq_true_eq,decide_eq_false_iff_not,Bool.not_eq_true',Bool.not_eq_false',Int.toNat_natCast,inK_i64,List.length_set,List.length_cons,List.length_nil]
  refine ⟨fun e=>key ?_,fun e=>key ?_⟩
  · rw [hd,decide_eq_true e,Bool.true_and]
  · rw [hd,decide_eq_false e,Bool.false_and]
end Go.Proofs.Ytegigiecamjobaa
