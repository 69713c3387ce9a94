/- ample, stays, spoil at uint16, api.Voter, api.Round. -/
import Derived.Test.YtekbamiaenbhjaaOwnR
namespace Go.Proofs.Ytekbamiaenbhjaa
open Go.Ex
set_option maxRecDepth 100000
theorem a5P {a b:r8}:D9 (Ty.pair (Ty.int IntKind.i64) (Ty.pair (Ty.int IntKind.i64) (Ty.pair Ty.str Ty.unit))) a b=true↔a=b:=by
  obtain ⟨a1,a2,a3,⟨⟩⟩:=a
  obtain ⟨b1,b2,b3,⟨⟩⟩:=b
  show (decide (a1=b1) && (decide (a2=b2) && (decide ((a3:List UInt8)=b3) && true)))=true↔_
  simp
theorem b1p {a b:r8} (h:D9 (Ty.pair (Ty.int IntKind.i64) (Ty.pair (Ty.int IntKind.i64) (Ty.pair Ty.str Ty.unit))) a b=false):¬ a=b:=fun e=>by rw [a5P.2 e] at h; cases h
theorem a5Q {a b:j9}:D9 (Ty.pair (Ty.int IntKind.i64) (Ty.pair (Ty.int IntKind.i64) (Ty.pair (Ty.int IntKind.u8) (Ty.pair (Ty.int IntKind.u8) (Ty.pair Ty.bool (Ty.pair Ty.str Ty.unit)))))) a b=true↔a=b:=by
  obtain ⟨a1,a2,a3,a4,a5,a6,⟨⟩⟩:=a
  obtain ⟨b1,b2,b3,b4,b5,b6,⟨⟩⟩:=b
  show (decide (a1=b1) && (decide (a2=b2) && (decide (a3=b3) && (decide (a4=b4) && ((a5 == b5) && (decide ((a6:List UInt8)=b6) && true))))))=true↔_
  simp
theorem b1q {a b:j9} (h:D9 (Ty.pair (Ty.int IntKind.i64) (Ty.pair (Ty.int IntKind.i64) (Ty.pair (Ty.int IntKind.u8) (Ty.pair (Ty.int IntKind.u8) (Ty.pair Ty.bool (Ty.pair Ty.str Ty.unit)))))) a b=false):¬ a=b:=fun e=>by rw [a5Q.2 e] at h; cases h
abbrev vz:r8:=(0,0,ez,())
abbrev rz:j9:=(0,0,0,0,false,ez,())
def b6n:p7:={ ps:=[.v (.b7 false D3),.v (.b7 false D3)],rs:=[.bool],pre:=fun _=>True,fn:=fun x=>(decide ((show List (Int) from x.1)=(show List (Int) from x.2.1)),()),out:=fun _=>() }
noncomputable def b7d:Env:={ P:=Try.prog,tt:=tt,A3:=[],res:=[Go.ResultVar.tmp 4],rs:=[Ty.bool],ps:=[PK.v (Ty.b7 false (Ty.int IntKind.u16)),PK.v (Ty.b7 false (Ty.int IntKind.u16))],x7:=[(4,[(0,none),(1,none),(12,none),(13,none)])],nt:=26 }
theorem a82:u5 b7d:=w7 p9 trivial
theorem a8S:y9 b7d Try.f106:=⟨rfl,rfl⟩
theorem c3K (x0:List Int) (x1:List Int):exec b7d 1000 [.code (b8 Try.prog 106)] (s6 b6n.ps ((x0,x1,()))) =
  cond (decide ((↑(List.length x0):Int)≠(↑(List.length x1):Int))) (.ret ((false,()))) (.cut (e8 (b8 Try.prog 106) 4).1 (e8 (b8 Try.prog 106) 4).2 (St.mk [(0,AV.val (Ty.b7 false (Ty.int IntKind.u16)) x0),(1,AV.val (Ty.b7 false (Ty.int IntKind.u16)) x1),(12,AV.val (Ty.int IntKind.i64) (↑(List.length x0):Int)),(13,AV.val (Ty.int IntKind.i64) (0:Int))] [])):=by kernel_rfl
def b5l (v0:List Int) (v1:List Int) (v12:Int) (v13:Int):St:=St.mk [(0,AV.val (Ty.b7 false (Ty.int IntKind.u16)) v0),(1,AV.val (Ty.b7 false (Ty.int IntKind.u16)) v1),(12,AV.val (Ty.int IntKind.i64) v12),(13,AV.val (Ty.int IntKind.i64) v13)] []
theorem c2r (v0:List Int) (v1:List Int) (v12:Int) (v13:Int):exec b7d 1000 (.code (e8 (b8 Try.prog 106) 4).1::.inLoop (e8 (b8 Try.prog 106) 4).1::(e8 (b8 Try.prog 106) 4).2) (b5l v0 v1 v12 v13) =
  cond (decide (v13<v12)) (.d8 ((0:Int)≤v13∧v13<(↑(List.length v0):Int)) (.d8 ((0:Int)≤v13∧v13<(↑(List.length v1):Int)) (cond (decide (List.getD v0 (Int.toNat v13) (0:Int)≠List.getD v1 (Int.toNat v13) (0:Int))) (.ret ((false,()))) (.d8 (u7 IntKind.i64 (v13+(1:Int))) (.cut (e8 (b8 Try.prog 106) 4).1 (e8 (b8 Try.prog 106) 4).2 (St.mk [(0,AV.val (Ty.b7 false (Ty.int IntKind.u16)) v0),(1,AV.val (Ty.b7 false (Ty.int IntKind.u16)) v1),(12,AV.val (Ty.int IntKind.i64) v12),(13,AV.val (Ty.int IntKind.i64) (v13+(1:Int)))] [])))))) (.ret ((true,()))):=by kernel_rfl
theorem a7I:b6n.Valid Try.prog 106:=by
  refine p7.o8 a82 rfl rfl Try.func106 (c:=b8 Try.prog 106) rfl rfl a8S rfl ?_
  rintro ⟨(l:List (Int)),(m:List (Int)),⟨⟩⟩ - ⟨⟨hl,-⟩,-⟩
  have hl:l.length≤9223372036854775807:=hl
  refine j8 (n:=1000) a82 a8S ?_
  refine g9 (c3K l m) ?_
  have fin:∀ {b:Bool},(b=true↔l=m)→((b,()):Bool×Unit)=(decide (l=m),()):=fun {b} h=>by
    cases b with
    | true=>rw [decide_eq_true (h.1 rfl)]
    | false=>rw [decide_eq_false (fun e=>by cases h.2 e)]
  simp only [o5,Tree.holds,true_and,true_implies,decide_eq_true_eq,decide_eq_false_iff_not,Bool.not_eq_true',Bool.not_eq_false',Int.toNat_natCast,q8,List.length_set,List.length_cons,List.length_nil]
  refine ⟨fun c=>fin ⟨fun h=>(by cases h),fun h=>absurd (congrArg (fun q:List (Int)=>(q.length:Int)) h) c⟩,fun c=>?_⟩
  refine Reach.K9 a82 a8S (fun i:Nat=>b5l l m (l.length:Int) (i:Int)) (fun i=>i≤l.length∧∀ j,j<i→l.getD j 0=m.getD j 0)
    (fun i=>l.length - i) 1000 (fun _=>⟨u3 rfl,u3 rfl⟩) ?_ 0 ⟨Nat.zero_le _,fun j hj=>by omega⟩
  rintro i ⟨k1,k2⟩ - ih
  refine g9 (c2r ..) ?_
  have c:l.length=m.length:=by omega
  simp only [o5,Tree.holds,true_and,true_implies,decide_eq_true_eq,decide_eq_false_iff_not,Bool.not_eq_true',Bool.not_eq_false',Int.toNat_natCast,q8,List.length_set,List.length_cons,List.length_nil]
  refine ⟨fun d1=>⟨by omega,fun _=>⟨by omega,fun _=>⟨fun d2=>fin ⟨fun h=>(by cases h),fun h=>absurd (congrArg (fun q:List (Int)=>q.getD i 0) h) (d2)⟩,fun d2=>⟨by omega,fun _=>ih (i+1) ⟨by omega,fun j hj=>?_⟩ (by omega)⟩⟩⟩⟩,fun d1=>fin ⟨fun _=>eq_of_getD c (fun j hj=>k2 j (by omega)),fun _=>rfl⟩⟩
  rcases Nat.lt_or_ge j i with h|h
  · exact k2 j h
  · obtain rfl:j=i:=by omega
    exact Decidable.not_not.1 d2
def b0y:p7:={ ps:=[.v (.b7 false R9),.v (.b7 false R9)],rs:=[.bool],pre:=fun _=>True,fn:=fun x=>(decide ((show List (r8) from x.1)=(show List (r8) from x.2.1)),()),out:=fun _=>() }
noncomputable def b0F:Env:={ P:=Try.prog,tt:=tt,A3:=[],res:=[Go.ResultVar.tmp 4],rs:=[Ty.bool],ps:=[PK.v (Ty.b7 false (Ty.pair (Ty.int IntKind.i64) (Ty.pair (Ty.int IntKind.i64) (Ty.pair Ty.str Ty.unit)))),PK.v (Ty.b7 false (Ty.pair (Ty.int IntKind.i64) (Ty.pair (Ty.int IntKind.i64) (Ty.pair Ty.str Ty.unit))))],x7:=[(4,[(0,none),(1,none),(12,none),(13,none)])],nt:=26 }
theorem a6Z:u5 b0F:=w7 p9 trivial
theorem a6T:y9 b0F Try.f216:=⟨rfl,rfl⟩
theorem c2q (x0:List (Int×Int×List UInt8×Unit)) (x1:List (Int×Int×List UInt8×Unit)):exec b0F 1000 [.code (b8 Try.prog 216)] (s6 b0y.ps ((x0,x1,()))) =
  cond (decide ((↑(List.length x0):Int)≠(↑(List.length x1):Int))) (.ret ((false,()))) (.cut (e8 (b8 Try.prog 216) 4).1 (e8 (b8 Try.prog 216) 4).2 (St.mk [(0,AV.val (Ty.b7 false (Ty.pair (Ty.int IntKind.i64) (Ty.pair (Ty.int IntKind.i64) (Ty.pair Ty.str Ty.unit)))) x0),(1,AV.val (Ty.b7 false (Ty.pair (Ty.int IntKind.i64) (Ty.pair (Ty.int IntKind.i64) (Ty.pair Ty.str Ty.unit)))) x1),(12,AV.val (Ty.int IntKind.i64) (↑(List.length x0):Int)),(13,AV.val (Ty.int IntKind.i64) (0:Int))] [])):=by kernel_rfl
def b28 (v0:List (Int×Int×List UInt8×Unit)) (v1:List (Int×Int×List UInt8×Unit)) (v12:Int) (v13:Int):St:=St.mk [(0,AV.val (Ty.b7 false (Ty.pair (Ty.int IntKind.i64) (Ty.pair (Ty.int IntKind.i64) (Ty.pair Ty.str Ty.unit)))) v0),(1,AV.val (Ty.b7 false (Ty.pair (Ty.int IntKind.i64) (Ty.pair (Ty.int IntKind.i64) (Ty.pair Ty.str Ty.unit)))) v1),(12,AV.val (Ty.int IntKind.i64) v12),(13,AV.val (Ty.int IntKind.i64) v13)] []
theorem c0D (v0:List (Int×Int×List UInt8×Unit)) (v1:List (Int×Int×List UInt8×Unit)) (v12:Int) (v13:Int):exec b0F 1000 (.code (e8 (b8 Try.prog 216) 4).1::.inLoop (e8 (b8 Try.prog 216) 4).1::(e8 (b8 Try.prog 216) 4).2) (b28 v0 v1 v12 v13) =
  cond (decide (v13<v12)) (.d8 ((0:Int)≤v13∧v13<(↑(List.length v0):Int)) (.d8 ((0:Int)≤v13∧v13<(↑(List.length v1):Int)) (cond (!D9 (Ty.pair (Ty.int IntKind.i64) (Ty.pair (Ty.int IntKind.i64) (Ty.pair Ty.str Ty.unit))) (List.getD v0 (Int.toNat v13) ((0:Int),(0:Int),[],())) (List.getD v1 (Int.toNat v13) ((0:Int),(0:Int),[],()))) (.ret ((false,()))) (.d8 (u7 IntKind.i64 (v13+(1:Int))) (.cut (e8 (b8 Try.prog 216) 4).1 (e8 (b8 Try.prog 216) 4).2 (St.mk [(0,AV.val (Ty.b7 false (Ty.pair (Ty.int IntKind.i64) (Ty.pair (Ty.int IntKind.i64) (Ty.pair Ty.str Ty.unit)))) v0),(1,AV.val (Ty.b7 false (Ty.pair (Ty.int IntKind.i64) (Ty.pair (Ty.int IntKind.i64) (Ty.pair Ty.str Ty.unit)))) v1),(12,AV.val (Ty.int IntKind.i64) v12),(13,AV.val (Ty.int IntKind.i64) (v13+(1:Int)))] [])))))) (.ret ((true,()))):=by kernel_rfl
theorem a6j:b0y.Valid Try.prog 216:=by
  refine p7.o8 a6Z rfl rfl Try.func216 (c:=b8 Try.prog 216) rfl rfl a6T rfl ?_
  rintro ⟨(l:List (r8)),(m:List (r8)),⟨⟩⟩ - ⟨⟨hl,-⟩,-⟩
  have hl:l.length≤9223372036854775807:=hl
  refine j8 (n:=1000) a6Z a6T ?_
  refine g9 (c2q l m) ?_
  have fin:∀ {b:Bool},(b=true↔l=m)→((b,()):Bool×Unit)=(decide (l=m),()):=fun {b} h=>by
    cases b with
    | true=>rw [decide_eq_true (h.1 rfl)]
    | false=>rw [decide_eq_false (fun e=>by cases h.2 e)]
  simp only [o5,Tree.holds,true_and,true_implies,decide_eq_true_eq,decide_eq_false_iff_not,Bool.not_eq_true',Bool.not_eq_false',Int.toNat_natCast,q8,List.length_set,List.length_cons,List.length_nil]
  refine ⟨fun c=>fin ⟨fun h=>(by cases h),fun h=>absurd (congrArg (fun q:List (r8)=>(q.length:Int)) h) c⟩,fun c=>?_⟩
  refine Reach.K9 a6Z a6T (fun i:Nat=>b28 l m (l.length:Int) (i:Int)) (fun i=>i≤l.length∧∀ j,j<i→l.getD j vz=m.getD j vz)
    (fun i=>l.length - i) 1000 (fun _=>⟨u3 rfl,u3 rfl⟩) ?_ 0 ⟨Nat.zero_le _,fun j hj=>by omega⟩
  rintro i ⟨k1,k2⟩ - ih
  refine g9 (c0D ..) ?_
  have c:l.length=m.length:=by omega
  simp only [o5,Tree.holds,true_and,true_implies,decide_eq_true_eq,decide_eq_false_iff_not,Bool.not_eq_true',Bool.not_eq_false',Int.toNat_natCast,q8,List.length_set,List.length_cons,List.length_nil]
  refine ⟨fun d1=>⟨by omega,fun _=>⟨by omega,fun _=>⟨fun d2=>fin ⟨fun h=>(by cases h),fun h=>absurd (congrArg (fun q:List (r8)=>q.getD i vz) h) (b1p d2)⟩,fun d2=>⟨by omega,fun _=>ih (i+1) ⟨by omega,fun j hj=>?_⟩ (by omega)⟩⟩⟩⟩,fun d1=>fin ⟨fun _=>eq_of_getD c (fun j hj=>k2 j (by omega)),fun _=>rfl⟩⟩
  rcases Nat.lt_or_ge j i with h|h
  · exact k2 j h
  · obtain rfl:j=i:=by omega
    exact a5P.1 d2
def b0z:p7:={ ps:=[.v (.b7 false Round),.v (.b7 false Round)],rs:=[.bool],pre:=fun _=>True,fn:=fun x=>(decide ((show List (j9) from x.1)=(show List (j9) from x.2.1)),()),out:=fun _=>() }
noncomputable def b0G:Env:={ P:=Try.prog,tt:=tt,A3:=[],res:=[Go.ResultVar.tmp 4],rs:=[Ty.bool],ps:=[PK.v (Ty.b7 false (Ty.pair (Ty.int IntKind.i64) (Ty.pair (Ty.int IntKind.i64) (Ty.pair (Ty.int IntKind.u8) (Ty.pair (Ty.int IntKind.u8) (Ty.pair Ty.bool (Ty.pair Ty.str Ty.unit))))))),PK.v (Ty.b7 false (Ty.pair (Ty.int IntKind.i64) (Ty.pair (Ty.int IntKind.i64) (Ty.pair (Ty.int IntKind.u8) (Ty.pair (Ty.int IntKind.u8) (Ty.pair Ty.bool (Ty.pair Ty.str Ty.unit)))))))],x7:=[(4,[(0,none),(1,none),(12,none),(13,none)])],nt:=26 }
theorem a60:u5 b0G:=w7 p9 trivial
theorem a6U:y9 b0G Try.f217:=⟨rfl,rfl⟩
theorem c2t (x0:List (Int×Int×Int×Int×Bool×List UInt8×Unit)) (x1:List (Int×Int×Int×Int×Bool×List UInt8×Unit)):exec b0G 1000 [.code (b8 Try.prog 217)] (s6 b0z.ps ((x0,x1,()))) =
  cond (decide ((↑(List.length x0):Int)≠(↑(List.length x1):Int))) (.ret ((false,()))) (.cut (e8 (b8 Try.prog 217) 4).1 (e8 (b8 Try.prog 217) 4).2 (St.mk [(0,AV.val (Ty.b7 false (Ty.pair (Ty.int IntKind.i64) (Ty.pair (Ty.int IntKind.i64) (Ty.pair (Ty.int IntKind.u8) (Ty.pair (Ty.int IntKind.u8) (Ty.pair Ty.bool (Ty.pair Ty.str Ty.unit))))))) x0),(1,AV.val (Ty.b7 false (Ty.pair (Ty.int IntKind.i64) (Ty.pair (Ty.int IntKind.i64) (Ty.pair (Ty.int IntKind.u8) (Ty.pair (Ty.int IntKind.u8) (Ty.pair Ty.bool (Ty.pair Ty.str Ty.unit))))))) x1),(12,AV.val (Ty.int IntKind.i64) (↑(List.length x0):Int)),(13,AV.val (Ty.int IntKind.i64) (0:Int))] [])):=by kernel_rfl
def b29 (v0:List (Int×Int×Int×Int×Bool×List UInt8×Unit)) (v1:List (Int×Int×Int×Int×Bool×List UInt8×Unit)) (v12:Int) (v13:Int):St:=St.mk [(0,AV.val (Ty.b7 false (Ty.pair (Ty.int IntKind.i64) (Ty.pair (Ty.int IntKind.i64) (Ty.pair (Ty.int IntKind.u8) (Ty.pair (Ty.int IntKind.u8) (Ty.pair Ty.bool (Ty.pair Ty.str Ty.unit))))))) v0),(1,AV.val (Ty.b7 false (Ty.pair (Ty.int IntKind.i64) (Ty.pair (Ty.int IntKind.i64) (Ty.pair (Ty.int IntKind.u8) (Ty.pair (Ty.int IntKind.u8) (Ty.pair Ty.bool (Ty.pair Ty.str Ty.unit))))))) v1),(12,AV.val (Ty.int IntKind.i64) v12),(13,AV.val (Ty.int IntKind.i64) v13)] []
theorem c0E (v0:List (Int×Int×Int×Int×Bool×List UInt8×Unit)) (v1:List (Int×Int×Int×Int×Bool×List UInt8×Unit)) (v12:Int) (v13:Int):exec b0G 1000 (.code (e8 (b8 Try.prog 217) 4).1::.inLoop (e8 (b8 Try.prog 217) 4).1::(e8 (b8 Try.prog 217) 4).2) (b29 v0 v1 v12 v13) =
  cond (decide (v13<v12)) (.d8 ((0:Int)≤v13∧v13<(↑(List.length v0):Int)) (.d8 ((0:Int)≤v13∧v13<(↑(List.length v1):Int)) (cond (!D9 (Ty.pair (Ty.int IntKind.i64) (Ty.pair (Ty.int IntKind.i64) (Ty.pair (Ty.int IntKind.u8) (Ty.pair (Ty.int IntKind.u8) (Ty.pair Ty.bool (Ty.pair Ty.str Ty.unit)))))) (List.getD v0 (Int.toNat v13) ((0:Int),(0:Int),(0:Int),(0:Int),false,[],())) (List.getD v1 (Int.toNat v13) ((0:Int),(0:Int),(0:Int),(0:Int),false,[],()))) (.ret ((false,()))) (.d8 (u7 IntKind.i64 (v13+(1:Int))) (.cut (e8 (b8 Try.prog 217) 4).1 (e8 (b8 Try.prog 217) 4).2 (St.mk [(0,AV.val (Ty.b7 false (Ty.pair (Ty.int IntKind.i64) (Ty.pair (Ty.int IntKind.i64) (Ty.pair (Ty.int IntKind.u8) (Ty.pair (Ty.int IntKind.u8) (Ty.pair Ty.bool (Ty.pair Ty.str Ty.unit))))))) v0),(1,AV.val (Ty.b7 false (Ty.pair (Ty.int IntKind.i64) (Ty.pair (Ty.int IntKind.i64) (Ty.pair (Ty.int IntKind.u8) (Ty.pair (Ty.int IntKind.u8) (Ty.pair Ty.bool (Ty.pair Ty.str Ty.unit))))))) v1),(12,AV.val (Ty.int IntKind.i64) v12),(13,AV.val (Ty.int IntKind.i64) (v13+(1:Int)))] [])))))) (.ret ((true,()))):=by kernel_rfl
theorem a6k:b0z.Valid Try.prog 217:=by
  refine p7.o8 a60 rfl rfl Try.func217 (c:=b8 Try.prog 217) rfl rfl a6U rfl ?_
  rintro ⟨(l:List (j9)),(m:List (j9)),⟨⟩⟩ - ⟨⟨hl,-⟩,-⟩
  have hl:l.length≤9223372036854775807:=hl
  refine j8 (n:=1000) a60 a6U ?_
  refine g9 (c2t l m) ?_
  have fin:∀ {b:Bool},(b=true↔l=m)→((b,()):Bool×Unit)=(decide (l=m),()):=fun {b} h=>by
    cases b with
    | true=>rw [decide_eq_true (h.1 rfl)]
    | false=>rw [decide_eq_false (fun e=>by cases h.2 e)]
  simp only [o5,Tree.holds,true_and,true_implies,decide_eq_true_eq,decide_eq_false_iff_not,Bool.not_eq_true',Bool.not_eq_false',Int.toNat_natCast,q8,List.length_set,List.length_cons,List.length_nil]
  refine ⟨fun c=>fin ⟨fun h=>(by cases h),fun h=>absurd (congrArg (fun q:List (j9)=>(q.length:Int)) h) c⟩,fun c=>?_⟩
  refine Reach.K9 a60 a6U (fun i:Nat=>b29 l m (l.length:Int) (i:Int)) (fun i=>i≤l.length∧∀ j,j<i→l.getD j rz=m.getD j rz)
    (fun i=>l.length - i) 1000 (fun _=>⟨u3 rfl,u3 rfl⟩) ?_ 0 ⟨Nat.zero_le _,fun j hj=>by omega⟩
  rintro i ⟨k1,k2⟩ - ih
  refine g9 (c0E ..) ?_
  have c:l.length=m.length:=by omega
  simp only [o5,Tree.holds,true_and,true_implies,decide_eq_true_eq,decide_eq_false_iff_not,Bool.not_eq_true',Bool.not_eq_false',Int.toNat_natCast,q8,List.length_set,List.length_cons,List.length_nil]
  refine ⟨fun d1=>⟨by omega,fun _=>⟨by omega,fun _=>⟨fun d2=>fin ⟨fun h=>(by cases h),fun h=>absurd (congrArg (fun q:List (j9)=>q.getD i rz) h) (b1q d2)⟩,fun d2=>⟨by omega,fun _=>ih (i+1) ⟨by omega,fun j hj=>?_⟩ (by omega)⟩⟩⟩⟩,fun d1=>fin ⟨fun _=>eq_of_getD c (fun j hj=>k2 j (by omega)),fun _=>rfl⟩⟩
  rcases Nat.lt_or_ge j i with h|h
  · exact k2 j h
  · obtain rfl:j=i:=by omega
    exact a5Q.1 d2
theorem c2I:Ty.wb D3=2:=rfl
def b55:p7:={ ps:=[.v (.b7 false D3)],rs:=[.b7 true D3],pre:=fun x=>List.length (α:=Int) x.1≤1048576,fn:=fun x=>x,out:=fun _=>() }
noncomputable def b60:Env:={ P:=Try.prog,tt:=tt,A3:=[],res:=[Go.ResultVar.tmp 2],rs:=[Ty.b7 true (Ty.int IntKind.u16)],ps:=[PK.v (Ty.b7 false (Ty.int IntKind.u16))],x7:=[],nt:=8 }
theorem b2Q:u5 b60:=w7 p9 trivial
theorem b2r:y9 b60 Try.f116:=⟨rfl,rfl⟩
theorem c2b (x0:List Int):exec b60 1000 [.code (b8 Try.prog 116)] (s6 b55.ps ((x0,()))) =
  .both (x0=[]) (.ret (([],()))) (.d8 ((0:Nat)+List.length x0≤140737488355328∧((0:Nat)+List.length x0)*Ty.wb (Ty.int IntKind.u16)≤140737488355328) (.ret (([]++x0,())))):=by kernel_rfl
theorem b3J:b55.Valid Try.prog 116:=by
  refine p7.o8 b2Q rfl rfl Try.func116 (c:=b8 Try.prog 116) rfl rfl b2r rfl ?_
  rintro ⟨(l:List (Int)),⟨⟩⟩ hp -
  have hp:l.length≤1048576:=hp
  refine j8 (n:=1000) b2Q b2r ?_
  refine g9 (c2b l) ?_
  simp only [o5,Tree.holds,true_and,true_implies,decide_eq_true_eq,decide_eq_false_iff_not,Bool.not_eq_true',Bool.not_eq_false',Int.toNat_natCast,q8,List.length_set,List.length_cons,List.length_nil,c2I]
  refine ⟨fun h=>?_,by omega,fun _=>rfl⟩
  show (([],()):List (Int)×Unit)=(l,())
  rw [show l=[] from h]
def b6z:p7:={ ps:=[.v (.b7 false D3),.v D3],rs:=[.s4 D3],pre:=fun x=>List.length (α:=Int) x.1≤1048576,fn:=fun x=>((2,x.1,[x.2.1,x.2.1,(0:Int)]),()),out:=fun _=>() }
noncomputable def b7p:Env:={ P:=Try.prog,tt:=tt,A3:=[],res:=[Go.ResultVar.tmp 4],rs:=[Ty.s4 (Ty.int IntKind.u16)],ps:=[PK.v (Ty.b7 false (Ty.int IntKind.u16)),PK.v (Ty.int IntKind.u16)],x7:=[],nt:=20 }
theorem b3k:u5 b7p:=w7 p9 trivial
theorem b2I:y9 b7p Try.f107:=⟨rfl,rfl⟩
theorem c2D (x0:List Int) (x1:Int):exec b7p 1000 [.code (b8 Try.prog 107)] (s6 b6z.ps ((x0,x1,()))) =
  .d8 (u7 IntKind.i64 ((↑(List.length x0):Int)+(3:Int))) (.d8 ((1:Int)≤(↑(List.length x0):Int)+(3:Int)∧(0:Int)≤(0:Int)∧(0:Int)≤(↑(List.length x0):Int)+(3:Int)∧(↑(List.length x0):Int)+(3:Int)≤(140737488355328:Int)∧((↑(List.length x0):Int)+(3:Int))*(↑(Ty.wb (Ty.int IntKind.u16)):Int)≤(140737488355328:Int)) (.d8 (2=2∧List.length x0≤List.length (List.replicate (Int.toNat ((↑(List.length x0):Int)+(3:Int)) - Int.toNat (0:Int)) (0:Int))) (.d8 (2=2∧List.length (List.set (List.set [(0:Int),(0:Int)] (Int.toNat (↑0:Int)) x1) (Int.toNat (↑1:Int)) x1)≤List.length (List.drop (List.length x0) (List.replicate (Int.toNat ((↑(List.length x0):Int)+(3:Int)) - Int.toNat (0:Int)) (0:Int)))) (.d8 (2=2∧(0:Int)≤(↑(List.length x0):Int)∧(↑(List.length x0):Int)≤(↑(List.length (List.replicate (Int.toNat (0:Int)) (0:Int)++x0++List.set (List.set [(0:Int),(0:Int)] (Int.toNat (↑0:Int)) x1) (Int.toNat (↑1:Int)) x1)+List.length (List.drop (List.length (List.set (List.set [(0:Int),(0:Int)] (Int.toNat (↑0:Int)) x1) (Int.toNat (↑1:Int)) x1)) (List.drop (List.length x0) (List.replicate (Int.toNat ((↑(List.length x0):Int)+(3:Int)) - Int.toNat (0:Int)) (0:Int))))):Int)) (.ret (((2,List.take (Int.toNat (↑(List.length x0):Int)) (List.replicate (Int.toNat (0:Int)) (0:Int)++x0++List.set (List.set [(0:Int),(0:Int)] (Int.toNat (↑0:Int)) x1) (Int.toNat (↑1:Int)) x1++List.drop (List.length (List.set (List.set [(0:Int),(0:Int)] (Int.toNat (↑0:Int)) x1) (Int.toNat (↑1:Int)) x1)) (List.drop (List.length x0) (List.replicate (Int.toNat ((↑(List.length x0):Int)+(3:Int)) - Int.toNat (0:Int)) (0:Int)))),List.drop (Int.toNat (↑(List.length x0):Int)) (List.replicate (Int.toNat (0:Int)) (0:Int)++x0++List.set (List.set [(0:Int),(0:Int)] (Int.toNat (↑0:Int)) x1) (Int.toNat (↑1:Int)) x1++List.drop (List.length (List.set (List.set [(0:Int),(0:Int)] (Int.toNat (↑0:Int)) x1) (Int.toNat (↑1:Int)) x1)) (List.drop (List.length x0) (List.replicate (Int.toNat ((↑(List.length x0):Int)+(3:Int)) - Int.toNat (0:Int)) (0:Int))))),()))))))):=by kernel_rfl
theorem b39:b6z.Valid Try.prog 107:=by
  refine p7.o8 b3k rfl rfl Try.func107 (c:=b8 Try.prog 107) rfl rfl b2I rfl ?_
  rintro ⟨(l:List (Int)),(x:Int),⟨⟩⟩ (hp:l.length≤1048576) -
  refine j8 (n:=1000) b3k b2I ?_
  refine g9 (c2D l x) ?_
  obtain ⟨e1,e2⟩:=a5V l (x:Int) (0:Int)
  have e0:List.set (List.set [(0:Int),(0:Int)] (Int.toNat ((0:Nat):Int)) x) (Int.toNat ((1:Nat):Int)) x=[x,x]:=rfl
  have er:(List.replicate (Int.toNat ((l.length:Int)+3) - Int.toNat 0) (0:Int)).length=l.length+3:=by rw [List.length_replicate]; omega
  have ez:(List.replicate (Int.toNat 0) (0:Int)).length=0:=rfl
  have ew:Ty.wb D3≤1024:=by decide
  simp only [e0]
  refine ⟨q8.2 (by omega),fun _=>⟨⟨by omega,by omega,by omega,by omega,a6s ew (by omega)⟩,fun _=>⟨⟨trivial,by rw [er]; omega⟩,fun _=>⟨⟨trivial,by rw [List.length_drop,er]; show 2≤_; omega⟩,fun _=>⟨⟨trivial,by omega,?_⟩,fun _=>?_⟩⟩⟩⟩⟩
  · simp only [List.length_append,List.length_drop,er,ez]
    show (l.length:Int)≤((0+l.length+2+(l.length+3 - l.length - 2):Nat):Int)
    omega
  · exact congrArg (fun y=>(y,())) (Prod.ext rfl (Prod.ext e1 e2))
def b14:p7:={ ps:=[.v (.b7 false R9),.v R9],rs:=[.s4 R9],pre:=fun x=>List.length (α:=r8) x.1≤1048576,fn:=fun x=>((2,x.1,[x.2.1,x.2.1,(vz:r8)]),()),out:=fun _=>() }
noncomputable def b3j:Env:={ P:=Try.prog,tt:=tt,A3:=[],res:=[Go.ResultVar.tmp 4],rs:=[Ty.s4 (Ty.pair (Ty.int IntKind.i64) (Ty.pair (Ty.int IntKind.i64) (Ty.pair Ty.str Ty.unit)))],ps:=[PK.v (Ty.b7 false (Ty.pair (Ty.int IntKind.i64) (Ty.pair (Ty.int IntKind.i64) (Ty.pair Ty.str Ty.unit)))),PK.v (Ty.pair (Ty.int IntKind.i64) (Ty.pair (Ty.int IntKind.i64) (Ty.pair Ty.str Ty.unit)))],x7:=[],nt:=20 }
theorem a92:u5 b3j:=w7 p9 trivial
theorem a9O:y9 b3j Try.f108:=⟨rfl,rfl⟩
theorem c0H (x0:List (Int×Int×List UInt8×Unit)) (x1_1:Int) (x1_2_1:Int) (x1_2_2_1:List UInt8):exec b3j 1000 [.code (b8 Try.prog 108)] (s6 b14.ps ((x0,(x1_1,x1_2_1,x1_2_2_1,()),()))) =
  .d8 (u7 IntKind.i64 ((↑(List.length x0):Int)+(3:Int))) (.d8 ((1:Int)≤(↑(List.length x0):Int)+(3:Int)∧(0:Int)≤(0:Int)∧(0:Int)≤(↑(List.length x0):Int)+(3:Int)∧(↑(List.length x0):Int)+(3:Int)≤(140737488355328:Int)∧((↑(List.length x0):Int)+(3:Int))*(↑(Ty.wb (Ty.pair (Ty.int IntKind.i64) (Ty.pair (Ty.int IntKind.i64) (Ty.pair Ty.str Ty.unit)))):Int)≤(140737488355328:Int)) (.d8 (2=2∧List.length x0≤List.length (List.replicate (Int.toNat ((↑(List.length x0):Int)+(3:Int)) - Int.toNat (0:Int)) vz)) (.d8 (2=2∧List.length (List.set (List.set [vz,vz] (Int.toNat (↑0:Int)) (x1_1,x1_2_1,x1_2_2_1,())) (Int.toNat (↑1:Int)) (x1_1,x1_2_1,x1_2_2_1,()))≤List.length (List.drop (List.length x0) (List.replicate (Int.toNat ((↑(List.length x0):Int)+(3:Int)) - Int.toNat (0:Int)) vz))) (.d8 (2=2∧(0:Int)≤(↑(List.length x0):Int)∧(↑(List.length x0):Int)≤(↑(List.length (List.replicate (Int.toNat (0:Int)) vz++x0++List.set (List.set [vz,vz] (Int.toNat (↑0:Int)) (x1_1,x1_2_1,x1_2_2_1,())) (Int.toNat (↑1:Int)) (x1_1,x1_2_1,x1_2_2_1,()))+List.length (List.drop (List.length (List.set (List.set [vz,vz] (Int.toNat (↑0:Int)) (x1_1,x1_2_1,x1_2_2_1,())) (Int.toNat (↑1:Int)) (x1_1,x1_2_1,x1_2_2_1,()))) (List.drop (List.length x0) (List.replicate (Int.toNat ((↑(List.length x0):Int)+(3:Int)) - Int.toNat (0:Int)) vz)))):Int)) (.ret (((2,List.take (Int.toNat (↑(List.length x0):Int)) (List.replicate (Int.toNat (0:Int)) vz++x0++List.set (List.set [vz,vz] (Int.toNat (↑0:Int)) (x1_1,x1_2_1,x1_2_2_1,())) (Int.toNat (↑1:Int)) (x1_1,x1_2_1,x1_2_2_1,())++List.drop (List.length (List.set (List.set [vz,vz] (Int.toNat (↑0:Int)) (x1_1,x1_2_1,x1_2_2_1,())) (Int.toNat (↑1:Int)) (x1_1,x1_2_1,x1_2_2_1,()))) (List.drop (List.length x0) (List.replicate (Int.toNat ((↑(List.length x0):Int)+(3:Int)) - Int.toNat (0:Int)) vz))),List.drop (Int.toNat (↑(List.length x0):Int)) (List.replicate (Int.toNat (0:Int)) vz++x0++List.set (List.set [vz,vz] (Int.toNat (↑0:Int)) (x1_1,x1_2_1,x1_2_2_1,())) (Int.toNat (↑1:Int)) (x1_1,x1_2_1,x1_2_2_1,())++List.drop (List.length (List.set (List.set [vz,vz] (Int.toNat (↑0:Int)) (x1_1,x1_2_1,x1_2_2_1,())) (Int.toNat (↑1:Int)) (x1_1,x1_2_1,x1_2_2_1,()))) (List.drop (List.length x0) (List.replicate (Int.toNat ((↑(List.length x0):Int)+(3:Int)) - Int.toNat (0:Int)) vz)))),()))))))):=by kernel_rfl
theorem b13:b14.Valid Try.prog 108:=by
  refine p7.o8 a92 rfl rfl Try.func108 (c:=b8 Try.prog 108) rfl rfl a9O rfl ?_
  rintro ⟨(l:List (r8)),⟨(x0:Int),(x1:Int),(x2:List UInt8),⟨⟩⟩,⟨⟩⟩ (hp:l.length≤1048576) -
  refine j8 (n:=1000) a92 a9O ?_
  refine g9 (c0H l x0 x1 x2) ?_
  obtain ⟨e1,e2⟩:=a5V l ((x0,x1,x2,()):r8) (vz:r8)
  have e0:List.set (List.set [(vz:r8),(vz:r8)] (Int.toNat ((0:Nat):Int)) (x0,x1,x2,())) (Int.toNat ((1:Nat):Int)) (x0,x1,x2,())=[(x0,x1,x2,()),(x0,x1,x2,())]:=rfl
  have er:(List.replicate (Int.toNat ((l.length:Int)+3) - Int.toNat 0) (vz:r8)).length=l.length+3:=by rw [List.length_replicate]; omega
  have ez:(List.replicate (Int.toNat 0) (vz:r8)).length=0:=rfl
  have ew:Ty.wb R9≤1024:=by decide
  simp only [e0]
  refine ⟨q8.2 (by omega),fun _=>⟨⟨by omega,by omega,by omega,by omega,a6s ew (by omega)⟩,fun _=>⟨⟨trivial,by rw [er]; omega⟩,fun _=>⟨⟨trivial,by rw [List.length_drop,er]; show 2≤_; omega⟩,fun _=>⟨⟨trivial,by omega,?_⟩,fun _=>?_⟩⟩⟩⟩⟩
  · simp only [List.length_append,List.length_drop,er,ez]
    show (l.length:Int)≤((0+l.length+2+(l.length+3 - l.length - 2):Nat):Int)
    omega
  · exact congrArg (fun y=>(y,())) (Prod.ext rfl (Prod.ext e1 e2))
def b16:p7:={ ps:=[.v (.b7 false Round),.v Round],rs:=[.s4 Round],pre:=fun x=>List.length (α:=j9) x.1≤1048576,fn:=fun x=>((2,x.1,[x.2.1,x.2.1,(rz:j9)]),()),out:=fun _=>() }
noncomputable def b3l:Env:={ P:=Try.prog,tt:=tt,A3:=[],res:=[Go.ResultVar.tmp 4],rs:=[Ty.s4 (Ty.pair (Ty.int IntKind.i64) (Ty.pair (Ty.int IntKind.i64) (Ty.pair (Ty.int IntKind.u8) (Ty.pair (Ty.int IntKind.u8) (Ty.pair Ty.bool (Ty.pair Ty.str Ty.unit))))))],ps:=[PK.v (Ty.b7 false (Ty.pair (Ty.int IntKind.i64) (Ty.pair (Ty.int IntKind.i64) (Ty.pair (Ty.int IntKind.u8) (Ty.pair (Ty.int IntKind.u8) (Ty.pair Ty.bool (Ty.pair Ty.str Ty.unit))))))),PK.v (Ty.pair (Ty.int IntKind.i64) (Ty.pair (Ty.int IntKind.i64) (Ty.pair (Ty.int IntKind.u8) (Ty.pair (Ty.int IntKind.u8) (Ty.pair Ty.bool (Ty.pair Ty.str Ty.unit))))))],x7:=[],nt:=20 }
theorem a93:u5 b3l:=w7 p9 trivial
theorem a9P:y9 b3l Try.f109:=⟨rfl,rfl⟩
theorem c0I (x0:List (Int×Int×Int×Int×Bool×List UInt8×Unit)) (x1_1:Int) (x1_2_1:Int) (x1_2_2_1:Int) (x1_2_2_2_1:Int) (x1_2_2_2_2_1:Bool) (x1_2_2_2_2_2_1:List UInt8):exec b3l 1000 [.code (b8 Try.prog 109)] (s6 b16.ps ((x0,(x1_1,x1_2_1,x1_2_2_1,x1_2_2_2_1,x1_2_2_2_2_1,x1_2_2_2_2_2_1,()),()))) =
  .d8 (u7 IntKind.i64 ((↑(List.length x0):Int)+(3:Int))) (.d8 ((1:Int)≤(↑(List.length x0):Int)+(3:Int)∧(0:Int)≤(0:Int)∧(0:Int)≤(↑(List.length x0):Int)+(3:Int)∧(↑(List.length x0):Int)+(3:Int)≤(140737488355328:Int)∧((↑(List.length x0):Int)+(3:Int))*(↑(Ty.wb (Ty.pair (Ty.int IntKind.i64) (Ty.pair (Ty.int IntKind.i64) (Ty.pair (Ty.int IntKind.u8) (Ty.pair (Ty.int IntKind.u8) (Ty.pair Ty.bool (Ty.pair Ty.str Ty.unit))))))):Int)≤(140737488355328:Int)) (.d8 (2=2∧List.length x0≤List.length (List.replicate (Int.toNat ((↑(List.length x0):Int)+(3:Int)) - Int.toNat (0:Int)) rz)) (.d8 (2=2∧List.length (List.set (List.set [rz,rz] (Int.toNat (↑0:Int)) (x1_1,x1_2_1,x1_2_2_1,x1_2_2_2_1,x1_2_2_2_2_1,x1_2_2_2_2_2_1,())) (Int.toNat (↑1:Int)) (x1_1,x1_2_1,x1_2_2_1,x1_2_2_2_1,x1_2_2_2_2_1,x1_2_2_2_2_2_1,()))≤List.length (List.drop (List.length x0) (List.replicate (Int.toNat ((↑(List.length x0):Int)+(3:Int)) - Int.toNat (0:Int)) rz))) (.d8 (2=2∧(0:Int)≤(↑(List.length x0):Int)∧(↑(List.length x0):Int)≤(↑(List.length (List.replicate (Int.toNat (0:Int)) rz++x0++List.set (List.set [rz,rz] (Int.toNat (↑0:Int)) (x1_1,x1_2_1,x1_2_2_1,x1_2_2_2_1,x1_2_2_2_2_1,x1_2_2_2_2_2_1,())) (Int.toNat (↑1:Int)) (x1_1,x1_2_1,x1_2_2_1,x1_2_2_2_1,x1_2_2_2_2_1,x1_2_2_2_2_2_1,()))+List.length (List.drop (List.length (List.set (List.set [rz,rz] (Int.toNat (↑0:Int)) (x1_1,x1_2_1,x1_2_2_1,x1_2_2_2_1,x1_2_2_2_2_1,x1_2_2_2_2_2_1,())) (Int.toNat (↑1:Int)) (x1_1,x1_2_1,x1_2_2_1,x1_2_2_2_1,x1_2_2_2_2_1,x1_2_2_2_2_2_1,()))) (List.drop (List.length x0) (List.replicate (Int.toNat ((↑(List.length x0):Int)+(3:Int)) - Int.toNat (0:Int)) rz)))):Int)) (.ret (((2,List.take (Int.toNat (↑(List.length x0):Int)) (List.replicate (Int.toNat (0:Int)) rz++x0++List.set (List.set [rz,rz] (Int.toNat (↑0:Int)) (x1_1,x1_2_1,x1_2_2_1,x1_2_2_2_1,x1_2_2_2_2_1,x1_2_2_2_2_2_1,())) (Int.toNat (↑1:Int)) (x1_1,x1_2_1,x1_2_2_1,x1_2_2_2_1,x1_2_2_2_2_1,x1_2_2_2_2_2_1,())++List.drop (List.length (List.set (List.set [rz,rz] (Int.toNat (↑0:Int)) (x1_1,x1_2_1,x1_2_2_1,x1_2_2_2_1,x1_2_2_2_2_1,x1_2_2_2_2_2_1,())) (Int.toNat (↑1:Int)) (x1_1,x1_2_1,x1_2_2_1,x1_2_2_2_1,x1_2_2_2_2_1,x1_2_2_2_2_2_1,()))) (List.drop (List.length x0) (List.replicate (Int.toNat ((↑(List.length x0):Int)+(3:Int)) - Int.toNat (0:Int)) rz))),List.drop (Int.toNat (↑(List.length x0):Int)) (List.replicate (Int.toNat (0:Int)) rz++x0++List.set (List.set [rz,rz] (Int.toNat (↑0:Int)) (x1_1,x1_2_1,x1_2_2_1,x1_2_2_2_1,x1_2_2_2_2_1,x1_2_2_2_2_2_1,())) (Int.toNat (↑1:Int)) (x1_1,x1_2_1,x1_2_2_1,x1_2_2_2_1,x1_2_2_2_2_1,x1_2_2_2_2_2_1,())++List.drop (List.length (List.set (List.set [rz,rz] (Int.toNat (↑0:Int)) (x1_1,x1_2_1,x1_2_2_1,x1_2_2_2_1,x1_2_2_2_2_1,x1_2_2_2_2_2_1,())) (Int.toNat (↑1:Int)) (x1_1,x1_2_1,x1_2_2_1,x1_2_2_2_1,x1_2_2_2_2_1,x1_2_2_2_2_2_1,()))) (List.drop (List.length x0) (List.replicate (Int.toNat ((↑(List.length x0):Int)+(3:Int)) - Int.toNat (0:Int)) rz)))),()))))))):=by kernel_rfl
theorem b15:b16.Valid Try.prog 109:=by
  refine p7.o8 a93 rfl rfl Try.func109 (c:=b8 Try.prog 109) rfl rfl a9P rfl ?_
  rintro ⟨(l:List (j9)),⟨(x0:Int),(x1:Int),(x2:Int),(x3:Int),(x4:Bool),(x5:List UInt8),⟨⟩⟩,⟨⟩⟩ (hp:l.length≤1048576) -
  refine j8 (n:=1000) a93 a9P ?_
  refine g9 (c0I l x0 x1 x2 x3 x4 x5) ?_
  obtain ⟨e1,e2⟩:=a5V l ((x0,x1,x2,x3,x4,x5,()):j9) (rz:j9)
  have e0:List.set (List.set [(rz:j9),(rz:j9)] (Int.toNat ((0:Nat):Int)) (x0,x1,x2,x3,x4,x5,())) (Int.toNat ((1:Nat):Int)) (x0,x1,x2,x3,x4,x5,())=[(x0,x1,x2,x3,x4,x5,()),(x0,x1,x2,x3,x4,x5,())]:=rfl
  have er:(List.replicate (Int.toNat ((l.length:Int)+3) - Int.toNat 0) (rz:j9)).length=l.length+3:=by rw [List.length_replicate]; omega
  have ez:(List.replicate (Int.toNat 0) (rz:j9)).length=0:=rfl
  have ew:Ty.wb Round≤1024:=by decide
  simp only [e0]
  refine ⟨q8.2 (by omega),fun _=>⟨⟨by omega,by omega,by omega,by omega,a6s ew (by omega)⟩,fun _=>⟨⟨trivial,by rw [er]; omega⟩,fun _=>⟨⟨trivial,by rw [List.length_drop,er]; show 2≤_; omega⟩,fun _=>⟨⟨trivial,by omega,?_⟩,fun _=>?_⟩⟩⟩⟩⟩
  · simp only [List.length_append,List.length_drop,er,ez]
    show (l.length:Int)≤((0+l.length+2+(l.length+3 - l.length - 2):Nat):Int)
    omega
  · exact congrArg (fun y=>(y,())) (Prod.ext rfl (Prod.ext e1 e2))
def b1G:p7:={ ps:=[.v (.s4 D3),.v (.b7 false D3),.v D3],rs:=[.bool],pre:=fun x=>x.1.1=(3:Nat)∧2≤List.length (α:=Int) x.1.2.2∧List.length (α:=Int) x.1.2.1≤1048576,fn:=fun x=>(decide ((show List (Int) from x.1.2.1)=(show List (Int) from x.2.1)) && (decide ((show Int from List.getD (α:=Int) x.1.2.2 0 0)=(show Int from x.2.2.1)) && decide ((show Int from List.getD (α:=Int) x.1.2.2 1 0)=(show Int from x.2.2.1))),()),out:=fun _=>() }
noncomputable def b2S:Env:={ P:=Try.prog,tt:=tt,A3:=[(106,b6n)],res:=[Go.ResultVar.tmp 6],rs:=[Ty.bool],ps:=[PK.v (Ty.s4 (Ty.int IntKind.u16)),PK.v (Ty.b7 false (Ty.int IntKind.u16)),PK.v (Ty.int IntKind.u16)],x7:=[],nt:=35 }
theorem a9R:u5 b2S:=w7 p9 ⟨a7I,trivial⟩
theorem a9J:y9 b2S Try.f113:=⟨rfl,rfl⟩
theorem c0o (x0_n:Nat) (x0_l:List Int) (x0_m:List Int) (x1:List Int) (x2:Int):exec b2S 1000 [.code (b8 Try.prog 113)] (s6 b1G.ps (((x0_n,x0_l,x0_m),x1,x2,()))) =
  .d8 (u7 IntKind.i64 ((↑(List.length x0_l):Int)+(2:Int))) (.d8 (x0_n=3∧(0:Int)≤(0:Int)∧(0:Int)≤(↑(List.length x0_l):Int)+(2:Int)∧(↑(List.length x0_l):Int)+(2:Int)≤(↑(List.length x0_l+List.length x0_m):Int)) (.d8 (True) (cond (decide (x0_l=x1)) (.d8 ((0:Int)≤(↑(List.length x0_l):Int)∧(↑(List.length x0_l):Int)<(↑(List.length (y6 (0:Int) ((↑(List.length x0_l):Int)+(2:Int)) (x0_l++x0_m))):Int)) (cond (decide (List.getD (y6 (0:Int) ((↑(List.length x0_l):Int)+(2:Int)) (x0_l++x0_m)) (Int.toNat (↑(List.length x0_l):Int)) (0:Int)=x2)) (.d8 (u7 IntKind.i64 ((↑(List.length x0_l):Int)+(1:Int))) (.d8 ((0:Int)≤(↑(List.length x0_l):Int)+(1:Int)∧(↑(List.length x0_l):Int)+(1:Int)<(↑(List.length (y6 (0:Int) ((↑(List.length x0_l):Int)+(2:Int)) (x0_l++x0_m))):Int)) (.ret ((decide (List.getD (y6 (0:Int) ((↑(List.length x0_l):Int)+(2:Int)) (x0_l++x0_m)) (Int.toNat ((↑(List.length x0_l):Int)+(1:Int))) (0:Int)=x2),()))))) (.ret ((false,()))))) (.ret ((false,())))))):=by kernel_rfl
theorem b1F:b1G.Valid Try.prog 113:=by
  refine p7.o8 a9R rfl rfl Try.func113 (c:=b8 Try.prog 113) rfl rfl a9J rfl ?_
  rintro ⟨⟨(n:Nat),(l:List (Int)),(m:List (Int))⟩,(was:List (Int)),(x:Int),⟨⟩⟩ ⟨(h3:n=3),(h2:2≤m.length),(hlen:l.length≤1048576)⟩ -
  subst h3
  refine j8 (n:=1000) a9R a9J ?_
  refine g9 (c0o 3 l m was x) ?_
  obtain ⟨c1,c2,c3⟩:=a3D (l:=l) (d:=(0:Int)) h2
  have en:Int.toNat ((l.length:Int)+1)=l.length+1:=by omega
  simp only [Tree.holds,true_and,true_implies,o5,decide_eq_true_eq,decide_eq_false_iff_not,Int.toNat_natCast,c1,c2,en,c3]
  refine ⟨q8.2 (by omega),fun _=>⟨by omega,fun _=>⟨fun a=>⟨by omega,fun _=>⟨fun b=>⟨q8.2 (by omega),fun _=>⟨by omega,fun _=>?_⟩⟩,fun b=>?_⟩⟩,fun a=>?_⟩⟩⟩
  · show ((_,()):Bool×Unit)=(_,())
    rw [decide_eq_true a,decide_eq_true b]; rfl
  · show ((_,()):Bool×Unit)=(_,())
    rw [decide_eq_true a,decide_eq_false b]; rfl
  · show ((_,()):Bool×Unit)=(_,())
    rw [decide_eq_false a]; rfl
def a8A:p7:={ ps:=[.v (.s4 R9),.v (.b7 false R9),.v R9],rs:=[.bool],pre:=fun x=>x.1.1=(3:Nat)∧2≤List.length (α:=r8) x.1.2.2∧List.length (α:=r8) x.1.2.1≤1048576,fn:=fun x=>(decide ((show List (r8) from x.1.2.1)=(show List (r8) from x.2.1)) && (decide ((show r8 from List.getD (α:=r8) x.1.2.2 0 vz)=(show r8 from x.2.2.1)) && decide ((show r8 from List.getD (α:=r8) x.1.2.2 1 vz)=(show r8 from x.2.2.1))),()),out:=fun _=>() }
noncomputable def a8Y:Env:={ P:=Try.prog,tt:=tt,A3:=[(216,b0y)],res:=[Go.ResultVar.tmp 6],rs:=[Ty.bool],ps:=[PK.v (Ty.s4 (Ty.pair (Ty.int IntKind.i64) (Ty.pair (Ty.int IntKind.i64) (Ty.pair Ty.str Ty.unit)))),PK.v (Ty.b7 false (Ty.pair (Ty.int IntKind.i64) (Ty.pair (Ty.int IntKind.i64) (Ty.pair Ty.str Ty.unit)))),PK.v (Ty.pair (Ty.int IntKind.i64) (Ty.pair (Ty.int IntKind.i64) (Ty.pair Ty.str Ty.unit)))],x7:=[],nt:=35 }
theorem a7Z:u5 a8Y:=w7 p9 ⟨a6j,trivial⟩
theorem a7V:y9 a8Y Try.f114:=⟨rfl,rfl⟩
theorem b8Z (x0_n:Nat) (x0_l:List (Int×Int×List UInt8×Unit)) (x0_m:List (Int×Int×List UInt8×Unit)) (x1:List (Int×Int×List UInt8×Unit)) (x2_1:Int) (x2_2_1:Int) (x2_2_2_1:List UInt8):exec a8Y 1000 [.code (b8 Try.prog 114)] (s6 a8A.ps (((x0_n,x0_l,x0_m),x1,(x2_1,x2_2_1,x2_2_2_1,()),()))) =
  .d8 (u7 IntKind.i64 ((↑(List.length x0_l):Int)+(2:Int))) (.d8 (x0_n=3∧(0:Int)≤(0:Int)∧(0:Int)≤(↑(List.length x0_l):Int)+(2:Int)∧(↑(List.length x0_l):Int)+(2:Int)≤(↑(List.length x0_l+List.length x0_m):Int)) (.d8 (True) (cond (decide (x0_l=x1)) (.d8 ((0:Int)≤(↑(List.length x0_l):Int)∧(↑(List.length x0_l):Int)<(↑(List.length (y6 (0:Int) ((↑(List.length x0_l):Int)+(2:Int)) (x0_l++x0_m))):Int)) (cond (D9 (Ty.pair (Ty.int IntKind.i64) (Ty.pair (Ty.int IntKind.i64) (Ty.pair Ty.str Ty.unit))) (List.getD (y6 (0:Int) ((↑(List.length x0_l):Int)+(2:Int)) (x0_l++x0_m)) (Int.toNat (↑(List.length x0_l):Int)) ((0:Int),(0:Int),[],())) (x2_1,x2_2_1,x2_2_2_1,())) (.d8 (u7 IntKind.i64 ((↑(List.length x0_l):Int)+(1:Int))) (.d8 ((0:Int)≤(↑(List.length x0_l):Int)+(1:Int)∧(↑(List.length x0_l):Int)+(1:Int)<(↑(List.length (y6 (0:Int) ((↑(List.length x0_l):Int)+(2:Int)) (x0_l++x0_m))):Int)) (.ret ((D9 (Ty.pair (Ty.int IntKind.i64) (Ty.pair (Ty.int IntKind.i64) (Ty.pair Ty.str Ty.unit))) (List.getD (y6 (0:Int) ((↑(List.length x0_l):Int)+(2:Int)) (x0_l++x0_m)) (Int.toNat ((↑(List.length x0_l):Int)+(1:Int))) ((0:Int),(0:Int),[],())) (x2_1,x2_2_1,x2_2_2_1,()),()))))) (.ret ((false,()))))) (.ret ((false,())))))):=by kernel_rfl
theorem b0h:a8A.Valid Try.prog 114:=by
  refine p7.o8 a7Z rfl rfl Try.func114 (c:=b8 Try.prog 114) rfl rfl a7V rfl ?_
  rintro ⟨⟨(n:Nat),(l:List (r8)),(m:List (r8))⟩,(was:List (r8)),⟨(x0:Int),(x1:Int),(x2:List UInt8),⟨⟩⟩,⟨⟩⟩ ⟨(h3:n=3),(h2:2≤m.length),(hlen:l.length≤1048576)⟩ -
  subst h3
  refine j8 (n:=1000) a7Z a7V ?_
  refine g9 (b8Z 3 l m was x0 x1 x2) ?_
  obtain ⟨c1,c2,c3⟩:=a3D (l:=l) (d:=(vz:r8)) h2
  have en:Int.toNat ((l.length:Int)+1)=l.length+1:=by omega
  simp only [Tree.holds,true_and,true_implies,o5,decide_eq_true_eq,decide_eq_false_iff_not,Int.toNat_natCast,c1,c2,en,c3]
  refine ⟨q8.2 (by omega),fun _=>⟨by omega,fun _=>⟨fun a=>⟨by omega,fun _=>⟨fun b=>⟨q8.2 (by omega),fun _=>⟨by omega,fun _=>?_⟩⟩,fun b=>?_⟩⟩,fun a=>?_⟩⟩⟩
  · show ((_,()):Bool×Unit)=(_,())
    rw [decide_eq_true a,decide_eq_true (a5P.1 b)]; exact congrArg (fun z=>(z,())) (b4V a5P)
  · show ((_,()):Bool×Unit)=(_,())
    rw [decide_eq_true a,decide_eq_false (b1p b)]; rfl
  · show ((_,()):Bool×Unit)=(_,())
    rw [decide_eq_false a]; rfl
def a8B:p7:={ ps:=[.v (.s4 Round),.v (.b7 false Round),.v Round],rs:=[.bool],pre:=fun x=>x.1.1=(3:Nat)∧2≤List.length (α:=j9) x.1.2.2∧List.length (α:=j9) x.1.2.1≤1048576,fn:=fun x=>(decide ((show List (j9) from x.1.2.1)=(show List (j9) from x.2.1)) && (decide ((show j9 from List.getD (α:=j9) x.1.2.2 0 rz)=(show j9 from x.2.2.1)) && decide ((show j9 from List.getD (α:=j9) x.1.2.2 1 rz)=(show j9 from x.2.2.1))),()),out:=fun _=>() }
noncomputable def a8Z:Env:={ P:=Try.prog,tt:=tt,A3:=[(217,b0z)],res:=[Go.ResultVar.tmp 6],rs:=[Ty.bool],ps:=[PK.v (Ty.s4 (Ty.pair (Ty.int IntKind.i64) (Ty.pair (Ty.int IntKind.i64) (Ty.pair (Ty.int IntKind.u8) (Ty.pair (Ty.int IntKind.u8) (Ty.pair Ty.bool (Ty.pair Ty.str Ty.unit))))))),PK.v (Ty.b7 false (Ty.pair (Ty.int IntKind.i64) (Ty.pair (Ty.int IntKind.i64) (Ty.pair (Ty.int IntKind.u8) (Ty.pair (Ty.int IntKind.u8) (Ty.pair Ty.bool (Ty.pair Ty.str Ty.unit))))))),PK.v (Ty.pair (Ty.int IntKind.i64) (Ty.pair (Ty.int IntKind.i64) (Ty.pair (Ty.int IntKind.u8) (Ty.pair (Ty.int IntKind.u8) (Ty.pair Ty.bool (Ty.pair Ty.str Ty.unit))))))],x7:=[],nt:=35 }
theorem a71:u5 a8Z:=w7 p9 ⟨a6k,trivial⟩
theorem a7W:y9 a8Z Try.f115:=⟨rfl,rfl⟩
theorem b80 (x0_n:Nat) (x0_l:List (Int×Int×Int×Int×Bool×List UInt8×Unit)) (x0_m:List (Int×Int×Int×Int×Bool×List UInt8×Unit)) (x1:List (Int×Int×Int×Int×Bool×List UInt8×Unit)) (x2_1:Int) (x2_2_1:Int) (x2_2_2_1:Int) (x2_2_2_2_1:Int) (x2_2_2_2_2_1:Bool) (x2_2_2_2_2_2_1:List UInt8):exec a8Z 1000 [.code (b8 Try.prog 115)] (s6 a8B.ps (((x0_n,x0_l,x0_m),x1,(x2_1,x2_2_1,x2_2_2_1,x2_2_2_2_1,x2_2_2_2_2_1,x2_2_2_2_2_2_1,()),()))) =
  .d8 (u7 IntKind.i64 ((↑(List.length x0_l):Int)+(2:Int))) (.d8 (x0_n=3∧(0:Int)≤(0:Int)∧(0:Int)≤(↑(List.length x0_l):Int)+(2:Int)∧(↑(List.length x0_l):Int)+(2:Int)≤(↑(List.length x0_l+List.length x0_m):Int)) (.d8 (True) (cond (decide (x0_l=x1)) (.d8 ((0:Int)≤(↑(List.length x0_l):Int)∧(↑(List.length x0_l):Int)<(↑(List.length (y6 (0:Int) ((↑(List.length x0_l):Int)+(2:Int)) (x0_l++x0_m))):Int)) (cond (D9 (Ty.pair (Ty.int IntKind.i64) (Ty.pair (Ty.int IntKind.i64) (Ty.pair (Ty.int IntKind.u8) (Ty.pair (Ty.int IntKind.u8) (Ty.pair Ty.bool (Ty.pair Ty.str Ty.unit)))))) (List.getD (y6 (0:Int) ((↑(List.length x0_l):Int)+(2:Int)) (x0_l++x0_m)) (Int.toNat (↑(List.length x0_l):Int)) ((0:Int),(0:Int),(0:Int),(0:Int),false,[],())) (x2_1,x2_2_1,x2_2_2_1,x2_2_2_2_1,x2_2_2_2_2_1,x2_2_2_2_2_2_1,())) (.d8 (u7 IntKind.i64 ((↑(List.length x0_l):Int)+(1:Int))) (.d8 ((0:Int)≤(↑(List.length x0_l):Int)+(1:Int)∧(↑(List.length x0_l):Int)+(1:Int)<(↑(List.length (y6 (0:Int) ((↑(List.length x0_l):Int)+(2:Int)) (x0_l++x0_m))):Int)) (.ret ((D9 (Ty.pair (Ty.int IntKind.i64) (Ty.pair (Ty.int IntKind.i64) (Ty.pair (Ty.int IntKind.u8) (Ty.pair (Ty.int IntKind.u8) (Ty.pair Ty.bool (Ty.pair Ty.str Ty.unit)))))) (List.getD (y6 (0:Int) ((↑(List.length x0_l):Int)+(2:Int)) (x0_l++x0_m)) (Int.toNat ((↑(List.length x0_l):Int)+(1:Int))) ((0:Int),(0:Int),(0:Int),(0:Int),false,[],())) (x2_1,x2_2_1,x2_2_2_1,x2_2_2_2_1,x2_2_2_2_2_1,x2_2_2_2_2_2_1,()),()))))) (.ret ((false,()))))) (.ret ((false,())))))):=by kernel_rfl
theorem b0i:a8B.Valid Try.prog 115:=by
  refine p7.o8 a71 rfl rfl Try.func115 (c:=b8 Try.prog 115) rfl rfl a7W rfl ?_
  rintro ⟨⟨(n:Nat),(l:List (j9)),(m:List (j9))⟩,(was:List (j9)),⟨(x0:Int),(x1:Int),(x2:Int),(x3:Int),(x4:Bool),(x5:List UInt8),⟨⟩⟩,⟨⟩⟩ ⟨(h3:n=3),(h2:2≤m.length),(hlen:l.length≤1048576)⟩ -
  subst h3
  refine j8 (n:=1000) a71 a7W ?_
  refine g9 (b80 3 l m was x0 x1 x2 x3 x4 x5) ?_
  obtain ⟨c1,c2,c3⟩:=a3D (l:=l) (d:=(rz:j9)) h2
  have en:Int.toNat ((l.length:Int)+1)=l.length+1:=by omega
  simp only [Tree.holds,true_and,true_implies,o5,decide_eq_true_eq,decide_eq_false_iff_not,Int.toNat_natCast,c1,c2,en,c3]
  refine ⟨q8.2 (by omega),fun _=>⟨by omega,fun _=>⟨fun a=>⟨by omega,fun _=>⟨fun b=>⟨q8.2 (by omega),fun _=>⟨by omega,fun _=>?_⟩⟩,fun b=>?_⟩⟩,fun a=>?_⟩⟩⟩
  · show ((_,()):Bool×Unit)=(_,())
    rw [decide_eq_true a,decide_eq_true (a5Q.1 b)]; exact congrArg (fun z=>(z,())) (b4V a5Q)
  · show ((_,()):Bool×Unit)=(_,())
    rw [decide_eq_true a,decide_eq_false (b1q b)]; rfl
  · show ((_,()):Bool×Unit)=(_,())
    rw [decide_eq_false a]; rfl
def c08:p7:=a3a D3
theorem b3L:c08.Valid Try.prog 117:=by
  refine a5Z (S:=195) (I:=3) (T:=204) (e:=b5L (b8 Try.prog 117) [5,6,7,8,0,9,10,11,12,13,4,14,15,16,17,19,18,20]) (by kernel_rfl) (by kernel_rfl) (by kernel_rfl) Try.func117 (by kernel_rfl) rfl rfl rfl
def b8x:p7:=a3a R9
theorem b1J:b8x.Valid Try.prog 118:=by
  refine a4E (S:=196) (I:=3) (T:=207) (e:=b5L (b8 Try.prog 118) [3,5,6,7,8,0,9,10,11,12,13,4,14,15,16,17,19,18,20]) (by kernel_rfl) (by kernel_rfl) (by kernel_rfl) Try.func118 (by kernel_rfl) rfl rfl rfl
def b8y:p7:=a3a Round
theorem b1K:b8y.Valid Try.prog 119:=by
  refine a4E (S:=197) (I:=3) (T:=209) (e:=b5L (b8 Try.prog 119) [3,5,6,7,8,0,9,10,11,12,13,4,14,15,16,17,19,18,20]) (by kernel_rfl) (by kernel_rfl) (by kernel_rfl) Try.func119 (by kernel_rfl) rfl rfl rfl
end Go.Proofs.Ytekbamiaenbhjaa
