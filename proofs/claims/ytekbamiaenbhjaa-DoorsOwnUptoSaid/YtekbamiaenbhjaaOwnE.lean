/- partref.SameOver, partref.SameEnter. -/
import Derived.Test.YtekbamiaenbhjaaOwnD
namespace Go.Proofs.Ytekbamiaenbhjaa
open Go.Ex
set_option maxRecDepth 100000
def a7H:u7:={ ps:=[.v a2k,.v a2k],rs:=[.bool],pre:=fun _=>True,fn:=fun x=>(decide ((show List v6 from x.1.1)=(show List v6 from x.2.1.1)) && decide ((show List o8 from x.1.2.1)=(show List o8 from x.2.1.2.1)),()),out:=fun _=>() }
noncomputable def a7W:Env:={ P:=Try.prog,tt:=tt,D0:=[(149,a9x),(148,a6J)],res:=[Go.ResultVar.tmp 4],rs:=[Ty.bool],ps:=[PK.v (Ty.pair (Ty.d0 false Hand) (Ty.pair (Ty.d0 false i6) Ty.unit)),PK.v (Ty.pair (Ty.d0 false Hand) (Ty.pair (Ty.d0 false i6) Ty.unit))],E1:=[],nt:=17 }
theorem a67:B3 a7W:=D5 s7 ⟨a5k,a2H,trivial⟩
theorem a6X:E9 a7W Try.f47:=⟨rfl,rfl⟩
theorem b5u (x0_1:List (Bool×Int×Int×Unit)) (x0_2_1:List (Int×Int×Int×Unit)) (x1_1:List (Bool×Int×Int×Unit)) (x1_2_1:List (Int×Int×Int×Unit)):exec a7W 1000 [.code (d9 Try.prog 47)] (A3 a7H.ps (((x0_1,x0_2_1,()),(x1_1,x1_2_1,()),()))) =
  .f9 (True) (cond (decide (x0_1=x1_1)) (.f9 (True) (.ret ((decide (x0_2_1=x1_2_1),())))) (.ret ((false,())))):=by kernel_rfl
theorem a9d:a7H.Valid Try.prog 47:=by
  refine u7.u6 a67 rfl rfl Try.func47 (c:=d9 Try.prog 47) rfl rfl a6X rfl ?_
  rintro ⟨⟨(V:List v6),(R:List o8),⟨⟩⟩,⟨(V2:List v6),(R2:List o8),⟨⟩⟩,⟨⟩⟩ - -
  refine o4 (n:=1000) a67 a6X ?_
  refine n6 (b5u V R V2 R2) ?_
  simp only [o7,Tree.holds,true_and,true_implies,decide_eq_true_eq,decide_eq_false_iff_not,Bool.not_eq_true',Bool.not_eq_false',Int.toNat_natCast,r9,List.length_set,List.length_cons,List.length_nil]
  refine ⟨fun e=>?_,fun e=>?_⟩
  · show ((_,()):Bool×Unit)=(decide (V=V2) && decide (R=R2),())
    rw [decide_eq_true e,Bool.true_and]
  · show ((_,()):Bool×Unit)=(decide (V=V2) && decide (R=R2),())
    rw [decide_eq_false e,Bool.false_and]
set_option synthInstance.maxHeartbeats 400000 in
set_option synthInstance.maxSize 2000 in
instance instDD:DecidableEq w8:=inferInstance
def a2d (a b:w8):Bool:=decide (a.1=b.1) && (decide (a.2.1=b.2.1) && (decide (a.2.2.1=b.2.2.1) && (decide (a.2.2.2.1=b.2.2.2.1) && decide ((show List Int from a.2.2.2.2.1)=(show List Int from b.2.2.2.2.1)))))
theorem a6H {a b:w8}:a2d a b=true↔a=b:=by
  obtain ⟨a1,a2,a3,a4,a5,⟨⟩⟩:=a
  obtain ⟨b1,b2,b3,b4,b5,⟨⟩⟩:=b
  show (decide (a1=b1) && (decide (a2=b2) && (decide (a3=b3) && (decide (a4=b4) && decide ((a5:List Int)=b5)))))=true↔_
  simp
def a7L:u7:={ ps:=[.v V7,.v V7],rs:=[.bool],pre:=fun _=>True,fn:=fun x=>(a2d x.1 x.2.1,()),out:=fun _=>() }
noncomputable def a72:Env:={ P:=Try.prog,tt:=tt,D0:=[(19,b3Q)],res:=[Go.ResultVar.tmp 4],rs:=[Ty.bool],ps:=[PK.v (Ty.pair (Ty.int IntKind.i64) (Ty.pair (Ty.int IntKind.i64) (Ty.pair (Ty.int IntKind.u8) (Ty.pair Ty.bool (Ty.pair (Ty.d0 false (Ty.int IntKind.i64)) Ty.unit))))),PK.v (Ty.pair (Ty.int IntKind.i64) (Ty.pair (Ty.int IntKind.i64) (Ty.pair (Ty.int IntKind.u8) (Ty.pair Ty.bool (Ty.pair (Ty.d0 false (Ty.int IntKind.i64)) Ty.unit)))))],E1:=[],nt:=38 }
theorem a7f:B3 a72:=D5 s7 ⟨a6K,trivial⟩
theorem a62:E9 a72 Try.f151:=⟨rfl,rfl⟩
theorem b5E (x0_1:Int) (x0_2_1:Int) (x0_2_2_1:Int) (x0_2_2_2_1:Bool) (x0_2_2_2_2_1:List Int) (x1_1:Int) (x1_2_1:Int) (x1_2_2_1:Int) (x1_2_2_2_1:Bool) (x1_2_2_2_2_1:List Int):exec a72 1000 [.code (d9 Try.prog 151)] (A3 a7L.ps (((x0_1,x0_2_1,x0_2_2_1,x0_2_2_2_1,x0_2_2_2_2_1,()),(x1_1,x1_2_1,x1_2_2_1,x1_2_2_2_1,x1_2_2_2_2_1,()),()))) =
  cond (decide (x0_1=x1_1)) (cond (decide (x0_2_1=x1_2_1)) (cond (decide (x0_2_2_1=x1_2_2_1)) (cond (x0_2_2_2_1 == x1_2_2_2_1) (.f9 (True) (.ret ((decide (x0_2_2_2_2_1=x1_2_2_2_2_1),())))) (.ret ((false,())))) (.ret ((false,())))) (.ret ((false,())))) (.ret ((false,()))):=by kernel_rfl
theorem a9i:a7L.Valid Try.prog 151:=by
  refine u7.u6 a7f rfl rfl Try.func151 (c:=d9 Try.prog 151) rfl rfl a62 rfl ?_
  rintro ⟨⟨(a1:Int),(a2:Int),(a3:Int),(a4:Bool),(a5:List Int),⟨⟩⟩,⟨(b1:Int),(b2:Int),(b3:Int),(b4:Bool),(b5:List Int),⟨⟩⟩,⟨⟩⟩ - -
  refine o4 (n:=1000) a7f a62 ?_
  refine n6 (b5E a1 a2 a3 a4 a5 b1 b2 b3 b4 b5) ?_
  simp only [o7,Tree.holds,true_and,true_implies,decide_eq_true_eq,decide_eq_false_iff_not,Bool.not_eq_true',Bool.not_eq_false',Int.toNat_natCast,r9,List.length_set,List.length_cons,List.length_nil]
  have hd:a2d (a1,a2,a3,a4,a5,()) (b1,b2,b3,b4,b5,())=(decide (a1=b1) && (decide (a2=b2) && (decide (a3=b3) && (decide (a4=b4) && decide (a5=b5))))):=rfl
  have fin:∀ {b:Bool},b=(decide (a1=b1) && (decide (a2=b2) && (decide (a3=b3) && (decide (a4=b4) && decide (a5=b5)))))→((b,()):Bool×Unit)=(a2d (a1,a2,a3,a4,a5,()) (b1,b2,b3,b4,b5,()),()):=fun h=>by rw [hd,h]
  refine ⟨fun c1=>⟨fun c2=>⟨fun c3=>⟨fun c4=>fin ?_,fun c4=>fin ?_⟩,fun c3=>fin ?_⟩,fun c2=>fin ?_⟩,fun c1=>fin ?_⟩
  · have c4:a4=b4:=by simpa using c4
    simp [c1,c2,c3,c4]
  · have c4:¬ a4=b4:=by simpa using c4
    simp [c4]
  · simp [c3]
  · simp [c2]
  · simp [c1]
def b3R:u7:={ ps:=[.v (.d0 false V7),.v (.d0 false V7),.y8 151 []],rs:=[.bool],pre:=fun _=>True,fn:=fun x=>(decide ((show List w8 from x.1)=(show List w8 from x.2.1)),()),out:=fun _=>() }
noncomputable def a9C:Env:={ P:=Try.prog,tt:=tt,D0:=[(151,a7L)],res:=[Go.ResultVar.tmp 6],rs:=[Ty.bool],ps:=[PK.v (Ty.d0 false (Ty.pair (Ty.int IntKind.i64) (Ty.pair (Ty.int IntKind.i64) (Ty.pair (Ty.int IntKind.u8) (Ty.pair Ty.bool (Ty.pair (Ty.d0 false (Ty.int IntKind.i64)) Ty.unit)))))),PK.v (Ty.d0 false (Ty.pair (Ty.int IntKind.i64) (Ty.pair (Ty.int IntKind.i64) (Ty.pair (Ty.int IntKind.u8) (Ty.pair Ty.bool (Ty.pair (Ty.d0 false (Ty.int IntKind.i64)) Ty.unit)))))),PK.y8 151 []],E1:=[(4,[(1,none),(2,none),(15,none),(16,none),(17,none)])],nt:=32 }
theorem a51:B3 a9C:=D5 s7 ⟨a9i,trivial⟩
theorem a5X:E9 a9C Try.f150:=⟨rfl,rfl⟩
theorem b7L (x0:List (Int×Int×Int×Bool×List Int×Unit)) (x1:List (Int×Int×Int×Bool×List Int×Unit)):exec a9C 1000 [.code (d9 Try.prog 150)] (A3 b3R.ps ((x0,x1,(),()))) =
  cond (decide ((↑(List.length x0):Int)≠(↑(List.length x1):Int))) (.ret ((false,()))) (.cut (j5 (d9 Try.prog 150) 4).1 (j5 (d9 Try.prog 150) 4).2 (St.mk [(1,AV.val (Ty.d0 false (Ty.pair (Ty.int IntKind.i64) (Ty.pair (Ty.int IntKind.i64) (Ty.pair (Ty.int IntKind.u8) (Ty.pair Ty.bool (Ty.pair (Ty.d0 false (Ty.int IntKind.i64)) Ty.unit)))))) x1),(2,AV.y8 151 AV.nil),(15,AV.val (Ty.d0 false (Ty.pair (Ty.int IntKind.i64) (Ty.pair (Ty.int IntKind.i64) (Ty.pair (Ty.int IntKind.u8) (Ty.pair Ty.bool (Ty.pair (Ty.d0 false (Ty.int IntKind.i64)) Ty.unit)))))) x0),(16,AV.val (Ty.int IntKind.i64) (↑(List.length x0):Int)),(17,AV.val (Ty.int IntKind.i64) (0:Int))] [])):=by kernel_rfl
def b1h (v1:List (Int×Int×Int×Bool×List Int×Unit)) (v15:List (Int×Int×Int×Bool×List Int×Unit)) (v16:Int) (v17:Int):St:=St.mk [(1,AV.val (Ty.d0 false (Ty.pair (Ty.int IntKind.i64) (Ty.pair (Ty.int IntKind.i64) (Ty.pair (Ty.int IntKind.u8) (Ty.pair Ty.bool (Ty.pair (Ty.d0 false (Ty.int IntKind.i64)) Ty.unit)))))) v1),(2,AV.y8 151 AV.nil),(15,AV.val (Ty.d0 false (Ty.pair (Ty.int IntKind.i64) (Ty.pair (Ty.int IntKind.i64) (Ty.pair (Ty.int IntKind.u8) (Ty.pair Ty.bool (Ty.pair (Ty.d0 false (Ty.int IntKind.i64)) Ty.unit)))))) v15),(16,AV.val (Ty.int IntKind.i64) v16),(17,AV.val (Ty.int IntKind.i64) v17)] []
theorem b6y (v1:List (Int×Int×Int×Bool×List Int×Unit)) (v15:List (Int×Int×Int×Bool×List Int×Unit)) (v16:Int) (v17:Int):exec a9C 1000 (.code (j5 (d9 Try.prog 150) 4).1::.inLoop (j5 (d9 Try.prog 150) 4).1::(j5 (d9 Try.prog 150) 4).2) (b1h v1 v15 v16 v17) =
  cond (decide (v17<v16)) (.f9 ((0:Int)≤v17∧v17<(↑(List.length v15):Int)) (.f9 ((0:Int)≤v17∧v17<(↑(List.length v1):Int)) (.f9 (True) (cond (!a2d (List.getD v15 (Int.toNat v17) ((0:Int),(0:Int),(0:Int),false,[],())) (List.getD v1 (Int.toNat v17) ((0:Int),(0:Int),(0:Int),false,[],()))) (.ret ((false,()))) (.f9 (w9 IntKind.i64 (v17+(1:Int))) (.cut (j5 (d9 Try.prog 150) 4).1 (j5 (d9 Try.prog 150) 4).2 (St.mk [(1,AV.val (Ty.d0 false (Ty.pair (Ty.int IntKind.i64) (Ty.pair (Ty.int IntKind.i64) (Ty.pair (Ty.int IntKind.u8) (Ty.pair Ty.bool (Ty.pair (Ty.d0 false (Ty.int IntKind.i64)) Ty.unit)))))) v1),(2,AV.y8 151 AV.nil),(15,AV.val (Ty.d0 false (Ty.pair (Ty.int IntKind.i64) (Ty.pair (Ty.int IntKind.i64) (Ty.pair (Ty.int IntKind.u8) (Ty.pair Ty.bool (Ty.pair (Ty.d0 false (Ty.int IntKind.i64)) Ty.unit)))))) v15),(16,AV.val (Ty.int IntKind.i64) v16),(17,AV.val (Ty.int IntKind.i64) (v17+(1:Int)))] []))))))) (.ret ((true,()))):=by kernel_rfl
theorem b1Q:b3R.Valid Try.prog 150:=by
  refine u7.u6 a51 rfl rfl Try.func150 (c:=d9 Try.prog 150) rfl rfl a5X rfl ?_
  rintro ⟨(l:List w8),(m:List w8),⟨⟩,⟨⟩⟩ - ⟨⟨hl,-⟩,-⟩
  have hl:l.length≤9223372036854775807:=hl
  refine o4 (n:=1000) a51 a5X ?_
  refine n6 (b7L l m) ?_
  have fin:∀ {b:Bool},(b=true↔l=m)→((b,()):Bool×Unit)=(decide (l=m),()):=fun {b} h=>by
    cases b with
    | true=>rw [decide_eq_true (h.1 rfl)]
    | false=>rw [decide_eq_false (fun e=>by cases h.2 e)]
  simp only [o7,Tree.holds,true_and,true_implies,decide_eq_true_eq,decide_eq_false_iff_not,Bool.not_eq_true',Bool.not_eq_false',Int.toNat_natCast,r9,List.length_set,List.length_cons,List.length_nil]
  refine ⟨fun c=>fin ⟨fun h=>(by cases h),fun h=>absurd (congrArg (fun q:List w8=>(q.length:Int)) h) c⟩,fun c=>?_⟩
  refine Reach.S5 a51 a5X (fun i:Nat=>b1h m l (l.length:Int) (i:Int)) (fun i=>i≤l.length∧∀ j,j<i→l.getD j x4=m.getD j x4)
    (fun i=>l.length - i) 1000 (fun _=>⟨x6 rfl,x6 rfl⟩) ?_ 0 ⟨Nat.zero_le _,fun j hj=>by omega⟩
  rintro i ⟨k1,k2⟩ - ih
  refine n6 (b6y ..) ?_
  have c:l.length=m.length:=by omega
  simp only [o7,Tree.holds,true_and,true_implies,decide_eq_true_eq,decide_eq_false_iff_not,Bool.not_eq_true',Bool.not_eq_false',Int.toNat_natCast,r9,List.length_set,List.length_cons,List.length_nil]
  refine ⟨fun d1=>⟨by omega,fun _=>⟨by omega,fun _=>⟨fun d2=>fin ⟨fun h=>(by cases h),fun h=>?_⟩,fun d2=>⟨by omega,fun _=>ih (i+1) ⟨by omega,fun j hj=>?_⟩ (by omega)⟩⟩⟩⟩,fun d1=>fin ⟨fun _=>?_,fun _=>rfl⟩⟩
  · have d2:a2d (l.getD i x4) (m.getD i x4)=false:=by first|exact d2|exact Bool.not_eq_true' _ |>.mp d2
    rw [h,a6H.2 rfl] at d2
    cases d2
  · rcases Nat.lt_or_ge j i with h|h
    · exact k2 j h
    · obtain rfl:j=i:=by omega
      have d2:a2d (l.getD j x4) (m.getD j x4)=true:=by first|exact d2|exact Bool.not_eq_false' _ |>.mp d2
      exact a6H.1 d2
  · refine List.ext_getElem c (fun j h1 h2=>?_)
    have:=k2 j (by omega)
    rwa [List.getD_eq_getElem?_getD,List.getD_eq_getElem?_getD,List.getElem?_eq_getElem h1,List.getElem?_eq_getElem h2] at this
def a7I:u7:={ ps:=[.v a0K,.v a0K],rs:=[.bool],pre:=fun _=>True,fn:=fun x=>(decide ((show List w8 from x.1.1)=(show List w8 from x.2.1.1)) && decide ((show List o8 from x.1.2.1)=(show List o8 from x.2.1.2.1)),()),out:=fun _=>() }
noncomputable def a7X:Env:={ P:=Try.prog,tt:=tt,D0:=[(150,b3R),(148,a6J)],res:=[Go.ResultVar.tmp 4],rs:=[Ty.bool],ps:=[PK.v (Ty.pair (Ty.d0 false (Ty.pair (Ty.int IntKind.i64) (Ty.pair (Ty.int IntKind.i64) (Ty.pair (Ty.int IntKind.u8) (Ty.pair Ty.bool (Ty.pair (Ty.d0 false (Ty.int IntKind.i64)) Ty.unit)))))) (Ty.pair (Ty.d0 false i6) Ty.unit)),PK.v (Ty.pair (Ty.d0 false (Ty.pair (Ty.int IntKind.i64) (Ty.pair (Ty.int IntKind.i64) (Ty.pair (Ty.int IntKind.u8) (Ty.pair Ty.bool (Ty.pair (Ty.d0 false (Ty.int IntKind.i64)) Ty.unit)))))) (Ty.pair (Ty.d0 false i6) Ty.unit))],E1:=[],nt:=17 }
theorem a68:B3 a7X:=D5 s7 ⟨b1Q,a2H,trivial⟩
theorem a6Y:E9 a7X Try.f46:=⟨rfl,rfl⟩
theorem b5v (x0_1:List (Int×Int×Int×Bool×List Int×Unit)) (x0_2_1:List (Int×Int×Int×Unit)) (x1_1:List (Int×Int×Int×Bool×List Int×Unit)) (x1_2_1:List (Int×Int×Int×Unit)):exec a7X 1000 [.code (d9 Try.prog 46)] (A3 a7I.ps (((x0_1,x0_2_1,()),(x1_1,x1_2_1,()),()))) =
  .f9 (True) (cond (decide (x0_1=x1_1)) (.f9 (True) (.ret ((decide (x0_2_1=x1_2_1),())))) (.ret ((false,())))):=by kernel_rfl
theorem a9e:a7I.Valid Try.prog 46:=by
  refine u7.u6 a68 rfl rfl Try.func46 (c:=d9 Try.prog 46) rfl rfl a6Y rfl ?_
  rintro ⟨⟨(V:List w8),(R:List o8),⟨⟩⟩,⟨(V2:List w8),(R2:List o8),⟨⟩⟩,⟨⟩⟩ - -
  refine o4 (n:=1000) a68 a6Y ?_
  refine n6 (b5v V R V2 R2) ?_
  simp only [o7,Tree.holds,true_and,true_implies,decide_eq_true_eq,decide_eq_false_iff_not,Bool.not_eq_true',Bool.not_eq_false',Int.toNat_natCast,r9,List.length_set,List.length_cons,List.length_nil]
  refine ⟨fun e=>?_,fun e=>?_⟩
  · show ((_,()):Bool×Unit)=(decide (V=V2) && decide (R=R2),())
    rw [decide_eq_true e,Bool.true_and]
  · show ((_,()):Bool×Unit)=(decide (V=V2) && decide (R=R2),())
    rw [decide_eq_false e,Bool.false_and]
def ttC:List (TypeId×TI):=(63,TI.mk (.d0 true V7) 24)::tt
theorem b7S:ttC.all (a3f Try.prog)=true:=by kernel_rfl
end Go.Proofs.Ytekbamiaenbhjaa
