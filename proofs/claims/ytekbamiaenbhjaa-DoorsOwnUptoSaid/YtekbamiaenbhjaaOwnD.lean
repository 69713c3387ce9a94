/- ample, stays, spoil at api.Word, api.Hand; spoil at api.Door. -/
import Derived.Test.YtekbamiaenbhjaaOwnA
import Derived.Test.YtekbamiaenbhjaaEnterC
namespace Go.Proofs.Ytekbamiaenbhjaa
open Go.Ex
set_option maxRecDepth 100000
theorem a6D {a b:o8}:D4 (Ty.pair (Ty.int IntKind.i64) (Ty.pair (Ty.int IntKind.i64) (Ty.pair (Ty.int IntKind.i64) Ty.unit))) a b=true↔a=b:=by
  obtain ⟨a1,a2,a3,⟨⟩⟩:=a
  obtain ⟨b1,b2,b3,⟨⟩⟩:=b
  show (decide (a1=b1) && (decide (a2=b2) && (decide (a3=b3) && true)))=true↔_
  simp
theorem b2F {a b:o8} (h:D4 (Ty.pair (Ty.int IntKind.i64) (Ty.pair (Ty.int IntKind.i64) (Ty.pair (Ty.int IntKind.i64) Ty.unit))) a b=false):¬ a=b:=fun e=>by rw [a6D.2 e] at h; cases h
theorem a6E {a b:v6}:D4 (Ty.pair Ty.bool (Ty.pair (Ty.int IntKind.i64) (Ty.pair (Ty.int IntKind.i64) Ty.unit))) a b=true↔a=b:=by
  obtain ⟨a1,a2,a3,⟨⟩⟩:=a
  obtain ⟨b1,b2,b3,⟨⟩⟩:=b
  show ((a1 == b1) && (decide (a2=b2) && (decide (a3=b3) && true)))=true↔_
  simp
theorem b2H {a b:v6} (h:D4 (Ty.pair Ty.bool (Ty.pair (Ty.int IntKind.i64) (Ty.pair (Ty.int IntKind.i64) Ty.unit))) a b=false):¬ a=b:=fun e=>by rw [a6E.2 e] at h; cases h
abbrev zW:o8:=(0,0,0,())
abbrev zH:v6:=(false,0,0,())
def a6J:u7:={ ps:=[.v (.d0 false i6),.v (.d0 false i6)],rs:=[.bool],pre:=fun _=>True,fn:=fun x=>(decide ((show List (o8) from x.1)=(show List (o8) from x.2.1)),()),out:=fun _=>() }
noncomputable def a9A:Env:={ P:=Try.prog,tt:=tt,D0:=[],res:=[Go.ResultVar.tmp 4],rs:=[Ty.bool],ps:=[PK.v (Ty.d0 false i6),PK.v (Ty.d0 false i6)],E1:=[(4,[(0,none),(1,none),(12,none),(13,none)])],nt:=26 }
theorem a5Z:B3 a9A:=D5 s7 trivial
theorem a5V:E9 a9A Try.f148:=⟨rfl,rfl⟩
theorem b7I (x0:List (Int×Int×Int×Unit)) (x1:List (Int×Int×Int×Unit)):exec a9A 1000 [.code (d9 Try.prog 148)] (A3 a6J.ps ((x0,x1,()))) =
  cond (decide ((↑(List.length x0):Int)≠(↑(List.length x1):Int))) (.ret ((false,()))) (.cut (j5 (d9 Try.prog 148) 4).1 (j5 (d9 Try.prog 148) 4).2 (St.mk [(0,AV.val (Ty.d0 false i6) x0),(1,AV.val (Ty.d0 false i6) x1),(12,AV.val (Ty.int IntKind.i64) (↑(List.length x0):Int)),(13,AV.val (Ty.int IntKind.i64) (0:Int))] [])):=by kernel_rfl
def b1f (v0:List (Int×Int×Int×Unit)) (v1:List (Int×Int×Int×Unit)) (v12:Int) (v13:Int):St:=St.mk [(0,AV.val (Ty.d0 false i6) v0),(1,AV.val (Ty.d0 false i6) v1),(12,AV.val (Ty.int IntKind.i64) v12),(13,AV.val (Ty.int IntKind.i64) v13)] []
theorem b6w (v0:List (Int×Int×Int×Unit)) (v1:List (Int×Int×Int×Unit)) (v12:Int) (v13:Int):exec a9A 1000 (.code (j5 (d9 Try.prog 148) 4).1::.inLoop (j5 (d9 Try.prog 148) 4).1::(j5 (d9 Try.prog 148) 4).2) (b1f v0 v1 v12 v13) =
  cond (decide (v13<v12)) (.f9 ((0:Int)≤v13∧v13<(↑(List.length v0):Int)) (.f9 ((0:Int)≤v13∧v13<(↑(List.length v1):Int)) (cond (!D4 i6 (List.getD v0 (Int.toNat v13) ((0:Int),(0:Int),(0:Int),())) (List.getD v1 (Int.toNat v13) ((0:Int),(0:Int),(0:Int),()))) (.ret ((false,()))) (.f9 (w9 IntKind.i64 (v13+(1:Int))) (.cut (j5 (d9 Try.prog 148) 4).1 (j5 (d9 Try.prog 148) 4).2 (St.mk [(0,AV.val (Ty.d0 false i6) v0),(1,AV.val (Ty.d0 false i6) v1),(12,AV.val (Ty.int IntKind.i64) v12),(13,AV.val (Ty.int IntKind.i64) (v13+(1:Int)))] [])))))) (.ret ((true,()))):=by kernel_rfl
theorem a2H:a6J.Valid Try.prog 148:=by
  refine u7.u6 a5Z rfl rfl Try.func148 (c:=d9 Try.prog 148) rfl rfl a5V rfl ?_
  rintro ⟨(l:List (o8)),(m:List (o8)),⟨⟩⟩ - ⟨⟨hl,-⟩,-⟩
  have hl:l.length≤9223372036854775807:=hl
  refine o4 (n:=1000) a5Z a5V ?_
  refine n6 (b7I l m) ?_
  have fin:∀ {b:Bool},(b=true↔l=m)→((b,()):Bool×Unit)=(decide (l=m),()):=fun {b} h=>by
    cases b with
    | true=>rw [decide_eq_true (h.1 rfl)]
    | false=>rw [decide_eq_false (fun e=>by cases h.2 e)]
  simp only [o7,Tree.holds,true_and,true_implies,decide_eq_true_eq,decide_eq_false_iff_not,Bool.not_eq_true',Bool.not_eq_false',Int.toNat_natCast,r9,List.length_set,List.length_cons,List.length_nil]
  refine ⟨fun c=>fin ⟨fun h=>(by cases h),fun h=>absurd (congrArg (fun q:List (o8)=>(q.length:Int)) h) c⟩,fun c=>?_⟩
  refine Reach.S5 a5Z a5V (fun i:Nat=>b1f l m (l.length:Int) (i:Int)) (fun i=>i≤l.length∧∀ j,j<i→l.getD j zW=m.getD j zW)
    (fun i=>l.length - i) 1000 (fun _=>⟨x6 rfl,x6 rfl⟩) ?_ 0 ⟨Nat.zero_le _,fun j hj=>by omega⟩
  rintro i ⟨k1,k2⟩ - ih
  refine n6 (b6w ..) ?_
  have c:l.length=m.length:=by omega
  simp only [o7,Tree.holds,true_and,true_implies,decide_eq_true_eq,decide_eq_false_iff_not,Bool.not_eq_true',Bool.not_eq_false',Int.toNat_natCast,r9,List.length_set,List.length_cons,List.length_nil]
  refine ⟨fun d1=>⟨by omega,fun _=>⟨by omega,fun _=>⟨fun d2=>fin ⟨fun h=>(by cases h),fun h=>absurd (congrArg (fun q:List (o8)=>q.getD i zW) h) (b2F d2)⟩,fun d2=>⟨by omega,fun _=>ih (i+1) ⟨by omega,fun j hj=>?_⟩ (by omega)⟩⟩⟩⟩,fun d1=>fin ⟨fun _=>eq_of_getD c (fun j hj=>k2 j (by omega)),fun _=>rfl⟩⟩
  rcases Nat.lt_or_ge j i with h|h
  · exact k2 j h
  · obtain rfl:j=i:=by omega
    exact a6D.1 d2
def a9x:u7:={ ps:=[.v (.d0 false Hand),.v (.d0 false Hand)],rs:=[.bool],pre:=fun _=>True,fn:=fun x=>(decide ((show List (v6) from x.1)=(show List (v6) from x.2.1)),()),out:=fun _=>() }
noncomputable def a9B:Env:={ P:=Try.prog,tt:=tt,D0:=[],res:=[Go.ResultVar.tmp 4],rs:=[Ty.bool],ps:=[PK.v (Ty.d0 false Hand),PK.v (Ty.d0 false Hand)],E1:=[(4,[(0,none),(1,none),(12,none),(13,none)])],nt:=26 }
theorem a50:B3 a9B:=D5 s7 trivial
theorem a5W:E9 a9B Try.f149:=⟨rfl,rfl⟩
theorem b7K (x0:List (Bool×Int×Int×Unit)) (x1:List (Bool×Int×Int×Unit)):exec a9B 1000 [.code (d9 Try.prog 149)] (A3 a9x.ps ((x0,x1,()))) =
  cond (decide ((↑(List.length x0):Int)≠(↑(List.length x1):Int))) (.ret ((false,()))) (.cut (j5 (d9 Try.prog 149) 4).1 (j5 (d9 Try.prog 149) 4).2 (St.mk [(0,AV.val (Ty.d0 false Hand) x0),(1,AV.val (Ty.d0 false Hand) x1),(12,AV.val (Ty.int IntKind.i64) (↑(List.length x0):Int)),(13,AV.val (Ty.int IntKind.i64) (0:Int))] [])):=by kernel_rfl
def b1g (v0:List (Bool×Int×Int×Unit)) (v1:List (Bool×Int×Int×Unit)) (v12:Int) (v13:Int):St:=St.mk [(0,AV.val (Ty.d0 false Hand) v0),(1,AV.val (Ty.d0 false Hand) v1),(12,AV.val (Ty.int IntKind.i64) v12),(13,AV.val (Ty.int IntKind.i64) v13)] []
theorem b6x (v0:List (Bool×Int×Int×Unit)) (v1:List (Bool×Int×Int×Unit)) (v12:Int) (v13:Int):exec a9B 1000 (.code (j5 (d9 Try.prog 149) 4).1::.inLoop (j5 (d9 Try.prog 149) 4).1::(j5 (d9 Try.prog 149) 4).2) (b1g v0 v1 v12 v13) =
  cond (decide (v13<v12)) (.f9 ((0:Int)≤v13∧v13<(↑(List.length v0):Int)) (.f9 ((0:Int)≤v13∧v13<(↑(List.length v1):Int)) (cond (!D4 Hand (List.getD v0 (Int.toNat v13) (false,(0:Int),(0:Int),())) (List.getD v1 (Int.toNat v13) (false,(0:Int),(0:Int),()))) (.ret ((false,()))) (.f9 (w9 IntKind.i64 (v13+(1:Int))) (.cut (j5 (d9 Try.prog 149) 4).1 (j5 (d9 Try.prog 149) 4).2 (St.mk [(0,AV.val (Ty.d0 false Hand) v0),(1,AV.val (Ty.d0 false Hand) v1),(12,AV.val (Ty.int IntKind.i64) v12),(13,AV.val (Ty.int IntKind.i64) (v13+(1:Int)))] [])))))) (.ret ((true,()))):=by kernel_rfl
theorem a5k:a9x.Valid Try.prog 149:=by
  refine u7.u6 a50 rfl rfl Try.func149 (c:=d9 Try.prog 149) rfl rfl a5W rfl ?_
  rintro ⟨(l:List (v6)),(m:List (v6)),⟨⟩⟩ - ⟨⟨hl,-⟩,-⟩
  have hl:l.length≤9223372036854775807:=hl
  refine o4 (n:=1000) a50 a5W ?_
  refine n6 (b7K l m) ?_
  have fin:∀ {b:Bool},(b=true↔l=m)→((b,()):Bool×Unit)=(decide (l=m),()):=fun {b} h=>by
    cases b with
    | true=>rw [decide_eq_true (h.1 rfl)]
    | false=>rw [decide_eq_false (fun e=>by cases h.2 e)]
  simp only [o7,Tree.holds,true_and,true_implies,decide_eq_true_eq,decide_eq_false_iff_not,Bool.not_eq_true',Bool.not_eq_false',Int.toNat_natCast,r9,List.length_set,List.length_cons,List.length_nil]
  refine ⟨fun c=>fin ⟨fun h=>(by cases h),fun h=>absurd (congrArg (fun q:List (v6)=>(q.length:Int)) h) c⟩,fun c=>?_⟩
  refine Reach.S5 a50 a5W (fun i:Nat=>b1g l m (l.length:Int) (i:Int)) (fun i=>i≤l.length∧∀ j,j<i→l.getD j zH=m.getD j zH)
    (fun i=>l.length - i) 1000 (fun _=>⟨x6 rfl,x6 rfl⟩) ?_ 0 ⟨Nat.zero_le _,fun j hj=>by omega⟩
  rintro i ⟨k1,k2⟩ - ih
  refine n6 (b6x ..) ?_
  have c:l.length=m.length:=by omega
  simp only [o7,Tree.holds,true_and,true_implies,decide_eq_true_eq,decide_eq_false_iff_not,Bool.not_eq_true',Bool.not_eq_false',Int.toNat_natCast,r9,List.length_set,List.length_cons,List.length_nil]
  refine ⟨fun d1=>⟨by omega,fun _=>⟨by omega,fun _=>⟨fun d2=>fin ⟨fun h=>(by cases h),fun h=>absurd (congrArg (fun q:List (v6)=>q.getD i zH) h) (b2H d2)⟩,fun d2=>⟨by omega,fun _=>ih (i+1) ⟨by omega,fun j hj=>?_⟩ (by omega)⟩⟩⟩⟩,fun d1=>fin ⟨fun _=>eq_of_getD c (fun j hj=>k2 j (by omega)),fun _=>rfl⟩⟩
  rcases Nat.lt_or_ge j i with h|h
  · exact k2 j h
  · obtain rfl:j=i:=by omega
    exact a6E.1 d2
def b0H:u7:={ ps:=[.v (.d0 false i6),.v i6],rs:=[.i9 i6],pre:=fun x=>List.length (α:=o8) x.1≤1048576,fn:=fun x=>((2,x.1,[x.2.1,x.2.1,(zW:o8)]),()),out:=fun _=>() }
noncomputable def b1k:Env:={ P:=Try.prog,tt:=tt,D0:=[],res:=[Go.ResultVar.tmp 4],rs:=[Ty.i9 i6],ps:=[PK.v (Ty.d0 false i6),PK.v i6],E1:=[],nt:=20 }
theorem a8Z:B3 b1k:=D5 s7 trivial
theorem a8Q:E9 b1k Try.f33:=⟨rfl,rfl⟩
theorem b6D (x0:List (Int×Int×Int×Unit)) (x1_1:Int) (x1_2_1:Int) (x1_2_2_1:Int):exec b1k 1000 [.code (d9 Try.prog 33)] (A3 b0H.ps ((x0,(x1_1,x1_2_1,x1_2_2_1,()),()))) =
  .f9 (w9 IntKind.i64 ((↑(List.length x0):Int)+(3:Int))) (.f9 ((1:Int)≤(↑(List.length x0):Int)+(3:Int)∧(0:Int)≤(0:Int)∧(0:Int)≤(↑(List.length x0):Int)+(3:Int)∧(↑(List.length x0):Int)+(3:Int)≤(140737488355328:Int)∧((↑(List.length x0):Int)+(3:Int))*(↑(Ty.wb i6):Int)≤(140737488355328:Int)) (.f9 (2=2∧List.length x0≤List.length (List.replicate (Int.toNat ((↑(List.length x0):Int)+(3:Int)) - Int.toNat (0:Int)) zW)) (.f9 (2=2∧List.length (List.set (List.set [zW,zW] (Int.toNat (↑0:Int)) (x1_1,x1_2_1,x1_2_2_1,())) (Int.toNat (↑1:Int)) (x1_1,x1_2_1,x1_2_2_1,()))≤List.length (List.drop (List.length x0) (List.replicate (Int.toNat ((↑(List.length x0):Int)+(3:Int)) - Int.toNat (0:Int)) zW))) (.f9 (2=2∧(0:Int)≤(↑(List.length x0):Int)∧(↑(List.length x0):Int)≤(↑(List.length (List.replicate (Int.toNat (0:Int)) zW++x0++List.set (List.set [zW,zW] (Int.toNat (↑0:Int)) (x1_1,x1_2_1,x1_2_2_1,())) (Int.toNat (↑1:Int)) (x1_1,x1_2_1,x1_2_2_1,()))+List.length (List.drop (List.length (List.set (List.set [zW,zW] (Int.toNat (↑0:Int)) (x1_1,x1_2_1,x1_2_2_1,())) (Int.toNat (↑1:Int)) (x1_1,x1_2_1,x1_2_2_1,()))) (List.drop (List.length x0) (List.replicate (Int.toNat ((↑(List.length x0):Int)+(3:Int)) - Int.toNat (0:Int)) zW)))):Int)) (.ret (((2,List.take (Int.toNat (↑(List.length x0):Int)) (List.replicate (Int.toNat (0:Int)) zW++x0++List.set (List.set [zW,zW] (Int.toNat (↑0:Int)) (x1_1,x1_2_1,x1_2_2_1,())) (Int.toNat (↑1:Int)) (x1_1,x1_2_1,x1_2_2_1,())++List.drop (List.length (List.set (List.set [zW,zW] (Int.toNat (↑0:Int)) (x1_1,x1_2_1,x1_2_2_1,())) (Int.toNat (↑1:Int)) (x1_1,x1_2_1,x1_2_2_1,()))) (List.drop (List.length x0) (List.replicate (Int.toNat ((↑(List.length x0):Int)+(3:Int)) - Int.toNat (0:Int)) zW))),List.drop (Int.toNat (↑(List.length x0):Int)) (List.replicate (Int.toNat (0:Int)) zW++x0++List.set (List.set [zW,zW] (Int.toNat (↑0:Int)) (x1_1,x1_2_1,x1_2_2_1,())) (Int.toNat (↑1:Int)) (x1_1,x1_2_1,x1_2_2_1,())++List.drop (List.length (List.set (List.set [zW,zW] (Int.toNat (↑0:Int)) (x1_1,x1_2_1,x1_2_2_1,())) (Int.toNat (↑1:Int)) (x1_1,x1_2_1,x1_2_2_1,()))) (List.drop (List.length x0) (List.replicate (Int.toNat ((↑(List.length x0):Int)+(3:Int)) - Int.toNat (0:Int)) zW)))),()))))))):=by kernel_rfl
theorem b0G:b0H.Valid Try.prog 33:=by
  refine u7.u6 a8Z rfl rfl Try.func33 (c:=d9 Try.prog 33) rfl rfl a8Q rfl ?_
  rintro ⟨(l:List (o8)),⟨(x0:Int),(x1:Int),(x2:Int),⟨⟩⟩,⟨⟩⟩ (hp:l.length≤1048576) -
  refine o4 (n:=1000) a8Z a8Q ?_
  refine n6 (b6D l x0 x1 x2) ?_
  obtain ⟨e1,e2⟩:=a7R l ((x0,x1,x2,()):o8) (zW:o8)
  have e0:List.set (List.set [(zW:o8),(zW:o8)] (Int.toNat ((0:Nat):Int)) (x0,x1,x2,())) (Int.toNat ((1:Nat):Int)) (x0,x1,x2,())=[(x0,x1,x2,()),(x0,x1,x2,())]:=rfl
  have er:(List.replicate (Int.toNat ((l.length:Int)+3) - Int.toNat 0) (zW:o8)).length=l.length+3:=by rw [List.length_replicate]; omega
  have ez:(List.replicate (Int.toNat 0) (zW:o8)).length=0:=rfl
  have ew:Ty.wb i6≤1024:=by decide
  simp only [e0]
  refine ⟨r9.2 (by omega),fun _=>⟨⟨by omega,by omega,by omega,by omega,a9D ew (by omega)⟩,fun _=>⟨⟨trivial,by rw [er]; omega⟩,fun _=>⟨⟨trivial,by rw [List.length_drop,er]; show 2≤_; omega⟩,fun _=>⟨⟨trivial,by omega,?_⟩,fun _=>?_⟩⟩⟩⟩⟩
  · simp only [List.length_append,List.length_drop,er,ez]
    show (l.length:Int)≤((0+l.length+2+(l.length+3 - l.length - 2):Nat):Int)
    omega
  · exact congrArg (fun y=>(y,())) (Prod.ext rfl (Prod.ext e1 e2))
def b0J:u7:={ ps:=[.v (.d0 false Hand),.v Hand],rs:=[.i9 Hand],pre:=fun x=>List.length (α:=v6) x.1≤1048576,fn:=fun x=>((2,x.1,[x.2.1,x.2.1,(zH:v6)]),()),out:=fun _=>() }
noncomputable def b1m:Env:={ P:=Try.prog,tt:=tt,D0:=[],res:=[Go.ResultVar.tmp 4],rs:=[Ty.i9 Hand],ps:=[PK.v (Ty.d0 false Hand),PK.v Hand],E1:=[],nt:=20 }
theorem a80:B3 b1m:=D5 s7 trivial
theorem a8R:E9 b1m Try.f34:=⟨rfl,rfl⟩
theorem b6E (x0:List (Bool×Int×Int×Unit)) (x1_1:Bool) (x1_2_1:Int) (x1_2_2_1:Int):exec b1m 1000 [.code (d9 Try.prog 34)] (A3 b0J.ps ((x0,(x1_1,x1_2_1,x1_2_2_1,()),()))) =
  .f9 (w9 IntKind.i64 ((↑(List.length x0):Int)+(3:Int))) (.f9 ((1:Int)≤(↑(List.length x0):Int)+(3:Int)∧(0:Int)≤(0:Int)∧(0:Int)≤(↑(List.length x0):Int)+(3:Int)∧(↑(List.length x0):Int)+(3:Int)≤(140737488355328:Int)∧((↑(List.length x0):Int)+(3:Int))*(↑(Ty.wb Hand):Int)≤(140737488355328:Int)) (.f9 (2=2∧List.length x0≤List.length (List.replicate (Int.toNat ((↑(List.length x0):Int)+(3:Int)) - Int.toNat (0:Int)) zH)) (.f9 (2=2∧List.length (List.set (List.set [zH,zH] (Int.toNat (↑0:Int)) (x1_1,x1_2_1,x1_2_2_1,())) (Int.toNat (↑1:Int)) (x1_1,x1_2_1,x1_2_2_1,()))≤List.length (List.drop (List.length x0) (List.replicate (Int.toNat ((↑(List.length x0):Int)+(3:Int)) - Int.toNat (0:Int)) zH))) (.f9 (2=2∧(0:Int)≤(↑(List.length x0):Int)∧(↑(List.length x0):Int)≤(↑(List.length (List.replicate (Int.toNat (0:Int)) zH++x0++List.set (List.set [zH,zH] (Int.toNat (↑0:Int)) (x1_1,x1_2_1,x1_2_2_1,())) (Int.toNat (↑1:Int)) (x1_1,x1_2_1,x1_2_2_1,()))+List.length (List.drop (List.length (List.set (List.set [zH,zH] (Int.toNat (↑0:Int)) (x1_1,x1_2_1,x1_2_2_1,())) (Int.toNat (↑1:Int)) (x1_1,x1_2_1,x1_2_2_1,()))) (List.drop (List.length x0) (List.replicate (Int.toNat ((↑(List.length x0):Int)+(3:Int)) - Int.toNat (0:Int)) zH)))):Int)) (.ret (((2,List.take (Int.toNat (↑(List.length x0):Int)) (List.replicate (Int.toNat (0:Int)) zH++x0++List.set (List.set [zH,zH] (Int.toNat (↑0:Int)) (x1_1,x1_2_1,x1_2_2_1,())) (Int.toNat (↑1:Int)) (x1_1,x1_2_1,x1_2_2_1,())++List.drop (List.length (List.set (List.set [zH,zH] (Int.toNat (↑0:Int)) (x1_1,x1_2_1,x1_2_2_1,())) (Int.toNat (↑1:Int)) (x1_1,x1_2_1,x1_2_2_1,()))) (List.drop (List.length x0) (List.replicate (Int.toNat ((↑(List.length x0):Int)+(3:Int)) - Int.toNat (0:Int)) zH))),List.drop (Int.toNat (↑(List.length x0):Int)) (List.replicate (Int.toNat (0:Int)) zH++x0++List.set (List.set [zH,zH] (Int.toNat (↑0:Int)) (x1_1,x1_2_1,x1_2_2_1,())) (Int.toNat (↑1:Int)) (x1_1,x1_2_1,x1_2_2_1,())++List.drop (List.length (List.set (List.set [zH,zH] (Int.toNat (↑0:Int)) (x1_1,x1_2_1,x1_2_2_1,())) (Int.toNat (↑1:Int)) (x1_1,x1_2_1,x1_2_2_1,()))) (List.drop (List.length x0) (List.replicate (Int.toNat ((↑(List.length x0):Int)+(3:Int)) - Int.toNat (0:Int)) zH)))),()))))))):=by kernel_rfl
theorem b0I:b0J.Valid Try.prog 34:=by
  refine u7.u6 a80 rfl rfl Try.func34 (c:=d9 Try.prog 34) rfl rfl a8R rfl ?_
  rintro ⟨(l:List (v6)),⟨(x0:Bool),(x1:Int),(x2:Int),⟨⟩⟩,⟨⟩⟩ (hp:l.length≤1048576) -
  refine o4 (n:=1000) a80 a8R ?_
  refine n6 (b6E l x0 x1 x2) ?_
  obtain ⟨e1,e2⟩:=a7R l ((x0,x1,x2,()):v6) (zH:v6)
  have e0:List.set (List.set [(zH:v6),(zH:v6)] (Int.toNat ((0:Nat):Int)) (x0,x1,x2,())) (Int.toNat ((1:Nat):Int)) (x0,x1,x2,())=[(x0,x1,x2,()),(x0,x1,x2,())]:=rfl
  have er:(List.replicate (Int.toNat ((l.length:Int)+3) - Int.toNat 0) (zH:v6)).length=l.length+3:=by rw [List.length_replicate]; omega
  have ez:(List.replicate (Int.toNat 0) (zH:v6)).length=0:=rfl
  have ew:Ty.wb Hand≤1024:=by decide
  simp only [e0]
  refine ⟨r9.2 (by omega),fun _=>⟨⟨by omega,by omega,by omega,by omega,a9D ew (by omega)⟩,fun _=>⟨⟨trivial,by rw [er]; omega⟩,fun _=>⟨⟨trivial,by rw [List.length_drop,er]; show 2≤_; omega⟩,fun _=>⟨⟨trivial,by omega,?_⟩,fun _=>?_⟩⟩⟩⟩⟩
  · simp only [List.length_append,List.length_drop,er,ez]
    show (l.length:Int)≤((0+l.length+2+(l.length+3 - l.length - 2):Nat):Int)
    omega
  · exact congrArg (fun y=>(y,())) (Prod.ext rfl (Prod.ext e1 e2))
def a7F:u7:={ ps:=[.v (.i9 i6),.v (.d0 false i6),.v i6],rs:=[.bool],pre:=fun x=>x.1.1=(3:Nat)∧2≤List.length (α:=o8) x.1.2.2∧List.length (α:=o8) x.1.2.1≤1048576,fn:=fun x=>(decide ((show List (o8) from x.1.2.1)=(show List (o8) from x.2.1)) && (decide ((show o8 from List.getD (α:=o8) x.1.2.2 0 zW)=(show o8 from x.2.2.1)) && decide ((show o8 from List.getD (α:=o8) x.1.2.2 1 zW)=(show o8 from x.2.2.1))),()),out:=fun _=>() }
noncomputable def a7U:Env:={ P:=Try.prog,tt:=tt,D0:=[(148,a6J)],res:=[Go.ResultVar.tmp 6],rs:=[Ty.bool],ps:=[PK.v (Ty.i9 i6),PK.v (Ty.d0 false i6),PK.v i6],E1:=[],nt:=35 }
theorem a65:B3 a7U:=D5 s7 ⟨a2H,trivial⟩
theorem a6V:E9 a7U Try.f41:=⟨rfl,rfl⟩
theorem b5s (x0_n:Nat) (x0_l:List (Int×Int×Int×Unit)) (x0_m:List (Int×Int×Int×Unit)) (x1:List (Int×Int×Int×Unit)) (x2_1:Int) (x2_2_1:Int) (x2_2_2_1:Int):exec a7U 1000 [.code (d9 Try.prog 41)] (A3 a7F.ps (((x0_n,x0_l,x0_m),x1,(x2_1,x2_2_1,x2_2_2_1,()),()))) =
  .f9 (w9 IntKind.i64 ((↑(List.length x0_l):Int)+(2:Int))) (.f9 (x0_n=3∧(0:Int)≤(0:Int)∧(0:Int)≤(↑(List.length x0_l):Int)+(2:Int)∧(↑(List.length x0_l):Int)+(2:Int)≤(↑(List.length x0_l+List.length x0_m):Int)) (.f9 (True) (cond (decide (x0_l=x1)) (.f9 ((0:Int)≤(↑(List.length x0_l):Int)∧(↑(List.length x0_l):Int)<(↑(List.length (s9 (0:Int) ((↑(List.length x0_l):Int)+(2:Int)) (x0_l++x0_m))):Int)) (cond (D4 i6 (List.getD (s9 (0:Int) ((↑(List.length x0_l):Int)+(2:Int)) (x0_l++x0_m)) (Int.toNat (↑(List.length x0_l):Int)) ((0:Int),(0:Int),(0:Int),())) (x2_1,x2_2_1,x2_2_2_1,())) (.f9 (w9 IntKind.i64 ((↑(List.length x0_l):Int)+(1:Int))) (.f9 ((0:Int)≤(↑(List.length x0_l):Int)+(1:Int)∧(↑(List.length x0_l):Int)+(1:Int)<(↑(List.length (s9 (0:Int) ((↑(List.length x0_l):Int)+(2:Int)) (x0_l++x0_m))):Int)) (.ret ((D4 i6 (List.getD (s9 (0:Int) ((↑(List.length x0_l):Int)+(2:Int)) (x0_l++x0_m)) (Int.toNat ((↑(List.length x0_l):Int)+(1:Int))) ((0:Int),(0:Int),(0:Int),())) (x2_1,x2_2_1,x2_2_2_1,()),()))))) (.ret ((false,()))))) (.ret ((false,())))))):=by kernel_rfl
theorem a9b:a7F.Valid Try.prog 41:=by
  refine u7.u6 a65 rfl rfl Try.func41 (c:=d9 Try.prog 41) rfl rfl a6V rfl ?_
  rintro ⟨⟨(n:Nat),(l:List (o8)),(m:List (o8))⟩,(was:List (o8)),⟨(x0:Int),(x1:Int),(x2:Int),⟨⟩⟩,⟨⟩⟩ ⟨(h3:n=3),(h2:2≤m.length),(hlen:l.length≤1048576)⟩ -
  subst h3
  refine o4 (n:=1000) a65 a6V ?_
  refine n6 (b5s 3 l m was x0 x1 x2) ?_
  obtain ⟨c1,c2,c3⟩:=a5x (l:=l) (d:=(zW:o8)) h2
  have en:Int.toNat ((l.length:Int)+1)=l.length+1:=by omega
  simp only [Tree.holds,true_and,true_implies,o7,decide_eq_true_eq,decide_eq_false_iff_not,Int.toNat_natCast,c1,c2,en,c3]
  refine ⟨r9.2 (by omega),fun _=>⟨by omega,fun _=>⟨fun a=>⟨by omega,fun _=>⟨fun b=>⟨r9.2 (by omega),fun _=>⟨by omega,fun _=>?_⟩⟩,fun b=>?_⟩⟩,fun a=>?_⟩⟩⟩
  · show ((_,()):Bool×Unit)=(_,())
    rw [decide_eq_true a,decide_eq_true (a6D.1 b)]; exact congrArg (fun z=>(z,())) (b2E a6D)
  · show ((_,()):Bool×Unit)=(_,())
    rw [decide_eq_true a,decide_eq_false (b2F b)]; rfl
  · show ((_,()):Bool×Unit)=(_,())
    rw [decide_eq_false a]; rfl
def a7G:u7:={ ps:=[.v (.i9 Hand),.v (.d0 false Hand),.v Hand],rs:=[.bool],pre:=fun x=>x.1.1=(3:Nat)∧2≤List.length (α:=v6) x.1.2.2∧List.length (α:=v6) x.1.2.1≤1048576,fn:=fun x=>(decide ((show List (v6) from x.1.2.1)=(show List (v6) from x.2.1)) && (decide ((show v6 from List.getD (α:=v6) x.1.2.2 0 zH)=(show v6 from x.2.2.1)) && decide ((show v6 from List.getD (α:=v6) x.1.2.2 1 zH)=(show v6 from x.2.2.1))),()),out:=fun _=>() }
noncomputable def a7V:Env:={ P:=Try.prog,tt:=tt,D0:=[(149,a9x)],res:=[Go.ResultVar.tmp 6],rs:=[Ty.bool],ps:=[PK.v (Ty.i9 Hand),PK.v (Ty.d0 false Hand),PK.v Hand],E1:=[],nt:=35 }
theorem a66:B3 a7V:=D5 s7 ⟨a5k,trivial⟩
theorem a6W:E9 a7V Try.f42:=⟨rfl,rfl⟩
theorem b5t (x0_n:Nat) (x0_l:List (Bool×Int×Int×Unit)) (x0_m:List (Bool×Int×Int×Unit)) (x1:List (Bool×Int×Int×Unit)) (x2_1:Bool) (x2_2_1:Int) (x2_2_2_1:Int):exec a7V 1000 [.code (d9 Try.prog 42)] (A3 a7G.ps (((x0_n,x0_l,x0_m),x1,(x2_1,x2_2_1,x2_2_2_1,()),()))) =
  .f9 (w9 IntKind.i64 ((↑(List.length x0_l):Int)+(2:Int))) (.f9 (x0_n=3∧(0:Int)≤(0:Int)∧(0:Int)≤(↑(List.length x0_l):Int)+(2:Int)∧(↑(List.length x0_l):Int)+(2:Int)≤(↑(List.length x0_l+List.length x0_m):Int)) (.f9 (True) (cond (decide (x0_l=x1)) (.f9 ((0:Int)≤(↑(List.length x0_l):Int)∧(↑(List.length x0_l):Int)<(↑(List.length (s9 (0:Int) ((↑(List.length x0_l):Int)+(2:Int)) (x0_l++x0_m))):Int)) (cond (D4 Hand (List.getD (s9 (0:Int) ((↑(List.length x0_l):Int)+(2:Int)) (x0_l++x0_m)) (Int.toNat (↑(List.length x0_l):Int)) (false,(0:Int),(0:Int),())) (x2_1,x2_2_1,x2_2_2_1,())) (.f9 (w9 IntKind.i64 ((↑(List.length x0_l):Int)+(1:Int))) (.f9 ((0:Int)≤(↑(List.length x0_l):Int)+(1:Int)∧(↑(List.length x0_l):Int)+(1:Int)<(↑(List.length (s9 (0:Int) ((↑(List.length x0_l):Int)+(2:Int)) (x0_l++x0_m))):Int)) (.ret ((D4 Hand (List.getD (s9 (0:Int) ((↑(List.length x0_l):Int)+(2:Int)) (x0_l++x0_m)) (Int.toNat ((↑(List.length x0_l):Int)+(1:Int))) (false,(0:Int),(0:Int),())) (x2_1,x2_2_1,x2_2_2_1,()),()))))) (.ret ((false,()))))) (.ret ((false,())))))):=by kernel_rfl
theorem a9c:a7G.Valid Try.prog 42:=by
  refine u7.u6 a66 rfl rfl Try.func42 (c:=d9 Try.prog 42) rfl rfl a6W rfl ?_
  rintro ⟨⟨(n:Nat),(l:List (v6)),(m:List (v6))⟩,(was:List (v6)),⟨(x0:Bool),(x1:Int),(x2:Int),⟨⟩⟩,⟨⟩⟩ ⟨(h3:n=3),(h2:2≤m.length),(hlen:l.length≤1048576)⟩ -
  subst h3
  refine o4 (n:=1000) a66 a6W ?_
  refine n6 (b5t 3 l m was x0 x1 x2) ?_
  obtain ⟨c1,c2,c3⟩:=a5x (l:=l) (d:=(zH:v6)) h2
  have en:Int.toNat ((l.length:Int)+1)=l.length+1:=by omega
  simp only [Tree.holds,true_and,true_implies,o7,decide_eq_true_eq,decide_eq_false_iff_not,Int.toNat_natCast,c1,c2,en,c3]
  refine ⟨r9.2 (by omega),fun _=>⟨by omega,fun _=>⟨fun a=>⟨by omega,fun _=>⟨fun b=>⟨r9.2 (by omega),fun _=>⟨by omega,fun _=>?_⟩⟩,fun b=>?_⟩⟩,fun a=>?_⟩⟩⟩
  · show ((_,()):Bool×Unit)=(_,())
    rw [decide_eq_true a,decide_eq_true (a6E.1 b)]; exact congrArg (fun z=>(z,())) (b2E a6E)
  · show ((_,()):Bool×Unit)=(_,())
    rw [decide_eq_true a,decide_eq_false (b2H b)]; rfl
  · show ((_,()):Bool×Unit)=(_,())
    rw [decide_eq_false a]; rfl
def b48:u7:=a2O i6
theorem b0o:b48.Valid Try.prog 44:=by
  refine a1Y (S:=64) (I:=3) (T:=73) (e:=b3j (d9 Try.prog 44) [3,5,6,7,8,0,9,10,11,12,13,4,14,15,16,17,19,18,20]) (by kernel_rfl) (by kernel_rfl) (by kernel_rfl) Try.func44 (by kernel_rfl) rfl rfl rfl
def b49:u7:=a2O Hand
theorem b0p:b49.Valid Try.prog 45:=by
  refine a1Y (S:=67) (I:=3) (T:=75) (e:=b3j (d9 Try.prog 45) [3,5,6,7,8,0,9,10,11,12,13,4,14,15,16,17,19,18,20]) (by kernel_rfl) (by kernel_rfl) (by kernel_rfl) Try.func45 (by kernel_rfl) rfl rfl rfl

end Go.Proofs.Ytekbamiaenbhjaa
