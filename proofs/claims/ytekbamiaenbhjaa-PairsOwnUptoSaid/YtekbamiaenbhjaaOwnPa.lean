/- ample, stays, spoil at api.Pair; slices.EqualFunc at [][]int; how long the answers of match and poset are. -/
import Derived.Test.YtekbamiaenbhjaaOwnA
import Derived.Test.YtekbamiaenbhjaaCovB
import Derived.Test.YtekbamiaenbhjaaPosX
namespace Go.Proofs.Ytekbamiaenbhjaa
open Go.Ex Go.Sort
set_option maxRecDepth 100000
theorem a6c {a b:l6}:G3 (Ty.pair (Ty.int IntKind.i64) (Ty.pair (Ty.int IntKind.i64) Ty.unit)) a b=true↔a=b:=by
  obtain ⟨a1,a2,⟨⟩⟩:=a
  obtain ⟨b1,b2,⟨⟩⟩:=b
  show (decide (a1=b1) && (decide (a2=b2) && true))=true↔_
  simp
theorem b1V {a b:l6} (h:G3 (Ty.pair (Ty.int IntKind.i64) (Ty.pair (Ty.int IntKind.i64) Ty.unit)) a b=false):¬ a=b:=fun e=>by rw [a6c.2 e] at h; cases h
abbrev zP:l6:=(0,0,())
def b02:w8:={ ps:=[.v (.d0 false l5),.v (.d0 false l5)],rs:=[.bool],pre:=fun _=>True,fn:=fun x=>(decide ((show List (l6) from x.1)=(show List (l6) from x.2.1)),()),out:=fun _=>() }
noncomputable def b07:Env:={ P:=Try.prog,tt:=tt,F7:=[],res:=[Go.ResultVar.tmp 4],rs:=[Ty.bool],ps:=[PK.v (Ty.d0 false l5),PK.v (Ty.d0 false l5)],H2:=[(4,[(0,none),(1,none),(12,none),(13,none)])],nt:=26 }
theorem a7n:D7 b07:=G8 x5 trivial
theorem a7h:H9 b07 Try.f103:=⟨rfl,rfl⟩
theorem c0D (x0:List (Int×Int×Unit)) (x1:List (Int×Int×Unit)):exec b07 1000 [.code (d8 Try.prog 103)] (C2 b02.ps ((x0,x1,()))) =
  cond (decide ((↑(List.length x0):Int)≠(↑(List.length x1):Int))) (.ret ((false,()))) (.cut (e8 (d8 Try.prog 103) 4).1 (e8 (d8 Try.prog 103) 4).2 (St.mk [(0,AV.val (Ty.d0 false l5) x0),(1,AV.val (Ty.d0 false l5) x1),(12,AV.val (Ty.int IntKind.i64) (↑(List.length x0):Int)),(13,AV.val (Ty.int IntKind.i64) (0:Int))] [])):=by kernel_rfl
def b2X (v0:List (Int×Int×Unit)) (v1:List (Int×Int×Unit)) (v12:Int) (v13:Int):St:=St.mk [(0,AV.val (Ty.d0 false l5) v0),(1,AV.val (Ty.d0 false l5) v1),(12,AV.val (Ty.int IntKind.i64) v12),(13,AV.val (Ty.int IntKind.i64) v13)] []
theorem b9e (v0:List (Int×Int×Unit)) (v1:List (Int×Int×Unit)) (v12:Int) (v13:Int):exec b07 1000 (.code (e8 (d8 Try.prog 103) 4).1::.inLoop (e8 (d8 Try.prog 103) 4).1::(e8 (d8 Try.prog 103) 4).2) (b2X v0 v1 v12 v13) =
  cond (decide (v13<v12)) (.g9 ((0:Int)≤v13∧v13<(↑(List.length v0):Int)) (.g9 ((0:Int)≤v13∧v13<(↑(List.length v1):Int)) (cond (!G3 l5 (List.getD v0 (Int.toNat v13) ((0:Int),(0:Int),())) (List.getD v1 (Int.toNat v13) ((0:Int),(0:Int),()))) (.ret ((false,()))) (.g9 (B2 IntKind.i64 (v13+(1:Int))) (.cut (e8 (d8 Try.prog 103) 4).1 (e8 (d8 Try.prog 103) 4).2 (St.mk [(0,AV.val (Ty.d0 false l5) v0),(1,AV.val (Ty.d0 false l5) v1),(12,AV.val (Ty.int IntKind.i64) v12),(13,AV.val (Ty.int IntKind.i64) (v13+(1:Int)))] [])))))) (.ret ((true,()))):=by kernel_rfl
theorem a6A:b02.Valid Try.prog 103:=by
  refine w8.y8 a7n rfl rfl Try.func103 (c:=d8 Try.prog 103) rfl rfl a7h rfl ?_
  rintro ⟨(l:List (l6)),(m:List (l6)),⟨⟩⟩ - ⟨⟨hl,-⟩,-⟩
  have hl:l.length≤9223372036854775807:=hl
  refine p8 (n:=1000) a7n a7h ?_
  refine l4 (c0D l m) ?_
  have fin:∀ {b:Bool},(b=true↔l=m)→((b,()):Bool×Unit)=(decide (l=m),()):=fun {b} h=>by
    cases b with
    | true=>rw [decide_eq_true (h.1 rfl)]
    | false=>rw [decide_eq_false (fun e=>by cases h.2 e)]
  simp only [p7,Tree.holds,true_and,true_implies,decide_eq_true_eq,decide_eq_false_iff_not,Bool.not_eq_true',Bool.not_eq_false',Int.toNat_natCast,u7,List.length_set,List.length_cons,List.length_nil]
  refine ⟨fun c=>fin ⟨fun h=>(by cases h),fun h=>absurd (congrArg (fun q:List (l6)=>(q.length:Int)) h) c⟩,fun c=>?_⟩
  refine Reach.J8 a7n a7h (fun i:Nat=>b2X l m (l.length:Int) (i:Int)) (fun i=>i≤l.length∧∀ j,j<i→l.getD j zP=m.getD j zP)
    (fun i=>l.length - i) 1000 (fun _=>⟨r9 rfl,r9 rfl⟩) ?_ 0 ⟨Nat.zero_le _,fun j hj=>by omega⟩
  rintro i ⟨k1,k2⟩ - ih
  refine l4 (b9e ..) ?_
  have c:l.length=m.length:=by omega
  simp only [p7,Tree.holds,true_and,true_implies,decide_eq_true_eq,decide_eq_false_iff_not,Bool.not_eq_true',Bool.not_eq_false',Int.toNat_natCast,u7,List.length_set,List.length_cons,List.length_nil]
  refine ⟨fun d1=>⟨by omega,fun _=>⟨by omega,fun _=>⟨fun d2=>fin ⟨fun h=>(by cases h),fun h=>absurd (congrArg (fun q:List (l6)=>q.getD i zP) h) (b1V d2)⟩,fun d2=>⟨by omega,fun _=>ih (i+1) ⟨by omega,fun j hj=>?_⟩ (by omega)⟩⟩⟩⟩,fun d1=>fin ⟨fun _=>eq_of_getD c (fun j hj=>k2 j (by omega)),fun _=>rfl⟩⟩
  rcases Nat.lt_or_ge j i with h|h
  · exact k2 j h
  · obtain rfl:j=i:=by omega
    exact a6c.1 d2
theorem c0M:Ty.wb l5=16:=rfl
def b5Z:w8:={ ps:=[.v (.d0 false l5)],rs:=[.d0 true l5],pre:=fun x=>List.length (α:=l6) x.1≤1048576,fn:=fun x=>x,out:=fun _=>() }
noncomputable def b6B:Env:={ P:=Try.prog,tt:=tt,F7:=[],res:=[Go.ResultVar.tmp 2],rs:=[Ty.d0 true l5],ps:=[PK.v (Ty.d0 false l5)],H2:=[],nt:=8 }
theorem b22:D7 b6B:=G8 x5 trivial
theorem b2L:H9 b6B Try.f101:=⟨rfl,rfl⟩
theorem c0H (x0:List (Int×Int×Unit)):exec b6B 1000 [.code (d8 Try.prog 101)] (C2 b5Z.ps ((x0,()))) =
  .both (x0=[]) (.ret (([],()))) (.g9 ((0:Nat)+List.length x0≤140737488355328∧((0:Nat)+List.length x0)*Ty.wb l5≤140737488355328) (.ret (([]++x0,())))):=by kernel_rfl
theorem b3E:b5Z.Valid Try.prog 101:=by
  refine w8.y8 b22 rfl rfl Try.func101 (c:=d8 Try.prog 101) rfl rfl b2L rfl ?_
  rintro ⟨(l:List (l6)),⟨⟩⟩ hp -
  have hp:l.length≤1048576:=hp
  refine p8 (n:=1000) b22 b2L ?_
  refine l4 (c0H l) ?_
  simp only [p7,Tree.holds,true_and,true_implies,decide_eq_true_eq,decide_eq_false_iff_not,Bool.not_eq_true',Bool.not_eq_false',Int.toNat_natCast,u7,List.length_set,List.length_cons,List.length_nil,c0M]
  refine ⟨fun h=>?_,by omega,fun _=>rfl⟩
  show (([],()):List (l6)×Unit)=(l,())
  rw [show l=[] from h]
def b2q:w8:={ ps:=[.v (.d0 false l5),.v l5],rs:=[.s7 l5],pre:=fun x=>List.length (α:=l6) x.1≤1048576,fn:=fun x=>((2,x.1,[x.2.1,x.2.1,(zP:l6)]),()),out:=fun _=>() }
noncomputable def b24:Env:={ P:=Try.prog,tt:=tt,F7:=[],res:=[Go.ResultVar.tmp 4],rs:=[Ty.s7 l5],ps:=[PK.v (Ty.d0 false l5),PK.v l5],H2:=[],nt:=20 }
theorem b0s:D7 b24:=G8 x5 trivial
theorem b0k:H9 b24 Try.f97:=⟨rfl,rfl⟩
theorem b9l (x0:List (Int×Int×Unit)) (x1_1:Int) (x1_2_1:Int):exec b24 1000 [.code (d8 Try.prog 97)] (C2 b2q.ps ((x0,(x1_1,x1_2_1,()),()))) =
  .g9 (B2 IntKind.i64 ((↑(List.length x0):Int)+(3:Int))) (.g9 ((1:Int)≤(↑(List.length x0):Int)+(3:Int)∧(0:Int)≤(0:Int)∧(0:Int)≤(↑(List.length x0):Int)+(3:Int)∧(↑(List.length x0):Int)+(3:Int)≤(140737488355328:Int)∧((↑(List.length x0):Int)+(3:Int))*(↑(Ty.wb l5):Int)≤(140737488355328:Int)) (.g9 (2=2∧List.length x0≤List.length (List.replicate (Int.toNat ((↑(List.length x0):Int)+(3:Int)) - Int.toNat (0:Int)) zP)) (.g9 (2=2∧List.length (List.set (List.set [zP,zP] (Int.toNat (↑0:Int)) (x1_1,x1_2_1,())) (Int.toNat (↑1:Int)) (x1_1,x1_2_1,()))≤List.length (List.drop (List.length x0) (List.replicate (Int.toNat ((↑(List.length x0):Int)+(3:Int)) - Int.toNat (0:Int)) zP))) (.g9 (2=2∧(0:Int)≤(↑(List.length x0):Int)∧(↑(List.length x0):Int)≤(↑(List.length (List.replicate (Int.toNat (0:Int)) zP++x0++List.set (List.set [zP,zP] (Int.toNat (↑0:Int)) (x1_1,x1_2_1,())) (Int.toNat (↑1:Int)) (x1_1,x1_2_1,()))+List.length (List.drop (List.length (List.set (List.set [zP,zP] (Int.toNat (↑0:Int)) (x1_1,x1_2_1,())) (Int.toNat (↑1:Int)) (x1_1,x1_2_1,()))) (List.drop (List.length x0) (List.replicate (Int.toNat ((↑(List.length x0):Int)+(3:Int)) - Int.toNat (0:Int)) zP)))):Int)) (.ret (((2,List.take (Int.toNat (↑(List.length x0):Int)) (List.replicate (Int.toNat (0:Int)) zP++x0++List.set (List.set [zP,zP] (Int.toNat (↑0:Int)) (x1_1,x1_2_1,())) (Int.toNat (↑1:Int)) (x1_1,x1_2_1,())++List.drop (List.length (List.set (List.set [zP,zP] (Int.toNat (↑0:Int)) (x1_1,x1_2_1,())) (Int.toNat (↑1:Int)) (x1_1,x1_2_1,()))) (List.drop (List.length x0) (List.replicate (Int.toNat ((↑(List.length x0):Int)+(3:Int)) - Int.toNat (0:Int)) zP))),List.drop (Int.toNat (↑(List.length x0):Int)) (List.replicate (Int.toNat (0:Int)) zP++x0++List.set (List.set [zP,zP] (Int.toNat (↑0:Int)) (x1_1,x1_2_1,())) (Int.toNat (↑1:Int)) (x1_1,x1_2_1,())++List.drop (List.length (List.set (List.set [zP,zP] (Int.toNat (↑0:Int)) (x1_1,x1_2_1,())) (Int.toNat (↑1:Int)) (x1_1,x1_2_1,()))) (List.drop (List.length x0) (List.replicate (Int.toNat ((↑(List.length x0):Int)+(3:Int)) - Int.toNat (0:Int)) zP)))),()))))))):=by kernel_rfl
theorem b2p:b2q.Valid Try.prog 97:=by
  refine w8.y8 b0s rfl rfl Try.func97 (c:=d8 Try.prog 97) rfl rfl b0k rfl ?_
  rintro ⟨(l:List (l6)),⟨(x0:Int),(x1:Int),⟨⟩⟩,⟨⟩⟩ (hp:l.length≤1048576) -
  refine p8 (n:=1000) b0s b0k ?_
  refine l4 (b9l l x0 x1) ?_
  obtain ⟨e1,e2⟩:=c0t l ((x0,x1,()):l6) (zP:l6)
  have e0:List.set (List.set [(zP:l6),(zP:l6)] (Int.toNat ((0:Nat):Int)) (x0,x1,())) (Int.toNat ((1:Nat):Int)) (x0,x1,())=[(x0,x1,()),(x0,x1,())]:=rfl
  have er:(List.replicate (Int.toNat ((l.length:Int)+3) - Int.toNat 0) (zP:l6)).length=l.length+3:=by rw [List.length_replicate]; omega
  have ez:(List.replicate (Int.toNat 0) (zP:l6)).length=0:=rfl
  have ew:Ty.wb l5≤1024:=by decide
  simp only [e0]
  refine ⟨u7.2 (by omega),fun _=>⟨⟨by omega,by omega,by omega,by omega,b8d ew (by omega)⟩,fun _=>⟨⟨trivial,by rw [er]; omega⟩,fun _=>⟨⟨trivial,by rw [List.length_drop,er]; show 2≤_; omega⟩,fun _=>⟨⟨trivial,by omega,?_⟩,fun _=>?_⟩⟩⟩⟩⟩
  · simp only [List.length_append,List.length_drop,er,ez]
    show (l.length:Int)≤((0+l.length+2+(l.length+3 - l.length - 2):Nat):Int)
    omega
  · exact congrArg (fun y=>(y,())) (Prod.ext rfl (Prod.ext e1 e2))
def a88:w8:={ ps:=[.v (.s7 l5),.v (.d0 false l5),.v l5],rs:=[.bool],pre:=fun x=>x.1.1=(3:Nat)∧2≤List.length (α:=l6) x.1.2.2∧List.length (α:=l6) x.1.2.1≤1048576,fn:=fun x=>(decide ((show List (l6) from x.1.2.1)=(show List (l6) from x.2.1)) && (decide ((show l6 from List.getD (α:=l6) x.1.2.2 0 zP)=(show l6 from x.2.2.1)) && decide ((show l6 from List.getD (α:=l6) x.1.2.2 1 zP)=(show l6 from x.2.2.1))),()),out:=fun _=>() }
noncomputable def a9n:Env:={ P:=Try.prog,tt:=tt,F7:=[(103,b02)],res:=[Go.ResultVar.tmp 6],rs:=[Ty.bool],ps:=[PK.v (Ty.s7 l5),PK.v (Ty.d0 false l5),PK.v l5],H2:=[],nt:=35 }
theorem a8w:D7 a9n:=G8 x5 ⟨a6A,trivial⟩
theorem a8t:H9 a9n Try.f100:=⟨rfl,rfl⟩
theorem b7Y (x0_n:Nat) (x0_l:List (Int×Int×Unit)) (x0_m:List (Int×Int×Unit)) (x1:List (Int×Int×Unit)) (x2_1:Int) (x2_2_1:Int):exec a9n 1000 [.code (d8 Try.prog 100)] (C2 a88.ps (((x0_n,x0_l,x0_m),x1,(x2_1,x2_2_1,()),()))) =
  .g9 (B2 IntKind.i64 ((↑(List.length x0_l):Int)+(2:Int))) (.g9 (x0_n=3∧(0:Int)≤(0:Int)∧(0:Int)≤(↑(List.length x0_l):Int)+(2:Int)∧(↑(List.length x0_l):Int)+(2:Int)≤(↑(List.length x0_l+List.length x0_m):Int)) (.g9 (True) (cond (decide (x0_l=x1)) (.g9 ((0:Int)≤(↑(List.length x0_l):Int)∧(↑(List.length x0_l):Int)<(↑(List.length (B6 (0:Int) ((↑(List.length x0_l):Int)+(2:Int)) (x0_l++x0_m))):Int)) (cond (G3 l5 (List.getD (B6 (0:Int) ((↑(List.length x0_l):Int)+(2:Int)) (x0_l++x0_m)) (Int.toNat (↑(List.length x0_l):Int)) ((0:Int),(0:Int),())) (x2_1,x2_2_1,())) (.g9 (B2 IntKind.i64 ((↑(List.length x0_l):Int)+(1:Int))) (.g9 ((0:Int)≤(↑(List.length x0_l):Int)+(1:Int)∧(↑(List.length x0_l):Int)+(1:Int)<(↑(List.length (B6 (0:Int) ((↑(List.length x0_l):Int)+(2:Int)) (x0_l++x0_m))):Int)) (.ret ((G3 l5 (List.getD (B6 (0:Int) ((↑(List.length x0_l):Int)+(2:Int)) (x0_l++x0_m)) (Int.toNat ((↑(List.length x0_l):Int)+(1:Int))) ((0:Int),(0:Int),())) (x2_1,x2_2_1,()),()))))) (.ret ((false,()))))) (.ret ((false,())))))):=by kernel_rfl
theorem b0F:a88.Valid Try.prog 100:=by
  refine w8.y8 a8w rfl rfl Try.func100 (c:=d8 Try.prog 100) rfl rfl a8t rfl ?_
  rintro ⟨⟨(n:Nat),(l:List (l6)),(m:List (l6))⟩,(was:List (l6)),⟨(x0:Int),(x1:Int),⟨⟩⟩,⟨⟩⟩ ⟨(h3:n=3),(h2:2≤m.length),(hlen:l.length≤1048576)⟩ -
  subst h3
  refine p8 (n:=1000) a8w a8t ?_
  refine l4 (b7Y 3 l m was x0 x1) ?_
  obtain ⟨c1,c2,c3⟩:=b8j (l:=l) (d:=(zP:l6)) h2
  have en:Int.toNat ((l.length:Int)+1)=l.length+1:=by omega
  simp only [Tree.holds,true_and,true_implies,p7,decide_eq_true_eq,decide_eq_false_iff_not,Int.toNat_natCast,c1,c2,en,c3]
  refine ⟨u7.2 (by omega),fun _=>⟨by omega,fun _=>⟨fun a=>⟨by omega,fun _=>⟨fun b=>⟨u7.2 (by omega),fun _=>⟨by omega,fun _=>?_⟩⟩,fun b=>?_⟩⟩,fun a=>?_⟩⟩⟩
  · show ((_,()):Bool×Unit)=(_,())
    rw [decide_eq_true a,decide_eq_true (a6c.1 b)]; exact congrArg (fun z=>(z,())) (c0g a6c)
  · show ((_,()):Bool×Unit)=(_,())
    rw [decide_eq_true a,decide_eq_false (b1V b)]; rfl
  · show ((_,()):Bool×Unit)=(_,())
    rw [decide_eq_false a]; rfl
def b7A:w8:=a7C l5
theorem b2b:b7A.Valid Try.prog 102:=by
  refine b1h (S:=46) (I:=3) (T:=60) (e:=c02 (d8 Try.prog 102) [3,5,6,7,8,0,9,10,11,12,13,4,14,15,16,17,19,18,20]) (by kernel_rfl) (by kernel_rfl) (by kernel_rfl) Try.func102 (by kernel_rfl) rfl rfl rfl
def b5W:w8:={ ps:=[.v (.d0 false (.d0 false A4)),.v (.d0 false (.d0 false A4)),.u6 19 []],rs:=[.bool],pre:=fun _=>True,fn:=fun x=>(decide ((show List (List Int) from x.1)=(show List (List Int) from x.2.1)),()),out:=fun _=>() }
noncomputable def b08:Env:={ P:=Try.prog,tt:=tt,F7:=[(19,b5V)],res:=[Go.ResultVar.tmp 6],rs:=[Ty.bool],ps:=[PK.v (Ty.d0 false (Ty.d0 false (Ty.int IntKind.i64))),PK.v (Ty.d0 false (Ty.d0 false (Ty.int IntKind.i64))),PK.u6 19 []],H2:=[(4,[(1,none),(2,none),(15,none),(16,none),(17,none)])],nt:=32 }
theorem a7o:D7 b08:=G8 x5 ⟨a8k,trivial⟩
theorem a7i:H9 b08 Try.f104:=⟨rfl,rfl⟩
theorem c0F (x0:List (List Int)) (x1:List (List Int)):exec b08 1000 [.code (d8 Try.prog 104)] (C2 b5W.ps ((x0,x1,(),()))) =
  cond (decide ((↑(List.length x0):Int)≠(↑(List.length x1):Int))) (.ret ((false,()))) (.cut (e8 (d8 Try.prog 104) 4).1 (e8 (d8 Try.prog 104) 4).2 (St.mk [(1,AV.val (Ty.d0 false (Ty.d0 false (Ty.int IntKind.i64))) x1),(2,AV.u6 19 AV.nil),(15,AV.val (Ty.d0 false (Ty.d0 false (Ty.int IntKind.i64))) x0),(16,AV.val (Ty.int IntKind.i64) (↑(List.length x0):Int)),(17,AV.val (Ty.int IntKind.i64) (0:Int))] [])):=by kernel_rfl
def b2Y (v1:List (List Int)) (v15:List (List Int)) (v16:Int) (v17:Int):St:=St.mk [(1,AV.val (Ty.d0 false (Ty.d0 false (Ty.int IntKind.i64))) v1),(2,AV.u6 19 AV.nil),(15,AV.val (Ty.d0 false (Ty.d0 false (Ty.int IntKind.i64))) v15),(16,AV.val (Ty.int IntKind.i64) v16),(17,AV.val (Ty.int IntKind.i64) v17)] []
theorem b9f (v1:List (List Int)) (v15:List (List Int)) (v16:Int) (v17:Int):exec b08 1000 (.code (e8 (d8 Try.prog 104) 4).1::.inLoop (e8 (d8 Try.prog 104) 4).1::(e8 (d8 Try.prog 104) 4).2) (b2Y v1 v15 v16 v17) =
  cond (decide (v17<v16)) (.g9 ((0:Int)≤v17∧v17<(↑(List.length v15):Int)) (.g9 ((0:Int)≤v17∧v17<(↑(List.length v1):Int)) (.g9 (True) (cond (!decide (List.getD v15 (Int.toNat v17) []=List.getD v1 (Int.toNat v17) [])) (.ret ((false,()))) (.g9 (B2 IntKind.i64 (v17+(1:Int))) (.cut (e8 (d8 Try.prog 104) 4).1 (e8 (d8 Try.prog 104) 4).2 (St.mk [(1,AV.val (Ty.d0 false (Ty.d0 false (Ty.int IntKind.i64))) v1),(2,AV.u6 19 AV.nil),(15,AV.val (Ty.d0 false (Ty.d0 false (Ty.int IntKind.i64))) v15),(16,AV.val (Ty.int IntKind.i64) v16),(17,AV.val (Ty.int IntKind.i64) (v17+(1:Int)))] []))))))) (.ret ((true,()))):=by kernel_rfl
theorem b3B:b5W.Valid Try.prog 104:=by
  refine w8.y8 a7o rfl rfl Try.func104 (c:=d8 Try.prog 104) rfl rfl a7i rfl ?_
  rintro ⟨(l:List (List Int)),(m:List (List Int)),⟨⟩,⟨⟩⟩ - ⟨⟨hl,-⟩,-⟩
  have hl:l.length≤9223372036854775807:=hl
  refine p8 (n:=1000) a7o a7i ?_
  refine l4 (c0F l m) ?_
  have fin:∀ {b:Bool},(b=true↔l=m)→((b,()):Bool×Unit)=(decide (l=m),()):=fun {b} h=>by
    cases b with
    | true=>rw [decide_eq_true (h.1 rfl)]
    | false=>rw [decide_eq_false (fun e=>by cases h.2 e)]
  simp only [p7,Tree.holds,true_and,true_implies,decide_eq_true_eq,decide_eq_false_iff_not,Bool.not_eq_true',Bool.not_eq_false',Int.toNat_natCast,u7,List.length_set,List.length_cons,List.length_nil]
  refine ⟨fun c=>fin ⟨fun h=>(by cases h),fun h=>absurd (congrArg (fun q:List (List Int)=>(q.length:Int)) h) c⟩,fun c=>?_⟩
  refine Reach.J8 a7o a7i (fun i:Nat=>b2Y m l (l.length:Int) (i:Int)) (fun i=>i≤l.length∧∀ j,j<i→l.getD j []=m.getD j [])
    (fun i=>l.length - i) 1000 (fun _=>⟨r9 rfl,r9 rfl⟩) ?_ 0 ⟨Nat.zero_le _,fun j hj=>by omega⟩
  rintro i ⟨k1,k2⟩ - ih
  refine l4 (b9f ..) ?_
  have c:l.length=m.length:=by omega
  simp only [p7,Tree.holds,true_and,true_implies,decide_eq_true_eq,decide_eq_false_iff_not,Bool.not_eq_true',Bool.not_eq_false',Int.toNat_natCast,u7,List.length_set,List.length_cons,List.length_nil]
  refine ⟨fun d1=>⟨by omega,fun _=>⟨by omega,fun _=>⟨fun d2=>fin ⟨fun h=>(by cases h),fun h=>?_⟩,fun d2=>⟨by omega,fun _=>ih (i+1) ⟨by omega,fun j hj=>?_⟩ (by omega)⟩⟩⟩⟩,fun d1=>fin ⟨fun _=>?_,fun _=>rfl⟩⟩
  · subst h
    exact absurd rfl d2
  · rcases Nat.lt_or_ge j i with h|h
    · exact k2 j h
    · obtain rfl:j=i:=by omega
      first|exact d2|exact Decidable.not_not.1 d2
  · refine List.ext_getElem c (fun j h1 h2=>?_)
    have:=k2 j (by omega)
    rwa [List.getD_eq_getElem?_getD,List.getD_eq_getElem?_getD,List.getElem?_eq_getElem h1,List.getElem?_eq_getElem h2] at this
def ttP:List (TypeId×TI):=(52,TI.mk (.pair A4 (.pair (.s7 l5) .unit)) 32)::tt
theorem c0P:ttP.all (a4c Try.prog)=true:=by kernel_rfl
end Go.Proofs.Ytekbamiaenbhjaa
