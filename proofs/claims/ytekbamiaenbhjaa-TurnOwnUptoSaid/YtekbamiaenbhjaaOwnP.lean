/- ample, stays, spoil at api.Wait; slices.Clone and slices.EqualFunc at [][]int; partref.SameTurn. -/
import Derived.Test.YtekbamiaenbhjaaOwnA
import Derived.Test.YtekbamiaenbhjaaTurnS
import Derived.Test.YtekbamiaenbhjaaSkB
namespace Go.Proofs.Ytekbamiaenbhjaa
open Go.Ex
set_option maxRecDepth 100000
theorem a7q {a b:w7}:G3 (Ty.pair (Ty.int IntKind.i64) (Ty.pair (Ty.pair (Ty.int IntKind.i64) (Ty.pair (Ty.int IntKind.i64) Ty.unit)) (Ty.pair Ty.bool Ty.unit))) a b=true↔a=b:=by
  obtain ⟨a1,⟨a2,a3,⟨⟩⟩,a4,⟨⟩⟩:=a
  obtain ⟨b1,⟨b2,b3,⟨⟩⟩,b4,⟨⟩⟩:=b
  show (decide (a1=b1) && ((decide (a2=b2) && (decide (a3=b3) && true)) && ((a4 == b4) && true)))=true↔_
  simp [and_assoc]
theorem b3X {a b:w7} (h:G3 (Ty.pair (Ty.int IntKind.i64) (Ty.pair (Ty.pair (Ty.int IntKind.i64) (Ty.pair (Ty.int IntKind.i64) Ty.unit)) (Ty.pair Ty.bool Ty.unit))) a b=false):¬ a=b:=fun e=>by rw [a7q.2 e] at h; cases h
abbrev zT:w7:=(0,(0,0,()),false,())
def a91:w6:={ ps:=[.v (.d0 false I4),.v (.d0 false I4)],rs:=[.bool],pre:=fun _=>True,fn:=fun x=>(decide ((show List (w7) from x.1)=(show List (w7) from x.2.1)),()),out:=fun _=>() }
noncomputable def b0b:Env:={ P:=Try.prog,tt:=tt,C7:=[],res:=[Go.ResultVar.tmp 4],rs:=[Ty.bool],ps:=[PK.v (Ty.d0 false (Ty.pair (Ty.int IntKind.i64) (Ty.pair t7 (Ty.pair Ty.bool Ty.unit)))),PK.v (Ty.d0 false (Ty.pair (Ty.int IntKind.i64) (Ty.pair t7 (Ty.pair Ty.bool Ty.unit))))],C5:=[(4,[(0,none),(1,none),(12,none),(13,none)])],nt:=26 }
theorem a6M:B0 b0b:=B9 t8 trivial
theorem a6B:D0 b0b Try.f93:=⟨rfl,rfl⟩
theorem c0E (x0:List (Int×(Int×Int×Unit)×Bool×Unit)) (x1:List (Int×(Int×Int×Unit)×Bool×Unit)):exec b0b 1000 [.code (d9 Try.prog 93)] (y8 a91.ps ((x0,x1,()))) =
  cond (decide ((↑(List.length x0):Int)≠(↑(List.length x1):Int))) (.ret ((false,()))) (.cut (i5 (d9 Try.prog 93) 4).1 (i5 (d9 Try.prog 93) 4).2 (St.mk [(0,AV.val (Ty.d0 false (Ty.pair (Ty.int IntKind.i64) (Ty.pair t7 (Ty.pair Ty.bool Ty.unit)))) x0),(1,AV.val (Ty.d0 false (Ty.pair (Ty.int IntKind.i64) (Ty.pair t7 (Ty.pair Ty.bool Ty.unit)))) x1),(12,AV.val (Ty.int IntKind.i64) (↑(List.length x0):Int)),(13,AV.val (Ty.int IntKind.i64) (0:Int))] [])):=by kernel_rfl
def b2o (v0:List (Int×(Int×Int×Unit)×Bool×Unit)) (v1:List (Int×(Int×Int×Unit)×Bool×Unit)) (v12:Int) (v13:Int):St:=St.mk [(0,AV.val (Ty.d0 false (Ty.pair (Ty.int IntKind.i64) (Ty.pair t7 (Ty.pair Ty.bool Ty.unit)))) v0),(1,AV.val (Ty.d0 false (Ty.pair (Ty.int IntKind.i64) (Ty.pair t7 (Ty.pair Ty.bool Ty.unit)))) v1),(12,AV.val (Ty.int IntKind.i64) v12),(13,AV.val (Ty.int IntKind.i64) v13)] []
theorem b8U (v0:List (Int×(Int×Int×Unit)×Bool×Unit)) (v1:List (Int×(Int×Int×Unit)×Bool×Unit)) (v12:Int) (v13:Int):exec b0b 1000 (.code (i5 (d9 Try.prog 93) 4).1::.inLoop (i5 (d9 Try.prog 93) 4).1::(i5 (d9 Try.prog 93) 4).2) (b2o v0 v1 v12 v13) =
  cond (decide (v13<v12)) (.f9 ((0:Int)≤v13∧v13<(↑(List.length v0):Int)) (.f9 ((0:Int)≤v13∧v13<(↑(List.length v1):Int)) (cond (!G3 (Ty.pair (Ty.int IntKind.i64) (Ty.pair t7 (Ty.pair Ty.bool Ty.unit))) (List.getD v0 (Int.toNat v13) ((0:Int),((0:Int),(0:Int),()),false,())) (List.getD v1 (Int.toNat v13) ((0:Int),((0:Int),(0:Int),()),false,()))) (.ret ((false,()))) (.f9 (C3 IntKind.i64 (v13+(1:Int))) (.cut (i5 (d9 Try.prog 93) 4).1 (i5 (d9 Try.prog 93) 4).2 (St.mk [(0,AV.val (Ty.d0 false (Ty.pair (Ty.int IntKind.i64) (Ty.pair t7 (Ty.pair Ty.bool Ty.unit)))) v0),(1,AV.val (Ty.d0 false (Ty.pair (Ty.int IntKind.i64) (Ty.pair t7 (Ty.pair Ty.bool Ty.unit)))) v1),(12,AV.val (Ty.int IntKind.i64) v12),(13,AV.val (Ty.int IntKind.i64) (v13+(1:Int)))] [])))))) (.ret ((true,()))):=by kernel_rfl
theorem a5V:a91.Valid Try.prog 93:=by
  refine w6.t6 a6M rfl rfl Try.func93 (c:=d9 Try.prog 93) rfl rfl a6B rfl ?_
  rintro ⟨(l:List (w7)),(m:List (w7)),⟨⟩⟩ - ⟨⟨hl,-⟩,-⟩
  have hl:l.length≤9223372036854775807:=hl
  refine l8 (n:=1000) a6M a6B ?_
  refine j9 (c0E l m) ?_
  have fin:∀ {b:Bool},(b=true↔l=m)→((b,()):Bool×Unit)=(decide (l=m),()):=fun {b} h=>by
    cases b with
    | true=>rw [decide_eq_true (h.1 rfl)]
    | false=>rw [decide_eq_false (fun e=>by cases h.2 e)]
  simp only [s4,Tree.holds,true_and,true_implies,decide_eq_true_eq,decide_eq_false_iff_not,Bool.not_eq_true',Bool.not_eq_false',Int.toNat_natCast,x5,List.length_set,List.length_cons,List.length_nil]
  refine ⟨fun c=>fin ⟨fun h=>(by cases h),fun h=>absurd (congrArg (fun q:List (w7)=>(q.length:Int)) h) c⟩,fun c=>?_⟩
  refine Reach.N1 a6M a6B (fun i:Nat=>b2o l m (l.length:Int) (i:Int)) (fun i=>i≤l.length∧∀ j,j<i→l.getD j zT=m.getD j zT)
    (fun i=>l.length - i) 1000 (fun _=>⟨x4 rfl,x4 rfl⟩) ?_ 0 ⟨Nat.zero_le _,fun j hj=>by omega⟩
  rintro i ⟨k1,k2⟩ - ih
  refine j9 (b8U ..) ?_
  have c:l.length=m.length:=by omega
  simp only [s4,Tree.holds,true_and,true_implies,decide_eq_true_eq,decide_eq_false_iff_not,Bool.not_eq_true',Bool.not_eq_false',Int.toNat_natCast,x5,List.length_set,List.length_cons,List.length_nil]
  refine ⟨fun d1=>⟨by omega,fun _=>⟨by omega,fun _=>⟨fun d2=>fin ⟨fun h=>(by cases h),fun h=>absurd (congrArg (fun q:List (w7)=>q.getD i zT) h) (b3X d2)⟩,fun d2=>⟨by omega,fun _=>ih (i+1) ⟨by omega,fun j hj=>?_⟩ (by omega)⟩⟩⟩⟩,fun d1=>fin ⟨fun _=>eq_of_getD c (fun j hj=>k2 j (by omega)),fun _=>rfl⟩⟩
  rcases Nat.lt_or_ge j i with h|h
  · exact k2 j h
  · obtain rfl:j=i:=by omega
    exact a7q.1 d2
def b1o:w6:={ ps:=[.v (.d0 false I4),.v I4],rs:=[.r7 I4],pre:=fun x=>List.length (α:=w7) x.1≤1048576,fn:=fun x=>((2,x.1,[x.2.1,x.2.1,(zT:w7)]),()),out:=fun _=>() }
noncomputable def b2x:Env:={ P:=Try.prog,tt:=tt,C7:=[],res:=[Go.ResultVar.tmp 4],rs:=[Ty.r7 (Ty.pair (Ty.int IntKind.i64) (Ty.pair t7 (Ty.pair Ty.bool Ty.unit)))],ps:=[PK.v (Ty.d0 false (Ty.pair (Ty.int IntKind.i64) (Ty.pair t7 (Ty.pair Ty.bool Ty.unit)))),PK.v (Ty.pair (Ty.int IntKind.i64) (Ty.pair t7 (Ty.pair Ty.bool Ty.unit)))],C5:=[],nt:=20 }
theorem a9z:B0 b2x:=B9 t8 trivial
theorem a9q:D0 b2x Try.f87:=⟨rfl,rfl⟩
theorem b81 (x0:List (Int×(Int×Int×Unit)×Bool×Unit)) (x1_1:Int) (x1_2_1_1:Int) (x1_2_1_2_1:Int) (x1_2_2_1:Bool):exec b2x 1000 [.code (d9 Try.prog 87)] (y8 b1o.ps ((x0,(x1_1,(x1_2_1_1,x1_2_1_2_1,()),x1_2_2_1,()),()))) =
  .f9 (C3 IntKind.i64 ((↑(List.length x0):Int)+(3:Int))) (.f9 ((1:Int)≤(↑(List.length x0):Int)+(3:Int)∧(0:Int)≤(0:Int)∧(0:Int)≤(↑(List.length x0):Int)+(3:Int)∧(↑(List.length x0):Int)+(3:Int)≤(140737488355328:Int)∧((↑(List.length x0):Int)+(3:Int))*(↑(Ty.wb (Ty.pair (Ty.int IntKind.i64) (Ty.pair t7 (Ty.pair Ty.bool Ty.unit)))):Int)≤(140737488355328:Int)) (.f9 (2=2∧List.length x0≤List.length (List.replicate (Int.toNat ((↑(List.length x0):Int)+(3:Int)) - Int.toNat (0:Int)) zT)) (.f9 (2=2∧List.length (List.set (List.set [zT,zT] (Int.toNat (↑0:Int)) (x1_1,(x1_2_1_1,x1_2_1_2_1,()),x1_2_2_1,())) (Int.toNat (↑1:Int)) (x1_1,(x1_2_1_1,x1_2_1_2_1,()),x1_2_2_1,()))≤List.length (List.drop (List.length x0) (List.replicate (Int.toNat ((↑(List.length x0):Int)+(3:Int)) - Int.toNat (0:Int)) zT))) (.f9 (2=2∧(0:Int)≤(↑(List.length x0):Int)∧(↑(List.length x0):Int)≤(↑(List.length (List.replicate (Int.toNat (0:Int)) zT++x0++List.set (List.set [zT,zT] (Int.toNat (↑0:Int)) (x1_1,(x1_2_1_1,x1_2_1_2_1,()),x1_2_2_1,())) (Int.toNat (↑1:Int)) (x1_1,(x1_2_1_1,x1_2_1_2_1,()),x1_2_2_1,()))+List.length (List.drop (List.length (List.set (List.set [zT,zT] (Int.toNat (↑0:Int)) (x1_1,(x1_2_1_1,x1_2_1_2_1,()),x1_2_2_1,())) (Int.toNat (↑1:Int)) (x1_1,(x1_2_1_1,x1_2_1_2_1,()),x1_2_2_1,()))) (List.drop (List.length x0) (List.replicate (Int.toNat ((↑(List.length x0):Int)+(3:Int)) - Int.toNat (0:Int)) zT)))):Int)) (.ret (((2,List.take (Int.toNat (↑(List.length x0):Int)) (List.replicate (Int.toNat (0:Int)) zT++x0++List.set (List.set [zT,zT] (Int.toNat (↑0:Int)) (x1_1,(x1_2_1_1,x1_2_1_2_1,()),x1_2_2_1,())) (Int.toNat (↑1:Int)) (x1_1,(x1_2_1_1,x1_2_1_2_1,()),x1_2_2_1,())++List.drop (List.length (List.set (List.set [zT,zT] (Int.toNat (↑0:Int)) (x1_1,(x1_2_1_1,x1_2_1_2_1,()),x1_2_2_1,())) (Int.toNat (↑1:Int)) (x1_1,(x1_2_1_1,x1_2_1_2_1,()),x1_2_2_1,()))) (List.drop (List.length x0) (List.replicate (Int.toNat ((↑(List.length x0):Int)+(3:Int)) - Int.toNat (0:Int)) zT))),List.drop (Int.toNat (↑(List.length x0):Int)) (List.replicate (Int.toNat (0:Int)) zT++x0++List.set (List.set [zT,zT] (Int.toNat (↑0:Int)) (x1_1,(x1_2_1_1,x1_2_1_2_1,()),x1_2_2_1,())) (Int.toNat (↑1:Int)) (x1_1,(x1_2_1_1,x1_2_1_2_1,()),x1_2_2_1,())++List.drop (List.length (List.set (List.set [zT,zT] (Int.toNat (↑0:Int)) (x1_1,(x1_2_1_1,x1_2_1_2_1,()),x1_2_2_1,())) (Int.toNat (↑1:Int)) (x1_1,(x1_2_1_1,x1_2_1_2_1,()),x1_2_2_1,()))) (List.drop (List.length x0) (List.replicate (Int.toNat ((↑(List.length x0):Int)+(3:Int)) - Int.toNat (0:Int)) zT)))),()))))))):=by kernel_rfl
theorem b1n:b1o.Valid Try.prog 87:=by
  refine w6.t6 a9z rfl rfl Try.func87 (c:=d9 Try.prog 87) rfl rfl a9q rfl ?_
  rintro ⟨(l:List (w7)),⟨(x0:Int),⟨(x1:Int),(x2:Int),⟨⟩⟩,(x3:Bool),⟨⟩⟩,⟨⟩⟩ (hp:l.length≤1048576) -
  refine l8 (n:=1000) a9z a9q ?_
  refine j9 (b81 l x0 x1 x2 x3) ?_
  obtain ⟨e1,e2⟩:=b38 l ((x0,(x1,x2,()),x3,()):w7) (zT:w7)
  have e0:List.set (List.set [(zT:w7),(zT:w7)] (Int.toNat ((0:Nat):Int)) (x0,(x1,x2,()),x3,())) (Int.toNat ((1:Nat):Int)) (x0,(x1,x2,()),x3,())=[(x0,(x1,x2,()),x3,()),(x0,(x1,x2,()),x3,())]:=rfl
  have er:(List.replicate (Int.toNat ((l.length:Int)+3) - Int.toNat 0) (zT:w7)).length=l.length+3:=by rw [List.length_replicate]; omega
  have ez:(List.replicate (Int.toNat 0) (zT:w7)).length=0:=rfl
  have ew:Ty.wb I4≤1024:=by decide
  simp only [e0]
  refine ⟨x5.2 (by omega),fun _=>⟨⟨by omega,by omega,by omega,by omega,b7G ew (by omega)⟩,fun _=>⟨⟨trivial,by rw [er]; omega⟩,fun _=>⟨⟨trivial,by rw [List.length_drop,er]; show 2≤_; omega⟩,fun _=>⟨⟨trivial,by omega,?_⟩,fun _=>?_⟩⟩⟩⟩⟩
  · simp only [List.length_append,List.length_drop,er,ez]
    show (l.length:Int)≤((0+l.length+2+(l.length+3 - l.length - 2):Nat):Int)
    omega
  · exact congrArg (fun y=>(y,())) (Prod.ext rfl (Prod.ext e1 e2))
def a8j:w6:={ ps:=[.v (.r7 I4),.v (.d0 false I4),.v I4],rs:=[.bool],pre:=fun x=>x.1.1=(3:Nat)∧2≤List.length (α:=w7) x.1.2.2∧List.length (α:=w7) x.1.2.1≤1048576,fn:=fun x=>(decide ((show List (w7) from x.1.2.1)=(show List (w7) from x.2.1)) && (decide ((show w7 from List.getD (α:=w7) x.1.2.2 0 zT)=(show w7 from x.2.2.1)) && decide ((show w7 from List.getD (α:=w7) x.1.2.2 1 zT)=(show w7 from x.2.2.1))),()),out:=fun _=>() }
noncomputable def a8y:Env:={ P:=Try.prog,tt:=tt,C7:=[(93,a91)],res:=[Go.ResultVar.tmp 6],rs:=[Ty.bool],ps:=[PK.v (Ty.r7 (Ty.pair (Ty.int IntKind.i64) (Ty.pair t7 (Ty.pair Ty.bool Ty.unit)))),PK.v (Ty.d0 false (Ty.pair (Ty.int IntKind.i64) (Ty.pair t7 (Ty.pair Ty.bool Ty.unit)))),PK.v (Ty.pair (Ty.int IntKind.i64) (Ty.pair t7 (Ty.pair Ty.bool Ty.unit)))],C5:=[],nt:=35 }
theorem a7K:B0 a8y:=B9 t8 ⟨a5V,trivial⟩
theorem a7D:D0 a8y Try.f90:=⟨rfl,rfl⟩
theorem b7C (x0_n:Nat) (x0_l:List (Int×(Int×Int×Unit)×Bool×Unit)) (x0_m:List (Int×(Int×Int×Unit)×Bool×Unit)) (x1:List (Int×(Int×Int×Unit)×Bool×Unit)) (x2_1:Int) (x2_2_1_1:Int) (x2_2_1_2_1:Int) (x2_2_2_1:Bool):exec a8y 1000 [.code (d9 Try.prog 90)] (y8 a8j.ps (((x0_n,x0_l,x0_m),x1,(x2_1,(x2_2_1_1,x2_2_1_2_1,()),x2_2_2_1,()),()))) =
  .f9 (C3 IntKind.i64 ((↑(List.length x0_l):Int)+(2:Int))) (.f9 (x0_n=3∧(0:Int)≤(0:Int)∧(0:Int)≤(↑(List.length x0_l):Int)+(2:Int)∧(↑(List.length x0_l):Int)+(2:Int)≤(↑(List.length x0_l+List.length x0_m):Int)) (.f9 (True) (cond (decide (x0_l=x1)) (.f9 ((0:Int)≤(↑(List.length x0_l):Int)∧(↑(List.length x0_l):Int)<(↑(List.length (B3 (0:Int) ((↑(List.length x0_l):Int)+(2:Int)) (x0_l++x0_m))):Int)) (cond (G3 (Ty.pair (Ty.int IntKind.i64) (Ty.pair t7 (Ty.pair Ty.bool Ty.unit))) (List.getD (B3 (0:Int) ((↑(List.length x0_l):Int)+(2:Int)) (x0_l++x0_m)) (Int.toNat (↑(List.length x0_l):Int)) ((0:Int),((0:Int),(0:Int),()),false,())) (x2_1,(x2_2_1_1,x2_2_1_2_1,()),x2_2_2_1,())) (.f9 (C3 IntKind.i64 ((↑(List.length x0_l):Int)+(1:Int))) (.f9 ((0:Int)≤(↑(List.length x0_l):Int)+(1:Int)∧(↑(List.length x0_l):Int)+(1:Int)<(↑(List.length (B3 (0:Int) ((↑(List.length x0_l):Int)+(2:Int)) (x0_l++x0_m))):Int)) (.ret ((G3 (Ty.pair (Ty.int IntKind.i64) (Ty.pair t7 (Ty.pair Ty.bool Ty.unit))) (List.getD (B3 (0:Int) ((↑(List.length x0_l):Int)+(2:Int)) (x0_l++x0_m)) (Int.toNat ((↑(List.length x0_l):Int)+(1:Int))) ((0:Int),((0:Int),(0:Int),()),false,())) (x2_1,(x2_2_1_1,x2_2_1_2_1,()),x2_2_2_1,()),()))))) (.ret ((false,()))))) (.ret ((false,())))))):=by kernel_rfl
theorem a9N:a8j.Valid Try.prog 90:=by
  refine w6.t6 a7K rfl rfl Try.func90 (c:=d9 Try.prog 90) rfl rfl a7D rfl ?_
  rintro ⟨⟨(n:Nat),(l:List (w7)),(m:List (w7))⟩,(was:List (w7)),⟨(x0:Int),⟨(x1:Int),(x2:Int),⟨⟩⟩,(x3:Bool),⟨⟩⟩,⟨⟩⟩ ⟨(h3:n=3),(h2:2≤m.length),(hlen:l.length≤1048576)⟩ -
  subst h3
  refine l8 (n:=1000) a7K a7D ?_
  refine j9 (b7C 3 l m was x0 x1 x2 x3) ?_
  obtain ⟨c1,c2,c3⟩:=b0o (l:=l) (d:=(zT:w7)) h2
  have en:Int.toNat ((l.length:Int)+1)=l.length+1:=by omega
  simp only [Tree.holds,true_and,true_implies,s4,decide_eq_true_eq,decide_eq_false_iff_not,Int.toNat_natCast,c1,c2,en,c3]
  refine ⟨x5.2 (by omega),fun _=>⟨by omega,fun _=>⟨fun a=>⟨by omega,fun _=>⟨fun b=>⟨x5.2 (by omega),fun _=>⟨by omega,fun _=>?_⟩⟩,fun b=>?_⟩⟩,fun a=>?_⟩⟩⟩
  · show ((_,()):Bool×Unit)=(_,())
    rw [decide_eq_true a,decide_eq_true (a7q.1 b)]; exact congrArg (fun z=>(z,())) (b98 a7q)
  · show ((_,()):Bool×Unit)=(_,())
    rw [decide_eq_true a,decide_eq_false (b3X b)]; rfl
  · show ((_,()):Bool×Unit)=(_,())
    rw [decide_eq_false a]; rfl
def b7d:w6:=a6Z I4
theorem b1e:b7d.Valid Try.prog 92:=by
  refine b0p (S:=159) (I:=3) (T:=171) (e:=c02 (d9 Try.prog 92) [3,5,6,7,8,0,9,10,11,12,13,4,14,15,16,17,19,18,20]) (by kernel_rfl) (by kernel_rfl) (by kernel_rfl) Try.func92 (by kernel_rfl) rfl rfl rfl
theorem b7H:Ty.wb (.d0 false s6)=24:=rfl
def a8o:w6:={ ps:=[.v (.d0 false (.d0 false s6))],rs:=[.d0 true (.d0 false s6)],pre:=fun x=>List.length (α:=List Int) x.1≤1048576,fn:=fun x=>x,out:=fun _=>() }
noncomputable def a8D:Env:={ P:=Try.prog,tt:=ttI,C7:=[],res:=[Go.ResultVar.tmp 2],rs:=[Ty.d0 true (Ty.d0 false (Ty.int IntKind.i64))],ps:=[PK.v (Ty.d0 false (Ty.d0 false (Ty.int IntKind.i64)))],C5:=[],nt:=8 }
theorem a7N:B0 a8D:=B9 c0Q trivial
theorem a7F:D0 a8D Try.f94:=⟨rfl,rfl⟩
theorem b7F (x0:List (List Int)):exec a8D 1000 [.code (d9 Try.prog 94)] (y8 a8o.ps ((x0,()))) =
  .both (x0=[]) (.ret (([],()))) (.f9 ((0:Nat)+List.length x0≤140737488355328∧((0:Nat)+List.length x0)*Ty.wb (Ty.d0 false s6)≤140737488355328) (.ret (([]++x0,())))):=by kernel_rfl
theorem a9Q:a8o.Valid Try.prog 94:=by
  refine w6.t6 a7N rfl rfl Try.func94 (c:=d9 Try.prog 94) rfl rfl a7F rfl ?_
  rintro ⟨(l:List (List Int)),⟨⟩⟩ hp -
  have hp:l.length≤1048576:=hp
  refine l8 (n:=1000) a7N a7F ?_
  refine j9 (b7F l) ?_
  simp only [s4,Tree.holds,true_and,true_implies,decide_eq_true_eq,decide_eq_false_iff_not,Bool.not_eq_true',Bool.not_eq_false',Int.toNat_natCast,x5,List.length_set,List.length_cons,List.length_nil,b7H]
  refine ⟨fun h=>?_,by omega,fun _=>rfl⟩
  show (([],()):List (List Int)×Unit)=(l,())
  rw [show l=[] from h]
def b5l:w6:={ ps:=[.v (.d0 false (.d0 false s6)),.v (.d0 false (.d0 false s6)),.s8 19 []],rs:=[.bool],pre:=fun _=>True,fn:=fun x=>(decide ((show List (List Int) from x.1)=(show List (List Int) from x.2.1)),()),out:=fun _=>() }
noncomputable def b0c:Env:={ P:=Try.prog,tt:=tt,C7:=[(19,a8m)],res:=[Go.ResultVar.tmp 6],rs:=[Ty.bool],ps:=[PK.v (Ty.d0 false (Ty.d0 false (Ty.int IntKind.i64))),PK.v (Ty.d0 false (Ty.d0 false (Ty.int IntKind.i64))),PK.s8 19 []],C5:=[(4,[(1,none),(2,none),(15,none),(16,none),(17,none)])],nt:=32 }
theorem a6N:B0 b0c:=B9 t8 ⟨a19,trivial⟩
theorem a6C:D0 b0c Try.f104:=⟨rfl,rfl⟩
theorem c0G (x0:List (List Int)) (x1:List (List Int)):exec b0c 1000 [.code (d9 Try.prog 104)] (y8 b5l.ps ((x0,x1,(),()))) =
  cond (decide ((↑(List.length x0):Int)≠(↑(List.length x1):Int))) (.ret ((false,()))) (.cut (i5 (d9 Try.prog 104) 4).1 (i5 (d9 Try.prog 104) 4).2 (St.mk [(1,AV.val (Ty.d0 false (Ty.d0 false (Ty.int IntKind.i64))) x1),(2,AV.s8 19 AV.nil),(15,AV.val (Ty.d0 false (Ty.d0 false (Ty.int IntKind.i64))) x0),(16,AV.val (Ty.int IntKind.i64) (↑(List.length x0):Int)),(17,AV.val (Ty.int IntKind.i64) (0:Int))] [])):=by kernel_rfl
def b2p (v1:List (List Int)) (v15:List (List Int)) (v16:Int) (v17:Int):St:=St.mk [(1,AV.val (Ty.d0 false (Ty.d0 false (Ty.int IntKind.i64))) v1),(2,AV.s8 19 AV.nil),(15,AV.val (Ty.d0 false (Ty.d0 false (Ty.int IntKind.i64))) v15),(16,AV.val (Ty.int IntKind.i64) v16),(17,AV.val (Ty.int IntKind.i64) v17)] []
theorem b8V (v1:List (List Int)) (v15:List (List Int)) (v16:Int) (v17:Int):exec b0c 1000 (.code (i5 (d9 Try.prog 104) 4).1::.inLoop (i5 (d9 Try.prog 104) 4).1::(i5 (d9 Try.prog 104) 4).2) (b2p v1 v15 v16 v17) =
  cond (decide (v17<v16)) (.f9 ((0:Int)≤v17∧v17<(↑(List.length v15):Int)) (.f9 ((0:Int)≤v17∧v17<(↑(List.length v1):Int)) (.f9 (True) (cond (!decide (List.getD v15 (Int.toNat v17) []=List.getD v1 (Int.toNat v17) [])) (.ret ((false,()))) (.f9 (C3 IntKind.i64 (v17+(1:Int))) (.cut (i5 (d9 Try.prog 104) 4).1 (i5 (d9 Try.prog 104) 4).2 (St.mk [(1,AV.val (Ty.d0 false (Ty.d0 false (Ty.int IntKind.i64))) v1),(2,AV.s8 19 AV.nil),(15,AV.val (Ty.d0 false (Ty.d0 false (Ty.int IntKind.i64))) v15),(16,AV.val (Ty.int IntKind.i64) v16),(17,AV.val (Ty.int IntKind.i64) (v17+(1:Int)))] []))))))) (.ret ((true,()))):=by kernel_rfl
theorem b3d:b5l.Valid Try.prog 104:=by
  refine w6.t6 a6N rfl rfl Try.func104 (c:=d9 Try.prog 104) rfl rfl a6C rfl ?_
  rintro ⟨(l:List (List Int)),(m:List (List Int)),⟨⟩,⟨⟩⟩ - ⟨⟨hl,-⟩,-⟩
  have hl:l.length≤9223372036854775807:=hl
  refine l8 (n:=1000) a6N a6C ?_
  refine j9 (c0G l m) ?_
  have fin:∀ {b:Bool},(b=true↔l=m)→((b,()):Bool×Unit)=(decide (l=m),()):=fun {b} h=>by
    cases b with
    | true=>rw [decide_eq_true (h.1 rfl)]
    | false=>rw [decide_eq_false (fun e=>by cases h.2 e)]
  simp only [s4,Tree.holds,true_and,true_implies,decide_eq_true_eq,decide_eq_false_iff_not,Bool.not_eq_true',Bool.not_eq_false',Int.toNat_natCast,x5,List.length_set,List.length_cons,List.length_nil]
  refine ⟨fun c=>fin ⟨fun h=>(by cases h),fun h=>absurd (congrArg (fun q:List (List Int)=>(q.length:Int)) h) c⟩,fun c=>?_⟩
  refine Reach.N1 a6N a6C (fun i:Nat=>b2p m l (l.length:Int) (i:Int)) (fun i=>i≤l.length∧∀ j,j<i→l.getD j []=m.getD j [])
    (fun i=>l.length - i) 1000 (fun _=>⟨x4 rfl,x4 rfl⟩) ?_ 0 ⟨Nat.zero_le _,fun j hj=>by omega⟩
  rintro i ⟨k1,k2⟩ - ih
  refine j9 (b8V ..) ?_
  have c:l.length=m.length:=by omega
  simp only [s4,Tree.holds,true_and,true_implies,decide_eq_true_eq,decide_eq_false_iff_not,Bool.not_eq_true',Bool.not_eq_false',Int.toNat_natCast,x5,List.length_set,List.length_cons,List.length_nil]
  refine ⟨fun d1=>⟨by omega,fun _=>⟨by omega,fun _=>⟨fun d2=>fin ⟨fun h=>(by cases h),fun h=>?_⟩,fun d2=>⟨by omega,fun _=>ih (i+1) ⟨by omega,fun j hj=>?_⟩ (by omega)⟩⟩⟩⟩,fun d1=>fin ⟨fun _=>?_,fun _=>rfl⟩⟩
  · subst h
    exact absurd rfl d2
  · rcases Nat.lt_or_ge j i with h|h
    · exact k2 j h
    · obtain rfl:j=i:=by omega
      first|exact d2|exact Decidable.not_not.1 d2
  · refine List.ext_getElem c (fun j h1 h2=>?_)
    have:=k2 j (by omega)
    rwa [List.getD_eq_getElem?_getD,List.getD_eq_getElem?_getD,List.getElem?_eq_getElem h1,List.getElem?_eq_getElem h2] at this
def a3g (a b:O5):Bool:=decide (a.1=b.1) && (decide (a.2.1=b.2.1) && (decide ((show List (List Int) from a.2.2.1)=(show List (List Int) from b.2.2.1)) && (decide ((show List Int from a.2.2.2.1)=(show List Int from b.2.2.2.1)) && decide ((show List Int from a.2.2.2.2.1)=(show List Int from b.2.2.2.2.1)))))
theorem b2E (a:O5):a3g a a=true:=by simp [a3g]
def a8k:w6:={ ps:=[.v a1x,.v a1x],rs:=[.bool],pre:=fun _=>True,fn:=fun x=>(a3g x.1 x.2.1,()),out:=fun _=>() }
noncomputable def a8z:Env:={ P:=Try.prog,tt:=tt,C7:=[(104,b5l),(19,a8m)],res:=[Go.ResultVar.tmp 4],rs:=[Ty.bool],ps:=[PK.v (Ty.pair (Ty.int IntKind.i64) (Ty.pair (Ty.int IntKind.i64) (Ty.pair (Ty.d0 false (Ty.d0 false (Ty.int IntKind.i64))) (Ty.pair (Ty.d0 false (Ty.int IntKind.i64)) (Ty.pair (Ty.d0 false (Ty.int IntKind.i64)) Ty.unit))))),PK.v (Ty.pair (Ty.int IntKind.i64) (Ty.pair (Ty.int IntKind.i64) (Ty.pair (Ty.d0 false (Ty.d0 false (Ty.int IntKind.i64))) (Ty.pair (Ty.d0 false (Ty.int IntKind.i64)) (Ty.pair (Ty.d0 false (Ty.int IntKind.i64)) Ty.unit)))))],C5:=[],nt:=38 }
theorem a7M:B0 a8z:=B9 t8 ⟨b3d,a19,trivial⟩
theorem a7E:D0 a8z Try.f95:=⟨rfl,rfl⟩
theorem b7E (x0_1:Int) (x0_2_1:Int) (x0_2_2_1:List (List Int)) (x0_2_2_2_1:List Int) (x0_2_2_2_2_1:List Int) (x1_1:Int) (x1_2_1:Int) (x1_2_2_1:List (List Int)) (x1_2_2_2_1:List Int) (x1_2_2_2_2_1:List Int):exec a8z 1000 [.code (d9 Try.prog 95)] (y8 a8k.ps (((x0_1,x0_2_1,x0_2_2_1,x0_2_2_2_1,x0_2_2_2_2_1,()),(x1_1,x1_2_1,x1_2_2_1,x1_2_2_2_1,x1_2_2_2_2_1,()),()))) =
  cond (decide (x0_1=x1_1)) (cond (decide (x0_2_1=x1_2_1)) (.f9 (True) (cond (decide (x0_2_2_1=x1_2_2_1)) (.f9 (True) (cond (decide (x0_2_2_2_1=x1_2_2_2_1)) (.f9 (True) (.ret ((decide (x0_2_2_2_2_1=x1_2_2_2_2_1),())))) (.ret ((false,()))))) (.ret ((false,()))))) (.ret ((false,())))) (.ret ((false,()))):=by kernel_rfl
theorem a9O:a8k.Valid Try.prog 95:=by
  refine w6.t6 a7M rfl rfl Try.func95 (c:=d9 Try.prog 95) rfl rfl a7E rfl ?_
  rintro ⟨⟨(a1:Int),(a2:Int),(a3:List (List Int)),(a4:List Int),(a5:List Int),⟨⟩⟩,⟨(b1:Int),(b2:Int),(b3:List (List Int)),(b4:List Int),(b5:List Int),⟨⟩⟩,⟨⟩⟩ - -
  refine l8 (n:=1000) a7M a7E ?_
  refine j9 (b7E a1 a2 a3 a4 a5 b1 b2 b3 b4 b5) ?_
  simp only [s4,Tree.holds,true_and,true_implies,decide_eq_true_eq,decide_eq_false_iff_not,Bool.not_eq_true',Bool.not_eq_false',Int.toNat_natCast,x5,List.length_set,List.length_cons,List.length_nil]
  have hd:a3g (a1,a2,a3,a4,a5,()) (b1,b2,b3,b4,b5,())=(decide (a1=b1) && (decide (a2=b2) && (decide (a3=b3) && (decide (a4=b4) && decide (a5=b5))))):=rfl
  have fin:∀ {b:Bool},b=(decide (a1=b1) && (decide (a2=b2) && (decide (a3=b3) && (decide (a4=b4) && decide (a5=b5)))))→((b,()):Bool×Unit)=(a3g (a1,a2,a3,a4,a5,()) (b1,b2,b3,b4,b5,()),()):=fun h=>by rw [hd,h]
  refine ⟨fun c1=>⟨fun c2=>⟨fun c3=>⟨fun c4=>fin ?_,fun c4=>fin ?_⟩,fun c3=>fin ?_⟩,fun c2=>fin ?_⟩,fun c1=>fin ?_⟩
  · simp [c1,c2,c3,c4]
  · simp [c4]
  · simp [c3]
  · simp [c2]
  · simp [c1]
end Go.Proofs.Ytekbamiaenbhjaa
