/- More contracts of the package enter's functions, and of a run of them. -/
import Derived.Test.YtekbamiaenbhjaaEnter
import Derived.Test.YtekbamiaenbhjaaOverB
namespace Go.Proofs.Ytekbamiaenbhjaa
open Go.Ex
set_option maxRecDepth 100000
def dAt (t:C2) (p:Int):w8:=t.1.getD p.toNat x4
def reqs (p at_:Int):Nat→List o8
  | 0=>[]
  | q+1=>reqs p at_ q++(if (q:Int)≠p then [(p,(q:Int),at_,())] else [])
theorem a9Q (p at_:Int):∀ n,(reqs p at_ n).length≤n
  | 0=>Nat.le_refl _
  | n+1=>by
    have:=a9Q p at_ n
    rw [reqs,List.length_append]
    split<;>simp<;>omega
def b8z (t:C2) (p:Int):C2:=(t.1.set p.toNat ((dAt t p).1+1,(dAt t p).1+1,(dAt t p).2.2.1,decide ((t.1.length:Int)=1),(dAt t p).2.2.2.2.1,(dAt t p).2.2.2.2.2),t.2.1++reqs p ((dAt t p).1+1) t.1.length,())
def Y9 (t:C2) (p:Int):C2×Int×Unit :=
  if E8 t≠0 then (e0,E8 t,()) else if B1 p 0 (t.1.length - 1)=false then (e0,1,()) else if 0<(dAt t p).2.1 then (e0,11,()) else
  if (dAt t p).1=16777215∨(100:Int)<t.2.1.length+t.1.length - 1 then (e0,8,()) else (b8z t p,0,())
def b0B:u7:={ ps:=[.v a0K,.v A7],rs:=[a4G,A7],pre:=fun _=>True,fn:=fun x=>Y9 x.1 x.2.1,out:=fun _=>() }
noncomputable def a3c:Env:={ P:=Try.prog,tt:=tt,D0:=[(139,a4o),(140,a27),(141,a26)],res:=[Go.ResultVar.cell 4 66,Go.ResultVar.tmp 5],rs:=[Ty.pair (Ty.d0 true (Ty.pair (Ty.int IntKind.i64) (Ty.pair (Ty.int IntKind.i64) (Ty.pair (Ty.int IntKind.u8) (Ty.pair Ty.bool (Ty.pair Is Ty.unit)))))) (Ty.pair (Ty.d0 true i6) Ty.unit),Ty.int IntKind.i64],ps:=[PK.v (Ty.pair (Ty.d0 false (Ty.pair (Ty.int IntKind.i64) (Ty.pair (Ty.int IntKind.i64) (Ty.pair (Ty.int IntKind.u8) (Ty.pair Ty.bool (Ty.pair (Ty.d0 false (Ty.int IntKind.i64)) Ty.unit)))))) (Ty.pair (Ty.d0 false i6) Ty.unit)),PK.v (Ty.int IntKind.i64)],E1:=[(17,[(1,none),(4,none),(8,none),(9,none),(79,none),(80,none)])],nt:=100 }
theorem a4H:B3 a3c:=D5 s7 ⟨Z1,a1z,a1y,trivial⟩
theorem a4E:E9 a3c Try.f35:=⟨rfl,rfl⟩
theorem b6u (x0_1:List (Int×Int×Int×Bool×List Int×Unit)) (x0_2_1:List (Int×Int×Int×Unit)) (x1:Int):exec a3c 1000 [.code (d9 Try.prog 35)] (A3 b0B.ps (((x0_1,x0_2_1,()),x1,()))) =
  .f9 (True) (cond (decide (E8 (x0_1,x0_2_1,())≠(0:Int))) (.ret ((([],[],()),E8 (x0_1,x0_2_1,()),()))) (.f9 (w9 IntKind.i64 ((↑(List.length x0_1):Int) - (1:Int))) (.f9 (True) (cond (!B1 x1 (0:Int) ((↑(List.length x0_1):Int) - (1:Int))) (.ret ((([],[],()),(1:Int),()))) (.f9 ((0:Int)≤x1∧x1<(↑(List.length x0_1):Int)) (cond (decide ((0:Int)<Prod.fst (Prod.snd (List.getD x0_1 (Int.toNat x1) ((0:Int),(0:Int),(0:Int),false,[],()))))) (.ret ((([],[],()),(11:Int),()))) (.f9 ((0:Int)≤x1∧x1<(↑(List.length x0_1):Int)) (cond (decide (Prod.fst (List.getD x0_1 (Int.toNat x1) ((0:Int),(0:Int),(0:Int),false,[],()))=(16777215:Int))) (.ret ((([],[],()),(8:Int),()))) (.f9 (w9 IntKind.i64 ((↑(List.length x0_2_1):Int)+(↑(List.length x0_1):Int))) (.f9 (w9 IntKind.i64 ((↑(List.length x0_2_1):Int)+(↑(List.length x0_1):Int) - (1:Int))) (cond (decide ((100:Int)<(↑(List.length x0_2_1):Int)+(↑(List.length x0_1):Int) - (1:Int))) (.ret ((([],[],()),(8:Int),()))) (.f9 (List.length x0_1≤1048576∧List.length x0_2_1≤1048576∧∀ (i:Nat),i<List.length x0_1→List.length (Prod.fst (Prod.snd (Prod.snd (Prod.snd (Prod.snd (List.getD x0_1 i x4))))))≤1048576) (.f9 ((0:Int)≤x1∧x1<(↑(List.length x0_1):Int)) (.f9 (w9 IntKind.i64 (Prod.fst (List.getD x0_1 (Int.toNat x1) ((0:Int),(0:Int),(0:Int),false,[],()))+(1:Int))) (.cut (j5 (d9 Try.prog 35) 17).1 (j5 (d9 Try.prog 35) 17).2 (St.mk [(1,AV.val (Ty.int IntKind.i64) x1),(4,AV.ptr 4 []),(8,AV.ptr 8 []),(9,AV.ptr 8 [Step.j6 0,Step.idx x1]),(79,AV.val (Ty.int IntKind.i64) (↑(List.length x0_1):Int)),(80,AV.val (Ty.int IntKind.i64) (0:Int))] [(4,f8.var (Ty.pair (Ty.d0 true (Ty.pair (Ty.int IntKind.i64) (Ty.pair (Ty.int IntKind.i64) (Ty.pair (Ty.int IntKind.u8) (Ty.pair Ty.bool (Ty.pair Is Ty.unit)))))) (Ty.pair (Ty.d0 true i6) Ty.unit)) ([],[],())),(8,f8.var (Ty.pair (Ty.d0 true (Ty.pair (Ty.int IntKind.i64) (Ty.pair (Ty.int IntKind.i64) (Ty.pair (Ty.int IntKind.u8) (Ty.pair Ty.bool (Ty.pair Is Ty.unit)))))) (Ty.pair (Ty.d0 true i6) Ty.unit)) (List.set (List.set (List.set x0_1 (Int.toNat x1) (Prod.fst (List.getD x0_1 (Int.toNat x1) ((0:Int),(0:Int),(0:Int),false,[],()))+(1:Int),Prod.snd (List.getD x0_1 (Int.toNat x1) ((0:Int),(0:Int),(0:Int),false,[],())))) (Int.toNat x1) (Prod.fst (List.getD (List.set x0_1 (Int.toNat x1) (Prod.fst (List.getD x0_1 (Int.toNat x1) ((0:Int),(0:Int),(0:Int),false,[],()))+(1:Int),Prod.snd (List.getD x0_1 (Int.toNat x1) ((0:Int),(0:Int),(0:Int),false,[],())))) (Int.toNat x1) ((0:Int),(0:Int),(0:Int),false,[],())),Prod.fst (List.getD (List.set x0_1 (Int.toNat x1) (Prod.fst (List.getD x0_1 (Int.toNat x1) ((0:Int),(0:Int),(0:Int),false,[],()))+(1:Int),Prod.snd (List.getD x0_1 (Int.toNat x1) ((0:Int),(0:Int),(0:Int),false,[],())))) (Int.toNat x1) ((0:Int),(0:Int),(0:Int),false,[],())),Prod.snd (Prod.snd (List.getD (List.set x0_1 (Int.toNat x1) (Prod.fst (List.getD x0_1 (Int.toNat x1) ((0:Int),(0:Int),(0:Int),false,[],()))+(1:Int),Prod.snd (List.getD x0_1 (Int.toNat x1) ((0:Int),(0:Int),(0:Int),false,[],())))) (Int.toNat x1) ((0:Int),(0:Int),(0:Int),false,[],()))))) (Int.toNat x1) (Prod.fst (List.getD (List.set (List.set x0_1 (Int.toNat x1) (Prod.fst (List.getD x0_1 (Int.toNat x1) ((0:Int),(0:Int),(0:Int),false,[],()))+(1:Int),Prod.snd (List.getD x0_1 (Int.toNat x1) ((0:Int),(0:Int),(0:Int),false,[],())))) (Int.toNat x1) (Prod.fst (List.getD (List.set x0_1 (Int.toNat x1) (Prod.fst (List.getD x0_1 (Int.toNat x1) ((0:Int),(0:Int),(0:Int),false,[],()))+(1:Int),Prod.snd (List.getD x0_1 (Int.toNat x1) ((0:Int),(0:Int),(0:Int),false,[],())))) (Int.toNat x1) ((0:Int),(0:Int),(0:Int),false,[],())),Prod.fst (List.getD (List.set x0_1 (Int.toNat x1) (Prod.fst (List.getD x0_1 (Int.toNat x1) ((0:Int),(0:Int),(0:Int),false,[],()))+(1:Int),Prod.snd (List.getD x0_1 (Int.toNat x1) ((0:Int),(0:Int),(0:Int),false,[],())))) (Int.toNat x1) ((0:Int),(0:Int),(0:Int),false,[],())),Prod.snd (Prod.snd (List.getD (List.set x0_1 (Int.toNat x1) (Prod.fst (List.getD x0_1 (Int.toNat x1) ((0:Int),(0:Int),(0:Int),false,[],()))+(1:Int),Prod.snd (List.getD x0_1 (Int.toNat x1) ((0:Int),(0:Int),(0:Int),false,[],())))) (Int.toNat x1) ((0:Int),(0:Int),(0:Int),false,[],()))))) (Int.toNat x1) ((0:Int),(0:Int),(0:Int),false,[],())),Prod.fst (Prod.snd (List.getD (List.set (List.set x0_1 (Int.toNat x1) (Prod.fst (List.getD x0_1 (Int.toNat x1) ((0:Int),(0:Int),(0:Int),false,[],()))+(1:Int),Prod.snd (List.getD x0_1 (Int.toNat x1) ((0:Int),(0:Int),(0:Int),false,[],())))) (Int.toNat x1) (Prod.fst (List.getD (List.set x0_1 (Int.toNat x1) (Prod.fst (List.getD x0_1 (Int.toNat x1) ((0:Int),(0:Int),(0:Int),false,[],()))+(1:Int),Prod.snd (List.getD x0_1 (Int.toNat x1) ((0:Int),(0:Int),(0:Int),false,[],())))) (Int.toNat x1) ((0:Int),(0:Int),(0:Int),false,[],())),Prod.fst (List.getD (List.set x0_1 (Int.toNat x1) (Prod.fst (List.getD x0_1 (Int.toNat x1) ((0:Int),(0:Int),(0:Int),false,[],()))+(1:Int),Prod.snd (List.getD x0_1 (Int.toNat x1) ((0:Int),(0:Int),(0:Int),false,[],())))) (Int.toNat x1) ((0:Int),(0:Int),(0:Int),false,[],())),Prod.snd (Prod.snd (List.getD (List.set x0_1 (Int.toNat x1) (Prod.fst (List.getD x0_1 (Int.toNat x1) ((0:Int),(0:Int),(0:Int),false,[],()))+(1:Int),Prod.snd (List.getD x0_1 (Int.toNat x1) ((0:Int),(0:Int),(0:Int),false,[],())))) (Int.toNat x1) ((0:Int),(0:Int),(0:Int),false,[],()))))) (Int.toNat x1) ((0:Int),(0:Int),(0:Int),false,[],()))),Prod.fst (Prod.snd (Prod.snd (List.getD (List.set (List.set x0_1 (Int.toNat x1) (Prod.fst (List.getD x0_1 (Int.toNat x1) ((0:Int),(0:Int),(0:Int),false,[],()))+(1:Int),Prod.snd (List.getD x0_1 (Int.toNat x1) ((0:Int),(0:Int),(0:Int),false,[],())))) (Int.toNat x1) (Prod.fst (List.getD (List.set x0_1 (Int.toNat x1) (Prod.fst (List.getD x0_1 (Int.toNat x1) ((0:Int),(0:Int),(0:Int),false,[],()))+(1:Int),Prod.snd (List.getD x0_1 (Int.toNat x1) ((0:Int),(0:Int),(0:Int),false,[],())))) (Int.toNat x1) ((0:Int),(0:Int),(0:Int),false,[],())),Prod.fst (List.getD (List.set x0_1 (Int.toNat x1) (Prod.fst (List.getD x0_1 (Int.toNat x1) ((0:Int),(0:Int),(0:Int),false,[],()))+(1:Int),Prod.snd (List.getD x0_1 (Int.toNat x1) ((0:Int),(0:Int),(0:Int),false,[],())))) (Int.toNat x1) ((0:Int),(0:Int),(0:Int),false,[],())),Prod.snd (Prod.snd (List.getD (List.set x0_1 (Int.toNat x1) (Prod.fst (List.getD x0_1 (Int.toNat x1) ((0:Int),(0:Int),(0:Int),false,[],()))+(1:Int),Prod.snd (List.getD x0_1 (Int.toNat x1) ((0:Int),(0:Int),(0:Int),false,[],())))) (Int.toNat x1) ((0:Int),(0:Int),(0:Int),false,[],()))))) (Int.toNat x1) ((0:Int),(0:Int),(0:Int),false,[],())))),decide ((↑(List.length x0_1):Int)=(1:Int)),Prod.snd (Prod.snd (Prod.snd (Prod.snd (List.getD (List.set (List.set x0_1 (Int.toNat x1) (Prod.fst (List.getD x0_1 (Int.toNat x1) ((0:Int),(0:Int),(0:Int),false,[],()))+(1:Int),Prod.snd (List.getD x0_1 (Int.toNat x1) ((0:Int),(0:Int),(0:Int),false,[],())))) (Int.toNat x1) (Prod.fst (List.getD (List.set x0_1 (Int.toNat x1) (Prod.fst (List.getD x0_1 (Int.toNat x1) ((0:Int),(0:Int),(0:Int),false,[],()))+(1:Int),Prod.snd (List.getD x0_1 (Int.toNat x1) ((0:Int),(0:Int),(0:Int),false,[],())))) (Int.toNat x1) ((0:Int),(0:Int),(0:Int),false,[],())),Prod.fst (List.getD (List.set x0_1 (Int.toNat x1) (Prod.fst (List.getD x0_1 (Int.toNat x1) ((0:Int),(0:Int),(0:Int),false,[],()))+(1:Int),Prod.snd (List.getD x0_1 (Int.toNat x1) ((0:Int),(0:Int),(0:Int),false,[],())))) (Int.toNat x1) ((0:Int),(0:Int),(0:Int),false,[],())),Prod.snd (Prod.snd (List.getD (List.set x0_1 (Int.toNat x1) (Prod.fst (List.getD x0_1 (Int.toNat x1) ((0:Int),(0:Int),(0:Int),false,[],()))+(1:Int),Prod.snd (List.getD x0_1 (Int.toNat x1) ((0:Int),(0:Int),(0:Int),false,[],())))) (Int.toNat x1) ((0:Int),(0:Int),(0:Int),false,[],()))))) (Int.toNat x1) ((0:Int),(0:Int),(0:Int),false,[],())))))),x0_2_1,()))])))))))))))))))):=by kernel_rfl
def a1M (v1:Int) (v9i:Int) (v79:Int) (v80:Int) (o4_1:List (Int×Int×Int×Bool×List Int×Unit)) (o4_2_1:List (Int×Int×Int×Unit)) (o8_1:List (Int×Int×Int×Bool×List Int×Unit)) (o8_2_1:List (Int×Int×Int×Unit)):St:=St.mk [(1,AV.val (Ty.int IntKind.i64) v1),(4,AV.ptr 4 []),(8,AV.ptr 8 []),(9,AV.ptr 8 [Step.j6 0,Step.idx v9i]),(79,AV.val (Ty.int IntKind.i64) v79),(80,AV.val (Ty.int IntKind.i64) v80)] [(4,f8.var (Ty.pair (Ty.d0 true (Ty.pair (Ty.int IntKind.i64) (Ty.pair (Ty.int IntKind.i64) (Ty.pair (Ty.int IntKind.u8) (Ty.pair Ty.bool (Ty.pair Is Ty.unit)))))) (Ty.pair (Ty.d0 true i6) Ty.unit)) (o4_1,o4_2_1,())),(8,f8.var (Ty.pair (Ty.d0 true (Ty.pair (Ty.int IntKind.i64) (Ty.pair (Ty.int IntKind.i64) (Ty.pair (Ty.int IntKind.u8) (Ty.pair Ty.bool (Ty.pair Is Ty.unit)))))) (Ty.pair (Ty.d0 true i6) Ty.unit)) (o8_1,o8_2_1,()))]
theorem b4j (v1:Int) (v9i:Int) (v79:Int) (v80:Int) (o4_1:List (Int×Int×Int×Bool×List Int×Unit)) (o4_2_1:List (Int×Int×Int×Unit)) (o8_1:List (Int×Int×Int×Bool×List Int×Unit)) (o8_2_1:List (Int×Int×Int×Unit)):exec a3c 1000 (.code (j5 (d9 Try.prog 35) 17).1::.inLoop (j5 (d9 Try.prog 35) 17).1::(j5 (d9 Try.prog 35) 17).2) (a1M v1 v9i v79 v80 o4_1 o4_2_1 o8_1 o8_2_1) =
  cond (decide (v80<v79)) (cond (decide (v80≠v1)) (.f9 ([]++[Step.j6 1]=[]++[Step.j6 1]∧List.length o8_2_1+List.length (List.set [((0:Int),(0:Int),(0:Int),())] (Int.toNat (↑0:Int)) (v1,v80,Prod.fst (Prod.snd (List.getD o8_1 (Int.toNat v9i) ((0:Int),(0:Int),(0:Int),false,[],()))),()))≤140737488355328∧(List.length o8_2_1+List.length (List.set [((0:Int),(0:Int),(0:Int),())] (Int.toNat (↑0:Int)) (v1,v80,Prod.fst (Prod.snd (List.getD o8_1 (Int.toNat v9i) ((0:Int),(0:Int),(0:Int),false,[],()))),())))*Ty.wb i6≤140737488355328) (.f9 (w9 IntKind.i64 (v80+(1:Int))) (.cut (j5 (d9 Try.prog 35) 17).1 (j5 (d9 Try.prog 35) 17).2 (St.mk [(1,AV.val (Ty.int IntKind.i64) v1),(4,AV.ptr 4 []),(8,AV.ptr 8 []),(9,AV.ptr 8 [Step.j6 0,Step.idx v9i]),(79,AV.val (Ty.int IntKind.i64) v79),(80,AV.val (Ty.int IntKind.i64) (v80+(1:Int)))] [(4,f8.var (Ty.pair (Ty.d0 true (Ty.pair (Ty.int IntKind.i64) (Ty.pair (Ty.int IntKind.i64) (Ty.pair (Ty.int IntKind.u8) (Ty.pair Ty.bool (Ty.pair Is Ty.unit)))))) (Ty.pair (Ty.d0 true i6) Ty.unit)) (o4_1,o4_2_1,())),(8,f8.var (Ty.pair (Ty.d0 true (Ty.pair (Ty.int IntKind.i64) (Ty.pair (Ty.int IntKind.i64) (Ty.pair (Ty.int IntKind.u8) (Ty.pair Ty.bool (Ty.pair Is Ty.unit)))))) (Ty.pair (Ty.d0 true i6) Ty.unit)) (o8_1,o8_2_1++List.set [((0:Int),(0:Int),(0:Int),())] (Int.toNat (↑0:Int)) (v1,v80,Prod.fst (Prod.snd (List.getD o8_1 (Int.toNat v9i) ((0:Int),(0:Int),(0:Int),false,[],()))),()),()))])))) (.f9 (w9 IntKind.i64 (v80+(1:Int))) (.cut (j5 (d9 Try.prog 35) 17).1 (j5 (d9 Try.prog 35) 17).2 (St.mk [(1,AV.val (Ty.int IntKind.i64) v1),(4,AV.ptr 4 []),(8,AV.ptr 8 []),(9,AV.ptr 8 [Step.j6 0,Step.idx v9i]),(79,AV.val (Ty.int IntKind.i64) v79),(80,AV.val (Ty.int IntKind.i64) (v80+(1:Int)))] [(4,f8.var (Ty.pair (Ty.d0 true (Ty.pair (Ty.int IntKind.i64) (Ty.pair (Ty.int IntKind.i64) (Ty.pair (Ty.int IntKind.u8) (Ty.pair Ty.bool (Ty.pair Is Ty.unit)))))) (Ty.pair (Ty.d0 true i6) Ty.unit)) (o4_1,o4_2_1,())),(8,f8.var (Ty.pair (Ty.d0 true (Ty.pair (Ty.int IntKind.i64) (Ty.pair (Ty.int IntKind.i64) (Ty.pair (Ty.int IntKind.u8) (Ty.pair Ty.bool (Ty.pair Is Ty.unit)))))) (Ty.pair (Ty.d0 true i6) Ty.unit)) (o8_1,o8_2_1,()))])))) (.ret (((o8_1,o8_2_1,()),(0:Int),()))):=by kernel_rfl
theorem EOk.clone {t:C2} (h:EOk t):t.1.length≤1048576∧t.2.1.length≤1048576∧∀ i,i<t.1.length→(t.1.getD i x4).2.2.2.2.1.length≤1048576 :=
  ⟨by have:=h.n; omega,by have:=h.l; omega,fun i hi=>by have:=(h.d hi).l; omega⟩
theorem b0A:b0B.Valid Try.prog 35:=by
  refine u7.u6 a4H rfl rfl Try.func35 (c:=d9 Try.prog 35) rfl rfl a4E rfl ?_
  rintro ⟨⟨(hs:List w8),(ws:List o8),⟨⟩⟩,(p:Int),⟨⟩⟩ - ⟨⟨⟨hl1,-⟩,⟨hl2,-⟩,-⟩,-⟩
  have hl1:hs.length≤9223372036854775807:=hl1
  have hl2:ws.length≤9223372036854775807:=hl2
  refine o4 (n:=1000) a4H a4E ?_
  refine n6 (b6u hs ws p) ?_
  simp only [o7,Tree.holds,true_and,true_implies,decide_eq_true_eq,decide_eq_false_iff_not,Bool.not_eq_true',Bool.not_eq_false',Int.toNat_natCast,r9,List.length_set,List.length_cons,List.length_nil,R4]
  have ho:Y9 (hs,ws,()) p=if E8 (hs,ws,())≠0 then (e0,E8 (hs,ws,()),()) else if B1 p 0 (hs.length - 1)=false then (e0,1,()) else if 0<(hs.getD p.toNat x4).2.1 then (e0,11,()) else
    if (hs.getD p.toNat x4).1=16777215∨(100:Int)<ws.length+hs.length - 1 then (e0,8,()) else
    ((hs.set p.toNat ((hs.getD p.toNat x4).1+1,(hs.getD p.toNat x4).1+1,(hs.getD p.toNat x4).2.2.1,decide ((hs.length:Int)=1),(hs.getD p.toNat x4).2.2.2.2.1,(hs.getD p.toNat x4).2.2.2.2.2),ws++reqs p ((hs.getD p.toNat x4).1+1) hs.length,()),0,()):=rfl
  have key:∀ {x:C2×Int×Unit},Y9 (hs,ws,()) p=x→x=Y9 (hs,ws,()) p:=fun h=>h.symm
  refine ⟨fun a=>key (by rw [ho,if_pos a]<;>rfl),fun a=>?_⟩
  rw [if_neg a] at ho
  have hok:=a3F.1 (Decidable.not_not.1 a)
  have hn:1≤hs.length∧hs.length≤6:=hok.n
  have hw100:ws.length≤100:=hok.l
  have hcl:=hok.clone
  refine ⟨by omega,fun _=>⟨fun c=>key (by rw [ho,if_pos c]<;>rfl),fun c=>?_⟩⟩
  have hp:=E0.1 c
  rw [if_neg (nf c)] at ho
  have hpl:p.toNat<hs.length:=by omega
  have hd:=hok.d hpl
  have hdc:0≤(hs.getD p.toNat x4).1∧(hs.getD p.toNat x4).1≤16777215:=hd.c
  have hI:@LE.le Int Int.instLEInt 0 p∧@LT.lt Int Int.instLTInt p (hs.length:Int):=⟨by omega,by omega⟩
  rw [show hs.getD p.toNat (0,0,0,false,[],())=hs.getD p.toNat x4 from rfl]
  generalize hs.getD p.toNat x4=d at *
  obtain ⟨cl,wi,ye,inn,la,⟨⟩⟩:=d
  simp only [a0a hpl,List.set_set] at ho hdc ⊢
  refine ⟨hI,fun _=>⟨fun f=>key (by rw [ho,if_pos f]<;>rfl),fun f=>?_⟩⟩
  rw [if_neg f] at ho
  refine ⟨hI,fun _=>⟨fun g=>key (by rw [ho,if_pos (.inl g)]<;>rfl),fun g=>⟨by omega,fun _=>⟨by omega,fun _=>⟨fun k=>key (by rw [ho,if_pos (.inr k)]<;>rfl),fun k=>?_⟩⟩⟩⟩⟩
  rw [if_neg (by rintro (h|h); exact g h; exact k h)] at ho
  refine ⟨hcl,fun _=>⟨hI,fun _=>⟨by omega,fun _=>?_⟩⟩⟩
  refine (show Ex.Reach a3c Try.f35 _ _ _ (a1M p p (hs.length:Int) ((0:Nat):Int) [] [] (hs.set p.toNat (cl+1,cl+1,ye,decide ((hs.length:Int)=1),la,())) ws) from ?_)
  have e00:ws=ws++reqs p (cl+1) 0:=by simp [reqs]
  suffices hs2:Go.Ex.Reach a3c Try.f35 (Y9 (hs,ws,()) p) () (.code (j5 (d9 Try.prog 35) 17).1::.inLoop (j5 (d9 Try.prog 35) 17).1::(j5 (d9 Try.prog 35) 17).2) (a1M p p (hs.length:Int) ((0:Nat):Int) [] [] (hs.set p.toNat (cl+1,cl+1,ye,decide ((hs.length:Int)=1),la,())) (ws++reqs p (cl+1) 0)) by
    rw [← e00] at hs2; exact hs2
  refine Reach.S5 a4H a4E (fun i:Nat=>a1M p p (hs.length:Int) (i:Int) [] [] (hs.set p.toNat (cl+1,cl+1,ye,decide ((hs.length:Int)=1),la,())) (ws++reqs p (cl+1) i)) (fun i=>i≤hs.length) (fun i=>hs.length - i) 1000 (fun _=>⟨x6 rfl,x6 rfl⟩) ?_ 0 (by omega)
  rintro i k1 - ih
  have k1:i≤hs.length:=k1
  have hrl:=a9Q p (cl+1) i
  refine n6 (b4j ..) ?_
  simp only [o7,Tree.holds,true_and,true_implies,decide_eq_true_eq,decide_eq_false_iff_not,Bool.not_eq_true',Bool.not_eq_false',Int.toNat_natCast,r9,List.length_set,List.length_cons,List.length_nil,R4,a0a hpl]
  refine ⟨fun c=>?_,fun c=>key ?_⟩
  · have next:=ih (i+1) (by show i+1≤hs.length; omega) (by omega)
    rw [reqs] at next
    have hln:(ws++reqs p (cl+1) i).length≤106:=by rw [List.length_append]; omega
    refine ⟨fun e=>⟨⟨by omega,by omega⟩,fun _=>⟨by omega,fun _=>?_⟩⟩,fun e=>⟨by omega,fun _=>?_⟩⟩
    · rw [if_pos e,← List.append_assoc] at next; exact next
    · rw [if_neg e,List.append_nil] at next; exact next
  · rw [ho,show i=hs.length by omega]; rfl
def b74 (t:C2) (p:Int):C2:=(t.1.set p.toNat ((dAt t p).1,0,0,false,[],()),t.2.1++(dAt t p).2.2.2.2.1.map (fun q=>(p,q,0,())),())
def S9 (t:C2) (p:Int):C2×Int×Unit :=
  if E8 t≠0 then (e0,E8 t,()) else if B1 p 0 (t.1.length - 1)=false then (e0,1,()) else if (dAt t p).2.2.2.1=false then (e0,11,()) else
  if (100:Int)<t.2.1.length+(dAt t p).2.2.2.2.1.length then (e0,8,()) else (b74 t p,0,())
def a7K:u7:={ ps:=[.v a0K,.v A7],rs:=[a4G,A7],pre:=fun _=>True,fn:=fun x=>S9 x.1 x.2.1,out:=fun _=>() }
noncomputable def a1V:Env:={ P:=Try.prog,tt:=tt,D0:=[(139,a4o),(140,a27),(141,a26)],res:=[Go.ResultVar.cell 4 66,Go.ResultVar.tmp 5],rs:=[Ty.pair (Ty.d0 true (Ty.pair (Ty.int IntKind.i64) (Ty.pair (Ty.int IntKind.i64) (Ty.pair (Ty.int IntKind.u8) (Ty.pair Ty.bool (Ty.pair Is Ty.unit)))))) (Ty.pair (Ty.d0 true i6) Ty.unit),Ty.int IntKind.i64],ps:=[PK.v (Ty.pair (Ty.d0 false (Ty.pair (Ty.int IntKind.i64) (Ty.pair (Ty.int IntKind.i64) (Ty.pair (Ty.int IntKind.u8) (Ty.pair Ty.bool (Ty.pair (Ty.d0 false (Ty.int IntKind.i64)) Ty.unit)))))) (Ty.pair (Ty.d0 false i6) Ty.unit)),PK.v (Ty.int IntKind.i64)],E1:=[(12,[(1,none),(2,none),(4,none),(7,none),(55,none),(56,none),(57,none)])],nt:=82 }
theorem a3Q:B3 a1V:=D5 s7 ⟨Z1,a1z,a1y,trivial⟩
theorem a3O:E9 a1V Try.f37:=⟨rfl,rfl⟩
theorem b5A (x0_1:List (Int×Int×Int×Bool×List Int×Unit)) (x0_2_1:List (Int×Int×Int×Unit)) (x1:Int):exec a1V 1000 [.code (d9 Try.prog 37)] (A3 a7K.ps (((x0_1,x0_2_1,()),x1,()))) =
  .f9 (True) (cond (decide (E8 (x0_1,x0_2_1,())≠(0:Int))) (.ret ((([],[],()),E8 (x0_1,x0_2_1,()),()))) (.f9 (w9 IntKind.i64 ((↑(List.length x0_1):Int) - (1:Int))) (.f9 (True) (cond (!B1 x1 (0:Int) ((↑(List.length x0_1):Int) - (1:Int))) (.ret ((([],[],()),(1:Int),()))) (.f9 ((0:Int)≤x1∧x1<(↑(List.length x0_1):Int)) (cond (!Prod.fst (Prod.snd (Prod.snd (Prod.snd (List.getD x0_1 (Int.toNat x1) ((0:Int),(0:Int),(0:Int),false,[],())))))) (.ret ((([],[],()),(11:Int),()))) (.f9 ((0:Int)≤x1∧x1<(↑(List.length x0_1):Int)) (.f9 (w9 IntKind.i64 ((↑(List.length x0_2_1):Int)+(↑(List.length (Prod.fst (Prod.snd (Prod.snd (Prod.snd (Prod.snd (List.getD x0_1 (Int.toNat x1) ((0:Int),(0:Int),(0:Int),false,[],())))))))):Int))) (cond (decide ((100:Int)<(↑(List.length x0_2_1):Int)+(↑(List.length (Prod.fst (Prod.snd (Prod.snd (Prod.snd (Prod.snd (List.getD x0_1 (Int.toNat x1) ((0:Int),(0:Int),(0:Int),false,[],())))))))):Int))) (.ret ((([],[],()),(8:Int),()))) (.f9 (List.length x0_1≤1048576∧List.length x0_2_1≤1048576∧∀ (i:Nat),i<List.length x0_1→List.length (Prod.fst (Prod.snd (Prod.snd (Prod.snd (Prod.snd (List.getD x0_1 i x4))))))≤1048576) (.f9 ((0:Int)≤x1∧x1<(↑(List.length x0_1):Int)) (.cut (j5 (d9 Try.prog 37) 12).1 (j5 (d9 Try.prog 37) 12).2 (St.mk [(1,AV.val (Ty.int IntKind.i64) x1),(2,AV.ptr 2 []),(4,AV.ptr 4 []),(7,AV.ptr 7 []),(55,AV.at_ 7 [Step.j6 0,Step.idx x1,Step.j6 4]),(56,AV.val (Ty.int IntKind.i64) (↑(List.length (Prod.fst (Prod.snd (Prod.snd (Prod.snd (Prod.snd (List.getD x0_1 (Int.toNat x1) ((0:Int),(0:Int),(0:Int),false,[],())))))))):Int)),(57,AV.val (Ty.int IntKind.i64) (0:Int))] [(2,f8.var (Ty.pair (Ty.d0 false (Ty.pair (Ty.int IntKind.i64) (Ty.pair (Ty.int IntKind.i64) (Ty.pair (Ty.int IntKind.u8) (Ty.pair Ty.bool (Ty.pair (Ty.d0 false (Ty.int IntKind.i64)) Ty.unit)))))) (Ty.pair (Ty.d0 false i6) Ty.unit)) (x0_1,x0_2_1,())),(4,f8.var (Ty.pair (Ty.d0 true (Ty.pair (Ty.int IntKind.i64) (Ty.pair (Ty.int IntKind.i64) (Ty.pair (Ty.int IntKind.u8) (Ty.pair Ty.bool (Ty.pair Is Ty.unit)))))) (Ty.pair (Ty.d0 true i6) Ty.unit)) ([],[],())),(7,f8.var (Ty.pair (Ty.d0 true (Ty.pair (Ty.int IntKind.i64) (Ty.pair (Ty.int IntKind.i64) (Ty.pair (Ty.int IntKind.u8) (Ty.pair Ty.bool (Ty.pair Is Ty.unit)))))) (Ty.pair (Ty.d0 true i6) Ty.unit)) (x0_1,x0_2_1,()))]))))))))))))):=by kernel_rfl
def a1a (v1:Int) (v55i:Int) (v56:Int) (v57:Int) (o2_1:List (Int×Int×Int×Bool×List Int×Unit)) (o2_2_1:List (Int×Int×Int×Unit)) (o4_1:List (Int×Int×Int×Bool×List Int×Unit)) (o4_2_1:List (Int×Int×Int×Unit)) (o7_1:List (Int×Int×Int×Bool×List Int×Unit)) (o7_2_1:List (Int×Int×Int×Unit)):St:=St.mk [(1,AV.val (Ty.int IntKind.i64) v1),(2,AV.ptr 2 []),(4,AV.ptr 4 []),(7,AV.ptr 7 []),(55,AV.at_ 7 [Step.j6 0,Step.idx v55i,Step.j6 4]),(56,AV.val (Ty.int IntKind.i64) v56),(57,AV.val (Ty.int IntKind.i64) v57)] [(2,f8.var (Ty.pair (Ty.d0 false (Ty.pair (Ty.int IntKind.i64) (Ty.pair (Ty.int IntKind.i64) (Ty.pair (Ty.int IntKind.u8) (Ty.pair Ty.bool (Ty.pair (Ty.d0 false (Ty.int IntKind.i64)) Ty.unit)))))) (Ty.pair (Ty.d0 false i6) Ty.unit)) (o2_1,o2_2_1,())),(4,f8.var (Ty.pair (Ty.d0 true (Ty.pair (Ty.int IntKind.i64) (Ty.pair (Ty.int IntKind.i64) (Ty.pair (Ty.int IntKind.u8) (Ty.pair Ty.bool (Ty.pair Is Ty.unit)))))) (Ty.pair (Ty.d0 true i6) Ty.unit)) (o4_1,o4_2_1,())),(7,f8.var (Ty.pair (Ty.d0 true (Ty.pair (Ty.int IntKind.i64) (Ty.pair (Ty.int IntKind.i64) (Ty.pair (Ty.int IntKind.u8) (Ty.pair Ty.bool (Ty.pair Is Ty.unit)))))) (Ty.pair (Ty.d0 true i6) Ty.unit)) (o7_1,o7_2_1,()))]
theorem b2a (v1:Int) (v55i:Int) (v56:Int) (v57:Int) (o2_1:List (Int×Int×Int×Bool×List Int×Unit)) (o2_2_1:List (Int×Int×Int×Unit)) (o4_1:List (Int×Int×Int×Bool×List Int×Unit)) (o4_2_1:List (Int×Int×Int×Unit)) (o7_1:List (Int×Int×Int×Bool×List Int×Unit)) (o7_2_1:List (Int×Int×Int×Unit)):exec a1V 1000 (.code (j5 (d9 Try.prog 37) 12).1::.inLoop (j5 (d9 Try.prog 37) 12).1::(j5 (d9 Try.prog 37) 12).2) (a1a v1 v55i v56 v57 o2_1 o2_2_1 o4_1 o4_2_1 o7_1 o7_2_1) =
  cond (decide (v57<v56)) (.f9 ((0:Int)≤v57∧v57<(↑(List.length (Prod.fst (Prod.snd (Prod.snd (Prod.snd (Prod.snd (List.getD o7_1 (Int.toNat v55i) ((0:Int),(0:Int),(0:Int),false,[],())))))))):Int)) (.f9 (True∧[]++[Step.j6 1]=[]++[Step.j6 1]∧List.length o7_2_1+List.length (List.set [((0:Int),(0:Int),(0:Int),())] (Int.toNat (↑0:Int)) (v1,List.getD (Prod.fst (Prod.snd (Prod.snd (Prod.snd (Prod.snd (List.getD o7_1 (Int.toNat v55i) ((0:Int),(0:Int),(0:Int),false,[],()))))))) (Int.toNat v57) (0:Int),(0:Int),()))≤140737488355328∧(List.length o7_2_1+List.length (List.set [((0:Int),(0:Int),(0:Int),())] (Int.toNat (↑0:Int)) (v1,List.getD (Prod.fst (Prod.snd (Prod.snd (Prod.snd (Prod.snd (List.getD o7_1 (Int.toNat v55i) ((0:Int),(0:Int),(0:Int),false,[],()))))))) (Int.toNat v57) (0:Int),(0:Int),())))*Ty.wb i6≤140737488355328) (.f9 (w9 IntKind.i64 (v57+(1:Int))) (.cut (j5 (d9 Try.prog 37) 12).1 (j5 (d9 Try.prog 37) 12).2 (St.mk [(1,AV.val (Ty.int IntKind.i64) v1),(2,AV.ptr 2 []),(4,AV.ptr 4 []),(7,AV.ptr 7 []),(55,AV.at_ 7 [Step.j6 0,Step.idx v55i,Step.j6 4]),(56,AV.val (Ty.int IntKind.i64) v56),(57,AV.val (Ty.int IntKind.i64) (v57+(1:Int)))] [(2,f8.var (Ty.pair (Ty.d0 false (Ty.pair (Ty.int IntKind.i64) (Ty.pair (Ty.int IntKind.i64) (Ty.pair (Ty.int IntKind.u8) (Ty.pair Ty.bool (Ty.pair (Ty.d0 false (Ty.int IntKind.i64)) Ty.unit)))))) (Ty.pair (Ty.d0 false i6) Ty.unit)) (o2_1,o2_2_1,())),(4,f8.var (Ty.pair (Ty.d0 true (Ty.pair (Ty.int IntKind.i64) (Ty.pair (Ty.int IntKind.i64) (Ty.pair (Ty.int IntKind.u8) (Ty.pair Ty.bool (Ty.pair Is Ty.unit)))))) (Ty.pair (Ty.d0 true i6) Ty.unit)) (o4_1,o4_2_1,())),(7,f8.var (Ty.pair (Ty.d0 true (Ty.pair (Ty.int IntKind.i64) (Ty.pair (Ty.int IntKind.i64) (Ty.pair (Ty.int IntKind.u8) (Ty.pair Ty.bool (Ty.pair Is Ty.unit)))))) (Ty.pair (Ty.d0 true i6) Ty.unit)) (o7_1,o7_2_1++List.set [((0:Int),(0:Int),(0:Int),())] (Int.toNat (↑0:Int)) (v1,List.getD (Prod.fst (Prod.snd (Prod.snd (Prod.snd (Prod.snd (List.getD o7_1 (Int.toNat v55i) ((0:Int),(0:Int),(0:Int),false,[],()))))))) (Int.toNat v57) (0:Int),(0:Int),()),()))]))))) (.f9 ((0:Int)≤v1∧v1<(↑(List.length o2_1):Int)) (.f9 ((0:Int)≤v1∧v1<(↑(List.length o7_1):Int)) (.ret (((List.set o7_1 (Int.toNat v1) (Prod.fst (List.getD o2_1 (Int.toNat v1) ((0:Int),(0:Int),(0:Int),false,[],())),(0:Int),(0:Int),false,[],()),o7_2_1,()),(0:Int),()))))):=by kernel_rfl
theorem a9h:a7K.Valid Try.prog 37:=by
  refine u7.u6 a3Q rfl rfl Try.func37 (c:=d9 Try.prog 37) rfl rfl a3O rfl ?_
  rintro ⟨⟨(hs:List w8),(ws:List o8),⟨⟩⟩,(p:Int),⟨⟩⟩ - ⟨⟨⟨hl1,-⟩,⟨hl2,-⟩,-⟩,-⟩
  have hl1:hs.length≤9223372036854775807:=hl1
  have hl2:ws.length≤9223372036854775807:=hl2
  refine o4 (n:=1000) a3Q a3O ?_
  refine n6 (b5A hs ws p) ?_
  simp only [o7,Tree.holds,true_and,true_implies,decide_eq_true_eq,decide_eq_false_iff_not,Bool.not_eq_true',Bool.not_eq_false',Int.toNat_natCast,r9,List.length_set,List.length_cons,List.length_nil,R4]
  have ho:S9 (hs,ws,()) p=if E8 (hs,ws,())≠0 then (e0,E8 (hs,ws,()),()) else if B1 p 0 (hs.length - 1)=false then (e0,1,()) else if (hs.getD p.toNat x4).2.2.2.1=false then (e0,11,()) else
    if (100:Int)<ws.length+(hs.getD p.toNat x4).2.2.2.2.1.length then (e0,8,()) else
    ((hs.set p.toNat ((hs.getD p.toNat x4).1,0,0,false,[],()),ws++(hs.getD p.toNat x4).2.2.2.2.1.map (fun q=>(p,q,0,())),()),0,()):=rfl
  have key:∀ {x:C2×Int×Unit},S9 (hs,ws,()) p=x→x=S9 (hs,ws,()) p:=fun h=>h.symm
  refine ⟨fun a=>key (by rw [ho,if_pos a]<;>rfl),fun a=>?_⟩
  rw [if_neg a] at ho
  have hok:=a3F.1 (Decidable.not_not.1 a)
  have hn:1≤hs.length∧hs.length≤6:=hok.n
  have hw100:ws.length≤100:=hok.l
  have hcl:=hok.clone
  refine ⟨by omega,fun _=>⟨fun c=>key (by rw [ho,if_pos c]<;>rfl),fun c=>?_⟩⟩
  have hp:=E0.1 c
  rw [if_neg (nf c)] at ho
  have hpl:p.toNat<hs.length:=by omega
  have hd:=hok.d hpl
  have hdl:(hs.getD p.toNat x4).2.2.2.2.1.length≤6:=hd.l
  have hI:@LE.le Int Int.instLEInt 0 p∧@LT.lt Int Int.instLTInt p (hs.length:Int):=⟨by omega,by omega⟩
  rw [show hs.getD p.toNat (0,0,0,false,[],())=hs.getD p.toNat x4 from rfl]
  generalize hD:hs.getD p.toNat x4=d at *
  obtain ⟨cl,wi,ye,inn,la,⟨⟩⟩:=d
  simp only at ho hdl ⊢
  refine ⟨hI,fun _=>⟨fun f=>key (by rw [ho,if_pos f]<;>rfl),fun f=>?_⟩⟩
  rw [if_neg (nf f)] at ho
  refine ⟨hI,fun _=>⟨by omega,fun _=>⟨fun k=>key (by rw [ho,if_pos k]<;>rfl),fun k=>?_⟩⟩⟩
  rw [if_neg k] at ho
  refine ⟨hcl,fun _=>⟨hI,fun _=>?_⟩⟩
  have e00:ws=ws++(la.take 0).map (fun q=>((p,q,0,()):o8)):=by simp
  refine (show Ex.Reach a1V Try.f37 _ _ _ (a1a p p (la.length:Int) ((0:Nat):Int) hs ws [] [] hs ws) from ?_)
  suffices hs2:Go.Ex.Reach a1V Try.f37 (S9 (hs,ws,()) p) () (.code (j5 (d9 Try.prog 37) 12).1::.inLoop (j5 (d9 Try.prog 37) 12).1::(j5 (d9 Try.prog 37) 12).2) (a1a p p (la.length:Int) ((0:Nat):Int) hs ws [] [] hs (ws++(la.take 0).map (fun q=>((p,q,0,()):o8)))) by
    rw [← e00] at hs2; exact hs2
  refine Reach.S5 a3Q a3O (fun i:Nat=>a1a p p (la.length:Int) (i:Int) hs ws [] [] hs (ws++(la.take i).map (fun q=>((p,q,0,()):o8)))) (fun i=>i≤la.length) (fun i=>la.length - i) 1000 (fun _=>⟨x6 rfl,x6 rfl⟩) ?_ 0 (by omega)
  rintro i k1 - ih
  have k1:i≤la.length:=k1
  refine n6 (b2a ..) ?_
  rw [show hs.getD p.toNat (0,0,0,false,[],())=hs.getD p.toNat x4 from rfl,hD]
  simp only [o7,Tree.holds,true_and,true_implies,decide_eq_true_eq,decide_eq_false_iff_not,Bool.not_eq_true',Bool.not_eq_false',Int.toNat_natCast,r9,List.length_set,List.length_cons,List.length_nil,R4]
  refine ⟨fun c=>?_,fun c=>⟨hI,fun _=>⟨hI,fun _=>key ?_⟩⟩⟩
  · have hi:i<la.length:=by omega
    have next:=ih (i+1) (by show i+1≤la.length; omega) (by omega)
    rw [← a79 hi 0,List.map_append,← List.append_assoc] at next
    have hln:(ws++(la.take i).map (fun q=>((p,q,0,()):o8))).length≤106:=by rw [List.length_append,List.length_map,List.length_take]; omega
    exact ⟨by omega,fun _=>⟨⟨by omega,by omega⟩,fun _=>⟨by omega,fun _=>next⟩⟩⟩
  · rw [ho,List.take_of_length_le (by omega)]; rfl
def b0f (n:Int):C2×Int×Unit:=if B1 n 1 6=false then (e0,1,()) else ((List.replicate n.toNat x4,[],()),0,())
def b3S:u7:={ ps:=[.v A7],rs:=[a4G,A7],pre:=fun _=>True,fn:=fun x=>b0f x.1,out:=fun _=>() }
noncomputable def b4l:Env:={ P:=Try.prog,tt:=tt,D0:=[(139,a4o)],res:=[Go.ResultVar.cell 2 66,Go.ResultVar.tmp 3],rs:=[Ty.pair (Ty.d0 true (Ty.pair (Ty.int IntKind.i64) (Ty.pair (Ty.int IntKind.i64) (Ty.pair (Ty.int IntKind.u8) (Ty.pair Ty.bool (Ty.pair Is Ty.unit)))))) (Ty.pair (Ty.d0 true i6) Ty.unit),Ty.int IntKind.i64],ps:=[PK.v (Ty.int IntKind.i64)],E1:=[],nt:=11 }
theorem b1i:B3 b4l:=D5 s7 ⟨Z1,trivial⟩
theorem b03:E9 b4l Try.f31:=⟨rfl,rfl⟩
theorem b7M (x0:Int):exec b4l 1000 [.code (d9 Try.prog 31)] (A3 b3S.ps ((x0,()))) =
  .f9 (True) (cond (!B1 x0 (1:Int) (6:Int)) (.ret ((([],[],()),(1:Int),()))) (.f9 ((0:Int)≤x0∧x0≤x0∧x0≤(140737488355328:Int)∧x0*(↑(Ty.wb (Ty.pair (Ty.int IntKind.i64) (Ty.pair (Ty.int IntKind.i64) (Ty.pair (Ty.int IntKind.u8) (Ty.pair Ty.bool (Ty.pair Is Ty.unit)))))):Int)≤(140737488355328:Int)) (.ret (((List.replicate (Int.toNat x0) ((0:Int),(0:Int),(0:Int),false,[],()),[],()),(0:Int),()))))):=by kernel_rfl
theorem b1R:b3S.Valid Try.prog 31:=by
  refine u7.u6 b1i rfl rfl Try.func31 (c:=d9 Try.prog 31) rfl rfl b03 rfl ?_
  rintro ⟨(n:Int),⟨⟩⟩ - -
  refine o4 (n:=1000) b1i b03 ?_
  refine n6 (b7M n) ?_
  simp only [o7,Tree.holds,true_and,true_implies,decide_eq_true_eq,decide_eq_false_iff_not,Bool.not_eq_true',Bool.not_eq_false',Int.toNat_natCast,r9,List.length_set,List.length_cons,List.length_nil,b2d]
  refine ⟨fun a=>?_,fun a=>?_⟩
  · show ((e0,1,()):C2×Int×Unit)=b0f n
    rw [b0f,if_pos a]
  · have hn:=E0.1 a
    refine ⟨⟨by omega,by omega,by omega,by omega⟩,fun _=>?_⟩
    show ((_,0,()):C2×Int×Unit)=b0f n
    rw [b0f,if_neg (nf a)]
    rfl
end Go.Proofs.Ytekbamiaenbhjaa
