/- More contracts of the package over's functions, and of a run of them. -/
import Derived.Test.YtekbamiaenbhjaaOver
namespace Go.Proofs.Ytekbamiaenbhjaa
open Go.Ex
set_option maxRecDepth 100000
def b8I (t:F7) (p q:Int):F7:=(t.1.set p.toNat ((hAt t p).1,(hAt t p).2.1,(hAt t p).2.2.1+1,(hAt t p).2.2.2),t.2.1++[(p,q,1,())],())
def Z8 (t:F7) (p q:Int):F7×Int×Unit :=
  if G5 t≠0 then (o0,G5 t,()) else if B1 p 0 (t.1.length - 1)=false∨B1 q 0 (t.1.length - 1)=false∨p=q then (o0,1,()) else
  if (hAt t p).1=false then (o0,11,()) else if (hAt t p).2.2.1=16777215∨(t.2.1.length:Int)=100 then (o0,8,()) else (b8I t p q,0,())
def b0y:u7:={ ps:=[.v a2k,.v A7,.v A7],rs:=[a6T,A7],pre:=fun _=>True,fn:=fun x=>Z8 x.1 x.2.1 x.2.2.1,out:=fun _=>() }
noncomputable def b1a:Env:={ P:=Try.prog,tt:=tt,D0:=[(145,a5M),(144,a24),(146,a23)],res:=[Go.ResultVar.cell 6 69,Go.ResultVar.tmp 7],rs:=[Ty.pair (Ty.d0 true Hand) (Ty.pair (Ty.d0 true i6) Ty.unit),Ty.int IntKind.i64],ps:=[PK.v (Ty.pair (Ty.d0 false Hand) (Ty.pair (Ty.d0 false i6) Ty.unit)),PK.v (Ty.int IntKind.i64),PK.v (Ty.int IntKind.i64)],E1:=[],nt:=83 }
theorem a8W:B3 b1a:=D5 s7 ⟨a0F,a1x,a1w,trivial⟩
theorem a8N:E9 b1a Try.f38:=⟨rfl,rfl⟩
theorem b6s (x0_1:List (Bool×Int×Int×Unit)) (x0_2_1:List (Int×Int×Int×Unit)) (x1:Int) (x2:Int):exec b1a 1000 [.code (d9 Try.prog 38)] (A3 b0y.ps (((x0_1,x0_2_1,()),x1,x2,()))) =
  .f9 (True) (cond (decide (G5 (x0_1,x0_2_1,())≠(0:Int))) (.ret ((([],[],()),G5 (x0_1,x0_2_1,()),()))) (.f9 (w9 IntKind.i64 ((↑(List.length x0_1):Int) - (1:Int))) (.f9 (True) (cond (!B1 x1 (0:Int) ((↑(List.length x0_1):Int) - (1:Int))) (.ret ((([],[],()),(1:Int),()))) (.f9 (w9 IntKind.i64 ((↑(List.length x0_1):Int) - (1:Int))) (.f9 (True) (cond (!B1 x2 (0:Int) ((↑(List.length x0_1):Int) - (1:Int))) (.ret ((([],[],()),(1:Int),()))) (cond (decide (x1=x2)) (.ret ((([],[],()),(1:Int),()))) (.f9 ((0:Int)≤x1∧x1<(↑(List.length x0_1):Int)) (cond (!Prod.fst (List.getD x0_1 (Int.toNat x1) (false,(0:Int),(0:Int),()))) (.ret ((([],[],()),(11:Int),()))) (.f9 ((0:Int)≤x1∧x1<(↑(List.length x0_1):Int)) (cond (decide (Prod.fst (Prod.snd (Prod.snd (List.getD x0_1 (Int.toNat x1) (false,(0:Int),(0:Int),()))))=(16777215:Int))) (.ret ((([],[],()),(8:Int),()))) (cond (decide ((↑(List.length x0_2_1):Int)=(100:Int))) (.ret ((([],[],()),(8:Int),()))) (.f9 (List.length x0_1≤1048576∧List.length x0_2_1≤1048576) (.f9 ((0:Int)≤x1∧x1<(↑(List.length x0_1):Int)) (.f9 (w9 IntKind.i64 (Prod.fst (Prod.snd (Prod.snd (List.getD x0_1 (Int.toNat x1) (false,(0:Int),(0:Int),()))))+(1:Int))) (.f9 ((0:Int)≤x1∧x1<(↑(List.length x0_1):Int)) (.f9 (True∧[]++[Step.j6 1]=[]++[Step.j6 1]∧List.length x0_2_1+List.length (List.set [((0:Int),(0:Int),(0:Int),())] (Int.toNat (↑0:Int)) (x1,x2,(1:Int),()))≤140737488355328∧(List.length x0_2_1+List.length (List.set [((0:Int),(0:Int),(0:Int),())] (Int.toNat (↑0:Int)) (x1,x2,(1:Int),())))*Ty.wb i6≤140737488355328) (.ret (((List.set x0_1 (Int.toNat x1) (Prod.fst (List.getD x0_1 (Int.toNat x1) (false,(0:Int),(0:Int),())),Prod.fst (Prod.snd (List.getD x0_1 (Int.toNat x1) (false,(0:Int),(0:Int),()))),Prod.fst (Prod.snd (Prod.snd (List.getD x0_1 (Int.toNat x1) (false,(0:Int),(0:Int),()))))+(1:Int),Prod.snd (Prod.snd (Prod.snd (List.getD x0_1 (Int.toNat x1) (false,(0:Int),(0:Int),()))))),x0_2_1++List.set [((0:Int),(0:Int),(0:Int),())] (Int.toNat (↑0:Int)) (x1,x2,(1:Int),()),()),(0:Int),()))))))))))))))))))))):=by kernel_rfl
theorem b0x:b0y.Valid Try.prog 38:=by
  refine u7.u6 a8W rfl rfl Try.func38 (c:=d9 Try.prog 38) rfl rfl a8N rfl ?_
  rintro ⟨⟨(hs:List v6),(ws:List o8),⟨⟩⟩,(p:Int),(q:Int),⟨⟩⟩ - ⟨⟨⟨hl1,-⟩,⟨hl2,-⟩,-⟩,-⟩
  have hl1:hs.length≤9223372036854775807:=hl1
  have hl2:ws.length≤9223372036854775807:=hl2
  refine o4 (n:=1000) a8W a8N ?_
  refine n6 (b6s hs ws p q) ?_
  simp only [o7,Tree.holds,true_and,true_implies,decide_eq_true_eq,decide_eq_false_iff_not,Bool.not_eq_true',Bool.not_eq_false',Int.toNat_natCast,r9,List.length_set,List.length_cons,List.length_nil,R4]
  have ho:Z8 (hs,ws,()) p q=if G5 (hs,ws,())≠0 then (o0,G5 (hs,ws,()),()) else if B1 p 0 (hs.length - 1)=false∨B1 q 0 (hs.length - 1)=false∨p=q then (o0,1,()) else
    if (hs.getD p.toNat (false,0,0,())).1=false then (o0,11,()) else if (hs.getD p.toNat (false,0,0,())).2.2.1=16777215∨(ws.length:Int)=100 then (o0,8,()) else
    ((hs.set p.toNat ((hs.getD p.toNat (false,0,0,())).1,(hs.getD p.toNat (false,0,0,())).2.1,(hs.getD p.toNat (false,0,0,())).2.2.1+1,(hs.getD p.toNat (false,0,0,())).2.2.2),ws++[(p,q,1,())],()),0,()):=rfl
  have key:∀ {x:F7×Int×Unit},Z8 (hs,ws,()) p q=x→x=Z8 (hs,ws,()) p q:=fun h=>h.symm
  refine ⟨fun a=>key (by rw [ho,if_pos a]<;>rfl),fun a=>?_⟩
  rw [if_neg a] at ho
  have hok:=a3r.1 (Decidable.not_not.1 a)
  have hn:hs.length≤6:=hok.n.2
  have hw100:ws.length≤100:=hok.l
  refine ⟨by omega,fun _=>⟨fun c=>key (by rw [ho,if_pos (.inl c)]<;>rfl),fun c=>⟨by omega,fun _=>⟨fun d=>key (by rw [ho,if_pos (.inr (.inl d))]<;>rfl),fun d=>⟨fun e=>key (by rw [ho,if_pos (.inr (.inr e))]<;>rfl),fun e=>?_⟩⟩⟩⟩⟩
  have hp:=E0.1 c
  have hh:=hok.h p.toNat (show p.toNat<hs.length by omega)
  have hh:(-1≤(hs.getD p.toNat (false,0,0,())).2.1∧_)∧(0≤(hs.getD p.toNat (false,0,0,())).2.2.1∧(hs.getD p.toNat (false,0,0,())).2.2.1≤16777215)∧_:=hh
  rw [if_neg (by rintro (h|h|h)<;>simp_all)] at ho
  generalize hs.getD p.toNat (false,0,0,())=h at *
  obtain ⟨b,s,o,⟨⟩⟩:=h
  have hh:=hh.2.1
  simp only at hh ho ⊢
  refine ⟨by omega,fun _=>⟨fun f=>key (by rw [ho,if_pos f]<;>rfl),fun f=>⟨by omega,fun _=>⟨fun g=>key (by rw [ho,if_neg (by simp [f]<;>rfl),if_pos (.inl g)]; rfl),fun g=>⟨fun k=>key (by rw [ho,if_neg (by simp [f]<;>rfl),if_pos (.inr k)]; rfl),fun k=>?_⟩⟩⟩⟩⟩
  refine ⟨by omega,fun _=>⟨by omega,fun _=>⟨by omega,fun _=>⟨by omega,fun _=>⟨⟨by omega,by omega⟩,fun _=>key ?_⟩⟩⟩⟩⟩
  rw [ho,if_neg (by simp [f]),if_neg (by omega)]
  rfl
def b8D (t:F7) (p:Int):F7:=a2F (t.1.set p.toNat (false,(hAt t p).2),t.2.1,()) p
def Z7 (t:F7) (p:Int):F7×Int×Unit :=
  if G5 t≠0 then (o0,G5 t,()) else if B1 p 0 (t.1.length - 1)=false then (o0,1,()) else
  if (hAt t p).1=false then (o0,11,()) else if (t.2.1.length:Int)=100 then (o0,8,()) else (b8D t p,0,())
def b0u:u7:={ ps:=[.v a2k,.v A7],rs:=[a6T,A7],pre:=fun _=>True,fn:=fun x=>Z7 x.1 x.2.1,out:=fun _=>() }
noncomputable def b08:Env:={ P:=Try.prog,tt:=tt,D0:=[(145,a5M),(144,a24),(146,a23),(147,a9w)],res:=[Go.ResultVar.cell 4 69,Go.ResultVar.tmp 5],rs:=[Ty.pair (Ty.d0 true Hand) (Ty.pair (Ty.d0 true i6) Ty.unit),Ty.int IntKind.i64],ps:=[PK.v (Ty.pair (Ty.d0 false Hand) (Ty.pair (Ty.d0 false i6) Ty.unit)),PK.v (Ty.int IntKind.i64)],E1:=[],nt:=48 }
theorem a8U:B3 b08:=D5 s7 ⟨a0F,a1x,a1w,a5j,trivial⟩
theorem a8L:E9 b08 Try.f40:=⟨rfl,rfl⟩
theorem b6p (x0_1:List (Bool×Int×Int×Unit)) (x0_2_1:List (Int×Int×Int×Unit)) (x1:Int):exec b08 1000 [.code (d9 Try.prog 40)] (A3 b0u.ps (((x0_1,x0_2_1,()),x1,()))) =
  .f9 (True) (cond (decide (G5 (x0_1,x0_2_1,())≠(0:Int))) (.ret ((([],[],()),G5 (x0_1,x0_2_1,()),()))) (.f9 (w9 IntKind.i64 ((↑(List.length x0_1):Int) - (1:Int))) (.f9 (True) (cond (!B1 x1 (0:Int) ((↑(List.length x0_1):Int) - (1:Int))) (.ret ((([],[],()),(1:Int),()))) (.f9 ((0:Int)≤x1∧x1<(↑(List.length x0_1):Int)) (cond (!Prod.fst (List.getD x0_1 (Int.toNat x1) (false,(0:Int),(0:Int),()))) (.ret ((([],[],()),(11:Int),()))) (cond (decide ((↑(List.length x0_2_1):Int)=(100:Int))) (.ret ((([],[],()),(8:Int),()))) (.f9 (List.length x0_1≤1048576∧List.length x0_2_1≤1048576) (.f9 ((0:Int)≤x1∧x1<(↑(List.length x0_1):Int)) (.f9 ((0:Int)≤x1∧x1<(↑(List.length (List.set x0_1 (Int.toNat x1) (false,Prod.snd (List.getD x0_1 (Int.toNat x1) (false,(0:Int),(0:Int),()))))):Int)∧List.length x0_2_1≤1048576) (.ret ((a2F (List.set x0_1 (Int.toNat x1) (false,Prod.snd (List.getD x0_1 (Int.toNat x1) (false,(0:Int),(0:Int),()))),x0_2_1,()) x1,(0:Int),()))))))))))))):=by kernel_rfl
theorem b0t:b0u.Valid Try.prog 40:=by
  refine u7.u6 a8U rfl rfl Try.func40 (c:=d9 Try.prog 40) rfl rfl a8L rfl ?_
  rintro ⟨⟨(hs:List v6),(ws:List o8),⟨⟩⟩,(p:Int),⟨⟩⟩ - ⟨⟨⟨hl1,-⟩,⟨hl2,-⟩,-⟩,-⟩
  have hl1:hs.length≤9223372036854775807:=hl1
  have hl2:ws.length≤9223372036854775807:=hl2
  refine o4 (n:=1000) a8U a8L ?_
  refine n6 (b6p hs ws p) ?_
  simp only [o7,Tree.holds,true_and,true_implies,decide_eq_true_eq,decide_eq_false_iff_not,Bool.not_eq_true',Bool.not_eq_false',Int.toNat_natCast,r9,List.length_set,List.length_cons,List.length_nil,R4]
  have ho:Z7 (hs,ws,()) p=if G5 (hs,ws,())≠0 then (o0,G5 (hs,ws,()),()) else if B1 p 0 (hs.length - 1)=false then (o0,1,()) else
    if (hs.getD p.toNat (false,0,0,())).1=false then (o0,11,()) else if (ws.length:Int)=100 then (o0,8,()) else
    (a2F (hs.set p.toNat (false,(hs.getD p.toNat (false,0,0,())).2),ws,()) p,0,()):=rfl
  have key:∀ {x:F7×Int×Unit},Z7 (hs,ws,()) p=x→x=Z7 (hs,ws,()) p:=fun h=>h.symm
  refine ⟨fun a=>key (by rw [ho,if_pos a]<;>rfl),fun a=>?_⟩
  rw [if_neg a] at ho
  have hok:=a3r.1 (Decidable.not_not.1 a)
  have hn:hs.length≤6:=hok.n.2
  have hw100:ws.length≤100:=hok.l
  refine ⟨by omega,fun _=>⟨fun c=>key (by rw [ho,if_pos c]<;>rfl),fun c=>?_⟩⟩
  have hp:=E0.1 c
  rw [if_neg (by simp [c])] at ho
  generalize hs.getD p.toNat (false,0,0,())=h at *
  obtain ⟨b,s,o,⟨⟩⟩:=h
  simp only at ho ⊢
  refine ⟨by omega,fun _=>⟨fun f=>key (by rw [ho,if_pos f]<;>rfl),fun f=>⟨fun k=>key (by rw [ho,if_neg (by simp [f]<;>rfl),if_pos k]; rfl),fun k=>?_⟩⟩⟩
  refine ⟨by omega,fun _=>⟨by omega,fun _=>⟨by omega,fun _=>key ?_⟩⟩⟩
  rw [ho,if_neg (by simp [f]),if_neg k]<;>rfl
end Go.Proofs.Ytekbamiaenbhjaa
