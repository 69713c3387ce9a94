import Derived.Test.YtijlnmgondibnaaGreatDoorJ2
import Derived.Test.YtijlnmgondibnaaGreatDoorJ1
set_option linter.unusedVariables false
set_option linter.unusedSimpArgs false
set_option linter.unusedSectionVars false
namespace Go.Proofs.YtijlnmgondibnaaGreatDoor
open Go.Ex
set_option maxRecDepth 100000
attribute [local irreducible] Go.Ex.exec
abbrev a0B (m:a7M):f7:=(m.1,m.2.1.map rdP,m.2.2)
abbrev a0s (w:f7):a7M:=(w.1,w.2.1.map toM,w.2.2)
theorem c3H (w:f7):a0B (a0s w)=w:=by
  show (w.1,(w.2.1.map toM).map rdP,w.2.2)=w;rw [List.map_map,show (rdP ∘ toM)=id from rfl,List.map_id]
structure a0S (w:f7):Prop where
  M8:w.2.1.length<=6
  c76:∀ i:Nat,(w.2.1.getD i i8).2.1.length<=5864062014805
  late:∀ i:Nat,(w.2.1.getD i i8).2.2.1.2.1.length<=1048576
def b7L:p9:={ ps:=[.rw X2],rs:=[e8],pre:=λ x=>(x.1:a7M)=a0s (a0B x.1)/\a0S (a0B x.1)/\¬ (S5 (a0B x.1)).2.1≠0,fn:=λ _=>(0,()),out:=λ x=>(a0s (G1 (a0B x.1)),()) }
noncomputable def a0i:Env:={ P:=Tryz.prog,tt:=ttW,C0:=[(47,a8V),(53,a6X),(31,b4F),(32,b9W)],res:=[Go.ResultVar.tmp 2],rs:=[Ty.int IntKind.i64],ps:=[PK.rw X2],y5:=[(4,[(0,none),(3,none),(4,none),(18,none),(19,none)]),(16,[(0,none),(4,none),(7,none),(67,none),(68,none)]),(22,[(0,none),(4,none),(7,none),(9,none),(10,none),(11,none),(67,none),(68,none),(86,none),(87,none),(88,none)]),(998049,[(6,some J4)]),(998014,[(4,some J4)])],nt:=139 }
theorem a08:u6 a0i:=w9 c05 ⟨a1O,a6W,a5J,a8j,trivial⟩
theorem a07:y7 a0i Tryz.f25:=⟨rfl,rfl⟩
theorem c0J (ai:Int) (af:Int) (ab:List J2) (ae:List (List UInt8)) (aa:List (List UInt8)):exec a0i 1000 [.code (d8 Tryz.prog 25)] (s5 b7L.ps ((((ai,af,()),ab,ae,aa,()),()))) =
  .ctL (f9 (d8 Tryz.prog 25) 4) (St.mk [(0,AV.ptr 2000000 []),(3,AV.val U8 (0:Int)),(4,AV.val J4 []),(18,AV.val e8 (↑(List.length ab):Int)),(19,AV.val e8 (0:Int))] [(2000000,g8.var X2 ((ai,af,()),ab,ae,aa,()))]):=by kernel_rfl
def a4w (v3:Int) (v4:List (Int×List UInt8×Unit)) (v18:Int) (v19:Int) (az:Int) (an:Int) (aj:List J2) (ak:List (List UInt8)) (ah:List (List UInt8)):St:=St.mk [(0,AV.ptr 2000000 []),(3,AV.val U8 v3),(4,AV.val J4 v4),(18,AV.val e8 v18),(19,AV.val e8 v19)] [(2000000,g8.var X2 ((az,an,()),aj,ak,ah,()))]
theorem b65 (v3:Int) (v4:List (Int×List UInt8×Unit)) (v18:Int) (v19:Int) (az:Int) (an:Int) (aj:List J2) (ak:List (List UInt8)) (ah:List (List UInt8)):exec a0i 1000 (.code (f9 (d8 Tryz.prog 25) 4).1::.inLoop (f9 (d8 Tryz.prog 25) 4).1::(f9 (d8 Tryz.prog 25) 4).2) (a4w v3 v4 v18 v19 az an aj ak ah) =
  cond (decide (v19<v18)) (.f6 (List.length (List.map (rdV W2) aj)<=6) (cond (r9 ((az,an,()),List.map (rdV W2) aj,ak,ah,()) v19) (.f6 ((0:Int)<=v19/\v19<(↑(List.length aj):Int)) (cond (decide ((↑(List.length v4):Int)<(↑(List.length (Prod.fst (Prod.snd (Prod.fst (Prod.snd (List.getD aj (Int.toNat v19) (false,(1,[],[]),((0:Int),[],()),((0:Int),[],()),((0:Int),[],()),()))))))):Int))) (.f6 (r7 IntKind.i64 (v19+(1:Int))) (.ctL (f9 (d8 Tryz.prog 25) 4) (St.mk [(0,AV.ptr 2000000 []),(3,AV.val U8 v3),(4,AV.val J4 (Prod.fst (Prod.snd (Prod.fst (Prod.snd (List.getD aj (Int.toNat v19) (false,(1,[],[]),((0:Int),[],()),((0:Int),[],()),((0:Int),[],()),()))))))),(18,AV.val e8 v18),(19,AV.val e8 (v19+(1:Int)))] [(2000000,g8.var X2 ((az,an,()),List.set aj (Int.toNat v19) (Prod.fst (List.getD aj (Int.toNat v19) (false,(1,[],[]),((0:Int),[],()),((0:Int),[],()),((0:Int),[],()),())),(0,Prod.fst (Prod.snd (Prod.fst (Prod.snd (List.getD aj (Int.toNat v19) (false,(1,[],[]),((0:Int),[],()),((0:Int),[],()),((0:Int),[],()),()))))),[]),Prod.snd (Prod.snd (List.getD aj (Int.toNat v19) (false,(1,[],[]),((0:Int),[],()),((0:Int),[],()),((0:Int),[],()),())))),ak,ah,()))]))) (.f6 (r7 IntKind.i64 (v19+(1:Int))) (.ctL (f9 (d8 Tryz.prog 25) 4) (St.mk [(0,AV.ptr 2000000 []),(3,AV.val U8 v3),(4,AV.val J4 v4),(18,AV.val e8 v18),(19,AV.val e8 (v19+(1:Int)))] [(2000000,g8.var X2 ((az,an,()),aj,ak,ah,()))]))))) (.f6 ((0:Int)<=v19) (.f6 (r7 IntKind.i64 (v19+(1:Int))) (.ctL (f9 (d8 Tryz.prog 25) 4) (St.mk [(0,AV.ptr 2000000 []),(3,AV.val U8 (bOr IntKind.u8 v3 (U2 IntKind.u8 an (IntKind.wrap IntKind.u8 ((1:Int)*(2:Int)^min (Int.toNat v19) (IntKind.bits IntKind.u8)))))),(4,AV.val J4 v4),(18,AV.val e8 v18),(19,AV.val e8 (v19+(1:Int)))] [(2000000,g8.var X2 ((az,an,()),aj,ak,ah,()))])))))) (.f6 (True) (cond (decide (Prod.fst (Prod.snd (O7 (az,an,()) v3 (0:Int)))≠(0:Int))) (.ret ((Prod.fst (Prod.snd (O7 (az,an,()) v3 (0:Int))),((az,an,()),aj,ak,ah,()),()))) (.ctL (f9 (d8 Tryz.prog 25) 16) (St.mk [(0,AV.ptr 2000000 []),(4,AV.val J4 v4),(7,AV.ptr 7 []),(67,AV.val e8 (↑(List.length aj):Int)),(68,AV.val e8 (0:Int))] [(7,g8.var View (Prod.fst (O7 (az,an,()) v3 (0:Int)))),(2000000,g8.var X2 ((az,an,()),aj,ak,ah,()))])))):=by kernel_rfl
def a3Q (v4:List (Int×List UInt8×Unit)) (v67:Int) (v68:Int) (cy:Int) (bs:Int) (az:Int) (an:Int) (aj:List J2) (ak:List (List UInt8)) (ah:List (List UInt8)):St:=St.mk [(0,AV.ptr 2000000 []),(4,AV.val J4 v4),(7,AV.ptr 7 []),(67,AV.val e8 v67),(68,AV.val e8 v68)] [(7,g8.var View (cy,bs,())),(2000000,g8.var X2 ((az,an,()),aj,ak,ah,()))]
theorem b5T (v4:List (Int×List UInt8×Unit)) (v67:Int) (v68:Int) (cy:Int) (bs:Int) (az:Int) (an:Int) (aj:List J2) (ak:List (List UInt8)) (ah:List (List UInt8)):exec a0i 1000 (.code (f9 (d8 Tryz.prog 25) 16).1::.inLoop (f9 (d8 Tryz.prog 25) 16).1::(f9 (d8 Tryz.prog 25) 16).2) (a3Q v4 v67 v68 cy bs az an aj ak ah) =
  let q1:=(List.getD aj (Int.toNat v68) (false,(1,[],[]),((0:Int),[],()),((0:Int),[],()),((0:Int),[],()),())); let q2:=J4; let q0:=(Ty.pair Ty.bool (Ty.pair (Ty.w6 p7) (Ty.pair N8 (Ty.pair (Ty.pair e8 (Ty.pair q2 Ty.unit)) (Ty.pair (Ty.pair e8 (Ty.pair q2 Ty.unit)) Ty.unit))))); let q3:=(↑(List.length (Prod.fst (Prod.snd (Prod.fst (Prod.snd q1))))):Int); let q4:=View; let q5:=(Ty.pair q4 (Ty.pair (Ty.d0 true q0) (Ty.pair (Ty.d0 true Ty.str) (Ty.pair (Ty.d0 true Ty.str) Ty.unit)))); cond (decide (v68<v67)) (.f6 ((0:Int)<=v68/\v68<(↑(List.length aj):Int)) (.f6 (List.length (List.map (rdV q0) aj)<=6) (cond (r9 ((az,an,()),List.map (rdV q0) aj,ak,ah,()) v68) (.f6 ((0:Int)<=q3/\q3<=(↑(List.length v4):Int)/\(↑(List.length v4):Int)<=(↑(List.length v4):Int)) (.ctL (f9 (d8 Tryz.prog 25) 22) (St.mk [(0,AV.ptr 2000000 []),(4,AV.val q2 v4),(7,AV.ptr 7 []),(9,AV.val e8 v68),(10,AV.ptr 2000000 [Step.l7 1,Step.idx v68]),(11,AV.val e8 (0:Int)),(67,AV.val e8 v67),(68,AV.val e8 v68),(86,AV.val q2 (n5 q3 (↑(List.length v4):Int) v4)),(87,AV.val e8 (↑(List.length (n5 q3 (↑(List.length v4):Int) v4)):Int)),(88,AV.val e8 (0:Int))] [(7,g8.var q4 (cy,bs,())),(2000000,g8.var q5 ((az,an,()),aj,ak,ah,()))]))) (.f6 (r7 IntKind.i64 (v68+(1:Int))) (.ctL (f9 (d8 Tryz.prog 25) 16) (St.mk [(0,AV.ptr 2000000 []),(4,AV.val q2 v4),(7,AV.ptr 7 []),(67,AV.val e8 v67),(68,AV.val e8 (v68+(1:Int)))] [(7,g8.var q4 (cy,bs,())),(2000000,g8.var q5 ((az,an,()),List.set aj (Int.toNat v68) (Prod.fst q1,Prod.fst (Prod.snd q1),Prod.fst (Prod.snd (Prod.snd q1)),Prod.fst (Prod.snd (Prod.snd (Prod.snd q1))),((0:Int),[],()),Prod.snd (Prod.snd (Prod.snd (Prod.snd (Prod.snd q1))))),ak,ah,()))])))))) (.ret (((0:Int),((cy,bs,()),aj,[],ah,()),()))):=by kernel_rfl
def a3P (v4:List (Int×List UInt8×Unit)) (v9:Int) (aS:Int) (v11:Int) (v67:Int) (v68:Int) (v86:List (Int×List UInt8×Unit)) (v87:Int) (v88:Int) (cy:Int) (bs:Int) (az:Int) (an:Int) (aj:List J2) (ak:List (List UInt8)) (ah:List (List UInt8)):St:=St.mk [(0,AV.ptr 2000000 []),(4,AV.val J4 v4),(7,AV.ptr 7 []),(9,AV.val e8 v9),(10,AV.ptr 2000000 [Step.l7 1,Step.idx aS]),(11,AV.val e8 v11),(67,AV.val e8 v67),(68,AV.val e8 v68),(86,AV.val J4 v86),(87,AV.val e8 v87),(88,AV.val e8 v88)] [(7,g8.var View (cy,bs,())),(2000000,g8.var X2 ((az,an,()),aj,ak,ah,()))]
theorem b5S (v4:List (Int×List UInt8×Unit)) (v9:Int) (aS:Int) (v11:Int) (v67:Int) (v68:Int) (v86:List (Int×List UInt8×Unit)) (v87:Int) (v88:Int) (cy:Int) (bs:Int) (az:Int) (an:Int) (aj:List J2) (ak:List (List UInt8)) (ah:List (List UInt8)):exec a0i 1000 (.code (f9 (d8 Tryz.prog 25) 22).1::.inLoop (f9 (d8 Tryz.prog 25) 22).1::(f9 (d8 Tryz.prog 25) 22).2) (a3P v4 v9 aS v11 v67 v68 v86 v87 v88 cy bs az an aj ak ah) =
  let q3:=(false,(1,[],[]),((0:Int),[],()),((0:Int),[],()),((0:Int),[],()),()); let q1:=(List.set aj (Int.toNat aS) (Prod.fst (List.getD aj (Int.toNat aS) q3),(1,v4,[]),Prod.snd (Prod.snd (List.getD aj (Int.toNat aS) q3)))); let q0:=(List.getD q1 (Int.toNat aS) q3); let q4:=(Prod.fst (Prod.snd (Prod.fst (Prod.snd (Prod.snd q0))))); let q2:=(↑(List.length q4):Int); let q6:=J4; let q7:=View; let q5:=(Ty.pair q7 (Ty.pair (Ty.d0 true (Ty.pair Ty.bool (Ty.pair (Ty.w6 p7) (Ty.pair N8 (Ty.pair (Ty.pair e8 (Ty.pair q6 Ty.unit)) (Ty.pair (Ty.pair e8 (Ty.pair q6 Ty.unit)) Ty.unit)))))) (Ty.pair (Ty.d0 true Ty.str) (Ty.pair (Ty.d0 true Ty.str) Ty.unit)))); let q8:=(2000000,g8.var q5 ((az,an,()),aj,ak,ah,())); cond (decide (v88<v87)) (.f6 ((0:Int)<=v88/\v88<(↑(List.length v86):Int)) (cond (decide (Prod.fst (List.getD v86 (Int.toNat v88) ((0:Int),[],()))=v9)) (.f6 (r7 IntKind.i64 (v11+(1:Int))) (.f6 (r7 IntKind.i64 (v88+(1:Int))) (.ctL (f9 (d8 Tryz.prog 25) 22) (St.mk [(0,AV.ptr 2000000 []),(4,AV.val q6 v4),(7,AV.ptr 7 []),(9,AV.val e8 v9),(10,AV.ptr 2000000 [Step.l7 1,Step.idx aS]),(11,AV.val e8 (v11+(1:Int))),(67,AV.val e8 v67),(68,AV.val e8 v68),(86,AV.val q6 v86),(87,AV.val e8 v87),(88,AV.val e8 (v88+(1:Int)))] [(7,g8.var q7 (cy,bs,())),q8])))) (.f6 (r7 IntKind.i64 (v88+(1:Int))) (.ctL (f9 (d8 Tryz.prog 25) 22) (St.mk [(0,AV.ptr 2000000 []),(4,AV.val q6 v4),(7,AV.ptr 7 []),(9,AV.val e8 v9),(10,AV.ptr 2000000 [Step.l7 1,Step.idx aS]),(11,AV.val e8 v11),(67,AV.val e8 v67),(68,AV.val e8 v68),(86,AV.val q6 v86),(87,AV.val e8 v87),(88,AV.val e8 (v88+(1:Int)))] [(7,g8.var q7 (cy,bs,())),q8]))))) (.f6 (List.length v4<=5864062014805) (.f6 (((0:Int)<=if q2<v11 then q2 else v11)/\(if q2<v11 then q2 else v11)<=q2/\q2<=q2) (.f6 (List.length (n5 (if q2<v11 then q2 else v11) q2 q4)<=1048576) (.f6 (r7 IntKind.i64 (v68+(1:Int))) (.ctL (f9 (d8 Tryz.prog 25) 16) (St.mk [(0,AV.ptr 2000000 []),(4,AV.val q6 v4),(7,AV.ptr 7 []),(67,AV.val e8 v67),(68,AV.val e8 (v68+(1:Int)))] [(7,g8.var q7 (cy,bs,())),(2000000,g8.var q5 ((az,an,()),List.set (List.set (List.set q1 (Int.toNat aS) (Prod.fst q0,Prod.fst (Prod.snd q0),((0:Int),n5 (if q2<v11 then q2 else v11) q2 q4,()),Prod.snd (Prod.snd (Prod.snd q0)))) (Int.toNat aS) (Prod.fst (List.getD (List.set q1 (Int.toNat aS) (Prod.fst q0,Prod.fst (Prod.snd q0),((0:Int),n5 (if q2<v11 then q2 else v11) q2 q4,()),Prod.snd (Prod.snd (Prod.snd q0)))) (Int.toNat aS) q3),Prod.fst (Prod.snd (List.getD (List.set q1 (Int.toNat aS) (Prod.fst q0,Prod.fst (Prod.snd q0),((0:Int),n5 (if q2<v11 then q2 else v11) q2 q4,()),Prod.snd (Prod.snd (Prod.snd q0)))) (Int.toNat aS) q3)),Prod.fst (Prod.snd (Prod.snd (List.getD (List.set q1 (Int.toNat aS) (Prod.fst q0,Prod.fst (Prod.snd q0),((0:Int),n5 (if q2<v11 then q2 else v11) q2 q4,()),Prod.snd (Prod.snd (Prod.snd q0)))) (Int.toNat aS) q3))),((0:Int),[],()),Prod.snd (Prod.snd (Prod.snd (Prod.snd (List.getD (List.set q1 (Int.toNat aS) (Prod.fst q0,Prod.fst (Prod.snd q0),((0:Int),n5 (if q2<v11 then q2 else v11) q2 q4,()),Prod.snd (Prod.snd (Prod.snd q0)))) (Int.toNat aS) q3)))))) (Int.toNat aS) (Prod.fst (List.getD (List.set (List.set q1 (Int.toNat aS) (Prod.fst q0,Prod.fst (Prod.snd q0),((0:Int),n5 (if q2<v11 then q2 else v11) q2 q4,()),Prod.snd (Prod.snd (Prod.snd q0)))) (Int.toNat aS) (Prod.fst (List.getD (List.set q1 (Int.toNat aS) (Prod.fst q0,Prod.fst (Prod.snd q0),((0:Int),n5 (if q2<v11 then q2 else v11) q2 q4,()),Prod.snd (Prod.snd (Prod.snd q0)))) (Int.toNat aS) q3),Prod.fst (Prod.snd (List.getD (List.set q1 (Int.toNat aS) (Prod.fst q0,Prod.fst (Prod.snd q0),((0:Int),n5 (if q2<v11 then q2 else v11) q2 q4,()),Prod.snd (Prod.snd (Prod.snd q0)))) (Int.toNat aS) q3)),Prod.fst (Prod.snd (Prod.snd (List.getD (List.set q1 (Int.toNat aS) (Prod.fst q0,Prod.fst (Prod.snd q0),((0:Int),n5 (if q2<v11 then q2 else v11) q2 q4,()),Prod.snd (Prod.snd (Prod.snd q0)))) (Int.toNat aS) q3))),((0:Int),[],()),Prod.snd (Prod.snd (Prod.snd (Prod.snd (List.getD (List.set q1 (Int.toNat aS) (Prod.fst q0,Prod.fst (Prod.snd q0),((0:Int),n5 (if q2<v11 then q2 else v11) q2 q4,()),Prod.snd (Prod.snd (Prod.snd q0)))) (Int.toNat aS) q3)))))) (Int.toNat aS) q3),Prod.fst (Prod.snd (List.getD (List.set (List.set q1 (Int.toNat aS) (Prod.fst q0,Prod.fst (Prod.snd q0),((0:Int),n5 (if q2<v11 then q2 else v11) q2 q4,()),Prod.snd (Prod.snd (Prod.snd q0)))) (Int.toNat aS) (Prod.fst (List.getD (List.set q1 (Int.toNat aS) (Prod.fst q0,Prod.fst (Prod.snd q0),((0:Int),n5 (if q2<v11 then q2 else v11) q2 q4,()),Prod.snd (Prod.snd (Prod.snd q0)))) (Int.toNat aS) q3),Prod.fst (Prod.snd (List.getD (List.set q1 (Int.toNat aS) (Prod.fst q0,Prod.fst (Prod.snd q0),((0:Int),n5 (if q2<v11 then q2 else v11) q2 q4,()),Prod.snd (Prod.snd (Prod.snd q0)))) (Int.toNat aS) q3)),Prod.fst (Prod.snd (Prod.snd (List.getD (List.set q1 (Int.toNat aS) (Prod.fst q0,Prod.fst (Prod.snd q0),((0:Int),n5 (if q2<v11 then q2 else v11) q2 q4,()),Prod.snd (Prod.snd (Prod.snd q0)))) (Int.toNat aS) q3))),((0:Int),[],()),Prod.snd (Prod.snd (Prod.snd (Prod.snd (List.getD (List.set q1 (Int.toNat aS) (Prod.fst q0,Prod.fst (Prod.snd q0),((0:Int),n5 (if q2<v11 then q2 else v11) q2 q4,()),Prod.snd (Prod.snd (Prod.snd q0)))) (Int.toNat aS) q3)))))) (Int.toNat aS) q3)),Prod.fst (Prod.snd (Prod.snd (List.getD (List.set (List.set q1 (Int.toNat aS) (Prod.fst q0,Prod.fst (Prod.snd q0),((0:Int),n5 (if q2<v11 then q2 else v11) q2 q4,()),Prod.snd (Prod.snd (Prod.snd q0)))) (Int.toNat aS) (Prod.fst (List.getD (List.set q1 (Int.toNat aS) (Prod.fst q0,Prod.fst (Prod.snd q0),((0:Int),n5 (if q2<v11 then q2 else v11) q2 q4,()),Prod.snd (Prod.snd (Prod.snd q0)))) (Int.toNat aS) q3),Prod.fst (Prod.snd (List.getD (List.set q1 (Int.toNat aS) (Prod.fst q0,Prod.fst (Prod.snd q0),((0:Int),n5 (if q2<v11 then q2 else v11) q2 q4,()),Prod.snd (Prod.snd (Prod.snd q0)))) (Int.toNat aS) q3)),Prod.fst (Prod.snd (Prod.snd (List.getD (List.set q1 (Int.toNat aS) (Prod.fst q0,Prod.fst (Prod.snd q0),((0:Int),n5 (if q2<v11 then q2 else v11) q2 q4,()),Prod.snd (Prod.snd (Prod.snd q0)))) (Int.toNat aS) q3))),((0:Int),[],()),Prod.snd (Prod.snd (Prod.snd (Prod.snd (List.getD (List.set q1 (Int.toNat aS) (Prod.fst q0,Prod.fst (Prod.snd q0),((0:Int),n5 (if q2<v11 then q2 else v11) q2 q4,()),Prod.snd (Prod.snd (Prod.snd q0)))) (Int.toNat aS) q3)))))) (Int.toNat aS) q3))),Prod.fst (Prod.snd (Prod.snd (Prod.snd (List.getD (List.set (List.set q1 (Int.toNat aS) (Prod.fst q0,Prod.fst (Prod.snd q0),((0:Int),n5 (if q2<v11 then q2 else v11) q2 q4,()),Prod.snd (Prod.snd (Prod.snd q0)))) (Int.toNat aS) (Prod.fst (List.getD (List.set q1 (Int.toNat aS) (Prod.fst q0,Prod.fst (Prod.snd q0),((0:Int),n5 (if q2<v11 then q2 else v11) q2 q4,()),Prod.snd (Prod.snd (Prod.snd q0)))) (Int.toNat aS) q3),Prod.fst (Prod.snd (List.getD (List.set q1 (Int.toNat aS) (Prod.fst q0,Prod.fst (Prod.snd q0),((0:Int),n5 (if q2<v11 then q2 else v11) q2 q4,()),Prod.snd (Prod.snd (Prod.snd q0)))) (Int.toNat aS) q3)),Prod.fst (Prod.snd (Prod.snd (List.getD (List.set q1 (Int.toNat aS) (Prod.fst q0,Prod.fst (Prod.snd q0),((0:Int),n5 (if q2<v11 then q2 else v11) q2 q4,()),Prod.snd (Prod.snd (Prod.snd q0)))) (Int.toNat aS) q3))),((0:Int),[],()),Prod.snd (Prod.snd (Prod.snd (Prod.snd (List.getD (List.set q1 (Int.toNat aS) (Prod.fst q0,Prod.fst (Prod.snd q0),((0:Int),n5 (if q2<v11 then q2 else v11) q2 q4,()),Prod.snd (Prod.snd (Prod.snd q0)))) (Int.toNat aS) q3)))))) (Int.toNat aS) q3)))),((0:Int),[],()),Prod.snd (Prod.snd (Prod.snd (Prod.snd (Prod.snd (List.getD (List.set (List.set q1 (Int.toNat aS) (Prod.fst q0,Prod.fst (Prod.snd q0),((0:Int),n5 (if q2<v11 then q2 else v11) q2 q4,()),Prod.snd (Prod.snd (Prod.snd q0)))) (Int.toNat aS) (Prod.fst (List.getD (List.set q1 (Int.toNat aS) (Prod.fst q0,Prod.fst (Prod.snd q0),((0:Int),n5 (if q2<v11 then q2 else v11) q2 q4,()),Prod.snd (Prod.snd (Prod.snd q0)))) (Int.toNat aS) q3),Prod.fst (Prod.snd (List.getD (List.set q1 (Int.toNat aS) (Prod.fst q0,Prod.fst (Prod.snd q0),((0:Int),n5 (if q2<v11 then q2 else v11) q2 q4,()),Prod.snd (Prod.snd (Prod.snd q0)))) (Int.toNat aS) q3)),Prod.fst (Prod.snd (Prod.snd (List.getD (List.set q1 (Int.toNat aS) (Prod.fst q0,Prod.fst (Prod.snd q0),((0:Int),n5 (if q2<v11 then q2 else v11) q2 q4,()),Prod.snd (Prod.snd (Prod.snd q0)))) (Int.toNat aS) q3))),((0:Int),[],()),Prod.snd (Prod.snd (Prod.snd (Prod.snd (List.getD (List.set q1 (Int.toNat aS) (Prod.fst q0,Prod.fst (Prod.snd q0),((0:Int),n5 (if q2<v11 then q2 else v11) q2 q4,()),Prod.snd (Prod.snd (Prod.snd q0)))) (Int.toNat aS) q3)))))) (Int.toNat aS) q3)))))),ak,ah,()))])))))):=by kernel_rfl
theorem a6U {α:Type} {l:List α} {a:Nat} (h:a<=l.length):n5 (a:Int) (l.length:Int) l=l.drop a:=by
  unfold n5;rw [List.take_of_length_le (by rw [List.length_drop]; omega)];congr 1
theorem c6Z (a b:Nat):(if (a:Int)<(b:Int) then (a:Int) else (b:Int))=((min b a:Nat):Int):=by split<;>omega
attribute [local irreducible] r9 O7 G1 in
theorem a6f:b7L.Valid Tryz.prog 25:=by
  refine p9.o5 a08 rfl rfl Tryz.func25 (c:=d8 Tryz.prog 25) rfl rfl a07 rfl ?_;rintro ⟨⟨⟨(v0:Int),(v1:Int),⟨⟩⟩,(al0:List J2),(od:List (List UInt8)),(wy:List (List UInt8)),⟨⟩⟩,⟨⟩⟩ ⟨he,(bm:a0S (a0B ((v0,v1,()),al0,od,wy,()))),(bK:¬ (S5 (a0B ((v0,v1,()),al0,od,wy,()))).2.1≠0)⟩ -
  have he:al0=(al0.map rdP).map toM:=congrArg (λ m:a7M=>m.2.1) he;obtain ⟨w,hw⟩:∃ w:f7,w=a0B ((v0,v1,()),al0,od,wy,()):=⟨_,rfl⟩;rw [<- hw] at bm bK;have gY:w.1=(v0,v1,()):=by rw [hw]
  have gX:w.2.1=al0.map rdP:=by rw [hw]
  have me:∀ (al:List J2) (i:Nat),al.length=w.2.1.length->((al.map rdP).getD i i8).1=(w.2.1.getD i i8).1->∀ r,r9 ((v0,v1,()),al.map rdP,r) i=r9 w i:=λ al i h1 h2 r=>by
    have:=b43 (v:=(v0,v1,())) (al':=al.map rdP) (al:=w.2.1) (r:=w.2.2) (r':=r) (p:=(i:Int)) (by rw [List.length_map]; exact h1) h2;rw [this,show ((v0,v1,()),w.2.1,w.2.2)=w by rw [hw]]
  have lI:al0.length=w.2.1.length:=by rw [gX,List.length_map]
  have lM:a2V w al0:=by
    have:=a2V.start w;rw [gX,<- he] at this;exact this
  have dD:=b39 (w:=w) bm.c76;refine j5 (n:=1000) a08 a07 ?_;refine g9 (c0J v0 v1 al0 od wy) ?_;have dZ:a0s (G1 (a0B ((v0,v1,()),al0,od,wy,())))=a0s (G1 w):=by rw [hw]
  show Go.Ex.Reach a0i Tryz.f25 ((0:Int),()) (a0s (G1 (a0B ((v0,v1,()),al0,od,wy,()))),()) (.code (f9 (d8 Tryz.prog 25) 4).1::.inLoop (f9 (d8 Tryz.prog 25) 4).1::(f9 (d8 Tryz.prog 25) 4).2) (a4w (D8 w 0) (G7 w 0) (al0.length:Int) ((0:Nat):Int) v0 v1 al0 od wy);rw [dZ,lI];refine Reach.K3 a08 a07 (λ i:Nat×List J2=>a4w (D8 w i.1) (G7 w i.1) (w.2.1.length:Int) (i.1:Int) v0 v1 i.2 od wy) (λ i=>i.1<=w.2.1.length/\a2V w i.2)
    (λ i=>w.2.1.length - i.1) 1000 (λ _=>⟨s7 rfl,s7 rfl⟩) ?_ (0,al0) ⟨Nat.zero_le _,lM⟩
  rintro ⟨i,al⟩ ⟨k1,hi⟩ - ih;have k1:i<=w.2.1.length:=k1;have hi:a2V w al:=hi;have ih:∀ al',i<w.2.1.length->a2V w al'->_:=λ al' h h2=>ih (i+1,al') ⟨by show i+1<=w.2.1.length; omega,h2⟩ (by show w.2.1.length - (i+1)<w.2.1.length - i; omega);refine g9 (b65 ..) ?_;have e1:((i:Nat):Int)+1=((i+1:Nat):Int):=by omega
  have rp:=bm.M8;have hA:=me al i hi.len (by rw [b3T,hi.rd i]);simp only [j6,Tree.holds,true_and,true_implies,decide_eq_true_eq,decide_eq_false_iff_not,Bool.not_eq_true',Bool.not_eq_false',Int.toNat_natCast,j7,List.length_set,List.length_cons,List.length_nil,e1];refine ⟨λ c=>⟨by show (al.map rdP).length<=6; rw [List.length_map]; have:=hi.len; omega,λ _=>⟨λ a=>⟨by have:=hi.len; omega,λ _=>⟨λ b=>⟨j7.2 ⟨by omega,by omega⟩,λ _=>?_⟩,λ b=>⟨j7.2 ⟨by omega,by omega⟩,λ _=>?_⟩⟩⟩,λ a=>⟨by omega,λ _=>⟨j7.2 ⟨by omega,by omega⟩,λ _=>?_⟩⟩⟩⟩,λ c=>⟨λ d=>?_,λ d=>?_⟩⟩
  . have a':r9 w i=true:=(hA _).symm.trans a;have hl:(al.getD i dM).2.1.2.1=(w.2.1.getD i i8).2.1:=congrArg (λ x:n9=>x.2.1) (hi.rd i);have b':(G7 w i).length<(w.2.1.getD i i8).2.1.length:=by rw [<- hl]; exact_mod_cast b
    have:=ih _ (by omega) (hi.a1f (n:=0) a');rw [show D8 w (i+1)=D8 w i from if_pos a',show G7 w (i+1)=(al.getD i dM).2.1.2.1 by rw [G7,if_pos ⟨a',b'⟩,hl]] at this;exact this
  . have a':r9 w i=true:=(hA _).symm.trans a;have hl:(al.getD i dM).2.1.2.1=(w.2.1.getD i i8).2.1:=congrArg (λ x:n9=>x.2.1) (hi.rd i);have b':¬ (G7 w i).length<(w.2.1.getD i i8).2.1.length:=by rw [<- hl]; intro h; exact b (by exact_mod_cast h)
    have:=ih al (by omega) hi;rw [show D8 w (i+1)=D8 w i from if_pos a',show G7 w (i+1)=G7 w i by rw [G7,if_neg (λ h=>b' h.2)]] at this;exact this
  . have a':r9 w i=false:=(hA _).symm.trans a;have:=ih al (by omega) hi;rw [show D8 w (i+1)=bOr .u8 (D8 w i) (U2 .u8 w.1.2.1 (IntKind.wrap .u8 (1*2^min i IntKind.u8.bits))) from if_neg (by rw [a']; decide),show G7 w (i+1)=G7 w i by rw [G7,if_neg (λ h=>by rw [a'] at h; cases h.1)],gY] at this;exact this
  . obtain rfl:i=w.2.1.length:=by omega
    exact absurd (by rw [S5,gY]; exact d) bK
  obtain rfl:i=w.2.1.length:=by omega
  obtain ⟨L,hL⟩:∃ L,L=G7 w w.2.1.length:=⟨_,rfl⟩;have hg:∀ i:Nat,r9 w i=true->i<w.2.1.length->(w.2.1.getD i i8).2.1.length<=L.length:=λ i h h2=>by rw [hL]; exact a5p h h2
  have rX:L.length<=5864062014805:=by rw [hL]; exact dD _
  rw [<- hL];obtain ⟨z0,z1,hz⟩:∃ z0 z1,(O7 (v0,v1,()) (D8 w w.2.1.length) 0).1=(z0,z1,()):=⟨_,_,rfl⟩;have fX:G1 w=((z0,z1,()),w.2.1.mapIdx (Z2 w L),[],wy,()):=by
    unfold G1;rw [<- hL,S5,gY,hz,hw]
  rw [fX];suffices go:Go.Ex.Reach a0i Tryz.f25 ((0:Int),()) (a0s ((z0,z1,()),w.2.1.mapIdx (Z2 w L),[],wy,()),()) (.code (f9 (d8 Tryz.prog 25) 16).1::.inLoop (f9 (d8 Tryz.prog 25) 16).1::(f9 (d8 Tryz.prog 25) 16).2) (a3Q L (w.2.1.length:Int) ((0:Nat):Int) z0 z1 v0 v1 al od wy) by
    rw [<- hi.len] at go;have h0:(O7 (v0,v1,()) (D8 w w.2.1.length) 0).1.1=z0:=by rw [hz]
    have h1:(O7 (v0,v1,()) (D8 w w.2.1.length) 0).1.2.1=z1:=by rw [hz]
    subst h0; subst h1;rw [hi.len] at go ⊢;exact go
  refine Reach.K3 a08 a07 (λ i:Nat×List J2=>a3Q L (w.2.1.length:Int) (i.1:Int) z0 z1 v0 v1 i.2 od wy) (λ i=>i.1<=w.2.1.length/\a1T w L i.1 i.2)
    (λ i=>w.2.1.length - i.1) 1000 (λ _=>⟨s7 rfl,s7 rfl⟩) ?_ (0,al) ⟨Nat.zero_le _,hi.next L⟩
  clear ih;rintro ⟨k,al⟩ ⟨k1,hi⟩ - ih;have k1:k<=w.2.1.length:=k1;have hi:a1T w L k al:=hi;have ih:∀ al',k<w.2.1.length->a1T w L (k+1) al'->_:=λ al' h h2=>ih (k+1,al') ⟨by show k+1<=w.2.1.length; omega,h2⟩ (by show w.2.1.length - (k+1)<w.2.1.length - k; omega);refine g9 (b5T ..) ?_;have e2:((k:Nat):Int)+1=((k+1:Nat):Int):=by omega
  have hA:=me al k hi.len (hi.act k);have hl:(al.getD k dM).2.1.2.1=(w.2.1.getD k i8).2.1:=congrArg (λ x:n9=>x.2.1) (hi.rd k (Nat.le_refl _));have kL:=hi.len;simp only [j6,Tree.holds,true_and,true_implies,decide_eq_true_eq,decide_eq_false_iff_not,Bool.not_eq_true',Bool.not_eq_false',Int.toNat_natCast,j7,List.length_set,List.length_cons,List.length_nil,e2];refine ⟨λ c=>⟨⟨by omega,by omega⟩,λ _=>⟨by show (al.map rdP).length<=6; rw [List.length_map]; omega,λ _=>⟨λ a=>⟨?_,λ _=>?_⟩,λ a=>⟨j7.2 ⟨by omega,by omega⟩,λ _=>?_⟩⟩⟩⟩,λ c=>?_⟩
  . rw [hl];have:=hg k ((hA _).symm.trans a) (by omega);omega
  . have a':r9 w k=true:=(hA _).symm.trans a;have hb:=hg k a' (by omega);rw [hl,a6U hb];obtain ⟨D,hD⟩:∃ D,D=L.drop (w.2.1.getD k i8).2.1.length:=⟨_,rfl⟩;have sR:D.length<=5864062014805:=by rw [hD,List.length_drop]; omega
    rw [<- hD];suffices go:Go.Ex.Reach a0i Tryz.f25 ((0:Int),()) (a0s ((z0,z1,()),w.2.1.mapIdx (Z2 w L),[],wy,()),()) (.code (f9 (d8 Tryz.prog 25) 22).1::.inLoop (f9 (d8 Tryz.prog 25) 22).1::(f9 (d8 Tryz.prog 25) 22).2) (a3P L (k:Int) (k:Int) ((countP k (D.take 0):Nat):Int) (w.2.1.length:Int) (k:Int) D (D.length:Int) ((0:Nat):Int) z0 z1 v0 v1 al od wy) by exact go
    refine Reach.K3 a08 a07 (λ j:Nat=>a3P L (k:Int) (k:Int) ((countP k (D.take j):Nat):Int) (w.2.1.length:Int) (k:Int) D (D.length:Int) (j:Int) z0 z1 v0 v1 al od wy) (λ j=>j<=D.length)
      (λ j=>D.length - j) 1000 (λ _=>⟨s7 rfl,s7 rfl⟩) ?_ 0 (Nat.zero_le _)
    rintro j k2 - ih2;have k2:j<=D.length:=k2;refine g9 (b5S ..) ?_;have e3:((j:Nat):Int)+1=((j+1:Nat):Int):=by omega
    have fO:countP k (D.take j)<=j:=Nat.le_trans countP_le (by rw [List.length_take]; omega);have hG:∀ y:J2,(al.set k y).getD k (false,(1,[],[]),(0,[],()),(0,[],()),(0,[],()),())=y:=λ y=>by
      rw [List.getD_eq_getElem?_getD,List.getElem?_set_self (by omega)]; rfl
    have hS:∀ y z:J2,(al.set k y).set k z=al.set k z:=λ y z=>List.set_set ..;have lK:(al.getD k dM).2.2.1.2.1.length<=1048576:=by
      have:=bm.late k;rw [<- hi.rd k (Nat.le_refl _)] at this;exact this
    simp only [j6,Tree.holds,true_and,true_implies,decide_eq_true_eq,decide_eq_false_iff_not,Bool.not_eq_true',Bool.not_eq_false',Int.toNat_natCast,j7,List.length_set,List.length_cons,List.length_nil,e3,hG,hS,c6Z];refine ⟨λ d=>⟨by omega,λ _=>⟨λ e=>⟨j7.2 ⟨by omega,by omega⟩,λ _=>⟨j7.2 ⟨by omega,by omega⟩,λ _=>?_⟩⟩,λ e=>⟨j7.2 ⟨by omega,by omega⟩,λ _=>?_⟩⟩⟩,λ d=>?_⟩
    . have:=ih2 (j+1) (by show j+1<=D.length; omega) (by show D.length - (j+1)<D.length - j; omega);rw [a8d (show j<D.length by omega),if_pos e,Int.natCast_add] at this;exact this
    . have:=ih2 (j+1) (by show j+1<=D.length; omega) (by show D.length - (j+1)<D.length - j; omega);rw [a8d (show j<D.length by omega),if_neg e,Nat.add_zero] at this;exact this
    . obtain rfl:j=D.length:=by omega
      have hr:=hi.rd k (Nat.le_refl _);simp only [dM] at lK hr;refine ⟨rX,λ _=>⟨⟨by omega,by omega,Int.le_refl _⟩,λ _=>⟨?_,λ _=>⟨⟨by omega,by omega⟩,λ _=>?_⟩⟩⟩⟩
      . rw [a6U (Nat.min_le_right ..),List.length_drop]; omega
      . rw [a6U (Nat.min_le_right ..),List.take_length];have:=ih _ (by omega) hi.step;rw [show Z2 w L k (w.2.1.getD k i8)=((w.2.1.getD k i8).1,L,(0,(w.2.1.getD k i8).2.2.1.2.1.drop (min (countP k D) (w.2.1.getD k i8).2.2.1.2.1.length),()),(0,[],()),(0,[],()),()) from (if_pos a').trans (by rw [hD])] at this;rw [<- hr] at this;exact this
  . have a':r9 w k=false:=(hA _).symm.trans a;have:=ih _ (by omega) hi.step;rw [show Z2 w L k (w.2.1.getD k i8)=((w.2.1.getD k i8).1,(w.2.1.getD k i8).2.1,(w.2.1.getD k i8).2.2.1,(w.2.1.getD k i8).2.2.2.1,(0,[],()),()) from if_neg (by rw [a']; decide)] at this;have hs:=hi.same k (Nat.le_refl _) a';simp only [dM] at hs;rw [hs];exact this
  . obtain rfl:k=w.2.1.length:=by omega
    have:=hi.fin;subst this;rfl
end Go.Proofs.YtijlnmgondibnaaGreatDoor
namespace Go.Proofs.YtijlnmgondibnaaGreatDoor
open Go.Ex
set_option maxRecDepth 100000
def a4e (S:Nat->List C5) (O:List C5) (n:y4):Prop :=
  (n.1=1->(S n.2.1.toNat)[n.2.2.2.2.1.toNat]?=some n.2.2.2.2.2.2.1)/\(n.1=2->O[n.2.2.2.2.1.toNat]?=some n.2.2.2.2.2.2.1)
def a7N (S:Nat->List C5) (O:List C5) (V:Int) (s:C5):Prop:=(u7 s).2.1=0->(u7 s).1.2.2.2.1<=V/\((u7 s).1.2.2.2.1=V->a4e S O (u7 s).1)
structure b3t (said:Nat->List C5) (B:List B9) (S:Nat->List C5) (Q:List T4) (p:Nat) (x:n9) (m:Nat):Prop where
  le:m<=Q.length
  next:x.2.2.2.1.1=m
  wait:∀ q∈x.2.2.2.1.2.1,(I3 Q)[q.1.toNat]?=some q.2.1
  log:x.2.1=B++(Q.take m).map a4l
  from_:x.2.2.1=(((y6 p (Q.take m)).length:Int),(S p).drop (y6 p (Q.take m)).length,())
  ok:G3 x.2.2.1=0
structure Inv (said:Nat->List C5) (B:List B9) (S:Nat->List C5) (Q:List T4) (w:f7):Prop where
  M8:w.2.1.length<=6
  way:w.2.2.2.1.length<=60
  ord:w.2.2.1=I3 Q
  inQ:∀ x∈Q,x.1<w.2.1.length
  b0M:∀ p,y6 p Q <+: S p
  short:∀ p,(S p).length<=16777215
  msg:∀ s∈w.2.2.2.1,a7N S w.2.2.1 w.1.1 s
  rcv:∀ p:Nat,p<w.2.1.length->(w.2.1.getD p i8).2.2.2.2.1.1=(y6 p Q).length/\∀ q∈(w.2.1.getD p i8).2.2.2.2.1.2.1,(S p)[q.1.toNat]?=some q.2.1
  mem:∀ p:Nat,p<w.2.1.length->a0u w.1.2.1 p=true->(∃ m,b3t said B S Q p (w.2.1.getD p i8) m)/\said p=ofP p B++S p
  out:∀ p:Nat,p<w.2.1.length->a0u w.1.2.1 p=false->S p=[]/\ofP p B <+: said p
structure U3 (P:y4->Prop) (w w':f7):Prop where
  view:w'.1=w.1
  all:w'.2.1=w.2.1
  ord:w'.2.2.1=w.2.2.1
  len:w.2.2.2.1.length<=60->w'.2.2.2.1.length<=60
  way:∀ s∈w'.2.2.2.1,s∈w.2.2.2.1\/∃ n:y4,u7 s=(n,0,())/\n.2.2.2.1=w.1.1/\P n
theorem U3.refl {P:y4->Prop} (w:f7):U3 P w w:=⟨rfl,rfl,rfl,id,λ _ h=>.inl h⟩
theorem U3.trans {P:y4->Prop} {w w' w'':f7} (h:U3 P w w') (h':U3 P w' w''):U3 P w w'' :=
  ⟨h'.view.trans h.view,h'.all.trans h.all,h'.ord.trans h.ord,λ e=>h'.len (h.len e),λ s hs=>by
    rcases h'.way s hs with h1|⟨n,h1,h2,h3⟩
    . exact h.way s h1
    . exact .inr ⟨n,h1,by rw [h2,h.view],h3⟩⟩
theorem U3.one {P:y4->Prop} {w:f7} {k f t q:Int} {x:C5} (h:P (k,f,t,w.1.1,q,[0,0,0,0,0,0],x,())):U3 P w (J9 w k f t q x):=by
  by_cases c:(Q9 (k,f,t,w.1.1,q,[0,0,0,0,0,0],x,())).2.1=0/\(w.2.2.2.1.length:Int)<60
  . rw [a6n c.1 c.2];refine ⟨rfl,rfl,rfl,λ _=>?_,λ s hs=>?_⟩
    . show (w.2.2.2.1++[_]).length<=60;rw [List.length_append];have:=c.2;simp only [List.length_singleton]; omega
    . rcases List.mem_append.1 hs with hs|hs
      . exact .inl hs
      . rw [List.mem_singleton] at hs;have hc:G2 (k,f,t,w.1.1,q,[0,0,0,0,0,0],x,())=0:=by
          by_cases hc:G2 (k,f,t,w.1.1,q,[0,0,0,0,0,0],x,())=0
          . exact hc
          . have:=c.1;rw [c3m hc] at this;exact absurd this hc
        rw [c3l hc] at hs;exact .inr ⟨_,by rw [hs]; exact c1l hc rfl,rfl,h⟩
  . rw [a3X c]; exact .refl w
theorem Inv.b8F {said:Nat->List C5} {B:List B9} {S:Nat->List C5} {Q:List T4} {w w':f7} (h:Inv said B S Q w) (hs:U3 (a4e S w.2.2.1) w w'):Inv said B S Q w':=by
  obtain ⟨h1,h2,h3,h4,h5,h6,h7,h8,h9,im⟩:=h;refine ⟨by rw [hs.all]; exact h1,hs.len h2,by rw [hs.ord]; exact h3,by rw [hs.all]; exact h4,h5,h6,?_,by rw [hs.all]; exact h8,by rw [hs.all,hs.view]; exact h9,by rw [hs.all,hs.view]; exact im⟩;intro s hm;rw [hs.view,hs.ord];rcases hs.way s hm with h|⟨n,e1,e2,e3⟩
  . exact h7 s h
  . intro _;rw [e1];exact ⟨by show n.2.2.2.1<=w.1.1; omega,λ _=>e3⟩
theorem Inv.D6 {said:Nat->List C5} {B:List B9} {S:Nat->List C5} {Q:List T4} {w:f7} (h:Inv said B S Q w) {p:Nat} {x:n9}
    (hr:p<w.2.1.length->x.2.2.2.2.1.1=(y6 p Q).length/\∀ q∈x.2.2.2.2.1.2.1,(S p)[q.1.toNat]?=some q.2.1)
    (hm:p<w.2.1.length->a0u w.1.2.1 p=true->∃ m,b3t said B S Q p x m):Inv said B S Q (w.1,w.2.1.set p x,w.2.2):=by
  obtain ⟨h1,h2,h3,h4,h5,h6,h7,h8,h9,im⟩:=h;have hl:(w.2.1.set p x).length=w.2.1.length:=List.length_set ..;refine ⟨by rw [hl]; exact h1,h2,h3,by rw [hl]; exact h4,h5,h6,h7,λ q hq=>?_,λ q hq hv=>?_,λ q hq hv=>?_⟩
  . rw [hl] at hq;rw [T1]
    split
    . rename_i e; rw [<- e.1]; exact hr e.2
    . exact h8 q hq
  . rw [hl] at hq;rw [T1];refine ⟨?_,(h9 q hq hv).2⟩
    split
    . rename_i e; rw [<- e.1]; rw [<- e.1] at hv; exact hm e.2 hv
    . exact (h9 q hq hv).1
  . rw [hl] at hq;exact im q hq hv
theorem a4e.mono {S S':Nat->List C5} {O O':List C5} {n:y4} (h:a4e S O n) (hS:∀ p,S p <+: S' p) (hO:O <+: O'):a4e S' O' n :=
  ⟨λ e=>a3l (hS _) (h.1 e),λ e=>a3l hO (h.2 e)⟩
theorem a7N.mono {S S':Nat->List C5} {O O':List C5} {V:Int} {s:C5} (h:a7N S O V s) (hS:∀ p,S p <+: S' p) (hO:O <+: O'):a7N S' O' V s :=
  λ e=>⟨(h e).1,λ e2=>((h e).2 e2).mono hS hO⟩
def a43 (f:Nat->List C5) (p:Nat) (x:List C5):Nat->List C5:=λ q=>if q=p then x else f q
theorem a1k {f:Nat->List C5} {p:Nat} {x:List C5}:a43 f p x p=x:=if_pos rfl
theorem a1Z {f:Nat->List C5} {p q:Nat} {x:List C5} (h:q≠p):a43 f p x q=f q:=if_neg h
theorem b7v {s:a0D} {x:C5} (h:¬ (N1 s x).2.1≠0):(N1 s x).1=(s.1,s.2.1++[x],())/\G3 (s.1,s.2.1++[x],())=0/\s.1+s.2.1.length<16777215:=by
  unfold N1 at h ⊢;by_cases h1:G3 s≠0
  . rw [if_pos h1] at h; exact absurd h1 h
  rw [if_neg h1] at h ⊢;have aP:=a0e (Decidable.not_not.1 h1);by_cases h2:D5 x=true
  . rw [if_pos h2] at h; exact absurd (by decide) h
  rw [if_neg h2] at h ⊢;by_cases h3:(s.2.1.length:Int)=16\/16777215<=s.1+s.2.1.length
  . rw [if_pos h3] at h; exact absurd (by decide) h
  rw [if_neg h3];have h4:¬ (s.2.1.length:Int)=16:=λ e=>h3 (.inl e);have h5:¬ 16777215<=s.1+s.2.1.length:=λ e=>h3 (.inr e);refine ⟨rfl,?_,by omega⟩;unfold G3;rw [if_neg (by rw [Y9.2 aP.1]; decide),if_neg,if_neg]
  . rw [List.any_append,aP.2.2];simpa using h2
  . show ¬ (16:Int)<((s.2.1++[x]).length:Int);rw [List.length_append]; simp only [List.length_singleton];have:=aP.2.1;omega
theorem Inv.say {said:Nat->List C5} {B:List B9} {S:Nat->List C5} {Q:List T4} {w:f7} (h:Inv said B S Q w) {p:Nat} {t:C5} (hp:p<w.2.1.length) (hv:a0u w.1.2.1 p=true)
    (hl:¬ (N1 (Z1 w p) t).2.1≠0):Inv (a43 said p (said p++[t])) B (a43 S p (S p++[t])) Q (c4Q w p t (N1 (Z1 w p) t).1):=by
  obtain ⟨h1,h2,h3,h4,h5,h6,h7,h8,h9,im⟩:=h;obtain ⟨g1,g2,g3⟩:=b7v hl;obtain ⟨⟨m,hm⟩,fM⟩:=h9 p hp hv;have hf:Z1 w p=(((y6 p (Q.take m)).length:Int),(S p).drop (y6 p (Q.take m)).length,()):=hm.from_;have hle:(y6 p (Q.take m)).length<=(S p).length:=((a1d (p:=p) (Q:=Q) (i:=m)).trans (h5 p)).length_le;rw [g1];rw [hf] at g2 g3 ⊢;simp only [List.length_drop] at g3;have lT:(S p).drop (y6 p (Q.take m)).length++[t]=(S p++[t]).drop (y6 p (Q.take m)).length:=(List.drop_append_of_le_length hle).symm;simp only [lT] at g2 ⊢;have hS:∀ q,S q <+: a43 S p (S p++[t]) q:=λ q=>by
    by_cases e:q=p
    . subst e; rw [a1k]; exact List.prefix_append ..
    . rw [a1Z e]; exact List.prefix_rfl
  have hlen:(setFrom w p (((y6 p (Q.take m)).length:Int),(S p++[t]).drop (y6 p (Q.take m)).length,())).2.1.length=w.2.1.length:=List.length_set ..;have cH:∀ q,(setFrom w p (((y6 p (Q.take m)).length:Int),(S p++[t]).drop (y6 p (Q.take m)).length,())).2.1.getD q i8=if p=q then ((w.2.1.getD p i8).1,(w.2.1.getD p i8).2.1,(((y6 p (Q.take m)).length:Int),(S p++[t]).drop (y6 p (Q.take m)).length,()),(w.2.1.getD p i8).2.2.2) else w.2.1.getD q i8:=λ q=>by
    show (w.2.1.set p _).getD q i8=_;rw [T1];by_cases e:p=q
    . rw [if_pos ⟨e,hp⟩,if_pos e]; rfl
    . rw [if_neg (λ h=>e h.1),if_neg e]
  have base:Inv (a43 said p (said p++[t])) B (a43 S p (S p++[t])) Q (setFrom w p (((y6 p (Q.take m)).length:Int),(S p++[t]).drop (y6 p (Q.take m)).length,())):=by
    refine ⟨by rw [hlen]; exact h1,h2,h3,by rw [hlen]; exact h4,λ q=>(h5 q).trans (hS q),λ q=>?_,λ s hs=>(h7 s hs).mono hS List.prefix_rfl,λ q hq=>?_,λ q hq hv=>?_,λ q hq hv=>?_⟩
    . by_cases e:q=p
      . subst e; rw [a1k,List.length_append]; simp only [List.length_singleton]; omega
      . rw [a1Z e]; exact h6 q
    . rw [hlen] at hq;rw [cH];by_cases e:p=q
      . subst e;rw [if_pos rfl];exact ⟨(h8 p hq).1,λ x hx=>a3l (hS p) ((h8 p hq).2 x hx)⟩
      . rw [if_neg e];exact ⟨(h8 q hq).1,λ x hx=>a3l (hS q) ((h8 q hq).2 x hx)⟩
    . rw [hlen] at hq;rw [cH];by_cases e:p=q
      . subst e;rw [if_pos rfl,a1k,a1k];refine ⟨⟨m,hm.le,hm.next,hm.wait,hm.log,?_,g2⟩,by rw [fM,List.append_assoc]⟩;rw [a1k]
      . rw [if_neg e,a1Z (Ne.symm e),a1Z (Ne.symm e)];obtain ⟨⟨m',fE⟩,kC⟩:=h9 q hq hv;refine ⟨⟨m',fE.le,fE.next,fE.wait,fE.log,?_,fE.ok⟩,kC⟩;rw [a1Z (Ne.symm e)];exact fE.from_
    . rw [hlen] at hq;have e:q≠p:=by
        rintro rfl;have fa:a0u w.1.2.1 q=false:=hv;rename_i fR;rw [fR] at fa; cases fa
      rw [a1Z e,a1Z e];exact im q hq hv
  refine base.b8F (U3.one ⟨λ _=>?_,λ h=>by cases h⟩);show (a43 S p (S p++[t]) ((p:Int)).toNat)[(((y6 p (Q.take m)).length:Int)+(((S p++[t]).drop (y6 p (Q.take m)).length).length:Int) - 1).toNat]?=some t;rw [show ((p:Int)).toNat=p from rfl,a1k];rw [List.length_drop,List.length_append];simp only [List.length_singleton];rw [show (((y6 p (Q.take m)).length:Int)+(((S p).length+1 - (y6 p (Q.take m)).length:Nat):Int) - 1).toNat=(S p).length by omega];rw [List.getElem?_append_right (Nat.le_refl _),Nat.sub_self]; rfl
section
variable {said:Nat->List C5} {B:List B9} {S:Nat->List C5} {Q:List T4} {w:f7}
theorem a9x {b most:Int} {l:List C5}:∀ {k:Nat},k<=l.length->∀ x∈a1A b most l k,∃ i,i<l.length/\x=(b+i,l.getD i [],())
  | 0,_,x,h=>by cases h
  | k+1,hk,x,h=>by
    rw [a1A] at h;rcases List.mem_append.1 h with h|h
    . exact a9x (by omega) x h
    . split at h
      . rw [List.mem_singleton] at h; exact ⟨k,by omega,h⟩
      . cases h
theorem a6m {P:y4->Prop} {p:Int} {l:List B9} {w:f7} (h:∀ x∈l,∀ f v,P (1,p,f,v,x.1,[0,0,0,0,0,0],x.2.1,())):∀ {k},k<=l.length->U3 P w (K4 p l w k)
  | 0,_=>.refl w
  | k+1,hk=>by
    rw [K4];refine (a6m h (by omega)).trans (U3.one (h _ ?_ _ _));rw [List.getD_eq_getElem?_getD,List.getElem?_eq_getElem (by omega)]; exact List.getElem_mem _
theorem Inv.again (h:Inv said B S Q w) {p:Nat} (hp:p<w.2.1.length) (hv:a0u w.1.2.1 p=true) :
    Inv said B S Q (c0d (K4 p (a2I w p) w (a2I w p).length) p):=by
  refine h.b8F ((a6m (λ x hx f v=>?_) (Nat.le_refl _)).trans (U3.one ⟨λ e=>(by cases e),λ e=>(by cases e)⟩));refine ⟨λ _=>?_,λ e=>by cases e⟩;obtain ⟨⟨m,hm⟩,-⟩:=h.mem p hp hv;have hf:Z1 w p=(((y6 p (Q.take m)).length:Int),(S p).drop (y6 p (Q.take m)).length,()):=hm.from_;have ov:G3 (Z1 w p)=0:=hm.ok;unfold a2I a0L at hx;rw [if_neg (by rw [ov]; simp),hf] at hx;obtain ⟨i,hi,rfl⟩:=a9x (Nat.le_refl _) x hx;show (S ((p:Int)).toNat)[(((y6 p (Q.take m)).length:Int)+(i:Int)).toNat]?=some (((S p).drop (y6 p (Q.take m)).length).getD i []);rw [show ((p:Int)).toNat=p from rfl,show (((y6 p (Q.take m)).length:Int)+(i:Int)).toNat=(y6 p (Q.take m)).length+i by omega];rw [<- List.getElem?_drop,List.getD_eq_getElem?_getD,List.getElem?_eq_getElem hi]; rfl
theorem Inv.c78 (h:Inv said B S Q w) (p:Nat):Inv said B S Q (w.1,w.2.1.set p (true,(w.2.1.getD p i8).2),w.2.2):=by
  refine h.D6 (λ hp=>h.rcv p hp) (λ hp hv=>?_);obtain ⟨⟨m,hm⟩,-⟩:=h.mem p hp hv;exact ⟨m,hm.le,hm.next,hm.wait,hm.log,hm.from_,hm.ok⟩
theorem Inv.ways (h:Inv said B S Q w) {l:List C5} (hl:l.length<=60) (hm:∀ s∈l,s∈w.2.2.2.1):Inv said B S Q (w.1,w.2.1,w.2.2.1,l,()):=by
  obtain ⟨h1,h2,h3,h4,h5,h6,h7,h8,h9,im⟩:=h;exact ⟨h1,hl,h3,h4,h5,h6,λ s hs=>h7 s (hm s hs),h8,h9,im⟩
theorem Inv.drop (h:Inv said B S Q w) (k:Int):Inv said B S Q (a5E w k):=by
  refine h.ways ?_ (λ s hs=>?_)
  . have:=h.way;rw [List.length_append,List.length_take,List.length_drop];by_cases c:0<=k
    . omega
    . have e1:k.toNat=0:=by omega
      have e2:(k+1).toNat=0:=by omega
      rw [e1,e2]; omega
  . rcases List.mem_append.1 hs with hs|hs
    . exact List.mem_of_mem_take hs
    . exact List.mem_of_mem_drop hs
theorem Inv.copy (h:Inv said B S Q w) {k:Nat} (hk:k<w.2.2.2.1.length) (hn:¬ (w.2.2.2.1.length:Int)=60):Inv said B S Q (b3o w k):=by
  refine h.ways ?_ (λ s hs=>?_)
  . have:=h.way;rw [List.length_append]; simp only [List.length_singleton]; omega
  . rcases List.mem_append.1 hs with hs|hs
    . exact hs
    . rw [List.mem_singleton] at hs;rw [hs,List.getD_eq_getElem?_getD,List.getElem?_eq_getElem hk]; exact List.getElem_mem _
theorem Inv.asks (h:Inv said B S Q w) {n:y4} (h0:0<=n.2.2.2.2.1):∀ j,U3 (a4e S w.2.2.1) w (E2 w n j)
  | 0=>.refl w
  | j+1=>by
    rw [E2]
    split
    . rename_i bo;refine (Inv.asks h h0 j).trans (U3.one ⟨λ e=>(by cases e),λ _=>?_⟩);rw [(a1t j).2.2] at bo;show w.2.2.1[(n.2.2.2.2.1+j).toNat]?=some ((E2 w n j).2.2.1.getD (n.2.2.2.2.1+j).toNat []);rw [(a1t j).2.2,List.getD_eq_getElem?_getD,List.getElem?_eq_getElem (by omega)]; rfl
    . exact Inv.asks h h0 j
structure Told (texts:List C5) (w w':f7):Prop where
  view:w'.1=w.1
  all:w'.2.1=w.2.1
  ord:w'.2.2.1=w.2.2.1++texts
  len:w.2.2.2.1.length<=60->w'.2.2.2.1.length<=60
  way:∀ s∈w'.2.2.2.1,s∈w.2.2.2.1\/∃ n:y4,u7 s=(n,0,())/\n.2.2.2.1=w.1.1/\n.1=2/\(w.2.2.1++texts)[n.2.2.2.2.1.toNat]?=some n.2.2.2.2.2.2.1
theorem a8k {x:C5} {w:f7} {P:y4->Prop} (h:∀ f t,P (2,f,t,w.1.1,(w.2.2.1.length:Int) - 1,[0,0,0,0,0,0],x,())):∀ p,U3 P w (F3 x w p)
  | 0=>.refl w
  | p+1=>by
    rw [F3];have ih:=a8k h p
    split
    . refine ih.trans (U3.one ?_);rw [ih.view,ih.ord];exact h _ _
    . exact ih
theorem told {f first:Int} {l:List C5} {w:f7}:∀ {i},i<=l.length->Told ((l.take i).mapIdx (λ j t=>H2 f (first+j) t)) w (H4 f first l w i)
  | 0,_=>⟨rfl,rfl,by simp [H4],id,λ s h=>.inl h⟩
  | i+1,hi=>by
    have ih:=told (f:=f) (first:=first) (w:=w) (show i<=l.length by omega);rw [H4];obtain ⟨u,hu⟩:∃ u,u=H4 f first l w i:=⟨_,rfl⟩
    obtain ⟨x,hx⟩:∃ x,x=H2 f (first+i) (l.getD i []):=⟨_,rfl⟩;rw [<- hu] at ih ⊢;rw [<- hx];have qt:(l.take (i+1)).mapIdx (λ j t=>H2 f (first+j) t)=(l.take i).mapIdx (λ j t=>H2 f (first+j) t)++[x]:=by
      rw [a22 (show i<l.length by omega) [],List.mapIdx_append,hx];simp only [List.length_take];rw [show min i l.length=i by omega];simp
    rw [qt];have hp:(a7A u x).2.2.1=w.2.2.1++((l.take i).mapIdx (λ j t=>H2 f (first+j) t)++[x]):=by
      show u.2.2.1++[x]=_;rw [ih.ord,List.append_assoc]
    have hc:=a8k (x:=x) (w:=a7A u x) (P:=λ n=>n.1=2/\(a7A u x).2.2.1[n.2.2.2.2.1.toNat]?=some n.2.2.2.2.2.2.1) (λ f t=>⟨rfl,by
      show (u.2.2.1++[x])[(((u.2.2.1++[x]).length:Int) - 1).toNat]?=some x;rw [List.length_append];simp only [List.length_singleton];rw [show (((u.2.2.1.length+1:Nat):Int) - 1).toNat=u.2.2.1.length by omega];rw [List.getElem?_append_right (Nat.le_refl _),Nat.sub_self]; rfl⟩) u.2.1.length
    refine ⟨hc.view.trans ih.view,hc.all.trans ih.all,hc.ord.trans hp,λ e=>hc.len (ih.len e),λ s hs=>?_⟩;rcases hc.way s hs with hs|⟨n,e1,e2,e3,e4⟩
    . rcases ih.way s hs with hs|⟨n,e1,e2,e3,e4⟩
      . exact .inl hs
      . refine .inr ⟨n,e1,e2,e3,?_⟩;rw [<- List.append_assoc];exact a3l (List.prefix_append ..) e4
    . refine .inr ⟨n,e1,?_,e3,?_⟩
      . rw [e2];show u.1.1=w.1.1;rw [ih.view]
      . rw [<- hp]; exact e4
structure c79 (S:Nat->List C5) (w:f7) (n:y4):Prop where
  msg:a4e S w.2.2.1 n
  seq:0<=n.2.2.2.2.1
theorem a62 {P:List T4} {p:Nat}:∀ {l:List C5} {c:Nat},(y6 p P).length=c->K6 P (l.map λ t=>(p,t))=l.mapIdx (λ j t=>H2 p ((c:Int)+j) t)
  | [],_,_=>rfl
  | t::l,c,h=>by
    rw [List.map_cons,K6,List.mapIdx_cons,a62 (c:=c+1) (by rw [a1r,List.length_append,h]; simp [y6])];rw [h];have e:(λ(j:Nat) (t:C5)=>H2 (p:Int) (((c+1:Nat):Int)+j) t)=λ j t=>H2 p ((c:Int)+((j+1:Nat):Int)) t:=by
      funext j t
      rw [show ((c+1:Nat):Int)+(j:Int)=(c:Int)+((j+1:Nat):Int) by omega]
    refine congr (congrArg List.cons ?_) (congrArg (λ f=>List.mapIdx f l) e);show H2 p c t=H2 p ((c:Int)+((0:Nat):Int)) t;rw [show (c:Int)+((0:Nat):Int)=c by omega]
theorem Inv.order (h:Inv said B S Q w) {n:y4} (hk:¬ known w n.2.1≠0) (hm:(S n.2.1.toNat)[n.2.2.2.2.1.toNat]?=some n.2.2.2.2.2.2.1) :
    ∃ Q',Inv said B S Q' (V4 w n):=by
  by_cases he:(W7 w n).2.2.1≠0
  . refine ⟨Q,?_⟩;rw [V4,if_pos he]; exact h
  rw [V4,if_neg he];obtain ⟨v,al,rr⟩:=w;have sM:=a5u hk;obtain ⟨p,hp⟩:∃ p:Nat,n.2.1=p:=⟨n.2.1.toNat,by omega⟩;have bW:p<al.length:=by omega
  rw [hp] at hm ⊢;have ky:W7 (v,al,rr) n=C3 (al.getD p i8).2.2.2.2.1 (n.2.2.2.2.1,n.2.2.2.2.2.2.1,()):=by rw [W7,hp]; rfl
  rw [ky] at he ⊢;obtain ⟨kE,lh⟩:=h.rcv p bW;obtain ⟨r,hr⟩:∃ r,r=C3 (al.getD p i8).2.2.2.2.1 (n.2.2.2.2.1,n.2.2.2.2.2.2.1,()):=⟨_,rfl⟩;have jY:=Decidable.not_not.1 he;obtain ⟨a1,a2,a3,a4,a5,a6⟩:=a0K jY;have fe:=b1K (F:=λ i=>(S p)[i]?) jY lh hm;rw [<- hr] at jY a1 a2 a3 a5 a6 fe ⊢;have nA:((al.getD p i8).2.2.2.2.1.1).toNat=(y6 p Q).length:=by
    have:(al.getD p i8).2.2.2.2.1.1=(y6 p Q).length:=kE;omega
  have lj:(al.getD p i8).2.2.2.2.1.1=((y6 p Q).length:Int):=kE;have hl:=c3d (X:=S p) (l:=r.2.1) (r:=(y6 p Q).length) (λ i hi=>by rw [<- nA]; exact fe i hi);have hT:=told (f:=(p:Int)) (first:=(y6 p Q).length) (l:=r.2.1) (w:=a1p (v,al,rr) p (a2x (M0 (v,al,rr) p) r.1)) (Nat.le_refl _);have jW:(M0 (v,al,rr) (p:Int)).2.2.2.2.1.1=((y6 p Q).length:Int):=kE;rw [jW];rw [List.take_length] at hT;have oB:r.2.1.mapIdx (λ j t=>H2 (p:Int) (((y6 p Q).length:Int)+j) t)=K6 Q (r.2.1.map λ t=>(p,t)):=(a62 rfl).symm;rw [oB] at hT;obtain ⟨u,hu⟩:∃ u,u=H4 (p:Int) ((y6 p Q).length:Int) r.2.1 (a1p (v,al,rr) p (a2x (M0 (v,al,rr) p) r.1)) r.2.1.length:=⟨_,rfl⟩;rw [<- hu] at hT ⊢;have hQ:∀ q,y6 q (Q++r.2.1.map λ t=>(p,t))=y6 q Q++if p=q then r.2.1 else []:=λ q=>by rw [a1r,c5D]
  have bL:u.2.1=al.set p (a2x (al.getD p i8) r.1):=hT.all;have hlen:u.2.1.length=al.length:=by rw [bL,List.length_set]
  have gF:u.1=v:=hT.view;have nF:u.2.2.1=I3 (Q++r.2.1.map λ t=>(p,t)):=by
    rw [hT.ord,b2f];congr 1;exact h.ord
  have lk:rr.1 <+: u.2.2.1:=⟨_,hT.ord.symm⟩;have cH:∀ q,u.2.1.getD q i8=if p=q then a2x (al.getD p i8) r.1 else al.getD q i8:=λ q=>by
    rw [bL,T1];by_cases e:p=q
    . rw [if_pos ⟨e,bW⟩,if_pos e]
    . rw [if_neg (λ h=>e h.1),if_neg e]
  refine ⟨Q++r.2.1.map λ t=>(p,t),by rw [hlen]; exact h.M8,hT.len h.way,nF,λ x hx=>?_,λ q=>?_,h.short,λ s hs=>?_,λ q hq=>?_,λ q hq hv=>?_,λ q hq hv=>?_⟩
  . rw [hlen];rcases List.mem_append.1 hx with hx|hx
    . exact h.inQ x hx
    . obtain ⟨t,-,rfl⟩:=List.mem_map.1 hx;exact bW
  . rw [hQ];by_cases e:p=q
    . subst e;rw [if_pos rfl];have bm:y6 p Q=(S p).take (y6 p Q).length:=List.prefix_iff_eq_take.1 (h.b0M p);have:y6 p Q++r.2.1=(S p).take ((y6 p Q).length+r.2.1.length):=by
        rw [List.take_add,<- hl,<- bm]
      rw [this];exact List.take_prefix ..
    . rw [if_neg e,List.append_nil]; exact h.b0M q
  . rw [gF];rcases hT.way s hs with hs|⟨m,e1,e2,e3,e4⟩
    . exact (h.msg s hs).mono (λ _=>List.prefix_rfl) lk
    . intro _;rw [e1];refine ⟨Int.le_of_eq e2,λ _=>⟨λ e=>?_,λ _=>?_⟩⟩
      . have e3:m.1=2:=e3;have e:m.1=1:=e;omega
      . rw [hT.ord]; exact e4
  . rw [hlen] at hq;rw [cH,hQ];by_cases e:p=q
    . subst e;rw [if_pos rfl,if_pos rfl];refine ⟨?_,λ x hx=>?_⟩
      . show r.1.1=_;rw [a5,lj,List.length_append]; omega
      . rcases a2 x hx with rfl|hx
        . exact hm
        . exact lh x hx
    . rw [if_neg e,if_neg e,List.append_nil]; exact h.rcv q hq
  . rw [hlen] at hq;rw [gF] at hv;obtain ⟨⟨m,hm⟩,hs⟩:=h.mem q hq hv;refine ⟨⟨m,?_⟩,hs⟩;have bG:b3t said B S (Q++r.2.1.map λ t=>(p,t)) q (al.getD q i8) m:=by
      have ky:(Q++r.2.1.map λ t=>(p,t)).take m=Q.take m:=List.take_append_of_le_length hm.le;refine ⟨by rw [List.length_append]; have:=hm.le; omega,hm.next,λ x hx=>?_,by rw [ky]; exact hm.log,by rw [ky]; exact hm.from_,hm.ok⟩;rw [b2f];exact a3l (List.prefix_append ..) (hm.wait x hx)
    rw [cH];by_cases e:p=q
    . subst e;rw [if_pos rfl];exact ⟨bG.le,bG.next,bG.wait,bG.log,bG.from_,bG.ok⟩
    . rw [if_neg e]; exact bG
  . rw [hlen] at hq;rw [gF] at hv;exact h.out q hq hv
end
end Go.Proofs.YtijlnmgondibnaaGreatDoor
namespace Go.Proofs.YtijlnmgondibnaaGreatDoor
open Go.Ex
set_option maxRecDepth 100000
theorem b4i {b:Int} {l:List C5} (h1:0<=b/\b<=16777215) (h2:l.length<=16) (h3:l.any D5=false):G3 (b,l,())=0:=by
  unfold G3;rw [if_neg (by rw [Y9.2 h1]; decide),if_neg (by show ¬ (16:Int)<(l.length:Int); omega),if_neg (by rw [h3]; decide)]
theorem b40 {l:List C5} {k:Nat} (h:l.any D5=false):(l.drop k).any D5=false:=by
  rw [List.any_eq_false] at h ⊢;exact λ x hx=>h x (List.mem_of_mem_drop hx)
theorem c62 {k:Nat} {l:List C5} (h:G3 ((k:Int),l,())=0) (hl:1<=l.length) (hb:k+l.length<=16777215) :
    N6 ((k:Int),l,()) ((k:Int)+1)=((((k+1:Nat):Int),l.drop 1,()),0,())/\G3 (((k+1:Nat):Int),l.drop 1,())=0:=by
  have aP:=a0e h;have ha:ahd (k:Int) ((k:Int)+1)=1:=by unfold ahd; rw [if_neg (by omega)]; omega
  constructor
  . unfold N6;rw [if_neg (by rw [h]; decide),if_neg (by show ¬ (k:Int)+(l.length:Int)<(k:Int)+1; omega)];simp only;rw [ha];rfl
  . exact b4i ⟨by omega,by omega⟩ (by rw [List.length_drop]; have:=aP.2.1; simp only at this; omega) (b40 aP.2.2)
section
variable {said:Nat->List C5} {B:List B9} {S:Nat->List C5} {Q:List T4} {w:f7}
structure b0m (B:List B9) (S:Nat->List C5) (Q:List T4) (p m:Nat) (x:n9):Prop where
  log:x.2.1=B++(Q.take m).map a4l
  from_:x.2.2.1=(((y6 p (Q.take m)).length:Int),(S p).drop (y6 p (Q.take m)).length,())
  ok:G3 x.2.2.1=0
theorem b9e {p m q:Nat} {x:n9} {s:C5} (h:b0m B S Q p m x) (hQ:Q[m]?=some (q,s)) (hq:q<=5) (bm:∀ p,y6 p Q <+: S p) (bT:∀ p,(S p).length<=16777215) :
    b0m B S Q p (m+1) (a0V p x (H2 q (y6 q (Q.take m)).length s))/\(a0V p x (H2 q (y6 q (Q.take m)).length s)).2.2.2=x.2.2.2/\(a0V p x (H2 q (y6 q (Q.take m)).length s)).1=x.1:=by
  have hm:m<Q.length:=by
    by_cases hm:m<Q.length
    . exact hm
    . rw [List.getElem?_eq_none (by omega)] at hQ; cases hQ
  have dW:Q.take (m+1)=Q.take m++[(q,s)]:=by
    rw [List.take_add_one,hQ]; rfl
  have oG:∀ p,(y6 p (Q.take (m+1))).length<=(S p).length:=λ p=>((a1d (p:=p) (Q:=Q) (i:=m+1)).trans (bm p)).length_le;have hk:(y6 q (Q.take m)).length<=16777300:=by
    have h1:=((a1d (p:=q) (Q:=Q) (i:=m)).trans (bm q)).length_le;have:=bT q;omega
  have hw:who (H2 q (y6 q (Q.take m)).length s)=q:=c2S hq;have hn:nth (H2 q (y6 q (Q.take m)).length s)=(y6 q (Q.take m)).length:=b35 hk;have ht:a4f (H2 q (y6 q (Q.take m)).length s)=s:=c0X;have iH:x.2.1++[((q:Int),s,())]=B++(Q.take (m+1)).map a4l:=by
    rw [h.log,dW,List.map_append,List.append_assoc]; rfl
  by_cases e:q=p
  . subst e;have hc:=oG q;rw [dW,a1r] at hc;have h1:y6 q [(q,s)]=[s]:=by simp [y6]
    rw [h1,List.length_append] at hc;simp only [List.length_singleton] at hc;have aP:=h.ok;rw [h.from_] at aP;obtain ⟨g1,g2⟩:=c62 aP (by rw [List.length_drop]; omega) (by rw [List.length_drop]; have:=bT q; omega);have hl:N6 x.2.2.1 (nth (H2 q (y6 q (Q.take m)).length s)+1)=(((((y6 q (Q.take m)).length+1:Nat):Int),((S q).drop (y6 q (Q.take m)).length).drop 1,()),0,()):=by
      rw [h.from_,hn]; exact g1
    rw [a6G hw (by rw [hl]),hl,hw,ht];refine ⟨⟨iH,?_,g2⟩,rfl,rfl⟩;show (((((y6 q (Q.take m)).length+1:Nat):Int),((S q).drop (y6 q (Q.take m)).length).drop 1,()):FrD)=_;rw [dW,a1r,h1,List.length_append,List.drop_drop]; rfl
  . rw [a5x (λ c=>e (by have:=c.1; rw [hw] at this; exact_mod_cast this)),hw,ht];refine ⟨⟨iH,?_,h.ok⟩,rfl,rfl⟩;have h1:y6 p [(q,s)]=[]:=by simp [y6,e]
    rw [dW,a1r,h1,List.append_nil];exact h.from_
theorem b1O {p m:Nat} {x:n9} {l:List C5} (h:b0m B S Q p m x) (hl:∀ i,i<l.length->(I3 Q)[m+i]?=l[i]?) (hq:∀ y∈Q,y.1<=5) (bm:∀ p,y6 p Q <+: S p) (bT:∀ p,(S p).length<=16777215) :
    ∀ {i},i<=l.length->b0m B S Q p (m+i) (I7 p x l i)/\(I7 p x l i).2.2.2=x.2.2.2/\(I7 p x l i).1=x.1
  | 0,_=>⟨h,rfl,rfl⟩
  | i+1,hi=>by
    obtain ⟨g1,g2,g3⟩:=b1O h hl hq bm bT (show i<=l.length by omega);have h1:=hl i (by omega);rw [b2e,List.getElem?_eq_getElem (show i<l.length by omega)] at h1;cases hQ:Q[m+i]? with
    | none=>rw [hQ] at h1; cases h1
    | some y =>
      obtain ⟨q,s⟩:=y;rw [hQ] at h1;have h2:H2 q (y6 q (Q.take (m+i))).length s=l[i]:=by simpa using h1
      have hy:=hq (q,s) (List.mem_of_getElem? hQ);obtain ⟨k1,k2,k3⟩:=b9e (p:=p) g1 hQ hy bm bT;rw [I7,show l.getD i []=H2 q (y6 q (Q.take (m+i))).length s by rw [h2,List.getD_eq_getElem?_getD,List.getElem?_eq_getElem (show i<l.length by omega)]; rfl];exact ⟨k1,k2.trans g2,k3.trans g3⟩
theorem Inv.le5 (h:Inv said B S Q w):∀ y∈Q,y.1<=5:=λ y hy=>by have:=h.inQ y hy; have:=h.M8; omega
theorem Inv.take (h:Inv said B S Q w) {n:y4} {p:Nat} (hp:n.2.2.1=p) (bW:p<w.2.1.length) (hv:a0u w.1.2.1 p=true) (hm:w.2.2.1[n.2.2.2.2.1.toNat]?=some n.2.2.2.2.2.2.1) :
    Inv said B S Q (a0b w n):=by
  by_cases he:(N3 w n).2.2.1≠0
  . rw [a0b,if_pos he]; exact h
  rw [a0b,if_neg he,hp];have ky:N3 w n=C3 (w.2.1.getD p i8).2.2.2.1 (n.2.2.2.2.1,n.2.2.2.2.2.2.1,()):=by rw [N3,hp]; rfl
  rw [ky] at he ⊢;have jY:=Decidable.not_not.1 he;obtain ⟨⟨m,hM⟩,fM⟩:=h.mem p bW hv;rw [h.ord] at hm;obtain ⟨a1,a2,a3,a4,a5,a6⟩:=a0K jY;have fe:=b1K (F:=λ i=>(I3 Q)[i]?) jY hM.wait hm;obtain ⟨r,hr⟩:∃ r,r=C3 (w.2.1.getD p i8).2.2.2.1 (n.2.2.2.2.1,n.2.2.2.2.2.2.1,()):=⟨_,rfl⟩;rw [<- hr] at jY a1 a2 a3 a5 a6 fe ⊢;have ja:=hM.next;have fe:∀ i,i<r.2.1.length->(I3 Q)[m+i]?=r.2.1[i]?:=λ i hi=>by
    have:=fe i hi;rw [ja] at this;exact this
  have hH:b0m B S Q p m (a9w (M0 w (p:Int)) r.1):=⟨hM.log,hM.from_,hM.ok⟩;obtain ⟨k1,k2,k3⟩:=b1O hH fe h.le5 h.b0M h.short (Nat.le_refl _);refine h.D6 (p:=p) (λ _=>?_) (λ _ _=>⟨m+r.2.1.length,?_⟩)
  . rw [k2];exact h.rcv p bW
  . refine ⟨?_,?_,?_,k1.log,k1.from_,k1.ok⟩
    . rcases Nat.eq_zero_or_pos r.2.1.length with h0|h0
      . rw [h0]; exact hM.le
      . have h1:=fe (r.2.1.length - 1) (by omega);rw [List.getElem?_eq_getElem (show r.2.1.length - 1<r.2.1.length by omega)] at h1;have h2:m+(r.2.1.length - 1)<(I3 Q).length:=by
          by_cases h2:m+(r.2.1.length - 1)<(I3 Q).length
          . exact h2
          . rw [List.getElem?_eq_none (by omega)] at h1; cases h1
        rw [c2f] at h2;omega
    . rw [k2];show r.1.1=_;rw [a5,ja]; omega
    . rw [k2];intro x hx;rcases a2 x hx with rfl|hx
      . exact hm
      . exact hM.wait x hx
theorem Inv.c5T (h:Inv said B S Q w) {n:y4} (h0:0<=n.2.2.2.2.1) (hm:a4e S w.2.2.1 n) (ha:r9 w n.2.2.1=true):∃ Q',Inv said B S Q' (E8 w n):=by
  by_cases hk:known w n.2.1≠0
  . exact ⟨Q,by rw [a8a hk]; exact h⟩
  by_cases c1:n.1=1
  . rw [a6P hk c1]; exact h.order hk (hm.1 c1)
  by_cases c3:n.1=3
  . refine ⟨Q,?_⟩;rw [a6Q hk c3]; exact h.b8F (h.asks h0 4)
  by_cases c2:n.1=2
  . refine ⟨Q,?_⟩;rw [a6b hk c2];obtain ⟨p,hp,bW,hv,-⟩:=a1R.1 ha;exact h.take hp bW hv (hm.2 c2)
  . exact ⟨Q,by rw [a6c c1 c3 c2]; exact h⟩
theorem b3S {s:C5} (h:(u7 s).2.1=0):0<=(u7 s).1.2.2.2.2.1/\(u7 s).1.2.2.2.2.1<=16777215:=(a6h (c5q h).1).seq
theorem Inv.c7R (h:Inv said B S Q w) {bB:Int} {s:C5} (hs:a7N S w.2.2.1 w.1.1 s):∃ Q',Inv said B S Q' (a04 w bB s):=by
  by_cases c:bB=1/\(u7 s).2.1=0/\(u7 s).1.2.2.2.1=w.1.1/\r9 w (u7 s).1.2.2.1=true
  . rw [a9G c];exact h.c5T (b3S c.2.1).1 ((hs c.2.1).2 c.2.2.1) c.2.2.2
  . exact ⟨Q,by rw [b1H c]; exact h⟩
theorem Inv.move (h:Inv said B S Q w) (k bB:Int):∃ Q',Inv said B S Q' (H6 w k bB).1:=by
  by_cases c1:G9 bB 1 3=false
  . exact ⟨Q,by rw [b1I c1]; exact h⟩
  by_cases c2:G9 k 0 ((w.2.2.2.1.length:Int) - 1)=false
  . exact ⟨Q,by rw [a9H c1 c2]; exact h⟩
  have hk:=S7.1 (Bool.not_eq_false _▸c2:G9 k 0 ((w.2.2.2.1.length:Int) - 1)=true);by_cases c3:bB=3
  . by_cases c4:(w.2.2.2.1.length:Int)=60
    . exact ⟨Q,by rw [a9I c1 c2 c3 c4]; exact h⟩
    . refine ⟨Q,?_⟩;rw [a9J c1 c2 c3 c4];exact h.copy (by omega) c4
  . rw [a8G c1 c2 c3];refine (h.drop k).c7R ?_;refine h.msg _ ?_;rw [List.getD_eq_getElem?_getD,List.getElem?_eq_getElem (by omega)]; exact List.getElem_mem _
end
end Go.Proofs.YtijlnmgondibnaaGreatDoor
namespace Go.Proofs.YtijlnmgondibnaaGreatDoor
open Go.Ex
set_option maxRecDepth 100000
theorem a8I {x:Int} (h:0<=x/\x<=255) {p:Nat} (hp:p<8):a0u x p=bit x p:=by
  have key:∀ n:Fin 256,∀ i:Fin 8,a0u ((n.val:Nat):Int) i.val=bit ((n.val:Nat):Int) i.val:=by decide +kernel
  have:=key ⟨x.toNat,by omega⟩ ⟨p,hp⟩;simpa [show ((x.toNat:Nat):Int)=x by omega] using this
theorem c5t {k i:Nat} (hk:k<8) (hi:i<8):bit (IntKind.wrap .u8 (1*2^min ((k:Nat):Int).toNat IntKind.u8.bits)) i=decide (i=k):=by
  have key:∀ k:Fin 8,∀ i:Fin 8,bit (IntKind.wrap .u8 (1*2^min ((k.val:Nat):Int).toNat IntKind.u8.bits)) i.val=decide (i.val=k.val):=by decide +kernel
  exact key ⟨k,hk⟩ ⟨i,hi⟩
theorem b3z (i:Nat):bit 0 i=false:=by
  show (0:Nat).testBit i=false;simp
theorem b4f {w:f7} (hv:0<=w.1.2.1/\w.1.2.1<=255):∀ {k:Nat},k<=8->r7 .u8 (D8 w k)/\∀ i,i<8->bit (D8 w k) i=(decide (i<k) && a0u w.1.2.1 i && !r9 w i)
  | 0,_=>⟨u8_in.2 ⟨Int.le_refl 0,by show (0:Int)<=255; decide⟩,λ i _=>by
      show bit 0 i=_;rw [b3z]; simp⟩
  | k+1,hk=>by
    obtain ⟨h1,h2⟩:=b4f hv (show k<=8 by omega);rw [D8,b4g];by_cases a:r9 w k=true
    . rw [if_pos a];refine ⟨h1,λ i hi=>?_⟩;rw [h2 i hi];by_cases e:i=k
      . subst e;rw [a]; simp
      . rw [show decide (i<k+1)=decide (i<k) by by_cases c:i<k<;>simp [c]<;>omega]
    . rw [if_neg a];refine ⟨b8S,λ i hi=>?_⟩;rw [c2l u8s h1 c2w,b7N u8s (u8_in.2 hv) (Q5 _ _),c5t (by omega) hi,h2 i hi,<- a8I hv hi];by_cases e:i=k
      . subst e;have a':r9 w i=false:=by simpa using a
        rw [a']; simp
      . rw [show decide (i<k+1)=decide (i<k) by by_cases c:i<k<;>simp [c]<;>omega];simp [e]
theorem c3p {v:a0Y} {g:Int} (h:¬ (O7 v g 0).2.1≠0):(O7 v g 0).1=(v.1+1,bOr .u8 (U6 .u8 v.2.1 g) 0,())/\v.1<16777215/\0<=v.1:=by
  unfold O7 at h ⊢;by_cases c1:U7 v≠0
  . rw [if_pos c1] at h; exact absurd c1 h
  rw [if_neg c1] at h ⊢;split at h
  . exact absurd (by decide) h
  rename_i c2;rw [if_neg c2];split at h
  . exact absurd (by decide) h
  rename_i c3;rw [if_neg c3];split at h
  . exact absurd (by decide) h
  rename_i c4;rw [if_neg c4];split at h
  . exact absurd (by decide) h
  rename_i c5;rw [if_neg c5];refine ⟨rfl,?_⟩;unfold U7 at c1;split at c1
  . exact absurd (by decide) c1
  . rename_i c6;omega
theorem members {w:f7} (hf:w.2.1.length<=6) (hv:0<=w.1.2.1/\w.1.2.1<=255) (hn:¬ (S5 w).2.1≠0) :
    (G1 w).1.1=w.1.1+1/\(0<=(G1 w).1.2.1/\(G1 w).1.2.1<=255)/\∀ p,p<w.2.1.length->a0u (G1 w).1.2.1 p=r9 w p:=by
  obtain ⟨h1,h2⟩:=c3p hn;have he:(G1 w).1=(w.1.1+1,bOr .u8 (U6 .u8 w.1.2.1 (D8 w w.2.1.length)) 0,()):=h1;obtain ⟨g1,g2⟩:=b4f hv (show w.2.1.length<=8 by omega);rw [he];refine ⟨rfl,u8_in.1 b8S,λ p hp=>?_⟩;have z0:r7 .u8 (0:Int):=u8_in.2 ⟨by decide,by decide⟩;show a0u (bOr .u8 (U6 .u8 w.1.2.1 (D8 w w.2.1.length)) 0) p=r9 w p;rw [a8I (u8_in.1 b8S) (by omega),c2l u8s c2x z0,b96 u8s (u8_in.2 hv) g1,g2 p (by omega),b3z,<- a8I hv (by omega),decide_eq_true hp];cases hm:a0u w.1.2.1 p with
  | true=>simp
  | false =>
    have:r9 w p=false:=by
      cases ha:r9 w p with
      | false=>rfl
      | true=>have:=(a0h.1 ha).2.1; rw [hm] at this; cases this
    rw [this]; rfl
theorem a6B {w:f7}:∀ {k:Nat},G7 w k=[]\/∃ i,i<k/\r9 w i=true/\G7 w k=(w.2.1.getD i i8).2.1
  | 0=>.inl rfl
  | k+1=>by
    rw [G7]
    split
    . rename_i h; exact .inr ⟨k,by omega,h.1,rfl⟩
    . rcases a6B (w:=w) (k:=k) with h|⟨i,h1,h2,h3⟩
      . exact .inl h
      . exact .inr ⟨i,by omega,h2,h3⟩
theorem a7X {f:Nat->n9->n9} {l:List n9} {p:Nat} (hp:p<l.length):(l.mapIdx f).getD p i8=f p (l.getD p i8):=by
  rw [List.getD_eq_getElem?_getD,List.getElem?_mapIdx,List.getD_eq_getElem?_getD,List.getElem?_eq_getElem hp]; rfl
theorem c3M {α:Type} {l:List α} {c:Nat}:l.drop (min c l.length)=l.drop c:=by
  by_cases h:c<=l.length
  . rw [Nat.min_eq_left h]
  . rw [Nat.min_eq_right (by omega),List.drop_length,List.drop_eq_nil_of_le (by omega)]
section
variable {said:Nat->List C5} {B:List B9} {S:Nat->List C5} {Q:List T4} {w:f7}
theorem Inv.long (h:Inv said B S Q w) {p0:Nat} (kH:p0<w.2.1.length) (mO:r9 w p0=true) :
    ∃ m,m<=Q.length/\G7 w w.2.1.length=B++(Q.take m).map a4l/\∀ p,p<w.2.1.length->r9 w p=true->∀ j,b3t said B S Q p (w.2.1.getD p i8) j->j<=m:=by
  rcases a6B (w:=w) (k:=w.2.1.length) with hL|⟨i,hi,rH,hL⟩
  . have hz:∀ p,p<w.2.1.length->r9 w p=true->(w.2.1.getD p i8).2.1=[]:=λ p hp fH=>by
      have:=a5p fH hp;rw [hL] at this;exact List.eq_nil_of_length_eq_zero (by simpa using this)
    obtain ⟨⟨j,hj⟩,-⟩:=h.mem p0 kH (a0h.1 mO).2.1;have h0:=hj.log;rw [hz p0 kH mO] at h0;have hB:B=[]:=(List.append_eq_nil_iff.1 h0.symm).1;refine ⟨0,Nat.zero_le _,by rw [hL,hB]; rfl,λ p hp fH j hj=>?_⟩;have h0:=hj.log;rw [hz p hp fH] at h0;have h1:=(List.append_eq_nil_iff.1 h0.symm).2;have h2:=congrArg List.length h1;rw [List.length_map,List.length_take] at h2;have:=hj.le;simp only [List.length_nil] at h2;omega
  . obtain ⟨⟨m,hm⟩,-⟩:=h.mem i hi (a0h.1 rH).2.1;refine ⟨m,hm.le,by rw [hL,hm.log],λ p hp fH j hj=>?_⟩;have:=a5p fH hp;rw [hL,hm.log,hj.log,List.length_append,List.length_append,List.length_map,List.length_map,List.length_take,List.length_take] at this;have h1:=hj.le;have h2:=hm.le;omega
theorem Inv.change (h:Inv said B S Q w) (hv:0<=w.1.2.1/\w.1.2.1<=255) (hn:¬ (S5 w).2.1≠0) :
    ∃ B' S',Inv said B' S' [] (G1 w)/\(∀ p,p<w.2.1.length->r9 w p=true->(G1 w).2.1.getD p i8=((w.2.1.getD p i8).1,B',(0,S' p,()),(0,[],()),(0,[],()),())) /\
      (∀ p,p<w.2.1.length->(w.2.1.getD p i8).2.1 <+: ((G1 w).2.1.getD p i8).2.1):=by
  obtain ⟨fR,kx,kV⟩:=members h.M8 hv hn;have hlen:(G1 w).2.1.length=w.2.1.length:=List.length_mapIdx ..;have cH:∀ p:Nat,p<w.2.1.length->(G1 w).2.1.getD p i8=Z2 w (G7 w w.2.1.length) p (w.2.1.getD p i8):=λ p hp=>a7X hp;have fN:∀ p:Nat,p<w.2.1.length->r9 w p=false->(G1 w).2.1.getD p i8=((w.2.1.getD p i8).1,(w.2.1.getD p i8).2.1,(w.2.1.getD p i8).2.2.1,(w.2.1.getD p i8).2.2.2.1,(0,[],()),()):=λ p hp ha=>by
    rw [cH p hp,Z2,if_neg (by rw [ha]; decide)]
  have lF:∀ S',∀ s∈w.2.2.2.1,a7N S' [] (w.1.1+1) s:=λ S' s hs e=>by
    have:=(h.msg s hs e).1;exact ⟨by omega,λ e2=>absurd e2 (by omega)⟩
  by_cases hex:∃ p0:Nat,p0<w.2.1.length/\r9 w p0=true
  . obtain ⟨p0,kH,mO⟩:=hex;obtain ⟨m,sL,hL,iL⟩:=h.long kH mO;rw [hL] at cH;obtain ⟨S',gV⟩:∃ S':Nat->List C5,S'=λ p=>if p<w.2.1.length/\r9 w p=true then (S p).drop (y6 p (Q.take m)).length else []:=⟨_,rfl⟩
    have fA:∀ p:Nat,p<w.2.1.length->r9 w p=true->S' p=(S p).drop (y6 p (Q.take m)).length:=λ p hp ha=>by rw [gV]; exact if_pos ⟨hp,ha⟩
    have ew:∀ p:Nat,r9 w p=false->S' p=[]:=λ p ha=>by rw [gV]; exact if_neg (λ c=>by rw [c.2] at ha; cases ha)
    have iu:∀ p:Nat,p<w.2.1.length->r9 w p=true->(G1 w).2.1.getD p i8=((w.2.1.getD p i8).1,B++(Q.take m).map a4l,(0,S' p,()),(0,[],()),(0,[],()),()):=λ p hp ha=>by
      obtain ⟨⟨j,hj⟩,-⟩:=h.mem p hp (a0h.1 ha).2.1;have iL:=iL p hp ha j hj;rw [cH p hp,Z2,if_pos ha,c3M,hj.from_];simp only;have hd:(B++(Q.take m).map a4l).drop (w.2.1.getD p i8).2.1.length=((Q.take m).drop j).map a4l:=by
        rw [hj.log,List.length_append,List.length_map,List.length_take,Nat.min_eq_left hj.le,<- List.drop_drop,List.drop_left,List.map_drop]
      rw [hd,a91,a7B,List.drop_drop,fA p hp ha];have hJ:y6 p (Q.take m)=y6 p (Q.take j)++y6 p ((Q.take m).drop j):=by
        rw [<- a1r];congr 1;rw [show Q.take j=(Q.take m).take j by rw [List.take_take,Nat.min_eq_left iL],List.take_append_drop]
      rw [hJ,List.length_append]
    refine ⟨B++(Q.take m).map a4l,S',?_,iu,λ p hp=>?_⟩
    . refine ⟨by rw [hlen]; exact h.M8,h.way,rfl,λ x hx=>(by cases hx),λ p=>List.nil_prefix,λ p=>?_,λ s hs=>?_,λ p hp=>?_,λ p hp hm=>?_,λ p hp hm=>?_⟩
      . rw [gV];dsimp only
        split
        . rw [List.length_drop]; have:=h.short p; omega
        . exact Nat.zero_le _
      . rw [fR]; exact lF S' s hs
      . rw [hlen] at hp;cases ha:r9 w p with
        | true=>rw [iu p hp ha]; exact ⟨rfl,λ q hq=>by cases hq⟩
        | false=>rw [fN p hp ha]; exact ⟨rfl,λ q hq=>by cases hq⟩
      . rw [hlen] at hp;rw [kV p hp] at hm;rw [iu p hp hm];obtain ⟨⟨j,hj⟩,fM⟩:=h.mem p hp (a0h.1 hm).2.1;have aP:=hj.ok;rw [hj.from_] at aP;have lu:=a0e aP;have iL:=iL p hp hm j hj;have bV:S' p=((S p).drop (y6 p (Q.take j)).length).drop ((y6 p (Q.take m)).length - (y6 p (Q.take j)).length):=by
          rw [fA p hp hm,List.drop_drop];congr 1;have:(y6 p (Q.take j)).length<=(y6 p (Q.take m)).length:=by
            have:=(a1d (p:=p) (Q:=Q.take m) (i:=j)).length_le;rw [List.take_take,Nat.min_eq_left iL] at this;exact this
          omega
        refine ⟨⟨0,Nat.zero_le _,rfl,λ q hq=>(by cases hq),by simp,by simp [y6],?_⟩,?_⟩
        . refine b4i ⟨by decide,by decide⟩ ?_ ?_
          . rw [bV,List.length_drop]; have:=lu.2.1; simp only at this; omega
          . rw [bV]; exact b40 lu.2.2
        . rw [fM,b0P,a7B,fA p hp hm,List.append_assoc];congr 1;have bm:=(a1d (p:=p) (Q:=Q) (i:=m)).trans (h.b0M p)
          conv=>lhs; rw [<- List.take_append_drop (y6 p (Q.take m)).length (S p)]
          rw [<- List.prefix_iff_eq_take.1 bm]
      . rw [hlen] at hp;rw [kV p hp] at hm;refine ⟨ew p hm,?_⟩;rw [b0P,a7B];have bm:=(a1d (p:=p) (Q:=Q) (i:=m)).trans (h.b0M p);cases gr:a0u w.1.2.1 p with
        | true =>
          rw [(h.mem p hp gr).2];exact (List.prefix_append_right_inj _).2 bm
        | false =>
          obtain ⟨e1,e2⟩:=h.out p hp gr;rw [e1] at bm;rw [List.prefix_nil.1 bm,List.append_nil];exact e2
    . cases ha:r9 w p with
      | true =>
        rw [iu p hp ha];obtain ⟨⟨j,hj⟩,-⟩:=h.mem p hp (a0h.1 ha).2.1;have iL:=iL p hp ha j hj;rw [hj.log];refine (List.prefix_append_right_inj _).2 (List.IsPrefix.map a4l ?_);rw [show Q.take j=(Q.take m).take j by rw [List.take_take,Nat.min_eq_left iL]];exact List.take_prefix ..
      | false=>rw [fN p hp ha]; exact List.prefix_rfl
  . have bL:∀ p:Nat,p<w.2.1.length->r9 w p=false:=λ p hp=>by
      cases ha:r9 w p with
      | false=>rfl
      | true=>exact absurd ⟨p,hp,ha⟩ hex
    refine ⟨[],λ _=>[],?_,λ p hp ha=>(by rw [bL p hp] at ha; cases ha),λ p hp=>by rw [fN p hp (bL p hp)]; exact List.prefix_rfl⟩;refine ⟨by rw [hlen]; exact h.M8,h.way,rfl,λ x hx=>(by cases hx),λ p=>List.nil_prefix,λ p=>Nat.zero_le _,λ s hs=>?_,λ p hp=>?_,λ p hp hm=>?_,λ p hp hm=>⟨rfl,List.nil_prefix⟩⟩
    . rw [fR]; exact lF _ s hs
    . rw [hlen] at hp;rw [fN p hp (bL p hp)]; exact ⟨rfl,λ q hq=>by cases hq⟩
    . rw [hlen] at hp;rw [kV p hp,bL p hp] at hm; cases hm
end
end Go.Proofs.YtijlnmgondibnaaGreatDoor
namespace Go.Proofs.YtijlnmgondibnaaGreatDoor
open Go.Ex
set_option maxRecDepth 100000
attribute [local irreducible] Go.Ex.exec
section
variable {H:Array Go.Obj} {S:Nat->Prop} {O:List Nat} {cs:List Value}
theorem b3Q {α β:Type} {R:List Nat->List Value->α->Prop} {R':List Nat->List Value->β->Prop} {sz:Nat} {f:α->β} (hr:∀ O cs x,R O cs x->R' O cs (f x)):∀ {l:List α} {O:List Nat} {cs:List Value},i7 R sz O cs l->i7 R' sz O cs (l.map f)
  | [],_,_,h=>h
  | _::_,_,_,⟨O1,O2,e,h1,h2⟩=>⟨O1,O2,e,hr _ _ _ h1,b3Q hr h2⟩
theorem c6P {l:List n9} (h:f8 H S (.d0 true a2r) O cs l):f8 H S (.d0 true W2) O cs (l.map toM):=by
  have e:(l.map toM).length=l.length:=List.length_map ..;rcases h with ⟨a,b,c⟩|⟨b,off,cap,O',h1,h2,h3,h4,h5,h6⟩
  . exact .inl ⟨a,b,by rw [c]; rfl⟩
  . refine .inr ⟨b,off,cap,O',?_,?_,h3,?_,?_,h6⟩
    . rw [h1]; exact congrArg (λ n:Nat=>[Value.slice (some ⟨b,off,none⟩) n cap]) e.symm
    . exact Nat.le_trans (Nat.le_of_eq e) h2
    . exact Nat.le_trans (Nat.le_of_eq (congrArg (λ n:Nat=>off+n*W2.size) e)) h4
    . have:=b3Q (R':=f8 H S W2) (f:=toM) (λ _ _ _ h=>h) h5;have e2:d9 H b off (List.length (l.map toM)*W2.size)=d9 H b off (List.length l*a2r.size):=congrArg (λ n:Nat=>d9 H b off (n*W2.size)) e;show i7 (f8 H S W2) W2.size O' (d9 H b off (List.length (l.map toM)*W2.size)) (l.map toM);rw [e2];exact this
theorem c3b {l:List n9} (h:f8 H S (.d0 true W2) O cs (l.map toM)):f8 H S (.d0 true a2r) O cs l:=by
  have e:(l.map toM).length=l.length:=List.length_map ..;rcases h with ⟨a,b,c⟩|⟨b,off,cap,O',h1,h2,h3,h4,h5,h6⟩
  . exact .inl ⟨a,b,List.map_eq_nil_iff.1 c⟩
  . refine .inr ⟨b,off,cap,O',?_,?_,h3,?_,?_,h6⟩
    . rw [h1]; exact congrArg (λ n:Nat=>[Value.slice (some ⟨b,off,none⟩) n cap]) e
    . exact Nat.le_trans (Nat.le_of_eq e.symm) h2
    . exact Nat.le_trans (Nat.le_of_eq (congrArg (λ n:Nat=>off+n*W2.size) e.symm)) h4
    . have e2:d9 H b off (List.length (l.map toM)*W2.size)=d9 H b off (List.length l*a2r.size):=congrArg (λ n:Nat=>d9 H b off (n*W2.size)) e;have h5:i7 (f8 H S W2) W2.size O' (d9 H b off (List.length (l.map toM)*W2.size)) (l.map toM):=h5;rw [e2] at h5;exact i7.c60 (R:=f8 H S a2r) (f:=toM) (λ _ _ _ h=>h) h5
theorem c5m {w:f7} (h:f8 H S u3 O cs w):f8 H S X2 O cs (a0s w):=by
  obtain ⟨v,al,r⟩:=w;obtain ⟨P1,P2,e,r1,P3,P4,e',r2,r3⟩:=h;exact ⟨P1,P2,e,r1,P3,P4,e',c6P r2,r3⟩
theorem c1i {w:f7} (h:f8 H S X2 O cs (a0s w)):f8 H S u3 O cs w:=by
  obtain ⟨v,al,r⟩:=w;obtain ⟨P1,P2,e,r1,P3,P4,e',r2,r3⟩:=h;exact ⟨P1,P2,e,r1,P3,P4,e',c3b r2,r3⟩
end
def b4O:p9:={ ps:=[.rw u3],rs:=[e8],pre:=λ x=>a0S x.1,fn:=λ x=>((P8 x.1).2,()),out:=λ x=>((P8 x.1).1,()) }
theorem a98 {w:f7} (h:(S5 w).2.1≠0):P8 w=(w,(S5 w).2.1):=by rw [P8]; exact if_pos h
theorem a8h {w:f7} (h:¬ (S5 w).2.1≠0):P8 w=(G1 w,0):=by rw [P8]; exact if_neg h
attribute [local irreducible] P8 G1 S5 in
theorem b1a:b4O.Valid Tryz.prog 25:=by
  refine ⟨a6f.ent,?_,λ h=>by cases h⟩;rintro w S vs ⟨(x:f7),⟨⟩⟩ L hS dk (bm:a0S x) ⟨v,us,L1,L2,rfl,rfl,⟨b,off,O,rfl,hr,hf,rfl⟩,rfl,rfl⟩ - aI hL;by_cases hn:(S5 x).2.1≠0
  . have hs:f8 w.heap (λ c=>S c\/c∈b::O) K7 [] (d9 w.heap b off u3.size) x:=hr.a1y (S':=λ c=>S c\/c∈b::O) (λ c h=>.inr (List.mem_cons_of_mem _ h)) (λ c h=>.inl h) rfl;refine (b1b.run w (λ c=>S c\/c∈b::O) [.pointer (some ⟨b,off,none⟩)] (x,()) [] ?_ (dk.sub (λ c h=>.inl h)) ⟨bm.M8,hn⟩ ⟨_,[],[],[],rfl,rfl,⟨rfl,b,off,rfl,.inr List.mem_cons_self,?_,hs⟩,rfl,rfl⟩ trivial List.nodup_nil (by simp)).mono ?_
    . rintro c (h|h)
      . exact hS c h
      . exact (hL c (by simpa using h)).2
    . exact L8.s9 hf
    rintro e w' ⟨us,O2,Lo,S',e1,hp,s1,s2,h1,h2,cN,eL⟩;obtain ⟨v1,us1,P1,P2,cs,rfl,rfl,rfl,⟨rfl,rfl,hk⟩,rfl,rfl⟩:=h1;have dw:∀ c,c<w.heap.size->w'.heap[c]?=w.heap[c]?:=λ c hc=>hp.frame c hc (by simp);have dD:∀ c∈b::O,¬ S c/\c<w.heap.size:=λ c hc=>hL c (by simpa using hc);have hb:=dw b (dD b List.mem_cons_self).2;have fx:=a98 hn;refine ⟨[_],[],b::O,S,e1,⟨hp.os,hp.tape,hp.out,hp.size,λ c hc hn=>dw c hc⟩,λ _ h=>h,λ c h=>.inl h,⟨_,[],[],[],_,rfl,rfl,rfl,⟨rfl,?_,?_⟩,rfl,rfl⟩,⟨b,off,O,[],[],rfl,?_,?_,by simp,rfl,rfl⟩,?_,?_⟩
    . show [Value.int .i64 _]=[Value.int .i64 (P8 x).2];rw [fx]; rfl
    . show r7 .i64 (P8 x).2;rw [fx]; exact hk
    . show f8 w'.heap S u3 O (d9 w'.heap b off u3.size) (P8 x).1;rw [fx,l4 hb];exact hr.r8 (λ c hc=>dw c (hc.elim (λ h=>(dD c (List.mem_cons_of_mem _ h)).2) (hS c))) (λ _ h=>h)
    . exact L8.r8 hb hf
    . simpa using aI
    . intro c hc;have hc:c∈b::O:=by simpa using hc
      exact ⟨(dD c hc).1,.inr (by simpa using hc),Nat.lt_of_lt_of_le (dD c hc).2 hp.size⟩
  . have fx:=a8h hn;have mJ:=c3H x;refine (a6f.run w S [.pointer (some ⟨b,off,none⟩)] (a0s x,()) (b::O++[]) hS dk ⟨?_,?_,?_⟩ ⟨_,[],b::O,[],rfl,rfl,⟨b,off,O,rfl,c5m hr,hf,rfl⟩,rfl,rfl⟩ trivial aI hL).mono ?_
    . show a0s x=a0s (a0B (a0s x)); rw [mJ]
    . show a0S (a0B (a0s x)); rw [mJ]; exact bm
    . show ¬ (S5 (a0B (a0s x))).2.1≠0; rw [mJ]; exact hn
    rintro e w' ⟨us,O2,Lo,S',e1,hp,s1,s2,h1,h2,h3,h4⟩;refine ⟨us,O2,Lo,S',e1,hp,s1,s2,?_,?_,h3,h4⟩
    . have h1:J1 w'.heap S' [e8] O2 us ((0:Int),()):=h1;show J1 w'.heap S' [e8] O2 us ((P8 x).2,());rw [fx]; exact h1
    . obtain ⟨b',aq,O',us',L',e',jC,oz,e2,h'⟩:=h2;refine ⟨b',aq,O',us',L',e',?_,oz,e2,h'⟩;have jC:f8 w'.heap S' X2 O' (d9 w'.heap b' aq X2.size) (a0s (G1 (a0B (a0s x)))):=jC;show f8 w'.heap S' u3 O' (d9 w'.heap b' aq u3.size) (P8 x).1;rw [fx];rw [mJ] at jC;exact c1i jC
end Go.Proofs.YtijlnmgondibnaaGreatDoor
namespace Go.Proofs.YtijlnmgondibnaaGreatDoor
open Go.Ex
set_option maxRecDepth 100000
attribute [local irreducible] Go.Ex.exec
abbrev b56:=Int×Int×Int×Unit
abbrev Event:Ty:=.pair e8 (.pair e8 (.pair e8 .unit))
abbrev a2T:=List UInt8
def b9X:p9:={ ps:=[.v e8,.v e8,.v e8],rs:=[.bool],pre:=λ _=>True,fn:=λ x=>(W4 x.1 x.2.1 x.2.2.1,()),out:=λ _=>() }
noncomputable def c0R:Env:={ P:=Tryz.prog,tt:=tt,C0:=[],res:=[Go.ResultVar.tmp 6],rs:=[Ty.bool],ps:=[PK.v e8,PK.v e8,PK.v e8],y5:=[],nt:=15 }
theorem b54:u6 c0R:=w9 q9 trivial
theorem b5s:y7 c0R Tryz.f92:=⟨rfl,rfl⟩
theorem c6D (x0:Int) (x1:Int) (x2:Int):exec c0R 1000 [.code (d8 Tryz.prog 92)] (s5 b9X.ps ((x0,x1,x2,()))) =
  cond (decide (x1<=x0)) (.ret ((decide (x0<=x2),()))) (.ret ((false,()))):=by kernel_rfl
theorem b6P:b9X.Valid Tryz.prog 92:=by
  refine p9.o5 b54 rfl rfl Tryz.func92 (c:=d8 Tryz.prog 92) rfl rfl b5s rfl ?_;rintro ⟨(a:Int),(b:Int),(c:Int),⟨⟩⟩ - -
  refine j5 (n:=1000) b54 b5s ?_;refine g9 (c6D a b c) ?_;simp only [j6,Tree.holds,true_and,true_implies,decide_eq_true_eq,decide_eq_false_iff_not,Bool.not_eq_true',Bool.not_eq_false',Int.toNat_natCast,j7,List.length_set,List.length_cons,List.length_nil]
  repeat' first|exact trivial|(refine And.intro ?_ ?_)|(intro _)
  all_goals (show ((_,()):Bool×Unit)=(W4 a b c,()); simp [W4, *])
def b9v:p9:={ ps:=[.v (.d0 false .str),.v .str],rs:=[e8],pre:=λ _=>True,fn:=λ x=>(idxOf (λ y=>decide ((show (List UInt8) from x.2.1)=y)) x.1,()),out:=λ _=>() }
noncomputable def b3u:Env:={ P:=Tryz.prog,tt:=tt,C0:=[],res:=[Go.ResultVar.tmp 4],rs:=[Ty.int IntKind.i64],ps:=[PK.v (Ty.d0 false Ty.str),PK.v Ty.str],y5:=[(2,[(0,none),(1,none),(7,none),(8,none)])],nt:=19 }
theorem a9a:u6 b3u:=w9 q9 trivial
theorem a83:y7 b3u Tryz.f90:=⟨rfl,rfl⟩
theorem c6g (x0:List (List UInt8)) (x1:List UInt8):exec b3u 1000 [.code (d8 Tryz.prog 90)] (s5 b9v.ps ((x0,x1,()))) =
  .ctL (f9 (d8 Tryz.prog 90) 2) (St.mk [(0,AV.val (Ty.d0 false Ty.str) x0),(1,AV.val Ty.str x1),(7,AV.val e8 (↑(List.length x0):Int)),(8,AV.val e8 (0:Int))] []):=by kernel_rfl
def b5v (v0:List (List UInt8)) (v1:List UInt8) (v7:Int) (v8:Int):St:=St.mk [(0,AV.val (Ty.d0 false Ty.str) v0),(1,AV.val Ty.str v1),(7,AV.val e8 v7),(8,AV.val e8 v8)] []
theorem c4k (v0:List (List UInt8)) (v1:List UInt8) (v7:Int) (v8:Int):exec b3u 1000 (.code (f9 (d8 Tryz.prog 90) 2).1::.inLoop (f9 (d8 Tryz.prog 90) 2).1::(f9 (d8 Tryz.prog 90) 2).2) (b5v v0 v1 v7 v8) =
  cond (decide (v8<v7)) (.f6 ((0:Int)<=v8/\v8<(↑(List.length v0):Int)) (cond (decide (v1=List.getD v0 (Int.toNat v8) [])) (.ret ((v8,()))) (.f6 (r7 IntKind.i64 (v8+(1:Int))) (.ctL (f9 (d8 Tryz.prog 90) 2) (St.mk [(0,AV.val (Ty.d0 false Ty.str) v0),(1,AV.val Ty.str v1),(7,AV.val e8 v7),(8,AV.val e8 (v8+(1:Int)))] []))))) (.ret (((-1:Int),()))):=by kernel_rfl
theorem b6w:b9v.Valid Tryz.prog 90:=by
  refine p9.o5 a9a rfl rfl Tryz.func90 (c:=d8 Tryz.prog 90) rfl rfl a83 rfl ?_;rintro ⟨(l:List ((List UInt8))),(x:(List UInt8)),⟨⟩⟩ - ⟨⟨hl,-⟩,-⟩;have hl:l.length<=9223372036854775807:=hl;refine j5 (n:=1000) a9a a83 ?_;refine g9 (c6g l x) ?_;refine Reach.K3 a9a a83 (λ i:Nat=>b5v l x (l.length:Int) (i:Int) ) (λ i=>i<=l.length/\idxOf (λ y=>decide (x=y)) l=S8 (λ y=>decide (x=y)) (l.drop i) i)
    (λ i=>l.length - i) 1000 (λ _=>⟨s7 rfl,s7 rfl⟩) ?_ 0 ⟨by omega,rfl⟩
  rintro i ⟨k1,k2⟩ - ih;refine g9 (c4k ..) ?_;simp only [j6,Tree.holds,true_and,true_implies,decide_eq_true_eq,decide_eq_false_iff_not,Bool.not_eq_true',Bool.not_eq_false',Int.toNat_natCast,j7,List.length_set,List.length_cons,List.length_nil];refine ⟨λ h=>?_,λ h=>?_⟩
  . rw [a6M (show i<l.length by omega) [],S8] at k2;have key:∀ b:Bool,(b=true↔x=l.getD i [])->(b=true->(((i:Int),()):Int×Unit)=(idxOf (λ y=>decide (x=y)) l,()))/\(b=false->idxOf (λ y=>decide (x=y)) l=S8 (λ y=>decide (x=y)) (l.drop (i+1)) (i+1)):=λ b hb=>by
      refine ⟨λ c=>?_,λ c=>?_⟩
      . rw [k2,if_pos (decide_eq_true (hb.1 c))]
      . rw [k2,if_neg (λ h9=>by rw [hb.2 (of_decide_eq_true h9)] at c; cases c)]
    refine ⟨by omega,λ _=>⟨λ c=>?_,λ c=>⟨by omega,λ _=>ih (i+1) ⟨by omega,?_⟩ (by omega)⟩⟩⟩
    . exact (key true ⟨λ _=>c,λ _=>rfl⟩).1 rfl
    . exact (key false ⟨λ h9=>(by cases h9),λ h9=>(c h9).elim⟩).2 rfl
  . rw [List.drop_eq_nil_of_le (by omega)] at k2;show (((-1:Int),()):Int×Unit)=(idxOf (λ y=>decide (x=y)) l,());rw [k2]; rfl
def I9 (n:Int):Int:=min (max n (-1000000000)) 1000000000
theorem c2a (n:Int):(if 1000000000<(if n < -1000000000 then -1000000000 else n) then 1000000000 else (if n < -1000000000 then -1000000000 else n))=I9 n:=by
  unfold I9; split<;>split<;>omega
theorem c3X (n:Int):-1000000000<=I9 n/\I9 n<=1000000000:=by unfold I9; omega
def b4N:p9:={ ps:=[.v e8],rs:=[e8],pre:=λ _=>True,fn:=λ x=>(I9 x.1,()),out:=λ _=>() }
noncomputable def b53:Env:={ P:=Tryz.prog,tt:=tt,C0:=[],res:=[Go.ResultVar.tmp 2],rs:=[Ty.int IntKind.i64],ps:=[PK.v e8],y5:=[],nt:=6 }
theorem b2O:u6 b53:=w9 q9 trivial
theorem b2B:y7 b53 Tryz.f93:=⟨rfl,rfl⟩
theorem c4J (x0:Int):exec b53 1000 [.code (d8 Tryz.prog 93)] (s5 b4N.ps ((x0,()))) =
  .ret ((if (1000000000:Int)<if x0<(-1000000000:Int) then (-1000000000:Int) else x0 then (1000000000:Int) else if x0<(-1000000000:Int) then (-1000000000:Int) else x0,())):=by kernel_rfl
theorem b4M:b4N.Valid Tryz.prog 93:=by
  refine p9.o5 b2O rfl rfl Tryz.func93 (c:=d8 Tryz.prog 93) rfl rfl b2B rfl ?_;rintro ⟨(n:Int),⟨⟩⟩ - -
  refine j5 (n:=1000) b2O b2B ?_;refine g9 (c4J n) ?_;show ((_,()):Int×Unit)=(I9 n,());rw [<- c2a]
abbrev E3:List UInt8:=[32]
abbrev a1G:List (List UInt8):=[[115,101,116],[97,100,100],[109,111,115,116],[99,111,112,121]]
def b0W (n:Int):Int:=min (max n (-4000000000)) 4000000000
theorem c5Q (n:Int):(if 4000000000<(if n < -4000000000 then -4000000000 else n) then 4000000000 else (if n < -4000000000 then -4000000000 else n))=b0W n:=by
  unfold b0W; split<;>split<;>omega
def b0F (v:List Int) (c:b56):List Int :=
  if c.1=1 then v.set c.2.1.toNat (I9 c.2.2.1)
  else if c.1=2 then v.set c.2.1.toNat (I9 (b0W (v.getD c.2.1.toNat 0)+I9 c.2.2.1))
  else if c.1=3 then v.set c.2.1.toNat (max (v.getD c.2.1.toNat 0) (I9 c.2.2.1))
  else if c.1=4 then v.set c.2.1.toNat (v.getD c.2.2.1.toNat 0)
  else v
def c3U:p9:={ ps:=[.rw a0R,.v Event],rs:=[],pre:=λ x=>(LE.le (α:=Int) 0 x.2.1.2.1/\LT.lt (α:=Int) x.2.1.2.1 10)/\(x.2.1.1=(4:Int)->LE.le (α:=Int) 0 x.2.1.2.2.1/\LT.lt (α:=Int) x.2.1.2.2.1 10),fn:=λ _=>(),out:=λ x=>(b0F x.1 x.2.1,()) }
noncomputable def c4m:Env:={ P:=Tryz.prog,tt:=tt,C0:=[(93,b4N)],res:=[],rs:=[],ps:=[PK.rw a0R,PK.v (Ty.pair e8 c5b)],y5:=[],nt:=54 }
theorem b77:u6 c4m:=w9 q9 ⟨b4M,trivial⟩
theorem b7X:y7 c4m Tryz.f74:=⟨rfl,rfl⟩
theorem c7w (x0:List Int) (bu:Int) (aC:Int) (aB:Int):exec c4m 1000 [.code (d8 Tryz.prog 74)] (s5 c3U.ps ((x0,(bu,aC,aB,()),()))) =
  .f6 ((0:Int)<=aC/\aC<(↑10:Int)) (cond (decide (bu=(1:Int))) (.f6 (True) (.ret ((List.set x0 (Int.toNat aC) (I9 aB),())))) (cond (decide (bu=(2:Int))) (.f6 (True) (.f6 (r7 IntKind.i64 ((if (4000000000:Int)<if List.getD x0 (Int.toNat aC) (0:Int)<(-4000000000:Int) then (-4000000000:Int) else List.getD x0 (Int.toNat aC) (0:Int) then (4000000000:Int) else if List.getD x0 (Int.toNat aC) (0:Int)<(-4000000000:Int) then (-4000000000:Int) else List.getD x0 (Int.toNat aC) (0:Int))+I9 aB)) (.f6 (True) (.ret ((List.set x0 (Int.toNat aC) (I9 ((if (4000000000:Int)<if List.getD x0 (Int.toNat aC) (0:Int)<(-4000000000:Int) then (-4000000000:Int) else List.getD x0 (Int.toNat aC) (0:Int) then (4000000000:Int) else if List.getD x0 (Int.toNat aC) (0:Int)<(-4000000000:Int) then (-4000000000:Int) else List.getD x0 (Int.toNat aC) (0:Int))+I9 aB)),())))))) (cond (decide (bu=(3:Int))) (.f6 (True) (.ret ((List.set x0 (Int.toNat aC) (if List.getD x0 (Int.toNat aC) (0:Int)<I9 aB then I9 aB else List.getD x0 (Int.toNat aC) (0:Int)),())))) (cond (decide (bu=(4:Int))) (.f6 ((0:Int)<=aB/\aB<(↑10:Int)) (.ret ((List.set x0 (Int.toNat aC) (List.getD x0 (Int.toNat aB) (0:Int)),())))) (.ret ((x0,()))))))):=by kernel_rfl
theorem b9y:c3U.Valid Tryz.prog 74:=by
  refine p9.o5 b77 rfl rfl Tryz.func74 (c:=d8 Tryz.prog 74) rfl rfl b7X rfl ?_;rintro ⟨(v:List Int),⟨(k:Int),(i:Int),(n:Int),⟨⟩⟩,⟨⟩⟩ ⟨⟨(h1:0<=i),(h2:i<10)⟩,(h3:k=4->0<=n/\n<10)⟩ -
  refine j5 (n:=1000) b77 b7X ?_;refine g9 (c7w v k i n) ?_;have hd:b0F v (k,i,n,())=if k=1 then v.set i.toNat (I9 n) else if k=2 then v.set i.toNat (I9 (b0W (v.getD i.toNat 0)+I9 n)) else if k=3 then v.set i.toNat (max (v.getD i.toNat 0) (I9 n)) else if k=4 then v.set i.toNat (v.getD n.toNat 0) else v:=rfl
  have hg:∀ x:Int,r7 .i64 (b0W x+I9 n):=λ x=>by have:=c3X n; exact j7.2 (by unfold b0W; omega)
  have fin:∀ y:List Int,y=b0F v (k,i,n,())->((y,()):List Int×Unit)=(b0F v (k,i,n,()),()):=λ y e=>by rw [e]
  simp only [j6,Tree.holds,true_and,true_implies,decide_eq_true_eq,decide_eq_false_iff_not,Bool.not_eq_true',Bool.not_eq_false',Int.toNat_natCast,j7,List.length_set,List.length_cons,List.length_nil,c5Q];refine ⟨⟨h1,by omega⟩,λ _=>⟨λ e=>fin _ (by rw [hd,if_pos e]),λ e=>⟨λ e2=>⟨hg _,λ _=>fin _ (by rw [hd,if_neg e,if_pos e2])⟩,λ e2=>⟨λ e3=>fin _ ?_,λ e3=>⟨λ e4=>⟨by have:=h3 e4; omega,λ _=>fin _ (by rw [hd,if_neg e,if_neg e2,if_neg e3,if_pos e4])⟩,λ e4=>fin _ (by rw [hd,if_neg e,if_neg e2,if_neg e3,if_neg e4])⟩⟩⟩⟩⟩;rw [hd,if_neg e,if_neg e2,if_pos e3];refine congrArg (List.set v i.toNat) ?_;show (if v.getD i.toNat 0<I9 n then I9 n else v.getD i.toNat 0:Int)=max (v.getD i.toNat 0) (I9 n);rw [Int.max_def]
  split<;>split<;>omega
def kindOf (s:a2T):Int:=idxOf (λ y=>decide (s=y)) a1G+1
def a9C (l:List a2T):b56×Int :=
  if (l.length:Int)≠3 then ((0,0,0,()),12)
  else if kindOf (l.getD 0 [])=0 then ((0,0,0,()),12)
  else if (I5 (l.getD 1 [])).2=false then ((0,0,0,()),12)
  else if (I5 (l.getD 2 [])).2=false then ((0,0,0,()),12)
  else if W4 (I5 (l.getD 1 [])).1 0 9=false then ((0,0,0,()),1)
  else if kindOf (l.getD 0 [])=4/\W4 (I5 (l.getD 2 [])).1 0 9=false then ((0,0,0,()),1)
  else ((kindOf (l.getD 0 []),(I5 (l.getD 1 [])).1,(I5 (l.getD 2 [])).1,()),0)
def O6 (s:a2T):b56×Int:=a9C (Lib.split s E3)
def c33:p9:={ ps:=[.v .str],rs:=[Event,e8],pre:=λ x=>List.length (α:=UInt8) x.1<=4294967280,fn:=λ x=>((O6 x.1).1,(O6 x.1).2,()),out:=λ _=>() }
theorem a9t (p:List UInt8):∀ (k:Nat) (s:List UInt8),∀ x∈Lib.splitK p 0 k s,x.length<=s.length
  | 0,s,x,hx=>by
    have hx:x∈[s]:=hx;rw [List.mem_singleton] at hx; rw [hx]; exact Nat.le_refl _
  | k+1,s,x,hx=>by
    unfold Lib.splitK at hx;split at hx
    . rw [List.mem_singleton] at hx; rw [hx]; exact Nat.le_refl _
    . rcases List.mem_cons.1 hx with rfl|hx
      . rw [List.length_take]; omega
      . have:=a9t p k _ x hx;rw [List.length_drop] at this; omega
theorem b1C {s p:List UInt8} {i:Nat}:((Lib.split s p).getD i []).length<=s.length:=by
  by_cases h:i<(Lib.split s p).length
  . refine a9t p (Lib.count s p) s _ ?_;rw [List.getD_eq_getElem?_getD,List.getElem?_eq_getElem h];exact List.getElem_mem h
  . rw [List.getD_eq_getElem?_getD,List.getElem?_eq_none (by omega)]; simp
theorem c41 {α:Type} {p:α->Bool}:∀ {l:List α} {i:Nat},-1<=S8 p l i/\S8 p l i<=(i+l.length:Nat)
  | [],i=>by simp only [S8]; omega
  | x::l,i=>by
    rw [S8]
    split
    . omega
    . have:=c41 (p:=p) (l:=l) (i:=i+1);rw [List.length_cons]; omega
theorem c1E (s:a2T):0<=kindOf s/\kindOf s<=5:=by
  have:=c41 (p:=λ y=>decide (s=y)) (l:=a1G) (i:=0);simp only [kindOf,idxOf];have e:a1G.length=4:=rfl;rw [e] at this;omega
noncomputable def c0Q:Env:={ P:=Tryz.prog,tt:=tt,C0:=[(89,c1Y),(90,b9v),(91,b7K),(92,b9X)],res:=[Go.ResultVar.cell 2 126,Go.ResultVar.tmp 3],rs:=[Ty.pair e8 c5b,Ty.int IntKind.i64],ps:=[PK.v Ty.str],y5:=[],nt:=66 }
theorem b52:u6 c0Q:=w9 q9 ⟨b4w,b6w,b28,b6P,trivial⟩
theorem b5r:y7 c0Q Tryz.f73:=⟨rfl,rfl⟩
theorem c6C (x0:List UInt8):exec c0Q 1000 [.code (d8 Tryz.prog 73)] (s5 c33.ps ((x0,()))) =
  .f6 (List.length x0<=4294967280/\1<=List.length E3) (cond (decide ((↑(List.length (Go.Lib.split x0 E3)):Int)≠(3:Int))) (.ret ((((0:Int),(0:Int),(0:Int),()),(12:Int),()))) (.f6 ((0:Int)<=(0:Int)/\(0:Int)<(↑(List.length (Go.Lib.split x0 E3)):Int)) (.f6 (True) (.f6 (r7 IntKind.i64 (idxOf (λ y=>decide (List.getD (Go.Lib.split x0 E3) (Int.toNat (0:Int)) []=y)) a1G+(1:Int))) (.f6 ((0:Int)<=(1:Int)/\(1:Int)<(↑(List.length (Go.Lib.split x0 E3)):Int)) (.f6 (List.length (List.getD (Go.Lib.split x0 E3) (Int.toNat (1:Int)) [])<=4294967280) (.f6 ((0:Int)<=(2:Int)/\(2:Int)<(↑(List.length (Go.Lib.split x0 E3)):Int)) (.f6 (List.length (List.getD (Go.Lib.split x0 E3) (Int.toNat (2:Int)) [])<=4294967280) (cond (decide (idxOf (λ y=>decide (List.getD (Go.Lib.split x0 E3) (Int.toNat (0:Int)) []=y)) a1G+(1:Int)=(0:Int))) (.ret ((((0:Int),(0:Int),(0:Int),()),(12:Int),()))) (cond (!Prod.snd (I5 (List.getD (Go.Lib.split x0 E3) (Int.toNat (1:Int)) []))) (.ret ((((0:Int),(0:Int),(0:Int),()),(12:Int),()))) (cond (!Prod.snd (I5 (List.getD (Go.Lib.split x0 E3) (Int.toNat (2:Int)) []))) (.ret ((((0:Int),(0:Int),(0:Int),()),(12:Int),()))) (.f6 (True) (cond (!W4 (Prod.fst (I5 (List.getD (Go.Lib.split x0 E3) (Int.toNat (1:Int)) []))) (0:Int) (9:Int)) (.ret ((((0:Int),(0:Int),(0:Int),()),(1:Int),()))) (cond (decide (idxOf (λ y=>decide (List.getD (Go.Lib.split x0 E3) (Int.toNat (0:Int)) []=y)) a1G+(1:Int)=(4:Int))) (.f6 (True) (cond (!W4 (Prod.fst (I5 (List.getD (Go.Lib.split x0 E3) (Int.toNat (2:Int)) []))) (0:Int) (9:Int)) (.ret ((((0:Int),(0:Int),(0:Int),()),(1:Int),()))) (.ret (((idxOf (λ y=>decide (List.getD (Go.Lib.split x0 E3) (Int.toNat (0:Int)) []=y)) a1G+(1:Int),Prod.fst (I5 (List.getD (Go.Lib.split x0 E3) (Int.toNat (1:Int)) [])),Prod.fst (I5 (List.getD (Go.Lib.split x0 E3) (Int.toNat (2:Int)) [])),()),(0:Int),()))))) (.ret (((idxOf (λ y=>decide (List.getD (Go.Lib.split x0 E3) (Int.toNat (0:Int)) []=y)) a1G+(1:Int),Prod.fst (I5 (List.getD (Go.Lib.split x0 E3) (Int.toNat (1:Int)) [])),Prod.fst (I5 (List.getD (Go.Lib.split x0 E3) (Int.toNat (2:Int)) [])),()),(0:Int),()))))))))))))))))):=by kernel_rfl
theorem b9V:c33.Valid Tryz.prog 73:=by
  refine p9.o5 b52 rfl rfl Tryz.func73 (c:=d8 Tryz.prog 73) rfl rfl b5r rfl ?_;rintro ⟨(s:List UInt8),⟨⟩⟩ (hp:s.length<=4294967280) -
  refine j5 (n:=1000) b52 b5r ?_;refine g9 (c6C s) ?_;have hd:O6 s=a9C (Lib.split s E3):=rfl;have e1:((Lib.split s E3).getD 1 []).length<=4294967280:=Nat.le_trans b1C hp;have e2:((Lib.split s E3).getD 2 []).length<=4294967280:=Nat.le_trans b1C hp;have hk:=c1E ((Lib.split s E3).getD 0 []);have eo:idxOf (λ y=>decide ((Lib.split s E3).getD 0 []=y)) a1G+1=kindOf ((Lib.split s E3).getD 0 []):=rfl;generalize hl:Lib.split s E3=l at *
  have dQ:r7 .i64 (kindOf (l.getD 0 [])):=j7.2 (by omega);have fin:∀ {y:b56×Int},a9C l=y->((y.1,y.2,()):b56×Int×Unit)=((O6 s).1,(O6 s).2,()):=λ e=>by rw [hd,e]
  have hr:a9C l=if (l.length:Int)≠3 then ((0,0,0,()),12) else if kindOf (l.getD 0 [])=0 then ((0,0,0,()),12) else if (I5 (l.getD 1 [])).2=false then ((0,0,0,()),12) else if (I5 (l.getD 2 [])).2=false then ((0,0,0,()),12) else if W4 (I5 (l.getD 1 [])).1 0 9=false then ((0,0,0,()),1) else if kindOf (l.getD 0 [])=4/\W4 (I5 (l.getD 2 [])).1 0 9=false then ((0,0,0,()),1) else ((kindOf (l.getD 0 []),(I5 (l.getD 1 [])).1,(I5 (l.getD 2 [])).1,()),0):=rfl
  simp only [j6,Tree.holds,true_and,true_implies,decide_eq_true_eq,decide_eq_false_iff_not,Bool.not_eq_true',Bool.not_eq_false',Int.toNat_natCast,j7,List.length_set,List.length_cons,List.length_nil,Int.reduceToNat,eo];refine ⟨⟨hp,by decide⟩,λ _=>⟨λ h3=>?_,λ h3=>?_⟩⟩
  . exact fin (by rw [hr,if_pos h3])
  . rw [if_neg h3] at hr;have h3:(l.length:Int)=3:=by omega
    refine ⟨by omega,λ _=>⟨dQ,λ _=>⟨by omega,λ _=>⟨e1,λ _=>⟨by omega,λ _=>⟨e2,λ _=>⟨λ g1=>?_,λ g1=>?_⟩⟩⟩⟩⟩⟩⟩
    . exact fin (by rw [hr,if_pos g1])
    rw [if_neg g1] at hr;refine ⟨λ g2=>?_,λ g2=>?_⟩
    . exact fin (by rw [hr,if_pos (by simpa using g2)])
    rw [if_neg (by simpa using g2)] at hr;refine ⟨λ g3=>?_,λ g3=>?_⟩
    . exact fin (by rw [hr,if_pos (by simpa using g3)])
    rw [if_neg (by simpa using g3)] at hr;refine ⟨λ g4=>?_,λ g4=>?_⟩
    . exact fin (by rw [hr,if_pos (by simpa using g4)])
    rw [if_neg (by simpa using g4)] at hr;refine ⟨λ g5=>⟨λ g6=>?_,λ g6=>?_⟩,λ g5=>?_⟩
    . exact fin (by rw [hr,if_pos ⟨g5,by simpa using g6⟩])
    . exact fin (by rw [hr,if_neg (λ h=>by rw [h.2] at g6; cases g6)])
    . exact fin (by rw [hr,if_neg (λ h=>g5 h.1)])
theorem c68 {s:a2T} (h:(O6 s).2=0):(0<=(O6 s).1.2.1/\(O6 s).1.2.1<10)/\((O6 s).1.1=4->0<=(O6 s).1.2.2.1/\(O6 s).1.2.2.1<10)/\1<=(O6 s).1.1:=by
  unfold O6 a9C at h ⊢;split at h
  . cases h
  rename_i h1;rw [if_neg h1];split at h
  . cases h
  rename_i h2;rw [if_neg h2];split at h
  . cases h
  rename_i h3;rw [if_neg h3];split at h
  . cases h
  rename_i h4;rw [if_neg h4];split at h
  . cases h
  rename_i h5;rw [if_neg h5];split at h
  . cases h
  rename_i h6;rw [if_neg h6];have h5:W4 (I5 ((Lib.split s E3).getD 1 [])).1 0 9=true:=by
    cases e:W4 (I5 ((Lib.split s E3).getD 1 [])).1 0 9 with
    | true=>rfl
    | false=>exact absurd e h5
  have h5:=Y9.1 h5;refine ⟨⟨h5.1,Int.lt_of_le_of_lt h5.2 (by decide)⟩,λ h7=>?_,?_⟩
  . have h8:W4 (I5 ((Lib.split s E3).getD 2 [])).1 0 9=true:=by
      cases e:W4 (I5 ((Lib.split s E3).getD 2 [])).1 0 9 with
      | true=>rfl
      | false=>exact absurd ⟨h7,e⟩ h6
    have h8:=Y9.1 h8;exact ⟨h8.1,Int.lt_of_le_of_lt h8.2 (by decide)⟩
  . have:=(c1E ((Lib.split s E3).getD 0 [])).1;show 1<=kindOf _;omega
def a3V (a:List Int×Int) (s:a2T):List Int×Int:=if (O6 s).2=0 then (b0F a.1 (O6 s).1,a.2) else (a.1,a.2+1)
def V1 (v:List Int) (l:List a2T):List Int×Int:=l.foldl a3V (v,0)
def c37:p9:={ ps:=[.v a0R,.v (.d0 false .str)],rs:=[a0R,e8],pre:=λ x=>∀ s∈(show List a2T from x.2.1),s.length<=4294967280,fn:=λ x=>((V1 x.1 x.2.1).1,(V1 x.1 x.2.1).2,()),out:=λ _=>() }
noncomputable def c0T:Env:={ P:=Tryz.prog,tt:=tt,C0:=[(73,c33),(74,c3U)],res:=[Go.ResultVar.cell 4 60,Go.ResultVar.tmp 5],rs:=[Ty.arr 10 e8,Ty.int IntKind.i64],ps:=[PK.v a0R,PK.v (Ty.d0 false Ty.str)],y5:=[(3,[(2,none),(4,none),(6,none),(11,none),(12,none),(13,none)])],nt:=31 }
theorem b1t:u6 c0T:=w9 q9 ⟨b9V,b9y,trivial⟩
theorem b1k:y7 c0T Tryz.f57:=⟨rfl,rfl⟩
theorem c7F (x0:List Int) (x1:List (List UInt8)):exec c0T 1000 [.code (d8 Tryz.prog 57)] (s5 c37.ps ((x0,x1,()))) =
  .ctL (f9 (d8 Tryz.prog 57) 3) (St.mk [(2,AV.ptr 2 []),(4,AV.ptr 4 []),(6,AV.val e8 (0:Int)),(11,AV.val (Ty.d0 false Ty.str) x1),(12,AV.val e8 (↑(List.length x1):Int)),(13,AV.val e8 (0:Int))] [(2,g8.var a0R x0),(4,g8.var a0R [(0:Int),(0:Int),(0:Int),(0:Int),(0:Int),(0:Int),(0:Int),(0:Int),(0:Int),(0:Int)])]):=by kernel_rfl
def b8g (v6:Int) (v11:List (List UInt8)) (v12:Int) (v13:Int) (o2:List Int) (o4:List Int):St:=St.mk [(2,AV.ptr 2 []),(4,AV.ptr 4 []),(6,AV.val e8 v6),(11,AV.val (Ty.d0 false Ty.str) v11),(12,AV.val e8 v12),(13,AV.val e8 v13)] [(2,g8.var a0R o2),(4,g8.var a0R o4)]
theorem c6H (v6:Int) (v11:List (List UInt8)) (v12:Int) (v13:Int) (o2:List Int) (o4:List Int):exec c0T 1000 (.code (f9 (d8 Tryz.prog 57) 3).1::.inLoop (f9 (d8 Tryz.prog 57) 3).1::(f9 (d8 Tryz.prog 57) 3).2) (b8g v6 v11 v12 v13 o2 o4) =
  cond (decide (v13<v12)) (.f6 ((0:Int)<=v13/\v13<(↑(List.length v11):Int)) (.f6 (List.length (List.getD v11 (Int.toNat v13) [])<=4294967280) (cond (decide (Prod.snd (O6 (List.getD v11 (Int.toNat v13) []))≠(0:Int))) (.f6 (r7 IntKind.i64 (v6+(1:Int))) (.f6 (r7 IntKind.i64 (v13+(1:Int))) (.ctL (f9 (d8 Tryz.prog 57) 3) (St.mk [(2,AV.ptr 2 []),(4,AV.ptr 4 []),(6,AV.val e8 (v6+(1:Int))),(11,AV.val (Ty.d0 false Ty.str) v11),(12,AV.val e8 v12),(13,AV.val e8 (v13+(1:Int)))] [(2,g8.var a0R o2),(4,g8.var a0R o4)])))) (.f6 (((0:Int)<=Prod.fst (Prod.snd (Prod.fst (O6 (List.getD v11 (Int.toNat v13) []))))/\Prod.fst (Prod.snd (Prod.fst (O6 (List.getD v11 (Int.toNat v13) []))))<(10:Int))/\(Prod.fst (Prod.fst (O6 (List.getD v11 (Int.toNat v13) [])))=(4:Int)->(0:Int)<=Prod.fst (Prod.snd (Prod.snd (Prod.fst (O6 (List.getD v11 (Int.toNat v13) [])))))/\Prod.fst (Prod.snd (Prod.snd (Prod.fst (O6 (List.getD v11 (Int.toNat v13) [])))))<(10:Int))) (.f6 (r7 IntKind.i64 (v13+(1:Int))) (.ctL (f9 (d8 Tryz.prog 57) 3) (St.mk [(2,AV.ptr 2 []),(4,AV.ptr 4 []),(6,AV.val e8 v6),(11,AV.val (Ty.d0 false Ty.str) v11),(12,AV.val e8 v12),(13,AV.val e8 (v13+(1:Int)))] [(2,g8.var a0R (b0F o2 (Prod.fst (O6 (List.getD v11 (Int.toNat v13) []))))),(4,g8.var a0R o4)]))))))) (.ret ((o2,v6,()))):=by kernel_rfl
theorem b8G {l:List a2T}:∀ {a:List Int×Int},a.2<=(l.foldl a3V a).2/\(l.foldl a3V a).2<=a.2+l.length:=by
  induction l with
  | nil=>intro a; simp
  | cons s l ih =>
    intro a;have:=ih (a:=a3V a s);rw [List.foldl_cons,List.length_cons];unfold a3V at this ⊢;split at this
    . rename_i h; rw [if_pos h]; have:=this; simp only at this; omega
    . rename_i h; rw [if_neg h]; have:=this; simp only at this; omega
theorem c09 {v:List Int} {l:List a2T} {k:Nat} (hk:k<l.length):V1 v (l.take (k+1))=a3V (V1 v (l.take k)) (l.getD k []):=by
  unfold V1;rw [List.take_add_one,List.foldl_append,List.getElem?_eq_getElem hk,List.getD_eq_getElem?_getD,List.getElem?_eq_getElem hk];rfl
theorem b93:c37.Valid Tryz.prog 57:=by
  refine p9.o5 b1t rfl rfl Tryz.func57 (c:=d8 Tryz.prog 57) rfl rfl b1k rfl ?_;rintro ⟨(v:List Int),(l:List a2T),⟨⟩⟩ (hp:∀ s∈l,s.length<=4294967280) ⟨-,hr,-⟩;have hlen:l.length<=9223372036854775807:=hr.1;refine j5 (n:=1000) b1t b1k ?_;refine g9 (c7F v l) ?_;refine Reach.K3 b1t b1k (λ k:Nat=>b8g (V1 v (l.take k)).2 l (l.length:Int) (k:Int) (V1 v (l.take k)).1 (List.replicate 10 0)) (λ k=>k<=l.length) (λ k=>l.length - k) 1000 (λ _=>⟨s7 rfl,s7 rfl⟩) ?_ 0 (by omega);rintro k hk - ih;have hk:k<=l.length:=hk;refine g9 (c6H ..) ?_;have hb:=b8G (l:=l.take k) (a:=(v,0));have hb:0<=(V1 v (l.take k)).2/\(V1 v (l.take k)).2<=k:=by
    have e:(V1 v (l.take k)).2=((l.take k).foldl a3V (v,0)).2:=rfl;rw [e]; rw [List.length_take] at hb;simp only at hb; omega
  simp only [j6,Tree.holds,true_and,true_implies,decide_eq_true_eq,decide_eq_false_iff_not,Bool.not_eq_true',Bool.not_eq_false',Int.toNat_natCast,j7,List.length_set,List.length_cons,List.length_nil];refine ⟨λ c=>⟨by omega,λ _=>?_⟩,λ c=>?_⟩
  . have oc:k<l.length:=by omega
    have hm:l.getD k []∈l:=by rw [List.getD_eq_getElem?_getD,List.getElem?_eq_getElem oc]; exact List.getElem_mem oc
    have ht:=c09 (v:=v) oc;have nx:=ih (k+1) (by omega) (by omega);rw [ht] at nx;unfold a3V at nx;refine ⟨hp _ hm,λ _=>⟨λ e=>⟨by omega,λ _=>⟨by omega,λ _=>?_⟩⟩,λ e=>?_⟩⟩
    . rw [if_neg e] at nx;exact nx
    . have e:(O6 (l.getD k [])).2=0:=by omega
      obtain ⟨r1,r2,-⟩:=c68 e;rw [if_pos e] at nx;exact ⟨⟨r1,r2⟩,λ _=>⟨by omega,λ _=>nx⟩⟩
  . have:k=l.length:=by omega
    subst this;rw [List.take_length]; rfl
def zeroV:List Int:=[0,0,0,0,0,0,0,0,0,0]
def Y5 (l:List B9):List (List UInt8):=l.map (λ s=>s.2.1)
def a09 (w:f7) (p:Int):List Int×Int×Unit:=if known w p≠0 then (zeroV,known w p,()) else ((V1 zeroV (Y5 (E1 w p))).1,0,())
def b3n:p9:={ ps:=[.rd K7,.v e8],rs:=[a0R,e8],pre:=λ x=>List.length (α:=n9) (x.1:f7).2.1<=6/\List.length (α:=B9) (E1 x.1 x.2.1)<=5864062014805/\∀ s∈E1 x.1 x.2.1,s.2.1.length<=4294967280,fn:=λ x=>a09 x.1 x.2.1,out:=λ _=>() }
noncomputable def a7l:Env:={ P:=Tryz.prog,tt:=tt,C0:=[(19,b9J),(57,c37)],res:=[Go.ResultVar.cell 4 60,Go.ResultVar.tmp 5],rs:=[Ty.arr 10 e8,Ty.int IntKind.i64],ps:=[PK.rd K7,PK.v e8],y5:=[(6,[(4,none),(8,some (Ty.d0 true Ty.str)),(23,some (Ty.d0 true p7)),(24,none),(25,none)])],nt:=42 }
theorem a7k:u6 a7l:=w9 q9 ⟨a95,b93,trivial⟩
theorem a7g:y7 a7l Tryz.f30:=⟨rfl,rfl⟩
theorem c4y (ai:Int) (af:Int) (ab:List n9) (ae:List (List UInt8)) (aa:List (List UInt8)) (x1:Int):exec a7l 1000 [.code (d8 Tryz.prog 30)] (s5 b3n.ps ((((ai,af,()),ab,ae,aa,()),x1,()))) =
  .f6 (List.length ab<=6/\List.length (E1 ((ai,af,()),ab,ae,aa,()) x1)<=5864062014805) (cond (decide (Prod.fst (Prod.snd (V5 ((ai,af,()),ab,ae,aa,()) x1))≠(0:Int))) (.ret (([(0:Int),(0:Int),(0:Int),(0:Int),(0:Int),(0:Int),(0:Int),(0:Int),(0:Int),(0:Int)],Prod.fst (Prod.snd (V5 ((ai,af,()),ab,ae,aa,()) x1)),()))) (.ctL (f9 (d8 Tryz.prog 30) 6) (St.mk [(4,AV.ptr 4 []),(8,AV.at_ 1000008 []),(23,AV.at_ 1000023 []),(24,AV.val e8 (↑(List.length (Prod.fst (V5 ((ai,af,()),ab,ae,aa,()) x1))):Int)),(25,AV.val e8 (0:Int))] [(4,g8.var a0R [(0:Int),(0:Int),(0:Int),(0:Int),(0:Int),(0:Int),(0:Int),(0:Int),(0:Int),(0:Int)]),(1000008,g8.own (Ty.d0 true Ty.str) []),(1000023,g8.own (Ty.d0 true p7) (Prod.fst (V5 ((ai,af,()),ab,ae,aa,()) x1)))]))):=by kernel_rfl
def a7j (v24:Int) (v25:Int) (o4:List Int) (dH:List (List UInt8)) (dF:List (Int×List UInt8×Unit)):St:=St.mk [(4,AV.ptr 4 []),(8,AV.at_ 1000008 []),(23,AV.at_ 1000023 []),(24,AV.val e8 v24),(25,AV.val e8 v25)] [(4,g8.var a0R o4),(1000008,g8.own (Ty.d0 true Ty.str) dH),(1000023,g8.own (Ty.d0 true p7) dF)]
theorem c2L (v24:Int) (v25:Int) (o4:List Int) (dH:List (List UInt8)) (dF:List (Int×List UInt8×Unit)):exec a7l 1000 (.code (f9 (d8 Tryz.prog 30) 6).1::.inLoop (f9 (d8 Tryz.prog 30) 6).1::(f9 (d8 Tryz.prog 30) 6).2) (a7j v24 v25 o4 dH dF) =
  cond (decide (v25<v24)) (.f6 ((0:Int)<=v25/\v25<(↑(List.length dF):Int)) (.f6 (List.length dH+List.length (List.set [[]] (Int.toNat (↑0:Int)) (Prod.fst (Prod.snd (List.getD dF (Int.toNat v25) ((0:Int),[],())))))<=140737488355328/\(List.length dH+List.length (List.set [[]] (Int.toNat (↑0:Int)) (Prod.fst (Prod.snd (List.getD dF (Int.toNat v25) ((0:Int),[],()))))))*Ty.wb Ty.str<=140737488355328) (.f6 (r7 IntKind.i64 (v25+(1:Int))) (.ctL (f9 (d8 Tryz.prog 30) 6) (St.mk [(4,AV.ptr 4 []),(8,AV.at_ 1000008 []),(23,AV.at_ 1000023 []),(24,AV.val e8 v24),(25,AV.val e8 (v25+(1:Int)))] [(4,g8.var a0R o4),(1000008,g8.own (Ty.d0 true Ty.str) (dH++List.set [[]] (Int.toNat (↑0:Int)) (Prod.fst (Prod.snd (List.getD dF (Int.toNat v25) ((0:Int),[],())))))),(1000023,g8.own (Ty.d0 true p7) dF)]))))) (.f6 (∀ (s:a2T),s∈dH->List.length s<=4294967280) (.ret ((Prod.fst (V1 [(0:Int),(0:Int),(0:Int),(0:Int),(0:Int),(0:Int),(0:Int),(0:Int),(0:Int),(0:Int)] dH),(0:Int),())))):=by kernel_rfl
theorem c5I {w:f7} {p:Int} (h:¬ (V5 w p).2.1≠0):(V5 w p).1=E1 w p/\¬ known w p≠0:=by
  unfold V5 at h ⊢;split at h
  . rename_i h1; exact absurd h1 h
  . rename_i h1; rw [if_neg h1]; exact ⟨rfl,h1⟩
theorem b7w {w:f7} {p:Int} (h:(V5 w p).2.1≠0):known w p≠0/\(V5 w p).2.1=known w p:=by
  unfold V5 at h ⊢;split at h
  . rename_i h1; rw [if_pos h1]; exact ⟨h1,rfl⟩
  . rename_i h1; exact absurd rfl h
attribute [local irreducible] V5 V1 a09 in
theorem b6v:b3n.Valid Tryz.prog 30:=by
  refine p9.o5 a7k rfl rfl Tryz.func30 (c:=d8 Tryz.prog 30) rfl rfl a7g rfl ?_;rintro ⟨⟨⟨(v0:Int),(v1:Int),⟨⟩⟩,(al:List n9),(od:List (List UInt8)),(wy:List (List UInt8)),⟨⟩⟩,(p:Int),⟨⟩⟩ ⟨(hp:al.length<=6),(hl:(E1 ((v0,v1,()),al,od,wy,()) p).length<=5864062014805),(ht:∀ s∈E1 ((v0,v1,()),al,od,wy,()) p,s.2.1.length<=4294967280)⟩ -
  refine j5 (n:=1000) a7k a7g ?_;refine g9 (c4y v0 v1 al od wy p) ?_;simp only [j6,Tree.holds,true_and,true_implies,decide_eq_true_eq,decide_eq_false_iff_not,Bool.not_eq_true',Bool.not_eq_false',Int.toNat_natCast,j7,List.length_set,List.length_cons,List.length_nil];have key:∀ r:List Int×Int×Unit,a09 ((v0,v1,()),al,od,wy,()) p=r->r=a09 ((v0,v1,()),al,od,wy,()) p:=by rintro r rfl; rfl
  have e1:=λ a=>(a09.eq_1 ((v0,v1,()),al,od,wy,()) p).trans (if_pos a);have e2:=λ a=>(a09.eq_1 ((v0,v1,()),al,od,wy,()) p).trans (if_neg a);refine ⟨⟨hp,hl⟩,λ _=>⟨λ a=>key _ ?_,λ a=>?_⟩⟩
  . rw [e1 (b7w a).1,(b7w a).2]; rfl
  obtain ⟨g1,g2⟩:=c5I a;rw [g1];have e3:=e2 g2;obtain ⟨l,je⟩:∃ l,l=E1 ((v0,v1,()),al,od,wy,()) p:=⟨_,rfl⟩;rw [<- je] at hl ht e3 ⊢;have key2:b3n.fn (((v0,v1,()),al,od,wy,()),p,())=((V1 zeroV (Y5 l)).1,0,()):=e3;suffices go:Go.Ex.Reach a7l Tryz.f30 ((V1 zeroV (Y5 l)).1,(0:Int),()) () (.code (f9 (d8 Tryz.prog 30) 6).1::.inLoop (f9 (d8 Tryz.prog 30) 6).1::(f9 (d8 Tryz.prog 30) 6).2) (a7j (l.length:Int) ((0:Nat):Int) zeroV (Y5 (l.take 0)) l) by
    rw [e3]; exact go
  refine Reach.K3 a7k a7g (λ i:Nat=>a7j (l.length:Int) (i:Int) zeroV (Y5 (l.take i)) l) (λ i=>i<=l.length) (λ i=>l.length - i) 1000 (λ _=>⟨s7 rfl,s7 rfl⟩) ?_ 0 (Nat.zero_le _);rintro i k1 - ih;have k1:i<=l.length:=k1;refine g9 (c2L ..) ?_;have e4:((i:Nat):Int)+1=((i+1:Nat):Int):=by omega
  have iv:Ty.wb .str=16:=rfl;have hlen:(Y5 (l.take i)).length=i:=by unfold Y5; rw [List.length_map,List.length_take]; omega
  simp only [j6,Tree.holds,true_and,true_implies,decide_eq_true_eq,decide_eq_false_iff_not,Bool.not_eq_true',Bool.not_eq_false',Int.toNat_natCast,j7,List.length_set,List.length_cons,List.length_nil,e4,hlen,iv];refine ⟨λ c=>⟨by omega,λ _=>⟨by omega,λ _=>⟨j7.2 ⟨by omega,by omega⟩,λ _=>?_⟩⟩⟩,λ c=>⟨?_,λ _=>?_⟩⟩
  . have:=ih (i+1) (by show i+1<=l.length; omega) (by show l.length - (i+1)<l.length - i; omega);rw [show Y5 (l.take (i+1))=Y5 (l.take i)++[(l.getD i (0,[],())).2.1] by
      unfold Y5;rw [a22 (show i<l.length by omega) (0,[],()),List.map_append]; rfl] at this
    exact this
  . intro s hs;unfold Y5 at hs;obtain ⟨y,hy,rfl⟩:=List.mem_map.1 hs;exact ht y (List.mem_of_mem_take hy)
  . obtain rfl:i=l.length:=by omega
    rw [List.take_length]; rfl
end Go.Proofs.YtijlnmgondibnaaGreatDoor
namespace Go.Proofs.YtijlnmgondibnaaGreatDoor
open Go.Ex
set_option maxRecDepth 100000
structure Sz (c:Nat) (w:f7):Prop where
  log:∀ i:Nat,(w.2.1.getD i i8).2.1.length<=c
  ord:w.2.2.1.length<=c
  txt:∀ i:Nat,∀ s∈(w.2.1.getD i i8).2.1,s.2.1.length<=200
  late:∀ i:Nat,(w.2.1.getD i i8).2.2.1.2.1.length<=16
theorem Sz.mono {c d:Nat} {w:f7} (h:Sz c w) (hd:c<=d):Sz d w:=⟨λ i=>Nat.le_trans (h.log i) hd,Nat.le_trans h.ord hd,h.txt,h.late⟩
structure J3 (k:Nat) (w w':f7):Prop where
  view:w'.1=w.1
  len:w'.2.1.length=w.2.1.length
  log:∀ i:Nat,(w.2.1.getD i i8).2.1 <+: (w'.2.1.getD i i8).2.1
  fal:∀ i:Nat,(w'.2.1.getD i i8).1=(w.2.1.getD i i8).1
  sz:∀ c,Sz c w->Sz (c+k) w'
theorem J3.same {w w':f7} (h1:w'.1=w.1) (h2:w'.2.1=w.2.1) (h3:w'.2.2.1=w.2.2.1):J3 0 w w' :=
  ⟨h1,by rw [h2],λ i=>by rw [h2]; exact List.prefix_rfl,λ i=>by rw [h2],λ c h=>⟨by rw [h2]; exact h.log,by rw [h3]; exact h.ord,by rw [h2]; exact h.txt,by rw [h2]; exact h.late⟩⟩
theorem J3.more {k l:Nat} {w w':f7} (h:J3 k w w') (hl:k<=l):J3 l w w':=⟨h.view,h.len,h.log,h.fal,λ c hc=>(h.sz c hc).mono (by omega)⟩
theorem J3.trans {k l:Nat} {w w' w'':f7} (h:J3 k w w') (h':J3 l w' w''):J3 (k+l) w w'' :=
  ⟨h'.view.trans h.view,h'.len.trans h.len,λ i=>(h.log i).trans (h'.log i),λ i=>(h'.fal i).trans (h.fal i),λ c hc=>by rw [<- Nat.add_assoc]; exact h'.sz _ (h.sz c hc)⟩
theorem U3.b80 {P:y4->Prop} {w w':f7} (h:U3 P w w'):J3 0 w w':=.same h.view h.all h.ord
theorem J3.set {k:Nat} {w:f7} {p:Nat} {x:n9} (h1:(w.2.1.getD p i8).2.1 <+: x.2.1) (h2:x.1=(w.2.1.getD p i8).1) (h3:x.2.1.length<=(w.2.1.getD p i8).2.1.length+k)
    (h4:(∀ s∈(w.2.1.getD p i8).2.1,s.2.1.length<=200)->∀ s∈x.2.1,s.2.1.length<=200) (h5:(w.2.1.getD p i8).2.2.1.2.1.length<=16->x.2.2.1.2.1.length<=16):J3 k w (w.1,w.2.1.set p x,w.2.2):=by
  have hg:∀ i,(w.2.1.set p x).getD i i8=x/\p=i\/(w.2.1.set p x).getD i i8=w.2.1.getD i i8:=λ i=>by
    rw [T1]
    split
    . rename_i e; exact .inl ⟨rfl,e.1⟩
    . exact .inr rfl
  refine ⟨rfl,List.length_set ..,λ i=>?_,λ i=>?_,λ c hc=>⟨λ i=>?_,Nat.le_trans hc.ord (Nat.le_add_right _ _),λ i=>?_,λ i=>?_⟩⟩
  . rcases hg i with ⟨e,rfl⟩|e
    . show _ <+: ((w.2.1.set p x).getD p i8).2.1; rw [e]; exact h1
    . show _ <+: ((w.2.1.set p x).getD i i8).2.1; rw [e]; exact List.prefix_rfl
  . rcases hg i with ⟨e,rfl⟩|e
    . show ((w.2.1.set p x).getD p i8).1=_; rw [e]; exact h2
    . show ((w.2.1.set p x).getD i i8).1=_; rw [e]
  . rcases hg i with ⟨e,rfl⟩|e
    . show ((w.2.1.set p x).getD p i8).2.1.length<=_; rw [e]; have:=hc.log p; omega
    . show ((w.2.1.set p x).getD i i8).2.1.length<=_; rw [e]; have:=hc.log i; omega
  . rcases hg i with ⟨e,rfl⟩|e
    . show ∀ s∈((w.2.1.set p x).getD p i8).2.1,_; rw [e]; exact h4 (hc.txt p)
    . show ∀ s∈((w.2.1.set p x).getD i i8).2.1,_; rw [e]; exact hc.txt i
  . rcases hg i with ⟨e,rfl⟩|e
    . show ((w.2.1.set p x).getD p i8).2.2.1.2.1.length<=_; rw [e]; exact h5 (hc.late p)
    . show ((w.2.1.set p x).getD i i8).2.2.1.2.1.length<=_; rw [e]; exact hc.late i
theorem b2n {w:f7} {k f t q:Int} {x:C5}:J3 0 w (J9 w k f t q x):=by
  obtain ⟨h1,h2,h3⟩:=a3Y (w:=w) (k:=k) (f:=f) (t:=t) (s:=q) (x:=x);exact .same h2 h1 h3
theorem c1g (w:f7) (p:Int) (t:C5):J3 0 w (V0 w p t).1:=by
  rw [V0]
  split
  . exact .same rfl rfl rfl
  split
  . exact .same rfl rfl rfl
  split
  . exact .same rfl rfl rfl
  split
  . exact .same rfl rfl rfl
  . rename_i hl;obtain ⟨g1,g2,g3⟩:=b7v hl;have aP:=a0e g2;refine J3.trans (w':=setFrom w p (N1 (Z1 w p) t).1) (k:=0) ?_ b2n;refine J3.set (k:=0) List.prefix_rfl rfl (Nat.le_refl _) id (λ _=>?_);rw [g1]; exact aP.2.1
theorem b60 (w:f7) (p:Int):J3 0 w (T8 w p).1:=by
  rw [T8]
  split
  . exact .same rfl rfl rfl
  . obtain ⟨h1,h2,h3⟩:=a5b (p:=p) (l:=a2I w p) (w:=w) (a2I w p).length;exact (J3.same h2 h1 h3).trans b2n
theorem b6h (w:f7) (n:y4):J3 16 w (V4 w n):=by
  rw [V4]
  split
  . exact (J3.same rfl rfl rfl).more (by omega)
  . rename_i he;obtain ⟨-,-,a3,-⟩:=a0K (Decidable.not_not.1 he);have h0:J3 0 w (a1p w n.2.1 (a2x (M0 w n.2.1) (W7 w n).1)):=J3.set List.prefix_rfl rfl (Nat.le_refl _) id id;obtain ⟨h1,h2,h3⟩:=a6k (f:=n.2.1) (first:=(M0 w n.2.1).2.2.2.2.1.1) (l:=(W7 w n).2.1) (w:=a1p w n.2.1 (a2x (M0 w n.2.1) (W7 w n).1)) (W7 w n).2.1.length;refine (h0.trans (l:=16) ⟨h2,by rw [h1],λ i=>by rw [h1]; exact List.prefix_rfl,λ i=>by rw [h1],λ c hc=>⟨λ i=>?_,?_,by rw [h1]; exact hc.txt,by rw [h1]; exact hc.late⟩⟩).more (by omega)
    . rw [h1]; have:=hc.log i; omega
    . rw [h3];have:=hc.ord;have a3:(W7 w n).2.1.length<=16:=a3;omega
theorem b6m {s:a0D} {x:Int} (h:(N6 s x).2.1=0):(N6 s x).1.2.1.length<=s.2.1.length:=by
  unfold N6 at h ⊢
  split
  . rename_i h1; rw [if_pos h1] at h; exact absurd h h1
  . rename_i h1;rw [if_neg h1] at h
    split
    . rename_i h2; rw [if_pos h2] at h; exact absurd h (by decide)
    . exact List.length_drop ..▸Nat.sub_le _ _
theorem b6q (q:Int) (x:n9) (t:C5):(a0V q x t).1=x.1/\(x.2.2.1.2.1.length<=16->(a0V q x t).2.2.1.2.1.length<=16):=by
  by_cases h:who t=q/\(N6 x.2.2.1 (nth t+1)).2.1=0
  . rw [a6G h.1 h.2];exact ⟨rfl,λ h2=>Nat.le_trans (b6m h.2) h2⟩
  . rw [a5x h];exact ⟨rfl,id⟩
theorem c2T (t:C5):(a4f t).length<=t.length:=by
  unfold a4f;exact Nat.le_trans (a3H _).2 (a3H _).2
theorem a57 {q:Int} {x:n9} {l:List C5} (hl:∀ t∈l,D5 t=false):∀ {i},i<=l.length->x.2.1 <+: (I7 q x l i).2.1/\(I7 q x l i).1=x.1/\(x.2.2.1.2.1.length<=16->(I7 q x l i).2.2.1.2.1.length<=16) /\
    ((∀ s∈x.2.1,s.2.1.length<=200)->∀ s∈(I7 q x l i).2.1,s.2.1.length<=200)
  | 0,_=>⟨List.prefix_rfl,rfl,id,id⟩
  | i+1,hi=>by
    obtain ⟨h1,h2,h3,h4⟩:=a57 (q:=q) (x:=x) hl (show i<=l.length by omega);obtain ⟨g1,g2⟩:=b6q q (I7 q x l i) (l.getD i []);have g3:=b1P q (I7 q x l i) (l.getD i []);rw [I7];refine ⟨h1.trans (by rw [g3]; exact List.prefix_append ..),g1.trans h2,λ h=>g2 (h3 h),λ h s hs=>?_⟩;rw [g3] at hs;rcases List.mem_append.1 hs with hs|hs
    . exact h4 h s hs
    . rw [List.mem_singleton] at hs;rw [hs];have hm:l.getD i []∈l:=by rw [List.getD_eq_getElem?_getD,List.getElem?_eq_getElem (by omega)]; exact List.getElem_mem _
      exact Nat.le_trans (c2T _) (a6C (hl _ hm))
theorem b8A (w:f7) (n:y4):J3 16 w (a0b w n):=by
  rw [a0b]
  split
  . exact (J3.same rfl rfl rfl).more (by omega)
  . rename_i he;obtain ⟨a1,-,a3,-⟩:=a0K (Decidable.not_not.1 he);obtain ⟨h1,h2,h3,h4⟩:=a57 (q:=n.2.2.1) (x:=a9w (M0 w n.2.2.1) (N3 w n).1) (λ t ht=>(a1 t ht).2) (Nat.le_refl (N3 w n).2.1.length);have h5:=a4n (q:=n.2.2.1) (x:=a9w (M0 w n.2.2.1) (N3 w n).1) (l:=(N3 w n).2.1) (N3 w n).2.1.length;refine J3.set (k:=16) h1 h2 ?_ h4 h3;rw [h5];have a3:(N3 w n).2.1.length<=16:=a3;exact Nat.add_le_add_left a3 _
theorem b2Z (w:f7) (n:y4):J3 16 w (E8 w n):=by
  rw [E8]
  split
  . exact (J3.same rfl rfl rfl).more (by omega)
  split
  . exact b6h w n
  split
  . obtain ⟨h1,h2,h3⟩:=a1t (w:=w) (n:=n) 4;exact (J3.same h2 h1 h3).more (by omega)
  split
  . exact b8A w n
  . exact (J3.same rfl rfl rfl).more (by omega)
theorem b8Y (w:f7) (k bB:Int):J3 16 w (H6 w k bB).1:=by
  have h0:J3 16 w w:=(J3.same rfl rfl rfl).more (by omega);rw [H6]
  split
  . exact h0
  split
  . exact h0
  split
  . exact h0
  split
  . exact (J3.same (w:=w) (w':=b3o w k.toNat) rfl rfl rfl).more (Nat.zero_le 16)
  . refine (J3.trans (k:=0) (l:=16) (w':=a5E w k) (J3.same (w:=w) (w':=a5E w k) rfl rfl rfl) ?_).more (Nat.le_refl 16);show J3 16 (a5E w k) (a04 (a5E w k) bB (w.2.2.2.1.getD k.toNat []));rw [a04]
    split
    . exact b2Z _ _
    . exact (J3.same rfl rfl rfl).more (by omega)
abbrev a00:=Int×Int×Int×List UInt8×Unit
def doW (w:f7) (d:a00):f7×Int :=
  if d.1=1 then V0 w d.2.1 d.2.2.2.1 else if d.1=2 then T8 w d.2.1 else if d.1=3 then H6 w d.2.1 d.2.2.1 else if d.1=4 then a1b w d.2.1 else if d.1=5 then P8 w else (w,1)
structure Ok (c:Nat) (said:Nat->List C5) (w:f7):Prop where
  mem:0<=w.1.2.1/\w.1.2.1<=255
  sz:Sz c w
  inv:∃ B S Q,Inv said B S Q w
structure Good (w:f7):Prop where
  move:a4Y w
  change:a0S w
theorem Ok.M8 {c:Nat} {said:Nat->List C5} {w:f7} (h:Ok c said w):w.2.1.length<=6:=by
  obtain ⟨B,S,Q,hI⟩:=h.inv;exact hI.M8
theorem Inv.note {said:Nat->List C5} {B:List B9} {S:Nat->List C5} {Q:List T4} {w:f7} (h:Inv said B S Q w) {s:C5} (hs:s∈w.2.2.2.1) (h1:(u7 s).2.1=0) (h2:(u7 s).1.2.2.2.1=w.1.1) (h3:r9 w (u7 s).1.2.2.1=true) {c:Nat} (hc:Sz c w) (dm:c<=1000000000000):a0r w (u7 s).1:=by
  obtain ⟨p,hp,bW,hv,-⟩:=a1R.1 h3;obtain ⟨⟨m,hM⟩,-⟩:=h.mem p bW hv;have hm:=(h.msg s hs h1).2 h2;refine ⟨h.M8,by omega,b3S h1,?_,Nat.le_trans hc.ord dm,λ hk t ht=>?_⟩
  . rw [hp]; exact Nat.le_trans (hc.log p) dm
  . have cn:M0 w (u7 s).1.2.2.1=w.2.1.getD p i8:=by rw [hp]; rfl
    unfold N3 at ht;rw [cn] at ht;have dQ:∃ i:Nat,(I3 Q)[i]?=some t:=by
      by_cases he:(C3 (w.2.1.getD p i8).2.2.2.1 ((u7 s).1.2.2.2.2.1,(u7 s).1.2.2.2.2.2.2.1,())).2.2.1=0
      . obtain ⟨a1,-⟩:=a0K he;rcases (a1 t ht).1 with e|⟨q,hq,e⟩
        . refine ⟨(u7 s).1.2.2.2.2.1.toNat,?_⟩;rw [e,<- h.ord];exact hm.2 hk
        . exact ⟨_,by rw [e]; exact hM.wait q hq⟩
      . rw [c1v he] at ht; cases ht
    obtain ⟨i,hi⟩:=dQ;rw [b2e] at hi;cases hQ:Q[i]? with
    | none=>rw [hQ] at hi; cases hi
    | some y =>
      rw [hQ] at hi;have e:H2 y.1 (y6 y.1 (Q.take i)).length y.2=t:=by simpa using hi
      have hy:=h.le5 y (List.mem_of_getElem? hQ);have h5:=((a1d (p:=y.1) (Q:=Q) (i:=i)).trans (h.b0M y.1)).length_le;have h6:=h.short y.1;exact ⟨y.1,_,y.2,hy,by omega,e.symm⟩
theorem Ok.b4e {c:Nat} {said:Nat->List C5} {w:f7} (h:Ok c said w) (hc:c<=1000000000000):Good w:=by
  obtain ⟨B,S,Q,hI⟩:=h.inv;exact ⟨⟨hI.M8,hI.way,λ s hs h1 h2 h3=>hI.note hs h1 h2 h3 h.sz hc⟩,hI.M8,λ i=>Nat.le_trans (h.sz.log i) (by omega),λ i=>Nat.le_trans (h.sz.late i) (by omega)⟩
def a2y (said:Nat->List C5) (d:a00) (e:Int):Nat->List C5:=if d.1=1/\e=0 then a43 said d.2.1.toNat (said d.2.1.toNat++[d.2.2.2.1]) else said
structure a9i (c:Nat) (said:Nat->List C5) (w:f7) (d:a00) (w':f7) (e:Int):Prop where
  ok:Ok (c+16) (a2y said d e) w'
  len:w'.2.1.length=w.2.1.length
  log:∀ i:Nat,(w.2.1.getD i i8).2.1 <+: (w'.2.1.getD i i8).2.1
  fal:∀ i:Nat,i<w.2.1.length->(w'.2.1.getD i i8).1=((w.2.1.getD i i8).1 || decide (d.1=4/\e=0/\d.2.1=i))
  mem:∀ i:Nat,i<w.2.1.length->a0u w'.1.2.1 i=true->a0u w.1.2.1 i=true
theorem a9i.b80 {c:Nat} {said:Nat->List C5} {w w':f7} {d:a00} {e:Int} (h:Ok c said w) (hm:J3 16 w w') (hi:∃ B S Q,Inv (a2y said d e) B S Q w') (hf:d.1≠4):a9i c said w d w' e :=
  ⟨⟨by rw [hm.view]; exact h.mem,hm.sz c h.sz,hi⟩,hm.len,hm.log,λ i _=>by rw [hm.fal i,show decide (d.1=4/\e=0/\d.2.1=i)=false from decide_eq_false (λ c=>hf c.1),Bool.or_false],λ i _ h=>by rw [hm.view] at h; exact h⟩
theorem a7S {w:f7} {p:Int} (h:¬ K8 w p≠0):r9 w p=true:=by
  unfold K8 at h;split at h
  . rename_i h1; exact absurd h1 h
  . split at h
    . rename_i h2; exact h2
    . exact absurd (by decide) h
theorem b1M {w:f7} {p:Int}:¬ known w p≠0↔0<=p/\p<(w.2.1.length:Int):=by
  unfold known
  split
  . rename_i h;have:=S7.1 h;constructor
    . intro _; omega
    . intro _ h2; exact h2 rfl
  . rename_i h;constructor
    . intro h2; exact absurd (by decide) h2
    . intro h2; exact absurd (S7.2 ⟨h2.1,by omega⟩) h
theorem a5F {c:Nat} {said:Nat->List C5} {w:f7} (h:Ok c said w) (d:a00):a9i c said w d (doW w d).1 (doW w d).2:=by
  obtain ⟨B,S,Q,hI⟩:=h.inv;have stay:∀ e:Int,(d.1=1->e≠0)->(d.1=4->e≠0)->a9i c said w d w e:=λ e he hf =>
    ⟨⟨h.mem,h.sz.mono (by omega),B,S,Q,by rw [a2y,if_neg (λ c=>he c.1 c.2)]; exact hI⟩,rfl,λ _=>List.prefix_rfl,λ i _=>by rw [show decide (d.1=4/\e=0/\d.2.1=i)=false from decide_eq_false (λ c=>hf c.1 c.2.1),Bool.or_false],λ _ _ h=>h⟩
  unfold doW;by_cases c1:d.1=1
  . rw [if_pos c1];have ia:=(c1g w d.2.1 d.2.2.2.1).more (Nat.zero_le 16);have hf:d.1=4->False:=λ e=>by omega
    rw [V0] at ia ⊢;by_cases a:K8 w d.2.1≠0
    . rw [if_pos a]; exact stay _ (λ _=>a) (λ e=>(hf e).elim)
    rw [if_neg a] at ia ⊢;by_cases b:(150:Int)<d.2.2.2.1.length
    . rw [if_pos b]; exact stay 2 (λ _=>by decide) (λ e=>(hf e).elim)
    rw [if_neg b] at ia ⊢;by_cases b2:(w.2.2.2.1.length:Int)=60
    . rw [if_pos b2]; exact stay 8 (λ _=>by decide) (λ e=>(hf e).elim)
    rw [if_neg b2] at ia ⊢;by_cases b3:(N1 (Z1 w d.2.1) d.2.2.2.1).2.1≠0
    . rw [if_pos b3]; exact stay _ (λ _=>b3) (λ e=>(hf e).elim)
    rw [if_neg b3] at ia ⊢;obtain ⟨p,hp,bW,hv,-⟩:=a1R.1 (a7S a);refine a9i.b80 h ia ?_ (λ e=>hf e);rw [a2y,if_pos ⟨c1,rfl⟩,hp];rw [hp] at b3;exact ⟨_,_,_,hI.say bW hv b3⟩
  rw [if_neg c1];by_cases c2:d.1=2
  . rw [if_pos c2];have ia:=(b60 w d.2.1).more (Nat.zero_le 16);rw [T8] at ia ⊢;by_cases a:K8 w d.2.1≠0
    . rw [if_pos a]; exact stay _ (λ e=>absurd e c1) (λ e=>by omega)
    rw [if_neg a] at ia ⊢;obtain ⟨p,hp,bW,hv,-⟩:=a1R.1 (a7S a);refine a9i.b80 h ia ?_ (by omega);rw [a2y,if_neg (λ c=>c1 c.1),hp];exact ⟨_,_,_,hI.again bW hv⟩
  rw [if_neg c2];by_cases c3:d.1=3
  . rw [if_pos c3];refine a9i.b80 h (b8Y _ _ _) ?_ (by omega);rw [a2y,if_neg (λ c=>c1 c.1)];obtain ⟨Q',h'⟩:=hI.move d.2.1 d.2.2.1;exact ⟨_,_,_,h'⟩
  rw [if_neg c3];by_cases c4:d.1=4
  . rw [if_pos c4];unfold a1b;by_cases a:known w d.2.1≠0
    . rw [if_pos a]; exact stay _ (λ e=>absurd e c1) (λ _=>a)
    rw [if_neg a];have hk:=b1M.1 a;obtain ⟨p,hp⟩:∃ p:Nat,d.2.1=p:=⟨d.2.1.toNat,by omega⟩;rw [hp] at hk ⊢;have bW:p<w.2.1.length:=by omega
    have hg:∀ i,(w.2.1.set p (true,(w.2.1.getD p i8).2)).getD i i8=if p=i then (true,(w.2.1.getD p i8).2) else w.2.1.getD i i8:=λ i=>by
      rw [T1];by_cases e:p=i
      . rw [if_pos ⟨e,bW⟩,if_pos e]
      . rw [if_neg (λ h=>e h.1),if_neg e]
    have fF:∀ i,((w.2.1.set p (true,(w.2.1.getD p i8).2)).getD i i8).2=(w.2.1.getD i i8).2:=λ i=>by
      rw [hg]; split
      . rename_i e; rw [e]
      . rfl
    refine ⟨⟨h.mem,⟨λ i=>?_,Nat.le_trans h.sz.ord (Nat.le_add_right _ _),λ i=>?_,λ i=>?_⟩,B,S,Q,?_⟩,List.length_set ..,λ i=>?_,λ i hi=>?_,λ _ _ h=>h⟩
    . show ((w.2.1.set p (true,(w.2.1.getD p i8).2)).getD i i8).2.1.length<=_;rw [fF]; exact Nat.le_trans (h.sz.log i) (Nat.le_add_right _ _)
    . show ∀ s∈((w.2.1.set p (true,(w.2.1.getD p i8).2)).getD i i8).2.1,_;rw [fF]; exact h.sz.txt i
    . show ((w.2.1.set p (true,(w.2.1.getD p i8).2)).getD i i8).2.2.1.2.1.length<=_;rw [fF]; exact h.sz.late i
    . rw [a2y,if_neg (λ c=>c1 c.1)]; exact hI.c78 p
    . show _ <+: ((w.2.1.set p (true,(w.2.1.getD p i8).2)).getD i i8).2.1;rw [fF]; exact List.prefix_rfl
    . show ((w.2.1.set p (true,(w.2.1.getD p i8).2)).getD i i8).1=_;rw [hg];by_cases e:p=i
      . rw [if_pos e,decide_eq_true ⟨c4,rfl,by rw [hp,e]⟩,Bool.or_true]
      . rw [if_neg e,decide_eq_false (λ c=>e (by have:=c.2.2; omega)),Bool.or_false]
  rw [if_neg c4];by_cases c5:d.1=5
  . rw [if_pos c5];by_cases a:(S5 w).2.1≠0
    . rw [a98 a]; exact stay _ (λ e=>absurd e c1) (λ e=>absurd e c4)
    rw [a8h a];obtain ⟨B',S',rZ,h1,h2⟩:=hI.change h.mem a;obtain ⟨fR,kx,kV⟩:=members hI.M8 h.mem a;have hlen:(G1 w).2.1.length=w.2.1.length:=List.length_mapIdx ..;have cH:∀ i:Nat,i<w.2.1.length->(G1 w).2.1.getD i i8=Z2 w (G7 w w.2.1.length) i (w.2.1.getD i i8):=λ i hi=>a7X hi;have dZ:∀ i:Nat,¬ i<w.2.1.length->(G1 w).2.1.getD i i8=i8:=λ i hi=>by
      rw [List.getD_eq_getElem?_getD,List.getElem?_eq_none (by rw [hlen]; omega)]; rfl
    have mS:(G7 w w.2.1.length).length<=c/\∀ s∈G7 w w.2.1.length,s.2.1.length<=200:=by
      rcases a6B (w:=w) (k:=w.2.1.length) with e|⟨i,-,-,e⟩
      . rw [e]; exact ⟨Nat.zero_le _,λ s hs=>by cases hs⟩
      . rw [e]; exact ⟨h.sz.log i,h.sz.txt i⟩
    have fx:∀ i x,(Z2 w (G7 w w.2.1.length) i x).2.1=G7 w w.2.1.length\/(Z2 w (G7 w w.2.1.length) i x).2.1=x.2.1:=λ i x=>by
      unfold Z2; split
      . exact .inl rfl
      . exact .inr rfl
    have df:∀ i x,(Z2 w (G7 w w.2.1.length) i x).2.2.1.2.1.length<=x.2.2.1.2.1.length:=λ i x=>by
      unfold Z2; split
      . exact List.length_drop ..▸Nat.sub_le _ _
      . exact Nat.le_refl _
    refine ⟨⟨kx,⟨λ i=>?_,Nat.zero_le _,λ i=>?_,λ i=>?_⟩,B',S',[],?_⟩,hlen,λ i=>?_,λ i hi=>?_,λ i hi hm=>?_⟩
    . by_cases hi:i<w.2.1.length
      . rw [cH i hi];have:=h.sz.log i;rcases fx i (w.2.1.getD i i8) with e|e
        . rw [e]; omega
        . rw [e]; omega
      . rw [dZ i hi]; exact Nat.zero_le _
    . by_cases hi:i<w.2.1.length
      . rw [cH i hi];rcases fx i (w.2.1.getD i i8) with e|e
        . rw [e]; exact mS.2
        . rw [e]; exact h.sz.txt i
      . rw [dZ i hi]; exact λ s hs=>by cases hs
    . by_cases hi:i<w.2.1.length
      . rw [cH i hi]; exact Nat.le_trans (df _ _) (h.sz.late i)
      . rw [dZ i hi]; exact Nat.zero_le _
    . rw [a2y,if_neg (λ c=>c1 c.1)]; exact rZ
    . by_cases hi:i<w.2.1.length
      . exact h2 i hi
      . have e:w.2.1.getD i i8=i8:=by rw [List.getD_eq_getElem?_getD,List.getElem?_eq_none (by omega)]; rfl
        rw [e]; exact List.nil_prefix
    . rw [cH i hi,c2b,decide_eq_false (λ c=>c4 c.1),Bool.or_false]
    . rw [kV i hi] at hm; exact (a0h.1 hm).2.1
  . rw [if_neg c5]; exact stay _ (λ e=>absurd e c1) (λ e=>absurd e c4)
attribute [local irreducible] Go.Ex.exec
def M8 (n:Int):Int:=rest n 6+1
theorem c1M (n:Int):1<=M8 n/\M8 n<=6:=by have:=b7i (a:=n) (n:=6) (by omega); unfold M8; omega
def c3Y:p9:={ ps:=[.v e8],rs:=[e8],pre:=λ _=>True,fn:=λ x=>(M8 x.1,()),out:=λ _=>() }
noncomputable def c0P:Env:={ P:=Tryz.prog,tt:=tt,C0:=[(39,b9z)],res:=[Go.ResultVar.tmp 2],rs:=[Ty.int IntKind.i64],ps:=[PK.v e8],y5:=[],nt:=6 }
theorem b5Y:u6 c0P:=w9 q9 ⟨b6x,trivial⟩
theorem b5q:y7 c0P Tryz.f36:=⟨rfl,rfl⟩
theorem c6A (x0:Int):exec c0P 1000 [.code (d8 Tryz.prog 36)] (s5 c3Y.ps ((x0,()))) =
  .f6 ((6:Int)<=(1000000000:Int)) (.f6 (r7 IntKind.i64 (rest x0 (6:Int)+(1:Int))) (.ret ((rest x0 (6:Int)+(1:Int),())))):=by kernel_rfl
theorem b6L:c3Y.Valid Tryz.prog 36:=by
  refine p9.o5 b5Y rfl rfl Tryz.func36 (c:=d8 Tryz.prog 36) rfl rfl b5q rfl ?_;rintro ⟨(n:Int),⟨⟩⟩ - -
  refine j5 (n:=1000) b5Y b5q ?_;refine g9 (c6A n) ?_;have:=c1M n;have:=b7i (a:=n) (n:=6) (by omega);simp only [j6,Tree.holds,true_and,true_implies,decide_eq_true_eq,decide_eq_false_iff_not,Bool.not_eq_true',Bool.not_eq_false',Int.toNat_natCast,j7,List.length_set,List.length_cons,List.length_nil];exact ⟨by decide,λ _=>⟨by omega,λ _=>rfl⟩⟩
def a8E (n:Int):f7:=((0,b3l n,()),List.replicate n.toNat i8,[],[],())
def b3p:p9:={ ps:=[.v e8],rs:=[.box true none u3,e8],pre:=λ x=>LE.le (α:=Int) 1 x.1/\LE.le (α:=Int) x.1 6,fn:=λ x=>(some (a8E x.1),0,()),out:=λ _=>() }
theorem c1q {n:Int} (h:1<=n/\n<=6):b8U n=(some (a8E n),0,()):=if_pos (S7.2 h)
theorem a8e:b3p.Valid Tryz.prog 14:=by
  refine ⟨a94.ent,λ w S vs x L hS dk bm hK gj eW dD=>?_,λ h=>by cases h⟩;obtain ⟨(n:Int),⟨⟩⟩:=x;have:=a94.run w S vs (n,()) L hS dk trivial hK gj eW dD;rw [show c3W.fn (n,())=b3p.fn (n,()) from c1q bm] at this;exact this
def b9T:p9:={ ps:=[.rw u3,.v a1W],rs:=[e8],pre:=λ x=>Good x.1,fn:=λ x=>((doW x.1 x.2.1).2,()),out:=λ x=>((doW x.1 x.2.1).1,()) }
noncomputable def b1r:Env:={ P:=Tryz.prog,tt:=tt,C0:=[(15,b9x),(26,b4R),(18,b3q),(37,b9Q),(25,b4O)],res:=[Go.ResultVar.tmp 4],rs:=[Ty.int IntKind.i64],ps:=[PK.rw u3,PK.v a1W],y5:=[],nt:=39 }
theorem b0C:u6 b1r:=w9 q9 ⟨a90,b4Q,a8f,b6M,b1a,trivial⟩
theorem b0s:y7 b1r Tryz.f38:=⟨rfl,rfl⟩
theorem c2P (ai:Int) (af:Int) (ab:List n9) (ae:List (List UInt8)) (aa:List (List UInt8)) (bu:Int) (aC:Int) (aB:Int) (ba:List UInt8):exec b1r 1000 [.code (d8 Tryz.prog 38)] (s5 b9T.ps ((((ai,af,()),ab,ae,aa,()),(bu,aC,aB,ba,()),()))) =
  cond (decide (bu=(1:Int))) (.f6 (List.length ab<=6) (.ret ((Prod.snd (V0 ((ai,af,()),ab,ae,aa,()) aC ba),Prod.fst (V0 ((ai,af,()),ab,ae,aa,()) aC ba),())))) (cond (decide (bu=(2:Int))) (.f6 (List.length ab<=6) (.ret ((Prod.snd (T8 ((ai,af,()),ab,ae,aa,()) aC),Prod.fst (T8 ((ai,af,()),ab,ae,aa,()) aC),())))) (cond (decide (bu=(3:Int))) (.f6 (a4Y ((ai,af,()),ab,ae,aa,())) (.ret ((Prod.snd (H6 ((ai,af,()),ab,ae,aa,()) aC aB),Prod.fst (H6 ((ai,af,()),ab,ae,aa,()) aC aB),())))) (cond (decide (bu=(4:Int))) (.f6 (List.length ab<=6) (.ret ((Prod.snd (a1b ((ai,af,()),ab,ae,aa,()) aC),Prod.fst (a1b ((ai,af,()),ab,ae,aa,()) aC),())))) (cond (decide (bu=(5:Int))) (.f6 (a0S ((ai,af,()),ab,ae,aa,())) (.ret ((Prod.snd (P8 ((ai,af,()),ab,ae,aa,())),Prod.fst (P8 ((ai,af,()),ab,ae,aa,())),())))) (.ret (((1:Int),((ai,af,()),ab,ae,aa,()),()))))))):=by kernel_rfl
attribute [local irreducible] doW V0 T8 H6 a1b P8 in
theorem b4H:b9T.Valid Tryz.prog 38:=by
  refine p9.o5 b0C rfl rfl Tryz.func38 (c:=d8 Tryz.prog 38) rfl rfl b0s rfl ?_;rintro ⟨⟨⟨(v0:Int),(v1:Int),⟨⟩⟩,(al:List n9),(od:List (List UInt8)),(wy:List (List UInt8)),⟨⟩⟩,⟨(k:Int),(who:Int),(bB:Int),(t:List UInt8),⟨⟩⟩,⟨⟩⟩ (hg:Good ((v0,v1,()),al,od,wy,())) -
  refine j5 (n:=1000) b0C b0s ?_;refine g9 (c2P v0 v1 al od wy k who bB t) ?_;simp only [j6,Tree.holds,true_and,true_implies,decide_eq_true_eq,decide_eq_false_iff_not,Bool.not_eq_true',Bool.not_eq_false',Int.toNat_natCast,j7,List.length_set,List.length_cons,List.length_nil];have key:∀ r:f7×Int,doW ((v0,v1,()),al,od,wy,()) (k,who,bB,t,())=r->(((r.2,r.1,()):Int×f7×Unit)=((doW ((v0,v1,()),al,od,wy,()) (k,who,bB,t,())).2,(doW ((v0,v1,()),al,od,wy,()) (k,who,bB,t,())).1,())):=by rintro r rfl; rfl
  have e0:=doW.eq_1 ((v0,v1,()),al,od,wy,()) (k,who,bB,t,());refine ⟨λ c=>⟨hg.move.M8,λ _=>key _ (e0.trans (if_pos c))⟩,λ c1=>⟨λ c=>⟨hg.move.M8,λ _=>key _ (e0.trans ((if_neg c1).trans (if_pos c)))⟩,λ c2=>⟨λ c=>⟨hg.move,λ _=>key _ (e0.trans ((if_neg c1).trans ((if_neg c2).trans (if_pos c))))⟩,λ c3=>⟨λ c=>⟨hg.move.M8,λ _=>key _ (e0.trans ((if_neg c1).trans ((if_neg c2).trans ((if_neg c3).trans (if_pos c)))))⟩,
    λ c4=>⟨λ c=>⟨hg.change,λ _=>key _ (e0.trans ((if_neg c1).trans ((if_neg c2).trans ((if_neg c3).trans ((if_neg c4).trans (if_pos c))))))⟩,λ c5=>key (_,_) (e0.trans ((if_neg c1).trans ((if_neg c2).trans ((if_neg c3).trans ((if_neg c4).trans (if_neg c5))))))⟩⟩⟩⟩⟩
end Go.Proofs.YtijlnmgondibnaaGreatDoor
namespace Go.Proofs.YtijlnmgondibnaaGreatDoor
open Go.Ex
set_option maxRecDepth 100000
theorem b3P {n i:Nat}:(List.replicate n i8).getD i i8=i8:=by
  rw [List.getD_eq_getElem?_getD,List.getElem?_replicate]
  split<;>rfl
theorem c1p {n:Int} (h:1<=n/\n<=6):Ok 0 (λ _=>[]) (a8E n):=by
  have hr:∀ i,(a8E n).2.1.getD i i8=i8:=λ i=>b3P;have hl:(a8E n).2.1.length=n.toNat:=List.length_replicate ..;refine ⟨Q5 (k:=.u8) _,⟨λ i=>?_,Nat.zero_le _,λ i=>?_,λ i=>?_⟩,[],λ _=>[],[],?_⟩
  . rw [hr]; exact Nat.zero_le _
  . rw [hr]; exact λ s hs=>by cases hs
  . rw [hr]; exact Nat.zero_le _
  . refine ⟨by rw [hl]; omega,Nat.zero_le _,rfl,λ x hx=>(by cases hx),λ p=>List.nil_prefix,λ p=>Nat.zero_le _,λ s hs=>(by cases hs),λ p hp=>?_,λ p hp hv=>?_,λ p hp hv=>⟨rfl,List.prefix_rfl⟩⟩
    . rw [hr]; exact ⟨rfl,λ q hq=>by cases hq⟩
    . rw [hr];exact ⟨⟨0,Nat.le_refl _,rfl,λ q hq=>(by cases hq),rfl,rfl,rfl⟩,rfl⟩
def b9o:a00:=(0,0,0,[],())
def b8Z (k bB:Int):a00:=(3,k,bB,[],())
theorem c3N (w:f7) (k bB:Int):doW w (b8Z k bB)=H6 w k bB:=by
  unfold doW b8Z;rw [if_neg (show ¬ (3:Int)=1 by decide),if_neg (show ¬ (3:Int)=2 by decide),if_pos rfl]
theorem Ok.c7Q {c:Nat} {said:Nat->List C5} {w:f7} (h:Ok c said w) (k bB:Int):Ok (c+16) said (H6 w k bB).1:=by
  have:=(a5F h (b8Z k bB)).ok;rw [c3N] at this;exact this
abbrev c0k:C5:=[97,100,100,32,52,32]
def wS:Nat->f7
  | 0=>a8E 3
  | p+1=>(V0 (wS p) p (c0k++D0 ((p:Int)+1))).1
def a7C (w:f7):f7:=if (0:Int)<(w.2.2.2.1.length:Int) then (H6 w 0 1).1 else w
def allM:Nat->f7->Bool
  | 0,w=>decide (w.2.2.2.1.length=0) && (List.range 3).all λ p=>decide (a09 w (p:Int)=([0,0,0,0,6,0,0,0,0,0],0,()))
  | k+1,w=>(decide (w.2.2.2.1.length=0) || decide ((H6 w 0 1).2=0)) && allM k (a7C w)
theorem c5k:(List.range 3).all (λ p=>decide ((V0 (wS p) p (c0k++D0 ((p:Int)+1))).2=0))=true:=by decide +kernel
theorem a8F:allM 12 (wS 3)=true:=by decide +kernel
def wM:Nat->f7
  | 0=>wS 3
  | k+1=>a7C (wM k)
def c47 (w:f7):Prop:=w.2.2.2.1.length=0/\∀ p:Nat,p<3->a09 w (p:Int)=([0,0,0,0,6,0,0,0,0,0],0,())
theorem a3c:∀ {k j:Nat},allM k (wM j)=true->(∀ i,i<k->(wM (j+i)).2.2.2.1.length=0\/(H6 (wM (j+i)) 0 1).2=0)/\c47 (wM (j+k))
  | 0,j,h=>by
    rw [allM,Bool.and_eq_true,List.all_eq_true] at h;exact ⟨λ i hi=>by omega,of_decide_eq_true h.1,λ p hp=>of_decide_eq_true (h.2 p (List.mem_range.2 hp))⟩
  | k+1,j,h=>by
    rw [allM,Bool.and_eq_true,Bool.or_eq_true] at h;obtain ⟨h1,h2⟩:=a3c (k:=k) (j:=j+1) h.2;refine ⟨λ i hi=>?_,by rw [show j+(k+1)=j+1+k by omega]; exact h2⟩;rcases Nat.eq_zero_or_pos i with e|e
    . subst e;exact h.1.imp of_decide_eq_true of_decide_eq_true
    . have:=h1 (i - 1) (by omega);rw [show j+1+(i - 1)=j+i by omega] at this;exact this
theorem c3q {w:f7} (h:w.2.2.2.1.length=0):a7C w=w:=by unfold a7C; rw [if_neg (by omega)]
theorem b0D:∀ k,wM (12+k)=wM 12
  | 0=>rfl
  | k+1=>by
    rw [show 12+(k+1)=(12+k)+1 by omega,wM,b0D k];exact c3q (by have:=(a3c (k:=12) (j:=0) a8F).2.1; rw [Nat.zero_add] at this; exact this)
theorem c7M (i:Nat):(wM i).2.2.2.1.length=0\/(H6 (wM i) 0 1).2=0:=by
  obtain ⟨h1,h2⟩:=a3c (k:=12) (j:=0) a8F;by_cases h:i<12
  . have:=h1 i h;rw [Nat.zero_add] at this;exact this
  . rw [show i=12+(i - 12) by omega,b0D];rw [Nat.zero_add] at h2;exact .inl h2.1
theorem c5f:c47 (wM 100):=by
  have:=(a3c (k:=12) (j:=0) a8F).2;rw [Nat.zero_add] at this;rw [show 100=12+88 by rfl,b0D];exact this
def c3e (p:Int) (t:C5):a00:=(1,p,0,t,())
theorem c5S (w:f7) (p:Int) (t:C5):doW w (c3e p t)=V0 w p t:=by
  unfold doW c3e;exact if_pos rfl
theorem Ok.c75 {c:Nat} {said:Nat->List C5} {w:f7} (h:Ok c said w) (p:Int) (t:C5):∃ said',Ok (c+16) said' (V0 w p t).1:=by
  have:=(a5F h (c3e p t)).ok;rw [c5S] at this;exact ⟨_,this⟩
theorem b8j:∀ p,∃ said,Ok (16*p) said (wS p)
  | 0=>⟨_,c1p (n:=3) (by decide)⟩
  | p+1=>by
    obtain ⟨said,h⟩:=b8j p;obtain ⟨s',h'⟩:=h.c75 p (c0k++D0 ((p:Int)+1));exact ⟨s',by rw [show 16*(p+1)=16*p+16 by omega]; exact h'⟩
theorem c00:∀ k,∃ said,Ok (48+16*k) said (wM k)
  | 0=>b8j 3
  | k+1=>by
    obtain ⟨said,h⟩:=c00 k;refine ⟨said,?_⟩;rw [wM,a7C]
    split
    . have:=h.c7Q 0 1;rw [show 48+16*(k+1)=48+16*k+16 by omega];exact this
    . exact ⟨h.mem,h.sz.mono (by omega),h.inv⟩
def b4t:p9:={ ps:=[],rs:=[.bool],pre:=λ _=>True,fn:=λ _=>(true,()),out:=λ _=>() }
noncomputable def a0Z:Env:={ P:=Tryz.prog,tt:=tt,C0:=[(14,b3p),(50,b4C),(15,b9x),(17,c3R),(18,b3q),(30,b3n)],res:=[Go.ResultVar.tmp 0],rs:=[Ty.bool],ps:=[],y5:=[(5,[(1,none),(17,none)]),(11,[(1,none),(29,none)]),(16,[(1,none),(40,none)])],nt:=57 }
theorem a1V:u6 a0Z:=w9 q9 ⟨a8e,a6Y,a90,b9p,a8f,b6v,trivial⟩
theorem a1U:y7 a0Z Tryz.f35:=⟨rfl,rfl⟩
theorem c2K:exec a0Z 1000 [.code (d8 Tryz.prog 35)] (s5 b4t.ps (())) =
  .f6 ((1:Int)<=(3:Int)/\(3:Int)<=(6:Int)) (.ctL (f9 (d8 Tryz.prog 35) 5) (St.mk [(1,AV.ptr 1008 []),(17,AV.val e8 (0:Int))] [(1008,g8.var u3 (((0:Int),b3l (3:Int),()),List.replicate (Int.toNat (3:Int)) i8,[],[],()))])):=by kernel_rfl
def a5Y (v17:Int) (aM:Int) (aE:Int) (aK:List n9) (aD:List (List UInt8)) (au:List (List UInt8)):St:=St.mk [(1,AV.ptr 1008 []),(17,AV.val e8 v17)] [(1008,g8.var u3 ((aM,aE,()),aK,aD,au,()))]
theorem c0C (v17:Int) (aM:Int) (aE:Int) (aK:List n9) (aD:List (List UInt8)) (au:List (List UInt8)):exec a0Z 1000 (.code (f9 (d8 Tryz.prog 35) 5).1::.inLoop (f9 (d8 Tryz.prog 35) 5).1::(f9 (d8 Tryz.prog 35) 5).2) (a5Y v17 aM aE aK aD au) =
  cond (decide (v17<(3:Int))) (.f6 (r7 IntKind.i64 (v17+(1:Int))) (.f6 (True) (.f6 (List.length (Array.toList (ByteArray.data (ByteArray.mk #[(97:UInt8),(100:UInt8),(100:UInt8),(32:UInt8),(52:UInt8),(32:UInt8)])))+List.length (D0 (v17+(1:Int)))<=Go.maxLen) (.f6 (List.length aK<=6) (cond (decide (Prod.snd (V0 ((aM,aE,()),aK,aD,au,()) v17 (Array.toList (ByteArray.data (ByteArray.mk #[(97:UInt8),(100:UInt8),(100:UInt8),(32:UInt8),(52:UInt8),(32:UInt8)]))++D0 (v17+(1:Int))))≠(0:Int))) (.ret ((false,()))) (.f6 (r7 IntKind.i64 (v17+(1:Int))) (.ctL (f9 (d8 Tryz.prog 35) 5) (St.mk [(1,AV.ptr 1008 []),(17,AV.val e8 (v17+(1:Int)))] [(1008,g8.var u3 (Prod.fst (V0 ((aM,aE,()),aK,aD,au,()) v17 (Array.toList (ByteArray.data (ByteArray.mk #[(97:UInt8),(100:UInt8),(100:UInt8),(32:UInt8),(52:UInt8),(32:UInt8)]))++D0 (v17+(1:Int))))))])))))))) (.ctL (f9 (d8 Tryz.prog 35) 11) (St.mk [(1,AV.ptr 1008 []),(29,AV.val e8 (0:Int))] [(1008,g8.var u3 ((aM,aE,()),aK,aD,au,()))])):=by kernel_rfl
def a4u (v29:Int) (aM:Int) (aE:Int) (aK:List n9) (aD:List (List UInt8)) (au:List (List UInt8)):St:=St.mk [(1,AV.ptr 1008 []),(29,AV.val e8 v29)] [(1008,g8.var u3 ((aM,aE,()),aK,aD,au,()))]
theorem b62 (v29:Int) (aM:Int) (aE:Int) (aK:List n9) (aD:List (List UInt8)) (au:List (List UInt8)):exec a0Z 1000 (.code (f9 (d8 Tryz.prog 35) 11).1::.inLoop (f9 (d8 Tryz.prog 35) 11).1::(f9 (d8 Tryz.prog 35) 11).2) (a4u v29 aM aE aK aD au) =
  cond (decide (v29<(100:Int))) (.f6 (True) (cond (decide ((0:Int)<(↑(List.length au):Int))) (.f6 (a4Y ((aM,aE,()),aK,aD,au,())) (cond (decide (Prod.snd (H6 ((aM,aE,()),aK,aD,au,()) (0:Int) (1:Int))≠(0:Int))) (.ret ((false,()))) (.f6 (r7 IntKind.i64 (v29+(1:Int))) (.ctL (f9 (d8 Tryz.prog 35) 11) (St.mk [(1,AV.ptr 1008 []),(29,AV.val e8 (v29+(1:Int)))] [(1008,g8.var u3 (Prod.fst (H6 ((aM,aE,()),aK,aD,au,()) (0:Int) (1:Int))))]))))) (.f6 (r7 IntKind.i64 (v29+(1:Int))) (.ctL (f9 (d8 Tryz.prog 35) 11) (St.mk [(1,AV.ptr 1008 []),(29,AV.val e8 (v29+(1:Int)))] [(1008,g8.var u3 ((aM,aE,()),aK,aD,au,()))]))))) (.ctL (f9 (d8 Tryz.prog 35) 16) (St.mk [(1,AV.ptr 1008 []),(40,AV.val e8 (0:Int))] [(1008,g8.var u3 ((aM,aE,()),aK,aD,au,()))])):=by kernel_rfl
def a4t (v40:Int) (aM:Int) (aE:Int) (aK:List n9) (aD:List (List UInt8)) (au:List (List UInt8)):St:=St.mk [(1,AV.ptr 1008 []),(40,AV.val e8 v40)] [(1008,g8.var u3 ((aM,aE,()),aK,aD,au,()))]
theorem b61 (v40:Int) (aM:Int) (aE:Int) (aK:List n9) (aD:List (List UInt8)) (au:List (List UInt8)):exec a0Z 1000 (.code (f9 (d8 Tryz.prog 35) 16).1::.inLoop (f9 (d8 Tryz.prog 35) 16).1::(f9 (d8 Tryz.prog 35) 16).2) (a4t v40 aM aE aK aD au) =
  cond (decide (v40<(3:Int))) (.f6 (List.length aK<=6/\List.length (E1 ((aM,aE,()),aK,aD,au,()) v40)<=5864062014805/\∀ (s:B9),s∈E1 ((aM,aE,()),aK,aD,au,()) v40->List.length (Prod.fst (Prod.snd s))<=4294967280) (cond (decide (Prod.fst (Prod.snd (a09 ((aM,aE,()),aK,aD,au,()) v40))≠(0:Int))) (.ret ((false,()))) (cond (!H3 (Ty.arr 10 e8) (Prod.fst (a09 ((aM,aE,()),aK,aD,au,()) v40)) (List.set [(0:Int),(0:Int),(0:Int),(0:Int),(0:Int),(0:Int),(0:Int),(0:Int),(0:Int),(0:Int)] (Int.toNat (↑4:Int)) (6:Int))) (.ret ((false,()))) (.f6 (r7 IntKind.i64 (v40+(1:Int))) (.ctL (f9 (d8 Tryz.prog 35) 16) (St.mk [(1,AV.ptr 1008 []),(40,AV.val e8 (v40+(1:Int)))] [(1008,g8.var u3 ((aM,aE,()),aK,aD,au,()))])))))) (.ret ((true,()))):=by kernel_rfl
attribute [local irreducible] V0 H6 a09 in
theorem b4s:b4t.Valid Tryz.prog 35:=by
  refine p9.o5 a1V rfl rfl Tryz.func35 (c:=d8 Tryz.prog 35) rfl rfl a1U rfl ?_;rintro ⟨⟩ - -
  refine j5 (n:=1000) a1V a1U ?_;refine g9 (c2K ) ?_;refine ⟨by decide,λ _=>?_⟩;have jK:maxLen=9223372036854775807:=by decide
  suffices go:Go.Ex.Reach a0Z Tryz.f35 (true,()) () (.code (f9 (d8 Tryz.prog 35) 5).1::.inLoop (f9 (d8 Tryz.prog 35) 5).1::(f9 (d8 Tryz.prog 35) 5).2) (a5Y ((0:Nat):Int) (wS 0).1.1 (wS 0).1.2.1 (wS 0).2.1 (wS 0).2.2.1 (wS 0).2.2.2.1) by exact go
  refine Reach.K3 a1V a1U (λ p:Nat=>a5Y (p:Int) (wS p).1.1 (wS p).1.2.1 (wS p).2.1 (wS p).2.2.1 (wS p).2.2.2.1) (λ p=>p<=3) (λ p=>3 - p) 1000 (λ _=>⟨s7 rfl,s7 rfl⟩) ?_ 0 (Nat.zero_le _);rintro p k1 - ih;have k1:p<=3:=k1;refine g9 (c0C ..) ?_;have e1:((p:Nat):Int)+1=((p+1:Nat):Int):=by omega
  obtain ⟨said,aP⟩:=b8j p;have la:p<3->(V0 (wS p) p (c0k++D0 ((p:Int)+1))).2=0:=λ h=>of_decide_eq_true (List.all_eq_true.1 c5k p (List.mem_range.2 h));have jb:(D0 ((p:Int)+1)).length<=20:=a1B (by omega) (by omega);rw [e1] at jb la;have ih1:p<3->_:=λ h=>ih (p+1) (by show p+1<=3; omega) (by show 3 - (p+1)<3 - p; omega);rw [wS,e1] at ih1;simp only [j6,Tree.holds,true_and,true_implies,decide_eq_true_eq,decide_eq_false_iff_not,Bool.not_eq_true',Bool.not_eq_false',Int.toNat_natCast,j7,List.length_set,List.length_cons,List.length_nil,e1];refine ⟨λ c=>⟨j7.2 ⟨by omega,by omega⟩,λ _=>⟨by rw [jK]; omega,λ _=>⟨aP.M8,λ _=>⟨λ d=>absurd (la (by omega)) d,λ d=>⟨j7.2 ⟨by omega,by omega⟩,λ _=>ih1 (by omega)⟩⟩⟩⟩⟩,λ c=>?_⟩;obtain rfl:p=3:=by omega
  clear ih ih1;suffices go:Go.Ex.Reach a0Z Tryz.f35 (true,()) () (.code (f9 (d8 Tryz.prog 35) 11).1::.inLoop (f9 (d8 Tryz.prog 35) 11).1::(f9 (d8 Tryz.prog 35) 11).2) (a4u ((0:Nat):Int) (wM 0).1.1 (wM 0).1.2.1 (wM 0).2.1 (wM 0).2.2.1 (wM 0).2.2.2.1) by exact go
  refine Reach.K3 a1V a1U (λ k:Nat=>a4u (k:Int) (wM k).1.1 (wM k).1.2.1 (wM k).2.1 (wM k).2.2.1 (wM k).2.2.2.1) (λ k=>k<=100) (λ k=>100 - k) 1000 (λ _=>⟨s7 rfl,s7 rfl⟩) ?_ 0 (Nat.zero_le _);rintro k k1 - ih;have k1:k<=100:=k1;refine g9 (b62 ..) ?_;have e1:((k:Nat):Int)+1=((k+1:Nat):Int):=by omega
  obtain ⟨said,aP⟩:=c00 k;have pG:=c7M k;have ih1:k<100->_:=λ h=>ih (k+1) (by show k+1<=100; omega) (by show 100 - (k+1)<100 - k; omega);rw [wM,a7C] at ih1;simp only [j6,Tree.holds,true_and,true_implies,decide_eq_true_eq,decide_eq_false_iff_not,Bool.not_eq_true',Bool.not_eq_false',Int.toNat_natCast,j7,List.length_set,List.length_cons,List.length_nil,e1];refine ⟨λ c=>⟨λ d=>⟨(aP.b4e (by omega)).move,λ _=>⟨λ e=>?_,λ e=>⟨j7.2 ⟨by omega,by omega⟩,λ _=>?_⟩⟩⟩,λ d=>⟨j7.2 ⟨by omega,by omega⟩,λ _=>?_⟩⟩,λ c=>?_⟩
  . rcases pG with h|h
    . omega
    . exact absurd h e
  . have:=ih1 (by omega);rw [if_pos (by omega)] at this;exact this
  . have:=ih1 (by omega);rw [if_neg (by omega)] at this;exact this
  obtain rfl:k=100:=by omega
  clear ih ih1 pG;obtain ⟨u,hu⟩:∃ u,u=wM 100:=⟨_,rfl⟩;have pP:=c5f;rw [<- hu] at pP aP ⊢;suffices go:Go.Ex.Reach a0Z Tryz.f35 (true,()) () (.code (f9 (d8 Tryz.prog 35) 16).1::.inLoop (f9 (d8 Tryz.prog 35) 16).1::(f9 (d8 Tryz.prog 35) 16).2) (a4t ((0:Nat):Int) u.1.1 u.1.2.1 u.2.1 u.2.2.1 u.2.2.2.1) by exact go
  refine Reach.K3 a1V a1U (λ p:Nat=>a4t (p:Int) u.1.1 u.1.2.1 u.2.1 u.2.2.1 u.2.2.2.1) (λ p=>p<=3) (λ p=>3 - p) 1000 (λ _=>⟨s7 rfl,s7 rfl⟩) ?_ 0 (Nat.zero_le _);rintro p k1 - ih;have k1:p<=3:=k1;refine g9 (b61 ..) ?_;have e1:((p:Nat):Int)+1=((p+1:Nat):Int):=by omega
  have ih1:p<3->_:=λ h=>ih (p+1) (by show p+1<=3; omega) (by show 3 - (p+1)<3 - p; omega);have hv:p<3->a09 ((u.1.1,u.1.2.1,()),u.2.1,u.2.2.1,u.2.2.2.1,()) (p:Int)=([0,0,0,0,6,0,0,0,0,0],0,()):=λ h=>pP.2 p h;simp only [j6,Tree.holds,true_and,true_implies,decide_eq_true_eq,decide_eq_false_iff_not,Bool.not_eq_true',Bool.not_eq_false',Int.toNat_natCast,j7,List.length_set,List.length_cons,List.length_nil,e1];refine ⟨λ c=>⟨⟨aP.M8,Nat.le_trans (aP.sz.log p) (by omega),λ s hs=>Nat.le_trans (aP.sz.txt p s hs) (by omega)⟩,λ _=>⟨λ d=>?_,λ d=>⟨λ e=>?_,λ e=>⟨j7.2 ⟨by omega,by omega⟩,λ _=>ih1 (by omega)⟩⟩⟩⟩,λ c=>rfl⟩
  . rw [hv (by omega)] at d; exact absurd rfl d
  . rw [hv (by omega)] at e; exact absurd e (by decide)
attribute [local irreducible] Go.Ex.exec
abbrev c7U:p9:=c3Y
def b9R:p9:={ ps:=[.v (.d0 false p7),.v (.d0 false p7)],rs:=[.bool],pre:=λ _=>True,fn:=λ x=>(decide ((show List (s4) from x.1)=(show List (s4) from x.2.1)),()),out:=λ _=>() }
noncomputable def b3y:Env:={ P:=Tryz.prog,tt:=tt,C0:=[],res:=[Go.ResultVar.tmp 4],rs:=[Ty.bool],ps:=[PK.v J4,PK.v J4],y5:=[(4,[(0,none),(1,none),(12,none),(13,none)])],nt:=26 }
theorem a9h:u6 b3y:=w9 q9 trivial
theorem a89:y7 b3y Tryz.f21:=⟨rfl,rfl⟩
theorem c6B (x0:List (Int×List UInt8×Unit)) (x1:List (Int×List UInt8×Unit)):exec b3y 1000 [.code (d8 Tryz.prog 21)] (s5 b9R.ps ((x0,x1,()))) =
  cond (decide ((↑(List.length x0):Int)≠(↑(List.length x1):Int))) (.ret ((false,()))) (.ctL (f9 (d8 Tryz.prog 21) 4) (St.mk [(0,AV.val J4 x0),(1,AV.val J4 x1),(12,AV.val e8 (↑(List.length x0):Int)),(13,AV.val e8 (0:Int))] [])):=by kernel_rfl
def b5Z (v0:List (Int×List UInt8×Unit)) (v1:List (Int×List UInt8×Unit)) (v12:Int) (v13:Int):St:=St.mk [(0,AV.val J4 v0),(1,AV.val J4 v1),(12,AV.val e8 v12),(13,AV.val e8 v13)] []
theorem c4G (v0:List (Int×List UInt8×Unit)) (v1:List (Int×List UInt8×Unit)) (v12:Int) (v13:Int):exec b3y 1000 (.code (f9 (d8 Tryz.prog 21) 4).1::.inLoop (f9 (d8 Tryz.prog 21) 4).1::(f9 (d8 Tryz.prog 21) 4).2) (b5Z v0 v1 v12 v13) =
  cond (decide (v13<v12)) (.f6 ((0:Int)<=v13/\v13<(↑(List.length v0):Int)) (.f6 ((0:Int)<=v13/\v13<(↑(List.length v1):Int)) (cond (!H3 p7 (List.getD v0 (Int.toNat v13) ((0:Int),[],())) (List.getD v1 (Int.toNat v13) ((0:Int),[],()))) (.ret ((false,()))) (.f6 (r7 IntKind.i64 (v13+(1:Int))) (.ctL (f9 (d8 Tryz.prog 21) 4) (St.mk [(0,AV.val J4 v0),(1,AV.val J4 v1),(12,AV.val e8 v12),(13,AV.val e8 (v13+(1:Int)))] [])))))) (.ret ((true,()))):=by kernel_rfl
theorem b6N:b9R.Valid Tryz.prog 21:=by
  refine p9.o5 a9h rfl rfl Tryz.func21 (c:=d8 Tryz.prog 21) rfl rfl a89 rfl ?_;rintro ⟨(l:List (s4)),(m:List (s4)),⟨⟩⟩ - ⟨⟨hl,-⟩,-⟩;have hl:l.length<=9223372036854775807:=hl;refine j5 (n:=1000) a9h a89 ?_;refine g9 (c6B l m) ?_;have fin:∀ {b:Bool},(b=true↔l=m)->((b,()):Bool×Unit)=(decide (l=m),()):=λ {b} h=>by
    cases b with
    | true=>rw [decide_eq_true (h.1 rfl)]
    | false=>rw [decide_eq_false (λ e=>by cases h.2 e)]
  simp only [j6,Tree.holds,true_and,true_implies,decide_eq_true_eq,decide_eq_false_iff_not,Bool.not_eq_true',Bool.not_eq_false',Int.toNat_natCast,j7,List.length_set,List.length_cons,List.length_nil];refine ⟨λ c=>fin ⟨λ h=>(by cases h),λ h=>absurd (congrArg (λ q:List (s4)=>(q.length:Int)) h) c⟩,λ c=>?_⟩;refine Reach.K3 a9h a89 (λ i:Nat=>b5Z l m (l.length:Int) (i:Int)) (λ i=>i<=l.length/\∀ j,j<i->l.getD j (0,[],())=m.getD j (0,[],()))
    (λ i=>l.length - i) 1000 (λ _=>⟨s7 rfl,s7 rfl⟩) ?_ 0 ⟨Nat.zero_le _,λ j hj=>by omega⟩
  rintro i ⟨k1,k2⟩ - ih;refine g9 (c4G ..) ?_;have c:l.length=m.length:=by omega
  simp only [j6,Tree.holds,true_and,true_implies,decide_eq_true_eq,decide_eq_false_iff_not,Bool.not_eq_true',Bool.not_eq_false',Int.toNat_natCast,j7,List.length_set,List.length_cons,List.length_nil];refine ⟨λ d1=>⟨by omega,λ _=>⟨by omega,λ _=>⟨λ d2=>fin ⟨λ h=>(by cases h),λ h=>absurd (congrArg (λ q:List (s4)=>q.getD i (0,[],())) h) (c1P d2)⟩,λ d2=>⟨by omega,λ _=>ih (i+1) ⟨by omega,λ j hj=>?_⟩ (by omega)⟩⟩⟩⟩,λ d1=>fin ⟨λ _=>eq_of_getD c (λ j hj=>k2 j (by omega)),λ _=>rfl⟩⟩;rcases Nat.lt_or_ge j i with h|h
  . exact k2 j h
  . obtain rfl:j=i:=by omega
    exact b4n.1 d2
def F7 (n:Int) (l:List a00):Nat->f7
  | 0=>a8E n
  | i+1=>(doW (F7 n l i) (l.getD i b9o)).1
theorem a8P {n:Int} (hn:1<=n/\n<=6) (l:List a00):∀ i,(∃ said,Ok (16*i) said (F7 n l i))/\(F7 n l i).2.1.length=n.toNat
  | 0=>⟨⟨_,c1p hn⟩,List.length_replicate ..⟩
  | i+1=>by
    obtain ⟨⟨said,h⟩,h2⟩:=a8P hn l i;have hd:=a5F h (l.getD i b9o);exact ⟨⟨_,by rw [show 16*(i+1)=16*i+16 by omega]; exact hd.ok⟩,hd.len.trans h2⟩
theorem c1I {n:Int} (hn:1<=n/\n<=6) (l:List a00) (i p:Nat):E1 (F7 n l i) p <+: E1 (F7 n l (i+1)) p:=by
  obtain ⟨⟨said,h⟩,-⟩:=a8P hn l i;exact (a5F h (l.getD i b9o)).log p
theorem b2i {α:Type} {f:α->Nat} (h:∀ x,1<=f x):∀ l:List α,l.length<=W0 f l
  | []=>Nat.zero_le _
  | x::l=>by have h1:=h x; have h2:=b2i h l; simp only [W0,List.length_cons]; omega
theorem c1W {n:Int} {l:List a00} (hp:a7L [e8,.d0 false a1W] (n,l,())<=1048576):l.length<=1048576:=by
  have h2:=b2i (f:=Ty.R9 a1W) (λ x=>by show 1<=1+_; omega) l;have h1:Ty.R9 e8 n+((W0 (Ty.R9 a1W) l+1)+0)<=1048576:=hp;omega
abbrev c7b:p9:=b9T
def b2g:p9:=c1c [e8,.d0 false a1W]
noncomputable def a1v:Env:={ P:=Tryz.prog,tt:=tt,C0:=[(35,b4t),(36,c7U),(14,b3p),(38,c7b),(19,b9J),(21,b9R)],res:=[Go.ResultVar.tmp 4],rs:=[Ty.bool],ps:=[PK.v e8,PK.v (Ty.d0 false a1W)],y5:=[(9,[(0,none),(5,none),(7,some (Ty.d0 true (Ty.d0 true p7))),(26,none),(27,none),(28,none)]),(13,[(0,none),(5,none),(7,some (Ty.d0 true (Ty.d0 true p7))),(26,none),(27,none),(28,none),(35,none),(36,none)])],nt:=78 }
theorem a3k:u6 a1v:=w9 q9 ⟨b4s,b6L,a8e,b4H,a95,b6N,trivial⟩
theorem a3h:y7 a1v Tryz.f11:=⟨rfl,rfl⟩
theorem c2R (x0:Int) (x1:List (Int×Int×Int×List UInt8×Unit)):exec a1v 1000 [.code (d8 Tryz.prog 11)] (s5 b2g.ps ((x0,x1,()))) =
  .f6 (True) (.f6 (True) (.f6 ((1:Int)<=M8 x0/\M8 x0<=(6:Int)) (.f6 ((0:Int)<=M8 x0/\M8 x0<=M8 x0/\M8 x0<=(140737488355328:Int)/\M8 x0*(↑(Ty.wb (Ty.d0 true p7)):Int)<=(140737488355328:Int)) (.ctL (f9 (d8 Tryz.prog 11) 9) (St.mk [(0,AV.val e8 (M8 x0)),(5,AV.ptr 1019 []),(7,AV.at_ 1000007 []),(26,AV.val (Ty.d0 false a1W) x1),(27,AV.val e8 (↑(List.length x1):Int)),(28,AV.val e8 (0:Int))] [(1019,g8.var u3 (((0:Int),b3l (M8 x0),()),List.replicate (Int.toNat (M8 x0)) i8,[],[],())),(1000007,g8.own (Ty.d0 true (Ty.d0 true p7)) (List.replicate (Int.toNat (M8 x0)) []))]))))):=by kernel_rfl
def a3j (v0:Int) (v26:List (Int×Int×Int×List UInt8×Unit)) (v27:Int) (v28:Int) (bc:Int) (aR:Int) (aY:List n9) (aQ:List (List UInt8)) (aH:List (List UInt8)) (bt:List (List (Int×List UInt8×Unit))):St:=St.mk [(0,AV.val e8 v0),(5,AV.ptr 1019 []),(7,AV.at_ 1000007 []),(26,AV.val (Ty.d0 false a1W) v26),(27,AV.val e8 v27),(28,AV.val e8 v28)] [(1019,g8.var u3 ((bc,aR,()),aY,aQ,aH,())),(1000007,g8.own (Ty.d0 true (Ty.d0 true p7)) bt)]
theorem c0N (v0:Int) (v26:List (Int×Int×Int×List UInt8×Unit)) (v27:Int) (v28:Int) (bc:Int) (aR:Int) (aY:List n9) (aQ:List (List UInt8)) (aH:List (List UInt8)) (bt:List (List (Int×List UInt8×Unit))):exec a1v 1000 (.code (f9 (d8 Tryz.prog 11) 9).1::.inLoop (f9 (d8 Tryz.prog 11) 9).1::(f9 (d8 Tryz.prog 11) 9).2) (a3j v0 v26 v27 v28 bc aR aY aQ aH bt) =
  cond (decide (v28<v27)) (.f6 ((0:Int)<=v28/\v28<(↑(List.length v26):Int)) (.f6 (Good ((bc,aR,()),aY,aQ,aH,())) (.ctL (f9 (d8 Tryz.prog 11) 13) (St.mk [(0,AV.val e8 v0),(5,AV.ptr 1019 []),(7,AV.at_ 1000007 []),(26,AV.val (Ty.d0 false a1W) v26),(27,AV.val e8 v27),(28,AV.val e8 v28),(35,AV.val e8 v0),(36,AV.val e8 (0:Int))] [(1019,g8.var u3 (Prod.fst (doW ((bc,aR,()),aY,aQ,aH,()) (List.getD v26 (Int.toNat v28) ((0:Int),(0:Int),(0:Int),[],()))))),(1000007,g8.own (Ty.d0 true (Ty.d0 true p7)) bt)])))) (.ret ((true,()))):=by kernel_rfl
def a4z (v0:Int) (v26:List (Int×Int×Int×List UInt8×Unit)) (v27:Int) (v28:Int) (v35:Int) (v36:Int) (bc:Int) (aR:Int) (aY:List n9) (aQ:List (List UInt8)) (aH:List (List UInt8)) (bt:List (List (Int×List UInt8×Unit))):St:=St.mk [(0,AV.val e8 v0),(5,AV.ptr 1019 []),(7,AV.at_ 1000007 []),(26,AV.val (Ty.d0 false a1W) v26),(27,AV.val e8 v27),(28,AV.val e8 v28),(35,AV.val e8 v35),(36,AV.val e8 v36)] [(1019,g8.var u3 ((bc,aR,()),aY,aQ,aH,())),(1000007,g8.own (Ty.d0 true (Ty.d0 true p7)) bt)]
theorem b67 (v0:Int) (v26:List (Int×Int×Int×List UInt8×Unit)) (v27:Int) (v28:Int) (v35:Int) (v36:Int) (bc:Int) (aR:Int) (aY:List n9) (aQ:List (List UInt8)) (aH:List (List UInt8)) (bt:List (List (Int×List UInt8×Unit))):exec a1v 1000 (.code (f9 (d8 Tryz.prog 11) 13).1::.inLoop (f9 (d8 Tryz.prog 11) 13).1::(f9 (d8 Tryz.prog 11) 13).2) (a4z v0 v26 v27 v28 v35 v36 bc aR aY aQ aH bt) =
  cond (decide (v36<v35)) (.f6 (List.length aY<=6/\List.length (E1 ((bc,aR,()),aY,aQ,aH,()) v36)<=5864062014805) (cond (decide (Prod.fst (Prod.snd (V5 ((bc,aR,()),aY,aQ,aH,()) v36))≠(0:Int))) (.ret ((false,()))) (.f6 ((0:Int)<=v36/\v36<(↑(List.length bt):Int)) (cond (decide ((↑(List.length (Prod.fst (V5 ((bc,aR,()),aY,aQ,aH,()) v36))):Int)<(↑(List.length (List.getD bt (Int.toNat v36) [])):Int))) (.ret ((false,()))) (.f6 ((0:Int)<=v36/\v36<(↑(List.length bt):Int)) (.f6 ((0:Int)<=(0:Int)/\(0:Int)<=(↑(List.length (List.getD bt (Int.toNat v36) [])):Int)/\(↑(List.length (List.getD bt (Int.toNat v36) [])):Int)<=(↑(List.length (Prod.fst (V5 ((bc,aR,()),aY,aQ,aH,()) v36))):Int)) (.f6 ((0:Int)<=v36/\v36<(↑(List.length bt):Int)) (.f6 (True) (cond (!decide (n5 (0:Int) (↑(List.length (List.getD bt (Int.toNat v36) [])):Int) (Prod.fst (V5 ((bc,aR,()),aY,aQ,aH,()) v36))=List.getD bt (Int.toNat v36) [])) (.ret ((false,()))) (.f6 ((0:Int)<=v36/\v36<(↑(List.length bt):Int)) (.f6 (r7 IntKind.i64 (v36+(1:Int))) (.ctL (f9 (d8 Tryz.prog 11) 13) (St.mk [(0,AV.val e8 v0),(5,AV.ptr 1019 []),(7,AV.at_ 1000007 []),(26,AV.val (Ty.d0 false a1W) v26),(27,AV.val e8 v27),(28,AV.val e8 v28),(35,AV.val e8 v35),(36,AV.val e8 (v36+(1:Int)))] [(1019,g8.var u3 ((bc,aR,()),aY,aQ,aH,())),(1000007,g8.own (Ty.d0 true (Ty.d0 true p7)) (List.set bt (Int.toNat v36) (Prod.fst (V5 ((bc,aR,()),aY,aQ,aH,()) v36))))]))))))))))))) (.f6 (r7 IntKind.i64 (v28+(1:Int))) (.ctL (f9 (d8 Tryz.prog 11) 9) (St.mk [(0,AV.val e8 v0),(5,AV.ptr 1019 []),(7,AV.at_ 1000007 []),(26,AV.val (Ty.d0 false a1W) v26),(27,AV.val e8 v27),(28,AV.val e8 (v28+(1:Int)))] [(1019,g8.var u3 ((bc,aR,()),aY,aQ,aH,())),(1000007,g8.own (Ty.d0 true (Ty.d0 true p7)) bt)]))):=by kernel_rfl
theorem c5J {w:f7} {p:Nat} (h:p<w.2.1.length):V5 w p=(E1 w p,0,()):=by
  unfold V5;exact if_neg (λ c=>b1M.2 ⟨by omega,by omega⟩ c)
attribute [local irreducible] doW V5 in
theorem b0c:b2g.Valid Tryz.prog 11:=by
  refine p9.o5 a3k rfl rfl Tryz.func11 (c:=d8 Tryz.prog 11) rfl rfl a3h rfl ?_;rintro ⟨(n0:Int),(l:List a00),⟨⟩⟩ hs -
  have hl:l.length<=1048576:=c1W hs;refine j5 (n:=1000) a3k a3h ?_;refine g9 (c2R n0 l) ?_;have hn:=c1M n0;obtain ⟨n,lz⟩:∃ n,n=M8 n0:=⟨_,rfl⟩;rw [<- lz] at hn ⊢;have iv:Ty.wb (.d0 true p7)=24:=rfl;simp only [j6,Tree.holds,true_and,true_implies,decide_eq_true_eq,decide_eq_false_iff_not,Bool.not_eq_true',Bool.not_eq_false',Int.toNat_natCast,j7,List.length_set,List.length_cons,List.length_nil,iv];refine ⟨hn,λ _=>⟨⟨by omega,by omega,by omega,by omega⟩,λ _=>?_⟩⟩;have hF:=a8P hn l;have rJ:∀ j:Nat,(List.replicate n.toNat ([]:List B9)).getD j []=E1 (F7 n l 0) j:=λ j=>by
    show _=((List.replicate n.toNat i8).getD j i8).2.1;rw [b3P,List.getD_eq_getElem?_getD,List.getElem?_replicate]
    split<;>rfl
  suffices go:Go.Ex.Reach a1v Tryz.f11 (true,()) () (.code (f9 (d8 Tryz.prog 11) 9).1::.inLoop (f9 (d8 Tryz.prog 11) 9).1::(f9 (d8 Tryz.prog 11) 9).2) (a3j n l (l.length:Int) ((0:Nat):Int) (F7 n l 0).1.1 (F7 n l 0).1.2.1 (F7 n l 0).2.1 (F7 n l 0).2.2.1 (F7 n l 0).2.2.2.1 (List.replicate n.toNat [])) by exact go
  refine Reach.K3 a3k a3h (λ i:Nat×List (List B9)=>a3j n l (l.length:Int) (i.1:Int) (F7 n l i.1).1.1 (F7 n l i.1).1.2.1 (F7 n l i.1).2.1 (F7 n l i.1).2.2.1 (F7 n l i.1).2.2.2.1 i.2) (λ i=>i.1<=l.length/\i.2.length=n.toNat/\∀ j:Nat,i.2.getD j []=E1 (F7 n l i.1) j) (λ i=>l.length - i.1) 1000 (λ _=>⟨s7 rfl,s7 rfl⟩) ?_ (0,List.replicate n.toNat []) ⟨Nat.zero_le _,List.length_replicate ..,rJ⟩;rintro ⟨i,ws⟩ ⟨k1,k2,k3⟩ - ih;have k1:i<=l.length:=k1;have k2:ws.length=n.toNat:=k2;have k3:∀ j:Nat,ws.getD j []=E1 (F7 n l i) j:=k3;obtain ⟨⟨said,aP⟩,hlen⟩:=hF i;refine g9 (c0N ..) ?_;have e1:((i:Nat):Int)+1=((i+1:Nat):Int):=by omega
  simp only [j6,Tree.holds,true_and,true_implies,decide_eq_true_eq,decide_eq_false_iff_not,Bool.not_eq_true',Bool.not_eq_false',Int.toNat_natCast,j7,List.length_set,List.length_cons,List.length_nil,e1];refine ⟨λ c=>⟨by omega,λ _=>⟨aP.b4e (by omega),λ _=>?_⟩⟩,λ c=>rfl⟩;obtain ⟨⟨said',gK⟩,lJ⟩:=hF (i+1);have bm:=c1I hn l i;have ih1:∀ vs:List (List B9),i<l.length->vs.length=n.toNat->(∀ j:Nat,vs.getD j []=E1 (F7 n l (i+1)) j)->Go.Ex.Reach a1v Tryz.f11 (true,()) () (.code (f9 (d8 Tryz.prog 11) 9).1::.inLoop (f9 (d8 Tryz.prog 11) 9).1::(f9 (d8 Tryz.prog 11) 9).2) (a3j n l (l.length:Int) ((i:Int)+1) (F7 n l (i+1)).1.1 (F7 n l (i+1)).1.2.1 (F7 n l (i+1)).2.1 (F7 n l (i+1)).2.2.1 (F7 n l (i+1)).2.2.2.1 vs):=λ vs h h2 h3=>by rw [e1]; exact ih (i+1,vs) ⟨by show i+1<=l.length; omega,h2,h3⟩ (by show l.length - (i+1)<l.length - i; omega)
  suffices go:Go.Ex.Reach a1v Tryz.f11 (true,()) () (.code (f9 (d8 Tryz.prog 11) 13).1::.inLoop (f9 (d8 Tryz.prog 11) 13).1::(f9 (d8 Tryz.prog 11) 13).2) (a4z n l (l.length:Int) (i:Int) n ((0:Nat):Int) (F7 n l (i+1)).1.1 (F7 n l (i+1)).1.2.1 (F7 n l (i+1)).2.1 (F7 n l (i+1)).2.2.1 (F7 n l (i+1)).2.2.2.1 ws) by exact go
  clear ih;generalize F7 n l i=w at aP hlen k3 bm;generalize F7 n l (i+1)=u at gK lJ bm ih1 ⊢;refine Reach.K3 a3k a3h (λ p:Nat×List (List B9)=>a4z n l (l.length:Int) (i:Int) n (p.1:Int) u.1.1 u.1.2.1 u.2.1 u.2.2.1 u.2.2.2.1 p.2) (λ p=>p.1<=n.toNat/\p.2.length=n.toNat/\(∀ j:Nat,j<p.1->p.2.getD j []=E1 u j)/\∀ j:Nat,p.1<=j->p.2.getD j []=E1 w j) (λ p=>n.toNat - p.1) 1000 (λ _=>⟨s7 rfl,s7 rfl⟩) ?_ (0,ws) ⟨Nat.zero_le _,k2,λ j hj=>absurd hj (Nat.not_lt_zero _),λ j _=>k3 j⟩;rintro ⟨p,vs⟩ ⟨m1,m2,m3,m4⟩ - ih;have m1:p<=n.toNat:=m1;have m2:vs.length=n.toNat:=m2;have m3:∀ j:Nat,j<p->vs.getD j []=E1 u j:=m3;have m4:∀ j:Nat,p<=j->vs.getD j []=E1 w j:=m4;refine g9 (b67 ..) ?_;have e2:((p:Nat):Int)+1=((p+1:Nat):Int):=by omega
  have qQ:p<n.toNat->V5 ((u.1.1,u.1.2.1,()),u.2.1,u.2.2.1,u.2.2.2.1,()) (p:Int)=(E1 u p,0,()):=λ h=>c5J (w:=u) (by omega);have eA:=m4 p (Nat.le_refl _);have kG:=bm p;have hle:=kG.length_le;have iH:(E1 u (p:Int)).length<=5864062014805:=Nat.le_trans (gK.sz.log p) (by omega);simp only [j6,Tree.holds,true_and,true_implies,decide_eq_true_eq,decide_eq_false_iff_not,Bool.not_eq_true',Bool.not_eq_false',Int.toNat_natCast,j7,List.length_set,List.length_cons,List.length_nil,e2];refine ⟨λ d=>?_,λ d=>⟨j7.2 ⟨by omega,by omega⟩,λ _=>?_⟩⟩
  . rw [qQ (by omega),eA];have ga:n5 0 ((E1 w (p:Int)).length:Int) (E1 u (p:Int))=E1 w p:=by
      rw [c5W]; exact (List.prefix_iff_eq_take.1 kG).symm
    refine ⟨⟨by omega,iH⟩,λ _=>⟨λ e=>absurd rfl e,λ _=>⟨⟨by omega,by omega⟩,λ _=>⟨λ e=>absurd e (by show ¬ ((E1 u (p:Int)).length:Int)<_; omega),λ _=>⟨⟨by omega,by omega⟩,λ _=>⟨⟨by omega,by omega,by show ((E1 w (p:Int)).length:Int)<=((E1 u (p:Int)).length:Int); omega⟩,λ _=>⟨⟨by omega,by omega⟩,λ _=>⟨λ e=>absurd ga e,λ _=>⟨⟨by omega,by omega⟩,λ _=>⟨j7.2 ⟨by omega,by omega⟩,λ _=>?_⟩⟩⟩⟩⟩⟩⟩⟩⟩⟩;have aO:∀ j:Nat,(vs.set p (E1 u p)).getD j []=if p=j then E1 u p else vs.getD j []:=λ j=>by
      rw [T1];by_cases c:p=j
      . rw [if_pos ⟨c,by omega⟩,if_pos c]
      . rw [if_neg (λ h=>c h.1),if_neg c]
    have:=ih (p+1,vs.set p (E1 u p)) ⟨by show p+1<=n.toNat; omega,by show (vs.set p _).length=_; rw [List.length_set]; exact m2,λ j hj=>(by
      have hj:j<p+1:=hj;show (vs.set p (E1 u p)).getD j []=_;rw [aO]
      split
      . rename_i e; rw [e]
      . exact m3 j (by omega)),λ j hj=>(by
      have hj:p+1<=j:=hj;show (vs.set p (E1 u p)).getD j []=_;rw [aO,if_neg (by omega)];exact m4 j (by omega))⟩ (by show n.toNat - (p+1)<n.toNat - p; omega)
    exact this
  . obtain rfl:p=n.toNat:=by omega
    refine ih1 vs (by omega) m2 (λ j=>?_);by_cases hj:j<n.toNat
    . exact m3 j hj
    . rw [m4 j (by omega)];have h1:E1 w (j:Int)=[]:=by
        show (w.2.1.getD j i8).2.1=[];rw [List.getD_eq_getElem?_getD,List.getElem?_eq_none (by omega)]; rfl
      have h2:E1 u (j:Int)=[]:=by
        show (u.2.1.getD j i8).2.1=[];rw [List.getD_eq_getElem?_getD,List.getElem?_eq_none (by omega)]; rfl
      rw [h1,h2]
end Go.Proofs.YtijlnmgondibnaaGreatDoor
