/- parttop's histories; poset.Order. No condition. -/
import Derived.Test.YtekbamiaenbhjaaStK
import Derived.Test.YtekbamiaenbhjaaVect
import Derived.Test.YtekbamiaenbhjaaTopP
namespace Go.Proofs.Ytekbamiaenbhjaa
open Go.Ex Go.Sort
set_option maxRecDepth 100000
theorem c46:Ty.wb Event=24:=rfl
def c1R:w9:={ ps:=[.v (.d0 false Event)],rs:=[.d0 true Event],pre:=fun x=>List.length (α:=y8) x.1≤1048576,fn:=fun x=>x,out:=fun _=>() }
noncomputable def c2E:Env:={ P:=Try.prog,tt:=tt,F2:=[],res:=[Go.ResultVar.tmp 2],rs:=[Ty.d0 true r8],ps:=[PK.v (Ty.d0 false r8)],D8:=[],nt:=8 }
theorem b6J:B6 c2E:=D0 w5 trivial
theorem b6C:E3 c2E Try.f128:=⟨rfl,rfl⟩
theorem c41 (x0:List (Int×Int×Int×Unit)):exec c2E 1000 [.code (d8 Try.prog 128)] (A5 c1R.ps ((x0,()))) =
  .both (x0=[]) (.ret (([],()))) (.e8 ((0:Nat)+List.length x0≤140737488355328∧((0:Nat)+List.length x0)*Ty.wb r8≤140737488355328) (.ret (([]++x0,())))):=by kernel_rfl
theorem b77:c1R.Valid Try.prog 128:=by
  refine w9.u7 b6J rfl rfl Try.func128 (c:=d8 Try.prog 128) rfl rfl b6C rfl ?_
  rintro ⟨(l:List (y8)),⟨⟩⟩ hp -
  have hp:l.length≤1048576:=hp
  refine n7 (n:=1000) b6J b6C ?_
  refine g9 (c41 l) ?_
  simp only [i9,Tree.holds,true_and,true_implies,decide_eq_true_eq,decide_eq_false_iff_not,Bool.not_eq_true',Bool.not_eq_false',Int.toNat_natCast,l7,List.length_set,List.length_cons,List.length_nil,c46]
  refine ⟨fun h=>?_,by omega,fun _=>rfl⟩
  show (([],()):List (y8)×Unit)=(l,())
  rw [show l=[] from h]
def F5 (l:List y8):List y8:=l.foldl (fun out x=>if t8 (out++[x])=0 then out++[x] else out) []
def b2E:w9:={ ps:=[.v Es],rs:=[.d0 true Event],pre:=fun _=>True,fn:=fun x=>(F5 x.1,()),out:=fun _=>() }
noncomputable def b2L:Env:={ P:=Try.prog,tt:=tt,F2:=[(127,a3l),(128,c1R)],res:=[Go.ResultVar.tmp 2],rs:=[Ty.d0 true r8],ps:=[PK.v (Ty.d0 false r8)],D8:=[(3,[(3,some (Ty.d0 true r8)),(6,none),(7,none),(8,none)])],nt:=25 }
theorem a83:B6 b2L:=D0 w5 ⟨a1b,b77,trivial⟩
theorem a8R:E3 b2L Try.f26:=⟨rfl,rfl⟩
theorem c4h (x0:List (Int×Int×Int×Unit)):exec b2L 1000 [.code (d8 Try.prog 26)] (A5 b2E.ps ((x0,()))) =
  .ctL (d9 (d8 Try.prog 26) 3) (St.mk [(3,AV.at_ 1000003 []),(6,AV.val (Ty.d0 false r8) x0),(7,vI (↑(List.length x0):Int)),(8,vI (0:Int))] [(1000003,f7.own (Ty.d0 true r8) [])]):=by kernel_rfl
def b4I (v6:List (Int×Int×Int×Unit)) (v7:Int) (v8:Int) (o1000003:List (Int×Int×Int×Unit)):St:=St.mk [(3,AV.at_ 1000003 []),(6,AV.val (Ty.d0 false r8) v6),(7,vI v7),(8,vI v8)] [(1000003,f7.own (Ty.d0 true r8) o1000003)]
theorem c2z (v6:List (Int×Int×Int×Unit)) (v7:Int) (v8:Int) (o1000003:List (Int×Int×Int×Unit)):exec b2L 1000 (.code (d9 (d8 Try.prog 26) 3).1::.inLoop (d9 (d8 Try.prog 26) 3).1::(d9 (d8 Try.prog 26) 3).2) (b4I v6 v7 v8 o1000003) =
  cond (decide (v8<v7)) (.e8 ((0:Int)≤v8∧v8<(↑(List.length v6):Int)) (.e8 (List.length o1000003≤1048576) (.e8 (List.length o1000003+List.length (List.set [((0:Int),(0:Int),(0:Int),())] (Int.toNat (↑0:Int)) (List.getD v6 (Int.toNat v8) ((0:Int),(0:Int),(0:Int),())))≤140737488355328∧(List.length o1000003+List.length (List.set [((0:Int),(0:Int),(0:Int),())] (Int.toNat (↑0:Int)) (List.getD v6 (Int.toNat v8) ((0:Int),(0:Int),(0:Int),()))))*Ty.wb r8≤140737488355328) (.e8 (True) (cond (decide (t8 (o1000003++List.set [((0:Int),(0:Int),(0:Int),())] (Int.toNat (↑0:Int)) (List.getD v6 (Int.toNat v8) ((0:Int),(0:Int),(0:Int),())))=(0:Int))) (.e8 (List.length o1000003+List.length (List.set [((0:Int),(0:Int),(0:Int),())] (Int.toNat (↑0:Int)) (List.getD v6 (Int.toNat v8) ((0:Int),(0:Int),(0:Int),())))≤140737488355328∧(List.length o1000003+List.length (List.set [((0:Int),(0:Int),(0:Int),())] (Int.toNat (↑0:Int)) (List.getD v6 (Int.toNat v8) ((0:Int),(0:Int),(0:Int),()))))*Ty.wb r8≤140737488355328) (.e8 (r9 IntKind.i64 (v8+(1:Int))) (.ctL (d9 (d8 Try.prog 26) 3) (St.mk [(3,AV.at_ 1000003 []),(6,AV.val (Ty.d0 false r8) v6),(7,vI v7),(8,vI (v8+(1:Int)))] [(1000003,f7.own (Ty.d0 true r8) (o1000003++List.set [((0:Int),(0:Int),(0:Int),())] (Int.toNat (↑0:Int)) (List.getD v6 (Int.toNat v8) ((0:Int),(0:Int),(0:Int),()))))])))) (.e8 (r9 IntKind.i64 (v8+(1:Int))) (.ctL (d9 (d8 Try.prog 26) 3) (St.mk [(3,AV.at_ 1000003 []),(6,AV.val (Ty.d0 false r8) v6),(7,vI v7),(8,vI (v8+(1:Int)))] [(1000003,f7.own (Ty.d0 true r8) o1000003)])))))))) (.ret ((o1000003,()))):=by kernel_rfl
theorem b1k:∀ (l out:List y8),t8 out=0→t8 (l.foldl (fun out x=>if t8 (out++[x])=0 then out++[x] else out) out)=0
  | [],out,h=>h
  | x::l,out,h=>by
    rw [List.foldl_cons]
    refine b1k l _ ?_
    split
    · assumption
    · exact h
theorem b3u (l:List y8):t8 (F5 l)=0:=b1k l [] (by decide)
theorem a7Y:b2E.Valid Try.prog 26:=by
  refine w9.u7 a83 rfl rfl Try.func26 (c:=d8 Try.prog 26) rfl rfl a8R rfl ?_
  rintro ⟨(l:List y8),⟨⟩⟩ - ⟨⟨hl,-⟩,-⟩
  have hl:l.length≤9223372036854775807:=hl
  refine n7 (n:=1000) a83 a8R ?_
  refine g9 (c4h l) ?_
  refine Reach.C1 a83 a8R (fun i:Nat=>b4I l (l.length:Int) (i:Int) (F5 (l.take i))) (fun i=>i≤l.length) (fun i=>l.length - i) 1000 (fun _=>⟨j7 rfl,j7 rfl⟩) ?_ 0 (Nat.zero_le _)
  rintro i (k1:i≤l.length) - ih
  refine g9 (c2z ..) ?_
  have e1:List.set [((0:Int),(0:Int),(0:Int),())] (Int.toNat (0:Int)) (l.getD (Int.toNat (i:Int)) (0,0,0,()))=[l.getD i V5]:=by rw [Int.toNat_natCast]; rfl
  have hs:=(U9 (b3u (l.take i))).1
  have w24:Ty.wb Event=24:=rfl
  have hnext:i<l.length→F5 (l.take (i+1))=if t8 (F5 (l.take i)++[l.getD i V5])=0 then F5 (l.take i)++[l.getD i V5] else F5 (l.take i):=fun hi=>by
    have:l.take (i+1)=l.take i++[l.getD i V5]:=a6f hi V5
    rw [this,F5,List.foldl_append]; rfl
  rw [e1]
  simp only [i9,Tree.holds,true_and,true_implies,decide_eq_true_eq,decide_eq_false_iff_not,Bool.not_eq_true',Bool.not_eq_false',Int.toNat_natCast,l7,List.length_set,List.length_cons,List.length_nil,w24]
  refine ⟨fun c=>⟨by omega,fun _=>⟨by omega,fun _=>⟨⟨by omega,by omega⟩,fun _=>⟨fun d=>⟨⟨by omega,by omega⟩,fun _=>⟨by omega,fun _=>?_⟩⟩,fun d=>⟨by omega,fun _=>?_⟩⟩⟩⟩⟩,fun c=>?_⟩
  · have next:=ih (i+1) (by omega) (by omega)
    rw [hnext (by omega),if_pos d] at next
    exact next
  · have next:=ih (i+1) (by omega) (by omega)
    rw [hnext (by omega),if_neg d] at next
    exact next
  · obtain rfl:i=l.length:=by omega
    rw [List.take_length]; rfl
def b3Y:w9:={ ps:=[],rs:=[.bool],pre:=fun _=>True,fn:=fun _=>(true,()),out:=fun _=>() }
noncomputable def b4J:Env:={ P:=Try.prog,tt:=tt,F2:=[(26,b2E),(74,a8A)],res:=[Go.ResultVar.tmp 0],rs:=[Ty.bool],ps:=[],D8:=[],nt:=34 }
theorem b1Y:B6 b4J:=D0 w5 ⟨a7Y,b0I,trivial⟩
theorem b1L:E3 b4J Try.f25:=⟨rfl,rfl⟩
theorem c2A:exec b4J 1000 [.code (d8 Try.prog 25)] (A5 b3Y.ps (())) =
  .e8 (True) (.e8 (True) (.e8 ((0:Int)≤(1:Int)∧(1:Int)<(↑(List.length (Prod.fst (a0G (F5 (List.set (List.set (List.set (List.set [((0:Int),(0:Int),(0:Int),()),((0:Int),(0:Int),(0:Int),()),((0:Int),(0:Int),(0:Int),()),((0:Int),(0:Int),(0:Int),())] (Int.toNat (↑0:Int)) ((0:Int),(2:Int),(0:Int),())) (Int.toNat (↑1:Int)) ((1:Int),(3:Int),(0:Int),())) (Int.toNat (↑2:Int)) ((1:Int),(3:Int),(0:Int),())) (Int.toNat (↑3:Int)) ((2:Int),(1:Int),(0:Int),())))))):Int)) (.ret ((H7 (Ty.arr 6 i5) (List.getD (Prod.fst (a0G (F5 (List.set (List.set (List.set (List.set [((0:Int),(0:Int),(0:Int),()),((0:Int),(0:Int),(0:Int),()),((0:Int),(0:Int),(0:Int),()),((0:Int),(0:Int),(0:Int),())] (Int.toNat (↑0:Int)) ((0:Int),(2:Int),(0:Int),())) (Int.toNat (↑1:Int)) ((1:Int),(3:Int),(0:Int),())) (Int.toNat (↑2:Int)) ((1:Int),(3:Int),(0:Int),())) (Int.toNat (↑3:Int)) ((2:Int),(1:Int),(0:Int),()))))) (Int.toNat (1:Int)) [(0:Int),(0:Int),(0:Int),(0:Int),(0:Int),(0:Int)]) (List.set (List.set [(0:Int),(0:Int),(0:Int),(0:Int),(0:Int),(0:Int)] (Int.toNat (↑0:Int)) (1:Int)) (Int.toNat (↑1:Int)) (1:Int)),()))))):=by kernel_rfl
theorem b3X:b3Y.Valid Try.prog 25:=by
  refine w9.u7 b1Y rfl rfl Try.func25 (c:=d8 Try.prog 25) rfl rfl b1L rfl ?_
  rintro ⟨⟩ - -
  refine n7 (n:=1000) b1Y b1L ?_
  refine g9 (c2A) ?_
  refine ⟨trivial,fun _=>⟨by decide,fun _=>⟨by decide +kernel,fun _=>?_⟩⟩⟩
  show ((_,()):Bool×Unit)=(true,())
  decide +kernel
def b1A:w9:={ ps:=[.v Es],rs:=[.bool],pre:=fun _=>True,fn:=fun _=>(true,()),out:=fun _=>() }
noncomputable def a0E:Env:={ P:=Try.prog,tt:=tt,F2:=[(25,b3Y),(26,b2E),(27,b36),(28,b3J),(29,b0M),(30,b3R),(19,c1Q)],res:=[Go.ResultVar.tmp 2],rs:=[Ty.bool],ps:=[PK.v (Ty.d0 false r8)],D8:=[(14,[(5,none),(6,some Is),(8,none),(9,some (Ty.d0 true Is)),(10,some (Ty.map true i5 i5)),(57,some (Ty.d0 true r8)),(58,none),(59,none)]),(19,[(5,none),(6,some Is),(8,none),(9,some (Ty.d0 true Is)),(10,some (Ty.map true i5 i5)),(13,none)])],nt:=111 }
theorem a14:B6 a0E:=D0 w5 ⟨b3X,a7Y,b35,b3I,b2r,b3Q,b75,trivial⟩
theorem a11:E3 a0E Try.f5:=⟨rfl,rfl⟩
theorem b5I (x0:List (Int×Int×Int×Unit)):exec a0E 1000 [.code (d8 Try.prog 5)] (A5 b1A.ps ((x0,()))) =
  .e8 (True) (.e8 (True) (cond (decide ((20:Int)<(↑(List.length (F5 x0)):Int))) (.e8 ((0:Int)≤(0:Int)∧(0:Int)≤(20:Int)∧(20:Int)≤(↑(List.length (F5 x0)):Int)) (.e8 (True) (.e8 (True) (cond (decide (Prod.fst (Prod.snd (D9 (B5 (0:Int) (20:Int) (F5 x0))))≠(0:Int))) (.ret ((false,()))) (cond (decide (Prod.fst (Prod.snd (K8 (B5 (0:Int) (20:Int) (F5 x0))))≠(0:Int))) (.ret ((false,()))) (cond (decide ((↑(List.length (Prod.fst (K8 (B5 (0:Int) (20:Int) (F5 x0))))):Int)≠(20:Int) - (0:Int))) (.ret ((false,()))) (.e8 (True) (.ctL (d9 (d8 Try.prog 5) 14) (St.mk [(5,vI (Prod.fst (Prod.snd (L9 ((20:Int) - (0:Int)) (Prod.fst (D9 (B5 (0:Int) (20:Int) (F5 x0)))))))),(6,AV.at_ 1000006 []),(8,AV.ptr 8 []),(9,AV.at_ 1000009 []),(10,AV.at_ 1000010 []),(57,AV.at_ 1000057 []),(58,vI ((20:Int) - (0:Int))),(59,vI (0:Int))] [(8,f7.var (Ty.pair i5 (Ty.pair (Ty.d0 true r7) Ty.unit)) ((20:Int) - (0:Int),Prod.fst (D9 (B5 (0:Int) (20:Int) (F5 x0))),())),(1000006,f7.own Is (Prod.fst (K8 (B5 (0:Int) (20:Int) (F5 x0))))),(1000009,f7.own (Ty.d0 true Is) (Prod.fst (L9 ((20:Int) - (0:Int)) (Prod.fst (D9 (B5 (0:Int) (20:Int) (F5 x0))))))),(1000010,f7.own (Ty.map true i5 i5) (some [])),(1000057,f7.own (Ty.d0 true r8) (B5 (0:Int) (20:Int) (F5 x0)))]))))))))) (.e8 (True) (.e8 (True) (cond (decide (Prod.fst (Prod.snd (D9 (F5 x0)))≠(0:Int))) (.ret ((false,()))) (cond (decide (Prod.fst (Prod.snd (K8 (F5 x0)))≠(0:Int))) (.ret ((false,()))) (cond (decide ((↑(List.length (Prod.fst (K8 (F5 x0)))):Int)≠(↑(List.length (F5 x0)):Int))) (.ret ((false,()))) (.e8 (True) (.ctL (d9 (d8 Try.prog 5) 14) (St.mk [(5,vI (Prod.fst (Prod.snd (L9 (↑(List.length (F5 x0)):Int) (Prod.fst (D9 (F5 x0))))))),(6,AV.at_ 1000006 []),(8,AV.ptr 8 []),(9,AV.at_ 1000009 []),(10,AV.at_ 1000010 []),(57,AV.at_ 1000057 []),(58,vI (↑(List.length (F5 x0)):Int)),(59,vI (0:Int))] [(8,f7.var (Ty.pair i5 (Ty.pair (Ty.d0 true r7) Ty.unit)) ((↑(List.length (F5 x0)):Int),Prod.fst (D9 (F5 x0)),())),(1000006,f7.own Is (Prod.fst (K8 (F5 x0)))),(1000009,f7.own (Ty.d0 true Is) (Prod.fst (L9 (↑(List.length (F5 x0)):Int) (Prod.fst (D9 (F5 x0)))))),(1000010,f7.own (Ty.map true i5 i5) (some [])),(1000057,f7.own (Ty.d0 true r8) (F5 x0))])))))))))):=by kernel_rfl
def a20 (v5:Int) (v58:Int) (v59:Int) (o8_1:Int) (o8_2_1:List (Int×Int×Unit)) (o1000006:List Int) (o1000009:List (List Int)) (o1000010:List (Int×Int)) (o1000057:List (Int×Int×Int×Unit)):St:=St.mk [(5,vI v5),(6,AV.at_ 1000006 []),(8,AV.ptr 8 []),(9,AV.at_ 1000009 []),(10,AV.at_ 1000010 []),(57,AV.at_ 1000057 []),(58,vI v58),(59,vI v59)] [(8,f7.var (Ty.pair i5 (Ty.pair (Ty.d0 true r7) Ty.unit)) (o8_1,o8_2_1,())),(1000006,f7.own Is o1000006),(1000009,f7.own (Ty.d0 true Is) o1000009),(1000010,f7.own (Ty.map true i5 i5) (some o1000010)),(1000057,f7.own (Ty.d0 true r8) o1000057)]
theorem b2v (v5:Int) (v58:Int) (v59:Int) (o8_1:Int) (o8_2_1:List (Int×Int×Unit)) (o1000006:List Int) (o1000009:List (List Int)) (o1000010:List (Int×Int)) (o1000057:List (Int×Int×Int×Unit)):exec a0E 1000 (.code (d9 (d8 Try.prog 5) 14).1::.inLoop (d9 (d8 Try.prog 5) 14).1::(d9 (d8 Try.prog 5) 14).2) (a20 v5 v58 v59 o8_1 o8_2_1 o1000006 o1000009 o1000010 o1000057) =
  cond (decide (v59<v58)) (.e8 ((0:Int)≤v59∧v59<(↑(List.length o1000057):Int)) (.e8 (r9 IntKind.i64 (v59+(1:Int))) (.ctL (d9 (d8 Try.prog 5) 14) (St.mk [(5,vI v5),(6,AV.at_ 1000006 []),(8,AV.ptr 8 []),(9,AV.at_ 1000009 []),(10,AV.at_ 1000010 []),(57,AV.at_ 1000057 []),(58,vI v58),(59,vI (v59+(1:Int)))] [(8,f7.var (Ty.pair i5 (Ty.pair (Ty.d0 true r7) Ty.unit)) (o8_1,o8_2_1,())),(1000006,f7.own Is o1000006),(1000009,f7.own (Ty.d0 true Is) o1000009),(1000010,f7.own (Ty.map true i5 i5) (some (a2d (H7 i5) (Prod.fst (List.getD o1000057 (Int.toNat v59) ((0:Int),(0:Int),(0:Int),()))) (1:Int) o1000010))),(1000057,f7.own (Ty.d0 true r8) o1000057)])))) (.ctL (d9 (d8 Try.prog 5) 19) (St.mk [(5,vI v5),(6,AV.at_ 1000006 []),(8,AV.ptr 8 []),(9,AV.at_ 1000009 []),(10,AV.at_ 1000010 []),(13,vI (1:Int))] [(8,f7.var (Ty.pair i5 (Ty.pair (Ty.d0 true r7) Ty.unit)) (o8_1,o8_2_1,())),(1000006,f7.own Is o1000006),(1000009,f7.own (Ty.d0 true Is) o1000009),(1000010,f7.own (Ty.map true i5 i5) (some o1000010))])):=by kernel_rfl
def a2Z (v5:Int) (v13:Int) (o8_1:Int) (o8_2_1:List (Int×Int×Unit)) (o1000006:List Int) (o1000009:List (List Int)) (o1000010:List (Int×Int)):St:=St.mk [(5,vI v5),(6,AV.at_ 1000006 []),(8,AV.ptr 8 []),(9,AV.at_ 1000009 []),(10,AV.at_ 1000010 []),(13,vI v13)] [(8,f7.var (Ty.pair i5 (Ty.pair (Ty.d0 true r7) Ty.unit)) (o8_1,o8_2_1,())),(1000006,f7.own Is o1000006),(1000009,f7.own (Ty.d0 true Is) o1000009),(1000010,f7.own (Ty.map true i5 i5) (some o1000010))]
theorem b2u (v5:Int) (v13:Int) (o8_1:Int) (o8_2_1:List (Int×Int×Unit)) (o1000006:List Int) (o1000009:List (List Int)) (o1000010:List (Int×Int)):exec a0E 1000 (.code (d9 (d8 Try.prog 5) 19).1::.inLoop (d9 (d8 Try.prog 5) 19).1::(d9 (d8 Try.prog 5) 19).2) (a2Z v5 v13 o8_1 o8_2_1 o1000006 o1000009 o1000010) =
  cond (decide (v13<(↑(List.length o1000006):Int))) (.e8 (r9 IntKind.i64 (v13 - (1:Int))) (.e8 ((0:Int)≤v13 - (1:Int)∧v13 - (1:Int)<(↑(List.length o1000006):Int)) (.e8 ((0:Int)≤v13∧v13<(↑(List.length o1000006):Int)) (.e8 ([]++[Step.j6 1]=[]++[Step.j6 1]∧List.length o8_2_1+List.length (List.set [((0:Int),(0:Int),())] (Int.toNat (↑0:Int)) (List.getD o1000006 (Int.toNat (v13 - (1:Int))) (0:Int),List.getD o1000006 (Int.toNat v13) (0:Int),()))≤140737488355328∧(List.length o8_2_1+List.length (List.set [((0:Int),(0:Int),())] (Int.toNat (↑0:Int)) (List.getD o1000006 (Int.toNat (v13 - (1:Int))) (0:Int),List.getD o1000006 (Int.toNat v13) (0:Int),())))*Ty.wb r7≤140737488355328) (.e8 (r9 IntKind.i64 (v13+(1:Int))) (.ctL (d9 (d8 Try.prog 5) 19) (St.mk [(5,vI v5),(6,AV.at_ 1000006 []),(8,AV.ptr 8 []),(9,AV.at_ 1000009 []),(10,AV.at_ 1000010 []),(13,vI (v13+(1:Int)))] [(8,f7.var (Ty.pair i5 (Ty.pair (Ty.d0 true r7) Ty.unit)) (o8_1,o8_2_1++List.set [((0:Int),(0:Int),())] (Int.toNat (↑0:Int)) (List.getD o1000006 (Int.toNat (v13 - (1:Int))) (0:Int),List.getD o1000006 (Int.toNat v13) (0:Int),()),())),(1000006,f7.own Is o1000006),(1000009,f7.own (Ty.d0 true Is) o1000009),(1000010,f7.own (Ty.map true i5 i5) (some o1000010))]))))))) (.e8 (True) (cond (decide (v5=(0:Int))) (cond (decide (Prod.fst (Prod.snd (a1I o8_1 o8_2_1))=(0:Int))) (.e8 (True) (cond (decide (Prod.fst (a1I o8_1 o8_2_1)=o1000006)) (.e8 ((↑(List.length (Option.getD (some o1000010) [])):Int)≤(9223372036854775807:Int)) (.ret ((decide ((↑(List.length o1000009):Int)≤(↑(List.length (Option.getD (some o1000010) [])):Int)),())))) (.ret ((false,()))))) (.ret ((false,())))) (.ret ((false,()))))):=by kernel_rfl
attribute [local irreducible] F5 D9 K8 L9 a1I exec
theorem a9T:b1A.Valid Try.prog 5:=by
  refine w9.u7 a14 rfl rfl Try.func5 (c:=d8 Try.prog 5) rfl rfl a11 rfl ?_
  rintro ⟨(l:List y8),⟨⟩⟩ - -
  refine n7 (n:=1000) a14 a11 ?_
  refine g9 (b5I l) ?_
  have main:∀ h:List y8,t8 h=0→h.length≤20→(D9 h).2.1=0∧(K8 h).2.1=0∧(K8 h).1.length=h.length∧Go.Ex.Reach a0E Try.f5 (true,()) () (.code (d9 (d8 Try.prog 5) 14).1::.inLoop (d9 (d8 Try.prog 5) 14).1::(d9 (d8 Try.prog 5) 14).2) (a20 (L9 (h.length:Int) (D9 h).1).2.1 (h.length:Int) ((0:Nat):Int) (h.length:Int) (D9 h).1 (K8 h).1 (L9 (h.length:Int) (D9 h).1).1 [] h):=by
    intro h hh hn
    have hlin:=b84 hh
    have hA:=a9Y hh hn
    obtain ⟨hc1,hc2⟩:=b74 hh hn
    have hord:=hlin.a1I hn hA
    have hpl:=b1a hh h.length (Nat.le_refl _)
    have ht:(K8 h).2.1=0:=by rw [K8,if_neg (by rw [hh]; simp)]
    have hTl:=hlin.len
    refine ⟨by rw [c0i,hh],ht,hTl,?_⟩
    rw [hc1]
    generalize (K8 h).1=T at *
    generalize (D9 h).1=A at *
    generalize (L9 (h.length:Int) A).1=C at *
    refine Reach.C1 a14 a11 (fun i:Nat=>a20 0 (h.length:Int) (i:Int) (h.length:Int) A T C (T1 h i) h) (fun i=>i≤h.length) (fun i=>h.length - i) 1000 (fun _=>⟨j7 rfl,j7 rfl⟩) ?_ 0 (Nat.zero_le _)
    rintro i (k1:i≤h.length) - ih
    refine g9 (b2v ..) ?_
    simp only [i9,Tree.holds,true_and,true_implies,decide_eq_true_eq,decide_eq_false_iff_not,Bool.not_eq_true',Bool.not_eq_false',Int.toNat_natCast,l7,List.length_set,List.length_cons,List.length_nil]
    refine ⟨fun c=>⟨by omega,fun _=>⟨by omega,fun _=>?_⟩⟩,fun c=>?_⟩
    · have next:=ih (i+1) (by omega) (by omega)
      rw [a4p (by omega)] at next
      exact next
    obtain rfl:i=h.length:=by omega
    clear ih
    suffices G:∀ k:Nat,k≤h.length - 1→Go.Ex.Reach a0E Try.f5 (true,()) () (.code (d9 (d8 Try.prog 5) 19).1::.inLoop (d9 (d8 Try.prog 5) 19).1::(d9 (d8 Try.prog 5) 19).2) (a2Z 0 ((k+1:Nat):Int) (h.length:Int) (A++Z5 T k) T C (T1 h h.length)) by
      have:=G 0 (Nat.zero_le _)
      rw [show A++Z5 T 0=A from List.append_nil A] at this
      exact this
    refine Reach.C1 a14 a11 (fun k:Nat=>a2Z 0 ((k+1:Nat):Int) (h.length:Int) (A++Z5 T k) T C (T1 h h.length)) (fun k=>k≤h.length - 1) (fun k=>h.length - k) 1000 (fun _=>⟨j7 rfl,j7 rfl⟩) ?_
    rintro k (k2:k≤h.length - 1) - ih
    refine g9 (b2u ..) ?_
    have e1:((k+1:Nat):Int) - 1=(k:Int):=by omega
    have e2:((k+1:Nat):Int)+1=((k+1+1:Nat):Int):=by omega
    have e3:∀ q:s5,List.set [((0:Int),(0:Int),())] (Int.toNat (0:Int)) q=[q]:=fun _=>rfl
    have w16:Ty.wb r7=16:=rfl
    have hal:(A++Z5 T k).length≤500:=by rw [List.length_append,a8J]; omega
    rw [e1,e2]
    simp only [i9,Tree.holds,true_and,true_implies,decide_eq_true_eq,decide_eq_false_iff_not,Bool.not_eq_true',Bool.not_eq_false',Int.toNat_natCast,l7,List.length_set,List.length_cons,List.length_nil,e3,w16]
    refine ⟨fun c=>⟨by omega,fun _=>⟨by omega,fun _=>⟨by omega,fun _=>⟨⟨by omega,by omega⟩,fun _=>⟨by omega,fun _=>?_⟩⟩⟩⟩⟩,fun c=>?_⟩
    · have next:=ih (k+1) (by omega) (by omega)
      rw [Z5,← List.append_assoc] at next
      exact next
    · have hk:k=h.length - 1:=by omega
      subst hk
      rw [hord]
      refine ⟨⟨fun _=>⟨fun _=>⟨?_,fun _=>?_⟩,fun d=>absurd rfl d⟩,fun d=>absurd rfl d⟩,fun d=>absurd trivial d⟩
      · show ((T1 h h.length).length:Int)≤9223372036854775807
        have:=a4q (h:=h) h.length
        omega
      · exact c5j (by show (C.length:Int)≤((T1 h h.length).length:Int); omega)
  have hh:=b3u l
  have e20:(20:Int) - 0=((20:Nat):Int):=by decide
  have ec:B5 0 20 (F5 l)=(F5 l).take 20:=by rw [B5,Int.toNat_zero,List.drop_zero]; rfl
  rw [e20,ec]
  generalize F5 l=g at *
  simp only [i9,Tree.holds,true_and,true_implies,decide_eq_true_eq,decide_eq_false_iff_not,Bool.not_eq_true',Bool.not_eq_false',Int.toNat_natCast,l7,List.length_set,List.length_cons,List.length_nil]
  refine ⟨fun c=>⟨by omega,fun _=>?_⟩,fun c=>?_⟩
  · have hl:(g.take 20).length=20:=by rw [List.length_take]; omega
    obtain ⟨m1,m2,m3,m4⟩:=main (g.take 20) (b4X hh 20) (by omega)
    rw [hl] at m3 m4
    exact ⟨fun d=>absurd m1 d,fun _=>⟨fun d=>absurd m2 d,fun _=>⟨fun d=>absurd (by rw [m3]) d,fun _=>m4⟩⟩⟩
  · obtain ⟨m1,m2,m3,m4⟩:=main g hh (by omega)
    exact ⟨fun d=>absurd m1 d,fun _=>⟨fun d=>absurd m2 d,fun _=>⟨fun d=>absurd (by rw [m3]) d,fun _=>m4⟩⟩⟩
end Go.Proofs.Ytekbamiaenbhjaa
