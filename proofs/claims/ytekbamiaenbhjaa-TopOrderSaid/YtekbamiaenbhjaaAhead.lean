/- stamp.Ahead: its contract: which events are ahead of which. -/
import Derived.Test.YtekbamiaenbhjaaBase
import Derived.Test.YtekbamiaenbhjaaHist
namespace Go.Proofs.Ytekbamiaenbhjaa
open Go.Ex
set_option maxRecDepth 100000
def W9 (h:List Ev) (a b:Nat):Bool:=decide ((h.getD a e0).1=(h.getD b e0).1) || (decide ((h.getD a e0).2.1=2) && decide ((h.getD b e0).2.1=3) && decide ((h.getD a e0).2.2.1=(h.getD b e0).2.2.1))
def a0n (h:List Ev) (T:Nat→Nat→Bool) (b:Nat):Nat→Nat→Bool
  | 0,_=>false
  | a+1,k=>a0n h T b a k || (W9 h a b && (decide (k=a) || T a k))
def a7q (h:List Ev):Nat→Nat→Nat→Bool
  | 0,_,_=>false
  | n+1,b,k=>if b=n then a0n h (a7q h n) n n k else a7q h n b k
def hb (h:List Ev) (b k:Nat):Bool:=a7q h (b+1) b k
def P5 (h:List Ev) (a:Nat):Nat→List (Int×Int×Unit)
  | 0=>[]
  | b+1=>P5 h a b++(if hb h b a=true then [((a:Int),(b:Int),())] else [])
def J4 (h:List Ev) (n:Nat):Nat→List (Int×Int×Unit)
  | 0=>[]
  | a+1=>J4 h n a++P5 h a n
def D9 (h:List Ev):List (Int×Int×Unit)×Int×Unit:=if t8 h≠0 then ([],t8 h,()) else (J4 h h.length h.length,0,())
def b36:w9:={ ps:=[.v Es],rs:=[.d0 true r7,i5],pre:=fun _=>True,fn:=fun x=>D9 x.1,out:=fun _=>() }
noncomputable def a08:Env:={ P:=Try.prog,tt:=tt,F2:=[(127,a3l)],res:=[Go.ResultVar.tmp 2,Go.ResultVar.tmp 3],rs:=[Ty.d0 true r7,Ty.int IntKind.i64],ps:=[PK.v (Ty.d0 false r8)],D8:=[(6,[(0,none),(5,some (Ty.d0 true (Ty.d0 true Ty.bool))),(23,none),(24,none),(25,none)]),(10,[(0,none),(5,some (Ty.d0 true (Ty.d0 true Ty.bool))),(6,none),(7,none),(23,none),(24,none),(25,none),(38,none),(39,none),(40,none)]),(15,[(0,none),(5,some (Ty.d0 true (Ty.d0 true Ty.bool))),(6,none),(7,none),(23,none),(24,none),(25,none),(38,none),(39,none),(40,none),(77,none),(78,none),(79,none)]),(23,[(0,none),(5,some (Ty.d0 true (Ty.d0 true Ty.bool))),(12,some (Ty.d0 true r7)),(104,none),(105,none)]),(26,[(0,none),(5,some (Ty.d0 true (Ty.d0 true Ty.bool))),(12,some (Ty.d0 true r7)),(13,none),(104,none),(105,none),(109,none),(110,none)])],nt:=129 }
theorem a0D:B6 a08:=D0 w5 ⟨a1b,trivial⟩
theorem a0B:E3 a08 Try.f27:=⟨rfl,rfl⟩
theorem c2G (x0:List (Int×Int×Int×Unit)):exec a08 1000 [.code (d8 Try.prog 27)] (A5 b36.ps ((x0,()))) =
  .e8 (True) (cond (decide (t8 x0≠(0:Int))) (.ret (([],t8 x0,()))) (.e8 ((0:Int)≤(↑(List.length x0):Int)∧(↑(List.length x0):Int)≤(↑(List.length x0):Int)∧(↑(List.length x0):Int)≤(140737488355328:Int)∧(↑(List.length x0):Int)*(↑(Ty.wb (Ty.d0 true Ty.bool)):Int)≤(140737488355328:Int)) (.ctL (d9 (d8 Try.prog 27) 6) (St.mk [(0,AV.val (Ty.d0 false r8) x0),(5,AV.at_ 1000005 []),(23,AV.val (Ty.d0 false r8) x0),(24,vI (↑(List.length x0):Int)),(25,vI (0:Int))] [(1000005,f7.own (Ty.d0 true (Ty.d0 true Ty.bool)) (List.replicate (Int.toNat (↑(List.length x0):Int)) []))])))):=by kernel_rfl
def b19 (v0:List (Int×Int×Int×Unit)) (v23:List (Int×Int×Int×Unit)) (v24:Int) (v25:Int) (o1000005:List (List Bool)):St:=St.mk [(0,AV.val (Ty.d0 false r8) v0),(5,AV.at_ 1000005 []),(23,AV.val (Ty.d0 false r8) v23),(24,vI v24),(25,vI v25)] [(1000005,f7.own (Ty.d0 true (Ty.d0 true Ty.bool)) o1000005)]
theorem c0D (v0:List (Int×Int×Int×Unit)) (v23:List (Int×Int×Int×Unit)) (v24:Int) (v25:Int) (o1000005:List (List Bool)):exec a08 1000 (.code (d9 (d8 Try.prog 27) 6).1::.inLoop (d9 (d8 Try.prog 27) 6).1::(d9 (d8 Try.prog 27) 6).2) (b19 v0 v23 v24 v25 o1000005) =
  cond (decide (v25<v24)) (.e8 ((0:Int)≤v25∧v25<(↑(List.length v23):Int)) (.e8 ((0:Int)≤(↑(List.length v0):Int)∧(↑(List.length v0):Int)≤(↑(List.length v0):Int)∧(↑(List.length v0):Int)≤(140737488355328:Int)∧(↑(List.length v0):Int)*(↑(Ty.wb Ty.bool):Int)≤(140737488355328:Int)) (.e8 ((0:Int)≤v25∧v25<(↑(List.length o1000005):Int)) (.e8 ((0:Int)≤(0:Int)∧(0:Int)≤v25∧v25≤(↑(List.length v0):Int)) (.ctL (d9 (d8 Try.prog 27) 10) (St.mk [(0,AV.val (Ty.d0 false r8) v0),(5,AV.at_ 1000005 []),(6,vI v25),(7,AV.ptr 7 []),(23,AV.val (Ty.d0 false r8) v23),(24,vI v24),(25,vI v25),(38,AV.val (Ty.d0 false r8) (B5 (0:Int) v25 v0)),(39,vI (↑(List.length (B5 (0:Int) v25 v0)):Int)),(40,vI (0:Int))] [(7,f7.var r8 (List.getD v23 (Int.toNat v25) ((0:Int),(0:Int),(0:Int),()))),(1000005,f7.own (Ty.d0 true (Ty.d0 true Ty.bool)) (List.set o1000005 (Int.toNat v25) (List.replicate (Int.toNat (↑(List.length v0):Int)) false)))])))))) (.ctL (d9 (d8 Try.prog 27) 23) (St.mk [(0,AV.val (Ty.d0 false r8) v0),(5,AV.at_ 1000005 []),(12,AV.at_ 1000012 []),(104,vI (↑(List.length v0):Int)),(105,vI (0:Int))] [(1000005,f7.own (Ty.d0 true (Ty.d0 true Ty.bool)) o1000005),(1000012,f7.own (Ty.d0 true r7) [])])):=by kernel_rfl
def a5X (v0:List (Int×Int×Int×Unit)) (v6:Int) (v23:List (Int×Int×Int×Unit)) (v24:Int) (v25:Int) (v38:List (Int×Int×Int×Unit)) (v39:Int) (v40:Int) (o7_1:Int) (o7_2_1:Int) (o7_2_2_1:Int) (o1000005:List (List Bool)):St:=St.mk [(0,AV.val (Ty.d0 false r8) v0),(5,AV.at_ 1000005 []),(6,vI v6),(7,AV.ptr 7 []),(23,AV.val (Ty.d0 false r8) v23),(24,vI v24),(25,vI v25),(38,AV.val (Ty.d0 false r8) v38),(39,vI v39),(40,vI v40)] [(7,f7.var r8 (o7_1,o7_2_1,o7_2_2_1,())),(1000005,f7.own (Ty.d0 true (Ty.d0 true Ty.bool)) o1000005)]
theorem b8S (v0:List (Int×Int×Int×Unit)) (v6:Int) (v23:List (Int×Int×Int×Unit)) (v24:Int) (v25:Int) (v38:List (Int×Int×Int×Unit)) (v39:Int) (v40:Int) (o7_1:Int) (o7_2_1:Int) (o7_2_2_1:Int) (o1000005:List (List Bool)):exec a08 1000 (.code (d9 (d8 Try.prog 27) 10).1::.inLoop (d9 (d8 Try.prog 27) 10).1::(d9 (d8 Try.prog 27) 10).2) (a5X v0 v6 v23 v24 v25 v38 v39 v40 o7_1 o7_2_1 o7_2_2_1 o1000005) =
  let q0:=(List.set o1000005 (Int.toNat v6) (List.set (List.getD o1000005 (Int.toNat v6) []) (Int.toNat v40) true)); let q1:=(1000005,f7.own (Ty.d0 true (Ty.d0 true Ty.bool)) o1000005); let q2:=(7,f7.var r8 (o7_1,o7_2_1,o7_2_2_1,())); let q3:=(24,vI v24); let q4:=(23,AV.val (Ty.d0 false r8) v23); let q5:=(0,AV.val (Ty.d0 false r8) v0); let q6:=(25,vI v25); let q7:=(39,vI v39); let q8:=(List.getD v38 (Int.toNat v40) ((0:Int),(0:Int),(0:Int),())); let q9:=(38,AV.val (Ty.d0 false r8) v38); let q10:=(6,vI v6); let q11:=(40,vI (v40+(1:Int))); let q12:=(78,vI (↑(List.length (List.getD q0 (Int.toNat v40) [])):Int)); cond (decide (v40<v39)) (.e8 ((0:Int)≤v40∧v40<(↑(List.length v38):Int)) (cond (decide (Prod.fst q8≠o7_1)) (cond (decide (Prod.fst (Prod.snd q8)=(2:Int))) (cond (decide (o7_2_1=(3:Int))) (cond (!decide (Prod.fst (Prod.snd (Prod.snd q8))=o7_2_2_1)) (.e8 (r9 IntKind.i64 (v40+(1:Int))) (.ctL (d9 (d8 Try.prog 27) 10) (St.mk [q5,(5,AV.at_ 1000005 []),q10,(7,AV.ptr 7 []),q4,q3,q6,q9,q7,q11] [q2,q1]))) (.e8 ((0:Int)≤v6∧v6<(↑(List.length o1000005):Int)) (.e8 ((0:Int)≤v40∧v40<(↑(List.length (List.getD o1000005 (Int.toNat v6) [])):Int)) (.e8 ((0:Int)≤v40∧v40<(↑(List.length q0):Int)) (.ctL (d9 (d8 Try.prog 27) 15) (St.mk [q5,(5,AV.at_ 1000005 []),q10,(7,AV.ptr 7 []),q4,q3,q6,q9,q7,(40,vI v40),(77,AV.at_ 1000005 [Step.idx v40]),q12,(79,vI (0:Int))] [q2,(1000005,f7.own (Ty.d0 true (Ty.d0 true Ty.bool)) q0)])))))) (.e8 (r9 IntKind.i64 (v40+(1:Int))) (.ctL (d9 (d8 Try.prog 27) 10) (St.mk [q5,(5,AV.at_ 1000005 []),q10,(7,AV.ptr 7 []),q4,q3,q6,q9,q7,q11] [q2,q1])))) (.e8 (r9 IntKind.i64 (v40+(1:Int))) (.ctL (d9 (d8 Try.prog 27) 10) (St.mk [q5,(5,AV.at_ 1000005 []),q10,(7,AV.ptr 7 []),q4,q3,q6,q9,q7,q11] [q2,q1])))) (.e8 ((0:Int)≤v6∧v6<(↑(List.length o1000005):Int)) (.e8 ((0:Int)≤v40∧v40<(↑(List.length (List.getD o1000005 (Int.toNat v6) [])):Int)) (.e8 ((0:Int)≤v40∧v40<(↑(List.length q0):Int)) (.ctL (d9 (d8 Try.prog 27) 15) (St.mk [q5,(5,AV.at_ 1000005 []),q10,(7,AV.ptr 7 []),q4,q3,q6,q9,q7,(40,vI v40),(77,AV.at_ 1000005 [Step.idx v40]),q12,(79,vI (0:Int))] [q2,(1000005,f7.own (Ty.d0 true (Ty.d0 true Ty.bool)) q0)]))))))) (.e8 (r9 IntKind.i64 (v25+(1:Int))) (.ctL (d9 (d8 Try.prog 27) 6) (St.mk [q5,(5,AV.at_ 1000005 []),q4,q3,(25,vI (v25+(1:Int)))] [q1]))):=by kernel_rfl
def b0i (v0:List (Int×Int×Int×Unit)) (v104:Int) (v105:Int) (o1000005:List (List Bool)) (o1000012:List (Int×Int×Unit)):St:=St.mk [(0,AV.val (Ty.d0 false r8) v0),(5,AV.at_ 1000005 []),(12,AV.at_ 1000012 []),(104,vI v104),(105,vI v105)] [(1000005,f7.own (Ty.d0 true (Ty.d0 true Ty.bool)) o1000005),(1000012,f7.own (Ty.d0 true r7) o1000012)]
theorem b8Q (v0:List (Int×Int×Int×Unit)) (v104:Int) (v105:Int) (o1000005:List (List Bool)) (o1000012:List (Int×Int×Unit)):exec a08 1000 (.code (d9 (d8 Try.prog 27) 23).1::.inLoop (d9 (d8 Try.prog 27) 23).1::(d9 (d8 Try.prog 27) 23).2) (b0i v0 v104 v105 o1000005 o1000012) =
  cond (decide (v105<v104)) (.ctL (d9 (d8 Try.prog 27) 26) (St.mk [(0,AV.val (Ty.d0 false r8) v0),(5,AV.at_ 1000005 []),(12,AV.at_ 1000012 []),(13,vI v105),(104,vI v104),(105,vI v105),(109,vI (↑(List.length v0):Int)),(110,vI (0:Int))] [(1000005,f7.own (Ty.d0 true (Ty.d0 true Ty.bool)) o1000005),(1000012,f7.own (Ty.d0 true r7) o1000012)])) (.ret ((o1000012,(0:Int),()))):=by kernel_rfl
def a5W (v0:List (Int×Int×Int×Unit)) (v6:Int) (v23:List (Int×Int×Int×Unit)) (v24:Int) (v25:Int) (v38:List (Int×Int×Int×Unit)) (v39:Int) (v40:Int) (v77i:Int) (v78:Int) (v79:Int) (o7_1:Int) (o7_2_1:Int) (o7_2_2_1:Int) (o1000005:List (List Bool)):St:=St.mk [(0,AV.val (Ty.d0 false r8) v0),(5,AV.at_ 1000005 []),(6,vI v6),(7,AV.ptr 7 []),(23,AV.val (Ty.d0 false r8) v23),(24,vI v24),(25,vI v25),(38,AV.val (Ty.d0 false r8) v38),(39,vI v39),(40,vI v40),(77,AV.at_ 1000005 [Step.idx v77i]),(78,vI v78),(79,vI v79)] [(7,f7.var r8 (o7_1,o7_2_1,o7_2_2_1,())),(1000005,f7.own (Ty.d0 true (Ty.d0 true Ty.bool)) o1000005)]
theorem b8R (v0:List (Int×Int×Int×Unit)) (v6:Int) (v23:List (Int×Int×Int×Unit)) (v24:Int) (v25:Int) (v38:List (Int×Int×Int×Unit)) (v39:Int) (v40:Int) (v77i:Int) (v78:Int) (v79:Int) (o7_1:Int) (o7_2_1:Int) (o7_2_2_1:Int) (o1000005:List (List Bool)):exec a08 1000 (.code (d9 (d8 Try.prog 27) 15).1::.inLoop (d9 (d8 Try.prog 27) 15).1::(d9 (d8 Try.prog 27) 15).2) (a5W v0 v6 v23 v24 v25 v38 v39 v40 v77i v78 v79 o7_1 o7_2_1 o7_2_2_1 o1000005) =
  let q0:=(List.getD o1000005 (Int.toNat v6) []); let q1:=(7,f7.var r8 (o7_1,o7_2_1,o7_2_2_1,())); cond (decide (v79<v78)) (.e8 ((0:Int)≤v79∧v79<(↑(List.length (List.getD o1000005 (Int.toNat v77i) [])):Int)) (.e8 ((0:Int)≤v6∧v6<(↑(List.length o1000005):Int)) (.e8 ((0:Int)≤v6∧v6<(↑(List.length o1000005):Int)) (.e8 ((0:Int)≤v79∧v79<(↑(List.length q0):Int)) (cond (List.getD q0 (Int.toNat v79) false) (.e8 ((0:Int)≤v79∧v79<(↑(List.length q0):Int)) (.e8 (r9 IntKind.i64 (v79+(1:Int))) (.ctL (d9 (d8 Try.prog 27) 15) (St.mk [(0,AV.val (Ty.d0 false r8) v0),(5,AV.at_ 1000005 []),(6,vI v6),(7,AV.ptr 7 []),(23,AV.val (Ty.d0 false r8) v23),(24,vI v24),(25,vI v25),(38,AV.val (Ty.d0 false r8) v38),(39,vI v39),(40,vI v40),(77,AV.at_ 1000005 [Step.idx v77i]),(78,vI v78),(79,vI (v79+(1:Int)))] [q1,(1000005,f7.own (Ty.d0 true (Ty.d0 true Ty.bool)) (List.set o1000005 (Int.toNat v6) (List.set q0 (Int.toNat v79) true)))])))) (.e8 ((0:Int)≤v79∧v79<(↑(List.length q0):Int)) (.e8 (r9 IntKind.i64 (v79+(1:Int))) (.ctL (d9 (d8 Try.prog 27) 15) (St.mk [(0,AV.val (Ty.d0 false r8) v0),(5,AV.at_ 1000005 []),(6,vI v6),(7,AV.ptr 7 []),(23,AV.val (Ty.d0 false r8) v23),(24,vI v24),(25,vI v25),(38,AV.val (Ty.d0 false r8) v38),(39,vI v39),(40,vI v40),(77,AV.at_ 1000005 [Step.idx v77i]),(78,vI v78),(79,vI (v79+(1:Int)))] [q1,(1000005,f7.own (Ty.d0 true (Ty.d0 true Ty.bool)) (List.set o1000005 (Int.toNat v6) (List.set q0 (Int.toNat v79) (List.getD (List.getD o1000005 (Int.toNat v77i) []) (Int.toNat v79) false))))]))))))))) (.e8 (r9 IntKind.i64 (v40+(1:Int))) (.ctL (d9 (d8 Try.prog 27) 10) (St.mk [(0,AV.val (Ty.d0 false r8) v0),(5,AV.at_ 1000005 []),(6,vI v6),(7,AV.ptr 7 []),(23,AV.val (Ty.d0 false r8) v23),(24,vI v24),(25,vI v25),(38,AV.val (Ty.d0 false r8) v38),(39,vI v39),(40,vI (v40+(1:Int)))] [q1,(1000005,f7.own (Ty.d0 true (Ty.d0 true Ty.bool)) o1000005)]))):=by kernel_rfl
def b0h (v0:List (Int×Int×Int×Unit)) (v13:Int) (v104:Int) (v105:Int) (v109:Int) (v110:Int) (o1000005:List (List Bool)) (o1000012:List (Int×Int×Unit)):St:=St.mk [(0,AV.val (Ty.d0 false r8) v0),(5,AV.at_ 1000005 []),(12,AV.at_ 1000012 []),(13,vI v13),(104,vI v104),(105,vI v105),(109,vI v109),(110,vI v110)] [(1000005,f7.own (Ty.d0 true (Ty.d0 true Ty.bool)) o1000005),(1000012,f7.own (Ty.d0 true r7) o1000012)]
theorem b8P (v0:List (Int×Int×Int×Unit)) (v13:Int) (v104:Int) (v105:Int) (v109:Int) (v110:Int) (o1000005:List (List Bool)) (o1000012:List (Int×Int×Unit)):exec a08 1000 (.code (d9 (d8 Try.prog 27) 26).1::.inLoop (d9 (d8 Try.prog 27) 26).1::(d9 (d8 Try.prog 27) 26).2) (b0h v0 v13 v104 v105 v109 v110 o1000005 o1000012) =
  let q0:=(1000005,f7.own (Ty.d0 true (Ty.d0 true Ty.bool)) o1000005); let q1:=(List.set [((0:Int),(0:Int),())] (Int.toNat (↑0:Int)) (v13,v110,())); cond (decide (v110<v109)) (.e8 ((0:Int)≤v110∧v110<(↑(List.length o1000005):Int)) (.e8 ((0:Int)≤v13∧v13<(↑(List.length (List.getD o1000005 (Int.toNat v110) [])):Int)) (cond (List.getD (List.getD o1000005 (Int.toNat v110) []) (Int.toNat v13) false) (.e8 (List.length o1000012+List.length q1≤140737488355328∧(List.length o1000012+List.length q1)*Ty.wb r7≤140737488355328) (.e8 (r9 IntKind.i64 (v110+(1:Int))) (.ctL (d9 (d8 Try.prog 27) 26) (St.mk [(0,AV.val (Ty.d0 false r8) v0),(5,AV.at_ 1000005 []),(12,AV.at_ 1000012 []),(13,vI v13),(104,vI v104),(105,vI v105),(109,vI v109),(110,vI (v110+(1:Int)))] [q0,(1000012,f7.own (Ty.d0 true r7) (o1000012++List.set [((0:Int),(0:Int),())] (Int.toNat (↑0:Int)) (v13,v110,())))])))) (.e8 (r9 IntKind.i64 (v110+(1:Int))) (.ctL (d9 (d8 Try.prog 27) 26) (St.mk [(0,AV.val (Ty.d0 false r8) v0),(5,AV.at_ 1000005 []),(12,AV.at_ 1000012 []),(13,vI v13),(104,vI v104),(105,vI v105),(109,vI v109),(110,vI (v110+(1:Int)))] [q0,(1000012,f7.own (Ty.d0 true r7) o1000012)])))))) (.e8 (r9 IntKind.i64 (v105+(1:Int))) (.ctL (d9 (d8 Try.prog 27) 23) (St.mk [(0,AV.val (Ty.d0 false r8) v0),(5,AV.at_ 1000005 []),(12,AV.at_ 1000012 []),(104,vI v104),(105,vI (v105+(1:Int)))] [q0,(1000012,f7.own (Ty.d0 true r7) o1000012)]))):=by kernel_rfl

theorem b3v {h:List Ev}:∀ {n b:Nat},b<n→∀ k,a7q h n b k=hb h b k
  | 0,_,hb,_=>by omega
  | n+1,b,hlt,k=>by
    by_cases e:b=n
    · subst e; rfl
    · simp only [a7q,if_neg e]; exact b3v (by omega) k
theorem a7Q {h:List Ev} {T T':Nat→Nat→Bool} {b:Nat}:∀ {a:Nat},(∀ c,c<a→∀ k,T c k=T' c k)→∀ k,a0n h T b a k=a0n h T' b a k
  | 0,_,_=>rfl
  | a+1,hT,k=>by simp only [a0n,a7Q (a:=a) (fun c hc=>hT c (by omega)),hT a (by omega)]
theorem b9O {h:List Ev} {b k:Nat}:hb h b k=a0n h (hb h) b b k:=by
  rw [hb,a7q,if_pos rfl]
  exact a7Q (fun c hc k=>b3v hc k) k
theorem b1l {h:List Ev} {T:Nat→Nat→Bool} {b k:Nat}:∀ {a:Nat},a0n h T b a k=true↔∃ c,c<a∧W9 h c b=true∧(k=c∨T c k=true)
  | 0=>by simp [a0n]
  | a+1=>by
    simp only [a0n,Bool.or_eq_true,Bool.and_eq_true,decide_eq_true_eq,b1l (a:=a)]
    constructor
    · rintro (⟨c,a1,a2⟩|⟨a1,a2⟩)
      · exact ⟨c,by omega,a2⟩
      · exact ⟨a,by omega,a1,a2⟩
    · rintro ⟨c,a1,a2,a3⟩
      by_cases e:c=a
      · subst e; exact .inr ⟨a2,a3⟩
      · exact .inl ⟨c,by omega,a2,a3⟩
theorem b9P {h:List Ev} {b k:Nat}:hb h b k=true↔∃ c,c<b∧W9 h c b=true∧(k=c∨hb h c k=true):=by rw [b9O,b1l]

/-! the table, as it grows -/
def a19 (h:List Ev) (b:Nat):List Bool:=(List.range h.length).map (hb h b)
def a1f (h:List Ev) (b a:Nat):List Bool:=(List.range h.length).map (a0n h (hb h) b a)
def a5h (h:List Ev) (b a k:Nat):List Bool:=(List.range h.length).map (fun j=>a0n h (hb h) b a j || decide (j=a) || (decide (j<k) && hb h a j))
def Y9 (h:List Ev) (b:Nat) (r:List Bool):List (List Bool):=(List.range b).map (a19 h)++r::List.replicate (h.length - (b+1)) []
theorem b9o {h:List Ev} {b:Nat}:a1f h b b=a19 h b:=by
  refine List.map_congr_left (fun k _=>?_)
  exact b9O.symm
theorem b9m {h:List Ev} {b:Nat}:a1f h b 0=List.replicate h.length false:=by
  refine List.ext_getElem (by simp [a1f]) (fun i h1 h2=>?_)
  simp [a1f,a0n]
theorem b9j {h:List Ev} {b a:Nat} (ha:a<h.length):(a1f h b a).set a true=a5h h b a 0:=by
  rw [a1f,Z6 _ _ ha]
  refine List.map_congr_left (fun j _=>?_)
  by_cases e:j=a
  · simp [e]
  · simp [e]
theorem b9k {h:List Ev} {b a k:Nat} (hk:k<h.length):(a5h h b a k).set k ((a5h h b a k).getD k false || hb h a k)=a5h h b a (k+1):=by
  rw [a5h,P7 _ _ hk,Z6 _ _ hk]
  refine List.map_congr_left (fun j _=>?_)
  by_cases e:j=k
  · subst e
    rw [if_pos rfl]
    simp [show ¬ j<j by omega,show j<j+1 by omega]
  · rw [if_neg e,show decide (j<k+1)=decide (j<k) from decide_eq_decide.2 (by omega)]
theorem b9l {h:List Ev} {b a:Nat} (he:W9 h a b=true):a5h h b a h.length=a1f h b (a+1):=by
  refine List.map_congr_left (fun j hj=>?_)
  have hj:j<h.length:=List.mem_range.1 hj
  simp [a0n,he,hj,Bool.or_assoc]
theorem b9n {h:List Ev} {b a:Nat} (he:W9 h a b=false):a1f h b (a+1)=a1f h b a:=by
  refine List.map_congr_left (fun j _=>?_)
  simp [a0n,he]
theorem b2W {h:List Ev} {b:Nat} {r:List Bool} (hb:b<h.length):(Y9 h b r).length=h.length:=by simp [Y9]; omega
theorem b5Q {h:List Ev} {b:Nat} {r:List Bool}:(Y9 h b r).getD b []=r:=by
  rw [Y9,List.getD_eq_getElem?_getD,List.getElem?_append_right (by simp)]; simp
theorem b2V {h:List Ev} {b a:Nat} {r:List Bool} (hab:a<b):(Y9 h b r).getD a []=a19 h a:=by
  rw [Y9,List.getD_eq_getElem?_getD,List.getElem?_append_left (by simpa using hab),List.getElem?_map,List.getElem?_range hab]; rfl
theorem b2U {h:List Ev} {b:Nat} {r x:List Bool}:(Y9 h b r).set b x=Y9 h b x:=by
  rw [Y9,List.set_append,if_neg (by simp)]; simp [Y9]
theorem b88 {h:List Ev} {b:Nat} (hb:b<h.length) (x:List Bool):((List.range b).map (a19 h)++List.replicate (h.length - b) []).set b x=Y9 h b x:=by
  rw [List.set_append,if_neg (by simp),show h.length - b=(h.length - (b+1))+1 by omega,List.replicate_succ]; simp [Y9]
theorem c0O {h:List Ev} {b:Nat} (hb:b<h.length):Y9 h b (a19 h b)=(List.range (b+1)).map (a19 h)++List.replicate (h.length - (b+1)) []:=by
  rw [Y9,List.range_succ,List.map_append,List.append_assoc]; rfl
theorem a8i {h:List Ev} {a:Nat}:(a19 h a).length=h.length:=by simp [a19]
theorem c0W {h:List Ev} {b a:Nat}:(a1f h b a).length=h.length:=by simp [a1f]
theorem c0V {h:List Ev} {b a k:Nat}:(a5h h b a k).length=h.length:=by simp [a5h]
theorem b5Y {h:List Ev} {a k:Nat} (hk:k<h.length):(a19 h a).getD k false=hb h a k:=P7 _ _ hk
theorem c0N {α:Type} {l:List α} {a b:Nat} {d:α} (h:a<b):(l.take b).getD a d=l.getD a d:=by
  rw [List.getD_eq_getElem?_getD,List.getD_eq_getElem?_getD,List.getElem?_take,if_pos h]
theorem a1F {h:List Ev} {a:Nat}:∀ {b:Nat},(P5 h a b).length≤b
  | 0=>by simp [P5]
  | b+1=>by
    have:=a1F (h:=h) (a:=a) (b:=b)
    simp only [P5,List.length_append]
    split<;>simp<;>omega
theorem a6U {h:List Ev} {n:Nat} (hn:n≤60):∀ {a:Nat},(J4 h n a).length≤a*60
  | 0=>by simp [J4]
  | a+1=>by
    have h1:=a6U (h:=h) hn (a:=a)
    have h2:=a1F (h:=h) (a:=a) (b:=n)
    simp only [J4,List.length_append]
    omega
theorem c1K {α:Type} (l:List α) (n:Nat):B5 0 (n:Int) l=l.take n:=by simp [B5]
theorem b8Y (o:Bool) (t:Ty):Ty.wb (.d0 o t)=24:=rfl
theorem b35:b36.Valid Try.prog 27:=by
  refine w9.u7 a0D rfl rfl Try.func27 (c:=d8 Try.prog 27) rfl rfl a0B rfl ?_
  rintro ⟨(h:List Ev),⟨⟩⟩ - -
  refine n7 (n:=1000) a0D a0B ?_
  refine g9 (c2G h) ?_
  simp only [i9,Tree.holds,true_and,true_implies,decide_eq_true_eq,decide_eq_false_iff_not,Bool.not_eq_true',Bool.not_eq_false',Int.toNat_natCast,l7,List.length_set,List.length_cons,List.length_nil,b8Y]
  refine ⟨fun a=>?_,fun a=>?_⟩
  · show (([],t8 h,()):List (Int×Int×Unit)×Int×Unit)=D9 h; rw [D9,if_pos a]
  have hh:t8 h=0:=Decidable.of_not_not a
  have hl:=(U9 hh).1
  refine ⟨⟨by omega,by omega,by omega,by omega⟩,fun _=>?_⟩
  refine Reach.C1 a0D a0B (fun b:Nat=>b19 h h (h.length:Int) (b:Int) ((List.range b).map (a19 h)++List.replicate (h.length - b) [])) (fun b=>b≤h.length)
    (fun b=>h.length - b) 1000 (fun _=>⟨j7 rfl,j7 rfl⟩) ?_ 0 (by omega)
  rintro b kb - ihb
  refine g9 (c0D ..) ?_
  simp only [i9,Tree.holds,true_and,true_implies,decide_eq_true_eq,decide_eq_false_iff_not,Bool.not_eq_true',Bool.not_eq_false',Int.toNat_natCast,l7,List.length_set,List.length_cons,List.length_nil,b8Y,c3m,List.length_append,List.length_map,List.length_range,List.length_replicate]
  have hk:r9 .i64 ((b:Int)+1):=l7.2 ⟨by omega,by omega⟩
  refine ⟨fun hb=>⟨by omega,fun _=>⟨⟨by omega,by omega,by omega,by omega⟩,fun _=>⟨by omega,fun _=>⟨⟨by omega,by omega⟩,fun _=>?_⟩⟩⟩⟩,fun hb=>?_⟩
  · have hb:b<h.length:=by omega
    rw [b88 hb,← b9m (h:=h) (b:=b),c1K]
    refine Reach.C1 a0D a0B (fun a:Nat=>a5X h (b:Int) h (h.length:Int) (b:Int) (h.take b) ((h.take b).length:Int) (a:Int) (h.getD b e0).1 (h.getD b e0).2.1 (h.getD b e0).2.2.1 (Y9 h b (a1f h b a))) (fun a=>a≤b)
      (fun a=>b - a) 1000 (fun _=>⟨j7 rfl,j7 rfl⟩) ?_ 0 (by omega)
    rintro a ka - iha
    refine g9 (b8S ..) ?_
    have htl:(h.take b).length=b:=by simp; omega
    simp only [i9,Tree.holds,true_and,true_implies,decide_eq_true_eq,decide_eq_false_iff_not,Bool.not_eq_true',Bool.not_eq_false',Int.toNat_natCast,l7,List.length_set,List.length_cons,List.length_nil,htl,b2W hb,b5Q,c0W,b2U]
    have hke:a<b→∀ {P:Prop},r9 .i64 ((a:Int)+1):=fun h _=>l7.2 ⟨by omega,by omega⟩
    refine ⟨fun hab=>⟨by omega,fun _=>?_⟩,fun hab=>⟨by omega,fun _=>?_⟩⟩
    · have hab:a<b:=by omega
      rw [c0N hab]
      rw [show ((Y9 h b ((a1f h b a).set a true)).getD a []).length=h.length by rw [b2V hab,a8i]]
      have hin:W9 h a b=true→Ex.Reach a08 Try.f27 (D9 h) () (.code (d9 (d8 Try.prog 27) 15).1::.inLoop (d9 (d8 Try.prog 27) 15).1::(d9 (d8 Try.prog 27) 15).2)
          (a5W h (b:Int) h (h.length:Int) (b:Int) (h.take b) (b:Int) (a:Int) (a:Int) (h.length:Int) 0 (h.getD b e0).1 (h.getD b e0).2.1 (h.getD b e0).2.2.1 (Y9 h b ((a1f h b a).set a true))):=by
        intro he
        rw [b9j (by omega)]
        refine Reach.C1 a0D a0B (fun k:Nat=>a5W h (b:Int) h (h.length:Int) (b:Int) (h.take b) (b:Int) (a:Int) (a:Int) (h.length:Int) (k:Int) (h.getD b e0).1 (h.getD b e0).2.1 (h.getD b e0).2.2.1 (Y9 h b (a5h h b a k))) (fun k=>k≤h.length)
          (fun k=>h.length - k) 1000 (fun _=>⟨j7 rfl,j7 rfl⟩) ?_ 0 (by omega)
        rintro k kk - ihk
        refine g9 (b8R ..) ?_
        simp only [i9,Tree.holds,true_and,true_implies,decide_eq_true_eq,decide_eq_false_iff_not,Bool.not_eq_true',Bool.not_eq_false',Int.toNat_natCast,l7,List.length_set,List.length_cons,List.length_nil,b2W hb,b5Q,b2V hab,c0V,a8i,b2U]
        refine ⟨fun hkl=>?_,fun hkl=>⟨by omega,fun _=>?_⟩⟩
        · have hkl:k<h.length:=by omega
          have h9:=ihk (k+1) (by omega) (by omega)
          rw [← b9k hkl] at h9
          rw [b5Y hkl]
          refine ⟨by omega,fun _=>⟨by omega,fun _=>⟨by omega,fun _=>⟨by omega,fun _=>⟨fun hr=>⟨by omega,fun _=>⟨by omega,fun _=>?_⟩⟩,fun hr=>⟨by omega,fun _=>⟨by omega,fun _=>?_⟩⟩⟩⟩⟩⟩⟩
          · rw [hr,Bool.true_or] at h9; exact h9
          · rw [hr,Bool.false_or] at h9; exact h9
        · have hkl:k=h.length:=by omega
          subst hkl
          rw [b9l he]
          have h9:=iha (a+1) (by omega) (by omega)
          rw [htl] at h9
          exact h9
      have hsk:W9 h a b=false→Ex.Reach a08 Try.f27 (D9 h) () (.code (d9 (d8 Try.prog 27) 10).1::.inLoop (d9 (d8 Try.prog 27) 10).1::(d9 (d8 Try.prog 27) 10).2)
          (a5X h (b:Int) h (h.length:Int) (b:Int) (h.take b) (b:Int) ((a:Int)+1) (h.getD b e0).1 (h.getD b e0).2.1 (h.getD b e0).2.2.1 (Y9 h b (a1f h b a))):=by
        intro he
        have h9:=iha (a+1) (by omega) (by omega)
        rw [b9n he,htl] at h9
        exact h9
      have hK:-9223372036854775808≤(a:Int)+1∧(a:Int)+1≤9223372036854775807:=by omega
      refine ⟨fun e1=>⟨fun e2=>⟨fun e3=>⟨fun e4=>⟨hK,fun _=>hsk (by simp [W9,-List.getD_eq_getElem?_getD,e1,e4])⟩,fun e4=>⟨by omega,fun _=>⟨by omega,fun _=>⟨by omega,fun _=>hin (by simp [W9,-List.getD_eq_getElem?_getD,e2,e3,e4])⟩⟩⟩⟩,
        fun e3=>⟨hK,fun _=>hsk (by simp [W9,-List.getD_eq_getElem?_getD,e1,e3])⟩⟩,fun e2=>⟨hK,fun _=>hsk (by simp [W9,-List.getD_eq_getElem?_getD,e1,e2])⟩⟩,fun e1=>⟨by omega,fun _=>⟨by omega,fun _=>⟨by omega,fun _=>hin (by simp [W9,-List.getD_eq_getElem?_getD,Decidable.of_not_not e1])⟩⟩⟩⟩
    · have hab:a=b:=by omega
      subst hab
      rw [b9o,c0O hb]
      exact ihb (a+1) (by omega) (by omega)
  have hbe:b=h.length:=by omega
  subst hbe
  rw [Nat.sub_self,List.replicate_zero,List.append_nil]
  have htl:((List.range h.length).map (a19 h)).length=h.length:=by simp
  clear ihb
  refine Reach.C1 a0D a0B (fun a:Nat=>b0i h (h.length:Int) (a:Int) ((List.range h.length).map (a19 h)) (J4 h h.length a)) (fun a=>a≤h.length)
    (fun a=>h.length - a) 1000 (fun _=>⟨j7 rfl,j7 rfl⟩) ?_ 0 (by omega)
  rintro a ka - iha
  refine g9 (b8Q ..) ?_
  simp only [i9,Tree.holds,true_and,true_implies,decide_eq_true_eq,decide_eq_false_iff_not,Bool.not_eq_true',Bool.not_eq_false',Int.toNat_natCast,l7,List.length_set,List.length_cons,List.length_nil]
  refine ⟨fun ha=>?_,fun ha=>?_⟩
  · have ha:a<h.length:=by omega
    rw [show J4 h h.length a=J4 h h.length a++P5 h a 0 by simp [P5]]
    refine Reach.C1 a0D a0B (fun b:Nat=>b0h h (a:Int) (h.length:Int) (a:Int) (h.length:Int) (b:Int) ((List.range h.length).map (a19 h)) (J4 h h.length a++P5 h a b)) (fun b=>b≤h.length)
      (fun b=>h.length - b) 1000 (fun _=>⟨j7 rfl,j7 rfl⟩) ?_ 0 (by omega)
    rintro b kb - ihb
    refine g9 (b8P ..) ?_
    simp only [i9,Tree.holds,true_and,true_implies,decide_eq_true_eq,decide_eq_false_iff_not,Bool.not_eq_true',Bool.not_eq_false',Int.toNat_natCast,l7,List.length_set,List.length_cons,List.length_nil,htl]
    have q1:=a6U (h:=h) hl (a:=a)
    have q2:=a1F (h:=h) (a:=a) (b:=b)
    refine ⟨fun hb=>?_,fun hb=>⟨by omega,fun _=>?_⟩⟩
    · have hb:b<h.length:=by omega
      have h9:=ihb (b+1) (by omega) (by omega)
      rw [P7 _ _ hb,a8i,b5Y ha]
      refine ⟨by omega,fun _=>⟨by omega,fun _=>⟨fun hr=>⟨?_,fun _=>⟨by omega,fun _=>?_⟩⟩,fun hr=>⟨by omega,fun _=>?_⟩⟩⟩⟩
      · simp only [List.length_append,c0I]; omega
      · rw [P5,if_pos hr,← List.append_assoc] at h9; exact h9
      · rw [P5,if_neg (by simp [hr]),List.append_nil] at h9; exact h9
    · have hb:b=h.length:=by omega
      subst hb
      exact iha (a+1) (by omega) (by omega)
  · have ha:a=h.length:=by omega
    subst ha
    show ((J4 h h.length h.length,0,()):List (Int×Int×Unit)×Int×Unit)=D9 h
    rw [D9,if_neg (by simp [hh])]
end Go.Proofs.Ytekbamiaenbhjaa
