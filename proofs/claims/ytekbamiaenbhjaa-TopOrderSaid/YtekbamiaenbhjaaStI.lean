/- symMergeCmpFunc at int with stamp.Total's comparison: two sorted neighbouring parts become one. Conditions: the parts lie in the slice and are sorted, no ties. -/
import Derived.Test.YtekbamiaenbhjaaStH
namespace Go.Proofs.Ytekbamiaenbhjaa
open Go.Ex Go.Sort
set_option maxRecDepth 100000
def smK (k:Nat) (l:List Int) (a m b:Int) (ls:List Int) (hs:List y8):Prop:=((0≤a∧a<m∧m<b)∧b.toNat≤l.length∧OkL ls hs l)∧(G7 (A4 ls hs) l a.toNat m.toNat∧G7 (A4 ls hs) l m.toNat b.toNat)∧b - a<k
def J1 (l:List Int) (a b:Int) (ls:List Int) (hs:List y8):List Int:=s9 (A4 ls hs) l a.toNat b.toNat
def a7u (k:Nat):w9:={ ps:=[.mu i5,.v i5,.v i5,.v i5,.s4 130 [.d0 false i5,.d0 false Event]],rs:=[],pre:=fun x=>smK k x.1 x.2.1 x.2.2.1 x.2.2.2.1 x.2.2.2.2.1.1 x.2.2.2.2.1.2.1,fn:=fun _=>(),out:=fun x=>(J1 x.1 x.2.1 x.2.2.2.1 x.2.2.2.2.1.1 x.2.2.2.2.1.2.1,()) }
noncomputable def a12 (k:Nat):Env:={ P:=Try.prog,tt:=tt,F2:=[(279,(a7u k)),(130,b2B),(325,b7S)],res:=[],rs:=[],ps:=[PK.mu i5,PK.v i5,PK.v i5,PK.v i5,PK.s4 130 [Ty.d0 false i5,Ty.d0 false r8]],D8:=[(3,[(0,none),(1,none),(4,none),(10,none),(11,none)]),(9,[(0,none),(10,none),(13,none)]),(15,[(0,none),(2,none),(4,none),(14,none),(15,none)]),(21,[(0,none),(14,none),(17,none)]),(33,[(0,none),(1,none),(2,none),(3,none),(4,none),(18,none),(19,none),(20,none),(21,none),(22,none)])],nt:=220 }
theorem a1m {k:Nat} (hk:(a7u k).Valid Try.prog 279):B6 (a12 k):=D0 w5 ⟨hk,a7U,b5i,trivial⟩
theorem a1l {k:Nat}:E3 (a12 k) Try.f279:=⟨rfl,rfl⟩
theorem c35 (k:Nat) (x0:List Int) (x1:Int) (x2:Int) (x3:Int) (x4c0:List Int) (x4c1:List (Int×Int×Int×Unit)):exec (a12 k) 1000 [.code (d8 Try.prog 279)] (A5 (a7u k).ps ((x0,x1,x2,x3,(x4c0,x4c1,()),()))) =
  .e8 (r9 IntKind.i64 (x2 - x1)) (cond (decide (x2 - x1=(1:Int))) (.ctL (d9 (d8 Try.prog 279) 3) (St.mk [(0,AV.at_ 2000000 []),(1,vI x1),(4,AV.s4 130 (AV.cons (AV.u5 (Ty.d0 false i5) x4c0) (AV.cons (AV.u5 (Ty.d0 false r8) x4c1) AV.nil))),(10,vI x2),(11,vI x3)] [(2000000,f7.own Is x0)])) (.e8 (r9 IntKind.i64 (x3 - x2)) (cond (decide (x3 - x2=(1:Int))) (.ctL (d9 (d8 Try.prog 279) 15) (St.mk [(0,AV.at_ 2000000 []),(2,vI x2),(4,AV.s4 130 (AV.cons (AV.u5 (Ty.d0 false i5) x4c0) (AV.cons (AV.u5 (Ty.d0 false r8) x4c1) AV.nil))),(14,vI x1),(15,vI x2)] [(2000000,f7.own Is x0)])) (.e8 (r9 IntKind.i64 (x1+x3)) (.e8 ((0:Int)≤(1:Int)) (.e8 (r9 IntKind.i64 (IntKind.wrap IntKind.i64 (IntKind.wrap IntKind.u64 (x1+x3) / (2:Int)^min (Int.toNat (1:Int)) (IntKind.bits IntKind.u64))+x2)) (cond (decide (IntKind.wrap IntKind.i64 (IntKind.wrap IntKind.u64 (x1+x3) / (2:Int)^min (Int.toNat (1:Int)) (IntKind.bits IntKind.u64))<x2)) (.e8 (r9 IntKind.i64 (IntKind.wrap IntKind.i64 (IntKind.wrap IntKind.u64 (x1+x3) / (2:Int)^min (Int.toNat (1:Int)) (IntKind.bits IntKind.u64))+x2 - x3)) (.e8 (r9 IntKind.i64 (IntKind.wrap IntKind.i64 (IntKind.wrap IntKind.u64 (x1+x3) / (2:Int)^min (Int.toNat (1:Int)) (IntKind.bits IntKind.u64))+x2 - (1:Int))) (.ctL (d9 (d8 Try.prog 279) 33) (St.mk [(0,AV.at_ 2000000 []),(1,vI x1),(2,vI x2),(3,vI x3),(4,AV.s4 130 (AV.cons (AV.u5 (Ty.d0 false i5) x4c0) (AV.cons (AV.u5 (Ty.d0 false r8) x4c1) AV.nil))),(18,vI (IntKind.wrap IntKind.i64 (IntKind.wrap IntKind.u64 (x1+x3) / (2:Int)^min (Int.toNat (1:Int)) (IntKind.bits IntKind.u64)))),(19,vI (IntKind.wrap IntKind.i64 (IntKind.wrap IntKind.u64 (x1+x3) / (2:Int)^min (Int.toNat (1:Int)) (IntKind.bits IntKind.u64))+x2)),(20,vI (IntKind.wrap IntKind.i64 (IntKind.wrap IntKind.u64 (x1+x3) / (2:Int)^min (Int.toNat (1:Int)) (IntKind.bits IntKind.u64))+x2 - x3)),(21,vI (IntKind.wrap IntKind.i64 (IntKind.wrap IntKind.u64 (x1+x3) / (2:Int)^min (Int.toNat (1:Int)) (IntKind.bits IntKind.u64)))),(22,vI (IntKind.wrap IntKind.i64 (IntKind.wrap IntKind.u64 (x1+x3) / (2:Int)^min (Int.toNat (1:Int)) (IntKind.bits IntKind.u64))+x2 - (1:Int)))] [(2000000,f7.own Is x0)])))) (.e8 (r9 IntKind.i64 (IntKind.wrap IntKind.i64 (IntKind.wrap IntKind.u64 (x1+x3) / (2:Int)^min (Int.toNat (1:Int)) (IntKind.bits IntKind.u64))+x2 - (1:Int))) (.ctL (d9 (d8 Try.prog 279) 33) (St.mk [(0,AV.at_ 2000000 []),(1,vI x1),(2,vI x2),(3,vI x3),(4,AV.s4 130 (AV.cons (AV.u5 (Ty.d0 false i5) x4c0) (AV.cons (AV.u5 (Ty.d0 false r8) x4c1) AV.nil))),(18,vI (IntKind.wrap IntKind.i64 (IntKind.wrap IntKind.u64 (x1+x3) / (2:Int)^min (Int.toNat (1:Int)) (IntKind.bits IntKind.u64)))),(19,vI (IntKind.wrap IntKind.i64 (IntKind.wrap IntKind.u64 (x1+x3) / (2:Int)^min (Int.toNat (1:Int)) (IntKind.bits IntKind.u64))+x2)),(20,vI x1),(21,vI x2),(22,vI (IntKind.wrap IntKind.i64 (IntKind.wrap IntKind.u64 (x1+x3) / (2:Int)^min (Int.toNat (1:Int)) (IntKind.bits IntKind.u64))+x2 - (1:Int)))] [(2000000,f7.own Is x0)])))))))))):=by kernel_rfl
def b4u (v1:Int) (v4a:List Int) (v4ba:List (Int×Int×Int×Unit)) (v10:Int) (v11:Int) (o2000000:List Int):St:=St.mk [(0,AV.at_ 2000000 []),(1,vI v1),(4,AV.s4 130 (AV.cons (AV.u5 (Ty.d0 false i5) v4a) (AV.cons (AV.u5 (Ty.d0 false r8) v4ba) AV.nil))),(10,vI v10),(11,vI v11)] [(2000000,f7.own Is o2000000)]
theorem c2g (k:Nat) (v1:Int) (v4a:List Int) (v4ba:List (Int×Int×Int×Unit)) (v10:Int) (v11:Int) (o2000000:List Int):exec (a12 k) 1000 (.code (d9 (d8 Try.prog 279) 3).1::.inLoop (d9 (d8 Try.prog 279) 3).1::(d9 (d8 Try.prog 279) 3).2) (b4u v1 v4a v4ba v10 v11 o2000000) =
  cond (decide (v10<v11)) (.e8 (r9 IntKind.i64 (v10+v11)) (.e8 ((0:Int)≤(1:Int)) (.e8 ((0:Int)≤IntKind.wrap IntKind.i64 (IntKind.wrap IntKind.u64 (v10+v11) / (2:Int)^min (Int.toNat (1:Int)) (IntKind.bits IntKind.u64))∧IntKind.wrap IntKind.i64 (IntKind.wrap IntKind.u64 (v10+v11) / (2:Int)^min (Int.toNat (1:Int)) (IntKind.bits IntKind.u64))<(↑(List.length o2000000):Int)) (.e8 ((0:Int)≤v1∧v1<(↑(List.length o2000000):Int)) (.e8 ((((0:Int)≤List.getD o2000000 (Int.toNat (IntKind.wrap IntKind.i64 (IntKind.wrap IntKind.u64 (v10+v11) / (2:Int)^min (Int.toNat (1:Int)) (IntKind.bits IntKind.u64)))) (0:Int)∧List.getD o2000000 (Int.toNat (IntKind.wrap IntKind.i64 (IntKind.wrap IntKind.u64 (v10+v11) / (2:Int)^min (Int.toNat (1:Int)) (IntKind.bits IntKind.u64)))) (0:Int)<(↑(List.length v4a):Int))∧(0:Int)≤List.getD o2000000 (Int.toNat v1) (0:Int)∧List.getD o2000000 (Int.toNat v1) (0:Int)<(↑(List.length v4a):Int))∧List.length v4a=List.length v4ba) (cond (decide (a4k v4a v4ba (List.getD o2000000 (Int.toNat (IntKind.wrap IntKind.i64 (IntKind.wrap IntKind.u64 (v10+v11) / (2:Int)^min (Int.toNat (1:Int)) (IntKind.bits IntKind.u64)))) (0:Int)) (List.getD o2000000 (Int.toNat v1) (0:Int))<(0:Int))) (.e8 (r9 IntKind.i64 (IntKind.wrap IntKind.i64 (IntKind.wrap IntKind.u64 (v10+v11) / (2:Int)^min (Int.toNat (1:Int)) (IntKind.bits IntKind.u64))+(1:Int))) (.ctL (d9 (d8 Try.prog 279) 3) (St.mk [(0,AV.at_ 2000000 []),(1,vI v1),(4,AV.s4 130 (AV.cons (AV.u5 (Ty.d0 false i5) v4a) (AV.cons (AV.u5 (Ty.d0 false r8) v4ba) AV.nil))),(10,vI (IntKind.wrap IntKind.i64 (IntKind.wrap IntKind.u64 (v10+v11) / (2:Int)^min (Int.toNat (1:Int)) (IntKind.bits IntKind.u64))+(1:Int))),(11,vI v11)] [(2000000,f7.own Is o2000000)]))) (.ctL (d9 (d8 Try.prog 279) 3) (St.mk [(0,AV.at_ 2000000 []),(1,vI v1),(4,AV.s4 130 (AV.cons (AV.u5 (Ty.d0 false i5) v4a) (AV.cons (AV.u5 (Ty.d0 false r8) v4ba) AV.nil))),(10,vI v10),(11,vI (IntKind.wrap IntKind.i64 (IntKind.wrap IntKind.u64 (v10+v11) / (2:Int)^min (Int.toNat (1:Int)) (IntKind.bits IntKind.u64))))] [(2000000,f7.own Is o2000000)])))))))) (.ctL (d9 (d8 Try.prog 279) 9) (St.mk [(0,AV.at_ 2000000 []),(10,vI v10),(13,vI v1)] [(2000000,f7.own Is o2000000)])):=by kernel_rfl
def b1Q (v2:Int) (v4a:List Int) (v4ba:List (Int×Int×Int×Unit)) (v14:Int) (v15:Int) (o2000000:List Int):St:=St.mk [(0,AV.at_ 2000000 []),(2,vI v2),(4,AV.s4 130 (AV.cons (AV.u5 (Ty.d0 false i5) v4a) (AV.cons (AV.u5 (Ty.d0 false r8) v4ba) AV.nil))),(14,vI v14),(15,vI v15)] [(2000000,f7.own Is o2000000)]
theorem c0q (k:Nat) (v2:Int) (v4a:List Int) (v4ba:List (Int×Int×Int×Unit)) (v14:Int) (v15:Int) (o2000000:List Int):exec (a12 k) 1000 (.code (d9 (d8 Try.prog 279) 15).1::.inLoop (d9 (d8 Try.prog 279) 15).1::(d9 (d8 Try.prog 279) 15).2) (b1Q v2 v4a v4ba v14 v15 o2000000) =
  cond (decide (v14<v15)) (.e8 (r9 IntKind.i64 (v14+v15)) (.e8 ((0:Int)≤(1:Int)) (.e8 ((0:Int)≤v2∧v2<(↑(List.length o2000000):Int)) (.e8 ((0:Int)≤IntKind.wrap IntKind.i64 (IntKind.wrap IntKind.u64 (v14+v15) / (2:Int)^min (Int.toNat (1:Int)) (IntKind.bits IntKind.u64))∧IntKind.wrap IntKind.i64 (IntKind.wrap IntKind.u64 (v14+v15) / (2:Int)^min (Int.toNat (1:Int)) (IntKind.bits IntKind.u64))<(↑(List.length o2000000):Int)) (.e8 ((((0:Int)≤List.getD o2000000 (Int.toNat v2) (0:Int)∧List.getD o2000000 (Int.toNat v2) (0:Int)<(↑(List.length v4a):Int))∧(0:Int)≤List.getD o2000000 (Int.toNat (IntKind.wrap IntKind.i64 (IntKind.wrap IntKind.u64 (v14+v15) / (2:Int)^min (Int.toNat (1:Int)) (IntKind.bits IntKind.u64)))) (0:Int)∧List.getD o2000000 (Int.toNat (IntKind.wrap IntKind.i64 (IntKind.wrap IntKind.u64 (v14+v15) / (2:Int)^min (Int.toNat (1:Int)) (IntKind.bits IntKind.u64)))) (0:Int)<(↑(List.length v4a):Int))∧List.length v4a=List.length v4ba) (cond (!decide (a4k v4a v4ba (List.getD o2000000 (Int.toNat v2) (0:Int)) (List.getD o2000000 (Int.toNat (IntKind.wrap IntKind.i64 (IntKind.wrap IntKind.u64 (v14+v15) / (2:Int)^min (Int.toNat (1:Int)) (IntKind.bits IntKind.u64)))) (0:Int))<(0:Int))) (.e8 (r9 IntKind.i64 (IntKind.wrap IntKind.i64 (IntKind.wrap IntKind.u64 (v14+v15) / (2:Int)^min (Int.toNat (1:Int)) (IntKind.bits IntKind.u64))+(1:Int))) (.ctL (d9 (d8 Try.prog 279) 15) (St.mk [(0,AV.at_ 2000000 []),(2,vI v2),(4,AV.s4 130 (AV.cons (AV.u5 (Ty.d0 false i5) v4a) (AV.cons (AV.u5 (Ty.d0 false r8) v4ba) AV.nil))),(14,vI (IntKind.wrap IntKind.i64 (IntKind.wrap IntKind.u64 (v14+v15) / (2:Int)^min (Int.toNat (1:Int)) (IntKind.bits IntKind.u64))+(1:Int))),(15,vI v15)] [(2000000,f7.own Is o2000000)]))) (.ctL (d9 (d8 Try.prog 279) 15) (St.mk [(0,AV.at_ 2000000 []),(2,vI v2),(4,AV.s4 130 (AV.cons (AV.u5 (Ty.d0 false i5) v4a) (AV.cons (AV.u5 (Ty.d0 false r8) v4ba) AV.nil))),(14,vI v14),(15,vI (IntKind.wrap IntKind.i64 (IntKind.wrap IntKind.u64 (v14+v15) / (2:Int)^min (Int.toNat (1:Int)) (IntKind.bits IntKind.u64))))] [(2000000,f7.own Is o2000000)])))))))) (.ctL (d9 (d8 Try.prog 279) 21) (St.mk [(0,AV.at_ 2000000 []),(14,vI v14),(17,vI v2)] [(2000000,f7.own Is o2000000)])):=by kernel_rfl
def a64 (v1:Int) (v2:Int) (v3:Int) (v4a:List Int) (v4ba:List (Int×Int×Int×Unit)) (v18:Int) (v19:Int) (v20:Int) (v21:Int) (v22:Int) (o2000000:List Int):St:=St.mk [(0,AV.at_ 2000000 []),(1,vI v1),(2,vI v2),(3,vI v3),(4,AV.s4 130 (AV.cons (AV.u5 (Ty.d0 false i5) v4a) (AV.cons (AV.u5 (Ty.d0 false r8) v4ba) AV.nil))),(18,vI v18),(19,vI v19),(20,vI v20),(21,vI v21),(22,vI v22)] [(2000000,f7.own Is o2000000)]
theorem c0o (k:Nat) (v1:Int) (v2:Int) (v3:Int) (v4a:List Int) (v4ba:List (Int×Int×Int×Unit)) (v18:Int) (v19:Int) (v20:Int) (v21:Int) (v22:Int) (o2000000:List Int):exec (a12 k) 1000 (.code (d9 (d8 Try.prog 279) 33).1::.inLoop (d9 (d8 Try.prog 279) 33).1::(d9 (d8 Try.prog 279) 33).2) (a64 v1 v2 v3 v4a v4ba v18 v19 v20 v21 v22 o2000000) =
  cond (decide (v20<v21)) (.e8 (r9 IntKind.i64 (v20+v21)) (.e8 ((0:Int)≤(1:Int)) (.e8 (r9 IntKind.i64 (v22 - IntKind.wrap IntKind.i64 (IntKind.wrap IntKind.u64 (v20+v21) / (2:Int)^min (Int.toNat (1:Int)) (IntKind.bits IntKind.u64)))) (.e8 ((0:Int)≤v22 - IntKind.wrap IntKind.i64 (IntKind.wrap IntKind.u64 (v20+v21) / (2:Int)^min (Int.toNat (1:Int)) (IntKind.bits IntKind.u64))∧v22 - IntKind.wrap IntKind.i64 (IntKind.wrap IntKind.u64 (v20+v21) / (2:Int)^min (Int.toNat (1:Int)) (IntKind.bits IntKind.u64))<(↑(List.length o2000000):Int)) (.e8 ((0:Int)≤IntKind.wrap IntKind.i64 (IntKind.wrap IntKind.u64 (v20+v21) / (2:Int)^min (Int.toNat (1:Int)) (IntKind.bits IntKind.u64))∧IntKind.wrap IntKind.i64 (IntKind.wrap IntKind.u64 (v20+v21) / (2:Int)^min (Int.toNat (1:Int)) (IntKind.bits IntKind.u64))<(↑(List.length o2000000):Int)) (.e8 ((((0:Int)≤List.getD o2000000 (Int.toNat (v22 - IntKind.wrap IntKind.i64 (IntKind.wrap IntKind.u64 (v20+v21) / (2:Int)^min (Int.toNat (1:Int)) (IntKind.bits IntKind.u64)))) (0:Int)∧List.getD o2000000 (Int.toNat (v22 - IntKind.wrap IntKind.i64 (IntKind.wrap IntKind.u64 (v20+v21) / (2:Int)^min (Int.toNat (1:Int)) (IntKind.bits IntKind.u64)))) (0:Int)<(↑(List.length v4a):Int))∧(0:Int)≤List.getD o2000000 (Int.toNat (IntKind.wrap IntKind.i64 (IntKind.wrap IntKind.u64 (v20+v21) / (2:Int)^min (Int.toNat (1:Int)) (IntKind.bits IntKind.u64)))) (0:Int)∧List.getD o2000000 (Int.toNat (IntKind.wrap IntKind.i64 (IntKind.wrap IntKind.u64 (v20+v21) / (2:Int)^min (Int.toNat (1:Int)) (IntKind.bits IntKind.u64)))) (0:Int)<(↑(List.length v4a):Int))∧List.length v4a=List.length v4ba) (cond (!decide (a4k v4a v4ba (List.getD o2000000 (Int.toNat (v22 - IntKind.wrap IntKind.i64 (IntKind.wrap IntKind.u64 (v20+v21) / (2:Int)^min (Int.toNat (1:Int)) (IntKind.bits IntKind.u64)))) (0:Int)) (List.getD o2000000 (Int.toNat (IntKind.wrap IntKind.i64 (IntKind.wrap IntKind.u64 (v20+v21) / (2:Int)^min (Int.toNat (1:Int)) (IntKind.bits IntKind.u64)))) (0:Int))<(0:Int))) (.e8 (r9 IntKind.i64 (IntKind.wrap IntKind.i64 (IntKind.wrap IntKind.u64 (v20+v21) / (2:Int)^min (Int.toNat (1:Int)) (IntKind.bits IntKind.u64))+(1:Int))) (.ctL (d9 (d8 Try.prog 279) 33) (St.mk [(0,AV.at_ 2000000 []),(1,vI v1),(2,vI v2),(3,vI v3),(4,AV.s4 130 (AV.cons (AV.u5 (Ty.d0 false i5) v4a) (AV.cons (AV.u5 (Ty.d0 false r8) v4ba) AV.nil))),(18,vI v18),(19,vI v19),(20,vI (IntKind.wrap IntKind.i64 (IntKind.wrap IntKind.u64 (v20+v21) / (2:Int)^min (Int.toNat (1:Int)) (IntKind.bits IntKind.u64))+(1:Int))),(21,vI v21),(22,vI v22)] [(2000000,f7.own Is o2000000)]))) (.ctL (d9 (d8 Try.prog 279) 33) (St.mk [(0,AV.at_ 2000000 []),(1,vI v1),(2,vI v2),(3,vI v3),(4,AV.s4 130 (AV.cons (AV.u5 (Ty.d0 false i5) v4a) (AV.cons (AV.u5 (Ty.d0 false r8) v4ba) AV.nil))),(18,vI v18),(19,vI v19),(20,vI v20),(21,vI (IntKind.wrap IntKind.i64 (IntKind.wrap IntKind.u64 (v20+v21) / (2:Int)^min (Int.toNat (1:Int)) (IntKind.bits IntKind.u64)))),(22,vI v22)] [(2000000,f7.own Is o2000000)]))))))))) (.e8 (r9 IntKind.i64 (v19 - v20)) (cond (decide (v20<v2)) (cond (decide (v2<v19 - v20)) (.e8 (((0:Int)≤v20∧v20<v2∧v2<v19 - v20)∧Int.toNat (v19 - v20)≤List.length o2000000) (cond (decide (v1<v20)) (cond (decide (v20<v18)) (.e8 (smK k (E2 o2000000 (Int.toNat v20) (Int.toNat v2) (Int.toNat (v19 - v20))) v1 v20 v18 v4a v4ba) (cond (decide (v18<v19 - v20)) (cond (decide (v19 - v20<v3)) (.e8 (smK k (J1 (E2 o2000000 (Int.toNat v20) (Int.toNat v2) (Int.toNat (v19 - v20))) v1 v18 v4a v4ba) v18 (v19 - v20) v3 v4a v4ba) (.ret ((J1 (J1 (E2 o2000000 (Int.toNat v20) (Int.toNat v2) (Int.toNat (v19 - v20))) v1 v18 v4a v4ba) v18 v3 v4a v4ba,())))) (.ret ((J1 (E2 o2000000 (Int.toNat v20) (Int.toNat v2) (Int.toNat (v19 - v20))) v1 v18 v4a v4ba,())))) (.ret ((J1 (E2 o2000000 (Int.toNat v20) (Int.toNat v2) (Int.toNat (v19 - v20))) v1 v18 v4a v4ba,()))))) (cond (decide (v18<v19 - v20)) (cond (decide (v19 - v20<v3)) (.e8 (smK k (E2 o2000000 (Int.toNat v20) (Int.toNat v2) (Int.toNat (v19 - v20))) v18 (v19 - v20) v3 v4a v4ba) (.ret ((J1 (E2 o2000000 (Int.toNat v20) (Int.toNat v2) (Int.toNat (v19 - v20))) v18 v3 v4a v4ba,())))) (.ret ((E2 o2000000 (Int.toNat v20) (Int.toNat v2) (Int.toNat (v19 - v20)),())))) (.ret ((E2 o2000000 (Int.toNat v20) (Int.toNat v2) (Int.toNat (v19 - v20)),()))))) (cond (decide (v18<v19 - v20)) (cond (decide (v19 - v20<v3)) (.e8 (smK k (E2 o2000000 (Int.toNat v20) (Int.toNat v2) (Int.toNat (v19 - v20))) v18 (v19 - v20) v3 v4a v4ba) (.ret ((J1 (E2 o2000000 (Int.toNat v20) (Int.toNat v2) (Int.toNat (v19 - v20))) v18 v3 v4a v4ba,())))) (.ret ((E2 o2000000 (Int.toNat v20) (Int.toNat v2) (Int.toNat (v19 - v20)),())))) (.ret ((E2 o2000000 (Int.toNat v20) (Int.toNat v2) (Int.toNat (v19 - v20)),())))))) (cond (decide (v1<v20)) (cond (decide (v20<v18)) (.e8 (smK k o2000000 v1 v20 v18 v4a v4ba) (cond (decide (v18<v19 - v20)) (cond (decide (v19 - v20<v3)) (.e8 (smK k (J1 o2000000 v1 v18 v4a v4ba) v18 (v19 - v20) v3 v4a v4ba) (.ret ((J1 (J1 o2000000 v1 v18 v4a v4ba) v18 v3 v4a v4ba,())))) (.ret ((J1 o2000000 v1 v18 v4a v4ba,())))) (.ret ((J1 o2000000 v1 v18 v4a v4ba,()))))) (cond (decide (v18<v19 - v20)) (cond (decide (v19 - v20<v3)) (.e8 (smK k o2000000 v18 (v19 - v20) v3 v4a v4ba) (.ret ((J1 o2000000 v18 v3 v4a v4ba,())))) (.ret ((o2000000,())))) (.ret ((o2000000,()))))) (cond (decide (v18<v19 - v20)) (cond (decide (v19 - v20<v3)) (.e8 (smK k o2000000 v18 (v19 - v20) v3 v4a v4ba) (.ret ((J1 o2000000 v18 v3 v4a v4ba,())))) (.ret ((o2000000,())))) (.ret ((o2000000,())))))) (cond (decide (v1<v20)) (cond (decide (v20<v18)) (.e8 (smK k o2000000 v1 v20 v18 v4a v4ba) (cond (decide (v18<v19 - v20)) (cond (decide (v19 - v20<v3)) (.e8 (smK k (J1 o2000000 v1 v18 v4a v4ba) v18 (v19 - v20) v3 v4a v4ba) (.ret ((J1 (J1 o2000000 v1 v18 v4a v4ba) v18 v3 v4a v4ba,())))) (.ret ((J1 o2000000 v1 v18 v4a v4ba,())))) (.ret ((J1 o2000000 v1 v18 v4a v4ba,()))))) (cond (decide (v18<v19 - v20)) (cond (decide (v19 - v20<v3)) (.e8 (smK k o2000000 v18 (v19 - v20) v3 v4a v4ba) (.ret ((J1 o2000000 v18 v3 v4a v4ba,())))) (.ret ((o2000000,())))) (.ret ((o2000000,()))))) (cond (decide (v18<v19 - v20)) (cond (decide (v19 - v20<v3)) (.e8 (smK k o2000000 v18 (v19 - v20) v3 v4a v4ba) (.ret ((J1 o2000000 v18 v3 v4a v4ba,())))) (.ret ((o2000000,())))) (.ret ((o2000000,()))))))):=by kernel_rfl
def a8V (v10:Int) (v13:Int) (o2000000:List Int):St:=St.mk [(0,AV.at_ 2000000 []),(10,vI v10),(13,vI v13)] [(2000000,f7.own Is o2000000)]
theorem c2f (k:Nat) (v10:Int) (v13:Int) (o2000000:List Int):exec (a12 k) 1000 (.code (d9 (d8 Try.prog 279) 9).1::.inLoop (d9 (d8 Try.prog 279) 9).1::(d9 (d8 Try.prog 279) 9).2) (a8V v10 v13 o2000000) =
  .e8 (r9 IntKind.i64 (v10 - (1:Int))) (cond (decide (v13<v10 - (1:Int))) (.e8 (r9 IntKind.i64 (v13+(1:Int))) (.e8 (r9 IntKind.i64 (v13+(1:Int))) (.e8 ((0:Int)≤v13+(1:Int)∧v13+(1:Int)<(↑(List.length o2000000):Int)) (.e8 ((0:Int)≤v13∧v13<(↑(List.length o2000000):Int)) (.e8 ((0:Int)≤v13∧v13<(↑(List.length o2000000):Int)) (.e8 ((0:Int)≤v13+(1:Int)∧v13+(1:Int)<(↑(List.length (List.set o2000000 (Int.toNat v13) (List.getD o2000000 (Int.toNat (v13+(1:Int))) (0:Int)))):Int)) (.e8 (r9 IntKind.i64 (v13+(1:Int))) (.ctL (d9 (d8 Try.prog 279) 9) (St.mk [(0,AV.at_ 2000000 []),(10,vI v10),(13,vI (v13+(1:Int)))] [(2000000,f7.own Is (List.set (List.set o2000000 (Int.toNat v13) (List.getD o2000000 (Int.toNat (v13+(1:Int))) (0:Int))) (Int.toNat (v13+(1:Int))) (List.getD o2000000 (Int.toNat v13) (0:Int))))]))))))))) (.ret ((o2000000,())))):=by kernel_rfl
def a65 (v14:Int) (v17:Int) (o2000000:List Int):St:=St.mk [(0,AV.at_ 2000000 []),(14,vI v14),(17,vI v17)] [(2000000,f7.own Is o2000000)]
theorem c0p (k:Nat) (v14:Int) (v17:Int) (o2000000:List Int):exec (a12 k) 1000 (.code (d9 (d8 Try.prog 279) 21).1::.inLoop (d9 (d8 Try.prog 279) 21).1::(d9 (d8 Try.prog 279) 21).2) (a65 v14 v17 o2000000) =
  cond (decide (v14<v17)) (.e8 (r9 IntKind.i64 (v17 - (1:Int))) (.e8 (r9 IntKind.i64 (v17 - (1:Int))) (.e8 ((0:Int)≤v17 - (1:Int)∧v17 - (1:Int)<(↑(List.length o2000000):Int)) (.e8 ((0:Int)≤v17∧v17<(↑(List.length o2000000):Int)) (.e8 ((0:Int)≤v17∧v17<(↑(List.length o2000000):Int)) (.e8 ((0:Int)≤v17 - (1:Int)∧v17 - (1:Int)<(↑(List.length (List.set o2000000 (Int.toNat v17) (List.getD o2000000 (Int.toNat (v17 - (1:Int))) (0:Int)))):Int)) (.e8 (r9 IntKind.i64 (v17 - (1:Int))) (.ctL (d9 (d8 Try.prog 279) 21) (St.mk [(0,AV.at_ 2000000 []),(14,vI v14),(17,vI (v17 - (1:Int)))] [(2000000,f7.own Is (List.set (List.set o2000000 (Int.toNat v17) (List.getD o2000000 (Int.toNat (v17 - (1:Int))) (0:Int))) (Int.toNat (v17 - (1:Int))) (List.getD o2000000 (Int.toNat v17) (0:Int))))]))))))))) (.ret ((o2000000,()))):=by kernel_rfl
theorem a9B {i j:Nat} (h:i+j≤18446744073709551615):IntKind.wrap .i64 (IntKind.wrap .u64 ((i:Int)+(j:Int)) / 2^min (Int.toNat 1) (IntKind.bits .u64))=(((i+j) / 2:Nat):Int):=by
  have e1:IntKind.wrap .u64 ((i:Int)+(j:Int))=((i+j:Nat):Int):=by
    rw [N9 ⟨by show (0:Int)≤_; omega,by show (_:Int)≤18446744073709551615; omega⟩]; omega
  have e2:(2:Int)^min (Int.toNat 1) (IntKind.bits .u64)=2:=by decide
  rw [e1,e2,N9 ⟨by show (-9223372036854775808:Int)≤_; omega,by show (_:Int)≤9223372036854775807; omega⟩]; omega
structure SrI (lt:Int→Int→Bool) (l:List Int) (p s0 r0 s r:Nat):Prop where
  b1:s0≤s
  b2:s≤r
  b3:r≤r0
  lo:∀ c,s0≤c→c<s→lt (l.getD (p - c) 0) (l.getD c 0)=false
  hi:∀ c,r≤c→c<r0→lt (l.getD (p - c) 0) (l.getD c 0)=true
section
variable {lt:Int→Int→Bool} {l:List Int} {a b m mid p s0 r0 s r c:Nat}
theorem SrI.no (hO:SWO lt) (o1:G7 lt l a m) (o2:G7 lt l m b) (hb:b≤l.length) (ham:a≤m) (hmb:m≤b) (k1:a≤s0) (k2:r0≤m) (k3:∀ x,s0≤x→x<r0→m≤p - x∧p - x<b) (h:SrI lt l p s0 r0 s r) (h1:s≤c) (h2:c<r) (e:lt (l.getD (p - c) 0) (l.getD c 0)=false):SrI lt l p s0 r0 (c+1) r:=by
  have hb1:=h.b1; have hb3:=h.b3
  refine ⟨by omega,by omega,h.b3,fun x x1 x2=>?_,h.hi⟩
  have p1:=k3 x x1 (by omega)
  have p2:=k3 c (by omega) (by omega)
  have i1:=a0J hO o1 (by omega) (x:=x) (y:=c) (by omega) (by omega) (by omega)
  have i2:=a0J hO o2 hb (x:=p - c) (y:=p - x) (by omega) (by omega) (by omega)
  exact hO.ntrans _ _ _ i2 (hO.ntrans _ _ _ e i1)
theorem SrI.is (hO:SWO lt) (o1:G7 lt l a m) (o2:G7 lt l m b) (hb:b≤l.length) (ham:a≤m) (hmb:m≤b) (k1:a≤s0) (k2:r0≤m) (k3:∀ x,s0≤x→x<r0→m≤p - x∧p - x<b) (h:SrI lt l p s0 r0 s r) (h1:s≤c) (h2:c<r) (e:lt (l.getD (p - c) 0) (l.getD c 0)=true):SrI lt l p s0 r0 s c:=by
  have hb1:=h.b1; have hb3:=h.b3
  refine ⟨h.b1,by omega,by omega,h.lo,fun x x1 x2=>?_⟩
  have p1:=k3 x (by omega) x2
  have p2:=k3 c (by omega) (by omega)
  have i1:=a0J hO o1 (by omega) (x:=c) (y:=x) (by omega) (by omega) (by omega)
  have i2:=a0J hO o2 hb (x:=p - x) (y:=p - c) (by omega) (by omega) (by omega)
  cases hh:lt (l.getD (p - x) 0) (l.getD x 0) with
  | true=>rfl
  | false=>rw [hO.ntrans _ _ _ i2 (hO.ntrans _ _ _ hh i1)] at e; cases e
end
theorem OkL.mem {ls:List Int} {hs:List y8} {l:List Int} (h:OkL ls hs l) {i:Nat} (hi:i<l.length):0≤l.getD i 0∧l.getD i 0<(ls.length:Int):=h.2.1.2 _ (P6 hi)
theorem b90 {k:Nat} (hk:(a7u k).Valid Try.prog 279):(a7u (k+1)).Valid Try.prog 279:=by
  refine w9.u7 (a1m hk) rfl rfl Try.func279 (c:=d8 Try.prog 279) rfl rfl a1l rfl ?_
  rintro ⟨(l:List Int),(a:Int),(m:Int),(b:Int),⟨(ls:List Int),(hs:List y8),⟨⟩⟩,⟨⟩⟩ ⟨⟨⟨(ha:0≤a),(hb:a<m),(hn:m<b)⟩,(h1:b.toNat≤l.length),(hok:OkL ls hs l)⟩,⟨(o1:G7 (A4 ls hs) l a.toNat m.toNat),(o2:G7 (A4 ls hs) l m.toNat b.toNat)⟩,(hfew:b - a<(k+1:Nat))⟩ ⟨⟨hl,-⟩,-⟩
  have hl:l.length≤4611686018427387904:=hok.2.1.1
  obtain ⟨a,rfl⟩:=Int.eq_ofNat_of_zero_le ha
  obtain ⟨m,rfl⟩:=Int.eq_ofNat_of_zero_le (show 0≤m by omega)
  obtain ⟨b,rfl⟩:=Int.eq_ofNat_of_zero_le (show 0≤b by omega)
  have h1:b≤l.length:=by simpa using h1
  have hb:a<m:=by omega
  have hn:m<b:=by omega
  rw [Int.toNat_natCast,Int.toNat_natCast] at o1 o2
  have hO:=b61 ls hs
  have hT:J1 l (a:Int) (b:Int) ls hs=s9 (A4 ls hs) l a b:=by rw [J1,Int.toNat_natCast,Int.toNat_natCast]
  refine n7 (n:=1000) (a1m hk) a1l ?_
  refine g9 (c35 k l (a:Int) (m:Int) (b:Int) ls hs) ?_
  have hK:∀ {x:Int},0≤x+1→x≤9223372036854775807→r9 .i64 x:=fun h1 h2=>l7.2 ⟨by omega,h2⟩
  have fin:∀ {X:List Int},X=s9 (A4 ls hs) l a b→((X,()):List Int×Unit)=(J1 l (a:Int) (b:Int) ls hs,()):=fun h=>by rw [hT,h]
  refine ⟨hK (by omega) (by omega),fun _=>i9.2 ⟨fun c=>?_,fun c=>?_⟩⟩
  · -- one ahead
    have c:(m:Int) - a=1:=of_decide_eq_true c
    have c:m=a+1:=by omega
    subst c
    refine Reach.C1 (a1m hk) a1l (fun s:Nat×Nat=>b4u (a:Int) ls hs (s.1:Int) (s.2:Int) l) (fun s=>(a+1≤s.1∧s.1≤s.2∧s.2≤b)∧(∀ k,a+1≤k→k<s.1→A4 ls hs (l.getD k 0) (l.getD a 0)=true)∧(∀ k,s.2≤k→k<b→A4 ls hs (l.getD k 0) (l.getD a 0)=false)) (fun s=>s.2 - s.1) 1000 (fun _=>⟨j7 rfl,j7 rfl⟩) ?_ (a+1,b) ⟨⟨Nat.le_refl _,by omega,Nat.le_refl _⟩,fun k _ _=>by omega,fun k _ _=>by omega⟩
    rintro ⟨i,j⟩ ⟨⟨(k1:a+1≤i),(k2:i≤j),(k3:j≤b)⟩,(k4:∀ k,a+1≤k→k<i→A4 ls hs (l.getD k 0) (l.getD a 0)=true),(k5:∀ k,j≤k→k<b→A4 ls hs (l.getD k 0) (l.getD a 0)=false)⟩ - ih
    refine g9 (c2g k ..) ?_
    rw [a9B (by omega)]
    have hlt:i<j→(i+j) / 2<j∧i≤(i+j) / 2:=fun h=>by omega
    have ih2:=fun (h:i<j)=>ih ((i+j) / 2+1,j)
    have ih3:=fun (h:i<j)=>ih (i,(i+j) / 2)
    generalize (i+j) / 2=h at *
    simp only [i9,Tree.holds,true_and,true_implies,decide_eq_true_eq,decide_eq_false_iff_not,Bool.not_eq_true',Bool.not_eq_false',Int.toNat_natCast,l7,List.length_set,List.length_cons,List.length_nil]
    refine ⟨fun d=>?_,fun d=>?_⟩
    · have d:i<j:=by omega
      have hh:=hlt d
      refine ⟨by omega,fun _=>⟨by omega,fun _=>⟨⟨by omega,by omega⟩,fun _=>⟨⟨by omega,by omega⟩,fun _=>⟨⟨⟨hok.mem (by omega),hok.mem (by omega)⟩,hok.1⟩,fun _=>⟨fun e=>⟨by omega,fun _=>?_⟩,fun e=>?_⟩⟩⟩⟩⟩⟩
      · refine ih2 d ⟨⟨by show a+1≤h+1; omega,by show h+1≤j; omega,k3⟩,fun x x1 x2=>?_,k5⟩ (by show j - (h+1)<j - i; omega)
        have x2:x<h+1:=x2
        have i1:=a0J hO o2 h1 (x:=x) (y:=h) (by omega) (by omega) (by omega)
        have e:A4 ls hs (l.getD h 0) (l.getD a 0)=true:=decide_eq_true e
        cases hh:A4 ls hs (l.getD x 0) (l.getD a 0) with
        | true=>rfl
        | false=>rw [hO.ntrans _ _ _ i1 hh] at e; cases e
      · refine ih3 d ⟨⟨k1,by show i≤h; omega,by show h≤b; omega⟩,k4,fun x x1 x2=>?_⟩ (by show h - i<j - i; omega)
        have x1:h≤x:=x1
        have i1:=a0J hO o2 h1 (x:=h) (y:=x) (by omega) (by omega) (by omega)
        have e:A4 ls hs (l.getD h 0) (l.getD a 0)=false:=decide_eq_false e
        exact hO.ntrans _ _ _ i1 e
    · obtain rfl:i=j:=by omega
      have he:=c3F hO k1 k3 h1 o2 k4 k5 hok.2.2
      have hz:mvR l a a=l:=c1e (by omega)
      suffices G:∀ x:Nat,(a≤x∧x≤i - 1)→Go.Ex.Reach (a12 k) Try.f279 () (J1 l (a:Int) (b:Int) ls hs,()) (.code (d9 (d8 Try.prog 279) 9).1::.inLoop (d9 (d8 Try.prog 279) 9).1::(d9 (d8 Try.prog 279) 9).2) (a8V (i:Int) (x:Int) (mvR l a x)) by
        have:=G a ⟨Nat.le_refl _,by omega⟩
        rw [hz] at this
        exact this
      refine Reach.C1 (a1m hk) a1l (fun x:Nat=>a8V (i:Int) (x:Int) (mvR l a x)) (fun x=>a≤x∧x≤i - 1) (fun x=>i - x) 1000 (fun _=>⟨j7 rfl,j7 rfl⟩) ?_
      rintro x ⟨(x1:a≤x),(x2:x≤i - 1)⟩ - ih4
      refine g9 (c2f k ..) ?_
      have hlen:(mvR l a x).length=l.length:=(c1g x1 (by omega)).length_eq
      simp only [i9,Tree.holds,true_and,true_implies,decide_eq_true_eq,decide_eq_false_iff_not,Bool.not_eq_true',Bool.not_eq_false',Int.toNat_natCast,l7,List.length_set,List.length_cons,List.length_nil]
      have ex:((x:Int)+1).toNat=x+1:=by omega
      rw [ex]
      refine ⟨by omega,fun _=>⟨fun d=>?_,fun d=>fin ?_⟩⟩
      · have next:=ih4 (x+1) ⟨by omega,by omega⟩ (by omega)
        rw [← c1f x1 (by omega)] at next
        exact ⟨by omega,fun _=>⟨by omega,fun _=>⟨by omega,fun _=>⟨by omega,fun _=>⟨by omega,fun _=>⟨by omega,fun _=>⟨by omega,fun _=>next⟩⟩⟩⟩⟩⟩⟩
      · rw [← he,show x=i - 1 by omega]
  refine ⟨hK (by omega) (by omega),fun _=>i9.2 ⟨fun c2=>?_,fun c2=>?_⟩⟩
  · -- one behind
    have c2:(b:Int) - m=1:=of_decide_eq_true c2
    have c2:b=m+1:=by omega
    subst c2
    refine Reach.C1 (a1m hk) a1l (fun s:Nat×Nat=>b1Q (m:Int) ls hs (s.1:Int) (s.2:Int) l) (fun s=>(a≤s.1∧s.1≤s.2∧s.2≤m)∧(∀ k,a≤k→k<s.1→A4 ls hs (l.getD m 0) (l.getD k 0)=false)∧(∀ k,s.2≤k→k<m→A4 ls hs (l.getD m 0) (l.getD k 0)=true)) (fun s=>s.2 - s.1) 1000 (fun _=>⟨j7 rfl,j7 rfl⟩) ?_ (a,m) ⟨⟨Nat.le_refl _,by omega,Nat.le_refl _⟩,fun k _ _=>by omega,fun k _ _=>by omega⟩
    rintro ⟨i,j⟩ ⟨⟨(k1:a≤i),(k2:i≤j),(k3:j≤m)⟩,(k4:∀ k,a≤k→k<i→A4 ls hs (l.getD m 0) (l.getD k 0)=false),(k5:∀ k,j≤k→k<m→A4 ls hs (l.getD m 0) (l.getD k 0)=true)⟩ - ih
    refine g9 (c0q k ..) ?_
    rw [a9B (by omega)]
    have hlt:i<j→(i+j) / 2<j∧i≤(i+j) / 2:=fun h=>by omega
    have ih2:=fun (h:i<j)=>ih ((i+j) / 2+1,j)
    have ih3:=fun (h:i<j)=>ih (i,(i+j) / 2)
    generalize (i+j) / 2=h at *
    simp only [i9,Tree.holds,true_and,true_implies,decide_eq_true_eq,decide_eq_false_iff_not,Bool.not_eq_true',Bool.not_eq_false',Int.toNat_natCast,l7,List.length_set,List.length_cons,List.length_nil]
    refine ⟨fun d=>?_,fun d=>?_⟩
    · have d:i<j:=by omega
      have hh:=hlt d
      refine ⟨by omega,fun _=>⟨by omega,fun _=>⟨⟨by omega,by omega⟩,fun _=>⟨⟨by omega,by omega⟩,fun _=>⟨⟨⟨hok.mem (by omega),hok.mem (by omega)⟩,hok.1⟩,fun _=>⟨fun e=>⟨by omega,fun _=>?_⟩,fun e=>?_⟩⟩⟩⟩⟩⟩
      · refine ih2 d ⟨⟨by show a≤h+1; omega,by show h+1≤j; omega,k3⟩,fun x x1 x2=>?_,k5⟩ (by show j - (h+1)<j - i; omega)
        have x2:x<h+1:=x2
        have i1:=a0J hO o1 (by omega) (x:=x) (y:=h) (by omega) (by omega) (by omega)
        have e:A4 ls hs (l.getD m 0) (l.getD h 0)=false:=decide_eq_false e
        exact hO.ntrans _ _ _ e i1
      · refine ih3 d ⟨⟨k1,by show i≤h; omega,by show h≤m; omega⟩,k4,fun x x1 x2=>?_⟩ (by show h - i<j - i; omega)
        have x1:h≤x:=x1
        have i1:=a0J hO o1 (by omega) (x:=h) (y:=x) (by omega) (by omega) (by omega)
        have e:A4 ls hs (l.getD m 0) (l.getD h 0)=true:=decide_eq_true e
        cases hh:A4 ls hs (l.getD m 0) (l.getD x 0) with
        | true=>rfl
        | false=>rw [hO.ntrans _ _ _ hh i1] at e; cases e
    · obtain rfl:i=j:=by omega
      have he:=c3G hO k1 k3 (by omega) o1 k4 k5 hok.2.2
      have hz:mvL l m m=l:=c1h (by omega)
      suffices G:∀ x:Nat,(i≤x∧x≤m)→Go.Ex.Reach (a12 k) Try.f279 () (J1 l (a:Int) ((m+1:Nat):Int) ls hs,()) (.code (d9 (d8 Try.prog 279) 21).1::.inLoop (d9 (d8 Try.prog 279) 21).1::(d9 (d8 Try.prog 279) 21).2) (a65 (i:Int) (x:Int) (mvL l m x)) by
        have:=G m ⟨k3,Nat.le_refl _⟩
        rw [hz] at this
        exact this
      refine Reach.C1 (a1m hk) a1l (fun x:Nat=>a65 (i:Int) (x:Int) (mvL l m x)) (fun x=>i≤x∧x≤m) (fun x=>x) 1000 (fun _=>⟨j7 rfl,j7 rfl⟩) ?_
      rintro x ⟨(x1:i≤x),(x2:x≤m)⟩ - ih4
      refine g9 (c0p k ..) ?_
      have hlen:(mvL l m x).length=l.length:=(c1j x2 (by omega)).length_eq
      simp only [i9,Tree.holds,true_and,true_implies,decide_eq_true_eq,decide_eq_false_iff_not,Bool.not_eq_true',Bool.not_eq_false',Int.toNat_natCast,l7,List.length_set,List.length_cons,List.length_nil]
      refine ⟨fun d=>?_,fun d=>fin ?_⟩
      · obtain ⟨y,rfl⟩:∃ y,x=y+1:=⟨x - 1,by omega⟩
        have next:=ih4 y ⟨by omega,by omega⟩ (by omega)
        rw [← c1i (by omega) (by omega)] at next
        have ey:((y+1:Nat):Int) - 1=(y:Int):=by omega
        rw [ey,Int.toNat_natCast]
        exact ⟨by omega,fun _=>⟨by omega,fun _=>⟨by omega,fun _=>⟨by omega,fun _=>⟨by omega,fun _=>⟨by omega,fun _=>⟨by omega,fun _=>next⟩⟩⟩⟩⟩⟩⟩
      · rw [← he,show x=i by omega]
  · -- the merge
    have c:¬ ((m:Int) - a=1):=of_decide_eq_false c
    have c2:¬ ((b:Int) - m=1):=of_decide_eq_false c2
    rw [a9B (by omega)]
    have hmid:a<(a+b) / 2∧(a+b) / 2<b∧a+b≤2*((a+b) / 2)+1∧2*((a+b) / 2)≤a+b:=by omega
    generalize (a+b) / 2=mid at *
    obtain ⟨m1,m2,m3,m4⟩:=hmid
    have loop:∀ s0 r0:Nat,a≤s0→r0≤m→r0≤mid→mid+m≤s0+b→s0≤r0→(s0=a∨s0+b=mid+m)→(r0=m∨r0=mid)→Go.Ex.Reach (a12 k) Try.f279 () (J1 l (a:Int) (b:Int) ls hs,()) (.code (d9 (d8 Try.prog 279) 33).1::.inLoop (d9 (d8 Try.prog 279) 33).1::(d9 (d8 Try.prog 279) 33).2) (a64 (a:Int) (m:Int) (b:Int) ls hs (mid:Int) ((mid+m:Nat):Int) (s0:Int) (r0:Int) ((mid+m - 1:Nat):Int) l):=by
      intro s0 r0 g1 g2 g3 g4 g5 g6 g7
      have k3:∀ x,s0≤x→x<r0→m≤mid+m - 1 - x∧mid+m - 1 - x<b:=fun x x1 x2=>by omega
      refine Reach.C1 (a1m hk) a1l (fun s:Nat×Nat=>a64 (a:Int) (m:Int) (b:Int) ls hs (mid:Int) ((mid+m:Nat):Int) (s.1:Int) (s.2:Int) ((mid+m - 1:Nat):Int) l) (fun s=>SrI (A4 ls hs) l (mid+m - 1) s0 r0 s.1 s.2) (fun s=>s.2 - s.1) 1000 (fun _=>⟨j7 rfl,j7 rfl⟩) ?_ (s0,r0) ⟨Nat.le_refl _,g5,Nat.le_refl _,fun c _ _=>by omega,fun c _ _=>by omega⟩
      rintro ⟨s,r⟩ hI - ih
      have hI:SrI (A4 ls hs) l (mid+m - 1) s0 r0 s r:=hI
      have b1:=hI.b1
      have b2:=hI.b2
      have b3:=hI.b3
      refine g9 (c0o k ..) ?_
      rw [a9B (by omega)]
      refine i9.2 ⟨fun d=>?_,fun d=>?_⟩
      · have d:(s:Int)<(r:Int):=of_decide_eq_true d
        have hlt:s≤(s+r) / 2∧(s+r) / 2<r:=by omega
        generalize (s+r) / 2=h at *
        have hk3:=k3 h (by omega) (by omega)
        have e1:((mid+m - 1:Nat):Int) - (h:Int)=((mid+m - 1 - h:Nat):Int):=by omega
        rw [e1]
        simp only [i9,Tree.holds,true_and,true_implies,decide_eq_true_eq,decide_eq_false_iff_not,Bool.not_eq_true',Bool.not_eq_false',Int.toNat_natCast,l7,List.length_set,List.length_cons,List.length_nil]
        refine ⟨by omega,fun _=>⟨by omega,fun _=>⟨by omega,fun _=>⟨⟨by omega,by omega⟩,fun _=>⟨⟨by omega,by omega⟩,fun _=>⟨⟨⟨hok.mem (by omega),hok.mem (by omega)⟩,hok.1⟩,fun _=>⟨fun e=>⟨by omega,fun _=>?_⟩,fun e=>?_⟩⟩⟩⟩⟩⟩⟩
        · exact ih (h+1,r) (hI.no hO o1 o2 h1 (by omega) (by omega) g1 g2 k3 hlt.1 hlt.2 (decide_eq_false e)) (by show r - (h+1)<r - s; omega)
        · exact ih (s,h) (hI.is hO o1 o2 h1 (by omega) (by omega) g1 g2 k3 hlt.1 hlt.2 (decide_eq_true e)) (by show h - s<r - s; omega)
      · have d:¬ (s:Int)<(r:Int):=of_decide_eq_false d
        obtain rfl:s=r:=by omega
        have e1:((mid+m:Nat):Int) - (s:Int)=((mid+m - s:Nat):Int):=by omega
        rw [e1]
        obtain ⟨e,he⟩:∃ e,mid+m - s=e:=⟨_,rfl⟩
        rw [he]
        have D:=c0P hO (l:=l) (a:=a) (s:=s) (m:=m) (e:=e) (b:=b) (mid:=mid) (by omega) (by omega) (by omega) (by omega) h1 (by omega) o1 o2
          (fun x1 x2=>by
            by_cases hs0:s0<s
            · have:=hI.lo (s - 1) (by omega) (by omega)
              rwa [show mid+m - 1 - (s - 1)=e by omega] at this
            · omega)
          (fun x1 x2=>by
            by_cases hr0:s<r0
            · have:=hI.hi s (by omega) hr0
              rw [show mid+m - 1 - s=e - 1 by omega] at this
              cases hh:A4 ls hs (l.getD s 0) (l.getD (e - 1) 0) with
              | false=>rfl
              | true=>have:=hO.trans _ _ _ this hh; rw [hO.irrefl] at this; cases this
            · omega) hok.2.2
        have hRl:∀ {X:List Int},X.Perm l→X.length=l.length∧OkL ls hs X:=fun h=>⟨h.length_eq,hok.perm h⟩
        have hR2:J1 (E2 l s m e) (a:Int) (mid:Int) ls hs=s9 (A4 ls hs) (E2 l s m e) a mid:=by rw [J1,Int.toNat_natCast,Int.toNat_natCast]
        have hp1:=hRl D.perm
        have hp2:=hRl ((X4 (lt:=A4 ls hs) (l:=E2 l s m e) (a:=a) (b:=mid) (by omega)).trans D.perm)
        have q1:a<s→s<mid→smK k (E2 l s m e) (a:Int) (s:Int) (mid:Int) ls hs:=fun x1 x2=>⟨⟨⟨by omega,by omega,by omega⟩,by rw [Int.toNat_natCast,hp1.1]; omega,hp1.2⟩,⟨by rw [Int.toNat_natCast,Int.toNat_natCast]; exact D.r1,by rw [Int.toNat_natCast,Int.toNat_natCast]; exact D.r2⟩,by omega⟩
        have q2:mid<e→e<b→smK k (s9 (A4 ls hs) (E2 l s m e) a mid) (mid:Int) (e:Int) (b:Int) ls hs:=fun x1 x2=>⟨⟨⟨by omega,by omega,by omega⟩,by rw [Int.toNat_natCast,hp2.1]; omega,hp2.2⟩,⟨by rw [Int.toNat_natCast,Int.toNat_natCast]; exact D.r3,by rw [Int.toNat_natCast,Int.toNat_natCast]; exact D.r4⟩,by omega⟩
        have t2:J1 (s9 (A4 ls hs) (E2 l s m e) a mid) (mid:Int) (b:Int) ls hs=s9 (A4 ls hs) l a b:=by rw [J1,Int.toNat_natCast,Int.toNat_natCast,D.all]
        have t3:(mid=e∨e=b)→s9 (A4 ls hs) (E2 l s m e) a mid=s9 (A4 ls hs) l a b:=fun h=>by rw [← D.all,D.n2 h]
        have t4:(a=s∨s=mid)→E2 l s m e=s9 (A4 ls hs) (E2 l s m e) a mid:=fun h=>(D.n1 h).symm
        have t5:(s=m∨m=e)→l=E2 l s m e:=fun h=>(D.rot h).symm
        have hp0:e≤l.length:=by omega
        rw [← hT] at t2 t3
        clear D hp1 hp2 hRl
        generalize J1 l (a:Int) (b:Int) ls hs=T at *
        generalize s9 (A4 ls hs) (E2 l s m e) a mid=S1 at *
        have hse:s≤m∧m≤e∧a≤s∧s≤mid∧mid≤e∧e≤b:=by omega
        simp only [i9,Tree.holds,true_and,true_implies,decide_eq_true_eq,decide_eq_false_iff_not,Bool.not_eq_true',Bool.not_eq_false',Int.toNat_natCast,l7,List.length_set,List.length_cons,List.length_nil]
        refine ⟨by omega,fun _=>⟨fun y1=>⟨fun y2=>⟨⟨⟨by omega,by omega,by omega⟩,hp0⟩,fun _=>?_⟩,fun y2=>?_⟩,fun y1=>?_⟩⟩
        rotate_left
        (rw [t5 (.inr (by omega))])
        rotate_left
        (rw [t5 (.inl (by omega))])
        rotate_left
        all_goals (refine ⟨fun y3=>⟨fun y4=>⟨q1 (by omega) (by omega),fun _=>?_⟩,fun y4=>?_⟩,fun y3=>?_⟩)
        all_goals first|rw [hR2]|rw [t4 (.inl (by omega))]|rw [t4 (.inr (by omega))]
        all_goals exact ⟨fun y5=>⟨fun y6=>⟨q2 (by omega) (by omega),fun _=>by rw [t2]; rfl⟩,fun y6=>by rw [t3 (.inr (by omega))]; rfl⟩,fun y5=>by rw [t3 (.inl (by omega))]; rfl⟩
    have e0:(mid:Int)+(m:Int)=((mid+m:Nat):Int):=by omega
    have e2:((mid+m:Nat):Int) - 1=((mid+m - 1:Nat):Int):=by omega
    rw [e0,e2]
    simp only [i9,Tree.holds,true_and,true_implies,decide_eq_true_eq,decide_eq_false_iff_not,Bool.not_eq_true',Bool.not_eq_false',Int.toNat_natCast,l7,List.length_set,List.length_cons,List.length_nil]
    refine ⟨by omega,fun _=>⟨by omega,fun _=>⟨by omega,fun _=>⟨fun z=>?_,fun z=>?_⟩⟩⟩⟩
    · have e1:((mid+m:Nat):Int) - (b:Int)=((mid+m - b:Nat):Int):=by omega
      rw [e1]
      exact ⟨by omega,fun _=>⟨by omega,fun _=>loop (mid+m - b) mid (by omega) (by omega) (by omega) (by omega) (by omega) (.inr (by omega)) (.inr rfl)⟩⟩
    · exact ⟨by omega,fun _=>loop a m (by omega) (by omega) (by omega) (by omega) (by omega) (.inl rfl) (.inl rfl)⟩
theorem b4T {P:Program} {f:FuncId} {c:w9} (h:∃ fn,P.funcs[f]?=some fn∧(fn.name == "runtime.NumGoroutine")=false∧fn.body.isNone=false) (hn:∀ x,¬ c.pre x):c.Valid P f :=
  ⟨h,fun _ _ _ x _ _ _ hp=>absurd hp (hn x),fun _ _ _ _ x _ _ _ hp=>absurd hp (hn x)⟩
theorem c1L:∃ fn,Try.prog.funcs[279]?=some fn∧(fn.name == "runtime.NumGoroutine")=false∧fn.body.isNone=false:=⟨_,Try.func279,by kernel_rfl,by kernel_rfl⟩
theorem a7V:∀ k,(a7u k).Valid Try.prog 279
  | 0=>by
    refine b4T c1L ?_
    rintro ⟨(l:List Int),(a:Int),(m:Int),(b:Int),⟨(ls:List Int),(hs:List y8),⟨⟩⟩,⟨⟩⟩ ⟨⟨⟨h1,h2,h3⟩,_⟩,_,h⟩
    have h2:a<m:=h2
    have h3:m<b:=h3
    have h:b - a<0:=h
    omega
  | k+1=>b90 (a7V k)
end Go.Proofs.Ytekbamiaenbhjaa
