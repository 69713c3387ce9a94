/- symMergeCmpFunc at int with stamp.Total's comparison: two sorted neighbouring parts become one. Conditions: the parts lie in the slice and are sorted, no ties. -/
import Derived.Test.YtekbamiaenbhjaaStH
namespace Go.Proofs.Ytekbamiaenbhjaa
open Go.Ex Go.Sort
set_option maxRecDepth 100000
def smK (k:Nat) (l:List Int) (a m b:Int) (ls:List Int) (hs:List I5):Prop:=((0≤a∧a<m∧m<b)∧b.toNat≤l.length∧OkL ls hs l)∧(G2 (x6 ls hs) l a.toNat m.toNat∧G2 (x6 ls hs) l m.toNat b.toNat)∧b - a<k
def I0 (l:List Int) (a b:Int) (ls:List Int) (hs:List I5):List Int:=s7 (x6 ls hs) l a.toNat b.toNat
def a58 (k:Nat):D7:={ ps:=[.mu C8,.v C8,.v C8,.v C8,.s5 130 [.d0 false C8,.d0 false Event]],rs:=[],pre:=fun x=>smK k x.1 x.2.1 x.2.2.1 x.2.2.2.1 x.2.2.2.2.1.1 x.2.2.2.2.1.2.1,fn:=fun _=>(),out:=fun x=>(I0 x.1 x.2.1 x.2.2.2.1 x.2.2.2.2.1.1 x.2.2.2.2.1.2.1,()) }
noncomputable def a1h (k:Nat):Env:={ P:=Try.prog,tt:=tt,H8:=[(279,(a58 k)),(130,a9U),(325,b4i)],res:=[],rs:=[],ps:=[PK.mu (Ty.int IntKind.i64),PK.v (Ty.int IntKind.i64),PK.v (Ty.int IntKind.i64),PK.v (Ty.int IntKind.i64),PK.s5 130 [Ty.d0 false (Ty.int IntKind.i64),Ty.d0 false p7]],K0:=[(3,[(0,none),(1,none),(4,none),(10,none),(11,none)]),(9,[(0,none),(10,none),(13,none)]),(15,[(0,none),(2,none),(4,none),(14,none),(15,none)]),(21,[(0,none),(14,none),(17,none)]),(33,[(0,none),(1,none),(2,none),(3,none),(4,none),(18,none),(19,none),(20,none),(21,none),(22,none)])],nt:=220 }
theorem a0J {k:Nat} (hk:(a58 k).Valid Try.prog 279):I6 (a1h k):=L6 y7 ⟨hk,a6z,b2h,trivial⟩
theorem a0I {k:Nat}:M3 (a1h k) Try.f279:=⟨rfl,rfl⟩
theorem b8X (k:Nat) (x0:List Int) (x1:Int) (x2:Int) (x3:Int) (x4c0:List Int) (x4c1:List (Int×Int×Int×Unit)):exec (a1h k) 1000 [.code (d9 Try.prog 279)] (H7 (a58 k).ps ((x0,x1,x2,x3,(x4c0,x4c1,()),()))) =
  .i5 (v5 IntKind.i64 (x2 - x1)) (cond (decide (x2 - x1=(1:Int))) (.cut (e8 (d9 Try.prog 279) 3).1 (e8 (d9 Try.prog 279) 3).2 (St.mk [(0,AV.at_ 2000000 []),(1,AV.val (Ty.int IntKind.i64) x1),(4,AV.s5 130 (AV.cons (AV.s9 (Ty.d0 false (Ty.int IntKind.i64)) x4c0) (AV.cons (AV.s9 (Ty.d0 false p7) x4c1) AV.nil))),(10,AV.val (Ty.int IntKind.i64) x2),(11,AV.val (Ty.int IntKind.i64) x3)] [(2000000,g9.own Is x0)])) (.i5 (v5 IntKind.i64 (x3 - x2)) (cond (decide (x3 - x2=(1:Int))) (.cut (e8 (d9 Try.prog 279) 15).1 (e8 (d9 Try.prog 279) 15).2 (St.mk [(0,AV.at_ 2000000 []),(2,AV.val (Ty.int IntKind.i64) x2),(4,AV.s5 130 (AV.cons (AV.s9 (Ty.d0 false (Ty.int IntKind.i64)) x4c0) (AV.cons (AV.s9 (Ty.d0 false p7) x4c1) AV.nil))),(14,AV.val (Ty.int IntKind.i64) x1),(15,AV.val (Ty.int IntKind.i64) x2)] [(2000000,g9.own Is x0)])) (.i5 (v5 IntKind.i64 (x1+x3)) (.i5 ((0:Int)≤(1:Int)) (.i5 (v5 IntKind.i64 (IntKind.wrap IntKind.i64 (IntKind.wrap IntKind.u64 (x1+x3) / (2:Int)^min (Int.toNat (1:Int)) (IntKind.bits IntKind.u64))+x2)) (cond (decide (IntKind.wrap IntKind.i64 (IntKind.wrap IntKind.u64 (x1+x3) / (2:Int)^min (Int.toNat (1:Int)) (IntKind.bits IntKind.u64))<x2)) (.i5 (v5 IntKind.i64 (IntKind.wrap IntKind.i64 (IntKind.wrap IntKind.u64 (x1+x3) / (2:Int)^min (Int.toNat (1:Int)) (IntKind.bits IntKind.u64))+x2 - x3)) (.i5 (v5 IntKind.i64 (IntKind.wrap IntKind.i64 (IntKind.wrap IntKind.u64 (x1+x3) / (2:Int)^min (Int.toNat (1:Int)) (IntKind.bits IntKind.u64))+x2 - (1:Int))) (.cut (e8 (d9 Try.prog 279) 33).1 (e8 (d9 Try.prog 279) 33).2 (St.mk [(0,AV.at_ 2000000 []),(1,AV.val (Ty.int IntKind.i64) x1),(2,AV.val (Ty.int IntKind.i64) x2),(3,AV.val (Ty.int IntKind.i64) x3),(4,AV.s5 130 (AV.cons (AV.s9 (Ty.d0 false (Ty.int IntKind.i64)) x4c0) (AV.cons (AV.s9 (Ty.d0 false p7) x4c1) AV.nil))),(18,AV.val (Ty.int IntKind.i64) (IntKind.wrap IntKind.i64 (IntKind.wrap IntKind.u64 (x1+x3) / (2:Int)^min (Int.toNat (1:Int)) (IntKind.bits IntKind.u64)))),(19,AV.val (Ty.int IntKind.i64) (IntKind.wrap IntKind.i64 (IntKind.wrap IntKind.u64 (x1+x3) / (2:Int)^min (Int.toNat (1:Int)) (IntKind.bits IntKind.u64))+x2)),(20,AV.val (Ty.int IntKind.i64) (IntKind.wrap IntKind.i64 (IntKind.wrap IntKind.u64 (x1+x3) / (2:Int)^min (Int.toNat (1:Int)) (IntKind.bits IntKind.u64))+x2 - x3)),(21,AV.val (Ty.int IntKind.i64) (IntKind.wrap IntKind.i64 (IntKind.wrap IntKind.u64 (x1+x3) / (2:Int)^min (Int.toNat (1:Int)) (IntKind.bits IntKind.u64)))),(22,AV.val (Ty.int IntKind.i64) (IntKind.wrap IntKind.i64 (IntKind.wrap IntKind.u64 (x1+x3) / (2:Int)^min (Int.toNat (1:Int)) (IntKind.bits IntKind.u64))+x2 - (1:Int)))] [(2000000,g9.own Is x0)])))) (.i5 (v5 IntKind.i64 (IntKind.wrap IntKind.i64 (IntKind.wrap IntKind.u64 (x1+x3) / (2:Int)^min (Int.toNat (1:Int)) (IntKind.bits IntKind.u64))+x2 - (1:Int))) (.cut (e8 (d9 Try.prog 279) 33).1 (e8 (d9 Try.prog 279) 33).2 (St.mk [(0,AV.at_ 2000000 []),(1,AV.val (Ty.int IntKind.i64) x1),(2,AV.val (Ty.int IntKind.i64) x2),(3,AV.val (Ty.int IntKind.i64) x3),(4,AV.s5 130 (AV.cons (AV.s9 (Ty.d0 false (Ty.int IntKind.i64)) x4c0) (AV.cons (AV.s9 (Ty.d0 false p7) x4c1) AV.nil))),(18,AV.val (Ty.int IntKind.i64) (IntKind.wrap IntKind.i64 (IntKind.wrap IntKind.u64 (x1+x3) / (2:Int)^min (Int.toNat (1:Int)) (IntKind.bits IntKind.u64)))),(19,AV.val (Ty.int IntKind.i64) (IntKind.wrap IntKind.i64 (IntKind.wrap IntKind.u64 (x1+x3) / (2:Int)^min (Int.toNat (1:Int)) (IntKind.bits IntKind.u64))+x2)),(20,AV.val (Ty.int IntKind.i64) x1),(21,AV.val (Ty.int IntKind.i64) x2),(22,AV.val (Ty.int IntKind.i64) (IntKind.wrap IntKind.i64 (IntKind.wrap IntKind.u64 (x1+x3) / (2:Int)^min (Int.toNat (1:Int)) (IntKind.bits IntKind.u64))+x2 - (1:Int)))] [(2000000,g9.own Is x0)])))))))))):=by kernel_rfl
def b1A (v1:Int) (v4a:List Int) (v4ba:List (Int×Int×Int×Unit)) (v10:Int) (v11:Int) (o2000000:List Int):St:=St.mk [(0,AV.at_ 2000000 []),(1,AV.val (Ty.int IntKind.i64) v1),(4,AV.s5 130 (AV.cons (AV.s9 (Ty.d0 false (Ty.int IntKind.i64)) v4a) (AV.cons (AV.s9 (Ty.d0 false p7) v4ba) AV.nil))),(10,AV.val (Ty.int IntKind.i64) v10),(11,AV.val (Ty.int IntKind.i64) v11)] [(2000000,g9.own Is o2000000)]
theorem b7E (k:Nat) (v1:Int) (v4a:List Int) (v4ba:List (Int×Int×Int×Unit)) (v10:Int) (v11:Int) (o2000000:List Int):exec (a1h k) 1000 (.code (e8 (d9 Try.prog 279) 3).1::.inLoop (e8 (d9 Try.prog 279) 3).1::(e8 (d9 Try.prog 279) 3).2) (b1A v1 v4a v4ba v10 v11 o2000000) =
  cond (decide (v10<v11)) (.i5 (v5 IntKind.i64 (v10+v11)) (.i5 ((0:Int)≤(1:Int)) (.i5 ((0:Int)≤IntKind.wrap IntKind.i64 (IntKind.wrap IntKind.u64 (v10+v11) / (2:Int)^min (Int.toNat (1:Int)) (IntKind.bits IntKind.u64))∧IntKind.wrap IntKind.i64 (IntKind.wrap IntKind.u64 (v10+v11) / (2:Int)^min (Int.toNat (1:Int)) (IntKind.bits IntKind.u64))<(↑(List.length o2000000):Int)) (.i5 ((0:Int)≤v1∧v1<(↑(List.length o2000000):Int)) (.i5 ((((0:Int)≤List.getD o2000000 (Int.toNat (IntKind.wrap IntKind.i64 (IntKind.wrap IntKind.u64 (v10+v11) / (2:Int)^min (Int.toNat (1:Int)) (IntKind.bits IntKind.u64)))) (0:Int)∧List.getD o2000000 (Int.toNat (IntKind.wrap IntKind.i64 (IntKind.wrap IntKind.u64 (v10+v11) / (2:Int)^min (Int.toNat (1:Int)) (IntKind.bits IntKind.u64)))) (0:Int)<(↑(List.length v4a):Int))∧(0:Int)≤List.getD o2000000 (Int.toNat v1) (0:Int)∧List.getD o2000000 (Int.toNat v1) (0:Int)<(↑(List.length v4a):Int))∧List.length v4a=List.length v4ba) (cond (decide (a3j v4a v4ba (List.getD o2000000 (Int.toNat (IntKind.wrap IntKind.i64 (IntKind.wrap IntKind.u64 (v10+v11) / (2:Int)^min (Int.toNat (1:Int)) (IntKind.bits IntKind.u64)))) (0:Int)) (List.getD o2000000 (Int.toNat v1) (0:Int))<(0:Int))) (.i5 (v5 IntKind.i64 (IntKind.wrap IntKind.i64 (IntKind.wrap IntKind.u64 (v10+v11) / (2:Int)^min (Int.toNat (1:Int)) (IntKind.bits IntKind.u64))+(1:Int))) (.cut (e8 (d9 Try.prog 279) 3).1 (e8 (d9 Try.prog 279) 3).2 (St.mk [(0,AV.at_ 2000000 []),(1,AV.val (Ty.int IntKind.i64) v1),(4,AV.s5 130 (AV.cons (AV.s9 (Ty.d0 false (Ty.int IntKind.i64)) v4a) (AV.cons (AV.s9 (Ty.d0 false p7) v4ba) AV.nil))),(10,AV.val (Ty.int IntKind.i64) (IntKind.wrap IntKind.i64 (IntKind.wrap IntKind.u64 (v10+v11) / (2:Int)^min (Int.toNat (1:Int)) (IntKind.bits IntKind.u64))+(1:Int))),(11,AV.val (Ty.int IntKind.i64) v11)] [(2000000,g9.own Is o2000000)]))) (.cut (e8 (d9 Try.prog 279) 3).1 (e8 (d9 Try.prog 279) 3).2 (St.mk [(0,AV.at_ 2000000 []),(1,AV.val (Ty.int IntKind.i64) v1),(4,AV.s5 130 (AV.cons (AV.s9 (Ty.d0 false (Ty.int IntKind.i64)) v4a) (AV.cons (AV.s9 (Ty.d0 false p7) v4ba) AV.nil))),(10,AV.val (Ty.int IntKind.i64) v10),(11,AV.val (Ty.int IntKind.i64) (IntKind.wrap IntKind.i64 (IntKind.wrap IntKind.u64 (v10+v11) / (2:Int)^min (Int.toNat (1:Int)) (IntKind.bits IntKind.u64))))] [(2000000,g9.own Is o2000000)])))))))) (.cut (e8 (d9 Try.prog 279) 9).1 (e8 (d9 Try.prog 279) 9).2 (St.mk [(0,AV.at_ 2000000 []),(10,AV.val (Ty.int IntKind.i64) v10),(13,AV.val (Ty.int IntKind.i64) v1)] [(2000000,g9.own Is o2000000)])):=by kernel_rfl
def a9r (v2:Int) (v4a:List Int) (v4ba:List (Int×Int×Int×Unit)) (v14:Int) (v15:Int) (o2000000:List Int):St:=St.mk [(0,AV.at_ 2000000 []),(2,AV.val (Ty.int IntKind.i64) v2),(4,AV.s5 130 (AV.cons (AV.s9 (Ty.d0 false (Ty.int IntKind.i64)) v4a) (AV.cons (AV.s9 (Ty.d0 false p7) v4ba) AV.nil))),(14,AV.val (Ty.int IntKind.i64) v14),(15,AV.val (Ty.int IntKind.i64) v15)] [(2000000,g9.own Is o2000000)]
theorem b6k (k:Nat) (v2:Int) (v4a:List Int) (v4ba:List (Int×Int×Int×Unit)) (v14:Int) (v15:Int) (o2000000:List Int):exec (a1h k) 1000 (.code (e8 (d9 Try.prog 279) 15).1::.inLoop (e8 (d9 Try.prog 279) 15).1::(e8 (d9 Try.prog 279) 15).2) (a9r v2 v4a v4ba v14 v15 o2000000) =
  cond (decide (v14<v15)) (.i5 (v5 IntKind.i64 (v14+v15)) (.i5 ((0:Int)≤(1:Int)) (.i5 ((0:Int)≤v2∧v2<(↑(List.length o2000000):Int)) (.i5 ((0:Int)≤IntKind.wrap IntKind.i64 (IntKind.wrap IntKind.u64 (v14+v15) / (2:Int)^min (Int.toNat (1:Int)) (IntKind.bits IntKind.u64))∧IntKind.wrap IntKind.i64 (IntKind.wrap IntKind.u64 (v14+v15) / (2:Int)^min (Int.toNat (1:Int)) (IntKind.bits IntKind.u64))<(↑(List.length o2000000):Int)) (.i5 ((((0:Int)≤List.getD o2000000 (Int.toNat v2) (0:Int)∧List.getD o2000000 (Int.toNat v2) (0:Int)<(↑(List.length v4a):Int))∧(0:Int)≤List.getD o2000000 (Int.toNat (IntKind.wrap IntKind.i64 (IntKind.wrap IntKind.u64 (v14+v15) / (2:Int)^min (Int.toNat (1:Int)) (IntKind.bits IntKind.u64)))) (0:Int)∧List.getD o2000000 (Int.toNat (IntKind.wrap IntKind.i64 (IntKind.wrap IntKind.u64 (v14+v15) / (2:Int)^min (Int.toNat (1:Int)) (IntKind.bits IntKind.u64)))) (0:Int)<(↑(List.length v4a):Int))∧List.length v4a=List.length v4ba) (cond (!decide (a3j v4a v4ba (List.getD o2000000 (Int.toNat v2) (0:Int)) (List.getD o2000000 (Int.toNat (IntKind.wrap IntKind.i64 (IntKind.wrap IntKind.u64 (v14+v15) / (2:Int)^min (Int.toNat (1:Int)) (IntKind.bits IntKind.u64)))) (0:Int))<(0:Int))) (.i5 (v5 IntKind.i64 (IntKind.wrap IntKind.i64 (IntKind.wrap IntKind.u64 (v14+v15) / (2:Int)^min (Int.toNat (1:Int)) (IntKind.bits IntKind.u64))+(1:Int))) (.cut (e8 (d9 Try.prog 279) 15).1 (e8 (d9 Try.prog 279) 15).2 (St.mk [(0,AV.at_ 2000000 []),(2,AV.val (Ty.int IntKind.i64) v2),(4,AV.s5 130 (AV.cons (AV.s9 (Ty.d0 false (Ty.int IntKind.i64)) v4a) (AV.cons (AV.s9 (Ty.d0 false p7) v4ba) AV.nil))),(14,AV.val (Ty.int IntKind.i64) (IntKind.wrap IntKind.i64 (IntKind.wrap IntKind.u64 (v14+v15) / (2:Int)^min (Int.toNat (1:Int)) (IntKind.bits IntKind.u64))+(1:Int))),(15,AV.val (Ty.int IntKind.i64) v15)] [(2000000,g9.own Is o2000000)]))) (.cut (e8 (d9 Try.prog 279) 15).1 (e8 (d9 Try.prog 279) 15).2 (St.mk [(0,AV.at_ 2000000 []),(2,AV.val (Ty.int IntKind.i64) v2),(4,AV.s5 130 (AV.cons (AV.s9 (Ty.d0 false (Ty.int IntKind.i64)) v4a) (AV.cons (AV.s9 (Ty.d0 false p7) v4ba) AV.nil))),(14,AV.val (Ty.int IntKind.i64) v14),(15,AV.val (Ty.int IntKind.i64) (IntKind.wrap IntKind.i64 (IntKind.wrap IntKind.u64 (v14+v15) / (2:Int)^min (Int.toNat (1:Int)) (IntKind.bits IntKind.u64))))] [(2000000,g9.own Is o2000000)])))))))) (.cut (e8 (d9 Try.prog 279) 21).1 (e8 (d9 Try.prog 279) 21).2 (St.mk [(0,AV.at_ 2000000 []),(14,AV.val (Ty.int IntKind.i64) v14),(17,AV.val (Ty.int IntKind.i64) v2)] [(2000000,g9.own Is o2000000)])):=by kernel_rfl
def a5G (v1:Int) (v2:Int) (v3:Int) (v4a:List Int) (v4ba:List (Int×Int×Int×Unit)) (v18:Int) (v19:Int) (v20:Int) (v21:Int) (v22:Int) (o2000000:List Int):St:=St.mk [(0,AV.at_ 2000000 []),(1,AV.val (Ty.int IntKind.i64) v1),(2,AV.val (Ty.int IntKind.i64) v2),(3,AV.val (Ty.int IntKind.i64) v3),(4,AV.s5 130 (AV.cons (AV.s9 (Ty.d0 false (Ty.int IntKind.i64)) v4a) (AV.cons (AV.s9 (Ty.d0 false p7) v4ba) AV.nil))),(18,AV.val (Ty.int IntKind.i64) v18),(19,AV.val (Ty.int IntKind.i64) v19),(20,AV.val (Ty.int IntKind.i64) v20),(21,AV.val (Ty.int IntKind.i64) v21),(22,AV.val (Ty.int IntKind.i64) v22)] [(2000000,g9.own Is o2000000)]
theorem b6i (k:Nat) (v1:Int) (v2:Int) (v3:Int) (v4a:List Int) (v4ba:List (Int×Int×Int×Unit)) (v18:Int) (v19:Int) (v20:Int) (v21:Int) (v22:Int) (o2000000:List Int):exec (a1h k) 1000 (.code (e8 (d9 Try.prog 279) 33).1::.inLoop (e8 (d9 Try.prog 279) 33).1::(e8 (d9 Try.prog 279) 33).2) (a5G v1 v2 v3 v4a v4ba v18 v19 v20 v21 v22 o2000000) =
  cond (decide (v20<v21)) (.i5 (v5 IntKind.i64 (v20+v21)) (.i5 ((0:Int)≤(1:Int)) (.i5 (v5 IntKind.i64 (v22 - IntKind.wrap IntKind.i64 (IntKind.wrap IntKind.u64 (v20+v21) / (2:Int)^min (Int.toNat (1:Int)) (IntKind.bits IntKind.u64)))) (.i5 ((0:Int)≤v22 - IntKind.wrap IntKind.i64 (IntKind.wrap IntKind.u64 (v20+v21) / (2:Int)^min (Int.toNat (1:Int)) (IntKind.bits IntKind.u64))∧v22 - IntKind.wrap IntKind.i64 (IntKind.wrap IntKind.u64 (v20+v21) / (2:Int)^min (Int.toNat (1:Int)) (IntKind.bits IntKind.u64))<(↑(List.length o2000000):Int)) (.i5 ((0:Int)≤IntKind.wrap IntKind.i64 (IntKind.wrap IntKind.u64 (v20+v21) / (2:Int)^min (Int.toNat (1:Int)) (IntKind.bits IntKind.u64))∧IntKind.wrap IntKind.i64 (IntKind.wrap IntKind.u64 (v20+v21) / (2:Int)^min (Int.toNat (1:Int)) (IntKind.bits IntKind.u64))<(↑(List.length o2000000):Int)) (.i5 ((((0:Int)≤List.getD o2000000 (Int.toNat (v22 - IntKind.wrap IntKind.i64 (IntKind.wrap IntKind.u64 (v20+v21) / (2:Int)^min (Int.toNat (1:Int)) (IntKind.bits IntKind.u64)))) (0:Int)∧List.getD o2000000 (Int.toNat (v22 - IntKind.wrap IntKind.i64 (IntKind.wrap IntKind.u64 (v20+v21) / (2:Int)^min (Int.toNat (1:Int)) (IntKind.bits IntKind.u64)))) (0:Int)<(↑(List.length v4a):Int))∧(0:Int)≤List.getD o2000000 (Int.toNat (IntKind.wrap IntKind.i64 (IntKind.wrap IntKind.u64 (v20+v21) / (2:Int)^min (Int.toNat (1:Int)) (IntKind.bits IntKind.u64)))) (0:Int)∧List.getD o2000000 (Int.toNat (IntKind.wrap IntKind.i64 (IntKind.wrap IntKind.u64 (v20+v21) / (2:Int)^min (Int.toNat (1:Int)) (IntKind.bits IntKind.u64)))) (0:Int)<(↑(List.length v4a):Int))∧List.length v4a=List.length v4ba) (cond (!decide (a3j v4a v4ba (List.getD o2000000 (Int.toNat (v22 - IntKind.wrap IntKind.i64 (IntKind.wrap IntKind.u64 (v20+v21) / (2:Int)^min (Int.toNat (1:Int)) (IntKind.bits IntKind.u64)))) (0:Int)) (List.getD o2000000 (Int.toNat (IntKind.wrap IntKind.i64 (IntKind.wrap IntKind.u64 (v20+v21) / (2:Int)^min (Int.toNat (1:Int)) (IntKind.bits IntKind.u64)))) (0:Int))<(0:Int))) (.i5 (v5 IntKind.i64 (IntKind.wrap IntKind.i64 (IntKind.wrap IntKind.u64 (v20+v21) / (2:Int)^min (Int.toNat (1:Int)) (IntKind.bits IntKind.u64))+(1:Int))) (.cut (e8 (d9 Try.prog 279) 33).1 (e8 (d9 Try.prog 279) 33).2 (St.mk [(0,AV.at_ 2000000 []),(1,AV.val (Ty.int IntKind.i64) v1),(2,AV.val (Ty.int IntKind.i64) v2),(3,AV.val (Ty.int IntKind.i64) v3),(4,AV.s5 130 (AV.cons (AV.s9 (Ty.d0 false (Ty.int IntKind.i64)) v4a) (AV.cons (AV.s9 (Ty.d0 false p7) v4ba) AV.nil))),(18,AV.val (Ty.int IntKind.i64) v18),(19,AV.val (Ty.int IntKind.i64) v19),(20,AV.val (Ty.int IntKind.i64) (IntKind.wrap IntKind.i64 (IntKind.wrap IntKind.u64 (v20+v21) / (2:Int)^min (Int.toNat (1:Int)) (IntKind.bits IntKind.u64))+(1:Int))),(21,AV.val (Ty.int IntKind.i64) v21),(22,AV.val (Ty.int IntKind.i64) v22)] [(2000000,g9.own Is o2000000)]))) (.cut (e8 (d9 Try.prog 279) 33).1 (e8 (d9 Try.prog 279) 33).2 (St.mk [(0,AV.at_ 2000000 []),(1,AV.val (Ty.int IntKind.i64) v1),(2,AV.val (Ty.int IntKind.i64) v2),(3,AV.val (Ty.int IntKind.i64) v3),(4,AV.s5 130 (AV.cons (AV.s9 (Ty.d0 false (Ty.int IntKind.i64)) v4a) (AV.cons (AV.s9 (Ty.d0 false p7) v4ba) AV.nil))),(18,AV.val (Ty.int IntKind.i64) v18),(19,AV.val (Ty.int IntKind.i64) v19),(20,AV.val (Ty.int IntKind.i64) v20),(21,AV.val (Ty.int IntKind.i64) (IntKind.wrap IntKind.i64 (IntKind.wrap IntKind.u64 (v20+v21) / (2:Int)^min (Int.toNat (1:Int)) (IntKind.bits IntKind.u64)))),(22,AV.val (Ty.int IntKind.i64) v22)] [(2000000,g9.own Is o2000000)]))))))))) (.i5 (v5 IntKind.i64 (v19 - v20)) (cond (decide (v20<v2)) (cond (decide (v2<v19 - v20)) (.i5 (((0:Int)≤v20∧v20<v2∧v2<v19 - v20)∧Int.toNat (v19 - v20)≤List.length o2000000) (cond (decide (v1<v20)) (cond (decide (v20<v18)) (.i5 (smK k (D4 o2000000 (Int.toNat v20) (Int.toNat v2) (Int.toNat (v19 - v20))) v1 v20 v18 v4a v4ba) (cond (decide (v18<v19 - v20)) (cond (decide (v19 - v20<v3)) (.i5 (smK k (I0 (D4 o2000000 (Int.toNat v20) (Int.toNat v2) (Int.toNat (v19 - v20))) v1 v18 v4a v4ba) v18 (v19 - v20) v3 v4a v4ba) (.ret ((I0 (I0 (D4 o2000000 (Int.toNat v20) (Int.toNat v2) (Int.toNat (v19 - v20))) v1 v18 v4a v4ba) v18 v3 v4a v4ba,())))) (.ret ((I0 (D4 o2000000 (Int.toNat v20) (Int.toNat v2) (Int.toNat (v19 - v20))) v1 v18 v4a v4ba,())))) (.ret ((I0 (D4 o2000000 (Int.toNat v20) (Int.toNat v2) (Int.toNat (v19 - v20))) v1 v18 v4a v4ba,()))))) (cond (decide (v18<v19 - v20)) (cond (decide (v19 - v20<v3)) (.i5 (smK k (D4 o2000000 (Int.toNat v20) (Int.toNat v2) (Int.toNat (v19 - v20))) v18 (v19 - v20) v3 v4a v4ba) (.ret ((I0 (D4 o2000000 (Int.toNat v20) (Int.toNat v2) (Int.toNat (v19 - v20))) v18 v3 v4a v4ba,())))) (.ret ((D4 o2000000 (Int.toNat v20) (Int.toNat v2) (Int.toNat (v19 - v20)),())))) (.ret ((D4 o2000000 (Int.toNat v20) (Int.toNat v2) (Int.toNat (v19 - v20)),()))))) (cond (decide (v18<v19 - v20)) (cond (decide (v19 - v20<v3)) (.i5 (smK k (D4 o2000000 (Int.toNat v20) (Int.toNat v2) (Int.toNat (v19 - v20))) v18 (v19 - v20) v3 v4a v4ba) (.ret ((I0 (D4 o2000000 (Int.toNat v20) (Int.toNat v2) (Int.toNat (v19 - v20))) v18 v3 v4a v4ba,())))) (.ret ((D4 o2000000 (Int.toNat v20) (Int.toNat v2) (Int.toNat (v19 - v20)),())))) (.ret ((D4 o2000000 (Int.toNat v20) (Int.toNat v2) (Int.toNat (v19 - v20)),())))))) (cond (decide (v1<v20)) (cond (decide (v20<v18)) (.i5 (smK k o2000000 v1 v20 v18 v4a v4ba) (cond (decide (v18<v19 - v20)) (cond (decide (v19 - v20<v3)) (.i5 (smK k (I0 o2000000 v1 v18 v4a v4ba) v18 (v19 - v20) v3 v4a v4ba) (.ret ((I0 (I0 o2000000 v1 v18 v4a v4ba) v18 v3 v4a v4ba,())))) (.ret ((I0 o2000000 v1 v18 v4a v4ba,())))) (.ret ((I0 o2000000 v1 v18 v4a v4ba,()))))) (cond (decide (v18<v19 - v20)) (cond (decide (v19 - v20<v3)) (.i5 (smK k o2000000 v18 (v19 - v20) v3 v4a v4ba) (.ret ((I0 o2000000 v18 v3 v4a v4ba,())))) (.ret ((o2000000,())))) (.ret ((o2000000,()))))) (cond (decide (v18<v19 - v20)) (cond (decide (v19 - v20<v3)) (.i5 (smK k o2000000 v18 (v19 - v20) v3 v4a v4ba) (.ret ((I0 o2000000 v18 v3 v4a v4ba,())))) (.ret ((o2000000,())))) (.ret ((o2000000,())))))) (cond (decide (v1<v20)) (cond (decide (v20<v18)) (.i5 (smK k o2000000 v1 v20 v18 v4a v4ba) (cond (decide (v18<v19 - v20)) (cond (decide (v19 - v20<v3)) (.i5 (smK k (I0 o2000000 v1 v18 v4a v4ba) v18 (v19 - v20) v3 v4a v4ba) (.ret ((I0 (I0 o2000000 v1 v18 v4a v4ba) v18 v3 v4a v4ba,())))) (.ret ((I0 o2000000 v1 v18 v4a v4ba,())))) (.ret ((I0 o2000000 v1 v18 v4a v4ba,()))))) (cond (decide (v18<v19 - v20)) (cond (decide (v19 - v20<v3)) (.i5 (smK k o2000000 v18 (v19 - v20) v3 v4a v4ba) (.ret ((I0 o2000000 v18 v3 v4a v4ba,())))) (.ret ((o2000000,())))) (.ret ((o2000000,()))))) (cond (decide (v18<v19 - v20)) (cond (decide (v19 - v20<v3)) (.i5 (smK k o2000000 v18 (v19 - v20) v3 v4a v4ba) (.ret ((I0 o2000000 v18 v3 v4a v4ba,())))) (.ret ((o2000000,())))) (.ret ((o2000000,()))))))):=by kernel_rfl
def a7f (v10:Int) (v13:Int) (o2000000:List Int):St:=St.mk [(0,AV.at_ 2000000 []),(10,AV.val (Ty.int IntKind.i64) v10),(13,AV.val (Ty.int IntKind.i64) v13)] [(2000000,g9.own Is o2000000)]
theorem b7D (k:Nat) (v10:Int) (v13:Int) (o2000000:List Int):exec (a1h k) 1000 (.code (e8 (d9 Try.prog 279) 9).1::.inLoop (e8 (d9 Try.prog 279) 9).1::(e8 (d9 Try.prog 279) 9).2) (a7f v10 v13 o2000000) =
  .i5 (v5 IntKind.i64 (v10 - (1:Int))) (cond (decide (v13<v10 - (1:Int))) (.i5 (v5 IntKind.i64 (v13+(1:Int))) (.i5 (v5 IntKind.i64 (v13+(1:Int))) (.i5 ((0:Int)≤v13+(1:Int)∧v13+(1:Int)<(↑(List.length o2000000):Int)) (.i5 ((0:Int)≤v13∧v13<(↑(List.length o2000000):Int)) (.i5 ((0:Int)≤v13∧v13<(↑(List.length o2000000):Int)) (.i5 ((0:Int)≤v13+(1:Int)∧v13+(1:Int)<(↑(List.length (List.set o2000000 (Int.toNat v13) (List.getD o2000000 (Int.toNat (v13+(1:Int))) (0:Int)))):Int)) (.i5 (v5 IntKind.i64 (v13+(1:Int))) (.cut (e8 (d9 Try.prog 279) 9).1 (e8 (d9 Try.prog 279) 9).2 (St.mk [(0,AV.at_ 2000000 []),(10,AV.val (Ty.int IntKind.i64) v10),(13,AV.val (Ty.int IntKind.i64) (v13+(1:Int)))] [(2000000,g9.own Is (List.set (List.set o2000000 (Int.toNat v13) (List.getD o2000000 (Int.toNat (v13+(1:Int))) (0:Int))) (Int.toNat (v13+(1:Int))) (List.getD o2000000 (Int.toNat v13) (0:Int))))]))))))))) (.ret ((o2000000,())))):=by kernel_rfl
def a5H (v14:Int) (v17:Int) (o2000000:List Int):St:=St.mk [(0,AV.at_ 2000000 []),(14,AV.val (Ty.int IntKind.i64) v14),(17,AV.val (Ty.int IntKind.i64) v17)] [(2000000,g9.own Is o2000000)]
theorem b6j (k:Nat) (v14:Int) (v17:Int) (o2000000:List Int):exec (a1h k) 1000 (.code (e8 (d9 Try.prog 279) 21).1::.inLoop (e8 (d9 Try.prog 279) 21).1::(e8 (d9 Try.prog 279) 21).2) (a5H v14 v17 o2000000) =
  cond (decide (v14<v17)) (.i5 (v5 IntKind.i64 (v17 - (1:Int))) (.i5 (v5 IntKind.i64 (v17 - (1:Int))) (.i5 ((0:Int)≤v17 - (1:Int)∧v17 - (1:Int)<(↑(List.length o2000000):Int)) (.i5 ((0:Int)≤v17∧v17<(↑(List.length o2000000):Int)) (.i5 ((0:Int)≤v17∧v17<(↑(List.length o2000000):Int)) (.i5 ((0:Int)≤v17 - (1:Int)∧v17 - (1:Int)<(↑(List.length (List.set o2000000 (Int.toNat v17) (List.getD o2000000 (Int.toNat (v17 - (1:Int))) (0:Int)))):Int)) (.i5 (v5 IntKind.i64 (v17 - (1:Int))) (.cut (e8 (d9 Try.prog 279) 21).1 (e8 (d9 Try.prog 279) 21).2 (St.mk [(0,AV.at_ 2000000 []),(14,AV.val (Ty.int IntKind.i64) v14),(17,AV.val (Ty.int IntKind.i64) (v17 - (1:Int)))] [(2000000,g9.own Is (List.set (List.set o2000000 (Int.toNat v17) (List.getD o2000000 (Int.toNat (v17 - (1:Int))) (0:Int))) (Int.toNat (v17 - (1:Int))) (List.getD o2000000 (Int.toNat v17) (0:Int))))]))))))))) (.ret ((o2000000,()))):=by kernel_rfl
theorem a7M {i j:Nat} (h:i+j≤18446744073709551615):IntKind.wrap .i64 (IntKind.wrap .u64 ((i:Int)+(j:Int)) / 2^min (Int.toNat 1) (IntKind.bits .u64))=(((i+j) / 2:Nat):Int):=by
  have e1:IntKind.wrap .u64 ((i:Int)+(j:Int))=((i+j:Nat):Int):=by
    rw [Q9 ⟨by show (0:Int)≤_; omega,by show (_:Int)≤18446744073709551615; omega⟩]; omega
  have e2:(2:Int)^min (Int.toNat 1) (IntKind.bits .u64)=2:=by decide
  rw [e1,e2,Q9 ⟨by show (-9223372036854775808:Int)≤_; omega,by show (_:Int)≤9223372036854775807; omega⟩]; omega
structure SrI (lt:Int→Int→Bool) (l:List Int) (p s0 r0 s r:Nat):Prop where
  b1:s0≤s
  b2:s≤r
  b3:r≤r0
  lo:∀ c,s0≤c→c<s→lt (l.getD (p - c) 0) (l.getD c 0)=false
  hi:∀ c,r≤c→c<r0→lt (l.getD (p - c) 0) (l.getD c 0)=true
section
variable {lt:Int→Int→Bool} {l:List Int} {a b m mid p s0 r0 s r c:Nat}
theorem SrI.no (hO:SWO lt) (o1:G2 lt l a m) (o2:G2 lt l m b) (hb:b≤l.length) (ham:a≤m) (hmb:m≤b) (k1:a≤s0) (k2:r0≤m) (k3:∀ x,s0≤x→x<r0→m≤p - x∧p - x<b) (h:SrI lt l p s0 r0 s r) (h1:s≤c) (h2:c<r) (e:lt (l.getD (p - c) 0) (l.getD c 0)=false):SrI lt l p s0 r0 (c+1) r:=by
  have hb1:=h.b1; have hb3:=h.b3
  refine ⟨by omega,by omega,h.b3,fun x x1 x2=>?_,h.hi⟩
  have p1:=k3 x x1 (by omega)
  have p2:=k3 c (by omega) (by omega)
  have i1:=a0k hO o1 (by omega) (x:=x) (y:=c) (by omega) (by omega) (by omega)
  have i2:=a0k hO o2 hb (x:=p - c) (y:=p - x) (by omega) (by omega) (by omega)
  exact hO.ntrans _ _ _ i2 (hO.ntrans _ _ _ e i1)
theorem SrI.is (hO:SWO lt) (o1:G2 lt l a m) (o2:G2 lt l m b) (hb:b≤l.length) (ham:a≤m) (hmb:m≤b) (k1:a≤s0) (k2:r0≤m) (k3:∀ x,s0≤x→x<r0→m≤p - x∧p - x<b) (h:SrI lt l p s0 r0 s r) (h1:s≤c) (h2:c<r) (e:lt (l.getD (p - c) 0) (l.getD c 0)=true):SrI lt l p s0 r0 s c:=by
  have hb1:=h.b1; have hb3:=h.b3
  refine ⟨h.b1,by omega,by omega,h.lo,fun x x1 x2=>?_⟩
  have p1:=k3 x (by omega) x2
  have p2:=k3 c (by omega) (by omega)
  have i1:=a0k hO o1 (by omega) (x:=c) (y:=x) (by omega) (by omega) (by omega)
  have i2:=a0k hO o2 hb (x:=p - x) (y:=p - c) (by omega) (by omega) (by omega)
  cases hh:lt (l.getD (p - x) 0) (l.getD x 0) with
  | true=>rfl
  | false=>rw [hO.ntrans _ _ _ i2 (hO.ntrans _ _ _ hh i1)] at e; cases e
end
theorem OkL.mem {ls:List Int} {hs:List I5} {l:List Int} (h:OkL ls hs l) {i:Nat} (hi:i<l.length):0≤l.getD i 0∧l.getD i 0<(ls.length:Int):=h.2.1.2 _ (a1v hi)
theorem b5W {k:Nat} (hk:(a58 k).Valid Try.prog 279):(a58 (k+1)).Valid Try.prog 279:=by
  refine D7.E6 (a0J hk) rfl rfl Try.func279 (c:=d9 Try.prog 279) rfl rfl a0I rfl ?_
  rintro ⟨(l:List Int),(a:Int),(m:Int),(b:Int),⟨(ls:List Int),(hs:List I5),⟨⟩⟩,⟨⟩⟩ ⟨⟨⟨(ha:0≤a),(hb:a<m),(hn:m<b)⟩,(h1:b.toNat≤l.length),(hok:OkL ls hs l)⟩,⟨(o1:G2 (x6 ls hs) l a.toNat m.toNat),(o2:G2 (x6 ls hs) l m.toNat b.toNat)⟩,(hfew:b - a<(k+1:Nat))⟩ ⟨⟨hl,-⟩,-⟩
  have hl:l.length≤4611686018427387904:=hok.2.1.1
  obtain ⟨a,rfl⟩:=Int.eq_ofNat_of_zero_le ha
  obtain ⟨m,rfl⟩:=Int.eq_ofNat_of_zero_le (show 0≤m by omega)
  obtain ⟨b,rfl⟩:=Int.eq_ofNat_of_zero_le (show 0≤b by omega)
  have h1:b≤l.length:=by simpa using h1
  have hb:a<m:=by omega
  have hn:m<b:=by omega
  rw [Int.toNat_natCast,Int.toNat_natCast] at o1 o2
  have hO:=a97 ls hs
  have hT:I0 l (a:Int) (b:Int) ls hs=s7 (x6 ls hs) l a b:=by rw [I0,Int.toNat_natCast,Int.toNat_natCast]
  refine s4 (n:=1000) (a0J hk) a0I ?_
  refine n9 (b8X k l (a:Int) (m:Int) (b:Int) ls hs) ?_
  have hK:∀ {x:Int},0≤x+1→x≤9223372036854775807→v5 .i64 x:=fun h1 h2=>w7.2 ⟨by omega,h2⟩
  have fin:∀ {X:List Int},X=s7 (x6 ls hs) l a b→((X,()):List Int×Unit)=(I0 l (a:Int) (b:Int) ls hs,()):=fun h=>by rw [hT,h]
  refine ⟨hK (by omega) (by omega),fun _=>q8.2 ⟨fun c=>?_,fun c=>?_⟩⟩
  · -- one ahead
    have c:(m:Int) - a=1:=of_decide_eq_true c
    have c:m=a+1:=by omega
    subst c
    refine Reach.K1 (a0J hk) a0I (fun s:Nat×Nat=>b1A (a:Int) ls hs (s.1:Int) (s.2:Int) l) (fun s=>(a+1≤s.1∧s.1≤s.2∧s.2≤b)∧(∀ k,a+1≤k→k<s.1→x6 ls hs (l.getD k 0) (l.getD a 0)=true)∧(∀ k,s.2≤k→k<b→x6 ls hs (l.getD k 0) (l.getD a 0)=false)) (fun s=>s.2 - s.1) 1000 (fun _=>⟨s6 rfl,s6 rfl⟩) ?_ (a+1,b) ⟨⟨Nat.le_refl _,by omega,Nat.le_refl _⟩,fun k _ _=>by omega,fun k _ _=>by omega⟩
    rintro ⟨i,j⟩ ⟨⟨(k1:a+1≤i),(k2:i≤j),(k3:j≤b)⟩,(k4:∀ k,a+1≤k→k<i→x6 ls hs (l.getD k 0) (l.getD a 0)=true),(k5:∀ k,j≤k→k<b→x6 ls hs (l.getD k 0) (l.getD a 0)=false)⟩ - ih
    refine n9 (b7E k ..) ?_
    rw [a7M (by omega)]
    have hlt:i<j→(i+j) / 2<j∧i≤(i+j) / 2:=fun h=>by omega
    have ih2:=fun (h:i<j)=>ih ((i+j) / 2+1,j)
    have ih3:=fun (h:i<j)=>ih (i,(i+j) / 2)
    generalize (i+j) / 2=h at *
    simp only [q8,Tree.holds,true_and,true_implies,decide_eq_true_eq,decide_eq_false_iff_not,Bool.not_eq_true',Bool.not_eq_false',Int.toNat_natCast,w7,List.length_set,List.length_cons,List.length_nil]
    refine ⟨fun d=>?_,fun d=>?_⟩
    · have d:i<j:=by omega
      have hh:=hlt d
      refine ⟨by omega,fun _=>⟨by omega,fun _=>⟨⟨by omega,by omega⟩,fun _=>⟨⟨by omega,by omega⟩,fun _=>⟨⟨⟨hok.mem (by omega),hok.mem (by omega)⟩,hok.1⟩,fun _=>⟨fun e=>⟨by omega,fun _=>?_⟩,fun e=>?_⟩⟩⟩⟩⟩⟩
      · refine ih2 d ⟨⟨by show a+1≤h+1; omega,by show h+1≤j; omega,k3⟩,fun x x1 x2=>?_,k5⟩ (by show j - (h+1)<j - i; omega)
        have x2:x<h+1:=x2
        have i1:=a0k hO o2 h1 (x:=x) (y:=h) (by omega) (by omega) (by omega)
        have e:x6 ls hs (l.getD h 0) (l.getD a 0)=true:=decide_eq_true e
        cases hh:x6 ls hs (l.getD x 0) (l.getD a 0) with
        | true=>rfl
        | false=>rw [hO.ntrans _ _ _ i1 hh] at e; cases e
      · refine ih3 d ⟨⟨k1,by show i≤h; omega,by show h≤b; omega⟩,k4,fun x x1 x2=>?_⟩ (by show h - i<j - i; omega)
        have x1:h≤x:=x1
        have i1:=a0k hO o2 h1 (x:=h) (y:=x) (by omega) (by omega) (by omega)
        have e:x6 ls hs (l.getD h 0) (l.getD a 0)=false:=decide_eq_false e
        exact hO.ntrans _ _ _ i1 e
    · obtain rfl:i=j:=by omega
      have he:=b8A hO k1 k3 h1 o2 k4 k5 hok.2.2
      have hz:mvR l a a=l:=b6V (by omega)
      suffices G:∀ x:Nat,(a≤x∧x≤i - 1)→Go.Ex.Reach (a1h k) Try.f279 () (I0 l (a:Int) (b:Int) ls hs,()) (.code (e8 (d9 Try.prog 279) 9).1::.inLoop (e8 (d9 Try.prog 279) 9).1::(e8 (d9 Try.prog 279) 9).2) (a7f (i:Int) (x:Int) (mvR l a x)) by
        have:=G a ⟨Nat.le_refl _,by omega⟩
        rw [hz] at this
        exact this
      refine Reach.K1 (a0J hk) a0I (fun x:Nat=>a7f (i:Int) (x:Int) (mvR l a x)) (fun x=>a≤x∧x≤i - 1) (fun x=>i - x) 1000 (fun _=>⟨s6 rfl,s6 rfl⟩) ?_
      rintro x ⟨(x1:a≤x),(x2:x≤i - 1)⟩ - ih4
      refine n9 (b7D k ..) ?_
      have hlen:(mvR l a x).length=l.length:=(b6X x1 (by omega)).length_eq
      simp only [q8,Tree.holds,true_and,true_implies,decide_eq_true_eq,decide_eq_false_iff_not,Bool.not_eq_true',Bool.not_eq_false',Int.toNat_natCast,w7,List.length_set,List.length_cons,List.length_nil]
      have ex:((x:Int)+1).toNat=x+1:=by omega
      rw [ex]
      refine ⟨by omega,fun _=>⟨fun d=>?_,fun d=>fin ?_⟩⟩
      · have next:=ih4 (x+1) ⟨by omega,by omega⟩ (by omega)
        rw [← b6W x1 (by omega)] at next
        exact ⟨by omega,fun _=>⟨by omega,fun _=>⟨by omega,fun _=>⟨by omega,fun _=>⟨by omega,fun _=>⟨by omega,fun _=>⟨by omega,fun _=>next⟩⟩⟩⟩⟩⟩⟩
      · rw [← he,show x=i - 1 by omega]
  refine ⟨hK (by omega) (by omega),fun _=>q8.2 ⟨fun c2=>?_,fun c2=>?_⟩⟩
  · -- one behind
    have c2:(b:Int) - m=1:=of_decide_eq_true c2
    have c2:b=m+1:=by omega
    subst c2
    refine Reach.K1 (a0J hk) a0I (fun s:Nat×Nat=>a9r (m:Int) ls hs (s.1:Int) (s.2:Int) l) (fun s=>(a≤s.1∧s.1≤s.2∧s.2≤m)∧(∀ k,a≤k→k<s.1→x6 ls hs (l.getD m 0) (l.getD k 0)=false)∧(∀ k,s.2≤k→k<m→x6 ls hs (l.getD m 0) (l.getD k 0)=true)) (fun s=>s.2 - s.1) 1000 (fun _=>⟨s6 rfl,s6 rfl⟩) ?_ (a,m) ⟨⟨Nat.le_refl _,by omega,Nat.le_refl _⟩,fun k _ _=>by omega,fun k _ _=>by omega⟩
    rintro ⟨i,j⟩ ⟨⟨(k1:a≤i),(k2:i≤j),(k3:j≤m)⟩,(k4:∀ k,a≤k→k<i→x6 ls hs (l.getD m 0) (l.getD k 0)=false),(k5:∀ k,j≤k→k<m→x6 ls hs (l.getD m 0) (l.getD k 0)=true)⟩ - ih
    refine n9 (b6k k ..) ?_
    rw [a7M (by omega)]
    have hlt:i<j→(i+j) / 2<j∧i≤(i+j) / 2:=fun h=>by omega
    have ih2:=fun (h:i<j)=>ih ((i+j) / 2+1,j)
    have ih3:=fun (h:i<j)=>ih (i,(i+j) / 2)
    generalize (i+j) / 2=h at *
    simp only [q8,Tree.holds,true_and,true_implies,decide_eq_true_eq,decide_eq_false_iff_not,Bool.not_eq_true',Bool.not_eq_false',Int.toNat_natCast,w7,List.length_set,List.length_cons,List.length_nil]
    refine ⟨fun d=>?_,fun d=>?_⟩
    · have d:i<j:=by omega
      have hh:=hlt d
      refine ⟨by omega,fun _=>⟨by omega,fun _=>⟨⟨by omega,by omega⟩,fun _=>⟨⟨by omega,by omega⟩,fun _=>⟨⟨⟨hok.mem (by omega),hok.mem (by omega)⟩,hok.1⟩,fun _=>⟨fun e=>⟨by omega,fun _=>?_⟩,fun e=>?_⟩⟩⟩⟩⟩⟩
      · refine ih2 d ⟨⟨by show a≤h+1; omega,by show h+1≤j; omega,k3⟩,fun x x1 x2=>?_,k5⟩ (by show j - (h+1)<j - i; omega)
        have x2:x<h+1:=x2
        have i1:=a0k hO o1 (by omega) (x:=x) (y:=h) (by omega) (by omega) (by omega)
        have e:x6 ls hs (l.getD m 0) (l.getD h 0)=false:=decide_eq_false e
        exact hO.ntrans _ _ _ e i1
      · refine ih3 d ⟨⟨k1,by show i≤h; omega,by show h≤m; omega⟩,k4,fun x x1 x2=>?_⟩ (by show h - i<j - i; omega)
        have x1:h≤x:=x1
        have i1:=a0k hO o1 (by omega) (x:=h) (y:=x) (by omega) (by omega) (by omega)
        have e:x6 ls hs (l.getD m 0) (l.getD h 0)=true:=decide_eq_true e
        cases hh:x6 ls hs (l.getD m 0) (l.getD x 0) with
        | true=>rfl
        | false=>rw [hO.ntrans _ _ _ hh i1] at e; cases e
    · obtain rfl:i=j:=by omega
      have he:=b8B hO k1 k3 (by omega) o1 k4 k5 hok.2.2
      have hz:mvL l m m=l:=b6Y (by omega)
      suffices G:∀ x:Nat,(i≤x∧x≤m)→Go.Ex.Reach (a1h k) Try.f279 () (I0 l (a:Int) ((m+1:Nat):Int) ls hs,()) (.code (e8 (d9 Try.prog 279) 21).1::.inLoop (e8 (d9 Try.prog 279) 21).1::(e8 (d9 Try.prog 279) 21).2) (a5H (i:Int) (x:Int) (mvL l m x)) by
        have:=G m ⟨k3,Nat.le_refl _⟩
        rw [hz] at this
        exact this
      refine Reach.K1 (a0J hk) a0I (fun x:Nat=>a5H (i:Int) (x:Int) (mvL l m x)) (fun x=>i≤x∧x≤m) (fun x=>x) 1000 (fun _=>⟨s6 rfl,s6 rfl⟩) ?_
      rintro x ⟨(x1:i≤x),(x2:x≤m)⟩ - ih4
      refine n9 (b6j k ..) ?_
      have hlen:(mvL l m x).length=l.length:=(b60 x2 (by omega)).length_eq
      simp only [q8,Tree.holds,true_and,true_implies,decide_eq_true_eq,decide_eq_false_iff_not,Bool.not_eq_true',Bool.not_eq_false',Int.toNat_natCast,w7,List.length_set,List.length_cons,List.length_nil]
      refine ⟨fun d=>?_,fun d=>fin ?_⟩
      · obtain ⟨y,rfl⟩:∃ y,x=y+1:=⟨x - 1,by omega⟩
        have next:=ih4 y ⟨by omega,by omega⟩ (by omega)
        rw [← b6Z (by omega) (by omega)] at next
        have ey:((y+1:Nat):Int) - 1=(y:Int):=by omega
        rw [ey,Int.toNat_natCast]
        exact ⟨by omega,fun _=>⟨by omega,fun _=>⟨by omega,fun _=>⟨by omega,fun _=>⟨by omega,fun _=>⟨by omega,fun _=>⟨by omega,fun _=>next⟩⟩⟩⟩⟩⟩⟩
      · rw [← he,show x=i by omega]
  · -- the merge
    have c:¬ ((m:Int) - a=1):=of_decide_eq_false c
    have c2:¬ ((b:Int) - m=1):=of_decide_eq_false c2
    rw [a7M (by omega)]
    have hmid:a<(a+b) / 2∧(a+b) / 2<b∧a+b≤2*((a+b) / 2)+1∧2*((a+b) / 2)≤a+b:=by omega
    generalize (a+b) / 2=mid at *
    obtain ⟨m1,m2,m3,m4⟩:=hmid
    have loop:∀ s0 r0:Nat,a≤s0→r0≤m→r0≤mid→mid+m≤s0+b→s0≤r0→(s0=a∨s0+b=mid+m)→(r0=m∨r0=mid)→Go.Ex.Reach (a1h k) Try.f279 () (I0 l (a:Int) (b:Int) ls hs,()) (.code (e8 (d9 Try.prog 279) 33).1::.inLoop (e8 (d9 Try.prog 279) 33).1::(e8 (d9 Try.prog 279) 33).2) (a5G (a:Int) (m:Int) (b:Int) ls hs (mid:Int) ((mid+m:Nat):Int) (s0:Int) (r0:Int) ((mid+m - 1:Nat):Int) l):=by
      intro s0 r0 g1 g2 g3 g4 g5 g6 g7
      have k3:∀ x,s0≤x→x<r0→m≤mid+m - 1 - x∧mid+m - 1 - x<b:=fun x x1 x2=>by omega
      refine Reach.K1 (a0J hk) a0I (fun s:Nat×Nat=>a5G (a:Int) (m:Int) (b:Int) ls hs (mid:Int) ((mid+m:Nat):Int) (s.1:Int) (s.2:Int) ((mid+m - 1:Nat):Int) l) (fun s=>SrI (x6 ls hs) l (mid+m - 1) s0 r0 s.1 s.2) (fun s=>s.2 - s.1) 1000 (fun _=>⟨s6 rfl,s6 rfl⟩) ?_ (s0,r0) ⟨Nat.le_refl _,g5,Nat.le_refl _,fun c _ _=>by omega,fun c _ _=>by omega⟩
      rintro ⟨s,r⟩ hI - ih
      have hI:SrI (x6 ls hs) l (mid+m - 1) s0 r0 s r:=hI
      have b1:=hI.b1
      have b2:=hI.b2
      have b3:=hI.b3
      refine n9 (b6i k ..) ?_
      rw [a7M (by omega)]
      refine q8.2 ⟨fun d=>?_,fun d=>?_⟩
      · have d:(s:Int)<(r:Int):=of_decide_eq_true d
        have hlt:s≤(s+r) / 2∧(s+r) / 2<r:=by omega
        generalize (s+r) / 2=h at *
        have hk3:=k3 h (by omega) (by omega)
        have e1:((mid+m - 1:Nat):Int) - (h:Int)=((mid+m - 1 - h:Nat):Int):=by omega
        rw [e1]
        simp only [q8,Tree.holds,true_and,true_implies,decide_eq_true_eq,decide_eq_false_iff_not,Bool.not_eq_true',Bool.not_eq_false',Int.toNat_natCast,w7,List.length_set,List.length_cons,List.length_nil]
        refine ⟨by omega,fun _=>⟨by omega,fun _=>⟨by omega,fun _=>⟨⟨by omega,by omega⟩,fun _=>⟨⟨by omega,by omega⟩,fun _=>⟨⟨⟨hok.mem (by omega),hok.mem (by omega)⟩,hok.1⟩,fun _=>⟨fun e=>⟨by omega,fun _=>?_⟩,fun e=>?_⟩⟩⟩⟩⟩⟩⟩
        · exact ih (h+1,r) (hI.no hO o1 o2 h1 (by omega) (by omega) g1 g2 k3 hlt.1 hlt.2 (decide_eq_false e)) (by show r - (h+1)<r - s; omega)
        · exact ih (s,h) (hI.is hO o1 o2 h1 (by omega) (by omega) g1 g2 k3 hlt.1 hlt.2 (decide_eq_true e)) (by show h - s<r - s; omega)
      · have d:¬ (s:Int)<(r:Int):=of_decide_eq_false d
        obtain rfl:s=r:=by omega
        have e1:((mid+m:Nat):Int) - (s:Int)=((mid+m - s:Nat):Int):=by omega
        rw [e1]
        obtain ⟨e,he⟩:∃ e,mid+m - s=e:=⟨_,rfl⟩
        rw [he]
        have D:=b6v hO (l:=l) (a:=a) (s:=s) (m:=m) (e:=e) (b:=b) (mid:=mid) (by omega) (by omega) (by omega) (by omega) h1 (by omega) o1 o2
          (fun x1 x2=>by
            by_cases hs0:s0<s
            · have:=hI.lo (s - 1) (by omega) (by omega)
              rwa [show mid+m - 1 - (s - 1)=e by omega] at this
            · omega)
          (fun x1 x2=>by
            by_cases hr0:s<r0
            · have:=hI.hi s (by omega) hr0
              rw [show mid+m - 1 - s=e - 1 by omega] at this
              cases hh:x6 ls hs (l.getD s 0) (l.getD (e - 1) 0) with
              | false=>rfl
              | true=>have:=hO.trans _ _ _ this hh; rw [hO.irrefl] at this; cases this
            · omega) hok.2.2
        have hRl:∀ {X:List Int},X.Perm l→X.length=l.length∧OkL ls hs X:=fun h=>⟨h.length_eq,hok.perm h⟩
        have hR2:I0 (D4 l s m e) (a:Int) (mid:Int) ls hs=s7 (x6 ls hs) (D4 l s m e) a mid:=by rw [I0,Int.toNat_natCast,Int.toNat_natCast]
        have hp1:=hRl D.perm
        have hp2:=hRl ((U6 (lt:=x6 ls hs) (l:=D4 l s m e) (a:=a) (b:=mid) (by omega)).trans D.perm)
        have q1:a<s→s<mid→smK k (D4 l s m e) (a:Int) (s:Int) (mid:Int) ls hs:=fun x1 x2=>⟨⟨⟨by omega,by omega,by omega⟩,by rw [Int.toNat_natCast,hp1.1]; omega,hp1.2⟩,⟨by rw [Int.toNat_natCast,Int.toNat_natCast]; exact D.r1,by rw [Int.toNat_natCast,Int.toNat_natCast]; exact D.r2⟩,by omega⟩
        have q2:mid<e→e<b→smK k (s7 (x6 ls hs) (D4 l s m e) a mid) (mid:Int) (e:Int) (b:Int) ls hs:=fun x1 x2=>⟨⟨⟨by omega,by omega,by omega⟩,by rw [Int.toNat_natCast,hp2.1]; omega,hp2.2⟩,⟨by rw [Int.toNat_natCast,Int.toNat_natCast]; exact D.r3,by rw [Int.toNat_natCast,Int.toNat_natCast]; exact D.r4⟩,by omega⟩
        have t2:I0 (s7 (x6 ls hs) (D4 l s m e) a mid) (mid:Int) (b:Int) ls hs=s7 (x6 ls hs) l a b:=by rw [I0,Int.toNat_natCast,Int.toNat_natCast,D.all]
        have t3:(mid=e∨e=b)→s7 (x6 ls hs) (D4 l s m e) a mid=s7 (x6 ls hs) l a b:=fun h=>by rw [← D.all,D.n2 h]
        have t4:(a=s∨s=mid)→D4 l s m e=s7 (x6 ls hs) (D4 l s m e) a mid:=fun h=>(D.n1 h).symm
        have t5:(s=m∨m=e)→l=D4 l s m e:=fun h=>(D.rot h).symm
        have hp0:e≤l.length:=by omega
        rw [← hT] at t2 t3
        clear D hp1 hp2 hRl
        generalize I0 l (a:Int) (b:Int) ls hs=T at *
        generalize s7 (x6 ls hs) (D4 l s m e) a mid=S1 at *
        have hse:s≤m∧m≤e∧a≤s∧s≤mid∧mid≤e∧e≤b:=by omega
        simp only [q8,Tree.holds,true_and,true_implies,decide_eq_true_eq,decide_eq_false_iff_not,Bool.not_eq_true',Bool.not_eq_false',Int.toNat_natCast,w7,List.length_set,List.length_cons,List.length_nil]
        refine ⟨by omega,fun _=>⟨fun y1=>⟨fun y2=>⟨⟨⟨by omega,by omega,by omega⟩,hp0⟩,fun _=>?_⟩,fun y2=>?_⟩,fun y1=>?_⟩⟩
        rotate_left
        (rw [t5 (.inr (by omega))])
        rotate_left
        (rw [t5 (.inl (by omega))])
        rotate_left
        all_goals (refine ⟨fun y3=>⟨fun y4=>⟨q1 (by omega) (by omega),fun _=>?_⟩,fun y4=>?_⟩,fun y3=>?_⟩)
        all_goals first|rw [hR2]|rw [t4 (.inl (by omega))]|rw [t4 (.inr (by omega))]
        all_goals exact ⟨fun y5=>⟨fun y6=>⟨q2 (by omega) (by omega),fun _=>by rw [t2]; rfl⟩,fun y6=>by rw [t3 (.inr (by omega))]; rfl⟩,fun y5=>by rw [t3 (.inl (by omega))]; rfl⟩
    have e0:(mid:Int)+(m:Int)=((mid+m:Nat):Int):=by omega
    have e2:((mid+m:Nat):Int) - 1=((mid+m - 1:Nat):Int):=by omega
    rw [e0,e2]
    simp only [q8,Tree.holds,true_and,true_implies,decide_eq_true_eq,decide_eq_false_iff_not,Bool.not_eq_true',Bool.not_eq_false',Int.toNat_natCast,w7,List.length_set,List.length_cons,List.length_nil]
    refine ⟨by omega,fun _=>⟨by omega,fun _=>⟨by omega,fun _=>⟨fun z=>?_,fun z=>?_⟩⟩⟩⟩
    · have e1:((mid+m:Nat):Int) - (b:Int)=((mid+m - b:Nat):Int):=by omega
      rw [e1]
      exact ⟨by omega,fun _=>⟨by omega,fun _=>loop (mid+m - b) mid (by omega) (by omega) (by omega) (by omega) (by omega) (.inr (by omega)) (.inr rfl)⟩⟩
    · exact ⟨by omega,fun _=>loop a m (by omega) (by omega) (by omega) (by omega) (by omega) (.inl rfl) (.inl rfl)⟩
theorem b1P {P:Program} {f:FuncId} {c:D7} (h:∃ fn,P.funcs[f]?=some fn∧(fn.name == "runtime.NumGoroutine")=false∧fn.body.isNone=false) (hn:∀ x,¬ c.pre x):c.Valid P f :=
  ⟨h,fun _ _ _ x _ _ _ hp=>absurd hp (hn x),fun _ _ _ _ x _ _ _ hp=>absurd hp (hn x)⟩
theorem b7l:∃ fn,Try.prog.funcs[279]?=some fn∧(fn.name == "runtime.NumGoroutine")=false∧fn.body.isNone=false:=⟨_,Try.func279,by kernel_rfl,by kernel_rfl⟩
theorem a6A:∀ k,(a58 k).Valid Try.prog 279
  | 0=>by
    refine b1P b7l ?_
    rintro ⟨(l:List Int),(a:Int),(m:Int),(b:Int),⟨(ls:List Int),(hs:List I5),⟨⟩⟩,⟨⟩⟩ ⟨⟨⟨h1,h2,h3⟩,_⟩,_,h⟩
    have h2:a<m:=h2
    have h3:m<b:=h3
    have h:b - a<0:=h
    omega
  | k+1=>b5W (a6A k)
end Go.Proofs.Ytekbamiaenbhjaa
