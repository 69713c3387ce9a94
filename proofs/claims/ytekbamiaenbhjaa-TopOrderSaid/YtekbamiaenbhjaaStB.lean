/- swapRangeCmpFunc at int: two parts of a slice change places. Conditions: both lie in the slice. -/
import Derived.Test.YtekbamiaenbhjaaStA
namespace Go.Proofs.Ytekbamiaenbhjaa
open Go.Ex Go.Sort
set_option maxRecDepth 100000
def swp (l:List Int) (i j:Nat):List Int:=(l.set i (l.getD j 0)).set j (l.getD i 0)
def swN (l:List Int) (a b:Nat):Nat→List Int
  | 0=>l
  | k+1=>swp (swN l a b k) (a+k) (b+k)
theorem a7h (l:List Int) (a b:Nat):∀ k,(swN l a b k).length=l.length
  | 0=>rfl
  | k+1=>by rw [swN,swp,List.length_set,List.length_set,a7h l a b k]
def b3L:w9:={ ps:=[.mu i5,.v i5,.v i5,.v i5,.s4 130 [.d0 false i5,.d0 false Event]],rs:=[],pre:=fun x=>(LE.le (α:=Int) 0 x.2.1∧LE.le (α:=Int) 0 x.2.2.1∧LE.le (α:=Int) 0 x.2.2.2.1)∧Int.toNat x.2.1+Int.toNat x.2.2.2.1≤List.length (α:=Int) x.1∧Int.toNat x.2.2.1+Int.toNat x.2.2.2.1≤List.length (α:=Int) x.1,fn:=fun _=>(),out:=fun x=>(swN x.1 (Int.toNat x.2.1) (Int.toNat x.2.2.1) (Int.toNat x.2.2.2.1),()) }
noncomputable def a94:Env:={ P:=Try.prog,tt:=tt,F2:=[],res:=[],rs:=[],ps:=[PK.mu i5,PK.v i5,PK.v i5,PK.v i5,PK.s4 130 [Ty.d0 false i5,Ty.d0 false r8]],D8:=[(1,[(0,none),(1,none),(2,none),(3,none),(10,none)])],nt:=38 }
theorem a67:B6 a94:=D0 w5 trivial
theorem a61:E3 a94 Try.f347:=⟨rfl,rfl⟩
theorem c2h (x0:List Int) (x1:Int) (x2:Int) (x3:Int) (x4c0:List Int) (x4c1:List (Int×Int×Int×Unit)):exec a94 1000 [.code (d8 Try.prog 347)] (A5 b3L.ps ((x0,x1,x2,x3,(x4c0,x4c1,()),()))) =
  .ctL (d9 (d8 Try.prog 347) 1) (St.mk [(0,AV.at_ 2000000 []),(1,vI x1),(2,vI x2),(3,vI x3),(10,vI (0:Int))] [(2000000,f7.own Is x0)]):=by kernel_rfl
def b1R (v1:Int) (v2:Int) (v3:Int) (v10:Int) (o2000000:List Int):St:=St.mk [(0,AV.at_ 2000000 []),(1,vI v1),(2,vI v2),(3,vI v3),(10,vI v10)] [(2000000,f7.own Is o2000000)]
theorem c0r (v1:Int) (v2:Int) (v3:Int) (v10:Int) (o2000000:List Int):exec a94 1000 (.code (d9 (d8 Try.prog 347) 1).1::.inLoop (d9 (d8 Try.prog 347) 1).1::(d9 (d8 Try.prog 347) 1).2) (b1R v1 v2 v3 v10 o2000000) =
  cond (decide (v10<v3)) (.e8 (r9 IntKind.i64 (v1+v10)) (.e8 (r9 IntKind.i64 (v2+v10)) (.e8 (r9 IntKind.i64 (v2+v10)) (.e8 ((0:Int)≤v2+v10∧v2+v10<(↑(List.length o2000000):Int)) (.e8 (r9 IntKind.i64 (v1+v10)) (.e8 ((0:Int)≤v1+v10∧v1+v10<(↑(List.length o2000000):Int)) (.e8 ((0:Int)≤v1+v10∧v1+v10<(↑(List.length o2000000):Int)) (.e8 ((0:Int)≤v2+v10∧v2+v10<(↑(List.length (List.set o2000000 (Int.toNat (v1+v10)) (List.getD o2000000 (Int.toNat (v2+v10)) (0:Int)))):Int)) (.e8 (r9 IntKind.i64 (v10+(1:Int))) (.ctL (d9 (d8 Try.prog 347) 1) (St.mk [(0,AV.at_ 2000000 []),(1,vI v1),(2,vI v2),(3,vI v3),(10,vI (v10+(1:Int)))] [(2000000,f7.own Is (List.set (List.set o2000000 (Int.toNat (v1+v10)) (List.getD o2000000 (Int.toNat (v2+v10)) (0:Int))) (Int.toNat (v2+v10)) (List.getD o2000000 (Int.toNat (v1+v10)) (0:Int))))]))))))))))) (.ret ((o2000000,()))):=by kernel_rfl
theorem b3K:b3L.Valid Try.prog 347:=by
  refine w9.u7 a67 rfl rfl Try.func347 (c:=d8 Try.prog 347) rfl rfl a61 rfl ?_
  rintro ⟨(l:List Int),(a:Int),(b:Int),(n:Int),⟨(ls:List Int),(hs:List y8),⟨⟩⟩,⟨⟩⟩ ⟨⟨(ha:0≤a),(hb:0≤b),(hn:0≤n)⟩,(h1:a.toNat+n.toNat≤l.length),(h2:b.toNat+n.toNat≤l.length)⟩ ⟨⟨hl,-⟩,-⟩
  have hl:l.length≤9223372036854775807:=hl
  obtain ⟨a,rfl⟩:=Int.eq_ofNat_of_zero_le ha
  obtain ⟨b,rfl⟩:=Int.eq_ofNat_of_zero_le hb
  obtain ⟨n,rfl⟩:=Int.eq_ofNat_of_zero_le hn
  have h1:a+n≤l.length:=by simpa using h1
  have h2:b+n≤l.length:=by simpa using h2
  refine n7 (n:=1000) a67 a61 ?_
  refine g9 (c2h l (a:Int) (b:Int) (n:Int) ls hs) ?_
  refine Reach.C1 a67 a61 (fun i:Nat=>b1R (a:Int) (b:Int) (n:Int) (i:Int) (swN l a b i)) (fun i=>i≤n) (fun i=>n - i) 1000 (fun _=>⟨j7 rfl,j7 rfl⟩) ?_ 0 (Nat.zero_le _)
  rintro i (k1:i≤n) - ih
  refine g9 (c0r ..) ?_
  have hlen:=a7h l a b i
  simp only [i9,Tree.holds,true_and,true_implies,decide_eq_true_eq,decide_eq_false_iff_not,Bool.not_eq_true',Bool.not_eq_false',Int.toNat_natCast,l7,List.length_set,List.length_cons,List.length_nil]
  have ea:((a:Int)+(i:Int)).toNat=a+i:=by omega
  have eb:((b:Int)+(i:Int)).toNat=b+i:=by omega
  refine ⟨fun c=>?_,fun c=>?_⟩
  · have next:=ih (i+1) (by omega) (by omega)
    rw [ea,eb]
    exact ⟨by omega,fun _=>⟨by omega,fun _=>⟨by omega,fun _=>⟨by omega,fun _=>⟨by omega,fun _=>⟨by omega,fun _=>⟨by omega,fun _=>⟨by omega,fun _=>⟨by omega,fun _=>next⟩⟩⟩⟩⟩⟩⟩⟩⟩
  · obtain rfl:i=n:=by omega
    rfl
end Go.Proofs.Ytekbamiaenbhjaa
