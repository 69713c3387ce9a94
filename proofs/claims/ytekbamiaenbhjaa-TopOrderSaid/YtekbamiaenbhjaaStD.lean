/- rotateCmpFunc at int: neighbouring parts of a slice change places. Conditions: they lie in the slice and neither is empty. -/
import Derived.Test.YtekbamiaenbhjaaStC
namespace Go.Proofs.Ytekbamiaenbhjaa
open Go.Ex Go.Sort
set_option maxRecDepth 100000
def b7S:w9:={ ps:=[.mu i5,.v i5,.v i5,.v i5,.s4 130 [.d0 false i5,.d0 false Event]],rs:=[],pre:=fun x=>(LE.le (α:=Int) 0 x.2.1∧LT.lt (α:=Int) x.2.1 x.2.2.1∧LT.lt (α:=Int) x.2.2.1 x.2.2.2.1)∧Int.toNat x.2.2.2.1≤List.length (α:=Int) x.1,fn:=fun _=>(),out:=fun x=>(E2 x.1 (Int.toNat x.2.1) (Int.toNat x.2.2.1) (Int.toNat x.2.2.2.1),()) }
noncomputable def b2I:Env:={ P:=Try.prog,tt:=tt,F2:=[(347,b3L)],res:=[],rs:=[],ps:=[PK.mu i5,PK.v i5,PK.v i5,PK.v i5,PK.s4 130 [Ty.d0 false i5,Ty.d0 false r8]],D8:=[(2,[(0,none),(2,none),(4,none),(10,none),(11,none)])],nt:=58 }
theorem a8X:B6 b2I:=D0 w5 ⟨b3K,trivial⟩
theorem a8N:E3 b2I Try.f325:=⟨rfl,rfl⟩
theorem c37 (x0:List Int) (x1:Int) (x2:Int) (x3:Int) (x4c0:List Int) (x4c1:List (Int×Int×Int×Unit)):exec b2I 1000 [.code (d8 Try.prog 325)] (A5 b7S.ps ((x0,x1,x2,x3,(x4c0,x4c1,()),()))) =
  .e8 (r9 IntKind.i64 (x2 - x1)) (.e8 (r9 IntKind.i64 (x3 - x2)) (.ctL (d9 (d8 Try.prog 325) 2) (St.mk [(0,AV.at_ 2000000 []),(2,vI x2),(4,AV.s4 130 (AV.cons (AV.u5 (Ty.d0 false i5) x4c0) (AV.cons (AV.u5 (Ty.d0 false r8) x4c1) AV.nil))),(10,vI (x2 - x1)),(11,vI (x3 - x2))] [(2000000,f7.own Is x0)]))):=by kernel_rfl
def b4y (v2:Int) (v4a:List Int) (v4ba:List (Int×Int×Int×Unit)) (v10:Int) (v11:Int) (o2000000:List Int):St:=St.mk [(0,AV.at_ 2000000 []),(2,vI v2),(4,AV.s4 130 (AV.cons (AV.u5 (Ty.d0 false i5) v4a) (AV.cons (AV.u5 (Ty.d0 false r8) v4ba) AV.nil))),(10,vI v10),(11,vI v11)] [(2000000,f7.own Is o2000000)]
theorem c2n (v2:Int) (v4a:List Int) (v4ba:List (Int×Int×Int×Unit)) (v10:Int) (v11:Int) (o2000000:List Int):exec b2I 1000 (.code (d9 (d8 Try.prog 325) 2).1::.inLoop (d9 (d8 Try.prog 325) 2).1::(d9 (d8 Try.prog 325) 2).2) (b4y v2 v4a v4ba v10 v11 o2000000) =
  cond (decide (v10≠v11)) (cond (decide (v11<v10)) (.e8 (r9 IntKind.i64 (v2 - v10)) (.e8 (((0:Int)≤v2 - v10∧(0:Int)≤v2∧(0:Int)≤v11)∧Int.toNat (v2 - v10)+Int.toNat v11≤List.length o2000000∧Int.toNat v2+Int.toNat v11≤List.length o2000000) (.e8 (r9 IntKind.i64 (v10 - v11)) (.ctL (d9 (d8 Try.prog 325) 2) (St.mk [(0,AV.at_ 2000000 []),(2,vI v2),(4,AV.s4 130 (AV.cons (AV.u5 (Ty.d0 false i5) v4a) (AV.cons (AV.u5 (Ty.d0 false r8) v4ba) AV.nil))),(10,vI (v10 - v11)),(11,vI v11)] [(2000000,f7.own Is (swN o2000000 (Int.toNat (v2 - v10)) (Int.toNat v2) (Int.toNat v11)))]))))) (.e8 (r9 IntKind.i64 (v2 - v10)) (.e8 (r9 IntKind.i64 (v2+v11)) (.e8 (r9 IntKind.i64 (v2+v11 - v10)) (.e8 (((0:Int)≤v2 - v10∧(0:Int)≤v2+v11 - v10∧(0:Int)≤v10)∧Int.toNat (v2 - v10)+Int.toNat v10≤List.length o2000000∧Int.toNat (v2+v11 - v10)+Int.toNat v10≤List.length o2000000) (.e8 (r9 IntKind.i64 (v11 - v10)) (.ctL (d9 (d8 Try.prog 325) 2) (St.mk [(0,AV.at_ 2000000 []),(2,vI v2),(4,AV.s4 130 (AV.cons (AV.u5 (Ty.d0 false i5) v4a) (AV.cons (AV.u5 (Ty.d0 false r8) v4ba) AV.nil))),(10,vI v10),(11,vI (v11 - v10))] [(2000000,f7.own Is (swN o2000000 (Int.toNat (v2 - v10)) (Int.toNat (v2+v11 - v10)) (Int.toNat v10)))])))))))) (.e8 (r9 IntKind.i64 (v2 - v10)) (.e8 (((0:Int)≤v2 - v10∧(0:Int)≤v2∧(0:Int)≤v10)∧Int.toNat (v2 - v10)+Int.toNat v10≤List.length o2000000∧Int.toNat v2+Int.toNat v10≤List.length o2000000) (.ret ((swN o2000000 (Int.toNat (v2 - v10)) (Int.toNat v2) (Int.toNat v10),()))))):=by kernel_rfl
theorem b5i:b7S.Valid Try.prog 325:=by
  refine w9.u7 a8X rfl rfl Try.func325 (c:=d8 Try.prog 325) rfl rfl a8N rfl ?_
  rintro ⟨(l:List Int),(a:Int),(m:Int),(b:Int),⟨(ls:List Int),(hs:List y8),⟨⟩⟩,⟨⟩⟩ ⟨⟨(ha:0≤a),(hb:a<m),(hn:m<b)⟩,(h1:b.toNat≤l.length)⟩ ⟨⟨hl,-⟩,-⟩
  have hl:l.length≤9223372036854775807:=hl
  obtain ⟨a,rfl⟩:=Int.eq_ofNat_of_zero_le ha
  obtain ⟨m,rfl⟩:=Int.eq_ofNat_of_zero_le (show 0≤m by omega)
  obtain ⟨b,rfl⟩:=Int.eq_ofNat_of_zero_le (show 0≤b by omega)
  have h1:b≤l.length:=by simpa using h1
  have hb:a<m:=by omega
  have hn:m<b:=by omega
  refine n7 (n:=1000) a8X a8N ?_
  refine g9 (c37 l (a:Int) (m:Int) (b:Int) ls hs) ?_
  have ei:(m:Int) - (a:Int)=((m - a:Nat):Int):=by omega
  have ej:(b:Int) - (m:Int)=((b - m:Nat):Int):=by omega
  rw [ei,ej]
  refine ⟨l7.2 ⟨by omega,by omega⟩,fun _=>⟨l7.2 ⟨by omega,by omega⟩,fun _=>?_⟩⟩
  refine Reach.C1 a8X a8N (fun s:Nat×Nat×List Int=>b4y (m:Int) ls hs (s.1:Int) (s.2.1:Int) s.2.2) (fun s=>1≤s.1∧1≤s.2.1∧s.1≤m∧m+s.2.1≤s.2.2.length∧s.2.2.length=l.length∧E2 s.2.2 (m - s.1) m (m+s.2.1)=E2 l a m b) (fun s=>s.1+s.2.1) 1000 (fun _=>⟨j7 rfl,j7 rfl⟩) ?_ (m - a,b - m,l) ⟨by show 1≤m - a; omega,by show 1≤b - m; omega,by show m - a≤m; omega,by show m+(b - m)≤l.length; omega,rfl,by show E2 l (m - (m - a)) m (m+(b - m))=_; rw [show m - (m - a)=a by omega,show m+(b - m)=b by omega]⟩
  rintro ⟨i,j,o⟩ ⟨(k1:1≤i),(k2:1≤j),(k3:i≤m),(k4:m+j≤o.length),(k5:o.length=l.length),(k6:E2 o (m - i) m (m+j)=E2 l a m b)⟩ - ih
  refine g9 (c2n ..) ?_
  have e1:(m:Int) - (i:Int)=((m - i:Nat):Int):=by omega
  have e2:(m:Int)+(j:Int)=((m+j:Nat):Int):=by omega
  have e3:((m+j:Nat):Int) - (i:Int)=((m+j - i:Nat):Int):=by omega
  rw [e1,e2,e3]
  simp only [i9,Tree.holds,true_and,true_implies,decide_eq_true_eq,decide_eq_false_iff_not,Bool.not_eq_true',Bool.not_eq_false',Int.toNat_natCast,l7,List.length_set,List.length_cons,List.length_nil,Int.toNat_natCast]
  have o1:∀ n c,(swN o n c j).length=l.length:=fun n c=>(a7h o n c j).trans k5
  have o2:∀ n c,(swN o n c i).length=l.length:=fun n c=>(a7h o n c i).trans k5
  refine ⟨fun c=>⟨fun c2=>?_,fun c2=>?_⟩,fun c=>?_⟩
  · have c2:j<i:=by omega
    have next:=ih (i - j,j,swN o (m - i) m j) ⟨by show 1≤i - j; omega,k2,by show i - j≤m; omega,by show m+j≤_; rw [o1]; omega,o1 ..,(c0X c2 k3 k4).trans k6⟩ (by show i - j+j<i+j; omega)
    have e4:(i:Int) - (j:Int)=((i - j:Nat):Int):=by omega
    rw [e4]
    exact ⟨by omega,fun _=>⟨⟨by omega,by omega,by omega⟩,fun _=>⟨by omega,fun _=>next⟩⟩⟩
  · have c2:i<j:=by omega
    have next:=ih (i,j - i,swN o (m - i) (m+j - i) i) ⟨k1,by show 1≤j - i; omega,k3,by show m+(j - i)≤_; rw [o2]; omega,o2 ..,(c0Y c2 k3 k4).trans k6⟩ (by show i+(j - i)<i+j; omega)
    have e4:(j:Int) - (i:Int)=((j - i:Nat):Int):=by omega
    rw [e4]
    exact ⟨by omega,fun _=>⟨by omega,fun _=>⟨by omega,fun _=>⟨⟨by omega,by omega,by omega⟩,fun _=>⟨by omega,fun _=>next⟩⟩⟩⟩⟩
  · obtain rfl:i=j:=by omega
    refine ⟨by omega,fun _=>⟨⟨by omega,by omega,by omega⟩,fun _=>?_⟩⟩
    rw [c0Z k3 k4,k6]; rfl
end Go.Proofs.Ytekbamiaenbhjaa
