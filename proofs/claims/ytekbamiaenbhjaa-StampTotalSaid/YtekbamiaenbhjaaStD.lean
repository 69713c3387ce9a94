/- rotateCmpFunc at int: neighbouring parts of a slice change places. Conditions: they lie in the slice and neither is empty. -/
import Derived.Test.YtekbamiaenbhjaaStC
namespace Go.Proofs.Ytekbamiaenbhjaa
open Go.Ex Go.Sort
set_option maxRecDepth 100000
def b4i:D7:={ ps:=[.mu C8,.v C8,.v C8,.v C8,.s5 130 [.d0 false C8,.d0 false Event]],rs:=[],pre:=fun x=>(LE.le (α:=Int) 0 x.2.1∧LT.lt (α:=Int) x.2.1 x.2.2.1∧LT.lt (α:=Int) x.2.2.1 x.2.2.2.1)∧Int.toNat x.2.2.2.1≤List.length (α:=Int) x.1,fn:=fun _=>(),out:=fun x=>(D4 x.1 (Int.toNat x.2.1) (Int.toNat x.2.2.1) (Int.toNat x.2.2.2.1),()) }
noncomputable def a9X:Env:={ P:=Try.prog,tt:=tt,H8:=[(347,b04)],res:=[],rs:=[],ps:=[PK.mu (Ty.int IntKind.i64),PK.v (Ty.int IntKind.i64),PK.v (Ty.int IntKind.i64),PK.v (Ty.int IntKind.i64),PK.s5 130 [Ty.d0 false (Ty.int IntKind.i64),Ty.d0 false p7]],K0:=[(2,[(0,none),(2,none),(4,none),(10,none),(11,none)])],nt:=58 }
theorem a7h:I6 a9X:=L6 y7 ⟨b03,trivial⟩
theorem a7b:M3 a9X Try.f325:=⟨rfl,rfl⟩
theorem b8Z (x0:List Int) (x1:Int) (x2:Int) (x3:Int) (x4c0:List Int) (x4c1:List (Int×Int×Int×Unit)):exec a9X 1000 [.code (d9 Try.prog 325)] (H7 b4i.ps ((x0,x1,x2,x3,(x4c0,x4c1,()),()))) =
  .i5 (v5 IntKind.i64 (x2 - x1)) (.i5 (v5 IntKind.i64 (x3 - x2)) (.cut (e8 (d9 Try.prog 325) 2).1 (e8 (d9 Try.prog 325) 2).2 (St.mk [(0,AV.at_ 2000000 []),(2,AV.val (Ty.int IntKind.i64) x2),(4,AV.s5 130 (AV.cons (AV.s9 (Ty.d0 false (Ty.int IntKind.i64)) x4c0) (AV.cons (AV.s9 (Ty.d0 false p7) x4c1) AV.nil))),(10,AV.val (Ty.int IntKind.i64) (x2 - x1)),(11,AV.val (Ty.int IntKind.i64) (x3 - x2))] [(2000000,g9.own Is x0)]))):=by kernel_rfl
def b1E (v2:Int) (v4a:List Int) (v4ba:List (Int×Int×Int×Unit)) (v10:Int) (v11:Int) (o2000000:List Int):St:=St.mk [(0,AV.at_ 2000000 []),(2,AV.val (Ty.int IntKind.i64) v2),(4,AV.s5 130 (AV.cons (AV.s9 (Ty.d0 false (Ty.int IntKind.i64)) v4a) (AV.cons (AV.s9 (Ty.d0 false p7) v4ba) AV.nil))),(10,AV.val (Ty.int IntKind.i64) v10),(11,AV.val (Ty.int IntKind.i64) v11)] [(2000000,g9.own Is o2000000)]
theorem b7L (v2:Int) (v4a:List Int) (v4ba:List (Int×Int×Int×Unit)) (v10:Int) (v11:Int) (o2000000:List Int):exec a9X 1000 (.code (e8 (d9 Try.prog 325) 2).1::.inLoop (e8 (d9 Try.prog 325) 2).1::(e8 (d9 Try.prog 325) 2).2) (b1E v2 v4a v4ba v10 v11 o2000000) =
  cond (decide (v10≠v11)) (cond (decide (v11<v10)) (.i5 (v5 IntKind.i64 (v2 - v10)) (.i5 (((0:Int)≤v2 - v10∧(0:Int)≤v2∧(0:Int)≤v11)∧Int.toNat (v2 - v10)+Int.toNat v11≤List.length o2000000∧Int.toNat v2+Int.toNat v11≤List.length o2000000) (.i5 (v5 IntKind.i64 (v10 - v11)) (.cut (e8 (d9 Try.prog 325) 2).1 (e8 (d9 Try.prog 325) 2).2 (St.mk [(0,AV.at_ 2000000 []),(2,AV.val (Ty.int IntKind.i64) v2),(4,AV.s5 130 (AV.cons (AV.s9 (Ty.d0 false (Ty.int IntKind.i64)) v4a) (AV.cons (AV.s9 (Ty.d0 false p7) v4ba) AV.nil))),(10,AV.val (Ty.int IntKind.i64) (v10 - v11)),(11,AV.val (Ty.int IntKind.i64) v11)] [(2000000,g9.own Is (swN o2000000 (Int.toNat (v2 - v10)) (Int.toNat v2) (Int.toNat v11)))]))))) (.i5 (v5 IntKind.i64 (v2 - v10)) (.i5 (v5 IntKind.i64 (v2+v11)) (.i5 (v5 IntKind.i64 (v2+v11 - v10)) (.i5 (((0:Int)≤v2 - v10∧(0:Int)≤v2+v11 - v10∧(0:Int)≤v10)∧Int.toNat (v2 - v10)+Int.toNat v10≤List.length o2000000∧Int.toNat (v2+v11 - v10)+Int.toNat v10≤List.length o2000000) (.i5 (v5 IntKind.i64 (v11 - v10)) (.cut (e8 (d9 Try.prog 325) 2).1 (e8 (d9 Try.prog 325) 2).2 (St.mk [(0,AV.at_ 2000000 []),(2,AV.val (Ty.int IntKind.i64) v2),(4,AV.s5 130 (AV.cons (AV.s9 (Ty.d0 false (Ty.int IntKind.i64)) v4a) (AV.cons (AV.s9 (Ty.d0 false p7) v4ba) AV.nil))),(10,AV.val (Ty.int IntKind.i64) v10),(11,AV.val (Ty.int IntKind.i64) (v11 - v10))] [(2000000,g9.own Is (swN o2000000 (Int.toNat (v2 - v10)) (Int.toNat (v2+v11 - v10)) (Int.toNat v10)))])))))))) (.i5 (v5 IntKind.i64 (v2 - v10)) (.i5 (((0:Int)≤v2 - v10∧(0:Int)≤v2∧(0:Int)≤v10)∧Int.toNat (v2 - v10)+Int.toNat v10≤List.length o2000000∧Int.toNat v2+Int.toNat v10≤List.length o2000000) (.ret ((swN o2000000 (Int.toNat (v2 - v10)) (Int.toNat v2) (Int.toNat v10),()))))):=by kernel_rfl
theorem b2h:b4i.Valid Try.prog 325:=by
  refine D7.E6 a7h rfl rfl Try.func325 (c:=d9 Try.prog 325) rfl rfl a7b rfl ?_
  rintro ⟨(l:List Int),(a:Int),(m:Int),(b:Int),⟨(ls:List Int),(hs:List I5),⟨⟩⟩,⟨⟩⟩ ⟨⟨(ha:0≤a),(hb:a<m),(hn:m<b)⟩,(h1:b.toNat≤l.length)⟩ ⟨⟨hl,-⟩,-⟩
  have hl:l.length≤9223372036854775807:=hl
  obtain ⟨a,rfl⟩:=Int.eq_ofNat_of_zero_le ha
  obtain ⟨m,rfl⟩:=Int.eq_ofNat_of_zero_le (show 0≤m by omega)
  obtain ⟨b,rfl⟩:=Int.eq_ofNat_of_zero_le (show 0≤b by omega)
  have h1:b≤l.length:=by simpa using h1
  have hb:a<m:=by omega
  have hn:m<b:=by omega
  refine s4 (n:=1000) a7h a7b ?_
  refine n9 (b8Z l (a:Int) (m:Int) (b:Int) ls hs) ?_
  have ei:(m:Int) - (a:Int)=((m - a:Nat):Int):=by omega
  have ej:(b:Int) - (m:Int)=((b - m:Nat):Int):=by omega
  rw [ei,ej]
  refine ⟨w7.2 ⟨by omega,by omega⟩,fun _=>⟨w7.2 ⟨by omega,by omega⟩,fun _=>?_⟩⟩
  refine Reach.K1 a7h a7b (fun s:Nat×Nat×List Int=>b1E (m:Int) ls hs (s.1:Int) (s.2.1:Int) s.2.2) (fun s=>1≤s.1∧1≤s.2.1∧s.1≤m∧m+s.2.1≤s.2.2.length∧s.2.2.length=l.length∧D4 s.2.2 (m - s.1) m (m+s.2.1)=D4 l a m b) (fun s=>s.1+s.2.1) 1000 (fun _=>⟨s6 rfl,s6 rfl⟩) ?_ (m - a,b - m,l) ⟨by show 1≤m - a; omega,by show 1≤b - m; omega,by show m - a≤m; omega,by show m+(b - m)≤l.length; omega,rfl,by show D4 l (m - (m - a)) m (m+(b - m))=_; rw [show m - (m - a)=a by omega,show m+(b - m)=b by omega]⟩
  rintro ⟨i,j,o⟩ ⟨(k1:1≤i),(k2:1≤j),(k3:i≤m),(k4:m+j≤o.length),(k5:o.length=l.length),(k6:D4 o (m - i) m (m+j)=D4 l a m b)⟩ - ih
  refine n9 (b7L ..) ?_
  have e1:(m:Int) - (i:Int)=((m - i:Nat):Int):=by omega
  have e2:(m:Int)+(j:Int)=((m+j:Nat):Int):=by omega
  have e3:((m+j:Nat):Int) - (i:Int)=((m+j - i:Nat):Int):=by omega
  rw [e1,e2,e3]
  simp only [q8,Tree.holds,true_and,true_implies,decide_eq_true_eq,decide_eq_false_iff_not,Bool.not_eq_true',Bool.not_eq_false',Int.toNat_natCast,w7,List.length_set,List.length_cons,List.length_nil,Int.toNat_natCast]
  have o1:∀ n c,(swN o n c j).length=l.length:=fun n c=>(a5S o n c j).trans k5
  have o2:∀ n c,(swN o n c i).length=l.length:=fun n c=>(a5S o n c i).trans k5
  refine ⟨fun c=>⟨fun c2=>?_,fun c2=>?_⟩,fun c=>?_⟩
  · have c2:j<i:=by omega
    have next:=ih (i - j,j,swN o (m - i) m j) ⟨by show 1≤i - j; omega,k2,by show i - j≤m; omega,by show m+j≤_; rw [o1]; omega,o1 ..,(b6E c2 k3 k4).trans k6⟩ (by show i - j+j<i+j; omega)
    have e4:(i:Int) - (j:Int)=((i - j:Nat):Int):=by omega
    rw [e4]
    exact ⟨by omega,fun _=>⟨⟨by omega,by omega,by omega⟩,fun _=>⟨by omega,fun _=>next⟩⟩⟩
  · have c2:i<j:=by omega
    have next:=ih (i,j - i,swN o (m - i) (m+j - i) i) ⟨k1,by show 1≤j - i; omega,k3,by show m+(j - i)≤_; rw [o2]; omega,o2 ..,(b6F c2 k3 k4).trans k6⟩ (by show i+(j - i)<i+j; omega)
    have e4:(j:Int) - (i:Int)=((j - i:Nat):Int):=by omega
    rw [e4]
    exact ⟨by omega,fun _=>⟨by omega,fun _=>⟨by omega,fun _=>⟨⟨by omega,by omega,by omega⟩,fun _=>⟨by omega,fun _=>next⟩⟩⟩⟩⟩
  · obtain rfl:i=j:=by omega
    refine ⟨by omega,fun _=>⟨⟨by omega,by omega,by omega⟩,fun _=>?_⟩⟩
    rw [b6G k3 k4,k6]; rfl
end Go.Proofs.Ytekbamiaenbhjaa
