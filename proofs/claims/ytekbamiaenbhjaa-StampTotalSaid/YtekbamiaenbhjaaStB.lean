/- swapRangeCmpFunc at int: two parts of a slice change places. Conditions: both lie in the slice. -/
import Derived.Test.YtekbamiaenbhjaaStA
namespace Go.Proofs.Ytekbamiaenbhjaa
open Go.Ex Go.Sort
set_option maxRecDepth 100000
def swp (l:List Int) (i j:Nat):List Int:=(l.set i (l.getD j 0)).set j (l.getD i 0)
def swN (l:List Int) (a b:Nat):Nat→List Int
  | 0=>l
  | k+1=>swp (swN l a b k) (a+k) (b+k)
theorem a5S (l:List Int) (a b:Nat):∀ k,(swN l a b k).length=l.length
  | 0=>rfl
  | k+1=>by rw [swN,swp,List.length_set,List.length_set,a5S l a b k]
def b04:D7:={ ps:=[.mu C8,.v C8,.v C8,.v C8,.s5 130 [.d0 false C8,.d0 false Event]],rs:=[],pre:=fun x=>(LE.le (α:=Int) 0 x.2.1∧LE.le (α:=Int) 0 x.2.2.1∧LE.le (α:=Int) 0 x.2.2.2.1)∧Int.toNat x.2.1+Int.toNat x.2.2.2.1≤List.length (α:=Int) x.1∧Int.toNat x.2.2.1+Int.toNat x.2.2.2.1≤List.length (α:=Int) x.1,fn:=fun _=>(),out:=fun x=>(swN x.1 (Int.toNat x.2.1) (Int.toNat x.2.2.1) (Int.toNat x.2.2.2.1),()) }
noncomputable def a78:Env:={ P:=Try.prog,tt:=tt,H8:=[],res:=[],rs:=[],ps:=[PK.mu (Ty.int IntKind.i64),PK.v (Ty.int IntKind.i64),PK.v (Ty.int IntKind.i64),PK.v (Ty.int IntKind.i64),PK.s5 130 [Ty.d0 false (Ty.int IntKind.i64),Ty.d0 false p7]],K0:=[(1,[(0,none),(1,none),(2,none),(3,none),(10,none)])],nt:=38 }
theorem a5I:I6 a78:=L6 y7 trivial
theorem a5E:M3 a78 Try.f347:=⟨rfl,rfl⟩
theorem b7F (x0:List Int) (x1:Int) (x2:Int) (x3:Int) (x4c0:List Int) (x4c1:List (Int×Int×Int×Unit)):exec a78 1000 [.code (d9 Try.prog 347)] (H7 b04.ps ((x0,x1,x2,x3,(x4c0,x4c1,()),()))) =
  .cut (e8 (d9 Try.prog 347) 1).1 (e8 (d9 Try.prog 347) 1).2 (St.mk [(0,AV.at_ 2000000 []),(1,AV.val (Ty.int IntKind.i64) x1),(2,AV.val (Ty.int IntKind.i64) x2),(3,AV.val (Ty.int IntKind.i64) x3),(10,AV.val (Ty.int IntKind.i64) (0:Int))] [(2000000,g9.own Is x0)]):=by kernel_rfl
def a9s (v1:Int) (v2:Int) (v3:Int) (v10:Int) (o2000000:List Int):St:=St.mk [(0,AV.at_ 2000000 []),(1,AV.val (Ty.int IntKind.i64) v1),(2,AV.val (Ty.int IntKind.i64) v2),(3,AV.val (Ty.int IntKind.i64) v3),(10,AV.val (Ty.int IntKind.i64) v10)] [(2000000,g9.own Is o2000000)]
theorem b6l (v1:Int) (v2:Int) (v3:Int) (v10:Int) (o2000000:List Int):exec a78 1000 (.code (e8 (d9 Try.prog 347) 1).1::.inLoop (e8 (d9 Try.prog 347) 1).1::(e8 (d9 Try.prog 347) 1).2) (a9s v1 v2 v3 v10 o2000000) =
  cond (decide (v10<v3)) (.i5 (v5 IntKind.i64 (v1+v10)) (.i5 (v5 IntKind.i64 (v2+v10)) (.i5 (v5 IntKind.i64 (v2+v10)) (.i5 ((0:Int)≤v2+v10∧v2+v10<(↑(List.length o2000000):Int)) (.i5 (v5 IntKind.i64 (v1+v10)) (.i5 ((0:Int)≤v1+v10∧v1+v10<(↑(List.length o2000000):Int)) (.i5 ((0:Int)≤v1+v10∧v1+v10<(↑(List.length o2000000):Int)) (.i5 ((0:Int)≤v2+v10∧v2+v10<(↑(List.length (List.set o2000000 (Int.toNat (v1+v10)) (List.getD o2000000 (Int.toNat (v2+v10)) (0:Int)))):Int)) (.i5 (v5 IntKind.i64 (v10+(1:Int))) (.cut (e8 (d9 Try.prog 347) 1).1 (e8 (d9 Try.prog 347) 1).2 (St.mk [(0,AV.at_ 2000000 []),(1,AV.val (Ty.int IntKind.i64) v1),(2,AV.val (Ty.int IntKind.i64) v2),(3,AV.val (Ty.int IntKind.i64) v3),(10,AV.val (Ty.int IntKind.i64) (v10+(1:Int)))] [(2000000,g9.own Is (List.set (List.set o2000000 (Int.toNat (v1+v10)) (List.getD o2000000 (Int.toNat (v2+v10)) (0:Int))) (Int.toNat (v2+v10)) (List.getD o2000000 (Int.toNat (v1+v10)) (0:Int))))]))))))))))) (.ret ((o2000000,()))):=by kernel_rfl
theorem b03:b04.Valid Try.prog 347:=by
  refine D7.E6 a5I rfl rfl Try.func347 (c:=d9 Try.prog 347) rfl rfl a5E rfl ?_
  rintro ⟨(l:List Int),(a:Int),(b:Int),(n:Int),⟨(ls:List Int),(hs:List I5),⟨⟩⟩,⟨⟩⟩ ⟨⟨(ha:0≤a),(hb:0≤b),(hn:0≤n)⟩,(h1:a.toNat+n.toNat≤l.length),(h2:b.toNat+n.toNat≤l.length)⟩ ⟨⟨hl,-⟩,-⟩
  have hl:l.length≤9223372036854775807:=hl
  obtain ⟨a,rfl⟩:=Int.eq_ofNat_of_zero_le ha
  obtain ⟨b,rfl⟩:=Int.eq_ofNat_of_zero_le hb
  obtain ⟨n,rfl⟩:=Int.eq_ofNat_of_zero_le hn
  have h1:a+n≤l.length:=by simpa using h1
  have h2:b+n≤l.length:=by simpa using h2
  refine s4 (n:=1000) a5I a5E ?_
  refine n9 (b7F l (a:Int) (b:Int) (n:Int) ls hs) ?_
  refine Reach.K1 a5I a5E (fun i:Nat=>a9s (a:Int) (b:Int) (n:Int) (i:Int) (swN l a b i)) (fun i=>i≤n) (fun i=>n - i) 1000 (fun _=>⟨s6 rfl,s6 rfl⟩) ?_ 0 (Nat.zero_le _)
  rintro i (k1:i≤n) - ih
  refine n9 (b6l ..) ?_
  have hlen:=a5S l a b i
  simp only [q8,Tree.holds,true_and,true_implies,decide_eq_true_eq,decide_eq_false_iff_not,Bool.not_eq_true',Bool.not_eq_false',Int.toNat_natCast,w7,List.length_set,List.length_cons,List.length_nil]
  have ea:((a:Int)+(i:Int)).toNat=a+i:=by omega
  have eb:((b:Int)+(i:Int)).toNat=b+i:=by omega
  refine ⟨fun c=>?_,fun c=>?_⟩
  · have next:=ih (i+1) (by omega) (by omega)
    rw [ea,eb]
    exact ⟨by omega,fun _=>⟨by omega,fun _=>⟨by omega,fun _=>⟨by omega,fun _=>⟨by omega,fun _=>⟨by omega,fun _=>⟨by omega,fun _=>⟨by omega,fun _=>⟨by omega,fun _=>next⟩⟩⟩⟩⟩⟩⟩⟩⟩
  · obtain rfl:i=n:=by omega
    rfl
end Go.Proofs.Ytekbamiaenbhjaa
