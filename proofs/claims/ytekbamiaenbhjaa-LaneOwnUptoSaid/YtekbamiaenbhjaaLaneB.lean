/- Where a parcel stands among those that came early (slices.BinarySearchFunc). -/
import Derived.Test.YtekbamiaenbhjaaLane
namespace Go.Proofs.Ytekbamiaenbhjaa
open Go.Ex
set_option maxRecDepth 100000
def b8J (p:n9) (n:Int):Int:=p.1 - n
def b5M:t5:={ ps:=[.v C0,.v I8],rs:=[I8],pre:=fun x=>(LE.le (α:=Int) (-100000000) x.1.1∧LE.le (α:=Int) x.1.1 100000000)∧(LE.le (α:=Int) (-100000000) x.2.1∧LE.le (α:=Int) x.2.1 100000000),fn:=fun x=>(b8J x.1 x.2.1,()),out:=fun _=>() }
noncomputable def b6s:Env:={ P:=Try.prog,tt:=tt,C9:=[],res:=[Go.ResultVar.tmp 4],rs:=[Ty.int IntKind.i64],ps:=[PK.v (Ty.pair (Ty.int IntKind.i64) (Ty.pair Ty.str Ty.unit)),PK.v (Ty.int IntKind.i64)],C7:=[],nt:=9 }
theorem b2X:x8 b6s:=C2 q9 trivial
theorem b2G:D3 b6s Try.f159:=⟨rfl,rfl⟩
theorem c0Q (x0_1:Int) (x0_2_1:List UInt8) (x1:Int):exec b6s 1000 [.code (d9 Try.prog 159)] (w7 b5M.ps (((x0_1,x0_2_1,()),x1,()))) =
  .f9 (C1 IntKind.i64 (x0_1 - x1)) (.ret ((x0_1 - x1,()))):=by kernel_rfl
theorem b3E:b5M.Valid Try.prog 159:=by
  refine t5.s4 b2X rfl rfl Try.func159 (c:=d9 Try.prog 159) rfl rfl b2G rfl ?_
  rintro ⟨⟨(q:Int),(s:List UInt8),⟨⟩⟩,(n:Int),⟨⟩⟩ ⟨⟨(h1:-100000000≤q),(h2:q≤100000000)⟩,(h3:-100000000≤n),(h4:n≤100000000)⟩ -
  refine l5 (n:=1000) b2X b2G ?_
  refine j8 (c0Q q s n) ?_
  simp only [p8,Tree.holds,true_and,true_implies,decide_eq_true_eq,decide_eq_false_iff_not,Bool.not_eq_true',Bool.not_eq_false',Int.toNat_natCast,u6,List.length_set,List.length_cons,List.length_nil]
  exact ⟨by omega,fun _=>rfl⟩
def W4 (n:Int) (l:List n9):Nat:=(l.takeWhile fun p=>decide (p.1<n)).length
theorem b7N {n:Int}:∀ {l:List n9} {i:Nat},i≤l.length→(∀ k,k<i→(l.getD k U5).1<n)→(i<l.length→n≤(l.getD i U5).1)→W4 n l=i
  | [],i,hi,_,_=>by simp at hi; subst hi; rfl
  | p::l,0,_,_,h=>by
    have:=h (by simp)
    rw [W4,List.takeWhile_cons,if_neg]
    · rfl
    · rw [decide_eq_true_eq]; show ¬ p.1<n; exact Int.not_lt.2 this
  | p::l,i+1,hi,h1,h2=>by
    have h0:p.1<n:=h1 0 (by omega)
    have:=b7N (l:=l) (i:=i) (by simpa using hi) (fun k hk=>h1 (k+1) (by omega)) (fun hk=>h2 (by simpa using hk))
    rw [W4,List.takeWhile_cons,if_pos (decide_eq_true h0),List.length_cons]
    rw [W4] at this; omega
def sorted (l:List n9):Prop:=(∀ i j,i<j→j<l.length→(l.getD i U5).1<(l.getD j U5).1)∧(∀ i,i<l.length→-100000000≤(l.getD i U5).1∧(l.getD i U5).1≤100000000)
def W9 (n:Int) (l:List n9):Bool:=decide (W4 n l<l.length) && decide ((l.getD (W4 n l) U5).1 - n=0)
def b80:t5:={ ps:=[.v (.d0 false C0),.v I8,.r9 159 []],rs:=[I8,.bool],pre:=fun x=>(List.length (α:=n9) x.1≤1000∧sorted x.1)∧(LE.le (α:=Int) (-100000000) x.2.1∧LE.le (α:=Int) x.2.1 100000000),fn:=fun x=>((W4 x.2.1 x.1:Int),W9 x.2.1 x.1,()),out:=fun _=>() }
noncomputable def b6A:Env:={ P:=Try.prog,tt:=tt,C9:=[(159,b5M)],res:=[Go.ResultVar.tmp 6,Go.ResultVar.tmp 7],rs:=[Ty.int IntKind.i64,Ty.bool],ps:=[PK.v (Ty.d0 false (Ty.pair (Ty.int IntKind.i64) (Ty.pair Ty.str Ty.unit))),PK.v (Ty.int IntKind.i64),PK.r9 159 []],C7:=[(3,[(0,none),(1,none),(2,none),(8,none),(9,none),(10,none)])],nt:=49 }
theorem a9v:x8 b6A:=C2 q9 ⟨b3E,trivial⟩
theorem a9k:D3 b6A Try.f158:=⟨rfl,rfl⟩
theorem c1R (x0:List (Int×List UInt8×Unit)) (x1:Int):exec b6A 1000 [.code (d9 Try.prog 158)] (w7 b80.ps ((x0,x1,(),()))) =
  .cut (j7 (d9 Try.prog 158) 3).1 (j7 (d9 Try.prog 158) 3).2 (St.mk [(0,AV.val (Ty.d0 false (Ty.pair (Ty.int IntKind.i64) (Ty.pair Ty.str Ty.unit))) x0),(1,AV.val (Ty.int IntKind.i64) x1),(2,AV.r9 159 AV.nil),(8,AV.val (Ty.int IntKind.i64) (↑(List.length x0):Int)),(9,AV.val (Ty.int IntKind.i64) (0:Int)),(10,AV.val (Ty.int IntKind.i64) (↑(List.length x0):Int))] []):=by kernel_rfl
def b4W (v0:List (Int×List UInt8×Unit)) (v1:Int) (v8:Int) (v9:Int) (v10:Int):St:=St.mk [(0,AV.val (Ty.d0 false (Ty.pair (Ty.int IntKind.i64) (Ty.pair Ty.str Ty.unit))) v0),(1,AV.val (Ty.int IntKind.i64) v1),(2,AV.r9 159 AV.nil),(8,AV.val (Ty.int IntKind.i64) v8),(9,AV.val (Ty.int IntKind.i64) v9),(10,AV.val (Ty.int IntKind.i64) v10)] []
theorem c0Z (v0:List (Int×List UInt8×Unit)) (v1:Int) (v8:Int) (v9:Int) (v10:Int):exec b6A 1000 (.code (j7 (d9 Try.prog 158) 3).1::.inLoop (j7 (d9 Try.prog 158) 3).1::(j7 (d9 Try.prog 158) 3).2) (b4W v0 v1 v8 v9 v10) =
  cond (decide (v9<v10)) (.f9 (C1 IntKind.i64 (v9+v10)) (.f9 ((0:Int)≤(1:Int)) (.f9 ((0:Int)≤IntKind.wrap IntKind.i64 (IntKind.wrap IntKind.u64 (v9+v10) / (2:Int)^min (Int.toNat (1:Int)) (IntKind.bits IntKind.u64))∧IntKind.wrap IntKind.i64 (IntKind.wrap IntKind.u64 (v9+v10) / (2:Int)^min (Int.toNat (1:Int)) (IntKind.bits IntKind.u64))<(↑(List.length v0):Int)) (.f9 (((-100000000:Int)≤Prod.fst (List.getD v0 (Int.toNat (IntKind.wrap IntKind.i64 (IntKind.wrap IntKind.u64 (v9+v10) / (2:Int)^min (Int.toNat (1:Int)) (IntKind.bits IntKind.u64)))) ((0:Int),[],()))∧Prod.fst (List.getD v0 (Int.toNat (IntKind.wrap IntKind.i64 (IntKind.wrap IntKind.u64 (v9+v10) / (2:Int)^min (Int.toNat (1:Int)) (IntKind.bits IntKind.u64)))) ((0:Int),[],()))≤(100000000:Int))∧(-100000000:Int)≤v1∧v1≤(100000000:Int)) (cond (decide (b8J (List.getD v0 (Int.toNat (IntKind.wrap IntKind.i64 (IntKind.wrap IntKind.u64 (v9+v10) / (2:Int)^min (Int.toNat (1:Int)) (IntKind.bits IntKind.u64)))) ((0:Int),[],())) v1<(0:Int))) (.f9 (C1 IntKind.i64 (IntKind.wrap IntKind.i64 (IntKind.wrap IntKind.u64 (v9+v10) / (2:Int)^min (Int.toNat (1:Int)) (IntKind.bits IntKind.u64))+(1:Int))) (.cut (j7 (d9 Try.prog 158) 3).1 (j7 (d9 Try.prog 158) 3).2 (St.mk [(0,AV.val (Ty.d0 false (Ty.pair (Ty.int IntKind.i64) (Ty.pair Ty.str Ty.unit))) v0),(1,AV.val (Ty.int IntKind.i64) v1),(2,AV.r9 159 AV.nil),(8,AV.val (Ty.int IntKind.i64) v8),(9,AV.val (Ty.int IntKind.i64) (IntKind.wrap IntKind.i64 (IntKind.wrap IntKind.u64 (v9+v10) / (2:Int)^min (Int.toNat (1:Int)) (IntKind.bits IntKind.u64))+(1:Int))),(10,AV.val (Ty.int IntKind.i64) v10)] []))) (.cut (j7 (d9 Try.prog 158) 3).1 (j7 (d9 Try.prog 158) 3).2 (St.mk [(0,AV.val (Ty.d0 false (Ty.pair (Ty.int IntKind.i64) (Ty.pair Ty.str Ty.unit))) v0),(1,AV.val (Ty.int IntKind.i64) v1),(2,AV.r9 159 AV.nil),(8,AV.val (Ty.int IntKind.i64) v8),(9,AV.val (Ty.int IntKind.i64) v9),(10,AV.val (Ty.int IntKind.i64) (IntKind.wrap IntKind.i64 (IntKind.wrap IntKind.u64 (v9+v10) / (2:Int)^min (Int.toNat (1:Int)) (IntKind.bits IntKind.u64))))] []))))))) (cond (decide (v9<v8)) (.f9 ((0:Int)≤v9∧v9<(↑(List.length v0):Int)) (.f9 (((-100000000:Int)≤Prod.fst (List.getD v0 (Int.toNat v9) ((0:Int),[],()))∧Prod.fst (List.getD v0 (Int.toNat v9) ((0:Int),[],()))≤(100000000:Int))∧(-100000000:Int)≤v1∧v1≤(100000000:Int)) (.ret ((v9,decide (b8J (List.getD v0 (Int.toNat v9) ((0:Int),[],())) v1=(0:Int)),()))))) (.ret ((v9,false,())))):=by kernel_rfl
theorem b5W:b80.Valid Try.prog 158:=by
  refine t5.s4 a9v rfl rfl Try.func158 (c:=d9 Try.prog 158) rfl rfl a9k rfl ?_
  rintro ⟨(l:List n9),(n:Int),⟨⟩,⟨⟩⟩ ⟨⟨(h0:l.length≤1000),(hs:sorted l)⟩,(h1:-100000000≤n),(h2:n≤100000000)⟩ -
  refine l5 (n:=1000) a9v a9k ?_
  refine j8 (c1R l n) ?_
  refine Reach.V1 a9v a9k (fun s:Nat×Nat=>b4W l n (l.length:Int) (s.1:Int) (s.2:Int)) (fun s=>s.1≤s.2∧s.2≤l.length∧(∀ k,k<s.1→(l.getD k U5).1<n)∧(∀ k,s.2≤k→k<l.length→n≤(l.getD k U5).1)) (fun s=>s.2 - s.1) 1000 (fun _=>⟨x7 rfl,x7 rfl⟩) ?_ (0,l.length) ⟨Nat.zero_le _,Nat.le_refl _,fun k hk=>by omega,fun k hk hk2=>by omega⟩
  rintro ⟨i,j⟩ ⟨k1,k2,k3,k4⟩ - ih
  have k1:i≤j:=k1
  have k2:j≤l.length:=k2
  have k3:∀ k,k<i→(l.getD k U5).1<n:=k3
  have k4:∀ k,j≤k→k<l.length→n≤(l.getD k U5).1:=k4
  refine j8 (c0Z ..) ?_
  have hh:IntKind.wrap .i64 (IntKind.wrap .u64 ((i:Int)+(j:Int)) / 2^min (Int.toNat 1) (IntKind.bits .u64))=(((i+j) / 2:Nat):Int):=by
    rw [N3 (k:=.u64) (by show (0:Int)≤_∧_≤(18446744073709551615:Int); omega)]
    rw [show (2:Int)^min (Int.toNat 1) (IntKind.bits .u64)=2 from rfl]
    rw [N3 (k:=.i64) (by show (-9223372036854775808:Int)≤_∧_≤(9223372036854775807:Int); omega)]
    omega
  rw [show ((i,j):Nat×Nat).1=i from rfl,show ((i,j):Nat×Nat).2=j from rfl,hh]
  simp only [p8,Tree.holds,true_and,true_implies,decide_eq_true_eq,decide_eq_false_iff_not,Bool.not_eq_true',Bool.not_eq_false',Int.toNat_natCast,u6,List.length_set,List.length_cons,List.length_nil]
  refine ⟨fun c=>⟨by omega,fun _=>⟨by omega,fun _=>?_⟩⟩,fun c=>?_⟩
  · have hm:(i+j) / 2<l.length:=by omega
    have hrg:=hs.2 _ hm
    have e0:l.getD ((i+j) / 2) (0,[],())=l.getD ((i+j) / 2) U5:=rfl
    rw [e0]
    refine ⟨⟨by omega,by omega⟩,fun _=>⟨⟨hrg,h1,h2⟩,fun _=>⟨fun d=>⟨by omega,fun _=>?_⟩,fun d=>?_⟩⟩⟩
    · have d:(l.getD ((i+j) / 2) U5).1 - n<0:=d
      exact ih ((i+j) / 2+1,j) ⟨by show (i+j) / 2+1≤j; omega,k2,fun k hk=>(by
        have hk:k<(i+j) / 2+1:=hk
        by_cases e:k=(i+j) / 2
        · subst e; omega
        · have:=hs.1 k ((i+j) / 2) (by omega) hm; omega),k4⟩ (by show j - ((i+j) / 2+1)<j - i; omega)
    · have d:¬ (l.getD ((i+j) / 2) U5).1 - n<0:=d
      exact ih (i,(i+j) / 2) ⟨by show i≤(i+j) / 2; omega,by show (i+j) / 2≤l.length; omega,k3,fun k hk hk2=>(by
        have hk:(i+j) / 2≤k:=hk
        by_cases e:k=(i+j) / 2
        · subst e; omega
        · have:=hs.1 ((i+j) / 2) k (by omega) hk2; omega)⟩ (by show (i+j) / 2 - i<j - i; omega)
  · have e:j=i:=by omega
    subst e
    have hat:W4 n l=j:=b7N k2 k3 (fun h=>k4 j (Nat.le_refl _) h)
    have key:∀ {x:Bool},W9 n l=x→(((j:Int),x,()):Int×Bool×Unit)=((W4 n l:Int),W9 n l,()):=by rintro x rfl; rw [hat]
    have hk:W9 n l=(decide (j<l.length) && decide ((l.getD j U5).1 - n=0)):=by rw [W9,hat]
    refine ⟨fun d=>⟨by omega,fun _=>⟨⟨hs.2 j (by omega),h1,h2⟩,fun _=>key ?_⟩⟩,fun d=>key ?_⟩
    · rw [hk,decide_eq_true (show j<l.length by omega),Bool.true_and]; rfl
    · rw [hk,decide_eq_false (show ¬ j<l.length by omega)]; rfl
end Go.Proofs.Ytekbamiaenbhjaa
