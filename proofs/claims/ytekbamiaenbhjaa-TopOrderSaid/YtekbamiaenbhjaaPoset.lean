/- The contracts of the package poset's functions. -/
import Derived.Test.YtekbamiaenbhjaaPoH
namespace Go.Proofs.Ytekbamiaenbhjaa
open Go.Ex
set_option maxRecDepth 100000
def b0L:w9:={ ps:=[.v Pos],rs:=[Ord],pre:=fun x=>(LE.le (α:=Int) 0 x.1.1∧LE.le (α:=Int) x.1.1 20)∧∀ q∈(show List s5 from x.1.2.1),(0≤q.1∧q.1<(show Int from x.1.1))∧(0≤q.2.1∧q.2.1<(show Int from x.1.1)),fn:=fun x=>(W5 (wk (D6 x.1.2.1) (Int.toNat x.1.1)),()),out:=fun _=>() }
noncomputable def a0U:Env:={ P:=Try.prog,tt:=tt,F2:=[],res:=[Go.ResultVar.cell 2 241],rs:=[Ty.arr 20 (Ty.arr 20 Ty.bool)],ps:=[PK.v (Ty.pair i5 (Ty.pair (Ty.d0 false r7) Ty.unit))],D8:=[(3,[(1,none),(2,none),(3,none),(10,none),(11,none),(12,none)]),(8,[(1,none),(2,none),(3,none),(24,none),(25,none)]),(11,[(1,none),(2,none),(3,none),(6,none),(24,none),(25,none),(29,none),(30,none)]),(14,[(1,none),(2,none),(3,none),(6,none),(7,none),(24,none),(25,none),(29,none),(30,none),(34,none),(35,none)])],nt:=65 }
theorem a0T:B6 a0U:=D0 w5 trivial
theorem a0S:E3 a0U Try.f224:=⟨rfl,rfl⟩
theorem c0B (x0_1:Int) (x0_2_1:List (Int×Int×Unit)):exec a0U 1000 [.code (d8 Try.prog 224)] (A5 b0L.ps (((x0_1,x0_2_1,()),()))) =
  .ctL (d9 (d8 Try.prog 224) 3) (St.mk [(1,AV.ptr 1 []),(2,AV.ptr 2 []),(3,AV.ptr 3 []),(10,AV.val (Ty.d0 false r7) x0_2_1),(11,vI (↑(List.length x0_2_1):Int)),(12,vI (0:Int))] [(1,f7.var (Ty.pair i5 (Ty.pair (Ty.d0 false r7) Ty.unit)) (x0_1,x0_2_1,())),(2,f7.var (Ty.arr 20 (Ty.arr 20 Ty.bool)) a0C),(3,f7.var (Ty.arr 20 (Ty.arr 20 Ty.bool)) a0C)]):=by kernel_rfl
def b0f (v10:List (Int×Int×Unit)) (v11:Int) (v12:Int) (o1_1:Int) (o1_2_1:List (Int×Int×Unit)) (o2:List (List Bool)) (o3:List (List Bool)):St:=St.mk [(1,AV.ptr 1 []),(2,AV.ptr 2 []),(3,AV.ptr 3 []),(10,AV.val (Ty.d0 false r7) v10),(11,vI v11),(12,vI v12)] [(1,f7.var (Ty.pair i5 (Ty.pair (Ty.d0 false r7) Ty.unit)) (o1_1,o1_2_1,())),(2,f7.var (Ty.arr 20 (Ty.arr 20 Ty.bool)) o2),(3,f7.var (Ty.arr 20 (Ty.arr 20 Ty.bool)) o3)]
theorem b8K (v10:List (Int×Int×Unit)) (v11:Int) (v12:Int) (o1_1:Int) (o1_2_1:List (Int×Int×Unit)) (o2:List (List Bool)) (o3:List (List Bool)):exec a0U 1000 (.code (d9 (d8 Try.prog 224) 3).1::.inLoop (d9 (d8 Try.prog 224) 3).1::(d9 (d8 Try.prog 224) 3).2) (b0f v10 v11 v12 o1_1 o1_2_1 o2 o3) =
  let q0:=(List.getD v10 (Int.toNat v12) ((0:Int),(0:Int),())); let q1:=(1,f7.var (Ty.pair i5 (Ty.pair (Ty.d0 false r7) Ty.unit)) (o1_1,o1_2_1,())); cond (decide (v12<v11)) (.e8 ((0:Int)≤v12∧v12<(↑(List.length v10):Int)) (.e8 ((0:Int)≤Prod.fst q0∧Prod.fst q0<(↑20:Int)) (.e8 ((0:Int)≤Prod.fst (Prod.snd q0)∧Prod.fst (Prod.snd q0)<(↑20:Int)) (.e8 (r9 IntKind.i64 (v12+(1:Int))) (.ctL (d9 (d8 Try.prog 224) 3) (St.mk [(1,AV.ptr 1 []),(2,AV.ptr 2 []),(3,AV.ptr 3 []),(10,AV.val (Ty.d0 false r7) v10),(11,vI v11),(12,vI (v12+(1:Int)))] [q1,(2,f7.var (Ty.arr 20 (Ty.arr 20 Ty.bool)) o2),(3,f7.var (Ty.arr 20 (Ty.arr 20 Ty.bool)) (List.set o3 (Int.toNat (Prod.fst q0)) (List.set (List.getD o3 (Int.toNat (Prod.fst q0)) P9) (Int.toNat (Prod.fst (Prod.snd q0))) true)))])))))) (.ctL (d9 (d8 Try.prog 224) 8) (St.mk [(1,AV.ptr 1 []),(2,AV.ptr 2 []),(3,AV.ptr 3 []),(24,vI o1_1),(25,vI (0:Int))] [q1,(2,f7.var (Ty.arr 20 (Ty.arr 20 Ty.bool)) o2),(3,f7.var (Ty.arr 20 (Ty.arr 20 Ty.bool)) o3)])):=by kernel_rfl
def b0e (v24:Int) (v25:Int) (o1_1:Int) (o1_2_1:List (Int×Int×Unit)) (o2:List (List Bool)) (o3:List (List Bool)):St:=St.mk [(1,AV.ptr 1 []),(2,AV.ptr 2 []),(3,AV.ptr 3 []),(24,vI v24),(25,vI v25)] [(1,f7.var (Ty.pair i5 (Ty.pair (Ty.d0 false r7) Ty.unit)) (o1_1,o1_2_1,())),(2,f7.var (Ty.arr 20 (Ty.arr 20 Ty.bool)) o2),(3,f7.var (Ty.arr 20 (Ty.arr 20 Ty.bool)) o3)]
theorem b8J (v24:Int) (v25:Int) (o1_1:Int) (o1_2_1:List (Int×Int×Unit)) (o2:List (List Bool)) (o3:List (List Bool)):exec a0U 1000 (.code (d9 (d8 Try.prog 224) 8).1::.inLoop (d9 (d8 Try.prog 224) 8).1::(d9 (d8 Try.prog 224) 8).2) (b0e v24 v25 o1_1 o1_2_1 o2 o3) =
  cond (decide (v25<v24)) (.ctL (d9 (d8 Try.prog 224) 11) (St.mk [(1,AV.ptr 1 []),(2,AV.ptr 2 []),(3,AV.ptr 3 []),(6,vI v25),(24,vI v24),(25,vI v25),(29,vI o1_1),(30,vI (0:Int))] [(1,f7.var (Ty.pair i5 (Ty.pair (Ty.d0 false r7) Ty.unit)) (o1_1,o1_2_1,())),(2,f7.var (Ty.arr 20 (Ty.arr 20 Ty.bool)) o2),(3,f7.var (Ty.arr 20 (Ty.arr 20 Ty.bool)) o3)])) (.ret ((o3,()))):=by kernel_rfl
def a4A (v6:Int) (v24:Int) (v25:Int) (v29:Int) (v30:Int) (o1_1:Int) (o1_2_1:List (Int×Int×Unit)) (o2:List (List Bool)) (o3:List (List Bool)):St:=St.mk [(1,AV.ptr 1 []),(2,AV.ptr 2 []),(3,AV.ptr 3 []),(6,vI v6),(24,vI v24),(25,vI v25),(29,vI v29),(30,vI v30)] [(1,f7.var (Ty.pair i5 (Ty.pair (Ty.d0 false r7) Ty.unit)) (o1_1,o1_2_1,())),(2,f7.var (Ty.arr 20 (Ty.arr 20 Ty.bool)) o2),(3,f7.var (Ty.arr 20 (Ty.arr 20 Ty.bool)) o3)]
theorem b5F (v6:Int) (v24:Int) (v25:Int) (v29:Int) (v30:Int) (o1_1:Int) (o1_2_1:List (Int×Int×Unit)) (o2:List (List Bool)) (o3:List (List Bool)):exec a0U 1000 (.code (d9 (d8 Try.prog 224) 11).1::.inLoop (d9 (d8 Try.prog 224) 11).1::(d9 (d8 Try.prog 224) 11).2) (a4A v6 v24 v25 v29 v30 o1_1 o1_2_1 o2 o3) =
  cond (decide (v30<v29)) (.ctL (d9 (d8 Try.prog 224) 14) (St.mk [(1,AV.ptr 1 []),(2,AV.ptr 2 []),(3,AV.ptr 3 []),(6,vI v6),(7,vI v30),(24,vI v24),(25,vI v25),(29,vI v29),(30,vI v30),(34,vI o1_1),(35,vI (0:Int))] [(1,f7.var (Ty.pair i5 (Ty.pair (Ty.d0 false r7) Ty.unit)) (o1_1,o1_2_1,())),(2,f7.var (Ty.arr 20 (Ty.arr 20 Ty.bool)) o2),(3,f7.var (Ty.arr 20 (Ty.arr 20 Ty.bool)) o3)])) (.e8 (r9 IntKind.i64 (v25+(1:Int))) (.ctL (d9 (d8 Try.prog 224) 8) (St.mk [(1,AV.ptr 1 []),(2,AV.ptr 2 []),(3,AV.ptr 3 []),(24,vI v24),(25,vI (v25+(1:Int)))] [(1,f7.var (Ty.pair i5 (Ty.pair (Ty.d0 false r7) Ty.unit)) (o1_1,o1_2_1,())),(2,f7.var (Ty.arr 20 (Ty.arr 20 Ty.bool)) o2),(3,f7.var (Ty.arr 20 (Ty.arr 20 Ty.bool)) o3)]))):=by kernel_rfl
def a4z (v6:Int) (v7:Int) (v24:Int) (v25:Int) (v29:Int) (v30:Int) (v34:Int) (v35:Int) (o1_1:Int) (o1_2_1:List (Int×Int×Unit)) (o2:List (List Bool)) (o3:List (List Bool)):St:=St.mk [(1,AV.ptr 1 []),(2,AV.ptr 2 []),(3,AV.ptr 3 []),(6,vI v6),(7,vI v7),(24,vI v24),(25,vI v25),(29,vI v29),(30,vI v30),(34,vI v34),(35,vI v35)] [(1,f7.var (Ty.pair i5 (Ty.pair (Ty.d0 false r7) Ty.unit)) (o1_1,o1_2_1,())),(2,f7.var (Ty.arr 20 (Ty.arr 20 Ty.bool)) o2),(3,f7.var (Ty.arr 20 (Ty.arr 20 Ty.bool)) o3)]
theorem b5E (v6:Int) (v7:Int) (v24:Int) (v25:Int) (v29:Int) (v30:Int) (v34:Int) (v35:Int) (o1_1:Int) (o1_2_1:List (Int×Int×Unit)) (o2:List (List Bool)) (o3:List (List Bool)):exec a0U 1000 (.code (d9 (d8 Try.prog 224) 14).1::.inLoop (d9 (d8 Try.prog 224) 14).1::(d9 (d8 Try.prog 224) 14).2) (a4z v6 v7 v24 v25 v29 v30 v34 v35 o1_1 o1_2_1 o2 o3) =
  let q0:=(1,f7.var (Ty.pair i5 (Ty.pair (Ty.d0 false r7) Ty.unit)) (o1_1,o1_2_1,())); let q1:=(2,f7.var (Ty.arr 20 (Ty.arr 20 Ty.bool)) o2); let q2:=(24,vI v24); let q3:=(25,vI v25); let q4:=(29,vI v29); let q5:=(35,vI (v35+(1:Int))); let q6:=(6,vI v6); cond (decide (v35<v34)) (.e8 ((0:Int)≤v7∧v7<(↑20:Int)) (.e8 ((0:Int)≤v35∧v35<(↑20:Int)) (cond (List.getD (List.getD o3 (Int.toNat v7) P9) (Int.toNat v35) false) (.e8 ((0:Int)≤v7∧v7<(↑20:Int)) (.e8 ((0:Int)≤v35∧v35<(↑20:Int)) (.e8 (r9 IntKind.i64 (v35+(1:Int))) (.ctL (d9 (d8 Try.prog 224) 14) (St.mk [(1,AV.ptr 1 []),(2,AV.ptr 2 []),(3,AV.ptr 3 []),q6,(7,vI v7),q2,q3,q4,(30,vI v30),(34,vI v34),q5] [q0,q1,(3,f7.var (Ty.arr 20 (Ty.arr 20 Ty.bool)) (List.set o3 (Int.toNat v7) (List.set (List.getD o3 (Int.toNat v7) P9) (Int.toNat v35) true)))]))))) (.e8 ((0:Int)≤v7∧v7<(↑20:Int)) (.e8 ((0:Int)≤v6∧v6<(↑20:Int)) (cond (List.getD (List.getD o3 (Int.toNat v7) P9) (Int.toNat v6) false) (.e8 ((0:Int)≤v6∧v6<(↑20:Int)) (.e8 ((0:Int)≤v35∧v35<(↑20:Int)) (.e8 ((0:Int)≤v7∧v7<(↑20:Int)) (.e8 ((0:Int)≤v35∧v35<(↑20:Int)) (.e8 (r9 IntKind.i64 (v35+(1:Int))) (.ctL (d9 (d8 Try.prog 224) 14) (St.mk [(1,AV.ptr 1 []),(2,AV.ptr 2 []),(3,AV.ptr 3 []),q6,(7,vI v7),q2,q3,q4,(30,vI v30),(34,vI v34),q5] [q0,q1,(3,f7.var (Ty.arr 20 (Ty.arr 20 Ty.bool)) (List.set o3 (Int.toNat v7) (List.set (List.getD o3 (Int.toNat v7) P9) (Int.toNat v35) (List.getD (List.getD o3 (Int.toNat v6) P9) (Int.toNat v35) false))))]))))))) (.e8 ((0:Int)≤v7∧v7<(↑20:Int)) (.e8 ((0:Int)≤v35∧v35<(↑20:Int)) (.e8 (r9 IntKind.i64 (v35+(1:Int))) (.ctL (d9 (d8 Try.prog 224) 14) (St.mk [(1,AV.ptr 1 []),(2,AV.ptr 2 []),(3,AV.ptr 3 []),q6,(7,vI v7),q2,q3,q4,(30,vI v30),(34,vI v34),q5] [q0,q1,(3,f7.var (Ty.arr 20 (Ty.arr 20 Ty.bool)) (List.set o3 (Int.toNat v7) (List.set (List.getD o3 (Int.toNat v7) P9) (Int.toNat v35) false)))]))))))))))) (.e8 (r9 IntKind.i64 (v30+(1:Int))) (.ctL (d9 (d8 Try.prog 224) 11) (St.mk [(1,AV.ptr 1 []),(2,AV.ptr 2 []),(3,AV.ptr 3 []),q6,q2,q3,q4,(30,vI (v30+(1:Int)))] [q0,q1,(3,f7.var (Ty.arr 20 (Ty.arr 20 Ty.bool)) o3)]))):=by kernel_rfl
theorem b9p {l:List s5} {i:Nat} (hi:i<l.length) {A B:Nat} (hA:(l.getD i (0,0,())).1=A) (hB:(l.getD i (0,0,())).2.1=B):D6 (l.take (i+1))=fun x y=>if x=A∧y=B then true else D6 (l.take i) x y:=by
  funext x y
  rw [a6f hi (0,0,())]
  rw [D6,List.any_append,← D6]
  simp only [List.any_cons,List.any_nil,Bool.or_false,hA,hB]
  by_cases h:x=A∧y=B
  · rw [if_pos h,h.1,h.2]; simp
  · rw [if_neg h]
    have:(decide ((A:Int)=x) && decide ((B:Int)=y))=false:=by
      cases e:(decide ((A:Int)=x) && decide ((B:Int)=y)) with
      | false=>rfl
      | true =>
        simp only [Bool.and_eq_true,decide_eq_true_eq] at e
        exact absurd ⟨by omega,by omega⟩ h
    rw [this,Bool.or_false]
theorem b2q:b0L.Valid Try.prog 224:=by
  refine w9.u7 a0T rfl rfl Try.func224 (c:=d8 Try.prog 224) rfl rfl a0S rfl ?_
  rintro ⟨⟨(n0:Int),(l:List s5),⟨⟩⟩,⟨⟩⟩ ⟨⟨h0,h1⟩,hr⟩ ⟨⟨-,⟨hl,-⟩,-⟩,-⟩
  have h0:0≤n0:=h0
  have h1:n0≤20:=h1
  have hl:l.length≤9223372036854775807:=hl
  obtain ⟨n,rfl⟩:=Int.eq_ofNat_of_zero_le h0
  have hr:∀ q∈l,(0≤q.1∧q.1<(n:Int))∧(0≤q.2.1∧q.2.1<(n:Int)):=hr
  have hf:=b50 hr
  refine n7 (n:=1000) a0T a0S ?_
  refine g9 (c0B (n:Int) l) ?_
  refine Reach.C1 a0T a0S (fun i:Nat=>b0f l (l.length:Int) (i:Int) (n:Int) l a0C (W5 (D6 (l.take i)))) (fun i=>i≤l.length)
    (fun i=>l.length - i) 1000 (fun _=>⟨j7 rfl,j7 rfl⟩) ?_ 0 (Nat.zero_le _)
  rintro i k1 - ih
  have k1:i≤l.length:=k1
  refine g9 (b8K ..) ?_
  simp only [i9,Tree.holds,true_and,true_implies,decide_eq_true_eq,decide_eq_false_iff_not,Bool.not_eq_true',Bool.not_eq_false',Int.toNat_natCast,l7,List.length_set,List.length_cons,List.length_nil]
  refine ⟨fun c=>?_,fun c=>?_⟩
  · have hi:i<l.length:=by omega
    obtain ⟨⟨a1,a2⟩,b1,b2⟩:=hr _ (P6 (d:=(0,0,())) hi)
    obtain ⟨A,hA⟩:=Int.eq_ofNat_of_zero_le a1
    obtain ⟨B,hB⟩:=Int.eq_ofNat_of_zero_le b1
    have:=ih (i+1) (by show i+1≤l.length; omega) (by omega)
    rw [b9p hi hA hB] at this
    simp only [hA,hB,Int.toNat_natCast] at a2 b2 ⊢
    rw [← b6c true (by omega) (by omega)] at this
    exact ⟨by omega,fun _=>⟨by omega,fun _=>⟨by omega,fun _=>⟨by omega,fun _=>this⟩⟩⟩⟩
  rw [List.take_of_length_le (by omega)]
  refine Reach.C1 a0T a0S (fun k:Nat=>b0e (n:Int) (k:Int) (n:Int) l a0C (W5 (wk (D6 l) k))) (fun k=>k≤n)
    (fun k=>n - k) 1000 (fun _=>⟨j7 rfl,j7 rfl⟩) ?_ 0 (Nat.zero_le _)
  rintro k k2 - ih2
  have k2:k≤n:=k2
  refine g9 (b8J ..) ?_
  simp only [i9,Tree.holds,true_and,true_implies,decide_eq_true_eq,decide_eq_false_iff_not,Bool.not_eq_true',Bool.not_eq_false',Int.toNat_natCast,l7,List.length_set,List.length_cons,List.length_nil]
  refine ⟨fun c2=>?_,fun c2=>?_⟩
  rotate_left
  · obtain rfl:k=n:=by omega
    rfl
  have hk:k<n:=by omega
  suffices go:Go.Ex.Reach a0U Try.f224 (W5 (wk (D6 l) (Int.toNat (n:Int))),()) () (.code (d9 (d8 Try.prog 224) 11).1::.inLoop (d9 (d8 Try.prog 224) 11).1::(d9 (d8 Try.prog 224) 11).2) (a4A (k:Int) (n:Int) (k:Int) (n:Int) ((0:Nat):Int) (n:Int) l a0C (W5 (Y5 (D6 l) k 0 0))) by
    rw [b8V] at go
    exact go
  refine Reach.C1 a0T a0S (fun a:Nat=>a4A (k:Int) (n:Int) (k:Int) (n:Int) (a:Int) (n:Int) l a0C (W5 (Y5 (D6 l) k a 0))) (fun a=>a≤n)
    (fun a=>n - a) 1000 (fun _=>⟨j7 rfl,j7 rfl⟩) ?_ 0 (Nat.zero_le _)
  rintro a k3 - ih3
  have k3:a≤n:=k3
  refine g9 (b5F ..) ?_
  simp only [i9,Tree.holds,true_and,true_implies,decide_eq_true_eq,decide_eq_false_iff_not,Bool.not_eq_true',Bool.not_eq_false',Int.toNat_natCast,l7,List.length_set,List.length_cons,List.length_nil]
  refine ⟨fun c3=>?_,fun c3=>⟨by omega,fun _=>?_⟩⟩
  rotate_left
  · obtain rfl:a=n:=by omega
    rw [c3k hf]
    exact ih2 (k+1) (by show k+1≤a; omega) (by omega)
  have ha:a<n:=by omega
  refine Reach.C1 a0T a0S (fun b:Nat=>a4z (k:Int) (a:Int) (n:Int) (k:Int) (n:Int) (a:Int) (n:Int) (b:Int) (n:Int) l a0C (W5 (Y5 (D6 l) k a b))) (fun b=>b≤n)
    (fun b=>n - b) 1000 (fun _=>⟨j7 rfl,j7 rfl⟩) ?_ 0 (Nat.zero_le _)
  rintro b k4 - ih4
  have k4:b≤n:=k4
  refine g9 (b5E ..) ?_
  have gd:∀ x y:Nat,x<20→y<20→((W5 (Y5 (D6 l) k a b)).getD x P9).getD y false=Y5 (D6 l) k a b x y:=fun x y hx hy=>a9L hx hy
  simp only [i9,Tree.holds,true_and,true_implies,decide_eq_true_eq,decide_eq_false_iff_not,Bool.not_eq_true',Bool.not_eq_false',Int.toNat_natCast,l7,List.length_set,List.length_cons,List.length_nil]
  refine ⟨fun c4=>?_,fun c4=>⟨by omega,fun _=>?_⟩⟩
  · have hb:b<n:=by omega
    rw [gd a b (by omega) (by omega),gd a k (by omega) (by omega),gd k b (by omega) (by omega),b8W,c0G,c0H]
    have nx:=ih4 (b+1) (by show b+1≤n; omega) (by omega)
    rw [← c0F] at nx
    have nx:∀ v,wk (D6 l) (k+1) a b=v→Go.Ex.Reach a0U Try.f224 (W5 (wk (D6 l) (Int.toNat (n:Int))),()) () (.code (d9 (d8 Try.prog 224) 14).1::.inLoop (d9 (d8 Try.prog 224) 14).1::(d9 (d8 Try.prog 224) 14).2) (a4z (k:Int) (a:Int) (n:Int) (k:Int) (n:Int) (a:Int) (n:Int) ((b+1:Nat):Int) (n:Int) l a0C ((W5 (Y5 (D6 l) k a b)).set a (((W5 (Y5 (D6 l) k a b)).getD a P9).set b v))):=fun v hv=>by
      rw [b6c v (by omega) (by omega),← hv]; exact nx
    refine ⟨by omega,fun _=>⟨by omega,fun _=>⟨fun d1=>⟨by omega,fun _=>⟨by omega,fun _=>⟨by omega,fun _=>nx true (by rw [wk,d1,Bool.true_or])⟩⟩⟩,fun d1=>⟨by omega,fun _=>⟨by omega,fun _=>⟨fun d2=>⟨by omega,fun _=>⟨by omega,fun _=>⟨by omega,fun _=>⟨by omega,fun _=>⟨by omega,fun _=>nx (wk (D6 l) k k b) (by rw [wk,d1,d2,Bool.false_or,Bool.true_and])⟩⟩⟩⟩⟩,fun d2=>⟨by omega,fun _=>⟨by omega,fun _=>⟨by omega,fun _=>nx false (by rw [wk,d1,d2]; rfl)⟩⟩⟩⟩⟩⟩⟩⟩⟩
  · obtain rfl:b=n:=by omega
    rw [c3j hf]
    exact ih3 (a+1) (by show a+1≤b; omega) (by omega)
def N8 (n:Int) (l:List s5):List (List Bool)×Int×Unit:=if J6 n l≠0 then (a0C,J6 n l,()) else (W5 (wk (D6 l) n.toNat),0,())
def a5C:w9:={ ps:=[.v Pos],rs:=[Ord,i5],pre:=fun _=>True,fn:=fun x=>N8 x.1.1 x.1.2.1,out:=fun _=>() }
noncomputable def a5U:Env:={ P:=Try.prog,tt:=tt,F2:=[(196,a7w),(224,b0L)],res:=[Go.ResultVar.cell 2 241,Go.ResultVar.tmp 3],rs:=[Ty.arr 20 (Ty.arr 20 Ty.bool),Ty.int IntKind.i64],ps:=[PK.v (Ty.pair i5 (Ty.pair (Ty.d0 false r7) Ty.unit))],D8:=[(8,[(2,none),(5,none),(30,none),(31,none)])],nt:=42 }
theorem a4y:B6 a5U:=D0 w5 ⟨a56,b2q,trivial⟩
theorem a4w:E3 a5U Try.f133:=⟨rfl,rfl⟩
theorem b8z (x0_1:Int) (x0_2_1:List (Int×Int×Unit)):exec a5U 1000 [.code (d8 Try.prog 133)] (A5 a5C.ps (((x0_1,x0_2_1,()),()))) =
  cond (decide (x0_1<(0:Int))) (.ret ((a0C,(1:Int),()))) (cond (decide ((20:Int)<x0_1)) (.ret ((a0C,(1:Int),()))) (.e8 (True) (cond (decide (G4 x0_1 x0_1 x0_2_1≠(0:Int))) (.ret ((a0C,G4 x0_1 x0_1 x0_2_1,()))) (.e8 (((0:Int)≤x0_1∧x0_1≤(20:Int))∧∀ (q:s5),q∈x0_2_1→((0:Int)≤Prod.fst q∧Prod.fst q<x0_1)∧(0:Int)≤Prod.fst (Prod.snd q)∧Prod.fst (Prod.snd q)<x0_1) (.ctL (d9 (d8 Try.prog 133) 8) (St.mk [(2,AV.ptr 2 []),(5,AV.ptr 5 []),(30,vI x0_1),(31,vI (0:Int))] [(2,f7.var (Ty.arr 20 (Ty.arr 20 Ty.bool)) a0C),(5,f7.var (Ty.arr 20 (Ty.arr 20 Ty.bool)) (W5 (wk (D6 x0_2_1) (Int.toNat x0_1))))])))))):=by kernel_rfl
def a8c (v30:Int) (v31:Int) (o2:List (List Bool)) (o5:List (List Bool)):St:=St.mk [(2,AV.ptr 2 []),(5,AV.ptr 5 []),(30,vI v30),(31,vI v31)] [(2,f7.var (Ty.arr 20 (Ty.arr 20 Ty.bool)) o2),(5,f7.var (Ty.arr 20 (Ty.arr 20 Ty.bool)) o5)]
theorem b5D (v30:Int) (v31:Int) (o2:List (List Bool)) (o5:List (List Bool)):exec a5U 1000 (.code (d9 (d8 Try.prog 133) 8).1::.inLoop (d9 (d8 Try.prog 133) 8).1::(d9 (d8 Try.prog 133) 8).2) (a8c v30 v31 o2 o5) =
  cond (decide (v31<v30)) (.e8 ((0:Int)≤v31∧v31<(↑20:Int)) (.e8 ((0:Int)≤v31∧v31<(↑20:Int)) (cond (List.getD (List.getD o5 (Int.toNat v31) P9) (Int.toNat v31) false) (.ret ((a0C,(9:Int),()))) (.e8 (r9 IntKind.i64 (v31+(1:Int))) (.ctL (d9 (d8 Try.prog 133) 8) (St.mk [(2,AV.ptr 2 []),(5,AV.ptr 5 []),(30,vI v30),(31,vI (v31+(1:Int)))] [(2,f7.var (Ty.arr 20 (Ty.arr 20 Ty.bool)) o2),(5,f7.var (Ty.arr 20 (Ty.arr 20 Ty.bool)) o5)])))))) (.ret ((o5,(0:Int),()))):=by kernel_rfl
theorem a4U:a5C.Valid Try.prog 133:=by
  refine w9.u7 a4y rfl rfl Try.func133 (c:=d8 Try.prog 133) rfl rfl a4w rfl ?_
  rintro ⟨⟨(n0:Int),(l:List s5),⟨⟩⟩,⟨⟩⟩ - -
  refine n7 (n:=1000) a4y a4w ?_
  refine g9 (b8z n0 l) ?_
  have bad:∀ e:Int,J6 n0 l=e→e≠0→((a0C,e,()):List (List Bool)×Int×Unit)=N8 n0 l:=fun e h1 h2=>by rw [N8,h1,if_pos h2]
  simp only [i9,Tree.holds,true_and,true_implies,decide_eq_true_eq,decide_eq_false_iff_not,Bool.not_eq_true',Bool.not_eq_false',Int.toNat_natCast,l7,List.length_set,List.length_cons,List.length_nil]
  refine ⟨fun h=>bad 1 (by rw [J6,if_pos (.inl h)]) (by decide),fun h1=>⟨fun h=>bad 1 (by rw [J6,if_pos (.inr h)]) (by decide),fun h2=>⟨fun h=>bad _ (by rw [J6,if_neg (by omega),if_pos h]) h,fun h3=>?_⟩⟩⟩
  obtain ⟨n,rfl⟩:=Int.eq_ofNat_of_zero_le (show 0≤n0 by omega)
  obtain ⟨_,_,_,k4⟩:=a9C (Decidable.not_not.1 h3)
  refine ⟨⟨⟨by omega,by omega⟩,k4⟩,fun _=>?_⟩
  have hp:J6 (n:Int) l=if a32 n l=true then 9 else 0:=by rw [J6,if_neg (by omega),if_neg h3]; rfl
  refine Reach.C1 a4y a4w (fun k:Nat=>a8c (n:Int) (k:Int) a0C (W5 (wk (D6 l) n))) (fun k=>k≤n∧∀ x,x<k→wk (D6 l) n x x=false)
    (fun k=>n - k) 1000 (fun _=>⟨j7 rfl,j7 rfl⟩) ?_ 0 ⟨Nat.zero_le _,fun x hx=>by omega⟩
  rintro k ⟨k2,k3⟩ - ih
  refine g9 (b5D ..) ?_
  simp only [i9,Tree.holds,true_and,true_implies,decide_eq_true_eq,decide_eq_false_iff_not,Bool.not_eq_true',Bool.not_eq_false',Int.toNat_natCast,l7,List.length_set,List.length_cons,List.length_nil]
  refine ⟨fun c=>⟨by omega,fun _=>⟨by omega,fun _=>?_⟩⟩,fun c=>?_⟩
  · have g:((W5 (wk (D6 l) n)).getD k P9).getD k false=wk (D6 l) n k k:=a9L (by omega) (by omega)
    rw [g]
    refine ⟨fun d=>bad 9 ?_ (by decide),fun d=>⟨by omega,fun _=>ih (k+1) ⟨by omega,fun x hx=>?_⟩ (by omega)⟩⟩
    · rw [hp,if_pos (show a32 n l=true from List.any_eq_true.2 ⟨k,List.mem_range.2 (by omega),d⟩)]
    · rcases Nat.lt_or_ge x k with h|h
      · exact k3 x h
      · obtain rfl:x=k:=by omega
        exact d
  · have e0:a32 n l=false:=List.any_eq_false.2 (fun x hx=>by rw [k3 x (by have:=List.mem_range.1 hx; omega)]; decide)
    have hp0:J6 (n:Int) l=0:=by rw [hp,e0]; rfl
    show ((W5 (wk (D6 l) n),(0:Int),()):List (List Bool)×Int×Unit)=N8 (n:Int) l
    rw [N8,hp0]
    rfl
def b8d:w9:={ ps:=[.v i5,.v i5],rs:=[.bool],pre:=fun _=>True,fn:=fun _=>(true,()),out:=fun _=>() }
noncomputable def b8O:Env:={ P:=Try.prog,tt:=tt,F2:=[],res:=[Go.ResultVar.tmp 4],rs:=[Ty.bool],ps:=[PK.v i5,PK.v i5],D8:=[],nt:=5 }
theorem b4Q:B6 b8O:=D0 w5 trivial
theorem b4s:E3 b8O Try.f226:=⟨rfl,rfl⟩
theorem c4m (x0:Int) (x1:Int):exec b8O 1000 [.code (d8 Try.prog 226)] (A5 b8d.ps ((x0,x1,()))) =
  .ret ((true,())):=by kernel_rfl
theorem b5w:b8d.Valid Try.prog 226:=by
  refine w9.u7 b4Q rfl rfl Try.func226 (c:=d8 Try.prog 226) rfl rfl b4s rfl ?_
  rintro ⟨(a:Int),(b:Int),⟨⟩⟩ - -
  refine n7 (n:=1000) b4Q b4s ?_
  refine g9 (c4m a b) ?_
  exact rfl
def T4 (n:Nat) (g:Nat→Nat→Bool) (a b:Nat):List s5:=(List.range a).flatMap (fun a:Nat=>((List.range n).filter (g a)).map (fun b:Nat=>((a:Int),(b:Int),())))++((List.range b).filter (g a)).map (fun b:Nat=>((a:Int),(b:Int),()))
theorem b44 {n:Nat} {g:Nat→Nat→Bool} {a b:Nat}:T4 n g a (b+1)=if g a b=true then T4 n g a b++[((a:Int),(b:Int),())] else T4 n g a b:=by
  rw [T4,List.range_succ,List.filter_append,List.map_append,← List.append_assoc,← T4]
  by_cases h:g a b=true
  · rw [if_pos h,List.filter_cons,if_pos h]; rfl
  · rw [if_neg h,List.filter_cons,if_neg h]; simp
theorem b7n {n:Nat} {g:Nat→Nat→Bool} {a:Nat}:T4 n g a n=T4 n g (a+1) 0:=by
  rw [T4,T4,List.range_succ,List.flatMap_append]
  simp
theorem b7p {n:Nat} {g:Nat→Nat→Bool}:T4 n g n 0=M7 n g:=by rw [T4,M7]; simp
theorem b7o {n:Nat} {g:Nat→Nat→Bool} {a b:Nat} (ha:a≤20) (hb:b≤20) (hn:n≤20):(T4 n g a b).length≤420:=by
  rw [T4,List.length_append,List.length_map]
  have h1:((List.range b).filter (g a)).length≤b:=Nat.le_trans (List.length_filter_le _ _) (by simp)
  have h2:∀ (l:List Nat) (f:Nat→List s5),(∀ a,(f a).length≤n)→(l.flatMap f).length≤l.length*n:=by
    intro l f hf
    induction l with
    | nil=>simp
    | cons a l ih=>rw [List.flatMap_cons,List.length_append,List.length_cons,Nat.succ_mul]; have:=hf a; omega
  have h3:=h2 (List.range a) (fun a:Nat=>((List.range n).filter (g a)).map (fun b:Nat=>((a:Int),(b:Int),()))) (fun a=>by
    rw [List.length_map]; exact Nat.le_trans (List.length_filter_le _ _) (by simp))
  rw [List.length_range] at h3
  have:a*n≤20*20:=Nat.mul_le_mul ha hn
  omega
theorem c3l:Ty.wb (Ty.pair i5 (Ty.pair i5 Ty.unit))=16:=rfl
def b0K:w9:={ ps:=[.v Ord,.v i5,.s4 226 []],rs:=[.d0 true r7],pre:=fun x=>LE.le (α:=Int) 0 x.2.1∧LE.le (α:=Int) x.2.1 20,fn:=fun x=>(M7 (Int.toNat x.2.1) (gB x.1),()),out:=fun _=>() }
noncomputable def a4Y:Env:={ P:=Try.prog,tt:=tt,F2:=[(226,b8d)],res:=[Go.ResultVar.tmp 6],rs:=[Ty.d0 true r7],ps:=[PK.v (Ty.arr 20 (Ty.arr 20 Ty.bool)),PK.v i5,PK.s4 226 []],D8:=[(3,[(1,none),(2,none),(3,none),(7,some (Ty.d0 true r7)),(10,none),(11,none)]),(6,[(1,none),(2,none),(3,none),(7,some (Ty.d0 true r7)),(8,none),(10,none),(11,none),(14,none),(15,none)])],nt:=38 }
theorem a3k:B6 a4Y:=D0 w5 ⟨b5w,trivial⟩
theorem a3j:E3 a4Y Try.f225:=⟨rfl,rfl⟩
theorem c0v (x0:List (List Bool)) (x1:Int):exec a4Y 1000 [.code (d8 Try.prog 225)] (A5 b0K.ps ((x0,x1,(),()))) =
  .ctL (d9 (d8 Try.prog 225) 3) (St.mk [(1,vI x1),(2,AV.s4 226 AV.nil),(3,AV.ptr 3 []),(7,AV.at_ 1000007 []),(10,vI x1),(11,vI (0:Int))] [(3,f7.var (Ty.arr 20 (Ty.arr 20 Ty.bool)) x0),(1000007,f7.own (Ty.d0 true r7) [])]):=by kernel_rfl
def b0a (v1:Int) (v10:Int) (v11:Int) (o3:List (List Bool)) (o1000007:List (Int×Int×Unit)):St:=St.mk [(1,vI v1),(2,AV.s4 226 AV.nil),(3,AV.ptr 3 []),(7,AV.at_ 1000007 []),(10,vI v10),(11,vI v11)] [(3,f7.var (Ty.arr 20 (Ty.arr 20 Ty.bool)) o3),(1000007,f7.own (Ty.d0 true r7) o1000007)]
theorem b8B (v1:Int) (v10:Int) (v11:Int) (o3:List (List Bool)) (o1000007:List (Int×Int×Unit)):exec a4Y 1000 (.code (d9 (d8 Try.prog 225) 3).1::.inLoop (d9 (d8 Try.prog 225) 3).1::(d9 (d8 Try.prog 225) 3).2) (b0a v1 v10 v11 o3 o1000007) =
  cond (decide (v11<v10)) (.ctL (d9 (d8 Try.prog 225) 6) (St.mk [(1,vI v1),(2,AV.s4 226 AV.nil),(3,AV.ptr 3 []),(7,AV.at_ 1000007 []),(8,vI v11),(10,vI v10),(11,vI v11),(14,vI v1),(15,vI (0:Int))] [(3,f7.var (Ty.arr 20 (Ty.arr 20 Ty.bool)) o3),(1000007,f7.own (Ty.d0 true r7) o1000007)])) (.ret ((o1000007,()))):=by kernel_rfl
def a99 (v1:Int) (v8:Int) (v10:Int) (v11:Int) (v14:Int) (v15:Int) (o3:List (List Bool)) (o1000007:List (Int×Int×Unit)):St:=St.mk [(1,vI v1),(2,AV.s4 226 AV.nil),(3,AV.ptr 3 []),(7,AV.at_ 1000007 []),(8,vI v8),(10,vI v10),(11,vI v11),(14,vI v14),(15,vI v15)] [(3,f7.var (Ty.arr 20 (Ty.arr 20 Ty.bool)) o3),(1000007,f7.own (Ty.d0 true r7) o1000007)]
theorem b8A (v1:Int) (v8:Int) (v10:Int) (v11:Int) (v14:Int) (v15:Int) (o3:List (List Bool)) (o1000007:List (Int×Int×Unit)):exec a4Y 1000 (.code (d9 (d8 Try.prog 225) 6).1::.inLoop (d9 (d8 Try.prog 225) 6).1::(d9 (d8 Try.prog 225) 6).2) (a99 v1 v8 v10 v11 v14 v15 o3 o1000007) =
  let q0:=(3,f7.var (Ty.arr 20 (Ty.arr 20 Ty.bool)) o3); cond (decide (v15<v14)) (.e8 ((0:Int)≤v8∧v8<(↑20:Int)) (.e8 ((0:Int)≤v15∧v15<(↑20:Int)) (cond (List.getD (List.getD o3 (Int.toNat v8) P9) (Int.toNat v15) false) (.e8 (True) (.e8 (List.length o1000007+List.length (List.set [((0:Int),(0:Int),())] (Int.toNat (↑0:Int)) (v8,v15,()))≤140737488355328∧(List.length o1000007+List.length (List.set [((0:Int),(0:Int),())] (Int.toNat (↑0:Int)) (v8,v15,())))*Ty.wb r7≤140737488355328) (.e8 (r9 IntKind.i64 (v15+(1:Int))) (.ctL (d9 (d8 Try.prog 225) 6) (St.mk [(1,vI v1),(2,AV.s4 226 AV.nil),(3,AV.ptr 3 []),(7,AV.at_ 1000007 []),(8,vI v8),(10,vI v10),(11,vI v11),(14,vI v14),(15,vI (v15+(1:Int)))] [q0,(1000007,f7.own (Ty.d0 true r7) (o1000007++List.set [((0:Int),(0:Int),())] (Int.toNat (↑0:Int)) (v8,v15,())))]))))) (.e8 (r9 IntKind.i64 (v15+(1:Int))) (.ctL (d9 (d8 Try.prog 225) 6) (St.mk [(1,vI v1),(2,AV.s4 226 AV.nil),(3,AV.ptr 3 []),(7,AV.at_ 1000007 []),(8,vI v8),(10,vI v10),(11,vI v11),(14,vI v14),(15,vI (v15+(1:Int)))] [q0,(1000007,f7.own (Ty.d0 true r7) o1000007)])))))) (.e8 (r9 IntKind.i64 (v11+(1:Int))) (.ctL (d9 (d8 Try.prog 225) 3) (St.mk [(1,vI v1),(2,AV.s4 226 AV.nil),(3,AV.ptr 3 []),(7,AV.at_ 1000007 []),(10,vI v10),(11,vI (v11+(1:Int)))] [q0,(1000007,f7.own (Ty.d0 true r7) o1000007)]))):=by kernel_rfl
theorem b2m:b0K.Valid Try.prog 225:=by
  refine w9.u7 a3k rfl rfl Try.func225 (c:=d8 Try.prog 225) rfl rfl a3j rfl ?_
  rintro ⟨(o:List (List Bool)),(n0:Int),⟨⟩,⟨⟩⟩ ⟨h0,h1⟩ -
  have h0:0≤n0:=h0
  have h1:n0≤20:=h1
  obtain ⟨n,rfl⟩:=Int.eq_ofNat_of_zero_le h0
  refine n7 (n:=1000) a3k a3j ?_
  refine g9 (c0v o (n:Int)) ?_
  refine Reach.C1 a3k a3j (fun a:Nat=>b0a (n:Int) (n:Int) (a:Int) o (T4 n (gB o) a 0)) (fun a=>a≤n)
    (fun a=>n - a) 1000 (fun _=>⟨j7 rfl,j7 rfl⟩) ?_ 0 (Nat.zero_le _)
  rintro a k1 - ih
  have k1:a≤n:=k1
  refine g9 (b8B ..) ?_
  simp only [i9,Tree.holds,true_and,true_implies,decide_eq_true_eq,decide_eq_false_iff_not,Bool.not_eq_true',Bool.not_eq_false',Int.toNat_natCast,l7,List.length_set,List.length_cons,List.length_nil]
  refine ⟨fun c=>?_,fun c=>?_⟩
  rotate_left
  · obtain rfl:a=n:=by omega
    rw [b7p]; rfl
  refine Reach.C1 a3k a3j (fun b:Nat=>a99 (n:Int) (a:Int) (n:Int) (a:Int) (n:Int) (b:Int) o (T4 n (gB o) a b)) (fun b=>b≤n)
    (fun b=>n - b) 1000 (fun _=>⟨j7 rfl,j7 rfl⟩) ?_ 0 (Nat.zero_le _)
  rintro b k2 - ih2
  have k2:b≤n:=k2
  refine g9 (b8A ..) ?_
  have hl:=b7o (n:=n) (g:=gB o) (a:=a) (b:=b) (by omega) (by omega) (by omega)
  simp only [i9,Tree.holds,true_and,true_implies,decide_eq_true_eq,decide_eq_false_iff_not,Bool.not_eq_true',Bool.not_eq_false',Int.toNat_natCast,l7,List.length_set,List.length_cons,List.length_nil,c3l]
  refine ⟨fun c2=>⟨by omega,fun _=>⟨by omega,fun _=>?_⟩⟩,fun c2=>⟨by omega,fun _=>?_⟩⟩
  · have nx:=ih2 (b+1) (by show b+1≤n; omega) (by omega)
    rw [b44] at nx
    refine ⟨fun d=>⟨by omega,fun _=>⟨by omega,fun _=>?_⟩⟩,fun d=>⟨by omega,fun _=>?_⟩⟩
    · rw [if_pos (show gB o a b=true from d)] at nx; exact nx
    · rw [if_neg (fun h:gB o a b=true=>Bool.noConfusion (Eq.trans (Eq.symm h) d))] at nx; exact nx
  · obtain rfl:b=n:=by omega
    rw [b7n]
    exact ih (a+1) (by show a+1≤b; omega) (by omega)
def b8b:w9:={ ps:=[.v Ord,.v i5],rs:=[.d0 true r7],pre:=fun x=>LE.le (α:=Int) 0 x.2.1∧LE.le (α:=Int) x.2.1 20,fn:=fun x=>(M7 (Int.toNat x.2.1) (gB x.1),()),out:=fun _=>() }
noncomputable def b8N:Env:={ P:=Try.prog,tt:=tt,F2:=[(225,b0K)],res:=[Go.ResultVar.tmp 4],rs:=[Ty.d0 true r7],ps:=[PK.v (Ty.arr 20 (Ty.arr 20 Ty.bool)),PK.v i5],D8:=[],nt:=8 }
theorem b4P:B6 b8N:=D0 w5 ⟨b2m,trivial⟩
theorem b4r:E3 b8N Try.f134:=⟨rfl,rfl⟩
theorem c4l (x0:List (List Bool)) (x1:Int):exec b8N 1000 [.code (d8 Try.prog 134)] (A5 b8b.ps ((x0,x1,()))) =
  .e8 ((0:Int)≤x1∧x1≤(20:Int)) (.ret ((M7 (Int.toNat x1) (gB x0),()))):=by kernel_rfl
theorem b5u:b8b.Valid Try.prog 134:=by
  refine w9.u7 b4P rfl rfl Try.func134 (c:=d8 Try.prog 134) rfl rfl b4r rfl ?_
  rintro ⟨(o:List (List Bool)),(n0:Int),⟨⟩⟩ ⟨h0,h1⟩ -
  refine n7 (n:=1000) b4P b4r ?_
  refine g9 (c4l o n0) ?_
  exact ⟨⟨h0,h1⟩,fun _=>rfl⟩
theorem a9r {n:Nat} {l:List s5} (h:a7y n l):N8 n l=(W5 (wk (D6 l) n),0,()):=by rw [N8,if_neg (fun c=>c (a6u h)),Int.toNat_natCast]
theorem a9s {n:Int} {l:List s5} (h:J6 n l≠0):N8 n l=(a0C,J6 n l,()):=by rw [N8,if_pos h]
end Go.Proofs.Ytekbamiaenbhjaa
