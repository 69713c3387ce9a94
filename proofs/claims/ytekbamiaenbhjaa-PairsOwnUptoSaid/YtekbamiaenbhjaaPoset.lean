/- The contracts of the package poset's functions. -/
import Derived.Test.YtekbamiaenbhjaaPoH
namespace Go.Proofs.Ytekbamiaenbhjaa
open Go.Ex
set_option maxRecDepth 100000
def a9b:w8:={ ps:=[.v Pos],rs:=[Ord],pre:=fun x=>(LE.le (α:=Int) 0 x.1.1∧LE.le (α:=Int) x.1.1 20)∧∀ q∈(show List l6 from x.1.2.1),(0≤q.1∧q.1<(show Int from x.1.1))∧(0≤q.2.1∧q.2.1<(show Int from x.1.1)),fn:=fun x=>(H7 (wk (E9 x.1.2.1) (Int.toNat x.1.1)),()),out:=fun _=>() }
noncomputable def a0C:Env:={ P:=Try.prog,tt:=tt,F7:=[],res:=[Go.ResultVar.cell 2 241],rs:=[Ty.arr 20 (Ty.arr 20 Ty.bool)],ps:=[PK.v (Ty.pair (Ty.int IntKind.i64) (Ty.pair (Ty.d0 false l5) Ty.unit))],H2:=[(3,[(1,none),(2,none),(3,none),(10,none),(11,none),(12,none)]),(8,[(1,none),(2,none),(3,none),(24,none),(25,none)]),(11,[(1,none),(2,none),(3,none),(6,none),(24,none),(25,none),(29,none),(30,none)]),(14,[(1,none),(2,none),(3,none),(6,none),(7,none),(24,none),(25,none),(29,none),(30,none),(34,none),(35,none)])],nt:=65 }
theorem a0B:D7 a0C:=G8 x5 trivial
theorem a0A:H9 a0C Try.f224:=⟨rfl,rfl⟩
theorem b76 (x0_1:Int) (x0_2_1:List (Int×Int×Unit)):exec a0C 1000 [.code (d8 Try.prog 224)] (C2 a9b.ps (((x0_1,x0_2_1,()),()))) =
  .cut (e8 (d8 Try.prog 224) 3).1 (e8 (d8 Try.prog 224) 3).2 (St.mk [(1,AV.ptr 1 []),(2,AV.ptr 2 []),(3,AV.ptr 3 []),(10,AV.val (Ty.d0 false l5) x0_2_1),(11,AV.val (Ty.int IntKind.i64) (↑(List.length x0_2_1):Int)),(12,AV.val (Ty.int IntKind.i64) (0:Int))] [(1,f7.var (Ty.pair (Ty.int IntKind.i64) (Ty.pair (Ty.d0 false l5) Ty.unit)) (x0_1,x0_2_1,())),(2,f7.var (Ty.arr 20 (Ty.arr 20 Ty.bool)) a0m),(3,f7.var (Ty.arr 20 (Ty.arr 20 Ty.bool)) a0m)]):=by kernel_rfl
def a8H (v10:List (Int×Int×Unit)) (v11:Int) (v12:Int) (o1_1:Int) (o1_2_1:List (Int×Int×Unit)) (o2:List (List Bool)) (o3:List (List Bool)):St:=St.mk [(1,AV.ptr 1 []),(2,AV.ptr 2 []),(3,AV.ptr 3 []),(10,AV.val (Ty.d0 false l5) v10),(11,AV.val (Ty.int IntKind.i64) v11),(12,AV.val (Ty.int IntKind.i64) v12)] [(1,f7.var (Ty.pair (Ty.int IntKind.i64) (Ty.pair (Ty.d0 false l5) Ty.unit)) (o1_1,o1_2_1,())),(2,f7.var (Ty.arr 20 (Ty.arr 20 Ty.bool)) o2),(3,f7.var (Ty.arr 20 (Ty.arr 20 Ty.bool)) o3)]
theorem b6A (v10:List (Int×Int×Unit)) (v11:Int) (v12:Int) (o1_1:Int) (o1_2_1:List (Int×Int×Unit)) (o2:List (List Bool)) (o3:List (List Bool)):exec a0C 1000 (.code (e8 (d8 Try.prog 224) 3).1::.inLoop (e8 (d8 Try.prog 224) 3).1::(e8 (d8 Try.prog 224) 3).2) (a8H v10 v11 v12 o1_1 o1_2_1 o2 o3) =
  cond (decide (v12<v11)) (.g9 ((0:Int)≤v12∧v12<(↑(List.length v10):Int)) (.g9 ((0:Int)≤Prod.fst (List.getD v10 (Int.toNat v12) ((0:Int),(0:Int),()))∧Prod.fst (List.getD v10 (Int.toNat v12) ((0:Int),(0:Int),()))<(↑20:Int)) (.g9 ((0:Int)≤Prod.fst (Prod.snd (List.getD v10 (Int.toNat v12) ((0:Int),(0:Int),())))∧Prod.fst (Prod.snd (List.getD v10 (Int.toNat v12) ((0:Int),(0:Int),())))<(↑20:Int)) (.g9 (B2 IntKind.i64 (v12+(1:Int))) (.cut (e8 (d8 Try.prog 224) 3).1 (e8 (d8 Try.prog 224) 3).2 (St.mk [(1,AV.ptr 1 []),(2,AV.ptr 2 []),(3,AV.ptr 3 []),(10,AV.val (Ty.d0 false l5) v10),(11,AV.val (Ty.int IntKind.i64) v11),(12,AV.val (Ty.int IntKind.i64) (v12+(1:Int)))] [(1,f7.var (Ty.pair (Ty.int IntKind.i64) (Ty.pair (Ty.d0 false l5) Ty.unit)) (o1_1,o1_2_1,())),(2,f7.var (Ty.arr 20 (Ty.arr 20 Ty.bool)) o2),(3,f7.var (Ty.arr 20 (Ty.arr 20 Ty.bool)) (List.set o3 (Int.toNat (Prod.fst (List.getD v10 (Int.toNat v12) ((0:Int),(0:Int),())))) (List.set (List.getD o3 (Int.toNat (Prod.fst (List.getD v10 (Int.toNat v12) ((0:Int),(0:Int),())))) R4) (Int.toNat (Prod.fst (Prod.snd (List.getD v10 (Int.toNat v12) ((0:Int),(0:Int),()))))) true)))])))))) (.cut (e8 (d8 Try.prog 224) 8).1 (e8 (d8 Try.prog 224) 8).2 (St.mk [(1,AV.ptr 1 []),(2,AV.ptr 2 []),(3,AV.ptr 3 []),(24,AV.val (Ty.int IntKind.i64) o1_1),(25,AV.val (Ty.int IntKind.i64) (0:Int))] [(1,f7.var (Ty.pair (Ty.int IntKind.i64) (Ty.pair (Ty.d0 false l5) Ty.unit)) (o1_1,o1_2_1,())),(2,f7.var (Ty.arr 20 (Ty.arr 20 Ty.bool)) o2),(3,f7.var (Ty.arr 20 (Ty.arr 20 Ty.bool)) o3)])):=by kernel_rfl
def a8G (v24:Int) (v25:Int) (o1_1:Int) (o1_2_1:List (Int×Int×Unit)) (o2:List (List Bool)) (o3:List (List Bool)):St:=St.mk [(1,AV.ptr 1 []),(2,AV.ptr 2 []),(3,AV.ptr 3 []),(24,AV.val (Ty.int IntKind.i64) v24),(25,AV.val (Ty.int IntKind.i64) v25)] [(1,f7.var (Ty.pair (Ty.int IntKind.i64) (Ty.pair (Ty.d0 false l5) Ty.unit)) (o1_1,o1_2_1,())),(2,f7.var (Ty.arr 20 (Ty.arr 20 Ty.bool)) o2),(3,f7.var (Ty.arr 20 (Ty.arr 20 Ty.bool)) o3)]
theorem b6z (v24:Int) (v25:Int) (o1_1:Int) (o1_2_1:List (Int×Int×Unit)) (o2:List (List Bool)) (o3:List (List Bool)):exec a0C 1000 (.code (e8 (d8 Try.prog 224) 8).1::.inLoop (e8 (d8 Try.prog 224) 8).1::(e8 (d8 Try.prog 224) 8).2) (a8G v24 v25 o1_1 o1_2_1 o2 o3) =
  cond (decide (v25<v24)) (.cut (e8 (d8 Try.prog 224) 11).1 (e8 (d8 Try.prog 224) 11).2 (St.mk [(1,AV.ptr 1 []),(2,AV.ptr 2 []),(3,AV.ptr 3 []),(6,AV.val (Ty.int IntKind.i64) v25),(24,AV.val (Ty.int IntKind.i64) v24),(25,AV.val (Ty.int IntKind.i64) v25),(29,AV.val (Ty.int IntKind.i64) o1_1),(30,AV.val (Ty.int IntKind.i64) (0:Int))] [(1,f7.var (Ty.pair (Ty.int IntKind.i64) (Ty.pair (Ty.d0 false l5) Ty.unit)) (o1_1,o1_2_1,())),(2,f7.var (Ty.arr 20 (Ty.arr 20 Ty.bool)) o2),(3,f7.var (Ty.arr 20 (Ty.arr 20 Ty.bool)) o3)])) (.ret ((o3,()))):=by kernel_rfl
def a3L (v6:Int) (v24:Int) (v25:Int) (v29:Int) (v30:Int) (o1_1:Int) (o1_2_1:List (Int×Int×Unit)) (o2:List (List Bool)) (o3:List (List Bool)):St:=St.mk [(1,AV.ptr 1 []),(2,AV.ptr 2 []),(3,AV.ptr 3 []),(6,AV.val (Ty.int IntKind.i64) v6),(24,AV.val (Ty.int IntKind.i64) v24),(25,AV.val (Ty.int IntKind.i64) v25),(29,AV.val (Ty.int IntKind.i64) v29),(30,AV.val (Ty.int IntKind.i64) v30)] [(1,f7.var (Ty.pair (Ty.int IntKind.i64) (Ty.pair (Ty.d0 false l5) Ty.unit)) (o1_1,o1_2_1,())),(2,f7.var (Ty.arr 20 (Ty.arr 20 Ty.bool)) o2),(3,f7.var (Ty.arr 20 (Ty.arr 20 Ty.bool)) o3)]
theorem b3R (v6:Int) (v24:Int) (v25:Int) (v29:Int) (v30:Int) (o1_1:Int) (o1_2_1:List (Int×Int×Unit)) (o2:List (List Bool)) (o3:List (List Bool)):exec a0C 1000 (.code (e8 (d8 Try.prog 224) 11).1::.inLoop (e8 (d8 Try.prog 224) 11).1::(e8 (d8 Try.prog 224) 11).2) (a3L v6 v24 v25 v29 v30 o1_1 o1_2_1 o2 o3) =
  cond (decide (v30<v29)) (.cut (e8 (d8 Try.prog 224) 14).1 (e8 (d8 Try.prog 224) 14).2 (St.mk [(1,AV.ptr 1 []),(2,AV.ptr 2 []),(3,AV.ptr 3 []),(6,AV.val (Ty.int IntKind.i64) v6),(7,AV.val (Ty.int IntKind.i64) v30),(24,AV.val (Ty.int IntKind.i64) v24),(25,AV.val (Ty.int IntKind.i64) v25),(29,AV.val (Ty.int IntKind.i64) v29),(30,AV.val (Ty.int IntKind.i64) v30),(34,AV.val (Ty.int IntKind.i64) o1_1),(35,AV.val (Ty.int IntKind.i64) (0:Int))] [(1,f7.var (Ty.pair (Ty.int IntKind.i64) (Ty.pair (Ty.d0 false l5) Ty.unit)) (o1_1,o1_2_1,())),(2,f7.var (Ty.arr 20 (Ty.arr 20 Ty.bool)) o2),(3,f7.var (Ty.arr 20 (Ty.arr 20 Ty.bool)) o3)])) (.g9 (B2 IntKind.i64 (v25+(1:Int))) (.cut (e8 (d8 Try.prog 224) 8).1 (e8 (d8 Try.prog 224) 8).2 (St.mk [(1,AV.ptr 1 []),(2,AV.ptr 2 []),(3,AV.ptr 3 []),(24,AV.val (Ty.int IntKind.i64) v24),(25,AV.val (Ty.int IntKind.i64) (v25+(1:Int)))] [(1,f7.var (Ty.pair (Ty.int IntKind.i64) (Ty.pair (Ty.d0 false l5) Ty.unit)) (o1_1,o1_2_1,())),(2,f7.var (Ty.arr 20 (Ty.arr 20 Ty.bool)) o2),(3,f7.var (Ty.arr 20 (Ty.arr 20 Ty.bool)) o3)]))):=by kernel_rfl
def a3K (v6:Int) (v7:Int) (v24:Int) (v25:Int) (v29:Int) (v30:Int) (v34:Int) (v35:Int) (o1_1:Int) (o1_2_1:List (Int×Int×Unit)) (o2:List (List Bool)) (o3:List (List Bool)):St:=St.mk [(1,AV.ptr 1 []),(2,AV.ptr 2 []),(3,AV.ptr 3 []),(6,AV.val (Ty.int IntKind.i64) v6),(7,AV.val (Ty.int IntKind.i64) v7),(24,AV.val (Ty.int IntKind.i64) v24),(25,AV.val (Ty.int IntKind.i64) v25),(29,AV.val (Ty.int IntKind.i64) v29),(30,AV.val (Ty.int IntKind.i64) v30),(34,AV.val (Ty.int IntKind.i64) v34),(35,AV.val (Ty.int IntKind.i64) v35)] [(1,f7.var (Ty.pair (Ty.int IntKind.i64) (Ty.pair (Ty.d0 false l5) Ty.unit)) (o1_1,o1_2_1,())),(2,f7.var (Ty.arr 20 (Ty.arr 20 Ty.bool)) o2),(3,f7.var (Ty.arr 20 (Ty.arr 20 Ty.bool)) o3)]
theorem b3Q (v6:Int) (v7:Int) (v24:Int) (v25:Int) (v29:Int) (v30:Int) (v34:Int) (v35:Int) (o1_1:Int) (o1_2_1:List (Int×Int×Unit)) (o2:List (List Bool)) (o3:List (List Bool)):exec a0C 1000 (.code (e8 (d8 Try.prog 224) 14).1::.inLoop (e8 (d8 Try.prog 224) 14).1::(e8 (d8 Try.prog 224) 14).2) (a3K v6 v7 v24 v25 v29 v30 v34 v35 o1_1 o1_2_1 o2 o3) =
  cond (decide (v35<v34)) (.g9 ((0:Int)≤v7∧v7<(↑20:Int)) (.g9 ((0:Int)≤v35∧v35<(↑20:Int)) (cond (List.getD (List.getD o3 (Int.toNat v7) R4) (Int.toNat v35) false) (.g9 ((0:Int)≤v7∧v7<(↑20:Int)) (.g9 ((0:Int)≤v35∧v35<(↑20:Int)) (.g9 (B2 IntKind.i64 (v35+(1:Int))) (.cut (e8 (d8 Try.prog 224) 14).1 (e8 (d8 Try.prog 224) 14).2 (St.mk [(1,AV.ptr 1 []),(2,AV.ptr 2 []),(3,AV.ptr 3 []),(6,AV.val (Ty.int IntKind.i64) v6),(7,AV.val (Ty.int IntKind.i64) v7),(24,AV.val (Ty.int IntKind.i64) v24),(25,AV.val (Ty.int IntKind.i64) v25),(29,AV.val (Ty.int IntKind.i64) v29),(30,AV.val (Ty.int IntKind.i64) v30),(34,AV.val (Ty.int IntKind.i64) v34),(35,AV.val (Ty.int IntKind.i64) (v35+(1:Int)))] [(1,f7.var (Ty.pair (Ty.int IntKind.i64) (Ty.pair (Ty.d0 false l5) Ty.unit)) (o1_1,o1_2_1,())),(2,f7.var (Ty.arr 20 (Ty.arr 20 Ty.bool)) o2),(3,f7.var (Ty.arr 20 (Ty.arr 20 Ty.bool)) (List.set o3 (Int.toNat v7) (List.set (List.getD o3 (Int.toNat v7) R4) (Int.toNat v35) true)))]))))) (.g9 ((0:Int)≤v7∧v7<(↑20:Int)) (.g9 ((0:Int)≤v6∧v6<(↑20:Int)) (cond (List.getD (List.getD o3 (Int.toNat v7) R4) (Int.toNat v6) false) (.g9 ((0:Int)≤v6∧v6<(↑20:Int)) (.g9 ((0:Int)≤v35∧v35<(↑20:Int)) (.g9 ((0:Int)≤v7∧v7<(↑20:Int)) (.g9 ((0:Int)≤v35∧v35<(↑20:Int)) (.g9 (B2 IntKind.i64 (v35+(1:Int))) (.cut (e8 (d8 Try.prog 224) 14).1 (e8 (d8 Try.prog 224) 14).2 (St.mk [(1,AV.ptr 1 []),(2,AV.ptr 2 []),(3,AV.ptr 3 []),(6,AV.val (Ty.int IntKind.i64) v6),(7,AV.val (Ty.int IntKind.i64) v7),(24,AV.val (Ty.int IntKind.i64) v24),(25,AV.val (Ty.int IntKind.i64) v25),(29,AV.val (Ty.int IntKind.i64) v29),(30,AV.val (Ty.int IntKind.i64) v30),(34,AV.val (Ty.int IntKind.i64) v34),(35,AV.val (Ty.int IntKind.i64) (v35+(1:Int)))] [(1,f7.var (Ty.pair (Ty.int IntKind.i64) (Ty.pair (Ty.d0 false l5) Ty.unit)) (o1_1,o1_2_1,())),(2,f7.var (Ty.arr 20 (Ty.arr 20 Ty.bool)) o2),(3,f7.var (Ty.arr 20 (Ty.arr 20 Ty.bool)) (List.set o3 (Int.toNat v7) (List.set (List.getD o3 (Int.toNat v7) R4) (Int.toNat v35) (List.getD (List.getD o3 (Int.toNat v6) R4) (Int.toNat v35) false))))]))))))) (.g9 ((0:Int)≤v7∧v7<(↑20:Int)) (.g9 ((0:Int)≤v35∧v35<(↑20:Int)) (.g9 (B2 IntKind.i64 (v35+(1:Int))) (.cut (e8 (d8 Try.prog 224) 14).1 (e8 (d8 Try.prog 224) 14).2 (St.mk [(1,AV.ptr 1 []),(2,AV.ptr 2 []),(3,AV.ptr 3 []),(6,AV.val (Ty.int IntKind.i64) v6),(7,AV.val (Ty.int IntKind.i64) v7),(24,AV.val (Ty.int IntKind.i64) v24),(25,AV.val (Ty.int IntKind.i64) v25),(29,AV.val (Ty.int IntKind.i64) v29),(30,AV.val (Ty.int IntKind.i64) v30),(34,AV.val (Ty.int IntKind.i64) v34),(35,AV.val (Ty.int IntKind.i64) (v35+(1:Int)))] [(1,f7.var (Ty.pair (Ty.int IntKind.i64) (Ty.pair (Ty.d0 false l5) Ty.unit)) (o1_1,o1_2_1,())),(2,f7.var (Ty.arr 20 (Ty.arr 20 Ty.bool)) o2),(3,f7.var (Ty.arr 20 (Ty.arr 20 Ty.bool)) (List.set o3 (Int.toNat v7) (List.set (List.getD o3 (Int.toNat v7) R4) (Int.toNat v35) false)))]))))))))))) (.g9 (B2 IntKind.i64 (v30+(1:Int))) (.cut (e8 (d8 Try.prog 224) 11).1 (e8 (d8 Try.prog 224) 11).2 (St.mk [(1,AV.ptr 1 []),(2,AV.ptr 2 []),(3,AV.ptr 3 []),(6,AV.val (Ty.int IntKind.i64) v6),(24,AV.val (Ty.int IntKind.i64) v24),(25,AV.val (Ty.int IntKind.i64) v25),(29,AV.val (Ty.int IntKind.i64) v29),(30,AV.val (Ty.int IntKind.i64) (v30+(1:Int)))] [(1,f7.var (Ty.pair (Ty.int IntKind.i64) (Ty.pair (Ty.d0 false l5) Ty.unit)) (o1_1,o1_2_1,())),(2,f7.var (Ty.arr 20 (Ty.arr 20 Ty.bool)) o2),(3,f7.var (Ty.arr 20 (Ty.arr 20 Ty.bool)) o3)]))):=by kernel_rfl
theorem b65 {l:List l6} {i:Nat} (hi:i<l.length) {A B:Nat} (hA:(l.getD i (0,0,())).1=A) (hB:(l.getD i (0,0,())).2.1=B):E9 (l.take (i+1))=fun x y=>if x=A∧y=B then true else E9 (l.take i) x y:=by
  funext x y
  rw [b6U hi (0,0,())]
  rw [E9,List.any_append,← E9]
  simp only [List.any_cons,List.any_nil,Bool.or_false,hA,hB]
  by_cases h:x=A∧y=B
  · rw [if_pos h,h.1,h.2]; simp
  · rw [if_neg h]
    have:(decide ((A:Int)=x) && decide ((B:Int)=y))=false:=by
      cases e:(decide ((A:Int)=x) && decide ((B:Int)=y)) with
      | false=>rfl
      | true =>
        simp only [Bool.and_eq_true,decide_eq_true_eq] at e
        exact absurd ⟨by omega,by omega⟩ h
    rw [this,Bool.or_false]
theorem b0L:a9b.Valid Try.prog 224:=by
  refine w8.y8 a0B rfl rfl Try.func224 (c:=d8 Try.prog 224) rfl rfl a0A rfl ?_
  rintro ⟨⟨(n0:Int),(l:List l6),⟨⟩⟩,⟨⟩⟩ ⟨⟨h0,h1⟩,hr⟩ ⟨⟨-,⟨hl,-⟩,-⟩,-⟩
  have h0:0≤n0:=h0
  have h1:n0≤20:=h1
  have hl:l.length≤9223372036854775807:=hl
  obtain ⟨n,rfl⟩:=Int.eq_ofNat_of_zero_le h0
  have hr:∀ q∈l,(0≤q.1∧q.1<(n:Int))∧(0≤q.2.1∧q.2.1<(n:Int)):=hr
  have hf:=b4a hr
  refine p8 (n:=1000) a0B a0A ?_
  refine l4 (b76 (n:Int) l) ?_
  refine Reach.J8 a0B a0A (fun i:Nat=>a8H l (l.length:Int) (i:Int) (n:Int) l a0m (H7 (E9 (l.take i)))) (fun i=>i≤l.length)
    (fun i=>l.length - i) 1000 (fun _=>⟨r9 rfl,r9 rfl⟩) ?_ 0 (Nat.zero_le _)
  rintro i k1 - ih
  have k1:i≤l.length:=k1
  refine l4 (b6A ..) ?_
  simp only [p7,Tree.holds,true_and,true_implies,decide_eq_true_eq,decide_eq_false_iff_not,Bool.not_eq_true',Bool.not_eq_false',Int.toNat_natCast,u7,List.length_set,List.length_cons,List.length_nil]
  refine ⟨fun c=>?_,fun c=>?_⟩
  · have hi:i<l.length:=by omega
    obtain ⟨⟨a1,a2⟩,b1,b2⟩:=hr _ (a2T (d:=(0,0,())) hi)
    obtain ⟨A,hA⟩:=Int.eq_ofNat_of_zero_le a1
    obtain ⟨B,hB⟩:=Int.eq_ofNat_of_zero_le b1
    have:=ih (i+1) (by show i+1≤l.length; omega) (by omega)
    rw [b65 hi hA hB] at this
    simp only [hA,hB,Int.toNat_natCast] at a2 b2 ⊢
    rw [← b4m true (by omega) (by omega)] at this
    exact ⟨by omega,fun _=>⟨by omega,fun _=>⟨by omega,fun _=>⟨by omega,fun _=>this⟩⟩⟩⟩
  rw [List.take_of_length_le (by omega)]
  refine Reach.J8 a0B a0A (fun k:Nat=>a8G (n:Int) (k:Int) (n:Int) l a0m (H7 (wk (E9 l) k))) (fun k=>k≤n)
    (fun k=>n - k) 1000 (fun _=>⟨r9 rfl,r9 rfl⟩) ?_ 0 (Nat.zero_le _)
  rintro k k2 - ih2
  have k2:k≤n:=k2
  refine l4 (b6z ..) ?_
  simp only [p7,Tree.holds,true_and,true_implies,decide_eq_true_eq,decide_eq_false_iff_not,Bool.not_eq_true',Bool.not_eq_false',Int.toNat_natCast,u7,List.length_set,List.length_cons,List.length_nil]
  refine ⟨fun c2=>?_,fun c2=>?_⟩
  rotate_left
  · obtain rfl:k=n:=by omega
    rfl
  have hk:k<n:=by omega
  suffices go:Go.Ex.Reach a0C Try.f224 (H7 (wk (E9 l) (Int.toNat (n:Int))),()) () (.code (e8 (d8 Try.prog 224) 11).1::.inLoop (e8 (d8 Try.prog 224) 11).1::(e8 (d8 Try.prog 224) 11).2) (a3L (k:Int) (n:Int) (k:Int) (n:Int) ((0:Nat):Int) (n:Int) l a0m (H7 (X2 (E9 l) k 0 0))) by
    rw [b6I] at go
    exact go
  refine Reach.J8 a0B a0A (fun a:Nat=>a3L (k:Int) (n:Int) (k:Int) (n:Int) (a:Int) (n:Int) l a0m (H7 (X2 (E9 l) k a 0))) (fun a=>a≤n)
    (fun a=>n - a) 1000 (fun _=>⟨r9 rfl,r9 rfl⟩) ?_ 0 (Nat.zero_le _)
  rintro a k3 - ih3
  have k3:a≤n:=k3
  refine l4 (b3R ..) ?_
  simp only [p7,Tree.holds,true_and,true_implies,decide_eq_true_eq,decide_eq_false_iff_not,Bool.not_eq_true',Bool.not_eq_false',Int.toNat_natCast,u7,List.length_set,List.length_cons,List.length_nil]
  refine ⟨fun c3=>?_,fun c3=>⟨by omega,fun _=>?_⟩⟩
  rotate_left
  · obtain rfl:a=n:=by omega
    rw [b9O hf]
    exact ih2 (k+1) (by show k+1≤a; omega) (by omega)
  have ha:a<n:=by omega
  refine Reach.J8 a0B a0A (fun b:Nat=>a3K (k:Int) (a:Int) (n:Int) (k:Int) (n:Int) (a:Int) (n:Int) (b:Int) (n:Int) l a0m (H7 (X2 (E9 l) k a b))) (fun b=>b≤n)
    (fun b=>n - b) 1000 (fun _=>⟨r9 rfl,r9 rfl⟩) ?_ 0 (Nat.zero_le _)
  rintro b k4 - ih4
  have k4:b≤n:=k4
  refine l4 (b3Q ..) ?_
  have gd:∀ x y:Nat,x<20→y<20→((H7 (X2 (E9 l) k a b)).getD x R4).getD y false=X2 (E9 l) k a b x y:=fun x y hx hy=>a8a hx hy
  simp only [p7,Tree.holds,true_and,true_implies,decide_eq_true_eq,decide_eq_false_iff_not,Bool.not_eq_true',Bool.not_eq_false',Int.toNat_natCast,u7,List.length_set,List.length_cons,List.length_nil]
  refine ⟨fun c4=>?_,fun c4=>⟨by omega,fun _=>?_⟩⟩
  · have hb:b<n:=by omega
    rw [gd a b (by omega) (by omega),gd a k (by omega) (by omega),gd k b (by omega) (by omega),b6J,b8b,b8c]
    have nx:=ih4 (b+1) (by show b+1≤n; omega) (by omega)
    rw [← b8a] at nx
    have nx:∀ v,wk (E9 l) (k+1) a b=v→Go.Ex.Reach a0C Try.f224 (H7 (wk (E9 l) (Int.toNat (n:Int))),()) () (.code (e8 (d8 Try.prog 224) 14).1::.inLoop (e8 (d8 Try.prog 224) 14).1::(e8 (d8 Try.prog 224) 14).2) (a3K (k:Int) (a:Int) (n:Int) (k:Int) (n:Int) (a:Int) (n:Int) ((b+1:Nat):Int) (n:Int) l a0m ((H7 (X2 (E9 l) k a b)).set a (((H7 (X2 (E9 l) k a b)).getD a R4).set b v))):=fun v hv=>by
      rw [b4m v (by omega) (by omega),← hv]; exact nx
    refine ⟨by omega,fun _=>⟨by omega,fun _=>⟨fun d1=>⟨by omega,fun _=>⟨by omega,fun _=>⟨by omega,fun _=>nx true (by rw [wk,d1,Bool.true_or])⟩⟩⟩,fun d1=>⟨by omega,fun _=>⟨by omega,fun _=>⟨fun d2=>⟨by omega,fun _=>⟨by omega,fun _=>⟨by omega,fun _=>⟨by omega,fun _=>⟨by omega,fun _=>nx (wk (E9 l) k k b) (by rw [wk,d1,d2,Bool.false_or,Bool.true_and])⟩⟩⟩⟩⟩,fun d2=>⟨by omega,fun _=>⟨by omega,fun _=>⟨by omega,fun _=>nx false (by rw [wk,d1,d2]; rfl)⟩⟩⟩⟩⟩⟩⟩⟩⟩
  · obtain rfl:b=n:=by omega
    rw [b9N hf]
    exact ih3 (a+1) (by show a+1≤b; omega) (by omega)
def N5 (n:Int) (l:List l6):List (List Bool)×Int×Unit:=if I4 n l≠0 then (a0m,I4 n l,()) else (H7 (wk (E9 l) n.toNat),0,())
def a4D:w8:={ ps:=[.v Pos],rs:=[Ord,A4],pre:=fun _=>True,fn:=fun x=>N5 x.1.1 x.1.2.1,out:=fun _=>() }
noncomputable def a4Q:Env:={ P:=Try.prog,tt:=tt,F7:=[(196,a31),(224,a9b)],res:=[Go.ResultVar.cell 2 241,Go.ResultVar.tmp 3],rs:=[Ty.arr 20 (Ty.arr 20 Ty.bool),Ty.int IntKind.i64],ps:=[PK.v (Ty.pair (Ty.int IntKind.i64) (Ty.pair (Ty.d0 false l5) Ty.unit))],H2:=[(8,[(2,none),(5,none),(30,none),(31,none)])],nt:=42 }
theorem a3J:D7 a4Q:=G8 x5 ⟨a2i,b0L,trivial⟩
theorem a3I:H9 a4Q Try.f133:=⟨rfl,rfl⟩
theorem b6p (x0_1:Int) (x0_2_1:List (Int×Int×Unit)):exec a4Q 1000 [.code (d8 Try.prog 133)] (C2 a4D.ps (((x0_1,x0_2_1,()),()))) =
  cond (decide (x0_1<(0:Int))) (.ret ((a0m,(1:Int),()))) (cond (decide ((20:Int)<x0_1)) (.ret ((a0m,(1:Int),()))) (.g9 (True) (cond (decide (B8 x0_1 x0_1 x0_2_1≠(0:Int))) (.ret ((a0m,B8 x0_1 x0_1 x0_2_1,()))) (.g9 (((0:Int)≤x0_1∧x0_1≤(20:Int))∧∀ (q:l6),q∈x0_2_1→((0:Int)≤Prod.fst q∧Prod.fst q<x0_1)∧(0:Int)≤Prod.fst (Prod.snd q)∧Prod.fst (Prod.snd q)<x0_1) (.cut (e8 (d8 Try.prog 133) 8).1 (e8 (d8 Try.prog 133) 8).2 (St.mk [(2,AV.ptr 2 []),(5,AV.ptr 5 []),(30,AV.val (Ty.int IntKind.i64) x0_1),(31,AV.val (Ty.int IntKind.i64) (0:Int))] [(2,f7.var (Ty.arr 20 (Ty.arr 20 Ty.bool)) a0m),(5,f7.var (Ty.arr 20 (Ty.arr 20 Ty.bool)) (H7 (wk (E9 x0_2_1) (Int.toNat x0_1))))])))))):=by kernel_rfl
def a6I (v30:Int) (v31:Int) (o2:List (List Bool)) (o5:List (List Bool)):St:=St.mk [(2,AV.ptr 2 []),(5,AV.ptr 5 []),(30,AV.val (Ty.int IntKind.i64) v30),(31,AV.val (Ty.int IntKind.i64) v31)] [(2,f7.var (Ty.arr 20 (Ty.arr 20 Ty.bool)) o2),(5,f7.var (Ty.arr 20 (Ty.arr 20 Ty.bool)) o5)]
theorem b3P (v30:Int) (v31:Int) (o2:List (List Bool)) (o5:List (List Bool)):exec a4Q 1000 (.code (e8 (d8 Try.prog 133) 8).1::.inLoop (e8 (d8 Try.prog 133) 8).1::(e8 (d8 Try.prog 133) 8).2) (a6I v30 v31 o2 o5) =
  cond (decide (v31<v30)) (.g9 ((0:Int)≤v31∧v31<(↑20:Int)) (.g9 ((0:Int)≤v31∧v31<(↑20:Int)) (cond (List.getD (List.getD o5 (Int.toNat v31) R4) (Int.toNat v31) false) (.ret ((a0m,(9:Int),()))) (.g9 (B2 IntKind.i64 (v31+(1:Int))) (.cut (e8 (d8 Try.prog 133) 8).1 (e8 (d8 Try.prog 133) 8).2 (St.mk [(2,AV.ptr 2 []),(5,AV.ptr 5 []),(30,AV.val (Ty.int IntKind.i64) v30),(31,AV.val (Ty.int IntKind.i64) (v31+(1:Int)))] [(2,f7.var (Ty.arr 20 (Ty.arr 20 Ty.bool)) o2),(5,f7.var (Ty.arr 20 (Ty.arr 20 Ty.bool)) o5)])))))) (.ret ((o5,(0:Int),()))):=by kernel_rfl
theorem a30:a4D.Valid Try.prog 133:=by
  refine w8.y8 a3J rfl rfl Try.func133 (c:=d8 Try.prog 133) rfl rfl a3I rfl ?_
  rintro ⟨⟨(n0:Int),(l:List l6),⟨⟩⟩,⟨⟩⟩ - -
  refine p8 (n:=1000) a3J a3I ?_
  refine l4 (b6p n0 l) ?_
  have bad:∀ e:Int,I4 n0 l=e→e≠0→((a0m,e,()):List (List Bool)×Int×Unit)=N5 n0 l:=fun e h1 h2=>by rw [N5,h1,if_pos h2]
  simp only [p7,Tree.holds,true_and,true_implies,decide_eq_true_eq,decide_eq_false_iff_not,Bool.not_eq_true',Bool.not_eq_false',Int.toNat_natCast,u7,List.length_set,List.length_cons,List.length_nil]
  refine ⟨fun h=>bad 1 (by rw [I4,if_pos (.inl h)]) (by decide),fun h1=>⟨fun h=>bad 1 (by rw [I4,if_pos (.inr h)]) (by decide),fun h2=>⟨fun h=>bad _ (by rw [I4,if_neg (by omega),if_pos h]) h,fun h3=>?_⟩⟩⟩
  obtain ⟨n,rfl⟩:=Int.eq_ofNat_of_zero_le (show 0≤n0 by omega)
  obtain ⟨_,_,_,k4⟩:=a7X (Decidable.not_not.1 h3)
  refine ⟨⟨⟨by omega,by omega⟩,k4⟩,fun _=>?_⟩
  have hp:I4 (n:Int) l=if a3i n l=true then 9 else 0:=by rw [I4,if_neg (by omega),if_neg h3]; rfl
  refine Reach.J8 a3J a3I (fun k:Nat=>a6I (n:Int) (k:Int) a0m (H7 (wk (E9 l) n))) (fun k=>k≤n∧∀ x,x<k→wk (E9 l) n x x=false)
    (fun k=>n - k) 1000 (fun _=>⟨r9 rfl,r9 rfl⟩) ?_ 0 ⟨Nat.zero_le _,fun x hx=>by omega⟩
  rintro k ⟨k2,k3⟩ - ih
  refine l4 (b3P ..) ?_
  simp only [p7,Tree.holds,true_and,true_implies,decide_eq_true_eq,decide_eq_false_iff_not,Bool.not_eq_true',Bool.not_eq_false',Int.toNat_natCast,u7,List.length_set,List.length_cons,List.length_nil]
  refine ⟨fun c=>⟨by omega,fun _=>⟨by omega,fun _=>?_⟩⟩,fun c=>?_⟩
  · have g:((H7 (wk (E9 l) n)).getD k R4).getD k false=wk (E9 l) n k k:=a8a (by omega) (by omega)
    rw [g]
    refine ⟨fun d=>bad 9 ?_ (by decide),fun d=>⟨by omega,fun _=>ih (k+1) ⟨by omega,fun x hx=>?_⟩ (by omega)⟩⟩
    · rw [hp,if_pos (show a3i n l=true from List.any_eq_true.2 ⟨k,List.mem_range.2 (by omega),d⟩)]
    · rcases Nat.lt_or_ge x k with h|h
      · exact k3 x h
      · obtain rfl:x=k:=by omega
        exact d
  · have e0:a3i n l=false:=List.any_eq_false.2 (fun x hx=>by rw [k3 x (by have:=List.mem_range.1 hx; omega)]; decide)
    have hp0:I4 (n:Int) l=0:=by rw [hp,e0]; rfl
    show ((H7 (wk (E9 l) n),(0:Int),()):List (List Bool)×Int×Unit)=N5 (n:Int) l
    rw [N5,hp0]
    rfl
def b56:w8:={ ps:=[.v A4,.v A4],rs:=[.bool],pre:=fun _=>True,fn:=fun _=>(true,()),out:=fun _=>() }
noncomputable def b6F:Env:={ P:=Try.prog,tt:=tt,F7:=[],res:=[Go.ResultVar.tmp 4],rs:=[Ty.bool],ps:=[PK.v (Ty.int IntKind.i64),PK.v (Ty.int IntKind.i64)],H2:=[],nt:=5 }
theorem b26:D7 b6F:=G8 x5 trivial
theorem b2O:H9 b6F Try.f226:=⟨rfl,rfl⟩
theorem c0K (x0:Int) (x1:Int):exec b6F 1000 [.code (d8 Try.prog 226)] (C2 b56.ps ((x0,x1,()))) =
  .ret ((true,())):=by kernel_rfl
theorem b3J:b56.Valid Try.prog 226:=by
  refine w8.y8 b26 rfl rfl Try.func226 (c:=d8 Try.prog 226) rfl rfl b2O rfl ?_
  rintro ⟨(a:Int),(b:Int),⟨⟩⟩ - -
  refine p8 (n:=1000) b26 b2O ?_
  refine l4 (c0K a b) ?_
  exact rfl
def U1 (n:Nat) (g:Nat→Nat→Bool) (a b:Nat):List l6:=(List.range a).flatMap (fun a:Nat=>((List.range n).filter (g a)).map (fun b:Nat=>((a:Int),(b:Int),())))++((List.range b).filter (g a)).map (fun b:Nat=>((a:Int),(b:Int),()))
theorem b3i {n:Nat} {g:Nat→Nat→Bool} {a b:Nat}:U1 n g a (b+1)=if g a b=true then U1 n g a b++[((a:Int),(b:Int),())] else U1 n g a b:=by
  rw [U1,List.range_succ,List.filter_append,List.map_append,← List.append_assoc,← U1]
  by_cases h:g a b=true
  · rw [if_pos h,List.filter_cons,if_pos h]; rfl
  · rw [if_neg h,List.filter_cons,if_neg h]; simp
theorem b5l {n:Nat} {g:Nat→Nat→Bool} {a:Nat}:U1 n g a n=U1 n g (a+1) 0:=by
  rw [U1,U1,List.range_succ,List.flatMap_append]
  simp
theorem b5n {n:Nat} {g:Nat→Nat→Bool}:U1 n g n 0=H5 n g:=by rw [U1,H5]; simp
theorem b5m {n:Nat} {g:Nat→Nat→Bool} {a b:Nat} (ha:a≤20) (hb:b≤20) (hn:n≤20):(U1 n g a b).length≤420:=by
  rw [U1,List.length_append,List.length_map]
  have h1:((List.range b).filter (g a)).length≤b:=Nat.le_trans (List.length_filter_le _ _) (by simp)
  have h2:∀ (l:List Nat) (f:Nat→List l6),(∀ a,(f a).length≤n)→(l.flatMap f).length≤l.length*n:=by
    intro l f hf
    induction l with
    | nil=>simp
    | cons a l ih=>rw [List.flatMap_cons,List.length_append,List.length_cons,Nat.succ_mul]; have:=hf a; omega
  have h3:=h2 (List.range a) (fun a:Nat=>((List.range n).filter (g a)).map (fun b:Nat=>((a:Int),(b:Int),()))) (fun a=>by
    rw [List.length_map]; exact Nat.le_trans (List.length_filter_le _ _) (by simp))
  rw [List.length_range] at h3
  have:a*n≤20*20:=Nat.mul_le_mul ha hn
  omega
theorem b9P:Ty.wb (Ty.pair (Ty.int IntKind.i64) (Ty.pair (Ty.int IntKind.i64) Ty.unit))=16:=rfl
def a89:w8:={ ps:=[.v Ord,.v A4,.u6 226 []],rs:=[.d0 true l5],pre:=fun x=>LE.le (α:=Int) 0 x.2.1∧LE.le (α:=Int) x.2.1 20,fn:=fun x=>(H5 (Int.toNat x.2.1) (gB x.1),()),out:=fun _=>() }
noncomputable def a36:Env:={ P:=Try.prog,tt:=tt,F7:=[(226,b56)],res:=[Go.ResultVar.tmp 6],rs:=[Ty.d0 true l5],ps:=[PK.v (Ty.arr 20 (Ty.arr 20 Ty.bool)),PK.v (Ty.int IntKind.i64),PK.u6 226 []],H2:=[(3,[(1,none),(2,none),(3,none),(7,some (Ty.d0 true l5)),(10,none),(11,none)]),(6,[(1,none),(2,none),(3,none),(7,some (Ty.d0 true l5)),(8,none),(10,none),(11,none),(14,none),(15,none)])],nt:=38 }
theorem a2y:D7 a36:=G8 x5 ⟨b3J,trivial⟩
theorem a2x:H9 a36 Try.f225:=⟨rfl,rfl⟩
theorem b71 (x0:List (List Bool)) (x1:Int):exec a36 1000 [.code (d8 Try.prog 225)] (C2 a89.ps ((x0,x1,(),()))) =
  .cut (e8 (d8 Try.prog 225) 3).1 (e8 (d8 Try.prog 225) 3).2 (St.mk [(1,AV.val (Ty.int IntKind.i64) x1),(2,AV.u6 226 AV.nil),(3,AV.ptr 3 []),(7,AV.at_ 1000007 []),(10,AV.val (Ty.int IntKind.i64) x1),(11,AV.val (Ty.int IntKind.i64) (0:Int))] [(3,f7.var (Ty.arr 20 (Ty.arr 20 Ty.bool)) x0),(1000007,f7.own (Ty.d0 true l5) [])]):=by kernel_rfl
def a8B (v1:Int) (v10:Int) (v11:Int) (o3:List (List Bool)) (o1000007:List (Int×Int×Unit)):St:=St.mk [(1,AV.val (Ty.int IntKind.i64) v1),(2,AV.u6 226 AV.nil),(3,AV.ptr 3 []),(7,AV.at_ 1000007 []),(10,AV.val (Ty.int IntKind.i64) v10),(11,AV.val (Ty.int IntKind.i64) v11)] [(3,f7.var (Ty.arr 20 (Ty.arr 20 Ty.bool)) o3),(1000007,f7.own (Ty.d0 true l5) o1000007)]
theorem b6r (v1:Int) (v10:Int) (v11:Int) (o3:List (List Bool)) (o1000007:List (Int×Int×Unit)):exec a36 1000 (.code (e8 (d8 Try.prog 225) 3).1::.inLoop (e8 (d8 Try.prog 225) 3).1::(e8 (d8 Try.prog 225) 3).2) (a8B v1 v10 v11 o3 o1000007) =
  cond (decide (v11<v10)) (.cut (e8 (d8 Try.prog 225) 6).1 (e8 (d8 Try.prog 225) 6).2 (St.mk [(1,AV.val (Ty.int IntKind.i64) v1),(2,AV.u6 226 AV.nil),(3,AV.ptr 3 []),(7,AV.at_ 1000007 []),(8,AV.val (Ty.int IntKind.i64) v11),(10,AV.val (Ty.int IntKind.i64) v10),(11,AV.val (Ty.int IntKind.i64) v11),(14,AV.val (Ty.int IntKind.i64) v1),(15,AV.val (Ty.int IntKind.i64) (0:Int))] [(3,f7.var (Ty.arr 20 (Ty.arr 20 Ty.bool)) o3),(1000007,f7.own (Ty.d0 true l5) o1000007)])) (.ret ((o1000007,()))):=by kernel_rfl
def a8A (v1:Int) (v8:Int) (v10:Int) (v11:Int) (v14:Int) (v15:Int) (o3:List (List Bool)) (o1000007:List (Int×Int×Unit)):St:=St.mk [(1,AV.val (Ty.int IntKind.i64) v1),(2,AV.u6 226 AV.nil),(3,AV.ptr 3 []),(7,AV.at_ 1000007 []),(8,AV.val (Ty.int IntKind.i64) v8),(10,AV.val (Ty.int IntKind.i64) v10),(11,AV.val (Ty.int IntKind.i64) v11),(14,AV.val (Ty.int IntKind.i64) v14),(15,AV.val (Ty.int IntKind.i64) v15)] [(3,f7.var (Ty.arr 20 (Ty.arr 20 Ty.bool)) o3),(1000007,f7.own (Ty.d0 true l5) o1000007)]
theorem b6q (v1:Int) (v8:Int) (v10:Int) (v11:Int) (v14:Int) (v15:Int) (o3:List (List Bool)) (o1000007:List (Int×Int×Unit)):exec a36 1000 (.code (e8 (d8 Try.prog 225) 6).1::.inLoop (e8 (d8 Try.prog 225) 6).1::(e8 (d8 Try.prog 225) 6).2) (a8A v1 v8 v10 v11 v14 v15 o3 o1000007) =
  cond (decide (v15<v14)) (.g9 ((0:Int)≤v8∧v8<(↑20:Int)) (.g9 ((0:Int)≤v15∧v15<(↑20:Int)) (cond (List.getD (List.getD o3 (Int.toNat v8) R4) (Int.toNat v15) false) (.g9 (True) (.g9 (List.length o1000007+List.length (List.set [((0:Int),(0:Int),())] (Int.toNat (↑0:Int)) (v8,v15,()))≤140737488355328∧(List.length o1000007+List.length (List.set [((0:Int),(0:Int),())] (Int.toNat (↑0:Int)) (v8,v15,())))*Ty.wb l5≤140737488355328) (.g9 (B2 IntKind.i64 (v15+(1:Int))) (.cut (e8 (d8 Try.prog 225) 6).1 (e8 (d8 Try.prog 225) 6).2 (St.mk [(1,AV.val (Ty.int IntKind.i64) v1),(2,AV.u6 226 AV.nil),(3,AV.ptr 3 []),(7,AV.at_ 1000007 []),(8,AV.val (Ty.int IntKind.i64) v8),(10,AV.val (Ty.int IntKind.i64) v10),(11,AV.val (Ty.int IntKind.i64) v11),(14,AV.val (Ty.int IntKind.i64) v14),(15,AV.val (Ty.int IntKind.i64) (v15+(1:Int)))] [(3,f7.var (Ty.arr 20 (Ty.arr 20 Ty.bool)) o3),(1000007,f7.own (Ty.d0 true l5) (o1000007++List.set [((0:Int),(0:Int),())] (Int.toNat (↑0:Int)) (v8,v15,())))]))))) (.g9 (B2 IntKind.i64 (v15+(1:Int))) (.cut (e8 (d8 Try.prog 225) 6).1 (e8 (d8 Try.prog 225) 6).2 (St.mk [(1,AV.val (Ty.int IntKind.i64) v1),(2,AV.u6 226 AV.nil),(3,AV.ptr 3 []),(7,AV.at_ 1000007 []),(8,AV.val (Ty.int IntKind.i64) v8),(10,AV.val (Ty.int IntKind.i64) v10),(11,AV.val (Ty.int IntKind.i64) v11),(14,AV.val (Ty.int IntKind.i64) v14),(15,AV.val (Ty.int IntKind.i64) (v15+(1:Int)))] [(3,f7.var (Ty.arr 20 (Ty.arr 20 Ty.bool)) o3),(1000007,f7.own (Ty.d0 true l5) o1000007)])))))) (.g9 (B2 IntKind.i64 (v11+(1:Int))) (.cut (e8 (d8 Try.prog 225) 3).1 (e8 (d8 Try.prog 225) 3).2 (St.mk [(1,AV.val (Ty.int IntKind.i64) v1),(2,AV.u6 226 AV.nil),(3,AV.ptr 3 []),(7,AV.at_ 1000007 []),(10,AV.val (Ty.int IntKind.i64) v10),(11,AV.val (Ty.int IntKind.i64) (v11+(1:Int)))] [(3,f7.var (Ty.arr 20 (Ty.arr 20 Ty.bool)) o3),(1000007,f7.own (Ty.d0 true l5) o1000007)]))):=by kernel_rfl
theorem b0G:a89.Valid Try.prog 225:=by
  refine w8.y8 a2y rfl rfl Try.func225 (c:=d8 Try.prog 225) rfl rfl a2x rfl ?_
  rintro ⟨(o:List (List Bool)),(n0:Int),⟨⟩,⟨⟩⟩ ⟨h0,h1⟩ -
  have h0:0≤n0:=h0
  have h1:n0≤20:=h1
  obtain ⟨n,rfl⟩:=Int.eq_ofNat_of_zero_le h0
  refine p8 (n:=1000) a2y a2x ?_
  refine l4 (b71 o (n:Int)) ?_
  refine Reach.J8 a2y a2x (fun a:Nat=>a8B (n:Int) (n:Int) (a:Int) o (U1 n (gB o) a 0)) (fun a=>a≤n)
    (fun a=>n - a) 1000 (fun _=>⟨r9 rfl,r9 rfl⟩) ?_ 0 (Nat.zero_le _)
  rintro a k1 - ih
  have k1:a≤n:=k1
  refine l4 (b6r ..) ?_
  simp only [p7,Tree.holds,true_and,true_implies,decide_eq_true_eq,decide_eq_false_iff_not,Bool.not_eq_true',Bool.not_eq_false',Int.toNat_natCast,u7,List.length_set,List.length_cons,List.length_nil]
  refine ⟨fun c=>?_,fun c=>?_⟩
  rotate_left
  · obtain rfl:a=n:=by omega
    rw [b5n]; rfl
  refine Reach.J8 a2y a2x (fun b:Nat=>a8A (n:Int) (a:Int) (n:Int) (a:Int) (n:Int) (b:Int) o (U1 n (gB o) a b)) (fun b=>b≤n)
    (fun b=>n - b) 1000 (fun _=>⟨r9 rfl,r9 rfl⟩) ?_ 0 (Nat.zero_le _)
  rintro b k2 - ih2
  have k2:b≤n:=k2
  refine l4 (b6q ..) ?_
  have hl:=b5m (n:=n) (g:=gB o) (a:=a) (b:=b) (by omega) (by omega) (by omega)
  simp only [p7,Tree.holds,true_and,true_implies,decide_eq_true_eq,decide_eq_false_iff_not,Bool.not_eq_true',Bool.not_eq_false',Int.toNat_natCast,u7,List.length_set,List.length_cons,List.length_nil,b9P]
  refine ⟨fun c2=>⟨by omega,fun _=>⟨by omega,fun _=>?_⟩⟩,fun c2=>⟨by omega,fun _=>?_⟩⟩
  · have nx:=ih2 (b+1) (by show b+1≤n; omega) (by omega)
    rw [b3i] at nx
    refine ⟨fun d=>⟨by omega,fun _=>⟨by omega,fun _=>?_⟩⟩,fun d=>⟨by omega,fun _=>?_⟩⟩
    · rw [if_pos (show gB o a b=true from d)] at nx; exact nx
    · rw [if_neg (fun h:gB o a b=true=>Bool.noConfusion (Eq.trans (Eq.symm h) d))] at nx; exact nx
  · obtain rfl:b=n:=by omega
    rw [b5l]
    exact ih (a+1) (by show a+1≤b; omega) (by omega)
def b03:w8:={ ps:=[.v Ord,.v A4],rs:=[.d0 true l5],pre:=fun x=>LE.le (α:=Int) 0 x.2.1∧LE.le (α:=Int) x.2.1 20,fn:=fun x=>(H5 (Int.toNat x.2.1) (gB x.1),()),out:=fun _=>() }
noncomputable def b6E:Env:={ P:=Try.prog,tt:=tt,F7:=[(225,a89)],res:=[Go.ResultVar.tmp 4],rs:=[Ty.d0 true l5],ps:=[PK.v (Ty.arr 20 (Ty.arr 20 Ty.bool)),PK.v (Ty.int IntKind.i64)],H2:=[],nt:=8 }
theorem b25:D7 b6E:=G8 x5 ⟨b0G,trivial⟩
theorem b2N:H9 b6E Try.f134:=⟨rfl,rfl⟩
theorem c0J (x0:List (List Bool)) (x1:Int):exec b6E 1000 [.code (d8 Try.prog 134)] (C2 b03.ps ((x0,x1,()))) =
  .g9 ((0:Int)≤x1∧x1≤(20:Int)) (.ret ((H5 (Int.toNat x1) (gB x0),()))):=by kernel_rfl
theorem a6B:b03.Valid Try.prog 134:=by
  refine w8.y8 b25 rfl rfl Try.func134 (c:=d8 Try.prog 134) rfl rfl b2N rfl ?_
  rintro ⟨(o:List (List Bool)),(n0:Int),⟨⟩⟩ ⟨h0,h1⟩ -
  refine p8 (n:=1000) b25 b2N ?_
  refine l4 (c0J o n0) ?_
  exact ⟨⟨h0,h1⟩,fun _=>rfl⟩
theorem a7N {n:Nat} {l:List l6} (h:a8s n l):N5 n l=(H7 (wk (E9 l) n),0,()):=by rw [N5,if_neg (fun c=>c (a9I h)),Int.toNat_natCast]
theorem a7O {n:Int} {l:List l6} (h:I4 n l≠0):N5 n l=(a0m,I4 n l,()):=by rw [N5,if_pos h]
def a0N (n:Int) (l:List l6):List l6×Int×Unit:=if I4 n l≠0 then ([],I4 n l,()) else (H5 n.toNat (wk (E9 l) n.toNat),0,())
theorem b7F {n:Nat} {l:List l6} (h:a8s n l):a0N n l=(H5 n (wk (E9 l) n),0,()):=by rw [a0N,if_neg (fun c=>c (a9I h)),Int.toNat_natCast]
def a9c:w8:={ ps:=[.v Pos],rs:=[.d0 true l5,A4],pre:=fun _=>True,fn:=fun x=>a0N x.1.1 x.1.2.1,out:=fun _=>() }
noncomputable def a9s:Env:={ P:=Try.prog,tt:=tt,F7:=[(133,a4D),(134,b03)],res:=[Go.ResultVar.tmp 2,Go.ResultVar.tmp 3],rs:=[Ty.d0 true l5,Ty.int IntKind.i64],ps:=[PK.v (Ty.pair (Ty.int IntKind.i64) (Ty.pair (Ty.d0 false l5) Ty.unit))],H2:=[],nt:=18 }
theorem a8I:D7 a9s:=G8 x5 ⟨a30,a6B,trivial⟩
theorem a8v:H9 a9s Try.f99:=⟨rfl,rfl⟩
theorem b77 (x0_1:Int) (x0_2_1:List (Int×Int×Unit)):exec a9s 1000 [.code (d8 Try.prog 99)] (C2 a9c.ps (((x0_1,x0_2_1,()),()))) =
  .g9 (True) (cond (decide (Prod.fst (Prod.snd (N5 x0_1 x0_2_1))≠(0:Int))) (.ret (([],Prod.fst (Prod.snd (N5 x0_1 x0_2_1)),()))) (.g9 ((0:Int)≤x0_1∧x0_1≤(20:Int)) (.ret ((H5 (Int.toNat x0_1) (gB (Prod.fst (N5 x0_1 x0_2_1))),(0:Int),()))))):=by kernel_rfl
theorem b0M:a9c.Valid Try.prog 99:=by
  refine w8.y8 a8I rfl rfl Try.func99 (c:=d8 Try.prog 99) rfl rfl a8v rfl ?_
  rintro ⟨⟨(n0:Int),(l:List l6),⟨⟩⟩,⟨⟩⟩ - -
  refine p8 (n:=1000) a8I a8v ?_
  refine l4 (b77 n0 l) ?_
  by_cases h:I4 n0 l=0
  · obtain ⟨n,rfl,hp⟩:=a9H h
    have hn:=hp.n20
    rw [a7N hp]
    simp only [p7,Tree.holds,true_and,true_implies,decide_eq_true_eq,decide_eq_false_iff_not,Bool.not_eq_true',Bool.not_eq_false',Int.toNat_natCast,u7,List.length_set,List.length_cons,List.length_nil]
    refine ⟨fun c=>absurd rfl c,fun _=>⟨by omega,fun _=>?_⟩⟩
    show ((H5 n (gB (H7 (wk (E9 l) n))),(0:Int),()):List l6×Int×Unit)=a0N n l
    rw [b7F hp,a5g (fun a b ha hb=>a8a (by omega) (by omega))]
  · rw [a7O h]
    simp only [p7,Tree.holds,true_and,true_implies,decide_eq_true_eq,decide_eq_false_iff_not,Bool.not_eq_true',Bool.not_eq_false',Int.toNat_natCast,u7,List.length_set,List.length_cons,List.length_nil]
    refine ⟨fun _=>?_,fun c=>absurd h c⟩
    show (([],I4 n0 l,()):List l6×Int×Unit)=a0N n0 l
    rw [a0N,if_pos h]
end Go.Proofs.Ytekbamiaenbhjaa
