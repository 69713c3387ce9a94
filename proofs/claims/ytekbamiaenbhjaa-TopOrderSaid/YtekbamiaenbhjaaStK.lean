/- stamp.Total: the events in the order of their stamps. StampTotal. No condition. -/
import Derived.Test.YtekbamiaenbhjaaStJ
import Derived.Test.YtekbamiaenbhjaaHist2
namespace Go.Proofs.Ytekbamiaenbhjaa
open Go.Ex Go.Sort
set_option maxRecDepth 100000
def Q6 (n:Nat):List Int:=(List.range n).map (fun (i:Nat)=>(i:Int))
def K8 (h:List y8):List Int×Int×Unit:=if t8 h≠0 then ([],t8 h,()) else (x7 (A4 (stamps h).1 h) (Q6 h.length),0,())
def b3J:w9:={ ps:=[.v Es],rs:=[Is,i5],pre:=fun _=>True,fn:=fun x=>K8 x.1,out:=fun _=>() }
noncomputable def a93:Env:={ P:=Try.prog,tt:=tt,F2:=[(71,b0J),(129,b3N)],res:=[Go.ResultVar.tmp 2,Go.ResultVar.tmp 3],rs:=[Ty.d0 true i5,Ty.int IntKind.i64],ps:=[PK.v (Ty.d0 false r8)],D8:=[(6,[(1,none),(4,none),(6,some Is),(17,none),(18,none)])],nt:=30 }
theorem a63:B6 a93:=D0 w5 ⟨b2l,b3M,trivial⟩
theorem a60:E3 a93 Try.f28:=⟨rfl,rfl⟩
theorem c2e (x0:List (Int×Int×Int×Unit)):exec a93 1000 [.code (d8 Try.prog 28)] (A5 b3J.ps ((x0,()))) =
  .e8 (True) (cond (decide (Prod.fst (Prod.snd (stamps x0))≠(0:Int))) (.ret (([],Prod.fst (Prod.snd (stamps x0)),()))) (.ctL (d9 (d8 Try.prog 28) 6) (St.mk [(1,AV.ptr 1 []),(4,AV.ptr 4 []),(6,AV.at_ 1000006 []),(17,vI (↑(List.length x0):Int)),(18,vI (0:Int))] [(1,f7.var (Ty.d0 false r8) x0),(4,f7.var Is (Prod.fst (stamps x0))),(1000006,f7.own Is [])]))):=by kernel_rfl
def b1P (v17:Int) (v18:Int) (o1:List (Int×Int×Int×Unit)) (o4:List Int) (o1000006:List Int):St:=St.mk [(1,AV.ptr 1 []),(4,AV.ptr 4 []),(6,AV.at_ 1000006 []),(17,vI v17),(18,vI v18)] [(1,f7.var (Ty.d0 false r8) o1),(4,f7.var Is o4),(1000006,f7.own Is o1000006)]
theorem c0n (v17:Int) (v18:Int) (o1:List (Int×Int×Int×Unit)) (o4:List Int) (o1000006:List Int):exec a93 1000 (.code (d9 (d8 Try.prog 28) 6).1::.inLoop (d9 (d8 Try.prog 28) 6).1::(d9 (d8 Try.prog 28) 6).2) (b1P v17 v18 o1 o4 o1000006) =
  cond (decide (v18<v17)) (.e8 (List.length o1000006+List.length (List.set [(0:Int)] (Int.toNat (↑0:Int)) v18)≤140737488355328∧(List.length o1000006+List.length (List.set [(0:Int)] (Int.toNat (↑0:Int)) v18))*Ty.wb i5≤140737488355328) (.e8 (r9 IntKind.i64 (v18+(1:Int))) (.ctL (d9 (d8 Try.prog 28) 6) (St.mk [(1,AV.ptr 1 []),(4,AV.ptr 4 []),(6,AV.at_ 1000006 []),(17,vI v17),(18,vI (v18+(1:Int)))] [(1,f7.var (Ty.d0 false r8) o1),(4,f7.var Is o4),(1000006,f7.own Is (o1000006++List.set [(0:Int)] (Int.toNat (↑0:Int)) v18))])))) (.e8 (List.length o1000006<1000000∧OkL o4 o1 o1000006) (.ret ((x7 (A4 o4 o1) o1000006,(0:Int),())))):=by kernel_rfl
theorem a28 {n:Nat}:(Q6 n).length=n:=by simp [Q6]
theorem a1K {n:Nat} {x:Int}:x∈Q6 n↔0≤x∧x<(n:Int):=by
  simp only [Q6,List.mem_map,List.mem_range]
  constructor
  · rintro ⟨k,hk,rfl⟩; omega
  · rintro ⟨h1,h2⟩; exact ⟨x.toNat,by omega,by omega⟩
theorem b27 {n:Nat}:(Q6 n).Nodup:=by
  rw [Q6,List.Nodup,List.pairwise_map]
  exact List.nodup_range.imp (fun h e=>h (by omega))
theorem b41 {n:Nat}:Q6 (n+1)=Q6 n++[(n:Int)]:=by simp [Q6,List.range_succ]
theorem b9u {h:List y8} (hh:t8 h=0):OkL (stamps h).1 h (Q6 h.length):=by
  obtain ⟨s1,-,-⟩:=a2m hh
  have hl:=(U9 hh).1
  refine ⟨s1,⟨by rw [a28]; omega,fun x hx=>by rw [a1K] at hx; omega⟩,?_⟩
  intro a ha b hb e1 e2
  rw [a1K] at ha hb
  simp only [A4,decide_eq_false_iff_not,a4D] at e1 e2
  have hp:(h.getD a.toNat V5).1=(h.getD b.toNat V5).1:=by omega
  have hs:(stamps h).1.getD a.toNat 0=(stamps h).1.getD b.toNat 0:=by omega
  have hp2:pr h a.toNat=pr h b.toNat:=congrArg Int.toNat hp
  rcases Nat.lt_trichotomy a.toNat b.toNat with c|c|c
  · have:=a8m hh c (by omega) hp2; omega
  · omega
  · have:=a8m hh c (by omega) hp2.symm; omega
theorem b3I:b3J.Valid Try.prog 28:=by
  refine w9.u7 a63 rfl rfl Try.func28 (c:=d8 Try.prog 28) rfl rfl a60 rfl ?_
  rintro ⟨(h:List y8),⟨⟩⟩ - ⟨⟨hl,-⟩,-⟩
  refine n7 (n:=1000) a63 a60 ?_
  refine g9 (c2e h) ?_
  have hd:K8 h=if t8 h≠0 then ([],t8 h,()) else (x7 (A4 (stamps h).1 h) (Q6 h.length),0,()):=rfl
  have he:(stamps h).2.1=t8 h:=b64
  rw [he]
  simp only [i9,Tree.holds,true_and,true_implies,decide_eq_true_eq,decide_eq_false_iff_not,Bool.not_eq_true',Bool.not_eq_false',Int.toNat_natCast,l7,List.length_set,List.length_cons,List.length_nil]
  refine ⟨fun a=>?_,fun a=>?_⟩
  · show (([],t8 h,()):List Int×Int×Unit)=K8 h
    rw [hd,if_pos a]
  have hh:=Decidable.not_not.1 a
  have hok:=b9u hh
  have hl:=(U9 hh).1
  rw [if_neg a] at hd
  generalize (stamps h).1=S at *
  refine Reach.C1 a63 a60 (fun i:Nat=>b1P (h.length:Int) (i:Int) h S (Q6 i)) (fun i=>i≤h.length) (fun i=>h.length - i) 1000 (fun _=>⟨j7 rfl,j7 rfl⟩) ?_ 0 (Nat.zero_le _)
  rintro i (k1:i≤h.length) - ih
  refine g9 (c0n ..) ?_
  have e1:List.set [(0:Int)] (Int.toNat (0:Int)) (i:Int)=[(i:Int)]:=rfl
  have w8:Ty.wb i5=8:=rfl
  simp only [i9,Tree.holds,true_and,true_implies,decide_eq_true_eq,decide_eq_false_iff_not,Bool.not_eq_true',Bool.not_eq_false',Int.toNat_natCast,l7,List.length_set,List.length_cons,List.length_nil,e1,a28,w8]
  refine ⟨fun c=>⟨⟨by omega,by omega⟩,fun _=>⟨by omega,fun _=>?_⟩⟩,fun c=>?_⟩
  · have next:=ih (i+1) (by omega) (by omega)
    rw [b41] at next
    exact next
  · obtain rfl:i=h.length:=by omega
    refine ⟨⟨by omega,hok⟩,fun _=>?_⟩
    rw [hd]; rfl
theorem c1b {T:List Int} (h:T.Nodup) {i j:Nat} (hi:i<T.length) (hj:j<T.length) (e:T.getD j 0=T.getD i 0):j=i:=by
  have g:∀ k (hk:k<T.length),T.getD k 0=T[k]:=fun k hk=>by rw [List.getD_eq_getElem?_getD,List.getElem?_eq_getElem hk]; rfl
  rw [g j hj,g i hi] at e
  rcases Nat.lt_trichotomy j i with c|c|c
  · exact absurd e (List.pairwise_iff_getElem.1 h j i hj hi c)
  · exact c
  · exact absurd e.symm (List.pairwise_iff_getElem.1 h i j hi hj c)
end Go.Proofs.Ytekbamiaenbhjaa
