/- poset.Order. No condition. -/
import Derived.Test.YtekbamiaenbhjaaPosX
namespace Go.Proofs.Ytekbamiaenbhjaa
open Go.Ex
set_option maxRecDepth 100000
def a02 (R:Nat→Nat→Bool) (n:Nat) (out:List Int) (b:Nat):Bool:=!decide ((b:Int)∈out) && (List.range n).all (fun a=>!R a b || decide ((a:Int)∈out))
def a0M (R:Nat→Nat→Bool) (n:Nat) (out:List Int):Nat→Nat→Option Nat
  | 0,_=>none
  | k+1,b=>if a02 R n out b=true then some b else a0M R n out k (b+1)
def Z7 (R:Nat→Nat→Bool) (n:Nat):Nat→List Int→List Int
  | 0,out=>out
  | k+1,out=>match a0M R n out n 0 with
    | some b=>Z7 R n k (out++[(b:Int)])
    | none=>out
theorem a9z {R:Nat→Nat→Bool} {n:Nat} {out:List Int}:∀ {k b:Nat},a0M R n out k b=none→∀ c,b≤c→c<b+k→a02 R n out c=false
  | 0,b,_,c,h1,h2=>by omega
  | k+1,b,h,c,h1,h2=>by
    rw [a0M] at h
    split at h
    · cases h
    · rename_i hr
      by_cases e:c=b
      · subst e; exact Bool.not_eq_true _ |>.mp hr
      · exact a9z h c (by omega) (by omega)
theorem a9y {R:Nat→Nat→Bool} {n:Nat} {out:List Int}:∀ {k b c:Nat},a0M R n out k b=some c→(b≤c∧c<b+k)∧a02 R n out c=true
  | 0,b,c,h=>by cases h
  | k+1,b,c,h=>by
    rw [a0M] at h
    split at h
    · rename_i hr; cases h; exact ⟨⟨by omega,by omega⟩,hr⟩
    · obtain ⟨h1,h2⟩:=a9y h
      exact ⟨⟨by omega,by omega⟩,h2⟩
theorem b26 {R:Nat→Nat→Bool} {n:Nat} {out:List Int} (ht:∀ x y z,R x y=true→R y z=true→R x z=true) (hi:∀ x,R x x=false):∀ k b:Nat,(before R n b).length<k→b<n→(b:Int)∉out→∃ c,c<n∧a02 R n out c=true
  | 0,b,h,_,_=>by omega
  | k+1,b,h,hb,hno=>by
    by_cases hr:a02 R n out b=true
    · exact ⟨b,hb,hr⟩
    · rw [a02,decide_eq_false hno,Bool.not_false,Bool.true_and,List.all_eq_true] at hr
      obtain ⟨a,ha⟩:=Classical.not_forall.1 hr
      obtain ⟨h1,h2⟩:=Classical.not_imp.1 ha
      have h1:=List.mem_range.1 h1
      simp only [Bool.or_eq_true,Bool.not_eq_true',decide_eq_true_eq,not_or,Bool.not_eq_false] at h2
      have:=b1B ht hi h1 h2.1
      exact b26 ht hi k a (by omega) h1 h2.2
theorem b6a {R:Nat→Nat→Bool} {n:Nat} {out:List Int} (ht:∀ x y z,R x y=true→R y z=true→R x z=true) (hi:∀ x,R x x=false) (hl:out.length<n):a0M R n out n 0≠none:=by
  intro h
  have h1:∃ b,b<n∧(b:Int)∉out:=by
    refine Classical.byContradiction (fun hno=>?_)
    have:=a0x (l:=(List.range n).map (fun a:Nat=>(a:Int))) (S:=out) (by
      rw [List.nodup_iff_pairwise_ne,List.pairwise_map]
      exact List.pairwise_lt_range.imp (fun h=>by omega)) (fun x hx=>by
      obtain ⟨a,ha,rfl⟩:=List.mem_map.1 hx
      exact Classical.byContradiction (fun hh=>hno ⟨a,List.mem_range.1 ha,hh⟩))
    rw [List.length_map,List.length_range] at this
    omega
  obtain ⟨b,hb,hno⟩:=h1
  obtain ⟨c,hc,hr⟩:=b26 ht hi (n:=n) (out:=out) _ b (Nat.lt_succ_self _) hb hno
  rw [a9z h c (by omega) (by omega)] at hr
  cases hr
def a1I (n:Int) (l:List s5):List Int×Int×Unit:=if J6 n l≠0 then ([],J6 n l,()) else (Z7 (wk (D6 l) n.toNat) n.toNat n.toNat [],0,())
def b3R:w9:={ ps:=[.v Pos],rs:=[.d0 true i5,i5],pre:=fun _=>True,fn:=fun x=>a1I x.1.1 x.1.2.1,out:=fun _=>() }
noncomputable def a4Z:Env:={ P:=Try.prog,tt:=tt,F2:=[(133,a5C),(48,b34)],res:=[Go.ResultVar.tmp 2,Go.ResultVar.tmp 3],rs:=[Ty.d0 true i5,Ty.int IntKind.i64],ps:=[PK.v (Ty.pair i5 (Ty.pair (Ty.d0 false r7) Ty.unit))],D8:=[(5,[(1,none),(4,none),(6,some Is)]),(7,[(1,none),(4,none),(6,some Is),(24,none),(25,none)]),(12,[(1,none),(4,none),(6,some Is),(7,none),(8,none),(24,none),(25,none),(32,none),(33,none)])],nt:=58 }
theorem a2O:B6 a4Z:=D0 w5 ⟨a4U,b33,trivial⟩
theorem a2N:E3 a4Z Try.f30:=⟨rfl,rfl⟩
theorem c2p (x0_1:Int) (x0_2_1:List (Int×Int×Unit)):exec a4Z 1000 [.code (d8 Try.prog 30)] (A5 b3R.ps (((x0_1,x0_2_1,()),()))) =
  .e8 (True) (cond (decide (Prod.fst (Prod.snd (N8 x0_1 x0_2_1))≠(0:Int))) (.ret (([],Prod.fst (Prod.snd (N8 x0_1 x0_2_1)),()))) (.ctL (d9 (d8 Try.prog 30) 5) (St.mk [(1,AV.ptr 1 []),(4,AV.ptr 4 []),(6,AV.at_ 1000006 [])] [(1,f7.var (Ty.pair i5 (Ty.pair (Ty.d0 false r7) Ty.unit)) (x0_1,x0_2_1,())),(4,f7.var (Ty.arr 20 (Ty.arr 20 Ty.bool)) (Prod.fst (N8 x0_1 x0_2_1))),(1000006,f7.own Is [])]))):=by kernel_rfl
def b1U (o1_1:Int) (o1_2_1:List (Int×Int×Unit)) (o4:List (List Bool)) (o1000006:List Int):St:=St.mk [(1,AV.ptr 1 []),(4,AV.ptr 4 []),(6,AV.at_ 1000006 [])] [(1,f7.var (Ty.pair i5 (Ty.pair (Ty.d0 false r7) Ty.unit)) (o1_1,o1_2_1,())),(4,f7.var (Ty.arr 20 (Ty.arr 20 Ty.bool)) o4),(1000006,f7.own Is o1000006)]
theorem c0x (o1_1:Int) (o1_2_1:List (Int×Int×Unit)) (o4:List (List Bool)) (o1000006:List Int):exec a4Z 1000 (.code (d9 (d8 Try.prog 30) 5).1::.inLoop (d9 (d8 Try.prog 30) 5).1::(d9 (d8 Try.prog 30) 5).2) (b1U o1_1 o1_2_1 o4 o1000006) =
  cond (decide ((↑(List.length o1000006):Int)<o1_1)) (.ctL (d9 (d8 Try.prog 30) 7) (St.mk [(1,AV.ptr 1 []),(4,AV.ptr 4 []),(6,AV.at_ 1000006 []),(24,vI o1_1),(25,vI (0:Int))] [(1,f7.var (Ty.pair i5 (Ty.pair (Ty.d0 false r7) Ty.unit)) (o1_1,o1_2_1,())),(4,f7.var (Ty.arr 20 (Ty.arr 20 Ty.bool)) o4),(1000006,f7.own Is o1000006)])) (.ret ((o1000006,(0:Int),()))):=by kernel_rfl
def b1T (v24:Int) (v25:Int) (o1_1:Int) (o1_2_1:List (Int×Int×Unit)) (o4:List (List Bool)) (o1000006:List Int):St:=St.mk [(1,AV.ptr 1 []),(4,AV.ptr 4 []),(6,AV.at_ 1000006 []),(24,vI v24),(25,vI v25)] [(1,f7.var (Ty.pair i5 (Ty.pair (Ty.d0 false r7) Ty.unit)) (o1_1,o1_2_1,())),(4,f7.var (Ty.arr 20 (Ty.arr 20 Ty.bool)) o4),(1000006,f7.own Is o1000006)]
theorem c0w (v24:Int) (v25:Int) (o1_1:Int) (o1_2_1:List (Int×Int×Unit)) (o4:List (List Bool)) (o1000006:List Int):exec a4Z 1000 (.code (d9 (d8 Try.prog 30) 7).1::.inLoop (d9 (d8 Try.prog 30) 7).1::(d9 (d8 Try.prog 30) 7).2) (b1T v24 v25 o1_1 o1_2_1 o4 o1000006) =
  cond (decide (v25<v24)) (.e8 (True) (cond (decide (v25∈o1000006)) (.e8 (r9 IntKind.i64 (v25+(1:Int))) (.ctL (d9 (d8 Try.prog 30) 7) (St.mk [(1,AV.ptr 1 []),(4,AV.ptr 4 []),(6,AV.at_ 1000006 []),(24,vI v24),(25,vI (v25+(1:Int)))] [(1,f7.var (Ty.pair i5 (Ty.pair (Ty.d0 false r7) Ty.unit)) (o1_1,o1_2_1,())),(4,f7.var (Ty.arr 20 (Ty.arr 20 Ty.bool)) o4),(1000006,f7.own Is o1000006)]))) (.ctL (d9 (d8 Try.prog 30) 12) (St.mk [(1,AV.ptr 1 []),(4,AV.ptr 4 []),(6,AV.at_ 1000006 []),(7,vI v25),(8,AV.val Ty.bool true),(24,vI v24),(25,vI v25),(32,vI o1_1),(33,vI (0:Int))] [(1,f7.var (Ty.pair i5 (Ty.pair (Ty.d0 false r7) Ty.unit)) (o1_1,o1_2_1,())),(4,f7.var (Ty.arr 20 (Ty.arr 20 Ty.bool)) o4),(1000006,f7.own Is o1000006)])))) (.ctL (d9 (d8 Try.prog 30) 5) (St.mk [(1,AV.ptr 1 []),(4,AV.ptr 4 []),(6,AV.at_ 1000006 [])] [(1,f7.var (Ty.pair i5 (Ty.pair (Ty.d0 false r7) Ty.unit)) (o1_1,o1_2_1,())),(4,f7.var (Ty.arr 20 (Ty.arr 20 Ty.bool)) o4),(1000006,f7.own Is o1000006)])):=by kernel_rfl
def b0b (v7:Int) (v8:Bool) (v24:Int) (v25:Int) (v32:Int) (v33:Int) (o1_1:Int) (o1_2_1:List (Int×Int×Unit)) (o4:List (List Bool)) (o1000006:List Int):St:=St.mk [(1,AV.ptr 1 []),(4,AV.ptr 4 []),(6,AV.at_ 1000006 []),(7,vI v7),(8,AV.val Ty.bool v8),(24,vI v24),(25,vI v25),(32,vI v32),(33,vI v33)] [(1,f7.var (Ty.pair i5 (Ty.pair (Ty.d0 false r7) Ty.unit)) (o1_1,o1_2_1,())),(4,f7.var (Ty.arr 20 (Ty.arr 20 Ty.bool)) o4),(1000006,f7.own Is o1000006)]
theorem b8C (v7:Int) (v8:Bool) (v24:Int) (v25:Int) (v32:Int) (v33:Int) (o1_1:Int) (o1_2_1:List (Int×Int×Unit)) (o4:List (List Bool)) (o1000006:List Int):exec a4Z 1000 (.code (d9 (d8 Try.prog 30) 12).1::.inLoop (d9 (d8 Try.prog 30) 12).1::(d9 (d8 Try.prog 30) 12).2) (b0b v7 v8 v24 v25 v32 v33 o1_1 o1_2_1 o4 o1000006) =
  let q0:=(1,f7.var (Ty.pair i5 (Ty.pair (Ty.d0 false r7) Ty.unit)) (o1_1,o1_2_1,())); let q1:=(4,f7.var (Ty.arr 20 (Ty.arr 20 Ty.bool)) o4); let q2:=(24,vI v24); let q3:=(33,vI (v33+(1:Int))); cond (decide (v33<v32)) (cond (v8) (.e8 ((0:Int)≤v33∧v33<(↑20:Int)) (.e8 ((0:Int)≤v7∧v7<(↑20:Int)) (cond (!List.getD (List.getD o4 (Int.toNat v33) P9) (Int.toNat v7) false) (.e8 (r9 IntKind.i64 (v33+(1:Int))) (.ctL (d9 (d8 Try.prog 30) 12) (St.mk [(1,AV.ptr 1 []),(4,AV.ptr 4 []),(6,AV.at_ 1000006 []),(7,vI v7),(8,AV.val Ty.bool true),q2,(25,vI v25),(32,vI v32),q3] [q0,q1,(1000006,f7.own Is o1000006)]))) (.e8 (True) (.e8 (r9 IntKind.i64 (v33+(1:Int))) (.ctL (d9 (d8 Try.prog 30) 12) (St.mk [(1,AV.ptr 1 []),(4,AV.ptr 4 []),(6,AV.at_ 1000006 []),(7,vI v7),(8,AV.val Ty.bool (decide (v33∈o1000006))),q2,(25,vI v25),(32,vI v32),q3] [q0,q1,(1000006,f7.own Is o1000006)]))))))) (.e8 (r9 IntKind.i64 (v33+(1:Int))) (.ctL (d9 (d8 Try.prog 30) 12) (St.mk [(1,AV.ptr 1 []),(4,AV.ptr 4 []),(6,AV.at_ 1000006 []),(7,vI v7),(8,AV.val Ty.bool false),q2,(25,vI v25),(32,vI v32),q3] [q0,q1,(1000006,f7.own Is o1000006)])))) (cond (v8) (.e8 (List.length o1000006+List.length (List.set [(0:Int)] (Int.toNat (↑0:Int)) v7)≤140737488355328∧(List.length o1000006+List.length (List.set [(0:Int)] (Int.toNat (↑0:Int)) v7))*Ty.wb i5≤140737488355328) (.ctL (d9 (d8 Try.prog 30) 5) (St.mk [(1,AV.ptr 1 []),(4,AV.ptr 4 []),(6,AV.at_ 1000006 [])] [q0,q1,(1000006,f7.own Is (o1000006++List.set [(0:Int)] (Int.toNat (↑0:Int)) v7))]))) (.e8 (r9 IntKind.i64 (v25+(1:Int))) (.ctL (d9 (d8 Try.prog 30) 7) (St.mk [(1,AV.ptr 1 []),(4,AV.ptr 4 []),(6,AV.at_ 1000006 []),q2,(25,vI (v25+(1:Int)))] [q0,q1,(1000006,f7.own Is o1000006)])))):=by kernel_rfl
theorem b3Q:b3R.Valid Try.prog 30:=by
  refine w9.u7 a2O rfl rfl Try.func30 (c:=d8 Try.prog 30) rfl rfl a2N rfl ?_
  rintro ⟨⟨(n0:Int),(l:List s5),⟨⟩⟩,⟨⟩⟩ - -
  refine n7 (n:=1000) a2O a2N ?_
  refine g9 (c2p n0 l) ?_
  have hd:a1I n0 l=if J6 n0 l≠0 then ([],J6 n0 l,()) else (Z7 (wk (D6 l) n0.toNat) n0.toNat n0.toNat [],0,()):=rfl
  by_cases h0:J6 n0 l≠0
  · rw [if_pos h0] at hd
    rw [a9s h0]
    simp only [i9,Tree.holds,true_and,true_implies,decide_eq_true_eq,decide_eq_false_iff_not,Bool.not_eq_true',Bool.not_eq_false',Int.toNat_natCast,l7,List.length_set,List.length_cons,List.length_nil]
    exact ⟨fun _=>hd.symm,fun c=>absurd h0 c⟩
  obtain ⟨n,rfl,hp⟩:=b1c (Decidable.not_not.1 h0)
  rw [if_neg h0,Int.toNat_natCast] at hd
  rw [a9r hp]
  have hn:=hp.n20
  have ht:=fun x y z=>a6r hp (a:=x) (b:=y) (c:=z)
  have hi:=fun x=>b0t hp x
  generalize wk (D6 l) n=R at *
  simp only [i9,Tree.holds,true_and,true_implies,decide_eq_true_eq,decide_eq_false_iff_not,Bool.not_eq_true',Bool.not_eq_false',Int.toNat_natCast,l7,List.length_set,List.length_cons,List.length_nil]
  refine ⟨fun c=>absurd rfl c,fun _=>?_⟩
  refine Reach.C1 a2O a2N (fun out:List Int=>b1U (n:Int) l (W5 R) out) (fun out=>out.length≤n∧Z7 R n n []=Z7 R n (n - out.length) out) (fun out=>n - out.length) 1000 (fun _=>⟨j7 rfl,j7 rfl⟩) ?_ [] ⟨by simp,rfl⟩
  rintro out ⟨k1,k2⟩ - ih
  refine g9 (c0x ..) ?_
  simp only [i9,Tree.holds,true_and,true_implies,decide_eq_true_eq,decide_eq_false_iff_not,Bool.not_eq_true',Bool.not_eq_false',Int.toNat_natCast,l7,List.length_set,List.length_cons,List.length_nil]
  refine ⟨fun c=>?_,fun c=>?_⟩
  · have hl:out.length<n:=by omega
    have hne:=b6a ht hi hl
    have go:∀ b,a0M R n out n 0=some b→out.length+1≤n∧Z7 R n n []=Z7 R n (n - (out.length+1)) (out++[(b:Int)]):=fun b hb=>by
      refine ⟨by omega,?_⟩
      rw [k2,show n - out.length=(n - (out.length+1))+1 by omega,Z7,hb]
    refine Reach.C1 a2O a2N (fun b:Nat=>b1T (n:Int) (b:Int) (n:Int) l (W5 R) out) (fun b=>b≤n∧a0M R n out n 0=a0M R n out (n - b) b) (fun b=>n - b) 1000 (fun _=>⟨j7 rfl,j7 rfl⟩) ?_ 0 ⟨by omega,rfl⟩
    rintro b ⟨k3,k4⟩ - ih2
    refine g9 (c0w ..) ?_
    simp only [i9,Tree.holds,true_and,true_implies,decide_eq_true_eq,decide_eq_false_iff_not,Bool.not_eq_true',Bool.not_eq_false',Int.toNat_natCast,l7,List.length_set,List.length_cons,List.length_nil]
    refine ⟨fun d=>?_,fun d=>absurd (by rw [k4,show n - b=0 by omega]; rfl) hne⟩
    have hb:b<n:=by omega
    rw [show n - b=(n - (b+1))+1 by omega,a0M] at k4
    refine ⟨fun e=>⟨by omega,fun _=>?_⟩,fun e=>?_⟩
    · rw [if_neg (by rw [a02,decide_eq_true e,Bool.not_true,Bool.false_and]; decide)] at k4
      exact ih2 (b+1) ⟨by show b+1≤n; omega,k4⟩ (by omega)
    refine Reach.C1 a2O a2N (fun a:Nat=>b0b (b:Int) ((List.range a).all (fun a=>!R a b || decide ((a:Int)∈out))) (n:Int) (b:Int) (n:Int) (a:Int) (n:Int) l (W5 R) out) (fun a=>a≤n) (fun a=>n - a) 1000 (fun _=>⟨j7 rfl,j7 rfl⟩) ?_ 0 (by omega)
    rintro a k5 - ih3
    have k5:a≤n:=k5
    refine g9 (b8C ..) ?_
    have hw:Ty.wb i5=8:=rfl
    simp only [i9,Tree.holds,true_and,true_implies,decide_eq_true_eq,decide_eq_false_iff_not,Bool.not_eq_true',Bool.not_eq_false',Int.toNat_natCast,l7,List.length_set,List.length_cons,List.length_nil,hw]
    refine ⟨fun f=>?_,fun f=>?_⟩
    · have ha:a<n:=by omega
      have next:=ih3 (a+1) (by show a+1≤n; omega) (by omega)
      rw [List.range_succ,List.all_append,List.all_cons,List.all_nil,Bool.and_true] at next
      have hg:(((W5 R).getD a P9).getD b false)=R a b:=a9L (by omega) (by omega)
      refine ⟨fun g=>⟨by omega,fun _=>⟨by omega,fun _=>⟨fun e1=>⟨by omega,fun _=>?_⟩,fun e1=>⟨by omega,fun _=>?_⟩⟩⟩⟩,fun g=>⟨by omega,fun _=>?_⟩⟩
      · have e1:R a b=false:=hg.symm.trans e1
        rw [g,e1] at next; exact next
      · have e1:R a b=true:=hg.symm.trans e1
        rw [g,e1,Bool.not_true,Bool.false_or,Bool.true_and] at next; exact next
      · rw [g,Bool.false_and] at next; exact next
    · have ha:a=n:=by omega
      subst ha
      refine ⟨fun g=>⟨by omega,fun _=>?_⟩,fun g=>⟨by omega,fun _=>?_⟩⟩
      · rw [if_pos (by rw [a02,decide_eq_false e,g]; rfl)] at k4
        have:=ih (out++[(b:Int)]) (by
          have:=go b k4
          rw [show (out++[(b:Int)]).length=out.length+1 by simp]
          exact this) (by show _ - (out++[(b:Int)]).length<_; rw [List.length_append,List.length_singleton]; omega)
        exact this
      · rw [if_neg (by rw [a02,g,Bool.and_false]; decide)] at k4
        exact ih2 (b+1) ⟨by show b+1≤a; omega,k4⟩ (by omega)
  · have:out.length=n:=by omega
    rw [hd,k2,this,Nat.sub_self]; rfl
end Go.Proofs.Ytekbamiaenbhjaa
