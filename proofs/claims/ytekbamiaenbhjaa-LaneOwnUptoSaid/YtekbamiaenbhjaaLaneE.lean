/- The contract of the package lane's Take. -/
import Derived.Test.YtekbamiaenbhjaaLaneF
import Derived.Test.YtekbamiaenbhjaaInsD
namespace Go.Proofs.Ytekbamiaenbhjaa
open Go.Ex
set_option maxRecDepth 100000
theorem c05:Ty.wb C0=24:=rfl
def b0U:t5:={ ps:=[.v (.d0 false C0)],rs:=[.d0 true C0],pre:=fun x=>List.length (α:=n9) x.1≤1048576,fn:=fun x=>x,out:=fun _=>() }
noncomputable def b6l:Env:={ P:=Try.prog,tt:=tt,C9:=[],res:=[Go.ResultVar.tmp 2],rs:=[Ty.d0 true (Ty.pair (Ty.int IntKind.i64) (Ty.pair Ty.str Ty.unit))],ps:=[PK.v (Ty.d0 false (Ty.pair (Ty.int IntKind.i64) (Ty.pair Ty.str Ty.unit)))],C7:=[],nt:=8 }
theorem b2R:x8 b6l:=C2 q9 trivial
theorem b2B:D3 b6l Try.f63:=⟨rfl,rfl⟩
theorem c0L (x0:List (Int×List UInt8×Unit)):exec b6l 1000 [.code (d9 Try.prog 63)] (w7 b0U.ps ((x0,()))) =
  .both (x0=[]) (.ret (([],()))) (.f9 ((0:Nat)+List.length x0≤140737488355328∧((0:Nat)+List.length x0)*Ty.wb (Ty.pair (Ty.int IntKind.i64) (Ty.pair Ty.str Ty.unit))≤140737488355328) (.ret (([]++x0,())))):=by kernel_rfl
theorem a6v:b0U.Valid Try.prog 63:=by
  refine t5.s4 b2R rfl rfl Try.func63 (c:=d9 Try.prog 63) rfl rfl b2B rfl ?_
  rintro ⟨(l:List (n9)),⟨⟩⟩ hp -
  have hp:l.length≤1048576:=hp
  refine l5 (n:=1000) b2R b2B ?_
  refine j8 (c0L l) ?_
  simp only [p8,Tree.holds,true_and,true_implies,decide_eq_true_eq,decide_eq_false_iff_not,Bool.not_eq_true',Bool.not_eq_false',Int.toNat_natCast,u6,List.length_set,List.length_cons,List.length_nil,c05]
  refine ⟨fun h=>?_,by omega,fun _=>rfl⟩
  show (([],()):List (n9)×Unit)=(l,())
  rw [show l=[] from h]
def b1S:t5:={ ps:=[.v ToT,.v C0],rs:=[ToO,.d0 true .str,I8],pre:=fun _=>True,fn:=fun x=>a2e x.1 x.2.1,out:=fun _=>() }
noncomputable def a8l:Env:={ P:=Try.prog,tt:=tt,C9:=[(156,b8Y),(157,b1T),(155,a3F),(63,b0U),(158,b80),(160,c1r)],res:=[Go.ResultVar.cell 4 101,Go.ResultVar.tmp 5,Go.ResultVar.tmp 6],rs:=[Ty.pair (Ty.int IntKind.i64) (Ty.pair (Ty.d0 true (Ty.pair (Ty.int IntKind.i64) (Ty.pair Ty.str Ty.unit))) Ty.unit),Ty.d0 true Ty.str,Ty.int IntKind.i64],ps:=[PK.v (Ty.pair (Ty.int IntKind.i64) (Ty.pair (Ty.d0 false (Ty.pair (Ty.int IntKind.i64) (Ty.pair Ty.str Ty.unit))) Ty.unit)),PK.v (Ty.pair (Ty.int IntKind.i64) (Ty.pair Ty.str Ty.unit))],C7:=[(17,[(4,none),(8,none),(11,some (Ty.d0 true Ty.str))])],nt:=116 }
theorem a5B:x8 a8l:=C2 q9 ⟨b5F,a4j,a1k,a6v,b5W,b5N,trivial⟩
theorem a5t:D3 a8l Try.f56:=⟨rfl,rfl⟩
theorem b9k (x0_1:Int) (x0_2_1:List (Int×List UInt8×Unit)) (x1_1:Int) (x1_2_1:List UInt8):exec a8l 1000 [.code (d9 Try.prog 56)] (w7 b1S.ps (((x0_1,x0_2_1,()),(x1_1,x1_2_1,()),()))) =
  .f9 (True) (cond (decide (toE (x0_1,x0_2_1,())≠(0:Int))) (.ret ((((0:Int),[],()),[],toE (x0_1,x0_2_1,()),()))) (.f9 (True) (cond (!Z7 x1_1 (0:Int) (16777214:Int)) (.ret ((((0:Int),[],()),[],(1:Int),()))) (.f9 (True) (cond (J0 x1_2_1) (.ret ((((0:Int),[],()),[],(2:Int),()))) (.f9 (List.length x0_2_1≤1048576) (.f9 ((List.length x0_2_1≤1000∧sorted x0_2_1)∧(-100000000:Int)≤x1_1∧x1_1≤(100000000:Int)) (cond (decide (x1_1<x0_1)) (.ret (((x0_1,x0_2_1,()),[],(0:Int),()))) (.f9 (C1 IntKind.i64 (x0_1+(16:Int))) (cond (decide (x0_1+(16:Int)≤x1_1)) (.ret (((x0_1,x0_2_1,()),[],(0:Int),()))) (cond (W9 x1_1 x0_2_1) (.ret (((x0_1,x0_2_1,()),[],(0:Int),()))) (cond (decide (x0_1<x1_1)) (.f9 (((0:Int)≤(↑(W4 x1_1 x0_2_1):Int)∧(↑(W4 x1_1 x0_2_1):Int)≤(↑(List.length x0_2_1):Int))∧List.length x0_2_1≤1000∧List.length (List.set [((0:Int),[],())] (Int.toNat (↑0:Int)) (x1_1,x1_2_1,()))=1) (.ret (((x0_1,a6V x0_2_1 (↑(W4 x1_1 x0_2_1):Int) (List.set [((0:Int),[],())] (Int.toNat (↑0:Int)) (x1_1,x1_2_1,())),()),[],(0:Int),())))) (.f9 (C1 IntKind.i64 (x0_1+(1:Int))) (.cut (j7 (d9 Try.prog 56) 17).1 (j7 (d9 Try.prog 56) 17).2 (St.mk [(4,AV.ptr 4 []),(8,AV.ptr 8 []),(11,AV.at_ 1000011 [])] [(4,i7.var (Ty.pair (Ty.int IntKind.i64) (Ty.pair (Ty.d0 true (Ty.pair (Ty.int IntKind.i64) (Ty.pair Ty.str Ty.unit))) Ty.unit)) ((0:Int),[],())),(8,i7.var (Ty.pair (Ty.int IntKind.i64) (Ty.pair (Ty.d0 true (Ty.pair (Ty.int IntKind.i64) (Ty.pair Ty.str Ty.unit))) Ty.unit)) (x0_1+(1:Int),x0_2_1,())),(1000011,i7.own (Ty.d0 true Ty.str) (List.set [[]] (Int.toNat (↑0:Int)) x1_2_1))]))))))))))))))):=by kernel_rfl
def a8k (o4_1:Int) (o4_2_1:List (Int×List UInt8×Unit)) (o8_1:Int) (o8_2_1:List (Int×List UInt8×Unit)) (o1000011:List (List UInt8)):St:=St.mk [(4,AV.ptr 4 []),(8,AV.ptr 8 []),(11,AV.at_ 1000011 [])] [(4,i7.var (Ty.pair (Ty.int IntKind.i64) (Ty.pair (Ty.d0 true (Ty.pair (Ty.int IntKind.i64) (Ty.pair Ty.str Ty.unit))) Ty.unit)) (o4_1,o4_2_1,())),(8,i7.var (Ty.pair (Ty.int IntKind.i64) (Ty.pair (Ty.d0 true (Ty.pair (Ty.int IntKind.i64) (Ty.pair Ty.str Ty.unit))) Ty.unit)) (o8_1,o8_2_1,())),(1000011,i7.own (Ty.d0 true Ty.str) o1000011)]
theorem b6p (o4_1:Int) (o4_2_1:List (Int×List UInt8×Unit)) (o8_1:Int) (o8_2_1:List (Int×List UInt8×Unit)) (o1000011:List (List UInt8)):exec a8l 1000 (.code (j7 (d9 Try.prog 56) 17).1::.inLoop (j7 (d9 Try.prog 56) 17).1::(j7 (d9 Try.prog 56) 17).2) (a8k o4_1 o4_2_1 o8_1 o8_2_1 o1000011) =
  cond (decide ((0:Int)<(↑(List.length o8_2_1):Int))) (.f9 ((0:Int)≤(0:Int)∧(0:Int)<(↑(List.length o8_2_1):Int)) (cond (decide (Prod.fst (List.getD o8_2_1 (Int.toNat (0:Int)) ((0:Int),[],()))=o8_1)) (.f9 ((0:Int)≤(0:Int)∧(0:Int)<(↑(List.length o8_2_1):Int)) (.f9 (List.length o1000011+List.length (List.set [[]] (Int.toNat (↑0:Int)) (Prod.fst (Prod.snd (List.getD o8_2_1 (Int.toNat (0:Int)) ((0:Int),[],())))))≤140737488355328∧(List.length o1000011+List.length (List.set [[]] (Int.toNat (↑0:Int)) (Prod.fst (Prod.snd (List.getD o8_2_1 (Int.toNat (0:Int)) ((0:Int),[],()))))))*Ty.wb Ty.str≤140737488355328) (.f9 ((0:Int)≤(1:Int)∧(1:Int)≤(↑(List.length o8_2_1):Int)∧(↑(List.length o8_2_1):Int)≤(↑(List.length o8_2_1):Int)) (.f9 ([]++[Step.i9 1]=[]++[Step.i9 1]∧True) (.f9 (C1 IntKind.i64 (o8_1+(1:Int))) (.cut (j7 (d9 Try.prog 56) 17).1 (j7 (d9 Try.prog 56) 17).2 (St.mk [(4,AV.ptr 4 []),(8,AV.ptr 8 []),(11,AV.at_ 1000011 [])] [(4,i7.var (Ty.pair (Ty.int IntKind.i64) (Ty.pair (Ty.d0 true (Ty.pair (Ty.int IntKind.i64) (Ty.pair Ty.str Ty.unit))) Ty.unit)) (o4_1,o4_2_1,())),(8,i7.var (Ty.pair (Ty.int IntKind.i64) (Ty.pair (Ty.d0 true (Ty.pair (Ty.int IntKind.i64) (Ty.pair Ty.str Ty.unit))) Ty.unit)) (o8_1+(1:Int),s5 (1:Int) (↑(List.length o8_2_1):Int) o8_2_1,())),(1000011,i7.own (Ty.d0 true Ty.str) (o1000011++List.set [[]] (Int.toNat (↑0:Int)) (Prod.fst (Prod.snd (List.getD o8_2_1 (Int.toNat (0:Int)) ((0:Int),[],()))))))]))))))) (.f9 (List.length o8_2_1≤1048576) (.ret (((o8_1,o8_2_1,()),o1000011,(0:Int),())))))) (.f9 (List.length o8_2_1≤1048576) (.ret (((o8_1,o8_2_1,()),o1000011,(0:Int),())))):=by kernel_rfl
theorem c1y {n:Int} {l:List n9}:W4 n l≤l.length:=by
  rw [W4]; exact (List.takeWhile_sublist _).length_le
theorem a9f.sorted {r:Int} {l:List n9} (h:a9f r l):sorted l:=⟨b3i h.up,fun i hi=>by
  have h1:=a3U h.up (P4 (d:=U5) hi)
  have h2:=(h.b _ (P4 (d:=U5) hi)).1
  have:=h.rg
  omega⟩
theorem b1R:b1S.Valid Try.prog 56:=by
  refine t5.s4 a5B rfl rfl Try.func56 (c:=d9 Try.prog 56) rfl rfl a5t rfl ?_
  rintro ⟨⟨(r:Int),(l:List n9),⟨⟩⟩,⟨(q:Int),(x:List UInt8),⟨⟩⟩,⟨⟩⟩ - -
  refine l5 (n:=1000) a5B a5t ?_
  refine j8 (b9k r l q x) ?_
  have key:∀ {y:ToD×List (List UInt8)×Int×Unit},a2e (r,l,()) (q,x,())=y→y=a2e (r,l,()) (q,x,()):=fun h=>h.symm
  have hd:a2e (r,l,()) (q,x,())=if toE (r,l,())≠0 then (t00,[],toE (r,l,()),()) else if Z7 q 0 16777214=false then (t00,[],1,()) else if J0 x=true then (t00,[],2,()) else
    if q<r∨r+16≤q∨W9 q l=true then ((r,l,()),[],0,()) else if r<q then ((r,a1D (q,x,()) l,()),[],0,()) else
    (((K9 l (r+1)).1,(K9 l (r+1)).2.1,()),x::(K9 l (r+1)).2.2,0,()):=rfl
  have hw:Ty.wb .str=16:=rfl
  simp only [p8,Tree.holds,true_and,true_implies,decide_eq_true_eq,decide_eq_false_iff_not,Bool.not_eq_true',Bool.not_eq_false',Int.toNat_natCast,u6,List.length_set,List.length_cons,List.length_nil,hw]
  refine ⟨fun a=>key (by rw [hd,if_pos a]<;>rfl),fun a=>?_⟩
  have p9:=b31.1 (Decidable.not_not.1 a)
  have hrg:=p9.rg
  have hlen:=p9.len
  rw [if_neg a] at hd
  refine ⟨fun c=>key (by rw [hd,if_pos c]<;>rfl),fun c=>?_⟩
  have hq:=a0B.1 c
  rw [if_neg (lnf c)] at hd
  refine ⟨fun d=>key (by rw [hd,if_pos d]<;>rfl),fun d=>⟨by omega,fun _=>⟨⟨⟨by omega,p9.sorted⟩,by omega,by omega⟩,fun _=>?_⟩⟩⟩
  rw [if_neg (by rw [d]; simp)] at hd
  refine ⟨fun e=>key (by rw [hd,if_pos (.inl e)]<;>rfl),fun e=>⟨by omega,fun _=>⟨fun f=>key (by rw [hd,if_pos (.inr (.inl f))]<;>rfl),fun f=>⟨fun g=>key (by rw [hd,if_pos (.inr (.inr g))]<;>rfl),fun g=>?_⟩⟩⟩⟩
  rw [if_neg (by rintro (h|h|h); exact e h; exact f h; rw [g] at h; cases h)] at hd
  have hat:=c1y (n:=q) (l:=l)
  refine ⟨fun k=>⟨⟨⟨by omega,by omega⟩,by omega,trivial⟩,fun _=>key (by rw [hd,if_pos k]; simp [a6V,a1D]; rfl)⟩,fun k=>⟨by omega,fun _=>?_⟩⟩
  rw [if_neg k] at hd
  refine Reach.V1 a5B a5t (fun s:Int×List n9×List (List UInt8)=>a8k 0 [] s.1 s.2.1 s.2.2) (fun s=>((K9 s.2.1 s.1).1=(K9 l (r+1)).1∧(K9 s.2.1 s.1).2.1=(K9 l (r+1)).2.1∧s.2.2++(K9 s.2.1 s.1).2.2=x::(K9 l (r+1)).2.2)∧s.2.1.length≤16∧s.2.2.length+s.2.1.length≤17∧0≤s.1∧s.1+s.2.1.length≤20000000)
    (fun s=>s.2.1.length) 1000 (fun _=>⟨x7 rfl,x7 rfl⟩) ?_ (r+1,l,[x]) ⟨⟨rfl,rfl,rfl⟩,hlen,by show 1+l.length≤17; omega,by show 0≤r+1; omega,by show r+1+(l.length:Int)≤20000000; omega⟩
  rintro ⟨n,m,ts⟩ ⟨⟨k1,k2,k3⟩,k4,k5,k6,k7⟩ - ih
  have k1:(K9 m n).1=(K9 l (r+1)).1:=k1
  have k2:(K9 m n).2.1=(K9 l (r+1)).2.1:=k2
  have k3:ts++(K9 m n).2.2=x::(K9 l (r+1)).2.2:=k3
  have k4:m.length≤16:=k4
  have k5:ts.length+m.length≤17:=k5
  have k6:0≤n:=k6
  have k7:n+(m.length:Int)≤20000000:=k7
  rw [← k1,← k2,← k3] at hd
  refine j8 (b6p ..) ?_
  rw [show ((n,m,ts):Int×List n9×List (List UInt8)).1=n from rfl,show ((n,m,ts):Int×List n9×List (List UInt8)).2.1=m from rfl,show ((n,m,ts):Int×List n9×List (List UInt8)).2.2=ts from rfl]
  cases m with
  | nil =>
    simp only [p8,Tree.holds,true_and,true_implies,decide_eq_true_eq,decide_eq_false_iff_not,Bool.not_eq_true',Bool.not_eq_false',Int.toNat_natCast,u6,List.length_set,List.length_cons,List.length_nil,hw]
    refine ⟨fun c2=>absurd c2 (by simp),fun _=>⟨by omega,fun _=>key ?_⟩⟩
    rw [hd,K9,List.append_nil]; rfl
  | cons p m =>
    have g0:List.getD (p::m) (Int.toNat 0) (0,[],())=p:=rfl
    have hcut:s5 1 ((p::m).length:Int) (p::m)=m:=by
      rw [s5,List.take_of_length_le (by simp)]; rfl
    simp only [List.length_cons] at k4 k5 k7
    have hpop:K9 (p::m) n=if p.1=n then ((K9 m (n+1)).1,(K9 m (n+1)).2.1,p.2.1::(K9 m (n+1)).2.2) else (n,p::m,[]):=rfl
    simp only [p8,Tree.holds,true_and,true_implies,decide_eq_true_eq,decide_eq_false_iff_not,Bool.not_eq_true',Bool.not_eq_false',Int.toNat_natCast,u6,List.length_set,List.length_cons,List.length_nil,hw,g0,hcut]
    refine ⟨fun c2=>⟨by omega,fun _=>⟨fun c3=>?_,fun c3=>⟨by omega,fun _=>key ?_⟩⟩⟩,fun c2=>absurd (by omega) c2⟩
    · rw [if_pos c3] at hpop
      rw [hpop] at k1 k2 k3
      have next:=ih (n+1,m,ts++[p.2.1]) ⟨⟨k1,k2,by rw [List.append_assoc]; exact k3⟩,by show m.length≤16; omega,by show (ts++[p.2.1]).length+m.length≤17; rw [List.length_append,List.length_singleton]; omega,by show 0≤n+1; omega,by show n+1+(m.length:Int)≤20000000; omega⟩ (by show m.length<(p::m).length; simp)
      have hcut2:s5 1 ((m.length+1:Nat):Int) (p::m)=m:=hcut
      rw [hcut2]
      exact ⟨by omega,fun _=>⟨⟨by omega,by omega⟩,fun _=>⟨by omega,fun _=>⟨by omega,fun _=>next⟩⟩⟩⟩
    · rw [if_neg c3] at hpop
      rw [hd,hpop,List.append_nil]; rfl
end Go.Proofs.Ytekbamiaenbhjaa
