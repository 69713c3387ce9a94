/- turn.pass and what it calls. No condition but those named. -/
import Derived.Test.YtekbamiaenbhjaaTurn
import Derived.Test.YtekbamiaenbhjaaListD
namespace Go.Proofs.Ytekbamiaenbhjaa
open Go.Ex
set_option maxRecDepth 100000
abbrev a4f:=Option O5
def tz:O5:=(0,0,[],[],[],())
def isT (o:a4f):Prop:=o.isSome=true
def Q4 (o:a4f) (n:Int):Bool:=decide (n∈(o.getD tz).2.2.2.1)
def a7t:w6:={ ps:=[.v s6,.rd b0e],rs:=[.bool],pre:=fun x=>isT x.2.1,fn:=fun x=>(Q4 x.2.1 x.1,()),out:=fun _=>() }
noncomputable def b2c:Env:={ P:=Try.prog,tt:=ttT,C7:=[(48,a3w)],res:=[Go.ResultVar.tmp 3],rs:=[Ty.bool],ps:=[PK.v (Ty.int IntKind.i64),PK.rd (Ty.box false none (Ty.pair (Ty.int IntKind.i64) (Ty.pair (Ty.int IntKind.i64) (Ty.pair (Ty.hole Is) (Ty.pair (Ty.d0 false (Ty.int IntKind.i64)) (Ty.pair (Ty.d0 false (Ty.int IntKind.i64)) Ty.unit))))))],C5:=[],nt:=10 }
theorem a9w:B0 b2c:=B9 a3h ⟨a1b,trivial⟩
theorem a9n:D0 b2c Try.f259:=⟨rfl,rfl⟩
theorem b8K (x0:Int) (x1_b_1:Int) (x1_b_2_1:Int) (x1_b_2_2_1:List (List Int)) (x1_b_2_2_2_1:List Int) (x1_b_2_2_2_2_1:List Int):exec b2c 1000 [.code (d9 Try.prog 259)] (y8 a7t.ps ((x0,some (x1_b_1,x1_b_2_1,x1_b_2_2_1,x1_b_2_2_2_1,x1_b_2_2_2_2_1,()),()))) =
  .f9 (Option.isSome (some (x1_b_1,x1_b_2_1,x1_b_2_2_1,x1_b_2_2_2_1,x1_b_2_2_2_2_1,()))=true) (.f9 (True) (.ret ((decide (x0∈Prod.fst (Prod.snd (Prod.snd (Prod.snd (Option.getD (some (x1_b_1,x1_b_2_1,x1_b_2_2_1,x1_b_2_2_2_1,x1_b_2_2_2_2_1,())) ((0:Int),(0:Int),[],[],[],())))))),())))):=by kernel_rfl
theorem a4T:a7t.Valid Try.prog 259:=by
  refine w6.t6 a9w rfl rfl Try.func259 (c:=d9 Try.prog 259) rfl rfl a9n rfl ?_
  rintro ⟨(n:Int),(o:a4f),⟨⟩⟩ (ho:o.isSome=true) -
  obtain ⟨⟨a,b,c,d,e,⟨⟩⟩,rfl⟩:=Option.isSome_iff_exists.1 ho
  refine l8 (n:=1000) a9w a9n ?_
  refine j9 (b8K n a b c d e) ?_
  exact ⟨rfl,fun _=>⟨trivial,fun _=>rfl⟩⟩
def b4J (o:a4f) (l:List Int):List Int:=l.filter (fun n=>!(Q4 o) n)
def b5e:w6:={ ps:=[.v (.d0 false s6),.s8 259 [b0e]],rs:=[s6],pre:=fun x=>isT x.2.1.1,fn:=fun x=>(idxOf (Q4 x.2.1.1) x.1,()),out:=fun _=>() }
noncomputable def a97:Env:={ P:=Try.prog,tt:=ttT,C7:=[(259,a7t)],res:=[Go.ResultVar.tmp 4],rs:=[Ty.int IntKind.i64],ps:=[PK.v (Ty.d0 false (Ty.int IntKind.i64)),PK.s8 259 [Ty.box false none (Ty.pair (Ty.int IntKind.i64) (Ty.pair (Ty.int IntKind.i64) (Ty.pair (Ty.hole Is) (Ty.pair (Ty.d0 false (Ty.int IntKind.i64)) (Ty.pair (Ty.d0 false (Ty.int IntKind.i64)) Ty.unit)))))]],C5:=[(2,[(0,none),(1,none),(7,none),(8,none)])],nt:=19 }
theorem a6H:B0 a97:=B9 a3h ⟨a4T,trivial⟩
theorem a6x:D0 a97 Try.f270:=⟨rfl,rfl⟩
theorem c0x (x0:List Int) (x1c0_b_1:Int) (x1c0_b_2_1:Int) (x1c0_b_2_2_1:List (List Int)) (x1c0_b_2_2_2_1:List Int) (x1c0_b_2_2_2_2_1:List Int):exec a97 1000 [.code (d9 Try.prog 270)] (y8 b5e.ps ((x0,(some (x1c0_b_1,x1c0_b_2_1,x1c0_b_2_2_1,x1c0_b_2_2_2_1,x1c0_b_2_2_2_2_1,()),()),()))) =
  .cut (i5 (d9 Try.prog 270) 2).1 (i5 (d9 Try.prog 270) 2).2 (St.mk [(0,AV.val (Ty.d0 false (Ty.int IntKind.i64)) x0),(1,AV.s8 259 (AV.cons (AV.D9 (Ty.box false none (Ty.pair (Ty.int IntKind.i64) (Ty.pair (Ty.int IntKind.i64) (Ty.pair (Ty.hole Is) (Ty.pair (Ty.d0 false (Ty.int IntKind.i64)) (Ty.pair (Ty.d0 false (Ty.int IntKind.i64)) Ty.unit)))))) (some (x1c0_b_1,x1c0_b_2_1,x1c0_b_2_2_1,x1c0_b_2_2_2_1,x1c0_b_2_2_2_2_1,()))) AV.nil)),(7,AV.val (Ty.int IntKind.i64) (↑(List.length x0):Int)),(8,AV.val (Ty.int IntKind.i64) (0:Int))] []):=by kernel_rfl
def b2g (v0:List Int) (v1a_b_1:Int) (v1a_b_2_1:Int) (v1a_b_2_2_1:List (List Int)) (v1a_b_2_2_2_1:List Int) (v1a_b_2_2_2_2_1:List Int) (v7:Int) (v8:Int):St:=St.mk [(0,AV.val (Ty.d0 false (Ty.int IntKind.i64)) v0),(1,AV.s8 259 (AV.cons (AV.D9 (Ty.box false none (Ty.pair (Ty.int IntKind.i64) (Ty.pair (Ty.int IntKind.i64) (Ty.pair (Ty.hole Is) (Ty.pair (Ty.d0 false (Ty.int IntKind.i64)) (Ty.pair (Ty.d0 false (Ty.int IntKind.i64)) Ty.unit)))))) (some (v1a_b_1,v1a_b_2_1,v1a_b_2_2_1,v1a_b_2_2_2_1,v1a_b_2_2_2_2_1,()))) AV.nil)),(7,AV.val (Ty.int IntKind.i64) v7),(8,AV.val (Ty.int IntKind.i64) v8)] []
theorem b8P (v0:List Int) (v1a_b_1:Int) (v1a_b_2_1:Int) (v1a_b_2_2_1:List (List Int)) (v1a_b_2_2_2_1:List Int) (v1a_b_2_2_2_2_1:List Int) (v7:Int) (v8:Int):exec a97 1000 (.code (i5 (d9 Try.prog 270) 2).1::.inLoop (i5 (d9 Try.prog 270) 2).1::(i5 (d9 Try.prog 270) 2).2) (b2g v0 v1a_b_1 v1a_b_2_1 v1a_b_2_2_1 v1a_b_2_2_2_1 v1a_b_2_2_2_2_1 v7 v8) =
  cond (decide (v8<v7)) (.f9 ((0:Int)≤v8∧v8<(↑(List.length v0):Int)) (.f9 (isT (some (v1a_b_1,v1a_b_2_1,v1a_b_2_2_1,v1a_b_2_2_2_1,v1a_b_2_2_2_2_1,()))) (cond (Q4 (some (v1a_b_1,v1a_b_2_1,v1a_b_2_2_1,v1a_b_2_2_2_1,v1a_b_2_2_2_2_1,())) (List.getD v0 (Int.toNat v8) (0:Int))) (.ret ((v8,()))) (.f9 (C3 IntKind.i64 (v8+(1:Int))) (.cut (i5 (d9 Try.prog 270) 2).1 (i5 (d9 Try.prog 270) 2).2 (St.mk [(0,AV.val (Ty.d0 false (Ty.int IntKind.i64)) v0),(1,AV.s8 259 (AV.cons (AV.D9 (Ty.box false none (Ty.pair (Ty.int IntKind.i64) (Ty.pair (Ty.int IntKind.i64) (Ty.pair (Ty.hole Is) (Ty.pair (Ty.d0 false (Ty.int IntKind.i64)) (Ty.pair (Ty.d0 false (Ty.int IntKind.i64)) Ty.unit)))))) (some (v1a_b_1,v1a_b_2_1,v1a_b_2_2_1,v1a_b_2_2_2_1,v1a_b_2_2_2_2_1,()))) AV.nil)),(7,AV.val (Ty.int IntKind.i64) v7),(8,AV.val (Ty.int IntKind.i64) (v8+(1:Int)))] [])))))) (.ret (((-1:Int),()))):=by kernel_rfl
theorem b26:b5e.Valid Try.prog 270:=by
  refine w6.t6 a6H rfl rfl Try.func270 (c:=d9 Try.prog 270) rfl rfl a6x rfl ?_
  rintro ⟨(l:List (Int)),⟨(o:a4f),⟨⟩⟩,⟨⟩⟩ hp ⟨⟨hl,-⟩,-⟩
  have hl:l.length≤9223372036854775807:=hl
  obtain ⟨⟨q0,q1,q2,q3,q4,⟨⟩⟩,rfl⟩:=Option.isSome_iff_exists.1 hp
  have hp:isT (some (q0,q1,q2,q3,q4,())):=hp
  refine l8 (n:=1000) a6H a6x ?_
  refine j9 (c0x l q0 q1 q2 q3 q4) ?_
  refine Reach.N1 a6H a6x (fun i:Nat=>b2g l q0 q1 q2 q3 q4 (l.length:Int) (i:Int)) (fun i=>i≤l.length∧idxOf (Q4 (some (q0,q1,q2,q3,q4,()))) l=I0 (Q4 (some (q0,q1,q2,q3,q4,()))) (l.drop i) i)
    (fun i=>l.length - i) 1000 (fun _=>⟨x4 rfl,x4 rfl⟩) ?_ 0 ⟨by omega,rfl⟩
  rintro i ⟨k1,k2⟩ - ih
  refine j9 (b8P ..) ?_
  simp only [s4,Tree.holds,true_and,true_implies,decide_eq_true_eq,decide_eq_false_iff_not,Bool.not_eq_true',Bool.not_eq_false',Int.toNat_natCast,x5,List.length_set,List.length_cons,List.length_nil]
  refine ⟨fun h=>?_,fun h=>?_⟩
  · rw [P0 (show i<l.length by omega) 0,I0] at k2
    refine ⟨by omega,fun _=>⟨hp,fun _=>⟨fun c=>?_,fun c=>⟨by omega,fun _=>ih (i+1) ⟨by omega,?_⟩ (by omega)⟩⟩⟩⟩
    · show (((i:Int),()):Int×Unit)=(idxOf (Q4 (some (q0,q1,q2,q3,q4,()))) l,())
      rw [k2,if_pos (show (Q4 (some (q0,q1,q2,q3,q4,()))) (l.getD i 0)=true from c)]
    · rw [k2,if_neg (show ¬ (Q4 (some (q0,q1,q2,q3,q4,()))) (l.getD i 0)=true from fun h9=>Bool.noConfusion (Eq.trans (Eq.symm h9) c))]
  · rw [List.drop_eq_nil_of_le (by omega)] at k2
    show (((-1:Int),()):Int×Unit)=(idxOf (Q4 (some (q0,q1,q2,q3,q4,()))) l,())
    rw [k2]; rfl
def b5n:w6:={ ps:=[.own (.d0 true s6),.s8 259 [b0e]],rs:=[.d0 true s6],pre:=fun x=>isT x.2.1.1,fn:=fun x=>(List.filter (α:=Int) (fun y=>!(Q4 x.2.1.1) y) x.1,()),out:=fun _=>() }
noncomputable def b0d:Env:={ P:=Try.prog,tt:=ttT,C7:=[(270,b5e),(259,a7t)],res:=[Go.ResultVar.tmp 4],rs:=[Ty.d0 true (Ty.int IntKind.i64)],ps:=[PK.own Is,PK.s8 259 [Ty.box false none (Ty.pair (Ty.int IntKind.i64) (Ty.pair (Ty.int IntKind.i64) (Ty.pair (Ty.hole Is) (Ty.pair (Ty.d0 false (Ty.int IntKind.i64)) (Ty.pair (Ty.d0 false (Ty.int IntKind.i64)) Ty.unit)))))]],C5:=[(5,[(0,some Is),(1,none),(5,none),(6,none)])],nt:=42 }
theorem a6O:B0 b0d:=B9 a3h ⟨b26,a4T,trivial⟩
theorem a6D:D0 b0d Try.f298:=⟨rfl,rfl⟩
theorem c0H (x0:List Int) (x1c0_b_1:Int) (x1c0_b_2_1:Int) (x1c0_b_2_2_1:List (List Int)) (x1c0_b_2_2_2_1:List Int) (x1c0_b_2_2_2_2_1:List Int):exec b0d 1000 [.code (d9 Try.prog 298)] (y8 b5n.ps ((x0,(some (x1c0_b_1,x1c0_b_2_1,x1c0_b_2_2_1,x1c0_b_2_2_2_1,x1c0_b_2_2_2_2_1,()),()),()))) =
  .f9 (isT (some (x1c0_b_1,x1c0_b_2_1,x1c0_b_2_2_1,x1c0_b_2_2_2_1,x1c0_b_2_2_2_2_1,()))) (cond (decide (idxOf (Q4 (some (x1c0_b_1,x1c0_b_2_1,x1c0_b_2_2_1,x1c0_b_2_2_2_1,x1c0_b_2_2_2_2_1,()))) x0=(-1:Int))) (.ret ((x0,()))) (.f9 (C3 IntKind.i64 (idxOf (Q4 (some (x1c0_b_1,x1c0_b_2_1,x1c0_b_2_2_1,x1c0_b_2_2_2_1,x1c0_b_2_2_2_2_1,()))) x0+(1:Int))) (.cut (i5 (d9 Try.prog 298) 5).1 (i5 (d9 Try.prog 298) 5).2 (St.mk [(0,AV.at_ 1000000 []),(1,AV.s8 259 (AV.cons (AV.D9 (Ty.box false none (Ty.pair (Ty.int IntKind.i64) (Ty.pair (Ty.int IntKind.i64) (Ty.pair (Ty.hole Is) (Ty.pair (Ty.d0 false (Ty.int IntKind.i64)) (Ty.pair (Ty.d0 false (Ty.int IntKind.i64)) Ty.unit)))))) (some (x1c0_b_1,x1c0_b_2_1,x1c0_b_2_2_1,x1c0_b_2_2_2_1,x1c0_b_2_2_2_2_1,()))) AV.nil)),(5,AV.val (Ty.int IntKind.i64) (idxOf (Q4 (some (x1c0_b_1,x1c0_b_2_1,x1c0_b_2_2_1,x1c0_b_2_2_2_1,x1c0_b_2_2_2_2_1,()))) x0)),(6,AV.val (Ty.int IntKind.i64) (idxOf (Q4 (some (x1c0_b_1,x1c0_b_2_1,x1c0_b_2_2_1,x1c0_b_2_2_2_1,x1c0_b_2_2_2_2_1,()))) x0+(1:Int)))] [(1000000,i6.own Is x0)])))):=by kernel_rfl
def b2q (v1a_b_1:Int) (v1a_b_2_1:Int) (v1a_b_2_2_1:List (List Int)) (v1a_b_2_2_2_1:List Int) (v1a_b_2_2_2_2_1:List Int) (v5:Int) (v6:Int) (o1000000:List Int):St:=St.mk [(0,AV.at_ 1000000 []),(1,AV.s8 259 (AV.cons (AV.D9 (Ty.box false none (Ty.pair (Ty.int IntKind.i64) (Ty.pair (Ty.int IntKind.i64) (Ty.pair (Ty.hole Is) (Ty.pair (Ty.d0 false (Ty.int IntKind.i64)) (Ty.pair (Ty.d0 false (Ty.int IntKind.i64)) Ty.unit)))))) (some (v1a_b_1,v1a_b_2_1,v1a_b_2_2_1,v1a_b_2_2_2_1,v1a_b_2_2_2_2_1,()))) AV.nil)),(5,AV.val (Ty.int IntKind.i64) v5),(6,AV.val (Ty.int IntKind.i64) v6)] [(1000000,i6.own Is o1000000)]
theorem b8W (v1a_b_1:Int) (v1a_b_2_1:Int) (v1a_b_2_2_1:List (List Int)) (v1a_b_2_2_2_1:List Int) (v1a_b_2_2_2_2_1:List Int) (v5:Int) (v6:Int) (o1000000:List Int):exec b0d 1000 (.code (i5 (d9 Try.prog 298) 5).1::.inLoop (i5 (d9 Try.prog 298) 5).1::(i5 (d9 Try.prog 298) 5).2) (b2q v1a_b_1 v1a_b_2_1 v1a_b_2_2_1 v1a_b_2_2_2_1 v1a_b_2_2_2_2_1 v5 v6 o1000000) =
  cond (decide (v6<(↑(List.length o1000000):Int))) (.f9 ((0:Int)≤v6∧v6<(↑(List.length o1000000):Int)) (.f9 (isT (some (v1a_b_1,v1a_b_2_1,v1a_b_2_2_1,v1a_b_2_2_2_1,v1a_b_2_2_2_2_1,()))) (cond (!Q4 (some (v1a_b_1,v1a_b_2_1,v1a_b_2_2_1,v1a_b_2_2_2_1,v1a_b_2_2_2_2_1,())) (List.getD o1000000 (Int.toNat v6) (0:Int))) (.f9 ((0:Int)≤v5∧v5<(↑(List.length o1000000):Int)) (.f9 (C3 IntKind.i64 (v5+(1:Int))) (.f9 (C3 IntKind.i64 (v6+(1:Int))) (.cut (i5 (d9 Try.prog 298) 5).1 (i5 (d9 Try.prog 298) 5).2 (St.mk [(0,AV.at_ 1000000 []),(1,AV.s8 259 (AV.cons (AV.D9 (Ty.box false none (Ty.pair (Ty.int IntKind.i64) (Ty.pair (Ty.int IntKind.i64) (Ty.pair (Ty.hole Is) (Ty.pair (Ty.d0 false (Ty.int IntKind.i64)) (Ty.pair (Ty.d0 false (Ty.int IntKind.i64)) Ty.unit)))))) (some (v1a_b_1,v1a_b_2_1,v1a_b_2_2_1,v1a_b_2_2_2_1,v1a_b_2_2_2_2_1,()))) AV.nil)),(5,AV.val (Ty.int IntKind.i64) (v5+(1:Int))),(6,AV.val (Ty.int IntKind.i64) (v6+(1:Int)))] [(1000000,i6.own Is (List.set o1000000 (Int.toNat v5) (List.getD o1000000 (Int.toNat v6) (0:Int))))]))))) (.f9 (C3 IntKind.i64 (v6+(1:Int))) (.cut (i5 (d9 Try.prog 298) 5).1 (i5 (d9 Try.prog 298) 5).2 (St.mk [(0,AV.at_ 1000000 []),(1,AV.s8 259 (AV.cons (AV.D9 (Ty.box false none (Ty.pair (Ty.int IntKind.i64) (Ty.pair (Ty.int IntKind.i64) (Ty.pair (Ty.hole Is) (Ty.pair (Ty.d0 false (Ty.int IntKind.i64)) (Ty.pair (Ty.d0 false (Ty.int IntKind.i64)) Ty.unit)))))) (some (v1a_b_1,v1a_b_2_1,v1a_b_2_2_1,v1a_b_2_2_2_1,v1a_b_2_2_2_2_1,()))) AV.nil)),(5,AV.val (Ty.int IntKind.i64) v5),(6,AV.val (Ty.int IntKind.i64) (v6+(1:Int)))] [(1000000,i6.own Is o1000000)])))))) (.f9 ((0:Int)≤v5∧v5≤(↑(List.length o1000000):Int)∧(↑(List.length o1000000):Int)≤(↑(List.length o1000000):Int)) (.f9 ((0:Int)≤(0:Int)∧(0:Int)≤v5∧v5≤(↑(List.length (List.take (Int.toNat v5) o1000000++List.replicate (Int.toNat ((↑(List.length o1000000):Int) - v5)) (0:Int)++List.drop (Int.toNat v5+List.length (List.replicate (Int.toNat ((↑(List.length o1000000):Int) - v5)) (0:Int))) o1000000)):Int)) (.ret ((B3 (0:Int) v5 (List.take (Int.toNat v5) o1000000++List.replicate (Int.toNat ((↑(List.length o1000000):Int) - v5)) (0:Int)++List.drop (Int.toNat v5+List.length (List.replicate (Int.toNat ((↑(List.length o1000000):Int) - v5)) (0:Int))) o1000000),()))))):=by kernel_rfl
theorem b3f:b5n.Valid Try.prog 298:=by
  refine w6.t6 a6O rfl rfl Try.func298 (c:=d9 Try.prog 298) rfl rfl a6D rfl ?_
  rintro ⟨(l:List (Int)),⟨(o:a4f),⟨⟩⟩,⟨⟩⟩ hp ⟨⟨hl,-⟩,-⟩
  have hl:l.length≤9223372036854775807:=hl
  obtain ⟨⟨q0,q1,q2,q3,q4,⟨⟩⟩,rfl⟩:=Option.isSome_iff_exists.1 hp
  have hp:isT (some (q0,q1,q2,q3,q4,())):=hp
  refine l8 (n:=1000) a6O a6D ?_
  refine j9 (c0H l q0 q1 q2 q3 q4) ?_
  simp only [s4,Tree.holds,true_and,true_implies,decide_eq_true_eq,decide_eq_false_iff_not,Bool.not_eq_true',Bool.not_eq_false',Int.toNat_natCast,x5,List.length_set,List.length_cons,List.length_nil]
  refine ⟨hp,fun _=>⟨fun c=>?_,fun c=>?_⟩⟩
  · show ((l,()):List (Int)×Unit)=(List.filter (fun y=>!(Q4 (some (q0,q1,q2,q3,q4,()))) y) l,())
    rw [a7n (b0M c)]
  obtain ⟨k,hk,hkl,hk0⟩:=P5.start (0) c
  rw [hk]
  refine ⟨by omega,fun _=>?_⟩
  refine Reach.N1 a6O a6D (fun s:List (Int)×Nat×Nat=>b2q q0 q1 q2 q3 q4 (s.2.1:Int) (s.2.2:Int) s.1) (fun s=>P5 (Q4 (some (q0,q1,q2,q3,q4,()))) l s.1 s.2.1 s.2.2) (fun s=>l.length - s.2.2) 1000 (fun _=>⟨x4 rfl,x4 rfl⟩) ?_ (l,k,k+1) hk0
  rintro ⟨m,i,j⟩ h0 - ih
  have h0:P5 (Q4 (some (q0,q1,q2,q3,q4,()))) l m i j:=h0
  refine j9 (b8W ..) ?_
  have q1:=h0.len
  have q2:=h0.lt
  have q3:=h0.le
  simp only [s4,Tree.holds,true_and,true_implies,decide_eq_true_eq,decide_eq_false_iff_not,Bool.not_eq_true',Bool.not_eq_false',Int.toNat_natCast,x5,List.length_set,List.length_cons,List.length_nil]
  refine ⟨fun c1=>⟨by omega,fun _=>⟨hp,fun _=>⟨fun c2=>⟨by omega,fun _=>⟨by omega,fun _=>⟨by omega,fun _=>ih (m.set i (m.getD j (0)),i+1,j+1) (h0.a21 (by omega) c2) (by show l.length - (j+1)<l.length - j; omega)⟩⟩⟩,fun c2=>⟨by omega,fun _=>ih (m,i,j+1) (h0.skip (by omega) c2) (by show l.length - (j+1)<l.length - j; omega)⟩⟩⟩⟩,fun c1=>⟨by omega,fun _=>⟨?_,fun _=>?_⟩⟩⟩
  · simp only [List.length_append,List.length_take,List.length_drop,List.length_replicate]; omega
  · exact congrArg (fun y=>(y,())) (h0.fin (by omega))
def a6m:w6:={ ps:=[.mu Is,.s8 259 [b0e]],rs:=[],pre:=fun x=>isT x.2.1.1,fn:=fun _=>(),out:=fun x=>(List.map (b4J x.2.1.1) x.1,()) }
noncomputable def a4j:Env:={ P:=Try.prog,tt:=ttT,C7:=[(298,b5n)],res:=[],rs:=[],ps:=[PK.mu Is,PK.s8 259 [Ty.box false none (Ty.pair (Ty.int IntKind.i64) (Ty.pair (Ty.int IntKind.i64) (Ty.pair (Ty.hole Is) (Ty.pair (Ty.d0 false (Ty.int IntKind.i64)) (Ty.pair (Ty.d0 false (Ty.int IntKind.i64)) Ty.unit)))))]],C5:=[(1,[(0,none),(1,none),(6,none),(7,none),(8,none)])],nt:=20 }
theorem a3e:B0 a4j:=B9 a3h ⟨b3f,trivial⟩
theorem a3d:D0 a4j Try.f258:=⟨rfl,rfl⟩
theorem b5O (x0:List (List Int)) (x1c0_b_1:Int) (x1c0_b_2_1:Int) (x1c0_b_2_2_1:List (List Int)) (x1c0_b_2_2_2_1:List Int) (x1c0_b_2_2_2_2_1:List Int):exec a4j 1000 [.code (d9 Try.prog 258)] (y8 a6m.ps ((x0,(some (x1c0_b_1,x1c0_b_2_1,x1c0_b_2_2_1,x1c0_b_2_2_2_1,x1c0_b_2_2_2_2_1,()),()),()))) =
  .cut (i5 (d9 Try.prog 258) 1).1 (i5 (d9 Try.prog 258) 1).2 (St.mk [(0,AV.at_ 2000000 []),(1,AV.s8 259 (AV.cons (AV.D9 (Ty.box false none (Ty.pair (Ty.int IntKind.i64) (Ty.pair (Ty.int IntKind.i64) (Ty.pair (Ty.hole Is) (Ty.pair (Ty.d0 false (Ty.int IntKind.i64)) (Ty.pair (Ty.d0 false (Ty.int IntKind.i64)) Ty.unit)))))) (some (x1c0_b_1,x1c0_b_2_1,x1c0_b_2_2_1,x1c0_b_2_2_2_1,x1c0_b_2_2_2_2_1,()))) AV.nil)),(6,AV.at_ 2000000 []),(7,AV.val (Ty.int IntKind.i64) (↑(List.length x0):Int)),(8,AV.val (Ty.int IntKind.i64) (0:Int))] [(2000000,i6.own (Ty.d0 true Is) x0)]):=by kernel_rfl
def a52 (v1a_b_1:Int) (v1a_b_2_1:Int) (v1a_b_2_2_1:List (List Int)) (v1a_b_2_2_2_1:List Int) (v1a_b_2_2_2_2_1:List Int) (v7:Int) (v8:Int) (o2000000:List (List Int)):St:=St.mk [(0,AV.at_ 2000000 []),(1,AV.s8 259 (AV.cons (AV.D9 (Ty.box false none (Ty.pair (Ty.int IntKind.i64) (Ty.pair (Ty.int IntKind.i64) (Ty.pair (Ty.hole Is) (Ty.pair (Ty.d0 false (Ty.int IntKind.i64)) (Ty.pair (Ty.d0 false (Ty.int IntKind.i64)) Ty.unit)))))) (some (v1a_b_1,v1a_b_2_1,v1a_b_2_2_1,v1a_b_2_2_2_1,v1a_b_2_2_2_2_1,()))) AV.nil)),(6,AV.at_ 2000000 []),(7,AV.val (Ty.int IntKind.i64) v7),(8,AV.val (Ty.int IntKind.i64) v8)] [(2000000,i6.own (Ty.d0 true Is) o2000000)]
theorem b3s (v1a_b_1:Int) (v1a_b_2_1:Int) (v1a_b_2_2_1:List (List Int)) (v1a_b_2_2_2_1:List Int) (v1a_b_2_2_2_2_1:List Int) (v7:Int) (v8:Int) (o2000000:List (List Int)):exec a4j 1000 (.code (i5 (d9 Try.prog 258) 1).1::.inLoop (i5 (d9 Try.prog 258) 1).1::(i5 (d9 Try.prog 258) 1).2) (a52 v1a_b_1 v1a_b_2_1 v1a_b_2_2_1 v1a_b_2_2_2_1 v1a_b_2_2_2_2_1 v7 v8 o2000000) =
  cond (decide (v8<v7)) (.f9 ((0:Int)≤v8∧v8<(↑(List.length o2000000):Int)) (.f9 (((0:Int)≤v8∧v8<(↑(List.length o2000000):Int))∧[]++[Step.idx v8]=[]++[Step.idx v8]∧isT (some (v1a_b_1,v1a_b_2_1,v1a_b_2_2_1,v1a_b_2_2_2_1,v1a_b_2_2_2_2_1,()))) (.f9 (C3 IntKind.i64 (v8+(1:Int))) (.cut (i5 (d9 Try.prog 258) 1).1 (i5 (d9 Try.prog 258) 1).2 (St.mk [(0,AV.at_ 2000000 []),(1,AV.s8 259 (AV.cons (AV.D9 (Ty.box false none (Ty.pair (Ty.int IntKind.i64) (Ty.pair (Ty.int IntKind.i64) (Ty.pair (Ty.hole Is) (Ty.pair (Ty.d0 false (Ty.int IntKind.i64)) (Ty.pair (Ty.d0 false (Ty.int IntKind.i64)) Ty.unit)))))) (some (v1a_b_1,v1a_b_2_1,v1a_b_2_2_1,v1a_b_2_2_2_1,v1a_b_2_2_2_2_1,()))) AV.nil)),(6,AV.at_ 2000000 []),(7,AV.val (Ty.int IntKind.i64) v7),(8,AV.val (Ty.int IntKind.i64) (v8+(1:Int)))] [(2000000,i6.own (Ty.d0 true Is) (List.set o2000000 (Int.toNat v8) (List.filter (fun y=>!Q4 (some (v1a_b_1,v1a_b_2_1,v1a_b_2_2_1,v1a_b_2_2_2_1,v1a_b_2_2_2_2_1,())) y) (List.getD o2000000 (Int.toNat v8) []))))]))))) (.ret ((o2000000,()))):=by kernel_rfl
theorem b0G {α:Type} {f:α→α} {l:List α} {i:Nat} (h:i<l.length) (d:α):((l.take i).map f++l.drop i).set i (f (l.getD i d))=(l.take (i+1)).map f++l.drop (i+1):=by
  have hl:((l.take i).map f).length=i:=by rw [List.length_map,List.length_take]; omega
  rw [a2j h d,List.map_append,P0 h d,List.set_append_right _ _ (by omega),hl,Nat.sub_self]
  simp
theorem b0H {α:Type} {f:α→α} {l:List α} {i:Nat} (d:α):((l.take i).map f++l.drop i).getD i d=l.getD i d:=by
  by_cases h:i<l.length
  · have hl:((l.take i).map f).length=i:=by rw [List.length_map,List.length_take]; omega
    rw [a1r (by omega),hl,Nat.sub_self,P0 h d]; rfl
  · rw [List.drop_eq_nil_of_le (by omega),List.append_nil,List.getD_eq_getElem?_getD,List.getD_eq_getElem?_getD,List.getElem?_eq_none (by rw [List.length_map,List.length_take]; omega),List.getElem?_eq_none (by omega)]
theorem a8g:a6m.Valid Try.prog 258:=by
  refine w6.t6 a3e rfl rfl Try.func258 (c:=d9 Try.prog 258) rfl rfl a3d rfl ?_
  rintro ⟨(l:List (List Int)),⟨(o:a4f),⟨⟩⟩,⟨⟩⟩ hp ⟨⟨hl,-⟩,-⟩
  have hl:l.length≤9223372036854775807:=hl
  obtain ⟨⟨q0,q1,q2,q3,q4,⟨⟩⟩,rfl⟩:=Option.isSome_iff_exists.1 hp
  refine l8 (n:=1000) a3e a3d ?_
  refine j9 (b5O l q0 q1 q2 q3 q4) ?_
  refine Reach.N1 a3e a3d (fun i:Nat=>a52 q0 q1 q2 q3 q4 (l.length:Int) (i:Int) ((l.take i).map (b4J (some (q0,q1,q2,q3,q4,())))++l.drop i)) (fun i=>i≤l.length) (fun i=>l.length - i) 1000 (fun _=>⟨x4 rfl,x4 rfl⟩) ?_ 0 (by omega)
  rintro i k1 - ih
  have k1:i≤l.length:=k1
  have hln:((l.take i).map (b4J (some (q0,q1,q2,q3,q4,())))++l.drop i).length=l.length:=by simp; omega
  refine j9 (b3s ..) ?_
  simp only [s4,Tree.holds,true_and,true_implies,decide_eq_true_eq,decide_eq_false_iff_not,Bool.not_eq_true',Bool.not_eq_false',Int.toNat_natCast,x5,List.length_set,List.length_cons,List.length_nil,b0H]
  rw [hln]
  refine ⟨fun c=>?_,fun c=>?_⟩
  · have next:=ih (i+1) (by show i+1≤l.length; omega) (by omega)
    rw [← b0G (by omega) []] at next
    exact ⟨by omega,fun _=>⟨⟨by omega,rfl⟩,fun _=>⟨by omega,fun _=>next⟩⟩⟩
  · rw [List.take_of_length_le (by omega),List.drop_eq_nil_of_le (by omega),List.append_nil]; rfl
def a0V (w l:List Int):List Int:=l++w.take (100 - l.length)
def b4q (t:O5):O5 :=
  (t.1,Int.tmod (t.2.1+1) t.1,t.2.2.1.map (List.filter (fun n=>!decide (n∈a0V (t.2.2.1.getD t.2.1.toNat []) t.2.2.2.1))),a0V (t.2.2.1.getD t.2.1.toNat []) t.2.2.2.1,t.2.2.2.2.1,())
def b1a:w6:={ ps:=[.rw a93],rs:=[],pre:=fun x=>(LE.le (α:=Int) 0 x.1.2.1∧LE.le (α:=Int) x.1.2.1 5∧LT.lt (α:=Int) x.1.2.1 (List.length (α:=List Int) x.1.2.2.1))∧LT.lt (α:=Int) 0 x.1.1∧List.length (α:=Int) x.1.2.2.2.1≤100∧(List.getD (α:=List Int) x.1.2.2.1 (Int.toNat x.1.2.1) []).length≤30,fn:=fun _=>(),out:=fun x=>(b4q x.1,()) }
noncomputable def a7H:Env:={ P:=Try.prog,tt:=ttT,C7:=[(258,a6m)],res:=[],rs:=[],ps:=[PK.rw (Ty.pair (Ty.int IntKind.i64) (Ty.pair (Ty.int IntKind.i64) (Ty.pair (Ty.d0 true Is) (Ty.pair Is (Ty.pair Is Ty.unit)))))],C5:=[(2,[(1,none),(13,none),(14,none),(15,none)])],nt:=55 }
theorem a5f:B0 a7H:=B9 a3h ⟨a8g,trivial⟩
theorem a5d:D0 a7H Try.f185:=⟨rfl,rfl⟩
theorem b8F (x0_1:Int) (x0_2_1:Int) (x0_2_2_1:List (List Int)) (x0_2_2_2_1:List Int) (x0_2_2_2_2_1:List Int):exec a7H 1000 [.code (d9 Try.prog 185)] (y8 b1a.ps (((x0_1,x0_2_1,x0_2_2_1,x0_2_2_2_1,x0_2_2_2_2_1,()),()))) =
  .f9 ((0:Int)≤x0_2_1∧x0_2_1<(↑(List.length x0_2_2_1):Int)) (.cut (i5 (d9 Try.prog 185) 2).1 (i5 (d9 Try.prog 185) 2).2 (St.mk [(1,AV.bx (AV.ptr 2000000 [])),(13,AV.at_ 2000000 [Step.j6 2,Step.idx x0_2_1]),(14,AV.val (Ty.int IntKind.i64) (↑(List.length (List.getD x0_2_2_1 (Int.toNat x0_2_1) [])):Int)),(15,AV.val (Ty.int IntKind.i64) (0:Int))] [(2000000,i6.var (Ty.pair (Ty.int IntKind.i64) (Ty.pair (Ty.int IntKind.i64) (Ty.pair (Ty.d0 true Is) (Ty.pair Is (Ty.pair Is Ty.unit))))) (x0_1,x0_2_1,x0_2_2_1,x0_2_2_2_1,x0_2_2_2_2_1,()))])):=by kernel_rfl
def a9t (v13i:Int) (v14:Int) (v15:Int) (o2000000_1:Int) (o2000000_2_1:Int) (o2000000_2_2_1:List (List Int)) (o2000000_2_2_2_1:List Int) (o2000000_2_2_2_2_1:List Int):St:=St.mk [(1,AV.bx (AV.ptr 2000000 [])),(13,AV.at_ 2000000 [Step.j6 2,Step.idx v13i]),(14,AV.val (Ty.int IntKind.i64) v14),(15,AV.val (Ty.int IntKind.i64) v15)] [(2000000,i6.var (Ty.pair (Ty.int IntKind.i64) (Ty.pair (Ty.int IntKind.i64) (Ty.pair (Ty.d0 true Is) (Ty.pair Is (Ty.pair Is Ty.unit))))) (o2000000_1,o2000000_2_1,o2000000_2_2_1,o2000000_2_2_2_1,o2000000_2_2_2_2_1,()))]
theorem b7z (v13i:Int) (v14:Int) (v15:Int) (o2000000_1:Int) (o2000000_2_1:Int) (o2000000_2_2_1:List (List Int)) (o2000000_2_2_2_1:List Int) (o2000000_2_2_2_2_1:List Int):exec a7H 1000 (.code (i5 (d9 Try.prog 185) 2).1::.inLoop (i5 (d9 Try.prog 185) 2).1::(i5 (d9 Try.prog 185) 2).2) (a9t v13i v14 v15 o2000000_1 o2000000_2_1 o2000000_2_2_1 o2000000_2_2_2_1 o2000000_2_2_2_2_1) =
  cond (decide (v15<v14)) (.f9 ((0:Int)≤v15∧v15<(↑(List.length (List.getD o2000000_2_2_1 (Int.toNat v13i) [])):Int)) (cond (decide ((↑(List.length o2000000_2_2_2_1):Int)<(100:Int))) (.f9 ([]++[Step.j6 3]=[]++[Step.j6 3]∧List.length o2000000_2_2_2_1+List.length (List.set [(0:Int)] (Int.toNat (↑0:Int)) (List.getD (List.getD o2000000_2_2_1 (Int.toNat v13i) []) (Int.toNat v15) (0:Int)))≤140737488355328∧(List.length o2000000_2_2_2_1+List.length (List.set [(0:Int)] (Int.toNat (↑0:Int)) (List.getD (List.getD o2000000_2_2_1 (Int.toNat v13i) []) (Int.toNat v15) (0:Int))))*Ty.wb (Ty.int IntKind.i64)≤140737488355328) (.f9 (C3 IntKind.i64 (v15+(1:Int))) (.cut (i5 (d9 Try.prog 185) 2).1 (i5 (d9 Try.prog 185) 2).2 (St.mk [(1,AV.bx (AV.ptr 2000000 [])),(13,AV.at_ 2000000 [Step.j6 2,Step.idx v13i]),(14,AV.val (Ty.int IntKind.i64) v14),(15,AV.val (Ty.int IntKind.i64) (v15+(1:Int)))] [(2000000,i6.var (Ty.pair (Ty.int IntKind.i64) (Ty.pair (Ty.int IntKind.i64) (Ty.pair (Ty.d0 true Is) (Ty.pair Is (Ty.pair Is Ty.unit))))) (o2000000_1,o2000000_2_1,o2000000_2_2_1,o2000000_2_2_2_1++List.set [(0:Int)] (Int.toNat (↑0:Int)) (List.getD (List.getD o2000000_2_2_1 (Int.toNat v13i) []) (Int.toNat v15) (0:Int)),o2000000_2_2_2_2_1,()))])))) (.f9 (C3 IntKind.i64 (v15+(1:Int))) (.cut (i5 (d9 Try.prog 185) 2).1 (i5 (d9 Try.prog 185) 2).2 (St.mk [(1,AV.bx (AV.ptr 2000000 [])),(13,AV.at_ 2000000 [Step.j6 2,Step.idx v13i]),(14,AV.val (Ty.int IntKind.i64) v14),(15,AV.val (Ty.int IntKind.i64) (v15+(1:Int)))] [(2000000,i6.var (Ty.pair (Ty.int IntKind.i64) (Ty.pair (Ty.int IntKind.i64) (Ty.pair (Ty.d0 true Is) (Ty.pair Is (Ty.pair Is Ty.unit))))) (o2000000_1,o2000000_2_1,o2000000_2_2_1,o2000000_2_2_2_1,o2000000_2_2_2_2_1,()))]))))) (.f9 (True∧isT (some (o2000000_1,o2000000_2_1,[],o2000000_2_2_2_1,o2000000_2_2_2_2_1,()))) (.f9 (C3 IntKind.i64 (o2000000_2_1+(1:Int))) (.f9 ((0:Int)<o2000000_1) (.ret (((o2000000_1,Int.tmod (o2000000_2_1+(1:Int)) o2000000_1,List.map (b4J (some (o2000000_1,o2000000_2_1,[],o2000000_2_2_2_1,o2000000_2_2_2_2_1,()))) o2000000_2_2_1,o2000000_2_2_2_1,o2000000_2_2_2_2_1,()),())))))):=by kernel_rfl
theorem b09:b1a.Valid Try.prog 185:=by
  refine w6.t6 a5f rfl rfl Try.func185 (c:=d9 Try.prog 185) rfl rfl a5d rfl ?_
  rintro ⟨⟨(n:Int),(h:Int),(w:List (List Int)),(l:List Int),(d:List Int),⟨⟩⟩,⟨⟩⟩ ⟨⟨(h1:0≤h),(h2:h≤5),(h3:h<w.length)⟩,(h4:0<n),(h5:l.length≤100),(h6:(w.getD h.toNat []).length≤30)⟩ -
  refine l8 (n:=1000) a5f a5d ?_
  refine j9 (b8F n h w l d) ?_
  refine ⟨⟨h1,h3⟩,fun _=>?_⟩
  refine Reach.N1 a5f a5d (fun s:Nat×List Int=>a9t h ((w.getD h.toNat []).length:Int) (s.1:Int) n h w s.2 d) (fun s=>s.1≤(w.getD h.toNat []).length∧s.2=a0V ((w.getD h.toNat []).take s.1) l) (fun s=>(w.getD h.toNat []).length - s.1) 1000 (fun _=>⟨x4 rfl,x4 rfl⟩) ?_ (0,l) ⟨by omega,by simp [a0V]⟩
  rintro ⟨i,m⟩ ⟨k1,k2⟩ - ih
  have k1:i≤(w.getD h.toNat []).length:=k1
  have k2:m=a0V ((w.getD h.toNat []).take i) l:=k2
  refine j9 (b7z ..) ?_
  have hml:m.length=min 100 (l.length+i):=by
    rw [k2,a0V,List.length_append,List.length_take,List.length_take]; omega
  simp only [s4,Tree.holds,true_and,true_implies,decide_eq_true_eq,decide_eq_false_iff_not,Bool.not_eq_true',Bool.not_eq_false',Int.toNat_natCast,x5,List.length_set,List.length_cons,List.length_nil,b0f]
  refine ⟨fun c=>⟨by omega,fun _=>⟨fun c2=>⟨⟨by omega,by omega⟩,fun _=>⟨by omega,fun _=>ih (i+1,m++[(w.getD h.toNat []).getD i 0]) ⟨by show i+1≤_; omega,?_⟩ (by show _ - (i+1)<_ - i; omega)⟩⟩,fun c2=>⟨by omega,fun _=>ih (i+1,m) ⟨by show i+1≤_; omega,?_⟩ (by show _ - (i+1)<_ - i; omega)⟩⟩⟩,fun c=>⟨rfl,fun _=>⟨by omega,fun _=>⟨h4,fun _=>?_⟩⟩⟩⟩
  · show m++[(w.getD h.toNat []).getD i 0]=a0V ((w.getD h.toNat []).take (i+1)) l
    have h7:i<(w.getD h.toNat []).length:=by omega
    rw [k2,a0V,a0V,a2j h7 0,List.append_assoc]
    congr 1
    have h8:((w.getD h.toNat []).take i).length<100 - l.length:=by rw [List.length_take]; omega
    rw [List.take_of_length_le (show ((w.getD h.toNat []).take i).length≤100 - l.length by omega),List.take_of_length_le (show ((w.getD h.toNat []).take i++[(w.getD h.toNat []).getD i 0]).length≤100 - l.length by rw [List.length_append,List.length_singleton]; omega)]
  · show m=a0V ((w.getD h.toNat []).take (i+1)) l
    have h7:i<(w.getD h.toNat []).length:=by omega
    rw [k2,a0V,a0V,a2j h7 0]
    congr 1
    rw [List.take_append_of_le_length (show 100 - l.length≤((w.getD h.toNat []).take i).length by rw [List.length_take]; omega)]
  · have e:i=(w.getD h.toNat []).length:=by omega
    rw [e,List.take_of_length_le (Nat.le_refl _)] at k2
    rw [k2]; rfl
end Go.Proofs.Ytekbamiaenbhjaa
