/- The contracts of the package turn's functions: Check and what it calls, clone. No condition but those named. -/
import Derived.Test.YtekbamiaenbhjaaOver
namespace Go.Proofs.Ytekbamiaenbhjaa
open Go.Ex
set_option maxRecDepth 100000
def ttT:List (TypeId×TI):=(301,TI.mk (Ty.box true none a93) 8)::tt
theorem a3h:ttT.all (a3D Try.prog)=true:=by kernel_rfl
abbrev O5:=Int×Int×List (List Int)×List Int×List Int×Unit
def b1b:w6:={ ps:=[.v s6,.v s6,.v s6],rs:=[.bool],pre:=fun _=>True,fn:=fun x=>(K4 x.1 x.2.1 x.2.2.1,()),out:=fun _=>() }
noncomputable def b8G:Env:={ P:=Try.prog,tt:=tt,C7:=[],res:=[Go.ResultVar.tmp 6],rs:=[Ty.bool],ps:=[PK.v (Ty.int IntKind.i64),PK.v (Ty.int IntKind.i64),PK.v (Ty.int IntKind.i64)],C5:=[],nt:=15 }
theorem b4f:B0 b8G:=B9 t8 trivial
theorem b4a:D0 b8G Try.f182:=⟨rfl,rfl⟩
theorem c1p (x0:Int) (x1:Int) (x2:Int):exec b8G 1000 [.code (d9 Try.prog 182)] (y8 b1b.ps ((x0,x1,x2,()))) =
  cond (decide (x1≤x0)) (.ret ((decide (x0≤x2),()))) (.ret ((false,()))):=by kernel_rfl
theorem a32:b1b.Valid Try.prog 182:=by
  refine w6.t6 b4f rfl rfl Try.func182 (c:=d9 Try.prog 182) rfl rfl b4a rfl ?_
  rintro ⟨(a:Int),(b:Int),(c:Int),⟨⟩⟩ - -
  refine l8 (n:=1000) b4f b4a ?_
  refine j9 (c1p a b c) ?_
  simp only [s4,Tree.holds,true_and,true_implies,decide_eq_true_eq,decide_eq_false_iff_not,Bool.not_eq_true',Bool.not_eq_false',Int.toNat_natCast,x5,List.length_set,List.length_cons,List.length_nil]
  repeat' first|exact trivial|(refine And.intro ?_ ?_)|(intro _)
  all_goals (show ((_,()):Bool×Unit)=(K4 a b c,()); simp [K4, *])
def a7R (n:Int):Bool:=K4 n 0 29
def a90:w6:={ ps:=[.v s6],rs:=[.bool],pre:=fun _=>True,fn:=fun x=>(a7R x.1,()),out:=fun _=>() }
noncomputable def b5R:Env:={ P:=Try.prog,tt:=tt,C7:=[(182,b1b)],res:=[Go.ResultVar.tmp 2],rs:=[Ty.bool],ps:=[PK.v (Ty.int IntKind.i64)],C5:=[],nt:=5 }
theorem b1Z:B0 b5R:=B9 t8 ⟨a32,trivial⟩
theorem b1J:D0 b5R Try.f183:=⟨rfl,rfl⟩
theorem c0p (x0:Int):exec b5R 1000 [.code (d9 Try.prog 183)] (y8 a90.ps ((x0,()))) =
  .f9 (True) (.ret ((K4 x0 (0:Int) (29:Int),()))):=by kernel_rfl
theorem a5U:a90.Valid Try.prog 183:=by
  refine w6.t6 b1Z rfl rfl Try.func183 (c:=d9 Try.prog 183) rfl rfl b1J rfl ?_
  rintro ⟨(n:Int),⟨⟩⟩ - -
  refine l8 (n:=1000) b1Z b1J ?_
  refine j9 (c0p n) ?_
  exact ⟨trivial,fun _=>rfl⟩
def a7S (l:List Int) (i:Nat):Bool:=!a7R (l.getD i 0) || decide (l.getD i 0∈l.take i)
def a1w (f:Nat→Bool):Nat→Bool
  | 0=>false
  | k+1=>a1w f k || f k
theorem a5E {f:Nat→Bool}:∀ {n:Nat},a1w f n=false↔∀ k,k<n→f k=false
  | 0=>by simp [a1w]
  | n+1=>by
    rw [a1w,Bool.or_eq_false_iff,a5E (n:=n)]
    constructor
    · rintro ⟨h1,h2⟩ k hk
      by_cases e:k=n
      · rw [e]; exact h2
      · exact h1 k (by omega)
    · intro h; exact ⟨fun k hk=>h k (by omega),h n (by omega)⟩
theorem b1B {f:Nat→Bool} {k n:Nat} (h:f k=true) (hk:k<n):a1w f n=true:=by
  cases e:a1w f n with
  | true=>rfl
  | false=>rw [a5E.1 e k hk] at h; cases h
theorem tnf {b:Bool} (h:b=true):¬ b=false:=by rw [h]; simp
def Z6 (l:List Int):Bool:=a1w (a7S l) l.length
theorem b99 {α:Type} {l:List α} {i:Nat}:B3 0 (i:Int) l=l.take i:=by
  rw [B3,show ((i:Int) - 0).toNat=i by omega]; rfl
def b06:w6:={ ps:=[.v (.d0 false s6)],rs:=[.bool],pre:=fun _=>True,fn:=fun x=>(Z6 x.1,()),out:=fun _=>() }
noncomputable def a7G:Env:={ P:=Try.prog,tt:=tt,C7:=[(183,a90),(48,a3w)],res:=[Go.ResultVar.tmp 2],rs:=[Ty.bool],ps:=[PK.v (Ty.d0 false (Ty.int IntKind.i64))],C5:=[(2,[(0,none),(5,none),(6,none),(7,none)])],nt:=23 }
theorem a5e:B0 a7G:=B9 t8 ⟨a5U,a1b,trivial⟩
theorem a5c:D0 a7G Try.f256:=⟨rfl,rfl⟩
theorem b8D (x0:List Int):exec a7G 1000 [.code (d9 Try.prog 256)] (y8 b06.ps ((x0,()))) =
  .cut (i5 (d9 Try.prog 256) 2).1 (i5 (d9 Try.prog 256) 2).2 (St.mk [(0,AV.val (Ty.d0 false (Ty.int IntKind.i64)) x0),(5,AV.val (Ty.d0 false (Ty.int IntKind.i64)) x0),(6,AV.val (Ty.int IntKind.i64) (↑(List.length x0):Int)),(7,AV.val (Ty.int IntKind.i64) (0:Int))] []):=by kernel_rfl
def a9r (v0:List Int) (v5:List Int) (v6:Int) (v7:Int):St:=St.mk [(0,AV.val (Ty.d0 false (Ty.int IntKind.i64)) v0),(5,AV.val (Ty.d0 false (Ty.int IntKind.i64)) v5),(6,AV.val (Ty.int IntKind.i64) v6),(7,AV.val (Ty.int IntKind.i64) v7)] []
theorem b7y (v0:List Int) (v5:List Int) (v6:Int) (v7:Int):exec a7G 1000 (.code (i5 (d9 Try.prog 256) 2).1::.inLoop (i5 (d9 Try.prog 256) 2).1::(i5 (d9 Try.prog 256) 2).2) (a9r v0 v5 v6 v7) =
  cond (decide (v7<v6)) (.f9 ((0:Int)≤v7∧v7<(↑(List.length v5):Int)) (.f9 (True) (cond (!a7R (List.getD v5 (Int.toNat v7) (0:Int))) (.ret ((true,()))) (.f9 ((0:Int)≤(0:Int)∧(0:Int)≤v7∧v7≤(↑(List.length v0):Int)) (.f9 (True) (cond (decide (List.getD v5 (Int.toNat v7) (0:Int)∈B3 (0:Int) v7 v0)) (.ret ((true,()))) (.f9 (C3 IntKind.i64 (v7+(1:Int))) (.cut (i5 (d9 Try.prog 256) 2).1 (i5 (d9 Try.prog 256) 2).2 (St.mk [(0,AV.val (Ty.d0 false (Ty.int IntKind.i64)) v0),(5,AV.val (Ty.d0 false (Ty.int IntKind.i64)) v5),(6,AV.val (Ty.int IntKind.i64) v6),(7,AV.val (Ty.int IntKind.i64) (v7+(1:Int)))] []))))))))) (.ret ((false,()))):=by kernel_rfl
theorem b05:b06.Valid Try.prog 256:=by
  refine w6.t6 a5e rfl rfl Try.func256 (c:=d9 Try.prog 256) rfl rfl a5c rfl ?_
  rintro ⟨(l:List Int),⟨⟩⟩ - ⟨⟨hl,-⟩,-⟩
  have hl:l.length≤9223372036854775807:=hl
  refine l8 (n:=1000) a5e a5c ?_
  refine j9 (b8D l) ?_
  refine Reach.N1 a5e a5c (fun i:Nat=>a9r l l (l.length:Int) (i:Int)) (fun i=>i≤l.length∧a1w (a7S l) i=false) (fun i=>l.length - i) 1000 (fun _=>⟨x4 rfl,x4 rfl⟩) ?_ 0 ⟨by omega,rfl⟩
  rintro i ⟨k1,k2⟩ - ih
  have k1:i≤l.length:=k1
  refine j9 (b7y ..) ?_
  simp only [s4,Tree.holds,true_and,true_implies,decide_eq_true_eq,decide_eq_false_iff_not,Bool.not_eq_true',Bool.not_eq_false',Int.toNat_natCast,x5,List.length_set,List.length_cons,List.length_nil,b99]
  have yes:a7S l i=true→i<l.length→((true,()):Bool×Unit)=(Z6 l,()):=fun h h2=>by rw [Z6,b1B h h2]
  refine ⟨fun a=>⟨by omega,fun _=>⟨fun b=>yes (by rw [a7S,b]; rfl) (by omega),fun b=>⟨by omega,fun _=>⟨fun c=>yes ?_ (by omega),fun c=>⟨by omega,fun _=>ih (i+1) ⟨by omega,?_⟩ (by omega)⟩⟩⟩⟩⟩,fun a=>?_⟩
  · rw [a7S,decide_eq_true c,Bool.or_true]
  · rw [a1w,k2,a7S,b,decide_eq_false c]; rfl
  · rw [Z6,show l.length=i by omega,k2]; rfl
def inC (t:O5) (n:Int):Bool:=decide (n∈t.2.2.2.1)
def b8q:w6:={ ps:=[.v s6,.rd a1x],rs:=[.bool],pre:=fun _=>True,fn:=fun x=>(inC x.2.1 x.1,()),out:=fun _=>() }
noncomputable def b8L:Env:={ P:=Try.prog,tt:=tt,C7:=[(48,a3w)],res:=[Go.ResultVar.tmp 3],rs:=[Ty.bool],ps:=[PK.v (Ty.int IntKind.i64),PK.rd (Ty.pair (Ty.int IntKind.i64) (Ty.pair (Ty.int IntKind.i64) (Ty.pair (Ty.d0 false (Ty.d0 false (Ty.int IntKind.i64))) (Ty.pair (Ty.d0 false (Ty.int IntKind.i64)) (Ty.pair (Ty.d0 false (Ty.int IntKind.i64)) Ty.unit)))))],C5:=[],nt:=8 }
theorem b4i:B0 b8L:=B9 t8 ⟨a1b,trivial⟩
theorem b4c:D0 b8L Try.f257:=⟨rfl,rfl⟩
theorem c1s (x0:Int) (x1_1:Int) (x1_2_1:Int) (x1_2_2_1:List (List Int)) (x1_2_2_2_1:List Int) (x1_2_2_2_2_1:List Int):exec b8L 1000 [.code (d9 Try.prog 257)] (y8 b8q.ps ((x0,(x1_1,x1_2_1,x1_2_2_1,x1_2_2_2_1,x1_2_2_2_2_1,()),()))) =
  .f9 (True) (.ret ((decide (x0∈x1_2_2_2_1),()))):=by kernel_rfl
theorem b5a:b8q.Valid Try.prog 257:=by
  refine w6.t6 b4i rfl rfl Try.func257 (c:=d9 Try.prog 257) rfl rfl b4c rfl ?_
  rintro ⟨(x:Int),⟨(n:Int),(h:Int),(w:List (List Int)),(l:List Int),(d:List Int),⟨⟩⟩,⟨⟩⟩ - -
  refine l8 (n:=1000) b4i b4c ?_
  refine j9 (c1s x n h w l d) ?_
  exact ⟨trivial,fun _=>rfl⟩
def b5h:w6:={ ps:=[.v (.d0 false s6),.s8 257 [a1x]],rs:=[s6],pre:=fun x=>True,fn:=fun x=>(idxOf (inC x.2.1.1) x.1,()),out:=fun _=>() }
noncomputable def b0a:Env:={ P:=Try.prog,tt:=tt,C7:=[(257,b8q)],res:=[Go.ResultVar.tmp 4],rs:=[Ty.int IntKind.i64],ps:=[PK.v (Ty.d0 false (Ty.int IntKind.i64)),PK.s8 257 [Ty.pair (Ty.int IntKind.i64) (Ty.pair (Ty.int IntKind.i64) (Ty.pair (Ty.d0 false (Ty.d0 false (Ty.int IntKind.i64))) (Ty.pair (Ty.d0 false (Ty.int IntKind.i64)) (Ty.pair (Ty.d0 false (Ty.int IntKind.i64)) Ty.unit))))]],C5:=[(2,[(0,none),(1,none),(7,none),(8,none)])],nt:=19 }
theorem a6K:B0 b0a:=B9 t8 ⟨b5a,trivial⟩
theorem a6A:D0 b0a Try.f270:=⟨rfl,rfl⟩
theorem c0A (x0:List Int) (x1c0_1:Int) (x1c0_2_1:Int) (x1c0_2_2_1:List (List Int)) (x1c0_2_2_2_1:List Int) (x1c0_2_2_2_2_1:List Int):exec b0a 1000 [.code (d9 Try.prog 270)] (y8 b5h.ps ((x0,((x1c0_1,x1c0_2_1,x1c0_2_2_1,x1c0_2_2_2_1,x1c0_2_2_2_2_1,()),()),()))) =
  .cut (i5 (d9 Try.prog 270) 2).1 (i5 (d9 Try.prog 270) 2).2 (St.mk [(0,AV.val (Ty.d0 false (Ty.int IntKind.i64)) x0),(1,AV.s8 257 (AV.cons (AV.D9 (Ty.pair (Ty.int IntKind.i64) (Ty.pair (Ty.int IntKind.i64) (Ty.pair (Ty.d0 false (Ty.d0 false (Ty.int IntKind.i64))) (Ty.pair (Ty.d0 false (Ty.int IntKind.i64)) (Ty.pair (Ty.d0 false (Ty.int IntKind.i64)) Ty.unit))))) (x1c0_1,x1c0_2_1,x1c0_2_2_1,x1c0_2_2_2_1,x1c0_2_2_2_2_1,())) AV.nil)),(7,AV.val (Ty.int IntKind.i64) (↑(List.length x0):Int)),(8,AV.val (Ty.int IntKind.i64) (0:Int))] []):=by kernel_rfl
def b2j (v0:List Int) (v1a_1:Int) (v1a_2_1:Int) (v1a_2_2_1:List (List Int)) (v1a_2_2_2_1:List Int) (v1a_2_2_2_2_1:List Int) (v7:Int) (v8:Int):St:=St.mk [(0,AV.val (Ty.d0 false (Ty.int IntKind.i64)) v0),(1,AV.s8 257 (AV.cons (AV.D9 (Ty.pair (Ty.int IntKind.i64) (Ty.pair (Ty.int IntKind.i64) (Ty.pair (Ty.d0 false (Ty.d0 false (Ty.int IntKind.i64))) (Ty.pair (Ty.d0 false (Ty.int IntKind.i64)) (Ty.pair (Ty.d0 false (Ty.int IntKind.i64)) Ty.unit))))) (v1a_1,v1a_2_1,v1a_2_2_1,v1a_2_2_2_1,v1a_2_2_2_2_1,())) AV.nil)),(7,AV.val (Ty.int IntKind.i64) v7),(8,AV.val (Ty.int IntKind.i64) v8)] []
theorem b8S (v0:List Int) (v1a_1:Int) (v1a_2_1:Int) (v1a_2_2_1:List (List Int)) (v1a_2_2_2_1:List Int) (v1a_2_2_2_2_1:List Int) (v7:Int) (v8:Int):exec b0a 1000 (.code (i5 (d9 Try.prog 270) 2).1::.inLoop (i5 (d9 Try.prog 270) 2).1::(i5 (d9 Try.prog 270) 2).2) (b2j v0 v1a_1 v1a_2_1 v1a_2_2_1 v1a_2_2_2_1 v1a_2_2_2_2_1 v7 v8) =
  cond (decide (v8<v7)) (.f9 ((0:Int)≤v8∧v8<(↑(List.length v0):Int)) (.f9 (True) (cond (inC (v1a_1,v1a_2_1,v1a_2_2_1,v1a_2_2_2_1,v1a_2_2_2_2_1,()) (List.getD v0 (Int.toNat v8) (0:Int))) (.ret ((v8,()))) (.f9 (C3 IntKind.i64 (v8+(1:Int))) (.cut (i5 (d9 Try.prog 270) 2).1 (i5 (d9 Try.prog 270) 2).2 (St.mk [(0,AV.val (Ty.d0 false (Ty.int IntKind.i64)) v0),(1,AV.s8 257 (AV.cons (AV.D9 (Ty.pair (Ty.int IntKind.i64) (Ty.pair (Ty.int IntKind.i64) (Ty.pair (Ty.d0 false (Ty.d0 false (Ty.int IntKind.i64))) (Ty.pair (Ty.d0 false (Ty.int IntKind.i64)) (Ty.pair (Ty.d0 false (Ty.int IntKind.i64)) Ty.unit))))) (v1a_1,v1a_2_1,v1a_2_2_1,v1a_2_2_2_1,v1a_2_2_2_2_1,())) AV.nil)),(7,AV.val (Ty.int IntKind.i64) v7),(8,AV.val (Ty.int IntKind.i64) (v8+(1:Int)))] [])))))) (.ret (((-1:Int),()))):=by kernel_rfl
theorem b29:b5h.Valid Try.prog 270:=by
  refine w6.t6 a6K rfl rfl Try.func270 (c:=d9 Try.prog 270) rfl rfl a6A rfl ?_
  rintro ⟨(l:List (Int)),⟨⟨(q0:Int),(q1:Int),(q2:List (List Int)),(q3:List Int),(q4:List Int),⟨⟩⟩,⟨⟩⟩,⟨⟩⟩ - ⟨⟨hl,-⟩,-⟩
  have hl:l.length≤9223372036854775807:=hl
  refine l8 (n:=1000) a6K a6A ?_
  refine j9 (c0A l q0 q1 q2 q3 q4) ?_
  refine Reach.N1 a6K a6A (fun i:Nat=>b2j l q0 q1 q2 q3 q4 (l.length:Int) (i:Int)) (fun i=>i≤l.length∧idxOf (inC (q0,q1,q2,q3,q4,())) l=I0 (inC (q0,q1,q2,q3,q4,())) (l.drop i) i)
    (fun i=>l.length - i) 1000 (fun _=>⟨x4 rfl,x4 rfl⟩) ?_ 0 ⟨by omega,rfl⟩
  rintro i ⟨k1,k2⟩ - ih
  refine j9 (b8S ..) ?_
  simp only [s4,Tree.holds,true_and,true_implies,decide_eq_true_eq,decide_eq_false_iff_not,Bool.not_eq_true',Bool.not_eq_false',Int.toNat_natCast,x5,List.length_set,List.length_cons,List.length_nil]
  refine ⟨fun h=>?_,fun h=>?_⟩
  · rw [P0 (show i<l.length by omega) 0,I0] at k2
    refine ⟨by omega,fun _=>⟨fun c=>?_,fun c=>⟨by omega,fun _=>ih (i+1) ⟨by omega,?_⟩ (by omega)⟩⟩⟩
    · show (((i:Int),()):Int×Unit)=(idxOf (inC (q0,q1,q2,q3,q4,())) l,())
      rw [k2,if_pos (show (inC (q0,q1,q2,q3,q4,())) (l.getD i 0)=true from c)]
    · rw [k2,if_neg (show ¬ (inC (q0,q1,q2,q3,q4,())) (l.getD i 0)=true from fun h9=>Bool.noConfusion (Eq.trans (Eq.symm h9) c))]
  · rw [List.drop_eq_nil_of_le (by omega)] at k2
    show (((-1:Int),()):Int×Unit)=(idxOf (inC (q0,q1,q2,q3,q4,())) l,())
    rw [k2]; rfl
def b1l:w6:={ ps:=[.v (.d0 false s6),.s8 257 [a1x]],rs:=[.bool],pre:=fun x=>True,fn:=fun x=>(List.any (α:=Int) x.1 (inC x.2.1.1),()),out:=fun _=>() }
noncomputable def b2s:Env:={ P:=Try.prog,tt:=tt,C7:=[(270,b5h)],res:=[Go.ResultVar.tmp 4],rs:=[Ty.bool],ps:=[PK.v (Ty.d0 false (Ty.int IntKind.i64)),PK.s8 257 [Ty.pair (Ty.int IntKind.i64) (Ty.pair (Ty.int IntKind.i64) (Ty.pair (Ty.d0 false (Ty.d0 false (Ty.int IntKind.i64))) (Ty.pair (Ty.d0 false (Ty.int IntKind.i64)) (Ty.pair (Ty.d0 false (Ty.int IntKind.i64)) Ty.unit))))]],C5:=[],nt:=9 }
theorem a9y:B0 b2s:=B9 t8 ⟨b29,trivial⟩
theorem a9p:D0 b2s Try.f204:=⟨rfl,rfl⟩
theorem b8Y (x0:List Int) (x1c0_1:Int) (x1c0_2_1:Int) (x1c0_2_2_1:List (List Int)) (x1c0_2_2_2_1:List Int) (x1c0_2_2_2_2_1:List Int):exec b2s 1000 [.code (d9 Try.prog 204)] (y8 b1l.ps ((x0,((x1c0_1,x1c0_2_1,x1c0_2_2_1,x1c0_2_2_2_1,x1c0_2_2_2_2_1,()),()),()))) =
  .f9 (True) (.ret ((decide ((0:Int)≤idxOf (inC (x1c0_1,x1c0_2_1,x1c0_2_2_1,x1c0_2_2_2_1,x1c0_2_2_2_2_1,())) x0),()))):=by kernel_rfl
theorem b1k:b1l.Valid Try.prog 204:=by
  refine w6.t6 a9y rfl rfl Try.func204 (c:=d9 Try.prog 204) rfl rfl a9p rfl ?_
  rintro ⟨(l:List (Int)),⟨⟨(q0:Int),(q1:Int),(q2:List (List Int)),(q3:List Int),(q4:List Int),⟨⟩⟩,⟨⟩⟩,⟨⟩⟩ - -
  refine l8 (n:=1000) a9y a9p ?_
  refine j9 (b8Y l q0 q1 q2 q3 q4) ?_
  refine ⟨trivial,fun _=>?_⟩
  show ((decide (0≤idxOf (inC (q0,q1,q2,q3,q4,())) l),()):Bool×Unit)=(l.any (inC (q0,q1,q2,q3,q4,())),())
  rw [a3o]
def a1L (t:O5) (p:Nat):Bool:=!K4 (t.2.2.2.2.1.getD p 0) 0 t.2.2.2.1.length || decide ((30:Int)<(t.2.2.1.getD p []).length) || Z6 (t.2.2.1.getD p []) || (t.2.2.1.getD p []).any (inC t)
def V3 (t:O5):Int:=if K4 t.1 1 6=false then 1 else if K4 t.2.1 0 (t.1 - 1)=false then 1 else if (100:Int)<t.2.2.2.1.length then 1 else
  if (t.2.2.1.length:Int)≠t.1 then 4 else if (t.2.2.2.2.1.length:Int)≠t.1 then 4 else if Z6 t.2.2.2.1=true then 4 else if a1w (a1L t) t.2.2.1.length=true then 4 else 0
def a8i:w6:={ ps:=[.v a1x],rs:=[s6],pre:=fun _=>True,fn:=fun x=>(V3 x.1,()),out:=fun _=>() }
noncomputable def a5G:Env:={ P:=Try.prog,tt:=tt,C7:=[(182,b1b),(256,b06),(204,b1l)],res:=[Go.ResultVar.tmp 2],rs:=[Ty.int IntKind.i64],ps:=[PK.v (Ty.pair (Ty.int IntKind.i64) (Ty.pair (Ty.int IntKind.i64) (Ty.pair (Ty.d0 false (Ty.d0 false (Ty.int IntKind.i64))) (Ty.pair (Ty.d0 false (Ty.int IntKind.i64)) (Ty.pair (Ty.d0 false (Ty.int IntKind.i64)) Ty.unit)))))],C5:=[(6,[(1,none),(46,none),(47,none),(48,none)])],nt:=78 }
theorem a4l:B0 a5G:=B9 t8 ⟨a32,b05,b1k,trivial⟩
theorem a4h:D0 a5G Try.f181:=⟨rfl,rfl⟩
theorem b7B (x0_1:Int) (x0_2_1:Int) (x0_2_2_1:List (List Int)) (x0_2_2_2_1:List Int) (x0_2_2_2_2_1:List Int):exec a5G 1000 [.code (d9 Try.prog 181)] (y8 a8i.ps (((x0_1,x0_2_1,x0_2_2_1,x0_2_2_2_1,x0_2_2_2_2_1,()),()))) =
  .f9 (True) (cond (!K4 x0_1 (1:Int) (6:Int)) (.ret (((1:Int),()))) (.f9 (C3 IntKind.i64 (x0_1 - (1:Int))) (.f9 (True) (cond (!K4 x0_2_1 (0:Int) (x0_1 - (1:Int))) (.ret (((1:Int),()))) (cond (decide ((100:Int)<(↑(List.length x0_2_2_2_1):Int))) (.ret (((1:Int),()))) (cond (decide ((↑(List.length x0_2_2_1):Int)≠x0_1)) (.ret (((4:Int),()))) (cond (decide ((↑(List.length x0_2_2_2_2_1):Int)≠x0_1)) (.ret (((4:Int),()))) (.f9 (True) (cond (Z6 x0_2_2_2_1) (.ret (((4:Int),()))) (.cut (i5 (d9 Try.prog 181) 6).1 (i5 (d9 Try.prog 181) 6).2 (St.mk [(1,AV.ptr 1 []),(46,AV.val (Ty.d0 false (Ty.d0 false (Ty.int IntKind.i64))) x0_2_2_1),(47,AV.val (Ty.int IntKind.i64) (↑(List.length x0_2_2_1):Int)),(48,AV.val (Ty.int IntKind.i64) (0:Int))] [(1,i6.var (Ty.pair (Ty.int IntKind.i64) (Ty.pair (Ty.int IntKind.i64) (Ty.pair (Ty.d0 false (Ty.d0 false (Ty.int IntKind.i64))) (Ty.pair (Ty.d0 false (Ty.int IntKind.i64)) (Ty.pair (Ty.d0 false (Ty.int IntKind.i64)) Ty.unit))))) (x0_1,x0_2_1,x0_2_2_1,x0_2_2_2_1,x0_2_2_2_2_1,()))]))))))))))):=by kernel_rfl
def a7J (v46:List (List Int)) (v47:Int) (v48:Int) (o1_1:Int) (o1_2_1:Int) (o1_2_2_1:List (List Int)) (o1_2_2_2_1:List Int) (o1_2_2_2_2_1:List Int):St:=St.mk [(1,AV.ptr 1 []),(46,AV.val (Ty.d0 false (Ty.d0 false (Ty.int IntKind.i64))) v46),(47,AV.val (Ty.int IntKind.i64) v47),(48,AV.val (Ty.int IntKind.i64) v48)] [(1,i6.var (Ty.pair (Ty.int IntKind.i64) (Ty.pair (Ty.int IntKind.i64) (Ty.pair (Ty.d0 false (Ty.d0 false (Ty.int IntKind.i64))) (Ty.pair (Ty.d0 false (Ty.int IntKind.i64)) (Ty.pair (Ty.d0 false (Ty.int IntKind.i64)) Ty.unit))))) (o1_1,o1_2_1,o1_2_2_1,o1_2_2_2_1,o1_2_2_2_2_1,()))]
theorem b5T (v46:List (List Int)) (v47:Int) (v48:Int) (o1_1:Int) (o1_2_1:Int) (o1_2_2_1:List (List Int)) (o1_2_2_2_1:List Int) (o1_2_2_2_2_1:List Int):exec a5G 1000 (.code (i5 (d9 Try.prog 181) 6).1::.inLoop (i5 (d9 Try.prog 181) 6).1::(i5 (d9 Try.prog 181) 6).2) (a7J v46 v47 v48 o1_1 o1_2_1 o1_2_2_1 o1_2_2_2_1 o1_2_2_2_2_1) =
  cond (decide (v48<v47)) (.f9 ((0:Int)≤v48∧v48<(↑(List.length v46):Int)) (.f9 ((0:Int)≤v48∧v48<(↑(List.length o1_2_2_2_2_1):Int)) (.f9 (True) (cond (!K4 (List.getD o1_2_2_2_2_1 (Int.toNat v48) (0:Int)) (0:Int) (↑(List.length o1_2_2_2_1):Int)) (.ret (((4:Int),()))) (cond (decide ((30:Int)<(↑(List.length (List.getD v46 (Int.toNat v48) [])):Int))) (.ret (((4:Int),()))) (.f9 (True) (cond (Z6 (List.getD v46 (Int.toNat v48) [])) (.ret (((4:Int),()))) (.f9 (True) (cond (List.any (List.getD v46 (Int.toNat v48) []) (inC (o1_1,o1_2_1,o1_2_2_1,o1_2_2_2_1,o1_2_2_2_2_1,()))) (.ret (((4:Int),()))) (.f9 (C3 IntKind.i64 (v48+(1:Int))) (.cut (i5 (d9 Try.prog 181) 6).1 (i5 (d9 Try.prog 181) 6).2 (St.mk [(1,AV.ptr 1 []),(46,AV.val (Ty.d0 false (Ty.d0 false (Ty.int IntKind.i64))) v46),(47,AV.val (Ty.int IntKind.i64) v47),(48,AV.val (Ty.int IntKind.i64) (v48+(1:Int)))] [(1,i6.var (Ty.pair (Ty.int IntKind.i64) (Ty.pair (Ty.int IntKind.i64) (Ty.pair (Ty.d0 false (Ty.d0 false (Ty.int IntKind.i64))) (Ty.pair (Ty.d0 false (Ty.int IntKind.i64)) (Ty.pair (Ty.d0 false (Ty.int IntKind.i64)) Ty.unit))))) (o1_1,o1_2_1,o1_2_2_1,o1_2_2_2_1,o1_2_2_2_2_1,()))])))))))))))) (.ret (((0:Int),()))):=by kernel_rfl
theorem a9M:a8i.Valid Try.prog 181:=by
  refine w6.t6 a4l rfl rfl Try.func181 (c:=d9 Try.prog 181) rfl rfl a4h rfl ?_
  rintro ⟨⟨(n:Int),(h:Int),(w:List (List Int)),(l:List Int),(d:List Int),⟨⟩⟩,⟨⟩⟩ - ⟨⟨-,-,⟨hw,-⟩,⟨hl,-⟩,⟨hd,-⟩,-⟩,-⟩
  have hw:w.length≤9223372036854775807:=hw
  refine l8 (n:=1000) a4l a4h ?_
  refine j9 (b7B n h w l d) ?_
  have key:∀ {x:Int},V3 (n,h,w,l,d,())=x→((x,()):Int×Unit)=(V3 (n,h,w,l,d,()),()):=by rintro x rfl; rfl
  have hd:V3 (n,h,w,l,d,())=if K4 n 1 6=false then 1 else if K4 h 0 (n - 1)=false then 1 else if (100:Int)<l.length then 1 else
    if (w.length:Int)≠n then 4 else if (d.length:Int)≠n then 4 else if Z6 l=true then 4 else if a1w (a1L (n,h,w,l,d,())) w.length=true then 4 else 0:=rfl
  simp only [s4,Tree.holds,true_and,true_implies,decide_eq_true_eq,decide_eq_false_iff_not,Bool.not_eq_true',Bool.not_eq_false',Int.toNat_natCast,x5,List.length_set,List.length_cons,List.length_nil]
  refine ⟨fun a=>key (by rw [hd,if_pos a]),fun a=>?_⟩
  have hn:=a0h.1 a
  rw [if_neg (tnf a)] at hd
  refine ⟨by omega,fun _=>⟨fun b=>key (by rw [hd,if_pos b]),fun b=>?_⟩⟩
  rw [if_neg (tnf b)] at hd
  refine ⟨fun c=>key (by rw [hd,if_pos c]),fun c=>?_⟩
  rw [if_neg c] at hd
  refine ⟨fun c=>key (by rw [hd,if_pos c]),fun c1=>?_⟩
  rw [if_neg c1] at hd
  refine ⟨fun c=>key (by rw [hd,if_pos c]),fun c2=>?_⟩
  rw [if_neg c2] at hd
  refine ⟨fun c=>key (by rw [hd,if_pos c]),fun c3=>?_⟩
  rw [if_neg (by rw [c3]; simp)] at hd
  refine Reach.N1 a4l a4h (fun i:Nat=>a7J w (w.length:Int) (i:Int) n h w l d) (fun i=>i≤w.length∧a1w (a1L (n,h,w,l,d,())) i=false) (fun i=>w.length - i) 1000 (fun _=>⟨x4 rfl,x4 rfl⟩) ?_ 0 ⟨by omega,rfl⟩
  rintro i ⟨k1,k2⟩ - ih
  have k1:i≤w.length:=k1
  refine j9 (b5T ..) ?_
  simp only [s4,Tree.holds,true_and,true_implies,decide_eq_true_eq,decide_eq_false_iff_not,Bool.not_eq_true',Bool.not_eq_false',Int.toNat_natCast,x5,List.length_set,List.length_cons,List.length_nil]
  have hb:a1L (n,h,w,l,d,()) i=(!K4 (d.getD i 0) 0 l.length || decide ((30:Int)<(w.getD i []).length) || Z6 (w.getD i []) || (w.getD i []).any (inC (n,h,w,l,d,()))):=rfl
  refine ⟨fun a=>⟨by omega,fun _=>⟨by omega,fun _=>?_⟩⟩,fun a=>key (by rw [hd,show w.length=i by omega,k2]; rfl)⟩
  have bad:a1L (n,h,w,l,d,()) i=true→((4,()):Int×Unit)=(V3 (n,h,w,l,d,()),()):=fun h9=>key (by rw [hd,if_pos (b1B h9 (by omega))])
  refine ⟨fun e1=>bad (by rw [hb,e1]; rfl),fun e1=>⟨fun e2=>bad (by rw [hb,decide_eq_true e2]; simp),fun e2=>⟨fun e3=>bad (by rw [hb,e3]; simp),fun e3=>⟨fun e4=>bad (by rw [hb,e4]; simp),fun e4=>⟨by omega,fun _=>ih (i+1) ⟨by omega,?_⟩ (by omega)⟩⟩⟩⟩⟩
  rw [a1w,k2,hb,e1,decide_eq_false e2,e3,e4]; rfl
theorem b9G {α:Type} {l:List α} {i:Nat} (h:i<l.length) (d:α):l.take i++[l.getD i d]=l.take (i+1):=by
  rw [List.getD_eq_getElem?_getD,List.getElem?_eq_getElem h]; simp
def a8h:w6:={ ps:=[.v a1x],rs:=[a93],pre:=fun x=>List.length (α:=List Int) x.1.2.2.1≤1048576∧List.length (α:=Int) x.1.2.2.2.1≤1048576∧List.length (α:=Int) x.1.2.2.2.2.1≤1048576∧∀ i,i<List.length (α:=List Int) x.1.2.2.1→(List.getD (α:=List Int) x.1.2.2.1 i []).length≤1048576,fn:=fun x=>x,out:=fun _=>() }
noncomputable def a5F:Env:={ P:=Try.prog,tt:=tt,C7:=[(78,b5s)],res:=[Go.ResultVar.cell 2 163],rs:=[Ty.pair (Ty.int IntKind.i64) (Ty.pair (Ty.int IntKind.i64) (Ty.pair (Ty.d0 true Is) (Ty.pair Is (Ty.pair Is Ty.unit))))],ps:=[PK.v (Ty.pair (Ty.int IntKind.i64) (Ty.pair (Ty.int IntKind.i64) (Ty.pair (Ty.d0 false (Ty.d0 false (Ty.int IntKind.i64))) (Ty.pair (Ty.d0 false (Ty.int IntKind.i64)) (Ty.pair (Ty.d0 false (Ty.int IntKind.i64)) Ty.unit)))))],C5:=[(3,[(2,none),(3,none),(18,none),(19,none),(20,none)])],nt:=33 }
theorem a4k:B0 a5F:=B9 t8 ⟨a7v,trivial⟩
theorem a4g:D0 a5F Try.f184:=⟨rfl,rfl⟩
theorem b7A (x0_1:Int) (x0_2_1:Int) (x0_2_2_1:List (List Int)) (x0_2_2_2_1:List Int) (x0_2_2_2_2_1:List Int):exec a5F 1000 [.code (d9 Try.prog 184)] (y8 a8h.ps (((x0_1,x0_2_1,x0_2_2_1,x0_2_2_2_1,x0_2_2_2_2_1,()),()))) =
  .f9 (List.length x0_2_2_2_1≤1048576) (.f9 (List.length x0_2_2_2_2_1≤1048576) (.cut (i5 (d9 Try.prog 184) 3).1 (i5 (d9 Try.prog 184) 3).2 (St.mk [(2,AV.ptr 2 []),(3,AV.ptr 3 []),(18,AV.val (Ty.d0 false (Ty.d0 false (Ty.int IntKind.i64))) x0_2_2_1),(19,AV.val (Ty.int IntKind.i64) (↑(List.length x0_2_2_1):Int)),(20,AV.val (Ty.int IntKind.i64) (0:Int))] [(2,i6.var (Ty.pair (Ty.int IntKind.i64) (Ty.pair (Ty.int IntKind.i64) (Ty.pair (Ty.d0 true Is) (Ty.pair Is (Ty.pair Is Ty.unit))))) ((0:Int),(0:Int),[],[],[],())),(3,i6.var (Ty.pair (Ty.int IntKind.i64) (Ty.pair (Ty.int IntKind.i64) (Ty.pair (Ty.d0 true Is) (Ty.pair Is (Ty.pair Is Ty.unit))))) (x0_1,x0_2_1,[],x0_2_2_2_1,x0_2_2_2_2_1,()))]))):=by kernel_rfl
def a7I (v18:List (List Int)) (v19:Int) (v20:Int) (o2_1:Int) (o2_2_1:Int) (o2_2_2_1:List (List Int)) (o2_2_2_2_1:List Int) (o2_2_2_2_2_1:List Int) (o3_1:Int) (o3_2_1:Int) (o3_2_2_1:List (List Int)) (o3_2_2_2_1:List Int) (o3_2_2_2_2_1:List Int):St:=St.mk [(2,AV.ptr 2 []),(3,AV.ptr 3 []),(18,AV.val (Ty.d0 false (Ty.d0 false (Ty.int IntKind.i64))) v18),(19,AV.val (Ty.int IntKind.i64) v19),(20,AV.val (Ty.int IntKind.i64) v20)] [(2,i6.var (Ty.pair (Ty.int IntKind.i64) (Ty.pair (Ty.int IntKind.i64) (Ty.pair (Ty.d0 true Is) (Ty.pair Is (Ty.pair Is Ty.unit))))) (o2_1,o2_2_1,o2_2_2_1,o2_2_2_2_1,o2_2_2_2_2_1,())),(3,i6.var (Ty.pair (Ty.int IntKind.i64) (Ty.pair (Ty.int IntKind.i64) (Ty.pair (Ty.d0 true Is) (Ty.pair Is (Ty.pair Is Ty.unit))))) (o3_1,o3_2_1,o3_2_2_1,o3_2_2_2_1,o3_2_2_2_2_1,()))]
theorem b5S (v18:List (List Int)) (v19:Int) (v20:Int) (o2_1:Int) (o2_2_1:Int) (o2_2_2_1:List (List Int)) (o2_2_2_2_1:List Int) (o2_2_2_2_2_1:List Int) (o3_1:Int) (o3_2_1:Int) (o3_2_2_1:List (List Int)) (o3_2_2_2_1:List Int) (o3_2_2_2_2_1:List Int):exec a5F 1000 (.code (i5 (d9 Try.prog 184) 3).1::.inLoop (i5 (d9 Try.prog 184) 3).1::(i5 (d9 Try.prog 184) 3).2) (a7I v18 v19 v20 o2_1 o2_2_1 o2_2_2_1 o2_2_2_2_1 o2_2_2_2_2_1 o3_1 o3_2_1 o3_2_2_1 o3_2_2_2_1 o3_2_2_2_2_1) =
  cond (decide (v20<v19)) (.f9 ((0:Int)≤v20∧v20<(↑(List.length v18):Int)) (.f9 (List.length (List.getD v18 (Int.toNat v20) [])≤1048576) (.f9 ([]++[Step.j6 2]=[]++[Step.j6 2]∧List.length o3_2_2_1+List.length (List.set [[]] (Int.toNat (↑0:Int)) (List.getD v18 (Int.toNat v20) []))≤140737488355328∧(List.length o3_2_2_1+List.length (List.set [[]] (Int.toNat (↑0:Int)) (List.getD v18 (Int.toNat v20) [])))*Ty.wb Is≤140737488355328) (.f9 (C3 IntKind.i64 (v20+(1:Int))) (.cut (i5 (d9 Try.prog 184) 3).1 (i5 (d9 Try.prog 184) 3).2 (St.mk [(2,AV.ptr 2 []),(3,AV.ptr 3 []),(18,AV.val (Ty.d0 false (Ty.d0 false (Ty.int IntKind.i64))) v18),(19,AV.val (Ty.int IntKind.i64) v19),(20,AV.val (Ty.int IntKind.i64) (v20+(1:Int)))] [(2,i6.var (Ty.pair (Ty.int IntKind.i64) (Ty.pair (Ty.int IntKind.i64) (Ty.pair (Ty.d0 true Is) (Ty.pair Is (Ty.pair Is Ty.unit))))) (o2_1,o2_2_1,o2_2_2_1,o2_2_2_2_1,o2_2_2_2_2_1,())),(3,i6.var (Ty.pair (Ty.int IntKind.i64) (Ty.pair (Ty.int IntKind.i64) (Ty.pair (Ty.d0 true Is) (Ty.pair Is (Ty.pair Is Ty.unit))))) (o3_1,o3_2_1,o3_2_2_1++List.set [[]] (Int.toNat (↑0:Int)) (List.getD v18 (Int.toNat v20) []),o3_2_2_2_1,o3_2_2_2_2_1,()))])))))) (.ret (((o3_1,o3_2_1,o3_2_2_1,o3_2_2_2_1,o3_2_2_2_2_1,()),()))):=by kernel_rfl
theorem a9L:a8h.Valid Try.prog 184:=by
  refine w6.t6 a4k rfl rfl Try.func184 (c:=d9 Try.prog 184) rfl rfl a4g rfl ?_
  rintro ⟨⟨(n:Int),(h:Int),(w:List (List Int)),(l:List Int),(d:List Int),⟨⟩⟩,⟨⟩⟩ ⟨(h1:w.length≤1048576),(h2:l.length≤1048576),(h3:d.length≤1048576),(h4:∀ i,i<w.length→(w.getD i []).length≤1048576)⟩ -
  refine l8 (n:=1000) a4k a4g ?_
  refine j9 (b7A n h w l d) ?_
  refine ⟨h2,fun _=>⟨h3,fun _=>?_⟩⟩
  refine Reach.N1 a4k a4g (fun i:Nat=>a7I w (w.length:Int) (i:Int) 0 0 [] [] [] n h (w.take i) l d) (fun i=>i≤w.length) (fun i=>w.length - i) 1000 (fun _=>⟨x4 rfl,x4 rfl⟩) ?_ 0 (by omega)
  rintro i k1 - ih
  have k1:i≤w.length:=k1
  refine j9 (b5S ..) ?_
  have hw:Ty.wb (.d0 true (.int .i64))=24:=rfl
  simp only [s4,Tree.holds,true_and,true_implies,decide_eq_true_eq,decide_eq_false_iff_not,Bool.not_eq_true',Bool.not_eq_false',Int.toNat_natCast,x5,List.length_set,List.length_cons,List.length_nil,hw]
  refine ⟨fun c=>?_,fun c=>?_⟩
  · have hi:i<w.length:=by omega
    have next:=ih (i+1) (by show i+1≤w.length; omega) (by omega)
    rw [← b9G hi []] at next
    have hln:(w.take i).length≤1048576:=by rw [List.length_take]; omega
    exact ⟨by omega,fun _=>⟨h4 i hi,fun _=>⟨⟨by omega,by omega⟩,fun _=>⟨by omega,fun _=>next⟩⟩⟩⟩
  · show ((n,h,w.take i,l,d,()),())=(((n,h,w,l,d,()),()):O5×Unit)
    rw [List.take_of_length_le (by omega)]
end Go.Proofs.Ytekbamiaenbhjaa
