/- The contracts of the package causal's functions: Check and what it calls. No condition but those named. -/
import Derived.Test.YtekbamiaenbhjaaBase
import Derived.Test.YtekbamiaenbhjaaListD
namespace Go.Proofs.Ytekbamiaenbhjaa
open Go.Ex
set_option maxRecDepth 100000
def a1J (f:Nat→Bool):Nat→Bool
  | 0=>false
  | k+1=>a1J f k || f k
theorem a2u {f:Nat→Bool}:∀ {n:Nat},a1J f n=false↔∀ k,k<n→f k=false
  | 0=>by simp [a1J]
  | n+1=>by
    rw [a1J,Bool.or_eq_false_iff,a2u (n:=n)]
    constructor
    · rintro ⟨h1,h2⟩ k hk
      by_cases e:k=n
      · rw [e]; exact h2
      · exact h1 k (by omega)
    · intro h; exact ⟨fun k hk=>h k (by omega),h n (by omega)⟩
theorem b2v {f:Nat→Bool} {k n:Nat} (h:f k=true) (hk:k<n):a1J f n=true:=by
  cases e:a1J f n with
  | true=>rfl
  | false=>rw [a2u.1 e k hk] at h; cases h
theorem tnf {b:Bool} (h:b=true):¬ b=false:=by rw [h]; simp
theorem c0w {α:Type} {l:List α} {i:Nat}:s5 0 (i:Int) l=l.take i:=by
  rw [s5,show ((i:Int) - 0).toNat=i by omega]; rfl
abbrev n7:=Int×List Int×List UInt8×Unit
abbrev L9:=Int×List Int×List n7×Unit
def I6:n7:=(0,[0,0,0,0,0,0],[],())
def b5U:t5:={ ps:=[.v I8,.v I8,.v I8],rs:=[.bool],pre:=fun _=>True,fn:=fun x=>(Z7 x.1 x.2.1 x.2.2.1,()),out:=fun _=>() }
noncomputable def b9z:Env:={ P:=Try.prog,tt:=tt,C9:=[],res:=[Go.ResultVar.tmp 6],rs:=[Ty.bool],ps:=[PK.v (Ty.int IntKind.i64),PK.v (Ty.int IntKind.i64),PK.v (Ty.int IntKind.i64)],C7:=[],nt:=15 }
theorem b4V:x8 b9z:=C2 q9 trivial
theorem b4N:D3 b9z Try.f236:=⟨rfl,rfl⟩
theorem c1Q (x0:Int) (x1:Int) (x2:Int):exec b9z 1000 [.code (d9 Try.prog 236)] (w7 b5U.ps ((x0,x1,x2,()))) =
  cond (decide (x1≤x0)) (.ret ((decide (x0≤x2),()))) (.ret ((false,()))):=by kernel_rfl
theorem a76:b5U.Valid Try.prog 236:=by
  refine t5.s4 b4V rfl rfl Try.func236 (c:=d9 Try.prog 236) rfl rfl b4N rfl ?_
  rintro ⟨(a:Int),(b:Int),(c:Int),⟨⟩⟩ - -
  refine l5 (n:=1000) b4V b4N ?_
  refine j8 (c1Q a b c) ?_
  simp only [p8,Tree.holds,true_and,true_implies,decide_eq_true_eq,decide_eq_false_iff_not,Bool.not_eq_true',Bool.not_eq_false',Int.toNat_natCast,u6,List.length_set,List.length_cons,List.length_nil]
  repeat' first|exact trivial|(refine And.intro ?_ ?_)|(intro _)
  all_goals (show ((_,()):Bool×Unit)=(Z7 a b c,()); simp [Z7, *])
def neg (n:Int):Bool:=decide (n<0)
def b5H:t5:={ ps:=[.v I8],rs:=[.bool],pre:=fun _=>True,fn:=fun x=>(neg x.1,()),out:=fun _=>() }
noncomputable def b6m:Env:={ P:=Try.prog,tt:=tt,C9:=[],res:=[Go.ResultVar.tmp 2],rs:=[Ty.bool],ps:=[PK.v (Ty.int IntKind.i64)],C7:=[],nt:=5 }
theorem b2S:x8 b6m:=C2 q9 trivial
theorem b2C:D3 b6m Try.f239:=⟨rfl,rfl⟩
theorem c0M (x0:Int):exec b6m 1000 [.code (d9 Try.prog 239)] (w7 b5H.ps ((x0,()))) =
  .ret ((decide (x0<(0:Int)),())):=by kernel_rfl
theorem b3z:b5H.Valid Try.prog 239:=by
  refine t5.s4 b2S rfl rfl Try.func239 (c:=d9 Try.prog 239) rfl rfl b2C rfl ?_
  rintro ⟨(n:Int),⟨⟩⟩ - -
  refine l5 (n:=1000) b2S b2C ?_
  refine j8 (c0M n) ?_
  rfl
def b5I:t5:={ ps:=[.v I8],rs:=[.bool],pre:=fun _=>True,fn:=fun x=>(neg x.1,()),out:=fun _=>() }
noncomputable def b6n:Env:={ P:=Try.prog,tt:=tt,C9:=[],res:=[Go.ResultVar.tmp 2],rs:=[Ty.bool],ps:=[PK.v (Ty.int IntKind.i64)],C7:=[],nt:=5 }
theorem b2T:x8 b6n:=C2 q9 trivial
theorem b2D:D3 b6n Try.f237:=⟨rfl,rfl⟩
theorem c0N (x0:Int):exec b6n 1000 [.code (d9 Try.prog 237)] (w7 b5I.ps ((x0,()))) =
  .ret ((decide (x0<(0:Int)),())):=by kernel_rfl
theorem b3A:b5I.Valid Try.prog 237:=by
  refine t5.s4 b2T rfl rfl Try.func237 (c:=d9 Try.prog 237) rfl rfl b2D rfl ?_
  rintro ⟨(n:Int),⟨⟩⟩ - -
  refine l5 (n:=1000) b2T b2D ?_
  refine j8 (c0N n) ?_
  rfl
def b1X:t5:={ ps:=[.v (.d0 false I8),.r9 239 []],rs:=[I8],pre:=fun x=>True,fn:=fun x=>(idxOf (neg) x.1,()),out:=fun _=>() }
noncomputable def a8o:Env:={ P:=Try.prog,tt:=tt,C9:=[(239,b5H)],res:=[Go.ResultVar.tmp 4],rs:=[Ty.int IntKind.i64],ps:=[PK.v (Ty.d0 false (Ty.int IntKind.i64)),PK.r9 239 []],C7:=[(2,[(0,none),(1,none),(7,none),(8,none)])],nt:=19 }
theorem a5D:x8 a8o:=C2 q9 ⟨b3z,trivial⟩
theorem a5v:D3 a8o Try.f270:=⟨rfl,rfl⟩
theorem b9p (x0:List Int):exec a8o 1000 [.code (d9 Try.prog 270)] (w7 b1X.ps ((x0,(),()))) =
  .cut (j7 (d9 Try.prog 270) 2).1 (j7 (d9 Try.prog 270) 2).2 (St.mk [(0,AV.val (Ty.d0 false (Ty.int IntKind.i64)) x0),(1,AV.r9 239 AV.nil),(7,AV.val (Ty.int IntKind.i64) (↑(List.length x0):Int)),(8,AV.val (Ty.int IntKind.i64) (0:Int))] []):=by kernel_rfl
def b0n (v0:List Int) (v7:Int) (v8:Int):St:=St.mk [(0,AV.val (Ty.d0 false (Ty.int IntKind.i64)) v0),(1,AV.r9 239 AV.nil),(7,AV.val (Ty.int IntKind.i64) v7),(8,AV.val (Ty.int IntKind.i64) v8)] []
theorem b75 (v0:List Int) (v7:Int) (v8:Int):exec a8o 1000 (.code (j7 (d9 Try.prog 270) 2).1::.inLoop (j7 (d9 Try.prog 270) 2).1::(j7 (d9 Try.prog 270) 2).2) (b0n v0 v7 v8) =
  cond (decide (v8<v7)) (.f9 ((0:Int)≤v8∧v8<(↑(List.length v0):Int)) (.f9 (True) (cond (neg (List.getD v0 (Int.toNat v8) (0:Int))) (.ret ((v8,()))) (.f9 (C1 IntKind.i64 (v8+(1:Int))) (.cut (j7 (d9 Try.prog 270) 2).1 (j7 (d9 Try.prog 270) 2).2 (St.mk [(0,AV.val (Ty.d0 false (Ty.int IntKind.i64)) v0),(1,AV.r9 239 AV.nil),(7,AV.val (Ty.int IntKind.i64) v7),(8,AV.val (Ty.int IntKind.i64) (v8+(1:Int)))] [])))))) (.ret (((-1:Int),()))):=by kernel_rfl
theorem b1W:b1X.Valid Try.prog 270:=by
  refine t5.s4 a5D rfl rfl Try.func270 (c:=d9 Try.prog 270) rfl rfl a5v rfl ?_
  rintro ⟨(l:List (Int)),⟨⟩,⟨⟩⟩ - ⟨⟨hl,-⟩,-⟩
  have hl:l.length≤9223372036854775807:=hl
  refine l5 (n:=1000) a5D a5v ?_
  refine j8 (b9p l ) ?_
  refine Reach.V1 a5D a5v (fun i:Nat=>b0n l  (l.length:Int) (i:Int)) (fun i=>i≤l.length∧idxOf (neg) l=K6 (neg) (l.drop i) i)
    (fun i=>l.length - i) 1000 (fun _=>⟨x7 rfl,x7 rfl⟩) ?_ 0 ⟨by omega,rfl⟩
  rintro i ⟨k1,k2⟩ - ih
  refine j8 (b75 ..) ?_
  simp only [p8,Tree.holds,true_and,true_implies,decide_eq_true_eq,decide_eq_false_iff_not,Bool.not_eq_true',Bool.not_eq_false',Int.toNat_natCast,u6,List.length_set,List.length_cons,List.length_nil]
  refine ⟨fun h=>?_,fun h=>?_⟩
  · rw [X9 (show i<l.length by omega) 0,K6] at k2
    refine ⟨by omega,fun _=>⟨fun c=>?_,fun c=>⟨by omega,fun _=>ih (i+1) ⟨by omega,?_⟩ (by omega)⟩⟩⟩
    · show (((i:Int),()):Int×Unit)=(idxOf (neg) l,())
      rw [k2,if_pos (show (neg) (l.getD i 0)=true from c)]
    · rw [k2,if_neg (show ¬ (neg) (l.getD i 0)=true from fun h9=>Bool.noConfusion (Eq.trans (Eq.symm h9) c))]
  · rw [List.drop_eq_nil_of_le (by omega)] at k2
    show (((-1:Int),()):Int×Unit)=(idxOf (neg) l,())
    rw [k2]; rfl
def a83:t5:={ ps:=[.v (.d0 false I8),.r9 239 []],rs:=[.bool],pre:=fun x=>True,fn:=fun x=>(List.any (α:=Int) x.1 (neg),()),out:=fun _=>() }
noncomputable def a9s:Env:={ P:=Try.prog,tt:=tt,C9:=[(270,b1X)],res:=[Go.ResultVar.tmp 4],rs:=[Ty.bool],ps:=[PK.v (Ty.d0 false (Ty.int IntKind.i64)),PK.r9 239 []],C7:=[],nt:=9 }
theorem a8v:x8 a9s:=C2 q9 ⟨b1W,trivial⟩
theorem a8h:D3 a9s Try.f204:=⟨rfl,rfl⟩
theorem b8c (x0:List Int):exec a9s 1000 [.code (d9 Try.prog 204)] (w7 a83.ps ((x0,(),()))) =
  .f9 (True) (.ret ((decide ((0:Int)≤idxOf neg x0),()))):=by kernel_rfl
theorem b0I:a83.Valid Try.prog 204:=by
  refine t5.s4 a8v rfl rfl Try.func204 (c:=d9 Try.prog 204) rfl rfl a8h rfl ?_
  rintro ⟨(l:List (Int)),⟨⟩,⟨⟩⟩ - -
  refine l5 (n:=1000) a8v a8h ?_
  refine j8 (b8c l ) ?_
  refine ⟨trivial,fun _=>?_⟩
  show ((decide (0≤idxOf (neg) l),()):Bool×Unit)=(l.any (neg),())
  rw [a3x]
def b1V:t5:={ ps:=[.v (.d0 false I8),.r9 237 []],rs:=[I8],pre:=fun x=>True,fn:=fun x=>(idxOf (neg) x.1,()),out:=fun _=>() }
noncomputable def a8n:Env:={ P:=Try.prog,tt:=tt,C9:=[(237,b5I)],res:=[Go.ResultVar.tmp 4],rs:=[Ty.int IntKind.i64],ps:=[PK.v (Ty.d0 false (Ty.int IntKind.i64)),PK.r9 237 []],C7:=[(2,[(0,none),(1,none),(7,none),(8,none)])],nt:=19 }
theorem a5C:x8 a8n:=C2 q9 ⟨b3A,trivial⟩
theorem a5u:D3 a8n Try.f270:=⟨rfl,rfl⟩
theorem b9o (x0:List Int):exec a8n 1000 [.code (d9 Try.prog 270)] (w7 b1V.ps ((x0,(),()))) =
  .cut (j7 (d9 Try.prog 270) 2).1 (j7 (d9 Try.prog 270) 2).2 (St.mk [(0,AV.val (Ty.d0 false (Ty.int IntKind.i64)) x0),(1,AV.r9 237 AV.nil),(7,AV.val (Ty.int IntKind.i64) (↑(List.length x0):Int)),(8,AV.val (Ty.int IntKind.i64) (0:Int))] []):=by kernel_rfl
def b0m (v0:List Int) (v7:Int) (v8:Int):St:=St.mk [(0,AV.val (Ty.d0 false (Ty.int IntKind.i64)) v0),(1,AV.r9 237 AV.nil),(7,AV.val (Ty.int IntKind.i64) v7),(8,AV.val (Ty.int IntKind.i64) v8)] []
theorem b74 (v0:List Int) (v7:Int) (v8:Int):exec a8n 1000 (.code (j7 (d9 Try.prog 270) 2).1::.inLoop (j7 (d9 Try.prog 270) 2).1::(j7 (d9 Try.prog 270) 2).2) (b0m v0 v7 v8) =
  cond (decide (v8<v7)) (.f9 ((0:Int)≤v8∧v8<(↑(List.length v0):Int)) (.f9 (True) (cond (neg (List.getD v0 (Int.toNat v8) (0:Int))) (.ret ((v8,()))) (.f9 (C1 IntKind.i64 (v8+(1:Int))) (.cut (j7 (d9 Try.prog 270) 2).1 (j7 (d9 Try.prog 270) 2).2 (St.mk [(0,AV.val (Ty.d0 false (Ty.int IntKind.i64)) v0),(1,AV.r9 237 AV.nil),(7,AV.val (Ty.int IntKind.i64) v7),(8,AV.val (Ty.int IntKind.i64) (v8+(1:Int)))] [])))))) (.ret (((-1:Int),()))):=by kernel_rfl
theorem b1U:b1V.Valid Try.prog 270:=by
  refine t5.s4 a5C rfl rfl Try.func270 (c:=d9 Try.prog 270) rfl rfl a5u rfl ?_
  rintro ⟨(l:List (Int)),⟨⟩,⟨⟩⟩ - ⟨⟨hl,-⟩,-⟩
  have hl:l.length≤9223372036854775807:=hl
  refine l5 (n:=1000) a5C a5u ?_
  refine j8 (b9o l ) ?_
  refine Reach.V1 a5C a5u (fun i:Nat=>b0m l  (l.length:Int) (i:Int)) (fun i=>i≤l.length∧idxOf (neg) l=K6 (neg) (l.drop i) i)
    (fun i=>l.length - i) 1000 (fun _=>⟨x7 rfl,x7 rfl⟩) ?_ 0 ⟨by omega,rfl⟩
  rintro i ⟨k1,k2⟩ - ih
  refine j8 (b74 ..) ?_
  simp only [p8,Tree.holds,true_and,true_implies,decide_eq_true_eq,decide_eq_false_iff_not,Bool.not_eq_true',Bool.not_eq_false',Int.toNat_natCast,u6,List.length_set,List.length_cons,List.length_nil]
  refine ⟨fun h=>?_,fun h=>?_⟩
  · rw [X9 (show i<l.length by omega) 0,K6] at k2
    refine ⟨by omega,fun _=>⟨fun c=>?_,fun c=>⟨by omega,fun _=>ih (i+1) ⟨by omega,?_⟩ (by omega)⟩⟩⟩
    · show (((i:Int),()):Int×Unit)=(idxOf (neg) l,())
      rw [k2,if_pos (show (neg) (l.getD i 0)=true from c)]
    · rw [k2,if_neg (show ¬ (neg) (l.getD i 0)=true from fun h9=>Bool.noConfusion (Eq.trans (Eq.symm h9) c))]
  · rw [List.drop_eq_nil_of_le (by omega)] at k2
    show (((-1:Int),()):Int×Unit)=(idxOf (neg) l,())
    rw [k2]; rfl
def a82:t5:={ ps:=[.v (.d0 false I8),.r9 237 []],rs:=[.bool],pre:=fun x=>True,fn:=fun x=>(List.any (α:=Int) x.1 (neg),()),out:=fun _=>() }
noncomputable def a9r:Env:={ P:=Try.prog,tt:=tt,C9:=[(270,b1V)],res:=[Go.ResultVar.tmp 4],rs:=[Ty.bool],ps:=[PK.v (Ty.d0 false (Ty.int IntKind.i64)),PK.r9 237 []],C7:=[],nt:=9 }
theorem a8u:x8 a9r:=C2 q9 ⟨b1U,trivial⟩
theorem a8g:D3 a9r Try.f204:=⟨rfl,rfl⟩
theorem b8b (x0:List Int):exec a9r 1000 [.code (d9 Try.prog 204)] (w7 a82.ps ((x0,(),()))) =
  .f9 (True) (.ret ((decide ((0:Int)≤idxOf neg x0),()))):=by kernel_rfl
theorem b0H:a82.Valid Try.prog 204:=by
  refine t5.s4 a8u rfl rfl Try.func204 (c:=d9 Try.prog 204) rfl rfl a8g rfl ?_
  rintro ⟨(l:List (Int)),⟨⟩,⟨⟩⟩ - -
  refine l5 (n:=1000) a8u a8g ?_
  refine j8 (b8b l ) ?_
  refine ⟨trivial,fun _=>?_⟩
  show ((decide (0≤idxOf (neg) l),()):Bool×Unit)=(l.any (neg),())
  rw [a3x]
def formed (m:n7):Bool:=Z7 m.1 0 5 && !(m.2.1.any neg) && decide (0<m.2.1.getD m.1.toNat 0)
def a56:t5:={ ps:=[.v E7],rs:=[.bool],pre:=fun _=>True,fn:=fun x=>(formed x.1,()),out:=fun _=>() }
noncomputable def a9n:Env:={ P:=Try.prog,tt:=tt,C9:=[(236,b5U),(204,a83)],res:=[Go.ResultVar.tmp 2],rs:=[Ty.bool],ps:=[PK.v (Ty.pair (Ty.int IntKind.i64) (Ty.pair o7 (Ty.pair Ty.str Ty.unit)))],C7:=[],nt:=20 }
theorem a8s:x8 a9n:=C2 q9 ⟨a76,b0I,trivial⟩
theorem a8f:D3 a9n Try.f162:=⟨rfl,rfl⟩
theorem b79 (x0_1:Int) (x0_2_1:List Int) (x0_2_2_1:List UInt8):exec a9n 1000 [.code (d9 Try.prog 162)] (w7 a56.ps (((x0_1,x0_2_1,x0_2_2_1,()),()))) =
  .f9 (True) (cond (Z7 x0_1 (0:Int) (5:Int)) (.f9 ((0:Int)≤(0:Int)∧(0:Int)≤(↑6:Int)∧(↑6:Int)≤(↑6:Int)) (.f9 (True) (cond (!List.any (s5 (0:Int) (↑6:Int) x0_2_1) neg) (.f9 ((0:Int)≤x0_1∧x0_1<(↑6:Int)) (.ret ((decide ((0:Int)<List.getD x0_2_1 (Int.toNat x0_1) (0:Int)),())))) (.ret ((false,())))))) (.ret ((false,())))):=by kernel_rfl
theorem a4B:a56.Valid Try.prog 162:=by
  refine t5.s4 a8s rfl rfl Try.func162 (c:=d9 Try.prog 162) rfl rfl a8f rfl ?_
  rintro ⟨⟨(f:Int),(a:List Int),(t:List UInt8),⟨⟩⟩,⟨⟩⟩ - ⟨⟨-,⟨hl,-⟩,-⟩,-⟩
  have hl:a.length=6:=hl
  refine l5 (n:=1000) a8s a8f ?_
  refine j8 (b79 f a t) ?_
  have hc:s5 0 6 a=a:=by rw [s5,Int.toNat_zero,List.drop_zero]; exact List.take_of_length_le (by rw [hl]; decide)
  have hd:formed (f,a,t,())=(Z7 f 0 5 && !(a.any neg) && decide (0<a.getD f.toNat 0)):=rfl
  simp only [p8,Tree.holds,true_and,true_implies,decide_eq_true_eq,decide_eq_false_iff_not,Bool.not_eq_true',Bool.not_eq_false',Int.toNat_natCast,u6,List.length_set,List.length_cons,List.length_nil,hc]
  refine ⟨fun e=>⟨by omega,fun _=>⟨fun g=>?_,fun g=>?_⟩⟩,fun e=>?_⟩
  · have:=a0B.1 e
    refine ⟨by omega,fun _=>?_⟩
    show ((_,()):Bool×Unit)=(formed (f,a,t,()),())
    rw [hd,e,g]; rfl
  · show ((_,()):Bool×Unit)=(formed (f,a,t,()),())
    rw [hd,e,g]; rfl
  · show ((_,()):Bool×Unit)=(formed (f,a,t,()),())
    rw [hd,e]; rfl
def B0 (a b:n7):Bool:=decide (a.1=b.1) && decide (a.2.1.getD a.1.toNat 0=b.2.1.getD b.1.toNat 0)
def a7W:t5:={ ps:=[.v E7,.v E7],rs:=[.bool],pre:=fun x=>(LE.le (α:=Int) 0 x.1.1∧LE.le (α:=Int) x.1.1 5)∧(LE.le (α:=Int) 0 x.2.1.1∧LE.le (α:=Int) x.2.1.1 5),fn:=fun x=>(B0 x.1 x.2.1,()),out:=fun _=>() }
noncomputable def b2Q:Env:={ P:=Try.prog,tt:=tt,C9:=[],res:=[Go.ResultVar.tmp 4],rs:=[Ty.bool],ps:=[PK.v (Ty.pair (Ty.int IntKind.i64) (Ty.pair o7 (Ty.pair Ty.str Ty.unit))),PK.v (Ty.pair (Ty.int IntKind.i64) (Ty.pair o7 (Ty.pair Ty.str Ty.unit)))],C7:=[],nt:=23 }
theorem b0k:x8 b2Q:=C2 q9 trivial
theorem b0c:D3 b2Q Try.f166:=⟨rfl,rfl⟩
theorem b9i (x0_1:Int) (x0_2_1:List Int) (x0_2_2_1:List UInt8) (x1_1:Int) (x1_2_1:List Int) (x1_2_2_1:List UInt8):exec b2Q 1000 [.code (d9 Try.prog 166)] (w7 a7W.ps (((x0_1,x0_2_1,x0_2_2_1,()),(x1_1,x1_2_1,x1_2_2_1,()),()))) =
  cond (decide (x0_1=x1_1)) (.f9 ((0:Int)≤x0_1∧x0_1<(↑6:Int)) (.f9 ((0:Int)≤x1_1∧x1_1<(↑6:Int)) (.ret ((decide (List.getD x0_2_1 (Int.toNat x0_1) (0:Int)=List.getD x1_2_1 (Int.toNat x1_1) (0:Int)),()))))) (.ret ((false,()))):=by kernel_rfl
theorem a5d:a7W.Valid Try.prog 166:=by
  refine t5.s4 b0k rfl rfl Try.func166 (c:=d9 Try.prog 166) rfl rfl b0c rfl ?_
  rintro ⟨⟨(f:Int),(a:List Int),(t:List UInt8),⟨⟩⟩,⟨(g:Int),(b:List Int),(u:List UInt8),⟨⟩⟩,⟨⟩⟩ ⟨⟨h1,h2⟩,h3,h4⟩ -
  refine l5 (n:=1000) b0k b0c ?_
  refine j8 (b9i f a t g b u) ?_
  have hd:B0 (f,a,t,()) (g,b,u,())=(decide (f=g) && decide (a.getD f.toNat 0=b.getD g.toNat 0)):=rfl
  have h1:0≤f:=h1
  have h2:f≤5:=h2
  have h3:0≤g:=h3
  have h4:g≤5:=h4
  simp only [p8,Tree.holds,true_and,true_implies,decide_eq_true_eq,decide_eq_false_iff_not,Bool.not_eq_true',Bool.not_eq_false',Int.toNat_natCast,u6,List.length_set,List.length_cons,List.length_nil]
  refine ⟨fun e=>⟨by omega,fun _=>⟨by omega,fun _=>?_⟩⟩,fun e=>?_⟩
  · show ((_,()):Bool×Unit)=(B0 (f,a,t,()) (g,b,u,()),())
    rw [hd,decide_eq_true e]; rfl
  · show ((_,()):Bool×Unit)=(B0 (f,a,t,()) (g,b,u,()),())
    rw [hd,decide_eq_false e]; rfl
def a80 (seen:List Int) (m:n7) (p:Nat):Bool:=if (p:Int)=m.1 then decide (m.2.1.getD p 0≠seen.getD p 0+1) else decide (seen.getD p 0<m.2.1.getD p 0)
def E6 (seen:List Int) (m:n7):Bool:=!a1J (a80 seen m) 6
def a75:t5:={ ps:=[.v o7,.v E7],rs:=[.bool],pre:=fun x=>LE.le (α:=Int) 0 (List.getD (α:=Int) x.1 (Int.toNat x.2.1.1) 0)∧LE.le (α:=Int) (List.getD (α:=Int) x.1 (Int.toNat x.2.1.1) 0) 9223372036854775806,fn:=fun x=>(E6 x.1 x.2.1,()),out:=fun _=>() }
noncomputable def b0Y:Env:={ P:=Try.prog,tt:=tt,C9:=[],res:=[Go.ResultVar.tmp 4],rs:=[Ty.bool],ps:=[PK.v o7,PK.v (Ty.pair (Ty.int IntKind.i64) (Ty.pair o7 (Ty.pair Ty.str Ty.unit)))],C7:=[(2,[(2,none),(3,none),(8,none),(9,none)])],nt:=39 }
theorem a7f:x8 b0Y:=C2 q9 trivial
theorem a7c:D3 b0Y Try.f167:=⟨rfl,rfl⟩
theorem c0X (x0:List Int) (x1_1:Int) (x1_2_1:List Int) (x1_2_2_1:List UInt8):exec b0Y 1000 [.code (d9 Try.prog 167)] (w7 a75.ps ((x0,(x1_1,x1_2_1,x1_2_2_1,()),()))) =
  .cut (j7 (d9 Try.prog 167) 2).1 (j7 (d9 Try.prog 167) 2).2 (St.mk [(2,AV.ptr 2 []),(3,AV.ptr 3 []),(8,AV.val o7 x1_2_1),(9,AV.val (Ty.int IntKind.i64) (0:Int))] [(2,i7.var o7 x0),(3,i7.var (Ty.pair (Ty.int IntKind.i64) (Ty.pair o7 (Ty.pair Ty.str Ty.unit))) (x1_1,x1_2_1,x1_2_2_1,()))]):=by kernel_rfl
def b22 (v8:List Int) (v9:Int) (o2:List Int) (o3_1:Int) (o3_2_1:List Int) (o3_2_2_1:List UInt8):St:=St.mk [(2,AV.ptr 2 []),(3,AV.ptr 3 []),(8,AV.val o7 v8),(9,AV.val (Ty.int IntKind.i64) v9)] [(2,i7.var o7 o2),(3,i7.var (Ty.pair (Ty.int IntKind.i64) (Ty.pair o7 (Ty.pair Ty.str Ty.unit))) (o3_1,o3_2_1,o3_2_2_1,()))]
theorem b9v (v8:List Int) (v9:Int) (o2:List Int) (o3_1:Int) (o3_2_1:List Int) (o3_2_2_1:List UInt8):exec b0Y 1000 (.code (j7 (d9 Try.prog 167) 2).1::.inLoop (j7 (d9 Try.prog 167) 2).1::(j7 (d9 Try.prog 167) 2).2) (b22 v8 v9 o2 o3_1 o3_2_1 o3_2_2_1) =
  cond (decide (v9<(6:Int))) (.f9 ((0:Int)≤v9∧v9<(↑6:Int)) (cond (decide (v9=o3_1)) (.f9 ((0:Int)≤v9∧v9<(↑6:Int)) (.f9 (C1 IntKind.i64 (List.getD o2 (Int.toNat v9) (0:Int)+(1:Int))) (cond (decide (List.getD v8 (Int.toNat v9) (0:Int)≠List.getD o2 (Int.toNat v9) (0:Int)+(1:Int))) (.ret ((false,()))) (cond (decide (v9≠o3_1)) (.f9 ((0:Int)≤v9∧v9<(↑6:Int)) (cond (decide (List.getD o2 (Int.toNat v9) (0:Int)<List.getD v8 (Int.toNat v9) (0:Int))) (.ret ((false,()))) (.f9 (C1 IntKind.i64 (v9+(1:Int))) (.cut (j7 (d9 Try.prog 167) 2).1 (j7 (d9 Try.prog 167) 2).2 (St.mk [(2,AV.ptr 2 []),(3,AV.ptr 3 []),(8,AV.val o7 v8),(9,AV.val (Ty.int IntKind.i64) (v9+(1:Int)))] [(2,i7.var o7 o2),(3,i7.var (Ty.pair (Ty.int IntKind.i64) (Ty.pair o7 (Ty.pair Ty.str Ty.unit))) (o3_1,o3_2_1,o3_2_2_1,()))]))))) (.f9 (C1 IntKind.i64 (v9+(1:Int))) (.cut (j7 (d9 Try.prog 167) 2).1 (j7 (d9 Try.prog 167) 2).2 (St.mk [(2,AV.ptr 2 []),(3,AV.ptr 3 []),(8,AV.val o7 v8),(9,AV.val (Ty.int IntKind.i64) (v9+(1:Int)))] [(2,i7.var o7 o2),(3,i7.var (Ty.pair (Ty.int IntKind.i64) (Ty.pair o7 (Ty.pair Ty.str Ty.unit))) (o3_1,o3_2_1,o3_2_2_1,()))]))))))) (cond (decide (v9≠o3_1)) (.f9 ((0:Int)≤v9∧v9<(↑6:Int)) (cond (decide (List.getD o2 (Int.toNat v9) (0:Int)<List.getD v8 (Int.toNat v9) (0:Int))) (.ret ((false,()))) (.f9 (C1 IntKind.i64 (v9+(1:Int))) (.cut (j7 (d9 Try.prog 167) 2).1 (j7 (d9 Try.prog 167) 2).2 (St.mk [(2,AV.ptr 2 []),(3,AV.ptr 3 []),(8,AV.val o7 v8),(9,AV.val (Ty.int IntKind.i64) (v9+(1:Int)))] [(2,i7.var o7 o2),(3,i7.var (Ty.pair (Ty.int IntKind.i64) (Ty.pair o7 (Ty.pair Ty.str Ty.unit))) (o3_1,o3_2_1,o3_2_2_1,()))]))))) (.f9 (C1 IntKind.i64 (v9+(1:Int))) (.cut (j7 (d9 Try.prog 167) 2).1 (j7 (d9 Try.prog 167) 2).2 (St.mk [(2,AV.ptr 2 []),(3,AV.ptr 3 []),(8,AV.val o7 v8),(9,AV.val (Ty.int IntKind.i64) (v9+(1:Int)))] [(2,i7.var o7 o2),(3,i7.var (Ty.pair (Ty.int IntKind.i64) (Ty.pair o7 (Ty.pair Ty.str Ty.unit))) (o3_1,o3_2_1,o3_2_2_1,()))])))))) (.ret ((true,()))):=by kernel_rfl
theorem a3j:a75.Valid Try.prog 167:=by
  refine t5.s4 a7f rfl rfl Try.func167 (c:=d9 Try.prog 167) rfl rfl a7c rfl ?_
  rintro ⟨(s:List Int),⟨(f:Int),(a:List Int),(t:List UInt8),⟨⟩⟩,⟨⟩⟩ ⟨(h0:0≤s.getD f.toNat 0),(h1:s.getD f.toNat 0≤9223372036854775806)⟩ -
  refine l5 (n:=1000) a7f a7c ?_
  refine j8 (c0X s f a t) ?_
  refine Reach.V1 a7f a7c (fun p:Nat=>b22 a (p:Int) s f a t) (fun p=>p≤6∧a1J (a80 s (f,a,t,())) p=false) (fun p=>6 - p) 1000 (fun _=>⟨x7 rfl,x7 rfl⟩) ?_ 0 ⟨by omega,rfl⟩
  rintro p ⟨k1,k2⟩ - ih
  have k1:p≤6:=k1
  refine j8 (b9v ..) ?_
  have hb:a80 s (f,a,t,()) p=if (p:Int)=f then decide (a.getD p 0≠s.getD p 0+1) else decide (s.getD p 0<a.getD p 0):=rfl
  have bad:a80 s (f,a,t,()) p=true→p<6→((false,()):Bool×Unit)=(E6 s (f,a,t,()),()):=fun h h2=>by rw [E6,b2v h h2]; rfl
  have next:a80 s (f,a,t,()) p=false→p<6→_:=fun h h2=>ih (p+1) ⟨by omega,by rw [a1J,k2,h]; rfl⟩ (by omega)
  simp only [p8,Tree.holds,true_and,true_implies,decide_eq_true_eq,decide_eq_false_iff_not,Bool.not_eq_true',Bool.not_eq_false',Int.toNat_natCast,u6,List.length_set,List.length_cons,List.length_nil]
  refine ⟨fun c=>⟨by omega,fun _=>⟨fun e=>⟨by omega,fun _=>⟨?_,fun _=>⟨fun g=>bad (by rw [hb,if_pos e,decide_eq_true g]) (by omega),fun g=>⟨fun e2=>absurd e e2,fun _=>⟨by omega,fun _=>next (by rw [hb,if_pos e,decide_eq_false g]) (by omega)⟩⟩⟩⟩⟩,fun e=>⟨fun e2=>⟨by omega,fun _=>⟨fun g=>bad (by rw [hb,if_neg e,decide_eq_true g]) (by omega),fun g=>⟨by omega,fun _=>next (by rw [hb,if_neg e,decide_eq_false g]) (by omega)⟩⟩⟩,fun e2=>absurd e e2⟩⟩⟩,fun c=>?_⟩
  · rw [show p=f.toNat by omega]; omega
  · have:p=6:=by omega
    show ((true,()):Bool×Unit)=(E6 s (f,a,t,()),())
    rw [E6,← this,k2]; rfl
def cC2:t5:={ ps:=[.v E7,.rd E7],rs:=[.bool],pre:=fun x=>(LE.le (α:=Int) 0 x.1.1∧LE.le (α:=Int) x.1.1 5)∧(LE.le (α:=Int) 0 x.2.1.1∧LE.le (α:=Int) x.2.1.1 5),fn:=fun x=>(B0 x.1 x.2.1,()),out:=fun _=>() }
noncomputable def EC2:Env:={ P:=Try.prog,tt:=tt,C9:=[(166,a7W)],res:=[Go.ResultVar.tmp 3],rs:=[Ty.bool],ps:=[PK.v (Ty.pair (Ty.int IntKind.i64) (Ty.pair o7 (Ty.pair Ty.str Ty.unit))),PK.rd (Ty.pair (Ty.int IntKind.i64) (Ty.pair o7 (Ty.pair Ty.str Ty.unit)))],C7:=[],nt:=7 }
theorem b8j:x8 EC2:=C2 q9 ⟨a5d,trivial⟩
theorem b72:D3 EC2 Try.f238:=⟨rfl,rfl⟩
theorem c2q (x0_1:Int) (x0_2_1:List Int) (x0_2_2_1:List UInt8) (x1_1:Int) (x1_2_1:List Int) (x1_2_2_1:List UInt8):exec EC2 1000 [.code (d9 Try.prog 238)] (w7 cC2.ps (((x0_1,x0_2_1,x0_2_2_1,()),(x1_1,x1_2_1,x1_2_2_1,()),()))) =
  .f9 (((0:Int)≤x0_1∧x0_1≤(5:Int))∧(0:Int)≤x1_1∧x1_1≤(5:Int)) (.ret ((B0 (x0_1,x0_2_1,x0_2_2_1,()) (x1_1,x1_2_1,x1_2_2_1,()),()))):=by kernel_rfl
theorem b7H:cC2.Valid Try.prog 238:=by
  refine t5.s4 b8j rfl rfl Try.func238 (c:=d9 Try.prog 238) rfl rfl b72 rfl ?_
  rintro ⟨⟨(f:Int),(a:List Int),(t:List UInt8),⟨⟩⟩,⟨(g:Int),(b:List Int),(u:List UInt8),⟨⟩⟩,⟨⟩⟩ ⟨⟨h1,h2⟩,h3,h4⟩ -
  refine l5 (n:=1000) b8j b72 ?_
  refine j8 (c2q f a t g b u) ?_
  exact ⟨⟨⟨h1,h2⟩,h3,h4⟩,fun _=>rfl⟩
end Go.Proofs.Ytekbamiaenbhjaa
