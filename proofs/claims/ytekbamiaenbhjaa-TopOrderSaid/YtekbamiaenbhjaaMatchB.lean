/- match.Check, and what match.most calls. No condition but those named. -/
import Derived.Test.YtekbamiaenbhjaaMatchS
namespace Go.Proofs.Ytekbamiaenbhjaa
open Go.Ex
set_option maxRecDepth 100000
def U6 (m n:Int) (q:s5):Bool:=!(N3 q.1 0 (m - 1)) || !(N3 q.2.1 0 (n - 1))
def G4 (m n:Int) (l:List s5):Int:=if (N3 m 0 40 && N3 n 0 40)=false then 1 else if 600<l.length then 2 else if l.any (U6 m n)=true then 4 else 0
def b2C:w9:={ ps:=[.v i5,.v i5,.v i5],rs:=[.bool],pre:=fun _=>True,fn:=fun x=>(N3 x.1 x.2.1 x.2.2.1,()),out:=fun _=>() }
noncomputable def b8F:Env:={ P:=Try.prog,tt:=tt,F2:=[],res:=[Go.ResultVar.tmp 6],rs:=[Ty.bool],ps:=[PK.v i5,PK.v i5,PK.v i5],D8:=[],nt:=15 }
theorem b4E:B6 b8F:=D0 w5 trivial
theorem b4n:E3 b8F Try.f262:=⟨rfl,rfl⟩
theorem c4d (x0:Int) (x1:Int) (x2:Int):exec b8F 1000 [.code (d8 Try.prog 262)] (A5 b2C.ps ((x0,x1,x2,()))) =
  cond (decide (x1≤x0)) (.ret ((decide (x0≤x2),()))) (.ret ((false,()))):=by kernel_rfl
theorem a7W:b2C.Valid Try.prog 262:=by
  refine w9.u7 b4E rfl rfl Try.func262 (c:=d8 Try.prog 262) rfl rfl b4n rfl ?_
  rintro ⟨(n:Int),(a:Int),(b:Int),⟨⟩⟩ - -
  refine n7 (n:=1000) b4E b4n ?_
  refine g9 (c4d n a b) ?_
  simp only [i9,Tree.holds,true_and,true_implies,decide_eq_true_eq,decide_eq_false_iff_not,Bool.not_eq_true',Bool.not_eq_false',Int.toNat_natCast,l7,List.length_set,List.length_cons,List.length_nil]
  refine ⟨fun c=>?_,fun c=>?_⟩
  · show ((decide _,()):Bool×Unit)=(N3 n a b,()); rw [N3,decide_eq_true c,Bool.true_and]
  · show ((false,()):Bool×Unit)=(N3 n a b,()); rw [N3,decide_eq_false c,Bool.false_and]
def b79:w9:={ ps:=[.v r7,.rd i5,.rd i5],rs:=[.bool],pre:=fun x=>(LE.le (α:=Int) 0 x.2.1∧LE.le (α:=Int) x.2.1 40)∧(LE.le (α:=Int) 0 x.2.2.1∧LE.le (α:=Int) x.2.2.1 40),fn:=fun x=>(U6 x.2.1 x.2.2.1 x.1,()),out:=fun _=>() }
noncomputable def b8M:Env:={ P:=Try.prog,tt:=tt,F2:=[(262,b2C)],res:=[Go.ResultVar.tmp 4],rs:=[Ty.bool],ps:=[PK.v r7,PK.rd i5,PK.rd i5],D8:=[],nt:=19 }
theorem b4O:B6 b8M:=D0 w5 ⟨a7W,trivial⟩
theorem b4q:E3 b8M Try.f263:=⟨rfl,rfl⟩
theorem c4k (x0_1:Int) (x0_2_1:Int) (x1:Int) (x2:Int):exec b8M 1000 [.code (d8 Try.prog 263)] (A5 b79.ps (((x0_1,x0_2_1,()),x1,x2,()))) =
  .e8 (r9 IntKind.i64 (x1 - (1:Int))) (.e8 (True) (cond (!N3 x0_1 (0:Int) (x1 - (1:Int))) (.ret ((true,()))) (.e8 (r9 IntKind.i64 (x2 - (1:Int))) (.e8 (True) (.ret ((!N3 x0_2_1 (0:Int) (x2 - (1:Int)),()))))))):=by kernel_rfl
theorem b5s:b79.Valid Try.prog 263:=by
  refine w9.u7 b4O rfl rfl Try.func263 (c:=d8 Try.prog 263) rfl rfl b4q rfl ?_
  rintro ⟨⟨(a:Int),(b:Int),⟨⟩⟩,(m:Int),(n:Int),⟨⟩⟩ ⟨⟨hm0,hm1⟩,hn0,hn1⟩ -
  have hm0:0≤m:=hm0
  have hm1:m≤40:=hm1
  have hn0:0≤n:=hn0
  have hn1:n≤40:=hn1
  refine n7 (n:=1000) b4O b4q ?_
  refine g9 (c4k a b m n) ?_
  simp only [i9,Tree.holds,true_and,true_implies,decide_eq_true_eq,decide_eq_false_iff_not,Bool.not_eq_true',Bool.not_eq_false',Int.toNat_natCast,l7,List.length_set,List.length_cons,List.length_nil]
  refine ⟨by omega,fun _=>⟨fun c=>?_,fun c=>⟨by omega,fun _=>?_⟩⟩⟩
  · show ((true,()):Bool×Unit)=(!N3 a 0 (m - 1) || !N3 b 0 (n - 1),()); rw [c]; rfl
  · show ((!N3 b 0 (n - 1),()):Bool×Unit)=(!N3 a 0 (m - 1) || !N3 b 0 (n - 1),()); rw [c]; rfl
def b71:w9:={ ps:=[.v (.d0 false r7),.s4 263 [i5,i5]],rs:=[i5],pre:=fun x=>(LE.le (α:=Int) 0 x.2.1.1∧LE.le (α:=Int) x.2.1.1 40)∧(LE.le (α:=Int) 0 x.2.1.2.1∧LE.le (α:=Int) x.2.1.2.1 40),fn:=fun x=>(idxOf (U6 x.2.1.1 x.2.1.2.1) x.1,()),out:=fun _=>() }
noncomputable def b2J:Env:={ P:=Try.prog,tt:=tt,F2:=[(263,b79)],res:=[Go.ResultVar.tmp 4],rs:=[Ty.int IntKind.i64],ps:=[PK.v (Ty.d0 false r7),PK.s4 263 [Ty.int IntKind.i64,Ty.int IntKind.i64]],D8:=[(2,[(0,none),(1,none),(7,none),(8,none)])],nt:=19 }
theorem a81:B6 b2J:=D0 w5 ⟨b5s,trivial⟩
theorem a8P:E3 b2J Try.f153:=⟨rfl,rfl⟩
theorem c4f (x0:List (Int×Int×Unit)) (x1c0:Int) (x1c1:Int):exec b2J 1000 [.code (d8 Try.prog 153)] (A5 b71.ps ((x0,(x1c0,x1c1,()),()))) =
  .ctL (d9 (d8 Try.prog 153) 2) (St.mk [(0,AV.val (Ty.d0 false r7) x0),(1,AV.s4 263 (AV.cons (AV.u5 i5 x1c0) (AV.cons (AV.u5 i5 x1c1) AV.nil))),(7,vI (↑(List.length x0):Int)),(8,vI (0:Int))] []):=by kernel_rfl
def b4G (v0:List (Int×Int×Unit)) (v1a:Int) (v1ba:Int) (v7:Int) (v8:Int):St:=St.mk [(0,AV.val (Ty.d0 false r7) v0),(1,AV.s4 263 (AV.cons (AV.u5 i5 v1a) (AV.cons (AV.u5 i5 v1ba) AV.nil))),(7,vI v7),(8,vI v8)] []
theorem c2x (v0:List (Int×Int×Unit)) (v1a:Int) (v1ba:Int) (v7:Int) (v8:Int):exec b2J 1000 (.code (d9 (d8 Try.prog 153) 2).1::.inLoop (d9 (d8 Try.prog 153) 2).1::(d9 (d8 Try.prog 153) 2).2) (b4G v0 v1a v1ba v7 v8) =
  cond (decide (v8<v7)) (.e8 ((0:Int)≤v8∧v8<(↑(List.length v0):Int)) (.e8 (((0:Int)≤v1a∧v1a≤(40:Int))∧(0:Int)≤v1ba∧v1ba≤(40:Int)) (cond (U6 v1a v1ba (List.getD v0 (Int.toNat v8) ((0:Int),(0:Int),()))) (.ret ((v8,()))) (.e8 (r9 IntKind.i64 (v8+(1:Int))) (.ctL (d9 (d8 Try.prog 153) 2) (St.mk [(0,AV.val (Ty.d0 false r7) v0),(1,AV.s4 263 (AV.cons (AV.u5 i5 v1a) (AV.cons (AV.u5 i5 v1ba) AV.nil))),(7,vI v7),(8,vI (v8+(1:Int)))] [])))))) (.ret (((-1:Int),()))):=by kernel_rfl
theorem b5p:b71.Valid Try.prog 153:=by
  refine w9.u7 a81 rfl rfl Try.func153 (c:=d8 Try.prog 153) rfl rfl a8P rfl ?_
  rintro ⟨(l:List (s5)),⟨(m:Int),(n:Int),⟨⟩⟩,⟨⟩⟩ hp ⟨⟨hl,-⟩,-⟩
  have hl:l.length≤9223372036854775807:=hl
  have hp:(LE.le (α:=Int) 0 m∧LE.le (α:=Int) m 40)∧(LE.le (α:=Int) 0 n∧LE.le (α:=Int) n 40):=hp
  refine n7 (n:=1000) a81 a8P ?_
  refine g9 (c4f l m n) ?_
  refine Reach.C1 a81 a8P (fun i:Nat=>b4G l m n (l.length:Int) (i:Int)) (fun i=>i≤l.length∧idxOf (U6 m n) l=a0l (U6 m n) (l.drop i) i)
    (fun i=>l.length - i) 1000 (fun _=>⟨j7 rfl,j7 rfl⟩) ?_ 0 ⟨by omega,rfl⟩
  rintro i ⟨k1,k2⟩ - ih
  refine g9 (c2x ..) ?_
  simp only [i9,Tree.holds,true_and,true_implies,decide_eq_true_eq,decide_eq_false_iff_not,Bool.not_eq_true',Bool.not_eq_false',Int.toNat_natCast,l7,List.length_set,List.length_cons,List.length_nil]
  refine ⟨fun h=>?_,fun h=>?_⟩
  · rw [S3 (show i<l.length by omega) (0,0,()),a0l] at k2
    refine ⟨by omega,fun _=>⟨hp,fun _=>⟨fun c=>?_,fun c=>⟨by omega,fun _=>ih (i+1) ⟨by omega,?_⟩ (by omega)⟩⟩⟩⟩
    · show (((i:Int),()):Int×Unit)=(idxOf (U6 m n) l,())
      rw [k2,if_pos (show (U6 m n) (l.getD i (0,0,()))=true from c)]
    · rw [k2,if_neg (show ¬ (U6 m n) (l.getD i (0,0,()))=true from fun h9=>Bool.noConfusion (Eq.trans (Eq.symm h9) c))]
  · rw [List.drop_eq_nil_of_le (by omega)] at k2
    show (((-1:Int),()):Int×Unit)=(idxOf (U6 m n) l,())
    rw [k2]; rfl
def b32:w9:={ ps:=[.v (.d0 false r7),.s4 263 [i5,i5]],rs:=[.bool],pre:=fun x=>(LE.le (α:=Int) 0 x.2.1.1∧LE.le (α:=Int) x.2.1.1 40)∧(LE.le (α:=Int) 0 x.2.1.2.1∧LE.le (α:=Int) x.2.1.2.1 40),fn:=fun x=>(List.any (α:=s5) x.1 (U6 x.2.1.1 x.2.1.2.1),()),out:=fun _=>() }
noncomputable def b4L:Env:={ P:=Try.prog,tt:=tt,F2:=[(153,b71)],res:=[Go.ResultVar.tmp 4],rs:=[Ty.bool],ps:=[PK.v (Ty.d0 false r7),PK.s4 263 [Ty.int IntKind.i64,Ty.int IntKind.i64]],D8:=[],nt:=9 }
theorem b17:B6 b4L:=D0 w5 ⟨b5p,trivial⟩
theorem b1N:E3 b4L Try.f49:=⟨rfl,rfl⟩
theorem c2C (x0:List (Int×Int×Unit)) (x1c0:Int) (x1c1:Int):exec b4L 1000 [.code (d8 Try.prog 49)] (A5 b32.ps ((x0,(x1c0,x1c1,()),()))) =
  .e8 (((0:Int)≤x1c0∧x1c0≤(40:Int))∧(0:Int)≤x1c1∧x1c1≤(40:Int)) (.ret ((decide ((0:Int)≤idxOf (U6 x1c0 x1c1) x0),()))):=by kernel_rfl
theorem b31:b32.Valid Try.prog 49:=by
  refine w9.u7 b17 rfl rfl Try.func49 (c:=d8 Try.prog 49) rfl rfl b1N rfl ?_
  rintro ⟨(l:List (s5)),⟨(m:Int),(n:Int),⟨⟩⟩,⟨⟩⟩ hp -
  refine n7 (n:=1000) b17 b1N ?_
  refine g9 (c2C l m n) ?_
  refine ⟨hp,fun _=>?_⟩
  show ((decide (0≤idxOf (U6 m n) l),()):Bool×Unit)=(l.any (U6 m n),())
  rw [b0A]
def a7w:w9:={ ps:=[.v i5,.v i5,.v (.d0 false r7)],rs:=[i5],pre:=fun _=>True,fn:=fun x=>(G4 x.1 x.2.1 x.2.2.1,()),out:=fun _=>() }
noncomputable def b0Z:Env:={ P:=Try.prog,tt:=tt,F2:=[(262,b2C),(49,b32)],res:=[Go.ResultVar.tmp 6],rs:=[Ty.int IntKind.i64],ps:=[PK.v i5,PK.v i5,PK.v (Ty.d0 false r7)],D8:=[],nt:=24 }
theorem b0d:B6 b0Z:=D0 w5 ⟨a7W,b31,trivial⟩
theorem a92:E3 b0Z Try.f196:=⟨rfl,rfl⟩
theorem c0A (x0:Int) (x1:Int) (x2:List (Int×Int×Unit)):exec b0Z 1000 [.code (d8 Try.prog 196)] (A5 a7w.ps ((x0,x1,x2,()))) =
  .e8 (True) (cond (!N3 x0 (0:Int) (40:Int)) (.ret (((1:Int),()))) (.e8 (True) (cond (!N3 x1 (0:Int) (40:Int)) (.ret (((1:Int),()))) (cond (decide ((600:Int)<(↑(List.length x2):Int))) (.ret (((2:Int),()))) (.e8 (((0:Int)≤x0∧x0≤(40:Int))∧(0:Int)≤x1∧x1≤(40:Int)) (cond (List.any x2 (U6 x0 x1)) (.ret (((4:Int),()))) (.ret (((0:Int),()))))))))):=by kernel_rfl
theorem a56:a7w.Valid Try.prog 196:=by
  refine w9.u7 b0d rfl rfl Try.func196 (c:=d8 Try.prog 196) rfl rfl a92 rfl ?_
  rintro ⟨(m:Int),(n:Int),(l:List s5),⟨⟩⟩ - -
  refine n7 (n:=1000) b0d a92 ?_
  refine g9 (c0A m n l) ?_
  simp only [i9,Tree.holds,true_and,true_implies,decide_eq_true_eq,decide_eq_false_iff_not,Bool.not_eq_true',Bool.not_eq_false',Int.toNat_natCast,l7,List.length_set,List.length_cons,List.length_nil]
  have bad:(N3 m 0 40 && N3 n 0 40)=false→(((1:Int),()):Int×Unit)=(G4 m n l,()):=fun h=>by rw [G4,if_pos h]
  refine ⟨fun h=>bad (by rw [h]; rfl),fun h1=>⟨fun h=>bad (by rw [h1,h]; rfl),fun h2=>⟨fun h=>?_,fun h3=>⟨⟨K0.1 h1,K0.1 h2⟩,fun _=>⟨fun h=>?_,fun h=>?_⟩⟩⟩⟩⟩
  all_goals have hw:¬ (N3 m 0 40 && N3 n 0 40)=false:=by rw [h1,h2]; decide
  · show (((2:Int),()):Int×Unit)=(G4 m n l,()); rw [G4,if_neg hw,if_pos (by omega)]
  · show (((4:Int),()):Int×Unit)=(G4 m n l,()); rw [G4,if_neg hw,if_neg (by omega),if_pos h]
  · show (((0:Int),()):Int×Unit)=(G4 m n l,()); rw [G4,if_neg hw,if_neg (by omega),if_neg (fun h9=>Bool.noConfusion (Eq.trans (Eq.symm h9) h))]
def b3T:w9:={ ps:=[.v U64,.v U64],rs:=[U64,U64],pre:=fun x=>x.1=(show Ty.den U64 from (1:Int))∧LE.le (α:=Int) 0 x.2.1∧LE.le (α:=Int) x.2.1 40,fn:=fun x=>((show Ty.den U64 from (0:Int)),x.2.1,()),out:=fun _=>() }
noncomputable def b4B:Env:={ P:=Try.prog,tt:=tt,F2:=[],res:=[Go.ResultVar.tmp 4,Go.ResultVar.tmp 5],rs:=[Ty.int IntKind.u64,Ty.int IntKind.u64],ps:=[PK.v (Ty.int IntKind.u64),PK.v (Ty.int IntKind.u64)],D8:=[],nt:=51 }
theorem b1V:B6 b4B:=D0 w5 trivial
theorem b1K:E3 b4B Try.f281:=⟨rfl,rfl⟩
theorem c2q (x0:Int) (x1:Int):exec b4B 1000 [.code (d8 Try.prog 281)] (A5 b3T.ps ((x0,x1,()))) =
  .e8 ((0:Int)≤(32:Int)) (.e8 ((0:Int)≤(32:Int)) (.e8 ((0:Int)≤(32:Int)) (.e8 ((0:Int)≤(32:Int)) (.e8 ((0:Int)≤(32:Int)) (.ret ((IntKind.wrap IntKind.u64 (IntKind.wrap IntKind.u64 (IntKind.wrap IntKind.u64 (x0 / (2:Int)^min (Int.toNat (32:Int)) (IntKind.bits IntKind.u64)*(x1 / (2:Int)^min (Int.toNat (32:Int)) (IntKind.bits IntKind.u64)))+IntKind.wrap IntKind.u64 (IntKind.wrap IntKind.u64 (x0 / (2:Int)^min (Int.toNat (32:Int)) (IntKind.bits IntKind.u64)*Z4 IntKind.u64 x1 (4294967295:Int))+IntKind.wrap IntKind.u64 (Z4 IntKind.u64 x0 (4294967295:Int)*Z4 IntKind.u64 x1 (4294967295:Int)) / (2:Int)^min (Int.toNat (32:Int)) (IntKind.bits IntKind.u64)) / (2:Int)^min (Int.toNat (32:Int)) (IntKind.bits IntKind.u64))+IntKind.wrap IntKind.u64 (Z4 IntKind.u64 (IntKind.wrap IntKind.u64 (IntKind.wrap IntKind.u64 (x0 / (2:Int)^min (Int.toNat (32:Int)) (IntKind.bits IntKind.u64)*Z4 IntKind.u64 x1 (4294967295:Int))+IntKind.wrap IntKind.u64 (Z4 IntKind.u64 x0 (4294967295:Int)*Z4 IntKind.u64 x1 (4294967295:Int)) / (2:Int)^min (Int.toNat (32:Int)) (IntKind.bits IntKind.u64))) (4294967295:Int)+IntKind.wrap IntKind.u64 (Z4 IntKind.u64 x0 (4294967295:Int)*(x1 / (2:Int)^min (Int.toNat (32:Int)) (IntKind.bits IntKind.u64)))) / (2:Int)^min (Int.toNat (32:Int)) (IntKind.bits IntKind.u64)),IntKind.wrap IntKind.u64 (x0*x1),()))))))):=by kernel_rfl
def c1k (y:Int):Int×Int:=(IntKind.wrap .u64 (IntKind.wrap .u64 (IntKind.wrap .u64 ((1:Int) / 2^min (Int.toNat 32) (IntKind.bits .u64)*(y / 2^min (Int.toNat 32) (IntKind.bits .u64)))+IntKind.wrap .u64 (IntKind.wrap .u64 ((1:Int) / 2^min (Int.toNat 32) (IntKind.bits .u64)*Z4 .u64 y 4294967295)+IntKind.wrap .u64 (Z4 .u64 1 4294967295*Z4 .u64 y 4294967295) / 2^min (Int.toNat 32) (IntKind.bits .u64)) / 2^min (Int.toNat 32) (IntKind.bits .u64))+IntKind.wrap .u64 (Z4 .u64 (IntKind.wrap .u64 (IntKind.wrap .u64 ((1:Int) / 2^min (Int.toNat 32) (IntKind.bits .u64)*Z4 .u64 y 4294967295)+IntKind.wrap .u64 (Z4 .u64 1 4294967295*Z4 .u64 y 4294967295) / 2^min (Int.toNat 32) (IntKind.bits .u64))) 4294967295+IntKind.wrap .u64 (Z4 .u64 1 4294967295*(y / 2^min (Int.toNat 32) (IntKind.bits .u64)))) / 2^min (Int.toNat 32) (IntKind.bits .u64)),IntKind.wrap .u64 (1*y))
theorem b7r:∀ k:Fin 41,c1k ((k.val:Nat):Int)=(0,((k.val:Nat):Int)):=by decide +kernel
theorem b3S:b3T.Valid Try.prog 281:=by
  refine w9.u7 b1V rfl rfl Try.func281 (c:=d8 Try.prog 281) rfl rfl b1K rfl ?_
  rintro ⟨(x:Int),(y:Int),⟨⟩⟩ ⟨(hx:x=1),(h0:0≤y),(h1:y≤40)⟩ -
  subst hx
  refine n7 (n:=1000) b1V b1K ?_
  refine g9 (c2q 1 y) ?_
  have hm:=b7r ⟨y.toNat,by omega⟩
  rw [show (((⟨y.toNat,by omega⟩:Fin 41).val:Nat):Int)=y from Int.toNat_of_nonneg h0] at hm
  refine ⟨by decide,fun _=>⟨by decide,fun _=>⟨by decide,fun _=>⟨by decide,fun _=>⟨by decide,fun _=>?_⟩⟩⟩⟩⟩
  show (((c1k y).1,(c1k y).2,()):Int×Int×Unit)=(0,y,())
  rw [hm]
def b7Y:w9:={ ps:=[.v U64,.v U64],rs:=[U64,U64],pre:=fun x=>x.1=(show Ty.den U64 from (1:Int))∧LE.le (α:=Int) 0 x.2.1∧LE.le (α:=Int) x.2.1 40,fn:=fun x=>((show Ty.den U64 from (0:Int)),x.2.1,()),out:=fun _=>() }
noncomputable def c2r:Env:={ P:=Try.prog,tt:=tt,F2:=[(281,b3T)],res:=[Go.ResultVar.tmp 4,Go.ResultVar.tmp 5],rs:=[Ty.int IntKind.u64,Ty.int IntKind.u64],ps:=[PK.v (Ty.int IntKind.u64),PK.v (Ty.int IntKind.u64)],D8:=[],nt:=30 }
theorem b6H:B6 c2r:=D0 w5 ⟨b3S,trivial⟩
theorem b6B:E3 c2r Try.f227:=⟨rfl,rfl⟩
theorem c4Z (x0:Int) (x1:Int):exec c2r 1000 [.code (d8 Try.prog 227)] (A5 b7Y.ps ((x0,x1,()))) =
  .e8 (x0=(1:Int)∧(0:Int)≤x1∧x1≤(40:Int)) (.ret (((0:Int),x1,()))):=by kernel_rfl
theorem a9R:b7Y.Valid Try.prog 227:=by
  refine w9.u7 b6H rfl rfl Try.func227 (c:=d8 Try.prog 227) rfl rfl b6B rfl ?_
  rintro ⟨(x:Int),(y:Int),⟨⟩⟩ ⟨(hx:x=1),(h0:0≤y),(h1:y≤40)⟩ -
  refine n7 (n:=1000) b6H b6B ?_
  refine g9 (c4Z x y) ?_
  exact ⟨⟨hx,h0,h1⟩,fun _=>rfl⟩
def b7U:w9:={ ps:=[.v (.d0 false i5),.v i5],rs:=[Is],pre:=fun x=>List.length (α:=Int) x.1=1∧LE.le (α:=Int) 0 x.2.1∧LE.le (α:=Int) x.2.1 40,fn:=fun x=>(List.replicate (Int.toNat x.2.1) (List.getD (α:=Int) x.1 0 0),()),out:=fun _=>() }
noncomputable def b4z:Env:={ P:=Try.prog,tt:=tt,F2:=[(227,b7Y)],res:=[Go.ResultVar.tmp 4],rs:=[Ty.d0 true i5],ps:=[PK.v (Ty.d0 false i5),PK.v i5],D8:=[(8,[(7,some Is),(8,none)])],nt:=48 }
theorem b0X:B6 b4z:=D0 w5 ⟨a9R,trivial⟩
theorem b0T:E3 b4z Try.f135:=⟨rfl,rfl⟩
theorem c4X (x0:List Int) (x1:Int):exec b4z 1000 [.code (d8 Try.prog 135)] (A5 b7U.ps ((x0,x1,()))) =
  cond (decide (x1<(0:Int))) (.stuck "op") (.e8 (IntKind.wrap IntKind.u64 (↑(List.length x0):Int)=(1:Int)∧(0:Int)≤IntKind.wrap IntKind.u64 x1∧IntKind.wrap IntKind.u64 x1≤(40:Int)) (cond (decide ((9223372036854775807:Int)<IntKind.wrap IntKind.u64 x1)) (.stuck "op") (.e8 ((0:Int)≤IntKind.wrap IntKind.i64 (IntKind.wrap IntKind.u64 x1)∧IntKind.wrap IntKind.i64 (IntKind.wrap IntKind.u64 x1)≤IntKind.wrap IntKind.i64 (IntKind.wrap IntKind.u64 x1)∧IntKind.wrap IntKind.i64 (IntKind.wrap IntKind.u64 x1)≤(140737488355328:Int)∧IntKind.wrap IntKind.i64 (IntKind.wrap IntKind.u64 x1)*(↑(Ty.wb i5):Int)≤(140737488355328:Int)) (.ctL (d9 (d8 Try.prog 135) 8) (St.mk [(7,AV.at_ 1000007 []),(8,vI (↑(List.length (List.take (Int.toNat ((↑(List.length (List.replicate (Int.toNat (IntKind.wrap IntKind.i64 (IntKind.wrap IntKind.u64 x1))) (0:Int))):Int) - (0:Int))) x0)):Int))] [(1000007,f7.own Is (List.take (Int.toNat (0:Int)) (List.replicate (Int.toNat (IntKind.wrap IntKind.i64 (IntKind.wrap IntKind.u64 x1))) (0:Int))++List.take (Int.toNat ((↑(List.length (List.replicate (Int.toNat (IntKind.wrap IntKind.i64 (IntKind.wrap IntKind.u64 x1))) (0:Int))):Int) - (0:Int))) x0++List.drop (Int.toNat (0:Int)+List.length (List.take (Int.toNat ((↑(List.length (List.replicate (Int.toNat (IntKind.wrap IntKind.i64 (IntKind.wrap IntKind.u64 x1))) (0:Int))):Int) - (0:Int))) x0)) (List.replicate (Int.toNat (IntKind.wrap IntKind.i64 (IntKind.wrap IntKind.u64 x1))) (0:Int))))]))))):=by kernel_rfl
def b0W (v8:Int) (o1000007:List Int):St:=St.mk [(7,AV.at_ 1000007 []),(8,vI v8)] [(1000007,f7.own Is o1000007)]
theorem c38 (v8:Int) (o1000007:List Int):exec b4z 1000 (.code (d9 (d8 Try.prog 135) 8).1::.inLoop (d9 (d8 Try.prog 135) 8).1::(d9 (d8 Try.prog 135) 8).2) (b0W v8 o1000007) =
  cond (decide (v8<(↑(List.length o1000007):Int))) (.e8 ((0:Int)≤v8∧v8≤(↑(List.length o1000007):Int)∧(↑(List.length o1000007):Int)≤(↑(List.length o1000007):Int)) (.e8 ((0:Int)≤(0:Int)∧(0:Int)≤v8∧v8≤(↑(List.length o1000007):Int)) (.e8 (r9 IntKind.i64 (v8+(↑(List.length (List.take (Int.toNat ((↑(List.length o1000007):Int) - v8)) (B5 (0:Int) v8 o1000007))):Int))) (.ctL (d9 (d8 Try.prog 135) 8) (St.mk [(7,AV.at_ 1000007 []),(8,vI (v8+(↑(List.length (List.take (Int.toNat ((↑(List.length o1000007):Int) - v8)) (B5 (0:Int) v8 o1000007))):Int)))] [(1000007,f7.own Is (List.take (Int.toNat v8) o1000007++List.take (Int.toNat ((↑(List.length o1000007):Int) - v8)) (B5 (0:Int) v8 o1000007)++List.drop (Int.toNat v8+List.length (List.take (Int.toNat ((↑(List.length o1000007):Int) - v8)) (B5 (0:Int) v8 o1000007))) o1000007))]))))) (.ret ((o1000007,()))):=by kernel_rfl
def flN (N c:Nat) (v:Int):List Int:=List.replicate c v++List.replicate (N - c) 0
theorem c1C {N c:Nat} {v:Int} (hc:c≤N):List.take c (flN N c v)++List.take (N - c) (List.take c (flN N c v))++List.drop (c+(List.take (N - c) (List.take c (flN N c v))).length) (flN N c v)=flN N (c+min (N - c) c) v:=by
  have h1:List.take c (flN N c v)=List.replicate c v:=by rw [flN,List.take_append_of_le_length (by simp),List.take_of_length_le (by simp)]
  rw [h1,List.take_replicate,List.length_replicate,flN,flN,List.drop_append,List.drop_eq_nil_of_le (by simp),List.nil_append,List.length_replicate,List.drop_replicate,List.replicate_append_replicate]
  congr 2
  omega
set_option maxHeartbeats 4000000 in
theorem a9Q:b7U.Valid Try.prog 135:=by
  refine w9.u7 b0X rfl rfl Try.func135 (c:=d8 Try.prog 135) rfl rfl b0T rfl ?_
  rintro ⟨(l:List Int),(n:Int),⟨⟩⟩ ⟨(hl:l.length=1),(h0:0≤n),(h1:n≤40)⟩ -
  obtain ⟨v,rfl⟩:∃ v,l=[v]:=by
    match l,hl with
    | [v],_=>exact ⟨v,rfl⟩
  obtain ⟨N,rfl⟩:∃ N:Nat,n=(N:Int):=⟨n.toNat,by omega⟩
  refine n7 (n:=1000) b0X b0T ?_
  refine g9 (c4X [v] (N:Int)) ?_
  have w1:IntKind.wrap .u64 (N:Int)=N:=N9 ⟨by show (0:Int)≤_; omega,by show (N:Int)≤18446744073709551615; omega⟩
  have w2:IntKind.wrap .i64 (N:Int)=N:=N9 ⟨by show (-9223372036854775808:Int)≤_; omega,by show (N:Int)≤9223372036854775807; omega⟩
  have w3:IntKind.wrap .u64 ((([v]:List Int).length:Nat):Int)=1:=by show IntKind.wrap .u64 (1:Int)=1; decide
  have w4:Ty.wb (.int .i64)=8:=rfl
  simp only [i9,Tree.holds,true_and,true_implies,decide_eq_true_eq,decide_eq_false_iff_not,Bool.not_eq_true',Bool.not_eq_false',Int.toNat_natCast,l7,List.length_set,List.length_cons,List.length_nil,w1,w2,w4]
  refine ⟨fun c=>by omega,fun _=>⟨⟨w3,by omega,by omega⟩,fun _=>⟨fun c=>by omega,fun _=>⟨by omega,fun _=>?_⟩⟩⟩⟩
  have loop:∀ c:Nat,(c≤N∧(N=0∨1≤c))→Go.Ex.Reach b4z Try.f135 (List.replicate N v,()) () (.code (d9 (d8 Try.prog 135) 8).1::.inLoop (d9 (d8 Try.prog 135) 8).1::(d9 (d8 Try.prog 135) 8).2) (b0W (c:Int) (flN N c v)):=by
    refine Reach.C1 b0X b0T (fun c:Nat=>b0W (c:Int) (flN N c v)) (fun c=>c≤N∧(N=0∨1≤c)) (fun c=>N - c) 1000 (fun _=>⟨j7 rfl,j7 rfl⟩) ?_
    rintro c ⟨k1,k2⟩ - ih
    have hlen:(flN N c v).length=N:=by rw [flN,List.length_append,List.length_replicate,List.length_replicate]; omega
    have h1:List.take c (flN N c v)=List.replicate c v:=by rw [flN,List.take_append_of_le_length (by simp),List.take_of_length_le (by simp)]
    refine g9 (c38 ..) ?_
    have e1:B5 0 (c:Int) (flN N c v)=List.take c (flN N c v):=by rw [B5,Int.toNat_zero,List.drop_zero,show ((c:Int) - 0).toNat=c by omega]
    have e2:(((flN N c v).length:Int) - (c:Int)).toNat=N - c:=by omega
    have e3:(List.take (N - c) (List.take c (flN N c v))).length=min (N - c) c:=by rw [h1,List.length_take,List.length_replicate]
    have e4:=c1C (v:=v) k1
    rw [e3] at e4
    simp only [i9,Tree.holds,true_and,true_implies,decide_eq_true_eq,decide_eq_false_iff_not,Bool.not_eq_true',Bool.not_eq_false',Int.toNat_natCast,l7,List.length_set,List.length_cons,List.length_nil,e1,e2,e3,e4]
    rw [hlen]
    refine ⟨fun a=>⟨by omega,fun _=>⟨by omega,fun _=>⟨by omega,fun _=>ih (c+min (N - c) c) ⟨by omega,by omega⟩ (by omega)⟩⟩⟩,fun a=>?_⟩
    show ((flN N c v,()):List Int×Unit)=(List.replicate N v,())
    rw [show c=N by omega,flN,Nat.sub_self,List.replicate_zero,List.append_nil]
  have hs:=loop (min N 1) ⟨by omega,by omega⟩
  have e5:List.take ((((List.replicate N (0:Int)).length:Nat):Int) - 0).toNat [v]=List.replicate (min N 1) v:=by
    rw [List.length_replicate,show ((N:Int) - 0).toNat=N by omega]
    cases N with
    | zero=>rfl
    | succ N=>rw [show min (N+1) 1=1 by omega]; simp
  have e6:List.take 0 (List.replicate N (0:Int))++List.replicate (min N 1) v++List.drop (0+(List.replicate (min N 1) v).length) (List.replicate N 0)=flN N (min N 1) v:=by
    rw [List.take_zero,List.nil_append,List.length_replicate,List.drop_replicate,Nat.zero_add]; rfl
  have hs2:=hs
  rw [← e6] at hs2
  rw [e5]
  rw [List.length_replicate] at hs2 ⊢
  exact hs2
def c4H:w9:=a1k 41
end Go.Proofs.Ytekbamiaenbhjaa
