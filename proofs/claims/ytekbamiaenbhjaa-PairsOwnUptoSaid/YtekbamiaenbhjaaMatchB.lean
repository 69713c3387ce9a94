/- match.Check, and what match.most calls. No condition but those named. -/
import Derived.Test.YtekbamiaenbhjaaMatchS
namespace Go.Proofs.Ytekbamiaenbhjaa
open Go.Ex
set_option maxRecDepth 100000
def U9 (m n:Int) (q:l6):Bool:=!(S9 q.1 0 (m - 1)) || !(S9 q.2.1 0 (n - 1))
def B8 (m n:Int) (l:List l6):Int:=if (S9 m 0 40 && S9 n 0 40)=false then 1 else if 600<l.length then 2 else if l.any (U9 m n)=true then 4 else 0
def b00:w8:={ ps:=[.v A4,.v A4,.v A4],rs:=[.bool],pre:=fun _=>True,fn:=fun x=>(S9 x.1 x.2.1 x.2.2.1,()),out:=fun _=>() }
noncomputable def b6t:Env:={ P:=Try.prog,tt:=tt,F7:=[],res:=[Go.ResultVar.tmp 6],rs:=[Ty.bool],ps:=[PK.v (Ty.int IntKind.i64),PK.v (Ty.int IntKind.i64),PK.v (Ty.int IntKind.i64)],H2:=[],nt:=15 }
theorem b2U:D7 b6t:=G8 x5 trivial
theorem b2I:H9 b6t Try.f262:=⟨rfl,rfl⟩
theorem c0A (x0:Int) (x1:Int) (x2:Int):exec b6t 1000 [.code (d8 Try.prog 262)] (C2 b00.ps ((x0,x1,x2,()))) =
  cond (decide (x1≤x0)) (.ret ((decide (x0≤x2),()))) (.ret ((false,()))):=by kernel_rfl
theorem a6y:b00.Valid Try.prog 262:=by
  refine w8.y8 b2U rfl rfl Try.func262 (c:=d8 Try.prog 262) rfl rfl b2I rfl ?_
  rintro ⟨(n:Int),(a:Int),(b:Int),⟨⟩⟩ - -
  refine p8 (n:=1000) b2U b2I ?_
  refine l4 (c0A n a b) ?_
  simp only [p7,Tree.holds,true_and,true_implies,decide_eq_true_eq,decide_eq_false_iff_not,Bool.not_eq_true',Bool.not_eq_false',Int.toNat_natCast,u7,List.length_set,List.length_cons,List.length_nil]
  refine ⟨fun c=>?_,fun c=>?_⟩
  · show ((decide _,()):Bool×Unit)=(S9 n a b,()); rw [S9,decide_eq_true c,Bool.true_and]
  · show ((false,()):Bool×Unit)=(S9 n a b,()); rw [S9,decide_eq_false c,Bool.false_and]
def b52:w8:={ ps:=[.v l5,.rd A4,.rd A4],rs:=[.bool],pre:=fun x=>(LE.le (α:=Int) 0 x.2.1∧LE.le (α:=Int) x.2.1 40)∧(LE.le (α:=Int) 0 x.2.2.1∧LE.le (α:=Int) x.2.2.1 40),fn:=fun x=>(U9 x.2.1 x.2.2.1 x.1,()),out:=fun _=>() }
noncomputable def b6D:Env:={ P:=Try.prog,tt:=tt,F7:=[(262,b00)],res:=[Go.ResultVar.tmp 4],rs:=[Ty.bool],ps:=[PK.v l5,PK.rd (Ty.int IntKind.i64),PK.rd (Ty.int IntKind.i64)],H2:=[],nt:=19 }
theorem b23:D7 b6D:=G8 x5 ⟨a6y,trivial⟩
theorem b2M:H9 b6D Try.f263:=⟨rfl,rfl⟩
theorem c0I (x0_1:Int) (x0_2_1:Int) (x1:Int) (x2:Int):exec b6D 1000 [.code (d8 Try.prog 263)] (C2 b52.ps (((x0_1,x0_2_1,()),x1,x2,()))) =
  .g9 (B2 IntKind.i64 (x1 - (1:Int))) (.g9 (True) (cond (!S9 x0_1 (0:Int) (x1 - (1:Int))) (.ret ((true,()))) (.g9 (B2 IntKind.i64 (x2 - (1:Int))) (.g9 (True) (.ret ((!S9 x0_2_1 (0:Int) (x2 - (1:Int)),()))))))):=by kernel_rfl
theorem b3F:b52.Valid Try.prog 263:=by
  refine w8.y8 b23 rfl rfl Try.func263 (c:=d8 Try.prog 263) rfl rfl b2M rfl ?_
  rintro ⟨⟨(a:Int),(b:Int),⟨⟩⟩,(m:Int),(n:Int),⟨⟩⟩ ⟨⟨hm0,hm1⟩,hn0,hn1⟩ -
  have hm0:0≤m:=hm0
  have hm1:m≤40:=hm1
  have hn0:0≤n:=hn0
  have hn1:n≤40:=hn1
  refine p8 (n:=1000) b23 b2M ?_
  refine l4 (c0I a b m n) ?_
  simp only [p7,Tree.holds,true_and,true_implies,decide_eq_true_eq,decide_eq_false_iff_not,Bool.not_eq_true',Bool.not_eq_false',Int.toNat_natCast,u7,List.length_set,List.length_cons,List.length_nil]
  refine ⟨by omega,fun _=>⟨fun c=>?_,fun c=>⟨by omega,fun _=>?_⟩⟩⟩
  · show ((true,()):Bool×Unit)=(!S9 a 0 (m - 1) || !S9 b 0 (n - 1),()); rw [c]; rfl
  · show ((!S9 b 0 (n - 1),()):Bool×Unit)=(!S9 a 0 (m - 1) || !S9 b 0 (n - 1),()); rw [c]; rfl
def b5R:w8:={ ps:=[.v (.d0 false l5),.u6 263 [A4,A4]],rs:=[A4],pre:=fun x=>(LE.le (α:=Int) 0 x.2.1.1∧LE.le (α:=Int) x.2.1.1 40)∧(LE.le (α:=Int) 0 x.2.1.2.1∧LE.le (α:=Int) x.2.1.2.1 40),fn:=fun x=>(idxOf (U9 x.2.1.1 x.2.1.2.1) x.1,()),out:=fun _=>() }
noncomputable def b05:Env:={ P:=Try.prog,tt:=tt,F7:=[(263,b52)],res:=[Go.ResultVar.tmp 4],rs:=[Ty.int IntKind.i64],ps:=[PK.v (Ty.d0 false l5),PK.u6 263 [Ty.int IntKind.i64,Ty.int IntKind.i64]],H2:=[(2,[(0,none),(1,none),(7,none),(8,none)])],nt:=19 }
theorem a7l:D7 b05:=G8 x5 ⟨b3F,trivial⟩
theorem a7f:H9 b05 Try.f153:=⟨rfl,rfl⟩
theorem c0B (x0:List (Int×Int×Unit)) (x1c0:Int) (x1c1:Int):exec b05 1000 [.code (d8 Try.prog 153)] (C2 b5R.ps ((x0,(x1c0,x1c1,()),()))) =
  .cut (e8 (d8 Try.prog 153) 2).1 (e8 (d8 Try.prog 153) 2).2 (St.mk [(0,AV.val (Ty.d0 false l5) x0),(1,AV.u6 263 (AV.cons (AV.G9 (Ty.int IntKind.i64) x1c0) (AV.cons (AV.G9 (Ty.int IntKind.i64) x1c1) AV.nil))),(7,AV.val (Ty.int IntKind.i64) (↑(List.length x0):Int)),(8,AV.val (Ty.int IntKind.i64) (0:Int))] []):=by kernel_rfl
def b2V (v0:List (Int×Int×Unit)) (v1a:Int) (v1ba:Int) (v7:Int) (v8:Int):St:=St.mk [(0,AV.val (Ty.d0 false l5) v0),(1,AV.u6 263 (AV.cons (AV.G9 (Ty.int IntKind.i64) v1a) (AV.cons (AV.G9 (Ty.int IntKind.i64) v1ba) AV.nil))),(7,AV.val (Ty.int IntKind.i64) v7),(8,AV.val (Ty.int IntKind.i64) v8)] []
theorem b9c (v0:List (Int×Int×Unit)) (v1a:Int) (v1ba:Int) (v7:Int) (v8:Int):exec b05 1000 (.code (e8 (d8 Try.prog 153) 2).1::.inLoop (e8 (d8 Try.prog 153) 2).1::(e8 (d8 Try.prog 153) 2).2) (b2V v0 v1a v1ba v7 v8) =
  cond (decide (v8<v7)) (.g9 ((0:Int)≤v8∧v8<(↑(List.length v0):Int)) (.g9 (((0:Int)≤v1a∧v1a≤(40:Int))∧(0:Int)≤v1ba∧v1ba≤(40:Int)) (cond (U9 v1a v1ba (List.getD v0 (Int.toNat v8) ((0:Int),(0:Int),()))) (.ret ((v8,()))) (.g9 (B2 IntKind.i64 (v8+(1:Int))) (.cut (e8 (d8 Try.prog 153) 2).1 (e8 (d8 Try.prog 153) 2).2 (St.mk [(0,AV.val (Ty.d0 false l5) v0),(1,AV.u6 263 (AV.cons (AV.G9 (Ty.int IntKind.i64) v1a) (AV.cons (AV.G9 (Ty.int IntKind.i64) v1ba) AV.nil))),(7,AV.val (Ty.int IntKind.i64) v7),(8,AV.val (Ty.int IntKind.i64) (v8+(1:Int)))] [])))))) (.ret (((-1:Int),()))):=by kernel_rfl
theorem b3z:b5R.Valid Try.prog 153:=by
  refine w8.y8 a7l rfl rfl Try.func153 (c:=d8 Try.prog 153) rfl rfl a7f rfl ?_
  rintro ⟨(l:List (l6)),⟨(m:Int),(n:Int),⟨⟩⟩,⟨⟩⟩ hp ⟨⟨hl,-⟩,-⟩
  have hl:l.length≤9223372036854775807:=hl
  have hp:(LE.le (α:=Int) 0 m∧LE.le (α:=Int) m 40)∧(LE.le (α:=Int) 0 n∧LE.le (α:=Int) n 40):=hp
  refine p8 (n:=1000) a7l a7f ?_
  refine l4 (c0B l m n) ?_
  refine Reach.J8 a7l a7f (fun i:Nat=>b2V l m n (l.length:Int) (i:Int)) (fun i=>i≤l.length∧idxOf (U9 m n) l=Z6 (U9 m n) (l.drop i) i)
    (fun i=>l.length - i) 1000 (fun _=>⟨r9 rfl,r9 rfl⟩) ?_ 0 ⟨by omega,rfl⟩
  rintro i ⟨k1,k2⟩ - ih
  refine l4 (b9c ..) ?_
  simp only [p7,Tree.holds,true_and,true_implies,decide_eq_true_eq,decide_eq_false_iff_not,Bool.not_eq_true',Bool.not_eq_false',Int.toNat_natCast,u7,List.length_set,List.length_cons,List.length_nil]
  refine ⟨fun h=>?_,fun h=>?_⟩
  · rw [a5v (show i<l.length by omega) (0,0,()),Z6] at k2
    refine ⟨by omega,fun _=>⟨hp,fun _=>⟨fun c=>?_,fun c=>⟨by omega,fun _=>ih (i+1) ⟨by omega,?_⟩ (by omega)⟩⟩⟩⟩
    · show (((i:Int),()):Int×Unit)=(idxOf (U9 m n) l,())
      rw [k2,if_pos (show (U9 m n) (l.getD i (0,0,()))=true from c)]
    · rw [k2,if_neg (show ¬ (U9 m n) (l.getD i (0,0,()))=true from fun h9=>Bool.noConfusion (Eq.trans (Eq.symm h9) c))]
  · rw [List.drop_eq_nil_of_le (by omega)] at k2
    show (((-1:Int),()):Int×Unit)=(idxOf (U9 m n) l,())
    rw [k2]; rfl
def b2m:w8:={ ps:=[.v (.d0 false l5),.u6 263 [A4,A4]],rs:=[.bool],pre:=fun x=>(LE.le (α:=Int) 0 x.2.1.1∧LE.le (α:=Int) x.2.1.1 40)∧(LE.le (α:=Int) 0 x.2.1.2.1∧LE.le (α:=Int) x.2.1.2.1 40),fn:=fun x=>(List.any (α:=l6) x.1 (U9 x.2.1.1 x.2.1.2.1),()),out:=fun _=>() }
noncomputable def b2Z:Env:={ P:=Try.prog,tt:=tt,F7:=[(153,b5R)],res:=[Go.ResultVar.tmp 4],rs:=[Ty.bool],ps:=[PK.v (Ty.d0 false l5),PK.u6 263 [Ty.int IntKind.i64,Ty.int IntKind.i64]],H2:=[],nt:=9 }
theorem b0q:D7 b2Z:=G8 x5 ⟨b3z,trivial⟩
theorem b0i:H9 b2Z Try.f49:=⟨rfl,rfl⟩
theorem b9h (x0:List (Int×Int×Unit)) (x1c0:Int) (x1c1:Int):exec b2Z 1000 [.code (d8 Try.prog 49)] (C2 b2m.ps ((x0,(x1c0,x1c1,()),()))) =
  .g9 (((0:Int)≤x1c0∧x1c0≤(40:Int))∧(0:Int)≤x1c1∧x1c1≤(40:Int)) (.ret ((decide ((0:Int)≤idxOf (U9 x1c0 x1c1) x0),()))):=by kernel_rfl
theorem b2l:b2m.Valid Try.prog 49:=by
  refine w8.y8 b0q rfl rfl Try.func49 (c:=d8 Try.prog 49) rfl rfl b0i rfl ?_
  rintro ⟨(l:List (l6)),⟨(m:Int),(n:Int),⟨⟩⟩,⟨⟩⟩ hp -
  refine p8 (n:=1000) b0q b0i ?_
  refine l4 (b9h l m n) ?_
  refine ⟨hp,fun _=>?_⟩
  show ((decide (0≤idxOf (U9 m n) l),()):Bool×Unit)=(l.any (U9 m n),())
  rw [a8Z]
def a31:w8:={ ps:=[.v A4,.v A4,.v (.d0 false l5)],rs:=[A4],pre:=fun _=>True,fn:=fun x=>(B8 x.1 x.2.1 x.2.2.1,()),out:=fun _=>() }
noncomputable def a9q:Env:={ P:=Try.prog,tt:=tt,F7:=[(262,b00),(49,b2m)],res:=[Go.ResultVar.tmp 6],rs:=[Ty.int IntKind.i64],ps:=[PK.v (Ty.int IntKind.i64),PK.v (Ty.int IntKind.i64),PK.v (Ty.d0 false l5)],H2:=[],nt:=24 }
theorem a8D:D7 a9q:=G8 x5 ⟨a6y,b2l,trivial⟩
theorem a8u:H9 a9q Try.f196:=⟨rfl,rfl⟩
theorem b74 (x0:Int) (x1:Int) (x2:List (Int×Int×Unit)):exec a9q 1000 [.code (d8 Try.prog 196)] (C2 a31.ps ((x0,x1,x2,()))) =
  .g9 (True) (cond (!S9 x0 (0:Int) (40:Int)) (.ret (((1:Int),()))) (.g9 (True) (cond (!S9 x1 (0:Int) (40:Int)) (.ret (((1:Int),()))) (cond (decide ((600:Int)<(↑(List.length x2):Int))) (.ret (((2:Int),()))) (.g9 (((0:Int)≤x0∧x0≤(40:Int))∧(0:Int)≤x1∧x1≤(40:Int)) (cond (List.any x2 (U9 x0 x1)) (.ret (((4:Int),()))) (.ret (((0:Int),()))))))))):=by kernel_rfl
theorem a2i:a31.Valid Try.prog 196:=by
  refine w8.y8 a8D rfl rfl Try.func196 (c:=d8 Try.prog 196) rfl rfl a8u rfl ?_
  rintro ⟨(m:Int),(n:Int),(l:List l6),⟨⟩⟩ - -
  refine p8 (n:=1000) a8D a8u ?_
  refine l4 (b74 m n l) ?_
  simp only [p7,Tree.holds,true_and,true_implies,decide_eq_true_eq,decide_eq_false_iff_not,Bool.not_eq_true',Bool.not_eq_false',Int.toNat_natCast,u7,List.length_set,List.length_cons,List.length_nil]
  have bad:(S9 m 0 40 && S9 n 0 40)=false→(((1:Int),()):Int×Unit)=(B8 m n l,()):=fun h=>by rw [B8,if_pos h]
  refine ⟨fun h=>bad (by rw [h]; rfl),fun h1=>⟨fun h=>bad (by rw [h1,h]; rfl),fun h2=>⟨fun h=>?_,fun h3=>⟨⟨L9.1 h1,L9.1 h2⟩,fun _=>⟨fun h=>?_,fun h=>?_⟩⟩⟩⟩⟩
  all_goals have hw:¬ (S9 m 0 40 && S9 n 0 40)=false:=by rw [h1,h2]; decide
  · show (((2:Int),()):Int×Unit)=(B8 m n l,()); rw [B8,if_neg hw,if_pos (by omega)]
  · show (((4:Int),()):Int×Unit)=(B8 m n l,()); rw [B8,if_neg hw,if_neg (by omega),if_pos h]
  · show (((0:Int),()):Int×Unit)=(B8 m n l,()); rw [B8,if_neg hw,if_neg (by omega),if_neg (fun h9=>Bool.noConfusion (Eq.trans (Eq.symm h9) h))]
def b2g:w8:={ ps:=[.v U64,.v U64],rs:=[U64,U64],pre:=fun x=>x.1=(show Ty.den U64 from (1:Int))∧LE.le (α:=Int) 0 x.2.1∧LE.le (α:=Int) x.2.1 40,fn:=fun x=>((show Ty.den U64 from (0:Int)),x.2.1,()),out:=fun _=>() }
noncomputable def b2R:Env:={ P:=Try.prog,tt:=tt,F7:=[],res:=[Go.ResultVar.tmp 4,Go.ResultVar.tmp 5],rs:=[Ty.int IntKind.u64,Ty.int IntKind.u64],ps:=[PK.v (Ty.int IntKind.u64),PK.v (Ty.int IntKind.u64)],H2:=[],nt:=51 }
theorem b0m:D7 b2R:=G8 x5 trivial
theorem b0h:H9 b2R Try.f281:=⟨rfl,rfl⟩
theorem b87 (x0:Int) (x1:Int):exec b2R 1000 [.code (d8 Try.prog 281)] (C2 b2g.ps ((x0,x1,()))) =
  .g9 ((0:Int)≤(32:Int)) (.g9 ((0:Int)≤(32:Int)) (.g9 ((0:Int)≤(32:Int)) (.g9 ((0:Int)≤(32:Int)) (.g9 ((0:Int)≤(32:Int)) (.ret ((IntKind.wrap IntKind.u64 (IntKind.wrap IntKind.u64 (IntKind.wrap IntKind.u64 (x0 / (2:Int)^min (Int.toNat (32:Int)) (IntKind.bits IntKind.u64)*(x1 / (2:Int)^min (Int.toNat (32:Int)) (IntKind.bits IntKind.u64)))+IntKind.wrap IntKind.u64 (IntKind.wrap IntKind.u64 (x0 / (2:Int)^min (Int.toNat (32:Int)) (IntKind.bits IntKind.u64)*Y1 IntKind.u64 x1 (4294967295:Int))+IntKind.wrap IntKind.u64 (Y1 IntKind.u64 x0 (4294967295:Int)*Y1 IntKind.u64 x1 (4294967295:Int)) / (2:Int)^min (Int.toNat (32:Int)) (IntKind.bits IntKind.u64)) / (2:Int)^min (Int.toNat (32:Int)) (IntKind.bits IntKind.u64))+IntKind.wrap IntKind.u64 (Y1 IntKind.u64 (IntKind.wrap IntKind.u64 (IntKind.wrap IntKind.u64 (x0 / (2:Int)^min (Int.toNat (32:Int)) (IntKind.bits IntKind.u64)*Y1 IntKind.u64 x1 (4294967295:Int))+IntKind.wrap IntKind.u64 (Y1 IntKind.u64 x0 (4294967295:Int)*Y1 IntKind.u64 x1 (4294967295:Int)) / (2:Int)^min (Int.toNat (32:Int)) (IntKind.bits IntKind.u64))) (4294967295:Int)+IntKind.wrap IntKind.u64 (Y1 IntKind.u64 x0 (4294967295:Int)*(x1 / (2:Int)^min (Int.toNat (32:Int)) (IntKind.bits IntKind.u64)))) / (2:Int)^min (Int.toNat (32:Int)) (IntKind.bits IntKind.u64)),IntKind.wrap IntKind.u64 (x0*x1),()))))))):=by kernel_rfl
def b8w (y:Int):Int×Int:=(IntKind.wrap .u64 (IntKind.wrap .u64 (IntKind.wrap .u64 ((1:Int) / 2^min (Int.toNat 32) (IntKind.bits .u64)*(y / 2^min (Int.toNat 32) (IntKind.bits .u64)))+IntKind.wrap .u64 (IntKind.wrap .u64 ((1:Int) / 2^min (Int.toNat 32) (IntKind.bits .u64)*Y1 .u64 y 4294967295)+IntKind.wrap .u64 (Y1 .u64 1 4294967295*Y1 .u64 y 4294967295) / 2^min (Int.toNat 32) (IntKind.bits .u64)) / 2^min (Int.toNat 32) (IntKind.bits .u64))+IntKind.wrap .u64 (Y1 .u64 (IntKind.wrap .u64 (IntKind.wrap .u64 ((1:Int) / 2^min (Int.toNat 32) (IntKind.bits .u64)*Y1 .u64 y 4294967295)+IntKind.wrap .u64 (Y1 .u64 1 4294967295*Y1 .u64 y 4294967295) / 2^min (Int.toNat 32) (IntKind.bits .u64))) 4294967295+IntKind.wrap .u64 (Y1 .u64 1 4294967295*(y / 2^min (Int.toNat 32) (IntKind.bits .u64)))) / 2^min (Int.toNat 32) (IntKind.bits .u64)),IntKind.wrap .u64 (1*y))
theorem b5r:∀ k:Fin 41,b8w ((k.val:Nat):Int)=(0,((k.val:Nat):Int)):=by decide +kernel
theorem b2f:b2g.Valid Try.prog 281:=by
  refine w8.y8 b0m rfl rfl Try.func281 (c:=d8 Try.prog 281) rfl rfl b0h rfl ?_
  rintro ⟨(x:Int),(y:Int),⟨⟩⟩ ⟨(hx:x=1),(h0:0≤y),(h1:y≤40)⟩ -
  subst hx
  refine p8 (n:=1000) b0m b0h ?_
  refine l4 (b87 1 y) ?_
  have hm:=b5r ⟨y.toNat,by omega⟩
  rw [show (((⟨y.toNat,by omega⟩:Fin 41).val:Nat):Int)=y from Int.toNat_of_nonneg h0] at hm
  refine ⟨by decide,fun _=>⟨by decide,fun _=>⟨by decide,fun _=>⟨by decide,fun _=>⟨by decide,fun _=>?_⟩⟩⟩⟩⟩
  show (((b8w y).1,(b8w y).2,()):Int×Int×Unit)=(0,y,())
  rw [hm]
def b5Q:w8:={ ps:=[.v U64,.v U64],rs:=[U64,U64],pre:=fun x=>x.1=(show Ty.den U64 from (1:Int))∧LE.le (α:=Int) 0 x.2.1∧LE.le (α:=Int) x.2.1 40,fn:=fun x=>((show Ty.den U64 from (0:Int)),x.2.1,()),out:=fun _=>() }
noncomputable def b88:Env:={ P:=Try.prog,tt:=tt,F7:=[(281,b2g)],res:=[Go.ResultVar.tmp 4,Go.ResultVar.tmp 5],rs:=[Ty.int IntKind.u64,Ty.int IntKind.u64],ps:=[PK.v (Ty.int IntKind.u64),PK.v (Ty.int IntKind.u64)],H2:=[],nt:=30 }
theorem b4J:D7 b88:=G8 x5 ⟨b2f,trivial⟩
theorem b4G:H9 b88 Try.f227:=⟨rfl,rfl⟩
theorem c1u (x0:Int) (x1:Int):exec b88 1000 [.code (d8 Try.prog 227)] (C2 b5Q.ps ((x0,x1,()))) =
  .g9 (x0=(1:Int)∧(0:Int)≤x1∧x1≤(40:Int)) (.ret (((0:Int),x1,()))):=by kernel_rfl
theorem a8g:b5Q.Valid Try.prog 227:=by
  refine w8.y8 b4J rfl rfl Try.func227 (c:=d8 Try.prog 227) rfl rfl b4G rfl ?_
  rintro ⟨(x:Int),(y:Int),⟨⟩⟩ ⟨(hx:x=1),(h0:0≤y),(h1:y≤40)⟩ -
  refine p8 (n:=1000) b4J b4G ?_
  refine l4 (c1u x y) ?_
  exact ⟨⟨hx,h0,h1⟩,fun _=>rfl⟩
def b5M:w8:={ ps:=[.v (.d0 false A4),.v A4],rs:=[Is],pre:=fun x=>List.length (α:=Int) x.1=1∧LE.le (α:=Int) 0 x.2.1∧LE.le (α:=Int) x.2.1 40,fn:=fun x=>(List.replicate (Int.toNat x.2.1) (List.getD (α:=Int) x.1 0 0),()),out:=fun _=>() }
noncomputable def b2P:Env:={ P:=Try.prog,tt:=tt,F7:=[(227,b5Q)],res:=[Go.ResultVar.tmp 4],rs:=[Ty.d0 true (Ty.int IntKind.i64)],ps:=[PK.v (Ty.d0 false (Ty.int IntKind.i64)),PK.v (Ty.int IntKind.i64)],H2:=[(8,[(7,some Is),(8,none)])],nt:=48 }
theorem a9p:D7 b2P:=G8 x5 ⟨a8g,trivial⟩
theorem a9l:H9 b2P Try.f135:=⟨rfl,rfl⟩
theorem c1t (x0:List Int) (x1:Int):exec b2P 1000 [.code (d8 Try.prog 135)] (C2 b5M.ps ((x0,x1,()))) =
  cond (decide (x1<(0:Int))) (.stuck "op") (.g9 (IntKind.wrap IntKind.u64 (↑(List.length x0):Int)=(1:Int)∧(0:Int)≤IntKind.wrap IntKind.u64 x1∧IntKind.wrap IntKind.u64 x1≤(40:Int)) (cond (decide ((9223372036854775807:Int)<IntKind.wrap IntKind.u64 x1)) (.stuck "op") (.g9 ((0:Int)≤IntKind.wrap IntKind.i64 (IntKind.wrap IntKind.u64 x1)∧IntKind.wrap IntKind.i64 (IntKind.wrap IntKind.u64 x1)≤IntKind.wrap IntKind.i64 (IntKind.wrap IntKind.u64 x1)∧IntKind.wrap IntKind.i64 (IntKind.wrap IntKind.u64 x1)≤(140737488355328:Int)∧IntKind.wrap IntKind.i64 (IntKind.wrap IntKind.u64 x1)*(↑(Ty.wb (Ty.int IntKind.i64)):Int)≤(140737488355328:Int)) (.cut (e8 (d8 Try.prog 135) 8).1 (e8 (d8 Try.prog 135) 8).2 (St.mk [(7,AV.at_ 1000007 []),(8,AV.val (Ty.int IntKind.i64) (↑(List.length (List.take (Int.toNat ((↑(List.length (List.replicate (Int.toNat (IntKind.wrap IntKind.i64 (IntKind.wrap IntKind.u64 x1))) (0:Int))):Int) - (0:Int))) x0)):Int))] [(1000007,f7.own Is (List.take (Int.toNat (0:Int)) (List.replicate (Int.toNat (IntKind.wrap IntKind.i64 (IntKind.wrap IntKind.u64 x1))) (0:Int))++List.take (Int.toNat ((↑(List.length (List.replicate (Int.toNat (IntKind.wrap IntKind.i64 (IntKind.wrap IntKind.u64 x1))) (0:Int))):Int) - (0:Int))) x0++List.drop (Int.toNat (0:Int)+List.length (List.take (Int.toNat ((↑(List.length (List.replicate (Int.toNat (IntKind.wrap IntKind.i64 (IntKind.wrap IntKind.u64 x1))) (0:Int))):Int) - (0:Int))) x0)) (List.replicate (Int.toNat (IntKind.wrap IntKind.i64 (IntKind.wrap IntKind.u64 x1))) (0:Int))))]))))):=by kernel_rfl
def a9o (v8:Int) (o1000007:List Int):St:=St.mk [(7,AV.at_ 1000007 []),(8,AV.val (Ty.int IntKind.i64) v8)] [(1000007,f7.own Is o1000007)]
theorem c0w (v8:Int) (o1000007:List Int):exec b2P 1000 (.code (e8 (d8 Try.prog 135) 8).1::.inLoop (e8 (d8 Try.prog 135) 8).1::(e8 (d8 Try.prog 135) 8).2) (a9o v8 o1000007) =
  cond (decide (v8<(↑(List.length o1000007):Int))) (.g9 ((0:Int)≤v8∧v8≤(↑(List.length o1000007):Int)∧(↑(List.length o1000007):Int)≤(↑(List.length o1000007):Int)) (.g9 ((0:Int)≤(0:Int)∧(0:Int)≤v8∧v8≤(↑(List.length o1000007):Int)) (.g9 (B2 IntKind.i64 (v8+(↑(List.length (List.take (Int.toNat ((↑(List.length o1000007):Int) - v8)) (B6 (0:Int) v8 o1000007))):Int))) (.cut (e8 (d8 Try.prog 135) 8).1 (e8 (d8 Try.prog 135) 8).2 (St.mk [(7,AV.at_ 1000007 []),(8,AV.val (Ty.int IntKind.i64) (v8+(↑(List.length (List.take (Int.toNat ((↑(List.length o1000007):Int) - v8)) (B6 (0:Int) v8 o1000007))):Int)))] [(1000007,f7.own Is (List.take (Int.toNat v8) o1000007++List.take (Int.toNat ((↑(List.length o1000007):Int) - v8)) (B6 (0:Int) v8 o1000007)++List.drop (Int.toNat v8+List.length (List.take (Int.toNat ((↑(List.length o1000007):Int) - v8)) (B6 (0:Int) v8 o1000007))) o1000007))]))))) (.ret ((o1000007,()))):=by kernel_rfl
def flN (N c:Nat) (v:Int):List Int:=List.replicate c v++List.replicate (N - c) 0
theorem b8K {N c:Nat} {v:Int} (hc:c≤N):List.take c (flN N c v)++List.take (N - c) (List.take c (flN N c v))++List.drop (c+(List.take (N - c) (List.take c (flN N c v))).length) (flN N c v)=flN N (c+min (N - c) c) v:=by
  have h1:List.take c (flN N c v)=List.replicate c v:=by rw [flN,List.take_append_of_le_length (by simp),List.take_of_length_le (by simp)]
  rw [h1,List.take_replicate,List.length_replicate,flN,flN,List.drop_append,List.drop_eq_nil_of_le (by simp),List.nil_append,List.length_replicate,List.drop_replicate,List.replicate_append_replicate]
  congr 2
  omega
set_option maxHeartbeats 4000000 in
theorem a8f:b5M.Valid Try.prog 135:=by
  refine w8.y8 a9p rfl rfl Try.func135 (c:=d8 Try.prog 135) rfl rfl a9l rfl ?_
  rintro ⟨(l:List Int),(n:Int),⟨⟩⟩ ⟨(hl:l.length=1),(h0:0≤n),(h1:n≤40)⟩ -
  obtain ⟨v,rfl⟩:∃ v,l=[v]:=by
    match l,hl with
    | [v],_=>exact ⟨v,rfl⟩
  obtain ⟨N,rfl⟩:∃ N:Nat,n=(N:Int):=⟨n.toNat,by omega⟩
  refine p8 (n:=1000) a9p a9l ?_
  refine l4 (c1t [v] (N:Int)) ?_
  have w1:IntKind.wrap .u64 (N:Int)=N:=L6 ⟨by show (0:Int)≤_; omega,by show (N:Int)≤18446744073709551615; omega⟩
  have w2:IntKind.wrap .i64 (N:Int)=N:=L6 ⟨by show (-9223372036854775808:Int)≤_; omega,by show (N:Int)≤9223372036854775807; omega⟩
  have w3:IntKind.wrap .u64 ((([v]:List Int).length:Nat):Int)=1:=by show IntKind.wrap .u64 (1:Int)=1; decide
  have w4:Ty.wb (.int .i64)=8:=rfl
  simp only [p7,Tree.holds,true_and,true_implies,decide_eq_true_eq,decide_eq_false_iff_not,Bool.not_eq_true',Bool.not_eq_false',Int.toNat_natCast,u7,List.length_set,List.length_cons,List.length_nil,w1,w2,w4]
  refine ⟨fun c=>by omega,fun _=>⟨⟨w3,by omega,by omega⟩,fun _=>⟨fun c=>by omega,fun _=>⟨by omega,fun _=>?_⟩⟩⟩⟩
  have loop:∀ c:Nat,(c≤N∧(N=0∨1≤c))→Go.Ex.Reach b2P Try.f135 (List.replicate N v,()) () (.code (e8 (d8 Try.prog 135) 8).1::.inLoop (e8 (d8 Try.prog 135) 8).1::(e8 (d8 Try.prog 135) 8).2) (a9o (c:Int) (flN N c v)):=by
    refine Reach.J8 a9p a9l (fun c:Nat=>a9o (c:Int) (flN N c v)) (fun c=>c≤N∧(N=0∨1≤c)) (fun c=>N - c) 1000 (fun _=>⟨r9 rfl,r9 rfl⟩) ?_
    rintro c ⟨k1,k2⟩ - ih
    have hlen:(flN N c v).length=N:=by rw [flN,List.length_append,List.length_replicate,List.length_replicate]; omega
    have h1:List.take c (flN N c v)=List.replicate c v:=by rw [flN,List.take_append_of_le_length (by simp),List.take_of_length_le (by simp)]
    refine l4 (c0w ..) ?_
    have e1:B6 0 (c:Int) (flN N c v)=List.take c (flN N c v):=by rw [B6,Int.toNat_zero,List.drop_zero,show ((c:Int) - 0).toNat=c by omega]
    have e2:(((flN N c v).length:Int) - (c:Int)).toNat=N - c:=by omega
    have e3:(List.take (N - c) (List.take c (flN N c v))).length=min (N - c) c:=by rw [h1,List.length_take,List.length_replicate]
    have e4:=b8K (v:=v) k1
    rw [e3] at e4
    simp only [p7,Tree.holds,true_and,true_implies,decide_eq_true_eq,decide_eq_false_iff_not,Bool.not_eq_true',Bool.not_eq_false',Int.toNat_natCast,u7,List.length_set,List.length_cons,List.length_nil,e1,e2,e3,e4]
    rw [hlen]
    refine ⟨fun a=>⟨by omega,fun _=>⟨by omega,fun _=>⟨by omega,fun _=>ih (c+min (N - c) c) ⟨by omega,by omega⟩ (by omega)⟩⟩⟩,fun a=>?_⟩
    show ((flN N c v,()):List Int×Unit)=(List.replicate N v,())
    rw [show c=N by omega,flN,Nat.sub_self,List.replicate_zero,List.append_nil]
  have hs:=loop (min N 1) ⟨by omega,by omega⟩
  have e5:List.take ((((List.replicate N (0:Int)).length:Nat):Int) - 0).toNat [v]=List.replicate (min N 1) v:=by
    rw [List.length_replicate,show ((N:Int) - 0).toNat=N by omega]
    cases N with
    | zero=>rfl
    | succ N=>rw [show min (N+1) 1=1 by omega]; simp
  have e6:List.take 0 (List.replicate N (0:Int))++List.replicate (min N 1) v++List.drop (0+(List.replicate (min N 1) v).length) (List.replicate N 0)=flN N (min N 1) v:=by
    rw [List.take_zero,List.nil_append,List.length_replicate,List.drop_replicate,Nat.zero_add]; rfl
  have hs2:=hs
  rw [← e6] at hs2
  rw [e5]
  rw [List.length_replicate] at hs2 ⊢
  exact hs2
def c1a:w8:=a0U 41
end Go.Proofs.Ytekbamiaenbhjaa
