/- Small contracts of the package synod. -/
import Derived.Test.YtekbamiaenbhjaaBitP
namespace Go.Proofs.Ytekbamiaenbhjaa
open Go.Ex
set_option maxRecDepth 100000
abbrev R9:Ty:=.pair y8 (.pair y8 (.pair .str .unit))
abbrev Round:Ty:=.pair y8 (.pair y8 (.pair U8 (.pair U8 (.pair .bool (.pair .str .unit)))))
abbrev Act:Ty:=.pair y8 (.pair y8 (.pair y8 (.pair .str .unit)))
abbrev U3:Ty:=.pair (.b7 false R9) (.pair (.b7 false Round) .unit)
abbrev a7Q:Ty:=.pair (.b7 true R9) (.pair (.b7 true Round) .unit)
abbrev r8:=Int×Int×List UInt8×Unit
abbrev j9:=Int×Int×Int×Int×Bool×List UInt8×Unit
abbrev a5x:=Int×Int×Int×List UInt8×Unit
abbrev G6:=List r8×List j9×Unit
abbrev G0:j9:=(0,0,0,0,false,[],())
abbrev W4:r8:=(0,0,[],())
def b1B:p7:={ ps:=[.v y8,.v y8,.v y8],rs:=[.bool],pre:=fun _=>True,fn:=fun x=>(R7 x.1 x.2.1 x.2.2.1,()),out:=fun _=>() }
noncomputable def c0l:Env:={ P:=Try.prog,tt:=tt,A3:=[],res:=[Go.ResultVar.tmp 6],rs:=[Ty.bool],ps:=[PK.v (Ty.int IntKind.i64),PK.v (Ty.int IntKind.i64),PK.v (Ty.int IntKind.i64)],x7:=[],nt:=15 }
theorem b5f:u5 c0l:=w7 p9 trivial
theorem b49:y9 c0l Try.f209:=⟨rfl,rfl⟩
theorem c3B (x0:Int) (x1:Int) (x2:Int):exec c0l 1000 [.code (b8 Try.prog 209)] (s6 b1B.ps ((x0,x1,x2,()))) =
  cond (decide (x1≤x0)) (.ret ((decide (x0≤x2),()))) (.ret ((false,()))):=by kernel_rfl
theorem a34:b1B.Valid Try.prog 209:=by
  refine p7.o8 b5f rfl rfl Try.func209 (c:=b8 Try.prog 209) rfl rfl b49 rfl ?_
  rintro ⟨(a:Int),(b:Int),(c:Int),⟨⟩⟩ - -
  refine j8 (n:=1000) b5f b49 ?_
  refine g9 (c3B a b c) ?_
  simp only [o5,Tree.holds,true_and,true_implies,decide_eq_true_eq,decide_eq_false_iff_not,Bool.not_eq_true',Bool.not_eq_false',Int.toNat_natCast,q8,List.length_set,List.length_cons,List.length_nil]
  repeat' first|exact trivial|(refine And.intro ?_ ?_)|(intro _)
  all_goals (show ((_,()):Bool×Unit)=(R7 a b c,()); simp [R7, *])
def b6d:p7:={ ps:=[.v U8],rs:=[y8],pre:=fun _=>True,fn:=fun x=>(R5 x.1,()),out:=fun _=>() }
noncomputable def b67:Env:={ P:=Try.prog,tt:=tt,A3:=[],res:=[Go.ResultVar.tmp 2],rs:=[Ty.int IntKind.i64],ps:=[PK.v (Ty.int IntKind.u8)],x7:=[],nt:=6 }
theorem b2W:u5 b67:=w7 p9 trivial
theorem b2v:y9 b67 Try.f275:=⟨rfl,rfl⟩
theorem c2g (x0:Int):exec b67 1000 [.code (b8 Try.prog 275)] (s6 b6d.ps ((x0,()))) =
  .d8 ((0:Int)≤x0∧x0<(↑(List.length (Array.toList (ByteArray.data (ByteArray.mk (List.toArray (List.append (List.append [(0:UInt8),(1:UInt8),(1:UInt8),(2:UInt8),(1:UInt8),(2:UInt8),(2:UInt8),(3:UInt8),(1:UInt8),(2:UInt8),(2:UInt8),(3:UInt8),(2:UInt8),(3:UInt8),(3:UInt8),(4:UInt8),(1:UInt8),(2:UInt8),(2:UInt8),(3:UInt8),(2:UInt8),(3:UInt8),(3:UInt8),(4:UInt8),(2:UInt8),(3:UInt8),(3:UInt8),(4:UInt8),(3:UInt8),(4:UInt8),(4:UInt8),(5:UInt8),(1:UInt8),(2:UInt8),(2:UInt8),(3:UInt8),(2:UInt8),(3:UInt8),(3:UInt8),(4:UInt8),(2:UInt8),(3:UInt8),(3:UInt8),(4:UInt8),(3:UInt8),(4:UInt8),(4:UInt8),(5:UInt8),(2:UInt8),(3:UInt8),(3:UInt8),(4:UInt8),(3:UInt8),(4:UInt8),(4:UInt8),(5:UInt8),(3:UInt8),(4:UInt8),(4:UInt8),(5:UInt8),(4:UInt8),(5:UInt8),(5:UInt8),(6:UInt8)] [(1:UInt8),(2:UInt8),(2:UInt8),(3:UInt8),(2:UInt8),(3:UInt8),(3:UInt8),(4:UInt8),(2:UInt8),(3:UInt8),(3:UInt8),(4:UInt8),(3:UInt8),(4:UInt8),(4:UInt8),(5:UInt8),(2:UInt8),(3:UInt8),(3:UInt8),(4:UInt8),(3:UInt8),(4:UInt8),(4:UInt8),(5:UInt8),(3:UInt8),(4:UInt8),(4:UInt8),(5:UInt8),(4:UInt8),(5:UInt8),(5:UInt8),(6:UInt8),(2:UInt8),(3:UInt8),(3:UInt8),(4:UInt8),(3:UInt8),(4:UInt8),(4:UInt8),(5:UInt8),(3:UInt8),(4:UInt8),(4:UInt8),(5:UInt8),(4:UInt8),(5:UInt8),(5:UInt8),(6:UInt8),(3:UInt8),(4:UInt8),(4:UInt8),(5:UInt8),(4:UInt8),(5:UInt8),(5:UInt8),(6:UInt8),(4:UInt8),(5:UInt8),(5:UInt8),(6:UInt8),(5:UInt8),(6:UInt8),(6:UInt8),(7:UInt8)]) (List.append [(1:UInt8),(2:UInt8),(2:UInt8),(3:UInt8),(2:UInt8),(3:UInt8),(3:UInt8),(4:UInt8),(2:UInt8),(3:UInt8),(3:UInt8),(4:UInt8),(3:UInt8),(4:UInt8),(4:UInt8),(5:UInt8),(2:UInt8),(3:UInt8),(3:UInt8),(4:UInt8),(3:UInt8),(4:UInt8),(4:UInt8),(5:UInt8),(3:UInt8),(4:UInt8),(4:UInt8),(5:UInt8),(4:UInt8),(5:UInt8),(5:UInt8),(6:UInt8),(2:UInt8),(3:UInt8),(3:UInt8),(4:UInt8),(3:UInt8),(4:UInt8),(4:UInt8),(5:UInt8),(3:UInt8),(4:UInt8),(4:UInt8),(5:UInt8),(4:UInt8),(5:UInt8),(5:UInt8),(6:UInt8),(3:UInt8),(4:UInt8),(4:UInt8),(5:UInt8),(4:UInt8),(5:UInt8),(5:UInt8),(6:UInt8),(4:UInt8),(5:UInt8),(5:UInt8),(6:UInt8),(5:UInt8),(6:UInt8),(6:UInt8),(7:UInt8)] [(2:UInt8),(3:UInt8),(3:UInt8),(4:UInt8),(3:UInt8),(4:UInt8),(4:UInt8),(5:UInt8),(3:UInt8),(4:UInt8),(4:UInt8),(5:UInt8),(4:UInt8),(5:UInt8),(5:UInt8),(6:UInt8),(3:UInt8),(4:UInt8),(4:UInt8),(5:UInt8),(4:UInt8),(5:UInt8),(5:UInt8),(6:UInt8),(4:UInt8),(5:UInt8),(5:UInt8),(6:UInt8),(5:UInt8),(6:UInt8),(6:UInt8),(7:UInt8),(3:UInt8),(4:UInt8),(4:UInt8),(5:UInt8),(4:UInt8),(5:UInt8),(5:UInt8),(6:UInt8),(4:UInt8),(5:UInt8),(5:UInt8),(6:UInt8),(5:UInt8),(6:UInt8),(6:UInt8),(7:UInt8),(4:UInt8),(5:UInt8),(5:UInt8),(6:UInt8),(5:UInt8),(6:UInt8),(6:UInt8),(7:UInt8),(5:UInt8),(6:UInt8),(6:UInt8),(7:UInt8),(6:UInt8),(7:UInt8),(7:UInt8),(8:UInt8)]))))))):Int)) (.ret ((IntKind.wrap IntKind.i64 (↑(UInt8.toNat (List.getD (Array.toList (ByteArray.data (ByteArray.mk (List.toArray (List.append (List.append [(0:UInt8),(1:UInt8),(1:UInt8),(2:UInt8),(1:UInt8),(2:UInt8),(2:UInt8),(3:UInt8),(1:UInt8),(2:UInt8),(2:UInt8),(3:UInt8),(2:UInt8),(3:UInt8),(3:UInt8),(4:UInt8),(1:UInt8),(2:UInt8),(2:UInt8),(3:UInt8),(2:UInt8),(3:UInt8),(3:UInt8),(4:UInt8),(2:UInt8),(3:UInt8),(3:UInt8),(4:UInt8),(3:UInt8),(4:UInt8),(4:UInt8),(5:UInt8),(1:UInt8),(2:UInt8),(2:UInt8),(3:UInt8),(2:UInt8),(3:UInt8),(3:UInt8),(4:UInt8),(2:UInt8),(3:UInt8),(3:UInt8),(4:UInt8),(3:UInt8),(4:UInt8),(4:UInt8),(5:UInt8),(2:UInt8),(3:UInt8),(3:UInt8),(4:UInt8),(3:UInt8),(4:UInt8),(4:UInt8),(5:UInt8),(3:UInt8),(4:UInt8),(4:UInt8),(5:UInt8),(4:UInt8),(5:UInt8),(5:UInt8),(6:UInt8)] [(1:UInt8),(2:UInt8),(2:UInt8),(3:UInt8),(2:UInt8),(3:UInt8),(3:UInt8),(4:UInt8),(2:UInt8),(3:UInt8),(3:UInt8),(4:UInt8),(3:UInt8),(4:UInt8),(4:UInt8),(5:UInt8),(2:UInt8),(3:UInt8),(3:UInt8),(4:UInt8),(3:UInt8),(4:UInt8),(4:UInt8),(5:UInt8),(3:UInt8),(4:UInt8),(4:UInt8),(5:UInt8),(4:UInt8),(5:UInt8),(5:UInt8),(6:UInt8),(2:UInt8),(3:UInt8),(3:UInt8),(4:UInt8),(3:UInt8),(4:UInt8),(4:UInt8),(5:UInt8),(3:UInt8),(4:UInt8),(4:UInt8),(5:UInt8),(4:UInt8),(5:UInt8),(5:UInt8),(6:UInt8),(3:UInt8),(4:UInt8),(4:UInt8),(5:UInt8),(4:UInt8),(5:UInt8),(5:UInt8),(6:UInt8),(4:UInt8),(5:UInt8),(5:UInt8),(6:UInt8),(5:UInt8),(6:UInt8),(6:UInt8),(7:UInt8)]) (List.append [(1:UInt8),(2:UInt8),(2:UInt8),(3:UInt8),(2:UInt8),(3:UInt8),(3:UInt8),(4:UInt8),(2:UInt8),(3:UInt8),(3:UInt8),(4:UInt8),(3:UInt8),(4:UInt8),(4:UInt8),(5:UInt8),(2:UInt8),(3:UInt8),(3:UInt8),(4:UInt8),(3:UInt8),(4:UInt8),(4:UInt8),(5:UInt8),(3:UInt8),(4:UInt8),(4:UInt8),(5:UInt8),(4:UInt8),(5:UInt8),(5:UInt8),(6:UInt8),(2:UInt8),(3:UInt8),(3:UInt8),(4:UInt8),(3:UInt8),(4:UInt8),(4:UInt8),(5:UInt8),(3:UInt8),(4:UInt8),(4:UInt8),(5:UInt8),(4:UInt8),(5:UInt8),(5:UInt8),(6:UInt8),(3:UInt8),(4:UInt8),(4:UInt8),(5:UInt8),(4:UInt8),(5:UInt8),(5:UInt8),(6:UInt8),(4:UInt8),(5:UInt8),(5:UInt8),(6:UInt8),(5:UInt8),(6:UInt8),(6:UInt8),(7:UInt8)] [(2:UInt8),(3:UInt8),(3:UInt8),(4:UInt8),(3:UInt8),(4:UInt8),(4:UInt8),(5:UInt8),(3:UInt8),(4:UInt8),(4:UInt8),(5:UInt8),(4:UInt8),(5:UInt8),(5:UInt8),(6:UInt8),(3:UInt8),(4:UInt8),(4:UInt8),(5:UInt8),(4:UInt8),(5:UInt8),(5:UInt8),(6:UInt8),(4:UInt8),(5:UInt8),(5:UInt8),(6:UInt8),(5:UInt8),(6:UInt8),(6:UInt8),(7:UInt8),(3:UInt8),(4:UInt8),(4:UInt8),(5:UInt8),(4:UInt8),(5:UInt8),(5:UInt8),(6:UInt8),(4:UInt8),(5:UInt8),(5:UInt8),(6:UInt8),(5:UInt8),(6:UInt8),(6:UInt8),(7:UInt8),(4:UInt8),(5:UInt8),(5:UInt8),(6:UInt8),(5:UInt8),(6:UInt8),(6:UInt8),(7:UInt8),(5:UInt8),(6:UInt8),(6:UInt8),(7:UInt8),(6:UInt8),(7:UInt8),(7:UInt8),(8:UInt8)])))))) (Int.toNat x0) (0:UInt8))):Int),()))):=by kernel_rfl
theorem b3P:b6d.Valid Try.prog 275:=by
  refine p7.o8 b2W rfl rfl Try.func275 (c:=b8 Try.prog 275) rfl rfl b2v rfl ?_
  rintro ⟨(x0:Int),⟨⟩⟩ - ⟨h0,-⟩
  refine j8 (n:=1000) b2W b2v ?_
  refine g9 (c2g x0) ?_
  have g0:0≤x0∧x0≤255:=h0
  obtain ⟨n,rfl⟩:∃ n:Fin 256,x0=((n.val:Nat):Int):=⟨⟨x0.toNat,by omega⟩,by simp; omega⟩
  refine ⟨?_,fun _=>?_⟩
  · clear h0 g0; revert n; decide +kernel
  · show ((_,()):Int×Unit)=(R5 n,())
    clear h0 g0; revert n; decide +kernel
def maj (s n:Int):Bool:=decide (n<2*R5 s)
def b1P:p7:={ ps:=[.v U8,.v y8],rs:=[.bool],pre:=fun _=>True,fn:=fun x=>(maj x.1 x.2.1,()),out:=fun _=>() }
noncomputable def c0v:Env:={ P:=Try.prog,tt:=tt,A3:=[(275,b6d)],res:=[Go.ResultVar.tmp 4],rs:=[Ty.bool],ps:=[PK.v (Ty.int IntKind.u8),PK.v (Ty.int IntKind.i64)],x7:=[],nt:=10 }
theorem b5j:u5 c0v:=w7 p9 ⟨b3P,trivial⟩
theorem b5c:y9 c0v Try.f213:=⟨rfl,rfl⟩
theorem c3H (x0:Int) (x1:Int):exec c0v 1000 [.code (b8 Try.prog 213)] (s6 b1P.ps ((x0,x1,()))) =
  .d8 (True) (.d8 (u7 IntKind.i64 ((2:Int)*R5 x0)) (.ret ((decide (x1<(2:Int)*R5 x0),())))):=by kernel_rfl
theorem a37:b1P.Valid Try.prog 213:=by
  refine p7.o8 b5j rfl rfl Try.func213 (c:=b8 Try.prog 213) rfl rfl b5c rfl ?_
  rintro ⟨(s:Int),(n:Int),⟨⟩⟩ - -
  refine j8 (n:=1000) b5j b5c ?_
  refine g9 (c3H s n) ?_
  have:=c1z s
  simp only [o5,Tree.holds,true_and,true_implies,decide_eq_true_eq,decide_eq_false_iff_not,Bool.not_eq_true',Bool.not_eq_false',Int.toNat_natCast,q8,List.length_set,List.length_cons,List.length_nil]
  exact ⟨by omega,fun _=>rfl⟩
def H7 (r:j9) (b:Int):Bool:=decide (r.1=b)
def b1X:p7:={ ps:=[.v Round,.rd y8],rs:=[.bool],pre:=fun _=>True,fn:=fun x=>(H7 x.1 x.2.1,()),out:=fun _=>() }
noncomputable def b27:Env:={ P:=Try.prog,tt:=tt,A3:=[],res:=[Go.ResultVar.tmp 3],rs:=[Ty.bool],ps:=[PK.v (Ty.pair (Ty.int IntKind.i64) (Ty.pair (Ty.int IntKind.i64) (Ty.pair (Ty.int IntKind.u8) (Ty.pair (Ty.int IntKind.u8) (Ty.pair Ty.bool (Ty.pair Ty.str Ty.unit)))))),PK.rd (Ty.int IntKind.i64)],x7:=[],nt:=8 }
theorem a9Y:u5 b27:=w7 p9 trivial
theorem a9M:y9 b27 Try.f274:=⟨rfl,rfl⟩
theorem c0C (x0_1:Int) (x0_2_1:Int) (x0_2_2_1:Int) (x0_2_2_2_1:Int) (x0_2_2_2_2_1:Bool) (x0_2_2_2_2_2_1:List UInt8) (x1:Int):exec b27 1000 [.code (b8 Try.prog 274)] (s6 b1X.ps (((x0_1,x0_2_1,x0_2_2_1,x0_2_2_2_1,x0_2_2_2_2_1,x0_2_2_2_2_2_1,()),x1,()))) =
  .ret ((decide (x0_1=x1),())):=by kernel_rfl
theorem b1W:b1X.Valid Try.prog 274:=by
  refine p7.o8 a9Y rfl rfl Try.func274 (c:=b8 Try.prog 274) rfl rfl a9M rfl ?_
  rintro ⟨⟨(b:Int),(be:Int),(p:Int),(v:Int),(a:Bool),(t:List UInt8),⟨⟩⟩,(n:Int),⟨⟩⟩ - -
  refine j8 (n:=1000) a9Y a9M ?_
  refine g9 (c0C b be p v a t n) ?_
  simp only [o5,Tree.holds,true_and,true_implies,decide_eq_true_eq,decide_eq_false_iff_not,Bool.not_eq_true',Bool.not_eq_false',Int.toNat_natCast,q8,List.length_set,List.length_cons,List.length_nil]
  rfl
def b1U:p7:={ ps:=[.v (.b7 false Round),.s8 274 [y8]],rs:=[y8],pre:=fun x=>True,fn:=fun x=>(idxOf (fun r:j9=>H7 r x.2.1.1) x.1,()),out:=fun _=>() }
noncomputable def a8a:Env:={ P:=Try.prog,tt:=tt,A3:=[(274,b1X)],res:=[Go.ResultVar.tmp 4],rs:=[Ty.int IntKind.i64],ps:=[PK.v (Ty.b7 false (Ty.pair (Ty.int IntKind.i64) (Ty.pair (Ty.int IntKind.i64) (Ty.pair (Ty.int IntKind.u8) (Ty.pair (Ty.int IntKind.u8) (Ty.pair Ty.bool (Ty.pair Ty.str Ty.unit))))))),PK.s8 274 [Ty.int IntKind.i64]],x7:=[(2,[(0,none),(1,none),(7,none),(8,none)])],nt:=19 }
theorem a5p:u5 a8a:=w7 p9 ⟨b1W,trivial⟩
theorem a5m:y9 a8a Try.f273:=⟨rfl,rfl⟩
theorem c0B (x0:List (Int×Int×Int×Int×Bool×List UInt8×Unit)) (x1c0:Int):exec a8a 1000 [.code (b8 Try.prog 273)] (s6 b1U.ps ((x0,(x1c0,()),()))) =
  .cut (e8 (b8 Try.prog 273) 2).1 (e8 (b8 Try.prog 273) 2).2 (St.mk [(0,AV.val (Ty.b7 false (Ty.pair (Ty.int IntKind.i64) (Ty.pair (Ty.int IntKind.i64) (Ty.pair (Ty.int IntKind.u8) (Ty.pair (Ty.int IntKind.u8) (Ty.pair Ty.bool (Ty.pair Ty.str Ty.unit))))))) x0),(1,AV.s8 274 (AV.cons (AV.C5 (Ty.int IntKind.i64) x1c0) AV.nil)),(7,AV.val (Ty.int IntKind.i64) (↑(List.length x0):Int)),(8,AV.val (Ty.int IntKind.i64) (0:Int))] []):=by kernel_rfl
def a9X (v0:List (Int×Int×Int×Int×Bool×List UInt8×Unit)) (v1a:Int) (v7:Int) (v8:Int):St:=St.mk [(0,AV.val (Ty.b7 false (Ty.pair (Ty.int IntKind.i64) (Ty.pair (Ty.int IntKind.i64) (Ty.pair (Ty.int IntKind.u8) (Ty.pair (Ty.int IntKind.u8) (Ty.pair Ty.bool (Ty.pair Ty.str Ty.unit))))))) v0),(1,AV.s8 274 (AV.cons (AV.C5 (Ty.int IntKind.i64) v1a) AV.nil)),(7,AV.val (Ty.int IntKind.i64) v7),(8,AV.val (Ty.int IntKind.i64) v8)] []
theorem b88 (v0:List (Int×Int×Int×Int×Bool×List UInt8×Unit)) (v1a:Int) (v7:Int) (v8:Int):exec a8a 1000 (.code (e8 (b8 Try.prog 273) 2).1::.inLoop (e8 (b8 Try.prog 273) 2).1::(e8 (b8 Try.prog 273) 2).2) (a9X v0 v1a v7 v8) =
  cond (decide (v8<v7)) (.d8 ((0:Int)≤v8∧v8<(↑(List.length v0):Int)) (.d8 (True) (cond (H7 (List.getD v0 (Int.toNat v8) ((0:Int),(0:Int),(0:Int),(0:Int),false,[],())) v1a) (.ret ((v8,()))) (.d8 (u7 IntKind.i64 (v8+(1:Int))) (.cut (e8 (b8 Try.prog 273) 2).1 (e8 (b8 Try.prog 273) 2).2 (St.mk [(0,AV.val (Ty.b7 false (Ty.pair (Ty.int IntKind.i64) (Ty.pair (Ty.int IntKind.i64) (Ty.pair (Ty.int IntKind.u8) (Ty.pair (Ty.int IntKind.u8) (Ty.pair Ty.bool (Ty.pair Ty.str Ty.unit))))))) v0),(1,AV.s8 274 (AV.cons (AV.C5 (Ty.int IntKind.i64) v1a) AV.nil)),(7,AV.val (Ty.int IntKind.i64) v7),(8,AV.val (Ty.int IntKind.i64) (v8+(1:Int)))] [])))))) (.ret (((-1:Int),()))):=by kernel_rfl
theorem b1T:b1U.Valid Try.prog 273:=by
  refine p7.o8 a5p rfl rfl Try.func273 (c:=b8 Try.prog 273) rfl rfl a5m rfl ?_
  rintro ⟨(l:List (j9)),⟨(b:Int),⟨⟩⟩,⟨⟩⟩ - ⟨⟨hl,-⟩,-⟩
  have hl:l.length≤9223372036854775807:=hl
  refine j8 (n:=1000) a5p a5m ?_
  refine g9 (c0B l b) ?_
  refine Reach.K9 a5p a5m (fun i:Nat=>a9X l b (l.length:Int) (i:Int)) (fun i=>i≤l.length∧idxOf (fun r:j9=>H7 r b) l=Q5 (fun r:j9=>H7 r b) (l.drop i) i)
    (fun i=>l.length - i) 1000 (fun _=>⟨u3 rfl,u3 rfl⟩) ?_ 0 ⟨by omega,rfl⟩
  rintro i ⟨k1,k2⟩ - ih
  refine g9 (b88 ..) ?_
  simp only [o5,Tree.holds,true_and,true_implies,decide_eq_true_eq,decide_eq_false_iff_not,Bool.not_eq_true',Bool.not_eq_false',Int.toNat_natCast,q8,List.length_set,List.length_cons,List.length_nil]
  refine ⟨fun h=>?_,fun h=>?_⟩
  · rw [S9 (show i<l.length by omega) G0,Q5] at k2
    refine ⟨by omega,fun _=>⟨fun c=>?_,fun c=>⟨by omega,fun _=>ih (i+1) ⟨by omega,?_⟩ (by omega)⟩⟩⟩
    · show (((i:Int),()):Int×Unit)=(idxOf (fun r:j9=>H7 r b) l,())
      rw [k2,if_pos (show (fun r:j9=>H7 r b) (l.getD i G0)=true from c)]
    · rw [k2,if_neg (show ¬ (fun r:j9=>H7 r b) (l.getD i G0)=true from fun h9=>Bool.noConfusion (Eq.trans (Eq.symm h9) c))]
  · rw [List.drop_eq_nil_of_le (by omega)] at k2
    show (((-1:Int),()):Int×Unit)=(idxOf (fun r:j9=>H7 r b) l,())
    rw [k2]; rfl
def findF (l:List j9) (b:Int):Int:=idxOf (fun r:j9=>H7 r b) l
def b0x:p7:={ ps:=[.v U3,.v y8],rs:=[y8],pre:=fun _=>True,fn:=fun x=>(findF x.1.2.1 x.2.1,()),out:=fun _=>() }
noncomputable def b7c:Env:={ P:=Try.prog,tt:=tt,A3:=[(273,b1U)],res:=[Go.ResultVar.tmp 4],rs:=[Ty.int IntKind.i64],ps:=[PK.v (Ty.pair (Ty.b7 false (Ty.pair (Ty.int IntKind.i64) (Ty.pair (Ty.int IntKind.i64) (Ty.pair Ty.str Ty.unit)))) (Ty.pair (Ty.b7 false (Ty.pair (Ty.int IntKind.i64) (Ty.pair (Ty.int IntKind.i64) (Ty.pair (Ty.int IntKind.u8) (Ty.pair (Ty.int IntKind.u8) (Ty.pair Ty.bool (Ty.pair Ty.str Ty.unit))))))) Ty.unit)),PK.v (Ty.int IntKind.i64)],x7:=[],nt:=9 }
theorem b26:u5 b7c:=w7 p9 ⟨b1T,trivial⟩
theorem b2z:y9 b7c Try.f208:=⟨rfl,rfl⟩
theorem c2p (x0_1:List (Int×Int×List UInt8×Unit)) (x0_2_1:List (Int×Int×Int×Int×Bool×List UInt8×Unit)) (x1:Int):exec b7c 1000 [.code (b8 Try.prog 208)] (s6 b0x.ps (((x0_1,x0_2_1,()),x1,()))) =
  .d8 (True) (.ret ((idxOf (fun r=>H7 r x1) x0_2_1,()))):=by kernel_rfl
theorem a6i:b0x.Valid Try.prog 208:=by
  refine p7.o8 b26 rfl rfl Try.func208 (c:=b8 Try.prog 208) rfl rfl b2z rfl ?_
  rintro ⟨⟨(V:List r8),(R:List j9),⟨⟩⟩,(b:Int),⟨⟩⟩ - -
  refine j8 (n:=1000) b26 b2z ?_
  refine g9 (c2p V R b) ?_
  exact ⟨trivial,fun _=>rfl⟩
def b59:p7:={ ps:=[.v Round,.rd Round],rs:=[.bool],pre:=fun _=>True,fn:=fun x=>(H7 x.1 x.2.1.1,()),out:=fun _=>() }
noncomputable def b63:Env:={ P:=Try.prog,tt:=tt,A3:=[],res:=[Go.ResultVar.tmp 3],rs:=[Ty.bool],ps:=[PK.v (Ty.pair (Ty.int IntKind.i64) (Ty.pair (Ty.int IntKind.i64) (Ty.pair (Ty.int IntKind.u8) (Ty.pair (Ty.int IntKind.u8) (Ty.pair Ty.bool (Ty.pair Ty.str Ty.unit)))))),PK.rd (Ty.pair (Ty.int IntKind.i64) (Ty.pair (Ty.int IntKind.i64) (Ty.pair (Ty.int IntKind.u8) (Ty.pair (Ty.int IntKind.u8) (Ty.pair Ty.bool (Ty.pair Ty.str Ty.unit))))))],x7:=[],nt:=9 }
theorem b2U:u5 b63:=w7 p9 trivial
theorem b2t:y9 b63 Try.f315:=⟨rfl,rfl⟩
theorem c2d (x0_1:Int) (x0_2_1:Int) (x0_2_2_1:Int) (x0_2_2_2_1:Int) (x0_2_2_2_2_1:Bool) (x0_2_2_2_2_2_1:List UInt8) (x1_1:Int) (x1_2_1:Int) (x1_2_2_1:Int) (x1_2_2_2_1:Int) (x1_2_2_2_2_1:Bool) (x1_2_2_2_2_2_1:List UInt8):exec b63 1000 [.code (b8 Try.prog 315)] (s6 b59.ps (((x0_1,x0_2_1,x0_2_2_1,x0_2_2_2_1,x0_2_2_2_2_1,x0_2_2_2_2_2_1,()),(x1_1,x1_2_1,x1_2_2_1,x1_2_2_2_1,x1_2_2_2_2_1,x1_2_2_2_2_2_1,()),()))) =
  .ret ((decide (x0_1=x1_1),())):=by kernel_rfl
theorem b3N:b59.Valid Try.prog 315:=by
  refine p7.o8 b2U rfl rfl Try.func315 (c:=b8 Try.prog 315) rfl rfl b2t rfl ?_
  rintro ⟨⟨(b:Int),(be:Int),(p:Int),(v:Int),(a:Bool),(t:List UInt8),⟨⟩⟩,⟨(b2:Int),(be2:Int),(p2:Int),(v2:Int),(a2:Bool),(t2:List UInt8),⟨⟩⟩,⟨⟩⟩ - -
  refine j8 (n:=1000) b2U b2t ?_
  refine g9 (c2d b be p v a t b2 be2 p2 v2 a2 t2) ?_
  simp only [o5,Tree.holds,true_and,true_implies,decide_eq_true_eq,decide_eq_false_iff_not,Bool.not_eq_true',Bool.not_eq_false',Int.toNat_natCast,q8,List.length_set,List.length_cons,List.length_nil]
  rfl
end Go.Proofs.Ytekbamiaenbhjaa
