import Derived.Test.YtijlnmgondibnaaGreatDoorJ1
import Derived.Test.YtijlnmgondibnaaGreatDoorProg
import Derived.Lib.Atoi
import Derived.Lib.ItoaMem
import Derived.Lib.IndexMore
import Derived.Shelf.Strconv.Itoa3
import Derived.Lib.ItoaLen
import Derived.Shelf.Strings.Split
import Derived.Lib.SlTrimSet
import Derived.Lib.Strings
import Derived.WalkKit
import Derived.Lib.Walk
import Derived.Shelf.RegionOpenPlain
import Derived.Shelf.Strings.Prefix
import Derived.Shelf.Strings.SlTrimAscii
import Derived.Shelf.Strconv.Atoi
import Derived.Lib.SmallJoins
import Derived.Shelf.Strings.Cut
set_option linter.unusedVariables false
set_option linter.unusedSimpArgs false
set_option linter.unusedSectionVars false
namespace Go.Proofs.YtijlnmgondibnaaGreatDoor
open Go.Ex
set_option maxRecDepth 100000
attribute [local irreducible] Go.Ex.exec
abbrev FrD:=Int×List (List UInt8)×Unit
abbrev n9:=Bool×List B9×FrD×ToD×ToD×Unit
abbrev f7:=a0Y×List n9×List (List UInt8)×List (List UInt8)×Unit
def i8:n9:=(false,[],(0,[],()),(0,[],()),(0,[],()),())
def b08:p9:={ ps:=[.v e8,.v e8,.v e8],rs:=[.bool],pre:=λ _=>True,fn:=λ x=>(G9 x.1 x.2.1 x.2.2.1,()),out:=λ _=>() }
noncomputable def c4t:Env:={ P:=Tryz.prog,tt:=tt,C0:=[],res:=[Go.ResultVar.tmp 6],rs:=[Ty.bool],ps:=[PK.v e8,PK.v e8,PK.v e8],y5:=[],nt:=15 }
theorem b8a:u6 c4t:=w9 q9 trivial
theorem b71:y7 c4t Tryz.f40:=⟨rfl,rfl⟩
theorem c7z (x0:Int) (x1:Int) (x2:Int):exec c4t 1000 [.code (d8 Tryz.prog 40)] (s5 b08.ps ((x0,x1,x2,()))) =
  cond (decide (x1<=x0)) (.ret ((decide (x0<=x2),()))) (.ret ((false,()))):=by kernel_rfl
theorem a3b:b08.Valid Tryz.prog 40:=by
  refine p9.o5 b8a rfl rfl Tryz.func40 (c:=d8 Tryz.prog 40) rfl rfl b71 rfl ?_;rintro ⟨(n:Int),(a:Int),(b:Int),⟨⟩⟩ - -
  refine j5 (n:=1000) b8a b71 ?_;refine g9 (c7z n a b) ?_;simp only [j6,Tree.holds,true_and,true_implies,decide_eq_true_eq,decide_eq_false_iff_not,Bool.not_eq_true',Bool.not_eq_false',Int.toNat_natCast,j7,List.length_set,List.length_cons,List.length_nil];refine ⟨λ c=>?_,λ c=>?_⟩
  . show ((decide _,()):Bool×Unit)=(G9 n a b,()); rw [G9,decide_eq_true c,Bool.true_and]
  . show ((false,()):Bool×Unit)=(G9 n a b,()); rw [G9,decide_eq_false c,Bool.false_and]
def tz (m:Int):Int:=(((List.range 8).find? (λ i=>decide (m / 2^i % 2=1))).getD 8:Nat)
def ctz:p9:={ ps:=[.v U8],rs:=[e8],pre:=λ _=>True,fn:=λ x=>(tz x.1,()),out:=λ _=>() }
noncomputable def Etz:Env:={ P:=Tryz.prog,tt:=tt,C0:=[],res:=[Go.ResultVar.tmp 2],rs:=[Ty.int IntKind.i64],ps:=[PK.v U8],y5:=[],nt:=6 }
theorem c2F:u6 Etz:=w9 q9 trivial
theorem c2C:y7 Etz Tryz.f78:=⟨rfl,rfl⟩
theorem c7Z (x0:Int):exec Etz 1000 [.code (d8 Tryz.prog 78)] (s5 ctz.ps ((x0,()))) =
  .f6 ((0:Int)<=x0/\x0<(↑(List.length (Array.toList (ByteArray.data (ByteArray.mk (List.toArray (List.append (List.append [(8:UInt8),(0:UInt8),(1:UInt8),(0:UInt8),(2:UInt8),(0:UInt8),(1:UInt8),(0:UInt8),(3:UInt8),(0:UInt8),(1:UInt8),(0:UInt8),(2:UInt8),(0:UInt8),(1:UInt8),(0:UInt8),(4:UInt8),(0:UInt8),(1:UInt8),(0:UInt8),(2:UInt8),(0:UInt8),(1:UInt8),(0:UInt8),(3:UInt8),(0:UInt8),(1:UInt8),(0:UInt8),(2:UInt8),(0:UInt8),(1:UInt8),(0:UInt8),(5:UInt8),(0:UInt8),(1:UInt8),(0:UInt8),(2:UInt8),(0:UInt8),(1:UInt8),(0:UInt8),(3:UInt8),(0:UInt8),(1:UInt8),(0:UInt8),(2:UInt8),(0:UInt8),(1:UInt8),(0:UInt8),(4:UInt8),(0:UInt8),(1:UInt8),(0:UInt8),(2:UInt8),(0:UInt8),(1:UInt8),(0:UInt8),(3:UInt8),(0:UInt8),(1:UInt8),(0:UInt8),(2:UInt8),(0:UInt8),(1:UInt8),(0:UInt8)] [(6:UInt8),(0:UInt8),(1:UInt8),(0:UInt8),(2:UInt8),(0:UInt8),(1:UInt8),(0:UInt8),(3:UInt8),(0:UInt8),(1:UInt8),(0:UInt8),(2:UInt8),(0:UInt8),(1:UInt8),(0:UInt8),(4:UInt8),(0:UInt8),(1:UInt8),(0:UInt8),(2:UInt8),(0:UInt8),(1:UInt8),(0:UInt8),(3:UInt8),(0:UInt8),(1:UInt8),(0:UInt8),(2:UInt8),(0:UInt8),(1:UInt8),(0:UInt8),(5:UInt8),(0:UInt8),(1:UInt8),(0:UInt8),(2:UInt8),(0:UInt8),(1:UInt8),(0:UInt8),(3:UInt8),(0:UInt8),(1:UInt8),(0:UInt8),(2:UInt8),(0:UInt8),(1:UInt8),(0:UInt8),(4:UInt8),(0:UInt8),(1:UInt8),(0:UInt8),(2:UInt8),(0:UInt8),(1:UInt8),(0:UInt8),(3:UInt8),(0:UInt8),(1:UInt8),(0:UInt8),(2:UInt8),(0:UInt8),(1:UInt8),(0:UInt8)]) (List.append [(7:UInt8),(0:UInt8),(1:UInt8),(0:UInt8),(2:UInt8),(0:UInt8),(1:UInt8),(0:UInt8),(3:UInt8),(0:UInt8),(1:UInt8),(0:UInt8),(2:UInt8),(0:UInt8),(1:UInt8),(0:UInt8),(4:UInt8),(0:UInt8),(1:UInt8),(0:UInt8),(2:UInt8),(0:UInt8),(1:UInt8),(0:UInt8),(3:UInt8),(0:UInt8),(1:UInt8),(0:UInt8),(2:UInt8),(0:UInt8),(1:UInt8),(0:UInt8),(5:UInt8),(0:UInt8),(1:UInt8),(0:UInt8),(2:UInt8),(0:UInt8),(1:UInt8),(0:UInt8),(3:UInt8),(0:UInt8),(1:UInt8),(0:UInt8),(2:UInt8),(0:UInt8),(1:UInt8),(0:UInt8),(4:UInt8),(0:UInt8),(1:UInt8),(0:UInt8),(2:UInt8),(0:UInt8),(1:UInt8),(0:UInt8),(3:UInt8),(0:UInt8),(1:UInt8),(0:UInt8),(2:UInt8),(0:UInt8),(1:UInt8),(0:UInt8)] [(6:UInt8),(0:UInt8),(1:UInt8),(0:UInt8),(2:UInt8),(0:UInt8),(1:UInt8),(0:UInt8),(3:UInt8),(0:UInt8),(1:UInt8),(0:UInt8),(2:UInt8),(0:UInt8),(1:UInt8),(0:UInt8),(4:UInt8),(0:UInt8),(1:UInt8),(0:UInt8),(2:UInt8),(0:UInt8),(1:UInt8),(0:UInt8),(3:UInt8),(0:UInt8),(1:UInt8),(0:UInt8),(2:UInt8),(0:UInt8),(1:UInt8),(0:UInt8),(5:UInt8),(0:UInt8),(1:UInt8),(0:UInt8),(2:UInt8),(0:UInt8),(1:UInt8),(0:UInt8),(3:UInt8),(0:UInt8),(1:UInt8),(0:UInt8),(2:UInt8),(0:UInt8),(1:UInt8),(0:UInt8),(4:UInt8),(0:UInt8),(1:UInt8),(0:UInt8),(2:UInt8),(0:UInt8),(1:UInt8),(0:UInt8),(3:UInt8),(0:UInt8),(1:UInt8),(0:UInt8),(2:UInt8),(0:UInt8),(1:UInt8),(0:UInt8)]))))))):Int)) (.ret ((IntKind.wrap IntKind.i64 (↑(UInt8.toNat (List.getD (Array.toList (ByteArray.data (ByteArray.mk (List.toArray (List.append (List.append [(8:UInt8),(0:UInt8),(1:UInt8),(0:UInt8),(2:UInt8),(0:UInt8),(1:UInt8),(0:UInt8),(3:UInt8),(0:UInt8),(1:UInt8),(0:UInt8),(2:UInt8),(0:UInt8),(1:UInt8),(0:UInt8),(4:UInt8),(0:UInt8),(1:UInt8),(0:UInt8),(2:UInt8),(0:UInt8),(1:UInt8),(0:UInt8),(3:UInt8),(0:UInt8),(1:UInt8),(0:UInt8),(2:UInt8),(0:UInt8),(1:UInt8),(0:UInt8),(5:UInt8),(0:UInt8),(1:UInt8),(0:UInt8),(2:UInt8),(0:UInt8),(1:UInt8),(0:UInt8),(3:UInt8),(0:UInt8),(1:UInt8),(0:UInt8),(2:UInt8),(0:UInt8),(1:UInt8),(0:UInt8),(4:UInt8),(0:UInt8),(1:UInt8),(0:UInt8),(2:UInt8),(0:UInt8),(1:UInt8),(0:UInt8),(3:UInt8),(0:UInt8),(1:UInt8),(0:UInt8),(2:UInt8),(0:UInt8),(1:UInt8),(0:UInt8)] [(6:UInt8),(0:UInt8),(1:UInt8),(0:UInt8),(2:UInt8),(0:UInt8),(1:UInt8),(0:UInt8),(3:UInt8),(0:UInt8),(1:UInt8),(0:UInt8),(2:UInt8),(0:UInt8),(1:UInt8),(0:UInt8),(4:UInt8),(0:UInt8),(1:UInt8),(0:UInt8),(2:UInt8),(0:UInt8),(1:UInt8),(0:UInt8),(3:UInt8),(0:UInt8),(1:UInt8),(0:UInt8),(2:UInt8),(0:UInt8),(1:UInt8),(0:UInt8),(5:UInt8),(0:UInt8),(1:UInt8),(0:UInt8),(2:UInt8),(0:UInt8),(1:UInt8),(0:UInt8),(3:UInt8),(0:UInt8),(1:UInt8),(0:UInt8),(2:UInt8),(0:UInt8),(1:UInt8),(0:UInt8),(4:UInt8),(0:UInt8),(1:UInt8),(0:UInt8),(2:UInt8),(0:UInt8),(1:UInt8),(0:UInt8),(3:UInt8),(0:UInt8),(1:UInt8),(0:UInt8),(2:UInt8),(0:UInt8),(1:UInt8),(0:UInt8)]) (List.append [(7:UInt8),(0:UInt8),(1:UInt8),(0:UInt8),(2:UInt8),(0:UInt8),(1:UInt8),(0:UInt8),(3:UInt8),(0:UInt8),(1:UInt8),(0:UInt8),(2:UInt8),(0:UInt8),(1:UInt8),(0:UInt8),(4:UInt8),(0:UInt8),(1:UInt8),(0:UInt8),(2:UInt8),(0:UInt8),(1:UInt8),(0:UInt8),(3:UInt8),(0:UInt8),(1:UInt8),(0:UInt8),(2:UInt8),(0:UInt8),(1:UInt8),(0:UInt8),(5:UInt8),(0:UInt8),(1:UInt8),(0:UInt8),(2:UInt8),(0:UInt8),(1:UInt8),(0:UInt8),(3:UInt8),(0:UInt8),(1:UInt8),(0:UInt8),(2:UInt8),(0:UInt8),(1:UInt8),(0:UInt8),(4:UInt8),(0:UInt8),(1:UInt8),(0:UInt8),(2:UInt8),(0:UInt8),(1:UInt8),(0:UInt8),(3:UInt8),(0:UInt8),(1:UInt8),(0:UInt8),(2:UInt8),(0:UInt8),(1:UInt8),(0:UInt8)] [(6:UInt8),(0:UInt8),(1:UInt8),(0:UInt8),(2:UInt8),(0:UInt8),(1:UInt8),(0:UInt8),(3:UInt8),(0:UInt8),(1:UInt8),(0:UInt8),(2:UInt8),(0:UInt8),(1:UInt8),(0:UInt8),(4:UInt8),(0:UInt8),(1:UInt8),(0:UInt8),(2:UInt8),(0:UInt8),(1:UInt8),(0:UInt8),(3:UInt8),(0:UInt8),(1:UInt8),(0:UInt8),(2:UInt8),(0:UInt8),(1:UInt8),(0:UInt8),(5:UInt8),(0:UInt8),(1:UInt8),(0:UInt8),(2:UInt8),(0:UInt8),(1:UInt8),(0:UInt8),(3:UInt8),(0:UInt8),(1:UInt8),(0:UInt8),(2:UInt8),(0:UInt8),(1:UInt8),(0:UInt8),(4:UInt8),(0:UInt8),(1:UInt8),(0:UInt8),(2:UInt8),(0:UInt8),(1:UInt8),(0:UInt8),(3:UInt8),(0:UInt8),(1:UInt8),(0:UInt8),(2:UInt8),(0:UInt8),(1:UInt8),(0:UInt8)])))))) (Int.toNat x0) (0:UInt8))):Int),()))):=by kernel_rfl
theorem c1X:ctz.Valid Tryz.prog 78:=by
  refine p9.o5 c2F rfl rfl Tryz.func78 (c:=d8 Tryz.prog 78) rfl rfl c2C rfl ?_;rintro ⟨(x0:Int),⟨⟩⟩ - ⟨h0,-⟩;refine j5 (n:=1000) c2F c2C ?_;refine g9 (c7Z x0) ?_;have g0:0<=x0/\x0<=255:=h0;obtain ⟨n,rfl⟩:∃ n:Fin 256,x0=((n.val:Nat):Int):=⟨⟨x0.toNat,by omega⟩,by simp; omega⟩;refine ⟨?_,λ _=>?_⟩
  . clear h0 g0; revert n; decide +kernel
  . show ((_,()):Int×Unit)=(tz n,());clear h0 g0; revert n; decide +kernel
def a4M (v:a0Y):Int×Int×Unit:=if U7 v≠0 then (0,U7 v,()) else (tz v.2.1,0,())
def a99:p9:={ ps:=[.v View],rs:=[e8,e8],pre:=λ _=>True,fn:=λ x=>a4M x.1,out:=λ _=>() }
noncomputable def b5X:Env:={ P:=Tryz.prog,tt:=tt,C0:=[(70,a4S),(78,ctz)],res:=[Go.ResultVar.tmp 2,Go.ResultVar.tmp 3],rs:=[Ty.int IntKind.i64,Ty.int IntKind.i64],ps:=[PK.v View],y5:=[],nt:=13 }
theorem b2L:u6 b5X:=w9 q9 ⟨a6e,c1X,trivial⟩
theorem b2y:y7 b5X Tryz.f61:=⟨rfl,rfl⟩
theorem c4F (aN:Int) (ab:Int):exec b5X 1000 [.code (d8 Tryz.prog 61)] (s5 a99.ps (((aN,ab,()),()))) =
  .f6 (True) (cond (decide (U7 (aN,ab,())≠(0:Int))) (.ret (((0:Int),U7 (aN,ab,()),()))) (.f6 (True) (.ret ((tz ab,(0:Int),()))))):=by kernel_rfl
theorem b4G:a99.Valid Tryz.prog 61:=by
  refine p9.o5 b2L rfl rfl Tryz.func61 (c:=d8 Tryz.prog 61) rfl rfl b2y rfl ?_;rintro ⟨⟨(x0:Int),(x1:Int),⟨⟩⟩,⟨⟩⟩ - -
  refine j5 (n:=1000) b2L b2y ?_;refine g9 (c4F x0 x1) ?_;simp only [j6,Tree.holds,true_and,true_implies,decide_eq_true_eq,decide_eq_false_iff_not,Bool.not_eq_true',Bool.not_eq_false',Int.toNat_natCast,j7,List.length_set,List.length_cons,List.length_nil];have key:∀ r:Int×Int×Unit,a4M (x0,x1,())=r->((r:DL [Ty.int .i64,Ty.int .i64])=a99.fn ((x0,x1,()),())):=by rintro r rfl; rfl
  refine ⟨λ a=>key _ ?_,λ a=>key _ ?_⟩
  . rw [a4M,if_pos a]; rfl
  . rw [a4M,if_neg a]; rfl
def r9 (w:f7) (p:Int):Bool:=G9 p 0 ((w.2.1.length:Int) - 1) && decide (U2 .u8 (w.1.2.1 / (2:Int)^min p.toNat IntKind.u8.bits) 1=1) && !(w.2.1.getD p.toNat i8).1
def a8V:p9:={ ps:=[.rd K7,.v e8],rs:=[.bool],pre:=λ x=>List.length (α:=n9) (x.1:f7).2.1<=6,fn:=λ x=>(r9 x.1 x.2.1,()),out:=λ _=>() }
noncomputable def c0M:Env:={ P:=Tryz.prog,tt:=tt,C0:=[(40,b08)],res:=[Go.ResultVar.tmp 4],rs:=[Ty.bool],ps:=[PK.rd K7,PK.v e8],y5:=[],nt:=35 }
theorem b5U:u6 c0M:=w9 q9 ⟨a3b,trivial⟩
theorem b5o:y7 c0M Tryz.f47:=⟨rfl,rfl⟩
theorem c6y (ai:Int) (af:Int) (ab:List n9) (ae:List (List UInt8)) (aa:List (List UInt8)) (x1:Int):exec c0M 1000 [.code (d8 Tryz.prog 47)] (s5 a8V.ps ((((ai,af,()),ab,ae,aa,()),x1,()))) =
  .f6 (r7 IntKind.i64 ((↑(List.length ab):Int) - (1:Int))) (.f6 (True) (cond (G9 x1 (0:Int) ((↑(List.length ab):Int) - (1:Int))) (.f6 ((0:Int)<=x1) (cond (decide (U2 IntKind.u8 (af / (2:Int)^min (Int.toNat x1) (IntKind.bits IntKind.u8)) (1:Int)=(1:Int))) (.f6 ((0:Int)<=x1/\x1<(↑(List.length ab):Int)) (.ret ((!Prod.fst (List.getD ab (Int.toNat x1) (false,[],((0:Int),[],()),((0:Int),[],()),((0:Int),[],()),())),())))) (.ret ((false,()))))) (.ret ((false,()))))):=by kernel_rfl
theorem a1O:a8V.Valid Tryz.prog 47:=by
  refine p9.o5 b5U rfl rfl Tryz.func47 (c:=d8 Tryz.prog 47) rfl rfl b5o rfl ?_;rintro ⟨⟨⟨(v0:Int),(v1:Int),⟨⟩⟩,(al:List n9),(od:List (List UInt8)),(wy:List (List UInt8)),⟨⟩⟩,(p:Int),⟨⟩⟩ (hp:al.length<=6) -
  refine j5 (n:=1000) b5U b5o ?_;refine g9 (c6y v0 v1 al od wy p) ?_;simp only [j6,Tree.holds,true_and,true_implies,decide_eq_true_eq,decide_eq_false_iff_not,Bool.not_eq_true',Bool.not_eq_false',Int.toNat_natCast,j7,List.length_set,List.length_cons,List.length_nil];have key:∀ r:Bool,r9 ((v0,v1,()),al,od,wy,()) p=r->(((r,()):Bool×Unit)=(r9 ((v0,v1,()),al,od,wy,()) p,())):=by rintro r rfl; rfl
  refine ⟨⟨by omega,by omega⟩,λ _=>⟨λ a=>⟨(S7.1 a).1,λ _=>⟨λ b=>⟨⟨(S7.1 a).1,by have:=(S7.1 a).2; show p<(al.length:Int); omega⟩,λ _=>key _ ?_⟩,λ b=>key _ ?_⟩⟩,λ a=>key _ ?_⟩⟩
  . show (G9 p 0 ((al.length:Int) - 1) && _ && _)=_;rw [a,Bool.true_and];exact congrArg (· && _) (decide_eq_true b)
  . show (G9 p 0 ((al.length:Int) - 1) && decide _ && _)=_;rw [a,Bool.true_and,decide_eq_false b]; rfl
  . show (G9 p 0 ((al.length:Int) - 1) && _ && _)=_;rw [a]; rfl
def known (w:f7) (p:Int):Int:=if G9 p 0 ((w.2.1.length:Int) - 1)=true then 0 else 1
def a4W:p9:={ ps:=[.rd K7,.v e8],rs:=[e8],pre:=λ x=>List.length (α:=n9) (x.1:f7).2.1<=6,fn:=λ x=>(known x.1 x.2.1,()),out:=λ _=>() }
noncomputable def b1q:Env:={ P:=Tryz.prog,tt:=tt,C0:=[(40,b08)],res:=[Go.ResultVar.tmp 4],rs:=[Ty.int IntKind.i64],ps:=[PK.rd K7,PK.v e8],y5:=[],nt:=14 }
theorem b0B:u6 b1q:=w9 q9 ⟨a3b,trivial⟩
theorem b0r:y7 b1q Tryz.f49:=⟨rfl,rfl⟩
theorem c2O (ai:Int) (af:Int) (ab:List n9) (ae:List (List UInt8)) (aa:List (List UInt8)) (x1:Int):exec b1q 1000 [.code (d8 Tryz.prog 49)] (s5 a4W.ps ((((ai,af,()),ab,ae,aa,()),x1,()))) =
  .f6 (r7 IntKind.i64 ((↑(List.length ab):Int) - (1:Int))) (.f6 (True) (cond (!G9 x1 (0:Int) ((↑(List.length ab):Int) - (1:Int))) (.ret (((1:Int),()))) (.ret (((0:Int),()))))):=by kernel_rfl
theorem a1M:a4W.Valid Tryz.prog 49:=by
  refine p9.o5 b0B rfl rfl Tryz.func49 (c:=d8 Tryz.prog 49) rfl rfl b0r rfl ?_;rintro ⟨⟨⟨(v0:Int),(v1:Int),⟨⟩⟩,(al:List n9),(od:List (List UInt8)),(wy:List (List UInt8)),⟨⟩⟩,(p:Int),⟨⟩⟩ (hp:al.length<=6) -
  refine j5 (n:=1000) b0B b0r ?_;refine g9 (c2O v0 v1 al od wy p) ?_;simp only [j6,Tree.holds,true_and,true_implies,decide_eq_true_eq,decide_eq_false_iff_not,Bool.not_eq_true',Bool.not_eq_false',Int.toNat_natCast,j7,List.length_set,List.length_cons,List.length_nil];have key:∀ r:Int,known ((v0,v1,()),al,od,wy,()) p=r->(((r,()):Int×Unit)=(known ((v0,v1,()),al,od,wy,()) p,())):=by rintro r rfl; rfl
  refine ⟨⟨by omega,by omega⟩,λ _=>⟨λ a=>key _ ?_,λ a=>key _ ?_⟩⟩
  . exact if_neg (by simpa using a)
  . exact if_pos (by simpa using a)
def K8 (w:f7) (p:Int):Int:=if known w p≠0 then known w p else if r9 w p=true then 0 else 11
def b3m:p9:={ ps:=[.rd K7,.v e8],rs:=[e8],pre:=λ x=>List.length (α:=n9) (x.1:f7).2.1<=6,fn:=λ x=>(K8 x.1 x.2.1,()),out:=λ _=>() }
noncomputable def b5I:Env:={ P:=Tryz.prog,tt:=tt,C0:=[(49,a4W),(47,a8V)],res:=[Go.ResultVar.tmp 4],rs:=[Ty.int IntKind.i64],ps:=[PK.rd K7,PK.v e8],y5:=[],nt:=16 }
theorem b2G:u6 b5I:=w9 q9 ⟨a1M,a1O,trivial⟩
theorem b2t:y7 b5I Tryz.f41:=⟨rfl,rfl⟩
theorem c4x (ai:Int) (af:Int) (ab:List n9) (ae:List (List UInt8)) (aa:List (List UInt8)) (x1:Int):exec b5I 1000 [.code (d8 Tryz.prog 41)] (s5 b3m.ps ((((ai,af,()),ab,ae,aa,()),x1,()))) =
  .f6 (List.length ab<=6) (cond (decide (known ((ai,af,()),ab,ae,aa,()) x1≠(0:Int))) (.ret ((known ((ai,af,()),ab,ae,aa,()) x1,()))) (.f6 (List.length ab<=6) (cond (!r9 ((ai,af,()),ab,ae,aa,()) x1) (.ret (((11:Int),()))) (.ret (((0:Int),())))))):=by kernel_rfl
theorem a8b:b3m.Valid Tryz.prog 41:=by
  refine p9.o5 b2G rfl rfl Tryz.func41 (c:=d8 Tryz.prog 41) rfl rfl b2t rfl ?_;rintro ⟨⟨⟨(v0:Int),(v1:Int),⟨⟩⟩,(al:List n9),(od:List (List UInt8)),(wy:List (List UInt8)),⟨⟩⟩,(p:Int),⟨⟩⟩ (hp:al.length<=6) -
  refine j5 (n:=1000) b2G b2t ?_;refine g9 (c4x v0 v1 al od wy p) ?_;simp only [j6,Tree.holds,true_and,true_implies,decide_eq_true_eq,decide_eq_false_iff_not,Bool.not_eq_true',Bool.not_eq_false',Int.toNat_natCast,j7,List.length_set,List.length_cons,List.length_nil];have key:∀ r:Int,K8 ((v0,v1,()),al,od,wy,()) p=r->(((r,()):Int×Unit)=(K8 ((v0,v1,()),al,od,wy,()) p,())):=by rintro r rfl; rfl
  refine ⟨hp,λ _=>⟨λ a=>key _ ?_,λ a=>⟨hp,λ _=>⟨λ b=>key _ ?_,λ b=>key _ ?_⟩⟩⟩⟩
  . exact if_pos a
  . rw [K8,if_neg (by simpa using a),if_neg (by simpa using b)]
  . rw [K8,if_neg (by simpa using a),if_pos (by simpa using b)]
def J6 (w:f7):Int:=(a4M w.1).1
def b04:p9:={ ps:=[.rd K7],rs:=[e8],pre:=λ _=>True,fn:=λ x=>(J6 x.1,()),out:=λ _=>() }
noncomputable def c0E:Env:={ P:=Tryz.prog,tt:=tt,C0:=[(61,a99)],res:=[Go.ResultVar.tmp 2],rs:=[Ty.int IntKind.i64],ps:=[PK.rd K7],y5:=[],nt:=14 }
theorem b5K:u6 c0E:=w9 q9 ⟨b4G,trivial⟩
theorem b5k:y7 c0E Tryz.f44:=⟨rfl,rfl⟩
theorem c6u (ai:Int) (af:Int) (ab:List n9) (ae:List (List UInt8)) (aa:List (List UInt8)):exec c0E 1000 [.code (d8 Tryz.prog 44)] (s5 b04.ps ((((ai,af,()),ab,ae,aa,()),()))) =
  .f6 (True) (.ret ((Prod.fst (a4M (ai,af,())),()))):=by kernel_rfl
theorem a3a:b04.Valid Tryz.prog 44:=by
  refine p9.o5 b5K rfl rfl Tryz.func44 (c:=d8 Tryz.prog 44) rfl rfl b5k rfl ?_;rintro ⟨⟨⟨(v0:Int),(v1:Int),⟨⟩⟩,(al:List n9),(od:List (List UInt8)),(wy:List (List UInt8)),⟨⟩⟩,⟨⟩⟩ - -
  refine j5 (n:=1000) b5K b5k ?_;refine g9 (c6u v0 v1 al od wy) ?_;exact ⟨trivial,λ _=>rfl⟩
def J9 (w:f7) (k f t s:Int) (x:List UInt8):f7 :=
  let r:=Q9 (k,f,t,w.1.1,s,[0,0,0,0,0,0],x,())
  if r.2.1=0/\(w.2.2.2.1.length:Int)<60 then (w.1,w.2.1,w.2.2.1,w.2.2.2.1++[r.1],()) else w
theorem a6n {w:f7} {k f t s:Int} {x:List UInt8} (h:(Q9 (k,f,t,w.1.1,s,[0,0,0,0,0,0],x,())).2.1=0) (h2:(w.2.2.2.1.length:Int)<60) :
    J9 w k f t s x=(w.1,w.2.1,w.2.2.1,w.2.2.2.1++[(Q9 (k,f,t,w.1.1,s,[0,0,0,0,0,0],x,())).1],()):=by
  unfold J9; exact if_pos ⟨h,h2⟩
theorem a3X {w:f7} {k f t s:Int} {x:List UInt8} (h:¬ ((Q9 (k,f,t,w.1.1,s,[0,0,0,0,0,0],x,())).2.1=0/\(w.2.2.2.1.length:Int)<60)) :
    J9 w k f t s x=w:=by
  unfold J9; exact if_neg h
def a7I:p9:={ ps:=[.rw u3,.v e8,.v e8,.v e8,.v e8,.v .str],rs:=[],pre:=λ _=>True,fn:=λ _=>(),out:=λ x=>(J9 x.1 x.2.1 x.2.2.1 x.2.2.2.1 x.2.2.2.2.1 x.2.2.2.2.2.1,()) }
noncomputable def b5L:Env:={ P:=Tryz.prog,tt:=tt,C0:=[(60,b9D)],res:=[],rs:=[],ps:=[PK.rw u3,PK.v e8,PK.v e8,PK.v e8,PK.v e8,PK.v Ty.str],y5:=[],nt:=49 }
theorem b2H:u6 b5L:=w9 q9 ⟨b6A,trivial⟩
theorem b2u:y7 b5L Tryz.f43:=⟨rfl,rfl⟩
theorem c4A (ai:Int) (af:Int) (ab:List n9) (ae:List (List UInt8)) (aa:List (List UInt8)) (x1:Int) (x2:Int) (x3:Int) (x4:Int) (x5:List UInt8):exec b5L 1000 [.code (d8 Tryz.prog 43)] (s5 a7I.ps ((((ai,af,()),ab,ae,aa,()),x1,x2,x3,x4,x5,()))) =
  .f6 (True) (cond (decide (Prod.fst (Prod.snd (Q9 (x1,x2,x3,ai,x4,[(0:Int),(0:Int),(0:Int),(0:Int),(0:Int),(0:Int)],x5,())))=(0:Int))) (cond (decide ((↑(List.length aa):Int)<(60:Int))) (.f6 (True/\True/\[]++[Step.l7 3]=[]++[Step.l7 3]/\List.length aa+List.length (List.set [[]] (Int.toNat (↑0:Int)) (Prod.fst (Q9 (x1,x2,x3,ai,x4,[(0:Int),(0:Int),(0:Int),(0:Int),(0:Int),(0:Int)],x5,()))))<=140737488355328/\(List.length aa+List.length (List.set [[]] (Int.toNat (↑0:Int)) (Prod.fst (Q9 (x1,x2,x3,ai,x4,[(0:Int),(0:Int),(0:Int),(0:Int),(0:Int),(0:Int)],x5,())))))*Ty.wb Ty.str<=140737488355328) (.ret ((((ai,af,()),ab,ae,aa++List.set [[]] (Int.toNat (↑0:Int)) (Prod.fst (Q9 (x1,x2,x3,ai,x4,[(0:Int),(0:Int),(0:Int),(0:Int),(0:Int),(0:Int)],x5,()))),()),())))) (.ret ((((ai,af,()),ab,ae,aa,()),())))) (.ret ((((ai,af,()),ab,ae,aa,()),())))):=by kernel_rfl
attribute [local irreducible] Q9 J9 in
theorem a2l:a7I.Valid Tryz.prog 43:=by
  refine p9.o5 b2H rfl rfl Tryz.func43 (c:=d8 Tryz.prog 43) rfl rfl b2u rfl ?_;rintro ⟨⟨⟨(v0:Int),(v1:Int),⟨⟩⟩,(al:List n9),(od:List (List UInt8)),(wy:List (List UInt8)),⟨⟩⟩,(k:Int),(f:Int),(t:Int),(s:Int),(x:List UInt8),⟨⟩⟩ - -
  refine j5 (n:=1000) b2H b2u ?_;refine g9 (c4A v0 v1 al od wy k f t s x) ?_;simp only [j6,Tree.holds,true_and,true_implies,decide_eq_true_eq,decide_eq_false_iff_not,Bool.not_eq_true',Bool.not_eq_false',Int.toNat_natCast,j7,List.length_set,List.length_cons,List.length_nil];have key:∀ r:f7,J9 ((v0,v1,()),al,od,wy,()) k f t s x=r->(((r,()):f7×Unit)=(J9 ((v0,v1,()),al,od,wy,()) k f t s x,())):=by rintro r rfl; rfl
  refine ⟨λ a=>⟨λ b=>⟨?_,λ _=>key _ ?_⟩,λ b=>key _ ?_⟩,λ a=>key _ ?_⟩
  . have b':wy.length<60:=by exact_mod_cast b
    refine ⟨?_,?_⟩
    . show wy.length+1<=140737488355328; omega
    . show (wy.length+1)*16<=140737488355328; omega
  . exact a6n a b
  . exact a3X (λ h=>b h.2)
  . exact a3X (λ h=>a h.1)
def a1b (w:f7) (p:Int):f7×Int :=
  if known w p≠0 then (w,known w p) else ((w.1,w.2.1.set p.toNat (true,(w.2.1.getD p.toNat i8).2),w.2.2),0)
def b9Q:p9:={ ps:=[.rw u3,.v e8],rs:=[e8],pre:=λ x=>List.length (α:=n9) (x.1:f7).2.1<=6,fn:=λ x=>((a1b x.1 x.2.1).2,()),out:=λ x=>((a1b x.1 x.2.1).1,()) }
noncomputable def b5Q:Env:={ P:=Tryz.prog,tt:=tt,C0:=[(49,a4W)],res:=[Go.ResultVar.tmp 4],rs:=[Ty.int IntKind.i64],ps:=[PK.rw u3,PK.v e8],y5:=[],nt:=19 }
theorem b2J:u6 b5Q:=w9 q9 ⟨a1M,trivial⟩
theorem b2w:y7 b5Q Tryz.f37:=⟨rfl,rfl⟩
theorem c4C (ai:Int) (af:Int) (ab:List n9) (ae:List (List UInt8)) (aa:List (List UInt8)) (x1:Int):exec b5Q 1000 [.code (d8 Tryz.prog 37)] (s5 b9Q.ps ((((ai,af,()),ab,ae,aa,()),x1,()))) =
  .f6 (List.length ab<=6) (cond (decide (known ((ai,af,()),ab,ae,aa,()) x1≠(0:Int))) (.ret ((known ((ai,af,()),ab,ae,aa,()) x1,((ai,af,()),ab,ae,aa,()),()))) (.f6 ((0:Int)<=x1/\x1<(↑(List.length ab):Int)) (.ret (((0:Int),((ai,af,()),List.set ab (Int.toNat x1) (true,Prod.snd (List.getD ab (Int.toNat x1) (false,[],((0:Int),[],()),((0:Int),[],()),((0:Int),[],()),()))),ae,aa,()),()))))):=by kernel_rfl
theorem b6M:b9Q.Valid Tryz.prog 37:=by
  refine p9.o5 b2J rfl rfl Tryz.func37 (c:=d8 Tryz.prog 37) rfl rfl b2w rfl ?_;rintro ⟨⟨⟨(v0:Int),(v1:Int),⟨⟩⟩,(al:List n9),(od:List (List UInt8)),(wy:List (List UInt8)),⟨⟩⟩,(p:Int),⟨⟩⟩ (hp:al.length<=6) -
  refine j5 (n:=1000) b2J b2w ?_;refine g9 (c4C v0 v1 al od wy p) ?_;simp only [j6,Tree.holds,true_and,true_implies,decide_eq_true_eq,decide_eq_false_iff_not,Bool.not_eq_true',Bool.not_eq_false',Int.toNat_natCast,j7,List.length_set,List.length_cons,List.length_nil];have key:∀ r:f7×Int,a1b ((v0,v1,()),al,od,wy,()) p=r->(((r.2,r.1,()):Int×f7×Unit)=((a1b ((v0,v1,()),al,od,wy,()) p).2,(a1b ((v0,v1,()),al,od,wy,()) p).1,())):=by rintro r rfl; rfl
  have dQ:¬ known ((v0,v1,()),al,od,wy,()) p≠0->0<=p/\p<(al.length:Int):=by
    intro a;unfold known at a;split at a
    . rename_i hb;have:=S7.1 hb;simp only at this; omega
    . exact absurd (by decide) a
  refine ⟨hp,λ _=>⟨λ a=>key (_,_) ?_,λ a=>⟨dQ a,λ _=>key (_,_) ?_⟩⟩⟩
  . rw [a1b,if_pos a]; rfl
  . rw [a1b,if_neg a]; rfl
def ttW:List (TypeId×TI):=(78,TI.mk N8 32)::(83,TI.mk ToT 32)::tt
theorem c05:ttW.all (a48 Tryz.prog)=true:=by kernel_rfl
def c67:p9:={ ps:=[.v N8,.v .str],rs:=[N8,e8],new:=true,pre:=b9I.pre,fn:=λ x=>N1 x.1 x.2.1,out:=λ _=>() }
theorem b9B:c67.Valid Tryz.prog 42:=b6E.share (rs':=[N8,e8]) rfl rfl rfl
def c2c:p9:={ ps:=[.v N8,.v e8],rs:=[N8,e8],new:=true,pre:=b07.pre,fn:=λ x=>N6 x.1 x.2.1,out:=λ _=>() }
theorem b4E:c2c.Valid Tryz.prog 86:=b3b.share (rs':=[N8,e8]) rfl rfl rfl
def b9t:p9:={ ps:=[.v ToT,.v p7],rs:=[ToT,.d0 true .str,e8],new:=true,pre:=b4A.pre,fn:=λ x=>C3 x.1 x.2.1,out:=λ _=>() }
theorem a8c:b9t.Valid Tryz.prog 83:=b4z.share (rs':=[ToT,.d0 true .str,e8]) rfl rfl rfl
theorem c7K:Ty.wb p7=24:=rfl
def b4F:p9:={ ps:=[.v (.d0 false p7)],rs:=[.d0 true p7],pre:=λ x=>List.length (α:=B9) x.1<=5864062014805,fn:=λ x=>x,out:=λ _=>() }
noncomputable def c4D:Env:={ P:=Tryz.prog,tt:=tt,C0:=[],res:=[Go.ResultVar.tmp 2],rs:=[Ty.d0 true p7],ps:=[PK.v J4],y5:=[],nt:=8 }
theorem b8c:u6 c4D:=w9 q9 trivial
theorem b73:y7 c4D Tryz.f31:=⟨rfl,rfl⟩
theorem c7B (x0:List (Int×List UInt8×Unit)):exec c4D 1000 [.code (d8 Tryz.prog 31)] (s5 b4F.ps ((x0,()))) =
  .both (x0=[]) (.ret (([],()))) (.f6 ((0:Nat)+List.length x0<=140737488355328/\((0:Nat)+List.length x0)*Ty.wb p7<=140737488355328) (.ret (([]++x0,())))):=by kernel_rfl
theorem a5J:b4F.Valid Tryz.prog 31:=by
  refine p9.o5 b8c rfl rfl Tryz.func31 (c:=d8 Tryz.prog 31) rfl rfl b73 rfl ?_;rintro ⟨(l:List (B9)),⟨⟩⟩ hp -
  have hp:l.length<=5864062014805:=hp;refine j5 (n:=1000) b8c b73 ?_;refine g9 (c7B l) ?_;simp only [j6,Tree.holds,true_and,true_implies,decide_eq_true_eq,decide_eq_false_iff_not,Bool.not_eq_true',Bool.not_eq_false',Int.toNat_natCast,j7,List.length_set,List.length_cons,List.length_nil,c7K];refine ⟨λ h=>?_,by omega,λ _=>rfl⟩;show (([],()):List (B9)×Unit)=(l,());rw [show l=[] from h]
theorem c7I:Ty.wb .str=16:=rfl
def c3T:p9:={ ps:=[.v (.d0 false .str)],rs:=[.d0 true .str],pre:=λ x=>List.length (α:=List UInt8) x.1<=1048576,fn:=λ x=>x,out:=λ _=>() }
noncomputable def c4j:Env:={ P:=Tryz.prog,tt:=tt,C0:=[],res:=[Go.ResultVar.tmp 2],rs:=[Ty.d0 true Ty.str],ps:=[PK.v (Ty.d0 false Ty.str)],y5:=[],nt:=8 }
theorem b75:u6 c4j:=w9 q9 trivial
theorem b7V:y7 c4j Tryz.f32:=⟨rfl,rfl⟩
theorem c7u (x0:List (List UInt8)):exec c4j 1000 [.code (d8 Tryz.prog 32)] (s5 c3T.ps ((x0,()))) =
  .both (x0=[]) (.ret (([],()))) (.f6 ((0:Nat)+List.length x0<=140737488355328/\((0:Nat)+List.length x0)*Ty.wb Ty.str<=140737488355328) (.ret (([]++x0,())))):=by kernel_rfl
theorem b9s:c3T.Valid Tryz.prog 32:=by
  refine p9.o5 b75 rfl rfl Tryz.func32 (c:=d8 Tryz.prog 32) rfl rfl b7V rfl ?_;rintro ⟨(l:List (List UInt8)),⟨⟩⟩ hp -
  have hp:l.length<=1048576:=hp;refine j5 (n:=1000) b75 b7V ?_;refine g9 (c7u l) ?_;simp only [j6,Tree.holds,true_and,true_implies,decide_eq_true_eq,decide_eq_false_iff_not,Bool.not_eq_true',Bool.not_eq_false',Int.toNat_natCast,j7,List.length_set,List.length_cons,List.length_nil,c7I];refine ⟨λ h=>?_,by omega,λ _=>rfl⟩;show (([],()):List (List UInt8)×Unit)=(l,());rw [show l=[] from h]
abbrev J2:=Bool×(Nat×(List B9×List B9))×FrD×ToD×ToD×Unit
abbrev a7M:=a0Y×List J2×List (List UInt8)×List (List UInt8)×Unit
def b9W:p9:={ ps:=[.v (.d0 false .str)],rs:=[.d0 false .str],new:=true,pre:=c3T.pre,fn:=λ x=>x,out:=λ _=>() }
theorem a8j:b9W.Valid Tryz.prog 32:=b9s.share (rs':=[.d0 false .str]) rfl rfl rfl
def b4g (w:f7) (p:Int) (g:Int):Int:=if r9 w p=true then g else bOr .u8 g (U2 .u8 w.1.2.1 (IntKind.wrap .u8 (1*2^min p.toNat IntKind.u8.bits)))
def D8 (w:f7):Nat->Int
  | 0=>0
  | k+1=>b4g w k (D8 w k)
def S5 (w:f7):a0Y×Int×Unit:=O7 w.1 (D8 w w.2.1.length) 0
def b4P:p9:={ ps:=[.rd K7],rs:=[e8],pre:=λ x=>List.length (α:=n9) (x.1:f7).2.1<=6/\(S5 x.1).2.1≠0,fn:=λ x=>((S5 x.1).2.1,()),out:=λ _=>() }
noncomputable def a3R:Env:={ P:=Tryz.prog,tt:=ttW,C0:=[(47,a8V),(53,a6X),(31,b4F),(32,b9W)],res:=[Go.ResultVar.tmp 2],rs:=[Ty.int IntKind.i64],ps:=[PK.rd K7],y5:=[(4,[(0,none),(3,none),(4,none),(18,none),(19,none)]),(16,[(0,none),(4,none),(7,none),(67,none),(68,none)]),(22,[(0,none),(4,none),(7,none),(9,none),(10,none),(11,none),(67,none),(68,none),(86,none),(87,none),(88,none)]),(998014,[(4,some J4)])],nt:=139 }
theorem a4y:u6 a3R:=w9 c05 ⟨a1O,a6W,a5J,a8j,trivial⟩
theorem a4s:y7 a3R Tryz.f25:=⟨rfl,rfl⟩
theorem c0K (ai:Int) (af:Int) (ab:List n9) (ae:List (List UInt8)) (aa:List (List UInt8)):exec a3R 1000 [.code (d8 Tryz.prog 25)] (s5 b4P.ps ((((ai,af,()),ab,ae,aa,()),()))) =
  .ctL (f9 (d8 Tryz.prog 25) 4) (St.mk [(0,AV.M4 K7 ((ai,af,()),ab,ae,aa,())),(3,AV.val U8 (0:Int)),(4,AV.val J4 []),(18,AV.val e8 (↑(List.length ab):Int)),(19,AV.val e8 (0:Int))] []):=by kernel_rfl
def a4x (cp:Int) (bC:Int) (bU:List n9) (bY:List (List UInt8)) (bF:List (List UInt8)) (v3:Int) (v4:List (Int×List UInt8×Unit)) (v18:Int) (v19:Int):St:=St.mk [(0,AV.M4 K7 ((cp,bC,()),bU,bY,bF,())),(3,AV.val U8 v3),(4,AV.val J4 v4),(18,AV.val e8 v18),(19,AV.val e8 v19)] []
theorem b66 (cp:Int) (bC:Int) (bU:List n9) (bY:List (List UInt8)) (bF:List (List UInt8)) (v3:Int) (v4:List (Int×List UInt8×Unit)) (v18:Int) (v19:Int):exec a3R 1000 (.code (f9 (d8 Tryz.prog 25) 4).1::.inLoop (f9 (d8 Tryz.prog 25) 4).1::(f9 (d8 Tryz.prog 25) 4).2) (a4x cp bC bU bY bF v3 v4 v18 v19) =
  cond (decide (v19<v18)) (.f6 (List.length bU<=6) (cond (r9 ((cp,bC,()),bU,bY,bF,()) v19) (.f6 ((0:Int)<=v19/\v19<(↑(List.length bU):Int)) (cond (decide ((↑(List.length v4):Int)<(↑(List.length (Prod.fst (Prod.snd (List.getD bU (Int.toNat v19) (false,[],((0:Int),[],()),((0:Int),[],()),((0:Int),[],()),()))))):Int))) (.f6 (r7 IntKind.i64 (v19+(1:Int))) (.ctL (f9 (d8 Tryz.prog 25) 4) (St.mk [(0,AV.M4 K7 ((cp,bC,()),bU,bY,bF,())),(3,AV.val U8 v3),(4,AV.val J4 (Prod.fst (Prod.snd (List.getD bU (Int.toNat v19) (false,[],((0:Int),[],()),((0:Int),[],()),((0:Int),[],()),()))))),(18,AV.val e8 v18),(19,AV.val e8 (v19+(1:Int)))] []))) (.f6 (r7 IntKind.i64 (v19+(1:Int))) (.ctL (f9 (d8 Tryz.prog 25) 4) (St.mk [(0,AV.M4 K7 ((cp,bC,()),bU,bY,bF,())),(3,AV.val U8 v3),(4,AV.val J4 v4),(18,AV.val e8 v18),(19,AV.val e8 (v19+(1:Int)))] []))))) (.f6 ((0:Int)<=v19) (.f6 (r7 IntKind.i64 (v19+(1:Int))) (.ctL (f9 (d8 Tryz.prog 25) 4) (St.mk [(0,AV.M4 K7 ((cp,bC,()),bU,bY,bF,())),(3,AV.val U8 (bOr IntKind.u8 v3 (U2 IntKind.u8 bC (IntKind.wrap IntKind.u8 ((1:Int)*(2:Int)^min (Int.toNat v19) (IntKind.bits IntKind.u8)))))),(4,AV.val J4 v4),(18,AV.val e8 v18),(19,AV.val e8 (v19+(1:Int)))] [])))))) (.f6 (True) (cond (decide (Prod.fst (Prod.snd (O7 (cp,bC,()) v3 (0:Int)))≠(0:Int))) (.ret ((Prod.fst (Prod.snd (O7 (cp,bC,()) v3 (0:Int))),()))) (.ctL (f9 (d8 Tryz.prog 25) 16) (St.mk [(0,AV.M4 K7 ((cp,bC,()),bU,bY,bF,())),(4,AV.val J4 v4),(7,AV.ptr 7 []),(67,AV.val e8 (↑(List.length bU):Int)),(68,AV.val e8 (0:Int))] [(7,g8.var View (Prod.fst (O7 (cp,bC,()) v3 (0:Int))))])))):=by kernel_rfl
theorem b1b:b4P.Valid Tryz.prog 25:=by
  refine p9.o5 a4y rfl rfl Tryz.func25 (c:=d8 Tryz.prog 25) rfl rfl a4s rfl ?_;rintro ⟨⟨⟨(v0:Int),(v1:Int),⟨⟩⟩,(al:List n9),(od:List (List UInt8)),(wy:List (List UInt8)),⟨⟩⟩,⟨⟩⟩ ⟨(hp:al.length<=6),(bK:(S5 ((v0,v1,()),al,od,wy,())).2.1≠0)⟩ -
  refine j5 (n:=1000) a4y a4s ?_;refine g9 (c0K v0 v1 al od wy) ?_;show Go.Ex.Reach a3R Tryz.f25 ((S5 ((v0,v1,()),al,od,wy,())).2.1,()) () (.code (f9 (d8 Tryz.prog 25) 4).1::.inLoop (f9 (d8 Tryz.prog 25) 4).1::(f9 (d8 Tryz.prog 25) 4).2) (a4x v0 v1 al od wy (D8 ((v0,v1,()),al,od,wy,()) 0) [] (al.length:Int) ((0:Nat):Int));refine Reach.K3 a4y a4s (λ i:Nat×List B9=>a4x v0 v1 al od wy (D8 ((v0,v1,()),al,od,wy,()) i.1) i.2 (al.length:Int) (i.1:Int)) (λ i=>i.1<=al.length)
    (λ i=>al.length - i.1) 1000 (λ _=>⟨s7 rfl,s7 rfl⟩) ?_ (0,[]) (Nat.zero_le _)
  rintro ⟨i,l⟩ k1 - ih;have k1:i<=al.length:=k1;have ih:∀ l',i<al.length->_:=λ l' h=>ih (i+1,l') (by show i+1<=al.length; omega) (by show al.length - (i+1)<al.length - i; omega);refine g9 (b66 ..) ?_;have e1:((i:Nat):Int)+1=((i+1:Nat):Int):=by omega
  simp only [j6,Tree.holds,true_and,true_implies,decide_eq_true_eq,decide_eq_false_iff_not,Bool.not_eq_true',Bool.not_eq_false',Int.toNat_natCast,j7,List.length_set,List.length_cons,List.length_nil,e1];refine ⟨λ c=>⟨hp,λ _=>⟨λ a=>⟨by omega,λ _=>⟨λ b=>⟨by omega,λ _=>?_⟩,λ b=>⟨by omega,λ _=>?_⟩⟩⟩,λ a=>⟨by omega,λ _=>⟨by omega,λ _=>?_⟩⟩⟩⟩,λ c=>⟨λ d=>?_,λ d=>?_⟩⟩
  . have:=ih (al.getD i i8).2.1 (by omega);rw [show D8 ((v0,v1,()),al,od,wy,()) (i+1)=D8 ((v0,v1,()),al,od,wy,()) i from if_pos a] at this;exact this
  . have:=ih l (by omega);rw [show D8 ((v0,v1,()),al,od,wy,()) (i+1)=D8 ((v0,v1,()),al,od,wy,()) i from if_pos a] at this;exact this
  . have:=ih l (by omega);rw [show D8 ((v0,v1,()),al,od,wy,()) (i+1)=bOr .u8 (D8 ((v0,v1,()),al,od,wy,()) i) (U2 .u8 v1 (IntKind.wrap .u8 (1*2^min i IntKind.u8.bits))) from if_neg (by simpa using a)] at this;exact this
  . obtain rfl:i=al.length:=by omega
    rfl
  . obtain rfl:i=al.length:=by omega
    exact absurd (show (O7 (v0,v1,()) (D8 ((v0,v1,()),al,od,wy,()) al.length) 0).2.1=0 by simpa using d) bK
def c3R:p9:={ ps:=[.rd K7],rs:=[e8],pre:=λ _=>True,fn:=λ x=>((List.length (α:=List UInt8) (x.1:f7).2.2.2.1:Int),()),out:=λ _=>() }
noncomputable def c0D:Env:={ P:=Tryz.prog,tt:=tt,C0:=[],res:=[Go.ResultVar.tmp 2],rs:=[Ty.int IntKind.i64],ps:=[PK.rd K7],y5:=[],nt:=8 }
theorem b5J:u6 c0D:=w9 q9 trivial
theorem b5j:y7 c0D Tryz.f17:=⟨rfl,rfl⟩
theorem c6t (ai:Int) (af:Int) (ab:List n9) (ae:List (List UInt8)) (aa:List (List UInt8)):exec c0D 1000 [.code (d8 Tryz.prog 17)] (s5 c3R.ps ((((ai,af,()),ab,ae,aa,()),()))) =
  .ret (((↑(List.length aa):Int),())):=by kernel_rfl
theorem b9p:c3R.Valid Tryz.prog 17:=by
  refine p9.o5 b5J rfl rfl Tryz.func17 (c:=d8 Tryz.prog 17) rfl rfl b5j rfl ?_;rintro ⟨⟨⟨(v0:Int),(v1:Int),⟨⟩⟩,(al:List n9),(od:List (List UInt8)),(wy:List (List UInt8)),⟨⟩⟩,⟨⟩⟩ - -
  refine j5 (n:=1000) b5J b5j ?_;refine g9 (c6t v0 v1 al od wy) ?_;rfl
def E1 (w:f7) (p:Int):List B9:=(w.2.1.getD p.toNat i8).2.1
def Z1 (w:f7) (p:Int):FrD:=(w.2.1.getD p.toNat i8).2.2.1
theorem a5u {v:a0Y} {al:List n9} {r:List (List UInt8)×List (List UInt8)×Unit} {p:Int} (a:¬ known (v,al,r) p≠0):0<=p/\p<(al.length:Int):=by
  unfold known at a;split at a
  . rename_i hb;have:=S7.1 hb;simp only at this; omega
  . exact absurd (by decide) a
def V5 (w:f7) (p:Int):List B9×Int×Unit:=if known w p≠0 then ([],known w p,()) else (E1 w p,0,())
def b9J:p9:={ ps:=[.rd K7,.v e8],rs:=[.d0 true p7,e8],pre:=λ x=>List.length (α:=n9) (x.1:f7).2.1<=6/\List.length (α:=B9) (E1 x.1 x.2.1)<=5864062014805,fn:=λ x=>V5 x.1 x.2.1,out:=λ _=>() }
noncomputable def c0I:Env:={ P:=Tryz.prog,tt:=tt,C0:=[(49,a4W),(31,b4F)],res:=[Go.ResultVar.tmp 4,Go.ResultVar.tmp 5],rs:=[Ty.d0 true p7,Ty.int IntKind.i64],ps:=[PK.rd K7,PK.v e8],y5:=[],nt:=22 }
theorem b5P:u6 c0I:=w9 q9 ⟨a1M,a5J,trivial⟩
theorem b5n:y7 c0I Tryz.f19:=⟨rfl,rfl⟩
theorem c6x (ai:Int) (af:Int) (ab:List n9) (ae:List (List UInt8)) (aa:List (List UInt8)) (x1:Int):exec c0I 1000 [.code (d8 Tryz.prog 19)] (s5 b9J.ps ((((ai,af,()),ab,ae,aa,()),x1,()))) =
  .f6 (List.length ab<=6) (cond (decide (known ((ai,af,()),ab,ae,aa,()) x1≠(0:Int))) (.ret (([],known ((ai,af,()),ab,ae,aa,()) x1,()))) (.f6 ((0:Int)<=x1/\x1<(↑(List.length ab):Int)) (.f6 (List.length (Prod.fst (Prod.snd (List.getD ab (Int.toNat x1) (false,[],((0:Int),[],()),((0:Int),[],()),((0:Int),[],()),()))))<=5864062014805) (.ret ((Prod.fst (Prod.snd (List.getD ab (Int.toNat x1) (false,[],((0:Int),[],()),((0:Int),[],()),((0:Int),[],()),()))),(0:Int),())))))):=by kernel_rfl
theorem a95:b9J.Valid Tryz.prog 19:=by
  refine p9.o5 b5P rfl rfl Tryz.func19 (c:=d8 Tryz.prog 19) rfl rfl b5n rfl ?_;rintro ⟨⟨⟨(v0:Int),(v1:Int),⟨⟩⟩,(al:List n9),(od:List (List UInt8)),(wy:List (List UInt8)),⟨⟩⟩,(p:Int),⟨⟩⟩ ⟨(hp:al.length<=6),(hl:(E1 ((v0,v1,()),al,od,wy,()) p).length<=5864062014805)⟩ -
  refine j5 (n:=1000) b5P b5n ?_;refine g9 (c6x v0 v1 al od wy p) ?_;simp only [j6,Tree.holds,true_and,true_implies,decide_eq_true_eq,decide_eq_false_iff_not,Bool.not_eq_true',Bool.not_eq_false',Int.toNat_natCast,j7,List.length_set,List.length_cons,List.length_nil];refine ⟨hp,λ _=>⟨λ a=>?_,λ a=>⟨a5u a,λ _=>⟨hl,λ _=>?_⟩⟩⟩⟩
  . show (([],_,()):List B9×Int×Unit)=V5 ((v0,v1,()),al,od,wy,()) p;exact (if_pos a).symm
  . show ((_,0,()):List B9×Int×Unit)=V5 ((v0,v1,()),al,od,wy,()) p;exact (if_neg a).symm
theorem a2Y {v:a0Y} {al:List n9} {r:List (List UInt8)×List (List UInt8)×Unit} {p:Int} (a:¬ K8 (v,al,r) p≠0):0<=p/\p<(al.length:Int):=by
  unfold K8 at a;by_cases h:known (v,al,r) p≠0
  . rw [if_pos h] at a; exact absurd h a
  . exact a5u h
theorem c5H {s:a0D} {x:List UInt8} (h:¬ (N1 s x).2.1≠0):(0<=(N1 s x).1.1/\(N1 s x).1.1<=16777215)/\(N1 s x).1.2.1.length<=17:=by
  unfold N1 at h ⊢;by_cases h1:G3 s≠0
  . rw [if_pos h1] at h ⊢; exact absurd h1 h
  rw [if_neg h1] at h ⊢;have aP:=a0e (Decidable.not_not.1 h1);by_cases h2:D5 x=true
  . rw [if_pos h2] at h; exact absurd (by decide) h
  rw [if_neg h2] at h ⊢;by_cases h3:(s.2.1.length:Int)=16\/16777215<=s.1+s.2.1.length
  . rw [if_pos h3] at h; exact absurd (by decide) h
  rw [if_neg h3];refine ⟨aP.1,?_⟩;rw [List.length_append];have:=aP.2.1;simp only [List.length_cons,List.length_nil]; omega
def setFrom (w:f7) (p:Int) (f:FrD):f7 :=
  (w.1,w.2.1.set p.toNat ((w.2.1.getD p.toNat i8).1,(w.2.1.getD p.toNat i8).2.1,f,(w.2.1.getD p.toNat i8).2.2.2),w.2.2)
def c4Q (w:f7) (p:Int) (t:List UInt8) (r:FrD):f7:=J9 (setFrom w p r) 1 p (J6 (setFrom w p r)) (r.1+r.2.1.length - 1) t
def V0 (w:f7) (p:Int) (t:List UInt8):f7×Int :=
  if K8 w p≠0 then (w,K8 w p) else if (150:Int)<t.length then (w,2) else if (w.2.2.2.1.length:Int)=60 then (w,8)
  else if (N1 (Z1 w p) t).2.1≠0 then (w,(N1 (Z1 w p) t).2.1) else (c4Q w p t (N1 (Z1 w p) t).1,0)
def b9x:p9:={ ps:=[.rw u3,.v e8,.v .str],rs:=[e8],pre:=λ x=>List.length (α:=n9) (x.1:f7).2.1<=6,fn:=λ x=>((V0 x.1 x.2.1 x.2.2.1).2,()),out:=λ x=>((V0 x.1 x.2.1 x.2.2.1).1,()) }
noncomputable def c0F:Env:={ P:=Tryz.prog,tt:=tt,C0:=[(41,b3m),(42,c67),(43,a7I),(44,b04)],res:=[Go.ResultVar.tmp 6],rs:=[Ty.int IntKind.i64],ps:=[PK.rw u3,PK.v e8,PK.v Ty.str],y5:=[],nt:=64 }
theorem b5M:u6 c0F:=w9 q9 ⟨a8b,b9B,a2l,a3a,trivial⟩
theorem b5l:y7 c0F Tryz.f15:=⟨rfl,rfl⟩
theorem c6v (ai:Int) (af:Int) (ab:List n9) (ae:List (List UInt8)) (aa:List (List UInt8)) (x1:Int) (x2:List UInt8):exec c0F 1000 [.code (d8 Tryz.prog 15)] (s5 b9x.ps ((((ai,af,()),ab,ae,aa,()),x1,x2,()))) =
  .f6 (List.length ab<=6) (cond (decide (K8 ((ai,af,()),ab,ae,aa,()) x1≠(0:Int))) (.ret ((K8 ((ai,af,()),ab,ae,aa,()) x1,((ai,af,()),ab,ae,aa,()),()))) (cond (decide ((150:Int)<(↑(List.length x2):Int))) (.ret (((2:Int),((ai,af,()),ab,ae,aa,()),()))) (cond (decide ((↑(List.length aa):Int)=(60:Int))) (.ret (((8:Int),((ai,af,()),ab,ae,aa,()),()))) (.f6 ((0:Int)<=x1/\x1<(↑(List.length ab):Int)) (.f6 (True) (cond (decide (Prod.fst (Prod.snd (N1 (Prod.fst (Prod.snd (Prod.snd (List.getD ab (Int.toNat x1) (false,[],((0:Int),[],()),((0:Int),[],()),((0:Int),[],()),()))))) x2))≠(0:Int))) (.ret ((Prod.fst (Prod.snd (N1 (Prod.fst (Prod.snd (Prod.snd (List.getD ab (Int.toNat x1) (false,[],((0:Int),[],()),((0:Int),[],()),((0:Int),[],()),()))))) x2)),((ai,af,()),ab,ae,aa,()),()))) (.f6 ((0:Int)<=x1/\x1<(↑(List.length ab):Int)) (.f6 (True) (.f6 (r7 IntKind.i64 (Prod.fst (Prod.fst (N1 (Prod.fst (Prod.snd (Prod.snd (List.getD ab (Int.toNat x1) (false,[],((0:Int),[],()),((0:Int),[],()),((0:Int),[],()),()))))) x2))+(↑(List.length (Prod.fst (Prod.snd (Prod.fst (N1 (Prod.fst (Prod.snd (Prod.snd (List.getD ab (Int.toNat x1) (false,[],((0:Int),[],()),((0:Int),[],()),((0:Int),[],()),()))))) x2))))):Int))) (.f6 (r7 IntKind.i64 (Prod.fst (Prod.fst (N1 (Prod.fst (Prod.snd (Prod.snd (List.getD ab (Int.toNat x1) (false,[],((0:Int),[],()),((0:Int),[],()),((0:Int),[],()),()))))) x2))+(↑(List.length (Prod.fst (Prod.snd (Prod.fst (N1 (Prod.fst (Prod.snd (Prod.snd (List.getD ab (Int.toNat x1) (false,[],((0:Int),[],()),((0:Int),[],()),((0:Int),[],()),()))))) x2))))):Int) - (1:Int))) (.f6 (True) (.ret (((0:Int),J9 ((ai,af,()),List.set ab (Int.toNat x1) (Prod.fst (List.getD ab (Int.toNat x1) (false,[],((0:Int),[],()),((0:Int),[],()),((0:Int),[],()),())),Prod.fst (Prod.snd (List.getD ab (Int.toNat x1) (false,[],((0:Int),[],()),((0:Int),[],()),((0:Int),[],()),()))),Prod.fst (N1 (Prod.fst (Prod.snd (Prod.snd (List.getD ab (Int.toNat x1) (false,[],((0:Int),[],()),((0:Int),[],()),((0:Int),[],()),()))))) x2),Prod.snd (Prod.snd (Prod.snd (List.getD ab (Int.toNat x1) (false,[],((0:Int),[],()),((0:Int),[],()),((0:Int),[],()),()))))),ae,aa,()) (1:Int) x1 (J6 ((ai,af,()),List.set ab (Int.toNat x1) (Prod.fst (List.getD ab (Int.toNat x1) (false,[],((0:Int),[],()),((0:Int),[],()),((0:Int),[],()),())),Prod.fst (Prod.snd (List.getD ab (Int.toNat x1) (false,[],((0:Int),[],()),((0:Int),[],()),((0:Int),[],()),()))),Prod.fst (N1 (Prod.fst (Prod.snd (Prod.snd (List.getD ab (Int.toNat x1) (false,[],((0:Int),[],()),((0:Int),[],()),((0:Int),[],()),()))))) x2),Prod.snd (Prod.snd (Prod.snd (List.getD ab (Int.toNat x1) (false,[],((0:Int),[],()),((0:Int),[],()),((0:Int),[],()),()))))),ae,aa,())) (Prod.fst (Prod.fst (N1 (Prod.fst (Prod.snd (Prod.snd (List.getD ab (Int.toNat x1) (false,[],((0:Int),[],()),((0:Int),[],()),((0:Int),[],()),()))))) x2))+(↑(List.length (Prod.fst (Prod.snd (Prod.fst (N1 (Prod.fst (Prod.snd (Prod.snd (List.getD ab (Int.toNat x1) (false,[],((0:Int),[],()),((0:Int),[],()),((0:Int),[],()),()))))) x2))))):Int) - (1:Int)) x2,())))))))))))))):=by kernel_rfl
attribute [local irreducible] V0 J9 N1 in
theorem a90:b9x.Valid Tryz.prog 15:=by
  refine p9.o5 b5M rfl rfl Tryz.func15 (c:=d8 Tryz.prog 15) rfl rfl b5l rfl ?_;rintro ⟨⟨⟨(v0:Int),(v1:Int),⟨⟩⟩,(al:List n9),(od:List (List UInt8)),(wy:List (List UInt8)),⟨⟩⟩,(p:Int),(t:List UInt8),⟨⟩⟩ (hp:al.length<=6) -
  refine j5 (n:=1000) b5M b5l ?_;refine g9 (c6v v0 v1 al od wy p t) ?_;simp only [j6,Tree.holds,true_and,true_implies,decide_eq_true_eq,decide_eq_false_iff_not,Bool.not_eq_true',Bool.not_eq_false',Int.toNat_natCast,j7,List.length_set,List.length_cons,List.length_nil];obtain ⟨w,hw⟩:∃ w:f7,w=((v0,v1,()),al,od,wy,()):=⟨_,rfl⟩;have key:∀ r:f7×Int,V0 ((v0,v1,()),al,od,wy,()) p t=r->(((r.2,r.1,()):Int×f7×Unit)=((V0 ((v0,v1,()),al,od,wy,()) p t).2,(V0 ((v0,v1,()),al,od,wy,()) p t).1,())):=by rintro r rfl; rfl
  have e1:=λ a=>(V0.eq_1 ((v0,v1,()),al,od,wy,()) p t).trans (if_pos a);have e2:=λ a=>(V0.eq_1 ((v0,v1,()),al,od,wy,()) p t).trans (if_neg a);refine ⟨hp,λ _=>⟨λ a=>key (_,_) (e1 a),λ a=>⟨λ b=>key (_,_) ((e2 a).trans (if_pos b)),λ b=>⟨λ c=>key (_,_) ((e2 a).trans ((if_neg b).trans (if_pos c))),
    λ c=>⟨a2Y a,λ _=>⟨λ d=>key (_,_) ((e2 a).trans ((if_neg b).trans ((if_neg c).trans (if_pos d)))),λ d=>?_⟩⟩⟩⟩⟩⟩
  have hk:=c5H (s:=Z1 ((v0,v1,()),al,od,wy,()) p) (x:=t) d;simp only [Z1] at hk;refine ⟨a2Y a,λ _=>⟨?_,λ _=>⟨?_,λ _=>key (_,_) ((e2 a).trans ((if_neg b).trans ((if_neg c).trans (if_neg d))))⟩⟩⟩
  . simp only [i8] at hk; omega
  . simp only [i8] at hk; omega
def ttN:List (TypeId×TI):=(76,TI.mk u3 88)::(74,TI.mk (.d0 true a2r) 24)::(85,TI.mk a2r 128)::tt
theorem c6N:ttN.all (a48 Tryz.prog)=true:=by kernel_rfl
def b3l (n:Int):Int:=IntKind.wrap .u8 (IntKind.wrap .u8 (1*2^min n.toNat (IntKind.bits .u8)) - 1)
def b8U (n:Int):Option f7×Int×Unit:=if G9 n 1 6=true then (some ((0,b3l n,()),List.replicate n.toNat i8,[],[],()),0,()) else (none,1,())
def c3W:p9:={ ps:=[.v e8],rs:=[.box true none u3,e8],pre:=λ _=>True,fn:=λ x=>b8U x.1,out:=λ _=>() }
noncomputable def c0H:Env:={ P:=Tryz.prog,tt:=ttN,C0:=[(40,b08)],res:=[Go.ResultVar.tmp 2,Go.ResultVar.tmp 3],rs:=[Ty.box true none u3,Ty.int IntKind.i64],ps:=[PK.v e8],y5:=[],nt:=15 }
theorem b5N:u6 c0H:=w9 c6N ⟨a3b,trivial⟩
theorem b5m:y7 c0H Tryz.f14:=⟨rfl,rfl⟩
theorem c6w (x0:Int):exec c0H 1000 [.code (d8 Tryz.prog 14)] (s5 c3W.ps ((x0,()))) =
  .f6 (True) (cond (!G9 x0 (1:Int) (6:Int)) (.ret ((none,(1:Int),()))) (.f6 ((0:Int)<=x0) (.f6 ((0:Int)<=x0/\x0<=x0/\x0<=(140737488355328:Int)/\x0*(↑(Ty.wb a2r):Int)<=(140737488355328:Int)) (.ret ((some (((0:Int),IntKind.wrap IntKind.u8 (IntKind.wrap IntKind.u8 ((1:Int)*(2:Int)^min (Int.toNat x0) (IntKind.bits IntKind.u8)) - (1:Int)),()),List.replicate (Int.toNat x0) (false,[],((0:Int),[],()),((0:Int),[],()),((0:Int),[],()),()),[],[],()),(0:Int),())))))):=by kernel_rfl
theorem a94:c3W.Valid Tryz.prog 14:=by
  refine p9.o5 b5N rfl rfl Tryz.func14 (c:=d8 Tryz.prog 14) rfl rfl b5m rfl ?_;rintro ⟨(n:Int),⟨⟩⟩ - -
  refine j5 (n:=1000) b5N b5m ?_;refine g9 (c6w n) ?_;have hw:Ty.wb a2r=128:=rfl;simp only [j6,Tree.holds,true_and,true_implies,decide_eq_true_eq,decide_eq_false_iff_not,Bool.not_eq_true',Bool.not_eq_false',Int.toNat_natCast,j7,List.length_set,List.length_cons,List.length_nil,hw];refine ⟨λ a=>?_,λ a=>?_⟩
  . show ((none,1,()):Option f7×Int×Unit)=b8U n;exact (if_neg (by rw [a]; simp)).symm
  . have ha:=S7.1 a;refine ⟨by omega,λ _=>⟨⟨by omega,by omega,by omega⟩,λ _=>?_⟩⟩;show (_:Option f7×Int×Unit)=b8U n;exact (if_pos a).symm
def K4 (p:Int) (l:List B9) (w:f7):Nat->f7
  | 0=>w
  | k+1=>J9 (K4 p l w k) 1 p (J6 (K4 p l w k)) (l.getD k (0,[],())).1 (l.getD k (0,[],())).2.1
theorem a3Y {w:f7} {k f t s:Int} {x:List UInt8}:(J9 w k f t s x).2.1=w.2.1/\(J9 w k f t s x).1=w.1/\(J9 w k f t s x).2.2.1=w.2.2.1:=by
  by_cases h:(Q9 (k,f,t,w.1.1,s,[0,0,0,0,0,0],x,())).2.1=0/\(w.2.2.2.1.length:Int)<60
  . rw [a6n h.1 h.2]; exact ⟨rfl,rfl,rfl⟩
  . rw [a3X h]; exact ⟨rfl,rfl,rfl⟩
theorem a5b {p:Int} {l:List B9} {w:f7}:∀ k,(K4 p l w k).2.1=w.2.1/\(K4 p l w k).1=w.1/\(K4 p l w k).2.2.1=w.2.2.1
  | 0=>⟨rfl,rfl,rfl⟩
  | k+1=>by
    obtain ⟨h1,h2,h3⟩:=a5b (p:=p) (l:=l) (w:=w) k;obtain ⟨g1,g2,g3⟩:=a3Y (w:=K4 p l w k) (k:=1) (f:=p) (t:=J6 (K4 p l w k)) (s:=(l.getD k (0,[],())).1) (x:=(l.getD k (0,[],())).2.1);exact ⟨g1.trans h1,g2.trans h2,g3.trans h3⟩
def c0d (w:f7) (p:Int):f7:=J9 w 3 p (J6 w) (w.2.1.getD p.toNat i8).2.2.2.1.1 []
def a2I (w:f7) (p:Int):List B9:=(a0L (Z1 w p) 4).1
def T8 (w:f7) (p:Int):f7×Int :=
  if K8 w p≠0 then (w,K8 w p) else (c0d (K4 p (a2I w p) w (a2I w p).length) p,0)
def b4R:p9:={ ps:=[.rw u3,.v e8],rs:=[e8],pre:=λ x=>List.length (α:=n9) (x.1:f7).2.1<=6,fn:=λ x=>((T8 x.1 x.2.1).2,()),out:=λ x=>((T8 x.1 x.2.1).1,()) }
noncomputable def a40:Env:={ P:=Tryz.prog,tt:=tt,C0:=[(41,b3m),(54,b06),(43,a7I),(44,b04)],res:=[Go.ResultVar.tmp 4],rs:=[Ty.int IntKind.i64],ps:=[PK.rw u3,PK.v e8],y5:=[(6,[(0,none),(1,none),(28,some (Ty.d0 true p7)),(29,none),(30,none)])],nt:=58 }
theorem a52:u6 a40:=w9 q9 ⟨a8b,b3a,a2l,a3a,trivial⟩
theorem a5W:y7 a40 Tryz.f26:=⟨rfl,rfl⟩
theorem c2Q (ai:Int) (af:Int) (ab:List n9) (ae:List (List UInt8)) (aa:List (List UInt8)) (x1:Int):exec a40 1000 [.code (d8 Tryz.prog 26)] (s5 b4R.ps ((((ai,af,()),ab,ae,aa,()),x1,()))) =
  .f6 (List.length ab<=6) (cond (decide (K8 ((ai,af,()),ab,ae,aa,()) x1≠(0:Int))) (.ret ((K8 ((ai,af,()),ab,ae,aa,()) x1,((ai,af,()),ab,ae,aa,()),()))) (.f6 ((0:Int)<=x1/\x1<(↑(List.length ab):Int)) (.f6 (True) (.ctL (f9 (d8 Tryz.prog 26) 6) (St.mk [(0,AV.ptr 2000000 []),(1,AV.val e8 x1),(28,AV.at_ 1000028 []),(29,AV.val e8 (↑(List.length (Prod.fst (a0L (Prod.fst (Prod.snd (Prod.snd (List.getD ab (Int.toNat x1) (false,[],((0:Int),[],()),((0:Int),[],()),((0:Int),[],()),()))))) (4:Int)))):Int)),(30,AV.val e8 (0:Int))] [(1000028,g8.own (Ty.d0 true p7) (Prod.fst (a0L (Prod.fst (Prod.snd (Prod.snd (List.getD ab (Int.toNat x1) (false,[],((0:Int),[],()),((0:Int),[],()),((0:Int),[],()),()))))) (4:Int)))),(2000000,g8.var u3 ((ai,af,()),ab,ae,aa,()))]))))):=by kernel_rfl
def a50 (v1:Int) (v29:Int) (v30:Int) (dS:List (Int×List UInt8×Unit)) (az:Int) (an:Int) (aj:List n9) (ak:List (List UInt8)) (ah:List (List UInt8)):St:=St.mk [(0,AV.ptr 2000000 []),(1,AV.val e8 v1),(28,AV.at_ 1000028 []),(29,AV.val e8 v29),(30,AV.val e8 v30)] [(1000028,g8.own (Ty.d0 true p7) dS),(2000000,g8.var u3 ((az,an,()),aj,ak,ah,()))]
theorem c0L (v1:Int) (v29:Int) (v30:Int) (dS:List (Int×List UInt8×Unit)) (az:Int) (an:Int) (aj:List n9) (ak:List (List UInt8)) (ah:List (List UInt8)):exec a40 1000 (.code (f9 (d8 Tryz.prog 26) 6).1::.inLoop (f9 (d8 Tryz.prog 26) 6).1::(f9 (d8 Tryz.prog 26) 6).2) (a50 v1 v29 v30 dS az an aj ak ah) =
  cond (decide (v30<v29)) (.f6 ((0:Int)<=v30/\v30<(↑(List.length dS):Int)) (.f6 (True) (.f6 (True) (.f6 (r7 IntKind.i64 (v30+(1:Int))) (.ctL (f9 (d8 Tryz.prog 26) 6) (St.mk [(0,AV.ptr 2000000 []),(1,AV.val e8 v1),(28,AV.at_ 1000028 []),(29,AV.val e8 v29),(30,AV.val e8 (v30+(1:Int)))] [(1000028,g8.own (Ty.d0 true p7) dS),(2000000,g8.var u3 (J9 ((az,an,()),aj,ak,ah,()) (1:Int) v1 (J6 ((az,an,()),aj,ak,ah,())) (Prod.fst (List.getD dS (Int.toNat v30) ((0:Int),[],()))) (Prod.fst (Prod.snd (List.getD dS (Int.toNat v30) ((0:Int),[],()))))))])))))) (.f6 (True) (.f6 ((0:Int)<=v1/\v1<(↑(List.length aj):Int)) (.f6 (True) (.ret (((0:Int),J9 ((az,an,()),aj,ak,ah,()) (3:Int) v1 (J6 ((az,an,()),aj,ak,ah,())) (Prod.fst (Prod.fst (Prod.snd (Prod.snd (Prod.snd (List.getD aj (Int.toNat v1) (false,[],((0:Int),[],()),((0:Int),[],()),((0:Int),[],()),()))))))) (Array.toList (ByteArray.data (ByteArray.mk #[]))),())))))):=by kernel_rfl
theorem b81 (s:a0D) (m:Int):(a0L s m).1.length<=16:=by
  unfold a0L;by_cases h:G3 s≠0
  . rw [if_pos h]; exact Nat.zero_le _
  . rw [if_neg h];exact Nat.le_trans a5c (a0e (Decidable.not_not.1 h)).2.1
attribute [local irreducible] T8 J9 a0L in
theorem b4Q:b4R.Valid Tryz.prog 26:=by
  refine p9.o5 a52 rfl rfl Tryz.func26 (c:=d8 Tryz.prog 26) rfl rfl a5W rfl ?_;rintro ⟨⟨⟨(v0:Int),(v1:Int),⟨⟩⟩,(al:List n9),(od:List (List UInt8)),(wy:List (List UInt8)),⟨⟩⟩,(p:Int),⟨⟩⟩ (hp:al.length<=6) -
  refine j5 (n:=1000) a52 a5W ?_;refine g9 (c2Q v0 v1 al od wy p) ?_;simp only [j6,Tree.holds,true_and,true_implies,decide_eq_true_eq,decide_eq_false_iff_not,Bool.not_eq_true',Bool.not_eq_false',Int.toNat_natCast,j7,List.length_set,List.length_cons,List.length_nil];have key:∀ r:f7×Int,T8 ((v0,v1,()),al,od,wy,()) p=r->(((r.2,r.1,()):Int×f7×Unit)=((T8 ((v0,v1,()),al,od,wy,()) p).2,(T8 ((v0,v1,()),al,od,wy,()) p).1,())):=by rintro r rfl; rfl
  have e1:=λ a=>(T8.eq_1 ((v0,v1,()),al,od,wy,()) p).trans (if_pos a);have e2:=λ a=>(T8.eq_1 ((v0,v1,()),al,od,wy,()) p).trans (if_neg a);refine ⟨hp,λ _=>⟨λ a=>key (_,_) (e1 a),λ a=>⟨a2Y a,λ _=>?_⟩⟩⟩;obtain ⟨w,hw⟩:∃ w:f7,w=((v0,v1,()),al,od,wy,()):=⟨_,rfl⟩;obtain ⟨l,hl⟩:∃ l,l=a2I ((v0,v1,()),al,od,wy,()) p:=⟨_,rfl⟩;have je:l.length<=16:=by rw [hl]; exact b81 _ _
  have e3:T8 ((v0,v1,()),al,od,wy,()) p=(c0d (K4 p l w l.length) p,0):=by rw [e2 a,hl,hw]
  suffices go:Go.Ex.Reach a40 Tryz.f26 ((0:Int),()) (c0d (K4 p l w l.length) p,()) (.code (f9 (d8 Tryz.prog 26) 6).1::.inLoop (f9 (d8 Tryz.prog 26) 6).1::(f9 (d8 Tryz.prog 26) 6).2) (a50 p (l.length:Int) ((0:Nat):Int) l (K4 p l w 0).1.1 (K4 p l w 0).1.2.1 (K4 p l w 0).2.1 (K4 p l w 0).2.2.1 (K4 p l w 0).2.2.2.1) by
    subst hw;subst hl;rw [e3];exact go
  refine Reach.K3 a52 a5W (λ i:Nat=>a50 p (l.length:Int) (i:Int) l (K4 p l w i).1.1 (K4 p l w i).1.2.1 (K4 p l w i).2.1 (K4 p l w i).2.2.1 (K4 p l w i).2.2.2.1) (λ i=>i<=l.length)
    (λ i=>l.length - i) 1000 (λ _=>⟨s7 rfl,s7 rfl⟩) ?_ 0 (Nat.zero_le _)
  rintro i k1 - ih;have k1:i<=l.length:=k1;refine g9 (c0L ..) ?_;have e4:((i:Nat):Int)+1=((i+1:Nat):Int):=by omega
  simp only [j6,Tree.holds,true_and,true_implies,decide_eq_true_eq,decide_eq_false_iff_not,Bool.not_eq_true',Bool.not_eq_false',Int.toNat_natCast,j7,List.length_set,List.length_cons,List.length_nil,e4];refine ⟨λ c=>⟨⟨by omega,by omega⟩,λ _=>⟨by omega,λ _=>?_⟩⟩,λ c=>⟨?_,λ _=>?_⟩⟩
  . exact ih (i+1) (by show i+1<=l.length; omega) (by show l.length - (i+1)<l.length - i; omega)
  . rw [(a5b i).1,hw]; exact a2Y a
  . obtain rfl:i=l.length:=by omega
    rfl
end Go.Proofs.YtijlnmgondibnaaGreatDoor
namespace Go.Proofs.YtijlnmgondibnaaGreatDoor
set_option maxRecDepth 100000
def a02:Nat->Nat->List UInt8
  | 0,_=>[]
  | f+1,u=>if u<10 then [UInt8.ofNat (48+u)] else a02 f (u / 10)++[UInt8.ofNat (48+u % 10)]
theorem b02:∀ (f u:Nat),u<10^f->1<=f->Lib.decDigits u=a02 f u
  | 0,_,_,h=>absurd h (by decide)
  | f+1,u,h,_=>by
    rw [Lib.decDigits,a02];by_cases c:u<10
    . rw [dif_pos c,if_pos c]
    . rw [dif_neg c,if_neg c];have hf:1<=f:=by
        rcases f with _|f
        . simp at h; omega
        . omega
      rw [b02 f (u / 10) (by rw [Nat.pow_succ] at h; exact Nat.div_lt_of_lt_mul (by omega)) hf]
def D0 (n:Int):List UInt8:=if n<0 then 45::a02 20 n.natAbs else a02 20 n.toNat
theorem c5F {n:Int} (h0:-9223372036854775808<=n) (h1:n<=9223372036854775807):Lib.itoa n=D0 n:=by
  have h9:(10:Nat)^20=100000000000000000000:=by decide
  unfold Lib.itoa D0;by_cases c:n<0
  . rw [if_pos c,if_pos c,b02 20 n.natAbs (by omega) (by decide)]
  . rw [if_neg c,if_neg c,b02 20 n.toNat (by omega) (by decide)]
theorem a6N {d:Nat} (h:d<10):(UInt8.ofNat (48+d)).toNat=48+d:=by
  rw [UInt8.toNat_ofNat']; omega
theorem a6T:∀ (f u:Nat),∀ b∈a02 f u,48<=b.toNat/\b.toNat<=57
  | 0,_,b,h=>by cases h
  | f+1,u,b,h=>by
    rw [a02] at h;split at h
    . rename_i c;rw [List.mem_singleton.1 h,a6N c]; omega
    . rcases List.mem_append.1 h with h|h
      . exact a6T f _ b h
      . rw [List.mem_singleton.1 h,a6N (Nat.mod_lt _ (by decide))];have:=Nat.mod_lt u (show 0<10 by decide); omega
theorem c5V {f u:Nat}:a02 (f+1) u≠[]:=by
  rw [a02]; split
  . exact List.cons_ne_nil _ _
  . simp
theorem a5G:∀ (f u k:Nat),u<10^k->1<=k->(a02 f u).length<=k
  | 0,_,_,_,_=>Nat.zero_le _
  | f+1,u,k,h,hk=>by
    rw [a02];by_cases c:u<10
    . rw [if_pos c]; exact hk
    . rw [if_neg c];rcases k with _|_|k
      . omega
      . simp at h; omega
      . have:=a5G f (u / 10) (k+1) (by rw [Nat.pow_succ] at h; exact Nat.div_lt_of_lt_mul (by omega)) (by omega);rw [List.length_append]; simp only [List.length_singleton]; omega
theorem a3F:∀ (l:List UInt8) (acc:Nat) (b:UInt8) (a d:Nat),Lib.decFrom acc l=some a->Lib.digitVal b=some d->Lib.decFrom acc (l++[b])=some (a*10+d)
  | [],acc,b,a,d,h,hd=>by
    simp only [Lib.decFrom,Option.some.injEq] at h;subst h;simp [Lib.decFrom,hd]
  | x::l,acc,b,a,d,h,hd=>by
    rw [List.cons_append];rw [Lib.decFrom] at h ⊢;cases e:Lib.digitVal x with
    | none=>rw [e] at h; cases h
    | some y=>rw [e] at h; exact a3F l _ b a d h hd
theorem a6O {d:Nat} (h:d<10):Lib.digitVal (UInt8.ofNat (48+d))=some d:=by
  unfold Lib.digitVal;rw [a6N h,if_pos (by omega)];congr 1; omega
theorem b2c:∀ (f u:Nat),u<10^f->1<=f->Lib.decFrom 0 (a02 f u)=some u
  | 0,_,_,h=>absurd h (by decide)
  | f+1,u,h,_=>by
    rw [a02];by_cases c:u<10
    . rw [if_pos c];have:=a3F [] 0 _ 0 u rfl (a6O c);simpa using this
    . rw [if_neg c];have hf:1<=f:=by
        rcases f with _|f
        . simp at h; omega
        . omega
      have h1:=b2c f (u / 10) (by rw [Nat.pow_succ] at h; exact Nat.div_lt_of_lt_mul (by omega)) hf;rw [a3F _ 0 _ _ _ h1 (a6O (Nat.mod_lt _ (by decide)))];congr 1; omega
theorem a8C {n:Nat}:D0 (n:Int)=a02 20 n:=by
  unfold D0; rw [if_neg (by omega)]; rfl
theorem a30 {n:Nat} (h:n<10^20):Lib.atoi (D0 (n:Int))=some (n:Int):=by
  rw [a8C];have h1:=b2c 20 n h (by decide);have h2:=a6T 20 n;have h3:a02 20 n≠[]:=c5V;generalize a02 20 n=l at *
  cases l with
  | nil=>exact absurd rfl h3
  | cons b r =>
    have hb:=h2 b List.mem_cons_self;have b1:(b == 45)=false:=by
      rw [beq_eq_false_iff_ne]; rintro rfl; exact absurd hb.1 (by decide)
    have b2:(b == 43)=false:=by
      rw [beq_eq_false_iff_ne]; rintro rfl; exact absurd hb.1 (by decide)
    simp [Lib.atoi,b1,b2,Lib.decNat,h1]
theorem b7r {n:Nat}:(58:UInt8)∉D0 (n:Int):=by
  rw [a8C];intro h;have:=a6T 20 n _ h;exact absurd this.2 (by decide)
theorem b34 {n:Nat} (k:Nat) (h:n<10^k) (hk:1<=k):(D0 (n:Int)).length<=k:=by
  rw [a8C]; exact a5G 20 n k h hk
theorem a1B {n:Int} (h0:-9223372036854775808<=n) (h1:n<=9223372036854775807):(D0 n).length<=20:=by
  have h9:(10:Nat)^19=10000000000000000000:=by decide
  unfold D0
  split
  . rw [List.length_cons];have:=a5G 20 n.natAbs 19 (by omega) (by decide);omega
  . have:=a5G 20 n.toNat 19 (by omega) (by decide);omega
def w7:List UInt8->List UInt8×List UInt8×Bool
  | []=>([],[],false)
  | b::l=>if b=58 then ([],l,true) else if (w7 l).2.2=true then (b::(w7 l).1,(w7 l).2.1,true) else (b::l,[],false)
theorem b7J:∀ s:List UInt8,Lib.cut s [58]=w7 s
  | []=>by decide
  | b::l=>by
    have ih:=b7J l;have hg:=Lib.index_ge l [58];by_cases e:b=58
    . subst e;rw [w7,if_pos rfl];simp [Lib.cut,Lib.index,List.isPrefixOf]
    . have hp:List.isPrefixOf [58] (b::l)=false:=by simp [List.isPrefixOf,Ne.symm e]
      have e1:Lib.index (b::l) [58]=if Lib.index l [58] == -1 then -1 else Lib.index l [58]+1:=by rw [Lib.index,hp]; simp
      rw [w7,if_neg e,<- ih];unfold Lib.cut;rw [e1];by_cases c:Lib.index l [58]=-1
      . rw [c]; simp
      . have c0:0<=Lib.index l [58]:=by omega
        obtain ⟨k,hk⟩:∃ k:Nat,Lib.index l [58]=k:=⟨_,(Int.toNat_of_nonneg c0).symm⟩;rw [hk];have c1:((k:Int) == -1)=false:=by rw [beq_eq_false_iff_ne]; omega
        rw [c1];have c2:(0:Int)<=k:=by omega
        have c3:(0:Int)<=(k:Int)+1:=by omega
        have c4:((k:Int)+1).toNat=k+1:=by omega
        have c5:k+1+1=k+1+1:=rfl;simp [c2,c3,c4]
theorem a3H (s:List UInt8):(w7 s).1.length<=s.length/\(w7 s).2.1.length<=s.length:=by
  induction s with
  | nil=>exact ⟨Nat.le_refl _,Nat.le_refl _⟩
  | cons b l ih =>
    rw [w7]
    split
    . exact ⟨Nat.zero_le _,by simp⟩
    . split
      . simp only [List.length_cons]; omega
      . simp
theorem b03:∀ {a b:List UInt8},(58:UInt8)∉a->w7 (a++58::b)=(a,b,true)
  | [],b,_=>by rw [List.nil_append,w7,if_pos rfl]
  | x::a,b,h=>by
    have hx:x≠58:=λ e=>h (by rw [e]; exact List.mem_cons_self);have ih:=b03 (a:=a) (b:=b) (λ e=>h (List.mem_cons_of_mem _ e));rw [List.cons_append,w7,if_neg hx,ih,if_pos rfl]
def H2 (p k:Int) (t:List UInt8):List UInt8:=D0 p++[58]++D0 k++[58]++t
theorem a4b (p k:Nat) (t:List UInt8):w7 (H2 p k t)=(D0 p,D0 k++[58]++t,true):=by
  unfold H2;rw [show D0 (p:Int)++[58]++D0 (k:Int)++[58]++t=D0 (p:Int)++58::(D0 (k:Int)++[58]++t) by simp];exact b03 b7r
theorem a5K (k:Nat) (t:List UInt8):w7 (D0 k++[58]++t)=(D0 k,t,true):=by
  rw [show D0 (k:Int)++[58]++t=D0 (k:Int)++58::t by simp];exact b03 b7r
end Go.Proofs.YtijlnmgondibnaaGreatDoor
namespace Go.Proofs.YtijlnmgondibnaaGreatDoor
open Go.Ex
set_option maxRecDepth 100000
def ub (n:Int):UInt8:=UInt8.ofNat (n % 256).toNat
def tb (n:Int):List UInt8:=[ub n,ub (n / 256),ub (n / 65536)]
theorem c2V (x:UInt8):ub (x.toNat:Int)=x:=by
  have:=x.toNat_lt;apply UInt8.toNat_inj.1;rw [ub,a44]; omega
theorem b3f (n:Int):((ub n).toNat:Int)=n % 256:=by rw [ub,a44]; omega
theorem a2v (x y z:UInt8):tb ((x.toNat:Int)+(y.toNat:Int)*256+(z.toNat:Int)*65536)=[x,y,z]:=by
  have h1:=x.toNat_lt;have h2:=y.toNat_lt;have h3:=z.toNat_lt;rw [tb,List.cons.injEq,List.cons.injEq,List.cons.injEq];refine ⟨?_,?_,?_,rfl⟩<;>(apply UInt8.toNat_inj.1; rw [ub,a44]; omega)
theorem a8l (l:List Int):a2n (l.flatMap R5)=l.flatMap tb:=by
  induction l with
  | nil=>rfl
  | cons x l ih=>rw [List.flatMap_cons,a4c,ih,List.flatMap_cons]; rfl
theorem a8X (n:y4):a0X n=[ub n.1,ub n.2.1,ub n.2.2.1]++(W8 n).flatMap tb++n.2.2.2.2.2.2.1:=by
  rw [a0X,a5N,a4c,a4c,a8l,a5L]; rfl
theorem F2 {k:Nat} {s:List UInt8} (h:k+1<=s.length):∃ b t,s=b::t/\k<=t.length:=by
  match s,h with
  | b::t,h=>exact ⟨b,t,rfl,by simpa using h⟩
theorem b95 {s:List UInt8} (h:27<=s.length):a0X (parse s)=s:=by
  obtain ⟨b0,t0,rfl,h0⟩:=F2 (k:=26) h;obtain ⟨b1,t1,rfl,h1⟩:=F2 (k:=25) h0;obtain ⟨b2,t2,rfl,h2⟩:=F2 (k:=24) h1;obtain ⟨b3,t3,rfl,h3⟩:=F2 (k:=23) h2;obtain ⟨b4,t4,rfl,h4⟩:=F2 (k:=22) h3;obtain ⟨b5,t5,rfl,h5⟩:=F2 (k:=21) h4;obtain ⟨b6,t6,rfl,h6⟩:=F2 (k:=20) h5;obtain ⟨b7,t7,rfl,h7⟩:=F2 (k:=19) h6;obtain ⟨b8,t8,rfl,h8⟩:=F2 (k:=18) h7;obtain ⟨b9,t9,rfl,h9⟩:=F2 (k:=17) h8;obtain ⟨b10,t10,rfl,im⟩:=F2 (k:=16) h9;obtain ⟨b11,t11,rfl,sI⟩:=F2 (k:=15) im;obtain ⟨b12,t12,rfl,sH⟩:=F2 (k:=14) sI;obtain ⟨b13,t13,rfl,sG⟩:=F2 (k:=13) sH;obtain ⟨b14,t14,rfl,sF⟩:=F2 (k:=12) sG;obtain ⟨b15,t15,rfl,sE⟩:=F2 (k:=11) sF;obtain ⟨b16,t16,rfl,sD⟩:=F2 (k:=10) sE;obtain ⟨b17,t17,rfl,sC⟩:=F2 (k:=9) sD;obtain ⟨b18,t18,rfl,sB⟩:=F2 (k:=8) sC;obtain ⟨b19,t19,rfl,sA⟩:=F2 (k:=7) sB;obtain ⟨b20,t20,rfl,sw⟩:=F2 (k:=6) sA;obtain ⟨b21,t21,rfl,sv⟩:=F2 (k:=5) sw;obtain ⟨b22,t22,rfl,su⟩:=F2 (k:=4) sv;obtain ⟨b23,t23,rfl,ss⟩:=F2 (k:=3) su;obtain ⟨b24,t24,rfl,sr⟩:=F2 (k:=2) ss;obtain ⟨b25,t25,rfl,sq⟩:=F2 (k:=1) sr;obtain ⟨b26,t,rfl,sU⟩:=F2 (k:=0) sq;rw [a8X];show [ub (b0.toNat:Int),ub (b1.toNat:Int),ub (b2.toNat:Int)]++(tb ((b3.toNat:Int)+(b4.toNat:Int)*256+(b5.toNat:Int)*65536)++(tb ((b6.toNat:Int)+(b7.toNat:Int)*256+(b8.toNat:Int)*65536)++(tb ((b9.toNat:Int)+(b10.toNat:Int)*256+(b11.toNat:Int)*65536)++(tb ((b12.toNat:Int)+(b13.toNat:Int)*256+(b14.toNat:Int)*65536)++(tb ((b15.toNat:Int)+(b16.toNat:Int)*256+(b17.toNat:Int)*65536)++(tb ((b18.toNat:Int)+(b19.toNat:Int)*256+(b20.toNat:Int)*65536)++(tb ((b21.toNat:Int)+(b22.toNat:Int)*256+(b23.toNat:Int)*65536)++(tb ((b24.toNat:Int)+(b25.toNat:Int)*256+(b26.toNat:Int)*65536)++[]))))))))++t=_;rw [a2v,a2v,a2v,a2v,a2v,a2v,a2v,a2v,c2V,c2V,c2V];rfl
theorem b8Q:∀ {n:y4},b49 n->n.2.2.2.2.2.1.length=6->parse (a0X n)=n
  | (a,b,c,d,e,[v0,v1,v2,v3,v4,v5],t,()),h,_=>by
    have num:∀ x:Int,0<=x/\x<=16777215->((ub x).toNat:Int)+((ub (x / 256)).toNat:Int)*256+((ub (x / 65536)).toNat:Int)*65536=x:=by
      intro x hx; rw [b3f,b3f,b3f]; omega
    have one:∀ x:Int,0<=x/\x<=255->((ub x).toNat:Int)=x:=by intro x hx; rw [b3f]; omega
    rw [a8X];show (((ub a).toNat:Int),((ub b).toNat:Int),((ub c).toNat:Int),((ub d).toNat:Int)+((ub (d / 256)).toNat:Int)*256+((ub (d / 65536)).toNat:Int)*65536,((ub e).toNat:Int)+((ub (e / 256)).toNat:Int)*256+((ub (e / 65536)).toNat:Int)*65536,
      [((ub v0).toNat:Int)+((ub (v0 / 256)).toNat:Int)*256+((ub (v0 / 65536)).toNat:Int)*65536,((ub v1).toNat:Int)+((ub (v1 / 256)).toNat:Int)*256+((ub (v1 / 65536)).toNat:Int)*65536,((ub v2).toNat:Int)+((ub (v2 / 256)).toNat:Int)*256+((ub (v2 / 65536)).toNat:Int)*65536,
       ((ub v3).toNat:Int)+((ub (v3 / 256)).toNat:Int)*256+((ub (v3 / 65536)).toNat:Int)*65536,((ub v4).toNat:Int)+((ub (v4 / 256)).toNat:Int)*256+((ub (v4 / 65536)).toNat:Int)*65536,((ub v5).toNat:Int)+((ub (v5 / 256)).toNat:Int)*256+((ub (v5 / 65536)).toNat:Int)*65536],t,())=_
    have hv:∀ x∈[v0,v1,v2,v3,v4,v5],0<=x/\x<=16777215:=h.at_;have hf:0<=b/\b<=5:=h.from_;have ht:0<=c/\c<=5:=h.to;rw [one a h.kind,one b (by omega),one c (by omega),num d h.view,num e h.seq,num v0 (hv _ (by simp)),num v1 (hv _ (by simp)),num v2 (hv _ (by simp)),num v3 (hv _ (by simp)),num v4 (hv _ (by simp)),num v5 (hv _ (by simp))]
theorem c39 {n:y4} (h:n.2.2.2.2.2.1.length=6):(a0X n).length=27+n.2.2.2.2.2.2.1.length:=by
  have:∀ l:List Int,(l.flatMap tb).length=3*l.length:=λ l=>by rw [<- a8l,a2n,List.length_map,b1z]
  rw [a8X,List.length_append,List.length_append,this];show 3+3*(n.2.2.2.2.2.1.length+1+1)+_=_;omega
theorem c3k {n:y4} (aP:b49 n) (h:n.2.2.2.2.2.1.length=6):31<=(Y4 n).length/\(Y4 n).length<=231:=by
  rw [Y4,List.length_append,c39 h];have:=aP.text;show _/\_+4<=231;exact ⟨by show 31<=_+4; omega,by omega⟩
theorem c1l {n:y4} (hc:G2 n=0) (h:n.2.2.2.2.2.1.length=6):u7 (Y4 n)=(n,0,()):=by
  have aP:=a6h hc;obtain ⟨h1,h2⟩:=c3k aP h;have e4:(Y4 n).length - 4=(a0X n).length:=by rw [Y4,List.length_append]; show (a0X n).length+4 - 4=_; omega
  have e5:(Y4 n).take ((Y4 n).length - 4)=a0X n:=by rw [e4,Y4,List.take_left']; rfl
  have e6:(Y4 n).drop ((Y4 n).length - 4)=le4 (a1i (a0X n)):=by rw [e4,Y4,List.drop_left']; rfl
  rw [u7,if_neg (by omega),if_neg (by omega),e5,e6,if_neg (λ c=>c rfl),b8Q aP h,if_neg (λ c=>c hc)]
theorem c5q {s:List UInt8} (h:(u7 s).2.1=0):G2 (u7 s).1=0/\Y4 (u7 s).1=s:=by
  unfold u7 at h ⊢;split at h
  . cases h
  split at h
  . cases h
  split at h
  . cases h
  split at h
  . rename_i c; exact absurd h c
  . rename_i c1 c2 c3 c4;rw [if_neg c1,if_neg c2,if_neg c3,if_neg c4];have hl:27<=(s.take (s.length - 4)).length:=by rw [List.length_take]; omega
    refine ⟨Decidable.not_not.1 c4,?_⟩;show a0X (parse (s.take (s.length - 4)))++le4 (a1i (a0X (parse (s.take (s.length - 4)))))=s;rw [b95 hl,Decidable.not_not.1 c3,List.take_append_drop]
theorem c3l {n:y4} (h:G2 n=0):Q9 n=(Y4 n,0,()):=by rw [Q9,if_neg (λ c=>c h)]
theorem c3m {n:y4} (h:G2 n≠0):Q9 n=([],G2 n,()):=by rw [Q9,if_pos h]
def M0 (w:f7) (p:Int):n9:=w.2.1.getD p.toNat i8
def a1p (w:f7) (p:Int) (x:n9):f7:=(w.1,w.2.1.set p.toNat x,w.2.2)
def a7A (w:f7) (x:List UInt8):f7:=(w.1,w.2.1,w.2.2.1++[x],w.2.2.2)
def F3 (x:List UInt8) (w:f7):Nat->f7
  | 0=>w
  | p+1=>if r9 (F3 x w p) p=true then J9 (F3 x w p) 2 (J6 (F3 x w p)) p (((F3 x w p).2.2.1.length:Int) - 1) x else F3 x w p
def H4 (f first:Int) (l:List (List UInt8)) (w:f7):Nat->f7
  | 0=>w
  | i+1=>F3 (H2 f (first+i) (l.getD i [])) (a7A (H4 f first l w i) (H2 f (first+i) (l.getD i []))) (H4 f first l w i).2.1.length
def W7 (w:f7) (n:y4):ToD×List (List UInt8)×Int×Unit:=C3 (M0 w n.2.1).2.2.2.2.1 (n.2.2.2.2.1,n.2.2.2.2.2.2.1,())
def a2x (x:n9) (r:ToD):n9:=(x.1,x.2.1,x.2.2.1,x.2.2.2.1,r,())
def V4 (w:f7) (n:y4):f7 :=
  if (W7 w n).2.2.1≠0 then w else
  H4 n.2.1 (M0 w n.2.1).2.2.2.2.1.1 (W7 w n).2.1 (a1p w n.2.1 (a2x (M0 w n.2.1) (W7 w n).1)) (W7 w n).2.1.length
def who (t:List UInt8):Int:=(Lib.atoi (w7 t).1).getD 0
def nth (t:List UInt8):Int:=(Lib.atoi (w7 (w7 t).2.1).1).getD 0
def a4f (t:List UInt8):List UInt8:=(w7 (w7 t).2.1).2.1
def a0V (q:Int) (x:n9) (t:List UInt8):n9 :=
  if who t=q/\(N6 x.2.2.1 (nth t+1)).2.1=0 then (x.1,x.2.1++[(who t,a4f t,())],(N6 x.2.2.1 (nth t+1)).1,x.2.2.2) else (x.1,x.2.1++[(who t,a4f t,())],x.2.2)
def I7 (q:Int) (x:n9) (l:List (List UInt8)):Nat->n9
  | 0=>x
  | i+1=>a0V q (I7 q x l i) (l.getD i [])
def N3 (w:f7) (n:y4):ToD×List (List UInt8)×Int×Unit:=C3 (M0 w n.2.2.1).2.2.2.1 (n.2.2.2.2.1,n.2.2.2.2.2.2.1,())
def a9w (x:n9) (r:ToD):n9:=(x.1,x.2.1,x.2.2.1,r,x.2.2.2.2)
def a0b (w:f7) (n:y4):f7 :=
  if (N3 w n).2.2.1≠0 then w else
  a1p w n.2.2.1 (I7 n.2.2.1 (a9w (M0 w n.2.2.1) (N3 w n).1) (N3 w n).2.1 (N3 w n).2.1.length)
def E2 (w:f7) (n:y4):Nat->f7
  | 0=>w
  | j+1=>if n.2.2.2.2.1+j<(E2 w n j).2.2.1.length then J9 (E2 w n j) 2 (J6 (E2 w n j)) n.2.1 (n.2.2.2.2.1+j) ((E2 w n j).2.2.1.getD (n.2.2.2.2.1+j).toNat []) else E2 w n j
def E8 (w:f7) (n:y4):f7 :=
  if known w n.2.1≠0 then w else if n.1=1 then V4 w n else if n.1=3 then E2 w n 4 else if n.1=2 then a0b w n else w
def a5E (w:f7) (k:Int):f7:=(w.1,w.2.1,w.2.2.1,w.2.2.2.1.take k.toNat++w.2.2.2.1.drop (k+1).toNat,())
def b3o (w:f7) (k:Nat):f7:=(w.1,w.2.1,w.2.2.1,w.2.2.2.1++[w.2.2.2.1.getD k []],())
def a04 (w:f7) (bB:Int) (s:List UInt8):f7 :=
  if bB=1/\(u7 s).2.1=0/\(u7 s).1.2.2.2.1=w.1.1/\r9 w (u7 s).1.2.2.1=true then E8 w (u7 s).1 else w
def H6 (w:f7) (k bB:Int):f7×Int :=
  if G9 bB 1 3=false then (w,1) else if G9 k 0 ((w.2.2.2.1.length:Int) - 1)=false then (w,6) else if bB=3/\(w.2.2.2.1.length:Int)=60 then (w,8)
  else if bB=3 then (b3o w k.toNat,0) else (a04 (a5E w k) bB (w.2.2.2.1.getD k.toNat []),0)
theorem b3W:∀ {l:List s4} {n:Int},∀ t∈(C8 l n).2.2,∃ q∈l,t=q.2.1
  | [],n,t,h=>by cases h
  | p::l,n,t,h=>by
    rw [C8] at h;split at h
    . rcases List.mem_cons.1 h with rfl|h
      . exact ⟨p,List.mem_cons_self,rfl⟩
      . obtain ⟨q,h1,h2⟩:=b3W t h;exact ⟨q,List.mem_cons_of_mem _ h1,h2⟩
    . cases h
theorem a7Y {s:ToD} {p:s4} (h:(C3 s p).2.2.1=0):b45 s.1 s.2.1/\(0<=p.1/\p.1<=16777214)/\D5 p.2.1=false /\
    ((C3 s p=(s,[],0,())/\(p.1<s.1\/s.1+16<=p.1\/W9 p.1 s.2.1=true))\/((s.1<p.1/\p.1<s.1+16)/\W9 p.1 s.2.1=false/\C3 s p=((s.1,a4m p s.2.1,()),[],0,())) \/
      (p.1=s.1/\C3 s p=(((C8 s.2.1 (s.1+1)).1,(C8 s.2.1 (s.1+1)).2.1,()),p.2.1::(C8 s.2.1 (s.1+1)).2.2,0,()))):=by
  obtain ⟨r,l,⟨⟩⟩:=s;by_cases c1:toE (r,l,())≠0
  . rw [C3,if_pos c1] at h; exact absurd h c1
  have aP:=b0E.1 (Decidable.not_not.1 c1);by_cases c2:W4 p.1 0 16777214=false
  . rw [C3,if_neg c1,if_pos c2] at h; cases h
  have h1:=Y9.1 (Bool.not_eq_false _▸c2);by_cases c3:D5 p.2.1=true
  . rw [C3,if_neg c1,if_neg c2,if_pos c3] at h; cases h
  have h2:D5 p.2.1=false:=by simpa using c3
  refine ⟨aP,h1,h2,?_⟩;rw [c3u aP h1 h2];by_cases c4:p.1<r\/r+16<=p.1\/W9 p.1 l=true
  . rw [if_pos c4]; exact .inl ⟨rfl,c4⟩
  rw [if_neg c4];by_cases c5:r<p.1
  . rw [if_pos c5];refine .inr (.inl ⟨⟨c5,?_⟩,?_,rfl⟩)
    . exact Int.not_le.1 (λ e=>c4 (.inr (.inl e)))
    . cases hk:W9 p.1 l with
      | false=>rfl
      | true=>exact absurd (.inr (.inr hk)) c4
  . rw [if_neg c5];refine .inr (.inr ⟨?_,rfl⟩);have:¬ p.1<r:=λ e=>c4 (.inl e);show p.1=r;omega
theorem a0K {s:ToD} {p:s4} (h:(C3 s p).2.2.1=0) :
    (∀ t∈(C3 s p).2.1,(t=p.2.1\/∃ q∈s.2.1,t=q.2.1)/\D5 t=false)/\(∀ q∈(C3 s p).1.2.1,q=p\/q∈s.2.1)/\(C3 s p).2.1.length<=16/\(0<=s.1/\s.1<=16777215) /\
      (C3 s p).1.1=s.1+(C3 s p).2.1.length/\(C3 s p).1.2.1.length+(C3 s p).2.1.length<=s.2.1.length+1:=by
  obtain ⟨aP,h1,h2,hc⟩:=a7Y h;have kD:=aP.rg;have hb:=aP.b;rcases hc with ⟨e,-⟩|⟨-,-,e⟩|⟨hp,e⟩
  . rw [e];exact ⟨λ t ht=>(by cases ht),λ q hq=>.inr hq,Nat.zero_le _,kD,by show s.1=s.1+((0:Nat):Int); omega,by show s.2.1.length+0<=_; omega⟩
  . rw [e];refine ⟨λ t ht=>(by cases ht),λ q hq=>(c3C.1 hq),Nat.zero_le _,kD,by show s.1=s.1+((0:Nat):Int); omega,?_⟩;show (a4m p s.2.1).length+0<=_;rw [c3D]; omega
  . rw [e];obtain ⟨a1,a2,a3,a4⟩:=b7m (l:=s.2.1) (n:=s.1+1) (by rw [show s.1+1 - 1=s.1 by omega]; exact aP.up);refine ⟨λ t ht=>?_,λ q hq=>.inr (a4 q hq),?_,kD,?_,?_⟩
    . rcases List.mem_cons.1 ht with rfl|ht
      . exact ⟨.inl rfl,h2⟩
      . obtain ⟨q,g1,g2⟩:=b3W t ht;exact ⟨.inr ⟨q,g1,g2⟩,by rw [g2]; exact (hb q g1).2⟩
    . show (p.2.1::(C8 s.2.1 (s.1+1)).2.2).length<=16;rw [List.length_cons];cases hl:s.2.1 with
      | nil=>simp [C8]
      | cons x m =>
        have:=b3L aP.up (λ x hx=>(hb x hx).1) (by rw [hl]; simp);rw [<- hl]; omega
    . show (C8 s.2.1 (s.1+1)).1=s.1+((p.2.1::(C8 s.2.1 (s.1+1)).2.2).length:Int);rw [List.length_cons,a2]; omega
    . show (C8 s.2.1 (s.1+1)).2.1.length+(p.2.1::(C8 s.2.1 (s.1+1)).2.2).length<=_;rw [List.length_cons]; omega
theorem a6C {t:List UInt8} (h:D5 t=false):t.length<=200:=by
  simp only [D5,decide_eq_false_iff_not] at h; omega
def okT (t:List UInt8):Prop:=∃ p k:Nat,∃ s,p<=5/\k<=16777300/\t=H2 p k s
theorem c2S {p k:Nat} {s:List UInt8} (h:p<=5):who (H2 p k s)=p:=by
  unfold who;rw [a4b];show (Lib.atoi (D0 p)).getD 0=p;rw [a30 (by omega)]; rfl
theorem b35 {p k:Nat} {s:List UInt8} (h:k<=16777300):nth (H2 p k s)=k:=by
  unfold nth;rw [a4b];show (Lib.atoi (w7 (D0 k++[58]++s)).1).getD 0=k;rw [a5K];show (Lib.atoi (D0 k)).getD 0=k;rw [a30 (by omega)]; rfl
theorem c0X {p k:Nat} {s:List UInt8}:a4f (H2 p k s)=s:=by
  unfold a4f;rw [a4b];show (w7 (D0 k++[58]++s)).2.1=s;rw [a5K]
theorem c5B {t:List UInt8} (h:okT t):((w7 t).1.length<=18/\(Lib.atoi (w7 t).1).isSome=true)/\((w7 (w7 t).2.1).1.length<=18/\(Lib.atoi (w7 (w7 t).2.1).1).isSome=true)/\0<=nth t/\nth t<=16777300:=by
  obtain ⟨p,k,s,h1,h2,rfl⟩:=h;rw [b35 h2];rw [a4b];show ((D0 p).length<=18/\(Lib.atoi (D0 p)).isSome=true)/\((w7 (D0 k++[58]++s)).1.length<=18/\(Lib.atoi (w7 (D0 k++[58]++s)).1).isSome=true)/\_;rw [a5K,a30 (by omega)];refine ⟨⟨b34 18 (by omega) (by decide),rfl⟩,⟨b34 18 (by omega) (by decide),?_⟩,by omega,by omega⟩;show (Lib.atoi (D0 k)).isSome=true;rw [a30 (by omega)]; rfl
def G7 (w:f7):Nat->List B9
  | 0=>[]
  | k+1=>if r9 w k=true/\(G7 w k).length<(w.2.1.getD k i8).2.1.length then (w.2.1.getD k i8).2.1 else G7 w k
theorem b83 {w:f7}:∀ k,(G7 w k).length<=(G7 w (k+1)).length:=λ k=>by
  rw [G7]; split
  . rename_i h; exact Nat.le_of_lt h.2
  . exact Nat.le_refl _
theorem a5p {w:f7} {i:Nat} (ha:r9 w i=true):∀ {k:Nat},i<k->(w.2.1.getD i i8).2.1.length<=(G7 w k).length
  | 0,h=>by omega
  | k+1,h=>by
    by_cases e:i=k
    . subst e;rw [G7]
      split
      . exact Nat.le_refl _
      . rename_i h1;exact Nat.le_of_not_lt (λ h2=>h1 ⟨ha,h2⟩)
    . exact Nat.le_trans (a5p ha (by omega)) (b83 k)
theorem b39 {w:f7} {b:Nat} (h:∀ i,(w.2.1.getD i i8).2.1.length<=b):∀ k,(G7 w k).length<=b
  | 0=>Nat.zero_le _
  | k+1=>by
    rw [G7]; split
    . exact h k
    . exact b39 h k
def countP (p:Int):List B9->Nat
  | []=>0
  | s::l=>(if s.1=p then 1 else 0)+countP p l
theorem a92 {p:Int}:∀ {l m:List B9},countP p (l++m)=countP p l+countP p m
  | [],m=>by simp [countP]
  | s::l,m=>by rw [List.cons_append,countP,countP,a92]; omega
theorem countP_le {p:Int}:∀ {l:List B9},countP p l<=l.length
  | []=>Nat.le_refl _
  | s::l=>by
    have:=countP_le (p:=p) (l:=l);rw [countP,List.length_cons]; split<;>omega
theorem a8d {p:Int} {l:List B9} {i:Nat} (h:i<l.length):countP p (l.take (i+1))=countP p (l.take i)+if (l.getD i (0,[],())).1=p then 1 else 0:=by
  rw [a22 h (0,[],()),a92];simp [countP]
def Z2 (w:f7) (L:List B9) (i:Nat) (x:n9):n9 :=
  if r9 w i=true then (x.1,L,(0,x.2.2.1.2.1.drop (min (countP i (L.drop x.2.1.length)) x.2.2.1.2.1.length),()),(0,[],()),(0,[],()),()) else (x.1,x.2.1,x.2.2.1,x.2.2.2.1,(0,[],()),())
def G1 (w:f7):f7:=((S5 w).1,w.2.1.mapIdx (Z2 w (G7 w w.2.1.length)),[],w.2.2.2.1,())
def P8 (w:f7):f7×Int:=if (S5 w).2.1≠0 then (w,(S5 w).2.1) else (G1 w,0)
theorem b43 {v:a0Y} {al al':List n9} {r r':List (List UInt8)×List (List UInt8)×Unit} {p:Int} (hl:al'.length=al.length) (hf:(al'.getD p.toNat i8).1=(al.getD p.toNat i8).1):r9 (v,al',r') p=r9 (v,al,r) p:=by
  unfold r9;simp only;rw [hl,hf]
abbrev toM (x:n9):J2:=(x.1,(1,x.2.1,[]),x.2.2)
abbrev rdP (x:J2):n9:=(x.1,x.2.1.2.1,x.2.2)
abbrev dM:J2:=(false,(1,[],[]),(0,[],()),(0,[],()),(0,[],()),())
theorem b3T {al:List J2} {i:Nat}:(al.map rdP).getD i i8=rdP (al.getD i dM):=by
  rw [List.getD_eq_getElem?_getD,List.getElem?_map,List.getD_eq_getElem?_getD];cases al[i]?<;>rfl
theorem a8w {al:List n9} {i:Nat}:(al.map toM).getD i dM=toM (al.getD i i8):=by
  rw [List.getD_eq_getElem?_getD,List.getElem?_map,List.getD_eq_getElem?_getD];cases al[i]?<;>rfl
theorem c3G {α:Type} {d:α} {l m:List α} (h:l.length=m.length) (h2:∀ i,i<l.length->l.getD i d=m.getD i d):l=m:=by
  apply List.ext_getElem h;intro i h3 h4;have:=h2 i h3;rw [List.getD_eq_getElem?_getD,List.getD_eq_getElem?_getD,List.getElem?_eq_getElem h3,List.getElem?_eq_getElem h4] at this;exact this
theorem T1 {α:Type} {d:α} {l:List α} {i j:Nat} {x:α}:(l.set i x).getD j d=if i=j/\i<l.length then x else l.getD j d:=by
  rw [List.getD_eq_getElem?_getD,List.getElem?_set,List.getD_eq_getElem?_getD];by_cases h:i=j
  . subst h;by_cases h2:i<l.length
    . simp [h2]
    . simp [h2]
  . simp [h]
structure a2V (w:f7) (al:List J2):Prop where
  len:al.length=w.2.1.length
  rd:∀ i:Nat,rdP (al.getD i dM)=w.2.1.getD i i8
  same:∀ i:Nat,r9 w i=false->al.getD i dM=toM (w.2.1.getD i i8)
theorem a2V.start (w:f7):a2V w (w.2.1.map toM):=⟨List.length_map ..,λ i=>by rw [a8w],λ i _=>by rw [a8w]⟩
theorem a2V.a1f {w:f7} {al:List J2} (h:a2V w al) {k n:Nat} (ha:r9 w k=true):a2V w (al.set k ((al.getD k dM).1,(n,(al.getD k dM).2.1.2.1,[]),(al.getD k dM).2.2)):=by
  refine ⟨by rw [List.length_set]; exact h.len,λ i=>?_,λ i hi=>?_⟩
  . rw [T1]
    split
    . rename_i e;rw [<- e.1,<- h.rd k]
    . exact h.rd i
  . rw [T1,if_neg]
    . exact h.same i hi
    . rintro ⟨rfl,-⟩;rw [ha] at hi; cases hi
structure a1T (w:f7) (L:List B9) (k:Nat) (al:List J2):Prop where
  len:al.length=w.2.1.length
  done:∀ i:Nat,i<k->i<al.length->al.getD i dM=toM (Z2 w L i (w.2.1.getD i i8))
  rd:∀ i:Nat,k<=i->rdP (al.getD i dM)=w.2.1.getD i i8
  same:∀ i:Nat,k<=i->r9 w i=false->al.getD i dM=toM (w.2.1.getD i i8)
theorem a2V.next {w:f7} {al:List J2} (h:a2V w al) (L:List B9):a1T w L 0 al:=⟨h.len,λ i hi=>by omega,λ i _=>h.rd i,λ i _=>h.same i⟩
theorem c2b {w:f7} {L:List B9} {i:Nat} {x:n9}:(Z2 w L i x).1=x.1:=by unfold Z2; split<;>rfl
theorem a1T.act {w:f7} {L:List B9} {k:Nat} {al:List J2} (h:a1T w L k al) (i:Nat):((al.map rdP).getD i i8).1=(w.2.1.getD i i8).1:=by
  rw [b3T];by_cases hk:k<=i
  . rw [h.rd i hk]
  . by_cases hi:i<al.length
    . rw [h.done i (by omega) hi];exact c2b
    . have h1:al.getD i dM=dM:=by rw [List.getD_eq_getElem?_getD,List.getElem?_eq_none (by omega)]; rfl
      have h2:w.2.1.getD i i8=i8:=by rw [List.getD_eq_getElem?_getD,List.getElem?_eq_none (by have:=h.len; omega)]; rfl
      rw [h1,h2]; rfl
theorem a1T.step {w:f7} {L:List B9} {k:Nat} {al:List J2} (h:a1T w L k al):a1T w L (k+1) (al.set k (toM (Z2 w L k (w.2.1.getD k i8)))):=by
  refine ⟨by rw [List.length_set]; exact h.len,λ i hi hl=>?_,λ i hi=>?_,λ i hi=>?_⟩
  . rw [List.length_set] at hl;rw [T1];by_cases e:k=i
    . rw [if_pos ⟨e,by omega⟩,e]
    . rw [if_neg (λ h=>e h.1)];exact h.done i (by omega) hl
  . rw [T1,if_neg (by omega)]; exact h.rd i (by omega)
  . rw [T1,if_neg (by omega)]; exact h.same i (by omega)
theorem a1T.fin {w:f7} {L:List B9} {al:List J2} (h:a1T w L w.2.1.length al):al=(w.2.1.mapIdx (Z2 w L)).map toM:=by
  refine c3G (d:=dM) (by rw [List.length_map,List.length_mapIdx]; exact h.len) (λ i hi=>?_);rw [h.done i (by have:=h.len; omega) hi,a8w];congr 1;rw [List.getD_eq_getElem?_getD (l:=List.mapIdx _ _),List.getElem?_mapIdx,List.getD_eq_getElem?_getD,List.getElem?_eq_getElem (by have:=h.len; omega)];rfl
abbrev C5:=List UInt8
abbrev T4:=Nat×C5
def y6 (p:Nat):List T4->List C5
  | []=>[]
  | x::l=>if x.1=p then x.2::y6 p l else y6 p l
theorem a1r {p:Nat}:∀ {l m:List T4},y6 p (l++m)=y6 p l++y6 p m
  | [],_=>rfl
  | x::l,m=>by
    rw [List.cons_append,y6,y6,a1r]
    split<;>rfl
theorem c5D {p q:Nat} {l:List C5}:y6 p (l.map λ t=>(q,t))=if q=p then l else []:=by
  induction l with
  | nil=>split<;>rfl
  | cons t l ih =>
    rw [List.map_cons,y6,ih];by_cases h:q=p
    . rw [if_pos h,if_pos h,if_pos h]
    . rw [if_neg h,if_neg h,if_neg h]
theorem a1d {p:Nat} {Q:List T4} {i:Nat}:y6 p (Q.take i) <+: y6 p Q:=by
  have h:y6 p Q=y6 p (Q.take i)++y6 p (Q.drop i):=by rw [<- a1r,List.take_append_drop]
  exact ⟨_,h.symm⟩
def K6 (P:List T4):List T4->List C5
  | []=>[]
  | x::l=>H2 x.1 (y6 x.1 P).length x.2::K6 (P++[x]) l
def I3 (Q:List T4):List C5:=K6 [] Q
theorem a65:∀ {l P m:List T4},K6 P (l++m)=K6 P l++K6 (P++l) m
  | [],P,m=>by simp [K6]
  | x::l,P,m=>by
    rw [List.cons_append,K6,K6,a65,List.cons_append,List.append_assoc]; rfl
theorem a64:∀ {l P:List T4} {i:Nat},(K6 P l)[i]?=l[i]?.map (λ x=>H2 x.1 (y6 x.1 (P++l.take i)).length x.2)
  | [],P,i=>rfl
  | x::l,P,0=>by simp [K6]
  | x::l,P,i+1=>by
    rw [K6,List.getElem?_cons_succ,a64,List.getElem?_cons_succ,List.take_succ_cons,List.append_assoc]; rfl
theorem a63:∀ {l P:List T4},(K6 P l).length=l.length
  | [],_=>rfl
  | x::l,P=>by rw [K6,List.length_cons,a63,List.length_cons]
theorem c2f {Q:List T4}:(I3 Q).length=Q.length:=a63
theorem b2e {Q:List T4} {i:Nat}:(I3 Q)[i]?=Q[i]?.map (λ x=>H2 x.1 (y6 x.1 (Q.take i)).length x.2):=by
  unfold I3; rw [a64]; rfl
theorem b2f {Q m:List T4}:I3 (Q++m)=I3 Q++K6 Q m:=by
  unfold I3; rw [a65]; rfl
def a4l (x:T4):B9:=(x.1,x.2,())
def ofP (p:Nat):List B9->List C5
  | []=>[]
  | x::l=>if x.1=(p:Int) then x.2.1::ofP p l else ofP p l
theorem b0P {p:Nat}:∀ {l m:List B9},ofP p (l++m)=ofP p l++ofP p m
  | [],_=>rfl
  | x::l,m=>by
    rw [List.cons_append,ofP,ofP,b0P]
    split<;>rfl
theorem a7B {p:Nat}:∀ {Q:List T4},ofP p (Q.map a4l)=y6 p Q
  | []=>rfl
  | x::l=>by
    rw [List.map_cons,ofP,y6,a7B];by_cases h:x.1=p
    . rw [if_pos h,if_pos (by show (x.1:Int)=p; rw [h])]; rfl
    . rw [if_neg h,if_neg (by show ¬ (x.1:Int)=p; omega)]
theorem a91 {p:Nat}:∀ {l:List B9},countP p l=(ofP p l).length
  | []=>rfl
  | x::l=>by
    rw [countP,ofP,a91];by_cases h:x.1=(p:Int)
    . rw [if_pos h,if_pos h,List.length_cons]; omega
    . rw [if_neg h,if_neg h]; omega
theorem b3V {F:Nat->Option C5}:∀ {l:List s4} {n:Int},0<=n->(∀ q∈l,F q.1.toNat=some q.2.1)->∀ i,i<(C8 l n).2.2.length->F (n.toNat+i)=(C8 l n).2.2[i]?
  | [],n,_,_,i,hi=>absurd hi (by simp [C8])
  | p::l,n,h0,h,i,hi=>by
    rw [C8] at hi ⊢;by_cases e:p.1=n
    . rw [if_pos e] at hi ⊢;cases i with
      | zero=>rw [List.getElem?_cons_zero,<- e]; exact h p List.mem_cons_self
      | succ i =>
        rw [List.getElem?_cons_succ,<- b3V (n:=n+1) (by omega) (λ q hq=>h q (List.mem_cons_of_mem _ hq)) i (by simpa using hi)];congr 1; omega
    . rw [if_neg e] at hi; exact absurd hi (by simp)
theorem b1K {F:Nat->Option C5} {s:ToD} {p:s4} (h:(C3 s p).2.2.1=0) (hs:∀ q∈s.2.1,F q.1.toNat=some q.2.1) (hp:F p.1.toNat=some p.2.1) :
    ∀ i,i<(C3 s p).2.1.length->F (s.1.toNat+i)=(C3 s p).2.1[i]?:=by
  obtain ⟨aP,h1,h2,hc⟩:=a7Y h;intro i hi;rcases hc with ⟨e,-⟩|⟨-,-,e⟩|⟨e1,e⟩
  . rw [e] at hi; exact absurd hi (by simp)
  . rw [e] at hi; exact absurd hi (by simp)
  . rw [e] at hi ⊢;cases i with
    | zero=>rw [List.getElem?_cons_zero,<- e1]; exact hp
    | succ i =>
      have h0:=aP.rg.1;show F (s.1.toNat+(i+1))=(p.2.1::(C8 s.2.1 (s.1+1)).2.2)[i+1]?;rw [List.getElem?_cons_succ,<- b3V (n:=s.1+1) (by omega) hs i (by simpa using hi)];congr 1; omega
theorem c3d {α:Type} {X l:List α} {r:Nat} (h:∀ i,i<l.length->X[r+i]?=l[i]?):l=(X.drop r).take l.length:=by
  apply List.ext_getElem?;intro i;rw [List.getElem?_take]
  split
  . rename_i hi;rw [List.getElem?_drop,h i hi]
  . rename_i hi;exact List.getElem?_eq_none (by omega)
theorem a3l {α:Type} {l m:List α} (h:l <+: m) {i:Nat} {x:α} (hx:l[i]?=some x):m[i]?=some x:=by
  obtain ⟨k,rfl⟩:=h;have hi:i<l.length:=by
    by_cases hi:i<l.length
    . exact hi
    . rw [List.getElem?_eq_none (by omega)] at hx; cases hx
  rw [List.getElem?_append_left hi]; exact hx
def a0u (m:Int) (p:Nat):Bool:=decide (U2 .u8 (m / (2:Int)^min p IntKind.u8.bits) 1=1)
theorem a1R {w:f7} {p:Int}:r9 w p=true↔∃ k:Nat,p=k/\k<w.2.1.length/\a0u w.1.2.1 k=true/\(w.2.1.getD k i8).1=false:=by
  unfold r9;rw [Bool.and_eq_true,Bool.and_eq_true,S7,Bool.not_eq_true'];constructor
  . rintro ⟨⟨h1,h2⟩,h3⟩;exact ⟨p.toNat,by omega,by omega,h2,h3⟩
  . rintro ⟨k,rfl,h1,h2,h3⟩;exact ⟨⟨by omega,h2⟩,h3⟩
theorem a0h {w:f7} {k:Nat}:r9 w (k:Int)=true↔k<w.2.1.length/\a0u w.1.2.1 k=true/\(w.2.1.getD k i8).1=false:=by
  rw [a1R];constructor
  . rintro ⟨j,h,h1⟩;obtain rfl:k=j:=by omega
    exact h1
  . exact λ h=>⟨k,rfl,h⟩
def b6n:Go.Shelf.Ren:=⟨λ|129=>120|171=>50|243=>68|246=>87|283=>104|284=>105|285=>106|286=>107|317=>119|318=>121|319=>122|320=>123|337=>143|338=>144|n=>n,λ|0=>0|2=>2|3=>3|4=>4|5=>5|9=>9|20=>20|37=>115|46=>119|51=>117|53=>159|171=>158|173=>162|212=>176|213=>177|232=>208|233=>209|n=>n,λ|17=>0|18=>4|19=>5|n=>n⟩
theorem c5O:Go.Proofs.LaysM.n171 Tryz.prog b6n:={
  mixed:=by kernel_rfl,
  f129:=Tryz.func120.trans (congrArg some (by kernel_rfl)),
  f171:=Tryz.func50.trans (congrArg some (by kernel_rfl)),
  f243:=Tryz.func68.trans (congrArg some (by kernel_rfl)),
  f246:=Tryz.func87.trans (congrArg some (by kernel_rfl)),
  f283:=Tryz.func104.trans (congrArg some (by kernel_rfl)),
  f284:=Tryz.func105.trans (congrArg some (by kernel_rfl)),
  f285:=Tryz.func106.trans (congrArg some (by kernel_rfl)),
  f286:=Tryz.func107.trans (congrArg some (by kernel_rfl)),
  f317:=Tryz.func119.trans (congrArg some (by kernel_rfl)),
  f318:=Tryz.func121.trans (congrArg some (by kernel_rfl)),
  f319:=Tryz.func122.trans (congrArg some (by kernel_rfl)),
  f320:=Tryz.func123.trans (congrArg some (by kernel_rfl)),
  f337:=Tryz.func143.trans (congrArg some (by kernel_rfl)),
  f338:=Tryz.func144.trans (congrArg some (by kernel_rfl)),
  t0:=Tryz.underlying0,
  a0:=Tryz.isAgg0,
  z0:=Tryz.sizeOf0,
  v0:=Tryz.zeroValue0,
  t2:=Tryz.underlying2,
  a2:=Tryz.isAgg2,
  z2:=Tryz.sizeOf2,
  v2:=Tryz.zeroValue2,
  t3:=Tryz.underlying3,
  a3:=Tryz.isAgg3,
  z3:=Tryz.sizeOf3,
  v3:=Tryz.zeroValue3,
  t4:=Tryz.underlying4,
  a4:=Tryz.isAgg4,
  z4:=Tryz.sizeOf4,
  v4:=Tryz.zeroValue4,
  t5:=Tryz.underlying5,
  a5:=Tryz.isAgg5,
  z5:=Tryz.sizeOf5,
  v5:=Tryz.zeroValue5,
  t9:=Tryz.underlying9,
  a9:=Tryz.isAgg9,
  z9:=Tryz.sizeOf9,
  v9:=Tryz.zeroValue9,
  t20:=Tryz.underlying20,
  a20:=Tryz.isAgg20,
  z20:=Tryz.sizeOf20,
  v20:=Tryz.zeroValue20,
  t37:=Tryz.underlying115,
  a37:=Tryz.isAgg115,
  z37:=Tryz.sizeOf115,
  v37:=Tryz.zeroValue115,
  t46:=Tryz.underlying119,
  a46:=Tryz.isAgg119,
  z46:=Tryz.sizeOf119,
  v46:=Tryz.zeroValue119,
  t51:=Tryz.underlying117,
  a51:=Tryz.isAgg117,
  z51:=Tryz.sizeOf117,
  v51:=Tryz.zeroValue117,
  t53:=Tryz.underlying159,
  a53:=Tryz.isAgg159,
  z53:=Tryz.sizeOf159,
  v53:=Tryz.zeroValue159,
  t171:=Tryz.underlying158,
  a171:=Tryz.isAgg158,
  z171:=Tryz.sizeOf158,
  v171:=Tryz.zeroValue158,
  t173:=Tryz.underlying162,
  a173:=Tryz.isAgg162,
  z173:=Tryz.sizeOf162,
  v173:=Tryz.zeroValue162,
  t212:=Tryz.underlying176,
  a212:=Tryz.isAgg176,
  z212:=Tryz.sizeOf176,
  v212:=Tryz.zeroValue176,
  t213:=Tryz.underlying177,
  a213:=Tryz.isAgg177,
  z213:=Tryz.sizeOf177,
  t232:=Tryz.underlying208,
  a232:=Tryz.isAgg208,
  z232:=Tryz.sizeOf208,
  v232:=Tryz.zeroValue208,
  t233:=Tryz.underlying209,
  a233:=Tryz.isAgg209,
  z233:=Tryz.sizeOf209,
  v233:=Tryz.zeroValue209,
  g17:=by kernel_rfl,
  g18:=by kernel_rfl,
  g19:=by kernel_rfl,
  i0:=by kernel_rfl,
  i2:=by kernel_rfl,
  i3:=by kernel_rfl,
  i4:=by kernel_rfl,
  i5:=by kernel_rfl,
  i9:=by kernel_rfl,
  i20:=by kernel_rfl,
  i37:=by kernel_rfl,
  i46:=by kernel_rfl,
  i51:=by kernel_rfl,
  i53:=by kernel_rfl,
  i171:=by kernel_rfl,
  i173:=by kernel_rfl,
  i212:=by kernel_rfl,
  i232:=by kernel_rfl,
  i233:=by kernel_rfl,
  m17:=by kernel_rfl,
  m18:=by kernel_rfl,
  m19:=by kernel_rfl }
theorem c1m {w:World} {k:Nat} {os:Array Obj}:y9 [] w (Sort.grow (w.drewN k) os):=by
  refine ⟨rfl,⟨rfl,Nat.le_add_right _ _⟩,rfl,?_,?_⟩
  . show w.heap.size<=(w.heap++os).size;simp
  . intro c hc _;show (w.heap++os)[c]?=_;rw [Array.getElem?_append,if_pos hc]
def a6D:Go.Shelf.Ren:=⟨λ|138=>125|143=>126|146=>89|195=>145|197=>146|217=>136|218=>147|219=>113|221=>108|224=>138|225=>137|260=>157|266=>153|267=>139|268=>124|314=>154|n=>n,λ|0=>0|3=>3|4=>4|5=>5|9=>9|21=>21|31=>22|46=>119|51=>117|105=>196|119=>211|138=>213|139=>214|146=>201|n=>n,λ|1=>1|3=>6|4=>7|n=>n⟩
theorem c3y:Go.Proofs.Lays.n146 Tryz.prog a6D:={
  mixed:=by kernel_rfl,
  f138:=Tryz.func125.trans (congrArg some (by kernel_rfl)),
  f143:=Tryz.func126.trans (congrArg some (by kernel_rfl)),
  f146:=Tryz.func89.trans (congrArg some (by kernel_rfl)),
  f195:=Tryz.func145.trans (congrArg some (by kernel_rfl)),
  f197:=Tryz.func146.trans (congrArg some (by kernel_rfl)),
  f217:=Tryz.func136.trans (congrArg some (by kernel_rfl)),
  f218:=Tryz.func147.trans (congrArg some (by kernel_rfl)),
  f219:=Tryz.func113.trans (congrArg some (by kernel_rfl)),
  f221:=Tryz.func108.trans (congrArg some (by kernel_rfl)),
  f224:=Tryz.func138.trans (congrArg some (by kernel_rfl)),
  f225:=Tryz.func137.trans (congrArg some (by kernel_rfl)),
  f260:=Tryz.func157.trans (congrArg some (by kernel_rfl)),
  f266:=Tryz.func153.trans (congrArg some (by kernel_rfl)),
  f267:=Tryz.func139.trans (congrArg some (by kernel_rfl)),
  f268:=Tryz.func124.trans (congrArg some (by kernel_rfl)),
  f314:=Tryz.func154.trans (congrArg some (by kernel_rfl)),
  t0:=Tryz.underlying0,
  a0:=Tryz.isAgg0,
  z0:=Tryz.sizeOf0,
  v0:=Tryz.zeroValue0,
  t3:=Tryz.underlying3,
  a3:=Tryz.isAgg3,
  z3:=Tryz.sizeOf3,
  v3:=Tryz.zeroValue3,
  t4:=Tryz.underlying4,
  a4:=Tryz.isAgg4,
  z4:=Tryz.sizeOf4,
  v4:=Tryz.zeroValue4,
  t5:=Tryz.underlying5,
  a5:=Tryz.isAgg5,
  z5:=Tryz.sizeOf5,
  v5:=Tryz.zeroValue5,
  t9:=Tryz.underlying9,
  a9:=Tryz.isAgg9,
  z9:=Tryz.sizeOf9,
  v9:=Tryz.zeroValue9,
  t21:=Tryz.underlying21,
  a21:=Tryz.isAgg21,
  z21:=Tryz.sizeOf21,
  v21:=Tryz.zeroValue21,
  t31:=Tryz.underlying22,
  a31:=Tryz.isAgg22,
  z31:=Tryz.sizeOf22,
  v31:=Tryz.zeroValue22,
  t46:=Tryz.underlying119,
  a46:=Tryz.isAgg119,
  z46:=Tryz.sizeOf119,
  v46:=Tryz.zeroValue119,
  t51:=Tryz.underlying117,
  a51:=Tryz.isAgg117,
  z51:=Tryz.sizeOf117,
  v51:=Tryz.zeroValue117,
  t105:=Tryz.underlying196,
  a105:=Tryz.isAgg196,
  z105:=Tryz.sizeOf196,
  v105:=Tryz.zeroValue196,
  t119:=Tryz.underlying211,
  a119:=Tryz.isAgg211,
  z119:=Tryz.sizeOf211,
  t138:=Tryz.underlying213,
  a138:=Tryz.isAgg213,
  z138:=Tryz.sizeOf213,
  v138:=Tryz.zeroValue213,
  t139:=Tryz.underlying214,
  a139:=Tryz.isAgg214,
  z139:=Tryz.sizeOf214,
  v139:=Tryz.zeroValue214,
  t146:=Tryz.underlying201,
  a146:=Tryz.isAgg201,
  z146:=Tryz.sizeOf201,
  v146:=Tryz.zeroValue201,
  g1:=by kernel_rfl,
  g3:=by kernel_rfl,
  g4:=by kernel_rfl }
def c1Y:p9:={ ps:=[.v .str,.v .str],rs:=[.d0 true .str],pre:=λ x=>List.length (α:=UInt8) x.1<=4294967280/\1<=List.length (α:=UInt8) x.2.1,fn:=λ x=>(Lib.split x.1 x.2.1,()),out:=λ _=>() }
theorem bsz (s:List UInt8):(⟨s.toArray⟩:ByteArray).size=s.length:=by simp [ByteArray.size]
theorem b3O {H:Array Go.Obj} {S:Nat->Prop}:∀ (l:List ByteArray),(∀ x∈l,x.size<=maxLen)->i7 (f8 H S .str) 1 [] (l.map Value.string) (l.map λ x=>(x.data.toList:List UInt8))
  | [],_=>⟨rfl,rfl⟩
  | x::l,h=>by
    refine ⟨[],[],rfl,⟨rfl,?_,?_⟩,b3O l (λ y hy=>h y (by simp [hy]))⟩
    . show [Value.string x]=[Value.string ⟨x.data.toList.toArray⟩];rw [Array.toArray_toList]
    . show x.data.toList.length<=maxLen;rw [Array.length_toList]; exact h x (by simp)
theorem a9u (sep:ByteArray):∀ (k:Nat) (s:ByteArray),∀ x∈Lib.splitB sep 0 k s,x.size<=s.size
  | 0,s,x,hx=>by rw [Lib.splitB_zero,List.mem_singleton] at hx; rw [hx]; exact Nat.le_refl _
  | k+1,s,x,hx=>by
    unfold Lib.splitB at hx;split at hx
    . rw [List.mem_singleton] at hx; rw [hx]; exact Nat.le_refl _
    . rcases List.mem_cons.1 hx with rfl|hx
      . rw [ByteArray.size_extract]; omega
      . have:=a9u sep k _ x hx;rw [ByteArray.size_extract] at this; omega
theorem b4w:c1Y.Valid Tryz.prog 89:=by
  refine ⟨⟨_,Tryz.func89,by kernel_rfl,by kernel_rfl⟩,?_,λ h=>by cases h⟩;rintro w S vs ⟨(s:List UInt8),(p:List UInt8),⟨⟩⟩ L hS dk ⟨(h1:s.length<=4294967280),(h2:1<=p.length)⟩ ⟨v1,us,L1,L2,rfl,rfl,⟨rfl,cs,rfl,r1⟩,v2,us2,L3,L4,rfl,rfl,⟨rfl,cs2,rfl,r2⟩,rfl,rfl⟩ - aI hL;obtain ⟨-,rfl,hs⟩:=r1;obtain ⟨-,rfl,hp⟩:=r2;obtain ⟨-,cs,g2,m,g3⟩:=dk ("internal/bytealg.MaxLen",_) (List.mem_cons_of_mem _ (List.mem_cons_self ..)) 1 (by kernel_rfl)
  have hm:w.cell? ⟨1,0,none⟩=some (.int .i64 m):=by
    have:=World.var?_cell (show Tryz.prog.globalNamed "internal/bytealg.MaxLen"=some 1 by kernel_rfl) g2 0
    rw [this,g3]
  refine (Any.strings_Split c3y (by kernel_rfl) ⟨s.toArray⟩ ⟨p.toArray⟩ m w (by rw [bsz]; omega) hm (by rw [bsz]; exact h2)).mono ?_;rintro e w' ⟨rfl,rfl⟩;have hlen:=Lib.splitB_all (⟨p.toArray⟩:ByteArray) (by rw [bsz]; exact h2) 0 _ ⟨s.toArray⟩ rfl;have hl:(Lib.splitB ⟨p.toArray⟩ 0 (Lib.countB ⟨s.toArray⟩ ⟨p.toArray⟩) ⟨s.toArray⟩).map (λ x=>(x.data.toList:List UInt8))=Lib.split s p:=by
    rw [Lib.splitB_data]; rfl
  have df:=Lib.countB_le (⟨p.toArray⟩:ByteArray) (by rw [bsz]; exact h2) (ByteArray.size ⟨s.toArray⟩) ⟨s.toArray⟩ (Nat.le_refl _);rw [bsz] at df;generalize hB:Lib.splitB ⟨p.toArray⟩ 0 (Lib.countB ⟨s.toArray⟩ ⟨p.toArray⟩) ⟨s.toArray⟩=B at *
  generalize hC:Lib.countB ⟨s.toArray⟩ ⟨p.toArray⟩=C at *
  have sj:∀ x∈B,x.size<=maxLen:=λ x hx=>by
    have:=a9u _ _ _ x (by rw [hB]; exact hx);have h9:x.size<=s.length:=Nat.le_trans this (Nat.le_of_eq (bsz s));have h8:maxLen=9223372036854775807:=by decide
    omega
  have qe:(Lib.split s p).length=C+1:=by rw [<- hl,List.length_map,hlen]
  obtain ⟨O',k1,k2,k3⟩:=a7z (w:=w) (S:=S) (t:=.str) (l:=Lib.split s p) (O:=[]) (cells:=B.map Value.string) hS (by
    rw [List.take_of_length_le (by rw [List.length_map,hlen,qe]; show C+1<=(C+1)*1; omega),<- hl];exact b3O B sj) (cap:=C+1) (by omega) (by unfold maxLen; omega) (by rw [List.length_map,hlen]; show (C+1)*1<=C+1; omega) (a6D.t 9) (by simp)
  rw [qe] at k1;refine ⟨[.slice (some ⟨w.heap.size,0,none⟩) (C+1) (C+1)],O',[],S,rfl,y9.push _,λ _ h=>h,λ b h=>.inl h,⟨_,[],O',[],[.slice (some ⟨w.heap.size,0,none⟩) (C+1) (C+1)],rfl,by simp,rfl,k1,rfl,rfl⟩,⟨_,_,rfl,⟨_,[],rfl,rfl,rfl⟩⟩,by simpa using k3 List.nodup_nil,?_⟩;intro b hb;rw [List.append_nil] at hb;rcases k2 b hb with rfl|h
  . exact ⟨λ h=>by have:=hS _ h; omega,.inl (Nat.le_refl _),by show w.heap.size<(w.heap.push _).size; rw [Array.size_push]; omega⟩
  . cases h
end Go.Proofs.YtijlnmgondibnaaGreatDoor
namespace Go.Proofs.YtijlnmgondibnaaGreatDoor
set_option maxRecDepth 100000
def a4p:List UInt8:=[48,49,50,51,52,53,54,55,56,57]
def a2e (s:List UInt8):List UInt8:=Lib.trimPrefix s [45]
def a35 (s:List UInt8):Bool:=decide (1<=(a2e s).length) && decide ((a2e s).length<=9) && (a2e s).all (a4p.contains ·)
def I5 (s:List UInt8):Int×Bool:=if a35 s then ((Lib.atoi s).getD 0,true) else (0,false)
theorem dropWhile_nil {p:UInt8->Bool}:∀ {l:List UInt8},l.dropWhile p=[]↔l.all p=true
  | []=>by simp
  | b::l=>by
    rw [List.dropWhile_cons,List.all_cons];cases h:p b with
    | true=>simpa [h] using dropWhile_nil (p:=p) (l:=l)
    | false=>simp
theorem b7T {p:UInt8->Bool} (l:List UInt8):l.reverse.all p=l.all p:=by simp
theorem a6g {p:UInt8->Bool}:∀ {l:List UInt8},(l.dropWhile p).all p=l.all p
  | []=>rfl
  | b::l=>by
    rw [List.dropWhile_cons];cases h:p b with
    | true=>rw [if_pos rfl,a6g (l:=l),List.all_cons,h,Bool.true_and]
    | false=>rw [if_neg (by simp)]
theorem b1y {l cs:List UInt8}:Lib.trimS l cs=[]↔l.all (cs.contains ·)=true:=by
  unfold Lib.trimS Lib.trimLeftS Lib.trimRightS;rw [dropWhile_nil,b7T,a6g,b7T]
theorem c3O {b:UInt8} (h:a4p.contains b=true):∃ d,Lib.digitVal b=some d/\d<=9:=by
  simp only [a4p,List.contains_iff_mem,List.mem_cons,List.mem_nil_iff,or_false] at h;rcases h with rfl|rfl|rfl|rfl|rfl|rfl|rfl|rfl|rfl|rfl<;>exact ⟨_,rfl,by decide⟩
theorem a6S:∀ {l:List UInt8} {acc:Nat},l.all (a4p.contains ·)=true->∃ n,Lib.decFrom acc l=some n/\n<(acc+1)*10^l.length
  | [],acc,_=>⟨acc,rfl,by simp⟩
  | b::l,acc,h=>by
    rw [List.all_cons,Bool.and_eq_true] at h;obtain ⟨d,hd,h9⟩:=c3O h.1;obtain ⟨n,e,hn⟩:=a6S (acc:=acc*10+d) h.2;refine ⟨n,by simp only [Lib.decFrom,hd]; exact e,Nat.lt_of_lt_of_le hn ?_⟩;rw [List.length_cons,Nat.pow_succ,Nat.mul_comm (10^l.length) 10,<- Nat.mul_assoc];exact Nat.mul_le_mul_right _ (by omega)
theorem b1Q {s:List UInt8} (h:a35 s=true):s.length<=10/\∃ n:Int,Lib.atoi s=some n/\-999999999<=n/\n<=999999999:=by
  simp only [a35,Bool.and_eq_true,decide_eq_true_eq] at h;obtain ⟨⟨h1,h2⟩,h3⟩:=h;have core:∀ {t:List UInt8},1<=t.length->t.length<=9->t.all (a4p.contains ·)=true->∃ n,Lib.decNat t=some n/\n<=999999999:=by
    intro t t1 t2 t3;obtain ⟨n,e,hn⟩:=a6S (acc:=0) t3;refine ⟨n,?_,?_⟩
    . unfold Lib.decNat;rw [if_neg (by cases t<;>simp at t1 ⊢)];exact e
    . have:10^t.length<=10^9:=Nat.pow_le_pow_right (by decide) t2;have e9:10^9=1000000000:=by decide
      omega
  cases s with
  | nil=>simp [a2e,Lib.trimPrefix,Lib.hasPrefix] at h1
  | cons b r =>
    by_cases hb:b=45
    . subst hb;have ht:a2e (45::r)=r:=by simp [a2e,Lib.trimPrefix,Lib.hasPrefix]
      rw [ht] at h1 h2 h3;obtain ⟨n,e,hn⟩:=core h1 h2 h3;refine ⟨by simp only [List.length_cons]; omega,-(n:Int),?_,by omega,by omega⟩;simp [Lib.atoi,e]
    . have ht:a2e (b::r)=b::r:=by
        unfold a2e Lib.trimPrefix;rw [if_neg];simp [Lib.hasPrefix,Ne.symm hb]
      rw [ht] at h1 h2 h3;obtain ⟨n,e,hn⟩:=core h1 h2 h3;have sl:b≠43:=by
        rintro rfl;rw [List.all_cons,Bool.and_eq_true] at h3;exact absurd h3.1 (by decide)
      refine ⟨by omega,(n:Int),?_,by omega,by omega⟩;simp [Lib.atoi,hb,sl,e]
end Go.Proofs.YtijlnmgondibnaaGreatDoor
set_option linter.unusedVariables false
namespace Go.Proofs.YtijlnmgondibnaaGreatDoor
open Go.Ex Go.RowKit Go.Shelf
set_option maxRecDepth 100000
def c1y:Go.Shelf.Ren:=⟨λ|101=>109|206=>148|208=>127|n=>n,λ|3=>3|4=>4|9=>9|n=>n,λ|n=>n⟩
theorem c7T:Go.Proofs.Lays.n101 Tryz.prog c1y:={
  mixed:=by kernel_rfl,
  f101:=Tryz.func109.trans (congrArg some (by kernel_rfl)),
  f206:=Tryz.func148.trans (congrArg some (by kernel_rfl)),
  f208:=Tryz.func127.trans (congrArg some (by kernel_rfl)),
  t3:=Tryz.underlying3,
  a3:=Tryz.isAgg3,
  z3:=Tryz.sizeOf3,
  v3:=Tryz.zeroValue3,
  t4:=Tryz.underlying4,
  a4:=Tryz.isAgg4,
  z4:=Tryz.sizeOf4,
  v4:=Tryz.zeroValue4,
  t9:=Tryz.underlying9,
  a9:=Tryz.isAgg9,
  z9:=Tryz.sizeOf9,
  v9:=Tryz.zeroValue9 }
def a70:Go.Shelf.Ren:=⟨λ|119=>161|120=>159|137=>160|151=>150|152=>158|160=>110|197=>146|217=>136|224=>138|225=>137|227=>130|228=>149|231=>128|232=>129|233=>131|234=>132|235=>133|236=>134|260=>157|266=>153|271=>151|n=>n,λ|0=>0|3=>3|4=>4|5=>5|9=>9|21=>21|46=>119|105=>196|116=>182|117=>183|119=>211|124=>186|138=>213|139=>214|n=>n,λ|3=>6|4=>7|n=>n⟩
theorem c5N:Go.Proofs.Lays.n160 Tryz.prog a70:={
  mixed:=by kernel_rfl,
  f119:=Tryz.func161.trans (congrArg some (by kernel_rfl)),
  f120:=Tryz.func159.trans (congrArg some (by kernel_rfl)),
  f137:=Tryz.func160.trans (congrArg some (by kernel_rfl)),
  f151:=Tryz.func150.trans (congrArg some (by kernel_rfl)),
  f152:=Tryz.func158.trans (congrArg some (by kernel_rfl)),
  f160:=Tryz.func110.trans (congrArg some (by kernel_rfl)),
  f197:=Tryz.func146.trans (congrArg some (by kernel_rfl)),
  f217:=Tryz.func136.trans (congrArg some (by kernel_rfl)),
  f224:=Tryz.func138.trans (congrArg some (by kernel_rfl)),
  f225:=Tryz.func137.trans (congrArg some (by kernel_rfl)),
  f227:=Tryz.func130.trans (congrArg some (by kernel_rfl)),
  f228:=Tryz.func149.trans (congrArg some (by kernel_rfl)),
  f231:=Tryz.func128.trans (congrArg some (by kernel_rfl)),
  f232:=Tryz.func129.trans (congrArg some (by kernel_rfl)),
  f233:=Tryz.func131.trans (congrArg some (by kernel_rfl)),
  f234:=Tryz.func132.trans (congrArg some (by kernel_rfl)),
  f235:=Tryz.func133.trans (congrArg some (by kernel_rfl)),
  f236:=Tryz.func134.trans (congrArg some (by kernel_rfl)),
  f260:=Tryz.func157.trans (congrArg some (by kernel_rfl)),
  f266:=Tryz.func153.trans (congrArg some (by kernel_rfl)),
  f271:=Tryz.func151.trans (congrArg some (by kernel_rfl)),
  t0:=Tryz.underlying0,
  a0:=Tryz.isAgg0,
  z0:=Tryz.sizeOf0,
  v0:=Tryz.zeroValue0,
  t3:=Tryz.underlying3,
  a3:=Tryz.isAgg3,
  z3:=Tryz.sizeOf3,
  v3:=Tryz.zeroValue3,
  t4:=Tryz.underlying4,
  a4:=Tryz.isAgg4,
  z4:=Tryz.sizeOf4,
  v4:=Tryz.zeroValue4,
  t5:=Tryz.underlying5,
  a5:=Tryz.isAgg5,
  z5:=Tryz.sizeOf5,
  v5:=Tryz.zeroValue5,
  t9:=Tryz.underlying9,
  a9:=Tryz.isAgg9,
  z9:=Tryz.sizeOf9,
  v9:=Tryz.zeroValue9,
  t21:=Tryz.underlying21,
  a21:=Tryz.isAgg21,
  z21:=Tryz.sizeOf21,
  v21:=Tryz.zeroValue21,
  t46:=Tryz.underlying119,
  a46:=Tryz.isAgg119,
  z46:=Tryz.sizeOf119,
  v46:=Tryz.zeroValue119,
  t105:=Tryz.underlying196,
  a105:=Tryz.isAgg196,
  z105:=Tryz.sizeOf196,
  v105:=Tryz.zeroValue196,
  t116:=Tryz.underlying182,
  a116:=Tryz.isAgg182,
  z116:=Tryz.sizeOf182,
  t117:=Tryz.underlying183,
  a117:=Tryz.isAgg183,
  z117:=Tryz.sizeOf183,
  v117:=Tryz.zeroValue183,
  t119:=Tryz.underlying211,
  a119:=Tryz.isAgg211,
  z119:=Tryz.sizeOf211,
  t124:=Tryz.underlying186,
  a124:=Tryz.isAgg186,
  z124:=Tryz.sizeOf186,
  v124:=Tryz.zeroValue186,
  t138:=Tryz.underlying213,
  a138:=Tryz.isAgg213,
  z138:=Tryz.sizeOf213,
  v138:=Tryz.zeroValue213,
  t139:=Tryz.underlying214,
  a139:=Tryz.isAgg214,
  z139:=Tryz.sizeOf214,
  v139:=Tryz.zeroValue214,
  g3:=by kernel_rfl,
  g4:=by kernel_rfl }
def b6o:Go.Shelf.Ren:=⟨λ|129=>120|171=>50|172=>85|205=>142|243=>68|244=>102|245=>103|246=>87|247=>114|279=>115|280=>116|281=>117|282=>118|283=>104|284=>105|285=>106|286=>107|287=>140|316=>141|317=>119|318=>121|319=>122|320=>123|321=>155|322=>156|337=>143|338=>144|n=>n,λ|0=>0|2=>2|3=>3|4=>4|5=>5|9=>9|20=>20|21=>21|37=>115|46=>119|51=>117|53=>159|75=>140|76=>141|80=>216|85=>170|127=>204|143=>205|145=>207|167=>169|168=>172|171=>158|173=>162|175=>188|210=>192|212=>176|213=>177|232=>208|233=>209|n=>n,λ|15=>2|16=>3|17=>0|18=>4|19=>5|n=>n⟩
theorem b7z:Go.Proofs.Lays.n172 Tryz.prog b6o:={
  mixed:=by kernel_rfl,
  f129:=Tryz.func120.trans (congrArg some (by kernel_rfl)),
  f171:=Tryz.func50.trans (congrArg some (by kernel_rfl)),
  f172:=Tryz.func85.trans (congrArg some (by kernel_rfl)),
  f205:=Tryz.func142.trans (congrArg some (by kernel_rfl)),
  f243:=Tryz.func68.trans (congrArg some (by kernel_rfl)),
  f244:=Tryz.func102.trans (congrArg some (by kernel_rfl)),
  f245:=Tryz.func103.trans (congrArg some (by kernel_rfl)),
  f246:=Tryz.func87.trans (congrArg some (by kernel_rfl)),
  f247:=Tryz.func114.trans (congrArg some (by kernel_rfl)),
  f279:=Tryz.func115.trans (congrArg some (by kernel_rfl)),
  f280:=Tryz.func116.trans (congrArg some (by kernel_rfl)),
  f281:=Tryz.func117.trans (congrArg some (by kernel_rfl)),
  f282:=Tryz.func118.trans (congrArg some (by kernel_rfl)),
  f283:=Tryz.func104.trans (congrArg some (by kernel_rfl)),
  f284:=Tryz.func105.trans (congrArg some (by kernel_rfl)),
  f285:=Tryz.func106.trans (congrArg some (by kernel_rfl)),
  f286:=Tryz.func107.trans (congrArg some (by kernel_rfl)),
  f287:=Tryz.func140.trans (congrArg some (by kernel_rfl)),
  f316:=Tryz.func141.trans (congrArg some (by kernel_rfl)),
  f317:=Tryz.func119.trans (congrArg some (by kernel_rfl)),
  f318:=Tryz.func121.trans (congrArg some (by kernel_rfl)),
  f319:=Tryz.func122.trans (congrArg some (by kernel_rfl)),
  f320:=Tryz.func123.trans (congrArg some (by kernel_rfl)),
  f321:=Tryz.func155.trans (congrArg some (by kernel_rfl)),
  f322:=Tryz.func156.trans (congrArg some (by kernel_rfl)),
  f337:=Tryz.func143.trans (congrArg some (by kernel_rfl)),
  f338:=Tryz.func144.trans (congrArg some (by kernel_rfl)),
  t0:=Tryz.underlying0,
  a0:=Tryz.isAgg0,
  z0:=Tryz.sizeOf0,
  v0:=Tryz.zeroValue0,
  t2:=Tryz.underlying2,
  a2:=Tryz.isAgg2,
  z2:=Tryz.sizeOf2,
  v2:=Tryz.zeroValue2,
  t3:=Tryz.underlying3,
  a3:=Tryz.isAgg3,
  z3:=Tryz.sizeOf3,
  v3:=Tryz.zeroValue3,
  t4:=Tryz.underlying4,
  a4:=Tryz.isAgg4,
  z4:=Tryz.sizeOf4,
  v4:=Tryz.zeroValue4,
  t5:=Tryz.underlying5,
  a5:=Tryz.isAgg5,
  z5:=Tryz.sizeOf5,
  v5:=Tryz.zeroValue5,
  t9:=Tryz.underlying9,
  a9:=Tryz.isAgg9,
  z9:=Tryz.sizeOf9,
  v9:=Tryz.zeroValue9,
  t20:=Tryz.underlying20,
  a20:=Tryz.isAgg20,
  z20:=Tryz.sizeOf20,
  v20:=Tryz.zeroValue20,
  t21:=Tryz.underlying21,
  a21:=Tryz.isAgg21,
  z21:=Tryz.sizeOf21,
  v21:=Tryz.zeroValue21,
  t37:=Tryz.underlying115,
  a37:=Tryz.isAgg115,
  z37:=Tryz.sizeOf115,
  v37:=Tryz.zeroValue115,
  t46:=Tryz.underlying119,
  a46:=Tryz.isAgg119,
  z46:=Tryz.sizeOf119,
  v46:=Tryz.zeroValue119,
  t51:=Tryz.underlying117,
  a51:=Tryz.isAgg117,
  z51:=Tryz.sizeOf117,
  v51:=Tryz.zeroValue117,
  t53:=Tryz.underlying159,
  a53:=Tryz.isAgg159,
  z53:=Tryz.sizeOf159,
  v53:=Tryz.zeroValue159,
  t75:=Tryz.underlying140,
  a75:=Tryz.isAgg140,
  z75:=Tryz.sizeOf140,
  v75:=Tryz.zeroValue140,
  t76:=Tryz.underlying141,
  a76:=Tryz.isAgg141,
  z76:=Tryz.sizeOf141,
  v76:=Tryz.zeroValue141,
  t85:=Tryz.underlying170,
  a85:=Tryz.isAgg170,
  z85:=Tryz.sizeOf170,
  v85:=Tryz.zeroValue170,
  t127:=Tryz.underlying204,
  a127:=Tryz.isAgg204,
  z127:=Tryz.sizeOf204,
  v127:=Tryz.zeroValue204,
  t143:=Tryz.underlying205,
  a143:=Tryz.isAgg205,
  z143:=Tryz.sizeOf205,
  v143:=Tryz.zeroValue205,
  t145:=Tryz.underlying207,
  a145:=Tryz.isAgg207,
  z145:=Tryz.sizeOf207,
  v145:=Tryz.zeroValue207,
  t167:=Tryz.underlying169,
  a167:=Tryz.isAgg169,
  z167:=Tryz.sizeOf169,
  v167:=Tryz.zeroValue169,
  t168:=Tryz.underlying172,
  a168:=Tryz.isAgg172,
  z168:=Tryz.sizeOf172,
  v168:=Tryz.zeroValue172,
  t171:=Tryz.underlying158,
  a171:=Tryz.isAgg158,
  z171:=Tryz.sizeOf158,
  v171:=Tryz.zeroValue158,
  t173:=Tryz.underlying162,
  a173:=Tryz.isAgg162,
  z173:=Tryz.sizeOf162,
  v173:=Tryz.zeroValue162,
  t175:=Tryz.underlying188,
  a175:=Tryz.isAgg188,
  z175:=Tryz.sizeOf188,
  v175:=Tryz.zeroValue188,
  t210:=Tryz.underlying192,
  a210:=Tryz.isAgg192,
  z210:=Tryz.sizeOf192,
  v210:=Tryz.zeroValue192,
  t212:=Tryz.underlying176,
  a212:=Tryz.isAgg176,
  z212:=Tryz.sizeOf176,
  v212:=Tryz.zeroValue176,
  t213:=Tryz.underlying177,
  a213:=Tryz.isAgg177,
  z213:=Tryz.sizeOf177,
  t232:=Tryz.underlying208,
  a232:=Tryz.isAgg208,
  z232:=Tryz.sizeOf208,
  v232:=Tryz.zeroValue208,
  t233:=Tryz.underlying209,
  a233:=Tryz.isAgg209,
  z233:=Tryz.sizeOf209,
  v233:=Tryz.zeroValue209,
  g15:=by kernel_rfl,
  g16:=by kernel_rfl,
  g17:=by kernel_rfl,
  g18:=by kernel_rfl,
  g19:=by kernel_rfl }
theorem b4b (n a b:Int) (r:Bool) (hr:(decide (a<=n) && decide (n<=b))=r) (w:World):Calls Tryz.prog 92 #[.int .i64 n,.int .i64 a,.int .i64 b] w λ e w'=>e=.returned (.bool r)/\w'=w:=by
  go_enter Tryz.func92,Tryz.ntmps92
  by_cases h1:a<=n<;>by_cases h2:n<=b
  all_goals
    go_wp2
    go_ret
    rw [<- hr];simp [h1,h2]
theorem a9n (d:List UInt8) (cs:ByteArray) (hcs:cs.data.toList=a4p) (h1:1<=d.length) (h2:d.length<=9) (w:World):Calls Tryz.prog 110 #[.string ⟨d.toArray⟩,.string cs] w λ e w'=>e=.returned (.string ⟨(Lib.trimS d a4p).toArray⟩)/\y9 [] w w':=by
  have df:cs.size=10:=by
    have:cs.size=cs.data.toList.length:=by rw [Array.length_toList]; rfl
    rw [this,hcs]; rfl
  have mr:(Tryz.prog.info? (a70.t 116)).map (λ i=>(i.zero,i.size))=some (some (.agg (Array.replicate 256 (.bool false))),256):=by kernel_rfl
  refine (Any.strings_Trim_set c5N (zero_of_info mr).1 (zero_of_info mr).2 ⟨d.toArray⟩ cs w (by omega) (by simp [ByteArray.size]; omega) (by simp [ByteArray.size]; omega) (by omega) (ascii_of_all (by rw [hcs]; decide))).mono ?_;rintro e w' ⟨rfl,q,rfl⟩;rw [hcs];have key:∀ (o1 o2:Obj) (q:Nat),y9 [] w (((w.alloc o1).alloc o2).drewN q):=λ o1 o2 q=>by
    have hA:y9 [] w (w.alloc o1):=y9.push o1;have hB:y9 [] (w.alloc o1) ((w.alloc o1).alloc o2):=y9.push o2;have hD:y9 [] ((w.alloc o1).alloc o2) (((w.alloc o1).alloc o2).drewN q):=⟨rfl,⟨rfl,Nat.le_add_right _ _⟩,rfl,Nat.le_refl _,λ _ _ _=>rfl⟩;exact (hA.trans hB (λ b h=>absurd h (by simp))).trans hD (λ b h=>absurd h (by simp))
  exact ⟨rfl,key _ _ _⟩
theorem c0c (s:ByteArray) (n:Int) (h1:s.size<=18) (h:Lib.atoi s.data.toList=some n) (w:World):Calls Tryz.prog 85 #[.string s] w λ e w'=>e=.returned (.tuple #[.int .i64 n,.nilIface])/\y9 [] w w':=by
  refine (Any.strconv_Atoi b7z s n h1 h w).mono ?_;rintro e w' ⟨rfl,t,rfl⟩;exact ⟨rfl,rfl,⟨rfl,Nat.le_succ _⟩,rfl,by rw [Lib.bytesWorld_size]; omega,λ j hj _=>Lib.bytesWorld_at_old w _ t j hj⟩
set_option maxHeartbeats 1000000 in
theorem b33 (s:ByteArray) (hs:s.size<=4294967280) (w:World):Calls Tryz.prog 91 #[.string s] w λ e w'=>e=.returned (.tuple #[.int .i64 (I5 s.data.toList).1,.bool (I5 s.data.toList).2])/\y9 [] w w':=by
  obtain ⟨d,hd⟩:∃ d,a2e s.data.toList=d:=⟨_,rfl⟩;have fZ:d.length<=s.size:=by
    rw [<- hd];unfold a2e Lib.trimPrefix;have:s.size=s.data.toList.length:=by rw [Array.length_toList]; rfl
    split
    . rw [List.length_drop]; omega
    . omega
  go_enter Tryz.func91,Tryz.ntmps91
  go_wp2_with (go_at_call 109; refine (Any.strings_TrimPrefix c7T s ⟨#[45]⟩ _).mono ?_; rintro e w' ⟨rfl,rfl⟩)
  rw [show Lib.trimPrefix s.data.toList [45]=d from hd];by_cases hl:1<=d.length/\d.length<=9
  . refine (b4b _ _ _ true (by rw [Bool.and_eq_true,decide_eq_true_eq,decide_eq_true_eq]; omega) _).mono ?_;rintro e w' ⟨rfl,rfl⟩;cases hg:a35 s.data.toList with
    | true =>
      obtain ⟨g1,n,g2,g3,g4⟩:=b1Q hg;have g0:s.size<=18:=by
        have:s.size=s.data.toList.length:=by rw [Array.length_toList]; rfl
        omega
      have ht:Lib.trimS d a4p=[]:=by
        rw [b1y,<- hd];simp only [a35,Bool.and_eq_true] at hg;exact hg.2
      have hn:I5 s.data.toList=(n,true):=by unfold I5; rw [hg,if_pos rfl,g2]; rfl
      go_wp2_with (first
        | (go_at_call 110; refine (a9n d _ ?hcs hl.1 hl.2 _).mono ?hpost; (case hcs=>rfl); rintro e w2 ⟨rfl,hp⟩; rw [ht])
        | (go_at_call 85; refine (c0c s n g0 g2 _).mono ?_; rintro e w3 ⟨rfl,eO⟩))
      go_region
      all_goals go_wp2
      go_ret2
      refine ⟨by rw [hn]; rfl,(hp.trans eO (λ b h=>by cases h)).trans y9.drew (λ b h=>by cases h)⟩
    | false =>
      have hn:I5 s.data.toList=(0,false):=by unfold I5; rw [hg]; rfl
      have ht:∃ x l,Lib.trimS d a4p=x::l:=by
        cases h:Lib.trimS d a4p with
        | cons x l=>exact ⟨x,l,rfl⟩
        | nil =>
          exfalso;rw [b1y] at h;have:a35 s.data.toList=true:=by
            simp only [a35,hd,Bool.and_eq_true,decide_eq_true_eq];exact ⟨hl,h⟩
          rw [this] at hg; cases hg
      obtain ⟨x,l,ht⟩:=ht
      go_wp2_with (go_at_call 110; fail)
      refine (a9n d _ ?_ hl.1 hl.2 _).mono ?_
      . rfl
      rintro e w2 ⟨rfl,hp⟩;rw [ht]
      go_wp2
      go_ret2
      exact ⟨by rw [hn]; rfl,hp⟩
  . have hn:I5 s.data.toList=(0,false):=by
      unfold I5 a35;rw [if_neg];simp only [Bool.and_eq_true,decide_eq_true_eq,hd];exact λ h=>hl h.1
    refine (b4b _ _ _ false (by rw [Bool.and_eq_false_iff,decide_eq_false_iff_not,decide_eq_false_iff_not]; omega) _).mono ?_;rintro e w' ⟨rfl,rfl⟩
    go_wp2
    go_ret2
    exact ⟨by rw [hn]; rfl,rfl,.refl _,rfl,Nat.le_refl _,λ _ _ _=>rfl⟩
def b7K:p9:={ ps:=[.v .str],rs:=[e8,.bool],pre:=λ x=>List.length (α:=UInt8) x.1<=4294967280,fn:=λ x=>((I5 x.1).1,(I5 x.1).2,()),out:=λ _=>() }
theorem c5E (s:List UInt8):r7 .i64 (I5 s).1:=by
  unfold I5
  split
  . rename_i h;obtain ⟨-,n,e,h1,h2⟩:=b1Q h;rw [e];exact ⟨by show -9223372036854775808<=n; omega,by show n<=9223372036854775807; omega⟩
  . exact ⟨by decide,by decide⟩
theorem b28:b7K.Valid Tryz.prog 91:=by
  refine ⟨⟨_,Tryz.func91,by kernel_rfl,by kernel_rfl⟩,?_,λ h=>by cases h⟩;rintro w S vs ⟨(s:List UInt8),⟨⟩⟩ L hS dk (hlen:s.length<=4294967280) ⟨v1,us,L1,L2,rfl,rfl,⟨rfl,cs,rfl,r1⟩,rfl,rfl⟩ - aI hL;obtain ⟨-,rfl,hs⟩:=r1;refine (b33 ⟨s.toArray⟩ (by simpa [ByteArray.size] using hlen) w).mono ?_;rintro e w' ⟨rfl,hp⟩;refine ⟨[.int .i64 (I5 s).1,.bool (I5 s).2],[],[],S,rfl,hp,λ _ h=>h,λ b h=>.inl h,⟨_,_,[],[],[.int .i64 (I5 s).1],rfl,rfl,rfl,⟨rfl,rfl,c5E s⟩,_,_,[],[],[.bool (I5 s).2],rfl,rfl,rfl,⟨rfl,rfl⟩,rfl,rfl⟩,⟨_,[],rfl,rfl,rfl⟩,by simp,by simp⟩
end Go.Proofs.YtijlnmgondibnaaGreatDoor
set_option linter.unusedVariables false
namespace Go.Proofs.YtijlnmgondibnaaGreatDoor
open Go.Ex
set_option maxRecDepth 100000
def b88:Go.Shelf.Ren:=⟨λ|145=>84|217=>136|219=>113|220=>101|224=>138|225=>137|266=>153|267=>139|314=>154|n=>n,λ|3=>3|4=>4|5=>5|9=>9|46=>119|51=>117|59=>137|146=>201|n=>n,λ|1=>1|n=>n⟩
theorem c61:Go.Proofs.Lays.n145 Tryz.prog b88:={
  mixed:=by kernel_rfl,
  f145:=Tryz.func84.trans (congrArg some (by kernel_rfl)),
  f217:=Tryz.func136.trans (congrArg some (by kernel_rfl)),
  f219:=Tryz.func113.trans (congrArg some (by kernel_rfl)),
  f220:=Tryz.func101.trans (congrArg some (by kernel_rfl)),
  f224:=Tryz.func138.trans (congrArg some (by kernel_rfl)),
  f225:=Tryz.func137.trans (congrArg some (by kernel_rfl)),
  f266:=Tryz.func153.trans (congrArg some (by kernel_rfl)),
  f267:=Tryz.func139.trans (congrArg some (by kernel_rfl)),
  f314:=Tryz.func154.trans (congrArg some (by kernel_rfl)),
  t3:=Tryz.underlying3,
  a3:=Tryz.isAgg3,
  z3:=Tryz.sizeOf3,
  v3:=Tryz.zeroValue3,
  t4:=Tryz.underlying4,
  a4:=Tryz.isAgg4,
  z4:=Tryz.sizeOf4,
  v4:=Tryz.zeroValue4,
  t5:=Tryz.underlying5,
  a5:=Tryz.isAgg5,
  z5:=Tryz.sizeOf5,
  v5:=Tryz.zeroValue5,
  t9:=Tryz.underlying9,
  a9:=Tryz.isAgg9,
  z9:=Tryz.sizeOf9,
  v9:=Tryz.zeroValue9,
  t46:=Tryz.underlying119,
  a46:=Tryz.isAgg119,
  z46:=Tryz.sizeOf119,
  v46:=Tryz.zeroValue119,
  t51:=Tryz.underlying117,
  a51:=Tryz.isAgg117,
  z51:=Tryz.sizeOf117,
  v51:=Tryz.zeroValue117,
  t59:=Tryz.underlying137,
  a59:=Tryz.isAgg137,
  z59:=Tryz.sizeOf137,
  v59:=Tryz.zeroValue137,
  t146:=Tryz.underlying201,
  a146:=Tryz.isAgg201,
  z146:=Tryz.sizeOf201,
  v146:=Tryz.zeroValue201,
  g1:=by kernel_rfl }
def b4C:p9:={ ps:=[.v e8],rs:=[.str],pre:=λ _=>True,fn:=λ x=>(D0 x.1,()),out:=λ _=>() }
theorem a6Y:b4C.Valid Tryz.prog 50:=by
  refine ⟨⟨_,Tryz.func50,by kernel_rfl,by kernel_rfl⟩,?_,λ h=>by cases h⟩;rintro w S vs ⟨(n:Int),⟨⟩⟩ L hS dk - ⟨v1,us,L1,L2,rfl,rfl,⟨rfl,cs,rfl,r1⟩,rfl,rfl⟩ - aI hL;obtain ⟨-,rfl,(hn:r7 .i64 n)⟩:=r1;obtain ⟨h0,h1⟩:=j7.1 hn;obtain ⟨-,cs,h2,h3⟩:=dk _ (List.mem_cons_self ..) 0 (by kernel_rfl);refine (Any.strconv_Itoa c5O n h0 h1 w (h2.trans (congrArg some h3))).mono ?_;rintro e w' ⟨rfl,k,os,rfl⟩;refine ⟨[.string ⟨(Lib.itoa n).toArray⟩],[],[],S,rfl,c1m,λ _ h=>h,λ b h=>.inl h,⟨_,[],[],[],[.string ⟨(Lib.itoa n).toArray⟩],rfl,rfl,rfl,⟨rfl,?_,?_⟩,rfl,rfl⟩,⟨_,[],rfl,rfl,rfl⟩,by simp,by simp⟩
  . rw [c5F h0 h1]; rfl
  . have:=a1B h0 h1;show (D0 n).length<=maxLen;exact Nat.le_trans this (by decide)
def b9Z:p9:={ ps:=[.v .str],rs:=[e8,.fn 4000000],pre:=λ x=>List.length (α:=UInt8) x.1<=18/\(Lib.atoi x.1).isSome=true,fn:=λ x=>((Lib.atoi x.1).getD 0,false,()),out:=λ _=>() }
theorem decFrom_lt:∀ {l:List UInt8} {a n:Nat},Lib.decFrom a l=some n->n<(a+1)*10^l.length
  | [],a,n,h=>by
    simp only [Lib.decFrom,Option.some.injEq] at h;subst h;simp
  | b::l,a,n,h=>by
    rw [Lib.decFrom] at h;cases e:Lib.digitVal b with
    | none=>rw [e] at h; cases h
    | some d =>
      rw [e] at h;have h1:=decFrom_lt h;have hd:d<=9:=by
        unfold Lib.digitVal at e;split at e
        . simp only [Option.some.injEq] at e; omega
        . cases e
      refine Nat.lt_of_lt_of_le h1 ?_;rw [List.length_cons,Nat.pow_succ,Nat.mul_comm (10^l.length) 10,<- Nat.mul_assoc];exact Nat.mul_le_mul_right _ (by omega)
theorem a6R {l:List UInt8} {n:Nat} (h:Lib.decNat l=some n) (hl:l.length<=18):n<1000000000000000000:=by
  unfold Lib.decNat at h;split at h
  . cases h
  . have h1:=decFrom_lt h;have h2:10^l.length<=10^18:=Nat.pow_le_pow_right (by decide) hl;have h3:(10:Nat)^18=1000000000000000000:=by decide
    omega
theorem c59 {l:List UInt8} {n:Int} (h:Lib.atoi l=some n) (hl:l.length<=18):-1000000000000000000<n/\n<1000000000000000000:=by
  cases l with
  | nil=>cases h
  | cons b r =>
    rw [Lib.atoi] at h;simp only [List.length_cons] at hl;split at h
    . cases e:Lib.decNat r with
      | none=>rw [e] at h; cases h
      | some m=>rw [e] at h; simp only [Option.map_some,Option.some.injEq] at h; have:=a6R e (by omega); omega
    . split at h
      . cases e:Lib.decNat r with
        | none=>rw [e] at h; cases h
        | some m=>rw [e] at h; simp only [Option.map_some,Option.some.injEq] at h; have:=a6R e (by omega); omega
      . cases e:Lib.decNat (b::r) with
        | none=>rw [e] at h; cases h
        | some m=>rw [e] at h; simp only [Option.map_some,Option.some.injEq] at h; have:=a6R e (by simp only [List.length_cons]; omega); omega
theorem b6Q:b9Z.Valid Tryz.prog 85:=by
  refine ⟨⟨_,Tryz.func85,by kernel_rfl,by kernel_rfl⟩,?_,λ h=>by cases h⟩;rintro w S vs ⟨(s:List UInt8),⟨⟩⟩ L hS dk ⟨(h1:s.length<=18),(h2:(Lib.atoi s).isSome=true)⟩ ⟨v1,us,L1,L2,rfl,rfl,⟨rfl,cs,rfl,r1⟩,rfl,rfl⟩ - aI hL;obtain ⟨-,rfl,hs⟩:=r1;obtain ⟨n,hn⟩:=Option.isSome_iff_exists.1 h2;refine (Any.strconv_Atoi b7z ⟨s.toArray⟩ n (by rw [bsz]; exact h1) hn w).mono ?_;rintro e w' ⟨rfl,t,rfl⟩;have hf:b9Z.fn (s,())=(n,false,()):=by
    show ((Lib.atoi s).getD 0,false,())=(n,false,());rw [hn]; rfl
  rw [hf];have hr:=c59 hn h1;refine ⟨[.int .i64 n,.nilIface],[],[],S,rfl,⟨rfl,⟨rfl,Nat.le_succ _⟩,rfl,by rw [Lib.bytesWorld_size]; omega,λ j hj _=>Lib.bytesWorld_at_old w _ t j hj⟩,λ _ h=>h,λ b h=>.inl h,⟨_,_,[],[],[.int .i64 n],rfl,rfl,rfl,⟨rfl,rfl,?_⟩,_,_,[],[],[.nilIface],rfl,rfl,rfl,⟨rfl,rfl⟩,rfl,rfl⟩,⟨_,[],rfl,rfl,rfl⟩,by simp,by simp⟩;exact ⟨by show -9223372036854775808<=n; omega,by show n<=9223372036854775807; omega⟩
def c7c:p9:={ ps:=[.v .str,.v .str],rs:=[.str,.str,.bool],pre:=λ x=>List.length (α:=UInt8) x.1<=1000000/\Eq (α:=List UInt8) x.2.1 [58],fn:=λ x=>((w7 x.1).1,(w7 x.1).2.1,(w7 x.1).2.2,()),out:=λ _=>() }
theorem b9U:c7c.Valid Tryz.prog 84:=by
  refine ⟨⟨_,Tryz.func84,by kernel_rfl,by kernel_rfl⟩,?_,λ h=>by cases h⟩;rintro w S vs ⟨(s:List UInt8),(p:List UInt8),⟨⟩⟩ L hS dk ⟨(h1:s.length<=1000000),(h2:p=[58])⟩ ⟨v1,us,L1,L2,rfl,rfl,⟨rfl,cs,rfl,r1⟩,v2,us2,L3,L4,rfl,rfl,⟨rfl,cs2,rfl,r2⟩,rfl,rfl⟩ - aI hL;obtain ⟨-,rfl,hs⟩:=r1;obtain ⟨-,rfl,hp⟩:=r2;obtain ⟨-,cs,g2,m,g3⟩:=dk ("internal/bytealg.MaxLen",_) (List.mem_cons_of_mem _ (List.mem_cons_self ..)) 1 (by kernel_rfl)
  have hm:w.cell? ⟨1,0,none⟩=some (.int .i64 m):=by
    have:=World.var?_cell (show Tryz.prog.globalNamed "internal/bytealg.MaxLen"=some 1 by kernel_rfl) g2 0
    rw [this,g3]
  refine (Any.strings_Cut c61 ⟨s.toArray⟩ ⟨p.toArray⟩ m w (by rw [bsz]; omega) hm).mono ?_;rintro e w' ⟨rfl,k,rfl⟩;have hc:Lib.cut (ByteArray.mk s.toArray).data.toList (ByteArray.mk p.toArray).data.toList=w7 s:=by
    show Lib.cut s p=w7 s;rw [h2,b7J]
  rw [hc];have hl:=a3H s;have hD:y9 [] w (w.drewN k):=⟨rfl,⟨rfl,Nat.le_add_right _ _⟩,rfl,Nat.le_refl _,λ _ _ _=>rfl⟩;have jK:maxLen=9223372036854775807:=by decide
  refine ⟨[.string ⟨(w7 s).1.toArray⟩,.string ⟨(w7 s).2.1.toArray⟩,.bool (w7 s).2.2],[],[],S,rfl,hD,λ _ h=>h,λ b h=>.inl h,⟨_,_,[],[],[_],rfl,rfl,rfl,⟨rfl,rfl,?_⟩,_,_,[],[],[_],rfl,rfl,rfl,⟨rfl,rfl,?_⟩,_,_,[],[],[_],rfl,rfl,rfl,⟨rfl,rfl⟩,rfl,rfl⟩,⟨_,_,rfl,⟨_,[],rfl,rfl,rfl⟩⟩,by simp,by simp⟩
  . show (w7 s).1.length<=maxLen; omega
  . show (w7 s).2.1.length<=maxLen; omega
end Go.Proofs.YtijlnmgondibnaaGreatDoor
namespace Go.Proofs.YtijlnmgondibnaaGreatDoor
open Go.Ex
set_option maxRecDepth 100000
attribute [local irreducible] Go.Ex.exec
theorem a61 {x:List UInt8} {w:f7}:∀ p,(F3 x w p).2.1=w.2.1/\(F3 x w p).1=w.1/\(F3 x w p).2.2.1=w.2.2.1
  | 0=>⟨rfl,rfl,rfl⟩
  | p+1=>by
    obtain ⟨h1,h2,h3⟩:=a61 (x:=x) (w:=w) p;rw [F3]
    split
    . obtain ⟨g1,g2,g3⟩:=a3Y (w:=F3 x w p) (k:=2) (f:=J6 (F3 x w p)) (t:=p) (s:=((F3 x w p).2.2.1.length:Int) - 1) (x:=x);exact ⟨g1.trans h1,g2.trans h2,g3.trans h3⟩
    . exact ⟨h1,h2,h3⟩
theorem c2d {x:List UInt8} {w:f7} {p:Nat} (h:r9 (F3 x w p) p=true):F3 x w (p+1)=J9 (F3 x w p) 2 (J6 (F3 x w p)) p (((F3 x w p).2.2.1.length:Int) - 1) x:=by
  rw [F3]; exact if_pos h
theorem c2e {x:List UInt8} {w:f7} {p:Nat} (h:r9 (F3 x w p) p=false):F3 x w (p+1)=F3 x w p:=by
  rw [F3]; exact if_neg (by rw [h]; decide)
theorem a6k {f first:Int} {l:List (List UInt8)} {w:f7}:∀ i,(H4 f first l w i).2.1=w.2.1/\(H4 f first l w i).1=w.1/\(H4 f first l w i).2.2.1.length=w.2.2.1.length+i
  | 0=>⟨rfl,rfl,rfl⟩
  | i+1=>by
    obtain ⟨h1,h2,h3⟩:=a6k (f:=f) (first:=first) (l:=l) (w:=w) i;rw [H4];obtain ⟨g1,g2,g3⟩:=a61 (x:=H2 f (first+i) (l.getD i [])) (w:=a7A (H4 f first l w i) (H2 f (first+i) (l.getD i []))) (H4 f first l w i).2.1.length;refine ⟨g1.trans h1,g2.trans h2,?_⟩;rw [g3];show ((H4 f first l w i).2.2.1++[_]).length=_;rw [List.length_append,h3]; rfl
def b4y:p9:={ ps:=[.rw u3,.v b1h],rs:=[],pre:=λ x=>List.length (α:=n9) (x.1:f7).2.1<=6/\(¬ known x.1 x.2.1.2.1≠0)/\List.length (α:=List UInt8) (x.1:f7).2.2.1<=1000000000000,fn:=λ _=>(),out:=λ x=>(V4 x.1 x.2.1,()) }
noncomputable def a2d:Env:={ P:=Tryz.prog,tt:=tt,C0:=[(83,b9t),(50,b4C),(47,a8V),(43,a7I),(44,b04)],res:=[],rs:=[],ps:=[PK.rw u3,PK.v (Ty.pair e8 (Ty.pair e8 (Ty.pair e8 (Ty.pair e8 (Ty.pair e8 (Ty.pair V9 (Ty.pair Ty.str Ty.unit)))))))],y5:=[(7,[(0,none),(3,none),(8,none),(45,some (Ty.d0 true Ty.str)),(46,none),(47,none)]),(12,[(0,none),(3,none),(8,none),(11,none),(45,some (Ty.d0 true Ty.str)),(46,none),(47,none),(78,none),(79,none)])],nt:=99 }
theorem a3i:u6 a2d:=w9 q9 ⟨a8c,a6Y,a1O,a2l,a3a,trivial⟩
theorem a3g:y7 a2d Tryz.f66:=⟨rfl,rfl⟩
theorem c2N (ai:Int) (af:Int) (ab:List n9) (ae:List (List UInt8)) (aa:List (List UInt8)) (bu:Int) (aC:Int) (aB:Int) (ba:Int) (aG:Int) (aU:List Int) (aw:List UInt8):exec a2d 1000 [.code (d8 Tryz.prog 66)] (s5 b4y.ps ((((ai,af,()),ab,ae,aa,()),(bu,aC,aB,ba,aG,aU,aw,()),()))) =
  .f6 ((0:Int)<=aC/\aC<(↑(List.length ab):Int)) (.f6 (True) (cond (decide (Prod.fst (Prod.snd (Prod.snd (C3 (Prod.fst (Prod.snd (Prod.snd (Prod.snd (Prod.snd (List.getD ab (Int.toNat aC) (false,[],((0:Int),[],()),((0:Int),[],()),((0:Int),[],()),()))))))) (aG,aw,()))))≠(0:Int))) (.ret ((((ai,af,()),ab,ae,aa,()),()))) (.ctL (f9 (d8 Tryz.prog 66) 7) (St.mk [(0,AV.ptr 2000000 []),(3,AV.ptr 3 []),(8,AV.val e8 (Prod.fst (Prod.fst (Prod.snd (Prod.snd (Prod.snd (Prod.snd (List.getD ab (Int.toNat aC) (false,[],((0:Int),[],()),((0:Int),[],()),((0:Int),[],()),()))))))))),(45,AV.at_ 1000045 []),(46,AV.val e8 (↑(List.length (Prod.fst (Prod.snd (C3 (Prod.fst (Prod.snd (Prod.snd (Prod.snd (Prod.snd (List.getD ab (Int.toNat aC) (false,[],((0:Int),[],()),((0:Int),[],()),((0:Int),[],()),()))))))) (aG,aw,()))))):Int)),(47,AV.val e8 (0:Int))] [(3,g8.var (Ty.pair e8 (Ty.pair e8 (Ty.pair e8 (Ty.pair e8 (Ty.pair e8 (Ty.pair V9 (Ty.pair Ty.str Ty.unit))))))) (bu,aC,aB,ba,aG,aU,aw,())),(1000045,g8.own (Ty.d0 true Ty.str) (Prod.fst (Prod.snd (C3 (Prod.fst (Prod.snd (Prod.snd (Prod.snd (Prod.snd (List.getD ab (Int.toNat aC) (false,[],((0:Int),[],()),((0:Int),[],()),((0:Int),[],()),()))))))) (aG,aw,()))))),(2000000,g8.var u3 ((ai,af,()),List.set ab (Int.toNat aC) (Prod.fst (List.getD ab (Int.toNat aC) (false,[],((0:Int),[],()),((0:Int),[],()),((0:Int),[],()),())),Prod.fst (Prod.snd (List.getD ab (Int.toNat aC) (false,[],((0:Int),[],()),((0:Int),[],()),((0:Int),[],()),()))),Prod.fst (Prod.snd (Prod.snd (List.getD ab (Int.toNat aC) (false,[],((0:Int),[],()),((0:Int),[],()),((0:Int),[],()),())))),Prod.fst (Prod.snd (Prod.snd (Prod.snd (List.getD ab (Int.toNat aC) (false,[],((0:Int),[],()),((0:Int),[],()),((0:Int),[],()),()))))),Prod.fst (C3 (Prod.fst (Prod.snd (Prod.snd (Prod.snd (Prod.snd (List.getD ab (Int.toNat aC) (false,[],((0:Int),[],()),((0:Int),[],()),((0:Int),[],()),()))))))) (aG,aw,())),Prod.snd (Prod.snd (Prod.snd (Prod.snd (Prod.snd (List.getD ab (Int.toNat aC) (false,[],((0:Int),[],()),((0:Int),[],()),((0:Int),[],()),()))))))),ae,aa,()))])))):=by kernel_rfl
def a5Z (v8:Int) (v46:Int) (v47:Int) (cr:Int) (aZ:Int) (aT:Int) (aJ:Int) (aA:Int) (ar:List Int) (ao:List UInt8) (bZ:List (List UInt8)) (az:Int) (an:Int) (aj:List n9) (ak:List (List UInt8)) (ah:List (List UInt8)):St:=St.mk [(0,AV.ptr 2000000 []),(3,AV.ptr 3 []),(8,AV.val e8 v8),(45,AV.at_ 1000045 []),(46,AV.val e8 v46),(47,AV.val e8 v47)] [(3,g8.var (Ty.pair e8 (Ty.pair e8 (Ty.pair e8 (Ty.pair e8 (Ty.pair e8 (Ty.pair V9 (Ty.pair Ty.str Ty.unit))))))) (cr,aZ,aT,aJ,aA,ar,ao,())),(1000045,g8.own (Ty.d0 true Ty.str) bZ),(2000000,g8.var u3 ((az,an,()),aj,ak,ah,()))]
theorem c0G (v8:Int) (v46:Int) (v47:Int) (cr:Int) (aZ:Int) (aT:Int) (aJ:Int) (aA:Int) (ar:List Int) (ao:List UInt8) (bZ:List (List UInt8)) (az:Int) (an:Int) (aj:List n9) (ak:List (List UInt8)) (ah:List (List UInt8)):exec a2d 1000 (.code (f9 (d8 Tryz.prog 66) 7).1::.inLoop (f9 (d8 Tryz.prog 66) 7).1::(f9 (d8 Tryz.prog 66) 7).2) (a5Z v8 v46 v47 cr aZ aT aJ aA ar ao bZ az an aj ak ah) =
  cond (decide (v47<v46)) (.f6 ((0:Int)<=v47/\v47<(↑(List.length bZ):Int)) (.f6 (True) (.f6 (List.length (D0 aZ)+List.length (Array.toList (ByteArray.data (ByteArray.mk #[(58:UInt8)])))<=Go.maxLen) (.f6 (r7 IntKind.i64 (v8+v47)) (.f6 (True) (.f6 (List.length (D0 aZ++Array.toList (ByteArray.data (ByteArray.mk #[(58:UInt8)])))+List.length (D0 (v8+v47))<=Go.maxLen) (.f6 (List.length (D0 aZ++Array.toList (ByteArray.data (ByteArray.mk #[(58:UInt8)]))++D0 (v8+v47))+List.length (Array.toList (ByteArray.data (ByteArray.mk #[(58:UInt8)])))<=Go.maxLen) (.f6 (List.length (D0 aZ++Array.toList (ByteArray.data (ByteArray.mk #[(58:UInt8)]))++D0 (v8+v47)++Array.toList (ByteArray.data (ByteArray.mk #[(58:UInt8)])))+List.length (List.getD bZ (Int.toNat v47) [])<=Go.maxLen) (.f6 (True/\True/\[]++[Step.l7 2]=[]++[Step.l7 2]/\List.length ak+List.length (List.set [[]] (Int.toNat (↑0:Int)) (D0 aZ++Array.toList (ByteArray.data (ByteArray.mk #[(58:UInt8)]))++D0 (v8+v47)++Array.toList (ByteArray.data (ByteArray.mk #[(58:UInt8)]))++List.getD bZ (Int.toNat v47) []))<=140737488355328/\(List.length ak+List.length (List.set [[]] (Int.toNat (↑0:Int)) (D0 aZ++Array.toList (ByteArray.data (ByteArray.mk #[(58:UInt8)]))++D0 (v8+v47)++Array.toList (ByteArray.data (ByteArray.mk #[(58:UInt8)]))++List.getD bZ (Int.toNat v47) [])))*Ty.wb Ty.str<=140737488355328) (.ctL (f9 (d8 Tryz.prog 66) 12) (St.mk [(0,AV.ptr 2000000 []),(3,AV.ptr 3 []),(8,AV.val e8 v8),(11,AV.val Ty.str (D0 aZ++Array.toList (ByteArray.data (ByteArray.mk #[(58:UInt8)]))++D0 (v8+v47)++Array.toList (ByteArray.data (ByteArray.mk #[(58:UInt8)]))++List.getD bZ (Int.toNat v47) [])),(45,AV.at_ 1000045 []),(46,AV.val e8 v46),(47,AV.val e8 v47),(78,AV.val e8 (↑(List.length aj):Int)),(79,AV.val e8 (0:Int))] [(3,g8.var (Ty.pair e8 (Ty.pair e8 (Ty.pair e8 (Ty.pair e8 (Ty.pair e8 (Ty.pair V9 (Ty.pair Ty.str Ty.unit))))))) (cr,aZ,aT,aJ,aA,ar,ao,())),(1000045,g8.own (Ty.d0 true Ty.str) bZ),(2000000,g8.var u3 ((az,an,()),aj,ak++List.set [[]] (Int.toNat (↑0:Int)) (D0 aZ++Array.toList (ByteArray.data (ByteArray.mk #[(58:UInt8)]))++D0 (v8+v47)++Array.toList (ByteArray.data (ByteArray.mk #[(58:UInt8)]))++List.getD bZ (Int.toNat v47) []),ah,()))]))))))))))) (.ret ((((az,an,()),aj,ak,ah,()),()))):=by kernel_rfl
def a4v (v8:Int) (v11:List UInt8) (v46:Int) (v47:Int) (v78:Int) (v79:Int) (cr:Int) (aZ:Int) (aT:Int) (aJ:Int) (aA:Int) (ar:List Int) (ao:List UInt8) (bZ:List (List UInt8)) (az:Int) (an:Int) (aj:List n9) (ak:List (List UInt8)) (ah:List (List UInt8)):St:=St.mk [(0,AV.ptr 2000000 []),(3,AV.ptr 3 []),(8,AV.val e8 v8),(11,AV.val Ty.str v11),(45,AV.at_ 1000045 []),(46,AV.val e8 v46),(47,AV.val e8 v47),(78,AV.val e8 v78),(79,AV.val e8 v79)] [(3,g8.var (Ty.pair e8 (Ty.pair e8 (Ty.pair e8 (Ty.pair e8 (Ty.pair e8 (Ty.pair V9 (Ty.pair Ty.str Ty.unit))))))) (cr,aZ,aT,aJ,aA,ar,ao,())),(1000045,g8.own (Ty.d0 true Ty.str) bZ),(2000000,g8.var u3 ((az,an,()),aj,ak,ah,()))]
theorem b63 (v8:Int) (v11:List UInt8) (v46:Int) (v47:Int) (v78:Int) (v79:Int) (cr:Int) (aZ:Int) (aT:Int) (aJ:Int) (aA:Int) (ar:List Int) (ao:List UInt8) (bZ:List (List UInt8)) (az:Int) (an:Int) (aj:List n9) (ak:List (List UInt8)) (ah:List (List UInt8)):exec a2d 1000 (.code (f9 (d8 Tryz.prog 66) 12).1::.inLoop (f9 (d8 Tryz.prog 66) 12).1::(f9 (d8 Tryz.prog 66) 12).2) (a4v v8 v11 v46 v47 v78 v79 cr aZ aT aJ aA ar ao bZ az an aj ak ah) =
  cond (decide (v79<v78)) (.f6 (List.length aj<=6) (cond (r9 ((az,an,()),aj,ak,ah,()) v79) (.f6 (True) (.f6 (r7 IntKind.i64 ((↑(List.length ak):Int) - (1:Int))) (.f6 (True) (.f6 (r7 IntKind.i64 (v79+(1:Int))) (.ctL (f9 (d8 Tryz.prog 66) 12) (St.mk [(0,AV.ptr 2000000 []),(3,AV.ptr 3 []),(8,AV.val e8 v8),(11,AV.val Ty.str v11),(45,AV.at_ 1000045 []),(46,AV.val e8 v46),(47,AV.val e8 v47),(78,AV.val e8 v78),(79,AV.val e8 (v79+(1:Int)))] [(3,g8.var (Ty.pair e8 (Ty.pair e8 (Ty.pair e8 (Ty.pair e8 (Ty.pair e8 (Ty.pair V9 (Ty.pair Ty.str Ty.unit))))))) (cr,aZ,aT,aJ,aA,ar,ao,())),(1000045,g8.own (Ty.d0 true Ty.str) bZ),(2000000,g8.var u3 (J9 ((az,an,()),aj,ak,ah,()) (2:Int) (J6 ((az,an,()),aj,ak,ah,())) v79 ((↑(List.length ak):Int) - (1:Int)) v11))])))))) (.f6 (r7 IntKind.i64 (v79+(1:Int))) (.ctL (f9 (d8 Tryz.prog 66) 12) (St.mk [(0,AV.ptr 2000000 []),(3,AV.ptr 3 []),(8,AV.val e8 v8),(11,AV.val Ty.str v11),(45,AV.at_ 1000045 []),(46,AV.val e8 v46),(47,AV.val e8 v47),(78,AV.val e8 v78),(79,AV.val e8 (v79+(1:Int)))] [(3,g8.var (Ty.pair e8 (Ty.pair e8 (Ty.pair e8 (Ty.pair e8 (Ty.pair e8 (Ty.pair V9 (Ty.pair Ty.str Ty.unit))))))) (cr,aZ,aT,aJ,aA,ar,ao,())),(1000045,g8.own (Ty.d0 true Ty.str) bZ),(2000000,g8.var u3 ((az,an,()),aj,ak,ah,()))]))))) (.f6 (r7 IntKind.i64 (v47+(1:Int))) (.ctL (f9 (d8 Tryz.prog 66) 7) (St.mk [(0,AV.ptr 2000000 []),(3,AV.ptr 3 []),(8,AV.val e8 v8),(45,AV.at_ 1000045 []),(46,AV.val e8 v46),(47,AV.val e8 (v47+(1:Int)))] [(3,g8.var (Ty.pair e8 (Ty.pair e8 (Ty.pair e8 (Ty.pair e8 (Ty.pair e8 (Ty.pair V9 (Ty.pair Ty.str Ty.unit))))))) (cr,aZ,aT,aJ,aA,ar,ao,())),(1000045,g8.own (Ty.d0 true Ty.str) bZ),(2000000,g8.var u3 ((az,an,()),aj,ak,ah,()))]))):=by kernel_rfl
attribute [local irreducible] V4 J9 C3 D0 H4 F3 in
theorem b4x:b4y.Valid Tryz.prog 66:=by
  refine p9.o5 a3i rfl rfl Tryz.func66 (c:=d8 Tryz.prog 66) rfl rfl a3g rfl ?_;rintro ⟨⟨⟨(v0:Int),(v1:Int),⟨⟩⟩,(al:List n9),(od:List (List UInt8)),(wy:List (List UInt8)),⟨⟩⟩,⟨(nk:Int),(nf:Int),(nt:Int),(nv:Int),(ns:Int),(na:List Int),(nx:List UInt8),⟨⟩⟩,⟨⟩⟩ ⟨(hp:al.length<=6),(hk:¬ known ((v0,v1,()),al,od,wy,()) nf≠0),(ho:od.length<=1000000000000)⟩ ⟨-,⟨⟨-,(mF:r7 .i64 nf),-⟩,-⟩⟩;refine j5 (n:=1000) a3i a3g ?_;refine g9 (c2N v0 v1 al od wy nk nf nt nv ns na nx) ?_;simp only [j6,Tree.holds,true_and,true_implies,decide_eq_true_eq,decide_eq_false_iff_not,Bool.not_eq_true',Bool.not_eq_false',Int.toNat_natCast,j7,List.length_set,List.length_cons,List.length_nil];have key:∀ r:f7,V4 ((v0,v1,()),al,od,wy,()) (nk,nf,nt,nv,ns,na,nx,())=r->(((r,()):f7×Unit)=(V4 ((v0,v1,()),al,od,wy,()) (nk,nf,nt,nv,ns,na,nx,()),())):=by rintro r rfl; rfl
  have e1:=λ a=>(V4.eq_1 ((v0,v1,()),al,od,wy,()) (nk,nf,nt,nv,ns,na,nx,())).trans (if_pos a);have e2:=λ a=>(V4.eq_1 ((v0,v1,()),al,od,wy,()) (nk,nf,nt,nv,ns,na,nx,())).trans (if_neg a);refine ⟨a5u hk,λ _=>⟨λ a=>key _ (e1 a),λ a=>?_⟩⟩;have e3:=e2 a;have bL:=a0K (Decidable.not_not.1 a);obtain ⟨w,hw⟩:∃ w:f7,w=a1p ((v0,v1,()),al,od,wy,()) nf (a2x (M0 ((v0,v1,()),al,od,wy,()) nf) (W7 ((v0,v1,()),al,od,wy,()) (nk,nf,nt,nv,ns,na,nx,())).1):=⟨_,rfl⟩;obtain ⟨first,hf⟩:∃ first,first=(M0 ((v0,v1,()),al,od,wy,()) nf).2.2.2.2.1.1:=⟨_,rfl⟩
  obtain ⟨l,hl⟩:∃ l,l=(W7 ((v0,v1,()),al,od,wy,()) (nk,nf,nt,nv,ns,na,nx,())).2.1:=⟨_,rfl⟩;have qk:w.2.1.length=al.length:=by rw [hw]; exact List.length_set ..
  have pn:w.2.2.1=od:=by rw [hw]; rfl
  have h0:0<=first/\first<=16777215:=by rw [hf]; exact bL.2.2.2.1
  have je:l.length<=16:=by rw [hl]; exact bL.2.2.1
  have bo:∀ t∈l,D5 t=false:=by rw [hl]; exact λ t ht=>(bL.1 t ht).2
  suffices go:Go.Ex.Reach a2d Tryz.f66 () (H4 nf first l w l.length,()) (.code (f9 (d8 Tryz.prog 66) 7).1::.inLoop (f9 (d8 Tryz.prog 66) 7).1::(f9 (d8 Tryz.prog 66) 7).2) (a5Z first (l.length:Int) ((0:Nat):Int) nk nf nt nv ns na nx l (H4 nf first l w 0).1.1 (H4 nf first l w 0).1.2.1 (H4 nf first l w 0).2.1 (H4 nf first l w 0).2.2.1 (H4 nf first l w 0).2.2.2.1) by
    subst hw; subst hf; subst hl;rw [e3];rw [H4] at go;exact go
  refine Reach.K3 a3i a3g (λ i:Nat=>a5Z first (l.length:Int) (i:Int) nk nf nt nv ns na nx l (H4 nf first l w i).1.1 (H4 nf first l w i).1.2.1 (H4 nf first l w i).2.1 (H4 nf first l w i).2.2.1 (H4 nf first l w i).2.2.2.1) (λ i=>i<=l.length)
    (λ i=>l.length - i) 1000 (λ _=>⟨s7 rfl,s7 rfl⟩) ?_ 0 (Nat.zero_le _)
  rintro i k1 - ih;have k1:i<=l.length:=k1;refine g9 (c0G ..) ?_;have e4:((i:Nat):Int)+1=((i+1:Nat):Int):=by omega
  obtain ⟨t1,t2,t3⟩:=a6k (f:=nf) (first:=first) (l:=l) (w:=w) i;rw [pn] at t3;have jb:(D0 nf).length<=20:=a1B (j7.1 mF).1 (j7.1 mF).2;have qJ:(D0 (first+i)).length<=20:=a1B (by omega) (by omega);have dk:i<l.length->(l.getD i []).length<=200:=λ h=>a6C (bo _ (by rw [List.getD_eq_getElem?_getD,List.getElem?_eq_getElem h]; exact List.getElem_mem _));have jK:maxLen=9223372036854775807:=by decide
  have iv:Ty.wb .str=16:=rfl;simp only [j6,Tree.holds,true_and,true_implies,decide_eq_true_eq,decide_eq_false_iff_not,Bool.not_eq_true',Bool.not_eq_false',Int.toNat_natCast,j7,List.length_set,List.length_cons,List.length_nil,e4];refine ⟨λ c=>⟨by omega,λ _=>⟨?_,λ _=>⟨?_,λ _=>⟨?_,λ _=>⟨?_,λ _=>⟨?_,λ _=>⟨?_,λ _=>?_⟩⟩⟩⟩⟩⟩⟩,λ c=>?_⟩
  . simp only [List.length_cons,List.length_nil,jK]; omega
  . exact ⟨by omega,by omega⟩
  . simp only [List.length_append,List.length_cons,List.length_nil,jK]; omega
  . simp only [List.length_append,List.length_cons,List.length_nil,jK]; omega
  . have:=dk (by omega);simp only [List.length_append,List.length_cons,List.length_nil,jK]; omega
  . rw [iv,t3]; omega
  . obtain ⟨x,hx⟩:∃ x,x=H2 nf (first+i) (l.getD i []):=⟨_,rfl⟩;obtain ⟨u,hu⟩:∃ u,u=a7A (H4 nf first l w i) x:=⟨_,rfl⟩;have px:u.2.1=(H4 nf first l w i).2.1:=by rw [hu]; rfl
    suffices go:Go.Ex.Reach a2d Tryz.f66 () (H4 nf first l w l.length,()) (.code (f9 (d8 Tryz.prog 66) 12).1::.inLoop (f9 (d8 Tryz.prog 66) 12).1::(f9 (d8 Tryz.prog 66) 12).2) (a4v first x (l.length:Int) (i:Int) (u.2.1.length:Int) ((0:Nat):Int) nk nf nt nv ns na nx l (F3 x u 0).1.1 (F3 x u 0).1.2.1 (F3 x u 0).2.1 (F3 x u 0).2.2.1 (F3 x u 0).2.2.2.1) by
      subst hu; subst hx;rw [F3] at go;exact go
    refine Reach.K3 a3i a3g (λ p:Nat=>a4v first x (l.length:Int) (i:Int) (u.2.1.length:Int) (p:Int) nk nf nt nv ns na nx l (F3 x u p).1.1 (F3 x u p).1.2.1 (F3 x u p).2.1 (F3 x u p).2.2.1 (F3 x u p).2.2.2.1) (λ p=>p<=u.2.1.length)
      (λ p=>u.2.1.length - p) 1000 (λ _=>⟨s7 rfl,s7 rfl⟩) ?_ 0 (Nat.zero_le _)
    rintro p k2 - ih2;have k2:p<=u.2.1.length:=k2;refine g9 (b63 ..) ?_;have e5:((p:Nat):Int)+1=((p+1:Nat):Int):=by omega
    obtain ⟨c1,c2,c3⟩:=a61 (x:=x) (w:=u) p;have qs:u.2.1.length<=6:=by rw [px,t1,qk]; exact hp
    have qq:u.2.2.1.length=od.length+i+1:=by rw [hu]; show ((H4 nf first l w i).2.2.1++[x]).length=_; rw [List.length_append,t3]; rfl
    simp only [j6,Tree.holds,true_and,true_implies,decide_eq_true_eq,decide_eq_false_iff_not,Bool.not_eq_true',Bool.not_eq_false',Int.toNat_natCast,j7,List.length_set,List.length_cons,List.length_nil,e5];refine ⟨λ d=>⟨?_,λ _=>⟨λ e=>⟨?_,λ _=>⟨?_,λ _=>?_⟩⟩,λ e=>⟨?_,λ _=>?_⟩⟩⟩,λ d=>⟨?_,λ _=>?_⟩⟩
    . rw [c1]; exact qs
    . rw [c3,qq]; exact ⟨by omega,by omega⟩
    . exact ⟨by omega,by omega⟩
    . have:=ih2 (p+1) (by show p+1<=u.2.1.length; omega) (by show u.2.1.length - (p+1)<u.2.1.length - p; omega);rw [c2d e] at this;exact this
    . exact ⟨by omega,by omega⟩
    . have:=ih2 (p+1) (by show p+1<=u.2.1.length; omega) (by show u.2.1.length - (p+1)<u.2.1.length - p; omega);rw [c2e e] at this;exact this
    . exact ⟨by omega,by omega⟩
    . obtain rfl:p=u.2.1.length:=by omega
      have:=ih (i+1) (by show i+1<=l.length; omega) (by show l.length - (i+1)<l.length - i; omega);rw [show H4 nf first l w (i+1)=F3 x u u.2.1.length by rw [H4,px,hu,hx]] at this;exact this
  . obtain rfl:i=l.length:=by omega
    rfl
theorem a6G {q:Int} {x:n9} {t:List UInt8} (h:who t=q) (h2:(N6 x.2.2.1 (nth t+1)).2.1=0):a0V q x t=(x.1,x.2.1++[(who t,a4f t,())],(N6 x.2.2.1 (nth t+1)).1,x.2.2.2):=by
  rw [a0V]; exact if_pos ⟨h,h2⟩
theorem a5x {q:Int} {x:n9} {t:List UInt8} (h:¬ (who t=q/\(N6 x.2.2.1 (nth t+1)).2.1=0)):a0V q x t=(x.1,x.2.1++[(who t,a4f t,())],x.2.2):=by
  rw [a0V]; exact if_neg h
theorem b1P (q:Int) (x:n9) (t:List UInt8):(a0V q x t).2.1=x.2.1++[(who t,a4f t,())]:=by
  rw [a0V]; split<;>rfl
theorem a4n {q:Int} {x:n9} {l:List (List UInt8)}:∀ i,(I7 q x l i).2.1.length=x.2.1.length+i
  | 0=>rfl
  | i+1=>by rw [I7,b1P,List.length_append,a4n i]; rfl
def b4v:p9:={ ps:=[.rw u3,.v b1h],rs:=[],pre:=λ x=>(LE.le (α:=Int) 0 x.2.1.2.2.1/\LT.lt (α:=Int) x.2.1.2.2.1 (List.length (α:=n9) (x.1:f7).2.1))/\List.length (α:=B9) (M0 x.1 x.2.1.2.2.1).2.1<=1000000000000/\(∀ t∈(N3 x.1 x.2.1).2.1,okT t),fn:=λ _=>(),out:=λ x=>(a0b x.1 x.2.1,()) }
noncomputable def a7o:Env:={ P:=Tryz.prog,tt:=tt,C0:=[(83,b9t),(86,c2c),(84,c7c),(85,b9Z)],res:=[],rs:=[],ps:=[PK.rw u3,PK.v (Ty.pair e8 (Ty.pair e8 (Ty.pair e8 (Ty.pair e8 (Ty.pair e8 (Ty.pair V9 (Ty.pair Ty.str Ty.unit)))))))],y5:=[(6,[(3,none),(4,none),(49,some (Ty.d0 true Ty.str)),(50,none),(51,none)])],nt:=110 }
theorem a7n:u6 a7o:=w9 q9 ⟨a8c,b4E,b9U,b6Q,trivial⟩
theorem a7h:y7 a7o Tryz.f67:=⟨rfl,rfl⟩
theorem c4z (ai:Int) (af:Int) (ab:List n9) (ae:List (List UInt8)) (aa:List (List UInt8)) (bu:Int) (aC:Int) (aB:Int) (ba:Int) (aG:Int) (aU:List Int) (aw:List UInt8):exec a7o 1000 [.code (d8 Tryz.prog 67)] (s5 b4v.ps ((((ai,af,()),ab,ae,aa,()),(bu,aC,aB,ba,aG,aU,aw,()),()))) =
  .f6 ((0:Int)<=aB/\aB<(↑(List.length ab):Int)) (.f6 (True) (cond (decide (Prod.fst (Prod.snd (Prod.snd (C3 (Prod.fst (Prod.snd (Prod.snd (Prod.snd (List.getD ab (Int.toNat aB) (false,[],((0:Int),[],()),((0:Int),[],()),((0:Int),[],()),())))))) (aG,aw,()))))≠(0:Int))) (.ret ((((ai,af,()),ab,ae,aa,()),()))) (.ctL (f9 (d8 Tryz.prog 67) 6) (St.mk [(3,AV.ptr 3 []),(4,AV.ptr 2000000 [Step.l7 1,Step.idx aB]),(49,AV.at_ 1000049 []),(50,AV.val e8 (↑(List.length (Prod.fst (Prod.snd (C3 (Prod.fst (Prod.snd (Prod.snd (Prod.snd (List.getD ab (Int.toNat aB) (false,[],((0:Int),[],()),((0:Int),[],()),((0:Int),[],()),())))))) (aG,aw,()))))):Int)),(51,AV.val e8 (0:Int))] [(3,g8.var (Ty.pair e8 (Ty.pair e8 (Ty.pair e8 (Ty.pair e8 (Ty.pair e8 (Ty.pair V9 (Ty.pair Ty.str Ty.unit))))))) (bu,aC,aB,ba,aG,aU,aw,())),(1000049,g8.own (Ty.d0 true Ty.str) (Prod.fst (Prod.snd (C3 (Prod.fst (Prod.snd (Prod.snd (Prod.snd (List.getD ab (Int.toNat aB) (false,[],((0:Int),[],()),((0:Int),[],()),((0:Int),[],()),())))))) (aG,aw,()))))),(2000000,g8.var u3 ((ai,af,()),List.set ab (Int.toNat aB) (Prod.fst (List.getD ab (Int.toNat aB) (false,[],((0:Int),[],()),((0:Int),[],()),((0:Int),[],()),())),Prod.fst (Prod.snd (List.getD ab (Int.toNat aB) (false,[],((0:Int),[],()),((0:Int),[],()),((0:Int),[],()),()))),Prod.fst (Prod.snd (Prod.snd (List.getD ab (Int.toNat aB) (false,[],((0:Int),[],()),((0:Int),[],()),((0:Int),[],()),())))),Prod.fst (C3 (Prod.fst (Prod.snd (Prod.snd (Prod.snd (List.getD ab (Int.toNat aB) (false,[],((0:Int),[],()),((0:Int),[],()),((0:Int),[],()),())))))) (aG,aw,())),Prod.snd (Prod.snd (Prod.snd (Prod.snd (List.getD ab (Int.toNat aB) (false,[],((0:Int),[],()),((0:Int),[],()),((0:Int),[],()),())))))),ae,aa,()))])))):=by kernel_rfl
def a7m (v4i:Int) (v50:Int) (v51:Int) (cr:Int) (aZ:Int) (aT:Int) (aJ:Int) (aA:Int) (ar:List Int) (ao:List UInt8) (bf:List (List UInt8)) (az:Int) (an:Int) (aj:List n9) (ak:List (List UInt8)) (ah:List (List UInt8)):St:=St.mk [(3,AV.ptr 3 []),(4,AV.ptr 2000000 [Step.l7 1,Step.idx v4i]),(49,AV.at_ 1000049 []),(50,AV.val e8 v50),(51,AV.val e8 v51)] [(3,g8.var (Ty.pair e8 (Ty.pair e8 (Ty.pair e8 (Ty.pair e8 (Ty.pair e8 (Ty.pair V9 (Ty.pair Ty.str Ty.unit))))))) (cr,aZ,aT,aJ,aA,ar,ao,())),(1000049,g8.own (Ty.d0 true Ty.str) bf),(2000000,g8.var u3 ((az,an,()),aj,ak,ah,()))]
theorem c2M (v4i:Int) (v50:Int) (v51:Int) (cr:Int) (aZ:Int) (aT:Int) (aJ:Int) (aA:Int) (ar:List Int) (ao:List UInt8) (bf:List (List UInt8)) (az:Int) (an:Int) (aj:List n9) (ak:List (List UInt8)) (ah:List (List UInt8)):exec a7o 1000 (.code (f9 (d8 Tryz.prog 67) 6).1::.inLoop (f9 (d8 Tryz.prog 67) 6).1::(f9 (d8 Tryz.prog 67) 6).2) (a7m v4i v50 v51 cr aZ aT aJ aA ar ao bf az an aj ak ah) =
  cond (decide (v51<v50)) (.f6 ((0:Int)<=v51/\v51<(↑(List.length bf):Int)) (.f6 (List.length (List.getD bf (Int.toNat v51) [])<=1000000/\Array.toList (ByteArray.data (ByteArray.mk #[(58:UInt8)]))=[(58:UInt8)]) (.f6 (List.length (Prod.fst (Prod.snd (w7 (List.getD bf (Int.toNat v51) []))))<=1000000/\Array.toList (ByteArray.data (ByteArray.mk #[(58:UInt8)]))=[(58:UInt8)]) (.f6 (List.length (Prod.fst (w7 (List.getD bf (Int.toNat v51) [])))<=18/\Option.isSome (Go.Lib.atoi (Prod.fst (w7 (List.getD bf (Int.toNat v51) []))))=true) (.f6 (True/\True/\[Step.l7 1,Step.idx v4i]++[Step.l7 1]=[Step.l7 1,Step.idx v4i]++[Step.l7 1]/\List.length (Prod.fst (Prod.snd (List.getD aj (Int.toNat v4i) (false,[],((0:Int),[],()),((0:Int),[],()),((0:Int),[],()),()))))+List.length (List.set [((0:Int),[],())] (Int.toNat (↑0:Int)) (Option.getD (Go.Lib.atoi (Prod.fst (w7 (List.getD bf (Int.toNat v51) [])))) (0:Int),Prod.fst (Prod.snd (w7 (Prod.fst (Prod.snd (w7 (List.getD bf (Int.toNat v51) [])))))),()))<=140737488355328/\(List.length (Prod.fst (Prod.snd (List.getD aj (Int.toNat v4i) (false,[],((0:Int),[],()),((0:Int),[],()),((0:Int),[],()),()))))+List.length (List.set [((0:Int),[],())] (Int.toNat (↑0:Int)) (Option.getD (Go.Lib.atoi (Prod.fst (w7 (List.getD bf (Int.toNat v51) [])))) (0:Int),Prod.fst (Prod.snd (w7 (Prod.fst (Prod.snd (w7 (List.getD bf (Int.toNat v51) [])))))),())))*Ty.wb p7<=140737488355328) (cond (decide (Option.getD (Go.Lib.atoi (Prod.fst (w7 (List.getD bf (Int.toNat v51) [])))) (0:Int)=aT)) (.f6 (List.length (Prod.fst (w7 (Prod.fst (Prod.snd (w7 (List.getD bf (Int.toNat v51) []))))))<=18/\Option.isSome (Go.Lib.atoi (Prod.fst (w7 (Prod.fst (Prod.snd (w7 (List.getD bf (Int.toNat v51) [])))))))=true) (.f6 (r7 IntKind.i64 (Option.getD (Go.Lib.atoi (Prod.fst (w7 (Prod.fst (Prod.snd (w7 (List.getD bf (Int.toNat v51) []))))))) (0:Int)+(1:Int))) (.f6 ((0:Int)<=Option.getD (Go.Lib.atoi (Prod.fst (w7 (Prod.fst (Prod.snd (w7 (List.getD bf (Int.toNat v51) []))))))) (0:Int)+(1:Int)) (cond (decide (Prod.fst (Prod.snd (N6 (Prod.fst (Prod.snd (Prod.snd (List.getD (List.set aj (Int.toNat v4i) (Prod.fst (List.getD aj (Int.toNat v4i) (false,[],((0:Int),[],()),((0:Int),[],()),((0:Int),[],()),())),Prod.fst (Prod.snd (List.getD aj (Int.toNat v4i) (false,[],((0:Int),[],()),((0:Int),[],()),((0:Int),[],()),())))++List.set [((0:Int),[],())] (Int.toNat (↑0:Int)) (Option.getD (Go.Lib.atoi (Prod.fst (w7 (List.getD bf (Int.toNat v51) [])))) (0:Int),Prod.fst (Prod.snd (w7 (Prod.fst (Prod.snd (w7 (List.getD bf (Int.toNat v51) [])))))),()),Prod.snd (Prod.snd (List.getD aj (Int.toNat v4i) (false,[],((0:Int),[],()),((0:Int),[],()),((0:Int),[],()),()))))) (Int.toNat v4i) (false,[],((0:Int),[],()),((0:Int),[],()),((0:Int),[],()),()))))) (Option.getD (Go.Lib.atoi (Prod.fst (w7 (Prod.fst (Prod.snd (w7 (List.getD bf (Int.toNat v51) []))))))) (0:Int)+(1:Int))))=(0:Int))) (.f6 (r7 IntKind.i64 (v51+(1:Int))) (.ctL (f9 (d8 Tryz.prog 67) 6) (St.mk [(3,AV.ptr 3 []),(4,AV.ptr 2000000 [Step.l7 1,Step.idx v4i]),(49,AV.at_ 1000049 []),(50,AV.val e8 v50),(51,AV.val e8 (v51+(1:Int)))] [(3,g8.var (Ty.pair e8 (Ty.pair e8 (Ty.pair e8 (Ty.pair e8 (Ty.pair e8 (Ty.pair V9 (Ty.pair Ty.str Ty.unit))))))) (cr,aZ,aT,aJ,aA,ar,ao,())),(1000049,g8.own (Ty.d0 true Ty.str) bf),(2000000,g8.var u3 ((az,an,()),List.set (List.set aj (Int.toNat v4i) (Prod.fst (List.getD aj (Int.toNat v4i) (false,[],((0:Int),[],()),((0:Int),[],()),((0:Int),[],()),())),Prod.fst (Prod.snd (List.getD aj (Int.toNat v4i) (false,[],((0:Int),[],()),((0:Int),[],()),((0:Int),[],()),())))++List.set [((0:Int),[],())] (Int.toNat (↑0:Int)) (Option.getD (Go.Lib.atoi (Prod.fst (w7 (List.getD bf (Int.toNat v51) [])))) (0:Int),Prod.fst (Prod.snd (w7 (Prod.fst (Prod.snd (w7 (List.getD bf (Int.toNat v51) [])))))),()),Prod.snd (Prod.snd (List.getD aj (Int.toNat v4i) (false,[],((0:Int),[],()),((0:Int),[],()),((0:Int),[],()),()))))) (Int.toNat v4i) (Prod.fst (List.getD (List.set aj (Int.toNat v4i) (Prod.fst (List.getD aj (Int.toNat v4i) (false,[],((0:Int),[],()),((0:Int),[],()),((0:Int),[],()),())),Prod.fst (Prod.snd (List.getD aj (Int.toNat v4i) (false,[],((0:Int),[],()),((0:Int),[],()),((0:Int),[],()),())))++List.set [((0:Int),[],())] (Int.toNat (↑0:Int)) (Option.getD (Go.Lib.atoi (Prod.fst (w7 (List.getD bf (Int.toNat v51) [])))) (0:Int),Prod.fst (Prod.snd (w7 (Prod.fst (Prod.snd (w7 (List.getD bf (Int.toNat v51) [])))))),()),Prod.snd (Prod.snd (List.getD aj (Int.toNat v4i) (false,[],((0:Int),[],()),((0:Int),[],()),((0:Int),[],()),()))))) (Int.toNat v4i) (false,[],((0:Int),[],()),((0:Int),[],()),((0:Int),[],()),())),Prod.fst (Prod.snd (List.getD (List.set aj (Int.toNat v4i) (Prod.fst (List.getD aj (Int.toNat v4i) (false,[],((0:Int),[],()),((0:Int),[],()),((0:Int),[],()),())),Prod.fst (Prod.snd (List.getD aj (Int.toNat v4i) (false,[],((0:Int),[],()),((0:Int),[],()),((0:Int),[],()),())))++List.set [((0:Int),[],())] (Int.toNat (↑0:Int)) (Option.getD (Go.Lib.atoi (Prod.fst (w7 (List.getD bf (Int.toNat v51) [])))) (0:Int),Prod.fst (Prod.snd (w7 (Prod.fst (Prod.snd (w7 (List.getD bf (Int.toNat v51) [])))))),()),Prod.snd (Prod.snd (List.getD aj (Int.toNat v4i) (false,[],((0:Int),[],()),((0:Int),[],()),((0:Int),[],()),()))))) (Int.toNat v4i) (false,[],((0:Int),[],()),((0:Int),[],()),((0:Int),[],()),()))),Prod.fst (N6 (Prod.fst (Prod.snd (Prod.snd (List.getD (List.set aj (Int.toNat v4i) (Prod.fst (List.getD aj (Int.toNat v4i) (false,[],((0:Int),[],()),((0:Int),[],()),((0:Int),[],()),())),Prod.fst (Prod.snd (List.getD aj (Int.toNat v4i) (false,[],((0:Int),[],()),((0:Int),[],()),((0:Int),[],()),())))++List.set [((0:Int),[],())] (Int.toNat (↑0:Int)) (Option.getD (Go.Lib.atoi (Prod.fst (w7 (List.getD bf (Int.toNat v51) [])))) (0:Int),Prod.fst (Prod.snd (w7 (Prod.fst (Prod.snd (w7 (List.getD bf (Int.toNat v51) [])))))),()),Prod.snd (Prod.snd (List.getD aj (Int.toNat v4i) (false,[],((0:Int),[],()),((0:Int),[],()),((0:Int),[],()),()))))) (Int.toNat v4i) (false,[],((0:Int),[],()),((0:Int),[],()),((0:Int),[],()),()))))) (Option.getD (Go.Lib.atoi (Prod.fst (w7 (Prod.fst (Prod.snd (w7 (List.getD bf (Int.toNat v51) []))))))) (0:Int)+(1:Int))),Prod.snd (Prod.snd (Prod.snd (List.getD (List.set aj (Int.toNat v4i) (Prod.fst (List.getD aj (Int.toNat v4i) (false,[],((0:Int),[],()),((0:Int),[],()),((0:Int),[],()),())),Prod.fst (Prod.snd (List.getD aj (Int.toNat v4i) (false,[],((0:Int),[],()),((0:Int),[],()),((0:Int),[],()),())))++List.set [((0:Int),[],())] (Int.toNat (↑0:Int)) (Option.getD (Go.Lib.atoi (Prod.fst (w7 (List.getD bf (Int.toNat v51) [])))) (0:Int),Prod.fst (Prod.snd (w7 (Prod.fst (Prod.snd (w7 (List.getD bf (Int.toNat v51) [])))))),()),Prod.snd (Prod.snd (List.getD aj (Int.toNat v4i) (false,[],((0:Int),[],()),((0:Int),[],()),((0:Int),[],()),()))))) (Int.toNat v4i) (false,[],((0:Int),[],()),((0:Int),[],()),((0:Int),[],()),()))))),ak,ah,()))]))) (.f6 (r7 IntKind.i64 (v51+(1:Int))) (.ctL (f9 (d8 Tryz.prog 67) 6) (St.mk [(3,AV.ptr 3 []),(4,AV.ptr 2000000 [Step.l7 1,Step.idx v4i]),(49,AV.at_ 1000049 []),(50,AV.val e8 v50),(51,AV.val e8 (v51+(1:Int)))] [(3,g8.var (Ty.pair e8 (Ty.pair e8 (Ty.pair e8 (Ty.pair e8 (Ty.pair e8 (Ty.pair V9 (Ty.pair Ty.str Ty.unit))))))) (cr,aZ,aT,aJ,aA,ar,ao,())),(1000049,g8.own (Ty.d0 true Ty.str) bf),(2000000,g8.var u3 ((az,an,()),List.set aj (Int.toNat v4i) (Prod.fst (List.getD aj (Int.toNat v4i) (false,[],((0:Int),[],()),((0:Int),[],()),((0:Int),[],()),())),Prod.fst (Prod.snd (List.getD aj (Int.toNat v4i) (false,[],((0:Int),[],()),((0:Int),[],()),((0:Int),[],()),())))++List.set [((0:Int),[],())] (Int.toNat (↑0:Int)) (Option.getD (Go.Lib.atoi (Prod.fst (w7 (List.getD bf (Int.toNat v51) [])))) (0:Int),Prod.fst (Prod.snd (w7 (Prod.fst (Prod.snd (w7 (List.getD bf (Int.toNat v51) [])))))),()),Prod.snd (Prod.snd (List.getD aj (Int.toNat v4i) (false,[],((0:Int),[],()),((0:Int),[],()),((0:Int),[],()),())))),ak,ah,()))]))))))) (.f6 (r7 IntKind.i64 (v51+(1:Int))) (.ctL (f9 (d8 Tryz.prog 67) 6) (St.mk [(3,AV.ptr 3 []),(4,AV.ptr 2000000 [Step.l7 1,Step.idx v4i]),(49,AV.at_ 1000049 []),(50,AV.val e8 v50),(51,AV.val e8 (v51+(1:Int)))] [(3,g8.var (Ty.pair e8 (Ty.pair e8 (Ty.pair e8 (Ty.pair e8 (Ty.pair e8 (Ty.pair V9 (Ty.pair Ty.str Ty.unit))))))) (cr,aZ,aT,aJ,aA,ar,ao,())),(1000049,g8.own (Ty.d0 true Ty.str) bf),(2000000,g8.var u3 ((az,an,()),List.set aj (Int.toNat v4i) (Prod.fst (List.getD aj (Int.toNat v4i) (false,[],((0:Int),[],()),((0:Int),[],()),((0:Int),[],()),())),Prod.fst (Prod.snd (List.getD aj (Int.toNat v4i) (false,[],((0:Int),[],()),((0:Int),[],()),((0:Int),[],()),())))++List.set [((0:Int),[],())] (Int.toNat (↑0:Int)) (Option.getD (Go.Lib.atoi (Prod.fst (w7 (List.getD bf (Int.toNat v51) [])))) (0:Int),Prod.fst (Prod.snd (w7 (Prod.fst (Prod.snd (w7 (List.getD bf (Int.toNat v51) [])))))),()),Prod.snd (Prod.snd (List.getD aj (Int.toNat v4i) (false,[],((0:Int),[],()),((0:Int),[],()),((0:Int),[],()),())))),ak,ah,()))]))))))))) (.ret ((((az,an,()),aj,ak,ah,()),()))):=by kernel_rfl
attribute [local irreducible] a0b C3 N6 w7 Lib.atoi in
theorem b4u:b4v.Valid Tryz.prog 67:=by
  refine p9.o5 a7n rfl rfl Tryz.func67 (c:=d8 Tryz.prog 67) rfl rfl a7h rfl ?_;rintro ⟨⟨⟨(v0:Int),(v1:Int),⟨⟩⟩,(al:List n9),(od:List (List UInt8)),(wy:List (List UInt8)),⟨⟩⟩,⟨(nk:Int),(nf:Int),(nt:Int),(nv:Int),(ns:Int),(na:List Int),(nx:List UInt8),⟨⟩⟩,⟨⟩⟩ ⟨(hp:0<=nt/\nt<(al.length:Int)),(hl:(M0 ((v0,v1,()),al,od,wy,()) nt).2.1.length<=1000000000000),(aP:∀ t∈(N3 ((v0,v1,()),al,od,wy,()) (nk,nf,nt,nv,ns,na,nx,())).2.1,okT t)⟩ -
  refine j5 (n:=1000) a7n a7h ?_;refine g9 (c4z v0 v1 al od wy nk nf nt nv ns na nx) ?_;simp only [j6,Tree.holds,true_and,true_implies,decide_eq_true_eq,decide_eq_false_iff_not,Bool.not_eq_true',Bool.not_eq_false',Int.toNat_natCast,j7,List.length_set,List.length_cons,List.length_nil];have e1:=λ a=>(a0b.eq_1 ((v0,v1,()),al,od,wy,()) (nk,nf,nt,nv,ns,na,nx,())).trans (if_pos a);have e2:=λ a=>(a0b.eq_1 ((v0,v1,()),al,od,wy,()) (nk,nf,nt,nv,ns,na,nx,())).trans (if_neg a);have key:∀ r:f7,a0b ((v0,v1,()),al,od,wy,()) (nk,nf,nt,nv,ns,na,nx,())=r->(((r,()):f7×Unit)=(a0b ((v0,v1,()),al,od,wy,()) (nk,nf,nt,nv,ns,na,nx,()),())):=by rintro r rfl; rfl
  refine ⟨hp,λ _=>⟨λ a=>key _ (e1 a),λ a=>?_⟩⟩;have e3:=e2 a;have bL:=a0K (Decidable.not_not.1 a);obtain ⟨x,hx⟩:∃ x:n9,x=a9w (M0 ((v0,v1,()),al,od,wy,()) nt) (N3 ((v0,v1,()),al,od,wy,()) (nk,nf,nt,nv,ns,na,nx,())).1:=⟨_,rfl⟩;obtain ⟨l,je⟩:∃ l,l=(N3 ((v0,v1,()),al,od,wy,()) (nk,nf,nt,nv,ns,na,nx,())).2.1:=⟨_,rfl⟩;have pk:x.2.1.length<=1000000000000:=by rw [hx]; exact hl
  have qV:l.length<=16:=by rw [je]; exact bL.2.2.1
  have bo:∀ t∈l,D5 t=false:=by rw [je]; exact λ t ht=>(bL.1 t ht).2
  have ic:∀ t∈l,okT t:=by rw [je]; exact aP
  suffices go:Go.Ex.Reach a7o Tryz.f67 () (a1p ((v0,v1,()),al,od,wy,()) nt (I7 nt x l l.length),()) (.code (f9 (d8 Tryz.prog 67) 6).1::.inLoop (f9 (d8 Tryz.prog 67) 6).1::(f9 (d8 Tryz.prog 67) 6).2) (a7m nt (l.length:Int) ((0:Nat):Int) nk nf nt nv ns na nx l v0 v1 (al.set nt.toNat (I7 nt x l 0)) od wy) by
    subst hx; subst je;rw [e3];rw [I7] at go;exact go
  refine Reach.K3 a7n a7h (λ i:Nat=>a7m nt (l.length:Int) (i:Int) nk nf nt nv ns na nx l v0 v1 (al.set nt.toNat (I7 nt x l i)) od wy) (λ i=>i<=l.length)
    (λ i=>l.length - i) 1000 (λ _=>⟨s7 rfl,s7 rfl⟩) ?_ 0 (Nat.zero_le _)
  rintro i k1 - ih;have k1:i<=l.length:=k1;refine g9 (c2M ..) ?_;have e4:((i:Nat):Int)+1=((i+1:Nat):Int):=by omega
  have hg:∀ y:n9,(al.set nt.toNat y).getD nt.toNat (false,[],(0,[],()),(0,[],()),(0,[],()),())=y:=λ y=>by
    rw [List.getD_eq_getElem?_getD,List.getElem?_set_self (by omega)]; rfl
  have nm:∀ y z:n9,(al.set nt.toNat y).set nt.toNat z=al.set nt.toNat z:=λ y z=>List.set_set ..;have iv:Ty.wb p7=24:=rfl;have hlen:=a4n (q:=nt) (x:=x) (l:=l) i;obtain ⟨y,hy⟩:∃ y,y=I7 nt x l i:=⟨_,rfl⟩;obtain ⟨t,ht⟩:∃ t,t=l.getD i []:=⟨_,rfl⟩;have hs:I7 nt x l (i+1)=a0V nt y t:=by rw [I7,<- hy,<- ht]
  have hT:i<l.length->D5 t=false/\okT t:=λ h=>by
    have:t∈l:=by rw [ht,List.getD_eq_getElem?_getD,List.getElem?_eq_getElem h]; exact List.getElem_mem _
    exact ⟨bo t this,ic t this⟩
  have ih1:i<l.length->_:=λ h=>ih (i+1) (by show i+1<=l.length; omega) (by show l.length - (i+1)<l.length - i; omega);rw [hs] at ih1;rw [<- hy] at hlen ⊢;simp only [j6,Tree.holds,true_and,true_implies,decide_eq_true_eq,decide_eq_false_iff_not,Bool.not_eq_true',Bool.not_eq_false',Int.toNat_natCast,j7,List.length_set,List.length_cons,List.length_nil,e4,hg,nm];rw [<- ht];have dm:=a3H t;have gy:=a3H (w7 t).2.1;refine ⟨λ c=>?_,λ c=>?_⟩
  . have c':i<l.length:=by omega
    obtain ⟨g1,g2⟩:=hT c';have g3:=a6C g1;have g4:=c5B g2;refine ⟨⟨by omega,by omega⟩,λ _=>⟨⟨by omega,trivial⟩,λ _=>⟨⟨by omega,trivial⟩,λ _=>⟨g4.1,λ _=>⟨?_,λ _=>⟨λ d=>⟨g4.2.1,λ _=>⟨?_,λ _=>⟨?_,λ _=>⟨λ e=>⟨?_,λ _=>?_⟩,λ e=>⟨?_,λ _=>?_⟩⟩⟩⟩⟩,λ d=>⟨?_,λ _=>?_⟩⟩⟩⟩⟩⟩⟩
    . rw [iv]; omega
    . have:0<=nth t/\nth t<=16777300:=g4.2.2;show r7 .i64 (nth t+1);exact j7.2 ⟨by omega,by omega⟩
    . have:0<=nth t/\nth t<=16777300:=g4.2.2;show 0<=nth t+1;omega
    . exact ⟨by omega,by omega⟩
    . have:=ih1 c';rw [a6G d e] at this;exact this
    . exact ⟨by omega,by omega⟩
    . have:=ih1 c';rw [a5x (λ h=>e h.2)] at this;exact this
    . exact ⟨by omega,by omega⟩
    . have:=ih1 c';rw [a5x (λ h=>d h.1)] at this;exact this
  . obtain rfl:i=l.length:=by omega
    rw [hy]; rfl
theorem a1t {w:f7} {n:y4}:∀ j,(E2 w n j).2.1=w.2.1/\(E2 w n j).1=w.1/\(E2 w n j).2.2.1=w.2.2.1
  | 0=>⟨rfl,rfl,rfl⟩
  | j+1=>by
    obtain ⟨h1,h2,h3⟩:=a1t (w:=w) (n:=n) j;rw [E2]
    split
    . obtain ⟨g1,g2,g3⟩:=a3Y (w:=E2 w n j) (k:=2) (f:=J6 (E2 w n j)) (t:=n.2.1) (s:=n.2.2.2.2.1+j) (x:=(E2 w n j).2.2.1.getD (n.2.2.2.2.1+j).toNat []);exact ⟨g1.trans h1,g2.trans h2,g3.trans h3⟩
    . exact ⟨h1,h2,h3⟩
theorem c2o {w:f7} {n:y4} {j:Nat} (h:n.2.2.2.2.1+j<(E2 w n j).2.2.1.length):E2 w n (j+1)=J9 (E2 w n j) 2 (J6 (E2 w n j)) n.2.1 (n.2.2.2.2.1+j) ((E2 w n j).2.2.1.getD (n.2.2.2.2.1+j).toNat []):=by
  rw [E2]; exact if_pos h
theorem b0e {w:f7} {n:y4} {j:Nat} (h:¬ n.2.2.2.2.1+j<w.2.2.1.length):∀ m,E2 w n (j+m)=E2 w n j
  | 0=>rfl
  | m+1=>by
    rw [<- Nat.add_assoc,E2,if_neg,b0e h m];rw [(a1t (j+m)).2.2];omega
structure a0r (w:f7) (n:y4):Prop where
  M8:w.2.1.length<=6
  to:0<=n.2.2.1/\n.2.2.1<(w.2.1.length:Int)
  seq:0<=n.2.2.2.2.1/\n.2.2.2.2.1<=16777215
  log:(M0 w n.2.2.1).2.1.length<=1000000000000
  ord:w.2.2.1.length<=1000000000000
  txt:n.1=2->∀ t∈(N3 w n).2.1,okT t
def a8U:p9:={ ps:=[.rw u3,.v b1h],rs:=[],pre:=λ x=>a0r x.1 x.2.1,fn:=λ _=>(),out:=λ x=>(E8 x.1 x.2.1,()) }
noncomputable def a2L:Env:={ P:=Tryz.prog,tt:=tt,C0:=[(49,a4W),(66,b4y),(67,b4v),(43,a7I),(44,b04)],res:=[],rs:=[],ps:=[PK.rw u3,PK.v (Ty.pair e8 (Ty.pair e8 (Ty.pair e8 (Ty.pair e8 (Ty.pair e8 (Ty.pair V9 (Ty.pair Ty.str Ty.unit)))))))],y5:=[(7,[(0,none),(3,none),(4,none)])],nt:=56 }
theorem a3O:u6 a2L:=w9 q9 ⟨a1M,b4x,b4u,a2l,a3a,trivial⟩
theorem a3M:y7 a2L Tryz.f48:=⟨rfl,rfl⟩
theorem b64 (ai:Int) (af:Int) (ab:List n9) (ae:List (List UInt8)) (aa:List (List UInt8)) (bu:Int) (aC:Int) (aB:Int) (ba:Int) (aG:Int) (aU:List Int) (aw:List UInt8):exec a2L 1000 [.code (d8 Tryz.prog 48)] (s5 a8U.ps ((((ai,af,()),ab,ae,aa,()),(bu,aC,aB,ba,aG,aU,aw,()),()))) =
  .f6 (List.length ab<=6) (cond (decide (known ((ai,af,()),ab,ae,aa,()) aC≠(0:Int))) (.ret ((((ai,af,()),ab,ae,aa,()),()))) (cond (decide (bu=(1:Int))) (.f6 (List.length ab<=6/\¬known ((ai,af,()),ab,ae,aa,()) aC≠(0:Int)/\List.length ae<=1000000000000) (.ret ((V4 ((ai,af,()),ab,ae,aa,()) (bu,aC,aB,ba,aG,aU,aw,()),())))) (cond (decide (bu=(3:Int))) (.ctL (f9 (d8 Tryz.prog 48) 7) (St.mk [(0,AV.ptr 2000000 []),(3,AV.ptr 3 []),(4,AV.val e8 aG)] [(3,g8.var (Ty.pair e8 (Ty.pair e8 (Ty.pair e8 (Ty.pair e8 (Ty.pair e8 (Ty.pair V9 (Ty.pair Ty.str Ty.unit))))))) (bu,aC,aB,ba,aG,aU,aw,())),(2000000,g8.var u3 ((ai,af,()),ab,ae,aa,()))])) (cond (decide (bu=(2:Int))) (.f6 (((0:Int)<=aB/\aB<(↑(List.length ab):Int))/\List.length (Prod.fst (Prod.snd (M0 ((ai,af,()),ab,ae,aa,()) aB)))<=1000000000000/\∀ (t:List UInt8),t∈Prod.fst (Prod.snd (N3 ((ai,af,()),ab,ae,aa,()) (bu,aC,aB,ba,aG,aU,aw,())))->okT t) (.ret ((a0b ((ai,af,()),ab,ae,aa,()) (bu,aC,aB,ba,aG,aU,aw,()),())))) (.ret ((((ai,af,()),ab,ae,aa,()),()))))))):=by kernel_rfl
def a3N (v4:Int) (cr:Int) (aZ:Int) (aT:Int) (aJ:Int) (aA:Int) (ar:List Int) (ao:List UInt8) (az:Int) (an:Int) (aj:List n9) (ak:List (List UInt8)) (ah:List (List UInt8)):St:=St.mk [(0,AV.ptr 2000000 []),(3,AV.ptr 3 []),(4,AV.val e8 v4)] [(3,g8.var (Ty.pair e8 (Ty.pair e8 (Ty.pair e8 (Ty.pair e8 (Ty.pair e8 (Ty.pair V9 (Ty.pair Ty.str Ty.unit))))))) (cr,aZ,aT,aJ,aA,ar,ao,())),(2000000,g8.var u3 ((az,an,()),aj,ak,ah,()))]
theorem b5R (v4:Int) (cr:Int) (aZ:Int) (aT:Int) (aJ:Int) (aA:Int) (ar:List Int) (ao:List UInt8) (az:Int) (an:Int) (aj:List n9) (ak:List (List UInt8)) (ah:List (List UInt8)):exec a2L 1000 (.code (f9 (d8 Tryz.prog 48) 7).1::.inLoop (f9 (d8 Tryz.prog 48) 7).1::(f9 (d8 Tryz.prog 48) 7).2) (a3N v4 cr aZ aT aJ aA ar ao az an aj ak ah) =
  cond (decide (v4<(↑(List.length ak):Int))) (.f6 (r7 IntKind.i64 (aA+(4:Int))) (cond (decide (v4<aA+(4:Int))) (.f6 (True) (.f6 ((0:Int)<=v4/\v4<(↑(List.length ak):Int)) (.f6 (True) (.f6 (r7 IntKind.i64 (v4+(1:Int))) (.ctL (f9 (d8 Tryz.prog 48) 7) (St.mk [(0,AV.ptr 2000000 []),(3,AV.ptr 3 []),(4,AV.val e8 (v4+(1:Int)))] [(3,g8.var (Ty.pair e8 (Ty.pair e8 (Ty.pair e8 (Ty.pair e8 (Ty.pair e8 (Ty.pair V9 (Ty.pair Ty.str Ty.unit))))))) (cr,aZ,aT,aJ,aA,ar,ao,())),(2000000,g8.var u3 (J9 ((az,an,()),aj,ak,ah,()) (2:Int) (J6 ((az,an,()),aj,ak,ah,())) aZ v4 (List.getD ak (Int.toNat v4) [])))])))))) (.ret ((((az,an,()),aj,ak,ah,()),()))))) (.ret ((((az,an,()),aj,ak,ah,()),()))):=by kernel_rfl
theorem a8a {w:f7} {n:y4} (h:known w n.2.1≠0):E8 w n=w:=by rw [E8]; exact if_pos h
theorem a6P {w:f7} {n:y4} (h:¬ known w n.2.1≠0) (h1:n.1=1):E8 w n=V4 w n:=by rw [E8]; exact (if_neg h).trans (if_pos h1)
theorem a6Q {w:f7} {n:y4} (h:¬ known w n.2.1≠0) (h1:n.1=3):E8 w n=E2 w n 4:=by rw [E8]; exact (if_neg h).trans ((if_neg (by omega)).trans (if_pos h1))
theorem a6b {w:f7} {n:y4} (h:¬ known w n.2.1≠0) (h1:n.1=2):E8 w n=a0b w n:=by rw [E8]; exact (if_neg h).trans ((if_neg (by omega)).trans ((if_neg (by omega)).trans (if_pos h1)))
theorem a6c {w:f7} {n:y4} (h1:n.1≠1) (h2:n.1≠3) (h3:n.1≠2):E8 w n=w:=by
  rw [E8,if_neg h1,if_neg h2,if_neg h3]; split<;>rfl
attribute [local irreducible] E8 V4 a0b E2 J9 in
theorem b09:a8U.Valid Tryz.prog 48:=by
  refine p9.o5 a3O rfl rfl Tryz.func48 (c:=d8 Tryz.prog 48) rfl rfl a3M rfl ?_;rintro ⟨⟨⟨(v0:Int),(v1:Int),⟨⟩⟩,(al:List n9),(od:List (List UInt8)),(wy:List (List UInt8)),⟨⟩⟩,⟨(nk:Int),(nf:Int),(nt:Int),(nv:Int),(ns:Int),(na:List Int),(nx:List UInt8),⟨⟩⟩,⟨⟩⟩ (hq:a0r ((v0,v1,()),al,od,wy,()) (nk,nf,nt,nv,ns,na,nx,())) -
  refine j5 (n:=1000) a3O a3M ?_;refine g9 (b64 v0 v1 al od wy nk nf nt nv ns na nx) ?_;simp only [j6,Tree.holds,true_and,true_implies,decide_eq_true_eq,decide_eq_false_iff_not,Bool.not_eq_true',Bool.not_eq_false',Int.toNat_natCast,j7,List.length_set,List.length_cons,List.length_nil];have key:∀ r:f7,E8 ((v0,v1,()),al,od,wy,()) (nk,nf,nt,nv,ns,na,nx,())=r->(((r,()):f7×Unit)=(E8 ((v0,v1,()),al,od,wy,()) (nk,nf,nt,nv,ns,na,nx,()),())):=by rintro r rfl; rfl
  refine ⟨hq.M8,λ _=>⟨λ a=>key _ (a8a a),λ a=>⟨λ b=>⟨⟨hq.M8,a,hq.ord⟩,λ _=>key _ (a6P a b)⟩,λ b=>⟨λ c=>?_,λ c=>⟨λ d=>⟨⟨hq.to,hq.log,hq.txt d⟩,λ _=>key _ (a6b a d)⟩,λ d=>key _ (a6c b c d)⟩⟩⟩⟩⟩;obtain ⟨w,hw⟩:∃ w:f7,w=((v0,v1,()),al,od,wy,()):=⟨_,rfl⟩;obtain ⟨n,hn⟩:∃ n:y4,n=(nk,nf,nt,nv,ns,na,nx,()):=⟨_,rfl⟩;have e3:E8 ((v0,v1,()),al,od,wy,()) (nk,nf,nt,nv,ns,na,nx,())=E2 w n 4:=by rw [hw,hn]; exact a6Q a c
  have fT:0<=ns/\ns<=16777215:=hq.seq;have lz:n.2.2.2.2.1=ns:=by rw [hn]
  have mF:n.2.1=nf:=by rw [hn]
  have pn:w.2.2.1=od:=by rw [hw]
  suffices go:Go.Ex.Reach a2L Tryz.f48 () (E2 w n 4,()) (.code (f9 (d8 Tryz.prog 48) 7).1::.inLoop (f9 (d8 Tryz.prog 48) 7).1::(f9 (d8 Tryz.prog 48) 7).2) (a3N (ns+((0:Nat):Int)) nk nf nt nv ns na nx (E2 w n 0).1.1 (E2 w n 0).1.2.1 (E2 w n 0).2.1 (E2 w n 0).2.2.1 (E2 w n 0).2.2.2.1) by
    rw [e3];rw [E2,show ns+((0:Nat):Int)=ns by omega] at go;rw [hw] at go ⊢;exact go
  refine Reach.K3 a3O a3M (λ j:Nat=>a3N (ns+(j:Int)) nk nf nt nv ns na nx (E2 w n j).1.1 (E2 w n j).1.2.1 (E2 w n j).2.1 (E2 w n j).2.2.1 (E2 w n j).2.2.2.1) (λ j=>j<=4)
    (λ j=>4 - j) 1000 (λ _=>⟨s7 rfl,s7 rfl⟩) ?_ 0 (Nat.zero_le _)
  rintro j k1 - ih;have k1:j<=4:=k1;refine g9 (b5R ..) ?_;have e4:ns+(j:Int)+1=ns+((j+1:Nat):Int):=by omega
  have t3:=(a1t (w:=w) (n:=n) j).2.2;simp only [j6,Tree.holds,true_and,true_implies,decide_eq_true_eq,decide_eq_false_iff_not,Bool.not_eq_true',Bool.not_eq_false',Int.toNat_natCast,j7,List.length_set,List.length_cons,List.length_nil,e4];refine ⟨λ d=>⟨?_,λ _=>⟨λ e=>⟨⟨by omega,d⟩,λ _=>⟨?_,λ _=>?_⟩⟩,λ e=>?_⟩⟩,λ d=>?_⟩
  . exact j7.2 ⟨by omega,by omega⟩
  . exact j7.2 ⟨by omega,by omega⟩
  . have:=ih (j+1) (by show j+1<=4; omega) (by show 4 - (j+1)<4 - j; omega);rw [c2o (j:=j) (by rw [lz]; exact d)] at this;rw [lz,mF] at this;exact this
  . obtain rfl:j=4:=by omega
    rfl
  . have:=b0e (w:=w) (n:=n) (j:=j) (by rw [lz,<- t3]; exact d) (4 - j);rw [show j+(4 - j)=4 by omega] at this;rw [this]; rfl
abbrev noB:List UInt8:=[]
def b9q:p9:={ ps:=[.own (.d0 true .str),.v e8,.v e8],rs:=[.d0 true .str],pre:=λ x=>LE.le (α:=Int) 0 x.2.1/\LE.le (α:=Int) x.2.1 x.2.2.1/\LE.le (α:=Int) x.2.2.1 (List.length (α:=List UInt8) x.1),fn:=λ x=>(List.take (α:=List UInt8) (Int.toNat x.2.1) x.1++List.drop (α:=List UInt8) (Int.toNat x.2.2.1) x.1,()),out:=λ _=>() }
noncomputable def c0o:Env:={ P:=Tryz.prog,tt:=tt,C0:=[],res:=[Go.ResultVar.tmp 6],rs:=[Ty.d0 true Ty.str],ps:=[PK.own (Ty.d0 true Ty.str),PK.v e8,PK.v e8],y5:=[],nt:=33 }
theorem b5t:u6 c0o:=w9 q9 trivial
theorem b5a:y7 c0o Tryz.f45:=⟨rfl,rfl⟩
theorem c6e (x0:List (List UInt8)) (x1:Int) (x2:Int):exec c0o 1000 [.code (d8 Tryz.prog 45)] (s5 b9q.ps ((x0,x1,x2,()))) =
  .f6 ((0:Int)<=x1/\x1<=x2/\x2<=(↑(List.length x0):Int)/\(↑(List.length x0):Int)<=(↑(List.length x0):Int)) (cond (decide (x1=x2)) (.ret ((x0,()))) (.f6 ((0:Int)<=(0:Int)/\(0:Int)<=x1/\x1<=(↑(List.length x0):Int)) (.f6 ((0:Int)<=x2/\x2<=(↑(List.length x0):Int)/\(↑(List.length x0):Int)<=(↑(List.length x0):Int)) (.f6 (x1+(↑(List.length (n5 x2 (↑(List.length x0):Int) x0)):Int)<=(↑(List.length x0):Int)) (.f6 ((0:Int)<=x1+(↑(List.length (n5 x2 (↑(List.length x0):Int) x0)):Int) - (0:Int)/\x1+(↑(List.length (n5 x2 (↑(List.length x0):Int) x0)):Int) - (0:Int)<=(↑(List.length x0):Int)/\(0:Int)+(↑(List.length x0):Int)<=(↑(List.length (List.take (Int.toNat x1) x0++n5 x2 (↑(List.length x0):Int) x0++List.drop (Int.toNat x1+List.length (n5 x2 (↑(List.length x0):Int) x0)) x0)):Int)) (.ret ((n5 (0:Int) (x1+(↑(List.length (n5 x2 (↑(List.length x0):Int) x0)):Int)) (List.take (Int.toNat ((0:Int)+(x1+(↑(List.length (n5 x2 (↑(List.length x0):Int) x0)):Int) - (0:Int)))) (List.take (Int.toNat x1) x0++n5 x2 (↑(List.length x0):Int) x0++List.drop (Int.toNat x1+List.length (n5 x2 (↑(List.length x0):Int) x0)) x0)++List.replicate (Int.toNat ((0:Int)+(↑(List.length x0):Int) - ((0:Int)+(x1+(↑(List.length (n5 x2 (↑(List.length x0):Int) x0)):Int) - (0:Int))))) []++List.drop (Int.toNat ((0:Int)+(x1+(↑(List.length (n5 x2 (↑(List.length x0):Int) x0)):Int) - (0:Int)))+List.length (List.replicate (Int.toNat ((0:Int)+(↑(List.length x0):Int) - ((0:Int)+(x1+(↑(List.length (n5 x2 (↑(List.length x0):Int) x0)):Int) - (0:Int))))) noB)) (List.take (Int.toNat x1) x0++n5 x2 (↑(List.length x0):Int) x0++List.drop (Int.toNat x1+List.length (n5 x2 (↑(List.length x0):Int) x0)) x0)),())))))))):=by kernel_rfl
theorem b6u:b9q.Valid Tryz.prog 45:=by
  refine p9.o5 b5t rfl rfl Tryz.func45 (c:=d8 Tryz.prog 45) rfl rfl b5a rfl ?_;rintro ⟨(l:List (List UInt8)),(i:Int),(j:Int),⟨⟩⟩ ⟨(h0:0<=i),(h1:i<=j),(h2:j<=(l.length:Int))⟩ -
  refine j5 (n:=1000) b5t b5a ?_;refine g9 (c6e l i j) ?_;simp only [j6,Tree.holds,true_and,true_implies,decide_eq_true_eq,decide_eq_false_iff_not,Bool.not_eq_true',Bool.not_eq_false',Int.toNat_natCast,j7,List.length_set,List.length_cons,List.length_nil];have hc:=b7G h0 h1 h2 (l:=l);have hm:=b01 h0 h1 h2 (l:=l);refine ⟨⟨h0,h1,h2,Int.le_refl _⟩,λ _=>⟨λ e=>?_,λ e=>⟨by omega,λ _=>⟨by omega,λ _=>⟨by omega,λ _=>⟨by omega,λ _=>?_⟩⟩⟩⟩⟩⟩
  . subst e;show ((l,()):List (List UInt8)×Unit)=(l.take i.toNat++l.drop i.toNat,());rw [List.take_append_drop]
  . exact congrArg (λ y=>(y,())) (c5U h0 h1 h2 (l:=l))
structure a4Y (w:f7):Prop where
  M8:w.2.1.length<=6
  way:w.2.2.2.1.length<=60
  note:∀ s∈w.2.2.2.1,(u7 s).2.1=0->(u7 s).1.2.2.2.1=w.1.1->r9 w (u7 s).1.2.2.1=true->a0r w (u7 s).1
def b3q:p9:={ ps:=[.rw u3,.v e8,.v e8],rs:=[e8],pre:=λ x=>a4Y x.1,fn:=λ x=>((H6 x.1 x.2.1 x.2.2.1).2,()),out:=λ x=>((H6 x.1 x.2.1 x.2.2.1).1,()) }
noncomputable def b5O:Env:={ P:=Tryz.prog,tt:=tt,C0:=[(40,b08),(45,b9q),(46,b9A),(47,a8V),(48,a8U)],res:=[Go.ResultVar.tmp 6],rs:=[Ty.int IntKind.i64],ps:=[PK.rw u3,PK.v e8,PK.v e8],y5:=[],nt:=95 }
theorem b2I:u6 b5O:=w9 q9 ⟨a3b,b6u,b6y,a1O,b09,trivial⟩
theorem b2v:y7 b5O Tryz.f18:=⟨rfl,rfl⟩
theorem c4B (ai:Int) (af:Int) (ab:List n9) (ae:List (List UInt8)) (aa:List (List UInt8)) (x1:Int) (x2:Int):exec b5O 1000 [.code (d8 Tryz.prog 18)] (s5 b3q.ps ((((ai,af,()),ab,ae,aa,()),x1,x2,()))) =
  .f6 (True) (cond (!G9 x2 (1:Int) (3:Int)) (.ret (((1:Int),((ai,af,()),ab,ae,aa,()),()))) (.f6 (r7 IntKind.i64 ((↑(List.length aa):Int) - (1:Int))) (.f6 (True) (cond (!G9 x1 (0:Int) ((↑(List.length aa):Int) - (1:Int))) (.ret (((6:Int),((ai,af,()),ab,ae,aa,()),()))) (cond (decide (x2=(3:Int))) (cond (decide ((↑(List.length aa):Int)=(60:Int))) (.ret (((8:Int),((ai,af,()),ab,ae,aa,()),()))) (.f6 ((0:Int)<=x1/\x1<(↑(List.length aa):Int)) (cond (decide (x2=(3:Int))) (.f6 (True/\True/\[]++[Step.l7 3]=[]++[Step.l7 3]/\List.length aa+List.length (List.set [[]] (Int.toNat (↑0:Int)) (List.getD aa (Int.toNat x1) []))<=140737488355328/\(List.length aa+List.length (List.set [[]] (Int.toNat (↑0:Int)) (List.getD aa (Int.toNat x1) [])))*Ty.wb Ty.str<=140737488355328) (.ret (((0:Int),((ai,af,()),ab,ae,aa++List.set [[]] (Int.toNat (↑0:Int)) (List.getD aa (Int.toNat x1) []),()),())))) (.f6 (r7 IntKind.i64 (x1+(1:Int))) (.f6 (True/\True/\[]++[Step.l7 3]=[]++[Step.l7 3]/\(0:Int)<=x1/\x1<=x1+(1:Int)/\x1+(1:Int)<=(↑(List.length aa):Int)) (.f6 (True) (cond (decide (x2=(1:Int))) (cond (decide (Prod.fst (Prod.snd (u7 (List.getD aa (Int.toNat x1) [])))=(0:Int))) (cond (decide (Prod.fst (Prod.snd (Prod.snd (Prod.snd (Prod.fst (u7 (List.getD aa (Int.toNat x1) []))))))=ai)) (.f6 (List.length ab<=6) (cond (r9 ((ai,af,()),ab,ae,List.take (Int.toNat x1) aa++List.drop (Int.toNat (x1+(1:Int))) aa,()) (Prod.fst (Prod.snd (Prod.snd (Prod.fst (u7 (List.getD aa (Int.toNat x1) []))))))) (.f6 (a0r ((ai,af,()),ab,ae,List.take (Int.toNat x1) aa++List.drop (Int.toNat (x1+(1:Int))) aa,()) (Prod.fst (u7 (List.getD aa (Int.toNat x1) [])))) (.ret (((0:Int),E8 ((ai,af,()),ab,ae,List.take (Int.toNat x1) aa++List.drop (Int.toNat (x1+(1:Int))) aa,()) (Prod.fst (u7 (List.getD aa (Int.toNat x1) []))),())))) (.ret (((0:Int),((ai,af,()),ab,ae,List.take (Int.toNat x1) aa++List.drop (Int.toNat (x1+(1:Int))) aa,()),()))))) (.ret (((0:Int),((ai,af,()),ab,ae,List.take (Int.toNat x1) aa++List.drop (Int.toNat (x1+(1:Int))) aa,()),())))) (.ret (((0:Int),((ai,af,()),ab,ae,List.take (Int.toNat x1) aa++List.drop (Int.toNat (x1+(1:Int))) aa,()),())))) (.ret (((0:Int),((ai,af,()),ab,ae,List.take (Int.toNat x1) aa++List.drop (Int.toNat (x1+(1:Int))) aa,()),())))))))))) (.f6 ((0:Int)<=x1/\x1<(↑(List.length aa):Int)) (cond (decide (x2=(3:Int))) (.f6 (True/\True/\[]++[Step.l7 3]=[]++[Step.l7 3]/\List.length aa+List.length (List.set [[]] (Int.toNat (↑0:Int)) (List.getD aa (Int.toNat x1) []))<=140737488355328/\(List.length aa+List.length (List.set [[]] (Int.toNat (↑0:Int)) (List.getD aa (Int.toNat x1) [])))*Ty.wb Ty.str<=140737488355328) (.ret (((0:Int),((ai,af,()),ab,ae,aa++List.set [[]] (Int.toNat (↑0:Int)) (List.getD aa (Int.toNat x1) []),()),())))) (.f6 (r7 IntKind.i64 (x1+(1:Int))) (.f6 (True/\True/\[]++[Step.l7 3]=[]++[Step.l7 3]/\(0:Int)<=x1/\x1<=x1+(1:Int)/\x1+(1:Int)<=(↑(List.length aa):Int)) (.f6 (True) (cond (decide (x2=(1:Int))) (cond (decide (Prod.fst (Prod.snd (u7 (List.getD aa (Int.toNat x1) [])))=(0:Int))) (cond (decide (Prod.fst (Prod.snd (Prod.snd (Prod.snd (Prod.fst (u7 (List.getD aa (Int.toNat x1) []))))))=ai)) (.f6 (List.length ab<=6) (cond (r9 ((ai,af,()),ab,ae,List.take (Int.toNat x1) aa++List.drop (Int.toNat (x1+(1:Int))) aa,()) (Prod.fst (Prod.snd (Prod.snd (Prod.fst (u7 (List.getD aa (Int.toNat x1) []))))))) (.f6 (a0r ((ai,af,()),ab,ae,List.take (Int.toNat x1) aa++List.drop (Int.toNat (x1+(1:Int))) aa,()) (Prod.fst (u7 (List.getD aa (Int.toNat x1) [])))) (.ret (((0:Int),E8 ((ai,af,()),ab,ae,List.take (Int.toNat x1) aa++List.drop (Int.toNat (x1+(1:Int))) aa,()) (Prod.fst (u7 (List.getD aa (Int.toNat x1) []))),())))) (.ret (((0:Int),((ai,af,()),ab,ae,List.take (Int.toNat x1) aa++List.drop (Int.toNat (x1+(1:Int))) aa,()),()))))) (.ret (((0:Int),((ai,af,()),ab,ae,List.take (Int.toNat x1) aa++List.drop (Int.toNat (x1+(1:Int))) aa,()),())))) (.ret (((0:Int),((ai,af,()),ab,ae,List.take (Int.toNat x1) aa++List.drop (Int.toNat (x1+(1:Int))) aa,()),())))) (.ret (((0:Int),((ai,af,()),ab,ae,List.take (Int.toNat x1) aa++List.drop (Int.toNat (x1+(1:Int))) aa,()),())))))))))))))):=by kernel_rfl
theorem b1I {w:f7} {k bB:Int} (h:G9 bB 1 3=false):H6 w k bB=(w,1):=by rw [H6]; exact if_pos h
theorem a9H {w:f7} {k bB:Int} (h:¬ G9 bB 1 3=false) (h1:G9 k 0 ((w.2.2.2.1.length:Int) - 1)=false):H6 w k bB=(w,6):=by rw [H6]; exact (if_neg h).trans (if_pos h1)
theorem a9I {w:f7} {k bB:Int} (h:¬ G9 bB 1 3=false) (h1:¬ G9 k 0 ((w.2.2.2.1.length:Int) - 1)=false) (h2:bB=3) (h3:(w.2.2.2.1.length:Int)=60):H6 w k bB=(w,8):=by
  rw [H6]; exact (if_neg h).trans ((if_neg h1).trans (if_pos ⟨h2,h3⟩))
theorem a9J {w:f7} {k bB:Int} (h:¬ G9 bB 1 3=false) (h1:¬ G9 k 0 ((w.2.2.2.1.length:Int) - 1)=false) (h2:bB=3) (h3:¬ (w.2.2.2.1.length:Int)=60):H6 w k bB=(b3o w k.toNat,0):=by
  rw [H6]; exact (if_neg h).trans ((if_neg h1).trans ((if_neg (λ e=>h3 e.2)).trans (if_pos h2)))
theorem a8G {w:f7} {k bB:Int} (h:¬ G9 bB 1 3=false) (h1:¬ G9 k 0 ((w.2.2.2.1.length:Int) - 1)=false) (h2:¬ bB=3):H6 w k bB=(a04 (a5E w k) bB (w.2.2.2.1.getD k.toNat []),0):=by
  rw [H6]; exact (if_neg h).trans ((if_neg h1).trans ((if_neg (λ e=>h2 e.1)).trans (if_neg h2)))
theorem a9G {w:f7} {bB:Int} {s:List UInt8} (h:bB=1/\(u7 s).2.1=0/\(u7 s).1.2.2.2.1=w.1.1/\r9 w (u7 s).1.2.2.1=true):a04 w bB s=E8 w (u7 s).1:=by
  rw [a04]; exact if_pos h
theorem b1H {w:f7} {bB:Int} {s:List UInt8} (h:¬ (bB=1/\(u7 s).2.1=0/\(u7 s).1.2.2.2.1=w.1.1/\r9 w (u7 s).1.2.2.1=true)):a04 w bB s=w:=by
  rw [a04]; exact if_neg h
theorem a0r.drop {w:f7} {n:y4} {l:List (List UInt8)} (h:a0r w n):a0r (w.1,w.2.1,w.2.2.1,l,()) n:=⟨h.M8,h.to,h.seq,h.log,h.ord,h.txt⟩
attribute [local irreducible] H6 a04 E8 u7 r9 in
theorem a8f:b3q.Valid Tryz.prog 18:=by
  refine p9.o5 b2I rfl rfl Tryz.func18 (c:=d8 Tryz.prog 18) rfl rfl b2v rfl ?_;rintro ⟨⟨⟨(v0:Int),(v1:Int),⟨⟩⟩,(al:List n9),(od:List (List UInt8)),(wy:List (List UInt8)),⟨⟩⟩,(k:Int),(bB:Int),⟨⟩⟩ (hq:a4Y ((v0,v1,()),al,od,wy,())) -
  refine j5 (n:=1000) b2I b2v ?_;refine g9 (c4B v0 v1 al od wy k bB) ?_;have iv:Ty.wb .str=16:=rfl;have ql:wy.length<=60:=hq.way;simp only [j6,Tree.holds,true_and,true_implies,decide_eq_true_eq,decide_eq_false_iff_not,Bool.not_eq_true',Bool.not_eq_false',Int.toNat_natCast,j7,List.length_set,List.length_cons,List.length_nil];have key:∀ r:f7×Int,H6 ((v0,v1,()),al,od,wy,()) k bB=r->(((r.2,r.1,()):Int×f7×Unit)=((H6 ((v0,v1,()),al,od,wy,()) k bB).2,(H6 ((v0,v1,()),al,od,wy,()) k bB).1,())):=by rintro r rfl; rfl
  have dQ:¬ G9 k 0 ((wy.length:Int) - 1)=false->0<=k/\k<(wy.length:Int):=λ h=>by
    have:=S7.1 (Bool.not_eq_false _▸h:G9 k 0 ((wy.length:Int) - 1)=true); omega
  have yes:∀ (a:¬ G9 bB 1 3=false) (b:¬ G9 k 0 ((wy.length:Int) - 1)=false) (c:¬ bB=3),bB=1->(u7 (wy.getD k.toNat [])).2.1=0->(u7 (wy.getD k.toNat [])).1.2.2.2.1=v0->r9 ((v0,v1,()),al,od,wy.take k.toNat++wy.drop (k+1).toNat,()) (u7 (wy.getD k.toNat [])).1.2.2.1=true ->
      H6 ((v0,v1,()),al,od,wy,()) k bB=(E8 ((v0,v1,()),al,od,wy.take k.toNat++wy.drop (k+1).toNat,()) (u7 (wy.getD k.toNat [])).1,0):=λ a b c d e f g=>by
    rw [a8G a b c]; exact congrArg (λ x=>(x,(0:Int))) (a9G ⟨d,e,f,g⟩)
  have no:∀ (a:¬ G9 bB 1 3=false) (b:¬ G9 k 0 ((wy.length:Int) - 1)=false) (c:¬ bB=3),¬ (bB=1/\(u7 (wy.getD k.toNat [])).2.1=0/\(u7 (wy.getD k.toNat [])).1.2.2.2.1=v0/\r9 ((v0,v1,()),al,od,wy.take k.toNat++wy.drop (k+1).toNat,()) (u7 (wy.getD k.toNat [])).1.2.2.1=true) ->
      H6 ((v0,v1,()),al,od,wy,()) k bB=(((v0,v1,()),al,od,wy.take k.toNat++wy.drop (k+1).toNat,()),0):=λ a b c d=>by
    rw [a8G a b c]; exact congrArg (λ x=>(x,(0:Int))) (b1H d)
  have pre:0<=k/\k<(wy.length:Int)->(u7 (wy.getD k.toNat [])).2.1=0->(u7 (wy.getD k.toNat [])).1.2.2.2.1=v0->r9 ((v0,v1,()),al,od,wy.take k.toNat++wy.drop (k+1).toNat,()) (u7 (wy.getD k.toNat [])).1.2.2.1=true->a0r ((v0,v1,()),al,od,wy.take k.toNat++wy.drop (k+1).toNat,()) (u7 (wy.getD k.toNat [])).1:=λ h h1 h3 h2 =>
    (hq.note _ (by show wy.getD k.toNat []∈wy; rw [List.getD_eq_getElem?_getD,List.getElem?_eq_getElem (by omega)]; exact List.getElem_mem _) h1 h3 (by rw [r9.eq_1] at h2 ⊢; exact h2)).drop
  refine ⟨λ a=>key (_,_) (b1I a),λ a=>⟨j7.2 ⟨by omega,by omega⟩,λ _=>⟨λ b=>key (_,_) (a9H (by simpa using a) b),λ b=>?_⟩⟩⟩;have a:¬ G9 bB 1 3=false:=by simpa using a
  have b:¬ G9 k 0 ((wy.length:Int) - 1)=false:=by simpa using b
  have hk:=dQ b;refine ⟨λ c=>⟨λ d=>key (_,_) (a9I a b c d),λ d=>⟨hk,λ _=>⟨λ _=>⟨by rw [iv]; omega,λ _=>key (_,_) (a9J a b c d)⟩,λ e=>absurd c e⟩⟩⟩,λ c=>⟨hk,λ _=>⟨λ e=>absurd e c,λ _=>⟨j7.2 ⟨by omega,by omega⟩,λ _=>⟨⟨by omega,by omega,by omega⟩,λ _=>⟨λ d=>⟨λ e=>⟨λ f=>⟨hq.M8,λ _=>⟨λ g=>⟨pre hk e f g,λ _=>key (_,_) (yes a b c d e f g)⟩,λ g=>key (_,_) (no a b c (λ h=>by rw [h.2.2.2] at g; cases g))⟩⟩,λ f=>key (_,_) (no a b c (λ h=>f h.2.2.1))⟩,λ e=>key (_,_) (no a b c (λ h=>e h.2.1))⟩,λ d=>key (_,_) (no a b c (λ h=>d h.1))⟩⟩⟩⟩⟩⟩
end Go.Proofs.YtijlnmgondibnaaGreatDoor
