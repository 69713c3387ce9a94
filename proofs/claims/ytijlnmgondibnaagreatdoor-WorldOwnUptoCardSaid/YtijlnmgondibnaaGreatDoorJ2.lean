import Derived.Test.YtijlnmgondibnaaGreatDoorJ1
import Derived.Test.YtijlnmgondibnaaGreatDoorProg
import Derived.Lib.Atoi
import Derived.Lib.ItoaMem
import Derived.Lib.IndexMore
import Derived.Shelf.Strconv.Itoa3
import Derived.Lib.ItoaLen
import Derived.Shelf.Strings.Split
import Derived.Lib.SlTrimSet
import Derived.Lib.Strings
import Derived.WalkKit
import Derived.Lib.Walk
import Derived.Shelf.RegionOpenPlain
import Derived.Shelf.Strings.Prefix
import Derived.Shelf.Strings.SlTrimAscii
import Derived.Shelf.Strconv.Atoi
import Derived.Lib.SmallJoins
import Derived.Shelf.Strings.Cut
set_option linter.unusedVariables false
set_option linter.unusedSimpArgs false
set_option linter.unusedSectionVars false
namespace Go.Proofs.YtijlnmgondibnaaGreatDoor
open Go.Ex
set_option maxRecDepth 100000
attribute [local irreducible] Go.Ex.exec
theorem Vl:Ty.wb r8=24:=rfl
def zJ:p9:={ ps:=[.v (.d0 false r8)],rs:=[.d0 true r8],pre:=λ x=>List.length (α:=D5) x.1<=5864062014805,fn:=λ x=>x,out:=λ _=>() }
noncomputable def FG:Env:={ P:=Tryz.prog,tt:=tt,C7:=[],res:=[Go.ResultVar.tmp 2],rs:=[Ty.d0 true r8],ps:=[PK.v L8],B9:=[],nt:=8 }
theorem NU:w7 FG:=x8 r7 trivial
theorem Oe:C0 FG Tryz.f31:=⟨rfl,rfl⟩
theorem UG (x0:List (Int×yY×Unit)):exec FG 1000 [.code (d8 Tryz.prog 31)] (s8 zJ.ps ((x0,()))) =
  .both (x0=[]) (.ret (([],()))) (.f7 ((0:Nat)+List.length x0<=140737488355328/\((0:Nat)+List.length x0)*Ty.wb r8<=140737488355328) (.ret (([]++x0,())))):=by kernel_rfl
theorem Fa:zJ.Valid Tryz.prog 31:=by
  refine p9.n9 NU rfl rfl Tryz.func31 (c:=d8 Tryz.prog 31) rfl rfl Oe rfl ?_;rintro ⟨(l:List (D5)),⟨⟩⟩ hp -
  have hp:l.length<=5864062014805:=hp;refine j7 (n:=1000) NU Oe ?_;refine i8 (UG l) ?_;simp only [j8,Tree.holds,Vl,sL];refine ⟨λ h=>?_,by omega,λ _=>rfl⟩;show (([],()):List (D5)×Unit)=(l,());rw [show l=[] from h]
theorem Vn:Ty.wb .str=16:=rfl
def AU:p9:={ ps:=[.v (.d0 false .str)],rs:=[.d0 true .str],pre:=λ x=>List.length (α:=yY) x.1<=1048576,fn:=λ x=>x,out:=λ _=>() }
noncomputable def Gc:Env:={ P:=Tryz.prog,tt:=tt,C7:=[],res:=[Go.ResultVar.tmp 2],rs:=[Ty.d0 true Ty.str],ps:=[PK.v (Ty.d0 false Ty.str)],B9:=[],nt:=8 }
theorem Ob:w7 Gc:=x8 r7 trivial
theorem Ot:C0 Gc Tryz.f32:=⟨rfl,rfl⟩
theorem UN (x0:List yY):exec Gc 1000 [.code (d8 Tryz.prog 32)] (s8 AU.ps ((x0,()))) =
  .both (x0=[]) (.ret (([],()))) (.f7 ((0:Nat)+List.length x0<=140737488355328/\((0:Nat)+List.length x0)*Ty.wb Ty.str<=140737488355328) (.ret (([]++x0,())))):=by kernel_rfl
theorem KU:AU.Valid Tryz.prog 32:=by
  refine p9.n9 Ob rfl rfl Tryz.func32 (c:=d8 Tryz.prog 32) rfl rfl Ot rfl ?_;rintro ⟨(l:List yY),⟨⟩⟩ hp -
  have hp:l.length<=1048576:=hp;refine j7 (n:=1000) Ob Ot ?_;refine i8 (UN l) ?_;simp only [j8,Tree.holds,Vn,sL];refine ⟨λ h=>?_,by omega,λ _=>rfl⟩;show (([],()):List yY×Unit)=(l,());rw [show l=[] from h]
abbrev K9:=Bool×(Nat×(List D5×List D5))×FrD×ToD×ToD×Unit
abbrev El:=vR×List K9×List yY×List yY×Unit
def GY:p9:={ ps:=[.v (.d0 false .str)],rs:=[.d0 false .str],new:=true,pre:=AU.pre,fn:=λ x=>x,out:=λ _=>() }
theorem Tr:GY.Valid Tryz.prog 32:=KU.share (rs':=[.d0 false .str]) rfl rfl rfl
def Qx (w:f9) (p:Int) (g:Int):Int:=if s7 w p=true then g else bOr .u8 g (T7 .u8 w.1.2.1 (IntKind.wrap .u8 (1*2^min p.toNat IntKind.u8.bits)))
def D7 (w:f9):Nat->Int
  | 0=>0
  | k+1=>Qx w k (D7 w k)
def R7 (w:f9):vR×Int×Unit:=R8 w.1 (D7 w w.2.1.length) 0
def Py:p9:={ ps:=[.rd K7],rs:=[e8],pre:=λ x=>List.length (α:=o8) (x.1:f9).2.1<=6/\(R7 x.1).2.1≠0,fn:=λ x=>((R7 x.1).2.1,()),out:=λ _=>() }
noncomputable def Cg:Env:={ P:=Tryz.prog,tt:=ttW,C7:=[(47,yK),(53,BF),(31,zJ),(32,GY)],res:=[Go.ResultVar.tmp 2],rs:=[Ty.int IntKind.i64],ps:=[PK.rd K7],B9:=[(4,[(0,none),(3,none),(4,none),(18,none),(19,none)]),(16,[(0,none),(4,none),(7,none),(67,none),(68,none)]),(22,[(0,none),(4,none),(7,none),(9,none),(10,none),(11,none),(67,none),(68,none),(86,none),(87,none),(88,none)]),(998014,[(4,some L8)])],nt:=139 }
theorem KW:w7 Cg:=x8 Nb ⟨Cy,TY,Fa,Tr,trivial⟩
theorem Le:C0 Cg Tryz.f25:=⟨rfl,rfl⟩
theorem c2I (ai:Int) (af:Int) (ab:List o8) (ae:List yY) (aa:List yY):exec Cg 1000 [.code (d8 Tryz.prog 25)] (s8 Py.ps ((((ai,af,()),ab,ae,aa,()),()))) =
  .ctL (g9 (d8 Tryz.prog 25) 4) (St.mk [(0,AV.O5 K7 ((ai,af,()),ab,ae,aa,())),(3,AV.val U8 (0:Int)),(4,AV.val L8 []),(18,AV.val e8 (↑(List.length ab):Int)),(19,AV.val e8 (0:Int))] []):=by kernel_rfl
def KX (cz:Int) (bA:Int) (bV:List o8) (cg:List yY) (bF:List yY) (v3:Int) (v4:List (Int×yY×Unit)) (va:Int) (uX:Int):St:=St.mk [(0,AV.O5 K7 ((cz,bA,()),bV,cg,bF,())),(3,AV.val U8 v3),(4,AV.val L8 v4),(18,AV.val e8 va),(19,AV.val e8 uX)] []
theorem b8M (cz:Int) (bA:Int) (bV:List o8) (cg:List yY) (bF:List yY) (v3:Int) (v4:List (Int×yY×Unit)) (va:Int) (uX:Int):exec Cg 1000 (.code (g9 (d8 Tryz.prog 25) 4).1::.inLoop (g9 (d8 Tryz.prog 25) 4).1::(g9 (d8 Tryz.prog 25) 4).2) (KX cz bA bV cg bF v3 v4 va uX) =
  cond (decide (uX<va)) (.f7 (List.length bV<=6) (cond (s7 ((cz,bA,()),bV,cg,bF,()) uX) (.f7 ((0:Int)<=uX/\uX<(↑(List.length bV):Int)) (cond (decide ((↑(List.length v4):Int)<(↑(List.length (Prod.fst (Prod.snd (List.getD bV (Int.toNat uX) (false,[],((0:Int),[],()),((0:Int),[],()),((0:Int),[],()),()))))):Int))) (.f7 (r9 IntKind.i64 (uX+(1:Int))) (.ctL (g9 (d8 Tryz.prog 25) 4) (St.mk [(0,AV.O5 K7 ((cz,bA,()),bV,cg,bF,())),(3,AV.val U8 v3),(4,AV.val L8 (Prod.fst (Prod.snd (List.getD bV (Int.toNat uX) (false,[],((0:Int),[],()),((0:Int),[],()),((0:Int),[],()),()))))),(18,AV.val e8 va),(19,AV.val e8 (uX+(1:Int)))] []))) (.f7 (r9 IntKind.i64 (uX+(1:Int))) (.ctL (g9 (d8 Tryz.prog 25) 4) (St.mk [(0,AV.O5 K7 ((cz,bA,()),bV,cg,bF,())),(3,AV.val U8 v3),(4,AV.val L8 v4),(18,AV.val e8 va),(19,AV.val e8 (uX+(1:Int)))] []))))) (.f7 ((0:Int)<=uX) (.f7 (r9 IntKind.i64 (uX+(1:Int))) (.ctL (g9 (d8 Tryz.prog 25) 4) (St.mk [(0,AV.O5 K7 ((cz,bA,()),bV,cg,bF,())),(3,AV.val U8 (bOr IntKind.u8 v3 (T7 IntKind.u8 bA (IntKind.wrap IntKind.u8 ((1:Int)*(2:Int)^min (Int.toNat uX) (IntKind.bits IntKind.u8)))))),(4,AV.val L8 v4),(18,AV.val e8 va),(19,AV.val e8 (uX+(1:Int)))] [])))))) (.f7 (True) (cond (decide (Prod.fst (Prod.snd (R8 (cz,bA,()) v3 (0:Int)))≠(0:Int))) (.ret ((Prod.fst (Prod.snd (R8 (cz,bA,()) v3 (0:Int))),()))) (.ctL (g9 (d8 Tryz.prog 25) 16) (St.mk [(0,AV.O5 K7 ((cz,bA,()),bV,cg,bF,())),(4,AV.val L8 v4),(7,AV.ptr 7 []),(67,AV.val e8 (↑(List.length bV):Int)),(68,AV.val e8 (0:Int))] [(7,i7.var View (Prod.fst (R8 (cz,bA,()) v3 (0:Int))))])))):=by kernel_rfl
theorem b2G:Py.Valid Tryz.prog 25:=by
  refine p9.n9 KW rfl rfl Tryz.func25 (c:=d8 Tryz.prog 25) rfl rfl Le rfl ?_;rintro ⟨⟨⟨(v0:Int),(v1:Int),⟨⟩⟩,(al:List o8),(od:List yY),(wy:List yY),⟨⟩⟩,⟨⟩⟩ ⟨(hp:al.length<=6),(bC:(R7 ((v0,v1,()),al,od,wy,())).2.1≠0)⟩ -
  refine j7 (n:=1000) KW Le ?_;refine i8 (c2I v0 v1 al od wy) ?_;show Go.Ex.Reach Cg Tryz.f25 ((R7 ((v0,v1,()),al,od,wy,())).2.1,()) () (.code (g9 (d8 Tryz.prog 25) 4).1::.inLoop (g9 (d8 Tryz.prog 25) 4).1::(g9 (d8 Tryz.prog 25) 4).2) (KX v0 v1 al od wy (D7 ((v0,v1,()),al,od,wy,()) 0) [] (al.length:Int) ((0:Nat):Int));refine Reach.M8 KW Le (λ i:Nat×List D5=>KX v0 v1 al od wy (D7 ((v0,v1,()),al,od,wy,()) i.1) i.2 (al.length:Int) (i.1:Int)) (λ i=>i.1<=al.length)
    (λ i=>al.length - i.1) 1000 (λ _=>⟨u6 rfl,u6 rfl⟩) ?_ (0,[]) (Nat.zero_le _)
  rintro ⟨i,l⟩ k1 - ih;have k1:i<=al.length:=k1;have ih:∀ l',i<al.length->_:=λ l' h=>ih (i+1,l') (by show i+1<=al.length; omega) (by show al.length - (i+1)<al.length - i; omega);refine i8 (b8M ..) ?_;have e1:((i:Nat):Int)+1=((i+1:Nat):Int):=by omega
  simp only [j8,Tree.holds,e1,sL];refine ⟨λ c=>⟨hp,λ _=>⟨λ a=>⟨by omega,λ _=>⟨λ b=>⟨by omega,λ _=>?_⟩,λ b=>⟨by omega,λ _=>?_⟩⟩⟩,λ a=>⟨by omega,λ _=>⟨by omega,λ _=>?_⟩⟩⟩⟩,λ c=>⟨λ d=>?_,λ d=>?_⟩⟩
  . have:=ih (al.getD i j9).2.1 (by omega);rw [show D7 ((v0,v1,()),al,od,wy,()) (i+1)=D7 ((v0,v1,()),al,od,wy,()) i from if_pos a] at this;exact this
  . have:=ih l (by omega);rw [show D7 ((v0,v1,()),al,od,wy,()) (i+1)=D7 ((v0,v1,()),al,od,wy,()) i from if_pos a] at this;exact this
  . have:=ih l (by omega);rw [show D7 ((v0,v1,()),al,od,wy,()) (i+1)=bOr .u8 (D7 ((v0,v1,()),al,od,wy,()) i) (T7 .u8 v1 (IntKind.wrap .u8 (1*2^min i IntKind.u8.bits))) from if_neg (by simpa using a)] at this;exact this
  . obtain rfl:i=al.length:=by omega
    rfl
  . obtain rfl:i=al.length:=by omega
    exact absurd (show (R8 (v0,v1,()) (D7 ((v0,v1,()),al,od,wy,()) al.length) 0).2.1=0 by simpa using d) bC
def FX:p9:={ ps:=[.rd K7],rs:=[e8],pre:=λ _=>True,fn:=λ x=>((List.length (α:=yY) (x.1:f9).2.2.2.1:Int),()),out:=λ _=>() }
noncomputable def GF:Env:={ P:=Tryz.prog,tt:=tt,C7:=[],res:=[Go.ResultVar.tmp 2],rs:=[Ty.int IntKind.i64],ps:=[PK.rd K7],B9:=[],nt:=8 }
theorem Ph:w7 GF:=x8 r7 trivial
theorem PG:C0 GF Tryz.f17:=⟨rfl,rfl⟩
theorem VT (ai:Int) (af:Int) (ab:List o8) (ae:List yY) (aa:List yY):exec GF 1000 [.code (d8 Tryz.prog 17)] (s8 FX.ps ((((ai,af,()),ab,ae,aa,()),()))) =
  .ret (((↑(List.length aa):Int),())):=by kernel_rfl
theorem c1c:FX.Valid Tryz.prog 17:=by
  refine p9.n9 Ph rfl rfl Tryz.func17 (c:=d8 Tryz.prog 17) rfl rfl PG rfl ?_;rintro ⟨⟨⟨(v0:Int),(v1:Int),⟨⟩⟩,(al:List o8),(od:List yY),(wy:List yY),⟨⟩⟩,⟨⟩⟩ - -
  refine j7 (n:=1000) Ph PG ?_;refine i8 (VT v0 v1 al od wy) ?_;rfl
def L9 (w:f9) (p:Int):List D5:=(w.2.1.getD p.toNat j9).2.1
def P6 (w:f9) (p:Int):FrD:=(w.2.1.getD p.toNat j9).2.2.1
theorem Cb {v:vR} {al:List o8} {r:List yY×List yY×Unit} {p:Int} (a:¬ known (v,al,r) p≠0):0<=p/\p<(al.length:Int):=by
  unfold known at a;split at a
  . rename_i hb;have:=V4.1 hb;simp only at this; omega
  . exact absurd (by decide) a
def V0 (w:f9) (p:Int):List D5×Int×Unit:=if known w p≠0 then ([],known w p,()) else (L9 w p,0,())
def AO:p9:={ ps:=[.rd K7,.v e8],rs:=[.d0 true r8,e8],pre:=λ x=>List.length (α:=o8) (x.1:f9).2.1<=6/\List.length (α:=D5) (L9 x.1 x.2.1)<=5864062014805,fn:=λ x=>V0 x.1 x.2.1,out:=λ _=>() }
noncomputable def GA:Env:={ P:=Tryz.prog,tt:=tt,C7:=[(49,yZ),(31,zJ)],res:=[Go.ResultVar.tmp 4,Go.ResultVar.tmp 5],rs:=[Ty.d0 true r8,Ty.int IntKind.i64],ps:=[PK.rd K7,PK.v e8],B9:=[],nt:=22 }
theorem Pd:w7 GA:=x8 r7 ⟨CF,Fa,trivial⟩
theorem PC:C0 GA Tryz.f19:=⟨rfl,rfl⟩
theorem VO (ai:Int) (af:Int) (ab:List o8) (ae:List yY) (aa:List yY) (x1:Int):exec GA 1000 [.code (d8 Tryz.prog 19)] (s8 AO.ps ((((ai,af,()),ab,ae,aa,()),x1,()))) =
  .f7 (List.length ab<=6) (cond (decide (known ((ai,af,()),ab,ae,aa,()) x1≠(0:Int))) (.ret (([],known ((ai,af,()),ab,ae,aa,()) x1,()))) (.f7 ((0:Int)<=x1/\x1<(↑(List.length ab):Int)) (.f7 (List.length (Prod.fst (Prod.snd (List.getD ab (Int.toNat x1) (false,[],((0:Int),[],()),((0:Int),[],()),((0:Int),[],()),()))))<=5864062014805) (.ret ((Prod.fst (Prod.snd (List.getD ab (Int.toNat x1) (false,[],((0:Int),[],()),((0:Int),[],()),((0:Int),[],()),()))),(0:Int),())))))):=by kernel_rfl
theorem KT:AO.Valid Tryz.prog 19:=by
  refine p9.n9 Pd rfl rfl Tryz.func19 (c:=d8 Tryz.prog 19) rfl rfl PC rfl ?_;rintro ⟨⟨⟨(v0:Int),(v1:Int),⟨⟩⟩,(al:List o8),(od:List yY),(wy:List yY),⟨⟩⟩,(p:Int),⟨⟩⟩ ⟨(hp:al.length<=6),(hl:(L9 ((v0,v1,()),al,od,wy,()) p).length<=5864062014805)⟩ -
  refine j7 (n:=1000) Pd PC ?_;refine i8 (VO v0 v1 al od wy p) ?_;simp only [j8,Tree.holds,sL];refine ⟨hp,λ _=>⟨λ a=>?_,λ a=>⟨Cb a,λ _=>⟨hl,λ _=>?_⟩⟩⟩⟩
  . show (([],_,()):List D5×Int×Unit)=V0 ((v0,v1,()),al,od,wy,()) p;exact (if_pos a).symm
  . show ((_,0,()):List D5×Int×Unit)=V0 ((v0,v1,()),al,od,wy,()) p;exact (if_neg a).symm
def xk (w:f9) (p:Int):List yY×Int×Unit:=if known w p≠0 then ([],known w p,()) else ((P6 w p).2.1,0,())
def GG:p9:={ ps:=[.rd K7,.v e8],rs:=[.d0 true .str,e8],pre:=λ x=>List.length (α:=o8) (x.1:f9).2.1<=6/\List.length (α:=yY) (P6 x.1 x.2.1).2.1<=1048576,fn:=λ x=>xk x.1 x.2.1,out:=λ _=>() }
noncomputable def Hz:Env:={ P:=Tryz.prog,tt:=tt,C7:=[(49,yZ),(32,AU)],res:=[Go.ResultVar.tmp 4,Go.ResultVar.tmp 5],rs:=[Ty.d0 true Ty.str,Ty.int IntKind.i64],ps:=[PK.rd K7,PK.v e8],B9:=[],nt:=23 }
theorem QO:w7 Hz:=x8 r7 ⟨CF,KU,trivial⟩
theorem Sa:C0 Hz Tryz.f20:=⟨rfl,rfl⟩
theorem XN (ai:Int) (af:Int) (ab:List o8) (ae:List yY) (aa:List yY) (x1:Int):exec Hz 1000 [.code (d8 Tryz.prog 20)] (s8 GG.ps ((((ai,af,()),ab,ae,aa,()),x1,()))) =
  .f7 (List.length ab<=6) (cond (decide (known ((ai,af,()),ab,ae,aa,()) x1≠(0:Int))) (.ret (([],known ((ai,af,()),ab,ae,aa,()) x1,()))) (.f7 ((0:Int)<=x1/\x1<(↑(List.length ab):Int)) (.f7 (List.length (Prod.fst (Prod.snd (Prod.fst (Prod.snd (Prod.snd (List.getD ab (Int.toNat x1) (false,[],((0:Int),[],()),((0:Int),[],()),((0:Int),[],()),())))))))<=1048576) (.ret ((Prod.fst (Prod.snd (Prod.fst (Prod.snd (Prod.snd (List.getD ab (Int.toNat x1) (false,[],((0:Int),[],()),((0:Int),[],()),((0:Int),[],()),())))))),(0:Int),())))))):=by kernel_rfl
theorem b8m:GG.Valid Tryz.prog 20:=by
  refine p9.n9 QO rfl rfl Tryz.func20 (c:=d8 Tryz.prog 20) rfl rfl Sa rfl ?_;rintro ⟨⟨⟨(v0:Int),(v1:Int),⟨⟩⟩,(al:List o8),(od:List yY),(wy:List yY),⟨⟩⟩,(p:Int),⟨⟩⟩ ⟨(hp:al.length<=6),(hl:(P6 ((v0,v1,()),al,od,wy,()) p).2.1.length<=1048576)⟩ -
  refine j7 (n:=1000) QO Sa ?_;refine i8 (XN v0 v1 al od wy p) ?_;simp only [j8,Tree.holds,sL];refine ⟨hp,λ _=>⟨λ a=>?_,λ a=>⟨Cb a,λ _=>⟨hl,λ _=>?_⟩⟩⟩⟩
  . show (([],_,()):List yY×Int×Unit)=xk ((v0,v1,()),al,od,wy,()) p;exact (if_pos a).symm
  . show ((_,0,()):List yY×Int×Unit)=xk ((v0,v1,()),al,od,wy,()) p;exact (if_neg a).symm
theorem Fk {v:vR} {al:List o8} {r:List yY×List yY×Unit} {p:Int} (a:¬ M0 (v,al,r) p≠0):0<=p/\p<(al.length:Int):=by
  unfold M0 at a;by_cases h:known (v,al,r) p≠0
  . rw [if_pos h] at a; exact absurd h a
  . exact Cb h
theorem Wv {s:vP} {x:yY} (h:¬ (Q7 s x).2.1≠0):(0<=(Q7 s x).1.1/\(Q7 s x).1.1<=16777215)/\(Q7 s x).1.2.1.length<=17:=by
  unfold Q7 at h ⊢;by_cases h1:I1 s≠0
  . rw [if_pos h1] at h ⊢; exact absurd h1 h
  rw [if_neg h1] at h ⊢;have aM:=xS (Decidable.not_not.1 h1);by_cases h2:E4 x=true
  . rw [if_pos h2] at h; exact absurd (by decide) h
  rw [if_neg h2] at h ⊢;by_cases h3:(s.2.1.length:Int)=16\/16777215<=s.1+s.2.1.length
  . rw [if_pos h3] at h; exact absurd (by decide) h
  rw [if_neg h3];refine ⟨aM.1,?_⟩;rw [List.length_append];have:=aM.2.1;simp only [List.length_cons,List.length_nil]; omega
def setFrom (w:f9) (p:Int) (f:FrD):f9 :=
  (w.1,w.2.1.set p.toNat ((w.2.1.getD p.toNat j9).1,(w.2.1.getD p.toNat j9).2.1,f,(w.2.1.getD p.toNat j9).2.2.2),w.2.2)
def Mz (w:f9) (p:Int) (t:yY) (r:FrD):f9:=M3 (setFrom w p r) 1 p (M1 (setFrom w p r)) (r.1+r.2.1.length - 1) t
def vq (w:f9) (p:Int) (t:yY):f9×Int :=
  if M0 w p≠0 then (w,M0 w p) else if (150:Int)<t.length then (w,2) else if (w.2.2.2.1.length:Int)=60 then (w,8)
  else if (Q7 (P6 w p) t).2.1≠0 then (w,(Q7 (P6 w p) t).2.1) else (Mz w p t (Q7 (P6 w p) t).1,0)
def FV:p9:={ ps:=[.rw w5,.v e8,.v .str],rs:=[e8],pre:=λ x=>List.length (α:=o8) (x.1:f9).2.1<=6,fn:=λ x=>((vq x.1 x.2.1 x.2.2.1).2,()),out:=λ x=>((vq x.1 x.2.1 x.2.2.1).1,()) }
noncomputable def GC:Env:={ P:=Tryz.prog,tt:=tt,C7:=[(41,Dv),(42,Mh),(43,zZ),(44,zA)],res:=[Go.ResultVar.tmp 6],rs:=[Ty.int IntKind.i64],ps:=[PK.rw w5,PK.v e8,PK.v Ty.str],B9:=[],nt:=64 }
theorem Pf:w7 GC:=x8 r7 ⟨a87,c1p,Fu,Fc,trivial⟩
theorem PE:C0 GC Tryz.f15:=⟨rfl,rfl⟩
theorem VQ (ai:Int) (af:Int) (ab:List o8) (ae:List yY) (aa:List yY) (x1:Int) (x2:yY):exec GC 1000 [.code (d8 Tryz.prog 15)] (s8 FV.ps ((((ai,af,()),ab,ae,aa,()),x1,x2,()))) =
  .f7 (List.length ab<=6) (cond (decide (M0 ((ai,af,()),ab,ae,aa,()) x1≠(0:Int))) (.ret ((M0 ((ai,af,()),ab,ae,aa,()) x1,((ai,af,()),ab,ae,aa,()),()))) (cond (decide ((150:Int)<(↑(List.length x2):Int))) (.ret (((2:Int),((ai,af,()),ab,ae,aa,()),()))) (cond (decide ((↑(List.length aa):Int)=(60:Int))) (.ret (((8:Int),((ai,af,()),ab,ae,aa,()),()))) (.f7 ((0:Int)<=x1/\x1<(↑(List.length ab):Int)) (.f7 (True) (cond (decide (Prod.fst (Prod.snd (Q7 (Prod.fst (Prod.snd (Prod.snd (List.getD ab (Int.toNat x1) (false,[],((0:Int),[],()),((0:Int),[],()),((0:Int),[],()),()))))) x2))≠(0:Int))) (.ret ((Prod.fst (Prod.snd (Q7 (Prod.fst (Prod.snd (Prod.snd (List.getD ab (Int.toNat x1) (false,[],((0:Int),[],()),((0:Int),[],()),((0:Int),[],()),()))))) x2)),((ai,af,()),ab,ae,aa,()),()))) (.f7 ((0:Int)<=x1/\x1<(↑(List.length ab):Int)) (.f7 (True) (.f7 (r9 IntKind.i64 (Prod.fst (Prod.fst (Q7 (Prod.fst (Prod.snd (Prod.snd (List.getD ab (Int.toNat x1) (false,[],((0:Int),[],()),((0:Int),[],()),((0:Int),[],()),()))))) x2))+(↑(List.length (Prod.fst (Prod.snd (Prod.fst (Q7 (Prod.fst (Prod.snd (Prod.snd (List.getD ab (Int.toNat x1) (false,[],((0:Int),[],()),((0:Int),[],()),((0:Int),[],()),()))))) x2))))):Int))) (.f7 (r9 IntKind.i64 (Prod.fst (Prod.fst (Q7 (Prod.fst (Prod.snd (Prod.snd (List.getD ab (Int.toNat x1) (false,[],((0:Int),[],()),((0:Int),[],()),((0:Int),[],()),()))))) x2))+(↑(List.length (Prod.fst (Prod.snd (Prod.fst (Q7 (Prod.fst (Prod.snd (Prod.snd (List.getD ab (Int.toNat x1) (false,[],((0:Int),[],()),((0:Int),[],()),((0:Int),[],()),()))))) x2))))):Int) - (1:Int))) (.f7 (True) (.ret (((0:Int),M3 ((ai,af,()),List.set ab (Int.toNat x1) (Prod.fst (List.getD ab (Int.toNat x1) (false,[],((0:Int),[],()),((0:Int),[],()),((0:Int),[],()),())),Prod.fst (Prod.snd (List.getD ab (Int.toNat x1) (false,[],((0:Int),[],()),((0:Int),[],()),((0:Int),[],()),()))),Prod.fst (Q7 (Prod.fst (Prod.snd (Prod.snd (List.getD ab (Int.toNat x1) (false,[],((0:Int),[],()),((0:Int),[],()),((0:Int),[],()),()))))) x2),Prod.snd (Prod.snd (Prod.snd (List.getD ab (Int.toNat x1) (false,[],((0:Int),[],()),((0:Int),[],()),((0:Int),[],()),()))))),ae,aa,()) (1:Int) x1 (M1 ((ai,af,()),List.set ab (Int.toNat x1) (Prod.fst (List.getD ab (Int.toNat x1) (false,[],((0:Int),[],()),((0:Int),[],()),((0:Int),[],()),())),Prod.fst (Prod.snd (List.getD ab (Int.toNat x1) (false,[],((0:Int),[],()),((0:Int),[],()),((0:Int),[],()),()))),Prod.fst (Q7 (Prod.fst (Prod.snd (Prod.snd (List.getD ab (Int.toNat x1) (false,[],((0:Int),[],()),((0:Int),[],()),((0:Int),[],()),()))))) x2),Prod.snd (Prod.snd (Prod.snd (List.getD ab (Int.toNat x1) (false,[],((0:Int),[],()),((0:Int),[],()),((0:Int),[],()),()))))),ae,aa,())) (Prod.fst (Prod.fst (Q7 (Prod.fst (Prod.snd (Prod.snd (List.getD ab (Int.toNat x1) (false,[],((0:Int),[],()),((0:Int),[],()),((0:Int),[],()),()))))) x2))+(↑(List.length (Prod.fst (Prod.snd (Prod.fst (Q7 (Prod.fst (Prod.snd (Prod.snd (List.getD ab (Int.toNat x1) (false,[],((0:Int),[],()),((0:Int),[],()),((0:Int),[],()),()))))) x2))))):Int) - (1:Int)) x2,())))))))))))))):=by kernel_rfl
attribute [local irreducible] vq M3 Q7 in
theorem c1l:FV.Valid Tryz.prog 15:=by
  refine p9.n9 Pf rfl rfl Tryz.func15 (c:=d8 Tryz.prog 15) rfl rfl PE rfl ?_;rintro ⟨⟨⟨(v0:Int),(v1:Int),⟨⟩⟩,(al:List o8),(od:List yY),(wy:List yY),⟨⟩⟩,(p:Int),(t:yY),⟨⟩⟩ (hp:al.length<=6) -
  refine j7 (n:=1000) Pf PE ?_;refine i8 (VQ v0 v1 al od wy p t) ?_;simp only [j8,Tree.holds,sL];obtain ⟨w,hw⟩:∃ w:f9,w=((v0,v1,()),al,od,wy,()):=⟨_,rfl⟩;have key:∀ r:f9×Int,vq ((v0,v1,()),al,od,wy,()) p t=r->(((r.2,r.1,()):Int×f9×Unit)=((vq ((v0,v1,()),al,od,wy,()) p t).2,(vq ((v0,v1,()),al,od,wy,()) p t).1,())):=by rintro r rfl; rfl
  have e1:=λ a=>(vq.eq_1 ((v0,v1,()),al,od,wy,()) p t).trans (if_pos a);have e2:=λ a=>(vq.eq_1 ((v0,v1,()),al,od,wy,()) p t).trans (if_neg a);refine ⟨hp,λ _=>⟨λ a=>key (_,_) (e1 a),λ a=>⟨λ b=>key (_,_) ((e2 a).trans (if_pos b)),λ b=>⟨λ c=>key (_,_) ((e2 a).trans ((if_neg b).trans (if_pos c))),
    λ c=>⟨Fk a,λ _=>⟨λ d=>key (_,_) ((e2 a).trans ((if_neg b).trans ((if_neg c).trans (if_pos d)))),λ d=>?_⟩⟩⟩⟩⟩⟩
  have hk:=Wv (s:=P6 ((v0,v1,()),al,od,wy,()) p) (x:=t) d;simp only [P6] at hk;refine ⟨Fk a,λ _=>⟨?_,λ _=>⟨?_,λ _=>key (_,_) ((e2 a).trans ((if_neg b).trans ((if_neg c).trans (if_neg d))))⟩⟩⟩
  . simp only [j9] at hk; omega
  . simp only [j9] at hk; omega
def ttN:List (TypeId×TI):=(76,TI.mk w5 88)::(74,TI.mk (.d0 true xn) 24)::(85,TI.mk xn 128)::tt
theorem Wn:ttN.all (xE Tryz.prog)=true:=by kernel_rfl
def Bn (n:Int):Int:=IntKind.wrap .u8 (IntKind.wrap .u8 (1*2^min n.toNat (IntKind.bits .u8)) - 1)
def Dk (n:Int):Option f9×Int×Unit:=if I6 n 1 6=true then (some ((0,Bn n,()),List.replicate n.toNat j9,[],[],()),0,()) else (none,1,())
def FT:p9:={ ps:=[.v e8],rs:=[.box true none w5,e8],pre:=λ _=>True,fn:=λ x=>Dk x.1,out:=λ _=>() }
noncomputable def GB:Env:={ P:=Tryz.prog,tt:=ttN,C7:=[(40,zK)],res:=[Go.ResultVar.tmp 2,Go.ResultVar.tmp 3],rs:=[Ty.box true none w5,Ty.int IntKind.i64],ps:=[PK.v e8],B9:=[],nt:=15 }
theorem Pe:w7 GB:=x8 Wn ⟨Fb,trivial⟩
theorem PD:C0 GB Tryz.f14:=⟨rfl,rfl⟩
theorem VP (x0:Int):exec GB 1000 [.code (d8 Tryz.prog 14)] (s8 FT.ps ((x0,()))) =
  .f7 (True) (cond (!I6 x0 (1:Int) (6:Int)) (.ret ((none,(1:Int),()))) (.f7 ((0:Int)<=x0) (.f7 ((0:Int)<=x0/\x0<=x0/\x0<=(140737488355328:Int)/\x0*(↑(Ty.wb xn):Int)<=(140737488355328:Int)) (.ret ((some (((0:Int),IntKind.wrap IntKind.u8 (IntKind.wrap IntKind.u8 ((1:Int)*(2:Int)^min (Int.toNat x0) (IntKind.bits IntKind.u8)) - (1:Int)),()),List.replicate (Int.toNat x0) (false,[],((0:Int),[],()),((0:Int),[],()),((0:Int),[],()),()),[],[],()),(0:Int),())))))):=by kernel_rfl
theorem Sr:FT.Valid Tryz.prog 14:=by
  refine p9.n9 Pe rfl rfl Tryz.func14 (c:=d8 Tryz.prog 14) rfl rfl PD rfl ?_;rintro ⟨(n:Int),⟨⟩⟩ - -
  refine j7 (n:=1000) Pe PD ?_;refine i8 (VP n) ?_;have hw:Ty.wb xn=128:=rfl;simp only [j8,Tree.holds,hw,sL];refine ⟨λ a=>?_,λ a=>?_⟩
  . show ((none,1,()):Option f9×Int×Unit)=Dk n;exact (if_neg (by rw [a]; simp)).symm
  . have ha:=V4.1 a;refine ⟨by omega,λ _=>⟨⟨by omega,by omega,by omega⟩,λ _=>?_⟩⟩;show (_:Option f9×Int×Unit)=Dk n;exact (if_pos a).symm
def M9 (p:Int) (l:List D5) (w:f9):Nat->f9
  | 0=>w
  | k+1=>M3 (M9 p l w k) 1 p (M1 (M9 p l w k)) (l.getD k (0,[],())).1 (l.getD k (0,[],())).2.1
theorem EO {w:f9} {k f t s:Int} {x:yY}:(M3 w k f t s x).2.1=w.2.1/\(M3 w k f t s x).1=w.1/\(M3 w k f t s x).2.2.1=w.2.2.1:=by
  by_cases h:(U5 (k,f,t,w.1.1,s,[0,0,0,0,0,0],x,())).2.1=0/\(w.2.2.2.1.length:Int)<60
  . rw [Kn h.1 h.2]; exact ⟨rfl,rfl,rfl⟩
  . rw [EP h]; exact ⟨rfl,rfl,rfl⟩
theorem Lt {p:Int} {l:List D5} {w:f9}:∀ k,(M9 p l w k).2.1=w.2.1/\(M9 p l w k).1=w.1/\(M9 p l w k).2.2.1=w.2.2.1
  | 0=>⟨rfl,rfl,rfl⟩
  | k+1=>by
    obtain ⟨h1,h2,h3⟩:=Lt (p:=p) (l:=l) (w:=w) k;obtain ⟨g1,g2,g3⟩:=EO (w:=M9 p l w k) (k:=1) (f:=p) (t:=M1 (M9 p l w k)) (s:=(l.getD k (0,[],())).1) (x:=(l.getD k (0,[],())).2.1);exact ⟨g1.trans h1,g2.trans h2,g3.trans h3⟩
def CU (w:f9) (p:Int):f9:=M3 w 3 p (M1 w) (w.2.1.getD p.toNat j9).2.2.2.1.1 []
def yi (w:f9) (p:Int):List D5:=(wQ (P6 w p) 4).1
def W3 (w:f9) (p:Int):f9×Int :=
  if M0 w p≠0 then (w,M0 w p) else (CU (M9 p (yi w p) w (yi w p).length) p,0)
def HM:p9:={ ps:=[.rw w5,.v e8],rs:=[e8],pre:=λ x=>List.length (α:=o8) (x.1:f9).2.1<=6,fn:=λ x=>((W3 x.1 x.2.1).2,()),out:=λ x=>((W3 x.1 x.2.1).1,()) }
noncomputable def BL:Env:={ P:=Tryz.prog,tt:=tt,C7:=[(41,Dv),(54,Ik),(43,zZ),(44,zA)],res:=[Go.ResultVar.tmp 4],rs:=[Ty.int IntKind.i64],ps:=[PK.rw w5,PK.v e8],B9:=[(6,[(0,none),(1,none),(28,some (Ty.d0 true r8)),(29,none),(30,none)])],nt:=58 }
theorem KI:w7 BL:=x8 r7 ⟨a87,b4F,Fu,Fc,trivial⟩
theorem KM:C0 BL Tryz.f26:=⟨rfl,rfl⟩
theorem Zt (ai:Int) (af:Int) (ab:List o8) (ae:List yY) (aa:List yY) (x1:Int):exec BL 1000 [.code (d8 Tryz.prog 26)] (s8 HM.ps ((((ai,af,()),ab,ae,aa,()),x1,()))) =
  .f7 (List.length ab<=6) (cond (decide (M0 ((ai,af,()),ab,ae,aa,()) x1≠(0:Int))) (.ret ((M0 ((ai,af,()),ab,ae,aa,()) x1,((ai,af,()),ab,ae,aa,()),()))) (.f7 ((0:Int)<=x1/\x1<(↑(List.length ab):Int)) (.f7 (True) (.ctL (g9 (d8 Tryz.prog 26) 6) (St.mk [(0,AV.ptr 2000000 []),(1,AV.val e8 x1),(28,AV.at_ 1000028 []),(29,AV.val e8 (↑(List.length (Prod.fst (wQ (Prod.fst (Prod.snd (Prod.snd (List.getD ab (Int.toNat x1) (false,[],((0:Int),[],()),((0:Int),[],()),((0:Int),[],()),()))))) (4:Int)))):Int)),(30,AV.val e8 (0:Int))] [(1000028,i7.own (Ty.d0 true r8) (Prod.fst (wQ (Prod.fst (Prod.snd (Prod.snd (List.getD ab (Int.toNat x1) (false,[],((0:Int),[],()),((0:Int),[],()),((0:Int),[],()),()))))) (4:Int)))),(2000000,i7.var w5 ((ai,af,()),ab,ae,aa,()))]))))):=by kernel_rfl
def KJ (v1:Int) (wE:Int) (v30:Int) (eD:List (Int×yY×Unit)) (ar:Int) (an:Int) (aj:List o8) (ak:List yY) (ah:List yY):St:=St.mk [(0,AV.ptr 2000000 []),(1,AV.val e8 v1),(28,AV.at_ 1000028 []),(29,AV.val e8 wE),(30,AV.val e8 v30)] [(1000028,i7.own (Ty.d0 true r8) eD),(2000000,i7.var w5 ((ar,an,()),aj,ak,ah,()))]
theorem c2J (v1:Int) (wE:Int) (v30:Int) (eD:List (Int×yY×Unit)) (ar:Int) (an:Int) (aj:List o8) (ak:List yY) (ah:List yY):exec BL 1000 (.code (g9 (d8 Tryz.prog 26) 6).1::.inLoop (g9 (d8 Tryz.prog 26) 6).1::(g9 (d8 Tryz.prog 26) 6).2) (KJ v1 wE v30 eD ar an aj ak ah) =
  cond (decide (v30<wE)) (.f7 ((0:Int)<=v30/\v30<(↑(List.length eD):Int)) (.f7 (True) (.f7 (True) (.f7 (r9 IntKind.i64 (v30+(1:Int))) (.ctL (g9 (d8 Tryz.prog 26) 6) (St.mk [(0,AV.ptr 2000000 []),(1,AV.val e8 v1),(28,AV.at_ 1000028 []),(29,AV.val e8 wE),(30,AV.val e8 (v30+(1:Int)))] [(1000028,i7.own (Ty.d0 true r8) eD),(2000000,i7.var w5 (M3 ((ar,an,()),aj,ak,ah,()) (1:Int) v1 (M1 ((ar,an,()),aj,ak,ah,())) (Prod.fst (List.getD eD (Int.toNat v30) ((0:Int),[],()))) (Prod.fst (Prod.snd (List.getD eD (Int.toNat v30) ((0:Int),[],()))))))])))))) (.f7 (True) (.f7 ((0:Int)<=v1/\v1<(↑(List.length aj):Int)) (.f7 (True) (.ret (((0:Int),M3 ((ar,an,()),aj,ak,ah,()) (3:Int) v1 (M1 ((ar,an,()),aj,ak,ah,())) (Prod.fst (Prod.fst (Prod.snd (Prod.snd (Prod.snd (List.getD aj (Int.toNat v1) (false,[],((0:Int),[],()),((0:Int),[],()),((0:Int),[],()),()))))))) (Array.toList (ByteArray.data (ByteArray.mk #[]))),())))))):=by kernel_rfl
theorem c0P (s:vP) (m:Int):(wQ s m).1.length<=16:=by
  unfold wQ;by_cases h:I1 s≠0
  . rw [if_pos h]; exact Nat.zero_le _
  . rw [if_neg h];exact Nat.le_trans Ls (xS (Decidable.not_not.1 h)).2.1
attribute [local irreducible] W3 M3 wQ in
theorem b6o:HM.Valid Tryz.prog 26:=by
  refine p9.n9 KI rfl rfl Tryz.func26 (c:=d8 Tryz.prog 26) rfl rfl KM rfl ?_;rintro ⟨⟨⟨(v0:Int),(v1:Int),⟨⟩⟩,(al:List o8),(od:List yY),(wy:List yY),⟨⟩⟩,(p:Int),⟨⟩⟩ (hp:al.length<=6) -
  refine j7 (n:=1000) KI KM ?_;refine i8 (Zt v0 v1 al od wy p) ?_;simp only [j8,Tree.holds,sL];have key:∀ r:f9×Int,W3 ((v0,v1,()),al,od,wy,()) p=r->(((r.2,r.1,()):Int×f9×Unit)=((W3 ((v0,v1,()),al,od,wy,()) p).2,(W3 ((v0,v1,()),al,od,wy,()) p).1,())):=by rintro r rfl; rfl
  have e1:=λ a=>(W3.eq_1 ((v0,v1,()),al,od,wy,()) p).trans (if_pos a);have e2:=λ a=>(W3.eq_1 ((v0,v1,()),al,od,wy,()) p).trans (if_neg a);refine ⟨hp,λ _=>⟨λ a=>key (_,_) (e1 a),λ a=>⟨Fk a,λ _=>?_⟩⟩⟩;obtain ⟨w,hw⟩:∃ w:f9,w=((v0,v1,()),al,od,wy,()):=⟨_,rfl⟩;obtain ⟨l,hl⟩:∃ l,l=yi ((v0,v1,()),al,od,wy,()) p:=⟨_,rfl⟩;have jW:l.length<=16:=by rw [hl]; exact c0P _ _
  have e3:W3 ((v0,v1,()),al,od,wy,()) p=(CU (M9 p l w l.length) p,0):=by rw [e2 a,hl,hw]
  suffices go:Go.Ex.Reach BL Tryz.f26 ((0:Int),()) (CU (M9 p l w l.length) p,()) (.code (g9 (d8 Tryz.prog 26) 6).1::.inLoop (g9 (d8 Tryz.prog 26) 6).1::(g9 (d8 Tryz.prog 26) 6).2) (KJ p (l.length:Int) ((0:Nat):Int) l (M9 p l w 0).1.1 (M9 p l w 0).1.2.1 (M9 p l w 0).2.1 (M9 p l w 0).2.2.1 (M9 p l w 0).2.2.2.1) by
    subst hw;subst hl;rw [e3];exact go
  refine Reach.M8 KI KM (λ i:Nat=>KJ p (l.length:Int) (i:Int) l (M9 p l w i).1.1 (M9 p l w i).1.2.1 (M9 p l w i).2.1 (M9 p l w i).2.2.1 (M9 p l w i).2.2.2.1) (λ i=>i<=l.length)
    (λ i=>l.length - i) 1000 (λ _=>⟨u6 rfl,u6 rfl⟩) ?_ 0 (Nat.zero_le _)
  rintro i k1 - ih;have k1:i<=l.length:=k1;refine i8 (c2J ..) ?_;have e4:((i:Nat):Int)+1=((i+1:Nat):Int):=by omega
  simp only [j8,Tree.holds,e4,sL];refine ⟨λ c=>⟨⟨by omega,by omega⟩,λ _=>⟨by omega,λ _=>?_⟩⟩,λ c=>⟨?_,λ _=>?_⟩⟩
  . exact ih (i+1) (by show i+1<=l.length; omega) (by show l.length - (i+1)<l.length - i; omega)
  . rw [(Lt i).1,hw]; exact Fk a
  . obtain rfl:i=l.length:=by omega
    rfl
end Go.Proofs.YtijlnmgondibnaaGreatDoor
namespace Go.Proofs.YtijlnmgondibnaaGreatDoor
set_option maxRecDepth 100000
def vy:Nat->Nat->yY
  | 0,_=>[]
  | f+1,u=>if u<10 then [UInt8.ofNat (48+u)] else vy f (u / 10)++[UInt8.ofNat (48+u % 10)]
theorem Iq:∀ (f u:Nat),u<10^f->1<=f->Lib.decDigits u=vy f u
  | 0,_,_,h=>absurd h (by decide)
  | f+1,u,h,_=>by
    rw [Lib.decDigits,vy];by_cases c:u<10
    . rw [dif_pos c,if_pos c]
    . rw [dif_neg c,if_neg c];have hf:1<=f:=by
        rcases f with _|f
        . simp at h; omega
        . omega
      rw [Iq f (u / 10) (by rw [Nat.pow_succ] at h; exact Nat.div_lt_of_lt_mul (by omega)) hf]
def D3 (n:Int):yY:=if n<0 then 45::vy 20 n.natAbs else vy 20 n.toNat
theorem Wx {n:Int} (h0:-9223372036854775808<=n) (h1:n<=9223372036854775807):Lib.itoa n=D3 n:=by
  have h9:(10:Nat)^20=100000000000000000000:=by decide
  unfold Lib.itoa D3;by_cases c:n<0
  . rw [if_pos c,if_pos c,Iq 20 n.natAbs (by omega) (by decide)]
  . rw [if_neg c,if_neg c,Iq 20 n.toNat (by omega) (by decide)]
theorem Ku {d:Nat} (h:d<10):(UInt8.ofNat (48+d)).toNat=48+d:=by
  rw [UInt8.toNat_ofNat']; omega
theorem Ks:∀ (f u:Nat),∀ b∈vy f u,48<=b.toNat/\b.toNat<=57
  | 0,_,b,h=>by cases h
  | f+1,u,b,h=>by
    rw [vy] at h;split at h
    . rename_i c;rw [List.mem_singleton.1 h,Ku c]; omega
    . rcases List.mem_append.1 h with h|h
      . exact Ks f _ b h
      . rw [List.mem_singleton.1 h,Ku (Nat.mod_lt _ (by decide))];have:=Nat.mod_lt u (show 0<10 by decide); omega
theorem Xk {f u:Nat}:vy (f+1) u≠[]:=by
  rw [vy]; split
  . exact List.cons_ne_nil _ _
  . simp
theorem EE:∀ (f u k:Nat),u<10^k->1<=k->(vy f u).length<=k
  | 0,_,_,_,_=>Nat.zero_le _
  | f+1,u,k,h,hk=>by
    rw [vy];by_cases c:u<10
    . rw [if_pos c]; exact hk
    . rw [if_neg c];rcases k with _|_|k
      . omega
      . simp at h; omega
      . have:=EE f (u / 10) (k+1) (by rw [Nat.pow_succ] at h; exact Nat.div_lt_of_lt_mul (by omega)) (by omega);rw [List.length_append]; simp only [List.length_singleton]; omega
theorem Lx:∀ (l:yY) (acc:Nat) (b:UInt8) (a d:Nat),Lib.decFrom acc l=some a->Lib.digitVal b=some d->Lib.decFrom acc (l++[b])=some (a*10+d)
  | [],acc,b,a,d,h,hd=>by
    simp only [Lib.decFrom,Option.some.injEq] at h;subst h;simp [Lib.decFrom,hd]
  | x::l,acc,b,a,d,h,hd=>by
    rw [List.cons_append];rw [Lib.decFrom] at h ⊢;cases e:Lib.digitVal x with
    | none=>rw [e] at h; cases h
    | some y=>rw [e] at h; exact Lx l _ b a d h hd
theorem Ue {d:Nat} (h:d<10):Lib.digitVal (UInt8.ofNat (48+d))=some d:=by
  unfold Lib.digitVal;rw [Ku h,if_pos (by omega)];congr 1; omega
theorem RJ:∀ (f u:Nat),u<10^f->1<=f->Lib.decFrom 0 (vy f u)=some u
  | 0,_,_,h=>absurd h (by decide)
  | f+1,u,h,_=>by
    rw [vy];by_cases c:u<10
    . rw [if_pos c];have:=Lx [] 0 _ 0 u rfl (Ue c);simpa using this
    . rw [if_neg c];have hf:1<=f:=by
        rcases f with _|f
        . simp at h; omega
        . omega
      have h1:=RJ f (u / 10) (by rw [Nat.pow_succ] at h; exact Nat.div_lt_of_lt_mul (by omega)) hf;rw [Lx _ 0 _ _ _ h1 (Ue (Nat.mod_lt _ (by decide)))];congr 1; omega
theorem JN {n:Nat}:D3 (n:Int)=vy 20 n:=by
  unfold D3; rw [if_neg (by omega)]; rfl
theorem EN {n:Nat} (h:n<10^20):Lib.atoi (D3 (n:Int))=some (n:Int):=by
  rw [JN];have h1:=RJ 20 n h (by decide);have h2:=Ks 20 n;have h3:vy 20 n≠[]:=Xk;generalize vy 20 n=l at *
  cases l with
  | nil=>exact absurd rfl h3
  | cons b r =>
    have hb:=h2 b List.mem_cons_self;have b1:(b == 45)=false:=by
      rw [beq_eq_false_iff_ne]; rintro rfl; exact absurd hb.1 (by decide)
    have b2:(b == 43)=false:=by
      rw [beq_eq_false_iff_ne]; rintro rfl; exact absurd hb.1 (by decide)
    simp [Lib.atoi,b1,b2,Lib.decNat,h1]
theorem NS {n:Nat}:(58:UInt8)∉D3 (n:Int):=by
  rw [JN];intro h;have:=Ks 20 n _ h;exact absurd this.2 (by decide)
theorem QF {n:Nat} (k:Nat) (h:n<10^k) (hk:1<=k):(D3 (n:Int)).length<=k:=by
  rw [JN]; exact EE 20 n k h hk
theorem CG {n:Int} (h0:-9223372036854775808<=n) (h1:n<=9223372036854775807):(D3 n).length<=20:=by
  have h9:(10:Nat)^19=10000000000000000000:=by decide
  unfold D3
  split
  . rw [List.length_cons];have:=EE 20 n.natAbs 19 (by omega) (by decide);omega
  . have:=EE 20 n.toNat 19 (by omega) (by decide);omega
def y6:yY->yY×yY×Bool
  | []=>([],[],false)
  | b::l=>if b=58 then ([],l,true) else if (y6 l).2.2=true then (b::(y6 l).1,(y6 l).2.1,true) else (b::l,[],false)
theorem Nz:∀ s:yY,Lib.cut s [58]=y6 s
  | []=>by decide
  | b::l=>by
    have ih:=Nz l;have hg:=Lib.index_ge l [58];by_cases e:b=58
    . subst e;rw [y6,if_pos rfl];simp [Lib.cut,Lib.index,List.isPrefixOf]
    . have hp:List.isPrefixOf [58] (b::l)=false:=by simp [List.isPrefixOf,Ne.symm e]
      have e1:Lib.index (b::l) [58]=if Lib.index l [58] == -1 then -1 else Lib.index l [58]+1:=by rw [Lib.index,hp]; simp
      rw [y6,if_neg e,<- ih];unfold Lib.cut;rw [e1];by_cases c:Lib.index l [58]=-1
      . rw [c]; simp
      . have c0:0<=Lib.index l [58]:=by omega
        obtain ⟨k,hk⟩:∃ k:Nat,Lib.index l [58]=k:=⟨_,(Int.toNat_of_nonneg c0).symm⟩;rw [hk];have c1:((k:Int) == -1)=false:=by rw [beq_eq_false_iff_ne]; omega
        rw [c1];have c2:(0:Int)<=k:=by omega
        have c3:(0:Int)<=(k:Int)+1:=by omega
        have c4:((k:Int)+1).toNat=k+1:=by omega
        have c5:k+1+1=k+1+1:=rfl;simp [c2,c3,c4]
theorem BY (s:yY):(y6 s).1.length<=s.length/\(y6 s).2.1.length<=s.length:=by
  induction s with
  | nil=>exact ⟨Nat.le_refl _,Nat.le_refl _⟩
  | cons b l ih =>
    rw [y6]
    split
    . exact ⟨Nat.zero_le _,by simp⟩
    . split
      . simp only [List.length_cons]; omega
      . simp
theorem Io:∀ {a b:yY},(58:UInt8)∉a->y6 (a++58::b)=(a,b,true)
  | [],b,_=>by rw [List.nil_append,y6,if_pos rfl]
  | x::a,b,h=>by
    have hx:x≠58:=λ e=>h (by rw [e]; exact List.mem_cons_self);have ih:=Io (a:=a) (b:=b) (λ e=>h (List.mem_cons_of_mem _ e));rw [List.cons_append,y6,if_neg hx,ih,if_pos rfl]
def I9 (p k:Int) (t:yY):yY:=D3 p++[58]++D3 k++[58]++t
theorem EV (p k:Nat) (t:yY):y6 (I9 p k t)=(D3 p,D3 k++[58]++t,true):=by
  unfold I9;rw [show D3 (p:Int)++[58]++D3 (k:Int)++[58]++t=D3 (p:Int)++58::(D3 (k:Int)++[58]++t) by simp];exact Io NS
theorem KQ (k:Nat) (t:yY):y6 (D3 k++[58]++t)=(D3 k,t,true):=by
  rw [show D3 (k:Int)++[58]++t=D3 (k:Int)++58::t by simp];exact Io NS
end Go.Proofs.YtijlnmgondibnaaGreatDoor
namespace Go.Proofs.YtijlnmgondibnaaGreatDoor
open Go.Ex
set_option maxRecDepth 100000
def ub (n:Int):UInt8:=UInt8.ofNat (n % 256).toNat
def tb (n:Int):yY:=[ub n,ub (n / 256),ub (n / 65536)]
theorem Gf (x:UInt8):ub (x.toNat:Int)=x:=by
  have:=x.toNat_lt;apply UInt8.toNat_inj.1;rw [ub,EG]; omega
theorem DC (n:Int):((ub n).toNat:Int)=n % 256:=by rw [ub,EG]; omega
theorem a28 (x y z:UInt8):tb ((x.toNat:Int)+(y.toNat:Int)*256+(z.toNat:Int)*65536)=[x,y,z]:=by
  have h1:=x.toNat_lt;have h2:=y.toNat_lt;have h3:=z.toNat_lt;rw [tb,List.cons.injEq,List.cons.injEq,List.cons.injEq];refine ⟨?_,?_,?_,rfl⟩<;>(apply UInt8.toNat_inj.1; rw [ub,EG]; omega)
theorem Tp (l:List Int):xj (l.flatMap U7)=l.flatMap tb:=by
  induction l with
  | nil=>rfl
  | cons x l ih=>rw [List.flatMap_cons,EU,ih,List.flatMap_cons]; rfl
theorem JA (n:C1):we n=[ub n.1,ub n.2.1,ub n.2.2.1]++(Z2 n).flatMap tb++n.2.2.2.2.2.2.1:=by
  rw [we,yS,EU,EU,Tp,KP]; rfl
theorem G6 {k:Nat} {s:yY} (h:k+1<=s.length):∃ b t,s=b::t/\k<=t.length:=by
  match s,h with
  | b::t,h=>exact ⟨b,t,rfl,by simpa using h⟩
theorem c1V {s:yY} (h:27<=s.length):we (parse s)=s:=by
  obtain ⟨b0,t0,rfl,h0⟩:=G6 (k:=26) h;obtain ⟨b1,t1,rfl,h1⟩:=G6 (k:=25) h0;obtain ⟨b2,t2,rfl,h2⟩:=G6 (k:=24) h1;obtain ⟨b3,t3,rfl,h3⟩:=G6 (k:=23) h2;obtain ⟨b4,t4,rfl,h4⟩:=G6 (k:=22) h3;obtain ⟨b5,t5,rfl,h5⟩:=G6 (k:=21) h4;obtain ⟨b6,t6,rfl,h6⟩:=G6 (k:=20) h5;obtain ⟨b7,t7,rfl,h7⟩:=G6 (k:=19) h6;obtain ⟨b8,t8,rfl,h8⟩:=G6 (k:=18) h7;obtain ⟨b9,t9,rfl,h9⟩:=G6 (k:=17) h8;obtain ⟨Bh,t10,rfl,fW⟩:=G6 (k:=16) h9;obtain ⟨Bg,t11,rfl,gk⟩:=G6 (k:=15) fW;obtain ⟨Bf,t12,rfl,uG⟩:=G6 (k:=14) gk;obtain ⟨xb,t13,rfl,uF⟩:=G6 (k:=13) uG;obtain ⟨Be,t14,rfl,uE⟩:=G6 (k:=12) uF;obtain ⟨Bd,t15,rfl,uD⟩:=G6 (k:=11) uE;obtain ⟨yH,t16,rfl,oD⟩:=G6 (k:=10) uD;obtain ⟨b17,t17,rfl,uC⟩:=G6 (k:=9) oD;obtain ⟨b18,t18,rfl,uB⟩:=G6 (k:=8) uC;obtain ⟨b19,t19,rfl,uA⟩:=G6 (k:=7) uB;obtain ⟨b20,t20,rfl,uz⟩:=G6 (k:=6) uA;obtain ⟨b21,t21,rfl,ux⟩:=G6 (k:=5) uz;obtain ⟨b22,t22,rfl,uw⟩:=G6 (k:=4) ux;obtain ⟨b23,t23,rfl,uv⟩:=G6 (k:=3) uw;obtain ⟨b24,t24,rfl,uu⟩:=G6 (k:=2) uv;obtain ⟨b25,t25,rfl,ur⟩:=G6 (k:=1) uu;obtain ⟨b26,t,rfl,uV⟩:=G6 (k:=0) ur;rw [JA];show [ub (b0.toNat:Int),ub (b1.toNat:Int),ub (b2.toNat:Int)]++(tb ((b3.toNat:Int)+(b4.toNat:Int)*256+(b5.toNat:Int)*65536)++(tb ((b6.toNat:Int)+(b7.toNat:Int)*256+(b8.toNat:Int)*65536)++(tb ((b9.toNat:Int)+(Bh.toNat:Int)*256+(Bg.toNat:Int)*65536)++(tb ((Bf.toNat:Int)+(xb.toNat:Int)*256+(Be.toNat:Int)*65536)++(tb ((Bd.toNat:Int)+(yH.toNat:Int)*256+(b17.toNat:Int)*65536)++(tb ((b18.toNat:Int)+(b19.toNat:Int)*256+(b20.toNat:Int)*65536)++(tb ((b21.toNat:Int)+(b22.toNat:Int)*256+(b23.toNat:Int)*65536)++(tb ((b24.toNat:Int)+(b25.toNat:Int)*256+(b26.toNat:Int)*65536)++[]))))))))++t=_;rw [a28,a28,a28,a28,a28,a28,a28,a28,Gf,Gf,Gf];rfl
theorem c0F:∀ {n:C1},HT n->n.2.2.2.2.2.1.length=6->parse (we n)=n
  | (a,b,c,d,e,[v0,v1,v2,v3,v4,v5],t,()),h,_=>by
    have num:∀ x:Int,0<=x/\x<=16777215->((ub x).toNat:Int)+((ub (x / 256)).toNat:Int)*256+((ub (x / 65536)).toNat:Int)*65536=x:=by
      intro x hx; rw [DC,DC,DC]; omega
    have one:∀ x:Int,0<=x/\x<=255->((ub x).toNat:Int)=x:=by intro x hx; rw [DC]; omega
    rw [JA];show (((ub a).toNat:Int),((ub b).toNat:Int),((ub c).toNat:Int),((ub d).toNat:Int)+((ub (d / 256)).toNat:Int)*256+((ub (d / 65536)).toNat:Int)*65536,((ub e).toNat:Int)+((ub (e / 256)).toNat:Int)*256+((ub (e / 65536)).toNat:Int)*65536,
      [((ub v0).toNat:Int)+((ub (v0 / 256)).toNat:Int)*256+((ub (v0 / 65536)).toNat:Int)*65536,((ub v1).toNat:Int)+((ub (v1 / 256)).toNat:Int)*256+((ub (v1 / 65536)).toNat:Int)*65536,((ub v2).toNat:Int)+((ub (v2 / 256)).toNat:Int)*256+((ub (v2 / 65536)).toNat:Int)*65536,
       ((ub v3).toNat:Int)+((ub (v3 / 256)).toNat:Int)*256+((ub (v3 / 65536)).toNat:Int)*65536,((ub v4).toNat:Int)+((ub (v4 / 256)).toNat:Int)*256+((ub (v4 / 65536)).toNat:Int)*65536,((ub v5).toNat:Int)+((ub (v5 / 256)).toNat:Int)*256+((ub (v5 / 65536)).toNat:Int)*65536],t,())=_
    have hv:∀ x∈[v0,v1,v2,v3,v4,v5],0<=x/\x<=16777215:=h.at_;have hf:0<=b/\b<=5:=h.from_;have ht:0<=c/\c<=5:=h.to;rw [one a h.kind,one b (by omega),one c (by omega),num d h.view,num e h.seq,num v0 (hv _ (by simp)),num v1 (hv _ (by simp)),num v2 (hv _ (by simp)),num v3 (hv _ (by simp)),num v4 (hv _ (by simp)),num v5 (hv _ (by simp))]
theorem YG {n:C1} (h:n.2.2.2.2.2.1.length=6):(we n).length=27+n.2.2.2.2.2.2.1.length:=by
  have:∀ l:List Int,(l.flatMap tb).length=3*l.length:=λ l=>by rw [<- Tp,xj,List.length_map,Ru]
  rw [JA,List.length_append,List.length_append,this];show 3+3*(n.2.2.2.2.2.1.length+1+1)+_=_;omega
theorem ZF {n:C1} (aM:HT n) (h:n.2.2.2.2.2.1.length=6):31<=(vA n).length/\(vA n).length<=231:=by
  rw [vA,List.length_append,YG h];have:=aM.text;show _/\_+4<=231;exact ⟨by show 31<=_+4; omega,by omega⟩
theorem ZR {n:C1} (hc:I0 n=0) (h:n.2.2.2.2.2.1.length=6):x6 (vA n)=(n,0,()):=by
  have aM:=KV hc;obtain ⟨h1,h2⟩:=ZF aM h;have e4:(vA n).length - 4=(we n).length:=by rw [vA,List.length_append]; show (we n).length+4 - 4=_; omega
  have e5:(vA n).take ((vA n).length - 4)=we n:=by rw [e4,vA,List.take_left']; rfl
  have e6:(vA n).drop ((vA n).length - 4)=le4 (vB (we n)):=by rw [e4,vA,List.drop_left']; rfl
  rw [x6,if_neg (by omega),if_neg (by omega),e5,e6,if_neg (λ c=>c rfl),c0F aM h,if_neg (λ c=>c hc)]
theorem WK {s:yY} (h:(x6 s).2.1=0):I0 (x6 s).1=0/\vA (x6 s).1=s:=by
  unfold x6 at h ⊢;split at h
  . cases h
  split at h
  . cases h
  split at h
  . cases h
  split at h
  . rename_i c; exact absurd h c
  . rename_i c1 c2 c3 c4;rw [if_neg c1,if_neg c2,if_neg c3,if_neg c4];have hl:27<=(s.take (s.length - 4)).length:=by rw [List.length_take]; omega
    refine ⟨Decidable.not_not.1 c4,?_⟩;show we (parse (s.take (s.length - 4)))++le4 (vB (we (parse (s.take (s.length - 4)))))=s;rw [c1V hl,Decidable.not_not.1 c3,List.take_append_drop]
theorem ZE {n:C1} (h:I0 n=0):U5 n=(vA n,0,()):=by rw [U5,if_neg (λ c=>c h)]
theorem Yy {n:C1} (h:I0 n≠0):U5 n=([],I0 n,()):=by rw [U5,if_pos h]
def N9 (w:f9) (p:Int):o8:=w.2.1.getD p.toNat j9
def yz (w:f9) (p:Int) (x:o8):f9:=(w.1,w.2.1.set p.toNat x,w.2.2)
def zR (w:f9) (x:yY):f9:=(w.1,w.2.1,w.2.2.1++[x],w.2.2.2)
def G9 (x:yY) (w:f9):Nat->f9
  | 0=>w
  | p+1=>if s7 (G9 x w p) p=true then M3 (G9 x w p) 2 (M1 (G9 x w p)) p (((G9 x w p).2.2.1.length:Int) - 1) x else G9 x w p
def J0 (f first:Int) (l:List yY) (w:f9):Nat->f9
  | 0=>w
  | i+1=>G9 (I9 f (first+i) (l.getD i [])) (zR (J0 f first l w i) (I9 f (first+i) (l.getD i []))) (J0 f first l w i).2.1.length
def Z1 (w:f9) (n:C1):ToD×List yY×Int×Unit:=D8 (N9 w n.2.1).2.2.2.2.1 (n.2.2.2.2.1,n.2.2.2.2.2.2.1,())
def yp (x:o8) (r:ToD):o8:=(x.1,x.2.1,x.2.2.1,x.2.2.2.1,r,())
def X8 (w:f9) (n:C1):f9 :=
  if (Z1 w n).2.2.1≠0 then w else
  J0 n.2.1 (N9 w n.2.1).2.2.2.2.1.1 (Z1 w n).2.1 (yz w n.2.1 (yp (N9 w n.2.1) (Z1 w n).1)) (Z1 w n).2.1.length
def who (t:yY):Int:=(Lib.atoi (y6 t).1).getD 0
def nth (t:yY):Int:=(Lib.atoi (y6 (y6 t).2.1).1).getD 0
def xh (t:yY):yY:=(y6 (y6 t).2.1).2.1
def wg (q:Int) (x:o8) (t:yY):o8 :=
  if who t=q/\(R4 x.2.2.1 (nth t+1)).2.1=0 then (x.1,x.2.1++[(who t,xh t,())],(R4 x.2.2.1 (nth t+1)).1,x.2.2.2) else (x.1,x.2.1++[(who t,xh t,())],x.2.2)
def K0 (q:Int) (x:o8) (l:List yY):Nat->o8
  | 0=>x
  | i+1=>wg q (K0 q x l i) (l.getD i [])
def R0 (w:f9) (n:C1):ToD×List yY×Int×Unit:=D8 (N9 w n.2.2.1).2.2.2.1 (n.2.2.2.2.1,n.2.2.2.2.2.2.1,())
def Bm (x:o8) (r:ToD):o8:=(x.1,x.2.1,x.2.2.1,r,x.2.2.2.2)
def vF (w:f9) (n:C1):f9 :=
  if (R0 w n).2.2.1≠0 then w else
  yz w n.2.2.1 (K0 n.2.2.1 (Bm (N9 w n.2.2.1) (R0 w n).1) (R0 w n).2.1 (R0 w n).2.1.length)
def F8 (w:f9) (n:C1):Nat->f9
  | 0=>w
  | j+1=>if n.2.2.2.2.1+j<(F8 w n j).2.2.1.length then M3 (F8 w n j) 2 (M1 (F8 w n j)) n.2.1 (n.2.2.2.2.1+j) ((F8 w n j).2.2.1.getD (n.2.2.2.2.1+j).toNat []) else F8 w n j
def G2 (w:f9) (n:C1):f9 :=
  if known w n.2.1≠0 then w else if n.1=1 then X8 w n else if n.1=3 then F8 w n 4 else if n.1=2 then vF w n else w
def yU (w:f9) (k:Int):f9:=(w.1,w.2.1,w.2.2.1,w.2.2.2.1.take k.toNat++w.2.2.2.1.drop (k+1).toNat,())
def Dt (w:f9) (k:Nat):f9:=(w.1,w.2.1,w.2.2.1,w.2.2.2.1++[w.2.2.2.1.getD k []],())
def xp (w:f9) (bs:Int) (s:yY):f9 :=
  if bs=1/\(x6 s).2.1=0/\(x6 s).1.2.2.2.1=w.1.1/\s7 w (x6 s).1.2.2.1=true then G2 w (x6 s).1 else w
def G1 (w:f9) (k bs:Int):f9×Int :=
  if I6 bs 1 3=false then (w,1) else if I6 k 0 ((w.2.2.2.1.length:Int) - 1)=false then (w,6) else if bs=3/\(w.2.2.2.1.length:Int)=60 then (w,8)
  else if bs=3 then (Dt w k.toNat,0) else (xp (yU w k) bs (w.2.2.2.1.getD k.toNat []),0)
theorem Qb:∀ {l:List u7} {n:Int},∀ t∈(E2 l n).2.2,∃ q∈l,t=q.2.1
  | [],n,t,h=>by cases h
  | p::l,n,t,h=>by
    rw [E2] at h;split at h
    . rcases List.mem_cons.1 h with rfl|h
      . exact ⟨p,List.mem_cons_self,rfl⟩
      . obtain ⟨q,h1,h2⟩:=Qb t h;exact ⟨q,List.mem_cons_of_mem _ h1,h2⟩
    . cases h
theorem TC {s:ToD} {p:u7} (h:(D8 s p).2.2.1=0):AQ s.1 s.2.1/\(0<=p.1/\p.1<=16777214)/\E4 p.2.1=false /\
    ((D8 s p=(s,[],0,())/\(p.1<s.1\/s.1+16<=p.1\/Z4 p.1 s.2.1=true))\/((s.1<p.1/\p.1<s.1+16)/\Z4 p.1 s.2.1=false/\D8 s p=((s.1,xf p s.2.1,()),[],0,())) \/
      (p.1=s.1/\D8 s p=(((E2 s.2.1 (s.1+1)).1,(E2 s.2.1 (s.1+1)).2.1,()),p.2.1::(E2 s.2.1 (s.1+1)).2.2,0,()))):=by
  obtain ⟨r,l,⟨⟩⟩:=s;by_cases c1:toE (r,l,())≠0
  . rw [D8,if_pos c1] at h; exact absurd h c1
  have aM:=Jb.1 (Decidable.not_not.1 c1);by_cases c2:Y9 p.1 0 16777214=false
  . rw [D8,if_neg c1,if_pos c2] at h; cases h
  have h1:=wX.1 (Bool.not_eq_false _▸c2);by_cases c3:E4 p.2.1=true
  . rw [D8,if_neg c1,if_neg c2,if_pos c3] at h; cases h
  have h2:E4 p.2.1=false:=by simpa using c3
  refine ⟨aM,h1,h2,?_⟩;rw [Yu aM h1 h2];by_cases c4:p.1<r\/r+16<=p.1\/Z4 p.1 l=true
  . rw [if_pos c4]; exact .inl ⟨rfl,c4⟩
  rw [if_neg c4];by_cases c5:r<p.1
  . rw [if_pos c5];refine .inr (.inl ⟨⟨c5,?_⟩,?_,rfl⟩)
    . exact Int.not_le.1 (λ e=>c4 (.inr (.inl e)))
    . cases hk:Z4 p.1 l with
      | false=>rfl
      | true=>exact absurd (.inr (.inr hk)) c4
  . rw [if_neg c5];refine .inr (.inr ⟨?_,rfl⟩);have:¬ p.1<r:=λ e=>c4 (.inl e);show p.1=r;omega
theorem zo {s:ToD} {p:u7} (h:(D8 s p).2.2.1=0) :
    (∀ t∈(D8 s p).2.1,(t=p.2.1\/∃ q∈s.2.1,t=q.2.1)/\E4 t=false)/\(∀ q∈(D8 s p).1.2.1,q=p\/q∈s.2.1)/\(D8 s p).2.1.length<=16/\(0<=s.1/\s.1<=16777215) /\
      (D8 s p).1.1=s.1+(D8 s p).2.1.length/\(D8 s p).1.2.1.length+(D8 s p).2.1.length<=s.2.1.length+1:=by
  obtain ⟨aM,h1,h2,hc⟩:=TC h;have lH:=aM.rg;have hb:=aM.b;rcases hc with ⟨e,-⟩|⟨-,-,e⟩|⟨hp,e⟩
  . rw [e];exact ⟨λ t ht=>(by cases ht),λ q hq=>.inr hq,Nat.zero_le _,lH,by show s.1=s.1+((0:Nat):Int); omega,by show s.2.1.length+0<=_; omega⟩
  . rw [e];refine ⟨λ t ht=>(by cases ht),λ q hq=>(Yn.1 hq),Nat.zero_le _,lH,by show s.1=s.1+((0:Nat):Int); omega,?_⟩;show (xf p s.2.1).length+0<=_;rw [Ym]; omega
  . rw [e];obtain ⟨a1,a2,a3,a4⟩:=OX (l:=s.2.1) (n:=s.1+1) (by rw [show s.1+1 - 1=s.1 by omega]; exact aM.up);refine ⟨λ t ht=>?_,λ q hq=>.inr (a4 q hq),?_,lH,?_,?_⟩
    . rcases List.mem_cons.1 ht with rfl|ht
      . exact ⟨.inl rfl,h2⟩
      . obtain ⟨q,g1,g2⟩:=Qb t ht;exact ⟨.inr ⟨q,g1,g2⟩,by rw [g2]; exact (hb q g1).2⟩
    . show (p.2.1::(E2 s.2.1 (s.1+1)).2.2).length<=16;rw [List.length_cons];cases hl:s.2.1 with
      | nil=>simp [E2]
      | cons x m =>
        have:=Qk aM.up (λ x hx=>(hb x hx).1) (by rw [hl]; simp);rw [<- hl]; omega
    . show (E2 s.2.1 (s.1+1)).1=s.1+((p.2.1::(E2 s.2.1 (s.1+1)).2.2).length:Int);rw [List.length_cons,a2]; omega
    . show (E2 s.2.1 (s.1+1)).2.1.length+(p.2.1::(E2 s.2.1 (s.1+1)).2.2).length<=_;rw [List.length_cons]; omega
theorem Ki {t:yY} (h:E4 t=false):t.length<=200:=by
  simp only [E4,decide_eq_false_iff_not] at h; omega
def okT (t:yY):Prop:=∃ p k:Nat,∃ s,p<=5/\k<=16777300/\t=I9 p k s
theorem Zs {p k:Nat} {s:yY} (h:p<=5):who (I9 p k s)=p:=by
  unfold who;rw [EV];show (Lib.atoi (D3 p)).getD 0=p;rw [EN (by omega)]; rfl
theorem QE {p k:Nat} {s:yY} (h:k<=16777300):nth (I9 p k s)=k:=by
  unfold nth;rw [EV];show (Lib.atoi (y6 (D3 k++[58]++s)).1).getD 0=k;rw [KQ];show (Lib.atoi (D3 k)).getD 0=k;rw [EN (by omega)]; rfl
theorem c2V {p k:Nat} {s:yY}:xh (I9 p k s)=s:=by
  unfold xh;rw [EV];show (y6 (D3 k++[58]++s)).2.1=s;rw [KQ]
theorem WB {t:yY} (h:okT t):((y6 t).1.length<=18/\(Lib.atoi (y6 t).1).isSome=true)/\((y6 (y6 t).2.1).1.length<=18/\(Lib.atoi (y6 (y6 t).2.1).1).isSome=true)/\0<=nth t/\nth t<=16777300:=by
  obtain ⟨p,k,s,h1,h2,rfl⟩:=h;rw [QE h2];rw [EV];show ((D3 p).length<=18/\(Lib.atoi (D3 p)).isSome=true)/\((y6 (D3 k++[58]++s)).1.length<=18/\(Lib.atoi (y6 (D3 k++[58]++s)).1).isSome=true)/\_;rw [KQ,EN (by omega)];refine ⟨⟨QF 18 (by omega) (by decide),rfl⟩,⟨QF 18 (by omega) (by decide),?_⟩,by omega,by omega⟩;show (Lib.atoi (D3 k)).isSome=true;rw [EN (by omega)]; rfl
def I4 (w:f9):Nat->List D5
  | 0=>[]
  | k+1=>if s7 w k=true/\(I4 w k).length<(w.2.1.getD k j9).2.1.length then (w.2.1.getD k j9).2.1 else I4 w k
theorem c0R {w:f9}:∀ k,(I4 w k).length<=(I4 w (k+1)).length:=λ k=>by
  rw [I4]; split
  . rename_i h; exact Nat.le_of_lt h.2
  . exact Nat.le_refl _
theorem Ev {w:f9} {i:Nat} (ha:s7 w i=true):∀ {k:Nat},i<k->(w.2.1.getD i j9).2.1.length<=(I4 w k).length
  | 0,h=>by omega
  | k+1,h=>by
    by_cases e:i=k
    . subst e;rw [I4]
      split
      . exact Nat.le_refl _
      . rename_i h1;exact Nat.le_of_not_lt (λ h2=>h1 ⟨ha,h2⟩)
    . exact Nat.le_trans (Ev ha (by omega)) (c0R k)
theorem QA {w:f9} {b:Nat} (h:∀ i,(w.2.1.getD i j9).2.1.length<=b):∀ k,(I4 w k).length<=b
  | 0=>Nat.zero_le _
  | k+1=>by
    rw [I4]; split
    . exact h k
    . exact QA h k
def countP (p:Int):List D5->Nat
  | []=>0
  | s::l=>(if s.1=p then 1 else 0)+countP p l
theorem Su {p:Int}:∀ {l m:List D5},countP p (l++m)=countP p l+countP p m
  | [],m=>by simp [countP]
  | s::l,m=>by rw [List.cons_append,countP,countP,Su]; omega
theorem countP_le {p:Int}:∀ {l:List D5},countP p l<=l.length
  | []=>Nat.le_refl _
  | s::l=>by
    have:=countP_le (p:=p) (l:=l);rw [countP,List.length_cons]; split<;>omega
theorem TH {p:Int} {l:List D5} {i:Nat} (h:i<l.length):countP p (l.take (i+1))=countP p (l.take i)+if (l.getD i (0,[],())).1=p then 1 else 0:=by
  rw [Fj h (0,[],()),Su];simp [countP]
def vi (w:f9) (L:List D5) (i:Nat) (x:o8):o8 :=
  if s7 w i=true then (x.1,L,(0,x.2.2.1.2.1.drop (min (countP i (L.drop x.2.1.length)) x.2.2.1.2.1.length),()),(0,[],()),(0,[],()),()) else (x.1,x.2.1,x.2.2.1,x.2.2.2.1,(0,[],()),())
def F3 (w:f9):f9:=((R7 w).1,w.2.1.mapIdx (vi w (I4 w w.2.1.length)),[],w.2.2.2.1,())
def T6 (w:f9):f9×Int:=if (R7 w).2.1≠0 then (w,(R7 w).2.1) else (F3 w,0)
theorem b6A {v:vR} {al al':List o8} {r r':List yY×List yY×Unit} {p:Int} (hl:al'.length=al.length) (hf:(al'.getD p.toNat j9).1=(al.getD p.toNat j9).1):s7 (v,al',r') p=s7 (v,al,r) p:=by
  unfold s7;simp only;rw [hl,hf]
abbrev toM (x:o8):K9:=(x.1,(1,x.2.1,[]),x.2.2)
abbrev rdP (x:K9):o8:=(x.1,x.2.1.2.1,x.2.2)
abbrev dM:K9:=(false,(1,[],[]),(0,[],()),(0,[],()),(0,[],()),())
theorem Qe {al:List K9} {i:Nat}:(al.map rdP).getD i j9=rdP (al.getD i dM):=by
  rw [List.getD_eq_getElem?_getD,List.getElem?_map,List.getD_eq_getElem?_getD];cases al[i]?<;>rfl
theorem Jq {al:List o8} {i:Nat}:(al.map toM).getD i dM=toM (al.getD i j9):=by
  rw [List.getD_eq_getElem?_getD,List.getElem?_map,List.getD_eq_getElem?_getD];cases al[i]?<;>rfl
theorem Yk {α:Type} {d:α} {l m:List α} (h:l.length=m.length) (h2:∀ i,i<l.length->l.getD i d=m.getD i d):l=m:=by
  apply List.ext_getElem h;intro i h3 h4;have:=h2 i h3;rw [List.getD_eq_getElem?_getD,List.getD_eq_getElem?_getD,List.getElem?_eq_getElem h3,List.getElem?_eq_getElem h4] at this;exact this
theorem X4 {α:Type} {d:α} {l:List α} {i j:Nat} {x:α}:(l.set i x).getD j d=if i=j/\i<l.length then x else l.getD j d:=by
  rw [List.getD_eq_getElem?_getD,List.getElem?_set,List.getD_eq_getElem?_getD];by_cases h:i=j
  . subst h;by_cases h2:i<l.length
    . simp [h2]
    . simp [h2]
  . simp [h]
structure wo (w:f9) (al:List K9):Prop where
  len:al.length=w.2.1.length
  rd:∀ i:Nat,rdP (al.getD i dM)=w.2.1.getD i j9
  same:∀ i:Nat,s7 w i=false->al.getD i dM=toM (w.2.1.getD i j9)
theorem wo.start (w:f9):wo w (w.2.1.map toM):=⟨List.length_map ..,λ i=>by rw [Jq],λ i _=>by rw [Jq]⟩
theorem wo.vC {w:f9} {al:List K9} (h:wo w al) {k n:Nat} (ha:s7 w k=true):wo w (al.set k ((al.getD k dM).1,(n,(al.getD k dM).2.1.2.1,[]),(al.getD k dM).2.2)):=by
  refine ⟨by rw [List.length_set]; exact h.len,λ i=>?_,λ i hi=>?_⟩
  . rw [X4]
    split
    . rename_i e;rw [<- e.1,<- h.rd k]
    . exact h.rd i
  . rw [X4,if_neg]
    . exact h.same i hi
    . rintro ⟨rfl,-⟩;rw [ha] at hi; cases hi
structure wK (w:f9) (L:List D5) (k:Nat) (al:List K9):Prop where
  len:al.length=w.2.1.length
  done:∀ i:Nat,i<k->i<al.length->al.getD i dM=toM (vi w L i (w.2.1.getD i j9))
  rd:∀ i:Nat,k<=i->rdP (al.getD i dM)=w.2.1.getD i j9
  same:∀ i:Nat,k<=i->s7 w i=false->al.getD i dM=toM (w.2.1.getD i j9)
theorem wo.next {w:f9} {al:List K9} (h:wo w al) (L:List D5):wK w L 0 al:=⟨h.len,λ i hi=>by omega,λ i _=>h.rd i,λ i _=>h.same i⟩
theorem MS {w:f9} {L:List D5} {i:Nat} {x:o8}:(vi w L i x).1=x.1:=by unfold vi; split<;>rfl
theorem wK.act {w:f9} {L:List D5} {k:Nat} {al:List K9} (h:wK w L k al) (i:Nat):((al.map rdP).getD i j9).1=(w.2.1.getD i j9).1:=by
  rw [Qe];by_cases hk:k<=i
  . rw [h.rd i hk]
  . by_cases hi:i<al.length
    . rw [h.done i (by omega) hi];exact MS
    . have h1:al.getD i dM=dM:=by rw [List.getD_eq_getElem?_getD,List.getElem?_eq_none (by omega)]; rfl
      have h2:w.2.1.getD i j9=j9:=by rw [List.getD_eq_getElem?_getD,List.getElem?_eq_none (by have:=h.len; omega)]; rfl
      rw [h1,h2]; rfl
theorem wK.step {w:f9} {L:List D5} {k:Nat} {al:List K9} (h:wK w L k al):wK w L (k+1) (al.set k (toM (vi w L k (w.2.1.getD k j9)))):=by
  refine ⟨by rw [List.length_set]; exact h.len,λ i hi hl=>?_,λ i hi=>?_,λ i hi=>?_⟩
  . rw [List.length_set] at hl;rw [X4];by_cases e:k=i
    . rw [if_pos ⟨e,by omega⟩,e]
    . rw [if_neg (λ h=>e h.1)];exact h.done i (by omega) hl
  . rw [X4,if_neg (by omega)]; exact h.rd i (by omega)
  . rw [X4,if_neg (by omega)]; exact h.same i (by omega)
theorem wK.fin {w:f9} {L:List D5} {al:List K9} (h:wK w L w.2.1.length al):al=(w.2.1.mapIdx (vi w L)).map toM:=by
  refine Yk (d:=dM) (by rw [List.length_map,List.length_mapIdx]; exact h.len) (λ i hi=>?_);rw [h.done i (by have:=h.len; omega) hi,Jq];congr 1;rw [List.getD_eq_getElem?_getD (l:=List.mapIdx _ _),List.getElem?_mapIdx,List.getD_eq_getElem?_getD,List.getElem?_eq_getElem (by have:=h.len; omega)];rfl
abbrev D6:=yY
abbrev V8:=Nat×D6
def C3 (p:Nat):List V8->List D6
  | []=>[]
  | x::l=>if x.1=p then x.2::C3 p l else C3 p l
theorem yy {p:Nat}:∀ {l m:List V8},C3 p (l++m)=C3 p l++C3 p m
  | [],_=>rfl
  | x::l,m=>by
    rw [List.cons_append,C3,C3,yy]
    split<;>rfl
theorem Wz {p q:Nat} {l:List D6}:C3 p (l.map λ t=>(q,t))=if q=p then l else []:=by
  induction l with
  | nil=>split<;>rfl
  | cons t l ih =>
    rw [List.map_cons,C3,ih];by_cases h:q=p
    . rw [if_pos h,if_pos h,if_pos h]
    . rw [if_neg h,if_neg h,if_neg h]
theorem zv {p:Nat} {Q:List V8} {i:Nat}:C3 p (Q.take i) <+: C3 p Q:=by
  have h:C3 p Q=C3 p (Q.take i)++C3 p (Q.drop i):=by rw [<- yy,List.take_append_drop]
  exact ⟨_,h.symm⟩
def N1 (P:List V8):List V8->List D6
  | []=>[]
  | x::l=>I9 x.1 (C3 x.1 P).length x.2::N1 (P++[x]) l
def O7 (Q:List V8):List D6:=N1 [] Q
theorem TT:∀ {l P m:List V8},N1 P (l++m)=N1 P l++N1 (P++l) m
  | [],P,m=>by simp [N1]
  | x::l,P,m=>by
    rw [List.cons_append,N1,N1,TT,List.cons_append,List.append_assoc]; rfl
theorem TU:∀ {l P:List V8} {i:Nat},(N1 P l)[i]?=l[i]?.map (λ x=>I9 x.1 (C3 x.1 (P++l.take i)).length x.2)
  | [],P,i=>rfl
  | x::l,P,0=>by simp [N1]
  | x::l,P,i+1=>by
    rw [N1,List.getElem?_cons_succ,TU,List.getElem?_cons_succ,List.take_succ_cons,List.append_assoc]; rfl
theorem TV:∀ {l P:List V8},(N1 P l).length=l.length
  | [],_=>rfl
  | x::l,P=>by rw [N1,List.length_cons,TV,List.length_cons]
theorem Zf {Q:List V8}:(O7 Q).length=Q.length:=TV
theorem RH {Q:List V8} {i:Nat}:(O7 Q)[i]?=Q[i]?.map (λ x=>I9 x.1 (C3 x.1 (Q.take i)).length x.2):=by
  unfold O7; rw [TU]; rfl
theorem RG {Q m:List V8}:O7 (Q++m)=O7 Q++N1 Q m:=by
  unfold O7; rw [TT]; rfl
def xg (x:V8):D5:=(x.1,x.2,())
def ofP (p:Nat):List D5->List D6
  | []=>[]
  | x::l=>if x.1=(p:Int) then x.2.1::ofP p l else ofP p l
theorem IE {p:Nat}:∀ {l m:List D5},ofP p (l++m)=ofP p l++ofP p m
  | [],_=>rfl
  | x::l,m=>by
    rw [List.cons_append,ofP,ofP,IE]
    split<;>rfl
theorem Eb {p:Nat}:∀ {Q:List V8},ofP p (Q.map xg)=C3 p Q
  | []=>rfl
  | x::l=>by
    rw [List.map_cons,ofP,C3,Eb];by_cases h:x.1=p
    . rw [if_pos h,if_pos (by show (x.1:Int)=p; rw [h])]; rfl
    . rw [if_neg h,if_neg (by show ¬ (x.1:Int)=p; omega)]
theorem Sv {p:Nat}:∀ {l:List D5},countP p l=(ofP p l).length
  | []=>rfl
  | x::l=>by
    rw [countP,ofP,Sv];by_cases h:x.1=(p:Int)
    . rw [if_pos h,if_pos h,List.length_cons]; omega
    . rw [if_neg h,if_neg h]; omega
theorem Qc {F:Nat->Option D6}:∀ {l:List u7} {n:Int},0<=n->(∀ q∈l,F q.1.toNat=some q.2.1)->∀ i,i<(E2 l n).2.2.length->F (n.toNat+i)=(E2 l n).2.2[i]?
  | [],n,_,_,i,hi=>absurd hi (by simp [E2])
  | p::l,n,h0,h,i,hi=>by
    rw [E2] at hi ⊢;by_cases e:p.1=n
    . rw [if_pos e] at hi ⊢;cases i with
      | zero=>rw [List.getElem?_cons_zero,<- e]; exact h p List.mem_cons_self
      | succ i =>
        rw [List.getElem?_cons_succ,<- Qc (n:=n+1) (by omega) (λ q hq=>h q (List.mem_cons_of_mem _ hq)) i (by simpa using hi)];congr 1; omega
    . rw [if_neg e] at hi; exact absurd hi (by simp)
theorem Rf {F:Nat->Option D6} {s:ToD} {p:u7} (h:(D8 s p).2.2.1=0) (hs:∀ q∈s.2.1,F q.1.toNat=some q.2.1) (hp:F p.1.toNat=some p.2.1) :
    ∀ i,i<(D8 s p).2.1.length->F (s.1.toNat+i)=(D8 s p).2.1[i]?:=by
  obtain ⟨aM,h1,h2,hc⟩:=TC h;intro i hi;rcases hc with ⟨e,-⟩|⟨-,-,e⟩|⟨e1,e⟩
  . rw [e] at hi; exact absurd hi (by simp)
  . rw [e] at hi; exact absurd hi (by simp)
  . rw [e] at hi ⊢;cases i with
    | zero=>rw [List.getElem?_cons_zero,<- e1]; exact hp
    | succ i =>
      have h0:=aM.rg.1;show F (s.1.toNat+(i+1))=(p.2.1::(E2 s.2.1 (s.1+1)).2.2)[i+1]?;rw [List.getElem?_cons_succ,<- Qc (n:=s.1+1) (by omega) hs i (by simpa using hi)];congr 1; omega
theorem ZM {α:Type} {X l:List α} {r:Nat} (h:∀ i,i<l.length->X[r+i]?=l[i]?):l=(X.drop r).take l.length:=by
  apply List.ext_getElem?;intro i;rw [List.getElem?_take]
  split
  . rename_i hi;rw [List.getElem?_drop,h i hi]
  . rename_i hi;exact List.getElem?_eq_none (by omega)
theorem An {α:Type} {l m:List α} (h:l <+: m) {i:Nat} {x:α} (hx:l[i]?=some x):m[i]?=some x:=by
  obtain ⟨k,rfl⟩:=h;have hi:i<l.length:=by
    by_cases hi:i<l.length
    . exact hi
    . rw [List.getElem?_eq_none (by omega)] at hx; cases hx
  rw [List.getElem?_append_left hi]; exact hx
def X9 (m:Int) (p:Nat):Bool:=decide (T7 .u8 (m / (2:Int)^min p IntKind.u8.bits) 1=1)
theorem Cx {w:f9} {p:Int}:s7 w p=true↔∃ k:Nat,p=k/\k<w.2.1.length/\X9 w.1.2.1 k=true/\(w.2.1.getD k j9).1=false:=by
  unfold s7;rw [Bool.and_eq_true,Bool.and_eq_true,V4,Bool.not_eq_true'];constructor
  . rintro ⟨⟨h1,h2⟩,h3⟩;exact ⟨p.toNat,by omega,by omega,h2,h3⟩
  . rintro ⟨k,rfl,h1,h2,h3⟩;exact ⟨⟨by omega,h2⟩,h3⟩
theorem zx {w:f9} {k:Nat}:s7 w (k:Int)=true↔k<w.2.1.length/\X9 w.1.2.1 k=true/\(w.2.1.getD k j9).1=false:=by
  rw [Cx];constructor
  . rintro ⟨j,h,h1⟩;obtain rfl:k=j:=by omega
    exact h1
  . exact λ h=>⟨k,rfl,h⟩
def b70:Go.Shelf.Ren:=⟨λ|129=>120|171=>50|243=>68|246=>87|283=>104|284=>105|285=>106|286=>107|317=>119|318=>121|319=>122|320=>123|337=>143|338=>144|n=>n,λ|0=>0|2=>2|3=>3|4=>4|5=>5|9=>9|20=>20|37=>115|46=>119|51=>117|53=>159|171=>158|173=>162|212=>176|213=>177|232=>208|233=>209|n=>n,λ|17=>0|18=>4|19=>5|n=>n⟩
theorem Xr:Go.Proofs.LaysM.n171 Tryz.prog b70:={
  mixed:=by kernel_rfl,
  f129:=Tryz.func120.trans (congrArg some (by kernel_rfl)),
  f171:=Tryz.func50.trans (congrArg some (by kernel_rfl)),
  f243:=Tryz.func68.trans (congrArg some (by kernel_rfl)),
  f246:=Tryz.func87.trans (congrArg some (by kernel_rfl)),
  f283:=Tryz.func104.trans (congrArg some (by kernel_rfl)),
  f284:=Tryz.func105.trans (congrArg some (by kernel_rfl)),
  f285:=Tryz.func106.trans (congrArg some (by kernel_rfl)),
  f286:=Tryz.func107.trans (congrArg some (by kernel_rfl)),
  f317:=Tryz.func119.trans (congrArg some (by kernel_rfl)),
  f318:=Tryz.func121.trans (congrArg some (by kernel_rfl)),
  f319:=Tryz.func122.trans (congrArg some (by kernel_rfl)),
  f320:=Tryz.func123.trans (congrArg some (by kernel_rfl)),
  f337:=Tryz.func143.trans (congrArg some (by kernel_rfl)),
  f338:=Tryz.func144.trans (congrArg some (by kernel_rfl)),
  t0:=Tryz.underlying0,
  a0:=Tryz.isAgg0,
  z0:=Tryz.sizeOf0,
  v0:=Tryz.zeroValue0,
  t2:=Tryz.underlying2,
  a2:=Tryz.isAgg2,
  z2:=Tryz.sizeOf2,
  v2:=Tryz.zeroValue2,
  t3:=Tryz.underlying3,
  a3:=Tryz.isAgg3,
  z3:=Tryz.sizeOf3,
  v3:=Tryz.zeroValue3,
  t4:=Tryz.underlying4,
  a4:=Tryz.isAgg4,
  z4:=Tryz.sizeOf4,
  v4:=Tryz.zeroValue4,
  t5:=Tryz.underlying5,
  a5:=Tryz.isAgg5,
  z5:=Tryz.sizeOf5,
  v5:=Tryz.zeroValue5,
  t9:=Tryz.underlying9,
  a9:=Tryz.isAgg9,
  z9:=Tryz.sizeOf9,
  v9:=Tryz.zeroValue9,
  t20:=Tryz.underlying20,
  a20:=Tryz.isAgg20,
  z20:=Tryz.sizeOf20,
  v20:=Tryz.zeroValue20,
  t37:=Tryz.underlying115,
  a37:=Tryz.isAgg115,
  z37:=Tryz.sizeOf115,
  v37:=Tryz.zeroValue115,
  t46:=Tryz.underlying119,
  a46:=Tryz.isAgg119,
  z46:=Tryz.sizeOf119,
  v46:=Tryz.zeroValue119,
  t51:=Tryz.underlying117,
  a51:=Tryz.isAgg117,
  z51:=Tryz.sizeOf117,
  v51:=Tryz.zeroValue117,
  t53:=Tryz.underlying159,
  a53:=Tryz.isAgg159,
  z53:=Tryz.sizeOf159,
  v53:=Tryz.zeroValue159,
  t171:=Tryz.underlying158,
  a171:=Tryz.isAgg158,
  z171:=Tryz.sizeOf158,
  v171:=Tryz.zeroValue158,
  t173:=Tryz.underlying162,
  a173:=Tryz.isAgg162,
  z173:=Tryz.sizeOf162,
  v173:=Tryz.zeroValue162,
  t212:=Tryz.underlying176,
  a212:=Tryz.isAgg176,
  z212:=Tryz.sizeOf176,
  v212:=Tryz.zeroValue176,
  t213:=Tryz.underlying177,
  a213:=Tryz.isAgg177,
  z213:=Tryz.sizeOf177,
  t232:=Tryz.underlying208,
  a232:=Tryz.isAgg208,
  z232:=Tryz.sizeOf208,
  v232:=Tryz.zeroValue208,
  t233:=Tryz.underlying209,
  a233:=Tryz.isAgg209,
  z233:=Tryz.sizeOf209,
  v233:=Tryz.zeroValue209,
  g17:=by kernel_rfl,
  g18:=by kernel_rfl,
  g19:=by kernel_rfl,
  i0:=by kernel_rfl,
  i2:=by kernel_rfl,
  i3:=by kernel_rfl,
  i4:=by kernel_rfl,
  i5:=by kernel_rfl,
  i9:=by kernel_rfl,
  i20:=by kernel_rfl,
  i37:=by kernel_rfl,
  i46:=by kernel_rfl,
  i51:=by kernel_rfl,
  i53:=by kernel_rfl,
  i171:=by kernel_rfl,
  i173:=by kernel_rfl,
  i212:=by kernel_rfl,
  i232:=by kernel_rfl,
  i233:=by kernel_rfl,
  m17:=by kernel_rfl,
  m18:=by kernel_rfl,
  m19:=by kernel_rfl }
theorem ZO {w:World} {k:Nat} {os:Array Obj}:C9 [] w (Sort.grow (w.drewN k) os):=by
  refine ⟨rfl,⟨rfl,Nat.le_add_right _ _⟩,rfl,?_,?_⟩
  . show w.heap.size<=(w.heap++os).size;simp
  . intro c hc _;show (w.heap++os)[c]?=_;rw [Array.getElem?_append,if_pos hc]
def TQ:Go.Shelf.Ren:=⟨λ|138=>125|143=>126|146=>89|195=>145|197=>146|217=>136|218=>147|219=>113|221=>108|224=>138|225=>137|260=>157|266=>153|267=>139|268=>124|314=>154|n=>n,λ|0=>0|3=>3|4=>4|5=>5|9=>9|21=>21|31=>22|46=>119|51=>117|105=>196|119=>211|138=>213|139=>214|146=>201|n=>n,λ|1=>1|3=>6|4=>7|n=>n⟩
theorem Yr:Go.Proofs.Lays.n146 Tryz.prog TQ:={
  mixed:=by kernel_rfl,
  f138:=Tryz.func125.trans (congrArg some (by kernel_rfl)),
  f143:=Tryz.func126.trans (congrArg some (by kernel_rfl)),
  f146:=Tryz.func89.trans (congrArg some (by kernel_rfl)),
  f195:=Tryz.func145.trans (congrArg some (by kernel_rfl)),
  f197:=Tryz.func146.trans (congrArg some (by kernel_rfl)),
  f217:=Tryz.func136.trans (congrArg some (by kernel_rfl)),
  f218:=Tryz.func147.trans (congrArg some (by kernel_rfl)),
  f219:=Tryz.func113.trans (congrArg some (by kernel_rfl)),
  f221:=Tryz.func108.trans (congrArg some (by kernel_rfl)),
  f224:=Tryz.func138.trans (congrArg some (by kernel_rfl)),
  f225:=Tryz.func137.trans (congrArg some (by kernel_rfl)),
  f260:=Tryz.func157.trans (congrArg some (by kernel_rfl)),
  f266:=Tryz.func153.trans (congrArg some (by kernel_rfl)),
  f267:=Tryz.func139.trans (congrArg some (by kernel_rfl)),
  f268:=Tryz.func124.trans (congrArg some (by kernel_rfl)),
  f314:=Tryz.func154.trans (congrArg some (by kernel_rfl)),
  t0:=Tryz.underlying0,
  a0:=Tryz.isAgg0,
  z0:=Tryz.sizeOf0,
  v0:=Tryz.zeroValue0,
  t3:=Tryz.underlying3,
  a3:=Tryz.isAgg3,
  z3:=Tryz.sizeOf3,
  v3:=Tryz.zeroValue3,
  t4:=Tryz.underlying4,
  a4:=Tryz.isAgg4,
  z4:=Tryz.sizeOf4,
  v4:=Tryz.zeroValue4,
  t5:=Tryz.underlying5,
  a5:=Tryz.isAgg5,
  z5:=Tryz.sizeOf5,
  v5:=Tryz.zeroValue5,
  t9:=Tryz.underlying9,
  a9:=Tryz.isAgg9,
  z9:=Tryz.sizeOf9,
  v9:=Tryz.zeroValue9,
  t21:=Tryz.underlying21,
  a21:=Tryz.isAgg21,
  z21:=Tryz.sizeOf21,
  v21:=Tryz.zeroValue21,
  t31:=Tryz.underlying22,
  a31:=Tryz.isAgg22,
  z31:=Tryz.sizeOf22,
  v31:=Tryz.zeroValue22,
  t46:=Tryz.underlying119,
  a46:=Tryz.isAgg119,
  z46:=Tryz.sizeOf119,
  v46:=Tryz.zeroValue119,
  t51:=Tryz.underlying117,
  a51:=Tryz.isAgg117,
  z51:=Tryz.sizeOf117,
  v51:=Tryz.zeroValue117,
  t105:=Tryz.underlying196,
  a105:=Tryz.isAgg196,
  z105:=Tryz.sizeOf196,
  v105:=Tryz.zeroValue196,
  t119:=Tryz.underlying211,
  a119:=Tryz.isAgg211,
  z119:=Tryz.sizeOf211,
  t138:=Tryz.underlying213,
  a138:=Tryz.isAgg213,
  z138:=Tryz.sizeOf213,
  v138:=Tryz.zeroValue213,
  t139:=Tryz.underlying214,
  a139:=Tryz.isAgg214,
  z139:=Tryz.sizeOf214,
  v139:=Tryz.zeroValue214,
  t146:=Tryz.underlying201,
  a146:=Tryz.isAgg201,
  z146:=Tryz.sizeOf201,
  v146:=Tryz.zeroValue201,
  g1:=by kernel_rfl,
  g3:=by kernel_rfl,
  g4:=by kernel_rfl }
def No:p9:={ ps:=[.v .str,.v .str],rs:=[.d0 true .str],pre:=λ x=>List.length (α:=UInt8) x.1<=4294967280/\1<=List.length (α:=UInt8) x.2.1,fn:=λ x=>(Lib.split x.1 x.2.1,()),out:=λ _=>() }
theorem bsz (s:yY):(⟨s.toArray⟩:ByteArray).size=s.length:=by simp [ByteArray.size]
theorem Qj {H:Array Go.Obj} {S:Nat->Prop}:∀ (l:List ByteArray),(∀ x∈l,x.size<=maxLen)->j6 (i6 H S .str) 1 [] (l.map Value.string) (l.map λ x=>(x.data.toList:yY))
  | [],_=>⟨rfl,rfl⟩
  | x::l,h=>by
    refine ⟨[],[],rfl,⟨rfl,?_,?_⟩,Qj l (λ y hy=>h y (by simp [hy]))⟩
    . show [Value.string x]=[Value.string ⟨x.data.toList.toArray⟩];rw [Array.toArray_toList]
    . show x.data.toList.length<=maxLen;rw [Array.length_toList]; exact h x (by simp)
theorem SJ (sep:ByteArray):∀ (k:Nat) (s:ByteArray),∀ x∈Lib.splitB sep 0 k s,x.size<=s.size
  | 0,s,x,hx=>by rw [Lib.splitB_zero,List.mem_singleton] at hx; rw [hx]; exact Nat.le_refl _
  | k+1,s,x,hx=>by
    unfold Lib.splitB at hx;split at hx
    . rw [List.mem_singleton] at hx; rw [hx]; exact Nat.le_refl _
    . rcases List.mem_cons.1 hx with rfl|hx
      . rw [ByteArray.size_extract]; omega
      . have:=SJ sep k _ x hx;rw [ByteArray.size_extract] at this; omega
theorem b55:No.Valid Tryz.prog 89:=by
  refine ⟨⟨_,Tryz.func89,by kernel_rfl,by kernel_rfl⟩,?_,λ h=>by cases h⟩;rintro w S vs ⟨(s:yY),(p:yY),⟨⟩⟩ L hS dJ ⟨(h1:s.length<=4294967280),(h2:1<=p.length)⟩ ⟨v1,us,L1,L2,rfl,rfl,⟨rfl,cs,rfl,r1⟩,v2,us2,L3,L4,rfl,rfl,⟨rfl,cs2,rfl,r2⟩,rfl,rfl⟩ - aF hL;obtain ⟨-,rfl,hs⟩:=r1;obtain ⟨-,rfl,hp⟩:=r2;obtain ⟨-,cs,g2,m,g3⟩:=dJ ("internal/bytealg.MaxLen",_) (List.mem_cons_of_mem _ (List.mem_cons_self ..)) 1 (by kernel_rfl)
  have hm:w.cell? ⟨1,0,none⟩=some (.int .i64 m):=by
    have:=World.var?_cell (show Tryz.prog.globalNamed "internal/bytealg.MaxLen"=some 1 by kernel_rfl) g2 0
    rw [this,g3]
  refine (Any.strings_Split Yr (by kernel_rfl) ⟨s.toArray⟩ ⟨p.toArray⟩ m w (by rw [bsz]; omega) hm (by rw [bsz]; exact h2)).mono ?_;rintro e w' ⟨rfl,rfl⟩;have hlen:=Lib.splitB_all (⟨p.toArray⟩:ByteArray) (by rw [bsz]; exact h2) 0 _ ⟨s.toArray⟩ rfl;have hl:(Lib.splitB ⟨p.toArray⟩ 0 (Lib.countB ⟨s.toArray⟩ ⟨p.toArray⟩) ⟨s.toArray⟩).map (λ x=>(x.data.toList:yY))=Lib.split s p:=by
    rw [Lib.splitB_data]; rfl
  have cr:=Lib.countB_le (⟨p.toArray⟩:ByteArray) (by rw [bsz]; exact h2) (ByteArray.size ⟨s.toArray⟩) ⟨s.toArray⟩ (Nat.le_refl _);rw [bsz] at cr;generalize hB:Lib.splitB ⟨p.toArray⟩ 0 (Lib.countB ⟨s.toArray⟩ ⟨p.toArray⟩) ⟨s.toArray⟩=B at *
  generalize hC:Lib.countB ⟨s.toArray⟩ ⟨p.toArray⟩=C at *
  have ui:∀ x∈B,x.size<=maxLen:=λ x hx=>by
    have:=SJ _ _ _ x (by rw [hB]; exact hx);have h9:x.size<=s.length:=Nat.le_trans this (Nat.le_of_eq (bsz s));have h8:maxLen=9223372036854775807:=by decide
    omega
  have rM:(Lib.split s p).length=C+1:=by rw [<- hl,List.length_map,hlen]
  obtain ⟨O',k1,k2,k3⟩:=Ja (w:=w) (S:=S) (t:=.str) (l:=Lib.split s p) (O:=[]) (cells:=B.map Value.string) hS (by
    rw [List.take_of_length_le (by rw [List.length_map,hlen,rM]; show C+1<=(C+1)*1; omega),<- hl];exact Qj B ui) (cap:=C+1) (by omega) (by unfold maxLen; omega) (by rw [List.length_map,hlen]; show (C+1)*1<=C+1; omega) (TQ.t 9) (by simp)
  rw [rM] at k1;refine ⟨[.slice (some ⟨w.heap.size,0,none⟩) (C+1) (C+1)],O',[],S,rfl,C9.push _,λ _ h=>h,λ b h=>.inl h,⟨_,[],O',[],[.slice (some ⟨w.heap.size,0,none⟩) (C+1) (C+1)],rfl,by simp,rfl,k1,rfl,rfl⟩,⟨_,_,rfl,⟨_,[],rfl,rfl,rfl⟩⟩,by simpa using k3 List.nodup_nil,?_⟩;intro b hb;rw [List.append_nil] at hb;rcases k2 b hb with rfl|h
  . exact ⟨λ h=>by have:=hS _ h; omega,.inl (Nat.le_refl _),by show w.heap.size<(w.heap.push _).size; rw [Array.size_push]; omega⟩
  . cases h
end Go.Proofs.YtijlnmgondibnaaGreatDoor
namespace Go.Proofs.YtijlnmgondibnaaGreatDoor
set_option maxRecDepth 100000
def xe:yY:=[48,49,50,51,52,53,54,55,56,57]
def xm (s:yY):yY:=Lib.trimPrefix s [45]
def ye (s:yY):Bool:=decide (1<=(xm s).length) && decide ((xm s).length<=9) && (xm s).all (xe.contains ·)
def J9 (s:yY):Int×Bool:=if ye s then ((Lib.atoi s).getD 0,true) else (0,false)
theorem dropWhile_nil {p:UInt8->Bool}:∀ {l:yY},l.dropWhile p=[]↔l.all p=true
  | []=>by simp
  | b::l=>by
    rw [List.dropWhile_cons,List.all_cons];cases h:p b with
    | true=>simpa [h] using dropWhile_nil (p:=p) (l:=l)
    | false=>simp
theorem Ov {p:UInt8->Bool} (l:yY):l.reverse.all p=l.all p:=by simp
theorem Ui {p:UInt8->Bool}:∀ {l:yY},(l.dropWhile p).all p=l.all p
  | []=>rfl
  | b::l=>by
    rw [List.dropWhile_cons];cases h:p b with
    | true=>rw [if_pos rfl,Ui (l:=l),List.all_cons,h,Bool.true_and]
    | false=>rw [if_neg (by simp)]
theorem Rv {l cs:yY}:Lib.trimS l cs=[]↔l.all (cs.contains ·)=true:=by
  unfold Lib.trimS Lib.trimLeftS Lib.trimRightS;rw [dropWhile_nil,Ov,Ui,Ov]
theorem YO {b:UInt8} (h:xe.contains b=true):∃ d,Lib.digitVal b=some d/\d<=9:=by
  simp only [xe,List.contains_iff_mem,List.mem_cons,List.mem_nil_iff,or_false] at h;rcases h with rfl|rfl|rfl|rfl|rfl|rfl|rfl|rfl|rfl|rfl<;>exact ⟨_,rfl,by decide⟩
theorem Ub:∀ {l:yY} {acc:Nat},l.all (xe.contains ·)=true->∃ n,Lib.decFrom acc l=some n/\n<(acc+1)*10^l.length
  | [],acc,_=>⟨acc,rfl,by simp⟩
  | b::l,acc,h=>by
    rw [List.all_cons,Bool.and_eq_true] at h;obtain ⟨d,hd,h9⟩:=YO h.1;obtain ⟨n,e,hn⟩:=Ub (acc:=acc*10+d) h.2;refine ⟨n,by simp only [Lib.decFrom,hd]; exact e,Nat.lt_of_lt_of_le hn ?_⟩;rw [List.length_cons,Nat.pow_succ,Nat.mul_comm (10^l.length) 10,<- Nat.mul_assoc];exact Nat.mul_le_mul_right _ (by omega)
theorem Rb {s:yY} (h:ye s=true):s.length<=10/\∃ n:Int,Lib.atoi s=some n/\-999999999<=n/\n<=999999999:=by
  simp only [ye,Bool.and_eq_true,decide_eq_true_eq] at h;obtain ⟨⟨h1,h2⟩,h3⟩:=h;have core:∀ {t:yY},1<=t.length->t.length<=9->t.all (xe.contains ·)=true->∃ n,Lib.decNat t=some n/\n<=999999999:=by
    intro t t1 t2 t3;obtain ⟨n,e,hn⟩:=Ub (acc:=0) t3;refine ⟨n,?_,?_⟩
    . unfold Lib.decNat;rw [if_neg (by cases t<;>simp at t1 ⊢)];exact e
    . have:10^t.length<=10^9:=Nat.pow_le_pow_right (by decide) t2;have e9:10^9=1000000000:=by decide
      omega
  cases s with
  | nil=>simp [xm,Lib.trimPrefix,Lib.hasPrefix] at h1
  | cons b r =>
    by_cases hb:b=45
    . subst hb;have ht:xm (45::r)=r:=by simp [xm,Lib.trimPrefix,Lib.hasPrefix]
      rw [ht] at h1 h2 h3;obtain ⟨n,e,hn⟩:=core h1 h2 h3;refine ⟨by simp only [List.length_cons]; omega,-(n:Int),?_,by omega,by omega⟩;simp [Lib.atoi,e]
    . have ht:xm (b::r)=b::r:=by
        unfold xm Lib.trimPrefix;rw [if_neg];simp [Lib.hasPrefix,Ne.symm hb]
      rw [ht] at h1 h2 h3;obtain ⟨n,e,hn⟩:=core h1 h2 h3;have um:b≠43:=by
        rintro rfl;rw [List.all_cons,Bool.and_eq_true] at h3;exact absurd h3.1 (by decide)
      refine ⟨by omega,(n:Int),?_,by omega,by omega⟩;simp [Lib.atoi,hb,um,e]
end Go.Proofs.YtijlnmgondibnaaGreatDoor
set_option linter.unusedVariables false
namespace Go.Proofs.YtijlnmgondibnaaGreatDoor
open Go.Ex Go.RowKit Go.Shelf
set_option maxRecDepth 100000
def c3I:Go.Shelf.Ren:=⟨λ|101=>109|206=>148|208=>127|n=>n,λ|3=>3|4=>4|9=>9|n=>n,λ|n=>n⟩
theorem Vd:Go.Proofs.Lays.n101 Tryz.prog c3I:={
  mixed:=by kernel_rfl,
  f101:=Tryz.func109.trans (congrArg some (by kernel_rfl)),
  f206:=Tryz.func148.trans (congrArg some (by kernel_rfl)),
  f208:=Tryz.func127.trans (congrArg some (by kernel_rfl)),
  t3:=Tryz.underlying3,
  a3:=Tryz.isAgg3,
  z3:=Tryz.sizeOf3,
  v3:=Tryz.zeroValue3,
  t4:=Tryz.underlying4,
  a4:=Tryz.isAgg4,
  z4:=Tryz.sizeOf4,
  v4:=Tryz.zeroValue4,
  t9:=Tryz.underlying9,
  a9:=Tryz.isAgg9,
  z9:=Tryz.sizeOf9,
  v9:=Tryz.zeroValue9 }
def TB:Go.Shelf.Ren:=⟨λ|119=>161|120=>159|137=>160|151=>150|152=>158|160=>110|197=>146|217=>136|224=>138|225=>137|227=>130|228=>149|231=>128|232=>129|233=>131|234=>132|235=>133|236=>134|260=>157|266=>153|271=>151|n=>n,λ|0=>0|3=>3|4=>4|5=>5|9=>9|21=>21|46=>119|105=>196|116=>182|117=>183|119=>211|124=>186|138=>213|139=>214|n=>n,λ|3=>6|4=>7|n=>n⟩
theorem Xs:Go.Proofs.Lays.n160 Tryz.prog TB:={
  mixed:=by kernel_rfl,
  f119:=Tryz.func161.trans (congrArg some (by kernel_rfl)),
  f120:=Tryz.func159.trans (congrArg some (by kernel_rfl)),
  f137:=Tryz.func160.trans (congrArg some (by kernel_rfl)),
  f151:=Tryz.func150.trans (congrArg some (by kernel_rfl)),
  f152:=Tryz.func158.trans (congrArg some (by kernel_rfl)),
  f160:=Tryz.func110.trans (congrArg some (by kernel_rfl)),
  f197:=Tryz.func146.trans (congrArg some (by kernel_rfl)),
  f217:=Tryz.func136.trans (congrArg some (by kernel_rfl)),
  f224:=Tryz.func138.trans (congrArg some (by kernel_rfl)),
  f225:=Tryz.func137.trans (congrArg some (by kernel_rfl)),
  f227:=Tryz.func130.trans (congrArg some (by kernel_rfl)),
  f228:=Tryz.func149.trans (congrArg some (by kernel_rfl)),
  f231:=Tryz.func128.trans (congrArg some (by kernel_rfl)),
  f232:=Tryz.func129.trans (congrArg some (by kernel_rfl)),
  f233:=Tryz.func131.trans (congrArg some (by kernel_rfl)),
  f234:=Tryz.func132.trans (congrArg some (by kernel_rfl)),
  f235:=Tryz.func133.trans (congrArg some (by kernel_rfl)),
  f236:=Tryz.func134.trans (congrArg some (by kernel_rfl)),
  f260:=Tryz.func157.trans (congrArg some (by kernel_rfl)),
  f266:=Tryz.func153.trans (congrArg some (by kernel_rfl)),
  f271:=Tryz.func151.trans (congrArg some (by kernel_rfl)),
  t0:=Tryz.underlying0,
  a0:=Tryz.isAgg0,
  z0:=Tryz.sizeOf0,
  v0:=Tryz.zeroValue0,
  t3:=Tryz.underlying3,
  a3:=Tryz.isAgg3,
  z3:=Tryz.sizeOf3,
  v3:=Tryz.zeroValue3,
  t4:=Tryz.underlying4,
  a4:=Tryz.isAgg4,
  z4:=Tryz.sizeOf4,
  v4:=Tryz.zeroValue4,
  t5:=Tryz.underlying5,
  a5:=Tryz.isAgg5,
  z5:=Tryz.sizeOf5,
  v5:=Tryz.zeroValue5,
  t9:=Tryz.underlying9,
  a9:=Tryz.isAgg9,
  z9:=Tryz.sizeOf9,
  v9:=Tryz.zeroValue9,
  t21:=Tryz.underlying21,
  a21:=Tryz.isAgg21,
  z21:=Tryz.sizeOf21,
  v21:=Tryz.zeroValue21,
  t46:=Tryz.underlying119,
  a46:=Tryz.isAgg119,
  z46:=Tryz.sizeOf119,
  v46:=Tryz.zeroValue119,
  t105:=Tryz.underlying196,
  a105:=Tryz.isAgg196,
  z105:=Tryz.sizeOf196,
  v105:=Tryz.zeroValue196,
  t116:=Tryz.underlying182,
  a116:=Tryz.isAgg182,
  z116:=Tryz.sizeOf182,
  t117:=Tryz.underlying183,
  a117:=Tryz.isAgg183,
  z117:=Tryz.sizeOf183,
  v117:=Tryz.zeroValue183,
  t119:=Tryz.underlying211,
  a119:=Tryz.isAgg211,
  z119:=Tryz.sizeOf211,
  t124:=Tryz.underlying186,
  a124:=Tryz.isAgg186,
  z124:=Tryz.sizeOf186,
  v124:=Tryz.zeroValue186,
  t138:=Tryz.underlying213,
  a138:=Tryz.isAgg213,
  z138:=Tryz.sizeOf213,
  v138:=Tryz.zeroValue213,
  t139:=Tryz.underlying214,
  a139:=Tryz.isAgg214,
  z139:=Tryz.sizeOf214,
  v139:=Tryz.zeroValue214,
  g3:=by kernel_rfl,
  g4:=by kernel_rfl }
def b71:Go.Shelf.Ren:=⟨λ|129=>120|171=>50|172=>85|205=>142|243=>68|244=>102|245=>103|246=>87|247=>114|279=>115|280=>116|281=>117|282=>118|283=>104|284=>105|285=>106|286=>107|287=>140|316=>141|317=>119|318=>121|319=>122|320=>123|321=>155|322=>156|337=>143|338=>144|n=>n,λ|0=>0|2=>2|3=>3|4=>4|5=>5|9=>9|20=>20|21=>21|37=>115|46=>119|51=>117|53=>159|75=>140|76=>141|80=>216|85=>170|127=>204|143=>205|145=>207|167=>169|168=>172|171=>158|173=>162|175=>188|210=>192|212=>176|213=>177|232=>208|233=>209|n=>n,λ|15=>2|16=>3|17=>0|18=>4|19=>5|n=>n⟩
theorem NJ:Go.Proofs.Lays.n172 Tryz.prog b71:={
  mixed:=by kernel_rfl,
  f129:=Tryz.func120.trans (congrArg some (by kernel_rfl)),
  f171:=Tryz.func50.trans (congrArg some (by kernel_rfl)),
  f172:=Tryz.func85.trans (congrArg some (by kernel_rfl)),
  f205:=Tryz.func142.trans (congrArg some (by kernel_rfl)),
  f243:=Tryz.func68.trans (congrArg some (by kernel_rfl)),
  f244:=Tryz.func102.trans (congrArg some (by kernel_rfl)),
  f245:=Tryz.func103.trans (congrArg some (by kernel_rfl)),
  f246:=Tryz.func87.trans (congrArg some (by kernel_rfl)),
  f247:=Tryz.func114.trans (congrArg some (by kernel_rfl)),
  f279:=Tryz.func115.trans (congrArg some (by kernel_rfl)),
  f280:=Tryz.func116.trans (congrArg some (by kernel_rfl)),
  f281:=Tryz.func117.trans (congrArg some (by kernel_rfl)),
  f282:=Tryz.func118.trans (congrArg some (by kernel_rfl)),
  f283:=Tryz.func104.trans (congrArg some (by kernel_rfl)),
  f284:=Tryz.func105.trans (congrArg some (by kernel_rfl)),
  f285:=Tryz.func106.trans (congrArg some (by kernel_rfl)),
  f286:=Tryz.func107.trans (congrArg some (by kernel_rfl)),
  f287:=Tryz.func140.trans (congrArg some (by kernel_rfl)),
  f316:=Tryz.func141.trans (congrArg some (by kernel_rfl)),
  f317:=Tryz.func119.trans (congrArg some (by kernel_rfl)),
  f318:=Tryz.func121.trans (congrArg some (by kernel_rfl)),
  f319:=Tryz.func122.trans (congrArg some (by kernel_rfl)),
  f320:=Tryz.func123.trans (congrArg some (by kernel_rfl)),
  f321:=Tryz.func155.trans (congrArg some (by kernel_rfl)),
  f322:=Tryz.func156.trans (congrArg some (by kernel_rfl)),
  f337:=Tryz.func143.trans (congrArg some (by kernel_rfl)),
  f338:=Tryz.func144.trans (congrArg some (by kernel_rfl)),
  t0:=Tryz.underlying0,
  a0:=Tryz.isAgg0,
  z0:=Tryz.sizeOf0,
  v0:=Tryz.zeroValue0,
  t2:=Tryz.underlying2,
  a2:=Tryz.isAgg2,
  z2:=Tryz.sizeOf2,
  v2:=Tryz.zeroValue2,
  t3:=Tryz.underlying3,
  a3:=Tryz.isAgg3,
  z3:=Tryz.sizeOf3,
  v3:=Tryz.zeroValue3,
  t4:=Tryz.underlying4,
  a4:=Tryz.isAgg4,
  z4:=Tryz.sizeOf4,
  v4:=Tryz.zeroValue4,
  t5:=Tryz.underlying5,
  a5:=Tryz.isAgg5,
  z5:=Tryz.sizeOf5,
  v5:=Tryz.zeroValue5,
  t9:=Tryz.underlying9,
  a9:=Tryz.isAgg9,
  z9:=Tryz.sizeOf9,
  v9:=Tryz.zeroValue9,
  t20:=Tryz.underlying20,
  a20:=Tryz.isAgg20,
  z20:=Tryz.sizeOf20,
  v20:=Tryz.zeroValue20,
  t21:=Tryz.underlying21,
  a21:=Tryz.isAgg21,
  z21:=Tryz.sizeOf21,
  v21:=Tryz.zeroValue21,
  t37:=Tryz.underlying115,
  a37:=Tryz.isAgg115,
  z37:=Tryz.sizeOf115,
  v37:=Tryz.zeroValue115,
  t46:=Tryz.underlying119,
  a46:=Tryz.isAgg119,
  z46:=Tryz.sizeOf119,
  v46:=Tryz.zeroValue119,
  t51:=Tryz.underlying117,
  a51:=Tryz.isAgg117,
  z51:=Tryz.sizeOf117,
  v51:=Tryz.zeroValue117,
  t53:=Tryz.underlying159,
  a53:=Tryz.isAgg159,
  z53:=Tryz.sizeOf159,
  v53:=Tryz.zeroValue159,
  t75:=Tryz.underlying140,
  a75:=Tryz.isAgg140,
  z75:=Tryz.sizeOf140,
  v75:=Tryz.zeroValue140,
  t76:=Tryz.underlying141,
  a76:=Tryz.isAgg141,
  z76:=Tryz.sizeOf141,
  v76:=Tryz.zeroValue141,
  t85:=Tryz.underlying170,
  a85:=Tryz.isAgg170,
  z85:=Tryz.sizeOf170,
  v85:=Tryz.zeroValue170,
  t127:=Tryz.underlying204,
  a127:=Tryz.isAgg204,
  z127:=Tryz.sizeOf204,
  v127:=Tryz.zeroValue204,
  t143:=Tryz.underlying205,
  a143:=Tryz.isAgg205,
  z143:=Tryz.sizeOf205,
  v143:=Tryz.zeroValue205,
  t145:=Tryz.underlying207,
  a145:=Tryz.isAgg207,
  z145:=Tryz.sizeOf207,
  v145:=Tryz.zeroValue207,
  t167:=Tryz.underlying169,
  a167:=Tryz.isAgg169,
  z167:=Tryz.sizeOf169,
  v167:=Tryz.zeroValue169,
  t168:=Tryz.underlying172,
  a168:=Tryz.isAgg172,
  z168:=Tryz.sizeOf172,
  v168:=Tryz.zeroValue172,
  t171:=Tryz.underlying158,
  a171:=Tryz.isAgg158,
  z171:=Tryz.sizeOf158,
  v171:=Tryz.zeroValue158,
  t173:=Tryz.underlying162,
  a173:=Tryz.isAgg162,
  z173:=Tryz.sizeOf162,
  v173:=Tryz.zeroValue162,
  t175:=Tryz.underlying188,
  a175:=Tryz.isAgg188,
  z175:=Tryz.sizeOf188,
  v175:=Tryz.zeroValue188,
  t210:=Tryz.underlying192,
  a210:=Tryz.isAgg192,
  z210:=Tryz.sizeOf192,
  v210:=Tryz.zeroValue192,
  t212:=Tryz.underlying176,
  a212:=Tryz.isAgg176,
  z212:=Tryz.sizeOf176,
  v212:=Tryz.zeroValue176,
  t213:=Tryz.underlying177,
  a213:=Tryz.isAgg177,
  z213:=Tryz.sizeOf177,
  t232:=Tryz.underlying208,
  a232:=Tryz.isAgg208,
  z232:=Tryz.sizeOf208,
  v232:=Tryz.zeroValue208,
  t233:=Tryz.underlying209,
  a233:=Tryz.isAgg209,
  z233:=Tryz.sizeOf209,
  v233:=Tryz.zeroValue209,
  g15:=by kernel_rfl,
  g16:=by kernel_rfl,
  g17:=by kernel_rfl,
  g18:=by kernel_rfl,
  g19:=by kernel_rfl }
theorem Qz (n a b:Int) (r:Bool) (hr:(decide (a<=n) && decide (n<=b))=r) (w:World):Calls Tryz.prog 92 #[.int .i64 n,.int .i64 a,.int .i64 b] w λ e w'=>e=.returned (.bool r)/\w'=w:=by
  go_enter Tryz.func92,Tryz.ntmps92
  by_cases h1:a<=n<;>by_cases h2:n<=b
  all_goals
    go_wp2
    go_ret
    rw [<- hr];simp [h1,h2]
theorem SO (d:yY) (cs:ByteArray) (hcs:cs.data.toList=xe) (h1:1<=d.length) (h2:d.length<=9) (w:World):Calls Tryz.prog 110 #[.string ⟨d.toArray⟩,.string cs] w λ e w'=>e=.returned (.string ⟨(Lib.trimS d xe).toArray⟩)/\C9 [] w w':=by
  have cr:cs.size=10:=by
    have:cs.size=cs.data.toList.length:=by rw [Array.length_toList]; rfl
    rw [this,hcs]; rfl
  have nL:(Tryz.prog.info? (TB.t 116)).map (λ i=>(i.zero,i.size))=some (some (.agg (Array.replicate 256 (.bool false))),256):=by kernel_rfl
  refine (Any.strings_Trim_set Xs (zero_of_info nL).1 (zero_of_info nL).2 ⟨d.toArray⟩ cs w (by omega) (by simp [ByteArray.size]; omega) (by simp [ByteArray.size]; omega) (by omega) (ascii_of_all (by rw [hcs]; decide))).mono ?_;rintro e w' ⟨rfl,q,rfl⟩;rw [hcs];have key:∀ (o1 o2:Obj) (q:Nat),C9 [] w (((w.alloc o1).alloc o2).drewN q):=λ o1 o2 q=>by
    have hA:C9 [] w (w.alloc o1):=C9.push o1;have hB:C9 [] (w.alloc o1) ((w.alloc o1).alloc o2):=C9.push o2;have hD:C9 [] ((w.alloc o1).alloc o2) (((w.alloc o1).alloc o2).drewN q):=⟨rfl,⟨rfl,Nat.le_add_right _ _⟩,rfl,Nat.le_refl _,λ _ _ _=>rfl⟩;exact (hA.trans hB (λ b h=>absurd h (by simp))).trans hD (λ b h=>absurd h (by simp))
  exact ⟨rfl,key _ _ _⟩
theorem c2b (s:ByteArray) (n:Int) (h1:s.size<=18) (h:Lib.atoi s.data.toList=some n) (w:World):Calls Tryz.prog 85 #[.string s] w λ e w'=>e=.returned (.tuple #[.int .i64 n,.nilIface])/\C9 [] w w':=by
  refine (Any.strconv_Atoi NJ s n h1 h w).mono ?_;rintro e w' ⟨rfl,t,rfl⟩;exact ⟨rfl,rfl,⟨rfl,Nat.le_succ _⟩,rfl,by rw [Lib.bytesWorld_size]; omega,λ j hj _=>Lib.bytesWorld_at_old w _ t j hj⟩
set_option maxHeartbeats 1000000 in
theorem b5C (s:ByteArray) (hs:s.size<=4294967280) (w:World):Calls Tryz.prog 91 #[.string s] w λ e w'=>e=.returned (.tuple #[.int .i64 (J9 s.data.toList).1,.bool (J9 s.data.toList).2])/\C9 [] w w':=by
  obtain ⟨d,hd⟩:∃ d,xm s.data.toList=d:=⟨_,rfl⟩;have ij:d.length<=s.size:=by
    rw [<- hd];unfold xm Lib.trimPrefix;have:s.size=s.data.toList.length:=by rw [Array.length_toList]; rfl
    split
    . rw [List.length_drop]; omega
    . omega
  go_enter Tryz.func91,Tryz.ntmps91
  go_wp2_with (go_at_call 109; refine (Any.strings_TrimPrefix Vd s ⟨#[45]⟩ _).mono ?_; rintro e w' ⟨rfl,rfl⟩)
  rw [show Lib.trimPrefix s.data.toList [45]=d from hd];by_cases hl:1<=d.length/\d.length<=9
  . refine (Qz _ _ _ true (by rw [Bool.and_eq_true,decide_eq_true_eq,decide_eq_true_eq]; omega) _).mono ?_;rintro e w' ⟨rfl,rfl⟩;cases hg:ye s.data.toList with
    | true =>
      obtain ⟨g1,n,g2,g3,g4⟩:=Rb hg;have g0:s.size<=18:=by
        have:s.size=s.data.toList.length:=by rw [Array.length_toList]; rfl
        omega
      have ht:Lib.trimS d xe=[]:=by
        rw [Rv,<- hd];simp only [ye,Bool.and_eq_true] at hg;exact hg.2
      have hn:J9 s.data.toList=(n,true):=by unfold J9; rw [hg,if_pos rfl,g2]; rfl
      go_wp2_with (first
        | (go_at_call 110; refine (SO d _ ?hcs hl.1 hl.2 _).mono ?hpost; (case hcs=>rfl); rintro e w2 ⟨rfl,hp⟩; rw [ht])
        | (go_at_call 85; refine (c2b s n g0 g2 _).mono ?_; rintro e w3 ⟨rfl,fy⟩))
      go_region
      all_goals go_wp2
      go_ret2
      refine ⟨by rw [hn]; rfl,(hp.trans fy (λ b h=>by cases h)).trans C9.drew (λ b h=>by cases h)⟩
    | false =>
      have hn:J9 s.data.toList=(0,false):=by unfold J9; rw [hg]; rfl
      have ht:∃ x l,Lib.trimS d xe=x::l:=by
        cases h:Lib.trimS d xe with
        | cons x l=>exact ⟨x,l,rfl⟩
        | nil =>
          exfalso;rw [Rv] at h;have:ye s.data.toList=true:=by
            simp only [ye,hd,Bool.and_eq_true,decide_eq_true_eq];exact ⟨hl,h⟩
          rw [this] at hg; cases hg
      obtain ⟨x,l,ht⟩:=ht
      go_wp2_with (go_at_call 110; fail)
      refine (SO d _ ?_ hl.1 hl.2 _).mono ?_
      . rfl
      rintro e w2 ⟨rfl,hp⟩;rw [ht]
      go_wp2
      go_ret2
      exact ⟨by rw [hn]; rfl,hp⟩
  . have hn:J9 s.data.toList=(0,false):=by
      unfold J9 ye;rw [if_neg];simp only [Bool.and_eq_true,decide_eq_true_eq,hd];exact λ h=>hl h.1
    refine (Qz _ _ _ false (by rw [Bool.and_eq_false_iff,decide_eq_false_iff_not,decide_eq_false_iff_not]; omega) _).mono ?_;rintro e w' ⟨rfl,rfl⟩
    go_wp2
    go_ret2
    exact ⟨by rw [hn]; rfl,rfl,.refl _,rfl,Nat.le_refl _,λ _ _ _=>rfl⟩
def Ny:p9:={ ps:=[.v .str],rs:=[e8,.bool],pre:=λ x=>List.length (α:=UInt8) x.1<=4294967280,fn:=λ x=>((J9 x.1).1,(J9 x.1).2,()),out:=λ _=>() }
theorem Wy (s:yY):r9 .i64 (J9 s).1:=by
  unfold J9
  split
  . rename_i h;obtain ⟨-,n,e,h1,h2⟩:=Rb h;rw [e];exact ⟨by show -9223372036854775808<=n; omega,by show n<=9223372036854775807; omega⟩
  . exact ⟨by decide,by decide⟩
theorem b4D:Ny.Valid Tryz.prog 91:=by
  refine ⟨⟨_,Tryz.func91,by kernel_rfl,by kernel_rfl⟩,?_,λ h=>by cases h⟩;rintro w S vs ⟨(s:yY),⟨⟩⟩ L hS dJ (hlen:s.length<=4294967280) ⟨v1,us,L1,L2,rfl,rfl,⟨rfl,cs,rfl,r1⟩,rfl,rfl⟩ - aF hL;obtain ⟨-,rfl,hs⟩:=r1;refine (b5C ⟨s.toArray⟩ (by simpa [ByteArray.size] using hlen) w).mono ?_;rintro e w' ⟨rfl,hp⟩;refine ⟨[.int .i64 (J9 s).1,.bool (J9 s).2],[],[],S,rfl,hp,λ _ h=>h,λ b h=>.inl h,⟨_,_,[],[],[.int .i64 (J9 s).1],rfl,rfl,rfl,⟨rfl,rfl,Wy s⟩,_,_,[],[],[.bool (J9 s).2],rfl,rfl,rfl,⟨rfl,rfl⟩,rfl,rfl⟩,⟨_,[],rfl,rfl,rfl⟩,by simp,by simp⟩
end Go.Proofs.YtijlnmgondibnaaGreatDoor
set_option linter.unusedVariables false
namespace Go.Proofs.YtijlnmgondibnaaGreatDoor
open Go.Ex
set_option maxRecDepth 100000
def c0W:Go.Shelf.Ren:=⟨λ|145=>84|217=>136|219=>113|220=>101|224=>138|225=>137|266=>153|267=>139|314=>154|n=>n,λ|3=>3|4=>4|5=>5|9=>9|46=>119|51=>117|59=>137|146=>201|n=>n,λ|1=>1|n=>n⟩
theorem Wc:Go.Proofs.Lays.n145 Tryz.prog c0W:={
  mixed:=by kernel_rfl,
  f145:=Tryz.func84.trans (congrArg some (by kernel_rfl)),
  f217:=Tryz.func136.trans (congrArg some (by kernel_rfl)),
  f219:=Tryz.func113.trans (congrArg some (by kernel_rfl)),
  f220:=Tryz.func101.trans (congrArg some (by kernel_rfl)),
  f224:=Tryz.func138.trans (congrArg some (by kernel_rfl)),
  f225:=Tryz.func137.trans (congrArg some (by kernel_rfl)),
  f266:=Tryz.func153.trans (congrArg some (by kernel_rfl)),
  f267:=Tryz.func139.trans (congrArg some (by kernel_rfl)),
  f314:=Tryz.func154.trans (congrArg some (by kernel_rfl)),
  t3:=Tryz.underlying3,
  a3:=Tryz.isAgg3,
  z3:=Tryz.sizeOf3,
  v3:=Tryz.zeroValue3,
  t4:=Tryz.underlying4,
  a4:=Tryz.isAgg4,
  z4:=Tryz.sizeOf4,
  v4:=Tryz.zeroValue4,
  t5:=Tryz.underlying5,
  a5:=Tryz.isAgg5,
  z5:=Tryz.sizeOf5,
  v5:=Tryz.zeroValue5,
  t9:=Tryz.underlying9,
  a9:=Tryz.isAgg9,
  z9:=Tryz.sizeOf9,
  v9:=Tryz.zeroValue9,
  t46:=Tryz.underlying119,
  a46:=Tryz.isAgg119,
  z46:=Tryz.sizeOf119,
  v46:=Tryz.zeroValue119,
  t51:=Tryz.underlying117,
  a51:=Tryz.isAgg117,
  z51:=Tryz.sizeOf117,
  v51:=Tryz.zeroValue117,
  t59:=Tryz.underlying137,
  a59:=Tryz.isAgg137,
  z59:=Tryz.sizeOf137,
  v59:=Tryz.zeroValue137,
  t146:=Tryz.underlying201,
  a146:=Tryz.isAgg201,
  z146:=Tryz.sizeOf201,
  v146:=Tryz.zeroValue201,
  g1:=by kernel_rfl }
def HQ:p9:={ ps:=[.v e8],rs:=[.str],pre:=λ _=>True,fn:=λ x=>(D3 x.1,()),out:=λ _=>() }
theorem TX:HQ.Valid Tryz.prog 50:=by
  refine ⟨⟨_,Tryz.func50,by kernel_rfl,by kernel_rfl⟩,?_,λ h=>by cases h⟩;rintro w S vs ⟨(n:Int),⟨⟩⟩ L hS dJ - ⟨v1,us,L1,L2,rfl,rfl,⟨rfl,cs,rfl,r1⟩,rfl,rfl⟩ - aF hL;obtain ⟨-,rfl,(hn:r9 .i64 n)⟩:=r1;obtain ⟨h0,h1⟩:=G5.1 hn;obtain ⟨-,cs,h2,h3⟩:=dJ _ (List.mem_cons_self ..) 0 (by kernel_rfl);refine (Any.strconv_Itoa Xr n h0 h1 w (h2.trans (congrArg some h3))).mono ?_;rintro e w' ⟨rfl,k,os,rfl⟩;refine ⟨[.string ⟨(Lib.itoa n).toArray⟩],[],[],S,rfl,ZO,λ _ h=>h,λ b h=>.inl h,⟨_,[],[],[],[.string ⟨(Lib.itoa n).toArray⟩],rfl,rfl,rfl,⟨rfl,?_,?_⟩,rfl,rfl⟩,⟨_,[],rfl,rfl,rfl⟩,by simp,by simp⟩
  . rw [Wx h0 h1]; rfl
  . have:=CG h0 h1;show (D3 n).length<=maxLen;exact Nat.le_trans this (by decide)
def GW:p9:={ ps:=[.v .str],rs:=[e8,.fn 4000000],pre:=λ x=>List.length (α:=UInt8) x.1<=18/\(Lib.atoi x.1).isSome=true,fn:=λ x=>((Lib.atoi x.1).getD 0,false,()),out:=λ _=>() }
theorem decFrom_lt:∀ {l:yY} {a n:Nat},Lib.decFrom a l=some n->n<(a+1)*10^l.length
  | [],a,n,h=>by
    simp only [Lib.decFrom,Option.some.injEq] at h;subst h;simp
  | b::l,a,n,h=>by
    rw [Lib.decFrom] at h;cases e:Lib.digitVal b with
    | none=>rw [e] at h; cases h
    | some d =>
      rw [e] at h;have h1:=decFrom_lt h;have hd:d<=9:=by
        unfold Lib.digitVal at e;split at e
        . simp only [Option.some.injEq] at e; omega
        . cases e
      refine Nat.lt_of_lt_of_le h1 ?_;rw [List.length_cons,Nat.pow_succ,Nat.mul_comm (10^l.length) 10,<- Nat.mul_assoc];exact Nat.mul_le_mul_right _ (by omega)
theorem Kt {l:yY} {n:Nat} (h:Lib.decNat l=some n) (hl:l.length<=18):n<1000000000000000000:=by
  unfold Lib.decNat at h;split at h
  . cases h
  . have h1:=decFrom_lt h;have h2:10^l.length<=10^18:=Nat.pow_le_pow_right (by decide) hl;have h3:(10:Nat)^18=1000000000000000000:=by decide
    omega
theorem WY {l:yY} {n:Int} (h:Lib.atoi l=some n) (hl:l.length<=18):-1000000000000000000<n/\n<1000000000000000000:=by
  cases l with
  | nil=>cases h
  | cons b r =>
    rw [Lib.atoi] at h;simp only [List.length_cons] at hl;split at h
    . cases e:Lib.decNat r with
      | none=>rw [e] at h; cases h
      | some m=>rw [e] at h; simp only [Option.map_some,Option.some.injEq] at h; have:=Kt e (by omega); omega
    . split at h
      . cases e:Lib.decNat r with
        | none=>rw [e] at h; cases h
        | some m=>rw [e] at h; simp only [Option.map_some,Option.some.injEq] at h; have:=Kt e (by omega); omega
      . cases e:Lib.decNat (b::r) with
        | none=>rw [e] at h; cases h
        | some m=>rw [e] at h; simp only [Option.map_some,Option.some.injEq] at h; have:=Kt e (by simp only [List.length_cons]; omega); omega
theorem b8x:GW.Valid Tryz.prog 85:=by
  refine ⟨⟨_,Tryz.func85,by kernel_rfl,by kernel_rfl⟩,?_,λ h=>by cases h⟩;rintro w S vs ⟨(s:yY),⟨⟩⟩ L hS dJ ⟨(h1:s.length<=18),(h2:(Lib.atoi s).isSome=true)⟩ ⟨v1,us,L1,L2,rfl,rfl,⟨rfl,cs,rfl,r1⟩,rfl,rfl⟩ - aF hL;obtain ⟨-,rfl,hs⟩:=r1;obtain ⟨n,hn⟩:=Option.isSome_iff_exists.1 h2;refine (Any.strconv_Atoi NJ ⟨s.toArray⟩ n (by rw [bsz]; exact h1) hn w).mono ?_;rintro e w' ⟨rfl,t,rfl⟩;have hf:GW.fn (s,())=(n,false,()):=by
    show ((Lib.atoi s).getD 0,false,())=(n,false,());rw [hn]; rfl
  rw [hf];have hr:=WY hn h1;refine ⟨[.int .i64 n,.nilIface],[],[],S,rfl,⟨rfl,⟨rfl,Nat.le_succ _⟩,rfl,by rw [Lib.bytesWorld_size]; omega,λ j hj _=>Lib.bytesWorld_at_old w _ t j hj⟩,λ _ h=>h,λ b h=>.inl h,⟨_,_,[],[],[.int .i64 n],rfl,rfl,rfl,⟨rfl,rfl,?_⟩,_,_,[],[],[.nilIface],rfl,rfl,rfl,⟨rfl,rfl⟩,rfl,rfl⟩,⟨_,[],rfl,rfl,rfl⟩,by simp,by simp⟩;exact ⟨by show -9223372036854775808<=n; omega,by show n<=9223372036854775807; omega⟩
def Me:p9:={ ps:=[.v .str,.v .str],rs:=[.str,.str,.bool],pre:=λ x=>List.length (α:=UInt8) x.1<=1000000/\Eq (α:=yY) x.2.1 [58],fn:=λ x=>((y6 x.1).1,(y6 x.1).2.1,(y6 x.1).2.2,()),out:=λ _=>() }
theorem c1K:Me.Valid Tryz.prog 84:=by
  refine ⟨⟨_,Tryz.func84,by kernel_rfl,by kernel_rfl⟩,?_,λ h=>by cases h⟩;rintro w S vs ⟨(s:yY),(p:yY),⟨⟩⟩ L hS dJ ⟨(h1:s.length<=1000000),(h2:p=[58])⟩ ⟨v1,us,L1,L2,rfl,rfl,⟨rfl,cs,rfl,r1⟩,v2,us2,L3,L4,rfl,rfl,⟨rfl,cs2,rfl,r2⟩,rfl,rfl⟩ - aF hL;obtain ⟨-,rfl,hs⟩:=r1;obtain ⟨-,rfl,hp⟩:=r2;obtain ⟨-,cs,g2,m,g3⟩:=dJ ("internal/bytealg.MaxLen",_) (List.mem_cons_of_mem _ (List.mem_cons_self ..)) 1 (by kernel_rfl)
  have hm:w.cell? ⟨1,0,none⟩=some (.int .i64 m):=by
    have:=World.var?_cell (show Tryz.prog.globalNamed "internal/bytealg.MaxLen"=some 1 by kernel_rfl) g2 0
    rw [this,g3]
  refine (Any.strings_Cut Wc ⟨s.toArray⟩ ⟨p.toArray⟩ m w (by rw [bsz]; omega) hm).mono ?_;rintro e w' ⟨rfl,k,rfl⟩;have hc:Lib.cut (ByteArray.mk s.toArray).data.toList (ByteArray.mk p.toArray).data.toList=y6 s:=by
    show Lib.cut s p=y6 s;rw [h2,Nz]
  rw [hc];have hl:=BY s;have hD:C9 [] w (w.drewN k):=⟨rfl,⟨rfl,Nat.le_add_right _ _⟩,rfl,Nat.le_refl _,λ _ _ _=>rfl⟩;have jq:maxLen=9223372036854775807:=by decide
  refine ⟨[.string ⟨(y6 s).1.toArray⟩,.string ⟨(y6 s).2.1.toArray⟩,.bool (y6 s).2.2],[],[],S,rfl,hD,λ _ h=>h,λ b h=>.inl h,⟨_,_,[],[],[_],rfl,rfl,rfl,⟨rfl,rfl,?_⟩,_,_,[],[],[_],rfl,rfl,rfl,⟨rfl,rfl,?_⟩,_,_,[],[],[_],rfl,rfl,rfl,⟨rfl,rfl⟩,rfl,rfl⟩,⟨_,_,rfl,⟨_,[],rfl,rfl,rfl⟩⟩,by simp,by simp⟩
  . show (y6 s).1.length<=maxLen; omega
  . show (y6 s).2.1.length<=maxLen; omega
end Go.Proofs.YtijlnmgondibnaaGreatDoor
namespace Go.Proofs.YtijlnmgondibnaaGreatDoor
open Go.Ex
set_option maxRecDepth 100000
attribute [local irreducible] Go.Ex.exec
theorem Kq {x:yY} {w:f9}:∀ p,(G9 x w p).2.1=w.2.1/\(G9 x w p).1=w.1/\(G9 x w p).2.2.1=w.2.2.1
  | 0=>⟨rfl,rfl,rfl⟩
  | p+1=>by
    obtain ⟨h1,h2,h3⟩:=Kq (x:=x) (w:=w) p;rw [G9]
    split
    . obtain ⟨g1,g2,g3⟩:=EO (w:=G9 x w p) (k:=2) (f:=M1 (G9 x w p)) (t:=p) (s:=((G9 x w p).2.2.1.length:Int) - 1) (x:=x);exact ⟨g1.trans h1,g2.trans h2,g3.trans h3⟩
    . exact ⟨h1,h2,h3⟩
theorem Zh {x:yY} {w:f9} {p:Nat} (h:s7 (G9 x w p) p=true):G9 x w (p+1)=M3 (G9 x w p) 2 (M1 (G9 x w p)) p (((G9 x w p).2.2.1.length:Int) - 1) x:=by
  rw [G9]; exact if_pos h
theorem Zg {x:yY} {w:f9} {p:Nat} (h:s7 (G9 x w p) p=false):G9 x w (p+1)=G9 x w p:=by
  rw [G9]; exact if_neg (by rw [h]; decide)
theorem Ko {f first:Int} {l:List yY} {w:f9}:∀ i,(J0 f first l w i).2.1=w.2.1/\(J0 f first l w i).1=w.1/\(J0 f first l w i).2.2.1.length=w.2.2.1.length+i
  | 0=>⟨rfl,rfl,rfl⟩
  | i+1=>by
    obtain ⟨h1,h2,h3⟩:=Ko (f:=f) (first:=first) (l:=l) (w:=w) i;rw [J0];obtain ⟨g1,g2,g3⟩:=Kq (x:=I9 f (first+i) (l.getD i [])) (w:=zR (J0 f first l w i) (I9 f (first+i) (l.getD i []))) (J0 f first l w i).2.1.length;refine ⟨g1.trans h1,g2.trans h2,?_⟩;rw [g3];show ((J0 f first l w i).2.2.1++[_]).length=_;rw [List.length_append,h3]; rfl
def Ii:p9:={ ps:=[.rw w5,.v zG],rs:=[],pre:=λ x=>List.length (α:=o8) (x.1:f9).2.1<=6/\(¬ known x.1 x.2.1.2.1≠0)/\List.length (α:=yY) (x.1:f9).2.2.1<=1000000000000,fn:=λ _=>(),out:=λ x=>(X8 x.1 x.2.1,()) }
noncomputable def zg:Env:={ P:=Tryz.prog,tt:=tt,C7:=[(83,GR),(50,HQ),(47,yK),(43,zZ),(44,zA)],res:=[],rs:=[],ps:=[PK.rw w5,PK.v (Ty.pair e8 (Ty.pair e8 (Ty.pair e8 (Ty.pair e8 (Ty.pair e8 (Ty.pair Y4 (Ty.pair Ty.str Ty.unit)))))))],B9:=[(7,[(0,none),(3,none),(8,none),(45,some (Ty.d0 true Ty.str)),(46,none),(47,none)]),(12,[(0,none),(3,none),(8,none),(11,none),(45,some (Ty.d0 true Ty.str)),(46,none),(47,none),(78,none),(79,none)])],nt:=99 }
theorem EW:w7 zg:=x8 r7 ⟨TJ,TX,Cy,Fu,Fc,trivial⟩
theorem EX:C0 zg Tryz.f66:=⟨rfl,rfl⟩
theorem Zv (ai:Int) (af:Int) (ab:List o8) (ae:List yY) (aa:List yY) (br:Int) (aB:Int) (aA:Int) (aX:Int) (aE:Int) (aT:List Int) (aw:yY):exec zg 1000 [.code (d8 Tryz.prog 66)] (s8 Ii.ps ((((ai,af,()),ab,ae,aa,()),(br,aB,aA,aX,aE,aT,aw,()),()))) =
  .f7 ((0:Int)<=aB/\aB<(↑(List.length ab):Int)) (.f7 (True) (cond (decide (Prod.fst (Prod.snd (Prod.snd (D8 (Prod.fst (Prod.snd (Prod.snd (Prod.snd (Prod.snd (List.getD ab (Int.toNat aB) (false,[],((0:Int),[],()),((0:Int),[],()),((0:Int),[],()),()))))))) (aE,aw,()))))≠(0:Int))) (.ret ((((ai,af,()),ab,ae,aa,()),()))) (.ctL (g9 (d8 Tryz.prog 66) 7) (St.mk [(0,AV.ptr 2000000 []),(3,AV.ptr 3 []),(8,AV.val e8 (Prod.fst (Prod.fst (Prod.snd (Prod.snd (Prod.snd (Prod.snd (List.getD ab (Int.toNat aB) (false,[],((0:Int),[],()),((0:Int),[],()),((0:Int),[],()),()))))))))),(45,AV.at_ 1000045 []),(46,AV.val e8 (↑(List.length (Prod.fst (Prod.snd (D8 (Prod.fst (Prod.snd (Prod.snd (Prod.snd (Prod.snd (List.getD ab (Int.toNat aB) (false,[],((0:Int),[],()),((0:Int),[],()),((0:Int),[],()),()))))))) (aE,aw,()))))):Int)),(47,AV.val e8 (0:Int))] [(3,i7.var (Ty.pair e8 (Ty.pair e8 (Ty.pair e8 (Ty.pair e8 (Ty.pair e8 (Ty.pair Y4 (Ty.pair Ty.str Ty.unit))))))) (br,aB,aA,aX,aE,aT,aw,())),(1000045,i7.own (Ty.d0 true Ty.str) (Prod.fst (Prod.snd (D8 (Prod.fst (Prod.snd (Prod.snd (Prod.snd (Prod.snd (List.getD ab (Int.toNat aB) (false,[],((0:Int),[],()),((0:Int),[],()),((0:Int),[],()),()))))))) (aE,aw,()))))),(2000000,i7.var w5 ((ai,af,()),List.set ab (Int.toNat aB) (Prod.fst (List.getD ab (Int.toNat aB) (false,[],((0:Int),[],()),((0:Int),[],()),((0:Int),[],()),())),Prod.fst (Prod.snd (List.getD ab (Int.toNat aB) (false,[],((0:Int),[],()),((0:Int),[],()),((0:Int),[],()),()))),Prod.fst (Prod.snd (Prod.snd (List.getD ab (Int.toNat aB) (false,[],((0:Int),[],()),((0:Int),[],()),((0:Int),[],()),())))),Prod.fst (Prod.snd (Prod.snd (Prod.snd (List.getD ab (Int.toNat aB) (false,[],((0:Int),[],()),((0:Int),[],()),((0:Int),[],()),()))))),Prod.fst (D8 (Prod.fst (Prod.snd (Prod.snd (Prod.snd (Prod.snd (List.getD ab (Int.toNat aB) (false,[],((0:Int),[],()),((0:Int),[],()),((0:Int),[],()),()))))))) (aE,aw,())),Prod.snd (Prod.snd (Prod.snd (Prod.snd (Prod.snd (List.getD ab (Int.toNat aB) (false,[],((0:Int),[],()),((0:Int),[],()),((0:Int),[],()),()))))))),ae,aa,()))])))):=by kernel_rfl
def KK (v8:Int) (v46:Int) (vd:Int) (cB:Int) (aW:Int) (aQ:Int) (aH:Int) (az:Int) (au:List Int) (ao:yY) (ch:List yY) (ar:Int) (an:Int) (aj:List o8) (ak:List yY) (ah:List yY):St:=St.mk [(0,AV.ptr 2000000 []),(3,AV.ptr 3 []),(8,AV.val e8 v8),(45,AV.at_ 1000045 []),(46,AV.val e8 v46),(47,AV.val e8 vd)] [(3,i7.var (Ty.pair e8 (Ty.pair e8 (Ty.pair e8 (Ty.pair e8 (Ty.pair e8 (Ty.pair Y4 (Ty.pair Ty.str Ty.unit))))))) (cB,aW,aQ,aH,az,au,ao,())),(1000045,i7.own (Ty.d0 true Ty.str) ch),(2000000,i7.var w5 ((ar,an,()),aj,ak,ah,()))]
theorem c2E (v8:Int) (v46:Int) (vd:Int) (cB:Int) (aW:Int) (aQ:Int) (aH:Int) (az:Int) (au:List Int) (ao:yY) (ch:List yY) (ar:Int) (an:Int) (aj:List o8) (ak:List yY) (ah:List yY):exec zg 1000 (.code (g9 (d8 Tryz.prog 66) 7).1::.inLoop (g9 (d8 Tryz.prog 66) 7).1::(g9 (d8 Tryz.prog 66) 7).2) (KK v8 v46 vd cB aW aQ aH az au ao ch ar an aj ak ah) =
  cond (decide (vd<v46)) (.f7 ((0:Int)<=vd/\vd<(↑(List.length ch):Int)) (.f7 (True) (.f7 (List.length (D3 aW)+List.length (Array.toList (ByteArray.data (ByteArray.mk #[58])))<=Go.maxLen) (.f7 (r9 IntKind.i64 (v8+vd)) (.f7 (True) (.f7 (List.length (D3 aW++Array.toList (ByteArray.data (ByteArray.mk #[58])))+List.length (D3 (v8+vd))<=Go.maxLen) (.f7 (List.length (D3 aW++Array.toList (ByteArray.data (ByteArray.mk #[58]))++D3 (v8+vd))+List.length (Array.toList (ByteArray.data (ByteArray.mk #[58])))<=Go.maxLen) (.f7 (List.length (D3 aW++Array.toList (ByteArray.data (ByteArray.mk #[58]))++D3 (v8+vd)++Array.toList (ByteArray.data (ByteArray.mk #[58])))+List.length (List.getD ch (Int.toNat vd) [])<=Go.maxLen) (.f7 (True/\True/\[]++[Step.l8 2]=[]++[Step.l8 2]/\List.length ak+List.length (List.set [[]] (Int.toNat (↑0:Int)) (D3 aW++Array.toList (ByteArray.data (ByteArray.mk #[58]))++D3 (v8+vd)++Array.toList (ByteArray.data (ByteArray.mk #[58]))++List.getD ch (Int.toNat vd) []))<=140737488355328/\(List.length ak+List.length (List.set [[]] (Int.toNat (↑0:Int)) (D3 aW++Array.toList (ByteArray.data (ByteArray.mk #[58]))++D3 (v8+vd)++Array.toList (ByteArray.data (ByteArray.mk #[58]))++List.getD ch (Int.toNat vd) [])))*Ty.wb Ty.str<=140737488355328) (.ctL (g9 (d8 Tryz.prog 66) 12) (St.mk [(0,AV.ptr 2000000 []),(3,AV.ptr 3 []),(8,AV.val e8 v8),(11,AV.val Ty.str (D3 aW++Array.toList (ByteArray.data (ByteArray.mk #[58]))++D3 (v8+vd)++Array.toList (ByteArray.data (ByteArray.mk #[58]))++List.getD ch (Int.toNat vd) [])),(45,AV.at_ 1000045 []),(46,AV.val e8 v46),(47,AV.val e8 vd),(78,AV.val e8 (↑(List.length aj):Int)),(79,AV.val e8 (0:Int))] [(3,i7.var (Ty.pair e8 (Ty.pair e8 (Ty.pair e8 (Ty.pair e8 (Ty.pair e8 (Ty.pair Y4 (Ty.pair Ty.str Ty.unit))))))) (cB,aW,aQ,aH,az,au,ao,())),(1000045,i7.own (Ty.d0 true Ty.str) ch),(2000000,i7.var w5 ((ar,an,()),aj,ak++List.set [[]] (Int.toNat (↑0:Int)) (D3 aW++Array.toList (ByteArray.data (ByteArray.mk #[58]))++D3 (v8+vd)++Array.toList (ByteArray.data (ByteArray.mk #[58]))++List.getD ch (Int.toNat vd) []),ah,()))]))))))))))) (.ret ((((ar,an,()),aj,ak,ah,()),()))):=by kernel_rfl
def KZ (v8:Int) (v11:yY) (v46:Int) (vd:Int) (zy:Int) (xa:Int) (cB:Int) (aW:Int) (aQ:Int) (aH:Int) (az:Int) (au:List Int) (ao:yY) (ch:List yY) (ar:Int) (an:Int) (aj:List o8) (ak:List yY) (ah:List yY):St:=St.mk [(0,AV.ptr 2000000 []),(3,AV.ptr 3 []),(8,AV.val e8 v8),(11,AV.val Ty.str v11),(45,AV.at_ 1000045 []),(46,AV.val e8 v46),(47,AV.val e8 vd),(78,AV.val e8 zy),(79,AV.val e8 xa)] [(3,i7.var (Ty.pair e8 (Ty.pair e8 (Ty.pair e8 (Ty.pair e8 (Ty.pair e8 (Ty.pair Y4 (Ty.pair Ty.str Ty.unit))))))) (cB,aW,aQ,aH,az,au,ao,())),(1000045,i7.own (Ty.d0 true Ty.str) ch),(2000000,i7.var w5 ((ar,an,()),aj,ak,ah,()))]
theorem b8I (v8:Int) (v11:yY) (v46:Int) (vd:Int) (zy:Int) (xa:Int) (cB:Int) (aW:Int) (aQ:Int) (aH:Int) (az:Int) (au:List Int) (ao:yY) (ch:List yY) (ar:Int) (an:Int) (aj:List o8) (ak:List yY) (ah:List yY):exec zg 1000 (.code (g9 (d8 Tryz.prog 66) 12).1::.inLoop (g9 (d8 Tryz.prog 66) 12).1::(g9 (d8 Tryz.prog 66) 12).2) (KZ v8 v11 v46 vd zy xa cB aW aQ aH az au ao ch ar an aj ak ah) =
  cond (decide (xa<zy)) (.f7 (List.length aj<=6) (cond (s7 ((ar,an,()),aj,ak,ah,()) xa) (.f7 (True) (.f7 (r9 IntKind.i64 ((↑(List.length ak):Int) - (1:Int))) (.f7 (True) (.f7 (r9 IntKind.i64 (xa+(1:Int))) (.ctL (g9 (d8 Tryz.prog 66) 12) (St.mk [(0,AV.ptr 2000000 []),(3,AV.ptr 3 []),(8,AV.val e8 v8),(11,AV.val Ty.str v11),(45,AV.at_ 1000045 []),(46,AV.val e8 v46),(47,AV.val e8 vd),(78,AV.val e8 zy),(79,AV.val e8 (xa+(1:Int)))] [(3,i7.var (Ty.pair e8 (Ty.pair e8 (Ty.pair e8 (Ty.pair e8 (Ty.pair e8 (Ty.pair Y4 (Ty.pair Ty.str Ty.unit))))))) (cB,aW,aQ,aH,az,au,ao,())),(1000045,i7.own (Ty.d0 true Ty.str) ch),(2000000,i7.var w5 (M3 ((ar,an,()),aj,ak,ah,()) (2:Int) (M1 ((ar,an,()),aj,ak,ah,())) xa ((↑(List.length ak):Int) - (1:Int)) v11))])))))) (.f7 (r9 IntKind.i64 (xa+(1:Int))) (.ctL (g9 (d8 Tryz.prog 66) 12) (St.mk [(0,AV.ptr 2000000 []),(3,AV.ptr 3 []),(8,AV.val e8 v8),(11,AV.val Ty.str v11),(45,AV.at_ 1000045 []),(46,AV.val e8 v46),(47,AV.val e8 vd),(78,AV.val e8 zy),(79,AV.val e8 (xa+(1:Int)))] [(3,i7.var (Ty.pair e8 (Ty.pair e8 (Ty.pair e8 (Ty.pair e8 (Ty.pair e8 (Ty.pair Y4 (Ty.pair Ty.str Ty.unit))))))) (cB,aW,aQ,aH,az,au,ao,())),(1000045,i7.own (Ty.d0 true Ty.str) ch),(2000000,i7.var w5 ((ar,an,()),aj,ak,ah,()))]))))) (.f7 (r9 IntKind.i64 (vd+(1:Int))) (.ctL (g9 (d8 Tryz.prog 66) 7) (St.mk [(0,AV.ptr 2000000 []),(3,AV.ptr 3 []),(8,AV.val e8 v8),(45,AV.at_ 1000045 []),(46,AV.val e8 v46),(47,AV.val e8 (vd+(1:Int)))] [(3,i7.var (Ty.pair e8 (Ty.pair e8 (Ty.pair e8 (Ty.pair e8 (Ty.pair e8 (Ty.pair Y4 (Ty.pair Ty.str Ty.unit))))))) (cB,aW,aQ,aH,az,au,ao,())),(1000045,i7.own (Ty.d0 true Ty.str) ch),(2000000,i7.var w5 ((ar,an,()),aj,ak,ah,()))]))):=by kernel_rfl
attribute [local irreducible] X8 M3 D8 D3 J0 G9 in
theorem b56:Ii.Valid Tryz.prog 66:=by
  refine p9.n9 EW rfl rfl Tryz.func66 (c:=d8 Tryz.prog 66) rfl rfl EX rfl ?_;rintro ⟨⟨⟨(v0:Int),(v1:Int),⟨⟩⟩,(al:List o8),(od:List yY),(wy:List yY),⟨⟩⟩,⟨(nk:Int),(nf:Int),(nt:Int),(nv:Int),(ns:Int),(na:List Int),(nx:yY),⟨⟩⟩,⟨⟩⟩ ⟨(hp:al.length<=6),(hk:¬ known ((v0,v1,()),al,od,wy,()) nf≠0),(ho:od.length<=1000000000000)⟩ ⟨-,⟨⟨-,(nW:r9 .i64 nf),-⟩,-⟩⟩;refine j7 (n:=1000) EW EX ?_;refine i8 (Zv v0 v1 al od wy nk nf nt nv ns na nx) ?_;simp only [j8,Tree.holds,sL];have key:∀ r:f9,X8 ((v0,v1,()),al,od,wy,()) (nk,nf,nt,nv,ns,na,nx,())=r->(((r,()):f9×Unit)=(X8 ((v0,v1,()),al,od,wy,()) (nk,nf,nt,nv,ns,na,nx,()),())):=by rintro r rfl; rfl
  have e1:=λ a=>(X8.eq_1 ((v0,v1,()),al,od,wy,()) (nk,nf,nt,nv,ns,na,nx,())).trans (if_pos a);have e2:=λ a=>(X8.eq_1 ((v0,v1,()),al,od,wy,()) (nk,nf,nt,nv,ns,na,nx,())).trans (if_neg a);refine ⟨Cb hk,λ _=>⟨λ a=>key _ (e1 a),λ a=>?_⟩⟩;have e3:=e2 a;have bD:=zo (Decidable.not_not.1 a);obtain ⟨w,hw⟩:∃ w:f9,w=yz ((v0,v1,()),al,od,wy,()) nf (yp (N9 ((v0,v1,()),al,od,wy,()) nf) (Z1 ((v0,v1,()),al,od,wy,()) (nk,nf,nt,nv,ns,na,nx,())).1):=⟨_,rfl⟩;obtain ⟨first,hf⟩:∃ first,first=(N9 ((v0,v1,()),al,od,wy,()) nf).2.2.2.2.1.1:=⟨_,rfl⟩
  obtain ⟨l,hl⟩:∃ l,l=(Z1 ((v0,v1,()),al,od,wy,()) (nk,nf,nt,nv,ns,na,nx,())).2.1:=⟨_,rfl⟩;have rT:w.2.1.length=al.length:=by rw [hw]; exact List.length_set ..
  have qS:w.2.2.1=od:=by rw [hw]; rfl
  have h0:0<=first/\first<=16777215:=by rw [hf]; exact bD.2.2.2.1
  have jW:l.length<=16:=by rw [hl]; exact bD.2.2.1
  have bc:∀ t∈l,E4 t=false:=by rw [hl]; exact λ t ht=>(bD.1 t ht).2
  suffices go:Go.Ex.Reach zg Tryz.f66 () (J0 nf first l w l.length,()) (.code (g9 (d8 Tryz.prog 66) 7).1::.inLoop (g9 (d8 Tryz.prog 66) 7).1::(g9 (d8 Tryz.prog 66) 7).2) (KK first (l.length:Int) ((0:Nat):Int) nk nf nt nv ns na nx l (J0 nf first l w 0).1.1 (J0 nf first l w 0).1.2.1 (J0 nf first l w 0).2.1 (J0 nf first l w 0).2.2.1 (J0 nf first l w 0).2.2.2.1) by
    subst hw; subst hf; subst hl;rw [e3];rw [J0] at go;exact go
  refine Reach.M8 EW EX (λ i:Nat=>KK first (l.length:Int) (i:Int) nk nf nt nv ns na nx l (J0 nf first l w i).1.1 (J0 nf first l w i).1.2.1 (J0 nf first l w i).2.1 (J0 nf first l w i).2.2.1 (J0 nf first l w i).2.2.2.1) (λ i=>i<=l.length)
    (λ i=>l.length - i) 1000 (λ _=>⟨u6 rfl,u6 rfl⟩) ?_ 0 (Nat.zero_le _)
  rintro i k1 - ih;have k1:i<=l.length:=k1;refine i8 (c2E ..) ?_;have e4:((i:Nat):Int)+1=((i+1:Nat):Int):=by omega
  obtain ⟨t1,t2,t3⟩:=Ko (f:=nf) (first:=first) (l:=l) (w:=w) i;rw [qS] at t3;have mE:(D3 nf).length<=20:=CG (G5.1 nW).1 (G5.1 nW).2;have sC:(D3 (first+i)).length<=20:=CG (by omega) (by omega);have dJ:i<l.length->(l.getD i []).length<=200:=λ h=>Ki (bc _ (by rw [List.getD_eq_getElem?_getD,List.getElem?_eq_getElem h]; exact List.getElem_mem _));have jq:maxLen=9223372036854775807:=by decide
  have jf:Ty.wb .str=16:=rfl;simp only [j8,Tree.holds,e4,sL];refine ⟨λ c=>⟨by omega,λ _=>⟨?_,λ _=>⟨?_,λ _=>⟨?_,λ _=>⟨?_,λ _=>⟨?_,λ _=>⟨?_,λ _=>?_⟩⟩⟩⟩⟩⟩⟩,λ c=>?_⟩
  . simp only [List.length_cons,List.length_nil,jq]; omega
  . exact ⟨by omega,by omega⟩
  . simp only [List.length_append,List.length_cons,List.length_nil,jq]; omega
  . simp only [List.length_append,List.length_cons,List.length_nil,jq]; omega
  . have:=dJ (by omega);simp only [List.length_append,List.length_cons,List.length_nil,jq]; omega
  . rw [jf,t3]; omega
  . obtain ⟨x,hx⟩:∃ x,x=I9 nf (first+i) (l.getD i []):=⟨_,rfl⟩;obtain ⟨u,hu⟩:∃ u,u=zR (J0 nf first l w i) x:=⟨_,rfl⟩;have qX:u.2.1=(J0 nf first l w i).2.1:=by rw [hu]; rfl
    suffices go:Go.Ex.Reach zg Tryz.f66 () (J0 nf first l w l.length,()) (.code (g9 (d8 Tryz.prog 66) 12).1::.inLoop (g9 (d8 Tryz.prog 66) 12).1::(g9 (d8 Tryz.prog 66) 12).2) (KZ first x (l.length:Int) (i:Int) (u.2.1.length:Int) ((0:Nat):Int) nk nf nt nv ns na nx l (G9 x u 0).1.1 (G9 x u 0).1.2.1 (G9 x u 0).2.1 (G9 x u 0).2.2.1 (G9 x u 0).2.2.2.1) by
      subst hu; subst hx;rw [G9] at go;exact go
    refine Reach.M8 EW EX (λ p:Nat=>KZ first x (l.length:Int) (i:Int) (u.2.1.length:Int) (p:Int) nk nf nt nv ns na nx l (G9 x u p).1.1 (G9 x u p).1.2.1 (G9 x u p).2.1 (G9 x u p).2.2.1 (G9 x u p).2.2.2.1) (λ p=>p<=u.2.1.length)
      (λ p=>u.2.1.length - p) 1000 (λ _=>⟨u6 rfl,u6 rfl⟩) ?_ 0 (Nat.zero_le _)
    rintro p k2 - ih2;have k2:p<=u.2.1.length:=k2;refine i8 (b8I ..) ?_;have e5:((p:Nat):Int)+1=((p+1:Nat):Int):=by omega
    obtain ⟨c1,c2,c3⟩:=Kq (x:=x) (w:=u) p;have se:u.2.1.length<=6:=by rw [qX,t1,rT]; exact hp
    have rZ:u.2.2.1.length=od.length+i+1:=by rw [hu]; show ((J0 nf first l w i).2.2.1++[x]).length=_; rw [List.length_append,t3]; rfl
    simp only [j8,Tree.holds,e5,sL];refine ⟨λ d=>⟨?_,λ _=>⟨λ e=>⟨?_,λ _=>⟨?_,λ _=>?_⟩⟩,λ e=>⟨?_,λ _=>?_⟩⟩⟩,λ d=>⟨?_,λ _=>?_⟩⟩
    . rw [c1]; exact se
    . rw [c3,rZ]; exact ⟨by omega,by omega⟩
    . exact ⟨by omega,by omega⟩
    . have:=ih2 (p+1) (by show p+1<=u.2.1.length; omega) (by show u.2.1.length - (p+1)<u.2.1.length - p; omega);rw [Zh e] at this;exact this
    . exact ⟨by omega,by omega⟩
    . have:=ih2 (p+1) (by show p+1<=u.2.1.length; omega) (by show u.2.1.length - (p+1)<u.2.1.length - p; omega);rw [Zg e] at this;exact this
    . exact ⟨by omega,by omega⟩
    . obtain rfl:p=u.2.1.length:=by omega
      have:=ih (i+1) (by show i+1<=l.length; omega) (by show l.length - (i+1)<l.length - i; omega);rw [show J0 nf first l w (i+1)=G9 x u u.2.1.length by rw [J0,qX,hu,hx]] at this;exact this
  . obtain rfl:i=l.length:=by omega
    rfl
theorem Kg {q:Int} {x:o8} {t:yY} (h:who t=q) (h2:(R4 x.2.2.1 (nth t+1)).2.1=0):wg q x t=(x.1,x.2.1++[(who t,xh t,())],(R4 x.2.2.1 (nth t+1)).1,x.2.2.2):=by
  rw [wg]; exact if_pos ⟨h,h2⟩
theorem Et {q:Int} {x:o8} {t:yY} (h:¬ (who t=q/\(R4 x.2.2.1 (nth t+1)).2.1=0)):wg q x t=(x.1,x.2.1++[(who t,xh t,())],x.2.2):=by
  rw [wg]; exact if_neg h
theorem Rc (q:Int) (x:o8) (t:yY):(wg q x t).2.1=x.2.1++[(who t,xh t,())]:=by
  rw [wg]; split<;>rfl
theorem Ll {q:Int} {x:o8} {l:List yY}:∀ i,(K0 q x l i).2.1.length=x.2.1.length+i
  | 0=>rfl
  | i+1=>by rw [K0,Rc,List.length_append,Ll i]; rfl
def Ij:p9:={ ps:=[.rw w5,.v zG],rs:=[],pre:=λ x=>(LE.le (α:=Int) 0 x.2.1.2.2.1/\LT.lt (α:=Int) x.2.1.2.2.1 (List.length (α:=o8) (x.1:f9).2.1))/\List.length (α:=D5) (N9 x.1 x.2.1.2.2.1).2.1<=1000000000000/\(∀ t∈(R0 x.1 x.2.1).2.1,okT t),fn:=λ _=>(),out:=λ x=>(vF x.1 x.2.1,()) }
noncomputable def Bv:Env:={ P:=Tryz.prog,tt:=tt,C7:=[(83,GR),(86,MR),(84,Me),(85,GW)],res:=[],rs:=[],ps:=[PK.rw w5,PK.v (Ty.pair e8 (Ty.pair e8 (Ty.pair e8 (Ty.pair e8 (Ty.pair e8 (Ty.pair Y4 (Ty.pair Ty.str Ty.unit)))))))],B9:=[(6,[(3,none),(4,none),(49,some (Ty.d0 true Ty.str)),(50,none),(51,none)])],nt:=110 }
theorem JW:w7 Bv:=x8 r7 ⟨TJ,b6e,c1K,b8x,trivial⟩
theorem Kb:C0 Bv Tryz.f67:=⟨rfl,rfl⟩
theorem XQ (ai:Int) (af:Int) (ab:List o8) (ae:List yY) (aa:List yY) (br:Int) (aB:Int) (aA:Int) (aX:Int) (aE:Int) (aT:List Int) (aw:yY):exec Bv 1000 [.code (d8 Tryz.prog 67)] (s8 Ij.ps ((((ai,af,()),ab,ae,aa,()),(br,aB,aA,aX,aE,aT,aw,()),()))) =
  .f7 ((0:Int)<=aA/\aA<(↑(List.length ab):Int)) (.f7 (True) (cond (decide (Prod.fst (Prod.snd (Prod.snd (D8 (Prod.fst (Prod.snd (Prod.snd (Prod.snd (List.getD ab (Int.toNat aA) (false,[],((0:Int),[],()),((0:Int),[],()),((0:Int),[],()),())))))) (aE,aw,()))))≠(0:Int))) (.ret ((((ai,af,()),ab,ae,aa,()),()))) (.ctL (g9 (d8 Tryz.prog 67) 6) (St.mk [(3,AV.ptr 3 []),(4,AV.ptr 2000000 [Step.l8 1,Step.idx aA]),(49,AV.at_ 1000049 []),(50,AV.val e8 (↑(List.length (Prod.fst (Prod.snd (D8 (Prod.fst (Prod.snd (Prod.snd (Prod.snd (List.getD ab (Int.toNat aA) (false,[],((0:Int),[],()),((0:Int),[],()),((0:Int),[],()),())))))) (aE,aw,()))))):Int)),(51,AV.val e8 (0:Int))] [(3,i7.var (Ty.pair e8 (Ty.pair e8 (Ty.pair e8 (Ty.pair e8 (Ty.pair e8 (Ty.pair Y4 (Ty.pair Ty.str Ty.unit))))))) (br,aB,aA,aX,aE,aT,aw,())),(1000049,i7.own (Ty.d0 true Ty.str) (Prod.fst (Prod.snd (D8 (Prod.fst (Prod.snd (Prod.snd (Prod.snd (List.getD ab (Int.toNat aA) (false,[],((0:Int),[],()),((0:Int),[],()),((0:Int),[],()),())))))) (aE,aw,()))))),(2000000,i7.var w5 ((ai,af,()),List.set ab (Int.toNat aA) (Prod.fst (List.getD ab (Int.toNat aA) (false,[],((0:Int),[],()),((0:Int),[],()),((0:Int),[],()),())),Prod.fst (Prod.snd (List.getD ab (Int.toNat aA) (false,[],((0:Int),[],()),((0:Int),[],()),((0:Int),[],()),()))),Prod.fst (Prod.snd (Prod.snd (List.getD ab (Int.toNat aA) (false,[],((0:Int),[],()),((0:Int),[],()),((0:Int),[],()),())))),Prod.fst (D8 (Prod.fst (Prod.snd (Prod.snd (Prod.snd (List.getD ab (Int.toNat aA) (false,[],((0:Int),[],()),((0:Int),[],()),((0:Int),[],()),())))))) (aE,aw,())),Prod.snd (Prod.snd (Prod.snd (Prod.snd (List.getD ab (Int.toNat aA) (false,[],((0:Int),[],()),((0:Int),[],()),((0:Int),[],()),())))))),ae,aa,()))])))):=by kernel_rfl
def JX (uY:Int) (yG:Int) (v51:Int) (cB:Int) (aW:Int) (aQ:Int) (aH:Int) (az:Int) (au:List Int) (ao:yY) (ba:List yY) (ar:Int) (an:Int) (aj:List o8) (ak:List yY) (ah:List yY):St:=St.mk [(3,AV.ptr 3 []),(4,AV.ptr 2000000 [Step.l8 1,Step.idx uY]),(49,AV.at_ 1000049 []),(50,AV.val e8 yG),(51,AV.val e8 v51)] [(3,i7.var (Ty.pair e8 (Ty.pair e8 (Ty.pair e8 (Ty.pair e8 (Ty.pair e8 (Ty.pair Y4 (Ty.pair Ty.str Ty.unit))))))) (cB,aW,aQ,aH,az,au,ao,())),(1000049,i7.own (Ty.d0 true Ty.str) ba),(2000000,i7.var w5 ((ar,an,()),aj,ak,ah,()))]
theorem Zw (uY:Int) (yG:Int) (v51:Int) (cB:Int) (aW:Int) (aQ:Int) (aH:Int) (az:Int) (au:List Int) (ao:yY) (ba:List yY) (ar:Int) (an:Int) (aj:List o8) (ak:List yY) (ah:List yY):exec Bv 1000 (.code (g9 (d8 Tryz.prog 67) 6).1::.inLoop (g9 (d8 Tryz.prog 67) 6).1::(g9 (d8 Tryz.prog 67) 6).2) (JX uY yG v51 cB aW aQ aH az au ao ba ar an aj ak ah) =
  cond (decide (v51<yG)) (.f7 ((0:Int)<=v51/\v51<(↑(List.length ba):Int)) (.f7 (List.length (List.getD ba (Int.toNat v51) [])<=1000000/\Array.toList (ByteArray.data (ByteArray.mk #[58]))=[(58:UInt8)]) (.f7 (List.length (Prod.fst (Prod.snd (y6 (List.getD ba (Int.toNat v51) []))))<=1000000/\Array.toList (ByteArray.data (ByteArray.mk #[58]))=[(58:UInt8)]) (.f7 (List.length (Prod.fst (y6 (List.getD ba (Int.toNat v51) [])))<=18/\Option.isSome (Go.Lib.atoi (Prod.fst (y6 (List.getD ba (Int.toNat v51) []))))=true) (.f7 (True/\True/\[Step.l8 1,Step.idx uY]++[Step.l8 1]=[Step.l8 1,Step.idx uY]++[Step.l8 1]/\List.length (Prod.fst (Prod.snd (List.getD aj (Int.toNat uY) (false,[],((0:Int),[],()),((0:Int),[],()),((0:Int),[],()),()))))+List.length (List.set [((0:Int),[],())] (Int.toNat (↑0:Int)) (Option.getD (Go.Lib.atoi (Prod.fst (y6 (List.getD ba (Int.toNat v51) [])))) (0:Int),Prod.fst (Prod.snd (y6 (Prod.fst (Prod.snd (y6 (List.getD ba (Int.toNat v51) [])))))),()))<=140737488355328/\(List.length (Prod.fst (Prod.snd (List.getD aj (Int.toNat uY) (false,[],((0:Int),[],()),((0:Int),[],()),((0:Int),[],()),()))))+List.length (List.set [((0:Int),[],())] (Int.toNat (↑0:Int)) (Option.getD (Go.Lib.atoi (Prod.fst (y6 (List.getD ba (Int.toNat v51) [])))) (0:Int),Prod.fst (Prod.snd (y6 (Prod.fst (Prod.snd (y6 (List.getD ba (Int.toNat v51) [])))))),())))*Ty.wb r8<=140737488355328) (cond (decide (Option.getD (Go.Lib.atoi (Prod.fst (y6 (List.getD ba (Int.toNat v51) [])))) (0:Int)=aQ)) (.f7 (List.length (Prod.fst (y6 (Prod.fst (Prod.snd (y6 (List.getD ba (Int.toNat v51) []))))))<=18/\Option.isSome (Go.Lib.atoi (Prod.fst (y6 (Prod.fst (Prod.snd (y6 (List.getD ba (Int.toNat v51) [])))))))=true) (.f7 (r9 IntKind.i64 (Option.getD (Go.Lib.atoi (Prod.fst (y6 (Prod.fst (Prod.snd (y6 (List.getD ba (Int.toNat v51) []))))))) (0:Int)+(1:Int))) (.f7 ((0:Int)<=Option.getD (Go.Lib.atoi (Prod.fst (y6 (Prod.fst (Prod.snd (y6 (List.getD ba (Int.toNat v51) []))))))) (0:Int)+(1:Int)) (cond (decide (Prod.fst (Prod.snd (R4 (Prod.fst (Prod.snd (Prod.snd (List.getD (List.set aj (Int.toNat uY) (Prod.fst (List.getD aj (Int.toNat uY) (false,[],((0:Int),[],()),((0:Int),[],()),((0:Int),[],()),())),Prod.fst (Prod.snd (List.getD aj (Int.toNat uY) (false,[],((0:Int),[],()),((0:Int),[],()),((0:Int),[],()),())))++List.set [((0:Int),[],())] (Int.toNat (↑0:Int)) (Option.getD (Go.Lib.atoi (Prod.fst (y6 (List.getD ba (Int.toNat v51) [])))) (0:Int),Prod.fst (Prod.snd (y6 (Prod.fst (Prod.snd (y6 (List.getD ba (Int.toNat v51) [])))))),()),Prod.snd (Prod.snd (List.getD aj (Int.toNat uY) (false,[],((0:Int),[],()),((0:Int),[],()),((0:Int),[],()),()))))) (Int.toNat uY) (false,[],((0:Int),[],()),((0:Int),[],()),((0:Int),[],()),()))))) (Option.getD (Go.Lib.atoi (Prod.fst (y6 (Prod.fst (Prod.snd (y6 (List.getD ba (Int.toNat v51) []))))))) (0:Int)+(1:Int))))=(0:Int))) (.f7 (r9 IntKind.i64 (v51+(1:Int))) (.ctL (g9 (d8 Tryz.prog 67) 6) (St.mk [(3,AV.ptr 3 []),(4,AV.ptr 2000000 [Step.l8 1,Step.idx uY]),(49,AV.at_ 1000049 []),(50,AV.val e8 yG),(51,AV.val e8 (v51+(1:Int)))] [(3,i7.var (Ty.pair e8 (Ty.pair e8 (Ty.pair e8 (Ty.pair e8 (Ty.pair e8 (Ty.pair Y4 (Ty.pair Ty.str Ty.unit))))))) (cB,aW,aQ,aH,az,au,ao,())),(1000049,i7.own (Ty.d0 true Ty.str) ba),(2000000,i7.var w5 ((ar,an,()),List.set (List.set aj (Int.toNat uY) (Prod.fst (List.getD aj (Int.toNat uY) (false,[],((0:Int),[],()),((0:Int),[],()),((0:Int),[],()),())),Prod.fst (Prod.snd (List.getD aj (Int.toNat uY) (false,[],((0:Int),[],()),((0:Int),[],()),((0:Int),[],()),())))++List.set [((0:Int),[],())] (Int.toNat (↑0:Int)) (Option.getD (Go.Lib.atoi (Prod.fst (y6 (List.getD ba (Int.toNat v51) [])))) (0:Int),Prod.fst (Prod.snd (y6 (Prod.fst (Prod.snd (y6 (List.getD ba (Int.toNat v51) [])))))),()),Prod.snd (Prod.snd (List.getD aj (Int.toNat uY) (false,[],((0:Int),[],()),((0:Int),[],()),((0:Int),[],()),()))))) (Int.toNat uY) (Prod.fst (List.getD (List.set aj (Int.toNat uY) (Prod.fst (List.getD aj (Int.toNat uY) (false,[],((0:Int),[],()),((0:Int),[],()),((0:Int),[],()),())),Prod.fst (Prod.snd (List.getD aj (Int.toNat uY) (false,[],((0:Int),[],()),((0:Int),[],()),((0:Int),[],()),())))++List.set [((0:Int),[],())] (Int.toNat (↑0:Int)) (Option.getD (Go.Lib.atoi (Prod.fst (y6 (List.getD ba (Int.toNat v51) [])))) (0:Int),Prod.fst (Prod.snd (y6 (Prod.fst (Prod.snd (y6 (List.getD ba (Int.toNat v51) [])))))),()),Prod.snd (Prod.snd (List.getD aj (Int.toNat uY) (false,[],((0:Int),[],()),((0:Int),[],()),((0:Int),[],()),()))))) (Int.toNat uY) (false,[],((0:Int),[],()),((0:Int),[],()),((0:Int),[],()),())),Prod.fst (Prod.snd (List.getD (List.set aj (Int.toNat uY) (Prod.fst (List.getD aj (Int.toNat uY) (false,[],((0:Int),[],()),((0:Int),[],()),((0:Int),[],()),())),Prod.fst (Prod.snd (List.getD aj (Int.toNat uY) (false,[],((0:Int),[],()),((0:Int),[],()),((0:Int),[],()),())))++List.set [((0:Int),[],())] (Int.toNat (↑0:Int)) (Option.getD (Go.Lib.atoi (Prod.fst (y6 (List.getD ba (Int.toNat v51) [])))) (0:Int),Prod.fst (Prod.snd (y6 (Prod.fst (Prod.snd (y6 (List.getD ba (Int.toNat v51) [])))))),()),Prod.snd (Prod.snd (List.getD aj (Int.toNat uY) (false,[],((0:Int),[],()),((0:Int),[],()),((0:Int),[],()),()))))) (Int.toNat uY) (false,[],((0:Int),[],()),((0:Int),[],()),((0:Int),[],()),()))),Prod.fst (R4 (Prod.fst (Prod.snd (Prod.snd (List.getD (List.set aj (Int.toNat uY) (Prod.fst (List.getD aj (Int.toNat uY) (false,[],((0:Int),[],()),((0:Int),[],()),((0:Int),[],()),())),Prod.fst (Prod.snd (List.getD aj (Int.toNat uY) (false,[],((0:Int),[],()),((0:Int),[],()),((0:Int),[],()),())))++List.set [((0:Int),[],())] (Int.toNat (↑0:Int)) (Option.getD (Go.Lib.atoi (Prod.fst (y6 (List.getD ba (Int.toNat v51) [])))) (0:Int),Prod.fst (Prod.snd (y6 (Prod.fst (Prod.snd (y6 (List.getD ba (Int.toNat v51) [])))))),()),Prod.snd (Prod.snd (List.getD aj (Int.toNat uY) (false,[],((0:Int),[],()),((0:Int),[],()),((0:Int),[],()),()))))) (Int.toNat uY) (false,[],((0:Int),[],()),((0:Int),[],()),((0:Int),[],()),()))))) (Option.getD (Go.Lib.atoi (Prod.fst (y6 (Prod.fst (Prod.snd (y6 (List.getD ba (Int.toNat v51) []))))))) (0:Int)+(1:Int))),Prod.snd (Prod.snd (Prod.snd (List.getD (List.set aj (Int.toNat uY) (Prod.fst (List.getD aj (Int.toNat uY) (false,[],((0:Int),[],()),((0:Int),[],()),((0:Int),[],()),())),Prod.fst (Prod.snd (List.getD aj (Int.toNat uY) (false,[],((0:Int),[],()),((0:Int),[],()),((0:Int),[],()),())))++List.set [((0:Int),[],())] (Int.toNat (↑0:Int)) (Option.getD (Go.Lib.atoi (Prod.fst (y6 (List.getD ba (Int.toNat v51) [])))) (0:Int),Prod.fst (Prod.snd (y6 (Prod.fst (Prod.snd (y6 (List.getD ba (Int.toNat v51) [])))))),()),Prod.snd (Prod.snd (List.getD aj (Int.toNat uY) (false,[],((0:Int),[],()),((0:Int),[],()),((0:Int),[],()),()))))) (Int.toNat uY) (false,[],((0:Int),[],()),((0:Int),[],()),((0:Int),[],()),()))))),ak,ah,()))]))) (.f7 (r9 IntKind.i64 (v51+(1:Int))) (.ctL (g9 (d8 Tryz.prog 67) 6) (St.mk [(3,AV.ptr 3 []),(4,AV.ptr 2000000 [Step.l8 1,Step.idx uY]),(49,AV.at_ 1000049 []),(50,AV.val e8 yG),(51,AV.val e8 (v51+(1:Int)))] [(3,i7.var (Ty.pair e8 (Ty.pair e8 (Ty.pair e8 (Ty.pair e8 (Ty.pair e8 (Ty.pair Y4 (Ty.pair Ty.str Ty.unit))))))) (cB,aW,aQ,aH,az,au,ao,())),(1000049,i7.own (Ty.d0 true Ty.str) ba),(2000000,i7.var w5 ((ar,an,()),List.set aj (Int.toNat uY) (Prod.fst (List.getD aj (Int.toNat uY) (false,[],((0:Int),[],()),((0:Int),[],()),((0:Int),[],()),())),Prod.fst (Prod.snd (List.getD aj (Int.toNat uY) (false,[],((0:Int),[],()),((0:Int),[],()),((0:Int),[],()),())))++List.set [((0:Int),[],())] (Int.toNat (↑0:Int)) (Option.getD (Go.Lib.atoi (Prod.fst (y6 (List.getD ba (Int.toNat v51) [])))) (0:Int),Prod.fst (Prod.snd (y6 (Prod.fst (Prod.snd (y6 (List.getD ba (Int.toNat v51) [])))))),()),Prod.snd (Prod.snd (List.getD aj (Int.toNat uY) (false,[],((0:Int),[],()),((0:Int),[],()),((0:Int),[],()),())))),ak,ah,()))]))))))) (.f7 (r9 IntKind.i64 (v51+(1:Int))) (.ctL (g9 (d8 Tryz.prog 67) 6) (St.mk [(3,AV.ptr 3 []),(4,AV.ptr 2000000 [Step.l8 1,Step.idx uY]),(49,AV.at_ 1000049 []),(50,AV.val e8 yG),(51,AV.val e8 (v51+(1:Int)))] [(3,i7.var (Ty.pair e8 (Ty.pair e8 (Ty.pair e8 (Ty.pair e8 (Ty.pair e8 (Ty.pair Y4 (Ty.pair Ty.str Ty.unit))))))) (cB,aW,aQ,aH,az,au,ao,())),(1000049,i7.own (Ty.d0 true Ty.str) ba),(2000000,i7.var w5 ((ar,an,()),List.set aj (Int.toNat uY) (Prod.fst (List.getD aj (Int.toNat uY) (false,[],((0:Int),[],()),((0:Int),[],()),((0:Int),[],()),())),Prod.fst (Prod.snd (List.getD aj (Int.toNat uY) (false,[],((0:Int),[],()),((0:Int),[],()),((0:Int),[],()),())))++List.set [((0:Int),[],())] (Int.toNat (↑0:Int)) (Option.getD (Go.Lib.atoi (Prod.fst (y6 (List.getD ba (Int.toNat v51) [])))) (0:Int),Prod.fst (Prod.snd (y6 (Prod.fst (Prod.snd (y6 (List.getD ba (Int.toNat v51) [])))))),()),Prod.snd (Prod.snd (List.getD aj (Int.toNat uY) (false,[],((0:Int),[],()),((0:Int),[],()),((0:Int),[],()),())))),ak,ah,()))]))))))))) (.ret ((((ar,an,()),aj,ak,ah,()),()))):=by kernel_rfl
attribute [local irreducible] vF D8 R4 y6 Lib.atoi in
theorem b53:Ij.Valid Tryz.prog 67:=by
  refine p9.n9 JW rfl rfl Tryz.func67 (c:=d8 Tryz.prog 67) rfl rfl Kb rfl ?_;rintro ⟨⟨⟨(v0:Int),(v1:Int),⟨⟩⟩,(al:List o8),(od:List yY),(wy:List yY),⟨⟩⟩,⟨(nk:Int),(nf:Int),(nt:Int),(nv:Int),(ns:Int),(na:List Int),(nx:yY),⟨⟩⟩,⟨⟩⟩ ⟨(hp:0<=nt/\nt<(al.length:Int)),(hl:(N9 ((v0,v1,()),al,od,wy,()) nt).2.1.length<=1000000000000),(aM:∀ t∈(R0 ((v0,v1,()),al,od,wy,()) (nk,nf,nt,nv,ns,na,nx,())).2.1,okT t)⟩ -
  refine j7 (n:=1000) JW Kb ?_;refine i8 (XQ v0 v1 al od wy nk nf nt nv ns na nx) ?_;simp only [j8,Tree.holds,sL];have e1:=λ a=>(vF.eq_1 ((v0,v1,()),al,od,wy,()) (nk,nf,nt,nv,ns,na,nx,())).trans (if_pos a);have e2:=λ a=>(vF.eq_1 ((v0,v1,()),al,od,wy,()) (nk,nf,nt,nv,ns,na,nx,())).trans (if_neg a);have key:∀ r:f9,vF ((v0,v1,()),al,od,wy,()) (nk,nf,nt,nv,ns,na,nx,())=r->(((r,()):f9×Unit)=(vF ((v0,v1,()),al,od,wy,()) (nk,nf,nt,nv,ns,na,nx,()),())):=by rintro r rfl; rfl
  refine ⟨hp,λ _=>⟨λ a=>key _ (e1 a),λ a=>?_⟩⟩;have e3:=e2 a;have bD:=zo (Decidable.not_not.1 a);obtain ⟨x,hx⟩:∃ x:o8,x=Bm (N9 ((v0,v1,()),al,od,wy,()) nt) (R0 ((v0,v1,()),al,od,wy,()) (nk,nf,nt,nv,ns,na,nx,())).1:=⟨_,rfl⟩;obtain ⟨l,jW⟩:∃ l,l=(R0 ((v0,v1,()),al,od,wy,()) (nk,nf,nt,nv,ns,na,nx,())).2.1:=⟨_,rfl⟩;have qR:x.2.1.length<=1000000000000:=by rw [hx]; exact hl
  have sP:l.length<=16:=by rw [jW]; exact bD.2.2.1
  have bc:∀ t∈l,E4 t=false:=by rw [jW]; exact λ t ht=>(bD.1 t ht).2
  have iU:∀ t∈l,okT t:=by rw [jW]; exact aM
  suffices go:Go.Ex.Reach Bv Tryz.f67 () (yz ((v0,v1,()),al,od,wy,()) nt (K0 nt x l l.length),()) (.code (g9 (d8 Tryz.prog 67) 6).1::.inLoop (g9 (d8 Tryz.prog 67) 6).1::(g9 (d8 Tryz.prog 67) 6).2) (JX nt (l.length:Int) ((0:Nat):Int) nk nf nt nv ns na nx l v0 v1 (al.set nt.toNat (K0 nt x l 0)) od wy) by
    subst hx; subst jW;rw [e3];rw [K0] at go;exact go
  refine Reach.M8 JW Kb (λ i:Nat=>JX nt (l.length:Int) (i:Int) nk nf nt nv ns na nx l v0 v1 (al.set nt.toNat (K0 nt x l i)) od wy) (λ i=>i<=l.length)
    (λ i=>l.length - i) 1000 (λ _=>⟨u6 rfl,u6 rfl⟩) ?_ 0 (Nat.zero_le _)
  rintro i k1 - ih;have k1:i<=l.length:=k1;refine i8 (Zw ..) ?_;have e4:((i:Nat):Int)+1=((i+1:Nat):Int):=by omega
  have hg:∀ y:o8,(al.set nt.toNat y).getD nt.toNat (false,[],(0,[],()),(0,[],()),(0,[],()),())=y:=λ y=>by
    rw [List.getD_eq_getElem?_getD,List.getElem?_set_self (by omega)]; rfl
  have oS:∀ y z:o8,(al.set nt.toNat y).set nt.toNat z=al.set nt.toNat z:=λ y z=>List.set_set ..;have jf:Ty.wb r8=24:=rfl;have hlen:=Ll (q:=nt) (x:=x) (l:=l) i;obtain ⟨y,hy⟩:∃ y,y=K0 nt x l i:=⟨_,rfl⟩;obtain ⟨t,ht⟩:∃ t,t=l.getD i []:=⟨_,rfl⟩;have hs:K0 nt x l (i+1)=wg nt y t:=by rw [K0,<- hy,<- ht]
  have hT:i<l.length->E4 t=false/\okT t:=λ h=>by
    have:t∈l:=by rw [ht,List.getD_eq_getElem?_getD,List.getElem?_eq_getElem h]; exact List.getElem_mem _
    exact ⟨bc t this,iU t this⟩
  have ih1:i<l.length->_:=λ h=>ih (i+1) (by show i+1<=l.length; omega) (by show l.length - (i+1)<l.length - i; omega);rw [hs] at ih1;rw [<- hy] at hlen ⊢;simp only [j8,Tree.holds,e4,hg,oS,sL];rw [<- ht];have dK:=BY t;have ik:=BY (y6 t).2.1;refine ⟨λ c=>?_,λ c=>?_⟩
  . have c':i<l.length:=by omega
    obtain ⟨g1,g2⟩:=hT c';have g3:=Ki g1;have g4:=WB g2;refine ⟨⟨by omega,by omega⟩,λ _=>⟨⟨by omega,trivial⟩,λ _=>⟨⟨by omega,trivial⟩,λ _=>⟨g4.1,λ _=>⟨?_,λ _=>⟨λ d=>⟨g4.2.1,λ _=>⟨?_,λ _=>⟨?_,λ _=>⟨λ e=>⟨?_,λ _=>?_⟩,λ e=>⟨?_,λ _=>?_⟩⟩⟩⟩⟩,λ d=>⟨?_,λ _=>?_⟩⟩⟩⟩⟩⟩⟩
    . rw [jf]; omega
    . have:0<=nth t/\nth t<=16777300:=g4.2.2;show r9 .i64 (nth t+1);exact G5.2 ⟨by omega,by omega⟩
    . have:0<=nth t/\nth t<=16777300:=g4.2.2;show 0<=nth t+1;omega
    . exact ⟨by omega,by omega⟩
    . have:=ih1 c';rw [Kg d e] at this;exact this
    . exact ⟨by omega,by omega⟩
    . have:=ih1 c';rw [Et (λ h=>e h.2)] at this;exact this
    . exact ⟨by omega,by omega⟩
    . have:=ih1 c';rw [Et (λ h=>d h.1)] at this;exact this
  . obtain rfl:i=l.length:=by omega
    rw [hy]; rfl
theorem a12 {w:f9} {n:C1}:∀ j,(F8 w n j).2.1=w.2.1/\(F8 w n j).1=w.1/\(F8 w n j).2.2.1=w.2.2.1
  | 0=>⟨rfl,rfl,rfl⟩
  | j+1=>by
    obtain ⟨h1,h2,h3⟩:=a12 (w:=w) (n:=n) j;rw [F8]
    split
    . obtain ⟨g1,g2,g3⟩:=EO (w:=F8 w n j) (k:=2) (f:=M1 (F8 w n j)) (t:=n.2.1) (s:=n.2.2.2.2.1+j) (x:=(F8 w n j).2.2.1.getD (n.2.2.2.2.1+j).toNat []);exact ⟨g1.trans h1,g2.trans h2,g3.trans h3⟩
    . exact ⟨h1,h2,h3⟩
theorem Za {w:f9} {n:C1} {j:Nat} (h:n.2.2.2.2.1+j<(F8 w n j).2.2.1.length):F8 w n (j+1)=M3 (F8 w n j) 2 (M1 (F8 w n j)) n.2.1 (n.2.2.2.2.1+j) ((F8 w n j).2.2.1.getD (n.2.2.2.2.1+j).toNat []):=by
  rw [F8]; exact if_pos h
theorem Sl {w:f9} {n:C1} {j:Nat} (h:¬ n.2.2.2.2.1+j<w.2.2.1.length):∀ m,F8 w n (j+m)=F8 w n j
  | 0=>rfl
  | m+1=>by
    rw [<- Nat.add_assoc,F8,if_neg,Sl h m];rw [(a12 (j+m)).2.2];omega
structure xu (w:f9) (n:C1):Prop where
  R5:w.2.1.length<=6
  to:0<=n.2.2.1/\n.2.2.1<(w.2.1.length:Int)
  seq:0<=n.2.2.2.2.1/\n.2.2.2.2.1<=16777215
  log:(N9 w n.2.2.1).2.1.length<=1000000000000
  ord:w.2.2.1.length<=1000000000000
  txt:n.1=2->∀ t∈(R0 w n).2.1,okT t
def JB:p9:={ ps:=[.rw w5,.v zG],rs:=[],pre:=λ x=>xu x.1 x.2.1,fn:=λ _=>(),out:=λ x=>(G2 x.1 x.2.1,()) }
noncomputable def Ck:Env:={ P:=Tryz.prog,tt:=tt,C7:=[(49,yZ),(66,Ii),(67,Ij),(43,zZ),(44,zA)],res:=[],rs:=[],ps:=[PK.rw w5,PK.v (Ty.pair e8 (Ty.pair e8 (Ty.pair e8 (Ty.pair e8 (Ty.pair e8 (Ty.pair Y4 (Ty.pair Ty.str Ty.unit)))))))],B9:=[(7,[(0,none),(3,none),(4,none)])],nt:=56 }
theorem LG:w7 Ck:=x8 r7 ⟨CF,b56,b53,Fu,Fc,trivial⟩
theorem LK:C0 Ck Tryz.f48:=⟨rfl,rfl⟩
theorem b8K (ai:Int) (af:Int) (ab:List o8) (ae:List yY) (aa:List yY) (br:Int) (aB:Int) (aA:Int) (aX:Int) (aE:Int) (aT:List Int) (aw:yY):exec Ck 1000 [.code (d8 Tryz.prog 48)] (s8 JB.ps ((((ai,af,()),ab,ae,aa,()),(br,aB,aA,aX,aE,aT,aw,()),()))) =
  .f7 (List.length ab<=6) (cond (decide (known ((ai,af,()),ab,ae,aa,()) aB≠(0:Int))) (.ret ((((ai,af,()),ab,ae,aa,()),()))) (cond (decide (br=(1:Int))) (.f7 (List.length ab<=6/\¬known ((ai,af,()),ab,ae,aa,()) aB≠(0:Int)/\List.length ae<=1000000000000) (.ret ((X8 ((ai,af,()),ab,ae,aa,()) (br,aB,aA,aX,aE,aT,aw,()),())))) (cond (decide (br=(3:Int))) (.ctL (g9 (d8 Tryz.prog 48) 7) (St.mk [(0,AV.ptr 2000000 []),(3,AV.ptr 3 []),(4,AV.val e8 aE)] [(3,i7.var (Ty.pair e8 (Ty.pair e8 (Ty.pair e8 (Ty.pair e8 (Ty.pair e8 (Ty.pair Y4 (Ty.pair Ty.str Ty.unit))))))) (br,aB,aA,aX,aE,aT,aw,())),(2000000,i7.var w5 ((ai,af,()),ab,ae,aa,()))])) (cond (decide (br=(2:Int))) (.f7 (((0:Int)<=aA/\aA<(↑(List.length ab):Int))/\List.length (Prod.fst (Prod.snd (N9 ((ai,af,()),ab,ae,aa,()) aA)))<=1000000000000/\∀ (t:yY),t∈Prod.fst (Prod.snd (R0 ((ai,af,()),ab,ae,aa,()) (br,aB,aA,aX,aE,aT,aw,())))->okT t) (.ret ((vF ((ai,af,()),ab,ae,aa,()) (br,aB,aA,aX,aE,aT,aw,()),())))) (.ret ((((ai,af,()),ab,ae,aa,()),()))))))):=by kernel_rfl
def LH (v4:Int) (cB:Int) (aW:Int) (aQ:Int) (aH:Int) (az:Int) (au:List Int) (ao:yY) (ar:Int) (an:Int) (aj:List o8) (ak:List yY) (ah:List yY):St:=St.mk [(0,AV.ptr 2000000 []),(3,AV.ptr 3 []),(4,AV.val e8 v4)] [(3,i7.var (Ty.pair e8 (Ty.pair e8 (Ty.pair e8 (Ty.pair e8 (Ty.pair e8 (Ty.pair Y4 (Ty.pair Ty.str Ty.unit))))))) (cB,aW,aQ,aH,az,au,ao,())),(2000000,i7.var w5 ((ar,an,()),aj,ak,ah,()))]
theorem b7t (v4:Int) (cB:Int) (aW:Int) (aQ:Int) (aH:Int) (az:Int) (au:List Int) (ao:yY) (ar:Int) (an:Int) (aj:List o8) (ak:List yY) (ah:List yY):exec Ck 1000 (.code (g9 (d8 Tryz.prog 48) 7).1::.inLoop (g9 (d8 Tryz.prog 48) 7).1::(g9 (d8 Tryz.prog 48) 7).2) (LH v4 cB aW aQ aH az au ao ar an aj ak ah) =
  cond (decide (v4<(↑(List.length ak):Int))) (.f7 (r9 IntKind.i64 (az+(4:Int))) (cond (decide (v4<az+(4:Int))) (.f7 (True) (.f7 ((0:Int)<=v4/\v4<(↑(List.length ak):Int)) (.f7 (True) (.f7 (r9 IntKind.i64 (v4+(1:Int))) (.ctL (g9 (d8 Tryz.prog 48) 7) (St.mk [(0,AV.ptr 2000000 []),(3,AV.ptr 3 []),(4,AV.val e8 (v4+(1:Int)))] [(3,i7.var (Ty.pair e8 (Ty.pair e8 (Ty.pair e8 (Ty.pair e8 (Ty.pair e8 (Ty.pair Y4 (Ty.pair Ty.str Ty.unit))))))) (cB,aW,aQ,aH,az,au,ao,())),(2000000,i7.var w5 (M3 ((ar,an,()),aj,ak,ah,()) (2:Int) (M1 ((ar,an,()),aj,ak,ah,())) aW v4 (List.getD ak (Int.toNat v4) [])))])))))) (.ret ((((ar,an,()),aj,ak,ah,()),()))))) (.ret ((((ar,an,()),aj,ak,ah,()),()))):=by kernel_rfl
theorem TK {w:f9} {n:C1} (h:known w n.2.1≠0):G2 w n=w:=by rw [G2]; exact if_pos h
theorem Ud {w:f9} {n:C1} (h:¬ known w n.2.1≠0) (h1:n.1=1):G2 w n=X8 w n:=by rw [G2]; exact (if_neg h).trans (if_pos h1)
theorem Uc {w:f9} {n:C1} (h:¬ known w n.2.1≠0) (h1:n.1=3):G2 w n=F8 w n 4:=by rw [G2]; exact (if_neg h).trans ((if_neg (by omega)).trans (if_pos h1))
theorem Un {w:f9} {n:C1} (h:¬ known w n.2.1≠0) (h1:n.1=2):G2 w n=vF w n:=by rw [G2]; exact (if_neg h).trans ((if_neg (by omega)).trans ((if_neg (by omega)).trans (if_pos h1)))
theorem Um {w:f9} {n:C1} (h1:n.1≠1) (h2:n.1≠3) (h3:n.1≠2):G2 w n=w:=by
  rw [G2,if_neg h1,if_neg h2,if_neg h3]; split<;>rfl
attribute [local irreducible] G2 X8 vF F8 M3 in
theorem b2E:JB.Valid Tryz.prog 48:=by
  refine p9.n9 LG rfl rfl Tryz.func48 (c:=d8 Tryz.prog 48) rfl rfl LK rfl ?_;rintro ⟨⟨⟨(v0:Int),(v1:Int),⟨⟩⟩,(al:List o8),(od:List yY),(wy:List yY),⟨⟩⟩,⟨(nk:Int),(nf:Int),(nt:Int),(nv:Int),(ns:Int),(na:List Int),(nx:yY),⟨⟩⟩,⟨⟩⟩ (hq:xu ((v0,v1,()),al,od,wy,()) (nk,nf,nt,nv,ns,na,nx,())) -
  refine j7 (n:=1000) LG LK ?_;refine i8 (b8K v0 v1 al od wy nk nf nt nv ns na nx) ?_;simp only [j8,Tree.holds,sL];have key:∀ r:f9,G2 ((v0,v1,()),al,od,wy,()) (nk,nf,nt,nv,ns,na,nx,())=r->(((r,()):f9×Unit)=(G2 ((v0,v1,()),al,od,wy,()) (nk,nf,nt,nv,ns,na,nx,()),())):=by rintro r rfl; rfl
  refine ⟨hq.R5,λ _=>⟨λ a=>key _ (TK a),λ a=>⟨λ b=>⟨⟨hq.R5,a,hq.ord⟩,λ _=>key _ (Ud a b)⟩,λ b=>⟨λ c=>?_,λ c=>⟨λ d=>⟨⟨hq.to,hq.log,hq.txt d⟩,λ _=>key _ (Un a d)⟩,λ d=>key _ (Um b c d)⟩⟩⟩⟩⟩;obtain ⟨w,hw⟩:∃ w:f9,w=((v0,v1,()),al,od,wy,()):=⟨_,rfl⟩;obtain ⟨n,hn⟩:∃ n:C1,n=(nk,nf,nt,nv,ns,na,nx,()):=⟨_,rfl⟩;have e3:G2 ((v0,v1,()),al,od,wy,()) (nk,nf,nt,nv,ns,na,nx,())=F8 w n 4:=by rw [hw,hn]; exact Uc a c
  have fY:0<=ns/\ns<=16777215:=hq.seq;have mD:n.2.2.2.2.1=ns:=by rw [hn]
  have nW:n.2.1=nf:=by rw [hn]
  have qS:w.2.2.1=od:=by rw [hw]
  suffices go:Go.Ex.Reach Ck Tryz.f48 () (F8 w n 4,()) (.code (g9 (d8 Tryz.prog 48) 7).1::.inLoop (g9 (d8 Tryz.prog 48) 7).1::(g9 (d8 Tryz.prog 48) 7).2) (LH (ns+((0:Nat):Int)) nk nf nt nv ns na nx (F8 w n 0).1.1 (F8 w n 0).1.2.1 (F8 w n 0).2.1 (F8 w n 0).2.2.1 (F8 w n 0).2.2.2.1) by
    rw [e3];rw [F8,show ns+((0:Nat):Int)=ns by omega] at go;rw [hw] at go ⊢;exact go
  refine Reach.M8 LG LK (λ j:Nat=>LH (ns+(j:Int)) nk nf nt nv ns na nx (F8 w n j).1.1 (F8 w n j).1.2.1 (F8 w n j).2.1 (F8 w n j).2.2.1 (F8 w n j).2.2.2.1) (λ j=>j<=4)
    (λ j=>4 - j) 1000 (λ _=>⟨u6 rfl,u6 rfl⟩) ?_ 0 (Nat.zero_le _)
  rintro j k1 - ih;have k1:j<=4:=k1;refine i8 (b7t ..) ?_;have e4:ns+(j:Int)+1=ns+((j+1:Nat):Int):=by omega
  have t3:=(a12 (w:=w) (n:=n) j).2.2;simp only [j8,Tree.holds,e4,sL];refine ⟨λ d=>⟨?_,λ _=>⟨λ e=>⟨⟨by omega,d⟩,λ _=>⟨?_,λ _=>?_⟩⟩,λ e=>?_⟩⟩,λ d=>?_⟩
  . exact G5.2 ⟨by omega,by omega⟩
  . exact G5.2 ⟨by omega,by omega⟩
  . have:=ih (j+1) (by show j+1<=4; omega) (by show 4 - (j+1)<4 - j; omega);rw [Za (j:=j) (by rw [mD]; exact d)] at this;rw [mD,nW] at this;exact this
  . obtain rfl:j=4:=by omega
    rfl
  . have:=Sl (w:=w) (n:=n) (j:=j) (by rw [mD,<- t3]; exact d) (4 - j);rw [show j+(4 - j)=4 by omega] at this;rw [this]; rfl
abbrev noB:yY:=[]
def GS:p9:={ ps:=[.own (.d0 true .str),.v e8,.v e8],rs:=[.d0 true .str],pre:=λ x=>LE.le (α:=Int) 0 x.2.1/\LE.le (α:=Int) x.2.1 x.2.2.1/\LE.le (α:=Int) x.2.2.1 (List.length (α:=yY) x.1),fn:=λ x=>(List.take (α:=yY) (Int.toNat x.2.1) x.1++List.drop (α:=yY) (Int.toNat x.2.2.1) x.1,()),out:=λ _=>() }
noncomputable def Gs:Env:={ P:=Tryz.prog,tt:=tt,C7:=[],res:=[Go.ResultVar.tmp 6],rs:=[Ty.d0 true Ty.str],ps:=[PK.own (Ty.d0 true Ty.str),PK.v e8,PK.v e8],B9:=[],nt:=33 }
theorem PX:w7 Gs:=x8 r7 trivial
theorem PR:C0 Gs Tryz.f45:=⟨rfl,rfl⟩
theorem WT (x0:List yY) (x1:Int) (x2:Int):exec Gs 1000 [.code (d8 Tryz.prog 45)] (s8 GS.ps ((x0,x1,x2,()))) =
  .f7 ((0:Int)<=x1/\x1<=x2/\x2<=(↑(List.length x0):Int)/\(↑(List.length x0):Int)<=(↑(List.length x0):Int)) (cond (decide (x1=x2)) (.ret ((x0,()))) (.f7 ((0:Int)<=(0:Int)/\(0:Int)<=x1/\x1<=(↑(List.length x0):Int)) (.f7 ((0:Int)<=x2/\x2<=(↑(List.length x0):Int)/\(↑(List.length x0):Int)<=(↑(List.length x0):Int)) (.f7 (x1+(↑(List.length (o5 x2 (↑(List.length x0):Int) x0)):Int)<=(↑(List.length x0):Int)) (.f7 ((0:Int)<=x1+(↑(List.length (o5 x2 (↑(List.length x0):Int) x0)):Int) - (0:Int)/\x1+(↑(List.length (o5 x2 (↑(List.length x0):Int) x0)):Int) - (0:Int)<=(↑(List.length x0):Int)/\(0:Int)+(↑(List.length x0):Int)<=(↑(List.length (List.take (Int.toNat x1) x0++o5 x2 (↑(List.length x0):Int) x0++List.drop (Int.toNat x1+List.length (o5 x2 (↑(List.length x0):Int) x0)) x0)):Int)) (.ret ((o5 (0:Int) (x1+(↑(List.length (o5 x2 (↑(List.length x0):Int) x0)):Int)) (List.take (Int.toNat ((0:Int)+(x1+(↑(List.length (o5 x2 (↑(List.length x0):Int) x0)):Int) - (0:Int)))) (List.take (Int.toNat x1) x0++o5 x2 (↑(List.length x0):Int) x0++List.drop (Int.toNat x1+List.length (o5 x2 (↑(List.length x0):Int) x0)) x0)++List.replicate (Int.toNat ((0:Int)+(↑(List.length x0):Int) - ((0:Int)+(x1+(↑(List.length (o5 x2 (↑(List.length x0):Int) x0)):Int) - (0:Int))))) []++List.drop (Int.toNat ((0:Int)+(x1+(↑(List.length (o5 x2 (↑(List.length x0):Int) x0)):Int) - (0:Int)))+List.length (List.replicate (Int.toNat ((0:Int)+(↑(List.length x0):Int) - ((0:Int)+(x1+(↑(List.length (o5 x2 (↑(List.length x0):Int) x0)):Int) - (0:Int))))) noB)) (List.take (Int.toNat x1) x0++o5 x2 (↑(List.length x0):Int) x0++List.drop (Int.toNat x1+List.length (o5 x2 (↑(List.length x0):Int) x0)) x0)),())))))))):=by kernel_rfl
theorem b78:GS.Valid Tryz.prog 45:=by
  refine p9.n9 PX rfl rfl Tryz.func45 (c:=d8 Tryz.prog 45) rfl rfl PR rfl ?_;rintro ⟨(l:List yY),(i:Int),(j:Int),⟨⟩⟩ ⟨(h0:0<=i),(h1:i<=j),(h2:j<=(l.length:Int))⟩ -
  refine j7 (n:=1000) PX PR ?_;refine i8 (WT l i j) ?_;simp only [j8,Tree.holds,sL];have hc:=NC h0 h1 h2 (l:=l);have hm:=Ir h0 h1 h2 (l:=l);refine ⟨⟨h0,h1,h2,Int.le_refl _⟩,λ _=>⟨λ e=>?_,λ e=>⟨by omega,λ _=>⟨by omega,λ _=>⟨by omega,λ _=>⟨by omega,λ _=>?_⟩⟩⟩⟩⟩⟩
  . subst e;show ((l,()):List yY×Unit)=(l.take i.toNat++l.drop i.toNat,());rw [List.take_append_drop]
  . exact congrArg (λ y=>(y,())) (Xl h0 h1 h2 (l:=l))
structure BN (w:f9):Prop where
  R5:w.2.1.length<=6
  way:w.2.2.2.1.length<=60
  note:∀ s∈w.2.2.2.1,(x6 s).2.1=0->(x6 s).1.2.2.2.1=w.1.1->s7 w (x6 s).1.2.2.1=true->xu w (x6 s).1
def Ds:p9:={ ps:=[.rw w5,.v e8,.v e8],rs:=[e8],pre:=λ x=>BN x.1,fn:=λ x=>((G1 x.1 x.2.1 x.2.2.1).2,()),out:=λ x=>((G1 x.1 x.2.1 x.2.2.1).1,()) }
noncomputable def HA:Env:={ P:=Tryz.prog,tt:=tt,C7:=[(40,zK),(45,GS),(46,GO),(47,yK),(48,JB)],res:=[Go.ResultVar.tmp 6],rs:=[Ty.int IntKind.i64],ps:=[PK.rw w5,PK.v e8,PK.v e8],B9:=[],nt:=95 }
theorem QP:w7 HA:=x8 r7 ⟨Fb,b78,b8c,Cy,b2E,trivial⟩
theorem Sb:C0 HA Tryz.f18:=⟨rfl,rfl⟩
theorem XO (ai:Int) (af:Int) (ab:List o8) (ae:List yY) (aa:List yY) (x1:Int) (x2:Int):exec HA 1000 [.code (d8 Tryz.prog 18)] (s8 Ds.ps ((((ai,af,()),ab,ae,aa,()),x1,x2,()))) =
  .f7 (True) (cond (!I6 x2 (1:Int) (3:Int)) (.ret (((1:Int),((ai,af,()),ab,ae,aa,()),()))) (.f7 (r9 IntKind.i64 ((↑(List.length aa):Int) - (1:Int))) (.f7 (True) (cond (!I6 x1 (0:Int) ((↑(List.length aa):Int) - (1:Int))) (.ret (((6:Int),((ai,af,()),ab,ae,aa,()),()))) (cond (decide (x2=(3:Int))) (cond (decide ((↑(List.length aa):Int)=(60:Int))) (.ret (((8:Int),((ai,af,()),ab,ae,aa,()),()))) (.f7 ((0:Int)<=x1/\x1<(↑(List.length aa):Int)) (cond (decide (x2=(3:Int))) (.f7 (True/\True/\[]++[Step.l8 3]=[]++[Step.l8 3]/\List.length aa+List.length (List.set [[]] (Int.toNat (↑0:Int)) (List.getD aa (Int.toNat x1) []))<=140737488355328/\(List.length aa+List.length (List.set [[]] (Int.toNat (↑0:Int)) (List.getD aa (Int.toNat x1) [])))*Ty.wb Ty.str<=140737488355328) (.ret (((0:Int),((ai,af,()),ab,ae,aa++List.set [[]] (Int.toNat (↑0:Int)) (List.getD aa (Int.toNat x1) []),()),())))) (.f7 (r9 IntKind.i64 (x1+(1:Int))) (.f7 (True/\True/\[]++[Step.l8 3]=[]++[Step.l8 3]/\(0:Int)<=x1/\x1<=x1+(1:Int)/\x1+(1:Int)<=(↑(List.length aa):Int)) (.f7 (True) (cond (decide (x2=(1:Int))) (cond (decide (Prod.fst (Prod.snd (x6 (List.getD aa (Int.toNat x1) [])))=(0:Int))) (cond (decide (Prod.fst (Prod.snd (Prod.snd (Prod.snd (Prod.fst (x6 (List.getD aa (Int.toNat x1) []))))))=ai)) (.f7 (List.length ab<=6) (cond (s7 ((ai,af,()),ab,ae,List.take (Int.toNat x1) aa++List.drop (Int.toNat (x1+(1:Int))) aa,()) (Prod.fst (Prod.snd (Prod.snd (Prod.fst (x6 (List.getD aa (Int.toNat x1) []))))))) (.f7 (xu ((ai,af,()),ab,ae,List.take (Int.toNat x1) aa++List.drop (Int.toNat (x1+(1:Int))) aa,()) (Prod.fst (x6 (List.getD aa (Int.toNat x1) [])))) (.ret (((0:Int),G2 ((ai,af,()),ab,ae,List.take (Int.toNat x1) aa++List.drop (Int.toNat (x1+(1:Int))) aa,()) (Prod.fst (x6 (List.getD aa (Int.toNat x1) []))),())))) (.ret (((0:Int),((ai,af,()),ab,ae,List.take (Int.toNat x1) aa++List.drop (Int.toNat (x1+(1:Int))) aa,()),()))))) (.ret (((0:Int),((ai,af,()),ab,ae,List.take (Int.toNat x1) aa++List.drop (Int.toNat (x1+(1:Int))) aa,()),())))) (.ret (((0:Int),((ai,af,()),ab,ae,List.take (Int.toNat x1) aa++List.drop (Int.toNat (x1+(1:Int))) aa,()),())))) (.ret (((0:Int),((ai,af,()),ab,ae,List.take (Int.toNat x1) aa++List.drop (Int.toNat (x1+(1:Int))) aa,()),())))))))))) (.f7 ((0:Int)<=x1/\x1<(↑(List.length aa):Int)) (cond (decide (x2=(3:Int))) (.f7 (True/\True/\[]++[Step.l8 3]=[]++[Step.l8 3]/\List.length aa+List.length (List.set [[]] (Int.toNat (↑0:Int)) (List.getD aa (Int.toNat x1) []))<=140737488355328/\(List.length aa+List.length (List.set [[]] (Int.toNat (↑0:Int)) (List.getD aa (Int.toNat x1) [])))*Ty.wb Ty.str<=140737488355328) (.ret (((0:Int),((ai,af,()),ab,ae,aa++List.set [[]] (Int.toNat (↑0:Int)) (List.getD aa (Int.toNat x1) []),()),())))) (.f7 (r9 IntKind.i64 (x1+(1:Int))) (.f7 (True/\True/\[]++[Step.l8 3]=[]++[Step.l8 3]/\(0:Int)<=x1/\x1<=x1+(1:Int)/\x1+(1:Int)<=(↑(List.length aa):Int)) (.f7 (True) (cond (decide (x2=(1:Int))) (cond (decide (Prod.fst (Prod.snd (x6 (List.getD aa (Int.toNat x1) [])))=(0:Int))) (cond (decide (Prod.fst (Prod.snd (Prod.snd (Prod.snd (Prod.fst (x6 (List.getD aa (Int.toNat x1) []))))))=ai)) (.f7 (List.length ab<=6) (cond (s7 ((ai,af,()),ab,ae,List.take (Int.toNat x1) aa++List.drop (Int.toNat (x1+(1:Int))) aa,()) (Prod.fst (Prod.snd (Prod.snd (Prod.fst (x6 (List.getD aa (Int.toNat x1) []))))))) (.f7 (xu ((ai,af,()),ab,ae,List.take (Int.toNat x1) aa++List.drop (Int.toNat (x1+(1:Int))) aa,()) (Prod.fst (x6 (List.getD aa (Int.toNat x1) [])))) (.ret (((0:Int),G2 ((ai,af,()),ab,ae,List.take (Int.toNat x1) aa++List.drop (Int.toNat (x1+(1:Int))) aa,()) (Prod.fst (x6 (List.getD aa (Int.toNat x1) []))),())))) (.ret (((0:Int),((ai,af,()),ab,ae,List.take (Int.toNat x1) aa++List.drop (Int.toNat (x1+(1:Int))) aa,()),()))))) (.ret (((0:Int),((ai,af,()),ab,ae,List.take (Int.toNat x1) aa++List.drop (Int.toNat (x1+(1:Int))) aa,()),())))) (.ret (((0:Int),((ai,af,()),ab,ae,List.take (Int.toNat x1) aa++List.drop (Int.toNat (x1+(1:Int))) aa,()),())))) (.ret (((0:Int),((ai,af,()),ab,ae,List.take (Int.toNat x1) aa++List.drop (Int.toNat (x1+(1:Int))) aa,()),())))))))))))))):=by kernel_rfl
theorem Rg {w:f9} {k bs:Int} (h:I6 bs 1 3=false):G1 w k bs=(w,1):=by rw [G1]; exact if_pos h
theorem SX {w:f9} {k bs:Int} (h:¬ I6 bs 1 3=false) (h1:I6 k 0 ((w.2.2.2.1.length:Int) - 1)=false):G1 w k bs=(w,6):=by rw [G1]; exact (if_neg h).trans (if_pos h1)
theorem SV {w:f9} {k bs:Int} (h:¬ I6 bs 1 3=false) (h1:¬ I6 k 0 ((w.2.2.2.1.length:Int) - 1)=false) (h2:bs=3) (h3:(w.2.2.2.1.length:Int)=60):G1 w k bs=(w,8):=by
  rw [G1]; exact (if_neg h).trans ((if_neg h1).trans (if_pos ⟨h2,h3⟩))
theorem SU {w:f9} {k bs:Int} (h:¬ I6 bs 1 3=false) (h1:¬ I6 k 0 ((w.2.2.2.1.length:Int) - 1)=false) (h2:bs=3) (h3:¬ (w.2.2.2.1.length:Int)=60):G1 w k bs=(Dt w k.toNat,0):=by
  rw [G1]; exact (if_neg h).trans ((if_neg h1).trans ((if_neg (λ e=>h3 e.2)).trans (if_pos h2)))
theorem JL {w:f9} {k bs:Int} (h:¬ I6 bs 1 3=false) (h1:¬ I6 k 0 ((w.2.2.2.1.length:Int) - 1)=false) (h2:¬ bs=3):G1 w k bs=(xp (yU w k) bs (w.2.2.2.1.getD k.toNat []),0):=by
  rw [G1]; exact (if_neg h).trans ((if_neg h1).trans ((if_neg (λ e=>h2 e.1)).trans (if_neg h2)))
theorem SY {w:f9} {bs:Int} {s:yY} (h:bs=1/\(x6 s).2.1=0/\(x6 s).1.2.2.2.1=w.1.1/\s7 w (x6 s).1.2.2.1=true):xp w bs s=G2 w (x6 s).1:=by
  rw [xp]; exact if_pos h
theorem Rh {w:f9} {bs:Int} {s:yY} (h:¬ (bs=1/\(x6 s).2.1=0/\(x6 s).1.2.2.2.1=w.1.1/\s7 w (x6 s).1.2.2.1=true)):xp w bs s=w:=by
  rw [xp]; exact if_neg h
theorem xu.drop {w:f9} {n:C1} {l:List yY} (h:xu w n):xu (w.1,w.2.1,w.2.2.1,l,()) n:=⟨h.R5,h.to,h.seq,h.log,h.ord,h.txt⟩
attribute [local irreducible] G1 xp G2 x6 s7 in
theorem Tv:Ds.Valid Tryz.prog 18:=by
  refine p9.n9 QP rfl rfl Tryz.func18 (c:=d8 Tryz.prog 18) rfl rfl Sb rfl ?_;rintro ⟨⟨⟨(v0:Int),(v1:Int),⟨⟩⟩,(al:List o8),(od:List yY),(wy:List yY),⟨⟩⟩,(k:Int),(bs:Int),⟨⟩⟩ (hq:BN ((v0,v1,()),al,od,wy,())) -
  refine j7 (n:=1000) QP Sb ?_;refine i8 (XO v0 v1 al od wy k bs) ?_;have jf:Ty.wb .str=16:=rfl;have rU:wy.length<=60:=hq.way;simp only [j8,Tree.holds,sL];have key:∀ r:f9×Int,G1 ((v0,v1,()),al,od,wy,()) k bs=r->(((r.2,r.1,()):Int×f9×Unit)=((G1 ((v0,v1,()),al,od,wy,()) k bs).2,(G1 ((v0,v1,()),al,od,wy,()) k bs).1,())):=by rintro r rfl; rfl
  have cY:¬ I6 k 0 ((wy.length:Int) - 1)=false->0<=k/\k<(wy.length:Int):=λ h=>by
    have:=V4.1 (Bool.not_eq_false _▸h:I6 k 0 ((wy.length:Int) - 1)=true); omega
  have yes:∀ (a:¬ I6 bs 1 3=false) (b:¬ I6 k 0 ((wy.length:Int) - 1)=false) (c:¬ bs=3),bs=1->(x6 (wy.getD k.toNat [])).2.1=0->(x6 (wy.getD k.toNat [])).1.2.2.2.1=v0->s7 ((v0,v1,()),al,od,wy.take k.toNat++wy.drop (k+1).toNat,()) (x6 (wy.getD k.toNat [])).1.2.2.1=true ->
      G1 ((v0,v1,()),al,od,wy,()) k bs=(G2 ((v0,v1,()),al,od,wy.take k.toNat++wy.drop (k+1).toNat,()) (x6 (wy.getD k.toNat [])).1,0):=λ a b c d e f g=>by
    rw [JL a b c]; exact congrArg (λ x=>(x,(0:Int))) (SY ⟨d,e,f,g⟩)
  have no:∀ (a:¬ I6 bs 1 3=false) (b:¬ I6 k 0 ((wy.length:Int) - 1)=false) (c:¬ bs=3),¬ (bs=1/\(x6 (wy.getD k.toNat [])).2.1=0/\(x6 (wy.getD k.toNat [])).1.2.2.2.1=v0/\s7 ((v0,v1,()),al,od,wy.take k.toNat++wy.drop (k+1).toNat,()) (x6 (wy.getD k.toNat [])).1.2.2.1=true) ->
      G1 ((v0,v1,()),al,od,wy,()) k bs=(((v0,v1,()),al,od,wy.take k.toNat++wy.drop (k+1).toNat,()),0):=λ a b c d=>by
    rw [JL a b c]; exact congrArg (λ x=>(x,(0:Int))) (Rh d)
  have pre:0<=k/\k<(wy.length:Int)->(x6 (wy.getD k.toNat [])).2.1=0->(x6 (wy.getD k.toNat [])).1.2.2.2.1=v0->s7 ((v0,v1,()),al,od,wy.take k.toNat++wy.drop (k+1).toNat,()) (x6 (wy.getD k.toNat [])).1.2.2.1=true->xu ((v0,v1,()),al,od,wy.take k.toNat++wy.drop (k+1).toNat,()) (x6 (wy.getD k.toNat [])).1:=λ h h1 h3 h2 =>
    (hq.note _ (by show wy.getD k.toNat []∈wy; rw [List.getD_eq_getElem?_getD,List.getElem?_eq_getElem (by omega)]; exact List.getElem_mem _) h1 h3 (by rw [s7.eq_1] at h2 ⊢; exact h2)).drop
  refine ⟨λ a=>key (_,_) (Rg a),λ a=>⟨G5.2 ⟨by omega,by omega⟩,λ _=>⟨λ b=>key (_,_) (SX (by simpa using a) b),λ b=>?_⟩⟩⟩;have a:¬ I6 bs 1 3=false:=by simpa using a
  have b:¬ I6 k 0 ((wy.length:Int) - 1)=false:=by simpa using b
  have hk:=cY b;refine ⟨λ c=>⟨λ d=>key (_,_) (SV a b c d),λ d=>⟨hk,λ _=>⟨λ _=>⟨by rw [jf]; omega,λ _=>key (_,_) (SU a b c d)⟩,λ e=>absurd c e⟩⟩⟩,λ c=>⟨hk,λ _=>⟨λ e=>absurd e c,λ _=>⟨G5.2 ⟨by omega,by omega⟩,λ _=>⟨⟨by omega,by omega,by omega⟩,λ _=>⟨λ d=>⟨λ e=>⟨λ f=>⟨hq.R5,λ _=>⟨λ g=>⟨pre hk e f g,λ _=>key (_,_) (yes a b c d e f g)⟩,λ g=>key (_,_) (no a b c (λ h=>by rw [h.2.2.2] at g; cases g))⟩⟩,λ f=>key (_,_) (no a b c (λ h=>f h.2.2.1))⟩,λ e=>key (_,_) (no a b c (λ h=>e h.2.1))⟩,λ d=>key (_,_) (no a b c (λ h=>d h.1))⟩⟩⟩⟩⟩⟩
abbrev vV (m:El):f9:=(m.1,m.2.1.map rdP,m.2.2)
abbrev vr (w:f9):El:=(w.1,w.2.1.map toM,w.2.2)
theorem Yj (w:f9):vV (vr w)=w:=by
  show (w.1,(w.2.1.map toM).map rdP,w.2.2)=w;rw [List.map_map,show (rdP ∘ toM)=id from rfl,List.map_id]
structure zk (w:f9):Prop where
  R5:w.2.1.length<=6
  Vw:∀ i:Nat,(w.2.1.getD i j9).2.1.length<=5864062014805
  late:∀ i:Nat,(w.2.1.getD i j9).2.2.1.2.1.length<=1048576
def Nx:p9:={ ps:=[.rw Z9],rs:=[e8],pre:=λ x=>(x.1:El)=vr (vV x.1)/\zk (vV x.1)/\¬ (R7 (vV x.1)).2.1≠0,fn:=λ _=>(0,()),out:=λ x=>(vr (F3 (vV x.1)),()) }
noncomputable def xR:Env:={ P:=Tryz.prog,tt:=ttW,C7:=[(47,yK),(53,BF),(31,zJ),(32,GY)],res:=[Go.ResultVar.tmp 2],rs:=[Ty.int IntKind.i64],ps:=[PK.rw Z9],B9:=[(4,[(0,none),(3,none),(4,none),(18,none),(19,none)]),(16,[(0,none),(4,none),(7,none),(67,none),(68,none)]),(22,[(0,none),(4,none),(7,none),(9,none),(10,none),(11,none),(67,none),(68,none),(86,none),(87,none),(88,none)]),(998049,[(6,some L8)]),(998014,[(4,some L8)])],nt:=139 }
theorem CH:w7 xR:=x8 Nb ⟨Cy,TY,Fa,Tr,trivial⟩
theorem CI:C0 xR Tryz.f25:=⟨rfl,rfl⟩
theorem c2H (ai:Int) (af:Int) (ab:List K9) (ae:List yY) (aa:List yY):exec xR 1000 [.code (d8 Tryz.prog 25)] (s8 Nx.ps ((((ai,af,()),ab,ae,aa,()),()))) =
  .ctL (g9 (d8 Tryz.prog 25) 4) (St.mk [(0,AV.ptr 2000000 []),(3,AV.val U8 (0:Int)),(4,AV.val L8 []),(18,AV.val e8 (↑(List.length ab):Int)),(19,AV.val e8 (0:Int))] [(2000000,i7.var Z9 ((ai,af,()),ab,ae,aa,()))]):=by kernel_rfl
def KY (v3:Int) (v4:List (Int×yY×Unit)) (va:Int) (uX:Int) (ar:Int) (an:Int) (aj:List K9) (ak:List yY) (ah:List yY):St:=St.mk [(0,AV.ptr 2000000 []),(3,AV.val U8 v3),(4,AV.val L8 v4),(18,AV.val e8 va),(19,AV.val e8 uX)] [(2000000,i7.var Z9 ((ar,an,()),aj,ak,ah,()))]
theorem b8L (v3:Int) (v4:List (Int×yY×Unit)) (va:Int) (uX:Int) (ar:Int) (an:Int) (aj:List K9) (ak:List yY) (ah:List yY):exec xR 1000 (.code (g9 (d8 Tryz.prog 25) 4).1::.inLoop (g9 (d8 Tryz.prog 25) 4).1::(g9 (d8 Tryz.prog 25) 4).2) (KY v3 v4 va uX ar an aj ak ah) =
  cond (decide (uX<va)) (.f7 (List.length (List.map (rdV Y7) aj)<=6) (cond (s7 ((ar,an,()),List.map (rdV Y7) aj,ak,ah,()) uX) (.f7 ((0:Int)<=uX/\uX<(↑(List.length aj):Int)) (cond (decide ((↑(List.length v4):Int)<(↑(List.length (Prod.fst (Prod.snd (Prod.fst (Prod.snd (List.getD aj (Int.toNat uX) (false,(1,[],[]),((0:Int),[],()),((0:Int),[],()),((0:Int),[],()),()))))))):Int))) (.f7 (r9 IntKind.i64 (uX+(1:Int))) (.ctL (g9 (d8 Tryz.prog 25) 4) (St.mk [(0,AV.ptr 2000000 []),(3,AV.val U8 v3),(4,AV.val L8 (Prod.fst (Prod.snd (Prod.fst (Prod.snd (List.getD aj (Int.toNat uX) (false,(1,[],[]),((0:Int),[],()),((0:Int),[],()),((0:Int),[],()),()))))))),(18,AV.val e8 va),(19,AV.val e8 (uX+(1:Int)))] [(2000000,i7.var Z9 ((ar,an,()),List.set aj (Int.toNat uX) (Prod.fst (List.getD aj (Int.toNat uX) (false,(1,[],[]),((0:Int),[],()),((0:Int),[],()),((0:Int),[],()),())),(0,Prod.fst (Prod.snd (Prod.fst (Prod.snd (List.getD aj (Int.toNat uX) (false,(1,[],[]),((0:Int),[],()),((0:Int),[],()),((0:Int),[],()),()))))),[]),Prod.snd (Prod.snd (List.getD aj (Int.toNat uX) (false,(1,[],[]),((0:Int),[],()),((0:Int),[],()),((0:Int),[],()),())))),ak,ah,()))]))) (.f7 (r9 IntKind.i64 (uX+(1:Int))) (.ctL (g9 (d8 Tryz.prog 25) 4) (St.mk [(0,AV.ptr 2000000 []),(3,AV.val U8 v3),(4,AV.val L8 v4),(18,AV.val e8 va),(19,AV.val e8 (uX+(1:Int)))] [(2000000,i7.var Z9 ((ar,an,()),aj,ak,ah,()))]))))) (.f7 ((0:Int)<=uX) (.f7 (r9 IntKind.i64 (uX+(1:Int))) (.ctL (g9 (d8 Tryz.prog 25) 4) (St.mk [(0,AV.ptr 2000000 []),(3,AV.val U8 (bOr IntKind.u8 v3 (T7 IntKind.u8 an (IntKind.wrap IntKind.u8 ((1:Int)*(2:Int)^min (Int.toNat uX) (IntKind.bits IntKind.u8)))))),(4,AV.val L8 v4),(18,AV.val e8 va),(19,AV.val e8 (uX+(1:Int)))] [(2000000,i7.var Z9 ((ar,an,()),aj,ak,ah,()))])))))) (.f7 (True) (cond (decide (Prod.fst (Prod.snd (R8 (ar,an,()) v3 (0:Int)))≠(0:Int))) (.ret ((Prod.fst (Prod.snd (R8 (ar,an,()) v3 (0:Int))),((ar,an,()),aj,ak,ah,()),()))) (.ctL (g9 (d8 Tryz.prog 25) 16) (St.mk [(0,AV.ptr 2000000 []),(4,AV.val L8 v4),(7,AV.ptr 7 []),(67,AV.val e8 (↑(List.length aj):Int)),(68,AV.val e8 (0:Int))] [(7,i7.var View (Prod.fst (R8 (ar,an,()) v3 (0:Int)))),(2000000,i7.var Z9 ((ar,an,()),aj,ak,ah,()))])))):=by kernel_rfl
def LD (v4:List (Int×yY×Unit)) (vX:Int) (ve:Int) (cK:Int) (bp:Int) (ar:Int) (an:Int) (aj:List K9) (ak:List yY) (ah:List yY):St:=St.mk [(0,AV.ptr 2000000 []),(4,AV.val L8 v4),(7,AV.ptr 7 []),(67,AV.val e8 vX),(68,AV.val e8 ve)] [(7,i7.var View (cK,bp,())),(2000000,i7.var Z9 ((ar,an,()),aj,ak,ah,()))]
theorem b7v (v4:List (Int×yY×Unit)) (vX:Int) (ve:Int) (cK:Int) (bp:Int) (ar:Int) (an:Int) (aj:List K9) (ak:List yY) (ah:List yY):exec xR 1000 (.code (g9 (d8 Tryz.prog 25) 16).1::.inLoop (g9 (d8 Tryz.prog 25) 16).1::(g9 (d8 Tryz.prog 25) 16).2) (LD v4 vX ve cK bp ar an aj ak ah) =
  let q1:=(List.getD aj (Int.toNat ve) (false,(1,[],[]),((0:Int),[],()),((0:Int),[],()),((0:Int),[],()),())); let q2:=L8; let q0:=(Ty.pair Ty.bool (Ty.pair (Ty.B8 r8) (Ty.pair Q4 (Ty.pair (Ty.pair e8 (Ty.pair q2 Ty.unit)) (Ty.pair (Ty.pair e8 (Ty.pair q2 Ty.unit)) Ty.unit))))); let q3:=(↑(List.length (Prod.fst (Prod.snd (Prod.fst (Prod.snd q1))))):Int); let q4:=View; let q5:=(Ty.pair q4 (Ty.pair (Ty.d0 true q0) (Ty.pair (Ty.d0 true Ty.str) (Ty.pair (Ty.d0 true Ty.str) Ty.unit)))); cond (decide (ve<vX)) (.f7 ((0:Int)<=ve/\ve<(↑(List.length aj):Int)) (.f7 (List.length (List.map (rdV q0) aj)<=6) (cond (s7 ((ar,an,()),List.map (rdV q0) aj,ak,ah,()) ve) (.f7 ((0:Int)<=q3/\q3<=(↑(List.length v4):Int)/\(↑(List.length v4):Int)<=(↑(List.length v4):Int)) (.ctL (g9 (d8 Tryz.prog 25) 22) (St.mk [(0,AV.ptr 2000000 []),(4,AV.val q2 v4),(7,AV.ptr 7 []),(9,AV.val e8 ve),(10,AV.ptr 2000000 [Step.l8 1,Step.idx ve]),(11,AV.val e8 (0:Int)),(67,AV.val e8 vX),(68,AV.val e8 ve),(86,AV.val q2 (o5 q3 (↑(List.length v4):Int) v4)),(87,AV.val e8 (↑(List.length (o5 q3 (↑(List.length v4):Int) v4)):Int)),(88,AV.val e8 (0:Int))] [(7,i7.var q4 (cK,bp,())),(2000000,i7.var q5 ((ar,an,()),aj,ak,ah,()))]))) (.f7 (r9 IntKind.i64 (ve+(1:Int))) (.ctL (g9 (d8 Tryz.prog 25) 16) (St.mk [(0,AV.ptr 2000000 []),(4,AV.val q2 v4),(7,AV.ptr 7 []),(67,AV.val e8 vX),(68,AV.val e8 (ve+(1:Int)))] [(7,i7.var q4 (cK,bp,())),(2000000,i7.var q5 ((ar,an,()),List.set aj (Int.toNat ve) (Prod.fst q1,Prod.fst (Prod.snd q1),Prod.fst (Prod.snd (Prod.snd q1)),Prod.fst (Prod.snd (Prod.snd (Prod.snd q1))),((0:Int),[],()),Prod.snd (Prod.snd (Prod.snd (Prod.snd (Prod.snd q1))))),ak,ah,()))])))))) (.ret (((0:Int),((cK,bp,()),aj,[],ah,()),()))):=by kernel_rfl
def LF (v4:List (Int×yY×Unit)) (v9:Int) (aP:Int) (v11:Int) (vX:Int) (ve:Int) (yF:List (Int×yY×Unit)) (v87:Int) (wC:Int) (cK:Int) (bp:Int) (ar:Int) (an:Int) (aj:List K9) (ak:List yY) (ah:List yY):St:=St.mk [(0,AV.ptr 2000000 []),(4,AV.val L8 v4),(7,AV.ptr 7 []),(9,AV.val e8 v9),(10,AV.ptr 2000000 [Step.l8 1,Step.idx aP]),(11,AV.val e8 v11),(67,AV.val e8 vX),(68,AV.val e8 ve),(86,AV.val L8 yF),(87,AV.val e8 v87),(88,AV.val e8 wC)] [(7,i7.var View (cK,bp,())),(2000000,i7.var Z9 ((ar,an,()),aj,ak,ah,()))]
theorem b7u (v4:List (Int×yY×Unit)) (v9:Int) (aP:Int) (v11:Int) (vX:Int) (ve:Int) (yF:List (Int×yY×Unit)) (v87:Int) (wC:Int) (cK:Int) (bp:Int) (ar:Int) (an:Int) (aj:List K9) (ak:List yY) (ah:List yY):exec xR 1000 (.code (g9 (d8 Tryz.prog 25) 22).1::.inLoop (g9 (d8 Tryz.prog 25) 22).1::(g9 (d8 Tryz.prog 25) 22).2) (LF v4 v9 aP v11 vX ve yF v87 wC cK bp ar an aj ak ah) =
  let q3:=(false,(1,[],[]),((0:Int),[],()),((0:Int),[],()),((0:Int),[],()),()); let q1:=(List.set aj (Int.toNat aP) (Prod.fst (List.getD aj (Int.toNat aP) q3),(1,v4,[]),Prod.snd (Prod.snd (List.getD aj (Int.toNat aP) q3)))); let q0:=(List.getD q1 (Int.toNat aP) q3); let q4:=(Prod.fst (Prod.snd (Prod.fst (Prod.snd (Prod.snd q0))))); let q2:=(↑(List.length q4):Int); let q6:=L8; let q7:=View; let q5:=(Ty.pair q7 (Ty.pair (Ty.d0 true (Ty.pair Ty.bool (Ty.pair (Ty.B8 r8) (Ty.pair Q4 (Ty.pair (Ty.pair e8 (Ty.pair q6 Ty.unit)) (Ty.pair (Ty.pair e8 (Ty.pair q6 Ty.unit)) Ty.unit)))))) (Ty.pair (Ty.d0 true Ty.str) (Ty.pair (Ty.d0 true Ty.str) Ty.unit)))); let q8:=(2000000,i7.var q5 ((ar,an,()),aj,ak,ah,())); cond (decide (wC<v87)) (.f7 ((0:Int)<=wC/\wC<(↑(List.length yF):Int)) (cond (decide (Prod.fst (List.getD yF (Int.toNat wC) ((0:Int),[],()))=v9)) (.f7 (r9 IntKind.i64 (v11+(1:Int))) (.f7 (r9 IntKind.i64 (wC+(1:Int))) (.ctL (g9 (d8 Tryz.prog 25) 22) (St.mk [(0,AV.ptr 2000000 []),(4,AV.val q6 v4),(7,AV.ptr 7 []),(9,AV.val e8 v9),(10,AV.ptr 2000000 [Step.l8 1,Step.idx aP]),(11,AV.val e8 (v11+(1:Int))),(67,AV.val e8 vX),(68,AV.val e8 ve),(86,AV.val q6 yF),(87,AV.val e8 v87),(88,AV.val e8 (wC+(1:Int)))] [(7,i7.var q7 (cK,bp,())),q8])))) (.f7 (r9 IntKind.i64 (wC+(1:Int))) (.ctL (g9 (d8 Tryz.prog 25) 22) (St.mk [(0,AV.ptr 2000000 []),(4,AV.val q6 v4),(7,AV.ptr 7 []),(9,AV.val e8 v9),(10,AV.ptr 2000000 [Step.l8 1,Step.idx aP]),(11,AV.val e8 v11),(67,AV.val e8 vX),(68,AV.val e8 ve),(86,AV.val q6 yF),(87,AV.val e8 v87),(88,AV.val e8 (wC+(1:Int)))] [(7,i7.var q7 (cK,bp,())),q8]))))) (.f7 (List.length v4<=5864062014805) (.f7 (((0:Int)<=if q2<v11 then q2 else v11)/\(if q2<v11 then q2 else v11)<=q2/\q2<=q2) (.f7 (List.length (o5 (if q2<v11 then q2 else v11) q2 q4)<=1048576) (.f7 (r9 IntKind.i64 (ve+(1:Int))) (.ctL (g9 (d8 Tryz.prog 25) 16) (St.mk [(0,AV.ptr 2000000 []),(4,AV.val q6 v4),(7,AV.ptr 7 []),(67,AV.val e8 vX),(68,AV.val e8 (ve+(1:Int)))] [(7,i7.var q7 (cK,bp,())),(2000000,i7.var q5 ((ar,an,()),List.set (List.set (List.set q1 (Int.toNat aP) (Prod.fst q0,Prod.fst (Prod.snd q0),((0:Int),o5 (if q2<v11 then q2 else v11) q2 q4,()),Prod.snd (Prod.snd (Prod.snd q0)))) (Int.toNat aP) (Prod.fst (List.getD (List.set q1 (Int.toNat aP) (Prod.fst q0,Prod.fst (Prod.snd q0),((0:Int),o5 (if q2<v11 then q2 else v11) q2 q4,()),Prod.snd (Prod.snd (Prod.snd q0)))) (Int.toNat aP) q3),Prod.fst (Prod.snd (List.getD (List.set q1 (Int.toNat aP) (Prod.fst q0,Prod.fst (Prod.snd q0),((0:Int),o5 (if q2<v11 then q2 else v11) q2 q4,()),Prod.snd (Prod.snd (Prod.snd q0)))) (Int.toNat aP) q3)),Prod.fst (Prod.snd (Prod.snd (List.getD (List.set q1 (Int.toNat aP) (Prod.fst q0,Prod.fst (Prod.snd q0),((0:Int),o5 (if q2<v11 then q2 else v11) q2 q4,()),Prod.snd (Prod.snd (Prod.snd q0)))) (Int.toNat aP) q3))),((0:Int),[],()),Prod.snd (Prod.snd (Prod.snd (Prod.snd (List.getD (List.set q1 (Int.toNat aP) (Prod.fst q0,Prod.fst (Prod.snd q0),((0:Int),o5 (if q2<v11 then q2 else v11) q2 q4,()),Prod.snd (Prod.snd (Prod.snd q0)))) (Int.toNat aP) q3)))))) (Int.toNat aP) (Prod.fst (List.getD (List.set (List.set q1 (Int.toNat aP) (Prod.fst q0,Prod.fst (Prod.snd q0),((0:Int),o5 (if q2<v11 then q2 else v11) q2 q4,()),Prod.snd (Prod.snd (Prod.snd q0)))) (Int.toNat aP) (Prod.fst (List.getD (List.set q1 (Int.toNat aP) (Prod.fst q0,Prod.fst (Prod.snd q0),((0:Int),o5 (if q2<v11 then q2 else v11) q2 q4,()),Prod.snd (Prod.snd (Prod.snd q0)))) (Int.toNat aP) q3),Prod.fst (Prod.snd (List.getD (List.set q1 (Int.toNat aP) (Prod.fst q0,Prod.fst (Prod.snd q0),((0:Int),o5 (if q2<v11 then q2 else v11) q2 q4,()),Prod.snd (Prod.snd (Prod.snd q0)))) (Int.toNat aP) q3)),Prod.fst (Prod.snd (Prod.snd (List.getD (List.set q1 (Int.toNat aP) (Prod.fst q0,Prod.fst (Prod.snd q0),((0:Int),o5 (if q2<v11 then q2 else v11) q2 q4,()),Prod.snd (Prod.snd (Prod.snd q0)))) (Int.toNat aP) q3))),((0:Int),[],()),Prod.snd (Prod.snd (Prod.snd (Prod.snd (List.getD (List.set q1 (Int.toNat aP) (Prod.fst q0,Prod.fst (Prod.snd q0),((0:Int),o5 (if q2<v11 then q2 else v11) q2 q4,()),Prod.snd (Prod.snd (Prod.snd q0)))) (Int.toNat aP) q3)))))) (Int.toNat aP) q3),Prod.fst (Prod.snd (List.getD (List.set (List.set q1 (Int.toNat aP) (Prod.fst q0,Prod.fst (Prod.snd q0),((0:Int),o5 (if q2<v11 then q2 else v11) q2 q4,()),Prod.snd (Prod.snd (Prod.snd q0)))) (Int.toNat aP) (Prod.fst (List.getD (List.set q1 (Int.toNat aP) (Prod.fst q0,Prod.fst (Prod.snd q0),((0:Int),o5 (if q2<v11 then q2 else v11) q2 q4,()),Prod.snd (Prod.snd (Prod.snd q0)))) (Int.toNat aP) q3),Prod.fst (Prod.snd (List.getD (List.set q1 (Int.toNat aP) (Prod.fst q0,Prod.fst (Prod.snd q0),((0:Int),o5 (if q2<v11 then q2 else v11) q2 q4,()),Prod.snd (Prod.snd (Prod.snd q0)))) (Int.toNat aP) q3)),Prod.fst (Prod.snd (Prod.snd (List.getD (List.set q1 (Int.toNat aP) (Prod.fst q0,Prod.fst (Prod.snd q0),((0:Int),o5 (if q2<v11 then q2 else v11) q2 q4,()),Prod.snd (Prod.snd (Prod.snd q0)))) (Int.toNat aP) q3))),((0:Int),[],()),Prod.snd (Prod.snd (Prod.snd (Prod.snd (List.getD (List.set q1 (Int.toNat aP) (Prod.fst q0,Prod.fst (Prod.snd q0),((0:Int),o5 (if q2<v11 then q2 else v11) q2 q4,()),Prod.snd (Prod.snd (Prod.snd q0)))) (Int.toNat aP) q3)))))) (Int.toNat aP) q3)),Prod.fst (Prod.snd (Prod.snd (List.getD (List.set (List.set q1 (Int.toNat aP) (Prod.fst q0,Prod.fst (Prod.snd q0),((0:Int),o5 (if q2<v11 then q2 else v11) q2 q4,()),Prod.snd (Prod.snd (Prod.snd q0)))) (Int.toNat aP) (Prod.fst (List.getD (List.set q1 (Int.toNat aP) (Prod.fst q0,Prod.fst (Prod.snd q0),((0:Int),o5 (if q2<v11 then q2 else v11) q2 q4,()),Prod.snd (Prod.snd (Prod.snd q0)))) (Int.toNat aP) q3),Prod.fst (Prod.snd (List.getD (List.set q1 (Int.toNat aP) (Prod.fst q0,Prod.fst (Prod.snd q0),((0:Int),o5 (if q2<v11 then q2 else v11) q2 q4,()),Prod.snd (Prod.snd (Prod.snd q0)))) (Int.toNat aP) q3)),Prod.fst (Prod.snd (Prod.snd (List.getD (List.set q1 (Int.toNat aP) (Prod.fst q0,Prod.fst (Prod.snd q0),((0:Int),o5 (if q2<v11 then q2 else v11) q2 q4,()),Prod.snd (Prod.snd (Prod.snd q0)))) (Int.toNat aP) q3))),((0:Int),[],()),Prod.snd (Prod.snd (Prod.snd (Prod.snd (List.getD (List.set q1 (Int.toNat aP) (Prod.fst q0,Prod.fst (Prod.snd q0),((0:Int),o5 (if q2<v11 then q2 else v11) q2 q4,()),Prod.snd (Prod.snd (Prod.snd q0)))) (Int.toNat aP) q3)))))) (Int.toNat aP) q3))),Prod.fst (Prod.snd (Prod.snd (Prod.snd (List.getD (List.set (List.set q1 (Int.toNat aP) (Prod.fst q0,Prod.fst (Prod.snd q0),((0:Int),o5 (if q2<v11 then q2 else v11) q2 q4,()),Prod.snd (Prod.snd (Prod.snd q0)))) (Int.toNat aP) (Prod.fst (List.getD (List.set q1 (Int.toNat aP) (Prod.fst q0,Prod.fst (Prod.snd q0),((0:Int),o5 (if q2<v11 then q2 else v11) q2 q4,()),Prod.snd (Prod.snd (Prod.snd q0)))) (Int.toNat aP) q3),Prod.fst (Prod.snd (List.getD (List.set q1 (Int.toNat aP) (Prod.fst q0,Prod.fst (Prod.snd q0),((0:Int),o5 (if q2<v11 then q2 else v11) q2 q4,()),Prod.snd (Prod.snd (Prod.snd q0)))) (Int.toNat aP) q3)),Prod.fst (Prod.snd (Prod.snd (List.getD (List.set q1 (Int.toNat aP) (Prod.fst q0,Prod.fst (Prod.snd q0),((0:Int),o5 (if q2<v11 then q2 else v11) q2 q4,()),Prod.snd (Prod.snd (Prod.snd q0)))) (Int.toNat aP) q3))),((0:Int),[],()),Prod.snd (Prod.snd (Prod.snd (Prod.snd (List.getD (List.set q1 (Int.toNat aP) (Prod.fst q0,Prod.fst (Prod.snd q0),((0:Int),o5 (if q2<v11 then q2 else v11) q2 q4,()),Prod.snd (Prod.snd (Prod.snd q0)))) (Int.toNat aP) q3)))))) (Int.toNat aP) q3)))),((0:Int),[],()),Prod.snd (Prod.snd (Prod.snd (Prod.snd (Prod.snd (List.getD (List.set (List.set q1 (Int.toNat aP) (Prod.fst q0,Prod.fst (Prod.snd q0),((0:Int),o5 (if q2<v11 then q2 else v11) q2 q4,()),Prod.snd (Prod.snd (Prod.snd q0)))) (Int.toNat aP) (Prod.fst (List.getD (List.set q1 (Int.toNat aP) (Prod.fst q0,Prod.fst (Prod.snd q0),((0:Int),o5 (if q2<v11 then q2 else v11) q2 q4,()),Prod.snd (Prod.snd (Prod.snd q0)))) (Int.toNat aP) q3),Prod.fst (Prod.snd (List.getD (List.set q1 (Int.toNat aP) (Prod.fst q0,Prod.fst (Prod.snd q0),((0:Int),o5 (if q2<v11 then q2 else v11) q2 q4,()),Prod.snd (Prod.snd (Prod.snd q0)))) (Int.toNat aP) q3)),Prod.fst (Prod.snd (Prod.snd (List.getD (List.set q1 (Int.toNat aP) (Prod.fst q0,Prod.fst (Prod.snd q0),((0:Int),o5 (if q2<v11 then q2 else v11) q2 q4,()),Prod.snd (Prod.snd (Prod.snd q0)))) (Int.toNat aP) q3))),((0:Int),[],()),Prod.snd (Prod.snd (Prod.snd (Prod.snd (List.getD (List.set q1 (Int.toNat aP) (Prod.fst q0,Prod.fst (Prod.snd q0),((0:Int),o5 (if q2<v11 then q2 else v11) q2 q4,()),Prod.snd (Prod.snd (Prod.snd q0)))) (Int.toNat aP) q3)))))) (Int.toNat aP) q3)))))),ak,ah,()))])))))):=by kernel_rfl
theorem Kr {α:Type} {l:List α} {a:Nat} (h:a<=l.length):o5 (a:Int) (l.length:Int) l=l.drop a:=by
  unfold o5;rw [List.take_of_length_le (by rw [List.length_drop]; omega)];congr 1
theorem Wd (a b:Nat):(if (a:Int)<(b:Int) then (a:Int) else (b:Int))=((min b a:Nat):Int):=by split<;>omega
attribute [local irreducible] s7 R8 F3 in
theorem Uj:Nx.Valid Tryz.prog 25:=by
  refine p9.n9 CH rfl rfl Tryz.func25 (c:=d8 Tryz.prog 25) rfl rfl CI rfl ?_;rintro ⟨⟨⟨(v0:Int),(v1:Int),⟨⟩⟩,(al0:List K9),(od:List yY),(wy:List yY),⟨⟩⟩,⟨⟩⟩ ⟨he,(aZ:zk (vV ((v0,v1,()),al0,od,wy,()))),(bC:¬ (R7 (vV ((v0,v1,()),al0,od,wy,()))).2.1≠0)⟩ -
  have he:al0=(al0.map rdP).map toM:=congrArg (λ m:El=>m.2.1) he;obtain ⟨w,hw⟩:∃ w:f9,w=vV ((v0,v1,()),al0,od,wy,()):=⟨_,rfl⟩;rw [<- hw] at aZ bC;have jJ:w.1=(v0,v1,()):=by rw [hw]
  have jI:w.2.1=al0.map rdP:=by rw [hw]
  have nz:∀ (al:List K9) (i:Nat),al.length=w.2.1.length->((al.map rdP).getD i j9).1=(w.2.1.getD i j9).1->∀ r,s7 ((v0,v1,()),al.map rdP,r) i=s7 w i:=λ al i h1 h2 r=>by
    have:=b6A (v:=(v0,v1,())) (al':=al.map rdP) (al:=w.2.1) (r:=w.2.2) (r':=r) (p:=(i:Int)) (by rw [List.length_map]; exact h1) h2;rw [this,show ((v0,v1,()),w.2.1,w.2.2)=w by rw [hw]]
  have mP:al0.length=w.2.1.length:=by rw [jI,List.length_map]
  have mU:wo w al0:=by
    have:=wo.start w;rw [jI,<- he] at this;exact this
  have dZ:=QA (w:=w) aZ.Vw;refine j7 (n:=1000) CH CI ?_;refine i8 (c2H v0 v1 al0 od wy) ?_;have eJ:vr (F3 (vV ((v0,v1,()),al0,od,wy,())))=vr (F3 w):=by rw [hw]
  show Go.Ex.Reach xR Tryz.f25 ((0:Int),()) (vr (F3 (vV ((v0,v1,()),al0,od,wy,()))),()) (.code (g9 (d8 Tryz.prog 25) 4).1::.inLoop (g9 (d8 Tryz.prog 25) 4).1::(g9 (d8 Tryz.prog 25) 4).2) (KY (D7 w 0) (I4 w 0) (al0.length:Int) ((0:Nat):Int) v0 v1 al0 od wy);rw [eJ,mP];refine Reach.M8 CH CI (λ i:Nat×List K9=>KY (D7 w i.1) (I4 w i.1) (w.2.1.length:Int) (i.1:Int) v0 v1 i.2 od wy) (λ i=>i.1<=w.2.1.length/\wo w i.2)
    (λ i=>w.2.1.length - i.1) 1000 (λ _=>⟨u6 rfl,u6 rfl⟩) ?_ (0,al0) ⟨Nat.zero_le _,mU⟩
  rintro ⟨i,al⟩ ⟨k1,hi⟩ - ih;have k1:i<=w.2.1.length:=k1;have hi:wo w al:=hi;have ih:∀ al',i<w.2.1.length->wo w al'->_:=λ al' h h2=>ih (i+1,al') ⟨by show i+1<=w.2.1.length; omega,h2⟩ (by show w.2.1.length - (i+1)<w.2.1.length - i; omega);refine i8 (b8L ..) ?_;have e1:((i:Nat):Int)+1=((i+1:Nat):Int):=by omega
  have tj:=aZ.R5;have hA:=nz al i hi.len (by rw [Qe,hi.rd i]);simp only [j8,Tree.holds,e1,sL];refine ⟨λ c=>⟨by show (al.map rdP).length<=6; rw [List.length_map]; have:=hi.len; omega,λ _=>⟨λ a=>⟨by have:=hi.len; omega,λ _=>⟨λ b=>⟨G5.2 ⟨by omega,by omega⟩,λ _=>?_⟩,λ b=>⟨G5.2 ⟨by omega,by omega⟩,λ _=>?_⟩⟩⟩,λ a=>⟨by omega,λ _=>⟨G5.2 ⟨by omega,by omega⟩,λ _=>?_⟩⟩⟩⟩,λ c=>⟨λ d=>?_,λ d=>?_⟩⟩
  . have a':s7 w i=true:=(hA _).symm.trans a;have hl:(al.getD i dM).2.1.2.1=(w.2.1.getD i j9).2.1:=congrArg (λ x:o8=>x.2.1) (hi.rd i);have b':(I4 w i).length<(w.2.1.getD i j9).2.1.length:=by rw [<- hl]; exact_mod_cast b
    have:=ih _ (by omega) (hi.vC (n:=0) a');rw [show D7 w (i+1)=D7 w i from if_pos a',show I4 w (i+1)=(al.getD i dM).2.1.2.1 by rw [I4,if_pos ⟨a',b'⟩,hl]] at this;exact this
  . have a':s7 w i=true:=(hA _).symm.trans a;have hl:(al.getD i dM).2.1.2.1=(w.2.1.getD i j9).2.1:=congrArg (λ x:o8=>x.2.1) (hi.rd i);have b':¬ (I4 w i).length<(w.2.1.getD i j9).2.1.length:=by rw [<- hl]; intro h; exact b (by exact_mod_cast h)
    have:=ih al (by omega) hi;rw [show D7 w (i+1)=D7 w i from if_pos a',show I4 w (i+1)=I4 w i by rw [I4,if_neg (λ h=>b' h.2)]] at this;exact this
  . have a':s7 w i=false:=(hA _).symm.trans a;have:=ih al (by omega) hi;rw [show D7 w (i+1)=bOr .u8 (D7 w i) (T7 .u8 w.1.2.1 (IntKind.wrap .u8 (1*2^min i IntKind.u8.bits))) from if_neg (by rw [a']; decide),show I4 w (i+1)=I4 w i by rw [I4,if_neg (λ h=>by rw [a'] at h; cases h.1)],jJ] at this;exact this
  . obtain rfl:i=w.2.1.length:=by omega
    exact absurd (by rw [R7,jJ]; exact d) bC
  obtain rfl:i=w.2.1.length:=by omega
  obtain ⟨L,hL⟩:∃ L,L=I4 w w.2.1.length:=⟨_,rfl⟩;have hg:∀ i:Nat,s7 w i=true->i<w.2.1.length->(w.2.1.getD i j9).2.1.length<=L.length:=λ i h h2=>by rw [hL]; exact Ev h h2
  have tY:L.length<=5864062014805:=by rw [hL]; exact dZ _
  rw [<- hL];obtain ⟨z0,z1,hz⟩:∃ z0 z1,(R8 (v0,v1,()) (D7 w w.2.1.length) 0).1=(z0,z1,()):=⟨_,_,rfl⟩;have eM:F3 w=((z0,z1,()),w.2.1.mapIdx (vi w L),[],wy,()):=by
    unfold F3;rw [<- hL,R7,jJ,hz,hw]
  rw [eM];suffices go:Go.Ex.Reach xR Tryz.f25 ((0:Int),()) (vr ((z0,z1,()),w.2.1.mapIdx (vi w L),[],wy,()),()) (.code (g9 (d8 Tryz.prog 25) 16).1::.inLoop (g9 (d8 Tryz.prog 25) 16).1::(g9 (d8 Tryz.prog 25) 16).2) (LD L (w.2.1.length:Int) ((0:Nat):Int) z0 z1 v0 v1 al od wy) by
    rw [<- hi.len] at go;have h0:(R8 (v0,v1,()) (D7 w w.2.1.length) 0).1.1=z0:=by rw [hz]
    have h1:(R8 (v0,v1,()) (D7 w w.2.1.length) 0).1.2.1=z1:=by rw [hz]
    subst h0; subst h1;rw [hi.len] at go ⊢;exact go
  refine Reach.M8 CH CI (λ i:Nat×List K9=>LD L (w.2.1.length:Int) (i.1:Int) z0 z1 v0 v1 i.2 od wy) (λ i=>i.1<=w.2.1.length/\wK w L i.1 i.2)
    (λ i=>w.2.1.length - i.1) 1000 (λ _=>⟨u6 rfl,u6 rfl⟩) ?_ (0,al) ⟨Nat.zero_le _,hi.next L⟩
  clear ih;rintro ⟨k,al⟩ ⟨k1,hi⟩ - ih;have k1:k<=w.2.1.length:=k1;have hi:wK w L k al:=hi;have ih:∀ al',k<w.2.1.length->wK w L (k+1) al'->_:=λ al' h h2=>ih (k+1,al') ⟨by show k+1<=w.2.1.length; omega,h2⟩ (by show w.2.1.length - (k+1)<w.2.1.length - k; omega);refine i8 (b7v ..) ?_;have e2:((k:Nat):Int)+1=((k+1:Nat):Int):=by omega
  have hA:=nz al k hi.len (hi.act k);have hl:(al.getD k dM).2.1.2.1=(w.2.1.getD k j9).2.1:=congrArg (λ x:o8=>x.2.1) (hi.rd k (Nat.le_refl _));have ga:=hi.len;simp only [j8,Tree.holds,e2,sL];refine ⟨λ c=>⟨⟨by omega,by omega⟩,λ _=>⟨by show (al.map rdP).length<=6; rw [List.length_map]; omega,λ _=>⟨λ a=>⟨?_,λ _=>?_⟩,λ a=>⟨G5.2 ⟨by omega,by omega⟩,λ _=>?_⟩⟩⟩⟩,λ c=>?_⟩
  . rw [hl];have:=hg k ((hA _).symm.trans a) (by omega);omega
  . have a':s7 w k=true:=(hA _).symm.trans a;have hb:=hg k a' (by omega);rw [hl,Kr hb];obtain ⟨D,hD⟩:∃ D,D=L.drop (w.2.1.getD k j9).2.1.length:=⟨_,rfl⟩;have uT:D.length<=5864062014805:=by rw [hD,List.length_drop]; omega
    rw [<- hD];suffices go:Go.Ex.Reach xR Tryz.f25 ((0:Int),()) (vr ((z0,z1,()),w.2.1.mapIdx (vi w L),[],wy,()),()) (.code (g9 (d8 Tryz.prog 25) 22).1::.inLoop (g9 (d8 Tryz.prog 25) 22).1::(g9 (d8 Tryz.prog 25) 22).2) (LF L (k:Int) (k:Int) ((countP k (D.take 0):Nat):Int) (w.2.1.length:Int) (k:Int) D (D.length:Int) ((0:Nat):Int) z0 z1 v0 v1 al od wy) by exact go
    refine Reach.M8 CH CI (λ j:Nat=>LF L (k:Int) (k:Int) ((countP k (D.take j):Nat):Int) (w.2.1.length:Int) (k:Int) D (D.length:Int) (j:Int) z0 z1 v0 v1 al od wy) (λ j=>j<=D.length)
      (λ j=>D.length - j) 1000 (λ _=>⟨u6 rfl,u6 rfl⟩) ?_ 0 (Nat.zero_le _)
    rintro j k2 - ih2;have k2:j<=D.length:=k2;refine i8 (b7u ..) ?_;have e3:((j:Nat):Int)+1=((j+1:Nat):Int):=by omega
    have gO:countP k (D.take j)<=j:=Nat.le_trans countP_le (by rw [List.length_take]; omega);have hG:∀ y:K9,(al.set k y).getD k (false,(1,[],[]),(0,[],()),(0,[],()),(0,[],()),())=y:=λ y=>by
      rw [List.getD_eq_getElem?_getD,List.getElem?_set_self (by omega)]; rfl
    have hS:∀ y z:K9,(al.set k y).set k z=al.set k z:=λ y z=>List.set_set ..;have mQ:(al.getD k dM).2.2.1.2.1.length<=1048576:=by
      have:=aZ.late k;rw [<- hi.rd k (Nat.le_refl _)] at this;exact this
    simp only [j8,Tree.holds,e3,hG,hS,Wd,sL];refine ⟨λ d=>⟨by omega,λ _=>⟨λ e=>⟨G5.2 ⟨by omega,by omega⟩,λ _=>⟨G5.2 ⟨by omega,by omega⟩,λ _=>?_⟩⟩,λ e=>⟨G5.2 ⟨by omega,by omega⟩,λ _=>?_⟩⟩⟩,λ d=>?_⟩
    . have:=ih2 (j+1) (by show j+1<=D.length; omega) (by show D.length - (j+1)<D.length - j; omega);rw [TH (show j<D.length by omega),if_pos e,Int.natCast_add] at this;exact this
    . have:=ih2 (j+1) (by show j+1<=D.length; omega) (by show D.length - (j+1)<D.length - j; omega);rw [TH (show j<D.length by omega),if_neg e,Nat.add_zero] at this;exact this
    . obtain rfl:j=D.length:=by omega
      have hr:=hi.rd k (Nat.le_refl _);simp only [dM] at mQ hr;refine ⟨tY,λ _=>⟨⟨by omega,by omega,Int.le_refl _⟩,λ _=>⟨?_,λ _=>⟨⟨by omega,by omega⟩,λ _=>?_⟩⟩⟩⟩
      . rw [Kr (Nat.min_le_right ..),List.length_drop]; omega
      . rw [Kr (Nat.min_le_right ..),List.take_length];have:=ih _ (by omega) hi.step;rw [show vi w L k (w.2.1.getD k j9)=((w.2.1.getD k j9).1,L,(0,(w.2.1.getD k j9).2.2.1.2.1.drop (min (countP k D) (w.2.1.getD k j9).2.2.1.2.1.length),()),(0,[],()),(0,[],()),()) from (if_pos a').trans (by rw [hD])] at this;rw [<- hr] at this;exact this
  . have a':s7 w k=false:=(hA _).symm.trans a;have:=ih _ (by omega) hi.step;rw [show vi w L k (w.2.1.getD k j9)=((w.2.1.getD k j9).1,(w.2.1.getD k j9).2.1,(w.2.1.getD k j9).2.2.1,(w.2.1.getD k j9).2.2.2.1,(0,[],()),()) from if_neg (by rw [a']; decide)] at this;have hs:=hi.same k (Nat.le_refl _) a';simp only [dM] at hs;rw [hs];exact this
  . obtain rfl:k=w.2.1.length:=by omega
    have:=hi.fin;subst this;rfl
end Go.Proofs.YtijlnmgondibnaaGreatDoor
