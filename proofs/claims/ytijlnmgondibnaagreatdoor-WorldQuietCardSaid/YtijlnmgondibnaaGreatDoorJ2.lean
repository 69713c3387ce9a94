import Derived.Test.YtijlnmgondibnaaGreatDoorJ1
import Derived.Test.YtijlnmgondibnaaGreatDoorProg
import Derived.Lib.Atoi
import Derived.Lib.ItoaMem
import Derived.Lib.IndexMore
import Derived.Shelf.Strconv.Itoa3
import Derived.Lib.ItoaLen
import Derived.Shelf.Strings.Split
import Derived.Lib.SlTrimSet
import Derived.Lib.Strings
import Derived.WalkKit
import Derived.Lib.Walk
import Derived.Shelf.RegionOpenPlain
import Derived.Shelf.Strings.Prefix
import Derived.Shelf.Strings.SlTrimAscii
import Derived.Shelf.Strconv.Atoi
import Derived.Lib.SmallJoins
import Derived.Shelf.Strings.Cut
set_option linter.unusedVariables false
set_option linter.unusedSimpArgs false
set_option linter.unusedSectionVars false
namespace Go.Proofs.YtijlnmgondibnaaGreatDoor
open Go.Ex
set_option maxRecDepth 100000
attribute [local irreducible] Go.Ex.exec
theorem TY:Ty.wb r8=24:=rfl
def Aj:o7:={ ps:=[.v (.d0 false r8)],rs:=[.d0 true r8],pre:=λ x=>List.length (α:=D4) x.1<=5864062014805,fn:=λ x=>x,out:=λ _=>() }
noncomputable def Ft:Env:={ P:=Tryz.prog,tt:=tt,C5:=[],res:=[Go.ResultVar.tmp 2],rs:=[Ty.d0 true r8],ps:=[PK.v L9],y9:=[],nt:=8 }
theorem Ng:w5 Ft:=x6 p9 trivial
theorem Nr:B0 Ft Tryz.f31:=⟨rfl,rfl⟩
theorem UK (x0:List (Int×yY×Unit)):exec Ft 1000 [.code (d8 Tryz.prog 31)] (s7 Aj.ps ((x0,()))) =
  .both (x0=[]) (.ret (([],()))) (.f7 ((0:Nat)+List.length x0<=140737488355328/\((0:Nat)+List.length x0)*Ty.wb r8<=140737488355328) (.ret (([]++x0,())))):=by kernel_rfl
theorem Kg:Aj.Valid Tryz.prog 31:=by
  refine o7.n8 Ng rfl rfl Tryz.func31 (c:=d8 Tryz.prog 31) rfl rfl Nr rfl ?_;rintro ⟨(l:List (D4)),⟨⟩⟩ hp -
  have hp:l.length<=5864062014805:=hp;refine j8 (n:=1000) Ng Nr ?_;refine i7 (UK l) ?_;simp only [j6,Tree.holds,TY,sL];refine ⟨λ h=>?_,by omega,λ _=>rfl⟩;show (([],()):List (D4)×Unit)=(l,());rw [show l=[] from h]
theorem Ua:Ty.wb .str=16:=rfl
def CN:o7:={ ps:=[.v (.d0 false .str)],rs:=[.d0 true .str],pre:=λ x=>List.length (α:=yY) x.1<=1048576,fn:=λ x=>x,out:=λ _=>() }
noncomputable def Fs:Env:={ P:=Tryz.prog,tt:=tt,C5:=[],res:=[Go.ResultVar.tmp 2],rs:=[Ty.d0 true Ty.str],ps:=[PK.v (Ty.d0 false Ty.str)],y9:=[],nt:=8 }
theorem No:w5 Fs:=x6 p9 trivial
theorem Ny:B0 Fs Tryz.f32:=⟨rfl,rfl⟩
theorem Uu (x0:List yY):exec Fs 1000 [.code (d8 Tryz.prog 32)] (s7 CN.ps ((x0,()))) =
  .both (x0=[]) (.ret (([],()))) (.f7 ((0:Nat)+List.length x0<=140737488355328/\((0:Nat)+List.length x0)*Ty.wb Ty.str<=140737488355328) (.ret (([]++x0,())))):=by kernel_rfl
theorem Sk:CN.Valid Tryz.prog 32:=by
  refine o7.n8 No rfl rfl Tryz.func32 (c:=d8 Tryz.prog 32) rfl rfl Ny rfl ?_;rintro ⟨(l:List yY),⟨⟩⟩ hp -
  have hp:l.length<=1048576:=hp;refine j8 (n:=1000) No Ny ?_;refine i7 (Uu l) ?_;simp only [j6,Tree.holds,Ua,sL];refine ⟨λ h=>?_,by omega,λ _=>rfl⟩;show (([],()):List yY×Unit)=(l,());rw [show l=[] from h]
abbrev L7:=Bool×(Nat×(List D4×List D4))×FrD×ToD×ToD×Unit
abbrev DR:=vr×List L7×List yY×List yY×Unit
def FV:o7:={ ps:=[.v (.d0 false .str)],rs:=[.d0 false .str],new:=true,pre:=CN.pre,fn:=λ x=>x,out:=λ _=>() }
theorem SK:FV.Valid Tryz.prog 32:=Sk.share (rs':=[.d0 false .str]) rfl rfl rfl
def PH (w:f8) (p:Int) (g:Int):Int:=if s5 w p=true then g else bOr .u8 g (T1 .u8 w.1.2.1 (IntKind.wrap .u8 (1*2^min p.toNat IntKind.u8.bits)))
def D5 (w:f8):Nat->Int
  | 0=>0
  | k+1=>PH w k (D5 w k)
def R0 (w:f8):vr×Int×Unit:=R2 w.1 (D5 w w.2.1.length) 0
def OH:o7:={ ps:=[.rd K8],rs:=[e8],pre:=λ x=>List.length (α:=n7) (x.1:f8).2.1<=6/\(R0 x.1).2.1≠0,fn:=λ x=>((R0 x.1).2.1,()),out:=λ _=>() }
noncomputable def BC:Env:={ P:=Tryz.prog,tt:=ttW,C5:=[(47,ym),(53,Be),(31,Aj),(32,FV)],res:=[Go.ResultVar.tmp 2],rs:=[Ty.int IntKind.i64],ps:=[PK.rd K8],y9:=[(4,[(0,none),(3,none),(4,none),(18,none),(19,none)]),(16,[(0,none),(4,none),(7,none),(67,none),(68,none)]),(22,[(0,none),(4,none),(7,none),(9,none),(10,none),(11,none),(67,none),(68,none),(86,none),(87,none),(88,none)]),(998014,[(4,some L9)])],nt:=139 }
theorem Ko:w5 BC:=x6 MA ⟨BV,Tg,Kg,SK,trivial⟩
theorem Kx:B0 BC Tryz.f25:=⟨rfl,rfl⟩
theorem Zq (ai:Int) (af:Int) (ab:List n7) (ae:List yY) (aa:List yY):exec BC 1000 [.code (d8 Tryz.prog 25)] (s7 OH.ps ((((ai,af,()),ab,ae,aa,()),()))) =
  .ctL (g8 (d8 Tryz.prog 25) 4) (St.mk [(0,AV.N7 K8 ((ai,af,()),ab,ae,aa,())),(3,AV.val U8 (0:Int)),(4,AV.val L9 []),(18,AV.val e8 (↑(List.length ab):Int)),(19,AV.val e8 (0:Int))] []):=by kernel_rfl
def Kp (cx:Int) (bC:Int) (bX:List n7) (cf:List yY) (bG:List yY) (v3:Int) (v4:List (Int×yY×Unit)) (uG:Int) (uC:Int):St:=St.mk [(0,AV.N7 K8 ((cx,bC,()),bX,cf,bG,())),(3,AV.val U8 v3),(4,AV.val L9 v4),(18,AV.val e8 uG),(19,AV.val e8 uC)] []
theorem b8J (cx:Int) (bC:Int) (bX:List n7) (cf:List yY) (bG:List yY) (v3:Int) (v4:List (Int×yY×Unit)) (uG:Int) (uC:Int):exec BC 1000 (.code (g8 (d8 Tryz.prog 25) 4).1::.inLoop (g8 (d8 Tryz.prog 25) 4).1::(g8 (d8 Tryz.prog 25) 4).2) (Kp cx bC bX cf bG v3 v4 uG uC) =
  cond (decide (uC<uG)) (.f7 (List.length bX<=6) (cond (s5 ((cx,bC,()),bX,cf,bG,()) uC) (.f7 ((0:Int)<=uC/\uC<(↑(List.length bX):Int)) (cond (decide ((↑(List.length v4):Int)<(↑(List.length (Prod.fst (Prod.snd (List.getD bX (Int.toNat uC) (false,[],((0:Int),[],()),((0:Int),[],()),((0:Int),[],()),()))))):Int))) (.f7 (r7 IntKind.i64 (uC+(1:Int))) (.ctL (g8 (d8 Tryz.prog 25) 4) (St.mk [(0,AV.N7 K8 ((cx,bC,()),bX,cf,bG,())),(3,AV.val U8 v3),(4,AV.val L9 (Prod.fst (Prod.snd (List.getD bX (Int.toNat uC) (false,[],((0:Int),[],()),((0:Int),[],()),((0:Int),[],()),()))))),(18,AV.val e8 uG),(19,AV.val e8 (uC+(1:Int)))] []))) (.f7 (r7 IntKind.i64 (uC+(1:Int))) (.ctL (g8 (d8 Tryz.prog 25) 4) (St.mk [(0,AV.N7 K8 ((cx,bC,()),bX,cf,bG,())),(3,AV.val U8 v3),(4,AV.val L9 v4),(18,AV.val e8 uG),(19,AV.val e8 (uC+(1:Int)))] []))))) (.f7 ((0:Int)<=uC) (.f7 (r7 IntKind.i64 (uC+(1:Int))) (.ctL (g8 (d8 Tryz.prog 25) 4) (St.mk [(0,AV.N7 K8 ((cx,bC,()),bX,cf,bG,())),(3,AV.val U8 (bOr IntKind.u8 v3 (T1 IntKind.u8 bC (IntKind.wrap IntKind.u8 ((1:Int)*(2:Int)^min (Int.toNat uC) (IntKind.bits IntKind.u8)))))),(4,AV.val L9 v4),(18,AV.val e8 uG),(19,AV.val e8 (uC+(1:Int)))] [])))))) (.f7 (True) (cond (decide (Prod.fst (Prod.snd (R2 (cx,bC,()) v3 (0:Int)))≠(0:Int))) (.ret ((Prod.fst (Prod.snd (R2 (cx,bC,()) v3 (0:Int))),()))) (.ctL (g8 (d8 Tryz.prog 25) 16) (St.mk [(0,AV.N7 K8 ((cx,bC,()),bX,cf,bG,())),(4,AV.val L9 v4),(7,AV.ptr 7 []),(67,AV.val e8 (↑(List.length bX):Int)),(68,AV.val e8 (0:Int))] [(7,g9.var View (Prod.fst (R2 (cx,bC,()) v3 (0:Int))))])))):=by kernel_rfl
theorem b2z:OH.Valid Tryz.prog 25:=by
  refine o7.n8 Ko rfl rfl Tryz.func25 (c:=d8 Tryz.prog 25) rfl rfl Kx rfl ?_;rintro ⟨⟨⟨(v0:Int),(v1:Int),⟨⟩⟩,(al:List n7),(od:List yY),(wy:List yY),⟨⟩⟩,⟨⟩⟩ ⟨(hp:al.length<=6),(bE:(R0 ((v0,v1,()),al,od,wy,())).2.1≠0)⟩ -
  refine j8 (n:=1000) Ko Kx ?_;refine i7 (Zq v0 v1 al od wy) ?_;show Go.Ex.Reach BC Tryz.f25 ((R0 ((v0,v1,()),al,od,wy,())).2.1,()) () (.code (g8 (d8 Tryz.prog 25) 4).1::.inLoop (g8 (d8 Tryz.prog 25) 4).1::(g8 (d8 Tryz.prog 25) 4).2) (Kp v0 v1 al od wy (D5 ((v0,v1,()),al,od,wy,()) 0) [] (al.length:Int) ((0:Nat):Int));refine Reach.M0 Ko Kx (λ i:Nat×List D4=>Kp v0 v1 al od wy (D5 ((v0,v1,()),al,od,wy,()) i.1) i.2 (al.length:Int) (i.1:Int)) (λ i=>i.1<=al.length)
    (λ i=>al.length - i.1) 1000 (λ _=>⟨s6 rfl,s6 rfl⟩) ?_ (0,[]) (Nat.zero_le _)
  rintro ⟨i,l⟩ k1 - ih;have k1:i<=al.length:=k1;have ih:∀ l',i<al.length->_:=λ l' h=>ih (i+1,l') (by show i+1<=al.length; omega) (by show al.length - (i+1)<al.length - i; omega);refine i7 (b8J ..) ?_;have e1:((i:Nat):Int)+1=((i+1:Nat):Int):=by omega
  simp only [j6,Tree.holds,e1,sL];refine ⟨λ c=>⟨hp,λ _=>⟨λ a=>⟨by omega,λ _=>⟨λ b=>⟨by omega,λ _=>?_⟩,λ b=>⟨by omega,λ _=>?_⟩⟩⟩,λ a=>⟨by omega,λ _=>⟨by omega,λ _=>?_⟩⟩⟩⟩,λ c=>⟨λ d=>?_,λ d=>?_⟩⟩
  . have:=ih (al.getD i j7).2.1 (by omega);rw [show D5 ((v0,v1,()),al,od,wy,()) (i+1)=D5 ((v0,v1,()),al,od,wy,()) i from if_pos a] at this;exact this
  . have:=ih l (by omega);rw [show D5 ((v0,v1,()),al,od,wy,()) (i+1)=D5 ((v0,v1,()),al,od,wy,()) i from if_pos a] at this;exact this
  . have:=ih l (by omega);rw [show D5 ((v0,v1,()),al,od,wy,()) (i+1)=bOr .u8 (D5 ((v0,v1,()),al,od,wy,()) i) (T1 .u8 v1 (IntKind.wrap .u8 (1*2^min i IntKind.u8.bits))) from if_neg (by simpa using a)] at this;exact this
  . obtain rfl:i=al.length:=by omega
    rfl
  . obtain rfl:i=al.length:=by omega
    exact absurd (show (R2 (v0,v1,()) (D5 ((v0,v1,()),al,od,wy,()) al.length) 0).2.1=0 by simpa using d) bE
def CO:o7:={ ps:=[.rd K8],rs:=[e8],pre:=λ _=>True,fn:=λ x=>((List.length (α:=yY) (x.1:f8).2.2.2.1:Int),()),out:=λ _=>() }
noncomputable def FG:Env:={ P:=Tryz.prog,tt:=tt,C5:=[],res:=[Go.ResultVar.tmp 2],rs:=[Ty.int IntKind.i64],ps:=[PK.rd K8],y9:=[],nt:=8 }
theorem Ov:w5 FG:=x6 p9 trivial
theorem OU:B0 FG Tryz.f17:=⟨rfl,rfl⟩
theorem Vz (ai:Int) (af:Int) (ab:List n7) (ae:List yY) (aa:List yY):exec FG 1000 [.code (d8 Tryz.prog 17)] (s7 CO.ps ((((ai,af,()),ab,ae,aa,()),()))) =
  .ret (((↑(List.length aa):Int),())):=by kernel_rfl
theorem Sl:CO.Valid Tryz.prog 17:=by
  refine o7.n8 Ov rfl rfl Tryz.func17 (c:=d8 Tryz.prog 17) rfl rfl OU rfl ?_;rintro ⟨⟨⟨(v0:Int),(v1:Int),⟨⟩⟩,(al:List n7),(od:List yY),(wy:List yY),⟨⟩⟩,⟨⟩⟩ - -
  refine j8 (n:=1000) Ov OU ?_;refine i7 (Vz v0 v1 al od wy) ?_;rfl
def R8 (w:f8) (p:Int):List D4:=(w.2.1.getD p.toNat j7).2.1
def I5 (w:f8) (p:Int):FrD:=(w.2.1.getD p.toNat j7).2.2.1
theorem Bz {v:vr} {al:List n7} {r:List yY×List yY×Unit} {p:Int} (a:¬ known (v,al,r) p≠0):0<=p/\p<(al.length:Int):=by
  unfold known at a;split at a
  . rename_i hb;have:=T8.1 hb;simp only at this; omega
  . exact absurd (by decide) a
def V0 (w:f8) (p:Int):List D4×Int×Unit:=if known w p≠0 then ([],known w p,()) else (R8 w p,0,())
def As:o7:={ ps:=[.rd K8,.v e8],rs:=[.d0 true r8,e8],pre:=λ x=>List.length (α:=n7) (x.1:f8).2.1<=6/\List.length (α:=D4) (R8 x.1 x.2.1)<=5864062014805,fn:=λ x=>V0 x.1 x.2.1,out:=λ _=>() }
noncomputable def FC:Env:={ P:=Tryz.prog,tt:=tt,C5:=[(49,yy),(31,Aj)],res:=[Go.ResultVar.tmp 4,Go.ResultVar.tmp 5],rs:=[Ty.d0 true r8,Ty.int IntKind.i64],ps:=[PK.rd K8,PK.v e8],y9:=[],nt:=22 }
theorem On:w5 FC:=x6 p9 ⟨Cd,Kg,trivial⟩
theorem OP:B0 FC Tryz.f19:=⟨rfl,rfl⟩
theorem Vv (ai:Int) (af:Int) (ab:List n7) (ae:List yY) (aa:List yY) (x1:Int):exec FC 1000 [.code (d8 Tryz.prog 19)] (s7 As.ps ((((ai,af,()),ab,ae,aa,()),x1,()))) =
  .f7 (List.length ab<=6) (cond (decide (known ((ai,af,()),ab,ae,aa,()) x1≠(0:Int))) (.ret (([],known ((ai,af,()),ab,ae,aa,()) x1,()))) (.f7 ((0:Int)<=x1/\x1<(↑(List.length ab):Int)) (.f7 (List.length (Prod.fst (Prod.snd (List.getD ab (Int.toNat x1) (false,[],((0:Int),[],()),((0:Int),[],()),((0:Int),[],()),()))))<=5864062014805) (.ret ((Prod.fst (Prod.snd (List.getD ab (Int.toNat x1) (false,[],((0:Int),[],()),((0:Int),[],()),((0:Int),[],()),()))),(0:Int),())))))):=by kernel_rfl
theorem Kj:As.Valid Tryz.prog 19:=by
  refine o7.n8 On rfl rfl Tryz.func19 (c:=d8 Tryz.prog 19) rfl rfl OP rfl ?_;rintro ⟨⟨⟨(v0:Int),(v1:Int),⟨⟩⟩,(al:List n7),(od:List yY),(wy:List yY),⟨⟩⟩,(p:Int),⟨⟩⟩ ⟨(hp:al.length<=6),(hl:(R8 ((v0,v1,()),al,od,wy,()) p).length<=5864062014805)⟩ -
  refine j8 (n:=1000) On OP ?_;refine i7 (Vv v0 v1 al od wy p) ?_;simp only [j6,Tree.holds,sL];refine ⟨hp,λ _=>⟨λ a=>?_,λ a=>⟨Bz a,λ _=>⟨hl,λ _=>?_⟩⟩⟩⟩
  . show (([],_,()):List D4×Int×Unit)=V0 ((v0,v1,()),al,od,wy,()) p;exact (if_pos a).symm
  . show ((_,0,()):List D4×Int×Unit)=V0 ((v0,v1,()),al,od,wy,()) p;exact (if_neg a).symm
def xd (w:f8) (p:Int):List yY×Int×Unit:=if known w p≠0 then ([],known w p,()) else ((I5 w p).2.1,0,())
def Gd:o7:={ ps:=[.rd K8,.v e8],rs:=[.d0 true .str,e8],pre:=λ x=>List.length (α:=n7) (x.1:f8).2.1<=6/\List.length (α:=yY) (I5 x.1 x.2.1).2.1<=1048576,fn:=λ x=>xd x.1 x.2.1,out:=λ _=>() }
noncomputable def GV:Env:={ P:=Tryz.prog,tt:=tt,C5:=[(49,yy),(32,CN)],res:=[Go.ResultVar.tmp 4,Go.ResultVar.tmp 5],rs:=[Ty.d0 true Ty.str,Ty.int IntKind.i64],ps:=[PK.rd K8,PK.v e8],y9:=[],nt:=23 }
theorem QV:w5 GV:=x6 p9 ⟨Cd,Sk,trivial⟩
theorem QE:B0 GV Tryz.f20:=⟨rfl,rfl⟩
theorem XA (ai:Int) (af:Int) (ab:List n7) (ae:List yY) (aa:List yY) (x1:Int):exec GV 1000 [.code (d8 Tryz.prog 20)] (s7 Gd.ps ((((ai,af,()),ab,ae,aa,()),x1,()))) =
  .f7 (List.length ab<=6) (cond (decide (known ((ai,af,()),ab,ae,aa,()) x1≠(0:Int))) (.ret (([],known ((ai,af,()),ab,ae,aa,()) x1,()))) (.f7 ((0:Int)<=x1/\x1<(↑(List.length ab):Int)) (.f7 (List.length (Prod.fst (Prod.snd (Prod.fst (Prod.snd (Prod.snd (List.getD ab (Int.toNat x1) (false,[],((0:Int),[],()),((0:Int),[],()),((0:Int),[],()),())))))))<=1048576) (.ret ((Prod.fst (Prod.snd (Prod.fst (Prod.snd (Prod.snd (List.getD ab (Int.toNat x1) (false,[],((0:Int),[],()),((0:Int),[],()),((0:Int),[],()),())))))),(0:Int),())))))):=by kernel_rfl
theorem b8h:Gd.Valid Tryz.prog 20:=by
  refine o7.n8 QV rfl rfl Tryz.func20 (c:=d8 Tryz.prog 20) rfl rfl QE rfl ?_;rintro ⟨⟨⟨(v0:Int),(v1:Int),⟨⟩⟩,(al:List n7),(od:List yY),(wy:List yY),⟨⟩⟩,(p:Int),⟨⟩⟩ ⟨(hp:al.length<=6),(hl:(I5 ((v0,v1,()),al,od,wy,()) p).2.1.length<=1048576)⟩ -
  refine j8 (n:=1000) QV QE ?_;refine i7 (XA v0 v1 al od wy p) ?_;simp only [j6,Tree.holds,sL];refine ⟨hp,λ _=>⟨λ a=>?_,λ a=>⟨Bz a,λ _=>⟨hl,λ _=>?_⟩⟩⟩⟩
  . show (([],_,()):List yY×Int×Unit)=xd ((v0,v1,()),al,od,wy,()) p;exact (if_pos a).symm
  . show ((_,0,()):List yY×Int×Unit)=xd ((v0,v1,()),al,od,wy,()) p;exact (if_neg a).symm
theorem Ey {v:vr} {al:List n7} {r:List yY×List yY×Unit} {p:Int} (a:¬ J9 (v,al,r) p≠0):0<=p/\p<(al.length:Int):=by
  unfold J9 at a;by_cases h:known (v,al,r) p≠0
  . rw [if_pos h] at a; exact absurd h a
  . exact Bz h
theorem WA {s:vy} {x:yY} (h:¬ (K3 s x).2.1≠0):(0<=(K3 s x).1.1/\(K3 s x).1.1<=16777215)/\(K3 s x).1.2.1.length<=17:=by
  unfold K3 at h ⊢;by_cases h1:H8 s≠0
  . rw [if_pos h1] at h ⊢; exact absurd h1 h
  rw [if_neg h1] at h ⊢;have aM:=Z7 (Decidable.not_not.1 h1);by_cases h2:E2 x=true
  . rw [if_pos h2] at h; exact absurd (by decide) h
  rw [if_neg h2] at h ⊢;by_cases h3:(s.2.1.length:Int)=16\/16777215<=s.1+s.2.1.length
  . rw [if_pos h3] at h; exact absurd (by decide) h
  rw [if_neg h3];refine ⟨aM.1,?_⟩;rw [List.length_append];have:=aM.2.1;simp only [List.length_cons,List.length_nil]; omega
def setFrom (w:f8) (p:Int) (f:FrD):f8 :=
  (w.1,w.2.1.set p.toNat ((w.2.1.getD p.toNat j7).1,(w.2.1.getD p.toNat j7).2.1,f,(w.2.1.getD p.toNat j7).2.2.2),w.2.2)
def AI (w:f8) (p:Int) (t:yY) (r:FrD):f8:=J5 (setFrom w p r) 1 p (J8 (setFrom w p r)) (r.1+r.2.1.length - 1) t
def Q4 (w:f8) (p:Int) (t:yY):f8×Int :=
  if J9 w p≠0 then (w,J9 w p) else if (150:Int)<t.length then (w,2) else if (w.2.2.2.1.length:Int)=60 then (w,8)
  else if (K3 (I5 w p) t).2.1≠0 then (w,(K3 (I5 w p) t).2.1) else (AI w p t (K3 (I5 w p) t).1,0)
def CK:o7:={ ps:=[.rw r9,.v e8,.v .str],rs:=[e8],pre:=λ x=>List.length (α:=n7) (x.1:f8).2.1<=6,fn:=λ x=>((Q4 x.1 x.2.1 x.2.2.1).2,()),out:=λ x=>((Q4 x.1 x.2.1 x.2.2.1).1,()) }
noncomputable def FE:Env:={ P:=Tryz.prog,tt:=tt,C5:=[(41,Dg),(42,Lx),(43,zp),(44,yX)],res:=[Go.ResultVar.tmp 6],rs:=[Ty.int IntKind.i64],ps:=[PK.rw r9,PK.v e8,PK.v Ty.str],y9:=[],nt:=64 }
theorem Ot:w5 FE:=x6 p9 ⟨SP,c1c,EN,EE,trivial⟩
theorem OS:B0 FE Tryz.f15:=⟨rfl,rfl⟩
theorem Vx (ai:Int) (af:Int) (ab:List n7) (ae:List yY) (aa:List yY) (x1:Int) (x2:yY):exec FE 1000 [.code (d8 Tryz.prog 15)] (s7 CK.ps ((((ai,af,()),ab,ae,aa,()),x1,x2,()))) =
  .f7 (List.length ab<=6) (cond (decide (J9 ((ai,af,()),ab,ae,aa,()) x1≠(0:Int))) (.ret ((J9 ((ai,af,()),ab,ae,aa,()) x1,((ai,af,()),ab,ae,aa,()),()))) (cond (decide ((150:Int)<(↑(List.length x2):Int))) (.ret (((2:Int),((ai,af,()),ab,ae,aa,()),()))) (cond (decide ((↑(List.length aa):Int)=(60:Int))) (.ret (((8:Int),((ai,af,()),ab,ae,aa,()),()))) (.f7 ((0:Int)<=x1/\x1<(↑(List.length ab):Int)) (.f7 (True) (cond (decide (Prod.fst (Prod.snd (K3 (Prod.fst (Prod.snd (Prod.snd (List.getD ab (Int.toNat x1) (false,[],((0:Int),[],()),((0:Int),[],()),((0:Int),[],()),()))))) x2))≠(0:Int))) (.ret ((Prod.fst (Prod.snd (K3 (Prod.fst (Prod.snd (Prod.snd (List.getD ab (Int.toNat x1) (false,[],((0:Int),[],()),((0:Int),[],()),((0:Int),[],()),()))))) x2)),((ai,af,()),ab,ae,aa,()),()))) (.f7 ((0:Int)<=x1/\x1<(↑(List.length ab):Int)) (.f7 (True) (.f7 (r7 IntKind.i64 (Prod.fst (Prod.fst (K3 (Prod.fst (Prod.snd (Prod.snd (List.getD ab (Int.toNat x1) (false,[],((0:Int),[],()),((0:Int),[],()),((0:Int),[],()),()))))) x2))+(↑(List.length (Prod.fst (Prod.snd (Prod.fst (K3 (Prod.fst (Prod.snd (Prod.snd (List.getD ab (Int.toNat x1) (false,[],((0:Int),[],()),((0:Int),[],()),((0:Int),[],()),()))))) x2))))):Int))) (.f7 (r7 IntKind.i64 (Prod.fst (Prod.fst (K3 (Prod.fst (Prod.snd (Prod.snd (List.getD ab (Int.toNat x1) (false,[],((0:Int),[],()),((0:Int),[],()),((0:Int),[],()),()))))) x2))+(↑(List.length (Prod.fst (Prod.snd (Prod.fst (K3 (Prod.fst (Prod.snd (Prod.snd (List.getD ab (Int.toNat x1) (false,[],((0:Int),[],()),((0:Int),[],()),((0:Int),[],()),()))))) x2))))):Int) - (1:Int))) (.f7 (True) (.ret (((0:Int),J5 ((ai,af,()),List.set ab (Int.toNat x1) (Prod.fst (List.getD ab (Int.toNat x1) (false,[],((0:Int),[],()),((0:Int),[],()),((0:Int),[],()),())),Prod.fst (Prod.snd (List.getD ab (Int.toNat x1) (false,[],((0:Int),[],()),((0:Int),[],()),((0:Int),[],()),()))),Prod.fst (K3 (Prod.fst (Prod.snd (Prod.snd (List.getD ab (Int.toNat x1) (false,[],((0:Int),[],()),((0:Int),[],()),((0:Int),[],()),()))))) x2),Prod.snd (Prod.snd (Prod.snd (List.getD ab (Int.toNat x1) (false,[],((0:Int),[],()),((0:Int),[],()),((0:Int),[],()),()))))),ae,aa,()) (1:Int) x1 (J8 ((ai,af,()),List.set ab (Int.toNat x1) (Prod.fst (List.getD ab (Int.toNat x1) (false,[],((0:Int),[],()),((0:Int),[],()),((0:Int),[],()),())),Prod.fst (Prod.snd (List.getD ab (Int.toNat x1) (false,[],((0:Int),[],()),((0:Int),[],()),((0:Int),[],()),()))),Prod.fst (K3 (Prod.fst (Prod.snd (Prod.snd (List.getD ab (Int.toNat x1) (false,[],((0:Int),[],()),((0:Int),[],()),((0:Int),[],()),()))))) x2),Prod.snd (Prod.snd (Prod.snd (List.getD ab (Int.toNat x1) (false,[],((0:Int),[],()),((0:Int),[],()),((0:Int),[],()),()))))),ae,aa,())) (Prod.fst (Prod.fst (K3 (Prod.fst (Prod.snd (Prod.snd (List.getD ab (Int.toNat x1) (false,[],((0:Int),[],()),((0:Int),[],()),((0:Int),[],()),()))))) x2))+(↑(List.length (Prod.fst (Prod.snd (Prod.fst (K3 (Prod.fst (Prod.snd (Prod.snd (List.getD ab (Int.toNat x1) (false,[],((0:Int),[],()),((0:Int),[],()),((0:Int),[],()),()))))) x2))))):Int) - (1:Int)) x2,())))))))))))))):=by kernel_rfl
attribute [local irreducible] Q4 J5 K3 in
theorem Sh:CK.Valid Tryz.prog 15:=by
  refine o7.n8 Ot rfl rfl Tryz.func15 (c:=d8 Tryz.prog 15) rfl rfl OS rfl ?_;rintro ⟨⟨⟨(v0:Int),(v1:Int),⟨⟩⟩,(al:List n7),(od:List yY),(wy:List yY),⟨⟩⟩,(p:Int),(t:yY),⟨⟩⟩ (hp:al.length<=6) -
  refine j8 (n:=1000) Ot OS ?_;refine i7 (Vx v0 v1 al od wy p t) ?_;simp only [j6,Tree.holds,sL];obtain ⟨w,hw⟩:∃ w:f8,w=((v0,v1,()),al,od,wy,()):=⟨_,rfl⟩;have key:∀ r:f8×Int,Q4 ((v0,v1,()),al,od,wy,()) p t=r->(((r.2,r.1,()):Int×f8×Unit)=((Q4 ((v0,v1,()),al,od,wy,()) p t).2,(Q4 ((v0,v1,()),al,od,wy,()) p t).1,())):=by rintro r rfl; rfl
  have e1:=λ a=>(Q4.eq_1 ((v0,v1,()),al,od,wy,()) p t).trans (if_pos a);have e2:=λ a=>(Q4.eq_1 ((v0,v1,()),al,od,wy,()) p t).trans (if_neg a);refine ⟨hp,λ _=>⟨λ a=>key (_,_) (e1 a),λ a=>⟨λ b=>key (_,_) ((e2 a).trans (if_pos b)),λ b=>⟨λ c=>key (_,_) ((e2 a).trans ((if_neg b).trans (if_pos c))),
    λ c=>⟨Ey a,λ _=>⟨λ d=>key (_,_) ((e2 a).trans ((if_neg b).trans ((if_neg c).trans (if_pos d)))),λ d=>?_⟩⟩⟩⟩⟩⟩
  have hk:=WA (s:=I5 ((v0,v1,()),al,od,wy,()) p) (x:=t) d;simp only [I5] at hk;refine ⟨Ey a,λ _=>⟨?_,λ _=>⟨?_,λ _=>key (_,_) ((e2 a).trans ((if_neg b).trans ((if_neg c).trans (if_neg d))))⟩⟩⟩
  . simp only [j7] at hk; omega
  . simp only [j7] at hk; omega
def ttN:List (TypeId×TI):=(76,TI.mk r9 88)::(74,TI.mk (.d0 true wH) 24)::(85,TI.mk wH 128)::tt
theorem Ur:ttN.all (wY Tryz.prog)=true:=by kernel_rfl
def zq (n:Int):Int:=IntKind.wrap .u8 (IntKind.wrap .u8 (1*2^min n.toNat (IntKind.bits .u8)) - 1)
def CB (n:Int):Option f8×Int×Unit:=if H5 n 1 6=true then (some ((0,zq n,()),List.replicate n.toNat j7,[],[],()),0,()) else (none,1,())
def Fg:o7:={ ps:=[.v e8],rs:=[.box true none r9,e8],pre:=λ _=>True,fn:=λ x=>CB x.1,out:=λ _=>() }
noncomputable def FD:Env:={ P:=Tryz.prog,tt:=ttN,C5:=[(40,yW)],res:=[Go.ResultVar.tmp 2,Go.ResultVar.tmp 3],rs:=[Ty.box true none r9,Ty.int IntKind.i64],ps:=[PK.v e8],y9:=[],nt:=15 }
theorem Oo:w5 FD:=x6 Ur ⟨ED,trivial⟩
theorem OQ:B0 FD Tryz.f14:=⟨rfl,rfl⟩
theorem Vw (x0:Int):exec FD 1000 [.code (d8 Tryz.prog 14)] (s7 Fg.ps ((x0,()))) =
  .f7 (True) (cond (!H5 x0 (1:Int) (6:Int)) (.ret ((none,(1:Int),()))) (.f7 ((0:Int)<=x0) (.f7 ((0:Int)<=x0/\x0<=x0/\x0<=(140737488355328:Int)/\x0*(↑(Ty.wb wH):Int)<=(140737488355328:Int)) (.ret ((some (((0:Int),IntKind.wrap IntKind.u8 (IntKind.wrap IntKind.u8 ((1:Int)*(2:Int)^min (Int.toNat x0) (IntKind.bits IntKind.u8)) - (1:Int)),()),List.replicate (Int.toNat x0) (false,[],((0:Int),[],()),((0:Int),[],()),((0:Int),[],()),()),[],[],()),(0:Int),())))))):=by kernel_rfl
theorem Sd:Fg.Valid Tryz.prog 14:=by
  refine o7.n8 Oo rfl rfl Tryz.func14 (c:=d8 Tryz.prog 14) rfl rfl OQ rfl ?_;rintro ⟨(n:Int),⟨⟩⟩ - -
  refine j8 (n:=1000) Oo OQ ?_;refine i7 (Vw n) ?_;have hw:Ty.wb wH=128:=rfl;simp only [j6,Tree.holds,hw,sL];refine ⟨λ a=>?_,λ a=>?_⟩
  . show ((none,1,()):Option f8×Int×Unit)=CB n;exact (if_neg (by rw [a]; simp)).symm
  . have ha:=T8.1 a;refine ⟨by omega,λ _=>⟨⟨by omega,by omega,by omega⟩,λ _=>?_⟩⟩;show (_:Option f8×Int×Unit)=CB n;exact (if_pos a).symm
def M7 (p:Int) (l:List D4) (w:f8):Nat->f8
  | 0=>w
  | k+1=>J5 (M7 p l w k) 1 p (J8 (M7 p l w k)) (l.getD k (0,[],())).1 (l.getD k (0,[],())).2.1
theorem Ca {w:f8} {k f t s:Int} {x:yY}:(J5 w k f t s x).2.1=w.2.1/\(J5 w k f t s x).1=w.1/\(J5 w k f t s x).2.2.1=w.2.2.1:=by
  by_cases h:(T3 (k,f,t,w.1.1,s,[0,0,0,0,0,0],x,())).2.1=0/\(w.2.2.2.1.length:Int)<60
  . rw [Es h.1 h.2]; exact ⟨rfl,rfl,rfl⟩
  . rw [Cb h]; exact ⟨rfl,rfl,rfl⟩
theorem KM {p:Int} {l:List D4} {w:f8}:∀ k,(M7 p l w k).2.1=w.2.1/\(M7 p l w k).1=w.1/\(M7 p l w k).2.2.1=w.2.2.1
  | 0=>⟨rfl,rfl,rfl⟩
  | k+1=>by
    obtain ⟨h1,h2,h3⟩:=KM (p:=p) (l:=l) (w:=w) k;obtain ⟨g1,g2,g3⟩:=Ca (w:=M7 p l w k) (k:=1) (f:=p) (t:=J8 (M7 p l w k)) (s:=(l.getD k (0,[],())).1) (x:=(l.getD k (0,[],())).2.1);exact ⟨g1.trans h1,g2.trans h2,g3.trans h3⟩
def Cy (w:f8) (p:Int):f8:=J5 w 3 p (J8 w) (w.2.1.getD p.toNat j7).2.2.2.1.1 []
def xK (w:f8) (p:Int):List D4:=(wk (I5 w p) 4).1
def V5 (w:f8) (p:Int):f8×Int :=
  if J9 w p≠0 then (w,J9 w p) else (Cy (M7 p (xK w p) w (xK w p).length) p,0)
def Hh:o7:={ ps:=[.rw r9,.v e8],rs:=[e8],pre:=λ x=>List.length (α:=n7) (x.1:f8).2.1<=6,fn:=λ x=>((V5 x.1 x.2.1).2,()),out:=λ x=>((V5 x.1 x.2.1).1,()) }
noncomputable def Bj:Env:={ P:=Tryz.prog,tt:=tt,C5:=[(41,Dg),(54,HC),(43,zp),(44,yX)],res:=[Go.ResultVar.tmp 4],rs:=[Ty.int IntKind.i64],ps:=[PK.rw r9,PK.v e8],y9:=[(6,[(0,none),(1,none),(28,some (Ty.d0 true r8)),(29,none),(30,none)])],nt:=58 }
theorem JY:w5 Bj:=x6 p9 ⟨SP,b4s,EN,EE,trivial⟩
theorem Kc:B0 Bj Tryz.f26:=⟨rfl,rfl⟩
theorem XJ (ai:Int) (af:Int) (ab:List n7) (ae:List yY) (aa:List yY) (x1:Int):exec Bj 1000 [.code (d8 Tryz.prog 26)] (s7 Hh.ps ((((ai,af,()),ab,ae,aa,()),x1,()))) =
  .f7 (List.length ab<=6) (cond (decide (J9 ((ai,af,()),ab,ae,aa,()) x1≠(0:Int))) (.ret ((J9 ((ai,af,()),ab,ae,aa,()) x1,((ai,af,()),ab,ae,aa,()),()))) (.f7 ((0:Int)<=x1/\x1<(↑(List.length ab):Int)) (.f7 (True) (.ctL (g8 (d8 Tryz.prog 26) 6) (St.mk [(0,AV.ptr 2000000 []),(1,AV.val e8 x1),(28,AV.at_ 1000028 []),(29,AV.val e8 (↑(List.length (Prod.fst (wk (Prod.fst (Prod.snd (Prod.snd (List.getD ab (Int.toNat x1) (false,[],((0:Int),[],()),((0:Int),[],()),((0:Int),[],()),()))))) (4:Int)))):Int)),(30,AV.val e8 (0:Int))] [(1000028,g9.own (Ty.d0 true r8) (Prod.fst (wk (Prod.fst (Prod.snd (Prod.snd (List.getD ab (Int.toNat x1) (false,[],((0:Int),[],()),((0:Int),[],()),((0:Int),[],()),()))))) (4:Int)))),(2000000,g9.var r9 ((ai,af,()),ab,ae,aa,()))]))))):=by kernel_rfl
def JZ (v1:Int) (vY:Int) (v30:Int) (eB:List (Int×yY×Unit)) (au:Int) (an:Int) (aj:List n7) (ak:List yY) (ah:List yY):St:=St.mk [(0,AV.ptr 2000000 []),(1,AV.val e8 v1),(28,AV.at_ 1000028 []),(29,AV.val e8 vY),(30,AV.val e8 v30)] [(1000028,g9.own (Ty.d0 true r8) eB),(2000000,g9.var r9 ((au,an,()),aj,ak,ah,()))]
theorem Zp (v1:Int) (vY:Int) (v30:Int) (eB:List (Int×yY×Unit)) (au:Int) (an:Int) (aj:List n7) (ak:List yY) (ah:List yY):exec Bj 1000 (.code (g8 (d8 Tryz.prog 26) 6).1::.inLoop (g8 (d8 Tryz.prog 26) 6).1::(g8 (d8 Tryz.prog 26) 6).2) (JZ v1 vY v30 eB au an aj ak ah) =
  cond (decide (v30<vY)) (.f7 ((0:Int)<=v30/\v30<(↑(List.length eB):Int)) (.f7 (True) (.f7 (True) (.f7 (r7 IntKind.i64 (v30+(1:Int))) (.ctL (g8 (d8 Tryz.prog 26) 6) (St.mk [(0,AV.ptr 2000000 []),(1,AV.val e8 v1),(28,AV.at_ 1000028 []),(29,AV.val e8 vY),(30,AV.val e8 (v30+(1:Int)))] [(1000028,g9.own (Ty.d0 true r8) eB),(2000000,g9.var r9 (J5 ((au,an,()),aj,ak,ah,()) (1:Int) v1 (J8 ((au,an,()),aj,ak,ah,())) (Prod.fst (List.getD eB (Int.toNat v30) ((0:Int),[],()))) (Prod.fst (Prod.snd (List.getD eB (Int.toNat v30) ((0:Int),[],()))))))])))))) (.f7 (True) (.f7 ((0:Int)<=v1/\v1<(↑(List.length aj):Int)) (.f7 (True) (.ret (((0:Int),J5 ((au,an,()),aj,ak,ah,()) (3:Int) v1 (J8 ((au,an,()),aj,ak,ah,())) (Prod.fst (Prod.fst (Prod.snd (Prod.snd (Prod.snd (List.getD aj (Int.toNat v1) (false,[],((0:Int),[],()),((0:Int),[],()),((0:Int),[],()),()))))))) (Array.toList (ByteArray.data (ByteArray.mk #[]))),())))))):=by kernel_rfl
theorem c0C (s:vy) (m:Int):(wk s m).1.length<=16:=by
  unfold wk;by_cases h:H8 s≠0
  . rw [if_pos h]; exact Nat.zero_le _
  . rw [if_neg h];exact Nat.le_trans KL (Z7 (Decidable.not_not.1 h)).2.1
attribute [local irreducible] V5 J5 wk in
theorem b6k:Hh.Valid Tryz.prog 26:=by
  refine o7.n8 JY rfl rfl Tryz.func26 (c:=d8 Tryz.prog 26) rfl rfl Kc rfl ?_;rintro ⟨⟨⟨(v0:Int),(v1:Int),⟨⟩⟩,(al:List n7),(od:List yY),(wy:List yY),⟨⟩⟩,(p:Int),⟨⟩⟩ (hp:al.length<=6) -
  refine j8 (n:=1000) JY Kc ?_;refine i7 (XJ v0 v1 al od wy p) ?_;simp only [j6,Tree.holds,sL];have key:∀ r:f8×Int,V5 ((v0,v1,()),al,od,wy,()) p=r->(((r.2,r.1,()):Int×f8×Unit)=((V5 ((v0,v1,()),al,od,wy,()) p).2,(V5 ((v0,v1,()),al,od,wy,()) p).1,())):=by rintro r rfl; rfl
  have e1:=λ a=>(V5.eq_1 ((v0,v1,()),al,od,wy,()) p).trans (if_pos a);have e2:=λ a=>(V5.eq_1 ((v0,v1,()),al,od,wy,()) p).trans (if_neg a);refine ⟨hp,λ _=>⟨λ a=>key (_,_) (e1 a),λ a=>⟨Ey a,λ _=>?_⟩⟩⟩;obtain ⟨w,hw⟩:∃ w:f8,w=((v0,v1,()),al,od,wy,()):=⟨_,rfl⟩;obtain ⟨l,hl⟩:∃ l,l=xK ((v0,v1,()),al,od,wy,()) p:=⟨_,rfl⟩;have jQ:l.length<=16:=by rw [hl]; exact c0C _ _
  have e3:V5 ((v0,v1,()),al,od,wy,()) p=(Cy (M7 p l w l.length) p,0):=by rw [e2 a,hl,hw]
  suffices go:Go.Ex.Reach Bj Tryz.f26 ((0:Int),()) (Cy (M7 p l w l.length) p,()) (.code (g8 (d8 Tryz.prog 26) 6).1::.inLoop (g8 (d8 Tryz.prog 26) 6).1::(g8 (d8 Tryz.prog 26) 6).2) (JZ p (l.length:Int) ((0:Nat):Int) l (M7 p l w 0).1.1 (M7 p l w 0).1.2.1 (M7 p l w 0).2.1 (M7 p l w 0).2.2.1 (M7 p l w 0).2.2.2.1) by
    subst hw;subst hl;rw [e3];exact go
  refine Reach.M0 JY Kc (λ i:Nat=>JZ p (l.length:Int) (i:Int) l (M7 p l w i).1.1 (M7 p l w i).1.2.1 (M7 p l w i).2.1 (M7 p l w i).2.2.1 (M7 p l w i).2.2.2.1) (λ i=>i<=l.length)
    (λ i=>l.length - i) 1000 (λ _=>⟨s6 rfl,s6 rfl⟩) ?_ 0 (Nat.zero_le _)
  rintro i k1 - ih;have k1:i<=l.length:=k1;refine i7 (Zp ..) ?_;have e4:((i:Nat):Int)+1=((i+1:Nat):Int):=by omega
  simp only [j6,Tree.holds,e4,sL];refine ⟨λ c=>⟨⟨by omega,by omega⟩,λ _=>⟨by omega,λ _=>?_⟩⟩,λ c=>⟨?_,λ _=>?_⟩⟩
  . exact ih (i+1) (by show i+1<=l.length; omega) (by show l.length - (i+1)<l.length - i; omega)
  . rw [(KM i).1,hw]; exact Ey a
  . obtain rfl:i=l.length:=by omega
    rfl
end Go.Proofs.YtijlnmgondibnaaGreatDoor
namespace Go.Proofs.YtijlnmgondibnaaGreatDoor
set_option maxRecDepth 100000
def uW:Nat->Nat->yY
  | 0,_=>[]
  | f+1,u=>if u<10 then [UInt8.ofNat (48+u)] else uW f (u / 10)++[UInt8.ofNat (48+u % 10)]
theorem HH:∀ (f u:Nat),u<10^f->1<=f->Lib.decDigits u=uW f u
  | 0,_,_,h=>absurd h (by decide)
  | f+1,u,h,_=>by
    rw [Lib.decDigits,uW];by_cases c:u<10
    . rw [dif_pos c,if_pos c]
    . rw [dif_neg c,if_neg c];have hf:1<=f:=by
        rcases f with _|f
        . simp at h; omega
        . omega
      rw [HH f (u / 10) (by rw [Nat.pow_succ] at h; exact Nat.div_lt_of_lt_mul (by omega)) hf]
def C9 (n:Int):yY:=if n<0 then 45::uW 20 n.natAbs else uW 20 n.toNat
theorem WC {n:Int} (h0:-9223372036854775808<=n) (h1:n<=9223372036854775807):Lib.itoa n=C9 n:=by
  have h9:(10:Nat)^20=100000000000000000000:=by decide
  unfold Lib.itoa C9;by_cases c:n<0
  . rw [if_pos c,if_pos c,HH 20 n.natAbs (by omega) (by decide)]
  . rw [if_neg c,if_neg c,HH 20 n.toNat (by omega) (by decide)]
theorem Jq {d:Nat} (h:d<10):(UInt8.ofNat (48+d)).toNat=48+d:=by
  rw [UInt8.toNat_ofNat']; omega
theorem JF:∀ (f u:Nat),∀ b∈uW f u,48<=b.toNat/\b.toNat<=57
  | 0,_,b,h=>by cases h
  | f+1,u,b,h=>by
    rw [uW] at h;split at h
    . rename_i c;rw [List.mem_singleton.1 h,Jq c]; omega
    . rcases List.mem_append.1 h with h|h
      . exact JF f _ b h
      . rw [List.mem_singleton.1 h,Jq (Nat.mod_lt _ (by decide))];have:=Nat.mod_lt u (show 0<10 by decide); omega
theorem Vf {f u:Nat}:uW (f+1) u≠[]:=by
  rw [uW]; split
  . exact List.cons_ne_nil _ _
  . simp
theorem DT:∀ (f u k:Nat),u<10^k->1<=k->(uW f u).length<=k
  | 0,_,_,_,_=>Nat.zero_le _
  | f+1,u,k,h,hk=>by
    rw [uW];by_cases c:u<10
    . rw [if_pos c]; exact hk
    . rw [if_neg c];rcases k with _|_|k
      . omega
      . simp at h; omega
      . have:=DT f (u / 10) (k+1) (by rw [Nat.pow_succ] at h; exact Nat.div_lt_of_lt_mul (by omega)) (by omega);rw [List.length_append]; simp only [List.length_singleton]; omega
theorem KT:∀ (l:yY) (acc:Nat) (b:UInt8) (a d:Nat),Lib.decFrom acc l=some a->Lib.digitVal b=some d->Lib.decFrom acc (l++[b])=some (a*10+d)
  | [],acc,b,a,d,h,hd=>by
    simp only [Lib.decFrom,Option.some.injEq] at h;subst h;simp [Lib.decFrom,hd]
  | x::l,acc,b,a,d,h,hd=>by
    rw [List.cons_append];rw [Lib.decFrom] at h ⊢;cases e:Lib.digitVal x with
    | none=>rw [e] at h; cases h
    | some y=>rw [e] at h; exact KT l _ b a d h hd
theorem SS {d:Nat} (h:d<10):Lib.digitVal (UInt8.ofNat (48+d))=some d:=by
  unfold Lib.digitVal;rw [Jq h,if_pos (by omega)];congr 1; omega
theorem PY:∀ (f u:Nat),u<10^f->1<=f->Lib.decFrom 0 (uW f u)=some u
  | 0,_,_,h=>absurd h (by decide)
  | f+1,u,h,_=>by
    rw [uW];by_cases c:u<10
    . rw [if_pos c];have:=KT [] 0 _ 0 u rfl (SS c);simpa using this
    . rw [if_neg c];have hf:1<=f:=by
        rcases f with _|f
        . simp at h; omega
        . omega
      have h1:=PY f (u / 10) (by rw [Nat.pow_succ] at h; exact Nat.div_lt_of_lt_mul (by omega)) hf;rw [KT _ 0 _ _ _ h1 (SS (Nat.mod_lt _ (by decide)))];congr 1; omega
theorem Iy {n:Nat}:C9 (n:Int)=uW 20 n:=by
  unfold C9; rw [if_neg (by omega)]; rfl
theorem Er {n:Nat} (h:n<10^20):Lib.atoi (C9 (n:Int))=some (n:Int):=by
  rw [Iy];have h1:=PY 20 n h (by decide);have h2:=JF 20 n;have h3:uW 20 n≠[]:=Vf;generalize uW 20 n=l at *
  cases l with
  | nil=>exact absurd rfl h3
  | cons b r =>
    have hb:=h2 b List.mem_cons_self;have b1:(b == 45)=false:=by
      rw [beq_eq_false_iff_ne]; rintro rfl; exact absurd hb.1 (by decide)
    have b2:(b == 43)=false:=by
      rw [beq_eq_false_iff_ne]; rintro rfl; exact absurd hb.1 (by decide)
    simp [Lib.atoi,b1,b2,Lib.decNat,h1]
theorem NW {n:Nat}:(58:UInt8)∉C9 (n:Int):=by
  rw [Iy];intro h;have:=JF 20 n _ h;exact absurd this.2 (by decide)
theorem Po {n:Nat} (k:Nat) (h:n<10^k) (hk:1<=k):(C9 (n:Int)).length<=k:=by
  rw [Iy]; exact DT 20 n k h hk
theorem Ce {n:Int} (h0:-9223372036854775808<=n) (h1:n<=9223372036854775807):(C9 n).length<=20:=by
  have h9:(10:Nat)^19=10000000000000000000:=by decide
  unfold C9
  split
  . rw [List.length_cons];have:=DT 20 n.natAbs 19 (by omega) (by decide);omega
  . have:=DT 20 n.toNat 19 (by omega) (by decide);omega
def x7:yY->yY×yY×Bool
  | []=>([],[],false)
  | b::l=>if b=58 then ([],l,true) else if (x7 l).2.2=true then (b::(x7 l).1,(x7 l).2.1,true) else (b::l,[],false)
theorem ML:∀ s:yY,Lib.cut s [58]=x7 s
  | []=>by decide
  | b::l=>by
    have ih:=ML l;have hg:=Lib.index_ge l [58];by_cases e:b=58
    . subst e;rw [x7,if_pos rfl];simp [Lib.cut,Lib.index,List.isPrefixOf]
    . have hp:List.isPrefixOf [58] (b::l)=false:=by simp [List.isPrefixOf,Ne.symm e]
      have e1:Lib.index (b::l) [58]=if Lib.index l [58] == -1 then -1 else Lib.index l [58]+1:=by rw [Lib.index,hp]; simp
      rw [x7,if_neg e,<- ih];unfold Lib.cut;rw [e1];by_cases c:Lib.index l [58]=-1
      . rw [c]; simp
      . have c0:0<=Lib.index l [58]:=by omega
        obtain ⟨k,hk⟩:∃ k:Nat,Lib.index l [58]=k:=⟨_,(Int.toNat_of_nonneg c0).symm⟩;rw [hk];have c1:((k:Int) == -1)=false:=by rw [beq_eq_false_iff_ne]; omega
        rw [c1];have c2:(0:Int)<=k:=by omega
        have c3:(0:Int)<=(k:Int)+1:=by omega
        have c4:((k:Int)+1).toNat=k+1:=by omega
        have c5:k+1+1=k+1+1:=rfl;simp [c2,c3,c4]
theorem Bv (s:yY):(x7 s).1.length<=s.length/\(x7 s).2.1.length<=s.length:=by
  induction s with
  | nil=>exact ⟨Nat.le_refl _,Nat.le_refl _⟩
  | cons b l ih =>
    rw [x7]
    split
    . exact ⟨Nat.zero_le _,by simp⟩
    . split
      . simp only [List.length_cons]; omega
      . simp
theorem HF:∀ {a b:yY},(58:UInt8)∉a->x7 (a++58::b)=(a,b,true)
  | [],b,_=>by rw [List.nil_append,x7,if_pos rfl]
  | x::a,b,h=>by
    have hx:x≠58:=λ e=>h (by rw [e]; exact List.mem_cons_self);have ih:=HF (a:=a) (b:=b) (λ e=>h (List.mem_cons_of_mem _ e));rw [List.cons_append,x7,if_neg hx,ih,if_pos rfl]
def I7 (p k:Int) (t:yY):yY:=C9 p++[58]++C9 k++[58]++t
theorem Ei (p k:Nat) (t:yY):x7 (I7 p k t)=(C9 p,C9 k++[58]++t,true):=by
  unfold I7;rw [show C9 (p:Int)++[58]++C9 (k:Int)++[58]++t=C9 (p:Int)++58::(C9 (k:Int)++[58]++t) by simp];exact HF NW
theorem Kf (k:Nat) (t:yY):x7 (C9 k++[58]++t)=(C9 k,t,true):=by
  rw [show C9 (k:Int)++[58]++t=C9 (k:Int)++58::t by simp];exact HF NW
end Go.Proofs.YtijlnmgondibnaaGreatDoor
namespace Go.Proofs.YtijlnmgondibnaaGreatDoor
open Go.Ex
set_option maxRecDepth 100000
def ub (n:Int):UInt8:=UInt8.ofNat (n % 256).toNat
def tb (n:Int):yY:=[ub n,ub (n / 256),ub (n / 65536)]
theorem Fx (x:UInt8):ub (x.toNat:Int)=x:=by
  have:=x.toNat_lt;apply UInt8.toNat_inj.1;rw [ub,Ef]; omega
theorem CR (n:Int):((ub n).toNat:Int)=n % 256:=by rw [ub,Ef]; omega
theorem xR (x y z:UInt8):tb ((x.toNat:Int)+(y.toNat:Int)*256+(z.toNat:Int)*65536)=[x,y,z]:=by
  have h1:=x.toNat_lt;have h2:=y.toNat_lt;have h3:=z.toNat_lt;rw [tb,List.cons.injEq,List.cons.injEq,List.cons.injEq];refine ⟨?_,?_,?_,rfl⟩<;>(apply UInt8.toNat_inj.1; rw [ub,Ef]; omega)
theorem Sv (l:List Int):wJ (l.flatMap U1)=l.flatMap tb:=by
  induction l with
  | nil=>rfl
  | cons x l ih=>rw [List.flatMap_cons,Eh,ih,List.flatMap_cons]; rfl
theorem IV (n:B8):vE n=[ub n.1,ub n.2.1,ub n.2.2.1]++(Y6 n).flatMap tb++n.2.2.2.2.2.2.1:=by
  rw [vE,yr,Eh,Eh,Sv,Ke]; rfl
theorem G2 {k:Nat} {s:yY} (h:k+1<=s.length):∃ b t,s=b::t/\k<=t.length:=by
  match s,h with
  | b::t,h=>exact ⟨b,t,rfl,by simpa using h⟩
theorem c1J {s:yY} (h:27<=s.length):vE (parse s)=s:=by
  obtain ⟨b0,t0,rfl,h0⟩:=G2 (k:=26) h;obtain ⟨b1,t1,rfl,h1⟩:=G2 (k:=25) h0;obtain ⟨b2,t2,rfl,h2⟩:=G2 (k:=24) h1;obtain ⟨b3,t3,rfl,h3⟩:=G2 (k:=23) h2;obtain ⟨b4,t4,rfl,h4⟩:=G2 (k:=22) h3;obtain ⟨b5,t5,rfl,h5⟩:=G2 (k:=21) h4;obtain ⟨b6,t6,rfl,h6⟩:=G2 (k:=20) h5;obtain ⟨b7,t7,rfl,h7⟩:=G2 (k:=19) h6;obtain ⟨b8,t8,rfl,h8⟩:=G2 (k:=18) h7;obtain ⟨b9,t9,rfl,h9⟩:=G2 (k:=17) h8;obtain ⟨AG,t10,rfl,iY⟩:=G2 (k:=16) h9;obtain ⟨AF,t11,rfl,jD⟩:=G2 (k:=15) iY;obtain ⟨AE,t12,rfl,uh⟩:=G2 (k:=14) jD;obtain ⟨wB,t13,rfl,ug⟩:=G2 (k:=13) uh;obtain ⟨AD,t14,rfl,uf⟩:=G2 (k:=12) ug;obtain ⟨AB,t15,rfl,ue⟩:=G2 (k:=11) uf;obtain ⟨yi,t16,rfl,nZ⟩:=G2 (k:=10) ue;obtain ⟨b17,t17,rfl,ud⟩:=G2 (k:=9) nZ;obtain ⟨b18,t18,rfl,uc⟩:=G2 (k:=8) ud;obtain ⟨b19,t19,rfl,ua⟩:=G2 (k:=7) uc;obtain ⟨b20,t20,rfl,tZ⟩:=G2 (k:=6) ua;obtain ⟨b21,t21,rfl,tY⟩:=G2 (k:=5) tZ;obtain ⟨b22,t22,rfl,tX⟩:=G2 (k:=4) tY;obtain ⟨b23,t23,rfl,tW⟩:=G2 (k:=3) tX;obtain ⟨b24,t24,rfl,tV⟩:=G2 (k:=2) tW;obtain ⟨b25,t25,rfl,tU⟩:=G2 (k:=1) tV;obtain ⟨b26,t,rfl,uA⟩:=G2 (k:=0) tU;rw [IV];show [ub (b0.toNat:Int),ub (b1.toNat:Int),ub (b2.toNat:Int)]++(tb ((b3.toNat:Int)+(b4.toNat:Int)*256+(b5.toNat:Int)*65536)++(tb ((b6.toNat:Int)+(b7.toNat:Int)*256+(b8.toNat:Int)*65536)++(tb ((b9.toNat:Int)+(AG.toNat:Int)*256+(AF.toNat:Int)*65536)++(tb ((AE.toNat:Int)+(wB.toNat:Int)*256+(AD.toNat:Int)*65536)++(tb ((AB.toNat:Int)+(yi.toNat:Int)*256+(b17.toNat:Int)*65536)++(tb ((b18.toNat:Int)+(b19.toNat:Int)*256+(b20.toNat:Int)*65536)++(tb ((b21.toNat:Int)+(b22.toNat:Int)*256+(b23.toNat:Int)*65536)++(tb ((b24.toNat:Int)+(b25.toNat:Int)*256+(b26.toNat:Int)*65536)++[]))))))))++t=_;rw [xR,xR,xR,xR,xR,xR,xR,xR,Fx,Fx,Fx];rfl
theorem c0t:∀ {n:B8},Hn n->n.2.2.2.2.2.1.length=6->parse (vE n)=n
  | (a,b,c,d,e,[v0,v1,v2,v3,v4,v5],t,()),h,_=>by
    have num:∀ x:Int,0<=x/\x<=16777215->((ub x).toNat:Int)+((ub (x / 256)).toNat:Int)*256+((ub (x / 65536)).toNat:Int)*65536=x:=by
      intro x hx; rw [CR,CR,CR]; omega
    have one:∀ x:Int,0<=x/\x<=255->((ub x).toNat:Int)=x:=by intro x hx; rw [CR]; omega
    rw [IV];show (((ub a).toNat:Int),((ub b).toNat:Int),((ub c).toNat:Int),((ub d).toNat:Int)+((ub (d / 256)).toNat:Int)*256+((ub (d / 65536)).toNat:Int)*65536,((ub e).toNat:Int)+((ub (e / 256)).toNat:Int)*256+((ub (e / 65536)).toNat:Int)*65536,
      [((ub v0).toNat:Int)+((ub (v0 / 256)).toNat:Int)*256+((ub (v0 / 65536)).toNat:Int)*65536,((ub v1).toNat:Int)+((ub (v1 / 256)).toNat:Int)*256+((ub (v1 / 65536)).toNat:Int)*65536,((ub v2).toNat:Int)+((ub (v2 / 256)).toNat:Int)*256+((ub (v2 / 65536)).toNat:Int)*65536,
       ((ub v3).toNat:Int)+((ub (v3 / 256)).toNat:Int)*256+((ub (v3 / 65536)).toNat:Int)*65536,((ub v4).toNat:Int)+((ub (v4 / 256)).toNat:Int)*256+((ub (v4 / 65536)).toNat:Int)*65536,((ub v5).toNat:Int)+((ub (v5 / 256)).toNat:Int)*256+((ub (v5 / 65536)).toNat:Int)*65536],t,())=_
    have hv:∀ x∈[v0,v1,v2,v3,v4,v5],0<=x/\x<=16777215:=h.at_;have hf:0<=b/\b<=5:=h.from_;have ht:0<=c/\c<=5:=h.to;rw [one a h.kind,one b (by omega),one c (by omega),num d h.view,num e h.seq,num v0 (hv _ (by simp)),num v1 (hv _ (by simp)),num v2 (hv _ (by simp)),num v3 (hv _ (by simp)),num v4 (hv _ (by simp)),num v5 (hv _ (by simp))]
theorem Xv {n:B8} (h:n.2.2.2.2.2.1.length=6):(vE n).length=27+n.2.2.2.2.2.2.1.length:=by
  have:∀ l:List Int,(l.flatMap tb).length=3*l.length:=λ l=>by rw [<- Sv,wJ,List.length_map,Rd]
  rw [IV,List.length_append,List.length_append,this];show 3+3*(n.2.2.2.2.2.1.length+1+1)+_=_;omega
theorem Yf {n:B8} (aM:Hn n) (h:n.2.2.2.2.2.1.length=6):31<=(uY n).length/\(uY n).length<=231:=by
  rw [uY,List.length_append,Xv h];have:=aM.text;show _/\_+4<=231;exact ⟨by show 31<=_+4; omega,by omega⟩
theorem YN {n:B8} (hc:H6 n=0) (h:n.2.2.2.2.2.1.length=6):w8 (uY n)=(n,0,()):=by
  have aM:=Kl hc;obtain ⟨h1,h2⟩:=Yf aM h;have e4:(uY n).length - 4=(vE n).length:=by rw [uY,List.length_append]; show (vE n).length+4 - 4=_; omega
  have e5:(uY n).take ((uY n).length - 4)=vE n:=by rw [e4,uY,List.take_left']; rfl
  have e6:(uY n).drop ((uY n).length - 4)=le4 (va (vE n)):=by rw [e4,uY,List.drop_left']; rfl
  rw [w8,if_neg (by omega),if_neg (by omega),e5,e6,if_neg (λ c=>c rfl),c0t aM h,if_neg (λ c=>c hc)]
theorem Wo {s:yY} (h:(w8 s).2.1=0):H6 (w8 s).1=0/\uY (w8 s).1=s:=by
  unfold w8 at h ⊢;split at h
  . cases h
  split at h
  . cases h
  split at h
  . cases h
  split at h
  . rename_i c; exact absurd h c
  . rename_i c1 c2 c3 c4;rw [if_neg c1,if_neg c2,if_neg c3,if_neg c4];have hl:27<=(s.take (s.length - 4)).length:=by rw [List.length_take]; omega
    refine ⟨Decidable.not_not.1 c4,?_⟩;show vE (parse (s.take (s.length - 4)))++le4 (va (vE (parse (s.take (s.length - 4)))))=s;rw [c1J hl,Decidable.not_not.1 c3,List.take_append_drop]
theorem Ye {n:B8} (h:H6 n=0):T3 n=(uY n,0,()):=by rw [T3,if_neg (λ c=>c h)]
theorem Yd {n:B8} (h:H6 n≠0):T3 n=([],H6 n,()):=by rw [T3,if_pos h]
def N6 (w:f8) (p:Int):n7:=w.2.1.getD p.toNat j7
def xZ (w:f8) (p:Int) (x:n7):f8:=(w.1,w.2.1.set p.toNat x,w.2.2)
def zt (w:f8) (x:yY):f8:=(w.1,w.2.1,w.2.2.1++[x],w.2.2.2)
def G4 (x:yY) (w:f8):Nat->f8
  | 0=>w
  | p+1=>if s5 (G4 x w p) p=true then J5 (G4 x w p) 2 (J8 (G4 x w p)) p (((G4 x w p).2.2.1.length:Int) - 1) x else G4 x w p
def I8 (f first:Int) (l:List yY) (w:f8):Nat->f8
  | 0=>w
  | i+1=>G4 (I7 f (first+i) (l.getD i [])) (zt (I8 f first l w i) (I7 f (first+i) (l.getD i []))) (I8 f first l w i).2.1.length
def Y5 (w:f8) (n:B8):ToD×List yY×Int×Unit:=D6 (N6 w n.2.1).2.2.2.2.1 (n.2.2.2.2.1,n.2.2.2.2.2.2.1,())
def xP (x:n7) (r:ToD):n7:=(x.1,x.2.1,x.2.2.1,x.2.2.2.1,r,())
def X0 (w:f8) (n:B8):f8 :=
  if (Y5 w n).2.2.1≠0 then w else
  I8 n.2.1 (N6 w n.2.1).2.2.2.2.1.1 (Y5 w n).2.1 (xZ w n.2.1 (xP (N6 w n.2.1) (Y5 w n).1)) (Y5 w n).2.1.length
def who (t:yY):Int:=(Lib.atoi (x7 t).1).getD 0
def nth (t:yY):Int:=(Lib.atoi (x7 (x7 t).2.1).1).getD 0
def wF (t:yY):yY:=(x7 (x7 t).2.1).2.1
def vF (q:Int) (x:n7) (t:yY):n7 :=
  if who t=q/\(Q8 x.2.2.1 (nth t+1)).2.1=0 then (x.1,x.2.1++[(who t,wF t,())],(Q8 x.2.2.1 (nth t+1)).1,x.2.2.2) else (x.1,x.2.1++[(who t,wF t,())],x.2.2)
def K0 (q:Int) (x:n7) (l:List yY):Nat->n7
  | 0=>x
  | i+1=>vF q (K0 q x l i) (l.getD i [])
def Q6 (w:f8) (n:B8):ToD×List yY×Int×Unit:=D6 (N6 w n.2.2.1).2.2.2.1 (n.2.2.2.2.1,n.2.2.2.2.2.2.1,())
def AJ (x:n7) (r:ToD):n7:=(x.1,x.2.1,x.2.2.1,r,x.2.2.2.2)
def vg (w:f8) (n:B8):f8 :=
  if (Q6 w n).2.2.1≠0 then w else
  xZ w n.2.2.1 (K0 n.2.2.1 (AJ (N6 w n.2.2.1) (Q6 w n).1) (Q6 w n).2.1 (Q6 w n).2.1.length)
def F5 (w:f8) (n:B8):Nat->f8
  | 0=>w
  | j+1=>if n.2.2.2.2.1+j<(F5 w n j).2.2.1.length then J5 (F5 w n j) 2 (J8 (F5 w n j)) n.2.1 (n.2.2.2.2.1+j) ((F5 w n j).2.2.1.getD (n.2.2.2.2.1+j).toNat []) else F5 w n j
def F9 (w:f8) (n:B8):f8 :=
  if known w n.2.1≠0 then w else if n.1=1 then X0 w n else if n.1=3 then F5 w n 4 else if n.1=2 then vg w n else w
def yp (w:f8) (k:Int):f8:=(w.1,w.2.1,w.2.2.1,w.2.2.2.1.take k.toNat++w.2.2.2.1.drop (k+1).toNat,())
def De (w:f8) (k:Nat):f8:=(w.1,w.2.1,w.2.2.1,w.2.2.2.1++[w.2.2.2.1.getD k []],())
def wN (w:f8) (bu:Int) (s:yY):f8 :=
  if bu=1/\(w8 s).2.1=0/\(w8 s).1.2.2.2.1=w.1.1/\s5 w (w8 s).1.2.2.1=true then F9 w (w8 s).1 else w
def C7 (w:f8) (k bu:Int):f8×Int :=
  if H5 bu 1 3=false then (w,1) else if H5 k 0 ((w.2.2.2.1.length:Int) - 1)=false then (w,6) else if bu=3/\(w.2.2.2.1.length:Int)=60 then (w,8)
  else if bu=3 then (De w k.toNat,0) else (wN (yp w k) bu (w.2.2.2.1.getD k.toNat []),0)
theorem Pq:∀ {l:List u5} {n:Int},∀ t∈(E0 l n).2.2,∃ q∈l,t=q.2.1
  | [],n,t,h=>by cases h
  | p::l,n,t,h=>by
    rw [E0] at h;split at h
    . rcases List.mem_cons.1 h with rfl|h
      . exact ⟨p,List.mem_cons_self,rfl⟩
      . obtain ⟨q,h1,h2⟩:=Pq t h;exact ⟨q,List.mem_cons_of_mem _ h1,h2⟩
    . cases h
theorem SF {s:ToD} {p:u5} (h:(D6 s p).2.2.1=0):Al s.1 s.2.1/\(0<=p.1/\p.1<=16777214)/\E2 p.2.1=false /\
    ((D6 s p=(s,[],0,())/\(p.1<s.1\/s.1+16<=p.1\/Y7 p.1 s.2.1=true))\/((s.1<p.1/\p.1<s.1+16)/\Y7 p.1 s.2.1=false/\D6 s p=((s.1,a49 p s.2.1,()),[],0,())) \/
      (p.1=s.1/\D6 s p=(((E0 s.2.1 (s.1+1)).1,(E0 s.2.1 (s.1+1)).2.1,()),p.2.1::(E0 s.2.1 (s.1+1)).2.2,0,()))):=by
  obtain ⟨r,l,⟨⟩⟩:=s;by_cases c1:toE (r,l,())≠0
  . rw [D6,if_pos c1] at h; exact absurd h c1
  have aM:=Ir.1 (Decidable.not_not.1 c1);by_cases c2:Y1 p.1 0 16777214=false
  . rw [D6,if_neg c1,if_pos c2] at h; cases h
  have h1:=wv.1 (Bool.not_eq_false _▸c2);by_cases c3:E2 p.2.1=true
  . rw [D6,if_neg c1,if_neg c2,if_pos c3] at h; cases h
  have h2:E2 p.2.1=false:=by simpa using c3
  refine ⟨aM,h1,h2,?_⟩;rw [XZ aM h1 h2];by_cases c4:p.1<r\/r+16<=p.1\/Y7 p.1 l=true
  . rw [if_pos c4]; exact .inl ⟨rfl,c4⟩
  rw [if_neg c4];by_cases c5:r<p.1
  . rw [if_pos c5];refine .inr (.inl ⟨⟨c5,?_⟩,?_,rfl⟩)
    . exact Int.not_le.1 (λ e=>c4 (.inr (.inl e)))
    . cases hk:Y7 p.1 l with
      | false=>rfl
      | true=>exact absurd (.inr (.inr hk)) c4
  . rw [if_neg c5];refine .inr (.inr ⟨?_,rfl⟩);have:¬ p.1<r:=λ e=>c4 (.inl e);show p.1=r;omega
theorem yM {s:ToD} {p:u5} (h:(D6 s p).2.2.1=0) :
    (∀ t∈(D6 s p).2.1,(t=p.2.1\/∃ q∈s.2.1,t=q.2.1)/\E2 t=false)/\(∀ q∈(D6 s p).1.2.1,q=p\/q∈s.2.1)/\(D6 s p).2.1.length<=16/\(0<=s.1/\s.1<=16777215) /\
      (D6 s p).1.1=s.1+(D6 s p).2.1.length/\(D6 s p).1.2.1.length+(D6 s p).2.1.length<=s.2.1.length+1:=by
  obtain ⟨aM,h1,h2,hc⟩:=SF h;have ly:=aM.rg;have hb:=aM.b;rcases hc with ⟨e,-⟩|⟨-,-,e⟩|⟨hp,e⟩
  . rw [e];exact ⟨λ t ht=>(by cases ht),λ q hq=>.inr hq,Nat.zero_le _,ly,by show s.1=s.1+((0:Nat):Int); omega,by show s.2.1.length+0<=_; omega⟩
  . rw [e];refine ⟨λ t ht=>(by cases ht),λ q hq=>(Xd.1 hq),Nat.zero_le _,ly,by show s.1=s.1+((0:Nat):Int); omega,?_⟩;show (a49 p s.2.1).length+0<=_;rw [Xc]; omega
  . rw [e];obtain ⟨a1,a2,a3,a4⟩:=Oc (l:=s.2.1) (n:=s.1+1) (by rw [show s.1+1 - 1=s.1 by omega]; exact aM.up);refine ⟨λ t ht=>?_,λ q hq=>.inr (a4 q hq),?_,ly,?_,?_⟩
    . rcases List.mem_cons.1 ht with rfl|ht
      . exact ⟨.inl rfl,h2⟩
      . obtain ⟨q,g1,g2⟩:=Pq t ht;exact ⟨.inr ⟨q,g1,g2⟩,by rw [g2]; exact (hb q g1).2⟩
    . show (p.2.1::(E0 s.2.1 (s.1+1)).2.2).length<=16;rw [List.length_cons];cases hl:s.2.1 with
      | nil=>simp [E0]
      | cons x m =>
        have:=Px aM.up (λ x hx=>(hb x hx).1) (by rw [hl]; simp);rw [<- hl]; omega
    . show (E0 s.2.1 (s.1+1)).1=s.1+((p.2.1::(E0 s.2.1 (s.1+1)).2.2).length:Int);rw [List.length_cons,a2]; omega
    . show (E0 s.2.1 (s.1+1)).2.1.length+(p.2.1::(E0 s.2.1 (s.1+1)).2.2).length<=_;rw [List.length_cons]; omega
theorem Jw {t:yY} (h:E2 t=false):t.length<=200:=by
  simp only [E2,decide_eq_false_iff_not] at h; omega
def okT (t:yY):Prop:=∃ p k:Nat,∃ s,p<=5/\k<=16777300/\t=I7 p k s
theorem XH {p k:Nat} {s:yY} (h:p<=5):who (I7 p k s)=p:=by
  unfold who;rw [Ei];show (Lib.atoi (C9 p)).getD 0=p;rw [Er (by omega)]; rfl
theorem Pn {p k:Nat} {s:yY} (h:k<=16777300):nth (I7 p k s)=k:=by
  unfold nth;rw [Ei];show (Lib.atoi (x7 (C9 k++[58]++s)).1).getD 0=k;rw [Kf];show (Lib.atoi (C9 k)).getD 0=k;rw [Er (by omega)]; rfl
theorem ZH {p k:Nat} {s:yY}:wF (I7 p k s)=s:=by
  unfold wF;rw [Ei];show (x7 (C9 k++[58]++s)).2.1=s;rw [Kf]
theorem WH {t:yY} (h:okT t):((x7 t).1.length<=18/\(Lib.atoi (x7 t).1).isSome=true)/\((x7 (x7 t).2.1).1.length<=18/\(Lib.atoi (x7 (x7 t).2.1).1).isSome=true)/\0<=nth t/\nth t<=16777300:=by
  obtain ⟨p,k,s,h1,h2,rfl⟩:=h;rw [Pn h2];rw [Ei];show ((C9 p).length<=18/\(Lib.atoi (C9 p)).isSome=true)/\((x7 (C9 k++[58]++s)).1.length<=18/\(Lib.atoi (x7 (C9 k++[58]++s)).1).isSome=true)/\_;rw [Kf,Er (by omega)];refine ⟨⟨Po 18 (by omega) (by decide),rfl⟩,⟨Po 18 (by omega) (by decide),?_⟩,by omega,by omega⟩;show (Lib.atoi (C9 k)).isSome=true;rw [Er (by omega)]; rfl
def I2 (w:f8):Nat->List D4
  | 0=>[]
  | k+1=>if s5 w k=true/\(I2 w k).length<(w.2.1.getD k j7).2.1.length then (w.2.1.getD k j7).2.1 else I2 w k
theorem c0E {w:f8}:∀ k,(I2 w k).length<=(I2 w (k+1)).length:=λ k=>by
  rw [I2]; split
  . rename_i h; exact Nat.le_of_lt h.2
  . exact Nat.le_refl _
theorem DX {w:f8} {i:Nat} (ha:s5 w i=true):∀ {k:Nat},i<k->(w.2.1.getD i j7).2.1.length<=(I2 w k).length
  | 0,h=>by omega
  | k+1,h=>by
    by_cases e:i=k
    . subst e;rw [I2]
      split
      . exact Nat.le_refl _
      . rename_i h1;exact Nat.le_of_not_lt (λ h2=>h1 ⟨ha,h2⟩)
    . exact Nat.le_trans (DX ha (by omega)) (c0E k)
theorem PL {w:f8} {b:Nat} (h:∀ i,(w.2.1.getD i j7).2.1.length<=b):∀ k,(I2 w k).length<=b
  | 0=>Nat.zero_le _
  | k+1=>by
    rw [I2]; split
    . exact h k
    . exact PL h k
def countP (p:Int):List D4->Nat
  | []=>0
  | s::l=>(if s.1=p then 1 else 0)+countP p l
theorem Sf {p:Int}:∀ {l m:List D4},countP p (l++m)=countP p l+countP p m
  | [],m=>by simp [countP]
  | s::l,m=>by rw [List.cons_append,countP,countP,Sf]; omega
theorem countP_le {p:Int}:∀ {l:List D4},countP p l<=l.length
  | []=>Nat.le_refl _
  | s::l=>by
    have:=countP_le (p:=p) (l:=l);rw [countP,List.length_cons]; split<;>omega
theorem SN {p:Int} {l:List D4} {i:Nat} (h:i<l.length):countP p (l.take (i+1))=countP p (l.take i)+if (l.getD i (0,[],())).1=p then 1 else 0:=by
  rw [Ew h (0,[],()),Sf];simp [countP]
def uK (w:f8) (L:List D4) (i:Nat) (x:n7):n7 :=
  if s5 w i=true then (x.1,L,(0,x.2.2.1.2.1.drop (min (countP i (L.drop x.2.1.length)) x.2.2.1.2.1.length),()),(0,[],()),(0,[],()),()) else (x.1,x.2.1,x.2.2.1,x.2.2.2.1,(0,[],()),())
def F1 (w:f8):f8:=((R0 w).1,w.2.1.mapIdx (uK w (I2 w w.2.1.length)),[],w.2.2.2.1,())
def S7 (w:f8):f8×Int:=if (R0 w).2.1≠0 then (w,(R0 w).2.1) else (F1 w,0)
theorem b6w {v:vr} {al al':List n7} {r r':List yY×List yY×Unit} {p:Int} (hl:al'.length=al.length) (hf:(al'.getD p.toNat j7).1=(al.getD p.toNat j7).1):s5 (v,al',r') p=s5 (v,al,r) p:=by
  unfold s5;simp only;rw [hl,hf]
abbrev toM (x:n7):L7:=(x.1,(1,x.2.1,[]),x.2.2)
abbrev rdP (x:L7):n7:=(x.1,x.2.1.2.1,x.2.2)
abbrev dM:L7:=(false,(1,[],[]),(0,[],()),(0,[],()),(0,[],()),())
theorem Pt {al:List L7} {i:Nat}:(al.map rdP).getD i j7=rdP (al.getD i dM):=by
  rw [List.getD_eq_getElem?_getD,List.getElem?_map,List.getD_eq_getElem?_getD];cases al[i]?<;>rfl
theorem IF {al:List n7} {i:Nat}:(al.map toM).getD i dM=toM (al.getD i j7):=by
  rw [List.getD_eq_getElem?_getD,List.getElem?_map,List.getD_eq_getElem?_getD];cases al[i]?<;>rfl
theorem Xa {α:Type} {d:α} {l m:List α} (h:l.length=m.length) (h2:∀ i,i<l.length->l.getD i d=m.getD i d):l=m:=by
  apply List.ext_getElem h;intro i h3 h4;have:=h2 i h3;rw [List.getD_eq_getElem?_getD,List.getD_eq_getElem?_getD,List.getElem?_eq_getElem h3,List.getElem?_eq_getElem h4] at this;exact this
theorem Q0 {α:Type} {d:α} {l:List α} {i j:Nat} {x:α}:(l.set i x).getD j d=if i=j/\i<l.length then x else l.getD j d:=by
  rw [List.getD_eq_getElem?_getD,List.getElem?_set,List.getD_eq_getElem?_getD];by_cases h:i=j
  . subst h;by_cases h2:i<l.length
    . simp [h2]
    . simp [h2]
  . simp [h]
structure vL (w:f8) (al:List L7):Prop where
  len:al.length=w.2.1.length
  rd:∀ i:Nat,rdP (al.getD i dM)=w.2.1.getD i j7
  same:∀ i:Nat,s5 w i=false->al.getD i dM=toM (w.2.1.getD i j7)
theorem vL.start (w:f8):vL w (w.2.1.map toM):=⟨List.length_map ..,λ i=>by rw [IF],λ i _=>by rw [IF]⟩
theorem vL.vd {w:f8} {al:List L7} (h:vL w al) {k n:Nat} (ha:s5 w k=true):vL w (al.set k ((al.getD k dM).1,(n,(al.getD k dM).2.1.2.1,[]),(al.getD k dM).2.2)):=by
  refine ⟨by rw [List.length_set]; exact h.len,λ i=>?_,λ i hi=>?_⟩
  . rw [Q0]
    split
    . rename_i e;rw [<- e.1,<- h.rd k]
    . exact h.rd i
  . rw [Q0,if_neg]
    . exact h.same i hi
    . rintro ⟨rfl,-⟩;rw [ha] at hi; cases hi
structure wg (w:f8) (L:List D4) (k:Nat) (al:List L7):Prop where
  len:al.length=w.2.1.length
  done:∀ i:Nat,i<k->i<al.length->al.getD i dM=toM (uK w L i (w.2.1.getD i j7))
  rd:∀ i:Nat,k<=i->rdP (al.getD i dM)=w.2.1.getD i j7
  same:∀ i:Nat,k<=i->s5 w i=false->al.getD i dM=toM (w.2.1.getD i j7)
theorem vL.next {w:f8} {al:List L7} (h:vL w al) (L:List D4):wg w L 0 al:=⟨h.len,λ i hi=>by omega,λ i _=>h.rd i,λ i _=>h.same i⟩
theorem Mo {w:f8} {L:List D4} {i:Nat} {x:n7}:(uK w L i x).1=x.1:=by unfold uK; split<;>rfl
theorem wg.act {w:f8} {L:List D4} {k:Nat} {al:List L7} (h:wg w L k al) (i:Nat):((al.map rdP).getD i j7).1=(w.2.1.getD i j7).1:=by
  rw [Pt];by_cases hk:k<=i
  . rw [h.rd i hk]
  . by_cases hi:i<al.length
    . rw [h.done i (by omega) hi];exact Mo
    . have h1:al.getD i dM=dM:=by rw [List.getD_eq_getElem?_getD,List.getElem?_eq_none (by omega)]; rfl
      have h2:w.2.1.getD i j7=j7:=by rw [List.getD_eq_getElem?_getD,List.getElem?_eq_none (by have:=h.len; omega)]; rfl
      rw [h1,h2]; rfl
theorem wg.step {w:f8} {L:List D4} {k:Nat} {al:List L7} (h:wg w L k al):wg w L (k+1) (al.set k (toM (uK w L k (w.2.1.getD k j7)))):=by
  refine ⟨by rw [List.length_set]; exact h.len,λ i hi hl=>?_,λ i hi=>?_,λ i hi=>?_⟩
  . rw [List.length_set] at hl;rw [Q0];by_cases e:k=i
    . rw [if_pos ⟨e,by omega⟩,e]
    . rw [if_neg (λ h=>e h.1)];exact h.done i (by omega) hl
  . rw [Q0,if_neg (by omega)]; exact h.rd i (by omega)
  . rw [Q0,if_neg (by omega)]; exact h.same i (by omega)
theorem wg.fin {w:f8} {L:List D4} {al:List L7} (h:wg w L w.2.1.length al):al=(w.2.1.mapIdx (uK w L)).map toM:=by
  refine Xa (d:=dM) (by rw [List.length_map,List.length_mapIdx]; exact h.len) (λ i hi=>?_);rw [h.done i (by have:=h.len; omega) hi,IF];congr 1;rw [List.getD_eq_getElem?_getD (l:=List.mapIdx _ _),List.getElem?_mapIdx,List.getD_eq_getElem?_getD,List.getElem?_eq_getElem (by have:=h.len; omega)];rfl
abbrev C0:=yY
abbrev V1:=Nat×C0
def C1 (p:Nat):List V1->List C0
  | []=>[]
  | x::l=>if x.1=p then x.2::C1 p l else C1 p l
theorem xY {p:Nat}:∀ {l m:List V1},C1 p (l++m)=C1 p l++C1 p m
  | [],_=>rfl
  | x::l,m=>by
    rw [List.cons_append,C1,C1,xY]
    split<;>rfl
theorem WE {p q:Nat} {l:List C0}:C1 p (l.map λ t=>(q,t))=if q=p then l else []:=by
  induction l with
  | nil=>split<;>rfl
  | cons t l ih =>
    rw [List.map_cons,C1,ih];by_cases h:q=p
    . rw [if_pos h,if_pos h,if_pos h]
    . rw [if_neg h,if_neg h,if_neg h]
theorem yP {p:Nat} {Q:List V1} {i:Nat}:C1 p (Q.take i) <+: C1 p Q:=by
  have h:C1 p Q=C1 p (Q.take i)++C1 p (Q.drop i):=by rw [<- xY,List.take_append_drop]
  exact ⟨_,h.symm⟩
def M8 (P:List V1):List V1->List C0
  | []=>[]
  | x::l=>I7 x.1 (C1 x.1 P).length x.2::M8 (P++[x]) l
def N9 (Q:List V1):List C0:=M8 [] Q
theorem Tb:∀ {l P m:List V1},M8 P (l++m)=M8 P l++M8 (P++l) m
  | [],P,m=>by simp [M8]
  | x::l,P,m=>by
    rw [List.cons_append,M8,M8,Tb,List.cons_append,List.append_assoc]; rfl
theorem Tc:∀ {l P:List V1} {i:Nat},(M8 P l)[i]?=l[i]?.map (λ x=>I7 x.1 (C1 x.1 (P++l.take i)).length x.2)
  | [],P,i=>rfl
  | x::l,P,0=>by simp [M8]
  | x::l,P,i+1=>by
    rw [M8,List.getElem?_cons_succ,Tc,List.getElem?_cons_succ,List.take_succ_cons,List.append_assoc]; rfl
theorem Td:∀ {l P:List V1},(M8 P l).length=l.length
  | [],_=>rfl
  | x::l,P=>by rw [M8,List.length_cons,Td,List.length_cons]
theorem YT {Q:List V1}:(N9 Q).length=Q.length:=Td
theorem QQ {Q:List V1} {i:Nat}:(N9 Q)[i]?=Q[i]?.map (λ x=>I7 x.1 (C1 x.1 (Q.take i)).length x.2):=by
  unfold N9; rw [Tc]; rfl
theorem QP {Q m:List V1}:N9 (Q++m)=N9 Q++M8 Q m:=by
  unfold N9; rw [Tb]; rfl
def wE (x:V1):D4:=(x.1,x.2,())
def ofP (p:Nat):List D4->List C0
  | []=>[]
  | x::l=>if x.1=(p:Int) then x.2.1::ofP p l else ofP p l
theorem Ij {p:Nat}:∀ {l m:List D4},ofP p (l++m)=ofP p l++ofP p m
  | [],_=>rfl
  | x::l,m=>by
    rw [List.cons_append,ofP,ofP,Ij]
    split<;>rfl
theorem DG {p:Nat}:∀ {Q:List V1},ofP p (Q.map wE)=C1 p Q
  | []=>rfl
  | x::l=>by
    rw [List.map_cons,ofP,C1,DG];by_cases h:x.1=p
    . rw [if_pos h,if_pos (by show (x.1:Int)=p; rw [h])]; rfl
    . rw [if_neg h,if_neg (by show ¬ (x.1:Int)=p; omega)]
theorem Sg {p:Nat}:∀ {l:List D4},countP p l=(ofP p l).length
  | []=>rfl
  | x::l=>by
    rw [countP,ofP,Sg];by_cases h:x.1=(p:Int)
    . rw [if_pos h,if_pos h,List.length_cons]; omega
    . rw [if_neg h,if_neg h]; omega
theorem Pr {F:Nat->Option C0}:∀ {l:List u5} {n:Int},0<=n->(∀ q∈l,F q.1.toNat=some q.2.1)->∀ i,i<(E0 l n).2.2.length->F (n.toNat+i)=(E0 l n).2.2[i]?
  | [],n,_,_,i,hi=>absurd hi (by simp [E0])
  | p::l,n,h0,h,i,hi=>by
    rw [E0] at hi ⊢;by_cases e:p.1=n
    . rw [if_pos e] at hi ⊢;cases i with
      | zero=>rw [List.getElem?_cons_zero,<- e]; exact h p List.mem_cons_self
      | succ i =>
        rw [List.getElem?_cons_succ,<- Pr (n:=n+1) (by omega) (λ q hq=>h q (List.mem_cons_of_mem _ hq)) i (by simpa using hi)];congr 1; omega
    . rw [if_neg e] at hi; exact absurd hi (by simp)
theorem Qm {F:Nat->Option C0} {s:ToD} {p:u5} (h:(D6 s p).2.2.1=0) (hs:∀ q∈s.2.1,F q.1.toNat=some q.2.1) (hp:F p.1.toNat=some p.2.1) :
    ∀ i,i<(D6 s p).2.1.length->F (s.1.toNat+i)=(D6 s p).2.1[i]?:=by
  obtain ⟨aM,h1,h2,hc⟩:=SF h;intro i hi;rcases hc with ⟨e,-⟩|⟨-,-,e⟩|⟨e1,e⟩
  . rw [e] at hi; exact absurd hi (by simp)
  . rw [e] at hi; exact absurd hi (by simp)
  . rw [e] at hi ⊢;cases i with
    | zero=>rw [List.getElem?_cons_zero,<- e1]; exact hp
    | succ i =>
      have h0:=aM.rg.1;show F (s.1.toNat+(i+1))=(p.2.1::(E0 s.2.1 (s.1+1)).2.2)[i+1]?;rw [List.getElem?_cons_succ,<- Pr (n:=s.1+1) (by omega) hs i (by simpa using hi)];congr 1; omega
theorem Ym {α:Type} {X l:List α} {r:Nat} (h:∀ i,i<l.length->X[r+i]?=l[i]?):l=(X.drop r).take l.length:=by
  apply List.ext_getElem?;intro i;rw [List.getElem?_take]
  split
  . rename_i hi;rw [List.getElem?_drop,h i hi]
  . rename_i hi;exact List.getElem?_eq_none (by omega)
theorem zP {α:Type} {l m:List α} (h:l <+: m) {i:Nat} {x:α} (hx:l[i]?=some x):m[i]?=some x:=by
  obtain ⟨k,rfl⟩:=h;have hi:i<l.length:=by
    by_cases hi:i<l.length
    . exact hi
    . rw [List.getElem?_eq_none (by omega)] at hx; cases hx
  rw [List.getElem?_append_left hi]; exact hx
def X1 (m:Int) (p:Nat):Bool:=decide (T1 .u8 (m / (2:Int)^min p IntKind.u8.bits) 1=1)
theorem BU {w:f8} {p:Int}:s5 w p=true↔∃ k:Nat,p=k/\k<w.2.1.length/\X1 w.1.2.1 k=true/\(w.2.1.getD k j7).1=false:=by
  unfold s5;rw [Bool.and_eq_true,Bool.and_eq_true,T8,Bool.not_eq_true'];constructor
  . rintro ⟨⟨h1,h2⟩,h3⟩;exact ⟨p.toNat,by omega,by omega,h2,h3⟩
  . rintro ⟨k,rfl,h1,h2,h3⟩;exact ⟨⟨by omega,h2⟩,h3⟩
theorem yQ {w:f8} {k:Nat}:s5 w (k:Int)=true↔k<w.2.1.length/\X1 w.1.2.1 k=true/\(w.2.1.getD k j7).1=false:=by
  rw [BU];constructor
  . rintro ⟨j,h,h1⟩;obtain rfl:k=j:=by omega
    exact h1
  . exact λ h=>⟨k,rfl,h⟩
def b7W:Go.Shelf.Ren:=⟨λ|129=>120|171=>50|243=>68|246=>87|283=>104|284=>105|285=>106|286=>107|317=>119|318=>121|319=>122|320=>123|337=>143|338=>144|n=>n,λ|0=>0|2=>2|3=>3|4=>4|5=>5|9=>9|20=>20|37=>115|46=>119|51=>117|53=>159|171=>158|173=>162|212=>176|213=>177|232=>208|233=>209|n=>n,λ|17=>0|18=>4|19=>5|n=>n⟩
theorem Vl:Go.Proofs.LaysM.n171 Tryz.prog b7W:={
  mixed:=by kernel_rfl,
  f129:=Tryz.func120.trans (congrArg some (by kernel_rfl)),
  f171:=Tryz.func50.trans (congrArg some (by kernel_rfl)),
  f243:=Tryz.func68.trans (congrArg some (by kernel_rfl)),
  f246:=Tryz.func87.trans (congrArg some (by kernel_rfl)),
  f283:=Tryz.func104.trans (congrArg some (by kernel_rfl)),
  f284:=Tryz.func105.trans (congrArg some (by kernel_rfl)),
  f285:=Tryz.func106.trans (congrArg some (by kernel_rfl)),
  f286:=Tryz.func107.trans (congrArg some (by kernel_rfl)),
  f317:=Tryz.func119.trans (congrArg some (by kernel_rfl)),
  f318:=Tryz.func121.trans (congrArg some (by kernel_rfl)),
  f319:=Tryz.func122.trans (congrArg some (by kernel_rfl)),
  f320:=Tryz.func123.trans (congrArg some (by kernel_rfl)),
  f337:=Tryz.func143.trans (congrArg some (by kernel_rfl)),
  f338:=Tryz.func144.trans (congrArg some (by kernel_rfl)),
  t0:=Tryz.underlying0,
  a0:=Tryz.isAgg0,
  z0:=Tryz.sizeOf0,
  v0:=Tryz.zeroValue0,
  t2:=Tryz.underlying2,
  a2:=Tryz.isAgg2,
  z2:=Tryz.sizeOf2,
  v2:=Tryz.zeroValue2,
  t3:=Tryz.underlying3,
  a3:=Tryz.isAgg3,
  z3:=Tryz.sizeOf3,
  v3:=Tryz.zeroValue3,
  t4:=Tryz.underlying4,
  a4:=Tryz.isAgg4,
  z4:=Tryz.sizeOf4,
  v4:=Tryz.zeroValue4,
  t5:=Tryz.underlying5,
  a5:=Tryz.isAgg5,
  z5:=Tryz.sizeOf5,
  v5:=Tryz.zeroValue5,
  t9:=Tryz.underlying9,
  a9:=Tryz.isAgg9,
  z9:=Tryz.sizeOf9,
  v9:=Tryz.zeroValue9,
  t20:=Tryz.underlying20,
  a20:=Tryz.isAgg20,
  z20:=Tryz.sizeOf20,
  v20:=Tryz.zeroValue20,
  t37:=Tryz.underlying115,
  a37:=Tryz.isAgg115,
  z37:=Tryz.sizeOf115,
  v37:=Tryz.zeroValue115,
  t46:=Tryz.underlying119,
  a46:=Tryz.isAgg119,
  z46:=Tryz.sizeOf119,
  v46:=Tryz.zeroValue119,
  t51:=Tryz.underlying117,
  a51:=Tryz.isAgg117,
  z51:=Tryz.sizeOf117,
  v51:=Tryz.zeroValue117,
  t53:=Tryz.underlying159,
  a53:=Tryz.isAgg159,
  z53:=Tryz.sizeOf159,
  v53:=Tryz.zeroValue159,
  t171:=Tryz.underlying158,
  a171:=Tryz.isAgg158,
  z171:=Tryz.sizeOf158,
  v171:=Tryz.zeroValue158,
  t173:=Tryz.underlying162,
  a173:=Tryz.isAgg162,
  z173:=Tryz.sizeOf162,
  v173:=Tryz.zeroValue162,
  t212:=Tryz.underlying176,
  a212:=Tryz.isAgg176,
  z212:=Tryz.sizeOf176,
  v212:=Tryz.zeroValue176,
  t213:=Tryz.underlying177,
  a213:=Tryz.isAgg177,
  z213:=Tryz.sizeOf177,
  t232:=Tryz.underlying208,
  a232:=Tryz.isAgg208,
  z232:=Tryz.sizeOf208,
  v232:=Tryz.zeroValue208,
  t233:=Tryz.underlying209,
  a233:=Tryz.isAgg209,
  z233:=Tryz.sizeOf209,
  v233:=Tryz.zeroValue209,
  g17:=by kernel_rfl,
  g18:=by kernel_rfl,
  g19:=by kernel_rfl,
  i0:=by kernel_rfl,
  i2:=by kernel_rfl,
  i3:=by kernel_rfl,
  i4:=by kernel_rfl,
  i5:=by kernel_rfl,
  i9:=by kernel_rfl,
  i20:=by kernel_rfl,
  i37:=by kernel_rfl,
  i46:=by kernel_rfl,
  i51:=by kernel_rfl,
  i53:=by kernel_rfl,
  i171:=by kernel_rfl,
  i173:=by kernel_rfl,
  i212:=by kernel_rfl,
  i232:=by kernel_rfl,
  i233:=by kernel_rfl,
  m17:=by kernel_rfl,
  m18:=by kernel_rfl,
  m19:=by kernel_rfl }
theorem YK {w:World} {k:Nat} {os:Array Obj}:D3 [] w (Sort.grow (w.drewN k) os):=by
  refine ⟨rfl,⟨rfl,Nat.le_add_right _ _⟩,rfl,?_,?_⟩
  . show w.heap.size<=(w.heap++os).size;simp
  . intro c hc _;show (w.heap++os)[c]?=_;rw [Array.getElem?_append,if_pos hc]
def SX:Go.Shelf.Ren:=⟨λ|138=>125|143=>126|146=>89|195=>145|197=>146|217=>136|218=>147|219=>113|221=>108|224=>138|225=>137|260=>157|266=>153|267=>139|268=>124|314=>154|n=>n,λ|0=>0|3=>3|4=>4|5=>5|9=>9|21=>21|31=>22|46=>119|51=>117|105=>196|119=>211|138=>213|139=>214|146=>201|n=>n,λ|1=>1|3=>6|4=>7|n=>n⟩
theorem Yy:Go.Proofs.Lays.n146 Tryz.prog SX:={
  mixed:=by kernel_rfl,
  f138:=Tryz.func125.trans (congrArg some (by kernel_rfl)),
  f143:=Tryz.func126.trans (congrArg some (by kernel_rfl)),
  f146:=Tryz.func89.trans (congrArg some (by kernel_rfl)),
  f195:=Tryz.func145.trans (congrArg some (by kernel_rfl)),
  f197:=Tryz.func146.trans (congrArg some (by kernel_rfl)),
  f217:=Tryz.func136.trans (congrArg some (by kernel_rfl)),
  f218:=Tryz.func147.trans (congrArg some (by kernel_rfl)),
  f219:=Tryz.func113.trans (congrArg some (by kernel_rfl)),
  f221:=Tryz.func108.trans (congrArg some (by kernel_rfl)),
  f224:=Tryz.func138.trans (congrArg some (by kernel_rfl)),
  f225:=Tryz.func137.trans (congrArg some (by kernel_rfl)),
  f260:=Tryz.func157.trans (congrArg some (by kernel_rfl)),
  f266:=Tryz.func153.trans (congrArg some (by kernel_rfl)),
  f267:=Tryz.func139.trans (congrArg some (by kernel_rfl)),
  f268:=Tryz.func124.trans (congrArg some (by kernel_rfl)),
  f314:=Tryz.func154.trans (congrArg some (by kernel_rfl)),
  t0:=Tryz.underlying0,
  a0:=Tryz.isAgg0,
  z0:=Tryz.sizeOf0,
  v0:=Tryz.zeroValue0,
  t3:=Tryz.underlying3,
  a3:=Tryz.isAgg3,
  z3:=Tryz.sizeOf3,
  v3:=Tryz.zeroValue3,
  t4:=Tryz.underlying4,
  a4:=Tryz.isAgg4,
  z4:=Tryz.sizeOf4,
  v4:=Tryz.zeroValue4,
  t5:=Tryz.underlying5,
  a5:=Tryz.isAgg5,
  z5:=Tryz.sizeOf5,
  v5:=Tryz.zeroValue5,
  t9:=Tryz.underlying9,
  a9:=Tryz.isAgg9,
  z9:=Tryz.sizeOf9,
  v9:=Tryz.zeroValue9,
  t21:=Tryz.underlying21,
  a21:=Tryz.isAgg21,
  z21:=Tryz.sizeOf21,
  v21:=Tryz.zeroValue21,
  t31:=Tryz.underlying22,
  a31:=Tryz.isAgg22,
  z31:=Tryz.sizeOf22,
  v31:=Tryz.zeroValue22,
  t46:=Tryz.underlying119,
  a46:=Tryz.isAgg119,
  z46:=Tryz.sizeOf119,
  v46:=Tryz.zeroValue119,
  t51:=Tryz.underlying117,
  a51:=Tryz.isAgg117,
  z51:=Tryz.sizeOf117,
  v51:=Tryz.zeroValue117,
  t105:=Tryz.underlying196,
  a105:=Tryz.isAgg196,
  z105:=Tryz.sizeOf196,
  v105:=Tryz.zeroValue196,
  t119:=Tryz.underlying211,
  a119:=Tryz.isAgg211,
  z119:=Tryz.sizeOf211,
  t138:=Tryz.underlying213,
  a138:=Tryz.isAgg213,
  z138:=Tryz.sizeOf213,
  v138:=Tryz.zeroValue213,
  t139:=Tryz.underlying214,
  a139:=Tryz.isAgg214,
  z139:=Tryz.sizeOf214,
  v139:=Tryz.zeroValue214,
  t146:=Tryz.underlying201,
  a146:=Tryz.isAgg201,
  z146:=Tryz.sizeOf201,
  v146:=Tryz.zeroValue201,
  g1:=by kernel_rfl,
  g3:=by kernel_rfl,
  g4:=by kernel_rfl }
def Mp:o7:={ ps:=[.v .str,.v .str],rs:=[.d0 true .str],pre:=λ x=>List.length (α:=UInt8) x.1<=4294967280/\1<=List.length (α:=UInt8) x.2.1,fn:=λ x=>(Lib.split x.1 x.2.1,()),out:=λ _=>() }
theorem bsz (s:yY):(⟨s.toArray⟩:ByteArray).size=s.length:=by simp [ByteArray.size]
theorem Pw {H:Array Go.Obj} {S:Nat->Prop}:∀ (l:List ByteArray),(∀ x∈l,x.size<=maxLen)->j5 (i6 H S .str) 1 [] (l.map Value.string) (l.map λ x=>(x.data.toList:yY))
  | [],_=>⟨rfl,rfl⟩
  | x::l,h=>by
    refine ⟨[],[],rfl,⟨rfl,?_,?_⟩,Pw l (λ y hy=>h y (by simp [hy]))⟩
    . show [Value.string x]=[Value.string ⟨x.data.toList.toArray⟩];rw [Array.toArray_toList]
    . show x.data.toList.length<=maxLen;rw [Array.length_toList]; exact h x (by simp)
theorem RN (sep:ByteArray):∀ (k:Nat) (s:ByteArray),∀ x∈Lib.splitB sep 0 k s,x.size<=s.size
  | 0,s,x,hx=>by rw [Lib.splitB_zero,List.mem_singleton] at hx; rw [hx]; exact Nat.le_refl _
  | k+1,s,x,hx=>by
    unfold Lib.splitB at hx;split at hx
    . rw [List.mem_singleton] at hx; rw [hx]; exact Nat.le_refl _
    . rcases List.mem_cons.1 hx with rfl|hx
      . rw [ByteArray.size_extract]; omega
      . have:=RN sep k _ x hx;rw [ByteArray.size_extract] at this; omega
theorem b50:Mp.Valid Tryz.prog 89:=by
  refine ⟨⟨_,Tryz.func89,by kernel_rfl,by kernel_rfl⟩,?_,λ h=>by cases h⟩;rintro w S vs ⟨(s:yY),(p:yY),⟨⟩⟩ L hS dG ⟨(h1:s.length<=4294967280),(h2:1<=p.length)⟩ ⟨v1,us,L1,L2,rfl,rfl,⟨rfl,cs,rfl,r1⟩,v2,us2,L3,L4,rfl,rfl,⟨rfl,cs2,rfl,r2⟩,rfl,rfl⟩ - aJ hL;obtain ⟨-,rfl,hs⟩:=r1;obtain ⟨-,rfl,hp⟩:=r2;obtain ⟨-,cs,g2,m,g3⟩:=dG ("internal/bytealg.MaxLen",_) (List.mem_cons_of_mem _ (List.mem_cons_self ..)) 1 (by kernel_rfl)
  have hm:w.cell? ⟨1,0,none⟩=some (.int .i64 m):=by
    have:=World.var?_cell (show Tryz.prog.globalNamed "internal/bytealg.MaxLen"=some 1 by kernel_rfl) g2 0
    rw [this,g3]
  refine (Any.strings_Split Yy (by kernel_rfl) ⟨s.toArray⟩ ⟨p.toArray⟩ m w (by rw [bsz]; omega) hm (by rw [bsz]; exact h2)).mono ?_;rintro e w' ⟨rfl,rfl⟩;have hlen:=Lib.splitB_all (⟨p.toArray⟩:ByteArray) (by rw [bsz]; exact h2) 0 _ ⟨s.toArray⟩ rfl;have hl:(Lib.splitB ⟨p.toArray⟩ 0 (Lib.countB ⟨s.toArray⟩ ⟨p.toArray⟩) ⟨s.toArray⟩).map (λ x=>(x.data.toList:yY))=Lib.split s p:=by
    rw [Lib.splitB_data]; rfl
  have cD:=Lib.countB_le (⟨p.toArray⟩:ByteArray) (by rw [bsz]; exact h2) (ByteArray.size ⟨s.toArray⟩) ⟨s.toArray⟩ (Nat.le_refl _);rw [bsz] at cD;generalize hB:Lib.splitB ⟨p.toArray⟩ 0 (Lib.countB ⟨s.toArray⟩ ⟨p.toArray⟩) ⟨s.toArray⟩=B at *
  generalize hC:Lib.countB ⟨s.toArray⟩ ⟨p.toArray⟩=C at *
  have tO:∀ x∈B,x.size<=maxLen:=λ x hx=>by
    have:=RN _ _ _ x (by rw [hB]; exact hx);have h9:x.size<=s.length:=Nat.le_trans this (Nat.le_of_eq (bsz s));have h8:maxLen=9223372036854775807:=by decide
    omega
  have rj:(Lib.split s p).length=C+1:=by rw [<- hl,List.length_map,hlen]
  obtain ⟨O',k1,k2,k3⟩:=Iq (w:=w) (S:=S) (t:=.str) (l:=Lib.split s p) (O:=[]) (cells:=B.map Value.string) hS (by
    rw [List.take_of_length_le (by rw [List.length_map,hlen,rj]; show C+1<=(C+1)*1; omega),<- hl];exact Pw B tO) (cap:=C+1) (by omega) (by unfold maxLen; omega) (by rw [List.length_map,hlen]; show (C+1)*1<=C+1; omega) (SX.t 9) (by simp)
  rw [rj] at k1;refine ⟨[.slice (some ⟨w.heap.size,0,none⟩) (C+1) (C+1)],O',[],S,rfl,D3.push _,λ _ h=>h,λ b h=>.inl h,⟨_,[],O',[],[.slice (some ⟨w.heap.size,0,none⟩) (C+1) (C+1)],rfl,by simp,rfl,k1,rfl,rfl⟩,⟨_,_,rfl,⟨_,[],rfl,rfl,rfl⟩⟩,by simpa using k3 List.nodup_nil,?_⟩;intro b hb;rw [List.append_nil] at hb;rcases k2 b hb with rfl|h
  . exact ⟨λ h=>by have:=hS _ h; omega,.inl (Nat.le_refl _),by show w.heap.size<(w.heap.push _).size; rw [Array.size_push]; omega⟩
  . cases h
end Go.Proofs.YtijlnmgondibnaaGreatDoor
namespace Go.Proofs.YtijlnmgondibnaaGreatDoor
set_option maxRecDepth 100000
def wD:yY:=[48,49,50,51,52,53,54,55,56,57]
def wL (s:yY):yY:=Lib.trimPrefix s [45]
def xH (s:yY):Bool:=decide (1<=(wL s).length) && decide ((wL s).length<=9) && (wL s).all (wD.contains ·)
def J7 (s:yY):Int×Bool:=if xH s then ((Lib.atoi s).getD 0,true) else (0,false)
theorem dropWhile_nil {p:UInt8->Bool}:∀ {l:yY},l.dropWhile p=[]↔l.all p=true
  | []=>by simp
  | b::l=>by
    rw [List.dropWhile_cons,List.all_cons];cases h:p b with
    | true=>simpa [h] using dropWhile_nil (p:=p) (l:=l)
    | false=>simp
theorem NA {p:UInt8->Bool} (l:yY):l.reverse.all p=l.all p:=by simp
theorem Tq {p:UInt8->Bool}:∀ {l:yY},(l.dropWhile p).all p=l.all p
  | []=>rfl
  | b::l=>by
    rw [List.dropWhile_cons];cases h:p b with
    | true=>rw [if_pos rfl,Tq (l:=l),List.all_cons,h,Bool.true_and]
    | false=>rw [if_neg (by simp)]
theorem Re {l cs:yY}:Lib.trimS l cs=[]↔l.all (cs.contains ·)=true:=by
  unfold Lib.trimS Lib.trimLeftS Lib.trimRightS;rw [dropWhile_nil,NA,Tq,NA]
theorem WS {b:UInt8} (h:wD.contains b=true):∃ d,Lib.digitVal b=some d/\d<=9:=by
  simp only [wD,List.contains_iff_mem,List.mem_cons,List.mem_nil_iff,or_false] at h;rcases h with rfl|rfl|rfl|rfl|rfl|rfl|rfl|rfl|rfl|rfl<;>exact ⟨_,rfl,by decide⟩
theorem Ti:∀ {l:yY} {acc:Nat},l.all (wD.contains ·)=true->∃ n,Lib.decFrom acc l=some n/\n<(acc+1)*10^l.length
  | [],acc,_=>⟨acc,rfl,by simp⟩
  | b::l,acc,h=>by
    rw [List.all_cons,Bool.and_eq_true] at h;obtain ⟨d,hd,h9⟩:=WS h.1;obtain ⟨n,e,hn⟩:=Ti (acc:=acc*10+d) h.2;refine ⟨n,by simp only [Lib.decFrom,hd]; exact e,Nat.lt_of_lt_of_le hn ?_⟩;rw [List.length_cons,Nat.pow_succ,Nat.mul_comm (10^l.length) 10,<- Nat.mul_assoc];exact Nat.mul_le_mul_right _ (by omega)
theorem Qi {s:yY} (h:xH s=true):s.length<=10/\∃ n:Int,Lib.atoi s=some n/\-999999999<=n/\n<=999999999:=by
  simp only [xH,Bool.and_eq_true,decide_eq_true_eq] at h;obtain ⟨⟨h1,h2⟩,h3⟩:=h;have core:∀ {t:yY},1<=t.length->t.length<=9->t.all (wD.contains ·)=true->∃ n,Lib.decNat t=some n/\n<=999999999:=by
    intro t t1 t2 t3;obtain ⟨n,e,hn⟩:=Ti (acc:=0) t3;refine ⟨n,?_,?_⟩
    . unfold Lib.decNat;rw [if_neg (by cases t<;>simp at t1 ⊢)];exact e
    . have:10^t.length<=10^9:=Nat.pow_le_pow_right (by decide) t2;have e9:10^9=1000000000:=by decide
      omega
  cases s with
  | nil=>simp [wL,Lib.trimPrefix,Lib.hasPrefix] at h1
  | cons b r =>
    by_cases hb:b=45
    . subst hb;have ht:wL (45::r)=r:=by simp [wL,Lib.trimPrefix,Lib.hasPrefix]
      rw [ht] at h1 h2 h3;obtain ⟨n,e,hn⟩:=core h1 h2 h3;refine ⟨by simp only [List.length_cons]; omega,-(n:Int),?_,by omega,by omega⟩;simp [Lib.atoi,e]
    . have ht:wL (b::r)=b::r:=by
        unfold wL Lib.trimPrefix;rw [if_neg];simp [Lib.hasPrefix,Ne.symm hb]
      rw [ht] at h1 h2 h3;obtain ⟨n,e,hn⟩:=core h1 h2 h3;have tR:b≠43:=by
        rintro rfl;rw [List.all_cons,Bool.and_eq_true] at h3;exact absurd h3.1 (by decide)
      refine ⟨by omega,(n:Int),?_,by omega,by omega⟩;simp [Lib.atoi,hb,tR,e]
end Go.Proofs.YtijlnmgondibnaaGreatDoor
set_option linter.unusedVariables false
namespace Go.Proofs.YtijlnmgondibnaaGreatDoor
open Go.Ex Go.RowKit Go.Shelf
set_option maxRecDepth 100000
def YE:Go.Shelf.Ren:=⟨λ|101=>109|206=>148|208=>127|n=>n,λ|3=>3|4=>4|9=>9|n=>n,λ|n=>n⟩
theorem TQ:Go.Proofs.Lays.n101 Tryz.prog YE:={
  mixed:=by kernel_rfl,
  f101:=Tryz.func109.trans (congrArg some (by kernel_rfl)),
  f206:=Tryz.func148.trans (congrArg some (by kernel_rfl)),
  f208:=Tryz.func127.trans (congrArg some (by kernel_rfl)),
  t3:=Tryz.underlying3,
  a3:=Tryz.isAgg3,
  z3:=Tryz.sizeOf3,
  v3:=Tryz.zeroValue3,
  t4:=Tryz.underlying4,
  a4:=Tryz.isAgg4,
  z4:=Tryz.sizeOf4,
  v4:=Tryz.zeroValue4,
  t9:=Tryz.underlying9,
  a9:=Tryz.isAgg9,
  z9:=Tryz.sizeOf9,
  v9:=Tryz.zeroValue9 }
def SE:Go.Shelf.Ren:=⟨λ|119=>161|120=>159|137=>160|151=>150|152=>158|160=>110|197=>146|217=>136|224=>138|225=>137|227=>130|228=>149|231=>128|232=>129|233=>131|234=>132|235=>133|236=>134|260=>157|266=>153|271=>151|n=>n,λ|0=>0|3=>3|4=>4|5=>5|9=>9|21=>21|46=>119|105=>196|116=>182|117=>183|119=>211|124=>186|138=>213|139=>214|n=>n,λ|3=>6|4=>7|n=>n⟩
theorem Vm:Go.Proofs.Lays.n160 Tryz.prog SE:={
  mixed:=by kernel_rfl,
  f119:=Tryz.func161.trans (congrArg some (by kernel_rfl)),
  f120:=Tryz.func159.trans (congrArg some (by kernel_rfl)),
  f137:=Tryz.func160.trans (congrArg some (by kernel_rfl)),
  f151:=Tryz.func150.trans (congrArg some (by kernel_rfl)),
  f152:=Tryz.func158.trans (congrArg some (by kernel_rfl)),
  f160:=Tryz.func110.trans (congrArg some (by kernel_rfl)),
  f197:=Tryz.func146.trans (congrArg some (by kernel_rfl)),
  f217:=Tryz.func136.trans (congrArg some (by kernel_rfl)),
  f224:=Tryz.func138.trans (congrArg some (by kernel_rfl)),
  f225:=Tryz.func137.trans (congrArg some (by kernel_rfl)),
  f227:=Tryz.func130.trans (congrArg some (by kernel_rfl)),
  f228:=Tryz.func149.trans (congrArg some (by kernel_rfl)),
  f231:=Tryz.func128.trans (congrArg some (by kernel_rfl)),
  f232:=Tryz.func129.trans (congrArg some (by kernel_rfl)),
  f233:=Tryz.func131.trans (congrArg some (by kernel_rfl)),
  f234:=Tryz.func132.trans (congrArg some (by kernel_rfl)),
  f235:=Tryz.func133.trans (congrArg some (by kernel_rfl)),
  f236:=Tryz.func134.trans (congrArg some (by kernel_rfl)),
  f260:=Tryz.func157.trans (congrArg some (by kernel_rfl)),
  f266:=Tryz.func153.trans (congrArg some (by kernel_rfl)),
  f271:=Tryz.func151.trans (congrArg some (by kernel_rfl)),
  t0:=Tryz.underlying0,
  a0:=Tryz.isAgg0,
  z0:=Tryz.sizeOf0,
  v0:=Tryz.zeroValue0,
  t3:=Tryz.underlying3,
  a3:=Tryz.isAgg3,
  z3:=Tryz.sizeOf3,
  v3:=Tryz.zeroValue3,
  t4:=Tryz.underlying4,
  a4:=Tryz.isAgg4,
  z4:=Tryz.sizeOf4,
  v4:=Tryz.zeroValue4,
  t5:=Tryz.underlying5,
  a5:=Tryz.isAgg5,
  z5:=Tryz.sizeOf5,
  v5:=Tryz.zeroValue5,
  t9:=Tryz.underlying9,
  a9:=Tryz.isAgg9,
  z9:=Tryz.sizeOf9,
  v9:=Tryz.zeroValue9,
  t21:=Tryz.underlying21,
  a21:=Tryz.isAgg21,
  z21:=Tryz.sizeOf21,
  v21:=Tryz.zeroValue21,
  t46:=Tryz.underlying119,
  a46:=Tryz.isAgg119,
  z46:=Tryz.sizeOf119,
  v46:=Tryz.zeroValue119,
  t105:=Tryz.underlying196,
  a105:=Tryz.isAgg196,
  z105:=Tryz.sizeOf196,
  v105:=Tryz.zeroValue196,
  t116:=Tryz.underlying182,
  a116:=Tryz.isAgg182,
  z116:=Tryz.sizeOf182,
  t117:=Tryz.underlying183,
  a117:=Tryz.isAgg183,
  z117:=Tryz.sizeOf183,
  v117:=Tryz.zeroValue183,
  t119:=Tryz.underlying211,
  a119:=Tryz.isAgg211,
  z119:=Tryz.sizeOf211,
  t124:=Tryz.underlying186,
  a124:=Tryz.isAgg186,
  z124:=Tryz.sizeOf186,
  v124:=Tryz.zeroValue186,
  t138:=Tryz.underlying213,
  a138:=Tryz.isAgg213,
  z138:=Tryz.sizeOf213,
  v138:=Tryz.zeroValue213,
  t139:=Tryz.underlying214,
  a139:=Tryz.isAgg214,
  z139:=Tryz.sizeOf214,
  v139:=Tryz.zeroValue214,
  g3:=by kernel_rfl,
  g4:=by kernel_rfl }
def b7X:Go.Shelf.Ren:=⟨λ|129=>120|171=>50|172=>85|205=>142|243=>68|244=>102|245=>103|246=>87|247=>114|279=>115|280=>116|281=>117|282=>118|283=>104|284=>105|285=>106|286=>107|287=>140|316=>141|317=>119|318=>121|319=>122|320=>123|321=>155|322=>156|337=>143|338=>144|n=>n,λ|0=>0|2=>2|3=>3|4=>4|5=>5|9=>9|20=>20|21=>21|37=>115|46=>119|51=>117|53=>159|75=>140|76=>141|80=>216|85=>170|127=>204|143=>205|145=>207|167=>169|168=>172|171=>158|173=>162|175=>188|210=>192|212=>176|213=>177|232=>208|233=>209|n=>n,λ|15=>2|16=>3|17=>0|18=>4|19=>5|n=>n⟩
theorem MV:Go.Proofs.Lays.n172 Tryz.prog b7X:={
  mixed:=by kernel_rfl,
  f129:=Tryz.func120.trans (congrArg some (by kernel_rfl)),
  f171:=Tryz.func50.trans (congrArg some (by kernel_rfl)),
  f172:=Tryz.func85.trans (congrArg some (by kernel_rfl)),
  f205:=Tryz.func142.trans (congrArg some (by kernel_rfl)),
  f243:=Tryz.func68.trans (congrArg some (by kernel_rfl)),
  f244:=Tryz.func102.trans (congrArg some (by kernel_rfl)),
  f245:=Tryz.func103.trans (congrArg some (by kernel_rfl)),
  f246:=Tryz.func87.trans (congrArg some (by kernel_rfl)),
  f247:=Tryz.func114.trans (congrArg some (by kernel_rfl)),
  f279:=Tryz.func115.trans (congrArg some (by kernel_rfl)),
  f280:=Tryz.func116.trans (congrArg some (by kernel_rfl)),
  f281:=Tryz.func117.trans (congrArg some (by kernel_rfl)),
  f282:=Tryz.func118.trans (congrArg some (by kernel_rfl)),
  f283:=Tryz.func104.trans (congrArg some (by kernel_rfl)),
  f284:=Tryz.func105.trans (congrArg some (by kernel_rfl)),
  f285:=Tryz.func106.trans (congrArg some (by kernel_rfl)),
  f286:=Tryz.func107.trans (congrArg some (by kernel_rfl)),
  f287:=Tryz.func140.trans (congrArg some (by kernel_rfl)),
  f316:=Tryz.func141.trans (congrArg some (by kernel_rfl)),
  f317:=Tryz.func119.trans (congrArg some (by kernel_rfl)),
  f318:=Tryz.func121.trans (congrArg some (by kernel_rfl)),
  f319:=Tryz.func122.trans (congrArg some (by kernel_rfl)),
  f320:=Tryz.func123.trans (congrArg some (by kernel_rfl)),
  f321:=Tryz.func155.trans (congrArg some (by kernel_rfl)),
  f322:=Tryz.func156.trans (congrArg some (by kernel_rfl)),
  f337:=Tryz.func143.trans (congrArg some (by kernel_rfl)),
  f338:=Tryz.func144.trans (congrArg some (by kernel_rfl)),
  t0:=Tryz.underlying0,
  a0:=Tryz.isAgg0,
  z0:=Tryz.sizeOf0,
  v0:=Tryz.zeroValue0,
  t2:=Tryz.underlying2,
  a2:=Tryz.isAgg2,
  z2:=Tryz.sizeOf2,
  v2:=Tryz.zeroValue2,
  t3:=Tryz.underlying3,
  a3:=Tryz.isAgg3,
  z3:=Tryz.sizeOf3,
  v3:=Tryz.zeroValue3,
  t4:=Tryz.underlying4,
  a4:=Tryz.isAgg4,
  z4:=Tryz.sizeOf4,
  v4:=Tryz.zeroValue4,
  t5:=Tryz.underlying5,
  a5:=Tryz.isAgg5,
  z5:=Tryz.sizeOf5,
  v5:=Tryz.zeroValue5,
  t9:=Tryz.underlying9,
  a9:=Tryz.isAgg9,
  z9:=Tryz.sizeOf9,
  v9:=Tryz.zeroValue9,
  t20:=Tryz.underlying20,
  a20:=Tryz.isAgg20,
  z20:=Tryz.sizeOf20,
  v20:=Tryz.zeroValue20,
  t21:=Tryz.underlying21,
  a21:=Tryz.isAgg21,
  z21:=Tryz.sizeOf21,
  v21:=Tryz.zeroValue21,
  t37:=Tryz.underlying115,
  a37:=Tryz.isAgg115,
  z37:=Tryz.sizeOf115,
  v37:=Tryz.zeroValue115,
  t46:=Tryz.underlying119,
  a46:=Tryz.isAgg119,
  z46:=Tryz.sizeOf119,
  v46:=Tryz.zeroValue119,
  t51:=Tryz.underlying117,
  a51:=Tryz.isAgg117,
  z51:=Tryz.sizeOf117,
  v51:=Tryz.zeroValue117,
  t53:=Tryz.underlying159,
  a53:=Tryz.isAgg159,
  z53:=Tryz.sizeOf159,
  v53:=Tryz.zeroValue159,
  t75:=Tryz.underlying140,
  a75:=Tryz.isAgg140,
  z75:=Tryz.sizeOf140,
  v75:=Tryz.zeroValue140,
  t76:=Tryz.underlying141,
  a76:=Tryz.isAgg141,
  z76:=Tryz.sizeOf141,
  v76:=Tryz.zeroValue141,
  t85:=Tryz.underlying170,
  a85:=Tryz.isAgg170,
  z85:=Tryz.sizeOf170,
  v85:=Tryz.zeroValue170,
  t127:=Tryz.underlying204,
  a127:=Tryz.isAgg204,
  z127:=Tryz.sizeOf204,
  v127:=Tryz.zeroValue204,
  t143:=Tryz.underlying205,
  a143:=Tryz.isAgg205,
  z143:=Tryz.sizeOf205,
  v143:=Tryz.zeroValue205,
  t145:=Tryz.underlying207,
  a145:=Tryz.isAgg207,
  z145:=Tryz.sizeOf207,
  v145:=Tryz.zeroValue207,
  t167:=Tryz.underlying169,
  a167:=Tryz.isAgg169,
  z167:=Tryz.sizeOf169,
  v167:=Tryz.zeroValue169,
  t168:=Tryz.underlying172,
  a168:=Tryz.isAgg172,
  z168:=Tryz.sizeOf172,
  v168:=Tryz.zeroValue172,
  t171:=Tryz.underlying158,
  a171:=Tryz.isAgg158,
  z171:=Tryz.sizeOf158,
  v171:=Tryz.zeroValue158,
  t173:=Tryz.underlying162,
  a173:=Tryz.isAgg162,
  z173:=Tryz.sizeOf162,
  v173:=Tryz.zeroValue162,
  t175:=Tryz.underlying188,
  a175:=Tryz.isAgg188,
  z175:=Tryz.sizeOf188,
  v175:=Tryz.zeroValue188,
  t210:=Tryz.underlying192,
  a210:=Tryz.isAgg192,
  z210:=Tryz.sizeOf192,
  v210:=Tryz.zeroValue192,
  t212:=Tryz.underlying176,
  a212:=Tryz.isAgg176,
  z212:=Tryz.sizeOf176,
  v212:=Tryz.zeroValue176,
  t213:=Tryz.underlying177,
  a213:=Tryz.isAgg177,
  z213:=Tryz.sizeOf177,
  t232:=Tryz.underlying208,
  a232:=Tryz.isAgg208,
  z232:=Tryz.sizeOf208,
  v232:=Tryz.zeroValue208,
  t233:=Tryz.underlying209,
  a233:=Tryz.isAgg209,
  z233:=Tryz.sizeOf209,
  v233:=Tryz.zeroValue209,
  g15:=by kernel_rfl,
  g16:=by kernel_rfl,
  g17:=by kernel_rfl,
  g18:=by kernel_rfl,
  g19:=by kernel_rfl }
theorem PJ (n a b:Int) (r:Bool) (hr:(decide (a<=n) && decide (n<=b))=r) (w:World):Calls Tryz.prog 92 #[.int .i64 n,.int .i64 a,.int .i64 b] w λ e w'=>e=.returned (.bool r)/\w'=w:=by
  go_enter Tryz.func92,Tryz.ntmps92
  by_cases h1:a<=n<;>by_cases h2:n<=b
  all_goals
    go_wp2
    go_ret
    rw [<- hr];simp [h1,h2]
theorem RR (d:yY) (cs:ByteArray) (hcs:cs.data.toList=wD) (h1:1<=d.length) (h2:d.length<=9) (w:World):Calls Tryz.prog 110 #[.string ⟨d.toArray⟩,.string cs] w λ e w'=>e=.returned (.string ⟨(Lib.trimS d wD).toArray⟩)/\D3 [] w w':=by
  have cD:cs.size=10:=by
    have:cs.size=cs.data.toList.length:=by rw [Array.length_toList]; rfl
    rw [this,hcs]; rfl
  have np:(Tryz.prog.info? (SE.t 116)).map (λ i=>(i.zero,i.size))=some (some (.agg (Array.replicate 256 (.bool false))),256):=by kernel_rfl
  refine (Any.strings_Trim_set Vm (zero_of_info np).1 (zero_of_info np).2 ⟨d.toArray⟩ cs w (by omega) (by simp [ByteArray.size]; omega) (by simp [ByteArray.size]; omega) (by omega) (ascii_of_all (by rw [hcs]; decide))).mono ?_;rintro e w' ⟨rfl,q,rfl⟩;rw [hcs];have key:∀ (o1 o2:Obj) (q:Nat),D3 [] w (((w.alloc o1).alloc o2).drewN q):=λ o1 o2 q=>by
    have hA:D3 [] w (w.alloc o1):=D3.push o1;have hB:D3 [] (w.alloc o1) ((w.alloc o1).alloc o2):=D3.push o2;have hD:D3 [] ((w.alloc o1).alloc o2) (((w.alloc o1).alloc o2).drewN q):=⟨rfl,⟨rfl,Nat.le_add_right _ _⟩,rfl,Nat.le_refl _,λ _ _ _=>rfl⟩;exact (hA.trans hB (λ b h=>absurd h (by simp))).trans hD (λ b h=>absurd h (by simp))
  exact ⟨rfl,key _ _ _⟩
theorem c1P (s:ByteArray) (n:Int) (h1:s.size<=18) (h:Lib.atoi s.data.toList=some n) (w:World):Calls Tryz.prog 85 #[.string s] w λ e w'=>e=.returned (.tuple #[.int .i64 n,.nilIface])/\D3 [] w w':=by
  refine (Any.strconv_Atoi MV s n h1 h w).mono ?_;rintro e w' ⟨rfl,t,rfl⟩;exact ⟨rfl,rfl,⟨rfl,Nat.le_succ _⟩,rfl,by rw [Lib.bytesWorld_size]; omega,λ j hj _=>Lib.bytesWorld_at_old w _ t j hj⟩
set_option maxHeartbeats 1000000 in
theorem b5x (s:ByteArray) (hs:s.size<=4294967280) (w:World):Calls Tryz.prog 91 #[.string s] w λ e w'=>e=.returned (.tuple #[.int .i64 (J7 s.data.toList).1,.bool (J7 s.data.toList).2])/\D3 [] w w':=by
  obtain ⟨d,hd⟩:∃ d,wL s.data.toList=d:=⟨_,rfl⟩;have ib:d.length<=s.size:=by
    rw [<- hd];unfold wL Lib.trimPrefix;have:s.size=s.data.toList.length:=by rw [Array.length_toList]; rfl
    split
    . rw [List.length_drop]; omega
    . omega
  go_enter Tryz.func91,Tryz.ntmps91
  go_wp2_with (go_at_call 109; refine (Any.strings_TrimPrefix TQ s ⟨#[45]⟩ _).mono ?_; rintro e w' ⟨rfl,rfl⟩)
  rw [show Lib.trimPrefix s.data.toList [45]=d from hd];by_cases hl:1<=d.length/\d.length<=9
  . refine (PJ _ _ _ true (by rw [Bool.and_eq_true,decide_eq_true_eq,decide_eq_true_eq]; omega) _).mono ?_;rintro e w' ⟨rfl,rfl⟩;cases hg:xH s.data.toList with
    | true =>
      obtain ⟨g1,n,g2,g3,g4⟩:=Qi hg;have g0:s.size<=18:=by
        have:s.size=s.data.toList.length:=by rw [Array.length_toList]; rfl
        omega
      have ht:Lib.trimS d wD=[]:=by
        rw [Re,<- hd];simp only [xH,Bool.and_eq_true] at hg;exact hg.2
      have hn:J7 s.data.toList=(n,true):=by unfold J7; rw [hg,if_pos rfl,g2]; rfl
      go_wp2_with (first
        | (go_at_call 110; refine (RR d _ ?hcs hl.1 hl.2 _).mono ?hpost; (case hcs=>rfl); rintro e w2 ⟨rfl,hp⟩; rw [ht])
        | (go_at_call 85; refine (c1P s n g0 g2 _).mono ?_; rintro e w3 ⟨rfl,ft⟩))
      go_region
      all_goals go_wp2
      go_ret2
      refine ⟨by rw [hn]; rfl,(hp.trans ft (λ b h=>by cases h)).trans D3.drew (λ b h=>by cases h)⟩
    | false =>
      have hn:J7 s.data.toList=(0,false):=by unfold J7; rw [hg]; rfl
      have ht:∃ x l,Lib.trimS d wD=x::l:=by
        cases h:Lib.trimS d wD with
        | cons x l=>exact ⟨x,l,rfl⟩
        | nil =>
          exfalso;rw [Re] at h;have:xH s.data.toList=true:=by
            simp only [xH,hd,Bool.and_eq_true,decide_eq_true_eq];exact ⟨hl,h⟩
          rw [this] at hg; cases hg
      obtain ⟨x,l,ht⟩:=ht
      go_wp2_with (go_at_call 110; fail)
      refine (RR d _ ?_ hl.1 hl.2 _).mono ?_
      . rfl
      rintro e w2 ⟨rfl,hp⟩;rw [ht]
      go_wp2
      go_ret2
      exact ⟨by rw [hn]; rfl,hp⟩
  . have hn:J7 s.data.toList=(0,false):=by
      unfold J7 xH;rw [if_neg];simp only [Bool.and_eq_true,decide_eq_true_eq,hd];exact λ h=>hl h.1
    refine (PJ _ _ _ false (by rw [Bool.and_eq_false_iff,decide_eq_false_iff_not,decide_eq_false_iff_not]; omega) _).mono ?_;rintro e w' ⟨rfl,rfl⟩
    go_wp2
    go_ret2
    exact ⟨by rw [hn]; rfl,rfl,.refl _,rfl,Nat.le_refl _,λ _ _ _=>rfl⟩
def MK:o7:={ ps:=[.v .str],rs:=[e8,.bool],pre:=λ x=>List.length (α:=UInt8) x.1<=4294967280,fn:=λ x=>((J7 x.1).1,(J7 x.1).2,()),out:=λ _=>() }
theorem WD (s:yY):r7 .i64 (J7 s).1:=by
  unfold J7
  split
  . rename_i h;obtain ⟨-,n,e,h1,h2⟩:=Qi h;rw [e];exact ⟨by show -9223372036854775808<=n; omega,by show n<=9223372036854775807; omega⟩
  . exact ⟨by decide,by decide⟩
theorem b4q:MK.Valid Tryz.prog 91:=by
  refine ⟨⟨_,Tryz.func91,by kernel_rfl,by kernel_rfl⟩,?_,λ h=>by cases h⟩;rintro w S vs ⟨(s:yY),⟨⟩⟩ L hS dG (hlen:s.length<=4294967280) ⟨v1,us,L1,L2,rfl,rfl,⟨rfl,cs,rfl,r1⟩,rfl,rfl⟩ - aJ hL;obtain ⟨-,rfl,hs⟩:=r1;refine (b5x ⟨s.toArray⟩ (by simpa [ByteArray.size] using hlen) w).mono ?_;rintro e w' ⟨rfl,hp⟩;refine ⟨[.int .i64 (J7 s).1,.bool (J7 s).2],[],[],S,rfl,hp,λ _ h=>h,λ b h=>.inl h,⟨_,_,[],[],[.int .i64 (J7 s).1],rfl,rfl,rfl,⟨rfl,rfl,WD s⟩,_,_,[],[],[.bool (J7 s).2],rfl,rfl,rfl,⟨rfl,rfl⟩,rfl,rfl⟩,⟨_,[],rfl,rfl,rfl⟩,by simp,by simp⟩
end Go.Proofs.YtijlnmgondibnaaGreatDoor
set_option linter.unusedVariables false
namespace Go.Proofs.YtijlnmgondibnaaGreatDoor
open Go.Ex
set_option maxRecDepth 100000
def c0J:Go.Shelf.Ren:=⟨λ|145=>84|217=>136|219=>113|220=>101|224=>138|225=>137|266=>153|267=>139|314=>154|n=>n,λ|3=>3|4=>4|5=>5|9=>9|46=>119|51=>117|59=>137|146=>201|n=>n,λ|1=>1|n=>n⟩
theorem Uh:Go.Proofs.Lays.n145 Tryz.prog c0J:={
  mixed:=by kernel_rfl,
  f145:=Tryz.func84.trans (congrArg some (by kernel_rfl)),
  f217:=Tryz.func136.trans (congrArg some (by kernel_rfl)),
  f219:=Tryz.func113.trans (congrArg some (by kernel_rfl)),
  f220:=Tryz.func101.trans (congrArg some (by kernel_rfl)),
  f224:=Tryz.func138.trans (congrArg some (by kernel_rfl)),
  f225:=Tryz.func137.trans (congrArg some (by kernel_rfl)),
  f266:=Tryz.func153.trans (congrArg some (by kernel_rfl)),
  f267:=Tryz.func139.trans (congrArg some (by kernel_rfl)),
  f314:=Tryz.func154.trans (congrArg some (by kernel_rfl)),
  t3:=Tryz.underlying3,
  a3:=Tryz.isAgg3,
  z3:=Tryz.sizeOf3,
  v3:=Tryz.zeroValue3,
  t4:=Tryz.underlying4,
  a4:=Tryz.isAgg4,
  z4:=Tryz.sizeOf4,
  v4:=Tryz.zeroValue4,
  t5:=Tryz.underlying5,
  a5:=Tryz.isAgg5,
  z5:=Tryz.sizeOf5,
  v5:=Tryz.zeroValue5,
  t9:=Tryz.underlying9,
  a9:=Tryz.isAgg9,
  z9:=Tryz.sizeOf9,
  v9:=Tryz.zeroValue9,
  t46:=Tryz.underlying119,
  a46:=Tryz.isAgg119,
  z46:=Tryz.sizeOf119,
  v46:=Tryz.zeroValue119,
  t51:=Tryz.underlying117,
  a51:=Tryz.isAgg117,
  z51:=Tryz.sizeOf117,
  v51:=Tryz.zeroValue117,
  t59:=Tryz.underlying137,
  a59:=Tryz.isAgg137,
  z59:=Tryz.sizeOf137,
  v59:=Tryz.zeroValue137,
  t146:=Tryz.underlying201,
  a146:=Tryz.isAgg201,
  z146:=Tryz.sizeOf201,
  v146:=Tryz.zeroValue201,
  g1:=by kernel_rfl }
def Hy:o7:={ ps:=[.v e8],rs:=[.str],pre:=λ _=>True,fn:=λ x=>(C9 x.1,()),out:=λ _=>() }
theorem Tf:Hy.Valid Tryz.prog 50:=by
  refine ⟨⟨_,Tryz.func50,by kernel_rfl,by kernel_rfl⟩,?_,λ h=>by cases h⟩;rintro w S vs ⟨(n:Int),⟨⟩⟩ L hS dG - ⟨v1,us,L1,L2,rfl,rfl,⟨rfl,cs,rfl,r1⟩,rfl,rfl⟩ - aJ hL;obtain ⟨-,rfl,(hn:r7 .i64 n)⟩:=r1;obtain ⟨h0,h1⟩:=F0.1 hn;obtain ⟨-,cs,h2,h3⟩:=dG _ (List.mem_cons_self ..) 0 (by kernel_rfl);refine (Any.strconv_Itoa Vl n h0 h1 w (h2.trans (congrArg some h3))).mono ?_;rintro e w' ⟨rfl,k,os,rfl⟩;refine ⟨[.string ⟨(Lib.itoa n).toArray⟩],[],[],S,rfl,YK,λ _ h=>h,λ b h=>.inl h,⟨_,[],[],[],[.string ⟨(Lib.itoa n).toArray⟩],rfl,rfl,rfl,⟨rfl,?_,?_⟩,rfl,rfl⟩,⟨_,[],rfl,rfl,rfl⟩,by simp,by simp⟩
  . rw [WC h0 h1]; rfl
  . have:=Ce h0 h1;show (C9 n).length<=maxLen;exact Nat.le_trans this (by decide)
def Gs:o7:={ ps:=[.v .str],rs:=[e8,.fn 4000000],pre:=λ x=>List.length (α:=UInt8) x.1<=18/\(Lib.atoi x.1).isSome=true,fn:=λ x=>((Lib.atoi x.1).getD 0,false,()),out:=λ _=>() }
theorem decFrom_lt:∀ {l:yY} {a n:Nat},Lib.decFrom a l=some n->n<(a+1)*10^l.length
  | [],a,n,h=>by
    simp only [Lib.decFrom,Option.some.injEq] at h;subst h;simp
  | b::l,a,n,h=>by
    rw [Lib.decFrom] at h;cases e:Lib.digitVal b with
    | none=>rw [e] at h; cases h
    | some d =>
      rw [e] at h;have h1:=decFrom_lt h;have hd:d<=9:=by
        unfold Lib.digitVal at e;split at e
        . simp only [Option.some.injEq] at e; omega
        . cases e
      refine Nat.lt_of_lt_of_le h1 ?_;rw [List.length_cons,Nat.pow_succ,Nat.mul_comm (10^l.length) 10,<- Nat.mul_assoc];exact Nat.mul_le_mul_right _ (by omega)
theorem JG {l:yY} {n:Nat} (h:Lib.decNat l=some n) (hl:l.length<=18):n<1000000000000000000:=by
  unfold Lib.decNat at h;split at h
  . cases h
  . have h1:=decFrom_lt h;have h2:10^l.length<=10^18:=Nat.pow_le_pow_right (by decide) hl;have h3:(10:Nat)^18=1000000000000000000:=by decide
    omega
theorem US {l:yY} {n:Int} (h:Lib.atoi l=some n) (hl:l.length<=18):-1000000000000000000<n/\n<1000000000000000000:=by
  cases l with
  | nil=>cases h
  | cons b r =>
    rw [Lib.atoi] at h;simp only [List.length_cons] at hl;split at h
    . cases e:Lib.decNat r with
      | none=>rw [e] at h; cases h
      | some m=>rw [e] at h; simp only [Option.map_some,Option.some.injEq] at h; have:=JG e (by omega); omega
    . split at h
      . cases e:Lib.decNat r with
        | none=>rw [e] at h; cases h
        | some m=>rw [e] at h; simp only [Option.map_some,Option.some.injEq] at h; have:=JG e (by omega); omega
      . cases e:Lib.decNat (b::r) with
        | none=>rw [e] at h; cases h
        | some m=>rw [e] at h; simp only [Option.map_some,Option.some.injEq] at h; have:=JG e (by simp only [List.length_cons]; omega); omega
theorem b8t:Gs.Valid Tryz.prog 85:=by
  refine ⟨⟨_,Tryz.func85,by kernel_rfl,by kernel_rfl⟩,?_,λ h=>by cases h⟩;rintro w S vs ⟨(s:yY),⟨⟩⟩ L hS dG ⟨(h1:s.length<=18),(h2:(Lib.atoi s).isSome=true)⟩ ⟨v1,us,L1,L2,rfl,rfl,⟨rfl,cs,rfl,r1⟩,rfl,rfl⟩ - aJ hL;obtain ⟨-,rfl,hs⟩:=r1;obtain ⟨n,hn⟩:=Option.isSome_iff_exists.1 h2;refine (Any.strconv_Atoi MV ⟨s.toArray⟩ n (by rw [bsz]; exact h1) hn w).mono ?_;rintro e w' ⟨rfl,t,rfl⟩;have hf:Gs.fn (s,())=(n,false,()):=by
    show ((Lib.atoi s).getD 0,false,())=(n,false,());rw [hn]; rfl
  rw [hf];have hr:=US hn h1;refine ⟨[.int .i64 n,.nilIface],[],[],S,rfl,⟨rfl,⟨rfl,Nat.le_succ _⟩,rfl,by rw [Lib.bytesWorld_size]; omega,λ j hj _=>Lib.bytesWorld_at_old w _ t j hj⟩,λ _ h=>h,λ b h=>.inl h,⟨_,_,[],[],[.int .i64 n],rfl,rfl,rfl,⟨rfl,rfl,?_⟩,_,_,[],[],[.nilIface],rfl,rfl,rfl,⟨rfl,rfl⟩,rfl,rfl⟩,⟨_,[],rfl,rfl,rfl⟩,by simp,by simp⟩;exact ⟨by show -9223372036854775808<=n; omega,by show n<=9223372036854775807; omega⟩
def Lu:o7:={ ps:=[.v .str,.v .str],rs:=[.str,.str,.bool],pre:=λ x=>List.length (α:=UInt8) x.1<=1000000/\Eq (α:=yY) x.2.1 [58],fn:=λ x=>((x7 x.1).1,(x7 x.1).2.1,(x7 x.1).2.2,()),out:=λ _=>() }
theorem ZW:Lu.Valid Tryz.prog 84:=by
  refine ⟨⟨_,Tryz.func84,by kernel_rfl,by kernel_rfl⟩,?_,λ h=>by cases h⟩;rintro w S vs ⟨(s:yY),(p:yY),⟨⟩⟩ L hS dG ⟨(h1:s.length<=1000000),(h2:p=[58])⟩ ⟨v1,us,L1,L2,rfl,rfl,⟨rfl,cs,rfl,r1⟩,v2,us2,L3,L4,rfl,rfl,⟨rfl,cs2,rfl,r2⟩,rfl,rfl⟩ - aJ hL;obtain ⟨-,rfl,hs⟩:=r1;obtain ⟨-,rfl,hp⟩:=r2;obtain ⟨-,cs,g2,m,g3⟩:=dG ("internal/bytealg.MaxLen",_) (List.mem_cons_of_mem _ (List.mem_cons_self ..)) 1 (by kernel_rfl)
  have hm:w.cell? ⟨1,0,none⟩=some (.int .i64 m):=by
    have:=World.var?_cell (show Tryz.prog.globalNamed "internal/bytealg.MaxLen"=some 1 by kernel_rfl) g2 0
    rw [this,g3]
  refine (Any.strings_Cut Uh ⟨s.toArray⟩ ⟨p.toArray⟩ m w (by rw [bsz]; omega) hm).mono ?_;rintro e w' ⟨rfl,k,rfl⟩;have hc:Lib.cut (ByteArray.mk s.toArray).data.toList (ByteArray.mk p.toArray).data.toList=x7 s:=by
    show Lib.cut s p=x7 s;rw [h2,ML]
  rw [hc];have hl:=Bv s;have hD:D3 [] w (w.drewN k):=⟨rfl,⟨rfl,Nat.le_add_right _ _⟩,rfl,Nat.le_refl _,λ _ _ _=>rfl⟩;have iC:maxLen=9223372036854775807:=by decide
  refine ⟨[.string ⟨(x7 s).1.toArray⟩,.string ⟨(x7 s).2.1.toArray⟩,.bool (x7 s).2.2],[],[],S,rfl,hD,λ _ h=>h,λ b h=>.inl h,⟨_,_,[],[],[_],rfl,rfl,rfl,⟨rfl,rfl,?_⟩,_,_,[],[],[_],rfl,rfl,rfl,⟨rfl,rfl,?_⟩,_,_,[],[],[_],rfl,rfl,rfl,⟨rfl,rfl⟩,rfl,rfl⟩,⟨_,_,rfl,⟨_,[],rfl,rfl,rfl⟩⟩,by simp,by simp⟩
  . show (x7 s).1.length<=maxLen; omega
  . show (x7 s).2.1.length<=maxLen; omega
end Go.Proofs.YtijlnmgondibnaaGreatDoor
namespace Go.Proofs.YtijlnmgondibnaaGreatDoor
open Go.Ex
set_option maxRecDepth 100000
attribute [local irreducible] Go.Ex.exec
theorem JD {x:yY} {w:f8}:∀ p,(G4 x w p).2.1=w.2.1/\(G4 x w p).1=w.1/\(G4 x w p).2.2.1=w.2.2.1
  | 0=>⟨rfl,rfl,rfl⟩
  | p+1=>by
    obtain ⟨h1,h2,h3⟩:=JD (x:=x) (w:=w) p;rw [G4]
    split
    . obtain ⟨g1,g2,g3⟩:=Ca (w:=G4 x w p) (k:=2) (f:=J8 (G4 x w p)) (t:=p) (s:=((G4 x w p).2.2.1.length:Int) - 1) (x:=x);exact ⟨g1.trans h1,g2.trans h2,g3.trans h3⟩
    . exact ⟨h1,h2,h3⟩
theorem YV {x:yY} {w:f8} {p:Nat} (h:s5 (G4 x w p) p=true):G4 x w (p+1)=J5 (G4 x w p) 2 (J8 (G4 x w p)) p (((G4 x w p).2.2.1.length:Int) - 1) x:=by
  rw [G4]; exact if_pos h
theorem YU {x:yY} {w:f8} {p:Nat} (h:s5 (G4 x w p) p=false):G4 x w (p+1)=G4 x w p:=by
  rw [G4]; exact if_neg (by rw [h]; decide)
theorem Kk {f first:Int} {l:List yY} {w:f8}:∀ i,(I8 f first l w i).2.1=w.2.1/\(I8 f first l w i).1=w.1/\(I8 f first l w i).2.2.1.length=w.2.2.1.length+i
  | 0=>⟨rfl,rfl,rfl⟩
  | i+1=>by
    obtain ⟨h1,h2,h3⟩:=Kk (f:=f) (first:=first) (l:=l) (w:=w) i;rw [I8];obtain ⟨g1,g2,g3⟩:=JD (x:=I7 f (first+i) (l.getD i [])) (w:=zt (I8 f first l w i) (I7 f (first+i) (l.getD i []))) (I8 f first l w i).2.1.length;refine ⟨g1.trans h1,g2.trans h2,?_⟩;rw [g3];show ((I8 f first l w i).2.2.1++[_]).length=_;rw [List.length_append,h3]; rfl
def HA:o7:={ ps:=[.rw r9,.v zf],rs:=[],pre:=λ x=>List.length (α:=n7) (x.1:f8).2.1<=6/\(¬ known x.1 x.2.1.2.1≠0)/\List.length (α:=yY) (x.1:f8).2.2.1<=1000000000000,fn:=λ _=>(),out:=λ x=>(X0 x.1 x.2.1,()) }
noncomputable def yH:Env:={ P:=Tryz.prog,tt:=tt,C5:=[(83,GJ),(50,Hy),(47,ym),(43,zp),(44,yX)],res:=[],rs:=[],ps:=[PK.rw r9,PK.v (Ty.pair e8 (Ty.pair e8 (Ty.pair e8 (Ty.pair e8 (Ty.pair e8 (Ty.pair X7 (Ty.pair Ty.str Ty.unit)))))))],y9:=[(7,[(0,none),(3,none),(8,none),(45,some (Ty.d0 true Ty.str)),(46,none),(47,none)]),(12,[(0,none),(3,none),(8,none),(11,none),(45,some (Ty.d0 true Ty.str)),(46,none),(47,none),(78,none),(79,none)])],nt:=99 }
theorem Ez:w5 yH:=x6 p9 ⟨SO,Tf,BV,EN,EE,trivial⟩
theorem EA:B0 yH Tryz.f66:=⟨rfl,rfl⟩
theorem XL (ai:Int) (af:Int) (ab:List n7) (ae:List yY) (aa:List yY) (bs:Int) (aF:Int) (aE:Int) (aX:Int) (aI:Int) (aT:List Int) (aB:yY):exec yH 1000 [.code (d8 Tryz.prog 66)] (s7 HA.ps ((((ai,af,()),ab,ae,aa,()),(bs,aF,aE,aX,aI,aT,aB,()),()))) =
  .f7 ((0:Int)<=aF/\aF<(↑(List.length ab):Int)) (.f7 (True) (cond (decide (Prod.fst (Prod.snd (Prod.snd (D6 (Prod.fst (Prod.snd (Prod.snd (Prod.snd (Prod.snd (List.getD ab (Int.toNat aF) (false,[],((0:Int),[],()),((0:Int),[],()),((0:Int),[],()),()))))))) (aI,aB,()))))≠(0:Int))) (.ret ((((ai,af,()),ab,ae,aa,()),()))) (.ctL (g8 (d8 Tryz.prog 66) 7) (St.mk [(0,AV.ptr 2000000 []),(3,AV.ptr 3 []),(8,AV.val e8 (Prod.fst (Prod.fst (Prod.snd (Prod.snd (Prod.snd (Prod.snd (List.getD ab (Int.toNat aF) (false,[],((0:Int),[],()),((0:Int),[],()),((0:Int),[],()),()))))))))),(45,AV.at_ 1000045 []),(46,AV.val e8 (↑(List.length (Prod.fst (Prod.snd (D6 (Prod.fst (Prod.snd (Prod.snd (Prod.snd (Prod.snd (List.getD ab (Int.toNat aF) (false,[],((0:Int),[],()),((0:Int),[],()),((0:Int),[],()),()))))))) (aI,aB,()))))):Int)),(47,AV.val e8 (0:Int))] [(3,g9.var (Ty.pair e8 (Ty.pair e8 (Ty.pair e8 (Ty.pair e8 (Ty.pair e8 (Ty.pair X7 (Ty.pair Ty.str Ty.unit))))))) (bs,aF,aE,aX,aI,aT,aB,())),(1000045,g9.own (Ty.d0 true Ty.str) (Prod.fst (Prod.snd (D6 (Prod.fst (Prod.snd (Prod.snd (Prod.snd (Prod.snd (List.getD ab (Int.toNat aF) (false,[],((0:Int),[],()),((0:Int),[],()),((0:Int),[],()),()))))))) (aI,aB,()))))),(2000000,g9.var r9 ((ai,af,()),List.set ab (Int.toNat aF) (Prod.fst (List.getD ab (Int.toNat aF) (false,[],((0:Int),[],()),((0:Int),[],()),((0:Int),[],()),())),Prod.fst (Prod.snd (List.getD ab (Int.toNat aF) (false,[],((0:Int),[],()),((0:Int),[],()),((0:Int),[],()),()))),Prod.fst (Prod.snd (Prod.snd (List.getD ab (Int.toNat aF) (false,[],((0:Int),[],()),((0:Int),[],()),((0:Int),[],()),())))),Prod.fst (Prod.snd (Prod.snd (Prod.snd (List.getD ab (Int.toNat aF) (false,[],((0:Int),[],()),((0:Int),[],()),((0:Int),[],()),()))))),Prod.fst (D6 (Prod.fst (Prod.snd (Prod.snd (Prod.snd (Prod.snd (List.getD ab (Int.toNat aF) (false,[],((0:Int),[],()),((0:Int),[],()),((0:Int),[],()),()))))))) (aI,aB,())),Prod.snd (Prod.snd (Prod.snd (Prod.snd (Prod.snd (List.getD ab (Int.toNat aF) (false,[],((0:Int),[],()),((0:Int),[],()),((0:Int),[],()),()))))))),ae,aa,()))])))):=by kernel_rfl
def Ka (v8:Int) (v46:Int) (uH:Int) (cz:Int) (aV:Int) (aR:Int) (aL:Int) (aC:Int) (aw:List Int) (aq:yY) (cg:List yY) (au:Int) (an:Int) (aj:List n7) (ak:List yY) (ah:List yY):St:=St.mk [(0,AV.ptr 2000000 []),(3,AV.ptr 3 []),(8,AV.val e8 v8),(45,AV.at_ 1000045 []),(46,AV.val e8 v46),(47,AV.val e8 uH)] [(3,g9.var (Ty.pair e8 (Ty.pair e8 (Ty.pair e8 (Ty.pair e8 (Ty.pair e8 (Ty.pair X7 (Ty.pair Ty.str Ty.unit))))))) (cz,aV,aR,aL,aC,aw,aq,())),(1000045,g9.own (Ty.d0 true Ty.str) cg),(2000000,g9.var r9 ((au,an,()),aj,ak,ah,()))]
theorem Zs (v8:Int) (v46:Int) (uH:Int) (cz:Int) (aV:Int) (aR:Int) (aL:Int) (aC:Int) (aw:List Int) (aq:yY) (cg:List yY) (au:Int) (an:Int) (aj:List n7) (ak:List yY) (ah:List yY):exec yH 1000 (.code (g8 (d8 Tryz.prog 66) 7).1::.inLoop (g8 (d8 Tryz.prog 66) 7).1::(g8 (d8 Tryz.prog 66) 7).2) (Ka v8 v46 uH cz aV aR aL aC aw aq cg au an aj ak ah) =
  cond (decide (uH<v46)) (.f7 ((0:Int)<=uH/\uH<(↑(List.length cg):Int)) (.f7 (True) (.f7 (List.length (C9 aV)+List.length (Array.toList (ByteArray.data (ByteArray.mk #[58])))<=Go.maxLen) (.f7 (r7 IntKind.i64 (v8+uH)) (.f7 (True) (.f7 (List.length (C9 aV++Array.toList (ByteArray.data (ByteArray.mk #[58])))+List.length (C9 (v8+uH))<=Go.maxLen) (.f7 (List.length (C9 aV++Array.toList (ByteArray.data (ByteArray.mk #[58]))++C9 (v8+uH))+List.length (Array.toList (ByteArray.data (ByteArray.mk #[58])))<=Go.maxLen) (.f7 (List.length (C9 aV++Array.toList (ByteArray.data (ByteArray.mk #[58]))++C9 (v8+uH)++Array.toList (ByteArray.data (ByteArray.mk #[58])))+List.length (List.getD cg (Int.toNat uH) [])<=Go.maxLen) (.f7 (True/\True/\[]++[Step.l7 2]=[]++[Step.l7 2]/\List.length ak+List.length (List.set [[]] (Int.toNat (↑0:Int)) (C9 aV++Array.toList (ByteArray.data (ByteArray.mk #[58]))++C9 (v8+uH)++Array.toList (ByteArray.data (ByteArray.mk #[58]))++List.getD cg (Int.toNat uH) []))<=140737488355328/\(List.length ak+List.length (List.set [[]] (Int.toNat (↑0:Int)) (C9 aV++Array.toList (ByteArray.data (ByteArray.mk #[58]))++C9 (v8+uH)++Array.toList (ByteArray.data (ByteArray.mk #[58]))++List.getD cg (Int.toNat uH) [])))*Ty.wb Ty.str<=140737488355328) (.ctL (g8 (d8 Tryz.prog 66) 12) (St.mk [(0,AV.ptr 2000000 []),(3,AV.ptr 3 []),(8,AV.val e8 v8),(11,AV.val Ty.str (C9 aV++Array.toList (ByteArray.data (ByteArray.mk #[58]))++C9 (v8+uH)++Array.toList (ByteArray.data (ByteArray.mk #[58]))++List.getD cg (Int.toNat uH) [])),(45,AV.at_ 1000045 []),(46,AV.val e8 v46),(47,AV.val e8 uH),(78,AV.val e8 (↑(List.length aj):Int)),(79,AV.val e8 (0:Int))] [(3,g9.var (Ty.pair e8 (Ty.pair e8 (Ty.pair e8 (Ty.pair e8 (Ty.pair e8 (Ty.pair X7 (Ty.pair Ty.str Ty.unit))))))) (cz,aV,aR,aL,aC,aw,aq,())),(1000045,g9.own (Ty.d0 true Ty.str) cg),(2000000,g9.var r9 ((au,an,()),aj,ak++List.set [[]] (Int.toNat (↑0:Int)) (C9 aV++Array.toList (ByteArray.data (ByteArray.mk #[58]))++C9 (v8+uH)++Array.toList (ByteArray.data (ByteArray.mk #[58]))++List.getD cg (Int.toNat uH) []),ah,()))]))))))))))) (.ret ((((au,an,()),aj,ak,ah,()),()))):=by kernel_rfl
def Kr (v8:Int) (v11:yY) (v46:Int) (uH:Int) (yU:Int) (wA:Int) (cz:Int) (aV:Int) (aR:Int) (aL:Int) (aC:Int) (aw:List Int) (aq:yY) (cg:List yY) (au:Int) (an:Int) (aj:List n7) (ak:List yY) (ah:List yY):St:=St.mk [(0,AV.ptr 2000000 []),(3,AV.ptr 3 []),(8,AV.val e8 v8),(11,AV.val Ty.str v11),(45,AV.at_ 1000045 []),(46,AV.val e8 v46),(47,AV.val e8 uH),(78,AV.val e8 yU),(79,AV.val e8 wA)] [(3,g9.var (Ty.pair e8 (Ty.pair e8 (Ty.pair e8 (Ty.pair e8 (Ty.pair e8 (Ty.pair X7 (Ty.pair Ty.str Ty.unit))))))) (cz,aV,aR,aL,aC,aw,aq,())),(1000045,g9.own (Ty.d0 true Ty.str) cg),(2000000,g9.var r9 ((au,an,()),aj,ak,ah,()))]
theorem b8F (v8:Int) (v11:yY) (v46:Int) (uH:Int) (yU:Int) (wA:Int) (cz:Int) (aV:Int) (aR:Int) (aL:Int) (aC:Int) (aw:List Int) (aq:yY) (cg:List yY) (au:Int) (an:Int) (aj:List n7) (ak:List yY) (ah:List yY):exec yH 1000 (.code (g8 (d8 Tryz.prog 66) 12).1::.inLoop (g8 (d8 Tryz.prog 66) 12).1::(g8 (d8 Tryz.prog 66) 12).2) (Kr v8 v11 v46 uH yU wA cz aV aR aL aC aw aq cg au an aj ak ah) =
  cond (decide (wA<yU)) (.f7 (List.length aj<=6) (cond (s5 ((au,an,()),aj,ak,ah,()) wA) (.f7 (True) (.f7 (r7 IntKind.i64 ((↑(List.length ak):Int) - (1:Int))) (.f7 (True) (.f7 (r7 IntKind.i64 (wA+(1:Int))) (.ctL (g8 (d8 Tryz.prog 66) 12) (St.mk [(0,AV.ptr 2000000 []),(3,AV.ptr 3 []),(8,AV.val e8 v8),(11,AV.val Ty.str v11),(45,AV.at_ 1000045 []),(46,AV.val e8 v46),(47,AV.val e8 uH),(78,AV.val e8 yU),(79,AV.val e8 (wA+(1:Int)))] [(3,g9.var (Ty.pair e8 (Ty.pair e8 (Ty.pair e8 (Ty.pair e8 (Ty.pair e8 (Ty.pair X7 (Ty.pair Ty.str Ty.unit))))))) (cz,aV,aR,aL,aC,aw,aq,())),(1000045,g9.own (Ty.d0 true Ty.str) cg),(2000000,g9.var r9 (J5 ((au,an,()),aj,ak,ah,()) (2:Int) (J8 ((au,an,()),aj,ak,ah,())) wA ((↑(List.length ak):Int) - (1:Int)) v11))])))))) (.f7 (r7 IntKind.i64 (wA+(1:Int))) (.ctL (g8 (d8 Tryz.prog 66) 12) (St.mk [(0,AV.ptr 2000000 []),(3,AV.ptr 3 []),(8,AV.val e8 v8),(11,AV.val Ty.str v11),(45,AV.at_ 1000045 []),(46,AV.val e8 v46),(47,AV.val e8 uH),(78,AV.val e8 yU),(79,AV.val e8 (wA+(1:Int)))] [(3,g9.var (Ty.pair e8 (Ty.pair e8 (Ty.pair e8 (Ty.pair e8 (Ty.pair e8 (Ty.pair X7 (Ty.pair Ty.str Ty.unit))))))) (cz,aV,aR,aL,aC,aw,aq,())),(1000045,g9.own (Ty.d0 true Ty.str) cg),(2000000,g9.var r9 ((au,an,()),aj,ak,ah,()))]))))) (.f7 (r7 IntKind.i64 (uH+(1:Int))) (.ctL (g8 (d8 Tryz.prog 66) 7) (St.mk [(0,AV.ptr 2000000 []),(3,AV.ptr 3 []),(8,AV.val e8 v8),(45,AV.at_ 1000045 []),(46,AV.val e8 v46),(47,AV.val e8 (uH+(1:Int)))] [(3,g9.var (Ty.pair e8 (Ty.pair e8 (Ty.pair e8 (Ty.pair e8 (Ty.pair e8 (Ty.pair X7 (Ty.pair Ty.str Ty.unit))))))) (cz,aV,aR,aL,aC,aw,aq,())),(1000045,g9.own (Ty.d0 true Ty.str) cg),(2000000,g9.var r9 ((au,an,()),aj,ak,ah,()))]))):=by kernel_rfl
attribute [local irreducible] X0 J5 D6 C9 I8 G4 in
theorem b51:HA.Valid Tryz.prog 66:=by
  refine o7.n8 Ez rfl rfl Tryz.func66 (c:=d8 Tryz.prog 66) rfl rfl EA rfl ?_;rintro ⟨⟨⟨(v0:Int),(v1:Int),⟨⟩⟩,(al:List n7),(od:List yY),(wy:List yY),⟨⟩⟩,⟨(nk:Int),(nf:Int),(nt:Int),(nv:Int),(ns:Int),(na:List Int),(nx:yY),⟨⟩⟩,⟨⟩⟩ ⟨(hp:al.length<=6),(hk:¬ known ((v0,v1,()),al,od,wy,()) nf≠0),(ho:od.length<=1000000000000)⟩ ⟨-,⟨⟨-,(nG:r7 .i64 nf),-⟩,-⟩⟩;refine j8 (n:=1000) Ez EA ?_;refine i7 (XL v0 v1 al od wy nk nf nt nv ns na nx) ?_;simp only [j6,Tree.holds,sL];have key:∀ r:f8,X0 ((v0,v1,()),al,od,wy,()) (nk,nf,nt,nv,ns,na,nx,())=r->(((r,()):f8×Unit)=(X0 ((v0,v1,()),al,od,wy,()) (nk,nf,nt,nv,ns,na,nx,()),())):=by rintro r rfl; rfl
  have e1:=λ a=>(X0.eq_1 ((v0,v1,()),al,od,wy,()) (nk,nf,nt,nv,ns,na,nx,())).trans (if_pos a);have e2:=λ a=>(X0.eq_1 ((v0,v1,()),al,od,wy,()) (nk,nf,nt,nv,ns,na,nx,())).trans (if_neg a);refine ⟨Bz hk,λ _=>⟨λ a=>key _ (e1 a),λ a=>?_⟩⟩;have e3:=e2 a;have bt:=yM (Decidable.not_not.1 a);obtain ⟨w,hw⟩:∃ w:f8,w=xZ ((v0,v1,()),al,od,wy,()) nf (xP (N6 ((v0,v1,()),al,od,wy,()) nf) (Y5 ((v0,v1,()),al,od,wy,()) (nk,nf,nt,nv,ns,na,nx,())).1):=⟨_,rfl⟩;obtain ⟨first,hf⟩:∃ first,first=(N6 ((v0,v1,()),al,od,wy,()) nf).2.2.2.2.1.1:=⟨_,rfl⟩
  obtain ⟨l,hl⟩:∃ l,l=(Y5 ((v0,v1,()),al,od,wy,()) (nk,nf,nt,nv,ns,na,nx,())).2.1:=⟨_,rfl⟩;have rv:w.2.1.length=al.length:=by rw [hw]; exact List.length_set ..
  have qv:w.2.2.1=od:=by rw [hw]; rfl
  have h0:0<=first/\first<=16777215:=by rw [hf]; exact bt.2.2.2.1
  have jQ:l.length<=16:=by rw [hl]; exact bt.2.2.1
  have bc:∀ t∈l,E2 t=false:=by rw [hl]; exact λ t ht=>(bt.1 t ht).2
  suffices go:Go.Ex.Reach yH Tryz.f66 () (I8 nf first l w l.length,()) (.code (g8 (d8 Tryz.prog 66) 7).1::.inLoop (g8 (d8 Tryz.prog 66) 7).1::(g8 (d8 Tryz.prog 66) 7).2) (Ka first (l.length:Int) ((0:Nat):Int) nk nf nt nv ns na nx l (I8 nf first l w 0).1.1 (I8 nf first l w 0).1.2.1 (I8 nf first l w 0).2.1 (I8 nf first l w 0).2.2.1 (I8 nf first l w 0).2.2.2.1) by
    subst hw; subst hf; subst hl;rw [e3];rw [I8] at go;exact go
  refine Reach.M0 Ez EA (λ i:Nat=>Ka first (l.length:Int) (i:Int) nk nf nt nv ns na nx l (I8 nf first l w i).1.1 (I8 nf first l w i).1.2.1 (I8 nf first l w i).2.1 (I8 nf first l w i).2.2.1 (I8 nf first l w i).2.2.2.1) (λ i=>i<=l.length)
    (λ i=>l.length - i) 1000 (λ _=>⟨s6 rfl,s6 rfl⟩) ?_ 0 (Nat.zero_le _)
  rintro i k1 - ih;have k1:i<=l.length:=k1;refine i7 (Zs ..) ?_;have e4:((i:Nat):Int)+1=((i+1:Nat):Int):=by omega
  obtain ⟨t1,t2,t3⟩:=Kk (f:=nf) (first:=first) (l:=l) (w:=w) i;rw [qv] at t3;have ml:(C9 nf).length<=20:=Ce (F0.1 nG).1 (F0.1 nG).2;have rZ:(C9 (first+i)).length<=20:=Ce (by omega) (by omega);have dG:i<l.length->(l.getD i []).length<=200:=λ h=>Jw (bc _ (by rw [List.getD_eq_getElem?_getD,List.getElem?_eq_getElem h]; exact List.getElem_mem _));have iC:maxLen=9223372036854775807:=by decide
  have ij:Ty.wb .str=16:=rfl;simp only [j6,Tree.holds,e4,sL];refine ⟨λ c=>⟨by omega,λ _=>⟨?_,λ _=>⟨?_,λ _=>⟨?_,λ _=>⟨?_,λ _=>⟨?_,λ _=>⟨?_,λ _=>?_⟩⟩⟩⟩⟩⟩⟩,λ c=>?_⟩
  . simp only [List.length_cons,List.length_nil,iC]; omega
  . exact ⟨by omega,by omega⟩
  . simp only [List.length_append,List.length_cons,List.length_nil,iC]; omega
  . simp only [List.length_append,List.length_cons,List.length_nil,iC]; omega
  . have:=dG (by omega);simp only [List.length_append,List.length_cons,List.length_nil,iC]; omega
  . rw [ij,t3]; omega
  . obtain ⟨x,hx⟩:∃ x,x=I7 nf (first+i) (l.getD i []):=⟨_,rfl⟩;obtain ⟨u,hu⟩:∃ u,u=zt (I8 nf first l w i) x:=⟨_,rfl⟩;have ou:u.2.1=(I8 nf first l w i).2.1:=by rw [hu]; rfl
    suffices go:Go.Ex.Reach yH Tryz.f66 () (I8 nf first l w l.length,()) (.code (g8 (d8 Tryz.prog 66) 12).1::.inLoop (g8 (d8 Tryz.prog 66) 12).1::(g8 (d8 Tryz.prog 66) 12).2) (Kr first x (l.length:Int) (i:Int) (u.2.1.length:Int) ((0:Nat):Int) nk nf nt nv ns na nx l (G4 x u 0).1.1 (G4 x u 0).1.2.1 (G4 x u 0).2.1 (G4 x u 0).2.2.1 (G4 x u 0).2.2.2.1) by
      subst hu; subst hx;rw [G4] at go;exact go
    refine Reach.M0 Ez EA (λ p:Nat=>Kr first x (l.length:Int) (i:Int) (u.2.1.length:Int) (p:Int) nk nf nt nv ns na nx l (G4 x u p).1.1 (G4 x u p).1.2.1 (G4 x u p).2.1 (G4 x u p).2.2.1 (G4 x u p).2.2.2.1) (λ p=>p<=u.2.1.length)
      (λ p=>u.2.1.length - p) 1000 (λ _=>⟨s6 rfl,s6 rfl⟩) ?_ 0 (Nat.zero_le _)
    rintro p k2 - ih2;have k2:p<=u.2.1.length:=k2;refine i7 (b8F ..) ?_;have e5:((p:Nat):Int)+1=((p+1:Nat):Int):=by omega
    obtain ⟨c1,c2,c3⟩:=JD (x:=x) (w:=u) p;have rE:u.2.1.length<=6:=by rw [ou,t1,rv]; exact hp
    have rD:u.2.2.1.length=od.length+i+1:=by rw [hu]; show ((I8 nf first l w i).2.2.1++[x]).length=_; rw [List.length_append,t3]; rfl
    simp only [j6,Tree.holds,e5,sL];refine ⟨λ d=>⟨?_,λ _=>⟨λ e=>⟨?_,λ _=>⟨?_,λ _=>?_⟩⟩,λ e=>⟨?_,λ _=>?_⟩⟩⟩,λ d=>⟨?_,λ _=>?_⟩⟩
    . rw [c1]; exact rE
    . rw [c3,rD]; exact ⟨by omega,by omega⟩
    . exact ⟨by omega,by omega⟩
    . have:=ih2 (p+1) (by show p+1<=u.2.1.length; omega) (by show u.2.1.length - (p+1)<u.2.1.length - p; omega);rw [YV e] at this;exact this
    . exact ⟨by omega,by omega⟩
    . have:=ih2 (p+1) (by show p+1<=u.2.1.length; omega) (by show u.2.1.length - (p+1)<u.2.1.length - p; omega);rw [YU e] at this;exact this
    . exact ⟨by omega,by omega⟩
    . obtain rfl:p=u.2.1.length:=by omega
      have:=ih (i+1) (by show i+1<=l.length; omega) (by show l.length - (i+1)<l.length - i; omega);rw [show I8 nf first l w (i+1)=G4 x u u.2.1.length by rw [I8,ou,hu,hx]] at this;exact this
  . obtain rfl:i=l.length:=by omega
    rfl
theorem Ju {q:Int} {x:n7} {t:yY} (h:who t=q) (h2:(Q8 x.2.2.1 (nth t+1)).2.1=0):vF q x t=(x.1,x.2.1++[(who t,wF t,())],(Q8 x.2.2.1 (nth t+1)).1,x.2.2.2):=by
  rw [vF]; exact if_pos ⟨h,h2⟩
theorem DV {q:Int} {x:n7} {t:yY} (h:¬ (who t=q/\(Q8 x.2.2.1 (nth t+1)).2.1=0)):vF q x t=(x.1,x.2.1++[(who t,wF t,())],x.2.2):=by
  rw [vF]; exact if_neg h
theorem Qj (q:Int) (x:n7) (t:yY):(vF q x t).2.1=x.2.1++[(who t,wF t,())]:=by
  rw [vF]; split<;>rfl
theorem KF {q:Int} {x:n7} {l:List yY}:∀ i,(K0 q x l i).2.1.length=x.2.1.length+i
  | 0=>rfl
  | i+1=>by rw [K0,Qj,List.length_append,KF i]; rfl
def Hu:o7:={ ps:=[.rw r9,.v zf],rs:=[],pre:=λ x=>(LE.le (α:=Int) 0 x.2.1.2.2.1/\LT.lt (α:=Int) x.2.1.2.2.1 (List.length (α:=n7) (x.1:f8).2.1))/\List.length (α:=D4) (N6 x.1 x.2.1.2.2.1).2.1<=1000000000000/\(∀ t∈(Q6 x.1 x.2.1).2.1,okT t),fn:=λ _=>(),out:=λ x=>(vg x.1 x.2.1,()) }
noncomputable def AU:Env:={ P:=Tryz.prog,tt:=tt,C5:=[(83,GJ),(86,Mn),(84,Lu),(85,Gs)],res:=[],rs:=[],ps:=[PK.rw r9,PK.v (Ty.pair e8 (Ty.pair e8 (Ty.pair e8 (Ty.pair e8 (Ty.pair e8 (Ty.pair X7 (Ty.pair Ty.str Ty.unit)))))))],y9:=[(6,[(3,none),(4,none),(49,some (Ty.d0 true Ty.str)),(50,none),(51,none)])],nt:=110 }
theorem Jo:w5 AU:=x6 p9 ⟨SO,b59,ZW,b8t,trivial⟩
theorem JK:B0 AU Tryz.f67:=⟨rfl,rfl⟩
theorem XD (ai:Int) (af:Int) (ab:List n7) (ae:List yY) (aa:List yY) (bs:Int) (aF:Int) (aE:Int) (aX:Int) (aI:Int) (aT:List Int) (aB:yY):exec AU 1000 [.code (d8 Tryz.prog 67)] (s7 Hu.ps ((((ai,af,()),ab,ae,aa,()),(bs,aF,aE,aX,aI,aT,aB,()),()))) =
  .f7 ((0:Int)<=aE/\aE<(↑(List.length ab):Int)) (.f7 (True) (cond (decide (Prod.fst (Prod.snd (Prod.snd (D6 (Prod.fst (Prod.snd (Prod.snd (Prod.snd (List.getD ab (Int.toNat aE) (false,[],((0:Int),[],()),((0:Int),[],()),((0:Int),[],()),())))))) (aI,aB,()))))≠(0:Int))) (.ret ((((ai,af,()),ab,ae,aa,()),()))) (.ctL (g8 (d8 Tryz.prog 67) 6) (St.mk [(3,AV.ptr 3 []),(4,AV.ptr 2000000 [Step.l7 1,Step.idx aE]),(49,AV.at_ 1000049 []),(50,AV.val e8 (↑(List.length (Prod.fst (Prod.snd (D6 (Prod.fst (Prod.snd (Prod.snd (Prod.snd (List.getD ab (Int.toNat aE) (false,[],((0:Int),[],()),((0:Int),[],()),((0:Int),[],()),())))))) (aI,aB,()))))):Int)),(51,AV.val e8 (0:Int))] [(3,g9.var (Ty.pair e8 (Ty.pair e8 (Ty.pair e8 (Ty.pair e8 (Ty.pair e8 (Ty.pair X7 (Ty.pair Ty.str Ty.unit))))))) (bs,aF,aE,aX,aI,aT,aB,())),(1000049,g9.own (Ty.d0 true Ty.str) (Prod.fst (Prod.snd (D6 (Prod.fst (Prod.snd (Prod.snd (Prod.snd (List.getD ab (Int.toNat aE) (false,[],((0:Int),[],()),((0:Int),[],()),((0:Int),[],()),())))))) (aI,aB,()))))),(2000000,g9.var r9 ((ai,af,()),List.set ab (Int.toNat aE) (Prod.fst (List.getD ab (Int.toNat aE) (false,[],((0:Int),[],()),((0:Int),[],()),((0:Int),[],()),())),Prod.fst (Prod.snd (List.getD ab (Int.toNat aE) (false,[],((0:Int),[],()),((0:Int),[],()),((0:Int),[],()),()))),Prod.fst (Prod.snd (Prod.snd (List.getD ab (Int.toNat aE) (false,[],((0:Int),[],()),((0:Int),[],()),((0:Int),[],()),())))),Prod.fst (D6 (Prod.fst (Prod.snd (Prod.snd (Prod.snd (List.getD ab (Int.toNat aE) (false,[],((0:Int),[],()),((0:Int),[],()),((0:Int),[],()),())))))) (aI,aB,())),Prod.snd (Prod.snd (Prod.snd (Prod.snd (List.getD ab (Int.toNat aE) (false,[],((0:Int),[],()),((0:Int),[],()),((0:Int),[],()),())))))),ae,aa,()))])))):=by kernel_rfl
def Jp (uD:Int) (yh:Int) (v51:Int) (cz:Int) (aV:Int) (aR:Int) (aL:Int) (aC:Int) (aw:List Int) (aq:yY) (ba:List yY) (au:Int) (an:Int) (aj:List n7) (ak:List yY) (ah:List yY):St:=St.mk [(3,AV.ptr 3 []),(4,AV.ptr 2000000 [Step.l7 1,Step.idx uD]),(49,AV.at_ 1000049 []),(50,AV.val e8 yh),(51,AV.val e8 v51)] [(3,g9.var (Ty.pair e8 (Ty.pair e8 (Ty.pair e8 (Ty.pair e8 (Ty.pair e8 (Ty.pair X7 (Ty.pair Ty.str Ty.unit))))))) (cz,aV,aR,aL,aC,aw,aq,())),(1000049,g9.own (Ty.d0 true Ty.str) ba),(2000000,g9.var r9 ((au,an,()),aj,ak,ah,()))]
theorem XM (uD:Int) (yh:Int) (v51:Int) (cz:Int) (aV:Int) (aR:Int) (aL:Int) (aC:Int) (aw:List Int) (aq:yY) (ba:List yY) (au:Int) (an:Int) (aj:List n7) (ak:List yY) (ah:List yY):exec AU 1000 (.code (g8 (d8 Tryz.prog 67) 6).1::.inLoop (g8 (d8 Tryz.prog 67) 6).1::(g8 (d8 Tryz.prog 67) 6).2) (Jp uD yh v51 cz aV aR aL aC aw aq ba au an aj ak ah) =
  cond (decide (v51<yh)) (.f7 ((0:Int)<=v51/\v51<(↑(List.length ba):Int)) (.f7 (List.length (List.getD ba (Int.toNat v51) [])<=1000000/\Array.toList (ByteArray.data (ByteArray.mk #[58]))=[(58:UInt8)]) (.f7 (List.length (Prod.fst (Prod.snd (x7 (List.getD ba (Int.toNat v51) []))))<=1000000/\Array.toList (ByteArray.data (ByteArray.mk #[58]))=[(58:UInt8)]) (.f7 (List.length (Prod.fst (x7 (List.getD ba (Int.toNat v51) [])))<=18/\Option.isSome (Go.Lib.atoi (Prod.fst (x7 (List.getD ba (Int.toNat v51) []))))=true) (.f7 (True/\True/\[Step.l7 1,Step.idx uD]++[Step.l7 1]=[Step.l7 1,Step.idx uD]++[Step.l7 1]/\List.length (Prod.fst (Prod.snd (List.getD aj (Int.toNat uD) (false,[],((0:Int),[],()),((0:Int),[],()),((0:Int),[],()),()))))+List.length (List.set [((0:Int),[],())] (Int.toNat (↑0:Int)) (Option.getD (Go.Lib.atoi (Prod.fst (x7 (List.getD ba (Int.toNat v51) [])))) (0:Int),Prod.fst (Prod.snd (x7 (Prod.fst (Prod.snd (x7 (List.getD ba (Int.toNat v51) [])))))),()))<=140737488355328/\(List.length (Prod.fst (Prod.snd (List.getD aj (Int.toNat uD) (false,[],((0:Int),[],()),((0:Int),[],()),((0:Int),[],()),()))))+List.length (List.set [((0:Int),[],())] (Int.toNat (↑0:Int)) (Option.getD (Go.Lib.atoi (Prod.fst (x7 (List.getD ba (Int.toNat v51) [])))) (0:Int),Prod.fst (Prod.snd (x7 (Prod.fst (Prod.snd (x7 (List.getD ba (Int.toNat v51) [])))))),())))*Ty.wb r8<=140737488355328) (cond (decide (Option.getD (Go.Lib.atoi (Prod.fst (x7 (List.getD ba (Int.toNat v51) [])))) (0:Int)=aR)) (.f7 (List.length (Prod.fst (x7 (Prod.fst (Prod.snd (x7 (List.getD ba (Int.toNat v51) []))))))<=18/\Option.isSome (Go.Lib.atoi (Prod.fst (x7 (Prod.fst (Prod.snd (x7 (List.getD ba (Int.toNat v51) [])))))))=true) (.f7 (r7 IntKind.i64 (Option.getD (Go.Lib.atoi (Prod.fst (x7 (Prod.fst (Prod.snd (x7 (List.getD ba (Int.toNat v51) []))))))) (0:Int)+(1:Int))) (.f7 ((0:Int)<=Option.getD (Go.Lib.atoi (Prod.fst (x7 (Prod.fst (Prod.snd (x7 (List.getD ba (Int.toNat v51) []))))))) (0:Int)+(1:Int)) (cond (decide (Prod.fst (Prod.snd (Q8 (Prod.fst (Prod.snd (Prod.snd (List.getD (List.set aj (Int.toNat uD) (Prod.fst (List.getD aj (Int.toNat uD) (false,[],((0:Int),[],()),((0:Int),[],()),((0:Int),[],()),())),Prod.fst (Prod.snd (List.getD aj (Int.toNat uD) (false,[],((0:Int),[],()),((0:Int),[],()),((0:Int),[],()),())))++List.set [((0:Int),[],())] (Int.toNat (↑0:Int)) (Option.getD (Go.Lib.atoi (Prod.fst (x7 (List.getD ba (Int.toNat v51) [])))) (0:Int),Prod.fst (Prod.snd (x7 (Prod.fst (Prod.snd (x7 (List.getD ba (Int.toNat v51) [])))))),()),Prod.snd (Prod.snd (List.getD aj (Int.toNat uD) (false,[],((0:Int),[],()),((0:Int),[],()),((0:Int),[],()),()))))) (Int.toNat uD) (false,[],((0:Int),[],()),((0:Int),[],()),((0:Int),[],()),()))))) (Option.getD (Go.Lib.atoi (Prod.fst (x7 (Prod.fst (Prod.snd (x7 (List.getD ba (Int.toNat v51) []))))))) (0:Int)+(1:Int))))=(0:Int))) (.f7 (r7 IntKind.i64 (v51+(1:Int))) (.ctL (g8 (d8 Tryz.prog 67) 6) (St.mk [(3,AV.ptr 3 []),(4,AV.ptr 2000000 [Step.l7 1,Step.idx uD]),(49,AV.at_ 1000049 []),(50,AV.val e8 yh),(51,AV.val e8 (v51+(1:Int)))] [(3,g9.var (Ty.pair e8 (Ty.pair e8 (Ty.pair e8 (Ty.pair e8 (Ty.pair e8 (Ty.pair X7 (Ty.pair Ty.str Ty.unit))))))) (cz,aV,aR,aL,aC,aw,aq,())),(1000049,g9.own (Ty.d0 true Ty.str) ba),(2000000,g9.var r9 ((au,an,()),List.set (List.set aj (Int.toNat uD) (Prod.fst (List.getD aj (Int.toNat uD) (false,[],((0:Int),[],()),((0:Int),[],()),((0:Int),[],()),())),Prod.fst (Prod.snd (List.getD aj (Int.toNat uD) (false,[],((0:Int),[],()),((0:Int),[],()),((0:Int),[],()),())))++List.set [((0:Int),[],())] (Int.toNat (↑0:Int)) (Option.getD (Go.Lib.atoi (Prod.fst (x7 (List.getD ba (Int.toNat v51) [])))) (0:Int),Prod.fst (Prod.snd (x7 (Prod.fst (Prod.snd (x7 (List.getD ba (Int.toNat v51) [])))))),()),Prod.snd (Prod.snd (List.getD aj (Int.toNat uD) (false,[],((0:Int),[],()),((0:Int),[],()),((0:Int),[],()),()))))) (Int.toNat uD) (Prod.fst (List.getD (List.set aj (Int.toNat uD) (Prod.fst (List.getD aj (Int.toNat uD) (false,[],((0:Int),[],()),((0:Int),[],()),((0:Int),[],()),())),Prod.fst (Prod.snd (List.getD aj (Int.toNat uD) (false,[],((0:Int),[],()),((0:Int),[],()),((0:Int),[],()),())))++List.set [((0:Int),[],())] (Int.toNat (↑0:Int)) (Option.getD (Go.Lib.atoi (Prod.fst (x7 (List.getD ba (Int.toNat v51) [])))) (0:Int),Prod.fst (Prod.snd (x7 (Prod.fst (Prod.snd (x7 (List.getD ba (Int.toNat v51) [])))))),()),Prod.snd (Prod.snd (List.getD aj (Int.toNat uD) (false,[],((0:Int),[],()),((0:Int),[],()),((0:Int),[],()),()))))) (Int.toNat uD) (false,[],((0:Int),[],()),((0:Int),[],()),((0:Int),[],()),())),Prod.fst (Prod.snd (List.getD (List.set aj (Int.toNat uD) (Prod.fst (List.getD aj (Int.toNat uD) (false,[],((0:Int),[],()),((0:Int),[],()),((0:Int),[],()),())),Prod.fst (Prod.snd (List.getD aj (Int.toNat uD) (false,[],((0:Int),[],()),((0:Int),[],()),((0:Int),[],()),())))++List.set [((0:Int),[],())] (Int.toNat (↑0:Int)) (Option.getD (Go.Lib.atoi (Prod.fst (x7 (List.getD ba (Int.toNat v51) [])))) (0:Int),Prod.fst (Prod.snd (x7 (Prod.fst (Prod.snd (x7 (List.getD ba (Int.toNat v51) [])))))),()),Prod.snd (Prod.snd (List.getD aj (Int.toNat uD) (false,[],((0:Int),[],()),((0:Int),[],()),((0:Int),[],()),()))))) (Int.toNat uD) (false,[],((0:Int),[],()),((0:Int),[],()),((0:Int),[],()),()))),Prod.fst (Q8 (Prod.fst (Prod.snd (Prod.snd (List.getD (List.set aj (Int.toNat uD) (Prod.fst (List.getD aj (Int.toNat uD) (false,[],((0:Int),[],()),((0:Int),[],()),((0:Int),[],()),())),Prod.fst (Prod.snd (List.getD aj (Int.toNat uD) (false,[],((0:Int),[],()),((0:Int),[],()),((0:Int),[],()),())))++List.set [((0:Int),[],())] (Int.toNat (↑0:Int)) (Option.getD (Go.Lib.atoi (Prod.fst (x7 (List.getD ba (Int.toNat v51) [])))) (0:Int),Prod.fst (Prod.snd (x7 (Prod.fst (Prod.snd (x7 (List.getD ba (Int.toNat v51) [])))))),()),Prod.snd (Prod.snd (List.getD aj (Int.toNat uD) (false,[],((0:Int),[],()),((0:Int),[],()),((0:Int),[],()),()))))) (Int.toNat uD) (false,[],((0:Int),[],()),((0:Int),[],()),((0:Int),[],()),()))))) (Option.getD (Go.Lib.atoi (Prod.fst (x7 (Prod.fst (Prod.snd (x7 (List.getD ba (Int.toNat v51) []))))))) (0:Int)+(1:Int))),Prod.snd (Prod.snd (Prod.snd (List.getD (List.set aj (Int.toNat uD) (Prod.fst (List.getD aj (Int.toNat uD) (false,[],((0:Int),[],()),((0:Int),[],()),((0:Int),[],()),())),Prod.fst (Prod.snd (List.getD aj (Int.toNat uD) (false,[],((0:Int),[],()),((0:Int),[],()),((0:Int),[],()),())))++List.set [((0:Int),[],())] (Int.toNat (↑0:Int)) (Option.getD (Go.Lib.atoi (Prod.fst (x7 (List.getD ba (Int.toNat v51) [])))) (0:Int),Prod.fst (Prod.snd (x7 (Prod.fst (Prod.snd (x7 (List.getD ba (Int.toNat v51) [])))))),()),Prod.snd (Prod.snd (List.getD aj (Int.toNat uD) (false,[],((0:Int),[],()),((0:Int),[],()),((0:Int),[],()),()))))) (Int.toNat uD) (false,[],((0:Int),[],()),((0:Int),[],()),((0:Int),[],()),()))))),ak,ah,()))]))) (.f7 (r7 IntKind.i64 (v51+(1:Int))) (.ctL (g8 (d8 Tryz.prog 67) 6) (St.mk [(3,AV.ptr 3 []),(4,AV.ptr 2000000 [Step.l7 1,Step.idx uD]),(49,AV.at_ 1000049 []),(50,AV.val e8 yh),(51,AV.val e8 (v51+(1:Int)))] [(3,g9.var (Ty.pair e8 (Ty.pair e8 (Ty.pair e8 (Ty.pair e8 (Ty.pair e8 (Ty.pair X7 (Ty.pair Ty.str Ty.unit))))))) (cz,aV,aR,aL,aC,aw,aq,())),(1000049,g9.own (Ty.d0 true Ty.str) ba),(2000000,g9.var r9 ((au,an,()),List.set aj (Int.toNat uD) (Prod.fst (List.getD aj (Int.toNat uD) (false,[],((0:Int),[],()),((0:Int),[],()),((0:Int),[],()),())),Prod.fst (Prod.snd (List.getD aj (Int.toNat uD) (false,[],((0:Int),[],()),((0:Int),[],()),((0:Int),[],()),())))++List.set [((0:Int),[],())] (Int.toNat (↑0:Int)) (Option.getD (Go.Lib.atoi (Prod.fst (x7 (List.getD ba (Int.toNat v51) [])))) (0:Int),Prod.fst (Prod.snd (x7 (Prod.fst (Prod.snd (x7 (List.getD ba (Int.toNat v51) [])))))),()),Prod.snd (Prod.snd (List.getD aj (Int.toNat uD) (false,[],((0:Int),[],()),((0:Int),[],()),((0:Int),[],()),())))),ak,ah,()))]))))))) (.f7 (r7 IntKind.i64 (v51+(1:Int))) (.ctL (g8 (d8 Tryz.prog 67) 6) (St.mk [(3,AV.ptr 3 []),(4,AV.ptr 2000000 [Step.l7 1,Step.idx uD]),(49,AV.at_ 1000049 []),(50,AV.val e8 yh),(51,AV.val e8 (v51+(1:Int)))] [(3,g9.var (Ty.pair e8 (Ty.pair e8 (Ty.pair e8 (Ty.pair e8 (Ty.pair e8 (Ty.pair X7 (Ty.pair Ty.str Ty.unit))))))) (cz,aV,aR,aL,aC,aw,aq,())),(1000049,g9.own (Ty.d0 true Ty.str) ba),(2000000,g9.var r9 ((au,an,()),List.set aj (Int.toNat uD) (Prod.fst (List.getD aj (Int.toNat uD) (false,[],((0:Int),[],()),((0:Int),[],()),((0:Int),[],()),())),Prod.fst (Prod.snd (List.getD aj (Int.toNat uD) (false,[],((0:Int),[],()),((0:Int),[],()),((0:Int),[],()),())))++List.set [((0:Int),[],())] (Int.toNat (↑0:Int)) (Option.getD (Go.Lib.atoi (Prod.fst (x7 (List.getD ba (Int.toNat v51) [])))) (0:Int),Prod.fst (Prod.snd (x7 (Prod.fst (Prod.snd (x7 (List.getD ba (Int.toNat v51) [])))))),()),Prod.snd (Prod.snd (List.getD aj (Int.toNat uD) (false,[],((0:Int),[],()),((0:Int),[],()),((0:Int),[],()),())))),ak,ah,()))]))))))))) (.ret ((((au,an,()),aj,ak,ah,()),()))):=by kernel_rfl
attribute [local irreducible] vg D6 Q8 x7 Lib.atoi in
theorem b5Y:Hu.Valid Tryz.prog 67:=by
  refine o7.n8 Jo rfl rfl Tryz.func67 (c:=d8 Tryz.prog 67) rfl rfl JK rfl ?_;rintro ⟨⟨⟨(v0:Int),(v1:Int),⟨⟩⟩,(al:List n7),(od:List yY),(wy:List yY),⟨⟩⟩,⟨(nk:Int),(nf:Int),(nt:Int),(nv:Int),(ns:Int),(na:List Int),(nx:yY),⟨⟩⟩,⟨⟩⟩ ⟨(hp:0<=nt/\nt<(al.length:Int)),(hl:(N6 ((v0,v1,()),al,od,wy,()) nt).2.1.length<=1000000000000),(aM:∀ t∈(Q6 ((v0,v1,()),al,od,wy,()) (nk,nf,nt,nv,ns,na,nx,())).2.1,okT t)⟩ -
  refine j8 (n:=1000) Jo JK ?_;refine i7 (XD v0 v1 al od wy nk nf nt nv ns na nx) ?_;simp only [j6,Tree.holds,sL];have e1:=λ a=>(vg.eq_1 ((v0,v1,()),al,od,wy,()) (nk,nf,nt,nv,ns,na,nx,())).trans (if_pos a);have e2:=λ a=>(vg.eq_1 ((v0,v1,()),al,od,wy,()) (nk,nf,nt,nv,ns,na,nx,())).trans (if_neg a);have key:∀ r:f8,vg ((v0,v1,()),al,od,wy,()) (nk,nf,nt,nv,ns,na,nx,())=r->(((r,()):f8×Unit)=(vg ((v0,v1,()),al,od,wy,()) (nk,nf,nt,nv,ns,na,nx,()),())):=by rintro r rfl; rfl
  refine ⟨hp,λ _=>⟨λ a=>key _ (e1 a),λ a=>?_⟩⟩;have e3:=e2 a;have bt:=yM (Decidable.not_not.1 a);obtain ⟨x,hx⟩:∃ x:n7,x=AJ (N6 ((v0,v1,()),al,od,wy,()) nt) (Q6 ((v0,v1,()),al,od,wy,()) (nk,nf,nt,nv,ns,na,nx,())).1:=⟨_,rfl⟩;obtain ⟨l,jQ⟩:∃ l,l=(Q6 ((v0,v1,()),al,od,wy,()) (nk,nf,nt,nv,ns,na,nx,())).2.1:=⟨_,rfl⟩;have qu:x.2.1.length<=1000000000000:=by rw [hx]; exact hl
  have ss:l.length<=16:=by rw [jQ]; exact bt.2.2.1
  have bc:∀ t∈l,E2 t=false:=by rw [jQ]; exact λ t ht=>(bt.1 t ht).2
  have iR:∀ t∈l,okT t:=by rw [jQ]; exact aM
  suffices go:Go.Ex.Reach AU Tryz.f67 () (xZ ((v0,v1,()),al,od,wy,()) nt (K0 nt x l l.length),()) (.code (g8 (d8 Tryz.prog 67) 6).1::.inLoop (g8 (d8 Tryz.prog 67) 6).1::(g8 (d8 Tryz.prog 67) 6).2) (Jp nt (l.length:Int) ((0:Nat):Int) nk nf nt nv ns na nx l v0 v1 (al.set nt.toNat (K0 nt x l 0)) od wy) by
    subst hx; subst jQ;rw [e3];rw [K0] at go;exact go
  refine Reach.M0 Jo JK (λ i:Nat=>Jp nt (l.length:Int) (i:Int) nk nf nt nv ns na nx l v0 v1 (al.set nt.toNat (K0 nt x l i)) od wy) (λ i=>i<=l.length)
    (λ i=>l.length - i) 1000 (λ _=>⟨s6 rfl,s6 rfl⟩) ?_ 0 (Nat.zero_le _)
  rintro i k1 - ih;have k1:i<=l.length:=k1;refine i7 (XM ..) ?_;have e4:((i:Nat):Int)+1=((i+1:Nat):Int):=by omega
  have hg:∀ y:n7,(al.set nt.toNat y).getD nt.toNat (false,[],(0,[],()),(0,[],()),(0,[],()),())=y:=λ y=>by
    rw [List.getD_eq_getElem?_getD,List.getElem?_set_self (by omega)]; rfl
  have oA:∀ y z:n7,(al.set nt.toNat y).set nt.toNat z=al.set nt.toNat z:=λ y z=>List.set_set ..;have ij:Ty.wb r8=24:=rfl;have hlen:=KF (q:=nt) (x:=x) (l:=l) i;obtain ⟨y,hy⟩:∃ y,y=K0 nt x l i:=⟨_,rfl⟩;obtain ⟨t,ht⟩:∃ t,t=l.getD i []:=⟨_,rfl⟩;have hs:K0 nt x l (i+1)=vF nt y t:=by rw [K0,<- hy,<- ht]
  have hT:i<l.length->E2 t=false/\okT t:=λ h=>by
    have:t∈l:=by rw [ht,List.getD_eq_getElem?_getD,List.getElem?_eq_getElem h]; exact List.getElem_mem _
    exact ⟨bc t this,iR t this⟩
  have ih1:i<l.length->_:=λ h=>ih (i+1) (by show i+1<=l.length; omega) (by show l.length - (i+1)<l.length - i; omega);rw [hs] at ih1;rw [<- hy] at hlen ⊢;simp only [j6,Tree.holds,e4,hg,oA,sL];rw [<- ht];have dH:=Bv t;have ic:=Bv (x7 t).2.1;refine ⟨λ c=>?_,λ c=>?_⟩
  . have c':i<l.length:=by omega
    obtain ⟨g1,g2⟩:=hT c';have g3:=Jw g1;have g4:=WH g2;refine ⟨⟨by omega,by omega⟩,λ _=>⟨⟨by omega,trivial⟩,λ _=>⟨⟨by omega,trivial⟩,λ _=>⟨g4.1,λ _=>⟨?_,λ _=>⟨λ d=>⟨g4.2.1,λ _=>⟨?_,λ _=>⟨?_,λ _=>⟨λ e=>⟨?_,λ _=>?_⟩,λ e=>⟨?_,λ _=>?_⟩⟩⟩⟩⟩,λ d=>⟨?_,λ _=>?_⟩⟩⟩⟩⟩⟩⟩
    . rw [ij]; omega
    . have:0<=nth t/\nth t<=16777300:=g4.2.2;show r7 .i64 (nth t+1);exact F0.2 ⟨by omega,by omega⟩
    . have:0<=nth t/\nth t<=16777300:=g4.2.2;show 0<=nth t+1;omega
    . exact ⟨by omega,by omega⟩
    . have:=ih1 c';rw [Ju d e] at this;exact this
    . exact ⟨by omega,by omega⟩
    . have:=ih1 c';rw [DV (λ h=>e h.2)] at this;exact this
    . exact ⟨by omega,by omega⟩
    . have:=ih1 c';rw [DV (λ h=>d h.1)] at this;exact this
  . obtain rfl:i=l.length:=by omega
    rw [hy]; rfl
theorem zX {w:f8} {n:B8}:∀ j,(F5 w n j).2.1=w.2.1/\(F5 w n j).1=w.1/\(F5 w n j).2.2.1=w.2.2.1
  | 0=>⟨rfl,rfl,rfl⟩
  | j+1=>by
    obtain ⟨h1,h2,h3⟩:=zX (w:=w) (n:=n) j;rw [F5]
    split
    . obtain ⟨g1,g2,g3⟩:=Ca (w:=F5 w n j) (k:=2) (f:=J8 (F5 w n j)) (t:=n.2.1) (s:=n.2.2.2.2.1+j) (x:=(F5 w n j).2.2.1.getD (n.2.2.2.2.1+j).toNat []);exact ⟨g1.trans h1,g2.trans h2,g3.trans h3⟩
    . exact ⟨h1,h2,h3⟩
theorem Zi {w:f8} {n:B8} {j:Nat} (h:n.2.2.2.2.1+j<(F5 w n j).2.2.1.length):F5 w n (j+1)=J5 (F5 w n j) 2 (J8 (F5 w n j)) n.2.1 (n.2.2.2.2.1+j) ((F5 w n j).2.2.1.getD (n.2.2.2.2.1+j).toNat []):=by
  rw [F5]; exact if_pos h
theorem Ry {w:f8} {n:B8} {j:Nat} (h:¬ n.2.2.2.2.1+j<w.2.2.1.length):∀ m,F5 w n (j+m)=F5 w n j
  | 0=>rfl
  | m+1=>by
    rw [<- Nat.add_assoc,F5,if_neg,Ry h m];rw [(zX (j+m)).2.2];omega
structure wO (w:f8) (n:B8):Prop where
  M1:w.2.1.length<=6
  to:0<=n.2.2.1/\n.2.2.1<(w.2.1.length:Int)
  seq:0<=n.2.2.2.2.1/\n.2.2.2.2.1<=16777215
  log:(N6 w n.2.2.1).2.1.length<=1000000000000
  ord:w.2.2.1.length<=1000000000000
  txt:n.1=2->∀ t∈(Q6 w n).2.1,okT t
def IW:o7:={ ps:=[.rw r9,.v zf],rs:=[],pre:=λ x=>wO x.1 x.2.1,fn:=λ _=>(),out:=λ x=>(F9 x.1 x.2.1,()) }
noncomputable def BE:Env:={ P:=Tryz.prog,tt:=tt,C5:=[(49,yy),(66,HA),(67,Hu),(43,zp),(44,yX)],res:=[],rs:=[],ps:=[PK.rw r9,PK.v (Ty.pair e8 (Ty.pair e8 (Ty.pair e8 (Ty.pair e8 (Ty.pair e8 (Ty.pair X7 (Ty.pair Ty.str Ty.unit)))))))],y9:=[(7,[(0,none),(3,none),(4,none)])],nt:=56 }
theorem KZ:w5 BE:=x6 p9 ⟨Cd,b51,b5Y,EN,EE,trivial⟩
theorem KQ:B0 BE Tryz.f48:=⟨rfl,rfl⟩
theorem b8H (ai:Int) (af:Int) (ab:List n7) (ae:List yY) (aa:List yY) (bs:Int) (aF:Int) (aE:Int) (aX:Int) (aI:Int) (aT:List Int) (aB:yY):exec BE 1000 [.code (d8 Tryz.prog 48)] (s7 IW.ps ((((ai,af,()),ab,ae,aa,()),(bs,aF,aE,aX,aI,aT,aB,()),()))) =
  .f7 (List.length ab<=6) (cond (decide (known ((ai,af,()),ab,ae,aa,()) aF≠(0:Int))) (.ret ((((ai,af,()),ab,ae,aa,()),()))) (cond (decide (bs=(1:Int))) (.f7 (List.length ab<=6/\¬known ((ai,af,()),ab,ae,aa,()) aF≠(0:Int)/\List.length ae<=1000000000000) (.ret ((X0 ((ai,af,()),ab,ae,aa,()) (bs,aF,aE,aX,aI,aT,aB,()),())))) (cond (decide (bs=(3:Int))) (.ctL (g8 (d8 Tryz.prog 48) 7) (St.mk [(0,AV.ptr 2000000 []),(3,AV.ptr 3 []),(4,AV.val e8 aI)] [(3,g9.var (Ty.pair e8 (Ty.pair e8 (Ty.pair e8 (Ty.pair e8 (Ty.pair e8 (Ty.pair X7 (Ty.pair Ty.str Ty.unit))))))) (bs,aF,aE,aX,aI,aT,aB,())),(2000000,g9.var r9 ((ai,af,()),ab,ae,aa,()))])) (cond (decide (bs=(2:Int))) (.f7 (((0:Int)<=aE/\aE<(↑(List.length ab):Int))/\List.length (Prod.fst (Prod.snd (N6 ((ai,af,()),ab,ae,aa,()) aE)))<=1000000000000/\∀ (t:yY),t∈Prod.fst (Prod.snd (Q6 ((ai,af,()),ab,ae,aa,()) (bs,aF,aE,aX,aI,aT,aB,())))->okT t) (.ret ((vg ((ai,af,()),ab,ae,aa,()) (bs,aF,aE,aX,aI,aT,aB,()),())))) (.ret ((((ai,af,()),ab,ae,aa,()),()))))))):=by kernel_rfl
def La (v4:Int) (cz:Int) (aV:Int) (aR:Int) (aL:Int) (aC:Int) (aw:List Int) (aq:yY) (au:Int) (an:Int) (aj:List n7) (ak:List yY) (ah:List yY):St:=St.mk [(0,AV.ptr 2000000 []),(3,AV.ptr 3 []),(4,AV.val e8 v4)] [(3,g9.var (Ty.pair e8 (Ty.pair e8 (Ty.pair e8 (Ty.pair e8 (Ty.pair e8 (Ty.pair X7 (Ty.pair Ty.str Ty.unit))))))) (cz,aV,aR,aL,aC,aw,aq,())),(2000000,g9.var r9 ((au,an,()),aj,ak,ah,()))]
theorem b7p (v4:Int) (cz:Int) (aV:Int) (aR:Int) (aL:Int) (aC:Int) (aw:List Int) (aq:yY) (au:Int) (an:Int) (aj:List n7) (ak:List yY) (ah:List yY):exec BE 1000 (.code (g8 (d8 Tryz.prog 48) 7).1::.inLoop (g8 (d8 Tryz.prog 48) 7).1::(g8 (d8 Tryz.prog 48) 7).2) (La v4 cz aV aR aL aC aw aq au an aj ak ah) =
  cond (decide (v4<(↑(List.length ak):Int))) (.f7 (r7 IntKind.i64 (aC+(4:Int))) (cond (decide (v4<aC+(4:Int))) (.f7 (True) (.f7 ((0:Int)<=v4/\v4<(↑(List.length ak):Int)) (.f7 (True) (.f7 (r7 IntKind.i64 (v4+(1:Int))) (.ctL (g8 (d8 Tryz.prog 48) 7) (St.mk [(0,AV.ptr 2000000 []),(3,AV.ptr 3 []),(4,AV.val e8 (v4+(1:Int)))] [(3,g9.var (Ty.pair e8 (Ty.pair e8 (Ty.pair e8 (Ty.pair e8 (Ty.pair e8 (Ty.pair X7 (Ty.pair Ty.str Ty.unit))))))) (cz,aV,aR,aL,aC,aw,aq,())),(2000000,g9.var r9 (J5 ((au,an,()),aj,ak,ah,()) (2:Int) (J8 ((au,an,()),aj,ak,ah,())) aV v4 (List.getD ak (Int.toNat v4) [])))])))))) (.ret ((((au,an,()),aj,ak,ah,()),()))))) (.ret ((((au,an,()),aj,ak,ah,()),()))):=by kernel_rfl
theorem SQ {w:f8} {n:B8} (h:known w n.2.1≠0):F9 w n=w:=by rw [F9]; exact if_pos h
theorem SR {w:f8} {n:B8} (h:¬ known w n.2.1≠0) (h1:n.1=1):F9 w n=X0 w n:=by rw [F9]; exact (if_neg h).trans (if_pos h1)
theorem Tj {w:f8} {n:B8} (h:¬ known w n.2.1≠0) (h1:n.1=3):F9 w n=F5 w n 4:=by rw [F9]; exact (if_neg h).trans ((if_neg (by omega)).trans (if_pos h1))
theorem Tv {w:f8} {n:B8} (h:¬ known w n.2.1≠0) (h1:n.1=2):F9 w n=vg w n:=by rw [F9]; exact (if_neg h).trans ((if_neg (by omega)).trans ((if_neg (by omega)).trans (if_pos h1)))
theorem Tu {w:f8} {n:B8} (h1:n.1≠1) (h2:n.1≠3) (h3:n.1≠2):F9 w n=w:=by
  rw [F9,if_neg h1,if_neg h2,if_neg h3]; split<;>rfl
attribute [local irreducible] F9 X0 vg F5 J5 in
theorem b2x:IW.Valid Tryz.prog 48:=by
  refine o7.n8 KZ rfl rfl Tryz.func48 (c:=d8 Tryz.prog 48) rfl rfl KQ rfl ?_;rintro ⟨⟨⟨(v0:Int),(v1:Int),⟨⟩⟩,(al:List n7),(od:List yY),(wy:List yY),⟨⟩⟩,⟨(nk:Int),(nf:Int),(nt:Int),(nv:Int),(ns:Int),(na:List Int),(nx:yY),⟨⟩⟩,⟨⟩⟩ (hq:wO ((v0,v1,()),al,od,wy,()) (nk,nf,nt,nv,ns,na,nx,())) -
  refine j8 (n:=1000) KZ KQ ?_;refine i7 (b8H v0 v1 al od wy nk nf nt nv ns na nx) ?_;simp only [j6,Tree.holds,sL];have key:∀ r:f8,F9 ((v0,v1,()),al,od,wy,()) (nk,nf,nt,nv,ns,na,nx,())=r->(((r,()):f8×Unit)=(F9 ((v0,v1,()),al,od,wy,()) (nk,nf,nt,nv,ns,na,nx,()),())):=by rintro r rfl; rfl
  refine ⟨hq.M1,λ _=>⟨λ a=>key _ (SQ a),λ a=>⟨λ b=>⟨⟨hq.M1,a,hq.ord⟩,λ _=>key _ (SR a b)⟩,λ b=>⟨λ c=>?_,λ c=>⟨λ d=>⟨⟨hq.to,hq.log,hq.txt d⟩,λ _=>key _ (Tv a d)⟩,λ d=>key _ (Tu b c d)⟩⟩⟩⟩⟩;obtain ⟨w,hw⟩:∃ w:f8,w=((v0,v1,()),al,od,wy,()):=⟨_,rfl⟩;obtain ⟨n,hn⟩:∃ n:B8,n=(nk,nf,nt,nv,ns,na,nx,()):=⟨_,rfl⟩;have e3:F9 ((v0,v1,()),al,od,wy,()) (nk,nf,nt,nv,ns,na,nx,())=F5 w n 4:=by rw [hw,hn]; exact Tj a c
  have fW:0<=ns/\ns<=16777215:=hq.seq;have mj:n.2.2.2.2.1=ns:=by rw [hn]
  have nG:n.2.1=nf:=by rw [hn]
  have qv:w.2.2.1=od:=by rw [hw]
  suffices go:Go.Ex.Reach BE Tryz.f48 () (F5 w n 4,()) (.code (g8 (d8 Tryz.prog 48) 7).1::.inLoop (g8 (d8 Tryz.prog 48) 7).1::(g8 (d8 Tryz.prog 48) 7).2) (La (ns+((0:Nat):Int)) nk nf nt nv ns na nx (F5 w n 0).1.1 (F5 w n 0).1.2.1 (F5 w n 0).2.1 (F5 w n 0).2.2.1 (F5 w n 0).2.2.2.1) by
    rw [e3];rw [F5,show ns+((0:Nat):Int)=ns by omega] at go;rw [hw] at go ⊢;exact go
  refine Reach.M0 KZ KQ (λ j:Nat=>La (ns+(j:Int)) nk nf nt nv ns na nx (F5 w n j).1.1 (F5 w n j).1.2.1 (F5 w n j).2.1 (F5 w n j).2.2.1 (F5 w n j).2.2.2.1) (λ j=>j<=4)
    (λ j=>4 - j) 1000 (λ _=>⟨s6 rfl,s6 rfl⟩) ?_ 0 (Nat.zero_le _)
  rintro j k1 - ih;have k1:j<=4:=k1;refine i7 (b7p ..) ?_;have e4:ns+(j:Int)+1=ns+((j+1:Nat):Int):=by omega
  have t3:=(zX (w:=w) (n:=n) j).2.2;simp only [j6,Tree.holds,e4,sL];refine ⟨λ d=>⟨?_,λ _=>⟨λ e=>⟨⟨by omega,d⟩,λ _=>⟨?_,λ _=>?_⟩⟩,λ e=>?_⟩⟩,λ d=>?_⟩
  . exact F0.2 ⟨by omega,by omega⟩
  . exact F0.2 ⟨by omega,by omega⟩
  . have:=ih (j+1) (by show j+1<=4; omega) (by show 4 - (j+1)<4 - j; omega);rw [Zi (j:=j) (by rw [mj]; exact d)] at this;rw [mj,nG] at this;exact this
  . obtain rfl:j=4:=by omega
    rfl
  . have:=Ry (w:=w) (n:=n) (j:=j) (by rw [mj,<- t3]; exact d) (4 - j);rw [show j+(4 - j)=4 by omega] at this;rw [this]; rfl
abbrev noB:yY:=[]
def GK:o7:={ ps:=[.own (.d0 true .str),.v e8,.v e8],rs:=[.d0 true .str],pre:=λ x=>LE.le (α:=Int) 0 x.2.1/\LE.le (α:=Int) x.2.1 x.2.2.1/\LE.le (α:=Int) x.2.2.1 (List.length (α:=yY) x.1),fn:=λ x=>(List.take (α:=yY) (Int.toNat x.2.1) x.1++List.drop (α:=yY) (Int.toNat x.2.2.1) x.1,()),out:=λ _=>() }
noncomputable def Gm:Env:={ P:=Tryz.prog,tt:=tt,C5:=[],res:=[Go.ResultVar.tmp 6],rs:=[Ty.d0 true Ty.str],ps:=[PK.own (Ty.d0 true Ty.str),PK.v e8,PK.v e8],y9:=[],nt:=33 }
theorem OK:w5 Gm:=x6 p9 trivial
theorem Pd:B0 Gm Tryz.f45:=⟨rfl,rfl⟩
theorem VP (x0:List yY) (x1:Int) (x2:Int):exec Gm 1000 [.code (d8 Tryz.prog 45)] (s7 GK.ps ((x0,x1,x2,()))) =
  .f7 ((0:Int)<=x1/\x1<=x2/\x2<=(↑(List.length x0):Int)/\(↑(List.length x0):Int)<=(↑(List.length x0):Int)) (cond (decide (x1=x2)) (.ret ((x0,()))) (.f7 ((0:Int)<=(0:Int)/\(0:Int)<=x1/\x1<=(↑(List.length x0):Int)) (.f7 ((0:Int)<=x2/\x2<=(↑(List.length x0):Int)/\(↑(List.length x0):Int)<=(↑(List.length x0):Int)) (.f7 (x1+(↑(List.length (n9 x2 (↑(List.length x0):Int) x0)):Int)<=(↑(List.length x0):Int)) (.f7 ((0:Int)<=x1+(↑(List.length (n9 x2 (↑(List.length x0):Int) x0)):Int) - (0:Int)/\x1+(↑(List.length (n9 x2 (↑(List.length x0):Int) x0)):Int) - (0:Int)<=(↑(List.length x0):Int)/\(0:Int)+(↑(List.length x0):Int)<=(↑(List.length (List.take (Int.toNat x1) x0++n9 x2 (↑(List.length x0):Int) x0++List.drop (Int.toNat x1+List.length (n9 x2 (↑(List.length x0):Int) x0)) x0)):Int)) (.ret ((n9 (0:Int) (x1+(↑(List.length (n9 x2 (↑(List.length x0):Int) x0)):Int)) (List.take (Int.toNat ((0:Int)+(x1+(↑(List.length (n9 x2 (↑(List.length x0):Int) x0)):Int) - (0:Int)))) (List.take (Int.toNat x1) x0++n9 x2 (↑(List.length x0):Int) x0++List.drop (Int.toNat x1+List.length (n9 x2 (↑(List.length x0):Int) x0)) x0)++List.replicate (Int.toNat ((0:Int)+(↑(List.length x0):Int) - ((0:Int)+(x1+(↑(List.length (n9 x2 (↑(List.length x0):Int) x0)):Int) - (0:Int))))) []++List.drop (Int.toNat ((0:Int)+(x1+(↑(List.length (n9 x2 (↑(List.length x0):Int) x0)):Int) - (0:Int)))+List.length (List.replicate (Int.toNat ((0:Int)+(↑(List.length x0):Int) - ((0:Int)+(x1+(↑(List.length (n9 x2 (↑(List.length x0):Int) x0)):Int) - (0:Int))))) noB)) (List.take (Int.toNat x1) x0++n9 x2 (↑(List.length x0):Int) x0++List.drop (Int.toNat x1+List.length (n9 x2 (↑(List.length x0):Int) x0)) x0)),())))))))):=by kernel_rfl
theorem b74:GK.Valid Tryz.prog 45:=by
  refine o7.n8 OK rfl rfl Tryz.func45 (c:=d8 Tryz.prog 45) rfl rfl Pd rfl ?_;rintro ⟨(l:List yY),(i:Int),(j:Int),⟨⟩⟩ ⟨(h0:0<=i),(h1:i<=j),(h2:j<=(l.length:Int))⟩ -
  refine j8 (n:=1000) OK Pd ?_;refine i7 (VP l i j) ?_;simp only [j6,Tree.holds,sL];have hc:=MO h0 h1 h2 (l:=l);have hm:=HI h0 h1 h2 (l:=l);refine ⟨⟨h0,h1,h2,Int.le_refl _⟩,λ _=>⟨λ e=>?_,λ e=>⟨by omega,λ _=>⟨by omega,λ _=>⟨by omega,λ _=>⟨by omega,λ _=>?_⟩⟩⟩⟩⟩⟩
  . subst e;show ((l,()):List yY×Unit)=(l.take i.toNat++l.drop i.toNat,());rw [List.take_append_drop]
  . exact congrArg (λ y=>(y,())) (Vg h0 h1 h2 (l:=l))
structure zL (w:f8):Prop where
  M1:w.2.1.length<=6
  way:w.2.2.2.1.length<=60
  note:∀ s∈w.2.2.2.1,(w8 s).2.1=0->(w8 s).1.2.2.2.1=w.1.1->s5 w (w8 s).1.2.2.1=true->wO w (w8 s).1
def Ay:o7:={ ps:=[.rw r9,.v e8,.v e8],rs:=[e8],pre:=λ x=>zL x.1,fn:=λ x=>((C7 x.1 x.2.1 x.2.2.1).2,()),out:=λ x=>((C7 x.1 x.2.1 x.2.2.1).1,()) }
noncomputable def GW:Env:={ P:=Tryz.prog,tt:=tt,C5:=[(40,yW),(45,GK),(46,Gk),(47,ym),(48,IW)],res:=[Go.ResultVar.tmp 6],rs:=[Ty.int IntKind.i64],ps:=[PK.rw r9,PK.v e8,PK.v e8],y9:=[],nt:=95 }
theorem QW:w5 GW:=x6 p9 ⟨ED,b74,b78,BV,b2x,trivial⟩
theorem QF:B0 GW Tryz.f18:=⟨rfl,rfl⟩
theorem XB (ai:Int) (af:Int) (ab:List n7) (ae:List yY) (aa:List yY) (x1:Int) (x2:Int):exec GW 1000 [.code (d8 Tryz.prog 18)] (s7 Ay.ps ((((ai,af,()),ab,ae,aa,()),x1,x2,()))) =
  .f7 (True) (cond (!H5 x2 (1:Int) (3:Int)) (.ret (((1:Int),((ai,af,()),ab,ae,aa,()),()))) (.f7 (r7 IntKind.i64 ((↑(List.length aa):Int) - (1:Int))) (.f7 (True) (cond (!H5 x1 (0:Int) ((↑(List.length aa):Int) - (1:Int))) (.ret (((6:Int),((ai,af,()),ab,ae,aa,()),()))) (cond (decide (x2=(3:Int))) (cond (decide ((↑(List.length aa):Int)=(60:Int))) (.ret (((8:Int),((ai,af,()),ab,ae,aa,()),()))) (.f7 ((0:Int)<=x1/\x1<(↑(List.length aa):Int)) (cond (decide (x2=(3:Int))) (.f7 (True/\True/\[]++[Step.l7 3]=[]++[Step.l7 3]/\List.length aa+List.length (List.set [[]] (Int.toNat (↑0:Int)) (List.getD aa (Int.toNat x1) []))<=140737488355328/\(List.length aa+List.length (List.set [[]] (Int.toNat (↑0:Int)) (List.getD aa (Int.toNat x1) [])))*Ty.wb Ty.str<=140737488355328) (.ret (((0:Int),((ai,af,()),ab,ae,aa++List.set [[]] (Int.toNat (↑0:Int)) (List.getD aa (Int.toNat x1) []),()),())))) (.f7 (r7 IntKind.i64 (x1+(1:Int))) (.f7 (True/\True/\[]++[Step.l7 3]=[]++[Step.l7 3]/\(0:Int)<=x1/\x1<=x1+(1:Int)/\x1+(1:Int)<=(↑(List.length aa):Int)) (.f7 (True) (cond (decide (x2=(1:Int))) (cond (decide (Prod.fst (Prod.snd (w8 (List.getD aa (Int.toNat x1) [])))=(0:Int))) (cond (decide (Prod.fst (Prod.snd (Prod.snd (Prod.snd (Prod.fst (w8 (List.getD aa (Int.toNat x1) []))))))=ai)) (.f7 (List.length ab<=6) (cond (s5 ((ai,af,()),ab,ae,List.take (Int.toNat x1) aa++List.drop (Int.toNat (x1+(1:Int))) aa,()) (Prod.fst (Prod.snd (Prod.snd (Prod.fst (w8 (List.getD aa (Int.toNat x1) []))))))) (.f7 (wO ((ai,af,()),ab,ae,List.take (Int.toNat x1) aa++List.drop (Int.toNat (x1+(1:Int))) aa,()) (Prod.fst (w8 (List.getD aa (Int.toNat x1) [])))) (.ret (((0:Int),F9 ((ai,af,()),ab,ae,List.take (Int.toNat x1) aa++List.drop (Int.toNat (x1+(1:Int))) aa,()) (Prod.fst (w8 (List.getD aa (Int.toNat x1) []))),())))) (.ret (((0:Int),((ai,af,()),ab,ae,List.take (Int.toNat x1) aa++List.drop (Int.toNat (x1+(1:Int))) aa,()),()))))) (.ret (((0:Int),((ai,af,()),ab,ae,List.take (Int.toNat x1) aa++List.drop (Int.toNat (x1+(1:Int))) aa,()),())))) (.ret (((0:Int),((ai,af,()),ab,ae,List.take (Int.toNat x1) aa++List.drop (Int.toNat (x1+(1:Int))) aa,()),())))) (.ret (((0:Int),((ai,af,()),ab,ae,List.take (Int.toNat x1) aa++List.drop (Int.toNat (x1+(1:Int))) aa,()),())))))))))) (.f7 ((0:Int)<=x1/\x1<(↑(List.length aa):Int)) (cond (decide (x2=(3:Int))) (.f7 (True/\True/\[]++[Step.l7 3]=[]++[Step.l7 3]/\List.length aa+List.length (List.set [[]] (Int.toNat (↑0:Int)) (List.getD aa (Int.toNat x1) []))<=140737488355328/\(List.length aa+List.length (List.set [[]] (Int.toNat (↑0:Int)) (List.getD aa (Int.toNat x1) [])))*Ty.wb Ty.str<=140737488355328) (.ret (((0:Int),((ai,af,()),ab,ae,aa++List.set [[]] (Int.toNat (↑0:Int)) (List.getD aa (Int.toNat x1) []),()),())))) (.f7 (r7 IntKind.i64 (x1+(1:Int))) (.f7 (True/\True/\[]++[Step.l7 3]=[]++[Step.l7 3]/\(0:Int)<=x1/\x1<=x1+(1:Int)/\x1+(1:Int)<=(↑(List.length aa):Int)) (.f7 (True) (cond (decide (x2=(1:Int))) (cond (decide (Prod.fst (Prod.snd (w8 (List.getD aa (Int.toNat x1) [])))=(0:Int))) (cond (decide (Prod.fst (Prod.snd (Prod.snd (Prod.snd (Prod.fst (w8 (List.getD aa (Int.toNat x1) []))))))=ai)) (.f7 (List.length ab<=6) (cond (s5 ((ai,af,()),ab,ae,List.take (Int.toNat x1) aa++List.drop (Int.toNat (x1+(1:Int))) aa,()) (Prod.fst (Prod.snd (Prod.snd (Prod.fst (w8 (List.getD aa (Int.toNat x1) []))))))) (.f7 (wO ((ai,af,()),ab,ae,List.take (Int.toNat x1) aa++List.drop (Int.toNat (x1+(1:Int))) aa,()) (Prod.fst (w8 (List.getD aa (Int.toNat x1) [])))) (.ret (((0:Int),F9 ((ai,af,()),ab,ae,List.take (Int.toNat x1) aa++List.drop (Int.toNat (x1+(1:Int))) aa,()) (Prod.fst (w8 (List.getD aa (Int.toNat x1) []))),())))) (.ret (((0:Int),((ai,af,()),ab,ae,List.take (Int.toNat x1) aa++List.drop (Int.toNat (x1+(1:Int))) aa,()),()))))) (.ret (((0:Int),((ai,af,()),ab,ae,List.take (Int.toNat x1) aa++List.drop (Int.toNat (x1+(1:Int))) aa,()),())))) (.ret (((0:Int),((ai,af,()),ab,ae,List.take (Int.toNat x1) aa++List.drop (Int.toNat (x1+(1:Int))) aa,()),())))) (.ret (((0:Int),((ai,af,()),ab,ae,List.take (Int.toNat x1) aa++List.drop (Int.toNat (x1+(1:Int))) aa,()),())))))))))))))):=by kernel_rfl
theorem Qn {w:f8} {k bu:Int} (h:H5 bu 1 3=false):C7 w k bu=(w,1):=by rw [C7]; exact if_pos h
theorem JT {w:f8} {k bu:Int} (h:¬ H5 bu 1 3=false) (h1:H5 k 0 ((w.2.2.2.1.length:Int) - 1)=false):C7 w k bu=(w,6):=by rw [C7]; exact (if_neg h).trans (if_pos h1)
theorem RZ {w:f8} {k bu:Int} (h:¬ H5 bu 1 3=false) (h1:¬ H5 k 0 ((w.2.2.2.1.length:Int) - 1)=false) (h2:bu=3) (h3:(w.2.2.2.1.length:Int)=60):C7 w k bu=(w,8):=by
  rw [C7]; exact (if_neg h).trans ((if_neg h1).trans (if_pos ⟨h2,h3⟩))
theorem RY {w:f8} {k bu:Int} (h:¬ H5 bu 1 3=false) (h1:¬ H5 k 0 ((w.2.2.2.1.length:Int) - 1)=false) (h2:bu=3) (h3:¬ (w.2.2.2.1.length:Int)=60):C7 w k bu=(De w k.toNat,0):=by
  rw [C7]; exact (if_neg h).trans ((if_neg h1).trans ((if_neg (λ e=>h3 e.2)).trans (if_pos h2)))
theorem BB {w:f8} {k bu:Int} (h:¬ H5 bu 1 3=false) (h1:¬ H5 k 0 ((w.2.2.2.1.length:Int) - 1)=false) (h2:¬ bu=3):C7 w k bu=(wN (yp w k) bu (w.2.2.2.1.getD k.toNat []),0):=by
  rw [C7]; exact (if_neg h).trans ((if_neg h1).trans ((if_neg (λ e=>h2 e.1)).trans (if_neg h2)))
theorem Sb {w:f8} {bu:Int} {s:yY} (h:bu=1/\(w8 s).2.1=0/\(w8 s).1.2.2.2.1=w.1.1/\s5 w (w8 s).1.2.2.1=true):wN w bu s=F9 w (w8 s).1:=by
  rw [wN]; exact if_pos h
theorem Eo {w:f8} {bu:Int} {s:yY} (h:¬ (bu=1/\(w8 s).2.1=0/\(w8 s).1.2.2.2.1=w.1.1/\s5 w (w8 s).1.2.2.1=true)):wN w bu s=w:=by
  rw [wN]; exact if_neg h
theorem wO.drop {w:f8} {n:B8} {l:List yY} (h:wO w n):wO (w.1,w.2.1,w.2.2.1,l,()) n:=⟨h.M1,h.to,h.seq,h.log,h.ord,h.txt⟩
attribute [local irreducible] C7 wN F9 w8 s5 in
theorem KD:Ay.Valid Tryz.prog 18:=by
  refine o7.n8 QW rfl rfl Tryz.func18 (c:=d8 Tryz.prog 18) rfl rfl QF rfl ?_;rintro ⟨⟨⟨(v0:Int),(v1:Int),⟨⟩⟩,(al:List n7),(od:List yY),(wy:List yY),⟨⟩⟩,(k:Int),(bu:Int),⟨⟩⟩ (hq:zL ((v0,v1,()),al,od,wy,())) -
  refine j8 (n:=1000) QW QF ?_;refine i7 (XB v0 v1 al od wy k bu) ?_;have ij:Ty.wb .str=16:=rfl;have ry:wy.length<=60:=hq.way;simp only [j6,Tree.holds,sL];have key:∀ r:f8×Int,C7 ((v0,v1,()),al,od,wy,()) k bu=r->(((r.2,r.1,()):Int×f8×Unit)=((C7 ((v0,v1,()),al,od,wy,()) k bu).2,(C7 ((v0,v1,()),al,od,wy,()) k bu).1,())):=by rintro r rfl; rfl
  have cZ:¬ H5 k 0 ((wy.length:Int) - 1)=false->0<=k/\k<(wy.length:Int):=λ h=>by
    have:=T8.1 (Bool.not_eq_false _▸h:H5 k 0 ((wy.length:Int) - 1)=true); omega
  have yes:∀ (a:¬ H5 bu 1 3=false) (b:¬ H5 k 0 ((wy.length:Int) - 1)=false) (c:¬ bu=3),bu=1->(w8 (wy.getD k.toNat [])).2.1=0->(w8 (wy.getD k.toNat [])).1.2.2.2.1=v0->s5 ((v0,v1,()),al,od,wy.take k.toNat++wy.drop (k+1).toNat,()) (w8 (wy.getD k.toNat [])).1.2.2.1=true ->
      C7 ((v0,v1,()),al,od,wy,()) k bu=(F9 ((v0,v1,()),al,od,wy.take k.toNat++wy.drop (k+1).toNat,()) (w8 (wy.getD k.toNat [])).1,0):=λ a b c d e f g=>by
    rw [BB a b c]; exact congrArg (λ x=>(x,(0:Int))) (Sb ⟨d,e,f,g⟩)
  have no:∀ (a:¬ H5 bu 1 3=false) (b:¬ H5 k 0 ((wy.length:Int) - 1)=false) (c:¬ bu=3),¬ (bu=1/\(w8 (wy.getD k.toNat [])).2.1=0/\(w8 (wy.getD k.toNat [])).1.2.2.2.1=v0/\s5 ((v0,v1,()),al,od,wy.take k.toNat++wy.drop (k+1).toNat,()) (w8 (wy.getD k.toNat [])).1.2.2.1=true) ->
      C7 ((v0,v1,()),al,od,wy,()) k bu=(((v0,v1,()),al,od,wy.take k.toNat++wy.drop (k+1).toNat,()),0):=λ a b c d=>by
    rw [BB a b c]; exact congrArg (λ x=>(x,(0:Int))) (Eo d)
  have pre:0<=k/\k<(wy.length:Int)->(w8 (wy.getD k.toNat [])).2.1=0->(w8 (wy.getD k.toNat [])).1.2.2.2.1=v0->s5 ((v0,v1,()),al,od,wy.take k.toNat++wy.drop (k+1).toNat,()) (w8 (wy.getD k.toNat [])).1.2.2.1=true->wO ((v0,v1,()),al,od,wy.take k.toNat++wy.drop (k+1).toNat,()) (w8 (wy.getD k.toNat [])).1:=λ h h1 h3 h2 =>
    (hq.note _ (by show wy.getD k.toNat []∈wy; rw [List.getD_eq_getElem?_getD,List.getElem?_eq_getElem (by omega)]; exact List.getElem_mem _) h1 h3 (by rw [s5.eq_1] at h2 ⊢; exact h2)).drop
  refine ⟨λ a=>key (_,_) (Qn a),λ a=>⟨F0.2 ⟨by omega,by omega⟩,λ _=>⟨λ b=>key (_,_) (JT (by simpa using a) b),λ b=>?_⟩⟩⟩;have a:¬ H5 bu 1 3=false:=by simpa using a
  have b:¬ H5 k 0 ((wy.length:Int) - 1)=false:=by simpa using b
  have hk:=cZ b;refine ⟨λ c=>⟨λ d=>key (_,_) (RZ a b c d),λ d=>⟨hk,λ _=>⟨λ _=>⟨by rw [ij]; omega,λ _=>key (_,_) (RY a b c d)⟩,λ e=>absurd c e⟩⟩⟩,λ c=>⟨hk,λ _=>⟨λ e=>absurd e c,λ _=>⟨F0.2 ⟨by omega,by omega⟩,λ _=>⟨⟨by omega,by omega,by omega⟩,λ _=>⟨λ d=>⟨λ e=>⟨λ f=>⟨hq.M1,λ _=>⟨λ g=>⟨pre hk e f g,λ _=>key (_,_) (yes a b c d e f g)⟩,λ g=>key (_,_) (no a b c (λ h=>by rw [h.2.2.2] at g; cases g))⟩⟩,λ f=>key (_,_) (no a b c (λ h=>f h.2.2.1))⟩,λ e=>key (_,_) (no a b c (λ h=>e h.2.1))⟩,λ d=>key (_,_) (no a b c (λ h=>d h.1))⟩⟩⟩⟩⟩⟩
abbrev vw (m:DR):f8:=(m.1,m.2.1.map rdP,m.2.2)
abbrev uT (w:f8):DR:=(w.1,w.2.1.map toM,w.2.2)
theorem WZ (w:f8):vw (uT w)=w:=by
  show (w.1,(w.2.1.map toM).map rdP,w.2.2)=w;rw [List.map_map,show (rdP ∘ toM)=id from rfl,List.map_id]
structure yI (w:f8):Prop where
  M1:w.2.1.length<=6
  TJ:∀ i:Nat,(w.2.1.getD i j7).2.1.length<=5864062014805
  late:∀ i:Nat,(w.2.1.getD i j7).2.2.1.2.1.length<=1048576
def MJ:o7:={ ps:=[.rw Z2],rs:=[e8],pre:=λ x=>(x.1:DR)=uT (vw x.1)/\yI (vw x.1)/\¬ (R0 (vw x.1)).2.1≠0,fn:=λ _=>(0,()),out:=λ x=>(uT (F1 (vw x.1)),()) }
noncomputable def xp:Env:={ P:=Tryz.prog,tt:=ttW,C5:=[(47,ym),(53,Be),(31,Aj),(32,FV)],res:=[Go.ResultVar.tmp 2],rs:=[Ty.int IntKind.i64],ps:=[PK.rw Z2],y9:=[(4,[(0,none),(3,none),(4,none),(18,none),(19,none)]),(16,[(0,none),(4,none),(7,none),(67,none),(68,none)]),(22,[(0,none),(4,none),(7,none),(9,none),(10,none),(11,none),(67,none),(68,none),(86,none),(87,none),(88,none)]),(998049,[(6,some L9)]),(998014,[(4,some L9)])],nt:=139 }
theorem Cf:w5 xp:=x6 MA ⟨BV,Tg,Kg,SK,trivial⟩
theorem Cg:B0 xp Tryz.f25:=⟨rfl,rfl⟩
theorem Zr (ai:Int) (af:Int) (ab:List L7) (ae:List yY) (aa:List yY):exec xp 1000 [.code (d8 Tryz.prog 25)] (s7 MJ.ps ((((ai,af,()),ab,ae,aa,()),()))) =
  .ctL (g8 (d8 Tryz.prog 25) 4) (St.mk [(0,AV.ptr 2000000 []),(3,AV.val U8 (0:Int)),(4,AV.val L9 []),(18,AV.val e8 (↑(List.length ab):Int)),(19,AV.val e8 (0:Int))] [(2000000,g9.var Z2 ((ai,af,()),ab,ae,aa,()))]):=by kernel_rfl
def Kq (v3:Int) (v4:List (Int×yY×Unit)) (uG:Int) (uC:Int) (au:Int) (an:Int) (aj:List L7) (ak:List yY) (ah:List yY):St:=St.mk [(0,AV.ptr 2000000 []),(3,AV.val U8 v3),(4,AV.val L9 v4),(18,AV.val e8 uG),(19,AV.val e8 uC)] [(2000000,g9.var Z2 ((au,an,()),aj,ak,ah,()))]
theorem b8I (v3:Int) (v4:List (Int×yY×Unit)) (uG:Int) (uC:Int) (au:Int) (an:Int) (aj:List L7) (ak:List yY) (ah:List yY):exec xp 1000 (.code (g8 (d8 Tryz.prog 25) 4).1::.inLoop (g8 (d8 Tryz.prog 25) 4).1::(g8 (d8 Tryz.prog 25) 4).2) (Kq v3 v4 uG uC au an aj ak ah) =
  cond (decide (uC<uG)) (.f7 (List.length (List.map (rdV X9) aj)<=6) (cond (s5 ((au,an,()),List.map (rdV X9) aj,ak,ah,()) uC) (.f7 ((0:Int)<=uC/\uC<(↑(List.length aj):Int)) (cond (decide ((↑(List.length v4):Int)<(↑(List.length (Prod.fst (Prod.snd (Prod.fst (Prod.snd (List.getD aj (Int.toNat uC) (false,(1,[],[]),((0:Int),[],()),((0:Int),[],()),((0:Int),[],()),()))))))):Int))) (.f7 (r7 IntKind.i64 (uC+(1:Int))) (.ctL (g8 (d8 Tryz.prog 25) 4) (St.mk [(0,AV.ptr 2000000 []),(3,AV.val U8 v3),(4,AV.val L9 (Prod.fst (Prod.snd (Prod.fst (Prod.snd (List.getD aj (Int.toNat uC) (false,(1,[],[]),((0:Int),[],()),((0:Int),[],()),((0:Int),[],()),()))))))),(18,AV.val e8 uG),(19,AV.val e8 (uC+(1:Int)))] [(2000000,g9.var Z2 ((au,an,()),List.set aj (Int.toNat uC) (Prod.fst (List.getD aj (Int.toNat uC) (false,(1,[],[]),((0:Int),[],()),((0:Int),[],()),((0:Int),[],()),())),(0,Prod.fst (Prod.snd (Prod.fst (Prod.snd (List.getD aj (Int.toNat uC) (false,(1,[],[]),((0:Int),[],()),((0:Int),[],()),((0:Int),[],()),()))))),[]),Prod.snd (Prod.snd (List.getD aj (Int.toNat uC) (false,(1,[],[]),((0:Int),[],()),((0:Int),[],()),((0:Int),[],()),())))),ak,ah,()))]))) (.f7 (r7 IntKind.i64 (uC+(1:Int))) (.ctL (g8 (d8 Tryz.prog 25) 4) (St.mk [(0,AV.ptr 2000000 []),(3,AV.val U8 v3),(4,AV.val L9 v4),(18,AV.val e8 uG),(19,AV.val e8 (uC+(1:Int)))] [(2000000,g9.var Z2 ((au,an,()),aj,ak,ah,()))]))))) (.f7 ((0:Int)<=uC) (.f7 (r7 IntKind.i64 (uC+(1:Int))) (.ctL (g8 (d8 Tryz.prog 25) 4) (St.mk [(0,AV.ptr 2000000 []),(3,AV.val U8 (bOr IntKind.u8 v3 (T1 IntKind.u8 an (IntKind.wrap IntKind.u8 ((1:Int)*(2:Int)^min (Int.toNat uC) (IntKind.bits IntKind.u8)))))),(4,AV.val L9 v4),(18,AV.val e8 uG),(19,AV.val e8 (uC+(1:Int)))] [(2000000,g9.var Z2 ((au,an,()),aj,ak,ah,()))])))))) (.f7 (True) (cond (decide (Prod.fst (Prod.snd (R2 (au,an,()) v3 (0:Int)))≠(0:Int))) (.ret ((Prod.fst (Prod.snd (R2 (au,an,()) v3 (0:Int))),((au,an,()),aj,ak,ah,()),()))) (.ctL (g8 (d8 Tryz.prog 25) 16) (St.mk [(0,AV.ptr 2000000 []),(4,AV.val L9 v4),(7,AV.ptr 7 []),(67,AV.val e8 (↑(List.length aj):Int)),(68,AV.val e8 (0:Int))] [(7,g9.var View (Prod.fst (R2 (au,an,()) v3 (0:Int)))),(2000000,g9.var Z2 ((au,an,()),aj,ak,ah,()))])))):=by kernel_rfl
def KX (v4:List (Int×yY×Unit)) (vA:Int) (uI:Int) (cK:Int) (bq:Int) (au:Int) (an:Int) (aj:List L7) (ak:List yY) (ah:List yY):St:=St.mk [(0,AV.ptr 2000000 []),(4,AV.val L9 v4),(7,AV.ptr 7 []),(67,AV.val e8 vA),(68,AV.val e8 uI)] [(7,g9.var View (cK,bq,())),(2000000,g9.var Z2 ((au,an,()),aj,ak,ah,()))]
theorem b7r (v4:List (Int×yY×Unit)) (vA:Int) (uI:Int) (cK:Int) (bq:Int) (au:Int) (an:Int) (aj:List L7) (ak:List yY) (ah:List yY):exec xp 1000 (.code (g8 (d8 Tryz.prog 25) 16).1::.inLoop (g8 (d8 Tryz.prog 25) 16).1::(g8 (d8 Tryz.prog 25) 16).2) (KX v4 vA uI cK bq au an aj ak ah) =
  let q1:=(List.getD aj (Int.toNat uI) (false,(1,[],[]),((0:Int),[],()),((0:Int),[],()),((0:Int),[],()),())); let q2:=L9; let q0:=(Ty.pair Ty.bool (Ty.pair (Ty.y8 r8) (Ty.pair P7 (Ty.pair (Ty.pair e8 (Ty.pair q2 Ty.unit)) (Ty.pair (Ty.pair e8 (Ty.pair q2 Ty.unit)) Ty.unit))))); let q3:=(↑(List.length (Prod.fst (Prod.snd (Prod.fst (Prod.snd q1))))):Int); let q4:=View; let q5:=(Ty.pair q4 (Ty.pair (Ty.d0 true q0) (Ty.pair (Ty.d0 true Ty.str) (Ty.pair (Ty.d0 true Ty.str) Ty.unit)))); cond (decide (uI<vA)) (.f7 ((0:Int)<=uI/\uI<(↑(List.length aj):Int)) (.f7 (List.length (List.map (rdV q0) aj)<=6) (cond (s5 ((au,an,()),List.map (rdV q0) aj,ak,ah,()) uI) (.f7 ((0:Int)<=q3/\q3<=(↑(List.length v4):Int)/\(↑(List.length v4):Int)<=(↑(List.length v4):Int)) (.ctL (g8 (d8 Tryz.prog 25) 22) (St.mk [(0,AV.ptr 2000000 []),(4,AV.val q2 v4),(7,AV.ptr 7 []),(9,AV.val e8 uI),(10,AV.ptr 2000000 [Step.l7 1,Step.idx uI]),(11,AV.val e8 (0:Int)),(67,AV.val e8 vA),(68,AV.val e8 uI),(86,AV.val q2 (n9 q3 (↑(List.length v4):Int) v4)),(87,AV.val e8 (↑(List.length (n9 q3 (↑(List.length v4):Int) v4)):Int)),(88,AV.val e8 (0:Int))] [(7,g9.var q4 (cK,bq,())),(2000000,g9.var q5 ((au,an,()),aj,ak,ah,()))]))) (.f7 (r7 IntKind.i64 (uI+(1:Int))) (.ctL (g8 (d8 Tryz.prog 25) 16) (St.mk [(0,AV.ptr 2000000 []),(4,AV.val q2 v4),(7,AV.ptr 7 []),(67,AV.val e8 vA),(68,AV.val e8 (uI+(1:Int)))] [(7,g9.var q4 (cK,bq,())),(2000000,g9.var q5 ((au,an,()),List.set aj (Int.toNat uI) (Prod.fst q1,Prod.fst (Prod.snd q1),Prod.fst (Prod.snd (Prod.snd q1)),Prod.fst (Prod.snd (Prod.snd (Prod.snd q1))),((0:Int),[],()),Prod.snd (Prod.snd (Prod.snd (Prod.snd (Prod.snd q1))))),ak,ah,()))])))))) (.ret (((0:Int),((cK,bq,()),aj,[],ah,()),()))):=by kernel_rfl
def KY (v4:List (Int×yY×Unit)) (v9:Int) (aQ:Int) (v11:Int) (vA:Int) (uI:Int) (yg:List (Int×yY×Unit)) (v87:Int) (vX:Int) (cK:Int) (bq:Int) (au:Int) (an:Int) (aj:List L7) (ak:List yY) (ah:List yY):St:=St.mk [(0,AV.ptr 2000000 []),(4,AV.val L9 v4),(7,AV.ptr 7 []),(9,AV.val e8 v9),(10,AV.ptr 2000000 [Step.l7 1,Step.idx aQ]),(11,AV.val e8 v11),(67,AV.val e8 vA),(68,AV.val e8 uI),(86,AV.val L9 yg),(87,AV.val e8 v87),(88,AV.val e8 vX)] [(7,g9.var View (cK,bq,())),(2000000,g9.var Z2 ((au,an,()),aj,ak,ah,()))]
theorem b7q (v4:List (Int×yY×Unit)) (v9:Int) (aQ:Int) (v11:Int) (vA:Int) (uI:Int) (yg:List (Int×yY×Unit)) (v87:Int) (vX:Int) (cK:Int) (bq:Int) (au:Int) (an:Int) (aj:List L7) (ak:List yY) (ah:List yY):exec xp 1000 (.code (g8 (d8 Tryz.prog 25) 22).1::.inLoop (g8 (d8 Tryz.prog 25) 22).1::(g8 (d8 Tryz.prog 25) 22).2) (KY v4 v9 aQ v11 vA uI yg v87 vX cK bq au an aj ak ah) =
  let q3:=(false,(1,[],[]),((0:Int),[],()),((0:Int),[],()),((0:Int),[],()),()); let q1:=(List.set aj (Int.toNat aQ) (Prod.fst (List.getD aj (Int.toNat aQ) q3),(1,v4,[]),Prod.snd (Prod.snd (List.getD aj (Int.toNat aQ) q3)))); let q0:=(List.getD q1 (Int.toNat aQ) q3); let q4:=(Prod.fst (Prod.snd (Prod.fst (Prod.snd (Prod.snd q0))))); let q2:=(↑(List.length q4):Int); let q6:=L9; let q7:=View; let q5:=(Ty.pair q7 (Ty.pair (Ty.d0 true (Ty.pair Ty.bool (Ty.pair (Ty.y8 r8) (Ty.pair P7 (Ty.pair (Ty.pair e8 (Ty.pair q6 Ty.unit)) (Ty.pair (Ty.pair e8 (Ty.pair q6 Ty.unit)) Ty.unit)))))) (Ty.pair (Ty.d0 true Ty.str) (Ty.pair (Ty.d0 true Ty.str) Ty.unit)))); let q8:=(2000000,g9.var q5 ((au,an,()),aj,ak,ah,())); cond (decide (vX<v87)) (.f7 ((0:Int)<=vX/\vX<(↑(List.length yg):Int)) (cond (decide (Prod.fst (List.getD yg (Int.toNat vX) ((0:Int),[],()))=v9)) (.f7 (r7 IntKind.i64 (v11+(1:Int))) (.f7 (r7 IntKind.i64 (vX+(1:Int))) (.ctL (g8 (d8 Tryz.prog 25) 22) (St.mk [(0,AV.ptr 2000000 []),(4,AV.val q6 v4),(7,AV.ptr 7 []),(9,AV.val e8 v9),(10,AV.ptr 2000000 [Step.l7 1,Step.idx aQ]),(11,AV.val e8 (v11+(1:Int))),(67,AV.val e8 vA),(68,AV.val e8 uI),(86,AV.val q6 yg),(87,AV.val e8 v87),(88,AV.val e8 (vX+(1:Int)))] [(7,g9.var q7 (cK,bq,())),q8])))) (.f7 (r7 IntKind.i64 (vX+(1:Int))) (.ctL (g8 (d8 Tryz.prog 25) 22) (St.mk [(0,AV.ptr 2000000 []),(4,AV.val q6 v4),(7,AV.ptr 7 []),(9,AV.val e8 v9),(10,AV.ptr 2000000 [Step.l7 1,Step.idx aQ]),(11,AV.val e8 v11),(67,AV.val e8 vA),(68,AV.val e8 uI),(86,AV.val q6 yg),(87,AV.val e8 v87),(88,AV.val e8 (vX+(1:Int)))] [(7,g9.var q7 (cK,bq,())),q8]))))) (.f7 (List.length v4<=5864062014805) (.f7 (((0:Int)<=if q2<v11 then q2 else v11)/\(if q2<v11 then q2 else v11)<=q2/\q2<=q2) (.f7 (List.length (n9 (if q2<v11 then q2 else v11) q2 q4)<=1048576) (.f7 (r7 IntKind.i64 (uI+(1:Int))) (.ctL (g8 (d8 Tryz.prog 25) 16) (St.mk [(0,AV.ptr 2000000 []),(4,AV.val q6 v4),(7,AV.ptr 7 []),(67,AV.val e8 vA),(68,AV.val e8 (uI+(1:Int)))] [(7,g9.var q7 (cK,bq,())),(2000000,g9.var q5 ((au,an,()),List.set (List.set (List.set q1 (Int.toNat aQ) (Prod.fst q0,Prod.fst (Prod.snd q0),((0:Int),n9 (if q2<v11 then q2 else v11) q2 q4,()),Prod.snd (Prod.snd (Prod.snd q0)))) (Int.toNat aQ) (Prod.fst (List.getD (List.set q1 (Int.toNat aQ) (Prod.fst q0,Prod.fst (Prod.snd q0),((0:Int),n9 (if q2<v11 then q2 else v11) q2 q4,()),Prod.snd (Prod.snd (Prod.snd q0)))) (Int.toNat aQ) q3),Prod.fst (Prod.snd (List.getD (List.set q1 (Int.toNat aQ) (Prod.fst q0,Prod.fst (Prod.snd q0),((0:Int),n9 (if q2<v11 then q2 else v11) q2 q4,()),Prod.snd (Prod.snd (Prod.snd q0)))) (Int.toNat aQ) q3)),Prod.fst (Prod.snd (Prod.snd (List.getD (List.set q1 (Int.toNat aQ) (Prod.fst q0,Prod.fst (Prod.snd q0),((0:Int),n9 (if q2<v11 then q2 else v11) q2 q4,()),Prod.snd (Prod.snd (Prod.snd q0)))) (Int.toNat aQ) q3))),((0:Int),[],()),Prod.snd (Prod.snd (Prod.snd (Prod.snd (List.getD (List.set q1 (Int.toNat aQ) (Prod.fst q0,Prod.fst (Prod.snd q0),((0:Int),n9 (if q2<v11 then q2 else v11) q2 q4,()),Prod.snd (Prod.snd (Prod.snd q0)))) (Int.toNat aQ) q3)))))) (Int.toNat aQ) (Prod.fst (List.getD (List.set (List.set q1 (Int.toNat aQ) (Prod.fst q0,Prod.fst (Prod.snd q0),((0:Int),n9 (if q2<v11 then q2 else v11) q2 q4,()),Prod.snd (Prod.snd (Prod.snd q0)))) (Int.toNat aQ) (Prod.fst (List.getD (List.set q1 (Int.toNat aQ) (Prod.fst q0,Prod.fst (Prod.snd q0),((0:Int),n9 (if q2<v11 then q2 else v11) q2 q4,()),Prod.snd (Prod.snd (Prod.snd q0)))) (Int.toNat aQ) q3),Prod.fst (Prod.snd (List.getD (List.set q1 (Int.toNat aQ) (Prod.fst q0,Prod.fst (Prod.snd q0),((0:Int),n9 (if q2<v11 then q2 else v11) q2 q4,()),Prod.snd (Prod.snd (Prod.snd q0)))) (Int.toNat aQ) q3)),Prod.fst (Prod.snd (Prod.snd (List.getD (List.set q1 (Int.toNat aQ) (Prod.fst q0,Prod.fst (Prod.snd q0),((0:Int),n9 (if q2<v11 then q2 else v11) q2 q4,()),Prod.snd (Prod.snd (Prod.snd q0)))) (Int.toNat aQ) q3))),((0:Int),[],()),Prod.snd (Prod.snd (Prod.snd (Prod.snd (List.getD (List.set q1 (Int.toNat aQ) (Prod.fst q0,Prod.fst (Prod.snd q0),((0:Int),n9 (if q2<v11 then q2 else v11) q2 q4,()),Prod.snd (Prod.snd (Prod.snd q0)))) (Int.toNat aQ) q3)))))) (Int.toNat aQ) q3),Prod.fst (Prod.snd (List.getD (List.set (List.set q1 (Int.toNat aQ) (Prod.fst q0,Prod.fst (Prod.snd q0),((0:Int),n9 (if q2<v11 then q2 else v11) q2 q4,()),Prod.snd (Prod.snd (Prod.snd q0)))) (Int.toNat aQ) (Prod.fst (List.getD (List.set q1 (Int.toNat aQ) (Prod.fst q0,Prod.fst (Prod.snd q0),((0:Int),n9 (if q2<v11 then q2 else v11) q2 q4,()),Prod.snd (Prod.snd (Prod.snd q0)))) (Int.toNat aQ) q3),Prod.fst (Prod.snd (List.getD (List.set q1 (Int.toNat aQ) (Prod.fst q0,Prod.fst (Prod.snd q0),((0:Int),n9 (if q2<v11 then q2 else v11) q2 q4,()),Prod.snd (Prod.snd (Prod.snd q0)))) (Int.toNat aQ) q3)),Prod.fst (Prod.snd (Prod.snd (List.getD (List.set q1 (Int.toNat aQ) (Prod.fst q0,Prod.fst (Prod.snd q0),((0:Int),n9 (if q2<v11 then q2 else v11) q2 q4,()),Prod.snd (Prod.snd (Prod.snd q0)))) (Int.toNat aQ) q3))),((0:Int),[],()),Prod.snd (Prod.snd (Prod.snd (Prod.snd (List.getD (List.set q1 (Int.toNat aQ) (Prod.fst q0,Prod.fst (Prod.snd q0),((0:Int),n9 (if q2<v11 then q2 else v11) q2 q4,()),Prod.snd (Prod.snd (Prod.snd q0)))) (Int.toNat aQ) q3)))))) (Int.toNat aQ) q3)),Prod.fst (Prod.snd (Prod.snd (List.getD (List.set (List.set q1 (Int.toNat aQ) (Prod.fst q0,Prod.fst (Prod.snd q0),((0:Int),n9 (if q2<v11 then q2 else v11) q2 q4,()),Prod.snd (Prod.snd (Prod.snd q0)))) (Int.toNat aQ) (Prod.fst (List.getD (List.set q1 (Int.toNat aQ) (Prod.fst q0,Prod.fst (Prod.snd q0),((0:Int),n9 (if q2<v11 then q2 else v11) q2 q4,()),Prod.snd (Prod.snd (Prod.snd q0)))) (Int.toNat aQ) q3),Prod.fst (Prod.snd (List.getD (List.set q1 (Int.toNat aQ) (Prod.fst q0,Prod.fst (Prod.snd q0),((0:Int),n9 (if q2<v11 then q2 else v11) q2 q4,()),Prod.snd (Prod.snd (Prod.snd q0)))) (Int.toNat aQ) q3)),Prod.fst (Prod.snd (Prod.snd (List.getD (List.set q1 (Int.toNat aQ) (Prod.fst q0,Prod.fst (Prod.snd q0),((0:Int),n9 (if q2<v11 then q2 else v11) q2 q4,()),Prod.snd (Prod.snd (Prod.snd q0)))) (Int.toNat aQ) q3))),((0:Int),[],()),Prod.snd (Prod.snd (Prod.snd (Prod.snd (List.getD (List.set q1 (Int.toNat aQ) (Prod.fst q0,Prod.fst (Prod.snd q0),((0:Int),n9 (if q2<v11 then q2 else v11) q2 q4,()),Prod.snd (Prod.snd (Prod.snd q0)))) (Int.toNat aQ) q3)))))) (Int.toNat aQ) q3))),Prod.fst (Prod.snd (Prod.snd (Prod.snd (List.getD (List.set (List.set q1 (Int.toNat aQ) (Prod.fst q0,Prod.fst (Prod.snd q0),((0:Int),n9 (if q2<v11 then q2 else v11) q2 q4,()),Prod.snd (Prod.snd (Prod.snd q0)))) (Int.toNat aQ) (Prod.fst (List.getD (List.set q1 (Int.toNat aQ) (Prod.fst q0,Prod.fst (Prod.snd q0),((0:Int),n9 (if q2<v11 then q2 else v11) q2 q4,()),Prod.snd (Prod.snd (Prod.snd q0)))) (Int.toNat aQ) q3),Prod.fst (Prod.snd (List.getD (List.set q1 (Int.toNat aQ) (Prod.fst q0,Prod.fst (Prod.snd q0),((0:Int),n9 (if q2<v11 then q2 else v11) q2 q4,()),Prod.snd (Prod.snd (Prod.snd q0)))) (Int.toNat aQ) q3)),Prod.fst (Prod.snd (Prod.snd (List.getD (List.set q1 (Int.toNat aQ) (Prod.fst q0,Prod.fst (Prod.snd q0),((0:Int),n9 (if q2<v11 then q2 else v11) q2 q4,()),Prod.snd (Prod.snd (Prod.snd q0)))) (Int.toNat aQ) q3))),((0:Int),[],()),Prod.snd (Prod.snd (Prod.snd (Prod.snd (List.getD (List.set q1 (Int.toNat aQ) (Prod.fst q0,Prod.fst (Prod.snd q0),((0:Int),n9 (if q2<v11 then q2 else v11) q2 q4,()),Prod.snd (Prod.snd (Prod.snd q0)))) (Int.toNat aQ) q3)))))) (Int.toNat aQ) q3)))),((0:Int),[],()),Prod.snd (Prod.snd (Prod.snd (Prod.snd (Prod.snd (List.getD (List.set (List.set q1 (Int.toNat aQ) (Prod.fst q0,Prod.fst (Prod.snd q0),((0:Int),n9 (if q2<v11 then q2 else v11) q2 q4,()),Prod.snd (Prod.snd (Prod.snd q0)))) (Int.toNat aQ) (Prod.fst (List.getD (List.set q1 (Int.toNat aQ) (Prod.fst q0,Prod.fst (Prod.snd q0),((0:Int),n9 (if q2<v11 then q2 else v11) q2 q4,()),Prod.snd (Prod.snd (Prod.snd q0)))) (Int.toNat aQ) q3),Prod.fst (Prod.snd (List.getD (List.set q1 (Int.toNat aQ) (Prod.fst q0,Prod.fst (Prod.snd q0),((0:Int),n9 (if q2<v11 then q2 else v11) q2 q4,()),Prod.snd (Prod.snd (Prod.snd q0)))) (Int.toNat aQ) q3)),Prod.fst (Prod.snd (Prod.snd (List.getD (List.set q1 (Int.toNat aQ) (Prod.fst q0,Prod.fst (Prod.snd q0),((0:Int),n9 (if q2<v11 then q2 else v11) q2 q4,()),Prod.snd (Prod.snd (Prod.snd q0)))) (Int.toNat aQ) q3))),((0:Int),[],()),Prod.snd (Prod.snd (Prod.snd (Prod.snd (List.getD (List.set q1 (Int.toNat aQ) (Prod.fst q0,Prod.fst (Prod.snd q0),((0:Int),n9 (if q2<v11 then q2 else v11) q2 q4,()),Prod.snd (Prod.snd (Prod.snd q0)))) (Int.toNat aQ) q3)))))) (Int.toNat aQ) q3)))))),ak,ah,()))])))))):=by kernel_rfl
theorem JE {α:Type} {l:List α} {a:Nat} (h:a<=l.length):n9 (a:Int) (l.length:Int) l=l.drop a:=by
  unfold n9;rw [List.take_of_length_le (by rw [List.length_drop]; omega)];congr 1
theorem Ui (a b:Nat):(if (a:Int)<(b:Int) then (a:Int) else (b:Int))=((min b a:Nat):Int):=by split<;>omega
attribute [local irreducible] s5 R2 F1 in
theorem Tr:MJ.Valid Tryz.prog 25:=by
  refine o7.n8 Cf rfl rfl Tryz.func25 (c:=d8 Tryz.prog 25) rfl rfl Cg rfl ?_;rintro ⟨⟨⟨(v0:Int),(v1:Int),⟨⟩⟩,(al0:List L7),(od:List yY),(wy:List yY),⟨⟩⟩,⟨⟩⟩ ⟨he,(aZ:yI (vw ((v0,v1,()),al0,od,wy,()))),(bE:¬ (R0 (vw ((v0,v1,()),al0,od,wy,()))).2.1≠0)⟩ -
  have he:al0=(al0.map rdP).map toM:=congrArg (λ m:DR=>m.2.1) he;obtain ⟨w,hw⟩:∃ w:f8,w=vw ((v0,v1,()),al0,od,wy,()):=⟨_,rfl⟩;rw [<- hw] at aZ bE;have jF:w.1=(v0,v1,()):=by rw [hw]
  have jE:w.2.1=al0.map rdP:=by rw [hw]
  have mY:∀ (al:List L7) (i:Nat),al.length=w.2.1.length->((al.map rdP).getD i j7).1=(w.2.1.getD i j7).1->∀ r,s5 ((v0,v1,()),al.map rdP,r) i=s5 w i:=λ al i h1 h2 r=>by
    have:=b6w (v:=(v0,v1,())) (al':=al.map rdP) (al:=w.2.1) (r:=w.2.2) (r':=r) (p:=(i:Int)) (by rw [List.length_map]; exact h1) h2;rw [this,show ((v0,v1,()),w.2.1,w.2.2)=w by rw [hw]]
  have mC:al0.length=w.2.1.length:=by rw [jE,List.length_map]
  have mG:vL w al0:=by
    have:=vL.start w;rw [jE,<- he] at this;exact this
  have dX:=PL (w:=w) aZ.TJ;refine j8 (n:=1000) Cf Cg ?_;refine i7 (Zr v0 v1 al0 od wy) ?_;have eI:uT (F1 (vw ((v0,v1,()),al0,od,wy,())))=uT (F1 w):=by rw [hw]
  show Go.Ex.Reach xp Tryz.f25 ((0:Int),()) (uT (F1 (vw ((v0,v1,()),al0,od,wy,()))),()) (.code (g8 (d8 Tryz.prog 25) 4).1::.inLoop (g8 (d8 Tryz.prog 25) 4).1::(g8 (d8 Tryz.prog 25) 4).2) (Kq (D5 w 0) (I2 w 0) (al0.length:Int) ((0:Nat):Int) v0 v1 al0 od wy);rw [eI,mC];refine Reach.M0 Cf Cg (λ i:Nat×List L7=>Kq (D5 w i.1) (I2 w i.1) (w.2.1.length:Int) (i.1:Int) v0 v1 i.2 od wy) (λ i=>i.1<=w.2.1.length/\vL w i.2)
    (λ i=>w.2.1.length - i.1) 1000 (λ _=>⟨s6 rfl,s6 rfl⟩) ?_ (0,al0) ⟨Nat.zero_le _,mG⟩
  rintro ⟨i,al⟩ ⟨k1,hi⟩ - ih;have k1:i<=w.2.1.length:=k1;have hi:vL w al:=hi;have ih:∀ al',i<w.2.1.length->vL w al'->_:=λ al' h h2=>ih (i+1,al') ⟨by show i+1<=w.2.1.length; omega,h2⟩ (by show w.2.1.length - (i+1)<w.2.1.length - i; omega);refine i7 (b8I ..) ?_;have e1:((i:Nat):Int)+1=((i+1:Nat):Int):=by omega
  have sO:=aZ.M1;have hA:=mY al i hi.len (by rw [Pt,hi.rd i]);simp only [j6,Tree.holds,e1,sL];refine ⟨λ c=>⟨by show (al.map rdP).length<=6; rw [List.length_map]; have:=hi.len; omega,λ _=>⟨λ a=>⟨by have:=hi.len; omega,λ _=>⟨λ b=>⟨F0.2 ⟨by omega,by omega⟩,λ _=>?_⟩,λ b=>⟨F0.2 ⟨by omega,by omega⟩,λ _=>?_⟩⟩⟩,λ a=>⟨by omega,λ _=>⟨F0.2 ⟨by omega,by omega⟩,λ _=>?_⟩⟩⟩⟩,λ c=>⟨λ d=>?_,λ d=>?_⟩⟩
  . have a':s5 w i=true:=(hA _).symm.trans a;have hl:(al.getD i dM).2.1.2.1=(w.2.1.getD i j7).2.1:=congrArg (λ x:n7=>x.2.1) (hi.rd i);have b':(I2 w i).length<(w.2.1.getD i j7).2.1.length:=by rw [<- hl]; exact_mod_cast b
    have:=ih _ (by omega) (hi.vd (n:=0) a');rw [show D5 w (i+1)=D5 w i from if_pos a',show I2 w (i+1)=(al.getD i dM).2.1.2.1 by rw [I2,if_pos ⟨a',b'⟩,hl]] at this;exact this
  . have a':s5 w i=true:=(hA _).symm.trans a;have hl:(al.getD i dM).2.1.2.1=(w.2.1.getD i j7).2.1:=congrArg (λ x:n7=>x.2.1) (hi.rd i);have b':¬ (I2 w i).length<(w.2.1.getD i j7).2.1.length:=by rw [<- hl]; intro h; exact b (by exact_mod_cast h)
    have:=ih al (by omega) hi;rw [show D5 w (i+1)=D5 w i from if_pos a',show I2 w (i+1)=I2 w i by rw [I2,if_neg (λ h=>b' h.2)]] at this;exact this
  . have a':s5 w i=false:=(hA _).symm.trans a;have:=ih al (by omega) hi;rw [show D5 w (i+1)=bOr .u8 (D5 w i) (T1 .u8 w.1.2.1 (IntKind.wrap .u8 (1*2^min i IntKind.u8.bits))) from if_neg (by rw [a']; decide),show I2 w (i+1)=I2 w i by rw [I2,if_neg (λ h=>by rw [a'] at h; cases h.1)],jF] at this;exact this
  . obtain rfl:i=w.2.1.length:=by omega
    exact absurd (by rw [R0,jF]; exact d) bE
  obtain rfl:i=w.2.1.length:=by omega
  obtain ⟨L,hL⟩:∃ L,L=I2 w w.2.1.length:=⟨_,rfl⟩;have hg:∀ i:Nat,s5 w i=true->i<w.2.1.length->(w.2.1.getD i j7).2.1.length<=L.length:=λ i h h2=>by rw [hL]; exact DX h h2
  have tG:L.length<=5864062014805:=by rw [hL]; exact dX _
  rw [<- hL];obtain ⟨z0,z1,hz⟩:∃ z0 z1,(R2 (v0,v1,()) (D5 w w.2.1.length) 0).1=(z0,z1,()):=⟨_,_,rfl⟩;have eK:F1 w=((z0,z1,()),w.2.1.mapIdx (uK w L),[],wy,()):=by
    unfold F1;rw [<- hL,R0,jF,hz,hw]
  rw [eK];suffices go:Go.Ex.Reach xp Tryz.f25 ((0:Int),()) (uT ((z0,z1,()),w.2.1.mapIdx (uK w L),[],wy,()),()) (.code (g8 (d8 Tryz.prog 25) 16).1::.inLoop (g8 (d8 Tryz.prog 25) 16).1::(g8 (d8 Tryz.prog 25) 16).2) (KX L (w.2.1.length:Int) ((0:Nat):Int) z0 z1 v0 v1 al od wy) by
    rw [<- hi.len] at go;have h0:(R2 (v0,v1,()) (D5 w w.2.1.length) 0).1.1=z0:=by rw [hz]
    have h1:(R2 (v0,v1,()) (D5 w w.2.1.length) 0).1.2.1=z1:=by rw [hz]
    subst h0; subst h1;rw [hi.len] at go ⊢;exact go
  refine Reach.M0 Cf Cg (λ i:Nat×List L7=>KX L (w.2.1.length:Int) (i.1:Int) z0 z1 v0 v1 i.2 od wy) (λ i=>i.1<=w.2.1.length/\wg w L i.1 i.2)
    (λ i=>w.2.1.length - i.1) 1000 (λ _=>⟨s6 rfl,s6 rfl⟩) ?_ (0,al) ⟨Nat.zero_le _,hi.next L⟩
  clear ih;rintro ⟨k,al⟩ ⟨k1,hi⟩ - ih;have k1:k<=w.2.1.length:=k1;have hi:wg w L k al:=hi;have ih:∀ al',k<w.2.1.length->wg w L (k+1) al'->_:=λ al' h h2=>ih (k+1,al') ⟨by show k+1<=w.2.1.length; omega,h2⟩ (by show w.2.1.length - (k+1)<w.2.1.length - k; omega);refine i7 (b7r ..) ?_;have e2:((k:Nat):Int)+1=((k+1:Nat):Int):=by omega
  have hA:=mY al k hi.len (hi.act k);have hl:(al.getD k dM).2.1.2.1=(w.2.1.getD k j7).2.1:=congrArg (λ x:n7=>x.2.1) (hi.rd k (Nat.le_refl _));have fY:=hi.len;simp only [j6,Tree.holds,e2,sL];refine ⟨λ c=>⟨⟨by omega,by omega⟩,λ _=>⟨by show (al.map rdP).length<=6; rw [List.length_map]; omega,λ _=>⟨λ a=>⟨?_,λ _=>?_⟩,λ a=>⟨F0.2 ⟨by omega,by omega⟩,λ _=>?_⟩⟩⟩⟩,λ c=>?_⟩
  . rw [hl];have:=hg k ((hA _).symm.trans a) (by omega);omega
  . have a':s5 w k=true:=(hA _).symm.trans a;have hb:=hg k a' (by omega);rw [hl,JE hb];obtain ⟨D,hD⟩:∃ D,D=L.drop (w.2.1.getD k j7).2.1.length:=⟨_,rfl⟩;have ux:D.length<=5864062014805:=by rw [hD,List.length_drop]; omega
    rw [<- hD];suffices go:Go.Ex.Reach xp Tryz.f25 ((0:Int),()) (uT ((z0,z1,()),w.2.1.mapIdx (uK w L),[],wy,()),()) (.code (g8 (d8 Tryz.prog 25) 22).1::.inLoop (g8 (d8 Tryz.prog 25) 22).1::(g8 (d8 Tryz.prog 25) 22).2) (KY L (k:Int) (k:Int) ((countP k (D.take 0):Nat):Int) (w.2.1.length:Int) (k:Int) D (D.length:Int) ((0:Nat):Int) z0 z1 v0 v1 al od wy) by exact go
    refine Reach.M0 Cf Cg (λ j:Nat=>KY L (k:Int) (k:Int) ((countP k (D.take j):Nat):Int) (w.2.1.length:Int) (k:Int) D (D.length:Int) (j:Int) z0 z1 v0 v1 al od wy) (λ j=>j<=D.length)
      (λ j=>D.length - j) 1000 (λ _=>⟨s6 rfl,s6 rfl⟩) ?_ 0 (Nat.zero_le _)
    rintro j k2 - ih2;have k2:j<=D.length:=k2;refine i7 (b7q ..) ?_;have e3:((j:Nat):Int)+1=((j+1:Nat):Int):=by omega
    have gM:countP k (D.take j)<=j:=Nat.le_trans countP_le (by rw [List.length_take]; omega);have hG:∀ y:L7,(al.set k y).getD k (false,(1,[],[]),(0,[],()),(0,[],()),(0,[],()),())=y:=λ y=>by
      rw [List.getD_eq_getElem?_getD,List.getElem?_set_self (by omega)]; rfl
    have hS:∀ y z:L7,(al.set k y).set k z=al.set k z:=λ y z=>List.set_set ..;have mD:(al.getD k dM).2.2.1.2.1.length<=1048576:=by
      have:=aZ.late k;rw [<- hi.rd k (Nat.le_refl _)] at this;exact this
    simp only [j6,Tree.holds,e3,hG,hS,Ui,sL];refine ⟨λ d=>⟨by omega,λ _=>⟨λ e=>⟨F0.2 ⟨by omega,by omega⟩,λ _=>⟨F0.2 ⟨by omega,by omega⟩,λ _=>?_⟩⟩,λ e=>⟨F0.2 ⟨by omega,by omega⟩,λ _=>?_⟩⟩⟩,λ d=>?_⟩
    . have:=ih2 (j+1) (by show j+1<=D.length; omega) (by show D.length - (j+1)<D.length - j; omega);rw [SN (show j<D.length by omega),if_pos e,Int.natCast_add] at this;exact this
    . have:=ih2 (j+1) (by show j+1<=D.length; omega) (by show D.length - (j+1)<D.length - j; omega);rw [SN (show j<D.length by omega),if_neg e,Nat.add_zero] at this;exact this
    . obtain rfl:j=D.length:=by omega
      have hr:=hi.rd k (Nat.le_refl _);simp only [dM] at mD hr;refine ⟨tG,λ _=>⟨⟨by omega,by omega,Int.le_refl _⟩,λ _=>⟨?_,λ _=>⟨⟨by omega,by omega⟩,λ _=>?_⟩⟩⟩⟩
      . rw [JE (Nat.min_le_right ..),List.length_drop]; omega
      . rw [JE (Nat.min_le_right ..),List.take_length];have:=ih _ (by omega) hi.step;rw [show uK w L k (w.2.1.getD k j7)=((w.2.1.getD k j7).1,L,(0,(w.2.1.getD k j7).2.2.1.2.1.drop (min (countP k D) (w.2.1.getD k j7).2.2.1.2.1.length),()),(0,[],()),(0,[],()),()) from (if_pos a').trans (by rw [hD])] at this;rw [<- hr] at this;exact this
  . have a':s5 w k=false:=(hA _).symm.trans a;have:=ih _ (by omega) hi.step;rw [show uK w L k (w.2.1.getD k j7)=((w.2.1.getD k j7).1,(w.2.1.getD k j7).2.1,(w.2.1.getD k j7).2.2.1,(w.2.1.getD k j7).2.2.2.1,(0,[],()),()) from if_neg (by rw [a']; decide)] at this;have hs:=hi.same k (Nat.le_refl _) a';simp only [dM] at hs;rw [hs];exact this
  . obtain rfl:k=w.2.1.length:=by omega
    have:=hi.fin;subst this;rfl
end Go.Proofs.YtijlnmgondibnaaGreatDoor
