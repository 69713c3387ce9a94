import Derived.Test.YtijlnmgondibnaaGreatDoorJ1
import Derived.Test.YtijlnmgondibnaaGreatDoorProg
import Derived.Lib.Atoi
import Derived.Lib.ItoaMem
import Derived.Lib.IndexMore
import Derived.Shelf.Strconv.Itoa3
import Derived.Lib.ItoaLen
import Derived.Shelf.Strings.Split
import Derived.Lib.SlTrimSet
import Derived.Lib.Strings
import Derived.WalkKit
import Derived.Lib.Walk
import Derived.Shelf.RegionOpenPlain
import Derived.Shelf.Strings.Prefix
import Derived.Shelf.Strings.SlTrimAscii
import Derived.Shelf.Strconv.Atoi
import Derived.Lib.SmallJoins
import Derived.Shelf.Strings.Cut
set_option linter.unusedVariables false
set_option linter.unusedSimpArgs false
set_option linter.unusedSectionVars false
namespace Go.Proofs.YtijlnmgondibnaaGreatDoor
open Go.Ex
set_option maxRecDepth 100000
attribute [local irreducible] Go.Ex.exec
theorem VW:Ty.wb o7=24:=rfl
def Bz:r9:={ ps:=[.v (.d0 false o7)],rs:=[.d0 true o7],pre:=λ x=>List.length (α:=C7) x.1<=5864062014805,fn:=λ x=>x,out:=λ _=>() }
noncomputable def GJ:Env:={ P:=Tryz.prog,tt:=tt,E3:=[],res:=[Go.ResultVar.tmp 2],rs:=[Ty.d0 true o7],ps:=[PK.v K5],D5:=[],nt:=8 }
theorem Pa:B8 GJ:=C4 s7 trivial
theorem Pk:D7 GJ Tryz.f31:=⟨rfl,rfl⟩
theorem Wf (x0:List (Int×yY×Unit)):exec GJ 1000 [.code (d8 Tryz.prog 31)] (w9 Bz.ps ((x0,()))) =
  .both (x0=[]) (.ret (([],()))) (.f8 ((0:Nat)+List.length x0<=140737488355328/\((0:Nat)+List.length x0)*Ty.wb o7<=140737488355328) (.ret (([]++x0,())))):=by kernel_rfl
theorem Lv:Bz.Valid Tryz.prog 31:=by
  refine r9.p7 Pa rfl rfl Tryz.func31 (c:=d8 Tryz.prog 31) rfl rfl Pk rfl ?_;rintro ⟨(l:List (C7)),⟨⟩⟩ hp -
  have hp:l.length<=5864062014805:=hp;refine j6 (n:=1000) Pa Pk ?_;refine i7 (Wf l) ?_;simp only [j7,Tree.holds,VW,sL];refine ⟨λ h=>?_,by omega,λ _=>rfl⟩;show (([],()):List (C7)×Unit)=(l,());rw [show l=[] from h]
theorem VZ:Ty.wb .str=16:=rfl
def DY:r9:={ ps:=[.v (.d0 false .str)],rs:=[.d0 true .str],pre:=λ x=>List.length (α:=yY) x.1<=1048576,fn:=λ x=>x,out:=λ _=>() }
noncomputable def GF:Env:={ P:=Tryz.prog,tt:=tt,E3:=[],res:=[Go.ResultVar.tmp 2],rs:=[Ty.d0 true Ty.str],ps:=[PK.v (Ty.d0 false Ty.str)],D5:=[],nt:=8 }
theorem Pg:B8 GF:=C4 s7 trivial
theorem Pq:D7 GF Tryz.f32:=⟨rfl,rfl⟩
theorem Vu (x0:List yY):exec GF 1000 [.code (d8 Tryz.prog 32)] (w9 DY.ps ((x0,()))) =
  .both (x0=[]) (.ret (([],()))) (.f8 ((0:Nat)+List.length x0<=140737488355328/\((0:Nat)+List.length x0)*Ty.wb Ty.str<=140737488355328) (.ret (([]++x0,())))):=by kernel_rfl
theorem Tp:DY.Valid Tryz.prog 32:=by
  refine r9.p7 Pg rfl rfl Tryz.func32 (c:=d8 Tryz.prog 32) rfl rfl Pq rfl ?_;rintro ⟨(l:List yY),⟨⟩⟩ hp -
  have hp:l.length<=1048576:=hp;refine j6 (n:=1000) Pg Pq ?_;refine i7 (Vu l) ?_;simp only [j7,Tree.holds,VZ,sL];refine ⟨λ h=>?_,by omega,λ _=>rfl⟩;show (([],()):List yY×Unit)=(l,());rw [show l=[] from h]
abbrev N3:=Bool×(Nat×(List C7×List C7))×FrD×ToD×ToD×Unit
abbrev Fg:=vX×List N3×List yY×List yY×Unit
def Hn:r9:={ ps:=[.v (.d0 false .str)],rs:=[.d0 false .str],new:=true,pre:=DY.pre,fn:=λ x=>x,out:=λ _=>() }
theorem Ux:Hn.Valid Tryz.prog 32:=Tp.share (rs':=[.d0 false .str]) rfl rfl rfl
def Rg (w:d9) (p:Int) (g:Int):Int:=if j8 w p=true then g else bOr .u8 g (U2 .u8 w.1.2.1 (IntKind.wrap .u8 (1*2^min p.toNat IntKind.u8.bits)))
def E7 (w:d9):Nat->Int
  | 0=>0
  | k+1=>Rg w k (E7 w k)
def P7 (w:d9):vX×Int×Unit:=T9 w.1 (E7 w w.2.1.length) 0
def Qf:r9:={ ps:=[.rd I0],rs:=[f7],pre:=λ x=>List.length (α:=o5) (x.1:d9).2.1<=6/\(P7 x.1).2.1≠0,fn:=λ x=>((P7 x.1).2.1,()),out:=λ _=>() }
noncomputable def CW:Env:={ P:=Tryz.prog,tt:=ttW,E3:=[(47,zB),(53,Ck),(31,Bz),(32,Hn)],res:=[Go.ResultVar.tmp 2],rs:=[Ty.int IntKind.i64],ps:=[PK.rd I0],D5:=[(4,[(0,none),(3,none),(4,none),(18,none),(19,none)]),(16,[(0,none),(4,none),(7,none),(67,none),(68,none)]),(22,[(0,none),(4,none),(7,none),(9,none),(10,none),(11,none),(67,none),(68,none),(86,none),(87,none),(88,none)]),(998014,[(4,some K5)])],nt:=139 }
theorem MC:B8 CW:=C4 Oj ⟨Dq,US,Lv,Ux,trivial⟩
theorem Mn:D7 CW Tryz.f25:=⟨rfl,rfl⟩
theorem c3t (ai:Int) (af:Int) (ab:List o5) (ae:List yY) (aa:List yY):exec CW 1000 [.code (d8 Tryz.prog 25)] (w9 Qf.ps ((((ai,af,()),ab,ae,aa,()),()))) =
  .ctL (f9 (d8 Tryz.prog 25) 4) (St.mk [(0,AV.N1 I0 ((ai,af,()),ab,ae,aa,())),(3,AV.val U8 (0:Int)),(4,AV.val K5 []),(18,AV.val f7 (↑(List.length ab):Int)),(19,AV.val f7 (0:Int))] []):=by kernel_rfl
def MD (bI:Int) (aZ:Int) (bA:List o5) (bp:List yY) (aY:List yY) (v3:Int) (v4:List (Int×yY×Unit)) (vy:Int) (vw:Int):St:=St.mk [(0,AV.N1 I0 ((bI,aZ,()),bA,bp,aY,())),(3,AV.val U8 v3),(4,AV.val K5 v4),(18,AV.val f7 vy),(19,AV.val f7 vw)] []
theorem b9G (bI:Int) (aZ:Int) (bA:List o5) (bp:List yY) (aY:List yY) (v3:Int) (v4:List (Int×yY×Unit)) (vy:Int) (vw:Int):exec CW 1000 (.code (f9 (d8 Tryz.prog 25) 4).1::.inLoop (f9 (d8 Tryz.prog 25) 4).1::(f9 (d8 Tryz.prog 25) 4).2) (MD bI aZ bA bp aY v3 v4 vy vw) =
  cond (decide (vw<vy)) (.f8 (List.length bA<=6) (cond (j8 ((bI,aZ,()),bA,bp,aY,()) vw) (.f8 ((0:Int)<=vw/\vw<(↑(List.length bA):Int)) (cond (decide ((↑(List.length v4):Int)<(↑(List.length (List.getD bA (Int.toNat vw) (false,[],((0:Int),[],()),((0:Int),[],()),((0:Int),[],()),())).2.1):Int))) (.f8 (w4 IntKind.i64 (vw+(1:Int))) (.ctL (f9 (d8 Tryz.prog 25) 4) (St.mk [(0,AV.N1 I0 ((bI,aZ,()),bA,bp,aY,())),(3,AV.val U8 v3),(4,AV.val K5 (List.getD bA (Int.toNat vw) (false,[],((0:Int),[],()),((0:Int),[],()),((0:Int),[],()),())).2.1),(18,AV.val f7 vy),(19,AV.val f7 (vw+(1:Int)))] []))) (.f8 (w4 IntKind.i64 (vw+(1:Int))) (.ctL (f9 (d8 Tryz.prog 25) 4) (St.mk [(0,AV.N1 I0 ((bI,aZ,()),bA,bp,aY,())),(3,AV.val U8 v3),(4,AV.val K5 v4),(18,AV.val f7 vy),(19,AV.val f7 (vw+(1:Int)))] []))))) (.f8 ((0:Int)<=vw) (.f8 (w4 IntKind.i64 (vw+(1:Int))) (.ctL (f9 (d8 Tryz.prog 25) 4) (St.mk [(0,AV.N1 I0 ((bI,aZ,()),bA,bp,aY,())),(3,AV.val U8 (bOr IntKind.u8 v3 (U2 IntKind.u8 aZ (IntKind.wrap IntKind.u8 ((1:Int)*(2:Int)^min (Int.toNat vw) (IntKind.bits IntKind.u8)))))),(4,AV.val K5 v4),(18,AV.val f7 vy),(19,AV.val f7 (vw+(1:Int)))] [])))))) (.f8 (True) (cond (decide (Prod.fst (T9 (bI,aZ,()) v3 (0:Int)).2≠(0:Int))) (.ret ((Prod.fst (T9 (bI,aZ,()) v3 (0:Int)).2,()))) (.ctL (f9 (d8 Tryz.prog 25) 16) (St.mk [(0,AV.N1 I0 ((bI,aZ,()),bA,bp,aY,())),(4,AV.val K5 v4),(7,AV.ptr 7 []),(67,AV.val f7 (↑(List.length bA):Int)),(68,AV.val f7 (0:Int))] [(7,g9.var View (T9 (bI,aZ,()) v3 (0:Int)).1)])))):=by kernel_rfl
theorem b3F:Qf.Valid Tryz.prog 25:=by
  refine r9.p7 MC rfl rfl Tryz.func25 (c:=d8 Tryz.prog 25) rfl rfl Mn rfl ?_;rintro ⟨⟨⟨(v0:Int),(v1:Int),⟨⟩⟩,(al:List o5),(od:List yY),(wy:List yY),⟨⟩⟩,⟨⟩⟩ ⟨(hp:al.length<=6),(br:(P7 ((v0,v1,()),al,od,wy,())).2.1≠0)⟩ -
  refine j6 (n:=1000) MC Mn ?_;refine i7 (c3t v0 v1 al od wy) ?_;show Go.Ex.Reach CW Tryz.f25 ((P7 ((v0,v1,()),al,od,wy,())).2.1,()) () (.code (f9 (d8 Tryz.prog 25) 4).1::.inLoop (f9 (d8 Tryz.prog 25) 4).1::(f9 (d8 Tryz.prog 25) 4).2) (MD v0 v1 al od wy (E7 ((v0,v1,()),al,od,wy,()) 0) [] (al.length:Int) ((0:Nat):Int));refine Reach.N4 MC Mn (λ i:Nat×List C7=>MD v0 v1 al od wy (E7 ((v0,v1,()),al,od,wy,()) i.1) i.2 (al.length:Int) (i.1:Int)) (λ i=>i.1<=al.length)
    (λ i=>al.length - i.1) 1000 (λ _=>⟨w6 rfl,w6 rfl⟩) ?_ (0,[]) (aAr _)
  rintro ⟨i,l⟩ k1 - ih;have k1:i<=al.length:=k1;have ih:∀ l',i<al.length->_:=λ l' h=>ih (i+1,l') (by show i+1<=al.length; omega) (by show al.length - (i+1)<al.length - i; omega);refine i7 (b9G ..) ?_;have e1:((i:Nat):Int)+1=((i+1:Nat):Int):=by omega
  simp only [j7,Tree.holds,e1,sL];refine ⟨λ c=>⟨hp,λ _=>⟨λ a=>⟨by omega,λ _=>⟨λ b=>⟨by omega,λ _=>?_⟩,λ b=>⟨by omega,λ _=>?_⟩⟩⟩,λ a=>⟨by omega,λ _=>⟨by omega,λ _=>?_⟩⟩⟩⟩,λ c=>⟨λ d=>?_,λ d=>?_⟩⟩
  . have:=ih (al.getD i g8).2.1 (by omega);rw [show E7 ((v0,v1,()),al,od,wy,()) (i+1)=E7 ((v0,v1,()),al,od,wy,()) i from if_pos a] at this;exact this
  . have:=ih l (by omega);rw [show E7 ((v0,v1,()),al,od,wy,()) (i+1)=E7 ((v0,v1,()),al,od,wy,()) i from if_pos a] at this;exact this
  . have:=ih l (by omega);rw [show E7 ((v0,v1,()),al,od,wy,()) (i+1)=bOr .u8 (E7 ((v0,v1,()),al,od,wy,()) i) (U2 .u8 v1 (IntKind.wrap .u8 (1*2^min i IntKind.u8.bits))) from if_neg (by simpa using a)] at this;exact this
  . obtain rfl:i=al.length:=by omega
    rfl
  . obtain rfl:i=al.length:=by omega
    exact absurd (show (T9 (v0,v1,()) (E7 ((v0,v1,()),al,od,wy,()) al.length) 0).2.1=0 by simpa using d) br
def IQ:r9:={ ps:=[.rd I0],rs:=[View],pre:=λ _=>True,fn:=λ x=>((x.1:d9).1,()),out:=λ _=>() }
noncomputable def IJ:Env:={ P:=Tryz.prog,tt:=tt,E3:=[],res:=[Go.ResultVar.cell 2 57],rs:=[Ty.pair f7 (Ty.pair U8 Ty.unit)],ps:=[PK.rd I0],D5:=[],nt:=7 }
theorem Rs:B8 IJ:=C4 s7 trivial
theorem Se:D7 IJ Tryz.f29:=⟨rfl,rfl⟩
theorem YP (ai:Int) (af:Int) (ab:List o5) (ae:List yY) (aa:List yY):exec IJ 1000 [.code (d8 Tryz.prog 29)] (w9 IQ.ps ((((ai,af,()),ab,ae,aa,()),()))) =
  .ret (((ai,af,()),())):=by kernel_rfl
theorem b6S:IQ.Valid Tryz.prog 29:=by
  refine r9.p7 Rs rfl rfl Tryz.func29 (c:=d8 Tryz.prog 29) rfl rfl Se rfl ?_;rintro ⟨⟨⟨(v0:Int),(v1:Int),⟨⟩⟩,(al:List o5),(od:List yY),(wy:List yY),⟨⟩⟩,⟨⟩⟩ - -
  refine j6 (n:=1000) Rs Se ?_;refine i7 (YP v0 v1 al od wy) ?_;rfl
def GW:r9:={ ps:=[.rd I0],rs:=[f7],pre:=λ _=>True,fn:=λ x=>((List.length (α:=yY) (x.1:d9).2.2.2.1:Int),()),out:=λ _=>() }
noncomputable def Hd:Env:={ P:=Tryz.prog,tt:=tt,E3:=[],res:=[Go.ResultVar.tmp 2],rs:=[Ty.int IntKind.i64],ps:=[PK.rd I0],D5:=[],nt:=8 }
theorem QE:B8 Hd:=C4 s7 trivial
theorem Qu:D7 Hd Tryz.f17:=⟨rfl,rfl⟩
theorem Wr (ai:Int) (af:Int) (ab:List o5) (ae:List yY) (aa:List yY):exec Hd 1000 [.code (d8 Tryz.prog 17)] (w9 GW.ps ((((ai,af,()),ab,ae,aa,()),()))) =
  .ret (((↑(List.length aa):Int),())):=by kernel_rfl
theorem c1Q:GW.Valid Tryz.prog 17:=by
  refine r9.p7 QE rfl rfl Tryz.func17 (c:=d8 Tryz.prog 17) rfl rfl Qu rfl ?_;rintro ⟨⟨⟨(v0:Int),(v1:Int),⟨⟩⟩,(al:List o5),(od:List yY),(wy:List yY),⟨⟩⟩,⟨⟩⟩ - -
  refine j6 (n:=1000) QE Qu ?_;refine i7 (Wr v0 v1 al od wy) ?_;rfl
def xd (w:d9) (p:Int):List C7:=(w.2.1.getD p.toNat g8).2.1
def H5 (w:d9) (p:Int):FrD:=(w.2.1.getD p.toNat g8).2.2.1
theorem CT {v:vX} {al:List o5} {r:List yY×List yY×Unit} {p:Int} (a:¬ known (v,al,r) p≠0):0<=p/\p<(al.length:Int):=by
  unfold known at a;split at a
  . rename_i hb;have:=N5.1 hb;simp only at this; omega
  . exact absurd (by decide) a
def wc (w:d9) (p:Int):List C7×Int×Unit:=if known w p≠0 then ([],known w p,()) else (xd w p,0,())
def DJ:r9:={ ps:=[.rd I0,.v f7],rs:=[.d0 true o7,f7],pre:=λ x=>List.length (α:=o5) (x.1:d9).2.1<=6/\List.length (α:=C7) (xd x.1 x.2.1)<=5864062014805,fn:=λ x=>wc x.1 x.2.1,out:=λ _=>() }
noncomputable def GZ:Env:={ P:=Tryz.prog,tt:=tt,E3:=[(49,zM),(31,Bz)],res:=[Go.ResultVar.tmp 4,Go.ResultVar.tmp 5],rs:=[Ty.d0 true o7,Ty.int IntKind.i64],ps:=[PK.rd I0,PK.v f7],D5:=[],nt:=22 }
theorem PW:B8 GZ:=C4 s7 ⟨Dv,Lv,trivial⟩
theorem Qp:D7 GZ Tryz.f19:=⟨rfl,rfl⟩
theorem Wn (ai:Int) (af:Int) (ab:List o5) (ae:List yY) (aa:List yY) (x1:Int):exec GZ 1000 [.code (d8 Tryz.prog 19)] (w9 DJ.ps ((((ai,af,()),ab,ae,aa,()),x1,()))) =
  .f8 (List.length ab<=6) (cond (decide (known ((ai,af,()),ab,ae,aa,()) x1≠(0:Int))) (.ret (([],known ((ai,af,()),ab,ae,aa,()) x1,()))) (.f8 ((0:Int)<=x1/\x1<(↑(List.length ab):Int)) (.f8 (List.length (List.getD ab (Int.toNat x1) (false,[],((0:Int),[],()),((0:Int),[],()),((0:Int),[],()),())).2.1<=5864062014805) (.ret ((Prod.fst (List.getD ab (Int.toNat x1) (false,[],((0:Int),[],()),((0:Int),[],()),((0:Int),[],()),())).2,(0:Int),())))))):=by kernel_rfl
theorem Ti:DJ.Valid Tryz.prog 19:=by
  refine r9.p7 PW rfl rfl Tryz.func19 (c:=d8 Tryz.prog 19) rfl rfl Qp rfl ?_;rintro ⟨⟨⟨(v0:Int),(v1:Int),⟨⟩⟩,(al:List o5),(od:List yY),(wy:List yY),⟨⟩⟩,(p:Int),⟨⟩⟩ ⟨(hp:al.length<=6),(hl:(xd ((v0,v1,()),al,od,wy,()) p).length<=5864062014805)⟩ -
  refine j6 (n:=1000) PW Qp ?_;refine i7 (Wn v0 v1 al od wy p) ?_;simp only [j7,Tree.holds,sL];refine ⟨hp,λ _=>⟨λ a=>?_,λ a=>⟨CT a,λ _=>⟨hl,λ _=>?_⟩⟩⟩⟩
  . show (([],_,()):List C7×Int×Unit)=wc ((v0,v1,()),al,od,wy,()) p;exact (if_pos a).symm
  . show ((_,0,()):List C7×Int×Unit)=wc ((v0,v1,()),al,od,wy,()) p;exact (if_neg a).symm
def yM (w:d9) (p:Int):List yY×Int×Unit:=if known w p≠0 then ([],known w p,()) else ((H5 w p).2.1,0,())
def Hv:r9:={ ps:=[.rd I0,.v f7],rs:=[.d0 true .str,f7],pre:=λ x=>List.length (α:=o5) (x.1:d9).2.1<=6/\List.length (α:=yY) (H5 x.1 x.2.1).2.1<=1048576,fn:=λ x=>yM x.1 x.2.1,out:=λ _=>() }
noncomputable def Ir:Env:={ P:=Tryz.prog,tt:=tt,E3:=[(49,zM),(32,DY)],res:=[Go.ResultVar.tmp 4,Go.ResultVar.tmp 5],rs:=[Ty.d0 true Ty.str,Ty.int IntKind.i64],ps:=[PK.rd I0,PK.v f7],D5:=[],nt:=23 }
theorem Rp:B8 Ir:=C4 s7 ⟨Dv,Tp,trivial⟩
theorem Sb:D7 Ir Tryz.f20:=⟨rfl,rfl⟩
theorem YL (ai:Int) (af:Int) (ab:List o5) (ae:List yY) (aa:List yY) (x1:Int):exec Ir 1000 [.code (d8 Tryz.prog 20)] (w9 Hv.ps ((((ai,af,()),ab,ae,aa,()),x1,()))) =
  .f8 (List.length ab<=6) (cond (decide (known ((ai,af,()),ab,ae,aa,()) x1≠(0:Int))) (.ret (([],known ((ai,af,()),ab,ae,aa,()) x1,()))) (.f8 ((0:Int)<=x1/\x1<(↑(List.length ab):Int)) (.f8 (List.length (Prod.snd (List.getD ab (Int.toNat x1) (false,[],((0:Int),[],()),((0:Int),[],()),((0:Int),[],()),())).2.2.1).1<=1048576) (.ret ((Prod.fst (Prod.snd (List.getD ab (Int.toNat x1) (false,[],((0:Int),[],()),((0:Int),[],()),((0:Int),[],()),())).2.2.1),(0:Int),())))))):=by kernel_rfl
theorem b9f:Hv.Valid Tryz.prog 20:=by
  refine r9.p7 Rp rfl rfl Tryz.func20 (c:=d8 Tryz.prog 20) rfl rfl Sb rfl ?_;rintro ⟨⟨⟨(v0:Int),(v1:Int),⟨⟩⟩,(al:List o5),(od:List yY),(wy:List yY),⟨⟩⟩,(p:Int),⟨⟩⟩ ⟨(hp:al.length<=6),(hl:(H5 ((v0,v1,()),al,od,wy,()) p).2.1.length<=1048576)⟩ -
  refine j6 (n:=1000) Rp Sb ?_;refine i7 (YL v0 v1 al od wy p) ?_;simp only [j7,Tree.holds,sL];refine ⟨hp,λ _=>⟨λ a=>?_,λ a=>⟨CT a,λ _=>⟨hl,λ _=>?_⟩⟩⟩⟩
  . show (([],_,()):List yY×Int×Unit)=yM ((v0,v1,()),al,od,wy,()) p;exact (if_pos a).symm
  . show ((_,0,()):List yY×Int×Unit)=yM ((v0,v1,()),al,od,wy,()) p;exact (if_neg a).symm
theorem Gk {v:vX} {al:List o5} {r:List yY×List yY×Unit} {p:Int} (a:¬ K1 (v,al,r) p≠0):0<=p/\p<(al.length:Int):=by
  unfold K1 at a;by_cases h:known (v,al,r) p≠0
  . rw [if_pos h] at a; exact absurd h a
  . exact CT h
theorem XL {s:wv} {x:yY} (h:¬ (L9 s x).2.1≠0):(0<=(L9 s x).1.1/\(L9 s x).1.1<=16777215)/\(L9 s x).1.2.1.length<=17:=by
  unfold L9 at h ⊢;by_cases h1:J4 s≠0
  . rw [if_pos h1] at h ⊢; exact absurd h1 h
  rw [if_neg h1] at h ⊢;have aH:=yA (aBt.1 h1);by_cases h2:F3 x=true
  . rw [if_pos h2] at h; exact absurd (by decide) h
  rw [if_neg h2] at h ⊢;by_cases h3:(s.2.1.length:Int)=16\/16777215<=s.1+s.2.1.length
  . rw [if_pos h3] at h; exact absurd (by decide) h
  rw [if_neg h3];refine ⟨aH.1,?_⟩;rw [aAd];have:=aH.2.1;simp only [aAh,aCi]; omega
def setFrom (w:d9) (p:Int) (f:FrD):d9 :=
  (w.1,w.2.1.set p.toNat ((w.2.1.getD p.toNat g8).1,(w.2.1.getD p.toNat g8).2.1,f,(w.2.1.getD p.toNat g8).2.2.2),w.2.2)
def yO (w:d9) (p:Int) (t:yY) (r:FrD):d9:=M7 (setFrom w p r) 1 p (r7 (setFrom w p r)) (r.1+r.2.1.length - 1) t
def P5 (w:d9) (p:Int) (t:yY):d9×Int :=
  if K1 w p≠0 then (w,K1 w p) else if (150:Int)<t.length then (w,2) else if (w.2.2.2.1.length:Int)=60 then (w,8)
  else if (L9 (H5 w p) t).2.1≠0 then (w,(L9 (H5 w p) t).2.1) else (yO w p t (L9 (H5 w p) t).1,0)
def GU:r9:={ ps:=[.rw s9,.v f7,.v .str],rs:=[f7],pre:=λ x=>List.length (α:=o5) (x.1:d9).2.1<=6,fn:=λ x=>((P5 x.1 x.2.1 x.2.2.1).2,()),out:=λ x=>((P5 x.1 x.2.1 x.2.2.1).1,()) }
noncomputable def Hb:Env:={ P:=Tryz.prog,tt:=tt,E3:=[(41,En),(42,Nc),(43,Au),(44,Ah)],res:=[Go.ResultVar.tmp 6],rs:=[Ty.int IntKind.i64],ps:=[PK.rw s9,PK.v f7,PK.v Ty.str],D5:=[],nt:=64 }
theorem PY:B8 Hb:=C4 s7 ⟨Ui,c2a,Gf,Gb,trivial⟩
theorem Qr:D7 Hb Tryz.f15:=⟨rfl,rfl⟩
theorem Wp (ai:Int) (af:Int) (ab:List o5) (ae:List yY) (aa:List yY) (x1:Int) (x2:yY):exec Hb 1000 [.code (d8 Tryz.prog 15)] (w9 GU.ps ((((ai,af,()),ab,ae,aa,()),x1,x2,()))) =
  .f8 (List.length ab<=6) (cond (decide (K1 ((ai,af,()),ab,ae,aa,()) x1≠(0:Int))) (.ret ((K1 ((ai,af,()),ab,ae,aa,()) x1,((ai,af,()),ab,ae,aa,()),()))) (cond (decide ((150:Int)<(↑(List.length x2):Int))) (.ret (((2:Int),((ai,af,()),ab,ae,aa,()),()))) (cond (decide ((↑(List.length aa):Int)=(60:Int))) (.ret (((8:Int),((ai,af,()),ab,ae,aa,()),()))) (.f8 ((0:Int)<=x1/\x1<(↑(List.length ab):Int)) (.f8 (True) (cond (decide (Prod.fst (L9 (List.getD ab (Int.toNat x1) (false,[],((0:Int),[],()),((0:Int),[],()),((0:Int),[],()),())).2.2.1 x2).2≠(0:Int))) (.ret ((Prod.fst (L9 (List.getD ab (Int.toNat x1) (false,[],((0:Int),[],()),((0:Int),[],()),((0:Int),[],()),())).2.2.1 x2).2,((ai,af,()),ab,ae,aa,()),()))) (.f8 ((0:Int)<=x1/\x1<(↑(List.length ab):Int)) (.f8 (True) (.f8 (w4 IntKind.i64 (Prod.fst (L9 (List.getD ab (Int.toNat x1) (false,[],((0:Int),[],()),((0:Int),[],()),((0:Int),[],()),())).2.2.1 x2).1+(↑(List.length (Prod.snd (L9 (List.getD ab (Int.toNat x1) (false,[],((0:Int),[],()),((0:Int),[],()),((0:Int),[],()),())).2.2.1 x2).1).1):Int))) (.f8 (w4 IntKind.i64 (Prod.fst (L9 (List.getD ab (Int.toNat x1) (false,[],((0:Int),[],()),((0:Int),[],()),((0:Int),[],()),())).2.2.1 x2).1+(↑(List.length (Prod.snd (L9 (List.getD ab (Int.toNat x1) (false,[],((0:Int),[],()),((0:Int),[],()),((0:Int),[],()),())).2.2.1 x2).1).1):Int) - (1:Int))) (.f8 (True) (.ret (((0:Int),M7 ((ai,af,()),List.set ab (Int.toNat x1) (Prod.fst (List.getD ab (Int.toNat x1) (false,[],((0:Int),[],()),((0:Int),[],()),((0:Int),[],()),())),Prod.fst (List.getD ab (Int.toNat x1) (false,[],((0:Int),[],()),((0:Int),[],()),((0:Int),[],()),())).2,Prod.fst (L9 (List.getD ab (Int.toNat x1) (false,[],((0:Int),[],()),((0:Int),[],()),((0:Int),[],()),())).2.2.1 x2),Prod.snd (List.getD ab (Int.toNat x1) (false,[],((0:Int),[],()),((0:Int),[],()),((0:Int),[],()),())).2.2),ae,aa,()) (1:Int) x1 (r7 ((ai,af,()),List.set ab (Int.toNat x1) (Prod.fst (List.getD ab (Int.toNat x1) (false,[],((0:Int),[],()),((0:Int),[],()),((0:Int),[],()),())),Prod.fst (List.getD ab (Int.toNat x1) (false,[],((0:Int),[],()),((0:Int),[],()),((0:Int),[],()),())).2,Prod.fst (L9 (List.getD ab (Int.toNat x1) (false,[],((0:Int),[],()),((0:Int),[],()),((0:Int),[],()),())).2.2.1 x2),Prod.snd (List.getD ab (Int.toNat x1) (false,[],((0:Int),[],()),((0:Int),[],()),((0:Int),[],()),())).2.2),ae,aa,())) (Prod.fst (L9 (List.getD ab (Int.toNat x1) (false,[],((0:Int),[],()),((0:Int),[],()),((0:Int),[],()),())).2.2.1 x2).1+(↑(List.length (Prod.snd (L9 (List.getD ab (Int.toNat x1) (false,[],((0:Int),[],()),((0:Int),[],()),((0:Int),[],()),())).2.2.1 x2).1).1):Int) - (1:Int)) x2,())))))))))))))):=by kernel_rfl
attribute [local irreducible] P5 M7 L9 in
theorem c1X:GU.Valid Tryz.prog 15:=by
  refine r9.p7 PY rfl rfl Tryz.func15 (c:=d8 Tryz.prog 15) rfl rfl Qr rfl ?_;rintro ⟨⟨⟨(v0:Int),(v1:Int),⟨⟩⟩,(al:List o5),(od:List yY),(wy:List yY),⟨⟩⟩,(p:Int),(t:yY),⟨⟩⟩ (hp:al.length<=6) -
  refine j6 (n:=1000) PY Qr ?_;refine i7 (Wp v0 v1 al od wy p t) ?_;simp only [j7,Tree.holds,sL];obtain ⟨w,hw⟩:∃ w:d9,w=((v0,v1,()),al,od,wy,()):=⟨_,rfl⟩;have key:∀ r:d9×Int,P5 ((v0,v1,()),al,od,wy,()) p t=r->(((r.2,r.1,()):Int×d9×Unit)=((P5 ((v0,v1,()),al,od,wy,()) p t).2,(P5 ((v0,v1,()),al,od,wy,()) p t).1,())):=by rintro r rfl; rfl
  have e1:=λ a=>(P5.eq_1 ((v0,v1,()),al,od,wy,()) p t).trans (if_pos a);have e2:=λ a=>(P5.eq_1 ((v0,v1,()),al,od,wy,()) p t).trans (if_neg a);refine ⟨hp,λ _=>⟨λ a=>key (_,_) (e1 a),λ a=>⟨λ b=>key (_,_) ((e2 a).trans (if_pos b)),λ b=>⟨λ c=>key (_,_) ((e2 a).trans ((if_neg b).trans (if_pos c))),
    λ c=>⟨Gk a,λ _=>⟨λ d=>key (_,_) ((e2 a).trans ((if_neg b).trans ((if_neg c).trans (if_pos d)))),λ d=>?_⟩⟩⟩⟩⟩⟩
  have hk:=XL (s:=H5 ((v0,v1,()),al,od,wy,()) p) (x:=t) d;simp only [H5] at hk;refine ⟨Gk a,λ _=>⟨?_,λ _=>⟨?_,λ _=>key (_,_) ((e2 a).trans ((if_neg b).trans ((if_neg c).trans (if_neg d))))⟩⟩⟩
  . simp only [g8] at hk; omega
  . simp only [g8] at hk; omega
def ttN:List (TypeId×TI):=(76,TI.mk s9 88)::(74,TI.mk (.d0 true xL) 24)::(85,TI.mk xL 128)::tt
theorem WX:ttN.all (yc Tryz.prog)=true:=by kernel_rfl
def Av (n:Int):Int:=IntKind.wrap .u8 (IntKind.wrap .u8 (1*2^min n.toNat (IntKind.bits .u8)) - 1)
def DR (n:Int):Option d9×Int×Unit:=if I4 n 1 6=true then (some ((0,Av n,()),List.replicate n.toNat g8,[],[],()),0,()) else (none,1,())
def GS:r9:={ ps:=[.v f7],rs:=[.box true none s9,f7],pre:=λ _=>True,fn:=λ x=>DR x.1,out:=λ _=>() }
noncomputable def Ha:Env:={ P:=Tryz.prog,tt:=ttN,E3:=[(40,Aq)],res:=[Go.ResultVar.tmp 2,Go.ResultVar.tmp 3],rs:=[Ty.box true none s9,Ty.int IntKind.i64],ps:=[PK.v f7],D5:=[],nt:=15 }
theorem PX:B8 Ha:=C4 WX ⟨Ga,trivial⟩
theorem Qq:D7 Ha Tryz.f14:=⟨rfl,rfl⟩
theorem Wo (x0:Int):exec Ha 1000 [.code (d8 Tryz.prog 14)] (w9 GS.ps ((x0,()))) =
  .f8 (True) (cond (!I4 x0 (1:Int) (6:Int)) (.ret ((none,(1:Int),()))) (.f8 ((0:Int)<=x0) (.f8 ((0:Int)<=x0/\x0<=x0/\x0<=(140737488355328:Int)/\x0*(↑(Ty.wb xL):Int)<=(140737488355328:Int)) (.ret ((some (((0:Int),IntKind.wrap IntKind.u8 (IntKind.wrap IntKind.u8 ((1:Int)*(2:Int)^min (Int.toNat x0) (IntKind.bits IntKind.u8)) - (1:Int)),()),List.replicate (Int.toNat x0) (false,[],((0:Int),[],()),((0:Int),[],()),((0:Int),[],()),()),[],[],()),(0:Int),())))))):=by kernel_rfl
theorem Tj:GS.Valid Tryz.prog 14:=by
  refine r9.p7 PX rfl rfl Tryz.func14 (c:=d8 Tryz.prog 14) rfl rfl Qq rfl ?_;rintro ⟨(n:Int),⟨⟩⟩ - -
  refine j6 (n:=1000) PX Qq ?_;refine i7 (Wo n) ?_;have hw:Ty.wb xL=128:=rfl;simp only [j7,Tree.holds,hw,sL];refine ⟨λ a=>?_,λ a=>?_⟩
  . show ((none,1,()):Option d9×Int×Unit)=DR n;exact (if_neg (by rw [a]; simp)).symm
  . have ha:=N5.1 a;refine ⟨by omega,λ _=>⟨⟨by omega,by omega,by omega⟩,λ _=>?_⟩⟩;show (_:Option d9×Int×Unit)=DR n;exact (if_pos a).symm
def K9 (p:Int) (l:List C7) (w:d9):Nat->d9
  | 0=>w
  | k+1=>M7 (K9 p l w k) 1 p (r7 (K9 p l w k)) (l.getD k (0,[],())).1 (l.getD k (0,[],())).2.1
theorem FR {w:d9} {k f t s:Int} {x:yY}:(M7 w k f t s x).2.1=w.2.1/\(M7 w k f t s x).1=w.1/\(M7 w k f t s x).2.2.1=w.2.2.1:=by
  by_cases h:(V4 (k,f,t,w.1.1,s,[0,0,0,0,0,0],x,())).2.1=0/\(w.2.2.2.1.length:Int)<60
  . rw [CY h.1 h.2]; exact ⟨rfl,rfl,rfl⟩
  . rw [CX h]; exact ⟨rfl,rfl,rfl⟩
theorem Gp {p:Int} {l:List C7} {w:d9}:∀ k,(K9 p l w k).2.1=w.2.1/\(K9 p l w k).1=w.1/\(K9 p l w k).2.2.1=w.2.2.1
  | 0=>⟨rfl,rfl,rfl⟩
  | k+1=>by
    obtain ⟨h1,h2,h3⟩:=Gp (p:=p) (l:=l) (w:=w) k;obtain ⟨g1,g2,g3⟩:=FR (w:=K9 p l w k) (k:=1) (f:=p) (t:=r7 (K9 p l w k)) (s:=(l.getD k (0,[],())).1) (x:=(l.getD k (0,[],())).2.1);exact ⟨g1.trans h1,g2.trans h2,g3.trans h3⟩
def Bs (w:d9) (p:Int):d9:=M7 w 3 p (r7 w) (w.2.1.getD p.toNat g8).2.2.2.1.1 []
def K6 (w:d9) (p:Int):List C7:=(xg (H5 w p) 4).1
def F7 (w:d9) (p:Int):d9×Int :=
  if K1 w p≠0 then (w,K1 w p) else (Bs (K9 p (K6 w p) w (K6 w p).length) p,0)
def EA:r9:={ ps:=[.rw s9,.v f7],rs:=[f7],pre:=λ x=>List.length (α:=o5) (x.1:d9).2.1<=6,fn:=λ x=>((F7 x.1 x.2.1).2,()),out:=λ x=>((F7 x.1 x.2.1).1,()) }
noncomputable def CB:Env:={ P:=Tryz.prog,tt:=tt,E3:=[(41,En),(54,Jb),(43,Au),(44,Ah)],res:=[Go.ResultVar.tmp 4],rs:=[Ty.int IntKind.i64],ps:=[PK.rw s9,PK.v f7],D5:=[(6,[(0,none),(1,none),(28,some (Ty.d0 true o7)),(29,none),(30,none)])],nt:=58 }
theorem Lm:B8 CB:=C4 s7 ⟨Ui,b5D,Gf,Gb,trivial⟩
theorem Lr:D7 CB Tryz.f26:=⟨rfl,rfl⟩
theorem Zj (ai:Int) (af:Int) (ab:List o5) (ae:List yY) (aa:List yY) (x1:Int):exec CB 1000 [.code (d8 Tryz.prog 26)] (w9 EA.ps ((((ai,af,()),ab,ae,aa,()),x1,()))) =
  .f8 (List.length ab<=6) (cond (decide (K1 ((ai,af,()),ab,ae,aa,()) x1≠(0:Int))) (.ret ((K1 ((ai,af,()),ab,ae,aa,()) x1,((ai,af,()),ab,ae,aa,()),()))) (.f8 ((0:Int)<=x1/\x1<(↑(List.length ab):Int)) (.f8 (True) (.ctL (f9 (d8 Tryz.prog 26) 6) (St.mk [(0,AV.ptr 2000000 []),(1,AV.val f7 x1),(28,AV.at_ 1000028 []),(29,AV.val f7 (↑(List.length (xg (List.getD ab (Int.toNat x1) (false,[],((0:Int),[],()),((0:Int),[],()),((0:Int),[],()),())).2.2.1 (4:Int)).1):Int)),(30,AV.val f7 (0:Int))] [(1000028,g9.own (Ty.d0 true o7) (xg (List.getD ab (Int.toNat x1) (false,[],((0:Int),[],()),((0:Int),[],()),((0:Int),[],()),())).2.2.1 (4:Int)).1),(2000000,g9.var s9 ((ai,af,()),ab,ae,aa,()))]))))):=by kernel_rfl
def Ln (v1:Int) (xk:Int) (v30:Int) (eI:List (Int×yY×Unit)) (az:Int) (an:Int) (aj:List o5) (ak:List yY) (ah:List yY):St:=St.mk [(0,AV.ptr 2000000 []),(1,AV.val f7 v1),(28,AV.at_ 1000028 []),(29,AV.val f7 xk),(30,AV.val f7 v30)] [(1000028,g9.own (Ty.d0 true o7) eI),(2000000,g9.var s9 ((az,an,()),aj,ak,ah,()))]
theorem c3u (v1:Int) (xk:Int) (v30:Int) (eI:List (Int×yY×Unit)) (az:Int) (an:Int) (aj:List o5) (ak:List yY) (ah:List yY):exec CB 1000 (.code (f9 (d8 Tryz.prog 26) 6).1::.inLoop (f9 (d8 Tryz.prog 26) 6).1::(f9 (d8 Tryz.prog 26) 6).2) (Ln v1 xk v30 eI az an aj ak ah) =
  cond (decide (v30<xk)) (.f8 ((0:Int)<=v30/\v30<(↑(List.length eI):Int)) (.f8 (True) (.f8 (True) (.f8 (w4 IntKind.i64 (v30+(1:Int))) (.ctL (f9 (d8 Tryz.prog 26) 6) (St.mk [(0,AV.ptr 2000000 []),(1,AV.val f7 v1),(28,AV.at_ 1000028 []),(29,AV.val f7 xk),(30,AV.val f7 (v30+(1:Int)))] [(1000028,g9.own (Ty.d0 true o7) eI),(2000000,g9.var s9 (M7 ((az,an,()),aj,ak,ah,()) (1:Int) v1 (r7 ((az,an,()),aj,ak,ah,())) (List.getD eI (Int.toNat v30) ((0:Int),[],())).1 (List.getD eI (Int.toNat v30) ((0:Int),[],())).2.1))])))))) (.f8 (True) (.f8 ((0:Int)<=v1/\v1<(↑(List.length aj):Int)) (.f8 (True) (.ret (((0:Int),M7 ((az,an,()),aj,ak,ah,()) (3:Int) v1 (r7 ((az,an,()),aj,ak,ah,())) (List.getD aj (Int.toNat v1) (false,[],((0:Int),[],()),((0:Int),[],()),((0:Int),[],()),())).2.2.2.1.1 (Array.toList (ByteArray.data (ByteArray.mk #[]))),())))))):=by kernel_rfl
theorem c1s (s:wv) (m:Int):(xg s m).1.length<=16:=by
  unfold xg;by_cases h:J4 s≠0
  . rw [if_pos h]; exact aAr _
  . rw [if_neg h];exact aAx LX (yA (aBt.1 h)).2.1
attribute [local irreducible] F7 M7 xg in
theorem UM:EA.Valid Tryz.prog 26:=by
  refine r9.p7 Lm rfl rfl Tryz.func26 (c:=d8 Tryz.prog 26) rfl rfl Lr rfl ?_;rintro ⟨⟨⟨(v0:Int),(v1:Int),⟨⟩⟩,(al:List o5),(od:List yY),(wy:List yY),⟨⟩⟩,(p:Int),⟨⟩⟩ (hp:al.length<=6) -
  refine j6 (n:=1000) Lm Lr ?_;refine i7 (Zj v0 v1 al od wy p) ?_;simp only [j7,Tree.holds,sL];have key:∀ r:d9×Int,F7 ((v0,v1,()),al,od,wy,()) p=r->(((r.2,r.1,()):Int×d9×Unit)=((F7 ((v0,v1,()),al,od,wy,()) p).2,(F7 ((v0,v1,()),al,od,wy,()) p).1,())):=by rintro r rfl; rfl
  have e1:=λ a=>(F7.eq_1 ((v0,v1,()),al,od,wy,()) p).trans (if_pos a);have e2:=λ a=>(F7.eq_1 ((v0,v1,()),al,od,wy,()) p).trans (if_neg a);refine ⟨hp,λ _=>⟨λ a=>key (_,_) (e1 a),λ a=>⟨Gk a,λ _=>?_⟩⟩⟩;obtain ⟨w,hw⟩:∃ w:d9,w=((v0,v1,()),al,od,wy,()):=⟨_,rfl⟩;obtain ⟨l,hl⟩:∃ l,l=K6 ((v0,v1,()),al,od,wy,()) p:=⟨_,rfl⟩;have mm:l.length<=16:=by rw [hl]; exact c1s _ _
  have e3:F7 ((v0,v1,()),al,od,wy,()) p=(Bs (K9 p l w l.length) p,0):=by rw [e2 a,hl,hw]
  suffices go:Go.Ex.Reach CB Tryz.f26 ((0:Int),()) (Bs (K9 p l w l.length) p,()) (.code (f9 (d8 Tryz.prog 26) 6).1::.inLoop (f9 (d8 Tryz.prog 26) 6).1::(f9 (d8 Tryz.prog 26) 6).2) (Ln p (l.length:Int) ((0:Nat):Int) l (K9 p l w 0).1.1 (K9 p l w 0).1.2.1 (K9 p l w 0).2.1 (K9 p l w 0).2.2.1 (K9 p l w 0).2.2.2.1) by
    subst hw;subst hl;rw [e3];exact go
  refine Reach.N4 Lm Lr (λ i:Nat=>Ln p (l.length:Int) (i:Int) l (K9 p l w i).1.1 (K9 p l w i).1.2.1 (K9 p l w i).2.1 (K9 p l w i).2.2.1 (K9 p l w i).2.2.2.1) (λ i=>i<=l.length)
    (λ i=>l.length - i) 1000 (λ _=>⟨w6 rfl,w6 rfl⟩) ?_ 0 (aAr _)
  rintro i k1 - ih;have k1:i<=l.length:=k1;refine i7 (c3u ..) ?_;have e4:((i:Nat):Int)+1=((i+1:Nat):Int):=by omega
  simp only [j7,Tree.holds,e4,sL];refine ⟨λ c=>⟨⟨by omega,by omega⟩,λ _=>⟨by omega,λ _=>?_⟩⟩,λ c=>⟨?_,λ _=>?_⟩⟩
  . exact ih (i+1) (by show i+1<=l.length; omega) (by show l.length - (i+1)<l.length - i; omega)
  . rw [(Gp i).1,hw]; exact Gk a
  . obtain rfl:i=l.length:=by omega
    rfl
end Go.Proofs.YtijlnmgondibnaaGreatDoor
namespace Go.Proofs.YtijlnmgondibnaaGreatDoor
set_option maxRecDepth 100000
def vU:Nat->Nat->yY
  | 0,_=>[]
  | f+1,u=>if u<10 then [UInt8.ofNat (48+u)] else vU f (u / 10)++[UInt8.ofNat (48+u % 10)]
theorem Jg:∀ (f u:Nat),u<10^f->1<=f->Lib.decDigits u=vU f u
  | 0,_,_,h=>absurd h (by decide)
  | f+1,u,h,_=>by
    rw [Lib.decDigits,vU];by_cases c:u<10
    . rw [dif_pos c,if_pos c]
    . rw [dif_neg c,if_neg c];have hf:1<=f:=by
        rcases f with _|f
        . simp at h; omega
        . omega
      rw [Jg f (u / 10) (by rw [aGg] at h; exact aFx (by omega)) hf]
def E4 (n:Int):yY:=if n<0 then 45::vU 20 n.natAbs else vU 20 n.toNat
theorem XN {n:Int} (h0:-9223372036854775808<=n) (h1:n<=9223372036854775807):Lib.itoa n=E4 n:=by
  have h9:(10:Nat)^20=100000000000000000000:=by decide
  unfold Lib.itoa E4;by_cases c:n<0
  . rw [if_pos c,if_pos c,Jg 20 n.natAbs (by omega) (by decide)]
  . rw [if_neg c,if_neg c,Jg 20 n.toNat (by omega) (by decide)]
theorem KR {d:Nat} (h:d<10):(UInt8.ofNat (48+d)).toNat=48+d:=by
  rw [UInt8.toNat_ofNat']; omega
theorem KP:∀ (f u:Nat),∀ b∈vU f u,48<=b.toNat/\b.toNat<=57
  | 0,_,b,h=>by cases h
  | f+1,u,b,h=>by
    rw [vU] at h;split at h
    . rename_i c;rw [aBe.1 h,KR c]; omega
    . rcases aAi.1 h with h|h
      . exact KP f _ b h
      . rw [aBe.1 h,KR (Nat.mod_lt _ (by decide))];have:=Nat.mod_lt u (show 0<10 by decide); omega
theorem XA {f u:Nat}:vU (f+1) u≠[]:=by
  rw [vU]; split
  . exact List.cons_ne_nil _ _
  . simp
theorem Fj:∀ (f u k:Nat),u<10^k->1<=k->(vU f u).length<=k
  | 0,_,_,_,_=>aAr _
  | f+1,u,k,h,hk=>by
    rw [vU];by_cases c:u<10
    . rw [if_pos c]; exact hk
    . rw [if_neg c];rcases k with _|_|k
      . omega
      . simp at h; omega
      . have:=Fj f (u / 10) (k+1) (by rw [aGg] at h; exact aFx (by omega)) (by omega);rw [aAd]; simp only [aBn]; omega
theorem ML:∀ (l:yY) (acc:Nat) (b:UInt8) (a d:Nat),Lib.decFrom acc l=some a->Lib.digitVal b=some d->Lib.decFrom acc (l++[b])=some (a*10+d)
  | [],acc,b,a,d,h,hd=>by
    simp only [Lib.decFrom,aAc] at h;subst h;simp [Lib.decFrom,hd]
  | x::l,acc,b,a,d,h,hd=>by
    rw [aCo];rw [Lib.decFrom] at h ⊢;cases e:Lib.digitVal x with
    | none=>rw [e] at h; cases h
    | some y=>rw [e] at h; exact ML l _ b a d h hd
theorem UE {d:Nat} (h:d<10):Lib.digitVal (UInt8.ofNat (48+d))=some d:=by
  unfold Lib.digitVal;rw [KR h,if_pos (by omega)];congr 1; omega
theorem Su:∀ (f u:Nat),u<10^f->1<=f->Lib.decFrom 0 (vU f u)=some u
  | 0,_,_,h=>absurd h (by decide)
  | f+1,u,h,_=>by
    rw [vU];by_cases c:u<10
    . rw [if_pos c];have:=ML [] 0 _ 0 u rfl (UE c);simpa using this
    . rw [if_neg c];have hf:1<=f:=by
        rcases f with _|f
        . simp at h; omega
        . omega
      have h1:=Su f (u / 10) (by rw [aGg] at h; exact aFx (by omega)) hf;rw [ML _ 0 _ _ _ h1 (UE (Nat.mod_lt _ (by decide)))];congr 1; omega
theorem JU {n:Nat}:E4 (n:Int)=vU 20 n:=by
  unfold E4; rw [if_neg (by omega)]; rfl
theorem FO {n:Nat} (h:n<10^20):Lib.atoi (E4 (n:Int))=some (n:Int):=by
  rw [JU];have h1:=Su 20 n h (by decide);have h2:=KP 20 n;have h3:vU 20 n≠[]:=XA;generalize vU 20 n=l at *
  cases l with
  | nil=>exact absurd rfl h3
  | cons b r =>
    have hb:=h2 b aBd;have b1:(b == 45)=false:=by
      rw [beq_eq_false_iff_ne]; rintro rfl; exact absurd hb.1 (by decide)
    have b2:(b == 43)=false:=by
      rw [beq_eq_false_iff_ne]; rintro rfl; exact absurd hb.1 (by decide)
    simp [Lib.atoi,b1,b2,Lib.decNat,h1]
theorem PM {n:Nat}:(58:UInt8)∉E4 (n:Int):=by
  rw [JU];intro h;have:=KP 20 n _ h;exact absurd this.2 (by decide)
theorem Fo {n:Nat} (k:Nat) (h:n<10^k) (hk:1<=k):(E4 (n:Int)).length<=k:=by
  rw [JU]; exact Fj 20 n k h hk
theorem Dw {n:Int} (h0:-9223372036854775808<=n) (h1:n<=9223372036854775807):(E4 n).length<=20:=by
  have h9:(10:Nat)^19=10000000000000000000:=by decide
  unfold E4
  split
  . rw [aAh];have:=Fj 20 n.natAbs 19 (by omega) (by decide);omega
  . have:=Fj 20 n.toNat 19 (by omega) (by decide);omega
def C5:yY->yY×yY×Bool
  | []=>([],[],false)
  | b::l=>if b=58 then ([],l,true) else if (C5 l).2.2=true then (b::(C5 l).1,(C5 l).2.1,true) else (b::l,[],false)
theorem OG:∀ s:yY,Lib.cut s [58]=C5 s
  | []=>by decide
  | b::l=>by
    have ih:=OG l;have hg:=Lib.index_ge l [58];by_cases e:b=58
    . subst e;rw [C5,if_pos rfl];simp [Lib.cut,Lib.index,List.isPrefixOf]
    . have hp:List.isPrefixOf [58] (b::l)=false:=by simp [List.isPrefixOf,Ne.symm e]
      have e1:Lib.index (b::l) [58]=if Lib.index l [58] == -1 then -1 else Lib.index l [58]+1:=by rw [Lib.index,hp]; simp
      rw [C5,if_neg e,<- ih];unfold Lib.cut;rw [e1];by_cases c:Lib.index l [58]=-1
      . rw [c]; simp
      . have c0:0<=Lib.index l [58]:=by omega
        obtain ⟨k,hk⟩:∃ k:Nat,Lib.index l [58]=k:=⟨_,(aEb c0).symm⟩;rw [hk];have c1:((k:Int) == -1)=false:=by rw [beq_eq_false_iff_ne]; omega
        rw [c1];have c2:(0:Int)<=k:=by omega
        have c3:(0:Int)<=(k:Int)+1:=by omega
        have c4:((k:Int)+1).toNat=k+1:=by omega
        have c5:k+1+1=k+1+1:=rfl;simp [c2,c3,c4]
theorem CQ (s:yY):(C5 s).1.length<=s.length/\(C5 s).2.1.length<=s.length:=by
  induction s with
  | nil=>exact ⟨aAk _,aAk _⟩
  | cons b l ih =>
    rw [C5]
    split
    . exact ⟨aAr _,by simp⟩
    . split
      . simp only [aAh]; omega
      . simp
theorem Je:∀ {a b:yY},(58:UInt8)∉a->C5 (a++58::b)=(a,b,true)
  | [],b,_=>by rw [aGr,C5,if_pos rfl]
  | x::a,b,h=>by
    have hx:x≠58:=λ e=>h (by rw [e]; exact aBd);have ih:=Je (a:=a) (b:=b) (λ e=>h (aAz _ e));rw [aCo,C5,if_neg hx,ih,if_pos rfl]
def G9 (p k:Int) (t:yY):yY:=E4 p++[58]++E4 k++[58]++t
theorem FD (p k:Nat) (t:yY):C5 (G9 p k t)=(E4 p,E4 k++[58]++t,true):=by
  unfold G9;rw [show E4 (p:Int)++[58]++E4 (k:Int)++[58]++t=E4 (p:Int)++58::(E4 (k:Int)++[58]++t) by simp];exact Je PM
theorem Lu (k:Nat) (t:yY):C5 (E4 k++[58]++t)=(E4 k,t,true):=by
  rw [show E4 (k:Int)++[58]++t=E4 (k:Int)++58::t by simp];exact Je PM
end Go.Proofs.YtijlnmgondibnaaGreatDoor
namespace Go.Proofs.YtijlnmgondibnaaGreatDoor
open Go.Ex
set_option maxRecDepth 100000
def ub (n:Int):UInt8:=UInt8.ofNat (n % 256).toNat
def tb (n:Int):yY:=[ub n,ub (n / 256),ub (n / 65536)]
theorem GM (x:UInt8):ub (x.toNat:Int)=x:=by
  have:=x.toNat_lt;apply UInt8.toNat_inj.1;rw [ub,Fw]; omega
theorem Eu (n:Int):((ub n).toNat:Int)=n % 256:=by rw [ub,Fw]; omega
theorem yT (x y z:UInt8):tb ((x.toNat:Int)+(y.toNat:Int)*256+(z.toNat:Int)*65536)=[x,y,z]:=by
  have h1:=x.toNat_lt;have h2:=y.toNat_lt;have h3:=z.toNat_lt;rw [tb,aBc,aBc,aBc];refine ⟨?_,?_,?_,rfl⟩<;>(apply UInt8.toNat_inj.1; rw [ub,Fw]; omega)
theorem Uv (l:List Int):xN (l.flatMap W4)=l.flatMap tb:=by
  induction l with
  | nil=>rfl
  | cons x l ih=>rw [aFk,FB,ih,aFk]; rfl
theorem Kn (n:n8):wK n=[ub n.1,ub n.2.1,ub n.2.2.1]++(vS n).flatMap tb++n.2.2.2.2.2.2.1:=by
  rw [wK,zF,FB,FB,Uv,Lt]; rfl
theorem I3 {k:Nat} {s:yY} (h:k+1<=s.length):∃ b t,s=b::t/\k<=t.length:=by
  match s,h with
  | b::t,h=>exact ⟨b,t,rfl,by simpa using h⟩
theorem c2H {s:yY} (h:27<=s.length):wK (parse s)=s:=by
  obtain ⟨b0,t0,rfl,h0⟩:=I3 (k:=26) h;obtain ⟨b1,t1,rfl,h1⟩:=I3 (k:=25) h0;obtain ⟨b2,t2,rfl,h2⟩:=I3 (k:=24) h1;obtain ⟨b3,t3,rfl,h3⟩:=I3 (k:=23) h2;obtain ⟨b4,t4,rfl,h4⟩:=I3 (k:=22) h3;obtain ⟨b5,t5,rfl,h5⟩:=I3 (k:=21) h4;obtain ⟨b6,t6,rfl,h6⟩:=I3 (k:=20) h5;obtain ⟨b7,t7,rfl,h7⟩:=I3 (k:=19) h6;obtain ⟨b8,t8,rfl,h8⟩:=I3 (k:=18) h7;obtain ⟨b9,t9,rfl,h9⟩:=I3 (k:=17) h8;obtain ⟨BV,t10,rfl,iz⟩:=I3 (k:=16) h9;obtain ⟨BU,t11,rfl,kh⟩:=I3 (k:=15) iz;obtain ⟨BS,t12,rfl,va⟩:=I3 (k:=14) kh;obtain ⟨xF,t13,rfl,uZ⟩:=I3 (k:=13) va;obtain ⟨BR,t14,rfl,uY⟩:=I3 (k:=12) uZ;obtain ⟨BQ,t15,rfl,uX⟩:=I3 (k:=11) uY;obtain ⟨zz,t16,rfl,mz⟩:=I3 (k:=10) uX;obtain ⟨b17,t17,rfl,uW⟩:=I3 (k:=9) mz;obtain ⟨b18,t18,rfl,uV⟩:=I3 (k:=8) uW;obtain ⟨b19,t19,rfl,uU⟩:=I3 (k:=7) uV;obtain ⟨b20,t20,rfl,uT⟩:=I3 (k:=6) uU;obtain ⟨b21,t21,rfl,uS⟩:=I3 (k:=5) uT;obtain ⟨b22,t22,rfl,uR⟩:=I3 (k:=4) uS;obtain ⟨b23,t23,rfl,uQ⟩:=I3 (k:=3) uR;obtain ⟨b24,t24,rfl,uP⟩:=I3 (k:=2) uQ;obtain ⟨b25,t25,rfl,uO⟩:=I3 (k:=1) uP;obtain ⟨b26,t,rfl,vu⟩:=I3 (k:=0) uO;rw [Kn];show [ub (b0.toNat:Int),ub (b1.toNat:Int),ub (b2.toNat:Int)]++(tb ((b3.toNat:Int)+(b4.toNat:Int)*256+(b5.toNat:Int)*65536)++(tb ((b6.toNat:Int)+(b7.toNat:Int)*256+(b8.toNat:Int)*65536)++(tb ((b9.toNat:Int)+(BV.toNat:Int)*256+(BU.toNat:Int)*65536)++(tb ((BS.toNat:Int)+(xF.toNat:Int)*256+(BR.toNat:Int)*65536)++(tb ((BQ.toNat:Int)+(zz.toNat:Int)*256+(b17.toNat:Int)*65536)++(tb ((b18.toNat:Int)+(b19.toNat:Int)*256+(b20.toNat:Int)*65536)++(tb ((b21.toNat:Int)+(b22.toNat:Int)*256+(b23.toNat:Int)*65536)++(tb ((b24.toNat:Int)+(b25.toNat:Int)*256+(b26.toNat:Int)*65536)++[]))))))))++t=_;rw [yT,yT,yT,yT,yT,yT,yT,yT,GM,GM,GM];rfl
theorem c1j:∀ {n:n8},Iu n->n.2.2.2.2.2.1.length=6->parse (wK n)=n
  | (a,b,c,d,e,[v0,v1,v2,v3,v4,v5],t,()),h,_=>by
    have num:∀ x:Int,0<=x/\x<=16777215->((ub x).toNat:Int)+((ub (x / 256)).toNat:Int)*256+((ub (x / 65536)).toNat:Int)*65536=x:=by
      intro x hx; rw [Eu,Eu,Eu]; omega
    have one:∀ x:Int,0<=x/\x<=255->((ub x).toNat:Int)=x:=by intro x hx; rw [Eu]; omega
    rw [Kn];show (((ub a).toNat:Int),((ub b).toNat:Int),((ub c).toNat:Int),((ub d).toNat:Int)+((ub (d / 256)).toNat:Int)*256+((ub (d / 65536)).toNat:Int)*65536,((ub e).toNat:Int)+((ub (e / 256)).toNat:Int)*256+((ub (e / 65536)).toNat:Int)*65536,
      [((ub v0).toNat:Int)+((ub (v0 / 256)).toNat:Int)*256+((ub (v0 / 65536)).toNat:Int)*65536,((ub v1).toNat:Int)+((ub (v1 / 256)).toNat:Int)*256+((ub (v1 / 65536)).toNat:Int)*65536,((ub v2).toNat:Int)+((ub (v2 / 256)).toNat:Int)*256+((ub (v2 / 65536)).toNat:Int)*65536,
       ((ub v3).toNat:Int)+((ub (v3 / 256)).toNat:Int)*256+((ub (v3 / 65536)).toNat:Int)*65536,((ub v4).toNat:Int)+((ub (v4 / 256)).toNat:Int)*256+((ub (v4 / 65536)).toNat:Int)*65536,((ub v5).toNat:Int)+((ub (v5 / 256)).toNat:Int)*256+((ub (v5 / 65536)).toNat:Int)*65536],t,())=_
    have hv:∀ x∈[v0,v1,v2,v3,v4,v5],0<=x/\x<=16777215:=h.at_;have hf:0<=b/\b<=5:=h.from_;have ht:0<=c/\c<=5:=h.to;rw [one a h.kind,one b (by omega),one c (by omega),num d h.view,num e h.seq,num v0 (hv _ (by simp)),num v1 (hv _ (by simp)),num v2 (hv _ (by simp)),num v3 (hv _ (by simp)),num v4 (hv _ (by simp)),num v5 (hv _ (by simp))]
theorem Yw {n:n8} (h:n.2.2.2.2.2.1.length=6):(wK n).length=27+n.2.2.2.2.2.2.1.length:=by
  have:∀ l:List Int,(l.flatMap tb).length=3*l.length:=λ l=>by rw [<- Uv,xN,aAl,SW]
  rw [Kn,aAd,aAd,this];show 3+3*(n.2.2.2.2.2.1.length+1+1)+_=_;omega
theorem ZK {n:n8} (aH:Iu n) (h:n.2.2.2.2.2.1.length=6):31<=(G4 n).length/\(G4 n).length<=231:=by
  rw [G4,aAd,Yw h];have:=aH.text;show _/\_+4<=231;exact ⟨by show 31<=_+4; omega,by omega⟩
theorem LN {n:n8} (hc:E8 n=0) (h:n.2.2.2.2.2.1.length=6):y6 (G4 n)=(n,0,()):=by
  have aH:=Dc hc;obtain ⟨h1,h2⟩:=ZK aH h;have e4:(G4 n).length - 4=(wK n).length:=by rw [G4,aAd]; show (wK n).length+4 - 4=_; omega
  have e5:(G4 n).take ((G4 n).length - 4)=wK n:=by rw [e4,G4,aDd]; rfl
  have e6:(G4 n).drop ((G4 n).length - 4)=le4 (vZ (wK n)):=by rw [e4,G4,aEu]; rfl
  rw [y6,if_neg (by omega),if_neg (by omega),e5,e6,if_neg (λ c=>c rfl),c1j aH h,if_neg (λ c=>c hc)]
theorem Pt {s:yY} (h:(y6 s).2.1=0):E8 (y6 s).1=0/\G4 (y6 s).1=s:=by
  unfold y6 at h ⊢;split at h
  . cases h
  split at h
  . cases h
  split at h
  . cases h
  split at h
  . rename_i c; exact absurd h c
  . rename_i c1 c2 c3 c4;rw [if_neg c1,if_neg c2,if_neg c3,if_neg c4];have hl:27<=(s.take (s.length - 4)).length:=by rw [aAn]; omega
    refine ⟨aBt.1 c4,?_⟩;show wK (parse (s.take (s.length - 4)))++le4 (vZ (wK (parse (s.take (s.length - 4)))))=s;rw [c2H hl,aBt.1 c3,aBy]
theorem Fq {n:n8} (h:E8 n=0):V4 n=(G4 n,0,()):=by rw [V4,if_neg (λ c=>c h)]
theorem QQ {n:n8} (h:E8 n≠0):V4 n=([],E8 n,()):=by rw [V4,if_pos h]
def D3 (w:d9) (p:Int):o5:=w.2.1.getD p.toNat g8
def S3 (w:d9) (p:Int) (x:o5):d9:=(w.1,w.2.1.set p.toNat x,w.2.2)
def xO (w:d9) (x:yY):d9:=(w.1,w.2.1,w.2.2.1++[x],w.2.2.2)
def F6 (x:yY) (w:d9):Nat->d9
  | 0=>w
  | p+1=>if j8 (F6 x w p) p=true then M7 (F6 x w p) 2 (r7 (F6 x w p)) p (((F6 x w p).2.2.1.length:Int) - 1) x else F6 x w p
def J3 (f first:Int) (l:List yY) (w:d9):Nat->d9
  | 0=>w
  | i+1=>F6 (G9 f (first+i) (l.getD i [])) (xO (J3 f first l w i) (G9 f (first+i) (l.getD i []))) (J3 f first l w i).2.1.length
def V5 (w:d9) (n:n8):ToD×List yY×Int×Unit:=E6 (D3 w n.2.1).2.2.2.2.1 (n.2.2.2.2.1,n.2.2.2.2.2.2.1,())
def W5 (x:o5) (r:ToD):o5:=(x.1,x.2.1,x.2.2.1,x.2.2.2.1,r,())
def P9 (w:d9) (n:n8):d9 :=
  if (V5 w n).2.2.1≠0 then w else
  J3 n.2.1 (D3 w n.2.1).2.2.2.2.1.1 (V5 w n).2.1 (S3 w n.2.1 (W5 (D3 w n.2.1) (V5 w n).1)) (V5 w n).2.1.length
def who (t:yY):Int:=(Lib.atoi (C5 t).1).getD 0
def nth (t:yY):Int:=(Lib.atoi (C5 (C5 t).2.1).1).getD 0
def xJ (t:yY):yY:=(C5 (C5 t).2.1).2.1
def Y0 (q:Int) (x:o5) (t:yY):o5 :=
  if who t=q/\(T7 x.2.2.1 (nth t+1)).2.1=0 then (x.1,x.2.1++[(who t,xJ t,())],(T7 x.2.2.1 (nth t+1)).1,x.2.2.2) else (x.1,x.2.1++[(who t,xJ t,())],x.2.2)
def M4 (q:Int) (x:o5) (l:List yY):Nat->o5
  | 0=>x
  | i+1=>Y0 q (M4 q x l i) (l.getD i [])
def N9 (w:d9) (n:n8):ToD×List yY×Int×Unit:=E6 (D3 w n.2.2.1).2.2.2.1 (n.2.2.2.2.1,n.2.2.2.2.2.2.1,())
def xq (x:o5) (r:ToD):o5:=(x.1,x.2.1,x.2.2.1,r,x.2.2.2.2)
def U4 (w:d9) (n:n8):d9 :=
  if (N9 w n).2.2.1≠0 then w else
  S3 w n.2.2.1 (M4 n.2.2.1 (xq (D3 w n.2.2.1) (N9 w n).1) (N9 w n).2.1 (N9 w n).2.1.length)
def F4 (w:d9) (n:n8):Nat->d9
  | 0=>w
  | j+1=>if n.2.2.2.2.1+j<(F4 w n j).2.2.1.length then M7 (F4 w n j) 2 (r7 (F4 w n j)) n.2.1 (n.2.2.2.2.1+j) ((F4 w n j).2.2.1.getD (n.2.2.2.2.1+j).toNat []) else F4 w n j
def C3 (w:d9) (n:n8):d9 :=
  if known w n.2.1≠0 then w else if n.1=1 then P9 w n else if n.1=3 then F4 w n 4 else if n.1=2 then U4 w n else w
def yg (w:d9) (k:Int):d9:=(w.1,w.2.1,w.2.2.1,w.2.2.2.1.take k.toNat++w.2.2.2.1.drop (k+1).toNat,())
def BE (w:d9) (k:Nat):d9:=(w.1,w.2.1,w.2.2.1,w.2.2.2.1++[w.2.2.2.1.getD k []],())
def O7 (w:d9) (bC:Int) (s:yY):d9 :=
  if bC=1/\(y6 s).2.1=0/\(y6 s).1.2.2.2.1=w.1.1/\j8 w (y6 s).1.2.2.1=true then C3 w (y6 s).1 else w
def w8 (w:d9) (k bC:Int):d9×Int :=
  if I4 bC 1 3=false then (w,1) else if I4 k 0 ((w.2.2.2.1.length:Int) - 1)=false then (w,6) else if bC=3/\(w.2.2.2.1.length:Int)=60 then (w,8)
  else if bC=3 then (BE w k.toNat,0) else (O7 (yg w k) bC (w.2.2.2.1.getD k.toNat []),0)
theorem QR:∀ {l:List s8} {n:Int},∀ t∈(F2 l n).2.2,∃ q∈l,t=q.2.1
  | [],n,t,h=>by cases h
  | p::l,n,t,h=>by
    rw [F2] at h;split at h
    . rcases aAq.1 h with rfl|h
      . exact ⟨p,aBd,rfl⟩
      . obtain ⟨q,h1,h2⟩:=QR t h;exact ⟨q,aAz _ h1,h2⟩
    . cases h
theorem Ur {s:ToD} {p:s8} (h:(E6 s p).2.2.1=0):xV s.1 s.2.1/\(0<=p.1/\p.1<=16777214)/\F3 p.2.1=false /\
    ((E6 s p=(s,[],0,())/\(p.1<s.1\/s.1+16<=p.1\/wG p.1 s.2.1=true))\/((s.1<p.1/\p.1<s.1+16)/\wG p.1 s.2.1=false/\E6 s p=((s.1,xH p s.2.1,()),[],0,())) \/
      (p.1=s.1/\E6 s p=(((F2 s.2.1 (s.1+1)).1,(F2 s.2.1 (s.1+1)).2.1,()),p.2.1::(F2 s.2.1 (s.1+1)).2.2,0,()))):=by
  obtain ⟨r,l,⟨⟩⟩:=s;by_cases c1:toE (r,l,())≠0
  . rw [E6,if_pos c1] at h; exact absurd h c1
  have aH:=JK.1 (aBt.1 c1);by_cases c2:inF p.1 0 16777214=false
  . rw [E6,if_neg c1,if_pos c2] at h; cases h
  have h1:=yp.1 (aEn _▸c2);by_cases c3:F3 p.2.1=true
  . rw [E6,if_neg c1,if_neg c2,if_pos c3] at h; cases h
  have h2:F3 p.2.1=false:=by simpa using c3
  refine ⟨aH,h1,h2,?_⟩;rw [KA aH h1 h2];by_cases c4:p.1<r\/r+16<=p.1\/wG p.1 l=true
  . rw [if_pos c4]; exact .inl ⟨rfl,c4⟩
  rw [if_neg c4];by_cases c5:r<p.1
  . rw [if_pos c5];refine .inr (.inl ⟨⟨c5,?_⟩,?_,rfl⟩)
    . exact Int.not_le.1 (λ e=>c4 (.inr (.inl e)))
    . cases hk:wG p.1 l with
      | false=>rfl
      | true=>exact absurd (.inr (.inr hk)) c4
  . rw [if_neg c5];refine .inr (.inr ⟨?_,rfl⟩);have:¬ p.1<r:=λ e=>c4 (.inl e);show p.1=r;omega
theorem Ad {s:ToD} {p:s8} (h:(E6 s p).2.2.1=0) :
    (∀ t∈(E6 s p).2.1,(t=p.2.1\/∃ q∈s.2.1,t=q.2.1)/\F3 t=false)/\(∀ q∈(E6 s p).1.2.1,q=p\/q∈s.2.1)/\(E6 s p).2.1.length<=16/\(0<=s.1/\s.1<=16777215) /\
      (E6 s p).1.1=s.1+(E6 s p).2.1.length/\(E6 s p).1.2.1.length+(E6 s p).2.1.length<=s.2.1.length+1:=by
  obtain ⟨aH,h1,h2,hc⟩:=Ur h;have mf:=aH.rg;have hb:=aH.b;rcases hc with ⟨e,-⟩|⟨-,-,e⟩|⟨hp,e⟩
  . rw [e];exact ⟨λ t ht=>(by cases ht),λ q hq=>.inr hq,aAr _,mf,by show s.1=s.1+((0:Nat):Int); omega,by show s.2.1.length+0<=_; omega⟩
  . rw [e];refine ⟨λ t ht=>(by cases ht),λ q hq=>(ZA.1 hq),aAr _,mf,by show s.1=s.1+((0:Nat):Int); omega,?_⟩;show (xH p s.2.1).length+0<=_;rw [Zz]; omega
  . rw [e];obtain ⟨a1,a2,a3,a4⟩:=Pr (l:=s.2.1) (n:=s.1+1) (by rw [show s.1+1 - 1=s.1 by omega]; exact aH.up);refine ⟨λ t ht=>?_,λ q hq=>.inr (a4 q hq),?_,mf,?_,?_⟩
    . rcases aAq.1 ht with rfl|ht
      . exact ⟨.inl rfl,h2⟩
      . obtain ⟨q,g1,g2⟩:=QR t ht;exact ⟨.inr ⟨q,g1,g2⟩,by rw [g2]; exact (hb q g1).2⟩
    . show (p.2.1::(F2 s.2.1 (s.1+1)).2.2).length<=16;rw [aAh];cases hl:s.2.1 with
      | nil=>simp [F2]
      | cons x m =>
        have:=QX aH.up (λ x hx=>(hb x hx).1) (by rw [hl]; simp);rw [<- hl]; omega
    . show (F2 s.2.1 (s.1+1)).1=s.1+((p.2.1::(F2 s.2.1 (s.1+1)).2.2).length:Int);rw [aAh,a2]; omega
    . show (F2 s.2.1 (s.1+1)).2.1.length+(p.2.1::(F2 s.2.1 (s.1+1)).2.2).length<=_;rw [aAh]; omega
theorem KY {t:yY} (h:F3 t=false):t.length<=200:=by
  simp only [F3,decide_eq_false_iff_not] at h; omega
def okT (t:yY):Prop:=∃ p k:Nat,∃ s,p<=5/\k<=16777300/\t=G9 p k s
theorem Zh {p k:Nat} {s:yY} (h:p<=5):who (G9 p k s)=p:=by
  unfold who;rw [FD];show (Lib.atoi (E4 p)).getD 0=p;rw [FO (by omega)]; rfl
theorem QO {p k:Nat} {s:yY} (h:k<=16777300):nth (G9 p k s)=k:=by
  unfold nth;rw [FD];show (Lib.atoi (C5 (E4 k++[58]++s)).1).getD 0=k;rw [Lu];show (Lib.atoi (E4 k)).getD 0=k;rw [FO (by omega)]; rfl
theorem c3H {p k:Nat} {s:yY}:xJ (G9 p k s)=s:=by
  unfold xJ;rw [FD];show (C5 (E4 k++[58]++s)).2.1=s;rw [Lu]
theorem XQ {t:yY} (h:okT t):((C5 t).1.length<=18/\(Lib.atoi (C5 t).1).isSome=true)/\((C5 (C5 t).2.1).1.length<=18/\(Lib.atoi (C5 (C5 t).2.1).1).isSome=true)/\0<=nth t/\nth t<=16777300:=by
  obtain ⟨p,k,s,h1,h2,rfl⟩:=h;rw [QO h2];rw [FD];show ((E4 p).length<=18/\(Lib.atoi (E4 p)).isSome=true)/\((C5 (E4 k++[58]++s)).1.length<=18/\(Lib.atoi (C5 (E4 k++[58]++s)).1).isSome=true)/\_;rw [Lu,FO (by omega)];refine ⟨⟨Fo 18 (by omega) (by decide),rfl⟩,⟨Fo 18 (by omega) (by decide),?_⟩,by omega,by omega⟩;show (Lib.atoi (E4 k)).isSome=true;rw [FO (by omega)]; rfl
def J7 (w:d9):Nat->List C7
  | 0=>[]
  | k+1=>if j8 w k=true/\(J7 w k).length<(w.2.1.getD k g8).2.1.length then (w.2.1.getD k g8).2.1 else J7 w k
theorem c1u {w:d9}:∀ k,(J7 w k).length<=(J7 w (k+1)).length:=λ k=>by
  rw [J7]; split
  . rename_i h; exact Nat.le_of_lt h.2
  . exact aAk _
theorem Fz {w:d9} {i:Nat} (ha:j8 w i=true):∀ {k:Nat},i<k->(w.2.1.getD i g8).2.1.length<=(J7 w k).length
  | 0,h=>by omega
  | k+1,h=>by
    by_cases e:i=k
    . subst e;rw [J7]
      split
      . exact aAk _
      . rename_i h1;exact Nat.le_of_not_lt (λ h2=>h1 ⟨ha,h2⟩)
    . exact aAx (Fz ha (by omega)) (c1u k)
theorem QL {w:d9} {b:Nat} (h:∀ i,(w.2.1.getD i g8).2.1.length<=b):∀ k,(J7 w k).length<=b
  | 0=>aAr _
  | k+1=>by
    rw [J7]; split
    . exact h k
    . exact QL h k
def countP (p:Int):List C7->Nat
  | []=>0
  | s::l=>(if s.1=p then 1 else 0)+countP p l
theorem Tl {p:Int}:∀ {l m:List C7},countP p (l++m)=countP p l+countP p m
  | [],m=>by simp [countP]
  | s::l,m=>by rw [aCo,countP,countP,Tl]; omega
theorem countP_le {p:Int}:∀ {l:List C7},countP p l<=l.length
  | []=>aAk _
  | s::l=>by
    have:=countP_le (p:=p) (l:=l);rw [countP,aAh]; split<;>omega
theorem UA {p:Int} {l:List C7} {i:Nat} (h:i<l.length):countP p (l.take (i+1))=countP p (l.take i)+if (l.getD i (0,[],())).1=p then 1 else 0:=by
  rw [LZ h (0,[],()),Tl];simp [countP]
def vD (w:d9) (L:List C7) (i:Nat) (x:o5):o5 :=
  if j8 w i=true then (x.1,L,(0,x.2.2.1.2.1.drop (min (countP i (L.drop x.2.1.length)) x.2.2.1.2.1.length),()),(0,[],()),(0,[],()),()) else (x.1,x.2.1,x.2.2.1,x.2.2.2.1,(0,[],()),())
def C0 (w:d9):d9:=((P7 w).1,w.2.1.mapIdx (vD w (J7 w w.2.1.length)),[],w.2.2.2.1,())
def M0 (w:d9):d9×Int:=if (P7 w).2.1≠0 then (w,(P7 w).2.1) else (C0 w,0)
theorem b7t {v:vX} {al al':List o5} {r r':List yY×List yY×Unit} {p:Int} (hl:al'.length=al.length) (hf:(al'.getD p.toNat g8).1=(al.getD p.toNat g8).1):j8 (v,al',r') p=j8 (v,al,r) p:=by
  unfold j8;simp only;rw [hl,hf]
abbrev toM (x:o5):N3:=(x.1,(1,x.2.1,[]),x.2.2)
abbrev rdP (x:N3):o5:=(x.1,x.2.1.2.1,x.2.2)
abbrev dM:N3:=(false,(1,[],[]),(0,[],()),(0,[],()),(0,[],()),())
theorem QU {al:List N3} {i:Nat}:(al.map rdP).getD i g8=rdP (al.getD i dM):=by
  rw [aAb,aGe,aAb];cases al[i]?<;>rfl
theorem Kc {al:List o5} {i:Nat}:(al.map toM).getD i dM=toM (al.getD i g8):=by
  rw [aAb,aGe,aAb];cases al[i]?<;>rfl
theorem Zx {α:Type} {d:α} {l m:List α} (h:l.length=m.length) (h2:∀ i,i<l.length->l.getD i d=m.getD i d):l=m:=by
  apply aFp h;intro i h3 h4;have:=h2 i h3;rw [aAb,aAb,aAf h3,aAf h4] at this;exact this
theorem K8 {α:Type} {d:α} {l:List α} {i j:Nat} {x:α}:(l.set i x).getD j d=if i=j/\i<l.length then x else l.getD j d:=by
  rw [aAb,aFj,aAb];by_cases h:i=j
  . subst h;by_cases h2:i<l.length
    . simp [h2]
    . simp [h2]
  . simp [h]
structure wU (w:d9) (al:List N3):Prop where
  len:al.length=w.2.1.length
  rd:∀ i:Nat,rdP (al.getD i dM)=w.2.1.getD i g8
  same:∀ i:Nat,j8 w i=false->al.getD i dM=toM (w.2.1.getD i g8)
theorem wU.start (w:d9):wU w (w.2.1.map toM):=⟨aAl ..,λ i=>by rw [Kc],λ i _=>by rw [Kc]⟩
theorem wU.wa {w:d9} {al:List N3} (h:wU w al) {k n:Nat} (ha:j8 w k=true):wU w (al.set k ((al.getD k dM).1,(n,(al.getD k dM).2.1.2.1,[]),(al.getD k dM).2.2)):=by
  refine ⟨by rw [aBj]; exact h.len,λ i=>?_,λ i hi=>?_⟩
  . rw [K8]
    split
    . rename_i e;rw [<- e.1,<- h.rd k]
    . exact h.rd i
  . rw [K8,if_neg]
    . exact h.same i hi
    . rintro ⟨rfl,-⟩;rw [ha] at hi; cases hi
structure xr (w:d9) (L:List C7) (k:Nat) (al:List N3):Prop where
  len:al.length=w.2.1.length
  done:∀ i:Nat,i<k->i<al.length->al.getD i dM=toM (vD w L i (w.2.1.getD i g8))
  rd:∀ i:Nat,k<=i->rdP (al.getD i dM)=w.2.1.getD i g8
  same:∀ i:Nat,k<=i->j8 w i=false->al.getD i dM=toM (w.2.1.getD i g8)
theorem wU.next {w:d9} {al:List N3} (h:wU w al) (L:List C7):xr w L 0 al:=⟨h.len,λ i hi=>by omega,λ i _=>h.rd i,λ i _=>h.same i⟩
theorem IW {w:d9} {L:List C7} {i:Nat} {x:o5}:(vD w L i x).1=x.1:=by unfold vD; split<;>rfl
theorem xr.act {w:d9} {L:List C7} {k:Nat} {al:List N3} (h:xr w L k al) (i:Nat):((al.map rdP).getD i g8).1=(w.2.1.getD i g8).1:=by
  rw [QU];by_cases hk:k<=i
  . rw [h.rd i hk]
  . by_cases hi:i<al.length
    . rw [h.done i (by omega) hi];exact IW
    . have h1:al.getD i dM=dM:=by rw [aAb,aCd (by omega)]; rfl
      have h2:w.2.1.getD i g8=g8:=by rw [aAb,aCd (by have:=h.len; omega)]; rfl
      rw [h1,h2]; rfl
theorem xr.step {w:d9} {L:List C7} {k:Nat} {al:List N3} (h:xr w L k al):xr w L (k+1) (al.set k (toM (vD w L k (w.2.1.getD k g8)))):=by
  refine ⟨by rw [aBj]; exact h.len,λ i hi hl=>?_,λ i hi=>?_,λ i hi=>?_⟩
  . rw [aBj] at hl;rw [K8];by_cases e:k=i
    . rw [if_pos ⟨e,by omega⟩,e]
    . rw [if_neg (λ h=>e h.1)];exact h.done i (by omega) hl
  . rw [K8,if_neg (by omega)]; exact h.rd i (by omega)
  . rw [K8,if_neg (by omega)]; exact h.same i (by omega)
theorem xr.fin {w:d9} {L:List C7} {al:List N3} (h:xr w L w.2.1.length al):al=(w.2.1.mapIdx (vD w L)).map toM:=by
  refine Zx (d:=dM) (by rw [aAl,aDh]; exact h.len) (λ i hi=>?_);rw [h.done i (by have:=h.len; omega) hi,Kc];congr 1;rw [aAb (l:=List.mapIdx _ _),aHr,aAb,aAf (by have:=h.len; omega)];rfl
abbrev u7:=yY
abbrev V9:=Nat×u7
def C9 (p:Nat):List V9->List u7
  | []=>[]
  | x::l=>if x.1=p then x.2::C9 p l else C9 p l
theorem zf {p:Nat}:∀ {l m:List V9},C9 p (l++m)=C9 p l++C9 p m
  | [],_=>rfl
  | x::l,m=>by
    rw [aCo,C9,C9,zf]
    split<;>rfl
theorem XO {p q:Nat} {l:List u7}:C9 p (l.map λ t=>(q,t))=if q=p then l else []:=by
  induction l with
  | nil=>split<;>rfl
  | cons t l ih =>
    rw [aCf,C9,ih];by_cases h:q=p
    . rw [if_pos h,if_pos h,if_pos h]
    . rw [if_neg h,if_neg h,if_neg h]
theorem zo {p:Nat} {Q:List V9} {i:Nat}:C9 p (Q.take i) <+: C9 p Q:=by
  have h:C9 p Q=C9 p (Q.take i)++C9 p (Q.drop i):=by rw [<- zf,aBy]
  exact ⟨_,h.symm⟩
def Q5 (P:List V9):List V9->List u7
  | []=>[]
  | x::l=>G9 x.1 (C9 x.1 P).length x.2::Q5 (P++[x]) l
def R8 (Q:List V9):List u7:=Q5 [] Q
theorem UN:∀ {l P m:List V9},Q5 P (l++m)=Q5 P l++Q5 (P++l) m
  | [],P,m=>by simp [Q5]
  | x::l,P,m=>by
    rw [aCo,Q5,Q5,UN,aCo,aAj]; rfl
theorem UO:∀ {l P:List V9} {i:Nat},(Q5 P l)[i]?=l[i]?.map (λ x=>G9 x.1 (C9 x.1 (P++l.take i)).length x.2)
  | [],P,i=>rfl
  | x::l,P,0=>by simp [Q5]
  | x::l,P,i+1=>by
    rw [Q5,aDm,UO,aDm,aHw,aAj]; rfl
theorem UP:∀ {l P:List V9},(Q5 P l).length=l.length
  | [],_=>rfl
  | x::l,P=>by rw [Q5,aAh,UP,aAh]
theorem Sp {Q:List V9}:(R8 Q).length=Q.length:=UP
theorem So {Q:List V9} {i:Nat}:(R8 Q)[i]?=Q[i]?.map (λ x=>G9 x.1 (C9 x.1 (Q.take i)).length x.2):=by
  unfold R8; rw [UO]; rfl
theorem Sn {Q m:List V9}:R8 (Q++m)=R8 Q++Q5 Q m:=by
  unfold R8; rw [UN]; rfl
def wZ (x:V9):C7:=(x.1,x.2,())
def ofP (p:Nat):List C7->List u7
  | []=>[]
  | x::l=>if x.1=(p:Int) then x.2.1::ofP p l else ofP p l
theorem EW {p:Nat}:∀ {l m:List C7},ofP p (l++m)=ofP p l++ofP p m
  | [],_=>rfl
  | x::l,m=>by
    rw [aCo,ofP,ofP,EW]
    split<;>rfl
theorem Cy {p:Nat}:∀ {Q:List V9},ofP p (Q.map wZ)=C9 p Q
  | []=>rfl
  | x::l=>by
    rw [aCf,ofP,C9,Cy];by_cases h:x.1=p
    . rw [if_pos h,if_pos (by show (x.1:Int)=p; rw [h])]; rfl
    . rw [if_neg h,if_neg (by show ¬ (x.1:Int)=p; omega)]
theorem Tm {p:Nat}:∀ {l:List C7},countP p l=(ofP p l).length
  | []=>rfl
  | x::l=>by
    rw [countP,ofP,Tm];by_cases h:x.1=(p:Int)
    . rw [if_pos h,if_pos h,aAh]; omega
    . rw [if_neg h,if_neg h]; omega
theorem QS {F:Nat->Option u7}:∀ {l:List s8} {n:Int},0<=n->(∀ q∈l,F q.1.toNat=some q.2.1)->∀ i,i<(F2 l n).2.2.length->F (n.toNat+i)=(F2 l n).2.2[i]?
  | [],n,_,_,i,hi=>absurd hi (by simp [F2])
  | p::l,n,h0,h,i,hi=>by
    rw [F2] at hi ⊢;by_cases e:p.1=n
    . rw [if_pos e] at hi ⊢;cases i with
      | zero=>rw [aHc,<- e]; exact h p aBd
      | succ i =>
        rw [aDm,<- QS (n:=n+1) (by omega) (λ q hq=>h q (aAz _ hq)) i (by simpa using hi)];congr 1; omega
    . rw [if_neg e] at hi; exact absurd hi (by simp)
theorem RP {F:Nat->Option u7} {s:ToD} {p:s8} (h:(E6 s p).2.2.1=0) (hs:∀ q∈s.2.1,F q.1.toNat=some q.2.1) (hp:F p.1.toNat=some p.2.1) :
    ∀ i,i<(E6 s p).2.1.length->F (s.1.toNat+i)=(E6 s p).2.1[i]?:=by
  obtain ⟨aH,h1,h2,hc⟩:=Ur h;intro i hi;rcases hc with ⟨e,-⟩|⟨-,-,e⟩|⟨e1,e⟩
  . rw [e] at hi; exact absurd hi (by simp)
  . rw [e] at hi; exact absurd hi (by simp)
  . rw [e] at hi ⊢;cases i with
    | zero=>rw [aHc,<- e1]; exact hp
    | succ i =>
      have h0:=aH.rg.1;show F (s.1.toNat+(i+1))=(p.2.1::(F2 s.2.1 (s.1+1)).2.2)[i+1]?;rw [aDm,<- QS (n:=s.1+1) (by omega) hs i (by simpa using hi)];congr 1; omega
theorem YY {α:Type} {X l:List α} {r:Nat} (h:∀ i,i<l.length->X[r+i]?=l[i]?):l=(X.drop r).take l.length:=by
  apply aEm;intro i;rw [aBq]
  split
  . rename_i hi;rw [aBl,h i hi]
  . rename_i hi;exact aCd (by omega)
theorem AU {α:Type} {l m:List α} (h:l <+: m) {i:Nat} {x:α} (hx:l[i]?=some x):m[i]?=some x:=by
  obtain ⟨k,rfl⟩:=h;have hi:i<l.length:=by
    by_cases hi:i<l.length
    . exact hi
    . rw [aCd (by omega)] at hx; cases hx
  rw [aFf hi]; exact hx
def R5 (m:Int) (p:Nat):Bool:=decide (U2 .u8 (m / (2:Int)^min p IntKind.u8.bits) 1=1)
theorem zp {w:d9} {p:Int}:j8 w p=true↔∃ k:Nat,p=k/\k<w.2.1.length/\R5 w.1.2.1 k=true/\(w.2.1.getD k g8).1=false:=by
  unfold j8;rw [aAa,aAa,N5,aAu];constructor
  . rintro ⟨⟨h1,h2⟩,h3⟩;exact ⟨p.toNat,by omega,by omega,h2,h3⟩
  . rintro ⟨k,rfl,h1,h2,h3⟩;exact ⟨⟨by omega,h2⟩,h3⟩
theorem K4 {w:d9} {k:Nat}:j8 w (k:Int)=true↔k<w.2.1.length/\R5 w.1.2.1 k=true/\(w.2.1.getD k g8).1=false:=by
  rw [zp];constructor
  . rintro ⟨j,h,h1⟩;obtain rfl:k=j:=by omega
    exact h1
  . exact λ h=>⟨k,rfl,h⟩
def b8W:Go.Shelf.Ren:=⟨λ|129=>120|171=>50|243=>68|246=>87|283=>104|284=>105|285=>106|286=>107|317=>119|318=>121|319=>122|320=>123|337=>143|338=>144|n=>n,λ|0=>0|2=>2|3=>3|4=>4|5=>5|9=>9|20=>20|37=>115|46=>119|51=>117|53=>159|171=>158|173=>162|212=>176|213=>177|232=>208|233=>209|n=>n,λ|17=>0|18=>4|19=>5|n=>n⟩
theorem XH:Go.Proofs.LaysM.n171 Tryz.prog b8W:={
  mixed:=by kernel_rfl,
  f129:=Tryz.func120.trans (congrArg some (by kernel_rfl)),
  f171:=Tryz.func50.trans (congrArg some (by kernel_rfl)),
  f243:=Tryz.func68.trans (congrArg some (by kernel_rfl)),
  f246:=Tryz.func87.trans (congrArg some (by kernel_rfl)),
  f283:=Tryz.func104.trans (congrArg some (by kernel_rfl)),
  f284:=Tryz.func105.trans (congrArg some (by kernel_rfl)),
  f285:=Tryz.func106.trans (congrArg some (by kernel_rfl)),
  f286:=Tryz.func107.trans (congrArg some (by kernel_rfl)),
  f317:=Tryz.func119.trans (congrArg some (by kernel_rfl)),
  f318:=Tryz.func121.trans (congrArg some (by kernel_rfl)),
  f319:=Tryz.func122.trans (congrArg some (by kernel_rfl)),
  f320:=Tryz.func123.trans (congrArg some (by kernel_rfl)),
  f337:=Tryz.func143.trans (congrArg some (by kernel_rfl)),
  f338:=Tryz.func144.trans (congrArg some (by kernel_rfl)),
  t0:=Tryz.underlying0,
  a0:=Tryz.isAgg0,
  z0:=Tryz.sizeOf0,
  v0:=Tryz.zeroValue0,
  t2:=Tryz.underlying2,
  a2:=Tryz.isAgg2,
  z2:=Tryz.sizeOf2,
  v2:=Tryz.zeroValue2,
  t3:=Tryz.underlying3,
  a3:=Tryz.isAgg3,
  z3:=Tryz.sizeOf3,
  v3:=Tryz.zeroValue3,
  t4:=Tryz.underlying4,
  a4:=Tryz.isAgg4,
  z4:=Tryz.sizeOf4,
  v4:=Tryz.zeroValue4,
  t5:=Tryz.underlying5,
  a5:=Tryz.isAgg5,
  z5:=Tryz.sizeOf5,
  v5:=Tryz.zeroValue5,
  t9:=Tryz.underlying9,
  a9:=Tryz.isAgg9,
  z9:=Tryz.sizeOf9,
  v9:=Tryz.zeroValue9,
  t20:=Tryz.underlying20,
  a20:=Tryz.isAgg20,
  z20:=Tryz.sizeOf20,
  v20:=Tryz.zeroValue20,
  t37:=Tryz.underlying115,
  a37:=Tryz.isAgg115,
  z37:=Tryz.sizeOf115,
  v37:=Tryz.zeroValue115,
  t46:=Tryz.underlying119,
  a46:=Tryz.isAgg119,
  z46:=Tryz.sizeOf119,
  v46:=Tryz.zeroValue119,
  t51:=Tryz.underlying117,
  a51:=Tryz.isAgg117,
  z51:=Tryz.sizeOf117,
  v51:=Tryz.zeroValue117,
  t53:=Tryz.underlying159,
  a53:=Tryz.isAgg159,
  z53:=Tryz.sizeOf159,
  v53:=Tryz.zeroValue159,
  t171:=Tryz.underlying158,
  a171:=Tryz.isAgg158,
  z171:=Tryz.sizeOf158,
  v171:=Tryz.zeroValue158,
  t173:=Tryz.underlying162,
  a173:=Tryz.isAgg162,
  z173:=Tryz.sizeOf162,
  v173:=Tryz.zeroValue162,
  t212:=Tryz.underlying176,
  a212:=Tryz.isAgg176,
  z212:=Tryz.sizeOf176,
  v212:=Tryz.zeroValue176,
  t213:=Tryz.underlying177,
  a213:=Tryz.isAgg177,
  z213:=Tryz.sizeOf177,
  t232:=Tryz.underlying208,
  a232:=Tryz.isAgg208,
  z232:=Tryz.sizeOf208,
  v232:=Tryz.zeroValue208,
  t233:=Tryz.underlying209,
  a233:=Tryz.isAgg209,
  z233:=Tryz.sizeOf209,
  v233:=Tryz.zeroValue209,
  g17:=by kernel_rfl,
  g18:=by kernel_rfl,
  g19:=by kernel_rfl,
  i0:=by kernel_rfl,
  i2:=by kernel_rfl,
  i3:=by kernel_rfl,
  i4:=by kernel_rfl,
  i5:=by kernel_rfl,
  i9:=by kernel_rfl,
  i20:=by kernel_rfl,
  i37:=by kernel_rfl,
  i46:=by kernel_rfl,
  i51:=by kernel_rfl,
  i53:=by kernel_rfl,
  i171:=by kernel_rfl,
  i173:=by kernel_rfl,
  i212:=by kernel_rfl,
  i232:=by kernel_rfl,
  i233:=by kernel_rfl,
  m17:=by kernel_rfl,
  m18:=by kernel_rfl,
  m19:=by kernel_rfl }
theorem c39 {w:World} {k:Nat} {os:Array Obj}:G2 [] w (Sort.grow (w.drewN k) os):=by
  refine ⟨rfl,⟨rfl,aDb _ _⟩,rfl,?_,?_⟩
  . show w.heap.size<=(w.heap++os).size;simp
  . intro c hc _;show (w.heap++os)[c]?=_;rw [aHo,if_pos hc]
theorem bsz (s:yY):(⟨s.toArray⟩:ByteArray).size=s.length:=by simp [ByteArray.size]
end Go.Proofs.YtijlnmgondibnaaGreatDoor
namespace Go.Proofs.YtijlnmgondibnaaGreatDoor
set_option maxRecDepth 100000
end Go.Proofs.YtijlnmgondibnaaGreatDoor
set_option linter.unusedVariables false
namespace Go.Proofs.YtijlnmgondibnaaGreatDoor
open Go.Ex Go.RowKit Go.Shelf
set_option maxRecDepth 100000
def b8X:Go.Shelf.Ren:=⟨λ|129=>120|171=>50|172=>85|205=>142|243=>68|244=>102|245=>103|246=>87|247=>114|279=>115|280=>116|281=>117|282=>118|283=>104|284=>105|285=>106|286=>107|287=>140|316=>141|317=>119|318=>121|319=>122|320=>123|321=>155|322=>156|337=>143|338=>144|n=>n,λ|0=>0|2=>2|3=>3|4=>4|5=>5|9=>9|20=>20|21=>21|37=>115|46=>119|51=>117|53=>159|75=>140|76=>141|80=>216|85=>170|127=>204|143=>205|145=>207|167=>169|168=>172|171=>158|173=>162|175=>188|210=>192|212=>176|213=>177|232=>208|233=>209|n=>n,λ|15=>2|16=>3|17=>0|18=>4|19=>5|n=>n⟩
theorem XG:Go.Proofs.Lays.n172 Tryz.prog b8X:={
  mixed:=by kernel_rfl,
  f129:=Tryz.func120.trans (congrArg some (by kernel_rfl)),
  f171:=Tryz.func50.trans (congrArg some (by kernel_rfl)),
  f172:=Tryz.func85.trans (congrArg some (by kernel_rfl)),
  f205:=Tryz.func142.trans (congrArg some (by kernel_rfl)),
  f243:=Tryz.func68.trans (congrArg some (by kernel_rfl)),
  f244:=Tryz.func102.trans (congrArg some (by kernel_rfl)),
  f245:=Tryz.func103.trans (congrArg some (by kernel_rfl)),
  f246:=Tryz.func87.trans (congrArg some (by kernel_rfl)),
  f247:=Tryz.func114.trans (congrArg some (by kernel_rfl)),
  f279:=Tryz.func115.trans (congrArg some (by kernel_rfl)),
  f280:=Tryz.func116.trans (congrArg some (by kernel_rfl)),
  f281:=Tryz.func117.trans (congrArg some (by kernel_rfl)),
  f282:=Tryz.func118.trans (congrArg some (by kernel_rfl)),
  f283:=Tryz.func104.trans (congrArg some (by kernel_rfl)),
  f284:=Tryz.func105.trans (congrArg some (by kernel_rfl)),
  f285:=Tryz.func106.trans (congrArg some (by kernel_rfl)),
  f286:=Tryz.func107.trans (congrArg some (by kernel_rfl)),
  f287:=Tryz.func140.trans (congrArg some (by kernel_rfl)),
  f316:=Tryz.func141.trans (congrArg some (by kernel_rfl)),
  f317:=Tryz.func119.trans (congrArg some (by kernel_rfl)),
  f318:=Tryz.func121.trans (congrArg some (by kernel_rfl)),
  f319:=Tryz.func122.trans (congrArg some (by kernel_rfl)),
  f320:=Tryz.func123.trans (congrArg some (by kernel_rfl)),
  f321:=Tryz.func155.trans (congrArg some (by kernel_rfl)),
  f322:=Tryz.func156.trans (congrArg some (by kernel_rfl)),
  f337:=Tryz.func143.trans (congrArg some (by kernel_rfl)),
  f338:=Tryz.func144.trans (congrArg some (by kernel_rfl)),
  t0:=Tryz.underlying0,
  a0:=Tryz.isAgg0,
  z0:=Tryz.sizeOf0,
  v0:=Tryz.zeroValue0,
  t2:=Tryz.underlying2,
  a2:=Tryz.isAgg2,
  z2:=Tryz.sizeOf2,
  v2:=Tryz.zeroValue2,
  t3:=Tryz.underlying3,
  a3:=Tryz.isAgg3,
  z3:=Tryz.sizeOf3,
  v3:=Tryz.zeroValue3,
  t4:=Tryz.underlying4,
  a4:=Tryz.isAgg4,
  z4:=Tryz.sizeOf4,
  v4:=Tryz.zeroValue4,
  t5:=Tryz.underlying5,
  a5:=Tryz.isAgg5,
  z5:=Tryz.sizeOf5,
  v5:=Tryz.zeroValue5,
  t9:=Tryz.underlying9,
  a9:=Tryz.isAgg9,
  z9:=Tryz.sizeOf9,
  v9:=Tryz.zeroValue9,
  t20:=Tryz.underlying20,
  a20:=Tryz.isAgg20,
  z20:=Tryz.sizeOf20,
  v20:=Tryz.zeroValue20,
  t21:=Tryz.underlying21,
  a21:=Tryz.isAgg21,
  z21:=Tryz.sizeOf21,
  v21:=Tryz.zeroValue21,
  t37:=Tryz.underlying115,
  a37:=Tryz.isAgg115,
  z37:=Tryz.sizeOf115,
  v37:=Tryz.zeroValue115,
  t46:=Tryz.underlying119,
  a46:=Tryz.isAgg119,
  z46:=Tryz.sizeOf119,
  v46:=Tryz.zeroValue119,
  t51:=Tryz.underlying117,
  a51:=Tryz.isAgg117,
  z51:=Tryz.sizeOf117,
  v51:=Tryz.zeroValue117,
  t53:=Tryz.underlying159,
  a53:=Tryz.isAgg159,
  z53:=Tryz.sizeOf159,
  v53:=Tryz.zeroValue159,
  t75:=Tryz.underlying140,
  a75:=Tryz.isAgg140,
  z75:=Tryz.sizeOf140,
  v75:=Tryz.zeroValue140,
  t76:=Tryz.underlying141,
  a76:=Tryz.isAgg141,
  z76:=Tryz.sizeOf141,
  v76:=Tryz.zeroValue141,
  t85:=Tryz.underlying170,
  a85:=Tryz.isAgg170,
  z85:=Tryz.sizeOf170,
  v85:=Tryz.zeroValue170,
  t127:=Tryz.underlying204,
  a127:=Tryz.isAgg204,
  z127:=Tryz.sizeOf204,
  v127:=Tryz.zeroValue204,
  t143:=Tryz.underlying205,
  a143:=Tryz.isAgg205,
  z143:=Tryz.sizeOf205,
  v143:=Tryz.zeroValue205,
  t145:=Tryz.underlying207,
  a145:=Tryz.isAgg207,
  z145:=Tryz.sizeOf207,
  v145:=Tryz.zeroValue207,
  t167:=Tryz.underlying169,
  a167:=Tryz.isAgg169,
  z167:=Tryz.sizeOf169,
  v167:=Tryz.zeroValue169,
  t168:=Tryz.underlying172,
  a168:=Tryz.isAgg172,
  z168:=Tryz.sizeOf172,
  v168:=Tryz.zeroValue172,
  t171:=Tryz.underlying158,
  a171:=Tryz.isAgg158,
  z171:=Tryz.sizeOf158,
  v171:=Tryz.zeroValue158,
  t173:=Tryz.underlying162,
  a173:=Tryz.isAgg162,
  z173:=Tryz.sizeOf162,
  v173:=Tryz.zeroValue162,
  t175:=Tryz.underlying188,
  a175:=Tryz.isAgg188,
  z175:=Tryz.sizeOf188,
  v175:=Tryz.zeroValue188,
  t210:=Tryz.underlying192,
  a210:=Tryz.isAgg192,
  z210:=Tryz.sizeOf192,
  v210:=Tryz.zeroValue192,
  t212:=Tryz.underlying176,
  a212:=Tryz.isAgg176,
  z212:=Tryz.sizeOf176,
  v212:=Tryz.zeroValue176,
  t213:=Tryz.underlying177,
  a213:=Tryz.isAgg177,
  z213:=Tryz.sizeOf177,
  t232:=Tryz.underlying208,
  a232:=Tryz.isAgg208,
  z232:=Tryz.sizeOf208,
  v232:=Tryz.zeroValue208,
  t233:=Tryz.underlying209,
  a233:=Tryz.isAgg209,
  z233:=Tryz.sizeOf209,
  v233:=Tryz.zeroValue209,
  g15:=by kernel_rfl,
  g16:=by kernel_rfl,
  g17:=by kernel_rfl,
  g18:=by kernel_rfl,
  g19:=by kernel_rfl }
end Go.Proofs.YtijlnmgondibnaaGreatDoor
set_option linter.unusedVariables false
namespace Go.Proofs.YtijlnmgondibnaaGreatDoor
open Go.Ex
set_option maxRecDepth 100000
def c1z:Go.Shelf.Ren:=⟨λ|145=>84|217=>136|219=>113|220=>101|224=>138|225=>137|266=>153|267=>139|314=>154|n=>n,λ|3=>3|4=>4|5=>5|9=>9|46=>119|51=>117|59=>137|146=>201|n=>n,λ|1=>1|n=>n⟩
theorem Xk:Go.Proofs.Lays.n145 Tryz.prog c1z:={
  mixed:=by kernel_rfl,
  f145:=Tryz.func84.trans (congrArg some (by kernel_rfl)),
  f217:=Tryz.func136.trans (congrArg some (by kernel_rfl)),
  f219:=Tryz.func113.trans (congrArg some (by kernel_rfl)),
  f220:=Tryz.func101.trans (congrArg some (by kernel_rfl)),
  f224:=Tryz.func138.trans (congrArg some (by kernel_rfl)),
  f225:=Tryz.func137.trans (congrArg some (by kernel_rfl)),
  f266:=Tryz.func153.trans (congrArg some (by kernel_rfl)),
  f267:=Tryz.func139.trans (congrArg some (by kernel_rfl)),
  f314:=Tryz.func154.trans (congrArg some (by kernel_rfl)),
  t3:=Tryz.underlying3,
  a3:=Tryz.isAgg3,
  z3:=Tryz.sizeOf3,
  v3:=Tryz.zeroValue3,
  t4:=Tryz.underlying4,
  a4:=Tryz.isAgg4,
  z4:=Tryz.sizeOf4,
  v4:=Tryz.zeroValue4,
  t5:=Tryz.underlying5,
  a5:=Tryz.isAgg5,
  z5:=Tryz.sizeOf5,
  v5:=Tryz.zeroValue5,
  t9:=Tryz.underlying9,
  a9:=Tryz.isAgg9,
  z9:=Tryz.sizeOf9,
  v9:=Tryz.zeroValue9,
  t46:=Tryz.underlying119,
  a46:=Tryz.isAgg119,
  z46:=Tryz.sizeOf119,
  v46:=Tryz.zeroValue119,
  t51:=Tryz.underlying117,
  a51:=Tryz.isAgg117,
  z51:=Tryz.sizeOf117,
  v51:=Tryz.zeroValue117,
  t59:=Tryz.underlying137,
  a59:=Tryz.isAgg137,
  z59:=Tryz.sizeOf137,
  v59:=Tryz.zeroValue137,
  t146:=Tryz.underlying201,
  a146:=Tryz.isAgg201,
  z146:=Tryz.sizeOf201,
  v146:=Tryz.zeroValue201,
  g1:=by kernel_rfl }
def IY:r9:={ ps:=[.v f7],rs:=[.str],pre:=λ _=>True,fn:=λ x=>(E4 x.1,()),out:=λ _=>() }
theorem UR:IY.Valid Tryz.prog 50:=by
  refine ⟨⟨_,Tryz.func50,by kernel_rfl,by kernel_rfl⟩,?_,λ h=>by cases h⟩;rintro w S vs ⟨(n:Int),⟨⟩⟩ L hS ed - ⟨v1,us,L1,L2,rfl,rfl,⟨rfl,cs,rfl,r1⟩,rfl,rfl⟩ - aK hL;obtain ⟨-,rfl,(hn:w4 .i64 n)⟩:=r1;obtain ⟨h0,h1⟩:=G6.1 hn;obtain ⟨-,cs,h2,h3⟩:=ed _ (aBd ..) 0 (by kernel_rfl);refine (Any.strconv_Itoa XH n h0 h1 w (h2.trans (congrArg some h3))).mono ?_;rintro e w' ⟨rfl,k,os,rfl⟩;refine ⟨[.string ⟨(Lib.itoa n).toArray⟩],[],[],S,rfl,c39,λ _ h=>h,λ b h=>.inl h,⟨_,[],[],[],[.string ⟨(Lib.itoa n).toArray⟩],rfl,rfl,rfl,⟨rfl,?_,?_⟩,rfl,rfl⟩,⟨_,[],rfl,rfl,rfl⟩,by simp,by simp⟩
  . rw [XN h0 h1]; rfl
  . have:=Dw h0 h1;show (E4 n).length<=maxLen;exact aAx this (by decide)
def HK:r9:={ ps:=[.v .str],rs:=[f7,.fn 4000000],pre:=λ x=>List.length (α:=UInt8) x.1<=18/\(Lib.atoi x.1).isSome=true,fn:=λ x=>((Lib.atoi x.1).getD 0,false,()),out:=λ _=>() }
theorem decFrom_lt:∀ {l:yY} {a n:Nat},Lib.decFrom a l=some n->n<(a+1)*10^l.length
  | [],a,n,h=>by
    simp only [Lib.decFrom,aAc] at h;subst h;simp
  | b::l,a,n,h=>by
    rw [Lib.decFrom] at h;cases e:Lib.digitVal b with
    | none=>rw [e] at h; cases h
    | some d =>
      rw [e] at h;have h1:=decFrom_lt h;have hd:d<=9:=by
        unfold Lib.digitVal at e;split at e
        . simp only [aAc] at e; omega
        . cases e
      refine aAs h1 ?_;rw [aAh,aGg,Nat.mul_comm (10^l.length) 10,<- Nat.mul_assoc];exact aAm _ (by omega)
theorem KQ {l:yY} {n:Nat} (h:Lib.decNat l=some n) (hl:l.length<=18):n<1000000000000000000:=by
  unfold Lib.decNat at h;split at h
  . cases h
  . have h1:=decFrom_lt h;have h2:10^l.length<=10^18:=aFw (by decide) hl;have h3:(10:Nat)^18=1000000000000000000:=by decide
    omega
theorem XY {l:yY} {n:Int} (h:Lib.atoi l=some n) (hl:l.length<=18):-1000000000000000000<n/\n<1000000000000000000:=by
  cases l with
  | nil=>cases h
  | cons b r =>
    rw [Lib.atoi] at h;simp only [aAh] at hl;split at h
    . cases e:Lib.decNat r with
      | none=>rw [e] at h; cases h
      | some m=>rw [e] at h; simp only [aBh,aAc] at h; have:=KQ e (by omega); omega
    . split at h
      . cases e:Lib.decNat r with
        | none=>rw [e] at h; cases h
        | some m=>rw [e] at h; simp only [aBh,aAc] at h; have:=KQ e (by omega); omega
      . cases e:Lib.decNat (b::r) with
        | none=>rw [e] at h; cases h
        | some m=>rw [e] at h; simp only [aBh,aAc] at h; have:=KQ e (by simp only [aAh]; omega); omega
theorem b9q:HK.Valid Tryz.prog 85:=by
  refine ⟨⟨_,Tryz.func85,by kernel_rfl,by kernel_rfl⟩,?_,λ h=>by cases h⟩;rintro w S vs ⟨(s:yY),⟨⟩⟩ L hS ed ⟨(h1:s.length<=18),(h2:(Lib.atoi s).isSome=true)⟩ ⟨v1,us,L1,L2,rfl,rfl,⟨rfl,cs,rfl,r1⟩,rfl,rfl⟩ - aK hL;obtain ⟨-,rfl,hs⟩:=r1;obtain ⟨n,hn⟩:=Option.isSome_iff_exists.1 h2;refine (Any.strconv_Atoi XG ⟨s.toArray⟩ n (by rw [bsz]; exact h1) hn w).mono ?_;rintro e w' ⟨rfl,t,rfl⟩;have hf:HK.fn (s,())=(n,false,()):=by
    show ((Lib.atoi s).getD 0,false,())=(n,false,());rw [hn]; rfl
  rw [hf];have hr:=XY hn h1;refine ⟨[.int .i64 n,.nilIface],[],[],S,rfl,⟨rfl,⟨rfl,aHu _⟩,rfl,by rw [Lib.bytesWorld_size]; omega,λ j hj _=>Lib.bytesWorld_at_old w _ t j hj⟩,λ _ h=>h,λ b h=>.inl h,⟨_,_,[],[],[.int .i64 n],rfl,rfl,rfl,⟨rfl,rfl,?_⟩,_,_,[],[],[.nilIface],rfl,rfl,rfl,⟨rfl,rfl⟩,rfl,rfl⟩,⟨_,[],rfl,rfl,rfl⟩,by simp,by simp⟩;exact ⟨by show -9223372036854775808<=n; omega,by show n<=9223372036854775807; omega⟩
def MZ:r9:={ ps:=[.v .str,.v .str],rs:=[.str,.str,.bool],pre:=λ x=>List.length (α:=UInt8) x.1<=1000000/\Eq (α:=yY) x.2.1 [58],fn:=λ x=>((C5 x.1).1,(C5 x.1).2.1,(C5 x.1).2.2,()),out:=λ _=>() }
theorem c2x:MZ.Valid Tryz.prog 84:=by
  refine ⟨⟨_,Tryz.func84,by kernel_rfl,by kernel_rfl⟩,?_,λ h=>by cases h⟩;rintro w S vs ⟨(s:yY),(p:yY),⟨⟩⟩ L hS ed ⟨(h1:s.length<=1000000),(h2:p=[58])⟩ ⟨v1,us,L1,L2,rfl,rfl,⟨rfl,cs,rfl,r1⟩,v2,us2,L3,L4,rfl,rfl,⟨rfl,cs2,rfl,r2⟩,rfl,rfl⟩ - aK hL;obtain ⟨-,rfl,hs⟩:=r1;obtain ⟨-,rfl,hp⟩:=r2;obtain ⟨-,cs,g2,m,g3⟩:=ed ("internal/bytealg.MaxLen",_) (aAz _ (aBd ..)) 1 (by kernel_rfl)
  have hm:w.cell? ⟨1,0,none⟩=some (.int .i64 m):=by
    have:=World.var?_cell (show Tryz.prog.globalNamed "internal/bytealg.MaxLen"=some 1 by kernel_rfl) g2 0
    rw [this,g3]
  refine (Any.strings_Cut Xk ⟨s.toArray⟩ ⟨p.toArray⟩ m w (by rw [bsz]; omega) hm).mono ?_;rintro e w' ⟨rfl,k,rfl⟩;have hc:Lib.cut (ByteArray.mk s.toArray).data.toList (ByteArray.mk p.toArray).data.toList=C5 s:=by
    show Lib.cut s p=C5 s;rw [h2,OG]
  rw [hc];have hl:=CQ s;have hD:G2 [] w (w.drewN k):=⟨rfl,⟨rfl,aDb _ _⟩,rfl,aAk _,λ _ _ _=>rfl⟩;have jo:maxLen=9223372036854775807:=by decide
  refine ⟨[.string ⟨(C5 s).1.toArray⟩,.string ⟨(C5 s).2.1.toArray⟩,.bool (C5 s).2.2],[],[],S,rfl,hD,λ _ h=>h,λ b h=>.inl h,⟨_,_,[],[],[_],rfl,rfl,rfl,⟨rfl,rfl,?_⟩,_,_,[],[],[_],rfl,rfl,rfl,⟨rfl,rfl,?_⟩,_,_,[],[],[_],rfl,rfl,rfl,⟨rfl,rfl⟩,rfl,rfl⟩,⟨_,_,rfl,⟨_,[],rfl,rfl,rfl⟩⟩,by simp,by simp⟩
  . show (C5 s).1.length<=maxLen; omega
  . show (C5 s).2.1.length<=maxLen; omega
end Go.Proofs.YtijlnmgondibnaaGreatDoor
namespace Go.Proofs.YtijlnmgondibnaaGreatDoor
open Go.Ex
set_option maxRecDepth 100000
attribute [local irreducible] Go.Ex.exec
theorem Dh {x:yY} {w:d9}:∀ p,(F6 x w p).2.1=w.2.1/\(F6 x w p).1=w.1/\(F6 x w p).2.2.1=w.2.2.1
  | 0=>⟨rfl,rfl,rfl⟩
  | p+1=>by
    obtain ⟨h1,h2,h3⟩:=Dh (x:=x) (w:=w) p;rw [F6]
    split
    . obtain ⟨g1,g2,g3⟩:=FR (w:=F6 x w p) (k:=2) (f:=r7 (F6 x w p)) (t:=p) (s:=((F6 x w p).2.2.1.length:Int) - 1) (x:=x);exact ⟨g1.trans h1,g2.trans h2,g3.trans h3⟩
    . exact ⟨h1,h2,h3⟩
theorem c4K {x:yY} {w:d9} {p:Nat} (h:j8 (F6 x w p) p=true):F6 x w (p+1)=M7 (F6 x w p) 2 (r7 (F6 x w p)) p (((F6 x w p).2.2.1.length:Int) - 1) x:=by
  rw [F6]; exact if_pos h
theorem c4L {x:yY} {w:d9} {p:Nat} (h:j8 (F6 x w p) p=false):F6 x w (p+1)=F6 x w p:=by
  rw [F6]; exact if_neg (by rw [h]; decide)
theorem LF {f first:Int} {l:List yY} {w:d9}:∀ i,(J3 f first l w i).2.1=w.2.1/\(J3 f first l w i).1=w.1/\(J3 f first l w i).2.2.1.length=w.2.2.1.length+i
  | 0=>⟨rfl,rfl,rfl⟩
  | i+1=>by
    obtain ⟨h1,h2,h3⟩:=LF (f:=f) (first:=first) (l:=l) (w:=w) i;rw [J3];obtain ⟨g1,g2,g3⟩:=Dh (x:=G9 f (first+i) (l.getD i [])) (w:=xO (J3 f first l w i) (G9 f (first+i) (l.getD i []))) (J3 f first l w i).2.1.length;refine ⟨g1.trans h1,g2.trans h2,?_⟩;rw [g3];show ((J3 f first l w i).2.2.1++[_]).length=_;rw [aAd,h3]; rfl
def IN:r9:={ ps:=[.rw s9,.v An],rs:=[],pre:=λ x=>List.length (α:=o5) (x.1:d9).2.1<=6/\(¬ known x.1 x.2.1.2.1≠0)/\List.length (α:=yY) (x.1:d9).2.2.1<=1000000000000,fn:=λ _=>(),out:=λ x=>(P9 x.1 x.2.1,()) }
noncomputable def zU:Env:={ P:=Tryz.prog,tt:=tt,E3:=[(83,HU),(50,IY),(47,zB),(43,Au),(44,Ah)],res:=[],rs:=[],ps:=[PK.rw s9,PK.v (Ty.pair f7 (Ty.pair f7 (Ty.pair f7 (Ty.pair f7 (Ty.pair f7 (Ty.pair Z9 (Ty.pair Ty.str Ty.unit)))))))],D5:=[(7,[(0,none),(3,none),(8,none),(45,some (Ty.d0 true Ty.str)),(46,none),(47,none)]),(12,[(0,none),(3,none),(8,none),(11,none),(45,some (Ty.d0 true Ty.str)),(46,none),(47,none),(78,none),(79,none)])],nt:=99 }
theorem FV:B8 zU:=C4 s7 ⟨Uh,UR,Dq,Gf,Gb,trivial⟩
theorem FW:D7 zU Tryz.f66:=⟨rfl,rfl⟩
theorem Zm (ai:Int) (af:Int) (ab:List o5) (ae:List yY) (aa:List yY) (bz:Int) (aJ:Int) (aM:Int) (aX:Int) (aG:Int) (aU:List Int) (aB:yY):exec zU 1000 [.code (d8 Tryz.prog 66)] (w9 IN.ps ((((ai,af,()),ab,ae,aa,()),(bz,aJ,aM,aX,aG,aU,aB,()),()))) =
  .f8 ((0:Int)<=aJ/\aJ<(↑(List.length ab):Int)) (.f8 (True) (cond (decide (Prod.fst (E6 (List.getD ab (Int.toNat aJ) (false,[],((0:Int),[],()),((0:Int),[],()),((0:Int),[],()),())).2.2.2.2.1 (aG,aB,())).2.2≠(0:Int))) (.ret ((((ai,af,()),ab,ae,aa,()),()))) (.ctL (f9 (d8 Tryz.prog 66) 7) (St.mk [(0,AV.ptr 2000000 []),(3,AV.ptr 3 []),(8,AV.val f7 (List.getD ab (Int.toNat aJ) (false,[],((0:Int),[],()),((0:Int),[],()),((0:Int),[],()),())).2.2.2.2.1.1),(45,AV.at_ 1000045 []),(46,AV.val f7 (↑(List.length (E6 (List.getD ab (Int.toNat aJ) (false,[],((0:Int),[],()),((0:Int),[],()),((0:Int),[],()),())).2.2.2.2.1 (aG,aB,())).2.1):Int)),(47,AV.val f7 (0:Int))] [(3,g9.var (Ty.pair f7 (Ty.pair f7 (Ty.pair f7 (Ty.pair f7 (Ty.pair f7 (Ty.pair Z9 (Ty.pair Ty.str Ty.unit))))))) (bz,aJ,aM,aX,aG,aU,aB,())),(1000045,g9.own (Ty.d0 true Ty.str) (E6 (List.getD ab (Int.toNat aJ) (false,[],((0:Int),[],()),((0:Int),[],()),((0:Int),[],()),())).2.2.2.2.1 (aG,aB,())).2.1),(2000000,g9.var s9 ((ai,af,()),List.set ab (Int.toNat aJ) (Prod.fst (List.getD ab (Int.toNat aJ) (false,[],((0:Int),[],()),((0:Int),[],()),((0:Int),[],()),())),Prod.fst (List.getD ab (Int.toNat aJ) (false,[],((0:Int),[],()),((0:Int),[],()),((0:Int),[],()),())).2,Prod.fst (List.getD ab (Int.toNat aJ) (false,[],((0:Int),[],()),((0:Int),[],()),((0:Int),[],()),())).2.2,Prod.fst (List.getD ab (Int.toNat aJ) (false,[],((0:Int),[],()),((0:Int),[],()),((0:Int),[],()),())).2.2.2,Prod.fst (E6 (List.getD ab (Int.toNat aJ) (false,[],((0:Int),[],()),((0:Int),[],()),((0:Int),[],()),())).2.2.2.2.1 (aG,aB,())),Prod.snd (List.getD ab (Int.toNat aJ) (false,[],((0:Int),[],()),((0:Int),[],()),((0:Int),[],()),())).2.2.2.2),ae,aa,()))])))):=by kernel_rfl
def Lp (v8:Int) (v46:Int) (vA:Int) (bY:Int) (aQ:Int) (aS:Int) (aL:Int) (aC:Int) (aA:List Int) (aq:yY) (cq:List yY) (az:Int) (an:Int) (aj:List o5) (ak:List yY) (ah:List yY):St:=St.mk [(0,AV.ptr 2000000 []),(3,AV.ptr 3 []),(8,AV.val f7 v8),(45,AV.at_ 1000045 []),(46,AV.val f7 v46),(47,AV.val f7 vA)] [(3,g9.var (Ty.pair f7 (Ty.pair f7 (Ty.pair f7 (Ty.pair f7 (Ty.pair f7 (Ty.pair Z9 (Ty.pair Ty.str Ty.unit))))))) (bY,aQ,aS,aL,aC,aA,aq,())),(1000045,g9.own (Ty.d0 true Ty.str) cq),(2000000,g9.var s9 ((az,an,()),aj,ak,ah,()))]
theorem c3p (v8:Int) (v46:Int) (vA:Int) (bY:Int) (aQ:Int) (aS:Int) (aL:Int) (aC:Int) (aA:List Int) (aq:yY) (cq:List yY) (az:Int) (an:Int) (aj:List o5) (ak:List yY) (ah:List yY):exec zU 1000 (.code (f9 (d8 Tryz.prog 66) 7).1::.inLoop (f9 (d8 Tryz.prog 66) 7).1::(f9 (d8 Tryz.prog 66) 7).2) (Lp v8 v46 vA bY aQ aS aL aC aA aq cq az an aj ak ah) =
  cond (decide (vA<v46)) (.f8 ((0:Int)<=vA/\vA<(↑(List.length cq):Int)) (.f8 (True) (.f8 (List.length (E4 aQ)+List.length (Array.toList (ByteArray.data (ByteArray.mk #[58])))<=Go.maxLen) (.f8 (w4 IntKind.i64 (v8+vA)) (.f8 (True) (.f8 (List.length (E4 aQ++Array.toList (ByteArray.data (ByteArray.mk #[58])))+List.length (E4 (v8+vA))<=Go.maxLen) (.f8 (List.length (E4 aQ++Array.toList (ByteArray.data (ByteArray.mk #[58]))++E4 (v8+vA))+List.length (Array.toList (ByteArray.data (ByteArray.mk #[58])))<=Go.maxLen) (.f8 (List.length (E4 aQ++Array.toList (ByteArray.data (ByteArray.mk #[58]))++E4 (v8+vA)++Array.toList (ByteArray.data (ByteArray.mk #[58])))+List.length (List.getD cq (Int.toNat vA) [])<=Go.maxLen) (.f8 (True/\True/\[]++[Step.m0 2]=[]++[Step.m0 2]/\List.length ak+List.length (List.set [[]] (Int.toNat (↑0:Int)) (E4 aQ++Array.toList (ByteArray.data (ByteArray.mk #[58]))++E4 (v8+vA)++Array.toList (ByteArray.data (ByteArray.mk #[58]))++List.getD cq (Int.toNat vA) []))<=140737488355328/\(List.length ak+List.length (List.set [[]] (Int.toNat (↑0:Int)) (E4 aQ++Array.toList (ByteArray.data (ByteArray.mk #[58]))++E4 (v8+vA)++Array.toList (ByteArray.data (ByteArray.mk #[58]))++List.getD cq (Int.toNat vA) [])))*Ty.wb Ty.str<=140737488355328) (.ctL (f9 (d8 Tryz.prog 66) 12) (St.mk [(0,AV.ptr 2000000 []),(3,AV.ptr 3 []),(8,AV.val f7 v8),(11,AV.val Ty.str (E4 aQ++Array.toList (ByteArray.data (ByteArray.mk #[58]))++E4 (v8+vA)++Array.toList (ByteArray.data (ByteArray.mk #[58]))++List.getD cq (Int.toNat vA) [])),(45,AV.at_ 1000045 []),(46,AV.val f7 v46),(47,AV.val f7 vA),(78,AV.val f7 (↑(List.length aj):Int)),(79,AV.val f7 (0:Int))] [(3,g9.var (Ty.pair f7 (Ty.pair f7 (Ty.pair f7 (Ty.pair f7 (Ty.pair f7 (Ty.pair Z9 (Ty.pair Ty.str Ty.unit))))))) (bY,aQ,aS,aL,aC,aA,aq,())),(1000045,g9.own (Ty.d0 true Ty.str) cq),(2000000,g9.var s9 ((az,an,()),aj,ak++List.set [[]] (Int.toNat (↑0:Int)) (E4 aQ++Array.toList (ByteArray.data (ByteArray.mk #[58]))++E4 (v8+vA)++Array.toList (ByteArray.data (ByteArray.mk #[58]))++List.getD cq (Int.toNat vA) []),ah,()))]))))))))))) (.ret ((((az,an,()),aj,ak,ah,()),()))):=by kernel_rfl
def Mi (v8:Int) (v11:yY) (v46:Int) (vA:Int) (vz:Int) (xE:Int) (bY:Int) (aQ:Int) (aS:Int) (aL:Int) (aC:Int) (aA:List Int) (aq:yY) (cq:List yY) (az:Int) (an:Int) (aj:List o5) (ak:List yY) (ah:List yY):St:=St.mk [(0,AV.ptr 2000000 []),(3,AV.ptr 3 []),(8,AV.val f7 v8),(11,AV.val Ty.str v11),(45,AV.at_ 1000045 []),(46,AV.val f7 v46),(47,AV.val f7 vA),(78,AV.val f7 vz),(79,AV.val f7 xE)] [(3,g9.var (Ty.pair f7 (Ty.pair f7 (Ty.pair f7 (Ty.pair f7 (Ty.pair f7 (Ty.pair Z9 (Ty.pair Ty.str Ty.unit))))))) (bY,aQ,aS,aL,aC,aA,aq,())),(1000045,g9.own (Ty.d0 true Ty.str) cq),(2000000,g9.var s9 ((az,an,()),aj,ak,ah,()))]
theorem b9C (v8:Int) (v11:yY) (v46:Int) (vA:Int) (vz:Int) (xE:Int) (bY:Int) (aQ:Int) (aS:Int) (aL:Int) (aC:Int) (aA:List Int) (aq:yY) (cq:List yY) (az:Int) (an:Int) (aj:List o5) (ak:List yY) (ah:List yY):exec zU 1000 (.code (f9 (d8 Tryz.prog 66) 12).1::.inLoop (f9 (d8 Tryz.prog 66) 12).1::(f9 (d8 Tryz.prog 66) 12).2) (Mi v8 v11 v46 vA vz xE bY aQ aS aL aC aA aq cq az an aj ak ah) =
  cond (decide (xE<vz)) (.f8 (List.length aj<=6) (cond (j8 ((az,an,()),aj,ak,ah,()) xE) (.f8 (True) (.f8 (w4 IntKind.i64 ((↑(List.length ak):Int) - (1:Int))) (.f8 (True) (.f8 (w4 IntKind.i64 (xE+(1:Int))) (.ctL (f9 (d8 Tryz.prog 66) 12) (St.mk [(0,AV.ptr 2000000 []),(3,AV.ptr 3 []),(8,AV.val f7 v8),(11,AV.val Ty.str v11),(45,AV.at_ 1000045 []),(46,AV.val f7 v46),(47,AV.val f7 vA),(78,AV.val f7 vz),(79,AV.val f7 (xE+(1:Int)))] [(3,g9.var (Ty.pair f7 (Ty.pair f7 (Ty.pair f7 (Ty.pair f7 (Ty.pair f7 (Ty.pair Z9 (Ty.pair Ty.str Ty.unit))))))) (bY,aQ,aS,aL,aC,aA,aq,())),(1000045,g9.own (Ty.d0 true Ty.str) cq),(2000000,g9.var s9 (M7 ((az,an,()),aj,ak,ah,()) (2:Int) (r7 ((az,an,()),aj,ak,ah,())) xE ((↑(List.length ak):Int) - (1:Int)) v11))])))))) (.f8 (w4 IntKind.i64 (xE+(1:Int))) (.ctL (f9 (d8 Tryz.prog 66) 12) (St.mk [(0,AV.ptr 2000000 []),(3,AV.ptr 3 []),(8,AV.val f7 v8),(11,AV.val Ty.str v11),(45,AV.at_ 1000045 []),(46,AV.val f7 v46),(47,AV.val f7 vA),(78,AV.val f7 vz),(79,AV.val f7 (xE+(1:Int)))] [(3,g9.var (Ty.pair f7 (Ty.pair f7 (Ty.pair f7 (Ty.pair f7 (Ty.pair f7 (Ty.pair Z9 (Ty.pair Ty.str Ty.unit))))))) (bY,aQ,aS,aL,aC,aA,aq,())),(1000045,g9.own (Ty.d0 true Ty.str) cq),(2000000,g9.var s9 ((az,an,()),aj,ak,ah,()))]))))) (.f8 (w4 IntKind.i64 (vA+(1:Int))) (.ctL (f9 (d8 Tryz.prog 66) 7) (St.mk [(0,AV.ptr 2000000 []),(3,AV.ptr 3 []),(8,AV.val f7 v8),(45,AV.at_ 1000045 []),(46,AV.val f7 v46),(47,AV.val f7 (vA+(1:Int)))] [(3,g9.var (Ty.pair f7 (Ty.pair f7 (Ty.pair f7 (Ty.pair f7 (Ty.pair f7 (Ty.pair Z9 (Ty.pair Ty.str Ty.unit))))))) (bY,aQ,aS,aL,aC,aA,aq,())),(1000045,g9.own (Ty.d0 true Ty.str) cq),(2000000,g9.var s9 ((az,an,()),aj,ak,ah,()))]))):=by kernel_rfl
attribute [local irreducible] P9 M7 E6 E4 J3 F6 in
theorem b6W:IN.Valid Tryz.prog 66:=by
  refine r9.p7 FV rfl rfl Tryz.func66 (c:=d8 Tryz.prog 66) rfl rfl FW rfl ?_;rintro ⟨⟨⟨(v0:Int),(v1:Int),⟨⟩⟩,(al:List o5),(od:List yY),(wy:List yY),⟨⟩⟩,⟨(nk:Int),(nf:Int),(nt:Int),(nv:Int),(ns:Int),(na:List Int),(nx:yY),⟨⟩⟩,⟨⟩⟩ ⟨(hp:al.length<=6),(hk:¬ known ((v0,v1,()),al,od,wy,()) nf≠0),(ho:od.length<=1000000000000)⟩ ⟨-,⟨⟨-,(oD:w4 .i64 nf),-⟩,-⟩⟩;refine j6 (n:=1000) FV FW ?_;refine i7 (Zm v0 v1 al od wy nk nf nt nv ns na nx) ?_;simp only [j7,Tree.holds,sL];have key:∀ r:d9,P9 ((v0,v1,()),al,od,wy,()) (nk,nf,nt,nv,ns,na,nx,())=r->(((r,()):d9×Unit)=(P9 ((v0,v1,()),al,od,wy,()) (nk,nf,nt,nv,ns,na,nx,()),())):=by rintro r rfl; rfl
  have e1:=λ a=>(P9.eq_1 ((v0,v1,()),al,od,wy,()) (nk,nf,nt,nv,ns,na,nx,())).trans (if_pos a);have e2:=λ a=>(P9.eq_1 ((v0,v1,()),al,od,wy,()) (nk,nf,nt,nv,ns,na,nx,())).trans (if_neg a);refine ⟨CT hk,λ _=>⟨λ a=>key _ (e1 a),λ a=>?_⟩⟩;have e3:=e2 a;have bH:=Ad (aBt.1 a);obtain ⟨w,hw⟩:∃ w:d9,w=S3 ((v0,v1,()),al,od,wy,()) nf (W5 (D3 ((v0,v1,()),al,od,wy,()) nf) (V5 ((v0,v1,()),al,od,wy,()) (nk,nf,nt,nv,ns,na,nx,())).1):=⟨_,rfl⟩;obtain ⟨first,hf⟩:∃ first,first=(D3 ((v0,v1,()),al,od,wy,()) nf).2.2.2.2.1.1:=⟨_,rfl⟩
  obtain ⟨l,hl⟩:∃ l,l=(V5 ((v0,v1,()),al,od,wy,()) (nk,nf,nt,nv,ns,na,nx,())).2.1:=⟨_,rfl⟩;have ss:w.2.1.length=al.length:=by rw [hw]; exact aBj ..
  have ri:w.2.2.1=od:=by rw [hw]; rfl
  have h0:0<=first/\first<=16777215:=by rw [hf]; exact bH.2.2.2.1
  have mm:l.length<=16:=by rw [hl]; exact bH.2.2.1
  have bf:∀ t∈l,F3 t=false:=by rw [hl]; exact λ t ht=>(bH.1 t ht).2
  suffices go:Go.Ex.Reach zU Tryz.f66 () (J3 nf first l w l.length,()) (.code (f9 (d8 Tryz.prog 66) 7).1::.inLoop (f9 (d8 Tryz.prog 66) 7).1::(f9 (d8 Tryz.prog 66) 7).2) (Lp first (l.length:Int) ((0:Nat):Int) nk nf nt nv ns na nx l (J3 nf first l w 0).1.1 (J3 nf first l w 0).1.2.1 (J3 nf first l w 0).2.1 (J3 nf first l w 0).2.2.1 (J3 nf first l w 0).2.2.2.1) by
    subst hw; subst hf; subst hl;rw [e3];rw [J3] at go;exact go
  refine Reach.N4 FV FW (λ i:Nat=>Lp first (l.length:Int) (i:Int) nk nf nt nv ns na nx l (J3 nf first l w i).1.1 (J3 nf first l w i).1.2.1 (J3 nf first l w i).2.1 (J3 nf first l w i).2.2.1 (J3 nf first l w i).2.2.2.1) (λ i=>i<=l.length)
    (λ i=>l.length - i) 1000 (λ _=>⟨w6 rfl,w6 rfl⟩) ?_ 0 (aAr _)
  rintro i k1 - ih;have k1:i<=l.length:=k1;refine i7 (c3p ..) ?_;have e4:((i:Nat):Int)+1=((i+1:Nat):Int):=by omega
  obtain ⟨t1,t2,t3⟩:=LF (f:=nf) (first:=first) (l:=l) (w:=w) i;rw [ri] at t3;have ng:(E4 nf).length<=20:=Dw (G6.1 oD).1 (G6.1 oD).2;have sZ:(E4 (first+i)).length<=20:=Dw (by omega) (by omega);have ed:i<l.length->(l.getD i []).length<=200:=λ h=>KY (bf _ (by rw [aAb,aAf h]; exact aCn _));have jo:maxLen=9223372036854775807:=by decide
  have jD:Ty.wb .str=16:=rfl;simp only [j7,Tree.holds,e4,sL];refine ⟨λ c=>⟨by omega,λ _=>⟨?_,λ _=>⟨?_,λ _=>⟨?_,λ _=>⟨?_,λ _=>⟨?_,λ _=>⟨?_,λ _=>?_⟩⟩⟩⟩⟩⟩⟩,λ c=>?_⟩
  . simp only [aAh,aCi,jo]; omega
  . exact ⟨by omega,by omega⟩
  . simp only [aAd,aAh,aCi,jo]; omega
  . simp only [aAd,aAh,aCi,jo]; omega
  . have:=ed (by omega);simp only [aAd,aAh,aCi,jo]; omega
  . rw [jD,t3]; omega
  . obtain ⟨x,hx⟩:∃ x,x=G9 nf (first+i) (l.getD i []):=⟨_,rfl⟩;obtain ⟨u,hu⟩:∃ u,u=xO (J3 nf first l w i) x:=⟨_,rfl⟩;have rq:u.2.1=(J3 nf first l w i).2.1:=by rw [hu]; rfl
    suffices go:Go.Ex.Reach zU Tryz.f66 () (J3 nf first l w l.length,()) (.code (f9 (d8 Tryz.prog 66) 12).1::.inLoop (f9 (d8 Tryz.prog 66) 12).1::(f9 (d8 Tryz.prog 66) 12).2) (Mi first x (l.length:Int) (i:Int) (u.2.1.length:Int) ((0:Nat):Int) nk nf nt nv ns na nx l (F6 x u 0).1.1 (F6 x u 0).1.2.1 (F6 x u 0).2.1 (F6 x u 0).2.2.1 (F6 x u 0).2.2.2.1) by
      subst hu; subst hx;rw [F6] at go;exact go
    refine Reach.N4 FV FW (λ p:Nat=>Mi first x (l.length:Int) (i:Int) (u.2.1.length:Int) (p:Int) nk nf nt nv ns na nx l (F6 x u p).1.1 (F6 x u p).1.2.1 (F6 x u p).2.1 (F6 x u p).2.2.1 (F6 x u p).2.2.2.1) (λ p=>p<=u.2.1.length)
      (λ p=>u.2.1.length - p) 1000 (λ _=>⟨w6 rfl,w6 rfl⟩) ?_ 0 (aAr _)
    rintro p k2 - ih2;have k2:p<=u.2.1.length:=k2;refine i7 (b9C ..) ?_;have e5:((p:Nat):Int)+1=((p+1:Nat):Int):=by omega
    obtain ⟨c1,c2,c3⟩:=Dh (x:=x) (w:=u) p;have sE:u.2.1.length<=6:=by rw [rq,t1,ss]; exact hp
    have sD:u.2.2.1.length=od.length+i+1:=by rw [hu]; show ((J3 nf first l w i).2.2.1++[x]).length=_; rw [aAd,t3]; rfl
    simp only [j7,Tree.holds,e5,sL];refine ⟨λ d=>⟨?_,λ _=>⟨λ e=>⟨?_,λ _=>⟨?_,λ _=>?_⟩⟩,λ e=>⟨?_,λ _=>?_⟩⟩⟩,λ d=>⟨?_,λ _=>?_⟩⟩
    . rw [c1]; exact sE
    . rw [c3,sD]; exact ⟨by omega,by omega⟩
    . exact ⟨by omega,by omega⟩
    . have:=ih2 (p+1) (by show p+1<=u.2.1.length; omega) (by show u.2.1.length - (p+1)<u.2.1.length - p; omega);rw [c4K e] at this;exact this
    . exact ⟨by omega,by omega⟩
    . have:=ih2 (p+1) (by show p+1<=u.2.1.length; omega) (by show u.2.1.length - (p+1)<u.2.1.length - p; omega);rw [c4L e] at this;exact this
    . exact ⟨by omega,by omega⟩
    . obtain rfl:p=u.2.1.length:=by omega
      have:=ih (i+1) (by show i+1<=l.length; omega) (by show l.length - (i+1)<l.length - i; omega);rw [show J3 nf first l w (i+1)=F6 x u u.2.1.length by rw [J3,rq,hu,hx]] at this;exact this
  . obtain rfl:i=l.length:=by omega
    rfl
theorem KU {q:Int} {x:o5} {t:yY} (h:who t=q) (h2:(T7 x.2.2.1 (nth t+1)).2.1=0):Y0 q x t=(x.1,x.2.1++[(who t,xJ t,())],(T7 x.2.2.1 (nth t+1)).1,x.2.2.2):=by
  rw [Y0]; exact if_pos ⟨h,h2⟩
theorem Fl {q:Int} {x:o5} {t:yY} (h:¬ (who t=q/\(T7 x.2.2.1 (nth t+1)).2.1=0)):Y0 q x t=(x.1,x.2.1++[(who t,xJ t,())],x.2.2):=by
  rw [Y0]; exact if_neg h
theorem RJ (q:Int) (x:o5) (t:yY):(Y0 q x t).2.1=x.2.1++[(who t,xJ t,())]:=by
  rw [Y0]; split<;>rfl
theorem Mu {q:Int} {x:o5} {l:List yY}:∀ i,(M4 q x l i).2.1.length=x.2.1.length+i
  | 0=>rfl
  | i+1=>by rw [M4,RJ,aAd,Mu i]; rfl
def IP:r9:={ ps:=[.rw s9,.v An],rs:=[],pre:=λ x=>(LE.le (α:=Int) 0 x.2.1.2.2.1/\LT.lt (α:=Int) x.2.1.2.2.1 (List.length (α:=o5) (x.1:d9).2.1))/\List.length (α:=C7) (D3 x.1 x.2.1.2.2.1).2.1<=1000000000000/\(∀ t∈(N9 x.1 x.2.1).2.1,okT t),fn:=λ _=>(),out:=λ x=>(U4 x.1 x.2.1,()) }
noncomputable def Ca:Env:={ P:=Tryz.prog,tt:=tt,E3:=[(83,HU),(86,NV),(84,MZ),(85,HK)],res:=[],rs:=[],ps:=[PK.rw s9,PK.v (Ty.pair f7 (Ty.pair f7 (Ty.pair f7 (Ty.pair f7 (Ty.pair f7 (Ty.pair Z9 (Ty.pair Ty.str Ty.unit)))))))],D5:=[(6,[(3,none),(4,none),(49,some (Ty.d0 true Ty.str)),(50,none),(51,none)])],nt:=110 }
theorem Lf:B8 Ca:=C4 s7 ⟨Uh,b67,c2x,b9q,trivial⟩
theorem Lj:D7 Ca Tryz.f67:=⟨rfl,rfl⟩
theorem YO (ai:Int) (af:Int) (ab:List o5) (ae:List yY) (aa:List yY) (bz:Int) (aJ:Int) (aM:Int) (aX:Int) (aG:Int) (aU:List Int) (aB:yY):exec Ca 1000 [.code (d8 Tryz.prog 67)] (w9 IP.ps ((((ai,af,()),ab,ae,aa,()),(bz,aJ,aM,aX,aG,aU,aB,()),()))) =
  .f8 ((0:Int)<=aM/\aM<(↑(List.length ab):Int)) (.f8 (True) (cond (decide (Prod.fst (E6 (List.getD ab (Int.toNat aM) (false,[],((0:Int),[],()),((0:Int),[],()),((0:Int),[],()),())).2.2.2.1 (aG,aB,())).2.2≠(0:Int))) (.ret ((((ai,af,()),ab,ae,aa,()),()))) (.ctL (f9 (d8 Tryz.prog 67) 6) (St.mk [(3,AV.ptr 3 []),(4,AV.ptr 2000000 [Step.m0 1,Step.idx aM]),(49,AV.at_ 1000049 []),(50,AV.val f7 (↑(List.length (E6 (List.getD ab (Int.toNat aM) (false,[],((0:Int),[],()),((0:Int),[],()),((0:Int),[],()),())).2.2.2.1 (aG,aB,())).2.1):Int)),(51,AV.val f7 (0:Int))] [(3,g9.var (Ty.pair f7 (Ty.pair f7 (Ty.pair f7 (Ty.pair f7 (Ty.pair f7 (Ty.pair Z9 (Ty.pair Ty.str Ty.unit))))))) (bz,aJ,aM,aX,aG,aU,aB,())),(1000049,g9.own (Ty.d0 true Ty.str) (E6 (List.getD ab (Int.toNat aM) (false,[],((0:Int),[],()),((0:Int),[],()),((0:Int),[],()),())).2.2.2.1 (aG,aB,())).2.1),(2000000,g9.var s9 ((ai,af,()),List.set ab (Int.toNat aM) (Prod.fst (List.getD ab (Int.toNat aM) (false,[],((0:Int),[],()),((0:Int),[],()),((0:Int),[],()),())),Prod.fst (List.getD ab (Int.toNat aM) (false,[],((0:Int),[],()),((0:Int),[],()),((0:Int),[],()),())).2,Prod.fst (List.getD ab (Int.toNat aM) (false,[],((0:Int),[],()),((0:Int),[],()),((0:Int),[],()),())).2.2,Prod.fst (E6 (List.getD ab (Int.toNat aM) (false,[],((0:Int),[],()),((0:Int),[],()),((0:Int),[],()),())).2.2.2.1 (aG,aB,())),Prod.snd (List.getD ab (Int.toNat aM) (false,[],((0:Int),[],()),((0:Int),[],()),((0:Int),[],()),())).2.2.2),ae,aa,()))])))):=by kernel_rfl
def Lg (vx:Int) (zx:Int) (v51:Int) (bY:Int) (aQ:Int) (aS:Int) (aL:Int) (aC:Int) (aA:List Int) (aq:yY) (bd:List yY) (az:Int) (an:Int) (aj:List o5) (ak:List yY) (ah:List yY):St:=St.mk [(3,AV.ptr 3 []),(4,AV.ptr 2000000 [Step.m0 1,Step.idx vx]),(49,AV.at_ 1000049 []),(50,AV.val f7 zx),(51,AV.val f7 v51)] [(3,g9.var (Ty.pair f7 (Ty.pair f7 (Ty.pair f7 (Ty.pair f7 (Ty.pair f7 (Ty.pair Z9 (Ty.pair Ty.str Ty.unit))))))) (bY,aQ,aS,aL,aC,aA,aq,())),(1000049,g9.own (Ty.d0 true Ty.str) bd),(2000000,g9.var s9 ((az,an,()),aj,ak,ah,()))]
theorem Zn (vx:Int) (zx:Int) (v51:Int) (bY:Int) (aQ:Int) (aS:Int) (aL:Int) (aC:Int) (aA:List Int) (aq:yY) (bd:List yY) (az:Int) (an:Int) (aj:List o5) (ak:List yY) (ah:List yY):exec Ca 1000 (.code (f9 (d8 Tryz.prog 67) 6).1::.inLoop (f9 (d8 Tryz.prog 67) 6).1::(f9 (d8 Tryz.prog 67) 6).2) (Lg vx zx v51 bY aQ aS aL aC aA aq bd az an aj ak ah) =
  cond (decide (v51<zx)) (.f8 ((0:Int)<=v51/\v51<(↑(List.length bd):Int)) (.f8 (List.length (List.getD bd (Int.toNat v51) [])<=1000000/\Array.toList (ByteArray.data (ByteArray.mk #[58]))=[(58:UInt8)]) (.f8 (List.length (C5 (List.getD bd (Int.toNat v51) [])).2.1<=1000000/\Array.toList (ByteArray.data (ByteArray.mk #[58]))=[(58:UInt8)]) (.f8 (List.length (C5 (List.getD bd (Int.toNat v51) [])).1<=18/\Option.isSome (Go.Lib.atoi (C5 (List.getD bd (Int.toNat v51) [])).1)=true) (.f8 (True/\True/\[Step.m0 1,Step.idx vx]++[Step.m0 1]=[Step.m0 1,Step.idx vx]++[Step.m0 1]/\List.length (List.getD aj (Int.toNat vx) (false,[],((0:Int),[],()),((0:Int),[],()),((0:Int),[],()),())).2.1+List.length (List.set [((0:Int),[],())] (Int.toNat (↑0:Int)) (Option.getD (Go.Lib.atoi (C5 (List.getD bd (Int.toNat v51) [])).1) (0:Int),Prod.fst (C5 (C5 (List.getD bd (Int.toNat v51) [])).2.1).2,()))<=140737488355328/\(List.length (List.getD aj (Int.toNat vx) (false,[],((0:Int),[],()),((0:Int),[],()),((0:Int),[],()),())).2.1+List.length (List.set [((0:Int),[],())] (Int.toNat (↑0:Int)) (Option.getD (Go.Lib.atoi (C5 (List.getD bd (Int.toNat v51) [])).1) (0:Int),Prod.fst (C5 (C5 (List.getD bd (Int.toNat v51) [])).2.1).2,())))*Ty.wb o7<=140737488355328) (cond (decide (Option.getD (Go.Lib.atoi (C5 (List.getD bd (Int.toNat v51) [])).1) (0:Int)=aS)) (.f8 (List.length (C5 (C5 (List.getD bd (Int.toNat v51) [])).2.1).1<=18/\Option.isSome (Go.Lib.atoi (C5 (C5 (List.getD bd (Int.toNat v51) [])).2.1).1)=true) (.f8 (w4 IntKind.i64 (Option.getD (Go.Lib.atoi (C5 (C5 (List.getD bd (Int.toNat v51) [])).2.1).1) (0:Int)+(1:Int))) (.f8 ((0:Int)<=Option.getD (Go.Lib.atoi (C5 (C5 (List.getD bd (Int.toNat v51) [])).2.1).1) (0:Int)+(1:Int)) (cond (decide (Prod.fst (T7 (List.getD (List.set aj (Int.toNat vx) (Prod.fst (List.getD aj (Int.toNat vx) (false,[],((0:Int),[],()),((0:Int),[],()),((0:Int),[],()),())),Prod.fst (List.getD aj (Int.toNat vx) (false,[],((0:Int),[],()),((0:Int),[],()),((0:Int),[],()),())).2++List.set [((0:Int),[],())] (Int.toNat (↑0:Int)) (Option.getD (Go.Lib.atoi (C5 (List.getD bd (Int.toNat v51) [])).1) (0:Int),Prod.fst (C5 (C5 (List.getD bd (Int.toNat v51) [])).2.1).2,()),Prod.snd (List.getD aj (Int.toNat vx) (false,[],((0:Int),[],()),((0:Int),[],()),((0:Int),[],()),())).2)) (Int.toNat vx) (false,[],((0:Int),[],()),((0:Int),[],()),((0:Int),[],()),())).2.2.1 (Option.getD (Go.Lib.atoi (C5 (C5 (List.getD bd (Int.toNat v51) [])).2.1).1) (0:Int)+(1:Int))).2=(0:Int))) (.f8 (w4 IntKind.i64 (v51+(1:Int))) (.ctL (f9 (d8 Tryz.prog 67) 6) (St.mk [(3,AV.ptr 3 []),(4,AV.ptr 2000000 [Step.m0 1,Step.idx vx]),(49,AV.at_ 1000049 []),(50,AV.val f7 zx),(51,AV.val f7 (v51+(1:Int)))] [(3,g9.var (Ty.pair f7 (Ty.pair f7 (Ty.pair f7 (Ty.pair f7 (Ty.pair f7 (Ty.pair Z9 (Ty.pair Ty.str Ty.unit))))))) (bY,aQ,aS,aL,aC,aA,aq,())),(1000049,g9.own (Ty.d0 true Ty.str) bd),(2000000,g9.var s9 ((az,an,()),List.set (List.set aj (Int.toNat vx) (Prod.fst (List.getD aj (Int.toNat vx) (false,[],((0:Int),[],()),((0:Int),[],()),((0:Int),[],()),())),Prod.fst (List.getD aj (Int.toNat vx) (false,[],((0:Int),[],()),((0:Int),[],()),((0:Int),[],()),())).2++List.set [((0:Int),[],())] (Int.toNat (↑0:Int)) (Option.getD (Go.Lib.atoi (C5 (List.getD bd (Int.toNat v51) [])).1) (0:Int),Prod.fst (C5 (C5 (List.getD bd (Int.toNat v51) [])).2.1).2,()),Prod.snd (List.getD aj (Int.toNat vx) (false,[],((0:Int),[],()),((0:Int),[],()),((0:Int),[],()),())).2)) (Int.toNat vx) (Prod.fst (List.getD (List.set aj (Int.toNat vx) (Prod.fst (List.getD aj (Int.toNat vx) (false,[],((0:Int),[],()),((0:Int),[],()),((0:Int),[],()),())),Prod.fst (List.getD aj (Int.toNat vx) (false,[],((0:Int),[],()),((0:Int),[],()),((0:Int),[],()),())).2++List.set [((0:Int),[],())] (Int.toNat (↑0:Int)) (Option.getD (Go.Lib.atoi (C5 (List.getD bd (Int.toNat v51) [])).1) (0:Int),Prod.fst (C5 (C5 (List.getD bd (Int.toNat v51) [])).2.1).2,()),Prod.snd (List.getD aj (Int.toNat vx) (false,[],((0:Int),[],()),((0:Int),[],()),((0:Int),[],()),())).2)) (Int.toNat vx) (false,[],((0:Int),[],()),((0:Int),[],()),((0:Int),[],()),())),Prod.fst (List.getD (List.set aj (Int.toNat vx) (Prod.fst (List.getD aj (Int.toNat vx) (false,[],((0:Int),[],()),((0:Int),[],()),((0:Int),[],()),())),Prod.fst (List.getD aj (Int.toNat vx) (false,[],((0:Int),[],()),((0:Int),[],()),((0:Int),[],()),())).2++List.set [((0:Int),[],())] (Int.toNat (↑0:Int)) (Option.getD (Go.Lib.atoi (C5 (List.getD bd (Int.toNat v51) [])).1) (0:Int),Prod.fst (C5 (C5 (List.getD bd (Int.toNat v51) [])).2.1).2,()),Prod.snd (List.getD aj (Int.toNat vx) (false,[],((0:Int),[],()),((0:Int),[],()),((0:Int),[],()),())).2)) (Int.toNat vx) (false,[],((0:Int),[],()),((0:Int),[],()),((0:Int),[],()),())).2,Prod.fst (T7 (List.getD (List.set aj (Int.toNat vx) (Prod.fst (List.getD aj (Int.toNat vx) (false,[],((0:Int),[],()),((0:Int),[],()),((0:Int),[],()),())),Prod.fst (List.getD aj (Int.toNat vx) (false,[],((0:Int),[],()),((0:Int),[],()),((0:Int),[],()),())).2++List.set [((0:Int),[],())] (Int.toNat (↑0:Int)) (Option.getD (Go.Lib.atoi (C5 (List.getD bd (Int.toNat v51) [])).1) (0:Int),Prod.fst (C5 (C5 (List.getD bd (Int.toNat v51) [])).2.1).2,()),Prod.snd (List.getD aj (Int.toNat vx) (false,[],((0:Int),[],()),((0:Int),[],()),((0:Int),[],()),())).2)) (Int.toNat vx) (false,[],((0:Int),[],()),((0:Int),[],()),((0:Int),[],()),())).2.2.1 (Option.getD (Go.Lib.atoi (C5 (C5 (List.getD bd (Int.toNat v51) [])).2.1).1) (0:Int)+(1:Int))),Prod.snd (List.getD (List.set aj (Int.toNat vx) (Prod.fst (List.getD aj (Int.toNat vx) (false,[],((0:Int),[],()),((0:Int),[],()),((0:Int),[],()),())),Prod.fst (List.getD aj (Int.toNat vx) (false,[],((0:Int),[],()),((0:Int),[],()),((0:Int),[],()),())).2++List.set [((0:Int),[],())] (Int.toNat (↑0:Int)) (Option.getD (Go.Lib.atoi (C5 (List.getD bd (Int.toNat v51) [])).1) (0:Int),Prod.fst (C5 (C5 (List.getD bd (Int.toNat v51) [])).2.1).2,()),Prod.snd (List.getD aj (Int.toNat vx) (false,[],((0:Int),[],()),((0:Int),[],()),((0:Int),[],()),())).2)) (Int.toNat vx) (false,[],((0:Int),[],()),((0:Int),[],()),((0:Int),[],()),())).2.2),ak,ah,()))]))) (.f8 (w4 IntKind.i64 (v51+(1:Int))) (.ctL (f9 (d8 Tryz.prog 67) 6) (St.mk [(3,AV.ptr 3 []),(4,AV.ptr 2000000 [Step.m0 1,Step.idx vx]),(49,AV.at_ 1000049 []),(50,AV.val f7 zx),(51,AV.val f7 (v51+(1:Int)))] [(3,g9.var (Ty.pair f7 (Ty.pair f7 (Ty.pair f7 (Ty.pair f7 (Ty.pair f7 (Ty.pair Z9 (Ty.pair Ty.str Ty.unit))))))) (bY,aQ,aS,aL,aC,aA,aq,())),(1000049,g9.own (Ty.d0 true Ty.str) bd),(2000000,g9.var s9 ((az,an,()),List.set aj (Int.toNat vx) (Prod.fst (List.getD aj (Int.toNat vx) (false,[],((0:Int),[],()),((0:Int),[],()),((0:Int),[],()),())),Prod.fst (List.getD aj (Int.toNat vx) (false,[],((0:Int),[],()),((0:Int),[],()),((0:Int),[],()),())).2++List.set [((0:Int),[],())] (Int.toNat (↑0:Int)) (Option.getD (Go.Lib.atoi (C5 (List.getD bd (Int.toNat v51) [])).1) (0:Int),Prod.fst (C5 (C5 (List.getD bd (Int.toNat v51) [])).2.1).2,()),Prod.snd (List.getD aj (Int.toNat vx) (false,[],((0:Int),[],()),((0:Int),[],()),((0:Int),[],()),())).2),ak,ah,()))]))))))) (.f8 (w4 IntKind.i64 (v51+(1:Int))) (.ctL (f9 (d8 Tryz.prog 67) 6) (St.mk [(3,AV.ptr 3 []),(4,AV.ptr 2000000 [Step.m0 1,Step.idx vx]),(49,AV.at_ 1000049 []),(50,AV.val f7 zx),(51,AV.val f7 (v51+(1:Int)))] [(3,g9.var (Ty.pair f7 (Ty.pair f7 (Ty.pair f7 (Ty.pair f7 (Ty.pair f7 (Ty.pair Z9 (Ty.pair Ty.str Ty.unit))))))) (bY,aQ,aS,aL,aC,aA,aq,())),(1000049,g9.own (Ty.d0 true Ty.str) bd),(2000000,g9.var s9 ((az,an,()),List.set aj (Int.toNat vx) (Prod.fst (List.getD aj (Int.toNat vx) (false,[],((0:Int),[],()),((0:Int),[],()),((0:Int),[],()),())),Prod.fst (List.getD aj (Int.toNat vx) (false,[],((0:Int),[],()),((0:Int),[],()),((0:Int),[],()),())).2++List.set [((0:Int),[],())] (Int.toNat (↑0:Int)) (Option.getD (Go.Lib.atoi (C5 (List.getD bd (Int.toNat v51) [])).1) (0:Int),Prod.fst (C5 (C5 (List.getD bd (Int.toNat v51) [])).2.1).2,()),Prod.snd (List.getD aj (Int.toNat vx) (false,[],((0:Int),[],()),((0:Int),[],()),((0:Int),[],()),())).2),ak,ah,()))]))))))))) (.ret ((((az,an,()),aj,ak,ah,()),()))):=by kernel_rfl
attribute [local irreducible] U4 E6 T7 C5 Lib.atoi in
theorem b6U:IP.Valid Tryz.prog 67:=by
  refine r9.p7 Lf rfl rfl Tryz.func67 (c:=d8 Tryz.prog 67) rfl rfl Lj rfl ?_;rintro ⟨⟨⟨(v0:Int),(v1:Int),⟨⟩⟩,(al:List o5),(od:List yY),(wy:List yY),⟨⟩⟩,⟨(nk:Int),(nf:Int),(nt:Int),(nv:Int),(ns:Int),(na:List Int),(nx:yY),⟨⟩⟩,⟨⟩⟩ ⟨(hp:0<=nt/\nt<(al.length:Int)),(hl:(D3 ((v0,v1,()),al,od,wy,()) nt).2.1.length<=1000000000000),(aH:∀ t∈(N9 ((v0,v1,()),al,od,wy,()) (nk,nf,nt,nv,ns,na,nx,())).2.1,okT t)⟩ -
  refine j6 (n:=1000) Lf Lj ?_;refine i7 (YO v0 v1 al od wy nk nf nt nv ns na nx) ?_;simp only [j7,Tree.holds,sL];have e1:=λ a=>(U4.eq_1 ((v0,v1,()),al,od,wy,()) (nk,nf,nt,nv,ns,na,nx,())).trans (if_pos a);have e2:=λ a=>(U4.eq_1 ((v0,v1,()),al,od,wy,()) (nk,nf,nt,nv,ns,na,nx,())).trans (if_neg a);have key:∀ r:d9,U4 ((v0,v1,()),al,od,wy,()) (nk,nf,nt,nv,ns,na,nx,())=r->(((r,()):d9×Unit)=(U4 ((v0,v1,()),al,od,wy,()) (nk,nf,nt,nv,ns,na,nx,()),())):=by rintro r rfl; rfl
  refine ⟨hp,λ _=>⟨λ a=>key _ (e1 a),λ a=>?_⟩⟩;have e3:=e2 a;have bH:=Ad (aBt.1 a);obtain ⟨x,hx⟩:∃ x:o5,x=xq (D3 ((v0,v1,()),al,od,wy,()) nt) (N9 ((v0,v1,()),al,od,wy,()) (nk,nf,nt,nv,ns,na,nx,())).1:=⟨_,rfl⟩;obtain ⟨l,mm⟩:∃ l,l=(N9 ((v0,v1,()),al,od,wy,()) (nk,nf,nt,nv,ns,na,nx,())).2.1:=⟨_,rfl⟩;have kQ:x.2.1.length<=1000000000000:=by rw [hx]; exact hl
  have tq:l.length<=16:=by rw [mm]; exact bH.2.2.1
  have bf:∀ t∈l,F3 t=false:=by rw [mm]; exact λ t ht=>(bH.1 t ht).2
  have jr:∀ t∈l,okT t:=by rw [mm]; exact aH
  suffices go:Go.Ex.Reach Ca Tryz.f67 () (S3 ((v0,v1,()),al,od,wy,()) nt (M4 nt x l l.length),()) (.code (f9 (d8 Tryz.prog 67) 6).1::.inLoop (f9 (d8 Tryz.prog 67) 6).1::(f9 (d8 Tryz.prog 67) 6).2) (Lg nt (l.length:Int) ((0:Nat):Int) nk nf nt nv ns na nx l v0 v1 (al.set nt.toNat (M4 nt x l 0)) od wy) by
    subst hx; subst mm;rw [e3];rw [M4] at go;exact go
  refine Reach.N4 Lf Lj (λ i:Nat=>Lg nt (l.length:Int) (i:Int) nk nf nt nv ns na nx l v0 v1 (al.set nt.toNat (M4 nt x l i)) od wy) (λ i=>i<=l.length)
    (λ i=>l.length - i) 1000 (λ _=>⟨w6 rfl,w6 rfl⟩) ?_ 0 (aAr _)
  rintro i k1 - ih;have k1:i<=l.length:=k1;refine i7 (Zn ..) ?_;have e4:((i:Nat):Int)+1=((i+1:Nat):Int):=by omega
  have hg:∀ y:o5,(al.set nt.toNat y).getD nt.toNat (false,[],(0,[],()),(0,[],()),(0,[],()),())=y:=λ y=>by
    rw [aAb,aHh (by omega)]; rfl
  have ph:∀ y z:o5,(al.set nt.toNat y).set nt.toNat z=al.set nt.toNat z:=λ y z=>List.set_set ..;have jD:Ty.wb o7=24:=rfl;have hlen:=Mu (q:=nt) (x:=x) (l:=l) i;obtain ⟨y,hy⟩:∃ y,y=M4 nt x l i:=⟨_,rfl⟩;obtain ⟨t,ht⟩:∃ t,t=l.getD i []:=⟨_,rfl⟩;have hs:M4 nt x l (i+1)=Y0 nt y t:=by rw [M4,<- hy,<- ht]
  have hT:i<l.length->F3 t=false/\okT t:=λ h=>by
    have:t∈l:=by rw [ht,aAb,aAf h]; exact aCn _
    exact ⟨bf t this,jr t this⟩
  have ih1:i<l.length->_:=λ h=>ih (i+1) (by show i+1<=l.length; omega) (by show l.length - (i+1)<l.length - i; omega);rw [hs] at ih1;rw [<- hy] at hlen ⊢;simp only [j7,Tree.holds,e4,hg,ph,sL];rw [<- ht];have dQ:=CQ t;have iH:=CQ (C5 t).2.1;refine ⟨λ c=>?_,λ c=>?_⟩
  . have c':i<l.length:=by omega
    obtain ⟨g1,g2⟩:=hT c';have g3:=KY g1;have g4:=XQ g2;refine ⟨⟨by omega,by omega⟩,λ _=>⟨⟨by omega,trivial⟩,λ _=>⟨⟨by omega,trivial⟩,λ _=>⟨g4.1,λ _=>⟨?_,λ _=>⟨λ d=>⟨g4.2.1,λ _=>⟨?_,λ _=>⟨?_,λ _=>⟨λ e=>⟨?_,λ _=>?_⟩,λ e=>⟨?_,λ _=>?_⟩⟩⟩⟩⟩,λ d=>⟨?_,λ _=>?_⟩⟩⟩⟩⟩⟩⟩
    . rw [jD]; omega
    . have:0<=nth t/\nth t<=16777300:=g4.2.2;show w4 .i64 (nth t+1);exact G6.2 ⟨by omega,by omega⟩
    . have:0<=nth t/\nth t<=16777300:=g4.2.2;show 0<=nth t+1;omega
    . exact ⟨by omega,by omega⟩
    . have:=ih1 c';rw [KU d e] at this;exact this
    . exact ⟨by omega,by omega⟩
    . have:=ih1 c';rw [Fl (λ h=>e h.2)] at this;exact this
    . exact ⟨by omega,by omega⟩
    . have:=ih1 c';rw [Fl (λ h=>d h.1)] at this;exact this
  . obtain rfl:i=l.length:=by omega
    rw [hy]; rfl
theorem AZ {w:d9} {n:n8}:∀ j,(F4 w n j).2.1=w.2.1/\(F4 w n j).1=w.1/\(F4 w n j).2.2.1=w.2.2.1
  | 0=>⟨rfl,rfl,rfl⟩
  | j+1=>by
    obtain ⟨h1,h2,h3⟩:=AZ (w:=w) (n:=n) j;rw [F4]
    split
    . obtain ⟨g1,g2,g3⟩:=FR (w:=F4 w n j) (k:=2) (f:=r7 (F4 w n j)) (t:=n.2.1) (s:=n.2.2.2.2.1+j) (x:=(F4 w n j).2.2.1.getD (n.2.2.2.2.1+j).toNat []);exact ⟨g1.trans h1,g2.trans h2,g3.trans h3⟩
    . exact ⟨h1,h2,h3⟩
theorem c4T {w:d9} {n:n8} {j:Nat} (h:n.2.2.2.2.1+j<(F4 w n j).2.2.1.length):F4 w n (j+1)=M7 (F4 w n j) 2 (r7 (F4 w n j)) n.2.1 (n.2.2.2.2.1+j) ((F4 w n j).2.2.1.getD (n.2.2.2.2.1+j).toNat []):=by
  rw [F4]; exact if_pos h
theorem Ta {w:d9} {n:n8} {j:Nat} (h:¬ n.2.2.2.2.1+j<w.2.2.1.length):∀ m,F4 w n (j+m)=F4 w n j
  | 0=>rfl
  | m+1=>by
    rw [<- aBo,F4,if_neg,Ta h m];rw [(AZ (j+m)).2.2];omega
structure xP (w:d9) (n:n8):Prop where
  H8:w.2.1.length<=6
  to:0<=n.2.2.1/\n.2.2.1<(w.2.1.length:Int)
  seq:0<=n.2.2.2.2.1/\n.2.2.2.2.1<=16777215
  log:(D3 w n.2.2.1).2.1.length<=1000000000000
  ord:w.2.2.1.length<=1000000000000
  txt:n.1=2->∀ t∈(N9 w n).2.1,okT t
def Kp:r9:={ ps:=[.rw s9,.v An],rs:=[],pre:=λ x=>xP x.1 x.2.1,fn:=λ _=>(),out:=λ x=>(C3 x.1 x.2.1,()) }
noncomputable def De:Env:={ P:=Tryz.prog,tt:=tt,E3:=[(49,zM),(66,IN),(67,IP),(43,Au),(44,Ah)],res:=[],rs:=[],ps:=[PK.rw s9,PK.v (Ty.pair f7 (Ty.pair f7 (Ty.pair f7 (Ty.pair f7 (Ty.pair f7 (Ty.pair Z9 (Ty.pair Ty.str Ty.unit)))))))],D5:=[(7,[(0,none),(3,none),(4,none)])],nt:=56 }
theorem MS:B8 De:=C4 s7 ⟨Dv,b6W,b6U,Gf,Gb,trivial⟩
theorem MI:D7 De Tryz.f48:=⟨rfl,rfl⟩
theorem b9E (ai:Int) (af:Int) (ab:List o5) (ae:List yY) (aa:List yY) (bz:Int) (aJ:Int) (aM:Int) (aX:Int) (aG:Int) (aU:List Int) (aB:yY):exec De 1000 [.code (d8 Tryz.prog 48)] (w9 Kp.ps ((((ai,af,()),ab,ae,aa,()),(bz,aJ,aM,aX,aG,aU,aB,()),()))) =
  .f8 (List.length ab<=6) (cond (decide (known ((ai,af,()),ab,ae,aa,()) aJ≠(0:Int))) (.ret ((((ai,af,()),ab,ae,aa,()),()))) (cond (decide (bz=(1:Int))) (.f8 (List.length ab<=6/\¬known ((ai,af,()),ab,ae,aa,()) aJ≠(0:Int)/\List.length ae<=1000000000000) (.ret ((P9 ((ai,af,()),ab,ae,aa,()) (bz,aJ,aM,aX,aG,aU,aB,()),())))) (cond (decide (bz=(3:Int))) (.ctL (f9 (d8 Tryz.prog 48) 7) (St.mk [(0,AV.ptr 2000000 []),(3,AV.ptr 3 []),(4,AV.val f7 aG)] [(3,g9.var (Ty.pair f7 (Ty.pair f7 (Ty.pair f7 (Ty.pair f7 (Ty.pair f7 (Ty.pair Z9 (Ty.pair Ty.str Ty.unit))))))) (bz,aJ,aM,aX,aG,aU,aB,())),(2000000,g9.var s9 ((ai,af,()),ab,ae,aa,()))])) (cond (decide (bz=(2:Int))) (.f8 (((0:Int)<=aM/\aM<(↑(List.length ab):Int))/\List.length (D3 ((ai,af,()),ab,ae,aa,()) aM).2.1<=1000000000000/\∀ (t:yY),t∈Prod.fst (N9 ((ai,af,()),ab,ae,aa,()) (bz,aJ,aM,aX,aG,aU,aB,())).2->okT t) (.ret ((U4 ((ai,af,()),ab,ae,aa,()) (bz,aJ,aM,aX,aG,aU,aB,()),())))) (.ret ((((ai,af,()),ab,ae,aa,()),()))))))):=by kernel_rfl
def a40 (v4:Int) (bY:Int) (aQ:Int) (aS:Int) (aL:Int) (aC:Int) (aA:List Int) (aq:yY) (az:Int) (an:Int) (aj:List o5) (ak:List yY) (ah:List yY):St:=St.mk [(0,AV.ptr 2000000 []),(3,AV.ptr 3 []),(4,AV.val f7 v4)] [(3,g9.var (Ty.pair f7 (Ty.pair f7 (Ty.pair f7 (Ty.pair f7 (Ty.pair f7 (Ty.pair Z9 (Ty.pair Ty.str Ty.unit))))))) (bY,aQ,aS,aL,aC,aA,aq,())),(2000000,g9.var s9 ((az,an,()),aj,ak,ah,()))]
theorem b8i (v4:Int) (bY:Int) (aQ:Int) (aS:Int) (aL:Int) (aC:Int) (aA:List Int) (aq:yY) (az:Int) (an:Int) (aj:List o5) (ak:List yY) (ah:List yY):exec De 1000 (.code (f9 (d8 Tryz.prog 48) 7).1::.inLoop (f9 (d8 Tryz.prog 48) 7).1::(f9 (d8 Tryz.prog 48) 7).2) (a40 v4 bY aQ aS aL aC aA aq az an aj ak ah) =
  cond (decide (v4<(↑(List.length ak):Int))) (.f8 (w4 IntKind.i64 (aC+(4:Int))) (cond (decide (v4<aC+(4:Int))) (.f8 (True) (.f8 ((0:Int)<=v4/\v4<(↑(List.length ak):Int)) (.f8 (True) (.f8 (w4 IntKind.i64 (v4+(1:Int))) (.ctL (f9 (d8 Tryz.prog 48) 7) (St.mk [(0,AV.ptr 2000000 []),(3,AV.ptr 3 []),(4,AV.val f7 (v4+(1:Int)))] [(3,g9.var (Ty.pair f7 (Ty.pair f7 (Ty.pair f7 (Ty.pair f7 (Ty.pair f7 (Ty.pair Z9 (Ty.pair Ty.str Ty.unit))))))) (bY,aQ,aS,aL,aC,aA,aq,())),(2000000,g9.var s9 (M7 ((az,an,()),aj,ak,ah,()) (2:Int) (r7 ((az,an,()),aj,ak,ah,())) aQ v4 (List.getD ak (Int.toNat v4) [])))])))))) (.ret ((((az,an,()),aj,ak,ah,()),()))))) (.ret ((((az,an,()),aj,ak,ah,()),()))):=by kernel_rfl
theorem Uj {w:d9} {n:n8} (h:known w n.2.1≠0):C3 w n=w:=by rw [C3]; exact if_pos h
theorem UD {w:d9} {n:n8} (h:¬ known w n.2.1≠0) (h1:n.1=1):C3 w n=P9 w n:=by rw [C3]; exact (if_neg h).trans (if_pos h1)
theorem UC {w:d9} {n:n8} (h:¬ known w n.2.1≠0) (h1:n.1=3):C3 w n=F4 w n 4:=by rw [C3]; exact (if_neg h).trans ((if_neg (by omega)).trans (if_pos h1))
theorem Vc {w:d9} {n:n8} (h:¬ known w n.2.1≠0) (h1:n.1=2):C3 w n=U4 w n:=by rw [C3]; exact (if_neg h).trans ((if_neg (by omega)).trans ((if_neg (by omega)).trans (if_pos h1)))
theorem Vb {w:d9} {n:n8} (h1:n.1≠1) (h2:n.1≠3) (h3:n.1≠2):C3 w n=w:=by
  rw [C3,if_neg h1,if_neg h2,if_neg h3]; split<;>rfl
attribute [local irreducible] C3 P9 U4 F4 M7 in
theorem b3D:Kp.Valid Tryz.prog 48:=by
  refine r9.p7 MS rfl rfl Tryz.func48 (c:=d8 Tryz.prog 48) rfl rfl MI rfl ?_;rintro ⟨⟨⟨(v0:Int),(v1:Int),⟨⟩⟩,(al:List o5),(od:List yY),(wy:List yY),⟨⟩⟩,⟨(nk:Int),(nf:Int),(nt:Int),(nv:Int),(ns:Int),(na:List Int),(nx:yY),⟨⟩⟩,⟨⟩⟩ (hq:xP ((v0,v1,()),al,od,wy,()) (nk,nf,nt,nv,ns,na,nx,())) -
  refine j6 (n:=1000) MS MI ?_;refine i7 (b9E v0 v1 al od wy nk nf nt nv ns na nx) ?_;simp only [j7,Tree.holds,sL];have key:∀ r:d9,C3 ((v0,v1,()),al,od,wy,()) (nk,nf,nt,nv,ns,na,nx,())=r->(((r,()):d9×Unit)=(C3 ((v0,v1,()),al,od,wy,()) (nk,nf,nt,nv,ns,na,nx,()),())):=by rintro r rfl; rfl
  refine ⟨hq.H8,λ _=>⟨λ a=>key _ (Uj a),λ a=>⟨λ b=>⟨⟨hq.H8,a,hq.ord⟩,λ _=>key _ (UD a b)⟩,λ b=>⟨λ c=>?_,λ c=>⟨λ d=>⟨⟨hq.to,hq.log,hq.txt d⟩,λ _=>key _ (Vc a d)⟩,λ d=>key _ (Vb b c d)⟩⟩⟩⟩⟩;obtain ⟨w,hw⟩:∃ w:d9,w=((v0,v1,()),al,od,wy,()):=⟨_,rfl⟩;obtain ⟨n,hn⟩:∃ n:n8,n=(nk,nf,nt,nv,ns,na,nx,()):=⟨_,rfl⟩;have e3:C3 ((v0,v1,()),al,od,wy,()) (nk,nf,nt,nv,ns,na,nx,())=F4 w n 4:=by rw [hw,hn]; exact UC a c
  have gB:0<=ns/\ns<=16777215:=hq.seq;have jN:n.2.2.2.2.1=ns:=by rw [hn]
  have oD:n.2.1=nf:=by rw [hn]
  have ri:w.2.2.1=od:=by rw [hw]
  suffices go:Go.Ex.Reach De Tryz.f48 () (F4 w n 4,()) (.code (f9 (d8 Tryz.prog 48) 7).1::.inLoop (f9 (d8 Tryz.prog 48) 7).1::(f9 (d8 Tryz.prog 48) 7).2) (a40 (ns+((0:Nat):Int)) nk nf nt nv ns na nx (F4 w n 0).1.1 (F4 w n 0).1.2.1 (F4 w n 0).2.1 (F4 w n 0).2.2.1 (F4 w n 0).2.2.2.1) by
    rw [e3];rw [F4,show ns+((0:Nat):Int)=ns by omega] at go;rw [hw] at go ⊢;exact go
  refine Reach.N4 MS MI (λ j:Nat=>a40 (ns+(j:Int)) nk nf nt nv ns na nx (F4 w n j).1.1 (F4 w n j).1.2.1 (F4 w n j).2.1 (F4 w n j).2.2.1 (F4 w n j).2.2.2.1) (λ j=>j<=4)
    (λ j=>4 - j) 1000 (λ _=>⟨w6 rfl,w6 rfl⟩) ?_ 0 (aAr _)
  rintro j k1 - ih;have k1:j<=4:=k1;refine i7 (b8i ..) ?_;have e4:ns+(j:Int)+1=ns+((j+1:Nat):Int):=by omega
  have t3:=(AZ (w:=w) (n:=n) j).2.2;simp only [j7,Tree.holds,e4,sL];refine ⟨λ d=>⟨?_,λ _=>⟨λ e=>⟨⟨by omega,d⟩,λ _=>⟨?_,λ _=>?_⟩⟩,λ e=>?_⟩⟩,λ d=>?_⟩
  . exact G6.2 ⟨by omega,by omega⟩
  . exact G6.2 ⟨by omega,by omega⟩
  . have:=ih (j+1) (by show j+1<=4; omega) (by show 4 - (j+1)<4 - j; omega);rw [c4T (j:=j) (by rw [jN]; exact d)] at this;rw [jN,oD] at this;exact this
  . obtain rfl:j=4:=by omega
    rfl
  . have:=Ta (w:=w) (n:=n) (j:=j) (by rw [jN,<- t3]; exact d) (4 - j);rw [show j+(4 - j)=4 by omega] at this;rw [this]; rfl
abbrev noB:yY:=[]
def HV:r9:={ ps:=[.own (.d0 true .str),.v f7,.v f7],rs:=[.d0 true .str],pre:=λ x=>LE.le (α:=Int) 0 x.2.1/\LE.le (α:=Int) x.2.1 x.2.2.1/\LE.le (α:=Int) x.2.2.1 (List.length (α:=yY) x.1),fn:=λ x=>(List.take (α:=yY) (Int.toNat x.2.1) x.1++List.drop (α:=yY) (Int.toNat x.2.2.1) x.1,()),out:=λ _=>() }
noncomputable def HF:Env:={ P:=Tryz.prog,tt:=tt,E3:=[],res:=[Go.ResultVar.tmp 6],rs:=[Ty.d0 true Ty.str],ps:=[PK.own (Ty.d0 true Ty.str),PK.v f7,PK.v f7],D5:=[],nt:=33 }
theorem Qm:B8 HF:=C4 s7 trivial
theorem PZ:D7 HF Tryz.f45:=⟨rfl,rfl⟩
theorem WH (x0:List yY) (x1:Int) (x2:Int):exec HF 1000 [.code (d8 Tryz.prog 45)] (w9 HV.ps ((x0,x1,x2,()))) =
  .f8 ((0:Int)<=x1/\x1<=x2/\x2<=(↑(List.length x0):Int)/\(↑(List.length x0):Int)<=(↑(List.length x0):Int)) (cond (decide (x1=x2)) (.ret ((x0,()))) (.f8 ((0:Int)<=(0:Int)/\(0:Int)<=x1/\x1<=(↑(List.length x0):Int)) (.f8 ((0:Int)<=x2/\x2<=(↑(List.length x0):Int)/\(↑(List.length x0):Int)<=(↑(List.length x0):Int)) (.f8 (x1+(↑(List.length (o6 x2 (↑(List.length x0):Int) x0)):Int)<=(↑(List.length x0):Int)) (.f8 ((0:Int)<=x1+(↑(List.length (o6 x2 (↑(List.length x0):Int) x0)):Int) - (0:Int)/\x1+(↑(List.length (o6 x2 (↑(List.length x0):Int) x0)):Int) - (0:Int)<=(↑(List.length x0):Int)/\(0:Int)+(↑(List.length x0):Int)<=(↑(List.length (List.take (Int.toNat x1) x0++o6 x2 (↑(List.length x0):Int) x0++List.drop (Int.toNat x1+List.length (o6 x2 (↑(List.length x0):Int) x0)) x0)):Int)) (.ret ((o6 (0:Int) (x1+(↑(List.length (o6 x2 (↑(List.length x0):Int) x0)):Int)) (List.take (Int.toNat ((0:Int)+(x1+(↑(List.length (o6 x2 (↑(List.length x0):Int) x0)):Int) - (0:Int)))) (List.take (Int.toNat x1) x0++o6 x2 (↑(List.length x0):Int) x0++List.drop (Int.toNat x1+List.length (o6 x2 (↑(List.length x0):Int) x0)) x0)++List.replicate (Int.toNat ((0:Int)+(↑(List.length x0):Int) - ((0:Int)+(x1+(↑(List.length (o6 x2 (↑(List.length x0):Int) x0)):Int) - (0:Int))))) []++List.drop (Int.toNat ((0:Int)+(x1+(↑(List.length (o6 x2 (↑(List.length x0):Int) x0)):Int) - (0:Int)))+List.length (List.replicate (Int.toNat ((0:Int)+(↑(List.length x0):Int) - ((0:Int)+(x1+(↑(List.length (o6 x2 (↑(List.length x0):Int) x0)):Int) - (0:Int))))) noB)) (List.take (Int.toNat x1) x0++o6 x2 (↑(List.length x0):Int) x0++List.drop (Int.toNat x1+List.length (o6 x2 (↑(List.length x0):Int) x0)) x0)),())))))))):=by kernel_rfl
theorem b83:HV.Valid Tryz.prog 45:=by
  refine r9.p7 Qm rfl rfl Tryz.func45 (c:=d8 Tryz.prog 45) rfl rfl PZ rfl ?_;rintro ⟨(l:List yY),(i:Int),(j:Int),⟨⟩⟩ ⟨(h0:0<=i),(h1:i<=j),(h2:j<=(l.length:Int))⟩ -
  refine j6 (n:=1000) Qm PZ ?_;refine i7 (WH l i j) ?_;simp only [j7,Tree.holds,sL];have hc:=OK h0 h1 h2 (l:=l);have hm:=Jh h0 h1 h2 (l:=l);refine ⟨⟨h0,h1,h2,aDo _⟩,λ _=>⟨λ e=>?_,λ e=>⟨by omega,λ _=>⟨by omega,λ _=>⟨by omega,λ _=>⟨by omega,λ _=>?_⟩⟩⟩⟩⟩⟩
  . subst e;show ((l,()):List yY×Unit)=(l.take i.toNat++l.drop i.toNat,());rw [aBy]
  . exact congrArg (λ y=>(y,())) (XB h0 h1 h2 (l:=l))
structure Cp (w:d9):Prop where
  H8:w.2.1.length<=6
  way:w.2.2.2.1.length<=60
  note:∀ s∈w.2.2.2.1,(y6 s).2.1=0->(y6 s).1.2.2.2.1=w.1.1->j8 w (y6 s).1.2.2.1=true->xP w (y6 s).1
def Em:r9:={ ps:=[.rw s9,.v f7,.v f7],rs:=[f7],pre:=λ x=>Cp x.1,fn:=λ x=>((w8 x.1 x.2.1 x.2.2.1).2,()),out:=λ x=>((w8 x.1 x.2.1 x.2.2.1).1,()) }
noncomputable def It:Env:={ P:=Tryz.prog,tt:=tt,E3:=[(40,Aq),(45,HV),(46,HR),(47,zB),(48,Kp)],res:=[Go.ResultVar.tmp 6],rs:=[Ty.int IntKind.i64],ps:=[PK.rw s9,PK.v f7,PK.v f7],D5:=[],nt:=95 }
theorem Rq:B8 It:=C4 s7 ⟨Ga,b83,b85,Dq,b3D,trivial⟩
theorem Sc:D7 It Tryz.f18:=⟨rfl,rfl⟩
theorem YM (ai:Int) (af:Int) (ab:List o5) (ae:List yY) (aa:List yY) (x1:Int) (x2:Int):exec It 1000 [.code (d8 Tryz.prog 18)] (w9 Em.ps ((((ai,af,()),ab,ae,aa,()),x1,x2,()))) =
  .f8 (True) (cond (!I4 x2 (1:Int) (3:Int)) (.ret (((1:Int),((ai,af,()),ab,ae,aa,()),()))) (.f8 (w4 IntKind.i64 ((↑(List.length aa):Int) - (1:Int))) (.f8 (True) (cond (!I4 x1 (0:Int) ((↑(List.length aa):Int) - (1:Int))) (.ret (((6:Int),((ai,af,()),ab,ae,aa,()),()))) (cond (decide (x2=(3:Int))) (cond (decide ((↑(List.length aa):Int)=(60:Int))) (.ret (((8:Int),((ai,af,()),ab,ae,aa,()),()))) (.f8 ((0:Int)<=x1/\x1<(↑(List.length aa):Int)) (cond (decide (x2=(3:Int))) (.f8 (True/\True/\[]++[Step.m0 3]=[]++[Step.m0 3]/\List.length aa+List.length (List.set [[]] (Int.toNat (↑0:Int)) (List.getD aa (Int.toNat x1) []))<=140737488355328/\(List.length aa+List.length (List.set [[]] (Int.toNat (↑0:Int)) (List.getD aa (Int.toNat x1) [])))*Ty.wb Ty.str<=140737488355328) (.ret (((0:Int),((ai,af,()),ab,ae,aa++List.set [[]] (Int.toNat (↑0:Int)) (List.getD aa (Int.toNat x1) []),()),())))) (.f8 (w4 IntKind.i64 (x1+(1:Int))) (.f8 (True/\True/\[]++[Step.m0 3]=[]++[Step.m0 3]/\(0:Int)<=x1/\x1<=x1+(1:Int)/\x1+(1:Int)<=(↑(List.length aa):Int)) (.f8 (True) (cond (decide (x2=(1:Int))) (cond (decide (Prod.fst (y6 (List.getD aa (Int.toNat x1) [])).2=(0:Int))) (cond (decide (Prod.fst (Prod.snd (y6 (List.getD aa (Int.toNat x1) [])).1).2.2=ai)) (.f8 (List.length ab<=6) (cond (j8 ((ai,af,()),ab,ae,List.take (Int.toNat x1) aa++List.drop (Int.toNat (x1+(1:Int))) aa,()) (Prod.snd (y6 (List.getD aa (Int.toNat x1) [])).1).2.1) (.f8 (xP ((ai,af,()),ab,ae,List.take (Int.toNat x1) aa++List.drop (Int.toNat (x1+(1:Int))) aa,()) (y6 (List.getD aa (Int.toNat x1) [])).1) (.ret (((0:Int),C3 ((ai,af,()),ab,ae,List.take (Int.toNat x1) aa++List.drop (Int.toNat (x1+(1:Int))) aa,()) (y6 (List.getD aa (Int.toNat x1) [])).1,())))) (.ret (((0:Int),((ai,af,()),ab,ae,List.take (Int.toNat x1) aa++List.drop (Int.toNat (x1+(1:Int))) aa,()),()))))) (.ret (((0:Int),((ai,af,()),ab,ae,List.take (Int.toNat x1) aa++List.drop (Int.toNat (x1+(1:Int))) aa,()),())))) (.ret (((0:Int),((ai,af,()),ab,ae,List.take (Int.toNat x1) aa++List.drop (Int.toNat (x1+(1:Int))) aa,()),())))) (.ret (((0:Int),((ai,af,()),ab,ae,List.take (Int.toNat x1) aa++List.drop (Int.toNat (x1+(1:Int))) aa,()),())))))))))) (.f8 ((0:Int)<=x1/\x1<(↑(List.length aa):Int)) (cond (decide (x2=(3:Int))) (.f8 (True/\True/\[]++[Step.m0 3]=[]++[Step.m0 3]/\List.length aa+List.length (List.set [[]] (Int.toNat (↑0:Int)) (List.getD aa (Int.toNat x1) []))<=140737488355328/\(List.length aa+List.length (List.set [[]] (Int.toNat (↑0:Int)) (List.getD aa (Int.toNat x1) [])))*Ty.wb Ty.str<=140737488355328) (.ret (((0:Int),((ai,af,()),ab,ae,aa++List.set [[]] (Int.toNat (↑0:Int)) (List.getD aa (Int.toNat x1) []),()),())))) (.f8 (w4 IntKind.i64 (x1+(1:Int))) (.f8 (True/\True/\[]++[Step.m0 3]=[]++[Step.m0 3]/\(0:Int)<=x1/\x1<=x1+(1:Int)/\x1+(1:Int)<=(↑(List.length aa):Int)) (.f8 (True) (cond (decide (x2=(1:Int))) (cond (decide (Prod.fst (y6 (List.getD aa (Int.toNat x1) [])).2=(0:Int))) (cond (decide (Prod.fst (Prod.snd (y6 (List.getD aa (Int.toNat x1) [])).1).2.2=ai)) (.f8 (List.length ab<=6) (cond (j8 ((ai,af,()),ab,ae,List.take (Int.toNat x1) aa++List.drop (Int.toNat (x1+(1:Int))) aa,()) (Prod.snd (y6 (List.getD aa (Int.toNat x1) [])).1).2.1) (.f8 (xP ((ai,af,()),ab,ae,List.take (Int.toNat x1) aa++List.drop (Int.toNat (x1+(1:Int))) aa,()) (y6 (List.getD aa (Int.toNat x1) [])).1) (.ret (((0:Int),C3 ((ai,af,()),ab,ae,List.take (Int.toNat x1) aa++List.drop (Int.toNat (x1+(1:Int))) aa,()) (y6 (List.getD aa (Int.toNat x1) [])).1,())))) (.ret (((0:Int),((ai,af,()),ab,ae,List.take (Int.toNat x1) aa++List.drop (Int.toNat (x1+(1:Int))) aa,()),()))))) (.ret (((0:Int),((ai,af,()),ab,ae,List.take (Int.toNat x1) aa++List.drop (Int.toNat (x1+(1:Int))) aa,()),())))) (.ret (((0:Int),((ai,af,()),ab,ae,List.take (Int.toNat x1) aa++List.drop (Int.toNat (x1+(1:Int))) aa,()),())))) (.ret (((0:Int),((ai,af,()),ab,ae,List.take (Int.toNat x1) aa++List.drop (Int.toNat (x1+(1:Int))) aa,()),())))))))))))))):=by kernel_rfl
theorem RQ {w:d9} {k bC:Int} (h:I4 bC 1 3=false):w8 w k bC=(w,1):=by rw [w8]; exact if_pos h
theorem TY {w:d9} {k bC:Int} (h:¬ I4 bC 1 3=false) (h1:I4 k 0 ((w.2.2.2.1.length:Int) - 1)=false):w8 w k bC=(w,6):=by rw [w8]; exact (if_neg h).trans (if_pos h1)
theorem TX {w:d9} {k bC:Int} (h:¬ I4 bC 1 3=false) (h1:¬ I4 k 0 ((w.2.2.2.1.length:Int) - 1)=false) (h2:bC=3) (h3:(w.2.2.2.1.length:Int)=60):w8 w k bC=(w,8):=by
  rw [w8]; exact (if_neg h).trans ((if_neg h1).trans (if_pos ⟨h2,h3⟩))
theorem Mg {w:d9} {k bC:Int} (h:¬ I4 bC 1 3=false) (h1:¬ I4 k 0 ((w.2.2.2.1.length:Int) - 1)=false) (h2:bC=3) (h3:¬ (w.2.2.2.1.length:Int)=60):w8 w k bC=(BE w k.toNat,0):=by
  rw [w8]; exact (if_neg h).trans ((if_neg h1).trans ((if_neg (λ e=>h3 e.2)).trans (if_pos h2)))
theorem CV {w:d9} {k bC:Int} (h:¬ I4 bC 1 3=false) (h1:¬ I4 k 0 ((w.2.2.2.1.length:Int) - 1)=false) (h2:¬ bC=3):w8 w k bC=(O7 (yg w k) bC (w.2.2.2.1.getD k.toNat []),0):=by
  rw [w8]; exact (if_neg h).trans ((if_neg h1).trans ((if_neg (λ e=>h2 e.1)).trans (if_neg h2)))
theorem LO {w:d9} {bC:Int} {s:yY} (h:bC=1/\(y6 s).2.1=0/\(y6 s).1.2.2.2.1=w.1.1/\j8 w (y6 s).1.2.2.1=true):O7 w bC s=C3 w (y6 s).1:=by
  rw [O7]; exact if_pos h
theorem La {w:d9} {bC:Int} {s:yY} (h:¬ (bC=1/\(y6 s).2.1=0/\(y6 s).1.2.2.2.1=w.1.1/\j8 w (y6 s).1.2.2.1=true)):O7 w bC s=w:=by
  rw [O7]; exact if_neg h
theorem xP.drop {w:d9} {n:n8} {l:List yY} (h:xP w n):xP (w.1,w.2.1,w.2.2.1,l,()) n:=⟨h.H8,h.to,h.seq,h.log,h.ord,h.txt⟩
attribute [local irreducible] w8 O7 C3 y6 j8 in
theorem a91:Em.Valid Tryz.prog 18:=by
  refine r9.p7 Rq rfl rfl Tryz.func18 (c:=d8 Tryz.prog 18) rfl rfl Sc rfl ?_;rintro ⟨⟨⟨(v0:Int),(v1:Int),⟨⟩⟩,(al:List o5),(od:List yY),(wy:List yY),⟨⟩⟩,(k:Int),(bC:Int),⟨⟩⟩ (hq:Cp ((v0,v1,()),al,od,wy,())) -
  refine j6 (n:=1000) Rq Sc ?_;refine i7 (YM v0 v1 al od wy k bC) ?_;have jD:Ty.wb .str=16:=rfl;have su:wy.length<=60:=hq.way;simp only [j7,Tree.holds,sL];have key:∀ r:d9×Int,w8 ((v0,v1,()),al,od,wy,()) k bC=r->(((r.2,r.1,()):Int×d9×Unit)=((w8 ((v0,v1,()),al,od,wy,()) k bC).2,(w8 ((v0,v1,()),al,od,wy,()) k bC).1,())):=by rintro r rfl; rfl
  have dy:¬ I4 k 0 ((wy.length:Int) - 1)=false->0<=k/\k<(wy.length:Int):=λ h=>by
    have:=N5.1 (aEn _▸h:I4 k 0 ((wy.length:Int) - 1)=true); omega
  have yes:∀ (a:¬ I4 bC 1 3=false) (b:¬ I4 k 0 ((wy.length:Int) - 1)=false) (c:¬ bC=3),bC=1->(y6 (wy.getD k.toNat [])).2.1=0->(y6 (wy.getD k.toNat [])).1.2.2.2.1=v0->j8 ((v0,v1,()),al,od,wy.take k.toNat++wy.drop (k+1).toNat,()) (y6 (wy.getD k.toNat [])).1.2.2.1=true ->
      w8 ((v0,v1,()),al,od,wy,()) k bC=(C3 ((v0,v1,()),al,od,wy.take k.toNat++wy.drop (k+1).toNat,()) (y6 (wy.getD k.toNat [])).1,0):=λ a b c d e f g=>by
    rw [CV a b c]; exact congrArg (λ x=>(x,(0:Int))) (LO ⟨d,e,f,g⟩)
  have no:∀ (a:¬ I4 bC 1 3=false) (b:¬ I4 k 0 ((wy.length:Int) - 1)=false) (c:¬ bC=3),¬ (bC=1/\(y6 (wy.getD k.toNat [])).2.1=0/\(y6 (wy.getD k.toNat [])).1.2.2.2.1=v0/\j8 ((v0,v1,()),al,od,wy.take k.toNat++wy.drop (k+1).toNat,()) (y6 (wy.getD k.toNat [])).1.2.2.1=true) ->
      w8 ((v0,v1,()),al,od,wy,()) k bC=(((v0,v1,()),al,od,wy.take k.toNat++wy.drop (k+1).toNat,()),0):=λ a b c d=>by
    rw [CV a b c]; exact congrArg (λ x=>(x,(0:Int))) (La d)
  have pre:0<=k/\k<(wy.length:Int)->(y6 (wy.getD k.toNat [])).2.1=0->(y6 (wy.getD k.toNat [])).1.2.2.2.1=v0->j8 ((v0,v1,()),al,od,wy.take k.toNat++wy.drop (k+1).toNat,()) (y6 (wy.getD k.toNat [])).1.2.2.1=true->xP ((v0,v1,()),al,od,wy.take k.toNat++wy.drop (k+1).toNat,()) (y6 (wy.getD k.toNat [])).1:=λ h h1 h3 h2 =>
    (hq.note _ (by show wy.getD k.toNat []∈wy; rw [aAb,aAf (by omega)]; exact aCn _) h1 h3 (by rw [j8.eq_1] at h2 ⊢; exact h2)).drop
  refine ⟨λ a=>key (_,_) (RQ a),λ a=>⟨G6.2 ⟨by omega,by omega⟩,λ _=>⟨λ b=>key (_,_) (TY (by simpa using a) b),λ b=>?_⟩⟩⟩;have a:¬ I4 bC 1 3=false:=by simpa using a
  have b:¬ I4 k 0 ((wy.length:Int) - 1)=false:=by simpa using b
  have hk:=dy b;refine ⟨λ c=>⟨λ d=>key (_,_) (TX a b c d),λ d=>⟨hk,λ _=>⟨λ _=>⟨by rw [jD]; omega,λ _=>key (_,_) (Mg a b c d)⟩,λ e=>absurd c e⟩⟩⟩,λ c=>⟨hk,λ _=>⟨λ e=>absurd e c,λ _=>⟨G6.2 ⟨by omega,by omega⟩,λ _=>⟨⟨by omega,by omega,by omega⟩,λ _=>⟨λ d=>⟨λ e=>⟨λ f=>⟨hq.H8,λ _=>⟨λ g=>⟨pre hk e f g,λ _=>key (_,_) (yes a b c d e f g)⟩,λ g=>key (_,_) (no a b c (λ h=>by rw [h.2.2.2] at g; cases g))⟩⟩,λ f=>key (_,_) (no a b c (λ h=>f h.2.2.1))⟩,λ e=>key (_,_) (no a b c (λ h=>e h.2.1))⟩,λ d=>key (_,_) (no a b c (λ h=>d h.1))⟩⟩⟩⟩⟩⟩
abbrev wC (m:Fg):d9:=(m.1,m.2.1.map rdP,m.2.2)
abbrev vK (w:d9):Fg:=(w.1,w.2.1.map toM,w.2.2)
theorem Zv (w:d9):wC (vK w)=w:=by
  show (w.1,(w.2.1.map toM).map rdP,w.2.2)=w;rw [aHm,show (rdP ∘ toM)=id from rfl,List.map_id]
structure zr (w:d9):Prop where
  H8:w.2.1.length<=6
  Wk:∀ i:Nat,(w.2.1.getD i g8).2.1.length<=5864062014805
  late:∀ i:Nat,(w.2.1.getD i g8).2.2.1.2.1.length<=1048576
def OF:r9:={ ps:=[.rw wF],rs:=[f7],pre:=λ x=>(x.1:Fg)=vK (wC x.1)/\zr (wC x.1)/\¬ (P7 (wC x.1)).2.1≠0,fn:=λ _=>(0,()),out:=λ x=>(vK (C0 (wC x.1)),()) }
noncomputable def yy:Env:={ P:=Tryz.prog,tt:=ttW,E3:=[(47,zB),(53,Ck),(31,Bz),(32,Hn)],res:=[Go.ResultVar.tmp 2],rs:=[Ty.int IntKind.i64],ps:=[PK.rw wF],D5:=[(4,[(0,none),(3,none),(4,none),(18,none),(19,none)]),(16,[(0,none),(4,none),(7,none),(67,none),(68,none)]),(22,[(0,none),(4,none),(7,none),(9,none),(10,none),(11,none),(67,none),(68,none),(86,none),(87,none),(88,none)]),(998049,[(6,some K5)]),(998014,[(4,some K5)])],nt:=139 }
theorem Dx:B8 yy:=C4 Oj ⟨Dq,US,Lv,Ux,trivial⟩
theorem Dy:D7 yy Tryz.f25:=⟨rfl,rfl⟩
theorem c3s (ai:Int) (af:Int) (ab:List N3) (ae:List yY) (aa:List yY):exec yy 1000 [.code (d8 Tryz.prog 25)] (w9 OF.ps ((((ai,af,()),ab,ae,aa,()),()))) =
  .ctL (f9 (d8 Tryz.prog 25) 4) (St.mk [(0,AV.ptr 2000000 []),(3,AV.val U8 (0:Int)),(4,AV.val K5 []),(18,AV.val f7 (↑(List.length ab):Int)),(19,AV.val f7 (0:Int))] [(2000000,g9.var wF ((ai,af,()),ab,ae,aa,()))]):=by kernel_rfl
def Mh (v3:Int) (v4:List (Int×yY×Unit)) (vy:Int) (vw:Int) (az:Int) (an:Int) (aj:List N3) (ak:List yY) (ah:List yY):St:=St.mk [(0,AV.ptr 2000000 []),(3,AV.val U8 v3),(4,AV.val K5 v4),(18,AV.val f7 vy),(19,AV.val f7 vw)] [(2000000,g9.var wF ((az,an,()),aj,ak,ah,()))]
theorem b9F (v3:Int) (v4:List (Int×yY×Unit)) (vy:Int) (vw:Int) (az:Int) (an:Int) (aj:List N3) (ak:List yY) (ah:List yY):exec yy 1000 (.code (f9 (d8 Tryz.prog 25) 4).1::.inLoop (f9 (d8 Tryz.prog 25) 4).1::(f9 (d8 Tryz.prog 25) 4).2) (Mh v3 v4 vy vw az an aj ak ah) =
  cond (decide (vw<vy)) (.f8 (List.length (List.map (rdV vM) aj)<=6) (cond (j8 ((az,an,()),List.map (rdV vM) aj,ak,ah,()) vw) (.f8 ((0:Int)<=vw/\vw<(↑(List.length aj):Int)) (cond (decide ((↑(List.length v4):Int)<(↑(List.length (Prod.snd (List.getD aj (Int.toNat vw) (false,(1,[],[]),((0:Int),[],()),((0:Int),[],()),((0:Int),[],()),())).2.1).1):Int))) (.f8 (w4 IntKind.i64 (vw+(1:Int))) (.ctL (f9 (d8 Tryz.prog 25) 4) (St.mk [(0,AV.ptr 2000000 []),(3,AV.val U8 v3),(4,AV.val K5 (Prod.snd (List.getD aj (Int.toNat vw) (false,(1,[],[]),((0:Int),[],()),((0:Int),[],()),((0:Int),[],()),())).2.1).1),(18,AV.val f7 vy),(19,AV.val f7 (vw+(1:Int)))] [(2000000,g9.var wF ((az,an,()),List.set aj (Int.toNat vw) (Prod.fst (List.getD aj (Int.toNat vw) (false,(1,[],[]),((0:Int),[],()),((0:Int),[],()),((0:Int),[],()),())),(0,Prod.fst (Prod.snd (List.getD aj (Int.toNat vw) (false,(1,[],[]),((0:Int),[],()),((0:Int),[],()),((0:Int),[],()),())).2.1),[]),Prod.snd (List.getD aj (Int.toNat vw) (false,(1,[],[]),((0:Int),[],()),((0:Int),[],()),((0:Int),[],()),())).2),ak,ah,()))]))) (.f8 (w4 IntKind.i64 (vw+(1:Int))) (.ctL (f9 (d8 Tryz.prog 25) 4) (St.mk [(0,AV.ptr 2000000 []),(3,AV.val U8 v3),(4,AV.val K5 v4),(18,AV.val f7 vy),(19,AV.val f7 (vw+(1:Int)))] [(2000000,g9.var wF ((az,an,()),aj,ak,ah,()))]))))) (.f8 ((0:Int)<=vw) (.f8 (w4 IntKind.i64 (vw+(1:Int))) (.ctL (f9 (d8 Tryz.prog 25) 4) (St.mk [(0,AV.ptr 2000000 []),(3,AV.val U8 (bOr IntKind.u8 v3 (U2 IntKind.u8 an (IntKind.wrap IntKind.u8 ((1:Int)*(2:Int)^min (Int.toNat vw) (IntKind.bits IntKind.u8)))))),(4,AV.val K5 v4),(18,AV.val f7 vy),(19,AV.val f7 (vw+(1:Int)))] [(2000000,g9.var wF ((az,an,()),aj,ak,ah,()))])))))) (.f8 (True) (cond (decide (Prod.fst (T9 (az,an,()) v3 (0:Int)).2≠(0:Int))) (.ret ((Prod.fst (T9 (az,an,()) v3 (0:Int)).2,((az,an,()),aj,ak,ah,()),()))) (.ctL (f9 (d8 Tryz.prog 25) 16) (St.mk [(0,AV.ptr 2000000 []),(4,AV.val K5 v4),(7,AV.ptr 7 []),(67,AV.val f7 (↑(List.length aj):Int)),(68,AV.val f7 (0:Int))] [(7,g9.var View (T9 (az,an,()) v3 (0:Int)).1),(2000000,g9.var wF ((az,an,()),aj,ak,ah,()))])))):=by kernel_rfl
def MQ (v4:List (Int×yY×Unit)) (wH:Int) (vB:Int) (cP:Int) (bt:Int) (az:Int) (an:Int) (aj:List N3) (ak:List yY) (ah:List yY):St:=St.mk [(0,AV.ptr 2000000 []),(4,AV.val K5 v4),(7,AV.ptr 7 []),(67,AV.val f7 wH),(68,AV.val f7 vB)] [(7,g9.var View (cP,bt,())),(2000000,g9.var wF ((az,an,()),aj,ak,ah,()))]
theorem b8k (v4:List (Int×yY×Unit)) (wH:Int) (vB:Int) (cP:Int) (bt:Int) (az:Int) (an:Int) (aj:List N3) (ak:List yY) (ah:List yY):exec yy 1000 (.code (f9 (d8 Tryz.prog 25) 16).1::.inLoop (f9 (d8 Tryz.prog 25) 16).1::(f9 (d8 Tryz.prog 25) 16).2) (MQ v4 wH vB cP bt az an aj ak ah) =
  let q1:=(List.getD aj (Int.toNat vB) (false,(1,[],[]),((0:Int),[],()),((0:Int),[],()),((0:Int),[],()),())); let q2:=K5; let q0:=(Ty.pair Ty.bool (Ty.pair (Ty.D4 o7) (Ty.pair T1 (Ty.pair (Ty.pair f7 (Ty.pair q2 Ty.unit)) (Ty.pair (Ty.pair f7 (Ty.pair q2 Ty.unit)) Ty.unit))))); let q3:=(↑(List.length q1.2.1.2.1):Int); let q4:=View; let q5:=(Ty.pair q4 (Ty.pair (Ty.d0 true q0) (Ty.pair (Ty.d0 true Ty.str) (Ty.pair (Ty.d0 true Ty.str) Ty.unit)))); cond (decide (vB<wH)) (.f8 ((0:Int)<=vB/\vB<(↑(List.length aj):Int)) (.f8 (List.length (List.map (rdV q0) aj)<=6) (cond (j8 ((az,an,()),List.map (rdV q0) aj,ak,ah,()) vB) (.f8 ((0:Int)<=q3/\q3<=(↑(List.length v4):Int)/\(↑(List.length v4):Int)<=(↑(List.length v4):Int)) (.ctL (f9 (d8 Tryz.prog 25) 22) (St.mk [(0,AV.ptr 2000000 []),(4,AV.val q2 v4),(7,AV.ptr 7 []),(9,AV.val f7 vB),(10,AV.ptr 2000000 [Step.m0 1,Step.idx vB]),(11,AV.val f7 (0:Int)),(67,AV.val f7 wH),(68,AV.val f7 vB),(86,AV.val q2 (o6 q3 (↑(List.length v4):Int) v4)),(87,AV.val f7 (↑(List.length (o6 q3 (↑(List.length v4):Int) v4)):Int)),(88,AV.val f7 (0:Int))] [(7,g9.var q4 (cP,bt,())),(2000000,g9.var q5 ((az,an,()),aj,ak,ah,()))]))) (.f8 (w4 IntKind.i64 (vB+(1:Int))) (.ctL (f9 (d8 Tryz.prog 25) 16) (St.mk [(0,AV.ptr 2000000 []),(4,AV.val q2 v4),(7,AV.ptr 7 []),(67,AV.val f7 wH),(68,AV.val f7 (vB+(1:Int)))] [(7,g9.var q4 (cP,bt,())),(2000000,g9.var q5 ((az,an,()),List.set aj (Int.toNat vB) (Prod.fst q1,Prod.fst q1.2,Prod.fst q1.2.2,Prod.fst q1.2.2.2,((0:Int),[],()),Prod.snd q1.2.2.2.2),ak,ah,()))])))))) (.ret (((0:Int),((cP,bt,()),aj,[],ah,()),()))):=by kernel_rfl
def MR (v4:List (Int×yY×Unit)) (v9:Int) (aR:Int) (v11:Int) (wH:Int) (vB:Int) (zw:List (Int×yY×Unit)) (v87:Int) (xh:Int) (cP:Int) (bt:Int) (az:Int) (an:Int) (aj:List N3) (ak:List yY) (ah:List yY):St:=St.mk [(0,AV.ptr 2000000 []),(4,AV.val K5 v4),(7,AV.ptr 7 []),(9,AV.val f7 v9),(10,AV.ptr 2000000 [Step.m0 1,Step.idx aR]),(11,AV.val f7 v11),(67,AV.val f7 wH),(68,AV.val f7 vB),(86,AV.val K5 zw),(87,AV.val f7 v87),(88,AV.val f7 xh)] [(7,g9.var View (cP,bt,())),(2000000,g9.var wF ((az,an,()),aj,ak,ah,()))]
theorem b8j (v4:List (Int×yY×Unit)) (v9:Int) (aR:Int) (v11:Int) (wH:Int) (vB:Int) (zw:List (Int×yY×Unit)) (v87:Int) (xh:Int) (cP:Int) (bt:Int) (az:Int) (an:Int) (aj:List N3) (ak:List yY) (ah:List yY):exec yy 1000 (.code (f9 (d8 Tryz.prog 25) 22).1::.inLoop (f9 (d8 Tryz.prog 25) 22).1::(f9 (d8 Tryz.prog 25) 22).2) (MR v4 v9 aR v11 wH vB zw v87 xh cP bt az an aj ak ah) =
  let q3:=(false,(1,[],[]),((0:Int),[],()),((0:Int),[],()),((0:Int),[],()),()); let q1:=(List.set aj (Int.toNat aR) (Prod.fst (List.getD aj (Int.toNat aR) q3),(1,v4,[]),Prod.snd (List.getD aj (Int.toNat aR) q3).2)); let q0:=(List.getD q1 (Int.toNat aR) q3); let q4:=q0.2.2.1.2.1; let q2:=(↑(List.length q4):Int); let q6:=K5; let q7:=View; let q5:=(Ty.pair q7 (Ty.pair (Ty.d0 true (Ty.pair Ty.bool (Ty.pair (Ty.D4 o7) (Ty.pair T1 (Ty.pair (Ty.pair f7 (Ty.pair q6 Ty.unit)) (Ty.pair (Ty.pair f7 (Ty.pair q6 Ty.unit)) Ty.unit)))))) (Ty.pair (Ty.d0 true Ty.str) (Ty.pair (Ty.d0 true Ty.str) Ty.unit)))); let q8:=(2000000,g9.var q5 ((az,an,()),aj,ak,ah,())); cond (decide (xh<v87)) (.f8 ((0:Int)<=xh/\xh<(↑(List.length zw):Int)) (cond (decide (Prod.fst (List.getD zw (Int.toNat xh) ((0:Int),[],()))=v9)) (.f8 (w4 IntKind.i64 (v11+(1:Int))) (.f8 (w4 IntKind.i64 (xh+(1:Int))) (.ctL (f9 (d8 Tryz.prog 25) 22) (St.mk [(0,AV.ptr 2000000 []),(4,AV.val q6 v4),(7,AV.ptr 7 []),(9,AV.val f7 v9),(10,AV.ptr 2000000 [Step.m0 1,Step.idx aR]),(11,AV.val f7 (v11+(1:Int))),(67,AV.val f7 wH),(68,AV.val f7 vB),(86,AV.val q6 zw),(87,AV.val f7 v87),(88,AV.val f7 (xh+(1:Int)))] [(7,g9.var q7 (cP,bt,())),q8])))) (.f8 (w4 IntKind.i64 (xh+(1:Int))) (.ctL (f9 (d8 Tryz.prog 25) 22) (St.mk [(0,AV.ptr 2000000 []),(4,AV.val q6 v4),(7,AV.ptr 7 []),(9,AV.val f7 v9),(10,AV.ptr 2000000 [Step.m0 1,Step.idx aR]),(11,AV.val f7 v11),(67,AV.val f7 wH),(68,AV.val f7 vB),(86,AV.val q6 zw),(87,AV.val f7 v87),(88,AV.val f7 (xh+(1:Int)))] [(7,g9.var q7 (cP,bt,())),q8]))))) (.f8 (List.length v4<=5864062014805) (.f8 (((0:Int)<=if q2<v11 then q2 else v11)/\(if q2<v11 then q2 else v11)<=q2/\q2<=q2) (.f8 (List.length (o6 (if q2<v11 then q2 else v11) q2 q4)<=1048576) (.f8 (w4 IntKind.i64 (vB+(1:Int))) (.ctL (f9 (d8 Tryz.prog 25) 16) (St.mk [(0,AV.ptr 2000000 []),(4,AV.val q6 v4),(7,AV.ptr 7 []),(67,AV.val f7 wH),(68,AV.val f7 (vB+(1:Int)))] [(7,g9.var q7 (cP,bt,())),(2000000,g9.var q5 ((az,an,()),List.set (List.set (List.set q1 (Int.toNat aR) (Prod.fst q0,Prod.fst q0.2,((0:Int),o6 (if q2<v11 then q2 else v11) q2 q4,()),Prod.snd q0.2.2)) (Int.toNat aR) (Prod.fst (List.getD (List.set q1 (Int.toNat aR) (Prod.fst q0,Prod.fst q0.2,((0:Int),o6 (if q2<v11 then q2 else v11) q2 q4,()),Prod.snd q0.2.2)) (Int.toNat aR) q3),Prod.fst (List.getD (List.set q1 (Int.toNat aR) (Prod.fst q0,Prod.fst q0.2,((0:Int),o6 (if q2<v11 then q2 else v11) q2 q4,()),Prod.snd q0.2.2)) (Int.toNat aR) q3).2,Prod.fst (List.getD (List.set q1 (Int.toNat aR) (Prod.fst q0,Prod.fst q0.2,((0:Int),o6 (if q2<v11 then q2 else v11) q2 q4,()),Prod.snd q0.2.2)) (Int.toNat aR) q3).2.2,((0:Int),[],()),Prod.snd (List.getD (List.set q1 (Int.toNat aR) (Prod.fst q0,Prod.fst q0.2,((0:Int),o6 (if q2<v11 then q2 else v11) q2 q4,()),Prod.snd q0.2.2)) (Int.toNat aR) q3).2.2.2)) (Int.toNat aR) (Prod.fst (List.getD (List.set (List.set q1 (Int.toNat aR) (Prod.fst q0,Prod.fst q0.2,((0:Int),o6 (if q2<v11 then q2 else v11) q2 q4,()),Prod.snd q0.2.2)) (Int.toNat aR) (Prod.fst (List.getD (List.set q1 (Int.toNat aR) (Prod.fst q0,Prod.fst q0.2,((0:Int),o6 (if q2<v11 then q2 else v11) q2 q4,()),Prod.snd q0.2.2)) (Int.toNat aR) q3),Prod.fst (List.getD (List.set q1 (Int.toNat aR) (Prod.fst q0,Prod.fst q0.2,((0:Int),o6 (if q2<v11 then q2 else v11) q2 q4,()),Prod.snd q0.2.2)) (Int.toNat aR) q3).2,Prod.fst (List.getD (List.set q1 (Int.toNat aR) (Prod.fst q0,Prod.fst q0.2,((0:Int),o6 (if q2<v11 then q2 else v11) q2 q4,()),Prod.snd q0.2.2)) (Int.toNat aR) q3).2.2,((0:Int),[],()),Prod.snd (List.getD (List.set q1 (Int.toNat aR) (Prod.fst q0,Prod.fst q0.2,((0:Int),o6 (if q2<v11 then q2 else v11) q2 q4,()),Prod.snd q0.2.2)) (Int.toNat aR) q3).2.2.2)) (Int.toNat aR) q3),Prod.fst (List.getD (List.set (List.set q1 (Int.toNat aR) (Prod.fst q0,Prod.fst q0.2,((0:Int),o6 (if q2<v11 then q2 else v11) q2 q4,()),Prod.snd q0.2.2)) (Int.toNat aR) (Prod.fst (List.getD (List.set q1 (Int.toNat aR) (Prod.fst q0,Prod.fst q0.2,((0:Int),o6 (if q2<v11 then q2 else v11) q2 q4,()),Prod.snd q0.2.2)) (Int.toNat aR) q3),Prod.fst (List.getD (List.set q1 (Int.toNat aR) (Prod.fst q0,Prod.fst q0.2,((0:Int),o6 (if q2<v11 then q2 else v11) q2 q4,()),Prod.snd q0.2.2)) (Int.toNat aR) q3).2,Prod.fst (List.getD (List.set q1 (Int.toNat aR) (Prod.fst q0,Prod.fst q0.2,((0:Int),o6 (if q2<v11 then q2 else v11) q2 q4,()),Prod.snd q0.2.2)) (Int.toNat aR) q3).2.2,((0:Int),[],()),Prod.snd (List.getD (List.set q1 (Int.toNat aR) (Prod.fst q0,Prod.fst q0.2,((0:Int),o6 (if q2<v11 then q2 else v11) q2 q4,()),Prod.snd q0.2.2)) (Int.toNat aR) q3).2.2.2)) (Int.toNat aR) q3).2,Prod.fst (List.getD (List.set (List.set q1 (Int.toNat aR) (Prod.fst q0,Prod.fst q0.2,((0:Int),o6 (if q2<v11 then q2 else v11) q2 q4,()),Prod.snd q0.2.2)) (Int.toNat aR) (Prod.fst (List.getD (List.set q1 (Int.toNat aR) (Prod.fst q0,Prod.fst q0.2,((0:Int),o6 (if q2<v11 then q2 else v11) q2 q4,()),Prod.snd q0.2.2)) (Int.toNat aR) q3),Prod.fst (List.getD (List.set q1 (Int.toNat aR) (Prod.fst q0,Prod.fst q0.2,((0:Int),o6 (if q2<v11 then q2 else v11) q2 q4,()),Prod.snd q0.2.2)) (Int.toNat aR) q3).2,Prod.fst (List.getD (List.set q1 (Int.toNat aR) (Prod.fst q0,Prod.fst q0.2,((0:Int),o6 (if q2<v11 then q2 else v11) q2 q4,()),Prod.snd q0.2.2)) (Int.toNat aR) q3).2.2,((0:Int),[],()),Prod.snd (List.getD (List.set q1 (Int.toNat aR) (Prod.fst q0,Prod.fst q0.2,((0:Int),o6 (if q2<v11 then q2 else v11) q2 q4,()),Prod.snd q0.2.2)) (Int.toNat aR) q3).2.2.2)) (Int.toNat aR) q3).2.2,Prod.fst (List.getD (List.set (List.set q1 (Int.toNat aR) (Prod.fst q0,Prod.fst q0.2,((0:Int),o6 (if q2<v11 then q2 else v11) q2 q4,()),Prod.snd q0.2.2)) (Int.toNat aR) (Prod.fst (List.getD (List.set q1 (Int.toNat aR) (Prod.fst q0,Prod.fst q0.2,((0:Int),o6 (if q2<v11 then q2 else v11) q2 q4,()),Prod.snd q0.2.2)) (Int.toNat aR) q3),Prod.fst (List.getD (List.set q1 (Int.toNat aR) (Prod.fst q0,Prod.fst q0.2,((0:Int),o6 (if q2<v11 then q2 else v11) q2 q4,()),Prod.snd q0.2.2)) (Int.toNat aR) q3).2,Prod.fst (List.getD (List.set q1 (Int.toNat aR) (Prod.fst q0,Prod.fst q0.2,((0:Int),o6 (if q2<v11 then q2 else v11) q2 q4,()),Prod.snd q0.2.2)) (Int.toNat aR) q3).2.2,((0:Int),[],()),Prod.snd (List.getD (List.set q1 (Int.toNat aR) (Prod.fst q0,Prod.fst q0.2,((0:Int),o6 (if q2<v11 then q2 else v11) q2 q4,()),Prod.snd q0.2.2)) (Int.toNat aR) q3).2.2.2)) (Int.toNat aR) q3).2.2.2,((0:Int),[],()),Prod.snd (List.getD (List.set (List.set q1 (Int.toNat aR) (Prod.fst q0,Prod.fst q0.2,((0:Int),o6 (if q2<v11 then q2 else v11) q2 q4,()),Prod.snd q0.2.2)) (Int.toNat aR) (Prod.fst (List.getD (List.set q1 (Int.toNat aR) (Prod.fst q0,Prod.fst q0.2,((0:Int),o6 (if q2<v11 then q2 else v11) q2 q4,()),Prod.snd q0.2.2)) (Int.toNat aR) q3),Prod.fst (List.getD (List.set q1 (Int.toNat aR) (Prod.fst q0,Prod.fst q0.2,((0:Int),o6 (if q2<v11 then q2 else v11) q2 q4,()),Prod.snd q0.2.2)) (Int.toNat aR) q3).2,Prod.fst (List.getD (List.set q1 (Int.toNat aR) (Prod.fst q0,Prod.fst q0.2,((0:Int),o6 (if q2<v11 then q2 else v11) q2 q4,()),Prod.snd q0.2.2)) (Int.toNat aR) q3).2.2,((0:Int),[],()),Prod.snd (List.getD (List.set q1 (Int.toNat aR) (Prod.fst q0,Prod.fst q0.2,((0:Int),o6 (if q2<v11 then q2 else v11) q2 q4,()),Prod.snd q0.2.2)) (Int.toNat aR) q3).2.2.2)) (Int.toNat aR) q3).2.2.2.2),ak,ah,()))])))))):=by kernel_rfl
theorem KO {α:Type} {l:List α} {a:Nat} (h:a<=l.length):o6 (a:Int) (l.length:Int) l=l.drop a:=by
  unfold o6;rw [aAw (by rw [aAo]; omega)];congr 1
theorem Xl (a b:Nat):(if (a:Int)<(b:Int) then (a:Int) else (b:Int))=((min b a:Nat):Int):=by split<;>omega
attribute [local irreducible] j8 T9 C0 in
theorem UX:OF.Valid Tryz.prog 25:=by
  refine r9.p7 Dx rfl rfl Tryz.func25 (c:=d8 Tryz.prog 25) rfl rfl Dy rfl ?_;rintro ⟨⟨⟨(v0:Int),(v1:Int),⟨⟩⟩,(al0:List N3),(od:List yY),(wy:List yY),⟨⟩⟩,⟨⟩⟩ ⟨he,(bc:zr (wC ((v0,v1,()),al0,od,wy,()))),(br:¬ (P7 (wC ((v0,v1,()),al0,od,wy,()))).2.1≠0)⟩ -
  have he:al0=(al0.map rdP).map toM:=congrArg (λ m:Fg=>m.2.1) he;obtain ⟨w,hw⟩:∃ w:d9,w=wC ((v0,v1,()),al0,od,wy,()):=⟨_,rfl⟩;rw [<- hw] at bc br;have kj:w.1=(v0,v1,()):=by rw [hw]
  have ki:w.2.1=al0.map rdP:=by rw [hw]
  have dx:∀ (al:List N3) (i:Nat),al.length=w.2.1.length->((al.map rdP).getD i g8).1=(w.2.1.getD i g8).1->∀ r,j8 ((v0,v1,()),al.map rdP,r) i=j8 w i:=λ al i h1 h2 r=>by
    have:=b7t (v:=(v0,v1,())) (al':=al.map rdP) (al:=w.2.1) (r:=w.2.2) (r':=r) (p:=(i:Int)) (by rw [aAl]; exact h1) h2;rw [this,show ((v0,v1,()),w.2.1,w.2.2)=w by rw [hw]]
  have nA:al0.length=w.2.1.length:=by rw [ki,aAl]
  have nE:wU w al0:=by
    have:=wU.start w;rw [ki,<- he] at this;exact this
  have eo:=QL (w:=w) bc.Wk;refine j6 (n:=1000) Dx Dy ?_;refine i7 (c3s v0 v1 al0 od wy) ?_;have eP:vK (C0 (wC ((v0,v1,()),al0,od,wy,())))=vK (C0 w):=by rw [hw]
  show Go.Ex.Reach yy Tryz.f25 ((0:Int),()) (vK (C0 (wC ((v0,v1,()),al0,od,wy,()))),()) (.code (f9 (d8 Tryz.prog 25) 4).1::.inLoop (f9 (d8 Tryz.prog 25) 4).1::(f9 (d8 Tryz.prog 25) 4).2) (Mh (E7 w 0) (J7 w 0) (al0.length:Int) ((0:Nat):Int) v0 v1 al0 od wy);rw [eP,nA];refine Reach.N4 Dx Dy (λ i:Nat×List N3=>Mh (E7 w i.1) (J7 w i.1) (w.2.1.length:Int) (i.1:Int) v0 v1 i.2 od wy) (λ i=>i.1<=w.2.1.length/\wU w i.2)
    (λ i=>w.2.1.length - i.1) 1000 (λ _=>⟨w6 rfl,w6 rfl⟩) ?_ (0,al0) ⟨aAr _,nE⟩
  rintro ⟨i,al⟩ ⟨k1,hi⟩ - ih;have k1:i<=w.2.1.length:=k1;have hi:wU w al:=hi;have ih:∀ al',i<w.2.1.length->wU w al'->_:=λ al' h h2=>ih (i+1,al') ⟨by show i+1<=w.2.1.length; omega,h2⟩ (by show w.2.1.length - (i+1)<w.2.1.length - i; omega);refine i7 (b9F ..) ?_;have e1:((i:Nat):Int)+1=((i+1:Nat):Int):=by omega
  have lI:=bc.H8;have hA:=dx al i hi.len (by rw [QU,hi.rd i]);simp only [j7,Tree.holds,e1,sL];refine ⟨λ c=>⟨by show (al.map rdP).length<=6; rw [aAl]; have:=hi.len; omega,λ _=>⟨λ a=>⟨by have:=hi.len; omega,λ _=>⟨λ b=>⟨G6.2 ⟨by omega,by omega⟩,λ _=>?_⟩,λ b=>⟨G6.2 ⟨by omega,by omega⟩,λ _=>?_⟩⟩⟩,λ a=>⟨by omega,λ _=>⟨G6.2 ⟨by omega,by omega⟩,λ _=>?_⟩⟩⟩⟩,λ c=>⟨λ d=>?_,λ d=>?_⟩⟩
  . have a':j8 w i=true:=(hA _).symm.trans a;have hl:(al.getD i dM).2.1.2.1=(w.2.1.getD i g8).2.1:=congrArg (λ x:o5=>x.2.1) (hi.rd i);have b':(J7 w i).length<(w.2.1.getD i g8).2.1.length:=by rw [<- hl]; exact_mod_cast b
    have:=ih _ (by omega) (hi.wa (n:=0) a');rw [show E7 w (i+1)=E7 w i from if_pos a',show J7 w (i+1)=(al.getD i dM).2.1.2.1 by rw [J7,if_pos ⟨a',b'⟩,hl]] at this;exact this
  . have a':j8 w i=true:=(hA _).symm.trans a;have hl:(al.getD i dM).2.1.2.1=(w.2.1.getD i g8).2.1:=congrArg (λ x:o5=>x.2.1) (hi.rd i);have b':¬ (J7 w i).length<(w.2.1.getD i g8).2.1.length:=by rw [<- hl]; intro h; exact b (by exact_mod_cast h)
    have:=ih al (by omega) hi;rw [show E7 w (i+1)=E7 w i from if_pos a',show J7 w (i+1)=J7 w i by rw [J7,if_neg (λ h=>b' h.2)]] at this;exact this
  . have a':j8 w i=false:=(hA _).symm.trans a;have:=ih al (by omega) hi;rw [show E7 w (i+1)=bOr .u8 (E7 w i) (U2 .u8 w.1.2.1 (IntKind.wrap .u8 (1*2^min i IntKind.u8.bits))) from if_neg (by rw [a']; decide),show J7 w (i+1)=J7 w i by rw [J7,if_neg (λ h=>by rw [a'] at h; cases h.1)],kj] at this;exact this
  . obtain rfl:i=w.2.1.length:=by omega
    exact absurd (by rw [P7,kj]; exact d) br
  obtain rfl:i=w.2.1.length:=by omega
  obtain ⟨L,hL⟩:∃ L,L=J7 w w.2.1.length:=⟨_,rfl⟩;have hg:∀ i:Nat,j8 w i=true->i<w.2.1.length->(w.2.1.getD i g8).2.1.length<=L.length:=λ i h h2=>by rw [hL]; exact Fz h h2
  have oR:L.length<=5864062014805:=by rw [hL]; exact eo _
  rw [<- hL];obtain ⟨z0,z1,hz⟩:∃ z0 z1,(T9 (v0,v1,()) (E7 w w.2.1.length) 0).1=(z0,z1,()):=⟨_,_,rfl⟩;have eS:C0 w=((z0,z1,()),w.2.1.mapIdx (vD w L),[],wy,()):=by
    unfold C0;rw [<- hL,P7,kj,hz,hw]
  rw [eS];suffices go:Go.Ex.Reach yy Tryz.f25 ((0:Int),()) (vK ((z0,z1,()),w.2.1.mapIdx (vD w L),[],wy,()),()) (.code (f9 (d8 Tryz.prog 25) 16).1::.inLoop (f9 (d8 Tryz.prog 25) 16).1::(f9 (d8 Tryz.prog 25) 16).2) (MQ L (w.2.1.length:Int) ((0:Nat):Int) z0 z1 v0 v1 al od wy) by
    rw [<- hi.len] at go;have h0:(T9 (v0,v1,()) (E7 w w.2.1.length) 0).1.1=z0:=by rw [hz]
    have h1:(T9 (v0,v1,()) (E7 w w.2.1.length) 0).1.2.1=z1:=by rw [hz]
    subst h0; subst h1;rw [hi.len] at go ⊢;exact go
  refine Reach.N4 Dx Dy (λ i:Nat×List N3=>MQ L (w.2.1.length:Int) (i.1:Int) z0 z1 v0 v1 i.2 od wy) (λ i=>i.1<=w.2.1.length/\xr w L i.1 i.2)
    (λ i=>w.2.1.length - i.1) 1000 (λ _=>⟨w6 rfl,w6 rfl⟩) ?_ (0,al) ⟨aAr _,hi.next L⟩
  clear ih;rintro ⟨k,al⟩ ⟨k1,hi⟩ - ih;have k1:k<=w.2.1.length:=k1;have hi:xr w L k al:=hi;have ih:∀ al',k<w.2.1.length->xr w L (k+1) al'->_:=λ al' h h2=>ih (k+1,al') ⟨by show k+1<=w.2.1.length; omega,h2⟩ (by show w.2.1.length - (k+1)<w.2.1.length - k; omega);refine i7 (b8k ..) ?_;have e2:((k:Nat):Int)+1=((k+1:Nat):Int):=by omega
  have hA:=dx al k hi.len (hi.act k);have hl:(al.getD k dM).2.1.2.1=(w.2.1.getD k g8).2.1:=congrArg (λ x:o5=>x.2.1) (hi.rd k (aAk _));have fy:=hi.len;simp only [j7,Tree.holds,e2,sL];refine ⟨λ c=>⟨⟨by omega,by omega⟩,λ _=>⟨by show (al.map rdP).length<=6; rw [aAl]; omega,λ _=>⟨λ a=>⟨?_,λ _=>?_⟩,λ a=>⟨G6.2 ⟨by omega,by omega⟩,λ _=>?_⟩⟩⟩⟩,λ c=>?_⟩
  . rw [hl];have:=hg k ((hA _).symm.trans a) (by omega);omega
  . have a':j8 w k=true:=(hA _).symm.trans a;have hb:=hg k a' (by omega);rw [hl,KO hb];obtain ⟨D,hD⟩:∃ D,D=L.drop (w.2.1.getD k g8).2.1.length:=⟨_,rfl⟩;have vq:D.length<=5864062014805:=by rw [hD,aAo]; omega
    rw [<- hD];suffices go:Go.Ex.Reach yy Tryz.f25 ((0:Int),()) (vK ((z0,z1,()),w.2.1.mapIdx (vD w L),[],wy,()),()) (.code (f9 (d8 Tryz.prog 25) 22).1::.inLoop (f9 (d8 Tryz.prog 25) 22).1::(f9 (d8 Tryz.prog 25) 22).2) (MR L (k:Int) (k:Int) ((countP k (D.take 0):Nat):Int) (w.2.1.length:Int) (k:Int) D (D.length:Int) ((0:Nat):Int) z0 z1 v0 v1 al od wy) by exact go
    refine Reach.N4 Dx Dy (λ j:Nat=>MR L (k:Int) (k:Int) ((countP k (D.take j):Nat):Int) (w.2.1.length:Int) (k:Int) D (D.length:Int) (j:Int) z0 z1 v0 v1 al od wy) (λ j=>j<=D.length)
      (λ j=>D.length - j) 1000 (λ _=>⟨w6 rfl,w6 rfl⟩) ?_ 0 (aAr _)
    rintro j k2 - ih2;have k2:j<=D.length:=k2;refine i7 (b8j ..) ?_;have e3:((j:Nat):Int)+1=((j+1:Nat):Int):=by omega
    have ie:countP k (D.take j)<=j:=aAx countP_le (by rw [aAn]; omega);have hG:∀ y:N3,(al.set k y).getD k (false,(1,[],[]),(0,[],()),(0,[],()),(0,[],()),())=y:=λ y=>by
      rw [aAb,aHh (by omega)]; rfl
    have hS:∀ y z:N3,(al.set k y).set k z=al.set k z:=λ y z=>List.set_set ..;have nB:(al.getD k dM).2.2.1.2.1.length<=1048576:=by
      have:=bc.late k;rw [<- hi.rd k (aAk _)] at this;exact this
    simp only [j7,Tree.holds,e3,hG,hS,Xl,sL];refine ⟨λ d=>⟨by omega,λ _=>⟨λ e=>⟨G6.2 ⟨by omega,by omega⟩,λ _=>⟨G6.2 ⟨by omega,by omega⟩,λ _=>?_⟩⟩,λ e=>⟨G6.2 ⟨by omega,by omega⟩,λ _=>?_⟩⟩⟩,λ d=>?_⟩
    . have:=ih2 (j+1) (by show j+1<=D.length; omega) (by show D.length - (j+1)<D.length - j; omega);rw [UA (show j<D.length by omega),if_pos e,Int.natCast_add] at this;exact this
    . have:=ih2 (j+1) (by show j+1<=D.length; omega) (by show D.length - (j+1)<D.length - j; omega);rw [UA (show j<D.length by omega),if_neg e,aDu] at this;exact this
    . obtain rfl:j=D.length:=by omega
      have hr:=hi.rd k (aAk _);simp only [dM] at nB hr;refine ⟨oR,λ _=>⟨⟨by omega,by omega,aDo _⟩,λ _=>⟨?_,λ _=>⟨⟨by omega,by omega⟩,λ _=>?_⟩⟩⟩⟩
      . rw [KO (Nat.min_le_right ..),aAo]; omega
      . rw [KO (Nat.min_le_right ..),aDp];have:=ih _ (by omega) hi.step;rw [show vD w L k (w.2.1.getD k g8)=((w.2.1.getD k g8).1,L,(0,(w.2.1.getD k g8).2.2.1.2.1.drop (min (countP k D) (w.2.1.getD k g8).2.2.1.2.1.length),()),(0,[],()),(0,[],()),()) from (if_pos a').trans (by rw [hD])] at this;rw [<- hr] at this;exact this
  . have a':j8 w k=false:=(hA _).symm.trans a;have:=ih _ (by omega) hi.step;rw [show vD w L k (w.2.1.getD k g8)=((w.2.1.getD k g8).1,(w.2.1.getD k g8).2.1,(w.2.1.getD k g8).2.2.1,(w.2.1.getD k g8).2.2.2.1,(0,[],()),()) from if_neg (by rw [a']; decide)] at this;have hs:=hi.same k (aAk _) a';simp only [dM] at hs;rw [hs];exact this
  . obtain rfl:k=w.2.1.length:=by omega
    have:=hi.fin;subst this;rfl
end Go.Proofs.YtijlnmgondibnaaGreatDoor
namespace Go.Proofs.YtijlnmgondibnaaGreatDoor
open Go.Ex
set_option maxRecDepth 100000
def yP (S:Nat->List u7) (O:List u7) (n:n8):Prop :=
  (n.1=1->(S n.2.1.toNat)[n.2.2.2.2.1.toNat]?=some n.2.2.2.2.2.2.1)/\(n.1=2->O[n.2.2.2.2.1.toNat]?=some n.2.2.2.2.2.2.1)
def AD (S:Nat->List u7) (O:List u7) (V:Int) (s:u7):Prop:=(y6 s).2.1=0->(y6 s).1.2.2.2.1<=V/\((y6 s).1.2.2.2.1=V->yP S O (y6 s).1)
structure Eg (said:Nat->List u7) (B:List C7) (S:Nat->List u7) (Q:List V9) (p:Nat) (x:o5) (m:Nat):Prop where
  le:m<=Q.length
  next:x.2.2.2.1.1=m
  wait:∀ q∈x.2.2.2.1.2.1,(R8 Q)[q.1.toNat]?=some q.2.1
  log:x.2.1=B++(Q.take m).map wZ
  from_:x.2.2.1=(((C9 p (Q.take m)).length:Int),(S p).drop (C9 p (Q.take m)).length,())
  ok:J4 x.2.2.1=0
structure Inv (said:Nat->List u7) (B:List C7) (S:Nat->List u7) (Q:List V9) (w:d9):Prop where
  H8:w.2.1.length<=6
  way:w.2.2.2.1.length<=60
  ord:w.2.2.1=R8 Q
  inQ:∀ x∈Q,x.1<w.2.1.length
  xI:∀ p,C9 p Q <+: S p
  short:∀ p,(S p).length<=16777215
  msg:∀ s∈w.2.2.2.1,AD S w.2.2.1 w.1.1 s
  rcv:∀ p:Nat,p<w.2.1.length->(w.2.1.getD p g8).2.2.2.2.1.1=(C9 p Q).length/\∀ q∈(w.2.1.getD p g8).2.2.2.2.1.2.1,(S p)[q.1.toNat]?=some q.2.1
  mem:∀ p:Nat,p<w.2.1.length->R5 w.1.2.1 p=true->(∃ m,Eg said B S Q p (w.2.1.getD p g8) m)/\said p=ofP p B++S p
  out:∀ p:Nat,p<w.2.1.length->R5 w.1.2.1 p=false->S p=[]/\ofP p B <+: said p
  Nf:∀ s∈B,0<=s.1/\s.1<(w.2.1.length:Int)
structure Y2 (P:n8->Prop) (w w':d9):Prop where
  view:w'.1=w.1
  all:w'.2.1=w.2.1
  ord:w'.2.2.1=w.2.2.1
  len:w.2.2.2.1.length<=60->w'.2.2.2.1.length<=60
  way:∀ s∈w'.2.2.2.1,s∈w.2.2.2.1\/∃ n:n8,y6 s=(n,0,())/\n.2.2.2.1=w.1.1/\P n
theorem Y2.refl {P:n8->Prop} (w:d9):Y2 P w w:=⟨rfl,rfl,rfl,id,λ _ h=>.inl h⟩
theorem Y2.trans {P:n8->Prop} {w w' w'':d9} (h:Y2 P w w') (h':Y2 P w' w''):Y2 P w w'' :=
  ⟨h'.view.trans h.view,h'.all.trans h.all,h'.ord.trans h.ord,λ e=>h'.len (h.len e),λ s hs=>by
    rcases h'.way s hs with h1|⟨n,h1,h2,h3⟩
    . exact h.way s h1
    . exact .inr ⟨n,h1,by rw [h2,h.view],h3⟩⟩
theorem Y2.one {P:n8->Prop} {w:d9} {k f t q:Int} {x:u7} (h:P (k,f,t,w.1.1,q,[0,0,0,0,0,0],x,())):Y2 P w (M7 w k f t q x):=by
  by_cases c:(V4 (k,f,t,w.1.1,q,[0,0,0,0,0,0],x,())).2.1=0/\(w.2.2.2.1.length:Int)<60
  . rw [CY c.1 c.2];refine ⟨rfl,rfl,rfl,λ _=>?_,λ s hs=>?_⟩
    . show (w.2.2.2.1++[_]).length<=60;rw [aAd];have:=c.2;simp only [aBn]; omega
    . rcases aAi.1 hs with hs|hs
      . exact .inl hs
      . rw [aBe] at hs;have hc:E8 (k,f,t,w.1.1,q,[0,0,0,0,0,0],x,())=0:=by
          by_cases hc:E8 (k,f,t,w.1.1,q,[0,0,0,0,0,0],x,())=0
          . exact hc
          . have:=c.1;rw [QQ hc] at this;exact absurd this hc
        rw [Fq hc] at hs;exact .inr ⟨_,by rw [hs]; exact LN hc rfl,rfl,h⟩
  . rw [CX c]; exact .refl w
theorem Inv.Ig {said:Nat->List u7} {B:List C7} {S:Nat->List u7} {Q:List V9} {w w':d9} (h:Inv said B S Q w) (hs:Y2 (yP S w.2.2.1) w w'):Inv said B S Q w':=by
  obtain ⟨h1,h2,h3,h4,h5,h6,h7,h8,h9,iz,kh⟩:=h;refine ⟨by rw [hs.all]; exact h1,hs.len h2,by rw [hs.ord]; exact h3,by rw [hs.all]; exact h4,h5,h6,?_,by rw [hs.all]; exact h8,by rw [hs.all,hs.view]; exact h9,by rw [hs.all,hs.view]; exact iz,by rw [hs.all]; exact kh⟩;intro s hm;rw [hs.view,hs.ord];rcases hs.way s hm with h|⟨n,e1,e2,e3⟩
  . exact h7 s h
  . intro _;rw [e1];exact ⟨by show n.2.2.2.1<=w.1.1; omega,λ _=>e3⟩
theorem Inv.F1 {said:Nat->List u7} {B:List C7} {S:Nat->List u7} {Q:List V9} {w:d9} (h:Inv said B S Q w) {p:Nat} {x:o5}
    (hr:p<w.2.1.length->x.2.2.2.2.1.1=(C9 p Q).length/\∀ q∈x.2.2.2.2.1.2.1,(S p)[q.1.toNat]?=some q.2.1)
    (hm:p<w.2.1.length->R5 w.1.2.1 p=true->∃ m,Eg said B S Q p x m):Inv said B S Q (w.1,w.2.1.set p x,w.2.2):=by
  obtain ⟨h1,h2,h3,h4,h5,h6,h7,h8,h9,iz,kh⟩:=h;have hl:(w.2.1.set p x).length=w.2.1.length:=aBj ..;refine ⟨by rw [hl]; exact h1,h2,h3,by rw [hl]; exact h4,h5,h6,h7,λ q hq=>?_,λ q hq hv=>?_,λ q hq hv=>?_,by show ∀ s∈B,0<=s.1/\s.1<((w.2.1.set p x).length:Int); rw [hl]; exact kh⟩
  . rw [hl] at hq;rw [K8]
    split
    . rename_i e; rw [<- e.1]; exact hr e.2
    . exact h8 q hq
  . rw [hl] at hq;rw [K8];refine ⟨?_,(h9 q hq hv).2⟩
    split
    . rename_i e; rw [<- e.1]; rw [<- e.1] at hv; exact hm e.2 hv
    . exact (h9 q hq hv).1
  . rw [hl] at hq;exact iz q hq hv
theorem yP.mono {S S':Nat->List u7} {O O':List u7} {n:n8} (h:yP S O n) (hS:∀ p,S p <+: S' p) (hO:O <+: O'):yP S' O' n :=
  ⟨λ e=>AU (hS _) (h.1 e),λ e=>AU hO (h.2 e)⟩
theorem AD.mono {S S':Nat->List u7} {O O':List u7} {V:Int} {s:u7} (h:AD S O V s) (hS:∀ p,S p <+: S' p) (hO:O <+: O'):AD S' O' V s :=
  λ e=>⟨(h e).1,λ e2=>((h e).2 e2).mono hS hO⟩
def vV (f:Nat->List u7) (p:Nat) (x:List u7):Nat->List u7:=λ q=>if q=p then x else f q
theorem zv {f:Nat->List u7} {p:Nat} {x:List u7}:vV f p x p=x:=if_pos rfl
theorem zh {f:Nat->List u7} {p q:Nat} {x:List u7} (h:q≠p):vV f p x q=f q:=if_neg h
theorem Jq {s:wv} {x:u7} (h:¬ (L9 s x).2.1≠0):(L9 s x).1=(s.1,s.2.1++[x],())/\J4 (s.1,s.2.1++[x],())=0/\s.1+s.2.1.length<16777215:=by
  unfold L9 at h ⊢;by_cases h1:J4 s≠0
  . rw [if_pos h1] at h; exact absurd h1 h
  rw [if_neg h1] at h ⊢;have aH:=yA (aBt.1 h1);by_cases h2:F3 x=true
  . rw [if_pos h2] at h; exact absurd (by decide) h
  rw [if_neg h2] at h ⊢;by_cases h3:(s.2.1.length:Int)=16\/16777215<=s.1+s.2.1.length
  . rw [if_pos h3] at h; exact absurd (by decide) h
  rw [if_neg h3];have h4:¬ (s.2.1.length:Int)=16:=λ e=>h3 (.inl e);have h5:¬ 16777215<=s.1+s.2.1.length:=λ e=>h3 (.inr e);refine ⟨rfl,?_,by omega⟩;unfold J4;rw [if_neg (by rw [yp.2 aH.1]; decide),if_neg,if_neg]
  . rw [List.any_append,aH.2.2];simpa using h2
  . show ¬ (16:Int)<((s.2.1++[x]).length:Int);rw [aAd]; simp only [aBn];have:=aH.2.1;omega
theorem Inv.say {said:Nat->List u7} {B:List C7} {S:Nat->List u7} {Q:List V9} {w:d9} (h:Inv said B S Q w) {p:Nat} {t:u7} (hp:p<w.2.1.length) (hv:R5 w.1.2.1 p=true)
    (hl:¬ (L9 (H5 w p) t).2.1≠0):Inv (vV said p (said p++[t])) B (vV S p (S p++[t])) Q (yO w p t (L9 (H5 w p) t).1):=by
  obtain ⟨h1,h2,h3,h4,h5,h6,h7,h8,h9,iz,kh⟩:=h;obtain ⟨g1,g2,g3⟩:=Jq hl;obtain ⟨⟨m,hm⟩,eN⟩:=h9 p hp hv;have hf:H5 w p=(((C9 p (Q.take m)).length:Int),(S p).drop (C9 p (Q.take m)).length,()):=hm.from_;have hle:(C9 p (Q.take m)).length<=(S p).length:=((zo (p:=p) (Q:=Q) (i:=m)).trans (h5 p)).length_le;rw [g1];rw [hf] at g2 g3 ⊢;simp only [aAo] at g3;have nL:(S p).drop (C9 p (Q.take m)).length++[t]=(S p++[t]).drop (C9 p (Q.take m)).length:=(aGm hle).symm;simp only [nL] at g2 ⊢;have hS:∀ q,S q <+: vV S p (S p++[t]) q:=λ q=>by
    by_cases e:q=p
    . subst e; rw [zv]; exact aFa ..
    . rw [zh e]; exact aCh
  have hlen:(setFrom w p (((C9 p (Q.take m)).length:Int),(S p++[t]).drop (C9 p (Q.take m)).length,())).2.1.length=w.2.1.length:=aBj ..;have bW:∀ q,(setFrom w p (((C9 p (Q.take m)).length:Int),(S p++[t]).drop (C9 p (Q.take m)).length,())).2.1.getD q g8=if p=q then ((w.2.1.getD p g8).1,(w.2.1.getD p g8).2.1,(((C9 p (Q.take m)).length:Int),(S p++[t]).drop (C9 p (Q.take m)).length,()),(w.2.1.getD p g8).2.2.2) else w.2.1.getD q g8:=λ q=>by
    show (w.2.1.set p _).getD q g8=_;rw [K8];by_cases e:p=q
    . rw [if_pos ⟨e,hp⟩,if_pos e]; rfl
    . rw [if_neg (λ h=>e h.1),if_neg e]
  have base:Inv (vV said p (said p++[t])) B (vV S p (S p++[t])) Q (setFrom w p (((C9 p (Q.take m)).length:Int),(S p++[t]).drop (C9 p (Q.take m)).length,())):=by
    refine ⟨by rw [hlen]; exact h1,h2,h3,by rw [hlen]; exact h4,λ q=>(h5 q).trans (hS q),λ q=>?_,λ s hs=>(h7 s hs).mono hS aCh,λ q hq=>?_,λ q hq hv=>?_,λ q hq hv=>?_,by rw [hlen]; exact kh⟩
    . by_cases e:q=p
      . subst e; rw [zv,aAd]; simp only [aBn]; omega
      . rw [zh e]; exact h6 q
    . rw [hlen] at hq;rw [bW];by_cases e:p=q
      . subst e;rw [if_pos rfl];exact ⟨(h8 p hq).1,λ x hx=>AU (hS p) ((h8 p hq).2 x hx)⟩
      . rw [if_neg e];exact ⟨(h8 q hq).1,λ x hx=>AU (hS q) ((h8 q hq).2 x hx)⟩
    . rw [hlen] at hq;rw [bW];by_cases e:p=q
      . subst e;rw [if_pos rfl,zv,zv];refine ⟨⟨m,hm.le,hm.next,hm.wait,hm.log,?_,g2⟩,by rw [eN,aAj]⟩;rw [zv]
      . rw [if_neg e,zh (Ne.symm e),zh (Ne.symm e)];obtain ⟨⟨m',gK⟩,me⟩:=h9 q hq hv;refine ⟨⟨m',gK.le,gK.next,gK.wait,gK.log,?_,gK.ok⟩,me⟩;rw [zh (Ne.symm e)];exact gK.from_
    . rw [hlen] at hq;have e:q≠p:=by
        rintro rfl;have fT:R5 w.1.2.1 q=false:=hv;rename_i fa;rw [fa] at fT; cases fT
      rw [zh e,zh e];exact iz q hq hv
  refine base.Ig (Y2.one ⟨λ _=>?_,λ h=>by cases h⟩);show (vV S p (S p++[t]) ((p:Int)).toNat)[(((C9 p (Q.take m)).length:Int)+(((S p++[t]).drop (C9 p (Q.take m)).length).length:Int) - 1).toNat]?=some t;rw [show ((p:Int)).toNat=p from rfl,zv];rw [aAo,aAd];simp only [aBn];rw [show (((C9 p (Q.take m)).length:Int)+(((S p).length+1 - (C9 p (Q.take m)).length:Nat):Int) - 1).toNat=(S p).length by omega];rw [aDv (aAk _),aHl]; rfl
section
variable {said:Nat->List u7} {B:List C7} {S:Nat->List u7} {Q:List V9} {w:d9}
theorem TM {b most:Int} {l:List u7}:∀ {k:Nat},k<=l.length->∀ x∈wQ b most l k,∃ i,i<l.length/\x=(b+i,l.getD i [],())
  | 0,_,x,h=>by cases h
  | k+1,hk,x,h=>by
    rw [wQ] at h;rcases aAi.1 h with h|h
    . exact TM (by omega) x h
    . split at h
      . rw [aBe] at h; exact ⟨k,by omega,h⟩
      . cases h
theorem UU {P:n8->Prop} {p:Int} {l:List C7} {w:d9} (h:∀ x∈l,∀ f v,P (1,p,f,v,x.1,[0,0,0,0,0,0],x.2.1,())):∀ {k},k<=l.length->Y2 P w (K9 p l w k)
  | 0,_=>.refl w
  | k+1,hk=>by
    rw [K9];refine (UU h (by omega)).trans (Y2.one (h _ ?_ _ _));rw [aAb,aAf (by omega)]; exact aCn _
theorem Inv.again (h:Inv said B S Q w) {p:Nat} (hp:p<w.2.1.length) (hv:R5 w.1.2.1 p=true) :
    Inv said B S Q (Bs (K9 p (K6 w p) w (K6 w p).length) p):=by
  refine h.Ig ((UU (λ x hx f v=>?_) (aAk _)).trans (Y2.one ⟨λ e=>(by cases e),λ e=>(by cases e)⟩));refine ⟨λ _=>?_,λ e=>by cases e⟩;obtain ⟨⟨m,hm⟩,-⟩:=h.mem p hp hv;have hf:H5 w p=(((C9 p (Q.take m)).length:Int),(S p).drop (C9 p (Q.take m)).length,()):=hm.from_;have qm:J4 (H5 w p)=0:=hm.ok;unfold K6 xg at hx;rw [if_neg (by rw [qm]; simp),hf] at hx;obtain ⟨i,hi,rfl⟩:=TM (aAk _) x hx;show (S ((p:Int)).toNat)[(((C9 p (Q.take m)).length:Int)+(i:Int)).toNat]?=some (((S p).drop (C9 p (Q.take m)).length).getD i []);rw [show ((p:Int)).toNat=p from rfl,show (((C9 p (Q.take m)).length:Int)+(i:Int)).toNat=(C9 p (Q.take m)).length+i by omega];rw [<- aBl,aAb,aAf hi]; rfl
theorem Inv.Wi (h:Inv said B S Q w) (p:Nat):Inv said B S Q (w.1,w.2.1.set p (true,(w.2.1.getD p g8).2),w.2.2):=by
  refine h.F1 (λ hp=>h.rcv p hp) (λ hp hv=>?_);obtain ⟨⟨m,hm⟩,-⟩:=h.mem p hp hv;exact ⟨m,hm.le,hm.next,hm.wait,hm.log,hm.from_,hm.ok⟩
theorem Inv.ways (h:Inv said B S Q w) {l:List u7} (hl:l.length<=60) (hm:∀ s∈l,s∈w.2.2.2.1):Inv said B S Q (w.1,w.2.1,w.2.2.1,l,()):=by
  obtain ⟨h1,h2,h3,h4,h5,h6,h7,h8,h9,iz,kh⟩:=h;exact ⟨h1,hl,h3,h4,h5,h6,λ s hs=>h7 s (hm s hs),h8,h9,iz,kh⟩
theorem Inv.drop (h:Inv said B S Q w) (k:Int):Inv said B S Q (yg w k):=by
  refine h.ways ?_ (λ s hs=>?_)
  . have:=h.way;rw [aAd,aAn,aAo];by_cases c:0<=k
    . omega
    . have e1:k.toNat=0:=by omega
      have e2:(k+1).toNat=0:=by omega
      rw [e1,e2]; omega
  . rcases aAi.1 hs with hs|hs
    . exact aHq hs
    . exact aDx hs
theorem Inv.copy (h:Inv said B S Q w) {k:Nat} (hk:k<w.2.2.2.1.length) (hn:¬ (w.2.2.2.1.length:Int)=60):Inv said B S Q (BE w k):=by
  refine h.ways ?_ (λ s hs=>?_)
  . have:=h.way;rw [aAd]; simp only [aBn]; omega
  . rcases aAi.1 hs with hs|hs
    . exact hs
    . rw [aBe] at hs;rw [hs,aAb,aAf hk]; exact aCn _
theorem Inv.asks (h:Inv said B S Q w) {n:n8} (h0:0<=n.2.2.2.2.1):∀ j,Y2 (yP S w.2.2.1) w (F4 w n j)
  | 0=>.refl w
  | j+1=>by
    rw [F4]
    split
    . rename_i bf;refine (Inv.asks h h0 j).trans (Y2.one ⟨λ e=>(by cases e),λ _=>?_⟩);rw [(AZ j).2.2] at bf;show w.2.2.1[(n.2.2.2.2.1+j).toNat]?=some ((F4 w n j).2.2.1.getD (n.2.2.2.2.1+j).toNat []);rw [(AZ j).2.2,aAb,aAf (by omega)]; rfl
    . exact Inv.asks h h0 j
structure Told (texts:List u7) (w w':d9):Prop where
  view:w'.1=w.1
  all:w'.2.1=w.2.1
  ord:w'.2.2.1=w.2.2.1++texts
  len:w.2.2.2.1.length<=60->w'.2.2.2.1.length<=60
  way:∀ s∈w'.2.2.2.1,s∈w.2.2.2.1\/∃ n:n8,y6 s=(n,0,())/\n.2.2.2.1=w.1.1/\n.1=2/\(w.2.2.1++texts)[n.2.2.2.2.1.toNat]?=some n.2.2.2.2.2.2.1
theorem Uw {x:u7} {w:d9} {P:n8->Prop} (h:∀ f t,P (2,f,t,w.1.1,(w.2.2.1.length:Int) - 1,[0,0,0,0,0,0],x,())):∀ p,Y2 P w (F6 x w p)
  | 0=>.refl w
  | p+1=>by
    rw [F6];have ih:=Uw h p
    split
    . refine ih.trans (Y2.one ?_);rw [ih.view,ih.ord];exact h _ _
    . exact ih
theorem told {f first:Int} {l:List u7} {w:d9}:∀ {i},i<=l.length->Told ((l.take i).mapIdx (λ j t=>G9 f (first+j) t)) w (J3 f first l w i)
  | 0,_=>⟨rfl,rfl,by simp [J3],id,λ s h=>.inl h⟩
  | i+1,hi=>by
    have ih:=told (f:=f) (first:=first) (w:=w) (show i<=l.length by omega);rw [J3];obtain ⟨u,hu⟩:∃ u,u=J3 f first l w i:=⟨_,rfl⟩
    obtain ⟨x,hx⟩:∃ x,x=G9 f (first+i) (l.getD i []):=⟨_,rfl⟩;rw [<- hu] at ih ⊢;rw [<- hx];have mF:(l.take (i+1)).mapIdx (λ j t=>G9 f (first+j) t)=(l.take i).mapIdx (λ j t=>G9 f (first+j) t)++[x]:=by
      rw [LZ (show i<l.length by omega) [],List.mapIdx_append,hx];simp only [aAn];rw [show min i l.length=i by omega];simp
    rw [mF];have hp:(xO u x).2.2.1=w.2.2.1++((l.take i).mapIdx (λ j t=>G9 f (first+j) t)++[x]):=by
      show u.2.2.1++[x]=_;rw [ih.ord,aAj]
    have hc:=Uw (x:=x) (w:=xO u x) (P:=λ n=>n.1=2/\(xO u x).2.2.1[n.2.2.2.2.1.toNat]?=some n.2.2.2.2.2.2.1) (λ f t=>⟨rfl,by
      show (u.2.2.1++[x])[(((u.2.2.1++[x]).length:Int) - 1).toNat]?=some x;rw [aAd];simp only [aBn];rw [show (((u.2.2.1.length+1:Nat):Int) - 1).toNat=u.2.2.1.length by omega];rw [aDv (aAk _),aHl]; rfl⟩) u.2.1.length
    refine ⟨hc.view.trans ih.view,hc.all.trans ih.all,hc.ord.trans hp,λ e=>hc.len (ih.len e),λ s hs=>?_⟩;rcases hc.way s hs with hs|⟨n,e1,e2,e3,e4⟩
    . rcases ih.way s hs with hs|⟨n,e1,e2,e3,e4⟩
      . exact .inl hs
      . refine .inr ⟨n,e1,e2,e3,?_⟩;rw [<- aAj];exact AU (aFa ..) e4
    . refine .inr ⟨n,e1,?_,e3,?_⟩
      . rw [e2];show u.1.1=w.1.1;rw [ih.view]
      . rw [<- hp]; exact e4
structure c97 (S:Nat->List u7) (w:d9) (n:n8):Prop where
  msg:yP S w.2.2.1 n
  seq:0<=n.2.2.2.2.1
theorem UQ {P:List V9} {p:Nat}:∀ {l:List u7} {c:Nat},(C9 p P).length=c->Q5 P (l.map λ t=>(p,t))=l.mapIdx (λ j t=>G9 p ((c:Int)+j) t)
  | [],_,_=>rfl
  | t::l,c,h=>by
    rw [aCf,Q5,List.mapIdx_cons,UQ (c:=c+1) (by rw [zf,aAd,h]; simp [C9])];rw [h];have e:(λ(j:Nat) (t:u7)=>G9 (p:Int) (((c+1:Nat):Int)+j) t)=λ j t=>G9 p ((c:Int)+((j+1:Nat):Int)) t:=by
      funext j t
      rw [show ((c+1:Nat):Int)+(j:Int)=(c:Int)+((j+1:Nat):Int) by omega]
    refine congr (congrArg List.cons ?_) (congrArg (λ f=>List.mapIdx f l) e);show G9 p c t=G9 p ((c:Int)+((0:Nat):Int)) t;rw [show (c:Int)+((0:Nat):Int)=c by omega]
theorem Inv.order (h:Inv said B S Q w) {n:n8} (hk:¬ known w n.2.1≠0) (hm:(S n.2.1.toNat)[n.2.2.2.2.1.toNat]?=some n.2.2.2.2.2.2.1) :
    ∃ Q',Inv said B S Q' (P9 w n):=by
  by_cases he:(V5 w n).2.2.1≠0
  . refine ⟨Q,?_⟩;rw [P9,if_pos he]; exact h
  rw [P9,if_neg he];obtain ⟨v,al,rr⟩:=w;have lv:=CT hk;obtain ⟨p,hp⟩:∃ p:Nat,n.2.1=p:=⟨n.2.1.toNat,by omega⟩;have bV:p<al.length:=by omega
  rw [hp] at hm ⊢;have iM:V5 (v,al,rr) n=E6 (al.getD p g8).2.2.2.2.1 (n.2.2.2.2.1,n.2.2.2.2.2.2.1,()):=by rw [V5,hp]; rfl
  rw [iM] at he ⊢;obtain ⟨mg,mO⟩:=h.rcv p bV;obtain ⟨r,hr⟩:∃ r,r=E6 (al.getD p g8).2.2.2.2.1 (n.2.2.2.2.1,n.2.2.2.2.2.2.1,()):=⟨_,rfl⟩;have lL:=aBt.1 he;obtain ⟨a1,a2,a3,a4,a5,a6⟩:=Ad lL;have fe:=RP (F:=λ i=>(S p)[i]?) lL mO hm;rw [<- hr] at lL a1 a2 a3 a5 a6 fe ⊢;have px:((al.getD p g8).2.2.2.2.1.1).toNat=(C9 p Q).length:=by
    have:(al.getD p g8).2.2.2.2.1.1=(C9 p Q).length:=mg;omega
  have mP:(al.getD p g8).2.2.2.2.1.1=((C9 p Q).length:Int):=mg;have hl:=YY (X:=S p) (l:=r.2.1) (r:=(C9 p Q).length) (λ i hi=>by rw [<- px]; exact fe i hi);have hT:=told (f:=(p:Int)) (first:=(C9 p Q).length) (l:=r.2.1) (w:=S3 (v,al,rr) p (W5 (D3 (v,al,rr) p) r.1)) (aAk _);have lH:(D3 (v,al,rr) (p:Int)).2.2.2.2.1.1=((C9 p Q).length:Int):=mg;rw [lH];rw [aDp] at hT;have qu:r.2.1.mapIdx (λ j t=>G9 (p:Int) (((C9 p Q).length:Int)+j) t)=Q5 Q (r.2.1.map λ t=>(p,t)):=(UQ rfl).symm;rw [qu] at hT;obtain ⟨u,hu⟩:∃ u,u=J3 (p:Int) ((C9 p Q).length:Int) r.2.1 (S3 (v,al,rr) p (W5 (D3 (v,al,rr) p) r.1)) r.2.1.length:=⟨_,rfl⟩;rw [<- hu] at hT ⊢;have hQ:∀ q,C9 q (Q++r.2.1.map λ t=>(p,t))=C9 q Q++if p=q then r.2.1 else []:=λ q=>by rw [zf,XO]
  have bH:u.2.1=al.set p (W5 (al.getD p g8) r.1):=hT.all;have hlen:u.2.1.length=al.length:=by rw [bH,aBj]
  have iL:u.1=v:=hT.view;have pG:u.2.2.1=R8 (Q++r.2.1.map λ t=>(p,t)):=by
    rw [hT.ord,Sn];congr 1;exact h.ord
  have mR:rr.1 <+: u.2.2.1:=⟨_,hT.ord.symm⟩;have bW:∀ q,u.2.1.getD q g8=if p=q then W5 (al.getD p g8) r.1 else al.getD q g8:=λ q=>by
    rw [bH,K8];by_cases e:p=q
    . rw [if_pos ⟨e,bV⟩,if_pos e]
    . rw [if_neg (λ h=>e h.1),if_neg e]
  refine ⟨Q++r.2.1.map λ t=>(p,t),by rw [hlen]; exact h.H8,hT.len h.way,pG,λ x hx=>?_,λ q=>?_,h.short,λ s hs=>?_,λ q hq=>?_,λ q hq hv=>?_,λ q hq hv=>?_,by rw [hlen]; exact h.Nf⟩
  . rw [hlen];rcases aAi.1 hx with hx|hx
    . exact h.inQ x hx
    . obtain ⟨t,-,rfl⟩:=aDa.1 hx;exact bV
  . rw [hQ];by_cases e:p=q
    . subst e;rw [if_pos rfl];have bc:C9 p Q=(S p).take (C9 p Q).length:=aHb.1 (h.xI p);have:C9 p Q++r.2.1=(S p).take ((C9 p Q).length+r.2.1.length):=by
        rw [List.take_add,<- hl,<- bc]
      rw [this];exact List.take_prefix ..
    . rw [if_neg e,aAv]; exact h.xI q
  . rw [iL];rcases hT.way s hs with hs|⟨m,e1,e2,e3,e4⟩
    . exact (h.msg s hs).mono (λ _=>aCh) mR
    . intro _;rw [e1];refine ⟨Int.le_of_eq e2,λ _=>⟨λ e=>?_,λ _=>?_⟩⟩
      . have e3:m.1=2:=e3;have e:m.1=1:=e;omega
      . rw [hT.ord]; exact e4
  . rw [hlen] at hq;rw [bW,hQ];by_cases e:p=q
    . subst e;rw [if_pos rfl,if_pos rfl];refine ⟨?_,λ x hx=>?_⟩
      . show r.1.1=_;rw [a5,mP,aAd]; omega
      . rcases a2 x hx with rfl|hx
        . exact hm
        . exact mO x hx
    . rw [if_neg e,if_neg e,aAv]; exact h.rcv q hq
  . rw [hlen] at hq;rw [iL] at hv;obtain ⟨⟨m,hm⟩,hs⟩:=h.mem q hq hv;refine ⟨⟨m,?_⟩,hs⟩;have bj:Eg said B S (Q++r.2.1.map λ t=>(p,t)) q (al.getD q g8) m:=by
      have iM:(Q++r.2.1.map λ t=>(p,t)).take m=Q.take m:=aDq hm.le;refine ⟨by rw [aAd]; have:=hm.le; omega,hm.next,λ x hx=>?_,by rw [iM]; exact hm.log,by rw [iM]; exact hm.from_,hm.ok⟩;rw [Sn];exact AU (aFa ..) (hm.wait x hx)
    rw [bW];by_cases e:p=q
    . subst e;rw [if_pos rfl];exact ⟨bj.le,bj.next,bj.wait,bj.log,bj.from_,bj.ok⟩
    . rw [if_neg e]; exact bj
  . rw [hlen] at hq;rw [iL] at hv;exact h.out q hq hv
end
end Go.Proofs.YtijlnmgondibnaaGreatDoor
