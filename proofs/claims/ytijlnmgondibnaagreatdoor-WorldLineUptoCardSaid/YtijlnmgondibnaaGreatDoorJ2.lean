import Derived.Test.YtijlnmgondibnaaGreatDoorJ1
import Derived.Test.YtijlnmgondibnaaGreatDoorProg
import Derived.Lib.Atoi
import Derived.Lib.ItoaMem
import Derived.Lib.IndexMore
import Derived.Shelf.Strconv.Itoa3
import Derived.Lib.ItoaLen
import Derived.Shelf.Strings.Split
import Derived.Lib.SlTrimSet
import Derived.Lib.Strings
import Derived.WalkKit
import Derived.Lib.Walk
import Derived.Shelf.RegionOpenPlain
import Derived.Shelf.Strings.Prefix
import Derived.Shelf.Strings.SlTrimAscii
import Derived.Shelf.Strconv.Atoi
import Derived.Lib.SmallJoins
import Derived.Shelf.Strings.Cut
set_option linter.unusedVariables false
set_option linter.unusedSimpArgs false
set_option linter.unusedSectionVars false
namespace Go.Proofs.YtijlnmgondibnaaGreatDoor
open Go.Ex
set_option maxRecDepth 100000
attribute [local irreducible] Go.Ex.exec
theorem TY:Ty.wb p9=24:=rfl
def Al:o7:={ ps:=[.v (.d0 false p9)],rs:=[.d0 true p9],pre:=λ x=>List.length (α:=C4) x.1<=5864062014805,fn:=λ x=>x,out:=λ _=>() }
noncomputable def ES:Env:={ P:=Tryz.prog,tt:=tt,C5:=[],res:=[Go.ResultVar.tmp 2],rs:=[Ty.d0 true p9],ps:=[PK.v K6],y8:=[],nt:=8 }
theorem Mz:w5 ES:=w9 p7 trivial
theorem MI:B8 ES Tryz.f31:=⟨rfl,rfl⟩
theorem Ts (x0:List (Int×yY×Unit)):exec ES 1000 [.code (d8 Tryz.prog 31)] (s7 Al.ps ((x0,()))) =
  .both (x0=[]) (.ret (([],()))) (.f7 ((0:Nat)+List.length x0<=140737488355328/\((0:Nat)+List.length x0)*Ty.wb p9<=140737488355328) (.ret (([]++x0,())))):=by kernel_rfl
theorem JI:Al.Valid Tryz.prog 31:=by
  refine o7.n8 Mz rfl rfl Tryz.func31 (c:=d8 Tryz.prog 31) rfl rfl MI rfl ?_;rintro ⟨(l:List (C4)),⟨⟩⟩ hp -
  have hp:l.length<=5864062014805:=hp;refine j6 (n:=1000) Mz MI ?_;refine i6 (Ts l) ?_;simp only [j5,Tree.holds,TY,sL];refine ⟨λ h=>?_,by omega,λ _=>rfl⟩;show (([],()):List (C4)×Unit)=(l,());rw [show l=[] from h]
theorem Tm:Ty.wb .str=16:=rfl
def Cz:o7:={ ps:=[.v (.d0 false .str)],rs:=[.d0 true .str],pre:=λ x=>List.length (α:=yY) x.1<=1048576,fn:=λ x=>x,out:=λ _=>() }
noncomputable def Fo:Env:={ P:=Tryz.prog,tt:=tt,C5:=[],res:=[Go.ResultVar.tmp 2],rs:=[Ty.d0 true Ty.str],ps:=[PK.v (Ty.d0 false Ty.str)],y8:=[],nt:=8 }
theorem MF:w5 Fo:=w9 p7 trivial
theorem MO:B8 Fo Tryz.f32:=⟨rfl,rfl⟩
theorem TA (x0:List yY):exec Fo 1000 [.code (d8 Tryz.prog 32)] (s7 Cz.ps ((x0,()))) =
  .both (x0=[]) (.ret (([],()))) (.f7 ((0:Nat)+List.length x0<=140737488355328/\((0:Nat)+List.length x0)*Ty.wb Ty.str<=140737488355328) (.ret (([]++x0,())))):=by kernel_rfl
theorem RJ:Cz.Valid Tryz.prog 32:=by
  refine o7.n8 MF rfl rfl Tryz.func32 (c:=d8 Tryz.prog 32) rfl rfl MO rfl ?_;rintro ⟨(l:List yY),⟨⟩⟩ hp -
  have hp:l.length<=1048576:=hp;refine j6 (n:=1000) MF MO ?_;refine i6 (TA l) ?_;simp only [j5,Tree.holds,Tm,sL];refine ⟨λ h=>?_,by omega,λ _=>rfl⟩;show (([],()):List yY×Unit)=(l,());rw [show l=[] from h]
abbrev K4:=Bool×(Nat×(List C4×List C4))×FrD×ToD×ToD×Unit
abbrev Du:=vA×List K4×List yY×List yY×Unit
def Gr:o7:={ ps:=[.v (.d0 false .str)],rs:=[.d0 false .str],new:=true,pre:=Cz.pre,fn:=λ x=>x,out:=λ _=>() }
theorem RZ:Gr.Valid Tryz.prog 32:=RJ.share (rs':=[.d0 false .str]) rfl rfl rfl
def Pt (w:f9) (p:Int) (g:Int):Int:=if s4 w p=true then g else bOr .u8 g (R0 .u8 w.1.2.1 (IntKind.wrap .u8 (1*2^min p.toNat IntKind.u8.bits)))
def D0 (w:f9):Nat->Int
  | 0=>0
  | k+1=>Pt w k (D0 w k)
def Q6 (w:f9):vA×Int×Unit:=Q7 w.1 (D0 w w.2.1.length) 0
def OW:o7:={ ps:=[.rd F3],rs:=[d9],pre:=λ x=>List.length (α:=n6) (x.1:f9).2.1<=6/\(Q6 x.1).2.1≠0,fn:=λ x=>((Q6 x.1).2.1,()),out:=λ _=>() }
noncomputable def Bq:Env:={ P:=Tryz.prog,tt:=ttW,C5:=[(47,yp),(53,AX),(31,Al),(32,Gr)],res:=[Go.ResultVar.tmp 2],rs:=[Ty.int IntKind.i64],ps:=[PK.rd F3],y8:=[(4,[(0,none),(3,none),(4,none),(18,none),(19,none)]),(16,[(0,none),(4,none),(7,none),(67,none),(68,none)]),(22,[(0,none),(4,none),(7,none),(9,none),(10,none),(11,none),(67,none),(68,none),(86,none),(87,none),(88,none)]),(998014,[(4,some K6)])],nt:=139 }
theorem Kd:w5 Bq:=w9 Mi ⟨Ce,SA,JI,RZ,trivial⟩
theorem KQ:B8 Bq Tryz.f25:=⟨rfl,rfl⟩
theorem ZC (ai:Int) (af:Int) (ab:List n6) (ae:List yY) (aa:List yY):exec Bq 1000 [.code (d8 Tryz.prog 25)] (s7 OW.ps ((((ai,af,()),ab,ae,aa,()),()))) =
  .ctL (f8 (d8 Tryz.prog 25) 4) (St.mk [(0,AV.K2 F3 ((ai,af,()),ab,ae,aa,())),(3,AV.val U8 (0:Int)),(4,AV.val K6 []),(18,AV.val d9 (↑(List.length ab):Int)),(19,AV.val d9 (0:Int))] []):=by kernel_rfl
def Ke (bI:Int) (ba:Int) (bz:List n6) (bp:List yY) (aZ:List yY) (v3:Int) (v4:List (Int×yY×Unit)) (uK:Int) (uH:Int):St:=St.mk [(0,AV.K2 F3 ((bI,ba,()),bz,bp,aZ,())),(3,AV.val U8 v3),(4,AV.val K6 v4),(18,AV.val d9 uK),(19,AV.val d9 uH)] []
theorem b8m (bI:Int) (ba:Int) (bz:List n6) (bp:List yY) (aZ:List yY) (v3:Int) (v4:List (Int×yY×Unit)) (uK:Int) (uH:Int):exec Bq 1000 (.code (f8 (d8 Tryz.prog 25) 4).1::.inLoop (f8 (d8 Tryz.prog 25) 4).1::(f8 (d8 Tryz.prog 25) 4).2) (Ke bI ba bz bp aZ v3 v4 uK uH) =
  cond (decide (uH<uK)) (.f7 (List.length bz<=6) (cond (s4 ((bI,ba,()),bz,bp,aZ,()) uH) (.f7 ((0:Int)<=uH/\uH<(↑(List.length bz):Int)) (cond (decide ((↑(List.length v4):Int)<(↑(List.length (Prod.fst (Prod.snd (List.getD bz (Int.toNat uH) (false,[],((0:Int),[],()),((0:Int),[],()),((0:Int),[],()),()))))):Int))) (.f7 (r7 IntKind.i64 (uH+(1:Int))) (.ctL (f8 (d8 Tryz.prog 25) 4) (St.mk [(0,AV.K2 F3 ((bI,ba,()),bz,bp,aZ,())),(3,AV.val U8 v3),(4,AV.val K6 (Prod.fst (Prod.snd (List.getD bz (Int.toNat uH) (false,[],((0:Int),[],()),((0:Int),[],()),((0:Int),[],()),()))))),(18,AV.val d9 uK),(19,AV.val d9 (uH+(1:Int)))] []))) (.f7 (r7 IntKind.i64 (uH+(1:Int))) (.ctL (f8 (d8 Tryz.prog 25) 4) (St.mk [(0,AV.K2 F3 ((bI,ba,()),bz,bp,aZ,())),(3,AV.val U8 v3),(4,AV.val K6 v4),(18,AV.val d9 uK),(19,AV.val d9 (uH+(1:Int)))] []))))) (.f7 ((0:Int)<=uH) (.f7 (r7 IntKind.i64 (uH+(1:Int))) (.ctL (f8 (d8 Tryz.prog 25) 4) (St.mk [(0,AV.K2 F3 ((bI,ba,()),bz,bp,aZ,())),(3,AV.val U8 (bOr IntKind.u8 v3 (R0 IntKind.u8 ba (IntKind.wrap IntKind.u8 ((1:Int)*(2:Int)^min (Int.toNat uH) (IntKind.bits IntKind.u8)))))),(4,AV.val K6 v4),(18,AV.val d9 uK),(19,AV.val d9 (uH+(1:Int)))] [])))))) (.f7 (True) (cond (decide (Prod.fst (Prod.snd (Q7 (bI,ba,()) v3 (0:Int)))≠(0:Int))) (.ret ((Prod.fst (Prod.snd (Q7 (bI,ba,()) v3 (0:Int))),()))) (.ctL (f8 (d8 Tryz.prog 25) 16) (St.mk [(0,AV.K2 F3 ((bI,ba,()),bz,bp,aZ,())),(4,AV.val K6 v4),(7,AV.ptr 7 []),(67,AV.val d9 (↑(List.length bz):Int)),(68,AV.val d9 (0:Int))] [(7,g8.var View (Prod.fst (Q7 (bI,ba,()) v3 (0:Int))))])))):=by kernel_rfl
theorem b2d:OW.Valid Tryz.prog 25:=by
  refine o7.n8 Kd rfl rfl Tryz.func25 (c:=d8 Tryz.prog 25) rfl rfl KQ rfl ?_;rintro ⟨⟨⟨(v0:Int),(v1:Int),⟨⟩⟩,(al:List n6),(od:List yY),(wy:List yY),⟨⟩⟩,⟨⟩⟩ ⟨(hp:al.length<=6),(bG:(Q6 ((v0,v1,()),al,od,wy,())).2.1≠0)⟩ -
  refine j6 (n:=1000) Kd KQ ?_;refine i6 (ZC v0 v1 al od wy) ?_;show Go.Ex.Reach Bq Tryz.f25 ((Q6 ((v0,v1,()),al,od,wy,())).2.1,()) () (.code (f8 (d8 Tryz.prog 25) 4).1::.inLoop (f8 (d8 Tryz.prog 25) 4).1::(f8 (d8 Tryz.prog 25) 4).2) (Ke v0 v1 al od wy (D0 ((v0,v1,()),al,od,wy,()) 0) [] (al.length:Int) ((0:Nat):Int));refine Reach.J8 Kd KQ (λ i:Nat×List C4=>Ke v0 v1 al od wy (D0 ((v0,v1,()),al,od,wy,()) i.1) i.2 (al.length:Int) (i.1:Int)) (λ i=>i.1<=al.length)
    (λ i=>al.length - i.1) 1000 (λ _=>⟨r8 rfl,r8 rfl⟩) ?_ (0,[]) (Nat.zero_le _)
  rintro ⟨i,l⟩ k1 - ih;have k1:i<=al.length:=k1;have ih:∀ l',i<al.length->_:=λ l' h=>ih (i+1,l') (by show i+1<=al.length; omega) (by show al.length - (i+1)<al.length - i; omega);refine i6 (b8m ..) ?_;have e1:((i:Nat):Int)+1=((i+1:Nat):Int):=by omega
  simp only [j5,Tree.holds,e1,sL];refine ⟨λ c=>⟨hp,λ _=>⟨λ a=>⟨by omega,λ _=>⟨λ b=>⟨by omega,λ _=>?_⟩,λ b=>⟨by omega,λ _=>?_⟩⟩⟩,λ a=>⟨by omega,λ _=>⟨by omega,λ _=>?_⟩⟩⟩⟩,λ c=>⟨λ d=>?_,λ d=>?_⟩⟩
  . have:=ih (al.getD i j7).2.1 (by omega);rw [show D0 ((v0,v1,()),al,od,wy,()) (i+1)=D0 ((v0,v1,()),al,od,wy,()) i from if_pos a] at this;exact this
  . have:=ih l (by omega);rw [show D0 ((v0,v1,()),al,od,wy,()) (i+1)=D0 ((v0,v1,()),al,od,wy,()) i from if_pos a] at this;exact this
  . have:=ih l (by omega);rw [show D0 ((v0,v1,()),al,od,wy,()) (i+1)=bOr .u8 (D0 ((v0,v1,()),al,od,wy,()) i) (R0 .u8 v1 (IntKind.wrap .u8 (1*2^min i IntKind.u8.bits))) from if_neg (by simpa using a)] at this;exact this
  . obtain rfl:i=al.length:=by omega
    rfl
  . obtain rfl:i=al.length:=by omega
    exact absurd (show (Q7 (v0,v1,()) (D0 ((v0,v1,()),al,od,wy,()) al.length) 0).2.1=0 by simpa using d) bG
def He:o7:={ ps:=[.rd F3],rs:=[View],pre:=λ _=>True,fn:=λ x=>((x.1:f9).1,()),out:=λ _=>() }
noncomputable def GS:Env:={ P:=Tryz.prog,tt:=tt,C5:=[],res:=[Go.ResultVar.cell 2 57],rs:=[Ty.pair d9 (Ty.pair U8 Ty.unit)],ps:=[PK.rd F3],y8:=[],nt:=7 }
theorem Qk:w5 GS:=w9 p7 trivial
theorem PJ:B8 GS Tryz.f29:=⟨rfl,rfl⟩
theorem Wr (ai:Int) (af:Int) (ab:List n6) (ae:List yY) (aa:List yY):exec GS 1000 [.code (d8 Tryz.prog 29)] (s7 He.ps ((((ai,af,()),ab,ae,aa,()),()))) =
  .ret (((ai,af,()),())):=by kernel_rfl
theorem b5o:He.Valid Tryz.prog 29:=by
  refine o7.n8 Qk rfl rfl Tryz.func29 (c:=d8 Tryz.prog 29) rfl rfl PJ rfl ?_;rintro ⟨⟨⟨(v0:Int),(v1:Int),⟨⟩⟩,(al:List n6),(od:List yY),(wy:List yY),⟨⟩⟩,⟨⟩⟩ - -
  refine j6 (n:=1000) Qk PJ ?_;refine i6 (Wr v0 v1 al od wy) ?_;rfl
def Fl:o7:={ ps:=[.rd F3],rs:=[d9],pre:=λ _=>True,fn:=λ x=>((List.length (α:=yY) (x.1:f9).2.2.2.1:Int),()),out:=λ _=>() }
noncomputable def FJ:Env:={ P:=Tryz.prog,tt:=tt,C5:=[],res:=[Go.ResultVar.tmp 2],rs:=[Ty.int IntKind.i64],ps:=[PK.rd F3],y8:=[],nt:=8 }
theorem OA:w5 FJ:=w9 p7 trivial
theorem Od:B8 FJ Tryz.f17:=⟨rfl,rfl⟩
theorem Uq (ai:Int) (af:Int) (ab:List n6) (ae:List yY) (aa:List yY):exec FJ 1000 [.code (d8 Tryz.prog 17)] (s7 Fl.ps ((((ai,af,()),ab,ae,aa,()),()))) =
  .ret (((↑(List.length aa):Int),())):=by kernel_rfl
theorem ZU:Fl.Valid Tryz.prog 17:=by
  refine o7.n8 OA rfl rfl Tryz.func17 (c:=d8 Tryz.prog 17) rfl rfl Od rfl ?_;rintro ⟨⟨⟨(v0:Int),(v1:Int),⟨⟩⟩,(al:List n6),(od:List yY),(wy:List yY),⟨⟩⟩,⟨⟩⟩ - -
  refine j6 (n:=1000) OA Od ?_;refine i6 (Uq v0 v1 al od wy) ?_;rfl
def Z7 (w:f9) (p:Int):List C4:=(w.2.1.getD p.toNat j7).2.1
def M4 (w:f9) (p:Int):FrD:=(w.2.1.getD p.toNat j7).2.2.1
theorem BK {v:vA} {al:List n6} {r:List yY×List yY×Unit} {p:Int} (a:¬ known (v,al,r) p≠0):0<=p/\p<(al.length:Int):=by
  unfold known at a;split at a
  . rename_i hb;have:=U4.1 hb;simp only at this; omega
  . exact absurd (by decide) a
def vk (w:f9) (p:Int):List C4×Int×Unit:=if known w p≠0 then ([],known w p,()) else (Z7 w p,0,())
def Cv:o7:={ ps:=[.rd F3,.v d9],rs:=[.d0 true p9,d9],pre:=λ x=>List.length (α:=n6) (x.1:f9).2.1<=6/\List.length (α:=C4) (Z7 x.1 x.2.1)<=5864062014805,fn:=λ x=>vk x.1 x.2.1,out:=λ _=>() }
noncomputable def FF:Env:={ P:=Tryz.prog,tt:=tt,C5:=[(49,yA),(31,Al)],res:=[Go.ResultVar.tmp 4,Go.ResultVar.tmp 5],rs:=[Ty.d0 true p9,Ty.int IntKind.i64],ps:=[PK.rd F3,PK.v d9],y8:=[],nt:=22 }
theorem Ow:w5 FF:=w9 p7 ⟨Cb,JI,trivial⟩
theorem NZ:B8 FF Tryz.f19:=⟨rfl,rfl⟩
theorem Um (ai:Int) (af:Int) (ab:List n6) (ae:List yY) (aa:List yY) (x1:Int):exec FF 1000 [.code (d8 Tryz.prog 19)] (s7 Cv.ps ((((ai,af,()),ab,ae,aa,()),x1,()))) =
  .f7 (List.length ab<=6) (cond (decide (known ((ai,af,()),ab,ae,aa,()) x1≠(0:Int))) (.ret (([],known ((ai,af,()),ab,ae,aa,()) x1,()))) (.f7 ((0:Int)<=x1/\x1<(↑(List.length ab):Int)) (.f7 (List.length (Prod.fst (Prod.snd (List.getD ab (Int.toNat x1) (false,[],((0:Int),[],()),((0:Int),[],()),((0:Int),[],()),()))))<=5864062014805) (.ret ((Prod.fst (Prod.snd (List.getD ab (Int.toNat x1) (false,[],((0:Int),[],()),((0:Int),[],()),((0:Int),[],()),()))),(0:Int),())))))):=by kernel_rfl
theorem RC:Cv.Valid Tryz.prog 19:=by
  refine o7.n8 Ow rfl rfl Tryz.func19 (c:=d8 Tryz.prog 19) rfl rfl NZ rfl ?_;rintro ⟨⟨⟨(v0:Int),(v1:Int),⟨⟩⟩,(al:List n6),(od:List yY),(wy:List yY),⟨⟩⟩,(p:Int),⟨⟩⟩ ⟨(hp:al.length<=6),(hl:(Z7 ((v0,v1,()),al,od,wy,()) p).length<=5864062014805)⟩ -
  refine j6 (n:=1000) Ow NZ ?_;refine i6 (Um v0 v1 al od wy p) ?_;simp only [j5,Tree.holds,sL];refine ⟨hp,λ _=>⟨λ a=>?_,λ a=>⟨BK a,λ _=>⟨hl,λ _=>?_⟩⟩⟩⟩
  . show (([],_,()):List C4×Int×Unit)=vk ((v0,v1,()),al,od,wy,()) p;exact (if_pos a).symm
  . show ((_,0,()):List C4×Int×Unit)=vk ((v0,v1,()),al,od,wy,()) p;exact (if_neg a).symm
def wP (w:f9) (p:Int):List yY×Int×Unit:=if known w p≠0 then ([],known w p,()) else ((M4 w p).2.1,0,())
def Ge:o7:={ ps:=[.rd F3,.v d9],rs:=[.d0 true .str,d9],pre:=λ x=>List.length (α:=n6) (x.1:f9).2.1<=6/\List.length (α:=yY) (M4 x.1 x.2.1).2.1<=1048576,fn:=λ x=>wP x.1 x.2.1,out:=λ _=>() }
noncomputable def GO:Env:={ P:=Tryz.prog,tt:=tt,C5:=[(49,yA),(32,Cz)],res:=[Go.ResultVar.tmp 4,Go.ResultVar.tmp 5],rs:=[Ty.d0 true Ty.str,Ty.int IntKind.i64],ps:=[PK.rd F3,PK.v d9],y8:=[],nt:=23 }
theorem Qg:w5 GO:=w9 p7 ⟨Cb,RJ,trivial⟩
theorem PF:B8 GO Tryz.f20:=⟨rfl,rfl⟩
theorem Wm (ai:Int) (af:Int) (ab:List n6) (ae:List yY) (aa:List yY) (x1:Int):exec GO 1000 [.code (d8 Tryz.prog 20)] (s7 Ge.ps ((((ai,af,()),ab,ae,aa,()),x1,()))) =
  .f7 (List.length ab<=6) (cond (decide (known ((ai,af,()),ab,ae,aa,()) x1≠(0:Int))) (.ret (([],known ((ai,af,()),ab,ae,aa,()) x1,()))) (.f7 ((0:Int)<=x1/\x1<(↑(List.length ab):Int)) (.f7 (List.length (Prod.fst (Prod.snd (Prod.fst (Prod.snd (Prod.snd (List.getD ab (Int.toNat x1) (false,[],((0:Int),[],()),((0:Int),[],()),((0:Int),[],()),())))))))<=1048576) (.ret ((Prod.fst (Prod.snd (Prod.fst (Prod.snd (Prod.snd (List.getD ab (Int.toNat x1) (false,[],((0:Int),[],()),((0:Int),[],()),((0:Int),[],()),())))))),(0:Int),())))))):=by kernel_rfl
theorem b7S:Ge.Valid Tryz.prog 20:=by
  refine o7.n8 Qg rfl rfl Tryz.func20 (c:=d8 Tryz.prog 20) rfl rfl PF rfl ?_;rintro ⟨⟨⟨(v0:Int),(v1:Int),⟨⟩⟩,(al:List n6),(od:List yY),(wy:List yY),⟨⟩⟩,(p:Int),⟨⟩⟩ ⟨(hp:al.length<=6),(hl:(M4 ((v0,v1,()),al,od,wy,()) p).2.1.length<=1048576)⟩ -
  refine j6 (n:=1000) Qg PF ?_;refine i6 (Wm v0 v1 al od wy p) ?_;simp only [j5,Tree.holds,sL];refine ⟨hp,λ _=>⟨λ a=>?_,λ a=>⟨BK a,λ _=>⟨hl,λ _=>?_⟩⟩⟩⟩
  . show (([],_,()):List yY×Int×Unit)=wP ((v0,v1,()),al,od,wy,()) p;exact (if_pos a).symm
  . show ((_,0,()):List yY×Int×Unit)=wP ((v0,v1,()),al,od,wy,()) p;exact (if_neg a).symm
theorem Et {v:vA} {al:List n6} {r:List yY×List yY×Unit} {p:Int} (a:¬ K7 (v,al,r) p≠0):0<=p/\p<(al.length:Int):=by
  unfold K7 at a;by_cases h:known (v,al,r) p≠0
  . rw [if_pos h] at a; exact absurd h a
  . exact BK h
theorem UT {s:vy} {x:yY} (h:¬ (P7 s x).2.1≠0):(0<=(P7 s x).1.1/\(P7 s x).1.1<=16777215)/\(P7 s x).1.2.1.length<=17:=by
  unfold P7 at h ⊢;by_cases h1:H7 s≠0
  . rw [if_pos h1] at h ⊢; exact absurd h1 h
  rw [if_neg h1] at h ⊢;have aL:=xr (Decidable.not_not.1 h1);by_cases h2:D9 x=true
  . rw [if_pos h2] at h; exact absurd (by decide) h
  rw [if_neg h2] at h ⊢;by_cases h3:(s.2.1.length:Int)=16\/16777215<=s.1+s.2.1.length
  . rw [if_pos h3] at h; exact absurd (by decide) h
  rw [if_neg h3];refine ⟨aL.1,?_⟩;rw [List.length_append];have:=aL.2.1;simp only [List.length_cons,List.length_nil]; omega
def setFrom (w:f9) (p:Int) (f:FrD):f9 :=
  (w.1,w.2.1.set p.toNat ((w.2.1.getD p.toNat j7).1,(w.2.1.getD p.toNat j7).2.1,f,(w.2.1.getD p.toNat j7).2.2.2),w.2.2)
def Lw (w:f9) (p:Int) (t:yY) (r:FrD):f9:=L8 (setFrom w p r) 1 p (K8 (setFrom w p r)) (r.1+r.2.1.length - 1) t
def uZ (w:f9) (p:Int) (t:yY):f9×Int :=
  if K7 w p≠0 then (w,K7 w p) else if (150:Int)<t.length then (w,2) else if (w.2.2.2.1.length:Int)=60 then (w,8)
  else if (P7 (M4 w p) t).2.1≠0 then (w,(P7 (M4 w p) t).2.1) else (Lw w p t (P7 (M4 w p) t).1,0)
def Fj:o7:={ ps:=[.rw s5,.v d9,.v .str],rs:=[d9],pre:=λ x=>List.length (α:=n6) (x.1:f9).2.1<=6,fn:=λ x=>((uZ x.1 x.2.1 x.2.2.1).2,()),out:=λ x=>((uZ x.1 x.2.1 x.2.2.1).1,()) }
noncomputable def FH:Env:={ P:=Tryz.prog,tt:=tt,C5:=[(41,CU),(42,Ln),(43,zo),(44,ze)],res:=[Go.ResultVar.tmp 6],rs:=[Ty.int IntKind.i64],ps:=[PK.rw s5,PK.v d9,PK.v Ty.str],y8:=[],nt:=64 }
theorem Oy:w5 FH:=w9 p7 ⟨Sf,c0H,EG,EA,trivial⟩
theorem Ob:B8 FH Tryz.f15:=⟨rfl,rfl⟩
theorem Uo (ai:Int) (af:Int) (ab:List n6) (ae:List yY) (aa:List yY) (x1:Int) (x2:yY):exec FH 1000 [.code (d8 Tryz.prog 15)] (s7 Fj.ps ((((ai,af,()),ab,ae,aa,()),x1,x2,()))) =
  .f7 (List.length ab<=6) (cond (decide (K7 ((ai,af,()),ab,ae,aa,()) x1≠(0:Int))) (.ret ((K7 ((ai,af,()),ab,ae,aa,()) x1,((ai,af,()),ab,ae,aa,()),()))) (cond (decide ((150:Int)<(↑(List.length x2):Int))) (.ret (((2:Int),((ai,af,()),ab,ae,aa,()),()))) (cond (decide ((↑(List.length aa):Int)=(60:Int))) (.ret (((8:Int),((ai,af,()),ab,ae,aa,()),()))) (.f7 ((0:Int)<=x1/\x1<(↑(List.length ab):Int)) (.f7 (True) (cond (decide (Prod.fst (Prod.snd (P7 (Prod.fst (Prod.snd (Prod.snd (List.getD ab (Int.toNat x1) (false,[],((0:Int),[],()),((0:Int),[],()),((0:Int),[],()),()))))) x2))≠(0:Int))) (.ret ((Prod.fst (Prod.snd (P7 (Prod.fst (Prod.snd (Prod.snd (List.getD ab (Int.toNat x1) (false,[],((0:Int),[],()),((0:Int),[],()),((0:Int),[],()),()))))) x2)),((ai,af,()),ab,ae,aa,()),()))) (.f7 ((0:Int)<=x1/\x1<(↑(List.length ab):Int)) (.f7 (True) (.f7 (r7 IntKind.i64 (Prod.fst (Prod.fst (P7 (Prod.fst (Prod.snd (Prod.snd (List.getD ab (Int.toNat x1) (false,[],((0:Int),[],()),((0:Int),[],()),((0:Int),[],()),()))))) x2))+(↑(List.length (Prod.fst (Prod.snd (Prod.fst (P7 (Prod.fst (Prod.snd (Prod.snd (List.getD ab (Int.toNat x1) (false,[],((0:Int),[],()),((0:Int),[],()),((0:Int),[],()),()))))) x2))))):Int))) (.f7 (r7 IntKind.i64 (Prod.fst (Prod.fst (P7 (Prod.fst (Prod.snd (Prod.snd (List.getD ab (Int.toNat x1) (false,[],((0:Int),[],()),((0:Int),[],()),((0:Int),[],()),()))))) x2))+(↑(List.length (Prod.fst (Prod.snd (Prod.fst (P7 (Prod.fst (Prod.snd (Prod.snd (List.getD ab (Int.toNat x1) (false,[],((0:Int),[],()),((0:Int),[],()),((0:Int),[],()),()))))) x2))))):Int) - (1:Int))) (.f7 (True) (.ret (((0:Int),L8 ((ai,af,()),List.set ab (Int.toNat x1) (Prod.fst (List.getD ab (Int.toNat x1) (false,[],((0:Int),[],()),((0:Int),[],()),((0:Int),[],()),())),Prod.fst (Prod.snd (List.getD ab (Int.toNat x1) (false,[],((0:Int),[],()),((0:Int),[],()),((0:Int),[],()),()))),Prod.fst (P7 (Prod.fst (Prod.snd (Prod.snd (List.getD ab (Int.toNat x1) (false,[],((0:Int),[],()),((0:Int),[],()),((0:Int),[],()),()))))) x2),Prod.snd (Prod.snd (Prod.snd (List.getD ab (Int.toNat x1) (false,[],((0:Int),[],()),((0:Int),[],()),((0:Int),[],()),()))))),ae,aa,()) (1:Int) x1 (K8 ((ai,af,()),List.set ab (Int.toNat x1) (Prod.fst (List.getD ab (Int.toNat x1) (false,[],((0:Int),[],()),((0:Int),[],()),((0:Int),[],()),())),Prod.fst (Prod.snd (List.getD ab (Int.toNat x1) (false,[],((0:Int),[],()),((0:Int),[],()),((0:Int),[],()),()))),Prod.fst (P7 (Prod.fst (Prod.snd (Prod.snd (List.getD ab (Int.toNat x1) (false,[],((0:Int),[],()),((0:Int),[],()),((0:Int),[],()),()))))) x2),Prod.snd (Prod.snd (Prod.snd (List.getD ab (Int.toNat x1) (false,[],((0:Int),[],()),((0:Int),[],()),((0:Int),[],()),()))))),ae,aa,())) (Prod.fst (Prod.fst (P7 (Prod.fst (Prod.snd (Prod.snd (List.getD ab (Int.toNat x1) (false,[],((0:Int),[],()),((0:Int),[],()),((0:Int),[],()),()))))) x2))+(↑(List.length (Prod.fst (Prod.snd (Prod.fst (P7 (Prod.fst (Prod.snd (Prod.snd (List.getD ab (Int.toNat x1) (false,[],((0:Int),[],()),((0:Int),[],()),((0:Int),[],()),()))))) x2))))):Int) - (1:Int)) x2,())))))))))))))):=by kernel_rfl
attribute [local irreducible] uZ L8 P7 in
theorem c0E:Fj.Valid Tryz.prog 15:=by
  refine o7.n8 Oy rfl rfl Tryz.func15 (c:=d8 Tryz.prog 15) rfl rfl Ob rfl ?_;rintro ⟨⟨⟨(v0:Int),(v1:Int),⟨⟩⟩,(al:List n6),(od:List yY),(wy:List yY),⟨⟩⟩,(p:Int),(t:yY),⟨⟩⟩ (hp:al.length<=6) -
  refine j6 (n:=1000) Oy Ob ?_;refine i6 (Uo v0 v1 al od wy p t) ?_;simp only [j5,Tree.holds,sL];obtain ⟨w,hw⟩:∃ w:f9,w=((v0,v1,()),al,od,wy,()):=⟨_,rfl⟩;have key:∀ r:f9×Int,uZ ((v0,v1,()),al,od,wy,()) p t=r->(((r.2,r.1,()):Int×f9×Unit)=((uZ ((v0,v1,()),al,od,wy,()) p t).2,(uZ ((v0,v1,()),al,od,wy,()) p t).1,())):=by rintro r rfl; rfl
  have e1:=λ a=>(uZ.eq_1 ((v0,v1,()),al,od,wy,()) p t).trans (if_pos a);have e2:=λ a=>(uZ.eq_1 ((v0,v1,()),al,od,wy,()) p t).trans (if_neg a);refine ⟨hp,λ _=>⟨λ a=>key (_,_) (e1 a),λ a=>⟨λ b=>key (_,_) ((e2 a).trans (if_pos b)),λ b=>⟨λ c=>key (_,_) ((e2 a).trans ((if_neg b).trans (if_pos c))),
    λ c=>⟨Et a,λ _=>⟨λ d=>key (_,_) ((e2 a).trans ((if_neg b).trans ((if_neg c).trans (if_pos d)))),λ d=>?_⟩⟩⟩⟩⟩⟩
  have hk:=UT (s:=M4 ((v0,v1,()),al,od,wy,()) p) (x:=t) d;simp only [M4] at hk;refine ⟨Et a,λ _=>⟨?_,λ _=>⟨?_,λ _=>key (_,_) ((e2 a).trans ((if_neg b).trans ((if_neg c).trans (if_neg d))))⟩⟩⟩
  . simp only [j7] at hk; omega
  . simp only [j7] at hk; omega
def ttN:List (TypeId×TI):=(76,TI.mk s5 88)::(74,TI.mk (.d0 true wL) 24)::(85,TI.mk wL 128)::tt
theorem UO:ttN.all (xa Tryz.prog)=true:=by kernel_rfl
def AF (n:Int):Int:=IntKind.wrap .u8 (IntKind.wrap .u8 (1*2^min n.toNat (IntKind.bits .u8)) - 1)
def CH (n:Int):Option f9×Int×Unit:=if I2 n 1 6=true then (some ((0,AF n,()),List.replicate n.toNat j7,[],[],()),0,()) else (none,1,())
def Fi:o7:={ ps:=[.v d9],rs:=[.box true none s5,d9],pre:=λ _=>True,fn:=λ x=>CH x.1,out:=λ _=>() }
noncomputable def FG:Env:={ P:=Tryz.prog,tt:=ttN,C5:=[(40,zd)],res:=[Go.ResultVar.tmp 2,Go.ResultVar.tmp 3],rs:=[Ty.box true none s5,Ty.int IntKind.i64],ps:=[PK.v d9],y8:=[],nt:=15 }
theorem Ox:w5 FG:=w9 UO ⟨Ez,trivial⟩
theorem Oa:B8 FG Tryz.f14:=⟨rfl,rfl⟩
theorem Un (x0:Int):exec FG 1000 [.code (d8 Tryz.prog 14)] (s7 Fi.ps ((x0,()))) =
  .f7 (True) (cond (!I2 x0 (1:Int) (6:Int)) (.ret ((none,(1:Int),()))) (.f7 ((0:Int)<=x0) (.f7 ((0:Int)<=x0/\x0<=x0/\x0<=(140737488355328:Int)/\x0*(↑(Ty.wb wL):Int)<=(140737488355328:Int)) (.ret ((some (((0:Int),IntKind.wrap IntKind.u8 (IntKind.wrap IntKind.u8 ((1:Int)*(2:Int)^min (Int.toNat x0) (IntKind.bits IntKind.u8)) - (1:Int)),()),List.replicate (Int.toNat x0) (false,[],((0:Int),[],()),((0:Int),[],()),((0:Int),[],()),()),[],[],()),(0:Int),())))))):=by kernel_rfl
theorem RD:Fi.Valid Tryz.prog 14:=by
  refine o7.n8 Ox rfl rfl Tryz.func14 (c:=d8 Tryz.prog 14) rfl rfl Oa rfl ?_;rintro ⟨(n:Int),⟨⟩⟩ - -
  refine j6 (n:=1000) Ox Oa ?_;refine i6 (Un n) ?_;have hw:Ty.wb wL=128:=rfl;simp only [j5,Tree.holds,hw,sL];refine ⟨λ a=>?_,λ a=>?_⟩
  . show ((none,1,()):Option f9×Int×Unit)=CH n;exact (if_neg (by rw [a]; simp)).symm
  . have ha:=U4.1 a;refine ⟨by omega,λ _=>⟨⟨by omega,by omega,by omega⟩,λ _=>?_⟩⟩;show (_:Option f9×Int×Unit)=CH n;exact (if_pos a).symm
def M3 (p:Int) (l:List C4) (w:f9):Nat->f9
  | 0=>w
  | k+1=>L8 (M3 p l w k) 1 p (K8 (M3 p l w k)) (l.getD k (0,[],())).1 (l.getD k (0,[],())).2.1
theorem El {w:f9} {k f t s:Int} {x:yY}:(L8 w k f t s x).2.1=w.2.1/\(L8 w k f t s x).1=w.1/\(L8 w k f t s x).2.2.1=w.2.2.1:=by
  by_cases h:(T4 (k,f,t,w.1.1,s,[0,0,0,0,0,0],x,())).2.1=0/\(w.2.2.2.1.length:Int)<60
  . rw [Kc h.1 h.2]; exact ⟨rfl,rfl,rfl⟩
  . rw [Em h]; exact ⟨rfl,rfl,rfl⟩
theorem Kr {p:Int} {l:List C4} {w:f9}:∀ k,(M3 p l w k).2.1=w.2.1/\(M3 p l w k).1=w.1/\(M3 p l w k).2.2.1=w.2.2.1
  | 0=>⟨rfl,rfl,rfl⟩
  | k+1=>by
    obtain ⟨h1,h2,h3⟩:=Kr (p:=p) (l:=l) (w:=w) k;obtain ⟨g1,g2,g3⟩:=El (w:=M3 p l w k) (k:=1) (f:=p) (t:=K8 (M3 p l w k)) (s:=(l.getD k (0,[],())).1) (x:=(l.getD k (0,[],())).2.1);exact ⟨g1.trans h1,g2.trans h2,g3.trans h3⟩
def Cp (w:f9) (p:Int):f9:=L8 w 3 p (K8 w) (w.2.1.getD p.toNat j7).2.2.2.1.1 []
def xN (w:f9) (p:Int):List C4:=(wq (M4 w p) 4).1
def V1 (w:f9) (p:Int):f9×Int :=
  if K7 w p≠0 then (w,K7 w p) else (Cp (M3 p (xN w p) w (xN w p).length) p,0)
def Hk:o7:={ ps:=[.rw s5,.v d9],rs:=[d9],pre:=λ x=>List.length (α:=n6) (x.1:f9).2.1<=6,fn:=λ x=>((V1 x.1 x.2.1).2,()),out:=λ x=>((V1 x.1 x.2.1).1,()) }
noncomputable def Bn:Env:={ P:=Tryz.prog,tt:=tt,C5:=[(41,CU),(54,HP),(43,zo),(44,ze)],res:=[Go.ResultVar.tmp 4],rs:=[Ty.int IntKind.i64],ps:=[PK.rw s5,PK.v d9],y8:=[(6,[(0,none),(1,none),(28,some (Ty.d0 true p9)),(29,none),(30,none)])],nt:=58 }
theorem JT:w5 Bn:=w9 p7 ⟨Sf,b39,EG,EA,trivial⟩
theorem JX:B8 Bn Tryz.f26:=⟨rfl,rfl⟩
theorem XX (ai:Int) (af:Int) (ab:List n6) (ae:List yY) (aa:List yY) (x1:Int):exec Bn 1000 [.code (d8 Tryz.prog 26)] (s7 Hk.ps ((((ai,af,()),ab,ae,aa,()),x1,()))) =
  .f7 (List.length ab<=6) (cond (decide (K7 ((ai,af,()),ab,ae,aa,()) x1≠(0:Int))) (.ret ((K7 ((ai,af,()),ab,ae,aa,()) x1,((ai,af,()),ab,ae,aa,()),()))) (.f7 ((0:Int)<=x1/\x1<(↑(List.length ab):Int)) (.f7 (True) (.ctL (f8 (d8 Tryz.prog 26) 6) (St.mk [(0,AV.ptr 2000000 []),(1,AV.val d9 x1),(28,AV.at_ 1000028 []),(29,AV.val d9 (↑(List.length (Prod.fst (wq (Prod.fst (Prod.snd (Prod.snd (List.getD ab (Int.toNat x1) (false,[],((0:Int),[],()),((0:Int),[],()),((0:Int),[],()),()))))) (4:Int)))):Int)),(30,AV.val d9 (0:Int))] [(1000028,g8.own (Ty.d0 true p9) (Prod.fst (wq (Prod.fst (Prod.snd (Prod.snd (List.getD ab (Int.toNat x1) (false,[],((0:Int),[],()),((0:Int),[],()),((0:Int),[],()),()))))) (4:Int)))),(2000000,g8.var s5 ((ai,af,()),ab,ae,aa,()))]))))):=by kernel_rfl
def JU (v1:Int) (wc:Int) (v30:Int) (eD:List (Int×yY×Unit)) (ar:Int) (an:Int) (aj:List n6) (ak:List yY) (ah:List yY):St:=St.mk [(0,AV.ptr 2000000 []),(1,AV.val d9 v1),(28,AV.at_ 1000028 []),(29,AV.val d9 wc),(30,AV.val d9 v30)] [(1000028,g8.own (Ty.d0 true p9) eD),(2000000,g8.var s5 ((ar,an,()),aj,ak,ah,()))]
theorem ZB (v1:Int) (wc:Int) (v30:Int) (eD:List (Int×yY×Unit)) (ar:Int) (an:Int) (aj:List n6) (ak:List yY) (ah:List yY):exec Bn 1000 (.code (f8 (d8 Tryz.prog 26) 6).1::.inLoop (f8 (d8 Tryz.prog 26) 6).1::(f8 (d8 Tryz.prog 26) 6).2) (JU v1 wc v30 eD ar an aj ak ah) =
  cond (decide (v30<wc)) (.f7 ((0:Int)<=v30/\v30<(↑(List.length eD):Int)) (.f7 (True) (.f7 (True) (.f7 (r7 IntKind.i64 (v30+(1:Int))) (.ctL (f8 (d8 Tryz.prog 26) 6) (St.mk [(0,AV.ptr 2000000 []),(1,AV.val d9 v1),(28,AV.at_ 1000028 []),(29,AV.val d9 wc),(30,AV.val d9 (v30+(1:Int)))] [(1000028,g8.own (Ty.d0 true p9) eD),(2000000,g8.var s5 (L8 ((ar,an,()),aj,ak,ah,()) (1:Int) v1 (K8 ((ar,an,()),aj,ak,ah,())) (Prod.fst (List.getD eD (Int.toNat v30) ((0:Int),[],()))) (Prod.fst (Prod.snd (List.getD eD (Int.toNat v30) ((0:Int),[],()))))))])))))) (.f7 (True) (.f7 ((0:Int)<=v1/\v1<(↑(List.length aj):Int)) (.f7 (True) (.ret (((0:Int),L8 ((ar,an,()),aj,ak,ah,()) (3:Int) v1 (K8 ((ar,an,()),aj,ak,ah,())) (Prod.fst (Prod.fst (Prod.snd (Prod.snd (Prod.snd (List.getD aj (Int.toNat v1) (false,[],((0:Int),[],()),((0:Int),[],()),((0:Int),[],()),()))))))) (Array.toList (ByteArray.data (ByteArray.mk #[]))),())))))):=by kernel_rfl
theorem b99 (s:vy) (m:Int):(wq s m).1.length<=16:=by
  unfold wq;by_cases h:H7 s≠0
  . rw [if_pos h]; exact Nat.zero_le _
  . rw [if_neg h];exact Nat.le_trans Kq (xr (Decidable.not_not.1 h)).2.1
attribute [local irreducible] V1 L8 wq in
theorem b5N:Hk.Valid Tryz.prog 26:=by
  refine o7.n8 JT rfl rfl Tryz.func26 (c:=d8 Tryz.prog 26) rfl rfl JX rfl ?_;rintro ⟨⟨⟨(v0:Int),(v1:Int),⟨⟩⟩,(al:List n6),(od:List yY),(wy:List yY),⟨⟩⟩,(p:Int),⟨⟩⟩ (hp:al.length<=6) -
  refine j6 (n:=1000) JT JX ?_;refine i6 (XX v0 v1 al od wy p) ?_;simp only [j5,Tree.holds,sL];have key:∀ r:f9×Int,V1 ((v0,v1,()),al,od,wy,()) p=r->(((r.2,r.1,()):Int×f9×Unit)=((V1 ((v0,v1,()),al,od,wy,()) p).2,(V1 ((v0,v1,()),al,od,wy,()) p).1,())):=by rintro r rfl; rfl
  have e1:=λ a=>(V1.eq_1 ((v0,v1,()),al,od,wy,()) p).trans (if_pos a);have e2:=λ a=>(V1.eq_1 ((v0,v1,()),al,od,wy,()) p).trans (if_neg a);refine ⟨hp,λ _=>⟨λ a=>key (_,_) (e1 a),λ a=>⟨Et a,λ _=>?_⟩⟩⟩;obtain ⟨w,hw⟩:∃ w:f9,w=((v0,v1,()),al,od,wy,()):=⟨_,rfl⟩;obtain ⟨l,hl⟩:∃ l,l=xN ((v0,v1,()),al,od,wy,()) p:=⟨_,rfl⟩;have lG:l.length<=16:=by rw [hl]; exact b99 _ _
  have e3:V1 ((v0,v1,()),al,od,wy,()) p=(Cp (M3 p l w l.length) p,0):=by rw [e2 a,hl,hw]
  suffices go:Go.Ex.Reach Bn Tryz.f26 ((0:Int),()) (Cp (M3 p l w l.length) p,()) (.code (f8 (d8 Tryz.prog 26) 6).1::.inLoop (f8 (d8 Tryz.prog 26) 6).1::(f8 (d8 Tryz.prog 26) 6).2) (JU p (l.length:Int) ((0:Nat):Int) l (M3 p l w 0).1.1 (M3 p l w 0).1.2.1 (M3 p l w 0).2.1 (M3 p l w 0).2.2.1 (M3 p l w 0).2.2.2.1) by
    subst hw;subst hl;rw [e3];exact go
  refine Reach.J8 JT JX (λ i:Nat=>JU p (l.length:Int) (i:Int) l (M3 p l w i).1.1 (M3 p l w i).1.2.1 (M3 p l w i).2.1 (M3 p l w i).2.2.1 (M3 p l w i).2.2.2.1) (λ i=>i<=l.length)
    (λ i=>l.length - i) 1000 (λ _=>⟨r8 rfl,r8 rfl⟩) ?_ 0 (Nat.zero_le _)
  rintro i k1 - ih;have k1:i<=l.length:=k1;refine i6 (ZB ..) ?_;have e4:((i:Nat):Int)+1=((i+1:Nat):Int):=by omega
  simp only [j5,Tree.holds,e4,sL];refine ⟨λ c=>⟨⟨by omega,by omega⟩,λ _=>⟨by omega,λ _=>?_⟩⟩,λ c=>⟨?_,λ _=>?_⟩⟩
  . exact ih (i+1) (by show i+1<=l.length; omega) (by show l.length - (i+1)<l.length - i; omega)
  . rw [(Kr i).1,hw]; exact Et a
  . obtain rfl:i=l.length:=by omega
    rfl
end Go.Proofs.YtijlnmgondibnaaGreatDoor
namespace Go.Proofs.YtijlnmgondibnaaGreatDoor
set_option maxRecDepth 100000
def vf:Nat->Nat->yY
  | 0,_=>[]
  | f+1,u=>if u<10 then [UInt8.ofNat (48+u)] else vf f (u / 10)++[UInt8.ofNat (48+u % 10)]
theorem HV:∀ (f u:Nat),u<10^f->1<=f->Lib.decDigits u=vf f u
  | 0,_,_,h=>absurd h (by decide)
  | f+1,u,h,_=>by
    rw [Lib.decDigits,vf];by_cases c:u<10
    . rw [dif_pos c,if_pos c]
    . rw [dif_neg c,if_neg c];have hf:1<=f:=by
        rcases f with _|f
        . simp at h; omega
        . omega
      rw [HV f (u / 10) (by rw [Nat.pow_succ] at h; exact Nat.div_lt_of_lt_mul (by omega)) hf]
def C7 (n:Int):yY:=if n<0 then 45::vf 20 n.natAbs else vf 20 n.toNat
theorem UW {n:Int} (h0:-9223372036854775808<=n) (h1:n<=9223372036854775807):Lib.itoa n=C7 n:=by
  have h9:(10:Nat)^20=100000000000000000000:=by decide
  unfold Lib.itoa C7;by_cases c:n<0
  . rw [if_pos c,if_pos c,HV 20 n.natAbs (by omega) (by decide)]
  . rw [if_neg c,if_neg c,HV 20 n.toNat (by omega) (by decide)]
theorem Jk {d:Nat} (h:d<10):(UInt8.ofNat (48+d)).toNat=48+d:=by
  rw [UInt8.toNat_ofNat']; omega
theorem Ji:∀ (f u:Nat),∀ b∈vf f u,48<=b.toNat/\b.toNat<=57
  | 0,_,b,h=>by cases h
  | f+1,u,b,h=>by
    rw [vf] at h;split at h
    . rename_i c;rw [List.mem_singleton.1 h,Jk c]; omega
    . rcases List.mem_append.1 h with h|h
      . exact Ji f _ b h
      . rw [List.mem_singleton.1 h,Jk (Nat.mod_lt _ (by decide))];have:=Nat.mod_lt u (show 0<10 by decide); omega
theorem VI {f u:Nat}:vf (f+1) u≠[]:=by
  rw [vf]; split
  . exact List.cons_ne_nil _ _
  . simp
theorem DI:∀ (f u k:Nat),u<10^k->1<=k->(vf f u).length<=k
  | 0,_,_,_,_=>Nat.zero_le _
  | f+1,u,k,h,hk=>by
    rw [vf];by_cases c:u<10
    . rw [if_pos c]; exact hk
    . rw [if_neg c];rcases k with _|_|k
      . omega
      . simp at h; omega
      . have:=DI f (u / 10) (k+1) (by rw [Nat.pow_succ] at h; exact Nat.div_lt_of_lt_mul (by omega)) (by omega);rw [List.length_append]; simp only [List.length_singleton]; omega
theorem KI:∀ (l:yY) (acc:Nat) (b:UInt8) (a d:Nat),Lib.decFrom acc l=some a->Lib.digitVal b=some d->Lib.decFrom acc (l++[b])=some (a*10+d)
  | [],acc,b,a,d,h,hd=>by
    simp only [Lib.decFrom,Option.some.injEq] at h;subst h;simp [Lib.decFrom,hd]
  | x::l,acc,b,a,d,h,hd=>by
    rw [List.cons_append];rw [Lib.decFrom] at h ⊢;cases e:Lib.digitVal x with
    | none=>rw [e] at h; cases h
    | some y=>rw [e] at h; exact KI l _ b a d h hd
theorem SF {d:Nat} (h:d<10):Lib.digitVal (UInt8.ofNat (48+d))=some d:=by
  unfold Lib.digitVal;rw [Jk h,if_pos (by omega)];congr 1; omega
theorem QW:∀ (f u:Nat),u<10^f->1<=f->Lib.decFrom 0 (vf f u)=some u
  | 0,_,_,h=>absurd h (by decide)
  | f+1,u,h,_=>by
    rw [vf];by_cases c:u<10
    . rw [if_pos c];have:=KI [] 0 _ 0 u rfl (SF c);simpa using this
    . rw [if_neg c];have hf:1<=f:=by
        rcases f with _|f
        . simp at h; omega
        . omega
      have h1:=QW f (u / 10) (by rw [Nat.pow_succ] at h; exact Nat.div_lt_of_lt_mul (by omega)) hf;rw [KI _ 0 _ _ _ h1 (SF (Nat.mod_lt _ (by decide)))];congr 1; omega
theorem Iw {n:Nat}:C7 (n:Int)=vf 20 n:=by
  unfold C7; rw [if_neg (by omega)]; rfl
theorem Ek {n:Nat} (h:n<10^20):Lib.atoi (C7 (n:Int))=some (n:Int):=by
  rw [Iw];have h1:=QW 20 n h (by decide);have h2:=Ji 20 n;have h3:vf 20 n≠[]:=VI;generalize vf 20 n=l at *
  cases l with
  | nil=>exact absurd rfl h3
  | cons b r =>
    have hb:=h2 b List.mem_cons_self;have b1:(b == 45)=false:=by
      rw [beq_eq_false_iff_ne]; rintro rfl; exact absurd hb.1 (by decide)
    have b2:(b == 43)=false:=by
      rw [beq_eq_false_iff_ne]; rintro rfl; exact absurd hb.1 (by decide)
    simp [Lib.atoi,b1,b2,Lib.decNat,h1]
theorem Ns {n:Nat}:(58:UInt8)∉C7 (n:Int):=by
  rw [Iw];intro h;have:=Ji 20 n _ h;exact absurd this.2 (by decide)
theorem Pd {n:Nat} (k:Nat) (h:n<10^k) (hk:1<=k):(C7 (n:Int)).length<=k:=by
  rw [Iw]; exact DI 20 n k h hk
theorem Ci {n:Int} (h0:-9223372036854775808<=n) (h1:n<=9223372036854775807):(C7 n).length<=20:=by
  have h9:(10:Nat)^19=10000000000000000000:=by decide
  unfold C7
  split
  . rw [List.length_cons];have:=DI 20 n.natAbs 19 (by omega) (by decide);omega
  . have:=DI 20 n.toNat 19 (by omega) (by decide);omega
def x6:yY->yY×yY×Bool
  | []=>([],[],false)
  | b::l=>if b=58 then ([],l,true) else if (x6 l).2.2=true then (b::(x6 l).1,(x6 l).2.1,true) else (b::l,[],false)
theorem NK:∀ s:yY,Lib.cut s [58]=x6 s
  | []=>by decide
  | b::l=>by
    have ih:=NK l;have hg:=Lib.index_ge l [58];by_cases e:b=58
    . subst e;rw [x6,if_pos rfl];simp [Lib.cut,Lib.index,List.isPrefixOf]
    . have hp:List.isPrefixOf [58] (b::l)=false:=by simp [List.isPrefixOf,Ne.symm e]
      have e1:Lib.index (b::l) [58]=if Lib.index l [58] == -1 then -1 else Lib.index l [58]+1:=by rw [Lib.index,hp]; simp
      rw [x6,if_neg e,<- ih];unfold Lib.cut;rw [e1];by_cases c:Lib.index l [58]=-1
      . rw [c]; simp
      . have c0:0<=Lib.index l [58]:=by omega
        obtain ⟨k,hk⟩:∃ k:Nat,Lib.index l [58]=k:=⟨_,(Int.toNat_of_nonneg c0).symm⟩;rw [hk];have c1:((k:Int) == -1)=false:=by rw [beq_eq_false_iff_ne]; omega
        rw [c1];have c2:(0:Int)<=k:=by omega
        have c3:(0:Int)<=(k:Int)+1:=by omega
        have c4:((k:Int)+1).toNat=k+1:=by omega
        have c5:k+1+1=k+1+1:=rfl;simp [c2,c3,c4]
theorem Bv (s:yY):(x6 s).1.length<=s.length/\(x6 s).2.1.length<=s.length:=by
  induction s with
  | nil=>exact ⟨Nat.le_refl _,Nat.le_refl _⟩
  | cons b l ih =>
    rw [x6]
    split
    . exact ⟨Nat.zero_le _,by simp⟩
    . split
      . simp only [List.length_cons]; omega
      . simp
theorem HT:∀ {a b:yY},(58:UInt8)∉a->x6 (a++58::b)=(a,b,true)
  | [],b,_=>by rw [List.nil_append,x6,if_pos rfl]
  | x::a,b,h=>by
    have hx:x≠58:=λ e=>h (by rw [e]; exact List.mem_cons_self);have ih:=HT (a:=a) (b:=b) (λ e=>h (List.mem_cons_of_mem _ e));rw [List.cons_append,x6,if_neg hx,ih,if_pos rfl]
def I5 (p k:Int) (t:yY):yY:=C7 p++[58]++C7 k++[58]++t
theorem Ec (p k:Nat) (t:yY):x6 (I5 p k t)=(C7 p,C7 k++[58]++t,true):=by
  unfold I5;rw [show C7 (p:Int)++[58]++C7 (k:Int)++[58]++t=C7 (p:Int)++58::(C7 (k:Int)++[58]++t) by simp];exact HT Ns
theorem JH (k:Nat) (t:yY):x6 (C7 k++[58]++t)=(C7 k,t,true):=by
  rw [show C7 (k:Int)++[58]++t=C7 (k:Int)++58::t by simp];exact HT Ns
end Go.Proofs.YtijlnmgondibnaaGreatDoor
namespace Go.Proofs.YtijlnmgondibnaaGreatDoor
open Go.Ex
set_option maxRecDepth 100000
def ub (n:Int):UInt8:=UInt8.ofNat (n % 256).toNat
def tb (n:Int):yY:=[ub n,ub (n / 256),ub (n / 65536)]
theorem Fs (x:UInt8):ub (x.toNat:Int)=x:=by
  have:=x.toNat_lt;apply UInt8.toNat_inj.1;rw [ub,DU]; omega
theorem Da (n:Int):((ub n).toNat:Int)=n % 256:=by rw [ub,DU]; omega
theorem xT (x y z:UInt8):tb ((x.toNat:Int)+(y.toNat:Int)*256+(z.toNat:Int)*65536)=[x,y,z]:=by
  have h1:=x.toNat_lt;have h2:=y.toNat_lt;have h3:=z.toNat_lt;rw [tb,List.cons.injEq,List.cons.injEq,List.cons.injEq];refine ⟨?_,?_,?_,rfl⟩<;>(apply UInt8.toNat_inj.1; rw [ub,DU]; omega)
theorem RX (l:List Int):wO (l.flatMap T7)=l.flatMap tb:=by
  induction l with
  | nil=>rfl
  | cons x l ih=>rw [List.flatMap_cons,Eb,ih,List.flatMap_cons]; rfl
theorem Jb (n:y9):vK n=[ub n.1,ub n.2.1,ub n.2.2.1]++(X9 n).flatMap tb++n.2.2.2.2.2.2.1:=by
  rw [vK,yr,Eb,Eb,RX,JG]; rfl
theorem G1 {k:Nat} {s:yY} (h:k+1<=s.length):∃ b t,s=b::t/\k<=t.length:=by
  match s,h with
  | b::t,h=>exact ⟨b,t,rfl,by simpa using h⟩
theorem Zw {s:yY} (h:27<=s.length):vK (parse s)=s:=by
  obtain ⟨b0,t0,rfl,h0⟩:=G1 (k:=26) h;obtain ⟨b1,t1,rfl,h1⟩:=G1 (k:=25) h0;obtain ⟨b2,t2,rfl,h2⟩:=G1 (k:=24) h1;obtain ⟨b3,t3,rfl,h3⟩:=G1 (k:=23) h2;obtain ⟨b4,t4,rfl,h4⟩:=G1 (k:=22) h3;obtain ⟨b5,t5,rfl,h5⟩:=G1 (k:=21) h4;obtain ⟨b6,t6,rfl,h6⟩:=G1 (k:=20) h5;obtain ⟨b7,t7,rfl,h7⟩:=G1 (k:=19) h6;obtain ⟨b8,t8,rfl,h8⟩:=G1 (k:=18) h7;obtain ⟨b9,t9,rfl,h9⟩:=G1 (k:=17) h8;obtain ⟨AB,t10,rfl,iZ⟩:=G1 (k:=16) h9;obtain ⟨Az,t11,rfl,jG⟩:=G1 (k:=15) iZ;obtain ⟨Ay,t12,rfl,um⟩:=G1 (k:=14) jG;obtain ⟨wF,t13,rfl,uk⟩:=G1 (k:=13) um;obtain ⟨Ax,t14,rfl,uj⟩:=G1 (k:=12) uk;obtain ⟨Aw,t15,rfl,ui⟩:=G1 (k:=11) uj;obtain ⟨yl,t16,rfl,oq⟩:=G1 (k:=10) ui;obtain ⟨b17,t17,rfl,uh⟩:=G1 (k:=9) oq;obtain ⟨b18,t18,rfl,ug⟩:=G1 (k:=8) uh;obtain ⟨b19,t19,rfl,uf⟩:=G1 (k:=7) ug;obtain ⟨b20,t20,rfl,ue⟩:=G1 (k:=6) uf;obtain ⟨b21,t21,rfl,ud⟩:=G1 (k:=5) ue;obtain ⟨b22,t22,rfl,uc⟩:=G1 (k:=4) ud;obtain ⟨b23,t23,rfl,ua⟩:=G1 (k:=3) uc;obtain ⟨b24,t24,rfl,tZ⟩:=G1 (k:=2) ua;obtain ⟨b25,t25,rfl,tY⟩:=G1 (k:=1) tZ;obtain ⟨b26,t,rfl,uF⟩:=G1 (k:=0) tY;rw [Jb];show [ub (b0.toNat:Int),ub (b1.toNat:Int),ub (b2.toNat:Int)]++(tb ((b3.toNat:Int)+(b4.toNat:Int)*256+(b5.toNat:Int)*65536)++(tb ((b6.toNat:Int)+(b7.toNat:Int)*256+(b8.toNat:Int)*65536)++(tb ((b9.toNat:Int)+(AB.toNat:Int)*256+(Az.toNat:Int)*65536)++(tb ((Ay.toNat:Int)+(wF.toNat:Int)*256+(Ax.toNat:Int)*65536)++(tb ((Aw.toNat:Int)+(yl.toNat:Int)*256+(b17.toNat:Int)*65536)++(tb ((b18.toNat:Int)+(b19.toNat:Int)*256+(b20.toNat:Int)*65536)++(tb ((b21.toNat:Int)+(b22.toNat:Int)*256+(b23.toNat:Int)*65536)++(tb ((b24.toNat:Int)+(b25.toNat:Int)*256+(b26.toNat:Int)*65536)++[]))))))))++t=_;rw [xT,xT,xT,xT,xT,xT,xT,xT,Fs,Fs,Fs];rfl
theorem b9Z:∀ {n:y9},Hp n->n.2.2.2.2.2.1.length=6->parse (vK n)=n
  | (a,b,c,d,e,[v0,v1,v2,v3,v4,v5],t,()),h,_=>by
    have num:∀ x:Int,0<=x/\x<=16777215->((ub x).toNat:Int)+((ub (x / 256)).toNat:Int)*256+((ub (x / 65536)).toNat:Int)*65536=x:=by
      intro x hx; rw [Da,Da,Da]; omega
    have one:∀ x:Int,0<=x/\x<=255->((ub x).toNat:Int)=x:=by intro x hx; rw [Da]; omega
    rw [Jb];show (((ub a).toNat:Int),((ub b).toNat:Int),((ub c).toNat:Int),((ub d).toNat:Int)+((ub (d / 256)).toNat:Int)*256+((ub (d / 65536)).toNat:Int)*65536,((ub e).toNat:Int)+((ub (e / 256)).toNat:Int)*256+((ub (e / 65536)).toNat:Int)*65536,
      [((ub v0).toNat:Int)+((ub (v0 / 256)).toNat:Int)*256+((ub (v0 / 65536)).toNat:Int)*65536,((ub v1).toNat:Int)+((ub (v1 / 256)).toNat:Int)*256+((ub (v1 / 65536)).toNat:Int)*65536,((ub v2).toNat:Int)+((ub (v2 / 256)).toNat:Int)*256+((ub (v2 / 65536)).toNat:Int)*65536,
       ((ub v3).toNat:Int)+((ub (v3 / 256)).toNat:Int)*256+((ub (v3 / 65536)).toNat:Int)*65536,((ub v4).toNat:Int)+((ub (v4 / 256)).toNat:Int)*256+((ub (v4 / 65536)).toNat:Int)*65536,((ub v5).toNat:Int)+((ub (v5 / 256)).toNat:Int)*256+((ub (v5 / 65536)).toNat:Int)*65536],t,())=_
    have hv:∀ x∈[v0,v1,v2,v3,v4,v5],0<=x/\x<=16777215:=h.at_;have hf:0<=b/\b<=5:=h.from_;have ht:0<=c/\c<=5:=h.to;rw [one a h.kind,one b (by omega),one c (by omega),num d h.view,num e h.seq,num v0 (hv _ (by simp)),num v1 (hv _ (by simp)),num v2 (hv _ (by simp)),num v3 (hv _ (by simp)),num v4 (hv _ (by simp)),num v5 (hv _ (by simp))]
theorem Xd {n:y9} (h:n.2.2.2.2.2.1.length=6):(vK n).length=27+n.2.2.2.2.2.2.1.length:=by
  have:∀ l:List Int,(l.flatMap tb).length=3*l.length:=λ l=>by rw [<- RX,wO,List.length_map,Qs]
  rw [Jb,List.length_append,List.length_append,this];show 3+3*(n.2.2.2.2.2.1.length+1+1)+_=_;omega
theorem WS {n:y9} (aL:Hp n) (h:n.2.2.2.2.2.1.length=6):31<=(Z6 n).length/\(Z6 n).length<=231:=by
  rw [Z6,List.length_append,Xd h];have:=aL.text;show _/\_+4<=231;exact ⟨by show 31<=_+4; omega,by omega⟩
theorem Yu {n:y9} (hc:H6 n=0) (h:n.2.2.2.2.2.1.length=6):w7 (Z6 n)=(n,0,()):=by
  have aL:=JQ hc;obtain ⟨h1,h2⟩:=WS aL h;have e4:(Z6 n).length - 4=(vK n).length:=by rw [Z6,List.length_append]; show (vK n).length+4 - 4=_; omega
  have e5:(Z6 n).take ((Z6 n).length - 4)=vK n:=by rw [e4,Z6,List.take_left']; rfl
  have e6:(Z6 n).drop ((Z6 n).length - 4)=le4 (vi (vK n)):=by rw [e4,Z6,List.drop_left']; rfl
  rw [w7,if_neg (by omega),if_neg (by omega),e5,e6,if_neg (λ c=>c rfl),b9Z aL h,if_neg (λ c=>c hc)]
theorem Vh {s:yY} (h:(w7 s).2.1=0):H6 (w7 s).1=0/\Z6 (w7 s).1=s:=by
  unfold w7 at h ⊢;split at h
  . cases h
  split at h
  . cases h
  split at h
  . cases h
  split at h
  . rename_i c; exact absurd h c
  . rename_i c1 c2 c3 c4;rw [if_neg c1,if_neg c2,if_neg c3,if_neg c4];have hl:27<=(s.take (s.length - 4)).length:=by rw [List.length_take]; omega
    refine ⟨Decidable.not_not.1 c4,?_⟩;show vK (parse (s.take (s.length - 4)))++le4 (vi (vK (parse (s.take (s.length - 4)))))=s;rw [Zw hl,Decidable.not_not.1 c3,List.take_append_drop]
theorem WR {n:y9} (h:H6 n=0):T4 n=(Z6 n,0,()):=by rw [T4,if_neg (λ c=>c h)]
theorem WQ {n:y9} (h:H6 n≠0):T4 n=([],H6 n,()):=by rw [T4,if_pos h]
def N3 (w:f9) (p:Int):n6:=w.2.1.getD p.toNat j7
def yc (w:f9) (p:Int) (x:n6):f9:=(w.1,w.2.1.set p.toNat x,w.2.2)
def zq (w:f9) (x:yY):f9:=(w.1,w.2.1,w.2.2.1++[x],w.2.2.2)
def G4 (x:yY) (w:f9):Nat->f9
  | 0=>w
  | p+1=>if s4 (G4 x w p) p=true then L8 (G4 x w p) 2 (K8 (G4 x w p)) p (((G4 x w p).2.2.1.length:Int) - 1) x else G4 x w p
def I6 (f first:Int) (l:List yY) (w:f9):Nat->f9
  | 0=>w
  | i+1=>G4 (I5 f (first+i) (l.getD i [])) (zq (I6 f first l w i) (I5 f (first+i) (l.getD i []))) (I6 f first l w i).2.1.length
def X8 (w:f9) (n:y9):ToD×List yY×Int×Unit:=D3 (N3 w n.2.1).2.2.2.2.1 (n.2.2.2.2.1,n.2.2.2.2.2.2.1,())
def xR (x:n6) (r:ToD):n6:=(x.1,x.2.1,x.2.2.1,x.2.2.2.1,r,())
def W6 (w:f9) (n:y9):f9 :=
  if (X8 w n).2.2.1≠0 then w else
  I6 n.2.1 (N3 w n.2.1).2.2.2.2.1.1 (X8 w n).2.1 (yc w n.2.1 (xR (N3 w n.2.1) (X8 w n).1)) (X8 w n).2.1.length
def who (t:yY):Int:=(Lib.atoi (x6 t).1).getD 0
def nth (t:yY):Int:=(Lib.atoi (x6 (x6 t).2.1).1).getD 0
def wH (t:yY):yY:=(x6 (x6 t).2.1).2.1
def vL (q:Int) (x:n6) (t:yY):n6 :=
  if who t=q/\(Q4 x.2.2.1 (nth t+1)).2.1=0 then (x.1,x.2.1++[(who t,wH t,())],(Q4 x.2.2.1 (nth t+1)).1,x.2.2.2) else (x.1,x.2.1++[(who t,wH t,())],x.2.2)
def J5 (q:Int) (x:n6) (l:List yY):Nat->n6
  | 0=>x
  | i+1=>vL q (J5 q x l i) (l.getD i [])
def P9 (w:f9) (n:y9):ToD×List yY×Int×Unit:=D3 (N3 w n.2.2.1).2.2.2.1 (n.2.2.2.2.1,n.2.2.2.2.2.2.1,())
def AE (x:n6) (r:ToD):n6:=(x.1,x.2.1,x.2.2.1,r,x.2.2.2.2)
def vn (w:f9) (n:y9):f9 :=
  if (P9 w n).2.2.1≠0 then w else
  yc w n.2.2.1 (J5 n.2.2.1 (AE (N3 w n.2.2.1) (P9 w n).1) (P9 w n).2.1 (P9 w n).2.1.length)
def F2 (w:f9) (n:y9):Nat->f9
  | 0=>w
  | j+1=>if n.2.2.2.2.1+j<(F2 w n j).2.2.1.length then L8 (F2 w n j) 2 (K8 (F2 w n j)) n.2.1 (n.2.2.2.2.1+j) ((F2 w n j).2.2.1.getD (n.2.2.2.2.1+j).toNat []) else F2 w n j
def F7 (w:f9) (n:y9):f9 :=
  if known w n.2.1≠0 then w else if n.1=1 then W6 w n else if n.1=3 then F2 w n 4 else if n.1=2 then vn w n else w
def yu (w:f9) (k:Int):f9:=(w.1,w.2.1,w.2.2.1,w.2.2.2.1.take k.toNat++w.2.2.2.1.drop (k+1).toNat,())
def CT (w:f9) (k:Nat):f9:=(w.1,w.2.1,w.2.2.1,w.2.2.2.1++[w.2.2.2.1.getD k []],())
def wQ (w:f9) (bA:Int) (s:yY):f9 :=
  if bA=1/\(w7 s).2.1=0/\(w7 s).1.2.2.2.1=w.1.1/\s4 w (w7 s).1.2.2.1=true then F7 w (w7 s).1 else w
def F6 (w:f9) (k bA:Int):f9×Int :=
  if I2 bA 1 3=false then (w,1) else if I2 k 0 ((w.2.2.2.1.length:Int) - 1)=false then (w,6) else if bA=3/\(w.2.2.2.1.length:Int)=60 then (w,8)
  else if bA=3 then (CT w k.toNat,0) else (wQ (yu w k) bA (w.2.2.2.1.getD k.toNat []),0)
theorem Pf:∀ {l:List s9} {n:Int},∀ t∈(D7 l n).2.2,∃ q∈l,t=q.2.1
  | [],n,t,h=>by cases h
  | p::l,n,t,h=>by
    rw [D7] at h;split at h
    . rcases List.mem_cons.1 h with rfl|h
      . exact ⟨p,List.mem_cons_self,rfl⟩
      . obtain ⟨q,h1,h2⟩:=Pf t h;exact ⟨q,List.mem_cons_of_mem _ h1,h2⟩
    . cases h
theorem Sn {s:ToD} {p:s9} (h:(D3 s p).2.2.1=0):An s.1 s.2.1/\(0<=p.1/\p.1<=16777214)/\D9 p.2.1=false /\
    ((D3 s p=(s,[],0,())/\(p.1<s.1\/s.1+16<=p.1\/Y0 p.1 s.2.1=true))\/((s.1<p.1/\p.1<s.1+16)/\Y0 p.1 s.2.1=false/\D3 s p=((s.1,wG p s.2.1,()),[],0,())) \/
      (p.1=s.1/\D3 s p=(((D7 s.2.1 (s.1+1)).1,(D7 s.2.1 (s.1+1)).2.1,()),p.2.1::(D7 s.2.1 (s.1+1)).2.2,0,()))):=by
  obtain ⟨r,l,⟨⟩⟩:=s;by_cases c1:toE (r,l,())≠0
  . rw [D3,if_pos c1] at h; exact absurd h c1
  have aL:=HN.1 (Decidable.not_not.1 c1);by_cases c2:inF p.1 0 16777214=false
  . rw [D3,if_neg c1,if_pos c2] at h; cases h
  have h1:=xk.1 (Bool.not_eq_false _▸c2);by_cases c3:D9 p.2.1=true
  . rw [D3,if_neg c1,if_neg c2,if_pos c3] at h; cases h
  have h2:D9 p.2.1=false:=by simpa using c3
  refine ⟨aL,h1,h2,?_⟩;rw [WL aL h1 h2];by_cases c4:p.1<r\/r+16<=p.1\/Y0 p.1 l=true
  . rw [if_pos c4]; exact .inl ⟨rfl,c4⟩
  rw [if_neg c4];by_cases c5:r<p.1
  . rw [if_pos c5];refine .inr (.inl ⟨⟨c5,?_⟩,?_,rfl⟩)
    . exact Int.not_le.1 (λ e=>c4 (.inr (.inl e)))
    . cases hk:Y0 p.1 l with
      | false=>rfl
      | true=>exact absurd (.inr (.inr hk)) c4
  . rw [if_neg c5];refine .inr (.inr ⟨?_,rfl⟩);have:¬ p.1<r:=λ e=>c4 (.inl e);show p.1=r;omega
theorem yQ {s:ToD} {p:s9} (h:(D3 s p).2.2.1=0) :
    (∀ t∈(D3 s p).2.1,(t=p.2.1\/∃ q∈s.2.1,t=q.2.1)/\D9 t=false)/\(∀ q∈(D3 s p).1.2.1,q=p\/q∈s.2.1)/\(D3 s p).2.1.length<=16/\(0<=s.1/\s.1<=16777215) /\
      (D3 s p).1.1=s.1+(D3 s p).2.1.length/\(D3 s p).1.2.1.length+(D3 s p).2.1.length<=s.2.1.length+1:=by
  obtain ⟨aL,h1,h2,hc⟩:=Sn h;have lA:=aL.rg;have hb:=aL.b;rcases hc with ⟨e,-⟩|⟨-,-,e⟩|⟨hp,e⟩
  . rw [e];exact ⟨λ t ht=>(by cases ht),λ q hq=>.inr hq,Nat.zero_le _,lA,by show s.1=s.1+((0:Nat):Int); omega,by show s.2.1.length+0<=_; omega⟩
  . rw [e];refine ⟨λ t ht=>(by cases ht),λ q hq=>(Xt.1 hq),Nat.zero_le _,lA,by show s.1=s.1+((0:Nat):Int); omega,?_⟩;show (wG p s.2.1).length+0<=_;rw [Xs]; omega
  . rw [e];obtain ⟨a1,a2,a3,a4⟩:=Nz (l:=s.2.1) (n:=s.1+1) (by rw [show s.1+1 - 1=s.1 by omega]; exact aL.up);refine ⟨λ t ht=>?_,λ q hq=>.inr (a4 q hq),?_,lA,?_,?_⟩
    . rcases List.mem_cons.1 ht with rfl|ht
      . exact ⟨.inl rfl,h2⟩
      . obtain ⟨q,g1,g2⟩:=Pf t ht;exact ⟨.inr ⟨q,g1,g2⟩,by rw [g2]; exact (hb q g1).2⟩
    . show (p.2.1::(D7 s.2.1 (s.1+1)).2.2).length<=16;rw [List.length_cons];cases hl:s.2.1 with
      | nil=>simp [D7]
      | cons x m =>
        have:=Pn aL.up (λ x hx=>(hb x hx).1) (by rw [hl]; simp);rw [<- hl]; omega
    . show (D7 s.2.1 (s.1+1)).1=s.1+((p.2.1::(D7 s.2.1 (s.1+1)).2.2).length:Int);rw [List.length_cons,a2]; omega
    . show (D7 s.2.1 (s.1+1)).2.1.length+(p.2.1::(D7 s.2.1 (s.1+1)).2.2).length<=_;rw [List.length_cons]; omega
theorem Jr {t:yY} (h:D9 t=false):t.length<=200:=by
  simp only [D9,decide_eq_false_iff_not] at h; omega
def okT (t:yY):Prop:=∃ p k:Nat,∃ s,p<=5/\k<=16777300/\t=I5 p k s
theorem XU {p k:Nat} {s:yY} (h:p<=5):who (I5 p k s)=p:=by
  unfold who;rw [Ec];show (Lib.atoi (C7 p)).getD 0=p;rw [Ek (by omega)]; rfl
theorem Pc {p k:Nat} {s:yY} (h:k<=16777300):nth (I5 p k s)=k:=by
  unfold nth;rw [Ec];show (Lib.atoi (x6 (C7 k++[58]++s)).1).getD 0=k;rw [JH];show (Lib.atoi (C7 k)).getD 0=k;rw [Ek (by omega)]; rfl
theorem YG {p k:Nat} {s:yY}:wH (I5 p k s)=s:=by
  unfold wH;rw [Ec];show (x6 (C7 k++[58]++s)).2.1=s;rw [JH]
theorem UZ {t:yY} (h:okT t):((x6 t).1.length<=18/\(Lib.atoi (x6 t).1).isSome=true)/\((x6 (x6 t).2.1).1.length<=18/\(Lib.atoi (x6 (x6 t).2.1).1).isSome=true)/\0<=nth t/\nth t<=16777300:=by
  obtain ⟨p,k,s,h1,h2,rfl⟩:=h;rw [Pc h2];rw [Ec];show ((C7 p).length<=18/\(Lib.atoi (C7 p)).isSome=true)/\((x6 (C7 k++[58]++s)).1.length<=18/\(Lib.atoi (x6 (C7 k++[58]++s)).1).isSome=true)/\_;rw [JH,Ek (by omega)];refine ⟨⟨Pd 18 (by omega) (by decide),rfl⟩,⟨Pd 18 (by omega) (by decide),?_⟩,by omega,by omega⟩;show (Lib.atoi (C7 k)).isSome=true;rw [Ek (by omega)]; rfl
def I0 (w:f9):Nat->List C4
  | 0=>[]
  | k+1=>if s4 w k=true/\(I0 w k).length<(w.2.1.getD k j7).2.1.length then (w.2.1.getD k j7).2.1 else I0 w k
theorem c0b {w:f9}:∀ k,(I0 w k).length<=(I0 w (k+1)).length:=λ k=>by
  rw [I0]; split
  . rename_i h; exact Nat.le_of_lt h.2
  . exact Nat.le_refl _
theorem DW {w:f9} {i:Nat} (ha:s4 w i=true):∀ {k:Nat},i<k->(w.2.1.getD i j7).2.1.length<=(I0 w k).length
  | 0,h=>by omega
  | k+1,h=>by
    by_cases e:i=k
    . subst e;rw [I0]
      split
      . exact Nat.le_refl _
      . rename_i h1;exact Nat.le_of_not_lt (λ h2=>h1 ⟨ha,h2⟩)
    . exact Nat.le_trans (DW ha (by omega)) (c0b k)
theorem Pv {w:f9} {b:Nat} (h:∀ i,(w.2.1.getD i j7).2.1.length<=b):∀ k,(I0 w k).length<=b
  | 0=>Nat.zero_le _
  | k+1=>by
    rw [I0]; split
    . exact h k
    . exact Pv h k
def countP (p:Int):List C4->Nat
  | []=>0
  | s::l=>(if s.1=p then 1 else 0)+countP p l
theorem RF {p:Int}:∀ {l m:List C4},countP p (l++m)=countP p l+countP p m
  | [],m=>by simp [countP]
  | s::l,m=>by rw [List.cons_append,countP,countP,RF]; omega
theorem countP_le {p:Int}:∀ {l:List C4},countP p l<=l.length
  | []=>Nat.le_refl _
  | s::l=>by
    have:=countP_le (p:=p) (l:=l);rw [countP,List.length_cons]; split<;>omega
theorem Sd {p:Int} {l:List C4} {i:Nat} (h:i<l.length):countP p (l.take (i+1))=countP p (l.take i)+if (l.getD i (0,[],())).1=p then 1 else 0:=by
  rw [Es h (0,[],()),RF];simp [countP]
def uS (w:f9) (L:List C4) (i:Nat) (x:n6):n6 :=
  if s4 w i=true then (x.1,L,(0,x.2.2.1.2.1.drop (min (countP i (L.drop x.2.1.length)) x.2.2.1.2.1.length),()),(0,[],()),(0,[],()),()) else (x.1,x.2.1,x.2.2.1,x.2.2.2.1,(0,[],()),())
def E8 (w:f9):f9:=((Q6 w).1,w.2.1.mapIdx (uS w (I0 w w.2.1.length)),[],w.2.2.2.1,())
def S3 (w:f9):f9×Int:=if (Q6 w).2.1≠0 then (w,(Q6 w).2.1) else (E8 w,0)
theorem b5Z {v:vA} {al al':List n6} {r r':List yY×List yY×Unit} {p:Int} (hl:al'.length=al.length) (hf:(al'.getD p.toNat j7).1=(al.getD p.toNat j7).1):s4 (v,al',r') p=s4 (v,al,r) p:=by
  unfold s4;simp only;rw [hl,hf]
abbrev toM (x:n6):K4:=(x.1,(1,x.2.1,[]),x.2.2)
abbrev rdP (x:K4):n6:=(x.1,x.2.1.2.1,x.2.2)
abbrev dM:K4:=(false,(1,[],[]),(0,[],()),(0,[],()),(0,[],()),())
theorem Pj {al:List K4} {i:Nat}:(al.map rdP).getD i j7=rdP (al.getD i dM):=by
  rw [List.getD_eq_getElem?_getD,List.getElem?_map,List.getD_eq_getElem?_getD];cases al[i]?<;>rfl
theorem ID {al:List n6} {i:Nat}:(al.map toM).getD i dM=toM (al.getD i j7):=by
  rw [List.getD_eq_getElem?_getD,List.getElem?_map,List.getD_eq_getElem?_getD];cases al[i]?<;>rfl
theorem Ps {α:Type} {d:α} {l m:List α} (h:l.length=m.length) (h2:∀ i,i<l.length->l.getD i d=m.getD i d):l=m:=by
  apply List.ext_getElem h;intro i h3 h4;have:=h2 i h3;rw [List.getD_eq_getElem?_getD,List.getD_eq_getElem?_getD,List.getElem?_eq_getElem h3,List.getElem?_eq_getElem h4] at this;exact this
theorem U5 {α:Type} {d:α} {l:List α} {i j:Nat} {x:α}:(l.set i x).getD j d=if i=j/\i<l.length then x else l.getD j d:=by
  rw [List.getD_eq_getElem?_getD,List.getElem?_set,List.getD_eq_getElem?_getD];by_cases h:i=j
  . subst h;by_cases h2:i<l.length
    . simp [h2]
    . simp [h2]
  . simp [h]
structure vP (w:f9) (al:List K4):Prop where
  len:al.length=w.2.1.length
  rd:∀ i:Nat,rdP (al.getD i dM)=w.2.1.getD i j7
  same:∀ i:Nat,s4 w i=false->al.getD i dM=toM (w.2.1.getD i j7)
theorem vP.start (w:f9):vP w (w.2.1.map toM):=⟨List.length_map ..,λ i=>by rw [ID],λ i _=>by rw [ID]⟩
theorem vP.vj {w:f9} {al:List K4} (h:vP w al) {k n:Nat} (ha:s4 w k=true):vP w (al.set k ((al.getD k dM).1,(n,(al.getD k dM).2.1.2.1,[]),(al.getD k dM).2.2)):=by
  refine ⟨by rw [List.length_set]; exact h.len,λ i=>?_,λ i hi=>?_⟩
  . rw [U5]
    split
    . rename_i e;rw [<- e.1,<- h.rd k]
    . exact h.rd i
  . rw [U5,if_neg]
    . exact h.same i hi
    . rintro ⟨rfl,-⟩;rw [ha] at hi; cases hi
structure wk (w:f9) (L:List C4) (k:Nat) (al:List K4):Prop where
  len:al.length=w.2.1.length
  done:∀ i:Nat,i<k->i<al.length->al.getD i dM=toM (uS w L i (w.2.1.getD i j7))
  rd:∀ i:Nat,k<=i->rdP (al.getD i dM)=w.2.1.getD i j7
  same:∀ i:Nat,k<=i->s4 w i=false->al.getD i dM=toM (w.2.1.getD i j7)
theorem vP.next {w:f9} {al:List K4} (h:vP w al) (L:List C4):wk w L 0 al:=⟨h.len,λ i hi=>by omega,λ i _=>h.rd i,λ i _=>h.same i⟩
theorem LS {w:f9} {L:List C4} {i:Nat} {x:n6}:(uS w L i x).1=x.1:=by unfold uS; split<;>rfl
theorem wk.act {w:f9} {L:List C4} {k:Nat} {al:List K4} (h:wk w L k al) (i:Nat):((al.map rdP).getD i j7).1=(w.2.1.getD i j7).1:=by
  rw [Pj];by_cases hk:k<=i
  . rw [h.rd i hk]
  . by_cases hi:i<al.length
    . rw [h.done i (by omega) hi];exact LS
    . have h1:al.getD i dM=dM:=by rw [List.getD_eq_getElem?_getD,List.getElem?_eq_none (by omega)]; rfl
      have h2:w.2.1.getD i j7=j7:=by rw [List.getD_eq_getElem?_getD,List.getElem?_eq_none (by have:=h.len; omega)]; rfl
      rw [h1,h2]; rfl
theorem wk.step {w:f9} {L:List C4} {k:Nat} {al:List K4} (h:wk w L k al):wk w L (k+1) (al.set k (toM (uS w L k (w.2.1.getD k j7)))):=by
  refine ⟨by rw [List.length_set]; exact h.len,λ i hi hl=>?_,λ i hi=>?_,λ i hi=>?_⟩
  . rw [List.length_set] at hl;rw [U5];by_cases e:k=i
    . rw [if_pos ⟨e,by omega⟩,e]
    . rw [if_neg (λ h=>e h.1)];exact h.done i (by omega) hl
  . rw [U5,if_neg (by omega)]; exact h.rd i (by omega)
  . rw [U5,if_neg (by omega)]; exact h.same i (by omega)
theorem wk.fin {w:f9} {L:List C4} {al:List K4} (h:wk w L w.2.1.length al):al=(w.2.1.mapIdx (uS w L)).map toM:=by
  refine Ps (d:=dM) (by rw [List.length_map,List.length_mapIdx]; exact h.len) (λ i hi=>?_);rw [h.done i (by have:=h.len; omega) hi,ID];congr 1;rw [List.getD_eq_getElem?_getD (l:=List.mapIdx _ _),List.getElem?_mapIdx,List.getD_eq_getElem?_getD,List.getElem?_eq_getElem (by have:=h.len; omega)];rfl
abbrev C9:=yY
abbrev U7:=Nat×C9
def B9 (p:Nat):List U7->List C9
  | []=>[]
  | x::l=>if x.1=p then x.2::B9 p l else B9 p l
theorem yb {p:Nat}:∀ {l m:List U7},B9 p (l++m)=B9 p l++B9 p m
  | [],_=>rfl
  | x::l,m=>by
    rw [List.cons_append,B9,B9,yb]
    split<;>rfl
theorem UX {p q:Nat} {l:List C9}:B9 p (l.map λ t=>(q,t))=if q=p then l else []:=by
  induction l with
  | nil=>split<;>rfl
  | cons t l ih =>
    rw [List.map_cons,B9,ih];by_cases h:q=p
    . rw [if_pos h,if_pos h,if_pos h]
    . rw [if_neg h,if_neg h,if_neg h]
theorem xu {p:Nat} {Q:List U7} {i:Nat}:B9 p (Q.take i) <+: B9 p Q:=by
  have h:B9 p Q=B9 p (Q.take i)++B9 p (Q.drop i):=by rw [<- yb,List.take_append_drop]
  exact ⟨_,h.symm⟩
def M5 (P:List U7):List U7->List C9
  | []=>[]
  | x::l=>I5 x.1 (B9 x.1 P).length x.2::M5 (P++[x]) l
def N5 (Q:List U7):List C9:=M5 [] Q
theorem SM:∀ {l P m:List U7},M5 P (l++m)=M5 P l++M5 (P++l) m
  | [],P,m=>by simp [M5]
  | x::l,P,m=>by
    rw [List.cons_append,M5,M5,SM,List.cons_append,List.append_assoc]; rfl
theorem SN:∀ {l P:List U7} {i:Nat},(M5 P l)[i]?=l[i]?.map (λ x=>I5 x.1 (B9 x.1 (P++l.take i)).length x.2)
  | [],P,i=>rfl
  | x::l,P,0=>by simp [M5]
  | x::l,P,i+1=>by
    rw [M5,List.getElem?_cons_succ,SN,List.getElem?_cons_succ,List.take_succ_cons,List.append_assoc]; rfl
theorem SO:∀ {l P:List U7},(M5 P l).length=l.length
  | [],_=>rfl
  | x::l,P=>by rw [M5,List.length_cons,SO,List.length_cons]
theorem XL {Q:List U7}:(N5 Q).length=Q.length:=SO
theorem PW {Q:List U7} {i:Nat}:(N5 Q)[i]?=Q[i]?.map (λ x=>I5 x.1 (B9 x.1 (Q.take i)).length x.2):=by
  unfold N5; rw [SN]; rfl
theorem PV {Q m:List U7}:N5 (Q++m)=N5 Q++M5 Q m:=by
  unfold N5; rw [SM]; rfl
def a31 (x:U7):C4:=(x.1,x.2,())
def X6 (p:Nat):List C4->List C9
  | []=>[]
  | x::l=>if x.1=(p:Int) then x.2.1::X6 p l else X6 p l
theorem zI {p:Nat}:∀ {l m:List C4},X6 p (l++m)=X6 p l++X6 p m
  | [],_=>rfl
  | x::l,m=>by
    rw [List.cons_append,X6,X6,zI]
    split<;>rfl
theorem zJ {p:Nat}:∀ {Q:List U7},X6 p (Q.map a31)=B9 p Q
  | []=>rfl
  | x::l=>by
    rw [List.map_cons,X6,B9,zJ];by_cases h:x.1=p
    . rw [if_pos h,if_pos (by show (x.1:Int)=p; rw [h])]; rfl
    . rw [if_neg h,if_neg (by show ¬ (x.1:Int)=p; omega)]
theorem RG {p:Nat}:∀ {l:List C4},countP p l=(X6 p l).length
  | []=>rfl
  | x::l=>by
    rw [countP,X6,RG];by_cases h:x.1=(p:Int)
    . rw [if_pos h,if_pos h,List.length_cons]; omega
    . rw [if_neg h,if_neg h]; omega
theorem Pg {F:Nat->Option C9}:∀ {l:List s9} {n:Int},0<=n->(∀ q∈l,F q.1.toNat=some q.2.1)->∀ i,i<(D7 l n).2.2.length->F (n.toNat+i)=(D7 l n).2.2[i]?
  | [],n,_,_,i,hi=>absurd hi (by simp [D7])
  | p::l,n,h0,h,i,hi=>by
    rw [D7] at hi ⊢;by_cases e:p.1=n
    . rw [if_pos e] at hi ⊢;cases i with
      | zero=>rw [List.getElem?_cons_zero,<- e]; exact h p List.mem_cons_self
      | succ i =>
        rw [List.getElem?_cons_succ,<- Pg (n:=n+1) (by omega) (λ q hq=>h q (List.mem_cons_of_mem _ hq)) i (by simpa using hi)];congr 1; omega
    . rw [if_neg e] at hi; exact absurd hi (by simp)
theorem QJ {F:Nat->Option C9} {s:ToD} {p:s9} (h:(D3 s p).2.2.1=0) (hs:∀ q∈s.2.1,F q.1.toNat=some q.2.1) (hp:F p.1.toNat=some p.2.1) :
    ∀ i,i<(D3 s p).2.1.length->F (s.1.toNat+i)=(D3 s p).2.1[i]?:=by
  obtain ⟨aL,h1,h2,hc⟩:=Sn h;intro i hi;rcases hc with ⟨e,-⟩|⟨-,-,e⟩|⟨e1,e⟩
  . rw [e] at hi; exact absurd hi (by simp)
  . rw [e] at hi; exact absurd hi (by simp)
  . rw [e] at hi ⊢;cases i with
    | zero=>rw [List.getElem?_cons_zero,<- e1]; exact hp
    | succ i =>
      have h0:=aL.rg.1;show F (s.1.toNat+(i+1))=(p.2.1::(D7 s.2.1 (s.1+1)).2.2)[i+1]?;rw [List.getElem?_cons_succ,<- Pg (n:=s.1+1) (by omega) hs i (by simpa using hi)];congr 1; omega
theorem WZ {α:Type} {X l:List α} {r:Nat} (h:∀ i,i<l.length->X[r+i]?=l[i]?):l=(X.drop r).take l.length:=by
  apply List.ext_getElem?;intro i;rw [List.getElem?_take]
  split
  . rename_i hi;rw [List.getElem?_drop,h i hi]
  . rename_i hi;exact List.getElem?_eq_none (by omega)
theorem zL {α:Type} {l m:List α} (h:l <+: m) {i:Nat} {x:α} (hx:l[i]?=some x):m[i]?=some x:=by
  obtain ⟨k,rfl⟩:=h;have hi:i<l.length:=by
    by_cases hi:i<l.length
    . exact hi
    . rw [List.getElem?_eq_none (by omega)] at hx; cases hx
  rw [List.getElem?_append_left hi]; exact hx
def R5 (m:Int) (p:Nat):Bool:=decide (R0 .u8 (m / (2:Int)^min p IntKind.u8.bits) 1=1)
theorem BN {w:f9} {p:Int}:s4 w p=true↔∃ k:Nat,p=k/\k<w.2.1.length/\R5 w.1.2.1 k=true/\(w.2.1.getD k j7).1=false:=by
  unfold s4;rw [Bool.and_eq_true,Bool.and_eq_true,U4,Bool.not_eq_true'];constructor
  . rintro ⟨⟨h1,h2⟩,h3⟩;exact ⟨p.toNat,by omega,by omega,h2,h3⟩
  . rintro ⟨k,rfl,h1,h2,h3⟩;exact ⟨⟨by omega,h2⟩,h3⟩
theorem yO {w:f9} {k:Nat}:s4 w (k:Int)=true↔k<w.2.1.length/\R5 w.1.2.1 k=true/\(w.2.1.getD k j7).1=false:=by
  rw [BN];constructor
  . rintro ⟨j,h,h1⟩;obtain rfl:k=j:=by omega
    exact h1
  . exact λ h=>⟨k,rfl,h⟩
def b7y:Go.Shelf.Ren:=⟨λ|129=>120|171=>50|243=>68|246=>87|283=>104|284=>105|285=>106|286=>107|317=>119|318=>121|319=>122|320=>123|337=>143|338=>144|n=>n,λ|0=>0|2=>2|3=>3|4=>4|5=>5|9=>9|20=>20|37=>115|46=>119|51=>117|53=>159|171=>158|173=>162|212=>176|213=>177|232=>208|233=>209|n=>n,λ|17=>0|18=>4|19=>5|n=>n⟩
theorem VQ:Go.Proofs.LaysM.n171 Tryz.prog b7y:={
  mixed:=by kernel_rfl,
  f129:=Tryz.func120.trans (congrArg some (by kernel_rfl)),
  f171:=Tryz.func50.trans (congrArg some (by kernel_rfl)),
  f243:=Tryz.func68.trans (congrArg some (by kernel_rfl)),
  f246:=Tryz.func87.trans (congrArg some (by kernel_rfl)),
  f283:=Tryz.func104.trans (congrArg some (by kernel_rfl)),
  f284:=Tryz.func105.trans (congrArg some (by kernel_rfl)),
  f285:=Tryz.func106.trans (congrArg some (by kernel_rfl)),
  f286:=Tryz.func107.trans (congrArg some (by kernel_rfl)),
  f317:=Tryz.func119.trans (congrArg some (by kernel_rfl)),
  f318:=Tryz.func121.trans (congrArg some (by kernel_rfl)),
  f319:=Tryz.func122.trans (congrArg some (by kernel_rfl)),
  f320:=Tryz.func123.trans (congrArg some (by kernel_rfl)),
  f337:=Tryz.func143.trans (congrArg some (by kernel_rfl)),
  f338:=Tryz.func144.trans (congrArg some (by kernel_rfl)),
  t0:=Tryz.underlying0,
  a0:=Tryz.isAgg0,
  z0:=Tryz.sizeOf0,
  v0:=Tryz.zeroValue0,
  t2:=Tryz.underlying2,
  a2:=Tryz.isAgg2,
  z2:=Tryz.sizeOf2,
  v2:=Tryz.zeroValue2,
  t3:=Tryz.underlying3,
  a3:=Tryz.isAgg3,
  z3:=Tryz.sizeOf3,
  v3:=Tryz.zeroValue3,
  t4:=Tryz.underlying4,
  a4:=Tryz.isAgg4,
  z4:=Tryz.sizeOf4,
  v4:=Tryz.zeroValue4,
  t5:=Tryz.underlying5,
  a5:=Tryz.isAgg5,
  z5:=Tryz.sizeOf5,
  v5:=Tryz.zeroValue5,
  t9:=Tryz.underlying9,
  a9:=Tryz.isAgg9,
  z9:=Tryz.sizeOf9,
  v9:=Tryz.zeroValue9,
  t20:=Tryz.underlying20,
  a20:=Tryz.isAgg20,
  z20:=Tryz.sizeOf20,
  v20:=Tryz.zeroValue20,
  t37:=Tryz.underlying115,
  a37:=Tryz.isAgg115,
  z37:=Tryz.sizeOf115,
  v37:=Tryz.zeroValue115,
  t46:=Tryz.underlying119,
  a46:=Tryz.isAgg119,
  z46:=Tryz.sizeOf119,
  v46:=Tryz.zeroValue119,
  t51:=Tryz.underlying117,
  a51:=Tryz.isAgg117,
  z51:=Tryz.sizeOf117,
  v51:=Tryz.zeroValue117,
  t53:=Tryz.underlying159,
  a53:=Tryz.isAgg159,
  z53:=Tryz.sizeOf159,
  v53:=Tryz.zeroValue159,
  t171:=Tryz.underlying158,
  a171:=Tryz.isAgg158,
  z171:=Tryz.sizeOf158,
  v171:=Tryz.zeroValue158,
  t173:=Tryz.underlying162,
  a173:=Tryz.isAgg162,
  z173:=Tryz.sizeOf162,
  v173:=Tryz.zeroValue162,
  t212:=Tryz.underlying176,
  a212:=Tryz.isAgg176,
  z212:=Tryz.sizeOf176,
  v212:=Tryz.zeroValue176,
  t213:=Tryz.underlying177,
  a213:=Tryz.isAgg177,
  z213:=Tryz.sizeOf177,
  t232:=Tryz.underlying208,
  a232:=Tryz.isAgg208,
  z232:=Tryz.sizeOf208,
  v232:=Tryz.zeroValue208,
  t233:=Tryz.underlying209,
  a233:=Tryz.isAgg209,
  z233:=Tryz.sizeOf209,
  v233:=Tryz.zeroValue209,
  g17:=by kernel_rfl,
  g18:=by kernel_rfl,
  g19:=by kernel_rfl,
  i0:=by kernel_rfl,
  i2:=by kernel_rfl,
  i3:=by kernel_rfl,
  i4:=by kernel_rfl,
  i5:=by kernel_rfl,
  i9:=by kernel_rfl,
  i20:=by kernel_rfl,
  i37:=by kernel_rfl,
  i46:=by kernel_rfl,
  i51:=by kernel_rfl,
  i53:=by kernel_rfl,
  i171:=by kernel_rfl,
  i173:=by kernel_rfl,
  i212:=by kernel_rfl,
  i232:=by kernel_rfl,
  i233:=by kernel_rfl,
  m17:=by kernel_rfl,
  m18:=by kernel_rfl,
  m19:=by kernel_rfl }
theorem YY {w:World} {k:Nat} {os:Array Obj}:E4 [] w (Sort.grow (w.drewN k) os):=by
  refine ⟨rfl,⟨rfl,Nat.le_add_right _ _⟩,rfl,?_,?_⟩
  . show w.heap.size<=(w.heap++os).size;simp
  . intro c hc _;show (w.heap++os)[c]?=_;rw [Array.getElem?_append,if_pos hc]
theorem bsz (s:yY):(⟨s.toArray⟩:ByteArray).size=s.length:=by simp [ByteArray.size]
end Go.Proofs.YtijlnmgondibnaaGreatDoor
namespace Go.Proofs.YtijlnmgondibnaaGreatDoor
set_option maxRecDepth 100000
end Go.Proofs.YtijlnmgondibnaaGreatDoor
set_option linter.unusedVariables false
namespace Go.Proofs.YtijlnmgondibnaaGreatDoor
open Go.Ex Go.RowKit Go.Shelf
set_option maxRecDepth 100000
def b7z:Go.Shelf.Ren:=⟨λ|129=>120|171=>50|172=>85|205=>142|243=>68|244=>102|245=>103|246=>87|247=>114|279=>115|280=>116|281=>117|282=>118|283=>104|284=>105|285=>106|286=>107|287=>140|316=>141|317=>119|318=>121|319=>122|320=>123|321=>155|322=>156|337=>143|338=>144|n=>n,λ|0=>0|2=>2|3=>3|4=>4|5=>5|9=>9|20=>20|21=>21|37=>115|46=>119|51=>117|53=>159|75=>140|76=>141|80=>216|85=>170|127=>204|143=>205|145=>207|167=>169|168=>172|171=>158|173=>162|175=>188|210=>192|212=>176|213=>177|232=>208|233=>209|n=>n,λ|15=>2|16=>3|17=>0|18=>4|19=>5|n=>n⟩
theorem VP:Go.Proofs.Lays.n172 Tryz.prog b7z:={
  mixed:=by kernel_rfl,
  f129:=Tryz.func120.trans (congrArg some (by kernel_rfl)),
  f171:=Tryz.func50.trans (congrArg some (by kernel_rfl)),
  f172:=Tryz.func85.trans (congrArg some (by kernel_rfl)),
  f205:=Tryz.func142.trans (congrArg some (by kernel_rfl)),
  f243:=Tryz.func68.trans (congrArg some (by kernel_rfl)),
  f244:=Tryz.func102.trans (congrArg some (by kernel_rfl)),
  f245:=Tryz.func103.trans (congrArg some (by kernel_rfl)),
  f246:=Tryz.func87.trans (congrArg some (by kernel_rfl)),
  f247:=Tryz.func114.trans (congrArg some (by kernel_rfl)),
  f279:=Tryz.func115.trans (congrArg some (by kernel_rfl)),
  f280:=Tryz.func116.trans (congrArg some (by kernel_rfl)),
  f281:=Tryz.func117.trans (congrArg some (by kernel_rfl)),
  f282:=Tryz.func118.trans (congrArg some (by kernel_rfl)),
  f283:=Tryz.func104.trans (congrArg some (by kernel_rfl)),
  f284:=Tryz.func105.trans (congrArg some (by kernel_rfl)),
  f285:=Tryz.func106.trans (congrArg some (by kernel_rfl)),
  f286:=Tryz.func107.trans (congrArg some (by kernel_rfl)),
  f287:=Tryz.func140.trans (congrArg some (by kernel_rfl)),
  f316:=Tryz.func141.trans (congrArg some (by kernel_rfl)),
  f317:=Tryz.func119.trans (congrArg some (by kernel_rfl)),
  f318:=Tryz.func121.trans (congrArg some (by kernel_rfl)),
  f319:=Tryz.func122.trans (congrArg some (by kernel_rfl)),
  f320:=Tryz.func123.trans (congrArg some (by kernel_rfl)),
  f321:=Tryz.func155.trans (congrArg some (by kernel_rfl)),
  f322:=Tryz.func156.trans (congrArg some (by kernel_rfl)),
  f337:=Tryz.func143.trans (congrArg some (by kernel_rfl)),
  f338:=Tryz.func144.trans (congrArg some (by kernel_rfl)),
  t0:=Tryz.underlying0,
  a0:=Tryz.isAgg0,
  z0:=Tryz.sizeOf0,
  v0:=Tryz.zeroValue0,
  t2:=Tryz.underlying2,
  a2:=Tryz.isAgg2,
  z2:=Tryz.sizeOf2,
  v2:=Tryz.zeroValue2,
  t3:=Tryz.underlying3,
  a3:=Tryz.isAgg3,
  z3:=Tryz.sizeOf3,
  v3:=Tryz.zeroValue3,
  t4:=Tryz.underlying4,
  a4:=Tryz.isAgg4,
  z4:=Tryz.sizeOf4,
  v4:=Tryz.zeroValue4,
  t5:=Tryz.underlying5,
  a5:=Tryz.isAgg5,
  z5:=Tryz.sizeOf5,
  v5:=Tryz.zeroValue5,
  t9:=Tryz.underlying9,
  a9:=Tryz.isAgg9,
  z9:=Tryz.sizeOf9,
  v9:=Tryz.zeroValue9,
  t20:=Tryz.underlying20,
  a20:=Tryz.isAgg20,
  z20:=Tryz.sizeOf20,
  v20:=Tryz.zeroValue20,
  t21:=Tryz.underlying21,
  a21:=Tryz.isAgg21,
  z21:=Tryz.sizeOf21,
  v21:=Tryz.zeroValue21,
  t37:=Tryz.underlying115,
  a37:=Tryz.isAgg115,
  z37:=Tryz.sizeOf115,
  v37:=Tryz.zeroValue115,
  t46:=Tryz.underlying119,
  a46:=Tryz.isAgg119,
  z46:=Tryz.sizeOf119,
  v46:=Tryz.zeroValue119,
  t51:=Tryz.underlying117,
  a51:=Tryz.isAgg117,
  z51:=Tryz.sizeOf117,
  v51:=Tryz.zeroValue117,
  t53:=Tryz.underlying159,
  a53:=Tryz.isAgg159,
  z53:=Tryz.sizeOf159,
  v53:=Tryz.zeroValue159,
  t75:=Tryz.underlying140,
  a75:=Tryz.isAgg140,
  z75:=Tryz.sizeOf140,
  v75:=Tryz.zeroValue140,
  t76:=Tryz.underlying141,
  a76:=Tryz.isAgg141,
  z76:=Tryz.sizeOf141,
  v76:=Tryz.zeroValue141,
  t85:=Tryz.underlying170,
  a85:=Tryz.isAgg170,
  z85:=Tryz.sizeOf170,
  v85:=Tryz.zeroValue170,
  t127:=Tryz.underlying204,
  a127:=Tryz.isAgg204,
  z127:=Tryz.sizeOf204,
  v127:=Tryz.zeroValue204,
  t143:=Tryz.underlying205,
  a143:=Tryz.isAgg205,
  z143:=Tryz.sizeOf205,
  v143:=Tryz.zeroValue205,
  t145:=Tryz.underlying207,
  a145:=Tryz.isAgg207,
  z145:=Tryz.sizeOf207,
  v145:=Tryz.zeroValue207,
  t167:=Tryz.underlying169,
  a167:=Tryz.isAgg169,
  z167:=Tryz.sizeOf169,
  v167:=Tryz.zeroValue169,
  t168:=Tryz.underlying172,
  a168:=Tryz.isAgg172,
  z168:=Tryz.sizeOf172,
  v168:=Tryz.zeroValue172,
  t171:=Tryz.underlying158,
  a171:=Tryz.isAgg158,
  z171:=Tryz.sizeOf158,
  v171:=Tryz.zeroValue158,
  t173:=Tryz.underlying162,
  a173:=Tryz.isAgg162,
  z173:=Tryz.sizeOf162,
  v173:=Tryz.zeroValue162,
  t175:=Tryz.underlying188,
  a175:=Tryz.isAgg188,
  z175:=Tryz.sizeOf188,
  v175:=Tryz.zeroValue188,
  t210:=Tryz.underlying192,
  a210:=Tryz.isAgg192,
  z210:=Tryz.sizeOf192,
  v210:=Tryz.zeroValue192,
  t212:=Tryz.underlying176,
  a212:=Tryz.isAgg176,
  z212:=Tryz.sizeOf176,
  v212:=Tryz.zeroValue176,
  t213:=Tryz.underlying177,
  a213:=Tryz.isAgg177,
  z213:=Tryz.sizeOf177,
  t232:=Tryz.underlying208,
  a232:=Tryz.isAgg208,
  z232:=Tryz.sizeOf208,
  v232:=Tryz.zeroValue208,
  t233:=Tryz.underlying209,
  a233:=Tryz.isAgg209,
  z233:=Tryz.sizeOf209,
  v233:=Tryz.zeroValue209,
  g15:=by kernel_rfl,
  g16:=by kernel_rfl,
  g17:=by kernel_rfl,
  g18:=by kernel_rfl,
  g19:=by kernel_rfl }
end Go.Proofs.YtijlnmgondibnaaGreatDoor
set_option linter.unusedVariables false
namespace Go.Proofs.YtijlnmgondibnaaGreatDoor
open Go.Ex
set_option maxRecDepth 100000
def c0h:Go.Shelf.Ren:=⟨λ|145=>84|217=>136|219=>113|220=>101|224=>138|225=>137|266=>153|267=>139|314=>154|n=>n,λ|3=>3|4=>4|5=>5|9=>9|46=>119|51=>117|59=>137|146=>201|n=>n,λ|1=>1|n=>n⟩
theorem UD:Go.Proofs.Lays.n145 Tryz.prog c0h:={
  mixed:=by kernel_rfl,
  f145:=Tryz.func84.trans (congrArg some (by kernel_rfl)),
  f217:=Tryz.func136.trans (congrArg some (by kernel_rfl)),
  f219:=Tryz.func113.trans (congrArg some (by kernel_rfl)),
  f220:=Tryz.func101.trans (congrArg some (by kernel_rfl)),
  f224:=Tryz.func138.trans (congrArg some (by kernel_rfl)),
  f225:=Tryz.func137.trans (congrArg some (by kernel_rfl)),
  f266:=Tryz.func153.trans (congrArg some (by kernel_rfl)),
  f267:=Tryz.func139.trans (congrArg some (by kernel_rfl)),
  f314:=Tryz.func154.trans (congrArg some (by kernel_rfl)),
  t3:=Tryz.underlying3,
  a3:=Tryz.isAgg3,
  z3:=Tryz.sizeOf3,
  v3:=Tryz.zeroValue3,
  t4:=Tryz.underlying4,
  a4:=Tryz.isAgg4,
  z4:=Tryz.sizeOf4,
  v4:=Tryz.zeroValue4,
  t5:=Tryz.underlying5,
  a5:=Tryz.isAgg5,
  z5:=Tryz.sizeOf5,
  v5:=Tryz.zeroValue5,
  t9:=Tryz.underlying9,
  a9:=Tryz.isAgg9,
  z9:=Tryz.sizeOf9,
  v9:=Tryz.zeroValue9,
  t46:=Tryz.underlying119,
  a46:=Tryz.isAgg119,
  z46:=Tryz.sizeOf119,
  v46:=Tryz.zeroValue119,
  t51:=Tryz.underlying117,
  a51:=Tryz.isAgg117,
  z51:=Tryz.sizeOf117,
  v51:=Tryz.zeroValue117,
  t59:=Tryz.underlying137,
  a59:=Tryz.isAgg137,
  z59:=Tryz.sizeOf137,
  v59:=Tryz.zeroValue137,
  t146:=Tryz.underlying201,
  a146:=Tryz.isAgg201,
  z146:=Tryz.sizeOf201,
  v146:=Tryz.zeroValue201,
  g1:=by kernel_rfl }
def Ha:o7:={ ps:=[.v d9],rs:=[.str],pre:=λ _=>True,fn:=λ x=>(C7 x.1,()),out:=λ _=>() }
theorem SQ:Ha.Valid Tryz.prog 50:=by
  refine ⟨⟨_,Tryz.func50,by kernel_rfl,by kernel_rfl⟩,?_,λ h=>by cases h⟩;rintro w S vs ⟨(n:Int),⟨⟩⟩ L hS dY - ⟨v1,us,L1,L2,rfl,rfl,⟨rfl,cs,rfl,r1⟩,rfl,rfl⟩ - aF hL;obtain ⟨-,rfl,(hn:r7 .i64 n)⟩:=r1;obtain ⟨h0,h1⟩:=G0.1 hn;obtain ⟨-,cs,h2,h3⟩:=dY _ (List.mem_cons_self ..) 0 (by kernel_rfl);refine (Any.strconv_Itoa VQ n h0 h1 w (h2.trans (congrArg some h3))).mono ?_;rintro e w' ⟨rfl,k,os,rfl⟩;refine ⟨[.string ⟨(Lib.itoa n).toArray⟩],[],[],S,rfl,YY,λ _ h=>h,λ b h=>.inl h,⟨_,[],[],[],[.string ⟨(Lib.itoa n).toArray⟩],rfl,rfl,rfl,⟨rfl,?_,?_⟩,rfl,rfl⟩,⟨_,[],rfl,rfl,rfl⟩,by simp,by simp⟩
  . rw [UW h0 h1]; rfl
  . have:=Ci h0 h1;show (C7 n).length<=maxLen;exact Nat.le_trans this (by decide)
def FB:o7:={ ps:=[.v .str],rs:=[d9,.fn 4000000],pre:=λ x=>List.length (α:=UInt8) x.1<=18/\(Lib.atoi x.1).isSome=true,fn:=λ x=>((Lib.atoi x.1).getD 0,false,()),out:=λ _=>() }
theorem decFrom_lt:∀ {l:yY} {a n:Nat},Lib.decFrom a l=some n->n<(a+1)*10^l.length
  | [],a,n,h=>by
    simp only [Lib.decFrom,Option.some.injEq] at h;subst h;simp
  | b::l,a,n,h=>by
    rw [Lib.decFrom] at h;cases e:Lib.digitVal b with
    | none=>rw [e] at h; cases h
    | some d =>
      rw [e] at h;have h1:=decFrom_lt h;have hd:d<=9:=by
        unfold Lib.digitVal at e;split at e
        . simp only [Option.some.injEq] at e; omega
        . cases e
      refine Nat.lt_of_lt_of_le h1 ?_;rw [List.length_cons,Nat.pow_succ,Nat.mul_comm (10^l.length) 10,<- Nat.mul_assoc];exact Nat.mul_le_mul_right _ (by omega)
theorem Jj {l:yY} {n:Nat} (h:Lib.decNat l=some n) (hl:l.length<=18):n<1000000000000000000:=by
  unfold Lib.decNat at h;split at h
  . cases h
  . have h1:=decFrom_lt h;have h2:10^l.length<=10^18:=Nat.pow_le_pow_right (by decide) hl;have h3:(10:Nat)^18=1000000000000000000:=by decide
    omega
theorem Vu {l:yY} {n:Int} (h:Lib.atoi l=some n) (hl:l.length<=18):-1000000000000000000<n/\n<1000000000000000000:=by
  cases l with
  | nil=>cases h
  | cons b r =>
    rw [Lib.atoi] at h;simp only [List.length_cons] at hl;split at h
    . cases e:Lib.decNat r with
      | none=>rw [e] at h; cases h
      | some m=>rw [e] at h; simp only [Option.map_some,Option.some.injEq] at h; have:=Jj e (by omega); omega
    . split at h
      . cases e:Lib.decNat r with
        | none=>rw [e] at h; cases h
        | some m=>rw [e] at h; simp only [Option.map_some,Option.some.injEq] at h; have:=Jj e (by omega); omega
      . cases e:Lib.decNat (b::r) with
        | none=>rw [e] at h; cases h
        | some m=>rw [e] at h; simp only [Option.map_some,Option.some.injEq] at h; have:=Jj e (by simp only [List.length_cons]; omega); omega
theorem b76:FB.Valid Tryz.prog 85:=by
  refine ⟨⟨_,Tryz.func85,by kernel_rfl,by kernel_rfl⟩,?_,λ h=>by cases h⟩;rintro w S vs ⟨(s:yY),⟨⟩⟩ L hS dY ⟨(h1:s.length<=18),(h2:(Lib.atoi s).isSome=true)⟩ ⟨v1,us,L1,L2,rfl,rfl,⟨rfl,cs,rfl,r1⟩,rfl,rfl⟩ - aF hL;obtain ⟨-,rfl,hs⟩:=r1;obtain ⟨n,hn⟩:=Option.isSome_iff_exists.1 h2;refine (Any.strconv_Atoi VP ⟨s.toArray⟩ n (by rw [bsz]; exact h1) hn w).mono ?_;rintro e w' ⟨rfl,t,rfl⟩;have hf:FB.fn (s,())=(n,false,()):=by
    show ((Lib.atoi s).getD 0,false,())=(n,false,());rw [hn]; rfl
  rw [hf];have hr:=Vu hn h1;refine ⟨[.int .i64 n,.nilIface],[],[],S,rfl,⟨rfl,⟨rfl,Nat.le_succ _⟩,rfl,by rw [Lib.bytesWorld_size]; omega,λ j hj _=>Lib.bytesWorld_at_old w _ t j hj⟩,λ _ h=>h,λ b h=>.inl h,⟨_,_,[],[],[.int .i64 n],rfl,rfl,rfl,⟨rfl,rfl,?_⟩,_,_,[],[],[.nilIface],rfl,rfl,rfl,⟨rfl,rfl⟩,rfl,rfl⟩,⟨_,[],rfl,rfl,rfl⟩,by simp,by simp⟩;exact ⟨by show -9223372036854775808<=n; omega,by show n<=9223372036854775807; omega⟩
def Lk:o7:={ ps:=[.v .str,.v .str],rs:=[.str,.str,.bool],pre:=λ x=>List.length (α:=UInt8) x.1<=1000000/\Eq (α:=yY) x.2.1 [58],fn:=λ x=>((x6 x.1).1,(x6 x.1).2.1,(x6 x.1).2.2,()),out:=λ _=>() }
theorem c06:Lk.Valid Tryz.prog 84:=by
  refine ⟨⟨_,Tryz.func84,by kernel_rfl,by kernel_rfl⟩,?_,λ h=>by cases h⟩;rintro w S vs ⟨(s:yY),(p:yY),⟨⟩⟩ L hS dY ⟨(h1:s.length<=1000000),(h2:p=[58])⟩ ⟨v1,us,L1,L2,rfl,rfl,⟨rfl,cs,rfl,r1⟩,v2,us2,L3,L4,rfl,rfl,⟨rfl,cs2,rfl,r2⟩,rfl,rfl⟩ - aF hL;obtain ⟨-,rfl,hs⟩:=r1;obtain ⟨-,rfl,hp⟩:=r2;obtain ⟨-,cs,g2,m,g3⟩:=dY ("internal/bytealg.MaxLen",_) (List.mem_cons_of_mem _ (List.mem_cons_self ..)) 1 (by kernel_rfl)
  have hm:w.cell? ⟨1,0,none⟩=some (.int .i64 m):=by
    have:=World.var?_cell (show Tryz.prog.globalNamed "internal/bytealg.MaxLen"=some 1 by kernel_rfl) g2 0
    rw [this,g3]
  refine (Any.strings_Cut UD ⟨s.toArray⟩ ⟨p.toArray⟩ m w (by rw [bsz]; omega) hm).mono ?_;rintro e w' ⟨rfl,k,rfl⟩;have hc:Lib.cut (ByteArray.mk s.toArray).data.toList (ByteArray.mk p.toArray).data.toList=x6 s:=by
    show Lib.cut s p=x6 s;rw [h2,NK]
  rw [hc];have hl:=Bv s;have hD:E4 [] w (w.drewN k):=⟨rfl,⟨rfl,Nat.le_add_right _ _⟩,rfl,Nat.le_refl _,λ _ _ _=>rfl⟩;have jm:maxLen=9223372036854775807:=by decide
  refine ⟨[.string ⟨(x6 s).1.toArray⟩,.string ⟨(x6 s).2.1.toArray⟩,.bool (x6 s).2.2],[],[],S,rfl,hD,λ _ h=>h,λ b h=>.inl h,⟨_,_,[],[],[_],rfl,rfl,rfl,⟨rfl,rfl,?_⟩,_,_,[],[],[_],rfl,rfl,rfl,⟨rfl,rfl,?_⟩,_,_,[],[],[_],rfl,rfl,rfl,⟨rfl,rfl⟩,rfl,rfl⟩,⟨_,_,rfl,⟨_,[],rfl,rfl,rfl⟩⟩,by simp,by simp⟩
  . show (x6 s).1.length<=maxLen; omega
  . show (x6 s).2.1.length<=maxLen; omega
end Go.Proofs.YtijlnmgondibnaaGreatDoor
namespace Go.Proofs.YtijlnmgondibnaaGreatDoor
open Go.Ex
set_option maxRecDepth 100000
attribute [local irreducible] Go.Ex.exec
theorem JC {x:yY} {w:f9}:∀ p,(G4 x w p).2.1=w.2.1/\(G4 x w p).1=w.1/\(G4 x w p).2.2.1=w.2.2.1
  | 0=>⟨rfl,rfl,rfl⟩
  | p+1=>by
    obtain ⟨h1,h2,h3⟩:=JC (x:=x) (w:=w) p;rw [G4]
    split
    . obtain ⟨g1,g2,g3⟩:=El (w:=G4 x w p) (k:=2) (f:=K8 (G4 x w p)) (t:=p) (s:=((G4 x w p).2.2.1.length:Int) - 1) (x:=x);exact ⟨g1.trans h1,g2.trans h2,g3.trans h3⟩
    . exact ⟨h1,h2,h3⟩
theorem XN {x:yY} {w:f9} {p:Nat} (h:s4 (G4 x w p) p=true):G4 x w (p+1)=L8 (G4 x w p) 2 (K8 (G4 x w p)) p (((G4 x w p).2.2.1.length:Int) - 1) x:=by
  rw [G4]; exact if_pos h
theorem XM {x:yY} {w:f9} {p:Nat} (h:s4 (G4 x w p) p=false):G4 x w (p+1)=G4 x w p:=by
  rw [G4]; exact if_neg (by rw [h]; decide)
theorem JP {f first:Int} {l:List yY} {w:f9}:∀ i,(I6 f first l w i).2.1=w.2.1/\(I6 f first l w i).1=w.1/\(I6 f first l w i).2.2.1.length=w.2.2.1.length+i
  | 0=>⟨rfl,rfl,rfl⟩
  | i+1=>by
    obtain ⟨h1,h2,h3⟩:=JP (f:=f) (first:=first) (l:=l) (w:=w) i;rw [I6];obtain ⟨g1,g2,g3⟩:=JC (x:=I5 f (first+i) (l.getD i [])) (w:=zq (I6 f first l w i) (I5 f (first+i) (l.getD i []))) (I6 f first l w i).2.1.length;refine ⟨g1.trans h1,g2.trans h2,?_⟩;rw [g3];show ((I6 f first l w i).2.2.1++[_]).length=_;rw [List.length_append,h3]; rfl
def Hc:o7:={ ps:=[.rw s5,.v yW],rs:=[],pre:=λ x=>List.length (α:=n6) (x.1:f9).2.1<=6/\(¬ known x.1 x.2.1.2.1≠0)/\List.length (α:=yY) (x.1:f9).2.2.1<=1000000000000,fn:=λ _=>(),out:=λ x=>(W6 x.1 x.2.1,()) }
noncomputable def yE:Env:={ P:=Tryz.prog,tt:=tt,C5:=[(83,Gp),(50,Ha),(47,yp),(43,zo),(44,ze)],res:=[],rs:=[],ps:=[PK.rw s5,PK.v (Ty.pair d9 (Ty.pair d9 (Ty.pair d9 (Ty.pair d9 (Ty.pair d9 (Ty.pair X1 (Ty.pair Ty.str Ty.unit)))))))],y8:=[(7,[(0,none),(3,none),(8,none),(45,some (Ty.d0 true Ty.str)),(46,none),(47,none)]),(12,[(0,none),(3,none),(8,none),(11,none),(45,some (Ty.d0 true Ty.str)),(46,none),(47,none),(78,none),(79,none)])],nt:=99 }
theorem Eu:w5 yE:=w9 p7 ⟨Se,SQ,Ce,EG,EA,trivial⟩
theorem Ev:B8 yE Tryz.f66:=⟨rfl,rfl⟩
theorem Ya (ai:Int) (af:Int) (ab:List n6) (ae:List yY) (aa:List yY) (bL:Int) (aM:Int) (aI:Int) (aY:Int) (aE:Int) (aT:List Int) (aw:yY):exec yE 1000 [.code (d8 Tryz.prog 66)] (s7 Hc.ps ((((ai,af,()),ab,ae,aa,()),(bL,aM,aI,aY,aE,aT,aw,()),()))) =
  .f7 ((0:Int)<=aM/\aM<(↑(List.length ab):Int)) (.f7 (True) (cond (decide (Prod.fst (Prod.snd (Prod.snd (D3 (Prod.fst (Prod.snd (Prod.snd (Prod.snd (Prod.snd (List.getD ab (Int.toNat aM) (false,[],((0:Int),[],()),((0:Int),[],()),((0:Int),[],()),()))))))) (aE,aw,()))))≠(0:Int))) (.ret ((((ai,af,()),ab,ae,aa,()),()))) (.ctL (f8 (d8 Tryz.prog 66) 7) (St.mk [(0,AV.ptr 2000000 []),(3,AV.ptr 3 []),(8,AV.val d9 (Prod.fst (Prod.fst (Prod.snd (Prod.snd (Prod.snd (Prod.snd (List.getD ab (Int.toNat aM) (false,[],((0:Int),[],()),((0:Int),[],()),((0:Int),[],()),()))))))))),(45,AV.at_ 1000045 []),(46,AV.val d9 (↑(List.length (Prod.fst (Prod.snd (D3 (Prod.fst (Prod.snd (Prod.snd (Prod.snd (Prod.snd (List.getD ab (Int.toNat aM) (false,[],((0:Int),[],()),((0:Int),[],()),((0:Int),[],()),()))))))) (aE,aw,()))))):Int)),(47,AV.val d9 (0:Int))] [(3,g8.var (Ty.pair d9 (Ty.pair d9 (Ty.pair d9 (Ty.pair d9 (Ty.pair d9 (Ty.pair X1 (Ty.pair Ty.str Ty.unit))))))) (bL,aM,aI,aY,aE,aT,aw,())),(1000045,g8.own (Ty.d0 true Ty.str) (Prod.fst (Prod.snd (D3 (Prod.fst (Prod.snd (Prod.snd (Prod.snd (Prod.snd (List.getD ab (Int.toNat aM) (false,[],((0:Int),[],()),((0:Int),[],()),((0:Int),[],()),()))))))) (aE,aw,()))))),(2000000,g8.var s5 ((ai,af,()),List.set ab (Int.toNat aM) (Prod.fst (List.getD ab (Int.toNat aM) (false,[],((0:Int),[],()),((0:Int),[],()),((0:Int),[],()),())),Prod.fst (Prod.snd (List.getD ab (Int.toNat aM) (false,[],((0:Int),[],()),((0:Int),[],()),((0:Int),[],()),()))),Prod.fst (Prod.snd (Prod.snd (List.getD ab (Int.toNat aM) (false,[],((0:Int),[],()),((0:Int),[],()),((0:Int),[],()),())))),Prod.fst (Prod.snd (Prod.snd (Prod.snd (List.getD ab (Int.toNat aM) (false,[],((0:Int),[],()),((0:Int),[],()),((0:Int),[],()),()))))),Prod.fst (D3 (Prod.fst (Prod.snd (Prod.snd (Prod.snd (Prod.snd (List.getD ab (Int.toNat aM) (false,[],((0:Int),[],()),((0:Int),[],()),((0:Int),[],()),()))))))) (aE,aw,())),Prod.snd (Prod.snd (Prod.snd (Prod.snd (Prod.snd (List.getD ab (Int.toNat aM) (false,[],((0:Int),[],()),((0:Int),[],()),((0:Int),[],()),()))))))),ae,aa,()))])))):=by kernel_rfl
def JV (v8:Int) (v46:Int) (uL:Int) (cC:Int) (aW:Int) (aR:Int) (aH:Int) (aA:Int) (au:List Int) (ao:yY) (cn:List yY) (ar:Int) (an:Int) (aj:List n6) (ak:List yY) (ah:List yY):St:=St.mk [(0,AV.ptr 2000000 []),(3,AV.ptr 3 []),(8,AV.val d9 v8),(45,AV.at_ 1000045 []),(46,AV.val d9 v46),(47,AV.val d9 uL)] [(3,g8.var (Ty.pair d9 (Ty.pair d9 (Ty.pair d9 (Ty.pair d9 (Ty.pair d9 (Ty.pair X1 (Ty.pair Ty.str Ty.unit))))))) (cC,aW,aR,aH,aA,au,ao,())),(1000045,g8.own (Ty.d0 true Ty.str) cn),(2000000,g8.var s5 ((ar,an,()),aj,ak,ah,()))]
theorem ZE (v8:Int) (v46:Int) (uL:Int) (cC:Int) (aW:Int) (aR:Int) (aH:Int) (aA:Int) (au:List Int) (ao:yY) (cn:List yY) (ar:Int) (an:Int) (aj:List n6) (ak:List yY) (ah:List yY):exec yE 1000 (.code (f8 (d8 Tryz.prog 66) 7).1::.inLoop (f8 (d8 Tryz.prog 66) 7).1::(f8 (d8 Tryz.prog 66) 7).2) (JV v8 v46 uL cC aW aR aH aA au ao cn ar an aj ak ah) =
  cond (decide (uL<v46)) (.f7 ((0:Int)<=uL/\uL<(↑(List.length cn):Int)) (.f7 (True) (.f7 (List.length (C7 aW)+List.length (Array.toList (ByteArray.data (ByteArray.mk #[58])))<=Go.maxLen) (.f7 (r7 IntKind.i64 (v8+uL)) (.f7 (True) (.f7 (List.length (C7 aW++Array.toList (ByteArray.data (ByteArray.mk #[58])))+List.length (C7 (v8+uL))<=Go.maxLen) (.f7 (List.length (C7 aW++Array.toList (ByteArray.data (ByteArray.mk #[58]))++C7 (v8+uL))+List.length (Array.toList (ByteArray.data (ByteArray.mk #[58])))<=Go.maxLen) (.f7 (List.length (C7 aW++Array.toList (ByteArray.data (ByteArray.mk #[58]))++C7 (v8+uL)++Array.toList (ByteArray.data (ByteArray.mk #[58])))+List.length (List.getD cn (Int.toNat uL) [])<=Go.maxLen) (.f7 (True/\True/\[]++[Step.l6 2]=[]++[Step.l6 2]/\List.length ak+List.length (List.set [[]] (Int.toNat (↑0:Int)) (C7 aW++Array.toList (ByteArray.data (ByteArray.mk #[58]))++C7 (v8+uL)++Array.toList (ByteArray.data (ByteArray.mk #[58]))++List.getD cn (Int.toNat uL) []))<=140737488355328/\(List.length ak+List.length (List.set [[]] (Int.toNat (↑0:Int)) (C7 aW++Array.toList (ByteArray.data (ByteArray.mk #[58]))++C7 (v8+uL)++Array.toList (ByteArray.data (ByteArray.mk #[58]))++List.getD cn (Int.toNat uL) [])))*Ty.wb Ty.str<=140737488355328) (.ctL (f8 (d8 Tryz.prog 66) 12) (St.mk [(0,AV.ptr 2000000 []),(3,AV.ptr 3 []),(8,AV.val d9 v8),(11,AV.val Ty.str (C7 aW++Array.toList (ByteArray.data (ByteArray.mk #[58]))++C7 (v8+uL)++Array.toList (ByteArray.data (ByteArray.mk #[58]))++List.getD cn (Int.toNat uL) [])),(45,AV.at_ 1000045 []),(46,AV.val d9 v46),(47,AV.val d9 uL),(78,AV.val d9 (↑(List.length aj):Int)),(79,AV.val d9 (0:Int))] [(3,g8.var (Ty.pair d9 (Ty.pair d9 (Ty.pair d9 (Ty.pair d9 (Ty.pair d9 (Ty.pair X1 (Ty.pair Ty.str Ty.unit))))))) (cC,aW,aR,aH,aA,au,ao,())),(1000045,g8.own (Ty.d0 true Ty.str) cn),(2000000,g8.var s5 ((ar,an,()),aj,ak++List.set [[]] (Int.toNat (↑0:Int)) (C7 aW++Array.toList (ByteArray.data (ByteArray.mk #[58]))++C7 (v8+uL)++Array.toList (ByteArray.data (ByteArray.mk #[58]))++List.getD cn (Int.toNat uL) []),ah,()))]))))))))))) (.ret ((((ar,an,()),aj,ak,ah,()),()))):=by kernel_rfl
def Kg (v8:Int) (v11:yY) (v46:Int) (uL:Int) (yU:Int) (wE:Int) (cC:Int) (aW:Int) (aR:Int) (aH:Int) (aA:Int) (au:List Int) (ao:yY) (cn:List yY) (ar:Int) (an:Int) (aj:List n6) (ak:List yY) (ah:List yY):St:=St.mk [(0,AV.ptr 2000000 []),(3,AV.ptr 3 []),(8,AV.val d9 v8),(11,AV.val Ty.str v11),(45,AV.at_ 1000045 []),(46,AV.val d9 v46),(47,AV.val d9 uL),(78,AV.val d9 yU),(79,AV.val d9 wE)] [(3,g8.var (Ty.pair d9 (Ty.pair d9 (Ty.pair d9 (Ty.pair d9 (Ty.pair d9 (Ty.pair X1 (Ty.pair Ty.str Ty.unit))))))) (cC,aW,aR,aH,aA,au,ao,())),(1000045,g8.own (Ty.d0 true Ty.str) cn),(2000000,g8.var s5 ((ar,an,()),aj,ak,ah,()))]
theorem b8i (v8:Int) (v11:yY) (v46:Int) (uL:Int) (yU:Int) (wE:Int) (cC:Int) (aW:Int) (aR:Int) (aH:Int) (aA:Int) (au:List Int) (ao:yY) (cn:List yY) (ar:Int) (an:Int) (aj:List n6) (ak:List yY) (ah:List yY):exec yE 1000 (.code (f8 (d8 Tryz.prog 66) 12).1::.inLoop (f8 (d8 Tryz.prog 66) 12).1::(f8 (d8 Tryz.prog 66) 12).2) (Kg v8 v11 v46 uL yU wE cC aW aR aH aA au ao cn ar an aj ak ah) =
  cond (decide (wE<yU)) (.f7 (List.length aj<=6) (cond (s4 ((ar,an,()),aj,ak,ah,()) wE) (.f7 (True) (.f7 (r7 IntKind.i64 ((↑(List.length ak):Int) - (1:Int))) (.f7 (True) (.f7 (r7 IntKind.i64 (wE+(1:Int))) (.ctL (f8 (d8 Tryz.prog 66) 12) (St.mk [(0,AV.ptr 2000000 []),(3,AV.ptr 3 []),(8,AV.val d9 v8),(11,AV.val Ty.str v11),(45,AV.at_ 1000045 []),(46,AV.val d9 v46),(47,AV.val d9 uL),(78,AV.val d9 yU),(79,AV.val d9 (wE+(1:Int)))] [(3,g8.var (Ty.pair d9 (Ty.pair d9 (Ty.pair d9 (Ty.pair d9 (Ty.pair d9 (Ty.pair X1 (Ty.pair Ty.str Ty.unit))))))) (cC,aW,aR,aH,aA,au,ao,())),(1000045,g8.own (Ty.d0 true Ty.str) cn),(2000000,g8.var s5 (L8 ((ar,an,()),aj,ak,ah,()) (2:Int) (K8 ((ar,an,()),aj,ak,ah,())) wE ((↑(List.length ak):Int) - (1:Int)) v11))])))))) (.f7 (r7 IntKind.i64 (wE+(1:Int))) (.ctL (f8 (d8 Tryz.prog 66) 12) (St.mk [(0,AV.ptr 2000000 []),(3,AV.ptr 3 []),(8,AV.val d9 v8),(11,AV.val Ty.str v11),(45,AV.at_ 1000045 []),(46,AV.val d9 v46),(47,AV.val d9 uL),(78,AV.val d9 yU),(79,AV.val d9 (wE+(1:Int)))] [(3,g8.var (Ty.pair d9 (Ty.pair d9 (Ty.pair d9 (Ty.pair d9 (Ty.pair d9 (Ty.pair X1 (Ty.pair Ty.str Ty.unit))))))) (cC,aW,aR,aH,aA,au,ao,())),(1000045,g8.own (Ty.d0 true Ty.str) cn),(2000000,g8.var s5 ((ar,an,()),aj,ak,ah,()))]))))) (.f7 (r7 IntKind.i64 (uL+(1:Int))) (.ctL (f8 (d8 Tryz.prog 66) 7) (St.mk [(0,AV.ptr 2000000 []),(3,AV.ptr 3 []),(8,AV.val d9 v8),(45,AV.at_ 1000045 []),(46,AV.val d9 v46),(47,AV.val d9 (uL+(1:Int)))] [(3,g8.var (Ty.pair d9 (Ty.pair d9 (Ty.pair d9 (Ty.pair d9 (Ty.pair d9 (Ty.pair X1 (Ty.pair Ty.str Ty.unit))))))) (cC,aW,aR,aH,aA,au,ao,())),(1000045,g8.own (Ty.d0 true Ty.str) cn),(2000000,g8.var s5 ((ar,an,()),aj,ak,ah,()))]))):=by kernel_rfl
attribute [local irreducible] W6 L8 D3 C7 I6 G4 in
theorem b5s:Hc.Valid Tryz.prog 66:=by
  refine o7.n8 Eu rfl rfl Tryz.func66 (c:=d8 Tryz.prog 66) rfl rfl Ev rfl ?_;rintro ⟨⟨⟨(v0:Int),(v1:Int),⟨⟩⟩,(al:List n6),(od:List yY),(wy:List yY),⟨⟩⟩,⟨(nk:Int),(nf:Int),(nt:Int),(nv:Int),(ns:Int),(na:List Int),(nx:yY),⟨⟩⟩,⟨⟩⟩ ⟨(hp:al.length<=6),(hk:¬ known ((v0,v1,()),al,od,wy,()) nf≠0),(ho:od.length<=1000000000000)⟩ ⟨-,⟨⟨-,(nN:r7 .i64 nf),-⟩,-⟩⟩;refine j6 (n:=1000) Eu Ev ?_;refine i6 (Ya v0 v1 al od wy nk nf nt nv ns na nx) ?_;simp only [j5,Tree.holds,sL];have key:∀ r:f9,W6 ((v0,v1,()),al,od,wy,()) (nk,nf,nt,nv,ns,na,nx,())=r->(((r,()):f9×Unit)=(W6 ((v0,v1,()),al,od,wy,()) (nk,nf,nt,nv,ns,na,nx,()),())):=by rintro r rfl; rfl
  have e1:=λ a=>(W6.eq_1 ((v0,v1,()),al,od,wy,()) (nk,nf,nt,nv,ns,na,nx,())).trans (if_pos a);have e2:=λ a=>(W6.eq_1 ((v0,v1,()),al,od,wy,()) (nk,nf,nt,nv,ns,na,nx,())).trans (if_neg a);refine ⟨BK hk,λ _=>⟨λ a=>key _ (e1 a),λ a=>?_⟩⟩;have e3:=e2 a;have bH:=yQ (Decidable.not_not.1 a);obtain ⟨w,hw⟩:∃ w:f9,w=yc ((v0,v1,()),al,od,wy,()) nf (xR (N3 ((v0,v1,()),al,od,wy,()) nf) (X8 ((v0,v1,()),al,od,wy,()) (nk,nf,nt,nv,ns,na,nx,())).1):=⟨_,rfl⟩;obtain ⟨first,hf⟩:∃ first,first=(N3 ((v0,v1,()),al,od,wy,()) nf).2.2.2.2.1.1:=⟨_,rfl⟩
  obtain ⟨l,hl⟩:∃ l,l=(X8 ((v0,v1,()),al,od,wy,()) (nk,nf,nt,nv,ns,na,nx,())).2.1:=⟨_,rfl⟩;have rz:w.2.1.length=al.length:=by rw [hw]; exact List.length_set ..
  have qy:w.2.2.1=od:=by rw [hw]; rfl
  have h0:0<=first/\first<=16777215:=by rw [hf]; exact bH.2.2.2.1
  have lG:l.length<=16:=by rw [hl]; exact bH.2.2.1
  have bf:∀ t∈l,D9 t=false:=by rw [hl]; exact λ t ht=>(bH.1 t ht).2
  suffices go:Go.Ex.Reach yE Tryz.f66 () (I6 nf first l w l.length,()) (.code (f8 (d8 Tryz.prog 66) 7).1::.inLoop (f8 (d8 Tryz.prog 66) 7).1::(f8 (d8 Tryz.prog 66) 7).2) (JV first (l.length:Int) ((0:Nat):Int) nk nf nt nv ns na nx l (I6 nf first l w 0).1.1 (I6 nf first l w 0).1.2.1 (I6 nf first l w 0).2.1 (I6 nf first l w 0).2.2.1 (I6 nf first l w 0).2.2.2.1) by
    subst hw; subst hf; subst hl;rw [e3];rw [I6] at go;exact go
  refine Reach.J8 Eu Ev (λ i:Nat=>JV first (l.length:Int) (i:Int) nk nf nt nv ns na nx l (I6 nf first l w i).1.1 (I6 nf first l w i).1.2.1 (I6 nf first l w i).2.1 (I6 nf first l w i).2.2.1 (I6 nf first l w i).2.2.2.1) (λ i=>i<=l.length)
    (λ i=>l.length - i) 1000 (λ _=>⟨r8 rfl,r8 rfl⟩) ?_ 0 (Nat.zero_le _)
  rintro i k1 - ih;have k1:i<=l.length:=k1;refine i6 (ZE ..) ?_;have e4:((i:Nat):Int)+1=((i+1:Nat):Int):=by omega
  obtain ⟨t1,t2,t3⟩:=JP (f:=nf) (first:=first) (l:=l) (w:=w) i;rw [qy] at t3;have mw:(C7 nf).length<=20:=Ci (G0.1 nN).1 (G0.1 nN).2;have si:(C7 (first+i)).length<=20:=Ci (by omega) (by omega);have dY:i<l.length->(l.getD i []).length<=200:=λ h=>Jr (bf _ (by rw [List.getD_eq_getElem?_getD,List.getElem?_eq_getElem h]; exact List.getElem_mem _));have jm:maxLen=9223372036854775807:=by decide
  have jd:Ty.wb .str=16:=rfl;simp only [j5,Tree.holds,e4,sL];refine ⟨λ c=>⟨by omega,λ _=>⟨?_,λ _=>⟨?_,λ _=>⟨?_,λ _=>⟨?_,λ _=>⟨?_,λ _=>⟨?_,λ _=>?_⟩⟩⟩⟩⟩⟩⟩,λ c=>?_⟩
  . simp only [List.length_cons,List.length_nil,jm]; omega
  . exact ⟨by omega,by omega⟩
  . simp only [List.length_append,List.length_cons,List.length_nil,jm]; omega
  . simp only [List.length_append,List.length_cons,List.length_nil,jm]; omega
  . have:=dY (by omega);simp only [List.length_append,List.length_cons,List.length_nil,jm]; omega
  . rw [jd,t3]; omega
  . obtain ⟨x,hx⟩:∃ x,x=I5 nf (first+i) (l.getD i []):=⟨_,rfl⟩;obtain ⟨u,hu⟩:∃ u,u=zq (I6 nf first l w i) x:=⟨_,rfl⟩;have qE:u.2.1=(I6 nf first l w i).2.1:=by rw [hu]; rfl
    suffices go:Go.Ex.Reach yE Tryz.f66 () (I6 nf first l w l.length,()) (.code (f8 (d8 Tryz.prog 66) 12).1::.inLoop (f8 (d8 Tryz.prog 66) 12).1::(f8 (d8 Tryz.prog 66) 12).2) (Kg first x (l.length:Int) (i:Int) (u.2.1.length:Int) ((0:Nat):Int) nk nf nt nv ns na nx l (G4 x u 0).1.1 (G4 x u 0).1.2.1 (G4 x u 0).2.1 (G4 x u 0).2.2.1 (G4 x u 0).2.2.2.1) by
      subst hu; subst hx;rw [G4] at go;exact go
    refine Reach.J8 Eu Ev (λ p:Nat=>Kg first x (l.length:Int) (i:Int) (u.2.1.length:Int) (p:Int) nk nf nt nv ns na nx l (G4 x u p).1.1 (G4 x u p).1.2.1 (G4 x u p).2.1 (G4 x u p).2.2.1 (G4 x u p).2.2.2.1) (λ p=>p<=u.2.1.length)
      (λ p=>u.2.1.length - p) 1000 (λ _=>⟨r8 rfl,r8 rfl⟩) ?_ 0 (Nat.zero_le _)
    rintro p k2 - ih2;have k2:p<=u.2.1.length:=k2;refine i6 (b8i ..) ?_;have e5:((p:Nat):Int)+1=((p+1:Nat):Int):=by omega
    obtain ⟨c1,c2,c3⟩:=JC (x:=x) (w:=u) p;have rG:u.2.1.length<=6:=by rw [qE,t1,rz]; exact hp
    have rF:u.2.2.1.length=od.length+i+1:=by rw [hu]; show ((I6 nf first l w i).2.2.1++[x]).length=_; rw [List.length_append,t3]; rfl
    simp only [j5,Tree.holds,e5,sL];refine ⟨λ d=>⟨?_,λ _=>⟨λ e=>⟨?_,λ _=>⟨?_,λ _=>?_⟩⟩,λ e=>⟨?_,λ _=>?_⟩⟩⟩,λ d=>⟨?_,λ _=>?_⟩⟩
    . rw [c1]; exact rG
    . rw [c3,rF]; exact ⟨by omega,by omega⟩
    . exact ⟨by omega,by omega⟩
    . have:=ih2 (p+1) (by show p+1<=u.2.1.length; omega) (by show u.2.1.length - (p+1)<u.2.1.length - p; omega);rw [XN e] at this;exact this
    . exact ⟨by omega,by omega⟩
    . have:=ih2 (p+1) (by show p+1<=u.2.1.length; omega) (by show u.2.1.length - (p+1)<u.2.1.length - p; omega);rw [XM e] at this;exact this
    . exact ⟨by omega,by omega⟩
    . obtain rfl:p=u.2.1.length:=by omega
      have:=ih (i+1) (by show i+1<=l.length; omega) (by show l.length - (i+1)<l.length - i; omega);rw [show I6 nf first l w (i+1)=G4 x u u.2.1.length by rw [I6,qE,hu,hx]] at this;exact this
  . obtain rfl:i=l.length:=by omega
    rfl
theorem Jo {q:Int} {x:n6} {t:yY} (h:who t=q) (h2:(Q4 x.2.2.1 (nth t+1)).2.1=0):vL q x t=(x.1,x.2.1++[(who t,wH t,())],(Q4 x.2.2.1 (nth t+1)).1,x.2.2.2):=by
  rw [vL]; exact if_pos ⟨h,h2⟩
theorem DN {q:Int} {x:n6} {t:yY} (h:¬ (who t=q/\(Q4 x.2.2.1 (nth t+1)).2.1=0)):vL q x t=(x.1,x.2.1++[(who t,wH t,())],x.2.2):=by
  rw [vL]; exact if_neg h
theorem QG (q:Int) (x:n6) (t:yY):(vL q x t).2.1=x.2.1++[(who t,wH t,())]:=by
  rw [vL]; split<;>rfl
theorem KK {q:Int} {x:n6} {l:List yY}:∀ i,(J5 q x l i).2.1.length=x.2.1.length+i
  | 0=>rfl
  | i+1=>by rw [J5,QG,List.length_append,KK i]; rfl
def Hd:o7:={ ps:=[.rw s5,.v yW],rs:=[],pre:=λ x=>(LE.le (α:=Int) 0 x.2.1.2.2.1/\LT.lt (α:=Int) x.2.1.2.2.1 (List.length (α:=n6) (x.1:f9).2.1))/\List.length (α:=C4) (N3 x.1 x.2.1.2.2.1).2.1<=1000000000000/\(∀ t∈(P9 x.1 x.2.1).2.1,okT t),fn:=λ _=>(),out:=λ x=>(vn x.1 x.2.1,()) }
noncomputable def a70:Env:={ P:=Tryz.prog,tt:=tt,C5:=[(83,Gp),(86,LR),(84,Lk),(85,FB)],res:=[],rs:=[],ps:=[PK.rw s5,PK.v (Ty.pair d9 (Ty.pair d9 (Ty.pair d9 (Ty.pair d9 (Ty.pair d9 (Ty.pair X1 (Ty.pair Ty.str Ty.unit)))))))],y8:=[(6,[(3,none),(4,none),(49,some (Ty.d0 true Ty.str)),(50,none),(51,none)])],nt:=110 }
theorem Jt:w5 a70:=w9 p7 ⟨Se,b5A,c06,b76,trivial⟩
theorem Jx:B8 a70 Tryz.f67:=⟨rfl,rfl⟩
theorem Wq (ai:Int) (af:Int) (ab:List n6) (ae:List yY) (aa:List yY) (bL:Int) (aM:Int) (aI:Int) (aY:Int) (aE:Int) (aT:List Int) (aw:yY):exec a70 1000 [.code (d8 Tryz.prog 67)] (s7 Hd.ps ((((ai,af,()),ab,ae,aa,()),(bL,aM,aI,aY,aE,aT,aw,()),()))) =
  .f7 ((0:Int)<=aI/\aI<(↑(List.length ab):Int)) (.f7 (True) (cond (decide (Prod.fst (Prod.snd (Prod.snd (D3 (Prod.fst (Prod.snd (Prod.snd (Prod.snd (List.getD ab (Int.toNat aI) (false,[],((0:Int),[],()),((0:Int),[],()),((0:Int),[],()),())))))) (aE,aw,()))))≠(0:Int))) (.ret ((((ai,af,()),ab,ae,aa,()),()))) (.ctL (f8 (d8 Tryz.prog 67) 6) (St.mk [(3,AV.ptr 3 []),(4,AV.ptr 2000000 [Step.l6 1,Step.idx aI]),(49,AV.at_ 1000049 []),(50,AV.val d9 (↑(List.length (Prod.fst (Prod.snd (D3 (Prod.fst (Prod.snd (Prod.snd (Prod.snd (List.getD ab (Int.toNat aI) (false,[],((0:Int),[],()),((0:Int),[],()),((0:Int),[],()),())))))) (aE,aw,()))))):Int)),(51,AV.val d9 (0:Int))] [(3,g8.var (Ty.pair d9 (Ty.pair d9 (Ty.pair d9 (Ty.pair d9 (Ty.pair d9 (Ty.pair X1 (Ty.pair Ty.str Ty.unit))))))) (bL,aM,aI,aY,aE,aT,aw,())),(1000049,g8.own (Ty.d0 true Ty.str) (Prod.fst (Prod.snd (D3 (Prod.fst (Prod.snd (Prod.snd (Prod.snd (List.getD ab (Int.toNat aI) (false,[],((0:Int),[],()),((0:Int),[],()),((0:Int),[],()),())))))) (aE,aw,()))))),(2000000,g8.var s5 ((ai,af,()),List.set ab (Int.toNat aI) (Prod.fst (List.getD ab (Int.toNat aI) (false,[],((0:Int),[],()),((0:Int),[],()),((0:Int),[],()),())),Prod.fst (Prod.snd (List.getD ab (Int.toNat aI) (false,[],((0:Int),[],()),((0:Int),[],()),((0:Int),[],()),()))),Prod.fst (Prod.snd (Prod.snd (List.getD ab (Int.toNat aI) (false,[],((0:Int),[],()),((0:Int),[],()),((0:Int),[],()),())))),Prod.fst (D3 (Prod.fst (Prod.snd (Prod.snd (Prod.snd (List.getD ab (Int.toNat aI) (false,[],((0:Int),[],()),((0:Int),[],()),((0:Int),[],()),())))))) (aE,aw,())),Prod.snd (Prod.snd (Prod.snd (Prod.snd (List.getD ab (Int.toNat aI) (false,[],((0:Int),[],()),((0:Int),[],()),((0:Int),[],()),())))))),ae,aa,()))])))):=by kernel_rfl
def Ju (uI:Int) (yk:Int) (v51:Int) (cC:Int) (aW:Int) (aR:Int) (aH:Int) (aA:Int) (au:List Int) (ao:yY) (bd:List yY) (ar:Int) (an:Int) (aj:List n6) (ak:List yY) (ah:List yY):St:=St.mk [(3,AV.ptr 3 []),(4,AV.ptr 2000000 [Step.l6 1,Step.idx uI]),(49,AV.at_ 1000049 []),(50,AV.val d9 yk),(51,AV.val d9 v51)] [(3,g8.var (Ty.pair d9 (Ty.pair d9 (Ty.pair d9 (Ty.pair d9 (Ty.pair d9 (Ty.pair X1 (Ty.pair Ty.str Ty.unit))))))) (cC,aW,aR,aH,aA,au,ao,())),(1000049,g8.own (Ty.d0 true Ty.str) bd),(2000000,g8.var s5 ((ar,an,()),aj,ak,ah,()))]
theorem Yb (uI:Int) (yk:Int) (v51:Int) (cC:Int) (aW:Int) (aR:Int) (aH:Int) (aA:Int) (au:List Int) (ao:yY) (bd:List yY) (ar:Int) (an:Int) (aj:List n6) (ak:List yY) (ah:List yY):exec a70 1000 (.code (f8 (d8 Tryz.prog 67) 6).1::.inLoop (f8 (d8 Tryz.prog 67) 6).1::(f8 (d8 Tryz.prog 67) 6).2) (Ju uI yk v51 cC aW aR aH aA au ao bd ar an aj ak ah) =
  cond (decide (v51<yk)) (.f7 ((0:Int)<=v51/\v51<(↑(List.length bd):Int)) (.f7 (List.length (List.getD bd (Int.toNat v51) [])<=1000000/\Array.toList (ByteArray.data (ByteArray.mk #[58]))=[(58:UInt8)]) (.f7 (List.length (Prod.fst (Prod.snd (x6 (List.getD bd (Int.toNat v51) []))))<=1000000/\Array.toList (ByteArray.data (ByteArray.mk #[58]))=[(58:UInt8)]) (.f7 (List.length (Prod.fst (x6 (List.getD bd (Int.toNat v51) [])))<=18/\Option.isSome (Go.Lib.atoi (Prod.fst (x6 (List.getD bd (Int.toNat v51) []))))=true) (.f7 (True/\True/\[Step.l6 1,Step.idx uI]++[Step.l6 1]=[Step.l6 1,Step.idx uI]++[Step.l6 1]/\List.length (Prod.fst (Prod.snd (List.getD aj (Int.toNat uI) (false,[],((0:Int),[],()),((0:Int),[],()),((0:Int),[],()),()))))+List.length (List.set [((0:Int),[],())] (Int.toNat (↑0:Int)) (Option.getD (Go.Lib.atoi (Prod.fst (x6 (List.getD bd (Int.toNat v51) [])))) (0:Int),Prod.fst (Prod.snd (x6 (Prod.fst (Prod.snd (x6 (List.getD bd (Int.toNat v51) [])))))),()))<=140737488355328/\(List.length (Prod.fst (Prod.snd (List.getD aj (Int.toNat uI) (false,[],((0:Int),[],()),((0:Int),[],()),((0:Int),[],()),()))))+List.length (List.set [((0:Int),[],())] (Int.toNat (↑0:Int)) (Option.getD (Go.Lib.atoi (Prod.fst (x6 (List.getD bd (Int.toNat v51) [])))) (0:Int),Prod.fst (Prod.snd (x6 (Prod.fst (Prod.snd (x6 (List.getD bd (Int.toNat v51) [])))))),())))*Ty.wb p9<=140737488355328) (cond (decide (Option.getD (Go.Lib.atoi (Prod.fst (x6 (List.getD bd (Int.toNat v51) [])))) (0:Int)=aR)) (.f7 (List.length (Prod.fst (x6 (Prod.fst (Prod.snd (x6 (List.getD bd (Int.toNat v51) []))))))<=18/\Option.isSome (Go.Lib.atoi (Prod.fst (x6 (Prod.fst (Prod.snd (x6 (List.getD bd (Int.toNat v51) [])))))))=true) (.f7 (r7 IntKind.i64 (Option.getD (Go.Lib.atoi (Prod.fst (x6 (Prod.fst (Prod.snd (x6 (List.getD bd (Int.toNat v51) []))))))) (0:Int)+(1:Int))) (.f7 ((0:Int)<=Option.getD (Go.Lib.atoi (Prod.fst (x6 (Prod.fst (Prod.snd (x6 (List.getD bd (Int.toNat v51) []))))))) (0:Int)+(1:Int)) (cond (decide (Prod.fst (Prod.snd (Q4 (Prod.fst (Prod.snd (Prod.snd (List.getD (List.set aj (Int.toNat uI) (Prod.fst (List.getD aj (Int.toNat uI) (false,[],((0:Int),[],()),((0:Int),[],()),((0:Int),[],()),())),Prod.fst (Prod.snd (List.getD aj (Int.toNat uI) (false,[],((0:Int),[],()),((0:Int),[],()),((0:Int),[],()),())))++List.set [((0:Int),[],())] (Int.toNat (↑0:Int)) (Option.getD (Go.Lib.atoi (Prod.fst (x6 (List.getD bd (Int.toNat v51) [])))) (0:Int),Prod.fst (Prod.snd (x6 (Prod.fst (Prod.snd (x6 (List.getD bd (Int.toNat v51) [])))))),()),Prod.snd (Prod.snd (List.getD aj (Int.toNat uI) (false,[],((0:Int),[],()),((0:Int),[],()),((0:Int),[],()),()))))) (Int.toNat uI) (false,[],((0:Int),[],()),((0:Int),[],()),((0:Int),[],()),()))))) (Option.getD (Go.Lib.atoi (Prod.fst (x6 (Prod.fst (Prod.snd (x6 (List.getD bd (Int.toNat v51) []))))))) (0:Int)+(1:Int))))=(0:Int))) (.f7 (r7 IntKind.i64 (v51+(1:Int))) (.ctL (f8 (d8 Tryz.prog 67) 6) (St.mk [(3,AV.ptr 3 []),(4,AV.ptr 2000000 [Step.l6 1,Step.idx uI]),(49,AV.at_ 1000049 []),(50,AV.val d9 yk),(51,AV.val d9 (v51+(1:Int)))] [(3,g8.var (Ty.pair d9 (Ty.pair d9 (Ty.pair d9 (Ty.pair d9 (Ty.pair d9 (Ty.pair X1 (Ty.pair Ty.str Ty.unit))))))) (cC,aW,aR,aH,aA,au,ao,())),(1000049,g8.own (Ty.d0 true Ty.str) bd),(2000000,g8.var s5 ((ar,an,()),List.set (List.set aj (Int.toNat uI) (Prod.fst (List.getD aj (Int.toNat uI) (false,[],((0:Int),[],()),((0:Int),[],()),((0:Int),[],()),())),Prod.fst (Prod.snd (List.getD aj (Int.toNat uI) (false,[],((0:Int),[],()),((0:Int),[],()),((0:Int),[],()),())))++List.set [((0:Int),[],())] (Int.toNat (↑0:Int)) (Option.getD (Go.Lib.atoi (Prod.fst (x6 (List.getD bd (Int.toNat v51) [])))) (0:Int),Prod.fst (Prod.snd (x6 (Prod.fst (Prod.snd (x6 (List.getD bd (Int.toNat v51) [])))))),()),Prod.snd (Prod.snd (List.getD aj (Int.toNat uI) (false,[],((0:Int),[],()),((0:Int),[],()),((0:Int),[],()),()))))) (Int.toNat uI) (Prod.fst (List.getD (List.set aj (Int.toNat uI) (Prod.fst (List.getD aj (Int.toNat uI) (false,[],((0:Int),[],()),((0:Int),[],()),((0:Int),[],()),())),Prod.fst (Prod.snd (List.getD aj (Int.toNat uI) (false,[],((0:Int),[],()),((0:Int),[],()),((0:Int),[],()),())))++List.set [((0:Int),[],())] (Int.toNat (↑0:Int)) (Option.getD (Go.Lib.atoi (Prod.fst (x6 (List.getD bd (Int.toNat v51) [])))) (0:Int),Prod.fst (Prod.snd (x6 (Prod.fst (Prod.snd (x6 (List.getD bd (Int.toNat v51) [])))))),()),Prod.snd (Prod.snd (List.getD aj (Int.toNat uI) (false,[],((0:Int),[],()),((0:Int),[],()),((0:Int),[],()),()))))) (Int.toNat uI) (false,[],((0:Int),[],()),((0:Int),[],()),((0:Int),[],()),())),Prod.fst (Prod.snd (List.getD (List.set aj (Int.toNat uI) (Prod.fst (List.getD aj (Int.toNat uI) (false,[],((0:Int),[],()),((0:Int),[],()),((0:Int),[],()),())),Prod.fst (Prod.snd (List.getD aj (Int.toNat uI) (false,[],((0:Int),[],()),((0:Int),[],()),((0:Int),[],()),())))++List.set [((0:Int),[],())] (Int.toNat (↑0:Int)) (Option.getD (Go.Lib.atoi (Prod.fst (x6 (List.getD bd (Int.toNat v51) [])))) (0:Int),Prod.fst (Prod.snd (x6 (Prod.fst (Prod.snd (x6 (List.getD bd (Int.toNat v51) [])))))),()),Prod.snd (Prod.snd (List.getD aj (Int.toNat uI) (false,[],((0:Int),[],()),((0:Int),[],()),((0:Int),[],()),()))))) (Int.toNat uI) (false,[],((0:Int),[],()),((0:Int),[],()),((0:Int),[],()),()))),Prod.fst (Q4 (Prod.fst (Prod.snd (Prod.snd (List.getD (List.set aj (Int.toNat uI) (Prod.fst (List.getD aj (Int.toNat uI) (false,[],((0:Int),[],()),((0:Int),[],()),((0:Int),[],()),())),Prod.fst (Prod.snd (List.getD aj (Int.toNat uI) (false,[],((0:Int),[],()),((0:Int),[],()),((0:Int),[],()),())))++List.set [((0:Int),[],())] (Int.toNat (↑0:Int)) (Option.getD (Go.Lib.atoi (Prod.fst (x6 (List.getD bd (Int.toNat v51) [])))) (0:Int),Prod.fst (Prod.snd (x6 (Prod.fst (Prod.snd (x6 (List.getD bd (Int.toNat v51) [])))))),()),Prod.snd (Prod.snd (List.getD aj (Int.toNat uI) (false,[],((0:Int),[],()),((0:Int),[],()),((0:Int),[],()),()))))) (Int.toNat uI) (false,[],((0:Int),[],()),((0:Int),[],()),((0:Int),[],()),()))))) (Option.getD (Go.Lib.atoi (Prod.fst (x6 (Prod.fst (Prod.snd (x6 (List.getD bd (Int.toNat v51) []))))))) (0:Int)+(1:Int))),Prod.snd (Prod.snd (Prod.snd (List.getD (List.set aj (Int.toNat uI) (Prod.fst (List.getD aj (Int.toNat uI) (false,[],((0:Int),[],()),((0:Int),[],()),((0:Int),[],()),())),Prod.fst (Prod.snd (List.getD aj (Int.toNat uI) (false,[],((0:Int),[],()),((0:Int),[],()),((0:Int),[],()),())))++List.set [((0:Int),[],())] (Int.toNat (↑0:Int)) (Option.getD (Go.Lib.atoi (Prod.fst (x6 (List.getD bd (Int.toNat v51) [])))) (0:Int),Prod.fst (Prod.snd (x6 (Prod.fst (Prod.snd (x6 (List.getD bd (Int.toNat v51) [])))))),()),Prod.snd (Prod.snd (List.getD aj (Int.toNat uI) (false,[],((0:Int),[],()),((0:Int),[],()),((0:Int),[],()),()))))) (Int.toNat uI) (false,[],((0:Int),[],()),((0:Int),[],()),((0:Int),[],()),()))))),ak,ah,()))]))) (.f7 (r7 IntKind.i64 (v51+(1:Int))) (.ctL (f8 (d8 Tryz.prog 67) 6) (St.mk [(3,AV.ptr 3 []),(4,AV.ptr 2000000 [Step.l6 1,Step.idx uI]),(49,AV.at_ 1000049 []),(50,AV.val d9 yk),(51,AV.val d9 (v51+(1:Int)))] [(3,g8.var (Ty.pair d9 (Ty.pair d9 (Ty.pair d9 (Ty.pair d9 (Ty.pair d9 (Ty.pair X1 (Ty.pair Ty.str Ty.unit))))))) (cC,aW,aR,aH,aA,au,ao,())),(1000049,g8.own (Ty.d0 true Ty.str) bd),(2000000,g8.var s5 ((ar,an,()),List.set aj (Int.toNat uI) (Prod.fst (List.getD aj (Int.toNat uI) (false,[],((0:Int),[],()),((0:Int),[],()),((0:Int),[],()),())),Prod.fst (Prod.snd (List.getD aj (Int.toNat uI) (false,[],((0:Int),[],()),((0:Int),[],()),((0:Int),[],()),())))++List.set [((0:Int),[],())] (Int.toNat (↑0:Int)) (Option.getD (Go.Lib.atoi (Prod.fst (x6 (List.getD bd (Int.toNat v51) [])))) (0:Int),Prod.fst (Prod.snd (x6 (Prod.fst (Prod.snd (x6 (List.getD bd (Int.toNat v51) [])))))),()),Prod.snd (Prod.snd (List.getD aj (Int.toNat uI) (false,[],((0:Int),[],()),((0:Int),[],()),((0:Int),[],()),())))),ak,ah,()))]))))))) (.f7 (r7 IntKind.i64 (v51+(1:Int))) (.ctL (f8 (d8 Tryz.prog 67) 6) (St.mk [(3,AV.ptr 3 []),(4,AV.ptr 2000000 [Step.l6 1,Step.idx uI]),(49,AV.at_ 1000049 []),(50,AV.val d9 yk),(51,AV.val d9 (v51+(1:Int)))] [(3,g8.var (Ty.pair d9 (Ty.pair d9 (Ty.pair d9 (Ty.pair d9 (Ty.pair d9 (Ty.pair X1 (Ty.pair Ty.str Ty.unit))))))) (cC,aW,aR,aH,aA,au,ao,())),(1000049,g8.own (Ty.d0 true Ty.str) bd),(2000000,g8.var s5 ((ar,an,()),List.set aj (Int.toNat uI) (Prod.fst (List.getD aj (Int.toNat uI) (false,[],((0:Int),[],()),((0:Int),[],()),((0:Int),[],()),())),Prod.fst (Prod.snd (List.getD aj (Int.toNat uI) (false,[],((0:Int),[],()),((0:Int),[],()),((0:Int),[],()),())))++List.set [((0:Int),[],())] (Int.toNat (↑0:Int)) (Option.getD (Go.Lib.atoi (Prod.fst (x6 (List.getD bd (Int.toNat v51) [])))) (0:Int),Prod.fst (Prod.snd (x6 (Prod.fst (Prod.snd (x6 (List.getD bd (Int.toNat v51) [])))))),()),Prod.snd (Prod.snd (List.getD aj (Int.toNat uI) (false,[],((0:Int),[],()),((0:Int),[],()),((0:Int),[],()),())))),ak,ah,()))]))))))))) (.ret ((((ar,an,()),aj,ak,ah,()),()))):=by kernel_rfl
attribute [local irreducible] vn D3 Q4 x6 Lib.atoi in
theorem b5q:Hd.Valid Tryz.prog 67:=by
  refine o7.n8 Jt rfl rfl Tryz.func67 (c:=d8 Tryz.prog 67) rfl rfl Jx rfl ?_;rintro ⟨⟨⟨(v0:Int),(v1:Int),⟨⟩⟩,(al:List n6),(od:List yY),(wy:List yY),⟨⟩⟩,⟨(nk:Int),(nf:Int),(nt:Int),(nv:Int),(ns:Int),(na:List Int),(nx:yY),⟨⟩⟩,⟨⟩⟩ ⟨(hp:0<=nt/\nt<(al.length:Int)),(hl:(N3 ((v0,v1,()),al,od,wy,()) nt).2.1.length<=1000000000000),(aL:∀ t∈(P9 ((v0,v1,()),al,od,wy,()) (nk,nf,nt,nv,ns,na,nx,())).2.1,okT t)⟩ -
  refine j6 (n:=1000) Jt Jx ?_;refine i6 (Wq v0 v1 al od wy nk nf nt nv ns na nx) ?_;simp only [j5,Tree.holds,sL];have e1:=λ a=>(vn.eq_1 ((v0,v1,()),al,od,wy,()) (nk,nf,nt,nv,ns,na,nx,())).trans (if_pos a);have e2:=λ a=>(vn.eq_1 ((v0,v1,()),al,od,wy,()) (nk,nf,nt,nv,ns,na,nx,())).trans (if_neg a);have key:∀ r:f9,vn ((v0,v1,()),al,od,wy,()) (nk,nf,nt,nv,ns,na,nx,())=r->(((r,()):f9×Unit)=(vn ((v0,v1,()),al,od,wy,()) (nk,nf,nt,nv,ns,na,nx,()),())):=by rintro r rfl; rfl
  refine ⟨hp,λ _=>⟨λ a=>key _ (e1 a),λ a=>?_⟩⟩;have e3:=e2 a;have bH:=yQ (Decidable.not_not.1 a);obtain ⟨x,hx⟩:∃ x:n6,x=AE (N3 ((v0,v1,()),al,od,wy,()) nt) (P9 ((v0,v1,()),al,od,wy,()) (nk,nf,nt,nv,ns,na,nx,())).1:=⟨_,rfl⟩;obtain ⟨l,lG⟩:∃ l,l=(P9 ((v0,v1,()),al,od,wy,()) (nk,nf,nt,nv,ns,na,nx,())).2.1:=⟨_,rfl⟩;have qx:x.2.1.length<=1000000000000:=by rw [hx]; exact hl
  have sA:l.length<=16:=by rw [lG]; exact bH.2.2.1
  have bf:∀ t∈l,D9 t=false:=by rw [lG]; exact λ t ht=>(bH.1 t ht).2
  have iS:∀ t∈l,okT t:=by rw [lG]; exact aL
  suffices go:Go.Ex.Reach a70 Tryz.f67 () (yc ((v0,v1,()),al,od,wy,()) nt (J5 nt x l l.length),()) (.code (f8 (d8 Tryz.prog 67) 6).1::.inLoop (f8 (d8 Tryz.prog 67) 6).1::(f8 (d8 Tryz.prog 67) 6).2) (Ju nt (l.length:Int) ((0:Nat):Int) nk nf nt nv ns na nx l v0 v1 (al.set nt.toNat (J5 nt x l 0)) od wy) by
    subst hx; subst lG;rw [e3];rw [J5] at go;exact go
  refine Reach.J8 Jt Jx (λ i:Nat=>Ju nt (l.length:Int) (i:Int) nk nf nt nv ns na nx l v0 v1 (al.set nt.toNat (J5 nt x l i)) od wy) (λ i=>i<=l.length)
    (λ i=>l.length - i) 1000 (λ _=>⟨r8 rfl,r8 rfl⟩) ?_ 0 (Nat.zero_le _)
  rintro i k1 - ih;have k1:i<=l.length:=k1;refine i6 (Yb ..) ?_;have e4:((i:Nat):Int)+1=((i+1:Nat):Int):=by omega
  have hg:∀ y:n6,(al.set nt.toNat y).getD nt.toNat (false,[],(0,[],()),(0,[],()),(0,[],()),())=y:=λ y=>by
    rw [List.getD_eq_getElem?_getD,List.getElem?_set_self (by omega)]; rfl
  have oF:∀ y z:n6,(al.set nt.toNat y).set nt.toNat z=al.set nt.toNat z:=λ y z=>List.set_set ..;have jd:Ty.wb p9=24:=rfl;have hlen:=KK (q:=nt) (x:=x) (l:=l) i;obtain ⟨y,hy⟩:∃ y,y=J5 nt x l i:=⟨_,rfl⟩;obtain ⟨t,ht⟩:∃ t,t=l.getD i []:=⟨_,rfl⟩;have hs:J5 nt x l (i+1)=vL nt y t:=by rw [J5,<- hy,<- ht]
  have hT:i<l.length->D9 t=false/\okT t:=λ h=>by
    have:t∈l:=by rw [ht,List.getD_eq_getElem?_getD,List.getElem?_eq_getElem h]; exact List.getElem_mem _
    exact ⟨bf t this,iS t this⟩
  have ih1:i<l.length->_:=λ h=>ih (i+1) (by show i+1<=l.length; omega) (by show l.length - (i+1)<l.length - i; omega);rw [hs] at ih1;rw [<- hy] at hlen ⊢;simp only [j5,Tree.holds,e4,hg,oF,sL];rw [<- ht];have dL:=Bv t;have ig:=Bv (x6 t).2.1;refine ⟨λ c=>?_,λ c=>?_⟩
  . have c':i<l.length:=by omega
    obtain ⟨g1,g2⟩:=hT c';have g3:=Jr g1;have g4:=UZ g2;refine ⟨⟨by omega,by omega⟩,λ _=>⟨⟨by omega,trivial⟩,λ _=>⟨⟨by omega,trivial⟩,λ _=>⟨g4.1,λ _=>⟨?_,λ _=>⟨λ d=>⟨g4.2.1,λ _=>⟨?_,λ _=>⟨?_,λ _=>⟨λ e=>⟨?_,λ _=>?_⟩,λ e=>⟨?_,λ _=>?_⟩⟩⟩⟩⟩,λ d=>⟨?_,λ _=>?_⟩⟩⟩⟩⟩⟩⟩
    . rw [jd]; omega
    . have:0<=nth t/\nth t<=16777300:=g4.2.2;show r7 .i64 (nth t+1);exact G0.2 ⟨by omega,by omega⟩
    . have:0<=nth t/\nth t<=16777300:=g4.2.2;show 0<=nth t+1;omega
    . exact ⟨by omega,by omega⟩
    . have:=ih1 c';rw [Jo d e] at this;exact this
    . exact ⟨by omega,by omega⟩
    . have:=ih1 c';rw [DN (λ h=>e h.2)] at this;exact this
    . exact ⟨by omega,by omega⟩
    . have:=ih1 c';rw [DN (λ h=>d h.1)] at this;exact this
  . obtain rfl:i=l.length:=by omega
    rw [hy]; rfl
theorem zT {w:f9} {n:y9}:∀ j,(F2 w n j).2.1=w.2.1/\(F2 w n j).1=w.1/\(F2 w n j).2.2.1=w.2.2.1
  | 0=>⟨rfl,rfl,rfl⟩
  | j+1=>by
    obtain ⟨h1,h2,h3⟩:=zT (w:=w) (n:=n) j;rw [F2]
    split
    . obtain ⟨g1,g2,g3⟩:=El (w:=F2 w n j) (k:=2) (f:=K8 (F2 w n j)) (t:=n.2.1) (s:=n.2.2.2.2.1+j) (x:=(F2 w n j).2.2.1.getD (n.2.2.2.2.1+j).toNat []);exact ⟨g1.trans h1,g2.trans h2,g3.trans h3⟩
    . exact ⟨h1,h2,h3⟩
theorem XG {w:f9} {n:y9} {j:Nat} (h:n.2.2.2.2.1+j<(F2 w n j).2.2.1.length):F2 w n (j+1)=L8 (F2 w n j) 2 (K8 (F2 w n j)) n.2.1 (n.2.2.2.2.1+j) ((F2 w n j).2.2.1.getD (n.2.2.2.2.1+j).toNat []):=by
  rw [F2]; exact if_pos h
theorem RO {w:f9} {n:y9} {j:Nat} (h:¬ n.2.2.2.2.1+j<w.2.2.1.length):∀ m,F2 w n (j+m)=F2 w n j
  | 0=>rfl
  | m+1=>by
    rw [<- Nat.add_assoc,F2,if_neg,RO h m];rw [(zT (j+m)).2.2];omega
structure wR (w:f9) (n:y9):Prop where
  K9:w.2.1.length<=6
  to:0<=n.2.2.1/\n.2.2.1<(w.2.1.length:Int)
  seq:0<=n.2.2.2.2.1/\n.2.2.2.2.1<=16777215
  log:(N3 w n.2.2.1).2.1.length<=1000000000000
  ord:w.2.2.1.length<=1000000000000
  txt:n.1=2->∀ t∈(P9 w n).2.1,okT t
def Jc:o7:={ ps:=[.rw s5,.v yW],rs:=[],pre:=λ x=>wR x.1 x.2.1,fn:=λ _=>(),out:=λ x=>(F7 x.1 x.2.1,()) }
noncomputable def By:Env:={ P:=Tryz.prog,tt:=tt,C5:=[(49,yA),(66,Hc),(67,Hd),(43,zo),(44,ze)],res:=[],rs:=[],ps:=[PK.rw s5,PK.v (Ty.pair d9 (Ty.pair d9 (Ty.pair d9 (Ty.pair d9 (Ty.pair d9 (Ty.pair X1 (Ty.pair Ty.str Ty.unit)))))))],y8:=[(7,[(0,none),(3,none),(4,none)])],nt:=56 }
theorem KB:w5 By:=w9 p7 ⟨Cb,b5s,b5q,EG,EA,trivial⟩
theorem KF:B8 By Tryz.f48:=⟨rfl,rfl⟩
theorem b8k (ai:Int) (af:Int) (ab:List n6) (ae:List yY) (aa:List yY) (bL:Int) (aM:Int) (aI:Int) (aY:Int) (aE:Int) (aT:List Int) (aw:yY):exec By 1000 [.code (d8 Tryz.prog 48)] (s7 Jc.ps ((((ai,af,()),ab,ae,aa,()),(bL,aM,aI,aY,aE,aT,aw,()),()))) =
  .f7 (List.length ab<=6) (cond (decide (known ((ai,af,()),ab,ae,aa,()) aM≠(0:Int))) (.ret ((((ai,af,()),ab,ae,aa,()),()))) (cond (decide (bL=(1:Int))) (.f7 (List.length ab<=6/\¬known ((ai,af,()),ab,ae,aa,()) aM≠(0:Int)/\List.length ae<=1000000000000) (.ret ((W6 ((ai,af,()),ab,ae,aa,()) (bL,aM,aI,aY,aE,aT,aw,()),())))) (cond (decide (bL=(3:Int))) (.ctL (f8 (d8 Tryz.prog 48) 7) (St.mk [(0,AV.ptr 2000000 []),(3,AV.ptr 3 []),(4,AV.val d9 aE)] [(3,g8.var (Ty.pair d9 (Ty.pair d9 (Ty.pair d9 (Ty.pair d9 (Ty.pair d9 (Ty.pair X1 (Ty.pair Ty.str Ty.unit))))))) (bL,aM,aI,aY,aE,aT,aw,())),(2000000,g8.var s5 ((ai,af,()),ab,ae,aa,()))])) (cond (decide (bL=(2:Int))) (.f7 (((0:Int)<=aI/\aI<(↑(List.length ab):Int))/\List.length (Prod.fst (Prod.snd (N3 ((ai,af,()),ab,ae,aa,()) aI)))<=1000000000000/\∀ (t:yY),t∈Prod.fst (Prod.snd (P9 ((ai,af,()),ab,ae,aa,()) (bL,aM,aI,aY,aE,aT,aw,())))->okT t) (.ret ((vn ((ai,af,()),ab,ae,aa,()) (bL,aM,aI,aY,aE,aT,aw,()),())))) (.ret ((((ai,af,()),ab,ae,aa,()),()))))))):=by kernel_rfl
def KC (v4:Int) (cC:Int) (aW:Int) (aR:Int) (aH:Int) (aA:Int) (au:List Int) (ao:yY) (ar:Int) (an:Int) (aj:List n6) (ak:List yY) (ah:List yY):St:=St.mk [(0,AV.ptr 2000000 []),(3,AV.ptr 3 []),(4,AV.val d9 v4)] [(3,g8.var (Ty.pair d9 (Ty.pair d9 (Ty.pair d9 (Ty.pair d9 (Ty.pair d9 (Ty.pair X1 (Ty.pair Ty.str Ty.unit))))))) (cC,aW,aR,aH,aA,au,ao,())),(2000000,g8.var s5 ((ar,an,()),aj,ak,ah,()))]
theorem b6S (v4:Int) (cC:Int) (aW:Int) (aR:Int) (aH:Int) (aA:Int) (au:List Int) (ao:yY) (ar:Int) (an:Int) (aj:List n6) (ak:List yY) (ah:List yY):exec By 1000 (.code (f8 (d8 Tryz.prog 48) 7).1::.inLoop (f8 (d8 Tryz.prog 48) 7).1::(f8 (d8 Tryz.prog 48) 7).2) (KC v4 cC aW aR aH aA au ao ar an aj ak ah) =
  cond (decide (v4<(↑(List.length ak):Int))) (.f7 (r7 IntKind.i64 (aA+(4:Int))) (cond (decide (v4<aA+(4:Int))) (.f7 (True) (.f7 ((0:Int)<=v4/\v4<(↑(List.length ak):Int)) (.f7 (True) (.f7 (r7 IntKind.i64 (v4+(1:Int))) (.ctL (f8 (d8 Tryz.prog 48) 7) (St.mk [(0,AV.ptr 2000000 []),(3,AV.ptr 3 []),(4,AV.val d9 (v4+(1:Int)))] [(3,g8.var (Ty.pair d9 (Ty.pair d9 (Ty.pair d9 (Ty.pair d9 (Ty.pair d9 (Ty.pair X1 (Ty.pair Ty.str Ty.unit))))))) (cC,aW,aR,aH,aA,au,ao,())),(2000000,g8.var s5 (L8 ((ar,an,()),aj,ak,ah,()) (2:Int) (K8 ((ar,an,()),aj,ak,ah,())) aW v4 (List.getD ak (Int.toNat v4) [])))])))))) (.ret ((((ar,an,()),aj,ak,ah,()),()))))) (.ret ((((ar,an,()),aj,ak,ah,()),()))):=by kernel_rfl
theorem Sg {w:f9} {n:y9} (h:known w n.2.1≠0):F7 w n=w:=by rw [F7]; exact if_pos h
theorem SE {w:f9} {n:y9} (h:¬ known w n.2.1≠0) (h1:n.1=1):F7 w n=W6 w n:=by rw [F7]; exact (if_neg h).trans (if_pos h1)
theorem SD {w:f9} {n:y9} (h:¬ known w n.2.1≠0) (h1:n.1=3):F7 w n=F2 w n 4:=by rw [F7]; exact (if_neg h).trans ((if_neg (by omega)).trans (if_pos h1))
theorem SX {w:f9} {n:y9} (h:¬ known w n.2.1≠0) (h1:n.1=2):F7 w n=vn w n:=by rw [F7]; exact (if_neg h).trans ((if_neg (by omega)).trans ((if_neg (by omega)).trans (if_pos h1)))
theorem SW {w:f9} {n:y9} (h1:n.1≠1) (h2:n.1≠3) (h3:n.1≠2):F7 w n=w:=by
  rw [F7,if_neg h1,if_neg h2,if_neg h3]; split<;>rfl
attribute [local irreducible] F7 W6 vn F2 L8 in
theorem b2b:Jc.Valid Tryz.prog 48:=by
  refine o7.n8 KB rfl rfl Tryz.func48 (c:=d8 Tryz.prog 48) rfl rfl KF rfl ?_;rintro ⟨⟨⟨(v0:Int),(v1:Int),⟨⟩⟩,(al:List n6),(od:List yY),(wy:List yY),⟨⟩⟩,⟨(nk:Int),(nf:Int),(nt:Int),(nv:Int),(ns:Int),(na:List Int),(nx:yY),⟨⟩⟩,⟨⟩⟩ (hq:wR ((v0,v1,()),al,od,wy,()) (nk,nf,nt,nv,ns,na,nx,())) -
  refine j6 (n:=1000) KB KF ?_;refine i6 (b8k v0 v1 al od wy nk nf nt nv ns na nx) ?_;simp only [j5,Tree.holds,sL];have key:∀ r:f9,F7 ((v0,v1,()),al,od,wy,()) (nk,nf,nt,nv,ns,na,nx,())=r->(((r,()):f9×Unit)=(F7 ((v0,v1,()),al,od,wy,()) (nk,nf,nt,nv,ns,na,nx,()),())):=by rintro r rfl; rfl
  refine ⟨hq.K9,λ _=>⟨λ a=>key _ (Sg a),λ a=>⟨λ b=>⟨⟨hq.K9,a,hq.ord⟩,λ _=>key _ (SE a b)⟩,λ b=>⟨λ c=>?_,λ c=>⟨λ d=>⟨⟨hq.to,hq.log,hq.txt d⟩,λ _=>key _ (SX a d)⟩,λ d=>key _ (SW b c d)⟩⟩⟩⟩⟩;obtain ⟨w,hw⟩:∃ w:f9,w=((v0,v1,()),al,od,wy,()):=⟨_,rfl⟩;obtain ⟨n,hn⟩:∃ n:y9,n=(nk,nf,nt,nv,ns,na,nx,()):=⟨_,rfl⟩;have e3:F7 ((v0,v1,()),al,od,wy,()) (nk,nf,nt,nv,ns,na,nx,())=F2 w n 4:=by rw [hw,hn]; exact SD a c
  have ga:0<=ns/\ns<=16777215:=hq.seq;have mv:n.2.2.2.2.1=ns:=by rw [hn]
  have nN:n.2.1=nf:=by rw [hn]
  have qy:w.2.2.1=od:=by rw [hw]
  suffices go:Go.Ex.Reach By Tryz.f48 () (F2 w n 4,()) (.code (f8 (d8 Tryz.prog 48) 7).1::.inLoop (f8 (d8 Tryz.prog 48) 7).1::(f8 (d8 Tryz.prog 48) 7).2) (KC (ns+((0:Nat):Int)) nk nf nt nv ns na nx (F2 w n 0).1.1 (F2 w n 0).1.2.1 (F2 w n 0).2.1 (F2 w n 0).2.2.1 (F2 w n 0).2.2.2.1) by
    rw [e3];rw [F2,show ns+((0:Nat):Int)=ns by omega] at go;rw [hw] at go ⊢;exact go
  refine Reach.J8 KB KF (λ j:Nat=>KC (ns+(j:Int)) nk nf nt nv ns na nx (F2 w n j).1.1 (F2 w n j).1.2.1 (F2 w n j).2.1 (F2 w n j).2.2.1 (F2 w n j).2.2.2.1) (λ j=>j<=4)
    (λ j=>4 - j) 1000 (λ _=>⟨r8 rfl,r8 rfl⟩) ?_ 0 (Nat.zero_le _)
  rintro j k1 - ih;have k1:j<=4:=k1;refine i6 (b6S ..) ?_;have e4:ns+(j:Int)+1=ns+((j+1:Nat):Int):=by omega
  have t3:=(zT (w:=w) (n:=n) j).2.2;simp only [j5,Tree.holds,e4,sL];refine ⟨λ d=>⟨?_,λ _=>⟨λ e=>⟨⟨by omega,d⟩,λ _=>⟨?_,λ _=>?_⟩⟩,λ e=>?_⟩⟩,λ d=>?_⟩
  . exact G0.2 ⟨by omega,by omega⟩
  . exact G0.2 ⟨by omega,by omega⟩
  . have:=ih (j+1) (by show j+1<=4; omega) (by show 4 - (j+1)<4 - j; omega);rw [XG (j:=j) (by rw [mv]; exact d)] at this;rw [mv,nN] at this;exact this
  . obtain rfl:j=4:=by omega
    rfl
  . have:=RO (w:=w) (n:=n) (j:=j) (by rw [mv,<- t3]; exact d) (4 - j);rw [show j+(4 - j)=4 by omega] at this;rw [this]; rfl
abbrev noB:yY:=[]
def FQ:o7:={ ps:=[.own (.d0 true .str),.v d9,.v d9],rs:=[.d0 true .str],pre:=λ x=>LE.le (α:=Int) 0 x.2.1/\LE.le (α:=Int) x.2.1 x.2.2.1/\LE.le (α:=Int) x.2.2.1 (List.length (α:=yY) x.1),fn:=λ x=>(List.take (α:=yY) (Int.toNat x.2.1) x.1++List.drop (α:=yY) (Int.toNat x.2.2.1) x.1,()),out:=λ _=>() }
noncomputable def Fw:Env:={ P:=Tryz.prog,tt:=tt,C5:=[],res:=[Go.ResultVar.tmp 6],rs:=[Ty.d0 true Ty.str],ps:=[PK.own (Ty.d0 true Ty.str),PK.v d9,PK.v d9],y8:=[],nt:=33 }
theorem NW:w5 Fw:=w9 p7 trivial
theorem OZ:B8 Fw Tryz.f45:=⟨rfl,rfl⟩
theorem Wc (x0:List yY) (x1:Int) (x2:Int):exec Fw 1000 [.code (d8 Tryz.prog 45)] (s7 FQ.ps ((x0,x1,x2,()))) =
  .f7 ((0:Int)<=x1/\x1<=x2/\x2<=(↑(List.length x0):Int)/\(↑(List.length x0):Int)<=(↑(List.length x0):Int)) (cond (decide (x1=x2)) (.ret ((x0,()))) (.f7 ((0:Int)<=(0:Int)/\(0:Int)<=x1/\x1<=(↑(List.length x0):Int)) (.f7 ((0:Int)<=x2/\x2<=(↑(List.length x0):Int)/\(↑(List.length x0):Int)<=(↑(List.length x0):Int)) (.f7 (x1+(↑(List.length (n7 x2 (↑(List.length x0):Int) x0)):Int)<=(↑(List.length x0):Int)) (.f7 ((0:Int)<=x1+(↑(List.length (n7 x2 (↑(List.length x0):Int) x0)):Int) - (0:Int)/\x1+(↑(List.length (n7 x2 (↑(List.length x0):Int) x0)):Int) - (0:Int)<=(↑(List.length x0):Int)/\(0:Int)+(↑(List.length x0):Int)<=(↑(List.length (List.take (Int.toNat x1) x0++n7 x2 (↑(List.length x0):Int) x0++List.drop (Int.toNat x1+List.length (n7 x2 (↑(List.length x0):Int) x0)) x0)):Int)) (.ret ((n7 (0:Int) (x1+(↑(List.length (n7 x2 (↑(List.length x0):Int) x0)):Int)) (List.take (Int.toNat ((0:Int)+(x1+(↑(List.length (n7 x2 (↑(List.length x0):Int) x0)):Int) - (0:Int)))) (List.take (Int.toNat x1) x0++n7 x2 (↑(List.length x0):Int) x0++List.drop (Int.toNat x1+List.length (n7 x2 (↑(List.length x0):Int) x0)) x0)++List.replicate (Int.toNat ((0:Int)+(↑(List.length x0):Int) - ((0:Int)+(x1+(↑(List.length (n7 x2 (↑(List.length x0):Int) x0)):Int) - (0:Int))))) []++List.drop (Int.toNat ((0:Int)+(x1+(↑(List.length (n7 x2 (↑(List.length x0):Int) x0)):Int) - (0:Int)))+List.length (List.replicate (Int.toNat ((0:Int)+(↑(List.length x0):Int) - ((0:Int)+(x1+(↑(List.length (n7 x2 (↑(List.length x0):Int) x0)):Int) - (0:Int))))) noB)) (List.take (Int.toNat x1) x0++n7 x2 (↑(List.length x0):Int) x0++List.drop (Int.toNat x1+List.length (n7 x2 (↑(List.length x0):Int) x0)) x0)),())))))))):=by kernel_rfl
theorem b7G:FQ.Valid Tryz.prog 45:=by
  refine o7.n8 NW rfl rfl Tryz.func45 (c:=d8 Tryz.prog 45) rfl rfl OZ rfl ?_;rintro ⟨(l:List yY),(i:Int),(j:Int),⟨⟩⟩ ⟨(h0:0<=i),(h1:i<=j),(h2:j<=(l.length:Int))⟩ -
  refine j6 (n:=1000) NW OZ ?_;refine i6 (Wc l i j) ?_;simp only [j5,Tree.holds,sL];have hc:=NN h0 h1 h2 (l:=l);have hm:=HW h0 h1 h2 (l:=l);refine ⟨⟨h0,h1,h2,Int.le_refl _⟩,λ _=>⟨λ e=>?_,λ e=>⟨by omega,λ _=>⟨by omega,λ _=>⟨by omega,λ _=>⟨by omega,λ _=>?_⟩⟩⟩⟩⟩⟩
  . subst e;show ((l,()):List yY×Unit)=(l.take i.toNat++l.drop i.toNat,());rw [List.take_append_drop]
  . exact congrArg (λ y=>(y,())) (VJ h0 h1 h2 (l:=l))
structure Bp (w:f9):Prop where
  K9:w.2.1.length<=6
  way:w.2.2.2.1.length<=60
  note:∀ s∈w.2.2.2.1,(w7 s).2.1=0->(w7 s).1.2.2.2.1=w.1.1->s4 w (w7 s).1.2.2.1=true->wR w (w7 s).1
def CS:o7:={ ps:=[.rw s5,.v d9,.v d9],rs:=[d9],pre:=λ x=>Bp x.1,fn:=λ x=>((F6 x.1 x.2.1 x.2.2.1).2,()),out:=λ x=>((F6 x.1 x.2.1 x.2.2.1).1,()) }
noncomputable def GP:Env:={ P:=Tryz.prog,tt:=tt,C5:=[(40,zd),(45,FQ),(46,Gm),(47,yp),(48,Jc)],res:=[Go.ResultVar.tmp 6],rs:=[Ty.int IntKind.i64],ps:=[PK.rw s5,PK.v d9,PK.v d9],y8:=[],nt:=95 }
theorem Qh:w5 GP:=w9 p7 ⟨Ez,b7G,b7I,Ce,b2b,trivial⟩
theorem PG:B8 GP Tryz.f18:=⟨rfl,rfl⟩
theorem Wn (ai:Int) (af:Int) (ab:List n6) (ae:List yY) (aa:List yY) (x1:Int) (x2:Int):exec GP 1000 [.code (d8 Tryz.prog 18)] (s7 CS.ps ((((ai,af,()),ab,ae,aa,()),x1,x2,()))) =
  .f7 (True) (cond (!I2 x2 (1:Int) (3:Int)) (.ret (((1:Int),((ai,af,()),ab,ae,aa,()),()))) (.f7 (r7 IntKind.i64 ((↑(List.length aa):Int) - (1:Int))) (.f7 (True) (cond (!I2 x1 (0:Int) ((↑(List.length aa):Int) - (1:Int))) (.ret (((6:Int),((ai,af,()),ab,ae,aa,()),()))) (cond (decide (x2=(3:Int))) (cond (decide ((↑(List.length aa):Int)=(60:Int))) (.ret (((8:Int),((ai,af,()),ab,ae,aa,()),()))) (.f7 ((0:Int)<=x1/\x1<(↑(List.length aa):Int)) (cond (decide (x2=(3:Int))) (.f7 (True/\True/\[]++[Step.l6 3]=[]++[Step.l6 3]/\List.length aa+List.length (List.set [[]] (Int.toNat (↑0:Int)) (List.getD aa (Int.toNat x1) []))<=140737488355328/\(List.length aa+List.length (List.set [[]] (Int.toNat (↑0:Int)) (List.getD aa (Int.toNat x1) [])))*Ty.wb Ty.str<=140737488355328) (.ret (((0:Int),((ai,af,()),ab,ae,aa++List.set [[]] (Int.toNat (↑0:Int)) (List.getD aa (Int.toNat x1) []),()),())))) (.f7 (r7 IntKind.i64 (x1+(1:Int))) (.f7 (True/\True/\[]++[Step.l6 3]=[]++[Step.l6 3]/\(0:Int)<=x1/\x1<=x1+(1:Int)/\x1+(1:Int)<=(↑(List.length aa):Int)) (.f7 (True) (cond (decide (x2=(1:Int))) (cond (decide (Prod.fst (Prod.snd (w7 (List.getD aa (Int.toNat x1) [])))=(0:Int))) (cond (decide (Prod.fst (Prod.snd (Prod.snd (Prod.snd (Prod.fst (w7 (List.getD aa (Int.toNat x1) []))))))=ai)) (.f7 (List.length ab<=6) (cond (s4 ((ai,af,()),ab,ae,List.take (Int.toNat x1) aa++List.drop (Int.toNat (x1+(1:Int))) aa,()) (Prod.fst (Prod.snd (Prod.snd (Prod.fst (w7 (List.getD aa (Int.toNat x1) []))))))) (.f7 (wR ((ai,af,()),ab,ae,List.take (Int.toNat x1) aa++List.drop (Int.toNat (x1+(1:Int))) aa,()) (Prod.fst (w7 (List.getD aa (Int.toNat x1) [])))) (.ret (((0:Int),F7 ((ai,af,()),ab,ae,List.take (Int.toNat x1) aa++List.drop (Int.toNat (x1+(1:Int))) aa,()) (Prod.fst (w7 (List.getD aa (Int.toNat x1) []))),())))) (.ret (((0:Int),((ai,af,()),ab,ae,List.take (Int.toNat x1) aa++List.drop (Int.toNat (x1+(1:Int))) aa,()),()))))) (.ret (((0:Int),((ai,af,()),ab,ae,List.take (Int.toNat x1) aa++List.drop (Int.toNat (x1+(1:Int))) aa,()),())))) (.ret (((0:Int),((ai,af,()),ab,ae,List.take (Int.toNat x1) aa++List.drop (Int.toNat (x1+(1:Int))) aa,()),())))) (.ret (((0:Int),((ai,af,()),ab,ae,List.take (Int.toNat x1) aa++List.drop (Int.toNat (x1+(1:Int))) aa,()),())))))))))) (.f7 ((0:Int)<=x1/\x1<(↑(List.length aa):Int)) (cond (decide (x2=(3:Int))) (.f7 (True/\True/\[]++[Step.l6 3]=[]++[Step.l6 3]/\List.length aa+List.length (List.set [[]] (Int.toNat (↑0:Int)) (List.getD aa (Int.toNat x1) []))<=140737488355328/\(List.length aa+List.length (List.set [[]] (Int.toNat (↑0:Int)) (List.getD aa (Int.toNat x1) [])))*Ty.wb Ty.str<=140737488355328) (.ret (((0:Int),((ai,af,()),ab,ae,aa++List.set [[]] (Int.toNat (↑0:Int)) (List.getD aa (Int.toNat x1) []),()),())))) (.f7 (r7 IntKind.i64 (x1+(1:Int))) (.f7 (True/\True/\[]++[Step.l6 3]=[]++[Step.l6 3]/\(0:Int)<=x1/\x1<=x1+(1:Int)/\x1+(1:Int)<=(↑(List.length aa):Int)) (.f7 (True) (cond (decide (x2=(1:Int))) (cond (decide (Prod.fst (Prod.snd (w7 (List.getD aa (Int.toNat x1) [])))=(0:Int))) (cond (decide (Prod.fst (Prod.snd (Prod.snd (Prod.snd (Prod.fst (w7 (List.getD aa (Int.toNat x1) []))))))=ai)) (.f7 (List.length ab<=6) (cond (s4 ((ai,af,()),ab,ae,List.take (Int.toNat x1) aa++List.drop (Int.toNat (x1+(1:Int))) aa,()) (Prod.fst (Prod.snd (Prod.snd (Prod.fst (w7 (List.getD aa (Int.toNat x1) []))))))) (.f7 (wR ((ai,af,()),ab,ae,List.take (Int.toNat x1) aa++List.drop (Int.toNat (x1+(1:Int))) aa,()) (Prod.fst (w7 (List.getD aa (Int.toNat x1) [])))) (.ret (((0:Int),F7 ((ai,af,()),ab,ae,List.take (Int.toNat x1) aa++List.drop (Int.toNat (x1+(1:Int))) aa,()) (Prod.fst (w7 (List.getD aa (Int.toNat x1) []))),())))) (.ret (((0:Int),((ai,af,()),ab,ae,List.take (Int.toNat x1) aa++List.drop (Int.toNat (x1+(1:Int))) aa,()),()))))) (.ret (((0:Int),((ai,af,()),ab,ae,List.take (Int.toNat x1) aa++List.drop (Int.toNat (x1+(1:Int))) aa,()),())))) (.ret (((0:Int),((ai,af,()),ab,ae,List.take (Int.toNat x1) aa++List.drop (Int.toNat (x1+(1:Int))) aa,()),())))) (.ret (((0:Int),((ai,af,()),ab,ae,List.take (Int.toNat x1) aa++List.drop (Int.toNat (x1+(1:Int))) aa,()),())))))))))))))):=by kernel_rfl
theorem QK {w:f9} {k bA:Int} (h:I2 bA 1 3=false):F6 w k bA=(w,1):=by rw [F6]; exact if_pos h
theorem Rq {w:f9} {k bA:Int} (h:¬ I2 bA 1 3=false) (h1:I2 k 0 ((w.2.2.2.1.length:Int) - 1)=false):F6 w k bA=(w,6):=by rw [F6]; exact (if_neg h).trans (if_pos h1)
theorem Ro {w:f9} {k bA:Int} (h:¬ I2 bA 1 3=false) (h1:¬ I2 k 0 ((w.2.2.2.1.length:Int) - 1)=false) (h2:bA=3) (h3:(w.2.2.2.1.length:Int)=60):F6 w k bA=(w,8):=by
  rw [F6]; exact (if_neg h).trans ((if_neg h1).trans (if_pos ⟨h2,h3⟩))
theorem Rn {w:f9} {k bA:Int} (h:¬ I2 bA 1 3=false) (h1:¬ I2 k 0 ((w.2.2.2.1.length:Int) - 1)=false) (h2:bA=3) (h3:¬ (w.2.2.2.1.length:Int)=60):F6 w k bA=(CT w k.toNat,0):=by
  rw [F6]; exact (if_neg h).trans ((if_neg h1).trans ((if_neg (λ e=>h3 e.2)).trans (if_pos h2)))
theorem Iu {w:f9} {k bA:Int} (h:¬ I2 bA 1 3=false) (h1:¬ I2 k 0 ((w.2.2.2.1.length:Int) - 1)=false) (h2:¬ bA=3):F6 w k bA=(wQ (yu w k) bA (w.2.2.2.1.getD k.toNat []),0):=by
  rw [F6]; exact (if_neg h).trans ((if_neg h1).trans ((if_neg (λ e=>h2 e.1)).trans (if_neg h2)))
theorem Rr {w:f9} {bA:Int} {s:yY} (h:bA=1/\(w7 s).2.1=0/\(w7 s).1.2.2.2.1=w.1.1/\s4 w (w7 s).1.2.2.1=true):wQ w bA s=F7 w (w7 s).1:=by
  rw [wQ]; exact if_pos h
theorem QL {w:f9} {bA:Int} {s:yY} (h:¬ (bA=1/\(w7 s).2.1=0/\(w7 s).1.2.2.2.1=w.1.1/\s4 w (w7 s).1.2.2.1=true)):wQ w bA s=w:=by
  rw [wQ]; exact if_neg h
theorem wR.drop {w:f9} {n:y9} {l:List yY} (h:wR w n):wR (w.1,w.2.1,w.2.2.1,l,()) n:=⟨h.K9,h.to,h.seq,h.log,h.ord,h.txt⟩
attribute [local irreducible] F6 wQ F7 w7 s4 in
theorem Sc:CS.Valid Tryz.prog 18:=by
  refine o7.n8 Qh rfl rfl Tryz.func18 (c:=d8 Tryz.prog 18) rfl rfl PG rfl ?_;rintro ⟨⟨⟨(v0:Int),(v1:Int),⟨⟩⟩,(al:List n6),(od:List yY),(wy:List yY),⟨⟩⟩,(k:Int),(bA:Int),⟨⟩⟩ (hq:Bp ((v0,v1,()),al,od,wy,())) -
  refine j6 (n:=1000) Qh PG ?_;refine i6 (Wn v0 v1 al od wy k bA) ?_;have jd:Ty.wb .str=16:=rfl;have rA:wy.length<=60:=hq.way;simp only [j5,Tree.holds,sL];have key:∀ r:f9×Int,F6 ((v0,v1,()),al,od,wy,()) k bA=r->(((r.2,r.1,()):Int×f9×Unit)=((F6 ((v0,v1,()),al,od,wy,()) k bA).2,(F6 ((v0,v1,()),al,od,wy,()) k bA).1,())):=by rintro r rfl; rfl
  have dv:¬ I2 k 0 ((wy.length:Int) - 1)=false->0<=k/\k<(wy.length:Int):=λ h=>by
    have:=U4.1 (Bool.not_eq_false _▸h:I2 k 0 ((wy.length:Int) - 1)=true); omega
  have yes:∀ (a:¬ I2 bA 1 3=false) (b:¬ I2 k 0 ((wy.length:Int) - 1)=false) (c:¬ bA=3),bA=1->(w7 (wy.getD k.toNat [])).2.1=0->(w7 (wy.getD k.toNat [])).1.2.2.2.1=v0->s4 ((v0,v1,()),al,od,wy.take k.toNat++wy.drop (k+1).toNat,()) (w7 (wy.getD k.toNat [])).1.2.2.1=true ->
      F6 ((v0,v1,()),al,od,wy,()) k bA=(F7 ((v0,v1,()),al,od,wy.take k.toNat++wy.drop (k+1).toNat,()) (w7 (wy.getD k.toNat [])).1,0):=λ a b c d e f g=>by
    rw [Iu a b c]; exact congrArg (λ x=>(x,(0:Int))) (Rr ⟨d,e,f,g⟩)
  have no:∀ (a:¬ I2 bA 1 3=false) (b:¬ I2 k 0 ((wy.length:Int) - 1)=false) (c:¬ bA=3),¬ (bA=1/\(w7 (wy.getD k.toNat [])).2.1=0/\(w7 (wy.getD k.toNat [])).1.2.2.2.1=v0/\s4 ((v0,v1,()),al,od,wy.take k.toNat++wy.drop (k+1).toNat,()) (w7 (wy.getD k.toNat [])).1.2.2.1=true) ->
      F6 ((v0,v1,()),al,od,wy,()) k bA=(((v0,v1,()),al,od,wy.take k.toNat++wy.drop (k+1).toNat,()),0):=λ a b c d=>by
    rw [Iu a b c]; exact congrArg (λ x=>(x,(0:Int))) (QL d)
  have pre:0<=k/\k<(wy.length:Int)->(w7 (wy.getD k.toNat [])).2.1=0->(w7 (wy.getD k.toNat [])).1.2.2.2.1=v0->s4 ((v0,v1,()),al,od,wy.take k.toNat++wy.drop (k+1).toNat,()) (w7 (wy.getD k.toNat [])).1.2.2.1=true->wR ((v0,v1,()),al,od,wy.take k.toNat++wy.drop (k+1).toNat,()) (w7 (wy.getD k.toNat [])).1:=λ h h1 h3 h2 =>
    (hq.note _ (by show wy.getD k.toNat []∈wy; rw [List.getD_eq_getElem?_getD,List.getElem?_eq_getElem (by omega)]; exact List.getElem_mem _) h1 h3 (by rw [s4.eq_1] at h2 ⊢; exact h2)).drop
  refine ⟨λ a=>key (_,_) (QK a),λ a=>⟨G0.2 ⟨by omega,by omega⟩,λ _=>⟨λ b=>key (_,_) (Rq (by simpa using a) b),λ b=>?_⟩⟩⟩;have a:¬ I2 bA 1 3=false:=by simpa using a
  have b:¬ I2 k 0 ((wy.length:Int) - 1)=false:=by simpa using b
  have hk:=dv b;refine ⟨λ c=>⟨λ d=>key (_,_) (Ro a b c d),λ d=>⟨hk,λ _=>⟨λ _=>⟨by rw [jd]; omega,λ _=>key (_,_) (Rn a b c d)⟩,λ e=>absurd c e⟩⟩⟩,λ c=>⟨hk,λ _=>⟨λ e=>absurd e c,λ _=>⟨G0.2 ⟨by omega,by omega⟩,λ _=>⟨⟨by omega,by omega,by omega⟩,λ _=>⟨λ d=>⟨λ e=>⟨λ f=>⟨hq.K9,λ _=>⟨λ g=>⟨pre hk e f g,λ _=>key (_,_) (yes a b c d e f g)⟩,λ g=>key (_,_) (no a b c (λ h=>by rw [h.2.2.2] at g; cases g))⟩⟩,λ f=>key (_,_) (no a b c (λ h=>f h.2.2.1))⟩,λ e=>key (_,_) (no a b c (λ h=>e h.2.1))⟩,λ d=>key (_,_) (no a b c (λ h=>d h.1))⟩⟩⟩⟩⟩⟩
abbrev vE (m:Du):f9:=(m.1,m.2.1.map rdP,m.2.2)
abbrev va (w:f9):Du:=(w.1,w.2.1.map toM,w.2.2)
theorem Xq (w:f9):vE (va w)=w:=by
  show (w.1,(w.2.1.map toM).map rdP,w.2.2)=w;rw [List.map_map,show (rdP ∘ toM)=id from rfl,List.map_id]
structure yJ (w:f9):Prop where
  K9:w.2.1.length<=6
  TK:∀ i:Nat,(w.2.1.getD i j7).2.1.length<=5864062014805
  late:∀ i:Nat,(w.2.1.getD i j7).2.2.1.2.1.length<=1048576
def NJ:o7:={ ps:=[.rw Y5],rs:=[d9],pre:=λ x=>(x.1:Du)=va (vE x.1)/\yJ (vE x.1)/\¬ (Q6 (vE x.1)).2.1≠0,fn:=λ _=>(0,()),out:=λ x=>(va (E8 (vE x.1)),()) }
noncomputable def xx:Env:={ P:=Tryz.prog,tt:=ttW,C5:=[(47,yp),(53,AX),(31,Al),(32,Gr)],res:=[Go.ResultVar.tmp 2],rs:=[Ty.int IntKind.i64],ps:=[PK.rw Y5],y8:=[(4,[(0,none),(3,none),(4,none),(18,none),(19,none)]),(16,[(0,none),(4,none),(7,none),(67,none),(68,none)]),(22,[(0,none),(4,none),(7,none),(9,none),(10,none),(11,none),(67,none),(68,none),(86,none),(87,none),(88,none)]),(998049,[(6,some K6)]),(998014,[(4,some K6)])],nt:=139 }
theorem Cd:w5 xx:=w9 Mi ⟨Ce,SA,JI,RZ,trivial⟩
theorem BV:B8 xx Tryz.f25:=⟨rfl,rfl⟩
theorem ZD (ai:Int) (af:Int) (ab:List K4) (ae:List yY) (aa:List yY):exec xx 1000 [.code (d8 Tryz.prog 25)] (s7 NJ.ps ((((ai,af,()),ab,ae,aa,()),()))) =
  .ctL (f8 (d8 Tryz.prog 25) 4) (St.mk [(0,AV.ptr 2000000 []),(3,AV.val U8 (0:Int)),(4,AV.val K6 []),(18,AV.val d9 (↑(List.length ab):Int)),(19,AV.val d9 (0:Int))] [(2000000,g8.var Y5 ((ai,af,()),ab,ae,aa,()))]):=by kernel_rfl
def Kf (v3:Int) (v4:List (Int×yY×Unit)) (uK:Int) (uH:Int) (ar:Int) (an:Int) (aj:List K4) (ak:List yY) (ah:List yY):St:=St.mk [(0,AV.ptr 2000000 []),(3,AV.val U8 v3),(4,AV.val K6 v4),(18,AV.val d9 uK),(19,AV.val d9 uH)] [(2000000,g8.var Y5 ((ar,an,()),aj,ak,ah,()))]
theorem b8l (v3:Int) (v4:List (Int×yY×Unit)) (uK:Int) (uH:Int) (ar:Int) (an:Int) (aj:List K4) (ak:List yY) (ah:List yY):exec xx 1000 (.code (f8 (d8 Tryz.prog 25) 4).1::.inLoop (f8 (d8 Tryz.prog 25) 4).1::(f8 (d8 Tryz.prog 25) 4).2) (Kf v3 v4 uK uH ar an aj ak ah) =
  cond (decide (uH<uK)) (.f7 (List.length (List.map (rdV X4) aj)<=6) (cond (s4 ((ar,an,()),List.map (rdV X4) aj,ak,ah,()) uH) (.f7 ((0:Int)<=uH/\uH<(↑(List.length aj):Int)) (cond (decide ((↑(List.length v4):Int)<(↑(List.length (Prod.fst (Prod.snd (Prod.fst (Prod.snd (List.getD aj (Int.toNat uH) (false,(1,[],[]),((0:Int),[],()),((0:Int),[],()),((0:Int),[],()),()))))))):Int))) (.f7 (r7 IntKind.i64 (uH+(1:Int))) (.ctL (f8 (d8 Tryz.prog 25) 4) (St.mk [(0,AV.ptr 2000000 []),(3,AV.val U8 v3),(4,AV.val K6 (Prod.fst (Prod.snd (Prod.fst (Prod.snd (List.getD aj (Int.toNat uH) (false,(1,[],[]),((0:Int),[],()),((0:Int),[],()),((0:Int),[],()),()))))))),(18,AV.val d9 uK),(19,AV.val d9 (uH+(1:Int)))] [(2000000,g8.var Y5 ((ar,an,()),List.set aj (Int.toNat uH) (Prod.fst (List.getD aj (Int.toNat uH) (false,(1,[],[]),((0:Int),[],()),((0:Int),[],()),((0:Int),[],()),())),(0,Prod.fst (Prod.snd (Prod.fst (Prod.snd (List.getD aj (Int.toNat uH) (false,(1,[],[]),((0:Int),[],()),((0:Int),[],()),((0:Int),[],()),()))))),[]),Prod.snd (Prod.snd (List.getD aj (Int.toNat uH) (false,(1,[],[]),((0:Int),[],()),((0:Int),[],()),((0:Int),[],()),())))),ak,ah,()))]))) (.f7 (r7 IntKind.i64 (uH+(1:Int))) (.ctL (f8 (d8 Tryz.prog 25) 4) (St.mk [(0,AV.ptr 2000000 []),(3,AV.val U8 v3),(4,AV.val K6 v4),(18,AV.val d9 uK),(19,AV.val d9 (uH+(1:Int)))] [(2000000,g8.var Y5 ((ar,an,()),aj,ak,ah,()))]))))) (.f7 ((0:Int)<=uH) (.f7 (r7 IntKind.i64 (uH+(1:Int))) (.ctL (f8 (d8 Tryz.prog 25) 4) (St.mk [(0,AV.ptr 2000000 []),(3,AV.val U8 (bOr IntKind.u8 v3 (R0 IntKind.u8 an (IntKind.wrap IntKind.u8 ((1:Int)*(2:Int)^min (Int.toNat uH) (IntKind.bits IntKind.u8)))))),(4,AV.val K6 v4),(18,AV.val d9 uK),(19,AV.val d9 (uH+(1:Int)))] [(2000000,g8.var Y5 ((ar,an,()),aj,ak,ah,()))])))))) (.f7 (True) (cond (decide (Prod.fst (Prod.snd (Q7 (ar,an,()) v3 (0:Int)))≠(0:Int))) (.ret ((Prod.fst (Prod.snd (Q7 (ar,an,()) v3 (0:Int))),((ar,an,()),aj,ak,ah,()),()))) (.ctL (f8 (d8 Tryz.prog 25) 16) (St.mk [(0,AV.ptr 2000000 []),(4,AV.val K6 v4),(7,AV.ptr 7 []),(67,AV.val d9 (↑(List.length aj):Int)),(68,AV.val d9 (0:Int))] [(7,g8.var View (Prod.fst (Q7 (ar,an,()) v3 (0:Int)))),(2000000,g8.var Y5 ((ar,an,()),aj,ak,ah,()))])))):=by kernel_rfl
def Kz (v4:List (Int×yY×Unit)) (vG:Int) (uP:Int) (cO:Int) (bt:Int) (ar:Int) (an:Int) (aj:List K4) (ak:List yY) (ah:List yY):St:=St.mk [(0,AV.ptr 2000000 []),(4,AV.val K6 v4),(7,AV.ptr 7 []),(67,AV.val d9 vG),(68,AV.val d9 uP)] [(7,g8.var View (cO,bt,())),(2000000,g8.var Y5 ((ar,an,()),aj,ak,ah,()))]
theorem b6U (v4:List (Int×yY×Unit)) (vG:Int) (uP:Int) (cO:Int) (bt:Int) (ar:Int) (an:Int) (aj:List K4) (ak:List yY) (ah:List yY):exec xx 1000 (.code (f8 (d8 Tryz.prog 25) 16).1::.inLoop (f8 (d8 Tryz.prog 25) 16).1::(f8 (d8 Tryz.prog 25) 16).2) (Kz v4 vG uP cO bt ar an aj ak ah) =
  let q1:=(List.getD aj (Int.toNat uP) (false,(1,[],[]),((0:Int),[],()),((0:Int),[],()),((0:Int),[],()),())); let q2:=K6; let q0:=(Ty.pair Ty.bool (Ty.pair (Ty.y7 p9) (Ty.pair P0 (Ty.pair (Ty.pair d9 (Ty.pair q2 Ty.unit)) (Ty.pair (Ty.pair d9 (Ty.pair q2 Ty.unit)) Ty.unit))))); let q3:=(↑(List.length (Prod.fst (Prod.snd (Prod.fst (Prod.snd q1))))):Int); let q4:=View; let q5:=(Ty.pair q4 (Ty.pair (Ty.d0 true q0) (Ty.pair (Ty.d0 true Ty.str) (Ty.pair (Ty.d0 true Ty.str) Ty.unit)))); cond (decide (uP<vG)) (.f7 ((0:Int)<=uP/\uP<(↑(List.length aj):Int)) (.f7 (List.length (List.map (rdV q0) aj)<=6) (cond (s4 ((ar,an,()),List.map (rdV q0) aj,ak,ah,()) uP) (.f7 ((0:Int)<=q3/\q3<=(↑(List.length v4):Int)/\(↑(List.length v4):Int)<=(↑(List.length v4):Int)) (.ctL (f8 (d8 Tryz.prog 25) 22) (St.mk [(0,AV.ptr 2000000 []),(4,AV.val q2 v4),(7,AV.ptr 7 []),(9,AV.val d9 uP),(10,AV.ptr 2000000 [Step.l6 1,Step.idx uP]),(11,AV.val d9 (0:Int)),(67,AV.val d9 vG),(68,AV.val d9 uP),(86,AV.val q2 (n7 q3 (↑(List.length v4):Int) v4)),(87,AV.val d9 (↑(List.length (n7 q3 (↑(List.length v4):Int) v4)):Int)),(88,AV.val d9 (0:Int))] [(7,g8.var q4 (cO,bt,())),(2000000,g8.var q5 ((ar,an,()),aj,ak,ah,()))]))) (.f7 (r7 IntKind.i64 (uP+(1:Int))) (.ctL (f8 (d8 Tryz.prog 25) 16) (St.mk [(0,AV.ptr 2000000 []),(4,AV.val q2 v4),(7,AV.ptr 7 []),(67,AV.val d9 vG),(68,AV.val d9 (uP+(1:Int)))] [(7,g8.var q4 (cO,bt,())),(2000000,g8.var q5 ((ar,an,()),List.set aj (Int.toNat uP) (Prod.fst q1,Prod.fst (Prod.snd q1),Prod.fst (Prod.snd (Prod.snd q1)),Prod.fst (Prod.snd (Prod.snd (Prod.snd q1))),((0:Int),[],()),Prod.snd (Prod.snd (Prod.snd (Prod.snd (Prod.snd q1))))),ak,ah,()))])))))) (.ret (((0:Int),((cO,bt,()),aj,[],ah,()),()))):=by kernel_rfl
def KA (v4:List (Int×yY×Unit)) (v9:Int) (aQ:Int) (v11:Int) (vG:Int) (uP:Int) (yj:List (Int×yY×Unit)) (v87:Int) (vZ:Int) (cO:Int) (bt:Int) (ar:Int) (an:Int) (aj:List K4) (ak:List yY) (ah:List yY):St:=St.mk [(0,AV.ptr 2000000 []),(4,AV.val K6 v4),(7,AV.ptr 7 []),(9,AV.val d9 v9),(10,AV.ptr 2000000 [Step.l6 1,Step.idx aQ]),(11,AV.val d9 v11),(67,AV.val d9 vG),(68,AV.val d9 uP),(86,AV.val K6 yj),(87,AV.val d9 v87),(88,AV.val d9 vZ)] [(7,g8.var View (cO,bt,())),(2000000,g8.var Y5 ((ar,an,()),aj,ak,ah,()))]
theorem b6T (v4:List (Int×yY×Unit)) (v9:Int) (aQ:Int) (v11:Int) (vG:Int) (uP:Int) (yj:List (Int×yY×Unit)) (v87:Int) (vZ:Int) (cO:Int) (bt:Int) (ar:Int) (an:Int) (aj:List K4) (ak:List yY) (ah:List yY):exec xx 1000 (.code (f8 (d8 Tryz.prog 25) 22).1::.inLoop (f8 (d8 Tryz.prog 25) 22).1::(f8 (d8 Tryz.prog 25) 22).2) (KA v4 v9 aQ v11 vG uP yj v87 vZ cO bt ar an aj ak ah) =
  let q3:=(false,(1,[],[]),((0:Int),[],()),((0:Int),[],()),((0:Int),[],()),()); let q1:=(List.set aj (Int.toNat aQ) (Prod.fst (List.getD aj (Int.toNat aQ) q3),(1,v4,[]),Prod.snd (Prod.snd (List.getD aj (Int.toNat aQ) q3)))); let q0:=(List.getD q1 (Int.toNat aQ) q3); let q4:=(Prod.fst (Prod.snd (Prod.fst (Prod.snd (Prod.snd q0))))); let q2:=(↑(List.length q4):Int); let q6:=K6; let q7:=View; let q5:=(Ty.pair q7 (Ty.pair (Ty.d0 true (Ty.pair Ty.bool (Ty.pair (Ty.y7 p9) (Ty.pair P0 (Ty.pair (Ty.pair d9 (Ty.pair q6 Ty.unit)) (Ty.pair (Ty.pair d9 (Ty.pair q6 Ty.unit)) Ty.unit)))))) (Ty.pair (Ty.d0 true Ty.str) (Ty.pair (Ty.d0 true Ty.str) Ty.unit)))); let q8:=(2000000,g8.var q5 ((ar,an,()),aj,ak,ah,())); cond (decide (vZ<v87)) (.f7 ((0:Int)<=vZ/\vZ<(↑(List.length yj):Int)) (cond (decide (Prod.fst (List.getD yj (Int.toNat vZ) ((0:Int),[],()))=v9)) (.f7 (r7 IntKind.i64 (v11+(1:Int))) (.f7 (r7 IntKind.i64 (vZ+(1:Int))) (.ctL (f8 (d8 Tryz.prog 25) 22) (St.mk [(0,AV.ptr 2000000 []),(4,AV.val q6 v4),(7,AV.ptr 7 []),(9,AV.val d9 v9),(10,AV.ptr 2000000 [Step.l6 1,Step.idx aQ]),(11,AV.val d9 (v11+(1:Int))),(67,AV.val d9 vG),(68,AV.val d9 uP),(86,AV.val q6 yj),(87,AV.val d9 v87),(88,AV.val d9 (vZ+(1:Int)))] [(7,g8.var q7 (cO,bt,())),q8])))) (.f7 (r7 IntKind.i64 (vZ+(1:Int))) (.ctL (f8 (d8 Tryz.prog 25) 22) (St.mk [(0,AV.ptr 2000000 []),(4,AV.val q6 v4),(7,AV.ptr 7 []),(9,AV.val d9 v9),(10,AV.ptr 2000000 [Step.l6 1,Step.idx aQ]),(11,AV.val d9 v11),(67,AV.val d9 vG),(68,AV.val d9 uP),(86,AV.val q6 yj),(87,AV.val d9 v87),(88,AV.val d9 (vZ+(1:Int)))] [(7,g8.var q7 (cO,bt,())),q8]))))) (.f7 (List.length v4<=5864062014805) (.f7 (((0:Int)<=if q2<v11 then q2 else v11)/\(if q2<v11 then q2 else v11)<=q2/\q2<=q2) (.f7 (List.length (n7 (if q2<v11 then q2 else v11) q2 q4)<=1048576) (.f7 (r7 IntKind.i64 (uP+(1:Int))) (.ctL (f8 (d8 Tryz.prog 25) 16) (St.mk [(0,AV.ptr 2000000 []),(4,AV.val q6 v4),(7,AV.ptr 7 []),(67,AV.val d9 vG),(68,AV.val d9 (uP+(1:Int)))] [(7,g8.var q7 (cO,bt,())),(2000000,g8.var q5 ((ar,an,()),List.set (List.set (List.set q1 (Int.toNat aQ) (Prod.fst q0,Prod.fst (Prod.snd q0),((0:Int),n7 (if q2<v11 then q2 else v11) q2 q4,()),Prod.snd (Prod.snd (Prod.snd q0)))) (Int.toNat aQ) (Prod.fst (List.getD (List.set q1 (Int.toNat aQ) (Prod.fst q0,Prod.fst (Prod.snd q0),((0:Int),n7 (if q2<v11 then q2 else v11) q2 q4,()),Prod.snd (Prod.snd (Prod.snd q0)))) (Int.toNat aQ) q3),Prod.fst (Prod.snd (List.getD (List.set q1 (Int.toNat aQ) (Prod.fst q0,Prod.fst (Prod.snd q0),((0:Int),n7 (if q2<v11 then q2 else v11) q2 q4,()),Prod.snd (Prod.snd (Prod.snd q0)))) (Int.toNat aQ) q3)),Prod.fst (Prod.snd (Prod.snd (List.getD (List.set q1 (Int.toNat aQ) (Prod.fst q0,Prod.fst (Prod.snd q0),((0:Int),n7 (if q2<v11 then q2 else v11) q2 q4,()),Prod.snd (Prod.snd (Prod.snd q0)))) (Int.toNat aQ) q3))),((0:Int),[],()),Prod.snd (Prod.snd (Prod.snd (Prod.snd (List.getD (List.set q1 (Int.toNat aQ) (Prod.fst q0,Prod.fst (Prod.snd q0),((0:Int),n7 (if q2<v11 then q2 else v11) q2 q4,()),Prod.snd (Prod.snd (Prod.snd q0)))) (Int.toNat aQ) q3)))))) (Int.toNat aQ) (Prod.fst (List.getD (List.set (List.set q1 (Int.toNat aQ) (Prod.fst q0,Prod.fst (Prod.snd q0),((0:Int),n7 (if q2<v11 then q2 else v11) q2 q4,()),Prod.snd (Prod.snd (Prod.snd q0)))) (Int.toNat aQ) (Prod.fst (List.getD (List.set q1 (Int.toNat aQ) (Prod.fst q0,Prod.fst (Prod.snd q0),((0:Int),n7 (if q2<v11 then q2 else v11) q2 q4,()),Prod.snd (Prod.snd (Prod.snd q0)))) (Int.toNat aQ) q3),Prod.fst (Prod.snd (List.getD (List.set q1 (Int.toNat aQ) (Prod.fst q0,Prod.fst (Prod.snd q0),((0:Int),n7 (if q2<v11 then q2 else v11) q2 q4,()),Prod.snd (Prod.snd (Prod.snd q0)))) (Int.toNat aQ) q3)),Prod.fst (Prod.snd (Prod.snd (List.getD (List.set q1 (Int.toNat aQ) (Prod.fst q0,Prod.fst (Prod.snd q0),((0:Int),n7 (if q2<v11 then q2 else v11) q2 q4,()),Prod.snd (Prod.snd (Prod.snd q0)))) (Int.toNat aQ) q3))),((0:Int),[],()),Prod.snd (Prod.snd (Prod.snd (Prod.snd (List.getD (List.set q1 (Int.toNat aQ) (Prod.fst q0,Prod.fst (Prod.snd q0),((0:Int),n7 (if q2<v11 then q2 else v11) q2 q4,()),Prod.snd (Prod.snd (Prod.snd q0)))) (Int.toNat aQ) q3)))))) (Int.toNat aQ) q3),Prod.fst (Prod.snd (List.getD (List.set (List.set q1 (Int.toNat aQ) (Prod.fst q0,Prod.fst (Prod.snd q0),((0:Int),n7 (if q2<v11 then q2 else v11) q2 q4,()),Prod.snd (Prod.snd (Prod.snd q0)))) (Int.toNat aQ) (Prod.fst (List.getD (List.set q1 (Int.toNat aQ) (Prod.fst q0,Prod.fst (Prod.snd q0),((0:Int),n7 (if q2<v11 then q2 else v11) q2 q4,()),Prod.snd (Prod.snd (Prod.snd q0)))) (Int.toNat aQ) q3),Prod.fst (Prod.snd (List.getD (List.set q1 (Int.toNat aQ) (Prod.fst q0,Prod.fst (Prod.snd q0),((0:Int),n7 (if q2<v11 then q2 else v11) q2 q4,()),Prod.snd (Prod.snd (Prod.snd q0)))) (Int.toNat aQ) q3)),Prod.fst (Prod.snd (Prod.snd (List.getD (List.set q1 (Int.toNat aQ) (Prod.fst q0,Prod.fst (Prod.snd q0),((0:Int),n7 (if q2<v11 then q2 else v11) q2 q4,()),Prod.snd (Prod.snd (Prod.snd q0)))) (Int.toNat aQ) q3))),((0:Int),[],()),Prod.snd (Prod.snd (Prod.snd (Prod.snd (List.getD (List.set q1 (Int.toNat aQ) (Prod.fst q0,Prod.fst (Prod.snd q0),((0:Int),n7 (if q2<v11 then q2 else v11) q2 q4,()),Prod.snd (Prod.snd (Prod.snd q0)))) (Int.toNat aQ) q3)))))) (Int.toNat aQ) q3)),Prod.fst (Prod.snd (Prod.snd (List.getD (List.set (List.set q1 (Int.toNat aQ) (Prod.fst q0,Prod.fst (Prod.snd q0),((0:Int),n7 (if q2<v11 then q2 else v11) q2 q4,()),Prod.snd (Prod.snd (Prod.snd q0)))) (Int.toNat aQ) (Prod.fst (List.getD (List.set q1 (Int.toNat aQ) (Prod.fst q0,Prod.fst (Prod.snd q0),((0:Int),n7 (if q2<v11 then q2 else v11) q2 q4,()),Prod.snd (Prod.snd (Prod.snd q0)))) (Int.toNat aQ) q3),Prod.fst (Prod.snd (List.getD (List.set q1 (Int.toNat aQ) (Prod.fst q0,Prod.fst (Prod.snd q0),((0:Int),n7 (if q2<v11 then q2 else v11) q2 q4,()),Prod.snd (Prod.snd (Prod.snd q0)))) (Int.toNat aQ) q3)),Prod.fst (Prod.snd (Prod.snd (List.getD (List.set q1 (Int.toNat aQ) (Prod.fst q0,Prod.fst (Prod.snd q0),((0:Int),n7 (if q2<v11 then q2 else v11) q2 q4,()),Prod.snd (Prod.snd (Prod.snd q0)))) (Int.toNat aQ) q3))),((0:Int),[],()),Prod.snd (Prod.snd (Prod.snd (Prod.snd (List.getD (List.set q1 (Int.toNat aQ) (Prod.fst q0,Prod.fst (Prod.snd q0),((0:Int),n7 (if q2<v11 then q2 else v11) q2 q4,()),Prod.snd (Prod.snd (Prod.snd q0)))) (Int.toNat aQ) q3)))))) (Int.toNat aQ) q3))),Prod.fst (Prod.snd (Prod.snd (Prod.snd (List.getD (List.set (List.set q1 (Int.toNat aQ) (Prod.fst q0,Prod.fst (Prod.snd q0),((0:Int),n7 (if q2<v11 then q2 else v11) q2 q4,()),Prod.snd (Prod.snd (Prod.snd q0)))) (Int.toNat aQ) (Prod.fst (List.getD (List.set q1 (Int.toNat aQ) (Prod.fst q0,Prod.fst (Prod.snd q0),((0:Int),n7 (if q2<v11 then q2 else v11) q2 q4,()),Prod.snd (Prod.snd (Prod.snd q0)))) (Int.toNat aQ) q3),Prod.fst (Prod.snd (List.getD (List.set q1 (Int.toNat aQ) (Prod.fst q0,Prod.fst (Prod.snd q0),((0:Int),n7 (if q2<v11 then q2 else v11) q2 q4,()),Prod.snd (Prod.snd (Prod.snd q0)))) (Int.toNat aQ) q3)),Prod.fst (Prod.snd (Prod.snd (List.getD (List.set q1 (Int.toNat aQ) (Prod.fst q0,Prod.fst (Prod.snd q0),((0:Int),n7 (if q2<v11 then q2 else v11) q2 q4,()),Prod.snd (Prod.snd (Prod.snd q0)))) (Int.toNat aQ) q3))),((0:Int),[],()),Prod.snd (Prod.snd (Prod.snd (Prod.snd (List.getD (List.set q1 (Int.toNat aQ) (Prod.fst q0,Prod.fst (Prod.snd q0),((0:Int),n7 (if q2<v11 then q2 else v11) q2 q4,()),Prod.snd (Prod.snd (Prod.snd q0)))) (Int.toNat aQ) q3)))))) (Int.toNat aQ) q3)))),((0:Int),[],()),Prod.snd (Prod.snd (Prod.snd (Prod.snd (Prod.snd (List.getD (List.set (List.set q1 (Int.toNat aQ) (Prod.fst q0,Prod.fst (Prod.snd q0),((0:Int),n7 (if q2<v11 then q2 else v11) q2 q4,()),Prod.snd (Prod.snd (Prod.snd q0)))) (Int.toNat aQ) (Prod.fst (List.getD (List.set q1 (Int.toNat aQ) (Prod.fst q0,Prod.fst (Prod.snd q0),((0:Int),n7 (if q2<v11 then q2 else v11) q2 q4,()),Prod.snd (Prod.snd (Prod.snd q0)))) (Int.toNat aQ) q3),Prod.fst (Prod.snd (List.getD (List.set q1 (Int.toNat aQ) (Prod.fst q0,Prod.fst (Prod.snd q0),((0:Int),n7 (if q2<v11 then q2 else v11) q2 q4,()),Prod.snd (Prod.snd (Prod.snd q0)))) (Int.toNat aQ) q3)),Prod.fst (Prod.snd (Prod.snd (List.getD (List.set q1 (Int.toNat aQ) (Prod.fst q0,Prod.fst (Prod.snd q0),((0:Int),n7 (if q2<v11 then q2 else v11) q2 q4,()),Prod.snd (Prod.snd (Prod.snd q0)))) (Int.toNat aQ) q3))),((0:Int),[],()),Prod.snd (Prod.snd (Prod.snd (Prod.snd (List.getD (List.set q1 (Int.toNat aQ) (Prod.fst q0,Prod.fst (Prod.snd q0),((0:Int),n7 (if q2<v11 then q2 else v11) q2 q4,()),Prod.snd (Prod.snd (Prod.snd q0)))) (Int.toNat aQ) q3)))))) (Int.toNat aQ) q3)))))),ak,ah,()))])))))):=by kernel_rfl
theorem Jh {α:Type} {l:List α} {a:Nat} (h:a<=l.length):n7 (a:Int) (l.length:Int) l=l.drop a:=by
  unfold n7;rw [List.take_of_length_le (by rw [List.length_drop]; omega)];congr 1
theorem UE (a b:Nat):(if (a:Int)<(b:Int) then (a:Int) else (b:Int))=((min b a:Nat):Int):=by split<;>omega
attribute [local irreducible] s4 Q7 E8 in
theorem SS:NJ.Valid Tryz.prog 25:=by
  refine o7.n8 Cd rfl rfl Tryz.func25 (c:=d8 Tryz.prog 25) rfl rfl BV rfl ?_;rintro ⟨⟨⟨(v0:Int),(v1:Int),⟨⟩⟩,(al0:List K4),(od:List yY),(wy:List yY),⟨⟩⟩,⟨⟩⟩ ⟨he,(aV:yJ (vE ((v0,v1,()),al0,od,wy,()))),(bG:¬ (Q6 (vE ((v0,v1,()),al0,od,wy,()))).2.1≠0)⟩ -
  have he:al0=(al0.map rdP).map toM:=congrArg (λ m:Du=>m.2.1) he;obtain ⟨w,hw⟩:∃ w:f9,w=vE ((v0,v1,()),al0,od,wy,()):=⟨_,rfl⟩;rw [<- hw] at aV bG;have jI:w.1=(v0,v1,()):=by rw [hw]
  have jH:w.2.1=al0.map rdP:=by rw [hw]
  have ni:∀ (al:List K4) (i:Nat),al.length=w.2.1.length->((al.map rdP).getD i j7).1=(w.2.1.getD i j7).1->∀ r,s4 ((v0,v1,()),al.map rdP,r) i=s4 w i:=λ al i h1 h2 r=>by
    have:=b5Z (v:=(v0,v1,())) (al':=al.map rdP) (al:=w.2.1) (r:=w.2.2) (r':=r) (p:=(i:Int)) (by rw [List.length_map]; exact h1) h2;rw [this,show ((v0,v1,()),w.2.1,w.2.2)=w by rw [hw]]
  have mH:al0.length=w.2.1.length:=by rw [jH,List.length_map]
  have mM:vP w al0:=by
    have:=vP.start w;rw [jH,<- he] at this;exact this
  have ee:=Pv (w:=w) aV.TK;refine j6 (n:=1000) Cd BV ?_;refine i6 (ZD v0 v1 al0 od wy) ?_;have eK:va (E8 (vE ((v0,v1,()),al0,od,wy,())))=va (E8 w):=by rw [hw]
  show Go.Ex.Reach xx Tryz.f25 ((0:Int),()) (va (E8 (vE ((v0,v1,()),al0,od,wy,()))),()) (.code (f8 (d8 Tryz.prog 25) 4).1::.inLoop (f8 (d8 Tryz.prog 25) 4).1::(f8 (d8 Tryz.prog 25) 4).2) (Kf (D0 w 0) (I0 w 0) (al0.length:Int) ((0:Nat):Int) v0 v1 al0 od wy);rw [eK,mH];refine Reach.J8 Cd BV (λ i:Nat×List K4=>Kf (D0 w i.1) (I0 w i.1) (w.2.1.length:Int) (i.1:Int) v0 v1 i.2 od wy) (λ i=>i.1<=w.2.1.length/\vP w i.2)
    (λ i=>w.2.1.length - i.1) 1000 (λ _=>⟨r8 rfl,r8 rfl⟩) ?_ (0,al0) ⟨Nat.zero_le _,mM⟩
  rintro ⟨i,al⟩ ⟨k1,hi⟩ - ih;have k1:i<=w.2.1.length:=k1;have hi:vP w al:=hi;have ih:∀ al',i<w.2.1.length->vP w al'->_:=λ al' h h2=>ih (i+1,al') ⟨by show i+1<=w.2.1.length; omega,h2⟩ (by show w.2.1.length - (i+1)<w.2.1.length - i; omega);refine i6 (b8l ..) ?_;have e1:((i:Nat):Int)+1=((i+1:Nat):Int):=by omega
  have sV:=aV.K9;have hA:=ni al i hi.len (by rw [Pj,hi.rd i]);simp only [j5,Tree.holds,e1,sL];refine ⟨λ c=>⟨by show (al.map rdP).length<=6; rw [List.length_map]; have:=hi.len; omega,λ _=>⟨λ a=>⟨by have:=hi.len; omega,λ _=>⟨λ b=>⟨G0.2 ⟨by omega,by omega⟩,λ _=>?_⟩,λ b=>⟨G0.2 ⟨by omega,by omega⟩,λ _=>?_⟩⟩⟩,λ a=>⟨by omega,λ _=>⟨G0.2 ⟨by omega,by omega⟩,λ _=>?_⟩⟩⟩⟩,λ c=>⟨λ d=>?_,λ d=>?_⟩⟩
  . have a':s4 w i=true:=(hA _).symm.trans a;have hl:(al.getD i dM).2.1.2.1=(w.2.1.getD i j7).2.1:=congrArg (λ x:n6=>x.2.1) (hi.rd i);have b':(I0 w i).length<(w.2.1.getD i j7).2.1.length:=by rw [<- hl]; exact_mod_cast b
    have:=ih _ (by omega) (hi.vj (n:=0) a');rw [show D0 w (i+1)=D0 w i from if_pos a',show I0 w (i+1)=(al.getD i dM).2.1.2.1 by rw [I0,if_pos ⟨a',b'⟩,hl]] at this;exact this
  . have a':s4 w i=true:=(hA _).symm.trans a;have hl:(al.getD i dM).2.1.2.1=(w.2.1.getD i j7).2.1:=congrArg (λ x:n6=>x.2.1) (hi.rd i);have b':¬ (I0 w i).length<(w.2.1.getD i j7).2.1.length:=by rw [<- hl]; intro h; exact b (by exact_mod_cast h)
    have:=ih al (by omega) hi;rw [show D0 w (i+1)=D0 w i from if_pos a',show I0 w (i+1)=I0 w i by rw [I0,if_neg (λ h=>b' h.2)]] at this;exact this
  . have a':s4 w i=false:=(hA _).symm.trans a;have:=ih al (by omega) hi;rw [show D0 w (i+1)=bOr .u8 (D0 w i) (R0 .u8 w.1.2.1 (IntKind.wrap .u8 (1*2^min i IntKind.u8.bits))) from if_neg (by rw [a']; decide),show I0 w (i+1)=I0 w i by rw [I0,if_neg (λ h=>by rw [a'] at h; cases h.1)],jI] at this;exact this
  . obtain rfl:i=w.2.1.length:=by omega
    exact absurd (by rw [Q6,jI]; exact d) bG
  obtain rfl:i=w.2.1.length:=by omega
  obtain ⟨L,hL⟩:∃ L,L=I0 w w.2.1.length:=⟨_,rfl⟩;have hg:∀ i:Nat,s4 w i=true->i<w.2.1.length->(w.2.1.getD i j7).2.1.length<=L.length:=λ i h h2=>by rw [hL]; exact DW h h2
  have tM:L.length<=5864062014805:=by rw [hL]; exact ee _
  rw [<- hL];obtain ⟨z0,z1,hz⟩:∃ z0 z1,(Q7 (v0,v1,()) (D0 w w.2.1.length) 0).1=(z0,z1,()):=⟨_,_,rfl⟩;have eM:E8 w=((z0,z1,()),w.2.1.mapIdx (uS w L),[],wy,()):=by
    unfold E8;rw [<- hL,Q6,jI,hz,hw]
  rw [eM];suffices go:Go.Ex.Reach xx Tryz.f25 ((0:Int),()) (va ((z0,z1,()),w.2.1.mapIdx (uS w L),[],wy,()),()) (.code (f8 (d8 Tryz.prog 25) 16).1::.inLoop (f8 (d8 Tryz.prog 25) 16).1::(f8 (d8 Tryz.prog 25) 16).2) (Kz L (w.2.1.length:Int) ((0:Nat):Int) z0 z1 v0 v1 al od wy) by
    rw [<- hi.len] at go;have h0:(Q7 (v0,v1,()) (D0 w w.2.1.length) 0).1.1=z0:=by rw [hz]
    have h1:(Q7 (v0,v1,()) (D0 w w.2.1.length) 0).1.2.1=z1:=by rw [hz]
    subst h0; subst h1;rw [hi.len] at go ⊢;exact go
  refine Reach.J8 Cd BV (λ i:Nat×List K4=>Kz L (w.2.1.length:Int) (i.1:Int) z0 z1 v0 v1 i.2 od wy) (λ i=>i.1<=w.2.1.length/\wk w L i.1 i.2)
    (λ i=>w.2.1.length - i.1) 1000 (λ _=>⟨r8 rfl,r8 rfl⟩) ?_ (0,al) ⟨Nat.zero_le _,hi.next L⟩
  clear ih;rintro ⟨k,al⟩ ⟨k1,hi⟩ - ih;have k1:k<=w.2.1.length:=k1;have hi:wk w L k al:=hi;have ih:∀ al',k<w.2.1.length->wk w L (k+1) al'->_:=λ al' h h2=>ih (k+1,al') ⟨by show k+1<=w.2.1.length; omega,h2⟩ (by show w.2.1.length - (k+1)<w.2.1.length - k; omega);refine i6 (b6U ..) ?_;have e2:((k:Nat):Int)+1=((k+1:Nat):Int):=by omega
  have hA:=ni al k hi.len (hi.act k);have hl:(al.getD k dM).2.1.2.1=(w.2.1.getD k j7).2.1:=congrArg (λ x:n6=>x.2.1) (hi.rd k (Nat.le_refl _));have gi:=hi.len;simp only [j5,Tree.holds,e2,sL];refine ⟨λ c=>⟨⟨by omega,by omega⟩,λ _=>⟨by show (al.map rdP).length<=6; rw [List.length_map]; omega,λ _=>⟨λ a=>⟨?_,λ _=>?_⟩,λ a=>⟨G0.2 ⟨by omega,by omega⟩,λ _=>?_⟩⟩⟩⟩,λ c=>?_⟩
  . rw [hl];have:=hg k ((hA _).symm.trans a) (by omega);omega
  . have a':s4 w k=true:=(hA _).symm.trans a;have hb:=hg k a' (by omega);rw [hl,Jh hb];obtain ⟨D,hD⟩:∃ D,D=L.drop (w.2.1.getD k j7).2.1.length:=⟨_,rfl⟩;have uD:D.length<=5864062014805:=by rw [hD,List.length_drop]; omega
    rw [<- hD];suffices go:Go.Ex.Reach xx Tryz.f25 ((0:Int),()) (va ((z0,z1,()),w.2.1.mapIdx (uS w L),[],wy,()),()) (.code (f8 (d8 Tryz.prog 25) 22).1::.inLoop (f8 (d8 Tryz.prog 25) 22).1::(f8 (d8 Tryz.prog 25) 22).2) (KA L (k:Int) (k:Int) ((countP k (D.take 0):Nat):Int) (w.2.1.length:Int) (k:Int) D (D.length:Int) ((0:Nat):Int) z0 z1 v0 v1 al od wy) by exact go
    refine Reach.J8 Cd BV (λ j:Nat=>KA L (k:Int) (k:Int) ((countP k (D.take j):Nat):Int) (w.2.1.length:Int) (k:Int) D (D.length:Int) (j:Int) z0 z1 v0 v1 al od wy) (λ j=>j<=D.length)
      (λ j=>D.length - j) 1000 (λ _=>⟨r8 rfl,r8 rfl⟩) ?_ 0 (Nat.zero_le _)
    rintro j k2 - ih2;have k2:j<=D.length:=k2;refine i6 (b6T ..) ?_;have e3:((j:Nat):Int)+1=((j+1:Nat):Int):=by omega
    have gN:countP k (D.take j)<=j:=Nat.le_trans countP_le (by rw [List.length_take]; omega);have hG:∀ y:K4,(al.set k y).getD k (false,(1,[],[]),(0,[],()),(0,[],()),(0,[],()),())=y:=λ y=>by
      rw [List.getD_eq_getElem?_getD,List.getElem?_set_self (by omega)]; rfl
    have hS:∀ y z:K4,(al.set k y).set k z=al.set k z:=λ y z=>List.set_set ..;have mI:(al.getD k dM).2.2.1.2.1.length<=1048576:=by
      have:=aV.late k;rw [<- hi.rd k (Nat.le_refl _)] at this;exact this
    simp only [j5,Tree.holds,e3,hG,hS,UE,sL];refine ⟨λ d=>⟨by omega,λ _=>⟨λ e=>⟨G0.2 ⟨by omega,by omega⟩,λ _=>⟨G0.2 ⟨by omega,by omega⟩,λ _=>?_⟩⟩,λ e=>⟨G0.2 ⟨by omega,by omega⟩,λ _=>?_⟩⟩⟩,λ d=>?_⟩
    . have:=ih2 (j+1) (by show j+1<=D.length; omega) (by show D.length - (j+1)<D.length - j; omega);rw [Sd (show j<D.length by omega),if_pos e,Int.natCast_add] at this;exact this
    . have:=ih2 (j+1) (by show j+1<=D.length; omega) (by show D.length - (j+1)<D.length - j; omega);rw [Sd (show j<D.length by omega),if_neg e,Nat.add_zero] at this;exact this
    . obtain rfl:j=D.length:=by omega
      have hr:=hi.rd k (Nat.le_refl _);simp only [dM] at mI hr;refine ⟨tM,λ _=>⟨⟨by omega,by omega,Int.le_refl _⟩,λ _=>⟨?_,λ _=>⟨⟨by omega,by omega⟩,λ _=>?_⟩⟩⟩⟩
      . rw [Jh (Nat.min_le_right ..),List.length_drop]; omega
      . rw [Jh (Nat.min_le_right ..),List.take_length];have:=ih _ (by omega) hi.step;rw [show uS w L k (w.2.1.getD k j7)=((w.2.1.getD k j7).1,L,(0,(w.2.1.getD k j7).2.2.1.2.1.drop (min (countP k D) (w.2.1.getD k j7).2.2.1.2.1.length),()),(0,[],()),(0,[],()),()) from (if_pos a').trans (by rw [hD])] at this;rw [<- hr] at this;exact this
  . have a':s4 w k=false:=(hA _).symm.trans a;have:=ih _ (by omega) hi.step;rw [show uS w L k (w.2.1.getD k j7)=((w.2.1.getD k j7).1,(w.2.1.getD k j7).2.1,(w.2.1.getD k j7).2.2.1,(w.2.1.getD k j7).2.2.2.1,(0,[],()),()) from if_neg (by rw [a']; decide)] at this;have hs:=hi.same k (Nat.le_refl _) a';simp only [dM] at hs;rw [hs];exact this
  . obtain rfl:k=w.2.1.length:=by omega
    have:=hi.fin;subst this;rfl
end Go.Proofs.YtijlnmgondibnaaGreatDoor
namespace Go.Proofs.YtijlnmgondibnaaGreatDoor
open Go.Ex
set_option maxRecDepth 100000
def xK (S:Nat->List C9) (O:List C9) (n:y9):Prop :=
  (n.1=1->(S n.2.1.toNat)[n.2.2.2.2.1.toNat]?=some n.2.2.2.2.2.2.1)/\(n.1=2->O[n.2.2.2.2.1.toNat]?=some n.2.2.2.2.2.2.1)
def zk (S:Nat->List C9) (O:List C9) (V:Int) (s:C9):Prop:=(w7 s).2.1=0->(w7 s).1.2.2.2.1<=V/\((w7 s).1.2.2.2.1=V->xK S O (w7 s).1)
structure CO (said:Nat->List C9) (B:List C4) (S:Nat->List C9) (Q:List U7) (p:Nat) (x:n6) (m:Nat):Prop where
  le:m<=Q.length
  next:x.2.2.2.1.1=m
  wait:∀ q∈x.2.2.2.1.2.1,(N5 Q)[q.1.toNat]?=some q.2.1
  log:x.2.1=B++(Q.take m).map a31
  from_:x.2.2.1=(((B9 p (Q.take m)).length:Int),(S p).drop (B9 p (Q.take m)).length,())
  ok:H7 x.2.2.1=0
structure Inv (said:Nat->List C9) (B:List C4) (S:Nat->List C9) (Q:List U7) (w:f9):Prop where
  K9:w.2.1.length<=6
  way:w.2.2.2.1.length<=60
  ord:w.2.2.1=N5 Q
  inQ:∀ x∈Q,x.1<w.2.1.length
  xH:∀ p,B9 p Q <+: S p
  short:∀ p,(S p).length<=16777215
  msg:∀ s∈w.2.2.2.1,zk S w.2.2.1 w.1.1 s
  rcv:∀ p:Nat,p<w.2.1.length->(w.2.1.getD p j7).2.2.2.2.1.1=(B9 p Q).length/\∀ q∈(w.2.1.getD p j7).2.2.2.2.1.2.1,(S p)[q.1.toNat]?=some q.2.1
  mem:∀ p:Nat,p<w.2.1.length->R5 w.1.2.1 p=true->(∃ m,CO said B S Q p (w.2.1.getD p j7) m)/\said p=X6 p B++S p
  out:∀ p:Nat,p<w.2.1.length->R5 w.1.2.1 p=false->S p=[]/\X6 p B <+: said p
  Fe:∀ s∈B,0<=s.1/\s.1<(w.2.1.length:Int)
structure V5 (P:y9->Prop) (w w':f9):Prop where
  view:w'.1=w.1
  all:w'.2.1=w.2.1
  ord:w'.2.2.1=w.2.2.1
  len:w.2.2.2.1.length<=60->w'.2.2.2.1.length<=60
  way:∀ s∈w'.2.2.2.1,s∈w.2.2.2.1\/∃ n:y9,w7 s=(n,0,())/\n.2.2.2.1=w.1.1/\P n
theorem V5.refl {P:y9->Prop} (w:f9):V5 P w w:=⟨rfl,rfl,rfl,id,λ _ h=>.inl h⟩
theorem V5.trans {P:y9->Prop} {w w' w'':f9} (h:V5 P w w') (h':V5 P w' w''):V5 P w w'' :=
  ⟨h'.view.trans h.view,h'.all.trans h.all,h'.ord.trans h.ord,λ e=>h'.len (h.len e),λ s hs=>by
    rcases h'.way s hs with h1|⟨n,h1,h2,h3⟩
    . exact h.way s h1
    . exact .inr ⟨n,h1,by rw [h2,h.view],h3⟩⟩
theorem V5.one {P:y9->Prop} {w:f9} {k f t q:Int} {x:C9} (h:P (k,f,t,w.1.1,q,[0,0,0,0,0,0],x,())):V5 P w (L8 w k f t q x):=by
  by_cases c:(T4 (k,f,t,w.1.1,q,[0,0,0,0,0,0],x,())).2.1=0/\(w.2.2.2.1.length:Int)<60
  . rw [Kc c.1 c.2];refine ⟨rfl,rfl,rfl,λ _=>?_,λ s hs=>?_⟩
    . show (w.2.2.2.1++[_]).length<=60;rw [List.length_append];have:=c.2;simp only [List.length_singleton]; omega
    . rcases List.mem_append.1 hs with hs|hs
      . exact .inl hs
      . rw [List.mem_singleton] at hs;have hc:H6 (k,f,t,w.1.1,q,[0,0,0,0,0,0],x,())=0:=by
          by_cases hc:H6 (k,f,t,w.1.1,q,[0,0,0,0,0,0],x,())=0
          . exact hc
          . have:=c.1;rw [WQ hc] at this;exact absurd this hc
        rw [WR hc] at hs;exact .inr ⟨_,by rw [hs]; exact Yu hc rfl,rfl,h⟩
  . rw [Em c]; exact .refl w
theorem Inv.Gy {said:Nat->List C9} {B:List C4} {S:Nat->List C9} {Q:List U7} {w w':f9} (h:Inv said B S Q w) (hs:V5 (xK S w.2.2.1) w w'):Inv said B S Q w':=by
  obtain ⟨h1,h2,h3,h4,h5,h6,h7,h8,h9,iZ,jG⟩:=h;refine ⟨by rw [hs.all]; exact h1,hs.len h2,by rw [hs.ord]; exact h3,by rw [hs.all]; exact h4,h5,h6,?_,by rw [hs.all]; exact h8,by rw [hs.all,hs.view]; exact h9,by rw [hs.all,hs.view]; exact iZ,by rw [hs.all]; exact jG⟩;intro s hm;rw [hs.view,hs.ord];rcases hs.way s hm with h|⟨n,e1,e2,e3⟩
  . exact h7 s h
  . intro _;rw [e1];exact ⟨by show n.2.2.2.1<=w.1.1; omega,λ _=>e3⟩
theorem Inv.D6 {said:Nat->List C9} {B:List C4} {S:Nat->List C9} {Q:List U7} {w:f9} (h:Inv said B S Q w) {p:Nat} {x:n6}
    (hr:p<w.2.1.length->x.2.2.2.2.1.1=(B9 p Q).length/\∀ q∈x.2.2.2.2.1.2.1,(S p)[q.1.toNat]?=some q.2.1)
    (hm:p<w.2.1.length->R5 w.1.2.1 p=true->∃ m,CO said B S Q p x m):Inv said B S Q (w.1,w.2.1.set p x,w.2.2):=by
  obtain ⟨h1,h2,h3,h4,h5,h6,h7,h8,h9,iZ,jG⟩:=h;have hl:(w.2.1.set p x).length=w.2.1.length:=List.length_set ..;refine ⟨by rw [hl]; exact h1,h2,h3,by rw [hl]; exact h4,h5,h6,h7,λ q hq=>?_,λ q hq hv=>?_,λ q hq hv=>?_,by show ∀ s∈B,0<=s.1/\s.1<((w.2.1.set p x).length:Int); rw [hl]; exact jG⟩
  . rw [hl] at hq;rw [U5]
    split
    . rename_i e; rw [<- e.1]; exact hr e.2
    . exact h8 q hq
  . rw [hl] at hq;rw [U5];refine ⟨?_,(h9 q hq hv).2⟩
    split
    . rename_i e; rw [<- e.1]; rw [<- e.1] at hv; exact hm e.2 hv
    . exact (h9 q hq hv).1
  . rw [hl] at hq;exact iZ q hq hv
theorem xK.mono {S S':Nat->List C9} {O O':List C9} {n:y9} (h:xK S O n) (hS:∀ p,S p <+: S' p) (hO:O <+: O'):xK S' O' n :=
  ⟨λ e=>zL (hS _) (h.1 e),λ e=>zL hO (h.2 e)⟩
theorem zk.mono {S S':Nat->List C9} {O O':List C9} {V:Int} {s:C9} (h:zk S O V s) (hS:∀ p,S p <+: S' p) (hO:O <+: O'):zk S' O' V s :=
  λ e=>⟨(h e).1,λ e2=>((h e).2 e2).mono hS hO⟩
def vJ (f:Nat->List C9) (p:Nat) (x:List C9):Nat->List C9:=λ q=>if q=p then x else f q
theorem Aa {f:Nat->List C9} {p:Nat} {x:List C9}:vJ f p x p=x:=if_pos rfl
theorem yI {f:Nat->List C9} {p q:Nat} {x:List C9} (h:q≠p):vJ f p x q=f q:=if_neg h
theorem No {s:vy} {x:C9} (h:¬ (P7 s x).2.1≠0):(P7 s x).1=(s.1,s.2.1++[x],())/\H7 (s.1,s.2.1++[x],())=0/\s.1+s.2.1.length<16777215:=by
  unfold P7 at h ⊢;by_cases h1:H7 s≠0
  . rw [if_pos h1] at h; exact absurd h1 h
  rw [if_neg h1] at h ⊢;have aL:=xr (Decidable.not_not.1 h1);by_cases h2:D9 x=true
  . rw [if_pos h2] at h; exact absurd (by decide) h
  rw [if_neg h2] at h ⊢;by_cases h3:(s.2.1.length:Int)=16\/16777215<=s.1+s.2.1.length
  . rw [if_pos h3] at h; exact absurd (by decide) h
  rw [if_neg h3];have h4:¬ (s.2.1.length:Int)=16:=λ e=>h3 (.inl e);have h5:¬ 16777215<=s.1+s.2.1.length:=λ e=>h3 (.inr e);refine ⟨rfl,?_,by omega⟩;unfold H7;rw [if_neg (by rw [xk.2 aL.1]; decide),if_neg,if_neg]
  . rw [List.any_append,aL.2.2];simpa using h2
  . show ¬ (16:Int)<((s.2.1++[x]).length:Int);rw [List.length_append]; simp only [List.length_singleton];have:=aL.2.1;omega
theorem Inv.say {said:Nat->List C9} {B:List C4} {S:Nat->List C9} {Q:List U7} {w:f9} (h:Inv said B S Q w) {p:Nat} {t:C9} (hp:p<w.2.1.length) (hv:R5 w.1.2.1 p=true)
    (hl:¬ (P7 (M4 w p) t).2.1≠0):Inv (vJ said p (said p++[t])) B (vJ S p (S p++[t])) Q (Lw w p t (P7 (M4 w p) t).1):=by
  obtain ⟨h1,h2,h3,h4,h5,h6,h7,h8,h9,iZ,jG⟩:=h;obtain ⟨g1,g2,g3⟩:=No hl;obtain ⟨⟨m,hm⟩,dV⟩:=h9 p hp hv;have hf:M4 w p=(((B9 p (Q.take m)).length:Int),(S p).drop (B9 p (Q.take m)).length,()):=hm.from_;have hle:(B9 p (Q.take m)).length<=(S p).length:=((xu (p:=p) (Q:=Q) (i:=m)).trans (h5 p)).length_le;rw [g1];rw [hf] at g2 g3 ⊢;simp only [List.length_drop] at g3;have mU:(S p).drop (B9 p (Q.take m)).length++[t]=(S p++[t]).drop (B9 p (Q.take m)).length:=(List.drop_append_of_le_length hle).symm;simp only [mU] at g2 ⊢;have hS:∀ q,S q <+: vJ S p (S p++[t]) q:=λ q=>by
    by_cases e:q=p
    . subst e; rw [Aa]; exact List.prefix_append ..
    . rw [yI e]; exact List.prefix_rfl
  have hlen:(setFrom w p (((B9 p (Q.take m)).length:Int),(S p++[t]).drop (B9 p (Q.take m)).length,())).2.1.length=w.2.1.length:=List.length_set ..;have cE:∀ q,(setFrom w p (((B9 p (Q.take m)).length:Int),(S p++[t]).drop (B9 p (Q.take m)).length,())).2.1.getD q j7=if p=q then ((w.2.1.getD p j7).1,(w.2.1.getD p j7).2.1,(((B9 p (Q.take m)).length:Int),(S p++[t]).drop (B9 p (Q.take m)).length,()),(w.2.1.getD p j7).2.2.2) else w.2.1.getD q j7:=λ q=>by
    show (w.2.1.set p _).getD q j7=_;rw [U5];by_cases e:p=q
    . rw [if_pos ⟨e,hp⟩,if_pos e]; rfl
    . rw [if_neg (λ h=>e h.1),if_neg e]
  have base:Inv (vJ said p (said p++[t])) B (vJ S p (S p++[t])) Q (setFrom w p (((B9 p (Q.take m)).length:Int),(S p++[t]).drop (B9 p (Q.take m)).length,())):=by
    refine ⟨by rw [hlen]; exact h1,h2,h3,by rw [hlen]; exact h4,λ q=>(h5 q).trans (hS q),λ q=>?_,λ s hs=>(h7 s hs).mono hS List.prefix_rfl,λ q hq=>?_,λ q hq hv=>?_,λ q hq hv=>?_,by rw [hlen]; exact jG⟩
    . by_cases e:q=p
      . subst e; rw [Aa,List.length_append]; simp only [List.length_singleton]; omega
      . rw [yI e]; exact h6 q
    . rw [hlen] at hq;rw [cE];by_cases e:p=q
      . subst e;rw [if_pos rfl];exact ⟨(h8 p hq).1,λ x hx=>zL (hS p) ((h8 p hq).2 x hx)⟩
      . rw [if_neg e];exact ⟨(h8 q hq).1,λ x hx=>zL (hS q) ((h8 q hq).2 x hx)⟩
    . rw [hlen] at hq;rw [cE];by_cases e:p=q
      . subst e;rw [if_pos rfl,Aa,Aa];refine ⟨⟨m,hm.le,hm.next,hm.wait,hm.log,?_,g2⟩,by rw [dV,List.append_assoc]⟩;rw [Aa]
      . rw [if_neg e,yI (Ne.symm e),yI (Ne.symm e)];obtain ⟨⟨m',gx⟩,lz⟩:=h9 q hq hv;refine ⟨⟨m',gx.le,gx.next,gx.wait,gx.log,?_,gx.ok⟩,lz⟩;rw [yI (Ne.symm e)];exact gx.from_
    . rw [hlen] at hq;have e:q≠p:=by
        rintro rfl;have fH:R5 w.1.2.1 q=false:=hv;rename_i eY;rw [eY] at fH; cases fH
      rw [yI e,yI e];exact iZ q hq hv
  refine base.Gy (V5.one ⟨λ _=>?_,λ h=>by cases h⟩);show (vJ S p (S p++[t]) ((p:Int)).toNat)[(((B9 p (Q.take m)).length:Int)+(((S p++[t]).drop (B9 p (Q.take m)).length).length:Int) - 1).toNat]?=some t;rw [show ((p:Int)).toNat=p from rfl,Aa];rw [List.length_drop,List.length_append];simp only [List.length_singleton];rw [show (((B9 p (Q.take m)).length:Int)+(((S p).length+1 - (B9 p (Q.take m)).length:Nat):Int) - 1).toNat=(S p).length by omega];rw [List.getElem?_append_right (Nat.le_refl _),Nat.sub_self]; rfl
section
variable {said:Nat->List C9} {B:List C4} {S:Nat->List C9} {Q:List U7} {w:f9}
theorem Ry {b most:Int} {l:List C9}:∀ {k:Nat},k<=l.length->∀ x∈xn b most l k,∃ i,i<l.length/\x=(b+i,l.getD i [],())
  | 0,_,x,h=>by cases h
  | k+1,hk,x,h=>by
    rw [xn] at h;rcases List.mem_append.1 h with h|h
    . exact Ry (by omega) x h
    . split at h
      . rw [List.mem_singleton] at h; exact ⟨k,by omega,h⟩
      . cases h
theorem SR {P:y9->Prop} {p:Int} {l:List C4} {w:f9} (h:∀ x∈l,∀ f v,P (1,p,f,v,x.1,[0,0,0,0,0,0],x.2.1,())):∀ {k},k<=l.length->V5 P w (M3 p l w k)
  | 0,_=>.refl w
  | k+1,hk=>by
    rw [M3];refine (SR h (by omega)).trans (V5.one (h _ ?_ _ _));rw [List.getD_eq_getElem?_getD,List.getElem?_eq_getElem (by omega)]; exact List.getElem_mem _
theorem Inv.again (h:Inv said B S Q w) {p:Nat} (hp:p<w.2.1.length) (hv:R5 w.1.2.1 p=true) :
    Inv said B S Q (Cp (M3 p (xN w p) w (xN w p).length) p):=by
  refine h.Gy ((SR (λ x hx f v=>?_) (Nat.le_refl _)).trans (V5.one ⟨λ e=>(by cases e),λ e=>(by cases e)⟩));refine ⟨λ _=>?_,λ e=>by cases e⟩;obtain ⟨⟨m,hm⟩,-⟩:=h.mem p hp hv;have hf:M4 w p=(((B9 p (Q.take m)).length:Int),(S p).drop (B9 p (Q.take m)).length,()):=hm.from_;have pE:H7 (M4 w p)=0:=hm.ok;unfold xN wq at hx;rw [if_neg (by rw [pE]; simp),hf] at hx;obtain ⟨i,hi,rfl⟩:=Ry (Nat.le_refl _) x hx;show (S ((p:Int)).toNat)[(((B9 p (Q.take m)).length:Int)+(i:Int)).toNat]?=some (((S p).drop (B9 p (Q.take m)).length).getD i []);rw [show ((p:Int)).toNat=p from rfl,show (((B9 p (Q.take m)).length:Int)+(i:Int)).toNat=(B9 p (Q.take m)).length+i by omega];rw [<- List.getElem?_drop,List.getD_eq_getElem?_getD,List.getElem?_eq_getElem hi]; rfl
theorem Inv.TH (h:Inv said B S Q w) (p:Nat):Inv said B S Q (w.1,w.2.1.set p (true,(w.2.1.getD p j7).2),w.2.2):=by
  refine h.D6 (λ hp=>h.rcv p hp) (λ hp hv=>?_);obtain ⟨⟨m,hm⟩,-⟩:=h.mem p hp hv;exact ⟨m,hm.le,hm.next,hm.wait,hm.log,hm.from_,hm.ok⟩
theorem Inv.ways (h:Inv said B S Q w) {l:List C9} (hl:l.length<=60) (hm:∀ s∈l,s∈w.2.2.2.1):Inv said B S Q (w.1,w.2.1,w.2.2.1,l,()):=by
  obtain ⟨h1,h2,h3,h4,h5,h6,h7,h8,h9,iZ,jG⟩:=h;exact ⟨h1,hl,h3,h4,h5,h6,λ s hs=>h7 s (hm s hs),h8,h9,iZ,jG⟩
theorem Inv.drop (h:Inv said B S Q w) (k:Int):Inv said B S Q (yu w k):=by
  refine h.ways ?_ (λ s hs=>?_)
  . have:=h.way;rw [List.length_append,List.length_take,List.length_drop];by_cases c:0<=k
    . omega
    . have e1:k.toNat=0:=by omega
      have e2:(k+1).toNat=0:=by omega
      rw [e1,e2]; omega
  . rcases List.mem_append.1 hs with hs|hs
    . exact List.mem_of_mem_take hs
    . exact List.mem_of_mem_drop hs
theorem Inv.copy (h:Inv said B S Q w) {k:Nat} (hk:k<w.2.2.2.1.length) (hn:¬ (w.2.2.2.1.length:Int)=60):Inv said B S Q (CT w k):=by
  refine h.ways ?_ (λ s hs=>?_)
  . have:=h.way;rw [List.length_append]; simp only [List.length_singleton]; omega
  . rcases List.mem_append.1 hs with hs|hs
    . exact hs
    . rw [List.mem_singleton] at hs;rw [hs,List.getD_eq_getElem?_getD,List.getElem?_eq_getElem hk]; exact List.getElem_mem _
theorem Inv.asks (h:Inv said B S Q w) {n:y9} (h0:0<=n.2.2.2.2.1):∀ j,V5 (xK S w.2.2.1) w (F2 w n j)
  | 0=>.refl w
  | j+1=>by
    rw [F2]
    split
    . rename_i bf;refine (Inv.asks h h0 j).trans (V5.one ⟨λ e=>(by cases e),λ _=>?_⟩);rw [(zT j).2.2] at bf;show w.2.2.1[(n.2.2.2.2.1+j).toNat]?=some ((F2 w n j).2.2.1.getD (n.2.2.2.2.1+j).toNat []);rw [(zT j).2.2,List.getD_eq_getElem?_getD,List.getElem?_eq_getElem (by omega)]; rfl
    . exact Inv.asks h h0 j
structure Told (texts:List C9) (w w':f9):Prop where
  view:w'.1=w.1
  all:w'.2.1=w.2.1
  ord:w'.2.2.1=w.2.2.1++texts
  len:w.2.2.2.1.length<=60->w'.2.2.2.1.length<=60
  way:∀ s∈w'.2.2.2.1,s∈w.2.2.2.1\/∃ n:y9,w7 s=(n,0,())/\n.2.2.2.1=w.1.1/\n.1=2/\(w.2.2.1++texts)[n.2.2.2.2.1.toNat]?=some n.2.2.2.2.2.2.1
theorem RY {x:C9} {w:f9} {P:y9->Prop} (h:∀ f t,P (2,f,t,w.1.1,(w.2.2.1.length:Int) - 1,[0,0,0,0,0,0],x,())):∀ p,V5 P w (G4 x w p)
  | 0=>.refl w
  | p+1=>by
    rw [G4];have ih:=RY h p
    split
    . refine ih.trans (V5.one ?_);rw [ih.view,ih.ord];exact h _ _
    . exact ih
theorem told {f first:Int} {l:List C9} {w:f9}:∀ {i},i<=l.length->Told ((l.take i).mapIdx (λ j t=>I5 f (first+j) t)) w (I6 f first l w i)
  | 0,_=>⟨rfl,rfl,by simp [I6],id,λ s h=>.inl h⟩
  | i+1,hi=>by
    have ih:=told (f:=f) (first:=first) (w:=w) (show i<=l.length by omega);rw [I6];obtain ⟨u,hu⟩:∃ u,u=I6 f first l w i:=⟨_,rfl⟩
    obtain ⟨x,hx⟩:∃ x,x=I5 f (first+i) (l.getD i []):=⟨_,rfl⟩;rw [<- hu] at ih ⊢;rw [<- hx];have rH:(l.take (i+1)).mapIdx (λ j t=>I5 f (first+j) t)=(l.take i).mapIdx (λ j t=>I5 f (first+j) t)++[x]:=by
      rw [Es (show i<l.length by omega) [],List.mapIdx_append,hx];simp only [List.length_take];rw [show min i l.length=i by omega];simp
    rw [rH];have hp:(zq u x).2.2.1=w.2.2.1++((l.take i).mapIdx (λ j t=>I5 f (first+j) t)++[x]):=by
      show u.2.2.1++[x]=_;rw [ih.ord,List.append_assoc]
    have hc:=RY (x:=x) (w:=zq u x) (P:=λ n=>n.1=2/\(zq u x).2.2.1[n.2.2.2.2.1.toNat]?=some n.2.2.2.2.2.2.1) (λ f t=>⟨rfl,by
      show (u.2.2.1++[x])[(((u.2.2.1++[x]).length:Int) - 1).toNat]?=some x;rw [List.length_append];simp only [List.length_singleton];rw [show (((u.2.2.1.length+1:Nat):Int) - 1).toNat=u.2.2.1.length by omega];rw [List.getElem?_append_right (Nat.le_refl _),Nat.sub_self]; rfl⟩) u.2.1.length
    refine ⟨hc.view.trans ih.view,hc.all.trans ih.all,hc.ord.trans hp,λ e=>hc.len (ih.len e),λ s hs=>?_⟩;rcases hc.way s hs with hs|⟨n,e1,e2,e3,e4⟩
    . rcases ih.way s hs with hs|⟨n,e1,e2,e3,e4⟩
      . exact .inl hs
      . refine .inr ⟨n,e1,e2,e3,?_⟩;rw [<- List.append_assoc];exact zL (List.prefix_append ..) e4
    . refine .inr ⟨n,e1,?_,e3,?_⟩
      . rw [e2];show u.1.1=w.1.1;rw [ih.view]
      . rw [<- hp]; exact e4
structure c8V (S:Nat->List C9) (w:f9) (n:y9):Prop where
  msg:xK S w.2.2.1 n
  seq:0<=n.2.2.2.2.1
theorem SP {P:List U7} {p:Nat}:∀ {l:List C9} {c:Nat},(B9 p P).length=c->M5 P (l.map λ t=>(p,t))=l.mapIdx (λ j t=>I5 p ((c:Int)+j) t)
  | [],_,_=>rfl
  | t::l,c,h=>by
    rw [List.map_cons,M5,List.mapIdx_cons,SP (c:=c+1) (by rw [yb,List.length_append,h]; simp [B9])];rw [h];have e:(λ(j:Nat) (t:C9)=>I5 (p:Int) (((c+1:Nat):Int)+j) t)=λ j t=>I5 p ((c:Int)+((j+1:Nat):Int)) t:=by
      funext j t
      rw [show ((c+1:Nat):Int)+(j:Int)=(c:Int)+((j+1:Nat):Int) by omega]
    refine congr (congrArg List.cons ?_) (congrArg (λ f=>List.mapIdx f l) e);show I5 p c t=I5 p ((c:Int)+((0:Nat):Int)) t;rw [show (c:Int)+((0:Nat):Int)=c by omega]
theorem Inv.order (h:Inv said B S Q w) {n:y9} (hk:¬ known w n.2.1≠0) (hm:(S n.2.1.toNat)[n.2.2.2.2.1.toNat]?=some n.2.2.2.2.2.2.1) :
    ∃ Q',Inv said B S Q' (W6 w n):=by
  by_cases he:(X8 w n).2.2.1≠0
  . refine ⟨Q,?_⟩;rw [W6,if_pos he]; exact h
  rw [W6,if_neg he];obtain ⟨v,al,rr⟩:=w;have nP:=BK hk;obtain ⟨p,hp⟩:∃ p:Nat,n.2.1=p:=⟨n.2.1.toNat,by omega⟩;have cg:p<al.length:=by omega
  rw [hp] at hm ⊢;have lv:X8 (v,al,rr) n=D3 (al.getD p j7).2.2.2.2.1 (n.2.2.2.2.1,n.2.2.2.2.2.2.1,()):=by rw [X8,hp]; rfl
  rw [lv] at he ⊢;obtain ⟨lB,lZ⟩:=h.rcv p cg;obtain ⟨r,hr⟩:∃ r,r=D3 (al.getD p j7).2.2.2.2.1 (n.2.2.2.2.1,n.2.2.2.2.2.2.1,()):=⟨_,rfl⟩;have kW:=Decidable.not_not.1 he;obtain ⟨a1,a2,a3,a4,a5,a6⟩:=yQ kW;have fK:=QJ (F:=λ i=>(S p)[i]?) kW lZ hm;rw [<- hr] at kW a1 a2 a3 a5 a6 fK ⊢;have oN:((al.getD p j7).2.2.2.2.1.1).toNat=(B9 p Q).length:=by
    have:(al.getD p j7).2.2.2.2.1.1=(B9 p Q).length:=lB;omega
  have ma:(al.getD p j7).2.2.2.2.1.1=((B9 p Q).length:Int):=lB;have hl:=WZ (X:=S p) (l:=r.2.1) (r:=(B9 p Q).length) (λ i hi=>by rw [<- oN]; exact fK i hi);have hT:=told (f:=(p:Int)) (first:=(B9 p Q).length) (l:=r.2.1) (w:=yc (v,al,rr) p (xR (N3 (v,al,rr) p) r.1)) (Nat.le_refl _);have kU:(N3 (v,al,rr) (p:Int)).2.2.2.2.1.1=((B9 p Q).length:Int):=lB;rw [kU];rw [List.take_length] at hT;have pJ:r.2.1.mapIdx (λ j t=>I5 (p:Int) (((B9 p Q).length:Int)+j) t)=M5 Q (r.2.1.map λ t=>(p,t)):=(SP rfl).symm;rw [pJ] at hT;obtain ⟨u,hu⟩:∃ u,u=I6 (p:Int) ((B9 p Q).length:Int) r.2.1 (yc (v,al,rr) p (xR (N3 (v,al,rr) p) r.1)) r.2.1.length:=⟨_,rfl⟩;rw [<- hu] at hT ⊢;have hQ:∀ q,B9 q (Q++r.2.1.map λ t=>(p,t))=B9 q Q++if p=q then r.2.1 else []:=λ q=>by rw [yb,UX]
  have bH:u.2.1=al.set p (xR (al.getD p j7) r.1):=hT.all;have hlen:u.2.1.length=al.length:=by rw [bH,List.length_set]
  have im:u.1=v:=hT.view;have oU:u.2.2.1=N5 (Q++r.2.1.map λ t=>(p,t)):=by
    rw [hT.ord,PV];congr 1;exact h.ord
  have mb:rr.1 <+: u.2.2.1:=⟨_,hT.ord.symm⟩;have cE:∀ q,u.2.1.getD q j7=if p=q then xR (al.getD p j7) r.1 else al.getD q j7:=λ q=>by
    rw [bH,U5];by_cases e:p=q
    . rw [if_pos ⟨e,cg⟩,if_pos e]
    . rw [if_neg (λ h=>e h.1),if_neg e]
  refine ⟨Q++r.2.1.map λ t=>(p,t),by rw [hlen]; exact h.K9,hT.len h.way,oU,λ x hx=>?_,λ q=>?_,h.short,λ s hs=>?_,λ q hq=>?_,λ q hq hv=>?_,λ q hq hv=>?_,by rw [hlen]; exact h.Fe⟩
  . rw [hlen];rcases List.mem_append.1 hx with hx|hx
    . exact h.inQ x hx
    . obtain ⟨t,-,rfl⟩:=List.mem_map.1 hx;exact cg
  . rw [hQ];by_cases e:p=q
    . subst e;rw [if_pos rfl];have aV:B9 p Q=(S p).take (B9 p Q).length:=List.prefix_iff_eq_take.1 (h.xH p);have:B9 p Q++r.2.1=(S p).take ((B9 p Q).length+r.2.1.length):=by
        rw [List.take_add,<- hl,<- aV]
      rw [this];exact List.take_prefix ..
    . rw [if_neg e,List.append_nil]; exact h.xH q
  . rw [im];rcases hT.way s hs with hs|⟨m,e1,e2,e3,e4⟩
    . exact (h.msg s hs).mono (λ _=>List.prefix_rfl) mb
    . intro _;rw [e1];refine ⟨Int.le_of_eq e2,λ _=>⟨λ e=>?_,λ _=>?_⟩⟩
      . have e3:m.1=2:=e3;have e:m.1=1:=e;omega
      . rw [hT.ord]; exact e4
  . rw [hlen] at hq;rw [cE,hQ];by_cases e:p=q
    . subst e;rw [if_pos rfl,if_pos rfl];refine ⟨?_,λ x hx=>?_⟩
      . show r.1.1=_;rw [a5,ma,List.length_append]; omega
      . rcases a2 x hx with rfl|hx
        . exact hm
        . exact lZ x hx
    . rw [if_neg e,if_neg e,List.append_nil]; exact h.rcv q hq
  . rw [hlen] at hq;rw [im] at hv;obtain ⟨⟨m,hm⟩,hs⟩:=h.mem q hq hv;refine ⟨⟨m,?_⟩,hs⟩;have bn:CO said B S (Q++r.2.1.map λ t=>(p,t)) q (al.getD q j7) m:=by
      have lv:(Q++r.2.1.map λ t=>(p,t)).take m=Q.take m:=List.take_append_of_le_length hm.le;refine ⟨by rw [List.length_append]; have:=hm.le; omega,hm.next,λ x hx=>?_,by rw [lv]; exact hm.log,by rw [lv]; exact hm.from_,hm.ok⟩;rw [PV];exact zL (List.prefix_append ..) (hm.wait x hx)
    rw [cE];by_cases e:p=q
    . subst e;rw [if_pos rfl];exact ⟨bn.le,bn.next,bn.wait,bn.log,bn.from_,bn.ok⟩
    . rw [if_neg e]; exact bn
  . rw [hlen] at hq;rw [im] at hv;exact h.out q hq hv
end
end Go.Proofs.YtijlnmgondibnaaGreatDoor
