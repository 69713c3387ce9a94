import Derived.Test.YtijlnmgondibnaaGreatDoorJ1
import Derived.Test.YtijlnmgondibnaaGreatDoorProg
import Derived.Lib.Atoi
import Derived.Lib.ItoaMem
import Derived.Lib.IndexMore
import Derived.Shelf.Strconv.Itoa3
import Derived.Lib.ItoaLen
import Derived.Shelf.Strings.Split
import Derived.Lib.SlTrimSet
import Derived.Lib.Strings
import Derived.WalkKit
import Derived.Lib.Walk
import Derived.Shelf.RegionOpenPlain
import Derived.Shelf.Strings.Prefix
import Derived.Shelf.Strings.SlTrimAscii
import Derived.Shelf.Strconv.Atoi
import Derived.Lib.SmallJoins
import Derived.Shelf.Strings.Cut
set_option linter.unusedVariables false
set_option linter.unusedSimpArgs false
set_option linter.unusedSectionVars false
namespace Go.Proofs.YtijlnmgondibnaaGreatDoor
open Go.Ex
set_option maxRecDepth 100000
attribute [local irreducible] Go.Ex.exec
theorem SP:Ty.wb r7=24:=rfl
def zK:o7:={ ps:=[.v (.d0 false r7)],rs:=[.d0 true r7],pre:=λ x=>List.length (α:=C9) x.1<=5864062014805,fn:=λ x=>x,out:=λ _=>() }
noncomputable def Et:Env:={ P:=Tryz.prog,tt:=tt,C7:=[],res:=[Go.ResultVar.tmp 2],rs:=[Ty.d0 true r7],ps:=[PK.v K6],B0:=[],nt:=8 }
theorem Ml:w7 Et:=x8 p7 trivial
theorem Mu:C2 Et Tryz.f31:=⟨rfl,rfl⟩
theorem SY (x0:List (Int×yY×Unit)):exec Et 1000 [.code (d8 Tryz.prog 31)] (s9 zK.ps ((x0,()))) =
  .both (x0=[]) (.ret (([],()))) (.f7 ((0:Nat)+List.length x0<=140737488355328/\((0:Nat)+List.length x0)*Ty.wb r7<=140737488355328) (.ret (([]++x0,())))):=by kernel_rfl
theorem IU:zK.Valid Tryz.prog 31:=by
  refine o7.o5 Ml rfl rfl Tryz.func31 (c:=d8 Tryz.prog 31) rfl rfl Mu rfl ?_;rintro ⟨(l:List (C9)),⟨⟩⟩ hp -
  have hp:l.length<=5864062014805:=hp;refine j6 (n:=1000) Ml Mu ?_;refine i6 (SY l) ?_;simp only [j7,Tree.holds,SP,sL];refine ⟨λ h=>?_,by omega,λ _=>rfl⟩;show (([],()):List (C9)×Unit)=(l,());rw [show l=[] from h]
theorem SR:Ty.wb .str=16:=rfl
def EG:o7:={ ps:=[.v (.d0 false .str)],rs:=[.d0 true .str],pre:=λ x=>List.length (α:=yY) x.1<=1048576,fn:=λ x=>x,out:=λ _=>() }
noncomputable def Eo:Env:={ P:=Tryz.prog,tt:=tt,C7:=[],res:=[Go.ResultVar.tmp 2],rs:=[Ty.d0 true Ty.str],ps:=[PK.v (Ty.d0 false Ty.str)],B0:=[],nt:=8 }
theorem Mr:w7 Eo:=x8 p7 trivial
theorem MA:C2 Eo Tryz.f32:=⟨rfl,rfl⟩
theorem Sq (x0:List yY):exec Eo 1000 [.code (d8 Tryz.prog 32)] (s9 EG.ps ((x0,()))) =
  .both (x0=[]) (.ret (([],()))) (.f7 ((0:Nat)+List.length x0<=140737488355328/\((0:Nat)+List.length x0)*Ty.wb Ty.str<=140737488355328) (.ret (([]++x0,())))):=by kernel_rfl
theorem Zf:EG.Valid Tryz.prog 32:=by
  refine o7.o5 Mr rfl rfl Tryz.func32 (c:=d8 Tryz.prog 32) rfl rfl MA rfl ?_;rintro ⟨(l:List yY),⟨⟩⟩ hp -
  have hp:l.length<=1048576:=hp;refine j6 (n:=1000) Mr MA ?_;refine i6 (Sq l) ?_;simp only [j7,Tree.holds,SR,sL];refine ⟨λ h=>?_,by omega,λ _=>rfl⟩;show (([],()):List yY×Unit)=(l,());rw [show l=[] from h]
abbrev K4:=Bool×(Nat×(List C9×List C9))×FrD×ToD×ToD×Unit
abbrev CP:=vr×List K4×List yY×List yY×Unit
def ER:o7:={ ps:=[.v (.d0 false .str)],rs:=[.d0 false .str],new:=true,pre:=EG.pre,fn:=λ x=>x,out:=λ _=>() }
theorem Rq:ER.Valid Tryz.prog 32:=Zf.share (rs':=[.d0 false .str]) rfl rfl rfl
def Ox (w:f8) (p:Int) (g:Int):Int:=if s5 w p=true then g else bOr .u8 g (T5 .u8 w.1.2.1 (IntKind.wrap .u8 (1*2^min p.toNat IntKind.u8.bits)))
def E5 (w:f8):Nat->Int
  | 0=>0
  | k+1=>Ox w k (E5 w k)
def T9 (w:f8):vr×Int×Unit:=Q8 w.1 (E5 w w.2.1.length) 0
def Np:o7:={ ps:=[.rd H5],rs:=[e8],pre:=λ x=>List.length (α:=n7) (x.1:f8).2.1<=6/\(T9 x.1).2.1≠0,fn:=λ x=>((T9 x.1).2.1,()),out:=λ _=>() }
noncomputable def AM:Env:={ P:=Tryz.prog,tt:=ttW,C7:=[(47,xV),(53,Ao),(31,zK),(32,ER)],res:=[Go.ResultVar.tmp 2],rs:=[Ty.int IntKind.i64],ps:=[PK.rd H5],B0:=[(4,[(0,none),(3,none),(4,none),(18,none),(19,none)]),(16,[(0,none),(4,none),(7,none),(67,none),(68,none)]),(22,[(0,none),(4,none),(7,none),(9,none),(10,none),(11,none),(67,none),(68,none),(86,none),(87,none),(88,none)]),(998014,[(4,some K6)])],nt:=139 }
theorem a40:w7 AM:=x8 Lr ⟨BC,RG,IU,Rq,trivial⟩
theorem JS:C2 AM Tryz.f25:=⟨rfl,rfl⟩
theorem XS (aj:Int) (af:Int) (ab:List n7) (ae:List yY) (aa:List yY):exec AM 1000 [.code (d8 Tryz.prog 25)] (s9 Np.ps ((((aj,af,()),ab,ae,aa,()),()))) =
  .ctL (f9 (d8 Tryz.prog 25) 4) (St.mk [(0,AV.K2 H5 ((aj,af,()),ab,ae,aa,())),(3,AV.val U8 (0:Int)),(4,AV.val K6 []),(18,AV.val e8 (↑(List.length ab):Int)),(19,AV.val e8 (0:Int))] []):=by kernel_rfl
def JL (bG:Int) (aZ:Int) (bz:List n7) (bo:List yY) (aY:List yY) (v3:Int) (v4:List (Int×yY×Unit)) (uD:Int) (uB:Int):St:=St.mk [(0,AV.K2 H5 ((bG,aZ,()),bz,bo,aY,())),(3,AV.val U8 v3),(4,AV.val K6 v4),(18,AV.val e8 uD),(19,AV.val e8 uB)] []
theorem b7L (bG:Int) (aZ:Int) (bz:List n7) (bo:List yY) (aY:List yY) (v3:Int) (v4:List (Int×yY×Unit)) (uD:Int) (uB:Int):exec AM 1000 (.code (f9 (d8 Tryz.prog 25) 4).1::.inLoop (f9 (d8 Tryz.prog 25) 4).1::(f9 (d8 Tryz.prog 25) 4).2) (JL bG aZ bz bo aY v3 v4 uD uB) =
  cond (decide (uB<uD)) (.f7 (List.length bz<=6) (cond (s5 ((bG,aZ,()),bz,bo,aY,()) uB) (.f7 ((0:Int)<=uB/\uB<(↑(List.length bz):Int)) (cond (decide ((↑(List.length v4):Int)<(↑(List.length (Prod.fst (Prod.snd (List.getD bz (Int.toNat uB) (false,[],((0:Int),[],()),((0:Int),[],()),((0:Int),[],()),()))))):Int))) (.f7 (r9 IntKind.i64 (uB+(1:Int))) (.ctL (f9 (d8 Tryz.prog 25) 4) (St.mk [(0,AV.K2 H5 ((bG,aZ,()),bz,bo,aY,())),(3,AV.val U8 v3),(4,AV.val K6 (Prod.fst (Prod.snd (List.getD bz (Int.toNat uB) (false,[],((0:Int),[],()),((0:Int),[],()),((0:Int),[],()),()))))),(18,AV.val e8 uD),(19,AV.val e8 (uB+(1:Int)))] []))) (.f7 (r9 IntKind.i64 (uB+(1:Int))) (.ctL (f9 (d8 Tryz.prog 25) 4) (St.mk [(0,AV.K2 H5 ((bG,aZ,()),bz,bo,aY,())),(3,AV.val U8 v3),(4,AV.val K6 v4),(18,AV.val e8 uD),(19,AV.val e8 (uB+(1:Int)))] []))))) (.f7 ((0:Int)<=uB) (.f7 (r9 IntKind.i64 (uB+(1:Int))) (.ctL (f9 (d8 Tryz.prog 25) 4) (St.mk [(0,AV.K2 H5 ((bG,aZ,()),bz,bo,aY,())),(3,AV.val U8 (bOr IntKind.u8 v3 (T5 IntKind.u8 aZ (IntKind.wrap IntKind.u8 ((1:Int)*(2:Int)^min (Int.toNat uB) (IntKind.bits IntKind.u8)))))),(4,AV.val K6 v4),(18,AV.val e8 uD),(19,AV.val e8 (uB+(1:Int)))] [])))))) (.f7 (True) (cond (decide (Prod.fst (Prod.snd (Q8 (bG,aZ,()) v3 (0:Int)))≠(0:Int))) (.ret ((Prod.fst (Prod.snd (Q8 (bG,aZ,()) v3 (0:Int))),()))) (.ctL (f9 (d8 Tryz.prog 25) 16) (St.mk [(0,AV.K2 H5 ((bG,aZ,()),bz,bo,aY,())),(4,AV.val K6 v4),(7,AV.ptr 7 []),(67,AV.val e8 (↑(List.length bz):Int)),(68,AV.val e8 (0:Int))] [(7,g9.var View (Prod.fst (Q8 (bG,aZ,()) v3 (0:Int))))])))):=by kernel_rfl
theorem b1L:Np.Valid Tryz.prog 25:=by
  refine o7.o5 a40 rfl rfl Tryz.func25 (c:=d8 Tryz.prog 25) rfl rfl JS rfl ?_;rintro ⟨⟨⟨(v0:Int),(v1:Int),⟨⟩⟩,(al:List n7),(od:List yY),(wy:List yY),⟨⟩⟩,⟨⟩⟩ ⟨(hp:al.length<=6),(bH:(T9 ((v0,v1,()),al,od,wy,())).2.1≠0)⟩ -
  refine j6 (n:=1000) a40 JS ?_;refine i6 (XS v0 v1 al od wy) ?_;show Go.Ex.Reach AM Tryz.f25 ((T9 ((v0,v1,()),al,od,wy,())).2.1,()) () (.code (f9 (d8 Tryz.prog 25) 4).1::.inLoop (f9 (d8 Tryz.prog 25) 4).1::(f9 (d8 Tryz.prog 25) 4).2) (JL v0 v1 al od wy (E5 ((v0,v1,()),al,od,wy,()) 0) [] (al.length:Int) ((0:Nat):Int));refine Reach.M9 a40 JS (λ i:Nat×List C9=>JL v0 v1 al od wy (E5 ((v0,v1,()),al,od,wy,()) i.1) i.2 (al.length:Int) (i.1:Int)) (λ i=>i.1<=al.length)
    (λ i=>al.length - i.1) 1000 (λ _=>⟨u7 rfl,u7 rfl⟩) ?_ (0,[]) (Nat.zero_le _)
  rintro ⟨i,l⟩ k1 - ih;have k1:i<=al.length:=k1;have ih:∀ l',i<al.length->_:=λ l' h=>ih (i+1,l') (by show i+1<=al.length; omega) (by show al.length - (i+1)<al.length - i; omega);refine i6 (b7L ..) ?_;have e1:((i:Nat):Int)+1=((i+1:Nat):Int):=by omega
  simp only [j7,Tree.holds,e1,sL];refine ⟨λ c=>⟨hp,λ _=>⟨λ a=>⟨by omega,λ _=>⟨λ b=>⟨by omega,λ _=>?_⟩,λ b=>⟨by omega,λ _=>?_⟩⟩⟩,λ a=>⟨by omega,λ _=>⟨by omega,λ _=>?_⟩⟩⟩⟩,λ c=>⟨λ d=>?_,λ d=>?_⟩⟩
  . have:=ih (al.getD i j5).2.1 (by omega);rw [show E5 ((v0,v1,()),al,od,wy,()) (i+1)=E5 ((v0,v1,()),al,od,wy,()) i from if_pos a] at this;exact this
  . have:=ih l (by omega);rw [show E5 ((v0,v1,()),al,od,wy,()) (i+1)=E5 ((v0,v1,()),al,od,wy,()) i from if_pos a] at this;exact this
  . have:=ih l (by omega);rw [show E5 ((v0,v1,()),al,od,wy,()) (i+1)=bOr .u8 (E5 ((v0,v1,()),al,od,wy,()) i) (T5 .u8 v1 (IntKind.wrap .u8 (1*2^min i IntKind.u8.bits))) from if_neg (by simpa using a)] at this;exact this
  . obtain rfl:i=al.length:=by omega
    rfl
  . obtain rfl:i=al.length:=by omega
    exact absurd (show (Q8 (v0,v1,()) (E5 ((v0,v1,()),al,od,wy,()) al.length) 0).2.1=0 by simpa using d) bH
def GC:o7:={ ps:=[.rd H5],rs:=[View],pre:=λ _=>True,fn:=λ x=>((x.1:f8).1,()),out:=λ _=>() }
noncomputable def Gg:Env:={ P:=Tryz.prog,tt:=tt,C7:=[],res:=[Go.ResultVar.cell 2 57],rs:=[Ty.pair e8 (Ty.pair U8 Ty.unit)],ps:=[PK.rd H5],B0:=[],nt:=7 }
theorem OP:w7 Gg:=x8 p7 trivial
theorem PB:C2 Gg Tryz.f29:=⟨rfl,rfl⟩
theorem VI (aj:Int) (af:Int) (ab:List n7) (ae:List yY) (aa:List yY):exec Gg 1000 [.code (d8 Tryz.prog 29)] (s9 GC.ps ((((aj,af,()),ab,ae,aa,()),()))) =
  .ret (((aj,af,()),())):=by kernel_rfl
theorem b4Y:GC.Valid Tryz.prog 29:=by
  refine o7.o5 OP rfl rfl Tryz.func29 (c:=d8 Tryz.prog 29) rfl rfl PB rfl ?_;rintro ⟨⟨⟨(v0:Int),(v1:Int),⟨⟩⟩,(al:List n7),(od:List yY),(wy:List yY),⟨⟩⟩,⟨⟩⟩ - -
  refine j6 (n:=1000) OP PB ?_;refine i6 (VI v0 v1 al od wy) ?_;rfl
def EI:o7:={ ps:=[.rd H5],rs:=[e8],pre:=λ _=>True,fn:=λ x=>((List.length (α:=yY) (x.1:f8).2.2.2.1:Int),()),out:=λ _=>() }
noncomputable def Fu:Env:={ P:=Tryz.prog,tt:=tt,C7:=[],res:=[Go.ResultVar.tmp 2],rs:=[Ty.int IntKind.i64],ps:=[PK.rd H5],B0:=[],nt:=8 }
theorem Ng:w7 Fu:=x8 p7 trivial
theorem NA:C2 Fu Tryz.f17:=⟨rfl,rfl⟩
theorem Th (aj:Int) (af:Int) (ab:List n7) (ae:List yY) (aa:List yY):exec Fu 1000 [.code (d8 Tryz.prog 17)] (s9 EI.ps ((((aj,af,()),ab,ae,aa,()),()))) =
  .ret (((↑(List.length aa):Int),())):=by kernel_rfl
theorem Zh:EI.Valid Tryz.prog 17:=by
  refine o7.o5 Ng rfl rfl Tryz.func17 (c:=d8 Tryz.prog 17) rfl rfl NA rfl ?_;rintro ⟨⟨⟨(v0:Int),(v1:Int),⟨⟩⟩,(al:List n7),(od:List yY),(wy:List yY),⟨⟩⟩,⟨⟩⟩ - -
  refine j6 (n:=1000) Ng NA ?_;refine i6 (Th v0 v1 al od wy) ?_;rfl
def U0 (w:f8) (p:Int):List C9:=(w.2.1.getD p.toNat j5).2.1
def vA (w:f8) (p:Int):FrD:=(w.2.1.getD p.toNat j5).2.2.1
theorem Dg {v:vr} {al:List n7} {r:List yY×List yY×Unit} {p:Int} (a:¬ known (v,al,r) p≠0):0<=p/\p<(al.length:Int):=by
  unfold known at a;split at a
  . rename_i hb;have:=U1.1 hb;simp only at this; omega
  . exact absurd (by decide) a
def I5 (w:f8) (p:Int):List C9×Int×Unit:=if known w p≠0 then ([],known w p,()) else (U0 w p,0,())
def BO:o7:={ ps:=[.rd H5,.v e8],rs:=[.d0 true r7,e8],pre:=λ x=>List.length (α:=n7) (x.1:f8).2.1<=6/\List.length (α:=C9) (U0 x.1 x.2.1)<=5864062014805,fn:=λ x=>I5 x.1 x.2.1,out:=λ _=>() }
noncomputable def Fp:Env:={ P:=Tryz.prog,tt:=tt,C7:=[(49,ze),(31,zK)],res:=[Go.ResultVar.tmp 4,Go.ResultVar.tmp 5],rs:=[Ty.d0 true r7,Ty.int IntKind.i64],ps:=[PK.rd H5,PK.v e8],B0:=[],nt:=22 }
theorem Nb:w7 Fp:=x8 p7 ⟨a12,IU,trivial⟩
theorem Nw:C2 Fp Tryz.f19:=⟨rfl,rfl⟩
theorem Td (aj:Int) (af:Int) (ab:List n7) (ae:List yY) (aa:List yY) (x1:Int):exec Fp 1000 [.code (d8 Tryz.prog 19)] (s9 BO.ps ((((aj,af,()),ab,ae,aa,()),x1,()))) =
  .f7 (List.length ab<=6) (cond (decide (known ((aj,af,()),ab,ae,aa,()) x1≠(0:Int))) (.ret (([],known ((aj,af,()),ab,ae,aa,()) x1,()))) (.f7 ((0:Int)<=x1/\x1<(↑(List.length ab):Int)) (.f7 (List.length (Prod.fst (Prod.snd (List.getD ab (Int.toNat x1) (false,[],((0:Int),[],()),((0:Int),[],()),((0:Int),[],()),()))))<=5864062014805) (.ret ((Prod.fst (Prod.snd (List.getD ab (Int.toNat x1) (false,[],((0:Int),[],()),((0:Int),[],()),((0:Int),[],()),()))),(0:Int),())))))):=by kernel_rfl
theorem QD:BO.Valid Tryz.prog 19:=by
  refine o7.o5 Nb rfl rfl Tryz.func19 (c:=d8 Tryz.prog 19) rfl rfl Nw rfl ?_;rintro ⟨⟨⟨(v0:Int),(v1:Int),⟨⟩⟩,(al:List n7),(od:List yY),(wy:List yY),⟨⟩⟩,(p:Int),⟨⟩⟩ ⟨(hp:al.length<=6),(hl:(U0 ((v0,v1,()),al,od,wy,()) p).length<=5864062014805)⟩ -
  refine j6 (n:=1000) Nb Nw ?_;refine i6 (Td v0 v1 al od wy p) ?_;simp only [j7,Tree.holds,sL];refine ⟨hp,λ _=>⟨λ a=>?_,λ a=>⟨Dg a,λ _=>⟨hl,λ _=>?_⟩⟩⟩⟩
  . show (([],_,()):List C9×Int×Unit)=I5 ((v0,v1,()),al,od,wy,()) p;exact (if_pos a).symm
  . show ((_,0,()):List C9×Int×Unit)=I5 ((v0,v1,()),al,od,wy,()) p;exact (if_neg a).symm
theorem DU {v:vr} {al:List n7} {r:List yY×List yY×Unit} {p:Int} (a:¬ K7 (v,al,r) p≠0):0<=p/\p<(al.length:Int):=by
  unfold K7 at a;by_cases h:known (v,al,r) p≠0
  . rw [if_pos h] at a; exact absurd h a
  . exact Dg h
theorem UC {s:vg} {x:yY} (h:¬ (P7 s x).2.1≠0):(0<=(P7 s x).1.1/\(P7 s x).1.1<=16777215)/\(P7 s x).1.2.1.length<=17:=by
  unfold P7 at h ⊢;by_cases h1:H6 s≠0
  . rw [if_pos h1] at h ⊢; exact absurd h1 h
  rw [if_neg h1] at h ⊢;have aM:=xd (Decidable.not_not.1 h1);by_cases h2:D8 x=true
  . rw [if_pos h2] at h; exact absurd (by decide) h
  rw [if_neg h2] at h ⊢;by_cases h3:(s.2.1.length:Int)=16\/16777215<=s.1+s.2.1.length
  . rw [if_pos h3] at h; exact absurd (by decide) h
  rw [if_neg h3];refine ⟨aM.1,?_⟩;rw [List.length_append];have:=aM.2.1;simp only [List.length_cons,List.length_nil]; omega
def setFrom (w:f8) (p:Int) (f:FrD):f8 :=
  (w.1,w.2.1.set p.toNat ((w.2.1.getD p.toNat j5).1,(w.2.1.getD p.toNat j5).2.1,f,(w.2.1.getD p.toNat j5).2.2.2),w.2.2)
def KW (w:f8) (p:Int) (t:yY) (r:FrD):f8:=L7 (setFrom w p r) 1 p (K8 (setFrom w p r)) (r.1+r.2.1.length - 1) t
def uO (w:f8) (p:Int) (t:yY):f8×Int :=
  if K7 w p≠0 then (w,K7 w p) else if (150:Int)<t.length then (w,2) else if (w.2.2.2.1.length:Int)=60 then (w,8)
  else if (P7 (vA w p) t).2.1≠0 then (w,(P7 (vA w p) t).2.1) else (KW w p t (P7 (vA w p) t).1,0)
def EF:o7:={ ps:=[.rw s6,.v e8,.v .str],rs:=[e8],pre:=λ x=>List.length (α:=n7) (x.1:f8).2.1<=6,fn:=λ x=>((uO x.1 x.2.1 x.2.2.1).2,()),out:=λ x=>((uO x.1 x.2.1 x.2.2.1).1,()) }
noncomputable def Fs:Env:={ P:=Tryz.prog,tt:=tt,C7:=[(41,Cj),(42,Kv),(43,za),(44,yQ)],res:=[Go.ResultVar.tmp 6],rs:=[Ty.int IntKind.i64],ps:=[PK.rw s6,PK.v e8,PK.v Ty.str],B0:=[],nt:=64 }
theorem Nd:w7 Fs:=x8 p7 ⟨Rz,Zt,DV,DP,trivial⟩
theorem Ny:C2 Fs Tryz.f15:=⟨rfl,rfl⟩
theorem Tf (aj:Int) (af:Int) (ab:List n7) (ae:List yY) (aa:List yY) (x1:Int) (x2:yY):exec Fs 1000 [.code (d8 Tryz.prog 15)] (s9 EF.ps ((((aj,af,()),ab,ae,aa,()),x1,x2,()))) =
  .f7 (List.length ab<=6) (cond (decide (K7 ((aj,af,()),ab,ae,aa,()) x1≠(0:Int))) (.ret ((K7 ((aj,af,()),ab,ae,aa,()) x1,((aj,af,()),ab,ae,aa,()),()))) (cond (decide ((150:Int)<(↑(List.length x2):Int))) (.ret (((2:Int),((aj,af,()),ab,ae,aa,()),()))) (cond (decide ((↑(List.length aa):Int)=(60:Int))) (.ret (((8:Int),((aj,af,()),ab,ae,aa,()),()))) (.f7 ((0:Int)<=x1/\x1<(↑(List.length ab):Int)) (.f7 (True) (cond (decide (Prod.fst (Prod.snd (P7 (Prod.fst (Prod.snd (Prod.snd (List.getD ab (Int.toNat x1) (false,[],((0:Int),[],()),((0:Int),[],()),((0:Int),[],()),()))))) x2))≠(0:Int))) (.ret ((Prod.fst (Prod.snd (P7 (Prod.fst (Prod.snd (Prod.snd (List.getD ab (Int.toNat x1) (false,[],((0:Int),[],()),((0:Int),[],()),((0:Int),[],()),()))))) x2)),((aj,af,()),ab,ae,aa,()),()))) (.f7 ((0:Int)<=x1/\x1<(↑(List.length ab):Int)) (.f7 (True) (.f7 (r9 IntKind.i64 (Prod.fst (Prod.fst (P7 (Prod.fst (Prod.snd (Prod.snd (List.getD ab (Int.toNat x1) (false,[],((0:Int),[],()),((0:Int),[],()),((0:Int),[],()),()))))) x2))+(↑(List.length (Prod.fst (Prod.snd (Prod.fst (P7 (Prod.fst (Prod.snd (Prod.snd (List.getD ab (Int.toNat x1) (false,[],((0:Int),[],()),((0:Int),[],()),((0:Int),[],()),()))))) x2))))):Int))) (.f7 (r9 IntKind.i64 (Prod.fst (Prod.fst (P7 (Prod.fst (Prod.snd (Prod.snd (List.getD ab (Int.toNat x1) (false,[],((0:Int),[],()),((0:Int),[],()),((0:Int),[],()),()))))) x2))+(↑(List.length (Prod.fst (Prod.snd (Prod.fst (P7 (Prod.fst (Prod.snd (Prod.snd (List.getD ab (Int.toNat x1) (false,[],((0:Int),[],()),((0:Int),[],()),((0:Int),[],()),()))))) x2))))):Int) - (1:Int))) (.f7 (True) (.ret (((0:Int),L7 ((aj,af,()),List.set ab (Int.toNat x1) (Prod.fst (List.getD ab (Int.toNat x1) (false,[],((0:Int),[],()),((0:Int),[],()),((0:Int),[],()),())),Prod.fst (Prod.snd (List.getD ab (Int.toNat x1) (false,[],((0:Int),[],()),((0:Int),[],()),((0:Int),[],()),()))),Prod.fst (P7 (Prod.fst (Prod.snd (Prod.snd (List.getD ab (Int.toNat x1) (false,[],((0:Int),[],()),((0:Int),[],()),((0:Int),[],()),()))))) x2),Prod.snd (Prod.snd (Prod.snd (List.getD ab (Int.toNat x1) (false,[],((0:Int),[],()),((0:Int),[],()),((0:Int),[],()),()))))),ae,aa,()) (1:Int) x1 (K8 ((aj,af,()),List.set ab (Int.toNat x1) (Prod.fst (List.getD ab (Int.toNat x1) (false,[],((0:Int),[],()),((0:Int),[],()),((0:Int),[],()),())),Prod.fst (Prod.snd (List.getD ab (Int.toNat x1) (false,[],((0:Int),[],()),((0:Int),[],()),((0:Int),[],()),()))),Prod.fst (P7 (Prod.fst (Prod.snd (Prod.snd (List.getD ab (Int.toNat x1) (false,[],((0:Int),[],()),((0:Int),[],()),((0:Int),[],()),()))))) x2),Prod.snd (Prod.snd (Prod.snd (List.getD ab (Int.toNat x1) (false,[],((0:Int),[],()),((0:Int),[],()),((0:Int),[],()),()))))),ae,aa,())) (Prod.fst (Prod.fst (P7 (Prod.fst (Prod.snd (Prod.snd (List.getD ab (Int.toNat x1) (false,[],((0:Int),[],()),((0:Int),[],()),((0:Int),[],()),()))))) x2))+(↑(List.length (Prod.fst (Prod.snd (Prod.fst (P7 (Prod.fst (Prod.snd (Prod.snd (List.getD ab (Int.toNat x1) (false,[],((0:Int),[],()),((0:Int),[],()),((0:Int),[],()),()))))) x2))))):Int) - (1:Int)) x2,())))))))))))))):=by kernel_rfl
attribute [local irreducible] uO L7 P7 in
theorem Zu:EF.Valid Tryz.prog 15:=by
  refine o7.o5 Nd rfl rfl Tryz.func15 (c:=d8 Tryz.prog 15) rfl rfl Ny rfl ?_;rintro ⟨⟨⟨(v0:Int),(v1:Int),⟨⟩⟩,(al:List n7),(od:List yY),(wy:List yY),⟨⟩⟩,(p:Int),(t:yY),⟨⟩⟩ (hp:al.length<=6) -
  refine j6 (n:=1000) Nd Ny ?_;refine i6 (Tf v0 v1 al od wy p t) ?_;simp only [j7,Tree.holds,sL];obtain ⟨w,hw⟩:∃ w:f8,w=((v0,v1,()),al,od,wy,()):=⟨_,rfl⟩;have key:∀ r:f8×Int,uO ((v0,v1,()),al,od,wy,()) p t=r->(((r.2,r.1,()):Int×f8×Unit)=((uO ((v0,v1,()),al,od,wy,()) p t).2,(uO ((v0,v1,()),al,od,wy,()) p t).1,())):=by rintro r rfl; rfl
  have e1:=λ a=>(uO.eq_1 ((v0,v1,()),al,od,wy,()) p t).trans (if_pos a);have e2:=λ a=>(uO.eq_1 ((v0,v1,()),al,od,wy,()) p t).trans (if_neg a);refine ⟨hp,λ _=>⟨λ a=>key (_,_) (e1 a),λ a=>⟨λ b=>key (_,_) ((e2 a).trans (if_pos b)),λ b=>⟨λ c=>key (_,_) ((e2 a).trans ((if_neg b).trans (if_pos c))),
    λ c=>⟨DU a,λ _=>⟨λ d=>key (_,_) ((e2 a).trans ((if_neg b).trans ((if_neg c).trans (if_pos d)))),λ d=>?_⟩⟩⟩⟩⟩⟩
  have hk:=UC (s:=vA ((v0,v1,()),al,od,wy,()) p) (x:=t) d;simp only [vA] at hk;refine ⟨DU a,λ _=>⟨?_,λ _=>⟨?_,λ _=>key (_,_) ((e2 a).trans ((if_neg b).trans ((if_neg c).trans (if_neg d))))⟩⟩⟩
  . simp only [j5] at hk; omega
  . simp only [j5] at hk; omega
def ttN:List (TypeId×TI):=(76,TI.mk s6 88)::(74,TI.mk (.d0 true wA) 24)::(85,TI.mk wA 128)::tt
theorem TP:ttN.all (wI Tryz.prog)=true:=by kernel_rfl
def FH (n:Int):Int:=IntKind.wrap .u8 (IntKind.wrap .u8 (1*2^min n.toNat (IntKind.bits .u8)) - 1)
def BU (n:Int):Option f8×Int×Unit:=if I2 n 1 6=true then (some ((0,FH n,()),List.replicate n.toNat j5,[],[],()),0,()) else (none,1,())
def EE:o7:={ ps:=[.v e8],rs:=[.box true none s6,e8],pre:=λ _=>True,fn:=λ x=>BU x.1,out:=λ _=>() }
noncomputable def Fq:Env:={ P:=Tryz.prog,tt:=ttN,C7:=[(40,yP)],res:=[Go.ResultVar.tmp 2,Go.ResultVar.tmp 3],rs:=[Ty.box true none s6,Ty.int IntKind.i64],ps:=[PK.v e8],B0:=[],nt:=15 }
theorem Nc:w7 Fq:=x8 TP ⟨DO,trivial⟩
theorem Nx:C2 Fq Tryz.f14:=⟨rfl,rfl⟩
theorem Te (x0:Int):exec Fq 1000 [.code (d8 Tryz.prog 14)] (s9 EE.ps ((x0,()))) =
  .f7 (True) (cond (!I2 x0 (1:Int) (6:Int)) (.ret ((none,(1:Int),()))) (.f7 ((0:Int)<=x0) (.f7 ((0:Int)<=x0/\x0<=x0/\x0<=(140737488355328:Int)/\x0*(↑(Ty.wb wA):Int)<=(140737488355328:Int)) (.ret ((some (((0:Int),IntKind.wrap IntKind.u8 (IntKind.wrap IntKind.u8 ((1:Int)*(2:Int)^min (Int.toNat x0) (IntKind.bits IntKind.u8)) - (1:Int)),()),List.replicate (Int.toNat x0) (false,[],((0:Int),[],()),((0:Int),[],()),((0:Int),[],()),()),[],[],()),(0:Int),())))))):=by kernel_rfl
theorem QE:EE.Valid Tryz.prog 14:=by
  refine o7.o5 Nc rfl rfl Tryz.func14 (c:=d8 Tryz.prog 14) rfl rfl Nx rfl ?_;rintro ⟨(n:Int),⟨⟩⟩ - -
  refine j6 (n:=1000) Nc Nx ?_;refine i6 (Te n) ?_;have hw:Ty.wb wA=128:=rfl;simp only [j7,Tree.holds,hw,sL];refine ⟨λ a=>?_,λ a=>?_⟩
  . show ((none,1,()):Option f8×Int×Unit)=BU n;exact (if_neg (by rw [a]; simp)).symm
  . have ha:=U1.1 a;refine ⟨by omega,λ _=>⟨⟨by omega,by omega,by omega⟩,λ _=>?_⟩⟩;show (_:Option f8×Int×Unit)=BU n;exact (if_pos a).symm
def M4 (p:Int) (l:List C9) (w:f8):Nat->f8
  | 0=>w
  | k+1=>L7 (M4 p l w k) 1 p (K8 (M4 p l w k)) (l.getD k (0,[],())).1 (l.getD k (0,[],())).2.1
theorem DA {w:f8} {k f t s:Int} {x:yY}:(L7 w k f t s x).2.1=w.2.1/\(L7 w k f t s x).1=w.1/\(L7 w k f t s x).2.2.1=w.2.2.1:=by
  by_cases h:(S5 (k,f,t,w.1.1,s,[0,0,0,0,0,0],x,())).2.1=0/\(w.2.2.2.1.length:Int)<60
  . rw [Jd h.1 h.2]; exact ⟨rfl,rfl,rfl⟩
  . rw [DB h]; exact ⟨rfl,rfl,rfl⟩
theorem JA {p:Int} {l:List C9} {w:f8}:∀ k,(M4 p l w k).2.1=w.2.1/\(M4 p l w k).1=w.1/\(M4 p l w k).2.2.1=w.2.2.1
  | 0=>⟨rfl,rfl,rfl⟩
  | k+1=>by
    obtain ⟨h1,h2,h3⟩:=JA (p:=p) (l:=l) (w:=w) k;obtain ⟨g1,g2,g3⟩:=DA (w:=M4 p l w k) (k:=1) (f:=p) (t:=K8 (M4 p l w k)) (s:=(l.getD k (0,[],())).1) (x:=(l.getD k (0,[],())).2.1);exact ⟨g1.trans h1,g2.trans h2,g3.trans h3⟩
def BQ (w:f8) (p:Int):f8:=L7 w 3 p (K8 w) (w.2.1.getD p.toNat j5).2.2.2.1.1 []
def xt (w:f8) (p:Int):List C9:=(wk (vA w p) 4).1
def U7 (w:f8) (p:Int):f8×Int :=
  if K7 w p≠0 then (w,K7 w p) else (BQ (M4 p (xt w p) w (xt w p).length) p,0)
def Gp:o7:={ ps:=[.rw s6,.v e8],rs:=[e8],pre:=λ x=>List.length (α:=n7) (x.1:f8).2.1<=6,fn:=λ x=>((U7 x.1 x.2.1).2,()),out:=λ x=>((U7 x.1 x.2.1).1,()) }
noncomputable def AE:Env:={ P:=Tryz.prog,tt:=tt,C7:=[(41,Cj),(54,Hq),(43,za),(44,yQ)],res:=[Go.ResultVar.tmp 4],rs:=[Ty.int IntKind.i64],ps:=[PK.rw s6,PK.v e8],B0:=[(6,[(0,none),(1,none),(28,some (Ty.d0 true r7)),(29,none),(30,none)])],nt:=58 }
theorem IJ:w7 AE:=x8 p7 ⟨Rz,b3K,DV,DP,trivial⟩
theorem IN:C2 AE Tryz.f26:=⟨rfl,rfl⟩
theorem Wi (aj:Int) (af:Int) (ab:List n7) (ae:List yY) (aa:List yY) (x1:Int):exec AE 1000 [.code (d8 Tryz.prog 26)] (s9 Gp.ps ((((aj,af,()),ab,ae,aa,()),x1,()))) =
  .f7 (List.length ab<=6) (cond (decide (K7 ((aj,af,()),ab,ae,aa,()) x1≠(0:Int))) (.ret ((K7 ((aj,af,()),ab,ae,aa,()) x1,((aj,af,()),ab,ae,aa,()),()))) (.f7 ((0:Int)<=x1/\x1<(↑(List.length ab):Int)) (.f7 (True) (.ctL (f9 (d8 Tryz.prog 26) 6) (St.mk [(0,AV.ptr 2000000 []),(1,AV.val e8 x1),(28,AV.at_ 1000028 []),(29,AV.val e8 (↑(List.length (Prod.fst (wk (Prod.fst (Prod.snd (Prod.snd (List.getD ab (Int.toNat x1) (false,[],((0:Int),[],()),((0:Int),[],()),((0:Int),[],()),()))))) (4:Int)))):Int)),(30,AV.val e8 (0:Int))] [(1000028,g9.own (Ty.d0 true r7) (Prod.fst (wk (Prod.fst (Prod.snd (Prod.snd (List.getD ab (Int.toNat x1) (false,[],((0:Int),[],()),((0:Int),[],()),((0:Int),[],()),()))))) (4:Int)))),(2000000,g9.var s6 ((aj,af,()),ab,ae,aa,()))]))))):=by kernel_rfl
def IK (v1:Int) (vQ:Int) (v30:Int) (eC:List (Int×yY×Unit)) (aB:Int) (ao:Int) (ak:List n7) (an:List yY) (ah:List yY):St:=St.mk [(0,AV.ptr 2000000 []),(1,AV.val e8 v1),(28,AV.at_ 1000028 []),(29,AV.val e8 vQ),(30,AV.val e8 v30)] [(1000028,g9.own (Ty.d0 true r7) eC),(2000000,g9.var s6 ((aB,ao,()),ak,an,ah,()))]
theorem XR (v1:Int) (vQ:Int) (v30:Int) (eC:List (Int×yY×Unit)) (aB:Int) (ao:Int) (ak:List n7) (an:List yY) (ah:List yY):exec AE 1000 (.code (f9 (d8 Tryz.prog 26) 6).1::.inLoop (f9 (d8 Tryz.prog 26) 6).1::(f9 (d8 Tryz.prog 26) 6).2) (IK v1 vQ v30 eC aB ao ak an ah) =
  cond (decide (v30<vQ)) (.f7 ((0:Int)<=v30/\v30<(↑(List.length eC):Int)) (.f7 (True) (.f7 (True) (.f7 (r9 IntKind.i64 (v30+(1:Int))) (.ctL (f9 (d8 Tryz.prog 26) 6) (St.mk [(0,AV.ptr 2000000 []),(1,AV.val e8 v1),(28,AV.at_ 1000028 []),(29,AV.val e8 vQ),(30,AV.val e8 (v30+(1:Int)))] [(1000028,g9.own (Ty.d0 true r7) eC),(2000000,g9.var s6 (L7 ((aB,ao,()),ak,an,ah,()) (1:Int) v1 (K8 ((aB,ao,()),ak,an,ah,())) (Prod.fst (List.getD eC (Int.toNat v30) ((0:Int),[],()))) (Prod.fst (Prod.snd (List.getD eC (Int.toNat v30) ((0:Int),[],()))))))])))))) (.f7 (True) (.f7 ((0:Int)<=v1/\v1<(↑(List.length ak):Int)) (.f7 (True) (.ret (((0:Int),L7 ((aB,ao,()),ak,an,ah,()) (3:Int) v1 (K8 ((aB,ao,()),ak,an,ah,())) (Prod.fst (Prod.fst (Prod.snd (Prod.snd (Prod.snd (List.getD ak (Int.toNat v1) (false,[],((0:Int),[],()),((0:Int),[],()),((0:Int),[],()),()))))))) (Array.toList (ByteArray.data (ByteArray.mk #[]))),())))))):=by kernel_rfl
theorem YV (s:vg) (m:Int):(wk s m).1.length<=16:=by
  unfold wk;by_cases h:H6 s≠0
  . rw [if_pos h]; exact Nat.zero_le _
  . rw [if_neg h];exact Nat.le_trans Jz (xd (Decidable.not_not.1 h)).2.1
attribute [local irreducible] U7 L7 wk in
theorem b5k:Gp.Valid Tryz.prog 26:=by
  refine o7.o5 IJ rfl rfl Tryz.func26 (c:=d8 Tryz.prog 26) rfl rfl IN rfl ?_;rintro ⟨⟨⟨(v0:Int),(v1:Int),⟨⟩⟩,(al:List n7),(od:List yY),(wy:List yY),⟨⟩⟩,(p:Int),⟨⟩⟩ (hp:al.length<=6) -
  refine j6 (n:=1000) IJ IN ?_;refine i6 (Wi v0 v1 al od wy p) ?_;simp only [j7,Tree.holds,sL];have key:∀ r:f8×Int,U7 ((v0,v1,()),al,od,wy,()) p=r->(((r.2,r.1,()):Int×f8×Unit)=((U7 ((v0,v1,()),al,od,wy,()) p).2,(U7 ((v0,v1,()),al,od,wy,()) p).1,())):=by rintro r rfl; rfl
  have e1:=λ a=>(U7.eq_1 ((v0,v1,()),al,od,wy,()) p).trans (if_pos a);have e2:=λ a=>(U7.eq_1 ((v0,v1,()),al,od,wy,()) p).trans (if_neg a);refine ⟨hp,λ _=>⟨λ a=>key (_,_) (e1 a),λ a=>⟨DU a,λ _=>?_⟩⟩⟩;obtain ⟨w,hw⟩:∃ w:f8,w=((v0,v1,()),al,od,wy,()):=⟨_,rfl⟩;obtain ⟨l,hl⟩:∃ l,l=xt ((v0,v1,()),al,od,wy,()) p:=⟨_,rfl⟩;have lA:l.length<=16:=by rw [hl]; exact YV _ _
  have e3:U7 ((v0,v1,()),al,od,wy,()) p=(BQ (M4 p l w l.length) p,0):=by rw [e2 a,hl,hw]
  suffices go:Go.Ex.Reach AE Tryz.f26 ((0:Int),()) (BQ (M4 p l w l.length) p,()) (.code (f9 (d8 Tryz.prog 26) 6).1::.inLoop (f9 (d8 Tryz.prog 26) 6).1::(f9 (d8 Tryz.prog 26) 6).2) (IK p (l.length:Int) ((0:Nat):Int) l (M4 p l w 0).1.1 (M4 p l w 0).1.2.1 (M4 p l w 0).2.1 (M4 p l w 0).2.2.1 (M4 p l w 0).2.2.2.1) by
    subst hw;subst hl;rw [e3];exact go
  refine Reach.M9 IJ IN (λ i:Nat=>IK p (l.length:Int) (i:Int) l (M4 p l w i).1.1 (M4 p l w i).1.2.1 (M4 p l w i).2.1 (M4 p l w i).2.2.1 (M4 p l w i).2.2.2.1) (λ i=>i<=l.length)
    (λ i=>l.length - i) 1000 (λ _=>⟨u7 rfl,u7 rfl⟩) ?_ 0 (Nat.zero_le _)
  rintro i k1 - ih;have k1:i<=l.length:=k1;refine i6 (XR ..) ?_;have e4:((i:Nat):Int)+1=((i+1:Nat):Int):=by omega
  simp only [j7,Tree.holds,e4,sL];refine ⟨λ c=>⟨⟨by omega,by omega⟩,λ _=>⟨by omega,λ _=>?_⟩⟩,λ c=>⟨?_,λ _=>?_⟩⟩
  . exact ih (i+1) (by show i+1<=l.length; omega) (by show l.length - (i+1)<l.length - i; omega)
  . rw [(JA i).1,hw]; exact DU a
  . obtain rfl:i=l.length:=by omega
    rfl
end Go.Proofs.YtijlnmgondibnaaGreatDoor
namespace Go.Proofs.YtijlnmgondibnaaGreatDoor
set_option maxRecDepth 100000
def uR:Nat->Nat->yY
  | 0,_=>[]
  | f+1,u=>if u<10 then [UInt8.ofNat (48+u)] else uR f (u / 10)++[UInt8.ofNat (48+u % 10)]
theorem GM:∀ (f u:Nat),u<10^f->1<=f->Lib.decDigits u=uR f u
  | 0,_,_,h=>absurd h (by decide)
  | f+1,u,h,_=>by
    rw [Lib.decDigits,uR];by_cases c:u<10
    . rw [dif_pos c,if_pos c]
    . rw [dif_neg c,if_neg c];have hf:1<=f:=by
        rcases f with _|f
        . simp at h; omega
        . omega
      rw [GM f (u / 10) (by rw [Nat.pow_succ] at h; exact Nat.div_lt_of_lt_mul (by omega)) hf]
def C5 (n:Int):yY:=if n<0 then 45::uR 20 n.natAbs else uR 20 n.toNat
theorem UE {n:Int} (h0:-9223372036854775808<=n) (h1:n<=9223372036854775807):Lib.itoa n=C5 n:=by
  have h9:(10:Nat)^20=100000000000000000000:=by decide
  unfold Lib.itoa C5;by_cases c:n<0
  . rw [if_pos c,if_pos c,GM 20 n.natAbs (by omega) (by decide)]
  . rw [if_neg c,if_neg c,GM 20 n.toNat (by omega) (by decide)]
theorem Jg {d:Nat} (h:d<10):(UInt8.ofNat (48+d)).toNat=48+d:=by
  rw [UInt8.toNat_ofNat']; omega
theorem Iv:∀ (f u:Nat),∀ b∈uR f u,48<=b.toNat/\b.toNat<=57
  | 0,_,b,h=>by cases h
  | f+1,u,b,h=>by
    rw [uR] at h;split at h
    . rename_i c;rw [List.mem_singleton.1 h,Jg c]; omega
    . rcases List.mem_append.1 h with h|h
      . exact Iv f _ b h
      . rw [List.mem_singleton.1 h,Jg (Nat.mod_lt _ (by decide))];have:=Nat.mod_lt u (show 0<10 by decide); omega
theorem Ur {f u:Nat}:uR (f+1) u≠[]:=by
  rw [uR]; split
  . exact List.cons_ne_nil _ _
  . simp
theorem Dp:∀ (f u k:Nat),u<10^k->1<=k->(uR f u).length<=k
  | 0,_,_,_,_=>Nat.zero_le _
  | f+1,u,k,h,hk=>by
    rw [uR];by_cases c:u<10
    . rw [if_pos c]; exact hk
    . rw [if_neg c];rcases k with _|_|k
      . omega
      . simp at h; omega
      . have:=Dp f (u / 10) (k+1) (by rw [Nat.pow_succ] at h; exact Nat.div_lt_of_lt_mul (by omega)) (by omega);rw [List.length_append]; simp only [List.length_singleton]; omega
theorem Kf:∀ (l:yY) (acc:Nat) (b:UInt8) (a d:Nat),Lib.decFrom acc l=some a->Lib.digitVal b=some d->Lib.decFrom acc (l++[b])=some (a*10+d)
  | [],acc,b,a,d,h,hd=>by
    simp only [Lib.decFrom,Option.some.injEq] at h;subst h;simp [Lib.decFrom,hd]
  | x::l,acc,b,a,d,h,hd=>by
    rw [List.cons_append];rw [Lib.decFrom] at h ⊢;cases e:Lib.digitVal x with
    | none=>rw [e] at h; cases h
    | some y=>rw [e] at h; exact Kf l _ b a d h hd
theorem Sb {d:Nat} (h:d<10):Lib.digitVal (UInt8.ofNat (48+d))=some d:=by
  unfold Lib.digitVal;rw [Jg h,if_pos (by omega)];congr 1; omega
theorem PQ:∀ (f u:Nat),u<10^f->1<=f->Lib.decFrom 0 (uR f u)=some u
  | 0,_,_,h=>absurd h (by decide)
  | f+1,u,h,_=>by
    rw [uR];by_cases c:u<10
    . rw [if_pos c];have:=Kf [] 0 _ 0 u rfl (Sb c);simpa using this
    . rw [if_neg c];have hf:1<=f:=by
        rcases f with _|f
        . simp at h; omega
        . omega
      have h1:=PQ f (u / 10) (by rw [Nat.pow_succ] at h; exact Nat.div_lt_of_lt_mul (by omega)) hf;rw [Kf _ 0 _ _ _ h1 (Sb (Nat.mod_lt _ (by decide)))];congr 1; omega
theorem a87 {n:Nat}:C5 (n:Int)=uR 20 n:=by
  unfold C5; rw [if_neg (by omega)]; rfl
theorem Dz {n:Nat} (h:n<10^20):Lib.atoi (C5 (n:Int))=some (n:Int):=by
  rw [a87];have h1:=PQ 20 n h (by decide);have h2:=Iv 20 n;have h3:uR 20 n≠[]:=Ur;generalize uR 20 n=l at *
  cases l with
  | nil=>exact absurd rfl h3
  | cons b r =>
    have hb:=h2 b List.mem_cons_self;have b1:(b == 45)=false:=by
      rw [beq_eq_false_iff_ne]; rintro rfl; exact absurd hb.1 (by decide)
    have b2:(b == 43)=false:=by
      rw [beq_eq_false_iff_ne]; rintro rfl; exact absurd hb.1 (by decide)
    simp [Lib.atoi,b1,b2,Lib.decNat,h1]
theorem MQ {n:Nat}:(58:UInt8)∉C5 (n:Int):=by
  rw [a87];intro h;have:=Iv 20 n _ h;exact absurd this.2 (by decide)
theorem NT {n:Nat} (k:Nat) (h:n<10^k) (hk:1<=k):(C5 (n:Int)).length<=k:=by
  rw [a87]; exact Dp 20 n k h hk
theorem BF {n:Int} (h0:-9223372036854775808<=n) (h1:n<=9223372036854775807):(C5 n).length<=20:=by
  have h9:(10:Nat)^19=10000000000000000000:=by decide
  unfold C5
  split
  . rw [List.length_cons];have:=Dp 20 n.natAbs 19 (by omega) (by decide);omega
  . have:=Dp 20 n.toNat 19 (by omega) (by decide);omega
def w9:yY->yY×yY×Bool
  | []=>([],[],false)
  | b::l=>if b=58 then ([],l,true) else if (w9 l).2.2=true then (b::(w9 l).1,(w9 l).2.1,true) else (b::l,[],false)
theorem LQ:∀ s:yY,Lib.cut s [58]=w9 s
  | []=>by decide
  | b::l=>by
    have ih:=LQ l;have hg:=Lib.index_ge l [58];by_cases e:b=58
    . subst e;rw [w9,if_pos rfl];simp [Lib.cut,Lib.index,List.isPrefixOf]
    . have hp:List.isPrefixOf [58] (b::l)=false:=by simp [List.isPrefixOf,Ne.symm e]
      have e1:Lib.index (b::l) [58]=if Lib.index l [58] == -1 then -1 else Lib.index l [58]+1:=by rw [Lib.index,hp]; simp
      rw [w9,if_neg e,<- ih];unfold Lib.cut;rw [e1];by_cases c:Lib.index l [58]=-1
      . rw [c]; simp
      . have c0:0<=Lib.index l [58]:=by omega
        obtain ⟨k,hk⟩:∃ k:Nat,Lib.index l [58]=k:=⟨_,(Int.toNat_of_nonneg c0).symm⟩;rw [hk];have c1:((k:Int) == -1)=false:=by rw [beq_eq_false_iff_ne]; omega
        rw [c1];have c2:(0:Int)<=k:=by omega
        have c3:(0:Int)<=(k:Int)+1:=by omega
        have c4:((k:Int)+1).toNat=k+1:=by omega
        have c5:k+1+1=k+1+1:=rfl;simp [c2,c3,c4]
theorem AR (s:yY):(w9 s).1.length<=s.length/\(w9 s).2.1.length<=s.length:=by
  induction s with
  | nil=>exact ⟨Nat.le_refl _,Nat.le_refl _⟩
  | cons b l ih =>
    rw [w9]
    split
    . exact ⟨Nat.zero_le _,by simp⟩
    . split
      . simp only [List.length_cons]; omega
      . simp
theorem Ht:∀ {a b:yY},(58:UInt8)∉a->w9 (a++58::b)=(a,b,true)
  | [],b,_=>by rw [List.nil_append,w9,if_pos rfl]
  | x::a,b,h=>by
    have hx:x≠58:=λ e=>h (by rw [e]; exact List.mem_cons_self);have ih:=Ht (a:=a) (b:=b) (λ e=>h (List.mem_cons_of_mem _ e));rw [List.cons_append,w9,if_neg hx,ih,if_pos rfl]
def I4 (p k:Int) (t:yY):yY:=C5 p++[58]++C5 k++[58]++t
theorem Ds (p k:Nat) (t:yY):w9 (I4 p k t)=(C5 p,C5 k++[58]++t,true):=by
  unfold I4;rw [show C5 (p:Int)++[58]++C5 (k:Int)++[58]++t=C5 (p:Int)++58::(C5 (k:Int)++[58]++t) by simp];exact Ht MQ
theorem IT (k:Nat) (t:yY):w9 (C5 k++[58]++t)=(C5 k,t,true):=by
  rw [show C5 (k:Int)++[58]++t=C5 (k:Int)++58::t by simp];exact Ht MQ
end Go.Proofs.YtijlnmgondibnaaGreatDoor
namespace Go.Proofs.YtijlnmgondibnaaGreatDoor
open Go.Ex
set_option maxRecDepth 100000
def ub (n:Int):UInt8:=UInt8.ofNat (n % 256).toNat
def tb (n:Int):yY:=[ub n,ub (n / 256),ub (n / 65536)]
theorem Ey (x:UInt8):ub (x.toNat:Int)=x:=by
  have:=x.toNat_lt;apply UInt8.toNat_inj.1;rw [ub,De]; omega
theorem Cp (n:Int):((ub n).toNat:Int)=n % 256:=by rw [ub,De]; omega
theorem xD (x y z:UInt8):tb ((x.toNat:Int)+(y.toNat:Int)*256+(z.toNat:Int)*65536)=[x,y,z]:=by
  have h1:=x.toNat_lt;have h2:=y.toNat_lt;have h3:=z.toNat_lt;rw [tb,List.cons.injEq,List.cons.injEq,List.cons.injEq];refine ⟨?_,?_,?_,rfl⟩<;>(apply UInt8.toNat_inj.1; rw [ub,De]; omega)
theorem Ro (l:List Int):wv (l.flatMap S8)=l.flatMap tb:=by
  induction l with
  | nil=>rfl
  | cons x l ih=>rw [List.flatMap_cons,Dr,ih,List.flatMap_cons]; rfl
theorem HA (n:y8):vv n=[ub n.1,ub n.2.1,ub n.2.2.1]++(X9 n).flatMap tb++n.2.2.2.2.2.2.1:=by
  rw [vv,ya,Dr,Dr,Ro,IS]; rfl
theorem F9 {k:Nat} {s:yY} (h:k+1<=s.length):∃ b t,s=b::t/\k<=t.length:=by
  match s,h with
  | b::t,h=>exact ⟨b,t,rfl,by simpa using h⟩
theorem Yu {s:yY} (h:27<=s.length):vv (parse s)=s:=by
  obtain ⟨b0,t0,rfl,h0⟩:=F9 (k:=26) h;obtain ⟨b1,t1,rfl,h1⟩:=F9 (k:=25) h0;obtain ⟨b2,t2,rfl,h2⟩:=F9 (k:=24) h1;obtain ⟨b3,t3,rfl,h3⟩:=F9 (k:=23) h2;obtain ⟨b4,t4,rfl,h4⟩:=F9 (k:=22) h3;obtain ⟨b5,t5,rfl,h5⟩:=F9 (k:=21) h4;obtain ⟨b6,t6,rfl,h6⟩:=F9 (k:=20) h5;obtain ⟨b7,t7,rfl,h7⟩:=F9 (k:=19) h6;obtain ⟨b8,t8,rfl,h8⟩:=F9 (k:=18) h7;obtain ⟨b9,t9,rfl,h9⟩:=F9 (k:=17) h8;obtain ⟨zX,t10,rfl,iZ⟩:=F9 (k:=16) h9;obtain ⟨zW,t11,rfl,jE⟩:=F9 (k:=15) iZ;obtain ⟨zV,t12,rfl,ug⟩:=F9 (k:=14) jE;obtain ⟨wo,t13,rfl,uf⟩:=F9 (k:=13) ug;obtain ⟨zU,t14,rfl,ue⟩:=F9 (k:=12) uf;obtain ⟨zT,t15,rfl,ud⟩:=F9 (k:=11) ue;obtain ⟨xS,t16,rfl,nZ⟩:=F9 (k:=10) ud;obtain ⟨b17,t17,rfl,uc⟩:=F9 (k:=9) nZ;obtain ⟨b18,t18,rfl,ua⟩:=F9 (k:=8) uc;obtain ⟨b19,t19,rfl,tZ⟩:=F9 (k:=7) ua;obtain ⟨b20,t20,rfl,tY⟩:=F9 (k:=6) tZ;obtain ⟨b21,t21,rfl,tX⟩:=F9 (k:=5) tY;obtain ⟨b22,t22,rfl,tW⟩:=F9 (k:=4) tX;obtain ⟨b23,t23,rfl,tV⟩:=F9 (k:=3) tW;obtain ⟨b24,t24,rfl,tU⟩:=F9 (k:=2) tV;obtain ⟨b25,t25,rfl,tT⟩:=F9 (k:=1) tU;obtain ⟨b26,t,rfl,uz⟩:=F9 (k:=0) tT;rw [HA];show [ub (b0.toNat:Int),ub (b1.toNat:Int),ub (b2.toNat:Int)]++(tb ((b3.toNat:Int)+(b4.toNat:Int)*256+(b5.toNat:Int)*65536)++(tb ((b6.toNat:Int)+(b7.toNat:Int)*256+(b8.toNat:Int)*65536)++(tb ((b9.toNat:Int)+(zX.toNat:Int)*256+(zW.toNat:Int)*65536)++(tb ((zV.toNat:Int)+(wo.toNat:Int)*256+(zU.toNat:Int)*65536)++(tb ((zT.toNat:Int)+(xS.toNat:Int)*256+(b17.toNat:Int)*65536)++(tb ((b18.toNat:Int)+(b19.toNat:Int)*256+(b20.toNat:Int)*65536)++(tb ((b21.toNat:Int)+(b22.toNat:Int)*256+(b23.toNat:Int)*65536)++(tb ((b24.toNat:Int)+(b25.toNat:Int)*256+(b26.toNat:Int)*65536)++[]))))))))++t=_;rw [xD,xD,xD,xD,xD,xD,xD,xD,Ey,Ey,Ey];rfl
theorem Za:∀ {n:y8},Gv n->n.2.2.2.2.2.1.length=6->parse (vv n)=n
  | (a,b,c,d,e,[v0,v1,v2,v3,v4,v5],t,()),h,_=>by
    have num:∀ x:Int,0<=x/\x<=16777215->((ub x).toNat:Int)+((ub (x / 256)).toNat:Int)*256+((ub (x / 65536)).toNat:Int)*65536=x:=by
      intro x hx; rw [Cp,Cp,Cp]; omega
    have one:∀ x:Int,0<=x/\x<=255->((ub x).toNat:Int)=x:=by intro x hx; rw [Cp]; omega
    rw [HA];show (((ub a).toNat:Int),((ub b).toNat:Int),((ub c).toNat:Int),((ub d).toNat:Int)+((ub (d / 256)).toNat:Int)*256+((ub (d / 65536)).toNat:Int)*65536,((ub e).toNat:Int)+((ub (e / 256)).toNat:Int)*256+((ub (e / 65536)).toNat:Int)*65536,
      [((ub v0).toNat:Int)+((ub (v0 / 256)).toNat:Int)*256+((ub (v0 / 65536)).toNat:Int)*65536,((ub v1).toNat:Int)+((ub (v1 / 256)).toNat:Int)*256+((ub (v1 / 65536)).toNat:Int)*65536,((ub v2).toNat:Int)+((ub (v2 / 256)).toNat:Int)*256+((ub (v2 / 65536)).toNat:Int)*65536,
       ((ub v3).toNat:Int)+((ub (v3 / 256)).toNat:Int)*256+((ub (v3 / 65536)).toNat:Int)*65536,((ub v4).toNat:Int)+((ub (v4 / 256)).toNat:Int)*256+((ub (v4 / 65536)).toNat:Int)*65536,((ub v5).toNat:Int)+((ub (v5 / 256)).toNat:Int)*256+((ub (v5 / 65536)).toNat:Int)*65536],t,())=_
    have hv:∀ x∈[v0,v1,v2,v3,v4,v5],0<=x/\x<=16777215:=h.at_;have hf:0<=b/\b<=5:=h.from_;have ht:0<=c/\c<=5:=h.to;rw [one a h.kind,one b (by omega),one c (by omega),num d h.view,num e h.seq,num v0 (hv _ (by simp)),num v1 (hv _ (by simp)),num v2 (hv _ (by simp)),num v3 (hv _ (by simp)),num v4 (hv _ (by simp)),num v5 (hv _ (by simp))]
theorem Vp {n:y8} (h:n.2.2.2.2.2.1.length=6):(vv n).length=27+n.2.2.2.2.2.2.1.length:=by
  have:∀ l:List Int,(l.flatMap tb).length=3*l.length:=λ l=>by rw [<- Ro,wv,List.length_map,Pu]
  rw [HA,List.length_append,List.length_append,this];show 3+3*(n.2.2.2.2.2.1.length+1+1)+_=_;omega
theorem VO {n:y8} (aM:Gv n) (h:n.2.2.2.2.2.1.length=6):31<=(Z6 n).length/\(Z6 n).length<=231:=by
  rw [Z6,List.length_append,Vp h];have:=aM.text;show _/\_+4<=231;exact ⟨by show 31<=_+4; omega,by omega⟩
theorem Ye {n:y8} (hc:H4 n=0) (h:n.2.2.2.2.2.1.length=6):w6 (Z6 n)=(n,0,()):=by
  have aM:=Jf hc;obtain ⟨h1,h2⟩:=VO aM h;have e4:(Z6 n).length - 4=(vv n).length:=by rw [Z6,List.length_append]; show (vv n).length+4 - 4=_; omega
  have e5:(Z6 n).take ((Z6 n).length - 4)=vv n:=by rw [e4,Z6,List.take_left']; rfl
  have e6:(Z6 n).drop ((Z6 n).length - 4)=le4 (uU (vv n)):=by rw [e4,Z6,List.drop_left']; rfl
  rw [w6,if_neg (by omega),if_neg (by omega),e5,e6,if_neg (λ c=>c rfl),Za aM h,if_neg (λ c=>c hc)]
theorem Uf {s:yY} (h:(w6 s).2.1=0):H4 (w6 s).1=0/\Z6 (w6 s).1=s:=by
  unfold w6 at h ⊢;split at h
  . cases h
  split at h
  . cases h
  split at h
  . cases h
  split at h
  . rename_i c; exact absurd h c
  . rename_i c1 c2 c3 c4;rw [if_neg c1,if_neg c2,if_neg c3,if_neg c4];have hl:27<=(s.take (s.length - 4)).length:=by rw [List.length_take]; omega
    refine ⟨Decidable.not_not.1 c4,?_⟩;show vv (parse (s.take (s.length - 4)))++le4 (uU (vv (parse (s.take (s.length - 4)))))=s;rw [Yu hl,Decidable.not_not.1 c3,List.take_append_drop]
theorem VN {n:y8} (h:H4 n=0):S5 n=(Z6 n,0,()):=by rw [S5,if_neg (λ c=>c h)]
theorem WH {n:y8} (h:H4 n≠0):S5 n=([],H4 n,()):=by rw [S5,if_pos h]
def N4 (w:f8) (p:Int):n7:=w.2.1.getD p.toNat j5
def xI (w:f8) (p:Int) (x:n7):f8:=(w.1,w.2.1.set p.toNat x,w.2.2)
def a70 (w:f8) (x:yY):f8:=(w.1,w.2.1,w.2.2.1++[x],w.2.2.2)
def G2 (x:yY) (w:f8):Nat->f8
  | 0=>w
  | p+1=>if s5 (G2 x w p) p=true then L7 (G2 x w p) 2 (K8 (G2 x w p)) p (((G2 x w p).2.2.1.length:Int) - 1) x else G2 x w p
def I6 (f first:Int) (l:List yY) (w:f8):Nat->f8
  | 0=>w
  | i+1=>G2 (I4 f (first+i) (l.getD i [])) (a70 (I6 f first l w i) (I4 f (first+i) (l.getD i []))) (I6 f first l w i).2.1.length
def X8 (w:f8) (n:y8):ToD×List yY×Int×Unit:=D0 (N4 w n.2.1).2.2.2.2.1 (n.2.2.2.2.1,n.2.2.2.2.2.2.1,())
def xB (x:n7) (r:ToD):n7:=(x.1,x.2.1,x.2.2.1,x.2.2.2.1,r,())
def W7 (w:f8) (n:y8):f8 :=
  if (X8 w n).2.2.1≠0 then w else
  I6 n.2.1 (N4 w n.2.1).2.2.2.2.1.1 (X8 w n).2.1 (xI w n.2.1 (xB (N4 w n.2.1) (X8 w n).1)) (X8 w n).2.1.length
def who (t:yY):Int:=(Lib.atoi (w9 t).1).getD 0
def nth (t:yY):Int:=(Lib.atoi (w9 (w9 t).2.1).1).getD 0
def wu (t:yY):yY:=(w9 (w9 t).2.1).2.1
def vx (q:Int) (x:n7) (t:yY):n7 :=
  if who t=q/\(Q4 x.2.2.1 (nth t+1)).2.1=0 then (x.1,x.2.1++[(who t,wu t,())],(Q4 x.2.2.1 (nth t+1)).1,x.2.2.2) else (x.1,x.2.1++[(who t,wu t,())],x.2.2)
def J6 (q:Int) (x:n7) (l:List yY):Nat->n7
  | 0=>x
  | i+1=>vx q (J6 q x l i) (l.getD i [])
def P9 (w:f8) (n:y8):ToD×List yY×Int×Unit:=D0 (N4 w n.2.2.1).2.2.2.1 (n.2.2.2.2.1,n.2.2.2.2.2.2.1,())
def Ai (x:n7) (r:ToD):n7:=(x.1,x.2.1,x.2.2.1,r,x.2.2.2.2)
def uX (w:f8) (n:y8):f8 :=
  if (P9 w n).2.2.1≠0 then w else
  xI w n.2.2.1 (J6 n.2.2.1 (Ai (N4 w n.2.2.1) (P9 w n).1) (P9 w n).2.1 (P9 w n).2.1.length)
def F2 (w:f8) (n:y8):Nat->f8
  | 0=>w
  | j+1=>if n.2.2.2.2.1+j<(F2 w n j).2.2.1.length then L7 (F2 w n j) 2 (K8 (F2 w n j)) n.2.1 (n.2.2.2.2.1+j) ((F2 w n j).2.2.1.getD (n.2.2.2.2.1+j).toNat []) else F2 w n j
def F6 (w:f8) (n:y8):f8 :=
  if known w n.2.1≠0 then w else if n.1=1 then W7 w n else if n.1=3 then F2 w n 4 else if n.1=2 then uX w n else w
def ye (w:f8) (k:Int):f8:=(w.1,w.2.1,w.2.2.1,w.2.2.2.1.take k.toNat++w.2.2.2.1.drop (k+1).toNat,())
def Ci (w:f8) (k:Nat):f8:=(w.1,w.2.1,w.2.2.1,w.2.2.2.1++[w.2.2.2.1.getD k []],())
def wC (w:f8) (bA:Int) (s:yY):f8 :=
  if bA=1/\(w6 s).2.1=0/\(w6 s).1.2.2.2.1=w.1.1/\s5 w (w6 s).1.2.2.1=true then F6 w (w6 s).1 else w
def F5 (w:f8) (k bA:Int):f8×Int :=
  if I2 bA 1 3=false then (w,1) else if I2 k 0 ((w.2.2.2.1.length:Int) - 1)=false then (w,6) else if bA=3/\(w.2.2.2.1.length:Int)=60 then (w,8)
  else if bA=3 then (Ci w k.toNat,0) else (wC (ye w k) bA (w.2.2.2.1.getD k.toNat []),0)
theorem NV:∀ {l:List s7} {n:Int},∀ t∈(D6 l n).2.2,∃ q∈l,t=q.2.1
  | [],n,t,h=>by cases h
  | p::l,n,t,h=>by
    rw [D6] at h;split at h
    . rcases List.mem_cons.1 h with rfl|h
      . exact ⟨p,List.mem_cons_self,rfl⟩
      . obtain ⟨q,h1,h2⟩:=NV t h;exact ⟨q,List.mem_cons_of_mem _ h1,h2⟩
    . cases h
theorem Rc {s:ToD} {p:s7} (h:(D0 s p).2.2.1=0):zM s.1 s.2.1/\(0<=p.1/\p.1<=16777214)/\D8 p.2.1=false /\
    ((D0 s p=(s,[],0,())/\(p.1<s.1\/s.1+16<=p.1\/Y0 p.1 s.2.1=true))\/((s.1<p.1/\p.1<s.1+16)/\Y0 p.1 s.2.1=false/\D0 s p=((s.1,wt p s.2.1,()),[],0,())) \/
      (p.1=s.1/\D0 s p=(((D6 s.2.1 (s.1+1)).1,(D6 s.2.1 (s.1+1)).2.1,()),p.2.1::(D6 s.2.1 (s.1+1)).2.2,0,()))):=by
  obtain ⟨r,l,⟨⟩⟩:=s;by_cases c1:toE (r,l,())≠0
  . rw [D0,if_pos c1] at h; exact absurd h c1
  have aM:=Hv.1 (Decidable.not_not.1 c1);by_cases c2:inF p.1 0 16777214=false
  . rw [D0,if_neg c1,if_pos c2] at h; cases h
  have h1:=wU.1 (Bool.not_eq_false _▸c2);by_cases c3:D8 p.2.1=true
  . rw [D0,if_neg c1,if_neg c2,if_pos c3] at h; cases h
  have h2:D8 p.2.1=false:=by simpa using c3
  refine ⟨aM,h1,h2,?_⟩;rw [WA aM h1 h2];by_cases c4:p.1<r\/r+16<=p.1\/Y0 p.1 l=true
  . rw [if_pos c4]; exact .inl ⟨rfl,c4⟩
  rw [if_neg c4];by_cases c5:r<p.1
  . rw [if_pos c5];refine .inr (.inl ⟨⟨c5,?_⟩,?_,rfl⟩)
    . exact Int.not_le.1 (λ e=>c4 (.inr (.inl e)))
    . cases hk:Y0 p.1 l with
      | false=>rfl
      | true=>exact absurd (.inr (.inr hk)) c4
  . rw [if_neg c5];refine .inr (.inr ⟨?_,rfl⟩);have:¬ p.1<r:=λ e=>c4 (.inl e);show p.1=r;omega
theorem yC {s:ToD} {p:s7} (h:(D0 s p).2.2.1=0) :
    (∀ t∈(D0 s p).2.1,(t=p.2.1\/∃ q∈s.2.1,t=q.2.1)/\D8 t=false)/\(∀ q∈(D0 s p).1.2.1,q=p\/q∈s.2.1)/\(D0 s p).2.1.length<=16/\(0<=s.1/\s.1<=16777215) /\
      (D0 s p).1.1=s.1+(D0 s p).2.1.length/\(D0 s p).1.2.1.length+(D0 s p).2.1.length<=s.2.1.length+1:=by
  obtain ⟨aM,h1,h2,hc⟩:=Rc h;have lq:=aM.rg;have hb:=aM.b;rcases hc with ⟨e,-⟩|⟨-,-,e⟩|⟨hp,e⟩
  . rw [e];exact ⟨λ t ht=>(by cases ht),λ q hq=>.inr hq,Nat.zero_le _,lq,by show s.1=s.1+((0:Nat):Int); omega,by show s.2.1.length+0<=_; omega⟩
  . rw [e];refine ⟨λ t ht=>(by cases ht),λ q hq=>(Wv.1 hq),Nat.zero_le _,lq,by show s.1=s.1+((0:Nat):Int); omega,?_⟩;show (wt p s.2.1).length+0<=_;rw [Wu]; omega
  . rw [e];obtain ⟨a1,a2,a3,a4⟩:=MV (l:=s.2.1) (n:=s.1+1) (by rw [show s.1+1 - 1=s.1 by omega]; exact aM.up);refine ⟨λ t ht=>?_,λ q hq=>.inr (a4 q hq),?_,lq,?_,?_⟩
    . rcases List.mem_cons.1 ht with rfl|ht
      . exact ⟨.inl rfl,h2⟩
      . obtain ⟨q,g1,g2⟩:=NV t ht;exact ⟨.inr ⟨q,g1,g2⟩,by rw [g2]; exact (hb q g1).2⟩
    . show (p.2.1::(D6 s.2.1 (s.1+1)).2.2).length<=16;rw [List.length_cons];cases hl:s.2.1 with
      | nil=>simp [D6]
      | cons x m =>
        have:=Oc aM.up (λ x hx=>(hb x hx).1) (by rw [hl]; simp);rw [<- hl]; omega
    . show (D6 s.2.1 (s.1+1)).1=s.1+((p.2.1::(D6 s.2.1 (s.1+1)).2.2).length:Int);rw [List.length_cons,a2]; omega
    . show (D6 s.2.1 (s.1+1)).2.1.length+(p.2.1::(D6 s.2.1 (s.1+1)).2.2).length<=_;rw [List.length_cons]; omega
theorem IY {t:yY} (h:D8 t=false):t.length<=200:=by
  simp only [D8,decide_eq_false_iff_not] at h; omega
def okT (t:yY):Prop:=∃ p k:Nat,∃ s,p<=5/\k<=16777300/\t=I4 p k s
theorem Wg {p k:Nat} {s:yY} (h:p<=5):who (I4 p k s)=p:=by
  unfold who;rw [Ds];show (Lib.atoi (C5 p)).getD 0=p;rw [Dz (by omega)]; rfl
theorem OE {p k:Nat} {s:yY} (h:k<=16777300):nth (I4 p k s)=k:=by
  unfold nth;rw [Ds];show (Lib.atoi (w9 (C5 k++[58]++s)).1).getD 0=k;rw [IT];show (Lib.atoi (C5 k)).getD 0=k;rw [Dz (by omega)]; rfl
theorem XN {p k:Nat} {s:yY}:wu (I4 p k s)=s:=by
  unfold wu;rw [Ds];show (w9 (C5 k++[58]++s)).2.1=s;rw [IT]
theorem UH {t:yY} (h:okT t):((w9 t).1.length<=18/\(Lib.atoi (w9 t).1).isSome=true)/\((w9 (w9 t).2.1).1.length<=18/\(Lib.atoi (w9 (w9 t).2.1).1).isSome=true)/\0<=nth t/\nth t<=16777300:=by
  obtain ⟨p,k,s,h1,h2,rfl⟩:=h;rw [OE h2];rw [Ds];show ((C5 p).length<=18/\(Lib.atoi (C5 p)).isSome=true)/\((w9 (C5 k++[58]++s)).1.length<=18/\(Lib.atoi (w9 (C5 k++[58]++s)).1).isSome=true)/\_;rw [IT,Dz (by omega)];refine ⟨⟨NT 18 (by omega) (by decide),rfl⟩,⟨NT 18 (by omega) (by decide),?_⟩,by omega,by omega⟩;show (Lib.atoi (C5 k)).isSome=true;rw [Dz (by omega)]; rfl
def I0 (w:f8):Nat->List C9
  | 0=>[]
  | k+1=>if s5 w k=true/\(I0 w k).length<(w.2.1.getD k j5).2.1.length then (w.2.1.getD k j5).2.1 else I0 w k
theorem YT {w:f8}:∀ k,(I0 w k).length<=(I0 w (k+1)).length:=λ k=>by
  rw [I0]; split
  . rename_i h; exact Nat.le_of_lt h.2
  . exact Nat.le_refl _
theorem Di {w:f8} {i:Nat} (ha:s5 w i=true):∀ {k:Nat},i<k->(w.2.1.getD i j5).2.1.length<=(I0 w k).length
  | 0,h=>by omega
  | k+1,h=>by
    by_cases e:i=k
    . subst e;rw [I0]
      split
      . exact Nat.le_refl _
      . rename_i h1;exact Nat.le_of_not_lt (λ h2=>h1 ⟨ha,h2⟩)
    . exact Nat.le_trans (Di ha (by omega)) (YT k)
theorem OA {w:f8} {b:Nat} (h:∀ i,(w.2.1.getD i j5).2.1.length<=b):∀ k,(I0 w k).length<=b
  | 0=>Nat.zero_le _
  | k+1=>by
    rw [I0]; split
    . exact h k
    . exact OA h k
def countP (p:Int):List C9->Nat
  | []=>0
  | s::l=>(if s.1=p then 1 else 0)+countP p l
theorem Qb {p:Int}:∀ {l m:List C9},countP p (l++m)=countP p l+countP p m
  | [],m=>by simp [countP]
  | s::l,m=>by rw [List.cons_append,countP,countP,Qb]; omega
theorem countP_le {p:Int}:∀ {l:List C9},countP p l<=l.length
  | []=>Nat.le_refl _
  | s::l=>by
    have:=countP_le (p:=p) (l:=l);rw [countP,List.length_cons]; split<;>omega
theorem Rx {p:Int} {l:List C9} {i:Nat} (h:i<l.length):countP p (l.take (i+1))=countP p (l.take i)+if (l.getD i (0,[],())).1=p then 1 else 0:=by
  rw [Jm h (0,[],()),Qb];simp [countP]
def uH (w:f8) (L:List C9) (i:Nat) (x:n7):n7 :=
  if s5 w i=true then (x.1,L,(0,x.2.2.1.2.1.drop (min (countP i (L.drop x.2.1.length)) x.2.2.1.2.1.length),()),(0,[],()),(0,[],()),()) else (x.1,x.2.1,x.2.2.1,x.2.2.2.1,(0,[],()),())
def H3 (w:f8):f8:=((T9 w).1,w.2.1.mapIdx (uH w (I0 w w.2.1.length)),[],w.2.2.2.1,())
def R4 (w:f8):f8×Int:=if (T9 w).2.1≠0 then (w,(T9 w).2.1) else (H3 w,0)
theorem b5x {v:vr} {al al':List n7} {r r':List yY×List yY×Unit} {p:Int} (hl:al'.length=al.length) (hf:(al'.getD p.toNat j5).1=(al.getD p.toNat j5).1):s5 (v,al',r') p=s5 (v,al,r) p:=by
  unfold s5;simp only;rw [hl,hf]
abbrev toM (x:n7):K4:=(x.1,(1,x.2.1,[]),x.2.2)
abbrev rdP (x:K4):n7:=(x.1,x.2.1.2.1,x.2.2)
abbrev dM:K4:=(false,(1,[],[]),(0,[],()),(0,[],()),(0,[],()),())
theorem NY {al:List K4} {i:Nat}:(al.map rdP).getD i j5=rdP (al.getD i dM):=by
  rw [List.getD_eq_getElem?_getD,List.getElem?_map,List.getD_eq_getElem?_getD];cases al[i]?<;>rfl
theorem a80 {al:List n7} {i:Nat}:(al.map toM).getD i dM=toM (al.getD i j5):=by
  rw [List.getD_eq_getElem?_getD,List.getElem?_map,List.getD_eq_getElem?_getD];cases al[i]?<;>rfl
theorem Ws {α:Type} {d:α} {l m:List α} (h:l.length=m.length) (h2:∀ i,i<l.length->l.getD i d=m.getD i d):l=m:=by
  apply List.ext_getElem h;intro i h3 h4;have:=h2 i h3;rw [List.getD_eq_getElem?_getD,List.getD_eq_getElem?_getD,List.getElem?_eq_getElem h3,List.getElem?_eq_getElem h4] at this;exact this
theorem W3 {α:Type} {d:α} {l:List α} {i j:Nat} {x:α}:(l.set i x).getD j d=if i=j/\i<l.length then x else l.getD j d:=by
  rw [List.getD_eq_getElem?_getD,List.getElem?_set,List.getD_eq_getElem?_getD];by_cases h:i=j
  . subst h;by_cases h2:i<l.length
    . simp [h2]
    . simp [h2]
  . simp [h]
structure vD (w:f8) (al:List K4):Prop where
  len:al.length=w.2.1.length
  rd:∀ i:Nat,rdP (al.getD i dM)=w.2.1.getD i j5
  same:∀ i:Nat,s5 w i=false->al.getD i dM=toM (w.2.1.getD i j5)
theorem vD.start (w:f8):vD w (w.2.1.map toM):=⟨List.length_map ..,λ i=>by rw [a80],λ i _=>by rw [a80]⟩
theorem vD.uV {w:f8} {al:List K4} (h:vD w al) {k n:Nat} (ha:s5 w k=true):vD w (al.set k ((al.getD k dM).1,(n,(al.getD k dM).2.1.2.1,[]),(al.getD k dM).2.2)):=by
  refine ⟨by rw [List.length_set]; exact h.len,λ i=>?_,λ i hi=>?_⟩
  . rw [W3]
    split
    . rename_i e;rw [<- e.1,<- h.rd k]
    . exact h.rd i
  . rw [W3,if_neg]
    . exact h.same i hi
    . rintro ⟨rfl,-⟩;rw [ha] at hi; cases hi
structure vX (w:f8) (L:List C9) (k:Nat) (al:List K4):Prop where
  len:al.length=w.2.1.length
  done:∀ i:Nat,i<k->i<al.length->al.getD i dM=toM (uH w L i (w.2.1.getD i j5))
  rd:∀ i:Nat,k<=i->rdP (al.getD i dM)=w.2.1.getD i j5
  same:∀ i:Nat,k<=i->s5 w i=false->al.getD i dM=toM (w.2.1.getD i j5)
theorem vD.next {w:f8} {al:List K4} (h:vD w al) (L:List C9):vX w L 0 al:=⟨h.len,λ i hi=>by omega,λ i _=>h.rd i,λ i _=>h.same i⟩
theorem KZ {w:f8} {L:List C9} {i:Nat} {x:n7}:(uH w L i x).1=x.1:=by unfold uH; split<;>rfl
theorem vX.act {w:f8} {L:List C9} {k:Nat} {al:List K4} (h:vX w L k al) (i:Nat):((al.map rdP).getD i j5).1=(w.2.1.getD i j5).1:=by
  rw [NY];by_cases hk:k<=i
  . rw [h.rd i hk]
  . by_cases hi:i<al.length
    . rw [h.done i (by omega) hi];exact KZ
    . have h1:al.getD i dM=dM:=by rw [List.getD_eq_getElem?_getD,List.getElem?_eq_none (by omega)]; rfl
      have h2:w.2.1.getD i j5=j5:=by rw [List.getD_eq_getElem?_getD,List.getElem?_eq_none (by have:=h.len; omega)]; rfl
      rw [h1,h2]; rfl
theorem vX.step {w:f8} {L:List C9} {k:Nat} {al:List K4} (h:vX w L k al):vX w L (k+1) (al.set k (toM (uH w L k (w.2.1.getD k j5)))):=by
  refine ⟨by rw [List.length_set]; exact h.len,λ i hi hl=>?_,λ i hi=>?_,λ i hi=>?_⟩
  . rw [List.length_set] at hl;rw [W3];by_cases e:k=i
    . rw [if_pos ⟨e,by omega⟩,e]
    . rw [if_neg (λ h=>e h.1)];exact h.done i (by omega) hl
  . rw [W3,if_neg (by omega)]; exact h.rd i (by omega)
  . rw [W3,if_neg (by omega)]; exact h.same i (by omega)
theorem vX.fin {w:f8} {L:List C9} {al:List K4} (h:vX w L w.2.1.length al):al=(w.2.1.mapIdx (uH w L)).map toM:=by
  refine Ws (d:=dM) (by rw [List.length_map,List.length_mapIdx]; exact h.len) (λ i hi=>?_);rw [h.done i (by have:=h.len; omega) hi,a80];congr 1;rw [List.getD_eq_getElem?_getD (l:=List.mapIdx _ _),List.getElem?_mapIdx,List.getD_eq_getElem?_getD,List.getElem?_eq_getElem (by have:=h.len; omega)];rfl
abbrev C8:=yY
abbrev U4:=Nat×C8
def B8 (p:Nat):List U4->List C8
  | []=>[]
  | x::l=>if x.1=p then x.2::B8 p l else B8 p l
theorem xH {p:Nat}:∀ {l m:List U4},B8 p (l++m)=B8 p l++B8 p m
  | [],_=>rfl
  | x::l,m=>by
    rw [List.cons_append,B8,B8,xH]
    split<;>rfl
theorem UF {p q:Nat} {l:List C8}:B8 p (l.map λ t=>(q,t))=if q=p then l else []:=by
  induction l with
  | nil=>split<;>rfl
  | cons t l ih =>
    rw [List.map_cons,B8,ih];by_cases h:q=p
    . rw [if_pos h,if_pos h,if_pos h]
    . rw [if_neg h,if_neg h,if_neg h]
theorem yr {p:Nat} {Q:List U4} {i:Nat}:B8 p (Q.take i) <+: B8 p Q:=by
  have h:B8 p Q=B8 p (Q.take i)++B8 p (Q.drop i):=by rw [<- xH,List.take_append_drop]
  exact ⟨_,h.symm⟩
def M5 (P:List U4):List U4->List C8
  | []=>[]
  | x::l=>I4 x.1 (B8 x.1 P).length x.2::M5 (P++[x]) l
def N6 (Q:List U4):List C8:=M5 [] Q
theorem RB:∀ {l P m:List U4},M5 P (l++m)=M5 P l++M5 (P++l) m
  | [],P,m=>by simp [M5]
  | x::l,P,m=>by
    rw [List.cons_append,M5,M5,RB,List.cons_append,List.append_assoc]; rfl
theorem RC:∀ {l P:List U4} {i:Nat},(M5 P l)[i]?=l[i]?.map (λ x=>I4 x.1 (B8 x.1 (P++l.take i)).length x.2)
  | [],P,i=>rfl
  | x::l,P,0=>by simp [M5]
  | x::l,P,i+1=>by
    rw [M5,List.getElem?_cons_succ,RC,List.getElem?_cons_succ,List.take_succ_cons,List.append_assoc]; rfl
theorem RD:∀ {l P:List U4},(M5 P l).length=l.length
  | [],_=>rfl
  | x::l,P=>by rw [M5,List.length_cons,RD,List.length_cons]
theorem WR {Q:List U4}:(N6 Q).length=Q.length:=RD
theorem PN {Q:List U4} {i:Nat}:(N6 Q)[i]?=Q[i]?.map (λ x=>I4 x.1 (B8 x.1 (Q.take i)).length x.2):=by
  unfold N6; rw [RC]; rfl
theorem PM {Q m:List U4}:N6 (Q++m)=N6 Q++M5 Q m:=by
  unfold N6; rw [RB]; rfl
def vI (x:U4):C9:=(x.1,x.2,())
def ofP (p:Nat):List C9->List C8
  | []=>[]
  | x::l=>if x.1=(p:Int) then x.2.1::ofP p l else ofP p l
theorem GZ {p:Nat}:∀ {l m:List C9},ofP p (l++m)=ofP p l++ofP p m
  | [],_=>rfl
  | x::l,m=>by
    rw [List.cons_append,ofP,ofP,GZ]
    split<;>rfl
theorem Db {p:Nat}:∀ {Q:List U4},ofP p (Q.map vI)=B8 p Q
  | []=>rfl
  | x::l=>by
    rw [List.map_cons,ofP,B8,Db];by_cases h:x.1=p
    . rw [if_pos h,if_pos (by show (x.1:Int)=p; rw [h])]; rfl
    . rw [if_neg h,if_neg (by show ¬ (x.1:Int)=p; omega)]
theorem Qc {p:Nat}:∀ {l:List C9},countP p l=(ofP p l).length
  | []=>rfl
  | x::l=>by
    rw [countP,ofP,Qc];by_cases h:x.1=(p:Int)
    . rw [if_pos h,if_pos h,List.length_cons]; omega
    . rw [if_neg h,if_neg h]; omega
theorem NW {F:Nat->Option C8}:∀ {l:List s7} {n:Int},0<=n->(∀ q∈l,F q.1.toNat=some q.2.1)->∀ i,i<(D6 l n).2.2.length->F (n.toNat+i)=(D6 l n).2.2[i]?
  | [],n,_,_,i,hi=>absurd hi (by simp [D6])
  | p::l,n,h0,h,i,hi=>by
    rw [D6] at hi ⊢;by_cases e:p.1=n
    . rw [if_pos e] at hi ⊢;cases i with
      | zero=>rw [List.getElem?_cons_zero,<- e]; exact h p List.mem_cons_self
      | succ i =>
        rw [List.getElem?_cons_succ,<- NW (n:=n+1) (by omega) (λ q hq=>h q (List.mem_cons_of_mem _ hq)) i (by simpa using hi)];congr 1; omega
    . rw [if_neg e] at hi; exact absurd hi (by simp)
theorem Ph {F:Nat->Option C8} {s:ToD} {p:s7} (h:(D0 s p).2.2.1=0) (hs:∀ q∈s.2.1,F q.1.toNat=some q.2.1) (hp:F p.1.toNat=some p.2.1) :
    ∀ i,i<(D0 s p).2.1.length->F (s.1.toNat+i)=(D0 s p).2.1[i]?:=by
  obtain ⟨aM,h1,h2,hc⟩:=Rc h;intro i hi;rcases hc with ⟨e,-⟩|⟨-,-,e⟩|⟨e1,e⟩
  . rw [e] at hi; exact absurd hi (by simp)
  . rw [e] at hi; exact absurd hi (by simp)
  . rw [e] at hi ⊢;cases i with
    | zero=>rw [List.getElem?_cons_zero,<- e1]; exact hp
    | succ i =>
      have h0:=aM.rg.1;show F (s.1.toNat+(i+1))=(p.2.1::(D6 s.2.1 (s.1+1)).2.2)[i+1]?;rw [List.getElem?_cons_succ,<- NW (n:=s.1+1) (by omega) hs i (by simpa using hi)];congr 1; omega
theorem VY {α:Type} {X l:List α} {r:Nat} (h:∀ i,i<l.length->X[r+i]?=l[i]?):l=(X.drop r).take l.length:=by
  apply List.ext_getElem?;intro i;rw [List.getElem?_take]
  split
  . rename_i hi;rw [List.getElem?_drop,h i hi]
  . rename_i hi;exact List.getElem?_eq_none (by omega)
theorem zq {α:Type} {l m:List α} (h:l <+: m) {i:Nat} {x:α} (hx:l[i]?=some x):m[i]?=some x:=by
  obtain ⟨k,rfl⟩:=h;have hi:i<l.length:=by
    by_cases hi:i<l.length
    . exact hi
    . rw [List.getElem?_eq_none (by omega)] at hx; cases hx
  rw [List.getElem?_append_left hi]; exact hx
def V1 (m:Int) (p:Nat):Bool:=decide (T5 .u8 (m / (2:Int)^min p IntKind.u8.bits) 1=1)
theorem BB {w:f8} {p:Int}:s5 w p=true↔∃ k:Nat,p=k/\k<w.2.1.length/\V1 w.1.2.1 k=true/\(w.2.1.getD k j5).1=false:=by
  unfold s5;rw [Bool.and_eq_true,Bool.and_eq_true,U1,Bool.not_eq_true'];constructor
  . rintro ⟨⟨h1,h2⟩,h3⟩;exact ⟨p.toNat,by omega,by omega,h2,h3⟩
  . rintro ⟨k,rfl,h1,h2,h3⟩;exact ⟨⟨by omega,h2⟩,h3⟩
theorem yw {w:f8} {k:Nat}:s5 w (k:Int)=true↔k<w.2.1.length/\V1 w.1.2.1 k=true/\(w.2.1.getD k j5).1=false:=by
  rw [BB];constructor
  . rintro ⟨j,h,h1⟩;obtain rfl:k=j:=by omega
    exact h1
  . exact λ h=>⟨k,rfl,h⟩
def b61:Go.Shelf.Ren:=⟨λ|129=>120|171=>50|243=>68|246=>87|283=>104|284=>105|285=>106|286=>107|317=>119|318=>121|319=>122|320=>123|337=>143|338=>144|n=>n,λ|0=>0|2=>2|3=>3|4=>4|5=>5|9=>9|20=>20|37=>115|46=>119|51=>117|53=>159|171=>158|173=>162|212=>176|213=>177|232=>208|233=>209|n=>n,λ|17=>0|18=>4|19=>5|n=>n⟩
theorem Uz:Go.Proofs.LaysM.n171 Tryz.prog b61:={
  mixed:=by kernel_rfl,
  f129:=Tryz.func120.trans (congrArg some (by kernel_rfl)),
  f171:=Tryz.func50.trans (congrArg some (by kernel_rfl)),
  f243:=Tryz.func68.trans (congrArg some (by kernel_rfl)),
  f246:=Tryz.func87.trans (congrArg some (by kernel_rfl)),
  f283:=Tryz.func104.trans (congrArg some (by kernel_rfl)),
  f284:=Tryz.func105.trans (congrArg some (by kernel_rfl)),
  f285:=Tryz.func106.trans (congrArg some (by kernel_rfl)),
  f286:=Tryz.func107.trans (congrArg some (by kernel_rfl)),
  f317:=Tryz.func119.trans (congrArg some (by kernel_rfl)),
  f318:=Tryz.func121.trans (congrArg some (by kernel_rfl)),
  f319:=Tryz.func122.trans (congrArg some (by kernel_rfl)),
  f320:=Tryz.func123.trans (congrArg some (by kernel_rfl)),
  f337:=Tryz.func143.trans (congrArg some (by kernel_rfl)),
  f338:=Tryz.func144.trans (congrArg some (by kernel_rfl)),
  t0:=Tryz.underlying0,
  a0:=Tryz.isAgg0,
  z0:=Tryz.sizeOf0,
  v0:=Tryz.zeroValue0,
  t2:=Tryz.underlying2,
  a2:=Tryz.isAgg2,
  z2:=Tryz.sizeOf2,
  v2:=Tryz.zeroValue2,
  t3:=Tryz.underlying3,
  a3:=Tryz.isAgg3,
  z3:=Tryz.sizeOf3,
  v3:=Tryz.zeroValue3,
  t4:=Tryz.underlying4,
  a4:=Tryz.isAgg4,
  z4:=Tryz.sizeOf4,
  v4:=Tryz.zeroValue4,
  t5:=Tryz.underlying5,
  a5:=Tryz.isAgg5,
  z5:=Tryz.sizeOf5,
  v5:=Tryz.zeroValue5,
  t9:=Tryz.underlying9,
  a9:=Tryz.isAgg9,
  z9:=Tryz.sizeOf9,
  v9:=Tryz.zeroValue9,
  t20:=Tryz.underlying20,
  a20:=Tryz.isAgg20,
  z20:=Tryz.sizeOf20,
  v20:=Tryz.zeroValue20,
  t37:=Tryz.underlying115,
  a37:=Tryz.isAgg115,
  z37:=Tryz.sizeOf115,
  v37:=Tryz.zeroValue115,
  t46:=Tryz.underlying119,
  a46:=Tryz.isAgg119,
  z46:=Tryz.sizeOf119,
  v46:=Tryz.zeroValue119,
  t51:=Tryz.underlying117,
  a51:=Tryz.isAgg117,
  z51:=Tryz.sizeOf117,
  v51:=Tryz.zeroValue117,
  t53:=Tryz.underlying159,
  a53:=Tryz.isAgg159,
  z53:=Tryz.sizeOf159,
  v53:=Tryz.zeroValue159,
  t171:=Tryz.underlying158,
  a171:=Tryz.isAgg158,
  z171:=Tryz.sizeOf158,
  v171:=Tryz.zeroValue158,
  t173:=Tryz.underlying162,
  a173:=Tryz.isAgg162,
  z173:=Tryz.sizeOf162,
  v173:=Tryz.zeroValue162,
  t212:=Tryz.underlying176,
  a212:=Tryz.isAgg176,
  z212:=Tryz.sizeOf176,
  v212:=Tryz.zeroValue176,
  t213:=Tryz.underlying177,
  a213:=Tryz.isAgg177,
  z213:=Tryz.sizeOf177,
  t232:=Tryz.underlying208,
  a232:=Tryz.isAgg208,
  z232:=Tryz.sizeOf208,
  v232:=Tryz.zeroValue208,
  t233:=Tryz.underlying209,
  a233:=Tryz.isAgg209,
  z233:=Tryz.sizeOf209,
  v233:=Tryz.zeroValue209,
  g17:=by kernel_rfl,
  g18:=by kernel_rfl,
  g19:=by kernel_rfl,
  i0:=by kernel_rfl,
  i2:=by kernel_rfl,
  i3:=by kernel_rfl,
  i4:=by kernel_rfl,
  i5:=by kernel_rfl,
  i9:=by kernel_rfl,
  i20:=by kernel_rfl,
  i37:=by kernel_rfl,
  i46:=by kernel_rfl,
  i51:=by kernel_rfl,
  i53:=by kernel_rfl,
  i171:=by kernel_rfl,
  i173:=by kernel_rfl,
  i212:=by kernel_rfl,
  i232:=by kernel_rfl,
  i233:=by kernel_rfl,
  m17:=by kernel_rfl,
  m18:=by kernel_rfl,
  m19:=by kernel_rfl }
theorem Yb {w:World} {k:Nat} {os:Array Obj}:E3 [] w (Sort.grow (w.drewN k) os):=by
  refine ⟨rfl,⟨rfl,Nat.le_add_right _ _⟩,rfl,?_,?_⟩
  . show w.heap.size<=(w.heap++os).size;simp
  . intro c hc _;show (w.heap++os)[c]?=_;rw [Array.getElem?_append,if_pos hc]
theorem bsz (s:yY):(⟨s.toArray⟩:ByteArray).size=s.length:=by simp [ByteArray.size]
end Go.Proofs.YtijlnmgondibnaaGreatDoor
namespace Go.Proofs.YtijlnmgondibnaaGreatDoor
set_option maxRecDepth 100000
end Go.Proofs.YtijlnmgondibnaaGreatDoor
set_option linter.unusedVariables false
namespace Go.Proofs.YtijlnmgondibnaaGreatDoor
open Go.Ex Go.RowKit Go.Shelf
set_option maxRecDepth 100000
def b62:Go.Shelf.Ren:=⟨λ|129=>120|171=>50|172=>85|205=>142|243=>68|244=>102|245=>103|246=>87|247=>114|279=>115|280=>116|281=>117|282=>118|283=>104|284=>105|285=>106|286=>107|287=>140|316=>141|317=>119|318=>121|319=>122|320=>123|321=>155|322=>156|337=>143|338=>144|n=>n,λ|0=>0|2=>2|3=>3|4=>4|5=>5|9=>9|20=>20|21=>21|37=>115|46=>119|51=>117|53=>159|75=>140|76=>141|80=>216|85=>170|127=>204|143=>205|145=>207|167=>169|168=>172|171=>158|173=>162|175=>188|210=>192|212=>176|213=>177|232=>208|233=>209|n=>n,λ|15=>2|16=>3|17=>0|18=>4|19=>5|n=>n⟩
theorem Uy:Go.Proofs.Lays.n172 Tryz.prog b62:={
  mixed:=by kernel_rfl,
  f129:=Tryz.func120.trans (congrArg some (by kernel_rfl)),
  f171:=Tryz.func50.trans (congrArg some (by kernel_rfl)),
  f172:=Tryz.func85.trans (congrArg some (by kernel_rfl)),
  f205:=Tryz.func142.trans (congrArg some (by kernel_rfl)),
  f243:=Tryz.func68.trans (congrArg some (by kernel_rfl)),
  f244:=Tryz.func102.trans (congrArg some (by kernel_rfl)),
  f245:=Tryz.func103.trans (congrArg some (by kernel_rfl)),
  f246:=Tryz.func87.trans (congrArg some (by kernel_rfl)),
  f247:=Tryz.func114.trans (congrArg some (by kernel_rfl)),
  f279:=Tryz.func115.trans (congrArg some (by kernel_rfl)),
  f280:=Tryz.func116.trans (congrArg some (by kernel_rfl)),
  f281:=Tryz.func117.trans (congrArg some (by kernel_rfl)),
  f282:=Tryz.func118.trans (congrArg some (by kernel_rfl)),
  f283:=Tryz.func104.trans (congrArg some (by kernel_rfl)),
  f284:=Tryz.func105.trans (congrArg some (by kernel_rfl)),
  f285:=Tryz.func106.trans (congrArg some (by kernel_rfl)),
  f286:=Tryz.func107.trans (congrArg some (by kernel_rfl)),
  f287:=Tryz.func140.trans (congrArg some (by kernel_rfl)),
  f316:=Tryz.func141.trans (congrArg some (by kernel_rfl)),
  f317:=Tryz.func119.trans (congrArg some (by kernel_rfl)),
  f318:=Tryz.func121.trans (congrArg some (by kernel_rfl)),
  f319:=Tryz.func122.trans (congrArg some (by kernel_rfl)),
  f320:=Tryz.func123.trans (congrArg some (by kernel_rfl)),
  f321:=Tryz.func155.trans (congrArg some (by kernel_rfl)),
  f322:=Tryz.func156.trans (congrArg some (by kernel_rfl)),
  f337:=Tryz.func143.trans (congrArg some (by kernel_rfl)),
  f338:=Tryz.func144.trans (congrArg some (by kernel_rfl)),
  t0:=Tryz.underlying0,
  a0:=Tryz.isAgg0,
  z0:=Tryz.sizeOf0,
  v0:=Tryz.zeroValue0,
  t2:=Tryz.underlying2,
  a2:=Tryz.isAgg2,
  z2:=Tryz.sizeOf2,
  v2:=Tryz.zeroValue2,
  t3:=Tryz.underlying3,
  a3:=Tryz.isAgg3,
  z3:=Tryz.sizeOf3,
  v3:=Tryz.zeroValue3,
  t4:=Tryz.underlying4,
  a4:=Tryz.isAgg4,
  z4:=Tryz.sizeOf4,
  v4:=Tryz.zeroValue4,
  t5:=Tryz.underlying5,
  a5:=Tryz.isAgg5,
  z5:=Tryz.sizeOf5,
  v5:=Tryz.zeroValue5,
  t9:=Tryz.underlying9,
  a9:=Tryz.isAgg9,
  z9:=Tryz.sizeOf9,
  v9:=Tryz.zeroValue9,
  t20:=Tryz.underlying20,
  a20:=Tryz.isAgg20,
  z20:=Tryz.sizeOf20,
  v20:=Tryz.zeroValue20,
  t21:=Tryz.underlying21,
  a21:=Tryz.isAgg21,
  z21:=Tryz.sizeOf21,
  v21:=Tryz.zeroValue21,
  t37:=Tryz.underlying115,
  a37:=Tryz.isAgg115,
  z37:=Tryz.sizeOf115,
  v37:=Tryz.zeroValue115,
  t46:=Tryz.underlying119,
  a46:=Tryz.isAgg119,
  z46:=Tryz.sizeOf119,
  v46:=Tryz.zeroValue119,
  t51:=Tryz.underlying117,
  a51:=Tryz.isAgg117,
  z51:=Tryz.sizeOf117,
  v51:=Tryz.zeroValue117,
  t53:=Tryz.underlying159,
  a53:=Tryz.isAgg159,
  z53:=Tryz.sizeOf159,
  v53:=Tryz.zeroValue159,
  t75:=Tryz.underlying140,
  a75:=Tryz.isAgg140,
  z75:=Tryz.sizeOf140,
  v75:=Tryz.zeroValue140,
  t76:=Tryz.underlying141,
  a76:=Tryz.isAgg141,
  z76:=Tryz.sizeOf141,
  v76:=Tryz.zeroValue141,
  t85:=Tryz.underlying170,
  a85:=Tryz.isAgg170,
  z85:=Tryz.sizeOf170,
  v85:=Tryz.zeroValue170,
  t127:=Tryz.underlying204,
  a127:=Tryz.isAgg204,
  z127:=Tryz.sizeOf204,
  v127:=Tryz.zeroValue204,
  t143:=Tryz.underlying205,
  a143:=Tryz.isAgg205,
  z143:=Tryz.sizeOf205,
  v143:=Tryz.zeroValue205,
  t145:=Tryz.underlying207,
  a145:=Tryz.isAgg207,
  z145:=Tryz.sizeOf207,
  v145:=Tryz.zeroValue207,
  t167:=Tryz.underlying169,
  a167:=Tryz.isAgg169,
  z167:=Tryz.sizeOf169,
  v167:=Tryz.zeroValue169,
  t168:=Tryz.underlying172,
  a168:=Tryz.isAgg172,
  z168:=Tryz.sizeOf172,
  v168:=Tryz.zeroValue172,
  t171:=Tryz.underlying158,
  a171:=Tryz.isAgg158,
  z171:=Tryz.sizeOf158,
  v171:=Tryz.zeroValue158,
  t173:=Tryz.underlying162,
  a173:=Tryz.isAgg162,
  z173:=Tryz.sizeOf162,
  v173:=Tryz.zeroValue162,
  t175:=Tryz.underlying188,
  a175:=Tryz.isAgg188,
  z175:=Tryz.sizeOf188,
  v175:=Tryz.zeroValue188,
  t210:=Tryz.underlying192,
  a210:=Tryz.isAgg192,
  z210:=Tryz.sizeOf192,
  v210:=Tryz.zeroValue192,
  t212:=Tryz.underlying176,
  a212:=Tryz.isAgg176,
  z212:=Tryz.sizeOf176,
  v212:=Tryz.zeroValue176,
  t213:=Tryz.underlying177,
  a213:=Tryz.isAgg177,
  z213:=Tryz.sizeOf177,
  t232:=Tryz.underlying208,
  a232:=Tryz.isAgg208,
  z232:=Tryz.sizeOf208,
  v232:=Tryz.zeroValue208,
  t233:=Tryz.underlying209,
  a233:=Tryz.isAgg209,
  z233:=Tryz.sizeOf209,
  v233:=Tryz.zeroValue209,
  g15:=by kernel_rfl,
  g16:=by kernel_rfl,
  g17:=by kernel_rfl,
  g18:=by kernel_rfl,
  g19:=by kernel_rfl }
end Go.Proofs.YtijlnmgondibnaaGreatDoor
set_option linter.unusedVariables false
namespace Go.Proofs.YtijlnmgondibnaaGreatDoor
open Go.Ex
set_option maxRecDepth 100000
def Zq:Go.Shelf.Ren:=⟨λ|145=>84|217=>136|219=>113|220=>101|224=>138|225=>137|266=>153|267=>139|314=>154|n=>n,λ|3=>3|4=>4|5=>5|9=>9|46=>119|51=>117|59=>137|146=>201|n=>n,λ|1=>1|n=>n⟩
theorem Ue:Go.Proofs.Lays.n145 Tryz.prog Zq:={
  mixed:=by kernel_rfl,
  f145:=Tryz.func84.trans (congrArg some (by kernel_rfl)),
  f217:=Tryz.func136.trans (congrArg some (by kernel_rfl)),
  f219:=Tryz.func113.trans (congrArg some (by kernel_rfl)),
  f220:=Tryz.func101.trans (congrArg some (by kernel_rfl)),
  f224:=Tryz.func138.trans (congrArg some (by kernel_rfl)),
  f225:=Tryz.func137.trans (congrArg some (by kernel_rfl)),
  f266:=Tryz.func153.trans (congrArg some (by kernel_rfl)),
  f267:=Tryz.func139.trans (congrArg some (by kernel_rfl)),
  f314:=Tryz.func154.trans (congrArg some (by kernel_rfl)),
  t3:=Tryz.underlying3,
  a3:=Tryz.isAgg3,
  z3:=Tryz.sizeOf3,
  v3:=Tryz.zeroValue3,
  t4:=Tryz.underlying4,
  a4:=Tryz.isAgg4,
  z4:=Tryz.sizeOf4,
  v4:=Tryz.zeroValue4,
  t5:=Tryz.underlying5,
  a5:=Tryz.isAgg5,
  z5:=Tryz.sizeOf5,
  v5:=Tryz.zeroValue5,
  t9:=Tryz.underlying9,
  a9:=Tryz.isAgg9,
  z9:=Tryz.sizeOf9,
  v9:=Tryz.zeroValue9,
  t46:=Tryz.underlying119,
  a46:=Tryz.isAgg119,
  z46:=Tryz.sizeOf119,
  v46:=Tryz.zeroValue119,
  t51:=Tryz.underlying117,
  a51:=Tryz.isAgg117,
  z51:=Tryz.sizeOf117,
  v51:=Tryz.zeroValue117,
  t59:=Tryz.underlying137,
  a59:=Tryz.isAgg137,
  z59:=Tryz.sizeOf137,
  v59:=Tryz.zeroValue137,
  t146:=Tryz.underlying201,
  a146:=Tryz.isAgg201,
  z146:=Tryz.sizeOf201,
  v146:=Tryz.zeroValue201,
  g1:=by kernel_rfl }
def GH:o7:={ ps:=[.v e8],rs:=[.str],pre:=λ _=>True,fn:=λ x=>(C5 x.1,()),out:=λ _=>() }
theorem RF:GH.Valid Tryz.prog 50:=by
  refine ⟨⟨_,Tryz.func50,by kernel_rfl,by kernel_rfl⟩,?_,λ h=>by cases h⟩;rintro w S vs ⟨(n:Int),⟨⟩⟩ L hS dX - ⟨v1,us,L1,L2,rfl,rfl,⟨rfl,cs,rfl,r1⟩,rfl,rfl⟩ - aH hL;obtain ⟨-,rfl,(hn:r9 .i64 n)⟩:=r1;obtain ⟨h0,h1⟩:=F1.1 hn;obtain ⟨-,cs,h2,h3⟩:=dX _ (List.mem_cons_self ..) 0 (by kernel_rfl);refine (Any.strconv_Itoa Uz n h0 h1 w (h2.trans (congrArg some h3))).mono ?_;rintro e w' ⟨rfl,k,os,rfl⟩;refine ⟨[.string ⟨(Lib.itoa n).toArray⟩],[],[],S,rfl,Yb,λ _ h=>h,λ b h=>.inl h,⟨_,[],[],[],[.string ⟨(Lib.itoa n).toArray⟩],rfl,rfl,rfl,⟨rfl,?_,?_⟩,rfl,rfl⟩,⟨_,[],rfl,rfl,rfl⟩,by simp,by simp⟩
  . rw [UE h0 h1]; rfl
  . have:=BF h0 h1;show (C5 n).length<=maxLen;exact Nat.le_trans this (by decide)
def EP:o7:={ ps:=[.v .str],rs:=[e8,.fn 4000000],pre:=λ x=>List.length (α:=UInt8) x.1<=18/\(Lib.atoi x.1).isSome=true,fn:=λ x=>((Lib.atoi x.1).getD 0,false,()),out:=λ _=>() }
theorem decFrom_lt:∀ {l:yY} {a n:Nat},Lib.decFrom a l=some n->n<(a+1)*10^l.length
  | [],a,n,h=>by
    simp only [Lib.decFrom,Option.some.injEq] at h;subst h;simp
  | b::l,a,n,h=>by
    rw [Lib.decFrom] at h;cases e:Lib.digitVal b with
    | none=>rw [e] at h; cases h
    | some d =>
      rw [e] at h;have h1:=decFrom_lt h;have hd:d<=9:=by
        unfold Lib.digitVal at e;split at e
        . simp only [Option.some.injEq] at e; omega
        . cases e
      refine Nat.lt_of_lt_of_le h1 ?_;rw [List.length_cons,Nat.pow_succ,Nat.mul_comm (10^l.length) 10,<- Nat.mul_assoc];exact Nat.mul_le_mul_right _ (by omega)
theorem Iw {l:yY} {n:Nat} (h:Lib.decNat l=some n) (hl:l.length<=18):n<1000000000000000000:=by
  unfold Lib.decNat at h;split at h
  . cases h
  . have h1:=decFrom_lt h;have h2:10^l.length<=10^18:=Nat.pow_le_pow_right (by decide) hl;have h3:(10:Nat)^18=1000000000000000000:=by decide
    omega
theorem TD {l:yY} {n:Int} (h:Lib.atoi l=some n) (hl:l.length<=18):-1000000000000000000<n/\n<1000000000000000000:=by
  cases l with
  | nil=>cases h
  | cons b r =>
    rw [Lib.atoi] at h;simp only [List.length_cons] at hl;split at h
    . cases e:Lib.decNat r with
      | none=>rw [e] at h; cases h
      | some m=>rw [e] at h; simp only [Option.map_some,Option.some.injEq] at h; have:=Iw e (by omega); omega
    . split at h
      . cases e:Lib.decNat r with
        | none=>rw [e] at h; cases h
        | some m=>rw [e] at h; simp only [Option.map_some,Option.some.injEq] at h; have:=Iw e (by omega); omega
      . cases e:Lib.decNat (b::r) with
        | none=>rw [e] at h; cases h
        | some m=>rw [e] at h; simp only [Option.map_some,Option.some.injEq] at h; have:=Iw e (by simp only [List.length_cons]; omega); omega
theorem ZJ:EP.Valid Tryz.prog 85:=by
  refine ⟨⟨_,Tryz.func85,by kernel_rfl,by kernel_rfl⟩,?_,λ h=>by cases h⟩;rintro w S vs ⟨(s:yY),⟨⟩⟩ L hS dX ⟨(h1:s.length<=18),(h2:(Lib.atoi s).isSome=true)⟩ ⟨v1,us,L1,L2,rfl,rfl,⟨rfl,cs,rfl,r1⟩,rfl,rfl⟩ - aH hL;obtain ⟨-,rfl,hs⟩:=r1;obtain ⟨n,hn⟩:=Option.isSome_iff_exists.1 h2;refine (Any.strconv_Atoi Uy ⟨s.toArray⟩ n (by rw [bsz]; exact h1) hn w).mono ?_;rintro e w' ⟨rfl,t,rfl⟩;have hf:EP.fn (s,())=(n,false,()):=by
    show ((Lib.atoi s).getD 0,false,())=(n,false,());rw [hn]; rfl
  rw [hf];have hr:=TD hn h1;refine ⟨[.int .i64 n,.nilIface],[],[],S,rfl,⟨rfl,⟨rfl,Nat.le_succ _⟩,rfl,by rw [Lib.bytesWorld_size]; omega,λ j hj _=>Lib.bytesWorld_at_old w _ t j hj⟩,λ _ h=>h,λ b h=>.inl h,⟨_,_,[],[],[.int .i64 n],rfl,rfl,rfl,⟨rfl,rfl,?_⟩,_,_,[],[],[.nilIface],rfl,rfl,rfl,⟨rfl,rfl⟩,rfl,rfl⟩,⟨_,[],rfl,rfl,rfl⟩,by simp,by simp⟩;exact ⟨by show -9223372036854775808<=n; omega,by show n<=9223372036854775807; omega⟩
def Ks:o7:={ ps:=[.v .str,.v .str],rs:=[.str,.str,.bool],pre:=λ x=>List.length (α:=UInt8) x.1<=1000000/\Eq (α:=yY) x.2.1 [58],fn:=λ x=>((w9 x.1).1,(w9 x.1).2.1,(w9 x.1).2.2,()),out:=λ _=>() }
theorem Yx:Ks.Valid Tryz.prog 84:=by
  refine ⟨⟨_,Tryz.func84,by kernel_rfl,by kernel_rfl⟩,?_,λ h=>by cases h⟩;rintro w S vs ⟨(s:yY),(p:yY),⟨⟩⟩ L hS dX ⟨(h1:s.length<=1000000),(h2:p=[58])⟩ ⟨v1,us,L1,L2,rfl,rfl,⟨rfl,cs,rfl,r1⟩,v2,us2,L3,L4,rfl,rfl,⟨rfl,cs2,rfl,r2⟩,rfl,rfl⟩ - aH hL;obtain ⟨-,rfl,hs⟩:=r1;obtain ⟨-,rfl,hp⟩:=r2;obtain ⟨-,cs,g2,m,g3⟩:=dX ("internal/bytealg.MaxLen",_) (List.mem_cons_of_mem _ (List.mem_cons_self ..)) 1 (by kernel_rfl)
  have hm:w.cell? ⟨1,0,none⟩=some (.int .i64 m):=by
    have:=World.var?_cell (show Tryz.prog.globalNamed "internal/bytealg.MaxLen"=some 1 by kernel_rfl) g2 0
    rw [this,g3]
  refine (Any.strings_Cut Ue ⟨s.toArray⟩ ⟨p.toArray⟩ m w (by rw [bsz]; omega) hm).mono ?_;rintro e w' ⟨rfl,k,rfl⟩;have hc:Lib.cut (ByteArray.mk s.toArray).data.toList (ByteArray.mk p.toArray).data.toList=w9 s:=by
    show Lib.cut s p=w9 s;rw [h2,LQ]
  rw [hc];have hl:=AR s;have hD:E3 [] w (w.drewN k):=⟨rfl,⟨rfl,Nat.le_add_right _ _⟩,rfl,Nat.le_refl _,λ _ _ _=>rfl⟩;have jo:maxLen=9223372036854775807:=by decide
  refine ⟨[.string ⟨(w9 s).1.toArray⟩,.string ⟨(w9 s).2.1.toArray⟩,.bool (w9 s).2.2],[],[],S,rfl,hD,λ _ h=>h,λ b h=>.inl h,⟨_,_,[],[],[_],rfl,rfl,rfl,⟨rfl,rfl,?_⟩,_,_,[],[],[_],rfl,rfl,rfl,⟨rfl,rfl,?_⟩,_,_,[],[],[_],rfl,rfl,rfl,⟨rfl,rfl⟩,rfl,rfl⟩,⟨_,_,rfl,⟨_,[],rfl,rfl,rfl⟩⟩,by simp,by simp⟩
  . show (w9 s).1.length<=maxLen; omega
  . show (w9 s).2.1.length<=maxLen; omega
end Go.Proofs.YtijlnmgondibnaaGreatDoor
namespace Go.Proofs.YtijlnmgondibnaaGreatDoor
open Go.Ex
set_option maxRecDepth 100000
attribute [local irreducible] Go.Ex.exec
theorem It {x:yY} {w:f8}:∀ p,(G2 x w p).2.1=w.2.1/\(G2 x w p).1=w.1/\(G2 x w p).2.2.1=w.2.2.1
  | 0=>⟨rfl,rfl,rfl⟩
  | p+1=>by
    obtain ⟨h1,h2,h3⟩:=It (x:=x) (w:=w) p;rw [G2]
    split
    . obtain ⟨g1,g2,g3⟩:=DA (w:=G2 x w p) (k:=2) (f:=K8 (G2 x w p)) (t:=p) (s:=((G2 x w p).2.2.1.length:Int) - 1) (x:=x);exact ⟨g1.trans h1,g2.trans h2,g3.trans h3⟩
    . exact ⟨h1,h2,h3⟩
theorem WT {x:yY} {w:f8} {p:Nat} (h:s5 (G2 x w p) p=true):G2 x w (p+1)=L7 (G2 x w p) 2 (K8 (G2 x w p)) p (((G2 x w p).2.2.1.length:Int) - 1) x:=by
  rw [G2]; exact if_pos h
theorem WS {x:yY} {w:f8} {p:Nat} (h:s5 (G2 x w p) p=false):G2 x w (p+1)=G2 x w p:=by
  rw [G2]; exact if_neg (by rw [h]; decide)
theorem Je {f first:Int} {l:List yY} {w:f8}:∀ i,(I6 f first l w i).2.1=w.2.1/\(I6 f first l w i).1=w.1/\(I6 f first l w i).2.2.1.length=w.2.2.1.length+i
  | 0=>⟨rfl,rfl,rfl⟩
  | i+1=>by
    obtain ⟨h1,h2,h3⟩:=Je (f:=f) (first:=first) (l:=l) (w:=w) i;rw [I6];obtain ⟨g1,g2,g3⟩:=It (x:=I4 f (first+i) (l.getD i [])) (w:=a70 (I6 f first l w i) (I4 f (first+i) (l.getD i []))) (I6 f first l w i).2.1.length;refine ⟨g1.trans h1,g2.trans h2,?_⟩;rw [g3];show ((I6 f first l w i).2.2.1++[_]).length=_;rw [List.length_append,h3]; rfl
def GJ:o7:={ ps:=[.rw s6,.v yM],rs:=[],pre:=λ x=>List.length (α:=n7) (x.1:f8).2.1<=6/\(¬ known x.1 x.2.1.2.1≠0)/\List.length (α:=yY) (x.1:f8).2.2.1<=1000000000000,fn:=λ _=>(),out:=λ x=>(W7 x.1 x.2.1,()) }
noncomputable def ym:Env:={ P:=Tryz.prog,tt:=tt,C7:=[(83,FC),(50,GH),(47,xV),(43,za),(44,yQ)],res:=[],rs:=[],ps:=[PK.rw s6,PK.v (Ty.pair e8 (Ty.pair e8 (Ty.pair e8 (Ty.pair e8 (Ty.pair e8 (Ty.pair X2 (Ty.pair Ty.str Ty.unit)))))))],B0:=[(7,[(0,none),(3,none),(8,none),(45,some (Ty.d0 true Ty.str)),(46,none),(47,none)]),(12,[(0,none),(3,none),(8,none),(11,none),(45,some (Ty.d0 true Ty.str)),(46,none),(47,none),(78,none),(79,none)])],nt:=99 }
theorem DI:w7 ym:=x8 p7 ⟨Ry,RF,BC,DV,DP,trivial⟩
theorem DJ:C2 ym Tryz.f66:=⟨rfl,rfl⟩
theorem Xg (aj:Int) (af:Int) (ab:List n7) (ae:List yY) (aa:List yY) (bJ:Int) (aN:Int) (aK:Int) (aX:Int) (aG:Int) (aT:List Int) (aD:yY):exec ym 1000 [.code (d8 Tryz.prog 66)] (s9 GJ.ps ((((aj,af,()),ab,ae,aa,()),(bJ,aN,aK,aX,aG,aT,aD,()),()))) =
  .f7 ((0:Int)<=aN/\aN<(↑(List.length ab):Int)) (.f7 (True) (cond (decide (Prod.fst (Prod.snd (Prod.snd (D0 (Prod.fst (Prod.snd (Prod.snd (Prod.snd (Prod.snd (List.getD ab (Int.toNat aN) (false,[],((0:Int),[],()),((0:Int),[],()),((0:Int),[],()),()))))))) (aG,aD,()))))≠(0:Int))) (.ret ((((aj,af,()),ab,ae,aa,()),()))) (.ctL (f9 (d8 Tryz.prog 66) 7) (St.mk [(0,AV.ptr 2000000 []),(3,AV.ptr 3 []),(8,AV.val e8 (Prod.fst (Prod.fst (Prod.snd (Prod.snd (Prod.snd (Prod.snd (List.getD ab (Int.toNat aN) (false,[],((0:Int),[],()),((0:Int),[],()),((0:Int),[],()),()))))))))),(45,AV.at_ 1000045 []),(46,AV.val e8 (↑(List.length (Prod.fst (Prod.snd (D0 (Prod.fst (Prod.snd (Prod.snd (Prod.snd (Prod.snd (List.getD ab (Int.toNat aN) (false,[],((0:Int),[],()),((0:Int),[],()),((0:Int),[],()),()))))))) (aG,aD,()))))):Int)),(47,AV.val e8 (0:Int))] [(3,g9.var (Ty.pair e8 (Ty.pair e8 (Ty.pair e8 (Ty.pair e8 (Ty.pair e8 (Ty.pair X2 (Ty.pair Ty.str Ty.unit))))))) (bJ,aN,aK,aX,aG,aT,aD,())),(1000045,g9.own (Ty.d0 true Ty.str) (Prod.fst (Prod.snd (D0 (Prod.fst (Prod.snd (Prod.snd (Prod.snd (Prod.snd (List.getD ab (Int.toNat aN) (false,[],((0:Int),[],()),((0:Int),[],()),((0:Int),[],()),()))))))) (aG,aD,()))))),(2000000,g9.var s6 ((aj,af,()),List.set ab (Int.toNat aN) (Prod.fst (List.getD ab (Int.toNat aN) (false,[],((0:Int),[],()),((0:Int),[],()),((0:Int),[],()),())),Prod.fst (Prod.snd (List.getD ab (Int.toNat aN) (false,[],((0:Int),[],()),((0:Int),[],()),((0:Int),[],()),()))),Prod.fst (Prod.snd (Prod.snd (List.getD ab (Int.toNat aN) (false,[],((0:Int),[],()),((0:Int),[],()),((0:Int),[],()),())))),Prod.fst (Prod.snd (Prod.snd (Prod.snd (List.getD ab (Int.toNat aN) (false,[],((0:Int),[],()),((0:Int),[],()),((0:Int),[],()),()))))),Prod.fst (D0 (Prod.fst (Prod.snd (Prod.snd (Prod.snd (Prod.snd (List.getD ab (Int.toNat aN) (false,[],((0:Int),[],()),((0:Int),[],()),((0:Int),[],()),()))))))) (aG,aD,())),Prod.snd (Prod.snd (Prod.snd (Prod.snd (Prod.snd (List.getD ab (Int.toNat aN) (false,[],((0:Int),[],()),((0:Int),[],()),((0:Int),[],()),()))))))),ae,aa,()))])))):=by kernel_rfl
def IL (v8:Int) (v46:Int) (uE:Int) (cB:Int) (aV:Int) (aR:Int) (aJ:Int) (aE:Int) (aC:List Int) (au:yY) (cm:List yY) (aB:Int) (ao:Int) (ak:List n7) (an:List yY) (ah:List yY):St:=St.mk [(0,AV.ptr 2000000 []),(3,AV.ptr 3 []),(8,AV.val e8 v8),(45,AV.at_ 1000045 []),(46,AV.val e8 v46),(47,AV.val e8 uE)] [(3,g9.var (Ty.pair e8 (Ty.pair e8 (Ty.pair e8 (Ty.pair e8 (Ty.pair e8 (Ty.pair X2 (Ty.pair Ty.str Ty.unit))))))) (cB,aV,aR,aJ,aE,aC,au,())),(1000045,g9.own (Ty.d0 true Ty.str) cm),(2000000,g9.var s6 ((aB,ao,()),ak,an,ah,()))]
theorem YP (v8:Int) (v46:Int) (uE:Int) (cB:Int) (aV:Int) (aR:Int) (aJ:Int) (aE:Int) (aC:List Int) (au:yY) (cm:List yY) (aB:Int) (ao:Int) (ak:List n7) (an:List yY) (ah:List yY):exec ym 1000 (.code (f9 (d8 Tryz.prog 66) 7).1::.inLoop (f9 (d8 Tryz.prog 66) 7).1::(f9 (d8 Tryz.prog 66) 7).2) (IL v8 v46 uE cB aV aR aJ aE aC au cm aB ao ak an ah) =
  cond (decide (uE<v46)) (.f7 ((0:Int)<=uE/\uE<(↑(List.length cm):Int)) (.f7 (True) (.f7 (List.length (C5 aV)+List.length (Array.toList (ByteArray.data (ByteArray.mk #[58])))<=Go.maxLen) (.f7 (r9 IntKind.i64 (v8+uE)) (.f7 (True) (.f7 (List.length (C5 aV++Array.toList (ByteArray.data (ByteArray.mk #[58])))+List.length (C5 (v8+uE))<=Go.maxLen) (.f7 (List.length (C5 aV++Array.toList (ByteArray.data (ByteArray.mk #[58]))++C5 (v8+uE))+List.length (Array.toList (ByteArray.data (ByteArray.mk #[58])))<=Go.maxLen) (.f7 (List.length (C5 aV++Array.toList (ByteArray.data (ByteArray.mk #[58]))++C5 (v8+uE)++Array.toList (ByteArray.data (ByteArray.mk #[58])))+List.length (List.getD cm (Int.toNat uE) [])<=Go.maxLen) (.f7 (True/\True/\[]++[Step.l6 2]=[]++[Step.l6 2]/\List.length an+List.length (List.set [[]] (Int.toNat (↑0:Int)) (C5 aV++Array.toList (ByteArray.data (ByteArray.mk #[58]))++C5 (v8+uE)++Array.toList (ByteArray.data (ByteArray.mk #[58]))++List.getD cm (Int.toNat uE) []))<=140737488355328/\(List.length an+List.length (List.set [[]] (Int.toNat (↑0:Int)) (C5 aV++Array.toList (ByteArray.data (ByteArray.mk #[58]))++C5 (v8+uE)++Array.toList (ByteArray.data (ByteArray.mk #[58]))++List.getD cm (Int.toNat uE) [])))*Ty.wb Ty.str<=140737488355328) (.ctL (f9 (d8 Tryz.prog 66) 12) (St.mk [(0,AV.ptr 2000000 []),(3,AV.ptr 3 []),(8,AV.val e8 v8),(11,AV.val Ty.str (C5 aV++Array.toList (ByteArray.data (ByteArray.mk #[58]))++C5 (v8+uE)++Array.toList (ByteArray.data (ByteArray.mk #[58]))++List.getD cm (Int.toNat uE) [])),(45,AV.at_ 1000045 []),(46,AV.val e8 v46),(47,AV.val e8 uE),(78,AV.val e8 (↑(List.length ak):Int)),(79,AV.val e8 (0:Int))] [(3,g9.var (Ty.pair e8 (Ty.pair e8 (Ty.pair e8 (Ty.pair e8 (Ty.pair e8 (Ty.pair X2 (Ty.pair Ty.str Ty.unit))))))) (cB,aV,aR,aJ,aE,aC,au,())),(1000045,g9.own (Ty.d0 true Ty.str) cm),(2000000,g9.var s6 ((aB,ao,()),ak,an++List.set [[]] (Int.toNat (↑0:Int)) (C5 aV++Array.toList (ByteArray.data (ByteArray.mk #[58]))++C5 (v8+uE)++Array.toList (ByteArray.data (ByteArray.mk #[58]))++List.getD cm (Int.toNat uE) []),ah,()))]))))))))))) (.ret ((((aB,ao,()),ak,an,ah,()),()))):=by kernel_rfl
def JN (v8:Int) (v11:yY) (v46:Int) (uE:Int) (yE:Int) (wm:Int) (cB:Int) (aV:Int) (aR:Int) (aJ:Int) (aE:Int) (aC:List Int) (au:yY) (cm:List yY) (aB:Int) (ao:Int) (ak:List n7) (an:List yY) (ah:List yY):St:=St.mk [(0,AV.ptr 2000000 []),(3,AV.ptr 3 []),(8,AV.val e8 v8),(11,AV.val Ty.str v11),(45,AV.at_ 1000045 []),(46,AV.val e8 v46),(47,AV.val e8 uE),(78,AV.val e8 yE),(79,AV.val e8 wm)] [(3,g9.var (Ty.pair e8 (Ty.pair e8 (Ty.pair e8 (Ty.pair e8 (Ty.pair e8 (Ty.pair X2 (Ty.pair Ty.str Ty.unit))))))) (cB,aV,aR,aJ,aE,aC,au,())),(1000045,g9.own (Ty.d0 true Ty.str) cm),(2000000,g9.var s6 ((aB,ao,()),ak,an,ah,()))]
theorem b7H (v8:Int) (v11:yY) (v46:Int) (uE:Int) (yE:Int) (wm:Int) (cB:Int) (aV:Int) (aR:Int) (aJ:Int) (aE:Int) (aC:List Int) (au:yY) (cm:List yY) (aB:Int) (ao:Int) (ak:List n7) (an:List yY) (ah:List yY):exec ym 1000 (.code (f9 (d8 Tryz.prog 66) 12).1::.inLoop (f9 (d8 Tryz.prog 66) 12).1::(f9 (d8 Tryz.prog 66) 12).2) (JN v8 v11 v46 uE yE wm cB aV aR aJ aE aC au cm aB ao ak an ah) =
  cond (decide (wm<yE)) (.f7 (List.length ak<=6) (cond (s5 ((aB,ao,()),ak,an,ah,()) wm) (.f7 (True) (.f7 (r9 IntKind.i64 ((↑(List.length an):Int) - (1:Int))) (.f7 (True) (.f7 (r9 IntKind.i64 (wm+(1:Int))) (.ctL (f9 (d8 Tryz.prog 66) 12) (St.mk [(0,AV.ptr 2000000 []),(3,AV.ptr 3 []),(8,AV.val e8 v8),(11,AV.val Ty.str v11),(45,AV.at_ 1000045 []),(46,AV.val e8 v46),(47,AV.val e8 uE),(78,AV.val e8 yE),(79,AV.val e8 (wm+(1:Int)))] [(3,g9.var (Ty.pair e8 (Ty.pair e8 (Ty.pair e8 (Ty.pair e8 (Ty.pair e8 (Ty.pair X2 (Ty.pair Ty.str Ty.unit))))))) (cB,aV,aR,aJ,aE,aC,au,())),(1000045,g9.own (Ty.d0 true Ty.str) cm),(2000000,g9.var s6 (L7 ((aB,ao,()),ak,an,ah,()) (2:Int) (K8 ((aB,ao,()),ak,an,ah,())) wm ((↑(List.length an):Int) - (1:Int)) v11))])))))) (.f7 (r9 IntKind.i64 (wm+(1:Int))) (.ctL (f9 (d8 Tryz.prog 66) 12) (St.mk [(0,AV.ptr 2000000 []),(3,AV.ptr 3 []),(8,AV.val e8 v8),(11,AV.val Ty.str v11),(45,AV.at_ 1000045 []),(46,AV.val e8 v46),(47,AV.val e8 uE),(78,AV.val e8 yE),(79,AV.val e8 (wm+(1:Int)))] [(3,g9.var (Ty.pair e8 (Ty.pair e8 (Ty.pair e8 (Ty.pair e8 (Ty.pair e8 (Ty.pair X2 (Ty.pair Ty.str Ty.unit))))))) (cB,aV,aR,aJ,aE,aC,au,())),(1000045,g9.own (Ty.d0 true Ty.str) cm),(2000000,g9.var s6 ((aB,ao,()),ak,an,ah,()))]))))) (.f7 (r9 IntKind.i64 (uE+(1:Int))) (.ctL (f9 (d8 Tryz.prog 66) 7) (St.mk [(0,AV.ptr 2000000 []),(3,AV.ptr 3 []),(8,AV.val e8 v8),(45,AV.at_ 1000045 []),(46,AV.val e8 v46),(47,AV.val e8 (uE+(1:Int)))] [(3,g9.var (Ty.pair e8 (Ty.pair e8 (Ty.pair e8 (Ty.pair e8 (Ty.pair e8 (Ty.pair X2 (Ty.pair Ty.str Ty.unit))))))) (cB,aV,aR,aJ,aE,aC,au,())),(1000045,g9.own (Ty.d0 true Ty.str) cm),(2000000,g9.var s6 ((aB,ao,()),ak,an,ah,()))]))):=by kernel_rfl
attribute [local irreducible] W7 L7 D0 C5 I6 G2 in
theorem b42:GJ.Valid Tryz.prog 66:=by
  refine o7.o5 DI rfl rfl Tryz.func66 (c:=d8 Tryz.prog 66) rfl rfl DJ rfl ?_;rintro ⟨⟨⟨(v0:Int),(v1:Int),⟨⟩⟩,(al:List n7),(od:List yY),(wy:List yY),⟨⟩⟩,⟨(nk:Int),(nf:Int),(nt:Int),(nv:Int),(ns:Int),(na:List Int),(nx:yY),⟨⟩⟩,⟨⟩⟩ ⟨(hp:al.length<=6),(hk:¬ known ((v0,v1,()),al,od,wy,()) nf≠0),(ho:od.length<=1000000000000)⟩ ⟨-,⟨⟨-,(nG:r9 .i64 nf),-⟩,-⟩⟩;refine j6 (n:=1000) DI DJ ?_;refine i6 (Xg v0 v1 al od wy nk nf nt nv ns na nx) ?_;simp only [j7,Tree.holds,sL];have key:∀ r:f8,W7 ((v0,v1,()),al,od,wy,()) (nk,nf,nt,nv,ns,na,nx,())=r->(((r,()):f8×Unit)=(W7 ((v0,v1,()),al,od,wy,()) (nk,nf,nt,nv,ns,na,nx,()),())):=by rintro r rfl; rfl
  have e1:=λ a=>(W7.eq_1 ((v0,v1,()),al,od,wy,()) (nk,nf,nt,nv,ns,na,nx,())).trans (if_pos a);have e2:=λ a=>(W7.eq_1 ((v0,v1,()),al,od,wy,()) (nk,nf,nt,nv,ns,na,nx,())).trans (if_neg a);refine ⟨Dg hk,λ _=>⟨λ a=>key _ (e1 a),λ a=>?_⟩⟩;have e3:=e2 a;have bF:=yC (Decidable.not_not.1 a);obtain ⟨w,hw⟩:∃ w:f8,w=xI ((v0,v1,()),al,od,wy,()) nf (xB (N4 ((v0,v1,()),al,od,wy,()) nf) (X8 ((v0,v1,()),al,od,wy,()) (nk,nf,nt,nv,ns,na,nx,())).1):=⟨_,rfl⟩;obtain ⟨first,hf⟩:∃ first,first=(N4 ((v0,v1,()),al,od,wy,()) nf).2.2.2.2.1.1:=⟨_,rfl⟩
  obtain ⟨l,hl⟩:∃ l,l=(X8 ((v0,v1,()),al,od,wy,()) (nk,nf,nt,nv,ns,na,nx,())).2.1:=⟨_,rfl⟩;have rp:w.2.1.length=al.length:=by rw [hw]; exact List.length_set ..
  have qs:w.2.2.1=od:=by rw [hw]; rfl
  have h0:0<=first/\first<=16777215:=by rw [hf]; exact bF.2.2.2.1
  have lA:l.length<=16:=by rw [hl]; exact bF.2.2.1
  have bf:∀ t∈l,D8 t=false:=by rw [hl]; exact λ t ht=>(bF.1 t ht).2
  suffices go:Go.Ex.Reach ym Tryz.f66 () (I6 nf first l w l.length,()) (.code (f9 (d8 Tryz.prog 66) 7).1::.inLoop (f9 (d8 Tryz.prog 66) 7).1::(f9 (d8 Tryz.prog 66) 7).2) (IL first (l.length:Int) ((0:Nat):Int) nk nf nt nv ns na nx l (I6 nf first l w 0).1.1 (I6 nf first l w 0).1.2.1 (I6 nf first l w 0).2.1 (I6 nf first l w 0).2.2.1 (I6 nf first l w 0).2.2.2.1) by
    subst hw; subst hf; subst hl;rw [e3];rw [I6] at go;exact go
  refine Reach.M9 DI DJ (λ i:Nat=>IL first (l.length:Int) (i:Int) nk nf nt nv ns na nx l (I6 nf first l w i).1.1 (I6 nf first l w i).1.2.1 (I6 nf first l w i).2.1 (I6 nf first l w i).2.2.1 (I6 nf first l w i).2.2.2.1) (λ i=>i<=l.length)
    (λ i=>l.length - i) 1000 (λ _=>⟨u7 rfl,u7 rfl⟩) ?_ 0 (Nat.zero_le _)
  rintro i k1 - ih;have k1:i<=l.length:=k1;refine i6 (YP ..) ?_;have e4:((i:Nat):Int)+1=((i+1:Nat):Int):=by omega
  obtain ⟨t1,t2,t3⟩:=Je (f:=nf) (first:=first) (l:=l) (w:=w) i;rw [qs] at t3;have ml:(C5 nf).length<=20:=BF (F1.1 nG).1 (F1.1 nG).2;have rX:(C5 (first+i)).length<=20:=BF (by omega) (by omega);have dX:i<l.length->(l.getD i []).length<=200:=λ h=>IY (bf _ (by rw [List.getD_eq_getElem?_getD,List.getElem?_eq_getElem h]; exact List.getElem_mem _));have jo:maxLen=9223372036854775807:=by decide
  have jd:Ty.wb .str=16:=rfl;simp only [j7,Tree.holds,e4,sL];refine ⟨λ c=>⟨by omega,λ _=>⟨?_,λ _=>⟨?_,λ _=>⟨?_,λ _=>⟨?_,λ _=>⟨?_,λ _=>⟨?_,λ _=>?_⟩⟩⟩⟩⟩⟩⟩,λ c=>?_⟩
  . simp only [List.length_cons,List.length_nil,jo]; omega
  . exact ⟨by omega,by omega⟩
  . simp only [List.length_append,List.length_cons,List.length_nil,jo]; omega
  . simp only [List.length_append,List.length_cons,List.length_nil,jo]; omega
  . have:=dX (by omega);simp only [List.length_append,List.length_cons,List.length_nil,jo]; omega
  . rw [jd,t3]; omega
  . obtain ⟨x,hx⟩:∃ x,x=I4 nf (first+i) (l.getD i []):=⟨_,rfl⟩;obtain ⟨u,hu⟩:∃ u,u=a70 (I6 nf first l w i) x:=⟨_,rfl⟩;have qy:u.2.1=(I6 nf first l w i).2.1:=by rw [hu]; rfl
    suffices go:Go.Ex.Reach ym Tryz.f66 () (I6 nf first l w l.length,()) (.code (f9 (d8 Tryz.prog 66) 12).1::.inLoop (f9 (d8 Tryz.prog 66) 12).1::(f9 (d8 Tryz.prog 66) 12).2) (JN first x (l.length:Int) (i:Int) (u.2.1.length:Int) ((0:Nat):Int) nk nf nt nv ns na nx l (G2 x u 0).1.1 (G2 x u 0).1.2.1 (G2 x u 0).2.1 (G2 x u 0).2.2.1 (G2 x u 0).2.2.2.1) by
      subst hu; subst hx;rw [G2] at go;exact go
    refine Reach.M9 DI DJ (λ p:Nat=>JN first x (l.length:Int) (i:Int) (u.2.1.length:Int) (p:Int) nk nf nt nv ns na nx l (G2 x u p).1.1 (G2 x u p).1.2.1 (G2 x u p).2.1 (G2 x u p).2.2.1 (G2 x u p).2.2.2.1) (λ p=>p<=u.2.1.length)
      (λ p=>u.2.1.length - p) 1000 (λ _=>⟨u7 rfl,u7 rfl⟩) ?_ 0 (Nat.zero_le _)
    rintro p k2 - ih2;have k2:p<=u.2.1.length:=k2;refine i6 (b7H ..) ?_;have e5:((p:Nat):Int)+1=((p+1:Nat):Int):=by omega
    obtain ⟨c1,c2,c3⟩:=It (x:=x) (w:=u) p;have rC:u.2.1.length<=6:=by rw [qy,t1,rp]; exact hp
    have rB:u.2.2.1.length=od.length+i+1:=by rw [hu]; show ((I6 nf first l w i).2.2.1++[x]).length=_; rw [List.length_append,t3]; rfl
    simp only [j7,Tree.holds,e5,sL];refine ⟨λ d=>⟨?_,λ _=>⟨λ e=>⟨?_,λ _=>⟨?_,λ _=>?_⟩⟩,λ e=>⟨?_,λ _=>?_⟩⟩⟩,λ d=>⟨?_,λ _=>?_⟩⟩
    . rw [c1]; exact rC
    . rw [c3,rB]; exact ⟨by omega,by omega⟩
    . exact ⟨by omega,by omega⟩
    . have:=ih2 (p+1) (by show p+1<=u.2.1.length; omega) (by show u.2.1.length - (p+1)<u.2.1.length - p; omega);rw [WT e] at this;exact this
    . exact ⟨by omega,by omega⟩
    . have:=ih2 (p+1) (by show p+1<=u.2.1.length; omega) (by show u.2.1.length - (p+1)<u.2.1.length - p; omega);rw [WS e] at this;exact this
    . exact ⟨by omega,by omega⟩
    . obtain rfl:p=u.2.1.length:=by omega
      have:=ih (i+1) (by show i+1<=l.length; omega) (by show l.length - (i+1)<l.length - i; omega);rw [show I6 nf first l w (i+1)=G2 x u u.2.1.length by rw [I6,qy,hu,hx]] at this;exact this
  . obtain rfl:i=l.length:=by omega
    rfl
theorem Jk {q:Int} {x:n7} {t:yY} (h:who t=q) (h2:(Q4 x.2.2.1 (nth t+1)).2.1=0):vx q x t=(x.1,x.2.1++[(who t,wu t,())],(Q4 x.2.2.1 (nth t+1)).1,x.2.2.2):=by
  rw [vx]; exact if_pos ⟨h,h2⟩
theorem Df {q:Int} {x:n7} {t:yY} (h:¬ (who t=q/\(Q4 x.2.2.1 (nth t+1)).2.1=0)):vx q x t=(x.1,x.2.1++[(who t,wu t,())],x.2.2):=by
  rw [vx]; exact if_neg h
theorem Pe (q:Int) (x:n7) (t:yY):(vx q x t).2.1=x.2.1++[(who t,wu t,())]:=by
  rw [vx]; split<;>rfl
theorem JY {q:Int} {x:n7} {l:List yY}:∀ i,(J6 q x l i).2.1.length=x.2.1.length+i
  | 0=>rfl
  | i+1=>by rw [J6,Pe,List.length_append,JY i]; rfl
def GK:o7:={ ps:=[.rw s6,.v yM],rs:=[],pre:=λ x=>(LE.le (α:=Int) 0 x.2.1.2.2.1/\LT.lt (α:=Int) x.2.1.2.2.1 (List.length (α:=n7) (x.1:f8).2.1))/\List.length (α:=C9) (N4 x.1 x.2.1.2.2.1).2.1<=1000000000000/\(∀ t∈(P9 x.1 x.2.1).2.1,okT t),fn:=λ _=>(),out:=λ x=>(uX x.1 x.2.1,()) }
noncomputable def Av:Env:={ P:=Tryz.prog,tt:=tt,C7:=[(83,FC),(86,KY),(84,Ks),(85,EP)],res:=[],rs:=[],ps:=[PK.rw s6,PK.v (Ty.pair e8 (Ty.pair e8 (Ty.pair e8 (Ty.pair e8 (Ty.pair e8 (Ty.pair X2 (Ty.pair Ty.str Ty.unit)))))))],B0:=[(6,[(3,none),(4,none),(49,some (Ty.d0 true Ty.str)),(50,none),(51,none)])],nt:=110 }
theorem IB:w7 Av:=x8 p7 ⟨Ry,b49,Yx,ZJ,trivial⟩
theorem IF:C2 Av Tryz.f67:=⟨rfl,rfl⟩
theorem VG (aj:Int) (af:Int) (ab:List n7) (ae:List yY) (aa:List yY) (bJ:Int) (aN:Int) (aK:Int) (aX:Int) (aG:Int) (aT:List Int) (aD:yY):exec Av 1000 [.code (d8 Tryz.prog 67)] (s9 GK.ps ((((aj,af,()),ab,ae,aa,()),(bJ,aN,aK,aX,aG,aT,aD,()),()))) =
  .f7 ((0:Int)<=aK/\aK<(↑(List.length ab):Int)) (.f7 (True) (cond (decide (Prod.fst (Prod.snd (Prod.snd (D0 (Prod.fst (Prod.snd (Prod.snd (Prod.snd (List.getD ab (Int.toNat aK) (false,[],((0:Int),[],()),((0:Int),[],()),((0:Int),[],()),())))))) (aG,aD,()))))≠(0:Int))) (.ret ((((aj,af,()),ab,ae,aa,()),()))) (.ctL (f9 (d8 Tryz.prog 67) 6) (St.mk [(3,AV.ptr 3 []),(4,AV.ptr 2000000 [Step.l6 1,Step.idx aK]),(49,AV.at_ 1000049 []),(50,AV.val e8 (↑(List.length (Prod.fst (Prod.snd (D0 (Prod.fst (Prod.snd (Prod.snd (Prod.snd (List.getD ab (Int.toNat aK) (false,[],((0:Int),[],()),((0:Int),[],()),((0:Int),[],()),())))))) (aG,aD,()))))):Int)),(51,AV.val e8 (0:Int))] [(3,g9.var (Ty.pair e8 (Ty.pair e8 (Ty.pair e8 (Ty.pair e8 (Ty.pair e8 (Ty.pair X2 (Ty.pair Ty.str Ty.unit))))))) (bJ,aN,aK,aX,aG,aT,aD,())),(1000049,g9.own (Ty.d0 true Ty.str) (Prod.fst (Prod.snd (D0 (Prod.fst (Prod.snd (Prod.snd (Prod.snd (List.getD ab (Int.toNat aK) (false,[],((0:Int),[],()),((0:Int),[],()),((0:Int),[],()),())))))) (aG,aD,()))))),(2000000,g9.var s6 ((aj,af,()),List.set ab (Int.toNat aK) (Prod.fst (List.getD ab (Int.toNat aK) (false,[],((0:Int),[],()),((0:Int),[],()),((0:Int),[],()),())),Prod.fst (Prod.snd (List.getD ab (Int.toNat aK) (false,[],((0:Int),[],()),((0:Int),[],()),((0:Int),[],()),()))),Prod.fst (Prod.snd (Prod.snd (List.getD ab (Int.toNat aK) (false,[],((0:Int),[],()),((0:Int),[],()),((0:Int),[],()),())))),Prod.fst (D0 (Prod.fst (Prod.snd (Prod.snd (Prod.snd (List.getD ab (Int.toNat aK) (false,[],((0:Int),[],()),((0:Int),[],()),((0:Int),[],()),())))))) (aG,aD,())),Prod.snd (Prod.snd (Prod.snd (Prod.snd (List.getD ab (Int.toNat aK) (false,[],((0:Int),[],()),((0:Int),[],()),((0:Int),[],()),())))))),ae,aa,()))])))):=by kernel_rfl
def IC (uC:Int) (xR:Int) (v51:Int) (cB:Int) (aV:Int) (aR:Int) (aJ:Int) (aE:Int) (aC:List Int) (au:yY) (bd:List yY) (aB:Int) (ao:Int) (ak:List n7) (an:List yY) (ah:List yY):St:=St.mk [(3,AV.ptr 3 []),(4,AV.ptr 2000000 [Step.l6 1,Step.idx uC]),(49,AV.at_ 1000049 []),(50,AV.val e8 xR),(51,AV.val e8 v51)] [(3,g9.var (Ty.pair e8 (Ty.pair e8 (Ty.pair e8 (Ty.pair e8 (Ty.pair e8 (Ty.pair X2 (Ty.pair Ty.str Ty.unit))))))) (cB,aV,aR,aJ,aE,aC,au,())),(1000049,g9.own (Ty.d0 true Ty.str) bd),(2000000,g9.var s6 ((aB,ao,()),ak,an,ah,()))]
theorem Xh (uC:Int) (xR:Int) (v51:Int) (cB:Int) (aV:Int) (aR:Int) (aJ:Int) (aE:Int) (aC:List Int) (au:yY) (bd:List yY) (aB:Int) (ao:Int) (ak:List n7) (an:List yY) (ah:List yY):exec Av 1000 (.code (f9 (d8 Tryz.prog 67) 6).1::.inLoop (f9 (d8 Tryz.prog 67) 6).1::(f9 (d8 Tryz.prog 67) 6).2) (IC uC xR v51 cB aV aR aJ aE aC au bd aB ao ak an ah) =
  cond (decide (v51<xR)) (.f7 ((0:Int)<=v51/\v51<(↑(List.length bd):Int)) (.f7 (List.length (List.getD bd (Int.toNat v51) [])<=1000000/\Array.toList (ByteArray.data (ByteArray.mk #[58]))=[(58:UInt8)]) (.f7 (List.length (Prod.fst (Prod.snd (w9 (List.getD bd (Int.toNat v51) []))))<=1000000/\Array.toList (ByteArray.data (ByteArray.mk #[58]))=[(58:UInt8)]) (.f7 (List.length (Prod.fst (w9 (List.getD bd (Int.toNat v51) [])))<=18/\Option.isSome (Go.Lib.atoi (Prod.fst (w9 (List.getD bd (Int.toNat v51) []))))=true) (.f7 (True/\True/\[Step.l6 1,Step.idx uC]++[Step.l6 1]=[Step.l6 1,Step.idx uC]++[Step.l6 1]/\List.length (Prod.fst (Prod.snd (List.getD ak (Int.toNat uC) (false,[],((0:Int),[],()),((0:Int),[],()),((0:Int),[],()),()))))+List.length (List.set [((0:Int),[],())] (Int.toNat (↑0:Int)) (Option.getD (Go.Lib.atoi (Prod.fst (w9 (List.getD bd (Int.toNat v51) [])))) (0:Int),Prod.fst (Prod.snd (w9 (Prod.fst (Prod.snd (w9 (List.getD bd (Int.toNat v51) [])))))),()))<=140737488355328/\(List.length (Prod.fst (Prod.snd (List.getD ak (Int.toNat uC) (false,[],((0:Int),[],()),((0:Int),[],()),((0:Int),[],()),()))))+List.length (List.set [((0:Int),[],())] (Int.toNat (↑0:Int)) (Option.getD (Go.Lib.atoi (Prod.fst (w9 (List.getD bd (Int.toNat v51) [])))) (0:Int),Prod.fst (Prod.snd (w9 (Prod.fst (Prod.snd (w9 (List.getD bd (Int.toNat v51) [])))))),())))*Ty.wb r7<=140737488355328) (cond (decide (Option.getD (Go.Lib.atoi (Prod.fst (w9 (List.getD bd (Int.toNat v51) [])))) (0:Int)=aR)) (.f7 (List.length (Prod.fst (w9 (Prod.fst (Prod.snd (w9 (List.getD bd (Int.toNat v51) []))))))<=18/\Option.isSome (Go.Lib.atoi (Prod.fst (w9 (Prod.fst (Prod.snd (w9 (List.getD bd (Int.toNat v51) [])))))))=true) (.f7 (r9 IntKind.i64 (Option.getD (Go.Lib.atoi (Prod.fst (w9 (Prod.fst (Prod.snd (w9 (List.getD bd (Int.toNat v51) []))))))) (0:Int)+(1:Int))) (.f7 ((0:Int)<=Option.getD (Go.Lib.atoi (Prod.fst (w9 (Prod.fst (Prod.snd (w9 (List.getD bd (Int.toNat v51) []))))))) (0:Int)+(1:Int)) (cond (decide (Prod.fst (Prod.snd (Q4 (Prod.fst (Prod.snd (Prod.snd (List.getD (List.set ak (Int.toNat uC) (Prod.fst (List.getD ak (Int.toNat uC) (false,[],((0:Int),[],()),((0:Int),[],()),((0:Int),[],()),())),Prod.fst (Prod.snd (List.getD ak (Int.toNat uC) (false,[],((0:Int),[],()),((0:Int),[],()),((0:Int),[],()),())))++List.set [((0:Int),[],())] (Int.toNat (↑0:Int)) (Option.getD (Go.Lib.atoi (Prod.fst (w9 (List.getD bd (Int.toNat v51) [])))) (0:Int),Prod.fst (Prod.snd (w9 (Prod.fst (Prod.snd (w9 (List.getD bd (Int.toNat v51) [])))))),()),Prod.snd (Prod.snd (List.getD ak (Int.toNat uC) (false,[],((0:Int),[],()),((0:Int),[],()),((0:Int),[],()),()))))) (Int.toNat uC) (false,[],((0:Int),[],()),((0:Int),[],()),((0:Int),[],()),()))))) (Option.getD (Go.Lib.atoi (Prod.fst (w9 (Prod.fst (Prod.snd (w9 (List.getD bd (Int.toNat v51) []))))))) (0:Int)+(1:Int))))=(0:Int))) (.f7 (r9 IntKind.i64 (v51+(1:Int))) (.ctL (f9 (d8 Tryz.prog 67) 6) (St.mk [(3,AV.ptr 3 []),(4,AV.ptr 2000000 [Step.l6 1,Step.idx uC]),(49,AV.at_ 1000049 []),(50,AV.val e8 xR),(51,AV.val e8 (v51+(1:Int)))] [(3,g9.var (Ty.pair e8 (Ty.pair e8 (Ty.pair e8 (Ty.pair e8 (Ty.pair e8 (Ty.pair X2 (Ty.pair Ty.str Ty.unit))))))) (cB,aV,aR,aJ,aE,aC,au,())),(1000049,g9.own (Ty.d0 true Ty.str) bd),(2000000,g9.var s6 ((aB,ao,()),List.set (List.set ak (Int.toNat uC) (Prod.fst (List.getD ak (Int.toNat uC) (false,[],((0:Int),[],()),((0:Int),[],()),((0:Int),[],()),())),Prod.fst (Prod.snd (List.getD ak (Int.toNat uC) (false,[],((0:Int),[],()),((0:Int),[],()),((0:Int),[],()),())))++List.set [((0:Int),[],())] (Int.toNat (↑0:Int)) (Option.getD (Go.Lib.atoi (Prod.fst (w9 (List.getD bd (Int.toNat v51) [])))) (0:Int),Prod.fst (Prod.snd (w9 (Prod.fst (Prod.snd (w9 (List.getD bd (Int.toNat v51) [])))))),()),Prod.snd (Prod.snd (List.getD ak (Int.toNat uC) (false,[],((0:Int),[],()),((0:Int),[],()),((0:Int),[],()),()))))) (Int.toNat uC) (Prod.fst (List.getD (List.set ak (Int.toNat uC) (Prod.fst (List.getD ak (Int.toNat uC) (false,[],((0:Int),[],()),((0:Int),[],()),((0:Int),[],()),())),Prod.fst (Prod.snd (List.getD ak (Int.toNat uC) (false,[],((0:Int),[],()),((0:Int),[],()),((0:Int),[],()),())))++List.set [((0:Int),[],())] (Int.toNat (↑0:Int)) (Option.getD (Go.Lib.atoi (Prod.fst (w9 (List.getD bd (Int.toNat v51) [])))) (0:Int),Prod.fst (Prod.snd (w9 (Prod.fst (Prod.snd (w9 (List.getD bd (Int.toNat v51) [])))))),()),Prod.snd (Prod.snd (List.getD ak (Int.toNat uC) (false,[],((0:Int),[],()),((0:Int),[],()),((0:Int),[],()),()))))) (Int.toNat uC) (false,[],((0:Int),[],()),((0:Int),[],()),((0:Int),[],()),())),Prod.fst (Prod.snd (List.getD (List.set ak (Int.toNat uC) (Prod.fst (List.getD ak (Int.toNat uC) (false,[],((0:Int),[],()),((0:Int),[],()),((0:Int),[],()),())),Prod.fst (Prod.snd (List.getD ak (Int.toNat uC) (false,[],((0:Int),[],()),((0:Int),[],()),((0:Int),[],()),())))++List.set [((0:Int),[],())] (Int.toNat (↑0:Int)) (Option.getD (Go.Lib.atoi (Prod.fst (w9 (List.getD bd (Int.toNat v51) [])))) (0:Int),Prod.fst (Prod.snd (w9 (Prod.fst (Prod.snd (w9 (List.getD bd (Int.toNat v51) [])))))),()),Prod.snd (Prod.snd (List.getD ak (Int.toNat uC) (false,[],((0:Int),[],()),((0:Int),[],()),((0:Int),[],()),()))))) (Int.toNat uC) (false,[],((0:Int),[],()),((0:Int),[],()),((0:Int),[],()),()))),Prod.fst (Q4 (Prod.fst (Prod.snd (Prod.snd (List.getD (List.set ak (Int.toNat uC) (Prod.fst (List.getD ak (Int.toNat uC) (false,[],((0:Int),[],()),((0:Int),[],()),((0:Int),[],()),())),Prod.fst (Prod.snd (List.getD ak (Int.toNat uC) (false,[],((0:Int),[],()),((0:Int),[],()),((0:Int),[],()),())))++List.set [((0:Int),[],())] (Int.toNat (↑0:Int)) (Option.getD (Go.Lib.atoi (Prod.fst (w9 (List.getD bd (Int.toNat v51) [])))) (0:Int),Prod.fst (Prod.snd (w9 (Prod.fst (Prod.snd (w9 (List.getD bd (Int.toNat v51) [])))))),()),Prod.snd (Prod.snd (List.getD ak (Int.toNat uC) (false,[],((0:Int),[],()),((0:Int),[],()),((0:Int),[],()),()))))) (Int.toNat uC) (false,[],((0:Int),[],()),((0:Int),[],()),((0:Int),[],()),()))))) (Option.getD (Go.Lib.atoi (Prod.fst (w9 (Prod.fst (Prod.snd (w9 (List.getD bd (Int.toNat v51) []))))))) (0:Int)+(1:Int))),Prod.snd (Prod.snd (Prod.snd (List.getD (List.set ak (Int.toNat uC) (Prod.fst (List.getD ak (Int.toNat uC) (false,[],((0:Int),[],()),((0:Int),[],()),((0:Int),[],()),())),Prod.fst (Prod.snd (List.getD ak (Int.toNat uC) (false,[],((0:Int),[],()),((0:Int),[],()),((0:Int),[],()),())))++List.set [((0:Int),[],())] (Int.toNat (↑0:Int)) (Option.getD (Go.Lib.atoi (Prod.fst (w9 (List.getD bd (Int.toNat v51) [])))) (0:Int),Prod.fst (Prod.snd (w9 (Prod.fst (Prod.snd (w9 (List.getD bd (Int.toNat v51) [])))))),()),Prod.snd (Prod.snd (List.getD ak (Int.toNat uC) (false,[],((0:Int),[],()),((0:Int),[],()),((0:Int),[],()),()))))) (Int.toNat uC) (false,[],((0:Int),[],()),((0:Int),[],()),((0:Int),[],()),()))))),an,ah,()))]))) (.f7 (r9 IntKind.i64 (v51+(1:Int))) (.ctL (f9 (d8 Tryz.prog 67) 6) (St.mk [(3,AV.ptr 3 []),(4,AV.ptr 2000000 [Step.l6 1,Step.idx uC]),(49,AV.at_ 1000049 []),(50,AV.val e8 xR),(51,AV.val e8 (v51+(1:Int)))] [(3,g9.var (Ty.pair e8 (Ty.pair e8 (Ty.pair e8 (Ty.pair e8 (Ty.pair e8 (Ty.pair X2 (Ty.pair Ty.str Ty.unit))))))) (cB,aV,aR,aJ,aE,aC,au,())),(1000049,g9.own (Ty.d0 true Ty.str) bd),(2000000,g9.var s6 ((aB,ao,()),List.set ak (Int.toNat uC) (Prod.fst (List.getD ak (Int.toNat uC) (false,[],((0:Int),[],()),((0:Int),[],()),((0:Int),[],()),())),Prod.fst (Prod.snd (List.getD ak (Int.toNat uC) (false,[],((0:Int),[],()),((0:Int),[],()),((0:Int),[],()),())))++List.set [((0:Int),[],())] (Int.toNat (↑0:Int)) (Option.getD (Go.Lib.atoi (Prod.fst (w9 (List.getD bd (Int.toNat v51) [])))) (0:Int),Prod.fst (Prod.snd (w9 (Prod.fst (Prod.snd (w9 (List.getD bd (Int.toNat v51) [])))))),()),Prod.snd (Prod.snd (List.getD ak (Int.toNat uC) (false,[],((0:Int),[],()),((0:Int),[],()),((0:Int),[],()),())))),an,ah,()))]))))))) (.f7 (r9 IntKind.i64 (v51+(1:Int))) (.ctL (f9 (d8 Tryz.prog 67) 6) (St.mk [(3,AV.ptr 3 []),(4,AV.ptr 2000000 [Step.l6 1,Step.idx uC]),(49,AV.at_ 1000049 []),(50,AV.val e8 xR),(51,AV.val e8 (v51+(1:Int)))] [(3,g9.var (Ty.pair e8 (Ty.pair e8 (Ty.pair e8 (Ty.pair e8 (Ty.pair e8 (Ty.pair X2 (Ty.pair Ty.str Ty.unit))))))) (cB,aV,aR,aJ,aE,aC,au,())),(1000049,g9.own (Ty.d0 true Ty.str) bd),(2000000,g9.var s6 ((aB,ao,()),List.set ak (Int.toNat uC) (Prod.fst (List.getD ak (Int.toNat uC) (false,[],((0:Int),[],()),((0:Int),[],()),((0:Int),[],()),())),Prod.fst (Prod.snd (List.getD ak (Int.toNat uC) (false,[],((0:Int),[],()),((0:Int),[],()),((0:Int),[],()),())))++List.set [((0:Int),[],())] (Int.toNat (↑0:Int)) (Option.getD (Go.Lib.atoi (Prod.fst (w9 (List.getD bd (Int.toNat v51) [])))) (0:Int),Prod.fst (Prod.snd (w9 (Prod.fst (Prod.snd (w9 (List.getD bd (Int.toNat v51) [])))))),()),Prod.snd (Prod.snd (List.getD ak (Int.toNat uC) (false,[],((0:Int),[],()),((0:Int),[],()),((0:Int),[],()),())))),an,ah,()))]))))))))) (.ret ((((aB,ao,()),ak,an,ah,()),()))):=by kernel_rfl
attribute [local irreducible] uX D0 Q4 w9 Lib.atoi in
theorem b40:GK.Valid Tryz.prog 67:=by
  refine o7.o5 IB rfl rfl Tryz.func67 (c:=d8 Tryz.prog 67) rfl rfl IF rfl ?_;rintro ⟨⟨⟨(v0:Int),(v1:Int),⟨⟩⟩,(al:List n7),(od:List yY),(wy:List yY),⟨⟩⟩,⟨(nk:Int),(nf:Int),(nt:Int),(nv:Int),(ns:Int),(na:List Int),(nx:yY),⟨⟩⟩,⟨⟩⟩ ⟨(hp:0<=nt/\nt<(al.length:Int)),(hl:(N4 ((v0,v1,()),al,od,wy,()) nt).2.1.length<=1000000000000),(aM:∀ t∈(P9 ((v0,v1,()),al,od,wy,()) (nk,nf,nt,nv,ns,na,nx,())).2.1,okT t)⟩ -
  refine j6 (n:=1000) IB IF ?_;refine i6 (VG v0 v1 al od wy nk nf nt nv ns na nx) ?_;simp only [j7,Tree.holds,sL];have e1:=λ a=>(uX.eq_1 ((v0,v1,()),al,od,wy,()) (nk,nf,nt,nv,ns,na,nx,())).trans (if_pos a);have e2:=λ a=>(uX.eq_1 ((v0,v1,()),al,od,wy,()) (nk,nf,nt,nv,ns,na,nx,())).trans (if_neg a);have key:∀ r:f8,uX ((v0,v1,()),al,od,wy,()) (nk,nf,nt,nv,ns,na,nx,())=r->(((r,()):f8×Unit)=(uX ((v0,v1,()),al,od,wy,()) (nk,nf,nt,nv,ns,na,nx,()),())):=by rintro r rfl; rfl
  refine ⟨hp,λ _=>⟨λ a=>key _ (e1 a),λ a=>?_⟩⟩;have e3:=e2 a;have bF:=yC (Decidable.not_not.1 a);obtain ⟨x,hx⟩:∃ x:n7,x=Ai (N4 ((v0,v1,()),al,od,wy,()) nt) (P9 ((v0,v1,()),al,od,wy,()) (nk,nf,nt,nv,ns,na,nx,())).1:=⟨_,rfl⟩;obtain ⟨l,lA⟩:∃ l,l=(P9 ((v0,v1,()),al,od,wy,()) (nk,nf,nt,nv,ns,na,nx,())).2.1:=⟨_,rfl⟩;have qp:x.2.1.length<=1000000000000:=by rw [hx]; exact hl
  have so:l.length<=16:=by rw [lA]; exact bF.2.2.1
  have bf:∀ t∈l,D8 t=false:=by rw [lA]; exact λ t ht=>(bF.1 t ht).2
  have iR:∀ t∈l,okT t:=by rw [lA]; exact aM
  suffices go:Go.Ex.Reach Av Tryz.f67 () (xI ((v0,v1,()),al,od,wy,()) nt (J6 nt x l l.length),()) (.code (f9 (d8 Tryz.prog 67) 6).1::.inLoop (f9 (d8 Tryz.prog 67) 6).1::(f9 (d8 Tryz.prog 67) 6).2) (IC nt (l.length:Int) ((0:Nat):Int) nk nf nt nv ns na nx l v0 v1 (al.set nt.toNat (J6 nt x l 0)) od wy) by
    subst hx; subst lA;rw [e3];rw [J6] at go;exact go
  refine Reach.M9 IB IF (λ i:Nat=>IC nt (l.length:Int) (i:Int) nk nf nt nv ns na nx l v0 v1 (al.set nt.toNat (J6 nt x l i)) od wy) (λ i=>i<=l.length)
    (λ i=>l.length - i) 1000 (λ _=>⟨u7 rfl,u7 rfl⟩) ?_ 0 (Nat.zero_le _)
  rintro i k1 - ih;have k1:i<=l.length:=k1;refine i6 (Xh ..) ?_;have e4:((i:Nat):Int)+1=((i+1:Nat):Int):=by omega
  have hg:∀ y:n7,(al.set nt.toNat y).getD nt.toNat (false,[],(0,[],()),(0,[],()),(0,[],()),())=y:=λ y=>by
    rw [List.getD_eq_getElem?_getD,List.getElem?_set_self (by omega)]; rfl
  have oz:∀ y z:n7,(al.set nt.toNat y).set nt.toNat z=al.set nt.toNat z:=λ y z=>List.set_set ..;have jd:Ty.wb r7=24:=rfl;have hlen:=JY (q:=nt) (x:=x) (l:=l) i;obtain ⟨y,hy⟩:∃ y,y=J6 nt x l i:=⟨_,rfl⟩;obtain ⟨t,ht⟩:∃ t,t=l.getD i []:=⟨_,rfl⟩;have hs:J6 nt x l (i+1)=vx nt y t:=by rw [J6,<- hy,<- ht]
  have hT:i<l.length->D8 t=false/\okT t:=λ h=>by
    have:t∈l:=by rw [ht,List.getD_eq_getElem?_getD,List.getElem?_eq_getElem h]; exact List.getElem_mem _
    exact ⟨bf t this,iR t this⟩
  have ih1:i<l.length->_:=λ h=>ih (i+1) (by show i+1<=l.length; omega) (by show l.length - (i+1)<l.length - i; omega);rw [hs] at ih1;rw [<- hy] at hlen ⊢;simp only [j7,Tree.holds,e4,hg,oz,sL];rw [<- ht];have dK:=AR t;have ib:=AR (w9 t).2.1;refine ⟨λ c=>?_,λ c=>?_⟩
  . have c':i<l.length:=by omega
    obtain ⟨g1,g2⟩:=hT c';have g3:=IY g1;have g4:=UH g2;refine ⟨⟨by omega,by omega⟩,λ _=>⟨⟨by omega,trivial⟩,λ _=>⟨⟨by omega,trivial⟩,λ _=>⟨g4.1,λ _=>⟨?_,λ _=>⟨λ d=>⟨g4.2.1,λ _=>⟨?_,λ _=>⟨?_,λ _=>⟨λ e=>⟨?_,λ _=>?_⟩,λ e=>⟨?_,λ _=>?_⟩⟩⟩⟩⟩,λ d=>⟨?_,λ _=>?_⟩⟩⟩⟩⟩⟩⟩
    . rw [jd]; omega
    . have:0<=nth t/\nth t<=16777300:=g4.2.2;show r9 .i64 (nth t+1);exact F1.2 ⟨by omega,by omega⟩
    . have:0<=nth t/\nth t<=16777300:=g4.2.2;show 0<=nth t+1;omega
    . exact ⟨by omega,by omega⟩
    . have:=ih1 c';rw [Jk d e] at this;exact this
    . exact ⟨by omega,by omega⟩
    . have:=ih1 c';rw [Df (λ h=>e h.2)] at this;exact this
    . exact ⟨by omega,by omega⟩
    . have:=ih1 c';rw [Df (λ h=>d h.1)] at this;exact this
  . obtain rfl:i=l.length:=by omega
    rw [hy]; rfl
theorem zy {w:f8} {n:y8}:∀ j,(F2 w n j).2.1=w.2.1/\(F2 w n j).1=w.1/\(F2 w n j).2.2.1=w.2.2.1
  | 0=>⟨rfl,rfl,rfl⟩
  | j+1=>by
    obtain ⟨h1,h2,h3⟩:=zy (w:=w) (n:=n) j;rw [F2]
    split
    . obtain ⟨g1,g2,g3⟩:=DA (w:=F2 w n j) (k:=2) (f:=K8 (F2 w n j)) (t:=n.2.1) (s:=n.2.2.2.2.1+j) (x:=(F2 w n j).2.2.1.getD (n.2.2.2.2.1+j).toNat []);exact ⟨g1.trans h1,g2.trans h2,g3.trans h3⟩
    . exact ⟨h1,h2,h3⟩
theorem Xu {w:f8} {n:y8} {j:Nat} (h:n.2.2.2.2.1+j<(F2 w n j).2.2.1.length):F2 w n (j+1)=L7 (F2 w n j) 2 (K8 (F2 w n j)) n.2.1 (n.2.2.2.2.1+j) ((F2 w n j).2.2.1.getD (n.2.2.2.2.1+j).toNat []):=by
  rw [F2]; exact if_pos h
theorem Qw {w:f8} {n:y8} {j:Nat} (h:¬ n.2.2.2.2.1+j<w.2.2.1.length):∀ m,F2 w n (j+m)=F2 w n j
  | 0=>rfl
  | m+1=>by
    rw [<- Nat.add_assoc,F2,if_neg,Qw h m];rw [(zy (j+m)).2.2];omega
structure wD (w:f8) (n:y8):Prop where
  L9:w.2.1.length<=6
  to:0<=n.2.2.1/\n.2.2.1<(w.2.1.length:Int)
  seq:0<=n.2.2.2.2.1/\n.2.2.2.2.1<=16777215
  log:(N4 w n.2.2.1).2.1.length<=1000000000000
  ord:w.2.2.1.length<=1000000000000
  txt:n.1=2->∀ t∈(P9 w n).2.1,okT t
def HB:o7:={ ps:=[.rw s6,.v yM],rs:=[],pre:=λ x=>wD x.1 x.2.1,fn:=λ _=>(),out:=λ x=>(F6 x.1 x.2.1,()) }
noncomputable def Bn:Env:={ P:=Tryz.prog,tt:=tt,C7:=[(49,ze),(66,GJ),(67,GK),(43,za),(44,yQ)],res:=[],rs:=[],ps:=[PK.rw s6,PK.v (Ty.pair e8 (Ty.pair e8 (Ty.pair e8 (Ty.pair e8 (Ty.pair e8 (Ty.pair X2 (Ty.pair Ty.str Ty.unit)))))))],B0:=[(7,[(0,none),(3,none),(4,none)])],nt:=56 }
theorem JH:w7 Bn:=x8 p7 ⟨a12,b42,b40,DV,DP,trivial⟩
theorem Kk:C2 Bn Tryz.f48:=⟨rfl,rfl⟩
theorem b7J (aj:Int) (af:Int) (ab:List n7) (ae:List yY) (aa:List yY) (bJ:Int) (aN:Int) (aK:Int) (aX:Int) (aG:Int) (aT:List Int) (aD:yY):exec Bn 1000 [.code (d8 Tryz.prog 48)] (s9 HB.ps ((((aj,af,()),ab,ae,aa,()),(bJ,aN,aK,aX,aG,aT,aD,()),()))) =
  .f7 (List.length ab<=6) (cond (decide (known ((aj,af,()),ab,ae,aa,()) aN≠(0:Int))) (.ret ((((aj,af,()),ab,ae,aa,()),()))) (cond (decide (bJ=(1:Int))) (.f7 (List.length ab<=6/\¬known ((aj,af,()),ab,ae,aa,()) aN≠(0:Int)/\List.length ae<=1000000000000) (.ret ((W7 ((aj,af,()),ab,ae,aa,()) (bJ,aN,aK,aX,aG,aT,aD,()),())))) (cond (decide (bJ=(3:Int))) (.ctL (f9 (d8 Tryz.prog 48) 7) (St.mk [(0,AV.ptr 2000000 []),(3,AV.ptr 3 []),(4,AV.val e8 aG)] [(3,g9.var (Ty.pair e8 (Ty.pair e8 (Ty.pair e8 (Ty.pair e8 (Ty.pair e8 (Ty.pair X2 (Ty.pair Ty.str Ty.unit))))))) (bJ,aN,aK,aX,aG,aT,aD,())),(2000000,g9.var s6 ((aj,af,()),ab,ae,aa,()))])) (cond (decide (bJ=(2:Int))) (.f7 (((0:Int)<=aK/\aK<(↑(List.length ab):Int))/\List.length (Prod.fst (Prod.snd (N4 ((aj,af,()),ab,ae,aa,()) aK)))<=1000000000000/\∀ (t:yY),t∈Prod.fst (Prod.snd (P9 ((aj,af,()),ab,ae,aa,()) (bJ,aN,aK,aX,aG,aT,aD,())))->okT t) (.ret ((uX ((aj,af,()),ab,ae,aa,()) (bJ,aN,aK,aX,aG,aT,aD,()),())))) (.ret ((((aj,af,()),ab,ae,aa,()),()))))))):=by kernel_rfl
def JI (v4:Int) (cB:Int) (aV:Int) (aR:Int) (aJ:Int) (aE:Int) (aC:List Int) (au:yY) (aB:Int) (ao:Int) (ak:List n7) (an:List yY) (ah:List yY):St:=St.mk [(0,AV.ptr 2000000 []),(3,AV.ptr 3 []),(4,AV.val e8 v4)] [(3,g9.var (Ty.pair e8 (Ty.pair e8 (Ty.pair e8 (Ty.pair e8 (Ty.pair e8 (Ty.pair X2 (Ty.pair Ty.str Ty.unit))))))) (cB,aV,aR,aJ,aE,aC,au,())),(2000000,g9.var s6 ((aB,ao,()),ak,an,ah,()))]
theorem b6n (v4:Int) (cB:Int) (aV:Int) (aR:Int) (aJ:Int) (aE:Int) (aC:List Int) (au:yY) (aB:Int) (ao:Int) (ak:List n7) (an:List yY) (ah:List yY):exec Bn 1000 (.code (f9 (d8 Tryz.prog 48) 7).1::.inLoop (f9 (d8 Tryz.prog 48) 7).1::(f9 (d8 Tryz.prog 48) 7).2) (JI v4 cB aV aR aJ aE aC au aB ao ak an ah) =
  cond (decide (v4<(↑(List.length an):Int))) (.f7 (r9 IntKind.i64 (aE+(4:Int))) (cond (decide (v4<aE+(4:Int))) (.f7 (True) (.f7 ((0:Int)<=v4/\v4<(↑(List.length an):Int)) (.f7 (True) (.f7 (r9 IntKind.i64 (v4+(1:Int))) (.ctL (f9 (d8 Tryz.prog 48) 7) (St.mk [(0,AV.ptr 2000000 []),(3,AV.ptr 3 []),(4,AV.val e8 (v4+(1:Int)))] [(3,g9.var (Ty.pair e8 (Ty.pair e8 (Ty.pair e8 (Ty.pair e8 (Ty.pair e8 (Ty.pair X2 (Ty.pair Ty.str Ty.unit))))))) (cB,aV,aR,aJ,aE,aC,au,())),(2000000,g9.var s6 (L7 ((aB,ao,()),ak,an,ah,()) (2:Int) (K8 ((aB,ao,()),ak,an,ah,())) aV v4 (List.getD an (Int.toNat v4) [])))])))))) (.ret ((((aB,ao,()),ak,an,ah,()),()))))) (.ret ((((aB,ao,()),ak,an,ah,()),()))):=by kernel_rfl
theorem QV {w:f8} {n:y8} (h:known w n.2.1≠0):F6 w n=w:=by rw [F6]; exact if_pos h
theorem RL {w:f8} {n:y8} (h:¬ known w n.2.1≠0) (h1:n.1=1):F6 w n=W7 w n:=by rw [F6]; exact (if_neg h).trans (if_pos h1)
theorem RJ {w:f8} {n:y8} (h:¬ known w n.2.1≠0) (h1:n.1=3):F6 w n=F2 w n 4:=by rw [F6]; exact (if_neg h).trans ((if_neg (by omega)).trans (if_pos h1))
theorem RO {w:f8} {n:y8} (h:¬ known w n.2.1≠0) (h1:n.1=2):F6 w n=uX w n:=by rw [F6]; exact (if_neg h).trans ((if_neg (by omega)).trans ((if_neg (by omega)).trans (if_pos h1)))
theorem RN {w:f8} {n:y8} (h1:n.1≠1) (h2:n.1≠3) (h3:n.1≠2):F6 w n=w:=by
  rw [F6,if_neg h1,if_neg h2,if_neg h3]; split<;>rfl
attribute [local irreducible] F6 W7 uX F2 L7 in
theorem b1J:HB.Valid Tryz.prog 48:=by
  refine o7.o5 JH rfl rfl Tryz.func48 (c:=d8 Tryz.prog 48) rfl rfl Kk rfl ?_;rintro ⟨⟨⟨(v0:Int),(v1:Int),⟨⟩⟩,(al:List n7),(od:List yY),(wy:List yY),⟨⟩⟩,⟨(nk:Int),(nf:Int),(nt:Int),(nv:Int),(ns:Int),(na:List Int),(nx:yY),⟨⟩⟩,⟨⟩⟩ (hq:wD ((v0,v1,()),al,od,wy,()) (nk,nf,nt,nv,ns,na,nx,())) -
  refine j6 (n:=1000) JH Kk ?_;refine i6 (b7J v0 v1 al od wy nk nf nt nv ns na nx) ?_;simp only [j7,Tree.holds,sL];have key:∀ r:f8,F6 ((v0,v1,()),al,od,wy,()) (nk,nf,nt,nv,ns,na,nx,())=r->(((r,()):f8×Unit)=(F6 ((v0,v1,()),al,od,wy,()) (nk,nf,nt,nv,ns,na,nx,()),())):=by rintro r rfl; rfl
  refine ⟨hq.L9,λ _=>⟨λ a=>key _ (QV a),λ a=>⟨λ b=>⟨⟨hq.L9,a,hq.ord⟩,λ _=>key _ (RL a b)⟩,λ b=>⟨λ c=>?_,λ c=>⟨λ d=>⟨⟨hq.to,hq.log,hq.txt d⟩,λ _=>key _ (RO a d)⟩,λ d=>key _ (RN b c d)⟩⟩⟩⟩⟩;obtain ⟨w,hw⟩:∃ w:f8,w=((v0,v1,()),al,od,wy,()):=⟨_,rfl⟩;obtain ⟨n,hn⟩:∃ n:y8,n=(nk,nf,nt,nv,ns,na,nx,()):=⟨_,rfl⟩;have e3:F6 ((v0,v1,()),al,od,wy,()) (nk,nf,nt,nv,ns,na,nx,())=F2 w n 4:=by rw [hw,hn]; exact RJ a c
  have fY:0<=ns/\ns<=16777215:=hq.seq;have mj:n.2.2.2.2.1=ns:=by rw [hn]
  have nG:n.2.1=nf:=by rw [hn]
  have qs:w.2.2.1=od:=by rw [hw]
  suffices go:Go.Ex.Reach Bn Tryz.f48 () (F2 w n 4,()) (.code (f9 (d8 Tryz.prog 48) 7).1::.inLoop (f9 (d8 Tryz.prog 48) 7).1::(f9 (d8 Tryz.prog 48) 7).2) (JI (ns+((0:Nat):Int)) nk nf nt nv ns na nx (F2 w n 0).1.1 (F2 w n 0).1.2.1 (F2 w n 0).2.1 (F2 w n 0).2.2.1 (F2 w n 0).2.2.2.1) by
    rw [e3];rw [F2,show ns+((0:Nat):Int)=ns by omega] at go;rw [hw] at go ⊢;exact go
  refine Reach.M9 JH Kk (λ j:Nat=>JI (ns+(j:Int)) nk nf nt nv ns na nx (F2 w n j).1.1 (F2 w n j).1.2.1 (F2 w n j).2.1 (F2 w n j).2.2.1 (F2 w n j).2.2.2.1) (λ j=>j<=4)
    (λ j=>4 - j) 1000 (λ _=>⟨u7 rfl,u7 rfl⟩) ?_ 0 (Nat.zero_le _)
  rintro j k1 - ih;have k1:j<=4:=k1;refine i6 (b6n ..) ?_;have e4:ns+(j:Int)+1=ns+((j+1:Nat):Int):=by omega
  have t3:=(zy (w:=w) (n:=n) j).2.2;simp only [j7,Tree.holds,e4,sL];refine ⟨λ d=>⟨?_,λ _=>⟨λ e=>⟨⟨by omega,d⟩,λ _=>⟨?_,λ _=>?_⟩⟩,λ e=>?_⟩⟩,λ d=>?_⟩
  . exact F1.2 ⟨by omega,by omega⟩
  . exact F1.2 ⟨by omega,by omega⟩
  . have:=ih (j+1) (by show j+1<=4; omega) (by show 4 - (j+1)<4 - j; omega);rw [Xu (j:=j) (by rw [mj]; exact d)] at this;rw [mj,nG] at this;exact this
  . obtain rfl:j=4:=by omega
    rfl
  . have:=Qw (w:=w) (n:=n) (j:=j) (by rw [mj,<- t3]; exact d) (4 - j);rw [show j+(4 - j)=4 by omega] at this;rw [this]; rfl
abbrev noB:yY:=[]
def FD:o7:={ ps:=[.own (.d0 true .str),.v e8,.v e8],rs:=[.d0 true .str],pre:=λ x=>LE.le (α:=Int) 0 x.2.1/\LE.le (α:=Int) x.2.1 x.2.2.1/\LE.le (α:=Int) x.2.2.1 (List.length (α:=yY) x.1),fn:=λ x=>(List.take (α:=yY) (Int.toNat x.2.1) x.1++List.drop (α:=yY) (Int.toNat x.2.2.1) x.1,()),out:=λ _=>() }
noncomputable def Fl:Env:={ P:=Tryz.prog,tt:=tt,C7:=[],res:=[Go.ResultVar.tmp 6],rs:=[Ty.d0 true Ty.str],ps:=[PK.own (Ty.d0 true Ty.str),PK.v e8,PK.v e8],B0:=[],nt:=33 }
theorem Nt:w7 Fl:=x8 p7 trivial
theorem NK:C2 Fl Tryz.f45:=⟨rfl,rfl⟩
theorem Tw (x0:List yY) (x1:Int) (x2:Int):exec Fl 1000 [.code (d8 Tryz.prog 45)] (s9 FD.ps ((x0,x1,x2,()))) =
  .f7 ((0:Int)<=x1/\x1<=x2/\x2<=(↑(List.length x0):Int)/\(↑(List.length x0):Int)<=(↑(List.length x0):Int)) (cond (decide (x1=x2)) (.ret ((x0,()))) (.f7 ((0:Int)<=(0:Int)/\(0:Int)<=x1/\x1<=(↑(List.length x0):Int)) (.f7 ((0:Int)<=x2/\x2<=(↑(List.length x0):Int)/\(↑(List.length x0):Int)<=(↑(List.length x0):Int)) (.f7 (x1+(↑(List.length (n6 x2 (↑(List.length x0):Int) x0)):Int)<=(↑(List.length x0):Int)) (.f7 ((0:Int)<=x1+(↑(List.length (n6 x2 (↑(List.length x0):Int) x0)):Int) - (0:Int)/\x1+(↑(List.length (n6 x2 (↑(List.length x0):Int) x0)):Int) - (0:Int)<=(↑(List.length x0):Int)/\(0:Int)+(↑(List.length x0):Int)<=(↑(List.length (List.take (Int.toNat x1) x0++n6 x2 (↑(List.length x0):Int) x0++List.drop (Int.toNat x1+List.length (n6 x2 (↑(List.length x0):Int) x0)) x0)):Int)) (.ret ((n6 (0:Int) (x1+(↑(List.length (n6 x2 (↑(List.length x0):Int) x0)):Int)) (List.take (Int.toNat ((0:Int)+(x1+(↑(List.length (n6 x2 (↑(List.length x0):Int) x0)):Int) - (0:Int)))) (List.take (Int.toNat x1) x0++n6 x2 (↑(List.length x0):Int) x0++List.drop (Int.toNat x1+List.length (n6 x2 (↑(List.length x0):Int) x0)) x0)++List.replicate (Int.toNat ((0:Int)+(↑(List.length x0):Int) - ((0:Int)+(x1+(↑(List.length (n6 x2 (↑(List.length x0):Int) x0)):Int) - (0:Int))))) []++List.drop (Int.toNat ((0:Int)+(x1+(↑(List.length (n6 x2 (↑(List.length x0):Int) x0)):Int) - (0:Int)))+List.length (List.replicate (Int.toNat ((0:Int)+(↑(List.length x0):Int) - ((0:Int)+(x1+(↑(List.length (n6 x2 (↑(List.length x0):Int) x0)):Int) - (0:Int))))) noB)) (List.take (Int.toNat x1) x0++n6 x2 (↑(List.length x0):Int) x0++List.drop (Int.toNat x1+List.length (n6 x2 (↑(List.length x0):Int) x0)) x0)),())))))))):=by kernel_rfl
theorem b69:FD.Valid Tryz.prog 45:=by
  refine o7.o5 Nt rfl rfl Tryz.func45 (c:=d8 Tryz.prog 45) rfl rfl NK rfl ?_;rintro ⟨(l:List yY),(i:Int),(j:Int),⟨⟩⟩ ⟨(h0:0<=i),(h1:i<=j),(h2:j<=(l.length:Int))⟩ -
  refine j6 (n:=1000) Nt NK ?_;refine i6 (Tw l i j) ?_;simp only [j7,Tree.holds,sL];have hc:=LU h0 h1 h2 (l:=l);have hm:=GN h0 h1 h2 (l:=l);refine ⟨⟨h0,h1,h2,Int.le_refl _⟩,λ _=>⟨λ e=>?_,λ e=>⟨by omega,λ _=>⟨by omega,λ _=>⟨by omega,λ _=>⟨by omega,λ _=>?_⟩⟩⟩⟩⟩⟩
  . subst e;show ((l,()):List yY×Unit)=(l.take i.toNat++l.drop i.toNat,());rw [List.take_append_drop]
  . exact congrArg (λ y=>(y,())) (Us h0 h1 h2 (l:=l))
structure AG (w:f8):Prop where
  L9:w.2.1.length<=6
  way:w.2.2.2.1.length<=60
  note:∀ s∈w.2.2.2.1,(w6 s).2.1=0->(w6 s).1.2.2.2.1=w.1.1->s5 w (w6 s).1.2.2.1=true->wD w (w6 s).1
def Ch:o7:={ ps:=[.rw s6,.v e8,.v e8],rs:=[e8],pre:=λ x=>AG x.1,fn:=λ x=>((F5 x.1 x.2.1 x.2.2.1).2,()),out:=λ x=>((F5 x.1 x.2.1 x.2.2.1).1,()) }
noncomputable def Ge:Env:={ P:=Tryz.prog,tt:=tt,C7:=[(40,yP),(45,FD),(46,FP),(47,xV),(48,HB)],res:=[Go.ResultVar.tmp 6],rs:=[Ty.int IntKind.i64],ps:=[PK.rw s6,PK.v e8,PK.v e8],B0:=[],nt:=95 }
theorem ON:w7 Ge:=x8 p7 ⟨DO,b69,b7b,BC,b1J,trivial⟩
theorem Qa:C2 Ge Tryz.f18:=⟨rfl,rfl⟩
theorem VE (aj:Int) (af:Int) (ab:List n7) (ae:List yY) (aa:List yY) (x1:Int) (x2:Int):exec Ge 1000 [.code (d8 Tryz.prog 18)] (s9 Ch.ps ((((aj,af,()),ab,ae,aa,()),x1,x2,()))) =
  .f7 (True) (cond (!I2 x2 (1:Int) (3:Int)) (.ret (((1:Int),((aj,af,()),ab,ae,aa,()),()))) (.f7 (r9 IntKind.i64 ((↑(List.length aa):Int) - (1:Int))) (.f7 (True) (cond (!I2 x1 (0:Int) ((↑(List.length aa):Int) - (1:Int))) (.ret (((6:Int),((aj,af,()),ab,ae,aa,()),()))) (cond (decide (x2=(3:Int))) (cond (decide ((↑(List.length aa):Int)=(60:Int))) (.ret (((8:Int),((aj,af,()),ab,ae,aa,()),()))) (.f7 ((0:Int)<=x1/\x1<(↑(List.length aa):Int)) (cond (decide (x2=(3:Int))) (.f7 (True/\True/\[]++[Step.l6 3]=[]++[Step.l6 3]/\List.length aa+List.length (List.set [[]] (Int.toNat (↑0:Int)) (List.getD aa (Int.toNat x1) []))<=140737488355328/\(List.length aa+List.length (List.set [[]] (Int.toNat (↑0:Int)) (List.getD aa (Int.toNat x1) [])))*Ty.wb Ty.str<=140737488355328) (.ret (((0:Int),((aj,af,()),ab,ae,aa++List.set [[]] (Int.toNat (↑0:Int)) (List.getD aa (Int.toNat x1) []),()),())))) (.f7 (r9 IntKind.i64 (x1+(1:Int))) (.f7 (True/\True/\[]++[Step.l6 3]=[]++[Step.l6 3]/\(0:Int)<=x1/\x1<=x1+(1:Int)/\x1+(1:Int)<=(↑(List.length aa):Int)) (.f7 (True) (cond (decide (x2=(1:Int))) (cond (decide (Prod.fst (Prod.snd (w6 (List.getD aa (Int.toNat x1) [])))=(0:Int))) (cond (decide (Prod.fst (Prod.snd (Prod.snd (Prod.snd (Prod.fst (w6 (List.getD aa (Int.toNat x1) []))))))=aj)) (.f7 (List.length ab<=6) (cond (s5 ((aj,af,()),ab,ae,List.take (Int.toNat x1) aa++List.drop (Int.toNat (x1+(1:Int))) aa,()) (Prod.fst (Prod.snd (Prod.snd (Prod.fst (w6 (List.getD aa (Int.toNat x1) []))))))) (.f7 (wD ((aj,af,()),ab,ae,List.take (Int.toNat x1) aa++List.drop (Int.toNat (x1+(1:Int))) aa,()) (Prod.fst (w6 (List.getD aa (Int.toNat x1) [])))) (.ret (((0:Int),F6 ((aj,af,()),ab,ae,List.take (Int.toNat x1) aa++List.drop (Int.toNat (x1+(1:Int))) aa,()) (Prod.fst (w6 (List.getD aa (Int.toNat x1) []))),())))) (.ret (((0:Int),((aj,af,()),ab,ae,List.take (Int.toNat x1) aa++List.drop (Int.toNat (x1+(1:Int))) aa,()),()))))) (.ret (((0:Int),((aj,af,()),ab,ae,List.take (Int.toNat x1) aa++List.drop (Int.toNat (x1+(1:Int))) aa,()),())))) (.ret (((0:Int),((aj,af,()),ab,ae,List.take (Int.toNat x1) aa++List.drop (Int.toNat (x1+(1:Int))) aa,()),())))) (.ret (((0:Int),((aj,af,()),ab,ae,List.take (Int.toNat x1) aa++List.drop (Int.toNat (x1+(1:Int))) aa,()),())))))))))) (.f7 ((0:Int)<=x1/\x1<(↑(List.length aa):Int)) (cond (decide (x2=(3:Int))) (.f7 (True/\True/\[]++[Step.l6 3]=[]++[Step.l6 3]/\List.length aa+List.length (List.set [[]] (Int.toNat (↑0:Int)) (List.getD aa (Int.toNat x1) []))<=140737488355328/\(List.length aa+List.length (List.set [[]] (Int.toNat (↑0:Int)) (List.getD aa (Int.toNat x1) [])))*Ty.wb Ty.str<=140737488355328) (.ret (((0:Int),((aj,af,()),ab,ae,aa++List.set [[]] (Int.toNat (↑0:Int)) (List.getD aa (Int.toNat x1) []),()),())))) (.f7 (r9 IntKind.i64 (x1+(1:Int))) (.f7 (True/\True/\[]++[Step.l6 3]=[]++[Step.l6 3]/\(0:Int)<=x1/\x1<=x1+(1:Int)/\x1+(1:Int)<=(↑(List.length aa):Int)) (.f7 (True) (cond (decide (x2=(1:Int))) (cond (decide (Prod.fst (Prod.snd (w6 (List.getD aa (Int.toNat x1) [])))=(0:Int))) (cond (decide (Prod.fst (Prod.snd (Prod.snd (Prod.snd (Prod.fst (w6 (List.getD aa (Int.toNat x1) []))))))=aj)) (.f7 (List.length ab<=6) (cond (s5 ((aj,af,()),ab,ae,List.take (Int.toNat x1) aa++List.drop (Int.toNat (x1+(1:Int))) aa,()) (Prod.fst (Prod.snd (Prod.snd (Prod.fst (w6 (List.getD aa (Int.toNat x1) []))))))) (.f7 (wD ((aj,af,()),ab,ae,List.take (Int.toNat x1) aa++List.drop (Int.toNat (x1+(1:Int))) aa,()) (Prod.fst (w6 (List.getD aa (Int.toNat x1) [])))) (.ret (((0:Int),F6 ((aj,af,()),ab,ae,List.take (Int.toNat x1) aa++List.drop (Int.toNat (x1+(1:Int))) aa,()) (Prod.fst (w6 (List.getD aa (Int.toNat x1) []))),())))) (.ret (((0:Int),((aj,af,()),ab,ae,List.take (Int.toNat x1) aa++List.drop (Int.toNat (x1+(1:Int))) aa,()),()))))) (.ret (((0:Int),((aj,af,()),ab,ae,List.take (Int.toNat x1) aa++List.drop (Int.toNat (x1+(1:Int))) aa,()),())))) (.ret (((0:Int),((aj,af,()),ab,ae,List.take (Int.toNat x1) aa++List.drop (Int.toNat (x1+(1:Int))) aa,()),())))) (.ret (((0:Int),((aj,af,()),ab,ae,List.take (Int.toNat x1) aa++List.drop (Int.toNat (x1+(1:Int))) aa,()),())))))))))))))):=by kernel_rfl
theorem Pj {w:f8} {k bA:Int} (h:I2 bA 1 3=false):F5 w k bA=(w,1):=by rw [F5]; exact if_pos h
theorem Ql {w:f8} {k bA:Int} (h:¬ I2 bA 1 3=false) (h1:I2 k 0 ((w.2.2.2.1.length:Int) - 1)=false):F5 w k bA=(w,6):=by rw [F5]; exact (if_neg h).trans (if_pos h1)
theorem Qk {w:f8} {k bA:Int} (h:¬ I2 bA 1 3=false) (h1:¬ I2 k 0 ((w.2.2.2.1.length:Int) - 1)=false) (h2:bA=3) (h3:(w.2.2.2.1.length:Int)=60):F5 w k bA=(w,8):=by
  rw [F5]; exact (if_neg h).trans ((if_neg h1).trans (if_pos ⟨h2,h3⟩))
theorem Qj {w:f8} {k bA:Int} (h:¬ I2 bA 1 3=false) (h1:¬ I2 k 0 ((w.2.2.2.1.length:Int) - 1)=false) (h2:bA=3) (h3:¬ (w.2.2.2.1.length:Int)=60):F5 w k bA=(Ci w k.toNat,0):=by
  rw [F5]; exact (if_neg h).trans ((if_neg h1).trans ((if_neg (λ e=>h3 e.2)).trans (if_pos h2)))
theorem HN {w:f8} {k bA:Int} (h:¬ I2 bA 1 3=false) (h1:¬ I2 k 0 ((w.2.2.2.1.length:Int) - 1)=false) (h2:¬ bA=3):F5 w k bA=(wC (ye w k) bA (w.2.2.2.1.getD k.toNat []),0):=by
  rw [F5]; exact (if_neg h).trans ((if_neg h1).trans ((if_neg (λ e=>h2 e.1)).trans (if_neg h2)))
theorem Qm {w:f8} {bA:Int} {s:yY} (h:bA=1/\(w6 s).2.1=0/\(w6 s).1.2.2.2.1=w.1.1/\s5 w (w6 s).1.2.2.1=true):wC w bA s=F6 w (w6 s).1:=by
  rw [wC]; exact if_pos h
theorem Pk {w:f8} {bA:Int} {s:yY} (h:¬ (bA=1/\(w6 s).2.1=0/\(w6 s).1.2.2.2.1=w.1.1/\s5 w (w6 s).1.2.2.1=true)):wC w bA s=w:=by
  rw [wC]; exact if_neg h
theorem wD.drop {w:f8} {n:y8} {l:List yY} (h:wD w n):wD (w.1,w.2.1,w.2.2.1,l,()) n:=⟨h.L9,h.to,h.seq,h.log,h.ord,h.txt⟩
attribute [local irreducible] F5 wC F6 w6 s5 in
theorem Rw:Ch.Valid Tryz.prog 18:=by
  refine o7.o5 ON rfl rfl Tryz.func18 (c:=d8 Tryz.prog 18) rfl rfl Qa rfl ?_;rintro ⟨⟨⟨(v0:Int),(v1:Int),⟨⟩⟩,(al:List n7),(od:List yY),(wy:List yY),⟨⟩⟩,(k:Int),(bA:Int),⟨⟩⟩ (hq:AG ((v0,v1,()),al,od,wy,())) -
  refine j6 (n:=1000) ON Qa ?_;refine i6 (VE v0 v1 al od wy k bA) ?_;have jd:Ty.wb .str=16:=rfl;have ru:wy.length<=60:=hq.way;simp only [j7,Tree.holds,sL];have key:∀ r:f8×Int,F5 ((v0,v1,()),al,od,wy,()) k bA=r->(((r.2,r.1,()):Int×f8×Unit)=((F5 ((v0,v1,()),al,od,wy,()) k bA).2,(F5 ((v0,v1,()),al,od,wy,()) k bA).1,())):=by rintro r rfl; rfl
  have dv:¬ I2 k 0 ((wy.length:Int) - 1)=false->0<=k/\k<(wy.length:Int):=λ h=>by
    have:=U1.1 (Bool.not_eq_false _▸h:I2 k 0 ((wy.length:Int) - 1)=true); omega
  have yes:∀ (a:¬ I2 bA 1 3=false) (b:¬ I2 k 0 ((wy.length:Int) - 1)=false) (c:¬ bA=3),bA=1->(w6 (wy.getD k.toNat [])).2.1=0->(w6 (wy.getD k.toNat [])).1.2.2.2.1=v0->s5 ((v0,v1,()),al,od,wy.take k.toNat++wy.drop (k+1).toNat,()) (w6 (wy.getD k.toNat [])).1.2.2.1=true ->
      F5 ((v0,v1,()),al,od,wy,()) k bA=(F6 ((v0,v1,()),al,od,wy.take k.toNat++wy.drop (k+1).toNat,()) (w6 (wy.getD k.toNat [])).1,0):=λ a b c d e f g=>by
    rw [HN a b c]; exact congrArg (λ x=>(x,(0:Int))) (Qm ⟨d,e,f,g⟩)
  have no:∀ (a:¬ I2 bA 1 3=false) (b:¬ I2 k 0 ((wy.length:Int) - 1)=false) (c:¬ bA=3),¬ (bA=1/\(w6 (wy.getD k.toNat [])).2.1=0/\(w6 (wy.getD k.toNat [])).1.2.2.2.1=v0/\s5 ((v0,v1,()),al,od,wy.take k.toNat++wy.drop (k+1).toNat,()) (w6 (wy.getD k.toNat [])).1.2.2.1=true) ->
      F5 ((v0,v1,()),al,od,wy,()) k bA=(((v0,v1,()),al,od,wy.take k.toNat++wy.drop (k+1).toNat,()),0):=λ a b c d=>by
    rw [HN a b c]; exact congrArg (λ x=>(x,(0:Int))) (Pk d)
  have pre:0<=k/\k<(wy.length:Int)->(w6 (wy.getD k.toNat [])).2.1=0->(w6 (wy.getD k.toNat [])).1.2.2.2.1=v0->s5 ((v0,v1,()),al,od,wy.take k.toNat++wy.drop (k+1).toNat,()) (w6 (wy.getD k.toNat [])).1.2.2.1=true->wD ((v0,v1,()),al,od,wy.take k.toNat++wy.drop (k+1).toNat,()) (w6 (wy.getD k.toNat [])).1:=λ h h1 h3 h2 =>
    (hq.note _ (by show wy.getD k.toNat []∈wy; rw [List.getD_eq_getElem?_getD,List.getElem?_eq_getElem (by omega)]; exact List.getElem_mem _) h1 h3 (by rw [s5.eq_1] at h2 ⊢; exact h2)).drop
  refine ⟨λ a=>key (_,_) (Pj a),λ a=>⟨F1.2 ⟨by omega,by omega⟩,λ _=>⟨λ b=>key (_,_) (Ql (by simpa using a) b),λ b=>?_⟩⟩⟩;have a:¬ I2 bA 1 3=false:=by simpa using a
  have b:¬ I2 k 0 ((wy.length:Int) - 1)=false:=by simpa using b
  have hk:=dv b;refine ⟨λ c=>⟨λ d=>key (_,_) (Qk a b c d),λ d=>⟨hk,λ _=>⟨λ _=>⟨by rw [jd]; omega,λ _=>key (_,_) (Qj a b c d)⟩,λ e=>absurd c e⟩⟩⟩,λ c=>⟨hk,λ _=>⟨λ e=>absurd e c,λ _=>⟨F1.2 ⟨by omega,by omega⟩,λ _=>⟨⟨by omega,by omega,by omega⟩,λ _=>⟨λ d=>⟨λ e=>⟨λ f=>⟨hq.L9,λ _=>⟨λ g=>⟨pre hk e f g,λ _=>key (_,_) (yes a b c d e f g)⟩,λ g=>key (_,_) (no a b c (λ h=>by rw [h.2.2.2] at g; cases g))⟩⟩,λ f=>key (_,_) (no a b c (λ h=>f h.2.2.1))⟩,λ e=>key (_,_) (no a b c (λ h=>e h.2.1))⟩,λ d=>key (_,_) (no a b c (λ h=>d h.1))⟩⟩⟩⟩⟩⟩
abbrev vk (m:CP):f8:=(m.1,m.2.1.map rdP,m.2.2)
abbrev uP (w:f8):CP:=(w.1,w.2.1.map toM,w.2.2)
theorem Wr (w:f8):vk (uP w)=w:=by
  show (w.1,(w.2.1.map toM).map rdP,w.2.2)=w;rw [List.map_map,show (rdP ∘ toM)=id from rfl,List.map_id]
structure yt (w:f8):Prop where
  L9:w.2.1.length<=6
  Tc:∀ i:Nat,(w.2.1.getD i j5).2.1.length<=5864062014805
  late:∀ i:Nat,(w.2.1.getD i j5).2.2.1.2.1.length<=1048576
def LO:o7:={ ps:=[.rw Y5],rs:=[e8],pre:=λ x=>(x.1:CP)=uP (vk x.1)/\yt (vk x.1)/\¬ (T9 (vk x.1)).2.1≠0,fn:=λ _=>(0,()),out:=λ x=>(uP (H3 (vk x.1)),()) }
noncomputable def xb:Env:={ P:=Tryz.prog,tt:=ttW,C7:=[(47,xV),(53,Ao),(31,zK),(32,ER)],res:=[Go.ResultVar.tmp 2],rs:=[Ty.int IntKind.i64],ps:=[PK.rw Y5],B0:=[(4,[(0,none),(3,none),(4,none),(18,none),(19,none)]),(16,[(0,none),(4,none),(7,none),(67,none),(68,none)]),(22,[(0,none),(4,none),(7,none),(9,none),(10,none),(11,none),(67,none),(68,none),(86,none),(87,none),(88,none)]),(998049,[(6,some K6)]),(998014,[(4,some K6)])],nt:=139 }
theorem Bq:w7 xb:=x8 Lr ⟨BC,RG,IU,Rq,trivial⟩
theorem Br:C2 xb Tryz.f25:=⟨rfl,rfl⟩
theorem YO (aj:Int) (af:Int) (ab:List K4) (ae:List yY) (aa:List yY):exec xb 1000 [.code (d8 Tryz.prog 25)] (s9 LO.ps ((((aj,af,()),ab,ae,aa,()),()))) =
  .ctL (f9 (d8 Tryz.prog 25) 4) (St.mk [(0,AV.ptr 2000000 []),(3,AV.val U8 (0:Int)),(4,AV.val K6 []),(18,AV.val e8 (↑(List.length ab):Int)),(19,AV.val e8 (0:Int))] [(2000000,g9.var Y5 ((aj,af,()),ab,ae,aa,()))]):=by kernel_rfl
def JM (v3:Int) (v4:List (Int×yY×Unit)) (uD:Int) (uB:Int) (aB:Int) (ao:Int) (ak:List K4) (an:List yY) (ah:List yY):St:=St.mk [(0,AV.ptr 2000000 []),(3,AV.val U8 v3),(4,AV.val K6 v4),(18,AV.val e8 uD),(19,AV.val e8 uB)] [(2000000,g9.var Y5 ((aB,ao,()),ak,an,ah,()))]
theorem b7K (v3:Int) (v4:List (Int×yY×Unit)) (uD:Int) (uB:Int) (aB:Int) (ao:Int) (ak:List K4) (an:List yY) (ah:List yY):exec xb 1000 (.code (f9 (d8 Tryz.prog 25) 4).1::.inLoop (f9 (d8 Tryz.prog 25) 4).1::(f9 (d8 Tryz.prog 25) 4).2) (JM v3 v4 uD uB aB ao ak an ah) =
  cond (decide (uB<uD)) (.f7 (List.length (List.map (rdV X5) ak)<=6) (cond (s5 ((aB,ao,()),List.map (rdV X5) ak,an,ah,()) uB) (.f7 ((0:Int)<=uB/\uB<(↑(List.length ak):Int)) (cond (decide ((↑(List.length v4):Int)<(↑(List.length (Prod.fst (Prod.snd (Prod.fst (Prod.snd (List.getD ak (Int.toNat uB) (false,(1,[],[]),((0:Int),[],()),((0:Int),[],()),((0:Int),[],()),()))))))):Int))) (.f7 (r9 IntKind.i64 (uB+(1:Int))) (.ctL (f9 (d8 Tryz.prog 25) 4) (St.mk [(0,AV.ptr 2000000 []),(3,AV.val U8 v3),(4,AV.val K6 (Prod.fst (Prod.snd (Prod.fst (Prod.snd (List.getD ak (Int.toNat uB) (false,(1,[],[]),((0:Int),[],()),((0:Int),[],()),((0:Int),[],()),()))))))),(18,AV.val e8 uD),(19,AV.val e8 (uB+(1:Int)))] [(2000000,g9.var Y5 ((aB,ao,()),List.set ak (Int.toNat uB) (Prod.fst (List.getD ak (Int.toNat uB) (false,(1,[],[]),((0:Int),[],()),((0:Int),[],()),((0:Int),[],()),())),(0,Prod.fst (Prod.snd (Prod.fst (Prod.snd (List.getD ak (Int.toNat uB) (false,(1,[],[]),((0:Int),[],()),((0:Int),[],()),((0:Int),[],()),()))))),[]),Prod.snd (Prod.snd (List.getD ak (Int.toNat uB) (false,(1,[],[]),((0:Int),[],()),((0:Int),[],()),((0:Int),[],()),())))),an,ah,()))]))) (.f7 (r9 IntKind.i64 (uB+(1:Int))) (.ctL (f9 (d8 Tryz.prog 25) 4) (St.mk [(0,AV.ptr 2000000 []),(3,AV.val U8 v3),(4,AV.val K6 v4),(18,AV.val e8 uD),(19,AV.val e8 (uB+(1:Int)))] [(2000000,g9.var Y5 ((aB,ao,()),ak,an,ah,()))]))))) (.f7 ((0:Int)<=uB) (.f7 (r9 IntKind.i64 (uB+(1:Int))) (.ctL (f9 (d8 Tryz.prog 25) 4) (St.mk [(0,AV.ptr 2000000 []),(3,AV.val U8 (bOr IntKind.u8 v3 (T5 IntKind.u8 ao (IntKind.wrap IntKind.u8 ((1:Int)*(2:Int)^min (Int.toNat uB) (IntKind.bits IntKind.u8)))))),(4,AV.val K6 v4),(18,AV.val e8 uD),(19,AV.val e8 (uB+(1:Int)))] [(2000000,g9.var Y5 ((aB,ao,()),ak,an,ah,()))])))))) (.f7 (True) (cond (decide (Prod.fst (Prod.snd (Q8 (aB,ao,()) v3 (0:Int)))≠(0:Int))) (.ret ((Prod.fst (Prod.snd (Q8 (aB,ao,()) v3 (0:Int))),((aB,ao,()),ak,an,ah,()),()))) (.ctL (f9 (d8 Tryz.prog 25) 16) (St.mk [(0,AV.ptr 2000000 []),(4,AV.val K6 v4),(7,AV.ptr 7 []),(67,AV.val e8 (↑(List.length ak):Int)),(68,AV.val e8 (0:Int))] [(7,g9.var View (Prod.fst (Q8 (aB,ao,()) v3 (0:Int)))),(2000000,g9.var Y5 ((aB,ao,()),ak,an,ah,()))])))):=by kernel_rfl
def JF (v4:List (Int×yY×Unit)) (vm:Int) (uF:Int) (cM:Int) (bt:Int) (aB:Int) (ao:Int) (ak:List K4) (an:List yY) (ah:List yY):St:=St.mk [(0,AV.ptr 2000000 []),(4,AV.val K6 v4),(7,AV.ptr 7 []),(67,AV.val e8 vm),(68,AV.val e8 uF)] [(7,g9.var View (cM,bt,())),(2000000,g9.var Y5 ((aB,ao,()),ak,an,ah,()))]
theorem b6p (v4:List (Int×yY×Unit)) (vm:Int) (uF:Int) (cM:Int) (bt:Int) (aB:Int) (ao:Int) (ak:List K4) (an:List yY) (ah:List yY):exec xb 1000 (.code (f9 (d8 Tryz.prog 25) 16).1::.inLoop (f9 (d8 Tryz.prog 25) 16).1::(f9 (d8 Tryz.prog 25) 16).2) (JF v4 vm uF cM bt aB ao ak an ah) =
  let q1:=(List.getD ak (Int.toNat uF) (false,(1,[],[]),((0:Int),[],()),((0:Int),[],()),((0:Int),[],()),())); let q2:=K6; let q0:=(Ty.pair Ty.bool (Ty.pair (Ty.y7 r7) (Ty.pair P0 (Ty.pair (Ty.pair e8 (Ty.pair q2 Ty.unit)) (Ty.pair (Ty.pair e8 (Ty.pair q2 Ty.unit)) Ty.unit))))); let q3:=(↑(List.length (Prod.fst (Prod.snd (Prod.fst (Prod.snd q1))))):Int); let q4:=View; let q5:=(Ty.pair q4 (Ty.pair (Ty.d0 true q0) (Ty.pair (Ty.d0 true Ty.str) (Ty.pair (Ty.d0 true Ty.str) Ty.unit)))); cond (decide (uF<vm)) (.f7 ((0:Int)<=uF/\uF<(↑(List.length ak):Int)) (.f7 (List.length (List.map (rdV q0) ak)<=6) (cond (s5 ((aB,ao,()),List.map (rdV q0) ak,an,ah,()) uF) (.f7 ((0:Int)<=q3/\q3<=(↑(List.length v4):Int)/\(↑(List.length v4):Int)<=(↑(List.length v4):Int)) (.ctL (f9 (d8 Tryz.prog 25) 22) (St.mk [(0,AV.ptr 2000000 []),(4,AV.val q2 v4),(7,AV.ptr 7 []),(9,AV.val e8 uF),(10,AV.ptr 2000000 [Step.l6 1,Step.idx uF]),(11,AV.val e8 (0:Int)),(67,AV.val e8 vm),(68,AV.val e8 uF),(86,AV.val q2 (n6 q3 (↑(List.length v4):Int) v4)),(87,AV.val e8 (↑(List.length (n6 q3 (↑(List.length v4):Int) v4)):Int)),(88,AV.val e8 (0:Int))] [(7,g9.var q4 (cM,bt,())),(2000000,g9.var q5 ((aB,ao,()),ak,an,ah,()))]))) (.f7 (r9 IntKind.i64 (uF+(1:Int))) (.ctL (f9 (d8 Tryz.prog 25) 16) (St.mk [(0,AV.ptr 2000000 []),(4,AV.val q2 v4),(7,AV.ptr 7 []),(67,AV.val e8 vm),(68,AV.val e8 (uF+(1:Int)))] [(7,g9.var q4 (cM,bt,())),(2000000,g9.var q5 ((aB,ao,()),List.set ak (Int.toNat uF) (Prod.fst q1,Prod.fst (Prod.snd q1),Prod.fst (Prod.snd (Prod.snd q1)),Prod.fst (Prod.snd (Prod.snd (Prod.snd q1))),((0:Int),[],()),Prod.snd (Prod.snd (Prod.snd (Prod.snd (Prod.snd q1))))),an,ah,()))])))))) (.ret (((0:Int),((cM,bt,()),ak,[],ah,()),()))):=by kernel_rfl
def JG (v4:List (Int×yY×Unit)) (v9:Int) (aQ:Int) (v11:Int) (vm:Int) (uF:Int) (xQ:List (Int×yY×Unit)) (v87:Int) (vN:Int) (cM:Int) (bt:Int) (aB:Int) (ao:Int) (ak:List K4) (an:List yY) (ah:List yY):St:=St.mk [(0,AV.ptr 2000000 []),(4,AV.val K6 v4),(7,AV.ptr 7 []),(9,AV.val e8 v9),(10,AV.ptr 2000000 [Step.l6 1,Step.idx aQ]),(11,AV.val e8 v11),(67,AV.val e8 vm),(68,AV.val e8 uF),(86,AV.val K6 xQ),(87,AV.val e8 v87),(88,AV.val e8 vN)] [(7,g9.var View (cM,bt,())),(2000000,g9.var Y5 ((aB,ao,()),ak,an,ah,()))]
theorem b6o (v4:List (Int×yY×Unit)) (v9:Int) (aQ:Int) (v11:Int) (vm:Int) (uF:Int) (xQ:List (Int×yY×Unit)) (v87:Int) (vN:Int) (cM:Int) (bt:Int) (aB:Int) (ao:Int) (ak:List K4) (an:List yY) (ah:List yY):exec xb 1000 (.code (f9 (d8 Tryz.prog 25) 22).1::.inLoop (f9 (d8 Tryz.prog 25) 22).1::(f9 (d8 Tryz.prog 25) 22).2) (JG v4 v9 aQ v11 vm uF xQ v87 vN cM bt aB ao ak an ah) =
  let q3:=(false,(1,[],[]),((0:Int),[],()),((0:Int),[],()),((0:Int),[],()),()); let q1:=(List.set ak (Int.toNat aQ) (Prod.fst (List.getD ak (Int.toNat aQ) q3),(1,v4,[]),Prod.snd (Prod.snd (List.getD ak (Int.toNat aQ) q3)))); let q0:=(List.getD q1 (Int.toNat aQ) q3); let q4:=(Prod.fst (Prod.snd (Prod.fst (Prod.snd (Prod.snd q0))))); let q2:=(↑(List.length q4):Int); let q6:=K6; let q7:=View; let q5:=(Ty.pair q7 (Ty.pair (Ty.d0 true (Ty.pair Ty.bool (Ty.pair (Ty.y7 r7) (Ty.pair P0 (Ty.pair (Ty.pair e8 (Ty.pair q6 Ty.unit)) (Ty.pair (Ty.pair e8 (Ty.pair q6 Ty.unit)) Ty.unit)))))) (Ty.pair (Ty.d0 true Ty.str) (Ty.pair (Ty.d0 true Ty.str) Ty.unit)))); let q8:=(2000000,g9.var q5 ((aB,ao,()),ak,an,ah,())); cond (decide (vN<v87)) (.f7 ((0:Int)<=vN/\vN<(↑(List.length xQ):Int)) (cond (decide (Prod.fst (List.getD xQ (Int.toNat vN) ((0:Int),[],()))=v9)) (.f7 (r9 IntKind.i64 (v11+(1:Int))) (.f7 (r9 IntKind.i64 (vN+(1:Int))) (.ctL (f9 (d8 Tryz.prog 25) 22) (St.mk [(0,AV.ptr 2000000 []),(4,AV.val q6 v4),(7,AV.ptr 7 []),(9,AV.val e8 v9),(10,AV.ptr 2000000 [Step.l6 1,Step.idx aQ]),(11,AV.val e8 (v11+(1:Int))),(67,AV.val e8 vm),(68,AV.val e8 uF),(86,AV.val q6 xQ),(87,AV.val e8 v87),(88,AV.val e8 (vN+(1:Int)))] [(7,g9.var q7 (cM,bt,())),q8])))) (.f7 (r9 IntKind.i64 (vN+(1:Int))) (.ctL (f9 (d8 Tryz.prog 25) 22) (St.mk [(0,AV.ptr 2000000 []),(4,AV.val q6 v4),(7,AV.ptr 7 []),(9,AV.val e8 v9),(10,AV.ptr 2000000 [Step.l6 1,Step.idx aQ]),(11,AV.val e8 v11),(67,AV.val e8 vm),(68,AV.val e8 uF),(86,AV.val q6 xQ),(87,AV.val e8 v87),(88,AV.val e8 (vN+(1:Int)))] [(7,g9.var q7 (cM,bt,())),q8]))))) (.f7 (List.length v4<=5864062014805) (.f7 (((0:Int)<=if q2<v11 then q2 else v11)/\(if q2<v11 then q2 else v11)<=q2/\q2<=q2) (.f7 (List.length (n6 (if q2<v11 then q2 else v11) q2 q4)<=1048576) (.f7 (r9 IntKind.i64 (uF+(1:Int))) (.ctL (f9 (d8 Tryz.prog 25) 16) (St.mk [(0,AV.ptr 2000000 []),(4,AV.val q6 v4),(7,AV.ptr 7 []),(67,AV.val e8 vm),(68,AV.val e8 (uF+(1:Int)))] [(7,g9.var q7 (cM,bt,())),(2000000,g9.var q5 ((aB,ao,()),List.set (List.set (List.set q1 (Int.toNat aQ) (Prod.fst q0,Prod.fst (Prod.snd q0),((0:Int),n6 (if q2<v11 then q2 else v11) q2 q4,()),Prod.snd (Prod.snd (Prod.snd q0)))) (Int.toNat aQ) (Prod.fst (List.getD (List.set q1 (Int.toNat aQ) (Prod.fst q0,Prod.fst (Prod.snd q0),((0:Int),n6 (if q2<v11 then q2 else v11) q2 q4,()),Prod.snd (Prod.snd (Prod.snd q0)))) (Int.toNat aQ) q3),Prod.fst (Prod.snd (List.getD (List.set q1 (Int.toNat aQ) (Prod.fst q0,Prod.fst (Prod.snd q0),((0:Int),n6 (if q2<v11 then q2 else v11) q2 q4,()),Prod.snd (Prod.snd (Prod.snd q0)))) (Int.toNat aQ) q3)),Prod.fst (Prod.snd (Prod.snd (List.getD (List.set q1 (Int.toNat aQ) (Prod.fst q0,Prod.fst (Prod.snd q0),((0:Int),n6 (if q2<v11 then q2 else v11) q2 q4,()),Prod.snd (Prod.snd (Prod.snd q0)))) (Int.toNat aQ) q3))),((0:Int),[],()),Prod.snd (Prod.snd (Prod.snd (Prod.snd (List.getD (List.set q1 (Int.toNat aQ) (Prod.fst q0,Prod.fst (Prod.snd q0),((0:Int),n6 (if q2<v11 then q2 else v11) q2 q4,()),Prod.snd (Prod.snd (Prod.snd q0)))) (Int.toNat aQ) q3)))))) (Int.toNat aQ) (Prod.fst (List.getD (List.set (List.set q1 (Int.toNat aQ) (Prod.fst q0,Prod.fst (Prod.snd q0),((0:Int),n6 (if q2<v11 then q2 else v11) q2 q4,()),Prod.snd (Prod.snd (Prod.snd q0)))) (Int.toNat aQ) (Prod.fst (List.getD (List.set q1 (Int.toNat aQ) (Prod.fst q0,Prod.fst (Prod.snd q0),((0:Int),n6 (if q2<v11 then q2 else v11) q2 q4,()),Prod.snd (Prod.snd (Prod.snd q0)))) (Int.toNat aQ) q3),Prod.fst (Prod.snd (List.getD (List.set q1 (Int.toNat aQ) (Prod.fst q0,Prod.fst (Prod.snd q0),((0:Int),n6 (if q2<v11 then q2 else v11) q2 q4,()),Prod.snd (Prod.snd (Prod.snd q0)))) (Int.toNat aQ) q3)),Prod.fst (Prod.snd (Prod.snd (List.getD (List.set q1 (Int.toNat aQ) (Prod.fst q0,Prod.fst (Prod.snd q0),((0:Int),n6 (if q2<v11 then q2 else v11) q2 q4,()),Prod.snd (Prod.snd (Prod.snd q0)))) (Int.toNat aQ) q3))),((0:Int),[],()),Prod.snd (Prod.snd (Prod.snd (Prod.snd (List.getD (List.set q1 (Int.toNat aQ) (Prod.fst q0,Prod.fst (Prod.snd q0),((0:Int),n6 (if q2<v11 then q2 else v11) q2 q4,()),Prod.snd (Prod.snd (Prod.snd q0)))) (Int.toNat aQ) q3)))))) (Int.toNat aQ) q3),Prod.fst (Prod.snd (List.getD (List.set (List.set q1 (Int.toNat aQ) (Prod.fst q0,Prod.fst (Prod.snd q0),((0:Int),n6 (if q2<v11 then q2 else v11) q2 q4,()),Prod.snd (Prod.snd (Prod.snd q0)))) (Int.toNat aQ) (Prod.fst (List.getD (List.set q1 (Int.toNat aQ) (Prod.fst q0,Prod.fst (Prod.snd q0),((0:Int),n6 (if q2<v11 then q2 else v11) q2 q4,()),Prod.snd (Prod.snd (Prod.snd q0)))) (Int.toNat aQ) q3),Prod.fst (Prod.snd (List.getD (List.set q1 (Int.toNat aQ) (Prod.fst q0,Prod.fst (Prod.snd q0),((0:Int),n6 (if q2<v11 then q2 else v11) q2 q4,()),Prod.snd (Prod.snd (Prod.snd q0)))) (Int.toNat aQ) q3)),Prod.fst (Prod.snd (Prod.snd (List.getD (List.set q1 (Int.toNat aQ) (Prod.fst q0,Prod.fst (Prod.snd q0),((0:Int),n6 (if q2<v11 then q2 else v11) q2 q4,()),Prod.snd (Prod.snd (Prod.snd q0)))) (Int.toNat aQ) q3))),((0:Int),[],()),Prod.snd (Prod.snd (Prod.snd (Prod.snd (List.getD (List.set q1 (Int.toNat aQ) (Prod.fst q0,Prod.fst (Prod.snd q0),((0:Int),n6 (if q2<v11 then q2 else v11) q2 q4,()),Prod.snd (Prod.snd (Prod.snd q0)))) (Int.toNat aQ) q3)))))) (Int.toNat aQ) q3)),Prod.fst (Prod.snd (Prod.snd (List.getD (List.set (List.set q1 (Int.toNat aQ) (Prod.fst q0,Prod.fst (Prod.snd q0),((0:Int),n6 (if q2<v11 then q2 else v11) q2 q4,()),Prod.snd (Prod.snd (Prod.snd q0)))) (Int.toNat aQ) (Prod.fst (List.getD (List.set q1 (Int.toNat aQ) (Prod.fst q0,Prod.fst (Prod.snd q0),((0:Int),n6 (if q2<v11 then q2 else v11) q2 q4,()),Prod.snd (Prod.snd (Prod.snd q0)))) (Int.toNat aQ) q3),Prod.fst (Prod.snd (List.getD (List.set q1 (Int.toNat aQ) (Prod.fst q0,Prod.fst (Prod.snd q0),((0:Int),n6 (if q2<v11 then q2 else v11) q2 q4,()),Prod.snd (Prod.snd (Prod.snd q0)))) (Int.toNat aQ) q3)),Prod.fst (Prod.snd (Prod.snd (List.getD (List.set q1 (Int.toNat aQ) (Prod.fst q0,Prod.fst (Prod.snd q0),((0:Int),n6 (if q2<v11 then q2 else v11) q2 q4,()),Prod.snd (Prod.snd (Prod.snd q0)))) (Int.toNat aQ) q3))),((0:Int),[],()),Prod.snd (Prod.snd (Prod.snd (Prod.snd (List.getD (List.set q1 (Int.toNat aQ) (Prod.fst q0,Prod.fst (Prod.snd q0),((0:Int),n6 (if q2<v11 then q2 else v11) q2 q4,()),Prod.snd (Prod.snd (Prod.snd q0)))) (Int.toNat aQ) q3)))))) (Int.toNat aQ) q3))),Prod.fst (Prod.snd (Prod.snd (Prod.snd (List.getD (List.set (List.set q1 (Int.toNat aQ) (Prod.fst q0,Prod.fst (Prod.snd q0),((0:Int),n6 (if q2<v11 then q2 else v11) q2 q4,()),Prod.snd (Prod.snd (Prod.snd q0)))) (Int.toNat aQ) (Prod.fst (List.getD (List.set q1 (Int.toNat aQ) (Prod.fst q0,Prod.fst (Prod.snd q0),((0:Int),n6 (if q2<v11 then q2 else v11) q2 q4,()),Prod.snd (Prod.snd (Prod.snd q0)))) (Int.toNat aQ) q3),Prod.fst (Prod.snd (List.getD (List.set q1 (Int.toNat aQ) (Prod.fst q0,Prod.fst (Prod.snd q0),((0:Int),n6 (if q2<v11 then q2 else v11) q2 q4,()),Prod.snd (Prod.snd (Prod.snd q0)))) (Int.toNat aQ) q3)),Prod.fst (Prod.snd (Prod.snd (List.getD (List.set q1 (Int.toNat aQ) (Prod.fst q0,Prod.fst (Prod.snd q0),((0:Int),n6 (if q2<v11 then q2 else v11) q2 q4,()),Prod.snd (Prod.snd (Prod.snd q0)))) (Int.toNat aQ) q3))),((0:Int),[],()),Prod.snd (Prod.snd (Prod.snd (Prod.snd (List.getD (List.set q1 (Int.toNat aQ) (Prod.fst q0,Prod.fst (Prod.snd q0),((0:Int),n6 (if q2<v11 then q2 else v11) q2 q4,()),Prod.snd (Prod.snd (Prod.snd q0)))) (Int.toNat aQ) q3)))))) (Int.toNat aQ) q3)))),((0:Int),[],()),Prod.snd (Prod.snd (Prod.snd (Prod.snd (Prod.snd (List.getD (List.set (List.set q1 (Int.toNat aQ) (Prod.fst q0,Prod.fst (Prod.snd q0),((0:Int),n6 (if q2<v11 then q2 else v11) q2 q4,()),Prod.snd (Prod.snd (Prod.snd q0)))) (Int.toNat aQ) (Prod.fst (List.getD (List.set q1 (Int.toNat aQ) (Prod.fst q0,Prod.fst (Prod.snd q0),((0:Int),n6 (if q2<v11 then q2 else v11) q2 q4,()),Prod.snd (Prod.snd (Prod.snd q0)))) (Int.toNat aQ) q3),Prod.fst (Prod.snd (List.getD (List.set q1 (Int.toNat aQ) (Prod.fst q0,Prod.fst (Prod.snd q0),((0:Int),n6 (if q2<v11 then q2 else v11) q2 q4,()),Prod.snd (Prod.snd (Prod.snd q0)))) (Int.toNat aQ) q3)),Prod.fst (Prod.snd (Prod.snd (List.getD (List.set q1 (Int.toNat aQ) (Prod.fst q0,Prod.fst (Prod.snd q0),((0:Int),n6 (if q2<v11 then q2 else v11) q2 q4,()),Prod.snd (Prod.snd (Prod.snd q0)))) (Int.toNat aQ) q3))),((0:Int),[],()),Prod.snd (Prod.snd (Prod.snd (Prod.snd (List.getD (List.set q1 (Int.toNat aQ) (Prod.fst q0,Prod.fst (Prod.snd q0),((0:Int),n6 (if q2<v11 then q2 else v11) q2 q4,()),Prod.snd (Prod.snd (Prod.snd q0)))) (Int.toNat aQ) q3)))))) (Int.toNat aQ) q3)))))),an,ah,()))])))))):=by kernel_rfl
theorem Iu {α:Type} {l:List α} {a:Nat} (h:a<=l.length):n6 (a:Int) (l.length:Int) l=l.drop a:=by
  unfold n6;rw [List.take_of_length_le (by rw [List.length_drop]; omega)];congr 1
theorem LC (a b:Nat):(if (a:Int)<(b:Int) then (a:Int) else (b:Int))=((min b a:Nat):Int):=by split<;>omega
attribute [local irreducible] s5 Q8 H3 in
theorem RY:LO.Valid Tryz.prog 25:=by
  refine o7.o5 Bq rfl rfl Tryz.func25 (c:=d8 Tryz.prog 25) rfl rfl Br rfl ?_;rintro ⟨⟨⟨(v0:Int),(v1:Int),⟨⟩⟩,(al0:List K4),(od:List yY),(wy:List yY),⟨⟩⟩,⟨⟩⟩ ⟨he,(bc:yt (vk ((v0,v1,()),al0,od,wy,()))),(bH:¬ (T9 (vk ((v0,v1,()),al0,od,wy,()))).2.1≠0)⟩ -
  have he:al0=(al0.map rdP).map toM:=congrArg (λ m:CP=>m.2.1) he;obtain ⟨w,hw⟩:∃ w:f8,w=vk ((v0,v1,()),al0,od,wy,()):=⟨_,rfl⟩;rw [<- hw] at bc bH;have jG:w.1=(v0,v1,()):=by rw [hw]
  have jF:w.2.1=al0.map rdP:=by rw [hw]
  have mZ:∀ (al:List K4) (i:Nat),al.length=w.2.1.length->((al.map rdP).getD i j5).1=(w.2.1.getD i j5).1->∀ r,s5 ((v0,v1,()),al.map rdP,r) i=s5 w i:=λ al i h1 h2 r=>by
    have:=b5x (v:=(v0,v1,())) (al':=al.map rdP) (al:=w.2.1) (r:=w.2.2) (r':=r) (p:=(i:Int)) (by rw [List.length_map]; exact h1) h2;rw [this,show ((v0,v1,()),w.2.1,w.2.2)=w by rw [hw]]
  have mB:al0.length=w.2.1.length:=by rw [jF,List.length_map]
  have mG:vD w al0:=by
    have:=vD.start w;rw [jF,<- he] at this;exact this
  have ed:=OA (w:=w) bc.Tc;refine j6 (n:=1000) Bq Br ?_;refine i6 (YO v0 v1 al0 od wy) ?_;have eJ:uP (H3 (vk ((v0,v1,()),al0,od,wy,())))=uP (H3 w):=by rw [hw]
  show Go.Ex.Reach xb Tryz.f25 ((0:Int),()) (uP (H3 (vk ((v0,v1,()),al0,od,wy,()))),()) (.code (f9 (d8 Tryz.prog 25) 4).1::.inLoop (f9 (d8 Tryz.prog 25) 4).1::(f9 (d8 Tryz.prog 25) 4).2) (JM (E5 w 0) (I0 w 0) (al0.length:Int) ((0:Nat):Int) v0 v1 al0 od wy);rw [eJ,mB];refine Reach.M9 Bq Br (λ i:Nat×List K4=>JM (E5 w i.1) (I0 w i.1) (w.2.1.length:Int) (i.1:Int) v0 v1 i.2 od wy) (λ i=>i.1<=w.2.1.length/\vD w i.2)
    (λ i=>w.2.1.length - i.1) 1000 (λ _=>⟨u7 rfl,u7 rfl⟩) ?_ (0,al0) ⟨Nat.zero_le _,mG⟩
  rintro ⟨i,al⟩ ⟨k1,hi⟩ - ih;have k1:i<=w.2.1.length:=k1;have hi:vD w al:=hi;have ih:∀ al',i<w.2.1.length->vD w al'->_:=λ al' h h2=>ih (i+1,al') ⟨by show i+1<=w.2.1.length; omega,h2⟩ (by show w.2.1.length - (i+1)<w.2.1.length - i; omega);refine i6 (b7K ..) ?_;have e1:((i:Nat):Int)+1=((i+1:Nat):Int):=by omega
  have sN:=bc.L9;have hA:=mZ al i hi.len (by rw [NY,hi.rd i]);simp only [j7,Tree.holds,e1,sL];refine ⟨λ c=>⟨by show (al.map rdP).length<=6; rw [List.length_map]; have:=hi.len; omega,λ _=>⟨λ a=>⟨by have:=hi.len; omega,λ _=>⟨λ b=>⟨F1.2 ⟨by omega,by omega⟩,λ _=>?_⟩,λ b=>⟨F1.2 ⟨by omega,by omega⟩,λ _=>?_⟩⟩⟩,λ a=>⟨by omega,λ _=>⟨F1.2 ⟨by omega,by omega⟩,λ _=>?_⟩⟩⟩⟩,λ c=>⟨λ d=>?_,λ d=>?_⟩⟩
  . have a':s5 w i=true:=(hA _).symm.trans a;have hl:(al.getD i dM).2.1.2.1=(w.2.1.getD i j5).2.1:=congrArg (λ x:n7=>x.2.1) (hi.rd i);have b':(I0 w i).length<(w.2.1.getD i j5).2.1.length:=by rw [<- hl]; exact_mod_cast b
    have:=ih _ (by omega) (hi.uV (n:=0) a');rw [show E5 w (i+1)=E5 w i from if_pos a',show I0 w (i+1)=(al.getD i dM).2.1.2.1 by rw [I0,if_pos ⟨a',b'⟩,hl]] at this;exact this
  . have a':s5 w i=true:=(hA _).symm.trans a;have hl:(al.getD i dM).2.1.2.1=(w.2.1.getD i j5).2.1:=congrArg (λ x:n7=>x.2.1) (hi.rd i);have b':¬ (I0 w i).length<(w.2.1.getD i j5).2.1.length:=by rw [<- hl]; intro h; exact b (by exact_mod_cast h)
    have:=ih al (by omega) hi;rw [show E5 w (i+1)=E5 w i from if_pos a',show I0 w (i+1)=I0 w i by rw [I0,if_neg (λ h=>b' h.2)]] at this;exact this
  . have a':s5 w i=false:=(hA _).symm.trans a;have:=ih al (by omega) hi;rw [show E5 w (i+1)=bOr .u8 (E5 w i) (T5 .u8 w.1.2.1 (IntKind.wrap .u8 (1*2^min i IntKind.u8.bits))) from if_neg (by rw [a']; decide),show I0 w (i+1)=I0 w i by rw [I0,if_neg (λ h=>by rw [a'] at h; cases h.1)],jG] at this;exact this
  . obtain rfl:i=w.2.1.length:=by omega
    exact absurd (by rw [T9,jG]; exact d) bH
  obtain rfl:i=w.2.1.length:=by omega
  obtain ⟨L,hL⟩:∃ L,L=I0 w w.2.1.length:=⟨_,rfl⟩;have hg:∀ i:Nat,s5 w i=true->i<w.2.1.length->(w.2.1.getD i j5).2.1.length<=L.length:=λ i h h2=>by rw [hL]; exact Di h h2
  have tH:L.length<=5864062014805:=by rw [hL]; exact ed _
  rw [<- hL];obtain ⟨z0,z1,hz⟩:∃ z0 z1,(Q8 (v0,v1,()) (E5 w w.2.1.length) 0).1=(z0,z1,()):=⟨_,_,rfl⟩;have eL:H3 w=((z0,z1,()),w.2.1.mapIdx (uH w L),[],wy,()):=by
    unfold H3;rw [<- hL,T9,jG,hz,hw]
  rw [eL];suffices go:Go.Ex.Reach xb Tryz.f25 ((0:Int),()) (uP ((z0,z1,()),w.2.1.mapIdx (uH w L),[],wy,()),()) (.code (f9 (d8 Tryz.prog 25) 16).1::.inLoop (f9 (d8 Tryz.prog 25) 16).1::(f9 (d8 Tryz.prog 25) 16).2) (JF L (w.2.1.length:Int) ((0:Nat):Int) z0 z1 v0 v1 al od wy) by
    rw [<- hi.len] at go;have h0:(Q8 (v0,v1,()) (E5 w w.2.1.length) 0).1.1=z0:=by rw [hz]
    have h1:(Q8 (v0,v1,()) (E5 w w.2.1.length) 0).1.2.1=z1:=by rw [hz]
    subst h0; subst h1;rw [hi.len] at go ⊢;exact go
  refine Reach.M9 Bq Br (λ i:Nat×List K4=>JF L (w.2.1.length:Int) (i.1:Int) z0 z1 v0 v1 i.2 od wy) (λ i=>i.1<=w.2.1.length/\vX w L i.1 i.2)
    (λ i=>w.2.1.length - i.1) 1000 (λ _=>⟨u7 rfl,u7 rfl⟩) ?_ (0,al) ⟨Nat.zero_le _,hi.next L⟩
  clear ih;rintro ⟨k,al⟩ ⟨k1,hi⟩ - ih;have k1:k<=w.2.1.length:=k1;have hi:vX w L k al:=hi;have ih:∀ al',k<w.2.1.length->vX w L (k+1) al'->_:=λ al' h h2=>ih (k+1,al') ⟨by show k+1<=w.2.1.length; omega,h2⟩ (by show w.2.1.length - (k+1)<w.2.1.length - k; omega);refine i6 (b6p ..) ?_;have e2:((k:Nat):Int)+1=((k+1:Nat):Int):=by omega
  have hA:=mZ al k hi.len (hi.act k);have hl:(al.getD k dM).2.1.2.1=(w.2.1.getD k j5).2.1:=congrArg (λ x:n7=>x.2.1) (hi.rd k (Nat.le_refl _));have ga:=hi.len;simp only [j7,Tree.holds,e2,sL];refine ⟨λ c=>⟨⟨by omega,by omega⟩,λ _=>⟨by show (al.map rdP).length<=6; rw [List.length_map]; omega,λ _=>⟨λ a=>⟨?_,λ _=>?_⟩,λ a=>⟨F1.2 ⟨by omega,by omega⟩,λ _=>?_⟩⟩⟩⟩,λ c=>?_⟩
  . rw [hl];have:=hg k ((hA _).symm.trans a) (by omega);omega
  . have a':s5 w k=true:=(hA _).symm.trans a;have hb:=hg k a' (by omega);rw [hl,Iu hb];obtain ⟨D,hD⟩:∃ D,D=L.drop (w.2.1.getD k j5).2.1.length:=⟨_,rfl⟩;have uw:D.length<=5864062014805:=by rw [hD,List.length_drop]; omega
    rw [<- hD];suffices go:Go.Ex.Reach xb Tryz.f25 ((0:Int),()) (uP ((z0,z1,()),w.2.1.mapIdx (uH w L),[],wy,()),()) (.code (f9 (d8 Tryz.prog 25) 22).1::.inLoop (f9 (d8 Tryz.prog 25) 22).1::(f9 (d8 Tryz.prog 25) 22).2) (JG L (k:Int) (k:Int) ((countP k (D.take 0):Nat):Int) (w.2.1.length:Int) (k:Int) D (D.length:Int) ((0:Nat):Int) z0 z1 v0 v1 al od wy) by exact go
    refine Reach.M9 Bq Br (λ j:Nat=>JG L (k:Int) (k:Int) ((countP k (D.take j):Nat):Int) (w.2.1.length:Int) (k:Int) D (D.length:Int) (j:Int) z0 z1 v0 v1 al od wy) (λ j=>j<=D.length)
      (λ j=>D.length - j) 1000 (λ _=>⟨u7 rfl,u7 rfl⟩) ?_ 0 (Nat.zero_le _)
    rintro j k2 - ih2;have k2:j<=D.length:=k2;refine i6 (b6o ..) ?_;have e3:((j:Nat):Int)+1=((j+1:Nat):Int):=by omega
    have gM:countP k (D.take j)<=j:=Nat.le_trans countP_le (by rw [List.length_take]; omega);have hG:∀ y:K4,(al.set k y).getD k (false,(1,[],[]),(0,[],()),(0,[],()),(0,[],()),())=y:=λ y=>by
      rw [List.getD_eq_getElem?_getD,List.getElem?_set_self (by omega)]; rfl
    have hS:∀ y z:K4,(al.set k y).set k z=al.set k z:=λ y z=>List.set_set ..;have mC:(al.getD k dM).2.2.1.2.1.length<=1048576:=by
      have:=bc.late k;rw [<- hi.rd k (Nat.le_refl _)] at this;exact this
    simp only [j7,Tree.holds,e3,hG,hS,LC,sL];refine ⟨λ d=>⟨by omega,λ _=>⟨λ e=>⟨F1.2 ⟨by omega,by omega⟩,λ _=>⟨F1.2 ⟨by omega,by omega⟩,λ _=>?_⟩⟩,λ e=>⟨F1.2 ⟨by omega,by omega⟩,λ _=>?_⟩⟩⟩,λ d=>?_⟩
    . have:=ih2 (j+1) (by show j+1<=D.length; omega) (by show D.length - (j+1)<D.length - j; omega);rw [Rx (show j<D.length by omega),if_pos e,Int.natCast_add] at this;exact this
    . have:=ih2 (j+1) (by show j+1<=D.length; omega) (by show D.length - (j+1)<D.length - j; omega);rw [Rx (show j<D.length by omega),if_neg e,Nat.add_zero] at this;exact this
    . obtain rfl:j=D.length:=by omega
      have hr:=hi.rd k (Nat.le_refl _);simp only [dM] at mC hr;refine ⟨tH,λ _=>⟨⟨by omega,by omega,Int.le_refl _⟩,λ _=>⟨?_,λ _=>⟨⟨by omega,by omega⟩,λ _=>?_⟩⟩⟩⟩
      . rw [Iu (Nat.min_le_right ..),List.length_drop]; omega
      . rw [Iu (Nat.min_le_right ..),List.take_length];have:=ih _ (by omega) hi.step;rw [show uH w L k (w.2.1.getD k j5)=((w.2.1.getD k j5).1,L,(0,(w.2.1.getD k j5).2.2.1.2.1.drop (min (countP k D) (w.2.1.getD k j5).2.2.1.2.1.length),()),(0,[],()),(0,[],()),()) from (if_pos a').trans (by rw [hD])] at this;rw [<- hr] at this;exact this
  . have a':s5 w k=false:=(hA _).symm.trans a;have:=ih _ (by omega) hi.step;rw [show uH w L k (w.2.1.getD k j5)=((w.2.1.getD k j5).1,(w.2.1.getD k j5).2.1,(w.2.1.getD k j5).2.2.1,(w.2.1.getD k j5).2.2.2.1,(0,[],()),()) from if_neg (by rw [a']; decide)] at this;have hs:=hi.same k (Nat.le_refl _) a';simp only [dM] at hs;rw [hs];exact this
  . obtain rfl:k=w.2.1.length:=by omega
    have:=hi.fin;subst this;rfl
end Go.Proofs.YtijlnmgondibnaaGreatDoor
namespace Go.Proofs.YtijlnmgondibnaaGreatDoor
open Go.Ex
set_option maxRecDepth 100000
def xr (S:Nat->List C8) (O:List C8) (n:y8):Prop :=
  (n.1=1->(S n.2.1.toNat)[n.2.2.2.2.1.toNat]?=some n.2.2.2.2.2.2.1)/\(n.1=2->O[n.2.2.2.2.1.toNat]?=some n.2.2.2.2.2.2.1)
def yT (S:Nat->List C8) (O:List C8) (V:Int) (s:C8):Prop:=(w6 s).2.1=0->(w6 s).1.2.2.2.1<=V/\((w6 s).1.2.2.2.1=V->xr S O (w6 s).1)
structure Cv (said:Nat->List C8) (B:List C9) (S:Nat->List C8) (Q:List U4) (p:Nat) (x:n7) (m:Nat):Prop where
  le:m<=Q.length
  next:x.2.2.2.1.1=m
  wait:∀ q∈x.2.2.2.1.2.1,(N6 Q)[q.1.toNat]?=some q.2.1
  log:x.2.1=B++(Q.take m).map vI
  from_:x.2.2.1=(((B8 p (Q.take m)).length:Int),(S p).drop (B8 p (Q.take m)).length,())
  ok:H6 x.2.2.1=0
structure Inv (said:Nat->List C8) (B:List C9) (S:Nat->List C8) (Q:List U4) (w:f8):Prop where
  L9:w.2.1.length<=6
  way:w.2.2.2.1.length<=60
  ord:w.2.2.1=N6 Q
  inQ:∀ x∈Q,x.1<w.2.1.length
  yL:∀ p,B8 p Q <+: S p
  short:∀ p,(S p).length<=16777215
  msg:∀ s∈w.2.2.2.1,yT S w.2.2.1 w.1.1 s
  rcv:∀ p:Nat,p<w.2.1.length->(w.2.1.getD p j5).2.2.2.2.1.1=(B8 p Q).length/\∀ q∈(w.2.1.getD p j5).2.2.2.2.1.2.1,(S p)[q.1.toNat]?=some q.2.1
  mem:∀ p:Nat,p<w.2.1.length->V1 w.1.2.1 p=true->(∃ m,Cv said B S Q p (w.2.1.getD p j5) m)/\said p=ofP p B++S p
  out:∀ p:Nat,p<w.2.1.length->V1 w.1.2.1 p=false->S p=[]/\ofP p B <+: said p
  Ky:∀ s∈B,0<=s.1/\s.1<(w.2.1.length:Int)
structure V3 (P:y8->Prop) (w w':f8):Prop where
  view:w'.1=w.1
  all:w'.2.1=w.2.1
  ord:w'.2.2.1=w.2.2.1
  len:w.2.2.2.1.length<=60->w'.2.2.2.1.length<=60
  way:∀ s∈w'.2.2.2.1,s∈w.2.2.2.1\/∃ n:y8,w6 s=(n,0,())/\n.2.2.2.1=w.1.1/\P n
theorem V3.refl {P:y8->Prop} (w:f8):V3 P w w:=⟨rfl,rfl,rfl,id,λ _ h=>.inl h⟩
theorem V3.trans {P:y8->Prop} {w w' w'':f8} (h:V3 P w w') (h':V3 P w' w''):V3 P w w'' :=
  ⟨h'.view.trans h.view,h'.all.trans h.all,h'.ord.trans h.ord,λ e=>h'.len (h.len e),λ s hs=>by
    rcases h'.way s hs with h1|⟨n,h1,h2,h3⟩
    . exact h.way s h1
    . exact .inr ⟨n,h1,by rw [h2,h.view],h3⟩⟩
theorem V3.one {P:y8->Prop} {w:f8} {k f t q:Int} {x:C8} (h:P (k,f,t,w.1.1,q,[0,0,0,0,0,0],x,())):V3 P w (L7 w k f t q x):=by
  by_cases c:(S5 (k,f,t,w.1.1,q,[0,0,0,0,0,0],x,())).2.1=0/\(w.2.2.2.1.length:Int)<60
  . rw [Jd c.1 c.2];refine ⟨rfl,rfl,rfl,λ _=>?_,λ s hs=>?_⟩
    . show (w.2.2.2.1++[_]).length<=60;rw [List.length_append];have:=c.2;simp only [List.length_singleton]; omega
    . rcases List.mem_append.1 hs with hs|hs
      . exact .inl hs
      . rw [List.mem_singleton] at hs;have hc:H4 (k,f,t,w.1.1,q,[0,0,0,0,0,0],x,())=0:=by
          by_cases hc:H4 (k,f,t,w.1.1,q,[0,0,0,0,0,0],x,())=0
          . exact hc
          . have:=c.1;rw [WH hc] at this;exact absurd this hc
        rw [VN hc] at hs;exact .inr ⟨_,by rw [hs]; exact Ye hc rfl,rfl,h⟩
  . rw [DB c]; exact .refl w
theorem Inv.FV {said:Nat->List C8} {B:List C9} {S:Nat->List C8} {Q:List U4} {w w':f8} (h:Inv said B S Q w) (hs:V3 (xr S w.2.2.1) w w'):Inv said B S Q w':=by
  obtain ⟨h1,h2,h3,h4,h5,h6,h7,h8,h9,iZ,jE⟩:=h;refine ⟨by rw [hs.all]; exact h1,hs.len h2,by rw [hs.ord]; exact h3,by rw [hs.all]; exact h4,h5,h6,?_,by rw [hs.all]; exact h8,by rw [hs.all,hs.view]; exact h9,by rw [hs.all,hs.view]; exact iZ,by rw [hs.all]; exact jE⟩;intro s hm;rw [hs.view,hs.ord];rcases hs.way s hm with h|⟨n,e1,e2,e3⟩
  . exact h7 s h
  . intro _;rw [e1];exact ⟨by show n.2.2.2.1<=w.1.1; omega,λ _=>e3⟩
theorem Inv.D5 {said:Nat->List C8} {B:List C9} {S:Nat->List C8} {Q:List U4} {w:f8} (h:Inv said B S Q w) {p:Nat} {x:n7}
    (hr:p<w.2.1.length->x.2.2.2.2.1.1=(B8 p Q).length/\∀ q∈x.2.2.2.2.1.2.1,(S p)[q.1.toNat]?=some q.2.1)
    (hm:p<w.2.1.length->V1 w.1.2.1 p=true->∃ m,Cv said B S Q p x m):Inv said B S Q (w.1,w.2.1.set p x,w.2.2):=by
  obtain ⟨h1,h2,h3,h4,h5,h6,h7,h8,h9,iZ,jE⟩:=h;have hl:(w.2.1.set p x).length=w.2.1.length:=List.length_set ..;refine ⟨by rw [hl]; exact h1,h2,h3,by rw [hl]; exact h4,h5,h6,h7,λ q hq=>?_,λ q hq hv=>?_,λ q hq hv=>?_,by show ∀ s∈B,0<=s.1/\s.1<((w.2.1.set p x).length:Int); rw [hl]; exact jE⟩
  . rw [hl] at hq;rw [W3]
    split
    . rename_i e; rw [<- e.1]; exact hr e.2
    . exact h8 q hq
  . rw [hl] at hq;rw [W3];refine ⟨?_,(h9 q hq hv).2⟩
    split
    . rename_i e; rw [<- e.1]; rw [<- e.1] at hv; exact hm e.2 hv
    . exact (h9 q hq hv).1
  . rw [hl] at hq;exact iZ q hq hv
theorem xr.mono {S S':Nat->List C8} {O O':List C8} {n:y8} (h:xr S O n) (hS:∀ p,S p <+: S' p) (hO:O <+: O'):xr S' O' n :=
  ⟨λ e=>zq (hS _) (h.1 e),λ e=>zq hO (h.2 e)⟩
theorem yT.mono {S S':Nat->List C8} {O O':List C8} {V:Int} {s:C8} (h:yT S O V s) (hS:∀ p,S p <+: S' p) (hO:O <+: O'):yT S' O' V s :=
  λ e=>⟨(h e).1,λ e2=>((h e).2 e2).mono hS hO⟩
def vq (f:Nat->List C8) (p:Nat) (x:List C8):Nat->List C8:=λ q=>if q=p then x else f q
theorem zE {f:Nat->List C8} {p:Nat} {x:List C8}:vq f p x p=x:=if_pos rfl
theorem yq {f:Nat->List C8} {p q:Nat} {x:List C8} (h:q≠p):vq f p x q=f q:=if_neg h
theorem Me {s:vg} {x:C8} (h:¬ (P7 s x).2.1≠0):(P7 s x).1=(s.1,s.2.1++[x],())/\H6 (s.1,s.2.1++[x],())=0/\s.1+s.2.1.length<16777215:=by
  unfold P7 at h ⊢;by_cases h1:H6 s≠0
  . rw [if_pos h1] at h; exact absurd h1 h
  rw [if_neg h1] at h ⊢;have aM:=xd (Decidable.not_not.1 h1);by_cases h2:D8 x=true
  . rw [if_pos h2] at h; exact absurd (by decide) h
  rw [if_neg h2] at h ⊢;by_cases h3:(s.2.1.length:Int)=16\/16777215<=s.1+s.2.1.length
  . rw [if_pos h3] at h; exact absurd (by decide) h
  rw [if_neg h3];have h4:¬ (s.2.1.length:Int)=16:=λ e=>h3 (.inl e);have h5:¬ 16777215<=s.1+s.2.1.length:=λ e=>h3 (.inr e);refine ⟨rfl,?_,by omega⟩;unfold H6;rw [if_neg (by rw [wU.2 aM.1]; decide),if_neg,if_neg]
  . rw [List.any_append,aM.2.2];simpa using h2
  . show ¬ (16:Int)<((s.2.1++[x]).length:Int);rw [List.length_append]; simp only [List.length_singleton];have:=aM.2.1;omega
theorem Inv.say {said:Nat->List C8} {B:List C9} {S:Nat->List C8} {Q:List U4} {w:f8} (h:Inv said B S Q w) {p:Nat} {t:C8} (hp:p<w.2.1.length) (hv:V1 w.1.2.1 p=true)
    (hl:¬ (P7 (vA w p) t).2.1≠0):Inv (vq said p (said p++[t])) B (vq S p (S p++[t])) Q (KW w p t (P7 (vA w p) t).1):=by
  obtain ⟨h1,h2,h3,h4,h5,h6,h7,h8,h9,iZ,jE⟩:=h;obtain ⟨g1,g2,g3⟩:=Me hl;obtain ⟨⟨m,hm⟩,eH⟩:=h9 p hp hv;have hf:vA w p=(((B8 p (Q.take m)).length:Int),(S p).drop (B8 p (Q.take m)).length,()):=hm.from_;have hle:(B8 p (Q.take m)).length<=(S p).length:=((yr (p:=p) (Q:=Q) (i:=m)).trans (h5 p)).length_le;rw [g1];rw [hf] at g2 g3 ⊢;simp only [List.length_drop] at g3;have mO:(S p).drop (B8 p (Q.take m)).length++[t]=(S p++[t]).drop (B8 p (Q.take m)).length:=(List.drop_append_of_le_length hle).symm;simp only [mO] at g2 ⊢;have hS:∀ q,S q <+: vq S p (S p++[t]) q:=λ q=>by
    by_cases e:q=p
    . subst e; rw [zE]; exact List.prefix_append ..
    . rw [yq e]; exact List.prefix_rfl
  have hlen:(setFrom w p (((B8 p (Q.take m)).length:Int),(S p++[t]).drop (B8 p (Q.take m)).length,())).2.1.length=w.2.1.length:=List.length_set ..;have cD:∀ q,(setFrom w p (((B8 p (Q.take m)).length:Int),(S p++[t]).drop (B8 p (Q.take m)).length,())).2.1.getD q j5=if p=q then ((w.2.1.getD p j5).1,(w.2.1.getD p j5).2.1,(((B8 p (Q.take m)).length:Int),(S p++[t]).drop (B8 p (Q.take m)).length,()),(w.2.1.getD p j5).2.2.2) else w.2.1.getD q j5:=λ q=>by
    show (w.2.1.set p _).getD q j5=_;rw [W3];by_cases e:p=q
    . rw [if_pos ⟨e,hp⟩,if_pos e]; rfl
    . rw [if_neg (λ h=>e h.1),if_neg e]
  have base:Inv (vq said p (said p++[t])) B (vq S p (S p++[t])) Q (setFrom w p (((B8 p (Q.take m)).length:Int),(S p++[t]).drop (B8 p (Q.take m)).length,())):=by
    refine ⟨by rw [hlen]; exact h1,h2,h3,by rw [hlen]; exact h4,λ q=>(h5 q).trans (hS q),λ q=>?_,λ s hs=>(h7 s hs).mono hS List.prefix_rfl,λ q hq=>?_,λ q hq hv=>?_,λ q hq hv=>?_,by rw [hlen]; exact jE⟩
    . by_cases e:q=p
      . subst e; rw [zE,List.length_append]; simp only [List.length_singleton]; omega
      . rw [yq e]; exact h6 q
    . rw [hlen] at hq;rw [cD];by_cases e:p=q
      . subst e;rw [if_pos rfl];exact ⟨(h8 p hq).1,λ x hx=>zq (hS p) ((h8 p hq).2 x hx)⟩
      . rw [if_neg e];exact ⟨(h8 q hq).1,λ x hx=>zq (hS q) ((h8 q hq).2 x hx)⟩
    . rw [hlen] at hq;rw [cD];by_cases e:p=q
      . subst e;rw [if_pos rfl,zE,zE];refine ⟨⟨m,hm.le,hm.next,hm.wait,hm.log,?_,g2⟩,by rw [eH,List.append_assoc]⟩;rw [zE]
      . rw [if_neg e,yq (Ne.symm e),yq (Ne.symm e)];obtain ⟨⟨m',gw⟩,lp⟩:=h9 q hq hv;refine ⟨⟨m',gw.le,gw.next,gw.wait,gw.log,?_,gw.ok⟩,lp⟩;rw [yq (Ne.symm e)];exact gw.from_
    . rw [hlen] at hq;have e:q≠p:=by
        rintro rfl;have fF:V1 w.1.2.1 q=false:=hv;rename_i eY;rw [eY] at fF; cases fF
      rw [yq e,yq e];exact iZ q hq hv
  refine base.FV (V3.one ⟨λ _=>?_,λ h=>by cases h⟩);show (vq S p (S p++[t]) ((p:Int)).toNat)[(((B8 p (Q.take m)).length:Int)+(((S p++[t]).drop (B8 p (Q.take m)).length).length:Int) - 1).toNat]?=some t;rw [show ((p:Int)).toNat=p from rfl,zE];rw [List.length_drop,List.length_append];simp only [List.length_singleton];rw [show (((B8 p (Q.take m)).length:Int)+(((S p).length+1 - (B8 p (Q.take m)).length:Nat):Int) - 1).toNat=(S p).length by omega];rw [List.getElem?_append_right (Nat.le_refl _),Nat.sub_self]; rfl
section
variable {said:Nat->List C8} {B:List C9} {S:Nat->List C8} {Q:List U4} {w:f8}
theorem QL {b most:Int} {l:List C8}:∀ {k:Nat},k<=l.length->∀ x∈wZ b most l k,∃ i,i<l.length/\x=(b+i,l.getD i [],())
  | 0,_,x,h=>by cases h
  | k+1,hk,x,h=>by
    rw [wZ] at h;rcases List.mem_append.1 h with h|h
    . exact QL (by omega) x h
    . split at h
      . rw [List.mem_singleton] at h; exact ⟨k,by omega,h⟩
      . cases h
theorem RX {P:y8->Prop} {p:Int} {l:List C9} {w:f8} (h:∀ x∈l,∀ f v,P (1,p,f,v,x.1,[0,0,0,0,0,0],x.2.1,())):∀ {k},k<=l.length->V3 P w (M4 p l w k)
  | 0,_=>.refl w
  | k+1,hk=>by
    rw [M4];refine (RX h (by omega)).trans (V3.one (h _ ?_ _ _));rw [List.getD_eq_getElem?_getD,List.getElem?_eq_getElem (by omega)]; exact List.getElem_mem _
theorem Inv.again (h:Inv said B S Q w) {p:Nat} (hp:p<w.2.1.length) (hv:V1 w.1.2.1 p=true) :
    Inv said B S Q (BQ (M4 p (xt w p) w (xt w p).length) p):=by
  refine h.FV ((RX (λ x hx f v=>?_) (Nat.le_refl _)).trans (V3.one ⟨λ e=>(by cases e),λ e=>(by cases e)⟩));refine ⟨λ _=>?_,λ e=>by cases e⟩;obtain ⟨⟨m,hm⟩,-⟩:=h.mem p hp hv;have hf:vA w p=(((B8 p (Q.take m)).length:Int),(S p).drop (B8 p (Q.take m)).length,()):=hm.from_;have pz:H6 (vA w p)=0:=hm.ok;unfold xt wk at hx;rw [if_neg (by rw [pz]; simp),hf] at hx;obtain ⟨i,hi,rfl⟩:=QL (Nat.le_refl _) x hx;show (S ((p:Int)).toNat)[(((B8 p (Q.take m)).length:Int)+(i:Int)).toNat]?=some (((S p).drop (B8 p (Q.take m)).length).getD i []);rw [show ((p:Int)).toNat=p from rfl,show (((B8 p (Q.take m)).length:Int)+(i:Int)).toNat=(B8 p (Q.take m)).length+i by omega];rw [<- List.getElem?_drop,List.getD_eq_getElem?_getD,List.getElem?_eq_getElem hi]; rfl
theorem Inv.Ta (h:Inv said B S Q w) (p:Nat):Inv said B S Q (w.1,w.2.1.set p (true,(w.2.1.getD p j5).2),w.2.2):=by
  refine h.D5 (λ hp=>h.rcv p hp) (λ hp hv=>?_);obtain ⟨⟨m,hm⟩,-⟩:=h.mem p hp hv;exact ⟨m,hm.le,hm.next,hm.wait,hm.log,hm.from_,hm.ok⟩
theorem Inv.ways (h:Inv said B S Q w) {l:List C8} (hl:l.length<=60) (hm:∀ s∈l,s∈w.2.2.2.1):Inv said B S Q (w.1,w.2.1,w.2.2.1,l,()):=by
  obtain ⟨h1,h2,h3,h4,h5,h6,h7,h8,h9,iZ,jE⟩:=h;exact ⟨h1,hl,h3,h4,h5,h6,λ s hs=>h7 s (hm s hs),h8,h9,iZ,jE⟩
theorem Inv.drop (h:Inv said B S Q w) (k:Int):Inv said B S Q (ye w k):=by
  refine h.ways ?_ (λ s hs=>?_)
  . have:=h.way;rw [List.length_append,List.length_take,List.length_drop];by_cases c:0<=k
    . omega
    . have e1:k.toNat=0:=by omega
      have e2:(k+1).toNat=0:=by omega
      rw [e1,e2]; omega
  . rcases List.mem_append.1 hs with hs|hs
    . exact List.mem_of_mem_take hs
    . exact List.mem_of_mem_drop hs
theorem Inv.copy (h:Inv said B S Q w) {k:Nat} (hk:k<w.2.2.2.1.length) (hn:¬ (w.2.2.2.1.length:Int)=60):Inv said B S Q (Ci w k):=by
  refine h.ways ?_ (λ s hs=>?_)
  . have:=h.way;rw [List.length_append]; simp only [List.length_singleton]; omega
  . rcases List.mem_append.1 hs with hs|hs
    . exact hs
    . rw [List.mem_singleton] at hs;rw [hs,List.getD_eq_getElem?_getD,List.getElem?_eq_getElem hk]; exact List.getElem_mem _
theorem Inv.asks (h:Inv said B S Q w) {n:y8} (h0:0<=n.2.2.2.2.1):∀ j,V3 (xr S w.2.2.1) w (F2 w n j)
  | 0=>.refl w
  | j+1=>by
    rw [F2]
    split
    . rename_i bf;refine (Inv.asks h h0 j).trans (V3.one ⟨λ e=>(by cases e),λ _=>?_⟩);rw [(zy j).2.2] at bf;show w.2.2.1[(n.2.2.2.2.1+j).toNat]?=some ((F2 w n j).2.2.1.getD (n.2.2.2.2.1+j).toNat []);rw [(zy j).2.2,List.getD_eq_getElem?_getD,List.getElem?_eq_getElem (by omega)]; rfl
    . exact Inv.asks h h0 j
structure Told (texts:List C8) (w w':f8):Prop where
  view:w'.1=w.1
  all:w'.2.1=w.2.1
  ord:w'.2.2.1=w.2.2.1++texts
  len:w.2.2.2.1.length<=60->w'.2.2.2.1.length<=60
  way:∀ s∈w'.2.2.2.1,s∈w.2.2.2.1\/∃ n:y8,w6 s=(n,0,())/\n.2.2.2.1=w.1.1/\n.1=2/\(w.2.2.1++texts)[n.2.2.2.2.1.toNat]?=some n.2.2.2.2.2.2.1
theorem Rp {x:C8} {w:f8} {P:y8->Prop} (h:∀ f t,P (2,f,t,w.1.1,(w.2.2.1.length:Int) - 1,[0,0,0,0,0,0],x,())):∀ p,V3 P w (G2 x w p)
  | 0=>.refl w
  | p+1=>by
    rw [G2];have ih:=Rp h p
    split
    . refine ih.trans (V3.one ?_);rw [ih.view,ih.ord];exact h _ _
    . exact ih
theorem told {f first:Int} {l:List C8} {w:f8}:∀ {i},i<=l.length->Told ((l.take i).mapIdx (λ j t=>I4 f (first+j) t)) w (I6 f first l w i)
  | 0,_=>⟨rfl,rfl,by simp [I6],id,λ s h=>.inl h⟩
  | i+1,hi=>by
    have ih:=told (f:=f) (first:=first) (w:=w) (show i<=l.length by omega);rw [I6];obtain ⟨u,hu⟩:∃ u,u=I6 f first l w i:=⟨_,rfl⟩
    obtain ⟨x,hx⟩:∃ x,x=I4 f (first+i) (l.getD i []):=⟨_,rfl⟩;rw [<- hu] at ih ⊢;rw [<- hx];have rD:(l.take (i+1)).mapIdx (λ j t=>I4 f (first+j) t)=(l.take i).mapIdx (λ j t=>I4 f (first+j) t)++[x]:=by
      rw [Jm (show i<l.length by omega) [],List.mapIdx_append,hx];simp only [List.length_take];rw [show min i l.length=i by omega];simp
    rw [rD];have hp:(a70 u x).2.2.1=w.2.2.1++((l.take i).mapIdx (λ j t=>I4 f (first+j) t)++[x]):=by
      show u.2.2.1++[x]=_;rw [ih.ord,List.append_assoc]
    have hc:=Rp (x:=x) (w:=a70 u x) (P:=λ n=>n.1=2/\(a70 u x).2.2.1[n.2.2.2.2.1.toNat]?=some n.2.2.2.2.2.2.1) (λ f t=>⟨rfl,by
      show (u.2.2.1++[x])[(((u.2.2.1++[x]).length:Int) - 1).toNat]?=some x;rw [List.length_append];simp only [List.length_singleton];rw [show (((u.2.2.1.length+1:Nat):Int) - 1).toNat=u.2.2.1.length by omega];rw [List.getElem?_append_right (Nat.le_refl _),Nat.sub_self]; rfl⟩) u.2.1.length
    refine ⟨hc.view.trans ih.view,hc.all.trans ih.all,hc.ord.trans hp,λ e=>hc.len (ih.len e),λ s hs=>?_⟩;rcases hc.way s hs with hs|⟨n,e1,e2,e3,e4⟩
    . rcases ih.way s hs with hs|⟨n,e1,e2,e3,e4⟩
      . exact .inl hs
      . refine .inr ⟨n,e1,e2,e3,?_⟩;rw [<- List.append_assoc];exact zq (List.prefix_append ..) e4
    . refine .inr ⟨n,e1,?_,e3,?_⟩
      . rw [e2];show u.1.1=w.1.1;rw [ih.view]
      . rw [<- hp]; exact e4
structure c74 (S:Nat->List C8) (w:f8) (n:y8):Prop where
  msg:xr S w.2.2.1 n
  seq:0<=n.2.2.2.2.1
theorem RE {P:List U4} {p:Nat}:∀ {l:List C8} {c:Nat},(B8 p P).length=c->M5 P (l.map λ t=>(p,t))=l.mapIdx (λ j t=>I4 p ((c:Int)+j) t)
  | [],_,_=>rfl
  | t::l,c,h=>by
    rw [List.map_cons,M5,List.mapIdx_cons,RE (c:=c+1) (by rw [xH,List.length_append,h]; simp [B8])];rw [h];have e:(λ(j:Nat) (t:C8)=>I4 (p:Int) (((c+1:Nat):Int)+j) t)=λ j t=>I4 p ((c:Int)+((j+1:Nat):Int)) t:=by
      funext j t
      rw [show ((c+1:Nat):Int)+(j:Int)=(c:Int)+((j+1:Nat):Int) by omega]
    refine congr (congrArg List.cons ?_) (congrArg (λ f=>List.mapIdx f l) e);show I4 p c t=I4 p ((c:Int)+((0:Nat):Int)) t;rw [show (c:Int)+((0:Nat):Int)=c by omega]
theorem Inv.order (h:Inv said B S Q w) {n:y8} (hk:¬ known w n.2.1≠0) (hm:(S n.2.1.toNat)[n.2.2.2.2.1.toNat]?=some n.2.2.2.2.2.2.1) :
    ∃ Q',Inv said B S Q' (W7 w n):=by
  by_cases he:(X8 w n).2.2.1≠0
  . refine ⟨Q,?_⟩;rw [W7,if_pos he]; exact h
  rw [W7,if_neg he];obtain ⟨v,al,rr⟩:=w;have nI:=Dg hk;obtain ⟨p,hp⟩:∃ p:Nat,n.2.1=p:=⟨n.2.1.toNat,by omega⟩;have cf:p<al.length:=by omega
  rw [hp] at hm ⊢;have ll:X8 (v,al,rr) n=D0 (al.getD p j5).2.2.2.2.1 (n.2.2.2.2.1,n.2.2.2.2.2.2.1,()):=by rw [X8,hp]; rfl
  rw [ll] at he ⊢;obtain ⟨lr,lT⟩:=h.rcv p cf;obtain ⟨r,hr⟩:∃ r,r=D0 (al.getD p j5).2.2.2.2.1 (n.2.2.2.2.1,n.2.2.2.2.2.2.1,()):=⟨_,rfl⟩;have kQ:=Decidable.not_not.1 he;obtain ⟨a1,a2,a3,a4,a5,a6⟩:=yC kQ;have fI:=Ph (F:=λ i=>(S p)[i]?) kQ lT hm;rw [<- hr] at kQ a1 a2 a3 a5 a6 fI ⊢;have oH:((al.getD p j5).2.2.2.2.1.1).toNat=(B8 p Q).length:=by
    have:(al.getD p j5).2.2.2.2.1.1=(B8 p Q).length:=lr;omega
  have lU:(al.getD p j5).2.2.2.2.1.1=((B8 p Q).length:Int):=lr;have hl:=VY (X:=S p) (l:=r.2.1) (r:=(B8 p Q).length) (λ i hi=>by rw [<- oH]; exact fI i hi);have hT:=told (f:=(p:Int)) (first:=(B8 p Q).length) (l:=r.2.1) (w:=xI (v,al,rr) p (xB (N4 (v,al,rr) p) r.1)) (Nat.le_refl _);have kO:(N4 (v,al,rr) (p:Int)).2.2.2.2.1.1=((B8 p Q).length:Int):=lr;rw [kO];rw [List.take_length] at hT;have pD:r.2.1.mapIdx (λ j t=>I4 (p:Int) (((B8 p Q).length:Int)+j) t)=M5 Q (r.2.1.map λ t=>(p,t)):=(RE rfl).symm;rw [pD] at hT;obtain ⟨u,hu⟩:∃ u,u=I6 (p:Int) ((B8 p Q).length:Int) r.2.1 (xI (v,al,rr) p (xB (N4 (v,al,rr) p) r.1)) r.2.1.length:=⟨_,rfl⟩;rw [<- hu] at hT ⊢;have hQ:∀ q,B8 q (Q++r.2.1.map λ t=>(p,t))=B8 q Q++if p=q then r.2.1 else []:=λ q=>by rw [xH,UF]
  have bF:u.2.1=al.set p (xB (al.getD p j5) r.1):=hT.all;have hlen:u.2.1.length=al.length:=by rw [bF,List.length_set]
  have ij:u.1=v:=hT.view;have oO:u.2.2.1=N6 (Q++r.2.1.map λ t=>(p,t)):=by
    rw [hT.ord,PM];congr 1;exact h.ord
  have lV:rr.1 <+: u.2.2.1:=⟨_,hT.ord.symm⟩;have cD:∀ q,u.2.1.getD q j5=if p=q then xB (al.getD p j5) r.1 else al.getD q j5:=λ q=>by
    rw [bF,W3];by_cases e:p=q
    . rw [if_pos ⟨e,cf⟩,if_pos e]
    . rw [if_neg (λ h=>e h.1),if_neg e]
  refine ⟨Q++r.2.1.map λ t=>(p,t),by rw [hlen]; exact h.L9,hT.len h.way,oO,λ x hx=>?_,λ q=>?_,h.short,λ s hs=>?_,λ q hq=>?_,λ q hq hv=>?_,λ q hq hv=>?_,by rw [hlen]; exact h.Ky⟩
  . rw [hlen];rcases List.mem_append.1 hx with hx|hx
    . exact h.inQ x hx
    . obtain ⟨t,-,rfl⟩:=List.mem_map.1 hx;exact cf
  . rw [hQ];by_cases e:p=q
    . subst e;rw [if_pos rfl];have bc:B8 p Q=(S p).take (B8 p Q).length:=List.prefix_iff_eq_take.1 (h.yL p);have:B8 p Q++r.2.1=(S p).take ((B8 p Q).length+r.2.1.length):=by
        rw [List.take_add,<- hl,<- bc]
      rw [this];exact List.take_prefix ..
    . rw [if_neg e,List.append_nil]; exact h.yL q
  . rw [ij];rcases hT.way s hs with hs|⟨m,e1,e2,e3,e4⟩
    . exact (h.msg s hs).mono (λ _=>List.prefix_rfl) lV
    . intro _;rw [e1];refine ⟨Int.le_of_eq e2,λ _=>⟨λ e=>?_,λ _=>?_⟩⟩
      . have e3:m.1=2:=e3;have e:m.1=1:=e;omega
      . rw [hT.ord]; exact e4
  . rw [hlen] at hq;rw [cD,hQ];by_cases e:p=q
    . subst e;rw [if_pos rfl,if_pos rfl];refine ⟨?_,λ x hx=>?_⟩
      . show r.1.1=_;rw [a5,lU,List.length_append]; omega
      . rcases a2 x hx with rfl|hx
        . exact hm
        . exact lT x hx
    . rw [if_neg e,if_neg e,List.append_nil]; exact h.rcv q hq
  . rw [hlen] at hq;rw [ij] at hv;obtain ⟨⟨m,hm⟩,hs⟩:=h.mem q hq hv;refine ⟨⟨m,?_⟩,hs⟩;have br:Cv said B S (Q++r.2.1.map λ t=>(p,t)) q (al.getD q j5) m:=by
      have ll:(Q++r.2.1.map λ t=>(p,t)).take m=Q.take m:=List.take_append_of_le_length hm.le;refine ⟨by rw [List.length_append]; have:=hm.le; omega,hm.next,λ x hx=>?_,by rw [ll]; exact hm.log,by rw [ll]; exact hm.from_,hm.ok⟩;rw [PM];exact zq (List.prefix_append ..) (hm.wait x hx)
    rw [cD];by_cases e:p=q
    . subst e;rw [if_pos rfl];exact ⟨br.le,br.next,br.wait,br.log,br.from_,br.ok⟩
    . rw [if_neg e]; exact br
  . rw [hlen] at hq;rw [ij] at hv;exact h.out q hq hv
end
end Go.Proofs.YtijlnmgondibnaaGreatDoor
