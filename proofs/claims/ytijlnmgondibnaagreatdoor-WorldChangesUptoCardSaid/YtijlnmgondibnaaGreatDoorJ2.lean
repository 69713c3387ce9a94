import Derived.Test.YtijlnmgondibnaaGreatDoorJ1
import Derived.Test.YtijlnmgondibnaaGreatDoorProg
import Derived.Lib.Atoi
import Derived.Lib.ItoaMem
import Derived.Lib.IndexMore
import Derived.Shelf.Strconv.Itoa3
import Derived.Lib.ItoaLen
import Derived.Shelf.Strings.Split
import Derived.Lib.SlTrimSet
import Derived.Lib.Strings
import Derived.WalkKit
import Derived.Lib.Walk
import Derived.Shelf.RegionOpenPlain
import Derived.Shelf.Strings.Prefix
import Derived.Shelf.Strings.SlTrimAscii
import Derived.Shelf.Strconv.Atoi
import Derived.Lib.SmallJoins
import Derived.Shelf.Strings.Cut
set_option linter.unusedVariables false
set_option linter.unusedSimpArgs false
set_option linter.unusedSectionVars false
namespace Go.Proofs.YtijlnmgondibnaaGreatDoor
open Go.Ex
set_option maxRecDepth 100000
attribute [local irreducible] Go.Ex.exec
theorem Vr:Ty.wb r8=24:=rfl
def Bb:p7:={ ps:=[.v (.d0 false r8)],rs:=[.d0 true r8],pre:=λ x=>List.length (α:=D7) x.1<=5864062014805,fn:=λ x=>x,out:=λ _=>() }
noncomputable def FZ:Env:={ P:=Tryz.prog,tt:=tt,C9:=[],res:=[Go.ResultVar.tmp 2],rs:=[Ty.d0 true r8],ps:=[PK.v M6],B8:=[],nt:=8 }
theorem NF:w7 FZ:=x6 r7 trivial
theorem NP:C0 FZ Tryz.f31:=⟨rfl,rfl⟩
theorem VA (x0:List (Int×yY×Unit)):exec FZ 1000 [.code (d8 Tryz.prog 31)] (s5 Bb.ps ((x0,()))) =
  .both (x0=[]) (.ret (([],()))) (.f8 ((0:Nat)+List.length x0<=140737488355328/\((0:Nat)+List.length x0)*Ty.wb r8<=140737488355328) (.ret (([]++x0,())))):=by kernel_rfl
theorem Lc:Bb.Valid Tryz.prog 31:=by
  refine p7.n8 NF rfl rfl Tryz.func31 (c:=d8 Tryz.prog 31) rfl rfl NP rfl ?_;rintro ⟨(l:List (D7)),⟨⟩⟩ hp -
  have hp:l.length<=5864062014805:=hp;refine j6 (n:=1000) NF NP ?_;refine i7 (VA l) ?_;simp only [j7,Tree.holds,Vr,sL];refine ⟨λ h=>?_,by omega,λ _=>rfl⟩;show (([],()):List (D7)×Unit)=(l,());rw [show l=[] from h]
theorem Vt:Ty.wb .str=16:=rfl
def Gr:p7:={ ps:=[.v (.d0 false .str)],rs:=[.d0 true .str],pre:=λ x=>List.length (α:=yY) x.1<=1048576,fn:=λ x=>x,out:=λ _=>() }
noncomputable def FV:Env:={ P:=Tryz.prog,tt:=tt,C9:=[],res:=[Go.ResultVar.tmp 2],rs:=[Ty.d0 true Ty.str],ps:=[PK.v (Ty.d0 false Ty.str)],B8:=[],nt:=8 }
theorem NM:w7 FV:=x6 r7 trivial
theorem NW:C0 FV Tryz.f32:=⟨rfl,rfl⟩
theorem VI (x0:List yY):exec FV 1000 [.code (d8 Tryz.prog 32)] (s5 Gr.ps ((x0,()))) =
  .both (x0=[]) (.ret (([],()))) (.f8 ((0:Nat)+List.length x0<=140737488355328/\((0:Nat)+List.length x0)*Ty.wb Ty.str<=140737488355328) (.ret (([]++x0,())))):=by kernel_rfl
theorem c1E:Gr.Valid Tryz.prog 32:=by
  refine p7.n8 NM rfl rfl Tryz.func32 (c:=d8 Tryz.prog 32) rfl rfl NW rfl ?_;rintro ⟨(l:List yY),⟨⟩⟩ hp -
  have hp:l.length<=1048576:=hp;refine j6 (n:=1000) NM NW ?_;refine i7 (VI l) ?_;simp only [j7,Tree.holds,Vt,sL];refine ⟨λ h=>?_,by omega,λ _=>rfl⟩;show (([],()):List yY×Unit)=(l,());rw [show l=[] from h]
abbrev M4:=Bool×(Nat×(List D7×List D7))×FrD×ToD×ToD×Unit
abbrev Ew:=vK×List M4×List yY×List yY×Unit
def GH:p7:={ ps:=[.v (.d0 false .str)],rs:=[.d0 false .str],new:=true,pre:=Gr.pre,fn:=λ x=>x,out:=λ _=>() }
theorem Uc:GH.Valid Tryz.prog 32:=c1E.share (rs':=[.d0 false .str]) rfl rfl rfl
def Ql (w:f9) (p:Int) (g:Int):Int:=if s8 w p=true then g else bOr .u8 g (T4 .u8 w.1.2.1 (IntKind.wrap .u8 (1*2^min p.toNat IntKind.u8.bits)))
def D4 (w:f9):Nat->Int
  | 0=>0
  | k+1=>Ql w k (D4 w k)
def L7 (w:f9):vK×Int×Unit:=R5 w.1 (D4 w w.2.1.length) 0
def Qv:p7:={ ps:=[.rd H3],rs:=[d9],pre:=λ x=>List.length (α:=n9) (x.1:f9).2.1<=6/\(L7 x.1).2.1≠0,fn:=λ x=>((L7 x.1).2.1,()),out:=λ _=>() }
noncomputable def Cp:Env:={ P:=Tryz.prog,tt:=ttW,C9:=[(47,yU),(53,BP),(31,Bb),(32,GH)],res:=[Go.ResultVar.tmp 2],rs:=[Ty.int IntKind.i64],ps:=[PK.rd H3],B8:=[(4,[(0,none),(3,none),(4,none),(18,none),(19,none)]),(16,[(0,none),(4,none),(7,none),(67,none),(68,none)]),(22,[(0,none),(4,none),(7,none),(9,none),(10,none),(11,none),(67,none),(68,none),(86,none),(87,none),(88,none)]),(998014,[(4,some M6)])],nt:=139 }
theorem LJ:w7 Cp:=x6 Ny ⟨CG,UH,Lc,Uc,trivial⟩
theorem Lv:C0 Cp Tryz.f25:=⟨rfl,rfl⟩
theorem c3g (ai:Int) (af:Int) (ab:List n9) (ae:List yY) (aa:List yY):exec Cp 1000 [.code (d8 Tryz.prog 25)] (s5 Qv.ps ((((ai,af,()),ab,ae,aa,()),()))) =
  .ctL (g8 (d8 Tryz.prog 25) 4) (St.mk [(0,AV.M1 H3 ((ai,af,()),ab,ae,aa,())),(3,AV.val U8 (0:Int)),(4,AV.val M6 []),(18,AV.val d9 (↑(List.length ab):Int)),(19,AV.val d9 (0:Int))] []):=by kernel_rfl
def LK (bJ:Int) (aZ:Int) (bB:List n9) (bq:List yY) (aY:List yY) (v3:Int) (v4:List (Int×yY×Unit)) (vi:Int) (ve:Int):St:=St.mk [(0,AV.M1 H3 ((bJ,aZ,()),bB,bq,aY,())),(3,AV.val U8 v3),(4,AV.val M6 v4),(18,AV.val d9 vi),(19,AV.val d9 ve)] []
theorem b9j (bJ:Int) (aZ:Int) (bB:List n9) (bq:List yY) (aY:List yY) (v3:Int) (v4:List (Int×yY×Unit)) (vi:Int) (ve:Int):exec Cp 1000 (.code (g8 (d8 Tryz.prog 25) 4).1::.inLoop (g8 (d8 Tryz.prog 25) 4).1::(g8 (d8 Tryz.prog 25) 4).2) (LK bJ aZ bB bq aY v3 v4 vi ve) =
  cond (decide (ve<vi)) (.f8 (List.length bB<=6) (cond (s8 ((bJ,aZ,()),bB,bq,aY,()) ve) (.f8 ((0:Int)<=ve/\ve<(↑(List.length bB):Int)) (cond (decide ((↑(List.length v4):Int)<(↑(List.length (List.getD bB (Int.toNat ve) (false,[],((0:Int),[],()),((0:Int),[],()),((0:Int),[],()),())).2.1):Int))) (.f8 (r9 IntKind.i64 (ve+(1:Int))) (.ctL (g8 (d8 Tryz.prog 25) 4) (St.mk [(0,AV.M1 H3 ((bJ,aZ,()),bB,bq,aY,())),(3,AV.val U8 v3),(4,AV.val M6 (List.getD bB (Int.toNat ve) (false,[],((0:Int),[],()),((0:Int),[],()),((0:Int),[],()),())).2.1),(18,AV.val d9 vi),(19,AV.val d9 (ve+(1:Int)))] []))) (.f8 (r9 IntKind.i64 (ve+(1:Int))) (.ctL (g8 (d8 Tryz.prog 25) 4) (St.mk [(0,AV.M1 H3 ((bJ,aZ,()),bB,bq,aY,())),(3,AV.val U8 v3),(4,AV.val M6 v4),(18,AV.val d9 vi),(19,AV.val d9 (ve+(1:Int)))] []))))) (.f8 ((0:Int)<=ve) (.f8 (r9 IntKind.i64 (ve+(1:Int))) (.ctL (g8 (d8 Tryz.prog 25) 4) (St.mk [(0,AV.M1 H3 ((bJ,aZ,()),bB,bq,aY,())),(3,AV.val U8 (bOr IntKind.u8 v3 (T4 IntKind.u8 aZ (IntKind.wrap IntKind.u8 ((1:Int)*(2:Int)^min (Int.toNat ve) (IntKind.bits IntKind.u8)))))),(4,AV.val M6 v4),(18,AV.val d9 vi),(19,AV.val d9 (ve+(1:Int)))] [])))))) (.f8 (True) (cond (decide (Prod.fst (R5 (bJ,aZ,()) v3 (0:Int)).2≠(0:Int))) (.ret ((Prod.fst (R5 (bJ,aZ,()) v3 (0:Int)).2,()))) (.ctL (g8 (d8 Tryz.prog 25) 16) (St.mk [(0,AV.M1 H3 ((bJ,aZ,()),bB,bq,aY,())),(4,AV.val M6 v4),(7,AV.ptr 7 []),(67,AV.val d9 (↑(List.length bB):Int)),(68,AV.val d9 (0:Int))] [(7,i6.var View (R5 (bJ,aZ,()) v3 (0:Int)).1)])))):=by kernel_rfl
theorem b3h:Qv.Valid Tryz.prog 25:=by
  refine p7.n8 LJ rfl rfl Tryz.func25 (c:=d8 Tryz.prog 25) rfl rfl Lv rfl ?_;rintro ⟨⟨⟨(v0:Int),(v1:Int),⟨⟩⟩,(al:List n9),(od:List yY),(wy:List yY),⟨⟩⟩,⟨⟩⟩ ⟨(hp:al.length<=6),(bt:(L7 ((v0,v1,()),al,od,wy,())).2.1≠0)⟩ -
  refine j6 (n:=1000) LJ Lv ?_;refine i7 (c3g v0 v1 al od wy) ?_;show Go.Ex.Reach Cp Tryz.f25 ((L7 ((v0,v1,()),al,od,wy,())).2.1,()) () (.code (g8 (d8 Tryz.prog 25) 4).1::.inLoop (g8 (d8 Tryz.prog 25) 4).1::(g8 (d8 Tryz.prog 25) 4).2) (LK v0 v1 al od wy (D4 ((v0,v1,()),al,od,wy,()) 0) [] (al.length:Int) ((0:Nat):Int));refine Reach.M7 LJ Lv (λ i:Nat×List D7=>LK v0 v1 al od wy (D4 ((v0,v1,()),al,od,wy,()) i.1) i.2 (al.length:Int) (i.1:Int)) (λ i=>i.1<=al.length)
    (λ i=>al.length - i.1) 1000 (λ _=>⟨s9 rfl,s9 rfl⟩) ?_ (0,[]) (aAz _)
  rintro ⟨i,l⟩ k1 - ih;have k1:i<=al.length:=k1;have ih:∀ l',i<al.length->_:=λ l' h=>ih (i+1,l') (by show i+1<=al.length; omega) (by show al.length - (i+1)<al.length - i; omega);refine i7 (b9j ..) ?_;have e1:((i:Nat):Int)+1=((i+1:Nat):Int):=by omega
  simp only [j7,Tree.holds,e1,sL];refine ⟨λ c=>⟨hp,λ _=>⟨λ a=>⟨by omega,λ _=>⟨λ b=>⟨by omega,λ _=>?_⟩,λ b=>⟨by omega,λ _=>?_⟩⟩⟩,λ a=>⟨by omega,λ _=>⟨by omega,λ _=>?_⟩⟩⟩⟩,λ c=>⟨λ d=>?_,λ d=>?_⟩⟩
  . have:=ih (al.getD i j8).2.1 (by omega);rw [show D4 ((v0,v1,()),al,od,wy,()) (i+1)=D4 ((v0,v1,()),al,od,wy,()) i from if_pos a] at this;exact this
  . have:=ih l (by omega);rw [show D4 ((v0,v1,()),al,od,wy,()) (i+1)=D4 ((v0,v1,()),al,od,wy,()) i from if_pos a] at this;exact this
  . have:=ih l (by omega);rw [show D4 ((v0,v1,()),al,od,wy,()) (i+1)=bOr .u8 (D4 ((v0,v1,()),al,od,wy,()) i) (T4 .u8 v1 (IntKind.wrap .u8 (1*2^min i IntKind.u8.bits))) from if_neg (by simpa using a)] at this;exact this
  . obtain rfl:i=al.length:=by omega
    rfl
  . obtain rfl:i=al.length:=by omega
    exact absurd (show (R5 (v0,v1,()) (D4 ((v0,v1,()),al,od,wy,()) al.length) 0).2.1=0 by simpa using d) bt
def DU:p7:={ ps:=[.rd H3],rs:=[View],pre:=λ _=>True,fn:=λ x=>((x.1:f9).1,()),out:=λ _=>() }
noncomputable def HT:Env:={ P:=Tryz.prog,tt:=tt,C9:=[],res:=[Go.ResultVar.cell 2 57],rs:=[Ty.pair d9 (Ty.pair U8 Ty.unit)],ps:=[PK.rd H3],B8:=[],nt:=7 }
theorem RA:w7 HT:=x6 r7 trivial
theorem QW:C0 HT Tryz.f29:=⟨rfl,rfl⟩
theorem YA (ai:Int) (af:Int) (ab:List n9) (ae:List yY) (aa:List yY):exec HT 1000 [.code (d8 Tryz.prog 29)] (s5 DU.ps ((((ai,af,()),ab,ae,aa,()),()))) =
  .ret (((ai,af,()),())):=by kernel_rfl
theorem UJ:DU.Valid Tryz.prog 29:=by
  refine p7.n8 RA rfl rfl Tryz.func29 (c:=d8 Tryz.prog 29) rfl rfl QW rfl ?_;rintro ⟨⟨⟨(v0:Int),(v1:Int),⟨⟩⟩,(al:List n9),(od:List yY),(wy:List yY),⟨⟩⟩,⟨⟩⟩ - -
  refine j6 (n:=1000) RA QW ?_;refine i7 (YA v0 v1 al od wy) ?_;rfl
def Gg:p7:={ ps:=[.rd H3],rs:=[d9],pre:=λ _=>True,fn:=λ x=>((List.length (α:=yY) (x.1:f9).2.2.2.1:Int),()),out:=λ _=>() }
noncomputable def GO:Env:={ P:=Tryz.prog,tt:=tt,C9:=[],res:=[Go.ResultVar.tmp 2],rs:=[Ty.int IntKind.i64],ps:=[PK.rd H3],B8:=[],nt:=8 }
theorem PN:w7 GO:=x6 r7 trivial
theorem Py:C0 GO Tryz.f17:=⟨rfl,rfl⟩
theorem WU (ai:Int) (af:Int) (ab:List n9) (ae:List yY) (aa:List yY):exec GO 1000 [.code (d8 Tryz.prog 17)] (s5 Gg.ps ((((ai,af,()),ab,ae,aa,()),()))) =
  .ret (((↑(List.length aa):Int),())):=by kernel_rfl
theorem c1B:Gg.Valid Tryz.prog 17:=by
  refine p7.n8 PN rfl rfl Tryz.func17 (c:=d8 Tryz.prog 17) rfl rfl Py rfl ?_;rintro ⟨⟨⟨(v0:Int),(v1:Int),⟨⟩⟩,(al:List n9),(od:List yY),(wy:List yY),⟨⟩⟩,⟨⟩⟩ - -
  refine j6 (n:=1000) PN Py ?_;refine i7 (WU v0 v1 al od wy) ?_;rfl
def L9 (w:f9) (p:Int):List D7:=(w.2.1.getD p.toNat j8).2.1
def wt (w:f9) (p:Int):FrD:=(w.2.1.getD p.toNat j8).2.2.1
theorem EN {v:vK} {al:List n9} {r:List yY×List yY×Unit} {p:Int} (a:¬ known (v,al,r) p≠0):0<=p/\p<(al.length:Int):=by
  unfold known at a;split at a
  . rename_i hb;have:=W5.1 hb;simp only at this; omega
  . exact absurd (by decide) a
def T3 (w:f9) (p:Int):List D7×Int×Unit:=if known w p≠0 then ([],known w p,()) else (L9 w p,0,())
def Bd:p7:={ ps:=[.rd H3,.v d9],rs:=[.d0 true r8,d9],pre:=λ x=>List.length (α:=n9) (x.1:f9).2.1<=6/\List.length (α:=D7) (L9 x.1 x.2.1)<=5864062014805,fn:=λ x=>T3 x.1 x.2.1,out:=λ _=>() }
noncomputable def Gy:Env:={ P:=Tryz.prog,tt:=tt,C9:=[(49,Ar),(31,Bb)],res:=[Go.ResultVar.tmp 4,Go.ResultVar.tmp 5],rs:=[Ty.d0 true r8,Ty.int IntKind.i64],ps:=[PK.rd H3,PK.v d9],B8:=[],nt:=22 }
theorem PI:w7 Gy:=x6 r7 ⟨FA,Lc,trivial⟩
theorem Pu:C0 Gy Tryz.f19:=⟨rfl,rfl⟩
theorem WQ (ai:Int) (af:Int) (ab:List n9) (ae:List yY) (aa:List yY) (x1:Int):exec Gy 1000 [.code (d8 Tryz.prog 19)] (s5 Bd.ps ((((ai,af,()),ab,ae,aa,()),x1,()))) =
  .f8 (List.length ab<=6) (cond (decide (known ((ai,af,()),ab,ae,aa,()) x1≠(0:Int))) (.ret (([],known ((ai,af,()),ab,ae,aa,()) x1,()))) (.f8 ((0:Int)<=x1/\x1<(↑(List.length ab):Int)) (.f8 (List.length (List.getD ab (Int.toNat x1) (false,[],((0:Int),[],()),((0:Int),[],()),((0:Int),[],()),())).2.1<=5864062014805) (.ret ((Prod.fst (List.getD ab (Int.toNat x1) (false,[],((0:Int),[],()),((0:Int),[],()),((0:Int),[],()),())).2,(0:Int),())))))):=by kernel_rfl
theorem Le:Bd.Valid Tryz.prog 19:=by
  refine p7.n8 PI rfl rfl Tryz.func19 (c:=d8 Tryz.prog 19) rfl rfl Pu rfl ?_;rintro ⟨⟨⟨(v0:Int),(v1:Int),⟨⟩⟩,(al:List n9),(od:List yY),(wy:List yY),⟨⟩⟩,(p:Int),⟨⟩⟩ ⟨(hp:al.length<=6),(hl:(L9 ((v0,v1,()),al,od,wy,()) p).length<=5864062014805)⟩ -
  refine j6 (n:=1000) PI Pu ?_;refine i7 (WQ v0 v1 al od wy p) ?_;simp only [j7,Tree.holds,sL];refine ⟨hp,λ _=>⟨λ a=>?_,λ a=>⟨EN a,λ _=>⟨hl,λ _=>?_⟩⟩⟩⟩
  . show (([],_,()):List D7×Int×Unit)=T3 ((v0,v1,()),al,od,wy,()) p;exact (if_pos a).symm
  . show ((_,0,()):List D7×Int×Unit)=T3 ((v0,v1,()),al,od,wy,()) p;exact (if_neg a).symm
theorem Fv {v:vK} {al:List n9} {r:List yY×List yY×Unit} {p:Int} (a:¬ M8 (v,al,r) p≠0):0<=p/\p<(al.length:Int):=by
  unfold M8 at a;by_cases h:known (v,al,r) p≠0
  . rw [if_pos h] at a; exact absurd h a
  . exact EN h
theorem Xs {s:vV} {x:yY} (h:¬ (R9 s x).2.1≠0):(0<=(R9 s x).1.1/\(R9 s x).1.1<=16777215)/\(R9 s x).1.2.1.length<=17:=by
  unfold R9 at h ⊢;by_cases h1:I7 s≠0
  . rw [if_pos h1] at h ⊢; exact absurd h1 h
  rw [if_neg h1] at h ⊢;have aM:=xY (aBq.1 h1);by_cases h2:E7 x=true
  . rw [if_pos h2] at h; exact absurd (by decide) h
  rw [if_neg h2] at h ⊢;by_cases h3:(s.2.1.length:Int)=16\/16777215<=s.1+s.2.1.length
  . rw [if_pos h3] at h; exact absurd (by decide) h
  rw [if_neg h3];refine ⟨aM.1,?_⟩;rw [aAe];have:=aM.2.1;simp only [aAh,aCh]; omega
def setFrom (w:f9) (p:Int) (f:FrD):f9 :=
  (w.1,w.2.1.set p.toNat ((w.2.1.getD p.toNat j8).1,(w.2.1.getD p.toNat j8).2.1,f,(w.2.1.getD p.toNat j8).2.2.2),w.2.2)
def MP (w:f9) (p:Int) (t:yY) (r:FrD):f9:=N1 (setFrom w p r) 1 p (M9 (setFrom w p r)) (r.1+r.2.1.length - 1) t
def vx (w:f9) (p:Int) (t:yY):f9×Int :=
  if M8 w p≠0 then (w,M8 w p) else if (150:Int)<t.length then (w,2) else if (w.2.2.2.1.length:Int)=60 then (w,8)
  else if (R9 (wt w p) t).2.1≠0 then (w,(R9 (wt w p) t).2.1) else (MP w p t (R9 (wt w p) t).1,0)
def Gq:p7:={ ps:=[.rw u7,.v d9,.v .str],rs:=[d9],pre:=λ x=>List.length (α:=n9) (x.1:f9).2.1<=6,fn:=λ x=>((vx x.1 x.2.1 x.2.2.1).2,()),out:=λ x=>((vx x.1 x.2.1 x.2.2.1).1,()) }
noncomputable def GA:Env:={ P:=Tryz.prog,tt:=tt,C9:=[(41,DE),(42,Mn),(43,zY),(44,zW)],res:=[Go.ResultVar.tmp 6],rs:=[Ty.int IntKind.i64],ps:=[PK.rw u7,PK.v d9,PK.v Ty.str],B8:=[],nt:=64 }
theorem PL:w7 GA:=x6 r7 ⟨TD,c1N,FJ,Fo,trivial⟩
theorem Pw:C0 GA Tryz.f15:=⟨rfl,rfl⟩
theorem WS (ai:Int) (af:Int) (ab:List n9) (ae:List yY) (aa:List yY) (x1:Int) (x2:yY):exec GA 1000 [.code (d8 Tryz.prog 15)] (s5 Gq.ps ((((ai,af,()),ab,ae,aa,()),x1,x2,()))) =
  .f8 (List.length ab<=6) (cond (decide (M8 ((ai,af,()),ab,ae,aa,()) x1≠(0:Int))) (.ret ((M8 ((ai,af,()),ab,ae,aa,()) x1,((ai,af,()),ab,ae,aa,()),()))) (cond (decide ((150:Int)<(↑(List.length x2):Int))) (.ret (((2:Int),((ai,af,()),ab,ae,aa,()),()))) (cond (decide ((↑(List.length aa):Int)=(60:Int))) (.ret (((8:Int),((ai,af,()),ab,ae,aa,()),()))) (.f8 ((0:Int)<=x1/\x1<(↑(List.length ab):Int)) (.f8 (True) (cond (decide (Prod.fst (R9 (List.getD ab (Int.toNat x1) (false,[],((0:Int),[],()),((0:Int),[],()),((0:Int),[],()),())).2.2.1 x2).2≠(0:Int))) (.ret ((Prod.fst (R9 (List.getD ab (Int.toNat x1) (false,[],((0:Int),[],()),((0:Int),[],()),((0:Int),[],()),())).2.2.1 x2).2,((ai,af,()),ab,ae,aa,()),()))) (.f8 ((0:Int)<=x1/\x1<(↑(List.length ab):Int)) (.f8 (True) (.f8 (r9 IntKind.i64 (Prod.fst (R9 (List.getD ab (Int.toNat x1) (false,[],((0:Int),[],()),((0:Int),[],()),((0:Int),[],()),())).2.2.1 x2).1+(↑(List.length (Prod.snd (R9 (List.getD ab (Int.toNat x1) (false,[],((0:Int),[],()),((0:Int),[],()),((0:Int),[],()),())).2.2.1 x2).1).1):Int))) (.f8 (r9 IntKind.i64 (Prod.fst (R9 (List.getD ab (Int.toNat x1) (false,[],((0:Int),[],()),((0:Int),[],()),((0:Int),[],()),())).2.2.1 x2).1+(↑(List.length (Prod.snd (R9 (List.getD ab (Int.toNat x1) (false,[],((0:Int),[],()),((0:Int),[],()),((0:Int),[],()),())).2.2.1 x2).1).1):Int) - (1:Int))) (.f8 (True) (.ret (((0:Int),N1 ((ai,af,()),List.set ab (Int.toNat x1) (Prod.fst (List.getD ab (Int.toNat x1) (false,[],((0:Int),[],()),((0:Int),[],()),((0:Int),[],()),())),Prod.fst (List.getD ab (Int.toNat x1) (false,[],((0:Int),[],()),((0:Int),[],()),((0:Int),[],()),())).2,Prod.fst (R9 (List.getD ab (Int.toNat x1) (false,[],((0:Int),[],()),((0:Int),[],()),((0:Int),[],()),())).2.2.1 x2),Prod.snd (List.getD ab (Int.toNat x1) (false,[],((0:Int),[],()),((0:Int),[],()),((0:Int),[],()),())).2.2),ae,aa,()) (1:Int) x1 (M9 ((ai,af,()),List.set ab (Int.toNat x1) (Prod.fst (List.getD ab (Int.toNat x1) (false,[],((0:Int),[],()),((0:Int),[],()),((0:Int),[],()),())),Prod.fst (List.getD ab (Int.toNat x1) (false,[],((0:Int),[],()),((0:Int),[],()),((0:Int),[],()),())).2,Prod.fst (R9 (List.getD ab (Int.toNat x1) (false,[],((0:Int),[],()),((0:Int),[],()),((0:Int),[],()),())).2.2.1 x2),Prod.snd (List.getD ab (Int.toNat x1) (false,[],((0:Int),[],()),((0:Int),[],()),((0:Int),[],()),())).2.2),ae,aa,())) (Prod.fst (R9 (List.getD ab (Int.toNat x1) (false,[],((0:Int),[],()),((0:Int),[],()),((0:Int),[],()),())).2.2.1 x2).1+(↑(List.length (Prod.snd (R9 (List.getD ab (Int.toNat x1) (false,[],((0:Int),[],()),((0:Int),[],()),((0:Int),[],()),())).2.2.1 x2).1).1):Int) - (1:Int)) x2,())))))))))))))):=by kernel_rfl
attribute [local irreducible] vx N1 R9 in
theorem c1J:Gq.Valid Tryz.prog 15:=by
  refine p7.n8 PL rfl rfl Tryz.func15 (c:=d8 Tryz.prog 15) rfl rfl Pw rfl ?_;rintro ⟨⟨⟨(v0:Int),(v1:Int),⟨⟩⟩,(al:List n9),(od:List yY),(wy:List yY),⟨⟩⟩,(p:Int),(t:yY),⟨⟩⟩ (hp:al.length<=6) -
  refine j6 (n:=1000) PL Pw ?_;refine i7 (WS v0 v1 al od wy p t) ?_;simp only [j7,Tree.holds,sL];obtain ⟨w,hw⟩:∃ w:f9,w=((v0,v1,()),al,od,wy,()):=⟨_,rfl⟩;have key:∀ r:f9×Int,vx ((v0,v1,()),al,od,wy,()) p t=r->(((r.2,r.1,()):Int×f9×Unit)=((vx ((v0,v1,()),al,od,wy,()) p t).2,(vx ((v0,v1,()),al,od,wy,()) p t).1,())):=by rintro r rfl; rfl
  have e1:=λ a=>(vx.eq_1 ((v0,v1,()),al,od,wy,()) p t).trans (if_pos a);have e2:=λ a=>(vx.eq_1 ((v0,v1,()),al,od,wy,()) p t).trans (if_neg a);refine ⟨hp,λ _=>⟨λ a=>key (_,_) (e1 a),λ a=>⟨λ b=>key (_,_) ((e2 a).trans (if_pos b)),λ b=>⟨λ c=>key (_,_) ((e2 a).trans ((if_neg b).trans (if_pos c))),
    λ c=>⟨Fv a,λ _=>⟨λ d=>key (_,_) ((e2 a).trans ((if_neg b).trans ((if_neg c).trans (if_pos d)))),λ d=>?_⟩⟩⟩⟩⟩⟩
  have hk:=Xs (s:=wt ((v0,v1,()),al,od,wy,()) p) (x:=t) d;simp only [wt] at hk;refine ⟨Fv a,λ _=>⟨?_,λ _=>⟨?_,λ _=>key (_,_) ((e2 a).trans ((if_neg b).trans ((if_neg c).trans (if_neg d))))⟩⟩⟩
  . simp only [j8] at hk; omega
  . simp only [j8] at hk; omega
def ttN:List (TypeId×TI):=(76,TI.mk u7 88)::(74,TI.mk (.d0 true a28) 24)::(85,TI.mk a28 128)::tt
theorem WA:ttN.all (xC Tryz.prog)=true:=by kernel_rfl
def Bh (n:Int):Int:=IntKind.wrap .u8 (IntKind.wrap .u8 (1*2^min n.toNat (IntKind.bits .u8)) - 1)
def Ds (n:Int):Option f9×Int×Unit:=if J3 n 1 6=true then (some ((0,Bh n,()),List.replicate n.toNat j8,[],[],()),0,()) else (none,1,())
def Gn:p7:={ ps:=[.v d9],rs:=[.box true none u7,d9],pre:=λ _=>True,fn:=λ x=>Ds x.1,out:=λ _=>() }
noncomputable def Gz:Env:={ P:=Tryz.prog,tt:=ttN,C9:=[(40,zL)],res:=[Go.ResultVar.tmp 2,Go.ResultVar.tmp 3],rs:=[Ty.box true none u7,Ty.int IntKind.i64],ps:=[PK.v d9],B8:=[],nt:=15 }
theorem PJ:w7 Gz:=x6 WA ⟨Fm,trivial⟩
theorem Pv:C0 Gz Tryz.f14:=⟨rfl,rfl⟩
theorem WR (x0:Int):exec Gz 1000 [.code (d8 Tryz.prog 14)] (s5 Gn.ps ((x0,()))) =
  .f8 (True) (cond (!J3 x0 (1:Int) (6:Int)) (.ret ((none,(1:Int),()))) (.f8 ((0:Int)<=x0) (.f8 ((0:Int)<=x0/\x0<=x0/\x0<=(140737488355328:Int)/\x0*(↑(Ty.wb a28):Int)<=(140737488355328:Int)) (.ret ((some (((0:Int),IntKind.wrap IntKind.u8 (IntKind.wrap IntKind.u8 ((1:Int)*(2:Int)^min (Int.toNat x0) (IntKind.bits IntKind.u8)) - (1:Int)),()),List.replicate (Int.toNat x0) (false,[],((0:Int),[],()),((0:Int),[],()),((0:Int),[],()),()),[],[],()),(0:Int),())))))):=by kernel_rfl
theorem Tf:Gn.Valid Tryz.prog 14:=by
  refine p7.n8 PJ rfl rfl Tryz.func14 (c:=d8 Tryz.prog 14) rfl rfl Pv rfl ?_;rintro ⟨(n:Int),⟨⟩⟩ - -
  refine j6 (n:=1000) PJ Pv ?_;refine i7 (WR n) ?_;have hw:Ty.wb a28=128:=rfl;simp only [j7,Tree.holds,hw,sL];refine ⟨λ a=>?_,λ a=>?_⟩
  . show ((none,1,()):Option f9×Int×Unit)=Ds n;exact (if_neg (by rw [a]; simp)).symm
  . have ha:=W5.1 a;refine ⟨by omega,λ _=>⟨⟨by omega,by omega,by omega⟩,λ _=>?_⟩⟩;show (_:Option f9×Int×Unit)=Ds n;exact (if_pos a).symm
def N6 (p:Int) (l:List D7) (w:f9):Nat->f9
  | 0=>w
  | k+1=>N1 (N6 p l w k) 1 p (M9 (N6 p l w k)) (l.getD k (0,[],())).1 (l.getD k (0,[],())).2.1
theorem EZ {w:f9} {k f t s:Int} {x:yY}:(N1 w k f t s x).2.1=w.2.1/\(N1 w k f t s x).1=w.1/\(N1 w k f t s x).2.2.1=w.2.2.1:=by
  by_cases h:(V2 (k,f,t,w.1.1,s,[0,0,0,0,0,0],x,())).2.1=0/\(w.2.2.2.1.length:Int)<60
  . rw [Kz h.1 h.2]; exact ⟨rfl,rfl,rfl⟩
  . rw [Fa h]; exact ⟨rfl,rfl,rfl⟩
theorem KV {p:Int} {l:List D7} {w:f9}:∀ k,(N6 p l w k).2.1=w.2.1/\(N6 p l w k).1=w.1/\(N6 p l w k).2.2.1=w.2.2.1
  | 0=>⟨rfl,rfl,rfl⟩
  | k+1=>by
    obtain ⟨h1,h2,h3⟩:=KV (p:=p) (l:=l) (w:=w) k;obtain ⟨g1,g2,g3⟩:=EZ (w:=N6 p l w k) (k:=1) (f:=p) (t:=M9 (N6 p l w k)) (s:=(l.getD k (0,[],())).1) (x:=(l.getD k (0,[],())).2.1);exact ⟨g1.trans h1,g2.trans h2,g3.trans h3⟩
def De (w:f9) (p:Int):f9:=N1 w 3 p (M9 w) (w.2.1.getD p.toNat j8).2.2.2.1.1 []
def yr (w:f9) (p:Int):List D7:=(wX (wt w p) 4).1
def X0 (w:f9) (p:Int):f9×Int :=
  if M8 w p≠0 then (w,M8 w p) else (De (N6 p (yr w p) w (yr w p).length) p,0)
def Ii:p7:={ ps:=[.rw u7,.v d9],rs:=[d9],pre:=λ x=>List.length (α:=n9) (x.1:f9).2.1<=6,fn:=λ x=>((X0 x.1 x.2.1).2,()),out:=λ x=>((X0 x.1 x.2.1).1,()) }
noncomputable def BQ:Env:={ P:=Tryz.prog,tt:=tt,C9:=[(41,DE),(54,IP),(43,zY),(44,zW)],res:=[Go.ResultVar.tmp 4],rs:=[Ty.int IntKind.i64],ps:=[PK.rw u7,PK.v d9],B8:=[(6,[(0,none),(1,none),(28,some (Ty.d0 true r8)),(29,none),(30,none)])],nt:=58 }
theorem Lk:w7 BQ:=x6 r7 ⟨TD,b5c,FJ,Fo,trivial⟩
theorem Lp:C0 BQ Tryz.f26:=⟨rfl,rfl⟩
theorem YZ (ai:Int) (af:Int) (ab:List n9) (ae:List yY) (aa:List yY) (x1:Int):exec BQ 1000 [.code (d8 Tryz.prog 26)] (s5 Ii.ps ((((ai,af,()),ab,ae,aa,()),x1,()))) =
  .f8 (List.length ab<=6) (cond (decide (M8 ((ai,af,()),ab,ae,aa,()) x1≠(0:Int))) (.ret ((M8 ((ai,af,()),ab,ae,aa,()) x1,((ai,af,()),ab,ae,aa,()),()))) (.f8 ((0:Int)<=x1/\x1<(↑(List.length ab):Int)) (.f8 (True) (.ctL (g8 (d8 Tryz.prog 26) 6) (St.mk [(0,AV.ptr 2000000 []),(1,AV.val d9 x1),(28,AV.at_ 1000028 []),(29,AV.val d9 (↑(List.length (wX (List.getD ab (Int.toNat x1) (false,[],((0:Int),[],()),((0:Int),[],()),((0:Int),[],()),())).2.2.1 (4:Int)).1):Int)),(30,AV.val d9 (0:Int))] [(1000028,i6.own (Ty.d0 true r8) (wX (List.getD ab (Int.toNat x1) (false,[],((0:Int),[],()),((0:Int),[],()),((0:Int),[],()),())).2.2.1 (4:Int)).1),(2000000,i6.var u7 ((ai,af,()),ab,ae,aa,()))]))))):=by kernel_rfl
def Ll (v1:Int) (wN:Int) (v30:Int) (eE:List (Int×yY×Unit)) (aB:Int) (ao:Int) (aj:List n9) (ak:List yY) (ah:List yY):St:=St.mk [(0,AV.ptr 2000000 []),(1,AV.val d9 v1),(28,AV.at_ 1000028 []),(29,AV.val d9 wN),(30,AV.val d9 v30)] [(1000028,i6.own (Ty.d0 true r8) eE),(2000000,i6.var u7 ((aB,ao,()),aj,ak,ah,()))]
theorem c3h (v1:Int) (wN:Int) (v30:Int) (eE:List (Int×yY×Unit)) (aB:Int) (ao:Int) (aj:List n9) (ak:List yY) (ah:List yY):exec BQ 1000 (.code (g8 (d8 Tryz.prog 26) 6).1::.inLoop (g8 (d8 Tryz.prog 26) 6).1::(g8 (d8 Tryz.prog 26) 6).2) (Ll v1 wN v30 eE aB ao aj ak ah) =
  cond (decide (v30<wN)) (.f8 ((0:Int)<=v30/\v30<(↑(List.length eE):Int)) (.f8 (True) (.f8 (True) (.f8 (r9 IntKind.i64 (v30+(1:Int))) (.ctL (g8 (d8 Tryz.prog 26) 6) (St.mk [(0,AV.ptr 2000000 []),(1,AV.val d9 v1),(28,AV.at_ 1000028 []),(29,AV.val d9 wN),(30,AV.val d9 (v30+(1:Int)))] [(1000028,i6.own (Ty.d0 true r8) eE),(2000000,i6.var u7 (N1 ((aB,ao,()),aj,ak,ah,()) (1:Int) v1 (M9 ((aB,ao,()),aj,ak,ah,())) (List.getD eE (Int.toNat v30) ((0:Int),[],())).1 (List.getD eE (Int.toNat v30) ((0:Int),[],())).2.1))])))))) (.f8 (True) (.f8 ((0:Int)<=v1/\v1<(↑(List.length aj):Int)) (.f8 (True) (.ret (((0:Int),N1 ((aB,ao,()),aj,ak,ah,()) (3:Int) v1 (M9 ((aB,ao,()),aj,ak,ah,())) (List.getD aj (Int.toNat v1) (false,[],((0:Int),[],()),((0:Int),[],()),((0:Int),[],()),())).2.2.2.1.1 (Array.toList (ByteArray.data (ByteArray.mk #[]))),())))))):=by kernel_rfl
theorem c1d (s:vV) (m:Int):(wX s m).1.length<=16:=by
  unfold wX;by_cases h:I7 s≠0
  . rw [if_pos h]; exact aAz _
  . rw [if_neg h];exact aAv KU (xY (aBq.1 h)).2.1
attribute [local irreducible] X0 N1 wX in
theorem b6V:Ii.Valid Tryz.prog 26:=by
  refine p7.n8 Lk rfl rfl Tryz.func26 (c:=d8 Tryz.prog 26) rfl rfl Lp rfl ?_;rintro ⟨⟨⟨(v0:Int),(v1:Int),⟨⟩⟩,(al:List n9),(od:List yY),(wy:List yY),⟨⟩⟩,(p:Int),⟨⟩⟩ (hp:al.length<=6) -
  refine j6 (n:=1000) Lk Lp ?_;refine i7 (YZ v0 v1 al od wy p) ?_;simp only [j7,Tree.holds,sL];have key:∀ r:f9×Int,X0 ((v0,v1,()),al,od,wy,()) p=r->(((r.2,r.1,()):Int×f9×Unit)=((X0 ((v0,v1,()),al,od,wy,()) p).2,(X0 ((v0,v1,()),al,od,wy,()) p).1,())):=by rintro r rfl; rfl
  have e1:=λ a=>(X0.eq_1 ((v0,v1,()),al,od,wy,()) p).trans (if_pos a);have e2:=λ a=>(X0.eq_1 ((v0,v1,()),al,od,wy,()) p).trans (if_neg a);refine ⟨hp,λ _=>⟨λ a=>key (_,_) (e1 a),λ a=>⟨Fv a,λ _=>?_⟩⟩⟩;obtain ⟨w,hw⟩:∃ w:f9,w=((v0,v1,()),al,od,wy,()):=⟨_,rfl⟩;obtain ⟨l,hl⟩:∃ l,l=yr ((v0,v1,()),al,od,wy,()) p:=⟨_,rfl⟩;have kb:l.length<=16:=by rw [hl]; exact c1d _ _
  have e3:X0 ((v0,v1,()),al,od,wy,()) p=(De (N6 p l w l.length) p,0):=by rw [e2 a,hl,hw]
  suffices go:Go.Ex.Reach BQ Tryz.f26 ((0:Int),()) (De (N6 p l w l.length) p,()) (.code (g8 (d8 Tryz.prog 26) 6).1::.inLoop (g8 (d8 Tryz.prog 26) 6).1::(g8 (d8 Tryz.prog 26) 6).2) (Ll p (l.length:Int) ((0:Nat):Int) l (N6 p l w 0).1.1 (N6 p l w 0).1.2.1 (N6 p l w 0).2.1 (N6 p l w 0).2.2.1 (N6 p l w 0).2.2.2.1) by
    subst hw;subst hl;rw [e3];exact go
  refine Reach.M7 Lk Lp (λ i:Nat=>Ll p (l.length:Int) (i:Int) l (N6 p l w i).1.1 (N6 p l w i).1.2.1 (N6 p l w i).2.1 (N6 p l w i).2.2.1 (N6 p l w i).2.2.2.1) (λ i=>i<=l.length)
    (λ i=>l.length - i) 1000 (λ _=>⟨s9 rfl,s9 rfl⟩) ?_ 0 (aAz _)
  rintro i k1 - ih;have k1:i<=l.length:=k1;refine i7 (c3h ..) ?_;have e4:((i:Nat):Int)+1=((i+1:Nat):Int):=by omega
  simp only [j7,Tree.holds,e4,sL];refine ⟨λ c=>⟨⟨by omega,by omega⟩,λ _=>⟨by omega,λ _=>?_⟩⟩,λ c=>⟨?_,λ _=>?_⟩⟩
  . exact ih (i+1) (by show i+1<=l.length; omega) (by show l.length - (i+1)<l.length - i; omega)
  . rw [(KV i).1,hw]; exact Fv a
  . obtain rfl:i=l.length:=by omega
    rfl
end Go.Proofs.YtijlnmgondibnaaGreatDoor
namespace Go.Proofs.YtijlnmgondibnaaGreatDoor
set_option maxRecDepth 100000
def vC:Nat->Nat->yY
  | 0,_=>[]
  | f+1,u=>if u<10 then [UInt8.ofNat (48+u)] else vC f (u / 10)++[UInt8.ofNat (48+u % 10)]
theorem IZ:∀ (f u:Nat),u<10^f->1<=f->Lib.decDigits u=vC f u
  | 0,_,_,h=>absurd h (by decide)
  | f+1,u,h,_=>by
    rw [Lib.decDigits,vC];by_cases c:u<10
    . rw [dif_pos c,if_pos c]
    . rw [dif_neg c,if_neg c];have hf:1<=f:=by
        rcases f with _|f
        . simp at h; omega
        . omega
      rw [IZ f (u / 10) (by rw [aFo] at h; exact aFt (by omega)) hf]
def D5 (n:Int):yY:=if n<0 then 45::vC 20 n.natAbs else vC 20 n.toNat
theorem Xu {n:Int} (h0:-9223372036854775808<=n) (h1:n<=9223372036854775807):Lib.itoa n=D5 n:=by
  have h9:(10:Nat)^20=100000000000000000000:=by decide
  unfold Lib.itoa D5;by_cases c:n<0
  . rw [if_pos c,if_pos c,IZ 20 n.natAbs (by omega) (by decide)]
  . rw [if_neg c,if_neg c,IZ 20 n.toNat (by omega) (by decide)]
theorem KD {d:Nat} (h:d<10):(UInt8.ofNat (48+d)).toNat=48+d:=by
  rw [UInt8.toNat_ofNat']; omega
theorem a70:∀ (f u:Nat),∀ b∈vC f u,48<=b.toNat/\b.toNat<=57
  | 0,_,b,h=>by cases h
  | f+1,u,b,h=>by
    rw [vC] at h;split at h
    . rename_i c;rw [aBg.1 h,KD c]; omega
    . rcases aAi.1 h with h|h
      . exact a70 f _ b h
      . rw [aBg.1 h,KD (Nat.mod_lt _ (by decide))];have:=Nat.mod_lt u (show 0<10 by decide); omega
theorem XP {f u:Nat}:vC (f+1) u≠[]:=by
  rw [vC]; split
  . exact List.cons_ne_nil _ _
  . simp
theorem EI:∀ (f u k:Nat),u<10^k->1<=k->(vC f u).length<=k
  | 0,_,_,_,_=>aAz _
  | f+1,u,k,h,hk=>by
    rw [vC];by_cases c:u<10
    . rw [if_pos c]; exact hk
    . rw [if_neg c];rcases k with _|_|k
      . omega
      . simp at h; omega
      . have:=EI f (u / 10) (k+1) (by rw [aFo] at h; exact aFt (by omega)) (by omega);rw [aAe]; simp only [aBw]; omega
theorem LO:∀ (l:yY) (acc:Nat) (b:UInt8) (a d:Nat),Lib.decFrom acc l=some a->Lib.digitVal b=some d->Lib.decFrom acc (l++[b])=some (a*10+d)
  | [],acc,b,a,d,h,hd=>by
    simp only [Lib.decFrom,aAc] at h;subst h;simp [Lib.decFrom,hd]
  | x::l,acc,b,a,d,h,hd=>by
    rw [aCv];rw [Lib.decFrom] at h ⊢;cases e:Lib.digitVal x with
    | none=>rw [e] at h; cases h
    | some y=>rw [e] at h; exact LO l _ b a d h hd
theorem UB {d:Nat} (h:d<10):Lib.digitVal (UInt8.ofNat (48+d))=some d:=by
  unfold Lib.digitVal;rw [KD h,if_pos (by omega)];congr 1; omega
theorem Rj:∀ (f u:Nat),u<10^f->1<=f->Lib.decFrom 0 (vC f u)=some u
  | 0,_,_,h=>absurd h (by decide)
  | f+1,u,h,_=>by
    rw [vC];by_cases c:u<10
    . rw [if_pos c];have:=LO [] 0 _ 0 u rfl (UB c);simpa using this
    . rw [if_neg c];have hf:1<=f:=by
        rcases f with _|f
        . simp at h; omega
        . omega
      have h1:=Rj f (u / 10) (by rw [aFo] at h; exact aFt (by omega)) hf;rw [LO _ 0 _ _ _ h1 (UB (Nat.mod_lt _ (by decide)))];congr 1; omega
theorem Kh {n:Nat}:D5 (n:Int)=vC 20 n:=by
  unfold D5; rw [if_neg (by omega)]; rfl
theorem EY {n:Nat} (h:n<10^20):Lib.atoi (D5 (n:Int))=some (n:Int):=by
  rw [Kh];have h1:=Rj 20 n h (by decide);have h2:=a70 20 n;have h3:vC 20 n≠[]:=XP;generalize vC 20 n=l at *
  cases l with
  | nil=>exact absurd rfl h3
  | cons b r =>
    have hb:=h2 b aBp;have b1:(b == 45)=false:=by
      rw [beq_eq_false_iff_ne]; rintro rfl; exact absurd hb.1 (by decide)
    have b2:(b == 43)=false:=by
      rw [beq_eq_false_iff_ne]; rintro rfl; exact absurd hb.1 (by decide)
    simp [Lib.atoi,b1,b2,Lib.decNat,h1]
theorem OU {n:Nat}:(58:UInt8)∉D5 (n:Int):=by
  rw [Kh];intro h;have:=a70 20 n _ h;exact absurd this.2 (by decide)
theorem QO {n:Nat} (k:Nat) (h:n<10^k) (hk:1<=k):(D5 (n:Int)).length<=k:=by
  rw [Kh]; exact EI 20 n k h hk
theorem CM {n:Int} (h0:-9223372036854775808<=n) (h1:n<=9223372036854775807):(D5 n).length<=20:=by
  have h9:(10:Nat)^19=10000000000000000000:=by decide
  unfold D5
  split
  . rw [aAh];have:=EI 20 n.natAbs 19 (by omega) (by decide);omega
  . have:=EI 20 n.toNat 19 (by omega) (by decide);omega
def y6:yY->yY×yY×Bool
  | []=>([],[],false)
  | b::l=>if b=58 then ([],l,true) else if (y6 l).2.2=true then (b::(y6 l).1,(y6 l).2.1,true) else (b::l,[],false)
theorem Pj:∀ s:yY,Lib.cut s [58]=y6 s
  | []=>by decide
  | b::l=>by
    have ih:=Pj l;have hg:=Lib.index_ge l [58];by_cases e:b=58
    . subst e;rw [y6,if_pos rfl];simp [Lib.cut,Lib.index,List.isPrefixOf]
    . have hp:List.isPrefixOf [58] (b::l)=false:=by simp [List.isPrefixOf,Ne.symm e]
      have e1:Lib.index (b::l) [58]=if Lib.index l [58] == -1 then -1 else Lib.index l [58]+1:=by rw [Lib.index,hp]; simp
      rw [y6,if_neg e,<- ih];unfold Lib.cut;rw [e1];by_cases c:Lib.index l [58]=-1
      . rw [c]; simp
      . have c0:0<=Lib.index l [58]:=by omega
        obtain ⟨k,hk⟩:∃ k:Nat,Lib.index l [58]=k:=⟨_,(aEa c0).symm⟩;rw [hk];have c1:((k:Int) == -1)=false:=by rw [beq_eq_false_iff_ne]; omega
        rw [c1];have c2:(0:Int)<=k:=by omega
        have c3:(0:Int)<=(k:Int)+1:=by omega
        have c4:((k:Int)+1).toNat=k+1:=by omega
        have c5:k+1+1=k+1+1:=rfl;simp [c2,c3,c4]
theorem Cf (s:yY):(y6 s).1.length<=s.length/\(y6 s).2.1.length<=s.length:=by
  induction s with
  | nil=>exact ⟨aAj _,aAj _⟩
  | cons b l ih =>
    rw [y6]
    split
    . exact ⟨aAz _,by simp⟩
    . split
      . simp only [aAh]; omega
      . simp
theorem Jp:∀ {a b:yY},(58:UInt8)∉a->y6 (a++58::b)=(a,b,true)
  | [],b,_=>by rw [List.nil_append,y6,if_pos rfl]
  | x::a,b,h=>by
    have hx:x≠58:=λ e=>h (by rw [e]; exact aBp);have ih:=Jp (a:=a) (b:=b) (λ e=>h (aBd _ e));rw [aCv,y6,if_neg hx,ih,if_pos rfl]
def J5 (p k:Int) (t:yY):yY:=D5 p++[58]++D5 k++[58]++t
theorem ES (p k:Nat) (t:yY):y6 (J5 p k t)=(D5 p,D5 k++[58]++t,true):=by
  unfold J5;rw [show D5 (p:Int)++[58]++D5 (k:Int)++[58]++t=D5 (p:Int)++58::(D5 (k:Int)++[58]++t) by simp];exact Jp OU
theorem Lb (k:Nat) (t:yY):y6 (D5 k++[58]++t)=(D5 k,t,true):=by
  rw [show D5 (k:Int)++[58]++t=D5 (k:Int)++58::t by simp];exact Jp OU
end Go.Proofs.YtijlnmgondibnaaGreatDoor
namespace Go.Proofs.YtijlnmgondibnaaGreatDoor
open Go.Ex
set_option maxRecDepth 100000
def ub (n:Int):UInt8:=UInt8.ofNat (n % 256).toNat
def tb (n:Int):yY:=[ub n,ub (n / 256),ub (n / 65536)]
theorem Gf (x:UInt8):ub (x.toNat:Int)=x:=by
  have:=x.toNat_lt;apply UInt8.toNat_inj.1;rw [ub,EG]; omega
theorem DN (n:Int):((ub n).toNat:Int)=n % 256:=by rw [ub,EG]; omega
theorem yB (x y z:UInt8):tb ((x.toNat:Int)+(y.toNat:Int)*256+(z.toNat:Int)*65536)=[x,y,z]:=by
  have h1:=x.toNat_lt;have h2:=y.toNat_lt;have h3:=z.toNat_lt;rw [tb,aBa,aBa,aBa];refine ⟨?_,?_,?_,rfl⟩<;>(apply UInt8.toNat_inj.1; rw [ub,EG]; omega)
theorem Ua (l:List Int):a24 (l.flatMap V5)=l.flatMap tb:=by
  induction l with
  | nil=>rfl
  | cons x l ih=>rw [aFi,ER,ih,aFi]; rfl
theorem JE (n:C2):wo n=[ub n.1,ub n.2.1,ub n.2.2.1]++(Z8 n).flatMap tb++n.2.2.2.2.2.2.1:=by
  rw [wo,zb,ER,ER,Ua,La]; rfl
theorem H6 {k:Nat} {s:yY} (h:k+1<=s.length):∃ b t,s=b::t/\k<=t.length:=by
  match s,h with
  | b::t,h=>exact ⟨b,t,rfl,by simpa using h⟩
theorem c2t {s:yY} (h:27<=s.length):wo (parse s)=s:=by
  obtain ⟨b0,t0,rfl,h0⟩:=H6 (k:=26) h;obtain ⟨b1,t1,rfl,h1⟩:=H6 (k:=25) h0;obtain ⟨b2,t2,rfl,h2⟩:=H6 (k:=24) h1;obtain ⟨b3,t3,rfl,h3⟩:=H6 (k:=23) h2;obtain ⟨b4,t4,rfl,h4⟩:=H6 (k:=22) h3;obtain ⟨b5,t5,rfl,h5⟩:=H6 (k:=21) h4;obtain ⟨b6,t6,rfl,h6⟩:=H6 (k:=20) h5;obtain ⟨b7,t7,rfl,h7⟩:=H6 (k:=19) h6;obtain ⟨b8,t8,rfl,h8⟩:=H6 (k:=18) h7;obtain ⟨b9,t9,rfl,h9⟩:=H6 (k:=17) h8;obtain ⟨Bv,t10,rfl,jf⟩:=H6 (k:=16) h9;obtain ⟨Bu,t11,rfl,jL⟩:=H6 (k:=15) jf;obtain ⟨Bt,t12,rfl,uL⟩:=H6 (k:=14) jL;obtain ⟨xh,t13,rfl,uK⟩:=H6 (k:=13) uL;obtain ⟨Bs,t14,rfl,uJ⟩:=H6 (k:=12) uK;obtain ⟨Br,t15,rfl,uI⟩:=H6 (k:=11) uJ;obtain ⟨yR,t16,rfl,oG⟩:=H6 (k:=10) uI;obtain ⟨b17,t17,rfl,uH⟩:=H6 (k:=9) oG;obtain ⟨b18,t18,rfl,uG⟩:=H6 (k:=8) uH;obtain ⟨b19,t19,rfl,uF⟩:=H6 (k:=7) uG;obtain ⟨b20,t20,rfl,uE⟩:=H6 (k:=6) uF;obtain ⟨b21,t21,rfl,uD⟩:=H6 (k:=5) uE;obtain ⟨b22,t22,rfl,uC⟩:=H6 (k:=4) uD;obtain ⟨b23,t23,rfl,uB⟩:=H6 (k:=3) uC;obtain ⟨b24,t24,rfl,uA⟩:=H6 (k:=2) uB;obtain ⟨b25,t25,rfl,uz⟩:=H6 (k:=1) uA;obtain ⟨b26,t,rfl,va⟩:=H6 (k:=0) uz;rw [JE];show [ub (b0.toNat:Int),ub (b1.toNat:Int),ub (b2.toNat:Int)]++(tb ((b3.toNat:Int)+(b4.toNat:Int)*256+(b5.toNat:Int)*65536)++(tb ((b6.toNat:Int)+(b7.toNat:Int)*256+(b8.toNat:Int)*65536)++(tb ((b9.toNat:Int)+(Bv.toNat:Int)*256+(Bu.toNat:Int)*65536)++(tb ((Bt.toNat:Int)+(xh.toNat:Int)*256+(Bs.toNat:Int)*65536)++(tb ((Br.toNat:Int)+(yR.toNat:Int)*256+(b17.toNat:Int)*65536)++(tb ((b18.toNat:Int)+(b19.toNat:Int)*256+(b20.toNat:Int)*65536)++(tb ((b21.toNat:Int)+(b22.toNat:Int)*256+(b23.toNat:Int)*65536)++(tb ((b24.toNat:Int)+(b25.toNat:Int)*256+(b26.toNat:Int)*65536)++[]))))))))++t=_;rw [yB,yB,yB,yB,yB,yB,yB,yB,Gf,Gf,Gf];rfl
theorem c03:∀ {n:C2},HM n->n.2.2.2.2.2.1.length=6->parse (wo n)=n
  | (a,b,c,d,e,[v0,v1,v2,v3,v4,v5],t,()),h,_=>by
    have num:∀ x:Int,0<=x/\x<=16777215->((ub x).toNat:Int)+((ub (x / 256)).toNat:Int)*256+((ub (x / 65536)).toNat:Int)*65536=x:=by
      intro x hx; rw [DN,DN,DN]; omega
    have one:∀ x:Int,0<=x/\x<=255->((ub x).toNat:Int)=x:=by intro x hx; rw [DN]; omega
    rw [JE];show (((ub a).toNat:Int),((ub b).toNat:Int),((ub c).toNat:Int),((ub d).toNat:Int)+((ub (d / 256)).toNat:Int)*256+((ub (d / 65536)).toNat:Int)*65536,((ub e).toNat:Int)+((ub (e / 256)).toNat:Int)*256+((ub (e / 65536)).toNat:Int)*65536,
      [((ub v0).toNat:Int)+((ub (v0 / 256)).toNat:Int)*256+((ub (v0 / 65536)).toNat:Int)*65536,((ub v1).toNat:Int)+((ub (v1 / 256)).toNat:Int)*256+((ub (v1 / 65536)).toNat:Int)*65536,((ub v2).toNat:Int)+((ub (v2 / 256)).toNat:Int)*256+((ub (v2 / 65536)).toNat:Int)*65536,
       ((ub v3).toNat:Int)+((ub (v3 / 256)).toNat:Int)*256+((ub (v3 / 65536)).toNat:Int)*65536,((ub v4).toNat:Int)+((ub (v4 / 256)).toNat:Int)*256+((ub (v4 / 65536)).toNat:Int)*65536,((ub v5).toNat:Int)+((ub (v5 / 256)).toNat:Int)*256+((ub (v5 / 65536)).toNat:Int)*65536],t,())=_
    have hv:∀ x∈[v0,v1,v2,v3,v4,v5],0<=x/\x<=16777215:=h.at_;have hf:0<=b/\b<=5:=h.from_;have ht:0<=c/\c<=5:=h.to;rw [one a h.kind,one b (by omega),one c (by omega),num d h.view,num e h.seq,num v0 (hv _ (by simp)),num v1 (hv _ (by simp)),num v2 (hv _ (by simp)),num v3 (hv _ (by simp)),num v4 (hv _ (by simp)),num v5 (hv _ (by simp))]
theorem Yi {n:C2} (h:n.2.2.2.2.2.1.length=6):(wo n).length=27+n.2.2.2.2.2.2.1.length:=by
  have:∀ l:List Int,(l.flatMap tb).length=3*l.length:=λ l=>by rw [<- Ua,a24,aAn,Sh]
  rw [JE,aAe,aAe,this];show 3+3*(n.2.2.2.2.2.1.length+1+1)+_=_;omega
theorem YJ {n:C2} (aM:HM n) (h:n.2.2.2.2.2.1.length=6):31<=(vF n).length/\(vF n).length<=231:=by
  rw [vF,aAe,Yi h];have:=aM.text;show _/\_+4<=231;exact ⟨by show 31<=_+4; omega,by omega⟩
theorem c3R {n:C2} (hc:I5 n=0) (h:n.2.2.2.2.2.1.length=6):x7 (vF n)=(n,0,()):=by
  have aM:=KB hc;obtain ⟨h1,h2⟩:=YJ aM h;have e4:(vF n).length - 4=(wo n).length:=by rw [vF,aAe]; show (wo n).length+4 - 4=_; omega
  have e5:(vF n).take ((vF n).length - 4)=wo n:=by rw [e4,vF,aDd]; rfl
  have e6:(vF n).drop ((vF n).length - 4)=le4 (vH (wo n)):=by rw [e4,vF,aEy]; rfl
  rw [x7,if_neg (by omega),if_neg (by omega),e5,e6,if_neg (λ c=>c rfl),c03 aM h,if_neg (λ c=>c hc)]
theorem XG {s:yY} (h:(x7 s).2.1=0):I5 (x7 s).1=0/\vF (x7 s).1=s:=by
  unfold x7 at h ⊢;split at h
  . cases h
  split at h
  . cases h
  split at h
  . cases h
  split at h
  . rename_i c; exact absurd h c
  . rename_i c1 c2 c3 c4;rw [if_neg c1,if_neg c2,if_neg c3,if_neg c4];have hl:27<=(s.take (s.length - 4)).length:=by rw [aAk]; omega
    refine ⟨aBq.1 c4,?_⟩;show wo (parse (s.take (s.length - 4)))++le4 (vH (wo (parse (s.take (s.length - 4)))))=s;rw [c2t hl,aBq.1 c3,aBv]
theorem YI {n:C2} (h:I5 n=0):V2 n=(vF n,0,()):=by rw [V2,if_neg (λ c=>c h)]
theorem YH {n:C2} (h:I5 n≠0):V2 n=([],I5 n,()):=by rw [V2,if_pos h]
def P8 (w:f9) (p:Int):n9:=w.2.1.getD p.toNat j8
def a12 (w:f9) (p:Int) (x:n9):f9:=(w.1,w.2.1.set p.toNat x,w.2.2)
def Aa (w:f9) (x:yY):f9:=(w.1,w.2.1,w.2.2.1++[x],w.2.2.2)
def H8 (x:yY) (w:f9):Nat->f9
  | 0=>w
  | p+1=>if s8 (H8 x w p) p=true then N1 (H8 x w p) 2 (M9 (H8 x w p)) p (((H8 x w p).2.2.1.length:Int) - 1) x else H8 x w p
def J6 (f first:Int) (l:List yY) (w:f9):Nat->f9
  | 0=>w
  | i+1=>H8 (J5 f (first+i) (l.getD i [])) (Aa (J6 f first l w i) (J5 f (first+i) (l.getD i []))) (J6 f first l w i).2.1.length
def Z7 (w:f9) (n:C2):ToD×List yY×Int×Unit:=D9 (P8 w n.2.1).2.2.2.2.1 (n.2.2.2.2.1,n.2.2.2.2.2.2.1,())
def yz (x:n9) (r:ToD):n9:=(x.1,x.2.1,x.2.2.1,x.2.2.2.1,r,())
def Y5 (w:f9) (n:C2):f9 :=
  if (Z7 w n).2.2.1≠0 then w else
  J6 n.2.1 (P8 w n.2.1).2.2.2.2.1.1 (Z7 w n).2.1 (a12 w n.2.1 (yz (P8 w n.2.1) (Z7 w n).1)) (Z7 w n).2.1.length
def who (t:yY):Int:=(Lib.atoi (y6 t).1).getD 0
def nth (t:yY):Int:=(Lib.atoi (y6 (y6 t).2.1).1).getD 0
def xm (t:yY):yY:=(y6 (y6 t).2.1).2.1
def wq (q:Int) (x:n9) (t:yY):n9 :=
  if who t=q/\(S7 x.2.2.1 (nth t+1)).2.1=0 then (x.1,x.2.1++[(who t,xm t,())],(S7 x.2.2.1 (nth t+1)).1,x.2.2.2) else (x.1,x.2.1++[(who t,xm t,())],x.2.2)
def K7 (q:Int) (x:n9) (l:List yY):Nat->n9
  | 0=>x
  | i+1=>wq q (K7 q x l i) (l.getD i [])
def S5 (w:f9) (n:C2):ToD×List yY×Int×Unit:=D9 (P8 w n.2.2.1).2.2.2.1 (n.2.2.2.2.1,n.2.2.2.2.2.2.1,())
def Bw (x:n9) (r:ToD):n9:=(x.1,x.2.1,x.2.2.1,r,x.2.2.2.2)
def vM (w:f9) (n:C2):f9 :=
  if (S5 w n).2.2.1≠0 then w else
  a12 w n.2.2.1 (K7 n.2.2.1 (Bw (P8 w n.2.2.1) (S5 w n).1) (S5 w n).2.1 (S5 w n).2.1.length)
def G1 (w:f9) (n:C2):Nat->f9
  | 0=>w
  | j+1=>if n.2.2.2.2.1+j<(G1 w n j).2.2.1.length then N1 (G1 w n j) 2 (M9 (G1 w n j)) n.2.1 (n.2.2.2.2.1+j) ((G1 w n j).2.2.1.getD (n.2.2.2.2.1+j).toNat []) else G1 w n j
def H2 (w:f9) (n:C2):f9 :=
  if known w n.2.1≠0 then w else if n.1=1 then Y5 w n else if n.1=3 then G1 w n 4 else if n.1=2 then vM w n else w
def ze (w:f9) (k:Int):f9:=(w.1,w.2.1,w.2.2.1,w.2.2.2.1.take k.toNat++w.2.2.2.1.drop (k+1).toNat,())
def DC (w:f9) (k:Nat):f9:=(w.1,w.2.1,w.2.2.1,w.2.2.2.1++[w.2.2.2.1.getD k []],())
def xr (w:f9) (bC:Int) (s:yY):f9 :=
  if bC=1/\(x7 s).2.1=0/\(x7 s).1.2.2.2.1=w.1.1/\s8 w (x7 s).1.2.2.1=true then H2 w (x7 s).1 else w
def G7 (w:f9) (k bC:Int):f9×Int :=
  if J3 bC 1 3=false then (w,1) else if J3 k 0 ((w.2.2.2.1.length:Int) - 1)=false then (w,6) else if bC=3/\(w.2.2.2.1.length:Int)=60 then (w,8)
  else if bC=3 then (DC w k.toNat,0) else (xr (ze w k) bC (w.2.2.2.1.getD k.toNat []),0)
theorem QQ:∀ {l:List w4} {n:Int},∀ t∈(E4 l n).2.2,∃ q∈l,t=q.2.1
  | [],n,t,h=>by cases h
  | p::l,n,t,h=>by
    rw [E4] at h;split at h
    . rcases aAp.1 h with rfl|h
      . exact ⟨p,aBp,rfl⟩
      . obtain ⟨q,h1,h2⟩:=QQ t h;exact ⟨q,aBd _ h1,h2⟩
    . cases h
theorem TN {s:ToD} {p:w4} (h:(D9 s p).2.2.1=0):AZ s.1 s.2.1/\(0<=p.1/\p.1<=16777214)/\E7 p.2.1=false /\
    ((D9 s p=(s,[],0,())/\(p.1<s.1\/s.1+16<=p.1\/Z9 p.1 s.2.1=true))\/((s.1<p.1/\p.1<s.1+16)/\Z9 p.1 s.2.1=false/\D9 s p=((s.1,xk p s.2.1,()),[],0,())) \/
      (p.1=s.1/\D9 s p=(((E4 s.2.1 (s.1+1)).1,(E4 s.2.1 (s.1+1)).2.1,()),p.2.1::(E4 s.2.1 (s.1+1)).2.2,0,()))):=by
  obtain ⟨r,l,⟨⟩⟩:=s;by_cases c1:toE (r,l,())≠0
  . rw [D9,if_pos c1] at h; exact absurd h c1
  have aM:=IX.1 (aBq.1 c1);by_cases c2:Z4 p.1 0 16777214=false
  . rw [D9,if_neg c1,if_pos c2] at h; cases h
  have h1:=xb.1 (aEm _▸c2);by_cases c3:E7 p.2.1=true
  . rw [D9,if_neg c1,if_neg c2,if_pos c3] at h; cases h
  have h2:E7 p.2.1=false:=by simpa using c3
  refine ⟨aM,h1,h2,?_⟩;rw [Zu aM h1 h2];by_cases c4:p.1<r\/r+16<=p.1\/Z9 p.1 l=true
  . rw [if_pos c4]; exact .inl ⟨rfl,c4⟩
  rw [if_neg c4];by_cases c5:r<p.1
  . rw [if_pos c5];refine .inr (.inl ⟨⟨c5,?_⟩,?_,rfl⟩)
    . exact Int.not_le.1 (λ e=>c4 (.inr (.inl e)))
    . cases hk:Z9 p.1 l with
      | false=>rfl
      | true=>exact absurd (.inr (.inr hk)) c4
  . rw [if_neg c5];refine .inr (.inr ⟨?_,rfl⟩);have:¬ p.1<r:=λ e=>c4 (.inl e);show p.1=r;omega
theorem zx {s:ToD} {p:w4} (h:(D9 s p).2.2.1=0) :
    (∀ t∈(D9 s p).2.1,(t=p.2.1\/∃ q∈s.2.1,t=q.2.1)/\E7 t=false)/\(∀ q∈(D9 s p).1.2.1,q=p\/q∈s.2.1)/\(D9 s p).2.1.length<=16/\(0<=s.1/\s.1<=16777215) /\
      (D9 s p).1.1=s.1+(D9 s p).2.1.length/\(D9 s p).1.2.1.length+(D9 s p).2.1.length<=s.2.1.length+1:=by
  obtain ⟨aM,h1,h2,hc⟩:=TN h;have lJ:=aM.rg;have hb:=aM.b;rcases hc with ⟨e,-⟩|⟨-,-,e⟩|⟨hp,e⟩
  . rw [e];exact ⟨λ t ht=>(by cases ht),λ q hq=>.inr hq,aAz _,lJ,by show s.1=s.1+((0:Nat):Int); omega,by show s.2.1.length+0<=_; omega⟩
  . rw [e];refine ⟨λ t ht=>(by cases ht),λ q hq=>(Zn.1 hq),aAz _,lJ,by show s.1=s.1+((0:Nat):Int); omega,?_⟩;show (xk p s.2.1).length+0<=_;rw [Zm]; omega
  . rw [e];obtain ⟨a1,a2,a3,a4⟩:=Pa (l:=s.2.1) (n:=s.1+1) (by rw [show s.1+1 - 1=s.1 by omega]; exact aM.up);refine ⟨λ t ht=>?_,λ q hq=>.inr (a4 q hq),?_,lJ,?_,?_⟩
    . rcases aAp.1 ht with rfl|ht
      . exact ⟨.inl rfl,h2⟩
      . obtain ⟨q,g1,g2⟩:=QQ t ht;exact ⟨.inr ⟨q,g1,g2⟩,by rw [g2]; exact (hb q g1).2⟩
    . show (p.2.1::(E4 s.2.1 (s.1+1)).2.2).length<=16;rw [aAh];cases hl:s.2.1 with
      | nil=>simp [E4]
      | cons x m =>
        have:=QF aM.up (λ x hx=>(hb x hx).1) (by rw [hl]; simp);rw [<- hl]; omega
    . show (E4 s.2.1 (s.1+1)).1=s.1+((p.2.1::(E4 s.2.1 (s.1+1)).2.2).length:Int);rw [aAh,a2]; omega
    . show (E4 s.2.1 (s.1+1)).2.1.length+(p.2.1::(E4 s.2.1 (s.1+1)).2.2).length<=_;rw [aAh]; omega
theorem KI {t:yY} (h:E7 t=false):t.length<=200:=by
  simp only [E7,decide_eq_false_iff_not] at h; omega
def okT (t:yY):Prop:=∃ p k:Nat,∃ s,p<=5/\k<=16777300/\t=J5 p k s
theorem YY {p k:Nat} {s:yY} (h:p<=5):who (J5 p k s)=p:=by
  unfold who;rw [ES];show (Lib.atoi (D5 p)).getD 0=p;rw [EY (by omega)]; rfl
theorem Qs {p k:Nat} {s:yY} (h:k<=16777300):nth (J5 p k s)=k:=by
  unfold nth;rw [ES];show (Lib.atoi (y6 (D5 k++[58]++s)).1).getD 0=k;rw [Lb];show (Lib.atoi (D5 k)).getD 0=k;rw [EY (by omega)]; rfl
theorem c3t {p k:Nat} {s:yY}:xm (J5 p k s)=s:=by
  unfold xm;rw [ES];show (y6 (D5 k++[58]++s)).2.1=s;rw [Lb]
theorem Xy {t:yY} (h:okT t):((y6 t).1.length<=18/\(Lib.atoi (y6 t).1).isSome=true)/\((y6 (y6 t).2.1).1.length<=18/\(Lib.atoi (y6 (y6 t).2.1).1).isSome=true)/\0<=nth t/\nth t<=16777300:=by
  obtain ⟨p,k,s,h1,h2,rfl⟩:=h;rw [Qs h2];rw [ES];show ((D5 p).length<=18/\(Lib.atoi (D5 p)).isSome=true)/\((y6 (D5 k++[58]++s)).1.length<=18/\(Lib.atoi (y6 (D5 k++[58]++s)).1).isSome=true)/\_;rw [Lb,EY (by omega)];refine ⟨⟨QO 18 (by omega) (by decide),rfl⟩,⟨QO 18 (by omega) (by decide),?_⟩,by omega,by omega⟩;show (Lib.atoi (D5 k)).isSome=true;rw [EY (by omega)]; rfl
def J0 (w:f9):Nat->List D7
  | 0=>[]
  | k+1=>if s8 w k=true/\(J0 w k).length<(w.2.1.getD k j8).2.1.length then (w.2.1.getD k j8).2.1 else J0 w k
theorem c1f {w:f9}:∀ k,(J0 w k).length<=(J0 w (k+1)).length:=λ k=>by
  rw [J0]; split
  . rename_i h; exact Nat.le_of_lt h.2
  . exact aAj _
theorem EA {w:f9} {i:Nat} (ha:s8 w i=true):∀ {k:Nat},i<k->(w.2.1.getD i j8).2.1.length<=(J0 w k).length
  | 0,h=>by omega
  | k+1,h=>by
    by_cases e:i=k
    . subst e;rw [J0]
      split
      . exact aAj _
      . rename_i h1;exact Nat.le_of_not_lt (λ h2=>h1 ⟨ha,h2⟩)
    . exact aAv (EA ha (by omega)) (c1f k)
theorem Qo {w:f9} {b:Nat} (h:∀ i,(w.2.1.getD i j8).2.1.length<=b):∀ k,(J0 w k).length<=b
  | 0=>aAz _
  | k+1=>by
    rw [J0]; split
    . exact h k
    . exact Qo h k
def countP (p:Int):List D7->Nat
  | []=>0
  | s::l=>(if s.1=p then 1 else 0)+countP p l
theorem SE {p:Int}:∀ {l m:List D7},countP p (l++m)=countP p l+countP p m
  | [],m=>by simp [countP]
  | s::l,m=>by rw [aCv,countP,countP,SE]; omega
theorem countP_le {p:Int}:∀ {l:List D7},countP p l<=l.length
  | []=>aAj _
  | s::l=>by
    have:=countP_le (p:=p) (l:=l);rw [countP,aAh]; split<;>omega
theorem TB {p:Int} {l:List D7} {i:Nat} (h:i<l.length):countP p (l.take (i+1))=countP p (l.take i)+if (l.getD i (0,[],())).1=p then 1 else 0:=by
  rw [Fu h (0,[],()),SE];simp [countP]
def vr (w:f9) (L:List D7) (i:Nat) (x:n9):n9 :=
  if s8 w i=true then (x.1,L,(0,x.2.2.1.2.1.drop (min (countP i (L.drop x.2.1.length)) x.2.2.1.2.1.length),()),(0,[],()),(0,[],()),()) else (x.1,x.2.1,x.2.2.1,x.2.2.2.1,(0,[],()),())
def E2 (w:f9):f9:=((L7 w).1,w.2.1.mapIdx (vr w (J0 w w.2.1.length)),[],w.2.2.2.1,())
def C4 (w:f9):f9×Int:=if (L7 w).2.1≠0 then (w,(L7 w).2.1) else (E2 w,0)
theorem b68 {v:vK} {al al':List n9} {r r':List yY×List yY×Unit} {p:Int} (hl:al'.length=al.length) (hf:(al'.getD p.toNat j8).1=(al.getD p.toNat j8).1):s8 (v,al',r') p=s8 (v,al,r) p:=by
  unfold s8;simp only;rw [hl,hf]
abbrev toM (x:n9):M4:=(x.1,(1,x.2.1,[]),x.2.2)
abbrev rdP (x:M4):n9:=(x.1,x.2.1.2.1,x.2.2)
abbrev dM:M4:=(false,(1,[],[]),(0,[],()),(0,[],()),(0,[],()),())
theorem QA {al:List M4} {i:Nat}:(al.map rdP).getD i j8=rdP (al.getD i dM):=by
  rw [aAb,List.getElem?_map,aAb];cases al[i]?<;>rfl
theorem JX {al:List n9} {i:Nat}:(al.map toM).getD i dM=toM (al.getD i j8):=by
  rw [aAb,List.getElem?_map,aAb];cases al[i]?<;>rfl
theorem Zk {α:Type} {d:α} {l m:List α} (h:l.length=m.length) (h2:∀ i,i<l.length->l.getD i d=m.getD i d):l=m:=by
  apply aFm h;intro i h3 h4;have:=h2 i h3;rw [aAb,aAb,aAf h3,aAf h4] at this;exact this
theorem Y1 {α:Type} {d:α} {l:List α} {i j:Nat} {x:α}:(l.set i x).getD j d=if i=j/\i<l.length then x else l.getD j d:=by
  rw [aAb,aEk,aAb];by_cases h:i=j
  . subst h;by_cases h2:i<l.length
    . simp [h2]
    . simp [h2]
  . simp [h]
structure wz (w:f9) (al:List M4):Prop where
  len:al.length=w.2.1.length
  rd:∀ i:Nat,rdP (al.getD i dM)=w.2.1.getD i j8
  same:∀ i:Nat,s8 w i=false->al.getD i dM=toM (w.2.1.getD i j8)
theorem wz.start (w:f9):wz w (w.2.1.map toM):=⟨aAn ..,λ i=>by rw [JX],λ i _=>by rw [JX]⟩
theorem wz.vI {w:f9} {al:List M4} (h:wz w al) {k n:Nat} (ha:s8 w k=true):wz w (al.set k ((al.getD k dM).1,(n,(al.getD k dM).2.1.2.1,[]),(al.getD k dM).2.2)):=by
  refine ⟨by rw [aCa]; exact h.len,λ i=>?_,λ i hi=>?_⟩
  . rw [Y1]
    split
    . rename_i e;rw [<- e.1,<- h.rd k]
    . exact h.rd i
  . rw [Y1,if_neg]
    . exact h.same i hi
    . rintro ⟨rfl,-⟩;rw [ha] at hi; cases hi
structure wT (w:f9) (L:List D7) (k:Nat) (al:List M4):Prop where
  len:al.length=w.2.1.length
  done:∀ i:Nat,i<k->i<al.length->al.getD i dM=toM (vr w L i (w.2.1.getD i j8))
  rd:∀ i:Nat,k<=i->rdP (al.getD i dM)=w.2.1.getD i j8
  same:∀ i:Nat,k<=i->s8 w i=false->al.getD i dM=toM (w.2.1.getD i j8)
theorem wz.next {w:f9} {al:List M4} (h:wz w al) (L:List D7):wT w L 0 al:=⟨h.len,λ i hi=>by omega,λ i _=>h.rd i,λ i _=>h.same i⟩
theorem Nn {w:f9} {L:List D7} {i:Nat} {x:n9}:(vr w L i x).1=x.1:=by unfold vr; split<;>rfl
theorem wT.act {w:f9} {L:List D7} {k:Nat} {al:List M4} (h:wT w L k al) (i:Nat):((al.map rdP).getD i j8).1=(w.2.1.getD i j8).1:=by
  rw [QA];by_cases hk:k<=i
  . rw [h.rd i hk]
  . by_cases hi:i<al.length
    . rw [h.done i (by omega) hi];exact Nn
    . have h1:al.getD i dM=dM:=by rw [aAb,aBx (by omega)]; rfl
      have h2:w.2.1.getD i j8=j8:=by rw [aAb,aBx (by have:=h.len; omega)]; rfl
      rw [h1,h2]; rfl
theorem wT.step {w:f9} {L:List D7} {k:Nat} {al:List M4} (h:wT w L k al):wT w L (k+1) (al.set k (toM (vr w L k (w.2.1.getD k j8)))):=by
  refine ⟨by rw [aCa]; exact h.len,λ i hi hl=>?_,λ i hi=>?_,λ i hi=>?_⟩
  . rw [aCa] at hl;rw [Y1];by_cases e:k=i
    . rw [if_pos ⟨e,by omega⟩,e]
    . rw [if_neg (λ h=>e h.1)];exact h.done i (by omega) hl
  . rw [Y1,if_neg (by omega)]; exact h.rd i (by omega)
  . rw [Y1,if_neg (by omega)]; exact h.same i (by omega)
theorem wT.fin {w:f9} {L:List D7} {al:List M4} (h:wT w L w.2.1.length al):al=(w.2.1.mapIdx (vr w L)).map toM:=by
  refine Zk (d:=dM) (by rw [aAn,aEf]; exact h.len) (λ i hi=>?_);rw [h.done i (by have:=h.len; omega) hi,JX];congr 1;rw [aAb (l:=List.mapIdx _ _),aHp,aAb,aAf (by have:=h.len; omega)];rfl
abbrev D8:=yY
abbrev W7:=Nat×D8
def C5 (p:Nat):List W7->List D8
  | []=>[]
  | x::l=>if x.1=p then x.2::C5 p l else C5 p l
theorem yI {p:Nat}:∀ {l m:List W7},C5 p (l++m)=C5 p l++C5 p m
  | [],_=>rfl
  | x::l,m=>by
    rw [aCv,C5,C5,yI]
    split<;>rfl
theorem Xw {p q:Nat} {l:List D8}:C5 p (l.map λ t=>(q,t))=if q=p then l else []:=by
  induction l with
  | nil=>split<;>rfl
  | cons t l ih =>
    rw [aDb,C5,ih];by_cases h:q=p
    . rw [if_pos h,if_pos h,if_pos h]
    . rw [if_neg h,if_neg h,if_neg h]
theorem zD {p:Nat} {Q:List W7} {i:Nat}:C5 p (Q.take i) <+: C5 p Q:=by
  have h:C5 p Q=C5 p (Q.take i)++C5 p (Q.drop i):=by rw [<- yI,aBv]
  exact ⟨_,h.symm⟩
def N8 (P:List W7):List W7->List D8
  | []=>[]
  | x::l=>J5 x.1 (C5 x.1 P).length x.2::N8 (P++[x]) l
def Q4 (Q:List W7):List D8:=N8 [] Q
theorem Ug:∀ {l P m:List W7},N8 P (l++m)=N8 P l++N8 (P++l) m
  | [],P,m=>by simp [N8]
  | x::l,P,m=>by
    rw [aCv,N8,N8,Ug,aCv,aAl]; rfl
theorem Uh:∀ {l P:List W7} {i:Nat},(N8 P l)[i]?=l[i]?.map (λ x=>J5 x.1 (C5 x.1 (P++l.take i)).length x.2)
  | [],P,i=>rfl
  | x::l,P,0=>by simp [N8]
  | x::l,P,i+1=>by
    rw [N8,aDm,Uh,aDm,aFx,aAl]; rfl
theorem Ui:∀ {l P:List W7},(N8 P l).length=l.length
  | [],_=>rfl
  | x::l,P=>by rw [N8,aAh,Ui,aAh]
theorem c4E {Q:List W7}:(Q4 Q).length=Q.length:=Ui
theorem Rh {Q:List W7} {i:Nat}:(Q4 Q)[i]?=Q[i]?.map (λ x=>J5 x.1 (C5 x.1 (Q.take i)).length x.2):=by
  unfold Q4; rw [Uh]; rfl
theorem Rg {Q m:List W7}:Q4 (Q++m)=Q4 Q++N8 Q m:=by
  unfold Q4; rw [Ug]; rfl
def xl (x:W7):D7:=(x.1,x.2,())
def ofP (p:Nat):List D7->List D8
  | []=>[]
  | x::l=>if x.1=(p:Int) then x.2.1::ofP p l else ofP p l
theorem Jm {p:Nat}:∀ {l m:List D7},ofP p (l++m)=ofP p l++ofP p m
  | [],_=>rfl
  | x::l,m=>by
    rw [aCv,ofP,ofP,Jm]
    split<;>rfl
theorem En {p:Nat}:∀ {Q:List W7},ofP p (Q.map xl)=C5 p Q
  | []=>rfl
  | x::l=>by
    rw [aDb,ofP,C5,En];by_cases h:x.1=p
    . rw [if_pos h,if_pos (by show (x.1:Int)=p; rw [h])]; rfl
    . rw [if_neg h,if_neg (by show ¬ (x.1:Int)=p; omega)]
theorem SF {p:Nat}:∀ {l:List D7},countP p l=(ofP p l).length
  | []=>rfl
  | x::l=>by
    rw [countP,ofP,SF];by_cases h:x.1=(p:Int)
    . rw [if_pos h,if_pos h,aAh]; omega
    . rw [if_neg h,if_neg h]; omega
theorem QR {F:Nat->Option D8}:∀ {l:List w4} {n:Int},0<=n->(∀ q∈l,F q.1.toNat=some q.2.1)->∀ i,i<(E4 l n).2.2.length->F (n.toNat+i)=(E4 l n).2.2[i]?
  | [],n,_,_,i,hi=>absurd hi (by simp [E4])
  | p::l,n,h0,h,i,hi=>by
    rw [E4] at hi ⊢;by_cases e:p.1=n
    . rw [if_pos e] at hi ⊢;cases i with
      | zero=>rw [aFk,<- e]; exact h p aBp
      | succ i =>
        rw [aDm,<- QR (n:=n+1) (by omega) (λ q hq=>h q (aBd _ hq)) i (by simpa using hi)];congr 1; omega
    . rw [if_neg e] at hi; exact absurd hi (by simp)
theorem RQ {F:Nat->Option D8} {s:ToD} {p:w4} (h:(D9 s p).2.2.1=0) (hs:∀ q∈s.2.1,F q.1.toNat=some q.2.1) (hp:F p.1.toNat=some p.2.1) :
    ∀ i,i<(D9 s p).2.1.length->F (s.1.toNat+i)=(D9 s p).2.1[i]?:=by
  obtain ⟨aM,h1,h2,hc⟩:=TN h;intro i hi;rcases hc with ⟨e,-⟩|⟨-,-,e⟩|⟨e1,e⟩
  . rw [e] at hi; exact absurd hi (by simp)
  . rw [e] at hi; exact absurd hi (by simp)
  . rw [e] at hi ⊢;cases i with
    | zero=>rw [aFk,<- e1]; exact hp
    | succ i =>
      have h0:=aM.rg.1;show F (s.1.toNat+(i+1))=(p.2.1::(E4 s.2.1 (s.1+1)).2.2)[i+1]?;rw [aDm,<- QR (n:=s.1+1) (by omega) hs i (by simpa using hi)];congr 1; omega
theorem YQ {α:Type} {X l:List α} {r:Nat} (h:∀ i,i<l.length->X[r+i]?=l[i]?):l=(X.drop r).take l.length:=by
  apply aDu;intro i;rw [aBn]
  split
  . rename_i hi;rw [aBi,h i hi]
  . rename_i hi;exact aBx (by omega)
theorem Ax {α:Type} {l m:List α} (h:l <+: m) {i:Nat} {x:α} (hx:l[i]?=some x):m[i]?=some x:=by
  obtain ⟨k,rfl⟩:=h;have hi:i<l.length:=by
    by_cases hi:i<l.length
    . exact hi
    . rw [aBx (by omega)] at hx; cases hx
  rw [aFf hi]; exact hx
def T1 (m:Int) (p:Nat):Bool:=decide (T4 .u8 (m / (2:Int)^min p IntKind.u8.bits) 1=1)
theorem CF {w:f9} {p:Int}:s8 w p=true↔∃ k:Nat,p=k/\k<w.2.1.length/\T1 w.1.2.1 k=true/\(w.2.1.getD k j8).1=false:=by
  unfold s8;rw [aAa,aAa,W5,aAt];constructor
  . rintro ⟨⟨h1,h2⟩,h3⟩;exact ⟨p.toNat,by omega,by omega,h2,h3⟩
  . rintro ⟨k,rfl,h1,h2,h3⟩;exact ⟨⟨by omega,h2⟩,h3⟩
theorem yJ {w:f9} {k:Nat}:s8 w (k:Int)=true↔k<w.2.1.length/\T1 w.1.2.1 k=true/\(w.2.1.getD k j8).1=false:=by
  rw [CF];constructor
  . rintro ⟨j,h,h1⟩;obtain rfl:k=j:=by omega
    exact h1
  . exact λ h=>⟨k,rfl,h⟩
def b8x:Go.Shelf.Ren:=⟨λ|129=>120|171=>50|243=>68|246=>87|283=>104|284=>105|285=>106|286=>107|317=>119|318=>121|319=>122|320=>123|337=>143|338=>144|n=>n,λ|0=>0|2=>2|3=>3|4=>4|5=>5|9=>9|20=>20|37=>115|46=>119|51=>117|53=>159|171=>158|173=>162|212=>176|213=>177|232=>208|233=>209|n=>n,λ|17=>0|18=>4|19=>5|n=>n⟩
theorem Xn:Go.Proofs.LaysM.n171 Tryz.prog b8x:={
  mixed:=by kernel_rfl,
  f129:=Tryz.func120.trans (congrArg some (by kernel_rfl)),
  f171:=Tryz.func50.trans (congrArg some (by kernel_rfl)),
  f243:=Tryz.func68.trans (congrArg some (by kernel_rfl)),
  f246:=Tryz.func87.trans (congrArg some (by kernel_rfl)),
  f283:=Tryz.func104.trans (congrArg some (by kernel_rfl)),
  f284:=Tryz.func105.trans (congrArg some (by kernel_rfl)),
  f285:=Tryz.func106.trans (congrArg some (by kernel_rfl)),
  f286:=Tryz.func107.trans (congrArg some (by kernel_rfl)),
  f317:=Tryz.func119.trans (congrArg some (by kernel_rfl)),
  f318:=Tryz.func121.trans (congrArg some (by kernel_rfl)),
  f319:=Tryz.func122.trans (congrArg some (by kernel_rfl)),
  f320:=Tryz.func123.trans (congrArg some (by kernel_rfl)),
  f337:=Tryz.func143.trans (congrArg some (by kernel_rfl)),
  f338:=Tryz.func144.trans (congrArg some (by kernel_rfl)),
  t0:=Tryz.underlying0,
  a0:=Tryz.isAgg0,
  z0:=Tryz.sizeOf0,
  v0:=Tryz.zeroValue0,
  t2:=Tryz.underlying2,
  a2:=Tryz.isAgg2,
  z2:=Tryz.sizeOf2,
  v2:=Tryz.zeroValue2,
  t3:=Tryz.underlying3,
  a3:=Tryz.isAgg3,
  z3:=Tryz.sizeOf3,
  v3:=Tryz.zeroValue3,
  t4:=Tryz.underlying4,
  a4:=Tryz.isAgg4,
  z4:=Tryz.sizeOf4,
  v4:=Tryz.zeroValue4,
  t5:=Tryz.underlying5,
  a5:=Tryz.isAgg5,
  z5:=Tryz.sizeOf5,
  v5:=Tryz.zeroValue5,
  t9:=Tryz.underlying9,
  a9:=Tryz.isAgg9,
  z9:=Tryz.sizeOf9,
  v9:=Tryz.zeroValue9,
  t20:=Tryz.underlying20,
  a20:=Tryz.isAgg20,
  z20:=Tryz.sizeOf20,
  v20:=Tryz.zeroValue20,
  t37:=Tryz.underlying115,
  a37:=Tryz.isAgg115,
  z37:=Tryz.sizeOf115,
  v37:=Tryz.zeroValue115,
  t46:=Tryz.underlying119,
  a46:=Tryz.isAgg119,
  z46:=Tryz.sizeOf119,
  v46:=Tryz.zeroValue119,
  t51:=Tryz.underlying117,
  a51:=Tryz.isAgg117,
  z51:=Tryz.sizeOf117,
  v51:=Tryz.zeroValue117,
  t53:=Tryz.underlying159,
  a53:=Tryz.isAgg159,
  z53:=Tryz.sizeOf159,
  v53:=Tryz.zeroValue159,
  t171:=Tryz.underlying158,
  a171:=Tryz.isAgg158,
  z171:=Tryz.sizeOf158,
  v171:=Tryz.zeroValue158,
  t173:=Tryz.underlying162,
  a173:=Tryz.isAgg162,
  z173:=Tryz.sizeOf162,
  v173:=Tryz.zeroValue162,
  t212:=Tryz.underlying176,
  a212:=Tryz.isAgg176,
  z212:=Tryz.sizeOf176,
  v212:=Tryz.zeroValue176,
  t213:=Tryz.underlying177,
  a213:=Tryz.isAgg177,
  z213:=Tryz.sizeOf177,
  t232:=Tryz.underlying208,
  a232:=Tryz.isAgg208,
  z232:=Tryz.sizeOf208,
  v232:=Tryz.zeroValue208,
  t233:=Tryz.underlying209,
  a233:=Tryz.isAgg209,
  z233:=Tryz.sizeOf209,
  v233:=Tryz.zeroValue209,
  g17:=by kernel_rfl,
  g18:=by kernel_rfl,
  g19:=by kernel_rfl,
  i0:=by kernel_rfl,
  i2:=by kernel_rfl,
  i3:=by kernel_rfl,
  i4:=by kernel_rfl,
  i5:=by kernel_rfl,
  i9:=by kernel_rfl,
  i20:=by kernel_rfl,
  i37:=by kernel_rfl,
  i46:=by kernel_rfl,
  i51:=by kernel_rfl,
  i53:=by kernel_rfl,
  i171:=by kernel_rfl,
  i173:=by kernel_rfl,
  i212:=by kernel_rfl,
  i232:=by kernel_rfl,
  i233:=by kernel_rfl,
  m17:=by kernel_rfl,
  m18:=by kernel_rfl,
  m19:=by kernel_rfl }
theorem c3U {w:World} {k:Nat} {os:Array Obj}:D0 [] w (Sort.grow (w.drewN k) os):=by
  refine ⟨rfl,⟨rfl,aDn _ _⟩,rfl,?_,?_⟩
  . show w.heap.size<=(w.heap++os).size;simp
  . intro c hc _;show (w.heap++os)[c]?=_;rw [aHn,if_pos hc]
def UF:Go.Shelf.Ren:=⟨λ|138=>125|143=>126|146=>89|195=>145|197=>146|217=>136|218=>147|219=>113|221=>108|224=>138|225=>137|260=>157|266=>153|267=>139|268=>124|314=>154|n=>n,λ|0=>0|3=>3|4=>4|5=>5|9=>9|21=>21|31=>22|46=>119|51=>117|105=>196|119=>211|138=>213|139=>214|146=>201|n=>n,λ|1=>1|3=>6|4=>7|n=>n⟩
theorem Zr:Go.Proofs.Lays.n146 Tryz.prog UF:={
  mixed:=by kernel_rfl,
  f138:=Tryz.func125.trans (congrArg some (by kernel_rfl)),
  f143:=Tryz.func126.trans (congrArg some (by kernel_rfl)),
  f146:=Tryz.func89.trans (congrArg some (by kernel_rfl)),
  f195:=Tryz.func145.trans (congrArg some (by kernel_rfl)),
  f197:=Tryz.func146.trans (congrArg some (by kernel_rfl)),
  f217:=Tryz.func136.trans (congrArg some (by kernel_rfl)),
  f218:=Tryz.func147.trans (congrArg some (by kernel_rfl)),
  f219:=Tryz.func113.trans (congrArg some (by kernel_rfl)),
  f221:=Tryz.func108.trans (congrArg some (by kernel_rfl)),
  f224:=Tryz.func138.trans (congrArg some (by kernel_rfl)),
  f225:=Tryz.func137.trans (congrArg some (by kernel_rfl)),
  f260:=Tryz.func157.trans (congrArg some (by kernel_rfl)),
  f266:=Tryz.func153.trans (congrArg some (by kernel_rfl)),
  f267:=Tryz.func139.trans (congrArg some (by kernel_rfl)),
  f268:=Tryz.func124.trans (congrArg some (by kernel_rfl)),
  f314:=Tryz.func154.trans (congrArg some (by kernel_rfl)),
  t0:=Tryz.underlying0,
  a0:=Tryz.isAgg0,
  z0:=Tryz.sizeOf0,
  v0:=Tryz.zeroValue0,
  t3:=Tryz.underlying3,
  a3:=Tryz.isAgg3,
  z3:=Tryz.sizeOf3,
  v3:=Tryz.zeroValue3,
  t4:=Tryz.underlying4,
  a4:=Tryz.isAgg4,
  z4:=Tryz.sizeOf4,
  v4:=Tryz.zeroValue4,
  t5:=Tryz.underlying5,
  a5:=Tryz.isAgg5,
  z5:=Tryz.sizeOf5,
  v5:=Tryz.zeroValue5,
  t9:=Tryz.underlying9,
  a9:=Tryz.isAgg9,
  z9:=Tryz.sizeOf9,
  v9:=Tryz.zeroValue9,
  t21:=Tryz.underlying21,
  a21:=Tryz.isAgg21,
  z21:=Tryz.sizeOf21,
  v21:=Tryz.zeroValue21,
  t31:=Tryz.underlying22,
  a31:=Tryz.isAgg22,
  z31:=Tryz.sizeOf22,
  v31:=Tryz.zeroValue22,
  t46:=Tryz.underlying119,
  a46:=Tryz.isAgg119,
  z46:=Tryz.sizeOf119,
  v46:=Tryz.zeroValue119,
  t51:=Tryz.underlying117,
  a51:=Tryz.isAgg117,
  z51:=Tryz.sizeOf117,
  v51:=Tryz.zeroValue117,
  t105:=Tryz.underlying196,
  a105:=Tryz.isAgg196,
  z105:=Tryz.sizeOf196,
  v105:=Tryz.zeroValue196,
  t119:=Tryz.underlying211,
  a119:=Tryz.isAgg211,
  z119:=Tryz.sizeOf211,
  t138:=Tryz.underlying213,
  a138:=Tryz.isAgg213,
  z138:=Tryz.sizeOf213,
  v138:=Tryz.zeroValue213,
  t139:=Tryz.underlying214,
  a139:=Tryz.isAgg214,
  z139:=Tryz.sizeOf214,
  v139:=Tryz.zeroValue214,
  t146:=Tryz.underlying201,
  a146:=Tryz.isAgg201,
  z146:=Tryz.sizeOf201,
  v146:=Tryz.zeroValue201,
  g1:=by kernel_rfl,
  g3:=by kernel_rfl,
  g4:=by kernel_rfl }
def MS:p7:={ ps:=[.v .str,.v .str],rs:=[.d0 true .str],pre:=λ x=>List.length (α:=UInt8) x.1<=4294967280/\1<=List.length (α:=UInt8) x.2.1,fn:=λ x=>(Lib.split x.1 x.2.1,()),out:=λ _=>() }
theorem bsz (s:yY):(⟨s.toArray⟩:ByteArray).size=s.length:=by simp [ByteArray.size]
theorem QE {H:Array Go.Obj} {S:Nat->Prop}:∀ (l:List ByteArray),(∀ x∈l,x.size<=maxLen)->j5 (g9 H S .str) 1 [] (l.map Value.string) (l.map λ x=>(x.data.toList:yY))
  | [],_=>⟨rfl,rfl⟩
  | x::l,h=>by
    refine ⟨[],[],rfl,⟨rfl,?_,?_⟩,QE l (λ y hy=>h y (by simp [hy]))⟩
    . show [Value.string x]=[Value.string ⟨x.data.toList.toArray⟩];rw [aHs]
    . show x.data.toList.length<=maxLen;rw [aCw]; exact h x (by simp)
theorem Tj (sep:ByteArray):∀ (k:Nat) (s:ByteArray),∀ x∈Lib.splitB sep 0 k s,x.size<=s.size
  | 0,s,x,hx=>by rw [Lib.splitB_zero,aBg] at hx; rw [hx]; exact aAj _
  | k+1,s,x,hx=>by
    unfold Lib.splitB at hx;split at hx
    . rw [aBg] at hx; rw [hx]; exact aAj _
    . rcases aAp.1 hx with rfl|hx
      . rw [ByteArray.size_extract]; omega
      . have:=Tj sep k _ x hx;rw [ByteArray.size_extract] at this; omega
theorem b6A:MS.Valid Tryz.prog 89:=by
  refine ⟨⟨_,Tryz.func89,by kernel_rfl,by kernel_rfl⟩,?_,λ h=>by cases h⟩;rintro w S vs ⟨(s:yY),(p:yY),⟨⟩⟩ L hS dI ⟨(h1:s.length<=4294967280),(h2:1<=p.length)⟩ ⟨v1,us,L1,L2,rfl,rfl,⟨rfl,cs,rfl,r1⟩,v2,us2,L3,L4,rfl,rfl,⟨rfl,cs2,rfl,r2⟩,rfl,rfl⟩ - aJ hL;obtain ⟨-,rfl,hs⟩:=r1;obtain ⟨-,rfl,hp⟩:=r2;obtain ⟨-,cs,g2,m,g3⟩:=dI ("internal/bytealg.MaxLen",_) (aBd _ (aBp ..)) 1 (by kernel_rfl)
  have hm:w.cell? ⟨1,0,none⟩=some (.int .i64 m):=by
    have:=World.var?_cell (show Tryz.prog.globalNamed "internal/bytealg.MaxLen"=some 1 by kernel_rfl) g2 0
    rw [this,g3]
  refine (Any.strings_Split Zr (by kernel_rfl) ⟨s.toArray⟩ ⟨p.toArray⟩ m w (by rw [bsz]; omega) hm (by rw [bsz]; exact h2)).mono ?_;rintro e w' ⟨rfl,rfl⟩;have hlen:=Lib.splitB_all (⟨p.toArray⟩:ByteArray) (by rw [bsz]; exact h2) 0 _ ⟨s.toArray⟩ rfl;have hl:(Lib.splitB ⟨p.toArray⟩ 0 (Lib.countB ⟨s.toArray⟩ ⟨p.toArray⟩) ⟨s.toArray⟩).map (λ x=>(x.data.toList:yY))=Lib.split s p:=by
    rw [Lib.splitB_data]; rfl
  have cD:=Lib.countB_le (⟨p.toArray⟩:ByteArray) (by rw [bsz]; exact h2) (ByteArray.size ⟨s.toArray⟩) ⟨s.toArray⟩ (aAj _);rw [bsz] at cD;generalize hB:Lib.splitB ⟨p.toArray⟩ 0 (Lib.countB ⟨s.toArray⟩ ⟨p.toArray⟩) ⟨s.toArray⟩=B at *
  generalize hC:Lib.countB ⟨s.toArray⟩ ⟨p.toArray⟩=C at *
  have uq:∀ x∈B,x.size<=maxLen:=λ x hx=>by
    have:=Tj _ _ _ x (by rw [hB]; exact hx);have h9:x.size<=s.length:=aAv this (aFb (bsz s));have h8:maxLen=9223372036854775807:=by decide
    omega
  have rQ:(Lib.split s p).length=C+1:=by rw [<- hl,aAn,hlen]
  obtain ⟨O',k1,k2,k3⟩:=IW (w:=w) (S:=S) (t:=.str) (l:=Lib.split s p) (O:=[]) (cells:=B.map Value.string) hS (by
    rw [aAu (by rw [aAn,hlen,rQ]; show C+1<=(C+1)*1; omega),<- hl];exact QE B uq) (cap:=C+1) (by omega) (by unfold maxLen; omega) (by rw [aAn,hlen]; show (C+1)*1<=C+1; omega) (UF.t 9) (by simp)
  rw [rQ] at k1;refine ⟨[.slice (some ⟨w.heap.size,0,none⟩) (C+1) (C+1)],O',[],S,rfl,D0.push _,λ _ h=>h,λ b h=>.inl h,⟨_,[],O',[],[.slice (some ⟨w.heap.size,0,none⟩) (C+1) (C+1)],rfl,by simp,rfl,k1,rfl,rfl⟩,⟨_,_,rfl,⟨_,[],rfl,rfl,rfl⟩⟩,by simpa using k3 aAw,?_⟩;intro b hb;rw [aBc] at hb;rcases k2 b hb with rfl|h
  . exact ⟨λ h=>by have:=hS _ h; omega,.inl (aAj _),by show w.heap.size<(w.heap.push _).size; rw [Array.size_push]; omega⟩
  . cases h
end Go.Proofs.YtijlnmgondibnaaGreatDoor
namespace Go.Proofs.YtijlnmgondibnaaGreatDoor
set_option maxRecDepth 100000
def xj:yY:=[48,49,50,51,52,53,54,55,56,57]
def xo (s:yY):yY:=Lib.trimPrefix s [45]
def yq (s:yY):Bool:=decide (1<=(xo s).length) && decide ((xo s).length<=9) && (xo s).all (xj.contains ·)
def K5 (s:yY):Int×Bool:=if yq s then ((Lib.atoi s).getD 0,true) else (0,false)
theorem dropWhile_nil {p:UInt8->Bool}:∀ {l:yY},l.dropWhile p=[]↔l.all p=true
  | []=>by simp
  | b::l=>by
    rw [aHz,aCt];cases h:p b with
    | true=>simpa [h] using dropWhile_nil (p:=p) (l:=l)
    | false=>simp
theorem NY {p:UInt8->Bool} (l:yY):l.reverse.all p=l.all p:=by simp
theorem Um {p:UInt8->Bool}:∀ {l:yY},(l.dropWhile p).all p=l.all p
  | []=>rfl
  | b::l=>by
    rw [aHz];cases h:p b with
    | true=>rw [if_pos rfl,Um (l:=l),aCt,h,aEj]
    | false=>rw [if_neg (by simp)]
theorem Si {l cs:yY}:Lib.trimS l cs=[]↔l.all (cs.contains ·)=true:=by
  unfold Lib.trimS Lib.trimLeftS Lib.trimRightS;rw [dropWhile_nil,NY,Um,NY]
theorem Zc {b:UInt8} (h:xj.contains b=true):∃ d,Lib.digitVal b=some d/\d<=9:=by
  simp only [xj,List.contains_iff_mem,aAp,List.mem_nil_iff,or_false] at h;rcases h with rfl|rfl|rfl|rfl|rfl|rfl|rfl|rfl|rfl|rfl<;>exact ⟨_,rfl,by decide⟩
theorem Uy:∀ {l:yY} {acc:Nat},l.all (xj.contains ·)=true->∃ n,Lib.decFrom acc l=some n/\n<(acc+1)*10^l.length
  | [],acc,_=>⟨acc,rfl,by simp⟩
  | b::l,acc,h=>by
    rw [aCt,aAa] at h;obtain ⟨d,hd,h9⟩:=Zc h.1;obtain ⟨n,e,hn⟩:=Uy (acc:=acc*10+d) h.2;refine ⟨n,by simp only [Lib.decFrom,hd]; exact e,aAr hn ?_⟩;rw [aAh,aFo,Nat.mul_comm (10^l.length) 10,<- Nat.mul_assoc];exact aAm _ (by omega)
theorem Su {s:yY} (h:yq s=true):s.length<=10/\∃ n:Int,Lib.atoi s=some n/\-999999999<=n/\n<=999999999:=by
  simp only [yq,aAa,decide_eq_true_eq] at h;obtain ⟨⟨h1,h2⟩,h3⟩:=h;have core:∀ {t:yY},1<=t.length->t.length<=9->t.all (xj.contains ·)=true->∃ n,Lib.decNat t=some n/\n<=999999999:=by
    intro t t1 t2 t3;obtain ⟨n,e,hn⟩:=Uy (acc:=0) t3;refine ⟨n,?_,?_⟩
    . unfold Lib.decNat;rw [if_neg (by cases t<;>simp at t1 ⊢)];exact e
    . have:10^t.length<=10^9:=aEr (by decide) t2;have e9:10^9=1000000000:=by decide
      omega
  cases s with
  | nil=>simp [xo,Lib.trimPrefix,Lib.hasPrefix] at h1
  | cons b r =>
    by_cases hb:b=45
    . subst hb;have ht:xo (45::r)=r:=by simp [xo,Lib.trimPrefix,Lib.hasPrefix]
      rw [ht] at h1 h2 h3;obtain ⟨n,e,hn⟩:=core h1 h2 h3;refine ⟨by simp only [aAh]; omega,-(n:Int),?_,by omega,by omega⟩;simp [Lib.atoi,e]
    . have ht:xo (b::r)=b::r:=by
        unfold xo Lib.trimPrefix;rw [if_neg];simp [Lib.hasPrefix,Ne.symm hb]
      rw [ht] at h1 h2 h3;obtain ⟨n,e,hn⟩:=core h1 h2 h3;have uv:b≠43:=by
        rintro rfl;rw [aCt,aAa] at h3;exact absurd h3.1 (by decide)
      refine ⟨by omega,(n:Int),?_,by omega,by omega⟩;simp [Lib.atoi,hb,uv,e]
end Go.Proofs.YtijlnmgondibnaaGreatDoor
set_option linter.unusedVariables false
namespace Go.Proofs.YtijlnmgondibnaaGreatDoor
open Go.Ex Go.RowKit Go.Shelf
set_option maxRecDepth 100000
def ZP:Go.Shelf.Ren:=⟨λ|101=>109|206=>148|208=>127|n=>n,λ|3=>3|4=>4|9=>9|n=>n,λ|n=>n⟩
theorem VP:Go.Proofs.Lays.n101 Tryz.prog ZP:={
  mixed:=by kernel_rfl,
  f101:=Tryz.func109.trans (congrArg some (by kernel_rfl)),
  f206:=Tryz.func148.trans (congrArg some (by kernel_rfl)),
  f208:=Tryz.func127.trans (congrArg some (by kernel_rfl)),
  t3:=Tryz.underlying3,
  a3:=Tryz.isAgg3,
  z3:=Tryz.sizeOf3,
  v3:=Tryz.zeroValue3,
  t4:=Tryz.underlying4,
  a4:=Tryz.isAgg4,
  z4:=Tryz.sizeOf4,
  v4:=Tryz.zeroValue4,
  t9:=Tryz.underlying9,
  a9:=Tryz.isAgg9,
  z9:=Tryz.sizeOf9,
  v9:=Tryz.zeroValue9 }
def TM:Go.Shelf.Ren:=⟨λ|119=>161|120=>159|137=>160|151=>150|152=>158|160=>110|197=>146|217=>136|224=>138|225=>137|227=>130|228=>149|231=>128|232=>129|233=>131|234=>132|235=>133|236=>134|260=>157|266=>153|271=>151|n=>n,λ|0=>0|3=>3|4=>4|5=>5|9=>9|21=>21|46=>119|105=>196|116=>182|117=>183|119=>211|124=>186|138=>213|139=>214|n=>n,λ|3=>6|4=>7|n=>n⟩
theorem Xo:Go.Proofs.Lays.n160 Tryz.prog TM:={
  mixed:=by kernel_rfl,
  f119:=Tryz.func161.trans (congrArg some (by kernel_rfl)),
  f120:=Tryz.func159.trans (congrArg some (by kernel_rfl)),
  f137:=Tryz.func160.trans (congrArg some (by kernel_rfl)),
  f151:=Tryz.func150.trans (congrArg some (by kernel_rfl)),
  f152:=Tryz.func158.trans (congrArg some (by kernel_rfl)),
  f160:=Tryz.func110.trans (congrArg some (by kernel_rfl)),
  f197:=Tryz.func146.trans (congrArg some (by kernel_rfl)),
  f217:=Tryz.func136.trans (congrArg some (by kernel_rfl)),
  f224:=Tryz.func138.trans (congrArg some (by kernel_rfl)),
  f225:=Tryz.func137.trans (congrArg some (by kernel_rfl)),
  f227:=Tryz.func130.trans (congrArg some (by kernel_rfl)),
  f228:=Tryz.func149.trans (congrArg some (by kernel_rfl)),
  f231:=Tryz.func128.trans (congrArg some (by kernel_rfl)),
  f232:=Tryz.func129.trans (congrArg some (by kernel_rfl)),
  f233:=Tryz.func131.trans (congrArg some (by kernel_rfl)),
  f234:=Tryz.func132.trans (congrArg some (by kernel_rfl)),
  f235:=Tryz.func133.trans (congrArg some (by kernel_rfl)),
  f236:=Tryz.func134.trans (congrArg some (by kernel_rfl)),
  f260:=Tryz.func157.trans (congrArg some (by kernel_rfl)),
  f266:=Tryz.func153.trans (congrArg some (by kernel_rfl)),
  f271:=Tryz.func151.trans (congrArg some (by kernel_rfl)),
  t0:=Tryz.underlying0,
  a0:=Tryz.isAgg0,
  z0:=Tryz.sizeOf0,
  v0:=Tryz.zeroValue0,
  t3:=Tryz.underlying3,
  a3:=Tryz.isAgg3,
  z3:=Tryz.sizeOf3,
  v3:=Tryz.zeroValue3,
  t4:=Tryz.underlying4,
  a4:=Tryz.isAgg4,
  z4:=Tryz.sizeOf4,
  v4:=Tryz.zeroValue4,
  t5:=Tryz.underlying5,
  a5:=Tryz.isAgg5,
  z5:=Tryz.sizeOf5,
  v5:=Tryz.zeroValue5,
  t9:=Tryz.underlying9,
  a9:=Tryz.isAgg9,
  z9:=Tryz.sizeOf9,
  v9:=Tryz.zeroValue9,
  t21:=Tryz.underlying21,
  a21:=Tryz.isAgg21,
  z21:=Tryz.sizeOf21,
  v21:=Tryz.zeroValue21,
  t46:=Tryz.underlying119,
  a46:=Tryz.isAgg119,
  z46:=Tryz.sizeOf119,
  v46:=Tryz.zeroValue119,
  t105:=Tryz.underlying196,
  a105:=Tryz.isAgg196,
  z105:=Tryz.sizeOf196,
  v105:=Tryz.zeroValue196,
  t116:=Tryz.underlying182,
  a116:=Tryz.isAgg182,
  z116:=Tryz.sizeOf182,
  t117:=Tryz.underlying183,
  a117:=Tryz.isAgg183,
  z117:=Tryz.sizeOf183,
  v117:=Tryz.zeroValue183,
  t119:=Tryz.underlying211,
  a119:=Tryz.isAgg211,
  z119:=Tryz.sizeOf211,
  t124:=Tryz.underlying186,
  a124:=Tryz.isAgg186,
  z124:=Tryz.sizeOf186,
  v124:=Tryz.zeroValue186,
  t138:=Tryz.underlying213,
  a138:=Tryz.isAgg213,
  z138:=Tryz.sizeOf213,
  v138:=Tryz.zeroValue213,
  t139:=Tryz.underlying214,
  a139:=Tryz.isAgg214,
  z139:=Tryz.sizeOf214,
  v139:=Tryz.zeroValue214,
  g3:=by kernel_rfl,
  g4:=by kernel_rfl }
def b8y:Go.Shelf.Ren:=⟨λ|129=>120|171=>50|172=>85|205=>142|243=>68|244=>102|245=>103|246=>87|247=>114|279=>115|280=>116|281=>117|282=>118|283=>104|284=>105|285=>106|286=>107|287=>140|316=>141|317=>119|318=>121|319=>122|320=>123|321=>155|322=>156|337=>143|338=>144|n=>n,λ|0=>0|2=>2|3=>3|4=>4|5=>5|9=>9|20=>20|21=>21|37=>115|46=>119|51=>117|53=>159|75=>140|76=>141|80=>216|85=>170|127=>204|143=>205|145=>207|167=>169|168=>172|171=>158|173=>162|175=>188|210=>192|212=>176|213=>177|232=>208|233=>209|n=>n,λ|15=>2|16=>3|17=>0|18=>4|19=>5|n=>n⟩
theorem OK:Go.Proofs.Lays.n172 Tryz.prog b8y:={
  mixed:=by kernel_rfl,
  f129:=Tryz.func120.trans (congrArg some (by kernel_rfl)),
  f171:=Tryz.func50.trans (congrArg some (by kernel_rfl)),
  f172:=Tryz.func85.trans (congrArg some (by kernel_rfl)),
  f205:=Tryz.func142.trans (congrArg some (by kernel_rfl)),
  f243:=Tryz.func68.trans (congrArg some (by kernel_rfl)),
  f244:=Tryz.func102.trans (congrArg some (by kernel_rfl)),
  f245:=Tryz.func103.trans (congrArg some (by kernel_rfl)),
  f246:=Tryz.func87.trans (congrArg some (by kernel_rfl)),
  f247:=Tryz.func114.trans (congrArg some (by kernel_rfl)),
  f279:=Tryz.func115.trans (congrArg some (by kernel_rfl)),
  f280:=Tryz.func116.trans (congrArg some (by kernel_rfl)),
  f281:=Tryz.func117.trans (congrArg some (by kernel_rfl)),
  f282:=Tryz.func118.trans (congrArg some (by kernel_rfl)),
  f283:=Tryz.func104.trans (congrArg some (by kernel_rfl)),
  f284:=Tryz.func105.trans (congrArg some (by kernel_rfl)),
  f285:=Tryz.func106.trans (congrArg some (by kernel_rfl)),
  f286:=Tryz.func107.trans (congrArg some (by kernel_rfl)),
  f287:=Tryz.func140.trans (congrArg some (by kernel_rfl)),
  f316:=Tryz.func141.trans (congrArg some (by kernel_rfl)),
  f317:=Tryz.func119.trans (congrArg some (by kernel_rfl)),
  f318:=Tryz.func121.trans (congrArg some (by kernel_rfl)),
  f319:=Tryz.func122.trans (congrArg some (by kernel_rfl)),
  f320:=Tryz.func123.trans (congrArg some (by kernel_rfl)),
  f321:=Tryz.func155.trans (congrArg some (by kernel_rfl)),
  f322:=Tryz.func156.trans (congrArg some (by kernel_rfl)),
  f337:=Tryz.func143.trans (congrArg some (by kernel_rfl)),
  f338:=Tryz.func144.trans (congrArg some (by kernel_rfl)),
  t0:=Tryz.underlying0,
  a0:=Tryz.isAgg0,
  z0:=Tryz.sizeOf0,
  v0:=Tryz.zeroValue0,
  t2:=Tryz.underlying2,
  a2:=Tryz.isAgg2,
  z2:=Tryz.sizeOf2,
  v2:=Tryz.zeroValue2,
  t3:=Tryz.underlying3,
  a3:=Tryz.isAgg3,
  z3:=Tryz.sizeOf3,
  v3:=Tryz.zeroValue3,
  t4:=Tryz.underlying4,
  a4:=Tryz.isAgg4,
  z4:=Tryz.sizeOf4,
  v4:=Tryz.zeroValue4,
  t5:=Tryz.underlying5,
  a5:=Tryz.isAgg5,
  z5:=Tryz.sizeOf5,
  v5:=Tryz.zeroValue5,
  t9:=Tryz.underlying9,
  a9:=Tryz.isAgg9,
  z9:=Tryz.sizeOf9,
  v9:=Tryz.zeroValue9,
  t20:=Tryz.underlying20,
  a20:=Tryz.isAgg20,
  z20:=Tryz.sizeOf20,
  v20:=Tryz.zeroValue20,
  t21:=Tryz.underlying21,
  a21:=Tryz.isAgg21,
  z21:=Tryz.sizeOf21,
  v21:=Tryz.zeroValue21,
  t37:=Tryz.underlying115,
  a37:=Tryz.isAgg115,
  z37:=Tryz.sizeOf115,
  v37:=Tryz.zeroValue115,
  t46:=Tryz.underlying119,
  a46:=Tryz.isAgg119,
  z46:=Tryz.sizeOf119,
  v46:=Tryz.zeroValue119,
  t51:=Tryz.underlying117,
  a51:=Tryz.isAgg117,
  z51:=Tryz.sizeOf117,
  v51:=Tryz.zeroValue117,
  t53:=Tryz.underlying159,
  a53:=Tryz.isAgg159,
  z53:=Tryz.sizeOf159,
  v53:=Tryz.zeroValue159,
  t75:=Tryz.underlying140,
  a75:=Tryz.isAgg140,
  z75:=Tryz.sizeOf140,
  v75:=Tryz.zeroValue140,
  t76:=Tryz.underlying141,
  a76:=Tryz.isAgg141,
  z76:=Tryz.sizeOf141,
  v76:=Tryz.zeroValue141,
  t85:=Tryz.underlying170,
  a85:=Tryz.isAgg170,
  z85:=Tryz.sizeOf170,
  v85:=Tryz.zeroValue170,
  t127:=Tryz.underlying204,
  a127:=Tryz.isAgg204,
  z127:=Tryz.sizeOf204,
  v127:=Tryz.zeroValue204,
  t143:=Tryz.underlying205,
  a143:=Tryz.isAgg205,
  z143:=Tryz.sizeOf205,
  v143:=Tryz.zeroValue205,
  t145:=Tryz.underlying207,
  a145:=Tryz.isAgg207,
  z145:=Tryz.sizeOf207,
  v145:=Tryz.zeroValue207,
  t167:=Tryz.underlying169,
  a167:=Tryz.isAgg169,
  z167:=Tryz.sizeOf169,
  v167:=Tryz.zeroValue169,
  t168:=Tryz.underlying172,
  a168:=Tryz.isAgg172,
  z168:=Tryz.sizeOf172,
  v168:=Tryz.zeroValue172,
  t171:=Tryz.underlying158,
  a171:=Tryz.isAgg158,
  z171:=Tryz.sizeOf158,
  v171:=Tryz.zeroValue158,
  t173:=Tryz.underlying162,
  a173:=Tryz.isAgg162,
  z173:=Tryz.sizeOf162,
  v173:=Tryz.zeroValue162,
  t175:=Tryz.underlying188,
  a175:=Tryz.isAgg188,
  z175:=Tryz.sizeOf188,
  v175:=Tryz.zeroValue188,
  t210:=Tryz.underlying192,
  a210:=Tryz.isAgg192,
  z210:=Tryz.sizeOf192,
  v210:=Tryz.zeroValue192,
  t212:=Tryz.underlying176,
  a212:=Tryz.isAgg176,
  z212:=Tryz.sizeOf176,
  v212:=Tryz.zeroValue176,
  t213:=Tryz.underlying177,
  a213:=Tryz.isAgg177,
  z213:=Tryz.sizeOf177,
  t232:=Tryz.underlying208,
  a232:=Tryz.isAgg208,
  z232:=Tryz.sizeOf208,
  v232:=Tryz.zeroValue208,
  t233:=Tryz.underlying209,
  a233:=Tryz.isAgg209,
  z233:=Tryz.sizeOf209,
  v233:=Tryz.zeroValue209,
  g15:=by kernel_rfl,
  g16:=by kernel_rfl,
  g17:=by kernel_rfl,
  g18:=by kernel_rfl,
  g19:=by kernel_rfl }
theorem Qn (n a b:Int) (r:Bool) (hr:(decide (a<=n) && decide (n<=b))=r) (w:World):Calls Tryz.prog 92 #[.int .i64 n,.int .i64 a,.int .i64 b] w λ e w'=>e=.returned (.bool r)/\w'=w:=by
  go_enter Tryz.func92,Tryz.ntmps92
  by_cases h1:a<=n<;>by_cases h2:n<=b
  all_goals
    go_wp2
    go_ret
    rw [<- hr];simp [h1,h2]
theorem Tn (d:yY) (cs:ByteArray) (hcs:cs.data.toList=xj) (h1:1<=d.length) (h2:d.length<=9) (w:World):Calls Tryz.prog 110 #[.string ⟨d.toArray⟩,.string cs] w λ e w'=>e=.returned (.string ⟨(Lib.trimS d xj).toArray⟩)/\D0 [] w w':=by
  have cD:cs.size=10:=by
    have:cs.size=cs.data.toList.length:=by rw [aCw]; rfl
    rw [this,hcs]; rfl
  have nM:(Tryz.prog.info? (TM.t 116)).map (λ i=>(i.zero,i.size))=some (some (.agg (Array.replicate 256 (.bool false))),256):=by kernel_rfl
  refine (Any.strings_Trim_set Xo (zero_of_info nM).1 (zero_of_info nM).2 ⟨d.toArray⟩ cs w (by omega) (by simp [ByteArray.size]; omega) (by simp [ByteArray.size]; omega) (by omega) (ascii_of_all (by rw [hcs]; decide))).mono ?_;rintro e w' ⟨rfl,q,rfl⟩;rw [hcs];have key:∀ (o1 o2:Obj) (q:Nat),D0 [] w (((w.alloc o1).alloc o2).drewN q):=λ o1 o2 q=>by
    have hA:D0 [] w (w.alloc o1):=D0.push o1;have hB:D0 [] (w.alloc o1) ((w.alloc o1).alloc o2):=D0.push o2;have hD:D0 [] ((w.alloc o1).alloc o2) (((w.alloc o1).alloc o2).drewN q):=⟨rfl,⟨rfl,aDn _ _⟩,rfl,aAj _,λ _ _ _=>rfl⟩;exact (hA.trans hB (λ b h=>absurd h (by simp))).trans hD (λ b h=>absurd h (by simp))
  exact ⟨rfl,key _ _ _⟩
theorem c2z (s:ByteArray) (n:Int) (h1:s.size<=18) (h:Lib.atoi s.data.toList=some n) (w:World):Calls Tryz.prog 85 #[.string s] w λ e w'=>e=.returned (.tuple #[.int .i64 n,.nilIface])/\D0 [] w w':=by
  refine (Any.strconv_Atoi OK s n h1 h w).mono ?_;rintro e w' ⟨rfl,t,rfl⟩;exact ⟨rfl,rfl,⟨rfl,aGo _⟩,rfl,by rw [Lib.bytesWorld_size]; omega,λ j hj _=>Lib.bytesWorld_at_old w _ t j hj⟩
set_option maxHeartbeats 1000000 in
theorem b58 (s:ByteArray) (hs:s.size<=4294967280) (w:World):Calls Tryz.prog 91 #[.string s] w λ e w'=>e=.returned (.tuple #[.int .i64 (K5 s.data.toList).1,.bool (K5 s.data.toList).2])/\D0 [] w w':=by
  obtain ⟨d,hd⟩:∃ d,xo s.data.toList=d:=⟨_,rfl⟩;have ik:d.length<=s.size:=by
    rw [<- hd];unfold xo Lib.trimPrefix;have:s.size=s.data.toList.length:=by rw [aCw]; rfl
    split
    . rw [aAq]; omega
    . omega
  go_enter Tryz.func91,Tryz.ntmps91
  go_wp2_with (go_at_call 109; refine (Any.strings_TrimPrefix VP s ⟨#[45]⟩ _).mono ?_; rintro e w' ⟨rfl,rfl⟩)
  rw [show Lib.trimPrefix s.data.toList [45]=d from hd];by_cases hl:1<=d.length/\d.length<=9
  . refine (Qn _ _ _ true (by rw [aAa,decide_eq_true_eq,decide_eq_true_eq]; omega) _).mono ?_;rintro e w' ⟨rfl,rfl⟩;cases hg:yq s.data.toList with
    | true =>
      obtain ⟨g1,n,g2,g3,g4⟩:=Su hg;have g0:s.size<=18:=by
        have:s.size=s.data.toList.length:=by rw [aCw]; rfl
        omega
      have ht:Lib.trimS d xj=[]:=by
        rw [Si,<- hd];simp only [yq,aAa] at hg;exact hg.2
      have hn:K5 s.data.toList=(n,true):=by unfold K5; rw [hg,if_pos rfl,g2]; rfl
      go_wp2_with (first
        | (go_at_call 110; refine (Tn d _ ?hcs hl.1 hl.2 _).mono ?hpost; (case hcs=>rfl); rintro e w2 ⟨rfl,hp⟩; rw [ht])
        | (go_at_call 85; refine (c2z s n g0 g2 _).mono ?_; rintro e w3 ⟨rfl,eU⟩))
      go_region
      all_goals go_wp2
      go_ret2
      refine ⟨by rw [hn]; rfl,(hp.trans eU (λ b h=>by cases h)).trans D0.drew (λ b h=>by cases h)⟩
    | false =>
      have hn:K5 s.data.toList=(0,false):=by unfold K5; rw [hg]; rfl
      have ht:∃ x l,Lib.trimS d xj=x::l:=by
        cases h:Lib.trimS d xj with
        | cons x l=>exact ⟨x,l,rfl⟩
        | nil =>
          exfalso;rw [Si] at h;have:yq s.data.toList=true:=by
            simp only [yq,hd,aAa,decide_eq_true_eq];exact ⟨hl,h⟩
          rw [this] at hg; cases hg
      obtain ⟨x,l,ht⟩:=ht
      go_wp2_with (go_at_call 110; fail)
      refine (Tn d _ ?_ hl.1 hl.2 _).mono ?_
      . rfl
      rintro e w2 ⟨rfl,hp⟩;rw [ht]
      go_wp2
      go_ret2
      exact ⟨by rw [hn]; rfl,hp⟩
  . have hn:K5 s.data.toList=(0,false):=by
      unfold K5 yq;rw [if_neg];simp only [aAa,decide_eq_true_eq,hd];exact λ h=>hl h.1
    refine (Qn _ _ _ false (by rw [Bool.and_eq_false_iff,decide_eq_false_iff_not,decide_eq_false_iff_not]; omega) _).mono ?_;rintro e w' ⟨rfl,rfl⟩
    go_wp2
    go_ret2
    exact ⟨by rw [hn]; rfl,rfl,.refl _,rfl,aAj _,λ _ _ _=>rfl⟩
def Ph:p7:={ ps:=[.v .str],rs:=[d9,.bool],pre:=λ x=>List.length (α:=UInt8) x.1<=4294967280,fn:=λ x=>((K5 x.1).1,(K5 x.1).2,()),out:=λ _=>() }
theorem Xv (s:yY):r9 .i64 (K5 s).1:=by
  unfold K5
  split
  . rename_i h;obtain ⟨-,n,e,h1,h2⟩:=Su h;rw [e];exact ⟨by show -9223372036854775808<=n; omega,by show n<=9223372036854775807; omega⟩
  . exact ⟨by decide,by decide⟩
theorem b5a:Ph.Valid Tryz.prog 91:=by
  refine ⟨⟨_,Tryz.func91,by kernel_rfl,by kernel_rfl⟩,?_,λ h=>by cases h⟩;rintro w S vs ⟨(s:yY),⟨⟩⟩ L hS dI (hlen:s.length<=4294967280) ⟨v1,us,L1,L2,rfl,rfl,⟨rfl,cs,rfl,r1⟩,rfl,rfl⟩ - aJ hL;obtain ⟨-,rfl,hs⟩:=r1;refine (b58 ⟨s.toArray⟩ (by simpa [ByteArray.size] using hlen) w).mono ?_;rintro e w' ⟨rfl,hp⟩;refine ⟨[.int .i64 (K5 s).1,.bool (K5 s).2],[],[],S,rfl,hp,λ _ h=>h,λ b h=>.inl h,⟨_,_,[],[],[.int .i64 (K5 s).1],rfl,rfl,rfl,⟨rfl,rfl,Xv s⟩,_,_,[],[],[.bool (K5 s).2],rfl,rfl,rfl,⟨rfl,rfl⟩,rfl,rfl⟩,⟨_,[],rfl,rfl,rfl⟩,by simp,by simp⟩
end Go.Proofs.YtijlnmgondibnaaGreatDoor
set_option linter.unusedVariables false
namespace Go.Proofs.YtijlnmgondibnaaGreatDoor
open Go.Ex
set_option maxRecDepth 100000
def c1k:Go.Shelf.Ren:=⟨λ|145=>84|217=>136|219=>113|220=>101|224=>138|225=>137|266=>153|267=>139|314=>154|n=>n,λ|3=>3|4=>4|5=>5|9=>9|46=>119|51=>117|59=>137|146=>201|n=>n,λ|1=>1|n=>n⟩
theorem WV:Go.Proofs.Lays.n145 Tryz.prog c1k:={
  mixed:=by kernel_rfl,
  f145:=Tryz.func84.trans (congrArg some (by kernel_rfl)),
  f217:=Tryz.func136.trans (congrArg some (by kernel_rfl)),
  f219:=Tryz.func113.trans (congrArg some (by kernel_rfl)),
  f220:=Tryz.func101.trans (congrArg some (by kernel_rfl)),
  f224:=Tryz.func138.trans (congrArg some (by kernel_rfl)),
  f225:=Tryz.func137.trans (congrArg some (by kernel_rfl)),
  f266:=Tryz.func153.trans (congrArg some (by kernel_rfl)),
  f267:=Tryz.func139.trans (congrArg some (by kernel_rfl)),
  f314:=Tryz.func154.trans (congrArg some (by kernel_rfl)),
  t3:=Tryz.underlying3,
  a3:=Tryz.isAgg3,
  z3:=Tryz.sizeOf3,
  v3:=Tryz.zeroValue3,
  t4:=Tryz.underlying4,
  a4:=Tryz.isAgg4,
  z4:=Tryz.sizeOf4,
  v4:=Tryz.zeroValue4,
  t5:=Tryz.underlying5,
  a5:=Tryz.isAgg5,
  z5:=Tryz.sizeOf5,
  v5:=Tryz.zeroValue5,
  t9:=Tryz.underlying9,
  a9:=Tryz.isAgg9,
  z9:=Tryz.sizeOf9,
  v9:=Tryz.zeroValue9,
  t46:=Tryz.underlying119,
  a46:=Tryz.isAgg119,
  z46:=Tryz.sizeOf119,
  v46:=Tryz.zeroValue119,
  t51:=Tryz.underlying117,
  a51:=Tryz.isAgg117,
  z51:=Tryz.sizeOf117,
  v51:=Tryz.zeroValue117,
  t59:=Tryz.underlying137,
  a59:=Tryz.isAgg137,
  z59:=Tryz.sizeOf137,
  v59:=Tryz.zeroValue137,
  t146:=Tryz.underlying201,
  a146:=Tryz.isAgg201,
  z146:=Tryz.sizeOf201,
  v146:=Tryz.zeroValue201,
  g1:=by kernel_rfl }
def Io:p7:={ ps:=[.v d9],rs:=[.str],pre:=λ _=>True,fn:=λ x=>(D5 x.1,()),out:=λ _=>() }
theorem Uk:Io.Valid Tryz.prog 50:=by
  refine ⟨⟨_,Tryz.func50,by kernel_rfl,by kernel_rfl⟩,?_,λ h=>by cases h⟩;rintro w S vs ⟨(n:Int),⟨⟩⟩ L hS dI - ⟨v1,us,L1,L2,rfl,rfl,⟨rfl,cs,rfl,r1⟩,rfl,rfl⟩ - aJ hL;obtain ⟨-,rfl,(hn:r9 .i64 n)⟩:=r1;obtain ⟨h0,h1⟩:=F6.1 hn;obtain ⟨-,cs,h2,h3⟩:=dI _ (aBp ..) 0 (by kernel_rfl);refine (Any.strconv_Itoa Xn n h0 h1 w (h2.trans (congrArg some h3))).mono ?_;rintro e w' ⟨rfl,k,os,rfl⟩;refine ⟨[.string ⟨(Lib.itoa n).toArray⟩],[],[],S,rfl,c3U,λ _ h=>h,λ b h=>.inl h,⟨_,[],[],[],[.string ⟨(Lib.itoa n).toArray⟩],rfl,rfl,rfl,⟨rfl,?_,?_⟩,rfl,rfl⟩,⟨_,[],rfl,rfl,rfl⟩,by simp,by simp⟩
  . rw [Xu h0 h1]; rfl
  . have:=CM h0 h1;show (D5 n).length<=maxLen;exact aAv this (by decide)
def GF:p7:={ ps:=[.v .str],rs:=[d9,.fn 4000000],pre:=λ x=>List.length (α:=UInt8) x.1<=18/\(Lib.atoi x.1).isSome=true,fn:=λ x=>((Lib.atoi x.1).getD 0,false,()),out:=λ _=>() }
theorem decFrom_lt:∀ {l:yY} {a n:Nat},Lib.decFrom a l=some n->n<(a+1)*10^l.length
  | [],a,n,h=>by
    simp only [Lib.decFrom,aAc] at h;subst h;simp
  | b::l,a,n,h=>by
    rw [Lib.decFrom] at h;cases e:Lib.digitVal b with
    | none=>rw [e] at h; cases h
    | some d =>
      rw [e] at h;have h1:=decFrom_lt h;have hd:d<=9:=by
        unfold Lib.digitVal at e;split at e
        . simp only [aAc] at e; omega
        . cases e
      refine aAr h1 ?_;rw [aAh,aFo,Nat.mul_comm (10^l.length) 10,<- Nat.mul_assoc];exact aAm _ (by omega)
theorem KC {l:yY} {n:Nat} (h:Lib.decNat l=some n) (hl:l.length<=18):n<1000000000000000000:=by
  unfold Lib.decNat at h;split at h
  . cases h
  . have h1:=decFrom_lt h;have h2:10^l.length<=10^18:=aEr (by decide) hl;have h3:(10:Nat)^18=1000000000000000000:=by decide
    omega
theorem Wq {l:yY} {n:Int} (h:Lib.atoi l=some n) (hl:l.length<=18):-1000000000000000000<n/\n<1000000000000000000:=by
  cases l with
  | nil=>cases h
  | cons b r =>
    rw [Lib.atoi] at h;simp only [aAh] at hl;split at h
    . cases e:Lib.decNat r with
      | none=>rw [e] at h; cases h
      | some m=>rw [e] at h; simp only [aBe,aAc] at h; have:=KC e (by omega); omega
    . split at h
      . cases e:Lib.decNat r with
        | none=>rw [e] at h; cases h
        | some m=>rw [e] at h; simp only [aBe,aAc] at h; have:=KC e (by omega); omega
      . cases e:Lib.decNat (b::r) with
        | none=>rw [e] at h; cases h
        | some m=>rw [e] at h; simp only [aBe,aAc] at h; have:=KC e (by simp only [aAh]; omega); omega
theorem b83:GF.Valid Tryz.prog 85:=by
  refine ⟨⟨_,Tryz.func85,by kernel_rfl,by kernel_rfl⟩,?_,λ h=>by cases h⟩;rintro w S vs ⟨(s:yY),⟨⟩⟩ L hS dI ⟨(h1:s.length<=18),(h2:(Lib.atoi s).isSome=true)⟩ ⟨v1,us,L1,L2,rfl,rfl,⟨rfl,cs,rfl,r1⟩,rfl,rfl⟩ - aJ hL;obtain ⟨-,rfl,hs⟩:=r1;obtain ⟨n,hn⟩:=Option.isSome_iff_exists.1 h2;refine (Any.strconv_Atoi OK ⟨s.toArray⟩ n (by rw [bsz]; exact h1) hn w).mono ?_;rintro e w' ⟨rfl,t,rfl⟩;have hf:GF.fn (s,())=(n,false,()):=by
    show ((Lib.atoi s).getD 0,false,())=(n,false,());rw [hn]; rfl
  rw [hf];have hr:=Wq hn h1;refine ⟨[.int .i64 n,.nilIface],[],[],S,rfl,⟨rfl,⟨rfl,aGo _⟩,rfl,by rw [Lib.bytesWorld_size]; omega,λ j hj _=>Lib.bytesWorld_at_old w _ t j hj⟩,λ _ h=>h,λ b h=>.inl h,⟨_,_,[],[],[.int .i64 n],rfl,rfl,rfl,⟨rfl,rfl,?_⟩,_,_,[],[],[.nilIface],rfl,rfl,rfl,⟨rfl,rfl⟩,rfl,rfl⟩,⟨_,[],rfl,rfl,rfl⟩,by simp,by simp⟩;exact ⟨by show -9223372036854775808<=n; omega,by show n<=9223372036854775807; omega⟩
def Mk:p7:={ ps:=[.v .str,.v .str],rs:=[.str,.str,.bool],pre:=λ x=>List.length (α:=UInt8) x.1<=1000000/\Eq (α:=yY) x.2.1 [58],fn:=λ x=>((y6 x.1).1,(y6 x.1).2.1,(y6 x.1).2.2,()),out:=λ _=>() }
theorem c2i:Mk.Valid Tryz.prog 84:=by
  refine ⟨⟨_,Tryz.func84,by kernel_rfl,by kernel_rfl⟩,?_,λ h=>by cases h⟩;rintro w S vs ⟨(s:yY),(p:yY),⟨⟩⟩ L hS dI ⟨(h1:s.length<=1000000),(h2:p=[58])⟩ ⟨v1,us,L1,L2,rfl,rfl,⟨rfl,cs,rfl,r1⟩,v2,us2,L3,L4,rfl,rfl,⟨rfl,cs2,rfl,r2⟩,rfl,rfl⟩ - aJ hL;obtain ⟨-,rfl,hs⟩:=r1;obtain ⟨-,rfl,hp⟩:=r2;obtain ⟨-,cs,g2,m,g3⟩:=dI ("internal/bytealg.MaxLen",_) (aBd _ (aBp ..)) 1 (by kernel_rfl)
  have hm:w.cell? ⟨1,0,none⟩=some (.int .i64 m):=by
    have:=World.var?_cell (show Tryz.prog.globalNamed "internal/bytealg.MaxLen"=some 1 by kernel_rfl) g2 0
    rw [this,g3]
  refine (Any.strings_Cut WV ⟨s.toArray⟩ ⟨p.toArray⟩ m w (by rw [bsz]; omega) hm).mono ?_;rintro e w' ⟨rfl,k,rfl⟩;have hc:Lib.cut (ByteArray.mk s.toArray).data.toList (ByteArray.mk p.toArray).data.toList=y6 s:=by
    show Lib.cut s p=y6 s;rw [h2,Pj]
  rw [hc];have hl:=Cf s;have hD:D0 [] w (w.drewN k):=⟨rfl,⟨rfl,aDn _ _⟩,rfl,aAj _,λ _ _ _=>rfl⟩;have jv:maxLen=9223372036854775807:=by decide
  refine ⟨[.string ⟨(y6 s).1.toArray⟩,.string ⟨(y6 s).2.1.toArray⟩,.bool (y6 s).2.2],[],[],S,rfl,hD,λ _ h=>h,λ b h=>.inl h,⟨_,_,[],[],[_],rfl,rfl,rfl,⟨rfl,rfl,?_⟩,_,_,[],[],[_],rfl,rfl,rfl,⟨rfl,rfl,?_⟩,_,_,[],[],[_],rfl,rfl,rfl,⟨rfl,rfl⟩,rfl,rfl⟩,⟨_,_,rfl,⟨_,[],rfl,rfl,rfl⟩⟩,by simp,by simp⟩
  . show (y6 s).1.length<=maxLen; omega
  . show (y6 s).2.1.length<=maxLen; omega
end Go.Proofs.YtijlnmgondibnaaGreatDoor
namespace Go.Proofs.YtijlnmgondibnaaGreatDoor
open Go.Ex
set_option maxRecDepth 100000
attribute [local irreducible] Go.Ex.exec
theorem Ks {x:yY} {w:f9}:∀ p,(H8 x w p).2.1=w.2.1/\(H8 x w p).1=w.1/\(H8 x w p).2.2.1=w.2.2.1
  | 0=>⟨rfl,rfl,rfl⟩
  | p+1=>by
    obtain ⟨h1,h2,h3⟩:=Ks (x:=x) (w:=w) p;rw [H8]
    split
    . obtain ⟨g1,g2,g3⟩:=EZ (w:=H8 x w p) (k:=2) (f:=M9 (H8 x w p)) (t:=p) (s:=((H8 x w p).2.2.1.length:Int) - 1) (x:=x);exact ⟨g1.trans h1,g2.trans h2,g3.trans h3⟩
    . exact ⟨h1,h2,h3⟩
theorem c4C {x:yY} {w:f9} {p:Nat} (h:s8 (H8 x w p) p=true):H8 x w (p+1)=N1 (H8 x w p) 2 (M9 (H8 x w p)) p (((H8 x w p).2.2.1.length:Int) - 1) x:=by
  rw [H8]; exact if_pos h
theorem c4D {x:yY} {w:f9} {p:Nat} (h:s8 (H8 x w p) p=false):H8 x w (p+1)=H8 x w p:=by
  rw [H8]; exact if_neg (by rw [h]; decide)
theorem KA {f first:Int} {l:List yY} {w:f9}:∀ i,(J6 f first l w i).2.1=w.2.1/\(J6 f first l w i).1=w.1/\(J6 f first l w i).2.2.1.length=w.2.2.1.length+i
  | 0=>⟨rfl,rfl,rfl⟩
  | i+1=>by
    obtain ⟨h1,h2,h3⟩:=KA (f:=f) (first:=first) (l:=l) (w:=w) i;rw [J6];obtain ⟨g1,g2,g3⟩:=Ks (x:=J5 f (first+i) (l.getD i [])) (w:=Aa (J6 f first l w i) (J5 f (first+i) (l.getD i []))) (J6 f first l w i).2.1.length;refine ⟨g1.trans h1,g2.trans h2,?_⟩;rw [g3];show ((J6 f first l w i).2.2.1++[_]).length=_;rw [aAe,h3]; rfl
def Iq:p7:={ ps:=[.rw u7,.v zI],rs:=[],pre:=λ x=>List.length (α:=n9) (x.1:f9).2.1<=6/\(¬ known x.1 x.2.1.2.1≠0)/\List.length (α:=yY) (x.1:f9).2.2.1<=1000000000000,fn:=λ _=>(),out:=λ x=>(Y5 x.1 x.2.1,()) }
noncomputable def zm:Env:={ P:=Tryz.prog,tt:=tt,C9:=[(83,Hw),(50,Io),(47,yU),(43,zY),(44,zW)],res:=[],rs:=[],ps:=[PK.rw u7,PK.v (Ty.pair d9 (Ty.pair d9 (Ty.pair d9 (Ty.pair d9 (Ty.pair d9 (Ty.pair Y9 (Ty.pair Ty.str Ty.unit)))))))],B8:=[(7,[(0,none),(3,none),(8,none),(45,some (Ty.d0 true Ty.str)),(46,none),(47,none)]),(12,[(0,none),(3,none),(8,none),(11,none),(45,some (Ty.d0 true Ty.str)),(46,none),(47,none),(78,none),(79,none)])],nt:=99 }
theorem Fw:w7 zm:=x6 r7 ⟨TC,Uk,CG,FJ,Fo,trivial⟩
theorem Fj:C0 zm Tryz.f66:=⟨rfl,rfl⟩
theorem c48 (ai:Int) (af:Int) (ab:List n9) (ae:List yY) (aa:List yY) (bA:Int) (aG:Int) (aF:Int) (aX:Int) (aI:Int) (aT:List Int) (aD:yY):exec zm 1000 [.code (d8 Tryz.prog 66)] (s5 Iq.ps ((((ai,af,()),ab,ae,aa,()),(bA,aG,aF,aX,aI,aT,aD,()),()))) =
  .f8 ((0:Int)<=aG/\aG<(↑(List.length ab):Int)) (.f8 (True) (cond (decide (Prod.fst (D9 (List.getD ab (Int.toNat aG) (false,[],((0:Int),[],()),((0:Int),[],()),((0:Int),[],()),())).2.2.2.2.1 (aI,aD,())).2.2≠(0:Int))) (.ret ((((ai,af,()),ab,ae,aa,()),()))) (.ctL (g8 (d8 Tryz.prog 66) 7) (St.mk [(0,AV.ptr 2000000 []),(3,AV.ptr 3 []),(8,AV.val d9 (List.getD ab (Int.toNat aG) (false,[],((0:Int),[],()),((0:Int),[],()),((0:Int),[],()),())).2.2.2.2.1.1),(45,AV.at_ 1000045 []),(46,AV.val d9 (↑(List.length (D9 (List.getD ab (Int.toNat aG) (false,[],((0:Int),[],()),((0:Int),[],()),((0:Int),[],()),())).2.2.2.2.1 (aI,aD,())).2.1):Int)),(47,AV.val d9 (0:Int))] [(3,i6.var (Ty.pair d9 (Ty.pair d9 (Ty.pair d9 (Ty.pair d9 (Ty.pair d9 (Ty.pair Y9 (Ty.pair Ty.str Ty.unit))))))) (bA,aG,aF,aX,aI,aT,aD,())),(1000045,i6.own (Ty.d0 true Ty.str) (D9 (List.getD ab (Int.toNat aG) (false,[],((0:Int),[],()),((0:Int),[],()),((0:Int),[],()),())).2.2.2.2.1 (aI,aD,())).2.1),(2000000,i6.var u7 ((ai,af,()),List.set ab (Int.toNat aG) (Prod.fst (List.getD ab (Int.toNat aG) (false,[],((0:Int),[],()),((0:Int),[],()),((0:Int),[],()),())),Prod.fst (List.getD ab (Int.toNat aG) (false,[],((0:Int),[],()),((0:Int),[],()),((0:Int),[],()),())).2,Prod.fst (List.getD ab (Int.toNat aG) (false,[],((0:Int),[],()),((0:Int),[],()),((0:Int),[],()),())).2.2,Prod.fst (List.getD ab (Int.toNat aG) (false,[],((0:Int),[],()),((0:Int),[],()),((0:Int),[],()),())).2.2.2,Prod.fst (D9 (List.getD ab (Int.toNat aG) (false,[],((0:Int),[],()),((0:Int),[],()),((0:Int),[],()),())).2.2.2.2.1 (aI,aD,())),Prod.snd (List.getD ab (Int.toNat aG) (false,[],((0:Int),[],()),((0:Int),[],()),((0:Int),[],()),())).2.2.2.2),ae,aa,()))])))):=by kernel_rfl
def Lm (v8:Int) (v46:Int) (vg:Int) (cz:Int) (aV:Int) (aR:Int) (aL:Int) (aE:Int) (aC:List Int) (au:yY) (bE:List yY) (aB:Int) (ao:Int) (aj:List n9) (ak:List yY) (ah:List yY):St:=St.mk [(0,AV.ptr 2000000 []),(3,AV.ptr 3 []),(8,AV.val d9 v8),(45,AV.at_ 1000045 []),(46,AV.val d9 v46),(47,AV.val d9 vg)] [(3,i6.var (Ty.pair d9 (Ty.pair d9 (Ty.pair d9 (Ty.pair d9 (Ty.pair d9 (Ty.pair Y9 (Ty.pair Ty.str Ty.unit))))))) (cz,aV,aR,aL,aE,aC,au,())),(1000045,i6.own (Ty.d0 true Ty.str) bE),(2000000,i6.var u7 ((aB,ao,()),aj,ak,ah,()))]
theorem c3c (v8:Int) (v46:Int) (vg:Int) (cz:Int) (aV:Int) (aR:Int) (aL:Int) (aE:Int) (aC:List Int) (au:yY) (bE:List yY) (aB:Int) (ao:Int) (aj:List n9) (ak:List yY) (ah:List yY):exec zm 1000 (.code (g8 (d8 Tryz.prog 66) 7).1::.inLoop (g8 (d8 Tryz.prog 66) 7).1::(g8 (d8 Tryz.prog 66) 7).2) (Lm v8 v46 vg cz aV aR aL aE aC au bE aB ao aj ak ah) =
  cond (decide (vg<v46)) (.f8 ((0:Int)<=vg/\vg<(↑(List.length bE):Int)) (.f8 (True) (.f8 (List.length (D5 aV)+List.length (Array.toList (ByteArray.data (ByteArray.mk #[58])))<=Go.maxLen) (.f8 (r9 IntKind.i64 (v8+vg)) (.f8 (True) (.f8 (List.length (D5 aV++Array.toList (ByteArray.data (ByteArray.mk #[58])))+List.length (D5 (v8+vg))<=Go.maxLen) (.f8 (List.length (D5 aV++Array.toList (ByteArray.data (ByteArray.mk #[58]))++D5 (v8+vg))+List.length (Array.toList (ByteArray.data (ByteArray.mk #[58])))<=Go.maxLen) (.f8 (List.length (D5 aV++Array.toList (ByteArray.data (ByteArray.mk #[58]))++D5 (v8+vg)++Array.toList (ByteArray.data (ByteArray.mk #[58])))+List.length (List.getD bE (Int.toNat vg) [])<=Go.maxLen) (.f8 (True/\True/\[]++[Step.l8 2]=[]++[Step.l8 2]/\List.length ak+List.length (List.set [[]] (Int.toNat (↑0:Int)) (D5 aV++Array.toList (ByteArray.data (ByteArray.mk #[58]))++D5 (v8+vg)++Array.toList (ByteArray.data (ByteArray.mk #[58]))++List.getD bE (Int.toNat vg) []))<=140737488355328/\(List.length ak+List.length (List.set [[]] (Int.toNat (↑0:Int)) (D5 aV++Array.toList (ByteArray.data (ByteArray.mk #[58]))++D5 (v8+vg)++Array.toList (ByteArray.data (ByteArray.mk #[58]))++List.getD bE (Int.toNat vg) [])))*Ty.wb Ty.str<=140737488355328) (.ctL (g8 (d8 Tryz.prog 66) 12) (St.mk [(0,AV.ptr 2000000 []),(3,AV.ptr 3 []),(8,AV.val d9 v8),(11,AV.val Ty.str (D5 aV++Array.toList (ByteArray.data (ByteArray.mk #[58]))++D5 (v8+vg)++Array.toList (ByteArray.data (ByteArray.mk #[58]))++List.getD bE (Int.toNat vg) [])),(45,AV.at_ 1000045 []),(46,AV.val d9 v46),(47,AV.val d9 vg),(78,AV.val d9 (↑(List.length aj):Int)),(79,AV.val d9 (0:Int))] [(3,i6.var (Ty.pair d9 (Ty.pair d9 (Ty.pair d9 (Ty.pair d9 (Ty.pair d9 (Ty.pair Y9 (Ty.pair Ty.str Ty.unit))))))) (cz,aV,aR,aL,aE,aC,au,())),(1000045,i6.own (Ty.d0 true Ty.str) bE),(2000000,i6.var u7 ((aB,ao,()),aj,ak++List.set [[]] (Int.toNat (↑0:Int)) (D5 aV++Array.toList (ByteArray.data (ByteArray.mk #[58]))++D5 (v8+vg)++Array.toList (ByteArray.data (ByteArray.mk #[58]))++List.getD bE (Int.toNat vg) []),ah,()))]))))))))))) (.ret ((((aB,ao,()),aj,ak,ah,()),()))):=by kernel_rfl
def LM (v8:Int) (v11:yY) (v46:Int) (vg:Int) (zF:Int) (xg:Int) (cz:Int) (aV:Int) (aR:Int) (aL:Int) (aE:Int) (aC:List Int) (au:yY) (bE:List yY) (aB:Int) (ao:Int) (aj:List n9) (ak:List yY) (ah:List yY):St:=St.mk [(0,AV.ptr 2000000 []),(3,AV.ptr 3 []),(8,AV.val d9 v8),(11,AV.val Ty.str v11),(45,AV.at_ 1000045 []),(46,AV.val d9 v46),(47,AV.val d9 vg),(78,AV.val d9 zF),(79,AV.val d9 xg)] [(3,i6.var (Ty.pair d9 (Ty.pair d9 (Ty.pair d9 (Ty.pair d9 (Ty.pair d9 (Ty.pair Y9 (Ty.pair Ty.str Ty.unit))))))) (cz,aV,aR,aL,aE,aC,au,())),(1000045,i6.own (Ty.d0 true Ty.str) bE),(2000000,i6.var u7 ((aB,ao,()),aj,ak,ah,()))]
theorem b9f (v8:Int) (v11:yY) (v46:Int) (vg:Int) (zF:Int) (xg:Int) (cz:Int) (aV:Int) (aR:Int) (aL:Int) (aE:Int) (aC:List Int) (au:yY) (bE:List yY) (aB:Int) (ao:Int) (aj:List n9) (ak:List yY) (ah:List yY):exec zm 1000 (.code (g8 (d8 Tryz.prog 66) 12).1::.inLoop (g8 (d8 Tryz.prog 66) 12).1::(g8 (d8 Tryz.prog 66) 12).2) (LM v8 v11 v46 vg zF xg cz aV aR aL aE aC au bE aB ao aj ak ah) =
  cond (decide (xg<zF)) (.f8 (List.length aj<=6) (cond (s8 ((aB,ao,()),aj,ak,ah,()) xg) (.f8 (True) (.f8 (r9 IntKind.i64 ((↑(List.length ak):Int) - (1:Int))) (.f8 (True) (.f8 (r9 IntKind.i64 (xg+(1:Int))) (.ctL (g8 (d8 Tryz.prog 66) 12) (St.mk [(0,AV.ptr 2000000 []),(3,AV.ptr 3 []),(8,AV.val d9 v8),(11,AV.val Ty.str v11),(45,AV.at_ 1000045 []),(46,AV.val d9 v46),(47,AV.val d9 vg),(78,AV.val d9 zF),(79,AV.val d9 (xg+(1:Int)))] [(3,i6.var (Ty.pair d9 (Ty.pair d9 (Ty.pair d9 (Ty.pair d9 (Ty.pair d9 (Ty.pair Y9 (Ty.pair Ty.str Ty.unit))))))) (cz,aV,aR,aL,aE,aC,au,())),(1000045,i6.own (Ty.d0 true Ty.str) bE),(2000000,i6.var u7 (N1 ((aB,ao,()),aj,ak,ah,()) (2:Int) (M9 ((aB,ao,()),aj,ak,ah,())) xg ((↑(List.length ak):Int) - (1:Int)) v11))])))))) (.f8 (r9 IntKind.i64 (xg+(1:Int))) (.ctL (g8 (d8 Tryz.prog 66) 12) (St.mk [(0,AV.ptr 2000000 []),(3,AV.ptr 3 []),(8,AV.val d9 v8),(11,AV.val Ty.str v11),(45,AV.at_ 1000045 []),(46,AV.val d9 v46),(47,AV.val d9 vg),(78,AV.val d9 zF),(79,AV.val d9 (xg+(1:Int)))] [(3,i6.var (Ty.pair d9 (Ty.pair d9 (Ty.pair d9 (Ty.pair d9 (Ty.pair d9 (Ty.pair Y9 (Ty.pair Ty.str Ty.unit))))))) (cz,aV,aR,aL,aE,aC,au,())),(1000045,i6.own (Ty.d0 true Ty.str) bE),(2000000,i6.var u7 ((aB,ao,()),aj,ak,ah,()))]))))) (.f8 (r9 IntKind.i64 (vg+(1:Int))) (.ctL (g8 (d8 Tryz.prog 66) 7) (St.mk [(0,AV.ptr 2000000 []),(3,AV.ptr 3 []),(8,AV.val d9 v8),(45,AV.at_ 1000045 []),(46,AV.val d9 v46),(47,AV.val d9 (vg+(1:Int)))] [(3,i6.var (Ty.pair d9 (Ty.pair d9 (Ty.pair d9 (Ty.pair d9 (Ty.pair d9 (Ty.pair Y9 (Ty.pair Ty.str Ty.unit))))))) (cz,aV,aR,aL,aE,aC,au,())),(1000045,i6.own (Ty.d0 true Ty.str) bE),(2000000,i6.var u7 ((aB,ao,()),aj,ak,ah,()))]))):=by kernel_rfl
attribute [local irreducible] Y5 N1 D9 D5 J6 H8 in
theorem b6B:Iq.Valid Tryz.prog 66:=by
  refine p7.n8 Fw rfl rfl Tryz.func66 (c:=d8 Tryz.prog 66) rfl rfl Fj rfl ?_;rintro ⟨⟨⟨(v0:Int),(v1:Int),⟨⟩⟩,(al:List n9),(od:List yY),(wy:List yY),⟨⟩⟩,⟨(nk:Int),(nf:Int),(nt:Int),(nv:Int),(ns:Int),(na:List Int),(nx:yY),⟨⟩⟩,⟨⟩⟩ ⟨(hp:al.length<=6),(hk:¬ known ((v0,v1,()),al,od,wy,()) nf≠0),(ho:od.length<=1000000000000)⟩ ⟨-,⟨⟨-,(nY:r9 .i64 nf),-⟩,-⟩⟩;refine j6 (n:=1000) Fw Fj ?_;refine i7 (c48 v0 v1 al od wy nk nf nt nv ns na nx) ?_;simp only [j7,Tree.holds,sL];have key:∀ r:f9,Y5 ((v0,v1,()),al,od,wy,()) (nk,nf,nt,nv,ns,na,nx,())=r->(((r,()):f9×Unit)=(Y5 ((v0,v1,()),al,od,wy,()) (nk,nf,nt,nv,ns,na,nx,()),())):=by rintro r rfl; rfl
  have e1:=λ a=>(Y5.eq_1 ((v0,v1,()),al,od,wy,()) (nk,nf,nt,nv,ns,na,nx,())).trans (if_pos a);have e2:=λ a=>(Y5.eq_1 ((v0,v1,()),al,od,wy,()) (nk,nf,nt,nv,ns,na,nx,())).trans (if_neg a);refine ⟨EN hk,λ _=>⟨λ a=>key _ (e1 a),λ a=>?_⟩⟩;have e3:=e2 a;have bD:=zx (aBq.1 a);obtain ⟨w,hw⟩:∃ w:f9,w=a12 ((v0,v1,()),al,od,wy,()) nf (yz (P8 ((v0,v1,()),al,od,wy,()) nf) (Z7 ((v0,v1,()),al,od,wy,()) (nk,nf,nt,nv,ns,na,nx,())).1):=⟨_,rfl⟩;obtain ⟨first,hf⟩:∃ first,first=(P8 ((v0,v1,()),al,od,wy,()) nf).2.2.2.2.1.1:=⟨_,rfl⟩
  obtain ⟨l,hl⟩:∃ l,l=(Z7 ((v0,v1,()),al,od,wy,()) (nk,nf,nt,nv,ns,na,nx,())).2.1:=⟨_,rfl⟩;have rX:w.2.1.length=al.length:=by rw [hw]; exact aCa ..
  have qT:w.2.2.1=od:=by rw [hw]; rfl
  have h0:0<=first/\first<=16777215:=by rw [hf]; exact bD.2.2.2.1
  have kb:l.length<=16:=by rw [hl]; exact bD.2.2.1
  have bf:∀ t∈l,E7 t=false:=by rw [hl]; exact λ t ht=>(bD.1 t ht).2
  suffices go:Go.Ex.Reach zm Tryz.f66 () (J6 nf first l w l.length,()) (.code (g8 (d8 Tryz.prog 66) 7).1::.inLoop (g8 (d8 Tryz.prog 66) 7).1::(g8 (d8 Tryz.prog 66) 7).2) (Lm first (l.length:Int) ((0:Nat):Int) nk nf nt nv ns na nx l (J6 nf first l w 0).1.1 (J6 nf first l w 0).1.2.1 (J6 nf first l w 0).2.1 (J6 nf first l w 0).2.2.1 (J6 nf first l w 0).2.2.2.1) by
    subst hw; subst hf; subst hl;rw [e3];rw [J6] at go;exact go
  refine Reach.M7 Fw Fj (λ i:Nat=>Lm first (l.length:Int) (i:Int) nk nf nt nv ns na nx l (J6 nf first l w i).1.1 (J6 nf first l w i).1.2.1 (J6 nf first l w i).2.1 (J6 nf first l w i).2.2.1 (J6 nf first l w i).2.2.2.1) (λ i=>i<=l.length)
    (λ i=>l.length - i) 1000 (λ _=>⟨s9 rfl,s9 rfl⟩) ?_ 0 (aAz _)
  rintro i k1 - ih;have k1:i<=l.length:=k1;refine i7 (c3c ..) ?_;have e4:((i:Nat):Int)+1=((i+1:Nat):Int):=by omega
  obtain ⟨t1,t2,t3⟩:=KA (f:=nf) (first:=first) (l:=l) (w:=w) i;rw [qT] at t3;have mI:(D5 nf).length<=20:=CM (F6.1 nY).1 (F6.1 nY).2;have sJ:(D5 (first+i)).length<=20:=CM (by omega) (by omega);have dI:i<l.length->(l.getD i []).length<=200:=λ h=>KI (bf _ (by rw [aAb,aAf h]; exact aCp _));have jv:maxLen=9223372036854775807:=by decide
  have iu:Ty.wb .str=16:=rfl;simp only [j7,Tree.holds,e4,sL];refine ⟨λ c=>⟨by omega,λ _=>⟨?_,λ _=>⟨?_,λ _=>⟨?_,λ _=>⟨?_,λ _=>⟨?_,λ _=>⟨?_,λ _=>?_⟩⟩⟩⟩⟩⟩⟩,λ c=>?_⟩
  . simp only [aAh,aCh,jv]; omega
  . exact ⟨by omega,by omega⟩
  . simp only [aAe,aAh,aCh,jv]; omega
  . simp only [aAe,aAh,aCh,jv]; omega
  . have:=dI (by omega);simp only [aAe,aAh,aCh,jv]; omega
  . rw [iu,t3]; omega
  . obtain ⟨x,hx⟩:∃ x,x=J5 nf (first+i) (l.getD i []):=⟨_,rfl⟩;obtain ⟨u,hu⟩:∃ u,u=Aa (J6 nf first l w i) x:=⟨_,rfl⟩;have qY:u.2.1=(J6 nf first l w i).2.1:=by rw [hu]; rfl
    suffices go:Go.Ex.Reach zm Tryz.f66 () (J6 nf first l w l.length,()) (.code (g8 (d8 Tryz.prog 66) 12).1::.inLoop (g8 (d8 Tryz.prog 66) 12).1::(g8 (d8 Tryz.prog 66) 12).2) (LM first x (l.length:Int) (i:Int) (u.2.1.length:Int) ((0:Nat):Int) nk nf nt nv ns na nx l (H8 x u 0).1.1 (H8 x u 0).1.2.1 (H8 x u 0).2.1 (H8 x u 0).2.2.1 (H8 x u 0).2.2.2.1) by
      subst hu; subst hx;rw [H8] at go;exact go
    refine Reach.M7 Fw Fj (λ p:Nat=>LM first x (l.length:Int) (i:Int) (u.2.1.length:Int) (p:Int) nk nf nt nv ns na nx l (H8 x u p).1.1 (H8 x u p).1.2.1 (H8 x u p).2.1 (H8 x u p).2.2.1 (H8 x u p).2.2.2.1) (λ p=>p<=u.2.1.length)
      (λ p=>u.2.1.length - p) 1000 (λ _=>⟨s9 rfl,s9 rfl⟩) ?_ 0 (aAz _)
    rintro p k2 - ih2;have k2:p<=u.2.1.length:=k2;refine i7 (b9f ..) ?_;have e5:((p:Nat):Int)+1=((p+1:Nat):Int):=by omega
    obtain ⟨c1,c2,c3⟩:=Ks (x:=x) (w:=u) p;have sj:u.2.1.length<=6:=by rw [qY,t1,rX]; exact hp
    have si:u.2.2.1.length=od.length+i+1:=by rw [hu]; show ((J6 nf first l w i).2.2.1++[x]).length=_; rw [aAe,t3]; rfl
    simp only [j7,Tree.holds,e5,sL];refine ⟨λ d=>⟨?_,λ _=>⟨λ e=>⟨?_,λ _=>⟨?_,λ _=>?_⟩⟩,λ e=>⟨?_,λ _=>?_⟩⟩⟩,λ d=>⟨?_,λ _=>?_⟩⟩
    . rw [c1]; exact sj
    . rw [c3,si]; exact ⟨by omega,by omega⟩
    . exact ⟨by omega,by omega⟩
    . have:=ih2 (p+1) (by show p+1<=u.2.1.length; omega) (by show u.2.1.length - (p+1)<u.2.1.length - p; omega);rw [c4C e] at this;exact this
    . exact ⟨by omega,by omega⟩
    . have:=ih2 (p+1) (by show p+1<=u.2.1.length; omega) (by show u.2.1.length - (p+1)<u.2.1.length - p; omega);rw [c4D e] at this;exact this
    . exact ⟨by omega,by omega⟩
    . obtain rfl:p=u.2.1.length:=by omega
      have:=ih (i+1) (by show i+1<=l.length; omega) (by show l.length - (i+1)<l.length - i; omega);rw [show J6 nf first l w (i+1)=H8 x u u.2.1.length by rw [J6,qY,hu,hx]] at this;exact this
  . obtain rfl:i=l.length:=by omega
    rfl
theorem KG {q:Int} {x:n9} {t:yY} (h:who t=q) (h2:(S7 x.2.2.1 (nth t+1)).2.1=0):wq q x t=(x.1,x.2.1++[(who t,xm t,())],(S7 x.2.2.1 (nth t+1)).1,x.2.2.2):=by
  rw [wq]; exact if_pos ⟨h,h2⟩
theorem EL {q:Int} {x:n9} {t:yY} (h:¬ (who t=q/\(S7 x.2.2.1 (nth t+1)).2.1=0)):wq q x t=(x.1,x.2.1++[(who t,xm t,())],x.2.2):=by
  rw [wq]; exact if_neg h
theorem Sv (q:Int) (x:n9) (t:yY):(wq q x t).2.1=x.2.1++[(who t,xm t,())]:=by
  rw [wq]; split<;>rfl
theorem LC {q:Int} {x:n9} {l:List yY}:∀ i,(K7 q x l i).2.1.length=x.2.1.length+i
  | 0=>rfl
  | i+1=>by rw [K7,Sv,aAe,LC i]; rfl
def Ia:p7:={ ps:=[.rw u7,.v zI],rs:=[],pre:=λ x=>(LE.le (α:=Int) 0 x.2.1.2.2.1/\LT.lt (α:=Int) x.2.1.2.2.1 (List.length (α:=n9) (x.1:f9).2.1))/\List.length (α:=D7) (P8 x.1 x.2.1.2.2.1).2.1<=1000000000000/\(∀ t∈(S5 x.1 x.2.1).2.1,okT t),fn:=λ _=>(),out:=λ x=>(vM x.1 x.2.1,()) }
noncomputable def BI:Env:={ P:=Tryz.prog,tt:=tt,C9:=[(83,Hw),(86,Nl),(84,Mk),(85,GF)],res:=[],rs:=[],ps:=[PK.rw u7,PK.v (Ty.pair d9 (Ty.pair d9 (Ty.pair d9 (Ty.pair d9 (Ty.pair d9 (Ty.pair Y9 (Ty.pair Ty.str Ty.unit)))))))],B8:=[(6,[(3,none),(4,none),(49,some (Ty.d0 true Ty.str)),(50,none),(51,none)])],nt:=110 }
theorem Kv:w7 BI:=x6 r7 ⟨TC,b6J,c2i,b83,trivial⟩
theorem Km:C0 BI Tryz.f67:=⟨rfl,rfl⟩
theorem Yy (ai:Int) (af:Int) (ab:List n9) (ae:List yY) (aa:List yY) (bA:Int) (aG:Int) (aF:Int) (aX:Int) (aI:Int) (aT:List Int) (aD:yY):exec BI 1000 [.code (d8 Tryz.prog 67)] (s5 Ia.ps ((((ai,af,()),ab,ae,aa,()),(bA,aG,aF,aX,aI,aT,aD,()),()))) =
  .f8 ((0:Int)<=aF/\aF<(↑(List.length ab):Int)) (.f8 (True) (cond (decide (Prod.fst (D9 (List.getD ab (Int.toNat aF) (false,[],((0:Int),[],()),((0:Int),[],()),((0:Int),[],()),())).2.2.2.1 (aI,aD,())).2.2≠(0:Int))) (.ret ((((ai,af,()),ab,ae,aa,()),()))) (.ctL (g8 (d8 Tryz.prog 67) 6) (St.mk [(3,AV.ptr 3 []),(4,AV.ptr 2000000 [Step.l8 1,Step.idx aF]),(49,AV.at_ 1000049 []),(50,AV.val d9 (↑(List.length (D9 (List.getD ab (Int.toNat aF) (false,[],((0:Int),[],()),((0:Int),[],()),((0:Int),[],()),())).2.2.2.1 (aI,aD,())).2.1):Int)),(51,AV.val d9 (0:Int))] [(3,i6.var (Ty.pair d9 (Ty.pair d9 (Ty.pair d9 (Ty.pair d9 (Ty.pair d9 (Ty.pair Y9 (Ty.pair Ty.str Ty.unit))))))) (bA,aG,aF,aX,aI,aT,aD,())),(1000049,i6.own (Ty.d0 true Ty.str) (D9 (List.getD ab (Int.toNat aF) (false,[],((0:Int),[],()),((0:Int),[],()),((0:Int),[],()),())).2.2.2.1 (aI,aD,())).2.1),(2000000,i6.var u7 ((ai,af,()),List.set ab (Int.toNat aF) (Prod.fst (List.getD ab (Int.toNat aF) (false,[],((0:Int),[],()),((0:Int),[],()),((0:Int),[],()),())),Prod.fst (List.getD ab (Int.toNat aF) (false,[],((0:Int),[],()),((0:Int),[],()),((0:Int),[],()),())).2,Prod.fst (List.getD ab (Int.toNat aF) (false,[],((0:Int),[],()),((0:Int),[],()),((0:Int),[],()),())).2.2,Prod.fst (D9 (List.getD ab (Int.toNat aF) (false,[],((0:Int),[],()),((0:Int),[],()),((0:Int),[],()),())).2.2.2.1 (aI,aD,())),Prod.snd (List.getD ab (Int.toNat aF) (false,[],((0:Int),[],()),((0:Int),[],()),((0:Int),[],()),())).2.2.2),ae,aa,()))])))):=by kernel_rfl
def Kx (vf:Int) (yQ:Int) (v51:Int) (cz:Int) (aV:Int) (aR:Int) (aL:Int) (aE:Int) (aC:List Int) (au:yY) (bd:List yY) (aB:Int) (ao:Int) (aj:List n9) (ak:List yY) (ah:List yY):St:=St.mk [(3,AV.ptr 3 []),(4,AV.ptr 2000000 [Step.l8 1,Step.idx vf]),(49,AV.at_ 1000049 []),(50,AV.val d9 yQ),(51,AV.val d9 v51)] [(3,i6.var (Ty.pair d9 (Ty.pair d9 (Ty.pair d9 (Ty.pair d9 (Ty.pair d9 (Ty.pair Y9 (Ty.pair Ty.str Ty.unit))))))) (cz,aV,aR,aL,aE,aC,au,())),(1000049,i6.own (Ty.d0 true Ty.str) bd),(2000000,i6.var u7 ((aB,ao,()),aj,ak,ah,()))]
theorem c47 (vf:Int) (yQ:Int) (v51:Int) (cz:Int) (aV:Int) (aR:Int) (aL:Int) (aE:Int) (aC:List Int) (au:yY) (bd:List yY) (aB:Int) (ao:Int) (aj:List n9) (ak:List yY) (ah:List yY):exec BI 1000 (.code (g8 (d8 Tryz.prog 67) 6).1::.inLoop (g8 (d8 Tryz.prog 67) 6).1::(g8 (d8 Tryz.prog 67) 6).2) (Kx vf yQ v51 cz aV aR aL aE aC au bd aB ao aj ak ah) =
  cond (decide (v51<yQ)) (.f8 ((0:Int)<=v51/\v51<(↑(List.length bd):Int)) (.f8 (List.length (List.getD bd (Int.toNat v51) [])<=1000000/\Array.toList (ByteArray.data (ByteArray.mk #[58]))=[(58:UInt8)]) (.f8 (List.length (y6 (List.getD bd (Int.toNat v51) [])).2.1<=1000000/\Array.toList (ByteArray.data (ByteArray.mk #[58]))=[(58:UInt8)]) (.f8 (List.length (y6 (List.getD bd (Int.toNat v51) [])).1<=18/\Option.isSome (Go.Lib.atoi (y6 (List.getD bd (Int.toNat v51) [])).1)=true) (.f8 (True/\True/\[Step.l8 1,Step.idx vf]++[Step.l8 1]=[Step.l8 1,Step.idx vf]++[Step.l8 1]/\List.length (List.getD aj (Int.toNat vf) (false,[],((0:Int),[],()),((0:Int),[],()),((0:Int),[],()),())).2.1+List.length (List.set [((0:Int),[],())] (Int.toNat (↑0:Int)) (Option.getD (Go.Lib.atoi (y6 (List.getD bd (Int.toNat v51) [])).1) (0:Int),Prod.fst (y6 (y6 (List.getD bd (Int.toNat v51) [])).2.1).2,()))<=140737488355328/\(List.length (List.getD aj (Int.toNat vf) (false,[],((0:Int),[],()),((0:Int),[],()),((0:Int),[],()),())).2.1+List.length (List.set [((0:Int),[],())] (Int.toNat (↑0:Int)) (Option.getD (Go.Lib.atoi (y6 (List.getD bd (Int.toNat v51) [])).1) (0:Int),Prod.fst (y6 (y6 (List.getD bd (Int.toNat v51) [])).2.1).2,())))*Ty.wb r8<=140737488355328) (cond (decide (Option.getD (Go.Lib.atoi (y6 (List.getD bd (Int.toNat v51) [])).1) (0:Int)=aR)) (.f8 (List.length (y6 (y6 (List.getD bd (Int.toNat v51) [])).2.1).1<=18/\Option.isSome (Go.Lib.atoi (y6 (y6 (List.getD bd (Int.toNat v51) [])).2.1).1)=true) (.f8 (r9 IntKind.i64 (Option.getD (Go.Lib.atoi (y6 (y6 (List.getD bd (Int.toNat v51) [])).2.1).1) (0:Int)+(1:Int))) (.f8 ((0:Int)<=Option.getD (Go.Lib.atoi (y6 (y6 (List.getD bd (Int.toNat v51) [])).2.1).1) (0:Int)+(1:Int)) (cond (decide (Prod.fst (S7 (List.getD (List.set aj (Int.toNat vf) (Prod.fst (List.getD aj (Int.toNat vf) (false,[],((0:Int),[],()),((0:Int),[],()),((0:Int),[],()),())),Prod.fst (List.getD aj (Int.toNat vf) (false,[],((0:Int),[],()),((0:Int),[],()),((0:Int),[],()),())).2++List.set [((0:Int),[],())] (Int.toNat (↑0:Int)) (Option.getD (Go.Lib.atoi (y6 (List.getD bd (Int.toNat v51) [])).1) (0:Int),Prod.fst (y6 (y6 (List.getD bd (Int.toNat v51) [])).2.1).2,()),Prod.snd (List.getD aj (Int.toNat vf) (false,[],((0:Int),[],()),((0:Int),[],()),((0:Int),[],()),())).2)) (Int.toNat vf) (false,[],((0:Int),[],()),((0:Int),[],()),((0:Int),[],()),())).2.2.1 (Option.getD (Go.Lib.atoi (y6 (y6 (List.getD bd (Int.toNat v51) [])).2.1).1) (0:Int)+(1:Int))).2=(0:Int))) (.f8 (r9 IntKind.i64 (v51+(1:Int))) (.ctL (g8 (d8 Tryz.prog 67) 6) (St.mk [(3,AV.ptr 3 []),(4,AV.ptr 2000000 [Step.l8 1,Step.idx vf]),(49,AV.at_ 1000049 []),(50,AV.val d9 yQ),(51,AV.val d9 (v51+(1:Int)))] [(3,i6.var (Ty.pair d9 (Ty.pair d9 (Ty.pair d9 (Ty.pair d9 (Ty.pair d9 (Ty.pair Y9 (Ty.pair Ty.str Ty.unit))))))) (cz,aV,aR,aL,aE,aC,au,())),(1000049,i6.own (Ty.d0 true Ty.str) bd),(2000000,i6.var u7 ((aB,ao,()),List.set (List.set aj (Int.toNat vf) (Prod.fst (List.getD aj (Int.toNat vf) (false,[],((0:Int),[],()),((0:Int),[],()),((0:Int),[],()),())),Prod.fst (List.getD aj (Int.toNat vf) (false,[],((0:Int),[],()),((0:Int),[],()),((0:Int),[],()),())).2++List.set [((0:Int),[],())] (Int.toNat (↑0:Int)) (Option.getD (Go.Lib.atoi (y6 (List.getD bd (Int.toNat v51) [])).1) (0:Int),Prod.fst (y6 (y6 (List.getD bd (Int.toNat v51) [])).2.1).2,()),Prod.snd (List.getD aj (Int.toNat vf) (false,[],((0:Int),[],()),((0:Int),[],()),((0:Int),[],()),())).2)) (Int.toNat vf) (Prod.fst (List.getD (List.set aj (Int.toNat vf) (Prod.fst (List.getD aj (Int.toNat vf) (false,[],((0:Int),[],()),((0:Int),[],()),((0:Int),[],()),())),Prod.fst (List.getD aj (Int.toNat vf) (false,[],((0:Int),[],()),((0:Int),[],()),((0:Int),[],()),())).2++List.set [((0:Int),[],())] (Int.toNat (↑0:Int)) (Option.getD (Go.Lib.atoi (y6 (List.getD bd (Int.toNat v51) [])).1) (0:Int),Prod.fst (y6 (y6 (List.getD bd (Int.toNat v51) [])).2.1).2,()),Prod.snd (List.getD aj (Int.toNat vf) (false,[],((0:Int),[],()),((0:Int),[],()),((0:Int),[],()),())).2)) (Int.toNat vf) (false,[],((0:Int),[],()),((0:Int),[],()),((0:Int),[],()),())),Prod.fst (List.getD (List.set aj (Int.toNat vf) (Prod.fst (List.getD aj (Int.toNat vf) (false,[],((0:Int),[],()),((0:Int),[],()),((0:Int),[],()),())),Prod.fst (List.getD aj (Int.toNat vf) (false,[],((0:Int),[],()),((0:Int),[],()),((0:Int),[],()),())).2++List.set [((0:Int),[],())] (Int.toNat (↑0:Int)) (Option.getD (Go.Lib.atoi (y6 (List.getD bd (Int.toNat v51) [])).1) (0:Int),Prod.fst (y6 (y6 (List.getD bd (Int.toNat v51) [])).2.1).2,()),Prod.snd (List.getD aj (Int.toNat vf) (false,[],((0:Int),[],()),((0:Int),[],()),((0:Int),[],()),())).2)) (Int.toNat vf) (false,[],((0:Int),[],()),((0:Int),[],()),((0:Int),[],()),())).2,Prod.fst (S7 (List.getD (List.set aj (Int.toNat vf) (Prod.fst (List.getD aj (Int.toNat vf) (false,[],((0:Int),[],()),((0:Int),[],()),((0:Int),[],()),())),Prod.fst (List.getD aj (Int.toNat vf) (false,[],((0:Int),[],()),((0:Int),[],()),((0:Int),[],()),())).2++List.set [((0:Int),[],())] (Int.toNat (↑0:Int)) (Option.getD (Go.Lib.atoi (y6 (List.getD bd (Int.toNat v51) [])).1) (0:Int),Prod.fst (y6 (y6 (List.getD bd (Int.toNat v51) [])).2.1).2,()),Prod.snd (List.getD aj (Int.toNat vf) (false,[],((0:Int),[],()),((0:Int),[],()),((0:Int),[],()),())).2)) (Int.toNat vf) (false,[],((0:Int),[],()),((0:Int),[],()),((0:Int),[],()),())).2.2.1 (Option.getD (Go.Lib.atoi (y6 (y6 (List.getD bd (Int.toNat v51) [])).2.1).1) (0:Int)+(1:Int))),Prod.snd (List.getD (List.set aj (Int.toNat vf) (Prod.fst (List.getD aj (Int.toNat vf) (false,[],((0:Int),[],()),((0:Int),[],()),((0:Int),[],()),())),Prod.fst (List.getD aj (Int.toNat vf) (false,[],((0:Int),[],()),((0:Int),[],()),((0:Int),[],()),())).2++List.set [((0:Int),[],())] (Int.toNat (↑0:Int)) (Option.getD (Go.Lib.atoi (y6 (List.getD bd (Int.toNat v51) [])).1) (0:Int),Prod.fst (y6 (y6 (List.getD bd (Int.toNat v51) [])).2.1).2,()),Prod.snd (List.getD aj (Int.toNat vf) (false,[],((0:Int),[],()),((0:Int),[],()),((0:Int),[],()),())).2)) (Int.toNat vf) (false,[],((0:Int),[],()),((0:Int),[],()),((0:Int),[],()),())).2.2),ak,ah,()))]))) (.f8 (r9 IntKind.i64 (v51+(1:Int))) (.ctL (g8 (d8 Tryz.prog 67) 6) (St.mk [(3,AV.ptr 3 []),(4,AV.ptr 2000000 [Step.l8 1,Step.idx vf]),(49,AV.at_ 1000049 []),(50,AV.val d9 yQ),(51,AV.val d9 (v51+(1:Int)))] [(3,i6.var (Ty.pair d9 (Ty.pair d9 (Ty.pair d9 (Ty.pair d9 (Ty.pair d9 (Ty.pair Y9 (Ty.pair Ty.str Ty.unit))))))) (cz,aV,aR,aL,aE,aC,au,())),(1000049,i6.own (Ty.d0 true Ty.str) bd),(2000000,i6.var u7 ((aB,ao,()),List.set aj (Int.toNat vf) (Prod.fst (List.getD aj (Int.toNat vf) (false,[],((0:Int),[],()),((0:Int),[],()),((0:Int),[],()),())),Prod.fst (List.getD aj (Int.toNat vf) (false,[],((0:Int),[],()),((0:Int),[],()),((0:Int),[],()),())).2++List.set [((0:Int),[],())] (Int.toNat (↑0:Int)) (Option.getD (Go.Lib.atoi (y6 (List.getD bd (Int.toNat v51) [])).1) (0:Int),Prod.fst (y6 (y6 (List.getD bd (Int.toNat v51) [])).2.1).2,()),Prod.snd (List.getD aj (Int.toNat vf) (false,[],((0:Int),[],()),((0:Int),[],()),((0:Int),[],()),())).2),ak,ah,()))]))))))) (.f8 (r9 IntKind.i64 (v51+(1:Int))) (.ctL (g8 (d8 Tryz.prog 67) 6) (St.mk [(3,AV.ptr 3 []),(4,AV.ptr 2000000 [Step.l8 1,Step.idx vf]),(49,AV.at_ 1000049 []),(50,AV.val d9 yQ),(51,AV.val d9 (v51+(1:Int)))] [(3,i6.var (Ty.pair d9 (Ty.pair d9 (Ty.pair d9 (Ty.pair d9 (Ty.pair d9 (Ty.pair Y9 (Ty.pair Ty.str Ty.unit))))))) (cz,aV,aR,aL,aE,aC,au,())),(1000049,i6.own (Ty.d0 true Ty.str) bd),(2000000,i6.var u7 ((aB,ao,()),List.set aj (Int.toNat vf) (Prod.fst (List.getD aj (Int.toNat vf) (false,[],((0:Int),[],()),((0:Int),[],()),((0:Int),[],()),())),Prod.fst (List.getD aj (Int.toNat vf) (false,[],((0:Int),[],()),((0:Int),[],()),((0:Int),[],()),())).2++List.set [((0:Int),[],())] (Int.toNat (↑0:Int)) (Option.getD (Go.Lib.atoi (y6 (List.getD bd (Int.toNat v51) [])).1) (0:Int),Prod.fst (y6 (y6 (List.getD bd (Int.toNat v51) [])).2.1).2,()),Prod.snd (List.getD aj (Int.toNat vf) (false,[],((0:Int),[],()),((0:Int),[],()),((0:Int),[],()),())).2),ak,ah,()))]))))))))) (.ret ((((aB,ao,()),aj,ak,ah,()),()))):=by kernel_rfl
attribute [local irreducible] vM D9 S7 y6 Lib.atoi in
theorem b6y:Ia.Valid Tryz.prog 67:=by
  refine p7.n8 Kv rfl rfl Tryz.func67 (c:=d8 Tryz.prog 67) rfl rfl Km rfl ?_;rintro ⟨⟨⟨(v0:Int),(v1:Int),⟨⟩⟩,(al:List n9),(od:List yY),(wy:List yY),⟨⟩⟩,⟨(nk:Int),(nf:Int),(nt:Int),(nv:Int),(ns:Int),(na:List Int),(nx:yY),⟨⟩⟩,⟨⟩⟩ ⟨(hp:0<=nt/\nt<(al.length:Int)),(hl:(P8 ((v0,v1,()),al,od,wy,()) nt).2.1.length<=1000000000000),(aM:∀ t∈(S5 ((v0,v1,()),al,od,wy,()) (nk,nf,nt,nv,ns,na,nx,())).2.1,okT t)⟩ -
  refine j6 (n:=1000) Kv Km ?_;refine i7 (Yy v0 v1 al od wy nk nf nt nv ns na nx) ?_;simp only [j7,Tree.holds,sL];have e1:=λ a=>(vM.eq_1 ((v0,v1,()),al,od,wy,()) (nk,nf,nt,nv,ns,na,nx,())).trans (if_pos a);have e2:=λ a=>(vM.eq_1 ((v0,v1,()),al,od,wy,()) (nk,nf,nt,nv,ns,na,nx,())).trans (if_neg a);have key:∀ r:f9,vM ((v0,v1,()),al,od,wy,()) (nk,nf,nt,nv,ns,na,nx,())=r->(((r,()):f9×Unit)=(vM ((v0,v1,()),al,od,wy,()) (nk,nf,nt,nv,ns,na,nx,()),())):=by rintro r rfl; rfl
  refine ⟨hp,λ _=>⟨λ a=>key _ (e1 a),λ a=>?_⟩⟩;have e3:=e2 a;have bD:=zx (aBq.1 a);obtain ⟨x,hx⟩:∃ x:n9,x=Bw (P8 ((v0,v1,()),al,od,wy,()) nt) (S5 ((v0,v1,()),al,od,wy,()) (nk,nf,nt,nv,ns,na,nx,())).1:=⟨_,rfl⟩;obtain ⟨l,kb⟩:∃ l,l=(S5 ((v0,v1,()),al,od,wy,()) (nk,nf,nt,nv,ns,na,nx,())).2.1:=⟨_,rfl⟩;have qS:x.2.1.length<=1000000000000:=by rw [hx]; exact hl
  have sW:l.length<=16:=by rw [kb]; exact bD.2.2.1
  have bf:∀ t∈l,E7 t=false:=by rw [kb]; exact λ t ht=>(bD.1 t ht).2
  have iX:∀ t∈l,okT t:=by rw [kb]; exact aM
  suffices go:Go.Ex.Reach BI Tryz.f67 () (a12 ((v0,v1,()),al,od,wy,()) nt (K7 nt x l l.length),()) (.code (g8 (d8 Tryz.prog 67) 6).1::.inLoop (g8 (d8 Tryz.prog 67) 6).1::(g8 (d8 Tryz.prog 67) 6).2) (Kx nt (l.length:Int) ((0:Nat):Int) nk nf nt nv ns na nx l v0 v1 (al.set nt.toNat (K7 nt x l 0)) od wy) by
    subst hx; subst kb;rw [e3];rw [K7] at go;exact go
  refine Reach.M7 Kv Km (λ i:Nat=>Kx nt (l.length:Int) (i:Int) nk nf nt nv ns na nx l v0 v1 (al.set nt.toNat (K7 nt x l i)) od wy) (λ i=>i<=l.length)
    (λ i=>l.length - i) 1000 (λ _=>⟨s9 rfl,s9 rfl⟩) ?_ 0 (aAz _)
  rintro i k1 - ih;have k1:i<=l.length:=k1;refine i7 (c47 ..) ?_;have e4:((i:Nat):Int)+1=((i+1:Nat):Int):=by omega
  have hg:∀ y:n9,(al.set nt.toNat y).getD nt.toNat (false,[],(0,[],()),(0,[],()),(0,[],()),())=y:=λ y=>by
    rw [aAb,aHe (by omega)]; rfl
  have oS:∀ y z:n9,(al.set nt.toNat y).set nt.toNat z=al.set nt.toNat z:=λ y z=>List.set_set ..;have iu:Ty.wb r8=24:=rfl;have hlen:=LC (q:=nt) (x:=x) (l:=l) i;obtain ⟨y,hy⟩:∃ y,y=K7 nt x l i:=⟨_,rfl⟩;obtain ⟨t,ht⟩:∃ t,t=l.getD i []:=⟨_,rfl⟩;have hs:K7 nt x l (i+1)=wq nt y t:=by rw [K7,<- hy,<- ht]
  have hT:i<l.length->E7 t=false/\okT t:=λ h=>by
    have:t∈l:=by rw [ht,aAb,aAf h]; exact aCp _
    exact ⟨bf t this,iX t this⟩
  have ih1:i<l.length->_:=λ h=>ih (i+1) (by show i+1<=l.length; omega) (by show l.length - (i+1)<l.length - i; omega);rw [hs] at ih1;rw [<- hy] at hlen ⊢;simp only [j7,Tree.holds,e4,hg,oS,sL];rw [<- ht];have dJ:=Cf t;have il:=Cf (y6 t).2.1;refine ⟨λ c=>?_,λ c=>?_⟩
  . have c':i<l.length:=by omega
    obtain ⟨g1,g2⟩:=hT c';have g3:=KI g1;have g4:=Xy g2;refine ⟨⟨by omega,by omega⟩,λ _=>⟨⟨by omega,trivial⟩,λ _=>⟨⟨by omega,trivial⟩,λ _=>⟨g4.1,λ _=>⟨?_,λ _=>⟨λ d=>⟨g4.2.1,λ _=>⟨?_,λ _=>⟨?_,λ _=>⟨λ e=>⟨?_,λ _=>?_⟩,λ e=>⟨?_,λ _=>?_⟩⟩⟩⟩⟩,λ d=>⟨?_,λ _=>?_⟩⟩⟩⟩⟩⟩⟩
    . rw [iu]; omega
    . have:0<=nth t/\nth t<=16777300:=g4.2.2;show r9 .i64 (nth t+1);exact F6.2 ⟨by omega,by omega⟩
    . have:0<=nth t/\nth t<=16777300:=g4.2.2;show 0<=nth t+1;omega
    . exact ⟨by omega,by omega⟩
    . have:=ih1 c';rw [KG d e] at this;exact this
    . exact ⟨by omega,by omega⟩
    . have:=ih1 c';rw [EL (λ h=>e h.2)] at this;exact this
    . exact ⟨by omega,by omega⟩
    . have:=ih1 c';rw [EL (λ h=>d h.1)] at this;exact this
  . obtain rfl:i=l.length:=by omega
    rw [hy]; rfl
theorem AM {w:f9} {n:C2}:∀ j,(G1 w n j).2.1=w.2.1/\(G1 w n j).1=w.1/\(G1 w n j).2.2.1=w.2.2.1
  | 0=>⟨rfl,rfl,rfl⟩
  | j+1=>by
    obtain ⟨h1,h2,h3⟩:=AM (w:=w) (n:=n) j;rw [G1]
    split
    . obtain ⟨g1,g2,g3⟩:=EZ (w:=G1 w n j) (k:=2) (f:=M9 (G1 w n j)) (t:=n.2.1) (s:=n.2.2.2.2.1+j) (x:=(G1 w n j).2.2.1.getD (n.2.2.2.2.1+j).toNat []);exact ⟨g1.trans h1,g2.trans h2,g3.trans h3⟩
    . exact ⟨h1,h2,h3⟩
theorem ZW {w:f9} {n:C2} {j:Nat} (h:n.2.2.2.2.1+j<(G1 w n j).2.2.1.length):G1 w n (j+1)=N1 (G1 w n j) 2 (M9 (G1 w n j)) n.2.1 (n.2.2.2.2.1+j) ((G1 w n j).2.2.1.getD (n.2.2.2.2.1+j).toNat []):=by
  rw [G1]; exact if_pos h
theorem SY {w:f9} {n:C2} {j:Nat} (h:¬ n.2.2.2.2.1+j<w.2.2.1.length):∀ m,G1 w n (j+m)=G1 w n j
  | 0=>rfl
  | m+1=>by
    rw [<- aBk,G1,if_neg,SY h m];rw [(AM (j+m)).2.2];omega
structure xy (w:f9) (n:C2):Prop where
  K1:w.2.1.length<=6
  to:0<=n.2.2.1/\n.2.2.1<(w.2.1.length:Int)
  seq:0<=n.2.2.2.2.1/\n.2.2.2.2.1<=16777215
  log:(P8 w n.2.2.1).2.1.length<=1000000000000
  ord:w.2.2.1.length<=1000000000000
  txt:n.1=2->∀ t∈(S5 w n).2.1,okT t
def JG:p7:={ ps:=[.rw u7,.v zI],rs:=[],pre:=λ x=>xy x.1 x.2.1,fn:=λ _=>(),out:=λ x=>(H2 x.1 x.2.1,()) }
noncomputable def Cu:Env:={ P:=Tryz.prog,tt:=tt,C9:=[(49,Ar),(66,Iq),(67,Ia),(43,zY),(44,zW)],res:=[],rs:=[],ps:=[PK.rw u7,PK.v (Ty.pair d9 (Ty.pair d9 (Ty.pair d9 (Ty.pair d9 (Ty.pair d9 (Ty.pair Y9 (Ty.pair Ty.str Ty.unit)))))))],B8:=[(7,[(0,none),(3,none),(4,none)])],nt:=56 }
theorem LY:w7 Cu:=x6 r7 ⟨FA,b6B,b6y,FJ,Fo,trivial⟩
theorem Mc:C0 Cu Tryz.f48:=⟨rfl,rfl⟩
theorem b9h (ai:Int) (af:Int) (ab:List n9) (ae:List yY) (aa:List yY) (bA:Int) (aG:Int) (aF:Int) (aX:Int) (aI:Int) (aT:List Int) (aD:yY):exec Cu 1000 [.code (d8 Tryz.prog 48)] (s5 JG.ps ((((ai,af,()),ab,ae,aa,()),(bA,aG,aF,aX,aI,aT,aD,()),()))) =
  .f8 (List.length ab<=6) (cond (decide (known ((ai,af,()),ab,ae,aa,()) aG≠(0:Int))) (.ret ((((ai,af,()),ab,ae,aa,()),()))) (cond (decide (bA=(1:Int))) (.f8 (List.length ab<=6/\¬known ((ai,af,()),ab,ae,aa,()) aG≠(0:Int)/\List.length ae<=1000000000000) (.ret ((Y5 ((ai,af,()),ab,ae,aa,()) (bA,aG,aF,aX,aI,aT,aD,()),())))) (cond (decide (bA=(3:Int))) (.ctL (g8 (d8 Tryz.prog 48) 7) (St.mk [(0,AV.ptr 2000000 []),(3,AV.ptr 3 []),(4,AV.val d9 aI)] [(3,i6.var (Ty.pair d9 (Ty.pair d9 (Ty.pair d9 (Ty.pair d9 (Ty.pair d9 (Ty.pair Y9 (Ty.pair Ty.str Ty.unit))))))) (bA,aG,aF,aX,aI,aT,aD,())),(2000000,i6.var u7 ((ai,af,()),ab,ae,aa,()))])) (cond (decide (bA=(2:Int))) (.f8 (((0:Int)<=aF/\aF<(↑(List.length ab):Int))/\List.length (P8 ((ai,af,()),ab,ae,aa,()) aF).2.1<=1000000000000/\∀ (t:yY),t∈Prod.fst (S5 ((ai,af,()),ab,ae,aa,()) (bA,aG,aF,aX,aI,aT,aD,())).2->okT t) (.ret ((vM ((ai,af,()),ab,ae,aa,()) (bA,aG,aF,aX,aI,aT,aD,()),())))) (.ret ((((ai,af,()),ab,ae,aa,()),()))))))):=by kernel_rfl
def LZ (v4:Int) (cz:Int) (aV:Int) (aR:Int) (aL:Int) (aE:Int) (aC:List Int) (au:yY) (aB:Int) (ao:Int) (aj:List n9) (ak:List yY) (ah:List yY):St:=St.mk [(0,AV.ptr 2000000 []),(3,AV.ptr 3 []),(4,AV.val d9 v4)] [(3,i6.var (Ty.pair d9 (Ty.pair d9 (Ty.pair d9 (Ty.pair d9 (Ty.pair d9 (Ty.pair Y9 (Ty.pair Ty.str Ty.unit))))))) (cz,aV,aR,aL,aE,aC,au,())),(2000000,i6.var u7 ((aB,ao,()),aj,ak,ah,()))]
theorem b70 (v4:Int) (cz:Int) (aV:Int) (aR:Int) (aL:Int) (aE:Int) (aC:List Int) (au:yY) (aB:Int) (ao:Int) (aj:List n9) (ak:List yY) (ah:List yY):exec Cu 1000 (.code (g8 (d8 Tryz.prog 48) 7).1::.inLoop (g8 (d8 Tryz.prog 48) 7).1::(g8 (d8 Tryz.prog 48) 7).2) (LZ v4 cz aV aR aL aE aC au aB ao aj ak ah) =
  cond (decide (v4<(↑(List.length ak):Int))) (.f8 (r9 IntKind.i64 (aE+(4:Int))) (cond (decide (v4<aE+(4:Int))) (.f8 (True) (.f8 ((0:Int)<=v4/\v4<(↑(List.length ak):Int)) (.f8 (True) (.f8 (r9 IntKind.i64 (v4+(1:Int))) (.ctL (g8 (d8 Tryz.prog 48) 7) (St.mk [(0,AV.ptr 2000000 []),(3,AV.ptr 3 []),(4,AV.val d9 (v4+(1:Int)))] [(3,i6.var (Ty.pair d9 (Ty.pair d9 (Ty.pair d9 (Ty.pair d9 (Ty.pair d9 (Ty.pair Y9 (Ty.pair Ty.str Ty.unit))))))) (cz,aV,aR,aL,aE,aC,au,())),(2000000,i6.var u7 (N1 ((aB,ao,()),aj,ak,ah,()) (2:Int) (M9 ((aB,ao,()),aj,ak,ah,())) aV v4 (List.getD ak (Int.toNat v4) [])))])))))) (.ret ((((aB,ao,()),aj,ak,ah,()),()))))) (.ret ((((aB,ao,()),aj,ak,ah,()),()))):=by kernel_rfl
theorem TE {w:f9} {n:C2} (h:known w n.2.1≠0):H2 w n=w:=by rw [H2]; exact if_pos h
theorem UA {w:f9} {n:C2} (h:¬ known w n.2.1≠0) (h1:n.1=1):H2 w n=Y5 w n:=by rw [H2]; exact (if_neg h).trans (if_pos h1)
theorem Uz {w:f9} {n:C2} (h:¬ known w n.2.1≠0) (h1:n.1=3):H2 w n=G1 w n 4:=by rw [H2]; exact (if_neg h).trans ((if_neg (by omega)).trans (if_pos h1))
theorem Us {w:f9} {n:C2} (h:¬ known w n.2.1≠0) (h1:n.1=2):H2 w n=vM w n:=by rw [H2]; exact (if_neg h).trans ((if_neg (by omega)).trans ((if_neg (by omega)).trans (if_pos h1)))
theorem Ur {w:f9} {n:C2} (h1:n.1≠1) (h2:n.1≠3) (h3:n.1≠2):H2 w n=w:=by
  rw [H2,if_neg h1,if_neg h2,if_neg h3]; split<;>rfl
attribute [local irreducible] H2 Y5 vM G1 N1 in
theorem b3g:JG.Valid Tryz.prog 48:=by
  refine p7.n8 LY rfl rfl Tryz.func48 (c:=d8 Tryz.prog 48) rfl rfl Mc rfl ?_;rintro ⟨⟨⟨(v0:Int),(v1:Int),⟨⟩⟩,(al:List n9),(od:List yY),(wy:List yY),⟨⟩⟩,⟨(nk:Int),(nf:Int),(nt:Int),(nv:Int),(ns:Int),(na:List Int),(nx:yY),⟨⟩⟩,⟨⟩⟩ (hq:xy ((v0,v1,()),al,od,wy,()) (nk,nf,nt,nv,ns,na,nx,())) -
  refine j6 (n:=1000) LY Mc ?_;refine i7 (b9h v0 v1 al od wy nk nf nt nv ns na nx) ?_;simp only [j7,Tree.holds,sL];have key:∀ r:f9,H2 ((v0,v1,()),al,od,wy,()) (nk,nf,nt,nv,ns,na,nx,())=r->(((r,()):f9×Unit)=(H2 ((v0,v1,()),al,od,wy,()) (nk,nf,nt,nv,ns,na,nx,()),())):=by rintro r rfl; rfl
  refine ⟨hq.K1,λ _=>⟨λ a=>key _ (TE a),λ a=>⟨λ b=>⟨⟨hq.K1,a,hq.ord⟩,λ _=>key _ (UA a b)⟩,λ b=>⟨λ c=>?_,λ c=>⟨λ d=>⟨⟨hq.to,hq.log,hq.txt d⟩,λ _=>key _ (Us a d)⟩,λ d=>key _ (Ur b c d)⟩⟩⟩⟩⟩;obtain ⟨w,hw⟩:∃ w:f9,w=((v0,v1,()),al,od,wy,()):=⟨_,rfl⟩;obtain ⟨n,hn⟩:∃ n:C2,n=(nk,nf,nt,nv,ns,na,nx,()):=⟨_,rfl⟩;have e3:H2 ((v0,v1,()),al,od,wy,()) (nk,nf,nt,nv,ns,na,nx,())=G1 w n 4:=by rw [hw,hn]; exact Uz a c
  have gi:0<=ns/\ns<=16777215:=hq.seq;have mH:n.2.2.2.2.1=ns:=by rw [hn]
  have nY:n.2.1=nf:=by rw [hn]
  have qT:w.2.2.1=od:=by rw [hw]
  suffices go:Go.Ex.Reach Cu Tryz.f48 () (G1 w n 4,()) (.code (g8 (d8 Tryz.prog 48) 7).1::.inLoop (g8 (d8 Tryz.prog 48) 7).1::(g8 (d8 Tryz.prog 48) 7).2) (LZ (ns+((0:Nat):Int)) nk nf nt nv ns na nx (G1 w n 0).1.1 (G1 w n 0).1.2.1 (G1 w n 0).2.1 (G1 w n 0).2.2.1 (G1 w n 0).2.2.2.1) by
    rw [e3];rw [G1,show ns+((0:Nat):Int)=ns by omega] at go;rw [hw] at go ⊢;exact go
  refine Reach.M7 LY Mc (λ j:Nat=>LZ (ns+(j:Int)) nk nf nt nv ns na nx (G1 w n j).1.1 (G1 w n j).1.2.1 (G1 w n j).2.1 (G1 w n j).2.2.1 (G1 w n j).2.2.2.1) (λ j=>j<=4)
    (λ j=>4 - j) 1000 (λ _=>⟨s9 rfl,s9 rfl⟩) ?_ 0 (aAz _)
  rintro j k1 - ih;have k1:j<=4:=k1;refine i7 (b70 ..) ?_;have e4:ns+(j:Int)+1=ns+((j+1:Nat):Int):=by omega
  have t3:=(AM (w:=w) (n:=n) j).2.2;simp only [j7,Tree.holds,e4,sL];refine ⟨λ d=>⟨?_,λ _=>⟨λ e=>⟨⟨by omega,d⟩,λ _=>⟨?_,λ _=>?_⟩⟩,λ e=>?_⟩⟩,λ d=>?_⟩
  . exact F6.2 ⟨by omega,by omega⟩
  . exact F6.2 ⟨by omega,by omega⟩
  . have:=ih (j+1) (by show j+1<=4; omega) (by show 4 - (j+1)<4 - j; omega);rw [ZW (j:=j) (by rw [mH]; exact d)] at this;rw [mH,nY] at this;exact this
  . obtain rfl:j=4:=by omega
    rfl
  . have:=SY (w:=w) (n:=n) (j:=j) (by rw [mH,<- t3]; exact d) (4 - j);rw [show j+(4 - j)=4 by omega] at this;rw [this]; rfl
abbrev noB:yY:=[]
def Hx:p7:={ ps:=[.own (.d0 true .str),.v d9,.v d9],rs:=[.d0 true .str],pre:=λ x=>LE.le (α:=Int) 0 x.2.1/\LE.le (α:=Int) x.2.1 x.2.2.1/\LE.le (α:=Int) x.2.2.1 (List.length (α:=yY) x.1),fn:=λ x=>(List.take (α:=yY) (Int.toNat x.2.1) x.1++List.drop (α:=yY) (Int.toNat x.2.2.1) x.1,()),out:=λ _=>() }
noncomputable def GZ:Env:={ P:=Tryz.prog,tt:=tt,C9:=[],res:=[Go.ResultVar.tmp 6],rs:=[Ty.d0 true Ty.str],ps:=[PK.own (Ty.d0 true Ty.str),PK.v d9,PK.v d9],B8:=[],nt:=33 }
theorem Pp:w7 GZ:=x6 r7 trivial
theorem PH:C0 GZ Tryz.f45:=⟨rfl,rfl⟩
theorem Wl (x0:List yY) (x1:Int) (x2:Int):exec GZ 1000 [.code (d8 Tryz.prog 45)] (s5 Hx.ps ((x0,x1,x2,()))) =
  .f8 ((0:Int)<=x1/\x1<=x2/\x2<=(↑(List.length x0):Int)/\(↑(List.length x0):Int)<=(↑(List.length x0):Int)) (cond (decide (x1=x2)) (.ret ((x0,()))) (.f8 ((0:Int)<=(0:Int)/\(0:Int)<=x1/\x1<=(↑(List.length x0):Int)) (.f8 ((0:Int)<=x2/\x2<=(↑(List.length x0):Int)/\(↑(List.length x0):Int)<=(↑(List.length x0):Int)) (.f8 (x1+(↑(List.length (o5 x2 (↑(List.length x0):Int) x0)):Int)<=(↑(List.length x0):Int)) (.f8 ((0:Int)<=x1+(↑(List.length (o5 x2 (↑(List.length x0):Int) x0)):Int) - (0:Int)/\x1+(↑(List.length (o5 x2 (↑(List.length x0):Int) x0)):Int) - (0:Int)<=(↑(List.length x0):Int)/\(0:Int)+(↑(List.length x0):Int)<=(↑(List.length (List.take (Int.toNat x1) x0++o5 x2 (↑(List.length x0):Int) x0++List.drop (Int.toNat x1+List.length (o5 x2 (↑(List.length x0):Int) x0)) x0)):Int)) (.ret ((o5 (0:Int) (x1+(↑(List.length (o5 x2 (↑(List.length x0):Int) x0)):Int)) (List.take (Int.toNat ((0:Int)+(x1+(↑(List.length (o5 x2 (↑(List.length x0):Int) x0)):Int) - (0:Int)))) (List.take (Int.toNat x1) x0++o5 x2 (↑(List.length x0):Int) x0++List.drop (Int.toNat x1+List.length (o5 x2 (↑(List.length x0):Int) x0)) x0)++List.replicate (Int.toNat ((0:Int)+(↑(List.length x0):Int) - ((0:Int)+(x1+(↑(List.length (o5 x2 (↑(List.length x0):Int) x0)):Int) - (0:Int))))) []++List.drop (Int.toNat ((0:Int)+(x1+(↑(List.length (o5 x2 (↑(List.length x0):Int) x0)):Int) - (0:Int)))+List.length (List.replicate (Int.toNat ((0:Int)+(↑(List.length x0):Int) - ((0:Int)+(x1+(↑(List.length (o5 x2 (↑(List.length x0):Int) x0)):Int) - (0:Int))))) noB)) (List.take (Int.toNat x1) x0++o5 x2 (↑(List.length x0):Int) x0++List.drop (Int.toNat x1+List.length (o5 x2 (↑(List.length x0):Int) x0)) x0)),())))))))):=by kernel_rfl
theorem b8F:Hx.Valid Tryz.prog 45:=by
  refine p7.n8 Pp rfl rfl Tryz.func45 (c:=d8 Tryz.prog 45) rfl rfl PH rfl ?_;rintro ⟨(l:List yY),(i:Int),(j:Int),⟨⟩⟩ ⟨(h0:0<=i),(h1:i<=j),(h2:j<=(l.length:Int))⟩ -
  refine j6 (n:=1000) Pp PH ?_;refine i7 (Wl l i j) ?_;simp only [j7,Tree.holds,sL];have hc:=Pm h0 h1 h2 (l:=l);have hm:=Ja h0 h1 h2 (l:=l);refine ⟨⟨h0,h1,h2,aEb _⟩,λ _=>⟨λ e=>?_,λ e=>⟨by omega,λ _=>⟨by omega,λ _=>⟨by omega,λ _=>⟨by omega,λ _=>?_⟩⟩⟩⟩⟩⟩
  . subst e;show ((l,()):List yY×Unit)=(l.take i.toNat++l.drop i.toNat,());rw [aBv]
  . exact congrArg (λ y=>(y,())) (XQ h0 h1 h2 (l:=l))
structure Cd (w:f9):Prop where
  K1:w.2.1.length<=6
  way:w.2.2.2.1.length<=60
  note:∀ s∈w.2.2.2.1,(x7 s).2.1=0->(x7 s).1.2.2.2.1=w.1.1->s8 w (x7 s).1.2.2.1=true->xy w (x7 s).1
def DB:p7:={ ps:=[.rw u7,.v d9,.v d9],rs:=[d9],pre:=λ x=>Cd x.1,fn:=λ x=>((G7 x.1 x.2.1 x.2.2.1).2,()),out:=λ x=>((G7 x.1 x.2.1 x.2.2.1).1,()) }
noncomputable def HQ:Env:={ P:=Tryz.prog,tt:=tt,C9:=[(40,zL),(45,Hx),(46,Ht),(47,yU),(48,JG)],res:=[Go.ResultVar.tmp 6],rs:=[Ty.int IntKind.i64],ps:=[PK.rw u7,PK.v d9,PK.v d9],B8:=[],nt:=95 }
theorem Ry:w7 HQ:=x6 r7 ⟨Fm,b8F,b8J,CG,b3g,trivial⟩
theorem QU:C0 HQ Tryz.f18:=⟨rfl,rfl⟩
theorem Yw (ai:Int) (af:Int) (ab:List n9) (ae:List yY) (aa:List yY) (x1:Int) (x2:Int):exec HQ 1000 [.code (d8 Tryz.prog 18)] (s5 DB.ps ((((ai,af,()),ab,ae,aa,()),x1,x2,()))) =
  .f8 (True) (cond (!J3 x2 (1:Int) (3:Int)) (.ret (((1:Int),((ai,af,()),ab,ae,aa,()),()))) (.f8 (r9 IntKind.i64 ((↑(List.length aa):Int) - (1:Int))) (.f8 (True) (cond (!J3 x1 (0:Int) ((↑(List.length aa):Int) - (1:Int))) (.ret (((6:Int),((ai,af,()),ab,ae,aa,()),()))) (cond (decide (x2=(3:Int))) (cond (decide ((↑(List.length aa):Int)=(60:Int))) (.ret (((8:Int),((ai,af,()),ab,ae,aa,()),()))) (.f8 ((0:Int)<=x1/\x1<(↑(List.length aa):Int)) (cond (decide (x2=(3:Int))) (.f8 (True/\True/\[]++[Step.l8 3]=[]++[Step.l8 3]/\List.length aa+List.length (List.set [[]] (Int.toNat (↑0:Int)) (List.getD aa (Int.toNat x1) []))<=140737488355328/\(List.length aa+List.length (List.set [[]] (Int.toNat (↑0:Int)) (List.getD aa (Int.toNat x1) [])))*Ty.wb Ty.str<=140737488355328) (.ret (((0:Int),((ai,af,()),ab,ae,aa++List.set [[]] (Int.toNat (↑0:Int)) (List.getD aa (Int.toNat x1) []),()),())))) (.f8 (r9 IntKind.i64 (x1+(1:Int))) (.f8 (True/\True/\[]++[Step.l8 3]=[]++[Step.l8 3]/\(0:Int)<=x1/\x1<=x1+(1:Int)/\x1+(1:Int)<=(↑(List.length aa):Int)) (.f8 (True) (cond (decide (x2=(1:Int))) (cond (decide (Prod.fst (x7 (List.getD aa (Int.toNat x1) [])).2=(0:Int))) (cond (decide (Prod.fst (Prod.snd (x7 (List.getD aa (Int.toNat x1) [])).1).2.2=ai)) (.f8 (List.length ab<=6) (cond (s8 ((ai,af,()),ab,ae,List.take (Int.toNat x1) aa++List.drop (Int.toNat (x1+(1:Int))) aa,()) (Prod.snd (x7 (List.getD aa (Int.toNat x1) [])).1).2.1) (.f8 (xy ((ai,af,()),ab,ae,List.take (Int.toNat x1) aa++List.drop (Int.toNat (x1+(1:Int))) aa,()) (x7 (List.getD aa (Int.toNat x1) [])).1) (.ret (((0:Int),H2 ((ai,af,()),ab,ae,List.take (Int.toNat x1) aa++List.drop (Int.toNat (x1+(1:Int))) aa,()) (x7 (List.getD aa (Int.toNat x1) [])).1,())))) (.ret (((0:Int),((ai,af,()),ab,ae,List.take (Int.toNat x1) aa++List.drop (Int.toNat (x1+(1:Int))) aa,()),()))))) (.ret (((0:Int),((ai,af,()),ab,ae,List.take (Int.toNat x1) aa++List.drop (Int.toNat (x1+(1:Int))) aa,()),())))) (.ret (((0:Int),((ai,af,()),ab,ae,List.take (Int.toNat x1) aa++List.drop (Int.toNat (x1+(1:Int))) aa,()),())))) (.ret (((0:Int),((ai,af,()),ab,ae,List.take (Int.toNat x1) aa++List.drop (Int.toNat (x1+(1:Int))) aa,()),())))))))))) (.f8 ((0:Int)<=x1/\x1<(↑(List.length aa):Int)) (cond (decide (x2=(3:Int))) (.f8 (True/\True/\[]++[Step.l8 3]=[]++[Step.l8 3]/\List.length aa+List.length (List.set [[]] (Int.toNat (↑0:Int)) (List.getD aa (Int.toNat x1) []))<=140737488355328/\(List.length aa+List.length (List.set [[]] (Int.toNat (↑0:Int)) (List.getD aa (Int.toNat x1) [])))*Ty.wb Ty.str<=140737488355328) (.ret (((0:Int),((ai,af,()),ab,ae,aa++List.set [[]] (Int.toNat (↑0:Int)) (List.getD aa (Int.toNat x1) []),()),())))) (.f8 (r9 IntKind.i64 (x1+(1:Int))) (.f8 (True/\True/\[]++[Step.l8 3]=[]++[Step.l8 3]/\(0:Int)<=x1/\x1<=x1+(1:Int)/\x1+(1:Int)<=(↑(List.length aa):Int)) (.f8 (True) (cond (decide (x2=(1:Int))) (cond (decide (Prod.fst (x7 (List.getD aa (Int.toNat x1) [])).2=(0:Int))) (cond (decide (Prod.fst (Prod.snd (x7 (List.getD aa (Int.toNat x1) [])).1).2.2=ai)) (.f8 (List.length ab<=6) (cond (s8 ((ai,af,()),ab,ae,List.take (Int.toNat x1) aa++List.drop (Int.toNat (x1+(1:Int))) aa,()) (Prod.snd (x7 (List.getD aa (Int.toNat x1) [])).1).2.1) (.f8 (xy ((ai,af,()),ab,ae,List.take (Int.toNat x1) aa++List.drop (Int.toNat (x1+(1:Int))) aa,()) (x7 (List.getD aa (Int.toNat x1) [])).1) (.ret (((0:Int),H2 ((ai,af,()),ab,ae,List.take (Int.toNat x1) aa++List.drop (Int.toNat (x1+(1:Int))) aa,()) (x7 (List.getD aa (Int.toNat x1) [])).1,())))) (.ret (((0:Int),((ai,af,()),ab,ae,List.take (Int.toNat x1) aa++List.drop (Int.toNat (x1+(1:Int))) aa,()),()))))) (.ret (((0:Int),((ai,af,()),ab,ae,List.take (Int.toNat x1) aa++List.drop (Int.toNat (x1+(1:Int))) aa,()),())))) (.ret (((0:Int),((ai,af,()),ab,ae,List.take (Int.toNat x1) aa++List.drop (Int.toNat (x1+(1:Int))) aa,()),())))) (.ret (((0:Int),((ai,af,()),ab,ae,List.take (Int.toNat x1) aa++List.drop (Int.toNat (x1+(1:Int))) aa,()),())))))))))))))):=by kernel_rfl
theorem RU {w:f9} {k bC:Int} (h:J3 bC 1 3=false):G7 w k bC=(w,1):=by rw [G7]; exact if_pos h
theorem Tq {w:f9} {k bC:Int} (h:¬ J3 bC 1 3=false) (h1:J3 k 0 ((w.2.2.2.1.length:Int) - 1)=false):G7 w k bC=(w,6):=by rw [G7]; exact (if_neg h).trans (if_pos h1)
theorem SM {w:f9} {k bC:Int} (h:¬ J3 bC 1 3=false) (h1:¬ J3 k 0 ((w.2.2.2.1.length:Int) - 1)=false) (h2:bC=3) (h3:(w.2.2.2.1.length:Int)=60):G7 w k bC=(w,8):=by
  rw [G7]; exact (if_neg h).trans ((if_neg h1).trans (if_pos ⟨h2,h3⟩))
theorem SL {w:f9} {k bC:Int} (h:¬ J3 bC 1 3=false) (h1:¬ J3 k 0 ((w.2.2.2.1.length:Int) - 1)=false) (h2:bC=3) (h3:¬ (w.2.2.2.1.length:Int)=60):G7 w k bC=(DC w k.toNat,0):=by
  rw [G7]; exact (if_neg h).trans ((if_neg h1).trans ((if_neg (λ e=>h3 e.2)).trans (if_pos h2)))
theorem Kg {w:f9} {k bC:Int} (h:¬ J3 bC 1 3=false) (h1:¬ J3 k 0 ((w.2.2.2.1.length:Int) - 1)=false) (h2:¬ bC=3):G7 w k bC=(xr (ze w k) bC (w.2.2.2.1.getD k.toNat []),0):=by
  rw [G7]; exact (if_neg h).trans ((if_neg h1).trans ((if_neg (λ e=>h2 e.1)).trans (if_neg h2)))
theorem Tr {w:f9} {bC:Int} {s:yY} (h:bC=1/\(x7 s).2.1=0/\(x7 s).1.2.2.2.1=w.1.1/\s8 w (x7 s).1.2.2.1=true):xr w bC s=H2 w (x7 s).1:=by
  rw [xr]; exact if_pos h
theorem RV {w:f9} {bC:Int} {s:yY} (h:¬ (bC=1/\(x7 s).2.1=0/\(x7 s).1.2.2.2.1=w.1.1/\s8 w (x7 s).1.2.2.1=true)):xr w bC s=w:=by
  rw [xr]; exact if_neg h
theorem xy.drop {w:f9} {n:C2} {l:List yY} (h:xy w n):xy (w.1,w.2.1,w.2.2.1,l,()) n:=⟨h.K1,h.to,h.seq,h.log,h.ord,h.txt⟩
attribute [local irreducible] G7 xr H2 x7 s8 in
theorem TA:DB.Valid Tryz.prog 18:=by
  refine p7.n8 Ry rfl rfl Tryz.func18 (c:=d8 Tryz.prog 18) rfl rfl QU rfl ?_;rintro ⟨⟨⟨(v0:Int),(v1:Int),⟨⟩⟩,(al:List n9),(od:List yY),(wy:List yY),⟨⟩⟩,(k:Int),(bC:Int),⟨⟩⟩ (hq:Cd ((v0,v1,()),al,od,wy,())) -
  refine j6 (n:=1000) Ry QU ?_;refine i7 (Yw v0 v1 al od wy k bC) ?_;have iu:Ty.wb .str=16:=rfl;have rY:wy.length<=60:=hq.way;simp only [j7,Tree.holds,sL];have key:∀ r:f9×Int,G7 ((v0,v1,()),al,od,wy,()) k bC=r->(((r.2,r.1,()):Int×f9×Unit)=((G7 ((v0,v1,()),al,od,wy,()) k bC).2,(G7 ((v0,v1,()),al,od,wy,()) k bC).1,())):=by rintro r rfl; rfl
  have cT:¬ J3 k 0 ((wy.length:Int) - 1)=false->0<=k/\k<(wy.length:Int):=λ h=>by
    have:=W5.1 (aEm _▸h:J3 k 0 ((wy.length:Int) - 1)=true); omega
  have yes:∀ (a:¬ J3 bC 1 3=false) (b:¬ J3 k 0 ((wy.length:Int) - 1)=false) (c:¬ bC=3),bC=1->(x7 (wy.getD k.toNat [])).2.1=0->(x7 (wy.getD k.toNat [])).1.2.2.2.1=v0->s8 ((v0,v1,()),al,od,wy.take k.toNat++wy.drop (k+1).toNat,()) (x7 (wy.getD k.toNat [])).1.2.2.1=true ->
      G7 ((v0,v1,()),al,od,wy,()) k bC=(H2 ((v0,v1,()),al,od,wy.take k.toNat++wy.drop (k+1).toNat,()) (x7 (wy.getD k.toNat [])).1,0):=λ a b c d e f g=>by
    rw [Kg a b c]; exact congrArg (λ x=>(x,(0:Int))) (Tr ⟨d,e,f,g⟩)
  have no:∀ (a:¬ J3 bC 1 3=false) (b:¬ J3 k 0 ((wy.length:Int) - 1)=false) (c:¬ bC=3),¬ (bC=1/\(x7 (wy.getD k.toNat [])).2.1=0/\(x7 (wy.getD k.toNat [])).1.2.2.2.1=v0/\s8 ((v0,v1,()),al,od,wy.take k.toNat++wy.drop (k+1).toNat,()) (x7 (wy.getD k.toNat [])).1.2.2.1=true) ->
      G7 ((v0,v1,()),al,od,wy,()) k bC=(((v0,v1,()),al,od,wy.take k.toNat++wy.drop (k+1).toNat,()),0):=λ a b c d=>by
    rw [Kg a b c]; exact congrArg (λ x=>(x,(0:Int))) (RV d)
  have pre:0<=k/\k<(wy.length:Int)->(x7 (wy.getD k.toNat [])).2.1=0->(x7 (wy.getD k.toNat [])).1.2.2.2.1=v0->s8 ((v0,v1,()),al,od,wy.take k.toNat++wy.drop (k+1).toNat,()) (x7 (wy.getD k.toNat [])).1.2.2.1=true->xy ((v0,v1,()),al,od,wy.take k.toNat++wy.drop (k+1).toNat,()) (x7 (wy.getD k.toNat [])).1:=λ h h1 h3 h2 =>
    (hq.note _ (by show wy.getD k.toNat []∈wy; rw [aAb,aAf (by omega)]; exact aCp _) h1 h3 (by rw [s8.eq_1] at h2 ⊢; exact h2)).drop
  refine ⟨λ a=>key (_,_) (RU a),λ a=>⟨F6.2 ⟨by omega,by omega⟩,λ _=>⟨λ b=>key (_,_) (Tq (by simpa using a) b),λ b=>?_⟩⟩⟩;have a:¬ J3 bC 1 3=false:=by simpa using a
  have b:¬ J3 k 0 ((wy.length:Int) - 1)=false:=by simpa using b
  have hk:=cT b;refine ⟨λ c=>⟨λ d=>key (_,_) (SM a b c d),λ d=>⟨hk,λ _=>⟨λ _=>⟨by rw [iu]; omega,λ _=>key (_,_) (SL a b c d)⟩,λ e=>absurd c e⟩⟩⟩,λ c=>⟨hk,λ _=>⟨λ e=>absurd e c,λ _=>⟨F6.2 ⟨by omega,by omega⟩,λ _=>⟨⟨by omega,by omega,by omega⟩,λ _=>⟨λ d=>⟨λ e=>⟨λ f=>⟨hq.K1,λ _=>⟨λ g=>⟨pre hk e f g,λ _=>key (_,_) (yes a b c d e f g)⟩,λ g=>key (_,_) (no a b c (λ h=>by rw [h.2.2.2] at g; cases g))⟩⟩,λ f=>key (_,_) (no a b c (λ h=>f h.2.2.1))⟩,λ e=>key (_,_) (no a b c (λ h=>e h.2.1))⟩,λ d=>key (_,_) (no a b c (λ h=>d h.1))⟩⟩⟩⟩⟩⟩
abbrev wa (m:Ew):f9:=(m.1,m.2.1.map rdP,m.2.2)
abbrev vy (w:f9):Ew:=(w.1,w.2.1.map toM,w.2.2)
theorem Zj (w:f9):wa (vy w)=w:=by
  show (w.1,(w.2.1.map toM).map rdP,w.2.2)=w;rw [aHk,show (rdP ∘ toM)=id from rfl,List.map_id]
structure yM (w:f9):Prop where
  K1:w.2.1.length<=6
  UX:∀ i:Nat,(w.2.1.getD i j8).2.1.length<=5864062014805
  late:∀ i:Nat,(w.2.1.getD i j8).2.2.1.2.1.length<=1048576
def Pg:p7:={ ps:=[.rw wg],rs:=[d9],pre:=λ x=>(x.1:Ew)=vy (wa x.1)/\yM (wa x.1)/\¬ (L7 (wa x.1)).2.1≠0,fn:=λ _=>(0,()),out:=λ x=>(vy (E2 (wa x.1)),()) }
noncomputable def xX:Env:={ P:=Tryz.prog,tt:=ttW,C9:=[(47,yU),(53,BP),(31,Bb),(32,GH)],res:=[Go.ResultVar.tmp 2],rs:=[Ty.int IntKind.i64],ps:=[PK.rw wg],B8:=[(4,[(0,none),(3,none),(4,none),(18,none),(19,none)]),(16,[(0,none),(4,none),(7,none),(67,none),(68,none)]),(22,[(0,none),(4,none),(7,none),(9,none),(10,none),(11,none),(67,none),(68,none),(86,none),(87,none),(88,none)]),(998049,[(6,some M6)]),(998014,[(4,some M6)])],nt:=139 }
theorem CN:w7 xX:=x6 Ny ⟨CG,UH,Lc,Uc,trivial⟩
theorem CO:C0 xX Tryz.f25:=⟨rfl,rfl⟩
theorem c3f (ai:Int) (af:Int) (ab:List M4) (ae:List yY) (aa:List yY):exec xX 1000 [.code (d8 Tryz.prog 25)] (s5 Pg.ps ((((ai,af,()),ab,ae,aa,()),()))) =
  .ctL (g8 (d8 Tryz.prog 25) 4) (St.mk [(0,AV.ptr 2000000 []),(3,AV.val U8 (0:Int)),(4,AV.val M6 []),(18,AV.val d9 (↑(List.length ab):Int)),(19,AV.val d9 (0:Int))] [(2000000,i6.var wg ((ai,af,()),ab,ae,aa,()))]):=by kernel_rfl
def LL (v3:Int) (v4:List (Int×yY×Unit)) (vi:Int) (ve:Int) (aB:Int) (ao:Int) (aj:List M4) (ak:List yY) (ah:List yY):St:=St.mk [(0,AV.ptr 2000000 []),(3,AV.val U8 v3),(4,AV.val M6 v4),(18,AV.val d9 vi),(19,AV.val d9 ve)] [(2000000,i6.var wg ((aB,ao,()),aj,ak,ah,()))]
theorem b9i (v3:Int) (v4:List (Int×yY×Unit)) (vi:Int) (ve:Int) (aB:Int) (ao:Int) (aj:List M4) (ak:List yY) (ah:List yY):exec xX 1000 (.code (g8 (d8 Tryz.prog 25) 4).1::.inLoop (g8 (d8 Tryz.prog 25) 4).1::(g8 (d8 Tryz.prog 25) 4).2) (LL v3 v4 vi ve aB ao aj ak ah) =
  cond (decide (ve<vi)) (.f8 (List.length (List.map (rdV Z2) aj)<=6) (cond (s8 ((aB,ao,()),List.map (rdV Z2) aj,ak,ah,()) ve) (.f8 ((0:Int)<=ve/\ve<(↑(List.length aj):Int)) (cond (decide ((↑(List.length v4):Int)<(↑(List.length (Prod.snd (List.getD aj (Int.toNat ve) (false,(1,[],[]),((0:Int),[],()),((0:Int),[],()),((0:Int),[],()),())).2.1).1):Int))) (.f8 (r9 IntKind.i64 (ve+(1:Int))) (.ctL (g8 (d8 Tryz.prog 25) 4) (St.mk [(0,AV.ptr 2000000 []),(3,AV.val U8 v3),(4,AV.val M6 (Prod.snd (List.getD aj (Int.toNat ve) (false,(1,[],[]),((0:Int),[],()),((0:Int),[],()),((0:Int),[],()),())).2.1).1),(18,AV.val d9 vi),(19,AV.val d9 (ve+(1:Int)))] [(2000000,i6.var wg ((aB,ao,()),List.set aj (Int.toNat ve) (Prod.fst (List.getD aj (Int.toNat ve) (false,(1,[],[]),((0:Int),[],()),((0:Int),[],()),((0:Int),[],()),())),(0,Prod.fst (Prod.snd (List.getD aj (Int.toNat ve) (false,(1,[],[]),((0:Int),[],()),((0:Int),[],()),((0:Int),[],()),())).2.1),[]),Prod.snd (List.getD aj (Int.toNat ve) (false,(1,[],[]),((0:Int),[],()),((0:Int),[],()),((0:Int),[],()),())).2),ak,ah,()))]))) (.f8 (r9 IntKind.i64 (ve+(1:Int))) (.ctL (g8 (d8 Tryz.prog 25) 4) (St.mk [(0,AV.ptr 2000000 []),(3,AV.val U8 v3),(4,AV.val M6 v4),(18,AV.val d9 vi),(19,AV.val d9 (ve+(1:Int)))] [(2000000,i6.var wg ((aB,ao,()),aj,ak,ah,()))]))))) (.f8 ((0:Int)<=ve) (.f8 (r9 IntKind.i64 (ve+(1:Int))) (.ctL (g8 (d8 Tryz.prog 25) 4) (St.mk [(0,AV.ptr 2000000 []),(3,AV.val U8 (bOr IntKind.u8 v3 (T4 IntKind.u8 ao (IntKind.wrap IntKind.u8 ((1:Int)*(2:Int)^min (Int.toNat ve) (IntKind.bits IntKind.u8)))))),(4,AV.val M6 v4),(18,AV.val d9 vi),(19,AV.val d9 (ve+(1:Int)))] [(2000000,i6.var wg ((aB,ao,()),aj,ak,ah,()))])))))) (.f8 (True) (cond (decide (Prod.fst (R5 (aB,ao,()) v3 (0:Int)).2≠(0:Int))) (.ret ((Prod.fst (R5 (aB,ao,()) v3 (0:Int)).2,((aB,ao,()),aj,ak,ah,()),()))) (.ctL (g8 (d8 Tryz.prog 25) 16) (St.mk [(0,AV.ptr 2000000 []),(4,AV.val M6 v4),(7,AV.ptr 7 []),(67,AV.val d9 (↑(List.length aj):Int)),(68,AV.val d9 (0:Int))] [(7,i6.var View (R5 (aB,ao,()) v3 (0:Int)).1),(2000000,i6.var wg ((aB,ao,()),aj,ak,ah,()))])))):=by kernel_rfl
def LW (v4:List (Int×yY×Unit)) (wi:Int) (vk:Int) (cL:Int) (bu:Int) (aB:Int) (ao:Int) (aj:List M4) (ak:List yY) (ah:List yY):St:=St.mk [(0,AV.ptr 2000000 []),(4,AV.val M6 v4),(7,AV.ptr 7 []),(67,AV.val d9 wi),(68,AV.val d9 vk)] [(7,i6.var View (cL,bu,())),(2000000,i6.var wg ((aB,ao,()),aj,ak,ah,()))]
theorem b72 (v4:List (Int×yY×Unit)) (wi:Int) (vk:Int) (cL:Int) (bu:Int) (aB:Int) (ao:Int) (aj:List M4) (ak:List yY) (ah:List yY):exec xX 1000 (.code (g8 (d8 Tryz.prog 25) 16).1::.inLoop (g8 (d8 Tryz.prog 25) 16).1::(g8 (d8 Tryz.prog 25) 16).2) (LW v4 wi vk cL bu aB ao aj ak ah) =
  let q1:=(List.getD aj (Int.toNat vk) (false,(1,[],[]),((0:Int),[],()),((0:Int),[],()),((0:Int),[],()),())); let q2:=M6; let q0:=(Ty.pair Ty.bool (Ty.pair (Ty.B9 r8) (Ty.pair R6 (Ty.pair (Ty.pair d9 (Ty.pair q2 Ty.unit)) (Ty.pair (Ty.pair d9 (Ty.pair q2 Ty.unit)) Ty.unit))))); let q3:=(↑(List.length q1.2.1.2.1):Int); let q4:=View; let q5:=(Ty.pair q4 (Ty.pair (Ty.d0 true q0) (Ty.pair (Ty.d0 true Ty.str) (Ty.pair (Ty.d0 true Ty.str) Ty.unit)))); cond (decide (vk<wi)) (.f8 ((0:Int)<=vk/\vk<(↑(List.length aj):Int)) (.f8 (List.length (List.map (rdV q0) aj)<=6) (cond (s8 ((aB,ao,()),List.map (rdV q0) aj,ak,ah,()) vk) (.f8 ((0:Int)<=q3/\q3<=(↑(List.length v4):Int)/\(↑(List.length v4):Int)<=(↑(List.length v4):Int)) (.ctL (g8 (d8 Tryz.prog 25) 22) (St.mk [(0,AV.ptr 2000000 []),(4,AV.val q2 v4),(7,AV.ptr 7 []),(9,AV.val d9 vk),(10,AV.ptr 2000000 [Step.l8 1,Step.idx vk]),(11,AV.val d9 (0:Int)),(67,AV.val d9 wi),(68,AV.val d9 vk),(86,AV.val q2 (o5 q3 (↑(List.length v4):Int) v4)),(87,AV.val d9 (↑(List.length (o5 q3 (↑(List.length v4):Int) v4)):Int)),(88,AV.val d9 (0:Int))] [(7,i6.var q4 (cL,bu,())),(2000000,i6.var q5 ((aB,ao,()),aj,ak,ah,()))]))) (.f8 (r9 IntKind.i64 (vk+(1:Int))) (.ctL (g8 (d8 Tryz.prog 25) 16) (St.mk [(0,AV.ptr 2000000 []),(4,AV.val q2 v4),(7,AV.ptr 7 []),(67,AV.val d9 wi),(68,AV.val d9 (vk+(1:Int)))] [(7,i6.var q4 (cL,bu,())),(2000000,i6.var q5 ((aB,ao,()),List.set aj (Int.toNat vk) (Prod.fst q1,Prod.fst q1.2,Prod.fst q1.2.2,Prod.fst q1.2.2.2,((0:Int),[],()),Prod.snd q1.2.2.2.2),ak,ah,()))])))))) (.ret (((0:Int),((cL,bu,()),aj,[],ah,()),()))):=by kernel_rfl
def LX (v4:List (Int×yY×Unit)) (v9:Int) (aQ:Int) (v11:Int) (wi:Int) (vk:Int) (yP:List (Int×yY×Unit)) (v87:Int) (wK:Int) (cL:Int) (bu:Int) (aB:Int) (ao:Int) (aj:List M4) (ak:List yY) (ah:List yY):St:=St.mk [(0,AV.ptr 2000000 []),(4,AV.val M6 v4),(7,AV.ptr 7 []),(9,AV.val d9 v9),(10,AV.ptr 2000000 [Step.l8 1,Step.idx aQ]),(11,AV.val d9 v11),(67,AV.val d9 wi),(68,AV.val d9 vk),(86,AV.val M6 yP),(87,AV.val d9 v87),(88,AV.val d9 wK)] [(7,i6.var View (cL,bu,())),(2000000,i6.var wg ((aB,ao,()),aj,ak,ah,()))]
theorem b71 (v4:List (Int×yY×Unit)) (v9:Int) (aQ:Int) (v11:Int) (wi:Int) (vk:Int) (yP:List (Int×yY×Unit)) (v87:Int) (wK:Int) (cL:Int) (bu:Int) (aB:Int) (ao:Int) (aj:List M4) (ak:List yY) (ah:List yY):exec xX 1000 (.code (g8 (d8 Tryz.prog 25) 22).1::.inLoop (g8 (d8 Tryz.prog 25) 22).1::(g8 (d8 Tryz.prog 25) 22).2) (LX v4 v9 aQ v11 wi vk yP v87 wK cL bu aB ao aj ak ah) =
  let q3:=(false,(1,[],[]),((0:Int),[],()),((0:Int),[],()),((0:Int),[],()),()); let q1:=(List.set aj (Int.toNat aQ) (Prod.fst (List.getD aj (Int.toNat aQ) q3),(1,v4,[]),Prod.snd (List.getD aj (Int.toNat aQ) q3).2)); let q0:=(List.getD q1 (Int.toNat aQ) q3); let q4:=q0.2.2.1.2.1; let q2:=(↑(List.length q4):Int); let q6:=M6; let q7:=View; let q5:=(Ty.pair q7 (Ty.pair (Ty.d0 true (Ty.pair Ty.bool (Ty.pair (Ty.B9 r8) (Ty.pair R6 (Ty.pair (Ty.pair d9 (Ty.pair q6 Ty.unit)) (Ty.pair (Ty.pair d9 (Ty.pair q6 Ty.unit)) Ty.unit)))))) (Ty.pair (Ty.d0 true Ty.str) (Ty.pair (Ty.d0 true Ty.str) Ty.unit)))); let q8:=(2000000,i6.var q5 ((aB,ao,()),aj,ak,ah,())); cond (decide (wK<v87)) (.f8 ((0:Int)<=wK/\wK<(↑(List.length yP):Int)) (cond (decide (Prod.fst (List.getD yP (Int.toNat wK) ((0:Int),[],()))=v9)) (.f8 (r9 IntKind.i64 (v11+(1:Int))) (.f8 (r9 IntKind.i64 (wK+(1:Int))) (.ctL (g8 (d8 Tryz.prog 25) 22) (St.mk [(0,AV.ptr 2000000 []),(4,AV.val q6 v4),(7,AV.ptr 7 []),(9,AV.val d9 v9),(10,AV.ptr 2000000 [Step.l8 1,Step.idx aQ]),(11,AV.val d9 (v11+(1:Int))),(67,AV.val d9 wi),(68,AV.val d9 vk),(86,AV.val q6 yP),(87,AV.val d9 v87),(88,AV.val d9 (wK+(1:Int)))] [(7,i6.var q7 (cL,bu,())),q8])))) (.f8 (r9 IntKind.i64 (wK+(1:Int))) (.ctL (g8 (d8 Tryz.prog 25) 22) (St.mk [(0,AV.ptr 2000000 []),(4,AV.val q6 v4),(7,AV.ptr 7 []),(9,AV.val d9 v9),(10,AV.ptr 2000000 [Step.l8 1,Step.idx aQ]),(11,AV.val d9 v11),(67,AV.val d9 wi),(68,AV.val d9 vk),(86,AV.val q6 yP),(87,AV.val d9 v87),(88,AV.val d9 (wK+(1:Int)))] [(7,i6.var q7 (cL,bu,())),q8]))))) (.f8 (List.length v4<=5864062014805) (.f8 (((0:Int)<=if q2<v11 then q2 else v11)/\(if q2<v11 then q2 else v11)<=q2/\q2<=q2) (.f8 (List.length (o5 (if q2<v11 then q2 else v11) q2 q4)<=1048576) (.f8 (r9 IntKind.i64 (vk+(1:Int))) (.ctL (g8 (d8 Tryz.prog 25) 16) (St.mk [(0,AV.ptr 2000000 []),(4,AV.val q6 v4),(7,AV.ptr 7 []),(67,AV.val d9 wi),(68,AV.val d9 (vk+(1:Int)))] [(7,i6.var q7 (cL,bu,())),(2000000,i6.var q5 ((aB,ao,()),List.set (List.set (List.set q1 (Int.toNat aQ) (Prod.fst q0,Prod.fst q0.2,((0:Int),o5 (if q2<v11 then q2 else v11) q2 q4,()),Prod.snd q0.2.2)) (Int.toNat aQ) (Prod.fst (List.getD (List.set q1 (Int.toNat aQ) (Prod.fst q0,Prod.fst q0.2,((0:Int),o5 (if q2<v11 then q2 else v11) q2 q4,()),Prod.snd q0.2.2)) (Int.toNat aQ) q3),Prod.fst (List.getD (List.set q1 (Int.toNat aQ) (Prod.fst q0,Prod.fst q0.2,((0:Int),o5 (if q2<v11 then q2 else v11) q2 q4,()),Prod.snd q0.2.2)) (Int.toNat aQ) q3).2,Prod.fst (List.getD (List.set q1 (Int.toNat aQ) (Prod.fst q0,Prod.fst q0.2,((0:Int),o5 (if q2<v11 then q2 else v11) q2 q4,()),Prod.snd q0.2.2)) (Int.toNat aQ) q3).2.2,((0:Int),[],()),Prod.snd (List.getD (List.set q1 (Int.toNat aQ) (Prod.fst q0,Prod.fst q0.2,((0:Int),o5 (if q2<v11 then q2 else v11) q2 q4,()),Prod.snd q0.2.2)) (Int.toNat aQ) q3).2.2.2)) (Int.toNat aQ) (Prod.fst (List.getD (List.set (List.set q1 (Int.toNat aQ) (Prod.fst q0,Prod.fst q0.2,((0:Int),o5 (if q2<v11 then q2 else v11) q2 q4,()),Prod.snd q0.2.2)) (Int.toNat aQ) (Prod.fst (List.getD (List.set q1 (Int.toNat aQ) (Prod.fst q0,Prod.fst q0.2,((0:Int),o5 (if q2<v11 then q2 else v11) q2 q4,()),Prod.snd q0.2.2)) (Int.toNat aQ) q3),Prod.fst (List.getD (List.set q1 (Int.toNat aQ) (Prod.fst q0,Prod.fst q0.2,((0:Int),o5 (if q2<v11 then q2 else v11) q2 q4,()),Prod.snd q0.2.2)) (Int.toNat aQ) q3).2,Prod.fst (List.getD (List.set q1 (Int.toNat aQ) (Prod.fst q0,Prod.fst q0.2,((0:Int),o5 (if q2<v11 then q2 else v11) q2 q4,()),Prod.snd q0.2.2)) (Int.toNat aQ) q3).2.2,((0:Int),[],()),Prod.snd (List.getD (List.set q1 (Int.toNat aQ) (Prod.fst q0,Prod.fst q0.2,((0:Int),o5 (if q2<v11 then q2 else v11) q2 q4,()),Prod.snd q0.2.2)) (Int.toNat aQ) q3).2.2.2)) (Int.toNat aQ) q3),Prod.fst (List.getD (List.set (List.set q1 (Int.toNat aQ) (Prod.fst q0,Prod.fst q0.2,((0:Int),o5 (if q2<v11 then q2 else v11) q2 q4,()),Prod.snd q0.2.2)) (Int.toNat aQ) (Prod.fst (List.getD (List.set q1 (Int.toNat aQ) (Prod.fst q0,Prod.fst q0.2,((0:Int),o5 (if q2<v11 then q2 else v11) q2 q4,()),Prod.snd q0.2.2)) (Int.toNat aQ) q3),Prod.fst (List.getD (List.set q1 (Int.toNat aQ) (Prod.fst q0,Prod.fst q0.2,((0:Int),o5 (if q2<v11 then q2 else v11) q2 q4,()),Prod.snd q0.2.2)) (Int.toNat aQ) q3).2,Prod.fst (List.getD (List.set q1 (Int.toNat aQ) (Prod.fst q0,Prod.fst q0.2,((0:Int),o5 (if q2<v11 then q2 else v11) q2 q4,()),Prod.snd q0.2.2)) (Int.toNat aQ) q3).2.2,((0:Int),[],()),Prod.snd (List.getD (List.set q1 (Int.toNat aQ) (Prod.fst q0,Prod.fst q0.2,((0:Int),o5 (if q2<v11 then q2 else v11) q2 q4,()),Prod.snd q0.2.2)) (Int.toNat aQ) q3).2.2.2)) (Int.toNat aQ) q3).2,Prod.fst (List.getD (List.set (List.set q1 (Int.toNat aQ) (Prod.fst q0,Prod.fst q0.2,((0:Int),o5 (if q2<v11 then q2 else v11) q2 q4,()),Prod.snd q0.2.2)) (Int.toNat aQ) (Prod.fst (List.getD (List.set q1 (Int.toNat aQ) (Prod.fst q0,Prod.fst q0.2,((0:Int),o5 (if q2<v11 then q2 else v11) q2 q4,()),Prod.snd q0.2.2)) (Int.toNat aQ) q3),Prod.fst (List.getD (List.set q1 (Int.toNat aQ) (Prod.fst q0,Prod.fst q0.2,((0:Int),o5 (if q2<v11 then q2 else v11) q2 q4,()),Prod.snd q0.2.2)) (Int.toNat aQ) q3).2,Prod.fst (List.getD (List.set q1 (Int.toNat aQ) (Prod.fst q0,Prod.fst q0.2,((0:Int),o5 (if q2<v11 then q2 else v11) q2 q4,()),Prod.snd q0.2.2)) (Int.toNat aQ) q3).2.2,((0:Int),[],()),Prod.snd (List.getD (List.set q1 (Int.toNat aQ) (Prod.fst q0,Prod.fst q0.2,((0:Int),o5 (if q2<v11 then q2 else v11) q2 q4,()),Prod.snd q0.2.2)) (Int.toNat aQ) q3).2.2.2)) (Int.toNat aQ) q3).2.2,Prod.fst (List.getD (List.set (List.set q1 (Int.toNat aQ) (Prod.fst q0,Prod.fst q0.2,((0:Int),o5 (if q2<v11 then q2 else v11) q2 q4,()),Prod.snd q0.2.2)) (Int.toNat aQ) (Prod.fst (List.getD (List.set q1 (Int.toNat aQ) (Prod.fst q0,Prod.fst q0.2,((0:Int),o5 (if q2<v11 then q2 else v11) q2 q4,()),Prod.snd q0.2.2)) (Int.toNat aQ) q3),Prod.fst (List.getD (List.set q1 (Int.toNat aQ) (Prod.fst q0,Prod.fst q0.2,((0:Int),o5 (if q2<v11 then q2 else v11) q2 q4,()),Prod.snd q0.2.2)) (Int.toNat aQ) q3).2,Prod.fst (List.getD (List.set q1 (Int.toNat aQ) (Prod.fst q0,Prod.fst q0.2,((0:Int),o5 (if q2<v11 then q2 else v11) q2 q4,()),Prod.snd q0.2.2)) (Int.toNat aQ) q3).2.2,((0:Int),[],()),Prod.snd (List.getD (List.set q1 (Int.toNat aQ) (Prod.fst q0,Prod.fst q0.2,((0:Int),o5 (if q2<v11 then q2 else v11) q2 q4,()),Prod.snd q0.2.2)) (Int.toNat aQ) q3).2.2.2)) (Int.toNat aQ) q3).2.2.2,((0:Int),[],()),Prod.snd (List.getD (List.set (List.set q1 (Int.toNat aQ) (Prod.fst q0,Prod.fst q0.2,((0:Int),o5 (if q2<v11 then q2 else v11) q2 q4,()),Prod.snd q0.2.2)) (Int.toNat aQ) (Prod.fst (List.getD (List.set q1 (Int.toNat aQ) (Prod.fst q0,Prod.fst q0.2,((0:Int),o5 (if q2<v11 then q2 else v11) q2 q4,()),Prod.snd q0.2.2)) (Int.toNat aQ) q3),Prod.fst (List.getD (List.set q1 (Int.toNat aQ) (Prod.fst q0,Prod.fst q0.2,((0:Int),o5 (if q2<v11 then q2 else v11) q2 q4,()),Prod.snd q0.2.2)) (Int.toNat aQ) q3).2,Prod.fst (List.getD (List.set q1 (Int.toNat aQ) (Prod.fst q0,Prod.fst q0.2,((0:Int),o5 (if q2<v11 then q2 else v11) q2 q4,()),Prod.snd q0.2.2)) (Int.toNat aQ) q3).2.2,((0:Int),[],()),Prod.snd (List.getD (List.set q1 (Int.toNat aQ) (Prod.fst q0,Prod.fst q0.2,((0:Int),o5 (if q2<v11 then q2 else v11) q2 q4,()),Prod.snd q0.2.2)) (Int.toNat aQ) q3).2.2.2)) (Int.toNat aQ) q3).2.2.2.2),ak,ah,()))])))))):=by kernel_rfl
theorem KM {α:Type} {l:List α} {a:Nat} (h:a<=l.length):o5 (a:Int) (l.length:Int) l=l.drop a:=by
  unfold o5;rw [aAu (by rw [aAq]; omega)];congr 1
theorem WW (a b:Nat):(if (a:Int)<(b:Int) then (a:Int) else (b:Int))=((min b a:Nat):Int):=by split<;>omega
attribute [local irreducible] s8 R5 E2 in
theorem Uo:Pg.Valid Tryz.prog 25:=by
  refine p7.n8 CN rfl rfl Tryz.func25 (c:=d8 Tryz.prog 25) rfl rfl CO rfl ?_;rintro ⟨⟨⟨(v0:Int),(v1:Int),⟨⟩⟩,(al0:List M4),(od:List yY),(wy:List yY),⟨⟩⟩,⟨⟩⟩ ⟨he,(bc:yM (wa ((v0,v1,()),al0,od,wy,()))),(bt:¬ (L7 (wa ((v0,v1,()),al0,od,wy,()))).2.1≠0)⟩ -
  have he:al0=(al0.map rdP).map toM:=congrArg (λ m:Ew=>m.2.1) he;obtain ⟨w,hw⟩:∃ w:f9,w=wa ((v0,v1,()),al0,od,wy,()):=⟨_,rfl⟩;rw [<- hw] at bc bt;have jN:w.1=(v0,v1,()):=by rw [hw]
  have jM:w.2.1=al0.map rdP:=by rw [hw]
  have iP:∀ (al:List M4) (i:Nat),al.length=w.2.1.length->((al.map rdP).getD i j8).1=(w.2.1.getD i j8).1->∀ r,s8 ((v0,v1,()),al.map rdP,r) i=s8 w i:=λ al i h1 h2 r=>by
    have:=b68 (v:=(v0,v1,())) (al':=al.map rdP) (al:=w.2.1) (r:=w.2.2) (r':=r) (p:=(i:Int)) (by rw [aAn]; exact h1) h2;rw [this,show ((v0,v1,()),w.2.1,w.2.2)=w by rw [hw]]
  have mT:al0.length=w.2.1.length:=by rw [jM,aAn]
  have mZ:wz w al0:=by
    have:=wz.start w;rw [jM,<- he] at this;exact this
  have dZ:=Qo (w:=w) bc.UX;refine j6 (n:=1000) CN CO ?_;refine i7 (c3f v0 v1 al0 od wy) ?_;have eL:vy (E2 (wa ((v0,v1,()),al0,od,wy,())))=vy (E2 w):=by rw [hw]
  show Go.Ex.Reach xX Tryz.f25 ((0:Int),()) (vy (E2 (wa ((v0,v1,()),al0,od,wy,()))),()) (.code (g8 (d8 Tryz.prog 25) 4).1::.inLoop (g8 (d8 Tryz.prog 25) 4).1::(g8 (d8 Tryz.prog 25) 4).2) (LL (D4 w 0) (J0 w 0) (al0.length:Int) ((0:Nat):Int) v0 v1 al0 od wy);rw [eL,mT];refine Reach.M7 CN CO (λ i:Nat×List M4=>LL (D4 w i.1) (J0 w i.1) (w.2.1.length:Int) (i.1:Int) v0 v1 i.2 od wy) (λ i=>i.1<=w.2.1.length/\wz w i.2)
    (λ i=>w.2.1.length - i.1) 1000 (λ _=>⟨s9 rfl,s9 rfl⟩) ?_ (0,al0) ⟨aAz _,mZ⟩
  rintro ⟨i,al⟩ ⟨k1,hi⟩ - ih;have k1:i<=w.2.1.length:=k1;have hi:wz w al:=hi;have ih:∀ al',i<w.2.1.length->wz w al'->_:=λ al' h h2=>ih (i+1,al') ⟨by show i+1<=w.2.1.length; omega,h2⟩ (by show w.2.1.length - (i+1)<w.2.1.length - i; omega);refine i7 (b9i ..) ?_;have e1:((i:Nat):Int)+1=((i+1:Nat):Int):=by omega
  have tu:=bc.K1;have hA:=iP al i hi.len (by rw [QA,hi.rd i]);simp only [j7,Tree.holds,e1,sL];refine ⟨λ c=>⟨by show (al.map rdP).length<=6; rw [aAn]; have:=hi.len; omega,λ _=>⟨λ a=>⟨by have:=hi.len; omega,λ _=>⟨λ b=>⟨F6.2 ⟨by omega,by omega⟩,λ _=>?_⟩,λ b=>⟨F6.2 ⟨by omega,by omega⟩,λ _=>?_⟩⟩⟩,λ a=>⟨by omega,λ _=>⟨F6.2 ⟨by omega,by omega⟩,λ _=>?_⟩⟩⟩⟩,λ c=>⟨λ d=>?_,λ d=>?_⟩⟩
  . have a':s8 w i=true:=(hA _).symm.trans a;have hl:(al.getD i dM).2.1.2.1=(w.2.1.getD i j8).2.1:=congrArg (λ x:n9=>x.2.1) (hi.rd i);have b':(J0 w i).length<(w.2.1.getD i j8).2.1.length:=by rw [<- hl]; exact_mod_cast b
    have:=ih _ (by omega) (hi.vI (n:=0) a');rw [show D4 w (i+1)=D4 w i from if_pos a',show J0 w (i+1)=(al.getD i dM).2.1.2.1 by rw [J0,if_pos ⟨a',b'⟩,hl]] at this;exact this
  . have a':s8 w i=true:=(hA _).symm.trans a;have hl:(al.getD i dM).2.1.2.1=(w.2.1.getD i j8).2.1:=congrArg (λ x:n9=>x.2.1) (hi.rd i);have b':¬ (J0 w i).length<(w.2.1.getD i j8).2.1.length:=by rw [<- hl]; intro h; exact b (by exact_mod_cast h)
    have:=ih al (by omega) hi;rw [show D4 w (i+1)=D4 w i from if_pos a',show J0 w (i+1)=J0 w i by rw [J0,if_neg (λ h=>b' h.2)]] at this;exact this
  . have a':s8 w i=false:=(hA _).symm.trans a;have:=ih al (by omega) hi;rw [show D4 w (i+1)=bOr .u8 (D4 w i) (T4 .u8 w.1.2.1 (IntKind.wrap .u8 (1*2^min i IntKind.u8.bits))) from if_neg (by rw [a']; decide),show J0 w (i+1)=J0 w i by rw [J0,if_neg (λ h=>by rw [a'] at h; cases h.1)],jN] at this;exact this
  . obtain rfl:i=w.2.1.length:=by omega
    exact absurd (by rw [L7,jN]; exact d) bt
  obtain rfl:i=w.2.1.length:=by omega
  obtain ⟨L,hL⟩:∃ L,L=J0 w w.2.1.length:=⟨_,rfl⟩;have hg:∀ i:Nat,s8 w i=true->i<w.2.1.length->(w.2.1.getD i j8).2.1.length<=L.length:=λ i h h2=>by rw [hL]; exact EA h h2
  have ug:L.length<=5864062014805:=by rw [hL]; exact dZ _
  rw [<- hL];obtain ⟨z0,z1,hz⟩:∃ z0 z1,(R5 (v0,v1,()) (D4 w w.2.1.length) 0).1=(z0,z1,()):=⟨_,_,rfl⟩;have eN:E2 w=((z0,z1,()),w.2.1.mapIdx (vr w L),[],wy,()):=by
    unfold E2;rw [<- hL,L7,jN,hz,hw]
  rw [eN];suffices go:Go.Ex.Reach xX Tryz.f25 ((0:Int),()) (vy ((z0,z1,()),w.2.1.mapIdx (vr w L),[],wy,()),()) (.code (g8 (d8 Tryz.prog 25) 16).1::.inLoop (g8 (d8 Tryz.prog 25) 16).1::(g8 (d8 Tryz.prog 25) 16).2) (LW L (w.2.1.length:Int) ((0:Nat):Int) z0 z1 v0 v1 al od wy) by
    rw [<- hi.len] at go;have h0:(R5 (v0,v1,()) (D4 w w.2.1.length) 0).1.1=z0:=by rw [hz]
    have h1:(R5 (v0,v1,()) (D4 w w.2.1.length) 0).1.2.1=z1:=by rw [hz]
    subst h0; subst h1;rw [hi.len] at go ⊢;exact go
  refine Reach.M7 CN CO (λ i:Nat×List M4=>LW L (w.2.1.length:Int) (i.1:Int) z0 z1 v0 v1 i.2 od wy) (λ i=>i.1<=w.2.1.length/\wT w L i.1 i.2)
    (λ i=>w.2.1.length - i.1) 1000 (λ _=>⟨s9 rfl,s9 rfl⟩) ?_ (0,al) ⟨aAz _,hi.next L⟩
  clear ih;rintro ⟨k,al⟩ ⟨k1,hi⟩ - ih;have k1:k<=w.2.1.length:=k1;have hi:wT w L k al:=hi;have ih:∀ al',k<w.2.1.length->wT w L (k+1) al'->_:=λ al' h h2=>ih (k+1,al') ⟨by show k+1<=w.2.1.length; omega,h2⟩ (by show w.2.1.length - (k+1)<w.2.1.length - k; omega);refine i7 (b72 ..) ?_;have e2:((k:Nat):Int)+1=((k+1:Nat):Int):=by omega
  have hA:=iP al k hi.len (hi.act k);have hl:(al.getD k dM).2.1.2.1=(w.2.1.getD k j8).2.1:=congrArg (λ x:n9=>x.2.1) (hi.rd k (aAj _));have gk:=hi.len;simp only [j7,Tree.holds,e2,sL];refine ⟨λ c=>⟨⟨by omega,by omega⟩,λ _=>⟨by show (al.map rdP).length<=6; rw [aAn]; omega,λ _=>⟨λ a=>⟨?_,λ _=>?_⟩,λ a=>⟨F6.2 ⟨by omega,by omega⟩,λ _=>?_⟩⟩⟩⟩,λ c=>?_⟩
  . rw [hl];have:=hg k ((hA _).symm.trans a) (by omega);omega
  . have a':s8 w k=true:=(hA _).symm.trans a;have hb:=hg k a' (by omega);rw [hl,KM hb];obtain ⟨D,hD⟩:∃ D,D=L.drop (w.2.1.getD k j8).2.1.length:=⟨_,rfl⟩;have uY:D.length<=5864062014805:=by rw [hD,aAq]; omega
    rw [<- hD];suffices go:Go.Ex.Reach xX Tryz.f25 ((0:Int),()) (vy ((z0,z1,()),w.2.1.mapIdx (vr w L),[],wy,()),()) (.code (g8 (d8 Tryz.prog 25) 22).1::.inLoop (g8 (d8 Tryz.prog 25) 22).1::(g8 (d8 Tryz.prog 25) 22).2) (LX L (k:Int) (k:Int) ((countP k (D.take 0):Nat):Int) (w.2.1.length:Int) (k:Int) D (D.length:Int) ((0:Nat):Int) z0 z1 v0 v1 al od wy) by exact go
    refine Reach.M7 CN CO (λ j:Nat=>LX L (k:Int) (k:Int) ((countP k (D.take j):Nat):Int) (w.2.1.length:Int) (k:Int) D (D.length:Int) (j:Int) z0 z1 v0 v1 al od wy) (λ j=>j<=D.length)
      (λ j=>D.length - j) 1000 (λ _=>⟨s9 rfl,s9 rfl⟩) ?_ 0 (aAz _)
    rintro j k2 - ih2;have k2:j<=D.length:=k2;refine i7 (b71 ..) ?_;have e3:((j:Nat):Int)+1=((j+1:Nat):Int):=by omega
    have gR:countP k (D.take j)<=j:=aAv countP_le (by rw [aAk]; omega);have hG:∀ y:M4,(al.set k y).getD k (false,(1,[],[]),(0,[],()),(0,[],()),(0,[],()),())=y:=λ y=>by
      rw [aAb,aHe (by omega)]; rfl
    have hS:∀ y z:M4,(al.set k y).set k z=al.set k z:=λ y z=>List.set_set ..;have mU:(al.getD k dM).2.2.1.2.1.length<=1048576:=by
      have:=bc.late k;rw [<- hi.rd k (aAj _)] at this;exact this
    simp only [j7,Tree.holds,e3,hG,hS,WW,sL];refine ⟨λ d=>⟨by omega,λ _=>⟨λ e=>⟨F6.2 ⟨by omega,by omega⟩,λ _=>⟨F6.2 ⟨by omega,by omega⟩,λ _=>?_⟩⟩,λ e=>⟨F6.2 ⟨by omega,by omega⟩,λ _=>?_⟩⟩⟩,λ d=>?_⟩
    . have:=ih2 (j+1) (by show j+1<=D.length; omega) (by show D.length - (j+1)<D.length - j; omega);rw [TB (show j<D.length by omega),if_pos e,Int.natCast_add] at this;exact this
    . have:=ih2 (j+1) (by show j+1<=D.length; omega) (by show D.length - (j+1)<D.length - j; omega);rw [TB (show j<D.length by omega),if_neg e,aDt] at this;exact this
    . obtain rfl:j=D.length:=by omega
      have hr:=hi.rd k (aAj _);simp only [dM] at mU hr;refine ⟨ug,λ _=>⟨⟨by omega,by omega,aEb _⟩,λ _=>⟨?_,λ _=>⟨⟨by omega,by omega⟩,λ _=>?_⟩⟩⟩⟩
      . rw [KM (Nat.min_le_right ..),aAq]; omega
      . rw [KM (Nat.min_le_right ..),aDo];have:=ih _ (by omega) hi.step;rw [show vr w L k (w.2.1.getD k j8)=((w.2.1.getD k j8).1,L,(0,(w.2.1.getD k j8).2.2.1.2.1.drop (min (countP k D) (w.2.1.getD k j8).2.2.1.2.1.length),()),(0,[],()),(0,[],()),()) from (if_pos a').trans (by rw [hD])] at this;rw [<- hr] at this;exact this
  . have a':s8 w k=false:=(hA _).symm.trans a;have:=ih _ (by omega) hi.step;rw [show vr w L k (w.2.1.getD k j8)=((w.2.1.getD k j8).1,(w.2.1.getD k j8).2.1,(w.2.1.getD k j8).2.2.1,(w.2.1.getD k j8).2.2.2.1,(0,[],()),()) from if_neg (by rw [a']; decide)] at this;have hs:=hi.same k (aAj _) a';simp only [dM] at hs;rw [hs];exact this
  . obtain rfl:k=w.2.1.length:=by omega
    have:=hi.fin;subst this;rfl
end Go.Proofs.YtijlnmgondibnaaGreatDoor
