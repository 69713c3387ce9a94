import Derived.Test.YtijlnmgondibnaaGreatDoorJ1
import Derived.Test.YtijlnmgondibnaaGreatDoorProg
import Derived.Lib.Atoi
import Derived.Lib.ItoaMem
import Derived.Lib.IndexMore
import Derived.Shelf.Strconv.Itoa3
import Derived.Lib.ItoaLen
import Derived.Shelf.Strings.Split
import Derived.Lib.SlTrimSet
import Derived.Lib.Strings
import Derived.WalkKit
import Derived.Lib.Walk
import Derived.Shelf.RegionOpenPlain
import Derived.Shelf.Strings.Prefix
import Derived.Shelf.Strings.SlTrimAscii
import Derived.Shelf.Strconv.Atoi
import Derived.Lib.SmallJoins
import Derived.Shelf.Strings.Cut
set_option linter.unusedVariables false
set_option linter.unusedSimpArgs false
set_option linter.unusedSectionVars false
namespace Go.Proofs.YtijlnmgondibnaaGreatDoor
open Go.Ex
set_option maxRecDepth 100000
attribute [local irreducible] Go.Ex.exec
theorem UJ:Ty.wb w4=24:=rfl
def AQ:r9:={ ps:=[.v (.d8 false w4)],rs:=[.d8 true w4],pre:=λ x=>List.length (α:=E5) x.1<=5864062014805,fn:=λ x=>x,out:=λ _=>() }
noncomputable def FR:Env:={ P:=Tryz.prog,tt:=tt,E4:=[],res:=[Go.ResultVar.tmp 2],rs:=[Ty.d8 true w4],ps:=[PK.v M6],D5:=[],nt:=8 }
theorem Oo:C0 FR:=C7 s9 trivial
theorem NO:D7 FR Tryz.f31:=⟨rfl,rfl⟩
theorem Ue (x0:List (Int×yY×Unit)):exec FR 1000 [.code (d9 Tryz.prog 31)] (y8 AQ.ps ((x0,()))) =
  .both (x0=[]) (.ret (([],()))) (.f9 ((0:Nat)+List.length x0<=140737488355328/\((0:Nat)+List.length x0)*Ty.wb w4<=140737488355328) (.ret (([]++x0,())))):=by kernel_rfl
theorem KQ:AQ.Valid Tryz.prog 31:=by
  refine r9.r7 Oo rfl rfl Tryz.func31 (c:=d9 Tryz.prog 31) rfl rfl NO rfl ?_;rintro ⟨(l:List (E5)),⟨⟩⟩ hp -
  have hp:l.length<=5864062014805:=hp;refine j8 (n:=1000) Oo NO ?_;refine i8 (Ue l) ?_;simp only [j7,Tree.holds,UJ,sL];refine ⟨λ h=>?_,by omega,λ _=>rfl⟩;show (([],()):List (E5)×Unit)=(l,());rw [show l=[] from h]
theorem UL:Ty.wb .str=16:=rfl
def Dv:r9:={ ps:=[.v (.d8 false .str)],rs:=[.d8 true .str],pre:=λ x=>List.length (α:=yY) x.1<=1048576,fn:=λ x=>x,out:=λ _=>() }
noncomputable def FL:Env:={ P:=Tryz.prog,tt:=tt,E4:=[],res:=[Go.ResultVar.tmp 2],rs:=[Ty.d8 true Ty.str],ps:=[PK.v (Ty.d8 false Ty.str)],D5:=[],nt:=8 }
theorem NL:C0 FL:=C7 s9 trivial
theorem NU:D7 FL Tryz.f32:=⟨rfl,rfl⟩
theorem Uk (x0:List yY):exec FL 1000 [.code (d9 Tryz.prog 32)] (y8 Dv.ps ((x0,()))) =
  .both (x0=[]) (.ret (([],()))) (.f9 ((0:Nat)+List.length x0<=140737488355328/\((0:Nat)+List.length x0)*Ty.wb Ty.str<=140737488355328) (.ret (([]++x0,())))):=by kernel_rfl
theorem RY:Dv.Valid Tryz.prog 32:=by
  refine r9.r7 NL rfl rfl Tryz.func32 (c:=d9 Tryz.prog 32) rfl rfl NU rfl ?_;rintro ⟨(l:List yY),⟨⟩⟩ hp -
  have hp:l.length<=1048576:=hp;refine j8 (n:=1000) NL NU ?_;refine i8 (Uk l) ?_;simp only [j7,Tree.holds,UL,sL];refine ⟨λ h=>?_,by omega,λ _=>rfl⟩;show (([],()):List yY×Unit)=(l,());rw [show l=[] from h]
abbrev M5:=Bool×(Nat×(List E5×List E5))×FrD×ToD×ToD×Unit
abbrev a87:=vP×List M5×List yY×List yY×Unit
def Gu:r9:={ ps:=[.v (.d8 false .str)],rs:=[.d8 false .str],new:=true,pre:=Dv.pre,fn:=λ x=>x,out:=λ _=>() }
theorem Tl:Gu.Valid Tryz.prog 32:=RY.share (rs':=[.d8 false .str]) rfl rfl rfl
def Qf (w:f8) (p:Int) (g:Int):Int:=if l4 w p=true then g else bOr .u8 g (U2 .u8 w.1.2.1 (IntKind.wrap .u8 (1*2^min p.toNat IntKind.u8.bits)))
def E3 (w:f8):Nat->Int
  | 0=>0
  | k+1=>Qf w k (E3 w k)
def S4 (w:f8):vP×Int×Unit:=S5 w.1 (E3 w w.2.1.length) 0
def Py:r9:={ ps:=[.rd N9],rs:=[f7],pre:=λ x=>List.length (α:=p7) (x.1:f8).2.1<=6/\(S4 x.1).2.1≠0,fn:=λ x=>((S4 x.1).2.1,()),out:=λ _=>() }
noncomputable def Cg:Env:={ P:=Tryz.prog,tt:=ttW,E4:=[(47,yS),(53,Bw),(31,AQ),(32,Gu)],res:=[Go.ResultVar.tmp 2],rs:=[Ty.int IntKind.i64],ps:=[PK.rd N9],D5:=[(4,[(0,none),(3,none),(4,none),(18,none),(19,none)]),(16,[(0,none),(4,none),(7,none),(67,none),(68,none)]),(22,[(0,none),(4,none),(7,none),(9,none),(10,none),(11,none),(67,none),(68,none),(86,none),(87,none),(88,none)]),(998014,[(4,some M6)])],nt:=139 }
theorem Lh:C0 Cg:=C7 Nb ⟨CE,Tz,KQ,Tl,trivial⟩
theorem Lq:D7 Cg Tryz.f25:=⟨rfl,rfl⟩
theorem Zk (aj:Int) (af:Int) (ab:List p7) (ae:List yY) (aa:List yY):exec Cg 1000 [.code (d9 Tryz.prog 25)] (y8 Py.ps ((((aj,af,()),ab,ae,aa,()),()))) =
  .ctL (g8 (d9 Tryz.prog 25) 4) (St.mk [(0,AV.P8 N9 ((aj,af,()),ab,ae,aa,())),(3,AV.val U8 (0:Int)),(4,AV.val M6 []),(18,AV.val f7 (↑(List.length ab):Int)),(19,AV.val f7 (0:Int))] []):=by kernel_rfl
def Li (cE:Int) (bE:Int) (cd:List p7) (cm:List yY) (bK:List yY) (v3:Int) (v4:List (Int×yY×Unit)) (uY:Int) (uW:Int):St:=St.mk [(0,AV.P8 N9 ((cE,bE,()),cd,cm,bK,())),(3,AV.val U8 v3),(4,AV.val M6 v4),(18,AV.val f7 uY),(19,AV.val f7 uW)] []
theorem b8R (cE:Int) (bE:Int) (cd:List p7) (cm:List yY) (bK:List yY) (v3:Int) (v4:List (Int×yY×Unit)) (uY:Int) (uW:Int):exec Cg 1000 (.code (g8 (d9 Tryz.prog 25) 4).1::.inLoop (g8 (d9 Tryz.prog 25) 4).1::(g8 (d9 Tryz.prog 25) 4).2) (Li cE bE cd cm bK v3 v4 uY uW) =
  cond (decide (uW<uY)) (.f9 (List.length cd<=6) (cond (l4 ((cE,bE,()),cd,cm,bK,()) uW) (.f9 ((0:Int)<=uW/\uW<(↑(List.length cd):Int)) (cond (decide ((↑(List.length v4):Int)<(↑(List.length (Prod.fst (Prod.snd (List.getD cd (Int.toNat uW) (false,[],((0:Int),[],()),((0:Int),[],()),((0:Int),[],()),()))))):Int))) (.f9 (u7 IntKind.i64 (uW+(1:Int))) (.ctL (g8 (d9 Tryz.prog 25) 4) (St.mk [(0,AV.P8 N9 ((cE,bE,()),cd,cm,bK,())),(3,AV.val U8 v3),(4,AV.val M6 (Prod.fst (Prod.snd (List.getD cd (Int.toNat uW) (false,[],((0:Int),[],()),((0:Int),[],()),((0:Int),[],()),()))))),(18,AV.val f7 uY),(19,AV.val f7 (uW+(1:Int)))] []))) (.f9 (u7 IntKind.i64 (uW+(1:Int))) (.ctL (g8 (d9 Tryz.prog 25) 4) (St.mk [(0,AV.P8 N9 ((cE,bE,()),cd,cm,bK,())),(3,AV.val U8 v3),(4,AV.val M6 v4),(18,AV.val f7 uY),(19,AV.val f7 (uW+(1:Int)))] []))))) (.f9 ((0:Int)<=uW) (.f9 (u7 IntKind.i64 (uW+(1:Int))) (.ctL (g8 (d9 Tryz.prog 25) 4) (St.mk [(0,AV.P8 N9 ((cE,bE,()),cd,cm,bK,())),(3,AV.val U8 (bOr IntKind.u8 v3 (U2 IntKind.u8 bE (IntKind.wrap IntKind.u8 ((1:Int)*(2:Int)^min (Int.toNat uW) (IntKind.bits IntKind.u8)))))),(4,AV.val M6 v4),(18,AV.val f7 uY),(19,AV.val f7 (uW+(1:Int)))] [])))))) (.f9 (True) (cond (decide (Prod.fst (Prod.snd (S5 (cE,bE,()) v3 (0:Int)))≠(0:Int))) (.ret ((Prod.fst (Prod.snd (S5 (cE,bE,()) v3 (0:Int))),()))) (.ctL (g8 (d9 Tryz.prog 25) 16) (St.mk [(0,AV.P8 N9 ((cE,bE,()),cd,cm,bK,())),(4,AV.val M6 v4),(7,AV.ptr 7 []),(67,AV.val f7 (↑(List.length cd):Int)),(68,AV.val f7 (0:Int))] [(7,i7.var View (Prod.fst (S5 (cE,bE,()) v3 (0:Int))))])))):=by kernel_rfl
theorem b27:Py.Valid Tryz.prog 25:=by
  refine r9.r7 Lh rfl rfl Tryz.func25 (c:=d9 Tryz.prog 25) rfl rfl Lq rfl ?_;rintro ⟨⟨⟨(v0:Int),(v1:Int),⟨⟩⟩,(al:List p7),(od:List yY),(wy:List yY),⟨⟩⟩,⟨⟩⟩ ⟨(hp:al.length<=6),(bG:(S4 ((v0,v1,()),al,od,wy,())).2.1≠0)⟩ -
  refine j8 (n:=1000) Lh Lq ?_;refine i8 (Zk v0 v1 al od wy) ?_;show Go.Ex.Reach Cg Tryz.f25 ((S4 ((v0,v1,()),al,od,wy,())).2.1,()) () (.code (g8 (d9 Tryz.prog 25) 4).1::.inLoop (g8 (d9 Tryz.prog 25) 4).1::(g8 (d9 Tryz.prog 25) 4).2) (Li v0 v1 al od wy (E3 ((v0,v1,()),al,od,wy,()) 0) [] (al.length:Int) ((0:Nat):Int));refine Reach.O8 Lh Lq (λ i:Nat×List E5=>Li v0 v1 al od wy (E3 ((v0,v1,()),al,od,wy,()) i.1) i.2 (al.length:Int) (i.1:Int)) (λ i=>i.1<=al.length)
    (λ i=>al.length - i.1) 1000 (λ _=>⟨y6 rfl,y6 rfl⟩) ?_ (0,[]) (Nat.zero_le _)
  rintro ⟨i,l⟩ k1 - ih;have k1:i<=al.length:=k1;have ih:∀ l',i<al.length->_:=λ l' h=>ih (i+1,l') (by show i+1<=al.length; omega) (by show al.length - (i+1)<al.length - i; omega);refine i8 (b8R ..) ?_;have e1:((i:Nat):Int)+1=((i+1:Nat):Int):=by omega
  simp only [j7,Tree.holds,e1,sL];refine ⟨λ c=>⟨hp,λ _=>⟨λ a=>⟨by omega,λ _=>⟨λ b=>⟨by omega,λ _=>?_⟩,λ b=>⟨by omega,λ _=>?_⟩⟩⟩,λ a=>⟨by omega,λ _=>⟨by omega,λ _=>?_⟩⟩⟩⟩,λ c=>⟨λ d=>?_,λ d=>?_⟩⟩
  . have:=ih (al.getD i g9).2.1 (by omega);rw [show E3 ((v0,v1,()),al,od,wy,()) (i+1)=E3 ((v0,v1,()),al,od,wy,()) i from if_pos a] at this;exact this
  . have:=ih l (by omega);rw [show E3 ((v0,v1,()),al,od,wy,()) (i+1)=E3 ((v0,v1,()),al,od,wy,()) i from if_pos a] at this;exact this
  . have:=ih l (by omega);rw [show E3 ((v0,v1,()),al,od,wy,()) (i+1)=bOr .u8 (E3 ((v0,v1,()),al,od,wy,()) i) (U2 .u8 v1 (IntKind.wrap .u8 (1*2^min i IntKind.u8.bits))) from if_neg (by simpa using a)] at this;exact this
  . obtain rfl:i=al.length:=by omega
    rfl
  . obtain rfl:i=al.length:=by omega
    exact absurd (show (S5 (v0,v1,()) (E3 ((v0,v1,()),al,od,wy,()) al.length) 0).2.1=0 by simpa using d) bG
def Dw:r9:={ ps:=[.rd N9],rs:=[f7],pre:=λ _=>True,fn:=λ x=>((List.length (α:=yY) (x.1:f8).2.2.2.1:Int),()),out:=λ _=>() }
noncomputable def Gl:Env:={ P:=Tryz.prog,tt:=tt,E4:=[],res:=[Go.ResultVar.tmp 2],rs:=[Ty.int IntKind.i64],ps:=[PK.rd N9],D5:=[],nt:=8 }
theorem ON:C0 Gl:=C7 s9 trivial
theorem Pg:D7 Gl Tryz.f17:=⟨rfl,rfl⟩
theorem Ve (aj:Int) (af:Int) (ab:List p7) (ae:List yY) (aa:List yY):exec Gl 1000 [.code (d9 Tryz.prog 17)] (y8 Dw.ps ((((aj,af,()),ab,ae,aa,()),()))) =
  .ret (((↑(List.length aa):Int),())):=by kernel_rfl
theorem RZ:Dw.Valid Tryz.prog 17:=by
  refine r9.r7 ON rfl rfl Tryz.func17 (c:=d9 Tryz.prog 17) rfl rfl Pg rfl ?_;rintro ⟨⟨⟨(v0:Int),(v1:Int),⟨⟩⟩,(al:List p7),(od:List yY),(wy:List yY),⟨⟩⟩,⟨⟩⟩ - -
  refine j8 (n:=1000) ON Pg ?_;refine i8 (Ve v0 v1 al od wy) ?_;rfl
def xF (w:f8) (p:Int):List E5:=(w.2.1.getD p.toNat g9).2.1
def I7 (w:f8) (p:Int):FrD:=(w.2.1.getD p.toNat g9).2.2.1
theorem BX {v:vP} {al:List p7} {r:List yY×List yY×Unit} {p:Int} (a:¬ known (v,al,r) p≠0):0<=p/\p<(al.length:Int):=by
  unfold known at a;split at a
  . rename_i hb;have:=M8.1 hb;simp only at this; omega
  . exact absurd (by decide) a
def wD (w:f8) (p:Int):List E5×Int×Unit:=if known w p≠0 then ([],known w p,()) else (xF w p,0,())
def Dd:r9:={ ps:=[.rd N9,.v f7],rs:=[.d8 true w4,f7],pre:=λ x=>List.length (α:=p7) (x.1:f8).2.1<=6/\List.length (α:=E5) (xF x.1 x.2.1)<=5864062014805,fn:=λ x=>wD x.1 x.2.1,out:=λ _=>() }
noncomputable def Gh:Env:={ P:=Tryz.prog,tt:=tt,E4:=[(49,zj),(31,AQ)],res:=[Go.ResultVar.tmp 4,Go.ResultVar.tmp 5],rs:=[Ty.d8 true w4,Ty.int IntKind.i64],ps:=[PK.rd N9,PK.v f7],D5:=[],nt:=22 }
theorem Pm:C0 Gh:=C7 s9 ⟨CN,KQ,trivial⟩
theorem Pc:D7 Gh Tryz.f19:=⟨rfl,rfl⟩
theorem Va (aj:Int) (af:Int) (ab:List p7) (ae:List yY) (aa:List yY) (x1:Int):exec Gh 1000 [.code (d9 Tryz.prog 19)] (y8 Dd.ps ((((aj,af,()),ab,ae,aa,()),x1,()))) =
  .f9 (List.length ab<=6) (cond (decide (known ((aj,af,()),ab,ae,aa,()) x1≠(0:Int))) (.ret (([],known ((aj,af,()),ab,ae,aa,()) x1,()))) (.f9 ((0:Int)<=x1/\x1<(↑(List.length ab):Int)) (.f9 (List.length (Prod.fst (Prod.snd (List.getD ab (Int.toNat x1) (false,[],((0:Int),[],()),((0:Int),[],()),((0:Int),[],()),()))))<=5864062014805) (.ret ((Prod.fst (Prod.snd (List.getD ab (Int.toNat x1) (false,[],((0:Int),[],()),((0:Int),[],()),((0:Int),[],()),()))),(0:Int),())))))):=by kernel_rfl
theorem Ss:Dd.Valid Tryz.prog 19:=by
  refine r9.r7 Pm rfl rfl Tryz.func19 (c:=d9 Tryz.prog 19) rfl rfl Pc rfl ?_;rintro ⟨⟨⟨(v0:Int),(v1:Int),⟨⟩⟩,(al:List p7),(od:List yY),(wy:List yY),⟨⟩⟩,(p:Int),⟨⟩⟩ ⟨(hp:al.length<=6),(hl:(xF ((v0,v1,()),al,od,wy,()) p).length<=5864062014805)⟩ -
  refine j8 (n:=1000) Pm Pc ?_;refine i8 (Va v0 v1 al od wy p) ?_;simp only [j7,Tree.holds,sL];refine ⟨hp,λ _=>⟨λ a=>?_,λ a=>⟨BX a,λ _=>⟨hl,λ _=>?_⟩⟩⟩⟩
  . show (([],_,()):List E5×Int×Unit)=wD ((v0,v1,()),al,od,wy,()) p;exact (if_pos a).symm
  . show ((_,0,()):List E5×Int×Unit)=wD ((v0,v1,()),al,od,wy,()) p;exact (if_neg a).symm
def zU (w:f8) (p:Int):List yY×Int×Unit:=if known w p≠0 then ([],known w p,()) else ((I7 w p).2.1,0,())
def GB:r9:={ ps:=[.rd N9,.v f7],rs:=[.d8 true .str,f7],pre:=λ x=>List.length (α:=p7) (x.1:f8).2.1<=6/\List.length (α:=yY) (I7 x.1 x.2.1).2.1<=1048576,fn:=λ x=>zU x.1 x.2.1,out:=λ _=>() }
noncomputable def Hz:Env:={ P:=Tryz.prog,tt:=tt,E4:=[(49,zj),(32,Dv)],res:=[Go.ResultVar.tmp 4,Go.ResultVar.tmp 5],rs:=[Ty.d8 true Ty.str,Ty.int IntKind.i64],ps:=[PK.rd N9,PK.v f7],D5:=[],nt:=23 }
theorem Ql:C0 Hz:=C7 s9 ⟨CN,RY,trivial⟩
theorem QA:D7 Hz Tryz.f20:=⟨rfl,rfl⟩
theorem Xr (aj:Int) (af:Int) (ab:List p7) (ae:List yY) (aa:List yY) (x1:Int):exec Hz 1000 [.code (d9 Tryz.prog 20)] (y8 GB.ps ((((aj,af,()),ab,ae,aa,()),x1,()))) =
  .f9 (List.length ab<=6) (cond (decide (known ((aj,af,()),ab,ae,aa,()) x1≠(0:Int))) (.ret (([],known ((aj,af,()),ab,ae,aa,()) x1,()))) (.f9 ((0:Int)<=x1/\x1<(↑(List.length ab):Int)) (.f9 (List.length (Prod.fst (Prod.snd (Prod.fst (Prod.snd (Prod.snd (List.getD ab (Int.toNat x1) (false,[],((0:Int),[],()),((0:Int),[],()),((0:Int),[],()),())))))))<=1048576) (.ret ((Prod.fst (Prod.snd (Prod.fst (Prod.snd (Prod.snd (List.getD ab (Int.toNat x1) (false,[],((0:Int),[],()),((0:Int),[],()),((0:Int),[],()),())))))),(0:Int),())))))):=by kernel_rfl
theorem b8r:GB.Valid Tryz.prog 20:=by
  refine r9.r7 Ql rfl rfl Tryz.func20 (c:=d9 Tryz.prog 20) rfl rfl QA rfl ?_;rintro ⟨⟨⟨(v0:Int),(v1:Int),⟨⟩⟩,(al:List p7),(od:List yY),(wy:List yY),⟨⟩⟩,(p:Int),⟨⟩⟩ ⟨(hp:al.length<=6),(hl:(I7 ((v0,v1,()),al,od,wy,()) p).2.1.length<=1048576)⟩ -
  refine j8 (n:=1000) Ql QA ?_;refine i8 (Xr v0 v1 al od wy p) ?_;simp only [j7,Tree.holds,sL];refine ⟨hp,λ _=>⟨λ a=>?_,λ a=>⟨BX a,λ _=>⟨hl,λ _=>?_⟩⟩⟩⟩
  . show (([],_,()):List yY×Int×Unit)=zU ((v0,v1,()),al,od,wy,()) p;exact (if_pos a).symm
  . show ((_,0,()):List yY×Int×Unit)=zU ((v0,v1,()),al,od,wy,()) p;exact (if_neg a).symm
theorem Fs {v:vP} {al:List p7} {r:List yY×List yY×Unit} {p:Int} (a:¬ K8 (v,al,r) p≠0):0<=p/\p<(al.length:Int):=by
  unfold K8 at a;by_cases h:known (v,al,r) p≠0
  . rw [if_pos h] at a; exact absurd h a
  . exact BX h
theorem Wr {s:vK} {x:yY} (h:¬ (K3 s x).2.1≠0):(0<=(K3 s x).1.1/\(K3 s x).1.1<=16777215)/\(K3 s x).1.2.1.length<=17:=by
  unfold K3 at h ⊢;by_cases h1:I9 s≠0
  . rw [if_pos h1] at h ⊢; exact absurd h1 h
  rw [if_neg h1] at h ⊢;have aK:=xR (Decidable.not_not.1 h1);by_cases h2:F1 x=true
  . rw [if_pos h2] at h; exact absurd (by decide) h
  rw [if_neg h2] at h ⊢;by_cases h3:(s.2.1.length:Int)=16\/16777215<=s.1+s.2.1.length
  . rw [if_pos h3] at h; exact absurd (by decide) h
  rw [if_neg h3];refine ⟨aK.1,?_⟩;rw [List.length_append];have:=aK.2.1;simp only [List.length_cons,List.length_nil]; omega
def setFrom (w:f8) (p:Int) (f:FrD):f8 :=
  (w.1,w.2.1.set p.toNat ((w.2.1.getD p.toNat g9).1,(w.2.1.getD p.toNat g9).2.1,f,(w.2.1.getD p.toNat g9).2.2.2),w.2.2)
def yk (w:f8) (p:Int) (t:yY) (r:FrD):f8:=M0 (setFrom w p r) 1 p (s7 (setFrom w p r)) (r.1+r.2.1.length - 1) t
def J9 (w:f8) (p:Int) (t:yY):f8×Int :=
  if K8 w p≠0 then (w,K8 w p) else if (150:Int)<t.length then (w,2) else if (w.2.2.2.1.length:Int)=60 then (w,8)
  else if (K3 (I7 w p) t).2.1≠0 then (w,(K3 (I7 w p) t).2.1) else (yk w p t (K3 (I7 w p) t).1,0)
def Ds:r9:={ ps:=[.rw r8,.v f7,.v .str],rs:=[f7],pre:=λ x=>List.length (α:=p7) (x.1:f8).2.1<=6,fn:=λ x=>((J9 x.1 x.2.1 x.2.2.1).2,()),out:=λ x=>((J9 x.1 x.2.1 x.2.2.1).1,()) }
noncomputable def Gj:Env:={ P:=Tryz.prog,tt:=tt,E4:=[(41,DN),(42,Ma),(43,Ad),(44,zO)],res:=[Go.ResultVar.tmp 6],rs:=[Ty.int IntKind.i64],ps:=[PK.rw r8,PK.v f7,PK.v Ty.str],D5:=[],nt:=64 }
theorem OL:C0 Gj:=C7 s9 ⟨SM,ZX,Fy,Fl,trivial⟩
theorem Pe:D7 Gj Tryz.f15:=⟨rfl,rfl⟩
theorem Vc (aj:Int) (af:Int) (ab:List p7) (ae:List yY) (aa:List yY) (x1:Int) (x2:yY):exec Gj 1000 [.code (d9 Tryz.prog 15)] (y8 Ds.ps ((((aj,af,()),ab,ae,aa,()),x1,x2,()))) =
  .f9 (List.length ab<=6) (cond (decide (K8 ((aj,af,()),ab,ae,aa,()) x1≠(0:Int))) (.ret ((K8 ((aj,af,()),ab,ae,aa,()) x1,((aj,af,()),ab,ae,aa,()),()))) (cond (decide ((150:Int)<(↑(List.length x2):Int))) (.ret (((2:Int),((aj,af,()),ab,ae,aa,()),()))) (cond (decide ((↑(List.length aa):Int)=(60:Int))) (.ret (((8:Int),((aj,af,()),ab,ae,aa,()),()))) (.f9 ((0:Int)<=x1/\x1<(↑(List.length ab):Int)) (.f9 (True) (cond (decide (Prod.fst (Prod.snd (K3 (Prod.fst (Prod.snd (Prod.snd (List.getD ab (Int.toNat x1) (false,[],((0:Int),[],()),((0:Int),[],()),((0:Int),[],()),()))))) x2))≠(0:Int))) (.ret ((Prod.fst (Prod.snd (K3 (Prod.fst (Prod.snd (Prod.snd (List.getD ab (Int.toNat x1) (false,[],((0:Int),[],()),((0:Int),[],()),((0:Int),[],()),()))))) x2)),((aj,af,()),ab,ae,aa,()),()))) (.f9 ((0:Int)<=x1/\x1<(↑(List.length ab):Int)) (.f9 (True) (.f9 (u7 IntKind.i64 (Prod.fst (Prod.fst (K3 (Prod.fst (Prod.snd (Prod.snd (List.getD ab (Int.toNat x1) (false,[],((0:Int),[],()),((0:Int),[],()),((0:Int),[],()),()))))) x2))+(↑(List.length (Prod.fst (Prod.snd (Prod.fst (K3 (Prod.fst (Prod.snd (Prod.snd (List.getD ab (Int.toNat x1) (false,[],((0:Int),[],()),((0:Int),[],()),((0:Int),[],()),()))))) x2))))):Int))) (.f9 (u7 IntKind.i64 (Prod.fst (Prod.fst (K3 (Prod.fst (Prod.snd (Prod.snd (List.getD ab (Int.toNat x1) (false,[],((0:Int),[],()),((0:Int),[],()),((0:Int),[],()),()))))) x2))+(↑(List.length (Prod.fst (Prod.snd (Prod.fst (K3 (Prod.fst (Prod.snd (Prod.snd (List.getD ab (Int.toNat x1) (false,[],((0:Int),[],()),((0:Int),[],()),((0:Int),[],()),()))))) x2))))):Int) - (1:Int))) (.f9 (True) (.ret (((0:Int),M0 ((aj,af,()),List.set ab (Int.toNat x1) (Prod.fst (List.getD ab (Int.toNat x1) (false,[],((0:Int),[],()),((0:Int),[],()),((0:Int),[],()),())),Prod.fst (Prod.snd (List.getD ab (Int.toNat x1) (false,[],((0:Int),[],()),((0:Int),[],()),((0:Int),[],()),()))),Prod.fst (K3 (Prod.fst (Prod.snd (Prod.snd (List.getD ab (Int.toNat x1) (false,[],((0:Int),[],()),((0:Int),[],()),((0:Int),[],()),()))))) x2),Prod.snd (Prod.snd (Prod.snd (List.getD ab (Int.toNat x1) (false,[],((0:Int),[],()),((0:Int),[],()),((0:Int),[],()),()))))),ae,aa,()) (1:Int) x1 (s7 ((aj,af,()),List.set ab (Int.toNat x1) (Prod.fst (List.getD ab (Int.toNat x1) (false,[],((0:Int),[],()),((0:Int),[],()),((0:Int),[],()),())),Prod.fst (Prod.snd (List.getD ab (Int.toNat x1) (false,[],((0:Int),[],()),((0:Int),[],()),((0:Int),[],()),()))),Prod.fst (K3 (Prod.fst (Prod.snd (Prod.snd (List.getD ab (Int.toNat x1) (false,[],((0:Int),[],()),((0:Int),[],()),((0:Int),[],()),()))))) x2),Prod.snd (Prod.snd (Prod.snd (List.getD ab (Int.toNat x1) (false,[],((0:Int),[],()),((0:Int),[],()),((0:Int),[],()),()))))),ae,aa,())) (Prod.fst (Prod.fst (K3 (Prod.fst (Prod.snd (Prod.snd (List.getD ab (Int.toNat x1) (false,[],((0:Int),[],()),((0:Int),[],()),((0:Int),[],()),()))))) x2))+(↑(List.length (Prod.fst (Prod.snd (Prod.fst (K3 (Prod.fst (Prod.snd (Prod.snd (List.getD ab (Int.toNat x1) (false,[],((0:Int),[],()),((0:Int),[],()),((0:Int),[],()),()))))) x2))))):Int) - (1:Int)) x2,())))))))))))))):=by kernel_rfl
attribute [local irreducible] J9 M0 K3 in
theorem RV:Ds.Valid Tryz.prog 15:=by
  refine r9.r7 OL rfl rfl Tryz.func15 (c:=d9 Tryz.prog 15) rfl rfl Pe rfl ?_;rintro ⟨⟨⟨(v0:Int),(v1:Int),⟨⟩⟩,(al:List p7),(od:List yY),(wy:List yY),⟨⟩⟩,(p:Int),(t:yY),⟨⟩⟩ (hp:al.length<=6) -
  refine j8 (n:=1000) OL Pe ?_;refine i8 (Vc v0 v1 al od wy p t) ?_;simp only [j7,Tree.holds,sL];obtain ⟨w,hw⟩:∃ w:f8,w=((v0,v1,()),al,od,wy,()):=⟨_,rfl⟩;have key:∀ r:f8×Int,J9 ((v0,v1,()),al,od,wy,()) p t=r->(((r.2,r.1,()):Int×f8×Unit)=((J9 ((v0,v1,()),al,od,wy,()) p t).2,(J9 ((v0,v1,()),al,od,wy,()) p t).1,())):=by rintro r rfl; rfl
  have e1:=λ a=>(J9.eq_1 ((v0,v1,()),al,od,wy,()) p t).trans (if_pos a);have e2:=λ a=>(J9.eq_1 ((v0,v1,()),al,od,wy,()) p t).trans (if_neg a);refine ⟨hp,λ _=>⟨λ a=>key (_,_) (e1 a),λ a=>⟨λ b=>key (_,_) ((e2 a).trans (if_pos b)),λ b=>⟨λ c=>key (_,_) ((e2 a).trans ((if_neg b).trans (if_pos c))),
    λ c=>⟨Fs a,λ _=>⟨λ d=>key (_,_) ((e2 a).trans ((if_neg b).trans ((if_neg c).trans (if_pos d)))),λ d=>?_⟩⟩⟩⟩⟩⟩
  have hk:=Wr (s:=I7 ((v0,v1,()),al,od,wy,()) p) (x:=t) d;simp only [I7] at hk;refine ⟨Fs a,λ _=>⟨?_,λ _=>⟨?_,λ _=>key (_,_) ((e2 a).trans ((if_neg b).trans ((if_neg c).trans (if_neg d))))⟩⟩⟩
  . simp only [g9] at hk; omega
  . simp only [g9] at hk; omega
def ttN:List (TypeId×TI):=(76,TI.mk r8 88)::(74,TI.mk (.d8 true xg) 24)::(85,TI.mk xg 128)::tt
theorem VF:ttN.all (xr Tryz.prog)=true:=by kernel_rfl
def yj (n:Int):Int:=IntKind.wrap .u8 (IntKind.wrap .u8 (1*2^min n.toNat (IntKind.bits .u8)) - 1)
def Di (n:Int):Option f8×Int×Unit:=if H6 n 1 6=true then (some ((0,yj n,()),List.replicate n.toNat g9,[],[],()),0,()) else (none,1,())
def FO:r9:={ ps:=[.v f7],rs:=[.box true none r8,f7],pre:=λ _=>True,fn:=λ x=>Di x.1,out:=λ _=>() }
noncomputable def Gi:Env:={ P:=Tryz.prog,tt:=ttN,E4:=[(40,zN)],res:=[Go.ResultVar.tmp 2,Go.ResultVar.tmp 3],rs:=[Ty.box true none r8,Ty.int IntKind.i64],ps:=[PK.v f7],D5:=[],nt:=15 }
theorem Pn:C0 Gi:=C7 VF ⟨Fk,trivial⟩
theorem Pd:D7 Gi Tryz.f14:=⟨rfl,rfl⟩
theorem Vb (x0:Int):exec Gi 1000 [.code (d9 Tryz.prog 14)] (y8 FO.ps ((x0,()))) =
  .f9 (True) (cond (!H6 x0 (1:Int) (6:Int)) (.ret ((none,(1:Int),()))) (.f9 ((0:Int)<=x0) (.f9 ((0:Int)<=x0/\x0<=x0/\x0<=(140737488355328:Int)/\x0*(↑(Ty.wb xg):Int)<=(140737488355328:Int)) (.ret ((some (((0:Int),IntKind.wrap IntKind.u8 (IntKind.wrap IntKind.u8 ((1:Int)*(2:Int)^min (Int.toNat x0) (IntKind.bits IntKind.u8)) - (1:Int)),()),List.replicate (Int.toNat x0) (false,[],((0:Int),[],()),((0:Int),[],()),((0:Int),[],()),()),[],[],()),(0:Int),())))))):=by kernel_rfl
theorem Su:FO.Valid Tryz.prog 14:=by
  refine r9.r7 Pn rfl rfl Tryz.func14 (c:=d9 Tryz.prog 14) rfl rfl Pd rfl ?_;rintro ⟨(n:Int),⟨⟩⟩ - -
  refine j8 (n:=1000) Pn Pd ?_;refine i8 (Vb n) ?_;have hw:Ty.wb xg=128:=rfl;simp only [j7,Tree.holds,hw,sL];refine ⟨λ a=>?_,λ a=>?_⟩
  . show ((none,1,()):Option f8×Int×Unit)=Di n;exact (if_neg (by rw [a]; simp)).symm
  . have ha:=M8.1 a;refine ⟨by omega,λ _=>⟨⟨by omega,by omega,by omega⟩,λ _=>?_⟩⟩;show (_:Option f8×Int×Unit)=Di n;exact (if_pos a).symm
def N6 (p:Int) (l:List E5) (w:f8):Nat->f8
  | 0=>w
  | k+1=>M0 (N6 p l w k) 1 p (s7 (N6 p l w k)) (l.getD k (0,[],())).1 (l.getD k (0,[],())).2.1
theorem EX {w:f8} {k f t s:Int} {x:yY}:(M0 w k f t s x).2.1=w.2.1/\(M0 w k f t s x).1=w.1/\(M0 w k f t s x).2.2.1=w.2.2.1:=by
  by_cases h:(U3 (k,f,t,w.1.1,s,[0,0,0,0,0,0],x,())).2.1=0/\(w.2.2.2.1.length:Int)<60
  . rw [Cx h.1 h.2]; exact ⟨rfl,rfl,rfl⟩
  . rw [Cw h]; exact ⟨rfl,rfl,rfl⟩
theorem Kx {p:Int} {l:List E5} {w:f8}:∀ k,(N6 p l w k).2.1=w.2.1/\(N6 p l w k).1=w.1/\(N6 p l w k).2.2.1=w.2.2.1
  | 0=>⟨rfl,rfl,rfl⟩
  | k+1=>by
    obtain ⟨h1,h2,h3⟩:=Kx (p:=p) (l:=l) (w:=w) k;obtain ⟨g1,g2,g3⟩:=EX (w:=N6 p l w k) (k:=1) (f:=p) (t:=s7 (N6 p l w k)) (s:=(l.getD k (0,[],())).1) (x:=(l.getD k (0,[],())).2.1);exact ⟨g1.trans h1,g2.trans h2,g3.trans h3⟩
def Dg (w:f8) (p:Int):f8:=M0 w 3 p (s7 w) (w.2.1.getD p.toNat g9).2.2.2.1.1 []
def yl (w:f8) (p:Int):List E5:=(wO (I7 w p) 4).1
def W9 (w:f8) (p:Int):f8×Int :=
  if K8 w p≠0 then (w,K8 w p) else (Dg (N6 p (yl w p) w (yl w p).length) p,0)
def HP:r9:={ ps:=[.rw r8,.v f7],rs:=[f7],pre:=λ x=>List.length (α:=p7) (x.1:f8).2.1<=6,fn:=λ x=>((W9 x.1 x.2.1).2,()),out:=λ x=>((W9 x.1 x.2.1).1,()) }
noncomputable def BG:Env:={ P:=Tryz.prog,tt:=tt,E4:=[(41,DN),(54,Iz),(43,Ad),(44,zO)],res:=[Go.ResultVar.tmp 4],rs:=[Ty.int IntKind.i64],ps:=[PK.rw r8,PK.v f7],D5:=[(6,[(0,none),(1,none),(28,some (Ty.d8 true w4)),(29,none),(30,none)])],nt:=58 }
theorem JX:C0 BG:=C7 s9 ⟨SM,b4U,Fy,Fl,trivial⟩
theorem Kb:D7 BG Tryz.f26:=⟨rfl,rfl⟩
theorem XI (aj:Int) (af:Int) (ab:List p7) (ae:List yY) (aa:List yY) (x1:Int):exec BG 1000 [.code (d9 Tryz.prog 26)] (y8 HP.ps ((((aj,af,()),ab,ae,aa,()),x1,()))) =
  .f9 (List.length ab<=6) (cond (decide (K8 ((aj,af,()),ab,ae,aa,()) x1≠(0:Int))) (.ret ((K8 ((aj,af,()),ab,ae,aa,()) x1,((aj,af,()),ab,ae,aa,()),()))) (.f9 ((0:Int)<=x1/\x1<(↑(List.length ab):Int)) (.f9 (True) (.ctL (g8 (d9 Tryz.prog 26) 6) (St.mk [(0,AV.ptr 2000000 []),(1,AV.val f7 x1),(28,AV.at_ 1000028 []),(29,AV.val f7 (↑(List.length (Prod.fst (wO (Prod.fst (Prod.snd (Prod.snd (List.getD ab (Int.toNat x1) (false,[],((0:Int),[],()),((0:Int),[],()),((0:Int),[],()),()))))) (4:Int)))):Int)),(30,AV.val f7 (0:Int))] [(1000028,i7.own (Ty.d8 true w4) (Prod.fst (wO (Prod.fst (Prod.snd (Prod.snd (List.getD ab (Int.toNat x1) (false,[],((0:Int),[],()),((0:Int),[],()),((0:Int),[],()),()))))) (4:Int)))),(2000000,i7.var r8 ((aj,af,()),ab,ae,aa,()))]))))):=by kernel_rfl
def JY (v1:Int) (wB:Int) (v30:Int) (eH:List (Int×yY×Unit)) (au:Int) (an:Int) (ai:List p7) (ak:List yY) (ah:List yY):St:=St.mk [(0,AV.ptr 2000000 []),(1,AV.val f7 v1),(28,AV.at_ 1000028 []),(29,AV.val f7 wB),(30,AV.val f7 v30)] [(1000028,i7.own (Ty.d8 true w4) eH),(2000000,i7.var r8 ((au,an,()),ai,ak,ah,()))]
theorem Zj (v1:Int) (wB:Int) (v30:Int) (eH:List (Int×yY×Unit)) (au:Int) (an:Int) (ai:List p7) (ak:List yY) (ah:List yY):exec BG 1000 (.code (g8 (d9 Tryz.prog 26) 6).1::.inLoop (g8 (d9 Tryz.prog 26) 6).1::(g8 (d9 Tryz.prog 26) 6).2) (JY v1 wB v30 eH au an ai ak ah) =
  cond (decide (v30<wB)) (.f9 ((0:Int)<=v30/\v30<(↑(List.length eH):Int)) (.f9 (True) (.f9 (True) (.f9 (u7 IntKind.i64 (v30+(1:Int))) (.ctL (g8 (d9 Tryz.prog 26) 6) (St.mk [(0,AV.ptr 2000000 []),(1,AV.val f7 v1),(28,AV.at_ 1000028 []),(29,AV.val f7 wB),(30,AV.val f7 (v30+(1:Int)))] [(1000028,i7.own (Ty.d8 true w4) eH),(2000000,i7.var r8 (M0 ((au,an,()),ai,ak,ah,()) (1:Int) v1 (s7 ((au,an,()),ai,ak,ah,())) (Prod.fst (List.getD eH (Int.toNat v30) ((0:Int),[],()))) (Prod.fst (Prod.snd (List.getD eH (Int.toNat v30) ((0:Int),[],()))))))])))))) (.f9 (True) (.f9 ((0:Int)<=v1/\v1<(↑(List.length ai):Int)) (.f9 (True) (.ret (((0:Int),M0 ((au,an,()),ai,ak,ah,()) (3:Int) v1 (s7 ((au,an,()),ai,ak,ah,())) (Prod.fst (Prod.fst (Prod.snd (Prod.snd (Prod.snd (List.getD ai (Int.toNat v1) (false,[],((0:Int),[],()),((0:Int),[],()),((0:Int),[],()),()))))))) (Array.toList (ByteArray.data (ByteArray.mk #[]))),())))))):=by kernel_rfl
theorem c0E (s:vK) (m:Int):(wO s m).1.length<=16:=by
  unfold wO;by_cases h:I9 s≠0
  . rw [if_pos h]; exact Nat.zero_le _
  . rw [if_neg h];exact Nat.le_trans Kv (xR (Decidable.not_not.1 h)).2.1
attribute [local irreducible] W9 M0 wO in
theorem b6G:HP.Valid Tryz.prog 26:=by
  refine r9.r7 JX rfl rfl Tryz.func26 (c:=d9 Tryz.prog 26) rfl rfl Kb rfl ?_;rintro ⟨⟨⟨(v0:Int),(v1:Int),⟨⟩⟩,(al:List p7),(od:List yY),(wy:List yY),⟨⟩⟩,(p:Int),⟨⟩⟩ (hp:al.length<=6) -
  refine j8 (n:=1000) JX Kb ?_;refine i8 (XI v0 v1 al od wy p) ?_;simp only [j7,Tree.holds,sL];have key:∀ r:f8×Int,W9 ((v0,v1,()),al,od,wy,()) p=r->(((r.2,r.1,()):Int×f8×Unit)=((W9 ((v0,v1,()),al,od,wy,()) p).2,(W9 ((v0,v1,()),al,od,wy,()) p).1,())):=by rintro r rfl; rfl
  have e1:=λ a=>(W9.eq_1 ((v0,v1,()),al,od,wy,()) p).trans (if_pos a);have e2:=λ a=>(W9.eq_1 ((v0,v1,()),al,od,wy,()) p).trans (if_neg a);refine ⟨hp,λ _=>⟨λ a=>key (_,_) (e1 a),λ a=>⟨Fs a,λ _=>?_⟩⟩⟩;obtain ⟨w,hw⟩:∃ w:f8,w=((v0,v1,()),al,od,wy,()):=⟨_,rfl⟩;obtain ⟨l,hl⟩:∃ l,l=yl ((v0,v1,()),al,od,wy,()) p:=⟨_,rfl⟩;have mc:l.length<=16:=by rw [hl]; exact c0E _ _
  have e3:W9 ((v0,v1,()),al,od,wy,()) p=(Dg (N6 p l w l.length) p,0):=by rw [e2 a,hl,hw]
  suffices go:Go.Ex.Reach BG Tryz.f26 ((0:Int),()) (Dg (N6 p l w l.length) p,()) (.code (g8 (d9 Tryz.prog 26) 6).1::.inLoop (g8 (d9 Tryz.prog 26) 6).1::(g8 (d9 Tryz.prog 26) 6).2) (JY p (l.length:Int) ((0:Nat):Int) l (N6 p l w 0).1.1 (N6 p l w 0).1.2.1 (N6 p l w 0).2.1 (N6 p l w 0).2.2.1 (N6 p l w 0).2.2.2.1) by
    subst hw;subst hl;rw [e3];exact go
  refine Reach.O8 JX Kb (λ i:Nat=>JY p (l.length:Int) (i:Int) l (N6 p l w i).1.1 (N6 p l w i).1.2.1 (N6 p l w i).2.1 (N6 p l w i).2.2.1 (N6 p l w i).2.2.2.1) (λ i=>i<=l.length)
    (λ i=>l.length - i) 1000 (λ _=>⟨y6 rfl,y6 rfl⟩) ?_ 0 (Nat.zero_le _)
  rintro i k1 - ih;have k1:i<=l.length:=k1;refine i8 (Zj ..) ?_;have e4:((i:Nat):Int)+1=((i+1:Nat):Int):=by omega
  simp only [j7,Tree.holds,e4,sL];refine ⟨λ c=>⟨⟨by omega,by omega⟩,λ _=>⟨by omega,λ _=>?_⟩⟩,λ c=>⟨?_,λ _=>?_⟩⟩
  . exact ih (i+1) (by show i+1<=l.length; omega) (by show l.length - (i+1)<l.length - i; omega)
  . rw [(Kx i).1,hw]; exact Fs a
  . obtain rfl:i=l.length:=by omega
    rfl
end Go.Proofs.YtijlnmgondibnaaGreatDoor
namespace Go.Proofs.YtijlnmgondibnaaGreatDoor
set_option maxRecDepth 100000
def vv:Nat->Nat->yY
  | 0,_=>[]
  | f+1,u=>if u<10 then [UInt8.ofNat (48+u)] else vv f (u / 10)++[UInt8.ofNat (48+u % 10)]
theorem IE:∀ (f u:Nat),u<10^f->1<=f->Lib.decDigits u=vv f u
  | 0,_,_,h=>absurd h (by decide)
  | f+1,u,h,_=>by
    rw [Lib.decDigits,vv];by_cases c:u<10
    . rw [dif_pos c,if_pos c]
    . rw [dif_neg c,if_neg c];have hf:1<=f:=by
        rcases f with _|f
        . simp at h; omega
        . omega
      rw [IE f (u / 10) (by rw [Nat.pow_succ] at h; exact Nat.div_lt_of_lt_mul (by omega)) hf]
def E0 (n:Int):yY:=if n<0 then 45::vv 20 n.natAbs else vv 20 n.toNat
theorem Wt {n:Int} (h0:-9223372036854775808<=n) (h1:n<=9223372036854775807):Lib.itoa n=E0 n:=by
  have h9:(10:Nat)^20=100000000000000000000:=by decide
  unfold Lib.itoa E0;by_cases c:n<0
  . rw [if_pos c,if_pos c,IE 20 n.natAbs (by omega) (by decide)]
  . rw [if_neg c,if_neg c,IE 20 n.toNat (by omega) (by decide)]
theorem Kq {d:Nat} (h:d<10):(UInt8.ofNat (48+d)).toNat=48+d:=by
  rw [UInt8.toNat_ofNat']; omega
theorem JM:∀ (f u:Nat),∀ b∈vv f u,48<=b.toNat/\b.toNat<=57
  | 0,_,b,h=>by cases h
  | f+1,u,b,h=>by
    rw [vv] at h;split at h
    . rename_i c;rw [List.mem_singleton.1 h,Kq c]; omega
    . rcases List.mem_append.1 h with h|h
      . exact JM f _ b h
      . rw [List.mem_singleton.1 h,Kq (Nat.mod_lt _ (by decide))];have:=Nat.mod_lt u (show 0<10 by decide); omega
theorem Wj {f u:Nat}:vv (f+1) u≠[]:=by
  rw [vv]; split
  . exact List.cons_ne_nil _ _
  . simp
theorem EH:∀ (f u k:Nat),u<10^k->1<=k->(vv f u).length<=k
  | 0,_,_,_,_=>Nat.zero_le _
  | f+1,u,k,h,hk=>by
    rw [vv];by_cases c:u<10
    . rw [if_pos c]; exact hk
    . rw [if_neg c];rcases k with _|_|k
      . omega
      . simp at h; omega
      . have:=EH f (u / 10) (k+1) (by rw [Nat.pow_succ] at h; exact Nat.div_lt_of_lt_mul (by omega)) (by omega);rw [List.length_append]; simp only [List.length_singleton]; omega
theorem Lt:∀ (l:yY) (acc:Nat) (b:UInt8) (a d:Nat),Lib.decFrom acc l=some a->Lib.digitVal b=some d->Lib.decFrom acc (l++[b])=some (a*10+d)
  | [],acc,b,a,d,h,hd=>by
    simp only [Lib.decFrom,Option.some.injEq] at h;subst h;simp [Lib.decFrom,hd]
  | x::l,acc,b,a,d,h,hd=>by
    rw [List.cons_append];rw [Lib.decFrom] at h ⊢;cases e:Lib.digitVal x with
    | none=>rw [e] at h; cases h
    | some y=>rw [e] at h; exact Lt l _ b a d h hd
theorem TU {d:Nat} (h:d<10):Lib.digitVal (UInt8.ofNat (48+d))=some d:=by
  unfold Lib.digitVal;rw [Kq h,if_pos (by omega)];congr 1; omega
theorem RI:∀ (f u:Nat),u<10^f->1<=f->Lib.decFrom 0 (vv f u)=some u
  | 0,_,_,h=>absurd h (by decide)
  | f+1,u,h,_=>by
    rw [vv];by_cases c:u<10
    . rw [if_pos c];have:=Lt [] 0 _ 0 u rfl (TU c);simpa using this
    . rw [if_neg c];have hf:1<=f:=by
        rcases f with _|f
        . simp at h; omega
        . omega
      have h1:=RI f (u / 10) (by rw [Nat.pow_succ] at h; exact Nat.div_lt_of_lt_mul (by omega)) hf;rw [Lt _ 0 _ _ _ h1 (TU (Nat.mod_lt _ (by decide)))];congr 1; omega
theorem JE {n:Nat}:E0 (n:Int)=vv 20 n:=by
  unfold E0; rw [if_neg (by omega)]; rfl
theorem Fh {n:Nat} (h:n<10^20):Lib.atoi (E0 (n:Int))=some (n:Int):=by
  rw [JE];have h1:=RI 20 n h (by decide);have h2:=JM 20 n;have h3:vv 20 n≠[]:=Wj;generalize vv 20 n=l at *
  cases l with
  | nil=>exact absurd rfl h3
  | cons b r =>
    have hb:=h2 b List.mem_cons_self;have b1:(b == 45)=false:=by
      rw [beq_eq_false_iff_ne]; rintro rfl; exact absurd hb.1 (by decide)
    have b2:(b == 43)=false:=by
      rw [beq_eq_false_iff_ne]; rintro rfl; exact absurd hb.1 (by decide)
    simp [Lib.atoi,b1,b2,Lib.decNat,h1]
theorem Ny {n:Nat}:(58:UInt8)∉E0 (n:Int):=by
  rw [JE];intro h;have:=JM 20 n _ h;exact absurd this.2 (by decide)
theorem EN {n:Nat} (k:Nat) (h:n<10^k) (hk:1<=k):(E0 (n:Int)).length<=k:=by
  rw [JE]; exact EH 20 n k h hk
theorem CO {n:Int} (h0:-9223372036854775808<=n) (h1:n<=9223372036854775807):(E0 n).length<=20:=by
  have h9:(10:Nat)^19=10000000000000000000:=by decide
  unfold E0
  split
  . rw [List.length_cons];have:=EH 20 n.natAbs 19 (by omega) (by decide);omega
  . have:=EH 20 n.toNat 19 (by omega) (by decide);omega
def C1:yY->yY×yY×Bool
  | []=>([],[],false)
  | b::l=>if b=58 then ([],l,true) else if (C1 l).2.2=true then (b::(C1 l).1,(C1 l).2.1,true) else (b::l,[],false)
theorem Oe:∀ s:yY,Lib.cut s [58]=C1 s
  | []=>by decide
  | b::l=>by
    have ih:=Oe l;have hg:=Lib.index_ge l [58];by_cases e:b=58
    . subst e;rw [C1,if_pos rfl];simp [Lib.cut,Lib.index,List.isPrefixOf]
    . have hp:List.isPrefixOf [58] (b::l)=false:=by simp [List.isPrefixOf,Ne.symm e]
      have e1:Lib.index (b::l) [58]=if Lib.index l [58] == -1 then -1 else Lib.index l [58]+1:=by rw [Lib.index,hp]; simp
      rw [C1,if_neg e,<- ih];unfold Lib.cut;rw [e1];by_cases c:Lib.index l [58]=-1
      . rw [c]; simp
      . have c0:0<=Lib.index l [58]:=by omega
        obtain ⟨k,hk⟩:∃ k:Nat,Lib.index l [58]=k:=⟨_,(Int.toNat_of_nonneg c0).symm⟩;rw [hk];have c1:((k:Int) == -1)=false:=by rw [beq_eq_false_iff_ne]; omega
        rw [c1];have c2:(0:Int)<=k:=by omega
        have c3:(0:Int)<=(k:Int)+1:=by omega
        have c4:((k:Int)+1).toNat=k+1:=by omega
        have c5:k+1+1=k+1+1:=rfl;simp [c2,c3,c4]
theorem Cl (s:yY):(C1 s).1.length<=s.length/\(C1 s).2.1.length<=s.length:=by
  induction s with
  | nil=>exact ⟨Nat.le_refl _,Nat.le_refl _⟩
  | cons b l ih =>
    rw [C1]
    split
    . exact ⟨Nat.zero_le _,by simp⟩
    . split
      . simp only [List.length_cons]; omega
      . simp
theorem IC:∀ {a b:yY},(58:UInt8)∉a->C1 (a++58::b)=(a,b,true)
  | [],b,_=>by rw [List.nil_append,C1,if_pos rfl]
  | x::a,b,h=>by
    have hx:x≠58:=λ e=>h (by rw [e]; exact List.mem_cons_self);have ih:=IC (a:=a) (b:=b) (λ e=>h (List.mem_cons_of_mem _ e));rw [List.cons_append,C1,if_neg hx,ih,if_pos rfl]
def G3 (p k:Int) (t:yY):yY:=E0 p++[58]++E0 k++[58]++t
theorem EU (p k:Nat) (t:yY):C1 (G3 p k t)=(E0 p,E0 k++[58]++t,true):=by
  unfold G3;rw [show E0 (p:Int)++[58]++E0 (k:Int)++[58]++t=E0 (p:Int)++58::(E0 (k:Int)++[58]++t) by simp];exact IC Ny
theorem KP (k:Nat) (t:yY):C1 (E0 k++[58]++t)=(E0 k,t,true):=by
  rw [show E0 (k:Int)++[58]++t=E0 (k:Int)++58::t by simp];exact IC Ny
end Go.Proofs.YtijlnmgondibnaaGreatDoor
namespace Go.Proofs.YtijlnmgondibnaaGreatDoor
open Go.Ex
set_option maxRecDepth 100000
def ub (n:Int):UInt8:=UInt8.ofNat (n % 256).toNat
def tb (n:Int):yY:=[ub n,ub (n / 256),ub (n / 65536)]
theorem FW (x:UInt8):ub (x.toNat:Int)=x:=by
  have:=x.toNat_lt;apply UInt8.toNat_inj.1;rw [ub,EF]; omega
theorem DH (n:Int):((ub n).toNat:Int)=n % 256:=by rw [ub,EF]; omega
theorem yv (x y z:UInt8):tb ((x.toNat:Int)+(y.toNat:Int)*256+(z.toNat:Int)*65536)=[x,y,z]:=by
  have h1:=x.toNat_lt;have h2:=y.toNat_lt;have h3:=z.toNat_lt;rw [tb,List.cons.injEq,List.cons.injEq,List.cons.injEq];refine ⟨?_,?_,?_,rfl⟩<;>(apply UInt8.toNat_inj.1; rw [ub,EF]; omega)
theorem Ti (l:List Int):xi (l.flatMap V2)=l.flatMap tb:=by
  induction l with
  | nil=>rfl
  | cons x l ih=>rw [List.flatMap_cons,ES,ih,List.flatMap_cons]; rfl
theorem Ja (n:n9):wa n=[ub n.1,ub n.2.1,ub n.2.2.1]++(Z7 n).flatMap tb++n.2.2.2.2.2.2.1:=by
  rw [wa,zb,ES,ES,Ti,KO]; rfl
theorem H5 {k:Nat} {s:yY} (h:k+1<=s.length):∃ b t,s=b::t/\k<=t.length:=by
  match s,h with
  | b::t,h=>exact ⟨b,t,rfl,by simpa using h⟩
theorem c1G {s:yY} (h:27<=s.length):wa (parse s)=s:=by
  obtain ⟨b0,t0,rfl,h0⟩:=H5 (k:=26) h;obtain ⟨b1,t1,rfl,h1⟩:=H5 (k:=25) h0;obtain ⟨b2,t2,rfl,h2⟩:=H5 (k:=24) h1;obtain ⟨b3,t3,rfl,h3⟩:=H5 (k:=23) h2;obtain ⟨b4,t4,rfl,h4⟩:=H5 (k:=22) h3;obtain ⟨b5,t5,rfl,h5⟩:=H5 (k:=21) h4;obtain ⟨b6,t6,rfl,h6⟩:=H5 (k:=20) h5;obtain ⟨b7,t7,rfl,h7⟩:=H5 (k:=19) h6;obtain ⟨b8,t8,rfl,h8⟩:=H5 (k:=18) h7;obtain ⟨b9,t9,rfl,h9⟩:=H5 (k:=17) h8;obtain ⟨Bp,t10,rfl,jo⟩:=H5 (k:=16) h9;obtain ⟨Bo,t11,rfl,jU⟩:=H5 (k:=15) jo;obtain ⟨Bn,t12,rfl,uH⟩:=H5 (k:=14) jU;obtain ⟨wX,t13,rfl,uG⟩:=H5 (k:=13) uH;obtain ⟨Bm,t14,rfl,uF⟩:=H5 (k:=12) uG;obtain ⟨Bl,t15,rfl,uE⟩:=H5 (k:=11) uF;obtain ⟨yP,t16,rfl,oR⟩:=H5 (k:=10) uE;obtain ⟨b17,t17,rfl,uD⟩:=H5 (k:=9) oR;obtain ⟨b18,t18,rfl,uC⟩:=H5 (k:=8) uD;obtain ⟨b19,t19,rfl,uB⟩:=H5 (k:=7) uC;obtain ⟨b20,t20,rfl,uA⟩:=H5 (k:=6) uB;obtain ⟨b21,t21,rfl,uz⟩:=H5 (k:=5) uA;obtain ⟨b22,t22,rfl,ux⟩:=H5 (k:=4) uz;obtain ⟨b23,t23,rfl,uw⟩:=H5 (k:=3) ux;obtain ⟨b24,t24,rfl,uv⟩:=H5 (k:=2) uw;obtain ⟨b25,t25,rfl,uu⟩:=H5 (k:=1) uv;obtain ⟨b26,t,rfl,uU⟩:=H5 (k:=0) uu;rw [Ja];show [ub (b0.toNat:Int),ub (b1.toNat:Int),ub (b2.toNat:Int)]++(tb ((b3.toNat:Int)+(b4.toNat:Int)*256+(b5.toNat:Int)*65536)++(tb ((b6.toNat:Int)+(b7.toNat:Int)*256+(b8.toNat:Int)*65536)++(tb ((b9.toNat:Int)+(Bp.toNat:Int)*256+(Bo.toNat:Int)*65536)++(tb ((Bn.toNat:Int)+(wX.toNat:Int)*256+(Bm.toNat:Int)*65536)++(tb ((Bl.toNat:Int)+(yP.toNat:Int)*256+(b17.toNat:Int)*65536)++(tb ((b18.toNat:Int)+(b19.toNat:Int)*256+(b20.toNat:Int)*65536)++(tb ((b21.toNat:Int)+(b22.toNat:Int)*256+(b23.toNat:Int)*65536)++(tb ((b24.toNat:Int)+(b25.toNat:Int)*256+(b26.toNat:Int)*65536)++[]))))))))++t=_;rw [yv,yv,yv,yv,yv,yv,yv,yv,FW,FW,FW];rfl
theorem c0v:∀ {n:n9},HI n->n.2.2.2.2.2.1.length=6->parse (wa n)=n
  | (a,b,c,d,e,[v0,v1,v2,v3,v4,v5],t,()),h,_=>by
    have num:∀ x:Int,0<=x/\x<=16777215->((ub x).toNat:Int)+((ub (x / 256)).toNat:Int)*256+((ub (x / 65536)).toNat:Int)*65536=x:=by
      intro x hx; rw [DH,DH,DH]; omega
    have one:∀ x:Int,0<=x/\x<=255->((ub x).toNat:Int)=x:=by intro x hx; rw [DH]; omega
    rw [Ja];show (((ub a).toNat:Int),((ub b).toNat:Int),((ub c).toNat:Int),((ub d).toNat:Int)+((ub (d / 256)).toNat:Int)*256+((ub (d / 65536)).toNat:Int)*65536,((ub e).toNat:Int)+((ub (e / 256)).toNat:Int)*256+((ub (e / 65536)).toNat:Int)*65536,
      [((ub v0).toNat:Int)+((ub (v0 / 256)).toNat:Int)*256+((ub (v0 / 65536)).toNat:Int)*65536,((ub v1).toNat:Int)+((ub (v1 / 256)).toNat:Int)*256+((ub (v1 / 65536)).toNat:Int)*65536,((ub v2).toNat:Int)+((ub (v2 / 256)).toNat:Int)*256+((ub (v2 / 65536)).toNat:Int)*65536,
       ((ub v3).toNat:Int)+((ub (v3 / 256)).toNat:Int)*256+((ub (v3 / 65536)).toNat:Int)*65536,((ub v4).toNat:Int)+((ub (v4 / 256)).toNat:Int)*256+((ub (v4 / 65536)).toNat:Int)*65536,((ub v5).toNat:Int)+((ub (v5 / 256)).toNat:Int)*256+((ub (v5 / 65536)).toNat:Int)*65536],t,())=_
    have hv:∀ x∈[v0,v1,v2,v3,v4,v5],0<=x/\x<=16777215:=h.at_;have hf:0<=b/\b<=5:=h.from_;have ht:0<=c/\c<=5:=h.to;rw [one a h.kind,one b (by omega),one c (by omega),num d h.view,num e h.seq,num v0 (hv _ (by simp)),num v1 (hv _ (by simp)),num v2 (hv _ (by simp)),num v3 (hv _ (by simp)),num v4 (hv _ (by simp)),num v5 (hv _ (by simp))]
theorem Xd {n:n9} (h:n.2.2.2.2.2.1.length=6):(wa n).length=27+n.2.2.2.2.2.2.1.length:=by
  have:∀ l:List Int,(l.flatMap tb).length=3*l.length:=λ l=>by rw [<- Ti,xi,List.length_map,QX]
  rw [Ja,List.length_append,List.length_append,this];show 3+3*(n.2.2.2.2.2.1.length+1+1)+_=_;omega
theorem Yd {n:n9} (aK:HI n) (h:n.2.2.2.2.2.1.length=6):31<=(M7 n).length/\(M7 n).length<=231:=by
  rw [M7,List.length_append,Xd h];have:=aK.text;show _/\_+4<=231;exact ⟨by show 31<=_+4; omega,by omega⟩
theorem Kl {n:n9} (hc:F0 n=0) (h:n.2.2.2.2.2.1.length=6):w9 (M7 n)=(n,0,()):=by
  have aK:=CL hc;obtain ⟨h1,h2⟩:=Yd aK h;have e4:(M7 n).length - 4=(wa n).length:=by rw [M7,List.length_append]; show (wa n).length+4 - 4=_; omega
  have e5:(M7 n).take ((M7 n).length - 4)=wa n:=by rw [e4,M7,List.take_left']; rfl
  have e6:(M7 n).drop ((M7 n).length - 4)=le4 (vz (wa n)):=by rw [e4,M7,List.drop_left']; rfl
  rw [w9,if_neg (by omega),if_neg (by omega),e5,e6,if_neg (λ c=>c rfl),c0v aK h,if_neg (λ c=>c hc)]
theorem NH {s:yY} (h:(w9 s).2.1=0):F0 (w9 s).1=0/\M7 (w9 s).1=s:=by
  unfold w9 at h ⊢;split at h
  . cases h
  split at h
  . cases h
  split at h
  . cases h
  split at h
  . rename_i c; exact absurd h c
  . rename_i c1 c2 c3 c4;rw [if_neg c1,if_neg c2,if_neg c3,if_neg c4];have hl:27<=(s.take (s.length - 4)).length:=by rw [List.length_take]; omega
    refine ⟨Decidable.not_not.1 c4,?_⟩;show wa (parse (s.take (s.length - 4)))++le4 (vz (wa (parse (s.take (s.length - 4)))))=s;rw [c1G hl,Decidable.not_not.1 c3,List.take_append_drop]
theorem EP {n:n9} (h:F0 n=0):U3 n=(M7 n,0,()):=by rw [U3,if_neg (λ c=>c h)]
theorem PS {n:n9} (h:F0 n≠0):U3 n=([],F0 n,()):=by rw [U3,if_pos h]
def C5 (w:f8) (p:Int):p7:=w.2.1.getD p.toNat g9
def Q5 (w:f8) (p:Int) (x:p7):f8:=(w.1,w.2.1.set p.toNat x,w.2.2)
def xd (w:f8) (x:yY):f8:=(w.1,w.2.1,w.2.2.1++[x],w.2.2.2)
def F4 (x:yY) (w:f8):Nat->f8
  | 0=>w
  | p+1=>if l4 (F4 x w p) p=true then M0 (F4 x w p) 2 (s7 (F4 x w p)) p (((F4 x w p).2.2.1.length:Int) - 1) x else F4 x w p
def I4 (f first:Int) (l:List yY) (w:f8):Nat->f8
  | 0=>w
  | i+1=>F4 (G3 f (first+i) (l.getD i [])) (xd (I4 f first l w i) (G3 f (first+i) (l.getD i []))) (I4 f first l w i).2.1.length
def U4 (w:f8) (n:n9):ToD×List yY×Int×Unit:=E2 (C5 w n.2.1).2.2.2.2.1 (n.2.2.2.2.1,n.2.2.2.2.2.2.1,())
def V3 (x:p7) (r:ToD):p7:=(x.1,x.2.1,x.2.2.1,x.2.2.2.1,r,())
def N7 (w:f8) (n:n9):f8 :=
  if (U4 w n).2.2.1≠0 then w else
  I4 n.2.1 (C5 w n.2.1).2.2.2.2.1.1 (U4 w n).2.1 (Q5 w n.2.1 (V3 (C5 w n.2.1) (U4 w n).1)) (U4 w n).2.1.length
def who (t:yY):Int:=(Lib.atoi (C1 t).1).getD 0
def nth (t:yY):Int:=(Lib.atoi (C1 (C1 t).2.1).1).getD 0
def xb (t:yY):yY:=(C1 (C1 t).2.1).2.1
def X2 (q:Int) (x:p7) (t:yY):p7 :=
  if who t=q/\(R9 x.2.2.1 (nth t+1)).2.1=0 then (x.1,x.2.1++[(who t,xb t,())],(R9 x.2.2.1 (nth t+1)).1,x.2.2.2) else (x.1,x.2.1++[(who t,xb t,())],x.2.2)
def K9 (q:Int) (x:p7) (l:List yY):Nat->p7
  | 0=>x
  | i+1=>X2 q (K9 q x l i) (l.getD i [])
def N0 (w:f8) (n:n9):ToD×List yY×Int×Unit:=E2 (C5 w n.2.2.1).2.2.2.1 (n.2.2.2.2.1,n.2.2.2.2.2.2.1,())
def wJ (x:p7) (r:ToD):p7:=(x.1,x.2.1,x.2.2.1,r,x.2.2.2.2)
def T3 (w:f8) (n:n9):f8 :=
  if (N0 w n).2.2.1≠0 then w else
  Q5 w n.2.2.1 (K9 n.2.2.1 (wJ (C5 w n.2.2.1) (N0 w n).1) (N0 w n).2.1 (N0 w n).2.1.length)
def F2 (w:f8) (n:n9):Nat->f8
  | 0=>w
  | j+1=>if n.2.2.2.2.1+j<(F2 w n j).2.2.1.length then M0 (F2 w n j) 2 (s7 (F2 w n j)) n.2.1 (n.2.2.2.2.1+j) ((F2 w n j).2.2.1.getD (n.2.2.2.2.1+j).toNat []) else F2 w n j
def B9 (w:f8) (n:n9):f8 :=
  if known w n.2.1≠0 then w else if n.1=1 then N7 w n else if n.1=3 then F2 w n 4 else if n.1=2 then T3 w n else w
def xB (w:f8) (k:Int):f8:=(w.1,w.2.1,w.2.2.1,w.2.2.2.1.take k.toNat++w.2.2.2.1.drop (k+1).toNat,())
def Bb (w:f8) (k:Nat):f8:=(w.1,w.2.1,w.2.2.1,w.2.2.2.1++[w.2.2.2.1.getD k []],())
def N2 (w:f8) (bA:Int) (s:yY):f8 :=
  if bA=1/\(w9 s).2.1=0/\(w9 s).1.2.2.2.1=w.1.1/\l4 w (w9 s).1.2.2.1=true then B9 w (w9 s).1 else w
def o8 (w:f8) (k bA:Int):f8×Int :=
  if H6 bA 1 3=false then (w,1) else if H6 k 0 ((w.2.2.2.1.length:Int) - 1)=false then (w,6) else if bA=3/\(w.2.2.2.1.length:Int)=60 then (w,8)
  else if bA=3 then (Bb w k.toNat,0) else (N2 (xB w k) bA (w.2.2.2.1.getD k.toNat []),0)
theorem PT:∀ {l:List w7} {n:Int},∀ t∈(E9 l n).2.2,∃ q∈l,t=q.2.1
  | [],n,t,h=>by cases h
  | p::l,n,t,h=>by
    rw [E9] at h;split at h
    . rcases List.mem_cons.1 h with rfl|h
      . exact ⟨p,List.mem_cons_self,rfl⟩
      . obtain ⟨q,h1,h2⟩:=PT t h;exact ⟨q,List.mem_cons_of_mem _ h1,h2⟩
    . cases h
theorem SW {s:ToD} {p:w7} (h:(E2 s p).2.2.1=0):xp s.1 s.2.1/\(0<=p.1/\p.1<=16777214)/\F1 p.2.1=false /\
    ((E2 s p=(s,[],0,())/\(p.1<s.1\/s.1+16<=p.1\/Z8 p.1 s.2.1=true))\/((s.1<p.1/\p.1<s.1+16)/\Z8 p.1 s.2.1=false/\E2 s p=((s.1,wZ p s.2.1,()),[],0,())) \/
      (p.1=s.1/\E2 s p=(((E9 s.2.1 (s.1+1)).1,(E9 s.2.1 (s.1+1)).2.1,()),p.2.1::(E9 s.2.1 (s.1+1)).2.2,0,()))):=by
  obtain ⟨r,l,⟨⟩⟩:=s;by_cases c1:toE (r,l,())≠0
  . rw [E2,if_pos c1] at h; exact absurd h c1
  have aK:=Iv.1 (Decidable.not_not.1 c1);by_cases c2:inF p.1 0 16777214=false
  . rw [E2,if_neg c1,if_pos c2] at h; cases h
  have h1:=xM.1 (Bool.not_eq_false _▸c2);by_cases c3:F1 p.2.1=true
  . rw [E2,if_neg c1,if_neg c2,if_pos c3] at h; cases h
  have h2:F1 p.2.1=false:=by simpa using c3
  refine ⟨aK,h1,h2,?_⟩;rw [JA aK h1 h2];by_cases c4:p.1<r\/r+16<=p.1\/Z8 p.1 l=true
  . rw [if_pos c4]; exact .inl ⟨rfl,c4⟩
  rw [if_neg c4];by_cases c5:r<p.1
  . rw [if_pos c5];refine .inr (.inl ⟨⟨c5,?_⟩,?_,rfl⟩)
    . exact Int.not_le.1 (λ e=>c4 (.inr (.inl e)))
    . cases hk:Z8 p.1 l with
      | false=>rfl
      | true=>exact absurd (.inr (.inr hk)) c4
  . rw [if_neg c5];refine .inr (.inr ⟨?_,rfl⟩);have:¬ p.1<r:=λ e=>c4 (.inl e);show p.1=r;omega
theorem zv {s:ToD} {p:w7} (h:(E2 s p).2.2.1=0) :
    (∀ t∈(E2 s p).2.1,(t=p.2.1\/∃ q∈s.2.1,t=q.2.1)/\F1 t=false)/\(∀ q∈(E2 s p).1.2.1,q=p\/q∈s.2.1)/\(E2 s p).2.1.length<=16/\(0<=s.1/\s.1<=16777215) /\
      (E2 s p).1.1=s.1+(E2 s p).2.1.length/\(E2 s p).1.2.1.length+(E2 s p).2.1.length<=s.2.1.length+1:=by
  obtain ⟨aK,h1,h2,hc⟩:=SW h;have lV:=aK.rg;have hb:=aK.b;rcases hc with ⟨e,-⟩|⟨-,-,e⟩|⟨hp,e⟩
  . rw [e];exact ⟨λ t ht=>(by cases ht),λ q hq=>.inr hq,Nat.zero_le _,lV,by show s.1=s.1+((0:Nat):Int); omega,by show s.2.1.length+0<=_; omega⟩
  . rw [e];refine ⟨λ t ht=>(by cases ht),λ q hq=>(XV.1 hq),Nat.zero_le _,lV,by show s.1=s.1+((0:Nat):Int); omega,?_⟩;show (wZ p s.2.1).length+0<=_;rw [XU]; omega
  . rw [e];obtain ⟨a1,a2,a3,a4⟩:=NF (l:=s.2.1) (n:=s.1+1) (by rw [show s.1+1 - 1=s.1 by omega]; exact aK.up);refine ⟨λ t ht=>?_,λ q hq=>.inr (a4 q hq),?_,lV,?_,?_⟩
    . rcases List.mem_cons.1 ht with rfl|ht
      . exact ⟨.inl rfl,h2⟩
      . obtain ⟨q,g1,g2⟩:=PT t ht;exact ⟨.inr ⟨q,g1,g2⟩,by rw [g2]; exact (hb q g1).2⟩
    . show (p.2.1::(E9 s.2.1 (s.1+1)).2.2).length<=16;rw [List.length_cons];cases hl:s.2.1 with
      | nil=>simp [E9]
      | cons x m =>
        have:=PZ aK.up (λ x hx=>(hb x hx).1) (by rw [hl]; simp);rw [<- hl]; omega
    . show (E9 s.2.1 (s.1+1)).1=s.1+((p.2.1::(E9 s.2.1 (s.1+1)).2.2).length:Int);rw [List.length_cons,a2]; omega
    . show (E9 s.2.1 (s.1+1)).2.1.length+(p.2.1::(E9 s.2.1 (s.1+1)).2.2).length<=_;rw [List.length_cons]; omega
theorem Kg {t:yY} (h:F1 t=false):t.length<=200:=by
  simp only [F1,decide_eq_false_iff_not] at h; omega
def okT (t:yY):Prop:=∃ p k:Nat,∃ s,p<=5/\k<=16777300/\t=G3 p k s
theorem XG {p k:Nat} {s:yY} (h:p<=5):who (G3 p k s)=p:=by
  unfold who;rw [EU];show (Lib.atoi (E0 p)).getD 0=p;rw [Fh (by omega)]; rfl
theorem PQ {p k:Nat} {s:yY} (h:k<=16777300):nth (G3 p k s)=k:=by
  unfold nth;rw [EU];show (Lib.atoi (C1 (E0 k++[58]++s)).1).getD 0=k;rw [KP];show (Lib.atoi (E0 k)).getD 0=k;rw [Fh (by omega)]; rfl
theorem ZE {p k:Nat} {s:yY}:xb (G3 p k s)=s:=by
  unfold xb;rw [EU];show (C1 (E0 k++[58]++s)).2.1=s;rw [KP]
theorem Ww {t:yY} (h:okT t):((C1 t).1.length<=18/\(Lib.atoi (C1 t).1).isSome=true)/\((C1 (C1 t).2.1).1.length<=18/\(Lib.atoi (C1 (C1 t).2.1).1).isSome=true)/\0<=nth t/\nth t<=16777300:=by
  obtain ⟨p,k,s,h1,h2,rfl⟩:=h;rw [PQ h2];rw [EU];show ((E0 p).length<=18/\(Lib.atoi (E0 p)).isSome=true)/\((C1 (E0 k++[58]++s)).1.length<=18/\(Lib.atoi (C1 (E0 k++[58]++s)).1).isSome=true)/\_;rw [KP,Fh (by omega)];refine ⟨⟨EN 18 (by omega) (by decide),rfl⟩,⟨EN 18 (by omega) (by decide),?_⟩,by omega,by omega⟩;show (Lib.atoi (E0 k)).isSome=true;rw [Fh (by omega)]; rfl
def J5 (w:f8):Nat->List E5
  | 0=>[]
  | k+1=>if l4 w k=true/\(J5 w k).length<(w.2.1.getD k g9).2.1.length then (w.2.1.getD k g9).2.1 else J5 w k
theorem c0G {w:f8}:∀ k,(J5 w k).length<=(J5 w (k+1)).length:=λ k=>by
  rw [J5]; split
  . rename_i h; exact Nat.le_of_lt h.2
  . exact Nat.le_refl _
theorem EL {w:f8} {i:Nat} (ha:l4 w i=true):∀ {k:Nat},i<k->(w.2.1.getD i g9).2.1.length<=(J5 w k).length
  | 0,h=>by omega
  | k+1,h=>by
    by_cases e:i=k
    . subst e;rw [J5]
      split
      . exact Nat.le_refl _
      . rename_i h1;exact Nat.le_of_not_lt (λ h2=>h1 ⟨ha,h2⟩)
    . exact Nat.le_trans (EL ha (by omega)) (c0G k)
theorem Qi {w:f8} {b:Nat} (h:∀ i,(w.2.1.getD i g9).2.1.length<=b):∀ k,(J5 w k).length<=b
  | 0=>Nat.zero_le _
  | k+1=>by
    rw [J5]; split
    . exact h k
    . exact Qi h k
def countP (p:Int):List E5->Nat
  | []=>0
  | s::l=>(if s.1=p then 1 else 0)+countP p l
theorem RT {p:Int}:∀ {l m:List E5},countP p (l++m)=countP p l+countP p m
  | [],m=>by simp [countP]
  | s::l,m=>by rw [List.cons_append,countP,countP,RT]; omega
theorem countP_le {p:Int}:∀ {l:List E5},countP p l<=l.length
  | []=>Nat.le_refl _
  | s::l=>by
    have:=countP_le (p:=p) (l:=l);rw [countP,List.length_cons]; split<;>omega
theorem SK {p:Int} {l:List E5} {i:Nat} (h:i<l.length):countP p (l.take (i+1))=countP p (l.take i)+if (l.getD i (0,[],())).1=p then 1 else 0:=by
  rw [Kz h (0,[],()),RT];simp [countP]
def vf (w:f8) (L:List E5) (i:Nat) (x:p7):p7 :=
  if l4 w i=true then (x.1,L,(0,x.2.2.1.2.1.drop (min (countP i (L.drop x.2.1.length)) x.2.2.1.2.1.length),()),(0,[],()),(0,[],()),()) else (x.1,x.2.1,x.2.2.1,x.2.2.2.1,(0,[],()),())
def G4 (w:f8):f8:=((S4 w).1,w.2.1.mapIdx (vf w (J5 w w.2.1.length)),[],w.2.2.2.1,())
def T9 (w:f8):f8×Int:=if (S4 w).2.1≠0 then (w,(S4 w).2.1) else (G4 w,0)
theorem b6S {v:vP} {al al':List p7} {r r':List yY×List yY×Unit} {p:Int} (hl:al'.length=al.length) (hf:(al'.getD p.toNat g9).1=(al.getD p.toNat g9).1):l4 (v,al',r') p=l4 (v,al,r) p:=by
  unfold l4;simp only;rw [hl,hf]
abbrev toM (x:p7):M5:=(x.1,(1,x.2.1,[]),x.2.2)
abbrev rdP (x:M5):p7:=(x.1,x.2.1.2.1,x.2.2)
abbrev dM:M5:=(false,(1,[],[]),(0,[],()),(0,[],()),(0,[],()),())
theorem PW {al:List M5} {i:Nat}:(al.map rdP).getD i g9=rdP (al.getD i dM):=by
  rw [List.getD_eq_getElem?_getD,List.getElem?_map,List.getD_eq_getElem?_getD];cases al[i]?<;>rfl
theorem Ju {al:List p7} {i:Nat}:(al.map toM).getD i dM=toM (al.getD i g9):=by
  rw [List.getD_eq_getElem?_getD,List.getElem?_map,List.getD_eq_getElem?_getD];cases al[i]?<;>rfl
theorem XS {α:Type} {d:α} {l m:List α} (h:l.length=m.length) (h2:∀ i,i<l.length->l.getD i d=m.getD i d):l=m:=by
  apply List.ext_getElem h;intro i h3 h4;have:=h2 i h3;rw [List.getD_eq_getElem?_getD,List.getD_eq_getElem?_getD,List.getElem?_eq_getElem h3,List.getElem?_eq_getElem h4] at this;exact this
theorem L9 {α:Type} {d:α} {l:List α} {i j:Nat} {x:α}:(l.set i x).getD j d=if i=j/\i<l.length then x else l.getD j d:=by
  rw [List.getD_eq_getElem?_getD,List.getElem?_set,List.getD_eq_getElem?_getD];by_cases h:i=j
  . subst h;by_cases h2:i<l.length
    . simp [h2]
    . simp [h2]
  . simp [h]
structure wm (w:f8) (al:List M5):Prop where
  len:al.length=w.2.1.length
  rd:∀ i:Nat,rdP (al.getD i dM)=w.2.1.getD i g9
  same:∀ i:Nat,l4 w i=false->al.getD i dM=toM (w.2.1.getD i g9)
theorem wm.start (w:f8):wm w (w.2.1.map toM):=⟨List.length_map ..,λ i=>by rw [Ju],λ i _=>by rw [Ju]⟩
theorem wm.vA {w:f8} {al:List M5} (h:wm w al) {k n:Nat} (ha:l4 w k=true):wm w (al.set k ((al.getD k dM).1,(n,(al.getD k dM).2.1.2.1,[]),(al.getD k dM).2.2)):=by
  refine ⟨by rw [List.length_set]; exact h.len,λ i=>?_,λ i hi=>?_⟩
  . rw [L9]
    split
    . rename_i e;rw [<- e.1,<- h.rd k]
    . exact h.rd i
  . rw [L9,if_neg]
    . exact h.same i hi
    . rintro ⟨rfl,-⟩;rw [ha] at hi; cases hi
structure wG (w:f8) (L:List E5) (k:Nat) (al:List M5):Prop where
  len:al.length=w.2.1.length
  done:∀ i:Nat,i<k->i<al.length->al.getD i dM=toM (vf w L i (w.2.1.getD i g9))
  rd:∀ i:Nat,k<=i->rdP (al.getD i dM)=w.2.1.getD i g9
  same:∀ i:Nat,k<=i->l4 w i=false->al.getD i dM=toM (w.2.1.getD i g9)
theorem wm.next {w:f8} {al:List M5} (h:wm w al) (L:List E5):wG w L 0 al:=⟨h.len,λ i hi=>by omega,λ i _=>h.rd i,λ i _=>h.same i⟩
theorem MP {w:f8} {L:List E5} {i:Nat} {x:p7}:(vf w L i x).1=x.1:=by unfold vf; split<;>rfl
theorem wG.act {w:f8} {L:List E5} {k:Nat} {al:List M5} (h:wG w L k al) (i:Nat):((al.map rdP).getD i g9).1=(w.2.1.getD i g9).1:=by
  rw [PW];by_cases hk:k<=i
  . rw [h.rd i hk]
  . by_cases hi:i<al.length
    . rw [h.done i (by omega) hi];exact MP
    . have h1:al.getD i dM=dM:=by rw [List.getD_eq_getElem?_getD,List.getElem?_eq_none (by omega)]; rfl
      have h2:w.2.1.getD i g9=g9:=by rw [List.getD_eq_getElem?_getD,List.getElem?_eq_none (by have:=h.len; omega)]; rfl
      rw [h1,h2]; rfl
theorem wG.step {w:f8} {L:List E5} {k:Nat} {al:List M5} (h:wG w L k al):wG w L (k+1) (al.set k (toM (vf w L k (w.2.1.getD k g9)))):=by
  refine ⟨by rw [List.length_set]; exact h.len,λ i hi hl=>?_,λ i hi=>?_,λ i hi=>?_⟩
  . rw [List.length_set] at hl;rw [L9];by_cases e:k=i
    . rw [if_pos ⟨e,by omega⟩,e]
    . rw [if_neg (λ h=>e h.1)];exact h.done i (by omega) hl
  . rw [L9,if_neg (by omega)]; exact h.rd i (by omega)
  . rw [L9,if_neg (by omega)]; exact h.same i (by omega)
theorem wG.fin {w:f8} {L:List E5} {al:List M5} (h:wG w L w.2.1.length al):al=(w.2.1.mapIdx (vf w L)).map toM:=by
  refine XS (d:=dM) (by rw [List.length_map,List.length_mapIdx]; exact h.len) (λ i hi=>?_);rw [h.done i (by have:=h.len; omega) hi,Ju];congr 1;rw [List.getD_eq_getElem?_getD (l:=List.mapIdx _ _),List.getElem?_mapIdx,List.getD_eq_getElem?_getD,List.getElem?_eq_getElem (by have:=h.len; omega)];rfl
abbrev y7:=yY
abbrev W6:=Nat×y7
def C8 (p:Nat):List W6->List y7
  | []=>[]
  | x::l=>if x.1=p then x.2::C8 p l else C8 p l
theorem yH {p:Nat}:∀ {l m:List W6},C8 p (l++m)=C8 p l++C8 p m
  | [],_=>rfl
  | x::l,m=>by
    rw [List.cons_append,C8,C8,yH]
    split<;>rfl
theorem Wu {p q:Nat} {l:List y7}:C8 p (l.map λ t=>(q,t))=if q=p then l else []:=by
  induction l with
  | nil=>split<;>rfl
  | cons t l ih =>
    rw [List.map_cons,C8,ih];by_cases h:q=p
    . rw [if_pos h,if_pos h,if_pos h]
    . rw [if_neg h,if_neg h,if_neg h]
theorem yA {p:Nat} {Q:List W6} {i:Nat}:C8 p (Q.take i) <+: C8 p Q:=by
  have h:C8 p Q=C8 p (Q.take i)++C8 p (Q.drop i):=by rw [<- yH,List.take_append_drop]
  exact ⟨_,h.symm⟩
def N8 (P:List W6):List W6->List y7
  | []=>[]
  | x::l=>G3 x.1 (C8 x.1 P).length x.2::N8 (P++[x]) l
def Q0 (Q:List W6):List y7:=N8 [] Q
theorem Ts:∀ {l P m:List W6},N8 P (l++m)=N8 P l++N8 (P++l) m
  | [],P,m=>by simp [N8]
  | x::l,P,m=>by
    rw [List.cons_append,N8,N8,Ts,List.cons_append,List.append_assoc]; rfl
theorem Tt:∀ {l P:List W6} {i:Nat},(N8 P l)[i]?=l[i]?.map (λ x=>G3 x.1 (C8 x.1 (P++l.take i)).length x.2)
  | [],P,i=>rfl
  | x::l,P,0=>by simp [N8]
  | x::l,P,i+1=>by
    rw [N8,List.getElem?_cons_succ,Tt,List.getElem?_cons_succ,List.take_succ_cons,List.append_assoc]; rfl
theorem Tu:∀ {l P:List W6},(N8 P l).length=l.length
  | [],_=>rfl
  | x::l,P=>by rw [N8,List.length_cons,Tu,List.length_cons]
theorem YQ {Q:List W6}:(Q0 Q).length=Q.length:=Tu
theorem RE {Q:List W6} {i:Nat}:(Q0 Q)[i]?=Q[i]?.map (λ x=>G3 x.1 (C8 x.1 (Q.take i)).length x.2):=by
  unfold Q0; rw [Tt]; rfl
theorem RD {Q m:List W6}:Q0 (Q++m)=Q0 Q++N8 Q m:=by
  unfold Q0; rw [Ts]; rfl
def xa (x:W6):E5:=(x.1,x.2,())
def ofP (p:Nat):List E5->List y7
  | []=>[]
  | x::l=>if x.1=(p:Int) then x.2.1::ofP p l else ofP p l
theorem Io {p:Nat}:∀ {l m:List E5},ofP p (l++m)=ofP p l++ofP p m
  | [],_=>rfl
  | x::l,m=>by
    rw [List.cons_append,ofP,ofP,Io]
    split<;>rfl
theorem Er {p:Nat}:∀ {Q:List W6},ofP p (Q.map xa)=C8 p Q
  | []=>rfl
  | x::l=>by
    rw [List.map_cons,ofP,C8,Er];by_cases h:x.1=p
    . rw [if_pos h,if_pos (by show (x.1:Int)=p; rw [h])]; rfl
    . rw [if_neg h,if_neg (by show ¬ (x.1:Int)=p; omega)]
theorem RU {p:Nat}:∀ {l:List E5},countP p l=(ofP p l).length
  | []=>rfl
  | x::l=>by
    rw [countP,ofP,RU];by_cases h:x.1=(p:Int)
    . rw [if_pos h,if_pos h,List.length_cons]; omega
    . rw [if_neg h,if_neg h]; omega
theorem PU {F:Nat->Option y7}:∀ {l:List w7} {n:Int},0<=n->(∀ q∈l,F q.1.toNat=some q.2.1)->∀ i,i<(E9 l n).2.2.length->F (n.toNat+i)=(E9 l n).2.2[i]?
  | [],n,_,_,i,hi=>absurd hi (by simp [E9])
  | p::l,n,h0,h,i,hi=>by
    rw [E9] at hi ⊢;by_cases e:p.1=n
    . rw [if_pos e] at hi ⊢;cases i with
      | zero=>rw [List.getElem?_cons_zero,<- e]; exact h p List.mem_cons_self
      | succ i =>
        rw [List.getElem?_cons_succ,<- PU (n:=n+1) (by omega) (λ q hq=>h q (List.mem_cons_of_mem _ hq)) i (by simpa using hi)];congr 1; omega
    . rw [if_neg e] at hi; exact absurd hi (by simp)
theorem Rs {F:Nat->Option y7} {s:ToD} {p:w7} (h:(E2 s p).2.2.1=0) (hs:∀ q∈s.2.1,F q.1.toNat=some q.2.1) (hp:F p.1.toNat=some p.2.1) :
    ∀ i,i<(E2 s p).2.1.length->F (s.1.toNat+i)=(E2 s p).2.1[i]?:=by
  obtain ⟨aK,h1,h2,hc⟩:=SW h;intro i hi;rcases hc with ⟨e,-⟩|⟨-,-,e⟩|⟨e1,e⟩
  . rw [e] at hi; exact absurd hi (by simp)
  . rw [e] at hi; exact absurd hi (by simp)
  . rw [e] at hi ⊢;cases i with
    | zero=>rw [List.getElem?_cons_zero,<- e1]; exact hp
    | succ i =>
      have h0:=aK.rg.1;show F (s.1.toNat+(i+1))=(p.2.1::(E9 s.2.1 (s.1+1)).2.2)[i+1]?;rw [List.getElem?_cons_succ,<- PU (n:=s.1+1) (by omega) hs i (by simpa using hi)];congr 1; omega
theorem Yk {α:Type} {X l:List α} {r:Nat} (h:∀ i,i<l.length->X[r+i]?=l[i]?):l=(X.drop r).take l.length:=by
  apply List.ext_getElem?;intro i;rw [List.getElem?_take]
  split
  . rename_i hi;rw [List.getElem?_drop,h i hi]
  . rename_i hi;exact List.getElem?_eq_none (by omega)
theorem Au {α:Type} {l m:List α} (h:l <+: m) {i:Nat} {x:α} (hx:l[i]?=some x):m[i]?=some x:=by
  obtain ⟨k,rfl⟩:=h;have hi:i<l.length:=by
    by_cases hi:i<l.length
    . exact hi
    . rw [List.getElem?_eq_none (by omega)] at hx; cases hx
  rw [List.getElem?_append_left hi]; exact hx
def W5 (m:Int) (p:Nat):Bool:=decide (U2 .u8 (m / (2:Int)^min p IntKind.u8.bits) 1=1)
theorem yI {w:f8} {p:Int}:l4 w p=true↔∃ k:Nat,p=k/\k<w.2.1.length/\W5 w.1.2.1 k=true/\(w.2.1.getD k g9).1=false:=by
  unfold l4;rw [Bool.and_eq_true,Bool.and_eq_true,M8,Bool.not_eq_true'];constructor
  . rintro ⟨⟨h1,h2⟩,h3⟩;exact ⟨p.toNat,by omega,by omega,h2,h3⟩
  . rintro ⟨k,rfl,h1,h2,h3⟩;exact ⟨⟨by omega,h2⟩,h3⟩
theorem X4 {w:f8} {k:Nat}:l4 w (k:Int)=true↔k<w.2.1.length/\W5 w.1.2.1 k=true/\(w.2.1.getD k g9).1=false:=by
  rw [yI];constructor
  . rintro ⟨j,h,h1⟩;obtain rfl:k=j:=by omega
    exact h1
  . exact λ h=>⟨k,rfl,h⟩
def b79:Go.Shelf.Ren:=⟨λ|129=>120|171=>50|243=>68|246=>87|283=>104|284=>105|285=>106|286=>107|317=>119|318=>121|319=>122|320=>123|337=>143|338=>144|n=>n,λ|0=>0|2=>2|3=>3|4=>4|5=>5|9=>9|20=>20|37=>115|46=>119|51=>117|53=>159|171=>158|173=>162|212=>176|213=>177|232=>208|233=>209|n=>n,λ|17=>0|18=>4|19=>5|n=>n⟩
theorem Wo:Go.Proofs.LaysM.n171 Tryz.prog b79:={
  mixed:=by kernel_rfl,
  f129:=Tryz.func120.trans (congrArg some (by kernel_rfl)),
  f171:=Tryz.func50.trans (congrArg some (by kernel_rfl)),
  f243:=Tryz.func68.trans (congrArg some (by kernel_rfl)),
  f246:=Tryz.func87.trans (congrArg some (by kernel_rfl)),
  f283:=Tryz.func104.trans (congrArg some (by kernel_rfl)),
  f284:=Tryz.func105.trans (congrArg some (by kernel_rfl)),
  f285:=Tryz.func106.trans (congrArg some (by kernel_rfl)),
  f286:=Tryz.func107.trans (congrArg some (by kernel_rfl)),
  f317:=Tryz.func119.trans (congrArg some (by kernel_rfl)),
  f318:=Tryz.func121.trans (congrArg some (by kernel_rfl)),
  f319:=Tryz.func122.trans (congrArg some (by kernel_rfl)),
  f320:=Tryz.func123.trans (congrArg some (by kernel_rfl)),
  f337:=Tryz.func143.trans (congrArg some (by kernel_rfl)),
  f338:=Tryz.func144.trans (congrArg some (by kernel_rfl)),
  t0:=Tryz.underlying0,
  a0:=Tryz.isAgg0,
  z0:=Tryz.sizeOf0,
  v0:=Tryz.zeroValue0,
  t2:=Tryz.underlying2,
  a2:=Tryz.isAgg2,
  z2:=Tryz.sizeOf2,
  v2:=Tryz.zeroValue2,
  t3:=Tryz.underlying3,
  a3:=Tryz.isAgg3,
  z3:=Tryz.sizeOf3,
  v3:=Tryz.zeroValue3,
  t4:=Tryz.underlying4,
  a4:=Tryz.isAgg4,
  z4:=Tryz.sizeOf4,
  v4:=Tryz.zeroValue4,
  t5:=Tryz.underlying5,
  a5:=Tryz.isAgg5,
  z5:=Tryz.sizeOf5,
  v5:=Tryz.zeroValue5,
  t9:=Tryz.underlying9,
  a9:=Tryz.isAgg9,
  z9:=Tryz.sizeOf9,
  v9:=Tryz.zeroValue9,
  t20:=Tryz.underlying20,
  a20:=Tryz.isAgg20,
  z20:=Tryz.sizeOf20,
  v20:=Tryz.zeroValue20,
  t37:=Tryz.underlying115,
  a37:=Tryz.isAgg115,
  z37:=Tryz.sizeOf115,
  v37:=Tryz.zeroValue115,
  t46:=Tryz.underlying119,
  a46:=Tryz.isAgg119,
  z46:=Tryz.sizeOf119,
  v46:=Tryz.zeroValue119,
  t51:=Tryz.underlying117,
  a51:=Tryz.isAgg117,
  z51:=Tryz.sizeOf117,
  v51:=Tryz.zeroValue117,
  t53:=Tryz.underlying159,
  a53:=Tryz.isAgg159,
  z53:=Tryz.sizeOf159,
  v53:=Tryz.zeroValue159,
  t171:=Tryz.underlying158,
  a171:=Tryz.isAgg158,
  z171:=Tryz.sizeOf158,
  v171:=Tryz.zeroValue158,
  t173:=Tryz.underlying162,
  a173:=Tryz.isAgg162,
  z173:=Tryz.sizeOf162,
  v173:=Tryz.zeroValue162,
  t212:=Tryz.underlying176,
  a212:=Tryz.isAgg176,
  z212:=Tryz.sizeOf176,
  v212:=Tryz.zeroValue176,
  t213:=Tryz.underlying177,
  a213:=Tryz.isAgg177,
  z213:=Tryz.sizeOf177,
  t232:=Tryz.underlying208,
  a232:=Tryz.isAgg208,
  z232:=Tryz.sizeOf208,
  v232:=Tryz.zeroValue208,
  t233:=Tryz.underlying209,
  a233:=Tryz.isAgg209,
  z233:=Tryz.sizeOf209,
  v233:=Tryz.zeroValue209,
  g17:=by kernel_rfl,
  g18:=by kernel_rfl,
  g19:=by kernel_rfl,
  i0:=by kernel_rfl,
  i2:=by kernel_rfl,
  i3:=by kernel_rfl,
  i4:=by kernel_rfl,
  i5:=by kernel_rfl,
  i9:=by kernel_rfl,
  i20:=by kernel_rfl,
  i37:=by kernel_rfl,
  i46:=by kernel_rfl,
  i51:=by kernel_rfl,
  i53:=by kernel_rfl,
  i171:=by kernel_rfl,
  i173:=by kernel_rfl,
  i212:=by kernel_rfl,
  i232:=by kernel_rfl,
  i233:=by kernel_rfl,
  m17:=by kernel_rfl,
  m18:=by kernel_rfl,
  m19:=by kernel_rfl }
theorem YJ {w:World} {k:Nat} {os:Array Obj}:F9 [] w (Sort.grow (w.drewN k) os):=by
  refine ⟨rfl,⟨rfl,Nat.le_add_right _ _⟩,rfl,?_,?_⟩
  . show w.heap.size<=(w.heap++os).size;simp
  . intro c hc _;show (w.heap++os)[c]?=_;rw [Array.getElem?_append,if_pos hc]
theorem bsz (s:yY):(⟨s.toArray⟩:ByteArray).size=s.length:=by simp [ByteArray.size]
end Go.Proofs.YtijlnmgondibnaaGreatDoor
namespace Go.Proofs.YtijlnmgondibnaaGreatDoor
set_option maxRecDepth 100000
end Go.Proofs.YtijlnmgondibnaaGreatDoor
set_option linter.unusedVariables false
namespace Go.Proofs.YtijlnmgondibnaaGreatDoor
open Go.Ex Go.RowKit Go.Shelf
set_option maxRecDepth 100000
def b8a:Go.Shelf.Ren:=⟨λ|129=>120|171=>50|172=>85|205=>142|243=>68|244=>102|245=>103|246=>87|247=>114|279=>115|280=>116|281=>117|282=>118|283=>104|284=>105|285=>106|286=>107|287=>140|316=>141|317=>119|318=>121|319=>122|320=>123|321=>155|322=>156|337=>143|338=>144|n=>n,λ|0=>0|2=>2|3=>3|4=>4|5=>5|9=>9|20=>20|21=>21|37=>115|46=>119|51=>117|53=>159|75=>140|76=>141|80=>216|85=>170|127=>204|143=>205|145=>207|167=>169|168=>172|171=>158|173=>162|175=>188|210=>192|212=>176|213=>177|232=>208|233=>209|n=>n,λ|15=>2|16=>3|17=>0|18=>4|19=>5|n=>n⟩
theorem Wn:Go.Proofs.Lays.n172 Tryz.prog b8a:={
  mixed:=by kernel_rfl,
  f129:=Tryz.func120.trans (congrArg some (by kernel_rfl)),
  f171:=Tryz.func50.trans (congrArg some (by kernel_rfl)),
  f172:=Tryz.func85.trans (congrArg some (by kernel_rfl)),
  f205:=Tryz.func142.trans (congrArg some (by kernel_rfl)),
  f243:=Tryz.func68.trans (congrArg some (by kernel_rfl)),
  f244:=Tryz.func102.trans (congrArg some (by kernel_rfl)),
  f245:=Tryz.func103.trans (congrArg some (by kernel_rfl)),
  f246:=Tryz.func87.trans (congrArg some (by kernel_rfl)),
  f247:=Tryz.func114.trans (congrArg some (by kernel_rfl)),
  f279:=Tryz.func115.trans (congrArg some (by kernel_rfl)),
  f280:=Tryz.func116.trans (congrArg some (by kernel_rfl)),
  f281:=Tryz.func117.trans (congrArg some (by kernel_rfl)),
  f282:=Tryz.func118.trans (congrArg some (by kernel_rfl)),
  f283:=Tryz.func104.trans (congrArg some (by kernel_rfl)),
  f284:=Tryz.func105.trans (congrArg some (by kernel_rfl)),
  f285:=Tryz.func106.trans (congrArg some (by kernel_rfl)),
  f286:=Tryz.func107.trans (congrArg some (by kernel_rfl)),
  f287:=Tryz.func140.trans (congrArg some (by kernel_rfl)),
  f316:=Tryz.func141.trans (congrArg some (by kernel_rfl)),
  f317:=Tryz.func119.trans (congrArg some (by kernel_rfl)),
  f318:=Tryz.func121.trans (congrArg some (by kernel_rfl)),
  f319:=Tryz.func122.trans (congrArg some (by kernel_rfl)),
  f320:=Tryz.func123.trans (congrArg some (by kernel_rfl)),
  f321:=Tryz.func155.trans (congrArg some (by kernel_rfl)),
  f322:=Tryz.func156.trans (congrArg some (by kernel_rfl)),
  f337:=Tryz.func143.trans (congrArg some (by kernel_rfl)),
  f338:=Tryz.func144.trans (congrArg some (by kernel_rfl)),
  t0:=Tryz.underlying0,
  a0:=Tryz.isAgg0,
  z0:=Tryz.sizeOf0,
  v0:=Tryz.zeroValue0,
  t2:=Tryz.underlying2,
  a2:=Tryz.isAgg2,
  z2:=Tryz.sizeOf2,
  v2:=Tryz.zeroValue2,
  t3:=Tryz.underlying3,
  a3:=Tryz.isAgg3,
  z3:=Tryz.sizeOf3,
  v3:=Tryz.zeroValue3,
  t4:=Tryz.underlying4,
  a4:=Tryz.isAgg4,
  z4:=Tryz.sizeOf4,
  v4:=Tryz.zeroValue4,
  t5:=Tryz.underlying5,
  a5:=Tryz.isAgg5,
  z5:=Tryz.sizeOf5,
  v5:=Tryz.zeroValue5,
  t9:=Tryz.underlying9,
  a9:=Tryz.isAgg9,
  z9:=Tryz.sizeOf9,
  v9:=Tryz.zeroValue9,
  t20:=Tryz.underlying20,
  a20:=Tryz.isAgg20,
  z20:=Tryz.sizeOf20,
  v20:=Tryz.zeroValue20,
  t21:=Tryz.underlying21,
  a21:=Tryz.isAgg21,
  z21:=Tryz.sizeOf21,
  v21:=Tryz.zeroValue21,
  t37:=Tryz.underlying115,
  a37:=Tryz.isAgg115,
  z37:=Tryz.sizeOf115,
  v37:=Tryz.zeroValue115,
  t46:=Tryz.underlying119,
  a46:=Tryz.isAgg119,
  z46:=Tryz.sizeOf119,
  v46:=Tryz.zeroValue119,
  t51:=Tryz.underlying117,
  a51:=Tryz.isAgg117,
  z51:=Tryz.sizeOf117,
  v51:=Tryz.zeroValue117,
  t53:=Tryz.underlying159,
  a53:=Tryz.isAgg159,
  z53:=Tryz.sizeOf159,
  v53:=Tryz.zeroValue159,
  t75:=Tryz.underlying140,
  a75:=Tryz.isAgg140,
  z75:=Tryz.sizeOf140,
  v75:=Tryz.zeroValue140,
  t76:=Tryz.underlying141,
  a76:=Tryz.isAgg141,
  z76:=Tryz.sizeOf141,
  v76:=Tryz.zeroValue141,
  t85:=Tryz.underlying170,
  a85:=Tryz.isAgg170,
  z85:=Tryz.sizeOf170,
  v85:=Tryz.zeroValue170,
  t127:=Tryz.underlying204,
  a127:=Tryz.isAgg204,
  z127:=Tryz.sizeOf204,
  v127:=Tryz.zeroValue204,
  t143:=Tryz.underlying205,
  a143:=Tryz.isAgg205,
  z143:=Tryz.sizeOf205,
  v143:=Tryz.zeroValue205,
  t145:=Tryz.underlying207,
  a145:=Tryz.isAgg207,
  z145:=Tryz.sizeOf207,
  v145:=Tryz.zeroValue207,
  t167:=Tryz.underlying169,
  a167:=Tryz.isAgg169,
  z167:=Tryz.sizeOf169,
  v167:=Tryz.zeroValue169,
  t168:=Tryz.underlying172,
  a168:=Tryz.isAgg172,
  z168:=Tryz.sizeOf172,
  v168:=Tryz.zeroValue172,
  t171:=Tryz.underlying158,
  a171:=Tryz.isAgg158,
  z171:=Tryz.sizeOf158,
  v171:=Tryz.zeroValue158,
  t173:=Tryz.underlying162,
  a173:=Tryz.isAgg162,
  z173:=Tryz.sizeOf162,
  v173:=Tryz.zeroValue162,
  t175:=Tryz.underlying188,
  a175:=Tryz.isAgg188,
  z175:=Tryz.sizeOf188,
  v175:=Tryz.zeroValue188,
  t210:=Tryz.underlying192,
  a210:=Tryz.isAgg192,
  z210:=Tryz.sizeOf192,
  v210:=Tryz.zeroValue192,
  t212:=Tryz.underlying176,
  a212:=Tryz.isAgg176,
  z212:=Tryz.sizeOf176,
  v212:=Tryz.zeroValue176,
  t213:=Tryz.underlying177,
  a213:=Tryz.isAgg177,
  z213:=Tryz.sizeOf177,
  t232:=Tryz.underlying208,
  a232:=Tryz.isAgg208,
  z232:=Tryz.sizeOf208,
  v232:=Tryz.zeroValue208,
  t233:=Tryz.underlying209,
  a233:=Tryz.isAgg209,
  z233:=Tryz.sizeOf209,
  v233:=Tryz.zeroValue209,
  g15:=by kernel_rfl,
  g16:=by kernel_rfl,
  g17:=by kernel_rfl,
  g18:=by kernel_rfl,
  g19:=by kernel_rfl }
end Go.Proofs.YtijlnmgondibnaaGreatDoor
set_option linter.unusedVariables false
namespace Go.Proofs.YtijlnmgondibnaaGreatDoor
open Go.Ex
set_option maxRecDepth 100000
def c0L:Go.Shelf.Ren:=⟨λ|145=>84|217=>136|219=>113|220=>101|224=>138|225=>137|266=>153|267=>139|314=>154|n=>n,λ|3=>3|4=>4|5=>5|9=>9|46=>119|51=>117|59=>137|146=>201|n=>n,λ|1=>1|n=>n⟩
theorem Vu:Go.Proofs.Lays.n145 Tryz.prog c0L:={
  mixed:=by kernel_rfl,
  f145:=Tryz.func84.trans (congrArg some (by kernel_rfl)),
  f217:=Tryz.func136.trans (congrArg some (by kernel_rfl)),
  f219:=Tryz.func113.trans (congrArg some (by kernel_rfl)),
  f220:=Tryz.func101.trans (congrArg some (by kernel_rfl)),
  f224:=Tryz.func138.trans (congrArg some (by kernel_rfl)),
  f225:=Tryz.func137.trans (congrArg some (by kernel_rfl)),
  f266:=Tryz.func153.trans (congrArg some (by kernel_rfl)),
  f267:=Tryz.func139.trans (congrArg some (by kernel_rfl)),
  f314:=Tryz.func154.trans (congrArg some (by kernel_rfl)),
  t3:=Tryz.underlying3,
  a3:=Tryz.isAgg3,
  z3:=Tryz.sizeOf3,
  v3:=Tryz.zeroValue3,
  t4:=Tryz.underlying4,
  a4:=Tryz.isAgg4,
  z4:=Tryz.sizeOf4,
  v4:=Tryz.zeroValue4,
  t5:=Tryz.underlying5,
  a5:=Tryz.isAgg5,
  z5:=Tryz.sizeOf5,
  v5:=Tryz.zeroValue5,
  t9:=Tryz.underlying9,
  a9:=Tryz.isAgg9,
  z9:=Tryz.sizeOf9,
  v9:=Tryz.zeroValue9,
  t46:=Tryz.underlying119,
  a46:=Tryz.isAgg119,
  z46:=Tryz.sizeOf119,
  v46:=Tryz.zeroValue119,
  t51:=Tryz.underlying117,
  a51:=Tryz.isAgg117,
  z51:=Tryz.sizeOf117,
  v51:=Tryz.zeroValue117,
  t59:=Tryz.underlying137,
  a59:=Tryz.isAgg137,
  z59:=Tryz.sizeOf137,
  v59:=Tryz.zeroValue137,
  t146:=Tryz.underlying201,
  a146:=Tryz.isAgg201,
  z146:=Tryz.sizeOf201,
  v146:=Tryz.zeroValue201,
  g1:=by kernel_rfl }
def HB:r9:={ ps:=[.v f7],rs:=[.str],pre:=λ _=>True,fn:=λ x=>(E0 x.1,()),out:=λ _=>() }
theorem Tw:HB.Valid Tryz.prog 50:=by
  refine ⟨⟨_,Tryz.func50,by kernel_rfl,by kernel_rfl⟩,?_,λ h=>by cases h⟩;rintro w S vs ⟨(n:Int),⟨⟩⟩ L hS ec - ⟨v1,us,L1,L2,rfl,rfl,⟨rfl,cs,rfl,r1⟩,rfl,rfl⟩ - aN hL;obtain ⟨-,rfl,(hn:u7 .i64 n)⟩:=r1;obtain ⟨h0,h1⟩:=G9.1 hn;obtain ⟨-,cs,h2,h3⟩:=ec _ (List.mem_cons_self ..) 0 (by kernel_rfl);refine (Any.strconv_Itoa Wo n h0 h1 w (h2.trans (congrArg some h3))).mono ?_;rintro e w' ⟨rfl,k,os,rfl⟩;refine ⟨[.string ⟨(Lib.itoa n).toArray⟩],[],[],S,rfl,YJ,λ _ h=>h,λ b h=>.inl h,⟨_,[],[],[],[.string ⟨(Lib.itoa n).toArray⟩],rfl,rfl,rfl,⟨rfl,?_,?_⟩,rfl,rfl⟩,⟨_,[],rfl,rfl,rfl⟩,by simp,by simp⟩
  . rw [Wt h0 h1]; rfl
  . have:=CO h0 h1;show (E0 n).length<=maxLen;exact Nat.le_trans this (by decide)
def GS:r9:={ ps:=[.v .str],rs:=[f7,.fn 4000000],pre:=λ x=>List.length (α:=UInt8) x.1<=18/\(Lib.atoi x.1).isSome=true,fn:=λ x=>((Lib.atoi x.1).getD 0,false,()),out:=λ _=>() }
theorem decFrom_lt:∀ {l:yY} {a n:Nat},Lib.decFrom a l=some n->n<(a+1)*10^l.length
  | [],a,n,h=>by
    simp only [Lib.decFrom,Option.some.injEq] at h;subst h;simp
  | b::l,a,n,h=>by
    rw [Lib.decFrom] at h;cases e:Lib.digitVal b with
    | none=>rw [e] at h; cases h
    | some d =>
      rw [e] at h;have h1:=decFrom_lt h;have hd:d<=9:=by
        unfold Lib.digitVal at e;split at e
        . simp only [Option.some.injEq] at e; omega
        . cases e
      refine Nat.lt_of_lt_of_le h1 ?_;rw [List.length_cons,Nat.pow_succ,Nat.mul_comm (10^l.length) 10,<- Nat.mul_assoc];exact Nat.mul_le_mul_right _ (by omega)
theorem JN {l:yY} {n:Nat} (h:Lib.decNat l=some n) (hl:l.length<=18):n<1000000000000000000:=by
  unfold Lib.decNat at h;split at h
  . cases h
  . have h1:=decFrom_lt h;have h2:10^l.length<=10^18:=Nat.pow_le_pow_right (by decide) hl;have h3:(10:Nat)^18=1000000000000000000:=by decide
    omega
theorem WI {l:yY} {n:Int} (h:Lib.atoi l=some n) (hl:l.length<=18):-1000000000000000000<n/\n<1000000000000000000:=by
  cases l with
  | nil=>cases h
  | cons b r =>
    rw [Lib.atoi] at h;simp only [List.length_cons] at hl;split at h
    . cases e:Lib.decNat r with
      | none=>rw [e] at h; cases h
      | some m=>rw [e] at h; simp only [Option.map_some,Option.some.injEq] at h; have:=JN e (by omega); omega
    . split at h
      . cases e:Lib.decNat r with
        | none=>rw [e] at h; cases h
        | some m=>rw [e] at h; simp only [Option.map_some,Option.some.injEq] at h; have:=JN e (by omega); omega
      . cases e:Lib.decNat (b::r) with
        | none=>rw [e] at h; cases h
        | some m=>rw [e] at h; simp only [Option.map_some,Option.some.injEq] at h; have:=JN e (by simp only [List.length_cons]; omega); omega
theorem b8B:GS.Valid Tryz.prog 85:=by
  refine ⟨⟨_,Tryz.func85,by kernel_rfl,by kernel_rfl⟩,?_,λ h=>by cases h⟩;rintro w S vs ⟨(s:yY),⟨⟩⟩ L hS ec ⟨(h1:s.length<=18),(h2:(Lib.atoi s).isSome=true)⟩ ⟨v1,us,L1,L2,rfl,rfl,⟨rfl,cs,rfl,r1⟩,rfl,rfl⟩ - aN hL;obtain ⟨-,rfl,hs⟩:=r1;obtain ⟨n,hn⟩:=Option.isSome_iff_exists.1 h2;refine (Any.strconv_Atoi Wn ⟨s.toArray⟩ n (by rw [bsz]; exact h1) hn w).mono ?_;rintro e w' ⟨rfl,t,rfl⟩;have hf:GS.fn (s,())=(n,false,()):=by
    show ((Lib.atoi s).getD 0,false,())=(n,false,());rw [hn]; rfl
  rw [hf];have hr:=WI hn h1;refine ⟨[.int .i64 n,.nilIface],[],[],S,rfl,⟨rfl,⟨rfl,Nat.le_succ _⟩,rfl,by rw [Lib.bytesWorld_size]; omega,λ j hj _=>Lib.bytesWorld_at_old w _ t j hj⟩,λ _ h=>h,λ b h=>.inl h,⟨_,_,[],[],[.int .i64 n],rfl,rfl,rfl,⟨rfl,rfl,?_⟩,_,_,[],[],[.nilIface],rfl,rfl,rfl,⟨rfl,rfl⟩,rfl,rfl⟩,⟨_,[],rfl,rfl,rfl⟩,by simp,by simp⟩;exact ⟨by show -9223372036854775808<=n; omega,by show n<=9223372036854775807; omega⟩
def LS:r9:={ ps:=[.v .str,.v .str],rs:=[.str,.str,.bool],pre:=λ x=>List.length (α:=UInt8) x.1<=1000000/\Eq (α:=yY) x.2.1 [58],fn:=λ x=>((C1 x.1).1,(C1 x.1).2.1,(C1 x.1).2.2,()),out:=λ _=>() }
theorem ZS:LS.Valid Tryz.prog 84:=by
  refine ⟨⟨_,Tryz.func84,by kernel_rfl,by kernel_rfl⟩,?_,λ h=>by cases h⟩;rintro w S vs ⟨(s:yY),(p:yY),⟨⟩⟩ L hS ec ⟨(h1:s.length<=1000000),(h2:p=[58])⟩ ⟨v1,us,L1,L2,rfl,rfl,⟨rfl,cs,rfl,r1⟩,v2,us2,L3,L4,rfl,rfl,⟨rfl,cs2,rfl,r2⟩,rfl,rfl⟩ - aN hL;obtain ⟨-,rfl,hs⟩:=r1;obtain ⟨-,rfl,hp⟩:=r2;obtain ⟨-,cs,g2,m,g3⟩:=ec ("internal/bytealg.MaxLen",_) (List.mem_cons_of_mem _ (List.mem_cons_self ..)) 1 (by kernel_rfl)
  have hm:w.cell? ⟨1,0,none⟩=some (.int .i64 m):=by
    have:=World.var?_cell (show Tryz.prog.globalNamed "internal/bytealg.MaxLen"=some 1 by kernel_rfl) g2 0
    rw [this,g3]
  refine (Any.strings_Cut Vu ⟨s.toArray⟩ ⟨p.toArray⟩ m w (by rw [bsz]; omega) hm).mono ?_;rintro e w' ⟨rfl,k,rfl⟩;have hc:Lib.cut (ByteArray.mk s.toArray).data.toList (ByteArray.mk p.toArray).data.toList=C1 s:=by
    show Lib.cut s p=C1 s;rw [h2,Oe]
  rw [hc];have hl:=Cl s;have hD:F9 [] w (w.drewN k):=⟨rfl,⟨rfl,Nat.le_add_right _ _⟩,rfl,Nat.le_refl _,λ _ _ _=>rfl⟩;have jF:maxLen=9223372036854775807:=by decide
  refine ⟨[.string ⟨(C1 s).1.toArray⟩,.string ⟨(C1 s).2.1.toArray⟩,.bool (C1 s).2.2],[],[],S,rfl,hD,λ _ h=>h,λ b h=>.inl h,⟨_,_,[],[],[_],rfl,rfl,rfl,⟨rfl,rfl,?_⟩,_,_,[],[],[_],rfl,rfl,rfl,⟨rfl,rfl,?_⟩,_,_,[],[],[_],rfl,rfl,rfl,⟨rfl,rfl⟩,rfl,rfl⟩,⟨_,_,rfl,⟨_,[],rfl,rfl,rfl⟩⟩,by simp,by simp⟩
  . show (C1 s).1.length<=maxLen; omega
  . show (C1 s).2.1.length<=maxLen; omega
end Go.Proofs.YtijlnmgondibnaaGreatDoor
namespace Go.Proofs.YtijlnmgondibnaaGreatDoor
open Go.Ex
set_option maxRecDepth 100000
attribute [local irreducible] Go.Ex.exec
theorem Cq {x:yY} {w:f8}:∀ p,(F4 x w p).2.1=w.2.1/\(F4 x w p).1=w.1/\(F4 x w p).2.2.1=w.2.2.1
  | 0=>⟨rfl,rfl,rfl⟩
  | p+1=>by
    obtain ⟨h1,h2,h3⟩:=Cq (x:=x) (w:=w) p;rw [F4]
    split
    . obtain ⟨g1,g2,g3⟩:=EX (w:=F4 x w p) (k:=2) (f:=s7 (F4 x w p)) (t:=p) (s:=((F4 x w p).2.2.1.length:Int) - 1) (x:=x);exact ⟨g1.trans h1,g2.trans h2,g3.trans h3⟩
    . exact ⟨h1,h2,h3⟩
theorem YS {x:yY} {w:f8} {p:Nat} (h:l4 (F4 x w p) p=true):F4 x w (p+1)=M0 (F4 x w p) 2 (s7 (F4 x w p)) p (((F4 x w p).2.2.1.length:Int) - 1) x:=by
  rw [F4]; exact if_pos h
theorem YR {x:yY} {w:f8} {p:Nat} (h:l4 (F4 x w p) p=false):F4 x w (p+1)=F4 x w p:=by
  rw [F4]; exact if_neg (by rw [h]; decide)
theorem JU {f first:Int} {l:List yY} {w:f8}:∀ i,(I4 f first l w i).2.1=w.2.1/\(I4 f first l w i).1=w.1/\(I4 f first l w i).2.2.1.length=w.2.2.1.length+i
  | 0=>⟨rfl,rfl,rfl⟩
  | i+1=>by
    obtain ⟨h1,h2,h3⟩:=JU (f:=f) (first:=first) (l:=l) (w:=w) i;rw [I4];obtain ⟨g1,g2,g3⟩:=Cq (x:=G3 f (first+i) (l.getD i [])) (w:=xd (I4 f first l w i) (G3 f (first+i) (l.getD i []))) (I4 f first l w i).2.1.length;refine ⟨g1.trans h1,g2.trans h2,?_⟩;rw [g3];show ((I4 f first l w i).2.2.1++[_]).length=_;rw [List.length_append,h3]; rfl
def HD:r9:={ ps:=[.rw r8,.v zH],rs:=[],pre:=λ x=>List.length (α:=p7) (x.1:f8).2.1<=6/\(¬ known x.1 x.2.1.2.1≠0)/\List.length (α:=yY) (x.1:f8).2.2.1<=1000000000000,fn:=λ _=>(),out:=λ x=>(N7 x.1 x.2.1,()) }
noncomputable def zl:Env:={ P:=Tryz.prog,tt:=tt,E4:=[(83,Hh),(50,HB),(47,yS),(43,Ad),(44,zO)],res:=[],rs:=[],ps:=[PK.rw r8,PK.v (Ty.pair f7 (Ty.pair f7 (Ty.pair f7 (Ty.pair f7 (Ty.pair f7 (Ty.pair Z0 (Ty.pair Ty.str Ty.unit)))))))],D5:=[(7,[(0,none),(3,none),(8,none),(45,some (Ty.d8 true Ty.str)),(46,none),(47,none)]),(12,[(0,none),(3,none),(8,none),(11,none),(45,some (Ty.d8 true Ty.str)),(46,none),(47,none),(78,none),(79,none)])],nt:=99 }
theorem a31:C0 zl:=C7 s9 ⟨SL,Tw,CE,Fy,Fl,trivial⟩
theorem Ft:D7 zl Tryz.f66:=⟨rfl,rfl⟩
theorem XK (aj:Int) (af:Int) (ab:List p7) (ae:List yY) (aa:List yY) (bJ:Int) (aS:Int) (aP:Int) (bd:Int) (aI:Int) (aY:List Int) (az:yY):exec zl 1000 [.code (d9 Tryz.prog 66)] (y8 HD.ps ((((aj,af,()),ab,ae,aa,()),(bJ,aS,aP,bd,aI,aY,az,()),()))) =
  .f9 ((0:Int)<=aS/\aS<(↑(List.length ab):Int)) (.f9 (True) (cond (decide (Prod.fst (Prod.snd (Prod.snd (E2 (Prod.fst (Prod.snd (Prod.snd (Prod.snd (Prod.snd (List.getD ab (Int.toNat aS) (false,[],((0:Int),[],()),((0:Int),[],()),((0:Int),[],()),()))))))) (aI,az,()))))≠(0:Int))) (.ret ((((aj,af,()),ab,ae,aa,()),()))) (.ctL (g8 (d9 Tryz.prog 66) 7) (St.mk [(0,AV.ptr 2000000 []),(3,AV.ptr 3 []),(8,AV.val f7 (Prod.fst (Prod.fst (Prod.snd (Prod.snd (Prod.snd (Prod.snd (List.getD ab (Int.toNat aS) (false,[],((0:Int),[],()),((0:Int),[],()),((0:Int),[],()),()))))))))),(45,AV.at_ 1000045 []),(46,AV.val f7 (↑(List.length (Prod.fst (Prod.snd (E2 (Prod.fst (Prod.snd (Prod.snd (Prod.snd (Prod.snd (List.getD ab (Int.toNat aS) (false,[],((0:Int),[],()),((0:Int),[],()),((0:Int),[],()),()))))))) (aI,az,()))))):Int)),(47,AV.val f7 (0:Int))] [(3,i7.var (Ty.pair f7 (Ty.pair f7 (Ty.pair f7 (Ty.pair f7 (Ty.pair f7 (Ty.pair Z0 (Ty.pair Ty.str Ty.unit))))))) (bJ,aS,aP,bd,aI,aY,az,())),(1000045,i7.own (Ty.d8 true Ty.str) (Prod.fst (Prod.snd (E2 (Prod.fst (Prod.snd (Prod.snd (Prod.snd (Prod.snd (List.getD ab (Int.toNat aS) (false,[],((0:Int),[],()),((0:Int),[],()),((0:Int),[],()),()))))))) (aI,az,()))))),(2000000,i7.var r8 ((aj,af,()),List.set ab (Int.toNat aS) (Prod.fst (List.getD ab (Int.toNat aS) (false,[],((0:Int),[],()),((0:Int),[],()),((0:Int),[],()),())),Prod.fst (Prod.snd (List.getD ab (Int.toNat aS) (false,[],((0:Int),[],()),((0:Int),[],()),((0:Int),[],()),()))),Prod.fst (Prod.snd (Prod.snd (List.getD ab (Int.toNat aS) (false,[],((0:Int),[],()),((0:Int),[],()),((0:Int),[],()),())))),Prod.fst (Prod.snd (Prod.snd (Prod.snd (List.getD ab (Int.toNat aS) (false,[],((0:Int),[],()),((0:Int),[],()),((0:Int),[],()),()))))),Prod.fst (E2 (Prod.fst (Prod.snd (Prod.snd (Prod.snd (Prod.snd (List.getD ab (Int.toNat aS) (false,[],((0:Int),[],()),((0:Int),[],()),((0:Int),[],()),()))))))) (aI,az,())),Prod.snd (Prod.snd (Prod.snd (Prod.snd (Prod.snd (List.getD ab (Int.toNat aS) (false,[],((0:Int),[],()),((0:Int),[],()),((0:Int),[],()),()))))))),ae,aa,()))])))):=by kernel_rfl
def JZ (v8:Int) (v46:Int) (uZ:Int) (cG:Int) (ba:Int) (aW:Int) (aO:Int) (aD:Int) (aw:List Int) (aq:yY) (cp:List yY) (au:Int) (an:Int) (ai:List p7) (ak:List yY) (ah:List yY):St:=St.mk [(0,AV.ptr 2000000 []),(3,AV.ptr 3 []),(8,AV.val f7 v8),(45,AV.at_ 1000045 []),(46,AV.val f7 v46),(47,AV.val f7 uZ)] [(3,i7.var (Ty.pair f7 (Ty.pair f7 (Ty.pair f7 (Ty.pair f7 (Ty.pair f7 (Ty.pair Z0 (Ty.pair Ty.str Ty.unit))))))) (cG,ba,aW,aO,aD,aw,aq,())),(1000045,i7.own (Ty.d8 true Ty.str) cp),(2000000,i7.var r8 ((au,an,()),ai,ak,ah,()))]
theorem Zm (v8:Int) (v46:Int) (uZ:Int) (cG:Int) (ba:Int) (aW:Int) (aO:Int) (aD:Int) (aw:List Int) (aq:yY) (cp:List yY) (au:Int) (an:Int) (ai:List p7) (ak:List yY) (ah:List yY):exec zl 1000 (.code (g8 (d9 Tryz.prog 66) 7).1::.inLoop (g8 (d9 Tryz.prog 66) 7).1::(g8 (d9 Tryz.prog 66) 7).2) (JZ v8 v46 uZ cG ba aW aO aD aw aq cp au an ai ak ah) =
  cond (decide (uZ<v46)) (.f9 ((0:Int)<=uZ/\uZ<(↑(List.length cp):Int)) (.f9 (True) (.f9 (List.length (E0 ba)+List.length (Array.toList (ByteArray.data (ByteArray.mk #[58])))<=Go.maxLen) (.f9 (u7 IntKind.i64 (v8+uZ)) (.f9 (True) (.f9 (List.length (E0 ba++Array.toList (ByteArray.data (ByteArray.mk #[58])))+List.length (E0 (v8+uZ))<=Go.maxLen) (.f9 (List.length (E0 ba++Array.toList (ByteArray.data (ByteArray.mk #[58]))++E0 (v8+uZ))+List.length (Array.toList (ByteArray.data (ByteArray.mk #[58])))<=Go.maxLen) (.f9 (List.length (E0 ba++Array.toList (ByteArray.data (ByteArray.mk #[58]))++E0 (v8+uZ)++Array.toList (ByteArray.data (ByteArray.mk #[58])))+List.length (List.getD cp (Int.toNat uZ) [])<=Go.maxLen) (.f9 (True/\True/\[]++[Step.l8 2]=[]++[Step.l8 2]/\List.length ak+List.length (List.set [[]] (Int.toNat (↑0:Int)) (E0 ba++Array.toList (ByteArray.data (ByteArray.mk #[58]))++E0 (v8+uZ)++Array.toList (ByteArray.data (ByteArray.mk #[58]))++List.getD cp (Int.toNat uZ) []))<=140737488355328/\(List.length ak+List.length (List.set [[]] (Int.toNat (↑0:Int)) (E0 ba++Array.toList (ByteArray.data (ByteArray.mk #[58]))++E0 (v8+uZ)++Array.toList (ByteArray.data (ByteArray.mk #[58]))++List.getD cp (Int.toNat uZ) [])))*Ty.wb Ty.str<=140737488355328) (.ctL (g8 (d9 Tryz.prog 66) 12) (St.mk [(0,AV.ptr 2000000 []),(3,AV.ptr 3 []),(8,AV.val f7 v8),(11,AV.val Ty.str (E0 ba++Array.toList (ByteArray.data (ByteArray.mk #[58]))++E0 (v8+uZ)++Array.toList (ByteArray.data (ByteArray.mk #[58]))++List.getD cp (Int.toNat uZ) [])),(45,AV.at_ 1000045 []),(46,AV.val f7 v46),(47,AV.val f7 uZ),(78,AV.val f7 (↑(List.length ai):Int)),(79,AV.val f7 (0:Int))] [(3,i7.var (Ty.pair f7 (Ty.pair f7 (Ty.pair f7 (Ty.pair f7 (Ty.pair f7 (Ty.pair Z0 (Ty.pair Ty.str Ty.unit))))))) (cG,ba,aW,aO,aD,aw,aq,())),(1000045,i7.own (Ty.d8 true Ty.str) cp),(2000000,i7.var r8 ((au,an,()),ai,ak++List.set [[]] (Int.toNat (↑0:Int)) (E0 ba++Array.toList (ByteArray.data (ByteArray.mk #[58]))++E0 (v8+uZ)++Array.toList (ByteArray.data (ByteArray.mk #[58]))++List.getD cp (Int.toNat uZ) []),ah,()))]))))))))))) (.ret ((((au,an,()),ai,ak,ah,()),()))):=by kernel_rfl
def Lk (v8:Int) (v11:yY) (v46:Int) (uZ:Int) (zE:Int) (wW:Int) (cG:Int) (ba:Int) (aW:Int) (aO:Int) (aD:Int) (aw:List Int) (aq:yY) (cp:List yY) (au:Int) (an:Int) (ai:List p7) (ak:List yY) (ah:List yY):St:=St.mk [(0,AV.ptr 2000000 []),(3,AV.ptr 3 []),(8,AV.val f7 v8),(11,AV.val Ty.str v11),(45,AV.at_ 1000045 []),(46,AV.val f7 v46),(47,AV.val f7 uZ),(78,AV.val f7 zE),(79,AV.val f7 wW)] [(3,i7.var (Ty.pair f7 (Ty.pair f7 (Ty.pair f7 (Ty.pair f7 (Ty.pair f7 (Ty.pair Z0 (Ty.pair Ty.str Ty.unit))))))) (cG,ba,aW,aO,aD,aw,aq,())),(1000045,i7.own (Ty.d8 true Ty.str) cp),(2000000,i7.var r8 ((au,an,()),ai,ak,ah,()))]
theorem b8N (v8:Int) (v11:yY) (v46:Int) (uZ:Int) (zE:Int) (wW:Int) (cG:Int) (ba:Int) (aW:Int) (aO:Int) (aD:Int) (aw:List Int) (aq:yY) (cp:List yY) (au:Int) (an:Int) (ai:List p7) (ak:List yY) (ah:List yY):exec zl 1000 (.code (g8 (d9 Tryz.prog 66) 12).1::.inLoop (g8 (d9 Tryz.prog 66) 12).1::(g8 (d9 Tryz.prog 66) 12).2) (Lk v8 v11 v46 uZ zE wW cG ba aW aO aD aw aq cp au an ai ak ah) =
  cond (decide (wW<zE)) (.f9 (List.length ai<=6) (cond (l4 ((au,an,()),ai,ak,ah,()) wW) (.f9 (True) (.f9 (u7 IntKind.i64 ((↑(List.length ak):Int) - (1:Int))) (.f9 (True) (.f9 (u7 IntKind.i64 (wW+(1:Int))) (.ctL (g8 (d9 Tryz.prog 66) 12) (St.mk [(0,AV.ptr 2000000 []),(3,AV.ptr 3 []),(8,AV.val f7 v8),(11,AV.val Ty.str v11),(45,AV.at_ 1000045 []),(46,AV.val f7 v46),(47,AV.val f7 uZ),(78,AV.val f7 zE),(79,AV.val f7 (wW+(1:Int)))] [(3,i7.var (Ty.pair f7 (Ty.pair f7 (Ty.pair f7 (Ty.pair f7 (Ty.pair f7 (Ty.pair Z0 (Ty.pair Ty.str Ty.unit))))))) (cG,ba,aW,aO,aD,aw,aq,())),(1000045,i7.own (Ty.d8 true Ty.str) cp),(2000000,i7.var r8 (M0 ((au,an,()),ai,ak,ah,()) (2:Int) (s7 ((au,an,()),ai,ak,ah,())) wW ((↑(List.length ak):Int) - (1:Int)) v11))])))))) (.f9 (u7 IntKind.i64 (wW+(1:Int))) (.ctL (g8 (d9 Tryz.prog 66) 12) (St.mk [(0,AV.ptr 2000000 []),(3,AV.ptr 3 []),(8,AV.val f7 v8),(11,AV.val Ty.str v11),(45,AV.at_ 1000045 []),(46,AV.val f7 v46),(47,AV.val f7 uZ),(78,AV.val f7 zE),(79,AV.val f7 (wW+(1:Int)))] [(3,i7.var (Ty.pair f7 (Ty.pair f7 (Ty.pair f7 (Ty.pair f7 (Ty.pair f7 (Ty.pair Z0 (Ty.pair Ty.str Ty.unit))))))) (cG,ba,aW,aO,aD,aw,aq,())),(1000045,i7.own (Ty.d8 true Ty.str) cp),(2000000,i7.var r8 ((au,an,()),ai,ak,ah,()))]))))) (.f9 (u7 IntKind.i64 (uZ+(1:Int))) (.ctL (g8 (d9 Tryz.prog 66) 7) (St.mk [(0,AV.ptr 2000000 []),(3,AV.ptr 3 []),(8,AV.val f7 v8),(45,AV.at_ 1000045 []),(46,AV.val f7 v46),(47,AV.val f7 (uZ+(1:Int)))] [(3,i7.var (Ty.pair f7 (Ty.pair f7 (Ty.pair f7 (Ty.pair f7 (Ty.pair f7 (Ty.pair Z0 (Ty.pair Ty.str Ty.unit))))))) (cG,ba,aW,aO,aD,aw,aq,())),(1000045,i7.own (Ty.d8 true Ty.str) cp),(2000000,i7.var r8 ((au,an,()),ai,ak,ah,()))]))):=by kernel_rfl
attribute [local irreducible] N7 M0 E2 E0 I4 F4 in
theorem b6p:HD.Valid Tryz.prog 66:=by
  refine r9.r7 a31 rfl rfl Tryz.func66 (c:=d9 Tryz.prog 66) rfl rfl Ft rfl ?_;rintro ⟨⟨⟨(v0:Int),(v1:Int),⟨⟩⟩,(al:List p7),(od:List yY),(wy:List yY),⟨⟩⟩,⟨(nk:Int),(nf:Int),(nt:Int),(nv:Int),(ns:Int),(na:List Int),(nx:yY),⟨⟩⟩,⟨⟩⟩ ⟨(hp:al.length<=6),(hk:¬ known ((v0,v1,()),al,od,wy,()) nf≠0),(ho:od.length<=1000000000000)⟩ ⟨-,⟨⟨-,(oz:u7 .i64 nf),-⟩,-⟩⟩;refine j8 (n:=1000) a31 Ft ?_;refine i8 (XK v0 v1 al od wy nk nf nt nv ns na nx) ?_;simp only [j7,Tree.holds,sL];have key:∀ r:f8,N7 ((v0,v1,()),al,od,wy,()) (nk,nf,nt,nv,ns,na,nx,())=r->(((r,()):f8×Unit)=(N7 ((v0,v1,()),al,od,wy,()) (nk,nf,nt,nv,ns,na,nx,()),())):=by rintro r rfl; rfl
  have e1:=λ a=>(N7.eq_1 ((v0,v1,()),al,od,wy,()) (nk,nf,nt,nv,ns,na,nx,())).trans (if_pos a);have e2:=λ a=>(N7.eq_1 ((v0,v1,()),al,od,wy,()) (nk,nf,nt,nv,ns,na,nx,())).trans (if_neg a);refine ⟨BX hk,λ _=>⟨λ a=>key _ (e1 a),λ a=>?_⟩⟩;have e3:=e2 a;have bH:=zv (Decidable.not_not.1 a);obtain ⟨w,hw⟩:∃ w:f8,w=Q5 ((v0,v1,()),al,od,wy,()) nf (V3 (C5 ((v0,v1,()),al,od,wy,()) nf) (U4 ((v0,v1,()),al,od,wy,()) (nk,nf,nt,nv,ns,na,nx,())).1):=⟨_,rfl⟩;obtain ⟨first,hf⟩:∃ first,first=(C5 ((v0,v1,()),al,od,wy,()) nf).2.2.2.2.1.1:=⟨_,rfl⟩
  obtain ⟨l,hl⟩:∃ l,l=(U4 ((v0,v1,()),al,od,wy,()) (nk,nf,nt,nv,ns,na,nx,())).2.1:=⟨_,rfl⟩;have rW:w.2.1.length=al.length:=by rw [hw]; exact List.length_set ..
  have qZ:w.2.2.1=od:=by rw [hw]; rfl
  have h0:0<=first/\first<=16777215:=by rw [hf]; exact bH.2.2.2.1
  have mc:l.length<=16:=by rw [hl]; exact bH.2.2.1
  have bj:∀ t∈l,F1 t=false:=by rw [hl]; exact λ t ht=>(bH.1 t ht).2
  suffices go:Go.Ex.Reach zl Tryz.f66 () (I4 nf first l w l.length,()) (.code (g8 (d9 Tryz.prog 66) 7).1::.inLoop (g8 (d9 Tryz.prog 66) 7).1::(g8 (d9 Tryz.prog 66) 7).2) (JZ first (l.length:Int) ((0:Nat):Int) nk nf nt nv ns na nx l (I4 nf first l w 0).1.1 (I4 nf first l w 0).1.2.1 (I4 nf first l w 0).2.1 (I4 nf first l w 0).2.2.1 (I4 nf first l w 0).2.2.2.1) by
    subst hw; subst hf; subst hl;rw [e3];rw [I4] at go;exact go
  refine Reach.O8 a31 Ft (λ i:Nat=>JZ first (l.length:Int) (i:Int) nk nf nt nv ns na nx l (I4 nf first l w i).1.1 (I4 nf first l w i).1.2.1 (I4 nf first l w i).2.1 (I4 nf first l w i).2.2.1 (I4 nf first l w i).2.2.2.1) (λ i=>i<=l.length)
    (λ i=>l.length - i) 1000 (λ _=>⟨y6 rfl,y6 rfl⟩) ?_ 0 (Nat.zero_le _)
  rintro i k1 - ih;have k1:i<=l.length:=k1;refine i8 (Zm ..) ?_;have e4:((i:Nat):Int)+1=((i+1:Nat):Int):=by omega
  obtain ⟨t1,t2,t3⟩:=JU (f:=nf) (first:=first) (l:=l) (w:=w) i;rw [qZ] at t3;have mX:(E0 nf).length<=20:=CO (G9.1 oz).1 (G9.1 oz).2;have sI:(E0 (first+i)).length<=20:=CO (by omega) (by omega);have ec:i<l.length->(l.getD i []).length<=200:=λ h=>Kg (bj _ (by rw [List.getD_eq_getElem?_getD,List.getElem?_eq_getElem h]; exact List.getElem_mem _));have jF:maxLen=9223372036854775807:=by decide
  have kJ:Ty.wb .str=16:=rfl;simp only [j7,Tree.holds,e4,sL];refine ⟨λ c=>⟨by omega,λ _=>⟨?_,λ _=>⟨?_,λ _=>⟨?_,λ _=>⟨?_,λ _=>⟨?_,λ _=>⟨?_,λ _=>?_⟩⟩⟩⟩⟩⟩⟩,λ c=>?_⟩
  . simp only [List.length_cons,List.length_nil,jF]; omega
  . exact ⟨by omega,by omega⟩
  . simp only [List.length_append,List.length_cons,List.length_nil,jF]; omega
  . simp only [List.length_append,List.length_cons,List.length_nil,jF]; omega
  . have:=ec (by omega);simp only [List.length_append,List.length_cons,List.length_nil,jF]; omega
  . rw [kJ,t3]; omega
  . obtain ⟨x,hx⟩:∃ x,x=G3 nf (first+i) (l.getD i []):=⟨_,rfl⟩;obtain ⟨u,hu⟩:∃ u,u=xd (I4 nf first l w i) x:=⟨_,rfl⟩;have rf:u.2.1=(I4 nf first l w i).2.1:=by rw [hu]; rfl
    suffices go:Go.Ex.Reach zl Tryz.f66 () (I4 nf first l w l.length,()) (.code (g8 (d9 Tryz.prog 66) 12).1::.inLoop (g8 (d9 Tryz.prog 66) 12).1::(g8 (d9 Tryz.prog 66) 12).2) (Lk first x (l.length:Int) (i:Int) (u.2.1.length:Int) ((0:Nat):Int) nk nf nt nv ns na nx l (F4 x u 0).1.1 (F4 x u 0).1.2.1 (F4 x u 0).2.1 (F4 x u 0).2.2.1 (F4 x u 0).2.2.2.1) by
      subst hu; subst hx;rw [F4] at go;exact go
    refine Reach.O8 a31 Ft (λ p:Nat=>Lk first x (l.length:Int) (i:Int) (u.2.1.length:Int) (p:Int) nk nf nt nv ns na nx l (F4 x u p).1.1 (F4 x u p).1.2.1 (F4 x u p).2.1 (F4 x u p).2.2.1 (F4 x u p).2.2.2.1) (λ p=>p<=u.2.1.length)
      (λ p=>u.2.1.length - p) 1000 (λ _=>⟨y6 rfl,y6 rfl⟩) ?_ 0 (Nat.zero_le _)
    rintro p k2 - ih2;have k2:p<=u.2.1.length:=k2;refine i8 (b8N ..) ?_;have e5:((p:Nat):Int)+1=((p+1:Nat):Int):=by omega
    obtain ⟨c1,c2,c3⟩:=Cq (x:=x) (w:=u) p;have si:u.2.1.length<=6:=by rw [rf,t1,rW]; exact hp
    have sg:u.2.2.1.length=od.length+i+1:=by rw [hu]; show ((I4 nf first l w i).2.2.1++[x]).length=_; rw [List.length_append,t3]; rfl
    simp only [j7,Tree.holds,e5,sL];refine ⟨λ d=>⟨?_,λ _=>⟨λ e=>⟨?_,λ _=>⟨?_,λ _=>?_⟩⟩,λ e=>⟨?_,λ _=>?_⟩⟩⟩,λ d=>⟨?_,λ _=>?_⟩⟩
    . rw [c1]; exact si
    . rw [c3,sg]; exact ⟨by omega,by omega⟩
    . exact ⟨by omega,by omega⟩
    . have:=ih2 (p+1) (by show p+1<=u.2.1.length; omega) (by show u.2.1.length - (p+1)<u.2.1.length - p; omega);rw [YS e] at this;exact this
    . exact ⟨by omega,by omega⟩
    . have:=ih2 (p+1) (by show p+1<=u.2.1.length; omega) (by show u.2.1.length - (p+1)<u.2.1.length - p; omega);rw [YR e] at this;exact this
    . exact ⟨by omega,by omega⟩
    . obtain rfl:p=u.2.1.length:=by omega
      have:=ih (i+1) (by show i+1<=l.length; omega) (by show l.length - (i+1)<l.length - i; omega);rw [show I4 nf first l w (i+1)=F4 x u u.2.1.length by rw [I4,rf,hu,hx]] at this;exact this
  . obtain rfl:i=l.length:=by omega
    rfl
theorem Kd {q:Int} {x:p7} {t:yY} (h:who t=q) (h2:(R9 x.2.2.1 (nth t+1)).2.1=0):X2 q x t=(x.1,x.2.1++[(who t,xb t,())],(R9 x.2.2.1 (nth t+1)).1,x.2.2.2):=by
  rw [X2]; exact if_pos ⟨h,h2⟩
theorem EJ {q:Int} {x:p7} {t:yY} (h:¬ (who t=q/\(R9 x.2.2.1 (nth t+1)).2.1=0)):X2 q x t=(x.1,x.2.1++[(who t,xb t,())],x.2.2):=by
  rw [X2]; exact if_neg h
theorem Rm (q:Int) (x:p7) (t:yY):(X2 q x t).2.1=x.2.1++[(who t,xb t,())]:=by
  rw [X2]; split<;>rfl
theorem KY {q:Int} {x:p7} {l:List yY}:∀ i,(K9 q x l i).2.1.length=x.2.1.length+i
  | 0=>rfl
  | i+1=>by rw [K9,Rm,List.length_append,KY i]; rfl
def HE:r9:={ ps:=[.rw r8,.v zH],rs:=[],pre:=λ x=>(LE.le (α:=Int) 0 x.2.1.2.2.1/\LT.lt (α:=Int) x.2.1.2.2.1 (List.length (α:=p7) (x.1:f8).2.1))/\List.length (α:=E5) (C5 x.1 x.2.1.2.2.1).2.1<=1000000000000/\(∀ t∈(N0 x.1 x.2.1).2.1,okT t),fn:=λ _=>(),out:=λ x=>(T3 x.1 x.2.1,()) }
noncomputable def BA:Env:={ P:=Tryz.prog,tt:=tt,E4:=[(83,Hh),(86,MO),(84,LS),(85,GS)],res:=[],rs:=[],ps:=[PK.rw r8,PK.v (Ty.pair f7 (Ty.pair f7 (Ty.pair f7 (Ty.pair f7 (Ty.pair f7 (Ty.pair Z0 (Ty.pair Ty.str Ty.unit)))))))],D5:=[(6,[(3,none),(4,none),(49,some (Ty.d8 true Ty.str)),(50,none),(51,none)])],nt:=110 }
theorem JO:C0 BA:=C7 s9 ⟨SL,b6x,ZS,b8B,trivial⟩
theorem JR:D7 BA Tryz.f67:=⟨rfl,rfl⟩
theorem Xu (aj:Int) (af:Int) (ab:List p7) (ae:List yY) (aa:List yY) (bJ:Int) (aS:Int) (aP:Int) (bd:Int) (aI:Int) (aY:List Int) (az:yY):exec BA 1000 [.code (d9 Tryz.prog 67)] (y8 HE.ps ((((aj,af,()),ab,ae,aa,()),(bJ,aS,aP,bd,aI,aY,az,()),()))) =
  .f9 ((0:Int)<=aP/\aP<(↑(List.length ab):Int)) (.f9 (True) (cond (decide (Prod.fst (Prod.snd (Prod.snd (E2 (Prod.fst (Prod.snd (Prod.snd (Prod.snd (List.getD ab (Int.toNat aP) (false,[],((0:Int),[],()),((0:Int),[],()),((0:Int),[],()),())))))) (aI,az,()))))≠(0:Int))) (.ret ((((aj,af,()),ab,ae,aa,()),()))) (.ctL (g8 (d9 Tryz.prog 67) 6) (St.mk [(3,AV.ptr 3 []),(4,AV.ptr 2000000 [Step.l8 1,Step.idx aP]),(49,AV.at_ 1000049 []),(50,AV.val f7 (↑(List.length (Prod.fst (Prod.snd (E2 (Prod.fst (Prod.snd (Prod.snd (Prod.snd (List.getD ab (Int.toNat aP) (false,[],((0:Int),[],()),((0:Int),[],()),((0:Int),[],()),())))))) (aI,az,()))))):Int)),(51,AV.val f7 (0:Int))] [(3,i7.var (Ty.pair f7 (Ty.pair f7 (Ty.pair f7 (Ty.pair f7 (Ty.pair f7 (Ty.pair Z0 (Ty.pair Ty.str Ty.unit))))))) (bJ,aS,aP,bd,aI,aY,az,())),(1000049,i7.own (Ty.d8 true Ty.str) (Prod.fst (Prod.snd (E2 (Prod.fst (Prod.snd (Prod.snd (Prod.snd (List.getD ab (Int.toNat aP) (false,[],((0:Int),[],()),((0:Int),[],()),((0:Int),[],()),())))))) (aI,az,()))))),(2000000,i7.var r8 ((aj,af,()),List.set ab (Int.toNat aP) (Prod.fst (List.getD ab (Int.toNat aP) (false,[],((0:Int),[],()),((0:Int),[],()),((0:Int),[],()),())),Prod.fst (Prod.snd (List.getD ab (Int.toNat aP) (false,[],((0:Int),[],()),((0:Int),[],()),((0:Int),[],()),()))),Prod.fst (Prod.snd (Prod.snd (List.getD ab (Int.toNat aP) (false,[],((0:Int),[],()),((0:Int),[],()),((0:Int),[],()),())))),Prod.fst (E2 (Prod.fst (Prod.snd (Prod.snd (Prod.snd (List.getD ab (Int.toNat aP) (false,[],((0:Int),[],()),((0:Int),[],()),((0:Int),[],()),())))))) (aI,az,())),Prod.snd (Prod.snd (Prod.snd (Prod.snd (List.getD ab (Int.toNat aP) (false,[],((0:Int),[],()),((0:Int),[],()),((0:Int),[],()),())))))),ae,aa,()))])))):=by kernel_rfl
def JP (uX:Int) (yO:Int) (v51:Int) (cG:Int) (ba:Int) (aW:Int) (aO:Int) (aD:Int) (aw:List Int) (aq:yY) (bh:List yY) (au:Int) (an:Int) (ai:List p7) (ak:List yY) (ah:List yY):St:=St.mk [(3,AV.ptr 3 []),(4,AV.ptr 2000000 [Step.l8 1,Step.idx uX]),(49,AV.at_ 1000049 []),(50,AV.val f7 yO),(51,AV.val f7 v51)] [(3,i7.var (Ty.pair f7 (Ty.pair f7 (Ty.pair f7 (Ty.pair f7 (Ty.pair f7 (Ty.pair Z0 (Ty.pair Ty.str Ty.unit))))))) (cG,ba,aW,aO,aD,aw,aq,())),(1000049,i7.own (Ty.d8 true Ty.str) bh),(2000000,i7.var r8 ((au,an,()),ai,ak,ah,()))]
theorem XL (uX:Int) (yO:Int) (v51:Int) (cG:Int) (ba:Int) (aW:Int) (aO:Int) (aD:Int) (aw:List Int) (aq:yY) (bh:List yY) (au:Int) (an:Int) (ai:List p7) (ak:List yY) (ah:List yY):exec BA 1000 (.code (g8 (d9 Tryz.prog 67) 6).1::.inLoop (g8 (d9 Tryz.prog 67) 6).1::(g8 (d9 Tryz.prog 67) 6).2) (JP uX yO v51 cG ba aW aO aD aw aq bh au an ai ak ah) =
  cond (decide (v51<yO)) (.f9 ((0:Int)<=v51/\v51<(↑(List.length bh):Int)) (.f9 (List.length (List.getD bh (Int.toNat v51) [])<=1000000/\Array.toList (ByteArray.data (ByteArray.mk #[58]))=[(58:UInt8)]) (.f9 (List.length (Prod.fst (Prod.snd (C1 (List.getD bh (Int.toNat v51) []))))<=1000000/\Array.toList (ByteArray.data (ByteArray.mk #[58]))=[(58:UInt8)]) (.f9 (List.length (Prod.fst (C1 (List.getD bh (Int.toNat v51) [])))<=18/\Option.isSome (Go.Lib.atoi (Prod.fst (C1 (List.getD bh (Int.toNat v51) []))))=true) (.f9 (True/\True/\[Step.l8 1,Step.idx uX]++[Step.l8 1]=[Step.l8 1,Step.idx uX]++[Step.l8 1]/\List.length (Prod.fst (Prod.snd (List.getD ai (Int.toNat uX) (false,[],((0:Int),[],()),((0:Int),[],()),((0:Int),[],()),()))))+List.length (List.set [((0:Int),[],())] (Int.toNat (↑0:Int)) (Option.getD (Go.Lib.atoi (Prod.fst (C1 (List.getD bh (Int.toNat v51) [])))) (0:Int),Prod.fst (Prod.snd (C1 (Prod.fst (Prod.snd (C1 (List.getD bh (Int.toNat v51) [])))))),()))<=140737488355328/\(List.length (Prod.fst (Prod.snd (List.getD ai (Int.toNat uX) (false,[],((0:Int),[],()),((0:Int),[],()),((0:Int),[],()),()))))+List.length (List.set [((0:Int),[],())] (Int.toNat (↑0:Int)) (Option.getD (Go.Lib.atoi (Prod.fst (C1 (List.getD bh (Int.toNat v51) [])))) (0:Int),Prod.fst (Prod.snd (C1 (Prod.fst (Prod.snd (C1 (List.getD bh (Int.toNat v51) [])))))),())))*Ty.wb w4<=140737488355328) (cond (decide (Option.getD (Go.Lib.atoi (Prod.fst (C1 (List.getD bh (Int.toNat v51) [])))) (0:Int)=aW)) (.f9 (List.length (Prod.fst (C1 (Prod.fst (Prod.snd (C1 (List.getD bh (Int.toNat v51) []))))))<=18/\Option.isSome (Go.Lib.atoi (Prod.fst (C1 (Prod.fst (Prod.snd (C1 (List.getD bh (Int.toNat v51) [])))))))=true) (.f9 (u7 IntKind.i64 (Option.getD (Go.Lib.atoi (Prod.fst (C1 (Prod.fst (Prod.snd (C1 (List.getD bh (Int.toNat v51) []))))))) (0:Int)+(1:Int))) (.f9 ((0:Int)<=Option.getD (Go.Lib.atoi (Prod.fst (C1 (Prod.fst (Prod.snd (C1 (List.getD bh (Int.toNat v51) []))))))) (0:Int)+(1:Int)) (cond (decide (Prod.fst (Prod.snd (R9 (Prod.fst (Prod.snd (Prod.snd (List.getD (List.set ai (Int.toNat uX) (Prod.fst (List.getD ai (Int.toNat uX) (false,[],((0:Int),[],()),((0:Int),[],()),((0:Int),[],()),())),Prod.fst (Prod.snd (List.getD ai (Int.toNat uX) (false,[],((0:Int),[],()),((0:Int),[],()),((0:Int),[],()),())))++List.set [((0:Int),[],())] (Int.toNat (↑0:Int)) (Option.getD (Go.Lib.atoi (Prod.fst (C1 (List.getD bh (Int.toNat v51) [])))) (0:Int),Prod.fst (Prod.snd (C1 (Prod.fst (Prod.snd (C1 (List.getD bh (Int.toNat v51) [])))))),()),Prod.snd (Prod.snd (List.getD ai (Int.toNat uX) (false,[],((0:Int),[],()),((0:Int),[],()),((0:Int),[],()),()))))) (Int.toNat uX) (false,[],((0:Int),[],()),((0:Int),[],()),((0:Int),[],()),()))))) (Option.getD (Go.Lib.atoi (Prod.fst (C1 (Prod.fst (Prod.snd (C1 (List.getD bh (Int.toNat v51) []))))))) (0:Int)+(1:Int))))=(0:Int))) (.f9 (u7 IntKind.i64 (v51+(1:Int))) (.ctL (g8 (d9 Tryz.prog 67) 6) (St.mk [(3,AV.ptr 3 []),(4,AV.ptr 2000000 [Step.l8 1,Step.idx uX]),(49,AV.at_ 1000049 []),(50,AV.val f7 yO),(51,AV.val f7 (v51+(1:Int)))] [(3,i7.var (Ty.pair f7 (Ty.pair f7 (Ty.pair f7 (Ty.pair f7 (Ty.pair f7 (Ty.pair Z0 (Ty.pair Ty.str Ty.unit))))))) (cG,ba,aW,aO,aD,aw,aq,())),(1000049,i7.own (Ty.d8 true Ty.str) bh),(2000000,i7.var r8 ((au,an,()),List.set (List.set ai (Int.toNat uX) (Prod.fst (List.getD ai (Int.toNat uX) (false,[],((0:Int),[],()),((0:Int),[],()),((0:Int),[],()),())),Prod.fst (Prod.snd (List.getD ai (Int.toNat uX) (false,[],((0:Int),[],()),((0:Int),[],()),((0:Int),[],()),())))++List.set [((0:Int),[],())] (Int.toNat (↑0:Int)) (Option.getD (Go.Lib.atoi (Prod.fst (C1 (List.getD bh (Int.toNat v51) [])))) (0:Int),Prod.fst (Prod.snd (C1 (Prod.fst (Prod.snd (C1 (List.getD bh (Int.toNat v51) [])))))),()),Prod.snd (Prod.snd (List.getD ai (Int.toNat uX) (false,[],((0:Int),[],()),((0:Int),[],()),((0:Int),[],()),()))))) (Int.toNat uX) (Prod.fst (List.getD (List.set ai (Int.toNat uX) (Prod.fst (List.getD ai (Int.toNat uX) (false,[],((0:Int),[],()),((0:Int),[],()),((0:Int),[],()),())),Prod.fst (Prod.snd (List.getD ai (Int.toNat uX) (false,[],((0:Int),[],()),((0:Int),[],()),((0:Int),[],()),())))++List.set [((0:Int),[],())] (Int.toNat (↑0:Int)) (Option.getD (Go.Lib.atoi (Prod.fst (C1 (List.getD bh (Int.toNat v51) [])))) (0:Int),Prod.fst (Prod.snd (C1 (Prod.fst (Prod.snd (C1 (List.getD bh (Int.toNat v51) [])))))),()),Prod.snd (Prod.snd (List.getD ai (Int.toNat uX) (false,[],((0:Int),[],()),((0:Int),[],()),((0:Int),[],()),()))))) (Int.toNat uX) (false,[],((0:Int),[],()),((0:Int),[],()),((0:Int),[],()),())),Prod.fst (Prod.snd (List.getD (List.set ai (Int.toNat uX) (Prod.fst (List.getD ai (Int.toNat uX) (false,[],((0:Int),[],()),((0:Int),[],()),((0:Int),[],()),())),Prod.fst (Prod.snd (List.getD ai (Int.toNat uX) (false,[],((0:Int),[],()),((0:Int),[],()),((0:Int),[],()),())))++List.set [((0:Int),[],())] (Int.toNat (↑0:Int)) (Option.getD (Go.Lib.atoi (Prod.fst (C1 (List.getD bh (Int.toNat v51) [])))) (0:Int),Prod.fst (Prod.snd (C1 (Prod.fst (Prod.snd (C1 (List.getD bh (Int.toNat v51) [])))))),()),Prod.snd (Prod.snd (List.getD ai (Int.toNat uX) (false,[],((0:Int),[],()),((0:Int),[],()),((0:Int),[],()),()))))) (Int.toNat uX) (false,[],((0:Int),[],()),((0:Int),[],()),((0:Int),[],()),()))),Prod.fst (R9 (Prod.fst (Prod.snd (Prod.snd (List.getD (List.set ai (Int.toNat uX) (Prod.fst (List.getD ai (Int.toNat uX) (false,[],((0:Int),[],()),((0:Int),[],()),((0:Int),[],()),())),Prod.fst (Prod.snd (List.getD ai (Int.toNat uX) (false,[],((0:Int),[],()),((0:Int),[],()),((0:Int),[],()),())))++List.set [((0:Int),[],())] (Int.toNat (↑0:Int)) (Option.getD (Go.Lib.atoi (Prod.fst (C1 (List.getD bh (Int.toNat v51) [])))) (0:Int),Prod.fst (Prod.snd (C1 (Prod.fst (Prod.snd (C1 (List.getD bh (Int.toNat v51) [])))))),()),Prod.snd (Prod.snd (List.getD ai (Int.toNat uX) (false,[],((0:Int),[],()),((0:Int),[],()),((0:Int),[],()),()))))) (Int.toNat uX) (false,[],((0:Int),[],()),((0:Int),[],()),((0:Int),[],()),()))))) (Option.getD (Go.Lib.atoi (Prod.fst (C1 (Prod.fst (Prod.snd (C1 (List.getD bh (Int.toNat v51) []))))))) (0:Int)+(1:Int))),Prod.snd (Prod.snd (Prod.snd (List.getD (List.set ai (Int.toNat uX) (Prod.fst (List.getD ai (Int.toNat uX) (false,[],((0:Int),[],()),((0:Int),[],()),((0:Int),[],()),())),Prod.fst (Prod.snd (List.getD ai (Int.toNat uX) (false,[],((0:Int),[],()),((0:Int),[],()),((0:Int),[],()),())))++List.set [((0:Int),[],())] (Int.toNat (↑0:Int)) (Option.getD (Go.Lib.atoi (Prod.fst (C1 (List.getD bh (Int.toNat v51) [])))) (0:Int),Prod.fst (Prod.snd (C1 (Prod.fst (Prod.snd (C1 (List.getD bh (Int.toNat v51) [])))))),()),Prod.snd (Prod.snd (List.getD ai (Int.toNat uX) (false,[],((0:Int),[],()),((0:Int),[],()),((0:Int),[],()),()))))) (Int.toNat uX) (false,[],((0:Int),[],()),((0:Int),[],()),((0:Int),[],()),()))))),ak,ah,()))]))) (.f9 (u7 IntKind.i64 (v51+(1:Int))) (.ctL (g8 (d9 Tryz.prog 67) 6) (St.mk [(3,AV.ptr 3 []),(4,AV.ptr 2000000 [Step.l8 1,Step.idx uX]),(49,AV.at_ 1000049 []),(50,AV.val f7 yO),(51,AV.val f7 (v51+(1:Int)))] [(3,i7.var (Ty.pair f7 (Ty.pair f7 (Ty.pair f7 (Ty.pair f7 (Ty.pair f7 (Ty.pair Z0 (Ty.pair Ty.str Ty.unit))))))) (cG,ba,aW,aO,aD,aw,aq,())),(1000049,i7.own (Ty.d8 true Ty.str) bh),(2000000,i7.var r8 ((au,an,()),List.set ai (Int.toNat uX) (Prod.fst (List.getD ai (Int.toNat uX) (false,[],((0:Int),[],()),((0:Int),[],()),((0:Int),[],()),())),Prod.fst (Prod.snd (List.getD ai (Int.toNat uX) (false,[],((0:Int),[],()),((0:Int),[],()),((0:Int),[],()),())))++List.set [((0:Int),[],())] (Int.toNat (↑0:Int)) (Option.getD (Go.Lib.atoi (Prod.fst (C1 (List.getD bh (Int.toNat v51) [])))) (0:Int),Prod.fst (Prod.snd (C1 (Prod.fst (Prod.snd (C1 (List.getD bh (Int.toNat v51) [])))))),()),Prod.snd (Prod.snd (List.getD ai (Int.toNat uX) (false,[],((0:Int),[],()),((0:Int),[],()),((0:Int),[],()),())))),ak,ah,()))]))))))) (.f9 (u7 IntKind.i64 (v51+(1:Int))) (.ctL (g8 (d9 Tryz.prog 67) 6) (St.mk [(3,AV.ptr 3 []),(4,AV.ptr 2000000 [Step.l8 1,Step.idx uX]),(49,AV.at_ 1000049 []),(50,AV.val f7 yO),(51,AV.val f7 (v51+(1:Int)))] [(3,i7.var (Ty.pair f7 (Ty.pair f7 (Ty.pair f7 (Ty.pair f7 (Ty.pair f7 (Ty.pair Z0 (Ty.pair Ty.str Ty.unit))))))) (cG,ba,aW,aO,aD,aw,aq,())),(1000049,i7.own (Ty.d8 true Ty.str) bh),(2000000,i7.var r8 ((au,an,()),List.set ai (Int.toNat uX) (Prod.fst (List.getD ai (Int.toNat uX) (false,[],((0:Int),[],()),((0:Int),[],()),((0:Int),[],()),())),Prod.fst (Prod.snd (List.getD ai (Int.toNat uX) (false,[],((0:Int),[],()),((0:Int),[],()),((0:Int),[],()),())))++List.set [((0:Int),[],())] (Int.toNat (↑0:Int)) (Option.getD (Go.Lib.atoi (Prod.fst (C1 (List.getD bh (Int.toNat v51) [])))) (0:Int),Prod.fst (Prod.snd (C1 (Prod.fst (Prod.snd (C1 (List.getD bh (Int.toNat v51) [])))))),()),Prod.snd (Prod.snd (List.getD ai (Int.toNat uX) (false,[],((0:Int),[],()),((0:Int),[],()),((0:Int),[],()),())))),ak,ah,()))]))))))))) (.ret ((((au,an,()),ai,ak,ah,()),()))):=by kernel_rfl
attribute [local irreducible] T3 E2 R9 C1 Lib.atoi in
theorem b6n:HE.Valid Tryz.prog 67:=by
  refine r9.r7 JO rfl rfl Tryz.func67 (c:=d9 Tryz.prog 67) rfl rfl JR rfl ?_;rintro ⟨⟨⟨(v0:Int),(v1:Int),⟨⟩⟩,(al:List p7),(od:List yY),(wy:List yY),⟨⟩⟩,⟨(nk:Int),(nf:Int),(nt:Int),(nv:Int),(ns:Int),(na:List Int),(nx:yY),⟨⟩⟩,⟨⟩⟩ ⟨(hp:0<=nt/\nt<(al.length:Int)),(hl:(C5 ((v0,v1,()),al,od,wy,()) nt).2.1.length<=1000000000000),(aK:∀ t∈(N0 ((v0,v1,()),al,od,wy,()) (nk,nf,nt,nv,ns,na,nx,())).2.1,okT t)⟩ -
  refine j8 (n:=1000) JO JR ?_;refine i8 (Xu v0 v1 al od wy nk nf nt nv ns na nx) ?_;simp only [j7,Tree.holds,sL];have e1:=λ a=>(T3.eq_1 ((v0,v1,()),al,od,wy,()) (nk,nf,nt,nv,ns,na,nx,())).trans (if_pos a);have e2:=λ a=>(T3.eq_1 ((v0,v1,()),al,od,wy,()) (nk,nf,nt,nv,ns,na,nx,())).trans (if_neg a);have key:∀ r:f8,T3 ((v0,v1,()),al,od,wy,()) (nk,nf,nt,nv,ns,na,nx,())=r->(((r,()):f8×Unit)=(T3 ((v0,v1,()),al,od,wy,()) (nk,nf,nt,nv,ns,na,nx,()),())):=by rintro r rfl; rfl
  refine ⟨hp,λ _=>⟨λ a=>key _ (e1 a),λ a=>?_⟩⟩;have e3:=e2 a;have bH:=zv (Decidable.not_not.1 a);obtain ⟨x,hx⟩:∃ x:p7,x=wJ (C5 ((v0,v1,()),al,od,wy,()) nt) (N0 ((v0,v1,()),al,od,wy,()) (nk,nf,nt,nv,ns,na,nx,())).1:=⟨_,rfl⟩;obtain ⟨l,mc⟩:∃ l,l=(N0 ((v0,v1,()),al,od,wy,()) (nk,nf,nt,nv,ns,na,nx,())).2.1:=⟨_,rfl⟩;have kG:x.2.1.length<=1000000000000:=by rw [hx]; exact hl
  have sV:l.length<=16:=by rw [mc]; exact bH.2.2.1
  have bj:∀ t∈l,F1 t=false:=by rw [mc]; exact λ t ht=>(bH.1 t ht).2
  have jf:∀ t∈l,okT t:=by rw [mc]; exact aK
  suffices go:Go.Ex.Reach BA Tryz.f67 () (Q5 ((v0,v1,()),al,od,wy,()) nt (K9 nt x l l.length),()) (.code (g8 (d9 Tryz.prog 67) 6).1::.inLoop (g8 (d9 Tryz.prog 67) 6).1::(g8 (d9 Tryz.prog 67) 6).2) (JP nt (l.length:Int) ((0:Nat):Int) nk nf nt nv ns na nx l v0 v1 (al.set nt.toNat (K9 nt x l 0)) od wy) by
    subst hx; subst mc;rw [e3];rw [K9] at go;exact go
  refine Reach.O8 JO JR (λ i:Nat=>JP nt (l.length:Int) (i:Int) nk nf nt nv ns na nx l v0 v1 (al.set nt.toNat (K9 nt x l i)) od wy) (λ i=>i<=l.length)
    (λ i=>l.length - i) 1000 (λ _=>⟨y6 rfl,y6 rfl⟩) ?_ 0 (Nat.zero_le _)
  rintro i k1 - ih;have k1:i<=l.length:=k1;refine i8 (XL ..) ?_;have e4:((i:Nat):Int)+1=((i+1:Nat):Int):=by omega
  have hg:∀ y:p7,(al.set nt.toNat y).getD nt.toNat (false,[],(0,[],()),(0,[],()),(0,[],()),())=y:=λ y=>by
    rw [List.getD_eq_getElem?_getD,List.getElem?_set_self (by omega)]; rfl
  have pd:∀ y z:p7,(al.set nt.toNat y).set nt.toNat z=al.set nt.toNat z:=λ y z=>List.set_set ..;have kJ:Ty.wb w4=24:=rfl;have hlen:=KY (q:=nt) (x:=x) (l:=l) i;obtain ⟨y,hy⟩:∃ y,y=K9 nt x l i:=⟨_,rfl⟩;obtain ⟨t,ht⟩:∃ t,t=l.getD i []:=⟨_,rfl⟩;have hs:K9 nt x l (i+1)=X2 nt y t:=by rw [K9,<- hy,<- ht]
  have hT:i<l.length->F1 t=false/\okT t:=λ h=>by
    have:t∈l:=by rw [ht,List.getD_eq_getElem?_getD,List.getElem?_eq_getElem h]; exact List.getElem_mem _
    exact ⟨bj t this,jf t this⟩
  have ih1:i<l.length->_:=λ h=>ih (i+1) (by show i+1<=l.length; omega) (by show l.length - (i+1)<l.length - i; omega);rw [hs] at ih1;rw [<- hy] at hlen ⊢;simp only [j7,Tree.holds,e4,hg,pd,sL];rw [<- ht];have dP:=Cl t;have iA:=Cl (C1 t).2.1;refine ⟨λ c=>?_,λ c=>?_⟩
  . have c':i<l.length:=by omega
    obtain ⟨g1,g2⟩:=hT c';have g3:=Kg g1;have g4:=Ww g2;refine ⟨⟨by omega,by omega⟩,λ _=>⟨⟨by omega,trivial⟩,λ _=>⟨⟨by omega,trivial⟩,λ _=>⟨g4.1,λ _=>⟨?_,λ _=>⟨λ d=>⟨g4.2.1,λ _=>⟨?_,λ _=>⟨?_,λ _=>⟨λ e=>⟨?_,λ _=>?_⟩,λ e=>⟨?_,λ _=>?_⟩⟩⟩⟩⟩,λ d=>⟨?_,λ _=>?_⟩⟩⟩⟩⟩⟩⟩
    . rw [kJ]; omega
    . have:0<=nth t/\nth t<=16777300:=g4.2.2;show u7 .i64 (nth t+1);exact G9.2 ⟨by omega,by omega⟩
    . have:0<=nth t/\nth t<=16777300:=g4.2.2;show 0<=nth t+1;omega
    . exact ⟨by omega,by omega⟩
    . have:=ih1 c';rw [Kd d e] at this;exact this
    . exact ⟨by omega,by omega⟩
    . have:=ih1 c';rw [EJ (λ h=>e h.2)] at this;exact this
    . exact ⟨by omega,by omega⟩
    . have:=ih1 c';rw [EJ (λ h=>d h.1)] at this;exact this
  . obtain rfl:i=l.length:=by omega
    rw [hy]; rfl
theorem AG {w:f8} {n:n9}:∀ j,(F2 w n j).2.1=w.2.1/\(F2 w n j).1=w.1/\(F2 w n j).2.2.1=w.2.2.1
  | 0=>⟨rfl,rfl,rfl⟩
  | j+1=>by
    obtain ⟨h1,h2,h3⟩:=AG (w:=w) (n:=n) j;rw [F2]
    split
    . obtain ⟨g1,g2,g3⟩:=EX (w:=F2 w n j) (k:=2) (f:=s7 (F2 w n j)) (t:=n.2.1) (s:=n.2.2.2.2.1+j) (x:=(F2 w n j).2.2.1.getD (n.2.2.2.2.1+j).toNat []);exact ⟨g1.trans h1,g2.trans h2,g3.trans h3⟩
    . exact ⟨h1,h2,h3⟩
theorem YL {w:f8} {n:n9} {j:Nat} (h:n.2.2.2.2.1+j<(F2 w n j).2.2.1.length):F2 w n (j+1)=M0 (F2 w n j) 2 (s7 (F2 w n j)) n.2.1 (n.2.2.2.2.1+j) ((F2 w n j).2.2.1.getD (n.2.2.2.2.1+j).toNat []):=by
  rw [F2]; exact if_pos h
theorem Sl {w:f8} {n:n9} {j:Nat} (h:¬ n.2.2.2.2.1+j<w.2.2.1.length):∀ m,F2 w n (j+m)=F2 w n j
  | 0=>rfl
  | m+1=>by
    rw [<- Nat.add_assoc,F2,if_neg,Sl h m];rw [(AG (j+m)).2.2];omega
structure xm (w:f8) (n:n9):Prop where
  J4:w.2.1.length<=6
  to:0<=n.2.2.1/\n.2.2.1<(w.2.1.length:Int)
  seq:0<=n.2.2.2.2.1/\n.2.2.2.2.1<=16777215
  log:(C5 w n.2.2.1).2.1.length<=1000000000000
  ord:w.2.2.1.length<=1000000000000
  txt:n.1=2->∀ t∈(N0 w n).2.1,okT t
def Jb:r9:={ ps:=[.rw r8,.v zH],rs:=[],pre:=λ x=>xm x.1 x.2.1,fn:=λ _=>(),out:=λ x=>(B9 x.1 x.2.1,()) }
noncomputable def Cm:Env:={ P:=Tryz.prog,tt:=tt,E4:=[(49,zj),(66,HD),(67,HE),(43,Ad),(44,zO)],res:=[],rs:=[],ps:=[PK.rw r8,PK.v (Ty.pair f7 (Ty.pair f7 (Ty.pair f7 (Ty.pair f7 (Ty.pair f7 (Ty.pair Z0 (Ty.pair Ty.str Ty.unit)))))))],D5:=[(7,[(0,none),(3,none),(4,none)])],nt:=56 }
theorem LD:C0 Cm:=C7 s9 ⟨CN,b6p,b6n,Fy,Fl,trivial⟩
theorem LI:D7 Cm Tryz.f48:=⟨rfl,rfl⟩
theorem b8P (aj:Int) (af:Int) (ab:List p7) (ae:List yY) (aa:List yY) (bJ:Int) (aS:Int) (aP:Int) (bd:Int) (aI:Int) (aY:List Int) (az:yY):exec Cm 1000 [.code (d9 Tryz.prog 48)] (y8 Jb.ps ((((aj,af,()),ab,ae,aa,()),(bJ,aS,aP,bd,aI,aY,az,()),()))) =
  .f9 (List.length ab<=6) (cond (decide (known ((aj,af,()),ab,ae,aa,()) aS≠(0:Int))) (.ret ((((aj,af,()),ab,ae,aa,()),()))) (cond (decide (bJ=(1:Int))) (.f9 (List.length ab<=6/\¬known ((aj,af,()),ab,ae,aa,()) aS≠(0:Int)/\List.length ae<=1000000000000) (.ret ((N7 ((aj,af,()),ab,ae,aa,()) (bJ,aS,aP,bd,aI,aY,az,()),())))) (cond (decide (bJ=(3:Int))) (.ctL (g8 (d9 Tryz.prog 48) 7) (St.mk [(0,AV.ptr 2000000 []),(3,AV.ptr 3 []),(4,AV.val f7 aI)] [(3,i7.var (Ty.pair f7 (Ty.pair f7 (Ty.pair f7 (Ty.pair f7 (Ty.pair f7 (Ty.pair Z0 (Ty.pair Ty.str Ty.unit))))))) (bJ,aS,aP,bd,aI,aY,az,())),(2000000,i7.var r8 ((aj,af,()),ab,ae,aa,()))])) (cond (decide (bJ=(2:Int))) (.f9 (((0:Int)<=aP/\aP<(↑(List.length ab):Int))/\List.length (Prod.fst (Prod.snd (C5 ((aj,af,()),ab,ae,aa,()) aP)))<=1000000000000/\∀ (t:yY),t∈Prod.fst (Prod.snd (N0 ((aj,af,()),ab,ae,aa,()) (bJ,aS,aP,bd,aI,aY,az,())))->okT t) (.ret ((T3 ((aj,af,()),ab,ae,aa,()) (bJ,aS,aP,bd,aI,aY,az,()),())))) (.ret ((((aj,af,()),ab,ae,aa,()),()))))))):=by kernel_rfl
def LF (v4:Int) (cG:Int) (ba:Int) (aW:Int) (aO:Int) (aD:Int) (aw:List Int) (aq:yY) (au:Int) (an:Int) (ai:List p7) (ak:List yY) (ah:List yY):St:=St.mk [(0,AV.ptr 2000000 []),(3,AV.ptr 3 []),(4,AV.val f7 v4)] [(3,i7.var (Ty.pair f7 (Ty.pair f7 (Ty.pair f7 (Ty.pair f7 (Ty.pair f7 (Ty.pair Z0 (Ty.pair Ty.str Ty.unit))))))) (cG,ba,aW,aO,aD,aw,aq,())),(2000000,i7.var r8 ((au,an,()),ai,ak,ah,()))]
theorem b7H (v4:Int) (cG:Int) (ba:Int) (aW:Int) (aO:Int) (aD:Int) (aw:List Int) (aq:yY) (au:Int) (an:Int) (ai:List p7) (ak:List yY) (ah:List yY):exec Cm 1000 (.code (g8 (d9 Tryz.prog 48) 7).1::.inLoop (g8 (d9 Tryz.prog 48) 7).1::(g8 (d9 Tryz.prog 48) 7).2) (LF v4 cG ba aW aO aD aw aq au an ai ak ah) =
  cond (decide (v4<(↑(List.length ak):Int))) (.f9 (u7 IntKind.i64 (aD+(4:Int))) (cond (decide (v4<aD+(4:Int))) (.f9 (True) (.f9 ((0:Int)<=v4/\v4<(↑(List.length ak):Int)) (.f9 (True) (.f9 (u7 IntKind.i64 (v4+(1:Int))) (.ctL (g8 (d9 Tryz.prog 48) 7) (St.mk [(0,AV.ptr 2000000 []),(3,AV.ptr 3 []),(4,AV.val f7 (v4+(1:Int)))] [(3,i7.var (Ty.pair f7 (Ty.pair f7 (Ty.pair f7 (Ty.pair f7 (Ty.pair f7 (Ty.pair Z0 (Ty.pair Ty.str Ty.unit))))))) (cG,ba,aW,aO,aD,aw,aq,())),(2000000,i7.var r8 (M0 ((au,an,()),ai,ak,ah,()) (2:Int) (s7 ((au,an,()),ai,ak,ah,())) ba v4 (List.getD ak (Int.toNat v4) [])))])))))) (.ret ((((au,an,()),ai,ak,ah,()),()))))) (.ret ((((au,an,()),ai,ak,ah,()),()))):=by kernel_rfl
theorem SN {w:f8} {n:n9} (h:known w n.2.1≠0):B9 w n=w:=by rw [B9]; exact if_pos h
theorem TT {w:f8} {n:n9} (h:¬ known w n.2.1≠0) (h1:n.1=1):B9 w n=N7 w n:=by rw [B9]; exact (if_neg h).trans (if_pos h1)
theorem TS {w:f8} {n:n9} (h:¬ known w n.2.1≠0) (h1:n.1=3):B9 w n=F2 w n 4:=by rw [B9]; exact (if_neg h).trans ((if_neg (by omega)).trans (if_pos h1))
theorem TG {w:f8} {n:n9} (h:¬ known w n.2.1≠0) (h1:n.1=2):B9 w n=T3 w n:=by rw [B9]; exact (if_neg h).trans ((if_neg (by omega)).trans ((if_neg (by omega)).trans (if_pos h1)))
theorem TF {w:f8} {n:n9} (h1:n.1≠1) (h2:n.1≠3) (h3:n.1≠2):B9 w n=w:=by
  rw [B9,if_neg h1,if_neg h2,if_neg h3]; split<;>rfl
attribute [local irreducible] B9 N7 T3 F2 M0 in
theorem b2Y:Jb.Valid Tryz.prog 48:=by
  refine r9.r7 LD rfl rfl Tryz.func48 (c:=d9 Tryz.prog 48) rfl rfl LI rfl ?_;rintro ⟨⟨⟨(v0:Int),(v1:Int),⟨⟩⟩,(al:List p7),(od:List yY),(wy:List yY),⟨⟩⟩,⟨(nk:Int),(nf:Int),(nt:Int),(nv:Int),(ns:Int),(na:List Int),(nx:yY),⟨⟩⟩,⟨⟩⟩ (hq:xm ((v0,v1,()),al,od,wy,()) (nk,nf,nt,nv,ns,na,nx,())) -
  refine j8 (n:=1000) LD LI ?_;refine i8 (b8P v0 v1 al od wy nk nf nt nv ns na nx) ?_;simp only [j7,Tree.holds,sL];have key:∀ r:f8,B9 ((v0,v1,()),al,od,wy,()) (nk,nf,nt,nv,ns,na,nx,())=r->(((r,()):f8×Unit)=(B9 ((v0,v1,()),al,od,wy,()) (nk,nf,nt,nv,ns,na,nx,()),())):=by rintro r rfl; rfl
  refine ⟨hq.J4,λ _=>⟨λ a=>key _ (SN a),λ a=>⟨λ b=>⟨⟨hq.J4,a,hq.ord⟩,λ _=>key _ (TT a b)⟩,λ b=>⟨λ c=>?_,λ c=>⟨λ d=>⟨⟨hq.to,hq.log,hq.txt d⟩,λ _=>key _ (TG a d)⟩,λ d=>key _ (TF b c d)⟩⟩⟩⟩⟩;obtain ⟨w,hw⟩:∃ w:f8,w=((v0,v1,()),al,od,wy,()):=⟨_,rfl⟩;obtain ⟨n,hn⟩:∃ n:n9,n=(nk,nf,nt,nv,ns,na,nx,()):=⟨_,rfl⟩;have e3:B9 ((v0,v1,()),al,od,wy,()) (nk,nf,nt,nv,ns,na,nx,())=F2 w n 4:=by rw [hw,hn]; exact TS a c
  have gy:0<=ns/\ns<=16777215:=hq.seq;have jD:n.2.2.2.2.1=ns:=by rw [hn]
  have oz:n.2.1=nf:=by rw [hn]
  have qZ:w.2.2.1=od:=by rw [hw]
  suffices go:Go.Ex.Reach Cm Tryz.f48 () (F2 w n 4,()) (.code (g8 (d9 Tryz.prog 48) 7).1::.inLoop (g8 (d9 Tryz.prog 48) 7).1::(g8 (d9 Tryz.prog 48) 7).2) (LF (ns+((0:Nat):Int)) nk nf nt nv ns na nx (F2 w n 0).1.1 (F2 w n 0).1.2.1 (F2 w n 0).2.1 (F2 w n 0).2.2.1 (F2 w n 0).2.2.2.1) by
    rw [e3];rw [F2,show ns+((0:Nat):Int)=ns by omega] at go;rw [hw] at go ⊢;exact go
  refine Reach.O8 LD LI (λ j:Nat=>LF (ns+(j:Int)) nk nf nt nv ns na nx (F2 w n j).1.1 (F2 w n j).1.2.1 (F2 w n j).2.1 (F2 w n j).2.2.1 (F2 w n j).2.2.2.1) (λ j=>j<=4)
    (λ j=>4 - j) 1000 (λ _=>⟨y6 rfl,y6 rfl⟩) ?_ 0 (Nat.zero_le _)
  rintro j k1 - ih;have k1:j<=4:=k1;refine i8 (b7H ..) ?_;have e4:ns+(j:Int)+1=ns+((j+1:Nat):Int):=by omega
  have t3:=(AG (w:=w) (n:=n) j).2.2;simp only [j7,Tree.holds,e4,sL];refine ⟨λ d=>⟨?_,λ _=>⟨λ e=>⟨⟨by omega,d⟩,λ _=>⟨?_,λ _=>?_⟩⟩,λ e=>?_⟩⟩,λ d=>?_⟩
  . exact G9.2 ⟨by omega,by omega⟩
  . exact G9.2 ⟨by omega,by omega⟩
  . have:=ih (j+1) (by show j+1<=4; omega) (by show 4 - (j+1)<4 - j; omega);rw [YL (j:=j) (by rw [jD]; exact d)] at this;rw [jD,oz] at this;exact this
  . obtain rfl:j=4:=by omega
    rfl
  . have:=Sl (w:=w) (n:=n) (j:=j) (by rw [jD,<- t3]; exact d) (4 - j);rw [show j+(4 - j)=4 by omega] at this;rw [this]; rfl
abbrev noB:yY:=[]
def Hi:r9:={ ps:=[.own (.d8 true .str),.v f7,.v f7],rs:=[.d8 true .str],pre:=λ x=>LE.le (α:=Int) 0 x.2.1/\LE.le (α:=Int) x.2.1 x.2.2.1/\LE.le (α:=Int) x.2.2.1 (List.length (α:=yY) x.1),fn:=λ x=>(List.take (α:=yY) (Int.toNat x.2.1) x.1++List.drop (α:=yY) (Int.toNat x.2.2.1) x.1,()),out:=λ _=>() }
noncomputable def GN:Env:={ P:=Tryz.prog,tt:=tt,E4:=[],res:=[Go.ResultVar.tmp 6],rs:=[Ty.d8 true Ty.str],ps:=[PK.own (Ty.d8 true Ty.str),PK.v f7,PK.v f7],D5:=[],nt:=33 }
theorem OZ:C0 GN:=C7 s9 trivial
theorem PI:D7 GN Tryz.f45:=⟨rfl,rfl⟩
theorem Vs (x0:List yY) (x1:Int) (x2:Int):exec GN 1000 [.code (d9 Tryz.prog 45)] (y8 Hi.ps ((x0,x1,x2,()))) =
  .f9 ((0:Int)<=x1/\x1<=x2/\x2<=(↑(List.length x0):Int)/\(↑(List.length x0):Int)<=(↑(List.length x0):Int)) (cond (decide (x1=x2)) (.ret ((x0,()))) (.f9 ((0:Int)<=(0:Int)/\(0:Int)<=x1/\x1<=(↑(List.length x0):Int)) (.f9 ((0:Int)<=x2/\x2<=(↑(List.length x0):Int)/\(↑(List.length x0):Int)<=(↑(List.length x0):Int)) (.f9 (x1+(↑(List.length (o5 x2 (↑(List.length x0):Int) x0)):Int)<=(↑(List.length x0):Int)) (.f9 ((0:Int)<=x1+(↑(List.length (o5 x2 (↑(List.length x0):Int) x0)):Int) - (0:Int)/\x1+(↑(List.length (o5 x2 (↑(List.length x0):Int) x0)):Int) - (0:Int)<=(↑(List.length x0):Int)/\(0:Int)+(↑(List.length x0):Int)<=(↑(List.length (List.take (Int.toNat x1) x0++o5 x2 (↑(List.length x0):Int) x0++List.drop (Int.toNat x1+List.length (o5 x2 (↑(List.length x0):Int) x0)) x0)):Int)) (.ret ((o5 (0:Int) (x1+(↑(List.length (o5 x2 (↑(List.length x0):Int) x0)):Int)) (List.take (Int.toNat ((0:Int)+(x1+(↑(List.length (o5 x2 (↑(List.length x0):Int) x0)):Int) - (0:Int)))) (List.take (Int.toNat x1) x0++o5 x2 (↑(List.length x0):Int) x0++List.drop (Int.toNat x1+List.length (o5 x2 (↑(List.length x0):Int) x0)) x0)++List.replicate (Int.toNat ((0:Int)+(↑(List.length x0):Int) - ((0:Int)+(x1+(↑(List.length (o5 x2 (↑(List.length x0):Int) x0)):Int) - (0:Int))))) []++List.drop (Int.toNat ((0:Int)+(x1+(↑(List.length (o5 x2 (↑(List.length x0):Int) x0)):Int) - (0:Int)))+List.length (List.replicate (Int.toNat ((0:Int)+(↑(List.length x0):Int) - ((0:Int)+(x1+(↑(List.length (o5 x2 (↑(List.length x0):Int) x0)):Int) - (0:Int))))) noB)) (List.take (Int.toNat x1) x0++o5 x2 (↑(List.length x0):Int) x0++List.drop (Int.toNat x1+List.length (o5 x2 (↑(List.length x0):Int) x0)) x0)),())))))))):=by kernel_rfl
theorem b8g:Hi.Valid Tryz.prog 45:=by
  refine r9.r7 OZ rfl rfl Tryz.func45 (c:=d9 Tryz.prog 45) rfl rfl PI rfl ?_;rintro ⟨(l:List yY),(i:Int),(j:Int),⟨⟩⟩ ⟨(h0:0<=i),(h1:i<=j),(h2:j<=(l.length:Int))⟩ -
  refine j8 (n:=1000) OZ PI ?_;refine i8 (Vs l i j) ?_;simp only [j7,Tree.holds,sL];have hc:=Nj h0 h1 h2 (l:=l);have hm:=IF h0 h1 h2 (l:=l);refine ⟨⟨h0,h1,h2,Int.le_refl _⟩,λ _=>⟨λ e=>?_,λ e=>⟨by omega,λ _=>⟨by omega,λ _=>⟨by omega,λ _=>⟨by omega,λ _=>?_⟩⟩⟩⟩⟩⟩
  . subst e;show ((l,()):List yY×Unit)=(l.take i.toNat++l.drop i.toNat,());rw [List.take_append_drop]
  . exact congrArg (λ y=>(y,())) (Wk h0 h1 h2 (l:=l))
structure yy (w:f8):Prop where
  J4:w.2.1.length<=6
  Y1:w.2.2.2.1.length<=60
  note:∀ s∈w.2.2.2.1,(w9 s).2.1=0->(w9 s).1.2.2.2.1=w.1.1->l4 w (w9 s).1.2.2.1=true->xm w (w9 s).1
def Bk:r9:={ ps:=[.rw r8,.v f7,.v f7],rs:=[f7],pre:=λ x=>yy x.1,fn:=λ x=>((o8 x.1 x.2.1 x.2.2.1).2,()),out:=λ x=>((o8 x.1 x.2.1 x.2.2.1).1,()) }
noncomputable def HA:Env:={ P:=Tryz.prog,tt:=tt,E4:=[(40,zN),(45,Hi),(46,GJ),(47,yS),(48,Jb)],res:=[Go.ResultVar.tmp 6],rs:=[Ty.int IntKind.i64],ps:=[PK.rw r8,PK.v f7,PK.v f7],D5:=[],nt:=95 }
theorem Qm:C0 HA:=C7 s9 ⟨Fk,b8g,b8i,CE,b2Y,trivial⟩
theorem QB:D7 HA Tryz.f18:=⟨rfl,rfl⟩
theorem Xs (aj:Int) (af:Int) (ab:List p7) (ae:List yY) (aa:List yY) (x1:Int) (x2:Int):exec HA 1000 [.code (d9 Tryz.prog 18)] (y8 Bk.ps ((((aj,af,()),ab,ae,aa,()),x1,x2,()))) =
  .f9 (True) (cond (!H6 x2 (1:Int) (3:Int)) (.ret (((1:Int),((aj,af,()),ab,ae,aa,()),()))) (.f9 (u7 IntKind.i64 ((↑(List.length aa):Int) - (1:Int))) (.f9 (True) (cond (!H6 x1 (0:Int) ((↑(List.length aa):Int) - (1:Int))) (.ret (((6:Int),((aj,af,()),ab,ae,aa,()),()))) (cond (decide (x2=(3:Int))) (cond (decide ((↑(List.length aa):Int)=(60:Int))) (.ret (((8:Int),((aj,af,()),ab,ae,aa,()),()))) (.f9 ((0:Int)<=x1/\x1<(↑(List.length aa):Int)) (cond (decide (x2=(3:Int))) (.f9 (True/\True/\[]++[Step.l8 3]=[]++[Step.l8 3]/\List.length aa+List.length (List.set [[]] (Int.toNat (↑0:Int)) (List.getD aa (Int.toNat x1) []))<=140737488355328/\(List.length aa+List.length (List.set [[]] (Int.toNat (↑0:Int)) (List.getD aa (Int.toNat x1) [])))*Ty.wb Ty.str<=140737488355328) (.ret (((0:Int),((aj,af,()),ab,ae,aa++List.set [[]] (Int.toNat (↑0:Int)) (List.getD aa (Int.toNat x1) []),()),())))) (.f9 (u7 IntKind.i64 (x1+(1:Int))) (.f9 (True/\True/\[]++[Step.l8 3]=[]++[Step.l8 3]/\(0:Int)<=x1/\x1<=x1+(1:Int)/\x1+(1:Int)<=(↑(List.length aa):Int)) (.f9 (True) (cond (decide (x2=(1:Int))) (cond (decide (Prod.fst (Prod.snd (w9 (List.getD aa (Int.toNat x1) [])))=(0:Int))) (cond (decide (Prod.fst (Prod.snd (Prod.snd (Prod.snd (Prod.fst (w9 (List.getD aa (Int.toNat x1) []))))))=aj)) (.f9 (List.length ab<=6) (cond (l4 ((aj,af,()),ab,ae,List.take (Int.toNat x1) aa++List.drop (Int.toNat (x1+(1:Int))) aa,()) (Prod.fst (Prod.snd (Prod.snd (Prod.fst (w9 (List.getD aa (Int.toNat x1) []))))))) (.f9 (xm ((aj,af,()),ab,ae,List.take (Int.toNat x1) aa++List.drop (Int.toNat (x1+(1:Int))) aa,()) (Prod.fst (w9 (List.getD aa (Int.toNat x1) [])))) (.ret (((0:Int),B9 ((aj,af,()),ab,ae,List.take (Int.toNat x1) aa++List.drop (Int.toNat (x1+(1:Int))) aa,()) (Prod.fst (w9 (List.getD aa (Int.toNat x1) []))),())))) (.ret (((0:Int),((aj,af,()),ab,ae,List.take (Int.toNat x1) aa++List.drop (Int.toNat (x1+(1:Int))) aa,()),()))))) (.ret (((0:Int),((aj,af,()),ab,ae,List.take (Int.toNat x1) aa++List.drop (Int.toNat (x1+(1:Int))) aa,()),())))) (.ret (((0:Int),((aj,af,()),ab,ae,List.take (Int.toNat x1) aa++List.drop (Int.toNat (x1+(1:Int))) aa,()),())))) (.ret (((0:Int),((aj,af,()),ab,ae,List.take (Int.toNat x1) aa++List.drop (Int.toNat (x1+(1:Int))) aa,()),())))))))))) (.f9 ((0:Int)<=x1/\x1<(↑(List.length aa):Int)) (cond (decide (x2=(3:Int))) (.f9 (True/\True/\[]++[Step.l8 3]=[]++[Step.l8 3]/\List.length aa+List.length (List.set [[]] (Int.toNat (↑0:Int)) (List.getD aa (Int.toNat x1) []))<=140737488355328/\(List.length aa+List.length (List.set [[]] (Int.toNat (↑0:Int)) (List.getD aa (Int.toNat x1) [])))*Ty.wb Ty.str<=140737488355328) (.ret (((0:Int),((aj,af,()),ab,ae,aa++List.set [[]] (Int.toNat (↑0:Int)) (List.getD aa (Int.toNat x1) []),()),())))) (.f9 (u7 IntKind.i64 (x1+(1:Int))) (.f9 (True/\True/\[]++[Step.l8 3]=[]++[Step.l8 3]/\(0:Int)<=x1/\x1<=x1+(1:Int)/\x1+(1:Int)<=(↑(List.length aa):Int)) (.f9 (True) (cond (decide (x2=(1:Int))) (cond (decide (Prod.fst (Prod.snd (w9 (List.getD aa (Int.toNat x1) [])))=(0:Int))) (cond (decide (Prod.fst (Prod.snd (Prod.snd (Prod.snd (Prod.fst (w9 (List.getD aa (Int.toNat x1) []))))))=aj)) (.f9 (List.length ab<=6) (cond (l4 ((aj,af,()),ab,ae,List.take (Int.toNat x1) aa++List.drop (Int.toNat (x1+(1:Int))) aa,()) (Prod.fst (Prod.snd (Prod.snd (Prod.fst (w9 (List.getD aa (Int.toNat x1) []))))))) (.f9 (xm ((aj,af,()),ab,ae,List.take (Int.toNat x1) aa++List.drop (Int.toNat (x1+(1:Int))) aa,()) (Prod.fst (w9 (List.getD aa (Int.toNat x1) [])))) (.ret (((0:Int),B9 ((aj,af,()),ab,ae,List.take (Int.toNat x1) aa++List.drop (Int.toNat (x1+(1:Int))) aa,()) (Prod.fst (w9 (List.getD aa (Int.toNat x1) []))),())))) (.ret (((0:Int),((aj,af,()),ab,ae,List.take (Int.toNat x1) aa++List.drop (Int.toNat (x1+(1:Int))) aa,()),()))))) (.ret (((0:Int),((aj,af,()),ab,ae,List.take (Int.toNat x1) aa++List.drop (Int.toNat (x1+(1:Int))) aa,()),())))) (.ret (((0:Int),((aj,af,()),ab,ae,List.take (Int.toNat x1) aa++List.drop (Int.toNat (x1+(1:Int))) aa,()),())))) (.ret (((0:Int),((aj,af,()),ab,ae,List.take (Int.toNat x1) aa++List.drop (Int.toNat (x1+(1:Int))) aa,()),())))))))))))))):=by kernel_rfl
theorem Ru {w:f8} {k bA:Int} (h:H6 bA 1 3=false):o8 w k bA=(w,1):=by rw [o8]; exact if_pos h
theorem SG {w:f8} {k bA:Int} (h:¬ H6 bA 1 3=false) (h1:H6 k 0 ((w.2.2.2.1.length:Int) - 1)=false):o8 w k bA=(w,6):=by rw [o8]; exact (if_neg h).trans (if_pos h1)
theorem SF {w:f8} {k bA:Int} (h:¬ H6 bA 1 3=false) (h1:¬ H6 k 0 ((w.2.2.2.1.length:Int) - 1)=false) (h2:bA=3) (h3:(w.2.2.2.1.length:Int)=60):o8 w k bA=(w,8):=by
  rw [o8]; exact (if_neg h).trans ((if_neg h1).trans (if_pos ⟨h2,h3⟩))
theorem KI {w:f8} {k bA:Int} (h:¬ H6 bA 1 3=false) (h1:¬ H6 k 0 ((w.2.2.2.1.length:Int) - 1)=false) (h2:bA=3) (h3:¬ (w.2.2.2.1.length:Int)=60):o8 w k bA=(Bb w k.toNat,0):=by
  rw [o8]; exact (if_neg h).trans ((if_neg h1).trans ((if_neg (λ e=>h3 e.2)).trans (if_pos h2)))
theorem BZ {w:f8} {k bA:Int} (h:¬ H6 bA 1 3=false) (h1:¬ H6 k 0 ((w.2.2.2.1.length:Int) - 1)=false) (h2:¬ bA=3):o8 w k bA=(N2 (xB w k) bA (w.2.2.2.1.getD k.toNat []),0):=by
  rw [o8]; exact (if_neg h).trans ((if_neg h1).trans ((if_neg (λ e=>h2 e.1)).trans (if_neg h2)))
theorem KJ {w:f8} {bA:Int} {s:yY} (h:bA=1/\(w9 s).2.1=0/\(w9 s).1.2.2.2.1=w.1.1/\l4 w (w9 s).1.2.2.1=true):N2 w bA s=B9 w (w9 s).1:=by
  rw [N2]; exact if_pos h
theorem Ki {w:f8} {bA:Int} {s:yY} (h:¬ (bA=1/\(w9 s).2.1=0/\(w9 s).1.2.2.2.1=w.1.1/\l4 w (w9 s).1.2.2.1=true)):N2 w bA s=w:=by
  rw [N2]; exact if_neg h
theorem xm.drop {w:f8} {n:n9} {l:List yY} (h:xm w n):xm (w.1,w.2.1,w.2.2.1,l,()) n:=⟨h.J4,h.to,h.seq,h.log,h.ord,h.txt⟩
attribute [local irreducible] o8 N2 B9 w9 l4 in
theorem KW:Bk.Valid Tryz.prog 18:=by
  refine r9.r7 Qm rfl rfl Tryz.func18 (c:=d9 Tryz.prog 18) rfl rfl QB rfl ?_;rintro ⟨⟨⟨(v0:Int),(v1:Int),⟨⟩⟩,(al:List p7),(od:List yY),(wy:List yY),⟨⟩⟩,(k:Int),(bA:Int),⟨⟩⟩ (hq:yy ((v0,v1,()),al,od,wy,())) -
  refine j8 (n:=1000) Qm QB ?_;refine i8 (Xs v0 v1 al od wy k bA) ?_;have kJ:Ty.wb .str=16:=rfl;have mr:wy.length<=60:=hq.Y1;simp only [j7,Tree.holds,sL];have key:∀ r:f8×Int,o8 ((v0,v1,()),al,od,wy,()) k bA=r->(((r.2,r.1,()):Int×f8×Unit)=((o8 ((v0,v1,()),al,od,wy,()) k bA).2,(o8 ((v0,v1,()),al,od,wy,()) k bA).1,())):=by rintro r rfl; rfl
  have dz:¬ H6 k 0 ((wy.length:Int) - 1)=false->0<=k/\k<(wy.length:Int):=λ h=>by
    have:=M8.1 (Bool.not_eq_false _▸h:H6 k 0 ((wy.length:Int) - 1)=true); omega
  have yes:∀ (a:¬ H6 bA 1 3=false) (b:¬ H6 k 0 ((wy.length:Int) - 1)=false) (c:¬ bA=3),bA=1->(w9 (wy.getD k.toNat [])).2.1=0->(w9 (wy.getD k.toNat [])).1.2.2.2.1=v0->l4 ((v0,v1,()),al,od,wy.take k.toNat++wy.drop (k+1).toNat,()) (w9 (wy.getD k.toNat [])).1.2.2.1=true ->
      o8 ((v0,v1,()),al,od,wy,()) k bA=(B9 ((v0,v1,()),al,od,wy.take k.toNat++wy.drop (k+1).toNat,()) (w9 (wy.getD k.toNat [])).1,0):=λ a b c d e f g=>by
    rw [BZ a b c]; exact congrArg (λ x=>(x,(0:Int))) (KJ ⟨d,e,f,g⟩)
  have no:∀ (a:¬ H6 bA 1 3=false) (b:¬ H6 k 0 ((wy.length:Int) - 1)=false) (c:¬ bA=3),¬ (bA=1/\(w9 (wy.getD k.toNat [])).2.1=0/\(w9 (wy.getD k.toNat [])).1.2.2.2.1=v0/\l4 ((v0,v1,()),al,od,wy.take k.toNat++wy.drop (k+1).toNat,()) (w9 (wy.getD k.toNat [])).1.2.2.1=true) ->
      o8 ((v0,v1,()),al,od,wy,()) k bA=(((v0,v1,()),al,od,wy.take k.toNat++wy.drop (k+1).toNat,()),0):=λ a b c d=>by
    rw [BZ a b c]; exact congrArg (λ x=>(x,(0:Int))) (Ki d)
  have pre:0<=k/\k<(wy.length:Int)->(w9 (wy.getD k.toNat [])).2.1=0->(w9 (wy.getD k.toNat [])).1.2.2.2.1=v0->l4 ((v0,v1,()),al,od,wy.take k.toNat++wy.drop (k+1).toNat,()) (w9 (wy.getD k.toNat [])).1.2.2.1=true->xm ((v0,v1,()),al,od,wy.take k.toNat++wy.drop (k+1).toNat,()) (w9 (wy.getD k.toNat [])).1:=λ h h1 h3 h2 =>
    (hq.note _ (by show wy.getD k.toNat []∈wy; rw [List.getD_eq_getElem?_getD,List.getElem?_eq_getElem (by omega)]; exact List.getElem_mem _) h1 h3 (by rw [l4.eq_1] at h2 ⊢; exact h2)).drop
  refine ⟨λ a=>key (_,_) (Ru a),λ a=>⟨G9.2 ⟨by omega,by omega⟩,λ _=>⟨λ b=>key (_,_) (SG (by simpa using a) b),λ b=>?_⟩⟩⟩;have a:¬ H6 bA 1 3=false:=by simpa using a
  have b:¬ H6 k 0 ((wy.length:Int) - 1)=false:=by simpa using b
  have hk:=dz b;refine ⟨λ c=>⟨λ d=>key (_,_) (SF a b c d),λ d=>⟨hk,λ _=>⟨λ _=>⟨by rw [kJ]; omega,λ _=>key (_,_) (KI a b c d)⟩,λ e=>absurd c e⟩⟩⟩,λ c=>⟨hk,λ _=>⟨λ e=>absurd e c,λ _=>⟨G9.2 ⟨by omega,by omega⟩,λ _=>⟨⟨by omega,by omega,by omega⟩,λ _=>⟨λ d=>⟨λ e=>⟨λ f=>⟨hq.J4,λ _=>⟨λ g=>⟨pre hk e f g,λ _=>key (_,_) (yes a b c d e f g)⟩,λ g=>key (_,_) (no a b c (λ h=>by rw [h.2.2.2] at g; cases g))⟩⟩,λ f=>key (_,_) (no a b c (λ h=>f h.2.2.1))⟩,λ e=>key (_,_) (no a b c (λ h=>e h.2.1))⟩,λ d=>key (_,_) (no a b c (λ h=>d h.1))⟩⟩⟩⟩⟩⟩
abbrev vS (m:a87):f8:=(m.1,m.2.1.map rdP,m.2.2)
abbrev vo (w:f8):a87:=(w.1,w.2.1.map toM,w.2.2)
theorem Yu (w:f8):vS (vo w)=w:=by
  show (w.1,(w.2.1.map toM).map rdP,w.2.2)=w;rw [List.map_map,show (rdP ∘ toM)=id from rfl,List.map_id]
structure zq (w:f8):Prop where
  J4:w.2.1.length<=6
  Uv:∀ i:Nat,(w.2.1.getD i g9).2.1.length<=5864062014805
  late:∀ i:Nat,(w.2.1.getD i g9).2.2.1.2.1.length<=1048576
def Od:r9:={ ps:=[.rw vM],rs:=[f7],pre:=λ x=>(x.1:a87)=vo (vS x.1)/\zq (vS x.1)/\¬ (S4 (vS x.1)).2.1≠0,fn:=λ _=>(0,()),out:=λ x=>(vo (G4 (vS x.1)),()) }
noncomputable def xQ:Env:={ P:=Tryz.prog,tt:=ttW,E4:=[(47,yS),(53,Bw),(31,AQ),(32,Gu)],res:=[Go.ResultVar.tmp 2],rs:=[Ty.int IntKind.i64],ps:=[PK.rw vM],D5:=[(4,[(0,none),(3,none),(4,none),(18,none),(19,none)]),(16,[(0,none),(4,none),(7,none),(67,none),(68,none)]),(22,[(0,none),(4,none),(7,none),(9,none),(10,none),(11,none),(67,none),(68,none),(86,none),(87,none),(88,none)]),(998049,[(6,some M6)]),(998014,[(4,some M6)])],nt:=139 }
theorem CP:C0 xQ:=C7 Nb ⟨CE,Tz,KQ,Tl,trivial⟩
theorem CQ:D7 xQ Tryz.f25:=⟨rfl,rfl⟩
theorem Zl (aj:Int) (af:Int) (ab:List M5) (ae:List yY) (aa:List yY):exec xQ 1000 [.code (d9 Tryz.prog 25)] (y8 Od.ps ((((aj,af,()),ab,ae,aa,()),()))) =
  .ctL (g8 (d9 Tryz.prog 25) 4) (St.mk [(0,AV.ptr 2000000 []),(3,AV.val U8 (0:Int)),(4,AV.val M6 []),(18,AV.val f7 (↑(List.length ab):Int)),(19,AV.val f7 (0:Int))] [(2000000,i7.var vM ((aj,af,()),ab,ae,aa,()))]):=by kernel_rfl
def Lj (v3:Int) (v4:List (Int×yY×Unit)) (uY:Int) (uW:Int) (au:Int) (an:Int) (ai:List M5) (ak:List yY) (ah:List yY):St:=St.mk [(0,AV.ptr 2000000 []),(3,AV.val U8 v3),(4,AV.val M6 v4),(18,AV.val f7 uY),(19,AV.val f7 uW)] [(2000000,i7.var vM ((au,an,()),ai,ak,ah,()))]
theorem b8Q (v3:Int) (v4:List (Int×yY×Unit)) (uY:Int) (uW:Int) (au:Int) (an:Int) (ai:List M5) (ak:List yY) (ah:List yY):exec xQ 1000 (.code (g8 (d9 Tryz.prog 25) 4).1::.inLoop (g8 (d9 Tryz.prog 25) 4).1::(g8 (d9 Tryz.prog 25) 4).2) (Lj v3 v4 uY uW au an ai ak ah) =
  cond (decide (uW<uY)) (.f9 (List.length (List.map (rdV Z3) ai)<=6) (cond (l4 ((au,an,()),List.map (rdV Z3) ai,ak,ah,()) uW) (.f9 ((0:Int)<=uW/\uW<(↑(List.length ai):Int)) (cond (decide ((↑(List.length v4):Int)<(↑(List.length (Prod.fst (Prod.snd (Prod.fst (Prod.snd (List.getD ai (Int.toNat uW) (false,(1,[],[]),((0:Int),[],()),((0:Int),[],()),((0:Int),[],()),()))))))):Int))) (.f9 (u7 IntKind.i64 (uW+(1:Int))) (.ctL (g8 (d9 Tryz.prog 25) 4) (St.mk [(0,AV.ptr 2000000 []),(3,AV.val U8 v3),(4,AV.val M6 (Prod.fst (Prod.snd (Prod.fst (Prod.snd (List.getD ai (Int.toNat uW) (false,(1,[],[]),((0:Int),[],()),((0:Int),[],()),((0:Int),[],()),()))))))),(18,AV.val f7 uY),(19,AV.val f7 (uW+(1:Int)))] [(2000000,i7.var vM ((au,an,()),List.set ai (Int.toNat uW) (Prod.fst (List.getD ai (Int.toNat uW) (false,(1,[],[]),((0:Int),[],()),((0:Int),[],()),((0:Int),[],()),())),(0,Prod.fst (Prod.snd (Prod.fst (Prod.snd (List.getD ai (Int.toNat uW) (false,(1,[],[]),((0:Int),[],()),((0:Int),[],()),((0:Int),[],()),()))))),[]),Prod.snd (Prod.snd (List.getD ai (Int.toNat uW) (false,(1,[],[]),((0:Int),[],()),((0:Int),[],()),((0:Int),[],()),())))),ak,ah,()))]))) (.f9 (u7 IntKind.i64 (uW+(1:Int))) (.ctL (g8 (d9 Tryz.prog 25) 4) (St.mk [(0,AV.ptr 2000000 []),(3,AV.val U8 v3),(4,AV.val M6 v4),(18,AV.val f7 uY),(19,AV.val f7 (uW+(1:Int)))] [(2000000,i7.var vM ((au,an,()),ai,ak,ah,()))]))))) (.f9 ((0:Int)<=uW) (.f9 (u7 IntKind.i64 (uW+(1:Int))) (.ctL (g8 (d9 Tryz.prog 25) 4) (St.mk [(0,AV.ptr 2000000 []),(3,AV.val U8 (bOr IntKind.u8 v3 (U2 IntKind.u8 an (IntKind.wrap IntKind.u8 ((1:Int)*(2:Int)^min (Int.toNat uW) (IntKind.bits IntKind.u8)))))),(4,AV.val M6 v4),(18,AV.val f7 uY),(19,AV.val f7 (uW+(1:Int)))] [(2000000,i7.var vM ((au,an,()),ai,ak,ah,()))])))))) (.f9 (True) (cond (decide (Prod.fst (Prod.snd (S5 (au,an,()) v3 (0:Int)))≠(0:Int))) (.ret ((Prod.fst (Prod.snd (S5 (au,an,()) v3 (0:Int))),((au,an,()),ai,ak,ah,()),()))) (.ctL (g8 (d9 Tryz.prog 25) 16) (St.mk [(0,AV.ptr 2000000 []),(4,AV.val M6 v4),(7,AV.ptr 7 []),(67,AV.val f7 (↑(List.length ai):Int)),(68,AV.val f7 (0:Int))] [(7,i7.var View (Prod.fst (S5 (au,an,()) v3 (0:Int)))),(2000000,i7.var vM ((au,an,()),ai,ak,ah,()))])))):=by kernel_rfl
def LA (v4:List (Int×yY×Unit)) (vV:Int) (ve:Int) (cR:Int) (bu:Int) (au:Int) (an:Int) (ai:List M5) (ak:List yY) (ah:List yY):St:=St.mk [(0,AV.ptr 2000000 []),(4,AV.val M6 v4),(7,AV.ptr 7 []),(67,AV.val f7 vV),(68,AV.val f7 ve)] [(7,i7.var View (cR,bu,())),(2000000,i7.var vM ((au,an,()),ai,ak,ah,()))]
theorem b7J (v4:List (Int×yY×Unit)) (vV:Int) (ve:Int) (cR:Int) (bu:Int) (au:Int) (an:Int) (ai:List M5) (ak:List yY) (ah:List yY):exec xQ 1000 (.code (g8 (d9 Tryz.prog 25) 16).1::.inLoop (g8 (d9 Tryz.prog 25) 16).1::(g8 (d9 Tryz.prog 25) 16).2) (LA v4 vV ve cR bu au an ai ak ah) =
  let q1:=(List.getD ai (Int.toNat ve) (false,(1,[],[]),((0:Int),[],()),((0:Int),[],()),((0:Int),[],()),())); let q2:=M6; let q0:=(Ty.pair Ty.bool (Ty.pair (Ty.C6 w4) (Ty.pair R4 (Ty.pair (Ty.pair f7 (Ty.pair q2 Ty.unit)) (Ty.pair (Ty.pair f7 (Ty.pair q2 Ty.unit)) Ty.unit))))); let q3:=(↑(List.length (Prod.fst (Prod.snd (Prod.fst (Prod.snd q1))))):Int); let q4:=View; let q5:=(Ty.pair q4 (Ty.pair (Ty.d8 true q0) (Ty.pair (Ty.d8 true Ty.str) (Ty.pair (Ty.d8 true Ty.str) Ty.unit)))); cond (decide (ve<vV)) (.f9 ((0:Int)<=ve/\ve<(↑(List.length ai):Int)) (.f9 (List.length (List.map (rdV q0) ai)<=6) (cond (l4 ((au,an,()),List.map (rdV q0) ai,ak,ah,()) ve) (.f9 ((0:Int)<=q3/\q3<=(↑(List.length v4):Int)/\(↑(List.length v4):Int)<=(↑(List.length v4):Int)) (.ctL (g8 (d9 Tryz.prog 25) 22) (St.mk [(0,AV.ptr 2000000 []),(4,AV.val q2 v4),(7,AV.ptr 7 []),(9,AV.val f7 ve),(10,AV.ptr 2000000 [Step.l8 1,Step.idx ve]),(11,AV.val f7 (0:Int)),(67,AV.val f7 vV),(68,AV.val f7 ve),(86,AV.val q2 (o5 q3 (↑(List.length v4):Int) v4)),(87,AV.val f7 (↑(List.length (o5 q3 (↑(List.length v4):Int) v4)):Int)),(88,AV.val f7 (0:Int))] [(7,i7.var q4 (cR,bu,())),(2000000,i7.var q5 ((au,an,()),ai,ak,ah,()))]))) (.f9 (u7 IntKind.i64 (ve+(1:Int))) (.ctL (g8 (d9 Tryz.prog 25) 16) (St.mk [(0,AV.ptr 2000000 []),(4,AV.val q2 v4),(7,AV.ptr 7 []),(67,AV.val f7 vV),(68,AV.val f7 (ve+(1:Int)))] [(7,i7.var q4 (cR,bu,())),(2000000,i7.var q5 ((au,an,()),List.set ai (Int.toNat ve) (Prod.fst q1,Prod.fst (Prod.snd q1),Prod.fst (Prod.snd (Prod.snd q1)),Prod.fst (Prod.snd (Prod.snd (Prod.snd q1))),((0:Int),[],()),Prod.snd (Prod.snd (Prod.snd (Prod.snd (Prod.snd q1))))),ak,ah,()))])))))) (.ret (((0:Int),((cR,bu,()),ai,[],ah,()),()))):=by kernel_rfl
def LC (v4:List (Int×yY×Unit)) (v9:Int) (aV:Int) (v11:Int) (vV:Int) (ve:Int) (yN:List (Int×yY×Unit)) (v87:Int) (vp:Int) (cR:Int) (bu:Int) (au:Int) (an:Int) (ai:List M5) (ak:List yY) (ah:List yY):St:=St.mk [(0,AV.ptr 2000000 []),(4,AV.val M6 v4),(7,AV.ptr 7 []),(9,AV.val f7 v9),(10,AV.ptr 2000000 [Step.l8 1,Step.idx aV]),(11,AV.val f7 v11),(67,AV.val f7 vV),(68,AV.val f7 ve),(86,AV.val M6 yN),(87,AV.val f7 v87),(88,AV.val f7 vp)] [(7,i7.var View (cR,bu,())),(2000000,i7.var vM ((au,an,()),ai,ak,ah,()))]
theorem b7I (v4:List (Int×yY×Unit)) (v9:Int) (aV:Int) (v11:Int) (vV:Int) (ve:Int) (yN:List (Int×yY×Unit)) (v87:Int) (vp:Int) (cR:Int) (bu:Int) (au:Int) (an:Int) (ai:List M5) (ak:List yY) (ah:List yY):exec xQ 1000 (.code (g8 (d9 Tryz.prog 25) 22).1::.inLoop (g8 (d9 Tryz.prog 25) 22).1::(g8 (d9 Tryz.prog 25) 22).2) (LC v4 v9 aV v11 vV ve yN v87 vp cR bu au an ai ak ah) =
  let q3:=(false,(1,[],[]),((0:Int),[],()),((0:Int),[],()),((0:Int),[],()),()); let q1:=(List.set ai (Int.toNat aV) (Prod.fst (List.getD ai (Int.toNat aV) q3),(1,v4,[]),Prod.snd (Prod.snd (List.getD ai (Int.toNat aV) q3)))); let q0:=(List.getD q1 (Int.toNat aV) q3); let q4:=(Prod.fst (Prod.snd (Prod.fst (Prod.snd (Prod.snd q0))))); let q2:=(↑(List.length q4):Int); let q6:=M6; let q7:=View; let q5:=(Ty.pair q7 (Ty.pair (Ty.d8 true (Ty.pair Ty.bool (Ty.pair (Ty.C6 w4) (Ty.pair R4 (Ty.pair (Ty.pair f7 (Ty.pair q6 Ty.unit)) (Ty.pair (Ty.pair f7 (Ty.pair q6 Ty.unit)) Ty.unit)))))) (Ty.pair (Ty.d8 true Ty.str) (Ty.pair (Ty.d8 true Ty.str) Ty.unit)))); let q8:=(2000000,i7.var q5 ((au,an,()),ai,ak,ah,())); cond (decide (vp<v87)) (.f9 ((0:Int)<=vp/\vp<(↑(List.length yN):Int)) (cond (decide (Prod.fst (List.getD yN (Int.toNat vp) ((0:Int),[],()))=v9)) (.f9 (u7 IntKind.i64 (v11+(1:Int))) (.f9 (u7 IntKind.i64 (vp+(1:Int))) (.ctL (g8 (d9 Tryz.prog 25) 22) (St.mk [(0,AV.ptr 2000000 []),(4,AV.val q6 v4),(7,AV.ptr 7 []),(9,AV.val f7 v9),(10,AV.ptr 2000000 [Step.l8 1,Step.idx aV]),(11,AV.val f7 (v11+(1:Int))),(67,AV.val f7 vV),(68,AV.val f7 ve),(86,AV.val q6 yN),(87,AV.val f7 v87),(88,AV.val f7 (vp+(1:Int)))] [(7,i7.var q7 (cR,bu,())),q8])))) (.f9 (u7 IntKind.i64 (vp+(1:Int))) (.ctL (g8 (d9 Tryz.prog 25) 22) (St.mk [(0,AV.ptr 2000000 []),(4,AV.val q6 v4),(7,AV.ptr 7 []),(9,AV.val f7 v9),(10,AV.ptr 2000000 [Step.l8 1,Step.idx aV]),(11,AV.val f7 v11),(67,AV.val f7 vV),(68,AV.val f7 ve),(86,AV.val q6 yN),(87,AV.val f7 v87),(88,AV.val f7 (vp+(1:Int)))] [(7,i7.var q7 (cR,bu,())),q8]))))) (.f9 (List.length v4<=5864062014805) (.f9 (((0:Int)<=if q2<v11 then q2 else v11)/\(if q2<v11 then q2 else v11)<=q2/\q2<=q2) (.f9 (List.length (o5 (if q2<v11 then q2 else v11) q2 q4)<=1048576) (.f9 (u7 IntKind.i64 (ve+(1:Int))) (.ctL (g8 (d9 Tryz.prog 25) 16) (St.mk [(0,AV.ptr 2000000 []),(4,AV.val q6 v4),(7,AV.ptr 7 []),(67,AV.val f7 vV),(68,AV.val f7 (ve+(1:Int)))] [(7,i7.var q7 (cR,bu,())),(2000000,i7.var q5 ((au,an,()),List.set (List.set (List.set q1 (Int.toNat aV) (Prod.fst q0,Prod.fst (Prod.snd q0),((0:Int),o5 (if q2<v11 then q2 else v11) q2 q4,()),Prod.snd (Prod.snd (Prod.snd q0)))) (Int.toNat aV) (Prod.fst (List.getD (List.set q1 (Int.toNat aV) (Prod.fst q0,Prod.fst (Prod.snd q0),((0:Int),o5 (if q2<v11 then q2 else v11) q2 q4,()),Prod.snd (Prod.snd (Prod.snd q0)))) (Int.toNat aV) q3),Prod.fst (Prod.snd (List.getD (List.set q1 (Int.toNat aV) (Prod.fst q0,Prod.fst (Prod.snd q0),((0:Int),o5 (if q2<v11 then q2 else v11) q2 q4,()),Prod.snd (Prod.snd (Prod.snd q0)))) (Int.toNat aV) q3)),Prod.fst (Prod.snd (Prod.snd (List.getD (List.set q1 (Int.toNat aV) (Prod.fst q0,Prod.fst (Prod.snd q0),((0:Int),o5 (if q2<v11 then q2 else v11) q2 q4,()),Prod.snd (Prod.snd (Prod.snd q0)))) (Int.toNat aV) q3))),((0:Int),[],()),Prod.snd (Prod.snd (Prod.snd (Prod.snd (List.getD (List.set q1 (Int.toNat aV) (Prod.fst q0,Prod.fst (Prod.snd q0),((0:Int),o5 (if q2<v11 then q2 else v11) q2 q4,()),Prod.snd (Prod.snd (Prod.snd q0)))) (Int.toNat aV) q3)))))) (Int.toNat aV) (Prod.fst (List.getD (List.set (List.set q1 (Int.toNat aV) (Prod.fst q0,Prod.fst (Prod.snd q0),((0:Int),o5 (if q2<v11 then q2 else v11) q2 q4,()),Prod.snd (Prod.snd (Prod.snd q0)))) (Int.toNat aV) (Prod.fst (List.getD (List.set q1 (Int.toNat aV) (Prod.fst q0,Prod.fst (Prod.snd q0),((0:Int),o5 (if q2<v11 then q2 else v11) q2 q4,()),Prod.snd (Prod.snd (Prod.snd q0)))) (Int.toNat aV) q3),Prod.fst (Prod.snd (List.getD (List.set q1 (Int.toNat aV) (Prod.fst q0,Prod.fst (Prod.snd q0),((0:Int),o5 (if q2<v11 then q2 else v11) q2 q4,()),Prod.snd (Prod.snd (Prod.snd q0)))) (Int.toNat aV) q3)),Prod.fst (Prod.snd (Prod.snd (List.getD (List.set q1 (Int.toNat aV) (Prod.fst q0,Prod.fst (Prod.snd q0),((0:Int),o5 (if q2<v11 then q2 else v11) q2 q4,()),Prod.snd (Prod.snd (Prod.snd q0)))) (Int.toNat aV) q3))),((0:Int),[],()),Prod.snd (Prod.snd (Prod.snd (Prod.snd (List.getD (List.set q1 (Int.toNat aV) (Prod.fst q0,Prod.fst (Prod.snd q0),((0:Int),o5 (if q2<v11 then q2 else v11) q2 q4,()),Prod.snd (Prod.snd (Prod.snd q0)))) (Int.toNat aV) q3)))))) (Int.toNat aV) q3),Prod.fst (Prod.snd (List.getD (List.set (List.set q1 (Int.toNat aV) (Prod.fst q0,Prod.fst (Prod.snd q0),((0:Int),o5 (if q2<v11 then q2 else v11) q2 q4,()),Prod.snd (Prod.snd (Prod.snd q0)))) (Int.toNat aV) (Prod.fst (List.getD (List.set q1 (Int.toNat aV) (Prod.fst q0,Prod.fst (Prod.snd q0),((0:Int),o5 (if q2<v11 then q2 else v11) q2 q4,()),Prod.snd (Prod.snd (Prod.snd q0)))) (Int.toNat aV) q3),Prod.fst (Prod.snd (List.getD (List.set q1 (Int.toNat aV) (Prod.fst q0,Prod.fst (Prod.snd q0),((0:Int),o5 (if q2<v11 then q2 else v11) q2 q4,()),Prod.snd (Prod.snd (Prod.snd q0)))) (Int.toNat aV) q3)),Prod.fst (Prod.snd (Prod.snd (List.getD (List.set q1 (Int.toNat aV) (Prod.fst q0,Prod.fst (Prod.snd q0),((0:Int),o5 (if q2<v11 then q2 else v11) q2 q4,()),Prod.snd (Prod.snd (Prod.snd q0)))) (Int.toNat aV) q3))),((0:Int),[],()),Prod.snd (Prod.snd (Prod.snd (Prod.snd (List.getD (List.set q1 (Int.toNat aV) (Prod.fst q0,Prod.fst (Prod.snd q0),((0:Int),o5 (if q2<v11 then q2 else v11) q2 q4,()),Prod.snd (Prod.snd (Prod.snd q0)))) (Int.toNat aV) q3)))))) (Int.toNat aV) q3)),Prod.fst (Prod.snd (Prod.snd (List.getD (List.set (List.set q1 (Int.toNat aV) (Prod.fst q0,Prod.fst (Prod.snd q0),((0:Int),o5 (if q2<v11 then q2 else v11) q2 q4,()),Prod.snd (Prod.snd (Prod.snd q0)))) (Int.toNat aV) (Prod.fst (List.getD (List.set q1 (Int.toNat aV) (Prod.fst q0,Prod.fst (Prod.snd q0),((0:Int),o5 (if q2<v11 then q2 else v11) q2 q4,()),Prod.snd (Prod.snd (Prod.snd q0)))) (Int.toNat aV) q3),Prod.fst (Prod.snd (List.getD (List.set q1 (Int.toNat aV) (Prod.fst q0,Prod.fst (Prod.snd q0),((0:Int),o5 (if q2<v11 then q2 else v11) q2 q4,()),Prod.snd (Prod.snd (Prod.snd q0)))) (Int.toNat aV) q3)),Prod.fst (Prod.snd (Prod.snd (List.getD (List.set q1 (Int.toNat aV) (Prod.fst q0,Prod.fst (Prod.snd q0),((0:Int),o5 (if q2<v11 then q2 else v11) q2 q4,()),Prod.snd (Prod.snd (Prod.snd q0)))) (Int.toNat aV) q3))),((0:Int),[],()),Prod.snd (Prod.snd (Prod.snd (Prod.snd (List.getD (List.set q1 (Int.toNat aV) (Prod.fst q0,Prod.fst (Prod.snd q0),((0:Int),o5 (if q2<v11 then q2 else v11) q2 q4,()),Prod.snd (Prod.snd (Prod.snd q0)))) (Int.toNat aV) q3)))))) (Int.toNat aV) q3))),Prod.fst (Prod.snd (Prod.snd (Prod.snd (List.getD (List.set (List.set q1 (Int.toNat aV) (Prod.fst q0,Prod.fst (Prod.snd q0),((0:Int),o5 (if q2<v11 then q2 else v11) q2 q4,()),Prod.snd (Prod.snd (Prod.snd q0)))) (Int.toNat aV) (Prod.fst (List.getD (List.set q1 (Int.toNat aV) (Prod.fst q0,Prod.fst (Prod.snd q0),((0:Int),o5 (if q2<v11 then q2 else v11) q2 q4,()),Prod.snd (Prod.snd (Prod.snd q0)))) (Int.toNat aV) q3),Prod.fst (Prod.snd (List.getD (List.set q1 (Int.toNat aV) (Prod.fst q0,Prod.fst (Prod.snd q0),((0:Int),o5 (if q2<v11 then q2 else v11) q2 q4,()),Prod.snd (Prod.snd (Prod.snd q0)))) (Int.toNat aV) q3)),Prod.fst (Prod.snd (Prod.snd (List.getD (List.set q1 (Int.toNat aV) (Prod.fst q0,Prod.fst (Prod.snd q0),((0:Int),o5 (if q2<v11 then q2 else v11) q2 q4,()),Prod.snd (Prod.snd (Prod.snd q0)))) (Int.toNat aV) q3))),((0:Int),[],()),Prod.snd (Prod.snd (Prod.snd (Prod.snd (List.getD (List.set q1 (Int.toNat aV) (Prod.fst q0,Prod.fst (Prod.snd q0),((0:Int),o5 (if q2<v11 then q2 else v11) q2 q4,()),Prod.snd (Prod.snd (Prod.snd q0)))) (Int.toNat aV) q3)))))) (Int.toNat aV) q3)))),((0:Int),[],()),Prod.snd (Prod.snd (Prod.snd (Prod.snd (Prod.snd (List.getD (List.set (List.set q1 (Int.toNat aV) (Prod.fst q0,Prod.fst (Prod.snd q0),((0:Int),o5 (if q2<v11 then q2 else v11) q2 q4,()),Prod.snd (Prod.snd (Prod.snd q0)))) (Int.toNat aV) (Prod.fst (List.getD (List.set q1 (Int.toNat aV) (Prod.fst q0,Prod.fst (Prod.snd q0),((0:Int),o5 (if q2<v11 then q2 else v11) q2 q4,()),Prod.snd (Prod.snd (Prod.snd q0)))) (Int.toNat aV) q3),Prod.fst (Prod.snd (List.getD (List.set q1 (Int.toNat aV) (Prod.fst q0,Prod.fst (Prod.snd q0),((0:Int),o5 (if q2<v11 then q2 else v11) q2 q4,()),Prod.snd (Prod.snd (Prod.snd q0)))) (Int.toNat aV) q3)),Prod.fst (Prod.snd (Prod.snd (List.getD (List.set q1 (Int.toNat aV) (Prod.fst q0,Prod.fst (Prod.snd q0),((0:Int),o5 (if q2<v11 then q2 else v11) q2 q4,()),Prod.snd (Prod.snd (Prod.snd q0)))) (Int.toNat aV) q3))),((0:Int),[],()),Prod.snd (Prod.snd (Prod.snd (Prod.snd (List.getD (List.set q1 (Int.toNat aV) (Prod.fst q0,Prod.fst (Prod.snd q0),((0:Int),o5 (if q2<v11 then q2 else v11) q2 q4,()),Prod.snd (Prod.snd (Prod.snd q0)))) (Int.toNat aV) q3)))))) (Int.toNat aV) q3)))))),ak,ah,()))])))))):=by kernel_rfl
theorem JL {α:Type} {l:List α} {a:Nat} (h:a<=l.length):o5 (a:Int) (l.length:Int) l=l.drop a:=by
  unfold o5;rw [List.take_of_length_le (by rw [List.length_drop]; omega)];congr 1
theorem Vv (a b:Nat):(if (a:Int)<(b:Int) then (a:Int) else (b:Int))=((min b a:Nat):Int):=by split<;>omega
attribute [local irreducible] l4 S5 G4 in
theorem TB:Od.Valid Tryz.prog 25:=by
  refine r9.r7 CP rfl rfl Tryz.func25 (c:=d9 Tryz.prog 25) rfl rfl CQ rfl ?_;rintro ⟨⟨⟨(v0:Int),(v1:Int),⟨⟩⟩,(al0:List M5),(od:List yY),(wy:List yY),⟨⟩⟩,⟨⟩⟩ ⟨he,(bg:zq (vS ((v0,v1,()),al0,od,wy,()))),(bG:¬ (S4 (vS ((v0,v1,()),al0,od,wy,()))).2.1≠0)⟩ -
  have he:al0=(al0.map rdP).map toM:=congrArg (λ m:a87=>m.2.1) he;obtain ⟨w,hw⟩:∃ w:f8,w=vS ((v0,v1,()),al0,od,wy,()):=⟨_,rfl⟩;rw [<- hw] at bg bG;have jW:w.1=(v0,v1,()):=by rw [hw]
  have jV:w.2.1=al0.map rdP:=by rw [hw]
  have gm:∀ (al:List M5) (i:Nat),al.length=w.2.1.length->((al.map rdP).getD i g9).1=(w.2.1.getD i g9).1->∀ r,l4 ((v0,v1,()),al.map rdP,r) i=l4 w i:=λ al i h1 h2 r=>by
    have:=b6S (v:=(v0,v1,())) (al':=al.map rdP) (al:=w.2.1) (r:=w.2.2) (r':=r) (p:=(i:Int)) (by rw [List.length_map]; exact h1) h2;rw [this,show ((v0,v1,()),w.2.1,w.2.2)=w by rw [hw]]
  have np:al0.length=w.2.1.length:=by rw [jV,List.length_map]
  have nz:wm w al0:=by
    have:=wm.start w;rw [jV,<- he] at this;exact this
  have eh:=Qi (w:=w) bg.Uv;refine j8 (n:=1000) CP CQ ?_;refine i8 (Zl v0 v1 al0 od wy) ?_;have eO:vo (G4 (vS ((v0,v1,()),al0,od,wy,())))=vo (G4 w):=by rw [hw]
  show Go.Ex.Reach xQ Tryz.f25 ((0:Int),()) (vo (G4 (vS ((v0,v1,()),al0,od,wy,()))),()) (.code (g8 (d9 Tryz.prog 25) 4).1::.inLoop (g8 (d9 Tryz.prog 25) 4).1::(g8 (d9 Tryz.prog 25) 4).2) (Lj (E3 w 0) (J5 w 0) (al0.length:Int) ((0:Nat):Int) v0 v1 al0 od wy);rw [eO,np];refine Reach.O8 CP CQ (λ i:Nat×List M5=>Lj (E3 w i.1) (J5 w i.1) (w.2.1.length:Int) (i.1:Int) v0 v1 i.2 od wy) (λ i=>i.1<=w.2.1.length/\wm w i.2)
    (λ i=>w.2.1.length - i.1) 1000 (λ _=>⟨y6 rfl,y6 rfl⟩) ?_ (0,al0) ⟨Nat.zero_le _,nz⟩
  rintro ⟨i,al⟩ ⟨k1,hi⟩ - ih;have k1:i<=w.2.1.length:=k1;have hi:wm w al:=hi;have ih:∀ al',i<w.2.1.length->wm w al'->_:=λ al' h h2=>ih (i+1,al') ⟨by show i+1<=w.2.1.length; omega,h2⟩ (by show w.2.1.length - (i+1)<w.2.1.length - i; omega);refine i8 (b8Q ..) ?_;have e1:((i:Nat):Int)+1=((i+1:Nat):Int):=by omega
  have ly:=bg.J4;have hA:=gm al i hi.len (by rw [PW,hi.rd i]);simp only [j7,Tree.holds,e1,sL];refine ⟨λ c=>⟨by show (al.map rdP).length<=6; rw [List.length_map]; have:=hi.len; omega,λ _=>⟨λ a=>⟨by have:=hi.len; omega,λ _=>⟨λ b=>⟨G9.2 ⟨by omega,by omega⟩,λ _=>?_⟩,λ b=>⟨G9.2 ⟨by omega,by omega⟩,λ _=>?_⟩⟩⟩,λ a=>⟨by omega,λ _=>⟨G9.2 ⟨by omega,by omega⟩,λ _=>?_⟩⟩⟩⟩,λ c=>⟨λ d=>?_,λ d=>?_⟩⟩
  . have a':l4 w i=true:=(hA _).symm.trans a;have hl:(al.getD i dM).2.1.2.1=(w.2.1.getD i g9).2.1:=congrArg (λ x:p7=>x.2.1) (hi.rd i);have b':(J5 w i).length<(w.2.1.getD i g9).2.1.length:=by rw [<- hl]; exact_mod_cast b
    have:=ih _ (by omega) (hi.vA (n:=0) a');rw [show E3 w (i+1)=E3 w i from if_pos a',show J5 w (i+1)=(al.getD i dM).2.1.2.1 by rw [J5,if_pos ⟨a',b'⟩,hl]] at this;exact this
  . have a':l4 w i=true:=(hA _).symm.trans a;have hl:(al.getD i dM).2.1.2.1=(w.2.1.getD i g9).2.1:=congrArg (λ x:p7=>x.2.1) (hi.rd i);have b':¬ (J5 w i).length<(w.2.1.getD i g9).2.1.length:=by rw [<- hl]; intro h; exact b (by exact_mod_cast h)
    have:=ih al (by omega) hi;rw [show E3 w (i+1)=E3 w i from if_pos a',show J5 w (i+1)=J5 w i by rw [J5,if_neg (λ h=>b' h.2)]] at this;exact this
  . have a':l4 w i=false:=(hA _).symm.trans a;have:=ih al (by omega) hi;rw [show E3 w (i+1)=bOr .u8 (E3 w i) (U2 .u8 w.1.2.1 (IntKind.wrap .u8 (1*2^min i IntKind.u8.bits))) from if_neg (by rw [a']; decide),show J5 w (i+1)=J5 w i by rw [J5,if_neg (λ h=>by rw [a'] at h; cases h.1)],jW] at this;exact this
  . obtain rfl:i=w.2.1.length:=by omega
    exact absurd (by rw [S4,jW]; exact d) bG
  obtain rfl:i=w.2.1.length:=by omega
  obtain ⟨L,hL⟩:∃ L,L=J5 w w.2.1.length:=⟨_,rfl⟩;have hg:∀ i:Nat,l4 w i=true->i<w.2.1.length->(w.2.1.getD i g9).2.1.length<=L.length:=λ i h h2=>by rw [hL]; exact EL h h2
  have rN:L.length<=5864062014805:=by rw [hL]; exact eh _
  rw [<- hL];obtain ⟨z0,z1,hz⟩:∃ z0 z1,(S5 (v0,v1,()) (E3 w w.2.1.length) 0).1=(z0,z1,()):=⟨_,_,rfl⟩;have eR:G4 w=((z0,z1,()),w.2.1.mapIdx (vf w L),[],wy,()):=by
    unfold G4;rw [<- hL,S4,jW,hz,hw]
  rw [eR];suffices go:Go.Ex.Reach xQ Tryz.f25 ((0:Int),()) (vo ((z0,z1,()),w.2.1.mapIdx (vf w L),[],wy,()),()) (.code (g8 (d9 Tryz.prog 25) 16).1::.inLoop (g8 (d9 Tryz.prog 25) 16).1::(g8 (d9 Tryz.prog 25) 16).2) (LA L (w.2.1.length:Int) ((0:Nat):Int) z0 z1 v0 v1 al od wy) by
    rw [<- hi.len] at go;have h0:(S5 (v0,v1,()) (E3 w w.2.1.length) 0).1.1=z0:=by rw [hz]
    have h1:(S5 (v0,v1,()) (E3 w w.2.1.length) 0).1.2.1=z1:=by rw [hz]
    subst h0; subst h1;rw [hi.len] at go ⊢;exact go
  refine Reach.O8 CP CQ (λ i:Nat×List M5=>LA L (w.2.1.length:Int) (i.1:Int) z0 z1 v0 v1 i.2 od wy) (λ i=>i.1<=w.2.1.length/\wG w L i.1 i.2)
    (λ i=>w.2.1.length - i.1) 1000 (λ _=>⟨y6 rfl,y6 rfl⟩) ?_ (0,al) ⟨Nat.zero_le _,hi.next L⟩
  clear ih;rintro ⟨k,al⟩ ⟨k1,hi⟩ - ih;have k1:k<=w.2.1.length:=k1;have hi:wG w L k al:=hi;have ih:∀ al',k<w.2.1.length->wG w L (k+1) al'->_:=λ al' h h2=>ih (k+1,al') ⟨by show k+1<=w.2.1.length; omega,h2⟩ (by show w.2.1.length - (k+1)<w.2.1.length - k; omega);refine i8 (b7J ..) ?_;have e2:((k:Nat):Int)+1=((k+1:Nat):Int):=by omega
  have hA:=gm al k hi.len (hi.act k);have hl:(al.getD k dM).2.1.2.1=(w.2.1.getD k g9).2.1:=congrArg (λ x:p7=>x.2.1) (hi.rd k (Nat.le_refl _));have gA:=hi.len;simp only [j7,Tree.holds,e2,sL];refine ⟨λ c=>⟨⟨by omega,by omega⟩,λ _=>⟨by show (al.map rdP).length<=6; rw [List.length_map]; omega,λ _=>⟨λ a=>⟨?_,λ _=>?_⟩,λ a=>⟨G9.2 ⟨by omega,by omega⟩,λ _=>?_⟩⟩⟩⟩,λ c=>?_⟩
  . rw [hl];have:=hg k ((hA _).symm.trans a) (by omega);omega
  . have a':l4 w k=true:=(hA _).symm.trans a;have hb:=hg k a' (by omega);rw [hl,JL hb];obtain ⟨D,hD⟩:∃ D,D=L.drop (w.2.1.getD k g9).2.1.length:=⟨_,rfl⟩;have uS:D.length<=5864062014805:=by rw [hD,List.length_drop]; omega
    rw [<- hD];suffices go:Go.Ex.Reach xQ Tryz.f25 ((0:Int),()) (vo ((z0,z1,()),w.2.1.mapIdx (vf w L),[],wy,()),()) (.code (g8 (d9 Tryz.prog 25) 22).1::.inLoop (g8 (d9 Tryz.prog 25) 22).1::(g8 (d9 Tryz.prog 25) 22).2) (LC L (k:Int) (k:Int) ((countP k (D.take 0):Nat):Int) (w.2.1.length:Int) (k:Int) D (D.length:Int) ((0:Nat):Int) z0 z1 v0 v1 al od wy) by exact go
    refine Reach.O8 CP CQ (λ j:Nat=>LC L (k:Int) (k:Int) ((countP k (D.take j):Nat):Int) (w.2.1.length:Int) (k:Int) D (D.length:Int) (j:Int) z0 z1 v0 v1 al od wy) (λ j=>j<=D.length)
      (λ j=>D.length - j) 1000 (λ _=>⟨y6 rfl,y6 rfl⟩) ?_ 0 (Nat.zero_le _)
    rintro j k2 - ih2;have k2:j<=D.length:=k2;refine i8 (b7I ..) ?_;have e3:((j:Nat):Int)+1=((j+1:Nat):Int):=by omega
    have hY:countP k (D.take j)<=j:=Nat.le_trans countP_le (by rw [List.length_take]; omega);have hG:∀ y:M5,(al.set k y).getD k (false,(1,[],[]),(0,[],()),(0,[],()),(0,[],()),())=y:=λ y=>by
      rw [List.getD_eq_getElem?_getD,List.getElem?_set_self (by omega)]; rfl
    have hS:∀ y z:M5,(al.set k y).set k z=al.set k z:=λ y z=>List.set_set ..;have nq:(al.getD k dM).2.2.1.2.1.length<=1048576:=by
      have:=bg.late k;rw [<- hi.rd k (Nat.le_refl _)] at this;exact this
    simp only [j7,Tree.holds,e3,hG,hS,Vv,sL];refine ⟨λ d=>⟨by omega,λ _=>⟨λ e=>⟨G9.2 ⟨by omega,by omega⟩,λ _=>⟨G9.2 ⟨by omega,by omega⟩,λ _=>?_⟩⟩,λ e=>⟨G9.2 ⟨by omega,by omega⟩,λ _=>?_⟩⟩⟩,λ d=>?_⟩
    . have:=ih2 (j+1) (by show j+1<=D.length; omega) (by show D.length - (j+1)<D.length - j; omega);rw [SK (show j<D.length by omega),if_pos e,Int.natCast_add] at this;exact this
    . have:=ih2 (j+1) (by show j+1<=D.length; omega) (by show D.length - (j+1)<D.length - j; omega);rw [SK (show j<D.length by omega),if_neg e,Nat.add_zero] at this;exact this
    . obtain rfl:j=D.length:=by omega
      have hr:=hi.rd k (Nat.le_refl _);simp only [dM] at nq hr;refine ⟨rN,λ _=>⟨⟨by omega,by omega,Int.le_refl _⟩,λ _=>⟨?_,λ _=>⟨⟨by omega,by omega⟩,λ _=>?_⟩⟩⟩⟩
      . rw [JL (Nat.min_le_right ..),List.length_drop]; omega
      . rw [JL (Nat.min_le_right ..),List.take_length];have:=ih _ (by omega) hi.step;rw [show vf w L k (w.2.1.getD k g9)=((w.2.1.getD k g9).1,L,(0,(w.2.1.getD k g9).2.2.1.2.1.drop (min (countP k D) (w.2.1.getD k g9).2.2.1.2.1.length),()),(0,[],()),(0,[],()),()) from (if_pos a').trans (by rw [hD])] at this;rw [<- hr] at this;exact this
  . have a':l4 w k=false:=(hA _).symm.trans a;have:=ih _ (by omega) hi.step;rw [show vf w L k (w.2.1.getD k g9)=((w.2.1.getD k g9).1,(w.2.1.getD k g9).2.1,(w.2.1.getD k g9).2.2.1,(w.2.1.getD k g9).2.2.2.1,(0,[],()),()) from if_neg (by rw [a']; decide)] at this;have hs:=hi.same k (Nat.le_refl _) a';simp only [dM] at hs;rw [hs];exact this
  . obtain rfl:k=w.2.1.length:=by omega
    have:=hi.fin;subst this;rfl
end Go.Proofs.YtijlnmgondibnaaGreatDoor
namespace Go.Proofs.YtijlnmgondibnaaGreatDoor
open Go.Ex
set_option maxRecDepth 100000
def yh (S:Nat->List y7) (O:List y7) (n:n9):Prop :=
  (n.1=1->(S n.2.1.toNat)[n.2.2.2.2.1.toNat]?=some n.2.2.2.2.2.2.1)/\(n.1=2->O[n.2.2.2.2.1.toNat]?=some n.2.2.2.2.2.2.1)
def zZ (S:Nat->List y7) (O:List y7) (V:Int) (s:y7):Prop:=(w9 s).2.1=0->(w9 s).1.2.2.2.1<=V/\((w9 s).1.2.2.2.1=V->yh S O (w9 s).1)
structure DD (said:Nat->List y7) (B:List E5) (S:Nat->List y7) (Q:List W6) (p:Nat) (x:p7) (m:Nat):Prop where
  le:m<=Q.length
  next:x.2.2.2.1.1=m
  wait:∀ q∈x.2.2.2.1.2.1,(Q0 Q)[q.1.toNat]?=some q.2.1
  log:x.2.1=B++(Q.take m).map xa
  from_:x.2.2.1=(((C8 p (Q.take m)).length:Int),(S p).drop (C8 p (Q.take m)).length,())
  ok:I9 x.2.2.1=0
structure Inv (said:Nat->List y7) (B:List E5) (S:Nat->List y7) (Q:List W6) (w:f8):Prop where
  J4:w.2.1.length<=6
  Y1:w.2.2.2.1.length<=60
  ord:w.2.2.1=Q0 Q
  inQ:∀ x∈Q,x.1<w.2.1.length
  yW:∀ p,C8 p Q <+: S p
  short:∀ p,(S p).length<=16777215
  msg:∀ s∈w.2.2.2.1,zZ S w.2.2.1 w.1.1 s
  rcv:∀ p:Nat,p<w.2.1.length->(w.2.1.getD p g9).2.2.2.2.1.1=(C8 p Q).length/\∀ q∈(w.2.1.getD p g9).2.2.2.2.1.2.1,(S p)[q.1.toNat]?=some q.2.1
  mem:∀ p:Nat,p<w.2.1.length->W5 w.1.2.1 p=true->(∃ m,DD said B S Q p (w.2.1.getD p g9) m)/\said p=ofP p B++S p
  out:∀ p:Nat,p<w.2.1.length->W5 w.1.2.1 p=false->S p=[]/\ofP p B <+: said p
  LX:∀ s∈B,0<=s.1/\s.1<(w.2.1.length:Int)
structure X5 (P:n9->Prop) (w w':f8):Prop where
  view:w'.1=w.1
  all:w'.2.1=w.2.1
  ord:w'.2.2.1=w.2.2.1
  len:w.2.2.2.1.length<=60->w'.2.2.2.1.length<=60
  Y1:∀ s∈w'.2.2.2.1,s∈w.2.2.2.1\/∃ n:n9,w9 s=(n,0,())/\n.2.2.2.1=w.1.1/\P n
theorem X5.refl {P:n9->Prop} (w:f8):X5 P w w:=⟨rfl,rfl,rfl,id,λ _ h=>.inl h⟩
theorem X5.trans {P:n9->Prop} {w w' w'':f8} (h:X5 P w w') (h':X5 P w' w''):X5 P w w'' :=
  ⟨h'.view.trans h.view,h'.all.trans h.all,h'.ord.trans h.ord,λ e=>h'.len (h.len e),λ s hs=>by
    rcases h'.Y1 s hs with h1|⟨n,h1,h2,h3⟩
    . exact h.Y1 s h1
    . exact .inr ⟨n,h1,by rw [h2,h.view],h3⟩⟩
theorem X5.one {P:n9->Prop} {w:f8} {k f t q:Int} {x:y7} (h:P (k,f,t,w.1.1,q,[0,0,0,0,0,0],x,())):X5 P w (M0 w k f t q x):=by
  by_cases c:(U3 (k,f,t,w.1.1,q,[0,0,0,0,0,0],x,())).2.1=0/\(w.2.2.2.1.length:Int)<60
  . rw [Cx c.1 c.2];refine ⟨rfl,rfl,rfl,λ _=>?_,λ s hs=>?_⟩
    . show (w.2.2.2.1++[_]).length<=60;rw [List.length_append];have:=c.2;simp only [List.length_singleton]; omega
    . rcases List.mem_append.1 hs with hs|hs
      . exact .inl hs
      . rw [List.mem_singleton] at hs;have hc:F0 (k,f,t,w.1.1,q,[0,0,0,0,0,0],x,())=0:=by
          by_cases hc:F0 (k,f,t,w.1.1,q,[0,0,0,0,0,0],x,())=0
          . exact hc
          . have:=c.1;rw [PS hc] at this;exact absurd this hc
        rw [EP hc] at hs;exact .inr ⟨_,by rw [hs]; exact Kl hc rfl,rfl,h⟩
  . rw [Cw c]; exact .refl w
theorem Inv.GX {said:Nat->List y7} {B:List E5} {S:Nat->List y7} {Q:List W6} {w w':f8} (h:Inv said B S Q w) (hs:X5 (yh S w.2.2.1) w w'):Inv said B S Q w':=by
  obtain ⟨h1,h2,h3,h4,h5,h6,h7,h8,h9,jo,jU⟩:=h;refine ⟨by rw [hs.all]; exact h1,hs.len h2,by rw [hs.ord]; exact h3,by rw [hs.all]; exact h4,h5,h6,?_,by rw [hs.all]; exact h8,by rw [hs.all,hs.view]; exact h9,by rw [hs.all,hs.view]; exact jo,by rw [hs.all]; exact jU⟩;intro s hm;rw [hs.view,hs.ord];rcases hs.Y1 s hm with h|⟨n,e1,e2,e3⟩
  . exact h7 s h
  . intro _;rw [e1];exact ⟨by show n.2.2.2.1<=w.1.1; omega,λ _=>e3⟩
theorem Inv.E8 {said:Nat->List y7} {B:List E5} {S:Nat->List y7} {Q:List W6} {w:f8} (h:Inv said B S Q w) {p:Nat} {x:p7}
    (hr:p<w.2.1.length->x.2.2.2.2.1.1=(C8 p Q).length/\∀ q∈x.2.2.2.2.1.2.1,(S p)[q.1.toNat]?=some q.2.1)
    (hm:p<w.2.1.length->W5 w.1.2.1 p=true->∃ m,DD said B S Q p x m):Inv said B S Q (w.1,w.2.1.set p x,w.2.2):=by
  obtain ⟨h1,h2,h3,h4,h5,h6,h7,h8,h9,jo,jU⟩:=h;have hl:(w.2.1.set p x).length=w.2.1.length:=List.length_set ..;refine ⟨by rw [hl]; exact h1,h2,h3,by rw [hl]; exact h4,h5,h6,h7,λ q hq=>?_,λ q hq hv=>?_,λ q hq hv=>?_,by show ∀ s∈B,0<=s.1/\s.1<((w.2.1.set p x).length:Int); rw [hl]; exact jU⟩
  . rw [hl] at hq;rw [L9]
    split
    . rename_i e; rw [<- e.1]; exact hr e.2
    . exact h8 q hq
  . rw [hl] at hq;rw [L9];refine ⟨?_,(h9 q hq hv).2⟩
    split
    . rename_i e; rw [<- e.1]; rw [<- e.1] at hv; exact hm e.2 hv
    . exact (h9 q hq hv).1
  . rw [hl] at hq;exact jo q hq hv
theorem yh.mono {S S':Nat->List y7} {O O':List y7} {n:n9} (h:yh S O n) (hS:∀ p,S p <+: S' p) (hO:O <+: O'):yh S' O' n :=
  ⟨λ e=>Au (hS _) (h.1 e),λ e=>Au hO (h.2 e)⟩
theorem zZ.mono {S S':Nat->List y7} {O O':List y7} {V:Int} {s:y7} (h:zZ S O V s) (hS:∀ p,S p <+: S' p) (hO:O <+: O'):zZ S' O' V s :=
  λ e=>⟨(h e).1,λ e2=>((h e).2 e2).mono hS hO⟩
def vw (f:Nat->List y7) (p:Nat) (x:List y7):Nat->List y7:=λ q=>if q=p then x else f q
theorem yM {f:Nat->List y7} {p:Nat} {x:List y7}:vw f p x p=x:=if_pos rfl
theorem yF {f:Nat->List y7} {p q:Nat} {x:List y7} (h:q≠p):vw f p x q=f q:=if_neg h
theorem Il {s:vK} {x:y7} (h:¬ (K3 s x).2.1≠0):(K3 s x).1=(s.1,s.2.1++[x],())/\I9 (s.1,s.2.1++[x],())=0/\s.1+s.2.1.length<16777215:=by
  unfold K3 at h ⊢;by_cases h1:I9 s≠0
  . rw [if_pos h1] at h; exact absurd h1 h
  rw [if_neg h1] at h ⊢;have aK:=xR (Decidable.not_not.1 h1);by_cases h2:F1 x=true
  . rw [if_pos h2] at h; exact absurd (by decide) h
  rw [if_neg h2] at h ⊢;by_cases h3:(s.2.1.length:Int)=16\/16777215<=s.1+s.2.1.length
  . rw [if_pos h3] at h; exact absurd (by decide) h
  rw [if_neg h3];have h4:¬ (s.2.1.length:Int)=16:=λ e=>h3 (.inl e);have h5:¬ 16777215<=s.1+s.2.1.length:=λ e=>h3 (.inr e);refine ⟨rfl,?_,by omega⟩;unfold I9;rw [if_neg (by rw [xM.2 aK.1]; decide),if_neg,if_neg]
  . rw [List.any_append,aK.2.2];simpa using h2
  . show ¬ (16:Int)<((s.2.1++[x]).length:Int);rw [List.length_append]; simp only [List.length_singleton];have:=aK.2.1;omega
theorem Inv.say {said:Nat->List y7} {B:List E5} {S:Nat->List y7} {Q:List W6} {w:f8} (h:Inv said B S Q w) {p:Nat} {t:y7} (hp:p<w.2.1.length) (hv:W5 w.1.2.1 p=true)
    (hl:¬ (K3 (I7 w p) t).2.1≠0):Inv (vw said p (said p++[t])) B (vw S p (S p++[t])) Q (yk w p t (K3 (I7 w p) t).1):=by
  obtain ⟨h1,h2,h3,h4,h5,h6,h7,h8,h9,jo,jU⟩:=h;obtain ⟨g1,g2,g3⟩:=Il hl;obtain ⟨⟨m,hm⟩,eM⟩:=h9 p hp hv;have hf:I7 w p=(((C8 p (Q.take m)).length:Int),(S p).drop (C8 p (Q.take m)).length,()):=hm.from_;have hle:(C8 p (Q.take m)).length<=(S p).length:=((yA (p:=p) (Q:=Q) (i:=m)).trans (h5 p)).length_le;rw [g1];rw [hf] at g2 g3 ⊢;simp only [List.length_drop] at g3;have nG:(S p).drop (C8 p (Q.take m)).length++[t]=(S p++[t]).drop (C8 p (Q.take m)).length:=(List.drop_append_of_le_length hle).symm;simp only [nG] at g2 ⊢;have hS:∀ q,S q <+: vw S p (S p++[t]) q:=λ q=>by
    by_cases e:q=p
    . subst e; rw [yM]; exact List.prefix_append ..
    . rw [yF e]; exact List.prefix_rfl
  have hlen:(setFrom w p (((C8 p (Q.take m)).length:Int),(S p++[t]).drop (C8 p (Q.take m)).length,())).2.1.length=w.2.1.length:=List.length_set ..;have cv:∀ q,(setFrom w p (((C8 p (Q.take m)).length:Int),(S p++[t]).drop (C8 p (Q.take m)).length,())).2.1.getD q g9=if p=q then ((w.2.1.getD p g9).1,(w.2.1.getD p g9).2.1,(((C8 p (Q.take m)).length:Int),(S p++[t]).drop (C8 p (Q.take m)).length,()),(w.2.1.getD p g9).2.2.2) else w.2.1.getD q g9:=λ q=>by
    show (w.2.1.set p _).getD q g9=_;rw [L9];by_cases e:p=q
    . rw [if_pos ⟨e,hp⟩,if_pos e]; rfl
    . rw [if_neg (λ h=>e h.1),if_neg e]
  have base:Inv (vw said p (said p++[t])) B (vw S p (S p++[t])) Q (setFrom w p (((C8 p (Q.take m)).length:Int),(S p++[t]).drop (C8 p (Q.take m)).length,())):=by
    refine ⟨by rw [hlen]; exact h1,h2,h3,by rw [hlen]; exact h4,λ q=>(h5 q).trans (hS q),λ q=>?_,λ s hs=>(h7 s hs).mono hS List.prefix_rfl,λ q hq=>?_,λ q hq hv=>?_,λ q hq hv=>?_,by rw [hlen]; exact jU⟩
    . by_cases e:q=p
      . subst e; rw [yM,List.length_append]; simp only [List.length_singleton]; omega
      . rw [yF e]; exact h6 q
    . rw [hlen] at hq;rw [cv];by_cases e:p=q
      . subst e;rw [if_pos rfl];exact ⟨(h8 p hq).1,λ x hx=>Au (hS p) ((h8 p hq).2 x hx)⟩
      . rw [if_neg e];exact ⟨(h8 q hq).1,λ x hx=>Au (hS q) ((h8 q hq).2 x hx)⟩
    . rw [hlen] at hq;rw [cv];by_cases e:p=q
      . subst e;rw [if_pos rfl,yM,yM];refine ⟨⟨m,hm.le,hm.next,hm.wait,hm.log,?_,g2⟩,by rw [eM,List.append_assoc]⟩;rw [yM]
      . rw [if_neg e,yF (Ne.symm e),yF (Ne.symm e)];obtain ⟨⟨m',gH⟩,lU⟩:=h9 q hq hv;refine ⟨⟨m',gH.le,gH.next,gH.wait,gH.log,?_,gH.ok⟩,lU⟩;rw [yF (Ne.symm e)];exact gH.from_
    . rw [hlen] at hq;have e:q≠p:=by
        rintro rfl;have fQ:W5 w.1.2.1 q=false:=hv;rename_i fg;rw [fg] at fQ; cases fQ
      rw [yF e,yF e];exact jo q hq hv
  refine base.GX (X5.one ⟨λ _=>?_,λ h=>by cases h⟩);show (vw S p (S p++[t]) ((p:Int)).toNat)[(((C8 p (Q.take m)).length:Int)+(((S p++[t]).drop (C8 p (Q.take m)).length).length:Int) - 1).toNat]?=some t;rw [show ((p:Int)).toNat=p from rfl,yM];rw [List.length_drop,List.length_append];simp only [List.length_singleton];rw [show (((C8 p (Q.take m)).length:Int)+(((S p).length+1 - (C8 p (Q.take m)).length:Nat):Int) - 1).toNat=(S p).length by omega];rw [List.getElem?_append_right (Nat.le_refl _),Nat.sub_self]; rfl
section
variable {said:Nat->List y7} {B:List E5} {S:Nat->List y7} {Q:List W6} {w:f8}
theorem Sy {b most:Int} {l:List y7}:∀ {k:Nat},k<=l.length->∀ x∈xJ b most l k,∃ i,i<l.length/\x=(b+i,l.getD i [],())
  | 0,_,x,h=>by cases h
  | k+1,hk,x,h=>by
    rw [xJ] at h;rcases List.mem_append.1 h with h|h
    . exact Sy (by omega) x h
    . split at h
      . rw [List.mem_singleton] at h; exact ⟨k,by omega,h⟩
      . cases h
theorem TQ {P:n9->Prop} {p:Int} {l:List E5} {w:f8} (h:∀ x∈l,∀ f v,P (1,p,f,v,x.1,[0,0,0,0,0,0],x.2.1,())):∀ {k},k<=l.length->X5 P w (N6 p l w k)
  | 0,_=>.refl w
  | k+1,hk=>by
    rw [N6];refine (TQ h (by omega)).trans (X5.one (h _ ?_ _ _));rw [List.getD_eq_getElem?_getD,List.getElem?_eq_getElem (by omega)]; exact List.getElem_mem _
theorem Inv.again (h:Inv said B S Q w) {p:Nat} (hp:p<w.2.1.length) (hv:W5 w.1.2.1 p=true) :
    Inv said B S Q (Dg (N6 p (yl w p) w (yl w p).length) p):=by
  refine h.GX ((TQ (λ x hx f v=>?_) (Nat.le_refl _)).trans (X5.one ⟨λ e=>(by cases e),λ e=>(by cases e)⟩));refine ⟨λ _=>?_,λ e=>by cases e⟩;obtain ⟨⟨m,hm⟩,-⟩:=h.mem p hp hv;have hf:I7 w p=(((C8 p (Q.take m)).length:Int),(S p).drop (C8 p (Q.take m)).length,()):=hm.from_;have qi:I9 (I7 w p)=0:=hm.ok;unfold yl wO at hx;rw [if_neg (by rw [qi]; simp),hf] at hx;obtain ⟨i,hi,rfl⟩:=Sy (Nat.le_refl _) x hx;show (S ((p:Int)).toNat)[(((C8 p (Q.take m)).length:Int)+(i:Int)).toNat]?=some (((S p).drop (C8 p (Q.take m)).length).getD i []);rw [show ((p:Int)).toNat=p from rfl,show (((C8 p (Q.take m)).length:Int)+(i:Int)).toNat=(C8 p (Q.take m)).length+i by omega];rw [<- List.getElem?_drop,List.getD_eq_getElem?_getD,List.getElem?_eq_getElem hi]; rfl
theorem Inv.UR (h:Inv said B S Q w) (p:Nat):Inv said B S Q (w.1,w.2.1.set p (true,(w.2.1.getD p g9).2),w.2.2):=by
  refine h.E8 (λ hp=>h.rcv p hp) (λ hp hv=>?_);obtain ⟨⟨m,hm⟩,-⟩:=h.mem p hp hv;exact ⟨m,hm.le,hm.next,hm.wait,hm.log,hm.from_,hm.ok⟩
theorem Inv.ways (h:Inv said B S Q w) {l:List y7} (hl:l.length<=60) (hm:∀ s∈l,s∈w.2.2.2.1):Inv said B S Q (w.1,w.2.1,w.2.2.1,l,()):=by
  obtain ⟨h1,h2,h3,h4,h5,h6,h7,h8,h9,jo,jU⟩:=h;exact ⟨h1,hl,h3,h4,h5,h6,λ s hs=>h7 s (hm s hs),h8,h9,jo,jU⟩
theorem Inv.drop (h:Inv said B S Q w) (k:Int):Inv said B S Q (xB w k):=by
  refine h.ways ?_ (λ s hs=>?_)
  . have:=h.Y1;rw [List.length_append,List.length_take,List.length_drop];by_cases c:0<=k
    . omega
    . have e1:k.toNat=0:=by omega
      have e2:(k+1).toNat=0:=by omega
      rw [e1,e2]; omega
  . rcases List.mem_append.1 hs with hs|hs
    . exact List.mem_of_mem_take hs
    . exact List.mem_of_mem_drop hs
theorem Inv.copy (h:Inv said B S Q w) {k:Nat} (hk:k<w.2.2.2.1.length) (hn:¬ (w.2.2.2.1.length:Int)=60):Inv said B S Q (Bb w k):=by
  refine h.ways ?_ (λ s hs=>?_)
  . have:=h.Y1;rw [List.length_append]; simp only [List.length_singleton]; omega
  . rcases List.mem_append.1 hs with hs|hs
    . exact hs
    . rw [List.mem_singleton] at hs;rw [hs,List.getD_eq_getElem?_getD,List.getElem?_eq_getElem hk]; exact List.getElem_mem _
theorem Inv.asks (h:Inv said B S Q w) {n:n9} (h0:0<=n.2.2.2.2.1):∀ j,X5 (yh S w.2.2.1) w (F2 w n j)
  | 0=>.refl w
  | j+1=>by
    rw [F2]
    split
    . rename_i bj;refine (Inv.asks h h0 j).trans (X5.one ⟨λ e=>(by cases e),λ _=>?_⟩);rw [(AG j).2.2] at bj;show w.2.2.1[(n.2.2.2.2.1+j).toNat]?=some ((F2 w n j).2.2.1.getD (n.2.2.2.2.1+j).toNat []);rw [(AG j).2.2,List.getD_eq_getElem?_getD,List.getElem?_eq_getElem (by omega)]; rfl
    . exact Inv.asks h h0 j
structure Told (texts:List y7) (w w':f8):Prop where
  view:w'.1=w.1
  all:w'.2.1=w.2.1
  ord:w'.2.2.1=w.2.2.1++texts
  len:w.2.2.2.1.length<=60->w'.2.2.2.1.length<=60
  Y1:∀ s∈w'.2.2.2.1,s∈w.2.2.2.1\/∃ n:n9,w9 s=(n,0,())/\n.2.2.2.1=w.1.1/\n.1=2/\(w.2.2.1++texts)[n.2.2.2.2.1.toNat]?=some n.2.2.2.2.2.2.1
theorem Tk {x:y7} {w:f8} {P:n9->Prop} (h:∀ f t,P (2,f,t,w.1.1,(w.2.2.1.length:Int) - 1,[0,0,0,0,0,0],x,())):∀ p,X5 P w (F4 x w p)
  | 0=>.refl w
  | p+1=>by
    rw [F4];have ih:=Tk h p
    split
    . refine ih.trans (X5.one ?_);rw [ih.view,ih.ord];exact h _ _
    . exact ih
theorem told {f first:Int} {l:List y7} {w:f8}:∀ {i},i<=l.length->Told ((l.take i).mapIdx (λ j t=>G3 f (first+j) t)) w (I4 f first l w i)
  | 0,_=>⟨rfl,rfl,by simp [I4],id,λ s h=>.inl h⟩
  | i+1,hi=>by
    have ih:=told (f:=f) (first:=first) (w:=w) (show i<=l.length by omega);rw [I4];obtain ⟨u,hu⟩:∃ u,u=I4 f first l w i:=⟨_,rfl⟩
    obtain ⟨x,hx⟩:∃ x,x=G3 f (first+i) (l.getD i []):=⟨_,rfl⟩;rw [<- hu] at ih ⊢;rw [<- hx];have mz:(l.take (i+1)).mapIdx (λ j t=>G3 f (first+j) t)=(l.take i).mapIdx (λ j t=>G3 f (first+j) t)++[x]:=by
      rw [Kz (show i<l.length by omega) [],List.mapIdx_append,hx];simp only [List.length_take];rw [show min i l.length=i by omega];simp
    rw [mz];have hp:(xd u x).2.2.1=w.2.2.1++((l.take i).mapIdx (λ j t=>G3 f (first+j) t)++[x]):=by
      show u.2.2.1++[x]=_;rw [ih.ord,List.append_assoc]
    have hc:=Tk (x:=x) (w:=xd u x) (P:=λ n=>n.1=2/\(xd u x).2.2.1[n.2.2.2.2.1.toNat]?=some n.2.2.2.2.2.2.1) (λ f t=>⟨rfl,by
      show (u.2.2.1++[x])[(((u.2.2.1++[x]).length:Int) - 1).toNat]?=some x;rw [List.length_append];simp only [List.length_singleton];rw [show (((u.2.2.1.length+1:Nat):Int) - 1).toNat=u.2.2.1.length by omega];rw [List.getElem?_append_right (Nat.le_refl _),Nat.sub_self]; rfl⟩) u.2.1.length
    refine ⟨hc.view.trans ih.view,hc.all.trans ih.all,hc.ord.trans hp,λ e=>hc.len (ih.len e),λ s hs=>?_⟩;rcases hc.Y1 s hs with hs|⟨n,e1,e2,e3,e4⟩
    . rcases ih.Y1 s hs with hs|⟨n,e1,e2,e3,e4⟩
      . exact .inl hs
      . refine .inr ⟨n,e1,e2,e3,?_⟩;rw [<- List.append_assoc];exact Au (List.prefix_append ..) e4
    . refine .inr ⟨n,e1,?_,e3,?_⟩
      . rw [e2];show u.1.1=w.1.1;rw [ih.view]
      . rw [<- hp]; exact e4
structure c82 (S:Nat->List y7) (w:f8) (n:n9):Prop where
  msg:yh S w.2.2.1 n
  seq:0<=n.2.2.2.2.1
theorem Tv {P:List W6} {p:Nat}:∀ {l:List y7} {c:Nat},(C8 p P).length=c->N8 P (l.map λ t=>(p,t))=l.mapIdx (λ j t=>G3 p ((c:Int)+j) t)
  | [],_,_=>rfl
  | t::l,c,h=>by
    rw [List.map_cons,N8,List.mapIdx_cons,Tv (c:=c+1) (by rw [yH,List.length_append,h]; simp [C8])];rw [h];have e:(λ(j:Nat) (t:y7)=>G3 (p:Int) (((c+1:Nat):Int)+j) t)=λ j t=>G3 p ((c:Int)+((j+1:Nat):Int)) t:=by
      funext j t
      rw [show ((c+1:Nat):Int)+(j:Int)=(c:Int)+((j+1:Nat):Int) by omega]
    refine congr (congrArg List.cons ?_) (congrArg (λ f=>List.mapIdx f l) e);show G3 p c t=G3 p ((c:Int)+((0:Nat):Int)) t;rw [show (c:Int)+((0:Nat):Int)=c by omega]
theorem Inv.order (h:Inv said B S Q w) {n:n9} (hk:¬ known w n.2.1≠0) (hm:(S n.2.1.toNat)[n.2.2.2.2.1.toNat]?=some n.2.2.2.2.2.2.1) :
    ∃ Q',Inv said B S Q' (N7 w n):=by
  by_cases he:(U4 w n).2.2.1≠0
  . refine ⟨Q,?_⟩;rw [N7,if_pos he]; exact h
  rw [N7,if_neg he];obtain ⟨v,al,rr⟩:=w;have lh:=BX hk;obtain ⟨p,hp⟩:∃ p:Nat,n.2.1=p:=⟨n.2.1.toNat,by omega⟩;have bZ:p<al.length:=by omega
  rw [hp] at hm ⊢;have lS:U4 (v,al,rr) n=E2 (al.getD p g9).2.2.2.2.1 (n.2.2.2.2.1,n.2.2.2.2.2.2.1,()):=by rw [U4,hp]; rfl
  rw [lS] at he ⊢;obtain ⟨lW,mH⟩:=h.rcv p bZ;obtain ⟨r,hr⟩:∃ r,r=E2 (al.getD p g9).2.2.2.2.1 (n.2.2.2.2.1,n.2.2.2.2.2.2.1,()):=⟨_,rfl⟩;have lB:=Decidable.not_not.1 he;obtain ⟨a1,a2,a3,a4,a5,a6⟩:=zv lB;have fa:=Rs (F:=λ i=>(S p)[i]?) lB mH hm;rw [<- hr] at lB a1 a2 a3 a5 a6 fa ⊢;have pr:((al.getD p g9).2.2.2.2.1.1).toNat=(C8 p Q).length:=by
    have:(al.getD p g9).2.2.2.2.1.1=(C8 p Q).length:=lW;omega
  have mI:(al.getD p g9).2.2.2.2.1.1=((C8 p Q).length:Int):=lW;have hl:=Yk (X:=S p) (l:=r.2.1) (r:=(C8 p Q).length) (λ i hi=>by rw [<- pr]; exact fa i hi);have hT:=told (f:=(p:Int)) (first:=(C8 p Q).length) (l:=r.2.1) (w:=Q5 (v,al,rr) p (V3 (C5 (v,al,rr) p) r.1)) (Nat.le_refl _);have lv:(C5 (v,al,rr) (p:Int)).2.2.2.2.1.1=((C8 p Q).length:Int):=lW;rw [lv];rw [List.take_length] at hT;have qm:r.2.1.mapIdx (λ j t=>G3 (p:Int) (((C8 p Q).length:Int)+j) t)=N8 Q (r.2.1.map λ t=>(p,t)):=(Tv rfl).symm;rw [qm] at hT;obtain ⟨u,hu⟩:∃ u,u=I4 (p:Int) ((C8 p Q).length:Int) r.2.1 (Q5 (v,al,rr) p (V3 (C5 (v,al,rr) p) r.1)) r.2.1.length:=⟨_,rfl⟩;rw [<- hu] at hT ⊢;have hQ:∀ q,C8 q (Q++r.2.1.map λ t=>(p,t))=C8 q Q++if p=q then r.2.1 else []:=λ q=>by rw [yH,Wu]
  have bH:u.2.1=al.set p (V3 (al.getD p g9) r.1):=hT.all;have hlen:u.2.1.length=al.length:=by rw [bH,List.length_set]
  have iE:u.1=v:=hT.view;have pD:u.2.2.1=Q0 (Q++r.2.1.map λ t=>(p,t)):=by
    rw [hT.ord,RD];congr 1;exact h.ord
  have mL:rr.1 <+: u.2.2.1:=⟨_,hT.ord.symm⟩;have cv:∀ q,u.2.1.getD q g9=if p=q then V3 (al.getD p g9) r.1 else al.getD q g9:=λ q=>by
    rw [bH,L9];by_cases e:p=q
    . rw [if_pos ⟨e,bZ⟩,if_pos e]
    . rw [if_neg (λ h=>e h.1),if_neg e]
  refine ⟨Q++r.2.1.map λ t=>(p,t),by rw [hlen]; exact h.J4,hT.len h.Y1,pD,λ x hx=>?_,λ q=>?_,h.short,λ s hs=>?_,λ q hq=>?_,λ q hq hv=>?_,λ q hq hv=>?_,by rw [hlen]; exact h.LX⟩
  . rw [hlen];rcases List.mem_append.1 hx with hx|hx
    . exact h.inQ x hx
    . obtain ⟨t,-,rfl⟩:=List.mem_map.1 hx;exact bZ
  . rw [hQ];by_cases e:p=q
    . subst e;rw [if_pos rfl];have bg:C8 p Q=(S p).take (C8 p Q).length:=List.prefix_iff_eq_take.1 (h.yW p);have:C8 p Q++r.2.1=(S p).take ((C8 p Q).length+r.2.1.length):=by
        rw [List.take_add,<- hl,<- bg]
      rw [this];exact List.take_prefix ..
    . rw [if_neg e,List.append_nil]; exact h.yW q
  . rw [iE];rcases hT.Y1 s hs with hs|⟨m,e1,e2,e3,e4⟩
    . exact (h.msg s hs).mono (λ _=>List.prefix_rfl) mL
    . intro _;rw [e1];refine ⟨Int.le_of_eq e2,λ _=>⟨λ e=>?_,λ _=>?_⟩⟩
      . have e3:m.1=2:=e3;have e:m.1=1:=e;omega
      . rw [hT.ord]; exact e4
  . rw [hlen] at hq;rw [cv,hQ];by_cases e:p=q
    . subst e;rw [if_pos rfl,if_pos rfl];refine ⟨?_,λ x hx=>?_⟩
      . show r.1.1=_;rw [a5,mI,List.length_append]; omega
      . rcases a2 x hx with rfl|hx
        . exact hm
        . exact mH x hx
    . rw [if_neg e,if_neg e,List.append_nil]; exact h.rcv q hq
  . rw [hlen] at hq;rw [iE] at hv;obtain ⟨⟨m,hm⟩,hs⟩:=h.mem q hq hv;refine ⟨⟨m,?_⟩,hs⟩;have bq:DD said B S (Q++r.2.1.map λ t=>(p,t)) q (al.getD q g9) m:=by
      have lS:(Q++r.2.1.map λ t=>(p,t)).take m=Q.take m:=List.take_append_of_le_length hm.le;refine ⟨by rw [List.length_append]; have:=hm.le; omega,hm.next,λ x hx=>?_,by rw [lS]; exact hm.log,by rw [lS]; exact hm.from_,hm.ok⟩;rw [RD];exact Au (List.prefix_append ..) (hm.wait x hx)
    rw [cv];by_cases e:p=q
    . subst e;rw [if_pos rfl];exact ⟨bq.le,bq.next,bq.wait,bq.log,bq.from_,bq.ok⟩
    . rw [if_neg e]; exact bq
  . rw [hlen] at hq;rw [iE] at hv;exact h.out q hq hv
end
end Go.Proofs.YtijlnmgondibnaaGreatDoor
