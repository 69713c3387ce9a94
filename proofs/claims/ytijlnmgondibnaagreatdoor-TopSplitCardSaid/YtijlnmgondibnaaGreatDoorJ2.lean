import Derived.Test.YtijlnmgondibnaaGreatDoorJ1
import Derived.Test.YtijlnmgondibnaaGreatDoorProg
import Derived.Lib.Atoi
import Derived.Lib.ItoaMem
import Derived.Lib.IndexMore
import Derived.Shelf.Strconv.Itoa3
import Derived.Lib.ItoaLen
import Derived.Shelf.Strings.Split
import Derived.Lib.SlTrimSet
import Derived.Lib.Strings
import Derived.WalkKit
import Derived.Lib.Walk
import Derived.Shelf.RegionOpenPlain
import Derived.Shelf.Strings.Prefix
import Derived.Shelf.Strings.SlTrimAscii
import Derived.Shelf.Strconv.Atoi
import Derived.Lib.SmallJoins
import Derived.Shelf.Strings.Cut
set_option linter.unusedVariables false
set_option linter.unusedSimpArgs false
set_option linter.unusedSectionVars false
namespace Go.Proofs.YtijlnmgondibnaaGreatDoor
open Go.Ex
set_option maxRecDepth 100000
attribute [local irreducible] Go.Ex.exec
theorem c69:Ty.wb u5=24:=rfl
def b4d:p7:={ ps:=[.v (.d0 false u5)],rs:=[.d0 true u5],pre:=fun x=>List.length (α:=B9) x.1≤5864062014805,fn:=fun x=>x,out:=fun _=>() }
noncomputable def c37:Env:={ P:=Tryz.prog,tt:=tt,C0:=[],res:=[Go.ResultVar.tmp 2],rs:=[Ty.d0 true u5],ps:=[PK.v N5],y6:=[],nt:=8 }
theorem b7I:u7 c37:=x6 p9 trivial
theorem b7z:B0 c37 Tryz.f31:=⟨rfl,rfl⟩
theorem c60 (x0:List (Int×List UInt8×Unit)):exec c37 1000 [.code (d9 Tryz.prog 31)] (s6 b4d.ps ((x0,()))) =
  .both (x0=[]) (.ret (([],()))) (.f6 ((0:Nat)+List.length x0≤140737488355328∧((0:Nat)+List.length x0)*Ty.wb u5≤140737488355328) (.ret (([]++x0,())))):=by kernel_rfl
theorem a5r:b4d.Valid Tryz.prog 31:=by
  refine p7.o6 b7I rfl rfl Tryz.func31 (c:=d9 Tryz.prog 31) rfl rfl b7z rfl ?_
  rintro ⟨(l:List (B9)),⟨⟩⟩ hp -
  have hp:l.length≤5864062014805:=hp
  refine j5 (n:=1000) b7I b7z ?_
  refine g9 (c60 l) ?_
  simp only [j8,Tree.holds,true_and,true_implies,decide_eq_true_eq,decide_eq_false_iff_not,Bool.not_eq_true',Bool.not_eq_false',Int.toNat_natCast,j9,List.length_set,List.length_cons,List.length_nil,c69]
  refine ⟨fun h=>?_,by omega,fun _=>rfl⟩
  show (([],()):List (B9)×Unit)=(l,())
  rw [show l=[] from h]
theorem c67:Ty.wb .str=16:=rfl
def c3k:p7:={ ps:=[.v (.d0 false .str)],rs:=[.d0 true .str],pre:=fun x=>List.length (α:=List UInt8) x.1≤1048576,fn:=fun x=>x,out:=fun _=>() }
noncomputable def c3J:Env:={ P:=Tryz.prog,tt:=tt,C0:=[],res:=[Go.ResultVar.tmp 2],rs:=[Ty.d0 true Ty.str],ps:=[PK.v (Ty.d0 false Ty.str)],y6:=[],nt:=8 }
theorem b7B:u7 c3J:=x6 p9 trivial
theorem b7r:B0 c3J Tryz.f32:=⟨rfl,rfl⟩
theorem c6T (x0:List (List UInt8)):exec c3J 1000 [.code (d9 Tryz.prog 32)] (s6 c3k.ps ((x0,()))) =
  .both (x0=[]) (.ret (([],()))) (.f6 ((0:Nat)+List.length x0≤140737488355328∧((0:Nat)+List.length x0)*Ty.wb Ty.str≤140737488355328) (.ret (([]++x0,())))):=by kernel_rfl
theorem b8Z:c3k.Valid Tryz.prog 32:=by
  refine p7.o6 b7B rfl rfl Tryz.func32 (c:=d9 Tryz.prog 32) rfl rfl b7r rfl ?_
  rintro ⟨(l:List (List UInt8)),⟨⟩⟩ hp -
  have hp:l.length≤1048576:=hp
  refine j5 (n:=1000) b7B b7r ?_
  refine g9 (c6T l) ?_
  simp only [j8,Tree.holds,true_and,true_implies,decide_eq_true_eq,decide_eq_false_iff_not,Bool.not_eq_true',Bool.not_eq_false',Int.toNat_natCast,j9,List.length_set,List.length_cons,List.length_nil,c67]
  refine ⟨fun h=>?_,by omega,fun _=>rfl⟩
  show (([],()):List (List UInt8)×Unit)=(l,())
  rw [show l=[] from h]
abbrev J2:=Bool×(Nat×(List B9×List B9))×FrD×ToD×ToD×Unit
abbrev a7q:=a0T×List J2×List (List UInt8)×List (List UInt8)×Unit
def b9s:p7:={ ps:=[.v (.d0 false .str)],rs:=[.d0 false .str],new:=true,pre:=c3k.pre,fn:=fun x=>x,out:=fun _=>() }
theorem a7T:b9s.Valid Tryz.prog 32:=b8Z.share (rs':=[.d0 false .str]) rfl rfl rfl
def b3L (w:f8) (p:Int) (g:Int):Int:=if r8 w p=true then g else bOr .u8 g (R6 .u8 w.1.2.1 (IntKind.wrap .u8 (1*2^min p.toNat IntKind.u8.bits)))
def D8 (w:f8):Nat→Int
  | 0=>0
  | k+1=>b3L w k (D8 w k)
def R9 (w:f8):a0T×Int×Unit:=N8 w.1 (D8 w w.2.1.length) 0
def b4m:p7:={ ps:=[.rd J0],rs:=[e8],pre:=fun x=>List.length (α:=o8) (x.1:f8).2.1≤6∧(R9 x.1).2.1≠0,fn:=fun x=>((R9 x.1).2.1,()),out:=fun _=>() }
noncomputable def a3B:Env:={ P:=Tryz.prog,tt:=ttW,C0:=[(47,a8x),(53,a6C),(31,b4d),(32,b9s)],res:=[Go.ResultVar.tmp 2],rs:=[Ty.int IntKind.i64],ps:=[PK.rd J0],y6:=[(4,[(0,none),(3,none),(4,none),(18,none),(19,none)]),(16,[(0,none),(4,none),(7,none),(67,none),(68,none)]),(22,[(0,none),(4,none),(7,none),(9,none),(10,none),(11,none),(67,none),(68,none),(86,none),(87,none),(88,none)]),(998014,[(4,some N5)])],nt:=139 }
theorem a4k:u7 a3B:=x6 c0z ⟨a1I,a6B,a5r,a7T,trivial⟩
theorem a4e:B0 a3B Tryz.f25:=⟨rfl,rfl⟩
theorem c0f (x0_1_1:Int) (x0_1_2_1:Int) (x0_2_1:List o8) (x0_2_2_1:List (List UInt8)) (x0_2_2_2_1:List (List UInt8)):exec a3B 1000 [.code (d9 Tryz.prog 25)] (s6 b4m.ps ((((x0_1_1,x0_1_2_1,()),x0_2_1,x0_2_2_1,x0_2_2_2_1,()),()))) =
  .ctL (f9 (d9 Tryz.prog 25) 4) (St.mk [(0,AV.L9 J0 ((x0_1_1,x0_1_2_1,()),x0_2_1,x0_2_2_1,x0_2_2_2_1,())),(3,AV.val U8 (0:Int)),(4,AV.val N5 []),(18,AV.val e8 (↑(List.length x0_2_1):Int)),(19,AV.val e8 (0:Int))] []):=by kernel_rfl
def a4j (v0_1_1:Int) (v0_1_2_1:Int) (v0_2_1:List o8) (v0_2_2_1:List (List UInt8)) (v0_2_2_2_1:List (List UInt8)) (v3:Int) (v4:List (Int×List UInt8×Unit)) (v18:Int) (v19:Int):St:=St.mk [(0,AV.L9 J0 ((v0_1_1,v0_1_2_1,()),v0_2_1,v0_2_2_1,v0_2_2_2_1,())),(3,AV.val U8 v3),(4,AV.val N5 v4),(18,AV.val e8 v18),(19,AV.val e8 v19)] []
theorem b6C (v0_1_1:Int) (v0_1_2_1:Int) (v0_2_1:List o8) (v0_2_2_1:List (List UInt8)) (v0_2_2_2_1:List (List UInt8)) (v3:Int) (v4:List (Int×List UInt8×Unit)) (v18:Int) (v19:Int):exec a3B 1000 (.code (f9 (d9 Tryz.prog 25) 4).1::.inLoop (f9 (d9 Tryz.prog 25) 4).1::(f9 (d9 Tryz.prog 25) 4).2) (a4j v0_1_1 v0_1_2_1 v0_2_1 v0_2_2_1 v0_2_2_2_1 v3 v4 v18 v19) =
  cond (decide (v19<v18)) (.f6 (List.length v0_2_1≤6) (cond (r8 ((v0_1_1,v0_1_2_1,()),v0_2_1,v0_2_2_1,v0_2_2_2_1,()) v19) (.f6 ((0:Int)≤v19∧v19<(↑(List.length v0_2_1):Int)) (cond (decide ((↑(List.length v4):Int)<(↑(List.length (Prod.fst (Prod.snd (List.getD v0_2_1 (Int.toNat v19) (false,[],((0:Int),[],()),((0:Int),[],()),((0:Int),[],()),()))))):Int))) (.f6 (q9 IntKind.i64 (v19+(1:Int))) (.ctL (f9 (d9 Tryz.prog 25) 4) (St.mk [(0,AV.L9 J0 ((v0_1_1,v0_1_2_1,()),v0_2_1,v0_2_2_1,v0_2_2_2_1,())),(3,AV.val U8 v3),(4,AV.val N5 (Prod.fst (Prod.snd (List.getD v0_2_1 (Int.toNat v19) (false,[],((0:Int),[],()),((0:Int),[],()),((0:Int),[],()),()))))),(18,AV.val e8 v18),(19,AV.val e8 (v19+(1:Int)))] []))) (.f6 (q9 IntKind.i64 (v19+(1:Int))) (.ctL (f9 (d9 Tryz.prog 25) 4) (St.mk [(0,AV.L9 J0 ((v0_1_1,v0_1_2_1,()),v0_2_1,v0_2_2_1,v0_2_2_2_1,())),(3,AV.val U8 v3),(4,AV.val N5 v4),(18,AV.val e8 v18),(19,AV.val e8 (v19+(1:Int)))] []))))) (.f6 ((0:Int)≤v19) (.f6 (q9 IntKind.i64 (v19+(1:Int))) (.ctL (f9 (d9 Tryz.prog 25) 4) (St.mk [(0,AV.L9 J0 ((v0_1_1,v0_1_2_1,()),v0_2_1,v0_2_2_1,v0_2_2_2_1,())),(3,AV.val U8 (bOr IntKind.u8 v3 (R6 IntKind.u8 v0_1_2_1 (IntKind.wrap IntKind.u8 ((1:Int)*(2:Int)^min (Int.toNat v19) (IntKind.bits IntKind.u8)))))),(4,AV.val N5 v4),(18,AV.val e8 v18),(19,AV.val e8 (v19+(1:Int)))] [])))))) (.f6 (True) (cond (decide (Prod.fst (Prod.snd (N8 (v0_1_1,v0_1_2_1,()) v3 (0:Int)))≠(0:Int))) (.ret ((Prod.fst (Prod.snd (N8 (v0_1_1,v0_1_2_1,()) v3 (0:Int))),()))) (.ctL (f9 (d9 Tryz.prog 25) 16) (St.mk [(0,AV.L9 J0 ((v0_1_1,v0_1_2_1,()),v0_2_1,v0_2_2_1,v0_2_2_2_1,())),(4,AV.val N5 v4),(7,AV.ptr 7 []),(67,AV.val e8 (↑(List.length v0_2_1):Int)),(68,AV.val e8 (0:Int))] [(7,g8.var View (Prod.fst (N8 (v0_1_1,v0_1_2_1,()) v3 (0:Int))))])))):=by kernel_rfl
theorem b0L:b4m.Valid Tryz.prog 25:=by
  refine p7.o6 a4k rfl rfl Tryz.func25 (c:=d9 Tryz.prog 25) rfl rfl a4e rfl ?_
  rintro ⟨⟨⟨(v0:Int),(v1:Int),⟨⟩⟩,(al:List o8),(od:List (List UInt8)),(wy:List (List UInt8)),⟨⟩⟩,⟨⟩⟩ ⟨(hp:al.length≤6),(hne:(R9 ((v0,v1,()),al,od,wy,())).2.1≠0)⟩ -
  refine j5 (n:=1000) a4k a4e ?_
  refine g9 (c0f v0 v1 al od wy) ?_
  show Go.Ex.Reach a3B Tryz.f25 ((R9 ((v0,v1,()),al,od,wy,())).2.1,()) () (.code (f9 (d9 Tryz.prog 25) 4).1::.inLoop (f9 (d9 Tryz.prog 25) 4).1::(f9 (d9 Tryz.prog 25) 4).2) (a4j v0 v1 al od wy (D8 ((v0,v1,()),al,od,wy,()) 0) [] (al.length:Int) ((0:Nat):Int))
  refine Reach.N3 a4k a4e (fun i:Nat×List B9=>a4j v0 v1 al od wy (D8 ((v0,v1,()),al,od,wy,()) i.1) i.2 (al.length:Int) (i.1:Int)) (fun i=>i.1≤al.length)
    (fun i=>al.length - i.1) 1000 (fun _=>⟨u3 rfl,u3 rfl⟩) ?_ (0,[]) (Nat.zero_le _)
  rintro ⟨i,l⟩ k1 - ih
  have k1:i≤al.length:=k1
  have ih:∀ l',i<al.length→_:=fun l' h=>ih (i+1,l') (by show i+1≤al.length; omega) (by show al.length - (i+1)<al.length - i; omega)
  refine g9 (b6C ..) ?_
  have e1:((i:Nat):Int)+1=((i+1:Nat):Int):=by omega
  simp only [j8,Tree.holds,true_and,true_implies,decide_eq_true_eq,decide_eq_false_iff_not,Bool.not_eq_true',Bool.not_eq_false',Int.toNat_natCast,j9,List.length_set,List.length_cons,List.length_nil,e1]
  refine ⟨fun c=>⟨hp,fun _=>⟨fun a=>⟨by omega,fun _=>⟨fun b=>⟨by omega,fun _=>?_⟩,fun b=>⟨by omega,fun _=>?_⟩⟩⟩,fun a=>⟨by omega,fun _=>⟨by omega,fun _=>?_⟩⟩⟩⟩,fun c=>⟨fun d=>?_,fun d=>?_⟩⟩
  · have:=ih (al.getD i i8).2.1 (by omega)
    rw [show D8 ((v0,v1,()),al,od,wy,()) (i+1)=D8 ((v0,v1,()),al,od,wy,()) i from if_pos a] at this
    exact this
  · have:=ih l (by omega)
    rw [show D8 ((v0,v1,()),al,od,wy,()) (i+1)=D8 ((v0,v1,()),al,od,wy,()) i from if_pos a] at this
    exact this
  · have:=ih l (by omega)
    rw [show D8 ((v0,v1,()),al,od,wy,()) (i+1)=bOr .u8 (D8 ((v0,v1,()),al,od,wy,()) i) (R6 .u8 v1 (IntKind.wrap .u8 (1*2^min i IntKind.u8.bits))) from if_neg (by simpa using a)] at this
    exact this
  · obtain rfl:i=al.length:=by omega
    rfl
  · obtain rfl:i=al.length:=by omega
    exact absurd (show (N8 (v0,v1,()) (D8 ((v0,v1,()),al,od,wy,()) al.length) 0).2.1=0 by simpa using d) hne
def b30:p7:={ ps:=[.rd J0],rs:=[View],pre:=fun _=>True,fn:=fun x=>((x.1:f8).1,()),out:=fun _=>() }
noncomputable def b5f:Env:={ P:=Tryz.prog,tt:=tt,C0:=[],res:=[Go.ResultVar.cell 2 57],rs:=[Ty.pair e8 (Ty.pair U8 Ty.unit)],ps:=[PK.rd J0],y6:=[],nt:=7 }
theorem b2f:u7 b5f:=x6 p9 trivial
theorem b1R:B0 b5f Tryz.f29:=⟨rfl,rfl⟩
theorem c3Y (x0_1_1:Int) (x0_1_2_1:Int) (x0_2_1:List o8) (x0_2_2_1:List (List UInt8)) (x0_2_2_2_1:List (List UInt8)):exec b5f 1000 [.code (d9 Tryz.prog 29)] (s6 b30.ps ((((x0_1_1,x0_1_2_1,()),x0_2_1,x0_2_2_1,x0_2_2_2_1,()),()))) =
  .ret (((x0_1_1,x0_1_2_1,()),())):=by kernel_rfl
theorem b3Z:b30.Valid Tryz.prog 29:=by
  refine p7.o6 b2f rfl rfl Tryz.func29 (c:=d9 Tryz.prog 29) rfl rfl b1R rfl ?_
  rintro ⟨⟨⟨(v0:Int),(v1:Int),⟨⟩⟩,(al:List o8),(od:List (List UInt8)),(wy:List (List UInt8)),⟨⟩⟩,⟨⟩⟩ - -
  refine j5 (n:=1000) b2f b1R ?_
  refine g9 (c3Y v0 v1 al od wy) ?_
  rfl
def c3i:p7:={ ps:=[.rd J0],rs:=[e8],pre:=fun _=>True,fn:=fun x=>((List.length (α:=List UInt8) (x.1:f8).2.2.2.1:Int),()),out:=fun _=>() }
noncomputable def b98:Env:={ P:=Tryz.prog,tt:=tt,C0:=[],res:=[Go.ResultVar.tmp 2],rs:=[Ty.int IntKind.i64],ps:=[PK.rd J0],y6:=[],nt:=8 }
theorem b5e:u7 b98:=x6 p9 trivial
theorem b4O:B0 b98 Tryz.f17:=⟨rfl,rfl⟩
theorem c5T (x0_1_1:Int) (x0_1_2_1:Int) (x0_2_1:List o8) (x0_2_2_1:List (List UInt8)) (x0_2_2_2_1:List (List UInt8)):exec b98 1000 [.code (d9 Tryz.prog 17)] (s6 c3i.ps ((((x0_1_1,x0_1_2_1,()),x0_2_1,x0_2_2_1,x0_2_2_2_1,()),()))) =
  .ret (((↑(List.length x0_2_2_2_1):Int),())):=by kernel_rfl
theorem b8W:c3i.Valid Tryz.prog 17:=by
  refine p7.o6 b5e rfl rfl Tryz.func17 (c:=d9 Tryz.prog 17) rfl rfl b4O rfl ?_
  rintro ⟨⟨⟨(v0:Int),(v1:Int),⟨⟩⟩,(al:List o8),(od:List (List UInt8)),(wy:List (List UInt8)),⟨⟩⟩,⟨⟩⟩ - -
  refine j5 (n:=1000) b5e b4O ?_
  refine g9 (c5T v0 v1 al od wy) ?_
  rfl
def a0O (w:f8) (p:Int):List B9:=(w.2.1.getD p.toNat i8).2.1
def Y7 (w:f8) (p:Int):FrD:=(w.2.1.getD p.toNat i8).2.2.1
theorem a5c {v:a0T} {al:List o8} {r:List (List UInt8)×List (List UInt8)×Unit} {p:Int} (a:¬ known (v,al,r) p≠0):0≤p∧p<(al.length:Int):=by
  unfold known at a
  split at a
  · rename_i hb
    have:=S4.1 hb
    simp only at this; omega
  · exact absurd (by decide) a
def a1x (w:f8) (p:Int):List B9×Int×Unit:=if known w p≠0 then ([],known w p,()) else (a0O w p,0,())
def c3p:p7:={ ps:=[.rd J0,.v e8],rs:=[.d0 true u5,e8],pre:=fun x=>List.length (α:=o8) (x.1:f8).2.1≤6∧List.length (α:=B9) (a0O x.1 x.2.1)≤5864062014805,fn:=fun x=>a1x x.1 x.2.1,out:=fun _=>() }
noncomputable def c0d:Env:={ P:=Tryz.prog,tt:=tt,C0:=[(49,a4H),(31,b4d)],res:=[Go.ResultVar.tmp 4,Go.ResultVar.tmp 5],rs:=[Ty.d0 true u5,Ty.int IntKind.i64],ps:=[PK.rd J0,PK.v e8],y6:=[],nt:=22 }
theorem b5l:u7 c0d:=x6 p9 ⟨a1G,a5r,trivial⟩
theorem b4S:B0 c0d Tryz.f19:=⟨rfl,rfl⟩
theorem c5X (x0_1_1:Int) (x0_1_2_1:Int) (x0_2_1:List o8) (x0_2_2_1:List (List UInt8)) (x0_2_2_2_1:List (List UInt8)) (x1:Int):exec c0d 1000 [.code (d9 Tryz.prog 19)] (s6 c3p.ps ((((x0_1_1,x0_1_2_1,()),x0_2_1,x0_2_2_1,x0_2_2_2_1,()),x1,()))) =
  .f6 (List.length x0_2_1≤6) (cond (decide (known ((x0_1_1,x0_1_2_1,()),x0_2_1,x0_2_2_1,x0_2_2_2_1,()) x1≠(0:Int))) (.ret (([],known ((x0_1_1,x0_1_2_1,()),x0_2_1,x0_2_2_1,x0_2_2_2_1,()) x1,()))) (.f6 ((0:Int)≤x1∧x1<(↑(List.length x0_2_1):Int)) (.f6 (List.length (Prod.fst (Prod.snd (List.getD x0_2_1 (Int.toNat x1) (false,[],((0:Int),[],()),((0:Int),[],()),((0:Int),[],()),()))))≤5864062014805) (.ret ((Prod.fst (Prod.snd (List.getD x0_2_1 (Int.toNat x1) (false,[],((0:Int),[],()),((0:Int),[],()),((0:Int),[],()),()))),(0:Int),())))))):=by kernel_rfl
theorem b9h:c3p.Valid Tryz.prog 19:=by
  refine p7.o6 b5l rfl rfl Tryz.func19 (c:=d9 Tryz.prog 19) rfl rfl b4S rfl ?_
  rintro ⟨⟨⟨(v0:Int),(v1:Int),⟨⟩⟩,(al:List o8),(od:List (List UInt8)),(wy:List (List UInt8)),⟨⟩⟩,(p:Int),⟨⟩⟩ ⟨(hp:al.length≤6),(hl:(a0O ((v0,v1,()),al,od,wy,()) p).length≤5864062014805)⟩ -
  refine j5 (n:=1000) b5l b4S ?_
  refine g9 (c5X v0 v1 al od wy p) ?_
  simp only [j8,Tree.holds,true_and,true_implies,decide_eq_true_eq,decide_eq_false_iff_not,Bool.not_eq_true',Bool.not_eq_false',Int.toNat_natCast,j9,List.length_set,List.length_cons,List.length_nil]
  refine ⟨hp,fun _=>⟨fun a=>?_,fun a=>⟨a5c a,fun _=>⟨hl,fun _=>?_⟩⟩⟩⟩
  · show (([],_,()):List B9×Int×Unit)=a1x ((v0,v1,()),al,od,wy,()) p
    exact (if_pos a).symm
  · show ((_,0,()):List B9×Int×Unit)=a1x ((v0,v1,()),al,od,wy,()) p
    exact (if_neg a).symm
theorem a8T {v:a0T} {al:List o8} {r:List (List UInt8)×List (List UInt8)×Unit} {p:Int} (a:¬ M7 (v,al,r) p≠0):0≤p∧p<(al.length:Int):=by
  unfold M7 at a
  by_cases h:known (v,al,r) p≠0
  · rw [if_pos h] at a; exact absurd h a
  · exact a5c h
theorem c49 {s:a0U} {x:List UInt8} (h:¬ (M5 s x).2.1≠0):(0≤(M5 s x).1.1∧(M5 s x).1.1≤16777215)∧(M5 s x).1.2.1.length≤17:=by
  unfold M5 at h ⊢
  by_cases h1:I7 s≠0
  · rw [if_pos h1] at h ⊢; exact absurd h1 h
  rw [if_neg h1] at h ⊢
  have hok:=a1c (Decidable.not_not.1 h1)
  by_cases h2:D5 x=true
  · rw [if_pos h2] at h; exact absurd (by decide) h
  rw [if_neg h2] at h ⊢
  by_cases h3:(s.2.1.length:Int)=16∨16777215≤s.1+s.2.1.length
  · rw [if_pos h3] at h; exact absurd (by decide) h
  rw [if_neg h3]
  refine ⟨hok.1,?_⟩
  rw [List.length_append]
  have:=hok.2.1
  simp only [List.length_cons,List.length_nil]; omega
def setFrom (w:f8) (p:Int) (f:FrD):f8 :=
  (w.1,w.2.1.set p.toNat ((w.2.1.getD p.toNat i8).1,(w.2.1.getD p.toNat i8).2.1,f,(w.2.1.getD p.toNat i8).2.2.2),w.2.2)
def c4i (w:f8) (p:Int) (t:List UInt8) (r:FrD):f8:=K9 (setFrom w p r) 1 p (K8 (setFrom w p r)) (r.1+r.2.1.length - 1) t
def Y1 (w:f8) (p:Int) (t:List UInt8):f8×Int :=
  if M7 w p≠0 then (w,M7 w p) else if (150:Int)<t.length then (w,2) else if (w.2.2.2.1.length:Int)=60 then (w,8)
  else if (M5 (Y7 w p) t).2.1≠0 then (w,(M5 (Y7 w p) t).2.1) else (c4i w p t (M5 (Y7 w p) t).1,0)
def c3l:p7:={ ps:=[.rw w9,.v e8,.v .str],rs:=[e8],pre:=fun x=>List.length (α:=o8) (x.1:f8).2.1≤6,fn:=fun x=>((Y1 x.1 x.2.1 x.2.2.1).2,()),out:=fun x=>((Y1 x.1 x.2.1 x.2.2.1).1,()) }
noncomputable def c0a:Env:={ P:=Tryz.prog,tt:=tt,C0:=[(41,b8V),(42,c6w),(43,a9D),(44,b34)],res:=[Go.ResultVar.tmp 6],rs:=[Ty.int IntKind.i64],ps:=[PK.rw w9,PK.v e8,PK.v Ty.str],y6:=[],nt:=64 }
theorem b5i:u7 c0a:=x6 p9 ⟨b5Z,b88,a4b,a5o,trivial⟩
theorem b4Q:B0 c0a Tryz.f15:=⟨rfl,rfl⟩
theorem c5V (x0_1_1:Int) (x0_1_2_1:Int) (x0_2_1:List o8) (x0_2_2_1:List (List UInt8)) (x0_2_2_2_1:List (List UInt8)) (x1:Int) (x2:List UInt8):exec c0a 1000 [.code (d9 Tryz.prog 15)] (s6 c3l.ps ((((x0_1_1,x0_1_2_1,()),x0_2_1,x0_2_2_1,x0_2_2_2_1,()),x1,x2,()))) =
  .f6 (List.length x0_2_1≤6) (cond (decide (M7 ((x0_1_1,x0_1_2_1,()),x0_2_1,x0_2_2_1,x0_2_2_2_1,()) x1≠(0:Int))) (.ret ((M7 ((x0_1_1,x0_1_2_1,()),x0_2_1,x0_2_2_1,x0_2_2_2_1,()) x1,((x0_1_1,x0_1_2_1,()),x0_2_1,x0_2_2_1,x0_2_2_2_1,()),()))) (cond (decide ((150:Int)<(↑(List.length x2):Int))) (.ret (((2:Int),((x0_1_1,x0_1_2_1,()),x0_2_1,x0_2_2_1,x0_2_2_2_1,()),()))) (cond (decide ((↑(List.length x0_2_2_2_1):Int)=(60:Int))) (.ret (((8:Int),((x0_1_1,x0_1_2_1,()),x0_2_1,x0_2_2_1,x0_2_2_2_1,()),()))) (.f6 ((0:Int)≤x1∧x1<(↑(List.length x0_2_1):Int)) (.f6 (True) (cond (decide (Prod.fst (Prod.snd (M5 (Prod.fst (Prod.snd (Prod.snd (List.getD x0_2_1 (Int.toNat x1) (false,[],((0:Int),[],()),((0:Int),[],()),((0:Int),[],()),()))))) x2))≠(0:Int))) (.ret ((Prod.fst (Prod.snd (M5 (Prod.fst (Prod.snd (Prod.snd (List.getD x0_2_1 (Int.toNat x1) (false,[],((0:Int),[],()),((0:Int),[],()),((0:Int),[],()),()))))) x2)),((x0_1_1,x0_1_2_1,()),x0_2_1,x0_2_2_1,x0_2_2_2_1,()),()))) (.f6 ((0:Int)≤x1∧x1<(↑(List.length x0_2_1):Int)) (.f6 (True) (.f6 (q9 IntKind.i64 (Prod.fst (Prod.fst (M5 (Prod.fst (Prod.snd (Prod.snd (List.getD x0_2_1 (Int.toNat x1) (false,[],((0:Int),[],()),((0:Int),[],()),((0:Int),[],()),()))))) x2))+(↑(List.length (Prod.fst (Prod.snd (Prod.fst (M5 (Prod.fst (Prod.snd (Prod.snd (List.getD x0_2_1 (Int.toNat x1) (false,[],((0:Int),[],()),((0:Int),[],()),((0:Int),[],()),()))))) x2))))):Int))) (.f6 (q9 IntKind.i64 (Prod.fst (Prod.fst (M5 (Prod.fst (Prod.snd (Prod.snd (List.getD x0_2_1 (Int.toNat x1) (false,[],((0:Int),[],()),((0:Int),[],()),((0:Int),[],()),()))))) x2))+(↑(List.length (Prod.fst (Prod.snd (Prod.fst (M5 (Prod.fst (Prod.snd (Prod.snd (List.getD x0_2_1 (Int.toNat x1) (false,[],((0:Int),[],()),((0:Int),[],()),((0:Int),[],()),()))))) x2))))):Int) - (1:Int))) (.f6 (True) (.ret (((0:Int),K9 ((x0_1_1,x0_1_2_1,()),List.set x0_2_1 (Int.toNat x1) (Prod.fst (List.getD x0_2_1 (Int.toNat x1) (false,[],((0:Int),[],()),((0:Int),[],()),((0:Int),[],()),())),Prod.fst (Prod.snd (List.getD x0_2_1 (Int.toNat x1) (false,[],((0:Int),[],()),((0:Int),[],()),((0:Int),[],()),()))),Prod.fst (M5 (Prod.fst (Prod.snd (Prod.snd (List.getD x0_2_1 (Int.toNat x1) (false,[],((0:Int),[],()),((0:Int),[],()),((0:Int),[],()),()))))) x2),Prod.snd (Prod.snd (Prod.snd (List.getD x0_2_1 (Int.toNat x1) (false,[],((0:Int),[],()),((0:Int),[],()),((0:Int),[],()),()))))),x0_2_2_1,x0_2_2_2_1,()) (1:Int) x1 (K8 ((x0_1_1,x0_1_2_1,()),List.set x0_2_1 (Int.toNat x1) (Prod.fst (List.getD x0_2_1 (Int.toNat x1) (false,[],((0:Int),[],()),((0:Int),[],()),((0:Int),[],()),())),Prod.fst (Prod.snd (List.getD x0_2_1 (Int.toNat x1) (false,[],((0:Int),[],()),((0:Int),[],()),((0:Int),[],()),()))),Prod.fst (M5 (Prod.fst (Prod.snd (Prod.snd (List.getD x0_2_1 (Int.toNat x1) (false,[],((0:Int),[],()),((0:Int),[],()),((0:Int),[],()),()))))) x2),Prod.snd (Prod.snd (Prod.snd (List.getD x0_2_1 (Int.toNat x1) (false,[],((0:Int),[],()),((0:Int),[],()),((0:Int),[],()),()))))),x0_2_2_1,x0_2_2_2_1,())) (Prod.fst (Prod.fst (M5 (Prod.fst (Prod.snd (Prod.snd (List.getD x0_2_1 (Int.toNat x1) (false,[],((0:Int),[],()),((0:Int),[],()),((0:Int),[],()),()))))) x2))+(↑(List.length (Prod.fst (Prod.snd (Prod.fst (M5 (Prod.fst (Prod.snd (Prod.snd (List.getD x0_2_1 (Int.toNat x1) (false,[],((0:Int),[],()),((0:Int),[],()),((0:Int),[],()),()))))) x2))))):Int) - (1:Int)) x2,())))))))))))))):=by kernel_rfl
attribute [local irreducible] Y1 K9 M5 in
theorem b84:c3l.Valid Tryz.prog 15:=by
  refine p7.o6 b5i rfl rfl Tryz.func15 (c:=d9 Tryz.prog 15) rfl rfl b4Q rfl ?_
  rintro ⟨⟨⟨(v0:Int),(v1:Int),⟨⟩⟩,(al:List o8),(od:List (List UInt8)),(wy:List (List UInt8)),⟨⟩⟩,(p:Int),(t:List UInt8),⟨⟩⟩ (hp:al.length≤6) -
  refine j5 (n:=1000) b5i b4Q ?_
  refine g9 (c5V v0 v1 al od wy p t) ?_
  simp only [j8,Tree.holds,true_and,true_implies,decide_eq_true_eq,decide_eq_false_iff_not,Bool.not_eq_true',Bool.not_eq_false',Int.toNat_natCast,j9,List.length_set,List.length_cons,List.length_nil]
  obtain ⟨w,hw⟩:∃ w:f8,w=((v0,v1,()),al,od,wy,()):=⟨_,rfl⟩
  have key:∀ r:f8×Int,Y1 ((v0,v1,()),al,od,wy,()) p t=r→(((r.2,r.1,()):Int×f8×Unit)=((Y1 ((v0,v1,()),al,od,wy,()) p t).2,(Y1 ((v0,v1,()),al,od,wy,()) p t).1,())):=by rintro r rfl; rfl
  have e1:=fun a=>(Y1.eq_1 ((v0,v1,()),al,od,wy,()) p t).trans (if_pos a)
  have e2:=fun a=>(Y1.eq_1 ((v0,v1,()),al,od,wy,()) p t).trans (if_neg a)
  refine ⟨hp,fun _=>⟨fun a=>key (_,_) (e1 a),fun a=>⟨fun b=>key (_,_) ((e2 a).trans (if_pos b)),fun b=>⟨fun c=>key (_,_) ((e2 a).trans ((if_neg b).trans (if_pos c))),
    fun c=>⟨a8T a,fun _=>⟨fun d=>key (_,_) ((e2 a).trans ((if_neg b).trans ((if_neg c).trans (if_pos d)))),fun d=>?_⟩⟩⟩⟩⟩⟩
  have hk:=c49 (s:=Y7 ((v0,v1,()),al,od,wy,()) p) (x:=t) d
  simp only [Y7] at hk
  refine ⟨a8T a,fun _=>⟨?_,fun _=>⟨?_,fun _=>key (_,_) ((e2 a).trans ((if_neg b).trans ((if_neg c).trans (if_neg d))))⟩⟩⟩
  · simp only [i8] at hk; omega
  · simp only [i8] at hk; omega
def ttN:List (TypeId×TI):=(76,TI.mk w9 88)::(74,TI.mk (.d0 true a2i) 24)::(85,TI.mk a2i 128)::tt
theorem c6c:ttN.all (a4R Tryz.prog)=true:=by kernel_rfl
def a9x (n:Int):Int:=IntKind.wrap .u8 (IntKind.wrap .u8 (1*2^min n.toNat (IntKind.bits .u8)) - 1)
def b8q (n:Int):Option f8×Int×Unit:=if G6 n 1 6=true then (some ((0,a9x n,()),List.replicate n.toNat i8,[],[],()),0,()) else (none,1,())
def c3o:p7:={ ps:=[.v e8],rs:=[.box true none w9,e8],pre:=fun _=>True,fn:=fun x=>b8q x.1,out:=fun _=>() }
noncomputable def c0c:Env:={ P:=Tryz.prog,tt:=ttN,C0:=[(40,b0I)],res:=[Go.ResultVar.tmp 2,Go.ResultVar.tmp 3],rs:=[Ty.box true none w9,Ty.int IntKind.i64],ps:=[PK.v e8],y6:=[],nt:=15 }
theorem b5j:u7 c0c:=x6 c6c ⟨a2W,trivial⟩
theorem b4R:B0 c0c Tryz.f14:=⟨rfl,rfl⟩
theorem c5W (x0:Int):exec c0c 1000 [.code (d9 Tryz.prog 14)] (s6 c3o.ps ((x0,()))) =
  .f6 (True) (cond (!G6 x0 (1:Int) (6:Int)) (.ret ((none,(1:Int),()))) (.f6 ((0:Int)≤x0) (.f6 ((0:Int)≤x0∧x0≤x0∧x0≤(140737488355328:Int)∧x0*(↑(Ty.wb a2i):Int)≤(140737488355328:Int)) (.ret ((some (((0:Int),IntKind.wrap IntKind.u8 (IntKind.wrap IntKind.u8 ((1:Int)*(2:Int)^min (Int.toNat x0) (IntKind.bits IntKind.u8)) - (1:Int)),()),List.replicate (Int.toNat x0) (false,[],((0:Int),[],()),((0:Int),[],()),((0:Int),[],()),()),[],[],()),(0:Int),())))))):=by kernel_rfl
theorem a9I:c3o.Valid Tryz.prog 14:=by
  refine p7.o6 b5j rfl rfl Tryz.func14 (c:=d9 Tryz.prog 14) rfl rfl b4R rfl ?_
  rintro ⟨(n:Int),⟨⟩⟩ - -
  refine j5 (n:=1000) b5j b4R ?_
  refine g9 (c5W n) ?_
  have hw:Ty.wb a2i=128:=rfl
  simp only [j8,Tree.holds,true_and,true_implies,decide_eq_true_eq,decide_eq_false_iff_not,Bool.not_eq_true',Bool.not_eq_false',Int.toNat_natCast,j9,List.length_set,List.length_cons,List.length_nil,hw]
  refine ⟨fun a=>?_,fun a=>?_⟩
  · show ((none,1,()):Option f8×Int×Unit)=b8q n
    exact (if_neg (by rw [a]; simp)).symm
  · have ha:=S4.1 a
    refine ⟨by omega,fun _=>⟨⟨by omega,by omega,by omega⟩,fun _=>?_⟩⟩
    show (_:Option f8×Int×Unit)=b8q n
    exact (if_pos a).symm
def a0B (p:Int) (l:List B9) (w:f8):Nat→f8
  | 0=>w
  | k+1=>K9 (a0B p l w k) 1 p (K8 (a0B p l w k)) (l.getD k (0,[],())).1 (l.getD k (0,[],())).2.1
theorem a3I {w:f8} {k f t s:Int} {x:List UInt8}:(K9 w k f t s x).2.1=w.2.1∧(K9 w k f t s x).1=w.1∧(K9 w k f t s x).2.2.1=w.2.2.1:=by
  by_cases h:(Q5 (k,f,t,w.1.1,s,[0,0,0,0,0,0],x,())).2.1=0∧(w.2.2.2.1.length:Int)<60
  · rw [a5Z h.1 h.2]; exact ⟨rfl,rfl,rfl⟩
  · rw [a3H h]; exact ⟨rfl,rfl,rfl⟩
theorem a87 {p:Int} {l:List B9} {w:f8}:∀ k,(a0B p l w k).2.1=w.2.1∧(a0B p l w k).1=w.1∧(a0B p l w k).2.2.1=w.2.2.1
  | 0=>⟨rfl,rfl,rfl⟩
  | k+1=>by
    obtain ⟨h1,h2,h3⟩:=a87 (p:=p) (l:=l) (w:=w) k
    obtain ⟨g1,g2,g3⟩:=a3I (w:=a0B p l w k) (k:=1) (f:=p) (t:=K8 (a0B p l w k)) (s:=(l.getD k (0,[],())).1) (x:=(l.getD k (0,[],())).2.1)
    exact ⟨g1.trans h1,g2.trans h2,g3.trans h3⟩
def c6F (w:f8) (p:Int):f8:=K9 w 3 p (K8 w) (w.2.1.getD p.toNat i8).2.2.2.1.1 []
def a3u (w:f8) (p:Int):List B9:=(c01 (Y7 w p) 4).1
def a9Y (w:f8) (p:Int):f8×Int :=
  if M7 w p≠0 then (w,M7 w p) else (c6F (a0B p (a3u w p) w (a3u w p).length) p,0)
end Go.Proofs.YtijlnmgondibnaaGreatDoor
namespace Go.Proofs.YtijlnmgondibnaaGreatDoor
set_option maxRecDepth 100000
def a0X:Nat→Nat→List UInt8
  | 0,_=>[]
  | f+1,u=>if u<10 then [UInt8.ofNat (48+u)] else a0X f (u / 10)++[UInt8.ofNat (48+u % 10)]
theorem b0E:∀ (f u:Nat),u<10^f→1≤f→Lib.decDigits u=a0X f u
  | 0,_,_,h=>absurd h (by decide)
  | f+1,u,h,_=>by
    rw [Lib.decDigits,a0X]
    by_cases c:u<10
    · rw [dif_pos c,if_pos c]
    · rw [dif_neg c,if_neg c]
      have hf:1≤f:=by
        rcases f with _|f
        · simp at h; omega
        · omega
      rw [b0E f (u / 10) (by rw [Nat.pow_succ] at h; exact Nat.div_lt_of_lt_mul (by omega)) hf]
def D0 (n:Int):List UInt8:=if n<0 then 45::a0X 20 n.natAbs else a0X 20 n.toNat
theorem c47 {n:Int} (h0:-9223372036854775808≤n) (h1:n≤9223372036854775807):Lib.itoa n=D0 n:=by
  have h9:(10:Nat)^20=100000000000000000000:=by decide
  unfold Lib.itoa D0
  by_cases c:n<0
  · rw [if_pos c,if_pos c,b0E 20 n.natAbs (by omega) (by decide)]
  · rw [if_neg c,if_neg c,b0E 20 n.toNat (by omega) (by decide)]
theorem a6s {d:Nat} (h:d<10):(UInt8.ofNat (48+d)).toNat=48+d:=by
  rw [UInt8.toNat_ofNat']; omega
theorem a6y:∀ (f u:Nat),∀ b∈a0X f u,48≤b.toNat∧b.toNat≤57
  | 0,_,b,h=>by cases h
  | f+1,u,b,h=>by
    rw [a0X] at h
    split at h
    · rename_i c
      rw [List.mem_singleton.1 h,a6s c]; omega
    · rcases List.mem_append.1 h with h|h
      · exact a6y f _ b h
      · rw [List.mem_singleton.1 h,a6s (Nat.mod_lt _ (by decide))]
        have:=Nat.mod_lt u (show 0<10 by decide); omega
theorem c5m {f u:Nat}:a0X (f+1) u≠[]:=by
  rw [a0X]; split
  · exact List.cons_ne_nil _ _
  · simp
theorem a5n:∀ (f u k:Nat),u<10^k→1≤k→(a0X f u).length≤k
  | 0,_,_,_,_=>Nat.zero_le _
  | f+1,u,k,h,hk=>by
    rw [a0X]
    by_cases c:u<10
    · rw [if_pos c]; exact hk
    · rw [if_neg c]
      rcases k with _|_|k
      · omega
      · simp at h; omega
      · have:=a5n f (u / 10) (k+1) (by rw [Nat.pow_succ] at h; exact Nat.div_lt_of_lt_mul (by omega)) (by omega)
        rw [List.length_append]; simp only [List.length_singleton]; omega
theorem a3p:∀ (l:List UInt8) (acc:Nat) (b:UInt8) (a d:Nat),Lib.decFrom acc l=some a→Lib.digitVal b=some d→Lib.decFrom acc (l++[b])=some (a*10+d)
  | [],acc,b,a,d,h,hd=>by
    simp only [Lib.decFrom,Option.some.injEq] at h
    subst h
    simp [Lib.decFrom,hd]
  | x::l,acc,b,a,d,h,hd=>by
    rw [List.cons_append]
    rw [Lib.decFrom] at h ⊢
    cases e:Lib.digitVal x with
    | none=>rw [e] at h; cases h
    | some y=>rw [e] at h; exact a3p l _ b a d h hd
theorem a6t {d:Nat} (h:d<10):Lib.digitVal (UInt8.ofNat (48+d))=some d:=by
  unfold Lib.digitVal
  rw [a6s h,if_pos (by omega)]
  congr 1; omega
theorem b1A:∀ (f u:Nat),u<10^f→1≤f→Lib.decFrom 0 (a0X f u)=some u
  | 0,_,_,h=>absurd h (by decide)
  | f+1,u,h,_=>by
    rw [a0X]
    by_cases c:u<10
    · rw [if_pos c]
      have:=a3p [] 0 _ 0 u rfl (a6t c)
      simpa using this
    · rw [if_neg c]
      have hf:1≤f:=by
        rcases f with _|f
        · simp at h; omega
        · omega
      have h1:=b1A f (u / 10) (by rw [Nat.pow_succ] at h; exact Nat.div_lt_of_lt_mul (by omega)) hf
      rw [a3p _ 0 _ _ _ h1 (a6t (Nat.mod_lt _ (by decide)))]
      congr 1; omega
theorem a8e {n:Nat}:D0 (n:Int)=a0X 20 n:=by
  unfold D0; rw [if_neg (by omega)]; rfl
theorem a3K {n:Nat} (h:n<10^20):Lib.atoi (D0 (n:Int))=some (n:Int):=by
  rw [a8e]
  have h1:=b1A 20 n h (by decide)
  have h2:=a6y 20 n
  have h3:a0X 20 n≠[]:=c5m
  generalize a0X 20 n=l at *
  cases l with
  | nil=>exact absurd rfl h3
  | cons b r =>
    have hb:=h2 b List.mem_cons_self
    have b1:(b == 45)=false:=by
      rw [beq_eq_false_iff_ne]; rintro rfl; exact absurd hb.1 (by decide)
    have b2:(b == 43)=false:=by
      rw [beq_eq_false_iff_ne]; rintro rfl; exact absurd hb.1 (by decide)
    simp [Lib.atoi,b1,b2,Lib.decNat,h1]
theorem b6X {n:Nat}:(58:UInt8)∉D0 (n:Int):=by
  rw [a8e]
  intro h
  have:=a6y 20 n _ h
  exact absurd this.2 (by decide)
theorem b3z {n:Nat} (k:Nat) (h:n<10^k) (hk:1≤k):(D0 (n:Int)).length≤k:=by
  rw [a8e]; exact a5n 20 n k h hk
theorem a1u {n:Int} (h0:-9223372036854775808≤n) (h1:n≤9223372036854775807):(D0 n).length≤20:=by
  have h9:(10:Nat)^19=10000000000000000000:=by decide
  unfold D0
  split
  · rw [List.length_cons]
    have:=a5n 20 n.natAbs 19 (by omega) (by decide)
    omega
  · have:=a5n 20 n.toNat 19 (by omega) (by decide)
    omega
def w6:List UInt8→List UInt8×List UInt8×Bool
  | []=>([],[],false)
  | b::l=>if b=58 then ([],l,true) else if (w6 l).2.2=true then (b::(w6 l).1,(w6 l).2.1,true) else (b::l,[],false)
theorem b7f:∀ s:List UInt8,Lib.cut s [58]=w6 s
  | []=>by decide
  | b::l=>by
    have ih:=b7f l
    have hg:=Lib.index_ge l [58]
    by_cases e:b=58
    · subst e
      rw [w6,if_pos rfl]
      simp [Lib.cut,Lib.index,List.isPrefixOf]
    · have hp:List.isPrefixOf [58] (b::l)=false:=by simp [List.isPrefixOf,Ne.symm e]
      have e1:Lib.index (b::l) [58]=if Lib.index l [58] == -1 then -1 else Lib.index l [58]+1:=by rw [Lib.index,hp]; simp
      rw [w6,if_neg e,← ih]
      unfold Lib.cut
      rw [e1]
      by_cases c:Lib.index l [58]=-1
      · rw [c]; simp
      · have c0:0≤Lib.index l [58]:=by omega
        obtain ⟨k,hk⟩:∃ k:Nat,Lib.index l [58]=k:=⟨_,(Int.toNat_of_nonneg c0).symm⟩
        rw [hk]
        have c1:((k:Int) == -1)=false:=by rw [beq_eq_false_iff_ne]; omega
        rw [c1]
        have c2:(0:Int)≤k:=by omega
        have c3:(0:Int)≤(k:Int)+1:=by omega
        have c4:((k:Int)+1).toNat=k+1:=by omega
        have c5:k+1+1=k+1+1:=rfl
        simp [c2,c3,c4]
theorem a3r (s:List UInt8):(w6 s).1.length≤s.length∧(w6 s).2.1.length≤s.length:=by
  induction s with
  | nil=>exact ⟨Nat.le_refl _,Nat.le_refl _⟩
  | cons b l ih =>
    rw [w6]
    split
    · exact ⟨Nat.zero_le _,by simp⟩
    · split
      · simp only [List.length_cons]; omega
      · simp
theorem b0F:∀ {a b:List UInt8},(58:UInt8)∉a→w6 (a++58::b)=(a,b,true)
  | [],b,_=>by rw [List.nil_append,w6,if_pos rfl]
  | x::a,b,h=>by
    have hx:x≠58:=fun e=>h (by rw [e]; exact List.mem_cons_self)
    have ih:=b0F (a:=a) (b:=b) (fun e=>h (List.mem_cons_of_mem _ e))
    rw [List.cons_append,w6,if_neg hx,ih,if_pos rfl]
def G8 (p k:Int) (t:List UInt8):List UInt8:=D0 p++[58]++D0 k++[58]++t
theorem a3T (p k:Nat) (t:List UInt8):w6 (G8 p k t)=(D0 p,D0 k++[58]++t,true):=by
  unfold G8
  rw [show D0 (p:Int)++[58]++D0 (k:Int)++[58]++t=D0 (p:Int)++58::(D0 (k:Int)++[58]++t) by simp]
  exact b0F b6X
theorem a5s (k:Nat) (t:List UInt8):w6 (D0 k++[58]++t)=(D0 k,t,true):=by
  rw [show D0 (k:Int)++[58]++t=D0 (k:Int)++58::t by simp]
  exact b0F b6X
end Go.Proofs.YtijlnmgondibnaaGreatDoor
namespace Go.Proofs.YtijlnmgondibnaaGreatDoor
open Go.Ex
set_option maxRecDepth 100000
def ub (n:Int):UInt8:=UInt8.ofNat (n % 256).toNat
def tb (n:Int):List UInt8:=[ub n,ub (n / 256),ub (n / 65536)]
theorem c2k (x:UInt8):ub (x.toNat:Int)=x:=by
  have:=x.toNat_lt
  apply UInt8.toNat_inj.1
  rw [ub,a4O]; omega
theorem b2G (n:Int):((ub n).toNat:Int)=n % 256:=by rw [ub,a4O]; omega
theorem a2m (x y z:UInt8):tb ((x.toNat:Int)+(y.toNat:Int)*256+(z.toNat:Int)*65536)=[x,y,z]:=by
  have h1:=x.toNat_lt
  have h2:=y.toNat_lt
  have h3:=z.toNat_lt
  rw [tb,List.cons.injEq,List.cons.injEq,List.cons.injEq]
  refine ⟨?_,?_,?_,rfl⟩<;>(apply UInt8.toNat_inj.1; rw [ub,a4O]; omega)
theorem a7V (l:List Int):a2e (l.flatMap R0)=l.flatMap tb:=by
  induction l with
  | nil=>rfl
  | cons x l ih=>rw [List.flatMap_cons,a3U,ih,List.flatMap_cons]; rfl
theorem a8z (n:y4):a0S n=[ub n.1,ub n.2.1,ub n.2.2.1]++(W2 n).flatMap tb++n.2.2.2.2.2.2.1:=by
  rw [a0S,a5u,a3U,a3U,a7V,a5t]; rfl
theorem F1 {k:Nat} {s:List UInt8} (h:k+1≤s.length):∃ b t,s=b::t∧k≤t.length:=by
  match s,h with
  | b::t,h=>exact ⟨b,t,rfl,by simpa using h⟩
theorem b9C {s:List UInt8} (h:27≤s.length):a0S (parse s)=s:=by
  obtain ⟨b0,t0,rfl,h0⟩:=F1 (k:=26) h
  obtain ⟨b1,t1,rfl,h1⟩:=F1 (k:=25) h0
  obtain ⟨b2,t2,rfl,h2⟩:=F1 (k:=24) h1
  obtain ⟨b3,t3,rfl,h3⟩:=F1 (k:=23) h2
  obtain ⟨b4,t4,rfl,h4⟩:=F1 (k:=22) h3
  obtain ⟨b5,t5,rfl,h5⟩:=F1 (k:=21) h4
  obtain ⟨b6,t6,rfl,h6⟩:=F1 (k:=20) h5
  obtain ⟨b7,t7,rfl,h7⟩:=F1 (k:=19) h6
  obtain ⟨b8,t8,rfl,h8⟩:=F1 (k:=18) h7
  obtain ⟨b9,t9,rfl,h9⟩:=F1 (k:=17) h8
  obtain ⟨b10,t10,rfl,h10⟩:=F1 (k:=16) h9
  obtain ⟨b11,t11,rfl,h11⟩:=F1 (k:=15) h10
  obtain ⟨b12,t12,rfl,h12⟩:=F1 (k:=14) h11
  obtain ⟨b13,t13,rfl,h13⟩:=F1 (k:=13) h12
  obtain ⟨b14,t14,rfl,h14⟩:=F1 (k:=12) h13
  obtain ⟨b15,t15,rfl,h15⟩:=F1 (k:=11) h14
  obtain ⟨b16,t16,rfl,h16⟩:=F1 (k:=10) h15
  obtain ⟨b17,t17,rfl,h17⟩:=F1 (k:=9) h16
  obtain ⟨b18,t18,rfl,h18⟩:=F1 (k:=8) h17
  obtain ⟨b19,t19,rfl,h19⟩:=F1 (k:=7) h18
  obtain ⟨b20,t20,rfl,h20⟩:=F1 (k:=6) h19
  obtain ⟨b21,t21,rfl,h21⟩:=F1 (k:=5) h20
  obtain ⟨b22,t22,rfl,h22⟩:=F1 (k:=4) h21
  obtain ⟨b23,t23,rfl,h23⟩:=F1 (k:=3) h22
  obtain ⟨b24,t24,rfl,h24⟩:=F1 (k:=2) h23
  obtain ⟨b25,t25,rfl,h25⟩:=F1 (k:=1) h24
  obtain ⟨b26,t,rfl,h26⟩:=F1 (k:=0) h25
  rw [a8z]
  show [ub (b0.toNat:Int),ub (b1.toNat:Int),ub (b2.toNat:Int)]++(tb ((b3.toNat:Int)+(b4.toNat:Int)*256+(b5.toNat:Int)*65536)++(tb ((b6.toNat:Int)+(b7.toNat:Int)*256+(b8.toNat:Int)*65536)++(tb ((b9.toNat:Int)+(b10.toNat:Int)*256+(b11.toNat:Int)*65536)++(tb ((b12.toNat:Int)+(b13.toNat:Int)*256+(b14.toNat:Int)*65536)++(tb ((b15.toNat:Int)+(b16.toNat:Int)*256+(b17.toNat:Int)*65536)++(tb ((b18.toNat:Int)+(b19.toNat:Int)*256+(b20.toNat:Int)*65536)++(tb ((b21.toNat:Int)+(b22.toNat:Int)*256+(b23.toNat:Int)*65536)++(tb ((b24.toNat:Int)+(b25.toNat:Int)*256+(b26.toNat:Int)*65536)++[]))))))))++t=_
  rw [a2m,a2m,a2m,a2m,a2m,a2m,a2m,a2m,c2k,c2k,c2k]
  rfl
theorem b8m:∀ {n:y4},b4E n→n.2.2.2.2.2.1.length=6→parse (a0S n)=n
  | (a,b,c,d,e,[v0,v1,v2,v3,v4,v5],t,()),h,_=>by
    have num:∀ x:Int,0≤x∧x≤16777215→((ub x).toNat:Int)+((ub (x / 256)).toNat:Int)*256+((ub (x / 65536)).toNat:Int)*65536=x:=by
      intro x hx; rw [b2G,b2G,b2G]; omega
    have one:∀ x:Int,0≤x∧x≤255→((ub x).toNat:Int)=x:=by intro x hx; rw [b2G]; omega
    rw [a8z]
    show (((ub a).toNat:Int),((ub b).toNat:Int),((ub c).toNat:Int),((ub d).toNat:Int)+((ub (d / 256)).toNat:Int)*256+((ub (d / 65536)).toNat:Int)*65536,((ub e).toNat:Int)+((ub (e / 256)).toNat:Int)*256+((ub (e / 65536)).toNat:Int)*65536,
      [((ub v0).toNat:Int)+((ub (v0 / 256)).toNat:Int)*256+((ub (v0 / 65536)).toNat:Int)*65536,((ub v1).toNat:Int)+((ub (v1 / 256)).toNat:Int)*256+((ub (v1 / 65536)).toNat:Int)*65536,((ub v2).toNat:Int)+((ub (v2 / 256)).toNat:Int)*256+((ub (v2 / 65536)).toNat:Int)*65536,
       ((ub v3).toNat:Int)+((ub (v3 / 256)).toNat:Int)*256+((ub (v3 / 65536)).toNat:Int)*65536,((ub v4).toNat:Int)+((ub (v4 / 256)).toNat:Int)*256+((ub (v4 / 65536)).toNat:Int)*65536,((ub v5).toNat:Int)+((ub (v5 / 256)).toNat:Int)*256+((ub (v5 / 65536)).toNat:Int)*65536],t,())=_
    have hv:∀ x∈[v0,v1,v2,v3,v4,v5],0≤x∧x≤16777215:=h.at_
    have hf:0≤b∧b≤5:=h.from_
    have ht:0≤c∧c≤5:=h.to
    rw [one a h.kind,one b (by omega),one c (by omega),num d h.view,num e h.seq,num v0 (hv _ (by simp)),num v1 (hv _ (by simp)),num v2 (hv _ (by simp)),num v3 (hv _ (by simp)),num v4 (hv _ (by simp)),num v5 (hv _ (by simp))]
theorem c3z {n:y4} (h:n.2.2.2.2.2.1.length=6):(a0S n).length=27+n.2.2.2.2.2.2.1.length:=by
  have:∀ l:List Int,(l.flatMap tb).length=3*l.length:=fun l=>by rw [← a7V,a2e,List.length_map,b08]
  rw [a8z,List.length_append,List.length_append,this]
  show 3+3*(n.2.2.2.2.2.1.length+1+1)+_=_
  omega
theorem c2A {n:y4} (hok:b4E n) (h:n.2.2.2.2.2.1.length=6):31≤(X8 n).length∧(X8 n).length≤231:=by
  rw [X8,List.length_append,c3z h]
  have:=hok.text
  show _∧_+4≤231
  exact ⟨by show 31≤_+4; omega,by omega⟩
theorem c0Q {n:y4} (hc:G0 n=0) (h:n.2.2.2.2.2.1.length=6):s9 (X8 n)=(n,0,()):=by
  have hok:=a5U hc
  obtain ⟨h1,h2⟩:=c2A hok h
  have e4:(X8 n).length - 4=(a0S n).length:=by rw [X8,List.length_append]; show (a0S n).length+4 - 4=_; omega
  have e5:(X8 n).take ((X8 n).length - 4)=a0S n:=by rw [e4,X8,List.take_left']; rfl
  have e6:(X8 n).drop ((X8 n).length - 4)=le4 (a1d (a0S n)):=by rw [e4,X8,List.drop_left']; rfl
  rw [s9,if_neg (by omega),if_neg (by omega),e5,e6,if_neg (fun c=>c rfl),b8m hok h,if_neg (fun c=>c hc)]
theorem c4S {s:List UInt8} (h:(s9 s).2.1=0):G0 (s9 s).1=0∧X8 (s9 s).1=s:=by
  unfold s9 at h ⊢
  split at h
  · cases h
  split at h
  · cases h
  split at h
  · cases h
  split at h
  · rename_i c; exact absurd h c
  · rename_i c1 c2 c3 c4
    rw [if_neg c1,if_neg c2,if_neg c3,if_neg c4]
    have hl:27≤(s.take (s.length - 4)).length:=by rw [List.length_take]; omega
    refine ⟨Decidable.not_not.1 c4,?_⟩
    show a0S (parse (s.take (s.length - 4)))++le4 (a1d (a0S (parse (s.take (s.length - 4)))))=s
    rw [b9C hl,Decidable.not_not.1 c3,List.take_append_drop]
theorem c2B {n:y4} (h:G0 n=0):Q5 n=(X8 n,0,()):=by rw [Q5,if_neg (fun c=>c h)]
theorem c2C {n:y4} (h:G0 n≠0):Q5 n=([],G0 n,()):=by rw [Q5,if_pos h]
def K6 (w:f8) (p:Int):o8:=w.2.1.getD p.toNat i8
def a1k (w:f8) (p:Int) (x:o8):f8:=(w.1,w.2.1.set p.toNat x,w.2.2)
def a7g (w:f8) (x:List UInt8):f8:=(w.1,w.2.1,w.2.2.1++[x],w.2.2.2)
def F2 (x:List UInt8) (w:f8):Nat→f8
  | 0=>w
  | p+1=>if r8 (F2 x w p) p=true then K9 (F2 x w p) 2 (K8 (F2 x w p)) p (((F2 x w p).2.2.1.length:Int) - 1) x else F2 x w p
def G9 (f first:Int) (l:List (List UInt8)) (w:f8):Nat→f8
  | 0=>w
  | i+1=>F2 (G8 f (first+i) (l.getD i [])) (a7g (G9 f first l w i) (G8 f (first+i) (l.getD i []))) (G9 f first l w i).2.1.length
def W0 (w:f8) (n:y4):ToD×List (List UInt8)×Int×Unit:=C3 (K6 w n.2.1).2.2.2.2.1 (n.2.2.2.2.1,n.2.2.2.2.2.2.1,())
def a2o (x:o8) (r:ToD):o8:=(x.1,x.2.1,x.2.2.1,x.2.2.2.1,r,())
def U6 (w:f8) (n:y4):f8 :=
  if (W0 w n).2.2.1≠0 then w else
  G9 n.2.1 (K6 w n.2.1).2.2.2.2.1.1 (W0 w n).2.1 (a1k w n.2.1 (a2o (K6 w n.2.1) (W0 w n).1)) (W0 w n).2.1.length
def who (t:List UInt8):Int:=(Lib.atoi (w6 t).1).getD 0
def nth (t:List UInt8):Int:=(Lib.atoi (w6 (w6 t).2.1).1).getD 0
def a3Y (t:List UInt8):List UInt8:=(w6 (w6 t).2.1).2.1
def a0Q (q:Int) (x:o8) (t:List UInt8):o8 :=
  if who t=q∧(N1 x.2.2.1 (nth t+1)).2.1=0 then (x.1,x.2.1++[(who t,a3Y t,())],(N1 x.2.2.1 (nth t+1)).1,x.2.2.2) else (x.1,x.2.1++[(who t,a3Y t,())],x.2.2)
def I4 (q:Int) (x:o8) (l:List (List UInt8)):Nat→o8
  | 0=>x
  | i+1=>a0Q q (I4 q x l i) (l.getD i [])
def M8 (w:f8) (n:y4):ToD×List (List UInt8)×Int×Unit:=C3 (K6 w n.2.2.1).2.2.2.1 (n.2.2.2.2.1,n.2.2.2.2.2.2.1,())
def a86 (x:o8) (r:ToD):o8:=(x.1,x.2.1,x.2.2.1,r,x.2.2.2.2)
def Z7 (w:f8) (n:y4):f8 :=
  if (M8 w n).2.2.1≠0 then w else
  a1k w n.2.2.1 (I4 n.2.2.1 (a86 (K6 w n.2.2.1) (M8 w n).1) (M8 w n).2.1 (M8 w n).2.1.length)
def E1 (w:f8) (n:y4):Nat→f8
  | 0=>w
  | j+1=>if n.2.2.2.2.1+j<(E1 w n j).2.2.1.length then K9 (E1 w n j) 2 (K8 (E1 w n j)) n.2.1 (n.2.2.2.2.1+j) ((E1 w n j).2.2.1.getD (n.2.2.2.2.1+j).toNat []) else E1 w n j
def E7 (w:f8) (n:y4):f8 :=
  if known w n.2.1≠0 then w else if n.1=1 then U6 w n else if n.1=3 then E1 w n 4 else if n.1=2 then Z7 w n else w
def a5m (w:f8) (k:Int):f8:=(w.1,w.2.1,w.2.2.1,w.2.2.2.1.take k.toNat++w.2.2.2.1.drop (k+1).toNat,())
def b2N (w:f8) (k:Nat):f8:=(w.1,w.2.1,w.2.2.1,w.2.2.2.1++[w.2.2.2.1.getD k []],())
def a0Z (w:f8) (how:Int) (s:List UInt8):f8 :=
  if how=1∧(s9 s).2.1=0∧(s9 s).1.2.2.2.1=w.1.1∧r8 w (s9 s).1.2.2.1=true then E7 w (s9 s).1 else w
def I5 (w:f8) (k how:Int):f8×Int :=
  if G6 how 1 3=false then (w,1) else if G6 k 0 ((w.2.2.2.1.length:Int) - 1)=false then (w,6) else if how=3∧(w.2.2.2.1.length:Int)=60 then (w,8)
  else if how=3 then (b2N w k.toNat,0) else (a0Z (a5m w k) how (w.2.2.2.1.getD k.toNat []),0)
theorem b3r:∀ {l:List u4} {n:Int},∀ t∈(C8 l n).2.2,∃ q∈l,t=q.2.1
  | [],n,t,h=>by cases h
  | p::l,n,t,h=>by
    rw [C8] at h
    split at h
    · rcases List.mem_cons.1 h with rfl|h
      · exact ⟨p,List.mem_cons_self,rfl⟩
      · obtain ⟨q,h1,h2⟩:=b3r t h
        exact ⟨q,List.mem_cons_of_mem _ h1,h2⟩
    · cases h
theorem a7C {s:ToD} {p:u4} (h:(C3 s p).2.2.1=0):b4A s.1 s.2.1∧(0≤p.1∧p.1≤16777214)∧D5 p.2.1=false ∧
    ((C3 s p=(s,[],0,())∧(p.1<s.1∨s.1+16≤p.1∨W3 p.1 s.2.1=true))∨((s.1<p.1∧p.1<s.1+16)∧W3 p.1 s.2.1=false∧C3 s p=((s.1,a36 p s.2.1,()),[],0,())) ∨
      (p.1=s.1∧C3 s p=(((C8 s.2.1 (s.1+1)).1,(C8 s.2.1 (s.1+1)).2.1,()),p.2.1::(C8 s.2.1 (s.1+1)).2.2,0,()))):=by
  obtain ⟨r,l,⟨⟩⟩:=s
  by_cases c1:toE (r,l,())≠0
  · rw [C3,if_pos c1] at h; exact absurd h c1
  have hok:=b0g.1 (Decidable.not_not.1 c1)
  by_cases c2:V6 p.1 0 16777214=false
  · rw [C3,if_neg c1,if_pos c2] at h; cases h
  have h1:=Y5.1 (Bool.not_eq_false _▸c2)
  by_cases c3:D5 p.2.1=true
  · rw [C3,if_neg c1,if_neg c2,if_pos c3] at h; cases h
  have h2:D5 p.2.1=false:=by simpa using c3
  refine ⟨hok,h1,h2,?_⟩
  rw [c2K hok h1 h2]
  by_cases c4:p.1<r∨r+16≤p.1∨W3 p.1 l=true
  · rw [if_pos c4]; exact .inl ⟨rfl,c4⟩
  rw [if_neg c4]
  by_cases c5:r<p.1
  · rw [if_pos c5]
    refine .inr (.inl ⟨⟨c5,?_⟩,?_,rfl⟩)
    · exact Int.not_le.1 (fun e=>c4 (.inr (.inl e)))
    · cases hk:W3 p.1 l with
      | false=>rfl
      | true=>exact absurd (.inr (.inr hk)) c4
  · rw [if_neg c5]
    refine .inr (.inr ⟨?_,rfl⟩)
    have:¬ p.1<r:=fun e=>c4 (.inl e)
    show p.1=r
    omega
theorem a0G {s:ToD} {p:u4} (h:(C3 s p).2.2.1=0) :
    (∀ t∈(C3 s p).2.1,(t=p.2.1∨∃ q∈s.2.1,t=q.2.1)∧D5 t=false)∧(∀ q∈(C3 s p).1.2.1,q=p∨q∈s.2.1)∧(C3 s p).2.1.length≤16∧(0≤s.1∧s.1≤16777215) ∧
      (C3 s p).1.1=s.1+(C3 s p).2.1.length∧(C3 s p).1.2.1.length+(C3 s p).2.1.length≤s.2.1.length+1:=by
  obtain ⟨hok,h1,h2,hc⟩:=a7C h
  have hrg:=hok.rg
  have hb:=hok.b
  rcases hc with ⟨e,-⟩|⟨-,-,e⟩|⟨hp,e⟩
  · rw [e]
    exact ⟨fun t ht=>(by cases ht),fun q hq=>.inr hq,Nat.zero_le _,hrg,by show s.1=s.1+((0:Nat):Int); omega,by show s.2.1.length+0≤_; omega⟩
  · rw [e]
    refine ⟨fun t ht=>(by cases ht),fun q hq=>(c2S.1 hq),Nat.zero_le _,hrg,by show s.1=s.1+((0:Nat):Int); omega,?_⟩
    show (a36 p s.2.1).length+0≤_
    rw [c2T]; omega
  · rw [e]
    obtain ⟨a1,a2,a3,a4⟩:=b6S (l:=s.2.1) (n:=s.1+1) (by rw [show s.1+1 - 1=s.1 by omega]; exact hok.up)
    refine ⟨fun t ht=>?_,fun q hq=>.inr (a4 q hq),?_,hrg,?_,?_⟩
    · rcases List.mem_cons.1 ht with rfl|ht
      · exact ⟨.inl rfl,h2⟩
      · obtain ⟨q,g1,g2⟩:=b3r t ht
        exact ⟨.inr ⟨q,g1,g2⟩,by rw [g2]; exact (hb q g1).2⟩
    · show (p.2.1::(C8 s.2.1 (s.1+1)).2.2).length≤16
      rw [List.length_cons]
      cases hl:s.2.1 with
      | nil=>simp [C8]
      | cons x m =>
        have:=b3h hok.up (fun x hx=>(hb x hx).1) (by rw [hl]; simp)
        rw [← hl]; omega
    · show (C8 s.2.1 (s.1+1)).1=s.1+((p.2.1::(C8 s.2.1 (s.1+1)).2.2).length:Int)
      rw [List.length_cons,a2]; omega
    · show (C8 s.2.1 (s.1+1)).2.1.length+(p.2.1::(C8 s.2.1 (s.1+1)).2.2).length≤_
      rw [List.length_cons]; omega
theorem a6h {t:List UInt8} (h:D5 t=false):t.length≤200:=by
  simp only [D5,decide_eq_false_iff_not] at h; omega
def okT (t:List UInt8):Prop:=∃ p k:Nat,∃ s,p≤5∧k≤16777300∧t=G8 p k s
theorem c2i {p k:Nat} {s:List UInt8} (h:p≤5):who (G8 p k s)=p:=by
  unfold who
  rw [a3T]
  show (Lib.atoi (D0 p)).getD 0=p
  rw [a3K (by omega)]; rfl
theorem b3A {p k:Nat} {s:List UInt8} (h:k≤16777300):nth (G8 p k s)=k:=by
  unfold nth
  rw [a3T]
  show (Lib.atoi (w6 (D0 k++[58]++s)).1).getD 0=k
  rw [a5s]
  show (Lib.atoi (D0 k)).getD 0=k
  rw [a3K (by omega)]; rfl
theorem c0r {p k:Nat} {s:List UInt8}:a3Y (G8 p k s)=s:=by
  unfold a3Y
  rw [a3T]
  show (w6 (D0 k++[58]++s)).2.1=s
  rw [a5s]
theorem c43 {t:List UInt8} (h:okT t):((w6 t).1.length≤18∧(Lib.atoi (w6 t).1).isSome=true)∧((w6 (w6 t).2.1).1.length≤18∧(Lib.atoi (w6 (w6 t).2.1).1).isSome=true)∧0≤nth t∧nth t≤16777300:=by
  obtain ⟨p,k,s,h1,h2,rfl⟩:=h
  rw [b3A h2]
  rw [a3T]
  show ((D0 p).length≤18∧(Lib.atoi (D0 p)).isSome=true)∧((w6 (D0 k++[58]++s)).1.length≤18∧(Lib.atoi (w6 (D0 k++[58]++s)).1).isSome=true)∧_
  rw [a5s,a3K (by omega)]
  refine ⟨⟨b3z 18 (by omega) (by decide),rfl⟩,⟨b3z 18 (by omega) (by decide),?_⟩,by omega,by omega⟩
  show (Lib.atoi (D0 k)).isSome=true
  rw [a3K (by omega)]; rfl
def G4 (w:f8):Nat→List B9
  | 0=>[]
  | k+1=>if r8 w k=true∧(G4 w k).length<(w.2.1.getD k i8).2.1.length then (w.2.1.getD k i8).2.1 else G4 w k
theorem b8y {w:f8}:∀ k,(G4 w k).length≤(G4 w (k+1)).length:=fun k=>by
  rw [G4]; split
  · rename_i h; exact Nat.le_of_lt h.2
  · exact Nat.le_refl _
theorem a47 {w:f8} {i:Nat} (ha:r8 w i=true):∀ {k:Nat},i<k→(w.2.1.getD i i8).2.1.length≤(G4 w k).length
  | 0,h=>by omega
  | k+1,h=>by
    by_cases e:i=k
    · subst e
      rw [G4]
      split
      · exact Nat.le_refl _
      · rename_i h1
        exact Nat.le_of_not_lt (fun h2=>h1 ⟨ha,h2⟩)
    · exact Nat.le_trans (a47 ha (by omega)) (b8y k)
theorem b3E {w:f8} {b:Nat} (h:∀ i,(w.2.1.getD i i8).2.1.length≤b):∀ k,(G4 w k).length≤b
  | 0=>Nat.zero_le _
  | k+1=>by
    rw [G4]; split
    · exact h k
    · exact b3E h k
def countP (p:Int):List B9→Nat
  | []=>0
  | s::l=>(if s.1=p then 1 else 0)+countP p l
theorem a9G {p:Int}:∀ {l m:List B9},countP p (l++m)=countP p l+countP p m
  | [],m=>by simp [countP]
  | s::l,m=>by rw [List.cons_append,countP,countP,a9G]; omega
theorem countP_le {p:Int}:∀ {l:List B9},countP p l≤l.length
  | []=>Nat.le_refl _
  | s::l=>by
    have:=countP_le (p:=p) (l:=l)
    rw [countP,List.length_cons]; split<;>omega
theorem a7O {p:Int} {l:List B9} {i:Nat} (h:i<l.length):countP p (l.take (i+1))=countP p (l.take i)+if (l.getD i (0,[],())).1=p then 1 else 0:=by
  rw [a2O h (0,[],()),a9G]
  simp [countP]
def Y8 (w:f8) (L:List B9) (i:Nat) (x:o8):o8 :=
  if r8 w i=true then (x.1,L,(0,x.2.2.1.2.1.drop (min (countP i (L.drop x.2.1.length)) x.2.2.1.2.1.length),()),(0,[],()),(0,[],()),()) else (x.1,x.2.1,x.2.2.1,x.2.2.2.1,(0,[],()),())
def F9 (w:f8):f8:=((R9 w).1,w.2.1.mapIdx (Y8 w (G4 w w.2.1.length)),[],w.2.2.2.1,())
def H3 (w:f8):f8×Int:=if (R9 w).2.1≠0 then (w,(R9 w).2.1) else (F9 w,0)
theorem b4y {v:a0T} {al al':List o8} {r r':List (List UInt8)×List (List UInt8)×Unit} {p:Int} (hl:al'.length=al.length) (hf:(al'.getD p.toNat i8).1=(al.getD p.toNat i8).1):r8 (v,al',r') p=r8 (v,al,r) p:=by
  unfold r8
  simp only
  rw [hl,hf]
abbrev toM (x:o8):J2:=(x.1,(1,x.2.1,[]),x.2.2)
abbrev rdP (x:J2):o8:=(x.1,x.2.1.2.1,x.2.2)
abbrev dM:J2:=(false,(1,[],[]),(0,[],()),(0,[],()),(0,[],()),())
theorem b3o {al:List J2} {i:Nat}:(al.map rdP).getD i i8=rdP (al.getD i dM):=by
  rw [List.getD_eq_getElem?_getD,List.getElem?_map,List.getD_eq_getElem?_getD]
  cases al[i]?<;>rfl
theorem a78 {al:List o8} {i:Nat}:(al.map toM).getD i dM=toM (al.getD i i8):=by
  rw [List.getD_eq_getElem?_getD,List.getElem?_map,List.getD_eq_getElem?_getD]
  cases al[i]?<;>rfl
theorem c2W {α:Type} {d:α} {l m:List α} (h:l.length=m.length) (h2:∀ i,i<l.length→l.getD i d=m.getD i d):l=m:=by
  apply List.ext_getElem h
  intro i h3 h4
  have:=h2 i h3
  rw [List.getD_eq_getElem?_getD,List.getD_eq_getElem?_getD,List.getElem?_eq_getElem h3,List.getElem?_eq_getElem h4] at this
  exact this
theorem U2 {α:Type} {d:α} {l:List α} {i j:Nat} {x:α}:(l.set i x).getD j d=if i=j∧i<l.length then x else l.getD j d:=by
  rw [List.getD_eq_getElem?_getD,List.getElem?_set,List.getD_eq_getElem?_getD]
  by_cases h:i=j
  · subst h
    by_cases h2:i<l.length
    · simp [h2]
    · simp [h2]
  · simp [h]
structure a2K (w:f8) (al:List J2):Prop where
  len:al.length=w.2.1.length
  rd:∀ i:Nat,rdP (al.getD i dM)=w.2.1.getD i i8
  same:∀ i:Nat,r8 w i=false→al.getD i dM=toM (w.2.1.getD i i8)
theorem a2K.start (w:f8):a2K w (w.2.1.map toM):=⟨List.length_map ..,fun i=>by rw [a78],fun i _=>by rw [a78]⟩
theorem a2K.a09 {w:f8} {al:List J2} (h:a2K w al) {k n:Nat} (ha:r8 w k=true):a2K w (al.set k ((al.getD k dM).1,(n,(al.getD k dM).2.1.2.1,[]),(al.getD k dM).2.2)):=by
  refine ⟨by rw [List.length_set]; exact h.len,fun i=>?_,fun i hi=>?_⟩
  · rw [U2]
    split
    · rename_i e
      rw [← e.1,← h.rd k]
    · exact h.rd i
  · rw [U2,if_neg]
    · exact h.same i hi
    · rintro ⟨rfl,-⟩
      rw [ha] at hi; cases hi
structure a1N (w:f8) (L:List B9) (k:Nat) (al:List J2):Prop where
  len:al.length=w.2.1.length
  done:∀ i:Nat,i<k→i<al.length→al.getD i dM=toM (Y8 w L i (w.2.1.getD i i8))
  rd:∀ i:Nat,k≤i→rdP (al.getD i dM)=w.2.1.getD i i8
  same:∀ i:Nat,k≤i→r8 w i=false→al.getD i dM=toM (w.2.1.getD i i8)
theorem a2K.next {w:f8} {al:List J2} (h:a2K w al) (L:List B9):a1N w L 0 al:=⟨h.len,fun i hi=>by omega,fun i _=>h.rd i,fun i _=>h.same i⟩
theorem c1u {w:f8} {L:List B9} {i:Nat} {x:o8}:(Y8 w L i x).1=x.1:=by unfold Y8; split<;>rfl
theorem a1N.act {w:f8} {L:List B9} {k:Nat} {al:List J2} (h:a1N w L k al) (i:Nat):((al.map rdP).getD i i8).1=(w.2.1.getD i i8).1:=by
  rw [b3o]
  by_cases hk:k≤i
  · rw [h.rd i hk]
  · by_cases hi:i<al.length
    · rw [h.done i (by omega) hi]
      exact c1u
    · have h1:al.getD i dM=dM:=by rw [List.getD_eq_getElem?_getD,List.getElem?_eq_none (by omega)]; rfl
      have h2:w.2.1.getD i i8=i8:=by rw [List.getD_eq_getElem?_getD,List.getElem?_eq_none (by have:=h.len; omega)]; rfl
      rw [h1,h2]; rfl
theorem a1N.step {w:f8} {L:List B9} {k:Nat} {al:List J2} (h:a1N w L k al):a1N w L (k+1) (al.set k (toM (Y8 w L k (w.2.1.getD k i8)))):=by
  refine ⟨by rw [List.length_set]; exact h.len,fun i hi hl=>?_,fun i hi=>?_,fun i hi=>?_⟩
  · rw [List.length_set] at hl
    rw [U2]
    by_cases e:k=i
    · rw [if_pos ⟨e,by omega⟩,e]
    · rw [if_neg (fun h=>e h.1)]
      exact h.done i (by omega) hl
  · rw [U2,if_neg (by omega)]; exact h.rd i (by omega)
  · rw [U2,if_neg (by omega)]; exact h.same i (by omega)
theorem a1N.fin {w:f8} {L:List B9} {al:List J2} (h:a1N w L w.2.1.length al):al=(w.2.1.mapIdx (Y8 w L)).map toM:=by
  refine c2W (d:=dM) (by rw [List.length_map,List.length_mapIdx]; exact h.len) (fun i hi=>?_)
  rw [h.done i (by have:=h.len; omega) hi,a78]
  congr 1
  rw [List.getD_eq_getElem?_getD (l:=List.mapIdx _ _),List.getElem?_mapIdx,List.getD_eq_getElem?_getD,List.getElem?_eq_getElem (by have:=h.len; omega)]
  rfl
abbrev C5:=List UInt8
abbrev S8:=Nat×C5
def y5 (p:Nat):List S8→List C5
  | []=>[]
  | x::l=>if x.1=p then x.2::y5 p l else y5 p l
theorem a1m {p:Nat}:∀ {l m:List S8},y5 p (l++m)=y5 p l++y5 p m
  | [],_=>rfl
  | x::l,m=>by
    rw [List.cons_append,y5,y5,a1m]
    split<;>rfl
theorem c45 {p q:Nat} {l:List C5}:y5 p (l.map fun t=>(q,t))=if q=p then l else []:=by
  induction l with
  | nil=>split<;>rfl
  | cons t l ih =>
    rw [List.map_cons,y5,ih]
    by_cases h:q=p
    · rw [if_pos h,if_pos h,if_pos h]
    · rw [if_neg h,if_neg h,if_neg h]
theorem a07 {p:Nat} {Q:List S8} {i:Nat}:y5 p (Q.take i) <+: y5 p Q:=by
  have h:y5 p Q=y5 p (Q.take i)++y5 p (Q.drop i):=by rw [← a1m,List.take_append_drop]
  exact ⟨_,h.symm⟩
def K1 (P:List S8):List S8→List C5
  | []=>[]
  | x::l=>G8 x.1 (y5 x.1 P).length x.2::K1 (P++[x]) l
def I1 (Q:List S8):List C5:=K1 [] Q
theorem a6K:∀ {l P m:List S8},K1 P (l++m)=K1 P l++K1 (P++l) m
  | [],P,m=>by simp [K1]
  | x::l,P,m=>by
    rw [List.cons_append,K1,K1,a6K,List.cons_append,List.append_assoc]; rfl
theorem a6J:∀ {l P:List S8} {i:Nat},(K1 P l)[i]?=l[i]?.map (fun x=>G8 x.1 (y5 x.1 (P++l.take i)).length x.2)
  | [],P,i=>rfl
  | x::l,P,0=>by simp [K1]
  | x::l,P,i+1=>by
    rw [K1,List.getElem?_cons_succ,a6J,List.getElem?_cons_succ,List.take_succ_cons,List.append_assoc]; rfl
theorem a6I:∀ {l P:List S8},(K1 P l).length=l.length
  | [],_=>rfl
  | x::l,P=>by rw [K1,List.length_cons,a6I,List.length_cons]
theorem c1y {Q:List S8}:(I1 Q).length=Q.length:=a6I
theorem b1C {Q:List S8} {i:Nat}:(I1 Q)[i]?=Q[i]?.map (fun x=>G8 x.1 (y5 x.1 (Q.take i)).length x.2):=by
  unfold I1; rw [a6J]; rfl
theorem b1D {Q m:List S8}:I1 (Q++m)=I1 Q++K1 Q m:=by
  unfold I1; rw [a6K]; rfl
def a35 (x:S8):B9:=(x.1,x.2,())
def ofP (p:Nat):List B9→List C5
  | []=>[]
  | x::l=>if x.1=(p:Int) then x.2.1::ofP p l else ofP p l
theorem b0r {p:Nat}:∀ {l m:List B9},ofP p (l++m)=ofP p l++ofP p m
  | [],_=>rfl
  | x::l,m=>by
    rw [List.cons_append,ofP,ofP,b0r]
    split<;>rfl
theorem a7h {p:Nat}:∀ {Q:List S8},ofP p (Q.map a35)=y5 p Q
  | []=>rfl
  | x::l=>by
    rw [List.map_cons,ofP,y5,a7h]
    by_cases h:x.1=p
    · rw [if_pos h,if_pos (by show (x.1:Int)=p; rw [h])]; rfl
    · rw [if_neg h,if_neg (by show ¬ (x.1:Int)=p; omega)]
theorem a9F {p:Nat}:∀ {l:List B9},countP p l=(ofP p l).length
  | []=>rfl
  | x::l=>by
    rw [countP,ofP,a9F]
    by_cases h:x.1=(p:Int)
    · rw [if_pos h,if_pos h,List.length_cons]; omega
    · rw [if_neg h,if_neg h]; omega
theorem b3q {F:Nat→Option C5}:∀ {l:List u4} {n:Int},0≤n→(∀ q∈l,F q.1.toNat=some q.2.1)→∀ i,i<(C8 l n).2.2.length→F (n.toNat+i)=(C8 l n).2.2[i]?
  | [],n,_,_,i,hi=>absurd hi (by simp [C8])
  | p::l,n,h0,h,i,hi=>by
    rw [C8] at hi ⊢
    by_cases e:p.1=n
    · rw [if_pos e] at hi ⊢
      cases i with
      | zero=>rw [List.getElem?_cons_zero,← e]; exact h p List.mem_cons_self
      | succ i =>
        rw [List.getElem?_cons_succ,← b3q (n:=n+1) (by omega) (fun q hq=>h q (List.mem_cons_of_mem _ hq)) i (by simpa using hi)]
        congr 1; omega
    · rw [if_neg e] at hi; exact absurd hi (by simp)
theorem b1j {F:Nat→Option C5} {s:ToD} {p:u4} (h:(C3 s p).2.2.1=0) (hs:∀ q∈s.2.1,F q.1.toNat=some q.2.1) (hp:F p.1.toNat=some p.2.1) :
    ∀ i,i<(C3 s p).2.1.length→F (s.1.toNat+i)=(C3 s p).2.1[i]?:=by
  obtain ⟨hok,h1,h2,hc⟩:=a7C h
  intro i hi
  rcases hc with ⟨e,-⟩|⟨-,-,e⟩|⟨e1,e⟩
  · rw [e] at hi; exact absurd hi (by simp)
  · rw [e] at hi; exact absurd hi (by simp)
  · rw [e] at hi ⊢
    cases i with
    | zero=>rw [List.getElem?_cons_zero,← e1]; exact hp
    | succ i =>
      have h0:=hok.rg.1
      show F (s.1.toNat+(i+1))=(p.2.1::(C8 s.2.1 (s.1+1)).2.2)[i+1]?
      rw [List.getElem?_cons_succ,← b3q (n:=s.1+1) (by omega) hs i (by simpa using hi)]
      congr 1; omega
theorem c2s {α:Type} {X l:List α} {r:Nat} (h:∀ i,i<l.length→X[r+i]?=l[i]?):l=(X.drop r).take l.length:=by
  apply List.ext_getElem?
  intro i
  rw [List.getElem?_take]
  split
  · rename_i hi
    rw [List.getElem?_drop,h i hi]
  · rename_i hi
    exact List.getElem?_eq_none (by omega)
theorem a25 {α:Type} {l m:List α} (h:l <+: m) {i:Nat} {x:α} (hx:l[i]?=some x):m[i]?=some x:=by
  obtain ⟨k,rfl⟩:=h
  have hi:i<l.length:=by
    by_cases hi:i<l.length
    · exact hi
    · rw [List.getElem?_eq_none (by omega)] at hx; cases hx
  rw [List.getElem?_append_left hi]; exact hx
def V8 (m:Int) (p:Nat):Bool:=decide (R6 .u8 (m / (2:Int)^min p IntKind.u8.bits) 1=1)
theorem a1L {w:f8} {p:Int}:r8 w p=true↔∃ k:Nat,p=k∧k<w.2.1.length∧V8 w.1.2.1 k=true∧(w.2.1.getD k i8).1=false:=by
  unfold r8
  rw [Bool.and_eq_true,Bool.and_eq_true,S4,Bool.not_eq_true']
  constructor
  · rintro ⟨⟨h1,h2⟩,h3⟩
    exact ⟨p.toNat,by omega,by omega,h2,h3⟩
  · rintro ⟨k,rfl,h1,h2,h3⟩
    exact ⟨⟨by omega,h2⟩,h3⟩
theorem a0e {w:f8} {k:Nat}:r8 w (k:Int)=true↔k<w.2.1.length∧V8 w.1.2.1 k=true∧(w.2.1.getD k i8).1=false:=by
  rw [a1L]
  constructor
  · rintro ⟨j,h,h1⟩
    obtain rfl:k=j:=by omega
    exact h1
  · exact fun h=>⟨k,rfl,h⟩
def b5S:Go.Shelf.Ren:=⟨fun|129=>120|171=>50|243=>68|246=>87|283=>104|284=>105|285=>106|286=>107|317=>119|318=>121|319=>122|320=>123|337=>143|338=>144|n=>n,fun|0=>0|2=>2|3=>3|4=>4|5=>5|9=>9|20=>20|37=>115|46=>119|51=>117|53=>159|171=>158|173=>162|212=>176|213=>177|232=>208|233=>209|n=>n,fun|17=>0|18=>4|19=>5|n=>n⟩
theorem c5f:Go.Proofs.LaysM.n171 Tryz.prog b5S:={
  mixed:=by kernel_rfl,
  f129:=Tryz.func120.trans (congrArg some (by kernel_rfl)),
  f171:=Tryz.func50.trans (congrArg some (by kernel_rfl)),
  f243:=Tryz.func68.trans (congrArg some (by kernel_rfl)),
  f246:=Tryz.func87.trans (congrArg some (by kernel_rfl)),
  f283:=Tryz.func104.trans (congrArg some (by kernel_rfl)),
  f284:=Tryz.func105.trans (congrArg some (by kernel_rfl)),
  f285:=Tryz.func106.trans (congrArg some (by kernel_rfl)),
  f286:=Tryz.func107.trans (congrArg some (by kernel_rfl)),
  f317:=Tryz.func119.trans (congrArg some (by kernel_rfl)),
  f318:=Tryz.func121.trans (congrArg some (by kernel_rfl)),
  f319:=Tryz.func122.trans (congrArg some (by kernel_rfl)),
  f320:=Tryz.func123.trans (congrArg some (by kernel_rfl)),
  f337:=Tryz.func143.trans (congrArg some (by kernel_rfl)),
  f338:=Tryz.func144.trans (congrArg some (by kernel_rfl)),
  t0:=Tryz.underlying0,
  a0:=Tryz.isAgg0,
  z0:=Tryz.sizeOf0,
  v0:=Tryz.zeroValue0,
  t2:=Tryz.underlying2,
  a2:=Tryz.isAgg2,
  z2:=Tryz.sizeOf2,
  v2:=Tryz.zeroValue2,
  t3:=Tryz.underlying3,
  a3:=Tryz.isAgg3,
  z3:=Tryz.sizeOf3,
  v3:=Tryz.zeroValue3,
  t4:=Tryz.underlying4,
  a4:=Tryz.isAgg4,
  z4:=Tryz.sizeOf4,
  v4:=Tryz.zeroValue4,
  t5:=Tryz.underlying5,
  a5:=Tryz.isAgg5,
  z5:=Tryz.sizeOf5,
  v5:=Tryz.zeroValue5,
  t9:=Tryz.underlying9,
  a9:=Tryz.isAgg9,
  z9:=Tryz.sizeOf9,
  v9:=Tryz.zeroValue9,
  t20:=Tryz.underlying20,
  a20:=Tryz.isAgg20,
  z20:=Tryz.sizeOf20,
  v20:=Tryz.zeroValue20,
  t37:=Tryz.underlying115,
  a37:=Tryz.isAgg115,
  z37:=Tryz.sizeOf115,
  v37:=Tryz.zeroValue115,
  t46:=Tryz.underlying119,
  a46:=Tryz.isAgg119,
  z46:=Tryz.sizeOf119,
  v46:=Tryz.zeroValue119,
  t51:=Tryz.underlying117,
  a51:=Tryz.isAgg117,
  z51:=Tryz.sizeOf117,
  v51:=Tryz.zeroValue117,
  t53:=Tryz.underlying159,
  a53:=Tryz.isAgg159,
  z53:=Tryz.sizeOf159,
  v53:=Tryz.zeroValue159,
  t171:=Tryz.underlying158,
  a171:=Tryz.isAgg158,
  z171:=Tryz.sizeOf158,
  v171:=Tryz.zeroValue158,
  t173:=Tryz.underlying162,
  a173:=Tryz.isAgg162,
  z173:=Tryz.sizeOf162,
  v173:=Tryz.zeroValue162,
  t212:=Tryz.underlying176,
  a212:=Tryz.isAgg176,
  z212:=Tryz.sizeOf176,
  v212:=Tryz.zeroValue176,
  t213:=Tryz.underlying177,
  a213:=Tryz.isAgg177,
  z213:=Tryz.sizeOf177,
  t232:=Tryz.underlying208,
  a232:=Tryz.isAgg208,
  z232:=Tryz.sizeOf208,
  v232:=Tryz.zeroValue208,
  t233:=Tryz.underlying209,
  a233:=Tryz.isAgg209,
  z233:=Tryz.sizeOf209,
  v233:=Tryz.zeroValue209,
  g17:=by kernel_rfl,
  g18:=by kernel_rfl,
  g19:=by kernel_rfl,
  i0:=by kernel_rfl,
  i2:=by kernel_rfl,
  i3:=by kernel_rfl,
  i4:=by kernel_rfl,
  i5:=by kernel_rfl,
  i9:=by kernel_rfl,
  i20:=by kernel_rfl,
  i37:=by kernel_rfl,
  i46:=by kernel_rfl,
  i51:=by kernel_rfl,
  i53:=by kernel_rfl,
  i171:=by kernel_rfl,
  i173:=by kernel_rfl,
  i212:=by kernel_rfl,
  i232:=by kernel_rfl,
  i233:=by kernel_rfl,
  m17:=by kernel_rfl,
  m18:=by kernel_rfl,
  m19:=by kernel_rfl }
theorem c0R {w:World} {k:Nat} {os:Array Obj}:y8 [] w (Sort.grow (w.drewN k) os):=by
  refine ⟨rfl,⟨rfl,Nat.le_add_right _ _⟩,rfl,?_,?_⟩
  · show w.heap.size≤(w.heap++os).size
    simp
  · intro c hc _
    show (w.heap++os)[c]?=_
    rw [Array.getElem?_append,if_pos hc]
def a6i:Go.Shelf.Ren:=⟨fun|138=>125|143=>126|146=>89|195=>145|197=>146|217=>136|218=>147|219=>113|221=>108|224=>138|225=>137|260=>157|266=>153|267=>139|268=>124|314=>154|n=>n,fun|0=>0|3=>3|4=>4|5=>5|9=>9|21=>21|31=>22|46=>119|51=>117|105=>196|119=>211|138=>213|139=>214|146=>201|n=>n,fun|1=>1|3=>6|4=>7|n=>n⟩
theorem c2O:Go.Proofs.Lays.n146 Tryz.prog a6i:={
  mixed:=by kernel_rfl,
  f138:=Tryz.func125.trans (congrArg some (by kernel_rfl)),
  f143:=Tryz.func126.trans (congrArg some (by kernel_rfl)),
  f146:=Tryz.func89.trans (congrArg some (by kernel_rfl)),
  f195:=Tryz.func145.trans (congrArg some (by kernel_rfl)),
  f197:=Tryz.func146.trans (congrArg some (by kernel_rfl)),
  f217:=Tryz.func136.trans (congrArg some (by kernel_rfl)),
  f218:=Tryz.func147.trans (congrArg some (by kernel_rfl)),
  f219:=Tryz.func113.trans (congrArg some (by kernel_rfl)),
  f221:=Tryz.func108.trans (congrArg some (by kernel_rfl)),
  f224:=Tryz.func138.trans (congrArg some (by kernel_rfl)),
  f225:=Tryz.func137.trans (congrArg some (by kernel_rfl)),
  f260:=Tryz.func157.trans (congrArg some (by kernel_rfl)),
  f266:=Tryz.func153.trans (congrArg some (by kernel_rfl)),
  f267:=Tryz.func139.trans (congrArg some (by kernel_rfl)),
  f268:=Tryz.func124.trans (congrArg some (by kernel_rfl)),
  f314:=Tryz.func154.trans (congrArg some (by kernel_rfl)),
  t0:=Tryz.underlying0,
  a0:=Tryz.isAgg0,
  z0:=Tryz.sizeOf0,
  v0:=Tryz.zeroValue0,
  t3:=Tryz.underlying3,
  a3:=Tryz.isAgg3,
  z3:=Tryz.sizeOf3,
  v3:=Tryz.zeroValue3,
  t4:=Tryz.underlying4,
  a4:=Tryz.isAgg4,
  z4:=Tryz.sizeOf4,
  v4:=Tryz.zeroValue4,
  t5:=Tryz.underlying5,
  a5:=Tryz.isAgg5,
  z5:=Tryz.sizeOf5,
  v5:=Tryz.zeroValue5,
  t9:=Tryz.underlying9,
  a9:=Tryz.isAgg9,
  z9:=Tryz.sizeOf9,
  v9:=Tryz.zeroValue9,
  t21:=Tryz.underlying21,
  a21:=Tryz.isAgg21,
  z21:=Tryz.sizeOf21,
  v21:=Tryz.zeroValue21,
  t31:=Tryz.underlying22,
  a31:=Tryz.isAgg22,
  z31:=Tryz.sizeOf22,
  v31:=Tryz.zeroValue22,
  t46:=Tryz.underlying119,
  a46:=Tryz.isAgg119,
  z46:=Tryz.sizeOf119,
  v46:=Tryz.zeroValue119,
  t51:=Tryz.underlying117,
  a51:=Tryz.isAgg117,
  z51:=Tryz.sizeOf117,
  v51:=Tryz.zeroValue117,
  t105:=Tryz.underlying196,
  a105:=Tryz.isAgg196,
  z105:=Tryz.sizeOf196,
  v105:=Tryz.zeroValue196,
  t119:=Tryz.underlying211,
  a119:=Tryz.isAgg211,
  z119:=Tryz.sizeOf211,
  t138:=Tryz.underlying213,
  a138:=Tryz.isAgg213,
  z138:=Tryz.sizeOf213,
  v138:=Tryz.zeroValue213,
  t139:=Tryz.underlying214,
  a139:=Tryz.isAgg214,
  z139:=Tryz.sizeOf214,
  v139:=Tryz.zeroValue214,
  t146:=Tryz.underlying201,
  a146:=Tryz.isAgg201,
  z146:=Tryz.sizeOf201,
  v146:=Tryz.zeroValue201,
  g1:=by kernel_rfl,
  g3:=by kernel_rfl,
  g4:=by kernel_rfl }
def c1r:p7:={ ps:=[.v .str,.v .str],rs:=[.d0 true .str],pre:=fun x=>List.length (α:=UInt8) x.1≤4294967280∧1≤List.length (α:=UInt8) x.2.1,fn:=fun x=>(Lib.split x.1 x.2.1,()),out:=fun _=>() }
theorem bsz (s:List UInt8):(⟨s.toArray⟩:ByteArray).size=s.length:=by simp [ByteArray.size]
theorem b3k {H:Array Go.Obj} {S:Nat→Prop}:∀ (l:List ByteArray),(∀ x∈l,x.size≤maxLen)→i7 (f7 H S .str) 1 [] (l.map Value.string) (l.map fun x=>(x.data.toList:List UInt8))
  | [],_=>⟨rfl,rfl⟩
  | x::l,h=>by
    refine ⟨[],[],rfl,⟨rfl,?_,?_⟩,b3k l (fun y hy=>h y (by simp [hy]))⟩
    · show [Value.string x]=[Value.string ⟨x.data.toList.toArray⟩]
      rw [Array.toArray_toList]
    · show x.data.toList.length≤maxLen
      rw [Array.length_toList]; exact h x (by simp)
theorem a83 (sep:ByteArray):∀ (k:Nat) (s:ByteArray),∀ x∈Lib.splitB sep 0 k s,x.size≤s.size
  | 0,s,x,hx=>by rw [Lib.splitB_zero,List.mem_singleton] at hx; rw [hx]; exact Nat.le_refl _
  | k+1,s,x,hx=>by
    unfold Lib.splitB at hx
    split at hx
    · rw [List.mem_singleton] at hx; rw [hx]; exact Nat.le_refl _
    · rcases List.mem_cons.1 hx with rfl|hx
      · rw [ByteArray.size_extract]; omega
      · have:=a83 sep k _ x hx
        rw [ByteArray.size_extract] at this; omega
theorem b33:c1r.Valid Tryz.prog 89:=by
  refine ⟨⟨_,Tryz.func89,by kernel_rfl,by kernel_rfl⟩,?_,fun h=>by cases h⟩
  rintro w S vs ⟨(s:List UInt8),(p:List UInt8),⟨⟩⟩ L hS hgl ⟨(h1:s.length≤4294967280),(h2:1≤p.length)⟩ ⟨v1,us,L1,L2,rfl,rfl,⟨rfl,cs,rfl,r1⟩,v2,us2,L3,L4,rfl,rfl,⟨rfl,cs2,rfl,r2⟩,rfl,rfl⟩ - hnd hL
  obtain ⟨-,rfl,hs⟩:=r1
  obtain ⟨-,rfl,hp⟩:=r2
  obtain ⟨-,cs,g2,m,g3⟩:=hgl ("internal/bytealg.MaxLen",_) (List.mem_cons_of_mem _ (List.mem_cons_self ..)) 1 (by kernel_rfl)
  have hm:w.cell? ⟨1,0,none⟩=some (.int .i64 m):=by
    have:=World.var?_cell (show Tryz.prog.globalNamed "internal/bytealg.MaxLen"=some 1 by kernel_rfl) g2 0
    rw [this,g3]
  refine (Any.strings_Split c2O (by kernel_rfl) ⟨s.toArray⟩ ⟨p.toArray⟩ m w (by rw [bsz]; omega) hm (by rw [bsz]; exact h2)).mono ?_
  rintro e w' ⟨rfl,rfl⟩
  have hlen:=Lib.splitB_all (⟨p.toArray⟩:ByteArray) (by rw [bsz]; exact h2) 0 _ ⟨s.toArray⟩ rfl
  have hl:(Lib.splitB ⟨p.toArray⟩ 0 (Lib.countB ⟨s.toArray⟩ ⟨p.toArray⟩) ⟨s.toArray⟩).map (fun x=>(x.data.toList:List UInt8))=Lib.split s p:=by
    rw [Lib.splitB_data]; rfl
  have hcl:=Lib.countB_le (⟨p.toArray⟩:ByteArray) (by rw [bsz]; exact h2) (ByteArray.size ⟨s.toArray⟩) ⟨s.toArray⟩ (Nat.le_refl _)
  rw [bsz] at hcl
  generalize hB:Lib.splitB ⟨p.toArray⟩ 0 (Lib.countB ⟨s.toArray⟩ ⟨p.toArray⟩) ⟨s.toArray⟩=B at *
  generalize hC:Lib.countB ⟨s.toArray⟩ ⟨p.toArray⟩=C at *
  have hBs:∀ x∈B,x.size≤maxLen:=fun x hx=>by
    have:=a83 _ _ _ x (by rw [hB]; exact hx)
    have h9:x.size≤s.length:=Nat.le_trans this (Nat.le_of_eq (bsz s))
    have h8:maxLen=9223372036854775807:=by decide
    omega
  have hBl:(Lib.split s p).length=C+1:=by rw [← hl,List.length_map,hlen]
  obtain ⟨O',k1,k2,k3⟩:=a7f (w:=w) (S:=S) (t:=.str) (l:=Lib.split s p) (O:=[]) (cells:=B.map Value.string) hS (by
    rw [List.take_of_length_le (by rw [List.length_map,hlen,hBl]; show C+1≤(C+1)*1; omega),← hl]
    exact b3k B hBs) (cap:=C+1) (by omega) (by unfold maxLen; omega) (by rw [List.length_map,hlen]; show (C+1)*1≤C+1; omega) (a6i.t 9) (by simp)
  rw [hBl] at k1
  refine ⟨[.slice (some ⟨w.heap.size,0,none⟩) (C+1) (C+1)],O',[],S,rfl,y8.push _,fun _ h=>h,fun b h=>.inl h,⟨_,[],O',[],[.slice (some ⟨w.heap.size,0,none⟩) (C+1) (C+1)],rfl,by simp,rfl,k1,rfl,rfl⟩,⟨_,_,rfl,⟨_,[],rfl,rfl,rfl⟩⟩,by simpa using k3 List.nodup_nil,?_⟩
  intro b hb
  rw [List.append_nil] at hb
  rcases k2 b hb with rfl|h
  · exact ⟨fun h=>by have:=hS _ h; omega,.inl (Nat.le_refl _),by show w.heap.size<(w.heap.push _).size; rw [Array.size_push]; omega⟩
  · cases h
end Go.Proofs.YtijlnmgondibnaaGreatDoor
namespace Go.Proofs.YtijlnmgondibnaaGreatDoor

set_option maxRecDepth 100000
def a4a:List UInt8:=[48,49,50,51,52,53,54,55,56,57]
def a16 (s:List UInt8):List UInt8:=Lib.trimPrefix s [45]
def a3O (s:List UInt8):Bool:=decide (1≤(a16 s).length) && decide ((a16 s).length≤9) && (a16 s).all (a4a.contains ·)
def I2 (s:List UInt8):Int×Bool:=if a3O s then ((Lib.atoi s).getD 0,true) else (0,false)

theorem dropWhile_nil {p:UInt8→Bool}:∀ {l:List UInt8},l.dropWhile p=[]↔l.all p=true
  | []=>by simp
  | b::l=>by
    rw [List.dropWhile_cons,List.all_cons]
    cases h:p b with
    | true=>simpa [h] using dropWhile_nil (p:=p) (l:=l)
    | false=>simp
theorem b7p {p:UInt8→Bool} (l:List UInt8):l.reverse.all p=l.all p:=by simp
theorem a5T {p:UInt8→Bool}:∀ {l:List UInt8},(l.dropWhile p).all p=l.all p
  | []=>rfl
  | b::l=>by
    rw [List.dropWhile_cons]
    cases h:p b with
    | true=>rw [if_pos rfl,a5T (l:=l),List.all_cons,h,Bool.true_and]
    | false=>rw [if_neg (by simp)]
theorem b07 {l cs:List UInt8}:Lib.trimS l cs=[]↔l.all (cs.contains ·)=true:=by
  unfold Lib.trimS Lib.trimLeftS Lib.trimRightS
  rw [dropWhile_nil,b7p,a5T,b7p]

theorem c3f {b:UInt8} (h:a4a.contains b=true):∃ d,Lib.digitVal b=some d∧d≤9:=by
  simp only [a4a,List.contains_iff_mem,List.mem_cons,List.mem_nil_iff,or_false] at h
  rcases h with rfl|rfl|rfl|rfl|rfl|rfl|rfl|rfl|rfl|rfl<;>exact ⟨_,rfl,by decide⟩
theorem a6x:∀ {l:List UInt8} {acc:Nat},l.all (a4a.contains ·)=true→∃ n,Lib.decFrom acc l=some n∧n<(acc+1)*10^l.length
  | [],acc,_=>⟨acc,rfl,by simp⟩
  | b::l,acc,h=>by
    rw [List.all_cons,Bool.and_eq_true] at h
    obtain ⟨d,hd,h9⟩:=c3f h.1
    obtain ⟨n,e,hn⟩:=a6x (acc:=acc*10+d) h.2
    refine ⟨n,by simp only [Lib.decFrom,hd]; exact e,Nat.lt_of_lt_of_le hn ?_⟩
    rw [List.length_cons,Nat.pow_succ,Nat.mul_comm (10^l.length) 10,← Nat.mul_assoc]
    exact Nat.mul_le_mul_right _ (by omega)

theorem b1o {s:List UInt8} (h:a3O s=true):s.length≤10∧∃ n:Int,Lib.atoi s=some n∧-999999999≤n∧n≤999999999:=by
  simp only [a3O,Bool.and_eq_true,decide_eq_true_eq] at h
  obtain ⟨⟨h1,h2⟩,h3⟩:=h
  have core:∀ {t:List UInt8},1≤t.length→t.length≤9→t.all (a4a.contains ·)=true→∃ n,Lib.decNat t=some n∧n≤999999999:=by
    intro t t1 t2 t3
    obtain ⟨n,e,hn⟩:=a6x (acc:=0) t3
    refine ⟨n,?_,?_⟩
    · unfold Lib.decNat
      rw [if_neg (by cases t<;>simp at t1 ⊢)]
      exact e
    · have:10^t.length≤10^9:=Nat.pow_le_pow_right (by decide) t2
      have e9:10^9=1000000000:=by decide
      omega
  cases s with
  | nil=>simp [a16,Lib.trimPrefix,Lib.hasPrefix] at h1
  | cons b r =>
    by_cases hb:b=45
    · subst hb
      have ht:a16 (45::r)=r:=by simp [a16,Lib.trimPrefix,Lib.hasPrefix]
      rw [ht] at h1 h2 h3
      obtain ⟨n,e,hn⟩:=core h1 h2 h3
      refine ⟨by simp only [List.length_cons]; omega,-(n:Int),?_,by omega,by omega⟩
      simp [Lib.atoi,e]
    · have ht:a16 (b::r)=b::r:=by
        unfold a16 Lib.trimPrefix
        rw [if_neg]
        simp [Lib.hasPrefix,Ne.symm hb]
      rw [ht] at h1 h2 h3
      obtain ⟨n,e,hn⟩:=core h1 h2 h3
      have h43:b≠43:=by
        rintro rfl
        rw [List.all_cons,Bool.and_eq_true] at h3
        exact absurd h3.1 (by decide)
      refine ⟨by omega,(n:Int),?_,by omega,by omega⟩
      simp [Lib.atoi,hb,h43,e]
end Go.Proofs.YtijlnmgondibnaaGreatDoor
set_option linter.unusedVariables false
namespace Go.Proofs.YtijlnmgondibnaaGreatDoor
open Go.Ex Go.RowKit Go.Shelf
set_option maxRecDepth 100000
def c04:Go.Shelf.Ren:=⟨fun|101=>109|206=>148|208=>127|n=>n,fun|3=>3|4=>4|9=>9|n=>n,fun|n=>n⟩
theorem c7i:Go.Proofs.Lays.n101 Tryz.prog c04:={
  mixed:=by kernel_rfl,
  f101:=Tryz.func109.trans (congrArg some (by kernel_rfl)),
  f206:=Tryz.func148.trans (congrArg some (by kernel_rfl)),
  f208:=Tryz.func127.trans (congrArg some (by kernel_rfl)),
  t3:=Tryz.underlying3,
  a3:=Tryz.isAgg3,
  z3:=Tryz.sizeOf3,
  v3:=Tryz.zeroValue3,
  t4:=Tryz.underlying4,
  a4:=Tryz.isAgg4,
  z4:=Tryz.sizeOf4,
  v4:=Tryz.zeroValue4,
  t9:=Tryz.underlying9,
  a9:=Tryz.isAgg9,
  z9:=Tryz.sizeOf9,
  v9:=Tryz.zeroValue9 }
def a7E:Go.Shelf.Ren:=⟨fun|119=>161|120=>159|137=>160|151=>150|152=>158|160=>110|197=>146|217=>136|224=>138|225=>137|227=>130|228=>149|231=>128|232=>129|233=>131|234=>132|235=>133|236=>134|260=>157|266=>153|271=>151|n=>n,fun|0=>0|3=>3|4=>4|5=>5|9=>9|21=>21|46=>119|105=>196|116=>182|117=>183|119=>211|124=>186|138=>213|139=>214|n=>n,fun|3=>6|4=>7|n=>n⟩
theorem c5e:Go.Proofs.Lays.n160 Tryz.prog a7E:={
  mixed:=by kernel_rfl,
  f119:=Tryz.func161.trans (congrArg some (by kernel_rfl)),
  f120:=Tryz.func159.trans (congrArg some (by kernel_rfl)),
  f137:=Tryz.func160.trans (congrArg some (by kernel_rfl)),
  f151:=Tryz.func150.trans (congrArg some (by kernel_rfl)),
  f152:=Tryz.func158.trans (congrArg some (by kernel_rfl)),
  f160:=Tryz.func110.trans (congrArg some (by kernel_rfl)),
  f197:=Tryz.func146.trans (congrArg some (by kernel_rfl)),
  f217:=Tryz.func136.trans (congrArg some (by kernel_rfl)),
  f224:=Tryz.func138.trans (congrArg some (by kernel_rfl)),
  f225:=Tryz.func137.trans (congrArg some (by kernel_rfl)),
  f227:=Tryz.func130.trans (congrArg some (by kernel_rfl)),
  f228:=Tryz.func149.trans (congrArg some (by kernel_rfl)),
  f231:=Tryz.func128.trans (congrArg some (by kernel_rfl)),
  f232:=Tryz.func129.trans (congrArg some (by kernel_rfl)),
  f233:=Tryz.func131.trans (congrArg some (by kernel_rfl)),
  f234:=Tryz.func132.trans (congrArg some (by kernel_rfl)),
  f235:=Tryz.func133.trans (congrArg some (by kernel_rfl)),
  f236:=Tryz.func134.trans (congrArg some (by kernel_rfl)),
  f260:=Tryz.func157.trans (congrArg some (by kernel_rfl)),
  f266:=Tryz.func153.trans (congrArg some (by kernel_rfl)),
  f271:=Tryz.func151.trans (congrArg some (by kernel_rfl)),
  t0:=Tryz.underlying0,
  a0:=Tryz.isAgg0,
  z0:=Tryz.sizeOf0,
  v0:=Tryz.zeroValue0,
  t3:=Tryz.underlying3,
  a3:=Tryz.isAgg3,
  z3:=Tryz.sizeOf3,
  v3:=Tryz.zeroValue3,
  t4:=Tryz.underlying4,
  a4:=Tryz.isAgg4,
  z4:=Tryz.sizeOf4,
  v4:=Tryz.zeroValue4,
  t5:=Tryz.underlying5,
  a5:=Tryz.isAgg5,
  z5:=Tryz.sizeOf5,
  v5:=Tryz.zeroValue5,
  t9:=Tryz.underlying9,
  a9:=Tryz.isAgg9,
  z9:=Tryz.sizeOf9,
  v9:=Tryz.zeroValue9,
  t21:=Tryz.underlying21,
  a21:=Tryz.isAgg21,
  z21:=Tryz.sizeOf21,
  v21:=Tryz.zeroValue21,
  t46:=Tryz.underlying119,
  a46:=Tryz.isAgg119,
  z46:=Tryz.sizeOf119,
  v46:=Tryz.zeroValue119,
  t105:=Tryz.underlying196,
  a105:=Tryz.isAgg196,
  z105:=Tryz.sizeOf196,
  v105:=Tryz.zeroValue196,
  t116:=Tryz.underlying182,
  a116:=Tryz.isAgg182,
  z116:=Tryz.sizeOf182,
  t117:=Tryz.underlying183,
  a117:=Tryz.isAgg183,
  z117:=Tryz.sizeOf183,
  v117:=Tryz.zeroValue183,
  t119:=Tryz.underlying211,
  a119:=Tryz.isAgg211,
  z119:=Tryz.sizeOf211,
  t124:=Tryz.underlying186,
  a124:=Tryz.isAgg186,
  z124:=Tryz.sizeOf186,
  v124:=Tryz.zeroValue186,
  t138:=Tryz.underlying213,
  a138:=Tryz.isAgg213,
  z138:=Tryz.sizeOf213,
  v138:=Tryz.zeroValue213,
  t139:=Tryz.underlying214,
  a139:=Tryz.isAgg214,
  z139:=Tryz.sizeOf214,
  v139:=Tryz.zeroValue214,
  g3:=by kernel_rfl,
  g4:=by kernel_rfl }
def b5T:Go.Shelf.Ren:=⟨fun|129=>120|171=>50|172=>85|205=>142|243=>68|244=>102|245=>103|246=>87|247=>114|279=>115|280=>116|281=>117|282=>118|283=>104|284=>105|285=>106|286=>107|287=>140|316=>141|317=>119|318=>121|319=>122|320=>123|321=>155|322=>156|337=>143|338=>144|n=>n,fun|0=>0|2=>2|3=>3|4=>4|5=>5|9=>9|20=>20|21=>21|37=>115|46=>119|51=>117|53=>159|75=>140|76=>141|80=>216|85=>170|127=>204|143=>205|145=>207|167=>169|168=>172|171=>158|173=>162|175=>188|210=>192|212=>176|213=>177|232=>208|233=>209|n=>n,fun|15=>2|16=>3|17=>0|18=>4|19=>5|n=>n⟩
theorem b65:Go.Proofs.Lays.n172 Tryz.prog b5T:={
  mixed:=by kernel_rfl,
  f129:=Tryz.func120.trans (congrArg some (by kernel_rfl)),
  f171:=Tryz.func50.trans (congrArg some (by kernel_rfl)),
  f172:=Tryz.func85.trans (congrArg some (by kernel_rfl)),
  f205:=Tryz.func142.trans (congrArg some (by kernel_rfl)),
  f243:=Tryz.func68.trans (congrArg some (by kernel_rfl)),
  f244:=Tryz.func102.trans (congrArg some (by kernel_rfl)),
  f245:=Tryz.func103.trans (congrArg some (by kernel_rfl)),
  f246:=Tryz.func87.trans (congrArg some (by kernel_rfl)),
  f247:=Tryz.func114.trans (congrArg some (by kernel_rfl)),
  f279:=Tryz.func115.trans (congrArg some (by kernel_rfl)),
  f280:=Tryz.func116.trans (congrArg some (by kernel_rfl)),
  f281:=Tryz.func117.trans (congrArg some (by kernel_rfl)),
  f282:=Tryz.func118.trans (congrArg some (by kernel_rfl)),
  f283:=Tryz.func104.trans (congrArg some (by kernel_rfl)),
  f284:=Tryz.func105.trans (congrArg some (by kernel_rfl)),
  f285:=Tryz.func106.trans (congrArg some (by kernel_rfl)),
  f286:=Tryz.func107.trans (congrArg some (by kernel_rfl)),
  f287:=Tryz.func140.trans (congrArg some (by kernel_rfl)),
  f316:=Tryz.func141.trans (congrArg some (by kernel_rfl)),
  f317:=Tryz.func119.trans (congrArg some (by kernel_rfl)),
  f318:=Tryz.func121.trans (congrArg some (by kernel_rfl)),
  f319:=Tryz.func122.trans (congrArg some (by kernel_rfl)),
  f320:=Tryz.func123.trans (congrArg some (by kernel_rfl)),
  f321:=Tryz.func155.trans (congrArg some (by kernel_rfl)),
  f322:=Tryz.func156.trans (congrArg some (by kernel_rfl)),
  f337:=Tryz.func143.trans (congrArg some (by kernel_rfl)),
  f338:=Tryz.func144.trans (congrArg some (by kernel_rfl)),
  t0:=Tryz.underlying0,
  a0:=Tryz.isAgg0,
  z0:=Tryz.sizeOf0,
  v0:=Tryz.zeroValue0,
  t2:=Tryz.underlying2,
  a2:=Tryz.isAgg2,
  z2:=Tryz.sizeOf2,
  v2:=Tryz.zeroValue2,
  t3:=Tryz.underlying3,
  a3:=Tryz.isAgg3,
  z3:=Tryz.sizeOf3,
  v3:=Tryz.zeroValue3,
  t4:=Tryz.underlying4,
  a4:=Tryz.isAgg4,
  z4:=Tryz.sizeOf4,
  v4:=Tryz.zeroValue4,
  t5:=Tryz.underlying5,
  a5:=Tryz.isAgg5,
  z5:=Tryz.sizeOf5,
  v5:=Tryz.zeroValue5,
  t9:=Tryz.underlying9,
  a9:=Tryz.isAgg9,
  z9:=Tryz.sizeOf9,
  v9:=Tryz.zeroValue9,
  t20:=Tryz.underlying20,
  a20:=Tryz.isAgg20,
  z20:=Tryz.sizeOf20,
  v20:=Tryz.zeroValue20,
  t21:=Tryz.underlying21,
  a21:=Tryz.isAgg21,
  z21:=Tryz.sizeOf21,
  v21:=Tryz.zeroValue21,
  t37:=Tryz.underlying115,
  a37:=Tryz.isAgg115,
  z37:=Tryz.sizeOf115,
  v37:=Tryz.zeroValue115,
  t46:=Tryz.underlying119,
  a46:=Tryz.isAgg119,
  z46:=Tryz.sizeOf119,
  v46:=Tryz.zeroValue119,
  t51:=Tryz.underlying117,
  a51:=Tryz.isAgg117,
  z51:=Tryz.sizeOf117,
  v51:=Tryz.zeroValue117,
  t53:=Tryz.underlying159,
  a53:=Tryz.isAgg159,
  z53:=Tryz.sizeOf159,
  v53:=Tryz.zeroValue159,
  t75:=Tryz.underlying140,
  a75:=Tryz.isAgg140,
  z75:=Tryz.sizeOf140,
  v75:=Tryz.zeroValue140,
  t76:=Tryz.underlying141,
  a76:=Tryz.isAgg141,
  z76:=Tryz.sizeOf141,
  v76:=Tryz.zeroValue141,
  t85:=Tryz.underlying170,
  a85:=Tryz.isAgg170,
  z85:=Tryz.sizeOf170,
  v85:=Tryz.zeroValue170,
  t127:=Tryz.underlying204,
  a127:=Tryz.isAgg204,
  z127:=Tryz.sizeOf204,
  v127:=Tryz.zeroValue204,
  t143:=Tryz.underlying205,
  a143:=Tryz.isAgg205,
  z143:=Tryz.sizeOf205,
  v143:=Tryz.zeroValue205,
  t145:=Tryz.underlying207,
  a145:=Tryz.isAgg207,
  z145:=Tryz.sizeOf207,
  v145:=Tryz.zeroValue207,
  t167:=Tryz.underlying169,
  a167:=Tryz.isAgg169,
  z167:=Tryz.sizeOf169,
  v167:=Tryz.zeroValue169,
  t168:=Tryz.underlying172,
  a168:=Tryz.isAgg172,
  z168:=Tryz.sizeOf172,
  v168:=Tryz.zeroValue172,
  t171:=Tryz.underlying158,
  a171:=Tryz.isAgg158,
  z171:=Tryz.sizeOf158,
  v171:=Tryz.zeroValue158,
  t173:=Tryz.underlying162,
  a173:=Tryz.isAgg162,
  z173:=Tryz.sizeOf162,
  v173:=Tryz.zeroValue162,
  t175:=Tryz.underlying188,
  a175:=Tryz.isAgg188,
  z175:=Tryz.sizeOf188,
  v175:=Tryz.zeroValue188,
  t210:=Tryz.underlying192,
  a210:=Tryz.isAgg192,
  z210:=Tryz.sizeOf192,
  v210:=Tryz.zeroValue192,
  t212:=Tryz.underlying176,
  a212:=Tryz.isAgg176,
  z212:=Tryz.sizeOf176,
  v212:=Tryz.zeroValue176,
  t213:=Tryz.underlying177,
  a213:=Tryz.isAgg177,
  z213:=Tryz.sizeOf177,
  t232:=Tryz.underlying208,
  a232:=Tryz.isAgg208,
  z232:=Tryz.sizeOf208,
  v232:=Tryz.zeroValue208,
  t233:=Tryz.underlying209,
  a233:=Tryz.isAgg209,
  z233:=Tryz.sizeOf209,
  v233:=Tryz.zeroValue209,
  g15:=by kernel_rfl,
  g16:=by kernel_rfl,
  g17:=by kernel_rfl,
  g18:=by kernel_rfl,
  g19:=by kernel_rfl }
theorem b3G (n a b:Int) (r:Bool) (hr:(decide (a≤n) && decide (n≤b))=r) (w:World):Calls Tryz.prog 92 #[.int .i64 n,.int .i64 a,.int .i64 b] w fun e w'=>e=.returned (.bool r)∧w'=w:=by
  go_enter Tryz.func92,Tryz.ntmps92
  by_cases h1:a≤n<;>by_cases h2:n≤b
  all_goals
    go_wp2
    go_ret
    rw [← hr]
    simp [h1,h2]

theorem a8W (d:List UInt8) (cs:ByteArray) (hcs:cs.data.toList=a4a) (h1:1≤d.length) (h2:d.length≤9) (w:World):Calls Tryz.prog 110 #[.string ⟨d.toArray⟩,.string cs] w fun e w'=>e=.returned (.string ⟨(Lib.trimS d a4a).toArray⟩)∧y8 [] w w':=by
  have hcl:cs.size=10:=by
    have:cs.size=cs.data.toList.length:=by rw [Array.length_toList]; rfl
    rw [this,hcs]; rfl
  have h116:(Tryz.prog.info? (a7E.t 116)).map (fun i=>(i.zero,i.size))=some (some (.agg (Array.replicate 256 (.bool false))),256):=by kernel_rfl
  refine (Any.strings_Trim_set c5e (zero_of_info h116).1 (zero_of_info h116).2 ⟨d.toArray⟩ cs w (by omega) (by simp [ByteArray.size]; omega) (by simp [ByteArray.size]; omega) (by omega) (ascii_of_all (by rw [hcs]; decide))).mono ?_
  rintro e w' ⟨rfl,q,rfl⟩
  rw [hcs]
  have key:∀ (o1 o2:Obj) (q:Nat),y8 [] w (((w.alloc o1).alloc o2).drewN q):=fun o1 o2 q=>by
    have hA:y8 [] w (w.alloc o1):=y8.push o1
    have hB:y8 [] (w.alloc o1) ((w.alloc o1).alloc o2):=y8.push o2
    have hD:y8 [] ((w.alloc o1).alloc o2) (((w.alloc o1).alloc o2).drewN q):=⟨rfl,⟨rfl,Nat.le_add_right _ _⟩,rfl,Nat.le_refl _,fun _ _ _=>rfl⟩
    exact (hA.trans hB (fun b h=>absurd h (by simp))).trans hD (fun b h=>absurd h (by simp))
  exact ⟨rfl,key _ _ _⟩
theorem b9J (s:ByteArray) (n:Int) (h1:s.size≤18) (h:Lib.atoi s.data.toList=some n) (w:World):Calls Tryz.prog 85 #[.string s] w fun e w'=>e=.returned (.tuple #[.int .i64 n,.nilIface])∧y8 [] w w':=by
  refine (Any.strconv_Atoi b65 s n h1 h w).mono ?_
  rintro e w' ⟨rfl,t,rfl⟩
  exact ⟨rfl,rfl,⟨rfl,Nat.le_succ _⟩,rfl,by rw [Lib.bytesWorld_size]; omega,fun j hj _=>Lib.bytesWorld_at_old w _ t j hj⟩
set_option maxHeartbeats 1000000 in
theorem b3y (s:ByteArray) (hs:s.size≤4294967280) (w:World):Calls Tryz.prog 91 #[.string s] w fun e w'=>e=.returned (.tuple #[.int .i64 (I2 s.data.toList).1,.bool (I2 s.data.toList).2])∧y8 [] w w':=by
  obtain ⟨d,hd⟩:∃ d,a16 s.data.toList=d:=⟨_,rfl⟩
  have hdl:d.length≤s.size:=by
    rw [← hd]
    unfold a16 Lib.trimPrefix
    have:s.size=s.data.toList.length:=by rw [Array.length_toList]; rfl
    split
    · rw [List.length_drop]; omega
    · omega
  go_enter Tryz.func91,Tryz.ntmps91
  go_wp2_with (go_at_call 109; refine (Any.strings_TrimPrefix c7i s ⟨#[45]⟩ _).mono ?_; rintro e w' ⟨rfl,rfl⟩)
  rw [show Lib.trimPrefix s.data.toList [45]=d from hd]
  by_cases hl:1≤d.length∧d.length≤9
  · refine (b3G _ _ _ true (by rw [Bool.and_eq_true,decide_eq_true_eq,decide_eq_true_eq]; omega) _).mono ?_
    rintro e w' ⟨rfl,rfl⟩
    cases hg:a3O s.data.toList with
    | true =>
      obtain ⟨g1,n,g2,g3,g4⟩:=b1o hg
      have g0:s.size≤18:=by
        have:s.size=s.data.toList.length:=by rw [Array.length_toList]; rfl
        omega
      have ht:Lib.trimS d a4a=[]:=by
        rw [b07,← hd]
        simp only [a3O,Bool.and_eq_true] at hg
        exact hg.2
      have hn:I2 s.data.toList=(n,true):=by unfold I2; rw [hg,if_pos rfl,g2]; rfl
      go_wp2_with (first
        | (go_at_call 110; refine (a8W d _ ?hcs hl.1 hl.2 _).mono ?hpost; (case hcs=>rfl); rintro e w2 ⟨rfl,hp⟩; rw [ht])
        | (go_at_call 85; refine (b9J s n g0 g2 _).mono ?_; rintro e w3 ⟨rfl,hp2⟩))
      go_region
      all_goals go_wp2
      go_ret2
      refine ⟨by rw [hn]; rfl,(hp.trans hp2 (fun b h=>by cases h)).trans y8.drew (fun b h=>by cases h)⟩
    | false =>
      have hn:I2 s.data.toList=(0,false):=by unfold I2; rw [hg]; rfl
      have ht:∃ x l,Lib.trimS d a4a=x::l:=by
        cases h:Lib.trimS d a4a with
        | cons x l=>exact ⟨x,l,rfl⟩
        | nil =>
          exfalso
          rw [b07] at h
          have:a3O s.data.toList=true:=by
            simp only [a3O,hd,Bool.and_eq_true,decide_eq_true_eq]
            exact ⟨hl,h⟩
          rw [this] at hg; cases hg
      obtain ⟨x,l,ht⟩:=ht
      go_wp2_with (go_at_call 110; fail)
      refine (a8W d _ ?_ hl.1 hl.2 _).mono ?_
      · rfl
      rintro e w2 ⟨rfl,hp⟩
      rw [ht]
      go_wp2
      go_ret2
      exact ⟨by rw [hn]; rfl,hp⟩
  · have hn:I2 s.data.toList=(0,false):=by
      unfold I2 a3O
      rw [if_neg]
      simp only [Bool.and_eq_true,decide_eq_true_eq,hd]
      exact fun h=>hl h.1
    refine (b3G _ _ _ false (by rw [Bool.and_eq_false_iff,decide_eq_false_iff_not,decide_eq_false_iff_not]; omega) _).mono ?_
    rintro e w' ⟨rfl,rfl⟩
    go_wp2
    go_ret2
    exact ⟨by rw [hn]; rfl,rfl,.refl _,rfl,Nat.le_refl _,fun _ _ _=>rfl⟩
def b7g:p7:={ ps:=[.v .str],rs:=[e8,.bool],pre:=fun x=>List.length (α:=UInt8) x.1≤4294967280,fn:=fun x=>((I2 x.1).1,(I2 x.1).2,()),out:=fun _=>() }
theorem c46 (s:List UInt8):q9 .i64 (I2 s).1:=by
  unfold I2
  split
  · rename_i h
    obtain ⟨-,n,e,h1,h2⟩:=b1o h
    rw [e]
    exact ⟨by show -9223372036854775808≤n; omega,by show n≤9223372036854775807; omega⟩
  · exact ⟨by decide,by decide⟩
theorem b2A:b7g.Valid Tryz.prog 91:=by
  refine ⟨⟨_,Tryz.func91,by kernel_rfl,by kernel_rfl⟩,?_,fun h=>by cases h⟩
  rintro w S vs ⟨(s:List UInt8),⟨⟩⟩ L hS hgl (hlen:s.length≤4294967280) ⟨v1,us,L1,L2,rfl,rfl,⟨rfl,cs,rfl,r1⟩,rfl,rfl⟩ - hnd hL
  obtain ⟨-,rfl,hs⟩:=r1
  refine (b3y ⟨s.toArray⟩ (by simpa [ByteArray.size] using hlen) w).mono ?_
  rintro e w' ⟨rfl,hp⟩
  refine ⟨[.int .i64 (I2 s).1,.bool (I2 s).2],[],[],S,rfl,hp,fun _ h=>h,fun b h=>.inl h,⟨_,_,[],[],[.int .i64 (I2 s).1],rfl,rfl,rfl,⟨rfl,rfl,c46 s⟩,_,_,[],[],[.bool (I2 s).2],rfl,rfl,rfl,⟨rfl,rfl⟩,rfl,rfl⟩,⟨_,[],rfl,rfl,rfl⟩,by simp,by simp⟩
end Go.Proofs.YtijlnmgondibnaaGreatDoor
set_option linter.unusedVariables false
namespace Go.Proofs.YtijlnmgondibnaaGreatDoor
open Go.Ex
set_option maxRecDepth 100000

def b8D:Go.Shelf.Ren:=⟨fun|145=>84|217=>136|219=>113|220=>101|224=>138|225=>137|266=>153|267=>139|314=>154|n=>n,fun|3=>3|4=>4|5=>5|9=>9|46=>119|51=>117|59=>137|146=>201|n=>n,fun|1=>1|n=>n⟩
theorem c6q:Go.Proofs.Lays.n145 Tryz.prog b8D:={
  mixed:=by kernel_rfl,
  f145:=Tryz.func84.trans (congrArg some (by kernel_rfl)),
  f217:=Tryz.func136.trans (congrArg some (by kernel_rfl)),
  f219:=Tryz.func113.trans (congrArg some (by kernel_rfl)),
  f220:=Tryz.func101.trans (congrArg some (by kernel_rfl)),
  f224:=Tryz.func138.trans (congrArg some (by kernel_rfl)),
  f225:=Tryz.func137.trans (congrArg some (by kernel_rfl)),
  f266:=Tryz.func153.trans (congrArg some (by kernel_rfl)),
  f267:=Tryz.func139.trans (congrArg some (by kernel_rfl)),
  f314:=Tryz.func154.trans (congrArg some (by kernel_rfl)),
  t3:=Tryz.underlying3,
  a3:=Tryz.isAgg3,
  z3:=Tryz.sizeOf3,
  v3:=Tryz.zeroValue3,
  t4:=Tryz.underlying4,
  a4:=Tryz.isAgg4,
  z4:=Tryz.sizeOf4,
  v4:=Tryz.zeroValue4,
  t5:=Tryz.underlying5,
  a5:=Tryz.isAgg5,
  z5:=Tryz.sizeOf5,
  v5:=Tryz.zeroValue5,
  t9:=Tryz.underlying9,
  a9:=Tryz.isAgg9,
  z9:=Tryz.sizeOf9,
  v9:=Tryz.zeroValue9,
  t46:=Tryz.underlying119,
  a46:=Tryz.isAgg119,
  z46:=Tryz.sizeOf119,
  v46:=Tryz.zeroValue119,
  t51:=Tryz.underlying117,
  a51:=Tryz.isAgg117,
  z51:=Tryz.sizeOf117,
  v51:=Tryz.zeroValue117,
  t59:=Tryz.underlying137,
  a59:=Tryz.isAgg137,
  z59:=Tryz.sizeOf137,
  v59:=Tryz.zeroValue137,
  t146:=Tryz.underlying201,
  a146:=Tryz.isAgg201,
  z146:=Tryz.sizeOf201,
  v146:=Tryz.zeroValue201,
  g1:=by kernel_rfl }
def b4a:p7:={ ps:=[.v e8],rs:=[.str],pre:=fun _=>True,fn:=fun x=>(D0 x.1,()),out:=fun _=>() }
theorem a6D:b4a.Valid Tryz.prog 50:=by
  refine ⟨⟨_,Tryz.func50,by kernel_rfl,by kernel_rfl⟩,?_,fun h=>by cases h⟩
  rintro w S vs ⟨(n:Int),⟨⟩⟩ L hS hgl - ⟨v1,us,L1,L2,rfl,rfl,⟨rfl,cs,rfl,r1⟩,rfl,rfl⟩ - hnd hL
  obtain ⟨-,rfl,(hn:q9 .i64 n)⟩:=r1
  obtain ⟨h0,h1⟩:=j9.1 hn
  obtain ⟨-,cs,h2,h3⟩:=hgl _ (List.mem_cons_self ..) 0 (by kernel_rfl)
  refine (Any.strconv_Itoa c5f n h0 h1 w (h2.trans (congrArg some h3))).mono ?_
  rintro e w' ⟨rfl,k,os,rfl⟩
  refine ⟨[.string ⟨(Lib.itoa n).toArray⟩],[],[],S,rfl,c0R,fun _ h=>h,fun b h=>.inl h,⟨_,[],[],[],[.string ⟨(Lib.itoa n).toArray⟩],rfl,rfl,rfl,⟨rfl,?_,?_⟩,rfl,rfl⟩,⟨_,[],rfl,rfl,rfl⟩,by simp,by simp⟩
  · rw [c47 h0 h1]; rfl
  · have:=a1u h0 h1
    show (D0 n).length≤maxLen
    exact Nat.le_trans this (by decide)
def b9v:p7:={ ps:=[.v .str],rs:=[e8,.fn 4000000],pre:=fun x=>List.length (α:=UInt8) x.1≤18∧(Lib.atoi x.1).isSome=true,fn:=fun x=>((Lib.atoi x.1).getD 0,false,()),out:=fun _=>() }
theorem decFrom_lt:∀ {l:List UInt8} {a n:Nat},Lib.decFrom a l=some n→n<(a+1)*10^l.length
  | [],a,n,h=>by
    simp only [Lib.decFrom,Option.some.injEq] at h
    subst h
    simp
  | b::l,a,n,h=>by
    rw [Lib.decFrom] at h
    cases e:Lib.digitVal b with
    | none=>rw [e] at h; cases h
    | some d =>
      rw [e] at h
      have h1:=decFrom_lt h
      have hd:d≤9:=by
        unfold Lib.digitVal at e
        split at e
        · simp only [Option.some.injEq] at e; omega
        · cases e
      refine Nat.lt_of_lt_of_le h1 ?_
      rw [List.length_cons,Nat.pow_succ,Nat.mul_comm (10^l.length) 10,← Nat.mul_assoc]
      exact Nat.mul_le_mul_right _ (by omega)
theorem a6w {l:List UInt8} {n:Nat} (h:Lib.decNat l=some n) (hl:l.length≤18):n<1000000000000000000:=by
  unfold Lib.decNat at h
  split at h
  · cases h
  · have h1:=decFrom_lt h
    have h2:10^l.length≤10^18:=Nat.pow_le_pow_right (by decide) hl
    have h3:(10:Nat)^18=1000000000000000000:=by decide
    omega
theorem c5z {l:List UInt8} {n:Int} (h:Lib.atoi l=some n) (hl:l.length≤18):-1000000000000000000<n∧n<1000000000000000000:=by
  cases l with
  | nil=>cases h
  | cons b r =>
    rw [Lib.atoi] at h
    simp only [List.length_cons] at hl
    split at h
    · cases e:Lib.decNat r with
      | none=>rw [e] at h; cases h
      | some m=>rw [e] at h; simp only [Option.map_some,Option.some.injEq] at h; have:=a6w e (by omega); omega
    · split at h
      · cases e:Lib.decNat r with
        | none=>rw [e] at h; cases h
        | some m=>rw [e] at h; simp only [Option.map_some,Option.some.injEq] at h; have:=a6w e (by omega); omega
      · cases e:Lib.decNat (b::r) with
        | none=>rw [e] at h; cases h
        | some m=>rw [e] at h; simp only [Option.map_some,Option.some.injEq] at h; have:=a6w e (by simp only [List.length_cons]; omega); omega
theorem b6m:b9v.Valid Tryz.prog 85:=by
  refine ⟨⟨_,Tryz.func85,by kernel_rfl,by kernel_rfl⟩,?_,fun h=>by cases h⟩
  rintro w S vs ⟨(s:List UInt8),⟨⟩⟩ L hS hgl ⟨(h1:s.length≤18),(h2:(Lib.atoi s).isSome=true)⟩ ⟨v1,us,L1,L2,rfl,rfl,⟨rfl,cs,rfl,r1⟩,rfl,rfl⟩ - hnd hL
  obtain ⟨-,rfl,hs⟩:=r1
  obtain ⟨n,hn⟩:=Option.isSome_iff_exists.1 h2
  refine (Any.strconv_Atoi b65 ⟨s.toArray⟩ n (by rw [bsz]; exact h1) hn w).mono ?_
  rintro e w' ⟨rfl,t,rfl⟩
  have hf:b9v.fn (s,())=(n,false,()):=by
    show ((Lib.atoi s).getD 0,false,())=(n,false,())
    rw [hn]; rfl
  rw [hf]
  have hr:=c5z hn h1
  refine ⟨[.int .i64 n,.nilIface],[],[],S,rfl,⟨rfl,⟨rfl,Nat.le_succ _⟩,rfl,by rw [Lib.bytesWorld_size]; omega,fun j hj _=>Lib.bytesWorld_at_old w _ t j hj⟩,fun _ h=>h,fun b h=>.inl h,⟨_,_,[],[],[.int .i64 n],rfl,rfl,rfl,⟨rfl,rfl,?_⟩,_,_,[],[],[.nilIface],rfl,rfl,rfl,⟨rfl,rfl⟩,rfl,rfl⟩,⟨_,[],rfl,rfl,rfl⟩,by simp,by simp⟩
  exact ⟨by show -9223372036854775808≤n; omega,by show n≤9223372036854775807; omega⟩
def c6A:p7:={ ps:=[.v .str,.v .str],rs:=[.str,.str,.bool],pre:=fun x=>List.length (α:=UInt8) x.1≤1000000∧Eq (α:=List UInt8) x.2.1 [58],fn:=fun x=>((w6 x.1).1,(w6 x.1).2.1,(w6 x.1).2.2,()),out:=fun _=>() }
theorem b9q:c6A.Valid Tryz.prog 84:=by
  refine ⟨⟨_,Tryz.func84,by kernel_rfl,by kernel_rfl⟩,?_,fun h=>by cases h⟩
  rintro w S vs ⟨(s:List UInt8),(p:List UInt8),⟨⟩⟩ L hS hgl ⟨(h1:s.length≤1000000),(h2:p=[58])⟩ ⟨v1,us,L1,L2,rfl,rfl,⟨rfl,cs,rfl,r1⟩,v2,us2,L3,L4,rfl,rfl,⟨rfl,cs2,rfl,r2⟩,rfl,rfl⟩ - hnd hL
  obtain ⟨-,rfl,hs⟩:=r1
  obtain ⟨-,rfl,hp⟩:=r2
  obtain ⟨-,cs,g2,m,g3⟩:=hgl ("internal/bytealg.MaxLen",_) (List.mem_cons_of_mem _ (List.mem_cons_self ..)) 1 (by kernel_rfl)
  have hm:w.cell? ⟨1,0,none⟩=some (.int .i64 m):=by
    have:=World.var?_cell (show Tryz.prog.globalNamed "internal/bytealg.MaxLen"=some 1 by kernel_rfl) g2 0
    rw [this,g3]
  refine (Any.strings_Cut c6q ⟨s.toArray⟩ ⟨p.toArray⟩ m w (by rw [bsz]; omega) hm).mono ?_
  rintro e w' ⟨rfl,k,rfl⟩
  have hc:Lib.cut (ByteArray.mk s.toArray).data.toList (ByteArray.mk p.toArray).data.toList=w6 s:=by
    show Lib.cut s p=w6 s
    rw [h2,b7f]
  rw [hc]
  have hl:=a3r s
  have hD:y8 [] w (w.drewN k):=⟨rfl,⟨rfl,Nat.le_add_right _ _⟩,rfl,Nat.le_refl _,fun _ _ _=>rfl⟩
  have hmx:maxLen=9223372036854775807:=by decide
  refine ⟨[.string ⟨(w6 s).1.toArray⟩,.string ⟨(w6 s).2.1.toArray⟩,.bool (w6 s).2.2],[],[],S,rfl,hD,fun _ h=>h,fun b h=>.inl h,⟨_,_,[],[],[_],rfl,rfl,rfl,⟨rfl,rfl,?_⟩,_,_,[],[],[_],rfl,rfl,rfl,⟨rfl,rfl,?_⟩,_,_,[],[],[_],rfl,rfl,rfl,⟨rfl,rfl⟩,rfl,rfl⟩,⟨_,_,rfl,⟨_,[],rfl,rfl,rfl⟩⟩,by simp,by simp⟩
  · show (w6 s).1.length≤maxLen; omega
  · show (w6 s).2.1.length≤maxLen; omega
end Go.Proofs.YtijlnmgondibnaaGreatDoor
namespace Go.Proofs.YtijlnmgondibnaaGreatDoor
open Go.Ex
set_option maxRecDepth 100000
attribute [local irreducible] Go.Ex.exec
theorem a6G {x:List UInt8} {w:f8}:∀ p,(F2 x w p).2.1=w.2.1∧(F2 x w p).1=w.1∧(F2 x w p).2.2.1=w.2.2.1
  | 0=>⟨rfl,rfl,rfl⟩
  | p+1=>by
    obtain ⟨h1,h2,h3⟩:=a6G (x:=x) (w:=w) p
    rw [F2]
    split
    · obtain ⟨g1,g2,g3⟩:=a3I (w:=F2 x w p) (k:=2) (f:=K8 (F2 x w p)) (t:=p) (s:=((F2 x w p).2.2.1.length:Int) - 1) (x:=x)
      exact ⟨g1.trans h1,g2.trans h2,g3.trans h3⟩
    · exact ⟨h1,h2,h3⟩
theorem c1w {x:List UInt8} {w:f8} {p:Nat} (h:r8 (F2 x w p) p=true):F2 x w (p+1)=K9 (F2 x w p) 2 (K8 (F2 x w p)) p (((F2 x w p).2.2.1.length:Int) - 1) x:=by
  rw [F2]; exact if_pos h
theorem c1x {x:List UInt8} {w:f8} {p:Nat} (h:r8 (F2 x w p) p=false):F2 x w (p+1)=F2 x w p:=by
  rw [F2]; exact if_neg (by rw [h]; decide)
theorem a5W {f first:Int} {l:List (List UInt8)} {w:f8}:∀ i,(G9 f first l w i).2.1=w.2.1∧(G9 f first l w i).1=w.1∧(G9 f first l w i).2.2.1.length=w.2.2.1.length+i
  | 0=>⟨rfl,rfl,rfl⟩
  | i+1=>by
    obtain ⟨h1,h2,h3⟩:=a5W (f:=f) (first:=first) (l:=l) (w:=w) i
    rw [G9]
    obtain ⟨g1,g2,g3⟩:=a6G (x:=G8 f (first+i) (l.getD i [])) (w:=a7g (G9 f first l w i) (G8 f (first+i) (l.getD i []))) (G9 f first l w i).2.1.length
    refine ⟨g1.trans h1,g2.trans h2,?_⟩
    rw [g3]
    show ((G9 f first l w i).2.2.1++[_]).length=_
    rw [List.length_append,h3]; rfl
def b36:p7:={ ps:=[.rw w9,.v b0R],rs:=[],pre:=fun x=>List.length (α:=o8) (x.1:f8).2.1≤6∧(¬ known x.1 x.2.1.2.1≠0)∧List.length (α:=List UInt8) (x.1:f8).2.2.1≤1000000000000,fn:=fun _=>(),out:=fun x=>(U6 x.1 x.2.1,()) }
noncomputable def a15:Env:={ P:=Tryz.prog,tt:=tt,C0:=[(83,b80),(50,b4a),(47,a8x),(43,a9D),(44,b34)],res:=[],rs:=[],ps:=[PK.rw w9,PK.v (Ty.pair e8 (Ty.pair e8 (Ty.pair e8 (Ty.pair e8 (Ty.pair e8 (Ty.pair V2 (Ty.pair Ty.str Ty.unit)))))))],y6:=[(7,[(0,none),(3,none),(8,none),(45,some (Ty.d0 true Ty.str)),(46,none),(47,none)]),(12,[(0,none),(3,none),(8,none),(11,none),(45,some (Ty.d0 true Ty.str)),(46,none),(47,none),(78,none),(79,none)])],nt:=99 }
theorem a24:u7 a15:=x6 p9 ⟨a7N,a6D,a1I,a4b,a5o,trivial⟩
theorem a23:B0 a15 Tryz.f66:=⟨rfl,rfl⟩
theorem c2f (x0_1_1:Int) (x0_1_2_1:Int) (x0_2_1:List o8) (x0_2_2_1:List (List UInt8)) (x0_2_2_2_1:List (List UInt8)) (x1_1:Int) (x1_2_1:Int) (x1_2_2_1:Int) (x1_2_2_2_1:Int) (x1_2_2_2_2_1:Int) (x1_2_2_2_2_2_1:List Int) (x1_2_2_2_2_2_2_1:List UInt8):exec a15 1000 [.code (d9 Tryz.prog 66)] (s6 b36.ps ((((x0_1_1,x0_1_2_1,()),x0_2_1,x0_2_2_1,x0_2_2_2_1,()),(x1_1,x1_2_1,x1_2_2_1,x1_2_2_2_1,x1_2_2_2_2_1,x1_2_2_2_2_2_1,x1_2_2_2_2_2_2_1,()),()))) =
  .f6 ((0:Int)≤x1_2_1∧x1_2_1<(↑(List.length x0_2_1):Int)) (.f6 (True) (cond (decide (Prod.fst (Prod.snd (Prod.snd (C3 (Prod.fst (Prod.snd (Prod.snd (Prod.snd (Prod.snd (List.getD x0_2_1 (Int.toNat x1_2_1) (false,[],((0:Int),[],()),((0:Int),[],()),((0:Int),[],()),()))))))) (x1_2_2_2_2_1,x1_2_2_2_2_2_2_1,()))))≠(0:Int))) (.ret ((((x0_1_1,x0_1_2_1,()),x0_2_1,x0_2_2_1,x0_2_2_2_1,()),()))) (.ctL (f9 (d9 Tryz.prog 66) 7) (St.mk [(0,AV.ptr 2000000 []),(3,AV.ptr 3 []),(8,AV.val e8 (Prod.fst (Prod.fst (Prod.snd (Prod.snd (Prod.snd (Prod.snd (List.getD x0_2_1 (Int.toNat x1_2_1) (false,[],((0:Int),[],()),((0:Int),[],()),((0:Int),[],()),()))))))))),(45,AV.at_ 1000045 []),(46,AV.val e8 (↑(List.length (Prod.fst (Prod.snd (C3 (Prod.fst (Prod.snd (Prod.snd (Prod.snd (Prod.snd (List.getD x0_2_1 (Int.toNat x1_2_1) (false,[],((0:Int),[],()),((0:Int),[],()),((0:Int),[],()),()))))))) (x1_2_2_2_2_1,x1_2_2_2_2_2_2_1,()))))):Int)),(47,AV.val e8 (0:Int))] [(3,g8.var (Ty.pair e8 (Ty.pair e8 (Ty.pair e8 (Ty.pair e8 (Ty.pair e8 (Ty.pair V2 (Ty.pair Ty.str Ty.unit))))))) (x1_1,x1_2_1,x1_2_2_1,x1_2_2_2_1,x1_2_2_2_2_1,x1_2_2_2_2_2_1,x1_2_2_2_2_2_2_1,())),(1000045,g8.own (Ty.d0 true Ty.str) (Prod.fst (Prod.snd (C3 (Prod.fst (Prod.snd (Prod.snd (Prod.snd (Prod.snd (List.getD x0_2_1 (Int.toNat x1_2_1) (false,[],((0:Int),[],()),((0:Int),[],()),((0:Int),[],()),()))))))) (x1_2_2_2_2_1,x1_2_2_2_2_2_2_1,()))))),(2000000,g8.var w9 ((x0_1_1,x0_1_2_1,()),List.set x0_2_1 (Int.toNat x1_2_1) (Prod.fst (List.getD x0_2_1 (Int.toNat x1_2_1) (false,[],((0:Int),[],()),((0:Int),[],()),((0:Int),[],()),())),Prod.fst (Prod.snd (List.getD x0_2_1 (Int.toNat x1_2_1) (false,[],((0:Int),[],()),((0:Int),[],()),((0:Int),[],()),()))),Prod.fst (Prod.snd (Prod.snd (List.getD x0_2_1 (Int.toNat x1_2_1) (false,[],((0:Int),[],()),((0:Int),[],()),((0:Int),[],()),())))),Prod.fst (Prod.snd (Prod.snd (Prod.snd (List.getD x0_2_1 (Int.toNat x1_2_1) (false,[],((0:Int),[],()),((0:Int),[],()),((0:Int),[],()),()))))),Prod.fst (C3 (Prod.fst (Prod.snd (Prod.snd (Prod.snd (Prod.snd (List.getD x0_2_1 (Int.toNat x1_2_1) (false,[],((0:Int),[],()),((0:Int),[],()),((0:Int),[],()),()))))))) (x1_2_2_2_2_1,x1_2_2_2_2_2_2_1,())),Prod.snd (Prod.snd (Prod.snd (Prod.snd (Prod.snd (List.getD x0_2_1 (Int.toNat x1_2_1) (false,[],((0:Int),[],()),((0:Int),[],()),((0:Int),[],()),()))))))),x0_2_2_1,x0_2_2_2_1,()))])))):=by kernel_rfl
def a5E (v8:Int) (v46:Int) (v47:Int) (o3_1:Int) (o3_2_1:Int) (o3_2_2_1:Int) (o3_2_2_2_1:Int) (o3_2_2_2_2_1:Int) (o3_2_2_2_2_2_1:List Int) (o3_2_2_2_2_2_2_1:List UInt8) (oy045:List (List UInt8)) (oz_1_1:Int) (oz_1_2_1:Int) (oz_2_1:List o8) (oz_2_2_1:List (List UInt8)) (oz_2_2_2_1:List (List UInt8)):St:=St.mk [(0,AV.ptr 2000000 []),(3,AV.ptr 3 []),(8,AV.val e8 v8),(45,AV.at_ 1000045 []),(46,AV.val e8 v46),(47,AV.val e8 v47)] [(3,g8.var (Ty.pair e8 (Ty.pair e8 (Ty.pair e8 (Ty.pair e8 (Ty.pair e8 (Ty.pair V2 (Ty.pair Ty.str Ty.unit))))))) (o3_1,o3_2_1,o3_2_2_1,o3_2_2_2_1,o3_2_2_2_2_1,o3_2_2_2_2_2_1,o3_2_2_2_2_2_2_1,())),(1000045,g8.own (Ty.d0 true Ty.str) oy045),(2000000,g8.var w9 ((oz_1_1,oz_1_2_1,()),oz_2_1,oz_2_2_1,oz_2_2_2_1,()))]
theorem c0b (v8:Int) (v46:Int) (v47:Int) (o3_1:Int) (o3_2_1:Int) (o3_2_2_1:Int) (o3_2_2_2_1:Int) (o3_2_2_2_2_1:Int) (o3_2_2_2_2_2_1:List Int) (o3_2_2_2_2_2_2_1:List UInt8) (oy045:List (List UInt8)) (oz_1_1:Int) (oz_1_2_1:Int) (oz_2_1:List o8) (oz_2_2_1:List (List UInt8)) (oz_2_2_2_1:List (List UInt8)):exec a15 1000 (.code (f9 (d9 Tryz.prog 66) 7).1::.inLoop (f9 (d9 Tryz.prog 66) 7).1::(f9 (d9 Tryz.prog 66) 7).2) (a5E v8 v46 v47 o3_1 o3_2_1 o3_2_2_1 o3_2_2_2_1 o3_2_2_2_2_1 o3_2_2_2_2_2_1 o3_2_2_2_2_2_2_1 oy045 oz_1_1 oz_1_2_1 oz_2_1 oz_2_2_1 oz_2_2_2_1) =
  cond (decide (v47<v46)) (.f6 ((0:Int)≤v47∧v47<(↑(List.length oy045):Int)) (.f6 (True) (.f6 (List.length (D0 o3_2_1)+List.length (Array.toList (ByteArray.data (ByteArray.mk #[(58:UInt8)])))≤Go.maxLen) (.f6 (q9 IntKind.i64 (v8+v47)) (.f6 (True) (.f6 (List.length (D0 o3_2_1++Array.toList (ByteArray.data (ByteArray.mk #[(58:UInt8)])))+List.length (D0 (v8+v47))≤Go.maxLen) (.f6 (List.length (D0 o3_2_1++Array.toList (ByteArray.data (ByteArray.mk #[(58:UInt8)]))++D0 (v8+v47))+List.length (Array.toList (ByteArray.data (ByteArray.mk #[(58:UInt8)])))≤Go.maxLen) (.f6 (List.length (D0 o3_2_1++Array.toList (ByteArray.data (ByteArray.mk #[(58:UInt8)]))++D0 (v8+v47)++Array.toList (ByteArray.data (ByteArray.mk #[(58:UInt8)])))+List.length (List.getD oy045 (Int.toNat v47) [])≤Go.maxLen) (.f6 (True∧True∧[]++[Step.l7 2]=[]++[Step.l7 2]∧List.length oz_2_2_1+List.length (List.set [[]] (Int.toNat (↑0:Int)) (D0 o3_2_1++Array.toList (ByteArray.data (ByteArray.mk #[(58:UInt8)]))++D0 (v8+v47)++Array.toList (ByteArray.data (ByteArray.mk #[(58:UInt8)]))++List.getD oy045 (Int.toNat v47) []))≤140737488355328∧(List.length oz_2_2_1+List.length (List.set [[]] (Int.toNat (↑0:Int)) (D0 o3_2_1++Array.toList (ByteArray.data (ByteArray.mk #[(58:UInt8)]))++D0 (v8+v47)++Array.toList (ByteArray.data (ByteArray.mk #[(58:UInt8)]))++List.getD oy045 (Int.toNat v47) [])))*Ty.wb Ty.str≤140737488355328) (.ctL (f9 (d9 Tryz.prog 66) 12) (St.mk [(0,AV.ptr 2000000 []),(3,AV.ptr 3 []),(8,AV.val e8 v8),(11,AV.val Ty.str (D0 o3_2_1++Array.toList (ByteArray.data (ByteArray.mk #[(58:UInt8)]))++D0 (v8+v47)++Array.toList (ByteArray.data (ByteArray.mk #[(58:UInt8)]))++List.getD oy045 (Int.toNat v47) [])),(45,AV.at_ 1000045 []),(46,AV.val e8 v46),(47,AV.val e8 v47),(78,AV.val e8 (↑(List.length oz_2_1):Int)),(79,AV.val e8 (0:Int))] [(3,g8.var (Ty.pair e8 (Ty.pair e8 (Ty.pair e8 (Ty.pair e8 (Ty.pair e8 (Ty.pair V2 (Ty.pair Ty.str Ty.unit))))))) (o3_1,o3_2_1,o3_2_2_1,o3_2_2_2_1,o3_2_2_2_2_1,o3_2_2_2_2_2_1,o3_2_2_2_2_2_2_1,())),(1000045,g8.own (Ty.d0 true Ty.str) oy045),(2000000,g8.var w9 ((oz_1_1,oz_1_2_1,()),oz_2_1,oz_2_2_1++List.set [[]] (Int.toNat (↑0:Int)) (D0 o3_2_1++Array.toList (ByteArray.data (ByteArray.mk #[(58:UInt8)]))++D0 (v8+v47)++Array.toList (ByteArray.data (ByteArray.mk #[(58:UInt8)]))++List.getD oy045 (Int.toNat v47) []),oz_2_2_2_1,()))]))))))))))) (.ret ((((oz_1_1,oz_1_2_1,()),oz_2_1,oz_2_2_1,oz_2_2_2_1,()),()))):=by kernel_rfl
def a4h (v8:Int) (v11:List UInt8) (v46:Int) (v47:Int) (v78:Int) (v79:Int) (o3_1:Int) (o3_2_1:Int) (o3_2_2_1:Int) (o3_2_2_2_1:Int) (o3_2_2_2_2_1:Int) (o3_2_2_2_2_2_1:List Int) (o3_2_2_2_2_2_2_1:List UInt8) (oy045:List (List UInt8)) (oz_1_1:Int) (oz_1_2_1:Int) (oz_2_1:List o8) (oz_2_2_1:List (List UInt8)) (oz_2_2_2_1:List (List UInt8)):St:=St.mk [(0,AV.ptr 2000000 []),(3,AV.ptr 3 []),(8,AV.val e8 v8),(11,AV.val Ty.str v11),(45,AV.at_ 1000045 []),(46,AV.val e8 v46),(47,AV.val e8 v47),(78,AV.val e8 v78),(79,AV.val e8 v79)] [(3,g8.var (Ty.pair e8 (Ty.pair e8 (Ty.pair e8 (Ty.pair e8 (Ty.pair e8 (Ty.pair V2 (Ty.pair Ty.str Ty.unit))))))) (o3_1,o3_2_1,o3_2_2_1,o3_2_2_2_1,o3_2_2_2_2_1,o3_2_2_2_2_2_1,o3_2_2_2_2_2_2_1,())),(1000045,g8.own (Ty.d0 true Ty.str) oy045),(2000000,g8.var w9 ((oz_1_1,oz_1_2_1,()),oz_2_1,oz_2_2_1,oz_2_2_2_1,()))]
theorem b6z (v8:Int) (v11:List UInt8) (v46:Int) (v47:Int) (v78:Int) (v79:Int) (o3_1:Int) (o3_2_1:Int) (o3_2_2_1:Int) (o3_2_2_2_1:Int) (o3_2_2_2_2_1:Int) (o3_2_2_2_2_2_1:List Int) (o3_2_2_2_2_2_2_1:List UInt8) (oy045:List (List UInt8)) (oz_1_1:Int) (oz_1_2_1:Int) (oz_2_1:List o8) (oz_2_2_1:List (List UInt8)) (oz_2_2_2_1:List (List UInt8)):exec a15 1000 (.code (f9 (d9 Tryz.prog 66) 12).1::.inLoop (f9 (d9 Tryz.prog 66) 12).1::(f9 (d9 Tryz.prog 66) 12).2) (a4h v8 v11 v46 v47 v78 v79 o3_1 o3_2_1 o3_2_2_1 o3_2_2_2_1 o3_2_2_2_2_1 o3_2_2_2_2_2_1 o3_2_2_2_2_2_2_1 oy045 oz_1_1 oz_1_2_1 oz_2_1 oz_2_2_1 oz_2_2_2_1) =
  cond (decide (v79<v78)) (.f6 (List.length oz_2_1≤6) (cond (r8 ((oz_1_1,oz_1_2_1,()),oz_2_1,oz_2_2_1,oz_2_2_2_1,()) v79) (.f6 (True) (.f6 (q9 IntKind.i64 ((↑(List.length oz_2_2_1):Int) - (1:Int))) (.f6 (True) (.f6 (q9 IntKind.i64 (v79+(1:Int))) (.ctL (f9 (d9 Tryz.prog 66) 12) (St.mk [(0,AV.ptr 2000000 []),(3,AV.ptr 3 []),(8,AV.val e8 v8),(11,AV.val Ty.str v11),(45,AV.at_ 1000045 []),(46,AV.val e8 v46),(47,AV.val e8 v47),(78,AV.val e8 v78),(79,AV.val e8 (v79+(1:Int)))] [(3,g8.var (Ty.pair e8 (Ty.pair e8 (Ty.pair e8 (Ty.pair e8 (Ty.pair e8 (Ty.pair V2 (Ty.pair Ty.str Ty.unit))))))) (o3_1,o3_2_1,o3_2_2_1,o3_2_2_2_1,o3_2_2_2_2_1,o3_2_2_2_2_2_1,o3_2_2_2_2_2_2_1,())),(1000045,g8.own (Ty.d0 true Ty.str) oy045),(2000000,g8.var w9 (K9 ((oz_1_1,oz_1_2_1,()),oz_2_1,oz_2_2_1,oz_2_2_2_1,()) (2:Int) (K8 ((oz_1_1,oz_1_2_1,()),oz_2_1,oz_2_2_1,oz_2_2_2_1,())) v79 ((↑(List.length oz_2_2_1):Int) - (1:Int)) v11))])))))) (.f6 (q9 IntKind.i64 (v79+(1:Int))) (.ctL (f9 (d9 Tryz.prog 66) 12) (St.mk [(0,AV.ptr 2000000 []),(3,AV.ptr 3 []),(8,AV.val e8 v8),(11,AV.val Ty.str v11),(45,AV.at_ 1000045 []),(46,AV.val e8 v46),(47,AV.val e8 v47),(78,AV.val e8 v78),(79,AV.val e8 (v79+(1:Int)))] [(3,g8.var (Ty.pair e8 (Ty.pair e8 (Ty.pair e8 (Ty.pair e8 (Ty.pair e8 (Ty.pair V2 (Ty.pair Ty.str Ty.unit))))))) (o3_1,o3_2_1,o3_2_2_1,o3_2_2_2_1,o3_2_2_2_2_1,o3_2_2_2_2_2_1,o3_2_2_2_2_2_2_1,())),(1000045,g8.own (Ty.d0 true Ty.str) oy045),(2000000,g8.var w9 ((oz_1_1,oz_1_2_1,()),oz_2_1,oz_2_2_1,oz_2_2_2_1,()))]))))) (.f6 (q9 IntKind.i64 (v47+(1:Int))) (.ctL (f9 (d9 Tryz.prog 66) 7) (St.mk [(0,AV.ptr 2000000 []),(3,AV.ptr 3 []),(8,AV.val e8 v8),(45,AV.at_ 1000045 []),(46,AV.val e8 v46),(47,AV.val e8 (v47+(1:Int)))] [(3,g8.var (Ty.pair e8 (Ty.pair e8 (Ty.pair e8 (Ty.pair e8 (Ty.pair e8 (Ty.pair V2 (Ty.pair Ty.str Ty.unit))))))) (o3_1,o3_2_1,o3_2_2_1,o3_2_2_2_1,o3_2_2_2_2_1,o3_2_2_2_2_2_1,o3_2_2_2_2_2_2_1,())),(1000045,g8.own (Ty.d0 true Ty.str) oy045),(2000000,g8.var w9 ((oz_1_1,oz_1_2_1,()),oz_2_1,oz_2_2_1,oz_2_2_2_1,()))]))):=by kernel_rfl
attribute [local irreducible] U6 K9 C3 D0 G9 F2 in
theorem b35:b36.Valid Tryz.prog 66:=by
  refine p7.o6 a24 rfl rfl Tryz.func66 (c:=d9 Tryz.prog 66) rfl rfl a23 rfl ?_
  rintro ⟨⟨⟨(v0:Int),(v1:Int),⟨⟩⟩,(al:List o8),(od:List (List UInt8)),(wy:List (List UInt8)),⟨⟩⟩,⟨(nk:Int),(nf:Int),(nt:Int),(nv:Int),(ns:Int),(na:List Int),(nx:List UInt8),⟨⟩⟩,⟨⟩⟩ ⟨(hp:al.length≤6),(hk:¬ known ((v0,v1,()),al,od,wy,()) nf≠0),(ho:od.length≤1000000000000)⟩ ⟨-,⟨⟨-,(hnf:q9 .i64 nf),-⟩,-⟩⟩
  refine j5 (n:=1000) a24 a23 ?_
  refine g9 (c2f v0 v1 al od wy nk nf nt nv ns na nx) ?_
  simp only [j8,Tree.holds,true_and,true_implies,decide_eq_true_eq,decide_eq_false_iff_not,Bool.not_eq_true',Bool.not_eq_false',Int.toNat_natCast,j9,List.length_set,List.length_cons,List.length_nil]
  have key:∀ r:f8,U6 ((v0,v1,()),al,od,wy,()) (nk,nf,nt,nv,ns,na,nx,())=r→(((r,()):f8×Unit)=(U6 ((v0,v1,()),al,od,wy,()) (nk,nf,nt,nv,ns,na,nx,()),())):=by rintro r rfl; rfl
  have e1:=fun a=>(U6.eq_1 ((v0,v1,()),al,od,wy,()) (nk,nf,nt,nv,ns,na,nx,())).trans (if_pos a)
  have e2:=fun a=>(U6.eq_1 ((v0,v1,()),al,od,wy,()) (nk,nf,nt,nv,ns,na,nx,())).trans (if_neg a)
  refine ⟨a5c hk,fun _=>⟨fun a=>key _ (e1 a),fun a=>?_⟩⟩
  have e3:=e2 a
  have hall:=a0G (Decidable.not_not.1 a)
  obtain ⟨w,hw⟩:∃ w:f8,w=a1k ((v0,v1,()),al,od,wy,()) nf (a2o (K6 ((v0,v1,()),al,od,wy,()) nf) (W0 ((v0,v1,()),al,od,wy,()) (nk,nf,nt,nv,ns,na,nx,())).1):=⟨_,rfl⟩
  obtain ⟨first,hf⟩:∃ first,first=(K6 ((v0,v1,()),al,od,wy,()) nf).2.2.2.2.1.1:=⟨_,rfl⟩
  obtain ⟨l,hl⟩:∃ l,l=(W0 ((v0,v1,()),al,od,wy,()) (nk,nf,nt,nv,ns,na,nx,())).2.1:=⟨_,rfl⟩
  have hwl:w.2.1.length=al.length:=by rw [hw]; exact List.length_set ..
  have hwo:w.2.2.1=od:=by rw [hw]; rfl
  have h0:0≤first∧first≤16777215:=by rw [hf]; exact hall.2.2.2.1
  have hll:l.length≤16:=by rw [hl]; exact hall.2.2.1
  have hlt:∀ t∈l,D5 t=false:=by rw [hl]; exact fun t ht=>(hall.1 t ht).2
  suffices go:Go.Ex.Reach a15 Tryz.f66 () (G9 nf first l w l.length,()) (.code (f9 (d9 Tryz.prog 66) 7).1::.inLoop (f9 (d9 Tryz.prog 66) 7).1::(f9 (d9 Tryz.prog 66) 7).2) (a5E first (l.length:Int) ((0:Nat):Int) nk nf nt nv ns na nx l (G9 nf first l w 0).1.1 (G9 nf first l w 0).1.2.1 (G9 nf first l w 0).2.1 (G9 nf first l w 0).2.2.1 (G9 nf first l w 0).2.2.2.1) by
    subst hw; subst hf; subst hl
    rw [e3]
    rw [G9] at go
    exact go
  refine Reach.N3 a24 a23 (fun i:Nat=>a5E first (l.length:Int) (i:Int) nk nf nt nv ns na nx l (G9 nf first l w i).1.1 (G9 nf first l w i).1.2.1 (G9 nf first l w i).2.1 (G9 nf first l w i).2.2.1 (G9 nf first l w i).2.2.2.1) (fun i=>i≤l.length)
    (fun i=>l.length - i) 1000 (fun _=>⟨u3 rfl,u3 rfl⟩) ?_ 0 (Nat.zero_le _)
  rintro i k1 - ih
  have k1:i≤l.length:=k1
  refine g9 (c0b ..) ?_
  have e4:((i:Nat):Int)+1=((i+1:Nat):Int):=by omega
  obtain ⟨t1,t2,t3⟩:=a5W (f:=nf) (first:=first) (l:=l) (w:=w) i
  rw [hwo] at t3
  have hnl:(D0 nf).length≤20:=a1u (j9.1 hnf).1 (j9.1 hnf).2
  have hnl2:(D0 (first+i)).length≤20:=a1u (by omega) (by omega)
  have hgl:i<l.length→(l.getD i []).length≤200:=fun h=>a6h (hlt _ (by rw [List.getD_eq_getElem?_getD,List.getElem?_eq_getElem h]; exact List.getElem_mem _))
  have hmx:maxLen=9223372036854775807:=by decide
  have hwb:Ty.wb .str=16:=rfl
  simp only [j8,Tree.holds,true_and,true_implies,decide_eq_true_eq,decide_eq_false_iff_not,Bool.not_eq_true',Bool.not_eq_false',Int.toNat_natCast,j9,List.length_set,List.length_cons,List.length_nil,e4]
  refine ⟨fun c=>⟨by omega,fun _=>⟨?_,fun _=>⟨?_,fun _=>⟨?_,fun _=>⟨?_,fun _=>⟨?_,fun _=>⟨?_,fun _=>?_⟩⟩⟩⟩⟩⟩⟩,fun c=>?_⟩
  · simp only [List.length_cons,List.length_nil,hmx]; omega
  · exact ⟨by omega,by omega⟩
  · simp only [List.length_append,List.length_cons,List.length_nil,hmx]; omega
  · simp only [List.length_append,List.length_cons,List.length_nil,hmx]; omega
  · have:=hgl (by omega)
    simp only [List.length_append,List.length_cons,List.length_nil,hmx]; omega
  · rw [hwb,t3]; omega
  · obtain ⟨x,hx⟩:∃ x,x=G8 nf (first+i) (l.getD i []):=⟨_,rfl⟩
    obtain ⟨u,hu⟩:∃ u,u=a7g (G9 nf first l w i) x:=⟨_,rfl⟩
    have hul:u.2.1=(G9 nf first l w i).2.1:=by rw [hu]; rfl
    suffices go:Go.Ex.Reach a15 Tryz.f66 () (G9 nf first l w l.length,()) (.code (f9 (d9 Tryz.prog 66) 12).1::.inLoop (f9 (d9 Tryz.prog 66) 12).1::(f9 (d9 Tryz.prog 66) 12).2) (a4h first x (l.length:Int) (i:Int) (u.2.1.length:Int) ((0:Nat):Int) nk nf nt nv ns na nx l (F2 x u 0).1.1 (F2 x u 0).1.2.1 (F2 x u 0).2.1 (F2 x u 0).2.2.1 (F2 x u 0).2.2.2.1) by
      subst hu; subst hx
      rw [F2] at go
      exact go
    refine Reach.N3 a24 a23 (fun p:Nat=>a4h first x (l.length:Int) (i:Int) (u.2.1.length:Int) (p:Int) nk nf nt nv ns na nx l (F2 x u p).1.1 (F2 x u p).1.2.1 (F2 x u p).2.1 (F2 x u p).2.2.1 (F2 x u p).2.2.2.1) (fun p=>p≤u.2.1.length)
      (fun p=>u.2.1.length - p) 1000 (fun _=>⟨u3 rfl,u3 rfl⟩) ?_ 0 (Nat.zero_le _)
    rintro p k2 - ih2
    have k2:p≤u.2.1.length:=k2
    refine g9 (b6z ..) ?_
    have e5:((p:Nat):Int)+1=((p+1:Nat):Int):=by omega
    obtain ⟨c1,c2,c3⟩:=a6G (x:=x) (w:=u) p
    have hun:u.2.1.length≤6:=by rw [hul,t1,hwl]; exact hp
    have huo:u.2.2.1.length=od.length+i+1:=by rw [hu]; show ((G9 nf first l w i).2.2.1++[x]).length=_; rw [List.length_append,t3]; rfl
    simp only [j8,Tree.holds,true_and,true_implies,decide_eq_true_eq,decide_eq_false_iff_not,Bool.not_eq_true',Bool.not_eq_false',Int.toNat_natCast,j9,List.length_set,List.length_cons,List.length_nil,e5]
    refine ⟨fun d=>⟨?_,fun _=>⟨fun e=>⟨?_,fun _=>⟨?_,fun _=>?_⟩⟩,fun e=>⟨?_,fun _=>?_⟩⟩⟩,fun d=>⟨?_,fun _=>?_⟩⟩
    · rw [c1]; exact hun
    · rw [c3,huo]; exact ⟨by omega,by omega⟩
    · exact ⟨by omega,by omega⟩
    · have:=ih2 (p+1) (by show p+1≤u.2.1.length; omega) (by show u.2.1.length - (p+1)<u.2.1.length - p; omega)
      rw [c1w e] at this
      exact this
    · exact ⟨by omega,by omega⟩
    · have:=ih2 (p+1) (by show p+1≤u.2.1.length; omega) (by show u.2.1.length - (p+1)<u.2.1.length - p; omega)
      rw [c1x e] at this
      exact this
    · exact ⟨by omega,by omega⟩
    · obtain rfl:p=u.2.1.length:=by omega
      have:=ih (i+1) (by show i+1≤l.length; omega) (by show l.length - (i+1)<l.length - i; omega)
      rw [show G9 nf first l w (i+1)=F2 x u u.2.1.length by rw [G9,hul,hu,hx]] at this
      exact this
  · obtain rfl:i=l.length:=by omega
    rfl
theorem a6l {q:Int} {x:o8} {t:List UInt8} (h:who t=q) (h2:(N1 x.2.2.1 (nth t+1)).2.1=0):a0Q q x t=(x.1,x.2.1++[(who t,a3Y t,())],(N1 x.2.2.1 (nth t+1)).1,x.2.2.2):=by
  rw [a0Q]; exact if_pos ⟨h,h2⟩
theorem a5f {q:Int} {x:o8} {t:List UInt8} (h:¬ (who t=q∧(N1 x.2.2.1 (nth t+1)).2.1=0)):a0Q q x t=(x.1,x.2.1++[(who t,a3Y t,())],x.2.2):=by
  rw [a0Q]; exact if_neg h
theorem b1n (q:Int) (x:o8) (t:List UInt8):(a0Q q x t).2.1=x.2.1++[(who t,a3Y t,())]:=by
  rw [a0Q]; split<;>rfl
theorem a38 {q:Int} {x:o8} {l:List (List UInt8)}:∀ i,(I4 q x l i).2.1.length=x.2.1.length+i
  | 0=>rfl
  | i+1=>by rw [I4,b1n,List.length_append,a38 i]; rfl
def b32:p7:={ ps:=[.rw w9,.v b0R],rs:=[],pre:=fun x=>(LE.le (α:=Int) 0 x.2.1.2.2.1∧LT.lt (α:=Int) x.2.1.2.2.1 (List.length (α:=o8) (x.1:f8).2.1))∧List.length (α:=B9) (K6 x.1 x.2.1.2.2.1).2.1≤1000000000000∧(∀ t∈(M8 x.1 x.2.1).2.1,okT t),fn:=fun _=>(),out:=fun x=>(Z7 x.1 x.2.1,()) }
noncomputable def a64:Env:={ P:=Tryz.prog,tt:=tt,C0:=[(83,b80),(86,c1v),(84,c6A),(85,b9v)],res:=[],rs:=[],ps:=[PK.rw w9,PK.v (Ty.pair e8 (Ty.pair e8 (Ty.pair e8 (Ty.pair e8 (Ty.pair e8 (Ty.pair V2 (Ty.pair Ty.str Ty.unit)))))))],y6:=[(6,[(3,none),(4,none),(49,some (Ty.d0 true Ty.str)),(50,none),(51,none)])],nt:=110 }
theorem a63:u7 a64:=x6 p9 ⟨a7N,b4c,b9q,b6m,trivial⟩
theorem a6X:B0 a64 Tryz.f67:=⟨rfl,rfl⟩
theorem c33 (x0_1_1:Int) (x0_1_2_1:Int) (x0_2_1:List o8) (x0_2_2_1:List (List UInt8)) (x0_2_2_2_1:List (List UInt8)) (x1_1:Int) (x1_2_1:Int) (x1_2_2_1:Int) (x1_2_2_2_1:Int) (x1_2_2_2_2_1:Int) (x1_2_2_2_2_2_1:List Int) (x1_2_2_2_2_2_2_1:List UInt8):exec a64 1000 [.code (d9 Tryz.prog 67)] (s6 b32.ps ((((x0_1_1,x0_1_2_1,()),x0_2_1,x0_2_2_1,x0_2_2_2_1,()),(x1_1,x1_2_1,x1_2_2_1,x1_2_2_2_1,x1_2_2_2_2_1,x1_2_2_2_2_2_1,x1_2_2_2_2_2_2_1,()),()))) =
  .f6 ((0:Int)≤x1_2_2_1∧x1_2_2_1<(↑(List.length x0_2_1):Int)) (.f6 (True) (cond (decide (Prod.fst (Prod.snd (Prod.snd (C3 (Prod.fst (Prod.snd (Prod.snd (Prod.snd (List.getD x0_2_1 (Int.toNat x1_2_2_1) (false,[],((0:Int),[],()),((0:Int),[],()),((0:Int),[],()),())))))) (x1_2_2_2_2_1,x1_2_2_2_2_2_2_1,()))))≠(0:Int))) (.ret ((((x0_1_1,x0_1_2_1,()),x0_2_1,x0_2_2_1,x0_2_2_2_1,()),()))) (.ctL (f9 (d9 Tryz.prog 67) 6) (St.mk [(3,AV.ptr 3 []),(4,AV.ptr 2000000 [Step.l7 1,Step.idx x1_2_2_1]),(49,AV.at_ 1000049 []),(50,AV.val e8 (↑(List.length (Prod.fst (Prod.snd (C3 (Prod.fst (Prod.snd (Prod.snd (Prod.snd (List.getD x0_2_1 (Int.toNat x1_2_2_1) (false,[],((0:Int),[],()),((0:Int),[],()),((0:Int),[],()),())))))) (x1_2_2_2_2_1,x1_2_2_2_2_2_2_1,()))))):Int)),(51,AV.val e8 (0:Int))] [(3,g8.var (Ty.pair e8 (Ty.pair e8 (Ty.pair e8 (Ty.pair e8 (Ty.pair e8 (Ty.pair V2 (Ty.pair Ty.str Ty.unit))))))) (x1_1,x1_2_1,x1_2_2_1,x1_2_2_2_1,x1_2_2_2_2_1,x1_2_2_2_2_2_1,x1_2_2_2_2_2_2_1,())),(1000049,g8.own (Ty.d0 true Ty.str) (Prod.fst (Prod.snd (C3 (Prod.fst (Prod.snd (Prod.snd (Prod.snd (List.getD x0_2_1 (Int.toNat x1_2_2_1) (false,[],((0:Int),[],()),((0:Int),[],()),((0:Int),[],()),())))))) (x1_2_2_2_2_1,x1_2_2_2_2_2_2_1,()))))),(2000000,g8.var w9 ((x0_1_1,x0_1_2_1,()),List.set x0_2_1 (Int.toNat x1_2_2_1) (Prod.fst (List.getD x0_2_1 (Int.toNat x1_2_2_1) (false,[],((0:Int),[],()),((0:Int),[],()),((0:Int),[],()),())),Prod.fst (Prod.snd (List.getD x0_2_1 (Int.toNat x1_2_2_1) (false,[],((0:Int),[],()),((0:Int),[],()),((0:Int),[],()),()))),Prod.fst (Prod.snd (Prod.snd (List.getD x0_2_1 (Int.toNat x1_2_2_1) (false,[],((0:Int),[],()),((0:Int),[],()),((0:Int),[],()),())))),Prod.fst (C3 (Prod.fst (Prod.snd (Prod.snd (Prod.snd (List.getD x0_2_1 (Int.toNat x1_2_2_1) (false,[],((0:Int),[],()),((0:Int),[],()),((0:Int),[],()),())))))) (x1_2_2_2_2_1,x1_2_2_2_2_2_2_1,())),Prod.snd (Prod.snd (Prod.snd (Prod.snd (List.getD x0_2_1 (Int.toNat x1_2_2_1) (false,[],((0:Int),[],()),((0:Int),[],()),((0:Int),[],()),())))))),x0_2_2_1,x0_2_2_2_1,()))])))):=by kernel_rfl
def a62 (v4i:Int) (v50:Int) (v51:Int) (o3_1:Int) (o3_2_1:Int) (o3_2_2_1:Int) (o3_2_2_2_1:Int) (o3_2_2_2_2_1:Int) (o3_2_2_2_2_2_1:List Int) (o3_2_2_2_2_2_2_1:List UInt8) (oy049:List (List UInt8)) (oz_1_1:Int) (oz_1_2_1:Int) (oz_2_1:List o8) (oz_2_2_1:List (List UInt8)) (oz_2_2_2_1:List (List UInt8)):St:=St.mk [(3,AV.ptr 3 []),(4,AV.ptr 2000000 [Step.l7 1,Step.idx v4i]),(49,AV.at_ 1000049 []),(50,AV.val e8 v50),(51,AV.val e8 v51)] [(3,g8.var (Ty.pair e8 (Ty.pair e8 (Ty.pair e8 (Ty.pair e8 (Ty.pair e8 (Ty.pair V2 (Ty.pair Ty.str Ty.unit))))))) (o3_1,o3_2_1,o3_2_2_1,o3_2_2_2_1,o3_2_2_2_2_1,o3_2_2_2_2_2_1,o3_2_2_2_2_2_2_1,())),(1000049,g8.own (Ty.d0 true Ty.str) oy049),(2000000,g8.var w9 ((oz_1_1,oz_1_2_1,()),oz_2_1,oz_2_2_1,oz_2_2_2_1,()))]
theorem c2e (v4i:Int) (v50:Int) (v51:Int) (o3_1:Int) (o3_2_1:Int) (o3_2_2_1:Int) (o3_2_2_2_1:Int) (o3_2_2_2_2_1:Int) (o3_2_2_2_2_2_1:List Int) (o3_2_2_2_2_2_2_1:List UInt8) (oy049:List (List UInt8)) (oz_1_1:Int) (oz_1_2_1:Int) (oz_2_1:List o8) (oz_2_2_1:List (List UInt8)) (oz_2_2_2_1:List (List UInt8)):exec a64 1000 (.code (f9 (d9 Tryz.prog 67) 6).1::.inLoop (f9 (d9 Tryz.prog 67) 6).1::(f9 (d9 Tryz.prog 67) 6).2) (a62 v4i v50 v51 o3_1 o3_2_1 o3_2_2_1 o3_2_2_2_1 o3_2_2_2_2_1 o3_2_2_2_2_2_1 o3_2_2_2_2_2_2_1 oy049 oz_1_1 oz_1_2_1 oz_2_1 oz_2_2_1 oz_2_2_2_1) =
  cond (decide (v51<v50)) (.f6 ((0:Int)≤v51∧v51<(↑(List.length oy049):Int)) (.f6 (List.length (List.getD oy049 (Int.toNat v51) [])≤1000000∧Array.toList (ByteArray.data (ByteArray.mk #[(58:UInt8)]))=[(58:UInt8)]) (.f6 (List.length (Prod.fst (Prod.snd (w6 (List.getD oy049 (Int.toNat v51) []))))≤1000000∧Array.toList (ByteArray.data (ByteArray.mk #[(58:UInt8)]))=[(58:UInt8)]) (.f6 (List.length (Prod.fst (w6 (List.getD oy049 (Int.toNat v51) [])))≤18∧Option.isSome (Go.Lib.atoi (Prod.fst (w6 (List.getD oy049 (Int.toNat v51) []))))=true) (.f6 (True∧True∧[Step.l7 1,Step.idx v4i]++[Step.l7 1]=[Step.l7 1,Step.idx v4i]++[Step.l7 1]∧List.length (Prod.fst (Prod.snd (List.getD oz_2_1 (Int.toNat v4i) (false,[],((0:Int),[],()),((0:Int),[],()),((0:Int),[],()),()))))+List.length (List.set [((0:Int),[],())] (Int.toNat (↑0:Int)) (Option.getD (Go.Lib.atoi (Prod.fst (w6 (List.getD oy049 (Int.toNat v51) [])))) (0:Int),Prod.fst (Prod.snd (w6 (Prod.fst (Prod.snd (w6 (List.getD oy049 (Int.toNat v51) [])))))),()))≤140737488355328∧(List.length (Prod.fst (Prod.snd (List.getD oz_2_1 (Int.toNat v4i) (false,[],((0:Int),[],()),((0:Int),[],()),((0:Int),[],()),()))))+List.length (List.set [((0:Int),[],())] (Int.toNat (↑0:Int)) (Option.getD (Go.Lib.atoi (Prod.fst (w6 (List.getD oy049 (Int.toNat v51) [])))) (0:Int),Prod.fst (Prod.snd (w6 (Prod.fst (Prod.snd (w6 (List.getD oy049 (Int.toNat v51) [])))))),())))*Ty.wb u5≤140737488355328) (cond (decide (Option.getD (Go.Lib.atoi (Prod.fst (w6 (List.getD oy049 (Int.toNat v51) [])))) (0:Int)=o3_2_2_1)) (.f6 (List.length (Prod.fst (w6 (Prod.fst (Prod.snd (w6 (List.getD oy049 (Int.toNat v51) []))))))≤18∧Option.isSome (Go.Lib.atoi (Prod.fst (w6 (Prod.fst (Prod.snd (w6 (List.getD oy049 (Int.toNat v51) [])))))))=true) (.f6 (q9 IntKind.i64 (Option.getD (Go.Lib.atoi (Prod.fst (w6 (Prod.fst (Prod.snd (w6 (List.getD oy049 (Int.toNat v51) []))))))) (0:Int)+(1:Int))) (.f6 ((0:Int)≤Option.getD (Go.Lib.atoi (Prod.fst (w6 (Prod.fst (Prod.snd (w6 (List.getD oy049 (Int.toNat v51) []))))))) (0:Int)+(1:Int)) (cond (decide (Prod.fst (Prod.snd (N1 (Prod.fst (Prod.snd (Prod.snd (List.getD (List.set oz_2_1 (Int.toNat v4i) (Prod.fst (List.getD oz_2_1 (Int.toNat v4i) (false,[],((0:Int),[],()),((0:Int),[],()),((0:Int),[],()),())),Prod.fst (Prod.snd (List.getD oz_2_1 (Int.toNat v4i) (false,[],((0:Int),[],()),((0:Int),[],()),((0:Int),[],()),())))++List.set [((0:Int),[],())] (Int.toNat (↑0:Int)) (Option.getD (Go.Lib.atoi (Prod.fst (w6 (List.getD oy049 (Int.toNat v51) [])))) (0:Int),Prod.fst (Prod.snd (w6 (Prod.fst (Prod.snd (w6 (List.getD oy049 (Int.toNat v51) [])))))),()),Prod.snd (Prod.snd (List.getD oz_2_1 (Int.toNat v4i) (false,[],((0:Int),[],()),((0:Int),[],()),((0:Int),[],()),()))))) (Int.toNat v4i) (false,[],((0:Int),[],()),((0:Int),[],()),((0:Int),[],()),()))))) (Option.getD (Go.Lib.atoi (Prod.fst (w6 (Prod.fst (Prod.snd (w6 (List.getD oy049 (Int.toNat v51) []))))))) (0:Int)+(1:Int))))=(0:Int))) (.f6 (q9 IntKind.i64 (v51+(1:Int))) (.ctL (f9 (d9 Tryz.prog 67) 6) (St.mk [(3,AV.ptr 3 []),(4,AV.ptr 2000000 [Step.l7 1,Step.idx v4i]),(49,AV.at_ 1000049 []),(50,AV.val e8 v50),(51,AV.val e8 (v51+(1:Int)))] [(3,g8.var (Ty.pair e8 (Ty.pair e8 (Ty.pair e8 (Ty.pair e8 (Ty.pair e8 (Ty.pair V2 (Ty.pair Ty.str Ty.unit))))))) (o3_1,o3_2_1,o3_2_2_1,o3_2_2_2_1,o3_2_2_2_2_1,o3_2_2_2_2_2_1,o3_2_2_2_2_2_2_1,())),(1000049,g8.own (Ty.d0 true Ty.str) oy049),(2000000,g8.var w9 ((oz_1_1,oz_1_2_1,()),List.set (List.set oz_2_1 (Int.toNat v4i) (Prod.fst (List.getD oz_2_1 (Int.toNat v4i) (false,[],((0:Int),[],()),((0:Int),[],()),((0:Int),[],()),())),Prod.fst (Prod.snd (List.getD oz_2_1 (Int.toNat v4i) (false,[],((0:Int),[],()),((0:Int),[],()),((0:Int),[],()),())))++List.set [((0:Int),[],())] (Int.toNat (↑0:Int)) (Option.getD (Go.Lib.atoi (Prod.fst (w6 (List.getD oy049 (Int.toNat v51) [])))) (0:Int),Prod.fst (Prod.snd (w6 (Prod.fst (Prod.snd (w6 (List.getD oy049 (Int.toNat v51) [])))))),()),Prod.snd (Prod.snd (List.getD oz_2_1 (Int.toNat v4i) (false,[],((0:Int),[],()),((0:Int),[],()),((0:Int),[],()),()))))) (Int.toNat v4i) (Prod.fst (List.getD (List.set oz_2_1 (Int.toNat v4i) (Prod.fst (List.getD oz_2_1 (Int.toNat v4i) (false,[],((0:Int),[],()),((0:Int),[],()),((0:Int),[],()),())),Prod.fst (Prod.snd (List.getD oz_2_1 (Int.toNat v4i) (false,[],((0:Int),[],()),((0:Int),[],()),((0:Int),[],()),())))++List.set [((0:Int),[],())] (Int.toNat (↑0:Int)) (Option.getD (Go.Lib.atoi (Prod.fst (w6 (List.getD oy049 (Int.toNat v51) [])))) (0:Int),Prod.fst (Prod.snd (w6 (Prod.fst (Prod.snd (w6 (List.getD oy049 (Int.toNat v51) [])))))),()),Prod.snd (Prod.snd (List.getD oz_2_1 (Int.toNat v4i) (false,[],((0:Int),[],()),((0:Int),[],()),((0:Int),[],()),()))))) (Int.toNat v4i) (false,[],((0:Int),[],()),((0:Int),[],()),((0:Int),[],()),())),Prod.fst (Prod.snd (List.getD (List.set oz_2_1 (Int.toNat v4i) (Prod.fst (List.getD oz_2_1 (Int.toNat v4i) (false,[],((0:Int),[],()),((0:Int),[],()),((0:Int),[],()),())),Prod.fst (Prod.snd (List.getD oz_2_1 (Int.toNat v4i) (false,[],((0:Int),[],()),((0:Int),[],()),((0:Int),[],()),())))++List.set [((0:Int),[],())] (Int.toNat (↑0:Int)) (Option.getD (Go.Lib.atoi (Prod.fst (w6 (List.getD oy049 (Int.toNat v51) [])))) (0:Int),Prod.fst (Prod.snd (w6 (Prod.fst (Prod.snd (w6 (List.getD oy049 (Int.toNat v51) [])))))),()),Prod.snd (Prod.snd (List.getD oz_2_1 (Int.toNat v4i) (false,[],((0:Int),[],()),((0:Int),[],()),((0:Int),[],()),()))))) (Int.toNat v4i) (false,[],((0:Int),[],()),((0:Int),[],()),((0:Int),[],()),()))),Prod.fst (N1 (Prod.fst (Prod.snd (Prod.snd (List.getD (List.set oz_2_1 (Int.toNat v4i) (Prod.fst (List.getD oz_2_1 (Int.toNat v4i) (false,[],((0:Int),[],()),((0:Int),[],()),((0:Int),[],()),())),Prod.fst (Prod.snd (List.getD oz_2_1 (Int.toNat v4i) (false,[],((0:Int),[],()),((0:Int),[],()),((0:Int),[],()),())))++List.set [((0:Int),[],())] (Int.toNat (↑0:Int)) (Option.getD (Go.Lib.atoi (Prod.fst (w6 (List.getD oy049 (Int.toNat v51) [])))) (0:Int),Prod.fst (Prod.snd (w6 (Prod.fst (Prod.snd (w6 (List.getD oy049 (Int.toNat v51) [])))))),()),Prod.snd (Prod.snd (List.getD oz_2_1 (Int.toNat v4i) (false,[],((0:Int),[],()),((0:Int),[],()),((0:Int),[],()),()))))) (Int.toNat v4i) (false,[],((0:Int),[],()),((0:Int),[],()),((0:Int),[],()),()))))) (Option.getD (Go.Lib.atoi (Prod.fst (w6 (Prod.fst (Prod.snd (w6 (List.getD oy049 (Int.toNat v51) []))))))) (0:Int)+(1:Int))),Prod.snd (Prod.snd (Prod.snd (List.getD (List.set oz_2_1 (Int.toNat v4i) (Prod.fst (List.getD oz_2_1 (Int.toNat v4i) (false,[],((0:Int),[],()),((0:Int),[],()),((0:Int),[],()),())),Prod.fst (Prod.snd (List.getD oz_2_1 (Int.toNat v4i) (false,[],((0:Int),[],()),((0:Int),[],()),((0:Int),[],()),())))++List.set [((0:Int),[],())] (Int.toNat (↑0:Int)) (Option.getD (Go.Lib.atoi (Prod.fst (w6 (List.getD oy049 (Int.toNat v51) [])))) (0:Int),Prod.fst (Prod.snd (w6 (Prod.fst (Prod.snd (w6 (List.getD oy049 (Int.toNat v51) [])))))),()),Prod.snd (Prod.snd (List.getD oz_2_1 (Int.toNat v4i) (false,[],((0:Int),[],()),((0:Int),[],()),((0:Int),[],()),()))))) (Int.toNat v4i) (false,[],((0:Int),[],()),((0:Int),[],()),((0:Int),[],()),()))))),oz_2_2_1,oz_2_2_2_1,()))]))) (.f6 (q9 IntKind.i64 (v51+(1:Int))) (.ctL (f9 (d9 Tryz.prog 67) 6) (St.mk [(3,AV.ptr 3 []),(4,AV.ptr 2000000 [Step.l7 1,Step.idx v4i]),(49,AV.at_ 1000049 []),(50,AV.val e8 v50),(51,AV.val e8 (v51+(1:Int)))] [(3,g8.var (Ty.pair e8 (Ty.pair e8 (Ty.pair e8 (Ty.pair e8 (Ty.pair e8 (Ty.pair V2 (Ty.pair Ty.str Ty.unit))))))) (o3_1,o3_2_1,o3_2_2_1,o3_2_2_2_1,o3_2_2_2_2_1,o3_2_2_2_2_2_1,o3_2_2_2_2_2_2_1,())),(1000049,g8.own (Ty.d0 true Ty.str) oy049),(2000000,g8.var w9 ((oz_1_1,oz_1_2_1,()),List.set oz_2_1 (Int.toNat v4i) (Prod.fst (List.getD oz_2_1 (Int.toNat v4i) (false,[],((0:Int),[],()),((0:Int),[],()),((0:Int),[],()),())),Prod.fst (Prod.snd (List.getD oz_2_1 (Int.toNat v4i) (false,[],((0:Int),[],()),((0:Int),[],()),((0:Int),[],()),())))++List.set [((0:Int),[],())] (Int.toNat (↑0:Int)) (Option.getD (Go.Lib.atoi (Prod.fst (w6 (List.getD oy049 (Int.toNat v51) [])))) (0:Int),Prod.fst (Prod.snd (w6 (Prod.fst (Prod.snd (w6 (List.getD oy049 (Int.toNat v51) [])))))),()),Prod.snd (Prod.snd (List.getD oz_2_1 (Int.toNat v4i) (false,[],((0:Int),[],()),((0:Int),[],()),((0:Int),[],()),())))),oz_2_2_1,oz_2_2_2_1,()))]))))))) (.f6 (q9 IntKind.i64 (v51+(1:Int))) (.ctL (f9 (d9 Tryz.prog 67) 6) (St.mk [(3,AV.ptr 3 []),(4,AV.ptr 2000000 [Step.l7 1,Step.idx v4i]),(49,AV.at_ 1000049 []),(50,AV.val e8 v50),(51,AV.val e8 (v51+(1:Int)))] [(3,g8.var (Ty.pair e8 (Ty.pair e8 (Ty.pair e8 (Ty.pair e8 (Ty.pair e8 (Ty.pair V2 (Ty.pair Ty.str Ty.unit))))))) (o3_1,o3_2_1,o3_2_2_1,o3_2_2_2_1,o3_2_2_2_2_1,o3_2_2_2_2_2_1,o3_2_2_2_2_2_2_1,())),(1000049,g8.own (Ty.d0 true Ty.str) oy049),(2000000,g8.var w9 ((oz_1_1,oz_1_2_1,()),List.set oz_2_1 (Int.toNat v4i) (Prod.fst (List.getD oz_2_1 (Int.toNat v4i) (false,[],((0:Int),[],()),((0:Int),[],()),((0:Int),[],()),())),Prod.fst (Prod.snd (List.getD oz_2_1 (Int.toNat v4i) (false,[],((0:Int),[],()),((0:Int),[],()),((0:Int),[],()),())))++List.set [((0:Int),[],())] (Int.toNat (↑0:Int)) (Option.getD (Go.Lib.atoi (Prod.fst (w6 (List.getD oy049 (Int.toNat v51) [])))) (0:Int),Prod.fst (Prod.snd (w6 (Prod.fst (Prod.snd (w6 (List.getD oy049 (Int.toNat v51) [])))))),()),Prod.snd (Prod.snd (List.getD oz_2_1 (Int.toNat v4i) (false,[],((0:Int),[],()),((0:Int),[],()),((0:Int),[],()),())))),oz_2_2_1,oz_2_2_2_1,()))]))))))))) (.ret ((((oz_1_1,oz_1_2_1,()),oz_2_1,oz_2_2_1,oz_2_2_2_1,()),()))):=by kernel_rfl
attribute [local irreducible] Z7 C3 N1 w6 Lib.atoi in
theorem b31:b32.Valid Tryz.prog 67:=by
  refine p7.o6 a63 rfl rfl Tryz.func67 (c:=d9 Tryz.prog 67) rfl rfl a6X rfl ?_
  rintro ⟨⟨⟨(v0:Int),(v1:Int),⟨⟩⟩,(al:List o8),(od:List (List UInt8)),(wy:List (List UInt8)),⟨⟩⟩,⟨(nk:Int),(nf:Int),(nt:Int),(nv:Int),(ns:Int),(na:List Int),(nx:List UInt8),⟨⟩⟩,⟨⟩⟩ ⟨(hp:0≤nt∧nt<(al.length:Int)),(hl:(K6 ((v0,v1,()),al,od,wy,()) nt).2.1.length≤1000000000000),(hok:∀ t∈(M8 ((v0,v1,()),al,od,wy,()) (nk,nf,nt,nv,ns,na,nx,())).2.1,okT t)⟩ -
  refine j5 (n:=1000) a63 a6X ?_
  refine g9 (c33 v0 v1 al od wy nk nf nt nv ns na nx) ?_
  simp only [j8,Tree.holds,true_and,true_implies,decide_eq_true_eq,decide_eq_false_iff_not,Bool.not_eq_true',Bool.not_eq_false',Int.toNat_natCast,j9,List.length_set,List.length_cons,List.length_nil]
  have e1:=fun a=>(Z7.eq_1 ((v0,v1,()),al,od,wy,()) (nk,nf,nt,nv,ns,na,nx,())).trans (if_pos a)
  have e2:=fun a=>(Z7.eq_1 ((v0,v1,()),al,od,wy,()) (nk,nf,nt,nv,ns,na,nx,())).trans (if_neg a)
  have key:∀ r:f8,Z7 ((v0,v1,()),al,od,wy,()) (nk,nf,nt,nv,ns,na,nx,())=r→(((r,()):f8×Unit)=(Z7 ((v0,v1,()),al,od,wy,()) (nk,nf,nt,nv,ns,na,nx,()),())):=by rintro r rfl; rfl
  refine ⟨hp,fun _=>⟨fun a=>key _ (e1 a),fun a=>?_⟩⟩
  have e3:=e2 a
  have hall:=a0G (Decidable.not_not.1 a)
  obtain ⟨x,hx⟩:∃ x:o8,x=a86 (K6 ((v0,v1,()),al,od,wy,()) nt) (M8 ((v0,v1,()),al,od,wy,()) (nk,nf,nt,nv,ns,na,nx,())).1:=⟨_,rfl⟩
  obtain ⟨l,hll⟩:∃ l,l=(M8 ((v0,v1,()),al,od,wy,()) (nk,nf,nt,nv,ns,na,nx,())).2.1:=⟨_,rfl⟩
  have hxl:x.2.1.length≤1000000000000:=by rw [hx]; exact hl
  have hl16:l.length≤16:=by rw [hll]; exact hall.2.2.1
  have hlt:∀ t∈l,D5 t=false:=by rw [hll]; exact fun t ht=>(hall.1 t ht).2
  have hlo:∀ t∈l,okT t:=by rw [hll]; exact hok
  suffices go:Go.Ex.Reach a64 Tryz.f67 () (a1k ((v0,v1,()),al,od,wy,()) nt (I4 nt x l l.length),()) (.code (f9 (d9 Tryz.prog 67) 6).1::.inLoop (f9 (d9 Tryz.prog 67) 6).1::(f9 (d9 Tryz.prog 67) 6).2) (a62 nt (l.length:Int) ((0:Nat):Int) nk nf nt nv ns na nx l v0 v1 (al.set nt.toNat (I4 nt x l 0)) od wy) by
    subst hx; subst hll
    rw [e3]
    rw [I4] at go
    exact go
  refine Reach.N3 a63 a6X (fun i:Nat=>a62 nt (l.length:Int) (i:Int) nk nf nt nv ns na nx l v0 v1 (al.set nt.toNat (I4 nt x l i)) od wy) (fun i=>i≤l.length)
    (fun i=>l.length - i) 1000 (fun _=>⟨u3 rfl,u3 rfl⟩) ?_ 0 (Nat.zero_le _)
  rintro i k1 - ih
  have k1:i≤l.length:=k1
  refine g9 (c2e ..) ?_
  have e4:((i:Nat):Int)+1=((i+1:Nat):Int):=by omega
  have hg:∀ y:o8,(al.set nt.toNat y).getD nt.toNat (false,[],(0,[],()),(0,[],()),(0,[],()),())=y:=fun y=>by
    rw [List.getD_eq_getElem?_getD,List.getElem?_set_self (by omega)]; rfl
  have hss:∀ y z:o8,(al.set nt.toNat y).set nt.toNat z=al.set nt.toNat z:=fun y z=>List.set_set ..
  have hwb:Ty.wb u5=24:=rfl
  have hlen:=a38 (q:=nt) (x:=x) (l:=l) i
  obtain ⟨y,hy⟩:∃ y,y=I4 nt x l i:=⟨_,rfl⟩
  obtain ⟨t,ht⟩:∃ t,t=l.getD i []:=⟨_,rfl⟩
  have hs:I4 nt x l (i+1)=a0Q nt y t:=by rw [I4,← hy,← ht]
  have hT:i<l.length→D5 t=false∧okT t:=fun h=>by
    have:t∈l:=by rw [ht,List.getD_eq_getElem?_getD,List.getElem?_eq_getElem h]; exact List.getElem_mem _
    exact ⟨hlt t this,hlo t this⟩
  have ih1:i<l.length→_:=fun h=>ih (i+1) (by show i+1≤l.length; omega) (by show l.length - (i+1)<l.length - i; omega)
  rw [hs] at ih1
  rw [← hy] at hlen ⊢
  simp only [j8,Tree.holds,true_and,true_implies,decide_eq_true_eq,decide_eq_false_iff_not,Bool.not_eq_true',Bool.not_eq_false',Int.toNat_natCast,j9,List.length_set,List.length_cons,List.length_nil,e4,hg,hss]
  rw [← ht]
  have hc1:=a3r t
  have hc2:=a3r (w6 t).2.1
  refine ⟨fun c=>?_,fun c=>?_⟩
  · have c':i<l.length:=by omega
    obtain ⟨g1,g2⟩:=hT c'
    have g3:=a6h g1
    have g4:=c43 g2
    refine ⟨⟨by omega,by omega⟩,fun _=>⟨⟨by omega,trivial⟩,fun _=>⟨⟨by omega,trivial⟩,fun _=>⟨g4.1,fun _=>⟨?_,fun _=>⟨fun d=>⟨g4.2.1,fun _=>⟨?_,fun _=>⟨?_,fun _=>⟨fun e=>⟨?_,fun _=>?_⟩,fun e=>⟨?_,fun _=>?_⟩⟩⟩⟩⟩,fun d=>⟨?_,fun _=>?_⟩⟩⟩⟩⟩⟩⟩
    · rw [hwb]; omega
    · have:0≤nth t∧nth t≤16777300:=g4.2.2
      show q9 .i64 (nth t+1)
      exact j9.2 ⟨by omega,by omega⟩
    · have:0≤nth t∧nth t≤16777300:=g4.2.2
      show 0≤nth t+1
      omega
    · exact ⟨by omega,by omega⟩
    · have:=ih1 c'
      rw [a6l d e] at this
      exact this
    · exact ⟨by omega,by omega⟩
    · have:=ih1 c'
      rw [a5f (fun h=>e h.2)] at this
      exact this
    · exact ⟨by omega,by omega⟩
    · have:=ih1 c'
      rw [a5f (fun h=>d h.1)] at this
      exact this
  · obtain rfl:i=l.length:=by omega
    rw [hy]; rfl
theorem a1o {w:f8} {n:y4}:∀ j,(E1 w n j).2.1=w.2.1∧(E1 w n j).1=w.1∧(E1 w n j).2.2.1=w.2.2.1
  | 0=>⟨rfl,rfl,rfl⟩
  | j+1=>by
    obtain ⟨h1,h2,h3⟩:=a1o (w:=w) (n:=n) j
    rw [E1]
    split
    · obtain ⟨g1,g2,g3⟩:=a3I (w:=E1 w n j) (k:=2) (f:=K8 (E1 w n j)) (t:=n.2.1) (s:=n.2.2.2.2.1+j) (x:=(E1 w n j).2.2.1.getD (n.2.2.2.2.1+j).toNat [])
      exact ⟨g1.trans h1,g2.trans h2,g3.trans h3⟩
    · exact ⟨h1,h2,h3⟩
theorem c1H {w:f8} {n:y4} {j:Nat} (h:n.2.2.2.2.1+j<(E1 w n j).2.2.1.length):E1 w n (j+1)=K9 (E1 w n j) 2 (K8 (E1 w n j)) n.2.1 (n.2.2.2.2.1+j) ((E1 w n j).2.2.1.getD (n.2.2.2.2.1+j).toNat []):=by
  rw [E1]; exact if_pos h
theorem a9S {w:f8} {n:y4} {j:Nat} (h:¬ n.2.2.2.2.1+j<w.2.2.1.length):∀ m,E1 w n (j+m)=E1 w n j
  | 0=>rfl
  | m+1=>by
    rw [← Nat.add_assoc,E1,if_neg,a9S h m]
    rw [(a1o (j+m)).2.2]
    omega
structure a0o (w:f8) (n:y4):Prop where
  R4:w.2.1.length≤6
  to:0≤n.2.2.1∧n.2.2.1<(w.2.1.length:Int)
  seq:0≤n.2.2.2.2.1∧n.2.2.2.2.1≤16777215
  log:(K6 w n.2.2.1).2.1.length≤1000000000000
  ord:w.2.2.1.length≤1000000000000
  txt:n.1=2→∀ t∈(M8 w n).2.1,okT t
def a8w:p7:={ ps:=[.rw w9,.v b0R],rs:=[],pre:=fun x=>a0o x.1 x.2.1,fn:=fun _=>(),out:=fun x=>(E7 x.1 x.2.1,()) }
noncomputable def a2A:Env:={ P:=Tryz.prog,tt:=tt,C0:=[(49,a4H),(66,b36),(67,b32),(43,a9D),(44,b34)],res:=[],rs:=[],ps:=[PK.rw w9,PK.v (Ty.pair e8 (Ty.pair e8 (Ty.pair e8 (Ty.pair e8 (Ty.pair e8 (Ty.pair V2 (Ty.pair Ty.str Ty.unit)))))))],y6:=[(7,[(0,none),(3,none),(4,none)])],nt:=56 }
theorem a3y:u7 a2A:=x6 p9 ⟨a1G,b35,b31,a4b,a5o,trivial⟩
theorem a3w:B0 a2A Tryz.f48:=⟨rfl,rfl⟩
theorem b6A (x0_1_1:Int) (x0_1_2_1:Int) (x0_2_1:List o8) (x0_2_2_1:List (List UInt8)) (x0_2_2_2_1:List (List UInt8)) (x1_1:Int) (x1_2_1:Int) (x1_2_2_1:Int) (x1_2_2_2_1:Int) (x1_2_2_2_2_1:Int) (x1_2_2_2_2_2_1:List Int) (x1_2_2_2_2_2_2_1:List UInt8):exec a2A 1000 [.code (d9 Tryz.prog 48)] (s6 a8w.ps ((((x0_1_1,x0_1_2_1,()),x0_2_1,x0_2_2_1,x0_2_2_2_1,()),(x1_1,x1_2_1,x1_2_2_1,x1_2_2_2_1,x1_2_2_2_2_1,x1_2_2_2_2_2_1,x1_2_2_2_2_2_2_1,()),()))) =
  .f6 (List.length x0_2_1≤6) (cond (decide (known ((x0_1_1,x0_1_2_1,()),x0_2_1,x0_2_2_1,x0_2_2_2_1,()) x1_2_1≠(0:Int))) (.ret ((((x0_1_1,x0_1_2_1,()),x0_2_1,x0_2_2_1,x0_2_2_2_1,()),()))) (cond (decide (x1_1=(1:Int))) (.f6 (List.length x0_2_1≤6∧¬known ((x0_1_1,x0_1_2_1,()),x0_2_1,x0_2_2_1,x0_2_2_2_1,()) x1_2_1≠(0:Int)∧List.length x0_2_2_1≤1000000000000) (.ret ((U6 ((x0_1_1,x0_1_2_1,()),x0_2_1,x0_2_2_1,x0_2_2_2_1,()) (x1_1,x1_2_1,x1_2_2_1,x1_2_2_2_1,x1_2_2_2_2_1,x1_2_2_2_2_2_1,x1_2_2_2_2_2_2_1,()),())))) (cond (decide (x1_1=(3:Int))) (.ctL (f9 (d9 Tryz.prog 48) 7) (St.mk [(0,AV.ptr 2000000 []),(3,AV.ptr 3 []),(4,AV.val e8 x1_2_2_2_2_1)] [(3,g8.var (Ty.pair e8 (Ty.pair e8 (Ty.pair e8 (Ty.pair e8 (Ty.pair e8 (Ty.pair V2 (Ty.pair Ty.str Ty.unit))))))) (x1_1,x1_2_1,x1_2_2_1,x1_2_2_2_1,x1_2_2_2_2_1,x1_2_2_2_2_2_1,x1_2_2_2_2_2_2_1,())),(2000000,g8.var w9 ((x0_1_1,x0_1_2_1,()),x0_2_1,x0_2_2_1,x0_2_2_2_1,()))])) (cond (decide (x1_1=(2:Int))) (.f6 (((0:Int)≤x1_2_2_1∧x1_2_2_1<(↑(List.length x0_2_1):Int))∧List.length (Prod.fst (Prod.snd (K6 ((x0_1_1,x0_1_2_1,()),x0_2_1,x0_2_2_1,x0_2_2_2_1,()) x1_2_2_1)))≤1000000000000∧∀ (t:List UInt8),t∈Prod.fst (Prod.snd (M8 ((x0_1_1,x0_1_2_1,()),x0_2_1,x0_2_2_1,x0_2_2_2_1,()) (x1_1,x1_2_1,x1_2_2_1,x1_2_2_2_1,x1_2_2_2_2_1,x1_2_2_2_2_2_1,x1_2_2_2_2_2_2_1,())))→okT t) (.ret ((Z7 ((x0_1_1,x0_1_2_1,()),x0_2_1,x0_2_2_1,x0_2_2_2_1,()) (x1_1,x1_2_1,x1_2_2_1,x1_2_2_2_1,x1_2_2_2_2_1,x1_2_2_2_2_2_1,x1_2_2_2_2_2_2_1,()),())))) (.ret ((((x0_1_1,x0_1_2_1,()),x0_2_1,x0_2_2_1,x0_2_2_2_1,()),()))))))):=by kernel_rfl
def a3x (v4:Int) (o3_1:Int) (o3_2_1:Int) (o3_2_2_1:Int) (o3_2_2_2_1:Int) (o3_2_2_2_2_1:Int) (o3_2_2_2_2_2_1:List Int) (o3_2_2_2_2_2_2_1:List UInt8) (oz_1_1:Int) (oz_1_2_1:Int) (oz_2_1:List o8) (oz_2_2_1:List (List UInt8)) (oz_2_2_2_1:List (List UInt8)):St:=St.mk [(0,AV.ptr 2000000 []),(3,AV.ptr 3 []),(4,AV.val e8 v4)] [(3,g8.var (Ty.pair e8 (Ty.pair e8 (Ty.pair e8 (Ty.pair e8 (Ty.pair e8 (Ty.pair V2 (Ty.pair Ty.str Ty.unit))))))) (o3_1,o3_2_1,o3_2_2_1,o3_2_2_2_1,o3_2_2_2_2_1,o3_2_2_2_2_2_1,o3_2_2_2_2_2_2_1,())),(2000000,g8.var w9 ((oz_1_1,oz_1_2_1,()),oz_2_1,oz_2_2_1,oz_2_2_2_1,()))]
theorem b5n (v4:Int) (o3_1:Int) (o3_2_1:Int) (o3_2_2_1:Int) (o3_2_2_2_1:Int) (o3_2_2_2_2_1:Int) (o3_2_2_2_2_2_1:List Int) (o3_2_2_2_2_2_2_1:List UInt8) (oz_1_1:Int) (oz_1_2_1:Int) (oz_2_1:List o8) (oz_2_2_1:List (List UInt8)) (oz_2_2_2_1:List (List UInt8)):exec a2A 1000 (.code (f9 (d9 Tryz.prog 48) 7).1::.inLoop (f9 (d9 Tryz.prog 48) 7).1::(f9 (d9 Tryz.prog 48) 7).2) (a3x v4 o3_1 o3_2_1 o3_2_2_1 o3_2_2_2_1 o3_2_2_2_2_1 o3_2_2_2_2_2_1 o3_2_2_2_2_2_2_1 oz_1_1 oz_1_2_1 oz_2_1 oz_2_2_1 oz_2_2_2_1) =
  cond (decide (v4<(↑(List.length oz_2_2_1):Int))) (.f6 (q9 IntKind.i64 (o3_2_2_2_2_1+(4:Int))) (cond (decide (v4<o3_2_2_2_2_1+(4:Int))) (.f6 (True) (.f6 ((0:Int)≤v4∧v4<(↑(List.length oz_2_2_1):Int)) (.f6 (True) (.f6 (q9 IntKind.i64 (v4+(1:Int))) (.ctL (f9 (d9 Tryz.prog 48) 7) (St.mk [(0,AV.ptr 2000000 []),(3,AV.ptr 3 []),(4,AV.val e8 (v4+(1:Int)))] [(3,g8.var (Ty.pair e8 (Ty.pair e8 (Ty.pair e8 (Ty.pair e8 (Ty.pair e8 (Ty.pair V2 (Ty.pair Ty.str Ty.unit))))))) (o3_1,o3_2_1,o3_2_2_1,o3_2_2_2_1,o3_2_2_2_2_1,o3_2_2_2_2_2_1,o3_2_2_2_2_2_2_1,())),(2000000,g8.var w9 (K9 ((oz_1_1,oz_1_2_1,()),oz_2_1,oz_2_2_1,oz_2_2_2_1,()) (2:Int) (K8 ((oz_1_1,oz_1_2_1,()),oz_2_1,oz_2_2_1,oz_2_2_2_1,())) o3_2_1 v4 (List.getD oz_2_2_1 (Int.toNat v4) [])))])))))) (.ret ((((oz_1_1,oz_1_2_1,()),oz_2_1,oz_2_2_1,oz_2_2_2_1,()),()))))) (.ret ((((oz_1_1,oz_1_2_1,()),oz_2_1,oz_2_2_1,oz_2_2_2_1,()),()))):=by kernel_rfl
theorem a7M {w:f8} {n:y4} (h:known w n.2.1≠0):E7 w n=w:=by rw [E7]; exact if_pos h
theorem a6u {w:f8} {n:y4} (h:¬ known w n.2.1≠0) (h1:n.1=1):E7 w n=U6 w n:=by rw [E7]; exact (if_neg h).trans (if_pos h1)
theorem a6v {w:f8} {n:y4} (h:¬ known w n.2.1≠0) (h1:n.1=3):E7 w n=E1 w n 4:=by rw [E7]; exact (if_neg h).trans ((if_neg (by omega)).trans (if_pos h1))
theorem a5O {w:f8} {n:y4} (h:¬ known w n.2.1≠0) (h1:n.1=2):E7 w n=Z7 w n:=by rw [E7]; exact (if_neg h).trans ((if_neg (by omega)).trans ((if_neg (by omega)).trans (if_pos h1)))
theorem a5P {w:f8} {n:y4} (h1:n.1≠1) (h2:n.1≠3) (h3:n.1≠2):E7 w n=w:=by
  rw [E7,if_neg h1,if_neg h2,if_neg h3]; split<;>rfl
attribute [local irreducible] E7 U6 Z7 E1 K9 in
theorem b0J:a8w.Valid Tryz.prog 48:=by
  refine p7.o6 a3y rfl rfl Tryz.func48 (c:=d9 Tryz.prog 48) rfl rfl a3w rfl ?_
  rintro ⟨⟨⟨(v0:Int),(v1:Int),⟨⟩⟩,(al:List o8),(od:List (List UInt8)),(wy:List (List UInt8)),⟨⟩⟩,⟨(nk:Int),(nf:Int),(nt:Int),(nv:Int),(ns:Int),(na:List Int),(nx:List UInt8),⟨⟩⟩,⟨⟩⟩ (hq:a0o ((v0,v1,()),al,od,wy,()) (nk,nf,nt,nv,ns,na,nx,())) -
  refine j5 (n:=1000) a3y a3w ?_
  refine g9 (b6A v0 v1 al od wy nk nf nt nv ns na nx) ?_
  simp only [j8,Tree.holds,true_and,true_implies,decide_eq_true_eq,decide_eq_false_iff_not,Bool.not_eq_true',Bool.not_eq_false',Int.toNat_natCast,j9,List.length_set,List.length_cons,List.length_nil]
  have key:∀ r:f8,E7 ((v0,v1,()),al,od,wy,()) (nk,nf,nt,nv,ns,na,nx,())=r→(((r,()):f8×Unit)=(E7 ((v0,v1,()),al,od,wy,()) (nk,nf,nt,nv,ns,na,nx,()),())):=by rintro r rfl; rfl
  refine ⟨hq.R4,fun _=>⟨fun a=>key _ (a7M a),fun a=>⟨fun b=>⟨⟨hq.R4,a,hq.ord⟩,fun _=>key _ (a6u a b)⟩,fun b=>⟨fun c=>?_,fun c=>⟨fun d=>⟨⟨hq.to,hq.log,hq.txt d⟩,fun _=>key _ (a5O a d)⟩,fun d=>key _ (a5P b c d)⟩⟩⟩⟩⟩
  obtain ⟨w,hw⟩:∃ w:f8,w=((v0,v1,()),al,od,wy,()):=⟨_,rfl⟩
  obtain ⟨n,hn⟩:∃ n:y4,n=(nk,nf,nt,nv,ns,na,nx,()):=⟨_,rfl⟩
  have e3:E7 ((v0,v1,()),al,od,wy,()) (nk,nf,nt,nv,ns,na,nx,())=E1 w n 4:=by rw [hw,hn]; exact a6v a c
  have hns:0≤ns∧ns≤16777215:=hq.seq
  have hnn:n.2.2.2.2.1=ns:=by rw [hn]
  have hnf:n.2.1=nf:=by rw [hn]
  have hwo:w.2.2.1=od:=by rw [hw]
  suffices go:Go.Ex.Reach a2A Tryz.f48 () (E1 w n 4,()) (.code (f9 (d9 Tryz.prog 48) 7).1::.inLoop (f9 (d9 Tryz.prog 48) 7).1::(f9 (d9 Tryz.prog 48) 7).2) (a3x (ns+((0:Nat):Int)) nk nf nt nv ns na nx (E1 w n 0).1.1 (E1 w n 0).1.2.1 (E1 w n 0).2.1 (E1 w n 0).2.2.1 (E1 w n 0).2.2.2.1) by
    rw [e3]
    rw [E1,show ns+((0:Nat):Int)=ns by omega] at go
    rw [hw] at go ⊢
    exact go
  refine Reach.N3 a3y a3w (fun j:Nat=>a3x (ns+(j:Int)) nk nf nt nv ns na nx (E1 w n j).1.1 (E1 w n j).1.2.1 (E1 w n j).2.1 (E1 w n j).2.2.1 (E1 w n j).2.2.2.1) (fun j=>j≤4)
    (fun j=>4 - j) 1000 (fun _=>⟨u3 rfl,u3 rfl⟩) ?_ 0 (Nat.zero_le _)
  rintro j k1 - ih
  have k1:j≤4:=k1
  refine g9 (b5n ..) ?_
  have e4:ns+(j:Int)+1=ns+((j+1:Nat):Int):=by omega
  have t3:=(a1o (w:=w) (n:=n) j).2.2
  simp only [j8,Tree.holds,true_and,true_implies,decide_eq_true_eq,decide_eq_false_iff_not,Bool.not_eq_true',Bool.not_eq_false',Int.toNat_natCast,j9,List.length_set,List.length_cons,List.length_nil,e4]
  refine ⟨fun d=>⟨?_,fun _=>⟨fun e=>⟨⟨by omega,d⟩,fun _=>⟨?_,fun _=>?_⟩⟩,fun e=>?_⟩⟩,fun d=>?_⟩
  · exact j9.2 ⟨by omega,by omega⟩
  · exact j9.2 ⟨by omega,by omega⟩
  · have:=ih (j+1) (by show j+1≤4; omega) (by show 4 - (j+1)<4 - j; omega)
    rw [c1H (j:=j) (by rw [hnn]; exact d)] at this
    rw [hnn,hnf] at this
    exact this
  · obtain rfl:j=4:=by omega
    rfl
  · have:=a9S (w:=w) (n:=n) (j:=j) (by rw [hnn,← t3]; exact d) (4 - j)
    rw [show j+(4 - j)=4 by omega] at this
    rw [this]; rfl
abbrev noB:List UInt8:=[]
def b8X:p7:={ ps:=[.own (.d0 true .str),.v e8,.v e8],rs:=[.d0 true .str],pre:=fun x=>LE.le (α:=Int) 0 x.2.1∧LE.le (α:=Int) x.2.1 x.2.2.1∧LE.le (α:=Int) x.2.2.1 (List.length (α:=List UInt8) x.1),fn:=fun x=>(List.take (α:=List UInt8) (Int.toNat x.2.1) x.1++List.drop (α:=List UInt8) (Int.toNat x.2.2.1) x.1,()),out:=fun _=>() }
noncomputable def b9U:Env:={ P:=Tryz.prog,tt:=tt,C0:=[],res:=[Go.ResultVar.tmp 6],rs:=[Ty.d0 true Ty.str],ps:=[PK.own (Ty.d0 true Ty.str),PK.v e8,PK.v e8],y6:=[],nt:=33 }
theorem b4Y:u7 b9U:=x6 p9 trivial
theorem b4F:B0 b9U Tryz.f45:=⟨rfl,rfl⟩
theorem c5E (x0:List (List UInt8)) (x1:Int) (x2:Int):exec b9U 1000 [.code (d9 Tryz.prog 45)] (s6 b8X.ps ((x0,x1,x2,()))) =
  .f6 ((0:Int)≤x1∧x1≤x2∧x2≤(↑(List.length x0):Int)∧(↑(List.length x0):Int)≤(↑(List.length x0):Int)) (cond (decide (x1=x2)) (.ret ((x0,()))) (.f6 ((0:Int)≤(0:Int)∧(0:Int)≤x1∧x1≤(↑(List.length x0):Int)) (.f6 ((0:Int)≤x2∧x2≤(↑(List.length x0):Int)∧(↑(List.length x0):Int)≤(↑(List.length x0):Int)) (.f6 (x1+(↑(List.length (n7 x2 (↑(List.length x0):Int) x0)):Int)≤(↑(List.length x0):Int)) (.f6 ((0:Int)≤x1+(↑(List.length (n7 x2 (↑(List.length x0):Int) x0)):Int) - (0:Int)∧x1+(↑(List.length (n7 x2 (↑(List.length x0):Int) x0)):Int) - (0:Int)≤(↑(List.length x0):Int)∧(0:Int)+(↑(List.length x0):Int)≤(↑(List.length (List.take (Int.toNat x1) x0++n7 x2 (↑(List.length x0):Int) x0++List.drop (Int.toNat x1+List.length (n7 x2 (↑(List.length x0):Int) x0)) x0)):Int)) (.ret ((n7 (0:Int) (x1+(↑(List.length (n7 x2 (↑(List.length x0):Int) x0)):Int)) (List.take (Int.toNat ((0:Int)+(x1+(↑(List.length (n7 x2 (↑(List.length x0):Int) x0)):Int) - (0:Int)))) (List.take (Int.toNat x1) x0++n7 x2 (↑(List.length x0):Int) x0++List.drop (Int.toNat x1+List.length (n7 x2 (↑(List.length x0):Int) x0)) x0)++List.replicate (Int.toNat ((0:Int)+(↑(List.length x0):Int) - ((0:Int)+(x1+(↑(List.length (n7 x2 (↑(List.length x0):Int) x0)):Int) - (0:Int))))) []++List.drop (Int.toNat ((0:Int)+(x1+(↑(List.length (n7 x2 (↑(List.length x0):Int) x0)):Int) - (0:Int)))+List.length (List.replicate (Int.toNat ((0:Int)+(↑(List.length x0):Int) - ((0:Int)+(x1+(↑(List.length (n7 x2 (↑(List.length x0):Int) x0)):Int) - (0:Int))))) noB)) (List.take (Int.toNat x1) x0++n7 x2 (↑(List.length x0):Int) x0++List.drop (Int.toNat x1+List.length (n7 x2 (↑(List.length x0):Int) x0)) x0)),())))))))):=by kernel_rfl
theorem b50:b8X.Valid Tryz.prog 45:=by
  refine p7.o6 b4Y rfl rfl Tryz.func45 (c:=d9 Tryz.prog 45) rfl rfl b4F rfl ?_
  rintro ⟨(l:List (List UInt8)),(i:Int),(j:Int),⟨⟩⟩ ⟨(h0:0≤i),(h1:i≤j),(h2:j≤(l.length:Int))⟩ -
  refine j5 (n:=1000) b4Y b4F ?_
  refine g9 (c5E l i j) ?_
  simp only [j8,Tree.holds,true_and,true_implies,decide_eq_true_eq,decide_eq_false_iff_not,Bool.not_eq_true',Bool.not_eq_false',Int.toNat_natCast,j9,List.length_set,List.length_cons,List.length_nil]
  have hc:=b7c h0 h1 h2 (l:=l)
  have hm:=b0D h0 h1 h2 (l:=l)
  refine ⟨⟨h0,h1,h2,Int.le_refl _⟩,fun _=>⟨fun e=>?_,fun e=>⟨by omega,fun _=>⟨by omega,fun _=>⟨by omega,fun _=>⟨by omega,fun _=>?_⟩⟩⟩⟩⟩⟩
  · subst e
    show ((l,()):List (List UInt8)×Unit)=(l.take i.toNat++l.drop i.toNat,())
    rw [List.take_append_drop]
  · exact congrArg (fun y=>(y,())) (c5l h0 h1 h2 (l:=l))
structure a7s (w:f8):Prop where
  R4:w.2.1.length≤6
  way:w.2.2.2.1.length≤60
  note:∀ s∈w.2.2.2.1,(s9 s).2.1=0→(s9 s).1.2.2.2.1=w.1.1→r8 w (s9 s).1.2.2.1=true→a0o w (s9 s).1
def b9f:p7:={ ps:=[.rw w9,.v e8,.v e8],rs:=[e8],pre:=fun x=>a7s x.1,fn:=fun x=>((I5 x.1 x.2.1 x.2.2.1).2,()),out:=fun x=>((I5 x.1 x.2.1 x.2.2.1).1,()) }
noncomputable def b5k:Env:={ P:=Tryz.prog,tt:=tt,C0:=[(40,b0I),(45,b8X),(46,b87),(47,a8x),(48,a8w)],res:=[Go.ResultVar.tmp 6],rs:=[Ty.int IntKind.i64],ps:=[PK.rw w9,PK.v e8,PK.v e8],y6:=[],nt:=95 }
theorem b2h:u7 b5k:=x6 p9 ⟨a2W,b50,b54,a1I,b0J,trivial⟩
theorem b1T:B0 b5k Tryz.f18:=⟨rfl,rfl⟩
theorem c35 (x0_1_1:Int) (x0_1_2_1:Int) (x0_2_1:List o8) (x0_2_2_1:List (List UInt8)) (x0_2_2_2_1:List (List UInt8)) (x1:Int) (x2:Int):exec b5k 1000 [.code (d9 Tryz.prog 18)] (s6 b9f.ps ((((x0_1_1,x0_1_2_1,()),x0_2_1,x0_2_2_1,x0_2_2_2_1,()),x1,x2,()))) =
  .f6 (True) (cond (!G6 x2 (1:Int) (3:Int)) (.ret (((1:Int),((x0_1_1,x0_1_2_1,()),x0_2_1,x0_2_2_1,x0_2_2_2_1,()),()))) (.f6 (q9 IntKind.i64 ((↑(List.length x0_2_2_2_1):Int) - (1:Int))) (.f6 (True) (cond (!G6 x1 (0:Int) ((↑(List.length x0_2_2_2_1):Int) - (1:Int))) (.ret (((6:Int),((x0_1_1,x0_1_2_1,()),x0_2_1,x0_2_2_1,x0_2_2_2_1,()),()))) (cond (decide (x2=(3:Int))) (cond (decide ((↑(List.length x0_2_2_2_1):Int)=(60:Int))) (.ret (((8:Int),((x0_1_1,x0_1_2_1,()),x0_2_1,x0_2_2_1,x0_2_2_2_1,()),()))) (.f6 ((0:Int)≤x1∧x1<(↑(List.length x0_2_2_2_1):Int)) (cond (decide (x2=(3:Int))) (.f6 (True∧True∧[]++[Step.l7 3]=[]++[Step.l7 3]∧List.length x0_2_2_2_1+List.length (List.set [[]] (Int.toNat (↑0:Int)) (List.getD x0_2_2_2_1 (Int.toNat x1) []))≤140737488355328∧(List.length x0_2_2_2_1+List.length (List.set [[]] (Int.toNat (↑0:Int)) (List.getD x0_2_2_2_1 (Int.toNat x1) [])))*Ty.wb Ty.str≤140737488355328) (.ret (((0:Int),((x0_1_1,x0_1_2_1,()),x0_2_1,x0_2_2_1,x0_2_2_2_1++List.set [[]] (Int.toNat (↑0:Int)) (List.getD x0_2_2_2_1 (Int.toNat x1) []),()),())))) (.f6 (q9 IntKind.i64 (x1+(1:Int))) (.f6 (True∧True∧[]++[Step.l7 3]=[]++[Step.l7 3]∧(0:Int)≤x1∧x1≤x1+(1:Int)∧x1+(1:Int)≤(↑(List.length x0_2_2_2_1):Int)) (.f6 (True) (cond (decide (x2=(1:Int))) (cond (decide (Prod.fst (Prod.snd (s9 (List.getD x0_2_2_2_1 (Int.toNat x1) [])))=(0:Int))) (cond (decide (Prod.fst (Prod.snd (Prod.snd (Prod.snd (Prod.fst (s9 (List.getD x0_2_2_2_1 (Int.toNat x1) []))))))=x0_1_1)) (.f6 (List.length x0_2_1≤6) (cond (r8 ((x0_1_1,x0_1_2_1,()),x0_2_1,x0_2_2_1,List.take (Int.toNat x1) x0_2_2_2_1++List.drop (Int.toNat (x1+(1:Int))) x0_2_2_2_1,()) (Prod.fst (Prod.snd (Prod.snd (Prod.fst (s9 (List.getD x0_2_2_2_1 (Int.toNat x1) []))))))) (.f6 (a0o ((x0_1_1,x0_1_2_1,()),x0_2_1,x0_2_2_1,List.take (Int.toNat x1) x0_2_2_2_1++List.drop (Int.toNat (x1+(1:Int))) x0_2_2_2_1,()) (Prod.fst (s9 (List.getD x0_2_2_2_1 (Int.toNat x1) [])))) (.ret (((0:Int),E7 ((x0_1_1,x0_1_2_1,()),x0_2_1,x0_2_2_1,List.take (Int.toNat x1) x0_2_2_2_1++List.drop (Int.toNat (x1+(1:Int))) x0_2_2_2_1,()) (Prod.fst (s9 (List.getD x0_2_2_2_1 (Int.toNat x1) []))),())))) (.ret (((0:Int),((x0_1_1,x0_1_2_1,()),x0_2_1,x0_2_2_1,List.take (Int.toNat x1) x0_2_2_2_1++List.drop (Int.toNat (x1+(1:Int))) x0_2_2_2_1,()),()))))) (.ret (((0:Int),((x0_1_1,x0_1_2_1,()),x0_2_1,x0_2_2_1,List.take (Int.toNat x1) x0_2_2_2_1++List.drop (Int.toNat (x1+(1:Int))) x0_2_2_2_1,()),())))) (.ret (((0:Int),((x0_1_1,x0_1_2_1,()),x0_2_1,x0_2_2_1,List.take (Int.toNat x1) x0_2_2_2_1++List.drop (Int.toNat (x1+(1:Int))) x0_2_2_2_1,()),())))) (.ret (((0:Int),((x0_1_1,x0_1_2_1,()),x0_2_1,x0_2_2_1,List.take (Int.toNat x1) x0_2_2_2_1++List.drop (Int.toNat (x1+(1:Int))) x0_2_2_2_1,()),())))))))))) (.f6 ((0:Int)≤x1∧x1<(↑(List.length x0_2_2_2_1):Int)) (cond (decide (x2=(3:Int))) (.f6 (True∧True∧[]++[Step.l7 3]=[]++[Step.l7 3]∧List.length x0_2_2_2_1+List.length (List.set [[]] (Int.toNat (↑0:Int)) (List.getD x0_2_2_2_1 (Int.toNat x1) []))≤140737488355328∧(List.length x0_2_2_2_1+List.length (List.set [[]] (Int.toNat (↑0:Int)) (List.getD x0_2_2_2_1 (Int.toNat x1) [])))*Ty.wb Ty.str≤140737488355328) (.ret (((0:Int),((x0_1_1,x0_1_2_1,()),x0_2_1,x0_2_2_1,x0_2_2_2_1++List.set [[]] (Int.toNat (↑0:Int)) (List.getD x0_2_2_2_1 (Int.toNat x1) []),()),())))) (.f6 (q9 IntKind.i64 (x1+(1:Int))) (.f6 (True∧True∧[]++[Step.l7 3]=[]++[Step.l7 3]∧(0:Int)≤x1∧x1≤x1+(1:Int)∧x1+(1:Int)≤(↑(List.length x0_2_2_2_1):Int)) (.f6 (True) (cond (decide (x2=(1:Int))) (cond (decide (Prod.fst (Prod.snd (s9 (List.getD x0_2_2_2_1 (Int.toNat x1) [])))=(0:Int))) (cond (decide (Prod.fst (Prod.snd (Prod.snd (Prod.snd (Prod.fst (s9 (List.getD x0_2_2_2_1 (Int.toNat x1) []))))))=x0_1_1)) (.f6 (List.length x0_2_1≤6) (cond (r8 ((x0_1_1,x0_1_2_1,()),x0_2_1,x0_2_2_1,List.take (Int.toNat x1) x0_2_2_2_1++List.drop (Int.toNat (x1+(1:Int))) x0_2_2_2_1,()) (Prod.fst (Prod.snd (Prod.snd (Prod.fst (s9 (List.getD x0_2_2_2_1 (Int.toNat x1) []))))))) (.f6 (a0o ((x0_1_1,x0_1_2_1,()),x0_2_1,x0_2_2_1,List.take (Int.toNat x1) x0_2_2_2_1++List.drop (Int.toNat (x1+(1:Int))) x0_2_2_2_1,()) (Prod.fst (s9 (List.getD x0_2_2_2_1 (Int.toNat x1) [])))) (.ret (((0:Int),E7 ((x0_1_1,x0_1_2_1,()),x0_2_1,x0_2_2_1,List.take (Int.toNat x1) x0_2_2_2_1++List.drop (Int.toNat (x1+(1:Int))) x0_2_2_2_1,()) (Prod.fst (s9 (List.getD x0_2_2_2_1 (Int.toNat x1) []))),())))) (.ret (((0:Int),((x0_1_1,x0_1_2_1,()),x0_2_1,x0_2_2_1,List.take (Int.toNat x1) x0_2_2_2_1++List.drop (Int.toNat (x1+(1:Int))) x0_2_2_2_1,()),()))))) (.ret (((0:Int),((x0_1_1,x0_1_2_1,()),x0_2_1,x0_2_2_1,List.take (Int.toNat x1) x0_2_2_2_1++List.drop (Int.toNat (x1+(1:Int))) x0_2_2_2_1,()),())))) (.ret (((0:Int),((x0_1_1,x0_1_2_1,()),x0_2_1,x0_2_2_1,List.take (Int.toNat x1) x0_2_2_2_1++List.drop (Int.toNat (x1+(1:Int))) x0_2_2_2_1,()),())))) (.ret (((0:Int),((x0_1_1,x0_1_2_1,()),x0_2_1,x0_2_2_1,List.take (Int.toNat x1) x0_2_2_2_1++List.drop (Int.toNat (x1+(1:Int))) x0_2_2_2_1,()),())))))))))))))):=by kernel_rfl
theorem b1h {w:f8} {k how:Int} (h:G6 how 1 3=false):I5 w k how=(w,1):=by rw [I5]; exact if_pos h
theorem a9j {w:f8} {k how:Int} (h:¬ G6 how 1 3=false) (h1:G6 k 0 ((w.2.2.2.1.length:Int) - 1)=false):I5 w k how=(w,6):=by rw [I5]; exact (if_neg h).trans (if_pos h1)
theorem a9k {w:f8} {k how:Int} (h:¬ G6 how 1 3=false) (h1:¬ G6 k 0 ((w.2.2.2.1.length:Int) - 1)=false) (h2:how=3) (h3:(w.2.2.2.1.length:Int)=60):I5 w k how=(w,8):=by
  rw [I5]; exact (if_neg h).trans ((if_neg h1).trans (if_pos ⟨h2,h3⟩))
theorem a9l {w:f8} {k how:Int} (h:¬ G6 how 1 3=false) (h1:¬ G6 k 0 ((w.2.2.2.1.length:Int) - 1)=false) (h2:how=3) (h3:¬ (w.2.2.2.1.length:Int)=60):I5 w k how=(b2N w k.toNat,0):=by
  rw [I5]; exact (if_neg h).trans ((if_neg h1).trans ((if_neg (fun e=>h3 e.2)).trans (if_pos h2)))
theorem a8i {w:f8} {k how:Int} (h:¬ G6 how 1 3=false) (h1:¬ G6 k 0 ((w.2.2.2.1.length:Int) - 1)=false) (h2:¬ how=3):I5 w k how=(a0Z (a5m w k) how (w.2.2.2.1.getD k.toNat []),0):=by
  rw [I5]; exact (if_neg h).trans ((if_neg h1).trans ((if_neg (fun e=>h2 e.1)).trans (if_neg h2)))
theorem a9i {w:f8} {how:Int} {s:List UInt8} (h:how=1∧(s9 s).2.1=0∧(s9 s).1.2.2.2.1=w.1.1∧r8 w (s9 s).1.2.2.1=true):a0Z w how s=E7 w (s9 s).1:=by
  rw [a0Z]; exact if_pos h
theorem b1g {w:f8} {how:Int} {s:List UInt8} (h:¬ (how=1∧(s9 s).2.1=0∧(s9 s).1.2.2.2.1=w.1.1∧r8 w (s9 s).1.2.2.1=true)):a0Z w how s=w:=by
  rw [a0Z]; exact if_neg h
theorem a0o.drop {w:f8} {n:y4} {l:List (List UInt8)} (h:a0o w n):a0o (w.1,w.2.1,w.2.2.1,l,()) n:=⟨h.R4,h.to,h.seq,h.log,h.ord,h.txt⟩
attribute [local irreducible] I5 a0Z E7 s9 r8 in
theorem b6a:b9f.Valid Tryz.prog 18:=by
  refine p7.o6 b2h rfl rfl Tryz.func18 (c:=d9 Tryz.prog 18) rfl rfl b1T rfl ?_
  rintro ⟨⟨⟨(v0:Int),(v1:Int),⟨⟩⟩,(al:List o8),(od:List (List UInt8)),(wy:List (List UInt8)),⟨⟩⟩,(k:Int),(how:Int),⟨⟩⟩ (hq:a7s ((v0,v1,()),al,od,wy,())) -
  refine j5 (n:=1000) b2h b1T ?_
  refine g9 (c35 v0 v1 al od wy k how) ?_
  have hwb:Ty.wb .str=16:=rfl
  have hway:wy.length≤60:=hq.way
  simp only [j8,Tree.holds,true_and,true_implies,decide_eq_true_eq,decide_eq_false_iff_not,Bool.not_eq_true',Bool.not_eq_false',Int.toNat_natCast,j9,List.length_set,List.length_cons,List.length_nil]
  have key:∀ r:f8×Int,I5 ((v0,v1,()),al,od,wy,()) k how=r→(((r.2,r.1,()):Int×f8×Unit)=((I5 ((v0,v1,()),al,od,wy,()) k how).2,(I5 ((v0,v1,()),al,od,wy,()) k how).1,())):=by rintro r rfl; rfl
  have hin:¬ G6 k 0 ((wy.length:Int) - 1)=false→0≤k∧k<(wy.length:Int):=fun h=>by
    have:=S4.1 (Bool.not_eq_false _▸h:G6 k 0 ((wy.length:Int) - 1)=true); omega
  have yes:∀ (a:¬ G6 how 1 3=false) (b:¬ G6 k 0 ((wy.length:Int) - 1)=false) (c:¬ how=3),how=1→(s9 (wy.getD k.toNat [])).2.1=0→(s9 (wy.getD k.toNat [])).1.2.2.2.1=v0→r8 ((v0,v1,()),al,od,wy.take k.toNat++wy.drop (k+1).toNat,()) (s9 (wy.getD k.toNat [])).1.2.2.1=true →
      I5 ((v0,v1,()),al,od,wy,()) k how=(E7 ((v0,v1,()),al,od,wy.take k.toNat++wy.drop (k+1).toNat,()) (s9 (wy.getD k.toNat [])).1,0):=fun a b c d e f g=>by
    rw [a8i a b c]; exact congrArg (fun x=>(x,(0:Int))) (a9i ⟨d,e,f,g⟩)
  have no:∀ (a:¬ G6 how 1 3=false) (b:¬ G6 k 0 ((wy.length:Int) - 1)=false) (c:¬ how=3),¬ (how=1∧(s9 (wy.getD k.toNat [])).2.1=0∧(s9 (wy.getD k.toNat [])).1.2.2.2.1=v0∧r8 ((v0,v1,()),al,od,wy.take k.toNat++wy.drop (k+1).toNat,()) (s9 (wy.getD k.toNat [])).1.2.2.1=true) →
      I5 ((v0,v1,()),al,od,wy,()) k how=(((v0,v1,()),al,od,wy.take k.toNat++wy.drop (k+1).toNat,()),0):=fun a b c d=>by
    rw [a8i a b c]; exact congrArg (fun x=>(x,(0:Int))) (b1g d)
  have pre:0≤k∧k<(wy.length:Int)→(s9 (wy.getD k.toNat [])).2.1=0→(s9 (wy.getD k.toNat [])).1.2.2.2.1=v0→r8 ((v0,v1,()),al,od,wy.take k.toNat++wy.drop (k+1).toNat,()) (s9 (wy.getD k.toNat [])).1.2.2.1=true→a0o ((v0,v1,()),al,od,wy.take k.toNat++wy.drop (k+1).toNat,()) (s9 (wy.getD k.toNat [])).1:=fun h h1 h3 h2 =>
    (hq.note _ (by show wy.getD k.toNat []∈wy; rw [List.getD_eq_getElem?_getD,List.getElem?_eq_getElem (by omega)]; exact List.getElem_mem _) h1 h3 (by rw [r8.eq_1] at h2 ⊢; exact h2)).drop
  refine ⟨fun a=>key (_,_) (b1h a),fun a=>⟨j9.2 ⟨by omega,by omega⟩,fun _=>⟨fun b=>key (_,_) (a9j (by simpa using a) b),fun b=>?_⟩⟩⟩
  have a:¬ G6 how 1 3=false:=by simpa using a
  have b:¬ G6 k 0 ((wy.length:Int) - 1)=false:=by simpa using b
  have hk:=hin b
  refine ⟨fun c=>⟨fun d=>key (_,_) (a9k a b c d),fun d=>⟨hk,fun _=>⟨fun _=>⟨by rw [hwb]; omega,fun _=>key (_,_) (a9l a b c d)⟩,fun e=>absurd c e⟩⟩⟩,fun c=>⟨hk,fun _=>⟨fun e=>absurd e c,fun _=>⟨j9.2 ⟨by omega,by omega⟩,fun _=>⟨⟨by omega,by omega,by omega⟩,fun _=>⟨fun d=>⟨fun e=>⟨fun f=>⟨hq.R4,fun _=>⟨fun g=>⟨pre hk e f g,fun _=>key (_,_) (yes a b c d e f g)⟩,fun g=>key (_,_) (no a b c (fun h=>by rw [h.2.2.2] at g; cases g))⟩⟩,fun f=>key (_,_) (no a b c (fun h=>f h.2.2.1))⟩,fun e=>key (_,_) (no a b c (fun h=>e h.2.1))⟩,fun d=>key (_,_) (no a b c (fun h=>d h.1))⟩⟩⟩⟩⟩⟩
abbrev a0x (m:a7q):f8:=(m.1,m.2.1.map rdP,m.2.2)
abbrev a0p (w:f8):a7q:=(w.1,w.2.1.map toM,w.2.2)
theorem c2X (w:f8):a0x (a0p w)=w:=by
  show (w.1,(w.2.1.map toM).map rdP,w.2.2)=w
  rw [List.map_map,show (rdP ∘ toM)=id from rfl,List.map_id]
structure a0M (w:f8):Prop where
  R4:w.2.1.length≤6
  c7v:∀ i:Nat,(w.2.1.getD i i8).2.1.length≤5864062014805
  late:∀ i:Nat,(w.2.1.getD i i8).2.2.1.2.1.length≤1048576
def b7h:p7:={ ps:=[.rw W6],rs:=[e8],pre:=fun x=>(x.1:a7q)=a0p (a0x x.1)∧a0M (a0x x.1)∧¬ (R9 (a0x x.1)).2.1≠0,fn:=fun _=>(0,()),out:=fun x=>(a0p (F9 (a0x x.1)),()) }
noncomputable def a0f:Env:={ P:=Tryz.prog,tt:=ttW,C0:=[(47,a8x),(53,a6C),(31,b4d),(32,b9s)],res:=[Go.ResultVar.tmp 2],rs:=[Ty.int IntKind.i64],ps:=[PK.rw W6],y6:=[(4,[(0,none),(3,none),(4,none),(18,none),(19,none)]),(16,[(0,none),(4,none),(7,none),(67,none),(68,none)]),(22,[(0,none),(4,none),(7,none),(9,none),(10,none),(11,none),(67,none),(68,none),(86,none),(87,none),(88,none)]),(998049,[(6,some N5)]),(998014,[(4,some N5)])],nt:=139 }
theorem a03:u7 a0f:=x6 c0z ⟨a1I,a6B,a5r,a7T,trivial⟩
theorem a02:B0 a0f Tryz.f25:=⟨rfl,rfl⟩
theorem c0e (x0_1_1:Int) (x0_1_2_1:Int) (x0_2_1:List J2) (x0_2_2_1:List (List UInt8)) (x0_2_2_2_1:List (List UInt8)):exec a0f 1000 [.code (d9 Tryz.prog 25)] (s6 b7h.ps ((((x0_1_1,x0_1_2_1,()),x0_2_1,x0_2_2_1,x0_2_2_2_1,()),()))) =
  .ctL (f9 (d9 Tryz.prog 25) 4) (St.mk [(0,AV.ptr 2000000 []),(3,AV.val U8 (0:Int)),(4,AV.val N5 []),(18,AV.val e8 (↑(List.length x0_2_1):Int)),(19,AV.val e8 (0:Int))] [(2000000,g8.var W6 ((x0_1_1,x0_1_2_1,()),x0_2_1,x0_2_2_1,x0_2_2_2_1,()))]):=by kernel_rfl
def a4i (v3:Int) (v4:List (Int×List UInt8×Unit)) (v18:Int) (v19:Int) (oz_1_1:Int) (oz_1_2_1:Int) (oz_2_1:List J2) (oz_2_2_1:List (List UInt8)) (oz_2_2_2_1:List (List UInt8)):St:=St.mk [(0,AV.ptr 2000000 []),(3,AV.val U8 v3),(4,AV.val N5 v4),(18,AV.val e8 v18),(19,AV.val e8 v19)] [(2000000,g8.var W6 ((oz_1_1,oz_1_2_1,()),oz_2_1,oz_2_2_1,oz_2_2_2_1,()))]
theorem b6B (v3:Int) (v4:List (Int×List UInt8×Unit)) (v18:Int) (v19:Int) (oz_1_1:Int) (oz_1_2_1:Int) (oz_2_1:List J2) (oz_2_2_1:List (List UInt8)) (oz_2_2_2_1:List (List UInt8)):exec a0f 1000 (.code (f9 (d9 Tryz.prog 25) 4).1::.inLoop (f9 (d9 Tryz.prog 25) 4).1::(f9 (d9 Tryz.prog 25) 4).2) (a4i v3 v4 v18 v19 oz_1_1 oz_1_2_1 oz_2_1 oz_2_2_1 oz_2_2_2_1) =
  cond (decide (v19<v18)) (.f6 (List.length (List.map (rdV V3) oz_2_1)≤6) (cond (r8 ((oz_1_1,oz_1_2_1,()),List.map (rdV V3) oz_2_1,oz_2_2_1,oz_2_2_2_1,()) v19) (.f6 ((0:Int)≤v19∧v19<(↑(List.length oz_2_1):Int)) (cond (decide ((↑(List.length v4):Int)<(↑(List.length (Prod.fst (Prod.snd (Prod.fst (Prod.snd (List.getD oz_2_1 (Int.toNat v19) (false,(1,[],[]),((0:Int),[],()),((0:Int),[],()),((0:Int),[],()),()))))))):Int))) (.f6 (q9 IntKind.i64 (v19+(1:Int))) (.ctL (f9 (d9 Tryz.prog 25) 4) (St.mk [(0,AV.ptr 2000000 []),(3,AV.val U8 v3),(4,AV.val N5 (Prod.fst (Prod.snd (Prod.fst (Prod.snd (List.getD oz_2_1 (Int.toNat v19) (false,(1,[],[]),((0:Int),[],()),((0:Int),[],()),((0:Int),[],()),()))))))),(18,AV.val e8 v18),(19,AV.val e8 (v19+(1:Int)))] [(2000000,g8.var W6 ((oz_1_1,oz_1_2_1,()),List.set oz_2_1 (Int.toNat v19) (Prod.fst (List.getD oz_2_1 (Int.toNat v19) (false,(1,[],[]),((0:Int),[],()),((0:Int),[],()),((0:Int),[],()),())),(0,Prod.fst (Prod.snd (Prod.fst (Prod.snd (List.getD oz_2_1 (Int.toNat v19) (false,(1,[],[]),((0:Int),[],()),((0:Int),[],()),((0:Int),[],()),()))))),[]),Prod.snd (Prod.snd (List.getD oz_2_1 (Int.toNat v19) (false,(1,[],[]),((0:Int),[],()),((0:Int),[],()),((0:Int),[],()),())))),oz_2_2_1,oz_2_2_2_1,()))]))) (.f6 (q9 IntKind.i64 (v19+(1:Int))) (.ctL (f9 (d9 Tryz.prog 25) 4) (St.mk [(0,AV.ptr 2000000 []),(3,AV.val U8 v3),(4,AV.val N5 v4),(18,AV.val e8 v18),(19,AV.val e8 (v19+(1:Int)))] [(2000000,g8.var W6 ((oz_1_1,oz_1_2_1,()),oz_2_1,oz_2_2_1,oz_2_2_2_1,()))]))))) (.f6 ((0:Int)≤v19) (.f6 (q9 IntKind.i64 (v19+(1:Int))) (.ctL (f9 (d9 Tryz.prog 25) 4) (St.mk [(0,AV.ptr 2000000 []),(3,AV.val U8 (bOr IntKind.u8 v3 (R6 IntKind.u8 oz_1_2_1 (IntKind.wrap IntKind.u8 ((1:Int)*(2:Int)^min (Int.toNat v19) (IntKind.bits IntKind.u8)))))),(4,AV.val N5 v4),(18,AV.val e8 v18),(19,AV.val e8 (v19+(1:Int)))] [(2000000,g8.var W6 ((oz_1_1,oz_1_2_1,()),oz_2_1,oz_2_2_1,oz_2_2_2_1,()))])))))) (.f6 (True) (cond (decide (Prod.fst (Prod.snd (N8 (oz_1_1,oz_1_2_1,()) v3 (0:Int)))≠(0:Int))) (.ret ((Prod.fst (Prod.snd (N8 (oz_1_1,oz_1_2_1,()) v3 (0:Int))),((oz_1_1,oz_1_2_1,()),oz_2_1,oz_2_2_1,oz_2_2_2_1,()),()))) (.ctL (f9 (d9 Tryz.prog 25) 16) (St.mk [(0,AV.ptr 2000000 []),(4,AV.val N5 v4),(7,AV.ptr 7 []),(67,AV.val e8 (↑(List.length oz_2_1):Int)),(68,AV.val e8 (0:Int))] [(7,g8.var View (Prod.fst (N8 (oz_1_1,oz_1_2_1,()) v3 (0:Int)))),(2000000,g8.var W6 ((oz_1_1,oz_1_2_1,()),oz_2_1,oz_2_2_1,oz_2_2_2_1,()))])))):=by kernel_rfl
def a3A (v4:List (Int×List UInt8×Unit)) (v67:Int) (v68:Int) (o7_1:Int) (o7_2_1:Int) (oz_1_1:Int) (oz_1_2_1:Int) (oz_2_1:List J2) (oz_2_2_1:List (List UInt8)) (oz_2_2_2_1:List (List UInt8)):St:=St.mk [(0,AV.ptr 2000000 []),(4,AV.val N5 v4),(7,AV.ptr 7 []),(67,AV.val e8 v67),(68,AV.val e8 v68)] [(7,g8.var View (o7_1,o7_2_1,())),(2000000,g8.var W6 ((oz_1_1,oz_1_2_1,()),oz_2_1,oz_2_2_1,oz_2_2_2_1,()))]
theorem b5p (v4:List (Int×List UInt8×Unit)) (v67:Int) (v68:Int) (o7_1:Int) (o7_2_1:Int) (oz_1_1:Int) (oz_1_2_1:Int) (oz_2_1:List J2) (oz_2_2_1:List (List UInt8)) (oz_2_2_2_1:List (List UInt8)):exec a0f 1000 (.code (f9 (d9 Tryz.prog 25) 16).1::.inLoop (f9 (d9 Tryz.prog 25) 16).1::(f9 (d9 Tryz.prog 25) 16).2) (a3A v4 v67 v68 o7_1 o7_2_1 oz_1_1 oz_1_2_1 oz_2_1 oz_2_2_1 oz_2_2_2_1) =
  let q1:=(List.getD oz_2_1 (Int.toNat v68) (false,(1,[],[]),((0:Int),[],()),((0:Int),[],()),((0:Int),[],()),())); let q2:=N5; let q0:=(Ty.pair Ty.bool (Ty.pair (Ty.w5 u5) (Ty.pair V4 (Ty.pair (Ty.pair e8 (Ty.pair q2 Ty.unit)) (Ty.pair (Ty.pair e8 (Ty.pair q2 Ty.unit)) Ty.unit))))); let q3:=(↑(List.length (Prod.fst (Prod.snd (Prod.fst (Prod.snd q1))))):Int); let q4:=View; let q5:=(Ty.pair q4 (Ty.pair (Ty.d0 true q0) (Ty.pair (Ty.d0 true Ty.str) (Ty.pair (Ty.d0 true Ty.str) Ty.unit)))); cond (decide (v68<v67)) (.f6 ((0:Int)≤v68∧v68<(↑(List.length oz_2_1):Int)) (.f6 (List.length (List.map (rdV q0) oz_2_1)≤6) (cond (r8 ((oz_1_1,oz_1_2_1,()),List.map (rdV q0) oz_2_1,oz_2_2_1,oz_2_2_2_1,()) v68) (.f6 ((0:Int)≤q3∧q3≤(↑(List.length v4):Int)∧(↑(List.length v4):Int)≤(↑(List.length v4):Int)) (.ctL (f9 (d9 Tryz.prog 25) 22) (St.mk [(0,AV.ptr 2000000 []),(4,AV.val q2 v4),(7,AV.ptr 7 []),(9,AV.val e8 v68),(10,AV.ptr 2000000 [Step.l7 1,Step.idx v68]),(11,AV.val e8 (0:Int)),(67,AV.val e8 v67),(68,AV.val e8 v68),(86,AV.val q2 (n7 q3 (↑(List.length v4):Int) v4)),(87,AV.val e8 (↑(List.length (n7 q3 (↑(List.length v4):Int) v4)):Int)),(88,AV.val e8 (0:Int))] [(7,g8.var q4 (o7_1,o7_2_1,())),(2000000,g8.var q5 ((oz_1_1,oz_1_2_1,()),oz_2_1,oz_2_2_1,oz_2_2_2_1,()))]))) (.f6 (q9 IntKind.i64 (v68+(1:Int))) (.ctL (f9 (d9 Tryz.prog 25) 16) (St.mk [(0,AV.ptr 2000000 []),(4,AV.val q2 v4),(7,AV.ptr 7 []),(67,AV.val e8 v67),(68,AV.val e8 (v68+(1:Int)))] [(7,g8.var q4 (o7_1,o7_2_1,())),(2000000,g8.var q5 ((oz_1_1,oz_1_2_1,()),List.set oz_2_1 (Int.toNat v68) (Prod.fst q1,Prod.fst (Prod.snd q1),Prod.fst (Prod.snd (Prod.snd q1)),Prod.fst (Prod.snd (Prod.snd (Prod.snd q1))),((0:Int),[],()),Prod.snd (Prod.snd (Prod.snd (Prod.snd (Prod.snd q1))))),oz_2_2_1,oz_2_2_2_1,()))])))))) (.ret (((0:Int),((o7_1,o7_2_1,()),oz_2_1,[],oz_2_2_2_1,()),()))):=by kernel_rfl
def a3z (v4:List (Int×List UInt8×Unit)) (v9:Int) (v10i:Int) (v11:Int) (v67:Int) (v68:Int) (v86:List (Int×List UInt8×Unit)) (v87:Int) (v88:Int) (o7_1:Int) (o7_2_1:Int) (oz_1_1:Int) (oz_1_2_1:Int) (oz_2_1:List J2) (oz_2_2_1:List (List UInt8)) (oz_2_2_2_1:List (List UInt8)):St:=St.mk [(0,AV.ptr 2000000 []),(4,AV.val N5 v4),(7,AV.ptr 7 []),(9,AV.val e8 v9),(10,AV.ptr 2000000 [Step.l7 1,Step.idx v10i]),(11,AV.val e8 v11),(67,AV.val e8 v67),(68,AV.val e8 v68),(86,AV.val N5 v86),(87,AV.val e8 v87),(88,AV.val e8 v88)] [(7,g8.var View (o7_1,o7_2_1,())),(2000000,g8.var W6 ((oz_1_1,oz_1_2_1,()),oz_2_1,oz_2_2_1,oz_2_2_2_1,()))]
theorem b5o (v4:List (Int×List UInt8×Unit)) (v9:Int) (v10i:Int) (v11:Int) (v67:Int) (v68:Int) (v86:List (Int×List UInt8×Unit)) (v87:Int) (v88:Int) (o7_1:Int) (o7_2_1:Int) (oz_1_1:Int) (oz_1_2_1:Int) (oz_2_1:List J2) (oz_2_2_1:List (List UInt8)) (oz_2_2_2_1:List (List UInt8)):exec a0f 1000 (.code (f9 (d9 Tryz.prog 25) 22).1::.inLoop (f9 (d9 Tryz.prog 25) 22).1::(f9 (d9 Tryz.prog 25) 22).2) (a3z v4 v9 v10i v11 v67 v68 v86 v87 v88 o7_1 o7_2_1 oz_1_1 oz_1_2_1 oz_2_1 oz_2_2_1 oz_2_2_2_1) =
  let q3:=(false,(1,[],[]),((0:Int),[],()),((0:Int),[],()),((0:Int),[],()),()); let q1:=(List.set oz_2_1 (Int.toNat v10i) (Prod.fst (List.getD oz_2_1 (Int.toNat v10i) q3),(1,v4,[]),Prod.snd (Prod.snd (List.getD oz_2_1 (Int.toNat v10i) q3)))); let q0:=(List.getD q1 (Int.toNat v10i) q3); let q4:=(Prod.fst (Prod.snd (Prod.fst (Prod.snd (Prod.snd q0))))); let q2:=(↑(List.length q4):Int); let q6:=N5; let q7:=View; let q5:=(Ty.pair q7 (Ty.pair (Ty.d0 true (Ty.pair Ty.bool (Ty.pair (Ty.w5 u5) (Ty.pair V4 (Ty.pair (Ty.pair e8 (Ty.pair q6 Ty.unit)) (Ty.pair (Ty.pair e8 (Ty.pair q6 Ty.unit)) Ty.unit)))))) (Ty.pair (Ty.d0 true Ty.str) (Ty.pair (Ty.d0 true Ty.str) Ty.unit)))); let q8:=(2000000,g8.var q5 ((oz_1_1,oz_1_2_1,()),oz_2_1,oz_2_2_1,oz_2_2_2_1,())); cond (decide (v88<v87)) (.f6 ((0:Int)≤v88∧v88<(↑(List.length v86):Int)) (cond (decide (Prod.fst (List.getD v86 (Int.toNat v88) ((0:Int),[],()))=v9)) (.f6 (q9 IntKind.i64 (v11+(1:Int))) (.f6 (q9 IntKind.i64 (v88+(1:Int))) (.ctL (f9 (d9 Tryz.prog 25) 22) (St.mk [(0,AV.ptr 2000000 []),(4,AV.val q6 v4),(7,AV.ptr 7 []),(9,AV.val e8 v9),(10,AV.ptr 2000000 [Step.l7 1,Step.idx v10i]),(11,AV.val e8 (v11+(1:Int))),(67,AV.val e8 v67),(68,AV.val e8 v68),(86,AV.val q6 v86),(87,AV.val e8 v87),(88,AV.val e8 (v88+(1:Int)))] [(7,g8.var q7 (o7_1,o7_2_1,())),q8])))) (.f6 (q9 IntKind.i64 (v88+(1:Int))) (.ctL (f9 (d9 Tryz.prog 25) 22) (St.mk [(0,AV.ptr 2000000 []),(4,AV.val q6 v4),(7,AV.ptr 7 []),(9,AV.val e8 v9),(10,AV.ptr 2000000 [Step.l7 1,Step.idx v10i]),(11,AV.val e8 v11),(67,AV.val e8 v67),(68,AV.val e8 v68),(86,AV.val q6 v86),(87,AV.val e8 v87),(88,AV.val e8 (v88+(1:Int)))] [(7,g8.var q7 (o7_1,o7_2_1,())),q8]))))) (.f6 (List.length v4≤5864062014805) (.f6 (((0:Int)≤if q2<v11 then q2 else v11)∧(if q2<v11 then q2 else v11)≤q2∧q2≤q2) (.f6 (List.length (n7 (if q2<v11 then q2 else v11) q2 q4)≤1048576) (.f6 (q9 IntKind.i64 (v68+(1:Int))) (.ctL (f9 (d9 Tryz.prog 25) 16) (St.mk [(0,AV.ptr 2000000 []),(4,AV.val q6 v4),(7,AV.ptr 7 []),(67,AV.val e8 v67),(68,AV.val e8 (v68+(1:Int)))] [(7,g8.var q7 (o7_1,o7_2_1,())),(2000000,g8.var q5 ((oz_1_1,oz_1_2_1,()),List.set (List.set (List.set q1 (Int.toNat v10i) (Prod.fst q0,Prod.fst (Prod.snd q0),((0:Int),n7 (if q2<v11 then q2 else v11) q2 q4,()),Prod.snd (Prod.snd (Prod.snd q0)))) (Int.toNat v10i) (Prod.fst (List.getD (List.set q1 (Int.toNat v10i) (Prod.fst q0,Prod.fst (Prod.snd q0),((0:Int),n7 (if q2<v11 then q2 else v11) q2 q4,()),Prod.snd (Prod.snd (Prod.snd q0)))) (Int.toNat v10i) q3),Prod.fst (Prod.snd (List.getD (List.set q1 (Int.toNat v10i) (Prod.fst q0,Prod.fst (Prod.snd q0),((0:Int),n7 (if q2<v11 then q2 else v11) q2 q4,()),Prod.snd (Prod.snd (Prod.snd q0)))) (Int.toNat v10i) q3)),Prod.fst (Prod.snd (Prod.snd (List.getD (List.set q1 (Int.toNat v10i) (Prod.fst q0,Prod.fst (Prod.snd q0),((0:Int),n7 (if q2<v11 then q2 else v11) q2 q4,()),Prod.snd (Prod.snd (Prod.snd q0)))) (Int.toNat v10i) q3))),((0:Int),[],()),Prod.snd (Prod.snd (Prod.snd (Prod.snd (List.getD (List.set q1 (Int.toNat v10i) (Prod.fst q0,Prod.fst (Prod.snd q0),((0:Int),n7 (if q2<v11 then q2 else v11) q2 q4,()),Prod.snd (Prod.snd (Prod.snd q0)))) (Int.toNat v10i) q3)))))) (Int.toNat v10i) (Prod.fst (List.getD (List.set (List.set q1 (Int.toNat v10i) (Prod.fst q0,Prod.fst (Prod.snd q0),((0:Int),n7 (if q2<v11 then q2 else v11) q2 q4,()),Prod.snd (Prod.snd (Prod.snd q0)))) (Int.toNat v10i) (Prod.fst (List.getD (List.set q1 (Int.toNat v10i) (Prod.fst q0,Prod.fst (Prod.snd q0),((0:Int),n7 (if q2<v11 then q2 else v11) q2 q4,()),Prod.snd (Prod.snd (Prod.snd q0)))) (Int.toNat v10i) q3),Prod.fst (Prod.snd (List.getD (List.set q1 (Int.toNat v10i) (Prod.fst q0,Prod.fst (Prod.snd q0),((0:Int),n7 (if q2<v11 then q2 else v11) q2 q4,()),Prod.snd (Prod.snd (Prod.snd q0)))) (Int.toNat v10i) q3)),Prod.fst (Prod.snd (Prod.snd (List.getD (List.set q1 (Int.toNat v10i) (Prod.fst q0,Prod.fst (Prod.snd q0),((0:Int),n7 (if q2<v11 then q2 else v11) q2 q4,()),Prod.snd (Prod.snd (Prod.snd q0)))) (Int.toNat v10i) q3))),((0:Int),[],()),Prod.snd (Prod.snd (Prod.snd (Prod.snd (List.getD (List.set q1 (Int.toNat v10i) (Prod.fst q0,Prod.fst (Prod.snd q0),((0:Int),n7 (if q2<v11 then q2 else v11) q2 q4,()),Prod.snd (Prod.snd (Prod.snd q0)))) (Int.toNat v10i) q3)))))) (Int.toNat v10i) q3),Prod.fst (Prod.snd (List.getD (List.set (List.set q1 (Int.toNat v10i) (Prod.fst q0,Prod.fst (Prod.snd q0),((0:Int),n7 (if q2<v11 then q2 else v11) q2 q4,()),Prod.snd (Prod.snd (Prod.snd q0)))) (Int.toNat v10i) (Prod.fst (List.getD (List.set q1 (Int.toNat v10i) (Prod.fst q0,Prod.fst (Prod.snd q0),((0:Int),n7 (if q2<v11 then q2 else v11) q2 q4,()),Prod.snd (Prod.snd (Prod.snd q0)))) (Int.toNat v10i) q3),Prod.fst (Prod.snd (List.getD (List.set q1 (Int.toNat v10i) (Prod.fst q0,Prod.fst (Prod.snd q0),((0:Int),n7 (if q2<v11 then q2 else v11) q2 q4,()),Prod.snd (Prod.snd (Prod.snd q0)))) (Int.toNat v10i) q3)),Prod.fst (Prod.snd (Prod.snd (List.getD (List.set q1 (Int.toNat v10i) (Prod.fst q0,Prod.fst (Prod.snd q0),((0:Int),n7 (if q2<v11 then q2 else v11) q2 q4,()),Prod.snd (Prod.snd (Prod.snd q0)))) (Int.toNat v10i) q3))),((0:Int),[],()),Prod.snd (Prod.snd (Prod.snd (Prod.snd (List.getD (List.set q1 (Int.toNat v10i) (Prod.fst q0,Prod.fst (Prod.snd q0),((0:Int),n7 (if q2<v11 then q2 else v11) q2 q4,()),Prod.snd (Prod.snd (Prod.snd q0)))) (Int.toNat v10i) q3)))))) (Int.toNat v10i) q3)),Prod.fst (Prod.snd (Prod.snd (List.getD (List.set (List.set q1 (Int.toNat v10i) (Prod.fst q0,Prod.fst (Prod.snd q0),((0:Int),n7 (if q2<v11 then q2 else v11) q2 q4,()),Prod.snd (Prod.snd (Prod.snd q0)))) (Int.toNat v10i) (Prod.fst (List.getD (List.set q1 (Int.toNat v10i) (Prod.fst q0,Prod.fst (Prod.snd q0),((0:Int),n7 (if q2<v11 then q2 else v11) q2 q4,()),Prod.snd (Prod.snd (Prod.snd q0)))) (Int.toNat v10i) q3),Prod.fst (Prod.snd (List.getD (List.set q1 (Int.toNat v10i) (Prod.fst q0,Prod.fst (Prod.snd q0),((0:Int),n7 (if q2<v11 then q2 else v11) q2 q4,()),Prod.snd (Prod.snd (Prod.snd q0)))) (Int.toNat v10i) q3)),Prod.fst (Prod.snd (Prod.snd (List.getD (List.set q1 (Int.toNat v10i) (Prod.fst q0,Prod.fst (Prod.snd q0),((0:Int),n7 (if q2<v11 then q2 else v11) q2 q4,()),Prod.snd (Prod.snd (Prod.snd q0)))) (Int.toNat v10i) q3))),((0:Int),[],()),Prod.snd (Prod.snd (Prod.snd (Prod.snd (List.getD (List.set q1 (Int.toNat v10i) (Prod.fst q0,Prod.fst (Prod.snd q0),((0:Int),n7 (if q2<v11 then q2 else v11) q2 q4,()),Prod.snd (Prod.snd (Prod.snd q0)))) (Int.toNat v10i) q3)))))) (Int.toNat v10i) q3))),Prod.fst (Prod.snd (Prod.snd (Prod.snd (List.getD (List.set (List.set q1 (Int.toNat v10i) (Prod.fst q0,Prod.fst (Prod.snd q0),((0:Int),n7 (if q2<v11 then q2 else v11) q2 q4,()),Prod.snd (Prod.snd (Prod.snd q0)))) (Int.toNat v10i) (Prod.fst (List.getD (List.set q1 (Int.toNat v10i) (Prod.fst q0,Prod.fst (Prod.snd q0),((0:Int),n7 (if q2<v11 then q2 else v11) q2 q4,()),Prod.snd (Prod.snd (Prod.snd q0)))) (Int.toNat v10i) q3),Prod.fst (Prod.snd (List.getD (List.set q1 (Int.toNat v10i) (Prod.fst q0,Prod.fst (Prod.snd q0),((0:Int),n7 (if q2<v11 then q2 else v11) q2 q4,()),Prod.snd (Prod.snd (Prod.snd q0)))) (Int.toNat v10i) q3)),Prod.fst (Prod.snd (Prod.snd (List.getD (List.set q1 (Int.toNat v10i) (Prod.fst q0,Prod.fst (Prod.snd q0),((0:Int),n7 (if q2<v11 then q2 else v11) q2 q4,()),Prod.snd (Prod.snd (Prod.snd q0)))) (Int.toNat v10i) q3))),((0:Int),[],()),Prod.snd (Prod.snd (Prod.snd (Prod.snd (List.getD (List.set q1 (Int.toNat v10i) (Prod.fst q0,Prod.fst (Prod.snd q0),((0:Int),n7 (if q2<v11 then q2 else v11) q2 q4,()),Prod.snd (Prod.snd (Prod.snd q0)))) (Int.toNat v10i) q3)))))) (Int.toNat v10i) q3)))),((0:Int),[],()),Prod.snd (Prod.snd (Prod.snd (Prod.snd (Prod.snd (List.getD (List.set (List.set q1 (Int.toNat v10i) (Prod.fst q0,Prod.fst (Prod.snd q0),((0:Int),n7 (if q2<v11 then q2 else v11) q2 q4,()),Prod.snd (Prod.snd (Prod.snd q0)))) (Int.toNat v10i) (Prod.fst (List.getD (List.set q1 (Int.toNat v10i) (Prod.fst q0,Prod.fst (Prod.snd q0),((0:Int),n7 (if q2<v11 then q2 else v11) q2 q4,()),Prod.snd (Prod.snd (Prod.snd q0)))) (Int.toNat v10i) q3),Prod.fst (Prod.snd (List.getD (List.set q1 (Int.toNat v10i) (Prod.fst q0,Prod.fst (Prod.snd q0),((0:Int),n7 (if q2<v11 then q2 else v11) q2 q4,()),Prod.snd (Prod.snd (Prod.snd q0)))) (Int.toNat v10i) q3)),Prod.fst (Prod.snd (Prod.snd (List.getD (List.set q1 (Int.toNat v10i) (Prod.fst q0,Prod.fst (Prod.snd q0),((0:Int),n7 (if q2<v11 then q2 else v11) q2 q4,()),Prod.snd (Prod.snd (Prod.snd q0)))) (Int.toNat v10i) q3))),((0:Int),[],()),Prod.snd (Prod.snd (Prod.snd (Prod.snd (List.getD (List.set q1 (Int.toNat v10i) (Prod.fst q0,Prod.fst (Prod.snd q0),((0:Int),n7 (if q2<v11 then q2 else v11) q2 q4,()),Prod.snd (Prod.snd (Prod.snd q0)))) (Int.toNat v10i) q3)))))) (Int.toNat v10i) q3)))))),oz_2_2_1,oz_2_2_2_1,()))])))))):=by kernel_rfl
theorem a6z {α:Type} {l:List α} {a:Nat} (h:a≤l.length):n7 (a:Int) (l.length:Int) l=l.drop a:=by
  unfold n7
  rw [List.take_of_length_le (by rw [List.length_drop]; omega)]
  congr 1
theorem c6o (a b:Nat):(if (a:Int)<(b:Int) then (a:Int) else (b:Int))=((min b a:Nat):Int):=by split<;>omega
attribute [local irreducible] r8 N8 F9 in
theorem a5S:b7h.Valid Tryz.prog 25:=by
  refine p7.o6 a03 rfl rfl Tryz.func25 (c:=d9 Tryz.prog 25) rfl rfl a02 rfl ?_
  rintro ⟨⟨⟨(v0:Int),(v1:Int),⟨⟩⟩,(al0:List J2),(od:List (List UInt8)),(wy:List (List UInt8)),⟨⟩⟩,⟨⟩⟩ ⟨he,(hpre:a0M (a0x ((v0,v1,()),al0,od,wy,()))),(hne:¬ (R9 (a0x ((v0,v1,()),al0,od,wy,()))).2.1≠0)⟩ -
  have he:al0=(al0.map rdP).map toM:=congrArg (fun m:a7q=>m.2.1) he
  obtain ⟨w,hw⟩:∃ w:f8,w=a0x ((v0,v1,()),al0,od,wy,()):=⟨_,rfl⟩
  rw [← hw] at hpre hne
  have hw1:w.1=(v0,v1,()):=by rw [hw]
  have hw2:w.2.1=al0.map rdP:=by rw [hw]
  have hact:∀ (al:List J2) (i:Nat),al.length=w.2.1.length→((al.map rdP).getD i i8).1=(w.2.1.getD i i8).1→∀ r,r8 ((v0,v1,()),al.map rdP,r) i=r8 w i:=fun al i h1 h2 r=>by
    have:=b4y (v:=(v0,v1,())) (al':=al.map rdP) (al:=w.2.1) (r:=w.2.2) (r':=r) (p:=(i:Int)) (by rw [List.length_map]; exact h1) h2
    rw [this,show ((v0,v1,()),w.2.1,w.2.2)=w by rw [hw]]
  have hlen0:al0.length=w.2.1.length:=by rw [hw2,List.length_map]
  have hinv0:a2K w al0:=by
    have:=a2K.start w
    rw [hw2,← he] at this
    exact this
  have hLb:=b3E (w:=w) hpre.c7v
  refine j5 (n:=1000) a03 a02 ?_
  refine g9 (c0e v0 v1 al0 od wy) ?_
  have hout:a0p (F9 (a0x ((v0,v1,()),al0,od,wy,())))=a0p (F9 w):=by rw [hw]
  show Go.Ex.Reach a0f Tryz.f25 ((0:Int),()) (a0p (F9 (a0x ((v0,v1,()),al0,od,wy,()))),()) (.code (f9 (d9 Tryz.prog 25) 4).1::.inLoop (f9 (d9 Tryz.prog 25) 4).1::(f9 (d9 Tryz.prog 25) 4).2) (a4i (D8 w 0) (G4 w 0) (al0.length:Int) ((0:Nat):Int) v0 v1 al0 od wy)
  rw [hout,hlen0]
  refine Reach.N3 a03 a02 (fun i:Nat×List J2=>a4i (D8 w i.1) (G4 w i.1) (w.2.1.length:Int) (i.1:Int) v0 v1 i.2 od wy) (fun i=>i.1≤w.2.1.length∧a2K w i.2)
    (fun i=>w.2.1.length - i.1) 1000 (fun _=>⟨u3 rfl,u3 rfl⟩) ?_ (0,al0) ⟨Nat.zero_le _,hinv0⟩
  rintro ⟨i,al⟩ ⟨k1,hi⟩ - ih
  have k1:i≤w.2.1.length:=k1
  have hi:a2K w al:=hi
  have ih:∀ al',i<w.2.1.length→a2K w al'→_:=fun al' h h2=>ih (i+1,al') ⟨by show i+1≤w.2.1.length; omega,h2⟩ (by show w.2.1.length - (i+1)<w.2.1.length - i; omega)
  refine g9 (b6B ..) ?_
  have e1:((i:Nat):Int)+1=((i+1:Nat):Int):=by omega
  have hfew:=hpre.R4
  have hA:=hact al i hi.len (by rw [b3o,hi.rd i])
  simp only [j8,Tree.holds,true_and,true_implies,decide_eq_true_eq,decide_eq_false_iff_not,Bool.not_eq_true',Bool.not_eq_false',Int.toNat_natCast,j9,List.length_set,List.length_cons,List.length_nil,e1]
  refine ⟨fun c=>⟨by show (al.map rdP).length≤6; rw [List.length_map]; have:=hi.len; omega,fun _=>⟨fun a=>⟨by have:=hi.len; omega,fun _=>⟨fun b=>⟨j9.2 ⟨by omega,by omega⟩,fun _=>?_⟩,fun b=>⟨j9.2 ⟨by omega,by omega⟩,fun _=>?_⟩⟩⟩,fun a=>⟨by omega,fun _=>⟨j9.2 ⟨by omega,by omega⟩,fun _=>?_⟩⟩⟩⟩,fun c=>⟨fun d=>?_,fun d=>?_⟩⟩
  · have a':r8 w i=true:=(hA _).symm.trans a
    have hl:(al.getD i dM).2.1.2.1=(w.2.1.getD i i8).2.1:=congrArg (fun x:o8=>x.2.1) (hi.rd i)
    have b':(G4 w i).length<(w.2.1.getD i i8).2.1.length:=by rw [← hl]; exact_mod_cast b
    have:=ih _ (by omega) (hi.a09 (n:=0) a')
    rw [show D8 w (i+1)=D8 w i from if_pos a',show G4 w (i+1)=(al.getD i dM).2.1.2.1 by rw [G4,if_pos ⟨a',b'⟩,hl]] at this
    exact this
  · have a':r8 w i=true:=(hA _).symm.trans a
    have hl:(al.getD i dM).2.1.2.1=(w.2.1.getD i i8).2.1:=congrArg (fun x:o8=>x.2.1) (hi.rd i)
    have b':¬ (G4 w i).length<(w.2.1.getD i i8).2.1.length:=by rw [← hl]; intro h; exact b (by exact_mod_cast h)
    have:=ih al (by omega) hi
    rw [show D8 w (i+1)=D8 w i from if_pos a',show G4 w (i+1)=G4 w i by rw [G4,if_neg (fun h=>b' h.2)]] at this
    exact this
  · have a':r8 w i=false:=(hA _).symm.trans a
    have:=ih al (by omega) hi
    rw [show D8 w (i+1)=bOr .u8 (D8 w i) (R6 .u8 w.1.2.1 (IntKind.wrap .u8 (1*2^min i IntKind.u8.bits))) from if_neg (by rw [a']; decide),show G4 w (i+1)=G4 w i by rw [G4,if_neg (fun h=>by rw [a'] at h; cases h.1)],hw1] at this
    exact this
  · obtain rfl:i=w.2.1.length:=by omega
    exact absurd (by rw [R9,hw1]; exact d) hne
  obtain rfl:i=w.2.1.length:=by omega
  obtain ⟨L,hL⟩:∃ L,L=G4 w w.2.1.length:=⟨_,rfl⟩
  have hg:∀ i:Nat,r8 w i=true→i<w.2.1.length→(w.2.1.getD i i8).2.1.length≤L.length:=fun i h h2=>by rw [hL]; exact a47 h h2
  have hLl:L.length≤5864062014805:=by rw [hL]; exact hLb _
  rw [← hL]
  obtain ⟨z0,z1,hz⟩:∃ z0 z1,(N8 (v0,v1,()) (D8 w w.2.1.length) 0).1=(z0,z1,()):=⟨_,_,rfl⟩
  have hfin:F9 w=((z0,z1,()),w.2.1.mapIdx (Y8 w L),[],wy,()):=by
    unfold F9
    rw [← hL,R9,hw1,hz,hw]
  rw [hfin]
  suffices go:Go.Ex.Reach a0f Tryz.f25 ((0:Int),()) (a0p ((z0,z1,()),w.2.1.mapIdx (Y8 w L),[],wy,()),()) (.code (f9 (d9 Tryz.prog 25) 16).1::.inLoop (f9 (d9 Tryz.prog 25) 16).1::(f9 (d9 Tryz.prog 25) 16).2) (a3A L (w.2.1.length:Int) ((0:Nat):Int) z0 z1 v0 v1 al od wy) by
    rw [← hi.len] at go
    have h0:(N8 (v0,v1,()) (D8 w w.2.1.length) 0).1.1=z0:=by rw [hz]
    have h1:(N8 (v0,v1,()) (D8 w w.2.1.length) 0).1.2.1=z1:=by rw [hz]
    subst h0; subst h1
    rw [hi.len] at go ⊢
    exact go
  refine Reach.N3 a03 a02 (fun i:Nat×List J2=>a3A L (w.2.1.length:Int) (i.1:Int) z0 z1 v0 v1 i.2 od wy) (fun i=>i.1≤w.2.1.length∧a1N w L i.1 i.2)
    (fun i=>w.2.1.length - i.1) 1000 (fun _=>⟨u3 rfl,u3 rfl⟩) ?_ (0,al) ⟨Nat.zero_le _,hi.next L⟩
  clear ih
  rintro ⟨k,al⟩ ⟨k1,hi⟩ - ih
  have k1:k≤w.2.1.length:=k1
  have hi:a1N w L k al:=hi
  have ih:∀ al',k<w.2.1.length→a1N w L (k+1) al'→_:=fun al' h h2=>ih (k+1,al') ⟨by show k+1≤w.2.1.length; omega,h2⟩ (by show w.2.1.length - (k+1)<w.2.1.length - k; omega)
  refine g9 (b5p ..) ?_
  have e2:((k:Nat):Int)+1=((k+1:Nat):Int):=by omega
  have hA:=hact al k hi.len (hi.act k)
  have hl:(al.getD k dM).2.1.2.1=(w.2.1.getD k i8).2.1:=congrArg (fun x:o8=>x.2.1) (hi.rd k (Nat.le_refl _))
  have hln:=hi.len
  simp only [j8,Tree.holds,true_and,true_implies,decide_eq_true_eq,decide_eq_false_iff_not,Bool.not_eq_true',Bool.not_eq_false',Int.toNat_natCast,j9,List.length_set,List.length_cons,List.length_nil,e2]
  refine ⟨fun c=>⟨⟨by omega,by omega⟩,fun _=>⟨by show (al.map rdP).length≤6; rw [List.length_map]; omega,fun _=>⟨fun a=>⟨?_,fun _=>?_⟩,fun a=>⟨j9.2 ⟨by omega,by omega⟩,fun _=>?_⟩⟩⟩⟩,fun c=>?_⟩
  · rw [hl]
    have:=hg k ((hA _).symm.trans a) (by omega)
    omega
  · have a':r8 w k=true:=(hA _).symm.trans a
    have hb:=hg k a' (by omega)
    rw [hl,a6z hb]
    obtain ⟨D,hD⟩:∃ D,D=L.drop (w.2.1.getD k i8).2.1.length:=⟨_,rfl⟩
    have hDl:D.length≤5864062014805:=by rw [hD,List.length_drop]; omega
    rw [← hD]
    suffices go:Go.Ex.Reach a0f Tryz.f25 ((0:Int),()) (a0p ((z0,z1,()),w.2.1.mapIdx (Y8 w L),[],wy,()),()) (.code (f9 (d9 Tryz.prog 25) 22).1::.inLoop (f9 (d9 Tryz.prog 25) 22).1::(f9 (d9 Tryz.prog 25) 22).2) (a3z L (k:Int) (k:Int) ((countP k (D.take 0):Nat):Int) (w.2.1.length:Int) (k:Int) D (D.length:Int) ((0:Nat):Int) z0 z1 v0 v1 al od wy) by exact go
    refine Reach.N3 a03 a02 (fun j:Nat=>a3z L (k:Int) (k:Int) ((countP k (D.take j):Nat):Int) (w.2.1.length:Int) (k:Int) D (D.length:Int) (j:Int) z0 z1 v0 v1 al od wy) (fun j=>j≤D.length)
      (fun j=>D.length - j) 1000 (fun _=>⟨u3 rfl,u3 rfl⟩) ?_ 0 (Nat.zero_le _)
    rintro j k2 - ih2
    have k2:j≤D.length:=k2
    refine g9 (b5o ..) ?_
    have e3:((j:Nat):Int)+1=((j+1:Nat):Int):=by omega
    have hcj:countP k (D.take j)≤j:=Nat.le_trans countP_le (by rw [List.length_take]; omega)
    have hG:∀ y:J2,(al.set k y).getD k (false,(1,[],[]),(0,[],()),(0,[],()),(0,[],()),())=y:=fun y=>by
      rw [List.getD_eq_getElem?_getD,List.getElem?_set_self (by omega)]; rfl
    have hS:∀ y z:J2,(al.set k y).set k z=al.set k z:=fun y z=>List.set_set ..
    have hlate:(al.getD k dM).2.2.1.2.1.length≤1048576:=by
      have:=hpre.late k
      rw [← hi.rd k (Nat.le_refl _)] at this
      exact this
    simp only [j8,Tree.holds,true_and,true_implies,decide_eq_true_eq,decide_eq_false_iff_not,Bool.not_eq_true',Bool.not_eq_false',Int.toNat_natCast,j9,List.length_set,List.length_cons,List.length_nil,e3,hG,hS,c6o]
    refine ⟨fun d=>⟨by omega,fun _=>⟨fun e=>⟨j9.2 ⟨by omega,by omega⟩,fun _=>⟨j9.2 ⟨by omega,by omega⟩,fun _=>?_⟩⟩,fun e=>⟨j9.2 ⟨by omega,by omega⟩,fun _=>?_⟩⟩⟩,fun d=>?_⟩
    · have:=ih2 (j+1) (by show j+1≤D.length; omega) (by show D.length - (j+1)<D.length - j; omega)
      rw [a7O (show j<D.length by omega),if_pos e,Int.natCast_add] at this
      exact this
    · have:=ih2 (j+1) (by show j+1≤D.length; omega) (by show D.length - (j+1)<D.length - j; omega)
      rw [a7O (show j<D.length by omega),if_neg e,Nat.add_zero] at this
      exact this
    · obtain rfl:j=D.length:=by omega
      have hr:=hi.rd k (Nat.le_refl _)
      simp only [dM] at hlate hr
      refine ⟨hLl,fun _=>⟨⟨by omega,by omega,Int.le_refl _⟩,fun _=>⟨?_,fun _=>⟨⟨by omega,by omega⟩,fun _=>?_⟩⟩⟩⟩
      · rw [a6z (Nat.min_le_right ..),List.length_drop]; omega
      · rw [a6z (Nat.min_le_right ..),List.take_length]
        have:=ih _ (by omega) hi.step
        rw [show Y8 w L k (w.2.1.getD k i8)=((w.2.1.getD k i8).1,L,(0,(w.2.1.getD k i8).2.2.1.2.1.drop (min (countP k D) (w.2.1.getD k i8).2.2.1.2.1.length),()),(0,[],()),(0,[],()),()) from (if_pos a').trans (by rw [hD])] at this
        rw [← hr] at this
        exact this
  · have a':r8 w k=false:=(hA _).symm.trans a
    have:=ih _ (by omega) hi.step
    rw [show Y8 w L k (w.2.1.getD k i8)=((w.2.1.getD k i8).1,(w.2.1.getD k i8).2.1,(w.2.1.getD k i8).2.2.1,(w.2.1.getD k i8).2.2.2.1,(0,[],()),()) from if_neg (by rw [a']; decide)] at this
    have hs:=hi.same k (Nat.le_refl _) a'
    simp only [dM] at hs
    rw [hs]
    exact this
  · obtain rfl:k=w.2.1.length:=by omega
    have:=hi.fin
    subst this
    rfl
end Go.Proofs.YtijlnmgondibnaaGreatDoor
namespace Go.Proofs.YtijlnmgondibnaaGreatDoor
open Go.Ex
set_option maxRecDepth 100000
def a3W (S:Nat→List C5) (O:List C5) (n:y4):Prop :=
  (n.1=1→(S n.2.1.toNat)[n.2.2.2.2.1.toNat]?=some n.2.2.2.2.2.2.1)∧(n.1=2→O[n.2.2.2.2.1.toNat]?=some n.2.2.2.2.2.2.1)
def a7r (S:Nat→List C5) (O:List C5) (V:Int) (s:C5):Prop:=(s9 s).2.1=0→(s9 s).1.2.2.2.1≤V∧((s9 s).1.2.2.2.1=V→a3W S O (s9 s).1)
structure b2S (said:Nat→List C5) (B:List B9) (S:Nat→List C5) (Q:List S8) (p:Nat) (x:o8) (m:Nat):Prop where
  le:m≤Q.length
  next:x.2.2.2.1.1=m
  wait:∀ q∈x.2.2.2.1.2.1,(I1 Q)[q.1.toNat]?=some q.2.1
  log:x.2.1=B++(Q.take m).map a35
  from_:x.2.2.1=(((y5 p (Q.take m)).length:Int),(S p).drop (y5 p (Q.take m)).length,())
  ok:I7 x.2.2.1=0
structure Inv (said:Nat→List C5) (B:List B9) (S:Nat→List C5) (Q:List S8) (w:f8):Prop where
  R4:w.2.1.length≤6
  way:w.2.2.2.1.length≤60
  ord:w.2.2.1=I1 Q
  inQ:∀ x∈Q,x.1<w.2.1.length
  b0o:∀ p,y5 p Q <+: S p
  short:∀ p,(S p).length≤16777215
  msg:∀ s∈w.2.2.2.1,a7r S w.2.2.1 w.1.1 s
  rcv:∀ p:Nat,p<w.2.1.length→(w.2.1.getD p i8).2.2.2.2.1.1=(y5 p Q).length∧∀ q∈(w.2.1.getD p i8).2.2.2.2.1.2.1,(S p)[q.1.toNat]?=some q.2.1
  mem:∀ p:Nat,p<w.2.1.length→V8 w.1.2.1 p=true→(∃ m,b2S said B S Q p (w.2.1.getD p i8) m)∧said p=ofP p B++S p
  out:∀ p:Nat,p<w.2.1.length→V8 w.1.2.1 p=false→S p=[]∧ofP p B <+: said p
structure T7 (P:y4→Prop) (w w':f8):Prop where
  view:w'.1=w.1
  all:w'.2.1=w.2.1
  ord:w'.2.2.1=w.2.2.1
  len:w.2.2.2.1.length≤60→w'.2.2.2.1.length≤60
  way:∀ s∈w'.2.2.2.1,s∈w.2.2.2.1∨∃ n:y4,s9 s=(n,0,())∧n.2.2.2.1=w.1.1∧P n
theorem T7.refl {P:y4→Prop} (w:f8):T7 P w w:=⟨rfl,rfl,rfl,id,fun _ h=>.inl h⟩
theorem T7.trans {P:y4→Prop} {w w' w'':f8} (h:T7 P w w') (h':T7 P w' w''):T7 P w w'' :=
  ⟨h'.view.trans h.view,h'.all.trans h.all,h'.ord.trans h.ord,fun e=>h'.len (h.len e),fun s hs=>by
    rcases h'.way s hs with h1|⟨n,h1,h2,h3⟩
    · exact h.way s h1
    · exact .inr ⟨n,h1,by rw [h2,h.view],h3⟩⟩
theorem T7.one {P:y4→Prop} {w:f8} {k f t q:Int} {x:C5} (h:P (k,f,t,w.1.1,q,[0,0,0,0,0,0],x,())):T7 P w (K9 w k f t q x):=by
  by_cases c:(Q5 (k,f,t,w.1.1,q,[0,0,0,0,0,0],x,())).2.1=0∧(w.2.2.2.1.length:Int)<60
  · rw [a5Z c.1 c.2]
    refine ⟨rfl,rfl,rfl,fun _=>?_,fun s hs=>?_⟩
    · show (w.2.2.2.1++[_]).length≤60
      rw [List.length_append]
      have:=c.2
      simp only [List.length_singleton]; omega
    · rcases List.mem_append.1 hs with hs|hs
      · exact .inl hs
      · rw [List.mem_singleton] at hs
        have hc:G0 (k,f,t,w.1.1,q,[0,0,0,0,0,0],x,())=0:=by
          by_cases hc:G0 (k,f,t,w.1.1,q,[0,0,0,0,0,0],x,())=0
          · exact hc
          · have:=c.1
            rw [c2C hc] at this
            exact absurd this hc
        rw [c2B hc] at hs
        exact .inr ⟨_,by rw [hs]; exact c0Q hc rfl,rfl,h⟩
  · rw [a3H c]; exact .refl w
theorem Inv.b8b {said:Nat→List C5} {B:List B9} {S:Nat→List C5} {Q:List S8} {w w':f8} (h:Inv said B S Q w) (hs:T7 (a3W S w.2.2.1) w w'):Inv said B S Q w':=by
  obtain ⟨h1,h2,h3,h4,h5,h6,h7,h8,h9,h10⟩:=h
  refine ⟨by rw [hs.all]; exact h1,hs.len h2,by rw [hs.ord]; exact h3,by rw [hs.all]; exact h4,h5,h6,?_,by rw [hs.all]; exact h8,by rw [hs.all,hs.view]; exact h9,by rw [hs.all,hs.view]; exact h10⟩
  intro s hm
  rw [hs.view,hs.ord]
  rcases hs.way s hm with h|⟨n,e1,e2,e3⟩
  · exact h7 s h
  · intro _
    rw [e1]
    exact ⟨by show n.2.2.2.1≤w.1.1; omega,fun _=>e3⟩
theorem Inv.D6 {said:Nat→List C5} {B:List B9} {S:Nat→List C5} {Q:List S8} {w:f8} (h:Inv said B S Q w) {p:Nat} {x:o8}
    (hr:p<w.2.1.length→x.2.2.2.2.1.1=(y5 p Q).length∧∀ q∈x.2.2.2.2.1.2.1,(S p)[q.1.toNat]?=some q.2.1)
    (hm:p<w.2.1.length→V8 w.1.2.1 p=true→∃ m,b2S said B S Q p x m):Inv said B S Q (w.1,w.2.1.set p x,w.2.2):=by
  obtain ⟨h1,h2,h3,h4,h5,h6,h7,h8,h9,h10⟩:=h
  have hl:(w.2.1.set p x).length=w.2.1.length:=List.length_set ..
  refine ⟨by rw [hl]; exact h1,h2,h3,by rw [hl]; exact h4,h5,h6,h7,fun q hq=>?_,fun q hq hv=>?_,fun q hq hv=>?_⟩
  · rw [hl] at hq
    rw [U2]
    split
    · rename_i e; rw [← e.1]; exact hr e.2
    · exact h8 q hq
  · rw [hl] at hq
    rw [U2]
    refine ⟨?_,(h9 q hq hv).2⟩
    split
    · rename_i e; rw [← e.1]; rw [← e.1] at hv; exact hm e.2 hv
    · exact (h9 q hq hv).1
  · rw [hl] at hq
    exact h10 q hq hv
theorem a3W.mono {S S':Nat→List C5} {O O':List C5} {n:y4} (h:a3W S O n) (hS:∀ p,S p <+: S' p) (hO:O <+: O'):a3W S' O' n :=
  ⟨fun e=>a25 (hS _) (h.1 e),fun e=>a25 hO (h.2 e)⟩
theorem a7r.mono {S S':Nat→List C5} {O O':List C5} {V:Int} {s:C5} (h:a7r S O V s) (hS:∀ p,S p <+: S' p) (hO:O <+: O'):a7r S' O' V s :=
  fun e=>⟨(h e).1,fun e2=>((h e).2 e2).mono hS hO⟩
def a4N (f:Nat→List C5) (p:Nat) (x:List C5):Nat→List C5:=fun q=>if q=p then x else f q
theorem a1f {f:Nat→List C5} {p:Nat} {x:List C5}:a4N f p x p=x:=if_pos rfl
theorem a1R {f:Nat→List C5} {p q:Nat} {x:List C5} (h:q≠p):a4N f p x q=f q:=if_neg h
theorem b61 {s:a0U} {x:C5} (h:¬ (M5 s x).2.1≠0):(M5 s x).1=(s.1,s.2.1++[x],())∧I7 (s.1,s.2.1++[x],())=0∧s.1+s.2.1.length<16777215:=by
  unfold M5 at h ⊢
  by_cases h1:I7 s≠0
  · rw [if_pos h1] at h; exact absurd h1 h
  rw [if_neg h1] at h ⊢
  have hok:=a1c (Decidable.not_not.1 h1)
  by_cases h2:D5 x=true
  · rw [if_pos h2] at h; exact absurd (by decide) h
  rw [if_neg h2] at h ⊢
  by_cases h3:(s.2.1.length:Int)=16∨16777215≤s.1+s.2.1.length
  · rw [if_pos h3] at h; exact absurd (by decide) h
  rw [if_neg h3]
  have h4:¬ (s.2.1.length:Int)=16:=fun e=>h3 (.inl e)
  have h5:¬ 16777215≤s.1+s.2.1.length:=fun e=>h3 (.inr e)
  refine ⟨rfl,?_,by omega⟩
  unfold I7
  rw [if_neg (by rw [Y5.2 hok.1]; decide),if_neg,if_neg]
  · rw [List.any_append,hok.2.2]
    simpa using h2
  · show ¬ (16:Int)<((s.2.1++[x]).length:Int)
    rw [List.length_append]; simp only [List.length_singleton]
    have:=hok.2.1
    omega
theorem Inv.say {said:Nat→List C5} {B:List B9} {S:Nat→List C5} {Q:List S8} {w:f8} (h:Inv said B S Q w) {p:Nat} {t:C5} (hp:p<w.2.1.length) (hv:V8 w.1.2.1 p=true)
    (hl:¬ (M5 (Y7 w p) t).2.1≠0):Inv (a4N said p (said p++[t])) B (a4N S p (S p++[t])) Q (c4i w p t (M5 (Y7 w p) t).1):=by
  obtain ⟨h1,h2,h3,h4,h5,h6,h7,h8,h9,h10⟩:=h
  obtain ⟨g1,g2,g3⟩:=b61 hl
  obtain ⟨⟨m,hm⟩,hsaid⟩:=h9 p hp hv
  have hf:Y7 w p=(((y5 p (Q.take m)).length:Int),(S p).drop (y5 p (Q.take m)).length,()):=hm.from_
  have hle:(y5 p (Q.take m)).length≤(S p).length:=((a07 (p:=p) (Q:=Q) (i:=m)).trans (h5 p)).length_le
  rw [g1]
  rw [hf] at g2 g3 ⊢
  simp only [List.length_drop] at g3
  have hdrop:(S p).drop (y5 p (Q.take m)).length++[t]=(S p++[t]).drop (y5 p (Q.take m)).length:=(List.drop_append_of_le_length hle).symm
  simp only [hdrop] at g2 ⊢
  have hS:∀ q,S q <+: a4N S p (S p++[t]) q:=fun q=>by
    by_cases e:q=p
    · subst e; rw [a1f]; exact List.prefix_append ..
    · rw [a1R e]; exact List.prefix_rfl
  have hlen:(setFrom w p (((y5 p (Q.take m)).length:Int),(S p++[t]).drop (y5 p (Q.take m)).length,())).2.1.length=w.2.1.length:=List.length_set ..
  have hget:∀ q,(setFrom w p (((y5 p (Q.take m)).length:Int),(S p++[t]).drop (y5 p (Q.take m)).length,())).2.1.getD q i8=if p=q then ((w.2.1.getD p i8).1,(w.2.1.getD p i8).2.1,(((y5 p (Q.take m)).length:Int),(S p++[t]).drop (y5 p (Q.take m)).length,()),(w.2.1.getD p i8).2.2.2) else w.2.1.getD q i8:=fun q=>by
    show (w.2.1.set p _).getD q i8=_
    rw [U2]
    by_cases e:p=q
    · rw [if_pos ⟨e,hp⟩,if_pos e]; rfl
    · rw [if_neg (fun h=>e h.1),if_neg e]
  have base:Inv (a4N said p (said p++[t])) B (a4N S p (S p++[t])) Q (setFrom w p (((y5 p (Q.take m)).length:Int),(S p++[t]).drop (y5 p (Q.take m)).length,())):=by
    refine ⟨by rw [hlen]; exact h1,h2,h3,by rw [hlen]; exact h4,fun q=>(h5 q).trans (hS q),fun q=>?_,fun s hs=>(h7 s hs).mono hS List.prefix_rfl,fun q hq=>?_,fun q hq hv=>?_,fun q hq hv=>?_⟩
    · by_cases e:q=p
      · subst e; rw [a1f,List.length_append]; simp only [List.length_singleton]; omega
      · rw [a1R e]; exact h6 q
    · rw [hlen] at hq
      rw [hget]
      by_cases e:p=q
      · subst e
        rw [if_pos rfl]
        exact ⟨(h8 p hq).1,fun x hx=>a25 (hS p) ((h8 p hq).2 x hx)⟩
      · rw [if_neg e]
        exact ⟨(h8 q hq).1,fun x hx=>a25 (hS q) ((h8 q hq).2 x hx)⟩
    · rw [hlen] at hq
      rw [hget]
      by_cases e:p=q
      · subst e
        rw [if_pos rfl,a1f,a1f]
        refine ⟨⟨m,hm.le,hm.next,hm.wait,hm.log,?_,g2⟩,by rw [hsaid,List.append_assoc]⟩
        rw [a1f]
      · rw [if_neg e,a1R (Ne.symm e),a1R (Ne.symm e)]
        obtain ⟨⟨m',hm'⟩,hs'⟩:=h9 q hq hv
        refine ⟨⟨m',hm'.le,hm'.next,hm'.wait,hm'.log,?_,hm'.ok⟩,hs'⟩
        rw [a1R (Ne.symm e)]
        exact hm'.from_
    · rw [hlen] at hq
      have e:q≠p:=by
        rintro rfl
        have hv':V8 w.1.2.1 q=false:=hv
        rename_i hv1
        rw [hv1] at hv'; cases hv'
      rw [a1R e,a1R e]
      exact h10 q hq hv
  refine base.b8b (T7.one ⟨fun _=>?_,fun h=>by cases h⟩)
  show (a4N S p (S p++[t]) ((p:Int)).toNat)[(((y5 p (Q.take m)).length:Int)+(((S p++[t]).drop (y5 p (Q.take m)).length).length:Int) - 1).toNat]?=some t
  rw [show ((p:Int)).toNat=p from rfl,a1f]
  rw [List.length_drop,List.length_append]
  simp only [List.length_singleton]
  rw [show (((y5 p (Q.take m)).length:Int)+(((S p).length+1 - (y5 p (Q.take m)).length:Nat):Int) - 1).toNat=(S p).length by omega]
  rw [List.getElem?_append_right (Nat.le_refl _),Nat.sub_self]; rfl
end Go.Proofs.YtijlnmgondibnaaGreatDoor
