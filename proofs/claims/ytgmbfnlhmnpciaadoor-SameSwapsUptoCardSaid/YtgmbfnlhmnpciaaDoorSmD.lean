/- The package same: clamp, run, Read, Run, Swaps. -/
import Derived.Test.YtgmbfnlhmnpciaaDoorBase
import Derived.Test.YtgmbfnlhmnpciaaDoorSmB
import Derived.Test.YtgmbfnlhmnpciaaDoorSmC
namespace Go.Proofs.YtgmbfnlhmnpciaaDoor
open Go.Ex
set_option maxRecDepth 100000
abbrev CmdD:=Int×Int×Int×Unit
abbrev StrD:=List UInt8
def ccinS:Ctr:={ ps:=[.v I64,.v I64,.v I64],rs:=[.bool],pre:=fun _=>True,fn:=fun x=>(inF x.1 x.2.1 x.2.2.1,()),out:=fun _=>() }
noncomputable def EcinS:Env:={ P:=Tryd.prog,tt:=tt,ctr:=[],res:=[Go.ResultVar.tmp 6],rs:=[Ty.bool],ps:=[PK.v (Ty.int IntKind.i64),PK.v (Ty.int IntKind.i64),PK.v (Ty.int IntKind.i64)],cuts:=[],nt:=15 }
theorem EcinS_ok:EnvOk EcinS:=envOk tt_ok trivial
theorem FcinS_ok:FnOk EcinS Tryd.f28:=⟨rfl,rfl⟩
theorem EcinS_t (x0:Int) (x1:Int) (x2:Int):exec EcinS 1000 [.code (bodyOf Tryd.prog 28)] (initSt ccinS.ps ((x0,x1,x2,()))) =
  cond (decide (x1≤x0)) (.ret ((decide (x0≤x2),()))) (.ret ((false,()))):=by kernel_rfl
theorem ccinS_valid:ccinS.Valid Tryd.prog 28:=by
  refine Ctr.valid_of EcinS_ok rfl rfl Tryd.func28 (c:=bodyOf Tryd.prog 28) rfl rfl FcinS_ok rfl ?_
  rintro ⟨(a:Int),(b:Int),(c:Int),⟨⟩⟩ - -
  refine exec_sound (n:=1000) EcinS_ok FcinS_ok ?_
  refine holds_of_eq (EcinS_t a b c) ?_
  simp only [holds_cond,Tree.holds,true_and,true_implies,decide_eq_true_eq,decide_eq_false_iff_not,Bool.not_eq_true',Bool.not_eq_false',Int.toNat_natCast,inK_i64,List.length_set,List.length_cons,List.length_nil]
  repeat' first|exact trivial|(refine And.intro ?_ ?_)|(intro _)
  all_goals (show ((_,()):Bool×Unit)=(inF a b c,()); simp [inF, *])
def cidxS:Ctr:={ ps:=[.v (.slc false .str),.v .str],rs:=[I64],pre:=fun _=>True,fn:=fun x=>(idxOf (fun y=>decide ((show (List UInt8) from x.2.1)=y)) x.1,()),out:=fun _=>() }
noncomputable def EidxS:Env:={ P:=Tryd.prog,tt:=tt,ctr:=[],res:=[Go.ResultVar.tmp 4],rs:=[Ty.int IntKind.i64],ps:=[PK.v (Ty.slc false Ty.str),PK.v Ty.str],cuts:=[(2,[(0,none),(1,none),(7,none),(8,none)])],nt:=19 }
theorem EidxS_ok:EnvOk EidxS:=envOk tt_ok trivial
theorem FidxS_ok:FnOk EidxS Tryd.f26:=⟨rfl,rfl⟩
theorem EidxS_t (x0:List (List UInt8)) (x1:List UInt8):exec EidxS 1000 [.code (bodyOf Tryd.prog 26)] (initSt cidxS.ps ((x0,x1,()))) =
  .cut (loopAt (bodyOf Tryd.prog 26) 2).1 (loopAt (bodyOf Tryd.prog 26) 2).2 (St.mk [(0,AV.val (Ty.slc false Ty.str) x0),(1,AV.val Ty.str x1),(7,AV.val (Ty.int IntKind.i64) (↑(List.length x0):Int)),(8,AV.val (Ty.int IntKind.i64) (0:Int))] []):=by kernel_rfl
def EidxS_s2 (v0:List (List UInt8)) (v1:List UInt8) (v7:Int) (v8:Int):St:=St.mk [(0,AV.val (Ty.slc false Ty.str) v0),(1,AV.val Ty.str v1),(7,AV.val (Ty.int IntKind.i64) v7),(8,AV.val (Ty.int IntKind.i64) v8)] []
theorem EidxS_l2 (v0:List (List UInt8)) (v1:List UInt8) (v7:Int) (v8:Int):exec EidxS 1000 (.code (loopAt (bodyOf Tryd.prog 26) 2).1::.inLoop (loopAt (bodyOf Tryd.prog 26) 2).1::(loopAt (bodyOf Tryd.prog 26) 2).2) (EidxS_s2 v0 v1 v7 v8) =
  cond (decide (v8<v7)) (.need ((0:Int)≤v8∧v8<(↑(List.length v0):Int)) (cond (decide (v1=List.getD v0 (Int.toNat v8) [])) (.ret ((v8,()))) (.need (inK IntKind.i64 (v8+(1:Int))) (.cut (loopAt (bodyOf Tryd.prog 26) 2).1 (loopAt (bodyOf Tryd.prog 26) 2).2 (St.mk [(0,AV.val (Ty.slc false Ty.str) v0),(1,AV.val Ty.str v1),(7,AV.val (Ty.int IntKind.i64) v7),(8,AV.val (Ty.int IntKind.i64) (v8+(1:Int)))] []))))) (.ret (((-1:Int),()))):=by kernel_rfl
theorem cidxS_valid:cidxS.Valid Tryd.prog 26:=by
  refine Ctr.valid_of EidxS_ok rfl rfl Tryd.func26 (c:=bodyOf Tryd.prog 26) rfl rfl FidxS_ok rfl ?_
  rintro ⟨(l:List ((List UInt8))),(x:(List UInt8)),⟨⟩⟩ - ⟨⟨hl,-⟩,-⟩
  have hl:l.length≤9223372036854775807:=hl
  refine exec_sound (n:=1000) EidxS_ok FidxS_ok ?_
  refine holds_of_eq (EidxS_t l x) ?_
  refine Reach.loopI EidxS_ok FidxS_ok (fun i:Nat=>EidxS_s2 l x (l.length:Int) (i:Int) ) (fun i=>i≤l.length∧idxOf (fun y=>decide (x=y)) l=idxGo (fun y=>decide (x=y)) (l.drop i) i)
    (fun i=>l.length - i) 1000 (fun _=>⟨uniq_of rfl,uniq_of rfl⟩) ?_ 0 ⟨by omega,rfl⟩
  rintro i ⟨k1,k2⟩ - ih
  refine holds_of_eq (EidxS_l2 ..) ?_
  simp only [holds_cond,Tree.holds,true_and,true_implies,decide_eq_true_eq,decide_eq_false_iff_not,Bool.not_eq_true',Bool.not_eq_false',Int.toNat_natCast,inK_i64,List.length_set,List.length_cons,List.length_nil]
  refine ⟨fun h=>?_,fun h=>?_⟩
  · rw [drop_getD (show i<l.length by omega) [],idxGo] at k2
    have key:∀ b:Bool,(b=true↔x=l.getD i [])→(b=true→(((i:Int),()):Int×Unit)=(idxOf (fun y=>decide (x=y)) l,()))∧(b=false→idxOf (fun y=>decide (x=y)) l=idxGo (fun y=>decide (x=y)) (l.drop (i+1)) (i+1)):=fun b hb=>by
      refine ⟨fun c=>?_,fun c=>?_⟩
      · rw [k2,if_pos (decide_eq_true (hb.1 c))]
      · rw [k2,if_neg (fun h9=>by rw [hb.2 (of_decide_eq_true h9)] at c; cases c)]
    refine ⟨by omega,fun _=>⟨fun c=>?_,fun c=>⟨by omega,fun _=>ih (i+1) ⟨by omega,?_⟩ (by omega)⟩⟩⟩
    · exact (key true ⟨fun _=>c,fun _=>rfl⟩).1 rfl
    · exact (key false ⟨fun h9=>(by cases h9),fun h9=>(c h9).elim⟩).2 rfl
  · rw [List.drop_eq_nil_of_le (by omega)] at k2
    show (((-1:Int),()):Int×Unit)=(idxOf (fun y=>decide (x=y)) l,())
    rw [k2]; rfl
def clampF (n:Int):Int:=min (max n (-1000000000)) 1000000000
theorem clampF_is (n:Int):(if 1000000000<(if n < -1000000000 then -1000000000 else n) then 1000000000 else (if n < -1000000000 then -1000000000 else n))=clampF n:=by
  unfold clampF; split<;>split<;>omega
theorem clampF_b (n:Int):-1000000000≤clampF n∧clampF n≤1000000000:=by unfold clampF; omega
def cclamp:Ctr:={ ps:=[.v I64],rs:=[I64],pre:=fun _=>True,fn:=fun x=>(clampF x.1,()),out:=fun _=>() }
noncomputable def Eclamp:Env:={ P:=Tryd.prog,tt:=tt,ctr:=[],res:=[Go.ResultVar.tmp 2],rs:=[Ty.int IntKind.i64],ps:=[PK.v (Ty.int IntKind.i64)],cuts:=[],nt:=6 }
theorem Eclamp_ok:EnvOk Eclamp:=envOk tt_ok trivial
theorem Fclamp_ok:FnOk Eclamp Tryd.f50:=⟨rfl,rfl⟩
theorem Eclamp_t (x0:Int):exec Eclamp 1000 [.code (bodyOf Tryd.prog 50)] (initSt cclamp.ps ((x0,()))) =
  .ret ((if (1000000000:Int)<if x0<(-1000000000:Int) then (-1000000000:Int) else x0 then (1000000000:Int) else if x0<(-1000000000:Int) then (-1000000000:Int) else x0,())):=by kernel_rfl
theorem cclamp_valid:cclamp.Valid Tryd.prog 50:=by
  refine Ctr.valid_of Eclamp_ok rfl rfl Tryd.func50 (c:=bodyOf Tryd.prog 50) rfl rfl Fclamp_ok rfl ?_
  rintro ⟨(n:Int),⟨⟩⟩ - -
  refine exec_sound (n:=1000) Eclamp_ok Fclamp_ok ?_
  refine holds_of_eq (Eclamp_t n) ?_
  show ((_,()):Int×Unit)=(clampF n,())
  rw [← clampF_is]
abbrev spaceS:List UInt8:=[32]
abbrev kindsS:List (List UInt8):=[[115,101,116],[97,100,100],[109,111,115,116],[99,111,112,121]]
def farF (n:Int):Int:=min (max n (-4000000000)) 4000000000
theorem farF_is (n:Int):(if 4000000000<(if n < -4000000000 then -4000000000 else n) then 4000000000 else (if n < -4000000000 then -4000000000 else n))=farF n:=by
  unfold farF; split<;>split<;>omega
def runF (v:List Int) (c:CmdD):List Int :=
  if c.1=1 then v.set c.2.1.toNat (clampF c.2.2.1)
  else if c.1=2 then v.set c.2.1.toNat (clampF (farF (v.getD c.2.1.toNat 0)+clampF c.2.2.1))
  else if c.1=3 then v.set c.2.1.toNat (max (v.getD c.2.1.toNat 0) (clampF c.2.2.1))
  else if c.1=4 then v.set c.2.1.toNat (v.getD c.2.2.1.toNat 0)
  else v
def crun:Ctr:={ ps:=[.rw Vals,.v Event],rs:=[],pre:=fun x=>(LE.le (α:=Int) 0 x.2.1.2.1∧LT.lt (α:=Int) x.2.1.2.1 10)∧(x.2.1.1=(4:Int)→LE.le (α:=Int) 0 x.2.1.2.2.1∧LT.lt (α:=Int) x.2.1.2.2.1 10),fn:=fun _=>(),out:=fun x=>(runF x.1 x.2.1,()) }
noncomputable def Erun:Env:={ P:=Tryd.prog,tt:=tt,ctr:=[(50,cclamp)],res:=[],rs:=[],ps:=[PK.rw (Ty.arr 10 (Ty.int IntKind.i64)),PK.v (Ty.pair (Ty.int IntKind.i64) PairT)],cuts:=[],nt:=54 }
theorem Erun_ok:EnvOk Erun:=envOk tt_ok ⟨cclamp_valid,trivial⟩
theorem Frun_ok:FnOk Erun Tryd.f29:=⟨rfl,rfl⟩
theorem Erun_t (x0:List Int) (x1_1:Int) (x1_2_1:Int) (x1_2_2_1:Int):exec Erun 1000 [.code (bodyOf Tryd.prog 29)] (initSt crun.ps ((x0,(x1_1,x1_2_1,x1_2_2_1,()),()))) =
  .need ((0:Int)≤x1_2_1∧x1_2_1<(↑10:Int)) (cond (decide (x1_1=(1:Int))) (.need (True) (.ret ((List.set x0 (Int.toNat x1_2_1) (clampF x1_2_2_1),())))) (cond (decide (x1_1=(2:Int))) (.need (True) (.need (inK IntKind.i64 ((if (4000000000:Int)<if List.getD x0 (Int.toNat x1_2_1) (0:Int)<(-4000000000:Int) then (-4000000000:Int) else List.getD x0 (Int.toNat x1_2_1) (0:Int) then (4000000000:Int) else if List.getD x0 (Int.toNat x1_2_1) (0:Int)<(-4000000000:Int) then (-4000000000:Int) else List.getD x0 (Int.toNat x1_2_1) (0:Int))+clampF x1_2_2_1)) (.need (True) (.ret ((List.set x0 (Int.toNat x1_2_1) (clampF ((if (4000000000:Int)<if List.getD x0 (Int.toNat x1_2_1) (0:Int)<(-4000000000:Int) then (-4000000000:Int) else List.getD x0 (Int.toNat x1_2_1) (0:Int) then (4000000000:Int) else if List.getD x0 (Int.toNat x1_2_1) (0:Int)<(-4000000000:Int) then (-4000000000:Int) else List.getD x0 (Int.toNat x1_2_1) (0:Int))+clampF x1_2_2_1)),())))))) (cond (decide (x1_1=(3:Int))) (.need (True) (.ret ((List.set x0 (Int.toNat x1_2_1) (if List.getD x0 (Int.toNat x1_2_1) (0:Int)<clampF x1_2_2_1 then clampF x1_2_2_1 else List.getD x0 (Int.toNat x1_2_1) (0:Int)),())))) (cond (decide (x1_1=(4:Int))) (.need ((0:Int)≤x1_2_2_1∧x1_2_2_1<(↑10:Int)) (.ret ((List.set x0 (Int.toNat x1_2_1) (List.getD x0 (Int.toNat x1_2_2_1) (0:Int)),())))) (.ret ((x0,()))))))):=by kernel_rfl
theorem crun_valid:crun.Valid Tryd.prog 29:=by
  refine Ctr.valid_of Erun_ok rfl rfl Tryd.func29 (c:=bodyOf Tryd.prog 29) rfl rfl Frun_ok rfl ?_
  rintro ⟨(v:List Int),⟨(k:Int),(i:Int),(n:Int),⟨⟩⟩,⟨⟩⟩ ⟨⟨(h1:0≤i),(h2:i<10)⟩,(h3:k=4→0≤n∧n<10)⟩ -
  refine exec_sound (n:=1000) Erun_ok Frun_ok ?_
  refine holds_of_eq (Erun_t v k i n) ?_
  have hd:runF v (k,i,n,())=if k=1 then v.set i.toNat (clampF n) else if k=2 then v.set i.toNat (clampF (farF (v.getD i.toNat 0)+clampF n)) else if k=3 then v.set i.toNat (max (v.getD i.toNat 0) (clampF n)) else if k=4 then v.set i.toNat (v.getD n.toNat 0) else v:=rfl
  have hg:∀ x:Int,inK .i64 (farF x+clampF n):=fun x=>by have:=clampF_b n; exact inK_i64.2 (by unfold farF; omega)
  have fin:∀ y:List Int,y=runF v (k,i,n,())→((y,()):List Int×Unit)=(runF v (k,i,n,()),()):=fun y e=>by rw [e]
  simp only [holds_cond,Tree.holds,true_and,true_implies,decide_eq_true_eq,decide_eq_false_iff_not,Bool.not_eq_true',Bool.not_eq_false',Int.toNat_natCast,inK_i64,List.length_set,List.length_cons,List.length_nil,farF_is]
  refine ⟨⟨h1,by omega⟩,fun _=>⟨fun e=>fin _ (by rw [hd,if_pos e]),fun e=>⟨fun e2=>⟨hg _,fun _=>fin _ (by rw [hd,if_neg e,if_pos e2])⟩,fun e2=>⟨fun e3=>fin _ ?_,fun e3=>⟨fun e4=>⟨by have:=h3 e4; omega,fun _=>fin _ (by rw [hd,if_neg e,if_neg e2,if_neg e3,if_pos e4])⟩,fun e4=>fin _ (by rw [hd,if_neg e,if_neg e2,if_neg e3,if_neg e4])⟩⟩⟩⟩⟩
  rw [hd,if_neg e,if_neg e2,if_pos e3]
  refine congrArg (List.set v i.toNat) ?_
  show (if v.getD i.toNat 0<clampF n then clampF n else v.getD i.toNat 0:Int)=max (v.getD i.toNat 0) (clampF n)
  rw [Int.max_def]
  split<;>split<;>omega
def kindOf (s:StrD):Int:=idxOf (fun y=>decide (s=y)) kindsS+1
def readL (l:List StrD):CmdD×Int :=
  if (l.length:Int)≠3 then ((0,0,0,()),12)
  else if kindOf (l.getD 0 [])=0 then ((0,0,0,()),12)
  else if (numF (l.getD 1 [])).2=false then ((0,0,0,()),12)
  else if (numF (l.getD 2 [])).2=false then ((0,0,0,()),12)
  else if inF (numF (l.getD 1 [])).1 0 9=false then ((0,0,0,()),1)
  else if kindOf (l.getD 0 [])=4∧inF (numF (l.getD 2 [])).1 0 9=false then ((0,0,0,()),1)
  else ((kindOf (l.getD 0 []),(numF (l.getD 1 [])).1,(numF (l.getD 2 [])).1,()),0)
def readF (s:StrD):CmdD×Int:=readL (Lib.split s spaceS)
def cread:Ctr:={ ps:=[.v .str],rs:=[Event,I64],pre:=fun x=>List.length (α:=UInt8) x.1≤4294967280,fn:=fun x=>((readF x.1).1,(readF x.1).2,()),out:=fun _=>() }
theorem splitK_sub (p:List UInt8):∀ (k:Nat) (s:List UInt8),∀ x∈Lib.splitK p 0 k s,x.length≤s.length
  | 0,s,x,hx=>by
    have hx:x∈[s]:=hx
    rw [List.mem_singleton] at hx; rw [hx]; exact Nat.le_refl _
  | k+1,s,x,hx=>by
    unfold Lib.splitK at hx
    split at hx
    · rw [List.mem_singleton] at hx; rw [hx]; exact Nat.le_refl _
    · rcases List.mem_cons.1 hx with rfl|hx
      · rw [List.length_take]; omega
      · have:=splitK_sub p k _ x hx
        rw [List.length_drop] at this; omega
theorem split_sub {s p:List UInt8} {i:Nat}:((Lib.split s p).getD i []).length≤s.length:=by
  by_cases h:i<(Lib.split s p).length
  · refine splitK_sub p (Lib.count s p) s _ ?_
    rw [List.getD_eq_getElem?_getD,List.getElem?_eq_getElem h]
    exact List.getElem_mem h
  · rw [List.getD_eq_getElem?_getD,List.getElem?_eq_none (by omega)]; simp
theorem idx_b {α:Type} {p:α→Bool}:∀ {l:List α} {i:Nat},-1≤idxGo p l i∧idxGo p l i≤(i+l.length:Nat)
  | [],i=>by simp only [idxGo]; omega
  | x::l,i=>by
    rw [idxGo]
    split
    · omega
    · have:=idx_b (p:=p) (l:=l) (i:=i+1)
      rw [List.length_cons]; omega
theorem kind_b (s:StrD):0≤kindOf s∧kindOf s≤5:=by
  have:=idx_b (p:=fun y=>decide (s=y)) (l:=kindsS) (i:=0)
  simp only [kindOf,idxOf]
  have e:kindsS.length=4:=rfl
  rw [e] at this
  omega
noncomputable def Eread:Env:={ P:=Tryd.prog,tt:=tt,ctr:=[(25,csplit),(26,cidxS),(27,cnumber),(28,ccinS)],res:=[Go.ResultVar.cell 2 48,Go.ResultVar.tmp 3],rs:=[Ty.pair (Ty.int IntKind.i64) PairT,Ty.int IntKind.i64],ps:=[PK.v Ty.str],cuts:=[],nt:=66 }
theorem Eread_ok:EnvOk Eread:=envOk tt_ok ⟨csplit_valid,cidxS_valid,cnumber_valid,ccinS_valid,trivial⟩
theorem Fread_ok:FnOk Eread Tryd.f15:=⟨rfl,rfl⟩
theorem Eread_t (x0:List UInt8):exec Eread 1000 [.code (bodyOf Tryd.prog 15)] (initSt cread.ps ((x0,()))) =
  .need (List.length x0≤4294967280∧1≤List.length spaceS) (cond (decide ((↑(List.length (Go.Lib.split x0 spaceS)):Int)≠(3:Int))) (.ret ((((0:Int),(0:Int),(0:Int),()),(12:Int),()))) (.need ((0:Int)≤(0:Int)∧(0:Int)<(↑(List.length (Go.Lib.split x0 spaceS)):Int)) (.need (True) (.need (inK IntKind.i64 (idxOf (fun y=>decide (List.getD (Go.Lib.split x0 spaceS) (Int.toNat (0:Int)) []=y)) kindsS+(1:Int))) (.need ((0:Int)≤(1:Int)∧(1:Int)<(↑(List.length (Go.Lib.split x0 spaceS)):Int)) (.need (List.length (List.getD (Go.Lib.split x0 spaceS) (Int.toNat (1:Int)) [])≤4294967280) (.need ((0:Int)≤(2:Int)∧(2:Int)<(↑(List.length (Go.Lib.split x0 spaceS)):Int)) (.need (List.length (List.getD (Go.Lib.split x0 spaceS) (Int.toNat (2:Int)) [])≤4294967280) (cond (decide (idxOf (fun y=>decide (List.getD (Go.Lib.split x0 spaceS) (Int.toNat (0:Int)) []=y)) kindsS+(1:Int)=(0:Int))) (.ret ((((0:Int),(0:Int),(0:Int),()),(12:Int),()))) (cond (!Prod.snd (numF (List.getD (Go.Lib.split x0 spaceS) (Int.toNat (1:Int)) []))) (.ret ((((0:Int),(0:Int),(0:Int),()),(12:Int),()))) (cond (!Prod.snd (numF (List.getD (Go.Lib.split x0 spaceS) (Int.toNat (2:Int)) []))) (.ret ((((0:Int),(0:Int),(0:Int),()),(12:Int),()))) (.need (True) (cond (!inF (Prod.fst (numF (List.getD (Go.Lib.split x0 spaceS) (Int.toNat (1:Int)) []))) (0:Int) (9:Int)) (.ret ((((0:Int),(0:Int),(0:Int),()),(1:Int),()))) (cond (decide (idxOf (fun y=>decide (List.getD (Go.Lib.split x0 spaceS) (Int.toNat (0:Int)) []=y)) kindsS+(1:Int)=(4:Int))) (.need (True) (cond (!inF (Prod.fst (numF (List.getD (Go.Lib.split x0 spaceS) (Int.toNat (2:Int)) []))) (0:Int) (9:Int)) (.ret ((((0:Int),(0:Int),(0:Int),()),(1:Int),()))) (.ret (((idxOf (fun y=>decide (List.getD (Go.Lib.split x0 spaceS) (Int.toNat (0:Int)) []=y)) kindsS+(1:Int),Prod.fst (numF (List.getD (Go.Lib.split x0 spaceS) (Int.toNat (1:Int)) [])),Prod.fst (numF (List.getD (Go.Lib.split x0 spaceS) (Int.toNat (2:Int)) [])),()),(0:Int),()))))) (.ret (((idxOf (fun y=>decide (List.getD (Go.Lib.split x0 spaceS) (Int.toNat (0:Int)) []=y)) kindsS+(1:Int),Prod.fst (numF (List.getD (Go.Lib.split x0 spaceS) (Int.toNat (1:Int)) [])),Prod.fst (numF (List.getD (Go.Lib.split x0 spaceS) (Int.toNat (2:Int)) [])),()),(0:Int),()))))))))))))))))):=by kernel_rfl
theorem cread_valid:cread.Valid Tryd.prog 15:=by
  refine Ctr.valid_of Eread_ok rfl rfl Tryd.func15 (c:=bodyOf Tryd.prog 15) rfl rfl Fread_ok rfl ?_
  rintro ⟨(s:List UInt8),⟨⟩⟩ (hp:s.length≤4294967280) -
  refine exec_sound (n:=1000) Eread_ok Fread_ok ?_
  refine holds_of_eq (Eread_t s) ?_
  have hd:readF s=readL (Lib.split s spaceS):=rfl
  have e1:((Lib.split s spaceS).getD 1 []).length≤4294967280:=Nat.le_trans split_sub hp
  have e2:((Lib.split s spaceS).getD 2 []).length≤4294967280:=Nat.le_trans split_sub hp
  have hk:=kind_b ((Lib.split s spaceS).getD 0 [])
  have hk2:idxOf (fun y=>decide ((Lib.split s spaceS).getD 0 []=y)) kindsS+1=kindOf ((Lib.split s spaceS).getD 0 []):=rfl
  generalize hl:Lib.split s spaceS=l at *
  have hin:inK .i64 (kindOf (l.getD 0 [])):=inK_i64.2 (by omega)
  have fin:∀ {y:CmdD×Int},readL l=y→((y.1,y.2,()):CmdD×Int×Unit)=((readF s).1,(readF s).2,()):=fun e=>by rw [hd,e]
  have hr:readL l=if (l.length:Int)≠3 then ((0,0,0,()),12) else if kindOf (l.getD 0 [])=0 then ((0,0,0,()),12) else if (numF (l.getD 1 [])).2=false then ((0,0,0,()),12) else if (numF (l.getD 2 [])).2=false then ((0,0,0,()),12) else if inF (numF (l.getD 1 [])).1 0 9=false then ((0,0,0,()),1) else if kindOf (l.getD 0 [])=4∧inF (numF (l.getD 2 [])).1 0 9=false then ((0,0,0,()),1) else ((kindOf (l.getD 0 []),(numF (l.getD 1 [])).1,(numF (l.getD 2 [])).1,()),0):=rfl
  simp only [holds_cond,Tree.holds,true_and,true_implies,decide_eq_true_eq,decide_eq_false_iff_not,Bool.not_eq_true',Bool.not_eq_false',Int.toNat_natCast,inK_i64,List.length_set,List.length_cons,List.length_nil,Int.reduceToNat,hk2]
  refine ⟨⟨hp,by decide⟩,fun _=>⟨fun h3=>?_,fun h3=>?_⟩⟩
  · exact fin (by rw [hr,if_pos h3])
  · rw [if_neg h3] at hr
    have h3:(l.length:Int)=3:=by omega
    refine ⟨by omega,fun _=>⟨hin,fun _=>⟨by omega,fun _=>⟨e1,fun _=>⟨by omega,fun _=>⟨e2,fun _=>⟨fun g1=>?_,fun g1=>?_⟩⟩⟩⟩⟩⟩⟩
    · exact fin (by rw [hr,if_pos g1])
    rw [if_neg g1] at hr
    refine ⟨fun g2=>?_,fun g2=>?_⟩
    · exact fin (by rw [hr,if_pos (by simpa using g2)])
    rw [if_neg (by simpa using g2)] at hr
    refine ⟨fun g3=>?_,fun g3=>?_⟩
    · exact fin (by rw [hr,if_pos (by simpa using g3)])
    rw [if_neg (by simpa using g3)] at hr
    refine ⟨fun g4=>?_,fun g4=>?_⟩
    · exact fin (by rw [hr,if_pos (by simpa using g4)])
    rw [if_neg (by simpa using g4)] at hr
    refine ⟨fun g5=>⟨fun g6=>?_,fun g6=>?_⟩,fun g5=>?_⟩
    · exact fin (by rw [hr,if_pos ⟨g5,by simpa using g6⟩])
    · exact fin (by rw [hr,if_neg (fun h=>by rw [h.2] at g6; cases g6)])
    · exact fin (by rw [hr,if_neg (fun h=>g5 h.1)])
theorem read_ok {s:StrD} (h:(readF s).2=0):(0≤(readF s).1.2.1∧(readF s).1.2.1<10)∧((readF s).1.1=4→0≤(readF s).1.2.2.1∧(readF s).1.2.2.1<10)∧1≤(readF s).1.1:=by
  unfold readF readL at h ⊢
  split at h
  · cases h
  rename_i h1
  rw [if_neg h1]
  split at h
  · cases h
  rename_i h2
  rw [if_neg h2]
  split at h
  · cases h
  rename_i h3
  rw [if_neg h3]
  split at h
  · cases h
  rename_i h4
  rw [if_neg h4]
  split at h
  · cases h
  rename_i h5
  rw [if_neg h5]
  split at h
  · cases h
  rename_i h6
  rw [if_neg h6]
  have h5:inF (numF ((Lib.split s spaceS).getD 1 [])).1 0 9=true:=by
    cases e:inF (numF ((Lib.split s spaceS).getD 1 [])).1 0 9 with
    | true=>rfl
    | false=>exact absurd e h5
  have h5:=inF_iff.1 h5
  refine ⟨⟨h5.1,Int.lt_of_le_of_lt h5.2 (by decide)⟩,fun h7=>?_,?_⟩
  · have h8:inF (numF ((Lib.split s spaceS).getD 2 [])).1 0 9=true:=by
      cases e:inF (numF ((Lib.split s spaceS).getD 2 [])).1 0 9 with
      | true=>rfl
      | false=>exact absurd ⟨h7,e⟩ h6
    have h8:=inF_iff.1 h8
    exact ⟨h8.1,Int.lt_of_le_of_lt h8.2 (by decide)⟩
  · have:=(kind_b ((Lib.split s spaceS).getD 0 [])).1
    show 1≤kindOf _
    omega
def stepR (a:List Int×Int) (s:StrD):List Int×Int:=if (readF s).2=0 then (runF a.1 (readF s).1,a.2) else (a.1,a.2+1)
def runAll (v:List Int) (l:List StrD):List Int×Int:=l.foldl stepR (v,0)
def cRun:Ctr:={ ps:=[.v Vals,.v (.slc false .str)],rs:=[Vals,I64],pre:=fun x=>∀ s∈(show List StrD from x.2.1),s.length≤4294967280,fn:=fun x=>((runAll x.1 x.2.1).1,(runAll x.1 x.2.1).2,()),out:=fun _=>() }
noncomputable def ERun:Env:={ P:=Tryd.prog,tt:=tt,ctr:=[(15,cread),(29,crun)],res:=[Go.ResultVar.cell 4 46,Go.ResultVar.tmp 5],rs:=[Ty.arr 10 (Ty.int IntKind.i64),Ty.int IntKind.i64],ps:=[PK.v (Ty.arr 10 (Ty.int IntKind.i64)),PK.v (Ty.slc false Ty.str)],cuts:=[(3,[(2,none),(4,none),(6,none),(11,none),(12,none),(13,none)])],nt:=31 }
theorem ERun_ok:EnvOk ERun:=envOk tt_ok ⟨cread_valid,crun_valid,trivial⟩
theorem FRun_ok:FnOk ERun Tryd.f16:=⟨rfl,rfl⟩
theorem ERun_t (x0:List Int) (x1:List (List UInt8)):exec ERun 1000 [.code (bodyOf Tryd.prog 16)] (initSt cRun.ps ((x0,x1,()))) =
  .cut (loopAt (bodyOf Tryd.prog 16) 3).1 (loopAt (bodyOf Tryd.prog 16) 3).2 (St.mk [(2,AV.ptr 2 []),(4,AV.ptr 4 []),(6,AV.val (Ty.int IntKind.i64) (0:Int)),(11,AV.val (Ty.slc false Ty.str) x1),(12,AV.val (Ty.int IntKind.i64) (↑(List.length x1):Int)),(13,AV.val (Ty.int IntKind.i64) (0:Int))] [(2,Ent.var (Ty.arr 10 (Ty.int IntKind.i64)) x0),(4,Ent.var (Ty.arr 10 (Ty.int IntKind.i64)) [(0:Int),(0:Int),(0:Int),(0:Int),(0:Int),(0:Int),(0:Int),(0:Int),(0:Int),(0:Int)])]):=by kernel_rfl
def ERun_s3 (v6:Int) (v11:List (List UInt8)) (v12:Int) (v13:Int) (o2:List Int) (o4:List Int):St:=St.mk [(2,AV.ptr 2 []),(4,AV.ptr 4 []),(6,AV.val (Ty.int IntKind.i64) v6),(11,AV.val (Ty.slc false Ty.str) v11),(12,AV.val (Ty.int IntKind.i64) v12),(13,AV.val (Ty.int IntKind.i64) v13)] [(2,Ent.var (Ty.arr 10 (Ty.int IntKind.i64)) o2),(4,Ent.var (Ty.arr 10 (Ty.int IntKind.i64)) o4)]
theorem ERun_l3 (v6:Int) (v11:List (List UInt8)) (v12:Int) (v13:Int) (o2:List Int) (o4:List Int):exec ERun 1000 (.code (loopAt (bodyOf Tryd.prog 16) 3).1::.inLoop (loopAt (bodyOf Tryd.prog 16) 3).1::(loopAt (bodyOf Tryd.prog 16) 3).2) (ERun_s3 v6 v11 v12 v13 o2 o4) =
  cond (decide (v13<v12)) (.need ((0:Int)≤v13∧v13<(↑(List.length v11):Int)) (.need (List.length (List.getD v11 (Int.toNat v13) [])≤4294967280) (cond (decide (Prod.snd (readF (List.getD v11 (Int.toNat v13) []))≠(0:Int))) (.need (inK IntKind.i64 (v6+(1:Int))) (.need (inK IntKind.i64 (v13+(1:Int))) (.cut (loopAt (bodyOf Tryd.prog 16) 3).1 (loopAt (bodyOf Tryd.prog 16) 3).2 (St.mk [(2,AV.ptr 2 []),(4,AV.ptr 4 []),(6,AV.val (Ty.int IntKind.i64) (v6+(1:Int))),(11,AV.val (Ty.slc false Ty.str) v11),(12,AV.val (Ty.int IntKind.i64) v12),(13,AV.val (Ty.int IntKind.i64) (v13+(1:Int)))] [(2,Ent.var (Ty.arr 10 (Ty.int IntKind.i64)) o2),(4,Ent.var (Ty.arr 10 (Ty.int IntKind.i64)) o4)])))) (.need (((0:Int)≤Prod.fst (Prod.snd (Prod.fst (readF (List.getD v11 (Int.toNat v13) []))))∧Prod.fst (Prod.snd (Prod.fst (readF (List.getD v11 (Int.toNat v13) []))))<(10:Int))∧(Prod.fst (Prod.fst (readF (List.getD v11 (Int.toNat v13) [])))=(4:Int)→(0:Int)≤Prod.fst (Prod.snd (Prod.snd (Prod.fst (readF (List.getD v11 (Int.toNat v13) [])))))∧Prod.fst (Prod.snd (Prod.snd (Prod.fst (readF (List.getD v11 (Int.toNat v13) [])))))<(10:Int))) (.need (inK IntKind.i64 (v13+(1:Int))) (.cut (loopAt (bodyOf Tryd.prog 16) 3).1 (loopAt (bodyOf Tryd.prog 16) 3).2 (St.mk [(2,AV.ptr 2 []),(4,AV.ptr 4 []),(6,AV.val (Ty.int IntKind.i64) v6),(11,AV.val (Ty.slc false Ty.str) v11),(12,AV.val (Ty.int IntKind.i64) v12),(13,AV.val (Ty.int IntKind.i64) (v13+(1:Int)))] [(2,Ent.var (Ty.arr 10 (Ty.int IntKind.i64)) (runF o2 (Prod.fst (readF (List.getD v11 (Int.toNat v13) []))))),(4,Ent.var (Ty.arr 10 (Ty.int IntKind.i64)) o4)]))))))) (.ret ((o2,v6,()))):=by kernel_rfl
theorem runAll_snd {l:List StrD}:∀ {a:List Int×Int},a.2≤(l.foldl stepR a).2∧(l.foldl stepR a).2≤a.2+l.length:=by
  induction l with
  | nil=>intro a; simp
  | cons s l ih =>
    intro a
    have:=ih (a:=stepR a s)
    rw [List.foldl_cons,List.length_cons]
    unfold stepR at this ⊢
    split at this
    · rename_i h; rw [if_pos h]; have:=this; simp only at this; omega
    · rename_i h; rw [if_neg h]; have:=this; simp only at this; omega
theorem take_step {v:List Int} {l:List StrD} {k:Nat} (hk:k<l.length):runAll v (l.take (k+1))=stepR (runAll v (l.take k)) (l.getD k []):=by
  unfold runAll
  rw [List.take_add_one,List.foldl_append,List.getElem?_eq_getElem hk,List.getD_eq_getElem?_getD,List.getElem?_eq_getElem hk]
  rfl
theorem cRun_valid:cRun.Valid Tryd.prog 16:=by
  refine Ctr.valid_of ERun_ok rfl rfl Tryd.func16 (c:=bodyOf Tryd.prog 16) rfl rfl FRun_ok rfl ?_
  rintro ⟨(v:List Int),(l:List StrD),⟨⟩⟩ (hp:∀ s∈l,s.length≤4294967280) ⟨-,hr,-⟩
  have hlen:l.length≤9223372036854775807:=hr.1
  refine exec_sound (n:=1000) ERun_ok FRun_ok ?_
  refine holds_of_eq (ERun_t v l) ?_
  refine Reach.loopI ERun_ok FRun_ok (fun k:Nat=>ERun_s3 (runAll v (l.take k)).2 l (l.length:Int) (k:Int) (runAll v (l.take k)).1 (List.replicate 10 0)) (fun k=>k≤l.length) (fun k=>l.length - k) 1000 (fun _=>⟨uniq_of rfl,uniq_of rfl⟩) ?_ 0 (by omega)
  rintro k hk - ih
  have hk:k≤l.length:=hk
  refine holds_of_eq (ERun_l3 ..) ?_
  have hb:=runAll_snd (l:=l.take k) (a:=(v,0))
  have hb:0≤(runAll v (l.take k)).2∧(runAll v (l.take k)).2≤k:=by
    have e:(runAll v (l.take k)).2=((l.take k).foldl stepR (v,0)).2:=rfl
    rw [e]; rw [List.length_take] at hb
    simp only at hb; omega
  simp only [holds_cond,Tree.holds,true_and,true_implies,decide_eq_true_eq,decide_eq_false_iff_not,Bool.not_eq_true',Bool.not_eq_false',Int.toNat_natCast,inK_i64,List.length_set,List.length_cons,List.length_nil]
  refine ⟨fun c=>⟨by omega,fun _=>?_⟩,fun c=>?_⟩
  · have hkl:k<l.length:=by omega
    have hm:l.getD k []∈l:=by rw [List.getD_eq_getElem?_getD,List.getElem?_eq_getElem hkl]; exact List.getElem_mem hkl
    have ht:=take_step (v:=v) hkl
    have nx:=ih (k+1) (by omega) (by omega)
    rw [ht] at nx
    unfold stepR at nx
    refine ⟨hp _ hm,fun _=>⟨fun e=>⟨by omega,fun _=>⟨by omega,fun _=>?_⟩⟩,fun e=>?_⟩⟩
    · rw [if_neg e] at nx
      exact nx
    · have e:(readF (l.getD k [])).2=0:=by omega
      obtain ⟨r1,r2,-⟩:=read_ok e
      rw [if_pos e] at nx
      exact ⟨⟨r1,r2⟩,fun _=>⟨by omega,fun _=>nx⟩⟩
  · have:k=l.length:=by omega
    subst this
    rw [List.take_length]; rfl
def swapsF (a b:StrD):Bool :=
  let x:=readF a; let y:=readF b
  if x.2≠0 then true else if y.2≠0 then true else if x.1=y.1 then true
  else if (x.1.1=4∧x.1.2.2.1=y.1.2.1)∨(y.1.1=4∧y.1.2.2.1=x.1.2.1) then (decide (x.1.1=4) && decide (x.1.2.2.1=x.1.2.1)) || (decide (y.1.1=4) && decide (y.1.2.2.1=y.1.2.1))
  else if x.1.2.1≠y.1.2.1 then true else decide (x.1.1=3) && decide (y.1.1=3)
def cfrom:Ctr:={ ps:=[.v Event,.v Event],rs:=[.bool],pre:=fun _=>True,fn:=fun x=>(decide (x.1.1=(4:Int)) && decide (x.1.2.2.1=x.2.1.2.1),()),out:=fun _=>() }
noncomputable def Efrom:Env:={ P:=Tryd.prog,tt:=tt,ctr:=[],res:=[Go.ResultVar.tmp 4],rs:=[Ty.bool],ps:=[PK.v (Ty.pair (Ty.int IntKind.i64) PairT),PK.v (Ty.pair (Ty.int IntKind.i64) PairT)],cuts:=[],nt:=15 }
theorem Efrom_ok:EnvOk Efrom:=envOk tt_ok trivial
theorem Ffrom_ok:FnOk Efrom Tryd.f30:=⟨rfl,rfl⟩
theorem Efrom_t (x0_1:Int) (x0_2_1:Int) (x0_2_2_1:Int) (x1_1:Int) (x1_2_1:Int) (x1_2_2_1:Int):exec Efrom 1000 [.code (bodyOf Tryd.prog 30)] (initSt cfrom.ps (((x0_1,x0_2_1,x0_2_2_1,()),(x1_1,x1_2_1,x1_2_2_1,()),()))) =
  cond (decide (x0_1=(4:Int))) (.ret ((decide (x0_2_2_1=x1_2_1),()))) (.ret ((false,()))):=by kernel_rfl
theorem cfrom_valid:cfrom.Valid Tryd.prog 30:=by
  refine Ctr.valid_of Efrom_ok rfl rfl Tryd.func30 (c:=bodyOf Tryd.prog 30) rfl rfl Ffrom_ok rfl ?_
  rintro ⟨⟨(a:Int),(b:Int),(c:Int),⟨⟩⟩,⟨(d:Int),(e:Int),(f:Int),⟨⟩⟩,⟨⟩⟩ - -
  refine exec_sound (n:=1000) Efrom_ok Ffrom_ok ?_
  refine holds_of_eq (Efrom_t a b c d e f) ?_
  simp only [holds_cond,Tree.holds,true_and,true_implies,decide_eq_true_eq,decide_eq_false_iff_not,Bool.not_eq_true',Bool.not_eq_false',Int.toNat_natCast,inK_i64,List.length_set,List.length_cons,List.length_nil]
  refine ⟨fun h=>?_,fun h=>?_⟩
  · show ((decide (c=e),()):Bool×Unit)=(decide (a=4) && decide (c=e),())
    rw [decide_eq_true h]; rfl
  · show ((false,()):Bool×Unit)=(decide (a=4) && decide (c=e),())
    rw [decide_eq_false h]; rfl
def cSwaps:Ctr:={ ps:=[.v .str,.v .str],rs:=[.bool],pre:=fun x=>List.length (α:=UInt8) x.1≤4294967280∧List.length (α:=UInt8) x.2.1≤4294967280,fn:=fun x=>(swapsF x.1 x.2.1,()),out:=fun _=>() }
noncomputable def ESwaps:Env:={ P:=Tryd.prog,tt:=tt,ctr:=[(15,cread),(30,cfrom)],res:=[Go.ResultVar.tmp 4],rs:=[Ty.bool],ps:=[PK.v Ty.str,PK.v Ty.str],cuts:=[],nt:=66 }
theorem ESwaps_ok:EnvOk ESwaps:=envOk tt_ok ⟨cread_valid,cfrom_valid,trivial⟩
theorem FSwaps_ok:FnOk ESwaps Tryd.f17:=⟨rfl,rfl⟩
theorem ESwaps_t (x0:List UInt8) (x1:List UInt8):exec ESwaps 1000 [.code (bodyOf Tryd.prog 17)] (initSt cSwaps.ps ((x0,x1,()))) =
  .need (List.length x0≤4294967280) (.need (List.length x1≤4294967280) (cond (decide (Prod.snd (readF x0)≠(0:Int))) (.ret ((true,()))) (cond (decide (Prod.snd (readF x1)≠(0:Int))) (.ret ((true,()))) (cond (eqD (Ty.pair I64 (Ty.pair I64 (Ty.pair I64 Ty.unit))) (Prod.fst (readF x0)) (Prod.fst (readF x1))) (.ret ((true,()))) (.need (True) (cond (decide (Prod.fst (Prod.fst (readF x0))=(4:Int)) && decide (Prod.fst (Prod.snd (Prod.snd (Prod.fst (readF x0))))=Prod.fst (Prod.snd (Prod.fst (readF x1))))) (.need (True) (cond (decide (Prod.fst (Prod.fst (readF x0))=(4:Int)) && decide (Prod.fst (Prod.snd (Prod.snd (Prod.fst (readF x0))))=Prod.fst (Prod.snd (Prod.fst (readF x0))))) (.ret ((true,()))) (.need (True) (.ret ((decide (Prod.fst (Prod.fst (readF x1))=(4:Int)) && decide (Prod.fst (Prod.snd (Prod.snd (Prod.fst (readF x1))))=Prod.fst (Prod.snd (Prod.fst (readF x1)))),())))))) (.need (True) (cond (decide (Prod.fst (Prod.fst (readF x1))=(4:Int)) && decide (Prod.fst (Prod.snd (Prod.snd (Prod.fst (readF x1))))=Prod.fst (Prod.snd (Prod.fst (readF x0))))) (.need (True) (cond (decide (Prod.fst (Prod.fst (readF x0))=(4:Int)) && decide (Prod.fst (Prod.snd (Prod.snd (Prod.fst (readF x0))))=Prod.fst (Prod.snd (Prod.fst (readF x0))))) (.ret ((true,()))) (.need (True) (.ret ((decide (Prod.fst (Prod.fst (readF x1))=(4:Int)) && decide (Prod.fst (Prod.snd (Prod.snd (Prod.fst (readF x1))))=Prod.fst (Prod.snd (Prod.fst (readF x1)))),())))))) (cond (decide (Prod.fst (Prod.snd (Prod.fst (readF x0)))≠Prod.fst (Prod.snd (Prod.fst (readF x1))))) (.ret ((true,()))) (cond (decide (Prod.fst (Prod.fst (readF x0))=(3:Int))) (.ret ((decide (Prod.fst (Prod.fst (readF x1))=(3:Int)),()))) (.ret ((false,()))))))))))))):=by kernel_rfl
theorem eqCmd {a b:CmdD}:eqD Event a b=true↔a=b:=by
  obtain ⟨a1,a2,a3,⟨⟩⟩:=a
  obtain ⟨b1,b2,b3,⟨⟩⟩:=b
  show (decide (a1=b1) && (decide (a2=b2) && (decide (a3=b3) && true)))=true↔_
  simp only [Bool.and_true,Bool.and_eq_true,decide_eq_true_eq,Prod.mk.injEq,and_true]
theorem eqCmdN {a b:CmdD}:eqD Event a b=false↔a≠b:=by
  rw [← Bool.not_eq_true,eqCmd]
theorem cSwaps_valid:cSwaps.Valid Tryd.prog 17:=by
  refine Ctr.valid_of ESwaps_ok rfl rfl Tryd.func17 (c:=bodyOf Tryd.prog 17) rfl rfl FSwaps_ok rfl ?_
  rintro ⟨(a:List UInt8),(b:List UInt8),⟨⟩⟩ ⟨(h1:a.length≤4294967280),(h2:b.length≤4294967280)⟩ -
  refine exec_sound (n:=1000) ESwaps_ok FSwaps_ok ?_
  refine holds_of_eq (ESwaps_t a b) ?_
  have hd:swapsF a b=if (readF a).2≠0 then true else if (readF b).2≠0 then true else if (readF a).1=(readF b).1 then true
    else if ((readF a).1.1=4∧(readF a).1.2.2.1=(readF b).1.2.1)∨((readF b).1.1=4∧(readF b).1.2.2.1=(readF a).1.2.1) then (decide ((readF a).1.1=4) && decide ((readF a).1.2.2.1=(readF a).1.2.1)) || (decide ((readF b).1.1=4) && decide ((readF b).1.2.2.1=(readF b).1.2.1))
    else if (readF a).1.2.1≠(readF b).1.2.1 then true else decide ((readF a).1.1=3) && decide ((readF b).1.1=3):=rfl
  have fin:∀ {y:Bool},swapsF a b=y→((y,()):Bool×Unit)=(swapsF a b,()):=fun e=>by rw [e]
  generalize readF a=x at *
  generalize readF b=y at *
  obtain ⟨⟨x1,x2,x3,⟨⟩⟩,xe⟩:=x
  obtain ⟨⟨y1,y2,y3,⟨⟩⟩,ye⟩:=y
  simp only at hd
  simp only [holds_cond,Tree.holds,true_and,true_implies,decide_eq_true_eq,decide_eq_false_iff_not,Bool.not_eq_true',Bool.not_eq_false',Int.toNat_natCast,inK_i64,List.length_set,List.length_cons,List.length_nil,eqCmd,eqCmdN,Bool.and_eq_true,Bool.and_eq_false_iff,Bool.not_eq_true]
  refine ⟨h1,fun _=>⟨h2,fun _=>?_⟩⟩
  refine ⟨fun e=>fin (by rw [hd,if_pos e]),fun e=>?_⟩
  rw [if_neg e] at hd
  refine ⟨fun e=>fin (by rw [hd,if_pos e]),fun e=>?_⟩
  rw [if_neg e] at hd
  refine ⟨fun e=>fin (by rw [hd,if_pos e]),fun e=>?_⟩
  rw [if_neg e] at hd
  refine ⟨fun e=>?_,fun e=>?_⟩
  · rw [if_pos (.inl e)] at hd
    refine ⟨fun g=>fin (by rw [hd,decide_eq_true g.1,decide_eq_true g.2]; rfl),fun g=>fin ?_⟩
    rw [hd]
    rcases g with g|g
    · rw [decide_eq_false g]; rfl
    · rw [decide_eq_false g,Bool.and_false]; rfl
  refine ⟨fun e2=>?_,fun e2=>?_⟩
  · rw [if_pos (.inr e2)] at hd
    refine ⟨fun g=>fin (by rw [hd,decide_eq_true g.1,decide_eq_true g.2]; rfl),fun g=>fin ?_⟩
    rw [hd]
    rcases g with g|g
    · rw [decide_eq_false g]; rfl
    · rw [decide_eq_false g,Bool.and_false]; rfl
  rw [if_neg (by rintro (h|h)<;>omega)] at hd
  refine ⟨fun g=>fin (by rw [hd,if_pos g]),fun g=>?_⟩
  rw [if_neg g] at hd
  refine ⟨fun g=>fin (by rw [hd,decide_eq_true g]; rfl),fun g=>fin (by rw [hd,decide_eq_false g]; rfl)⟩
end Go.Proofs.YtgmbfnlhmnpciaaDoor
