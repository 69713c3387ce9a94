/- flush.clone, Tell, Fall. No condition but those named. -/
import Derived.Test.YtekbamiaenbhjaaFlush
namespace Go.Proofs.Ytekbamiaenbhjaa
open Go.Ex
set_option maxRecDepth 100000
abbrev MslD:=Nat×(List Int×List Int)
def ownM (l:List Int):MslD:=(1,l,[])
def flushM (f:FlushD):ViewD×Int×List MslD×Unit:=(f.1,f.2.1,f.2.2.1.map ownM,())
def cclone0:Ctr:={ ps:=[.v Flush],rs:=[FlushM],pre:=fun x=>∀ l∈(show List (List Int) from x.1.2.2.1),l.length≤1048576,fn:=fun x=>(flushM x.1,()),out:=fun _=>() }
noncomputable def Efclone:Env:={ P:=Try.prog,tt:=tt,ctr:=[(78,cclI)],res:=[Go.ResultVar.cell 2 27],rs:=[Ty.pair (Ty.pair (Ty.int IntKind.i64) (Ty.pair (Ty.int IntKind.u8) Ty.unit)) (Ty.pair (Ty.int IntKind.u8) (Ty.pair (Ty.arr 6 (Ty.msl (Ty.int IntKind.i64))) Ty.unit))],ps:=[PK.v (Ty.pair (Ty.pair (Ty.int IntKind.i64) (Ty.pair (Ty.int IntKind.u8) Ty.unit)) (Ty.pair (Ty.int IntKind.u8) (Ty.pair (Ty.arr 6 (Ty.slc false (Ty.int IntKind.i64))) Ty.unit)))],cuts:=[(2,[(1,some FlushM),(2,some FlushM),(6,none),(7,none)])],nt:=18 }
theorem Efclone_ok:EnvOk Efclone:=envOk tt_ok ⟨cclI_valid,trivial⟩
theorem Ffclone_ok:FnOk Efclone Try.f123:=⟨rfl,rfl⟩
theorem Efclone_t (x0_1_1:Int) (x0_1_2_1:Int) (x0_2_1:Int) (x0_2_2_1:List (List Int)):exec Efclone 1000 [.code (bodyOf Try.prog 123)] (initSt cclone0.ps ((((x0_1_1,x0_1_2_1,()),x0_2_1,x0_2_2_1,()),()))) =
  .cut (loopAt (bodyOf Try.prog 123) 2).1 (loopAt (bodyOf Try.prog 123) 2).2 (St.mk [(1,AV.ptr 1 []),(2,AV.ptr 2 []),(6,AV.val (Ty.arr 6 (Ty.slc false (Ty.int IntKind.i64))) x0_2_2_1),(7,AV.val (Ty.int IntKind.i64) (0:Int))] [(1,Ent.var (Ty.pair (Ty.pair (Ty.int IntKind.i64) (Ty.pair (Ty.int IntKind.u8) Ty.unit)) (Ty.pair (Ty.int IntKind.u8) (Ty.pair (Ty.arr 6 (Ty.msl (Ty.int IntKind.i64))) Ty.unit))) ((x0_1_1,x0_1_2_1,()),x0_2_1,List.map (msV (Ty.slc false (Ty.int IntKind.i64)) (Ty.msl I64)) x0_2_2_1,())),(2,Ent.var (Ty.pair (Ty.pair (Ty.int IntKind.i64) (Ty.pair (Ty.int IntKind.u8) Ty.unit)) (Ty.pair (Ty.int IntKind.u8) (Ty.pair (Ty.arr 6 (Ty.msl (Ty.int IntKind.i64))) Ty.unit))) (((0:Int),(0:Int),()),(0:Int),List.map (msV Is (Ty.msl I64)) [[],[],[],[],[],[]],()))]):=by kernel_rfl
def Efclone_s2 (v6:List (List Int)) (v7:Int) (o1_1_1:Int) (o1_1_2_1:Int) (o1_2_1:Int) (o1_2_2_1:List (Nat×List Int×List Int)) (o2_1_1:Int) (o2_1_2_1:Int) (o2_2_1:Int) (o2_2_2_1:List (Nat×List Int×List Int)):St:=St.mk [(1,AV.ptr 1 []),(2,AV.ptr 2 []),(6,AV.val (Ty.arr 6 (Ty.slc false (Ty.int IntKind.i64))) v6),(7,AV.val (Ty.int IntKind.i64) v7)] [(1,Ent.var (Ty.pair (Ty.pair (Ty.int IntKind.i64) (Ty.pair (Ty.int IntKind.u8) Ty.unit)) (Ty.pair (Ty.int IntKind.u8) (Ty.pair (Ty.arr 6 (Ty.msl (Ty.int IntKind.i64))) Ty.unit))) ((o1_1_1,o1_1_2_1,()),o1_2_1,o1_2_2_1,())),(2,Ent.var (Ty.pair (Ty.pair (Ty.int IntKind.i64) (Ty.pair (Ty.int IntKind.u8) Ty.unit)) (Ty.pair (Ty.int IntKind.u8) (Ty.pair (Ty.arr 6 (Ty.msl (Ty.int IntKind.i64))) Ty.unit))) ((o2_1_1,o2_1_2_1,()),o2_2_1,o2_2_2_1,()))]
theorem Efclone_l2 (v6:List (List Int)) (v7:Int) (o1_1_1:Int) (o1_1_2_1:Int) (o1_2_1:Int) (o1_2_2_1:List (Nat×List Int×List Int)) (o2_1_1:Int) (o2_1_2_1:Int) (o2_2_1:Int) (o2_2_2_1:List (Nat×List Int×List Int)):exec Efclone 1000 (.code (loopAt (bodyOf Try.prog 123) 2).1::.inLoop (loopAt (bodyOf Try.prog 123) 2).1::(loopAt (bodyOf Try.prog 123) 2).2) (Efclone_s2 v6 v7 o1_1_1 o1_1_2_1 o1_2_1 o1_2_2_1 o2_1_1 o2_1_2_1 o2_2_1 o2_2_2_1) =
  cond (decide (v7<(6:Int))) (.need ((0:Int)≤v7∧v7<(↑6:Int)) (.need (List.length (List.getD v6 (Int.toNat v7) [])≤1048576) (.need ((0:Int)≤v7∧v7<(↑6:Int)) (.need (inK IntKind.i64 (v7+(1:Int))) (.cut (loopAt (bodyOf Try.prog 123) 2).1 (loopAt (bodyOf Try.prog 123) 2).2 (St.mk [(1,AV.ptr 1 []),(2,AV.ptr 2 []),(6,AV.val (Ty.arr 6 (Ty.slc false (Ty.int IntKind.i64))) v6),(7,AV.val (Ty.int IntKind.i64) (v7+(1:Int)))] [(1,Ent.var (Ty.pair (Ty.pair (Ty.int IntKind.i64) (Ty.pair (Ty.int IntKind.u8) Ty.unit)) (Ty.pair (Ty.int IntKind.u8) (Ty.pair (Ty.arr 6 (Ty.msl (Ty.int IntKind.i64))) Ty.unit))) ((o1_1_1,o1_1_2_1,()),o1_2_1,List.set o1_2_2_1 (Int.toNat v7) (1,List.getD v6 (Int.toNat v7) [],[]),())),(2,Ent.var (Ty.pair (Ty.pair (Ty.int IntKind.i64) (Ty.pair (Ty.int IntKind.u8) Ty.unit)) (Ty.pair (Ty.int IntKind.u8) (Ty.pair (Ty.arr 6 (Ty.msl (Ty.int IntKind.i64))) Ty.unit))) ((o2_1_1,o2_1_2_1,()),o2_2_1,o2_2_2_1,()))])))))) (.ret ((((o1_1_1,o1_1_2_1,()),o1_2_1,o1_2_2_1,()),()))):=by kernel_rfl
theorem cclone0_valid:cclone0.Valid Try.prog 123:=by
  refine Ctr.valid_of Efclone_ok rfl rfl Try.func123 (c:=bodyOf Try.prog 123) rfl rfl Ffclone_ok rfl ?_
  rintro ⟨⟨⟨(num:Int),(M:Int),⟨⟩⟩,(g:Int),(T:List (List Int)),⟨⟩⟩,⟨⟩⟩ hp ⟨⟨-,-,⟨(hT:T.length=6),-⟩,-⟩,-⟩
  have hp:∀ l∈T,l.length≤1048576:=hp
  refine exec_sound (n:=1000) Efclone_ok Ffclone_ok ?_
  refine holds_of_eq (Efclone_t num M g T) ?_
  refine Reach.loopI Efclone_ok Ffclone_ok (fun q:Nat×List MslD=>Efclone_s2 T (q.1:Int) num M g q.2 0 0 0 (List.map (msV (Ty.slc true (Ty.int .i64)) (Ty.msl I64)) [[],[],[],[],[],[]])) (fun q=>q.1≤6∧q.2.length=6∧∀ j,j<q.1→q.2.getD j (0,[],[])=ownM (T.getD j [])) (fun q=>6 - q.1) 1000 (fun _=>⟨uniq_of rfl,uniq_of rfl⟩) ?_ (0,List.map (msV (Ty.slc false (Ty.int .i64)) (Ty.msl I64)) T) ⟨Nat.zero_le _,by rw [List.length_map]; exact hT,fun j hj=>absurd hj (Nat.not_lt_zero _)⟩
  rintro ⟨i,L⟩ ⟨(k1:i≤6),(k2:L.length=6),(k3:∀ j,j<i→L.getD j (0,[],[])=ownM (T.getD j []))⟩ - ih
  refine holds_of_eq (Efclone_l2 ..) ?_
  simp only [holds_cond,Tree.holds,true_and,true_implies,decide_eq_true_eq,decide_eq_false_iff_not,Bool.not_eq_true',Bool.not_eq_false',Int.toNat_natCast,inK_i64,List.length_set,List.length_cons,List.length_nil]
  refine ⟨fun c=>⟨by omega,fun _=>⟨hp _ (getD_mem (by omega)),fun _=>⟨by omega,fun _=>⟨by omega,fun _=>ih (i+1,L.set i (1,T.getD i [],[])) ⟨by show i+1≤6; omega,by show (L.set _ _).length=6; rw [List.length_set]; exact k2,fun j hj=>?_⟩ (by show 6 - (i+1)<6 - i; omega)⟩⟩⟩⟩,fun c=>?_⟩
  · have hj:j<i+1:=hj
    show (L.set i (1,T.getD i [],[])).getD j (0,[],[])=_
    rw [getD_set (by omega)]
    by_cases e:j=i
    · subst e; rw [if_pos rfl]; rfl
    · rw [if_neg e]; exact k3 j (by omega)
  · have e:L=T.map ownM:=eq_of_getD (d:=(0,[],[])) (by rw [List.length_map]; omega) (fun j hj=>by rw [k3 j (by omega),getD_map' (d':=[]) (by omega)])
    show (((num,M,()),g,L,()),())=(flushM ((num,M,()),g,T,()),())
    rw [e]; rfl
def cclone:Ctr:={ ps:=[.v Flush],rs:=[FlushO],pre:=fun x=>∀ l∈(show List (List Int) from x.1.2.2.1),l.length≤1048576,fn:=fun x=>(x.1,()),out:=fun _=>() }
theorem own_res {H:Array Go.Obj} {S:Nat→Prop} {f:FlushD} {O:List Nat} {cs:List Value} (h:Rep H S FlushM O cs (flushM f)):Rep H S FlushO O cs f:=by
  obtain ⟨v,g,T,⟨⟩⟩:=f
  obtain ⟨P1,P2,e,r1,P3,P4,e',r2,P5,P6,e'',⟨hl,hr⟩,r4⟩:=h
  refine ⟨P1,P2,e,r1,P3,P4,e',r2,P5,P6,e'',⟨?_,RepL.mapI (f:=ownM) (fun _ _ _ h=>h) hr⟩,r4⟩
  have hl:(T.map ownM).length=6:=hl
  rw [List.length_map] at hl
  exact hl
theorem cclone_valid:cclone.Valid Try.prog 123:=cclone0_valid.conv (rs':=[FlushO]) (fn':=fun x=>(x.1,())) (fun x _ H S O us ⟨v,us',O1,O2,cs,e1,e2,e3,h1,h2⟩=>⟨v,us',O1,O2,cs,e1,e2,e3,own_res (f:=x.1) h1,h2⟩)
def flv (f:FlushD) (p:Int):Int:=bAnd .u8 (bAndNot .u8 f.1.2.1 f.2.1 / 2^min (Int.toNat p) (IntKind.bits .u8)) 1
def ftell (f:FlushD) (p m:Int):FlushD×Int×Unit :=
  if fcheck f≠0 then (flush0,fcheck f,()) else if inF p 0 5=false then (flush0,1,()) else if fmsg m=false then (flush0,1,())
  else if flv f p=0 then (flush0,11,()) else if m∈f.2.2.1.getD p.toNat [] then (flush0,7,()) else ((f.1,f.2.1,f.2.2.1.set p.toNat (f.2.2.1.getD p.toNat []++[m]),()),0,())
def cftell:Ctr:={ ps:=[.v Flush,.v I64,.v I64],rs:=[FlushO,I64],pre:=fun _=>True,fn:=fun x=>ftell x.1 x.2.1 x.2.2.1,out:=fun _=>() }
def cfproc:Ctr:={ ps:=[.v I64],rs:=[.bool],pre:=fun _=>True,fn:=fun x=>(inF x.1 0 5,()),out:=fun _=>() }
noncomputable def Efproc:Env:={ P:=Try.prog,tt:=tt,ctr:=[(219,cfin)],res:=[Go.ResultVar.tmp 2],rs:=[Ty.bool],ps:=[PK.v (Ty.int IntKind.i64)],cuts:=[],nt:=5 }
theorem Efproc_ok:EnvOk Efproc:=envOk tt_ok ⟨cfin_valid,trivial⟩
theorem Ffproc_ok:FnOk Efproc Try.f122:=⟨rfl,rfl⟩
theorem Efproc_t (x0:Int):exec Efproc 1000 [.code (bodyOf Try.prog 122)] (initSt cfproc.ps ((x0,()))) =
  .need (True) (.ret ((inF x0 (0:Int) (5:Int),()))):=by kernel_rfl
theorem cfproc_valid:cfproc.Valid Try.prog 122:=by
  refine Ctr.valid_of Efproc_ok rfl rfl Try.func122 (c:=bodyOf Try.prog 122) rfl rfl Ffproc_ok rfl ?_
  rintro ⟨(m:Int),⟨⟩⟩ - -
  refine exec_sound (n:=1000) Efproc_ok Ffproc_ok ?_
  refine holds_of_eq (Efproc_t m) ?_
  exact ⟨trivial,fun _=>rfl⟩
noncomputable def Eftell:Env:={ P:=Try.prog,tt:=tt,ctr:=[(17,cfcheck),(124,cfmsg),(122,cfproc),(48,ccontI),(123,cclone)],res:=[Go.ResultVar.cell 6 27,Go.ResultVar.tmp 7],rs:=[Ty.pair (Ty.pair (Ty.int IntKind.i64) (Ty.pair (Ty.int IntKind.u8) Ty.unit)) (Ty.pair (Ty.int IntKind.u8) (Ty.pair (Ty.arr 6 Is) Ty.unit)),Ty.int IntKind.i64],ps:=[PK.v (Ty.pair (Ty.pair (Ty.int IntKind.i64) (Ty.pair (Ty.int IntKind.u8) Ty.unit)) (Ty.pair (Ty.int IntKind.u8) (Ty.pair (Ty.arr 6 (Ty.slc false (Ty.int IntKind.i64))) Ty.unit))),PK.v (Ty.int IntKind.i64),PK.v (Ty.int IntKind.i64)],cuts:=[],nt:=59 }
theorem Eftell_ok:EnvOk Eftell:=envOk tt_ok ⟨cfcheck_valid,cfmsg_valid,cfproc_valid,ccontI_valid,cclone_valid,trivial⟩
theorem Fftell_ok:FnOk Eftell Try.f16:=⟨rfl,rfl⟩
theorem Eftell_t (x0_1_1:Int) (x0_1_2_1:Int) (x0_2_1:Int) (x0_2_2_1:List (List Int)) (x1:Int) (x2:Int):exec Eftell 1000 [.code (bodyOf Try.prog 16)] (initSt cftell.ps ((((x0_1_1,x0_1_2_1,()),x0_2_1,x0_2_2_1,()),x1,x2,()))) =
  .need (True) (cond (decide (fcheck ((x0_1_1,x0_1_2_1,()),x0_2_1,x0_2_2_1,())≠(0:Int))) (.ret (((((0:Int),(0:Int),()),(0:Int),[[],[],[],[],[],[]],()),fcheck ((x0_1_1,x0_1_2_1,()),x0_2_1,x0_2_2_1,()),()))) (.need (True) (cond (!inF x1 (0:Int) (5:Int)) (.ret (((((0:Int),(0:Int),()),(0:Int),[[],[],[],[],[],[]],()),(1:Int),()))) (.need (True) (cond (!fmsg x2) (.ret (((((0:Int),(0:Int),()),(0:Int),[[],[],[],[],[],[]],()),(1:Int),()))) (.need ((0:Int)≤x1) (cond (decide (bAnd IntKind.u8 (bAndNot IntKind.u8 x0_1_2_1 x0_2_1 / (2:Int)^min (Int.toNat x1) (IntKind.bits IntKind.u8)) (1:Int)=(0:Int))) (.ret (((((0:Int),(0:Int),()),(0:Int),[[],[],[],[],[],[]],()),(11:Int),()))) (.need ((0:Int)≤x1∧x1<(↑6:Int)) (.need (True) (cond (decide (x2∈List.getD x0_2_2_1 (Int.toNat x1) [])) (.ret (((((0:Int),(0:Int),()),(0:Int),[[],[],[],[],[],[]],()),(7:Int),()))) (.need (∀ (l:List Int),l∈x0_2_2_1→List.length l≤1048576) (.need ((0:Int)≤x1∧x1<(↑6:Int)) (.need (True∧((0:Int)≤x1∧x1<(↑6:Int))∧[]++[Step.fld 2]++[Step.idx x1]=[]++[Step.fld 2]++[Step.idx x1]∧List.length (List.getD x0_2_2_1 (Int.toNat x1) [])+List.length (List.set [(0:Int)] (Int.toNat (↑0:Int)) x2)≤140737488355328∧(List.length (List.getD x0_2_2_1 (Int.toNat x1) [])+List.length (List.set [(0:Int)] (Int.toNat (↑0:Int)) x2))*Ty.wb (Ty.int IntKind.i64)≤140737488355328) (.ret ((((x0_1_1,x0_1_2_1,()),x0_2_1,List.set x0_2_2_1 (Int.toNat x1) (List.getD x0_2_2_1 (Int.toNat x1) []++List.set [(0:Int)] (Int.toNat (↑0:Int)) x2),()),(0:Int),())))))))))))))))):=by kernel_rfl
def ffall (f:FlushD) (p:Int):FlushD×Int×Unit :=
  if fcheck f≠0 then (flush0,fcheck f,()) else if inF p 0 5=false then (flush0,1,()) else ((f.1,bOr .u8 f.2.1 (bAnd .u8 f.1.2.1 (IntKind.wrap .u8 (1*2^min p.toNat (IntKind.bits .u8)))),f.2.2.1,()),0,())
def cffall:Ctr:={ ps:=[.v Flush,.v I64],rs:=[FlushO,I64],pre:=fun _=>True,fn:=fun x=>ffall x.1 x.2.1,out:=fun _=>() }
theorem told_len {v:ViewD} {g:Int} {T:List (List Int)} (hT:T.length=6) (h:fcheck (v,g,T,())=0):∀ l∈T,l.length≤30:=fun l hl=>by
  obtain ⟨i,hi,rfl⟩:=mem_getD (d:=[]) hl
  exact fcheck_len h (by omega)
theorem cftell_valid:cftell.Valid Try.prog 16:=by
  refine Ctr.valid_of Eftell_ok rfl rfl Try.func16 (c:=bodyOf Try.prog 16) rfl rfl Fftell_ok rfl ?_
  rintro ⟨⟨⟨(num:Int),(M:Int),⟨⟩⟩,(g:Int),(T:List (List Int)),⟨⟩⟩,(p:Int),(m:Int),⟨⟩⟩ - ⟨⟨-,-,⟨(hT:T.length=6),-⟩,-⟩,-⟩
  refine exec_sound (n:=1000) Eftell_ok Fftell_ok ?_
  refine holds_of_eq (Eftell_t num M g T p m) ?_
  have key:∀ {x:FlushD×Int×Unit},ftell ((num,M,()),g,T,()) p m=x→x=ftell ((num,M,()),g,T,()) p m:=fun h=>h.symm
  have hd:ftell ((num,M,()),g,T,()) p m=if fcheck ((num,M,()),g,T,())≠0 then (flush0,fcheck ((num,M,()),g,T,()),()) else if inF p 0 5=false then (flush0,1,()) else if fmsg m=false then (flush0,1,())
    else if bAnd .u8 (bAndNot .u8 M g / 2^min (Int.toNat p) (IntKind.bits .u8)) 1=0 then (flush0,11,()) else if m∈T.getD p.toNat [] then (flush0,7,()) else (((num,M,()),g,T.set p.toNat (T.getD p.toNat []++[m]),()),0,()):=rfl
  simp only [holds_cond,Tree.holds,true_and,true_implies,decide_eq_true_eq,decide_eq_false_iff_not,Bool.not_eq_true',Bool.not_eq_false',Int.toNat_natCast,inK_i64,List.length_set,List.length_cons,List.length_nil]
  refine ⟨fun a=>key (by rw [hd,if_pos a]<;>rfl),fun a=>?_⟩
  rw [if_neg a] at hd
  have htl:=told_len hT (Decidable.not_not.1 a)
  refine ⟨fun b=>key (by rw [hd,if_pos (by simpa using b)]<;>rfl),fun b=>?_⟩
  have b:inF p 0 5=true:=by simpa using b
  rw [if_neg (by rw [b]; simp)] at hd
  have hp:=inF_iff.1 b
  refine ⟨fun c=>key (by rw [hd,if_pos (by simpa using c)]<;>rfl),fun c=>?_⟩
  rw [if_neg (by simpa using c)] at hd
  refine ⟨by omega,fun _=>⟨fun c=>key (by rw [hd,if_pos c]<;>rfl),fun c=>?_⟩⟩
  rw [if_neg c] at hd
  refine ⟨by omega,fun _=>⟨fun e=>key (by rw [hd,if_pos e]<;>rfl),fun e=>?_⟩⟩
  rw [if_neg e] at hd
  have hl:=htl _ (getD_mem (d:=[]) (show p.toNat<T.length by omega))
  refine ⟨fun l h=>Nat.le_trans (htl l h) (by decide),fun _=>⟨by omega,fun _=>⟨⟨by omega,?_,?_⟩,fun _=>key (by rw [hd]; rfl)⟩⟩⟩
  · show _+1≤_; omega
  · show (_+1)*8≤_; omega
noncomputable def Effall:Env:={ P:=Try.prog,tt:=tt,ctr:=[(17,cfcheck),(122,cfproc),(123,cclone)],res:=[Go.ResultVar.cell 4 27,Go.ResultVar.tmp 5],rs:=[Ty.pair (Ty.pair (Ty.int IntKind.i64) (Ty.pair (Ty.int IntKind.u8) Ty.unit)) (Ty.pair (Ty.int IntKind.u8) (Ty.pair (Ty.arr 6 Is) Ty.unit)),Ty.int IntKind.i64],ps:=[PK.v (Ty.pair (Ty.pair (Ty.int IntKind.i64) (Ty.pair (Ty.int IntKind.u8) Ty.unit)) (Ty.pair (Ty.int IntKind.u8) (Ty.pair (Ty.arr 6 (Ty.slc false (Ty.int IntKind.i64))) Ty.unit))),PK.v (Ty.int IntKind.i64)],cuts:=[],nt:=31 }
theorem Effall_ok:EnvOk Effall:=envOk tt_ok ⟨cfcheck_valid,cfproc_valid,cclone_valid,trivial⟩
theorem Fffall_ok:FnOk Effall Try.f15:=⟨rfl,rfl⟩
theorem Effall_t (x0_1_1:Int) (x0_1_2_1:Int) (x0_2_1:Int) (x0_2_2_1:List (List Int)) (x1:Int):exec Effall 1000 [.code (bodyOf Try.prog 15)] (initSt cffall.ps ((((x0_1_1,x0_1_2_1,()),x0_2_1,x0_2_2_1,()),x1,()))) =
  .need (True) (cond (decide (fcheck ((x0_1_1,x0_1_2_1,()),x0_2_1,x0_2_2_1,())≠(0:Int))) (.ret (((((0:Int),(0:Int),()),(0:Int),[[],[],[],[],[],[]],()),fcheck ((x0_1_1,x0_1_2_1,()),x0_2_1,x0_2_2_1,()),()))) (.need (True) (cond (!inF x1 (0:Int) (5:Int)) (.ret (((((0:Int),(0:Int),()),(0:Int),[[],[],[],[],[],[]],()),(1:Int),()))) (.need (∀ (l:List Int),l∈x0_2_2_1→List.length l≤1048576) (.need ((0:Int)≤x1) (.ret ((((x0_1_1,x0_1_2_1,()),bOr IntKind.u8 x0_2_1 (bAnd IntKind.u8 x0_1_2_1 (IntKind.wrap IntKind.u8 ((1:Int)*(2:Int)^min (Int.toNat x1) (IntKind.bits IntKind.u8)))),x0_2_2_1,()),(0:Int),())))))))):=by kernel_rfl
theorem cffall_valid:cffall.Valid Try.prog 15:=by
  refine Ctr.valid_of Effall_ok rfl rfl Try.func15 (c:=bodyOf Try.prog 15) rfl rfl Fffall_ok rfl ?_
  rintro ⟨⟨⟨(num:Int),(M:Int),⟨⟩⟩,(g:Int),(T:List (List Int)),⟨⟩⟩,(p:Int),⟨⟩⟩ - ⟨⟨-,-,⟨(hT:T.length=6),-⟩,-⟩,-⟩
  refine exec_sound (n:=1000) Effall_ok Fffall_ok ?_
  refine holds_of_eq (Effall_t num M g T p) ?_
  have key:∀ {x:FlushD×Int×Unit},ffall ((num,M,()),g,T,()) p=x→x=ffall ((num,M,()),g,T,()) p:=fun h=>h.symm
  have hd:ffall ((num,M,()),g,T,()) p=if fcheck ((num,M,()),g,T,())≠0 then (flush0,fcheck ((num,M,()),g,T,()),()) else if inF p 0 5=false then (flush0,1,()) else (((num,M,()),bOr .u8 g (bAnd .u8 M (IntKind.wrap .u8 (1*2^min p.toNat (IntKind.bits .u8)))),T,()),0,()):=rfl
  simp only [holds_cond,Tree.holds,true_and,true_implies,decide_eq_true_eq,decide_eq_false_iff_not,Bool.not_eq_true',Bool.not_eq_false',Int.toNat_natCast,inK_i64,List.length_set,List.length_cons,List.length_nil]
  refine ⟨fun a=>key (by rw [hd,if_pos a]<;>rfl),fun a=>?_⟩
  rw [if_neg a] at hd
  have htl:=told_len hT (Decidable.not_not.1 a)
  refine ⟨fun b=>key (by rw [hd,if_pos (by simpa using b)]<;>rfl),fun b=>?_⟩
  have b:inF p 0 5=true:=by simpa using b
  rw [if_neg (by rw [b]; simp)] at hd
  have hp:=inF_iff.1 b
  exact ⟨fun l h=>Nat.le_trans (htl l h) (by decide),fun _=>⟨by omega,fun _=>key (by rw [hd]; rfl)⟩⟩
end Go.Proofs.Ytekbamiaenbhjaa
