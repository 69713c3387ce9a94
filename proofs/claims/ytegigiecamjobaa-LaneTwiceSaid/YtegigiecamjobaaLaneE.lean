/- The contract of the package lane's Take. -/
import Derived.Test.YtegigiecamjobaaLaneF
import Derived.Test.YtegigiecamjobaaInsD
namespace Go.Proofs.Ytegigiecamjobaa
open Go.Ex
set_option maxRecDepth 100000
theorem wbppcl:Ty.wb Parcel=24:=rfl
def cppcl:Ctr:={ ps:=[.v (.slc false Parcel)],rs:=[.slc true Parcel],pre:=fun x=>List.length (α:=ParcelD) x.1≤1048576,fn:=fun x=>x,out:=fun _=>() }
noncomputable def Eppcl:Env:={ P:=Try.prog,tt:=tt,ctr:=[],res:=[Go.ResultVar.tmp 2],rs:=[Ty.slc true (Ty.pair (Ty.int IntKind.i64) (Ty.pair Ty.str Ty.unit))],ps:=[PK.v (Ty.slc false (Ty.pair (Ty.int IntKind.i64) (Ty.pair Ty.str Ty.unit)))],cuts:=[],nt:=8 }
theorem Eppcl_ok:EnvOk Eppcl:=envOk tt_ok trivial
theorem Fppcl_ok:FnOk Eppcl Try.f83:=⟨rfl,rfl⟩
theorem Eppcl_t (x0:List (Int×List UInt8×Unit)):exec Eppcl 1000 [.code (bodyOf Try.prog 83)] (initSt cppcl.ps ((x0,()))) =
  .both (x0=[]) (.ret (([],()))) (.need ((0:Nat)+List.length x0≤140737488355328∧((0:Nat)+List.length x0)*Ty.wb (Ty.pair (Ty.int IntKind.i64) (Ty.pair Ty.str Ty.unit))≤140737488355328) (.ret (([]++x0,())))):=by kernel_rfl
theorem cppcl_valid:cppcl.Valid Try.prog 83:=by
  refine Ctr.valid_of Eppcl_ok rfl rfl Try.func83 (c:=bodyOf Try.prog 83) rfl rfl Fppcl_ok rfl ?_
  rintro ⟨(l:List (ParcelD)),⟨⟩⟩ hp -
  have hp:l.length≤1048576:=hp
  refine exec_sound (n:=1000) Eppcl_ok Fppcl_ok ?_
  refine holds_of_eq (Eppcl_t l) ?_
  simp only [holds_cond,Tree.holds,true_and,true_implies,decide_eq_true_eq,decide_eq_false_iff_not,Bool.not_eq_true',Bool.not_eq_false',Int.toNat_natCast,inK_i64,List.length_set,List.length_cons,List.length_nil,wbppcl]
  refine ⟨fun h=>?_,by omega,fun _=>rfl⟩
  show (([],()):List (ParcelD)×Unit)=(l,())
  rw [show l=[] from h]
def cltake:Ctr:={ ps:=[.v ToT,.v Parcel],rs:=[ToO,.slc true .str,I64],pre:=fun _=>True,fn:=fun x=>ltake x.1 x.2.1,out:=fun _=>() }
noncomputable def Eltake:Env:={ P:=Try.prog,tt:=tt,ctr:=[(39,ctoE),(81,clin),(82,cllong),(83,cppcl),(84,cbsF),(86,cins)],res:=[Go.ResultVar.cell 4 79,Go.ResultVar.tmp 5,Go.ResultVar.tmp 6],rs:=[Ty.pair (Ty.int IntKind.i64) (Ty.pair (Ty.slc true (Ty.pair (Ty.int IntKind.i64) (Ty.pair Ty.str Ty.unit))) Ty.unit),Ty.slc true Ty.str,Ty.int IntKind.i64],ps:=[PK.v (Ty.pair (Ty.int IntKind.i64) (Ty.pair (Ty.slc false (Ty.pair (Ty.int IntKind.i64) (Ty.pair Ty.str Ty.unit))) Ty.unit)),PK.v (Ty.pair (Ty.int IntKind.i64) (Ty.pair Ty.str Ty.unit))],cuts:=[(17,[(4,none),(8,none),(11,some (Ty.slc true Ty.str))])],nt:=116 }
theorem Eltake_ok:EnvOk Eltake:=envOk tt_ok ⟨ctoE_valid,clin_valid,cllong_valid,cppcl_valid,cbsF_valid,cins_valid,trivial⟩
theorem Fltake_ok:FnOk Eltake Try.f37:=⟨rfl,rfl⟩
theorem Eltake_t (x0_1:Int) (x0_2_1:List (Int×List UInt8×Unit)) (x1_1:Int) (x1_2_1:List UInt8):exec Eltake 1000 [.code (bodyOf Try.prog 37)] (initSt cltake.ps (((x0_1,x0_2_1,()),(x1_1,x1_2_1,()),()))) =
  .need (True) (cond (decide (toE (x0_1,x0_2_1,())≠(0:Int))) (.ret ((((0:Int),[],()),[],toE (x0_1,x0_2_1,()),()))) (.need (True) (cond (!inF x1_1 (0:Int) (16777214:Int)) (.ret ((((0:Int),[],()),[],(1:Int),()))) (.need (True) (cond (llong x1_2_1) (.ret ((((0:Int),[],()),[],(2:Int),()))) (.need (List.length x0_2_1≤1048576) (.need ((List.length x0_2_1≤1000∧sorted x0_2_1)∧(-100000000:Int)≤x1_1∧x1_1≤(100000000:Int)) (cond (decide (x1_1<x0_1)) (.ret (((x0_1,x0_2_1,()),[],(0:Int),()))) (.need (inK IntKind.i64 (x0_1+(16:Int))) (cond (decide (x0_1+(16:Int)≤x1_1)) (.ret (((x0_1,x0_2_1,()),[],(0:Int),()))) (cond (knownF x1_1 x0_2_1) (.ret (((x0_1,x0_2_1,()),[],(0:Int),()))) (cond (decide (x0_1<x1_1)) (.need (((0:Int)≤(↑(atF x1_1 x0_2_1):Int)∧(↑(atF x1_1 x0_2_1):Int)≤(↑(List.length x0_2_1):Int))∧List.length x0_2_1≤1000∧List.length (List.set [((0:Int),[],())] (Int.toNat (↑0:Int)) (x1_1,x1_2_1,()))=1) (.ret (((x0_1,insP x0_2_1 (↑(atF x1_1 x0_2_1):Int) (List.set [((0:Int),[],())] (Int.toNat (↑0:Int)) (x1_1,x1_2_1,())),()),[],(0:Int),())))) (.need (inK IntKind.i64 (x0_1+(1:Int))) (.cut (loopAt (bodyOf Try.prog 37) 17).1 (loopAt (bodyOf Try.prog 37) 17).2 (St.mk [(4,AV.ptr 4 []),(8,AV.ptr 8 []),(11,AV.at_ 1000011 [])] [(4,Ent.var (Ty.pair (Ty.int IntKind.i64) (Ty.pair (Ty.slc true (Ty.pair (Ty.int IntKind.i64) (Ty.pair Ty.str Ty.unit))) Ty.unit)) ((0:Int),[],())),(8,Ent.var (Ty.pair (Ty.int IntKind.i64) (Ty.pair (Ty.slc true (Ty.pair (Ty.int IntKind.i64) (Ty.pair Ty.str Ty.unit))) Ty.unit)) (x0_1+(1:Int),x0_2_1,())),(1000011,Ent.own (Ty.slc true Ty.str) (List.set [[]] (Int.toNat (↑0:Int)) x1_2_1))]))))))))))))))):=by kernel_rfl
def Eltake_s17 (o4_1:Int) (o4_2_1:List (Int×List UInt8×Unit)) (o8_1:Int) (o8_2_1:List (Int×List UInt8×Unit)) (o1000011:List (List UInt8)):St:=St.mk [(4,AV.ptr 4 []),(8,AV.ptr 8 []),(11,AV.at_ 1000011 [])] [(4,Ent.var (Ty.pair (Ty.int IntKind.i64) (Ty.pair (Ty.slc true (Ty.pair (Ty.int IntKind.i64) (Ty.pair Ty.str Ty.unit))) Ty.unit)) (o4_1,o4_2_1,())),(8,Ent.var (Ty.pair (Ty.int IntKind.i64) (Ty.pair (Ty.slc true (Ty.pair (Ty.int IntKind.i64) (Ty.pair Ty.str Ty.unit))) Ty.unit)) (o8_1,o8_2_1,())),(1000011,Ent.own (Ty.slc true Ty.str) o1000011)]
theorem Eltake_l17 (o4_1:Int) (o4_2_1:List (Int×List UInt8×Unit)) (o8_1:Int) (o8_2_1:List (Int×List UInt8×Unit)) (o1000011:List (List UInt8)):exec Eltake 1000 (.code (loopAt (bodyOf Try.prog 37) 17).1::.inLoop (loopAt (bodyOf Try.prog 37) 17).1::(loopAt (bodyOf Try.prog 37) 17).2) (Eltake_s17 o4_1 o4_2_1 o8_1 o8_2_1 o1000011) =
  cond (decide ((0:Int)<(↑(List.length o8_2_1):Int))) (.need ((0:Int)≤(0:Int)∧(0:Int)<(↑(List.length o8_2_1):Int)) (cond (decide (Prod.fst (List.getD o8_2_1 (Int.toNat (0:Int)) ((0:Int),[],()))=o8_1)) (.need ((0:Int)≤(0:Int)∧(0:Int)<(↑(List.length o8_2_1):Int)) (.need (List.length o1000011+List.length (List.set [[]] (Int.toNat (↑0:Int)) (Prod.fst (Prod.snd (List.getD o8_2_1 (Int.toNat (0:Int)) ((0:Int),[],())))))≤140737488355328∧(List.length o1000011+List.length (List.set [[]] (Int.toNat (↑0:Int)) (Prod.fst (Prod.snd (List.getD o8_2_1 (Int.toNat (0:Int)) ((0:Int),[],()))))))*Ty.wb Ty.str≤140737488355328) (.need ((0:Int)≤(1:Int)∧(1:Int)≤(↑(List.length o8_2_1):Int)∧(↑(List.length o8_2_1):Int)≤(↑(List.length o8_2_1):Int)) (.need ([]++[Step.fld 1]=[]++[Step.fld 1]∧True) (.need (inK IntKind.i64 (o8_1+(1:Int))) (.cut (loopAt (bodyOf Try.prog 37) 17).1 (loopAt (bodyOf Try.prog 37) 17).2 (St.mk [(4,AV.ptr 4 []),(8,AV.ptr 8 []),(11,AV.at_ 1000011 [])] [(4,Ent.var (Ty.pair (Ty.int IntKind.i64) (Ty.pair (Ty.slc true (Ty.pair (Ty.int IntKind.i64) (Ty.pair Ty.str Ty.unit))) Ty.unit)) (o4_1,o4_2_1,())),(8,Ent.var (Ty.pair (Ty.int IntKind.i64) (Ty.pair (Ty.slc true (Ty.pair (Ty.int IntKind.i64) (Ty.pair Ty.str Ty.unit))) Ty.unit)) (o8_1+(1:Int),cut2 (1:Int) (↑(List.length o8_2_1):Int) o8_2_1,())),(1000011,Ent.own (Ty.slc true Ty.str) (o1000011++List.set [[]] (Int.toNat (↑0:Int)) (Prod.fst (Prod.snd (List.getD o8_2_1 (Int.toNat (0:Int)) ((0:Int),[],()))))))]))))))) (.need (List.length o8_2_1≤1048576) (.ret (((o8_1,o8_2_1,()),o1000011,(0:Int),())))))) (.need (List.length o8_2_1≤1048576) (.ret (((o8_1,o8_2_1,()),o1000011,(0:Int),())))):=by kernel_rfl
theorem atF_le {n:Int} {l:List ParcelD}:atF n l≤l.length:=by
  rw [atF]; exact (List.takeWhile_sublist _).length_le
theorem ToOk.sorted {r:Int} {l:List ParcelD} (h:ToOk r l):sorted l:=⟨rise_sorted h.up,fun i hi=>by
  have h1:=rise_mem h.up (getD_mem (d:=p00) hi)
  have h2:=(h.b _ (getD_mem (d:=p00) hi)).1
  have:=h.rg
  omega⟩
theorem cltake_valid:cltake.Valid Try.prog 37:=by
  refine Ctr.valid_of Eltake_ok rfl rfl Try.func37 (c:=bodyOf Try.prog 37) rfl rfl Fltake_ok rfl ?_
  rintro ⟨⟨(r:Int),(l:List ParcelD),⟨⟩⟩,⟨(q:Int),(x:List UInt8),⟨⟩⟩,⟨⟩⟩ - -
  refine exec_sound (n:=1000) Eltake_ok Fltake_ok ?_
  refine holds_of_eq (Eltake_t r l q x) ?_
  have key:∀ {y:ToD×List (List UInt8)×Int×Unit},ltake (r,l,()) (q,x,())=y→y=ltake (r,l,()) (q,x,()):=fun h=>h.symm
  have hd:ltake (r,l,()) (q,x,())=if toE (r,l,())≠0 then (t00,[],toE (r,l,()),()) else if inF q 0 16777214=false then (t00,[],1,()) else if llong x=true then (t00,[],2,()) else
    if q<r∨r+16≤q∨knownF q l=true then ((r,l,()),[],0,()) else if r<q then ((r,insF (q,x,()) l,()),[],0,()) else
    (((popR l (r+1)).1,(popR l (r+1)).2.1,()),x::(popR l (r+1)).2.2,0,()):=rfl
  have hw:Ty.wb .str=16:=rfl
  simp only [holds_cond,Tree.holds,true_and,true_implies,decide_eq_true_eq,decide_eq_false_iff_not,Bool.not_eq_true',Bool.not_eq_false',Int.toNat_natCast,inK_i64,List.length_set,List.length_cons,List.length_nil,hw]
  refine ⟨fun a=>key (by rw [hd,if_pos a]<;>rfl),fun a=>?_⟩
  have hok:=toE_iff.1 (Decidable.not_not.1 a)
  have hrg:=hok.rg
  have hlen:=hok.len
  rw [if_neg a] at hd
  refine ⟨fun c=>key (by rw [hd,if_pos c]<;>rfl),fun c=>?_⟩
  have hq:=inF_iff.1 c
  rw [if_neg (lnf c)] at hd
  refine ⟨fun d=>key (by rw [hd,if_pos d]<;>rfl),fun d=>⟨by omega,fun _=>⟨⟨⟨by omega,hok.sorted⟩,by omega,by omega⟩,fun _=>?_⟩⟩⟩
  rw [if_neg (by rw [d]; simp)] at hd
  refine ⟨fun e=>key (by rw [hd,if_pos (.inl e)]<;>rfl),fun e=>⟨by omega,fun _=>⟨fun f=>key (by rw [hd,if_pos (.inr (.inl f))]<;>rfl),fun f=>⟨fun g=>key (by rw [hd,if_pos (.inr (.inr g))]<;>rfl),fun g=>?_⟩⟩⟩⟩
  rw [if_neg (by rintro (h|h|h); exact e h; exact f h; rw [g] at h; cases h)] at hd
  have hat:=atF_le (n:=q) (l:=l)
  refine ⟨fun k=>⟨⟨⟨by omega,by omega⟩,by omega,trivial⟩,fun _=>key (by rw [hd,if_pos k]; simp [insP,insF]; rfl)⟩,fun k=>⟨by omega,fun _=>?_⟩⟩
  rw [if_neg k] at hd
  refine Reach.loopI Eltake_ok Fltake_ok (fun s:Int×List ParcelD×List (List UInt8)=>Eltake_s17 0 [] s.1 s.2.1 s.2.2) (fun s=>((popR s.2.1 s.1).1=(popR l (r+1)).1∧(popR s.2.1 s.1).2.1=(popR l (r+1)).2.1∧s.2.2++(popR s.2.1 s.1).2.2=x::(popR l (r+1)).2.2)∧s.2.1.length≤16∧s.2.2.length+s.2.1.length≤17∧0≤s.1∧s.1+s.2.1.length≤20000000)
    (fun s=>s.2.1.length) 1000 (fun _=>⟨uniq_of rfl,uniq_of rfl⟩) ?_ (r+1,l,[x]) ⟨⟨rfl,rfl,rfl⟩,hlen,by show 1+l.length≤17; omega,by show 0≤r+1; omega,by show r+1+(l.length:Int)≤20000000; omega⟩
  rintro ⟨n,m,ts⟩ ⟨⟨k1,k2,k3⟩,k4,k5,k6,k7⟩ - ih
  have k1:(popR m n).1=(popR l (r+1)).1:=k1
  have k2:(popR m n).2.1=(popR l (r+1)).2.1:=k2
  have k3:ts++(popR m n).2.2=x::(popR l (r+1)).2.2:=k3
  have k4:m.length≤16:=k4
  have k5:ts.length+m.length≤17:=k5
  have k6:0≤n:=k6
  have k7:n+(m.length:Int)≤20000000:=k7
  rw [← k1,← k2,← k3] at hd
  refine holds_of_eq (Eltake_l17 ..) ?_
  rw [show ((n,m,ts):Int×List ParcelD×List (List UInt8)).1=n from rfl,show ((n,m,ts):Int×List ParcelD×List (List UInt8)).2.1=m from rfl,show ((n,m,ts):Int×List ParcelD×List (List UInt8)).2.2=ts from rfl]
  cases m with
  | nil =>
    simp only [holds_cond,Tree.holds,true_and,true_implies,decide_eq_true_eq,decide_eq_false_iff_not,Bool.not_eq_true',Bool.not_eq_false',Int.toNat_natCast,inK_i64,List.length_set,List.length_cons,List.length_nil,hw]
    refine ⟨fun c2=>absurd c2 (by simp),fun _=>⟨by omega,fun _=>key ?_⟩⟩
    rw [hd,popR,List.append_nil]; rfl
  | cons p m =>
    have g0:List.getD (p::m) (Int.toNat 0) (0,[],())=p:=rfl
    have hcut:cut2 1 ((p::m).length:Int) (p::m)=m:=by
      rw [cut2,List.take_of_length_le (by simp)]; rfl
    simp only [List.length_cons] at k4 k5 k7
    have hpop:popR (p::m) n=if p.1=n then ((popR m (n+1)).1,(popR m (n+1)).2.1,p.2.1::(popR m (n+1)).2.2) else (n,p::m,[]):=rfl
    simp only [holds_cond,Tree.holds,true_and,true_implies,decide_eq_true_eq,decide_eq_false_iff_not,Bool.not_eq_true',Bool.not_eq_false',Int.toNat_natCast,inK_i64,List.length_set,List.length_cons,List.length_nil,hw,g0,hcut]
    refine ⟨fun c2=>⟨by omega,fun _=>⟨fun c3=>?_,fun c3=>⟨by omega,fun _=>key ?_⟩⟩⟩,fun c2=>absurd (by omega) c2⟩
    · rw [if_pos c3] at hpop
      rw [hpop] at k1 k2 k3
      have next:=ih (n+1,m,ts++[p.2.1]) ⟨⟨k1,k2,by rw [List.append_assoc]; exact k3⟩,by show m.length≤16; omega,by show (ts++[p.2.1]).length+m.length≤17; rw [List.length_append,List.length_singleton]; omega,by show 0≤n+1; omega,by show n+1+(m.length:Int)≤20000000; omega⟩ (by show m.length<(p::m).length; simp)
      have hcut2:cut2 1 ((m.length+1:Nat):Int) (p::m)=m:=hcut
      rw [hcut2]
      exact ⟨by omega,fun _=>⟨⟨by omega,by omega⟩,fun _=>⟨by omega,fun _=>⟨by omega,fun _=>next⟩⟩⟩⟩
    · rw [if_neg c3] at hpop
      rw [hd,hpop,List.append_nil]; rfl
end Go.Proofs.Ytegigiecamjobaa
