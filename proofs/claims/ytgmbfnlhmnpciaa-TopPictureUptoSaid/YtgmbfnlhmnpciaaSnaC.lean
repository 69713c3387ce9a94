/- snap.move. -/
import Derived.Test.YtgmbfnlhmnpciaaSnaB
namespace Go.Proofs.Ytgmbfnlhmnpciaa
open Go.Ex
set_option maxRecDepth 100000
abbrev MoveD:=Int×Int×Int×Int×Unit
def sendG (g:GameD) (a b:Nat) (x:Int):GameD:=(g.1.set a (g.1.getD a 0 - x),g.2.1,g.2.2.1,setLane g.2.2.2.1 a b ((laneAt g.2.2.2.1 a b).1++[x],(laneAt g.2.2.2.1 a b).2),())
def mvF (g:GameD) (m:MoveD):GameD :=
  if m.1=1 then (if m.2.2.2.1≤g.1.getD m.2.1.toNat 0 then sendG g m.2.1.toNat m.2.2.1.toNat m.2.2.2.1 else g)
  else if m.1=2 then tkF g m.2.1.toNat m.2.2.1.toNat
  else recF g m.2.1.toNat
def MvOk (n:Nat) (m:MoveD):Prop:=(1≤m.1∧m.1≤3)∧(0≤m.2.1∧m.2.1<(n:Int))∧(0≤m.2.2.1∧m.2.2.1<(n:Int))∧(0≤m.2.2.2.1∧m.2.2.2.1≤1000000)∧(m.2.1=m.2.2.1→m.1=3)
def cmv:Ctr:={ ps:=[.rw Game,.v Move],rs:=[],pre:=fun x=>∃ n,Sized n x.1∧Small x.1∧MvOk n x.2.1,fn:=fun _=>(),out:=fun x=>(mvF x.1 x.2.1,()) }
noncomputable def Emv:Env:={ P:=Try.prog,tt:=tt,ctr:=[(46,ctake),(47,crec)],res:=[],rs:=[],ps:=[PK.rw (Ty.pair Is (Ty.pair Is (Ty.pair (Ty.slc true Ty.bool) (Ty.pair (Ty.slc true (Ty.slc true (Ty.pair Is (Ty.pair Ty.bool (Ty.pair (Ty.int IntKind.i64) Ty.unit))))) Ty.unit)))),PK.v (Ty.pair (Ty.int IntKind.i64) (Ty.pair (Ty.int IntKind.i64) PairT))],cuts:=[],nt:=66 }
theorem Emv_ok:EnvOk Emv:=envOk tt_ok ⟨ctake_valid,crec_valid,trivial⟩
theorem Fmv_ok:FnOk Emv Try.f20:=⟨rfl,rfl⟩
theorem Emv_t (x0_1:List Int) (x0_2_1:List Int) (x0_2_2_1:List Bool) (x0_2_2_2_1:List (List (List Int×Bool×Int×Unit))) (x1_1:Int) (x1_2_1:Int) (x1_2_2_1:Int) (x1_2_2_2_1:Int):exec Emv 1000 [.code (bodyOf Try.prog 20)] (initSt cmv.ps (((x0_1,x0_2_1,x0_2_2_1,x0_2_2_2_1,()),(x1_1,x1_2_1,x1_2_2_1,x1_2_2_2_1,()),()))) =
  cond (decide (x1_1=(1:Int))) (.need ((0:Int)≤x1_2_1∧x1_2_1<(↑(List.length x0_1):Int)) (cond (decide (x1_2_2_2_1≤List.getD x0_1 (Int.toNat x1_2_1) (0:Int))) (.need ((0:Int)≤x1_2_1∧x1_2_1<(↑(List.length x0_1):Int)) (.need (inK IntKind.i64 (List.getD x0_1 (Int.toNat x1_2_1) (0:Int) - x1_2_2_2_1)) (.need ((0:Int)≤x1_2_1∧x1_2_1<(↑(List.length x0_1):Int)) (.need ((0:Int)≤x1_2_1∧x1_2_1<(↑(List.length x0_2_2_2_1):Int)) (.need ((0:Int)≤x1_2_2_1∧x1_2_2_1<(↑(List.length (List.getD x0_2_2_2_1 (Int.toNat x1_2_1) [])):Int)) (.need ([]++[Step.fld 3]++[Step.idx x1_2_1]++[Step.idx x1_2_2_1]++[Step.fld 0]=[]++[Step.fld 3]++[Step.idx x1_2_1]++[Step.idx x1_2_2_1]++[Step.fld 0]∧List.length (Prod.fst (List.getD (List.getD x0_2_2_2_1 (Int.toNat x1_2_1) []) (Int.toNat x1_2_2_1) ([],false,(0:Int),())))+List.length (List.set [(0:Int)] (Int.toNat (↑0:Int)) x1_2_2_2_1)≤140737488355328∧(List.length (Prod.fst (List.getD (List.getD x0_2_2_2_1 (Int.toNat x1_2_1) []) (Int.toNat x1_2_2_1) ([],false,(0:Int),())))+List.length (List.set [(0:Int)] (Int.toNat (↑0:Int)) x1_2_2_2_1))*Ty.wb (Ty.int IntKind.i64)≤140737488355328) (.ret (((List.set x0_1 (Int.toNat x1_2_1) (List.getD x0_1 (Int.toNat x1_2_1) (0:Int) - x1_2_2_2_1),x0_2_1,x0_2_2_1,List.set x0_2_2_2_1 (Int.toNat x1_2_1) (List.set (List.getD x0_2_2_2_1 (Int.toNat x1_2_1) []) (Int.toNat x1_2_2_1) (Prod.fst (List.getD (List.getD x0_2_2_2_1 (Int.toNat x1_2_1) []) (Int.toNat x1_2_2_1) ([],false,(0:Int),()))++List.set [(0:Int)] (Int.toNat (↑0:Int)) x1_2_2_2_1,Prod.snd (List.getD (List.getD x0_2_2_2_1 (Int.toNat x1_2_1) []) (Int.toNat x1_2_2_1) ([],false,(0:Int),())))),()),()))))))))) (.ret (((x0_1,x0_2_1,x0_2_2_1,x0_2_2_2_1,()),()))))) (cond (decide (x1_1=(2:Int))) (.need (∃ n,Sized n (x0_1,x0_2_1,x0_2_2_1,x0_2_2_2_1,())∧Small (x0_1,x0_2_1,x0_2_2_1,x0_2_2_2_1,())∧((0:Int)≤x1_2_1∧x1_2_1<(↑n:Int))∧(0:Int)≤x1_2_2_1∧x1_2_2_1<(↑n:Int)∧x1_2_1≠x1_2_2_1) (.ret ((tkF (x0_1,x0_2_1,x0_2_2_1,x0_2_2_2_1,()) (Int.toNat x1_2_1) (Int.toNat x1_2_2_1),())))) (.need (∃ n,Sized n (x0_1,x0_2_1,x0_2_2_1,x0_2_2_2_1,())∧(0:Int)≤x1_2_1∧x1_2_1<(↑n:Int)) (.ret ((recF (x0_1,x0_2_1,x0_2_2_1,x0_2_2_2_1,()) (Int.toNat x1_2_1),()))))):=by kernel_rfl
theorem cmv_valid:cmv.Valid Try.prog 20:=by
  refine Ctr.valid_of Emv_ok rfl rfl Try.func20 (c:=bodyOf Try.prog 20) rfl rfl Fmv_ok rfl ?_
  rintro ⟨⟨(N:List Int),(H:List Int),(R:List Bool),(L:List (List LaneD)),⟨⟩⟩,⟨(k:Int),(a:Int),(b:Int),(x:Int),⟨⟩⟩,⟨⟩⟩ ⟨n,hz,hsm,⟨(k0:1≤k),(k1:k≤3)⟩,⟨(a0:0≤a),(a1:a<(n:Int))⟩,⟨(b0:0≤b),(b1:b<(n:Int))⟩,⟨(x0:0≤x),(x1:x≤1000000)⟩,(hab:a=b→k=3)⟩ -
  obtain ⟨a,rfl⟩:∃ q:Nat,a=q:=⟨a.toNat,by omega⟩
  obtain ⟨b,rfl⟩:∃ q:Nat,b=q:=⟨b.toNat,by omega⟩
  obtain ⟨(s1:N.length=n),(s2:H.length=n),(s3:R.length=n),(s4:L.length=n),s5,s6⟩:=id hz
  have e2:(List.getD L a []).length=n:=s5 a (by omega)
  have hs6:=s6 a b (by omega) (by omega)
  have hs6:(laneAt L a b).1.length≤1000:=hs6
  have m6:=hsm.1 a
  have m6:0≤N.getD a 0∧N.getD a 0≤1000000000:=m6
  refine exec_sound (n:=1000) Emv_ok Fmv_ok ?_
  refine holds_of_eq (Emv_t N H R L k a b x) ?_
  have hat:List.getD (List.getD L a []) b ([],false,0,())=laneAt L a b:=rfl
  have hset:∀ (x:LaneD),List.set L a (List.set (List.getD L a []) b x)=setLane L a b x:=fun _=>rfl
  have hone:List.set [(0:Int)] 0 x=[x]:=rfl
  have w8:Ty.wb (.int .i64)=8:=rfl
  have hd:mvF (N,H,R,L,()) (k,a,b,x,())=if k=1 then (if x≤N.getD a 0 then (N.set a (N.getD a 0 - x),H,R,setLane L a b ((laneAt L a b).1++[x],(laneAt L a b).2),()) else (N,H,R,L,())) else if k=2 then tkF (N,H,R,L,()) a b else recF (N,H,R,L,()) a:=rfl
  simp only [holds_cond,Tree.holds,true_and,true_implies,decide_eq_true_eq,decide_eq_false_iff_not,Bool.not_eq_true',Bool.not_eq_false',Int.toNat_natCast,inK_i64,List.length_set,List.length_cons,List.length_nil,hat,hset,hone,Int.toNat_zero,w8]
  have key:∀ y:GameD,mvF (N,H,R,L,()) (k,a,b,x,())=y→((y,()):GameD×Unit)=(mvF (N,H,R,L,()) (k,a,b,x,()),()):=by rintro y rfl; rfl
  refine ⟨fun c=>⟨⟨by omega,by omega⟩,fun _=>⟨fun d=>⟨⟨by omega,by omega⟩,fun _=>⟨⟨by omega,by omega⟩,fun _=>⟨⟨by omega,by omega⟩,fun _=>⟨⟨by omega,by omega⟩,fun _=>⟨⟨by omega,by omega⟩,fun _=>⟨⟨by omega,by omega⟩,fun _=>?_⟩⟩⟩⟩⟩⟩,fun d=>?_⟩⟩,fun c=>⟨fun d=>⟨⟨n,hz,hsm,⟨by omega,by omega⟩,by omega,by omega,fun e=>by have:=hab e; omega⟩,fun _=>?_⟩,fun d=>⟨⟨n,hz,by omega,by omega⟩,fun _=>?_⟩⟩⟩
  · exact key _ (by rw [hd,if_pos c,if_pos d])
  · exact key _ (by rw [hd,if_pos c,if_neg d])
  · exact key _ (by rw [hd,if_neg c,if_pos d])
  · exact key _ (by rw [hd,if_neg c,if_neg d])
end Go.Proofs.Ytgmbfnlhmnpciaa
