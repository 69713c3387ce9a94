/- Small contracts of the package synod. -/
import Derived.Test.YtegigiecamjobaaBitP
namespace Go.Proofs.Ytegigiecamjobaa
open Go.Ex
set_option maxRecDepth 100000
abbrev Voter:Ty:=.pair I64 (.pair I64 (.pair .str .unit))
abbrev Round:Ty:=.pair I64 (.pair I64 (.pair U8 (.pair U8 (.pair .bool (.pair .str .unit)))))
abbrev Act:Ty:=.pair I64 (.pair I64 (.pair I64 (.pair .str .unit)))
abbrev Synod:Ty:=.pair (.slc false Voter) (.pair (.slc false Round) .unit)
abbrev SynodO:Ty:=.pair (.slc true Voter) (.pair (.slc true Round) .unit)
abbrev VoterD:=Int×Int×List UInt8×Unit
abbrev RoundD:=Int×Int×Int×Int×Bool×List UInt8×Unit
abbrev ActD:=Int×Int×Int×List UInt8×Unit
abbrev SynodD:=List VoterD×List RoundD×Unit
abbrev r00:RoundD:=(0,0,0,0,false,[],())
abbrev v00:VoterD:=(0,0,[],())
def cyin:Ctr:={ ps:=[.v I64,.v I64,.v I64],rs:=[.bool],pre:=fun _=>True,fn:=fun x=>(inF x.1 x.2.1 x.2.2.1,()),out:=fun _=>() }
noncomputable def Eyin:Env:={ P:=Try.prog,tt:=tt,ctr:=[],res:=[Go.ResultVar.tmp 6],rs:=[Ty.bool],ps:=[PK.v (Ty.int IntKind.i64),PK.v (Ty.int IntKind.i64),PK.v (Ty.int IntKind.i64)],cuts:=[],nt:=15 }
theorem Eyin_ok:EnvOk Eyin:=envOk tt_ok trivial
theorem Fyin_ok:FnOk Eyin Try.f67:=⟨rfl,rfl⟩
theorem Eyin_t (x0:Int) (x1:Int) (x2:Int):exec Eyin 1000 [.code (bodyOf Try.prog 67)] (initSt cyin.ps ((x0,x1,x2,()))) =
  cond (decide (x1≤x0)) (.ret ((decide (x0≤x2),()))) (.ret ((false,()))):=by kernel_rfl
theorem cyin_valid:cyin.Valid Try.prog 67:=by
  refine Ctr.valid_of Eyin_ok rfl rfl Try.func67 (c:=bodyOf Try.prog 67) rfl rfl Fyin_ok rfl ?_
  rintro ⟨(a:Int),(b:Int),(c:Int),⟨⟩⟩ - -
  refine exec_sound (n:=1000) Eyin_ok Fyin_ok ?_
  refine holds_of_eq (Eyin_t a b c) ?_
  simp only [holds_cond,Tree.holds,true_and,true_implies,decide_eq_true_eq,decide_eq_false_iff_not,Bool.not_eq_true',Bool.not_eq_false',Int.toNat_natCast,inK_i64,List.length_set,List.length_cons,List.length_nil]
  repeat' first|exact trivial|(refine And.intro ?_ ?_)|(intro _)
  all_goals (show ((_,()):Bool×Unit)=(inF a b c,()); simp [inF, *])
def cones:Ctr:={ ps:=[.v U8],rs:=[I64],pre:=fun _=>True,fn:=fun x=>(ones x.1,()),out:=fun _=>() }
noncomputable def Eones:Env:={ P:=Try.prog,tt:=tt,ctr:=[],res:=[Go.ResultVar.tmp 2],rs:=[Ty.int IntKind.i64],ps:=[PK.v (Ty.int IntKind.u8)],cuts:=[],nt:=6 }
theorem Eones_ok:EnvOk Eones:=envOk tt_ok trivial
theorem Fones_ok:FnOk Eones Try.f129:=⟨rfl,rfl⟩
theorem Eones_t (x0:Int):exec Eones 1000 [.code (bodyOf Try.prog 129)] (initSt cones.ps ((x0,()))) =
  .need ((0:Int)≤x0∧x0<(↑(List.length (Array.toList (ByteArray.data (ByteArray.mk (List.toArray (List.append (List.append [(0:UInt8),(1:UInt8),(1:UInt8),(2:UInt8),(1:UInt8),(2:UInt8),(2:UInt8),(3:UInt8),(1:UInt8),(2:UInt8),(2:UInt8),(3:UInt8),(2:UInt8),(3:UInt8),(3:UInt8),(4:UInt8),(1:UInt8),(2:UInt8),(2:UInt8),(3:UInt8),(2:UInt8),(3:UInt8),(3:UInt8),(4:UInt8),(2:UInt8),(3:UInt8),(3:UInt8),(4:UInt8),(3:UInt8),(4:UInt8),(4:UInt8),(5:UInt8),(1:UInt8),(2:UInt8),(2:UInt8),(3:UInt8),(2:UInt8),(3:UInt8),(3:UInt8),(4:UInt8),(2:UInt8),(3:UInt8),(3:UInt8),(4:UInt8),(3:UInt8),(4:UInt8),(4:UInt8),(5:UInt8),(2:UInt8),(3:UInt8),(3:UInt8),(4:UInt8),(3:UInt8),(4:UInt8),(4:UInt8),(5:UInt8),(3:UInt8),(4:UInt8),(4:UInt8),(5:UInt8),(4:UInt8),(5:UInt8),(5:UInt8),(6:UInt8)] [(1:UInt8),(2:UInt8),(2:UInt8),(3:UInt8),(2:UInt8),(3:UInt8),(3:UInt8),(4:UInt8),(2:UInt8),(3:UInt8),(3:UInt8),(4:UInt8),(3:UInt8),(4:UInt8),(4:UInt8),(5:UInt8),(2:UInt8),(3:UInt8),(3:UInt8),(4:UInt8),(3:UInt8),(4:UInt8),(4:UInt8),(5:UInt8),(3:UInt8),(4:UInt8),(4:UInt8),(5:UInt8),(4:UInt8),(5:UInt8),(5:UInt8),(6:UInt8),(2:UInt8),(3:UInt8),(3:UInt8),(4:UInt8),(3:UInt8),(4:UInt8),(4:UInt8),(5:UInt8),(3:UInt8),(4:UInt8),(4:UInt8),(5:UInt8),(4:UInt8),(5:UInt8),(5:UInt8),(6:UInt8),(3:UInt8),(4:UInt8),(4:UInt8),(5:UInt8),(4:UInt8),(5:UInt8),(5:UInt8),(6:UInt8),(4:UInt8),(5:UInt8),(5:UInt8),(6:UInt8),(5:UInt8),(6:UInt8),(6:UInt8),(7:UInt8)]) (List.append [(1:UInt8),(2:UInt8),(2:UInt8),(3:UInt8),(2:UInt8),(3:UInt8),(3:UInt8),(4:UInt8),(2:UInt8),(3:UInt8),(3:UInt8),(4:UInt8),(3:UInt8),(4:UInt8),(4:UInt8),(5:UInt8),(2:UInt8),(3:UInt8),(3:UInt8),(4:UInt8),(3:UInt8),(4:UInt8),(4:UInt8),(5:UInt8),(3:UInt8),(4:UInt8),(4:UInt8),(5:UInt8),(4:UInt8),(5:UInt8),(5:UInt8),(6:UInt8),(2:UInt8),(3:UInt8),(3:UInt8),(4:UInt8),(3:UInt8),(4:UInt8),(4:UInt8),(5:UInt8),(3:UInt8),(4:UInt8),(4:UInt8),(5:UInt8),(4:UInt8),(5:UInt8),(5:UInt8),(6:UInt8),(3:UInt8),(4:UInt8),(4:UInt8),(5:UInt8),(4:UInt8),(5:UInt8),(5:UInt8),(6:UInt8),(4:UInt8),(5:UInt8),(5:UInt8),(6:UInt8),(5:UInt8),(6:UInt8),(6:UInt8),(7:UInt8)] [(2:UInt8),(3:UInt8),(3:UInt8),(4:UInt8),(3:UInt8),(4:UInt8),(4:UInt8),(5:UInt8),(3:UInt8),(4:UInt8),(4:UInt8),(5:UInt8),(4:UInt8),(5:UInt8),(5:UInt8),(6:UInt8),(3:UInt8),(4:UInt8),(4:UInt8),(5:UInt8),(4:UInt8),(5:UInt8),(5:UInt8),(6:UInt8),(4:UInt8),(5:UInt8),(5:UInt8),(6:UInt8),(5:UInt8),(6:UInt8),(6:UInt8),(7:UInt8),(3:UInt8),(4:UInt8),(4:UInt8),(5:UInt8),(4:UInt8),(5:UInt8),(5:UInt8),(6:UInt8),(4:UInt8),(5:UInt8),(5:UInt8),(6:UInt8),(5:UInt8),(6:UInt8),(6:UInt8),(7:UInt8),(4:UInt8),(5:UInt8),(5:UInt8),(6:UInt8),(5:UInt8),(6:UInt8),(6:UInt8),(7:UInt8),(5:UInt8),(6:UInt8),(6:UInt8),(7:UInt8),(6:UInt8),(7:UInt8),(7:UInt8),(8:UInt8)]))))))):Int)) (.ret ((IntKind.wrap IntKind.i64 (↑(UInt8.toNat (List.getD (Array.toList (ByteArray.data (ByteArray.mk (List.toArray (List.append (List.append [(0:UInt8),(1:UInt8),(1:UInt8),(2:UInt8),(1:UInt8),(2:UInt8),(2:UInt8),(3:UInt8),(1:UInt8),(2:UInt8),(2:UInt8),(3:UInt8),(2:UInt8),(3:UInt8),(3:UInt8),(4:UInt8),(1:UInt8),(2:UInt8),(2:UInt8),(3:UInt8),(2:UInt8),(3:UInt8),(3:UInt8),(4:UInt8),(2:UInt8),(3:UInt8),(3:UInt8),(4:UInt8),(3:UInt8),(4:UInt8),(4:UInt8),(5:UInt8),(1:UInt8),(2:UInt8),(2:UInt8),(3:UInt8),(2:UInt8),(3:UInt8),(3:UInt8),(4:UInt8),(2:UInt8),(3:UInt8),(3:UInt8),(4:UInt8),(3:UInt8),(4:UInt8),(4:UInt8),(5:UInt8),(2:UInt8),(3:UInt8),(3:UInt8),(4:UInt8),(3:UInt8),(4:UInt8),(4:UInt8),(5:UInt8),(3:UInt8),(4:UInt8),(4:UInt8),(5:UInt8),(4:UInt8),(5:UInt8),(5:UInt8),(6:UInt8)] [(1:UInt8),(2:UInt8),(2:UInt8),(3:UInt8),(2:UInt8),(3:UInt8),(3:UInt8),(4:UInt8),(2:UInt8),(3:UInt8),(3:UInt8),(4:UInt8),(3:UInt8),(4:UInt8),(4:UInt8),(5:UInt8),(2:UInt8),(3:UInt8),(3:UInt8),(4:UInt8),(3:UInt8),(4:UInt8),(4:UInt8),(5:UInt8),(3:UInt8),(4:UInt8),(4:UInt8),(5:UInt8),(4:UInt8),(5:UInt8),(5:UInt8),(6:UInt8),(2:UInt8),(3:UInt8),(3:UInt8),(4:UInt8),(3:UInt8),(4:UInt8),(4:UInt8),(5:UInt8),(3:UInt8),(4:UInt8),(4:UInt8),(5:UInt8),(4:UInt8),(5:UInt8),(5:UInt8),(6:UInt8),(3:UInt8),(4:UInt8),(4:UInt8),(5:UInt8),(4:UInt8),(5:UInt8),(5:UInt8),(6:UInt8),(4:UInt8),(5:UInt8),(5:UInt8),(6:UInt8),(5:UInt8),(6:UInt8),(6:UInt8),(7:UInt8)]) (List.append [(1:UInt8),(2:UInt8),(2:UInt8),(3:UInt8),(2:UInt8),(3:UInt8),(3:UInt8),(4:UInt8),(2:UInt8),(3:UInt8),(3:UInt8),(4:UInt8),(3:UInt8),(4:UInt8),(4:UInt8),(5:UInt8),(2:UInt8),(3:UInt8),(3:UInt8),(4:UInt8),(3:UInt8),(4:UInt8),(4:UInt8),(5:UInt8),(3:UInt8),(4:UInt8),(4:UInt8),(5:UInt8),(4:UInt8),(5:UInt8),(5:UInt8),(6:UInt8),(2:UInt8),(3:UInt8),(3:UInt8),(4:UInt8),(3:UInt8),(4:UInt8),(4:UInt8),(5:UInt8),(3:UInt8),(4:UInt8),(4:UInt8),(5:UInt8),(4:UInt8),(5:UInt8),(5:UInt8),(6:UInt8),(3:UInt8),(4:UInt8),(4:UInt8),(5:UInt8),(4:UInt8),(5:UInt8),(5:UInt8),(6:UInt8),(4:UInt8),(5:UInt8),(5:UInt8),(6:UInt8),(5:UInt8),(6:UInt8),(6:UInt8),(7:UInt8)] [(2:UInt8),(3:UInt8),(3:UInt8),(4:UInt8),(3:UInt8),(4:UInt8),(4:UInt8),(5:UInt8),(3:UInt8),(4:UInt8),(4:UInt8),(5:UInt8),(4:UInt8),(5:UInt8),(5:UInt8),(6:UInt8),(3:UInt8),(4:UInt8),(4:UInt8),(5:UInt8),(4:UInt8),(5:UInt8),(5:UInt8),(6:UInt8),(4:UInt8),(5:UInt8),(5:UInt8),(6:UInt8),(5:UInt8),(6:UInt8),(6:UInt8),(7:UInt8),(3:UInt8),(4:UInt8),(4:UInt8),(5:UInt8),(4:UInt8),(5:UInt8),(5:UInt8),(6:UInt8),(4:UInt8),(5:UInt8),(5:UInt8),(6:UInt8),(5:UInt8),(6:UInt8),(6:UInt8),(7:UInt8),(4:UInt8),(5:UInt8),(5:UInt8),(6:UInt8),(5:UInt8),(6:UInt8),(6:UInt8),(7:UInt8),(5:UInt8),(6:UInt8),(6:UInt8),(7:UInt8),(6:UInt8),(7:UInt8),(7:UInt8),(8:UInt8)])))))) (Int.toNat x0) (0:UInt8))):Int),()))):=by kernel_rfl
theorem cones_valid:cones.Valid Try.prog 129:=by
  refine Ctr.valid_of Eones_ok rfl rfl Try.func129 (c:=bodyOf Try.prog 129) rfl rfl Fones_ok rfl ?_
  rintro ⟨(x0:Int),⟨⟩⟩ - ⟨h0,-⟩
  refine exec_sound (n:=1000) Eones_ok Fones_ok ?_
  refine holds_of_eq (Eones_t x0) ?_
  have g0:0≤x0∧x0≤255:=h0
  obtain ⟨n,rfl⟩:∃ n:Fin 256,x0=((n.val:Nat):Int):=⟨⟨x0.toNat,by omega⟩,by simp; omega⟩
  refine ⟨?_,fun _=>?_⟩
  · clear h0 g0; revert n; decide +kernel
  · show ((_,()):Int×Unit)=(ones n,())
    clear h0 g0; revert n; decide +kernel
def maj (s n:Int):Bool:=decide (n<2*ones s)
def cmaj:Ctr:={ ps:=[.v U8,.v I64],rs:=[.bool],pre:=fun _=>True,fn:=fun x=>(maj x.1 x.2.1,()),out:=fun _=>() }
noncomputable def Emaj:Env:={ P:=Try.prog,tt:=tt,ctr:=[(129,cones)],res:=[Go.ResultVar.tmp 4],rs:=[Ty.bool],ps:=[PK.v (Ty.int IntKind.u8),PK.v (Ty.int IntKind.i64)],cuts:=[],nt:=10 }
theorem Emaj_ok:EnvOk Emaj:=envOk tt_ok ⟨cones_valid,trivial⟩
theorem Fmaj_ok:FnOk Emaj Try.f92:=⟨rfl,rfl⟩
theorem Emaj_t (x0:Int) (x1:Int):exec Emaj 1000 [.code (bodyOf Try.prog 92)] (initSt cmaj.ps ((x0,x1,()))) =
  .need (True) (.need (inK IntKind.i64 ((2:Int)*ones x0)) (.ret ((decide (x1<(2:Int)*ones x0),())))):=by kernel_rfl
theorem cmaj_valid:cmaj.Valid Try.prog 92:=by
  refine Ctr.valid_of Emaj_ok rfl rfl Try.func92 (c:=bodyOf Try.prog 92) rfl rfl Fmaj_ok rfl ?_
  rintro ⟨(s:Int),(n:Int),⟨⟩⟩ - -
  refine exec_sound (n:=1000) Emaj_ok Fmaj_ok ?_
  refine holds_of_eq (Emaj_t s n) ?_
  have:=ones_le s
  simp only [holds_cond,Tree.holds,true_and,true_implies,decide_eq_true_eq,decide_eq_false_iff_not,Bool.not_eq_true',Bool.not_eq_false',Int.toNat_natCast,inK_i64,List.length_set,List.length_cons,List.length_nil]
  exact ⟨by omega,fun _=>rfl⟩
def isBal (r:RoundD) (b:Int):Bool:=decide (r.1=b)
def cfind1:Ctr:={ ps:=[.v Round,.rd I64],rs:=[.bool],pre:=fun _=>True,fn:=fun x=>(isBal x.1 x.2.1,()),out:=fun _=>() }
noncomputable def Efind1:Env:={ P:=Try.prog,tt:=tt,ctr:=[],res:=[Go.ResultVar.tmp 3],rs:=[Ty.bool],ps:=[PK.v (Ty.pair (Ty.int IntKind.i64) (Ty.pair (Ty.int IntKind.i64) (Ty.pair (Ty.int IntKind.u8) (Ty.pair (Ty.int IntKind.u8) (Ty.pair Ty.bool (Ty.pair Ty.str Ty.unit)))))),PK.rd (Ty.int IntKind.i64)],cuts:=[],nt:=8 }
theorem Efind1_ok:EnvOk Efind1:=envOk tt_ok trivial
theorem Ffind1_ok:FnOk Efind1 Try.f119:=⟨rfl,rfl⟩
theorem Efind1_t (x0_1:Int) (x0_2_1:Int) (x0_2_2_1:Int) (x0_2_2_2_1:Int) (x0_2_2_2_2_1:Bool) (x0_2_2_2_2_2_1:List UInt8) (x1:Int):exec Efind1 1000 [.code (bodyOf Try.prog 119)] (initSt cfind1.ps (((x0_1,x0_2_1,x0_2_2_1,x0_2_2_2_1,x0_2_2_2_2_1,x0_2_2_2_2_2_1,()),x1,()))) =
  .ret ((decide (x0_1=x1),())):=by kernel_rfl
theorem cfind1_valid:cfind1.Valid Try.prog 119:=by
  refine Ctr.valid_of Efind1_ok rfl rfl Try.func119 (c:=bodyOf Try.prog 119) rfl rfl Ffind1_ok rfl ?_
  rintro ⟨⟨(b:Int),(be:Int),(p:Int),(v:Int),(a:Bool),(t:List UInt8),⟨⟩⟩,(n:Int),⟨⟩⟩ - -
  refine exec_sound (n:=1000) Efind1_ok Ffind1_ok ?_
  refine holds_of_eq (Efind1_t b be p v a t n) ?_
  simp only [holds_cond,Tree.holds,true_and,true_implies,decide_eq_true_eq,decide_eq_false_iff_not,Bool.not_eq_true',Bool.not_eq_false',Int.toNat_natCast,inK_i64,List.length_set,List.length_cons,List.length_nil]
  rfl
def cidxF1:Ctr:={ ps:=[.v (.slc false Round),.clo 119 [I64]],rs:=[I64],pre:=fun x=>True,fn:=fun x=>(idxOf (fun r:RoundD=>isBal r x.2.1.1) x.1,()),out:=fun _=>() }
noncomputable def EidxF1:Env:={ P:=Try.prog,tt:=tt,ctr:=[(119,cfind1)],res:=[Go.ResultVar.tmp 4],rs:=[Ty.int IntKind.i64],ps:=[PK.v (Ty.slc false (Ty.pair (Ty.int IntKind.i64) (Ty.pair (Ty.int IntKind.i64) (Ty.pair (Ty.int IntKind.u8) (Ty.pair (Ty.int IntKind.u8) (Ty.pair Ty.bool (Ty.pair Ty.str Ty.unit))))))),PK.clo 119 [Ty.int IntKind.i64]],cuts:=[(2,[(0,none),(1,none),(7,none),(8,none)])],nt:=19 }
theorem EidxF1_ok:EnvOk EidxF1:=envOk tt_ok ⟨cfind1_valid,trivial⟩
theorem FidxF1_ok:FnOk EidxF1 Try.f118:=⟨rfl,rfl⟩
theorem EidxF1_t (x0:List (Int×Int×Int×Int×Bool×List UInt8×Unit)) (x1c0:Int):exec EidxF1 1000 [.code (bodyOf Try.prog 118)] (initSt cidxF1.ps ((x0,(x1c0,()),()))) =
  .cut (loopAt (bodyOf Try.prog 118) 2).1 (loopAt (bodyOf Try.prog 118) 2).2 (St.mk [(0,AV.val (Ty.slc false (Ty.pair (Ty.int IntKind.i64) (Ty.pair (Ty.int IntKind.i64) (Ty.pair (Ty.int IntKind.u8) (Ty.pair (Ty.int IntKind.u8) (Ty.pair Ty.bool (Ty.pair Ty.str Ty.unit))))))) x0),(1,AV.clo 119 (AV.cons (AV.rptr (Ty.int IntKind.i64) x1c0) AV.nil)),(7,AV.val (Ty.int IntKind.i64) (↑(List.length x0):Int)),(8,AV.val (Ty.int IntKind.i64) (0:Int))] []):=by kernel_rfl
def EidxF1_s2 (v0:List (Int×Int×Int×Int×Bool×List UInt8×Unit)) (v1a:Int) (v7:Int) (v8:Int):St:=St.mk [(0,AV.val (Ty.slc false (Ty.pair (Ty.int IntKind.i64) (Ty.pair (Ty.int IntKind.i64) (Ty.pair (Ty.int IntKind.u8) (Ty.pair (Ty.int IntKind.u8) (Ty.pair Ty.bool (Ty.pair Ty.str Ty.unit))))))) v0),(1,AV.clo 119 (AV.cons (AV.rptr (Ty.int IntKind.i64) v1a) AV.nil)),(7,AV.val (Ty.int IntKind.i64) v7),(8,AV.val (Ty.int IntKind.i64) v8)] []
theorem EidxF1_l2 (v0:List (Int×Int×Int×Int×Bool×List UInt8×Unit)) (v1a:Int) (v7:Int) (v8:Int):exec EidxF1 1000 (.code (loopAt (bodyOf Try.prog 118) 2).1::.inLoop (loopAt (bodyOf Try.prog 118) 2).1::(loopAt (bodyOf Try.prog 118) 2).2) (EidxF1_s2 v0 v1a v7 v8) =
  cond (decide (v8<v7)) (.need ((0:Int)≤v8∧v8<(↑(List.length v0):Int)) (.need (True) (cond (isBal (List.getD v0 (Int.toNat v8) ((0:Int),(0:Int),(0:Int),(0:Int),false,[],())) v1a) (.ret ((v8,()))) (.need (inK IntKind.i64 (v8+(1:Int))) (.cut (loopAt (bodyOf Try.prog 118) 2).1 (loopAt (bodyOf Try.prog 118) 2).2 (St.mk [(0,AV.val (Ty.slc false (Ty.pair (Ty.int IntKind.i64) (Ty.pair (Ty.int IntKind.i64) (Ty.pair (Ty.int IntKind.u8) (Ty.pair (Ty.int IntKind.u8) (Ty.pair Ty.bool (Ty.pair Ty.str Ty.unit))))))) v0),(1,AV.clo 119 (AV.cons (AV.rptr (Ty.int IntKind.i64) v1a) AV.nil)),(7,AV.val (Ty.int IntKind.i64) v7),(8,AV.val (Ty.int IntKind.i64) (v8+(1:Int)))] [])))))) (.ret (((-1:Int),()))):=by kernel_rfl
theorem cidxF1_valid:cidxF1.Valid Try.prog 118:=by
  refine Ctr.valid_of EidxF1_ok rfl rfl Try.func118 (c:=bodyOf Try.prog 118) rfl rfl FidxF1_ok rfl ?_
  rintro ⟨(l:List (RoundD)),⟨(b:Int),⟨⟩⟩,⟨⟩⟩ - ⟨⟨hl,-⟩,-⟩
  have hl:l.length≤9223372036854775807:=hl
  refine exec_sound (n:=1000) EidxF1_ok FidxF1_ok ?_
  refine holds_of_eq (EidxF1_t l b) ?_
  refine Reach.loopI EidxF1_ok FidxF1_ok (fun i:Nat=>EidxF1_s2 l b (l.length:Int) (i:Int)) (fun i=>i≤l.length∧idxOf (fun r:RoundD=>isBal r b) l=idxGo (fun r:RoundD=>isBal r b) (l.drop i) i)
    (fun i=>l.length - i) 1000 (fun _=>⟨uniq_of rfl,uniq_of rfl⟩) ?_ 0 ⟨by omega,rfl⟩
  rintro i ⟨k1,k2⟩ - ih
  refine holds_of_eq (EidxF1_l2 ..) ?_
  simp only [holds_cond,Tree.holds,true_and,true_implies,decide_eq_true_eq,decide_eq_false_iff_not,Bool.not_eq_true',Bool.not_eq_false',Int.toNat_natCast,inK_i64,List.length_set,List.length_cons,List.length_nil]
  refine ⟨fun h=>?_,fun h=>?_⟩
  · rw [drop_getD (show i<l.length by omega) r00,idxGo] at k2
    refine ⟨by omega,fun _=>⟨fun c=>?_,fun c=>⟨by omega,fun _=>ih (i+1) ⟨by omega,?_⟩ (by omega)⟩⟩⟩
    · show (((i:Int),()):Int×Unit)=(idxOf (fun r:RoundD=>isBal r b) l,())
      rw [k2,if_pos (show (fun r:RoundD=>isBal r b) (l.getD i r00)=true from c)]
    · rw [k2,if_neg (show ¬ (fun r:RoundD=>isBal r b) (l.getD i r00)=true from fun h9=>Bool.noConfusion (Eq.trans (Eq.symm h9) c))]
  · rw [List.drop_eq_nil_of_le (by omega)] at k2
    show (((-1:Int),()):Int×Unit)=(idxOf (fun r:RoundD=>isBal r b) l,())
    rw [k2]; rfl
def findF (l:List RoundD) (b:Int):Int:=idxOf (fun r:RoundD=>isBal r b) l
def cfind:Ctr:={ ps:=[.v Synod,.v I64],rs:=[I64],pre:=fun _=>True,fn:=fun x=>(findF x.1.2.1 x.2.1,()),out:=fun _=>() }
noncomputable def Efind:Env:={ P:=Try.prog,tt:=tt,ctr:=[(118,cidxF1)],res:=[Go.ResultVar.tmp 4],rs:=[Ty.int IntKind.i64],ps:=[PK.v (Ty.pair (Ty.slc false (Ty.pair (Ty.int IntKind.i64) (Ty.pair (Ty.int IntKind.i64) (Ty.pair Ty.str Ty.unit)))) (Ty.pair (Ty.slc false (Ty.pair (Ty.int IntKind.i64) (Ty.pair (Ty.int IntKind.i64) (Ty.pair (Ty.int IntKind.u8) (Ty.pair (Ty.int IntKind.u8) (Ty.pair Ty.bool (Ty.pair Ty.str Ty.unit))))))) Ty.unit)),PK.v (Ty.int IntKind.i64)],cuts:=[],nt:=9 }
theorem Efind_ok:EnvOk Efind:=envOk tt_ok ⟨cidxF1_valid,trivial⟩
theorem Ffind_ok:FnOk Efind Try.f66:=⟨rfl,rfl⟩
theorem Efind_t (x0_1:List (Int×Int×List UInt8×Unit)) (x0_2_1:List (Int×Int×Int×Int×Bool×List UInt8×Unit)) (x1:Int):exec Efind 1000 [.code (bodyOf Try.prog 66)] (initSt cfind.ps (((x0_1,x0_2_1,()),x1,()))) =
  .need (True) (.ret ((idxOf (fun r=>isBal r x1) x0_2_1,()))):=by kernel_rfl
theorem cfind_valid:cfind.Valid Try.prog 66:=by
  refine Ctr.valid_of Efind_ok rfl rfl Try.func66 (c:=bodyOf Try.prog 66) rfl rfl Ffind_ok rfl ?_
  rintro ⟨⟨(V:List VoterD),(R:List RoundD),⟨⟩⟩,(b:Int),⟨⟩⟩ - -
  refine exec_sound (n:=1000) Efind_ok Ffind_ok ?_
  refine holds_of_eq (Efind_t V R b) ?_
  exact ⟨trivial,fun _=>rfl⟩
def crnd1:Ctr:={ ps:=[.v Round,.rd Round],rs:=[.bool],pre:=fun _=>True,fn:=fun x=>(isBal x.1 x.2.1.1,()),out:=fun _=>() }
noncomputable def Ernd1:Env:={ P:=Try.prog,tt:=tt,ctr:=[],res:=[Go.ResultVar.tmp 3],rs:=[Ty.bool],ps:=[PK.v (Ty.pair (Ty.int IntKind.i64) (Ty.pair (Ty.int IntKind.i64) (Ty.pair (Ty.int IntKind.u8) (Ty.pair (Ty.int IntKind.u8) (Ty.pair Ty.bool (Ty.pair Ty.str Ty.unit)))))),PK.rd (Ty.pair (Ty.int IntKind.i64) (Ty.pair (Ty.int IntKind.i64) (Ty.pair (Ty.int IntKind.u8) (Ty.pair (Ty.int IntKind.u8) (Ty.pair Ty.bool (Ty.pair Ty.str Ty.unit))))))],cuts:=[],nt:=9 }
theorem Ernd1_ok:EnvOk Ernd1:=envOk tt_ok trivial
theorem Frnd1_ok:FnOk Ernd1 Try.f132:=⟨rfl,rfl⟩
theorem Ernd1_t (x0_1:Int) (x0_2_1:Int) (x0_2_2_1:Int) (x0_2_2_2_1:Int) (x0_2_2_2_2_1:Bool) (x0_2_2_2_2_2_1:List UInt8) (x1_1:Int) (x1_2_1:Int) (x1_2_2_1:Int) (x1_2_2_2_1:Int) (x1_2_2_2_2_1:Bool) (x1_2_2_2_2_2_1:List UInt8):exec Ernd1 1000 [.code (bodyOf Try.prog 132)] (initSt crnd1.ps (((x0_1,x0_2_1,x0_2_2_1,x0_2_2_2_1,x0_2_2_2_2_1,x0_2_2_2_2_2_1,()),(x1_1,x1_2_1,x1_2_2_1,x1_2_2_2_1,x1_2_2_2_2_1,x1_2_2_2_2_2_1,()),()))) =
  .ret ((decide (x0_1=x1_1),())):=by kernel_rfl
theorem crnd1_valid:crnd1.Valid Try.prog 132:=by
  refine Ctr.valid_of Ernd1_ok rfl rfl Try.func132 (c:=bodyOf Try.prog 132) rfl rfl Frnd1_ok rfl ?_
  rintro ⟨⟨(b:Int),(be:Int),(p:Int),(v:Int),(a:Bool),(t:List UInt8),⟨⟩⟩,⟨(b2:Int),(be2:Int),(p2:Int),(v2:Int),(a2:Bool),(t2:List UInt8),⟨⟩⟩,⟨⟩⟩ - -
  refine exec_sound (n:=1000) Ernd1_ok Frnd1_ok ?_
  refine holds_of_eq (Ernd1_t b be p v a t b2 be2 p2 v2 a2 t2) ?_
  simp only [holds_cond,Tree.holds,true_and,true_implies,decide_eq_true_eq,decide_eq_false_iff_not,Bool.not_eq_true',Bool.not_eq_false',Int.toNat_natCast,inK_i64,List.length_set,List.length_cons,List.length_nil]
  rfl
end Go.Proofs.Ytegigiecamjobaa
