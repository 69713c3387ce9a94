/- match.Check, and what match.most calls. No condition but those named. -/
import Derived.Test.YtegigiecamjobaaMatchS
namespace Go.Proofs.Ytegigiecamjobaa
open Go.Ex
set_option maxRecDepth 100000
def badP (m n:Int) (q:PairD):Bool:=!(inF q.1 0 (m - 1)) || !(inF q.2.1 0 (n - 1))
def mcheck (m n:Int) (l:List PairD):Int:=if (inF m 0 40 && inF n 0 40)=false then 1 else if 600<l.length then 2 else if l.any (badP m n)=true then 4 else 0
def cminB:Ctr:={ ps:=[.v I64,.v I64,.v I64],rs:=[.bool],pre:=fun _=>True,fn:=fun x=>(inF x.1 x.2.1 x.2.2.1,()),out:=fun _=>() }
noncomputable def EminB:Env:={ P:=Try.prog,tt:=tt,ctr:=[],res:=[Go.ResultVar.tmp 6],rs:=[Ty.bool],ps:=[PK.v (Ty.int IntKind.i64),PK.v (Ty.int IntKind.i64),PK.v (Ty.int IntKind.i64)],cuts:=[],nt:=15 }
theorem EminB_ok:EnvOk EminB:=envOk tt_ok trivial
theorem FminB_ok:FnOk EminB Try.f122:=⟨rfl,rfl⟩
theorem EminB_t (x0:Int) (x1:Int) (x2:Int):exec EminB 1000 [.code (bodyOf Try.prog 122)] (initSt cminB.ps ((x0,x1,x2,()))) =
  cond (decide (x1≤x0)) (.ret ((decide (x0≤x2),()))) (.ret ((false,()))):=by kernel_rfl
theorem cminB_valid:cminB.Valid Try.prog 122:=by
  refine Ctr.valid_of EminB_ok rfl rfl Try.func122 (c:=bodyOf Try.prog 122) rfl rfl FminB_ok rfl ?_
  rintro ⟨(n:Int),(a:Int),(b:Int),⟨⟩⟩ - -
  refine exec_sound (n:=1000) EminB_ok FminB_ok ?_
  refine holds_of_eq (EminB_t n a b) ?_
  simp only [holds_cond,Tree.holds,true_and,true_implies,decide_eq_true_eq,decide_eq_false_iff_not,Bool.not_eq_true',Bool.not_eq_false',Int.toNat_natCast,inK_i64,List.length_set,List.length_cons,List.length_nil]
  refine ⟨fun c=>?_,fun c=>?_⟩
  · show ((decide _,()):Bool×Unit)=(inF n a b,()); rw [inF,decide_eq_true c,Bool.true_and]
  · show ((false,()):Bool×Unit)=(inF n a b,()); rw [inF,decide_eq_false c,Bool.false_and]
def cbadP:Ctr:={ ps:=[.v PairT,.rd I64,.rd I64],rs:=[.bool],pre:=fun x=>(LE.le (α:=Int) 0 x.2.1∧LE.le (α:=Int) x.2.1 40)∧(LE.le (α:=Int) 0 x.2.2.1∧LE.le (α:=Int) x.2.2.1 40),fn:=fun x=>(badP x.2.1 x.2.2.1 x.1,()),out:=fun _=>() }
noncomputable def EbadP:Env:={ P:=Try.prog,tt:=tt,ctr:=[(122,cminB)],res:=[Go.ResultVar.tmp 4],rs:=[Ty.bool],ps:=[PK.v PairT,PK.rd (Ty.int IntKind.i64),PK.rd (Ty.int IntKind.i64)],cuts:=[],nt:=19 }
theorem EbadP_ok:EnvOk EbadP:=envOk tt_ok ⟨cminB_valid,trivial⟩
theorem FbadP_ok:FnOk EbadP Try.f124:=⟨rfl,rfl⟩
theorem EbadP_t (x0_1:Int) (x0_2_1:Int) (x1:Int) (x2:Int):exec EbadP 1000 [.code (bodyOf Try.prog 124)] (initSt cbadP.ps (((x0_1,x0_2_1,()),x1,x2,()))) =
  .need (inK IntKind.i64 (x1 - (1:Int))) (.need (True) (cond (!inF x0_1 (0:Int) (x1 - (1:Int))) (.ret ((true,()))) (.need (inK IntKind.i64 (x2 - (1:Int))) (.need (True) (.ret ((!inF x0_2_1 (0:Int) (x2 - (1:Int)),()))))))):=by kernel_rfl
theorem cbadP_valid:cbadP.Valid Try.prog 124:=by
  refine Ctr.valid_of EbadP_ok rfl rfl Try.func124 (c:=bodyOf Try.prog 124) rfl rfl FbadP_ok rfl ?_
  rintro ⟨⟨(a:Int),(b:Int),⟨⟩⟩,(m:Int),(n:Int),⟨⟩⟩ ⟨⟨hm0,hm1⟩,hn0,hn1⟩ -
  have hm0:0≤m:=hm0
  have hm1:m≤40:=hm1
  have hn0:0≤n:=hn0
  have hn1:n≤40:=hn1
  refine exec_sound (n:=1000) EbadP_ok FbadP_ok ?_
  refine holds_of_eq (EbadP_t a b m n) ?_
  simp only [holds_cond,Tree.holds,true_and,true_implies,decide_eq_true_eq,decide_eq_false_iff_not,Bool.not_eq_true',Bool.not_eq_false',Int.toNat_natCast,inK_i64,List.length_set,List.length_cons,List.length_nil]
  refine ⟨by omega,fun _=>⟨fun c=>?_,fun c=>⟨by omega,fun _=>?_⟩⟩⟩
  · show ((true,()):Bool×Unit)=(!inF a 0 (m - 1) || !inF b 0 (n - 1),()); rw [c]; rfl
  · show ((!inF b 0 (n - 1),()):Bool×Unit)=(!inF a 0 (m - 1) || !inF b 0 (n - 1),()); rw [c]; rfl
def cidxP:Ctr:={ ps:=[.v (.slc false PairT),.clo 124 [I64,I64]],rs:=[I64],pre:=fun x=>(LE.le (α:=Int) 0 x.2.1.1∧LE.le (α:=Int) x.2.1.1 40)∧(LE.le (α:=Int) 0 x.2.1.2.1∧LE.le (α:=Int) x.2.1.2.1 40),fn:=fun x=>(idxOf (badP x.2.1.1 x.2.1.2.1) x.1,()),out:=fun _=>() }
noncomputable def EidxP:Env:={ P:=Try.prog,tt:=tt,ctr:=[(124,cbadP)],res:=[Go.ResultVar.tmp 4],rs:=[Ty.int IntKind.i64],ps:=[PK.v (Ty.slc false PairT),PK.clo 124 [Ty.int IntKind.i64,Ty.int IntKind.i64]],cuts:=[(2,[(0,none),(1,none),(7,none),(8,none)])],nt:=19 }
theorem EidxP_ok:EnvOk EidxP:=envOk tt_ok ⟨cbadP_valid,trivial⟩
theorem FidxP_ok:FnOk EidxP Try.f152:=⟨rfl,rfl⟩
theorem EidxP_t (x0:List (Int×Int×Unit)) (x1c0:Int) (x1c1:Int):exec EidxP 1000 [.code (bodyOf Try.prog 152)] (initSt cidxP.ps ((x0,(x1c0,x1c1,()),()))) =
  .cut (loopAt (bodyOf Try.prog 152) 2).1 (loopAt (bodyOf Try.prog 152) 2).2 (St.mk [(0,AV.val (Ty.slc false PairT) x0),(1,AV.clo 124 (AV.cons (AV.rptr (Ty.int IntKind.i64) x1c0) (AV.cons (AV.rptr (Ty.int IntKind.i64) x1c1) AV.nil))),(7,AV.val (Ty.int IntKind.i64) (↑(List.length x0):Int)),(8,AV.val (Ty.int IntKind.i64) (0:Int))] []):=by kernel_rfl
def EidxP_s2 (v0:List (Int×Int×Unit)) (v1a:Int) (v1ba:Int) (v7:Int) (v8:Int):St:=St.mk [(0,AV.val (Ty.slc false PairT) v0),(1,AV.clo 124 (AV.cons (AV.rptr (Ty.int IntKind.i64) v1a) (AV.cons (AV.rptr (Ty.int IntKind.i64) v1ba) AV.nil))),(7,AV.val (Ty.int IntKind.i64) v7),(8,AV.val (Ty.int IntKind.i64) v8)] []
theorem EidxP_l2 (v0:List (Int×Int×Unit)) (v1a:Int) (v1ba:Int) (v7:Int) (v8:Int):exec EidxP 1000 (.code (loopAt (bodyOf Try.prog 152) 2).1::.inLoop (loopAt (bodyOf Try.prog 152) 2).1::(loopAt (bodyOf Try.prog 152) 2).2) (EidxP_s2 v0 v1a v1ba v7 v8) =
  cond (decide (v8<v7)) (.need ((0:Int)≤v8∧v8<(↑(List.length v0):Int)) (.need (((0:Int)≤v1a∧v1a≤(40:Int))∧(0:Int)≤v1ba∧v1ba≤(40:Int)) (cond (badP v1a v1ba (List.getD v0 (Int.toNat v8) ((0:Int),(0:Int),()))) (.ret ((v8,()))) (.need (inK IntKind.i64 (v8+(1:Int))) (.cut (loopAt (bodyOf Try.prog 152) 2).1 (loopAt (bodyOf Try.prog 152) 2).2 (St.mk [(0,AV.val (Ty.slc false PairT) v0),(1,AV.clo 124 (AV.cons (AV.rptr (Ty.int IntKind.i64) v1a) (AV.cons (AV.rptr (Ty.int IntKind.i64) v1ba) AV.nil))),(7,AV.val (Ty.int IntKind.i64) v7),(8,AV.val (Ty.int IntKind.i64) (v8+(1:Int)))] [])))))) (.ret (((-1:Int),()))):=by kernel_rfl
theorem cidxP_valid:cidxP.Valid Try.prog 152:=by
  refine Ctr.valid_of EidxP_ok rfl rfl Try.func152 (c:=bodyOf Try.prog 152) rfl rfl FidxP_ok rfl ?_
  rintro ⟨(l:List (PairD)),⟨(m:Int),(n:Int),⟨⟩⟩,⟨⟩⟩ hp ⟨⟨hl,-⟩,-⟩
  have hl:l.length≤9223372036854775807:=hl
  have hp:(LE.le (α:=Int) 0 m∧LE.le (α:=Int) m 40)∧(LE.le (α:=Int) 0 n∧LE.le (α:=Int) n 40):=hp
  refine exec_sound (n:=1000) EidxP_ok FidxP_ok ?_
  refine holds_of_eq (EidxP_t l m n) ?_
  refine Reach.loopI EidxP_ok FidxP_ok (fun i:Nat=>EidxP_s2 l m n (l.length:Int) (i:Int)) (fun i=>i≤l.length∧idxOf (badP m n) l=idxGo (badP m n) (l.drop i) i)
    (fun i=>l.length - i) 1000 (fun _=>⟨uniq_of rfl,uniq_of rfl⟩) ?_ 0 ⟨by omega,rfl⟩
  rintro i ⟨k1,k2⟩ - ih
  refine holds_of_eq (EidxP_l2 ..) ?_
  simp only [holds_cond,Tree.holds,true_and,true_implies,decide_eq_true_eq,decide_eq_false_iff_not,Bool.not_eq_true',Bool.not_eq_false',Int.toNat_natCast,inK_i64,List.length_set,List.length_cons,List.length_nil]
  refine ⟨fun h=>?_,fun h=>?_⟩
  · rw [drop_getD (show i<l.length by omega) (0,0,()),idxGo] at k2
    refine ⟨by omega,fun _=>⟨hp,fun _=>⟨fun c=>?_,fun c=>⟨by omega,fun _=>ih (i+1) ⟨by omega,?_⟩ (by omega)⟩⟩⟩⟩
    · show (((i:Int),()):Int×Unit)=(idxOf (badP m n) l,())
      rw [k2,if_pos (show (badP m n) (l.getD i (0,0,()))=true from c)]
    · rw [k2,if_neg (show ¬ (badP m n) (l.getD i (0,0,()))=true from fun h9=>Bool.noConfusion (Eq.trans (Eq.symm h9) c))]
  · rw [List.drop_eq_nil_of_le (by omega)] at k2
    show (((-1:Int),()):Int×Unit)=(idxOf (badP m n) l,())
    rw [k2]; rfl
def ccontP:Ctr:={ ps:=[.v (.slc false PairT),.clo 124 [I64,I64]],rs:=[.bool],pre:=fun x=>(LE.le (α:=Int) 0 x.2.1.1∧LE.le (α:=Int) x.2.1.1 40)∧(LE.le (α:=Int) 0 x.2.1.2.1∧LE.le (α:=Int) x.2.1.2.1 40),fn:=fun x=>(List.any (α:=PairD) x.1 (badP x.2.1.1 x.2.1.2.1),()),out:=fun _=>() }
noncomputable def EcontP:Env:={ P:=Try.prog,tt:=tt,ctr:=[(152,cidxP)],res:=[Go.ResultVar.tmp 4],rs:=[Ty.bool],ps:=[PK.v (Ty.slc false PairT),PK.clo 124 [Ty.int IntKind.i64,Ty.int IntKind.i64]],cuts:=[],nt:=9 }
theorem EcontP_ok:EnvOk EcontP:=envOk tt_ok ⟨cidxP_valid,trivial⟩
theorem FcontP_ok:FnOk EcontP Try.f123:=⟨rfl,rfl⟩
theorem EcontP_t (x0:List (Int×Int×Unit)) (x1c0:Int) (x1c1:Int):exec EcontP 1000 [.code (bodyOf Try.prog 123)] (initSt ccontP.ps ((x0,(x1c0,x1c1,()),()))) =
  .need (((0:Int)≤x1c0∧x1c0≤(40:Int))∧(0:Int)≤x1c1∧x1c1≤(40:Int)) (.ret ((decide ((0:Int)≤idxOf (badP x1c0 x1c1) x0),()))):=by kernel_rfl
theorem ccontP_valid:ccontP.Valid Try.prog 123:=by
  refine Ctr.valid_of EcontP_ok rfl rfl Try.func123 (c:=bodyOf Try.prog 123) rfl rfl FcontP_ok rfl ?_
  rintro ⟨(l:List (PairD)),⟨(m:Int),(n:Int),⟨⟩⟩,⟨⟩⟩ hp -
  refine exec_sound (n:=1000) EcontP_ok FcontP_ok ?_
  refine holds_of_eq (EcontP_t l m n) ?_
  refine ⟨hp,fun _=>?_⟩
  show ((decide (0≤idxOf (badP m n) l),()):Bool×Unit)=(l.any (badP m n),())
  rw [idx_any]
def cmcheck:Ctr:={ ps:=[.v I64,.v I64,.v (.slc false PairT)],rs:=[I64],pre:=fun _=>True,fn:=fun x=>(mcheck x.1 x.2.1 x.2.2.1,()),out:=fun _=>() }
noncomputable def Emcheck:Env:={ P:=Try.prog,tt:=tt,ctr:=[(122,cminB),(123,ccontP)],res:=[Go.ResultVar.tmp 6],rs:=[Ty.int IntKind.i64],ps:=[PK.v (Ty.int IntKind.i64),PK.v (Ty.int IntKind.i64),PK.v (Ty.slc false PairT)],cuts:=[],nt:=24 }
theorem Emcheck_ok:EnvOk Emcheck:=envOk tt_ok ⟨cminB_valid,ccontP_valid,trivial⟩
theorem Fmcheck_ok:FnOk Emcheck Try.f76:=⟨rfl,rfl⟩
theorem Emcheck_t (x0:Int) (x1:Int) (x2:List (Int×Int×Unit)):exec Emcheck 1000 [.code (bodyOf Try.prog 76)] (initSt cmcheck.ps ((x0,x1,x2,()))) =
  .need (True) (cond (!inF x0 (0:Int) (40:Int)) (.ret (((1:Int),()))) (.need (True) (cond (!inF x1 (0:Int) (40:Int)) (.ret (((1:Int),()))) (cond (decide ((600:Int)<(↑(List.length x2):Int))) (.ret (((2:Int),()))) (.need (((0:Int)≤x0∧x0≤(40:Int))∧(0:Int)≤x1∧x1≤(40:Int)) (cond (List.any x2 (badP x0 x1)) (.ret (((4:Int),()))) (.ret (((0:Int),()))))))))):=by kernel_rfl
theorem cmcheck_valid:cmcheck.Valid Try.prog 76:=by
  refine Ctr.valid_of Emcheck_ok rfl rfl Try.func76 (c:=bodyOf Try.prog 76) rfl rfl Fmcheck_ok rfl ?_
  rintro ⟨(m:Int),(n:Int),(l:List PairD),⟨⟩⟩ - -
  refine exec_sound (n:=1000) Emcheck_ok Fmcheck_ok ?_
  refine holds_of_eq (Emcheck_t m n l) ?_
  simp only [holds_cond,Tree.holds,true_and,true_implies,decide_eq_true_eq,decide_eq_false_iff_not,Bool.not_eq_true',Bool.not_eq_false',Int.toNat_natCast,inK_i64,List.length_set,List.length_cons,List.length_nil]
  have bad:(inF m 0 40 && inF n 0 40)=false→(((1:Int),()):Int×Unit)=(mcheck m n l,()):=fun h=>by rw [mcheck,if_pos h]
  refine ⟨fun h=>bad (by rw [h]; rfl),fun h1=>⟨fun h=>bad (by rw [h1,h]; rfl),fun h2=>⟨fun h=>?_,fun h3=>⟨⟨inF_iff.1 h1,inF_iff.1 h2⟩,fun _=>⟨fun h=>?_,fun h=>?_⟩⟩⟩⟩⟩
  all_goals have hw:¬ (inF m 0 40 && inF n 0 40)=false:=by rw [h1,h2]; decide
  · show (((2:Int),()):Int×Unit)=(mcheck m n l,()); rw [mcheck,if_neg hw,if_pos (by omega)]
  · show (((4:Int),()):Int×Unit)=(mcheck m n l,()); rw [mcheck,if_neg hw,if_neg (by omega),if_pos h]
  · show (((0:Int),()):Int×Unit)=(mcheck m n l,()); rw [mcheck,if_neg hw,if_neg (by omega),if_neg (fun h9=>Bool.noConfusion (Eq.trans (Eq.symm h9) h))]
def cmul64:Ctr:={ ps:=[.v U64,.v U64],rs:=[U64,U64],pre:=fun x=>x.1=(show Ty.den U64 from (1:Int))∧LE.le (α:=Int) 0 x.2.1∧LE.le (α:=Int) x.2.1 40,fn:=fun x=>((show Ty.den U64 from (0:Int)),x.2.1,()),out:=fun _=>() }
noncomputable def Emul64:Env:={ P:=Try.prog,tt:=tt,ctr:=[],res:=[Go.ResultVar.tmp 4,Go.ResultVar.tmp 5],rs:=[Ty.int IntKind.u64,Ty.int IntKind.u64],ps:=[PK.v (Ty.int IntKind.u64),PK.v (Ty.int IntKind.u64)],cuts:=[],nt:=51 }
theorem Emul64_ok:EnvOk Emul64:=envOk tt_ok trivial
theorem Fmul64_ok:FnOk Emul64 Try.f169:=⟨rfl,rfl⟩
theorem Emul64_t (x0:Int) (x1:Int):exec Emul64 1000 [.code (bodyOf Try.prog 169)] (initSt cmul64.ps ((x0,x1,()))) =
  .need ((0:Int)≤(32:Int)) (.need ((0:Int)≤(32:Int)) (.need ((0:Int)≤(32:Int)) (.need ((0:Int)≤(32:Int)) (.need ((0:Int)≤(32:Int)) (.ret ((IntKind.wrap IntKind.u64 (IntKind.wrap IntKind.u64 (IntKind.wrap IntKind.u64 (x0 / (2:Int)^min (Int.toNat (32:Int)) (IntKind.bits IntKind.u64)*(x1 / (2:Int)^min (Int.toNat (32:Int)) (IntKind.bits IntKind.u64)))+IntKind.wrap IntKind.u64 (IntKind.wrap IntKind.u64 (x0 / (2:Int)^min (Int.toNat (32:Int)) (IntKind.bits IntKind.u64)*bAnd IntKind.u64 x1 (4294967295:Int))+IntKind.wrap IntKind.u64 (bAnd IntKind.u64 x0 (4294967295:Int)*bAnd IntKind.u64 x1 (4294967295:Int)) / (2:Int)^min (Int.toNat (32:Int)) (IntKind.bits IntKind.u64)) / (2:Int)^min (Int.toNat (32:Int)) (IntKind.bits IntKind.u64))+IntKind.wrap IntKind.u64 (bAnd IntKind.u64 (IntKind.wrap IntKind.u64 (IntKind.wrap IntKind.u64 (x0 / (2:Int)^min (Int.toNat (32:Int)) (IntKind.bits IntKind.u64)*bAnd IntKind.u64 x1 (4294967295:Int))+IntKind.wrap IntKind.u64 (bAnd IntKind.u64 x0 (4294967295:Int)*bAnd IntKind.u64 x1 (4294967295:Int)) / (2:Int)^min (Int.toNat (32:Int)) (IntKind.bits IntKind.u64))) (4294967295:Int)+IntKind.wrap IntKind.u64 (bAnd IntKind.u64 x0 (4294967295:Int)*(x1 / (2:Int)^min (Int.toNat (32:Int)) (IntKind.bits IntKind.u64)))) / (2:Int)^min (Int.toNat (32:Int)) (IntKind.bits IntKind.u64)),IntKind.wrap IntKind.u64 (x0*x1),()))))))):=by kernel_rfl
def mulE (y:Int):Int×Int:=(IntKind.wrap .u64 (IntKind.wrap .u64 (IntKind.wrap .u64 ((1:Int) / 2^min (Int.toNat 32) (IntKind.bits .u64)*(y / 2^min (Int.toNat 32) (IntKind.bits .u64)))+IntKind.wrap .u64 (IntKind.wrap .u64 ((1:Int) / 2^min (Int.toNat 32) (IntKind.bits .u64)*bAnd .u64 y 4294967295)+IntKind.wrap .u64 (bAnd .u64 1 4294967295*bAnd .u64 y 4294967295) / 2^min (Int.toNat 32) (IntKind.bits .u64)) / 2^min (Int.toNat 32) (IntKind.bits .u64))+IntKind.wrap .u64 (bAnd .u64 (IntKind.wrap .u64 (IntKind.wrap .u64 ((1:Int) / 2^min (Int.toNat 32) (IntKind.bits .u64)*bAnd .u64 y 4294967295)+IntKind.wrap .u64 (bAnd .u64 1 4294967295*bAnd .u64 y 4294967295) / 2^min (Int.toNat 32) (IntKind.bits .u64))) 4294967295+IntKind.wrap .u64 (bAnd .u64 1 4294967295*(y / 2^min (Int.toNat 32) (IntKind.bits .u64)))) / 2^min (Int.toNat 32) (IntKind.bits .u64)),IntKind.wrap .u64 (1*y))
theorem mulE_small:∀ k:Fin 41,mulE ((k.val:Nat):Int)=(0,((k.val:Nat):Int)):=by decide +kernel
theorem cmul64_valid:cmul64.Valid Try.prog 169:=by
  refine Ctr.valid_of Emul64_ok rfl rfl Try.func169 (c:=bodyOf Try.prog 169) rfl rfl Fmul64_ok rfl ?_
  rintro ⟨(x:Int),(y:Int),⟨⟩⟩ ⟨(hx:x=1),(h0:0≤y),(h1:y≤40)⟩ -
  subst hx
  refine exec_sound (n:=1000) Emul64_ok Fmul64_ok ?_
  refine holds_of_eq (Emul64_t 1 y) ?_
  have hm:=mulE_small ⟨y.toNat,by omega⟩
  rw [show (((⟨y.toNat,by omega⟩:Fin 41).val:Nat):Int)=y from Int.toNat_of_nonneg h0] at hm
  refine ⟨by decide,fun _=>⟨by decide,fun _=>⟨by decide,fun _=>⟨by decide,fun _=>⟨by decide,fun _=>?_⟩⟩⟩⟩⟩
  show (((mulE y).1,(mulE y).2,()):Int×Int×Unit)=(0,y,())
  rw [hm]
def cmul:Ctr:={ ps:=[.v U64,.v U64],rs:=[U64,U64],pre:=fun x=>x.1=(show Ty.den U64 from (1:Int))∧LE.le (α:=Int) 0 x.2.1∧LE.le (α:=Int) x.2.1 40,fn:=fun x=>((show Ty.den U64 from (0:Int)),x.2.1,()),out:=fun _=>() }
noncomputable def Emul:Env:={ P:=Try.prog,tt:=tt,ctr:=[(169,cmul64)],res:=[Go.ResultVar.tmp 4,Go.ResultVar.tmp 5],rs:=[Ty.int IntKind.u64,Ty.int IntKind.u64],ps:=[PK.v (Ty.int IntKind.u64),PK.v (Ty.int IntKind.u64)],cuts:=[],nt:=30 }
theorem Emul_ok:EnvOk Emul:=envOk tt_ok ⟨cmul64_valid,trivial⟩
theorem Fmul_ok:FnOk Emul Try.f147:=⟨rfl,rfl⟩
theorem Emul_t (x0:Int) (x1:Int):exec Emul 1000 [.code (bodyOf Try.prog 147)] (initSt cmul.ps ((x0,x1,()))) =
  .need (x0=(1:Int)∧(0:Int)≤x1∧x1≤(40:Int)) (.ret (((0:Int),x1,()))):=by kernel_rfl
theorem cmul_valid:cmul.Valid Try.prog 147:=by
  refine Ctr.valid_of Emul_ok rfl rfl Try.func147 (c:=bodyOf Try.prog 147) rfl rfl Fmul_ok rfl ?_
  rintro ⟨(x:Int),(y:Int),⟨⟩⟩ ⟨(hx:x=1),(h0:0≤y),(h1:y≤40)⟩ -
  refine exec_sound (n:=1000) Emul_ok Fmul_ok ?_
  refine holds_of_eq (Emul_t x y) ?_
  exact ⟨⟨hx,h0,h1⟩,fun _=>rfl⟩
def crep:Ctr:={ ps:=[.v (.slc false I64),.v I64],rs:=[Is],pre:=fun x=>List.length (α:=Int) x.1=1∧LE.le (α:=Int) 0 x.2.1∧LE.le (α:=Int) x.2.1 40,fn:=fun x=>(List.replicate (Int.toNat x.2.1) (List.getD (α:=Int) x.1 0 0),()),out:=fun _=>() }
noncomputable def Erep:Env:={ P:=Try.prog,tt:=tt,ctr:=[(147,cmul)],res:=[Go.ResultVar.tmp 4],rs:=[Ty.slc true (Ty.int IntKind.i64)],ps:=[PK.v (Ty.slc false (Ty.int IntKind.i64)),PK.v (Ty.int IntKind.i64)],cuts:=[(8,[(7,some Is),(8,none)])],nt:=48 }
theorem Erep_ok:EnvOk Erep:=envOk tt_ok ⟨cmul_valid,trivial⟩
theorem Frep_ok:FnOk Erep Try.f104:=⟨rfl,rfl⟩
theorem Erep_t (x0:List Int) (x1:Int):exec Erep 1000 [.code (bodyOf Try.prog 104)] (initSt crep.ps ((x0,x1,()))) =
  cond (decide (x1<(0:Int))) (.stuck "op") (.need (IntKind.wrap IntKind.u64 (↑(List.length x0):Int)=(1:Int)∧(0:Int)≤IntKind.wrap IntKind.u64 x1∧IntKind.wrap IntKind.u64 x1≤(40:Int)) (cond (decide ((9223372036854775807:Int)<IntKind.wrap IntKind.u64 x1)) (.stuck "op") (.need ((0:Int)≤IntKind.wrap IntKind.i64 (IntKind.wrap IntKind.u64 x1)∧IntKind.wrap IntKind.i64 (IntKind.wrap IntKind.u64 x1)≤IntKind.wrap IntKind.i64 (IntKind.wrap IntKind.u64 x1)∧IntKind.wrap IntKind.i64 (IntKind.wrap IntKind.u64 x1)≤(140737488355328:Int)∧IntKind.wrap IntKind.i64 (IntKind.wrap IntKind.u64 x1)*(↑(Ty.wb (Ty.int IntKind.i64)):Int)≤(140737488355328:Int)) (.cut (loopAt (bodyOf Try.prog 104) 8).1 (loopAt (bodyOf Try.prog 104) 8).2 (St.mk [(7,AV.at_ 1000007 []),(8,AV.val (Ty.int IntKind.i64) (↑(List.length (List.take (Int.toNat ((↑(List.length (List.replicate (Int.toNat (IntKind.wrap IntKind.i64 (IntKind.wrap IntKind.u64 x1))) (0:Int))):Int) - (0:Int))) x0)):Int))] [(1000007,Ent.own Is (List.take (Int.toNat (0:Int)) (List.replicate (Int.toNat (IntKind.wrap IntKind.i64 (IntKind.wrap IntKind.u64 x1))) (0:Int))++List.take (Int.toNat ((↑(List.length (List.replicate (Int.toNat (IntKind.wrap IntKind.i64 (IntKind.wrap IntKind.u64 x1))) (0:Int))):Int) - (0:Int))) x0++List.drop (Int.toNat (0:Int)+List.length (List.take (Int.toNat ((↑(List.length (List.replicate (Int.toNat (IntKind.wrap IntKind.i64 (IntKind.wrap IntKind.u64 x1))) (0:Int))):Int) - (0:Int))) x0)) (List.replicate (Int.toNat (IntKind.wrap IntKind.i64 (IntKind.wrap IntKind.u64 x1))) (0:Int))))]))))):=by kernel_rfl
def Erep_s8 (v8:Int) (o1000007:List Int):St:=St.mk [(7,AV.at_ 1000007 []),(8,AV.val (Ty.int IntKind.i64) v8)] [(1000007,Ent.own Is o1000007)]
theorem Erep_l8 (v8:Int) (o1000007:List Int):exec Erep 1000 (.code (loopAt (bodyOf Try.prog 104) 8).1::.inLoop (loopAt (bodyOf Try.prog 104) 8).1::(loopAt (bodyOf Try.prog 104) 8).2) (Erep_s8 v8 o1000007) =
  cond (decide (v8<(↑(List.length o1000007):Int))) (.need ((0:Int)≤v8∧v8≤(↑(List.length o1000007):Int)∧(↑(List.length o1000007):Int)≤(↑(List.length o1000007):Int)) (.need ((0:Int)≤(0:Int)∧(0:Int)≤v8∧v8≤(↑(List.length o1000007):Int)) (.need (inK IntKind.i64 (v8+(↑(List.length (List.take (Int.toNat ((↑(List.length o1000007):Int) - v8)) (cut2 (0:Int) v8 o1000007))):Int))) (.cut (loopAt (bodyOf Try.prog 104) 8).1 (loopAt (bodyOf Try.prog 104) 8).2 (St.mk [(7,AV.at_ 1000007 []),(8,AV.val (Ty.int IntKind.i64) (v8+(↑(List.length (List.take (Int.toNat ((↑(List.length o1000007):Int) - v8)) (cut2 (0:Int) v8 o1000007))):Int)))] [(1000007,Ent.own Is (List.take (Int.toNat v8) o1000007++List.take (Int.toNat ((↑(List.length o1000007):Int) - v8)) (cut2 (0:Int) v8 o1000007)++List.drop (Int.toNat v8+List.length (List.take (Int.toNat ((↑(List.length o1000007):Int) - v8)) (cut2 (0:Int) v8 o1000007))) o1000007))]))))) (.ret ((o1000007,()))):=by kernel_rfl
def flN (N c:Nat) (v:Int):List Int:=List.replicate c v++List.replicate (N - c) 0
theorem flN_step {N c:Nat} {v:Int} (hc:c≤N):List.take c (flN N c v)++List.take (N - c) (List.take c (flN N c v))++List.drop (c+(List.take (N - c) (List.take c (flN N c v))).length) (flN N c v)=flN N (c+min (N - c) c) v:=by
  have h1:List.take c (flN N c v)=List.replicate c v:=by rw [flN,List.take_append_of_le_length (by simp),List.take_of_length_le (by simp)]
  rw [h1,List.take_replicate,List.length_replicate,flN,flN,List.drop_append,List.drop_eq_nil_of_le (by simp),List.nil_append,List.length_replicate,List.drop_replicate,List.replicate_append_replicate]
  congr 2
  omega
theorem crep_valid:crep.Valid Try.prog 104:=by
  refine Ctr.valid_of Erep_ok rfl rfl Try.func104 (c:=bodyOf Try.prog 104) rfl rfl Frep_ok rfl ?_
  rintro ⟨(l:List Int),(n:Int),⟨⟩⟩ ⟨(hl:l.length=1),(h0:0≤n),(h1:n≤40)⟩ -
  obtain ⟨v,rfl⟩:∃ v,l=[v]:=by
    match l,hl with
    | [v],_=>exact ⟨v,rfl⟩
  obtain ⟨N,rfl⟩:∃ N:Nat,n=(N:Int):=⟨n.toNat,by omega⟩
  refine exec_sound (n:=1000) Erep_ok Frep_ok ?_
  refine holds_of_eq (Erep_t [v] (N:Int)) ?_
  have w1:IntKind.wrap .u64 (N:Int)=N:=wrap_same ⟨by show (0:Int)≤_; omega,by show (N:Int)≤18446744073709551615; omega⟩
  have w2:IntKind.wrap .i64 (N:Int)=N:=wrap_same ⟨by show (-9223372036854775808:Int)≤_; omega,by show (N:Int)≤9223372036854775807; omega⟩
  have w3:IntKind.wrap .u64 ((([v]:List Int).length:Nat):Int)=1:=by show IntKind.wrap .u64 (1:Int)=1; decide
  have w4:Ty.wb (.int .i64)=8:=rfl
  simp only [holds_cond,Tree.holds,true_and,true_implies,decide_eq_true_eq,decide_eq_false_iff_not,Bool.not_eq_true',Bool.not_eq_false',Int.toNat_natCast,inK_i64,List.length_set,List.length_cons,List.length_nil,w1,w2,w4]
  refine ⟨fun c=>by omega,fun _=>⟨⟨w3,by omega,by omega⟩,fun _=>⟨fun c=>by omega,fun _=>⟨by omega,fun _=>?_⟩⟩⟩⟩
  have loop:∀ c:Nat,(c≤N∧(N=0∨1≤c))→Go.Ex.Reach Erep Try.f104 (List.replicate N v,()) () (.code (loopAt (bodyOf Try.prog 104) 8).1::.inLoop (loopAt (bodyOf Try.prog 104) 8).1::(loopAt (bodyOf Try.prog 104) 8).2) (Erep_s8 (c:Int) (flN N c v)):=by
    refine Reach.loopI Erep_ok Frep_ok (fun c:Nat=>Erep_s8 (c:Int) (flN N c v)) (fun c=>c≤N∧(N=0∨1≤c)) (fun c=>N - c) 1000 (fun _=>⟨uniq_of rfl,uniq_of rfl⟩) ?_
    rintro c ⟨k1,k2⟩ - ih
    have hlen:(flN N c v).length=N:=by rw [flN,List.length_append,List.length_replicate,List.length_replicate]; omega
    have h1:List.take c (flN N c v)=List.replicate c v:=by rw [flN,List.take_append_of_le_length (by simp),List.take_of_length_le (by simp)]
    refine holds_of_eq (Erep_l8 ..) ?_
    have e1:cut2 0 (c:Int) (flN N c v)=List.take c (flN N c v):=by rw [cut2,Int.toNat_zero,List.drop_zero,show ((c:Int) - 0).toNat=c by omega]
    have e2:(((flN N c v).length:Int) - (c:Int)).toNat=N - c:=by omega
    have e3:(List.take (N - c) (List.take c (flN N c v))).length=min (N - c) c:=by rw [h1,List.length_take,List.length_replicate]
    have e4:=flN_step (v:=v) k1
    rw [e3] at e4
    simp only [holds_cond,Tree.holds,true_and,true_implies,decide_eq_true_eq,decide_eq_false_iff_not,Bool.not_eq_true',Bool.not_eq_false',Int.toNat_natCast,inK_i64,List.length_set,List.length_cons,List.length_nil,e1,e2,e3,e4]
    rw [hlen]
    refine ⟨fun a=>⟨by omega,fun _=>⟨by omega,fun _=>⟨by omega,fun _=>ih (c+min (N - c) c) ⟨by omega,by omega⟩ (by omega)⟩⟩⟩,fun a=>?_⟩
    show ((flN N c v,()):List Int×Unit)=(List.replicate N v,())
    rw [show c=N by omega,flN,Nat.sub_self,List.replicate_zero,List.append_nil]
  have hs:=loop (min N 1) ⟨by omega,by omega⟩
  have e5:List.take ((((List.replicate N (0:Int)).length:Nat):Int) - 0).toNat [v]=List.replicate (min N 1) v:=by
    rw [List.length_replicate,show ((N:Int) - 0).toNat=N by omega]
    cases N with
    | zero=>rfl
    | succ N=>rw [show min (N+1) 1=1 by omega]; simp
  have e6:List.take 0 (List.replicate N (0:Int))++List.replicate (min N 1) v++List.drop (0+(List.replicate (min N 1) v).length) (List.replicate N 0)=flN N (min N 1) v:=by
    rw [List.take_zero,List.nil_append,List.length_replicate,List.drop_replicate,Nat.zero_add]; rfl
  have hs2:=hs
  rw [← e6] at hs2
  rw [e5]
  rw [List.length_replicate] at hs2 ⊢
  exact hs2
def cs41:Ctr:=csearchK 41
end Go.Proofs.Ytegigiecamjobaa
