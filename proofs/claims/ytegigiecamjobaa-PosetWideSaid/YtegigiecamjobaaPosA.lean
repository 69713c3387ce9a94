/- partkeep.isAhead: a closure as a result. No condition. -/
import Derived.Test.YtegigiecamjobaaMatchL
import Derived.Test.YtegigiecamjobaaPoset
namespace Go.Proofs.Ytegigiecamjobaa
open Go.Ex
set_option maxRecDepth 100000
def memP (q:PairD) (l:List PairD):Bool:=decide (q∈l)
def cahead1:Ctr:={ ps:=[.v I64,.v I64,.rd (.slc false PairT)],rs:=[.bool],pre:=fun _=>True,fn:=fun x=>(memP (x.1,x.2.1,()) x.2.2.1,()),out:=fun _=>() }
noncomputable def Eahead1:Env:={ P:=Try.prog,tt:=tt,ctr:=[(113,ccontPP)],res:=[Go.ResultVar.tmp 5],rs:=[Ty.bool],ps:=[PK.v (Ty.int IntKind.i64),PK.v (Ty.int IntKind.i64),PK.rd (Ty.slc false PairT)],cuts:=[],nt:=11 }
theorem Eahead1_ok:EnvOk Eahead1:=envOk tt_ok ⟨ccontPP_valid,trivial⟩
theorem Fahead1_ok:FnOk Eahead1 Try.f112:=⟨rfl,rfl⟩
theorem Eahead1_t (x0:Int) (x1:Int) (x2:List (Int×Int×Unit)):exec Eahead1 1000 [.code (bodyOf Try.prog 112)] (initSt cahead1.ps ((x0,x1,x2,()))) =
  .need (True) (.ret ((decide ((x0,x1,())∈x2),()))):=by kernel_rfl
theorem cahead1_valid:cahead1.Valid Try.prog 112:=by
  refine Ctr.valid_of Eahead1_ok rfl rfl Try.func112 (c:=bodyOf Try.prog 112) rfl rfl Fahead1_ok rfl ?_
  rintro ⟨(a:Int),(b:Int),(l:List PairD),⟨⟩⟩ - -
  refine exec_sound (n:=1000) Eahead1_ok Fahead1_ok ?_
  refine holds_of_eq (Eahead1_t a b l) ?_
  simp only [holds_cond,Tree.holds,true_and,true_implies,decide_eq_true_eq,decide_eq_false_iff_not,Bool.not_eq_true',Bool.not_eq_false',Int.toNat_natCast,inK_i64,List.length_set,List.length_cons,List.length_nil]
  rfl
def caheadO:Ctr:={ ps:=[.v Pos],rs:=[.box true (some 112) (.slc true PairT),.bool],pre:=fun _=>True,fn:=fun x=>(some (closeR x.1.1 x.1.2.1).1,decide ((closeR x.1.1 x.1.2.1).2.1=(0:Int)),()),out:=fun _=>() }
noncomputable def EaheadO:Env:={ P:=Try.prog,tt:=tt,ctr:=[(111,ccloseR)],res:=[Go.ResultVar.tmp 2,Go.ResultVar.tmp 3],rs:=[Ty.box true (some 112) (Ty.slc true PairT),Ty.bool],ps:=[PK.v (Ty.pair (Ty.int IntKind.i64) (Ty.pair (Ty.slc false PairT) Ty.unit))],cuts:=[],nt:=14 }
theorem EaheadO_ok:EnvOk EaheadO:=envOk tt_ok ⟨ccloseR_valid,trivial⟩
theorem FaheadO_ok:FnOk EaheadO Try.f60:=⟨rfl,rfl⟩
theorem EaheadO_t (x0_1:Int) (x0_2_1:List (Int×Int×Unit)):exec EaheadO 1000 [.code (bodyOf Try.prog 60)] (initSt caheadO.ps (((x0_1,x0_2_1,()),()))) =
  .need (True) (.ret ((some (Prod.fst (closeR x0_1 x0_2_1)),decide (Prod.fst (Prod.snd (closeR x0_1 x0_2_1))=(0:Int)),()))):=by kernel_rfl
theorem caheadO_valid:caheadO.Valid Try.prog 60:=by
  refine Ctr.valid_of EaheadO_ok rfl rfl Try.func60 (c:=bodyOf Try.prog 60) rfl rfl FaheadO_ok rfl ?_
  rintro ⟨⟨(n:Int),(l:List PairD),⟨⟩⟩,⟨⟩⟩ - -
  refine exec_sound (n:=1000) EaheadO_ok FaheadO_ok ?_
  refine holds_of_eq (EaheadO_t n l) ?_
  simp only [holds_cond,Tree.holds,true_and,true_implies,decide_eq_true_eq,decide_eq_false_iff_not,Bool.not_eq_true',Bool.not_eq_false',Int.toNat_natCast,inK_i64,List.length_set,List.length_cons,List.length_nil]
  rfl
def cahead:Ctr:={ ps:=[.v Pos],rs:=[.box false (some 112) (.slc false PairT),.bool],pre:=fun _=>True,fn:=fun x=>(some (closeR x.1.1 x.1.2.1).1,decide ((closeR x.1.1 x.1.2.1).2.1=(0:Int)),()),out:=fun _=>(),new:=true }
theorem cahead_valid:cahead.Valid Try.prog 60:=caheadO_valid.share (rs':=[.box false (some 112) (.slc false PairT),.bool]) rfl rfl rfl
end Go.Proofs.Ytegigiecamjobaa
