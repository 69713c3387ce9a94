/- LaneTwice: the walk. -/
import Derived.Test.YtegigiecamjobaaLaneE
namespace Go.Proofs.Ytegigiecamjobaa
open Go.Ex
set_option maxRecDepth 100000
def cLaneTwice:Ctr:={ ps:=[.v ToT,.v Parcel],rs:=[.bool],pre:=fun _=>True,fn:=fun _=>(true,()),out:=fun _=>() }
noncomputable def ELaneTwice:Env:={ P:=Try.prog,tt:=tt,ctr:=[(37,cltake),(39,ctoE),(38,csameTo)],res:=[Go.ResultVar.tmp 4],rs:=[Ty.bool],ps:=[PK.v (Ty.pair (Ty.int IntKind.i64) (Ty.pair (Ty.slc false (Ty.pair (Ty.int IntKind.i64) (Ty.pair Ty.str Ty.unit))) Ty.unit)),PK.v (Ty.pair (Ty.int IntKind.i64) (Ty.pair Ty.str Ty.unit))],cuts:=[],nt:=90 }
theorem ELaneTwice_ok:EnvOk ELaneTwice:=envOk tt_ok ⟨cltake_valid,ctoE_valid,csameTo_valid,trivial⟩
theorem FLaneTwice_ok:FnOk ELaneTwice Try.f9:=⟨rfl,rfl⟩
theorem ELaneTwice_t (x0_1:Int) (x0_2_1:List (Int×List UInt8×Unit)) (x1_1:Int) (x1_2_1:List UInt8):exec ELaneTwice 1000 [.code (bodyOf Try.prog 9)] (initSt cLaneTwice.ps (((x0_1,x0_2_1,()),(x1_1,x1_2_1,()),()))) =
  .need (True) (.need (True) (cond (decide (Prod.fst (Prod.snd (Prod.snd (ltake (x0_1,x0_2_1,()) (x1_1,x1_2_1,()))))≠(0:Int))) (.ret ((decide ((↑(List.length (Prod.fst (Prod.snd (ltake (x0_1,x0_2_1,()) (x1_1,x1_2_1,()))))):Int)=(0:Int)),()))) (cond (decide ((16777199:Int)<x0_1)) (.ret ((true,()))) (.need (True) (cond (decide (Prod.fst (Prod.snd (Prod.snd (ltake (Prod.fst (ltake (x0_1,x0_2_1,()) (x1_1,x1_2_1,()))) (x1_1,x1_2_1,()))))=(0:Int))) (cond (decide ((↑(List.length (Prod.fst (Prod.snd (ltake (Prod.fst (ltake (x0_1,x0_2_1,()) (x1_1,x1_2_1,()))) (x1_1,x1_2_1,()))))):Int)=(0:Int))) (.need (True) (cond (sameTo (Prod.fst (ltake (x0_1,x0_2_1,()) (x1_1,x1_2_1,()))) (Prod.fst (ltake (Prod.fst (ltake (x0_1,x0_2_1,()) (x1_1,x1_2_1,()))) (x1_1,x1_2_1,())))) (.need (True) (cond (decide (toE (Prod.fst (ltake (x0_1,x0_2_1,()) (x1_1,x1_2_1,())))=(0:Int))) (cond (decide (x0_1≤Prod.fst (Prod.fst (ltake (x0_1,x0_2_1,()) (x1_1,x1_2_1,()))))) (.need (inK IntKind.i64 (x0_1+(↑(List.length (Prod.fst (Prod.snd (ltake (x0_1,x0_2_1,()) (x1_1,x1_2_1,()))))):Int))) (.ret ((decide (Prod.fst (Prod.fst (ltake (x0_1,x0_2_1,()) (x1_1,x1_2_1,())))=x0_1+(↑(List.length (Prod.fst (Prod.snd (ltake (x0_1,x0_2_1,()) (x1_1,x1_2_1,()))))):Int)),())))) (.ret ((false,())))) (.ret ((false,()))))) (.ret ((false,()))))) (.ret ((false,())))) (.ret ((false,())))))))):=by kernel_rfl
theorem cLaneTwice_valid:cLaneTwice.Valid Try.prog 9:=by
  refine Ctr.valid_of ELaneTwice_ok rfl rfl Try.func9 (c:=bodyOf Try.prog 9) rfl rfl FLaneTwice_ok rfl ?_
  rintro ⟨⟨(r:Int),(l:List ParcelD),⟨⟩⟩,⟨(q:Int),(x:List UInt8),⟨⟩⟩,⟨⟩⟩ - -
  refine exec_sound (n:=1000) ELaneTwice_ok FLaneTwice_ok ?_
  refine holds_of_eq (ELaneTwice_t r l q x) ?_
  have hz:=ltake_err (s:=(r,l,())) (p:=(q,x,()))
  have ht:=fun h0 hr=>ltake_twice (r:=r) (l:=l) (p:=(q,x,())) h0 hr
  simp only [holds_cond,Tree.holds,true_and,true_implies,decide_eq_true_eq,decide_eq_false_iff_not,Bool.not_eq_true',Bool.not_eq_false',Int.toNat_natCast,inK_i64,List.length_set,List.length_cons,List.length_nil]
  generalize ltake (r,l,()) (q,x,())=A at *
  refine ⟨fun a=>yesd (by rw [hz a]; rfl),fun a=>⟨fun _=>rfl,fun c=>?_⟩⟩
  obtain ⟨e1,e2,e3,e4⟩:=ht (Decidable.not_not.1 a) (by omega)
  rw [e2]
  have hs:sameTo A.1 A.1=true:=by simp [sameTo]
  have hrl:=(toE_iff (r:=A.1.1) (l:=A.1.2.1) (u:=A.1.2.2)).1 e1
  have:=hrl.rg
  refine ⟨fun _=>⟨fun _=>⟨fun _=>⟨fun _=>⟨fun _=>⟨?_,fun _=>yesd e4⟩,fun h=>absurd e3 h⟩,fun h=>absurd e1 h⟩,fun h=>absurd (h.symm.trans hs) (by decide)⟩,fun h=>absurd rfl h⟩,fun h=>absurd rfl h⟩
  rw [← e4]; exact ⟨by omega,by omega⟩
end Go.Proofs.Ytegigiecamjobaa
