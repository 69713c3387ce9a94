/- Small contracts: Rest; search; what deleting leaves. No condition but those named. -/
import Derived.Test.YtgmbfnlhmnpciaaDoorUtil
namespace Go.Proofs.YtgmbfnlhmnpciaaDoor
open Go.Ex
set_option maxRecDepth 100000
def inF (n a b:Int):Bool:=decide (a≤n) && decide (n≤b)
theorem inF_iff {n a b:Int}:inF n a b=true↔a≤n∧n≤b:=by simp [inF]
def rest (a n:Int):Int:=if n≤0 then 0 else Int.tmod (Int.tmod a n+n) n
def crest:Ctr:={ ps:=[.v I64,.v I64],rs:=[I64],pre:=fun x=>LE.le (α:=Int) x.2.1 1000000000,fn:=fun x=>(rest x.1 x.2.1,()),out:=fun _=>() }
noncomputable def Erest:Env:={ P:=Tryd.prog,tt:=tt,ctr:=[],res:=[Go.ResultVar.tmp 4],rs:=[Ty.int IntKind.i64],ps:=[PK.v (Ty.int IntKind.i64),PK.v (Ty.int IntKind.i64)],cuts:=[],nt:=14 }
theorem Erest_ok:EnvOk Erest:=envOk tt_ok trivial
theorem Frest_ok:FnOk Erest Tryd.f11:=⟨rfl,rfl⟩
theorem Erest_t (x0:Int) (x1:Int):exec Erest 1000 [.code (bodyOf Tryd.prog 11)] (initSt crest.ps ((x0,x1,()))) =
  cond (decide (x1≤(0:Int))) (.ret (((0:Int),()))) (.need ((0:Int)<x1) (.need (inK IntKind.i64 (Int.tmod x0 x1+x1)) (.need ((0:Int)<x1) (.ret ((Int.tmod (Int.tmod x0 x1+x1) x1,())))))):=by kernel_rfl
theorem crest_valid:crest.Valid Tryd.prog 11:=by
  refine Ctr.valid_of Erest_ok rfl rfl Tryd.func11 (c:=bodyOf Tryd.prog 11) rfl rfl Frest_ok rfl ?_
  rintro ⟨(x0:Int),(x1:Int),⟨⟩⟩ hp -
  refine exec_sound (n:=1000) Erest_ok Frest_ok ?_
  refine holds_of_eq (Erest_t x0 x1) ?_
  have hp:x1≤1000000000:=hp
  simp only [holds_cond,Tree.holds,true_and,true_implies,decide_eq_true_eq,decide_eq_false_iff_not,Bool.not_eq_true',Bool.not_eq_false',Int.toNat_natCast,inK_i64,List.length_set,List.length_cons,List.length_nil]
  refine ⟨fun a=>?_,fun a=>?_⟩
  · show ((0,()):Int×Unit)=(rest x0 x1,())
    rw [rest,if_pos a]
  · have h0:0<x1:=by omega
    have h1:=Int.tmod_lt_of_pos x0 h0
    have h2:-x1<Int.tmod x0 x1:=by
      have:=Int.tmod_lt_of_pos (-x0) h0
      rw [Int.neg_tmod] at this
      omega
    refine ⟨h0,fun _=>⟨by omega,fun _=>⟨h0,fun _=>?_⟩⟩⟩
    show ((_,()):Int×Unit)=(rest x0 x1,())
    rw [rest,if_neg a]
theorem rest_in {a n:Int} (h:0<n):0≤rest a n∧rest a n<n:=by
  have h1:=Int.tmod_lt_of_pos (-a) h
  rw [Int.neg_tmod] at h1
  rw [rest,if_neg (by omega)]
  exact ⟨Int.tmod_nonneg _ (by omega),Int.tmod_lt_of_pos _ h⟩
def anyN (f:Nat→Bool):Nat→Bool
  | 0=>false
  | k+1=>anyN f k || f k
end Go.Proofs.YtgmbfnlhmnpciaaDoor
