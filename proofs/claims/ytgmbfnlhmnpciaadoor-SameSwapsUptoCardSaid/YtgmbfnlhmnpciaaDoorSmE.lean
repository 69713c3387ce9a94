/- The laws on the package same: the walks. -/
import Derived.Test.YtgmbfnlhmnpciaaDoorSmP
namespace Go.Proofs.YtgmbfnlhmnpciaaDoor
open Go.Ex
set_option maxRecDepth 100000
def cSameSwaps:Ctr:=smallC [Vals,.str,.str]
noncomputable def ESameSwaps:Env:={ P:=Tryd.prog,tt:=tt,ctr:=[(16,cRun),(17,cSwaps)],res:=[Go.ResultVar.tmp 6],rs:=[Ty.bool],ps:=[PK.v (Ty.arr 10 (Ty.int IntKind.i64)),PK.v Ty.str,PK.v Ty.str],cuts:=[],nt:=50 }
theorem ESameSwaps_ok:EnvOk ESameSwaps:=envOk tt_ok ⟨cRun_valid,cSwaps_valid,trivial⟩
theorem FSameSwaps_ok:FnOk ESameSwaps Tryd.f7:=⟨rfl,rfl⟩
theorem ESameSwaps_t (x0:List Int) (x1:List UInt8) (x2:List UInt8):exec ESameSwaps 1000 [.code (bodyOf Tryd.prog 7)] (initSt cSameSwaps.ps ((x0,x1,x2,()))) =
  .need (List.length (Array.toList (ByteArray.data (ByteArray.mk #[(115:UInt8),(101:UInt8),(116:UInt8),(32:UInt8),(49:UInt8),(32:UInt8),(50:UInt8)])))≤4294967280∧List.length (Array.toList (ByteArray.data (ByteArray.mk #[(115:UInt8),(101:UInt8),(116:UInt8),(32:UInt8),(49:UInt8),(32:UInt8),(51:UInt8)])))≤4294967280) (.need (List.length (Array.toList (ByteArray.data (ByteArray.mk #[(115:UInt8),(101:UInt8),(116:UInt8),(32:UInt8),(49:UInt8),(32:UInt8),(50:UInt8)])))≤4294967280∧List.length (Array.toList (ByteArray.data (ByteArray.mk #[(115:UInt8),(101:UInt8),(116:UInt8),(32:UInt8),(50:UInt8),(32:UInt8),(51:UInt8)])))≤4294967280) (.need (∀ (s:StrD),s∈List.set (List.set [[],[]] (Int.toNat (↑0:Int)) x1) (Int.toNat (↑1:Int)) x2→List.length s≤4294967280) (.need (∀ (s:StrD),s∈List.set (List.set [[],[]] (Int.toNat (↑0:Int)) x2) (Int.toNat (↑1:Int)) x1→List.length s≤4294967280) (.need (List.length x1≤4294967280∧List.length x2≤4294967280) (.need (List.length x2≤4294967280∧List.length x1≤4294967280) (cond (swapsF x1 x2 == swapsF x2 x1) (.need (List.length x1≤4294967280∧List.length x2≤4294967280) (cond (!swapsF x1 x2) (.ret ((true,()))) (.ret ((eqD (Ty.arr 10 I64) (Prod.fst (runAll x0 (List.set (List.set [[],[]] (Int.toNat (↑0:Int)) x1) (Int.toNat (↑1:Int)) x2))) (Prod.fst (runAll x0 (List.set (List.set [[],[]] (Int.toNat (↑0:Int)) x2) (Int.toNat (↑1:Int)) x1))),()))))) (.ret ((false,()))))))))):=by kernel_rfl
theorem eqDL_iff:∀ {l m:List Int},eqD.eqDL (fun x y:Int=>decide (x=y)) l m=true↔l=m
  | [],[]=>by simp [eqD.eqDL]
  | [],_::_=>by simp [eqD.eqDL]
  | _::_,[]=>by simp [eqD.eqDL]
  | x::l,y::m=>by
    rw [eqD.eqDL,Bool.and_eq_true,decide_eq_true_eq,eqDL_iff,List.cons.injEq]
theorem arr_eq {a b:List Int}:eqD (.arr 10 I64) a b=true↔a=b:=eqDL_iff
theorem cSameSwaps_valid:cSameSwaps.Valid Tryd.prog 7:=by
  refine Ctr.valid_of ESameSwaps_ok rfl rfl Tryd.func7 (c:=bodyOf Tryd.prog 7) rfl rfl FSameSwaps_ok rfl ?_
  rintro ⟨(v:List Int),(a:List UInt8),(b:List UInt8),⟨⟩⟩ hp ⟨⟨(hl:v.length=10),-⟩,-⟩
  have hb:bulkK [Vals,.str,.str] (v,a,b,())≤1048576:=hp
  have hs:bulkK [Vals,.str,.str] (v,a,b,())=Ty.bulk Vals v+((a.length+1)+((b.length+1)+0)):=rfl
  have ha:a.length≤4294967280:=by omega
  have hb:b.length≤4294967280:=by omega
  refine exec_sound (n:=1000) ESameSwaps_ok FSameSwaps_ok ?_
  refine holds_of_eq (ESameSwaps_t v a b) ?_
  have h2:∀ s∈(show List StrD from [a,b]),s.length≤4294967280:=fun s hs=>by
    rcases List.mem_cons.1 hs with rfl|hs
    · exact ha
    · rw [List.mem_singleton] at hs; rw [hs]; exact hb
  have h3:∀ s∈(show List StrD from [b,a]),s.length≤4294967280:=fun s hs=>by
    rcases List.mem_cons.1 hs with rfl|hs
    · exact hb
    · rw [List.mem_singleton] at hs; rw [hs]; exact ha
  have hc:=swaps_comm a b
  simp only [holds_cond,Tree.holds,true_and,true_implies,decide_eq_true_eq,decide_eq_false_iff_not,Bool.not_eq_true',Bool.not_eq_false',Int.toNat_natCast,inK_i64,List.length_set,List.length_cons,List.length_nil]
  refine ⟨by decide,fun _=>⟨by decide,fun _=>⟨h2,fun _=>⟨h3,fun _=>⟨⟨ha,hb⟩,fun _=>⟨⟨hb,ha⟩,fun _=>⟨fun _=>⟨⟨ha,hb⟩,fun _=>⟨fun _=>rfl,fun e=>?_⟩⟩,fun e=>?_⟩⟩⟩⟩⟩⟩⟩
  · have e9:(runAll v [a,b]).1=(runAll v [b,a]).1:=congrArg Prod.fst (swaps_step e (p:=(v,0)) hl)
    exact congrArg (fun x:Bool=>((x,()):Bool×Unit)) (arr_eq.2 e9)
  · rw [hc] at e; simp at e
end Go.Proofs.YtgmbfnlhmnpciaaDoor
