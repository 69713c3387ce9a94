/- The law SameLine: the walk. -/
import Derived.Test.YtgmbfnlhmnpciaaDoorSmE
namespace Go.Proofs.YtgmbfnlhmnpciaaDoor
open Go.Ex
set_option maxRecDepth 100000
theorem wb_str:Ty.wb .str=16:=rfl
theorem blk_l0:∀ l:List StrD,l.length≤bulkL (Ty.bulk .str) l
  | []=>by simp
  | y::l=>by
    have:bulkL (Ty.bulk .str) (y::l)=(List.length (α:=UInt8) y+1)+bulkL (Ty.bulk .str) l:=rfl
    have:=blk_l0 l
    rw [List.length_cons]; omega
theorem blk_len {l:List StrD}:bulkL (Ty.bulk .str) l≤1048576→l.length≤1048576∧∀ s∈l,s.length≤1048576:=by
  induction l with
  | nil=>intro _; exact ⟨by simp,by simp⟩
  | cons x l ih =>
    intro h
    have h:(List.length (α:=UInt8) x+1)+bulkL (Ty.bulk .str) l≤1048576:=h
    have h2:=blk_l0 l
    obtain ⟨h3,h4⟩:=ih (by omega)
    refine ⟨by rw [List.length_cons]; omega,fun s hs=>?_⟩
    rcases List.mem_cons.1 hs with rfl|hs
    · omega
    · exact h4 s hs
def ccloS:Ctr:={ ps:=[.v (.slc false .str)],rs:=[.slc true .str],pre:=fun x=>List.length (α:=(List UInt8)) x.1≤1048576,fn:=fun x=>x,out:=fun _=>() }
noncomputable def EcloS:Env:={ P:=Tryd.prog,tt:=tt,ctr:=[],res:=[Go.ResultVar.tmp 2],rs:=[Ty.slc true Ty.str],ps:=[PK.v (Ty.slc false Ty.str)],cuts:=[],nt:=8 }
def cSameLine:Ctr:=smallC [.slc false .str,.slc false I64]
noncomputable def ESameLine:Env:={ P:=Tryd.prog,tt:=tt,ctr:=[(17,cSwaps),(16,cRun),(18,ccloS),(11,crest)],res:=[Go.ResultVar.tmp 4],rs:=[Ty.bool],ps:=[PK.v (Ty.slc false Ty.str),PK.v (Ty.slc false (Ty.int IntKind.i64))],cuts:=[(6,[(0,none),(7,some (Ty.slc true Ty.str)),(26,none),(27,none),(28,none)])],nt:=87 }
def ESameLine_s6 (v0:List (List UInt8)) (v26:List Int) (v27:Int) (v28:Int) (o1000007:List (List UInt8)):St:=St.mk [(0,AV.val (Ty.slc false Ty.str) v0),(7,AV.at_ 1000007 []),(26,AV.val (Ty.slc false (Ty.int IntKind.i64)) v26),(27,AV.val (Ty.int IntKind.i64) v27),(28,AV.val (Ty.int IntKind.i64) v28)] [(1000007,Ent.own (Ty.slc true Ty.str) o1000007)]
abbrev vz:List Int:=[0,0,0,0,0,0,0,0,0,0]
end Go.Proofs.YtgmbfnlhmnpciaaDoor
