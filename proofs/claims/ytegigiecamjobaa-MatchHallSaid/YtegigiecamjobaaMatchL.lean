/- Pairs: equality, search; matchings. No condition but those named. -/
import Derived.Test.YtegigiecamjobaaMatchX
namespace Go.Proofs.Ytegigiecamjobaa
open Go.Ex
set_option maxRecDepth 100000
def cidxPP:Ctr:={ ps:=[.v (.slc false PairT),.v PairT],rs:=[I64],pre:=fun _=>True,fn:=fun x=>(idxOf (fun y=>decide ((show PairD from x.2.1)=y)) x.1,()),out:=fun _=>() }
noncomputable def EidxPP:Env:={ P:=Try.prog,tt:=tt,ctr:=[],res:=[Go.ResultVar.tmp 4],rs:=[Ty.int IntKind.i64],ps:=[PK.v (Ty.slc false PairT),PK.v PairT],cuts:=[(2,[(0,none),(3,none),(7,none),(8,none)])],nt:=19 }
def EidxPP_s2 (v0:List (Int×Int×Unit)) (v7:Int) (v8:Int) (o3_1:Int) (o3_2_1:Int):St:=St.mk [(0,AV.val (Ty.slc false PairT) v0),(3,AV.ptr 3 []),(7,AV.val (Ty.int IntKind.i64) v7),(8,AV.val (Ty.int IntKind.i64) v8)] [(3,Ent.var PairT (o3_1,o3_2_1,()))]
def ccontPP:Ctr:={ ps:=[.v (.slc false PairT),.v PairT],rs:=[.bool],pre:=fun _=>True,fn:=fun x=>(decide ((show PairD from x.2.1)∈(show List (PairD) from x.1)),()),out:=fun _=>() }
noncomputable def EcontPP:Env:={ P:=Try.prog,tt:=tt,ctr:=[(150,cidxPP)],res:=[Go.ResultVar.tmp 4],rs:=[Ty.bool],ps:=[PK.v (Ty.slc false PairT),PK.v PairT],cuts:=[],nt:=9 }
theorem Match.nil (l:List PairD):Match l []:=⟨by simp,List.Pairwise.nil,List.Pairwise.nil⟩
theorem Match.add {l Q:List PairD} (h:Match l Q) {q:PairD} (hq:q∈l) (h1:∀ p∈Q,p.1≠q.1) (h2:∀ p∈Q,p.2.1≠q.2.1):Match l (Q++[q]):=by
  refine ⟨fun p hp=>?_,List.pairwise_append.2 ⟨h.one,by simp,fun p hp r hr=>?_⟩,List.pairwise_append.2 ⟨h.two,by simp,fun p hp r hr=>?_⟩⟩
  · rcases List.mem_append.1 hp with h9|h9
    · exact h.sub p h9
    · rw [List.mem_singleton] at h9; rw [h9]; exact hq
  · rw [List.mem_singleton] at hr; rw [hr]; exact h1 p hp
  · rw [List.mem_singleton] at hr; rw [hr]; exact h2 p hp
end Go.Proofs.Ytegigiecamjobaa
