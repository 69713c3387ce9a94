/- Pairs: equality, search; matchings. No condition but those named. -/
import Derived.Test.YtegigiecamjobaaMatchX
namespace Go.Proofs.Ytegigiecamjobaa
open Go.Ex
set_option maxRecDepth 100000
theorem eqPairP {a b:PairD}:eqD (Ty.pair (Ty.int IntKind.i64) (Ty.pair (Ty.int IntKind.i64) Ty.unit)) a b=true↔a=b:=by
  obtain ⟨a1,a2,a3⟩:=a
  obtain ⟨b1,b2,b3⟩:=b
  show (decide (a1=b1) && (decide (a2=b2) && decide ((a3:Unit)=b3)))=true↔_
  rw [Bool.and_eq_true,Bool.and_eq_true,decide_eq_true_eq,decide_eq_true_eq]
  constructor
  · rintro ⟨rfl,rfl,_⟩; rfl
  · intro h; cases h; exact ⟨rfl,rfl,by simp⟩
theorem eqPairN {a b:PairD} (d:eqD (Ty.pair (Ty.int IntKind.i64) (Ty.pair (Ty.int IntKind.i64) Ty.unit)) a b=false):¬ a=b:=fun h=>by rw [eqPairP.2 h] at d; cases d
def cidxPP:Ctr:={ ps:=[.v (.slc false PairT),.v PairT],rs:=[I64],pre:=fun _=>True,fn:=fun x=>(idxOf (fun y=>decide ((show PairD from x.2.1)=y)) x.1,()),out:=fun _=>() }
noncomputable def EidxPP:Env:={ P:=Try.prog,tt:=tt,ctr:=[],res:=[Go.ResultVar.tmp 4],rs:=[Ty.int IntKind.i64],ps:=[PK.v (Ty.slc false PairT),PK.v PairT],cuts:=[(2,[(0,none),(3,none),(7,none),(8,none)])],nt:=19 }
theorem EidxPP_ok:EnvOk EidxPP:=envOk tt_ok trivial
theorem FidxPP_ok:FnOk EidxPP Try.f150:=⟨rfl,rfl⟩
theorem EidxPP_t (x0:List (Int×Int×Unit)) (x1_1:Int) (x1_2_1:Int):exec EidxPP 1000 [.code (bodyOf Try.prog 150)] (initSt cidxPP.ps ((x0,(x1_1,x1_2_1,()),()))) =
  .cut (loopAt (bodyOf Try.prog 150) 2).1 (loopAt (bodyOf Try.prog 150) 2).2 (St.mk [(0,AV.val (Ty.slc false PairT) x0),(3,AV.ptr 3 []),(7,AV.val (Ty.int IntKind.i64) (↑(List.length x0):Int)),(8,AV.val (Ty.int IntKind.i64) (0:Int))] [(3,Ent.var PairT (x1_1,x1_2_1,()))]):=by kernel_rfl
def EidxPP_s2 (v0:List (Int×Int×Unit)) (v7:Int) (v8:Int) (o3_1:Int) (o3_2_1:Int):St:=St.mk [(0,AV.val (Ty.slc false PairT) v0),(3,AV.ptr 3 []),(7,AV.val (Ty.int IntKind.i64) v7),(8,AV.val (Ty.int IntKind.i64) v8)] [(3,Ent.var PairT (o3_1,o3_2_1,()))]
theorem EidxPP_l2 (v0:List (Int×Int×Unit)) (v7:Int) (v8:Int) (o3_1:Int) (o3_2_1:Int):exec EidxPP 1000 (.code (loopAt (bodyOf Try.prog 150) 2).1::.inLoop (loopAt (bodyOf Try.prog 150) 2).1::(loopAt (bodyOf Try.prog 150) 2).2) (EidxPP_s2 v0 v7 v8 o3_1 o3_2_1) =
  cond (decide (v8<v7)) (.need ((0:Int)≤v8∧v8<(↑(List.length v0):Int)) (cond (eqD PairT (o3_1,o3_2_1,()) (List.getD v0 (Int.toNat v8) ((0:Int),(0:Int),()))) (.ret ((v8,()))) (.need (inK IntKind.i64 (v8+(1:Int))) (.cut (loopAt (bodyOf Try.prog 150) 2).1 (loopAt (bodyOf Try.prog 150) 2).2 (St.mk [(0,AV.val (Ty.slc false PairT) v0),(3,AV.ptr 3 []),(7,AV.val (Ty.int IntKind.i64) v7),(8,AV.val (Ty.int IntKind.i64) (v8+(1:Int)))] [(3,Ent.var PairT (o3_1,o3_2_1,()))]))))) (.ret (((-1:Int),()))):=by kernel_rfl
theorem cidxPP_valid:cidxPP.Valid Try.prog 150:=by
  refine Ctr.valid_of EidxPP_ok rfl rfl Try.func150 (c:=bodyOf Try.prog 150) rfl rfl FidxPP_ok rfl ?_
  rintro ⟨(l:List (PairD)),(x:PairD),⟨⟩⟩ - ⟨⟨hl,-⟩,-⟩
  have hl:l.length≤9223372036854775807:=hl
  refine exec_sound (n:=1000) EidxPP_ok FidxPP_ok ?_
  refine holds_of_eq (EidxPP_t l x.1 x.2.1) ?_
  refine Reach.loopI EidxPP_ok FidxPP_ok (fun i:Nat=>EidxPP_s2 l  (l.length:Int) (i:Int) x.1 x.2.1) (fun i=>i≤l.length∧idxOf (fun y=>decide (x=y)) l=idxGo (fun y=>decide (x=y)) (l.drop i) i)
    (fun i=>l.length - i) 1000 (fun _=>⟨uniq_of rfl,uniq_of rfl⟩) ?_ 0 ⟨by omega,rfl⟩
  rintro i ⟨k1,k2⟩ - ih
  refine holds_of_eq (EidxPP_l2 ..) ?_
  simp only [holds_cond,Tree.holds,true_and,true_implies,decide_eq_true_eq,decide_eq_false_iff_not,Bool.not_eq_true',Bool.not_eq_false',Int.toNat_natCast,inK_i64,List.length_set,List.length_cons,List.length_nil]
  refine ⟨fun h=>?_,fun h=>?_⟩
  · rw [drop_getD (show i<l.length by omega) (0,0,()),idxGo] at k2
    have key:∀ b:Bool,(b=true↔x=l.getD i (0,0,()))→(b=true→(((i:Int),()):Int×Unit)=(idxOf (fun y=>decide (x=y)) l,()))∧(b=false→idxOf (fun y=>decide (x=y)) l=idxGo (fun y=>decide (x=y)) (l.drop (i+1)) (i+1)):=fun b hb=>by
      refine ⟨fun c=>?_,fun c=>?_⟩
      · rw [k2,if_pos (decide_eq_true (hb.1 c))]
      · rw [k2,if_neg (fun h9=>by rw [hb.2 (of_decide_eq_true h9)] at c; cases c)]
    refine ⟨by omega,fun _=>⟨fun c=>?_,fun c=>⟨by omega,fun _=>ih (i+1) ⟨by omega,?_⟩ (by omega)⟩⟩⟩
    · exact (key true ⟨fun _=>eqPairP.1 c,fun _=>rfl⟩).1 rfl
    · exact (key false ⟨fun h9=>(by cases h9),fun h9=>(eqPairN c h9).elim⟩).2 rfl
  · rw [List.drop_eq_nil_of_le (by omega)] at k2
    show (((-1:Int),()):Int×Unit)=(idxOf (fun y=>decide (x=y)) l,())
    rw [k2]; rfl
def ccontPP:Ctr:={ ps:=[.v (.slc false PairT),.v PairT],rs:=[.bool],pre:=fun _=>True,fn:=fun x=>(decide ((show PairD from x.2.1)∈(show List (PairD) from x.1)),()),out:=fun _=>() }
noncomputable def EcontPP:Env:={ P:=Try.prog,tt:=tt,ctr:=[(150,cidxPP)],res:=[Go.ResultVar.tmp 4],rs:=[Ty.bool],ps:=[PK.v (Ty.slc false PairT),PK.v PairT],cuts:=[],nt:=9 }
theorem EcontPP_ok:EnvOk EcontPP:=envOk tt_ok ⟨cidxPP_valid,trivial⟩
theorem FcontPP_ok:FnOk EcontPP Try.f113:=⟨rfl,rfl⟩
theorem EcontPP_t (x0:List (Int×Int×Unit)) (x1_1:Int) (x1_2_1:Int):exec EcontPP 1000 [.code (bodyOf Try.prog 113)] (initSt ccontPP.ps ((x0,(x1_1,x1_2_1,()),()))) =
  .need (True) (.ret ((decide ((0:Int)≤idxOf (fun y=>decide ((x1_1,x1_2_1,())=y)) x0),()))):=by kernel_rfl
theorem ccontPP_valid:ccontPP.Valid Try.prog 113:=by
  refine Ctr.valid_of EcontPP_ok rfl rfl Try.func113 (c:=bodyOf Try.prog 113) rfl rfl FcontPP_ok rfl ?_
  rintro ⟨(l:List (PairD)),(x:PairD),⟨⟩⟩ - -
  refine exec_sound (n:=1000) EcontPP_ok FcontPP_ok ?_
  refine holds_of_eq (EcontPP_t l x.1 x.2.1) ?_
  refine ⟨trivial,fun _=>?_⟩
  show ((decide (0≤idxOf (fun y=>decide (x=y)) l),()):Bool×Unit)=(decide (x∈l),())
  rw [idx_any]
  have:l.any (fun y=>decide (x=y))=true↔x∈l:=by
    rw [List.any_eq_true]
    exact ⟨fun ⟨y,h1,h2⟩=>by rw [of_decide_eq_true h2]; exact h1,fun h=>⟨x,h,decide_eq_true rfl⟩⟩
  cases e:l.any (fun y=>decide (x=y)) with
  | true=>rw [decide_eq_true (this.1 e)]
  | false=>rw [decide_eq_false (fun h=>by rw [this.2 h] at e; cases e)]
theorem Match.nil (l:List PairD):Match l []:=⟨by simp,List.Pairwise.nil,List.Pairwise.nil⟩
theorem Match.add {l Q:List PairD} (h:Match l Q) {q:PairD} (hq:q∈l) (h1:∀ p∈Q,p.1≠q.1) (h2:∀ p∈Q,p.2.1≠q.2.1):Match l (Q++[q]):=by
  refine ⟨fun p hp=>?_,List.pairwise_append.2 ⟨h.one,by simp,fun p hp r hr=>?_⟩,List.pairwise_append.2 ⟨h.two,by simp,fun p hp r hr=>?_⟩⟩
  · rcases List.mem_append.1 hp with h9|h9
    · exact h.sub p h9
    · rw [List.mem_singleton] at h9; rw [h9]; exact hq
  · rw [List.mem_singleton] at hr; rw [hr]; exact h1 p hp
  · rw [List.mem_singleton] at hr; rw [hr]; exact h2 p hp
end Go.Proofs.Ytegigiecamjobaa
