/- match.Most. No condition. -/
import Derived.Test.YtegigiecamjobaaMatchK
namespace Go.Proofs.Ytegigiecamjobaa
open Go.Ex
set_option maxRecDepth 100000
def outP (left:List Int):Nat→List PairD
  | 0=>[]
  | a+1=>if 0≤idxOf (fun y=>decide ((a:Int)=y)) left then outP left a++[((a:Int),idxOf (fun y=>decide ((a:Int)=y)) left,())] else outP left a
def mostR (m n:Int) (l:List PairD):List PairD×Int×Unit:=if mcheck m n l≠0 then ([],mcheck m n l,()) else (outP (mostF m n l).2.1 m.toNat,0,())
theorem outP_len {left:List Int}:∀ a,(outP left a).length≤a
  | 0=>by simp [outP]
  | a+1=>by
    have:=outP_len (left:=left) a
    rw [outP]
    split
    · rw [List.length_append,List.length_singleton]; omega
    · omega
theorem mcheck_ok {m n:Int} {l:List PairD} (h:mcheck m n l=0):inP m n l∧l.length≤600:=by
  rw [mcheck] at h
  split at h
  · cases h
  rename_i a
  split at h
  · cases h
  rename_i b
  split at h
  · cases h
  rename_i c
  have a:inF m 0 40=true∧inF n 0 40=true:=by simpa using a
  refine ⟨⟨inF_iff.1 a.1,inF_iff.1 a.2,fun q hq=>?_⟩,by omega⟩
  have c:l.any (badP m n)=false:=by simpa using c
  have:=List.any_eq_false.1 c q hq
  simp only [badP,Bool.or_eq_true,Bool.not_eq_true',not_or,Bool.not_eq_false,inF_iff] at this
  omega
def cmostR:Ctr:={ ps:=[.v I64,.v I64,.v (.slc false PairT)],rs:=[.slc true PairT,I64],pre:=fun _=>True,fn:=fun x=>mostR x.1 x.2.1 x.2.2.1,out:=fun _=>() }
noncomputable def EmostR:Env:={ P:=Try.prog,tt:=tt,ctr:=[(76,cmcheck),(77,cmost),(78,cidxI)],res:=[Go.ResultVar.tmp 6,Go.ResultVar.tmp 7],rs:=[Ty.slc true PairT,Ty.int IntKind.i64],ps:=[PK.v (Ty.int IntKind.i64),PK.v (Ty.int IntKind.i64),PK.v (Ty.slc false PairT)],cuts:=[(7,[(9,none),(10,some (Ty.slc true PairT)),(24,none),(25,none)])],nt:=44 }
theorem EmostR_ok:EnvOk EmostR:=envOk tt_ok ⟨cmcheck_valid,cmost_valid,cidxI_valid,trivial⟩
theorem FmostR_ok:FnOk EmostR Try.f31:=⟨rfl,rfl⟩
theorem EmostR_t (x0:Int) (x1:Int) (x2:List (Int×Int×Unit)):exec EmostR 1000 [.code (bodyOf Try.prog 31)] (initSt cmostR.ps ((x0,x1,x2,()))) =
  .need (True) (cond (decide (mcheck x0 x1 x2≠(0:Int))) (.ret (([],mcheck x0 x1 x2,()))) (.need (inP x0 x1 x2) (.cut (loopAt (bodyOf Try.prog 31) 7).1 (loopAt (bodyOf Try.prog 31) 7).2 (St.mk [(9,AV.ptr 1023 []),(10,AV.at_ 1000010 []),(24,AV.val (Ty.int IntKind.i64) x0),(25,AV.val (Ty.int IntKind.i64) (0:Int))] [(1023,Ent.var (Ty.pair (Ty.slc false (Ty.slc false Ty.bool)) (Ty.pair Is (Ty.pair (Ty.slc true Ty.bool) Ty.unit))) (mostF x0 x1 x2)),(1000010,Ent.own (Ty.slc true PairT) [])])))):=by kernel_rfl
def EmostR_s7 (v24:Int) (v25:Int) (o1023_1:List (List Bool)) (o1023_2_1:List Int) (o1023_2_2_1:List Bool) (o1000010:List (Int×Int×Unit)):St:=St.mk [(9,AV.ptr 1023 []),(10,AV.at_ 1000010 []),(24,AV.val (Ty.int IntKind.i64) v24),(25,AV.val (Ty.int IntKind.i64) v25)] [(1023,Ent.var (Ty.pair (Ty.slc false (Ty.slc false Ty.bool)) (Ty.pair Is (Ty.pair (Ty.slc true Ty.bool) Ty.unit))) (o1023_1,o1023_2_1,o1023_2_2_1,())),(1000010,Ent.own (Ty.slc true PairT) o1000010)]
theorem EmostR_l7 (v24:Int) (v25:Int) (o1023_1:List (List Bool)) (o1023_2_1:List Int) (o1023_2_2_1:List Bool) (o1000010:List (Int×Int×Unit)):exec EmostR 1000 (.code (loopAt (bodyOf Try.prog 31) 7).1::.inLoop (loopAt (bodyOf Try.prog 31) 7).1::(loopAt (bodyOf Try.prog 31) 7).2) (EmostR_s7 v24 v25 o1023_1 o1023_2_1 o1023_2_2_1 o1000010) =
  cond (decide (v25<v24)) (.need (True) (cond (decide ((0:Int)≤idxOf (fun y=>decide (v25=y)) o1023_2_1)) (.need (List.length o1000010+List.length (List.set [((0:Int),(0:Int),())] (Int.toNat (↑0:Int)) (v25,idxOf (fun y=>decide (v25=y)) o1023_2_1,()))≤140737488355328∧(List.length o1000010+List.length (List.set [((0:Int),(0:Int),())] (Int.toNat (↑0:Int)) (v25,idxOf (fun y=>decide (v25=y)) o1023_2_1,())))*Ty.wb PairT≤140737488355328) (.need (inK IntKind.i64 (v25+(1:Int))) (.cut (loopAt (bodyOf Try.prog 31) 7).1 (loopAt (bodyOf Try.prog 31) 7).2 (St.mk [(9,AV.ptr 1023 []),(10,AV.at_ 1000010 []),(24,AV.val (Ty.int IntKind.i64) v24),(25,AV.val (Ty.int IntKind.i64) (v25+(1:Int)))] [(1023,Ent.var (Ty.pair (Ty.slc false (Ty.slc false Ty.bool)) (Ty.pair Is (Ty.pair (Ty.slc true Ty.bool) Ty.unit))) (o1023_1,o1023_2_1,o1023_2_2_1,())),(1000010,Ent.own (Ty.slc true PairT) (o1000010++List.set [((0:Int),(0:Int),())] (Int.toNat (↑0:Int)) (v25,idxOf (fun y=>decide (v25=y)) o1023_2_1,())))])))) (.need (inK IntKind.i64 (v25+(1:Int))) (.cut (loopAt (bodyOf Try.prog 31) 7).1 (loopAt (bodyOf Try.prog 31) 7).2 (St.mk [(9,AV.ptr 1023 []),(10,AV.at_ 1000010 []),(24,AV.val (Ty.int IntKind.i64) v24),(25,AV.val (Ty.int IntKind.i64) (v25+(1:Int)))] [(1023,Ent.var (Ty.pair (Ty.slc false (Ty.slc false Ty.bool)) (Ty.pair Is (Ty.pair (Ty.slc true Ty.bool) Ty.unit))) (o1023_1,o1023_2_1,o1023_2_2_1,())),(1000010,Ent.own (Ty.slc true PairT) o1000010)]))))) (.ret ((o1000010,(0:Int),()))):=by kernel_rfl
theorem cmostR_valid:cmostR.Valid Try.prog 31:=by
  refine Ctr.valid_of EmostR_ok rfl rfl Try.func31 (c:=bodyOf Try.prog 31) rfl rfl FmostR_ok rfl ?_
  rintro ⟨(m:Int),(n:Int),(l:List PairD),⟨⟩⟩ - -
  refine exec_sound (n:=1000) EmostR_ok FmostR_ok ?_
  refine holds_of_eq (EmostR_t m n l) ?_
  have hd:mostR m n l=if mcheck m n l≠0 then ([],mcheck m n l,()) else (outP (mostF m n l).2.1 m.toNat,0,()):=rfl
  have hw:Ty.wb (.pair (.int .i64) (.pair (.int .i64) .unit))=16:=rfl
  simp only [holds_cond,Tree.holds,true_and,true_implies,decide_eq_true_eq,decide_eq_false_iff_not,Bool.not_eq_true',Bool.not_eq_false',Int.toNat_natCast,inK_i64,List.length_set,List.length_cons,List.length_nil,hw]
  refine ⟨fun e=>?_,fun e=>?_⟩
  · show (([],mcheck m n l,()):List PairD×Int×Unit)=mostR m n l
    rw [hd,if_pos e]
  rw [if_neg e] at hd
  have hin:=(mcheck_ok (Decidable.not_not.1 e)).1
  refine ⟨hin,fun _=>?_⟩
  obtain ⟨M,rfl⟩:∃ M:Nat,m=(M:Int):=⟨m.toNat,by have:=hin.1.1; omega⟩
  have hM:M≤40:=by have:=hin.1.2; omega
  generalize mostF (M:Int) n l=G at *
  obtain ⟨g1,g2,g3,⟨⟩⟩:=G
  refine Reach.loopI EmostR_ok FmostR_ok (fun i:Nat=>EmostR_s7 (M:Int) (i:Int) g1 g2 g3 (outP g2 i)) (fun i=>i≤M) (fun i=>M - i) 1000 (fun _=>⟨uniq_of rfl,uniq_of rfl⟩) ?_ 0 (by omega)
  rintro i k1 - ih
  have k1:i≤M:=k1
  have hol:=outP_len (left:=g2) i
  refine holds_of_eq (EmostR_l7 ..) ?_
  simp only [holds_cond,Tree.holds,true_and,true_implies,decide_eq_true_eq,decide_eq_false_iff_not,Bool.not_eq_true',Bool.not_eq_false',Int.toNat_natCast,inK_i64,List.length_set,List.length_cons,List.length_nil,hw]
  refine ⟨fun c=>?_,fun c=>?_⟩
  · have next:=ih (i+1) (by show i+1≤M; omega) (by omega)
    have hs:outP g2 (i+1)=if 0≤idxOf (fun y=>decide ((i:Int)=y)) g2 then outP g2 i++[((i:Int),idxOf (fun y=>decide ((i:Int)=y)) g2,())] else outP g2 i:=rfl
    refine ⟨fun d=>⟨⟨by omega,by omega⟩,fun _=>⟨by omega,fun _=>?_⟩⟩,fun d=>⟨by omega,fun _=>?_⟩⟩
    · rw [hs,if_pos d] at next; exact next
    · rw [hs,if_neg d] at next; exact next
  · show ((outP g2 i,0,()):List PairD×Int×Unit)=mostR (M:Int) n l
    rw [hd,show i=M by omega]; rfl
end Go.Proofs.Ytegigiecamjobaa
