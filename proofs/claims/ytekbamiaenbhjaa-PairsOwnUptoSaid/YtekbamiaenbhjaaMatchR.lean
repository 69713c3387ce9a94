/- match.Most. No condition. -/
import Derived.Test.YtekbamiaenbhjaaMatchK
namespace Go.Proofs.Ytekbamiaenbhjaa
open Go.Ex
set_option maxRecDepth 100000
def U8 (left:List Int):Nat→List l6
  | 0=>[]
  | a+1=>if 0≤idxOf (fun y=>decide ((a:Int)=y)) left then U8 left a++[((a:Int),idxOf (fun y=>decide ((a:Int)=y)) left,())] else U8 left a
def M2 (m n:Int) (l:List l6):List l6×Int×Unit:=if B8 m n l≠0 then ([],B8 m n l,()) else (U8 (M8 m n l).2.1 m.toNat,0,())
theorem a6Q {left:List Int}:∀ a,(U8 left a).length≤a
  | 0=>by simp [U8]
  | a+1=>by
    have:=a6Q (left:=left) a
    rw [U8]
    split
    · rw [List.length_append,List.length_singleton]; omega
    · omega
theorem a5k {m n:Int} {l:List l6} (h:B8 m n l=0):inP m n l∧l.length≤600:=by
  rw [B8] at h
  split at h
  · cases h
  rename_i a
  split at h
  · cases h
  rename_i b
  split at h
  · cases h
  rename_i c
  have a:S9 m 0 40=true∧S9 n 0 40=true:=by simpa using a
  refine ⟨⟨L9.1 a.1,L9.1 a.2,fun q hq=>?_⟩,by omega⟩
  have c:l.any (U9 m n)=false:=by simpa using c
  have:=List.any_eq_false.1 c q hq
  simp only [U9,Bool.or_eq_true,Bool.not_eq_true',not_or,Bool.not_eq_false,L9] at this
  omega
def a8h:w8:={ ps:=[.v A4,.v A4,.v (.d0 false l5)],rs:=[.d0 true l5,A4],pre:=fun _=>True,fn:=fun x=>M2 x.1 x.2.1 x.2.2.1,out:=fun _=>() }
noncomputable def a8C:Env:={ P:=Try.prog,tt:=ttG,F7:=[(196,a31),(197,b0Z),(152,b01)],res:=[Go.ResultVar.tmp 6,Go.ResultVar.tmp 7],rs:=[Ty.d0 true l5,Ty.int IntKind.i64],ps:=[PK.v (Ty.int IntKind.i64),PK.v (Ty.int IntKind.i64),PK.v (Ty.d0 false l5)],H2:=[(7,[(9,none),(10,some (Ty.d0 true l5)),(24,none),(25,none)])],nt:=44 }
theorem a5R:D7 a8C:=G8 a43 ⟨a2i,a6x,a6z,trivial⟩
theorem a5P:H9 a8C Try.f96:=⟨rfl,rfl⟩
theorem b9b (x0:Int) (x1:Int) (x2:List (Int×Int×Unit)):exec a8C 1000 [.code (d8 Try.prog 96)] (C2 a8h.ps ((x0,x1,x2,()))) =
  .g9 (True) (cond (decide (B8 x0 x1 x2≠(0:Int))) (.ret (([],B8 x0 x1 x2,()))) (.g9 (inP x0 x1 x2) (.cut (e8 (d8 Try.prog 96) 7).1 (e8 (d8 Try.prog 96) 7).2 (St.mk [(9,AV.ptr 1023 []),(10,AV.at_ 1000010 []),(24,AV.val (Ty.int IntKind.i64) x0),(25,AV.val (Ty.int IntKind.i64) (0:Int))] [(1023,f7.var (Ty.pair (Ty.d0 false (Ty.d0 false Ty.bool)) (Ty.pair Is (Ty.pair (Ty.d0 true Ty.bool) Ty.unit))) (M8 x0 x1 x2)),(1000010,f7.own (Ty.d0 true l5) [])])))):=by kernel_rfl
def b0o (v24:Int) (v25:Int) (o1023_1:List (List Bool)) (o1023_2_1:List Int) (o1023_2_2_1:List Bool) (o1000010:List (Int×Int×Unit)):St:=St.mk [(9,AV.ptr 1023 []),(10,AV.at_ 1000010 []),(24,AV.val (Ty.int IntKind.i64) v24),(25,AV.val (Ty.int IntKind.i64) v25)] [(1023,f7.var (Ty.pair (Ty.d0 false (Ty.d0 false Ty.bool)) (Ty.pair Is (Ty.pair (Ty.d0 true Ty.bool) Ty.unit))) (o1023_1,o1023_2_1,o1023_2_2_1,())),(1000010,f7.own (Ty.d0 true l5) o1000010)]
theorem b73 (v24:Int) (v25:Int) (o1023_1:List (List Bool)) (o1023_2_1:List Int) (o1023_2_2_1:List Bool) (o1000010:List (Int×Int×Unit)):exec a8C 1000 (.code (e8 (d8 Try.prog 96) 7).1::.inLoop (e8 (d8 Try.prog 96) 7).1::(e8 (d8 Try.prog 96) 7).2) (b0o v24 v25 o1023_1 o1023_2_1 o1023_2_2_1 o1000010) =
  cond (decide (v25<v24)) (.g9 (True) (cond (decide ((0:Int)≤idxOf (fun y=>decide (v25=y)) o1023_2_1)) (.g9 (List.length o1000010+List.length (List.set [((0:Int),(0:Int),())] (Int.toNat (↑0:Int)) (v25,idxOf (fun y=>decide (v25=y)) o1023_2_1,()))≤140737488355328∧(List.length o1000010+List.length (List.set [((0:Int),(0:Int),())] (Int.toNat (↑0:Int)) (v25,idxOf (fun y=>decide (v25=y)) o1023_2_1,())))*Ty.wb l5≤140737488355328) (.g9 (B2 IntKind.i64 (v25+(1:Int))) (.cut (e8 (d8 Try.prog 96) 7).1 (e8 (d8 Try.prog 96) 7).2 (St.mk [(9,AV.ptr 1023 []),(10,AV.at_ 1000010 []),(24,AV.val (Ty.int IntKind.i64) v24),(25,AV.val (Ty.int IntKind.i64) (v25+(1:Int)))] [(1023,f7.var (Ty.pair (Ty.d0 false (Ty.d0 false Ty.bool)) (Ty.pair Is (Ty.pair (Ty.d0 true Ty.bool) Ty.unit))) (o1023_1,o1023_2_1,o1023_2_2_1,())),(1000010,f7.own (Ty.d0 true l5) (o1000010++List.set [((0:Int),(0:Int),())] (Int.toNat (↑0:Int)) (v25,idxOf (fun y=>decide (v25=y)) o1023_2_1,())))])))) (.g9 (B2 IntKind.i64 (v25+(1:Int))) (.cut (e8 (d8 Try.prog 96) 7).1 (e8 (d8 Try.prog 96) 7).2 (St.mk [(9,AV.ptr 1023 []),(10,AV.at_ 1000010 []),(24,AV.val (Ty.int IntKind.i64) v24),(25,AV.val (Ty.int IntKind.i64) (v25+(1:Int)))] [(1023,f7.var (Ty.pair (Ty.d0 false (Ty.d0 false Ty.bool)) (Ty.pair Is (Ty.pair (Ty.d0 true Ty.bool) Ty.unit))) (o1023_1,o1023_2_1,o1023_2_2_1,())),(1000010,f7.own (Ty.d0 true l5) o1000010)]))))) (.ret ((o1000010,(0:Int),()))):=by kernel_rfl
theorem a5z:a8h.Valid Try.prog 96:=by
  refine w8.y8 a5R rfl rfl Try.func96 (c:=d8 Try.prog 96) rfl rfl a5P rfl ?_
  rintro ⟨(m:Int),(n:Int),(l:List l6),⟨⟩⟩ - -
  refine p8 (n:=1000) a5R a5P ?_
  refine l4 (b9b m n l) ?_
  have hd:M2 m n l=if B8 m n l≠0 then ([],B8 m n l,()) else (U8 (M8 m n l).2.1 m.toNat,0,()):=rfl
  have hw:Ty.wb (.pair (.int .i64) (.pair (.int .i64) .unit))=16:=rfl
  simp only [p7,Tree.holds,true_and,true_implies,decide_eq_true_eq,decide_eq_false_iff_not,Bool.not_eq_true',Bool.not_eq_false',Int.toNat_natCast,u7,List.length_set,List.length_cons,List.length_nil,hw]
  refine ⟨fun e=>?_,fun e=>?_⟩
  · show (([],B8 m n l,()):List l6×Int×Unit)=M2 m n l
    rw [hd,if_pos e]
  rw [if_neg e] at hd
  have hin:=(a5k (Decidable.not_not.1 e)).1
  refine ⟨hin,fun _=>?_⟩
  obtain ⟨M,rfl⟩:∃ M:Nat,m=(M:Int):=⟨m.toNat,by have:=hin.1.1; omega⟩
  have hM:M≤40:=by have:=hin.1.2; omega
  generalize M8 (M:Int) n l=G at *
  obtain ⟨g1,g2,g3,⟨⟩⟩:=G
  refine Reach.J8 a5R a5P (fun i:Nat=>b0o (M:Int) (i:Int) g1 g2 g3 (U8 g2 i)) (fun i=>i≤M) (fun i=>M - i) 1000 (fun _=>⟨r9 rfl,r9 rfl⟩) ?_ 0 (by omega)
  rintro i k1 - ih
  have k1:i≤M:=k1
  have hol:=a6Q (left:=g2) i
  refine l4 (b73 ..) ?_
  simp only [p7,Tree.holds,true_and,true_implies,decide_eq_true_eq,decide_eq_false_iff_not,Bool.not_eq_true',Bool.not_eq_false',Int.toNat_natCast,u7,List.length_set,List.length_cons,List.length_nil,hw]
  refine ⟨fun c=>?_,fun c=>?_⟩
  · have next:=ih (i+1) (by show i+1≤M; omega) (by omega)
    have hs:U8 g2 (i+1)=if 0≤idxOf (fun y=>decide ((i:Int)=y)) g2 then U8 g2 i++[((i:Int),idxOf (fun y=>decide ((i:Int)=y)) g2,())] else U8 g2 i:=rfl
    refine ⟨fun d=>⟨⟨by omega,by omega⟩,fun _=>⟨by omega,fun _=>?_⟩⟩,fun d=>⟨by omega,fun _=>?_⟩⟩
    · rw [hs,if_pos d] at next; exact next
    · rw [hs,if_neg d] at next; exact next
  · show ((U8 g2 i,0,()):List l6×Int×Unit)=M2 (M:Int) n l
    rw [hd,show i=M by omega]; rfl
end Go.Proofs.Ytekbamiaenbhjaa
