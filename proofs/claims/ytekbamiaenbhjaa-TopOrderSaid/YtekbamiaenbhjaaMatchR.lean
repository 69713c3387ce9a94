/- match.Most. No condition. -/
import Derived.Test.YtekbamiaenbhjaaMatchK
namespace Go.Proofs.Ytekbamiaenbhjaa
open Go.Ex
set_option maxRecDepth 100000
def W1 (left:List Int):Nat→List s5
  | 0=>[]
  | a+1=>if 0≤idxOf (fun y=>decide ((a:Int)=y)) left then W1 left a++[((a:Int),idxOf (fun y=>decide ((a:Int)=y)) left,())] else W1 left a
def U1 (m n:Int) (l:List s5):List s5×Int×Unit:=if G4 m n l≠0 then ([],G4 m n l,()) else (W1 (a09 m n l).2.1 m.toNat,0,())
theorem b3f {left:List Int}:∀ a,(W1 left a).length≤a
  | 0=>by simp [W1]
  | a+1=>by
    have:=b3f (left:=left) a
    rw [W1]
    split
    · rw [List.length_append,List.length_singleton]; omega
    · omega
theorem b1f {m n:Int} {l:List s5} (h:G4 m n l=0):inP m n l∧l.length≤600:=by
  rw [G4] at h
  split at h
  · cases h
  rename_i a
  split at h
  · cases h
  rename_i b
  split at h
  · cases h
  rename_i c
  have a:N3 m 0 40=true∧N3 n 0 40=true:=by simpa using a
  refine ⟨⟨K0.1 a.1,K0.1 a.2,fun q hq=>?_⟩,by omega⟩
  have c:l.any (U6 m n)=false:=by simpa using c
  have:=List.any_eq_false.1 c q hq
  simp only [U6,Bool.or_eq_true,Bool.not_eq_true',not_or,Bool.not_eq_false,K0] at this
  omega
def b3V:w9:={ ps:=[.v i5,.v i5,.v (.d0 false r7)],rs:=[.d0 true r7,i5],pre:=fun _=>True,fn:=fun x=>U1 x.1 x.2.1 x.2.2.1,out:=fun _=>() }
noncomputable def b0c:Env:={ P:=Try.prog,tt:=ttG,F2:=[(196,a7w),(197,b7Z),(152,b2D)],res:=[Go.ResultVar.tmp 6,Go.ResultVar.tmp 7],rs:=[Ty.d0 true r7,Ty.int IntKind.i64],ps:=[PK.v i5,PK.v i5,PK.v (Ty.d0 false r7)],D8:=[(7,[(9,none),(10,some (Ty.d0 true r7)),(24,none),(25,none)])],nt:=44 }
theorem a68:B6 b0c:=D0 b2S ⟨a56,b5m,a7X,trivial⟩
theorem a62:E3 b0c Try.f96:=⟨rfl,rfl⟩
theorem c2u (x0:Int) (x1:Int) (x2:List (Int×Int×Unit)):exec b0c 1000 [.code (d8 Try.prog 96)] (A5 b3V.ps ((x0,x1,x2,()))) =
  .e8 (True) (cond (decide (G4 x0 x1 x2≠(0:Int))) (.ret (([],G4 x0 x1 x2,()))) (.e8 (inP x0 x1 x2) (.ctL (d9 (d8 Try.prog 96) 7) (St.mk [(9,AV.ptr 1023 []),(10,AV.at_ 1000010 []),(24,vI x0),(25,vI (0:Int))] [(1023,f7.var (Ty.pair (Ty.d0 false (Ty.d0 false Ty.bool)) (Ty.pair Is (Ty.pair (Ty.d0 true Ty.bool) Ty.unit))) (a09 x0 x1 x2)),(1000010,f7.own (Ty.d0 true r7) [])])))):=by kernel_rfl
def b1X (v24:Int) (v25:Int) (o1023_1:List (List Bool)) (o1023_2_1:List Int) (o1023_2_2_1:List Bool) (o1000010:List (Int×Int×Unit)):St:=St.mk [(9,AV.ptr 1023 []),(10,AV.at_ 1000010 []),(24,vI v24),(25,vI v25)] [(1023,f7.var (Ty.pair (Ty.d0 false (Ty.d0 false Ty.bool)) (Ty.pair Is (Ty.pair (Ty.d0 true Ty.bool) Ty.unit))) (o1023_1,o1023_2_1,o1023_2_2_1,())),(1000010,f7.own (Ty.d0 true r7) o1000010)]
theorem c0z (v24:Int) (v25:Int) (o1023_1:List (List Bool)) (o1023_2_1:List Int) (o1023_2_2_1:List Bool) (o1000010:List (Int×Int×Unit)):exec b0c 1000 (.code (d9 (d8 Try.prog 96) 7).1::.inLoop (d9 (d8 Try.prog 96) 7).1::(d9 (d8 Try.prog 96) 7).2) (b1X v24 v25 o1023_1 o1023_2_1 o1023_2_2_1 o1000010) =
  cond (decide (v25<v24)) (.e8 (True) (cond (decide ((0:Int)≤idxOf (fun y=>decide (v25=y)) o1023_2_1)) (.e8 (List.length o1000010+List.length (List.set [((0:Int),(0:Int),())] (Int.toNat (↑0:Int)) (v25,idxOf (fun y=>decide (v25=y)) o1023_2_1,()))≤140737488355328∧(List.length o1000010+List.length (List.set [((0:Int),(0:Int),())] (Int.toNat (↑0:Int)) (v25,idxOf (fun y=>decide (v25=y)) o1023_2_1,())))*Ty.wb r7≤140737488355328) (.e8 (r9 IntKind.i64 (v25+(1:Int))) (.ctL (d9 (d8 Try.prog 96) 7) (St.mk [(9,AV.ptr 1023 []),(10,AV.at_ 1000010 []),(24,vI v24),(25,vI (v25+(1:Int)))] [(1023,f7.var (Ty.pair (Ty.d0 false (Ty.d0 false Ty.bool)) (Ty.pair Is (Ty.pair (Ty.d0 true Ty.bool) Ty.unit))) (o1023_1,o1023_2_1,o1023_2_2_1,())),(1000010,f7.own (Ty.d0 true r7) (o1000010++List.set [((0:Int),(0:Int),())] (Int.toNat (↑0:Int)) (v25,idxOf (fun y=>decide (v25=y)) o1023_2_1,())))])))) (.e8 (r9 IntKind.i64 (v25+(1:Int))) (.ctL (d9 (d8 Try.prog 96) 7) (St.mk [(9,AV.ptr 1023 []),(10,AV.at_ 1000010 []),(24,vI v24),(25,vI (v25+(1:Int)))] [(1023,f7.var (Ty.pair (Ty.d0 false (Ty.d0 false Ty.bool)) (Ty.pair Is (Ty.pair (Ty.d0 true Ty.bool) Ty.unit))) (o1023_1,o1023_2_1,o1023_2_2_1,())),(1000010,f7.own (Ty.d0 true r7) o1000010)]))))) (.ret ((o1000010,(0:Int),()))):=by kernel_rfl
theorem b3U:b3V.Valid Try.prog 96:=by
  refine w9.u7 a68 rfl rfl Try.func96 (c:=d8 Try.prog 96) rfl rfl a62 rfl ?_
  rintro ⟨(m:Int),(n:Int),(l:List s5),⟨⟩⟩ - -
  refine n7 (n:=1000) a68 a62 ?_
  refine g9 (c2u m n l) ?_
  have hd:U1 m n l=if G4 m n l≠0 then ([],G4 m n l,()) else (W1 (a09 m n l).2.1 m.toNat,0,()):=rfl
  have hw:Ty.wb (.pair (.int .i64) (.pair (.int .i64) .unit))=16:=rfl
  simp only [i9,Tree.holds,true_and,true_implies,decide_eq_true_eq,decide_eq_false_iff_not,Bool.not_eq_true',Bool.not_eq_false',Int.toNat_natCast,l7,List.length_set,List.length_cons,List.length_nil,hw]
  refine ⟨fun e=>?_,fun e=>?_⟩
  · show (([],G4 m n l,()):List s5×Int×Unit)=U1 m n l
    rw [hd,if_pos e]
  rw [if_neg e] at hd
  have hin:=(b1f (Decidable.not_not.1 e)).1
  refine ⟨hin,fun _=>?_⟩
  obtain ⟨M,rfl⟩:∃ M:Nat,m=(M:Int):=⟨m.toNat,by have:=hin.1.1; omega⟩
  have hM:M≤40:=by have:=hin.1.2; omega
  generalize a09 (M:Int) n l=G at *
  obtain ⟨g1,g2,g3,⟨⟩⟩:=G
  refine Reach.C1 a68 a62 (fun i:Nat=>b1X (M:Int) (i:Int) g1 g2 g3 (W1 g2 i)) (fun i=>i≤M) (fun i=>M - i) 1000 (fun _=>⟨j7 rfl,j7 rfl⟩) ?_ 0 (by omega)
  rintro i k1 - ih
  have k1:i≤M:=k1
  have hol:=b3f (left:=g2) i
  refine g9 (c0z ..) ?_
  simp only [i9,Tree.holds,true_and,true_implies,decide_eq_true_eq,decide_eq_false_iff_not,Bool.not_eq_true',Bool.not_eq_false',Int.toNat_natCast,l7,List.length_set,List.length_cons,List.length_nil,hw]
  refine ⟨fun c=>?_,fun c=>?_⟩
  · have next:=ih (i+1) (by show i+1≤M; omega) (by omega)
    have hs:W1 g2 (i+1)=if 0≤idxOf (fun y=>decide ((i:Int)=y)) g2 then W1 g2 i++[((i:Int),idxOf (fun y=>decide ((i:Int)=y)) g2,())] else W1 g2 i:=rfl
    refine ⟨fun d=>⟨⟨by omega,by omega⟩,fun _=>⟨by omega,fun _=>?_⟩⟩,fun d=>⟨by omega,fun _=>?_⟩⟩
    · rw [hs,if_pos d] at next; exact next
    · rw [hs,if_neg d] at next; exact next
  · show ((W1 g2 i,0,()):List s5×Int×Unit)=U1 (M:Int) n l
    rw [hd,show i=M by omega]; rfl
end Go.Proofs.Ytekbamiaenbhjaa
