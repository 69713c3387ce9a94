/- The contracts of the package vect's functions. -/
import Derived.Test.YtekbamiaenbhjaaBase
import Derived.Test.YtekbamiaenbhjaaHist
namespace Go.Proofs.Ytekbamiaenbhjaa
open Go.Ex
set_option maxRecDepth 100000
def b2O (a b:List Int):List Int:=(List.range 6).map (fun j=>b7t (a.getD j 0) (b.getD j 0))
def a1H (f:Int→Int→Int) (a b:List Int) (i:Nat):List Int:=(List.range 6).map (fun j=>if j<i then f (a.getD j 0) (b.getD j 0) else a.getD j 0)
theorem b7k {f:Int→Int→Int} {a b:List Int} (ha:a.length=6):a1H f a b 0=a:=by
  rw [a1H]; simp only [Nat.not_lt_zero,if_false]; exact b0w ha
theorem b7l {f:Int→Int→Int} {a b:List Int}:a1H f a b 6=(List.range 6).map (fun j=>f (a.getD j 0) (b.getD j 0)) :=
  List.map_congr_left (fun j hj=>by rw [if_pos (List.mem_range.1 hj)])
theorem c05 {f:Int→Int→Int} {a b:List Int} {i:Nat} (hi:i<6):(a1H f a b i).getD i 0=a.getD i 0:=by
  rw [a1H,P7 _ _ hi,if_neg (by omega)]
theorem b9t {f:Int→Int→Int} {a b:List Int} {i:Nat} (hi:i<6):(a1H f a b i).set i (f (a.getD i 0) (b.getD i 0))=a1H f a b (i+1):=by
  rw [a1H,Z6 _ _ hi]
  refine List.map_congr_left (fun j _=>?_)
  by_cases e:j=i
  · subst e; rw [if_pos rfl,if_pos (by omega)]
  · rw [if_neg e]
    by_cases e2:j<i
    · rw [if_pos e2,if_pos (by omega)]
    · rw [if_neg e2,if_neg (by omega)]

def b7N:w9:={ ps:=[.v I2,.v I2],rs:=[I2],pre:=fun _=>True,fn:=fun x=>(b2O x.1 x.2.1,()),out:=fun _=>() }
noncomputable def b2H:Env:={ P:=Try.prog,tt:=tt,F2:=[],res:=[Go.ResultVar.cell 4 103],rs:=[Ty.arr 6 i5],ps:=[PK.v I2,PK.v I2],D8:=[(2,[(2,none),(3,none),(4,none),(6,none)])],nt:=20 }
theorem a8T:B6 b2H:=D0 w5 trivial
theorem a8M:E3 b2H Try.f173:=⟨rfl,rfl⟩
theorem c33 (x0:List Int) (x1:List Int):exec b2H 1000 [.code (d8 Try.prog 173)] (A5 b7N.ps ((x0,x1,()))) =
  .ctL (d9 (d8 Try.prog 173) 2) (St.mk [(2,AV.ptr 2 []),(3,AV.ptr 3 []),(4,AV.ptr 4 []),(6,vI (0:Int))] [(2,f7.var I2 x0),(3,f7.var I2 x1),(4,f7.var I2 [(0:Int),(0:Int),(0:Int),(0:Int),(0:Int),(0:Int)])]):=by kernel_rfl
def a8S (v6:Int) (o2:List Int) (o3:List Int) (o4:List Int):St:=St.mk [(2,AV.ptr 2 []),(3,AV.ptr 3 []),(4,AV.ptr 4 []),(6,vI v6)] [(2,f7.var I2 o2),(3,f7.var I2 o3),(4,f7.var I2 o4)]
theorem c2d (v6:Int) (o2:List Int) (o3:List Int) (o4:List Int):exec b2H 1000 (.code (d9 (d8 Try.prog 173) 2).1::.inLoop (d9 (d8 Try.prog 173) 2).1::(d9 (d8 Try.prog 173) 2).2) (a8S v6 o2 o3 o4) =
  cond (decide (v6<(6:Int))) (.e8 ((0:Int)≤v6∧v6<(↑6:Int)) (.e8 ((0:Int)≤v6∧v6<(↑6:Int)) (.e8 ((0:Int)≤v6∧v6<(↑6:Int)) (.e8 (r9 IntKind.i64 (v6+(1:Int))) (.ctL (d9 (d8 Try.prog 173) 2) (St.mk [(2,AV.ptr 2 []),(3,AV.ptr 3 []),(4,AV.ptr 4 []),(6,vI (v6+(1:Int)))] [(2,f7.var I2 (List.set o2 (Int.toNat v6) (if List.getD o2 (Int.toNat v6) (0:Int)<List.getD o3 (Int.toNat v6) (0:Int) then List.getD o3 (Int.toNat v6) (0:Int) else List.getD o2 (Int.toNat v6) (0:Int)))),(3,f7.var I2 o3),(4,f7.var I2 o4)])))))) (.ret ((o2,()))):=by kernel_rfl
theorem b5f:b7N.Valid Try.prog 173:=by
  refine w9.u7 a8T rfl rfl Try.func173 (c:=d8 Try.prog 173) rfl rfl a8M rfl ?_
  rintro ⟨(a:List Int),(b:List Int),⟨⟩⟩ - ⟨⟨ha,-⟩,⟨hb,-⟩,-⟩
  have ha:a.length=6:=ha
  refine n7 (n:=1000) a8T a8M ?_
  refine g9 (c33 a b) ?_
  have h0:St.mk [(2,AV.ptr 2 []),(3,AV.ptr 3 []),(4,AV.ptr 4 []),(6,vI 0)] [(2,f7.var I2 a),(3,f7.var I2 b),(4,f7.var I2 [0,0,0,0,0,0])]=a8S ((0:Nat):Int) (a1H b7t a b 0) b [0,0,0,0,0,0]:=by rw [b7k ha]; rfl
  rw [h0]
  refine Reach.C1 a8T a8M (fun i:Nat=>a8S (i:Int) (a1H b7t a b i) b [0,0,0,0,0,0]) (fun i=>i≤6) (fun i=>6 - i) 1000 (fun _=>⟨j7 rfl,j7 rfl⟩) ?_ 0 (by omega)
  rintro i k1 - ih
  refine g9 (c2d ..) ?_
  simp only [i9,Tree.holds,true_and,true_implies,decide_eq_true_eq,decide_eq_false_iff_not,Bool.not_eq_true',Bool.not_eq_false',Int.toNat_natCast,l7,List.length_set,List.length_cons,List.length_nil]
  refine ⟨fun h=>?_,fun h=>?_⟩
  · have h9:=ih (i+1) (by omega) (by omega)
    rw [← b9t (by omega)] at h9
    rw [c05 (by omega)]
    exact ⟨by omega,fun _=>⟨by omega,fun _=>⟨by omega,fun _=>⟨by omega,fun _=>h9⟩⟩⟩⟩
  · have hi:i=6:=by omega
    subst hi
    show ((a1H b7t a b 6,()):List Int×Unit)=(b2O a b,())
    rw [b7l]; rfl
abbrev v0:List Int:=[0,0,0,0,0,0]
def vOf (last:List Int) (now sent:List (List Int)) (e:Ev):List Int :=
  (if e.2.1=3 then b2O (now.getD e.1.toNat v0) (sent.getD e.2.2.1.toNat v0) else now.getD e.1.toNat v0).set e.1.toNat (last.getD e.1.toNat 0+1)
def vGo (last:List Int) (now sent:List (List Int)):List Ev→List (List Int)
  | []=>[]
  | e::l=>vOf last now sent e::vGo (last.set e.1.toNat (last.getD e.1.toNat 0+1)) (now.set e.1.toNat (vOf last now sent e)) (if e.2.1=2 then sent.set e.2.2.1.toNat (vOf last now sent e) else sent) l
def a0G (h:List Ev):List (List Int)×Int×Unit:=if t8 h≠0 then ([],t8 h,()) else (vGo (List.replicate 6 0) (List.replicate 6 v0) (List.replicate 30 v0) h,0,())
def a8A:w9:={ ps:=[.v Es],rs:=[.d0 true I2,i5],pre:=fun _=>True,fn:=fun x=>a0G x.1,out:=fun _=>() }
noncomputable def a5P:Env:={ P:=Try.prog,tt:=tt,F2:=[(127,a3l),(173,b7N)],res:=[Go.ResultVar.tmp 2,Go.ResultVar.tmp 3],rs:=[Ty.d0 true I2,Ty.int IntKind.i64],ps:=[PK.v (Ty.d0 false r8)],D8:=[(9,[(5,some (Ty.d0 true I2)),(6,none),(7,none),(8,none),(17,none),(18,none),(19,none)])],nt:=66 }
theorem a4x:B6 a5P:=D0 w5 ⟨a1b,b5f,trivial⟩
theorem a4v:E3 a5P Try.f74:=⟨rfl,rfl⟩
theorem b8u (x0:List (Int×Int×Int×Unit)):exec a5P 1000 [.code (d8 Try.prog 74)] (A5 a8A.ps ((x0,()))) =
  .e8 (True) (cond (decide (t8 x0≠(0:Int))) (.ret (([],t8 x0,()))) (.ctL (d9 (d8 Try.prog 74) 9) (St.mk [(5,AV.at_ 1000005 []),(6,AV.ptr 6 []),(7,AV.ptr 7 []),(8,AV.ptr 8 []),(17,AV.val (Ty.d0 false r8) x0),(18,vI (↑(List.length x0):Int)),(19,vI (0:Int))] [(6,f7.var I2 [(0:Int),(0:Int),(0:Int),(0:Int),(0:Int),(0:Int)]),(7,f7.var (Ty.arr 6 I2) [[(0:Int),(0:Int),(0:Int),(0:Int),(0:Int),(0:Int)],[(0:Int),(0:Int),(0:Int),(0:Int),(0:Int),(0:Int)],[(0:Int),(0:Int),(0:Int),(0:Int),(0:Int),(0:Int)],[(0:Int),(0:Int),(0:Int),(0:Int),(0:Int),(0:Int)],[(0:Int),(0:Int),(0:Int),(0:Int),(0:Int),(0:Int)],[(0:Int),(0:Int),(0:Int),(0:Int),(0:Int),(0:Int)]]),(8,f7.var (Ty.arr 30 I2) [[(0:Int),(0:Int),(0:Int),(0:Int),(0:Int),(0:Int)],[(0:Int),(0:Int),(0:Int),(0:Int),(0:Int),(0:Int)],[(0:Int),(0:Int),(0:Int),(0:Int),(0:Int),(0:Int)],[(0:Int),(0:Int),(0:Int),(0:Int),(0:Int),(0:Int)],[(0:Int),(0:Int),(0:Int),(0:Int),(0:Int),(0:Int)],[(0:Int),(0:Int),(0:Int),(0:Int),(0:Int),(0:Int)],[(0:Int),(0:Int),(0:Int),(0:Int),(0:Int),(0:Int)],[(0:Int),(0:Int),(0:Int),(0:Int),(0:Int),(0:Int)],[(0:Int),(0:Int),(0:Int),(0:Int),(0:Int),(0:Int)],[(0:Int),(0:Int),(0:Int),(0:Int),(0:Int),(0:Int)],[(0:Int),(0:Int),(0:Int),(0:Int),(0:Int),(0:Int)],[(0:Int),(0:Int),(0:Int),(0:Int),(0:Int),(0:Int)],[(0:Int),(0:Int),(0:Int),(0:Int),(0:Int),(0:Int)],[(0:Int),(0:Int),(0:Int),(0:Int),(0:Int),(0:Int)],[(0:Int),(0:Int),(0:Int),(0:Int),(0:Int),(0:Int)],[(0:Int),(0:Int),(0:Int),(0:Int),(0:Int),(0:Int)],[(0:Int),(0:Int),(0:Int),(0:Int),(0:Int),(0:Int)],[(0:Int),(0:Int),(0:Int),(0:Int),(0:Int),(0:Int)],[(0:Int),(0:Int),(0:Int),(0:Int),(0:Int),(0:Int)],[(0:Int),(0:Int),(0:Int),(0:Int),(0:Int),(0:Int)],[(0:Int),(0:Int),(0:Int),(0:Int),(0:Int),(0:Int)],[(0:Int),(0:Int),(0:Int),(0:Int),(0:Int),(0:Int)],[(0:Int),(0:Int),(0:Int),(0:Int),(0:Int),(0:Int)],[(0:Int),(0:Int),(0:Int),(0:Int),(0:Int),(0:Int)],[(0:Int),(0:Int),(0:Int),(0:Int),(0:Int),(0:Int)],[(0:Int),(0:Int),(0:Int),(0:Int),(0:Int),(0:Int)],[(0:Int),(0:Int),(0:Int),(0:Int),(0:Int),(0:Int)],[(0:Int),(0:Int),(0:Int),(0:Int),(0:Int),(0:Int)],[(0:Int),(0:Int),(0:Int),(0:Int),(0:Int),(0:Int)],[(0:Int),(0:Int),(0:Int),(0:Int),(0:Int),(0:Int)]]),(1000005,f7.own (Ty.d0 true I2) [])]))):=by kernel_rfl
def a8b (v17:List (Int×Int×Int×Unit)) (v18:Int) (v19:Int) (o6:List Int) (o7:List (List Int)) (o8:List (List Int)) (o1000005:List (List Int)):St:=St.mk [(5,AV.at_ 1000005 []),(6,AV.ptr 6 []),(7,AV.ptr 7 []),(8,AV.ptr 8 []),(17,AV.val (Ty.d0 false r8) v17),(18,vI v18),(19,vI v19)] [(6,f7.var I2 o6),(7,f7.var (Ty.arr 6 I2) o7),(8,f7.var (Ty.arr 30 I2) o8),(1000005,f7.own (Ty.d0 true I2) o1000005)]
theorem b5C (v17:List (Int×Int×Int×Unit)) (v18:Int) (v19:Int) (o6:List Int) (o7:List (List Int)) (o8:List (List Int)) (o1000005:List (List Int)):exec a5P 1000 (.code (d9 (d8 Try.prog 74) 9).1::.inLoop (d9 (d8 Try.prog 74) 9).1::(d9 (d8 Try.prog 74) 9).2) (a8b v17 v18 v19 o6 o7 o8 o1000005) =
  let q0:=(List.getD v17 (Int.toNat v19) ((0:Int),(0:Int),(0:Int),())); let q8:=(19,vI (v19+(1:Int))); let q9:=(List.getD o6 (Int.toNat (Prod.fst q0)) (0:Int)+(1:Int)); let q3:=(List.set o6 (Int.toNat (Prod.fst q0)) q9); let q10:=(List.getD o7 (Int.toNat (Prod.fst q0)) [(0:Int),(0:Int),(0:Int),(0:Int),(0:Int),(0:Int)]); let q2:=(List.set q10 (Int.toNat (Prod.fst q0)) (List.getD q3 (Int.toNat (Prod.fst q0)) (0:Int))); let q5:=(List.set [[(0:Int),(0:Int),(0:Int),(0:Int),(0:Int),(0:Int)]] (Int.toNat (↑0:Int)) q2); let q7:=(1000005,f7.own (Ty.d0 true I2) (o1000005++List.set [[(0:Int),(0:Int),(0:Int),(0:Int),(0:Int),(0:Int)]] (Int.toNat (↑0:Int)) q2)); let q11:=(18,vI v18); let q12:=(17,AV.val (Ty.d0 false r8) v17); let q13:=(r9 IntKind.i64 (v19+(1:Int))); let q14:=(Int.toNat (Prod.fst (Prod.snd (Prod.snd q0)))); let q1:=(List.set (b2O q10 (List.getD o8 q14 [(0:Int),(0:Int),(0:Int),(0:Int),(0:Int),(0:Int)])) (Int.toNat (Prod.fst q0)) (List.getD q3 (Int.toNat (Prod.fst q0)) (0:Int))); let q4:=(List.set [[(0:Int),(0:Int),(0:Int),(0:Int),(0:Int),(0:Int)]] (Int.toNat (↑0:Int)) q1); let q6:=(1000005,f7.own (Ty.d0 true I2) (o1000005++List.set [[(0:Int),(0:Int),(0:Int),(0:Int),(0:Int),(0:Int)]] (Int.toNat (↑0:Int)) q1)); cond (decide (v19<v18)) (.e8 ((0:Int)≤v19∧v19<(↑(List.length v17):Int)) (.e8 ((0:Int)≤Prod.fst q0∧Prod.fst q0<(↑6:Int)) (cond (decide (Prod.fst (Prod.snd q0)=(3:Int))) (.e8 ((0:Int)≤Prod.fst (Prod.snd (Prod.snd q0))∧Prod.fst (Prod.snd (Prod.snd q0))<(↑30:Int)) (.e8 (True) (.e8 ((0:Int)≤Prod.fst q0∧Prod.fst q0<(↑6:Int)) (.e8 (r9 IntKind.i64 q9) (.e8 ((0:Int)≤Prod.fst q0∧Prod.fst q0<(↑6:Int)) (.e8 ((0:Int)≤Prod.fst q0∧Prod.fst q0<(↑6:Int)) (.e8 ((0:Int)≤Prod.fst q0∧Prod.fst q0<(↑6:Int)) (.e8 ((0:Int)≤Prod.fst q0∧Prod.fst q0<(↑6:Int)) (cond (decide (Prod.fst (Prod.snd q0)=(2:Int))) (.e8 ((0:Int)≤Prod.fst (Prod.snd (Prod.snd q0))∧Prod.fst (Prod.snd (Prod.snd q0))<(↑30:Int)) (.e8 (List.length o1000005+List.length q4≤140737488355328∧(List.length o1000005+List.length q4)*Ty.wb I2≤140737488355328) (.e8 q13 (.ctL (d9 (d8 Try.prog 74) 9) (St.mk [(5,AV.at_ 1000005 []),(6,AV.ptr 6 []),(7,AV.ptr 7 []),(8,AV.ptr 8 []),q12,q11,q8] [(6,f7.var I2 q3),(7,f7.var (Ty.arr 6 I2) (List.set o7 (Int.toNat (Prod.fst q0)) q1)),(8,f7.var (Ty.arr 30 I2) (List.set o8 q14 q1)),q6]))))) (.e8 (List.length o1000005+List.length q4≤140737488355328∧(List.length o1000005+List.length q4)*Ty.wb I2≤140737488355328) (.e8 q13 (.ctL (d9 (d8 Try.prog 74) 9) (St.mk [(5,AV.at_ 1000005 []),(6,AV.ptr 6 []),(7,AV.ptr 7 []),(8,AV.ptr 8 []),q12,q11,q8] [(6,f7.var I2 q3),(7,f7.var (Ty.arr 6 I2) (List.set o7 (Int.toNat (Prod.fst q0)) q1)),(8,f7.var (Ty.arr 30 I2) o8),q6]))))))))))))) (.e8 ((0:Int)≤Prod.fst q0∧Prod.fst q0<(↑6:Int)) (.e8 (r9 IntKind.i64 q9) (.e8 ((0:Int)≤Prod.fst q0∧Prod.fst q0<(↑6:Int)) (.e8 ((0:Int)≤Prod.fst q0∧Prod.fst q0<(↑6:Int)) (.e8 ((0:Int)≤Prod.fst q0∧Prod.fst q0<(↑6:Int)) (.e8 ((0:Int)≤Prod.fst q0∧Prod.fst q0<(↑6:Int)) (cond (decide (Prod.fst (Prod.snd q0)=(2:Int))) (.e8 ((0:Int)≤Prod.fst (Prod.snd (Prod.snd q0))∧Prod.fst (Prod.snd (Prod.snd q0))<(↑30:Int)) (.e8 (List.length o1000005+List.length q5≤140737488355328∧(List.length o1000005+List.length q5)*Ty.wb I2≤140737488355328) (.e8 q13 (.ctL (d9 (d8 Try.prog 74) 9) (St.mk [(5,AV.at_ 1000005 []),(6,AV.ptr 6 []),(7,AV.ptr 7 []),(8,AV.ptr 8 []),q12,q11,q8] [(6,f7.var I2 q3),(7,f7.var (Ty.arr 6 I2) (List.set o7 (Int.toNat (Prod.fst q0)) q2)),(8,f7.var (Ty.arr 30 I2) (List.set o8 q14 q2)),q7]))))) (.e8 (List.length o1000005+List.length q5≤140737488355328∧(List.length o1000005+List.length q5)*Ty.wb I2≤140737488355328) (.e8 q13 (.ctL (d9 (d8 Try.prog 74) 9) (St.mk [(5,AV.at_ 1000005 []),(6,AV.ptr 6 []),(7,AV.ptr 7 []),(8,AV.ptr 8 []),q12,q11,q8] [(6,f7.var I2 q3),(7,f7.var (Ty.arr 6 I2) (List.set o7 (Int.toNat (Prod.fst q0)) q2)),(8,f7.var (Ty.arr 30 I2) o8),q7])))))))))))))) (.ret ((o1000005,(0:Int),()))):=by kernel_rfl
theorem b0I:a8A.Valid Try.prog 74:=by
  refine w9.u7 a4x rfl rfl Try.func74 (c:=d8 Try.prog 74) rfl rfl a4v rfl ?_
  rintro ⟨(h:List Ev),⟨⟩⟩ - -
  refine n7 (n:=1000) a4x a4v ?_
  refine g9 (b8u h) ?_
  simp only [i9,Tree.holds,true_and,true_implies,decide_eq_true_eq,decide_eq_false_iff_not,Bool.not_eq_true',Bool.not_eq_false',Int.toNat_natCast,l7,List.length_set,List.length_cons,List.length_nil]
  refine ⟨fun a=>?_,fun a=>?_⟩
  · show (([],t8 h,()):List (List Int)×Int×Unit)=a0G h; rw [a0G,if_pos a]
  have hh:t8 h=0:=Decidable.of_not_not a
  have hl:=(U9 hh).1
  refine Reach.C1 a4x a4v (fun s:Nat×List Int×List (List Int)×List (List Int)×List (List Int)=>a8b h (h.length:Int) (s.1:Int) s.2.1 s.2.2.1 s.2.2.2.1 s.2.2.2.2)
    (fun s=>s.1≤h.length∧s.2.2.2.2.length=s.1∧s.2.1.length=6∧(∀ j,s.2.1.getD j 0≤s.1∧0≤s.2.1.getD j 0)∧a0G h=(s.2.2.2.2++vGo s.2.1 s.2.2.1 s.2.2.2.1 (h.drop s.1),0,()))
    (fun s=>h.length - s.1) 1000 (fun _=>⟨j7 rfl,j7 rfl⟩) ?_ (0,List.replicate 6 0,List.replicate 6 v0,List.replicate 30 v0,[]) ⟨by simp,rfl,rfl,fun j=>by show (List.replicate 6 (0:Int)).getD j 0≤0∧0≤(List.replicate 6 (0:Int)).getD j 0; rw [b68]; omega,by rw [a0G,if_neg a]; rfl⟩
  rintro ⟨i,last,now,sent,out⟩ ⟨k1,k2,k4,k3,k5⟩ - ih
  have k1:i≤h.length:=k1
  have k2:out.length=i:=k2
  have k4:last.length=6:=k4
  have k3:∀ j,last.getD j 0≤i∧0≤last.getD j 0:=k3
  have k5:a0G h=(out++vGo last now sent (h.drop i),0,()):=k5
  refine g9 (b5C ..) ?_
  by_cases hi:i<h.length
  · rw [S3 hi e0,vGo] at k5
    have hr:=a27 hh hi
    rw [show h.getD i e0=h.getD (Int.toNat (i:Int)) e0 from rfl] at k5 hr
    generalize h.getD (Int.toNat (i:Int)) e0=e at *
    obtain ⟨p,k,m,⟨⟩⟩:=e
    have hr:(0≤p∧p≤5)∧(0≤m∧m≤29)∧(k=1∨k=2∨k=3):=hr
    have hg:(last.set p.toNat (last.getD p.toNat 0+1)).getD p.toNat 0=last.getD p.toNat 0+1:=by rw [B8 (by omega),if_pos rfl]
    have hp:=k3 p.toNat
    have hnext:=fun (sent':List (List Int)) (hs:(if k=2 then sent.set m.toNat (vOf last now sent (p,k,m,())) else sent)=sent')=>ih (i+1,last.set p.toNat (last.getD p.toNat 0+1),now.set p.toNat (vOf last now sent (p,k,m,())),sent',out++[vOf last now sent (p,k,m,())]) (by
      subst hs
      refine ⟨hi,by simp [k2],by simp [k4],fun j=>?_,?_⟩
      · exact a4r (fun j=>by have:=k3 j; show _≤((i+1:Nat):Int)∧_; omega) (by show _≤((i+1:Nat):Int)∧_; omega)
      · rw [k5]; simp) (by show h.length - (i+1)<h.length - i; omega)
    have e3:k=3→(b2O (now.getD p.toNat v0) (sent.getD m.toNat v0)).set p.toNat (last.getD p.toNat 0+1)=vOf last now sent (p,k,m,()):=fun h=>by simp [vOf,h]
    have e1:k≠3→(now.getD p.toNat v0).set p.toNat (last.getD p.toNat 0+1)=vOf last now sent (p,k,m,()):=fun h=>by simp [vOf,h]
    simp only [i9,Tree.holds,true_and,true_implies,decide_eq_true_eq,decide_eq_false_iff_not,Bool.not_eq_true',Bool.not_eq_false',Int.toNat_natCast,l7,List.length_set,List.length_cons,List.length_nil,c4o,hg]
    by_cases hk3:k=3
    · rw [e3 hk3]
      have:=hnext _ (if_neg (by omega))
      exact ⟨fun _=>⟨by omega,fun _=>⟨by omega,fun _=>⟨fun _=>⟨by omega,fun _=>⟨by omega,fun _=>⟨by omega,fun _=>⟨by omega,fun _=>⟨by omega,fun _=>⟨by omega,fun _=>⟨by omega,fun _=>⟨fun h=>absurd h (by omega),fun _=>⟨by omega,fun _=>⟨by omega,fun _=>this⟩⟩⟩⟩⟩⟩⟩⟩⟩⟩,fun h=>absurd hk3 h⟩⟩⟩,fun h=>absurd h (by omega)⟩
    · rw [e1 hk3]
      exact ⟨fun _=>⟨by omega,fun _=>⟨by omega,fun _=>⟨fun h=>absurd h hk3,fun _=>⟨by omega,fun _=>⟨by omega,fun _=>⟨by omega,fun _=>⟨by omega,fun _=>⟨by omega,fun _=>⟨by omega,fun _=>⟨fun h=>⟨by omega,fun _=>⟨by omega,fun _=>⟨by omega,fun _=>hnext _ (if_pos h)⟩⟩⟩,fun h=>⟨by omega,fun _=>⟨by omega,fun _=>hnext _ (if_neg h)⟩⟩⟩⟩⟩⟩⟩⟩⟩⟩⟩⟩,fun h=>absurd h (by omega)⟩
  · rw [List.drop_eq_nil_of_le (by omega)] at k5
    simp only [i9,Tree.holds,true_and,true_implies,decide_eq_true_eq,decide_eq_false_iff_not,Bool.not_eq_true',Bool.not_eq_false',Int.toNat_natCast,l7,List.length_set,List.length_cons,List.length_nil]
    refine ⟨fun b=>absurd b (by omega),fun b=>?_⟩
    show ((out,0,()):List (List Int)×Int×Unit)=a0G h; rw [k5]; simp [vGo]
end Go.Proofs.Ytekbamiaenbhjaa
