/- match.Cover. No condition. -/
import Derived.Test.YtekbamiaenbhjaaCovA
namespace Go.Proofs.Ytekbamiaenbhjaa
open Go.Ex
set_option maxRecDepth 100000
def Z1 (g:p9) (s:LR) (a:Nat):LR:=if (a:Int)∈g.2.1 then s else I9 41 g s (a:Int)
def a2v (g:p9) (m n:Nat):LR:=(List.range m).foldl (Z1 g) (List.replicate m false,List.replicate n false)
def I2 (v:Bool) (l:List Bool) (k:Nat):List Int:=((List.range k).filter (fun a=>l.getD a false == v)).map (fun a:Nat=>(a:Int))
def a1r (m n:Int) (l:List l6):List Int×List Int×Int×Unit :=
  if B8 m n l≠0 then ([],[],B8 m n l,()) else (I2 false (a2v (M8 m n l) m.toNat n.toNat).1 m.toNat,I2 true (a2v (M8 m n l) m.toNat n.toNat).2 n.toNat,0,())
def b2k:w8:={ ps:=[.v A4,.v A4,.v (.d0 false l5)],rs:=[.d0 true A4,.d0 true A4,A4],pre:=fun _=>True,fn:=fun x=>a1r x.1 x.2.1 x.2.2.1,out:=fun _=>() }
noncomputable def a37:Env:={ P:=Try.prog,tt:=ttG,F7:=[(196,a31),(197,b0Z),(48,b2o),(198,c1b)],res:=[Go.ResultVar.tmp 6,Go.ResultVar.tmp 7,Go.ResultVar.tmp 8],rs:=[Ty.d0 true (Ty.int IntKind.i64),Ty.d0 true (Ty.int IntKind.i64),Ty.int IntKind.i64],ps:=[PK.v (Ty.int IntKind.i64),PK.v (Ty.int IntKind.i64),PK.v (Ty.d0 false l5)],H2:=[(9,[(10,none),(11,none),(12,none),(13,none),(37,none),(38,none)]),(16,[(12,none),(15,some Is),(16,none),(52,none),(53,none),(54,none)]),(22,[(15,some Is),(16,some Is),(66,none),(67,none),(68,none)])],nt:=81 }
theorem a18:D7 a37:=G8 a43 ⟨a2i,a6x,b2n,b5N,trivial⟩
theorem a17:H9 a37 Try.f98:=⟨rfl,rfl⟩
theorem b9g (x0:Int) (x1:Int) (x2:List (Int×Int×Unit)):exec a37 1000 [.code (d8 Try.prog 98)] (C2 b2k.ps ((x0,x1,x2,()))) =
  .g9 (True) (cond (decide (B8 x0 x1 x2≠(0:Int))) (.ret (([],[],B8 x0 x1 x2,()))) (.g9 (inP x0 x1 x2) (.g9 (True) (.g9 ((0:Int)≤x0∧x0≤x0∧x0≤(140737488355328:Int)∧x0*(↑(Ty.wb Ty.bool):Int)≤(140737488355328:Int)) (.g9 ((0:Int)≤x1∧x1≤x1∧x1≤(140737488355328:Int)∧x1*(↑(Ty.wb Ty.bool):Int)≤(140737488355328:Int)) (.g9 (True) (.cut (e8 (d8 Try.prog 98) 9).1 (e8 (d8 Try.prog 98) 9).2 (St.mk [(10,AV.bx (AV.ptr 1031 [])),(11,AV.ptr 11 []),(12,AV.ptr 12 []),(13,AV.bx (AV.u6 198 (AV.rc 198 (AV.cons (AV.ptr 11 []) (AV.cons (AV.bx (AV.ptr 1031 [])) (AV.cons (AV.ptr 12 []) AV.nil)))))),(37,AV.val (Ty.int IntKind.i64) x0),(38,AV.val (Ty.int IntKind.i64) (0:Int))] [(11,f7.var (Ty.d0 true Ty.bool) (List.replicate (Int.toNat x0) false)),(12,f7.var (Ty.d0 true Ty.bool) (List.replicate (Int.toNat x1) false)),(1031,f7.var (Ty.pair (Ty.d0 false (Ty.d0 false Ty.bool)) (Ty.pair Is (Ty.pair (Ty.d0 true Ty.bool) Ty.unit))) (M8 x0 x1 x2))])))))))):=by kernel_rfl
def b0p (v37:Int) (v38:Int) (o11:List Bool) (o12:List Bool) (o1031_1:List (List Bool)) (o1031_2_1:List Int) (o1031_2_2_1:List Bool):St:=St.mk [(10,AV.bx (AV.ptr 1031 [])),(11,AV.ptr 11 []),(12,AV.ptr 12 []),(13,AV.bx (AV.u6 198 (AV.rc 198 (AV.cons (AV.ptr 11 []) (AV.cons (AV.bx (AV.ptr 1031 [])) (AV.cons (AV.ptr 12 []) AV.nil)))))),(37,AV.val (Ty.int IntKind.i64) v37),(38,AV.val (Ty.int IntKind.i64) v38)] [(11,f7.var (Ty.d0 true Ty.bool) o11),(12,f7.var (Ty.d0 true Ty.bool) o12),(1031,f7.var (Ty.pair (Ty.d0 false (Ty.d0 false Ty.bool)) (Ty.pair Is (Ty.pair (Ty.d0 true Ty.bool) Ty.unit))) (o1031_1,o1031_2_1,o1031_2_2_1,()))]
theorem b75 (v37:Int) (v38:Int) (o11:List Bool) (o12:List Bool) (o1031_1:List (List Bool)) (o1031_2_1:List Int) (o1031_2_2_1:List Bool):exec a37 1000 (.code (e8 (d8 Try.prog 98) 9).1::.inLoop (e8 (d8 Try.prog 98) 9).1::(e8 (d8 Try.prog 98) 9).2) (b0p v37 v38 o11 o12 o1031_1 o1031_2_1 o1031_2_2_1) =
  cond (decide (v38<v37)) (.g9 (True) (cond (!decide (v38∈o1031_2_1)) (.g9 (b1t 41 (some (o1031_1,o1031_2_1,o1031_2_2_1,())) (o11,o12) v38) (.g9 (B2 IntKind.i64 (v38+(1:Int))) (.cut (e8 (d8 Try.prog 98) 9).1 (e8 (d8 Try.prog 98) 9).2 (St.mk [(10,AV.bx (AV.ptr 1031 [])),(11,AV.ptr 11 []),(12,AV.ptr 12 []),(13,AV.bx (AV.u6 198 (AV.rc 198 (AV.cons (AV.ptr 11 []) (AV.cons (AV.bx (AV.ptr 1031 [])) (AV.cons (AV.ptr 12 []) AV.nil)))))),(37,AV.val (Ty.int IntKind.i64) v37),(38,AV.val (Ty.int IntKind.i64) (v38+(1:Int)))] [(11,f7.var (Ty.d0 true Ty.bool) (Prod.fst (I9 41 (gOf (some (o1031_1,o1031_2_1,o1031_2_2_1,()))) (o11,o12) v38))),(12,f7.var (Ty.d0 true Ty.bool) (Prod.snd (I9 41 (gOf (some (o1031_1,o1031_2_1,o1031_2_2_1,()))) (o11,o12) v38))),(1031,f7.var (Ty.pair (Ty.d0 false (Ty.d0 false Ty.bool)) (Ty.pair Is (Ty.pair (Ty.d0 true Ty.bool) Ty.unit))) (o1031_1,o1031_2_1,o1031_2_2_1,()))])))) (.g9 (B2 IntKind.i64 (v38+(1:Int))) (.cut (e8 (d8 Try.prog 98) 9).1 (e8 (d8 Try.prog 98) 9).2 (St.mk [(10,AV.bx (AV.ptr 1031 [])),(11,AV.ptr 11 []),(12,AV.ptr 12 []),(13,AV.bx (AV.u6 198 (AV.rc 198 (AV.cons (AV.ptr 11 []) (AV.cons (AV.bx (AV.ptr 1031 [])) (AV.cons (AV.ptr 12 []) AV.nil)))))),(37,AV.val (Ty.int IntKind.i64) v37),(38,AV.val (Ty.int IntKind.i64) (v38+(1:Int)))] [(11,f7.var (Ty.d0 true Ty.bool) o11),(12,f7.var (Ty.d0 true Ty.bool) o12),(1031,f7.var (Ty.pair (Ty.d0 false (Ty.d0 false Ty.bool)) (Ty.pair Is (Ty.pair (Ty.d0 true Ty.bool) Ty.unit))) (o1031_1,o1031_2_1,o1031_2_2_1,()))]))))) (.cut (e8 (d8 Try.prog 98) 16).1 (e8 (d8 Try.prog 98) 16).2 (St.mk [(12,AV.ptr 12 []),(15,AV.at_ 1000015 []),(16,AV.raw (Go.Value.slice none 0 0)),(52,AV.at_ 11 []),(53,AV.val (Ty.int IntKind.i64) (↑(List.length o11):Int)),(54,AV.val (Ty.int IntKind.i64) (0:Int))] [(11,f7.var (Ty.d0 true Ty.bool) o11),(12,f7.var (Ty.d0 true Ty.bool) o12),(1000015,f7.own Is [])])):=by kernel_rfl
def a8F (v53:Int) (v54:Int) (o11:List Bool) (o12:List Bool) (o1000015:List Int):St:=St.mk [(12,AV.ptr 12 []),(15,AV.at_ 1000015 []),(16,AV.raw (Go.Value.slice none 0 0)),(52,AV.at_ 11 []),(53,AV.val (Ty.int IntKind.i64) v53),(54,AV.val (Ty.int IntKind.i64) v54)] [(11,f7.var (Ty.d0 true Ty.bool) o11),(12,f7.var (Ty.d0 true Ty.bool) o12),(1000015,f7.own Is o1000015)]
theorem b6x (v53:Int) (v54:Int) (o11:List Bool) (o12:List Bool) (o1000015:List Int):exec a37 1000 (.code (e8 (d8 Try.prog 98) 16).1::.inLoop (e8 (d8 Try.prog 98) 16).1::(e8 (d8 Try.prog 98) 16).2) (a8F v53 v54 o11 o12 o1000015) =
  cond (decide (v54<v53)) (.g9 ((0:Int)≤v54∧v54<(↑(List.length o11):Int)) (cond (!List.getD o11 (Int.toNat v54) false) (.g9 (List.length o1000015+List.length (List.set [(0:Int)] (Int.toNat (↑0:Int)) v54)≤140737488355328∧(List.length o1000015+List.length (List.set [(0:Int)] (Int.toNat (↑0:Int)) v54))*Ty.wb (Ty.int IntKind.i64)≤140737488355328) (.g9 (B2 IntKind.i64 (v54+(1:Int))) (.cut (e8 (d8 Try.prog 98) 16).1 (e8 (d8 Try.prog 98) 16).2 (St.mk [(12,AV.ptr 12 []),(15,AV.at_ 1000015 []),(16,AV.raw (Go.Value.slice none 0 0)),(52,AV.at_ 11 []),(53,AV.val (Ty.int IntKind.i64) v53),(54,AV.val (Ty.int IntKind.i64) (v54+(1:Int)))] [(11,f7.var (Ty.d0 true Ty.bool) o11),(12,f7.var (Ty.d0 true Ty.bool) o12),(1000015,f7.own Is (o1000015++List.set [(0:Int)] (Int.toNat (↑0:Int)) v54))])))) (.g9 (B2 IntKind.i64 (v54+(1:Int))) (.cut (e8 (d8 Try.prog 98) 16).1 (e8 (d8 Try.prog 98) 16).2 (St.mk [(12,AV.ptr 12 []),(15,AV.at_ 1000015 []),(16,AV.raw (Go.Value.slice none 0 0)),(52,AV.at_ 11 []),(53,AV.val (Ty.int IntKind.i64) v53),(54,AV.val (Ty.int IntKind.i64) (v54+(1:Int)))] [(11,f7.var (Ty.d0 true Ty.bool) o11),(12,f7.var (Ty.d0 true Ty.bool) o12),(1000015,f7.own Is o1000015)]))))) (.cut (e8 (d8 Try.prog 98) 22).1 (e8 (d8 Try.prog 98) 22).2 (St.mk [(15,AV.at_ 1000015 []),(16,AV.at_ 1000016 []),(66,AV.at_ 12 []),(67,AV.val (Ty.int IntKind.i64) (↑(List.length o12):Int)),(68,AV.val (Ty.int IntKind.i64) (0:Int))] [(12,f7.var (Ty.d0 true Ty.bool) o12),(1000015,f7.own Is o1000015),(1000016,f7.own Is [])])):=by kernel_rfl
def a8E (v67:Int) (v68:Int) (o12:List Bool) (o1000015:List Int) (o1000016:List Int):St:=St.mk [(15,AV.at_ 1000015 []),(16,AV.at_ 1000016 []),(66,AV.at_ 12 []),(67,AV.val (Ty.int IntKind.i64) v67),(68,AV.val (Ty.int IntKind.i64) v68)] [(12,f7.var (Ty.d0 true Ty.bool) o12),(1000015,f7.own Is o1000015),(1000016,f7.own Is o1000016)]
theorem b6w (v67:Int) (v68:Int) (o12:List Bool) (o1000015:List Int) (o1000016:List Int):exec a37 1000 (.code (e8 (d8 Try.prog 98) 22).1::.inLoop (e8 (d8 Try.prog 98) 22).1::(e8 (d8 Try.prog 98) 22).2) (a8E v67 v68 o12 o1000015 o1000016) =
  cond (decide (v68<v67)) (.g9 ((0:Int)≤v68∧v68<(↑(List.length o12):Int)) (cond (List.getD o12 (Int.toNat v68) false) (.g9 (List.length o1000016+List.length (List.set [(0:Int)] (Int.toNat (↑0:Int)) v68)≤140737488355328∧(List.length o1000016+List.length (List.set [(0:Int)] (Int.toNat (↑0:Int)) v68))*Ty.wb (Ty.int IntKind.i64)≤140737488355328) (.g9 (B2 IntKind.i64 (v68+(1:Int))) (.cut (e8 (d8 Try.prog 98) 22).1 (e8 (d8 Try.prog 98) 22).2 (St.mk [(15,AV.at_ 1000015 []),(16,AV.at_ 1000016 []),(66,AV.at_ 12 []),(67,AV.val (Ty.int IntKind.i64) v67),(68,AV.val (Ty.int IntKind.i64) (v68+(1:Int)))] [(12,f7.var (Ty.d0 true Ty.bool) o12),(1000015,f7.own Is o1000015),(1000016,f7.own Is (o1000016++List.set [(0:Int)] (Int.toNat (↑0:Int)) v68))])))) (.g9 (B2 IntKind.i64 (v68+(1:Int))) (.cut (e8 (d8 Try.prog 98) 22).1 (e8 (d8 Try.prog 98) 22).2 (St.mk [(15,AV.at_ 1000015 []),(16,AV.at_ 1000016 []),(66,AV.at_ 12 []),(67,AV.val (Ty.int IntKind.i64) v67),(68,AV.val (Ty.int IntKind.i64) (v68+(1:Int)))] [(12,f7.var (Ty.d0 true Ty.bool) o12),(1000015,f7.own Is o1000015),(1000016,f7.own Is o1000016)]))))) (.ret ((o1000015,o1000016,(0:Int),()))):=by kernel_rfl
theorem a6l (v:Bool) (l:List Bool) (k:Nat):I2 v l (k+1)=I2 v l k++(if l.getD k false=v then [(k:Int)] else []):=by
  rw [I2,I2,List.range_succ,List.filter_append,List.map_append]
  congr 1
  by_cases h:l.getD k false=v
  · rw [if_pos h,List.filter_cons_of_pos (by simpa using h)]; rfl
  · rw [if_neg h,List.filter_cons_of_neg (by simpa using h)]; rfl
theorem a7s (v:Bool) (l:List Bool) (k:Nat):(I2 v l k).length≤k:=by
  rw [I2,List.length_map]
  exact Nat.le_trans (List.length_filter_le ..) (by simp)
theorem b6O (l:List Bool):C9 l≤l.length:=List.length_filter_le ..
theorem b2e (g:p9) (s:LR) (a:Nat):K3 s (Z1 g s a):=by
  rw [Z1]; split
  · exact K3.refl s
  · exact a3B
theorem a94 (g:p9):∀ (l:List Nat) (s:LR),K3 s (l.foldl (Z1 g) s)
  | [],s=>K3.refl s
  | a::l,s=>(b2e g s a).trans (a94 g l _)
theorem b2j:b2k.Valid Try.prog 98:=by
  refine w8.y8 a18 rfl rfl Try.func98 (c:=d8 Try.prog 98) rfl rfl a17 rfl ?_
  rintro ⟨(m:Int),(n:Int),(l:List l6),⟨⟩⟩ - -
  refine p8 (n:=1000) a18 a17 ?_
  refine l4 (b9g m n l) ?_
  have hd:a1r m n l=if B8 m n l≠0 then ([],[],B8 m n l,()) else (I2 false (a2v (M8 m n l) m.toNat n.toNat).1 m.toNat,I2 true (a2v (M8 m n l) m.toNat n.toNat).2 n.toNat,0,()):=rfl
  simp only [p7,Tree.holds,true_and,true_implies,decide_eq_true_eq,decide_eq_false_iff_not,Bool.not_eq_true',Bool.not_eq_false',Int.toNat_natCast,u7,List.length_set,List.length_cons,List.length_nil]
  refine ⟨fun e=>?_,fun e=>?_⟩
  · show (([],[],B8 m n l,()):List Int×List Int×Int×Unit)=a1r m n l
    rw [hd,if_pos e]
  rw [if_neg e] at hd
  have hin:=(a5k (Decidable.not_not.1 e)).1
  obtain ⟨M,rfl⟩:∃ M:Nat,m=(M:Int):=⟨m.toNat,by have:=hin.1.1; omega⟩
  obtain ⟨N,rfl⟩:∃ N:Nat,n=(N:Int):=⟨n.toNat,by have:=hin.2.1.1; omega⟩
  have hM:M≤40:=by have:=hin.1.2; omega
  have hN:N≤40:=by have:=hin.2.1.2; omega
  rw [b9Q]
  refine ⟨hin,fun _=>⟨by omega,fun _=>⟨by omega,fun _=>?_⟩⟩⟩
  have hI:a7d M N M (M8 (M:Int) (N:Int) l):=a6S hM hN (Nat.le_refl M)
  rw [Int.toNat_natCast,Int.toNat_natCast] at hd
  generalize M8 (M:Int) (N:Int) l=G at *
  obtain ⟨g1,g2,g3,⟨⟩⟩:=G
  have hfin:∀ {X Y:List Int},X=I2 false (a2v (g1,g2,g3,()) M N).1 M→Y=I2 true (a2v (g1,g2,g3,()) M N).2 N→((X,Y,0,()):List Int×List Int×Int×Unit)=a1r (M:Int) (N:Int) l:=by
    rintro X Y rfl rfl; rw [hd]
  refine Reach.J8 a18 a17 (fun s:Nat×LR=>b0p (M:Int) (s.1:Int) s.2.1 s.2.2 g1 g2 g3) (fun s=>s.1≤M∧s.2=(List.range s.1).foldl (Z1 (g1,g2,g3,())) (List.replicate M false,List.replicate N false)) (fun s=>M - s.1) 1000 (fun _=>⟨r9 rfl,r9 rfl⟩) ?_ (0,(List.replicate M false,List.replicate N false)) ⟨Nat.zero_le _,rfl⟩
  rintro ⟨i,⟨L,R⟩⟩ ⟨(k1:i≤M),(k2:(L,R)=(List.range i).foldl (Z1 (g1,g2,g3,())) (List.replicate M false,List.replicate N false))⟩ - ih
  have hgr:=a94 (g1,g2,g3,()) (List.range i) (List.replicate M false,List.replicate N false)
  rw [← k2] at hgr
  have hL:L.length=M:=by have:=hgr.l1; simpa using this
  have hR:R.length=N:=by have:=hgr.l2; simpa using this
  have hok:ROk (g1,g2,g3,()) (L,R):=by
    refine ⟨?_,?_,?_,?_,?_⟩
    · show g1.length=L.length; rw [hL]; exact hI.ok.may
    · show ∀ a,a<L.length→(g1.getD a []).length=R.length; rw [hL,hR]; exact hI.ok.row
    · show g2.length=R.length; rw [hR]; exact hI.ok.len
    · show ∀ b:Nat,b<R.length→0≤g2.getD b 0→g2.getD b 0<L.length; rw [hL,hR]; exact hI.ok.left
    · show L.length≤1000∧R.length≤1000; omega
  refine l4 (b75 ..) ?_
  simp only [p7,Tree.holds,true_and,true_implies,decide_eq_true_eq,decide_eq_false_iff_not,Bool.not_eq_true',Bool.not_eq_false',Int.toNat_natCast,u7,List.length_set,List.length_cons,List.length_nil]
  have hus:=b6O L
  have hnext:(List.range (i+1)).foldl (Z1 (g1,g2,g3,())) (List.replicate M false,List.replicate N false)=Z1 (g1,g2,g3,()) (L,R) i:=by
    rw [List.range_succ,List.foldl_append,← k2]; rfl
  refine ⟨fun c=>⟨fun d=>⟨⟨rfl,hok,by omega,by show (i:Int)<L.length; omega,by show C9 L<41; omega⟩,fun _=>⟨by omega,fun _=>?_⟩⟩,fun d=>⟨by omega,fun _=>?_⟩⟩,fun c=>?_⟩
  · have d:¬ (i:Int)∈g2:=by simpa using d
    rw [Z1,if_neg d] at hnext
    exact ih (i+1,I9 41 (g1,g2,g3,()) (L,R) (i:Int)) ⟨by show i+1≤M; omega,hnext.symm⟩ (by show M - (i+1)<M - i; omega)
  · have d:(i:Int)∈g2:=by simpa using d
    rw [Z1,if_pos d] at hnext
    exact ih (i+1,(L,R)) ⟨by show i+1≤M; omega,hnext.symm⟩ (by show M - (i+1)<M - i; omega)
  · obtain rfl:i=M:=by omega
    have hcov:a2v (g1,g2,g3,()) i N=(L,R):=k2.symm
    rw [hcov] at hfin
    refine Reach.J8 a18 a17 (fun j:Nat=>a8F (L.length:Int) (j:Int) L R (I2 false L j)) (fun j=>j≤i) (fun j=>i - j) 1000 (fun _=>⟨r9 rfl,r9 rfl⟩) ?_ 0 (Nat.zero_le _)
    rintro j (m1:j≤i) - ih2
    have hw:=a7s false L j
    have next:=fun h=>ih2 (j+1) (show j+1≤i by omega) h
    rw [a6l] at next
    refine l4 (b6x ..) ?_
    simp only [p7,Tree.holds,true_and,true_implies,decide_eq_true_eq,decide_eq_false_iff_not,Bool.not_eq_true',Bool.not_eq_false',Int.toNat_natCast,u7,List.length_set,List.length_cons,List.length_nil,b1a]
    refine ⟨fun c2=>⟨by omega,fun _=>⟨fun d=>⟨?_,fun _=>⟨by omega,fun _=>?_⟩⟩,fun d=>⟨by omega,fun _=>?_⟩⟩⟩,fun c2=>?_⟩
    · have:((I2 false L j).length+1)≤41:=by omega
      exact ⟨by show (I2 false L j).length+1≤_; omega,by show ((I2 false L j).length+1)*8≤_; omega⟩
    · have d:L.getD j false=false:=by simpa using d
      rw [if_pos d] at next
      exact next (by omega)
    · have d:L.getD j false=true:=by simpa using d
      rw [if_neg (by rw [d]; simp),List.append_nil] at next
      exact next (by omega)
    · obtain rfl:j=i:=by omega
      refine Reach.J8 a18 a17 (fun q:Nat=>a8E (R.length:Int) (q:Int) R (I2 false L j) (I2 true R q)) (fun q=>q≤N) (fun q=>N - q) 1000 (fun _=>⟨r9 rfl,r9 rfl⟩) ?_ 0 (Nat.zero_le _)
      rintro q (m2:q≤N) - ih3
      have hw3:=a7s true R q
      have next:=fun h=>ih3 (q+1) (show q+1≤N by omega) h
      rw [a6l] at next
      refine l4 (b6w ..) ?_
      simp only [p7,Tree.holds,true_and,true_implies,decide_eq_true_eq,decide_eq_false_iff_not,Bool.not_eq_true',Bool.not_eq_false',Int.toNat_natCast,u7,List.length_set,List.length_cons,List.length_nil,b1a]
      refine ⟨fun c3=>⟨by omega,fun _=>⟨fun d=>⟨?_,fun _=>⟨by omega,fun _=>?_⟩⟩,fun d=>⟨by omega,fun _=>?_⟩⟩⟩,fun c3=>?_⟩
      · have:((I2 true R q).length+1)≤41:=by omega
        exact ⟨by show (I2 true R q).length+1≤_; omega,by show ((I2 true R q).length+1)*8≤_; omega⟩
      · rw [if_pos d] at next
        exact next (by omega)
      · rw [if_neg (by rw [d]; simp),List.append_nil] at next
        exact next (by omega)
      · obtain rfl:q=N:=by omega
        exact hfin rfl rfl
end Go.Proofs.Ytekbamiaenbhjaa
