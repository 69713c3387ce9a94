/- match.Cover. No condition. -/
import Derived.Test.YtegigiecamjobaaCovA
namespace Go.Proofs.Ytegigiecamjobaa
open Go.Ex
set_option maxRecDepth 100000
def covStep (g:GraphD) (s:LR) (a:Nat):LR:=if (a:Int)∈g.2.1 then s else reachF 41 g s (a:Int)
def covLR (g:GraphD) (m n:Nat):LR:=(List.range m).foldl (covStep g) (List.replicate m false,List.replicate n false)
def whereB (v:Bool) (l:List Bool) (k:Nat):List Int:=((List.range k).filter (fun a=>l.getD a false == v)).map (fun a:Nat=>(a:Int))
def coverR (m n:Int) (l:List PairD):List Int×List Int×Int×Unit :=
  if mcheck m n l≠0 then ([],[],mcheck m n l,()) else (whereB false (covLR (mostF m n l) m.toNat n.toNat).1 m.toNat,whereB true (covLR (mostF m n l) m.toNat n.toNat).2 n.toNat,0,())
def ccover:Ctr:={ ps:=[.v I64,.v I64,.v (.slc false PairT)],rs:=[.slc true I64,.slc true I64,I64],pre:=fun _=>True,fn:=fun x=>coverR x.1 x.2.1 x.2.2.1,out:=fun _=>() }
noncomputable def Ecover:Env:={ P:=Try.prog,tt:=tt,ctr:=[(76,cmcheck),(77,cmost),(34,ccontI),(79,cr41)],res:=[Go.ResultVar.tmp 6,Go.ResultVar.tmp 7,Go.ResultVar.tmp 8],rs:=[Ty.slc true (Ty.int IntKind.i64),Ty.slc true (Ty.int IntKind.i64),Ty.int IntKind.i64],ps:=[PK.v (Ty.int IntKind.i64),PK.v (Ty.int IntKind.i64),PK.v (Ty.slc false PairT)],cuts:=[(9,[(10,none),(11,none),(12,none),(13,none),(37,none),(38,none)]),(16,[(12,none),(15,some Is),(16,none),(52,none),(53,none),(54,none)]),(22,[(15,some Is),(16,some Is),(66,none),(67,none),(68,none)])],nt:=81 }
theorem Ecover_ok:EnvOk Ecover:=envOk tt_ok ⟨cmcheck_valid,cmost_valid,ccontI_valid,cr41_valid,trivial⟩
theorem Fcover_ok:FnOk Ecover Try.f33:=⟨rfl,rfl⟩
theorem Ecover_t (x0:Int) (x1:Int) (x2:List (Int×Int×Unit)):exec Ecover 1000 [.code (bodyOf Try.prog 33)] (initSt ccover.ps ((x0,x1,x2,()))) =
  .need (True) (cond (decide (mcheck x0 x1 x2≠(0:Int))) (.ret (([],[],mcheck x0 x1 x2,()))) (.need (inP x0 x1 x2) (.need (True) (.need ((0:Int)≤x0∧x0≤x0∧x0≤(140737488355328:Int)∧x0*(↑(Ty.wb Ty.bool):Int)≤(140737488355328:Int)) (.need ((0:Int)≤x1∧x1≤x1∧x1≤(140737488355328:Int)∧x1*(↑(Ty.wb Ty.bool):Int)≤(140737488355328:Int)) (.need (True) (.cut (loopAt (bodyOf Try.prog 33) 9).1 (loopAt (bodyOf Try.prog 33) 9).2 (St.mk [(10,AV.bx (AV.ptr 1031 [])),(11,AV.ptr 11 []),(12,AV.ptr 12 []),(13,AV.bx (AV.clo 79 (AV.rc 79 (AV.cons (AV.ptr 11 []) (AV.cons (AV.bx (AV.ptr 1031 [])) (AV.cons (AV.ptr 12 []) AV.nil)))))),(37,AV.val (Ty.int IntKind.i64) x0),(38,AV.val (Ty.int IntKind.i64) (0:Int))] [(11,Ent.var (Ty.slc true Ty.bool) (List.replicate (Int.toNat x0) false)),(12,Ent.var (Ty.slc true Ty.bool) (List.replicate (Int.toNat x1) false)),(1031,Ent.var (Ty.pair (Ty.slc false (Ty.slc false Ty.bool)) (Ty.pair Is (Ty.pair (Ty.slc true Ty.bool) Ty.unit))) (mostF x0 x1 x2))])))))))):=by kernel_rfl
def Ecover_s9 (v37:Int) (v38:Int) (o11:List Bool) (o12:List Bool) (o1031_1:List (List Bool)) (o1031_2_1:List Int) (o1031_2_2_1:List Bool):St:=St.mk [(10,AV.bx (AV.ptr 1031 [])),(11,AV.ptr 11 []),(12,AV.ptr 12 []),(13,AV.bx (AV.clo 79 (AV.rc 79 (AV.cons (AV.ptr 11 []) (AV.cons (AV.bx (AV.ptr 1031 [])) (AV.cons (AV.ptr 12 []) AV.nil)))))),(37,AV.val (Ty.int IntKind.i64) v37),(38,AV.val (Ty.int IntKind.i64) v38)] [(11,Ent.var (Ty.slc true Ty.bool) o11),(12,Ent.var (Ty.slc true Ty.bool) o12),(1031,Ent.var (Ty.pair (Ty.slc false (Ty.slc false Ty.bool)) (Ty.pair Is (Ty.pair (Ty.slc true Ty.bool) Ty.unit))) (o1031_1,o1031_2_1,o1031_2_2_1,()))]
theorem Ecover_l9 (v37:Int) (v38:Int) (o11:List Bool) (o12:List Bool) (o1031_1:List (List Bool)) (o1031_2_1:List Int) (o1031_2_2_1:List Bool):exec Ecover 1000 (.code (loopAt (bodyOf Try.prog 33) 9).1::.inLoop (loopAt (bodyOf Try.prog 33) 9).1::(loopAt (bodyOf Try.prog 33) 9).2) (Ecover_s9 v37 v38 o11 o12 o1031_1 o1031_2_1 o1031_2_2_1) =
  cond (decide (v38<v37)) (.need (True) (cond (!decide (v38∈o1031_2_1)) (.need (reachP 41 (some (o1031_1,o1031_2_1,o1031_2_2_1,())) (o11,o12) v38) (.need (inK IntKind.i64 (v38+(1:Int))) (.cut (loopAt (bodyOf Try.prog 33) 9).1 (loopAt (bodyOf Try.prog 33) 9).2 (St.mk [(10,AV.bx (AV.ptr 1031 [])),(11,AV.ptr 11 []),(12,AV.ptr 12 []),(13,AV.bx (AV.clo 79 (AV.rc 79 (AV.cons (AV.ptr 11 []) (AV.cons (AV.bx (AV.ptr 1031 [])) (AV.cons (AV.ptr 12 []) AV.nil)))))),(37,AV.val (Ty.int IntKind.i64) v37),(38,AV.val (Ty.int IntKind.i64) (v38+(1:Int)))] [(11,Ent.var (Ty.slc true Ty.bool) (Prod.fst (reachF 41 (gOf (some (o1031_1,o1031_2_1,o1031_2_2_1,()))) (o11,o12) v38))),(12,Ent.var (Ty.slc true Ty.bool) (Prod.snd (reachF 41 (gOf (some (o1031_1,o1031_2_1,o1031_2_2_1,()))) (o11,o12) v38))),(1031,Ent.var (Ty.pair (Ty.slc false (Ty.slc false Ty.bool)) (Ty.pair Is (Ty.pair (Ty.slc true Ty.bool) Ty.unit))) (o1031_1,o1031_2_1,o1031_2_2_1,()))])))) (.need (inK IntKind.i64 (v38+(1:Int))) (.cut (loopAt (bodyOf Try.prog 33) 9).1 (loopAt (bodyOf Try.prog 33) 9).2 (St.mk [(10,AV.bx (AV.ptr 1031 [])),(11,AV.ptr 11 []),(12,AV.ptr 12 []),(13,AV.bx (AV.clo 79 (AV.rc 79 (AV.cons (AV.ptr 11 []) (AV.cons (AV.bx (AV.ptr 1031 [])) (AV.cons (AV.ptr 12 []) AV.nil)))))),(37,AV.val (Ty.int IntKind.i64) v37),(38,AV.val (Ty.int IntKind.i64) (v38+(1:Int)))] [(11,Ent.var (Ty.slc true Ty.bool) o11),(12,Ent.var (Ty.slc true Ty.bool) o12),(1031,Ent.var (Ty.pair (Ty.slc false (Ty.slc false Ty.bool)) (Ty.pair Is (Ty.pair (Ty.slc true Ty.bool) Ty.unit))) (o1031_1,o1031_2_1,o1031_2_2_1,()))]))))) (.cut (loopAt (bodyOf Try.prog 33) 16).1 (loopAt (bodyOf Try.prog 33) 16).2 (St.mk [(12,AV.ptr 12 []),(15,AV.at_ 1000015 []),(16,AV.raw (Go.Value.slice none 0 0)),(52,AV.at_ 11 []),(53,AV.val (Ty.int IntKind.i64) (↑(List.length o11):Int)),(54,AV.val (Ty.int IntKind.i64) (0:Int))] [(11,Ent.var (Ty.slc true Ty.bool) o11),(12,Ent.var (Ty.slc true Ty.bool) o12),(1000015,Ent.own Is [])])):=by kernel_rfl
def Ecover_s16 (v53:Int) (v54:Int) (o11:List Bool) (o12:List Bool) (o1000015:List Int):St:=St.mk [(12,AV.ptr 12 []),(15,AV.at_ 1000015 []),(16,AV.raw (Go.Value.slice none 0 0)),(52,AV.at_ 11 []),(53,AV.val (Ty.int IntKind.i64) v53),(54,AV.val (Ty.int IntKind.i64) v54)] [(11,Ent.var (Ty.slc true Ty.bool) o11),(12,Ent.var (Ty.slc true Ty.bool) o12),(1000015,Ent.own Is o1000015)]
theorem Ecover_l16 (v53:Int) (v54:Int) (o11:List Bool) (o12:List Bool) (o1000015:List Int):exec Ecover 1000 (.code (loopAt (bodyOf Try.prog 33) 16).1::.inLoop (loopAt (bodyOf Try.prog 33) 16).1::(loopAt (bodyOf Try.prog 33) 16).2) (Ecover_s16 v53 v54 o11 o12 o1000015) =
  cond (decide (v54<v53)) (.need ((0:Int)≤v54∧v54<(↑(List.length o11):Int)) (cond (!List.getD o11 (Int.toNat v54) false) (.need (List.length o1000015+List.length (List.set [(0:Int)] (Int.toNat (↑0:Int)) v54)≤140737488355328∧(List.length o1000015+List.length (List.set [(0:Int)] (Int.toNat (↑0:Int)) v54))*Ty.wb (Ty.int IntKind.i64)≤140737488355328) (.need (inK IntKind.i64 (v54+(1:Int))) (.cut (loopAt (bodyOf Try.prog 33) 16).1 (loopAt (bodyOf Try.prog 33) 16).2 (St.mk [(12,AV.ptr 12 []),(15,AV.at_ 1000015 []),(16,AV.raw (Go.Value.slice none 0 0)),(52,AV.at_ 11 []),(53,AV.val (Ty.int IntKind.i64) v53),(54,AV.val (Ty.int IntKind.i64) (v54+(1:Int)))] [(11,Ent.var (Ty.slc true Ty.bool) o11),(12,Ent.var (Ty.slc true Ty.bool) o12),(1000015,Ent.own Is (o1000015++List.set [(0:Int)] (Int.toNat (↑0:Int)) v54))])))) (.need (inK IntKind.i64 (v54+(1:Int))) (.cut (loopAt (bodyOf Try.prog 33) 16).1 (loopAt (bodyOf Try.prog 33) 16).2 (St.mk [(12,AV.ptr 12 []),(15,AV.at_ 1000015 []),(16,AV.raw (Go.Value.slice none 0 0)),(52,AV.at_ 11 []),(53,AV.val (Ty.int IntKind.i64) v53),(54,AV.val (Ty.int IntKind.i64) (v54+(1:Int)))] [(11,Ent.var (Ty.slc true Ty.bool) o11),(12,Ent.var (Ty.slc true Ty.bool) o12),(1000015,Ent.own Is o1000015)]))))) (.cut (loopAt (bodyOf Try.prog 33) 22).1 (loopAt (bodyOf Try.prog 33) 22).2 (St.mk [(15,AV.at_ 1000015 []),(16,AV.at_ 1000016 []),(66,AV.at_ 12 []),(67,AV.val (Ty.int IntKind.i64) (↑(List.length o12):Int)),(68,AV.val (Ty.int IntKind.i64) (0:Int))] [(12,Ent.var (Ty.slc true Ty.bool) o12),(1000015,Ent.own Is o1000015),(1000016,Ent.own Is [])])):=by kernel_rfl
def Ecover_s22 (v67:Int) (v68:Int) (o12:List Bool) (o1000015:List Int) (o1000016:List Int):St:=St.mk [(15,AV.at_ 1000015 []),(16,AV.at_ 1000016 []),(66,AV.at_ 12 []),(67,AV.val (Ty.int IntKind.i64) v67),(68,AV.val (Ty.int IntKind.i64) v68)] [(12,Ent.var (Ty.slc true Ty.bool) o12),(1000015,Ent.own Is o1000015),(1000016,Ent.own Is o1000016)]
theorem Ecover_l22 (v67:Int) (v68:Int) (o12:List Bool) (o1000015:List Int) (o1000016:List Int):exec Ecover 1000 (.code (loopAt (bodyOf Try.prog 33) 22).1::.inLoop (loopAt (bodyOf Try.prog 33) 22).1::(loopAt (bodyOf Try.prog 33) 22).2) (Ecover_s22 v67 v68 o12 o1000015 o1000016) =
  cond (decide (v68<v67)) (.need ((0:Int)≤v68∧v68<(↑(List.length o12):Int)) (cond (List.getD o12 (Int.toNat v68) false) (.need (List.length o1000016+List.length (List.set [(0:Int)] (Int.toNat (↑0:Int)) v68)≤140737488355328∧(List.length o1000016+List.length (List.set [(0:Int)] (Int.toNat (↑0:Int)) v68))*Ty.wb (Ty.int IntKind.i64)≤140737488355328) (.need (inK IntKind.i64 (v68+(1:Int))) (.cut (loopAt (bodyOf Try.prog 33) 22).1 (loopAt (bodyOf Try.prog 33) 22).2 (St.mk [(15,AV.at_ 1000015 []),(16,AV.at_ 1000016 []),(66,AV.at_ 12 []),(67,AV.val (Ty.int IntKind.i64) v67),(68,AV.val (Ty.int IntKind.i64) (v68+(1:Int)))] [(12,Ent.var (Ty.slc true Ty.bool) o12),(1000015,Ent.own Is o1000015),(1000016,Ent.own Is (o1000016++List.set [(0:Int)] (Int.toNat (↑0:Int)) v68))])))) (.need (inK IntKind.i64 (v68+(1:Int))) (.cut (loopAt (bodyOf Try.prog 33) 22).1 (loopAt (bodyOf Try.prog 33) 22).2 (St.mk [(15,AV.at_ 1000015 []),(16,AV.at_ 1000016 []),(66,AV.at_ 12 []),(67,AV.val (Ty.int IntKind.i64) v67),(68,AV.val (Ty.int IntKind.i64) (v68+(1:Int)))] [(12,Ent.var (Ty.slc true Ty.bool) o12),(1000015,Ent.own Is o1000015),(1000016,Ent.own Is o1000016)]))))) (.ret ((o1000015,o1000016,(0:Int),()))):=by kernel_rfl
theorem whereB_succ (v:Bool) (l:List Bool) (k:Nat):whereB v l (k+1)=whereB v l k++(if l.getD k false=v then [(k:Int)] else []):=by
  rw [whereB,whereB,List.range_succ,List.filter_append,List.map_append]
  congr 1
  by_cases h:l.getD k false=v
  · rw [if_pos h,List.filter_cons_of_pos (by simpa using h)]; rfl
  · rw [if_neg h,List.filter_cons_of_neg (by simpa using h)]; rfl
theorem whereB_len (v:Bool) (l:List Bool) (k:Nat):(whereB v l k).length≤k:=by
  rw [whereB,List.length_map]
  exact Nat.le_trans (List.length_filter_le ..) (by simp)
theorem unseen_le (l:List Bool):unseen l≤l.length:=List.length_filter_le ..
theorem covStep_grew (g:GraphD) (s:LR) (a:Nat):Grew s (covStep g s a):=by
  rw [covStep]; split
  · exact Grew.refl s
  · exact reachF_grew
theorem covs_grew (g:GraphD):∀ (l:List Nat) (s:LR),Grew s (l.foldl (covStep g) s)
  | [],s=>Grew.refl s
  | a::l,s=>(covStep_grew g s a).trans (covs_grew g l _)
theorem ccover_valid:ccover.Valid Try.prog 33:=by
  refine Ctr.valid_of Ecover_ok rfl rfl Try.func33 (c:=bodyOf Try.prog 33) rfl rfl Fcover_ok rfl ?_
  rintro ⟨(m:Int),(n:Int),(l:List PairD),⟨⟩⟩ - -
  refine exec_sound (n:=1000) Ecover_ok Fcover_ok ?_
  refine holds_of_eq (Ecover_t m n l) ?_
  have hd:coverR m n l=if mcheck m n l≠0 then ([],[],mcheck m n l,()) else (whereB false (covLR (mostF m n l) m.toNat n.toNat).1 m.toNat,whereB true (covLR (mostF m n l) m.toNat n.toNat).2 n.toNat,0,()):=rfl
  simp only [holds_cond,Tree.holds,true_and,true_implies,decide_eq_true_eq,decide_eq_false_iff_not,Bool.not_eq_true',Bool.not_eq_false',Int.toNat_natCast,inK_i64,List.length_set,List.length_cons,List.length_nil]
  refine ⟨fun e=>?_,fun e=>?_⟩
  · show (([],[],mcheck m n l,()):List Int×List Int×Int×Unit)=coverR m n l
    rw [hd,if_pos e]
  rw [if_neg e] at hd
  have hin:=(mcheck_ok (Decidable.not_not.1 e)).1
  obtain ⟨M,rfl⟩:∃ M:Nat,m=(M:Int):=⟨m.toNat,by have:=hin.1.1; omega⟩
  obtain ⟨N,rfl⟩:∃ N:Nat,n=(N:Int):=⟨n.toNat,by have:=hin.2.1.1; omega⟩
  have hM:M≤40:=by have:=hin.1.2; omega
  have hN:N≤40:=by have:=hin.2.1.2; omega
  rw [wb_bool]
  refine ⟨hin,fun _=>⟨by omega,fun _=>⟨by omega,fun _=>?_⟩⟩⟩
  have hI:MInv M N M (mostF (M:Int) (N:Int) l):=most_inv hM hN (Nat.le_refl M)
  rw [Int.toNat_natCast,Int.toNat_natCast] at hd
  generalize mostF (M:Int) (N:Int) l=G at *
  obtain ⟨g1,g2,g3,⟨⟩⟩:=G
  have hfin:∀ {X Y:List Int},X=whereB false (covLR (g1,g2,g3,()) M N).1 M→Y=whereB true (covLR (g1,g2,g3,()) M N).2 N→((X,Y,0,()):List Int×List Int×Int×Unit)=coverR (M:Int) (N:Int) l:=by
    rintro X Y rfl rfl; rw [hd]
  refine Reach.loopI Ecover_ok Fcover_ok (fun s:Nat×LR=>Ecover_s9 (M:Int) (s.1:Int) s.2.1 s.2.2 g1 g2 g3) (fun s=>s.1≤M∧s.2=(List.range s.1).foldl (covStep (g1,g2,g3,())) (List.replicate M false,List.replicate N false)) (fun s=>M - s.1) 1000 (fun _=>⟨uniq_of rfl,uniq_of rfl⟩) ?_ (0,(List.replicate M false,List.replicate N false)) ⟨Nat.zero_le _,rfl⟩
  rintro ⟨i,⟨L,R⟩⟩ ⟨(k1:i≤M),(k2:(L,R)=(List.range i).foldl (covStep (g1,g2,g3,())) (List.replicate M false,List.replicate N false))⟩ - ih
  have hgr:=covs_grew (g1,g2,g3,()) (List.range i) (List.replicate M false,List.replicate N false)
  rw [← k2] at hgr
  have hL:L.length=M:=by have:=hgr.l1; simpa using this
  have hR:R.length=N:=by have:=hgr.l2; simpa using this
  have hok:ROk (g1,g2,g3,()) (L,R):=by
    refine ⟨?_,?_,?_,?_,?_⟩
    · show g1.length=L.length; rw [hL]; exact hI.ok.may
    · show ∀ a,a<L.length→(g1.getD a []).length=R.length; rw [hL,hR]; exact hI.ok.row
    · show g2.length=R.length; rw [hR]; exact hI.ok.len
    · show ∀ b:Nat,b<R.length→0≤g2.getD b 0→g2.getD b 0<L.length; rw [hL,hR]; exact hI.ok.left
    · show L.length≤1000∧R.length≤1000; omega
  refine holds_of_eq (Ecover_l9 ..) ?_
  simp only [holds_cond,Tree.holds,true_and,true_implies,decide_eq_true_eq,decide_eq_false_iff_not,Bool.not_eq_true',Bool.not_eq_false',Int.toNat_natCast,inK_i64,List.length_set,List.length_cons,List.length_nil]
  have hus:=unseen_le L
  have hnext:(List.range (i+1)).foldl (covStep (g1,g2,g3,())) (List.replicate M false,List.replicate N false)=covStep (g1,g2,g3,()) (L,R) i:=by
    rw [List.range_succ,List.foldl_append,← k2]; rfl
  refine ⟨fun c=>⟨fun d=>⟨⟨rfl,hok,by omega,by show (i:Int)<L.length; omega,by show unseen L<41; omega⟩,fun _=>⟨by omega,fun _=>?_⟩⟩,fun d=>⟨by omega,fun _=>?_⟩⟩,fun c=>?_⟩
  · have d:¬ (i:Int)∈g2:=by simpa using d
    rw [covStep,if_neg d] at hnext
    exact ih (i+1,reachF 41 (g1,g2,g3,()) (L,R) (i:Int)) ⟨by show i+1≤M; omega,hnext.symm⟩ (by show M - (i+1)<M - i; omega)
  · have d:(i:Int)∈g2:=by simpa using d
    rw [covStep,if_pos d] at hnext
    exact ih (i+1,(L,R)) ⟨by show i+1≤M; omega,hnext.symm⟩ (by show M - (i+1)<M - i; omega)
  · obtain rfl:i=M:=by omega
    have hcov:covLR (g1,g2,g3,()) i N=(L,R):=k2.symm
    rw [hcov] at hfin
    refine Reach.loopI Ecover_ok Fcover_ok (fun j:Nat=>Ecover_s16 (L.length:Int) (j:Int) L R (whereB false L j)) (fun j=>j≤i) (fun j=>i - j) 1000 (fun _=>⟨uniq_of rfl,uniq_of rfl⟩) ?_ 0 (Nat.zero_le _)
    rintro j (m1:j≤i) - ih2
    have hw:=whereB_len false L j
    have next:=fun h=>ih2 (j+1) (show j+1≤i by omega) h
    rw [whereB_succ] at next
    refine holds_of_eq (Ecover_l16 ..) ?_
    simp only [holds_cond,Tree.holds,true_and,true_implies,decide_eq_true_eq,decide_eq_false_iff_not,Bool.not_eq_true',Bool.not_eq_false',Int.toNat_natCast,inK_i64,List.length_set,List.length_cons,List.length_nil,wb_i64]
    refine ⟨fun c2=>⟨by omega,fun _=>⟨fun d=>⟨?_,fun _=>⟨by omega,fun _=>?_⟩⟩,fun d=>⟨by omega,fun _=>?_⟩⟩⟩,fun c2=>?_⟩
    · have:((whereB false L j).length+1)≤41:=by omega
      exact ⟨by show (whereB false L j).length+1≤_; omega,by show ((whereB false L j).length+1)*8≤_; omega⟩
    · have d:L.getD j false=false:=by simpa using d
      rw [if_pos d] at next
      exact next (by omega)
    · have d:L.getD j false=true:=by simpa using d
      rw [if_neg (by rw [d]; simp),List.append_nil] at next
      exact next (by omega)
    · obtain rfl:j=i:=by omega
      refine Reach.loopI Ecover_ok Fcover_ok (fun q:Nat=>Ecover_s22 (R.length:Int) (q:Int) R (whereB false L j) (whereB true R q)) (fun q=>q≤N) (fun q=>N - q) 1000 (fun _=>⟨uniq_of rfl,uniq_of rfl⟩) ?_ 0 (Nat.zero_le _)
      rintro q (m2:q≤N) - ih3
      have hw3:=whereB_len true R q
      have next:=fun h=>ih3 (q+1) (show q+1≤N by omega) h
      rw [whereB_succ] at next
      refine holds_of_eq (Ecover_l22 ..) ?_
      simp only [holds_cond,Tree.holds,true_and,true_implies,decide_eq_true_eq,decide_eq_false_iff_not,Bool.not_eq_true',Bool.not_eq_false',Int.toNat_natCast,inK_i64,List.length_set,List.length_cons,List.length_nil,wb_i64]
      refine ⟨fun c3=>⟨by omega,fun _=>⟨fun d=>⟨?_,fun _=>⟨by omega,fun _=>?_⟩⟩,fun d=>⟨by omega,fun _=>?_⟩⟩⟩,fun c3=>?_⟩
      · have:((whereB true R q).length+1)≤41:=by omega
        exact ⟨by show (whereB true R q).length+1≤_; omega,by show ((whereB true R q).length+1)*8≤_; omega⟩
      · rw [if_pos d] at next
        exact next (by omega)
      · rw [if_neg (by rw [d]; simp),List.append_nil] at next
        exact next (by omega)
      · obtain rfl:q=N:=by omega
        exact hfin rfl rfl
end Go.Proofs.Ytegigiecamjobaa
