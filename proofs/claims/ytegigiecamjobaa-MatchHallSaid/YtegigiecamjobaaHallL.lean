/- MatchHall. No condition. -/
import Derived.Test.YtegigiecamjobaaHallP
import Derived.Test.YtegigiecamjobaaCovB
namespace Go.Proofs.Ytegigiecamjobaa
open Go.Ex
set_option maxRecDepth 100000
def cMatchHall:Ctr:={ ps:=[.v I64,.v I64,.v (.slc false PairT),.v (.slc false I64)],rs:=[.bool],pre:=fun _=>True,fn:=fun _=>(true,()),out:=fun _=>() }
noncomputable def EMatchHall:Env:={ P:=Try.prog,tt:=tt,ctr:=[(22,crest),(31,cmostR),(33,ccover),(29,ceqI),(34,ccontI),(40,cgoW)],res:=[Go.ResultVar.tmp 8],rs:=[Ty.bool],ps:=[PK.v (Ty.int IntKind.i64),PK.v (Ty.int IntKind.i64),PK.v (Ty.slc false PairT),PK.v (Ty.slc false (Ty.int IntKind.i64))],cuts:=[(11,[(2,none),(14,some Is),(17,some Is),(71,none),(72,none)]),(19,[(0,none),(2,none),(19,some Is),(90,none),(91,none),(92,none)])],nt:=119 }
theorem EMatchHall_ok:EnvOk EMatchHall:=envOk tt_ok ⟨crest_valid,cmostR_valid,ccover_valid,ceqI_valid,ccontI_valid,cgoW_valid,trivial⟩
theorem FMatchHall_ok:FnOk EMatchHall Try.f10:=⟨rfl,rfl⟩
theorem EMatchHall_t (x0:Int) (x1:Int) (x2:List (Int×Int×Unit)) (x3:List Int):exec EMatchHall 1000 [.code (bodyOf Try.prog 10)] (initSt cMatchHall.ps ((x0,x1,x2,x3,()))) =
  .need (True) (.need (True) (.need (True) (.need (True) (cond (decide (Prod.fst (Prod.snd (mostR x0 x1 x2))≠(0:Int))) (.ret ((decide (Prod.fst (Prod.snd (mostR x0 x1 x2))=Prod.fst (Prod.snd (Prod.snd (coverR x0 x1 x2)))),()))) (cond (decide (Prod.fst (Prod.snd (Prod.snd (coverR x0 x1 x2)))≠(0:Int))) (.ret ((decide (Prod.fst (Prod.snd (mostR x0 x1 x2))=Prod.fst (Prod.snd (Prod.snd (coverR x0 x1 x2)))),()))) (cond (decide ((↑(List.length (Prod.fst (mostR x0 x1 x2))):Int)<x0)) (.cut (loopAt (bodyOf Try.prog 10) 11).1 (loopAt (bodyOf Try.prog 10) 11).2 (St.mk [(2,AV.val (Ty.slc false PairT) x2),(14,AV.at_ 1000014 []),(17,AV.at_ 1000017 []),(71,AV.val (Ty.int IntKind.i64) x0),(72,AV.val (Ty.int IntKind.i64) (0:Int))] [(1000014,Ent.own Is (Prod.fst (coverR x0 x1 x2))),(1000017,Ent.own Is [])])) (.cut (loopAt (bodyOf Try.prog 10) 19).1 (loopAt (bodyOf Try.prog 10) 19).2 (St.mk [(0,AV.val (Ty.int IntKind.i64) x0),(2,AV.val (Ty.slc false PairT) x2),(19,AV.at_ 1000019 []),(90,AV.val (Ty.slc false (Ty.int IntKind.i64)) x3),(91,AV.val (Ty.int IntKind.i64) (↑(List.length x3):Int)),(92,AV.val (Ty.int IntKind.i64) (0:Int))] [(1000019,Ent.own Is [])])))))))):=by kernel_rfl
def EMatchHall_s11 (v2:List (Int×Int×Unit)) (v71:Int) (v72:Int) (o1000014:List Int) (o1000017:List Int):St:=St.mk [(2,AV.val (Ty.slc false PairT) v2),(14,AV.at_ 1000014 []),(17,AV.at_ 1000017 []),(71,AV.val (Ty.int IntKind.i64) v71),(72,AV.val (Ty.int IntKind.i64) v72)] [(1000014,Ent.own Is o1000014),(1000017,Ent.own Is o1000017)]
theorem EMatchHall_l11 (v2:List (Int×Int×Unit)) (v71:Int) (v72:Int) (o1000014:List Int) (o1000017:List Int):exec EMatchHall 1000 (.code (loopAt (bodyOf Try.prog 10) 11).1::.inLoop (loopAt (bodyOf Try.prog 10) 11).1::(loopAt (bodyOf Try.prog 10) 11).2) (EMatchHall_s11 v2 v71 v72 o1000014 o1000017) =
  cond (decide (v72<v71)) (.need (True) (cond (!decide (v72∈o1000014)) (.need (List.length o1000017+List.length (List.set [(0:Int)] (Int.toNat (↑0:Int)) v72)≤140737488355328∧(List.length o1000017+List.length (List.set [(0:Int)] (Int.toNat (↑0:Int)) v72))*Ty.wb (Ty.int IntKind.i64)≤140737488355328) (.need (inK IntKind.i64 (v72+(1:Int))) (.cut (loopAt (bodyOf Try.prog 10) 11).1 (loopAt (bodyOf Try.prog 10) 11).2 (St.mk [(2,AV.val (Ty.slc false PairT) v2),(14,AV.at_ 1000014 []),(17,AV.at_ 1000017 []),(71,AV.val (Ty.int IntKind.i64) v71),(72,AV.val (Ty.int IntKind.i64) (v72+(1:Int)))] [(1000014,Ent.own Is o1000014),(1000017,Ent.own Is (o1000017++List.set [(0:Int)] (Int.toNat (↑0:Int)) v72))])))) (.need (inK IntKind.i64 (v72+(1:Int))) (.cut (loopAt (bodyOf Try.prog 10) 11).1 (loopAt (bodyOf Try.prog 10) 11).2 (St.mk [(2,AV.val (Ty.slc false PairT) v2),(14,AV.at_ 1000014 []),(17,AV.at_ 1000017 []),(71,AV.val (Ty.int IntKind.i64) v71),(72,AV.val (Ty.int IntKind.i64) (v72+(1:Int)))] [(1000014,Ent.own Is o1000014),(1000017,Ent.own Is o1000017)]))))) (.need (∀ (q:PairD),q∈v2→(0:Int)≤Prod.fst (Prod.snd q)∧Prod.fst (Prod.snd q)<(64:Int)) (.ret ((decide (goW v2 o1000017<(↑(List.length o1000017):Int)),())))):=by kernel_rfl
def EMatchHall_s19 (v0:Int) (v2:List (Int×Int×Unit)) (v90:List Int) (v91:Int) (v92:Int) (o1000019:List Int):St:=St.mk [(0,AV.val (Ty.int IntKind.i64) v0),(2,AV.val (Ty.slc false PairT) v2),(19,AV.at_ 1000019 []),(90,AV.val (Ty.slc false (Ty.int IntKind.i64)) v90),(91,AV.val (Ty.int IntKind.i64) v91),(92,AV.val (Ty.int IntKind.i64) v92)] [(1000019,Ent.own Is o1000019)]
theorem EMatchHall_l19 (v0:Int) (v2:List (Int×Int×Unit)) (v90:List Int) (v91:Int) (v92:Int) (o1000019:List Int):exec EMatchHall 1000 (.code (loopAt (bodyOf Try.prog 10) 19).1::.inLoop (loopAt (bodyOf Try.prog 10) 19).1::(loopAt (bodyOf Try.prog 10) 19).2) (EMatchHall_s19 v0 v2 v90 v91 v92 o1000019) =
  cond (decide (v92<v91)) (.need ((0:Int)≤v92∧v92<(↑(List.length v90):Int)) (cond (decide ((0:Int)<v0)) (.need (v0≤(1000000:Int)) (.need (True) (cond (!decide (rest (List.getD v90 (Int.toNat v92) (0:Int)) v0∈o1000019)) (.need (v0≤(1000000:Int)) (.need (List.length o1000019+List.length (List.set [(0:Int)] (Int.toNat (↑0:Int)) (rest (List.getD v90 (Int.toNat v92) (0:Int)) v0))≤140737488355328∧(List.length o1000019+List.length (List.set [(0:Int)] (Int.toNat (↑0:Int)) (rest (List.getD v90 (Int.toNat v92) (0:Int)) v0)))*Ty.wb (Ty.int IntKind.i64)≤140737488355328) (.need (inK IntKind.i64 (v92+(1:Int))) (.cut (loopAt (bodyOf Try.prog 10) 19).1 (loopAt (bodyOf Try.prog 10) 19).2 (St.mk [(0,AV.val (Ty.int IntKind.i64) v0),(2,AV.val (Ty.slc false PairT) v2),(19,AV.at_ 1000019 []),(90,AV.val (Ty.slc false (Ty.int IntKind.i64)) v90),(91,AV.val (Ty.int IntKind.i64) v91),(92,AV.val (Ty.int IntKind.i64) (v92+(1:Int)))] [(1000019,Ent.own Is (o1000019++List.set [(0:Int)] (Int.toNat (↑0:Int)) (rest (List.getD v90 (Int.toNat v92) (0:Int)) v0)))]))))) (.need (inK IntKind.i64 (v92+(1:Int))) (.cut (loopAt (bodyOf Try.prog 10) 19).1 (loopAt (bodyOf Try.prog 10) 19).2 (St.mk [(0,AV.val (Ty.int IntKind.i64) v0),(2,AV.val (Ty.slc false PairT) v2),(19,AV.at_ 1000019 []),(90,AV.val (Ty.slc false (Ty.int IntKind.i64)) v90),(91,AV.val (Ty.int IntKind.i64) v91),(92,AV.val (Ty.int IntKind.i64) (v92+(1:Int)))] [(1000019,Ent.own Is o1000019)])))))) (.need (inK IntKind.i64 (v92+(1:Int))) (.cut (loopAt (bodyOf Try.prog 10) 19).1 (loopAt (bodyOf Try.prog 10) 19).2 (St.mk [(0,AV.val (Ty.int IntKind.i64) v0),(2,AV.val (Ty.slc false PairT) v2),(19,AV.at_ 1000019 []),(90,AV.val (Ty.slc false (Ty.int IntKind.i64)) v90),(91,AV.val (Ty.int IntKind.i64) v91),(92,AV.val (Ty.int IntKind.i64) (v92+(1:Int)))] [(1000019,Ent.own Is o1000019)]))))) (.need (∀ (q:PairD),q∈v2→(0:Int)≤Prod.fst (Prod.snd q)∧Prod.fst (Prod.snd q)<(64:Int)) (.ret ((decide ((↑(List.length o1000019):Int)≤goW v2 o1000019),())))):=by kernel_rfl
theorem nd_few {m:Int} (hm:m≤40) {L:List Int} (hn:L.Nodup) (hr:∀ a∈L,0≤a∧a<m):L.length≤40:=by
  have:=nodup_sub hn (S:=(List.range 40).map (fun i:Nat=>(i:Int))) (fun x hx=>by
    have:=hr x hx
    exact List.mem_map.2 ⟨x.toNat,List.mem_range.2 (by omega),by omega⟩)
  rw [List.length_map,List.length_range] at this
  exact this
theorem cMatchHall_valid:cMatchHall.Valid Try.prog 10:=by
  refine Ctr.valid_of EMatchHall_ok rfl rfl Try.func10 (c:=bodyOf Try.prog 10) rfl rfl FMatchHall_ok rfl ?_
  rintro ⟨(m:Int),(n:Int),(l:List PairD),(some9:List Int),⟨⟩⟩ - ⟨-,-,⟨hl,-⟩,⟨hs9,-⟩,-⟩
  have hl:l.length≤9223372036854775807:=hl
  have hs9:some9.length≤9223372036854775807:=hs9
  refine exec_sound (n:=1000) EMatchHall_ok FMatchHall_ok ?_
  refine holds_of_eq (EMatchHall_t m n l some9) ?_
  simp only [holds_cond,Tree.holds,true_and,true_implies,decide_eq_true_eq,decide_eq_false_iff_not,Bool.not_eq_true',Bool.not_eq_false',Int.toNat_natCast,inK_i64,List.length_set,List.length_cons,List.length_nil]
  rw [mostR_code,coverR_code]
  refine ⟨fun _=>yesd rfl,fun e=>⟨fun e2=>absurd e2 e,fun _=>?_⟩⟩
  have e:=Decidable.not_not.1 e
  have hin:=(mostR_match (m:=m) (n:=n) (l:=l) (by rw [mostR_code]; exact e)).1
  have hM:=hin.1
  have hN:=hin.2.1
  have hg:∀ q:PairD,q∈l→0≤q.2.1∧q.2.1<64:=fun q hq=>⟨(hin.2.2 q hq).2.1,by have:=(hin.2.2 q hq).2.2; omega⟩
  refine ⟨fun c=>?_,fun c=>?_⟩
  · have hw:=hall_less e c
    generalize (coverR m n l).1=X at *
    obtain ⟨M,rfl⟩:=Int.eq_ofNat_of_zero_le hM.1
    rw [Int.toNat_natCast] at hw
    refine Reach.loopI EMatchHall_ok FMatchHall_ok (fun i:Nat=>EMatchHall_s11 l (M:Int) (i:Int) X (freeF X i)) (fun i=>i≤M) (fun i=>M - i) 1000 (fun _=>⟨uniq_of rfl,uniq_of rfl⟩) ?_ 0 (Nat.zero_le _)
    rintro i (k1:i≤M) - ih
    refine holds_of_eq (EMatchHall_l11 ..) ?_
    simp only [holds_cond,Tree.holds,true_and,true_implies,decide_eq_true_eq,decide_eq_false_iff_not,Bool.not_eq_true',Bool.not_eq_false',Int.toNat_natCast,inK_i64,List.length_set,List.length_cons,List.length_nil]
    have hf:=freeF_le (X:=X) (k:=i)
    have hsu:=freeF_succ (X:=X) (k:=i)
    refine ⟨fun c=>⟨fun d=>⟨⟨?_,?_⟩,fun _=>⟨by omega,fun _=>?_⟩⟩,fun d=>⟨by omega,fun _=>?_⟩⟩,fun c=>⟨hg,fun _=>?_⟩⟩
    · show (freeF X i).length+1≤_; omega
    · show ((freeF X i).length+1)*8≤_; omega
    · have d:¬ (i:Int)∈X:=by simpa using d
      have next:=ih (i+1) (by show i+1≤M; omega) (by omega)
      rw [hsu,if_neg d] at next
      exact next
    · have d:(i:Int)∈X:=by simpa using d
      have next:=ih (i+1) (by show i+1≤M; omega) (by omega)
      rw [hsu,if_pos d] at next
      exact next
    · have hi:i=M:=by omega
      subst hi
      exact yesd hw
  · refine Reach.loopI EMatchHall_ok FMatchHall_ok (fun s:Nat×List Int=>EMatchHall_s19 m l some9 (some9.length:Int) (s.1:Int) s.2) (fun s=>s.1≤some9.length∧s.2.Nodup∧∀ a∈s.2,0≤a∧a<m) (fun s=>some9.length - s.1) 1000 (fun _=>⟨uniq_of rfl,uniq_of rfl⟩) ?_ (0,[]) ⟨Nat.zero_le _,List.nodup_nil,fun a ha=>by cases ha⟩
    rintro ⟨i,L⟩ ⟨k1,k2,k3⟩ - ih
    have k1:i≤some9.length:=k1
    have k2:L.Nodup:=k2
    have k3:∀ a∈L,0≤a∧a<m:=k3
    have k4:=nd_few hM.2 k2 k3
    refine holds_of_eq (EMatchHall_l19 ..) ?_
    simp only [holds_cond,Tree.holds,true_and,true_implies,decide_eq_true_eq,decide_eq_false_iff_not,Bool.not_eq_true',Bool.not_eq_false',Int.toNat_natCast,inK_i64,List.length_set,List.length_cons,List.length_nil]
    have skip:i<some9.length→_:=fun h=>ih (i+1,L) ⟨by show i+1≤_; omega,k2,k3⟩ (by show _ - (i+1)<_ - i; omega)
    refine ⟨fun c=>⟨by omega,fun _=>⟨fun d=>⟨by omega,fun _=>⟨fun d2=>⟨by omega,fun _=>⟨⟨?_,?_⟩,fun _=>⟨by omega,fun _=>?_⟩⟩⟩,fun d2=>⟨by omega,fun _=>skip (by omega)⟩⟩⟩,fun d=>⟨by omega,fun _=>skip (by omega)⟩⟩⟩,fun _=>⟨hg,fun _=>yesd (hall_more e c k2 k3)⟩⟩
    · show L.length+1≤_; omega
    · show (L.length+1)*8≤_; omega
    · have hr:=rest_in (a:=some9.getD i 0) d
      have d2:¬ rest (some9.getD i 0) m∈L:=by simpa using d2
      refine ih (i+1,L++[rest (some9.getD i 0) m]) ⟨by show i+1≤_; omega,?_,?_⟩ (by show _ - (i+1)<_ - i; omega)
      · refine List.nodup_append.2 ⟨k2,by simp,?_⟩
        intro a ha b hb
        rw [List.mem_singleton.1 hb]
        exact fun e9=>d2 (e9▸ha)
      · intro a ha
        rcases List.mem_append.1 ha with h|h
        · exact k3 a h
        · rw [List.mem_singleton.1 h]; exact hr
end Go.Proofs.Ytegigiecamjobaa
