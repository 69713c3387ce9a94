/- SynodKeeps. No condition. -/
import Derived.Test.YtegigiecamjobaaSynQ
namespace Go.Proofs.Ytegigiecamjobaa
open Go.Ex
set_option maxRecDepth 100000
theorem Did.keeps {V:List VoterD} {R:List RoundD} (h:SOk V R) {a:ActD} {V':List VoterD} {R':List RoundD} (hd:Did V R a V' R'):V'.length=V.length∧R.length≤R'.length ∧
    ∀ k,k<V.length→(V.getD k v00).1≤(V'.getD k v00).1∧(V.getD k v00).2.1≤(V'.getD k v00).2.1∧((V'.getD k v00).2.1=(V.getD k v00).2.1→(V'.getD k v00).2.2.1=(V.getD k v00).2.2.1):=by
  have idk:∀ {v:VoterD},v.1≤v.1∧v.2.1≤v.2.1∧(v.2.1=v.2.1→v.2.2.1=v.2.2.1):=⟨Int.le_refl _,Int.le_refl _,fun _=>rfl⟩
  cases hd with
  | none=>exact ⟨rfl,Nat.le_refl _,fun _ _=>idk⟩
  | begun=>exact ⟨rfl,by rw [List.length_append]; omega,fun _ _=>idk⟩
  | late w i r hw hi hr hlt=>exact ⟨List.length_set,Nat.le_refl _,v_set hw (p:=fun v k=>(V.getD k v00).1≤v.1∧(V.getD k v00).2.1≤v.2.1∧(v.2.1=(V.getD k v00).2.1→v.2.2.1=(V.getD k v00).2.2.1)) ⟨by show _≤r.1; omega,Int.le_refl _,fun _=>rfl⟩ (fun _ _ _=>idk)⟩
  | promised w i r hw hi hr hlt=>exact ⟨List.length_set,by rw [List.length_set]; exact Nat.le_refl _,v_set hw (p:=fun v k=>(V.getD k v00).1≤v.1∧(V.getD k v00).2.1≤v.2.1∧(v.2.1=(V.getD k v00).2.1→v.2.2.1=(V.getD k v00).2.2.1)) ⟨by show _≤r.1; omega,Int.le_refl _,fun _=>rfl⟩ (fun _ _ _=>idk)⟩
  | same w i r hw hi hr hlt=>exact ⟨List.length_set,by rw [List.length_set]; exact Nat.le_refl _,v_set hw (p:=fun v k=>(V.getD k v00).1≤v.1∧(V.getD k v00).2.1≤v.2.1∧(v.2.1=(V.getD k v00).2.1→v.2.2.1=(V.getD k v00).2.2.1)) ⟨by show _≤r.1; omega,Int.le_refl _,fun _=>rfl⟩ (fun _ _ _=>idk)⟩
  | asked i r hi hr=>exact ⟨rfl,by rw [List.length_set]; exact Nat.le_refl _,fun _ _=>idk⟩
  | voted w i r hw hi hr hask hle =>
    have hm:r∈R:=hr▸getD_mem (d:=r00) hi
    have hv:=h.vot w hw
    have hp:=hv.pos
    refine ⟨List.length_set,by rw [List.length_set]; exact Nat.le_refl _,v_set hw (p:=fun v k=>(V.getD k v00).1≤v.1∧(V.getD k v00).2.1≤v.2.1∧(v.2.1=(V.getD k v00).2.1→v.2.2.1=(V.getD k v00).2.2.1)) ⟨hle,by show _≤r.1; omega,fun e=>?_⟩ (fun _ _ _=>idk)⟩
    have e:r.1=(V.getD w v00).2.1:=e
    have:=(h.rng r hm).1
    obtain ⟨q,q1,q2,q3,q4⟩:=hv.last (by omega)
    have e2:=one_eq h.one q1 hm (by omega)
    subst e2
    exact q4
theorem stepR_no {s:SynodD} {a:ActD} (h:stepE s a≠0):stepR s a=(s00,stepE s a,()):=if_pos h
theorem stepR_ok {s:SynodD} {a:ActD} (h:stepE s a=0):stepR s a=(stepS s a,0,()):=if_neg (by rw [h]; simp)
def cSynodKeeps:Ctr:={ ps:=[.v Synod,.v Act],rs:=[.bool],pre:=fun _=>True,fn:=fun _=>(true,()),out:=fun _=>() }
noncomputable def ESynodKeeps:Env:={ P:=Try.prog,tt:=tt,ctr:=[(23,cstep)],res:=[Go.ResultVar.tmp 4],rs:=[Ty.bool],ps:=[PK.v (Ty.pair (Ty.slc false (Ty.pair (Ty.int IntKind.i64) (Ty.pair (Ty.int IntKind.i64) (Ty.pair Ty.str Ty.unit)))) (Ty.pair (Ty.slc false (Ty.pair (Ty.int IntKind.i64) (Ty.pair (Ty.int IntKind.i64) (Ty.pair (Ty.int IntKind.u8) (Ty.pair (Ty.int IntKind.u8) (Ty.pair Ty.bool (Ty.pair Ty.str Ty.unit))))))) Ty.unit)),PK.v (Ty.pair (Ty.int IntKind.i64) (Ty.pair (Ty.int IntKind.i64) (Ty.pair (Ty.int IntKind.i64) (Ty.pair Ty.str Ty.unit))))],cuts:=[(8,[(2,none),(7,none),(48,none),(49,none),(50,none)])],nt:=94 }
theorem ESynodKeeps_ok:EnvOk ESynodKeeps:=envOk tt_ok ⟨cstep_valid,trivial⟩
theorem FSynodKeeps_ok:FnOk ESynodKeeps Try.f4:=⟨rfl,rfl⟩
theorem ESynodKeeps_t (x0_1:List (Int×Int×List UInt8×Unit)) (x0_2_1:List (Int×Int×Int×Int×Bool×List UInt8×Unit)) (x1_1:Int) (x1_2_1:Int) (x1_2_2_1:Int) (x1_2_2_2_1:List UInt8):exec ESynodKeeps 1000 [.code (bodyOf Try.prog 4)] (initSt cSynodKeeps.ps (((x0_1,x0_2_1,()),(x1_1,x1_2_1,x1_2_2_1,x1_2_2_2_1,()),()))) =
  .need ((0:Int)≤(1:Int)∧(1:Int)≤(1:Int)∧(1:Int)≤(140737488355328:Int)∧(1:Int)*(↑(Ty.wb (Ty.pair (Ty.int IntKind.i64) (Ty.pair (Ty.int IntKind.i64) (Ty.pair Ty.str Ty.unit)))):Int)≤(140737488355328:Int)) (.need (True) (.need ((0:Int)≤(0:Int)∧(0:Int)<(↑(List.length (Prod.fst (Prod.snd (Prod.fst (stepR (List.replicate (Int.toNat (1:Int)) ((0:Int),(0:Int),[],()),[],()) ((1:Int),(3:Int),(0:Int),Array.toList (ByteArray.data (ByteArray.mk #[(116:UInt8)])),())))))):Int)) (.need (True) (cond (decide (Prod.fst (Prod.snd (stepR (x0_1,x0_2_1,()) (x1_1,x1_2_1,x1_2_2_1,x1_2_2_2_1,())))≠(0:Int))) (.ret ((decide ((↑(List.length (Prod.fst (Prod.fst (stepR (x0_1,x0_2_1,()) (x1_1,x1_2_1,x1_2_2_1,x1_2_2_2_1,()))))):Int)=(0:Int)),()))) (.cut (loopAt (bodyOf Try.prog 4) 8).1 (loopAt (bodyOf Try.prog 4) 8).2 (St.mk [(2,AV.ptr 2 []),(7,AV.ptr 7 []),(48,AV.val (Ty.slc false (Ty.pair (Ty.int IntKind.i64) (Ty.pair (Ty.int IntKind.i64) (Ty.pair Ty.str Ty.unit)))) x0_1),(49,AV.val (Ty.int IntKind.i64) (↑(List.length x0_1):Int)),(50,AV.val (Ty.int IntKind.i64) (0:Int))] [(2,Ent.var (Ty.pair (Ty.slc false (Ty.pair (Ty.int IntKind.i64) (Ty.pair (Ty.int IntKind.i64) (Ty.pair Ty.str Ty.unit)))) (Ty.pair (Ty.slc false (Ty.pair (Ty.int IntKind.i64) (Ty.pair (Ty.int IntKind.i64) (Ty.pair (Ty.int IntKind.u8) (Ty.pair (Ty.int IntKind.u8) (Ty.pair Ty.bool (Ty.pair Ty.str Ty.unit))))))) Ty.unit)) (x0_1,x0_2_1,())),(7,Ent.var (Ty.pair (Ty.slc true (Ty.pair (Ty.int IntKind.i64) (Ty.pair (Ty.int IntKind.i64) (Ty.pair Ty.str Ty.unit)))) (Ty.pair (Ty.slc true (Ty.pair (Ty.int IntKind.i64) (Ty.pair (Ty.int IntKind.i64) (Ty.pair (Ty.int IntKind.u8) (Ty.pair (Ty.int IntKind.u8) (Ty.pair Ty.bool (Ty.pair Ty.str Ty.unit))))))) Ty.unit)) (Prod.fst (stepR (x0_1,x0_2_1,()) (x1_1,x1_2_1,x1_2_2_1,x1_2_2_2_1,()))))])))))):=by kernel_rfl
def ESynodKeeps_s8 (v48:List (Int×Int×List UInt8×Unit)) (v49:Int) (v50:Int) (o2_1:List (Int×Int×List UInt8×Unit)) (o2_2_1:List (Int×Int×Int×Int×Bool×List UInt8×Unit)) (o7_1:List (Int×Int×List UInt8×Unit)) (o7_2_1:List (Int×Int×Int×Int×Bool×List UInt8×Unit)):St:=St.mk [(2,AV.ptr 2 []),(7,AV.ptr 7 []),(48,AV.val (Ty.slc false (Ty.pair (Ty.int IntKind.i64) (Ty.pair (Ty.int IntKind.i64) (Ty.pair Ty.str Ty.unit)))) v48),(49,AV.val (Ty.int IntKind.i64) v49),(50,AV.val (Ty.int IntKind.i64) v50)] [(2,Ent.var (Ty.pair (Ty.slc false (Ty.pair (Ty.int IntKind.i64) (Ty.pair (Ty.int IntKind.i64) (Ty.pair Ty.str Ty.unit)))) (Ty.pair (Ty.slc false (Ty.pair (Ty.int IntKind.i64) (Ty.pair (Ty.int IntKind.i64) (Ty.pair (Ty.int IntKind.u8) (Ty.pair (Ty.int IntKind.u8) (Ty.pair Ty.bool (Ty.pair Ty.str Ty.unit))))))) Ty.unit)) (o2_1,o2_2_1,())),(7,Ent.var (Ty.pair (Ty.slc true (Ty.pair (Ty.int IntKind.i64) (Ty.pair (Ty.int IntKind.i64) (Ty.pair Ty.str Ty.unit)))) (Ty.pair (Ty.slc true (Ty.pair (Ty.int IntKind.i64) (Ty.pair (Ty.int IntKind.i64) (Ty.pair (Ty.int IntKind.u8) (Ty.pair (Ty.int IntKind.u8) (Ty.pair Ty.bool (Ty.pair Ty.str Ty.unit))))))) Ty.unit)) (o7_1,o7_2_1,()))]
theorem ESynodKeeps_l8 (v48:List (Int×Int×List UInt8×Unit)) (v49:Int) (v50:Int) (o2_1:List (Int×Int×List UInt8×Unit)) (o2_2_1:List (Int×Int×Int×Int×Bool×List UInt8×Unit)) (o7_1:List (Int×Int×List UInt8×Unit)) (o7_2_1:List (Int×Int×Int×Int×Bool×List UInt8×Unit)):exec ESynodKeeps 1000 (.code (loopAt (bodyOf Try.prog 4) 8).1::.inLoop (loopAt (bodyOf Try.prog 4) 8).1::(loopAt (bodyOf Try.prog 4) 8).2) (ESynodKeeps_s8 v48 v49 v50 o2_1 o2_2_1 o7_1 o7_2_1) =
  cond (decide (v50<v49)) (.need ((0:Int)≤v50∧v50<(↑(List.length v48):Int)) (.need ((0:Int)≤v50∧v50<(↑(List.length o7_1):Int)) (cond (decide (Prod.fst (List.getD o7_1 (Int.toNat v50) ((0:Int),(0:Int),[],()))<Prod.fst (List.getD v48 (Int.toNat v50) ((0:Int),(0:Int),[],())))) (.ret ((false,()))) (cond (decide (Prod.fst (Prod.snd (List.getD o7_1 (Int.toNat v50) ((0:Int),(0:Int),[],())))<Prod.fst (Prod.snd (List.getD v48 (Int.toNat v50) ((0:Int),(0:Int),[],()))))) (.ret ((false,()))) (cond (decide (Prod.fst (Prod.snd (List.getD o7_1 (Int.toNat v50) ((0:Int),(0:Int),[],())))=Prod.fst (Prod.snd (List.getD v48 (Int.toNat v50) ((0:Int),(0:Int),[],()))))) (cond (decide (Prod.fst (Prod.snd (Prod.snd (List.getD o7_1 (Int.toNat v50) ((0:Int),(0:Int),[],()))))≠Prod.fst (Prod.snd (Prod.snd (List.getD v48 (Int.toNat v50) ((0:Int),(0:Int),[],())))))) (.ret ((false,()))) (.need (inK IntKind.i64 (v50+(1:Int))) (.cut (loopAt (bodyOf Try.prog 4) 8).1 (loopAt (bodyOf Try.prog 4) 8).2 (St.mk [(2,AV.ptr 2 []),(7,AV.ptr 7 []),(48,AV.val (Ty.slc false (Ty.pair (Ty.int IntKind.i64) (Ty.pair (Ty.int IntKind.i64) (Ty.pair Ty.str Ty.unit)))) v48),(49,AV.val (Ty.int IntKind.i64) v49),(50,AV.val (Ty.int IntKind.i64) (v50+(1:Int)))] [(2,Ent.var (Ty.pair (Ty.slc false (Ty.pair (Ty.int IntKind.i64) (Ty.pair (Ty.int IntKind.i64) (Ty.pair Ty.str Ty.unit)))) (Ty.pair (Ty.slc false (Ty.pair (Ty.int IntKind.i64) (Ty.pair (Ty.int IntKind.i64) (Ty.pair (Ty.int IntKind.u8) (Ty.pair (Ty.int IntKind.u8) (Ty.pair Ty.bool (Ty.pair Ty.str Ty.unit))))))) Ty.unit)) (o2_1,o2_2_1,())),(7,Ent.var (Ty.pair (Ty.slc true (Ty.pair (Ty.int IntKind.i64) (Ty.pair (Ty.int IntKind.i64) (Ty.pair Ty.str Ty.unit)))) (Ty.pair (Ty.slc true (Ty.pair (Ty.int IntKind.i64) (Ty.pair (Ty.int IntKind.i64) (Ty.pair (Ty.int IntKind.u8) (Ty.pair (Ty.int IntKind.u8) (Ty.pair Ty.bool (Ty.pair Ty.str Ty.unit))))))) Ty.unit)) (o7_1,o7_2_1,()))])))) (.need (inK IntKind.i64 (v50+(1:Int))) (.cut (loopAt (bodyOf Try.prog 4) 8).1 (loopAt (bodyOf Try.prog 4) 8).2 (St.mk [(2,AV.ptr 2 []),(7,AV.ptr 7 []),(48,AV.val (Ty.slc false (Ty.pair (Ty.int IntKind.i64) (Ty.pair (Ty.int IntKind.i64) (Ty.pair Ty.str Ty.unit)))) v48),(49,AV.val (Ty.int IntKind.i64) v49),(50,AV.val (Ty.int IntKind.i64) (v50+(1:Int)))] [(2,Ent.var (Ty.pair (Ty.slc false (Ty.pair (Ty.int IntKind.i64) (Ty.pair (Ty.int IntKind.i64) (Ty.pair Ty.str Ty.unit)))) (Ty.pair (Ty.slc false (Ty.pair (Ty.int IntKind.i64) (Ty.pair (Ty.int IntKind.i64) (Ty.pair (Ty.int IntKind.u8) (Ty.pair (Ty.int IntKind.u8) (Ty.pair Ty.bool (Ty.pair Ty.str Ty.unit))))))) Ty.unit)) (o2_1,o2_2_1,())),(7,Ent.var (Ty.pair (Ty.slc true (Ty.pair (Ty.int IntKind.i64) (Ty.pair (Ty.int IntKind.i64) (Ty.pair Ty.str Ty.unit)))) (Ty.pair (Ty.slc true (Ty.pair (Ty.int IntKind.i64) (Ty.pair (Ty.int IntKind.i64) (Ty.pair (Ty.int IntKind.u8) (Ty.pair (Ty.int IntKind.u8) (Ty.pair Ty.bool (Ty.pair Ty.str Ty.unit))))))) Ty.unit)) (o7_1,o7_2_1,()))])))))))) (.ret ((decide ((↑(List.length o2_2_1):Int)≤(↑(List.length o7_2_1):Int)),()))):=by kernel_rfl
theorem cSynodKeeps_valid:cSynodKeeps.Valid Try.prog 4:=by
  refine Ctr.valid_of ESynodKeeps_ok rfl rfl Try.func4 (c:=bodyOf Try.prog 4) rfl rfl FSynodKeeps_ok rfl ?_
  rintro ⟨⟨(V:List VoterD),(R:List RoundD),⟨⟩⟩,⟨(kd:Int),(b:Int),(w:Int),(tx:List UInt8),⟨⟩⟩,⟨⟩⟩ - ⟨⟨⟨-,-⟩,⟨-,hRr⟩,-⟩,-⟩
  have hu:∀ r∈R,inK .u8 r.2.2.1∧inK .u8 r.2.2.2.1:=fun r hr=>⟨(hRr r hr).2.2.1,(hRr r hr).2.2.2.1⟩
  refine exec_sound (n:=1000) ESynodKeeps_ok FSynodKeeps_ok ?_
  refine holds_of_eq (ESynodKeeps_t V R kd b w tx) ?_
  refine ⟨by decide +kernel,fun _=>⟨by decide +kernel,fun _=>⟨by decide +kernel,fun _=>?_⟩⟩⟩
  by_cases h:stepE (V,R,()) (kd,b,w,tx,())≠0
  · rw [stepR_no h]
    simp only [holds_cond,Tree.holds,true_and,true_implies,decide_eq_true_eq,decide_eq_false_iff_not,Bool.not_eq_true',Bool.not_eq_false',Int.toNat_natCast,inK_i64,List.length_set,List.length_cons,List.length_nil]
    exact ⟨fun _=>yesd rfl,fun h2=>absurd h h2⟩
  have h:=Decidable.not_not.1 h
  have hs:SOk V R:=(scheck_iff hu).1 (step_facts h).1
  obtain ⟨k1,k2,k3⟩:=(did_step h hs).keeps hs
  have hn:=hs.n1
  rw [stepR_ok h]
  generalize stepS (V,R,()) (kd,b,w,tx,())=s' at *
  obtain ⟨V',R',⟨⟩⟩:=s'
  have k1:V'.length=V.length:=k1
  have k2:R.length≤R'.length:=k2
  simp only [holds_cond,Tree.holds,true_and,true_implies,decide_eq_true_eq,decide_eq_false_iff_not,Bool.not_eq_true',Bool.not_eq_false',Int.toNat_natCast,inK_i64,List.length_set,List.length_cons,List.length_nil]
  refine ⟨fun c=>absurd rfl c,fun _=>?_⟩
  refine Reach.loopI ESynodKeeps_ok FSynodKeeps_ok (fun i:Nat=>ESynodKeeps_s8 V (V.length:Int) (i:Int) V R V' R') (fun i=>i≤V.length) (fun i=>V.length - i) 1000 (fun _=>⟨uniq_of rfl,uniq_of rfl⟩) ?_ 0 (Nat.zero_le _)
  rintro i (j1:i≤V.length) - ih
  refine holds_of_eq (ESynodKeeps_l8 ..) ?_
  simp only [holds_cond,Tree.holds,true_and,true_implies,decide_eq_true_eq,decide_eq_false_iff_not,Bool.not_eq_true',Bool.not_eq_false',Int.toNat_natCast,inK_i64,List.length_set,List.length_cons,List.length_nil]
  refine ⟨fun c=>?_,fun c=>yesd (by omega)⟩
  have hi:i<V.length:=by omega
  have next:=ih (i+1) hi (by omega)
  have k3:=k3 i hi
  have e1:List.getD V i (0,0,[],())=V.getD i v00:=rfl
  have e2:List.getD V' i (0,0,[],())=V'.getD i v00:=rfl
  simp only [e1,e2]
  generalize V.getD i v00=v at *
  have k3:v.1≤(V'.getD i v00).1∧v.2.1≤(V'.getD i v00).2.1∧((V'.getD i v00).2.1=v.2.1→(V'.getD i v00).2.2.1=v.2.2.1):=k3
  generalize V'.getD i v00=w at *
  exact ⟨by omega,fun _=>⟨by omega,fun _=>⟨fun d=>by omega,fun _=>⟨fun d=>by omega,fun _=>⟨fun d=>⟨fun e=>absurd (k3.2.2 d) e,fun _=>⟨by omega,fun _=>next⟩⟩,fun _=>⟨by omega,fun _=>next⟩⟩⟩⟩⟩⟩
end Go.Proofs.Ytegigiecamjobaa
