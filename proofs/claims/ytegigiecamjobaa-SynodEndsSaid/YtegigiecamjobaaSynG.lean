/- SynodStays. No condition. -/
import Derived.Test.YtegigiecamjobaaSynF
namespace Go.Proofs.Ytegigiecamjobaa
open Go.Ex Go.Sort
set_option maxRecDepth 100000
theorem sum_len_take {α:Type}:∀ (l:List (List α)) (i:Nat),((l.take i).map List.length).sum≤l.flatten.length
  | [],i=>by simp
  | a::l,0=>by simp
  | a::l,i+1=>by have:=sum_len_take l i; simp only [List.take_succ_cons,List.map_cons,List.sum_cons,List.flatten_cons,List.length_append]; omega
theorem take_getD {α:Type} {l:List α} {i:Nat} (h:i<l.length) (d:α):l.take (i+1)=l.take i++[l.getD i d]:=by
  rw [List.take_add_one,List.getElem?_eq_getElem h,List.getD_eq_getElem?_getD,List.getElem?_eq_getElem h]; rfl
abbrev a00:ActD:=(0,0,0,[],())
def cgrowA:Ctr:={ ps:=[.nilS,.v I64],rs:=[.slc true Act],pre:=fun x=>LE.le (α:=Int) 0 x.2.1∧LE.le (α:=Int) x.2.1 1048576,fn:=fun _=>([],()),out:=fun _=>() }
noncomputable def EgrowA:Env:={ P:=Try.prog,tt:=tt,ctr:=[],res:=[Go.ResultVar.tmp 4],rs:=[Ty.slc true (Ty.pair (Ty.int IntKind.i64) (Ty.pair (Ty.int IntKind.i64) (Ty.pair (Ty.int IntKind.i64) (Ty.pair Ty.str Ty.unit))))],ps:=[PK.nilS,PK.v (Ty.int IntKind.i64)],cuts:=[],nt:=27 }
theorem EgrowA_ok:EnvOk EgrowA:=envOk tt_ok trivial
theorem FgrowA_ok:FnOk EgrowA Try.f101:=⟨rfl,rfl⟩
theorem EgrowA_t (x1:Int):exec EgrowA 1000 [.code (bodyOf Try.prog 101)] (initSt cgrowA.ps (((),x1,()))) =
  cond (decide (x1<(0:Int))) (.stuck "op") (.need (inK IntKind.i64 ((0:Int) - (0:Int))) (.need (inK IntKind.i64 (x1 - ((0:Int) - (0:Int)))) (cond (decide ((0:Int)<x1 - ((0:Int) - (0:Int)))) (.need ((0:Int)=(0:Int)∧(0:Int)=(0:Int)) (.need ((0:Int)≤x1 - ((0:Int) - (0:Int))∧x1 - ((0:Int) - (0:Int))≤(140737488355328:Int)∧(x1 - ((0:Int) - (0:Int)))*(↑(Ty.wb (Ty.pair (Ty.int IntKind.i64) (Ty.pair (Ty.int IntKind.i64) (Ty.pair (Ty.int IntKind.i64) (Ty.pair Ty.str Ty.unit))))):Int)≤(140737488355328:Int)) (.need ((0:Int)≤(0:Int)∧(0:Int)≤(0:Int)∧(0:Int)≤(↑(List.length (List.replicate (Int.toNat (x1 - ((0:Int) - (0:Int)))) a00)):Int)) (.ret ((cut2 (0:Int) (0:Int) (List.replicate (Int.toNat (x1 - ((0:Int) - (0:Int)))) a00),())))))) (.ret (([],())))))):=by kernel_rfl
theorem cgrowA_valid:cgrowA.Valid Try.prog 101:=by
  refine Ctr.valid_of EgrowA_ok rfl rfl Try.func101 (c:=bodyOf Try.prog 101) rfl rfl FgrowA_ok rfl ?_
  rintro ⟨⟨⟩,(n:Int),⟨⟩⟩ ⟨(h0:0≤n),(h1:n≤1048576)⟩ -
  refine exec_sound (n:=1000) EgrowA_ok FgrowA_ok ?_
  refine holds_of_eq (EgrowA_t n) ?_
  simp only [holds_cond,Tree.holds,true_and,true_implies,decide_eq_true_eq,decide_eq_false_iff_not,Bool.not_eq_true',Bool.not_eq_false',Int.toNat_natCast,inK_i64,List.length_set,List.length_cons,List.length_nil,wb_act]
  refine ⟨fun h=>by omega,fun _=>⟨by omega,fun _=>⟨by omega,fun _=>⟨fun _=>⟨by omega,fun _=>⟨by omega,fun _=>?_⟩⟩,fun _=>rfl⟩⟩⟩⟩
  rfl
def cconA:Ctr:={ ps:=[.v (.slc false (.slc false Act))],rs:=[.slc true Act],pre:=fun x=>(List.flatten (α:=ActD) x.1).length≤1048576,fn:=fun x=>(List.flatten (α:=ActD) x.1,()),out:=fun _=>() }
noncomputable def EconA:Env:={ P:=Try.prog,tt:=tt,ctr:=[(101,cgrowA)],res:=[Go.ResultVar.tmp 2],rs:=[Ty.slc true (Ty.pair (Ty.int IntKind.i64) (Ty.pair (Ty.int IntKind.i64) (Ty.pair (Ty.int IntKind.i64) (Ty.pair Ty.str Ty.unit))))],ps:=[PK.v (Ty.slc false (Ty.slc false (Ty.pair (Ty.int IntKind.i64) (Ty.pair (Ty.int IntKind.i64) (Ty.pair (Ty.int IntKind.i64) (Ty.pair Ty.str Ty.unit))))))],cuts:=[(3,[(0,none),(3,none),(9,none),(10,none),(11,none)]),(11,[(6,some (Ty.slc true (Ty.pair (Ty.int IntKind.i64) (Ty.pair (Ty.int IntKind.i64) (Ty.pair (Ty.int IntKind.i64) (Ty.pair Ty.str Ty.unit)))))),(25,none),(26,none),(27,none)])],nt:=36 }
theorem EconA_ok:EnvOk EconA:=envOk tt_ok ⟨cgrowA_valid,trivial⟩
theorem FconA_ok:FnOk EconA Try.f56:=⟨rfl,rfl⟩
theorem EconA_t (x0:List (List (Int×Int×Int×List UInt8×Unit))):exec EconA 1000 [.code (bodyOf Try.prog 56)] (initSt cconA.ps ((x0,()))) =
  .cut (loopAt (bodyOf Try.prog 56) 3).1 (loopAt (bodyOf Try.prog 56) 3).2 (St.mk [(0,AV.val (Ty.slc false (Ty.slc false (Ty.pair (Ty.int IntKind.i64) (Ty.pair (Ty.int IntKind.i64) (Ty.pair (Ty.int IntKind.i64) (Ty.pair Ty.str Ty.unit)))))) x0),(3,AV.val (Ty.int IntKind.i64) (0:Int)),(9,AV.val (Ty.slc false (Ty.slc false (Ty.pair (Ty.int IntKind.i64) (Ty.pair (Ty.int IntKind.i64) (Ty.pair (Ty.int IntKind.i64) (Ty.pair Ty.str Ty.unit)))))) x0),(10,AV.val (Ty.int IntKind.i64) (↑(List.length x0):Int)),(11,AV.val (Ty.int IntKind.i64) (0:Int))] []):=by kernel_rfl
def EconA_s3 (v0:List (List (Int×Int×Int×List UInt8×Unit))) (v3:Int) (v9:List (List (Int×Int×Int×List UInt8×Unit))) (v10:Int) (v11:Int):St:=St.mk [(0,AV.val (Ty.slc false (Ty.slc false (Ty.pair (Ty.int IntKind.i64) (Ty.pair (Ty.int IntKind.i64) (Ty.pair (Ty.int IntKind.i64) (Ty.pair Ty.str Ty.unit)))))) v0),(3,AV.val (Ty.int IntKind.i64) v3),(9,AV.val (Ty.slc false (Ty.slc false (Ty.pair (Ty.int IntKind.i64) (Ty.pair (Ty.int IntKind.i64) (Ty.pair (Ty.int IntKind.i64) (Ty.pair Ty.str Ty.unit)))))) v9),(10,AV.val (Ty.int IntKind.i64) v10),(11,AV.val (Ty.int IntKind.i64) v11)] []
theorem EconA_l3 (v0:List (List (Int×Int×Int×List UInt8×Unit))) (v3:Int) (v9:List (List (Int×Int×Int×List UInt8×Unit))) (v10:Int) (v11:Int):exec EconA 1000 (.code (loopAt (bodyOf Try.prog 56) 3).1::.inLoop (loopAt (bodyOf Try.prog 56) 3).1::(loopAt (bodyOf Try.prog 56) 3).2) (EconA_s3 v0 v3 v9 v10 v11) =
  cond (decide (v11<v10)) (.need ((0:Int)≤v11∧v11<(↑(List.length v9):Int)) (.need (inK IntKind.i64 (v3+(↑(List.length (List.getD v9 (Int.toNat v11) [])):Int))) (cond (decide (v3+(↑(List.length (List.getD v9 (Int.toNat v11) [])):Int)<(0:Int))) (.stuck "op") (.need (inK IntKind.i64 (v11+(1:Int))) (.cut (loopAt (bodyOf Try.prog 56) 3).1 (loopAt (bodyOf Try.prog 56) 3).2 (St.mk [(0,AV.val (Ty.slc false (Ty.slc false (Ty.pair (Ty.int IntKind.i64) (Ty.pair (Ty.int IntKind.i64) (Ty.pair (Ty.int IntKind.i64) (Ty.pair Ty.str Ty.unit)))))) v0),(3,AV.val (Ty.int IntKind.i64) (v3+(↑(List.length (List.getD v9 (Int.toNat v11) [])):Int))),(9,AV.val (Ty.slc false (Ty.slc false (Ty.pair (Ty.int IntKind.i64) (Ty.pair (Ty.int IntKind.i64) (Ty.pair (Ty.int IntKind.i64) (Ty.pair Ty.str Ty.unit)))))) v9),(10,AV.val (Ty.int IntKind.i64) v10),(11,AV.val (Ty.int IntKind.i64) (v11+(1:Int)))] [])))))) (.need ((0:Int)≤v3∧v3≤(1048576:Int)) (.cut (loopAt (bodyOf Try.prog 56) 11).1 (loopAt (bodyOf Try.prog 56) 11).2 (St.mk [(6,AV.at_ 1000006 []),(25,AV.val (Ty.slc false (Ty.slc false (Ty.pair (Ty.int IntKind.i64) (Ty.pair (Ty.int IntKind.i64) (Ty.pair (Ty.int IntKind.i64) (Ty.pair Ty.str Ty.unit)))))) v0),(26,AV.val (Ty.int IntKind.i64) (↑(List.length v0):Int)),(27,AV.val (Ty.int IntKind.i64) (0:Int))] [(1000006,Ent.own (Ty.slc true (Ty.pair (Ty.int IntKind.i64) (Ty.pair (Ty.int IntKind.i64) (Ty.pair (Ty.int IntKind.i64) (Ty.pair Ty.str Ty.unit))))) [])]))):=by kernel_rfl
def EconA_s11 (v25:List (List (Int×Int×Int×List UInt8×Unit))) (v26:Int) (v27:Int) (o1000006:List (Int×Int×Int×List UInt8×Unit)):St:=St.mk [(6,AV.at_ 1000006 []),(25,AV.val (Ty.slc false (Ty.slc false (Ty.pair (Ty.int IntKind.i64) (Ty.pair (Ty.int IntKind.i64) (Ty.pair (Ty.int IntKind.i64) (Ty.pair Ty.str Ty.unit)))))) v25),(26,AV.val (Ty.int IntKind.i64) v26),(27,AV.val (Ty.int IntKind.i64) v27)] [(1000006,Ent.own (Ty.slc true (Ty.pair (Ty.int IntKind.i64) (Ty.pair (Ty.int IntKind.i64) (Ty.pair (Ty.int IntKind.i64) (Ty.pair Ty.str Ty.unit))))) o1000006)]
theorem EconA_l11 (v25:List (List (Int×Int×Int×List UInt8×Unit))) (v26:Int) (v27:Int) (o1000006:List (Int×Int×Int×List UInt8×Unit)):exec EconA 1000 (.code (loopAt (bodyOf Try.prog 56) 11).1::.inLoop (loopAt (bodyOf Try.prog 56) 11).1::(loopAt (bodyOf Try.prog 56) 11).2) (EconA_s11 v25 v26 v27 o1000006) =
  cond (decide (v27<v26)) (.need ((0:Int)≤v27∧v27<(↑(List.length v25):Int)) (.need (List.length o1000006+List.length (List.getD v25 (Int.toNat v27) [])≤140737488355328∧(List.length o1000006+List.length (List.getD v25 (Int.toNat v27) []))*Ty.wb (Ty.pair (Ty.int IntKind.i64) (Ty.pair (Ty.int IntKind.i64) (Ty.pair (Ty.int IntKind.i64) (Ty.pair Ty.str Ty.unit))))≤140737488355328) (.need (inK IntKind.i64 (v27+(1:Int))) (.cut (loopAt (bodyOf Try.prog 56) 11).1 (loopAt (bodyOf Try.prog 56) 11).2 (St.mk [(6,AV.at_ 1000006 []),(25,AV.val (Ty.slc false (Ty.slc false (Ty.pair (Ty.int IntKind.i64) (Ty.pair (Ty.int IntKind.i64) (Ty.pair (Ty.int IntKind.i64) (Ty.pair Ty.str Ty.unit)))))) v25),(26,AV.val (Ty.int IntKind.i64) v26),(27,AV.val (Ty.int IntKind.i64) (v27+(1:Int)))] [(1000006,Ent.own (Ty.slc true (Ty.pair (Ty.int IntKind.i64) (Ty.pair (Ty.int IntKind.i64) (Ty.pair (Ty.int IntKind.i64) (Ty.pair Ty.str Ty.unit))))) (o1000006++List.getD v25 (Int.toNat v27) []))]))))) (.ret ((o1000006,()))):=by kernel_rfl
theorem cconA_valid:cconA.Valid Try.prog 56:=by
  refine Ctr.valid_of EconA_ok rfl rfl Try.func56 (c:=bodyOf Try.prog 56) rfl rfl FconA_ok rfl ?_
  rintro ⟨(l:List (List (ActD))),⟨⟩⟩ hp ⟨⟨hl,-⟩,-⟩
  have hl:l.length≤9223372036854775807:=hl
  have hp:l.flatten.length≤1048576:=hp
  refine exec_sound (n:=1000) EconA_ok FconA_ok ?_
  refine holds_of_eq (EconA_t l) ?_
  refine Reach.loopI EconA_ok FconA_ok (fun i:Nat=>EconA_s3 l (((l.take i).map List.length).sum:Nat) l (l.length:Int) (i:Int)) (fun i=>i≤l.length)
    (fun i=>l.length - i) 1000 (fun _=>⟨uniq_of rfl,uniq_of rfl⟩) ?_ 0 (Nat.zero_le _)
  rintro i k1 - ih
  have k1:i≤l.length:=k1
  refine holds_of_eq (EconA_l3 ..) ?_
  have hs:=sum_len_take l i
  simp only [holds_cond,Tree.holds,true_and,true_implies,decide_eq_true_eq,decide_eq_false_iff_not,Bool.not_eq_true',Bool.not_eq_false',Int.toNat_natCast,inK_i64,List.length_set,List.length_cons,List.length_nil]
  refine ⟨fun c=>⟨by omega,fun _=>?_⟩,fun c=>?_⟩
  · have tk:=take_getD (show i<l.length by omega) ([]:List (ActD))
    have hs1:=sum_len_take l (i+1)
    have e1:((l.take (i+1)).map List.length).sum=((l.take i).map List.length).sum+(l.getD i []).length:=by rw [tk]; simp
    rw [e1] at hs1
    have:=ih (i+1) (by show i+1≤l.length; omega) (by omega)
    rw [e1] at this
    exact ⟨by omega,fun _=>⟨fun h=>by omega,fun _=>⟨by omega,fun _=>this⟩⟩⟩
  · refine ⟨by omega,fun _=>?_⟩
    refine Reach.loopI EconA_ok FconA_ok (fun i:Nat=>EconA_s11 l (l.length:Int) (i:Int) (l.take i).flatten) (fun i=>i≤l.length)
      (fun i=>l.length - i) 1000 (fun _=>⟨uniq_of rfl,uniq_of rfl⟩) ?_ 0 (Nat.zero_le _)
    rintro i k1 - ih
    have k1:i≤l.length:=k1
    refine holds_of_eq (EconA_l11 ..) ?_
    simp only [holds_cond,Tree.holds,true_and,true_implies,decide_eq_true_eq,decide_eq_false_iff_not,Bool.not_eq_true',Bool.not_eq_false',Int.toNat_natCast,inK_i64,List.length_set,List.length_cons,List.length_nil,wb_act]
    refine ⟨fun c=>?_,fun c=>?_⟩
    · have tk:=take_getD (show i<l.length by omega) ([]:List (ActD))
      have e1:(l.take (i+1)).flatten=(l.take i).flatten++l.getD i []:=by rw [tk]; simp
      have hb:((l.take i).flatten++l.getD i []).length≤l.flatten.length:=by
        rw [← e1]
        conv=>rhs; rw [← List.take_append_drop (i+1) l,List.flatten_append,List.length_append]
        omega
      rw [List.length_append] at hb
      have:=ih (i+1) (by show i+1≤l.length; omega) (by omega)
      rw [e1] at this
      exact ⟨by omega,fun _=>⟨by omega,fun _=>⟨by omega,fun _=>this⟩⟩⟩
    · rw [List.take_of_length_le (by omega)]
      rfl
def cSynodStays:Ctr:=smallC [I64,.slc false Act,.slc false Act]
noncomputable def ESynodStays:Env:={ P:=Try.prog,tt:=tt,ctr:=[(49,cfew),(46,cvoted),(47,cone),(48,cchosen),(42,ceqS),(56,cconA)],res:=[Go.ResultVar.tmp 6],rs:=[Ty.bool],ps:=[PK.v (Ty.int IntKind.i64),PK.v (Ty.slc false (Ty.pair (Ty.int IntKind.i64) (Ty.pair (Ty.int IntKind.i64) (Ty.pair (Ty.int IntKind.i64) (Ty.pair Ty.str Ty.unit))))),PK.v (Ty.slc false (Ty.pair (Ty.int IntKind.i64) (Ty.pair (Ty.int IntKind.i64) (Ty.pair (Ty.int IntKind.i64) (Ty.pair Ty.str Ty.unit)))))],cuts:=[],nt:=93 }
theorem VotOk.up {n:Nat} {st:SynodD×List (List UInt8)} (h:VotOk n st) (a:ActD):Up st.1.2.1 (votStep st a).1.2.1:=by
  rw [votStep]
  split
  · exact .refl _
  · rename_i c
    obtain ⟨⟨V,R,⟨⟩⟩,said⟩:=st
    exact h.pax.toSOk.up (did_step (Decidable.not_not.1 c) h.pax.toSOk)
theorem chosen_up {n:Nat} {s t:SynodD×List (List UInt8)} (hs:VotOk n s) (ht:VotOk n t) (hu:Up s.1.2.1 t.1.2.1):∀ x∈chosenL s.1,x∈chosenL t.1:=by
  intro x hx
  obtain ⟨r,hr,rfl⟩:=List.mem_map.1 hx
  obtain ⟨r1,r2⟩:=List.mem_filter.1 hr
  have r2:(s.1.1.length:Int)<2*ones r.2.2.2.1:=of_decide_eq_true r2
  obtain ⟨r',k1,k2,k3,k4,k5⟩:=hu r r1 (maj_nz (by omega) r2)
  refine List.mem_map.2 ⟨r',List.mem_filter.2 ⟨k1,decide_eq_true ?_⟩,k5⟩
  have:=ones_mono (a:=r.2.2.2.1) (b:=r'.2.2.2.1) k4
  have e1:=hs.len
  have e2:=ht.len
  show ((t.1.1.length:Nat):Int)<2*ones r'.2.2.2.1
  omega
theorem alike_take {l m:List (List UInt8)} (h:∀ x∈l,x∈m) (hm:∀ a∈m,∀ b∈m,a=b) (hl:l≠[]):l.take 1=m.take 1:=by
  cases l with
  | nil=>exact absurd rfl hl
  | cons x l =>
    have hx:=h x (by simp)
    cases m with
    | nil=>cases hx
    | cons y m=>rw [List.take_succ_cons,List.take_succ_cons,List.take_zero,List.take_zero,hm x hx y (by simp)]
end Go.Proofs.Ytegigiecamjobaa
