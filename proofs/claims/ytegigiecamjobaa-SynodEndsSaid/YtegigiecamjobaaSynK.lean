/- SynodKeeps. No condition. -/
import Derived.Test.YtegigiecamjobaaSynQ
namespace Go.Proofs.Ytegigiecamjobaa
open Go.Ex
set_option maxRecDepth 100000
theorem Did.keeps {V:List VoterD} {R:List RoundD} (h:SOk V R) {a:ActD} {V':List VoterD} {R':List RoundD} (hd:Did V R a V' R'):V'.length=V.length∧R.length≤R'.length ∧
    ∀ k,k<V.length→(V.getD k v00).1≤(V'.getD k v00).1∧(V.getD k v00).2.1≤(V'.getD k v00).2.1∧((V'.getD k v00).2.1=(V.getD k v00).2.1→(V'.getD k v00).2.2.1=(V.getD k v00).2.2.1):=by
  have idk:∀ {v:VoterD},v.1≤v.1∧v.2.1≤v.2.1∧(v.2.1=v.2.1→v.2.2.1=v.2.2.1):=⟨Int.le_refl _,Int.le_refl _,fun _=>rfl⟩
  cases hd with
  | none=>exact ⟨rfl,Nat.le_refl _,fun _ _=>idk⟩
  | begun=>exact ⟨rfl,by rw [List.length_append]; omega,fun _ _=>idk⟩
  | late w i r hw hi hr hlt=>exact ⟨List.length_set,Nat.le_refl _,v_set hw (p:=fun v k=>(V.getD k v00).1≤v.1∧(V.getD k v00).2.1≤v.2.1∧(v.2.1=(V.getD k v00).2.1→v.2.2.1=(V.getD k v00).2.2.1)) ⟨by show _≤r.1; omega,Int.le_refl _,fun _=>rfl⟩ (fun _ _ _=>idk)⟩
  | promised w i r hw hi hr hlt=>exact ⟨List.length_set,by rw [List.length_set]; exact Nat.le_refl _,v_set hw (p:=fun v k=>(V.getD k v00).1≤v.1∧(V.getD k v00).2.1≤v.2.1∧(v.2.1=(V.getD k v00).2.1→v.2.2.1=(V.getD k v00).2.2.1)) ⟨by show _≤r.1; omega,Int.le_refl _,fun _=>rfl⟩ (fun _ _ _=>idk)⟩
  | same w i r hw hi hr hlt=>exact ⟨List.length_set,by rw [List.length_set]; exact Nat.le_refl _,v_set hw (p:=fun v k=>(V.getD k v00).1≤v.1∧(V.getD k v00).2.1≤v.2.1∧(v.2.1=(V.getD k v00).2.1→v.2.2.1=(V.getD k v00).2.2.1)) ⟨by show _≤r.1; omega,Int.le_refl _,fun _=>rfl⟩ (fun _ _ _=>idk)⟩
  | asked i r hi hr=>exact ⟨rfl,by rw [List.length_set]; exact Nat.le_refl _,fun _ _=>idk⟩
  | voted w i r hw hi hr hask hle =>
    have hm:r∈R:=hr▸getD_mem (d:=r00) hi
    have hv:=h.vot w hw
    have hp:=hv.pos
    refine ⟨List.length_set,by rw [List.length_set]; exact Nat.le_refl _,v_set hw (p:=fun v k=>(V.getD k v00).1≤v.1∧(V.getD k v00).2.1≤v.2.1∧(v.2.1=(V.getD k v00).2.1→v.2.2.1=(V.getD k v00).2.2.1)) ⟨hle,by show _≤r.1; omega,fun e=>?_⟩ (fun _ _ _=>idk)⟩
    have e:r.1=(V.getD w v00).2.1:=e
    have:=(h.rng r hm).1
    obtain ⟨q,q1,q2,q3,q4⟩:=hv.last (by omega)
    have e2:=one_eq h.one q1 hm (by omega)
    subst e2
    exact q4
theorem stepR_no {s:SynodD} {a:ActD} (h:stepE s a≠0):stepR s a=(s00,stepE s a,()):=if_pos h
theorem stepR_ok {s:SynodD} {a:ActD} (h:stepE s a=0):stepR s a=(stepS s a,0,()):=if_neg (by rw [h]; simp)
def cSynodKeeps:Ctr:={ ps:=[.v Synod,.v Act],rs:=[.bool],pre:=fun _=>True,fn:=fun _=>(true,()),out:=fun _=>() }
noncomputable def ESynodKeeps:Env:={ P:=Try.prog,tt:=tt,ctr:=[(23,cstep)],res:=[Go.ResultVar.tmp 4],rs:=[Ty.bool],ps:=[PK.v (Ty.pair (Ty.slc false (Ty.pair (Ty.int IntKind.i64) (Ty.pair (Ty.int IntKind.i64) (Ty.pair Ty.str Ty.unit)))) (Ty.pair (Ty.slc false (Ty.pair (Ty.int IntKind.i64) (Ty.pair (Ty.int IntKind.i64) (Ty.pair (Ty.int IntKind.u8) (Ty.pair (Ty.int IntKind.u8) (Ty.pair Ty.bool (Ty.pair Ty.str Ty.unit))))))) Ty.unit)),PK.v (Ty.pair (Ty.int IntKind.i64) (Ty.pair (Ty.int IntKind.i64) (Ty.pair (Ty.int IntKind.i64) (Ty.pair Ty.str Ty.unit))))],cuts:=[(8,[(2,none),(7,none),(48,none),(49,none),(50,none)])],nt:=94 }
def ESynodKeeps_s8 (v48:List (Int×Int×List UInt8×Unit)) (v49:Int) (v50:Int) (o2_1:List (Int×Int×List UInt8×Unit)) (o2_2_1:List (Int×Int×Int×Int×Bool×List UInt8×Unit)) (o7_1:List (Int×Int×List UInt8×Unit)) (o7_2_1:List (Int×Int×Int×Int×Bool×List UInt8×Unit)):St:=St.mk [(2,AV.ptr 2 []),(7,AV.ptr 7 []),(48,AV.val (Ty.slc false (Ty.pair (Ty.int IntKind.i64) (Ty.pair (Ty.int IntKind.i64) (Ty.pair Ty.str Ty.unit)))) v48),(49,AV.val (Ty.int IntKind.i64) v49),(50,AV.val (Ty.int IntKind.i64) v50)] [(2,Ent.var (Ty.pair (Ty.slc false (Ty.pair (Ty.int IntKind.i64) (Ty.pair (Ty.int IntKind.i64) (Ty.pair Ty.str Ty.unit)))) (Ty.pair (Ty.slc false (Ty.pair (Ty.int IntKind.i64) (Ty.pair (Ty.int IntKind.i64) (Ty.pair (Ty.int IntKind.u8) (Ty.pair (Ty.int IntKind.u8) (Ty.pair Ty.bool (Ty.pair Ty.str Ty.unit))))))) Ty.unit)) (o2_1,o2_2_1,())),(7,Ent.var (Ty.pair (Ty.slc true (Ty.pair (Ty.int IntKind.i64) (Ty.pair (Ty.int IntKind.i64) (Ty.pair Ty.str Ty.unit)))) (Ty.pair (Ty.slc true (Ty.pair (Ty.int IntKind.i64) (Ty.pair (Ty.int IntKind.i64) (Ty.pair (Ty.int IntKind.u8) (Ty.pair (Ty.int IntKind.u8) (Ty.pair Ty.bool (Ty.pair Ty.str Ty.unit))))))) Ty.unit)) (o7_1,o7_2_1,()))]
end Go.Proofs.Ytegigiecamjobaa
