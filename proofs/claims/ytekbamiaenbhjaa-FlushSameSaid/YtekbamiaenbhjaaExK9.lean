import Derived.Test.YtekbamiaenbhjaaExK8
import Derived.WalkKit
import Derived.ProofKit
import Derived.OpenShut

namespace Go.Ex

/-! ### drawn regions whose quiet operations are taken ahead -/
def w5 {α:Type} (x:Sem α):Prop:=∀ P w r w',x.run P w=.ok r w'→w'=w

theorem w5.bind {α β:Type} {x:Sem α} {f:α→Sem β} (hx:w5 x) (hf:∀ a,w5 (f a)):w5 (x >>= f):=by
 intro P w r w' h
 rw [Sem.run_bind] at h
 cases hr:x.run P w with
 | ok a w1 =>
  rw [hr] at h
  simp only [Result.andThen] at h
  have:=hx _ _ _ _ hr
  subst this
  exact hf a _ _ _ _ h
 | halt y w1=>rw [hr] at h; simp only [Result.andThen] at h; cases h

theorem w5.pure {α:Type} (a:α):w5 (Pure.pure a:Sem α):=by
 intro P w r w' h; rw [Sem.run_pure] at h; cases h; rfl
theorem w5.stuck {α:Type} (y:String):w5 (stuck y:Sem α):=by
 intro P w r w' h; rw [run_stuck] at h; cases h
theorem w5.unsupported {α:Type} (y:Unsupported):w5 (unsupported y:Sem α):=by
 intro P w r w' h; rw [run_unsupported] at h; cases h
theorem w5.info (t:TypeId):w5 (typeInfo t):=by
 intro P w r w' h
 simp only [typeInfo,Sem.run_bind,run_program,Result.andThen] at h
 split at h
 ·rw [Sem.run_pure] at h; cases h; rfl
 ·rw [run_stuck] at h; cases h
theorem w5.under (t:TypeId):w5 (underlying t):=by
 intro P w r w' h
 simp only [underlying,Sem.run_bind,run_program,Result.andThen] at h
 split at h
 ·rw [Sem.run_pure] at h; cases h; rfl
 ·rw [run_stuck] at h; cases h
theorem w5.zero (t:TypeId):w5 (zeroValue t):=by
 unfold zeroValue
 refine (w5.info t).bind fun i=>?_
 split
 ·exact w5.pure _
 ·exact w5.unsupported _
theorem w5.size (t:TypeId):w5 (sizeOf t):=by
 unfold sizeOf
 exact (w5.info t).bind fun i=>w5.pure _
theorem w5.mapM {α β:Type} {f:α→Sem β} (hf:∀ a,w5 (f a)):∀ l:List α,w5 (l.mapM f)
 | []=>by rw [List.mapM_nil]; exact w5.pure _
 | x::l=>by
  rw [List.mapM_cons]
  exact (hf x).bind fun _=>(w5.mapM hf l).bind fun _=>w5.pure _
theorem w5.map {α β:Type} {x:Sem α} {f:α→β} (hx:w5 x):w5 (f <$> x):=by
 intro P w r w' h
 rw [Sem.run_map] at h
 cases hr:x.run P w with
 | ok a w1 =>
  rw [hr] at h
  simp only [Result.andThen] at h
  cases h
  exact hx _ _ _ _ hr
 | halt y w1=>rw [hr] at h; simp only [Result.andThen] at h; cases h
theorem w5.build (t:TypeId) (parts:Array (Nat×Value)):w5 (Instr.build t parts):=by
 unfold Instr.build
 refine (w5.zero t).bind fun z=>(w5.under t).bind fun d=>?_
 split
 ·rw [Array.mapM_eq_mapM_toList]
  refine ((w5.mapM (fun f=>(w5.size _).bind fun _=>w5.pure _) _).map).bind fun pl=>?_
  split
  ·exact w5.pure _
  ·exact w5.stuck _
 ·refine (w5.size _).bind fun n=>?_
  split
  ·exact w5.pure _
  ·exact w5.stuck _
 ·exact w5.stuck _

theorem a5C {P:Program} {b:Nat}:∀ (vs:List Value) (off i:Nat) (w:World) (arr:Array Value) (T:TypeId) (fz:Nat×Nat) {r:Unit} {w':World},w.heap[b]?=some (.cells arr T fz)→(storeCells ⟨b,off,none⟩ vs i).run P w=.ok r w' →
  (∀ c,c≠b→w'.heap[c]?=w.heap[c]?)∧∃ arr',w'.heap[b]?=some (.cells arr' T fz)
 | [],off,i,w,arr,T,fz,r,w',hb,h=>by
  simp only [storeCells,Sem.run_pure] at h
  cases h
  exact ⟨fun _ _=>rfl,arr,hb⟩
 | v::vs,off,i,w,arr,T,fz,r,w',hb,h=>by
  simp only [storeCells,Sem.run_bind] at h
  cases hv:v.oneCell' with
  | false =>
   exfalso
   have:(store ((⟨b,off,none⟩:Addr).add i) v).run P w=.halt (.stuck "store: not the value of one cell") w:=by
    cases v<;>first|(simp [Value.oneCell'] at hv; done)|rfl
   rw [this] at h
   simp only [Result.andThen] at h
   cases h
  | true =>
   rw [run_store P w _ v _ hv,Addr.B6] at h
   split at h
   ·split at h
    ·simp only [Result.andThen] at h; cases h
    ·simp only [Result.andThen] at h
     have hb1:(w.setCell ⟨b,off+i,none⟩ v).heap[b]?=some (.cells (arr.setIfInBounds (off+i) v) T fz):=by
      simp [World.setCell,Array.getElem?_modify,hb]
     obtain ⟨h1,h2⟩:=a5C vs off (i+1) _ _ T fz hb1 h
     refine ⟨fun c hc=>(h1 c hc).trans ?_,h2⟩
     simp [World.setCell,Array.getElem?_modify,Ne.symm hc]
   ·rename_i hn
    exfalso
    have:w.farStore P ⟨b,off+i,none⟩ v ((Mode.plain:Mode) == .atomic)=.error (w.noCell ⟨b,off+i,none⟩ "store: no such cell"):=by
     simp only [World.farStore,hb]
    rw [this] at h
    simp only [Result.andThen] at h
    cases h

theorem b5s {P:Program} {b off:Nat} {T:TypeId} {v:Value} {w:World} {arr:Array Value} {U:TypeId} {fz:Nat×Nat} (hb:w.heap[b]?=some (.cells arr U fz)) {r:Unit} {w':World} (h:(Instr.storeAt T (.pointer (some ⟨b,off,none⟩)) v).run P w=.ok r w') :
  (∀ c,c≠b→w'.heap[c]?=w.heap[c]?)∧∃ arr',w'.heap[b]?=some (.cells arr' U fz):=by
 simp only [Instr.storeAt,Instr.sureAddr,storeVar,Sem.run_bind,Sem.run_pure,Result.andThen] at h
 cases hs:(sizeOf T).run P w with
 | halt y w1=>rw [hs] at h; simp only [] at h; cases h
 | ok n w1 =>
  rw [hs] at h
  have:=w5.size T _ _ _ _ hs
  subst this
  simp only [] at h
  split at h
  ·simp only [Sem.run_bind,run_stuck,Result.andThen] at h; cases h
  ·exact a5C _ _ _ _ _ _ _ hb h

/-! ### the real order follows one in which the quiet operations come first -/
theorem a5P {o:Oper} (h:a0H o=true∨a5q o=true) {ρ ρ':Operand→Value} (he:∀ x∈X7 o.op,ρ x=ρ' x):execOp ρ o=execOp ρ' o:=by
 unfold execOp
 rcases h with h|h
 ·unfold a0H at h
  split at h<;>first|cases h|skip
  ·rename_i ho; rw [ho] at he ⊢; simp only [X7,List.mem_singleton,forall_eq] at he; simp only [he]
  ·rename_i ho; rw [ho] at he ⊢; simp only [X7,List.mem_singleton,forall_eq] at he; simp only [he]
  ·rename_i ho; rw [ho] at he ⊢; simp only [X7,List.mem_singleton,forall_eq] at he; simp only [he]
 ·unfold a5q at h
  split at h<;>first|cases h|skip
  ·rename_i ho; rw [ho] at he ⊢; simp only [X7,List.mem_singleton,forall_eq] at he; simp only [he]
  ·rename_i ho; rw [ho] at he ⊢; simp only [X7,List.mem_singleton,forall_eq] at he; simp only [he]
  ·rename_i t parts _ ho
   rw [ho] at he ⊢
   have:(parts.map fun q=>(q.1,ρ q.2))=parts.map fun q=>(q.1,ρ' q.2):=by
    apply Array.toList_inj.1
    rw [Array.toList_map,Array.toList_map]
    refine List.map_congr_left fun q hq=>?_
    rw [he q.2 (by simp only [X7,List.mem_map]; exact ⟨q,hq,rfl⟩)]
   simp only []
   rw [this]
  ·rename_i T m x _ ho; rw [ho] at he ⊢; simp only [X7,List.mem_cons,List.not_mem_nil,or_false,forall_eq_or_imp,forall_eq] at he; simp only [he.1,he.2]

structure Qt (ops:Array Oper) (qs:List Bool):Prop where
 cl:∀ i o,ops[i]?=some o→qs.getD i false=true→a0H o=true∧∀ e∈o.after,Region.binds .any e=true→qs.getD e.on false=true
 rest:∀ i o,ops[i]?=some o→qs.getD i false=false→a5q o=true
 rd:∀ i o m,ops[i]?=some o→Operand.tmp m∈X7 o.op→∀ j x,ops[j]?=some x→x.dst=some m→(qs.getD j false=true∧a0z o j=true)∨(qs.getD i false=false∧qs.getD j false=false)
 st:∀ i o T m x,ops[i]?=some o→qs.getD i false=false→o.op=.store T (.tmp m) x→∀ j y,ops[j]?=some y→y.dst=some m→qs.getD j false=true
 ds:∀ (i j:Nat) (o x:Oper) (d:Nat),ops[i]?=some o→ops[j]?=some x→o.dst=some d→x.dst=some d→i=j
 lt:∀ i o,ops[i]?=some o→∀ e∈o.after,Region.binds .any e=true→e.on<i

structure Kw (KB SB:Nat→Prop) (wq w:World):Prop where
 k:∀ b,KB b→w.heap[b]?=wq.heap[b]?
 s:∀ b,SB b→∃ arr T fz,w.heap[b]?=some (.cells arr T fz)

theorem a1w {listed:Array Bool} {i k:Nat} {d:Bool} (hi:i<listed.size):(listed.setIfInBounds i true).getD k d=if k=i then true else listed.getD k d:=by
 by_cases h:k=i
 ·subst h; simp [hi]
 ·rw [if_neg h]; exact getD_set_ne d (Ne.symm h)

theorem a05 (a:Act) (dst:Option Nat) (v:Value) (t:Nat):(a.put dst v).tmps[t]?=if dst=some t∧t<a.tmps.size then some v else a.tmps[t]?:=by
 cases dst with
 | none=>simp [Act.put]
 | some d =>
  simp only [Act.put,Option.some.injEq]
  by_cases h:d=t
  ·subst h
   by_cases h2:d<a.tmps.size
   ·simp [h2]
   ·simp [h2]
  ·simp [h]

theorem a2a (a:Act) (dst:Option Nat) (v:Value):(a.put dst v).tmps.size=a.tmps.size:=by
 cases dst<;>simp [Act.put]
theorem put_defers (a:Act) (dst:Option Nat) (v:Value):(a.put dst v).defers=a.defers:=by
 cases dst<;>simp [Act.put]

theorem a7K {a b:Array Value} {m:Nat} (h:a[m]?=b[m]?):a.getD m undef=b.getD m undef:=by
 rw [Array.getD_eq_getD_getElem?,Array.getD_eq_getD_getElem?,h]

theorem a5S {o:Oper} {j:Nat} (h:a0z o j=true):∃ e∈o.after,Region.binds .any e=true∧e.on=j:=by
 unfold a0z at h
 simp only [List.any_eq_true,Bool.and_eq_true] at h
 obtain ⟨e,he,hb,hj⟩:=h
 exact ⟨e,by simpa using he,hb,Nat.eq_of_beq_eq_true hj⟩

theorem b7C {P:Program} {ops:Array Oper} {qs:List Bool} (hq:Qt ops qs) {Q:Exit→Act→World→Prop} (hQp:∀ c a w,¬ Q (.panic c) a w) {V:Nat→Value} {aq:Act} {KB SB:Nat→Prop} {wq:World}
  (hV:∀ i o,ops[i]?=some o→qs.getD i false=true→∀ (a:Act) w,(∀ m,Operand.tmp m∈X7 o.op→a.tmps[m]?=aq.tmps[m]?)→Kw KB SB wq w→(execOp a.eval o).run P w=.ok (.value (V i)) w)
  (hVq:∀ i o d,ops[i]?=some o→qs.getD i false=true→o.dst=some d→aq.tmps[d]?=some (V i))
  (hS:∀ i o T m x,ops[i]?=some o→qs.getD i false=false→o.op=.store T (.tmp m) x→∃ b off,aq.tmps.getD m undef=.pointer (some ⟨b,off,none⟩)∧SB b∧¬ KB b) :
  ∀ (fuel:Nat) (lr lv:Array Bool) (ar av:Act) (w:World),lr.size=ops.size→lv.size=ops.size→(idxs ops.size lr).length=fuel →
   (∀ k,k<ops.size→lv.getD k true=(lr.getD k true || qs.getD k false))→ar.defers=av.defers→ar.tmps.size=av.tmps.size→av.tmps.size=aq.tmps.size →
   (∀ t,(∀ k o,ops[k]?=some o→qs.getD k false=true→lr.getD k true=false→o.dst≠some t)→ar.tmps[t]?=av.tmps[t]?) →
   (∀ t,(∀ k o,ops[k]?=some o→qs.getD k false=false→o.dst≠some t)→av.tmps[t]?=aq.tmps[t]?) →
   Kw KB SB wq w→wpAny P .any ops Q (idxs ops.size lv).length lv av w→wpAny P .any ops Q fuel lr ar w:=by
 intro fuel
 induction fuel with
 | zero =>
  intro lr lv ar av w hlr hlv hf h1 h2 h3 h4 h5 h6 hK hw
  have hnil:idxs ops.size lr=[]:=List.length_eq_zero_iff.1 hf
  have hall:∀ k,k<ops.size→lr.getD k true=true:=by
   intro k hk
   cases hc:lr.getD k true with
   | true=>rfl
   | false=>have:k∈idxs ops.size lr:=o8.2 ⟨hk,hc⟩; rw [hnil] at this; cases this
  have hnv:idxs ops.size lv=[]:=by
   rw [List.eq_nil_iff_forall_not_mem]
   intro k hk
   obtain ⟨k1,k2⟩:=o8.1 hk
   rw [h1 k k1,hall k k1] at k2
   cases k2
  rw [hnv] at hw
  have ea:ar=av:=by
   have:ar.tmps=av.tmps:=by
    apply Array.ext_getElem?
    intro t
    refine h5 t fun k o ho _ hl=>?_
    rw [hall k (Array.getElem?_eq_some_iff.1 ho).1] at hl
    cases hl
   cases ar; cases av; simp_all
  subst ea
  refine ⟨?_,hw.2⟩
  rw [List.eq_nil_iff_forall_not_mem]
  intro i hi
  obtain ⟨k1,o,k2,_⟩:=mem_ready.1 hi
  rw [hall i (Array.getElem?_eq_some_iff.1 k2).1] at k1
  cases k1
 | succ fuel ih =>
  intro lr lv ar av w hlr hlv hf h1 h2 h3 h4 h5 h6 hK hw
  refine ⟨fun hr=>?_,fun i hi=>?_⟩
  ·exfalso
   cases hix:idxs ops.size lr with
   | nil=>rw [hix] at hf; cases hf
   | cons i l =>
    have hmem:i∈idxs ops.size lr:=by rw [hix]; simp
    obtain ⟨k1,k2⟩:=o8.1 hmem
    have ho:ops[i]?=some ops[i]:=Array.getElem?_eq_getElem k1
    have:i∈Region.ready .any ops lr:=by
     refine mem_ready.2 ⟨k2,ops[i],ho,fun e he hb=>?_⟩
     have hlt:=hq.lt i _ ho e he hb
     cases hle:lr.getD e.on true with
     | true =>
      have:e.on<lr.size:=by omega
      simp [this] at hle ⊢; exact hle
     | false =>
      exfalso
      have hm2:e.on∈idxs ops.size lr:=o8.2 ⟨by omega,hle⟩
      have hs:=J8 ops.size lr
      rw [hix] at hs hm2
      rcases List.mem_cons.1 hm2 with e1|e1
      ·omega
      ·have:=(List.pairwise_cons.1 hs).1 _ e1; omega
    rw [hr] at this
    cases this
  ·obtain ⟨k1,o,ho,hpre⟩:=mem_ready.1 hi
   have hin:i<ops.size:=(Array.getElem?_eq_some_iff.1 ho).1
   have hmem:i∈idxs ops.size lr:=o8.2 ⟨hin,k1⟩
   have hlri:i<lr.size:=by omega
   have hlvi:i<lv.size:=by omega
   -- what the operation reads is there
   have hrd:∀ m,Operand.tmp m∈X7 o.op→ar.tmps[m]?=av.tmps[m]?:=by
    intro m hm
    refine h5 m fun k x hx hqk hl hd=>?_
    rcases hq.rd i o m ho hm k x hx hd with ⟨_,hb⟩|⟨_,h⟩
    ·obtain ⟨e,he,hb',rfl⟩:=a5S hb
     rw [G3 (hpre e he hb')] at hl
     cases hl
    ·rw [hqk] at h; cases h
   have hg:o.guard=none:=by
    cases hqi:qs.getD i false with
    | true =>
     have:=(hq.cl i o ho hqi).1
     unfold a0H at this
     split at this
     ·assumption
     ·assumption
     ·assumption
     ·cases this
    | false =>
     have:=hq.rest i o ho hqi
     unfold a5q at this
     split at this
     ·assumption
     ·assumption
     ·assumption
     ·assumption
     ·cases this
   have hlen:(idxs ops.size (lr.setIfInBounds i true)).length=fuel:=by
    obtain ⟨pre,post,e1,_,e2⟩:=S3 hmem
    rw [N3 hlr hin,e2]
    rw [e1] at hf
    simp at hf ⊢
    omega
   unfold wpOp
   rw [ho]
   simp only [Region.wanted,hg,if_true]
   cases hqi:qs.getD i false with
   | true =>
    obtain ⟨hqo,hcl⟩:=hq.cl i o ho hqi
    have hrun:=hV i o ho hqi ar w (fun m hm=>(hrd m hm).trans (h6 m fun k x hx hqk hd=>by
     rcases hq.rd i o m ho hm k x hx hd with ⟨h,_⟩|⟨h,_⟩
     ·rw [hqk] at h; cases h
     ·rw [hqi] at h; cases h)) hK
    have hd:∃ d,o.dst=some d:=by
     unfold a0H at hqo
     split at hqo
     ·exact ⟨_,by assumption⟩
     ·exact ⟨_,by assumption⟩
     ·exact ⟨_,by assumption⟩
     ·cases hqo
    obtain ⟨d,hd⟩:=hd
    left
    unfold Oper.wp
    rw [hrun,Oper.upon_value]
    refine ih (lr.setIfInBounds i true) lv (ar.put o.dst (V i)) av w (by simp [hlr]) hlv hlen (fun k hk=>?_) (by rw [put_defers]; exact h2) (by rw [a2a]; exact h3) h4 (fun t ht=>?_) h6 hK hw
    ·rw [h1 k hk,a1w hlri]
     by_cases hki:k=i
     ·subst hki; rw [if_pos rfl,hqi]; simp
     ·rw [if_neg hki]
    ·rw [a05,hd]
     have hvd:=hVq i o d ho hqi hd
     by_cases e:d=t
     ·subst e
      have hds:d<aq.tmps.size:=(Array.getElem?_eq_some_iff.1 hvd).1
      rw [if_pos ⟨rfl,by rw [h3,h4]; exact hds⟩,h6 d (fun k x hx hqk hxd=>by
       have:=hq.ds i k o x d ho hx hd hxd
       subst this
       rw [hqi] at hqk; cases hqk),hvd]
     ·rw [if_neg (fun h=>e (by simpa using h.1))]
      refine h5 t fun k x hx hqk hl hxd=>?_
      by_cases hki:k=i
      ·subst hki
       rw [ho] at hx; cases hx
       rw [hd] at hxd
       exact e (by simpa using hxd)
      ·exact ht k x hx hqk (by rw [a1w hlri,if_neg hki]; exact hl) hxd
   | false =>
    have hro:=hq.rest i o ho hqi
    have hmv:i∈idxs ops.size lv:=o8.2 ⟨hin,by rw [h1 i hin,k1,hqi]; rfl⟩
    have hrv:i∈Region.ready .any ops lv:=by
     refine mem_ready.2 ⟨(o8.1 hmv).2,o,ho,fun e he hb=>?_⟩
     have hlt:=hq.lt i o ho e he hb
     have h8:=h1 e.on (by omega)
     rw [G3 (hpre e he hb)] at h8
     have:e.on<lv.size:=by omega
     simp [this] at h8 ⊢; exact h8
    obtain ⟨pre,post,e1,_,e2⟩:=S3 hmv
    have hlv2:(idxs ops.size lv).length=(idxs ops.size (lv.setIfInBounds i true)).length+1:=by
     rw [N3 hlv hin,e2,e1]
     simp
     omega
    rw [hlv2] at hw
    have hwi:=hw.2 i hrv
    unfold wpOp at hwi
    rw [ho] at hwi
    simp only [Region.wanted,hg,if_true] at hwi
    have hex:execOp ar.eval o=execOp av.eval o:=a5P (.inr hro) (fun x hx=>by
     cases x with
     | tmp m=>exact a7K (hrd m hx)
     | _=>rfl)
    -- the rest
    have hnext:∀ (v:Value) (w':World),Kw KB SB wq w'→wpAny P .any ops Q (idxs ops.size (lv.setIfInBounds i true)).length (lv.setIfInBounds i true) (av.put o.dst v) w'→wpAny P .any ops Q fuel (lr.setIfInBounds i true) (ar.put o.dst v) w':=by
     intro v w' hK' hw'
     refine ih (lr.setIfInBounds i true) (lv.setIfInBounds i true) (ar.put o.dst v) (av.put o.dst v) w' (by simp [hlr]) (by simp [hlv]) hlen (fun k hk=>?_) (by rw [put_defers,put_defers]; exact h2) (by rw [a2a,a2a]; exact h3) (by rw [a2a]; exact h4) (fun t ht=>?_) (fun t ht=>?_) hK' hw'
     ·rw [a1w hlvi,a1w hlri,h1 k hk]
      by_cases hki:k=i
      ·subst hki; simp
      ·rw [if_neg hki,if_neg hki]
     ·rw [a05,a05,h3]
      split
      ·rfl
      ·refine h5 t fun k x hx hqk hl hxd=>?_
       have hki:k≠i:=by rintro rfl; rw [hqi] at hqk; cases hqk
       exact ht k x hx hqk (by rw [a1w hlri,if_neg hki]; exact hl) hxd
     ·rw [a05,if_neg (fun h=>ht i o ho hqi h.1)]
      exact h6 t ht
    rcases hwi with hwi|⟨hask,hlo⟩
    ·left
     unfold Oper.wp at hwi ⊢
     rw [hex]
     cases hrn:(execOp av.eval o).run P w with
     | halt y w' =>
      rw [hrn] at hwi
      cases y<;>first|exact (hQp _ _ _ hwi).elim|exact hwi.elim
     | ok n w' =>
      rw [hrn] at hwi
      have key:(∃ v,n=.value v∧w'=w)∨(n=.skip∧Kw KB SB wq w'):=by
       unfold a5q at hro
       split at hro<;>first|cases hro|skip
       ·rename_i x _ hop
        simp only [execOp,hop,Sem.run_pure,Result.ok.injEq] at hrn
        exact .inl ⟨_,hrn.1.symm,hrn.2.symm⟩
       ·rename_i x _ hop
        simp only [execOp,hop,Sem.run_pure,Result.ok.injEq] at hrn
        exact .inl ⟨_,hrn.1.symm,hrn.2.symm⟩
       ·rename_i T parts _ hop
        simp only [execOp,hop,Sem.run_bind] at hrn
        cases hb:(Instr.build T (parts.map fun q=>(q.1,av.eval q.2))).run P w with
        | halt y w1=>rw [hb] at hrn; simp only [Result.andThen] at hrn; cases hrn
        | ok v w1 =>
         rw [hb] at hrn
         simp only [Result.andThen,Sem.run_pure,Result.ok.injEq] at hrn
         have:=w5.build _ _ _ _ _ _ hb
         exact .inl ⟨v,hrn.1.symm,by rw [← hrn.2,this]⟩
       ·rename_i T m x _ hop
        obtain ⟨b,off,hp,hsb,hkb⟩:=hS i o T m x ho hqi hop
        have hem:av.eval (.tmp m)=.pointer (some ⟨b,off,none⟩):=by
         refine Eq.trans (a7K ?_) hp
         refine h6 m fun k y hy hqk hyd=>?_
         rw [hq.st i o T m x ho hqi hop k y hy hyd] at hqk
         cases hqk
        simp only [execOp,hop,Sem.run_bind,hem] at hrn
        cases hb:(Instr.storeAt T (.pointer (some ⟨b,off,none⟩)) (av.eval x)).run P w with
        | halt y w1=>rw [hb] at hrn; simp only [Result.andThen] at hrn; cases hrn
        | ok v w1 =>
         rw [hb] at hrn
         simp only [Result.andThen,Sem.run_pure,Result.ok.injEq] at hrn
         obtain ⟨arr,U,fz,hc⟩:=hK.s b hsb
         obtain ⟨m1,m2⟩:=b5s hc hb
         refine .inr ⟨hrn.1.symm,⟨fun c hkc=>?_,fun c hsc=>?_⟩⟩
         ·rw [← hrn.2,m1 c (by rintro rfl; exact hkb hkc)]; exact hK.k c hkc
         ·rw [← hrn.2]
          by_cases e:c=b
          ·subst e; obtain ⟨arr',m2⟩:=m2; exact ⟨_,_,_,m2⟩
          ·rw [m1 c e]; exact hK.s c hsc
      rcases key with ⟨v,rfl,rfl⟩|⟨rfl,hK'⟩
      ·exact hnext v _ hK hwi
      ·exact hnext undef w' hK' hwi
    ·right
     refine ⟨?_,hlo⟩
     unfold Oper.asks at hask ⊢
     rw [hex]; exact hask

/-! ### the checks -/
theorem Z3 {ops:Array Oper} {f:Nat→Oper→Bool} (h:a7Z ops f=true) {i:Nat} {o:Oper} (ho:ops[i]?=some o):f i o=true:=by
 unfold a7Z at h
 have:=(List.all_eq_true.1 h) i (List.mem_range.2 (Array.getElem?_eq_some_iff.1 ho).1)
 rw [ho] at this
 exact this

theorem a6U {x:Oper} {m:Nat} (h:x.dst=some m):a6V x m=false:=by
 unfold a6V; rw [h]; simp

theorem b78 {ops:Array Oper} {qs:List Bool} (hd:M4 ops=true) (h:qtB ops qs=true):Qt ops qs:=by
 unfold qtB at h
 simp only [Bool.and_eq_true] at h
 obtain ⟨h1,h2⟩:=h
 have hM:=Z1 hd
 have hap:=W1 h1
 refine ⟨fun i o ho hq=>?_,fun i o ho hq=>?_,fun i o m ho hm j x hx hxd=>?_,fun i o T m x ho hq hop j y hy hyd=>?_,fun i j o x d ho hx hod hxd=>?_,fun i o ho=>(hM i o ho).1⟩
 ·have:=Z3 h2 ho
  rw [hq] at this
  simp only [Bool.and_eq_true,List.all_eq_true] at this
  refine ⟨this.1.1,fun e he hb=>?_⟩
  have h3:=this.1.2 e (by simpa using he)
  rw [hb] at h3
  simpa using h3
 ·have:=Z3 h2 ho
  rw [hq] at this
  simp only [Bool.and_eq_true] at this
  exact this.1.1
 ·have:=Z3 h2 ho
  simp only [Bool.and_eq_true,List.all_eq_true] at this
  have h3:=this.2 m (List.mem_filterMap.2 ⟨_,hm,rfl⟩)
  have h4:=Z3 h3 hx
  rw [a6U hxd] at h4
  simpa using h4
 ·have:=Z3 h2 ho
  rw [hq,hop] at this
  simp only [Bool.and_eq_true] at this
  have h4:=Z3 this.1.2 hy
  rw [a6U hyd] at h4
  simpa using h4
 ·have key:∀ {l:List Oper} {i j:Nat} {o x:Oper},A6 l→l[i]?=some o→l[j]?=some x→o.dst=some d→x.dst=some d→i<j→False:=by
   intro l
   induction l with
   | nil=>intro i j o x _ h1 _ _ _; simp at h1
   | cons y l ih =>
    intro i j o x hap h1 h2 h3 h4 hlt
    match i,j,hlt with
    | 0,j+1,_ =>
     simp at h1 h2
     subst h1
     exact hap.1 d h3 x (List.mem_of_getElem? h2) h4
    | i+1,j+1,hlt =>
     simp at h1 h2
     exact ih hap.2 h1 h2 h3 h4 (by omega)
  have e1:ops.toList[i]?=some o:=by simpa using ho
  have e2:ops.toList[j]?=some x:=by simpa using hx
  rcases Nat.lt_trichotomy i j with h|h|h
  ·exact (key hap e1 e2 hod hxd h).elim
  ·exact h
  ·exact (key hap e2 e1 hxd hod h).elim

/-! ### the quiet operations, in the text's order -/
section
variable {E:Env} {ops:Array Oper} {B:y9} {S:Nat→Prop} {ι:Ix} {s:St} {a:Act} {w:World}

def a38 (E:Env) (ops:Array Oper) (qs:List Bool):Nat→List Oper→St→List Nat→St→List Nat→Prop
 | _,[],s,js,s',js'=>s=s'∧js=js'
 | i,o::l,s,js,s',js'=>match qs.getD i false with
  | true=>∃ k p s1,a61 o s=some k∧q8 E ops o s=some (p,s1)∧p∧a38 E ops qs (i+1) l s1 (k++js) s' js'
  | false=>a38 E ops qs (i+1) l s js s' js'

theorem a4u {qs:List Bool} {k:St→List Nat→Tree (E.rs++u6 E.ps)} {L:Code→List Item→St→Prop} {R:DL (E.rs++u6 E.ps)→Prop}:∀ {l:List Oper} {n:Nat} {s:St} {js:List Nat},(a9x E ops qs n l s js k).holds L R→∃ s' js',a38 E ops qs n l s js s' js'∧(k s' js').holds L R
 | [],n,s,js,h=>⟨s,js,⟨rfl,rfl⟩,h⟩
 | o::l,n,s,js,h=>by
  simp only [a9x] at h
  split at h
  ·rename_i hq
   obtain ⟨s',js',h1,h2⟩:=a4u h
   exact ⟨s',js',by simp only [a38,hq]; exact h1,h2⟩
  ·rename_i hq
   split at h
   ·exact h.elim
   ·rename_i kk hk
    obtain ⟨p,s1,h1,h2,h3⟩:=Q7.1 h
    obtain ⟨s',js',h4,h5⟩:=a4u h3
    exact ⟨s',js',by simp only [a38,hq]; exact ⟨kk,p,s1,hk,h1,h2,h4⟩,h5⟩

theorem a4r {P:Program} {T:TypeId} {t:Ty} {n:Nat} (ht:n7 P n T t=true) {b off:Nat} (hl:(d8 w.heap b off t.size).length=t.size) :
  (loadVar T ⟨b,off,none⟩).run P w=.ok (j7 t (d8 w.heap b off t.size)) w:=by
 simp only [loadVar,Sem.run_bind,a2B ht,Result.andThen]
 cases hg:t.agg with
 | true =>
  simp only [if_true,Sem.run_bind,run_sizeOf ht,Result.andThen]
  have:=run_loadCells_list (P:=P) w ⟨b,off,none⟩ (d8 w.heap b off t.size) (fun j v h=>by rw [Addr.B6]; exact G2 h)
  rw [hl] at this
  rw [this]
  simp [j7,hg]
 | false =>
  have h1:t.size=1:=by cases t<;>simp_all [Ty.agg,Ty.size]
  rw [h1] at hl ⊢
  match hc:d8 w.heap b off 1,hl with
  | [c],_ =>
   have:=G2 (w:=w) (b:=b) (off:=off) (n:=1) (j:=0) (v:=c) (by rw [hc]; rfl)
   simp only [Nat.add_zero] at this
   simp [run_load,this,j7,hg]

def KBq (S:Nat→Prop) (ι:Ix) (hp:List (Nat×f9)) (js:List Nat) (b:Nat):Prop:=S b∨∃ j∈js,∃ e,look j hp=some e∧b∈i8 ι j e

theorem b8c (hE:t7 E B) (h:RS B S ι s a w) {o:Oper} {T:TypeId} {x:Operand} (ho:o.op=.load T x) {v:AV} {s':St} (hl:K9 E T (s.ev x) s=.ok v s') {l:List Nat} (hk:a61 o s=some l) :
  s'=s∧∃ val,VX w.heap S ι s.hp v [val]∧∀ w':World,(∀ b,KBq S ι s.hp l b→w'.heap[b]?=w.heap[b]?)→(execOp a.eval o).run E.P w'=.ok (.value val) w':=by
 have he:execOp a.eval o=(do pure (.value (← Instr.loadAt T (a.eval x)))):=by simp [execOp,ho]
 have hv:=h.ev x
 unfold a61 at hk
 rw [ho] at hk
 simp only at hk
 unfold K9 at hl
 split at hl
 ·rename_i t y hx
  rw [hx] at hv hk
  simp only [Option.some.injEq] at hk
  obtain ⟨b,off,e,hb,hr,hR⟩:=hv
  split at hl
  ·rename_i hc
   cases hl
   have e:a.eval x=.pointer (some ⟨b,off,none⟩):=by simpa using e
   refine ⟨rfl,j7 t (d8 w.heap b off t.size),⟨_,rfl,hR⟩,fun w' hw=>C9 he ?_⟩
   have hc2:d8 w'.heap b off t.size=d8 w.heap b off t.size:=j6 (hw b (.inl hb)) _ _
   rw [e]
   have:=a4r (w:=w') (u7 hE hc) (b:=b) (off:=off) (by rw [hc2]; exact hR.length)
   rw [hc2] at this
   simp [Instr.loadAt,Instr.sureAddr,this]
  ·cases hl
 ·rename_i l hx
  rw [hx] at hk
  cases hk
 ·rename_i i p hx
  rw [hx] at hv hk
  simp only [Option.some.injEq] at hk
  subst hk
  obtain ⟨e,b,off,h1,h2,h3,h4⟩:=hv
  have h4:a.eval x=.pointer (some ⟨b,off,none⟩):=by simpa using h4
  split at hl
  ·rename_i u y hpt
   have hg:=C6 h1 hpt
   obtain ⟨O2,k1,k2,k3,k4,k5,_⟩:=F3 (E6 h3) (h.hs.ob i e h1) h.hs.slt h2 hg h3
   split at hl
   ·rename_i hc
    have hr:∀ w':World,(∀ b,KBq S ι s.hp [i] b→w'.heap[b]?=w.heap[b]?)→(execOp a.eval o).run E.P w'=.ok (.value (j7 u (d8 w.heap b off u.size))) w':=by
     intro w' hw
     refine C9 he ?_
     have hc2:d8 w'.heap b off u.size=d8 w.heap b off u.size:=j6 (hw b (.inr ⟨i,by simp,e,h1,k5⟩)) _ _
     rw [h4]
     have:=a4r (w:=w') (u7 hE hc) (b:=b) (off:=off) (by rw [hc2]; exact k3.length)
     rw [hc2] at this
     simp [Instr.loadAt,Instr.sureAddr,this]
    split at hl
    ·rename_i hs
     cases hl
     have:=k3.F4 hs
     subst this
     exact ⟨rfl,_,⟨_,rfl,k3⟩,hr⟩
    ·cases hl
     have hp:=r9 h3
     exact ⟨rfl,_,⟨e,u,y,_,h1,h2,hg,⟨b,off,hp.1,(j6 (B7 hp.2) _ _).symm⟩,rfl⟩,hr⟩
   ·cases hl
  ·cases hl
 ·cases hl

theorem KBq.mono {hp:List (Nat×f9)} {js js':List Nat} (h:∀ j∈js,j∈js') {b:Nat}:KBq S ι hp js b→KBq S ι hp js' b
 | .inl h=>.inl h
 | .inr ⟨j,h1,h2⟩=>.inr ⟨j,h j h1,h2⟩

theorem b2Y (hE:t7 E B) (h:RS B S ι s a w) {o:Oper} (hq:a0H o=true) {p:Prop} {s1:St} (hr:q8 E ops o s=some (p,s1)) (hp:p) {l:List Nat} (hk:a61 o s=some l) :
  x3 E.nt o.dst=true∧∃ v val,s1=s.put o.dst v∧VX w.heap S ι s.hp v [val]∧∀ w':World,(∀ b,KBq S ι s.hp l b→w'.heap[b]?=w.heap[b]?)→(execOp a.eval o).run E.P w'=.ok (.value val) w':=by
 unfold a0H at hq
 split at hq
 ·rename_i hg _ ho
  unfold q8 at hr
  rw [hg] at hr
  simp only at hr
  unfold F7 at hr
  split at hr
  ·cases hr
  ·rename_i hd
   rw [ho] at hr
   simp only [l4,ho,OR.get,Option.some.injEq,Prod.mk.injEq] at hr
   exact ⟨hd,_,_,hr.2.symm,h.ev _,fun w' _=>by simp [execOp,ho]⟩
 ·rename_i hg _ ho
  unfold q8 at hr
  rw [hg] at hr
  simp only at hr
  unfold F7 at hr
  split at hr
  ·cases hr
  ·rename_i T x hd
   rw [ho] at hr
   simp only [l4,ho] at hr
   cases hl:K9 E _ (s.ev _) s with
   | fail y=>rw [hl] at hr; cases hr
   | ok v s' =>
    rw [hl] at hr
    simp only [OR.get,Option.some.injEq,Prod.mk.injEq] at hr
    obtain ⟨e1,val,k1,k2⟩:=b8c hE h ho hl hk
    exact ⟨hd,v,val,by rw [← hr.2,e1],k1,k2⟩
   | B1 p v s' =>
    exfalso
    unfold K9 at hl
    repeat' split at hl
    all_goals cases hl
 ·rename_i hg _ ho
  unfold q8 at hr
  rw [hg] at hr
  simp only at hr
  unfold F7 at hr
  split at hr
  ·cases hr
  ·rename_i hd
   have hpu:=a0A hE h (o:=o) (by rw [ho]; rfl)
   rw [ho] at hr
   simp only at hr
   cases hl:l4 E o s with
   | fail y=>rw [hl] at hr; cases hr
   | ok v s' =>
    rw [hl] at hr hpu
    simp only [OR.get,Option.some.injEq,Prod.mk.injEq] at hr
    obtain ⟨e1,val,k1,k2⟩:=hpu
    exact ⟨hd,v,val,by rw [← hr.2,e1],k2,fun w' _=>k1 w'⟩
   | B1 p' v s' =>
    rw [hl] at hr hpu
    simp only [OR.get,Option.some.injEq,Prod.mk.injEq] at hr
    obtain ⟨e1,val,k1,k2⟩:=hpu (by rw [hr.1]; exact hp)
    exact ⟨hd,v,val,by rw [← hr.2,e1],k2,fun w' _=>k1 w'⟩
 ·cases hq

theorem b66 {a a':Act} {x:Operand} (h:∀ m,x=.tmp m→a.tmps[m]?=a'.tmps[m]?):a.eval x=a'.eval x:=by
 cases x with
 | tmp m=>exact a7K (h m rfl)
 | _=>rfl

theorem a2T (hE:t7 E B) (hn:B.n=E.nt) {qs:List Bool} (hqt:Qt ops qs):∀ {l:List Oper} {n:Nat} {s:St} {js:List Nat} {s':St} {js':List Nat} {a:Act},ops.toList.drop n=l→RS B S ι s a w→a38 E ops qs n l s js s' js' →
  ∃ a',RS B S ι s' a' w∧a'.defers=a.defers∧a'.tmps.size=a.tmps.size∧s'.hp=s.hp∧(∀ j∈js,j∈js') ∧
   (∀ t,(∀ k o,n≤k→ops[k]?=some o→qs.getD k false=true→o.dst≠some t)→a'.tmps[t]?=a.tmps[t]?) ∧
   ∃ V:Nat→Value,(∀ k o d,n≤k→ops[k]?=some o→qs.getD k false=true→o.dst=some d→a'.tmps[d]?=some (V k)) ∧
    ∀ k o,n≤k→ops[k]?=some o→qs.getD k false=true→∀ (ar:Act) (w':World),(∀ m,Operand.tmp m∈X7 o.op→ar.tmps[m]?=a'.tmps[m]?)→(∀ b,KBq S ι s.hp js' b→w'.heap[b]?=w.heap[b]?)→(execOp ar.eval o).run E.P w'=.ok (.value (V k)) w'
 | [],n,s,js,s',js',a,hl,h,hr=>by
  obtain ⟨rfl,rfl⟩:=hr
  have hlen:ops.size≤n:=by
   have:(ops.toList.drop n).length=0:=by rw [hl]; rfl
   simp at this
   omega
  have hno:∀ k o,n≤k→ops[k]?=some o→False:=fun k o hk ho=>by
   have:=(Array.getElem?_eq_some_iff.1 ho).1; omega
  exact ⟨a,h,rfl,rfl,rfl,fun _ h=>h,fun _ _=>rfl,fun _=>undef,fun k o d hk ho=>(hno k o hk ho).elim,fun k o hk ho=>(hno k o hk ho).elim⟩
 | o::l,n,s,js,s',js',a,hl,h,hr=>by
  obtain ⟨ho,hl',_⟩:=P9 hl
  simp only [a38] at hr
  split at hr
  ·rename_i hqi
   obtain ⟨kk,p,s1,hk,hpl,hp,hr⟩:=hr
   obtain ⟨hqo,_⟩:=hqt.cl n o ho hqi
   obtain ⟨hd,v,val,e1,hv,hrun⟩:=b2Y hE h hqo hpl hp hk
   subst e1
   have h1:RS B S ι (s.put o.dst v) (a.put o.dst val) w:=h.put (by rw [hn]; exact hd) hv
   obtain ⟨a',g1,g2,g3,g4,g5,g6,V,g7,g8⟩:=a2T hE hn hqt hl' h1 hr
   have ehp:(s.put o.dst v).hp=s.hp:=by cases o.dst<;>rfl
   rw [ehp] at g4 g8
   -- what it reads stays
   have hkeep:∀ m,Operand.tmp m∈X7 o.op→a'.tmps[m]?=a.tmps[m]?:=by
    intro m hm
    have hno:∀ k x,n≤k→ops[k]?=some x→x.dst≠some m:=by
     intro k x hnk hx hxd
     rcases hqt.rd n o m ho hm k x hx hxd with ⟨_,hb⟩|⟨hb,_⟩
     ·obtain ⟨e,he,hb',rfl⟩:=a5S hb
      have:=hqt.lt n o ho e he hb'
      omega
     ·rw [hqi] at hb; cases hb
    rw [g6 m (fun k x hk hx _=>hno k x (by omega) hx),a05,if_neg (fun h=>hno n o (Nat.le_refl _) ho h.1)]
   refine ⟨a',g1,by rw [g2,put_defers],by rw [g3,a2a],g4,fun j hj=>g5 j (by simp [hj]),fun t ht=>?_,fun k=>if k=n then val else V k,fun k x d hk hx hqk hxd=>?_,fun k x hk hx hqk ar w' har hw'=>?_⟩
   ·rw [g6 t (fun k x hk hx hqk=>ht k x (by omega) hx hqk),a05,if_neg (fun h=>ht n o (Nat.le_refl _) ho hqi h.1)]
   ·show a'.tmps[d]?=some (if k=n then val else V k)
    by_cases e:k=n
    ·subst e
     rw [ho] at hx; cases hx
     have hdn:d<a.tmps.size:=by
      have:d<E.nt:=by rw [hxd] at hd; simpa [x3,Nat.blt_eq] using hd
      rw [h.sz,hn]; exact this
     rw [if_pos rfl,g6 d (fun k' x' hk' hx' hqk' hx'd=>by
      have:=hqt.ds k k' o x' d ho hx' hxd hx'd
      omega),a05,if_pos ⟨hxd,hdn⟩]
    ·rw [if_neg e]
     exact g7 k x d (by omega) hx hqk hxd
   ·show (execOp ar.eval x).run E.P w'=.ok (.value (if k=n then val else V k)) w'
    by_cases e:k=n
    ·subst e
     rw [ho] at hx; cases hx
     rw [if_pos rfl]
     have hex:execOp ar.eval o=execOp a.eval o:=a5P (.inl hqo) (fun x hx=>b66 fun m hm=>by subst hm; exact (har m hx).trans (hkeep m hx))
     rw [hex]
     exact hrun w' (fun b hb=>hw' b (hb.mono (fun j hj=>g5 j (by simp [hj]))))
    ·rw [if_neg e]
     exact g8 k x (by omega) hx hqk ar w' har hw'
  ·rename_i hqi
   obtain ⟨a',g1,g2,g3,g4,g5,g6,V,g7,g8⟩:=a2T hE hn hqt hl' h hr
   have hne:∀ k o',n≤k→ops[k]?=some o'→qs.getD k false=true→n+1≤k:=by
    intro k o' hk _ hqk
    rcases Nat.lt_or_ge n k with h|h
    ·exact h
    ·have:k=n:=by omega
     subst this; rw [hqi] at hqk; cases hqk
   exact ⟨a',g1,g2,g3,g4,g5,fun t ht=>g6 t (fun k x hk hx hqk=>ht k x (by omega) hx hqk),V,fun k x d hk hx hqk=>g7 k x d (hne k x hk hx hqk) hx hqk,fun k x hk hx hqk=>g8 k x (hne k x hk hx hqk) hx hqk⟩

/-! ### the others -/
theorem a4t {M:List Nat} {qs:List Bool} {k:St→Tree (E.rs++u6 E.ps)} {L:Code→List Item→St→Prop} {R:DL (E.rs++u6 E.ps)→Prop}:∀ {l:List Oper} {n:Nat} {s:St} {acc:List Met} {acc':List (Nat×St)},ops.toList.drop n=l →
  (∀ e∈acc',∃ m∈acc,m.i=e.1∧ops[e.1]?=some m.o∧m.s=e.2∧m.T=i7 E m.o e.2)→(a9w E ops M qs n l s acc k).holds L R →
  ∃ s',a1S E ops (fun i=>M.getD i 0) acc' ((List.range' n l.length).filter fun i=>!qs.getD i false) s s'∧(k s').holds L R
 | [],n,s,acc,acc',_,_,h=>⟨s,rfl,h⟩
 | o::l,n,s,acc,acc',hl,ha,h=>by
  obtain ⟨ho,hl',_⟩:=P9 hl
  simp only [a9w] at h
  split at h
  ·rename_i hqi
   obtain ⟨s',h1,h2⟩:=a4t hl' ha h
   refine ⟨s',?_,h2⟩
   rw [List.length_cons,List.range'_succ,List.filter_cons,if_neg (by rw [hqi]; simp)]
   exact h1
  rename_i hqi
  split at h
  ·exact h.elim
  ·rename_i hall
   obtain ⟨p,s1,h1,h2,h3⟩:=Q7.1 h
   have hacc:∀ e∈acc',(M.getD n 0).testBit e.1=true∨∃ x,ops[e.1]?=some x∧a1X E ops x e.2 o s:=by
    intro e he
    obtain ⟨m,hm,m1,m2,m3,m4⟩:=ha e he
    have:=(List.all_eq_true.1 hall) m hm
    simp only [Bool.or_eq_true] at this
    rcases this with this|this
    ·exact .inl (by rw [← m1]; exact this)
    ·simp only [a87,Bool.or_eq_true,Bool.and_eq_true] at this
     rcases this with (⟨h9,h8⟩|⟨h9,h8⟩)|h9
     ·have hp:=a10 h9
      rw [m3,m4] at hp
      refine .inr ⟨m.o,m2,.inl ⟨hp,fun hne x hx hxa=>?_⟩⟩
      rw [m4] at h8
      split at h8
      ·rename_i hnil; exact hne hnil
      ·have:=(List.all_eq_true.1 h8) x hx
       simp at this
       exact this hxa
     ·rw [m3] at h9
      exact .inr ⟨m.o,m2,.inr (.inl ⟨h9,h8⟩)⟩
     ·unfold b3d at h9
      split at h9
      ·rename_i j kd q hst
       rw [m3] at h9
       exact .inr ⟨m.o,m2,.inr (.inr ⟨j,kd,q,hst,h9⟩)⟩
      ·cases h9
   obtain ⟨s',k1,k2⟩:=a4t (acc':=(n,s)::acc') hl' (fun e he=>by
    rcases List.mem_cons.1 he with rfl|he
    ·exact ⟨_,List.mem_cons_self ..,rfl,ho,rfl,rfl⟩
    ·obtain ⟨m,hm,r⟩:=ha e he; exact ⟨m,List.mem_cons_of_mem _ hm,r⟩) h3
   refine ⟨s',?_,k2⟩
   rw [List.length_cons,List.range'_succ,List.filter_cons,if_pos (by rw [hqi]; rfl)]
   exact ⟨o,ho,hacc,p,s1,h1,h2,k1⟩

theorem A6.b5r:∀ {l l':List Oper},l'.Sublist l→A6 l→A6 l'
 | _,_,.slnil,h=>h
 | _,_,.cons _ hs,h=>A6.b5r hs h.2
 | _,_,.cons_cons _ hs,h=>⟨fun d hd x hx=>h.1 d hd x (hs.subset hx),A6.b5r hs h.2⟩

theorem b2S (hE:t7 E B) (hn:B.n=E.nt) {id:Nat} {k:St→Tree (E.rs++u6 E.ps)} {L:Code→List Item→St→Prop} {R:DL (E.rs++u6 E.ps)→Prop} (ht:(b5z E ops s k).holds L R) {Q:Exit→Act→World→Prop} (hQp:∀ c a w,¬ Q (.panic c) a w)
  (hQ:∀ S ι s' a w,RS B S ι s' a w→(k s').holds L R→Q .normal a w) (h:RS B S ι s a w):(Code.region id ops true).wp E.P Q a w:=by
 unfold b5z at ht
 split at ht
 ·rename_i hd
  simp only [Bool.and_eq_true] at hd
  obtain ⟨⟨hd,hqb⟩,h5⟩:=hd
  obtain ⟨sQ,js,hqr,ht⟩:=a4u ht
  split at ht
  ·rename_i hent
   obtain ⟨s',hrun,hk⟩:=a4t (acc':=[]) rfl (by simp) ht
   generalize hqs:a9z ops=qs at hqb hqr hent hrun
   have hqt:=b78 hd hqb
   refine wp_region_any h5 ?_
   change wpAny E.P .any ops Q ops.size (Array.replicate ops.size false) a w.drew
   have h0:RS B S ι s a w.drew:=h.J4 x4.nil w8.drew
   generalize w.drew=w at h0
   obtain ⟨aq,g1,g2,g3,g4,_,g6,V,g7,g8⟩:=a2T hE hn hqt rfl h0 hqr
   unfold b7N at hent
   simp only [Bool.and_eq_true] at hent
   obtain ⟨hu,hent⟩:=hent
   -- the stores' blocks
   have hst:∀ i o T m x,ops[i]?=some o→qs.getD i false=false→o.op=.store T (.tmp m) x→∃ b off,aq.tmps.getD m undef=.pointer (some ⟨b,off,none⟩)∧(∃ arr U fz,w.heap[b]?=some (.cells arr U fz))∧¬ KBq S ι s.hp js b:=by
    intro i o T m x ho hqi hop
    have:=Z3 hent ho
    rw [hqi,hop] at this
    simp only [Bool.false_or,Bool.and_eq_true] at this
    have h7:=this.2
    split at h7
    ·rename_i kk pp hev
     obtain ⟨e,b,off,k1,k2,k3,k4⟩:=t6 g1 hev
     have k4:aq.eval (.tmp m)=.pointer (some ⟨b,off,none⟩):=by simpa using k4
     obtain ⟨u,y,hg⟩:=a4H k2
     obtain ⟨_,_,_,_,_,m5,m6⟩:=F3 (E6 k3) (g1.hs.ob kk e k1) g1.hs.slt k2 hg k3
     obtain ⟨arr,U,⟨fz,hc,_⟩,_⟩:=m6
     refine ⟨b,off,k4,⟨arr,U,fz,hc⟩,?_⟩
     rintro (hb|⟨j,hj,ej,hje,hbj⟩)
     ·exact (g1.hs.bl kk e k1 b m5).1 hb
     ·rw [← g4] at hje
      refine g1.hs.dj kk j e ej k1 hje ?_ b m5 hbj
      rintro rfl
      have:js.contains kk=true:=by simpa using hj
      rw [this] at h7
      cases h7
    ·cases h7
   let lv:Array Bool:=((List.range ops.size).map fun i=>qs.getD i false).toArray
   have hlv:lv.size=ops.size:=by simp [lv]
   have hlg:∀ k d,k<ops.size→lv.getD k d=qs.getD k false:=by
    intro k d hk
    simp [lv,Array.getD,hk]
   have hix:idxs ops.size lv=(List.range' 0 ops.toList.length).filter fun i=>!qs.getD i false:=by
    unfold idxs
    rw [List.range_eq_range',Array.length_toList]
    refine List.filter_congr fun i hi=>?_
    rw [hlg i true (by simpa using hi)]
   refine b7C hqt hQp (V:=V) (aq:=aq) (KB:=KBq S ι s.hp js) (SB:=fun b=>∃ arr U fz,w.heap[b]?=some (.cells arr U fz)) (wq:=w)
    (fun i o ho hqi ar w' har hK=>g8 i o (Nat.zero_le _) ho hqi ar w' har hK.k) (fun i o d ho hqi hd=>g7 i o d (Nat.zero_le _) ho hqi hd) hst
    ops.size (Array.replicate ops.size false) lv a aq w (by simp) hlv (by rw [I1]; simp) (fun k hk=>by rw [hlg k true hk]; simp [hk]) g2.symm g3.symm rfl (fun t ht=>(g6 t (fun k o _ ho hqk=>ht k o ho hqk (by
     have:k<ops.size:=(Array.getElem?_eq_some_iff.1 ho).1
     simp [this]))).symm) (fun _ _=>rfl) ⟨fun _ _=>rfl,fun b hb=>hb⟩ ?_
   refine a4N hE hn hd (s0:=s') (fun S ι a w h=>hQ S ι s' a w h hk) (idxs ops.size lv).length lv S ι sQ s' aq w hlv rfl ?_ ?_ (A3 hu) ?_ (by rw [hix]; exact hrun) (C1.refl _) g1
   ·intro kk o ho hl e he hb
    have hkk:kk<ops.size:=(Array.getElem?_eq_some_iff.1 ho).1
    rw [hlg kk true hkk] at hl
    have hlt:=hqt.lt kk o ho e he hb
    rw [hlg e.on false (by omega)]
    exact (hqt.cl kk o ho hl).2 e he hb
   ·refine A6.b5r ?_ (W1 (l:=ops.toList) (by unfold qtB at hqb; simp only [Bool.and_eq_true] at hqb; exact hqb.1))
    rw [← a04]
    unfold rem
    refine List.Sublist.filterMap _ ?_
    rw [I1]
    exact List.filter_sublist
   ·intro o ho d hd'
    obtain ⟨j,j1,j2⟩:=List.mem_filterMap.1 ho
    have j3:=(List.mem_filter.1 j1).1
    obtain ⟨j4,j5⟩:=o8.1 j3
    rw [hlg j true j4] at j5
    have:=Z3 hent j2
    rw [j5,hd'] at this
    simp only [Bool.false_or,Bool.and_eq_true] at this
    exact this.1
  ·exact ht.elim
 ·exact ht.elim
end
end Go.Ex

namespace Go.Ex

section
variable {E:Env} {B:y9} {S S':Nat→Prop} {ι:Ix} {s:St} {a:Act} {w:World} {hp:List (Nat×f9)} {H H':Array Go.Obj}

def At (P:Program) (fn:Func) (R:Ending→World→Prop) (k:List Item) (a:Act) (w:World):Prop :=
 ∀ (b:Frame) (cs:List Frame),∃ (e:Exit) (a':Act) (w':World),bodyPost P fn R e a' w'∧Arrives P (lone (b.at a k) cs w) b [] cs e a' w'

section at_
variable {P:Program} {fn:Func} {R:Ending→World→Prop} {k k':List Item}

theorem At.step (hs:∀ (b:Frame) (cs:List Frame),step P (lone (b.at a k) cs w)=.next (lone (b.at a k') cs w)) (h:At P fn R k' a w):At P fn R k a w :=
 fun b cs=>let ⟨e,a',w',q,r⟩:=h b cs; ⟨e,a',w',q,.of_steps (.one (hs b cs)) r⟩

theorem At.region {id:Nat} {ops:Array Oper} {d:Bool} (h:(Code.region id ops d).wp P (fun e a w=>e=.normal∧At P fn R k a w) a w):At P fn R (.code (.region id ops d)::k) a w:=by
 intro b cs
 obtain ⟨e,a',w',⟨rfl,h2⟩,harr⟩:=h b k cs
 obtain ⟨e,a'',w'',q,r⟩:=h2 b cs
 exact ⟨e,a'',w'',q,.of_steps harr r⟩

theorem At.done (h:bodyPost P fn R .normal a w):At P fn R [] a w:=fun _ _=>⟨.normal,a,w,h,Steps.refl _ _⟩
theorem At.ret (h:bodyPost P fn R .ret a w):At P fn R (.code .ret::k) a w:=fun _ _=>⟨.ret,a,w,h,_,.one step_ret⟩

theorem b1A {f:FuncId} {c:Code} {args:Array Value} (hf:P.funcs[f]?=some fn) (hb:fn.body=some c)
  (h:At P fn R [.code c] { tmps:=args++Array.replicate (fn.ntmps - args.size) undef,defers:=[] } w):Calls P f args w R:=by
 intro cs
 let b:Frame:={ (default:Frame) with fn:=f,kind:=.normal }
 have henter:Frame.enter P f args .normal=b.at { tmps:=args++Array.replicate (fn.ntmps - args.size) undef,defers:=[] } [.code c]:=by
  simp [Frame.enter,Frame.at,hf,hb,b]
 obtain ⟨e,a',w',hq,harr⟩:=h b cs
 rw [← henter] at harr
 cases e with
 | normal =>
  obtain ⟨hd,v,hr,hR⟩:=hq
  exact ⟨.returned v,w',_,hR,Steps.trans harr (.one step_end),rfl,rfl,hd,rfl,fn,hf,hr⟩
 | ret =>
  obtain ⟨hd,v,hr,hR⟩:=hq
  obtain ⟨todo,hs⟩:=harr
  exact ⟨.returned v,w',_,hR,hs,rfl,rfl,hd,rfl,fn,hf,hr⟩
 | panic chain =>
  obtain ⟨hd,hR⟩:=hq
  obtain ⟨todo,hs⟩:=harr
  exact ⟨.panicked chain,w',_,hR,hs,rfl,rfl,hd,fn,hf⟩
 | exit id=>exact hq.elim
 | goto l=>exact hq.elim
 | outgrown=>exact ⟨.outgrown,w',b,hq,harr.resolve_left (by simp [b]),rfl,trivial⟩
end at_

/-! ### what is kept at a cut -/
theorem RS.I4 (live:List Nat) (s0:St):∀ {l:List (Nat×f9)} {s:St},RS B S ι s a w→RS B S ι (I4 live s0 l s) a w
 | [],_,h=>h
 | (i,_)::l,s,h=>by
  simp only [Ex.I4]
  split
  ·exact RS.I4 live s0 h
  ·rename_i hp
   simp only [Bool.or_eq_false_iff] at hp
   exact RS.I4 live s0 (h.drop hp.1)

theorem RS.b28 (h:RS B S ι s a w) {m d:Nat} (hf:s.fresh d=true) {t:Ty} {x:t.den} {O:List Nat} {cs:List Value} (hv:a.tmps.getD m (B.gd m)=j7 t cs) (hR:d9 w.heap S t O cs x) (hF:x4 B S ι s.hp w O) :
  ∃ ι',RS B S ι' { s.o7 d (.own t x) with fr:=Ex.put m (.at_ d []) s.fr } a w :=
 ⟨_,(h.hold hf hR hF).slot (t:=m) (v:=.at_ d []) (by rw [hv]; exact a3n hR.length)⟩

def a2t (ι ι':Ix) (i j:Nat):Prop:=ι'.root j=ι.root i∧ι'.cells j=ι.cells i∧ι'.own j=ι.own i

theorem a2t.place {ι':Ix} {i j:Nat} (h:a2t ι ι' i j) {H:Array Go.Obj} {e:f9} {p:List Step}:Place H ι' j e p=Place H ι i e p:=by
 obtain ⟨h1,h2,h3⟩:=h
 cases e<;>simp only [Place,VH,VR,h1,h2]
theorem a2t.loc {ι':Ix} {i j:Nat} (h:a2t ι ι' i j) {H:Array Go.Obj} {e:f9} {p:List Step}:Loc H ι' j e p=Loc H ι i e p:=by
 simp only [Loc,h.place]
theorem a2t.a4R {ι':Ix} {i j:Nat} (h:a2t ι ι' i j) {H:Array Go.Obj} {e:f9} {p:List Step} {u:Ty} {cs:List Value}:Cells H ι' j e p u cs↔Cells H ι i e p u cs:=by
 have hv:VH H ι' j e=VH H ι i e:=by obtain ⟨h1,h2,h3⟩:=h; cases e<;>simp only [VH,h2]
 simp only [Cells,h.place,hv]

theorem RS.ren (h:RS B S ι s a w) {i j:Nat} (hi:pinned i=false) {u:Ty} {x:u.den} (h1:look i s.hp=some (.own u x)) (hf:s.fresh j=true) :
  ∃ ι',RS B S ι' { fr:=mapA (AV.ren i j) s.fr,hp:=Ex.put j (.own u x) (del i s.hp) } a w:=by
 obtain ⟨f1,f2⟩:=a2K hf
 have hij:i≠j:=by rintro rfl; rw [f1] at h1; cases h1
 let ι':Ix:={ root:=fun k=>if k=j then ι.root i else ι.root k,cells:=fun k=>if k=j then ι.cells i else ι.cells k,own:=fun k=>if k=j then ι.own i else ι.own k }
 have hsj:a2t ι ι' i j:=⟨by simp [ι'],by simp [ι'],by simp [ι']⟩
 have hsk:∀ k,k≠j→w6 ι ι' k:=fun k hk=>⟨by simp [ι',hk],by simp [ι',hk],by simp [ι',hk]⟩
 have hF:x4 B S ι (St.p7 [i] s).hp w (ι.own i):=by
  obtain ⟨⟨O,hO,hR⟩,hnd⟩:=(h.hs.ob i _ h1:OB w.heap S ι i (.own u x))
  exact x4.p7 h.hs hnd (fun b hb=>⟨i,_,by simp,h1,hb⟩)
 have hob:OB w.heap S ι' j (.own u x):=by
  obtain ⟨⟨O,hO,hR⟩,hnd⟩:=(h.hs.ob i _ h1:OB w.heap S ι i (.own u x))
  obtain ⟨e1,e2,e3⟩:=hsj
  exact ⟨⟨O,by rw [e3]; exact hO,by rw [e2]; exact hR⟩,by rw [e3]; exact hnd⟩
 have hd:=h.hs.drop hi
 refine ⟨ι',⟨hd.add (d:=j) (e:=.own u x) (ι':=ι') (O:=ι.own i) ?_ hsk hob ?_ hF,h.W7,h.sz,?_⟩⟩
 ·rw [E3]; split<;>first|rfl|exact f1
 ·intro b hb
  have:ι'.own j=ι.own i:=hsj.2.2
  show b∈ι.own i
  rw [← this]; exact hb
 ·intro t v hv
  simp only [D3,Option.map_eq_some_iff] at hv
  obtain ⟨v0,hv0,rfl⟩:=hv
  have hvj:=f2 t v0 hv0
  refine VX.map (fun _ _=>rfl) (fun _ h=>h) (fun q vs hq hm hv=>?_) (h.fr t v0 hv0)
  have hlk:∀ k,q.e8 k=true→k≠i→look k (Ex.put j (.own u x) (del i s.hp))=look k s.hp:=by
   intro k hk hki
   have hkj:k≠j:=by rintro rfl; rw [hm k hk] at hvj; cases hvj
   rw [l7,if_neg hkj,E3,if_neg hki]
  have hlj:look j (Ex.put j (f9.own u x) (del i s.hp))=some (.own u x):=by rw [l7,if_pos rfl]
  dsimp only
  split
  ·rename_i hmi
   refine VX.other (fun k hk=>hlk k hk ?_) (fun k hk=>hsk k ?_) hv
   ·rintro rfl; rw [hk] at hmi; cases hmi
   ·rintro rfl; rw [hm k hk] at hvj; cases hvj
  ·rename_i hmi
   split
   ·rename_i k p
    have:=Nat.eq_of_beq_eq_true hmi
    subst this
    obtain ⟨e,b,off,k1,k2,k3,k4⟩:=hv
    rw [h1] at k1; cases k1
    exact ⟨_,b,off,hlj,k2,hsj.loc.trans k3,k4⟩
   ·rename_i k p
    have:=Nat.eq_of_beq_eq_true hmi
    subst this
    obtain ⟨e,u',y,cs,k1,k2,k3,k4,k5⟩:=hv
    rw [h1] at k1; cases k1
    exact ⟨_,u',y,cs,hlj,k2,k3,hsj.a4R.2 k4,k5⟩
   ·rename_i k p lo hi'
    have:=Nat.eq_of_beq_eq_true hmi
    subst this
    obtain ⟨e,v,k1,k2,k3,k4,k5,k6⟩:=hv
    rw [h1] at k1; cases k1
    refine ⟨_,v,hlj,k2,k3,k4,k5,?_⟩
    rcases k6 with ⟨t',l,A,cap,q1,q2,q3,q4⟩|⟨n,t',l,b,off,q1,q2,q3,q4⟩
    ·exact .inl ⟨t',l,A,cap,q1,q2,hsj.a4R.2 q3,q4⟩
    ·exact .inr ⟨n,t',l,b,off,q1,q2,hsj.loc.trans q3,q4⟩
   ·obtain ⟨y,e⟩:=VX.one hq hv
    exact ⟨y,e⟩

theorem RS.settle (h:RS B S ι s a w) (m:Nat) (t:Ty):∃ ι',RS B S ι' (settle m t s) a w:=by
 have hg:=h.get m
 unfold Ex.settle
 split
 ·rename_i hm
  rw [hm] at hg
  have hv:a.tmps.getD m (B.gd m)=Value.slice none 0 0:=by
   have:[a.tmps.getD m (B.gd m)]=[Value.slice none 0 0]:=hg
   simpa using this
  split
  ·rename_i u hf
   exact h.b28 hf (t:=.d0 true u) (x:=([]:List u.den)) (O:=[]) (cs:=[.slice none 0 0]) hv (.inl ⟨rfl,⟨none,0,rfl,fun _=>rfl⟩,rfl⟩) x4.nil
  ·exact ⟨ι,h⟩
 ·rename_i i hm
  split
  ·rename_i u x hob
   split
   ·exact ⟨ι,h⟩
   ·rename_i hc
    simp only [Bool.or_eq_false_iff,Bool.not_eq_false'] at hc
    exact h.ren hc.1 hob hc.2
  ·exact ⟨ι,h⟩
 ·rename_i i lo hi hm
  rw [hm] at hg
  split
  ·rename_i u x g hgv
   split
   ·exact ⟨ι,h⟩
   ·rename_i hc
    simp only [Bool.or_eq_false_iff,Bool.not_eq_false'] at hc
    obtain ⟨O,cs,k1,k2,k3,k4⟩:=V8 h.hs hgv hg
    have hgi:g=[i]:=by
     simp only [AV.L6] at hgv
     split at hgv<;>cases hgv
     rfl
    subst hgi
    exact (h.drop hc.1).b28 hc.2 k1 k2 (x4.p7 h.hs k3 k4)
  ·exact ⟨ι,h⟩
 ·rename_i u x hm
  rw [hm] at hg
  split
  ·rename_i hc
   simp only [Bool.and_eq_true] at hc
   obtain ⟨cs,e,hR⟩:=hg
   exact h.b28 hc.2 (by simpa using e) hR x4.nil
  ·exact ⟨ι,h⟩
 ·exact ⟨ι,h⟩

theorem RS.Q4:∀ {l:List (Nat×Option Ty)} {ι:Ix} {s:St},RS B S ι s a w→∃ ι',RS B S ι' (Q4 l s) a w
 | [],ι,s,h=>⟨ι,h⟩
 | (_,none)::l,ι,s,h=>RS.Q4 (l:=l) h
 | (m,some t)::l,ι,s,h=>by
  obtain ⟨ι',h'⟩:=h.settle m t
  exact RS.Q4 (l:=l) h'

theorem RS.canon (h:RS B S ι s a w) (x:List (Nat×Option Ty)):∃ ι',RS B S ι' (canon x s) a w:=by
 have h1:RS B S ι (Ex.I4 (x.map (·.1)) s s.hp s) a w:=RS.I4 (x.map (·.1)) s h
 obtain ⟨ι',h2⟩:=RS.Q4 (l:=x) h1
 have h3:=RS.I4 (x.map (·.1)) (Ex.Q4 x (Ex.I4 (x.map (·.1)) s s.hp s)) (l:=(Ex.Q4 x (Ex.I4 (x.map (·.1)) s s.hp s)).hp) h2
 refine ⟨ι',h3.hs,h3.W7,h3.sz,?_⟩
 intro t v hv
 simp only [Ex.canon] at hv
 generalize hs:Ex.I4 (x.map (·.1)) (Ex.Q4 x (Ex.I4 (x.map (·.1)) s s.hp s)) (Ex.Q4 x (Ex.I4 (x.map (·.1)) s s.hp s)).hp (Ex.Q4 x (Ex.I4 (x.map (·.1)) s s.hp s))=s1 at hv h3
 have:v=s1.get t:=by
  generalize x.map (·.1)=ts at hv
  clear h3 hs
  revert hv
  induction ts with
  | nil=>intro hv; cases hv
  | cons t' l ih =>
   intro hv
   simp only [List.map_cons,look] at hv
   cases hb:Nat.beq t t' with
   | true =>
    rw [hb] at hv
    have:=Nat.eq_of_beq_eq_true hb
    subst this
    cases hv; rfl
   | false=>rw [hb] at hv; exact ih hv
 rw [this]
 have:=h3.get t
 simp only [Ex.canon,hs]
 exact this

/-! ### results -/
theorem a3E (hE:t7 E B) (h:RS B S ι s a w):∀ {rs:List ResultVar} {l:AV},a4s E s rs=some l →
  ∃ us,(rs.mapM fun r=>(match r with
   | .tmp t=>pure (a.tmps.getD t undef)
   | .cell c t=>do loadVar t (← asAddr (a.tmps.getD c undef)):Sem Value)).run E.P w=.ok us w∧VX w.heap S ι s.hp l us
 | [],l,hl=>by
  simp only [a4s,Option.some.injEq] at hl
  subst hl
  exact ⟨[],rfl,rfl⟩
 | .tmp t::rs,l,hl=>by
  simp only [a4s] at hl
  split at hl
  ·rename_i v hv
   cases hl
   obtain ⟨us,h1,h2⟩:=a3E hE h hv
   exact ⟨a.tmps.getD t undef::us,by simp only [List.mapM_cons,Sem.run_bind,Sem.run_pure,Result.andThen,h1],_,us,rfl,h.ev (.tmp t),h2⟩
  ·cases hl
 | .cell c T::rs,l,hl=>by
  simp only [a4s] at hl
  split at hl
  ·rename_i i p hc
   have hv:=h.ev (.tmp c)
   rw [hc] at hv
   obtain ⟨e,b,off,k1,k2,k3,k4⟩:=hv
   have k4:a.tmps.getD c undef=.pointer (some ⟨b,off,none⟩):=by
    have k5:[a.tmps.getD c undef]=[.pointer (some ⟨b,off,none⟩)]:=k4
    exact List.head_eq_of_cons_eq k5
   split at hl
   ·rename_i u y hpt
    have hg:=C6 k1 hpt
    split at hl
    ·rename_i hck
     split at hl
     ·rename_i v hv
      obtain ⟨us,h1,h2⟩:=a3E hE h hv
      obtain ⟨O2,m1,mn,m2,m3,m4,m5⟩:=F3 (E6 k3) (h.hs.ob i _ k1) h.hs.slt k2 hg k3
      have hld:(do loadVar T (← asAddr (a.tmps.getD c undef)):Sem Value).run E.P w=.ok (j7 u (d8 w.heap b off u.size)) w:=by
       rw [k4]; simp [asAddr,X0 (u7 hE hck) m2]
      refine ⟨j7 u (d8 w.heap b off u.size)::us,?_,?_⟩
      ·simp only [List.mapM_cons]
       rw [Sem.run_bind,hld]
       simp only [Result.andThen,Sem.run_bind,Sem.run_pure,h1]
      ·split at hl
       ·rename_i hs
        cases hl
        have:=m2.F4 hs
        subst this
        exact ⟨_,us,rfl,⟨_,rfl,m2⟩,h2⟩
       ·cases hl
        obtain ⟨r3,r4⟩:=r9 k3
        exact ⟨_,us,rfl,⟨_,u,y,_,k1,k2,hg,⟨b,off,r3,by rw [j6 (B7 r4)]⟩,rfl⟩,h2⟩
     ·cases hl
    ·cases hl
   ·cases hl
  ·cases hl

theorem b01 (hE:t7 E B) (h:RS B S ι s a w) {fn:Func} (hres:fn.results.toList=E.res) {l:AV} (hl:a4s E s E.res=some l) :
  ∃ us,(results fn a.tmps).run E.P w=.ok (a18 us) w∧VX w.heap S ι s.hp l us:=by
 obtain ⟨us,h1,h2⟩:=a3E hE h hl
 refine ⟨us,?_,h2⟩
 rw [← hres] at h1
 have:(fn.results.mapM fun r=>(match r with
   | .tmp t=>pure (a.tmps.getD t undef)
   | .cell c t=>do loadVar t (← asAddr (a.tmps.getD c undef)):Sem Value)).run E.P w=.ok us.toArray w:=by
  rw [Array.mapM_eq_mapM_toList,Sem.run_map,h1]; rfl
 simp only [results]
 rw [Sem.run_bind]
 refine (congrArg (fun r:Result (Array Value)=>r.andThen fun vs w'=>Sem.run E.P (pure (if h:vs.size=1 then vs[0] else Value.tuple vs)) w') this).trans ?_
 simp only [Result.andThen,Sem.run_pure]
 match us with
 | []=>rfl
 | [v]=>rfl
 | v::v2::l=>rfl

theorem b2R (h:HS B S ι s.hp w) {t:Ty} {used used':List Nat} {av:AV} {x:t.den} {v:Value} (hr:a9t s t used av=some (x,used')) (hv:VX w.heap S ι s.hp av [v]) :
  ∃ O cs,v=j7 t cs∧d9 w.heap S t O cs x∧O.Nodup∧(∀ b∈O,∃ i e,i∈used'∧i∉used∧pinned i=false∧look i s.hp=some e∧b∈i8 ι i e)∧∀ i∈used,i∈used':=by
 unfold a9t at hr
 split at hr
 ·rename_i i
  split at hr
  ·cases hr
  ·rename_i hc
   simp only [Bool.or_eq_false_iff] at hc
   obtain ⟨hc1,hc2⟩:=hc
   have hnu:i∉used:=by intro hm; simp [hm] at hc1
   obtain ⟨e,u,y,cs,h1,h2,h3,h4,h5⟩:=hv
   have key:∀ {e0:f9},s.obj i=some e0→(hu:e0.ty=t)→∀ {x},x=D8 hu e0.x→∃ O cs,v=j7 t cs∧d9 w.heap S t O cs x∧O.Nodup∧(∀ b∈O,∃ j e,j∈i::used∧j∉used∧pinned j=false∧look j s.hp=some e∧b∈i8 ι j e)∧∀ j∈used,j∈i::used:=by
    rintro e0 hob rfl x rfl
    obtain rfl:=U4 h1 hob
    rw [u5] at h3; cases h3
    obtain ⟨O2,m1,m2,m3⟩:=C4 h h1 h2 u5 h4
    exact ⟨O2,cs,by simpa using h5,m3,m2,fun b hb=>⟨i,_,by simp,hnu,hc2,h1,B4 (m1 b hb)⟩,fun j hj=>by simp [hj]⟩
   split at hr
   ·rename_i u' x' hob
    split at hr
    ·rename_i hu; cases hr; exact key (e0:=.var u' x') hob hu rfl
    ·cases hr
   ·rename_i u' x' hob
    split at hr
    ·rename_i hu; cases hr; exact key (e0:=.own u' x') hob hu rfl
    ·cases hr
   ·cases hr
 ·rename_i i lo hi
  split at hr
  ·cases hr
  ·rename_i hc
   simp only [Bool.or_eq_false_iff] at hc
   obtain ⟨hc1,hc2⟩:=hc
   have hnu:i∉used:=by intro hm; simp [hm] at hc1
   split at hr
   ·rename_i u x' g hgv
    split at hr
    ·rename_i hu
     cases hr
     subst hu
     obtain ⟨O,cs,k1,k2,k3,k4⟩:=V8 h hgv hv
     have hgi:g=[i]:=by
      simp only [AV.L6] at hgv
      split at hgv<;>cases hgv
      rfl
     subst hgi
     refine ⟨O,cs,k1,k2,k3,fun b hb=>?_,fun j hj=>by simp [hj]⟩
     obtain ⟨j,e,j1,j2,j3⟩:=k4 b hb
     simp only [List.mem_cons,List.not_mem_nil,or_false] at j1
     subst j1
     exact ⟨j,e,by simp,hnu,hc2,j2,j3⟩
    ·cases hr
   ·cases hr
 ·rename_i i
  split at hr
  ·cases hr
  ·rename_i hc
   simp only [Bool.or_eq_false_iff] at hc
   obtain ⟨hc1,hc2⟩:=hc
   have hnu:i∉used:=by intro hm; simp [hm] at hc1
   split at hr
   ·rename_i u y hob
    split at hr
    ·rename_i hu
     subst hu
     cases hr
     obtain ⟨e,b,off,h1,h2,h3,h4⟩:=hv
     obtain rfl:=U4 h1 hob
     obtain ⟨⟨O,hO,hR⟩,hf,hnd⟩:=h.ob i _ h1
     have hl:(ι.root i).1=b∧(ι.root i).2=off:=by
      have:=(r9 h3).1
      simp only [Place,s8,VR,Option.some.injEq,Prod.mk.injEq] at this
      exact this
     obtain ⟨rfl,rfl⟩:=hl
     refine ⟨(ι.root i).1::O,[.pointer (some ⟨(ι.root i).1,(ι.root i).2,none⟩)],by simpa [j7,Ty.agg] using h4,.inr ⟨_,_,_,O,rfl,rfl,hf.o6,hR,rfl,hf⟩,((hO.cons _).nodup_iff).2 hnd,fun c hc=>⟨i,_,by simp,hnu,hc2,h1,?_⟩,fun j hj=>by simp [hj]⟩
     simp only [i8]
     exact ((hO.cons _).mem_iff).1 hc
    ·cases hr
   ·cases hr
 ·rename_i f i
  split at hr
  ·cases hr
  ·rename_i hc
   simp only [Bool.or_eq_false_iff] at hc
   obtain ⟨hc1,hc2⟩:=hc
   have hnu:i∉used:=by intro hm; simp [hm] at hc1
   split at hr
   ·rename_i u y hob
    split at hr
    ·rename_i hu
     subst hu
     cases hr
     obtain ⟨us,hv1,v0,us0,rfl,⟨e,b,off,h1,h2,h3,h4⟩,hv2⟩:=hv
     have hv2:us0=[]:=hv2
     subst hv2
     have h4:v0=.pointer (some ⟨b,off,none⟩):=by simpa using h4
     subst h4
     obtain rfl:=U4 h1 hob
     obtain ⟨⟨O,hO,hR⟩,hf,hnd⟩:=h.ob i _ h1
     have hl:(ι.root i).1=b∧(ι.root i).2=off:=by
      have:=(r9 h3).1
      simp only [Place,s8,VR,Option.some.injEq,Prod.mk.injEq] at this
      exact this
     obtain ⟨rfl,rfl⟩:=hl
     refine ⟨(ι.root i).1::O,[a2Z (some f) ⟨(ι.root i).1,(ι.root i).2,none⟩],by simpa [j7,Ty.agg,a2Z] using hv1,.inr ⟨_,_,_,O,rfl,rfl,hf.o6,hR,rfl,hf⟩,((hO.cons _).nodup_iff).2 hnd,fun c hc=>⟨i,_,by simp,hnu,hc2,h1,?_⟩,fun j hj=>by simp [hj]⟩
     simp only [i8]
     exact ((hO.cons _).mem_iff).1 hc
    ·cases hr
   ·cases hr
 ·split at hr
  ·rename_i x' hx
   cases hr
   obtain ⟨cs,e,hR⟩:=b0m hx hv
   exact ⟨[],cs,e,hR,List.nodup_nil,by simp,fun _ h=>h⟩
  ·cases hr

theorem a6M (h:HS B S ι s.hp w):∀ {rs:List Ty} {used:List Nat} {l:AV} {y:DL rs} {us:List Value},a9u s rs used l=some y→VX w.heap S ι s.hp l us →
  ∃ O,H3 w.heap S rs O us y∧O.Nodup∧∀ b∈O,∃ i e,i∉used∧pinned i=false∧look i s.hp=some e∧b∈i8 ι i e
 | [],used,l,y,us,hr,hv=>by
  cases l<;>simp only [a9u] at hr<;>first|cases hr|skip
  exact ⟨[],⟨rfl,hv⟩,List.nodup_nil,by simp⟩
 | t::ts,used,l,y,us,hr,hv=>by
  cases l<;>simp only [a9u] at hr<;>first|cases hr|skip
  rename_i av bv
  obtain ⟨v,us',rfl,ha,hb⟩:=hv
  split at hr
  ·rename_i x used' h1
   split at hr
   ·rename_i y' h2
    cases hr
    obtain ⟨O1,cs,k1,k2,k3,k4,k5⟩:=b2R h h1 ha
    obtain ⟨O2,m1,m2,m3⟩:=a6M h h2 hb
    refine ⟨O1++O2,⟨v,us',O1,O2,cs,rfl,rfl,k1,k2,m1⟩,List.nodup_append.2 ⟨k3,m2,?_⟩,?_⟩
    ·rintro c hc d hd rfl
     obtain ⟨i,e,i1,_,_,i2,i3⟩:=k4 c hc
     obtain ⟨j,e',j1,_,j2,j3⟩:=m3 c hd
     exact h.dj i j e e' i2 j2 (by rintro rfl; exact j1 i1) c i3 j3
    ·intro c hc
     rcases List.mem_append.1 hc with hc|hc
     ·obtain ⟨i,e,_,i1,i4,i2,i3⟩:=k4 c hc
      exact ⟨i,e,i1,i4,i2,i3⟩
     ·obtain ⟨j,e',j1,j4,j2,j3⟩:=m3 c hc
      exact ⟨j,e',fun hj=>j1 (k5 j hj),j4,j2,j3⟩
   ·cases hr
  ·cases hr

def G6:(ks:List PK)→List Value→Nat→List (Nat×(Nat×Nat)×List Value)
 | .rw _::ks,v::vs,i=>(match v with
  | .pointer (some a)=>(2000000+i,(a.block,a.off),[])
  | _=>(2000000+i,(0,0),[]))::G6 ks vs (i+1)
 | .mu _::ks,v::vs,i=>(2000000+i,(0,0),[v])::G6 ks vs (i+1)
 | _::ks,_::vs,i=>G6 ks vs (i+1)
 | _,_,_=>[]

theorem a1M (h:HS B S ι s.hp w) {H0:Array Go.Obj} {S0:Nat→Prop}:∀ {ks:List PK} {vs:List Value} {x:DK ks} {L0:List Nat} {j:Nat} {z:DL (u6 ks)},I6 H0 S0 ks vs x L0→(∀ q∈G6 ks vs j,q∈B.pins)→Y8 s ks j=some z →
  ∃ Lo,C0 w.heap S ks vs z Lo∧Lo.Nodup∧∀ b∈Lo,∃ i e,2000000+j≤i∧look i s.hp=some e∧b∈i8 ι i e
 | [],vs,x,L0,j,z,hK,_,hz=>⟨[],⟨hK.1,rfl⟩,List.nodup_nil,by simp⟩
 | k::ks,vs,x,L0,j,z,⟨v,us,L1,L2,e1,e2,hk,hK⟩,hp,hz=>by
  subst e1 e2
  have plain:∀ {z':DL (u6 ks)},(∀ q∈G6 ks us (j+1),q∈B.pins)→Y8 s ks (j+1)=some z'→∃ Lo,C0 w.heap S ks us z' Lo∧Lo.Nodup∧∀ b∈Lo,∃ i e,2000000+j≤i∧look i s.hp=some e∧b∈i8 ι i e:=by
   intro z' hp hz
   obtain ⟨Lo,k1,k2,k3⟩:=a1M h hK hp hz
   exact ⟨Lo,k1,k2,fun b hb=>by obtain ⟨i,e,i1,i2,i3⟩:=k3 b hb; exact ⟨i,e,by omega,i2,i3⟩⟩
  have join:∀ {L1 Lo:List Nat} {e0:f9},look (2000000+j) s.hp=some e0→L1.Nodup→(∀ b∈L1,b∈i8 ι (2000000+j) e0)→Lo.Nodup→(∀ b∈Lo,∃ i e,2000000+(j+1)≤i∧look i s.hp=some e∧b∈i8 ι i e) →
    (L1++Lo).Nodup∧∀ b∈L1++Lo,∃ i e,2000000+j≤i∧look i s.hp=some e∧b∈i8 ι i e:=by
   intro L1 Lo e0 h1 n1 m1 n2 m2
   refine ⟨List.nodup_append.2 ⟨n1,n2,?_⟩,?_⟩
   ·rintro c hc d hd rfl
    obtain ⟨i,e,i1,i2,i3⟩:=m2 c hd
    exact h.dj (2000000+j) i e0 e h1 i2 (by omega) c (m1 c hc) i3
   ·intro b hb
    rcases List.mem_append.1 hb with hb|hb
    ·exact ⟨_,e0,Nat.le_refl _,h1,m1 b hb⟩
    ·obtain ⟨i,e,i1,i2,i3⟩:=m2 b hb; exact ⟨i,e,by omega,i2,i3⟩
  cases k with
  | v t=>obtain ⟨Lo,k1,k2⟩:=plain hp hz; exact ⟨Lo,⟨v,us,rfl,k1⟩,k2⟩
  | rd t=>obtain ⟨Lo,k1,k2⟩:=plain hp hz; exact ⟨Lo,⟨v,us,rfl,k1⟩,k2⟩
  | y7 f ts=>obtain ⟨Lo,k1,k2⟩:=plain hp hz; exact ⟨Lo,⟨v,us,rfl,k1⟩,k2⟩
  | L5=>obtain ⟨Lo,k1,k2⟩:=plain hp hz; exact ⟨Lo,⟨v,us,rfl,k1⟩,k2⟩
  | R8 f n=>obtain ⟨Lo,k1,k2⟩:=plain hp hz; exact ⟨Lo,⟨v,us,rfl,k1⟩,k2⟩
  | el q=>obtain ⟨Lo,k1,k2⟩:=plain hp hz; exact ⟨Lo,⟨v,us,rfl,k1⟩,k2⟩
  | own t=>obtain ⟨Lo,k1,k2⟩:=plain hp hz; exact ⟨Lo,⟨v,us,rfl,k1⟩,k2⟩
  | rw t =>
   obtain ⟨b0,off0,O0,rfl,_,_,_⟩:=hk
   simp only [Y8] at hz
   split at hz
   ·rename_i u x' y' hob hz'
    split at hz
    ·rename_i hu
     cases hz
     subst hu
     have hob:look (2000000+j) s.hp=some (.var u x'):=hob
     obtain ⟨Lo,k1,k2,k3⟩:=a1M h hK (fun q hq=>hp q (by simp only [G6]; exact List.mem_cons_of_mem _ hq)) hz'
     obtain ⟨_,_,p3,p4⟩:=h.pin (2000000+j,(b0,off0),[]) (hp _ (by simp [G6]))
     have p3:ι.root (2000000+j)=(b0,off0):=p3
     obtain ⟨⟨O,hO,hR⟩,hfr,hnd⟩:=(h.ob _ _ hob:OB w.heap S ι (2000000+j) (.var u x'))
     rw [p3] at hR hfr hnd
     have hnd':(b0::O).Nodup:=List.nodup_cons.2 ⟨fun hb=>(List.nodup_cons.1 hnd).1 (hO.mem_iff.1 hb),hO.nodup_iff.2 (List.nodup_cons.1 hnd).2⟩
     obtain ⟨j1,j2⟩:=join hob hnd' (fun b hb=>by
      rcases List.mem_cons.1 hb with rfl|hb
      ·simp [i8,p3]
      ·simp [i8,hO.mem_iff.1 hb]) k2 k3
     exact ⟨(b0::O)++Lo,⟨b0,off0,O,us,Lo,rfl,hR,hfr,rfl,k1⟩,j1,j2⟩
    ·cases hz
   ·cases hz
  | mu t =>
   obtain ⟨cs0,rfl,hR0⟩:=hk
   simp only [Y8] at hz
   split at hz
   ·rename_i u x' y' hob hz'
    split at hz
    ·rename_i hu
     cases hz
     subst hu
     have hob:look (2000000+j) s.hp=some (.own (.d0 true t) x'):=hob
     obtain ⟨Lo,k1,k2,k3⟩:=a1M h hK (fun q hq=>hp q (by simp only [G6]; exact List.mem_cons_of_mem _ hq)) hz'
     obtain ⟨_,_,p3,p4⟩:=h.pin (2000000+j,(0,0),[j7 (.d0 true t) cs0]) (hp _ (by simp [G6]))
     have p4:ι.cells (2000000+j)=[j7 (.d0 true t) cs0]:=p4
     obtain ⟨⟨O,hO,hR⟩,hnd⟩:=(h.ob _ _ hob:OB w.heap S ι (2000000+j) (.own (.d0 true t) x'))
     rw [p4] at hR
     obtain ⟨j1,j2⟩:=join hob (hO.nodup_iff.2 hnd) (fun b hb=>hO.mem_iff.1 hb) k2 k3
     exact ⟨O++Lo,⟨[j7 (.d0 true t) cs0],O,us,Lo,rfl,rfl,hR,rfl,k1⟩,j1,j2⟩
    ·cases hz
   ·cases hz

end
end Go.Ex

namespace Go.Ex

/-! ### ranges: what every reading keeps -/
def a7y {α:Type} (p:α→Prop) (l:List α):Prop:=∀ x∈l,p x

def D6:(t:Ty)→t.den→Prop
 | .int k,n=>A4 k n
 | .bool,_=>True
 | .str,s=>List.length s≤maxLen
 | .unit,_=>True
 | .fn _,_=>True
 | .hole _,_=>True
 | .r7 t,x=>List.length x.2.1≤maxLen∧a7y (D6 t) x.2.1
 | .map _ k v,x=>match x with
  | none=>True
  | some l=>a7y (fun p=>D6 k p.1∧D6 v p.2) l
 | .box _ _ t,x=>match x with
  | none=>True
  | some y=>D6 t y
 | .pair a b,x=>D6 a x.1∧D6 b x.2
 | .arr n t,l=>List.length l=n∧a7y (D6 t) l
 | .d0 _ t,l=>List.length l≤maxLen∧a7y (D6 t) l

def AV.D6:AV→Prop
 | .val t x=>Ex.D6 t x
 | .N1 t x=>Ex.D6 t x
 | _=>True

def b3g:List (Nat×AV)→Prop
 | []=>True
 | (_,v)::l=>v.D6∧b3g l

def a69:List (Nat×f9)→Prop
 | []=>True
 | (_,.var t x)::l=>Ex.D6 t x∧a69 l
 | (_,.own t x)::l=>Ex.D6 t x∧a69 l
 | (_,.E8)::l=>a69 l

def St.D6 (s:St):Prop:=b3g s.fr∧a69 s.hp

def PK.D6:(k:PK)→k.den→Prop
 | .v t,x=>Ex.D6 t x
 | .rd t,x=>Ex.D6 t x
 | .y7 _ ts,x=>b2W ts x
 | .own t,x=>Ex.D6 t x
 | .rw t,x=>Ex.D6 t x
 | .mu t,x=>Ex.D6 (.d0 true t) x
 | .L5,_=>True
 | .R8 _ _,_=>True
 | .el _,_=>True
where b2W:(ts:List Ty)→DL ts→Prop
 | [],_=>True
 | t::ts,x=>Ex.D6 t x.1∧b2W ts x.2

def b3c:(ks:List PK)→DK ks→Prop
 | [],_=>True
 | k::ks,x=>k.D6 x.1∧b3c ks x.2

section
variable {E:Env} {B:y9} {S S':Nat→Prop} {ι:Ix} {s:St} {a:Act} {w:World} {hp:List (Nat×f9)} {H H':Array Go.Obj}

theorem i5.D6 {t:Ty} (hr:∀ {O:List Nat} {cs:List Value} {x:t.den},d9 H S t O cs x→Ex.D6 t x):∀ {l:List t.den} {O:List Nat} {cs:List Value},i5 (d9 H S t) t.size O cs l→a7y (Ex.D6 t) l
 | [],_,_,_=>by intro x hx; cases hx
 | x::l,_,_,⟨O1,O2,_,h1,h2⟩=>by
  intro y hy
  rcases List.mem_cons.1 hy with rfl|hy
  ·exact hr h1
  ·exact i5.D6 hr h2 y hy

theorem J7.D6 {t u:Ty} (hr:∀ {cs:List Value} {x:t.den},d9 H S t [] cs x→Ex.D6 t x) (hr':∀ {cs:List Value} {x:u.den},d9 H S u [] cs x→Ex.D6 u x):∀ {es:List MapEntry} {l:List (t.den×u.den)},J7 (d9 H S t []) (d9 H S u []) t u es l→a7y (fun p=>Ex.D6 t p.1∧Ex.D6 u p.2) l
 | [],l,h=>by rw [show l=[] from h]; intro x hx; cases hx
 | e::es,l,⟨x,y,l',cs,ds,e1,_,h1,_,h2,h3⟩=>by
  rw [e1]; intro p hp
  rcases List.mem_cons.1 hp with rfl|hp
  ·exact ⟨hr h1,hr' h2⟩
  ·exact J7.D6 hr hr' h3 p hp

theorem d9.D6:∀ {t:Ty} {O:List Nat} {cs:List Value} {x:t.den},d9 H S t O cs x→Ex.D6 t x:=by
 intro t
 induction t with
 | int k=>intro O cs x h; exact h.2.2
 | bool=>intro O cs x h; trivial
 | str=>intro O cs x h; exact h.2.2
 | fn f=>intro O cs x _; exact trivial
 | hole t _=>intro O cs x _; exact trivial
 | r7 t ih =>
  rintro O cs ⟨n,l,m⟩ h
  match n,h with
  | 0,h =>
   rcases h with ⟨_,_,h3⟩|⟨b,off,cap,O',c1,c2,c3,c4,c5,c6⟩
   ·subst h3; exact ⟨Nat.zero_le _,by intro x hx; cases hx⟩
   ·exact ⟨Nat.le_trans c2 c3.1,i5.D6 (fun h=>ih h) c5⟩
  | 1,h =>
   rcases h with ⟨_,_,h3⟩|⟨b,off,cap,O',c1,c2,c3,c4,c5,c6⟩
   ·subst h3; exact ⟨Nat.zero_le _,by intro x hx; cases hx⟩
   ·exact ⟨Nat.le_trans c2 c3.1,i5.D6 (fun h=>ih h) c5⟩
  | n+2,⟨b,off,O',c1,c2,c3,c4,c5⟩ =>
   have hr:=i5.D6 (fun h=>ih h) c4
   exact ⟨by have:=c2.1; show List.length l≤maxLen; omega,fun x hx=>hr x (List.mem_append.2 (.inl hx))⟩
 | map o k v ihk ihv =>
  rintro O cs x (⟨rfl,_⟩|⟨l,b,es,ck,rfl,_,_,h4,_⟩)
  ·trivial
  ·exact J7.D6 (fun h=>ihk h) (fun h=>ihv h) h4
 | box o g t ih =>
  rintro O cs x (⟨rfl,_⟩|⟨y,b,off,O',rfl,_,_,h3,_⟩)
  ·trivial
  ·exact ih h3
 | unit=>intro O cs x h; trivial
 | pair a c iha ihc=>rintro O cs x ⟨O1,O2,_,h1,h2⟩; exact ⟨iha h1,ihc h2⟩
 | arr n t ih=>rintro O cs x ⟨h1,h2⟩; exact ⟨h1,i5.D6 (fun h=>ih h) h2⟩
 | d0 o t ih =>
  rintro O cs x h
  rcases h with ⟨_,_,h3⟩|⟨b,off,cap,O',c1,c2,c3,c4,c5,c6⟩
  ·subst h3; exact ⟨Nat.zero_le _,by intro x hx; cases hx⟩
  ·exact ⟨Nat.le_trans c2 c3.1,i5.D6 (fun h=>ih h) c5⟩

theorem VX.D6 {v:AV} {vs:List Value} (h:VX H S ι hp v vs):v.D6:=by
 cases v<;>try trivial
 ·obtain ⟨cs,_,h⟩:=h; exact h.D6
 ·obtain ⟨b,off,_,_,_,h⟩:=h; exact h.D6

theorem RS.D6 (h:RS B S ι s a w) (h1:uniq s.fr) (h2:uniq s.hp):s.D6:=by
 have look_tail:∀ {α:Type} {n m:Nat} {x:α} {l:List (Nat×α)} {y:α},look m l=none→look n l=some y→look n ((m,x)::l)=some y:=by
  intro α n m x l y h1 h2
  simp only [look]
  cases hb:Nat.beq n m with
  | true =>
   have:=Nat.eq_of_beq_eq_true hb
   subst this
   rw [h1] at h2; cases h2
  | false=>exact h2
 have fr:∀ l:List (Nat×AV),uniq l→(∀ t v,look t l=some v→v.D6)→b3g l:=by
  intro l
  induction l with
  | nil=>intro _ _; trivial
  | cons q l ih =>
   obtain ⟨n,v⟩:=q
   rintro ⟨k0,k2⟩ k3
   have k1:=a2y k0
   exact ⟨k3 n v (by simp [look]),ih k2 (fun t v hv=>k3 t v (look_tail k1 hv))⟩
 have hpp:∀ l:List (Nat×f9),uniq l→(∀ t e,look t l=some e→Ex.D6 e.ty e.x)→a69 l:=by
  intro l
  induction l with
  | nil=>intro _ _; trivial
  | cons q l ih =>
   obtain ⟨n,e⟩:=q
   rintro ⟨k0,k2⟩ k3
   have k1:=a2y k0
   have h0:=k3 n e (by simp [look])
   have h3:=ih k2 (fun t e he=>k3 t e (look_tail k1 he))
   cases e<;>first|exact ⟨h0,h3⟩|exact h3
 refine ⟨fr _ h1 (fun t v hv=>(h.fr t v hv).D6),hpp _ h2 (fun i e he=>?_)⟩
 have:=h.hs.ob i e he
 cases e with
 | var t x=>obtain ⟨⟨O,_,hR⟩,_⟩:=this; exact hR.D6
 | own t x=>obtain ⟨⟨O,_,hR⟩,_⟩:=this; exact hR.D6
 | E8=>trivial

/-! ### the evaluator is sound -/
def y9.of (w:World) (S:Nat→Prop) (ps:List PK) (vs:List Value) (L:List Nat) (n:Nat) (gv:Value:=undef):y9:=⟨w,S,fun b=>b∈L,n,G6 ps vs 0,gv⟩

def GOk (gp:Option (List Step)) (gv:Value) (H:Array Go.Obj):(ps:List PK)→List Value→DL (u6 ps)→Prop
 | .rw t::_,vs,z=>(match gp,vs with
  | some p,.pointer (some ⟨b,off,none⟩)::_=>s6 t z.1 p∧∃ b' off',s9 H t p b off=some (b',off')∧gv=.pointer (some ⟨b',off',none⟩)
  | _,_=>True)
 | _,_,_=>True

def b8h (P:Program) (w0:World) (S0:Nat→Prop) (L:List Nat):Prop:=Z4 P w0 S0∧∀ b,S0 b→b<w0.heap.size∧¬ b∈L

def Reach (E:Env) (fn:Func) (y:DL E.rs) (z:DL (u6 E.ps)) (k:List Item) (s:St):Prop :=
 ∀ (w0:World) (S0:Nat→Prop) (vs:List Value) (x:DK E.ps) (L:List Nat) (gv:Value) (S:Nat→Prop) (ι:Ix) (a:Act) (w:World),b8h E.P w0 S0 L→I6 w0.heap S0 E.ps vs x L →
  RS (y9.of w0 S0 E.ps vs L fn.ntmps gv) S ι s a w→At E.P fn (fun e w'=>a0V w0 S0 E.rs E.ps vs L y z e w'∧GOk E.gp gv w'.heap E.ps vs z) k a w

structure L7 (E:Env) (fn:Func):Prop where
 nt:fn.ntmps=E.nt
 res:fn.results.toList=E.res

theorem b2y:∀ {a b:List Ty} {x x':DL a} {y y':DL b},DL.app x y=DL.app x' y'→x=x'∧y=y'
 | [],_,_,_,_,_,h=>⟨rfl,h⟩
 | _::_,_,x,x',_,_,h=>by
  have h1:=congrArg Prod.fst h
  have h2:=congrArg Prod.snd h
  obtain ⟨h3,h4⟩:=b2y h2
  exact ⟨Prod.ext h1 h3,h4⟩

theorem a4K {fn:Func} {w0:World} {S0:Nat→Prop} {vs:List Value} {x:DK E.ps} {L:List Nat} {gv:Value} (hE:t7 E (y9.of w0 S0 E.ps vs L fn.ntmps gv)) (hf:L7 E fn) {y:DL E.rs} {z:DL (u6 E.ps)} {L':Code→List Item→St→Prop} (ht:(finish E s).holds L' (·=DL.app y z)) (hK:I6 w0.heap S0 E.ps vs x L)
  (h:RS (y9.of w0 S0 E.ps vs L fn.ntmps gv) S ι s a w) (hG:Y8 s E.ps 0=some z→GOk E.gp gv w.heap E.ps vs z) (e:Exit) (he:e=.normal∨e=.ret) :
  bodyPost E.P fn (fun e w'=>a0V w0 S0 E.rs E.ps vs L y z e w'∧GOk E.gp gv w'.heap E.ps vs z) e a w:=by
 unfold finish at ht
 split at ht
 ·exact ht.elim
 ·rename_i l hl
  split at ht
  ·rename_i y' z' hy hz
   have ht:DL.app y' z'=DL.app y z:=ht
   obtain ⟨rfl,rfl⟩:=b2y ht
   obtain ⟨us,h1,h2⟩:=b01 hE h hf.res hl
   obtain ⟨O,k1,k2,k3⟩:=a6M h.hs hy h2
   obtain ⟨Lo,m1,m2,m3⟩:=a1M h.hs hK (fun q hq=>hq) hz
   have hR:a0V w0 S0 E.rs E.ps vs L y' z' (.returned (a18 us)) w:=by
    refine ⟨us,O,Lo,S,rfl,⟨h.hs.os,h.hs.tape,h.hs.out,h.hs.size,fun c hc hL=>h.hs.frame c hc hL⟩,h.hs.s0,fun b hb=>?_,k1,m1,List.nodup_append.2 ⟨k2,m2,?_⟩,fun b hb=>?_⟩
    ·rcases h.hs.s1 b hb with h1|h1
     ·exact .inl h1
     ·exact .inr ⟨h1,h.hs.slt b hb⟩
    ·rintro c hc d hd rfl
     obtain ⟨i,e,i0,ip,i1,i2⟩:=k3 c hc
     obtain ⟨j,e',j0,j1,j2⟩:=m3 c hd
     refine h.hs.dj i j e e' i1 j1 ?_ c i2 j2
     rintro rfl
     have:pinned i=true:=by simp only [pinned,Nat.ble_eq]; omega
     rw [ip] at this; cases this
    ·have:∃ i e,look i s.hp=some e∧b∈i8 ι i e:=by
      rcases List.mem_append.1 hb with hb|hb
      ·obtain ⟨i,e,_,_,n2,n3⟩:=k3 b hb; exact ⟨i,e,n2,n3⟩
      ·obtain ⟨i,e,_,n2,n3⟩:=m3 b hb; exact ⟨i,e,n2,n3⟩
     obtain ⟨i,e,n2,n3⟩:=this
     exact h.hs.bl i e n2 b n3
   rcases he with rfl|rfl
   ·exact ⟨h.W7,_,h1,hR,hG hz⟩
   ·exact ⟨h.W7,_,h1,hR,hG hz⟩
  ·exact ht.elim

theorem b57 {gv:Value} {H:Array Go.Obj}:∀ {ps:List PK} {vs:List Value} {z:DL (u6 ps)},GOk none gv H ps vs z
 | [],_,_=>trivial
 | k::_,_,_=>by cases k<;>trivial

theorem gok {H0:Array Go.Obj} {S0:Nat→Prop} {gv:Value} {p:List Step}:∀ {ps:List PK} {vs:List Value} {x:DK ps} {L:List Nat} {z:DL (u6 ps)},I6 H0 S0 ps vs x L→Y8 s ps 0=some z→(∀ q∈G6 ps vs 0,ι.root q.1=q.2.1)→VX H S ι s.hp (.ptr 2000000 p) [gv]→GOk (some p) gv H ps vs z
 | [],_,_,_,_,_,_,_,_=>trivial
 | k::ps,vs,x,L,z,⟨v,us,L1,L2,e1,_,hk,_⟩,hz,hp,hv=>by
  cases k with
  | rw t =>
   obtain ⟨b,off,O,rfl,_,_,_⟩:=hk
   subst e1
   have hr:ι.root 2000000=(b,off):=hp (2000000,(b,off),[]) (by simp [G6])
   obtain ⟨e,b',off',k1,k2,k3,k4⟩:=hv
   unfold Y8 at hz
   split at hz
   ·rename_i u x0 y0 ho hy
    have ho:look 2000000 s.hp=some (.var u x0):=ho
    rw [k1] at ho; cases ho
    split at hz
    ·rename_i hu
     subst hu
     cases hz
     obtain ⟨p1,_⟩:=r9 k3
     have p1:s9 H u p (ι.root 2000000).1 (ι.root 2000000).2=some (b',off'):=p1
     rw [hr] at p1
     exact ⟨k2,b',off',p1,by simpa using k4⟩
    ·cases hz
   ·cases hz
  | _=>trivial

theorem a4i {fn:Func} {w0:World} {S0:Nat→Prop} {vs:List Value} {x:DK E.ps} {L:List Nat} {gv:Value} (hE:t7 E (y9.of w0 S0 E.ps vs L fn.ntmps gv)) (hf:L7 E fn) {y:DL E.rs} {z:DL (u6 E.ps)} {L':Code→List Item→St→Prop} (ht:(a7M E s).holds L' (·=DL.app y z)) (hK:I6 w0.heap S0 E.ps vs x L)
  (h:RS (y9.of w0 S0 E.ps vs L fn.ntmps gv) S ι s a w) (e:Exit) (he:e=.normal∨e=.ret) :
  bodyPost E.P fn (fun e w'=>a0V w0 S0 E.rs E.ps vs L y z e w'∧GOk E.gp gv w'.heap E.ps vs z) e a w:=by
 unfold a7M at ht
 split at ht
 ·rename_i hgp
  exact a4K hE hf ht hK h (fun _=>by rw [hgp]; exact b57) e he
 ·rename_i p hgp
  split at ht
  ·rename_i i q hl
   obtain ⟨⟨rfl,rfl,hnt⟩,ht⟩:=ht
   have ht:=ht ⟨rfl,rfl,hnt⟩
   refine a4K hE hf ht hK h (fun hz=>?_) e he
   rw [hgp]
   refine gok (S:=S) (ι:=ι) hK hz (fun q hq=>(h.hs.pin q hq).2.2.1) ?_
   have hv:=h.fr D9 _ hl
   have hsz:¬ D9<a.tmps.size:=by rw [h.sz]; show ¬ D9<fn.ntmps; rw [hf.nt]; omega
   have:a.tmps.getD D9 (y9.gd (y9.of w0 S0 E.ps vs L fn.ntmps gv) D9)=gv:=by
    rw [Array.getD_eq_getD_getElem?,Array.getElem?_eq_none (by omega)]
    rfl
   rw [this] at hv
   exact hv
  ·exact ht.elim

theorem x6 {rs:List Ty} {L:Code→List Item→St→Prop} {R:DL rs→Prop} {b:Bool} {t e:Tree rs}:(cond b t e).holds L R↔(b=true→t.holds L R)∧(b=false→e.holds L R):=by
 cases b<;>simp

theorem P7:∀ {ks:List PK} {H:Array Go.Obj} {S:Nat→Prop} {vs:List Value} {x:DK ks} {L:List Nat},ks.any PK.i7=false→I6 H S ks vs x L→L=[]
 | [],_,_,_,_,_,_,h=>h.2
 | k::ks,_,_,_,_,_,hp,⟨v,us,L1,L2,_,e,h1,h2⟩=>by
  rw [List.any_cons,Bool.or_eq_false_iff] at hp
  have e2:=P7 hp.2 h2
  have e1:L1=[]:=by
   cases k<;>first|(exfalso; simp [PK.i7] at hp; done)|exact h1.1|exact h1
  rw [e,e1,e2]; rfl

theorem r8 (hE:H8 E) {fn:Func} (hf:L7 E fn) {y:DL E.rs} {z:DL (u6 E.ps)}:∀ {n:Nat} {k:List Item} {s:St},(exec E n k s).holds (fun c k s=>Reach E fn y z (.code c::.inLoop c::k) s) (·=DL.app y z)→Reach E fn y z k s
 | 0,k,s,ht=>ht.elim
 | n+1,k,s,ht=>by
  intro w0 S0 vs x L gv S ι a w hS0 hK h
  have hB:t7 E (y9.of w0 S0 E.ps vs L fn.ntmps gv):=⟨hE,hS0⟩
  unfold exec at ht
  split at ht
  ·obtain ⟨S2,ι2,h2⟩:=R0 (E:=E) (l:=a19 E.res E.rs) (fun hp b hb=>by have hb:b∈L:=hb; rw [P7 hp hK] at hb; cases hb) h
   exact At.done (a4i hB hf ht hK h2 _ (.inl rfl))
  ·refine At.step (fun b cs=>step_inBlock) ?_
   exact r8 hE hf ht w0 S0 vs x L gv S ι a w hS0 hK h
  ·rename_i c k'
   refine At.step (fun b cs=>step_inLoop) ?_
   obtain ⟨S2,ι2,h2⟩:=R0 (E:=E) (l:=(look (I5 c) E.J6).getD []) (fun hp b hb=>by have hb:b∈L:=hb; rw [P7 hp hK] at hb; cases hb) h
   obtain ⟨ι',h'⟩:=h2.canon ((look (I5 c) E.J6).getD [])
   exact ht w0 S0 vs x L gv S2 ι' a w hS0 hK h'
  ·rename_i c k'
   split at ht
   ·exact At.step (fun b cs=>step_skip) (r8 hE hf ht w0 S0 vs x L gv S ι a w hS0 hK h)
   ·exact At.step (fun b cs=>step_seq) (r8 hE hf ht w0 S0 vs x L gv S ι a w hS0 hK h)
   ·rename_i xc c1 c2
    split at ht
    ·rename_i g hg
     have hgv:=VX.a1e (t6 h hg)
     refine At.step (fun b cs=>step_cond hgv) ?_
     cases g with
     | true=>exact r8 hE hf ht w0 S0 vs x L gv S ι a w hS0 hK h
     | false=>exact r8 hE hf ht w0 S0 vs x L gv S ι a w hS0 hK h
    ·exact ht.elim
   ·exact At.step (fun b cs=>step_block) (r8 hE hf ht w0 S0 vs x L gv S ι a w hS0 hK h)
   ·rename_i c'
    obtain ⟨S2,ι2,h2⟩:=R0 (E:=E) (l:=(look (I5 c') E.J6).getD []) (fun hp b hb=>by have hb:b∈L:=hb; rw [P7 hp hK] at hb; cases hb) h
    obtain ⟨ι',h'⟩:=h2.canon ((look (I5 c') E.J6).getD [])
    exact At.step (fun b cs=>step_loop) (ht w0 S0 vs x L gv S2 ι' a w hS0 hK h')
   ·split at ht
    ·rename_i k2 hx
     exact At.step (fun b cs=>step_exit hx) (r8 hE hf ht w0 S0 vs x L gv S ι a w hS0 hK h)
    ·exact ht.elim
   ·obtain ⟨S2,ι2,h2⟩:=R0 (E:=E) (l:=a19 E.res E.rs) (fun hp b hb=>by have hb:b∈L:=hb; rw [P7 hp hK] at hb; cases hb) h
    exact At.ret (a4i hB hf ht hK h2 _ (.inr rfl))
   ·rename_i id ops draw
    split at ht
    ·obtain ⟨S,ι,h⟩:=a6P (E:=E) (fun hp b hb=>by have hb:b∈L:=hb; rw [P7 hp hK] at hb; cases hb) h ops
     refine At.region (wp_region_list ?_)
     exact N9 hB (by exact hf.nt) (fun hp b hb=>by have hb:b∈L:=hb; rw [P7 hp hK] at hb; cases hb) (m:=0) (l:=ops.toList) (Q:=fun e a w=>e=.normal∧At E.P fn (fun e w'=>a0V w0 S0 E.rs E.ps vs L y z e w'∧GOk E.gp gv w'.heap E.ps vs z) k' a w) (fun S' ι' s' a' w' h1 h2=>⟨rfl,r8 hE hf h2 w0 S0 vs x L gv S' ι' a' w' hS0 hK h1⟩) h ht
    ·split at ht
     ·obtain ⟨S,ι,h⟩:=a6Q (E:=E) (fun hp b hb=>by have hb:b∈L:=hb; rw [P7 hp hK] at hb; cases hb) h ops
      exact At.region (b2S hB (by exact hf.nt) ht (fun c a w h=>by cases h.1) (fun S' ι' s' a' w' h3 h4=>⟨rfl,r8 hE hf h4 w0 S0 vs x L gv S' ι' a' w' hS0 hK h3⟩) h)
     split at ht
     ·rename_i oz hsb hsz
      have hgz:oz.guard=none:=by
       have h9:=hsb
       unfold a5o at h9
       simp only [Bool.and_eq_true] at h9
       have h9:=h9.2
       rw [hsz] at h9
       simp only [Bool.and_eq_true] at h9
       cases hq:oz.guard with
       | none=>rfl
       | some _=>rw [hq] at h9; simp at h9
      refine At.region (b0X hB (by exact hf.nt) hsb hsz (fun a' w' h3 next hq=>?_) h)
      have h8:=fun Q=>X2 hB (by exact hf.nt) h3 (ops:=ops) oz ht (next:=next) (Q:=Q) (fun S2 ι2 s2 a2 w2 h4 h5=>hq a2 w2 ⟨rfl,r8 hE hf h5 w0 S0 vs x L gv S2 ι2 a2 w2 hS0 hK h4⟩)
      simp only [Region.wanted,hgz,if_true] at h8
      exact h8 _
     obtain ⟨S,ι,h⟩:=a6Q (E:=E) (fun hp b hb=>by have hb:b∈L:=hb; rw [P7 hp hK] at hb; cases hb) h ops
     generalize a3G E ops s=s at h ht
     split at ht
     ·rename_i hd
      split at ht
      ·obtain ⟨s',oz,p,s2,h1,hz,hzm,hl2,hp,h2⟩:=a8a (acc':=[]) rfl (by simp) ht
       have hM:E.ps.any PK.i7=false→∀ b,¬ (y9.of w0 S0 E.ps vs L fn.ntmps gv).M b:=fun hp b hb=>by have hb:b∈L:=hb; rw [P7 hp hK] at hb; cases hb
       refine At.region (a8Y hB (by exact hf.nt) hd hz hzm ?_ h1 (fun S' ι' a' w' h3 next Q' hq=>?_) h.E0)
       ·unfold a5s at hl2
        split at hl2
        ·rename_i r hr
         cases hl2
         unfold a9f at hr
         split at hr
         ·assumption
         ·cases hr
        ·split at hl2
         ·rename_i s3 hr
          unfold a86 at hr
          split at hr
          ·assumption
          ·cases hr
         ·unfold b3R at hl2
          split at hl2
          ·assumption
          ·cases hl2
       ·exact (a5J hB (by exact hf.nt) hM h3 hl2 hp).2 next Q' (fun S2 ι2 a2 w2 h4=>hq a2 w2 ⟨rfl,r8 hE hf h2 w0 S0 vs x L gv S2 ι2 a2 w2 hS0 hK h4⟩)
      split at ht
      ·obtain ⟨s',h1,h2⟩:=a8e (acc':=[]) rfl (by simp) ht
       exact At.region (a80 hB (by exact hf.nt) hd h1 (fun S' ι' a' w' h3=>⟨rfl,r8 hE hf h2 w0 S0 vs x L gv S' ι' a' w' hS0 hK h3⟩) h.E0)
      rcases a8c (acc':=[]) rfl (by simp) ht with ⟨s',h1,h2⟩|⟨q,s',_,hA,h1,h2⟩
      ·exact At.region (a91 hB (by exact hf.nt) hd h1 (fun S' ι' a' w' h3=>⟨rfl,r8 hE hf h2 w0 S0 vs x L gv S' ι' a' w' hS0 hK h3⟩) h.E0)
      ·have hany:look q.d (E0 ops.toList s).fr=some .any:=by
        obtain ⟨oa,c,a1,_,a3,_,a5,a6,_⟩:=hA
        exact a1i a5 a6 a3 (by have:=Array.mem_of_getElem? a1; simpa using this)
       exact At.region (b3n hB (by exact hf.nt) hd hA h1 h2 hany (fun S' ι' s2 a' w' h3 h4=>⟨rfl,r8 hE hf h4 w0 S0 vs x L gv S' ι' a' w' hS0 hK h3⟩) h.E0)
     ·split at ht
      ·rename_i hd
       obtain ⟨s',h1,h2⟩:=a8b (acc':=[]) rfl (by simp) ht
       exact At.region (a8Z hB (by exact hf.nt) hd h1 (fun S' ι' a' w' h3=>⟨rfl,r8 hE hf h2 w0 S0 vs x L gv S' ι' a' w' hS0 hK h3⟩) h.E0)
      ·exact ht.elim
   ·exact ht.elim
  ·exact ht.elim

theorem Tree.holds.mono {rs:List Ty} {L L':Code→List Item→St→Prop} {R:DL rs→Prop}:∀ {t:Tree rs},t.holds L R→(∀ c k s,L c k s→L' c k s)→t.holds L' R
 | .n8 _ _,h,hl=>⟨h.1,fun hp=>(h.2 hp).mono hl⟩
 | .both _ _ _,h,hl=>⟨fun hp=>(h.1 hp).mono hl,h.2.mono hl⟩
 | .cut c k s,h,hl=>hl c k s h
 | .ret _,h,_=>h
 | .stuck _,h,_=>h

theorem Reach.loop (hE:H8 E) {fn:Func} (hf:L7 E fn) {y:DL E.rs} {z:DL (u6 E.ps)} {c:Code} {k:List Item} {α:Type} (mk:α→St) (I:α→Prop) (μ:α→Nat) (n:Nat) (hu:∀ x,uniq (mk x).fr∧uniq (mk x).hp)
  (h:∀ x,I x→(mk x).D6→(exec E n (.code c::.inLoop c::k) (mk x)).holds (fun c' k' s'=>(c'=c∧k'=k∧∃ x',s'=mk x'∧I x'∧μ x'<μ x)∨Reach E fn y z (.code c'::.inLoop c'::k') s') (·=DL.app y z)) :
  ∀ x,I x→Reach E fn y z (.code c::.inLoop c::k) (mk x):=by
 have key:∀ m x,μ x=m→I x→Reach E fn y z (.code c::.inLoop c::k) (mk x):=by
  intro m
  induction m using Nat.strongRecOn with
  | _ m ih =>
   intro x hm hI w0 S0 vs x0 L gv S ι a w hS0 hK hrs
   have hx:=h x hI (hrs.D6 (hu x).1 (hu x).2)
   refine r8 hE hf (hx.mono ?_) w0 S0 vs x0 L gv S ι a w hS0 hK hrs
   rintro c' k' s' (⟨rfl,rfl,x',rfl,h1,h2⟩|h1)
   ·exact ih (μ x') (hm▸h2) x' rfl h1
   ·exact h1
 exact fun x hI=>key (μ x) x rfl hI

end
end Go.Ex

namespace Go.Ex

section
variable {E:Env} {B:y9} {S S':Nat→Prop} {ι:Ix} {s:St} {a:Act} {w:World} {hp:List (Nat×f9)} {H H':Array Go.Obj}

theorem VX.has {v:AV} {i:Nat}:∀ {vs:List Value},VX H S ι hp v vs→v.e8 i=true→∃ e,look i hp=some e:=by
 induction v with
 | cons a b iha ihb =>
  rintro vs ⟨v,us,_,ha,hb⟩ hm
  simp only [AV.e8,Bool.or_eq_true] at hm
  exact hm.elim (iha ha) (ihb hb)
 | F0 l ih=>rintro vs ⟨us,_,h⟩ hm; exact ih h hm
 | y7 f l ih=>rintro vs ⟨us,_,h⟩ hm; exact ih h hm
 | bx l ih=>rintro vs ⟨_,_,u,_,_,_,_,h⟩ hm; exact ih h hm
 | rc f l ih=>rintro vs ⟨_,_,u,_,_,_,_,h⟩ hm; exact ih h hm
 | ptr j p=>rintro vs ⟨e,_,_,h1,_⟩ hm; have:=Nat.eq_of_beq_eq_true hm; subst this; exact ⟨e,h1⟩
 | at_ j p=>rintro vs ⟨e,_,_,_,h1,_⟩ hm; have:=Nat.eq_of_beq_eq_true hm; subst this; exact ⟨e,h1⟩
 | sub j p a b=>rintro vs ⟨e,_,h1,_⟩ hm; have:=Nat.eq_of_beq_eq_true hm; subst this; exact ⟨e,h1⟩
 | _=>intro vs _ hm; cases hm

structure b0S (B:y9) (S:Nat→Prop) (w:World) (ks:List PK) (vs:List Value) (x:DK ks) (L:List Nat) (i:Nat) (ι:Ix):Prop where
 hs:HS B S ι (B0 ks x i) w
 fr:∀ t v,look t (N7 ks x i)=some v→i≤t∧∃ val,vs[t - i]?=some val∧VX w.heap S ι (B0 ks x i) v [val]
 pins:∀ q∈G6 ks vs i,pinned q.1=true∧(∃ e,look q.1 (B0 ks x i)=some e)∧ι.root q.1=q.2.1∧ι.cells q.1=q.2.2
 keys:∀ k e,look k (B0 ks x i)=some e→∃ m,i≤m∧m<1000∧(k=1500000+m∨k=2000000+m)
 own:∀ k e,look k (B0 ks x i)=some e→∀ b∈i8 ι k e,b∈L
 rest:∀ k,look k (B0 ks x i)=none→ι.root k=(0,0)∧ι.cells k=[]

theorem b44 (hB:B.pins=[]) (hw:B.w0=w) (hS0:B.S0=S) (hS:∀ b,S b→b<w.heap.size):∀ {ks:List PK} {vs:List Value} {x:DK ks} {L:List Nat} {i:Nat},I6 w.heap S ks vs x L→L.Nodup→(∀ b∈L,¬ S b∧B.M b∧b<w.heap.size)→i+ks.length≤1000→∃ ι,b0S B S w ks vs x L i ι
 | [],vs,x,L,i,hK,_,_,_=>by
  refine ⟨⟨fun _=>(0,0),fun _=>[],fun _=>[]⟩,⟨?_,?_,?_,?_,?_,fun k _=>⟨rfl,rfl⟩⟩⟩
  ·subst hw
   subst hS0
   refine ⟨rfl,.refl _,rfl,Nat.le_refl _,fun _ _ _=>rfl,hS,fun _ h=>h,fun b hb=>.inl hb,?_,?_,?_,?_⟩
   ·intro i e hi; cases hi
   ·intro i e hi; cases hi
   ·intro i j ei ej hi; cases hi
   ·intro q hq; rw [hB] at hq; cases hq
  ·intro t v h; cases h
  ·intro q hq; simp [G6] at hq
  ·intro k e h; cases h
  ·intro k e h; cases h
 | k::ks,vs,x,L,i,⟨v,us,L1,L2,e1,e2,hk,hK⟩,hn,hL,hi=>by
  subst e1 e2
  have hnL:=List.nodup_append.1 hn
  obtain ⟨ι,hb⟩:=b44 (i:=i+1) hB hw hS0 hS hK hnL.2.1 (fun b hb=>hL b (by simp [hb])) (by simp only [List.length_cons] at hi; omega)
  simp only [List.length_cons] at hi
  -- a parameter that is read alone
  have plain:∀ {v0:AV},N7 (k::ks) x i=(i,v0)::N7 ks x.2 (i+1)→B0 (k::ks) x i=B0 ks x.2 (i+1)→G6 (k::ks) (v::us) i=G6 ks us (i+1)→VX w.heap S ι (B0 ks x.2 (i+1)) v0 [v]→∃ ι,b0S B S w (k::ks) (v::us) x (L1++L2) i ι:=by
   intro v0 h1 h2 h3 h4
   refine ⟨ι,by rw [h2]; exact hb.hs,?_,by rw [h3,h2]; exact hb.pins,?_,?_,by rw [h2]; exact hb.rest⟩
   ·intro t u hu
    rw [h1] at hu
    simp only [look] at hu
    rw [h2]
    cases hbq:Nat.beq t i with
    | true =>
     rw [hbq] at hu
     have:=Nat.eq_of_beq_eq_true hbq
     subst this
     cases hu
     exact ⟨Nat.le_refl _,v,by simp,h4⟩
    | false =>
     rw [hbq] at hu
     obtain ⟨k1,val,k2,k3⟩:=hb.fr t u hu
     refine ⟨by omega,val,?_,k3⟩
     rw [show t - i=(t - (i+1))+1 from by omega]
     simpa using k2
   ·intro q e hq
    rw [h2] at hq
    obtain ⟨m,m1,m2,m3⟩:=hb.keys q e hq
    exact ⟨m,by omega,m2,m3⟩
   ·intro q e hq b hbb
    rw [h2] at hq
    exact List.mem_append_right _ (hb.own q e hq b hbb)
  -- a parameter with an object
  have obj:∀ {v0:AV} {d:Nat} {e:f9} {ι':Ix},N7 (k::ks) x i=(i,v0)::N7 ks x.2 (i+1)→B0 (k::ks) x i=Ex.put d e (B0 ks x.2 (i+1))→(d=1500000+i∨d=2000000+i) →
    (∀ q∈G6 (k::ks) (v::us) i,q∈G6 ks us (i+1)∨(pinned q.1=true∧q.1=d∧ι'.root d=q.2.1∧ι'.cells d=q.2.2))→(∀ j,j≠d→w6 ι ι' j)→OB w.heap S ι' d e→(∀ b∈i8 ι' d e,b∈L1) →
    VX w.heap S ι' (Ex.put d e (B0 ks x.2 (i+1))) v0 [v]→∃ ι,b0S B S w (k::ks) (v::us) x (L1++L2) i ι:=by
   intro v0 d e ι' h1 h2 hd h3 hs hob hbl h4
   have hnone:look d (B0 ks x.2 (i+1))=none:=by
    cases hlk:look d (B0 ks x.2 (i+1)) with
    | none=>rfl
    | some e'=>exfalso; obtain ⟨m,m1,m2,m3⟩:=hb.keys d e' hlk; omega
   have hF:x4 B S ι (B0 ks x.2 (i+1)) w L1:=by
    refine ⟨hnL.1,fun b hbb=>?_⟩
    obtain ⟨l1,l2,l3⟩:=hL b (by simp [hbb])
    exact ⟨l1,.inr l2,l3,fun j ej hj hbj=>hnL.2.2 b hbb b (hb.own j ej hj b hbj) rfl⟩
   have hns:∀ {u:AV} {us':List Value},VX w.heap S ι (B0 ks x.2 (i+1)) u us'→u.e8 d=false:=by
    intro u us' hu
    cases hm:u.e8 d with
    | false=>rfl
    | true=>obtain ⟨e',he'⟩:=hu.has hm; rw [hnone] at he'; cases he'
   refine ⟨ι',by rw [h2]; exact hb.hs.add hnone hs hob hbl hF,?_,?_,?_,?_,?_⟩
   ·intro t u hu
    rw [h1] at hu
    simp only [look] at hu
    rw [h2]
    cases hbq:Nat.beq t i with
    | true =>
     rw [hbq] at hu
     have:=Nat.eq_of_beq_eq_true hbq
     subst this
     cases hu
     exact ⟨Nat.le_refl _,v,by simp,h4⟩
    | false =>
     rw [hbq] at hu
     obtain ⟨k1,val,k2,k3⟩:=hb.fr t u hu
     refine ⟨by omega,val,?_,VX.add hs (hns k3) k3⟩
     rw [show t - i=(t - (i+1))+1 from by omega]
     simpa using k2
   ·intro q hq
    rw [h2]
    rcases h3 q hq with hq|⟨q1,q2,q3,q4⟩
    ·obtain ⟨r1,⟨e',r2⟩,r3,r4⟩:=hb.pins q hq
     have hne:q.1≠d:=by intro hqd; rw [hqd,hnone] at r2; cases r2
     obtain ⟨s1,s2,s3⟩:=hs q.1 hne
     exact ⟨r1,⟨e',by rw [l7,if_neg hne]; exact r2⟩,s1.trans r3,s2.trans r4⟩
    ·exact ⟨q1,⟨e,by rw [l7,if_pos q2]⟩,by rw [q2]; exact q3,by rw [q2]; exact q4⟩
   ·intro q e' hq
    rw [h2,l7] at hq
    split at hq
    ·rename_i hqd; exact ⟨i,Nat.le_refl _,by omega,by omega⟩
    ·obtain ⟨m,m1,m2,m3⟩:=hb.keys q e' hq
     exact ⟨m,by omega,m2,m3⟩
   ·intro q e' hq b hbb
    rw [h2,l7] at hq
    split at hq
    ·rename_i hqd; subst hqd; cases hq; exact List.mem_append_left _ (hbl b hbb)
    ·rename_i hqd
     rw [(hs q hqd).i8] at hbb
     exact List.mem_append_right _ (hb.own q e' hq b hbb)
   ·intro q hq
    rw [h2,l7] at hq
    split at hq
    ·cases hq
    ·rename_i hqd
     obtain ⟨s1,s2,s3⟩:=hs q hqd
     obtain ⟨r1,r2⟩:=hb.rest q hq
     exact ⟨s1.trans r1,s2.trans r2⟩
  have hrest:∀ d,d=1500000+i∨d=2000000+i→ι.root d=(0,0)∧ι.cells d=[]:=by
   intro d hd
   refine hb.rest d ?_
   cases hlk:look d (B0 ks x.2 (i+1)) with
   | none=>rfl
   | some e'=>exfalso; obtain ⟨m,m1,m2,m3⟩:=hb.keys d e' hlk; omega
  cases k with
  | v t=>obtain ⟨_,cs,e1,hR⟩:=hk; exact plain rfl rfl rfl ⟨cs,by rw [e1],hR⟩
  | L5=>exact plain rfl rfl rfl (by rw [hk.2]; rfl)
  | R8 f n=>exact plain rfl rfl rfl ⟨_,rfl⟩
  | el q=>exact plain rfl rfl rfl ⟨_,rfl⟩
  | rd t=>obtain ⟨_,b,off,e1,k1,k2,k3⟩:=hk; exact plain rfl rfl rfl ⟨b,off,by rw [e1],k1,k2,k3⟩
  | y7 f ts =>
   obtain ⟨_,ws,e1,hl⟩:=hk
   refine plain rfl rfl rfl ⟨ws,by rw [e1],?_⟩
   have:∀ {ts:List Ty} {ws:List Value} {y:DL ts},RdL w.heap S ts ws y→VX w.heap S ι (B0 ks x.2 (i+1)) (N7.rdA ts y) ws:=by
    intro ts
    induction ts with
    | nil=>intro ws y h; exact h
    | cons t ts ih =>
     rintro ws y ⟨v,us,e,⟨b,off,e1,k1,k2,k3⟩,hl⟩
     exact ⟨v,us,e,⟨b,off,by rw [e1],k1,k2,k3⟩,ih hl⟩
   exact this hl
  | own t =>
   obtain ⟨cs,rfl,hR⟩:=hk
   refine obj (d:=1500000+i) (e:=.own t x.1) (ι':=ι.M2 (1500000+i) cs L1) rfl rfl (.inl rfl) (fun q hq=>.inl hq) (fun j hj=>a1f hj _ _) ⟨⟨L1,by simp [Ix.M2],by simpa [Ix.M2] using hR⟩,by simpa [Ix.M2] using hnL.1⟩ ?_ (a3n hR.length)
   intro b hb; simpa [i8,Ix.M2] using hb
  | rw t =>
   obtain ⟨b,off,O,rfl,hR,hf,rfl⟩:=hk
   refine obj (d:=2000000+i) (e:=.var t x.1) (ι':=ι.L4 (2000000+i) (b,off) O) rfl rfl (.inr rfl) ?_ (fun j hj=>a2R hj _ _) ⟨⟨O,by simp [Ix.L4],by simpa [Ix.L4] using hR⟩,by simpa [Ix.L4] using hf,by simpa [Ix.L4] using hnL.1⟩ ?_
    (a7C (s:=⟨[],B0 ks x.2 (i+1)⟩) (r:=(b,off)) (o:=O) hf.lt)
   ·intro q hq
    simp only [G6,List.mem_cons] at hq
    rcases hq with rfl|hq
    ·exact .inr ⟨by simp only [pinned,Nat.ble_eq]; omega,rfl,by simp [Ix.L4],by simpa [Ix.L4] using (hrest (2000000+i) (.inr rfl)).2⟩
    ·exact .inl hq
   ·intro c hc; simpa [i8,Ix.L4] using hc
  | mu t =>
   obtain ⟨cs,rfl,hR⟩:=hk
   have hcs:cs=[j7 (.d0 true t) cs]:=by
    have:=hR.length
    match cs,this with
    | [c],_=>rfl
   refine obj (d:=2000000+i) (e:=.own (.d0 true t) x.1) (ι':=ι.M2 (2000000+i) cs L1) rfl rfl (.inr rfl) ?_ (fun j hj=>a1f hj _ _) ⟨⟨L1,by simp [Ix.M2],by simpa [Ix.M2] using hR⟩,by simpa [Ix.M2] using hnL.1⟩ ?_ (a3n hR.length)
   ·intro q hq
    simp only [G6,List.mem_cons] at hq
    rcases hq with rfl|hq
    ·exact .inr ⟨by simp only [pinned,Nat.ble_eq]; omega,rfl,by simpa [Ix.M2] using (hrest (2000000+i) (.inr rfl)).1,by simpa [Ix.M2] using hcs⟩
    ·exact .inl hq
   ·intro b hb; simpa [i8,Ix.M2] using hb

theorem b4D:∀ {ks:List PK} {vs:List Value} {x:DK ks} {L:List Nat},I6 H S ks vs x L→b3c ks x
 | [],_,_,_,_=>trivial
 | k::ks,vs,x,L,⟨v1,us,L1,L2,e,_,h1,h2⟩=>by
  refine ⟨?_,b4D h2⟩
  cases k with
  | v t=>obtain ⟨_,cs,e1,hR⟩:=h1; exact hR.D6
  | rd t=>obtain ⟨_,b,off,e1,k1,k2,k3⟩:=h1; exact k3.D6
  | own t=>obtain ⟨cs,e1,hR⟩:=h1; exact hR.D6
  | rw t=>obtain ⟨b,off,O,e1,hR,_⟩:=h1; exact hR.D6
  | mu t=>obtain ⟨cs,e1,hR⟩:=h1; exact hR.D6
  | L5=>trivial
  | R8 f n=>trivial
  | el q=>trivial
  | y7 f ts =>
   obtain ⟨_,ws,e1,hl⟩:=h1
   have:∀ {ts:List Ty} {ws:List Value} {y:DL ts},RdL H S ts ws y→PK.D6.b2W ts y:=by
    intro ts
    induction ts with
    | nil=>intro ws y h; trivial
    | cons t ts ih =>
     rintro ws y ⟨v,us,e,⟨b,off,e1,k1,k2,k3⟩,hl⟩
     exact ⟨k3.D6,ih hl⟩
   exact this hl

theorem b4E:∀ {ks:List PK} {vs:List Value} {x:DK ks} {L:List Nat},I6 H S ks vs x L→vs.length=ks.length
 | [],_,_,_,h=>by rw [h.1]; rfl
 | k::ks,vs,x,L,⟨v1,us,L1,L2,e,_,_,h2⟩=>by rw [e]; simp [b4E h2]

theorem a5T:∀ {ks:List PK} {x:DK ks} {i k:Nat} {e:f9},look k (B0 ks x i)=some e→∃ m,i≤m∧m<i+ks.length∧(k=1500000+m∨k=2000000+m)
 | [],_,_,_,_,h=>by cases h
 | k0::ks,x,i,k,e,h=>by
  have rest:look k (B0 ks x.2 (i+1))=some e→∃ m,i≤m∧m<i+(k0::ks).length∧(k=1500000+m∨k=2000000+m):=by
   intro h
   obtain ⟨m,h1,h2,h3⟩:=a5T h
   exact ⟨m,by omega,by simp only [List.length_cons]; omega,h3⟩
  have put_:∀ {d:Nat} {e0:f9},(d=1500000+i∨d=2000000+i)→look k (Ex.put d e0 (B0 ks x.2 (i+1)))=some e→∃ m,i≤m∧m<i+(k0::ks).length∧(k=1500000+m∨k=2000000+m):=by
   intro d e0 hd h
   rw [l7] at h
   split at h
   ·rename_i hk; subst hk; exact ⟨i,Nat.le_refl _,by simp only [List.length_cons]; omega,hd⟩
   ·exact rest h
  cases k0 with
  | own t=>exact put_ (.inl rfl) h
  | rw t=>exact put_ (.inr rfl) h
  | mu t=>exact put_ (.inr rfl) h
  | _=>exact rest h

def a1G (hp:List (Nat×f9)) (ι:Ix):(ks:List PK)→List Value→DK ks→Nat→Prop
 | [],_,_,_=>True
 | .rw t::ks,vs,x,i=>(look (2000000+i) hp=some (.var t x.1)∧∃ us,vs=.pointer (some ⟨(ι.root (2000000+i)).1,(ι.root (2000000+i)).2,none⟩)::us)∧a1G hp ι ks (vs.drop 1) x.2 (i+1)
 | .v _::ks,vs,x,i=>a1G hp ι ks (vs.drop 1) x.2 (i+1)
 | .rd _::ks,vs,x,i=>a1G hp ι ks (vs.drop 1) x.2 (i+1)
 | .y7 _ _::ks,vs,x,i=>a1G hp ι ks (vs.drop 1) x.2 (i+1)
 | .own _::ks,vs,x,i=>a1G hp ι ks (vs.drop 1) x.2 (i+1)
 | .mu _::ks,vs,x,i=>a1G hp ι ks (vs.drop 1) x.2 (i+1)
 | .L5::ks,vs,x,i=>a1G hp ι ks (vs.drop 1) x.2 (i+1)
 | .R8 _ _::ks,vs,x,i=>a1G hp ι ks (vs.drop 1) x.2 (i+1)
 | .el _::ks,vs,x,i=>a1G hp ι ks (vs.drop 1) x.2 (i+1)

theorem a1g:∀ {ks:List PK} {vs:List Value} {x:DK ks} {L:List Nat} {i:Nat},I6 H S ks vs x L→i+ks.length≤1000→(∀ k e,look k (B0 ks x i)=some e→look k hp=some e)→(∀ q∈G6 ks vs i,ι.root q.1=q.2.1)→a1G hp ι ks vs x i
 | [],_,_,_,_,_,_,_,_=>trivial
 | k::ks,vs,x,L,i,⟨v,us,L1,L2,e1,_,hk,hK⟩,hi,hh,hp2=>by
  subst e1
  simp only [List.length_cons] at hi
  have sub:∀ {d:Nat} {e0:f9},(d=1500000+i∨d=2000000+i)→(∀ k e,look k (Ex.put d e0 (B0 ks x.2 (i+1)))=some e→look k hp=some e)→∀ k e,look k (B0 ks x.2 (i+1))=some e→look k hp=some e:=by
   intro d e0 hd hh k e h
   refine hh k e ?_
   rw [l7,if_neg]
   ·exact h
   ·rintro rfl
    obtain ⟨m,h1,h2,h3⟩:=a5T h
    omega
  cases k with
  | rw t =>
   obtain ⟨b,off,O,rfl,_,_,_⟩:=hk
   have hr:ι.root (2000000+i)=(b,off):=hp2 (2000000+i,(b,off),[]) (by simp [G6])
   refine ⟨⟨hh _ _ (by simp only [B0]; rw [l7,if_pos rfl]),us,by rw [hr]⟩,a1g hK (by omega) (sub (.inr rfl) hh) (fun q hq=>hp2 q (by simp only [G6]; exact List.mem_cons_of_mem _ hq))⟩
  | own t=>exact a1g (ks:=ks) hK (by omega) (sub (.inl rfl) hh) (fun q hq=>hp2 q hq)
  | mu t=>exact a1g (ks:=ks) hK (by omega) (sub (.inr rfl) hh) (fun q hq=>hp2 q (by simp only [G6]; exact List.mem_cons_of_mem _ hq))
  | v t=>exact a1g (ks:=ks) hK (by omega) hh (fun q hq=>hp2 q hq)
  | rd t=>exact a1g (ks:=ks) hK (by omega) hh (fun q hq=>hp2 q hq)
  | y7 f ts=>exact a1g (ks:=ks) hK (by omega) hh (fun q hq=>hp2 q hq)
  | L5=>exact a1g (ks:=ks) hK (by omega) hh (fun q hq=>hp2 q hq)
  | R8 f n=>exact a1g (ks:=ks) hK (by omega) hh (fun q hq=>hp2 q hq)
  | el q=>exact a1g (ks:=ks) hK (by omega) hh (fun q hq=>hp2 q hq)

theorem a8m {fr:List (Nat×AV)}:∀ {n j:Nat} {us:List Value},us.length=n→(∀ t val v,us[t]?=some val→look (j+t) fr=some v→VX H S ι hp v [val])→VX H S ι hp (b3h fr j n) us
 | 0,j,us,hl,_=>by
  obtain rfl:=List.length_eq_zero_iff.1 hl
  rfl
 | n+1,j,u::us,hl,h=>by
  refine ⟨u,us,rfl,?_,a8m (by simpa using hl) (fun t val v ht hv=>h (t+1) val v (by simpa using ht) (by rw [← hv]; congr 1; omega))⟩
  cases hlk:look j fr with
  | none=>exact ⟨_,rfl⟩
  | some v=>exact h 0 u v rfl hlk

theorem b2g:∀ {ks:List PK} {x:DK ks} {i:Nat} {fr:List (Nat×AV)} {pre vs:List Value} {cc:Option (Sigma Ty.den)},(∀ t v,look t fr=some v→∃ val,(pre.reverse++vs)[t]?=some val∧VX H S ι hp v [val])→i=pre.length →
  M0 H S ks cc pre vs x→vs.length=ks.length→a1G hp ι ks vs x i→(∀ r,cc=some r→∃ pre',pre=.pointer (some ⟨(ι.root (2000000+(i - 1))).1,(ι.root (2000000+(i - 1))).2,none⟩)::pre'∧look (2000000+(i - 1)) hp=some (.var r.1 r.2)) →
  ∀ t v,look t (W5 ks x i fr)=some v→∃ val,(pre.reverse++vs)[t]?=some val∧VX H S ι hp v [val]
 | [],_,_,_,_,_,_,h,_,_,_,_,_=>h
 | k::ks,x,i,fr,pre,vs,cc,h,hi,hk,hl,hr,hc=>by
  cases vs with
  | nil=>cases hl
  | cons v vs =>
   have hl:vs.length=ks.length:=by simpa using hl
   have happ:pre.reverse++v::vs=(v::pre).reverse++vs:=by simp
   have next:∀ {fr':List (Nat×AV)} {cc':Option (Sigma Ty.den)},(∀ t v',look t fr'=some v'→∃ val,(pre.reverse++v::vs)[t]?=some val∧VX H S ι hp v' [val])→M0 H S ks cc' (v::pre) vs x.2→a1G hp ι ks vs x.2 (i+1) →
     (∀ r,cc'=some r→v=.pointer (some ⟨(ι.root (2000000+i)).1,(ι.root (2000000+i)).2,none⟩)∧look (2000000+i) hp=some (.var r.1 r.2))→∀ t v',look t (W5 ks x.2 (i+1) fr')=some v'→∃ val,(pre.reverse++v::vs)[t]?=some val∧VX H S ι hp v' [val]:=by
    intro fr' cc' h1 h2 h3 h4
    rw [happ] at h1 ⊢
    refine b2g h1 (by simp [hi]) h2 hl h3 (fun r hr=>?_)
    rw [Nat.add_sub_cancel]
    obtain ⟨q1,q2⟩:=h4 r hr
    exact ⟨pre,by rw [q1],q2⟩
   have hat:(pre.reverse++v::vs)[i]?=some v:=by
    rw [List.getElem?_append_right (by simp [hi])]
    simp [hi]
   cases k with
   | v t=>exact next h hk hr (fun r hr=>by cases hr)
   | rd t=>exact next h hk hr (fun r hr=>by cases hr)
   | y7 f ts=>exact next h hk hr (fun r hr=>by cases hr)
   | own t=>exact next h hk hr (fun r hr=>by cases hr)
   | mu t=>exact next h hk hr (fun r hr=>by cases hr)
   | L5=>exact next h hk hr (fun r hr=>by cases hr)
   | rw t =>
    obtain ⟨⟨h1,us,h2⟩,hr⟩:=hr
    exact next h hk hr (fun r hr=>by cases hr; exact ⟨(List.cons.inj h2).1,h1⟩)
   | R8 f n =>
    obtain ⟨⟨us,b,off,e1,h1,h2,h3,h4⟩,hk⟩:=hk
    obtain ⟨rfl,rfl⟩:=List.cons.inj e1
    refine next (fun t v' ht=>?_) hk hr (fun r hr=>by cases hr)
    rw [l7] at ht
    split at ht
    ·rename_i e; subst e; cases ht
     refine ⟨_,hat,_,_,_,rfl,h1,h2,h3,_,rfl,b,off,(pre.take n).reverse,rfl,h1,h2,h3,?_⟩
     refine a8m (by simp; omega) (fun t val v' ht hv=>?_)
     obtain ⟨val',g1,g2⟩:=h _ _ hv
     have htn:t<n:=by
      have:=(List.getElem?_eq_some_iff.1 ht).1
      simp at this; omega
     have:val'=val:=by
      rw [List.reverse_take,List.getElem?_drop] at ht
      rw [List.getElem?_append_left (by simp; omega)] at g1
      subst hi
      rw [g1] at ht; cases ht; rfl
     rw [this] at g2; exact g2
    ·exact h t v' ht
   | el q =>
    obtain ⟨⟨t,y,b0,off0,pre',b,off,us,e0,e1,e2,h1,h2,h3⟩,hk⟩:=hk
    obtain ⟨rfl,rfl⟩:=List.cons.inj e2
    obtain ⟨pre2,g1,g2⟩:=hc _ e0
    rw [e1] at g1
    simp only [List.cons.injEq,Value.pointer.injEq,Option.some.injEq,Addr.mk.injEq,and_true] at g1
    obtain ⟨⟨rfl,rfl⟩,rfl⟩:=g1
    refine next (fun t' v' ht=>?_) hk hr (fun r hr=>by cases hr)
    rw [l7] at ht
    split at ht
    ·rename_i e; subst e; cases ht
     exact ⟨_,hat,_,b,off,g2,h1,M5 h2 h3,rfl⟩
    ·exact h t' v' ht

theorem b7w {E:Env} {fn:Func} {w:World} {vs:List Value} {x:DK E.ps} {L:List Nat}
  (hlen:E.ps.length≤fn.ntmps∧E.ps.length≤1000) (hS:∀ b,S b→b<w.heap.size) (hK:I6 w.heap S E.ps vs x L) (hKl:M0 w.heap S E.ps none [] vs x) (hLn:L.Nodup) (hLb:∀ b∈L,¬ S b∧b<w.heap.size) :
  ∃ ι,∀ gv,RS (y9.of w S E.ps vs L fn.ntmps gv) S ι (G9 E.ps x) { tmps:=vs.toArray++Array.replicate (fn.ntmps - vs.toArray.size) undef,defers:=[] } w:=by
 obtain ⟨ι,hbg⟩:=b44 (B:=⟨w,S,fun b=>b∈L,fn.ntmps,[],undef⟩) (i:=0) rfl rfl rfl hS hK hLn (fun b hb=>⟨(hLb b hb).1,hb,(hLb b hb).2⟩) (by show 0+E.ps.length≤1000; omega)
 refine ⟨ι,fun gv=>?_⟩
 have hl:vs.length=E.ps.length:=b4E hK
 have hs:=hbg.hs
 refine ⟨⟨hs.os,hs.tape,hs.out,hs.size,hs.frame,hs.slt,hs.s0,hs.s1,hs.ob,hs.bl,hs.dj,fun q hq=>hbg.pins q hq⟩,rfl,?_,?_⟩
 ·simp only [Array.size_append,List.size_toArray,Array.size_replicate,y9.of]
  omega
 ·intro t v hv
  obtain ⟨val,k2,k3⟩:=b2g (pre:=[]) (vs:=vs) (i:=0) (fun t v ht=>by
   obtain ⟨_,val,k2,k3⟩:=hbg.fr t v ht
   exact ⟨val,by simpa using k2,k3⟩) rfl hKl hl (a1g hK (by show 0+E.ps.length≤1000; omega) (fun _ _ h=>h) (fun q hq=>(hbg.pins q hq).2.2.1)) (fun r hr=>by cases hr) t v hv
  simp only [List.reverse_nil,List.nil_append] at k2
  have:(vs.toArray++Array.replicate (fn.ntmps - vs.toArray.size) undef).getD t (y9.gd (y9.of w S E.ps vs L fn.ntmps gv) t)=val:=by
   have hlt:=(List.getElem?_eq_some_iff.1 k2).1
   simp only [Array.getD_eq_getD_getElem?]
   rw [Array.getElem?_append_left (by simpa using hlt)]
   simp [k2]
  rw [this]
  exact k3

theorem D4.F1 (_hE:H8 E) {f:FuncId} {fn:Func} {c:Code} {rs:List Ty} {ps:List PK} {pre:DK ps→Prop} {fn':DK ps→DL rs} {out:DK ps→DL (u6 ps)} (hrs:E.rs=rs) (hps:E.ps=ps) (hf:E.P.funcs[f]?=some fn) (hb:fn.body=some c) (hname:(fn.name == "runtime.NumGoroutine")=false) (_hF:L7 E fn)
  (hlen:(Nat.ble ps.length fn.ntmps && Nat.ble ps.length 1000)=true)
  (h:∀ x:DK ps,pre x→b3c ps x→Reach E fn (hrs▸fn' x) (hps▸out x) [.code c] (G9 ps x)):(D4.mk ps rs pre fn' out false).Valid E.P f:=by
 subst hrs
 subst hps
 simp only [Bool.and_eq_true,Nat.ble_eq] at hlen
 refine ⟨⟨fn,hf,hname,by rw [hb]; rfl⟩,?_,fun h=>by cases h⟩
 intro w S vs x L hS hgl hpre hK hKl hLn hLb
 refine Calls.mono (R:=fun e w'=>a0V w S E.rs E.ps vs L (fn' x) (out x) e w'∧GOk E.gp undef w'.heap E.ps vs (out x)) ?_ (fun _ _ h=>h.1)
 refine b1A hf hb ?_
 obtain ⟨ι,hst⟩:=b7w hlen hS hK hKl hLn hLb
 exact h x hpre (b4D hK) w S vs x L undef S ι _ w ⟨hgl,fun b hb=>⟨hS b hb,fun hl=>(hLb b hl).1 hb⟩⟩ hK (hst undef)

end
end Go.Ex

namespace Go.Ex

/-! ### results that are handed out as shared -/
def shares:List Ty→List Ty→Bool
 | [],[]=>true
 | t::ts,t'::ts'=>(decide (t'=t) || (decide (t'=t.sh) && t.M8)) && shares ts ts'
 | _,_=>false

theorem b4l {t t':Ty} (h:(decide (t'=t) || (decide (t'=t.sh) && t.M8))=true):t.den=t'.den:=by
 simp only [Bool.or_eq_true,Bool.and_eq_true,decide_eq_true_eq] at h
 rcases h with rfl|⟨rfl,_⟩
 ·rfl
 ·exact (A7 t).symm

def a4n:(rs rs':List Ty)→shares rs rs'=true→DL rs→DL rs'
 | [],[],_,_=>()
 | t::ts,t'::ts',h,x=>(cast (b4l (by simp only [shares,Bool.and_eq_true] at h; exact h.1)) x.1,a4n ts ts' (by simp only [shares,Bool.and_eq_true] at h; exact h.2) x.2)
 | [],_::_,h,_=>by simp [shares] at h
 | _::_,[],h,_=>by simp [shares] at h

theorem a79 {H:Array Go.Obj} {S:Nat→Prop}:∀ {ts rs':List Ty} (h:shares ts rs'=true) {O:List Nat} {us:List Value} {x:DL ts},H3 H S ts O us x →
  ∃ O1 O2,O.Perm (O1++O2)∧∀ T:Nat→Prop,(∀ b,S b→T b)→(∀ b∈O2,T b)→H3 H T rs' O1 us (a4n ts rs' h x)
 | [],[],_,O,us,x,hR=>⟨[],[],by rw [hR.1]; exact List.Perm.refl _,fun T _ _=>⟨rfl,hR.2⟩⟩
 | [],_::_,h,_,_,_,_=>by simp [shares] at h
 | _::_,[],h,_,_,_,_=>by simp [shares] at h
 | t::ts,t'::ts',h,O,us,x,⟨v,us',P1,P2,cs,e1,e2,e3,h1,h2⟩=>by
  have hh:=h
  simp only [shares,Bool.and_eq_true] at hh
  obtain ⟨O1,O2,p,k⟩:=a79 hh.2 h2
  have hd:=hh.1
  simp only [Bool.or_eq_true,Bool.and_eq_true,decide_eq_true_eq] at hd
  subst e2
  rcases hd with rfl|⟨rfl,hnh⟩
  ·refine ⟨P1++O1,O2,by rw [List.append_assoc]; exact p.append_left P1,fun T hS hT=>⟨v,us',P1,O1,cs,e1,rfl,e3,?_,k T hS hT⟩⟩
   exact h1.o4 (fun _ _=>rfl) hS
  ·refine ⟨O1,P1++O2,?_,fun T hS hT=>⟨v,us',[],O1,cs,e1,rfl,by rw [e3]; exact (a9m (by rw [Ty.a5n]) cs).symm,?_,k T hS (fun b hb=>hT b (by simp [hb]))⟩⟩
   ·refine (p.append_left P1).trans ?_
    rw [← List.append_assoc,← List.append_assoc]
    exact List.perm_append_comm.append_right O2
   ·exact h1.a0Y (fun b hb=>hT b (by simp [hb])) hS hnh

theorem b4o {ps:List PK} (h:ps.all PK.reads=true):u6 ps=[]:=by
 induction ps with
 | nil=>rfl
 | cons k ps ih =>
  simp only [List.all_cons,Bool.and_eq_true] at h
  have:=ih h.2
  cases k<;>first|exact this|(exfalso; simp [PK.reads] at h; done)

theorem b1Y {H:Array Go.Obj} {S:Nat→Prop}:∀ {ps:List PK},ps.all PK.reads=true→∀ {vs:List Value} {x:DK ps} {L:List Nat},I6 H S ps vs x L→L=[]
 | [],_,_,_,_,h=>h.2
 | k::ps,h,vs,x,L,⟨v,us,L1,L2,e1,e2,h1,h2⟩=>by
  simp only [List.all_cons,Bool.and_eq_true] at h
  have hL2:=b1Y h.2 h2
  have hL1:L1=[]:=by
   cases k<;>first|exact h1.1|(exfalso; simp [PK.reads] at h; done)
  rw [e2,hL1,hL2]; rfl

theorem D4.Valid.share {P:Program} {f:FuncId} {c:D4} (h:c.Valid P f) (hps:c.ps.all PK.reads=true) (hno:c.rs.all Ty.E2=true) {rs':List Ty} (hrs:shares c.rs rs'=true) :
  (D4.mk c.ps rs' c.pre (fun x=>a4n c.rs rs' hrs (c.fn x)) c.out true).Valid P f:=by
 have core:∀ (w:World) (S:Nat→Prop) (vs:List Value) (x:DK c.ps) (L:List Nat),(∀ b,S b→b<w.heap.size)→Z4 P w S→c.pre x→I6 w.heap S c.ps vs x L→M0 w.heap S c.ps none [] vs x→L.Nodup→(∀ b∈L,¬ S b∧b<w.heap.size) →
   Calls P f vs.toArray w (fun e w'=>∃ us O Lo S',e=.returned (a18 us)∧w8 L w w'∧(∀ b,S b→S' b)∧(∀ b,S' b→S b∨(w.heap.size≤b∧b<w'.heap.size)) ∧
    H3 w'.heap S' rs' O us (a4n c.rs rs' hrs (c.fn x))∧C0 w'.heap S' c.ps vs (c.out x) Lo∧(O++Lo).Nodup∧(∀ b∈O++Lo,¬ S' b∧(w.heap.size≤b∨b∈L)∧b<w'.heap.size) ∧
    H3 w'.heap (fun b=>S' b∧w.heap.size≤b) rs' O us (a4n c.rs rs' hrs (c.fn x))):=by
  intro w S vs x L hS hgl hpre hK hKl hLn hLb
  refine (h.run w S vs x L hS hgl hpre hK hKl hLn hLb).mono (fun e w' hr=>?_)
  obtain ⟨us,O,Lo,S',e1,hp,s1,s2,h1,h2,hnd,hb⟩:=hr
  have hL:=b1Y hps hK
  have hLo:Lo=[]:=N2 (b4o hps) h2
  subst hL
  subst hLo
  rw [List.append_nil] at hnd hb
  obtain ⟨O1,O2,p,k⟩:=a79 hrs (h1.E2 (S':=fun _=>False) hno)
  have hnd':=p.nodup_iff.1 hnd
  have hnewb:∀ b∈O2,¬ S' b∧w.heap.size≤b∧b<w'.heap.size:=fun b hb'=>by
   obtain ⟨q0,q1,q2⟩:=hb b (p.mem_iff.2 (List.mem_append_right _ hb'))
   rcases q1 with q1|q1
   ·exact ⟨q0,q1,q2⟩
   ·cases q1
  refine ⟨us,O1,[],fun b=>S' b∨b∈O2,e1,hp,fun b hb=>.inl (s1 b hb),?_,k _ (fun b hb=>hb.elim) (fun b hb=>.inr hb),?_,by rw [List.append_nil]; exact (List.nodup_append.1 hnd').1,?_,k _ (fun b hb=>hb.elim) (fun b hb=>⟨.inr hb,(hnewb b hb).2.1⟩)⟩
  ·rintro b (hb'|hb')
   ·exact s2 b hb'
   ·exact .inr (hnewb b hb').2
  ·have hno:∀ {ks:List PK} {us:List Value} {y:DL (u6 ks)} {T:Nat→Prop},ks.all PK.reads=true→C0 w'.heap S' ks us y []→C0 w'.heap T ks us y []:=by
    intro ks
    induction ks with
    | nil=>intro us y T _ h; exact h
    | cons k ks ih =>
     intro us y T hk h
     simp only [List.all_cons,Bool.and_eq_true] at hk
     cases k<;>first
      | (obtain ⟨v,us',e,h⟩:=h; exact ⟨v,us',e,ih hk.2 h⟩)
      | (exfalso; simp [PK.reads] at hk; done)
   exact hno hps h2
  ·intro b hb1
   rw [List.append_nil] at hb1
   obtain ⟨q0,q1,q2⟩:=hb b (p.mem_iff.2 (List.mem_append_left _ hb1))
   refine ⟨?_,q1,q2⟩
   rintro (h9|h9)
   ·exact q0 h9
   ·exact (List.nodup_append.1 hnd').2.2 b hb1 b h9 rfl
 refine ⟨h.ent,fun w S vs x L hS hgl hpre hK hKl hLn hLb=>(core w S vs x L hS hgl hpre hK hKl hLn hLb).mono (fun e w' ⟨us,O,Lo,S',a1,a2,a3,a4,a5,a6,a7,a8,_⟩=>⟨us,O,Lo,S',a1,a2,a3,a4,a5,a6,a7,a8⟩),fun _=>core⟩

theorem D4.Valid.conv {P:Program} {f:FuncId} {c:D4} (h:c.Valid P f) {rs':List Ty} {fn':DK c.ps→DL rs'} (hc:∀ x,c.pre x→∀ (H:Array Go.Obj) (S:Nat→Prop) (O:List Nat) (us:List Value),H3 H S c.rs O us (c.fn x)→H3 H S rs' O us (fn' x)) :
  (D4.mk c.ps rs' c.pre fn' c.out c.new).Valid P f:=by
 refine ⟨h.ent,fun w S vs x L hS hgl hpre hK hKl hLn hLb=>?_,fun hn w S vs x L hS hgl hpre hK hKl hLn hLb=>?_⟩
 ·refine (h.run w S vs x L hS hgl hpre hK hKl hLn hLb).mono (fun e w' hr=>?_)
  obtain ⟨us,O,Lo,S',e1,hp,s1,s2,h1,h2⟩:=hr
  exact ⟨us,O,Lo,S',e1,hp,s1,s2,hc x hpre _ _ _ _ h1,h2⟩
 ·refine (h.fresh hn w S vs x L hS hgl hpre hK hKl hLn hLb).mono (fun e w' hr=>?_)
  obtain ⟨us,O,Lo,S',e1,hp,s1,s2,h1,h2,h3,h4,h5⟩:=hr
  exact ⟨us,O,Lo,S',e1,hp,s1,s2,hc x hpre _ _ _ _ h1,h2,h3,h4,hc x hpre _ _ _ _ h5⟩

end Go.Ex

namespace Go.Ex

/-! ### a function that overwrites a slice up to its capacity, by hand -/
abbrev OI:=TypeId×String×Array Edge
section
variable {P:Program} {fn:Func} {R:Ending→World→Prop} {k:List Item} {a:Act} {w:World} {S':Nat→Prop}

structure b8s (P:Program) (b:Nat) (ox:Op) (xv:Value) (X:Act→World→Prop):Prop where
 run:∀ a w,X a w→∀ o:Oper,o.op=ox→(execOp a.eval o).run P w=.ok (.value xv) w
 put:∀ a w d v,X a w→d≠1→d≠3→d<a.tmps.size→X (a.put (some d) v) w
 mem:∀ a w w',X a w→(∀ c,c≠b→w'.heap[c]?=w.heap[c]?)→X a w'

variable {S I T:Nat} {e:Nat→OI} {ox:Op} {t:Ty} {r:Nat} {xv:Value} {ds:List Value} {x:t.den} {b off cap:Nat} {A:Option Addr} {X:Act→World→Prop} {w0:World} {S0:Nat→Prop}

structure SpD (t:Ty) (ds:List Value) (b off cap:Nat) (w0:World) (i:Nat) (w:World):Prop where
 b8r:w8 [b] w0 w
 free:M1 t.isB w.heap b (off+cap*t.size)
 cells:d8 w.heap b off (i*t.size)=(List.replicate i ds).flatten

end
end Go.Ex

namespace Go.Ex

def a5e (P:Program):List (FuncId×D4)→Prop
 | []=>True
 | (f,c)::l=>c.Valid P f∧a5e P l

theorem a5e.look {P:Program}:∀ {l:List (FuncId×D4)} {f:FuncId} {c:D4},a5e P l→Ex.look f l=some c→c.Valid P f
 | [],_,_,_,h=>by cases h
 | (g,d)::l,f,c,h,hl=>by
  simp only [Ex.look] at hl
  cases hb:Nat.beq f g with
  | true =>
   rw [hb] at hl
   have:=Nat.eq_of_beq_eq_true hb
   subst this; cases hl; exact h.1
  | false=>rw [hb] at hl; exact a5e.look h.2 hl

theorem b1O {P:Program}:∀ {l:List (TypeId×TI)} {T:TypeId} {i:TI},l.all (a52 P)=true→Ex.look T l=some i→a52 P (T,i)=true
 | [],_,_,_,h=>by cases h
 | (g,d)::l,T,i,h,hl=>by
  simp only [List.all_cons,Bool.and_eq_true] at h
  simp only [Ex.look] at hl
  cases hb:Nat.beq T g with
  | true =>
   rw [hb] at hl
   have:=Nat.eq_of_beq_eq_true hb
   subst this; cases hl; exact h.1
  | false=>rw [hb] at hl; exact b1O h.2 hl

def a3p (P:Program) (G8:List (FuncId×D4)):List (FuncId×List (Option Nat))→Prop
 | []=>True
 | (f,pat)::l=>(∀ c,Ex.look f G8=some c→c.Kept P f pat)∧a3p P G8 l

theorem a3p.look {P:Program} {G8:List (FuncId×D4)}:∀ {l:List (FuncId×List (Option Nat))} {f:FuncId} {pat:List (Option Nat)},a3p P G8 l→Ex.look f l=some pat→∀ c,Ex.look f G8=some c→c.Kept P f pat
 | [],_,_,_,h=>by cases h
 | (g,d)::l,f,pat,h,hl=>by
  simp only [Ex.look] at hl
  cases hb:Nat.beq f g with
  | true =>
   rw [hb] at hl
   have:=Nat.eq_of_beq_eq_true hb
   subst this; cases hl; exact h.1
  | false=>rw [hb] at hl; exact a3p.look h.2 hl

theorem L9 {E:Env} (ht:E.tt.all (a52 E.P)=true) (hc:a5e E.P E.G8) (hk:a3p E.P E.G8 E.keeps:=by trivial):H8 E :=
 ⟨fun _ _ h=>b1O ht h,fun _ _ h=>hc.look h,fun _ c _ h1 h2=>hk.look h2 c h1⟩

theorem s5 {rs:List Ty} {L:Code→List Item→St→Prop} {R:DL rs→Prop} {t t':Tree rs} (h:t=t') (h':t'.holds L R):t.holds L R:=h▸h'

theorem Reach.Z9 {E:Env} (hE:H8 E) {fn:Func} (hf:L7 E fn) {y:DL E.rs} {z:DL (u6 E.ps)} {c:Code} {k:List Item} {α:Type} (mk:α→St) (I:α→Prop) (μ:α→Nat) (n:Nat) (hu:∀ x,uniq (mk x).fr∧uniq (mk x).hp)
  (h:∀ x,I x→(mk x).D6→(∀ x',I x'→μ x'<μ x→Reach E fn y z (.code c::.inLoop c::k) (mk x')) →
   (exec E n (.code c::.inLoop c::k) (mk x)).holds (fun c' k' s'=>Reach E fn y z (.code c'::.inLoop c'::k') s') (·=DL.app y z)) :
  ∀ x,I x→Reach E fn y z (.code c::.inLoop c::k) (mk x):=by
 have key:∀ m x,μ x=m→I x→Reach E fn y z (.code c::.inLoop c::k) (mk x):=by
  intro m
  induction m using Nat.strongRecOn with
  | _ m ih =>
   intro x hm hI w0 S0 vs x0 L gv S ι a w hS0 hK hrs
   have hx:=h x hI (hrs.D6 (hu x).1 (hu x).2) (fun x' h1 h2=>ih (μ x') (hm▸h2) x' rfl h1)
   exact r8 hE hf hx w0 S0 vs x0 L gv S ι a w hS0 hK hrs
 exact fun x hI=>key (μ x) x rfl hI

def g9 (P:Program) (f:Nat):Code:=((P.funcs[f]?).bind (·.body)).getD .skip

end Go.Ex

namespace Go.Ex
open Go.ChangeShapes Go.WideShapes Go.ChangeAt Go.RowKit

section
variable {P:Program} {X:Type} {enc:TypeId×Value→X} {W:World} {sp:Nat→Bool} {held:Bool}

/-! how many values and letters: of a reading, of what is read -/
def W0 {α:Type _} (f:α→Nat):List α→Nat
 | []=>0
 | x::l=>f x+W0 f l
def Ty.flat:Ty→Bool
 | .int _|.bool|.str|.unit=>true
 | .fn _=>false
 | .hole _=>false
 | .r7 _=>false
 | .map _ _ _=>false
 | .box _ _ _=>false
 | .pair a b=>a.flat && b.flat
 | .arr _ t=>t.flat
 | .d0 o t=>!o && t.flat
def Ty.R2:(t:Ty)→t.den→Nat
 | .int _,_=>1
 | .bool,_=>1
 | .str,s=>List.length s+1
 | .unit,_=>0
 | .fn _,_=>0
 | .hole _,_=>0
 | .r7 _,_=>0
 | .map _ _ _,_=>0
 | .box _ _ _,_=>0
 | .pair a b,x=>a.R2 x.1+b.R2 x.2
 | .arr _ t,l=>W0 t.R2 l
 | .d0 _ t,l=>W0 t.R2 l+1
mutual
def K1 {H:Type}:DataW H→Nat
 | .lit (.string bytes)=>bytes.length+1
 | .lit _=>1
 | .nil=>1
 | .ptr d=>K1 d+1
 | .slice elems spare=>V9 elems+V9 spare+1
 | .agg parts=>V9 parts+1
 | .iface _ d=>K1 d+1
 | .map entries=>a4U entries+1
 | .held _=>1
def V9 {H:Type}:List (DataW H)→Nat
 | []=>0
 | d::r=>K1 d+V9 r
def a4U {H:Type}:List (Lit×DataW H)→Nat
 | []=>0
 | x::r=>b3D x+a4U r
def b3D {H:Type}:Lit×DataW H→Nat
 | (.string bytes,d)=>bytes.length+K1 d+1
 | (_,d)=>K1 d+1
end
theorem a0T {H β:Type}:∀ (xs:List (DataW H×β)),V9 (xs.map (·.1))=W0 (fun x=>K1 x.1) xs
 | []=>rfl
 | x::xs=>by simp only [List.map_cons,V9,W0,a0T xs]

theorem a7z {α β:Type} {R:List Nat→List Value→α→Prop} {sz:Nat} {bk:α→Nat} {bw:β→Nat}:∀ {n:Nat} {cs:List Value} {xs:List β},xs.length=n→cs.length=n*sz→(∀ i,i<n→∃ y z,xs[i]?=some z∧R [] ((cs.drop (i*sz)).take sz) y∧bk y≤bw z) →
  ∃ l:List α,l.length=n∧i5 R sz [] cs l∧W0 bk l≤W0 bw xs
 | 0,cs,[],_,h,_=>⟨[],rfl,⟨rfl,by simpa using h⟩,Nat.le_refl _⟩
 | n+1,cs,x::xs,hx,h,hr=>by
  obtain ⟨y,z,hz,hy,hb⟩:=hr 0 (by omega)
  have e:(n+1)*sz=n*sz+sz:=Nat.succ_mul n sz
  obtain ⟨l,h1,h2,h3⟩:=a7z (R:=R) (bk:=bk) (bw:=bw) (n:=n) (cs:=cs.drop sz) (sz:=sz) (xs:=xs) (by simpa using hx) (by simp; omega) (fun i hi=>by
   obtain ⟨y,z,hz,hy,hb⟩:=hr (i+1) (by omega)
   refine ⟨y,z,by simpa using hz,?_,hb⟩
   rw [List.drop_drop]
   rw [show sz+i*sz=(i+1)*sz by rw [Nat.succ_mul]; omega]
   exact hy)
  have hz:x=z:=by simpa using hz
  subst hz
  exact ⟨y::l,by simp [h1],⟨[],[],rfl,by simpa using hy,h2⟩,by simp only [W0]; omega⟩
 | 0,_,_::_,h,_,_=>by simp at h
 | _+1,_,[],h,_,_=>by simp at h

theorem a0S {n:Nat} {T:TypeId} {t:Ty} (h:n7 P n T t=true):P.cellsOf T=t.size:=by
 obtain ⟨i,h1,h2,_⟩:=K6 h
 simp [Program.cellsOf,h1,h2]

theorem a6N:∀ (t:Ty),t.flat=true →
  (∀ {n:Nat} {T:TypeId} {fuel:Nat} {cs:List Value} {x:DataW X×List MemPlace},n7 P n T t=true→DataW.trod enc P W 0 sp held fuel T cs=some x→∃ y:t.den,d9 W.heap (fun b=>b<W.heap.size) t [] cs y∧t.R2 y≤K1 x.1) ∧
  (∀ {n:Nat} {fs:List Field} {off m:Nat} {cs:List Value} {xs:List (DataW X×List MemPlace)},l8 (n7 P n) fs off t=true→xs.length=fs.length→(∀ (i:Nat) (f:Field),fs[i]?=some f→DataW.trod enc P W 0 sp held m f.type ((cs.drop f.offset).take (P.cellsOf f.type))=xs[i]?) →
   ∃ y:t.den,d9 W.heap (fun b=>b<W.heap.size) t [] ((cs.drop off).take t.size) y∧t.R2 y≤W0 (fun x=>K1 x.1) xs):=by
 intro t
 have strct:∀ {t:Ty},(∀ {n:Nat} {fs:List Field} {off m:Nat} {cs:List Value} {xs:List (DataW X×List MemPlace)},l8 (n7 P n) fs off t=true→xs.length=fs.length→(∀ (i:Nat) (f:Field),fs[i]?=some f→DataW.trod enc P W 0 sp held m f.type ((cs.drop f.offset).take (P.cellsOf f.type))=xs[i]?) →
   ∃ y:t.den,d9 W.heap (fun b=>b<W.heap.size) t [] ((cs.drop off).take t.size) y∧t.R2 y≤W0 (fun x=>K1 x.1) xs)→t.agg=true→(∀ n u,t≠.arr n u) →
   ∀ {n:Nat} {T:TypeId} {fuel:Nat} {cs:List Value} {x:DataW X×List MemPlace},n7 P n T t=true→DataW.trod enc P W 0 sp held fuel T cs=some x→∃ y:t.den,d9 W.heap (fun b=>b<W.heap.size) t [] cs y∧t.R2 y≤K1 x.1:=by
  intro t hB hag hna n T fuel cs x hT h
  obtain ⟨fs,k',h1,h2⟩:=a2O hT hag hna
  obtain ⟨xs,m,_,rfl,hl,hlen,hf⟩:=DataW.trod_struct h1 h
  obtain ⟨y,hy,hb⟩:=hB (cs:=cs) (m:=m) (xs:=xs) h2 (by simpa using hlen) (fun i f hf'=>hf i f (by simpa using hf'))
  refine ⟨y,?_,?_⟩
  ·rw [a0S hT] at hl
   rw [List.drop_zero,List.take_of_length_le (by omega)] at hy
   exact hy
  ·simp only [K1,a0T]; omega
 induction t with
 | int k =>
  intro _
  refine ⟨?_,by intro n fs off m cs xs h; cases fs<;>simp [l8] at h⟩
  intro n T fuel cs x hT h
  obtain ⟨z,rfl,rfl,hw⟩:=DataW.trod_int (S8 hT) h
  simp only [Lit.wf,Bool.and_eq_true,decide_eq_true_eq] at hw
  exact ⟨z,⟨rfl,rfl,hw⟩,by simp [Ty.R2,K1]⟩
 | bool =>
  intro _
  refine ⟨?_,by intro n fs off m cs xs h; cases fs<;>simp [l8] at h⟩
  intro n T fuel cs x hT h
  obtain ⟨b,rfl,rfl⟩:=DataW.trod_bool (a0s hT) h
  exact ⟨b,⟨rfl,rfl⟩,by simp [Ty.R2,K1]⟩
 | str =>
  intro _
  refine ⟨?_,by intro n fs off m cs xs h; cases fs<;>simp [l8] at h⟩
  intro n T fuel cs x hT h
  obtain ⟨s,rfl,rfl,hl⟩:=DataW.trod_string (L3 hT) h
  exact ⟨s.data.toList,⟨rfl,rfl,hl⟩,by simp [Ty.R2,K1]⟩
 | unit =>
  intro _
  have hB:∀ {n:Nat} {fs:List Field} {off m:Nat} {cs:List Value} {xs:List (DataW X×List MemPlace)},l8 (n7 P n) fs off .unit=true→xs.length=fs.length→(∀ (i:Nat) (f:Field),fs[i]?=some f→DataW.trod enc P W 0 sp held m f.type ((cs.drop f.offset).take (P.cellsOf f.type))=xs[i]?) →
    ∃ y:(.unit:Ty).den,d9 W.heap (fun b=>b<W.heap.size) .unit [] ((cs.drop off).take (.unit:Ty).size) y∧(.unit:Ty).R2 y≤W0 (fun x=>K1 x.1) xs:=fun _ _ _=>⟨(),⟨rfl,by simp [Ty.size]⟩,by simp [Ty.R2]⟩
  exact ⟨strct hB rfl (by simp),hB⟩
 | fn f=>intro h; cases h
 | hole t _=>intro h; cases h
 | r7 t _=>intro h; cases h
 | map o a b=>intro h; cases h
 | box o g t=>intro h; cases h
 | pair a b iha ihb =>
  intro hflat
  simp only [Ty.flat,Bool.and_eq_true] at hflat
  have hB:∀ {n:Nat} {fs:List Field} {off m:Nat} {cs:List Value} {xs:List (DataW X×List MemPlace)},l8 (n7 P n) fs off (.pair a b)=true→xs.length=fs.length→(∀ (i:Nat) (f:Field),fs[i]?=some f→DataW.trod enc P W 0 sp held m f.type ((cs.drop f.offset).take (P.cellsOf f.type))=xs[i]?) →
    ∃ y:((.pair a b):Ty).den,d9 W.heap (fun b=>b<W.heap.size) (.pair a b) [] ((cs.drop off).take ((.pair a b):Ty).size) y∧((.pair a b):Ty).R2 y≤W0 (fun x=>K1 x.1) xs:=by
   intro n fs off m cs xs hf hlx hx
   cases fs with
   | nil=>simp [l8] at hf
   | cons f fs =>
    cases xs with
    | nil=>simp at hlx
    | cons x xs =>
    simp only [l8,Bool.and_eq_true] at hf
    obtain ⟨⟨⟨⟨h1,_⟩,h3⟩,_⟩,h5⟩:=hf
    have h1:f.offset=off:=Nat.eq_of_beq_eq_true h1
    have hx0:=hx 0 f (by simp)
    rw [h1,a0S h3] at hx0
    obtain ⟨y1,hy1,hb1⟩:=(iha hflat.1).1 h3 (hx0.trans (by simp:_=some x))
    obtain ⟨y2,hy2,hb2⟩:=(ihb hflat.2).2 (cs:=cs) (m:=m) (xs:=xs) h5 (by simpa using hlx) (fun i f hf=>by simpa using hx (i+1) f (by simpa using hf))
    refine ⟨(y1,y2),⟨[],[],rfl,?_,?_⟩,?_⟩
    ·rw [List.take_take,Nat.min_eq_left (by simp [Ty.size])]; exact hy1
    ·rw [← List.drop_drop] at hy2
     rw [List.drop_take,show (Ty.pair a b).size - a.size=b.size by simp [Ty.size]]; exact hy2
    ·simp only [Ty.R2,W0]; omega
  exact ⟨strct hB rfl (by simp),hB⟩
 | arr n t ih =>
  intro hflat
  refine ⟨?_,by intro n fs off m cs xs h; cases fs<;>simp [l8] at h⟩
  intro k T fuel cs x hT h
  obtain ⟨e,k',h1,h2,h3⟩:=Q6 hT
  obtain ⟨xs,m,_,rfl,hl,hlen,hf⟩:=DataW.trod_array h1 h
  rw [a0S hT] at hl
  have hs:(Ty.arr n t).size=n*t.size:=rfl
  rw [hs] at hl
  obtain ⟨l,g1,g2,g3⟩:=a7z (R:=d9 W.heap (fun b=>b<W.heap.size) t) (bk:=t.R2) (bw:=fun x:DataW X×List MemPlace=>K1 x.1) hlen hl (fun i hi=>by
   have:=hf i hi
   rw [a0S h3] at this
   have e:=List.getElem?_eq_getElem (l:=xs) (i:=i) (by omega)
   obtain ⟨y,hy,hb⟩:=(ih hflat).1 h3 (this.trans e)
   exact ⟨y,_,e,hy,hb⟩)
  exact ⟨l,⟨g1,g2⟩,by simp only [Ty.R2,K1,a0T]; omega⟩
 | d0 o t ih =>
  intro hflat
  simp only [Ty.flat,Bool.and_eq_true,Bool.not_eq_true'] at hflat
  obtain ⟨rfl,hsh⟩:=hflat
  refine ⟨?_,by intro n fs off m cs xs h; cases fs<;>simp [l8] at h⟩
  intro k T fuel cs x hT h
  obtain ⟨e,k',h1,h2,h3⟩:=B3 hT
  have hsz:=a0S h3
  rcases DataW.trod_slice h1 h with ⟨rfl,rfl⟩|⟨a,len,cap,elems,rest,n,_,rfl,rfl,_,hlc,hcm,hel,hf,_,_⟩
  ·exact ⟨([]:List t.den),.inl ⟨rfl,⟨none,0,rfl,by simp⟩,rfl⟩,by simp [Ty.R2,K1,W0]⟩
  ·rw [hsz] at hf
   by_cases h0:len=0
   ·subst h0
    exact ⟨([]:List t.den),.inl ⟨rfl,⟨some a,cap,rfl,by simp⟩,rfl⟩,by simp [Ty.R2,K1,W0]⟩
   ·have hcell:∀ i,i<len→∃ ci y z,W.cells? 0 (a.add (i*t.size)) t.size=some ci∧d9 W.heap (fun b=>b<W.heap.size) t [] ci y∧elems[i]?=some z∧t.R2 y≤K1 z.1:=by
     intro i hi
     have:=hf i hi
     have e:=List.getElem?_eq_getElem (l:=elems) (i:=i) (by omega)
     rw [e] at this
     obtain ⟨ci,k1,k2⟩:=Option.bind_eq_some_iff.1 this
     obtain ⟨y,hy,hb⟩:=(ih hsh).1 h3 k2
     exact ⟨ci,y,_,k1,hy,e,hb⟩
    obtain ⟨c0,_,_,k1,_⟩:=hcell 0 (by omega)
    obtain ⟨_,l0,g0⟩:=World.cells?_some k1
    obtain ⟨b,off,spot⟩:=a
    have hone:=g0 0 (by omega)
    have hsome:∃ v,W.cell? (Addr.mk b off spot)=some v:=by
     have:c0[0]?=some c0[0]:=List.getElem?_eq_getElem (by omega)
     rw [this,Nat.zero_mul] at hone
     exact ⟨_,hone⟩
    obtain ⟨v0,hv0⟩:=hsome
    obtain ⟨arr,T0,fz,hh,hspot⟩:∃ arr T0 fz,W.heap[b]?=some (.cells arr T0 fz)∧spot=none:=by
     unfold World.cell? at hv0
     split at hv0
     ·rename_i c T0 fz hh
      split at hv0
      ·cases hv0
      ·rename_i hs
       exact ⟨c,T0,fz,hh,by simpa using hs⟩
     ·cases hv0
    subst hspot
    have hblk:o6 W.heap b=arr.toList:=by simp only [o6,hh]
    have hci:∀ i ci,i<len→W.cells? 0 ((Addr.mk b off none).add (i*t.size)) t.size=some ci→off+i*t.size+t.size≤(o6 W.heap b).length∧ci=d8 W.heap b (off+i*t.size) t.size:=by
     intro i ci hi hc
     obtain ⟨_,l1,g1⟩:=World.cells?_some hc
     have hj:∀ j,j<t.size→(o6 W.heap b)[off+i*t.size+j]?=ci[j]?:=by
      intro j hj
      have:=g1 j hj
      rw [Addr.B6,Addr.B6] at this
      simp only [World.cell?,hh] at this
      rw [hblk,← this]; simp
     have hle:off+i*t.size+t.size≤(o6 W.heap b).length:=by
      have:=hj (t.size - 1) (by omega)
      rw [List.getElem?_eq_getElem (by omega:t.size - 1<ci.length)] at this
      have:=(List.getElem?_eq_some_iff.1 this).1
      omega
     refine ⟨hle,List.ext_getElem? (fun j=>?_)⟩
     by_cases hjt:j<t.size
     ·rw [← hj j hjt]
      simp only [d8,List.getElem?_take,if_pos hjt,List.getElem?_drop]
     ·rw [List.getElem?_eq_none (by omega),List.getElem?_eq_none (by rw [a1d _ _ _ hle]; omega)]
    have hlen:off+len*t.size≤(o6 W.heap b).length:=by
     obtain ⟨ci,y,_,q1,_⟩:=hcell (len - 1) (by omega)
     have:=(hci (len - 1) ci (by omega) q1).1
     have e:len*t.size=(len - 1)*t.size+t.size:=by
      rw [← Nat.succ_mul]; congr 1; omega
     omega
    obtain ⟨l,q1,q2,q3⟩:=a7z (R:=d9 W.heap (fun b=>b<W.heap.size) t) (bk:=t.R2) (bw:=fun x:DataW X×List MemPlace=>K1 x.1) (n:=len) (sz:=t.size) (cs:=d8 W.heap b off (len*t.size)) hel (a1d _ _ _ hlen) (fun i hi=>by
     obtain ⟨ci,y,z,r1,r2,r3,r4⟩:=hcell i hi
     have hle:i*t.size+t.size≤len*t.size:=by rw [← Nat.succ_mul]; exact Nat.mul_le_mul_right _ hi
     rw [l6,l5 _ _ _ _ (by omega),← (hci i ci hi r1).2]
     exact ⟨y,z,r3,r2,r4⟩)
    have hblt:b<W.heap.size:=(Array.getElem?_eq_some_iff.1 hh).1
    subst q1
    exact ⟨l,.inr ⟨b,off,cap,[],rfl,hlc,⟨hcm,by simp⟩,hlen,q2,rfl,rfl,hblt⟩,by simp only [Ty.R2,K1,a0T]; omega⟩

end
end Go.Ex
