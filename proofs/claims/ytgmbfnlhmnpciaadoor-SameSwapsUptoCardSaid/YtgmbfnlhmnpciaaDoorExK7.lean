import Derived.Test.YtgmbfnlhmnpciaaDoorExK6

namespace Go.Ex

section
variable {E:Env} {ops:Array Oper} {B:Base} {S:Nat→Prop} {ι:Ix} {s:St} {a:Act} {w:World}

def idxs (n:Nat) (listed:Array Bool):List Nat:=(List.range n).filter fun i=>!listed.getD i true

theorem mem_idxs {n i:Nat} {listed:Array Bool}:i∈idxs n listed↔i<n∧listed.getD i true=false:=by
 simp [idxs]

theorem idxs_sorted (n:Nat) (listed:Array Bool):(idxs n listed).Pairwise (·<·):=List.Pairwise.filter _ List.pairwise_lt_range

theorem idxs_set {n i:Nat} {listed:Array Bool} (hs:listed.size=n) (hi:i<n):idxs n (listed.setIfInBounds i true)=(idxs n listed).filter (fun k=>!(k == i)):=by
 unfold idxs
 rw [List.filter_filter]
 refine List.filter_congr (fun k hk=>?_)
 by_cases e:k=i
 ·subst e
  have:k<listed.size:=by omega
  simp [this]
 ·have:(listed.setIfInBounds i true).getD k true=listed.getD k true:=getD_set_ne true (Ne.symm e)
  rw [this]
  simp [e]

theorem idxs_split {n i:Nat} {listed:Array Bool} (hi:i∈idxs n listed):∃ pre post,idxs n listed=pre++i::post∧(∀ j∈pre,j<i)∧(idxs n listed).filter (fun k=>!(k == i))=pre++post:=by
 obtain ⟨pre,post,e⟩:=List.append_of_mem hi
 have hp:=idxs_sorted n listed
 rw [e,List.pairwise_append] at hp
 obtain ⟨h1,h2,h3⟩:=hp
 have hlt:∀ j∈pre,j<i:=fun j hj=>h3 j hj i (by simp)
 have hgt:∀ j∈post,i<j:=fun j hj=>(List.pairwise_cons.1 h2).1 j hj
 refine ⟨pre,post,e,hlt,?_⟩
 rw [e,List.filter_append,List.filter_cons]
 simp only [beq_self_eq_true,Bool.not_true,Bool.false_eq_true,if_false]
 rw [List.filter_eq_self.2 (fun j hj=>by have:=hlt j hj; simp; omega),List.filter_eq_self.2 (fun j hj=>by have:=hgt j hj; simp; omega)]

theorem draw_spec (h:drawOk ops=true):∀ i o,ops[i]?=some o→(∀ e∈o.after,Region.binds .any e=true→e.on<i) ∧
  (∀ j,j<ops.size→((masksGo ops.toList []).getD i 0).testBit j=true→∃ e∈o.after,Region.binds .any e=true∧(e.on=j∨((masksGo ops.toList []).getD e.on 0).testBit j=true)) ∧
  (∀ j x,j<i→ops[j]?=some x→((masksGo ops.toList []).getD i 0).testBit j=true∨indep ops x o=true):=by
 intro i o ho
 have hi:i<ops.toList.length:=by
  have:=(Array.getElem?_eq_some_iff.1 ho).1
  simpa using this
 simp only [drawOk,List.all_eq_true,List.mem_range] at h
 have h1:=h i hi
 have hl:ops.toList[i]?=some o:=by simpa using ho
 rw [hl] at h1
 simp only [Bool.and_eq_true,List.all_eq_true,List.mem_range] at h1
 obtain ⟨⟨k1,k2⟩,k3⟩:=h1
 refine ⟨?_,?_,?_⟩
 ·intro e he hb
  simp only [depOk,List.all_eq_true] at k1
  have:=k1 e (by simpa using he)
  rw [hb] at this
  simpa [Nat.blt_eq] using this
 ·intro j hj hm
  simp only [maskOk,List.all_eq_true,List.mem_range] at k2
  have:=k2 j (by simpa using hj)
  rw [hm] at this
  simp only [Bool.not_true,Bool.false_or,List.any_eq_true,Bool.and_eq_true,Bool.or_eq_true] at this
  obtain ⟨e,he,hb,h3⟩:=this
  exact ⟨e,by simpa using he,hb,h3.imp Nat.eq_of_beq_eq_true id⟩
 ·intro j x hj hx
  have:=k3 j hj
  have hx':ops.toList[j]?=some x:=by simpa using hx
  rw [hx'] at this
  simpa using this

def ClosedL (ops:Array Oper) (listed:Array Bool):Prop:=∀ k o,ops[k]?=some o→listed.getD k true=true→∀ e∈o.after,Region.binds .any e=true→listed.getD e.on false=true

theorem getD_flip {listed:Array Bool} {k:Nat} (h:listed.getD k false=true):listed.getD k true=true:=by
 rcases Nat.lt_or_ge k listed.size with h'|h'
 ·simp [h'] at h ⊢; exact h
 ·simp [Array.getElem?_eq_none h'] at h

theorem anc_listed {M:Nat→Nat} (hM:∀ i o,ops[i]?=some o→(∀ e∈o.after,Region.binds .any e=true→e.on<i)∧(∀ j,j<ops.size→(M i).testBit j=true→∃ e∈o.after,Region.binds .any e=true∧(e.on=j∨(M e.on).testBit j=true)))
  {listed:Array Bool} (hc:ClosedL ops listed):∀ (i:Nat) (o:Oper),ops[i]?=some o→(∀ e∈o.after,Region.binds .any e=true→listed.getD e.on false=true)→∀ j,j<ops.size→(M i).testBit j=true→listed.getD j false=true:=by
 intro i
 induction i using Nat.strongRecOn with
 | _ i ih =>
  intro o ho hp j hj hm
  obtain ⟨e,he,hb,h3⟩:=(hM i o ho).2 j hj hm
  have hlt:=(hM i o ho).1 e he hb
  rcases h3 with rfl|h3
  ·exact hp e he hb
  ·have hi:i<ops.size:=(Array.getElem?_eq_some_iff.1 ho).1
   have hel:ops[e.on]?=some (ops[e.on]'(by omega)):=Array.getElem?_eq_getElem (by omega)
   exact ih e.on hlt _ hel (hc e.on _ hel (getD_flip (hp e he hb))) j hj h3

theorem drawn_sound (hE:EnvB E B) (hn:B.n=E.nt) (hd:drawOk ops=true) {Q:Exit→Act→World→Prop} {s0:St} (hQ:∀ S ι a w,RS B S ι s0 a w→Q .normal a w) :
  ∀ (fuel:Nat) (listed:Array Bool) (S:Nat→Prop) (ι:Ix) (s s':St) (a:Act) (w:World),listed.size=ops.size→(idxs ops.size listed).length=fuel→ClosedL ops listed→Apart (rem ops (idxs ops.size listed))→uniq s.fr→CleanFor s (rem ops (nl ops (idxs ops.size listed))) →
   RunsA E ops (fun i=>(masksGo ops.toList []).getD i 0) [] (idxs ops.size listed) s s'→Eqv s' s0→RS B S ι s a w→wpAny E.P .any ops Q fuel listed a w:=by
 have hM:=draw_spec hd
 have rs_eqv:∀ {S:Nat→Prop} {ι:Ix} {s t:St} {a:Act} {w:World},Eqv s t→RS B S ι s a w→RS B S ι t a w:=by
  intro S ι s t a w he h
  have hvx:∀ {v:AV} {vs:List Value},VX w.heap S ι s.hp v vs→VX w.heap S ι t.hp v vs:=by
   intro v vs hv
   exact VX.other (fun i _=>(he.2 i).symm) (fun i _=>SameAt.refl ι i) hv
  exact ⟨⟨h.hs.os,h.hs.tape,h.hs.out,h.hs.size,h.hs.frame,h.hs.slt,h.hs.s0,h.hs.s1,fun i e hi=>h.hs.ob i e ((he.2 i).trans hi),fun i e hi=>h.hs.bl i e ((he.2 i).trans hi),fun i j ei ej hi hj=>h.hs.dj i j ei ej ((he.2 i).trans hi) ((he.2 j).trans hj),fun q hq=>by obtain ⟨r1,⟨e,r2⟩,r3⟩:=h.hs.pin q hq; exact ⟨r1,⟨e,(he.2 q.1).symm.trans r2⟩,r3⟩⟩,h.dfr,h.sz,
   fun m v hv=>hvx (h.fr m v ((he.1 m).trans hv))⟩
 intro fuel
 induction fuel with
 | zero =>
  intro listed S ι s s' a w hsz hlen hcl hap hu hcf hrun he hrs
  have hnil:idxs ops.size listed=[]:=List.length_eq_zero_iff.1 hlen
  rw [hnil] at hrun
  have hss:s=s':=hrun
  subst hss
  refine ⟨?_,hQ S ι a w (rs_eqv he hrs)⟩
  rw [List.eq_nil_iff_forall_not_mem]
  intro i hi
  obtain ⟨h1,o,h2,_⟩:=mem_ready.1 hi
  have:i∈idxs ops.size listed:=mem_idxs.2 ⟨(Array.getElem?_eq_some_iff.1 h2).1,h1⟩
  rw [hnil] at this
  cases this
 | succ fuel ih =>
  intro listed S ι s s' a w hsz hlen hcl hap hu hcf hrun he hrs
  refine ⟨fun hr=>?_,fun i hi=>?_⟩
  ·exfalso
   cases hix:idxs ops.size listed with
   | nil=>rw [hix] at hlen; cases hlen
   | cons i l =>
    have hmem:i∈idxs ops.size listed:=by rw [hix]; simp
    obtain ⟨h1,h2⟩:=mem_idxs.1 hmem
    have ho:ops[i]?=some ops[i]:=Array.getElem?_eq_getElem h1
    have:i∈Region.ready .any ops listed:=by
     refine mem_ready.2 ⟨h2,ops[i],ho,fun e he hb=>?_⟩
     have hlt:=(hM i _ ho).1 e he hb
     cases hle:listed.getD e.on true with
     | true =>
      have:e.on<listed.size:=by omega
      simp [this] at hle ⊢; exact hle
     | false =>
      exfalso
      have hm2:e.on∈idxs ops.size listed:=mem_idxs.2 ⟨by omega,hle⟩
      have hs:=idxs_sorted ops.size listed
      rw [hix] at hs hm2
      rcases List.mem_cons.1 hm2 with e1|e1
      ·omega
      ·have:=(List.pairwise_cons.1 hs).1 _ e1; omega
    rw [hr] at this
    cases this
  ·obtain ⟨h1,o,ho,hpre⟩:=mem_ready.1 hi
   have hin:i<ops.size:=(Array.getElem?_eq_some_iff.1 ho).1
   have hmem:i∈idxs ops.size listed:=mem_idxs.2 ⟨hin,h1⟩
   obtain ⟨pre,post,e1,hlt,e2⟩:=idxs_split hmem
   have er:rem ops (pre++i::post)=rem ops pre++o::rem ops post:=by simp [rem,List.filterMap_append,ho]
   have er2:rem ops (pre++post)=rem ops pre++rem ops post:=by simp [rem,List.filterMap_append]
   rw [e1] at hap hcf hrun
   have hind:∀ j∈pre,((masksGo ops.toList []).getD i 0).testBit j=false∧∀ x,ops[j]?=some x→indep ops x o=true:=by
    intro j hj
    have hnm:((masksGo ops.toList []).getD i 0).testBit j=false:=by
     cases hm:((masksGo ops.toList []).getD i 0).testBit j with
     | false=>rfl
     | true =>
      exfalso
      have hjl:=anc_listed (M:=fun i=>(masksGo ops.toList []).getD i 0) (fun i o ho=>⟨(hM i o ho).1,(hM i o ho).2.1⟩) hcl i o ho hpre j (by have:=hlt j hj; omega) hm
      have:j∈idxs ops.size listed:=by rw [e1]; simp [hj]
      have:=(mem_idxs.1 this).2
      rw [getD_flip hjl] at this
      cases this
    refine ⟨hnm,fun x hx=>?_⟩
    rcases (hM i o ho).2.2 j x (hlt j hj) hx with hm|hm
    ·rw [hnm] at hm; cases hm
    ·exact hm
   have hcl0:CleanFor s (rem ops (nl ops (pre++post))):=hcf.sub (fun y hy=>by
    rw [nl_app,rem_app] at hy ⊢
    rcases List.mem_append.1 hy with hy|hy
    ·exact List.mem_append_left _ hy
    ·refine List.mem_append_right _ ?_
     obtain ⟨j,j1,j2⟩:=List.mem_filterMap.1 hy
     obtain ⟨j3,j4⟩:=List.mem_filter.1 j1
     exact List.mem_filterMap.2 ⟨j,List.mem_filter.2 ⟨List.mem_cons_of_mem _ j3,j4⟩,j2⟩)
   obtain ⟨p,s1,s2,k1,k2,k3,k4,_⟩:=bubble ho hap hind hu (hcf.sub (fun y hy=>by
    rw [nl_app,rem_app,nl_pre hin hlt (fun j hj=>(hind j hj).1)]; exact List.mem_append_left _ hy)) hrun
   rw [er] at hap
   have hset:=(idxs_set hsz hin).trans e2
   have hap2:Apart (rem ops pre++rem ops post)∧∀ x∈rem ops pre++rem ops post,∀ d,x.dst=some d→o.dst≠some d:=by
    have:∀ {A C:List Oper},Apart (A++o::C)→Apart (A++C)∧∀ x∈A++C,∀ d,x.dst=some d→o.dst≠some d:=by
     intro A
     induction A with
     | nil=>intro C h; exact ⟨h.2,fun x hx d hxd hod=>h.1 d hod x hx hxd⟩
     | cons y A ih =>
      intro C h
      obtain ⟨m1,m2⟩:=ih h.2
      refine ⟨⟨fun d hd x hx=>h.1 d hd x (by simp at hx ⊢; rcases hx with hx|hx<;>simp [hx]),m1⟩,fun x hx d hxd hod=>?_⟩
      rcases List.mem_cons.1 hx with rfl|hx
      ·exact h.1 d hxd o (by simp) hod
      ·exact m2 x hx d hxd hod
    exact this hap
   have hps:=place_sound hE hn hrs (ops:=ops) o (k:=fun x=>Tree.cut .skip [] x) (L:=fun _ _ x=>x=s1) (Rt:=fun _=>True) (pl_place.2 ⟨p,s1,k1,k2,rfl⟩)
    (next:=wpAny E.P .any ops Q fuel (listed.setIfInBounds i true)) (Q:=Q) (fun S' ι' x a' w' hx hxe=>by
     have hxe:x=s1:=hxe
     subst hxe
     refine ih (listed.setIfInBounds i true) S' ι' x s2 a' w' (by simp [hsz]) ?_ ?_ ?_ (place_uniq hu k1) ?_ ?_ (k4.trans he) hx
     ·rw [hset]; rw [e1] at hlen; simp at hlen ⊢; omega
     ·intro k y hy hk e' he' hb'
      by_cases hki:k=i
      ·subst hki
       rw [ho] at hy; cases hy
       exact getD_set_true (hpre e' he' hb')
      ·rw [getD_set_ne true (Ne.symm hki)] at hk
       exact getD_set_true (hcl k y hy hk e' he' hb')
     ·rw [hset,er2]; exact hap2.1
     ·rw [hset]
      exact CleanFor.step hu hcl0 (fun y hy=>hap2.2 y (by rw [← er2]; exact nl_sub y hy)) k1
     ·rw [hset]; exact k3)
   unfold wpOp
   rw [ho]
   simp only
   split
   ·rename_i hw; rw [if_pos hw] at hps; exact .inl hps
   ·rename_i hw; rw [if_neg hw] at hps; exact hps

theorem filterMap_some {α β:Type _} {f:α→Option β} {g:α→β}:∀ {l:List α},(∀ i∈l,f i=some (g i))→l.filterMap f=l.map g
 | [],_=>rfl
 | x::l,h=>by rw [List.filterMap_cons,h x (by simp)]; simp [filterMap_some (l:=l) (fun i hi=>h i (by simp [hi]))]

theorem rem_all:rem ops (idxs ops.size (Array.replicate ops.size false))=ops.toList:=by
 have:idxs ops.size (Array.replicate ops.size false)=List.range ops.size:=by
  unfold idxs
  refine List.filter_eq_self.2 (fun i hi=>?_)
  have:i<ops.size:=List.mem_range.1 hi
  simp [this]
 rw [this]
 unfold rem
 apply List.ext_getElem?
 intro i
 have e:(List.range ops.size).filterMap (fun i=>ops[i]?)=(List.range ops.size).map (fun i=>ops.getD i default):=filterMap_some (fun i hi=>by
  have:i<ops.size:=List.mem_range.1 hi
  simp [this])
 rw [e]
 by_cases hi:i<ops.size
 ·simp [hi]
 ·simp [hi]

theorem apart_of:∀ {l:List Oper},distinctB (dsts l)=true→Apart l
 | [],_=>trivial
 | o::l,h=>by
  cases hd:o.dst with
  | none =>
   have:dsts (o::l)=dsts l:=by simp [dsts,hd]
   rw [this] at h
   exact ⟨fun d hd'=>(by rw [hd] at hd'; cases hd'),apart_of h⟩
  | some d =>
   have:dsts (o::l)=d::dsts l:=by simp [dsts,hd]
   rw [this] at h
   simp only [distinctB,Bool.and_eq_true,Bool.not_eq_true'] at h
   refine ⟨fun d' hd' x hx hxd=>?_,apart_of h.2⟩
   rw [hd] at hd'
   cases hd'
   have:d∈dsts l:=List.mem_filterMap.2 ⟨x,hx,hxd⟩
   have h1:=h.1
   simp [this] at h1

theorem idxs_all:idxs ops.size (Array.replicate ops.size false)=List.range ops.size:=by
 unfold idxs
 refine List.filter_eq_self.2 (fun i hi=>?_)
 have:i<ops.size:=List.mem_range.1 hi
 simp [this]

theorem dsts_last {o:Oper} {l:List Nat} (ho:o∈rem ops (nl ops l)) {d:Nat} (hd:o.dst=some d):d∈dsts ops.toList.dropLast:=by
 obtain ⟨j,j1,j2⟩:=List.mem_filterMap.1 ho
 have j4:j+1<ops.size:=exempt_last (by simpa using (List.mem_filter.1 j1).2)
 refine List.mem_filterMap.2 ⟨o,List.mem_of_getElem? (i:=j) ?_,hd⟩
 rw [List.getElem?_dropLast,if_pos (by simp; omega)]
 simpa using j2

theorem drawn_region (hE:EnvB E B) (hn:B.n=E.nt) {id:Nat} (hd:(drawOk ops && entryOk ops s && E.P.follows .mixedOrders)=true) {Q:Exit→Act→World→Prop} {s':St} (hr:RunsA E ops (fun i=>(masksGo ops.toList []).getD i 0) [] (List.range' 0 ops.toList.length) s s')
  (hQ:∀ S ι a w,RS B S ι s' a w→Q .normal a w) (h:RS B S ι s a w):(Code.region id ops true).wp E.P Q a w:=by
 simp only [Bool.and_eq_true,entryOk,List.all_eq_true] at hd
 obtain ⟨⟨h1,⟨h2,h3⟩,h4⟩,h5⟩:=hd
 refine wp_region_any h5 ?_
 have hlen:(idxs ops.size (Array.replicate ops.size false)).length=ops.size:=by
  rw [idxs_all]; simp
 refine drawn_sound hE hn h1 hQ ops.size _ S ι s s' a w.drew (by simp) hlen ?_ ?_ (uniq_of h2) ?_ ?_ (Eqv.refl _) (h.turn Flt.nil Past.drew)
 ·intro k o hk hl
  have:k<ops.size:=(Array.getElem?_eq_some_iff.1 hk).1
  simp [this] at hl
 ·rw [rem_all]; exact apart_of h3
 ·intro o ho d hd
  exact h4 d (dsts_last ho hd)
 ·rw [idxs_all,List.range_eq_range']
  simpa using hr

theorem drawn_soundZ (hE:EnvB E B) (hn:B.n=E.nt) (hd:drawOk ops=true) {Q:Exit→Act→World→Prop} {s0:St} {z:Nat} {oz:Oper} (hz:ops[z]?=some oz) (hzn:z+1=ops.size) (hzm:∀ j,j<z→((masksGo ops.toList []).getD z 0).testBit j=true) (hzg:oz.guard=none)
  (hQ:∀ S ι a w,RS B S ι s0 a w→∀ (next:Act→World→Prop) (Q':Exit→Act→World→Prop),(∀ a' w',Q .normal a' w'→next a' w')→oz.wp E.P a w next Q') :
  ∀ (fuel:Nat) (listed:Array Bool) (S:Nat→Prop) (ι:Ix) (s s':St) (a:Act) (w:World),listed.size=ops.size→((idxs ops.size listed).filter (fun k=>!(k == z))).length=fuel→z∈idxs ops.size listed→ClosedL ops listed→Apart (rem ops ((idxs ops.size listed).filter (fun k=>!(k == z))))→uniq s.fr →
   CleanFor s (rem ops ((idxs ops.size listed).filter (fun k=>!(k == z)))) →
   RunsA E ops (fun i=>(masksGo ops.toList []).getD i 0) [] ((idxs ops.size listed).filter (fun k=>!(k == z))) s s'→Eqv s' s0→RS B S ι s a w→wpAny E.P .any ops Q (fuel+1) listed a w:=by
 have hM:=draw_spec hd
 have rs_eqv:∀ {S:Nat→Prop} {ι:Ix} {s t:St} {a:Act} {w:World},Eqv s t→RS B S ι s a w→RS B S ι t a w:=by
  intro S ι s t a w he h
  have hvx:∀ {v:AV} {vs:List Value},VX w.heap S ι s.hp v vs→VX w.heap S ι t.hp v vs:=by
   intro v vs hv
   exact VX.other (fun i _=>(he.2 i).symm) (fun i _=>SameAt.refl ι i) hv
  exact ⟨⟨h.hs.os,h.hs.tape,h.hs.out,h.hs.size,h.hs.frame,h.hs.slt,h.hs.s0,h.hs.s1,fun i e hi=>h.hs.ob i e ((he.2 i).trans hi),fun i e hi=>h.hs.bl i e ((he.2 i).trans hi),fun i j ei ej hi hj=>h.hs.dj i j ei ej ((he.2 i).trans hi) ((he.2 j).trans hj),fun q hq=>by obtain ⟨r1,⟨e,r2⟩,r3⟩:=h.hs.pin q hq; exact ⟨r1,⟨e,(he.2 q.1).symm.trans r2⟩,r3⟩⟩,h.dfr,h.sz,
   fun m v hv=>hvx (h.fr m v ((he.1 m).trans hv))⟩
 -- what is not listed, ahead of all others that are not, may come up
 have first:∀ {listed:Array Bool} {i:Nat} {l:List Nat},listed.size=ops.size→idxs ops.size listed=i::l→i∈Region.ready .any ops listed:=by
  intro listed i l hsz hix
  have hmem:i∈idxs ops.size listed:=by rw [hix]; simp
  obtain ⟨h1,h2⟩:=mem_idxs.1 hmem
  have ho:ops[i]?=some ops[i]:=Array.getElem?_eq_getElem h1
  refine mem_ready.2 ⟨h2,ops[i],ho,fun e he hb=>?_⟩
  have hlt:=(hM i _ ho).1 e he hb
  cases hle:listed.getD e.on true with
  | true =>
   have:e.on<listed.size:=by omega
   simp [this] at hle ⊢; exact hle
  | false =>
   exfalso
   have hm2:e.on∈idxs ops.size listed:=mem_idxs.2 ⟨by omega,hle⟩
   have hs:=idxs_sorted ops.size listed
   rw [hix] at hs hm2
   rcases List.mem_cons.1 hm2 with e1|e1
   ·omega
   ·have:=(List.pairwise_cons.1 hs).1 _ e1; omega
 intro fuel
 induction fuel with
 | zero =>
  intro listed S ι s s' a w hsz hlen hzi hcl hap hu hcf hrun he hrs
  have hnil:=List.length_eq_zero_iff.1 hlen
  rw [hnil] at hrun
  have hss:s=s':=hrun
  subst hss
  have hix:idxs ops.size listed=[z]:=by
   have hall:∀ k∈idxs ops.size listed,k=z:=by
    intro k hk
    refine Decidable.by_contra (fun hne=>?_)
    have:k∈(idxs ops.size listed).filter (fun k=>!(k == z)):=List.mem_filter.2 ⟨hk,by simpa using hne⟩
    rw [hnil] at this; cases this
   have hs:=idxs_sorted ops.size listed
   cases hq:idxs ops.size listed with
   | nil=>rw [hq] at hzi; cases hzi
   | cons i l =>
    rw [hq] at hall hs
    obtain rfl:i=z:=hall i (by simp)
    cases l with
    | nil=>rfl
    | cons j l =>
     have h1:=hall j (by simp)
     have h2:=(List.pairwise_cons.1 hs).1 j (by simp)
     omega
  refine ⟨fun hr=>?_,fun i hi=>?_⟩
  ·exfalso
   have:=first hsz hix
   rw [hr] at this; cases this
  ·obtain ⟨h1,o,ho,hpre⟩:=mem_ready.1 hi
   have:i∈idxs ops.size listed:=mem_idxs.2 ⟨(Array.getElem?_eq_some_iff.1 ho).1,h1⟩
   rw [hix] at this
   obtain rfl:i=z:=by simpa using this
   unfold wpOp
   rw [hz]
   simp only [Region.wanted,hzg,if_true]
   refine .inl (hQ S ι a w (rs_eqv he hrs) _ _ (fun a' w' hq=>⟨?_,hq⟩))
   rw [List.eq_nil_iff_forall_not_mem]
   intro k hk
   obtain ⟨g1,o2,g2,_⟩:=mem_ready.1 hk
   have hk2:k∈idxs ops.size (listed.setIfInBounds i true):=mem_idxs.2 ⟨(Array.getElem?_eq_some_iff.1 g2).1,g1⟩
   rw [idxs_set hsz (by omega),hix] at hk2
   simp at hk2
 | succ fuel ih =>
  intro listed S ι s s' a w hsz hlen hzi hcl hap hu hcf hrun he hrs
  refine ⟨fun hr=>?_,fun i hi=>?_⟩
  ·exfalso
   cases hix:idxs ops.size listed with
   | nil=>rw [hix] at hzi; cases hzi
   | cons i l =>
    have:=first hsz hix
    rw [hr] at this
    cases this
  ·obtain ⟨h1,o,ho,hpre⟩:=mem_ready.1 hi
   have hin:i<ops.size:=(Array.getElem?_eq_some_iff.1 ho).1
   have hmem:i∈idxs ops.size listed:=mem_idxs.2 ⟨hin,h1⟩
   have hiz:i≠z:=by
    rintro rfl
    -- all others are listed
    have:(idxs ops.size listed).filter (fun k=>!(k == i))=[]:=by
     rw [List.eq_nil_iff_forall_not_mem]
     intro k hk
     obtain ⟨k1,k2⟩:=List.mem_filter.1 hk
     obtain ⟨k3,k4⟩:=mem_idxs.1 k1
     have k2:k≠i:=by simpa using k2
     have:=anc_listed (M:=fun i=>(masksGo ops.toList []).getD i 0) (fun i o ho=>⟨(hM i o ho).1,(hM i o ho).2.1⟩) hcl i o ho hpre k k3 (hzm k (by omega))
     rw [getD_flip this] at k4; cases k4
    rw [this] at hlen; cases hlen
   obtain ⟨pre,post,e1,hlt,e2⟩:=idxs_split hmem
   have hprez:pre.filter (fun k=>!(k == z))=pre:=List.filter_eq_self.2 (fun j hj=>by have:=hlt j hj; simp; omega)
   have eL:(idxs ops.size listed).filter (fun k=>!(k == z))=pre++i::post.filter (fun k=>!(k == z)):=by
    rw [e1,List.filter_append,hprez,List.filter_cons]
    simp [hiz]
   have eL2:((idxs ops.size listed).filter (fun k=>!(k == i))).filter (fun k=>!(k == z))=pre++post.filter (fun k=>!(k == z)):=by
    rw [e2,List.filter_append,hprez]
   generalize hpost:post.filter (fun k=>!(k == z))=post' at *
   have er:rem ops (pre++i::post')=rem ops pre++o::rem ops post':=by simp [rem,List.filterMap_append,ho]
   have er2:rem ops (pre++post')=rem ops pre++rem ops post':=by simp [rem,List.filterMap_append]
   rw [eL] at hap hcf hrun hlen
   have hind:∀ j∈pre,((masksGo ops.toList []).getD i 0).testBit j=false∧∀ x,ops[j]?=some x→indep ops x o=true:=by
    intro j hj
    have hnm:((masksGo ops.toList []).getD i 0).testBit j=false:=by
     cases hm:((masksGo ops.toList []).getD i 0).testBit j with
     | false=>rfl
     | true =>
      exfalso
      have hjl:=anc_listed (M:=fun i=>(masksGo ops.toList []).getD i 0) (fun i o ho=>⟨(hM i o ho).1,(hM i o ho).2.1⟩) hcl i o ho hpre j (by have:=hlt j hj; omega) hm
      have:j∈idxs ops.size listed:=by rw [e1]; simp [hj]
      have:=(mem_idxs.1 this).2
      rw [getD_flip hjl] at this
      cases this
    refine ⟨hnm,fun x hx=>?_⟩
    rcases (hM i o ho).2.2 j x (hlt j hj) hx with hm|hm
    ·rw [hnm] at hm; cases hm
    ·exact hm
   have hcl0:CleanFor s (rem ops (pre++post')):=hcf.sub (fun y hy=>by
    rw [er]; rw [er2] at hy
    rcases List.mem_append.1 hy with hy|hy
    ·exact List.mem_append_left _ hy
    ·exact List.mem_append_right _ (List.mem_cons_of_mem _ hy))
   obtain ⟨p,s1,s2,k1,k2,k3,k4,_⟩:=bubble ho hap hind hu (hcf.sub (fun y hy=>by
    rw [er]; exact List.mem_append_left _ hy)) hrun
   rw [er] at hap
   have hset:(idxs ops.size (listed.setIfInBounds i true)).filter (fun k=>!(k == z))=pre++post':=by rw [idxs_set hsz hin]; exact eL2
   have hap2:Apart (rem ops pre++rem ops post')∧∀ x∈rem ops pre++rem ops post',∀ d,x.dst=some d→o.dst≠some d:=by
    have:∀ {A C:List Oper},Apart (A++o::C)→Apart (A++C)∧∀ x∈A++C,∀ d,x.dst=some d→o.dst≠some d:=by
     intro A
     induction A with
     | nil=>intro C h; exact ⟨h.2,fun x hx d hxd hod=>h.1 d hod x hx hxd⟩
     | cons y A ih =>
      intro C h
      obtain ⟨m1,m2⟩:=ih h.2
      refine ⟨⟨fun d hd x hx=>h.1 d hd x (by simp at hx ⊢; rcases hx with hx|hx<;>simp [hx]),m1⟩,fun x hx d hxd hod=>?_⟩
      rcases List.mem_cons.1 hx with rfl|hx
      ·exact h.1 d hxd o (by simp) hod
      ·exact m2 x hx d hxd hod
    exact this hap
   have hps:=place_sound hE hn hrs (ops:=ops) o (k:=fun x=>Tree.cut .skip [] x) (L:=fun _ _ x=>x=s1) (Rt:=fun _=>True) (pl_place.2 ⟨p,s1,k1,k2,rfl⟩)
    (next:=wpAny E.P .any ops Q (fuel+1) (listed.setIfInBounds i true)) (Q:=Q) (fun S' ι' x a' w' hx hxe=>by
     have hxe:x=s1:=hxe
     subst hxe
     refine ih (listed.setIfInBounds i true) S' ι' x s2 a' w' (by simp [hsz]) ?_ ?_ ?_ ?_ (place_uniq hu k1) ?_ ?_ (k4.trans he) hx
     ·rw [hset]; simp at hlen ⊢; omega
     ·rw [idxs_set hsz hin]; exact List.mem_filter.2 ⟨hzi,by simpa using Ne.symm hiz⟩
     ·intro k y hy hk e' he' hb'
      by_cases hki:k=i
      ·subst hki
       rw [ho] at hy; cases hy
       exact getD_set_true (hpre e' he' hb')
      ·rw [getD_set_ne true (Ne.symm hki)] at hk
       exact getD_set_true (hcl k y hy hk e' he' hb')
     ·rw [hset,er2]; exact hap2.1
     ·rw [hset]
      exact CleanFor.step hu hcl0 (fun y hy=>hap2.2 y (by rw [← er2]; exact hy)) k1
     ·rw [hset]; exact k3)
   unfold wpOp
   rw [ho]
   simp only
   split
   ·rename_i hw; rw [if_pos hw] at hps; exact .inl hps
   ·rename_i hw; rw [if_neg hw] at hps; exact hps

theorem range_init {n:Nat} (h:0<n):(List.range n).filter (fun k=>!(k == n - 1))=List.range (n - 1):=by
 obtain ⟨m,rfl⟩:∃ m,n=m+1:=⟨n - 1,by omega⟩
 rw [List.range_succ,List.filter_append,List.filter_eq_self.2 (fun j hj=>by have:=List.mem_range.1 hj; simp; omega)]
 simp

theorem drawnZ_region (hE:EnvB E B) (hn:B.n=E.nt) {id:Nat} (hd:(drawOk ops && entryOk ops s && E.P.follows .mixedOrders)=true) {Q:Exit→Act→World→Prop} {s':St} {oz:Oper} (hz:ops[ops.size - 1]?=some oz) (hzm:∀ j,j<ops.size - 1→((masksGo ops.toList []).getD (ops.size - 1) 0).testBit j=true) (hzg:oz.guard=none)
  (hr:RunsA E ops (fun i=>(masksGo ops.toList []).getD i 0) [] (List.range' 0 (ops.toList.length - 1)) s s')
  (hQ:∀ S ι a w,RS B S ι s' a w→∀ (next:Act→World→Prop) (Q':Exit→Act→World→Prop),(∀ a' w',Q .normal a' w'→next a' w')→oz.wp E.P a w next Q') (h:RS B S ι s a w):(Code.region id ops true).wp E.P Q a w:=by
 simp only [Bool.and_eq_true,entryOk,List.all_eq_true] at hd
 obtain ⟨⟨h1,⟨h2,h3⟩,h4⟩,h5⟩:=hd
 refine wp_region_any h5 ?_
 have hpos:0<ops.size:=by have:=(Array.getElem?_eq_some_iff.1 hz).1; omega
 have hf:(idxs ops.size (Array.replicate ops.size false)).filter (fun k=>!(k == ops.size - 1))=List.range (ops.size - 1):=by
  rw [idxs_all,range_init hpos]
 have hsz:ops.size=(ops.size - 1)+1:=by omega
 have:=drawn_soundZ hE hn h1 (Q:=Q) (s0:=s') hz (by omega) hzm hzg hQ (ops.size - 1) (Array.replicate ops.size false) S ι s s' a w.drew (by simp) (by rw [hf]; simp) (by rw [idxs_all]; simp; omega) ?_ ?_ (uniq_of h2) ?_ ?_ (Eqv.refl _) (h.turn Flt.nil Past.drew)
 ·rw [← hsz] at this; exact this
 ·intro k o hk hl
  have:k<ops.size:=(Array.getElem?_eq_some_iff.1 hk).1
  simp [this] at hl
 ·rw [hf]
  have h9:=apart_of h3
  rw [← rem_all,idxs_all] at h9
  have:∀ {A C:List Oper},Apart (A++C)→Apart A:=by
   intro A
   induction A with
   | nil=>intro C _; trivial
   | cons y A ih=>intro C h; exact ⟨fun d hd x hx=>h.1 d hd x (by simp [hx]),ih h.2⟩
  have e:List.range ops.size=List.range (ops.size - 1)++[ops.size - 1]:=by
   conv=>lhs; rw [hsz,List.range_succ]
  rw [e,rem_app] at h9
  exact this h9
 ·rw [hf]
  intro o ho d hd
  obtain ⟨j,j1,j2⟩:=List.mem_filterMap.1 ho
  have j4:=List.mem_range.1 j1
  refine h4 d (List.mem_filterMap.2 ⟨o,List.mem_of_getElem? (i:=j) ?_,hd⟩)
  rw [List.getElem?_dropLast,if_pos (by simp; omega)]
  simpa using j2
 ·rw [hf,List.range_eq_range']
  simpa using hr

theorem regZ_runs {M:List Nat} {k:St→Tree (E.rs++wts E.ps)} {L:Code→List Item→St→Prop} {R:DL (E.rs++wts E.ps)→Prop}:∀ {l:List Oper} {n:Nat} {s:St} {acc:List Met} {acc':List (Nat×St)},ops.toList.drop n=l →
  (∀ e∈acc',∃ m∈acc,m.i=e.1∧ops[e.1]?=some m.o∧m.s=e.2∧m.T=takes E m.o e.2)→(regZ E ops M n l s acc k).holds L R →
  ∃ s' oz p s2,RunsA E ops (fun i=>M.getD i 0) acc' (List.range' n (l.length - 1)) s s'∧ops[ops.size - 1]?=some oz∧(∀ j,j<ops.size - 1→(M.getD (ops.size - 1) 0).testBit j=true)∧linkA E oz s'=some (p,s2)∧p∧(k s2).holds L R
 | [],n,s,acc,acc',_,_,h=>h.elim
 | [o],n,s,acc,acc',hl,ha,h=>by
  obtain ⟨h1,h2,h3⟩:=drop_here hl
  simp only [regZ] at h
  have e:ops.size - 1=n:=by simp at h3; omega
  split at h
  ·rename_i p s2 hm hf
   refine ⟨s,o,p,s2,rfl,by rw [e]; exact h1,fun j hj=>?_,hf,h.1,h.2 h.1⟩
   rw [e] at hj ⊢
   simp only [List.all_eq_true,List.mem_range] at hm
   exact hm j hj
  ·exact h.elim
 | o::o2::l,n,s,acc,acc',hl,ha,h=>by
  obtain ⟨ho,hl',_⟩:=drop_here hl
  simp only [regZ] at h
  split at h
  ·exact h.elim
  ·rename_i hall
   obtain ⟨p,s1,h1,h2,h3⟩:=pl_place.1 h
   obtain ⟨s',oz,p',s2,k1,k2⟩:=regZ_runs (acc':=(n,s)::acc') hl' (fun e he=>by
    rcases List.mem_cons.1 he with rfl|he
    ·exact ⟨_,List.mem_cons_self ..,rfl,ho,rfl,rfl⟩
    ·obtain ⟨m,hm,r⟩:=ha e he; exact ⟨m,List.mem_cons_of_mem _ hm,r⟩) h3
   refine ⟨s',oz,p',s2,⟨o,ho,fun e he=>?_,p,s1,h1,h2,k1⟩,k2⟩
   obtain ⟨m,hm,m1,m2,m3,m4⟩:=ha e he
   have:=(List.all_eq_true.1 hall) m hm
   simp only [Bool.or_eq_true] at this
   rcases this with this|this
   ·exact .inl (by rw [← m1]; exact this)
   ·have hp:=pair_of this
    rw [m3,m4] at hp
    exact .inr ⟨m.o,m2,hp⟩

theorem drawnN_region (hE:EnvB E B) (hn:B.n=E.nt) {id:Nat} (hd:(drawOk ops && entryOk2 ops s && E.P.follows .mixedOrders)=true) {Q:Exit→Act→World→Prop} {s':St} (hr:RunsA E ops (fun i=>(masksGo ops.toList []).getD i 0) [] (List.range' 0 ops.toList.length) s s')
  (hQ:∀ S ι a w,RS B S ι s' a w→Q .normal a w) (h:RS B S ι s a w):(Code.region id ops true).wp E.P Q a w:=by
 simp only [Bool.and_eq_true,entryOk2,List.all_eq_true,List.mem_range] at hd
 obtain ⟨⟨h1,⟨h2,h3⟩,h4⟩,h5⟩:=hd
 refine wp_region_any h5 ?_
 have hlen:(idxs ops.size (Array.replicate ops.size false)).length=ops.size:=by
  rw [idxs_all]; simp
 refine drawn_sound hE hn h1 hQ ops.size _ S ι s s' a w.drew (by simp) hlen ?_ ?_ (uniq_of h2) ?_ ?_ (Eqv.refl _) (h.turn Flt.nil Past.drew)
 ·intro k o hk hl
  have:k<ops.size:=(Array.getElem?_eq_some_iff.1 hk).1
  simp [this] at hl
 ·rw [rem_all]; exact apart_of h3
 ·intro o ho d hd
  obtain ⟨j,j1,j2⟩:=List.mem_filterMap.1 ho
  have j3:=(List.mem_filter.1 j1).2
  have hj:j<ops.size:=(Array.getElem?_eq_some_iff.1 j2).1
  have:=h4 j hj
  simp only [Bool.not_eq_true'] at j3
  simp only [j2,hd,j3,Bool.false_or] at this
  exact this
 ·rw [idxs_all,List.range_eq_range']
  simpa using hr

theorem regN_runs {M:List Nat} {k:St→Tree (E.rs++wts E.ps)} {L:Code→List Item→St→Prop} {R:DL (E.rs++wts E.ps)→Prop}:∀ {l:List Oper} {n:Nat} {s:St} {acc:List Met} {acc':List (Nat×St)},ops.toList.drop n=l →
  (∀ e∈acc',∃ m∈acc,m.i=e.1∧ops[e.1]?=some m.o∧m.s=e.2∧m.T=takes E m.o e.2)→(regN E ops M n l s acc k).holds L R →
  ∃ s',RunsA E ops (fun i=>M.getD i 0) acc' (List.range' n l.length) s s'∧(k s').holds L R
 | [],n,s,acc,acc',_,_,h=>⟨s,rfl,h⟩
 | o::l,n,s,acc,acc',hl,ha,h=>by
  obtain ⟨ho,hl',_⟩:=drop_here hl
  simp only [regN] at h
  split at h
  ·exact h.elim
  ·rename_i hall
   obtain ⟨p,s1,h1,h2,h3⟩:=pl_place.1 h
   obtain ⟨s',k1,k2⟩:=regN_runs (acc':=(n,s)::acc') hl' (fun e he=>by
    rcases List.mem_cons.1 he with rfl|he
    ·exact ⟨_,List.mem_cons_self ..,rfl,ho,rfl,rfl⟩
    ·obtain ⟨m,hm,r⟩:=ha e he; exact ⟨m,List.mem_cons_of_mem _ hm,r⟩) h3
   refine ⟨s',⟨o,ho,fun e he=>?_,p,s1,h1,h2,k1⟩,k2⟩
   obtain ⟨m,hm,m1,m2,m3,m4⟩:=ha e he
   have:=(List.all_eq_true.1 hall) m hm
   simp only [Bool.or_eq_true] at this
   rcases this with this|this
   ·exact .inl (by rw [← m1]; exact this)
   ·have hp:=pair_of this
    rw [m3,m4] at hp
    exact .inr ⟨m.o,m2,hp⟩

end
end Go.Ex

namespace Go.Ex

section
variable {E:Env} {ops:Array Oper} {B:Base} {S:Nat→Prop} {ι:Ix} {s:St} {a:Act} {w:World}

theorem rs_eqv {s t:St} (he:Eqv s t) (h:RS B S ι s a w):RS B S ι t a w:=by
 have hvx:∀ {v:AV} {vs:List Value},VX w.heap S ι s.hp v vs→VX w.heap S ι t.hp v vs:=by
  intro v vs hv
  exact VX.other (fun i _=>(he.2 i).symm) (fun i _=>SameAt.refl ι i) hv
 exact ⟨⟨h.hs.os,h.hs.tape,h.hs.out,h.hs.size,h.hs.frame,h.hs.slt,h.hs.s0,h.hs.s1,fun i e hi=>h.hs.ob i e ((he.2 i).trans hi),fun i e hi=>h.hs.bl i e ((he.2 i).trans hi),fun i j ei ej hi hj=>h.hs.dj i j ei ej ((he.2 i).trans hi) ((he.2 j).trans hj),fun q hq=>by obtain ⟨r1,⟨e,r2⟩,r3⟩:=h.hs.pin q hq; exact ⟨r1,⟨e,(he.2 q.1).symm.trans r2⟩,r3⟩⟩,h.dfr,h.sz,
  fun m v hv=>hvx (h.fr m v ((he.1 m).trans hv))⟩

theorem RS.forget (h:RS B S ι s a w) (d:Nat):RS B S ι { s with fr:=Ex.put d .any s.fr } a w:=by
 refine ⟨h.hs,h.dfr,h.sz,fun t v hv=>?_⟩
 rw [look_put] at hv
 split at hv
 ·cases hv; exact ⟨_,rfl⟩
 ·exact h.fr t v hv

theorem RS.forgetA:∀ {l:List Oper} {s:St},RS B S ι s a w→RS B S ι (Ex.forgetA l s) a w
 | [],s,h=>h
 | o::l,s,h=>by
  unfold Ex.forgetA
  split
  ·split
   ·exact RS.forgetA (h.forget _)
   ·exact RS.forgetA h
  ·exact RS.forgetA h

theorem look_forgetA {m:Nat}:∀ {l:List Oper} {s:St},look m (Ex.forgetA l s).fr=look m s.fr∨look m (Ex.forgetA l s).fr=some .any
 | [],s=>.inl rfl
 | o::l,s=>by
  unfold Ex.forgetA
  split
  ·split
   ·rename_i d _ _
    rcases look_forgetA (m:=m) (l:=l) (s:={ s with fr:=Ex.put d .any s.fr }) with h|h
    ·rw [look_put] at h
     split at h
     ·exact .inr h
     ·exact .inl h
    ·exact .inr h
   ·exact look_forgetA
  ·exact look_forgetA

theorem forgetA_any {o:Oper} {c:Call} {d:Nat} (hop:o.op=.call c) (hc:c.callee=.builtin .append) (hd:o.dst=some d):∀ {l:List Oper} {s:St},o∈l→look d (Ex.forgetA l s).fr=some .any
 | [],_,h=>by cases h
 | x::l,s,h=>by
  unfold Ex.forgetA
  rcases List.mem_cons.1 h with rfl|h
  ·rw [hop]
   simp only [hc,hd]
   rcases look_forgetA (m:=d) (l:=l) (s:={ s with fr:=Ex.put d .any s.fr }) with h|h
   ·rw [h,look_put,if_pos rfl]
   ·exact h
  ·split
   ·split
    ·exact forgetA_any hop hc hd h
    ·exact forgetA_any hop hc hd h
   ·exact forgetA_any hop hc hd h

/-! ### what is quiet -/
theorem load_pure (hE:EnvB E B) (h:RS B S ι s a w) {o:Oper} {T:TypeId} {x:Operand} (ho:o.op=.load T x) {v:AV} {s':St} (hl:loadA E T (s.ev x) s=.ok v s') :
  s'=s∧∃ val,(execOp a.eval o).run E.P w=.ok (.value val) w∧VX w.heap S ι s.hp v [val]:=by
 have he:execOp a.eval o=(do pure (.value (← Instr.loadAt T (a.eval x)))):=by simp [execOp,ho]
 have hv:=h.ev x
 unfold loadA at hl
 split at hl
 ·rename_i t y hx
  rw [hx] at hv
  obtain ⟨b,off,e,hb,hr,hR⟩:=hv
  split at hl
  ·rename_i hc
   cases hl
   have e:a.eval x=.pointer (some ⟨b,off,none⟩):=by simpa using e
   refine ⟨rfl,toV t (cellsAt w.heap b off t.size),exec_value he (w':=w) ?_,_,rfl,hR⟩
   rw [e]
   simp [Instr.loadAt,Instr.sureAddr,run_loadVar (chk_ok hE hc) hR]
  ·cases hl
 ·rename_i l hx
  rw [hx] at hv
  split at hl
  ·rename_i ht
   cases hl
   obtain ⟨val,k1,k2⟩:=load_bx (hE:=hE) ht hv
   exact ⟨rfl,val,exec_value he k1,k2⟩
  ·cases hl
 ·rename_i i p hx
  rw [hx] at hv
  obtain ⟨e,b,off,h1,h2,h3,h4⟩:=hv
  have h4:a.eval x=.pointer (some ⟨b,off,none⟩):=by simpa using h4
  split at hl
  ·rename_i u y hpt
   have hg:=part_of h1 hpt
   obtain ⟨O2,k1,k2,k3,k4,k5⟩:=Loc_mem (Loc_bag h3) (h.hs.ob i e h1) h.hs.slt h2 hg h3
   split at hl
   ·rename_i hc
    have hr:(Instr.loadAt T (a.eval x)).run E.P w=.ok (toV u (cellsAt w.heap b off u.size)) w:=by
     rw [h4]; simp [Instr.loadAt,Instr.sureAddr,run_loadVar (chk_ok hE hc) k3]
    split at hl
    ·rename_i hs
     cases hl
     have:=k3.nilO hs
     subst this
     exact ⟨rfl,_,exec_value he hr,_,rfl,k3⟩
    ·cases hl
     have hp:=Loc_place h3
     exact ⟨rfl,_,exec_value he hr,e,u,y,_,h1,h2,hg,⟨b,off,hp.1,(cellsAt_congr (VH_old hp.2) _ _).symm⟩,rfl⟩
   ·cases hl
  ·cases hl
 ·cases hl

theorem quiet_run (hE:EnvB E B) (h:RS B S ι s a w) {o:Oper} (hq:quiet o=true) {p:Prop} {s1:St} (hr:placeR E ops o s=some (p,s1)) (hp:p) :
  o.guard=none∧dstOk E.nt o.dst=true∧∃ v val,s1=s.put o.dst v∧(execOp a.eval o).run E.P w=.ok (.value val) w∧VX w.heap S ι s.hp v [val]:=by
 simp only [quiet,Bool.and_eq_true,Option.isNone_iff_eq_none] at hq
 obtain ⟨hg,hq⟩:=hq
 unfold placeR at hr
 rw [hg] at hr
 simp only at hr
 unfold runR at hr
 split at hr
 ·cases hr
 ·rename_i hd
  refine ⟨hg,hd,?_⟩
  have key:∀ (r:OR),(match r.get with|none=>none|some (p,v,s')=>some (p,s'.put o.dst v))=some (p,s1)→ORpure E.P S ι o a w s r→∃ v val,s1=s.put o.dst v∧(execOp a.eval o).run E.P w=.ok (.value val) w∧VX w.heap S ι s.hp v [val]:=by
   intro r hr hpr
   cases r with
   | fail why=>cases hr
   | ok v s' =>
    simp only [OR.get,Option.some.injEq,Prod.mk.injEq] at hr
    obtain ⟨e1,val,k1,k2⟩:=hpr
    exact ⟨v,val,by rw [← hr.2,e1],k1 w,k2⟩
   | okN p' v s' =>
    simp only [OR.get,Option.some.injEq,Prod.mk.injEq] at hr
    obtain ⟨e1,val,k1,k2⟩:=hpr (by rw [hr.1]; exact hp)
    exact ⟨v,val,by rw [← hr.2,e1],k1 w,k2⟩
  split at hq
  ·rename_i x ho
   rw [ho] at hr
   simp only [aop,ho,OR.get,Option.some.injEq,Prod.mk.injEq] at hr
   exact ⟨s.ev x,a.eval x,hr.2.symm,by simp [execOp,ho],h.ev x⟩
  ·rename_i T x ho
   rw [ho] at hr
   simp only [aop,ho] at hr
   cases hl:loadA E T (s.ev x) s with
   | fail y=>rw [hl] at hr; cases hr
   | ok v s' =>
    rw [hl] at hr
    simp only [OR.get,Option.some.injEq,Prod.mk.injEq] at hr
    obtain ⟨e1,val,k1,k2⟩:=load_pure hE h ho hl
    exact ⟨v,val,by rw [← hr.2,e1],k1,k2⟩
   | okN p' v s' =>
    exfalso
    unfold loadA at hl
    repeat' split at hl
    all_goals cases hl
  ·rename_i T x n ho
   have:=addr_pure hE h (o:=o) (by rw [ho]; rfl)
   rw [ho] at hr
   exact key _ hr this
  ·rename_i T x n ho
   have:=addr_pure hE h (o:=o) (by rw [ho]; rfl)
   rw [ho] at hr
   exact key _ hr this
  ·rename_i x ho
   have:=addr_pure hE h (o:=o) (by rw [ho]; rfl)
   rw [ho] at hr
   exact key _ hr this
  ·cases hq

theorem quiet_abs {o:Oper} (hq:quiet o=true) {p:Prop} {s1:St} (hr:placeR E ops o s=some (p,s1)):∃ v,s1=s.put o.dst v:=by
 simp only [quiet,Bool.and_eq_true,Option.isNone_iff_eq_none] at hq
 obtain ⟨hg,hq⟩:=hq
 unfold placeR at hr
 rw [hg] at hr
 simp only at hr
 unfold runR at hr
 split at hr
 ·cases hr
 ·rename_i hd
  have key:∀ (r:OR) (t:St),(∀ v s',r=.ok v s'→s'=s)→(∀ p v s',r=.okN p v s'→s'=s)→(match r.get with|none=>none|some (p,v,s')=>some (p,s'.put o.dst v))=some (p,s1)→∃ v,s1=s.put o.dst v:=by
   intro r t h1 h2 hr
   cases r with
   | fail why=>cases hr
   | ok v s' =>
    simp only [OR.get,Option.some.injEq,Prod.mk.injEq] at hr
    exact ⟨v,by rw [← hr.2,h1 v s' rfl]⟩
   | okN p' v s' =>
    simp only [OR.get,Option.some.injEq,Prod.mk.injEq] at hr
    exact ⟨v,by rw [← hr.2,h2 p' v s' rfl]⟩
  split at hq
  ·rename_i x ho
   rw [ho] at hr
   refine key _ s ?_ ?_ hr<;>(intros; simp_all [aop])
  ·rename_i T x ho
   rw [ho] at hr
   refine key _ s ?_ ?_ hr
   ·intro v s' e
    simp only [aop,ho] at e
    unfold loadA at e
    repeat' split at e
    all_goals (cases e; try rfl)
   ·intro q v s' e
    simp only [aop,ho] at e
    unfold loadA at e
    repeat' split at e
    all_goals (cases e; try rfl)
  ·rename_i T x n ho
   rw [ho] at hr
   refine key _ s ?_ ?_ hr
   ·intro v s' e
    simp only [aop,ho] at e
    repeat' split at e
    all_goals (cases e; try rfl)
   ·intro q v s' e
    simp only [aop,ho] at e
    repeat' split at e
    all_goals (cases e; try rfl)
  ·rename_i T x n ho
   rw [ho] at hr
   refine key _ s ?_ ?_ hr
   ·intro v s' e
    simp only [aop,ho] at e
    repeat' split at e
    all_goals (cases e; try rfl)
   ·intro q v s' e
    simp only [aop,ho] at e
    repeat' split at e
    all_goals (cases e; try rfl)
  ·rename_i x ho
   rw [ho] at hr
   refine key _ s ?_ ?_ hr
   ·intro v s' e
    simp only [aop,ho] at e
    repeat' split at e
    all_goals (cases e; try rfl)
   ·intro q v s' e
    simp only [aop,ho] at e
    repeat' split at e
    all_goals (cases e; try rfl)
  ·cases hq

/-! ### a store of a plain value between an append and its own store -/
theorem val_run {o:Oper} (hg:o.guard=none) {T:TypeId} {a x:Operand} (ho:o.op=.store T a x) {j:Nat} {q:List Step} {v:Ty} {z:v.den} (ha:s.ev a=.ptr j q) (hx:s.ev x=.val v z) {p:Prop} {s1:St} (h:placeR E ops o s=some (p,s1)) :
  ∃ (e:Ent) (r:Sigma Ty.den),dstOk E.nt o.dst=true∧look j s.hp=some e∧setP e.ty e.x q v z=some r∧(∃ u y,getP e.ty e.x q=some ⟨u,y⟩∧chk E T u=true)∧s1=((s.kill j e.kd q).putE j (e.upd r)).put o.dst (.raw undef):=by
 have hr:∀ t,placeR E ops o t=runR E o t:=fun t=>by unfold placeR; rw [hg]
 rw [hr] at h
 have hop:∀ t,aop E o t=(match t.ev a with|.ptr i p=>storeA E T i p (t.ev x) t|_=>.fail "store"):=fun t=>by unfold aop; rw [ho]; rfl
 have hrun:∀ t,runR E o t=(match dstOk E.nt o.dst with|false=>none|true=>match (aop E o t).get with|none=>none|some (p,v,s')=>some (p,s'.put o.dst v)):=fun t=>by unfold runR; rw [ho]; rfl
 rw [hrun] at h
 split at h
 ·cases h
 ·rename_i hd
  rw [hop,ha] at h
  simp only at h
  rw [hx] at h
  cases hob:look j s.hp with
  | none =>
   have:storeA E T j q (.val v z) s=.fail "store: object":=by unfold storeA St.obj; rw [hob]
   rw [this] at h; cases h
  | some e =>
   cases hgp:getP e.ty e.x q with
   | none =>
    have:storeA E T j q (.val v z) s=.fail "store: path":=by unfold storeA St.obj; rw [hob]; simp only [hgp]
    rw [this] at h; cases h
   | some uy =>
    obtain ⟨u,y⟩:=uy
    cases hc:chk E T u with
    | false =>
     have:storeA E T j q (.val v z) s=.fail "store: type":=by unfold storeA St.obj; rw [hob]; simp only [hgp,hc]
     rw [this] at h; cases h
    | true =>
     have hsA:storeA E T j q (.val v z) s=(match setP e.ty e.x q v z with
       | some r=>.ok (.raw undef) ((s.kill j e.kd q).putE j (e.upd r))
       | none=>.fail "store: value"):=by
      unfold storeA St.obj; rw [hob]; simp only [hgp,hc,AV.giveV,AV.give,St.drops]
      cases setP e.ty e.x q v z with
      | none=>rfl
      | some r=>rfl
     rw [hsA] at h
     cases hset:setP e.ty e.x q v z with
     | none=>rw [hset] at h; cases h
     | some r =>
      rw [hset] at h
      simp only [OR.get,Option.some.injEq,Prod.mk.injEq] at h
      obtain ⟨rfl,rfl⟩:=h
      exact ⟨e,r,hd,rfl,hset,⟨u,y,hgp,hc⟩,rfl⟩

theorem late_run (hE:EnvB E B) (hn:B.n=E.nt) (h:RS B S ι s a w) {o:Oper} (hg:o.guard=none) {T:TypeId} {ad x:Operand} (ho:o.op=.store T ad x) {j:Nat} {q:List Step} {v:Ty} {z:v.den} (ha:s.ev ad=.ptr j q) (hx:s.ev x=.val v z) {p:Prop} {s1:St} (hr:placeR E ops o s=some (p,s1)) :
  ∃ ι' w',(execOp a.eval o).run E.P w=.ok .skip w'∧RS B S ι' s1 (a.put o.dst undef) w'∧∀ {g:List Nat} {i:Nat} {e:Ent} {p0:List Step} {t0:Ty} {l m:List t0.den} {b off:Nat} {v':Value},i≠j→j∉g→look i s.hp=some e→okP e.ty e.x p0→getP e.ty e.x p0=some ⟨.slc true t0,l⟩→Pend B S ι s.hp g i e p0 t0 l m b off v' w→Pend B S ι' s1.hp g i e p0 t0 l m b off v' w':=by
 obtain ⟨ej,r,hd,hob,hset,⟨u,y,hgp,hck⟩,rfl⟩:=val_run hg ho ha hx hr
 have hadr:=h.ev ad
 rw [ha] at hadr
 obtain ⟨e',b0,off0,c1,hok,hl,c4⟩:=hadr
 rw [hob] at c1; cases c1
 have c4:a.eval ad=.pointer (some ⟨b0,off0,none⟩):=by simpa using c4
 have hval:=h.ev x
 rw [hx] at hval
 obtain ⟨cs,hv1,hz⟩:=hval
 have hv1:a.eval x=toV v cs:=by simpa using hv1
 have hnb:=Loc_bag hl
 obtain ⟨Op,m1,mn,m2,m3,m4,m5⟩:=Loc_mem hnb (h.hs.ob j ej hob) h.hs.slt hok hgp hl
 have hsh:=getset_sh hgp hset
 have hnS:¬ S b0:=(h.hs.bl j ej hob b0 m4).1
 have hcs:cs.length=u.size:=by rw [hz.length,size_er hsh]
 obtain ⟨ι',⟨O,rfl,hO⟩,h1⟩:=h.storeX hob hok hgp hl (u':=v) (z:=z) (cs:=cs) (O2:=[]) (fun H' hsz hc=>hz.stable (fun c hc'=>hc.rest c (by
   rintro rfl
   rcases hc' with hc'|hc'
   ·cases hc'
   ·exact hnS hc') (by
   rcases hc' with hc'|hc'
   ·cases hc'
   ·exact h.hs.slt c hc')) (fun _ h=>h)) hcs List.nodup_nil (by simp) hset (fun how _=>setP_idx hset (own_idx hl how))
 have hrun:(execOp a.eval o).run E.P w=.ok .skip (w.setRow b0 (over (blk w.heap b0) off0 cs).toArray):=by
  simp [execOp,ho,c4,hv1,Instr.storeAt,Instr.sureAddr,run_storeVar (chk_ok hE hck) hsh m5 hz]
 refine ⟨_,_,hrun,h1.put (by rw [hn]; exact hd) (v:=.raw undef) (val:=undef) rfl,?_⟩
 rintro g i e p0 t0 l m b off v' hij hjg hi hok0 hg0 ⟨O',k1,k2,k3,k4,k5⟩
 have hold:∀ c,c≠b0→(w.setRow b0 (over (blk w.heap b0) off0 cs).toArray).heap[c]?=w.heap[c]?:=fun c hc=>setRow_other hc
 have hsame:SameAt ι (ι.setB j O) i:=sameAt_setB hij O
 have hnbi:=Loc_bag k1
 have hbO:b0∉O':=fun hc=>(k5 b0 hc).2.1 j ej (Ne.symm hij) hjg hob m4
 refine ⟨O',?_,k2.stable (fun c hc=>hold c (by
   rintro rfl
   rcases hc with hc|hc
   ·exact hbO hc
   ·exact hnS hc)) (fun _ h=>h),k3,k4,fun c hc=>⟨?_,fun k ek hk hkg hlk=>?_,fun hci=>?_⟩⟩
 ·rw [hsame.loc]
  exact Loc_stable hnbi (h.hs.ob i e hi) h.hs.slt (fun c hc=>hold c (by rintro rfl; exact h.hs.dj i j e ej hi hob hij c hc m4)) hok0 k1
 ·obtain ⟨f1,f2,f3⟩:=(k5 c hc).1
  exact ⟨f1,f2,by rw [setRow_size]; exact f3⟩
 ·rw [hp_putS] at hlk
  simp only [St.putE,look_put] at hlk
  by_cases hkj:k=j
  ·subst hkj
   rw [if_pos rfl] at hlk; cases hlk
   intro hcb
   refine (k5 c hc).2.1 k ej hk hkg hob ?_
   cases ej with
   | var t1 x1 =>
    simp only [blks,Ent.upd,Ix.setB,if_true,List.mem_cons] at hcb ⊢
    rcases hcb with hcb|hcb
    ·exact .inl hcb
    ·rcases (hO c hcb).1 with h9|h9
     ·exact .inr h9
     ·cases h9
   | own t1 x1 =>
    simp only [blks,Ent.upd,Ix.setB,if_true] at hcb ⊢
    rcases (hO c hcb).1 with h9|h9
    ·exact h9
    ·cases h9
   | bag=>exact absurd rfl hnb
  ·rw [if_neg hkj] at hlk
   rw [(sameAt_setB hkj O).blks]
   exact (k5 c hc).2.1 k ek hk hkg hlk
 ·rw [hsame.blks] at hci
  obtain ⟨Op',o1,o2⟩:=(k5 c hc).2.2 hci
  obtain ⟨O3,n1,_,n3,_,n5,_⟩:=Loc_mem hnbi (h.hs.ob i e hi) h.hs.slt hok0 hg0 k1
  have hbi:b0≠b:=by
   rintro rfl
   exact h.hs.dj i j e ej hi hob hij b0 n5 m4
  have hO3:O3=Op':=n3.det o1
  have hOpi:∀ c'∈Op',c'≠b0:=by
   rintro c' hc' rfl
   rw [← hO3] at hc'
   exact h.hs.dj i j e ej hi hob hij c' (own_blks (n1 c' hc')) m4
  refine ⟨Op',?_,o2⟩
  rw [cellsAt_congr (hold b hbi.symm)]
  exact o1.stable (fun c' hc'=>hold c' (by
   rintro rfl
   rcases hc' with hc'|hc'
   ·exact hOpi _ hc' rfl
   ·exact hnS hc')) (fun _ h=>h)

theorem trim_back' {T:List Nat} {f:AV→AV} (hf:Trim T f) {u v:AV} (h:f u=v) (hv:v.ref=true∨(v.plain=true∧v≠.any)):u=v:=by
 cases u with
 | cons a b=>rw [hf.cons] at h; subst h; rcases hv with hv|⟨hv,_⟩<;>cases hv
 | tup l=>rw [hf.tup] at h; subst h; rcases hv with hv|⟨hv,_⟩<;>cases hv
 | clo g l=>rw [hf.clo] at h; subst h; rcases hv with hv|⟨hv,_⟩<;>cases hv
 | bx l=>rw [hf.bx] at h; subst h; rcases hv with hv|⟨hv,_⟩<;>cases hv
 | rc g l=>rw [hf.rc] at h; subst h; rcases hv with hv|⟨hv,_⟩<;>cases hv
 | ptr i p=>rcases hf.atom _ (rfl:(AV.ptr i p).ref=true) with e|e<;>rw [e] at h<;>first|exact h|(subst h; rcases hv with hv|⟨_,hv⟩<;>first|cases hv|exact absurd rfl hv)
 | at_ i p=>rcases hf.atom _ (rfl:(AV.at_ i p).ref=true) with e|e<;>rw [e] at h<;>first|exact h|(subst h; rcases hv with hv|⟨_,hv⟩<;>first|cases hv|exact absurd rfl hv)
 | sub i p x y=>rcases hf.atom _ (rfl:(AV.sub i p x y).ref=true) with e|e<;>rw [e] at h<;>first|exact h|(subst h; rcases hv with hv|⟨_,hv⟩<;>first|cases hv|exact absurd rfl hv)
 | _=>rw [hf.plain _ rfl] at h; exact h

theorem app1_shape {u:Ty} {v:AV} {r:Sigma fun t:Ty=>List t.den} {g:List Nat} (h:v.app1 s u=some (r,g)):v.ref=true∨(v.plain=true∧v≠.any):=by
 cases v with
 | ptr i p=>exact .inl rfl
 | at_ i p=>exact .inl rfl
 | sub i p x y=>exact .inl rfl
 | raw v=>exact .inr ⟨rfl,by intro h; cases h⟩
 | val t x=>exact .inr ⟨rfl,by intro h; cases h⟩
 | rptr t x=>exact .inr ⟨rfl,by intro h; cases h⟩
 | nil=>exact .inr ⟨rfl,by intro h; cases h⟩
 | _=>exfalso; simp [AV.app1,AV.els] at h

theorem late_spec {M:List Nat} {q:PendA} {n:Nat} (h:lateOk ops M q n s=true) {j:Nat} (hj:j<n) (hjk:j≠q.k) {o:Oper} (ho:ops[j]?=some o):(M.getD q.k 0).testBit j=true∨quiet o=true∨lateSt ops q n j o s=true:=by
 simp only [lateOk,List.all_eq_true,List.mem_range] at h
 have:=h j hj
 simp only [Bool.or_eq_true,ho] at this
 rcases this with h|(h|h)|h
 ·exact absurd (Nat.eq_of_beq_eq_true h) hjk
 ·exact .inl h
 ·exact .inr (.inl h)
 ·exact .inr (.inr h)

theorem lateSt_spec {q:PendA} {n j:Nat} {o:Oper} (h:lateSt ops q n j o s=true):o.guard=none∧o.dst=none∧∃ T ad x j0 q0 v z,o.op=.store T ad x∧s.ev ad=.ptr j0 q0∧s.ev x=.val v z∧(s.ev q.x).ment j0=false∧(s.ev q.y).ment j0=false∧∀ j',j<j'→j'<n→∀ o',ops[j']?=some o'→∀ d,o'.dst=some d→d∉looks ops o:=by
 unfold lateSt at h
 split at h
 ·rename_i T ad x ho
  simp only [Bool.and_eq_true] at h
  obtain ⟨⟨⟨h1,hg⟩,hd⟩,h2⟩:=h
  split at h1
  ·rename_i j0 q0 v z ha hx
   simp only [Bool.and_eq_true,Bool.not_eq_true'] at h1
   refine ⟨by simpa using hg,by simpa using hd,T,ad,x,j0,q0,v,z,ho,ha,hx,h1.1,h1.2,fun j' hj hj' o' ho' d hd hm=>?_⟩
   simp only [List.all_eq_true,List.mem_range] at h2
   have:=h2 j' hj'
   rw [Bool.or_eq_true] at this
   rcases this with h9|h9
   ·have:=Nat.le_of_ble_eq_true h9; omega
   ·rw [ho'] at h9
    simp [notIn,hd,hm] at h9
  ·cases h1
 ·cases h

theorem Trim.comp2 {T T':List Nat} {f g:AV→AV} (hf:Trim T f) (hg:Trim T' g):Trim (T++T') (fun u=>g (f u)):=by
 refine ⟨fun a b=>by rw [hf.cons,hg.cons],fun l=>by rw [hf.tup,hg.tup],fun k l=>by rw [hf.clo,hg.clo],fun l=>by rw [hf.bx,hg.bx],fun k l=>by rw [hf.rc,hg.rc],fun u hu=>?_,fun u hu h=>?_,fun u hu=>by rw [hf.plain u hu,hg.plain u hu]⟩
 ·rcases hf.atom u hu with e|e
  ·rw [e]; exact hg.atom u hu
  ·rw [e]; exact .inr (hg.plain _ rfl)
 ·rw [hf.keep u hu (fun i hi=>h i (List.mem_append_left _ hi)),hg.keep u hu (fun i hi=>h i (List.mem_append_right _ hi))]

theorem ev_trim {J:List Nat} {F:AV→AV} (hF:Trim J F) {s t:St} {z:Operand} (h:∀ m,z=.tmp m→look m t.fr=(look m s.fr).map F):t.ev z=F (s.ev z):=by
 cases z with
 | tmp m =>
  have hg:t.get m=F (s.get m):=by
   simp only [St.get,h m rfl]
   cases look m s.fr with
   | none=>exact (hF.plain _ rfl).symm
   | some v=>rfl
  rw [ev_tmp,ev_tmp]
  unfold gq
  cases Nat.beq m ghostSlot with
  | true=>exact (hF.plain _ rfl).symm
  | false=>exact hg
 | const c=>exact (hF.fix _ (fun i _=>ofConst_ment c i)).symm
 | global g=>exact (hF.plain _ rfl).symm
 | func f=>exact (hF.fix _ (fun i _=>rfl)).symm

theorem late_runs {M:Nat→Nat} {q:PendA} {n:Nat} {sF:St}:∀ {l:List Nat} {acc:List (Nat×St)} {s s':St},RunsA E ops M acc l s s'→Eqv s' sF→uniq s.fr→l.Pairwise (·<·)→(∀ j∈l,j<n)→(∀ j∈l,∀ o,ops[j]?=some o→quiet o=true∨lateSt ops q n j o sF=true) →
  ∃ (J:List Nat) (f:AV→AV),Trim J f∧(∀ j∈J,(sF.ev q.x).ment j=false∧(sF.ev q.y).ment j=false)∧(∀ i,i∉J→look i s'.hp=look i s.hp)∧∀ m,(∀ j∈l,∀ o,ops[j]?=some o→o.dst≠some m)→look m s'.fr=(look m s.fr).map f
 | [],acc,s,s',h,_,_,_,_,_=>by
  obtain rfl:s=s':=h
  exact ⟨[],fun u=>u,Trim.id _,by simp,fun _ _=>rfl,fun m _=>by simp⟩
 | j::l,acc,s,s',⟨o,ho,_,p,s1,h1,_,h2⟩,hev,hu,hpw,hlt,hq=>by
  obtain ⟨hpw1,hpw2⟩:=List.pairwise_cons.1 hpw
  obtain ⟨J,f,k1,k2,k3,k4⟩:=late_runs h2 hev (place_uniq hu h1) hpw2 (fun j' hj'=>hlt j' (by simp [hj'])) (fun j' hj'=>hq j' (by simp [hj']))
  rcases hq j (by simp) o ho with hqt|hls
  ·obtain ⟨v,rfl⟩:=quiet_abs hqt h1
   refine ⟨J,f,k1,k2,fun i hi=>(k3 i hi).trans (by rw [hp_putS]),fun m hm=>?_⟩
   rw [k4 m (fun j' hj'=>hm j' (by simp [hj'])),look_putS,if_neg (hm j (by simp) o ho)]
  ·obtain ⟨hg,hdn,T,ad,x,j0,q0,v,z,g1,g2,g3,g4,g5,g6⟩:=lateSt_spec hls
   -- what the store saw
   obtain ⟨v0,ids,f0,h0,z1,z2,z3,z4,z5⟩:=place_eff (ops:=ops) hu h1
   obtain ⟨s1',y1,_,y2⟩:=z5 s hu ((Eqv.refl s).agreeV _ _) z2
   rw [h1] at y1; cases y1
   have hsee:∀ y,y∈o.op.operands.toList→sF.ev y=f (f0 (s.ev y)):=by
    intro y hy
    refine ev_trim (z1.comp2 k1) (fun m hm=>?_)
    subst hm
    have hml:=looks_op (ops:=ops) hy
    rw [← hev.1 m,k4 m (fun j' hj' o' ho' hd'=>g6 j' (hpw1 j' hj') (hlt j' (by simp [hj'])) o' ho' m hd' hml),y2.fr,if_neg (by rw [hdn]; intro h; cases h)]
    cases look m s.fr<;>rfl
   have ha:s.ev ad=.ptr j0 q0:=trim_back' (z1.comp2 k1) ((hsee ad (by rw [g1]; simp [Op.operands])).symm.trans g2) (.inl rfl)
   have hx:s.ev x=.val v z:=trim_back' (z1.comp2 k1) ((hsee x (by rw [g1]; simp [Op.operands])).symm.trans g3) (.inr ⟨rfl,by intro h; cases h⟩)
   obtain ⟨e,r,_,_,_,_,rfl⟩:=val_run hg g1 ha hx h1
   refine ⟨[j0]++J,fun u=>f (AV.kill j0 e.kd q0 u),(Trim.kill j0 e.kd q0).comp2 k1,fun i hi=>?_,fun i hi=>?_,fun m hm=>?_⟩
   ·rcases List.mem_append.1 hi with hi|hi
    ·rw [List.mem_singleton] at hi; subst hi; exact ⟨g4,g5⟩
    ·exact k2 i hi
   ·rw [k3 i (fun h=>hi (List.mem_append_right _ h)),hp_putS]
    simp only [St.putE,look_put]
    rw [if_neg (fun h=>hi (List.mem_append_left _ (by simp [h])))]
    rfl
   ·rw [k4 m (fun j' hj'=>hm j' (by simp [hj'])),look_putS,if_neg (hm j (by simp) o ho)]
    have e1:look m ((s.kill j0 e.kd q0).putE j0 (e.upd r)).fr=(look m s.fr).map (AV.kill j0 e.kd q0):=look_mapA m _ _
    rw [e1]
    cases look m s.fr<;>rfl

/-! ### what the check of a pending append says -/
theorem pend_spec {M:List Nat} {k n:Nat} (h:pendOk ops M k n=true):n+1=ops.size∧k<n∧∃ ok,ops[k]?=some ok∧∀ j,j<n→(M.getD n 0).testBit j=true∧(j≠k→∃ o,ops[j]?=some o∧(∀ d,ok.dst=some d→o.dst≠some d) ∧
  ((M.getD k 0).testBit j=true∨((quiet o=true∨isSt o=true)∧∀ d,o.dst=some d→d∉looks ops ok))):=by
 simp only [pendOk,Bool.and_eq_true] at h
 obtain ⟨⟨h1,h2⟩,h3⟩:=h
 have hn:=Nat.eq_of_beq_eq_true h1
 refine ⟨hn,by simpa [Nat.blt_eq] using h2,?_⟩
 split at h3
 ·rename_i ok hok
  refine ⟨ok,hok,fun j hj=>?_⟩
  simp only [List.all_eq_true,List.mem_range] at h3
  have:=h3 j hj
  simp only [Bool.and_eq_true,Bool.or_eq_true] at this
  obtain ⟨m1,m2⟩:=this
  refine ⟨m1,fun hjk=>?_⟩
  rcases m2 with m2|m2
  ·exact absurd (Nat.eq_of_beq_eq_true m2) hjk
  ·split at m2
   ·rename_i o ho
    simp only [Bool.and_eq_true,Bool.or_eq_true] at m2
    refine ⟨o,ho,fun d hd hod=>?_,m2.2.imp id (fun h=>⟨h.1,fun d hd hdl=>?_⟩)⟩
    ·have:=m2.1
     simp only [notIn,hod,hd,Option.toList] at this
     simp at this
    ·have:=h.2
     simp only [notIn,hd] at this
     simp [hdl] at this
   ·cases m2
 ·cases h3

theorem fin_spec {M:List Nat} {q:PendA} {n:Nat} {o:Oper} {s:St} {p:Prop} {s2:St} (h:finA E ops M q n o s=some (p,s2)):∃ T2 ad s3,o.guard=none∧o.op=.store T2 ad (.tmp q.d)∧(∀ t,ad=.tmp t→t≠q.d)∧(pendOk ops M q.k n=true∧lateOk ops M q n s=true)∧dstOk E.nt o.dst=true ∧
  appS E q.T q.U T2 (s.ev q.x) (s.ev q.y) (s.ev ad) q.d s=some (p,s3)∧s2=s3.put o.dst (.raw undef):=by
 unfold finA at h
 split at h
 ·rename_i T2 ad d' hg hop
  split at h
  ·rename_i hc
   simp only [Bool.and_eq_true] at hc
   obtain ⟨⟨⟨⟨c1,c2⟩,c3⟩,c5⟩,c4⟩:=hc
   obtain rfl:=Nat.eq_of_beq_eq_true c1
   split at h
   ·rename_i p' s3 hs
    cases h
    exact ⟨T2,ad,s3,hg,hop,fun t e=>by subst e; rintro rfl; simp at c2,⟨c3,c5⟩,c4,hs,rfl⟩
   ·cases h
  ·cases h
 ·cases h

theorem appS_inv (hE:EnvB E B) {x y adv:AV} {T U T2:TypeId} {d:Nat} {p:Prop} {s2:St} (hb:appS E T U T2 x y adv d s=some (p,s2)) (hp:p) :
  ∃ i p0 e t0 l m g r q bts,x=.at_ i p0∧adv=.ptr i p0∧look i s.hp=some e∧i∉g∧g.Nodup∧(g.all fun i=>!pinned i)=true∧getP e.ty e.x p0=some ⟨.slc true t0,l⟩∧chk E T2 (.slc true t0)=true ∧
   setP e.ty e.x p0 (.slc true t0) (l++m)=some r∧s2=(((St.drops g (s.put (some d) .any)).kill i e.kd p0).putE i (e.upd r))∧look T E.tt=some ⟨.slc q t0,bts⟩ ∧
   ((∃ e',E.P.underlying U=some (.slice e'))∨E.P.underlying U=some .string)∧y.app1 s t0=some (⟨t0,m⟩,g)∧l.length+m.length≤140737488355328∧(l.length+m.length)*t0.wb≤140737488355328 ∧
   ((∃ t x,e=.var t x)∨∃ t x j q,e=.own (.slc true t) x∧p0=.idx j::q):=by
 unfold appS at hb
 split at hb
 ·rename_i i p0 j q q1 t0 bts u1 bts1 hT hU
  split at hb
  ·rename_i e hob hku
   simp only [Bool.and_eq_true] at hku
   obtain ⟨hij,hku⟩:=hku
   have hij:=Nat.eq_of_beq_eq_true hij
   subst hij
   split at hb
   ·rename_i u l hg
    split at hb
    ·rename_i t m g happ
     split at hb
     ·rename_i hu
      split at hb
      ·rename_i ht
       subst hu; subst ht
       split at hb
       ·rename_i r hset
        split at hb
        ·rename_i hck
         cases hb
         simp only [Bool.and_eq_true,Bool.not_eq_true'] at hck
         obtain ⟨⟨⟨⟨hck,hst⟩,hgi⟩,hgn⟩,hgp⟩:=hck
         obtain ⟨rfl,h63,hby⟩:=hp
         have hgi:i∉g:=by intro hm; simp [hm] at hgi
         have hk:(∃ e',E.P.underlying U=some (.slice e'))∨E.P.underlying U=some .string:=by
          cases u1<;>first|cases hku|skip
          ·exact .inr (tyOk_str (tt_ok hE hU))
          ·obtain ⟨et,k',f1,_⟩:=tyOk_slc (tt_ok hE hU)
           exact .inl ⟨et,f1⟩
         exact ⟨i,q,e,_,l,m,g,r,_,_,rfl,rfl,hob,hgi,noDup_nodup hgn,hgp,hg,hck,hset,rfl,hT,hk,happ,h63,hby,(stay_spec hst).2⟩
        ·cases hb
       ·cases hb
      ·cases hb
     ·cases hb
    ·cases hb
   ·cases hb
  ·cases hb
 ·cases hb

theorem Apart.cut:∀ {A C:List Oper} {o:Oper},Apart (A++o::C)→Apart (A++C)∧∀ x∈A++C,∀ d,x.dst=some d→o.dst≠some d
 | [],C,o,h=>⟨h.2,fun x hx d hxd hod=>h.1 d hod x hx hxd⟩
 | y::A,C,o,h=>by
  obtain ⟨m1,m2⟩:=Apart.cut h.2
  refine ⟨⟨fun d hd x hx=>h.1 d hd x (by simp at hx ⊢; rcases hx with hx|hx<;>simp [hx]),m1⟩,fun x hx d hxd hod=>?_⟩
  rcases List.mem_cons.1 hx with rfl|hx
  ·exact h.1 d hxd o (by simp) hod
  ·exact m2 x hx d hxd hod

theorem Apart.sub {f:Nat→Bool}:∀ {l:List Nat},Apart (rem ops l)→Apart (rem ops (l.filter f))
 | [],h=>h
 | i::l,h=>by
  cases ho:ops[i]? with
  | none =>
   have e:rem ops (i::l)=rem ops l:=by simp [rem,ho]
   rw [e] at h
   have:=Apart.sub (f:=f) h
   rw [List.filter_cons]
   split
   ·have e:rem ops (i::l.filter f)=rem ops (l.filter f):=by simp [rem,ho]
    rw [e]; exact this
   ·exact this
  | some o =>
   rw [rem_cons ho] at h
   rw [List.filter_cons]
   split
   ·rw [rem_cons ho]
    refine ⟨fun d hd x hx=>h.1 d hd x ?_,Apart.sub h.2⟩
    obtain ⟨j,hj,hjx⟩:=List.mem_filterMap.1 hx
    exact List.mem_filterMap.2 ⟨j,(List.mem_filter.1 hj).1,hjx⟩
   ·exact Apart.sub h.2

theorem idxs_without {n i:Nat} {listed:Array Bool} {f:Nat→Bool} (hs:listed.size=n) (hi:i∈idxs n listed) (hf:f i=true):∃ pre post,(idxs n listed).filter f=pre++i::post∧(∀ j∈pre,j<i) ∧
  (idxs n (listed.setIfInBounds i true)).filter f=pre++post:=by
 obtain ⟨pre,post,e,h1,h2⟩:=idxs_split hi
 refine ⟨pre.filter f,post.filter f,by rw [e,List.filter_append,List.filter_cons,if_pos hf],fun j hj=>h1 j (List.mem_filter.1 hj).1,?_⟩
 rw [idxs_set hs (mem_idxs.1 hi).1,h2,List.filter_append]

theorem idxs_skip {n i:Nat} {listed:Array Bool} {f g:Nat→Bool} (hs:listed.size=n) (hi:i<n) (hg:∀ j,g j=(f j && !(j == i))):(idxs n (listed.setIfInBounds i true)).filter f=(idxs n listed).filter g:=by
 rw [idxs_set hs hi,List.filter_filter]
 exact List.filter_congr (fun j _=>(hg j).symm)

theorem idxs_len {n i fuel:Nat} {listed:Array Bool} (hs:listed.size=n) (hi:i∈idxs n listed) (hl:(idxs n listed).length=fuel+1):(idxs n (listed.setIfInBounds i true)).length=fuel:=by
 obtain ⟨pre,post,e,h1,h2⟩:=idxs_split hi
 rw [idxs_set hs (mem_idxs.1 hi).1,h2]
 rw [e] at hl
 simp at hl ⊢; omega

section
variable {q:PendA} {n:Nat} {s1:St}

theorem ClosedL.set {listed:Array Bool} (hcl:ClosedL ops listed) {i:Nat} {o:Oper} (ho:ops[i]?=some o) (hpre:∀ e∈o.after,Region.binds .any e=true→listed.getD e.on false=true):ClosedL ops (listed.setIfInBounds i true):=by
 intro k y hy hk e' he' hb'
 by_cases hki:k=i
 ·subst hki
  rw [ho] at hy; cases hy
  exact getD_set_true (hpre e' he' hb')
 ·rw [getD_set_ne true (Ne.symm hki)] at hk
  exact getD_set_true (hcl k y hy hk e' he' hb')

theorem listed_set {listed:Array Bool} {i:Nat} (hi:i<listed.size):(listed.setIfInBounds i true).getD i true=true:=by simp [hi]
theorem listed_set_false {listed:Array Bool} {i:Nat} (hi:i<listed.size):(listed.setIfInBounds i true).getD i false=true:=by simp [hi]

theorem ready_some (hd:drawOk ops=true) {listed:Array Bool} (hsz:listed.size=ops.size) (hne:idxs ops.size listed≠[]):Region.ready .any ops listed≠[]:=by
 have hM:=draw_spec hd
 intro hr
 cases hix:idxs ops.size listed with
 | nil=>exact hne hix
 | cons i l =>
  have hmem:i∈idxs ops.size listed:=by rw [hix]; simp
  obtain ⟨h1,h2⟩:=mem_idxs.1 hmem
  have ho:ops[i]?=some ops[i]:=Array.getElem?_eq_getElem h1
  have:i∈Region.ready .any ops listed:=by
   refine mem_ready.2 ⟨h2,ops[i],ho,fun e he hb=>?_⟩
   have hlt:=(hM i _ ho).1 e he hb
   cases hle:listed.getD e.on true with
   | true =>
    have:e.on<listed.size:=by omega
    simp [this] at hle ⊢; exact hle
   | false =>
    exfalso
    have hm2:e.on∈idxs ops.size listed:=mem_idxs.2 ⟨by omega,hle⟩
    have hs:=idxs_sorted ops.size listed
    rw [hix] at hs hm2
    rcases List.mem_cons.1 hm2 with e1|e1
    ·omega
    ·have:=(List.pairwise_cons.1 hs).1 _ e1; omega
  rw [hr] at this
  cases this

theorem drawn_late (hE:EnvB E B) (hn:B.n=E.nt) (hd:drawOk ops=true) {Q:Exit→Act→World→Prop} (hap:Apart ops.toList) (hA:AppOp E ops q) {o2:Oper} (ho2:ops[n]?=some o2) {p:Prop} {s2:St} (hfin:finA E ops (masksGo ops.toList []) q n o2 s1=some (p,s2)) (hp:p)
  (hQ:∀ S ι a w,RS B S ι s2 a w→Q .normal a w) {i:Nat} {e:Ent} {p0:List Step} {t0:Ty} {l m:List t0.den} {g:List Nat} (hx:s1.ev q.x=.at_ i p0) (he:look i s1.hp=some e) (hok:okP e.ty e.x p0) (hg:getP e.ty e.x p0=some ⟨.slc true t0,l⟩)
  (happ:(s1.ev q.y).app1 s1 t0=some (⟨t0,m⟩,g)) {v':Value} :
  ∀ (fuel:Nat) (listed:Array Bool) (S:Nat→Prop) (ι:Ix) (s s':St) (a:Act) (w:World),listed.size=ops.size→(idxs ops.size listed).length=fuel→ClosedL ops listed→listed.getD q.k false=true→listed.getD n true=false→uniq s.fr→CleanFor s (rem ops ((idxs ops.size listed).filter (fun j=>!(j == n)))) →
   RunsA E ops (fun i=>(masksGo ops.toList []).getD i 0) [] ((idxs ops.size listed).filter (fun j=>!(j == n))) s s'→Eqv s' s1→RS B S ι s a w→a.eval (.tmp q.d)=v'→(∀ b off,Loc w.heap ι i e p0=some (b,off)→Pend B S ι s.hp g i e p0 t0 l m b off v' w) →
   wpAny E.P .any ops Q fuel listed a w:=by
 have hM:=draw_spec hd
 obtain ⟨T2,ad,s3,f1,f2,f3,⟨f4,f4'⟩,f5,f6,rfl⟩:=fin_spec hfin
 obtain ⟨hns,hkn,ok,hok1,hsp⟩:=pend_spec f4
 obtain ⟨oa,c,a1,a2,a3,a4,a5,a6,a7,a8⟩:=hA
 have e9:oa=ok:=by rw [a1] at hok1; cases hok1; rfl
 subst e9
 have hndst:∀ j o,j<n→j≠q.k→ops[j]?=some o→o.dst≠some q.d:=by
  intro j o hj hjk ho
  obtain ⟨o',h1,h2,_⟩:=(hsp j hj).2 hjk
  rw [ho] at h1; cases h1
  exact h2 q.d a3
 intro fuel
 induction fuel with
 | zero =>
  intro listed S ι s s' a w hsz hlen hcl hlk hln hu hcf hrun hev hrs hv hpd
  exfalso
  have hnil:idxs ops.size listed=[]:=List.length_eq_zero_iff.1 hlen
  have:n∈idxs ops.size listed:=mem_idxs.2 ⟨by omega,hln⟩
  rw [hnil] at this; cases this
 | succ fuel ih =>
  intro listed S ι s s' a w hsz hlen hcl hlk hln hu hcf hrun hev hrs hv hpd
  refine ⟨fun hr=>absurd hr (ready_some hd hsz (by intro h; rw [h] at hlen; cases hlen)),fun i' hi=>?_⟩
  obtain ⟨h1,o,ho,hpre⟩:=mem_ready.1 hi
  have hin:i'<ops.size:=(Array.getElem?_eq_some_iff.1 ho).1
  have hmem:i'∈idxs ops.size listed:=mem_idxs.2 ⟨hin,h1⟩
  have hanc:∀ j,j<ops.size→((masksGo ops.toList []).getD i' 0).testBit j=true→listed.getD j false=true:=anc_listed (M:=fun i=>(masksGo ops.toList []).getD i 0) (fun i o ho=>⟨(hM i o ho).1,(hM i o ho).2.1⟩) hcl i' o ho hpre
  by_cases hin2:i'=n
  ·-- the store
   subst hin2
   rw [ho2] at ho; cases ho
   have hall:∀ j,j∈idxs ops.size listed→j=i':=by
    intro j hj
    obtain ⟨j1,j2⟩:=mem_idxs.1 hj
    by_cases e:j=i'
    ·exact e
    ·have:=hanc j j1 (hsp j (by omega)).1
     rw [getD_flip this] at j2; cases j2
   have hnil:(idxs ops.size listed).filter (fun j=>!(j == i'))=[]:=by
    rw [List.filter_eq_nil_iff]
    intro j hj; simp [hall j hj]
   rw [hnil] at hrun
   obtain rfl:s=s':=hrun
   have hrs1:=rs_eqv hev hrs
   have hrs2:RS B S ι (s1.put (some q.d) .any) a w:=hrs1.forget q.d
   obtain ⟨i2,p2,e2,t2,l2,m2,g2,r,qq,bts,b1,b2,b3,b4,b5,b6,b7,b8,b9,b10,b11,b12,b13,b14,b15,b16⟩:=appS_inv hE f6 hp
   rw [hx] at b1
   obtain ⟨rfl,rfl⟩:i=i2∧p0=p2:=by simpa using b1
   rw [he] at b3; cases b3
   rw [hg] at b7
   simp only [Option.some.injEq,Sigma.mk.injEq,Ty.slc.injEq,true_and] at b7
   obtain ⟨b7,b7'⟩:=b7
   subst b7
   obtain rfl:l=l2:=eq_of_heq b7'
   rw [happ] at b13
   simp only [Option.some.injEq,Prod.mk.injEq,Sigma.mk.injEq,heq_eq_eq,true_and] at b13
   obtain ⟨rfl,rfl⟩:=b13
   have hadr:=hrs1.ev ad
   rw [b2] at hadr
   obtain ⟨e',b,off,c1,c2,c3,c4⟩:=hadr
   rw [he] at c1; cases c1
   have c4:a.eval ad=.pointer (some ⟨b,off,none⟩):=by simpa using c4
   have hst:=pend_store hE hrs2 (g:=g) b6 b4 (e:=e) he hok hg (by
    obtain ⟨O',y1,y2,y3,y4,y5⟩:=hpd b off c3
    exact ⟨O',y1,y2,y3,y4,fun cc hc=>⟨(y5 cc hc).1,fun j ej hj hjg hlj=>(y5 cc hc).2.1 j ej hj hjg ((hev.2 j).trans hlj),(y5 cc hc).2.2⟩⟩) f2 c4 hv b8 b9
   have hlen':=idxs_len hsz hmem hlen
   have hnil2:idxs ops.size (listed.setIfInBounds i' true)=[]:=by
    rw [idxs_set hsz hin]
    rw [List.filter_eq_nil_iff]
    intro j hj; simp [hall j hj]
   have hf0:fuel=0:=by rw [hnil2] at hlen'; exact hlen'.symm
   subst hf0
   have hw:o2.wp E.P a w (wpAny E.P .any ops Q 0 (listed.setIfInBounds i' true)) Q:=by
    refine hst _ _ (fun S' ι' w' val h1 h2=>⟨?_,hQ S' ι' _ w' ?_⟩)
    ·rw [List.eq_nil_iff_forall_not_mem]
     intro j hj
     obtain ⟨j1,oj,j2,_⟩:=mem_ready.1 hj
     have:j∈idxs ops.size (listed.setIfInBounds i' true):=mem_idxs.2 ⟨(Array.getElem?_eq_some_iff.1 j2).1,j1⟩
     rw [hnil2] at this; cases this
    ·rw [← b10] at h1 h2
     exact h1.put (by rw [hn]; exact f5) h2
   unfold wpOp
   rw [ho2]
   simp only [Region.wanted,f1,if_true]
   exact .inl hw
  ·-- something quiet
   have hlt:i'<n:=by omega
   have hki:i'≠q.k:=by rintro rfl; rw [getD_flip hlk] at h1; cases h1
   obtain ⟨o',ho',hdd,hqq⟩:=(hsp i' hlt).2 hki
   rw [ho] at ho'; cases ho'
   have hnanc:∀ j,j∈idxs ops.size listed→¬ ((masksGo ops.toList []).getD q.k 0).testBit j=true:=by
    intro j hj hb
    have hclk:∀ e∈oa.after,Region.binds .any e=true→listed.getD e.on false=true:=hcl q.k oa a1 (getD_flip hlk)
    have h9:=anc_listed (M:=fun i=>(masksGo ops.toList []).getD i 0) (fun i o ho=>⟨(hM i o ho).1,(hM i o ho).2.1⟩) hcl q.k oa a1 hclk j (mem_idxs.1 hj).1 hb
    have h8:=(mem_idxs.1 hj).2
    rw [getD_flip h9] at h8; cases h8
   have hkinds:∀ j∈(idxs ops.size listed).filter (fun j=>!(j == n)),∀ oj,ops[j]?=some oj→quiet oj=true∨lateSt ops q n j oj s1=true:=by
    intro j hj oj hoj
    obtain ⟨j1,j2⟩:=List.mem_filter.1 hj
    simp only [Bool.not_eq_true',beq_eq_false_iff_ne,ne_eq] at j2
    have jn:j<n:=by have:=(mem_idxs.1 j1).1; omega
    have jk:j≠q.k:=by rintro rfl; have:=(mem_idxs.1 j1).2; rw [getD_flip hlk] at this; cases this
    rcases late_spec f4' jn jk hoj with h9|h9|h9
    ·exact absurd h9 (hnanc j j1)
    ·exact .inl h9
    ·exact .inr h9
   have hltn:∀ j∈(idxs ops.size listed).filter (fun j=>!(j == n)),j<n:=by
    intro j hj
    obtain ⟨j1,j2⟩:=List.mem_filter.1 hj
    simp only [Bool.not_eq_true',beq_eq_false_iff_ne,ne_eq] at j2
    have:=(mem_idxs.1 j1).1; omega
   have hsort:((idxs ops.size listed).filter (fun j=>!(j == n))).Pairwise (·<·):=(idxs_sorted ops.size listed).sublist List.filter_sublist
   have hmemf:i'∈(idxs ops.size listed).filter (fun j=>!(j == n)):=List.mem_filter.2 ⟨hmem,by simpa using hin2⟩
   have hkind:=hkinds i' hmemf o ho
   have hrun0:=hrun
   obtain ⟨pre,post,e1,hlt',e2⟩:=idxs_without (f:=fun j=>!(j == n)) hsz hmem (by simpa using hin2)
   rw [e1] at hcf hrun
   have er:rem ops (pre++i'::post)=rem ops pre++o::rem ops post:=by simp [rem,List.filterMap_append,ho]
   have er2:rem ops (pre++post)=rem ops pre++rem ops post:=by simp [rem,List.filterMap_append]
   have hapr:Apart (rem ops (pre++i'::post)):=by
    rw [← e1]
    refine Apart.sub ?_
    have:rem ops (idxs ops.size listed)=rem ops ((List.range ops.size).filter (fun i=>!listed.getD i true)):=rfl
    rw [this]
    refine Apart.sub ?_
    have h9:=rem_all (ops:=ops)
    rw [idxs_all] at h9
    rw [h9]; exact hap
   have hind:∀ j∈pre,((masksGo ops.toList []).getD i' 0).testBit j=false∧∀ x,ops[j]?=some x→indep ops x o=true:=by
    intro j hj
    have hji:j∈idxs ops.size listed:=by
     have:j∈(idxs ops.size listed).filter (fun j=>!(j == n)):=by rw [e1]; simp [hj]
     exact (List.mem_filter.1 this).1
    have hnm:((masksGo ops.toList []).getD i' 0).testBit j=false:=by
     cases hm:((masksGo ops.toList []).getD i' 0).testBit j with
     | false=>rfl
     | true =>
      exfalso
      have hjl:=hanc j (mem_idxs.1 hji).1 hm
      have:=(mem_idxs.1 hji).2
      rw [getD_flip hjl] at this
      cases this
    refine ⟨hnm,fun x hx=>?_⟩
    rcases (hM i' o ho).2.2 j x (hlt' j hj) hx with hm|hm
    ·rw [hnm] at hm; cases hm
    ·exact hm
   obtain ⟨pp,sa,sb,k1,k2,k3,k4,_⟩:=bubble ho hapr hind hu (hcf.sub (fun y hy=>by rw [rem_app]; exact List.mem_append_left _ hy)) hrun
   rw [er] at hapr hcf
   have hap2:=Apart.cut hapr
   rcases hkind with hqt|hls
   ·obtain ⟨q1,q2,v,val,rfl,q3,q4⟩:=quiet_run hE hrs hqt k1 k2
    have hnext:wpAny E.P .any ops Q fuel (listed.setIfInBounds i' true) (a.put o.dst val) w:=by
     refine ih (listed.setIfInBounds i' true) S ι (s.put o.dst v) sb (a.put o.dst val) w (by simp [hsz]) (idxs_len hsz hmem hlen) (hcl.set ho hpre) (getD_set_true hlk) (by rw [getD_set_ne true hin2]; exact hln) (place_uniq hu k1) ?_ (by rw [e2]; exact k3) (k4.trans hev) (hrs.put (by rw [hn]; exact q2) q4) ?_ (fun b off hb=>by rw [hp_putS]; exact hpd b off hb)
     ·rw [e2,er2]
      exact CleanFor.step hu (fun y hy=>hcf y (by simp at hy ⊢; rcases hy with hy|hy<;>simp [hy])) hap2.2 k1
     ·rw [← hv]
      have hne:=hndst i' o hlt hki ho
      cases hod:o.dst with
      | none=>rfl
      | some d =>
       rw [hod] at hne
       exact aput_other (fun e=>hne (by rw [e]))
    unfold wpOp
    rw [ho]
    simp only [Region.wanted,q1,if_true]
    refine .inl ?_
    unfold Oper.wp
    rw [q3]
    exact hnext
   ·-- a store that goes elsewhere
    obtain ⟨hg0,hdn,T,ad',x',j0,q0,vt,z,g1,g2,g3,g4,g5,g6⟩:=lateSt_spec hls
    rw [e1] at hsort hltn hkinds
    have hsub:List.Sublist (pre++post) (pre++i'::post):=List.Sublist.append (List.Sublist.refl _) (List.sublist_cons_self _ _)
    obtain ⟨J,f,t1,t2,t3,t4⟩:=late_runs k3 (k4.trans hev) (place_uniq hu k1) (hsort.sublist hsub) (fun j hj=>hltn j (hsub.subset hj)) (fun j hj=>hkinds j (hsub.subset hj))
    have hpost:∀ j∈post,i'<j:=fun j hj=>(List.pairwise_cons.1 (List.pairwise_append.1 hsort).2.1).1 j hj
    obtain ⟨v0,ids,f0,hh0,z1,z2,z3,z4,z5⟩:=place_eff (ops:=ops) hu k1
    obtain ⟨sa',y1,_,y2⟩:=z5 s hu ((Eqv.refl s).agreeV _ _) z2
    rw [k1] at y1; cases y1
    have hsee:∀ y,y∈o.op.operands.toList→s1.ev y=f (f0 (s.ev y)):=by
     intro y hy
     refine ev_trim (z1.comp2 t1) (fun m' hm=>?_)
     subst hm
     have hml:=looks_op (ops:=ops) hy
     rw [← (k4.trans hev).1 m',t4 m' (fun j hj o' ho' hd'=>?_),y2.fr,if_neg (by rw [hdn]; intro h; cases h)]
     ·cases look m' s.fr<;>rfl
     ·rcases List.mem_append.1 hj with hj|hj
      ·exact (indep_spec ((hind j hj).2 o' ho')).1 m' hd' hml
      ·exact g6 j (hpost j hj) (hltn j (by simp [hj])) o' ho' m' hd' hml
    have ha':s.ev ad'=.ptr j0 q0:=trim_back' (z1.comp2 t1) ((hsee ad' (by rw [g1]; simp [Op.operands])).symm.trans g2) (.inl rfl)
    have hx':s.ev x'=.val vt z:=trim_back' (z1.comp2 t1) ((hsee x' (by rw [g1]; simp [Op.operands])).symm.trans g3) (.inr ⟨rfl,by intro h; cases h⟩)
    obtain ⟨ι',w',r1,r2,r3⟩:=late_run hE hn hrs hg0 g1 ha' hx' k1
    have hij:i≠j0:=by
     rintro rfl
     rw [hx] at g4
     simp only [AV.ment,Nat.beq_refl] at g4
     cases g4
    have hjg:j0∉g:=fun hm=>by rw [app1_ment happ j0 hm] at g5; cases g5
    obtain ⟨J2,f2',u1,u2,u3,u4⟩:=late_runs (ops:=ops) (q:=q) (n:=n) hrun hev hu hsort hltn hkinds
    have hes:look i s.hp=some e:=by
     rw [← u3 i (fun hm=>by
      have:=(u2 i hm).1
      rw [hx] at this
      simp only [AV.ment,Nat.beq_refl] at this
      cases this),hev.2 i]
     exact he
    obtain ⟨i2,p2,e2',t2',l2,m2,g2',r',qq,bts,b1,b2,b3,b4,b5,b6,b7,b8,b9,b10,b11,b12,b13,b14,b15,b16⟩:=appS_inv hE f6 hp
    rw [hx] at b1
    obtain ⟨rfl,rfl⟩:i=i2∧p0=p2:=by simpa using b1
    rw [he] at b3; cases b3
    obtain ⟨b,off,hloc⟩:=loc_stay (hrs.hs.ob i e hes) hrs.hs.slt b16 hok hg
    have hP:=r3 hij hjg hes hok hg (hpd b off hloc)
    have hnext:wpAny E.P .any ops Q fuel (listed.setIfInBounds i' true) (a.put o.dst undef) w':=by
     refine ih (listed.setIfInBounds i' true) S ι' sa sb (a.put o.dst undef) w' (by simp [hsz]) (idxs_len hsz hmem hlen) (hcl.set ho hpre) (getD_set_true hlk) (by rw [getD_set_ne true hin2]; exact hln) (place_uniq hu k1) ?_ (by rw [e2]; exact k3) (k4.trans hev) r2 ?_ (fun b9 off9 hb9=>?_)
     ·rw [e2,er2]
      exact CleanFor.step hu (fun y hy=>hcf y (by simp at hy ⊢; rcases hy with hy|hy<;>simp [hy])) hap2.2 k1
     ·rw [← hv,hdn]; rfl
     ·obtain ⟨_,h9,_⟩:=id hP
      rw [h9] at hb9; cases hb9
      exact hP
    unfold wpOp
    rw [ho]
    simp only [Region.wanted,hg0,if_true]
    refine .inl ?_
    unfold Oper.wp
    rw [r1]
    exact hnext

theorem drawn_early (hE:EnvB E B) (hn:B.n=E.nt) (hd:drawOk ops=true) {Q:Exit→Act→World→Prop} (hap:Apart ops.toList) (hA:AppOp E ops q) {o2:Oper} (ho2:ops[n]?=some o2) {p:Prop} {s2:St} (hfin:finA E ops (masksGo ops.toList []) q n o2 s1=some (p,s2)) (hp:p)
  (hQ:∀ S ι a w,RS B S ι s2 a w→Q .normal a w) :
  ∀ (fuel:Nat) (listed:Array Bool) (S:Nat→Prop) (ι:Ix) (s s':St) (a:Act) (w:World),listed.size=ops.size→(idxs ops.size listed).length=fuel→ClosedL ops listed→listed.getD q.k true=false→listed.getD n true=false→uniq s.fr→CleanFor s (rem ops ((idxs ops.size listed).filter (fun j=>!(j == n) && !(j == q.k)))) →
   RunsA E ops (fun i=>(masksGo ops.toList []).getD i 0) [] ((idxs ops.size listed).filter (fun j=>!(j == n) && !(j == q.k))) s s'→Eqv s' s1→look q.d s.fr=some .any→RS B S ι s a w →
   wpAny E.P .any ops Q fuel listed a w:=by
 have hM:=draw_spec hd
 obtain ⟨T2,ad,s3,f1,f2,f3,⟨f4,f4'⟩,f5,f6,_⟩:=fin_spec hfin
 obtain ⟨hns,hkn,ok,hok1,hsp⟩:=pend_spec f4
 have hA':=hA
 obtain ⟨oa,c,a1,a2,a3,a4,a5,a6,a7,a8⟩:=hA
 have e9:oa=ok:=by rw [a1] at hok1; cases hok1; rfl
 subst e9
 intro fuel
 induction fuel with
 | zero =>
  intro listed S ι s s' a w hsz hlen hcl hlk hln hu hcf hrun hev hany hrs
  exfalso
  have hnil:idxs ops.size listed=[]:=List.length_eq_zero_iff.1 hlen
  have:n∈idxs ops.size listed:=mem_idxs.2 ⟨by omega,hln⟩
  rw [hnil] at this; cases this
 | succ fuel ih =>
  intro listed S ι s s' a w hsz hlen hcl hlk hln hu hcf hrun hev hany hrs
  refine ⟨fun hr=>absurd hr (ready_some hd hsz (by intro h; rw [h] at hlen; cases hlen)),fun i' hi=>?_⟩
  obtain ⟨h1,o,ho,hpre⟩:=mem_ready.1 hi
  have hin:i'<ops.size:=(Array.getElem?_eq_some_iff.1 ho).1
  have hmem:i'∈idxs ops.size listed:=mem_idxs.2 ⟨hin,h1⟩
  have hanc:∀ j,j<ops.size→((masksGo ops.toList []).getD i' 0).testBit j=true→listed.getD j false=true:=anc_listed (M:=fun i=>(masksGo ops.toList []).getD i 0) (fun i o ho=>⟨(hM i o ho).1,(hM i o ho).2.1⟩) hcl i' o ho hpre
  by_cases hin2:i'=n
  ·exfalso
   subst hin2
   have:=hanc q.k (by omega) (hsp q.k hkn).1
   rw [getD_flip this] at hlk; cases hlk
  have hlt:i'<n:=by omega
  by_cases hki:i'=q.k
  ·-- the append
   subst hki
   rw [a1] at ho; cases ho
   have hltn:∀ j∈(idxs ops.size listed).filter (fun j=>!(j == n) && !(j == q.k)),j<n:=by
    intro j hj
    obtain ⟨j1,j2⟩:=List.mem_filter.1 hj
    simp only [Bool.and_eq_true,Bool.not_eq_true',beq_eq_false_iff_ne,ne_eq] at j2
    have:=(mem_idxs.1 j1).1; omega
   have hquiet:∀ j∈(idxs ops.size listed).filter (fun j=>!(j == n) && !(j == q.k)),∀ oj,ops[j]?=some oj→(quiet oj=true∨lateSt ops q n j oj s1=true)∧oj.dst≠some q.d∧∀ d,oj.dst=some d→d∉looks ops oa:=by
    intro j hj oj hoj
    have jn:=hltn j hj
    obtain ⟨j1,j2⟩:=List.mem_filter.1 hj
    simp only [Bool.and_eq_true,Bool.not_eq_true',beq_eq_false_iff_ne,ne_eq] at j2
    have hna:¬ ((masksGo ops.toList []).getD q.k 0).testBit j=true:=by
     intro g3
     have:=hanc j (by omega) g3
     have h9:=(mem_idxs.1 j1).2
     rw [getD_flip this] at h9; cases h9
    obtain ⟨o',g1,g2,g3⟩:=(hsp j jn).2 j2.2
    rw [hoj] at g1; cases g1
    refine ⟨?_,g2 q.d a3,?_⟩
    ·rcases late_spec f4' jn j2.2 hoj with h9|h9|h9
     ·exact absurd h9 hna
     ·exact .inl h9
     ·exact .inr h9
    ·rcases g3 with g3|g3
     ·exact absurd g3 hna
     ·exact g3.2
   have hsort:((idxs ops.size listed).filter (fun j=>!(j == n) && !(j == q.k))).Pairwise (·<·):=(idxs_sorted ops.size listed).sublist List.filter_sublist
   obtain ⟨J,f,t1,t2,t3,t4⟩:=late_runs (ops:=ops) (q:=q) (n:=n) hrun hev hu hsort hltn (fun j hj oj hoj=>(hquiet j hj oj hoj).1)
   obtain ⟨i,p0,e,t0,l,m,g,r,qq,bts,b1,b2,b3,b4,b5,b6,b7,b8,b9,b10,b11,b12,b13,b14,b15,b16⟩:=appS_inv hE f6 hp
   have hlook:∀ j,j∉J→look j s.hp=look j s1.hp:=fun j hj=>by rw [← t3 j hj]; exact hev.2 j
   have hget:∀ x,x∈oa.op.operands.toList→s1.ev x=f (s.ev x):=by
    intro x hx
    refine ev_trim t1 (fun t ht=>?_)
    subst ht
    rw [← hev.1 t,t4 t (fun j hj oj hoj hd'=>(hquiet j hj oj hoj).2.2 t hd' (looks_op hx))]
   have hxm:q.x∈oa.op.operands.toList:=by rw [a5]; exact ops_arg (by rw [a7]; simp)
   have hym:q.y∈oa.op.operands.toList:=by rw [a5]; exact ops_arg (by rw [a7]; simp)
   have hxs:s.ev q.x=.at_ i p0:=trim_back' t1 ((hget _ hxm).symm.trans b1) (.inl rfl)
   have hyy:s.ev q.y=s1.ev q.y:=trim_back' t1 (hget _ hym).symm (app1_shape b13)
   have hes:look i s.hp=some e:=(hlook i (fun hm=>by
    have:=(t2 i hm).1
    rw [b1] at this
    simp only [AV.ment,Nat.beq_refl] at this
    cases this)).trans b3
   have happs:(s.ev q.y).app1 s t0=some (⟨t0,m⟩,g):=by
    rw [hyy,app1_st (s:=s1) (t:=s) (fun j hj=>hlook j (fun hm=>by rw [(t2 j hm).2] at hj; cases hj))]
    exact b13
   have hok:okP e.ty e.x p0:=by
    obtain ⟨e2,u,y2,cs,r1,hok,_⟩:=evx hrs hxs
    rw [hes] at r1; cases r1
    exact hok
   obtain ⟨b,off,hl⟩:=loc_stay (hrs.hs.ob i e hes) hrs.hs.slt b16 hok b7
   obtain ⟨v',w',c1,c2,c3,c4⟩:=append_keep hE hrs a5 a6 a7 a8 b12 b11 hxs hes b16 b7 hl happs b4 b5 b14 b15
   have hl':Loc w'.heap ι i e p0=some (b,off):=by obtain ⟨_,h9,_⟩:=c4; exact h9
   have hput:RS B S ι s (a.put (some q.d) v') w':=by
    have h9:=c2.put (d:=some q.d) (by rw [hn]; exact a4) (v:=.any) (val:=v') ⟨v',rfl⟩
    refine rs_eqv (s:=s.put (some q.d) .any) (t:=s) ⟨fun t=>?_,fun _=>rfl⟩ h9
    rw [look_putS]
    split
    ·rename_i e9; cases e9; exact hany.symm
    ·rfl
   have hval:(a.put (some q.d) v').eval (.tmp q.d)=v':=aput_same (by rw [hrs.sz,hn]; simpa [dstOk,Nat.blt_eq] using a4)
   have hset:(idxs ops.size (listed.setIfInBounds q.k true)).filter (fun j=>!(j == n))=(idxs ops.size listed).filter (fun j=>!(j == n) && !(j == q.k)):=idxs_skip hsz hin (fun j=>rfl)
   have hnext:wpAny E.P .any ops Q fuel (listed.setIfInBounds q.k true) (a.put (some q.d) v') w':=by
    refine drawn_late hE hn hd hap hA' ho2 hfin hp hQ (i:=i) (e:=e) (p0:=p0) (t0:=t0) (l:=l) (m:=m) (g:=g) b1 b3 hok b7 b13 (v':=v') fuel (listed.setIfInBounds q.k true) S ι s s' _ w' (by simp [hsz]) (idxs_len hsz hmem hlen) (hcl.set a1 hpre) (listed_set_false (by omega)) (by rw [getD_set_ne true (by omega)]; exact hln) hu (by rw [hset]; exact hcf) (by rw [hset]; exact hrun) hev hput hval ?_
    intro b' off' hb'
    rw [hl'] at hb'; cases hb'
    exact c4
   unfold wpOp
   rw [a1]
   simp only [Region.wanted,a2,if_true]
   refine .inl ?_
   unfold Oper.wp
   rw [c1]
   show wpAny E.P .any ops Q fuel (listed.setIfInBounds q.k true) (a.put oa.dst v') w'
   rw [a3]
   exact hnext
  ·-- another one
   obtain ⟨pre,post,e1,hlt',e2⟩:=idxs_without (f:=fun j=>!(j == n) && !(j == q.k)) hsz hmem (by simp [hin2,hki])
   rw [e1] at hcf hrun
   have er:rem ops (pre++i'::post)=rem ops pre++o::rem ops post:=by simp [rem,List.filterMap_append,ho]
   have er2:rem ops (pre++post)=rem ops pre++rem ops post:=by simp [rem,List.filterMap_append]
   have hapr:Apart (rem ops (pre++i'::post)):=by
    rw [← e1]
    refine Apart.sub ?_
    have:rem ops (idxs ops.size listed)=rem ops ((List.range ops.size).filter (fun i=>!listed.getD i true)):=rfl
    rw [this]
    refine Apart.sub ?_
    have h9:=rem_all (ops:=ops)
    rw [idxs_all] at h9
    rw [h9]; exact hap
   have hind:∀ j∈pre,((masksGo ops.toList []).getD i' 0).testBit j=false∧∀ x,ops[j]?=some x→indep ops x o=true:=by
    intro j hj
    have hji:j∈idxs ops.size listed:=by
     have:j∈(idxs ops.size listed).filter (fun j=>!(j == n) && !(j == q.k)):=by rw [e1]; simp [hj]
     exact (List.mem_filter.1 this).1
    have hnm:((masksGo ops.toList []).getD i' 0).testBit j=false:=by
     cases hm:((masksGo ops.toList []).getD i' 0).testBit j with
     | false=>rfl
     | true =>
      exfalso
      have hjl:=hanc j (mem_idxs.1 hji).1 hm
      have:=(mem_idxs.1 hji).2
      rw [getD_flip hjl] at this
      cases this
    refine ⟨hnm,fun x hx=>?_⟩
    rcases (hM i' o ho).2.2 j x (hlt' j hj) hx with hm|hm
    ·rw [hnm] at hm; cases hm
    ·exact hm
   obtain ⟨pp,sa,sb,k1,k2,k3,k4,_⟩:=bubble ho hapr hind hu (hcf.sub (fun y hy=>by rw [rem_app]; exact List.mem_append_left _ hy)) hrun
   have hnd:o.dst≠some q.d:=by
    obtain ⟨o',g1,g2,_⟩:=(hsp i' hlt).2 hki
    rw [ho] at g1; cases g1
    exact g2 q.d a3
   have hany':look q.d sa.fr=some .any:=by
    obtain ⟨v,ids,f,hf,z1,z2,z3,z4,z5⟩:=place_eff (ops:=ops) hu k1
    obtain ⟨sa',y1,_,y2⟩:=z5 s hu ((Eqv.refl s).agreeV _ _) z2
    rw [k1] at y1; cases y1
    rw [y2.fr,if_neg hnd,hany]
    simp [z1.plain _ (rfl:AV.plain .any=true)]
   rw [er] at hapr hcf
   have hap2:=Apart.cut hapr
   have hps:=place_sound hE hn hrs (ops:=ops) o (k:=fun x=>Tree.cut .skip [] x) (L:=fun _ _ x=>x=sa) (Rt:=fun _=>True) (pl_place.2 ⟨pp,sa,k1,k2,rfl⟩)
    (next:=wpAny E.P .any ops Q fuel (listed.setIfInBounds i' true)) (Q:=Q) (fun S' ι' x a' w' hx hxe=>by
     have hxe:x=sa:=hxe
     subst hxe
     refine ih (listed.setIfInBounds i' true) S' ι' x sb a' w' (by simp [hsz]) (idxs_len hsz hmem hlen) (hcl.set ho hpre) (by rw [getD_set_ne true hki]; exact hlk) (by rw [getD_set_ne true hin2]; exact hln) (place_uniq hu k1) ?_ (by rw [e2]; exact k3) (k4.trans hev) hany' hx
     rw [e2,er2]
     exact CleanFor.step hu (fun y hy=>hcf y (by simp at hy ⊢; rcases hy with hy|hy<;>simp [hy])) hap2.2 k1)
   unfold wpOp
   rw [ho]
   simp only
   split
   ·rename_i hw; rw [if_pos hw] at hps; exact .inl hps
   ·rename_i hw; rw [if_neg hw] at hps; exact hps

theorem drawn_pend (hE:EnvB E B) (hn:B.n=E.nt) {id:Nat} (hd:(drawOk ops && entryOk ops s && E.P.follows .mixedOrders)=true) {Q:Exit→Act→World→Prop} (hA:AppOp E ops q) {s':St}
  (hr:RunsA E ops (fun i=>(masksGo ops.toList []).getD i 0) [] ((List.range' 0 (ops.toList.length - 1)).filter (fun j=>!(j == q.k))) s s') {k:St→Tree (E.rs++wts E.ps)} {L:Code→List Item→St→Prop} {R:DL (E.rs++wts E.ps)→Prop}
  (hf:FinRun E ops (masksGo ops.toList []) q s' k L R) (hany:look q.d s.fr=some .any)
  (hQ:∀ S ι s2 a w,RS B S ι s2 a w→(k s2).holds L R→Q .normal a w) (h:RS B S ι s a w):(Code.region id ops true).wp E.P Q a w:=by
 simp only [Bool.and_eq_true,entryOk,List.all_eq_true] at hd
 obtain ⟨⟨h1,⟨h2,h3⟩,h4⟩,h5⟩:=hd
 refine wp_region_any h5 ?_
 obtain ⟨o2,p,s2,g1,g2,g3,g4⟩:=hf
 obtain ⟨T2,ad,s3,f1,f2,f3,⟨f4,_⟩,f5,f6,_⟩:=fin_spec g2
 obtain ⟨hns,hkn,_⟩:=pend_spec f4
 have hlen:(idxs ops.size (Array.replicate ops.size false)).length=ops.size:=by
  rw [idxs_all]; simp
 have hset:(idxs ops.size (Array.replicate ops.size false)).filter (fun j=>!(j == ops.size - 1) && !(j == q.k))=(List.range' 0 (ops.toList.length - 1)).filter (fun j=>!(j == q.k)):=by
  rw [idxs_all,show List.range ops.size=List.range (ops.size - 1)++[ops.size - 1] from by rw [← List.range_succ]; congr 1; omega,List.filter_append,List.filter_cons]
  simp only [beq_self_eq_true,Bool.not_true,Bool.false_and,Bool.false_eq_true,if_false,List.filter_nil,List.append_nil,Array.length_toList]
  rw [List.range_eq_range']
  refine List.filter_congr (fun j hj=>?_)
  have:j≠ops.size - 1:=by have:=(List.mem_range'_1.1 hj).2; omega
  simp [this]
 refine drawn_early (n:=ops.size - 1) hE hn h1 (apart_of h3) hA g1 g2 g3 (fun S ι a w hh=>hQ S ι _ a w hh g4) ops.size _ S ι s s' a w.drew (by simp) hlen ?_ ?_ ?_ (uniq_of h2) ?_ (by rw [hset]; exact hr) (Eqv.refl _) hany (h.turn Flt.nil Past.drew)
 ·intro k o hk hl
  have:k<ops.size:=(Array.getElem?_eq_some_iff.1 hk).1
  simp [this] at hl
 ·have:q.k<ops.size:=by omega
  simp [this]
 ·have:ops.size - 1<ops.size:=by omega
  simp [this]
 ·intro o ho d hd
  obtain ⟨j,hj,hjo⟩:=List.mem_filterMap.1 ho
  obtain ⟨hj1,hj2⟩:=List.mem_filter.1 hj
  have:=(mem_idxs.1 hj1).1
  simp only [Bool.and_eq_true,Bool.not_eq_true',beq_eq_false_iff_ne,ne_eq] at hj2
  refine h4 d (List.mem_filterMap.2 ⟨o,List.mem_of_getElem? (i:=j) ?_,hd⟩)
  rw [List.getElem?_dropLast,if_pos (by simp; omega)]
  simpa using hjo
end
end
end Go.Ex
