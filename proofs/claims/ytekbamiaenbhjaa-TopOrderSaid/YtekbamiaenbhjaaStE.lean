/- The plain law of the insertion sort; what is sorted in a part of a list. -/
import Derived.Test.YtekbamiaenbhjaaStD
namespace Go.Proofs.Ytekbamiaenbhjaa
open Go.Ex Go.Sort
set_option maxRecDepth 100000
def A4 (ls:List Int) (hs:List y8) (a b:Int):Bool:=decide (a4k ls hs a b<0)
theorem a4D {ls:List Int} {hs:List y8} {a b:Int}:a4k ls hs a b<0↔ls.getD a.toNat 0<ls.getD b.toNat 0∨(ls.getD a.toNat 0=ls.getD b.toNat 0∧(hs.getD a.toNat V5).1<(hs.getD b.toNat V5).1):=by
  unfold a4k a1T
  split<;>(try split)<;>(try split)<;>(try split)<;>first|omega|(simp at *; omega)
theorem b61 (ls:List Int) (hs:List y8):SWO (A4 ls hs) :=
  ⟨fun x=>by rw [A4,decide_eq_false_iff_not,a4D]; omega,fun x y z=>by simp only [A4,decide_eq_true_eq,a4D]; omega,fun x y z=>by simp only [A4,decide_eq_false_iff_not,a4D]; omega⟩
def OkL (ls:List Int) (hs:List y8) (l:List Int):Prop:=ls.length=hs.length∧(l.length≤4611686018427387904∧∀ x∈l,0≤x∧x<(ls.length:Int))∧∀ a∈l,∀ b∈l,A4 ls hs a b=false→A4 ls hs b a=false→a=b
theorem OkL.perm {ls:List Int} {hs:List y8} {l m:List Int} (h:OkL ls hs l) (hp:m.Perm l):OkL ls hs m :=
  ⟨h.1,⟨by rw [hp.length_eq]; exact h.2.1.1,fun x hx=>h.2.1.2 x (hp.mem_iff.1 hx)⟩,fun a ha b hb=>h.2.2 a (hp.mem_iff.1 ha) b (hp.mem_iff.1 hb)⟩
def s9 (lt:Int→Int→Bool) (l:List Int) (a b:Nat):List Int:=l.take a++(x7 lt ((l.take b).drop a)++l.drop b)
section
variable {lt:Int→Int→Bool} {l:List Int} {a b i j:Nat} {o:List Int}
theorem b7m (h:a≤b):l=l.take a++((l.take b).drop a++l.drop b):=by
  have e:(l.take b).drop a++l.drop b=l.drop a:=by
    have:=List.take_append_drop (b - a) (l.drop a)
    rw [List.drop_drop,show a+(b - a)=b by omega] at this
    rw [← this,List.drop_take]
  rw [e,List.take_append_drop]
theorem X4 (h:a≤b):(s9 lt l a b).Perm l:=by
  conv=>rhs; rw [b7m (l:=l) h]
  exact List.Perm.append_left _ (List.Perm.append_right _ (G8 lt _))
theorem a7H (h:a≤b):(s9 lt l a b).length=l.length:=(X4 h).length_eq
theorem a8l (h:a≤b) (hb:b≤l.length):((l.take b).drop a).length=b - a:=by rw [List.length_drop,List.length_take]; omega
theorem a3y {x:Int} (h:x∈(l.take b).drop a):x∈l:=List.mem_of_mem_take (List.mem_of_mem_drop h)
theorem b4V (hO:SWO lt) (h:a≤b) (hb:b≤a+1):s9 lt l a b=l:=by
  have:x7 lt ((l.take b).drop a)=(l.take b).drop a:=by
    have hl:((l.take b).drop a).length≤1:=by rw [List.length_drop,List.length_take]; omega
    match hh:(l.take b).drop a,hl with
    | [],_=>simp [x7]
    | [x],_=>simp [x7]
  rw [s9,this,← b7m h]
def a6Z (lt:Int→Int→Bool) (l:List Int) (a i j:Nat) (o:List Int):Prop:=∃ P Q,o=l.take a++(P++(l.getD i 0::(Q++l.drop (i+1))))∧a+P.length=j∧P++Q=x7 lt ((l.take i).drop a)∧∀ q∈Q,lt (l.getD i 0) q=true
theorem a0z (h:i<l.length):l.drop i=l.getD i 0::l.drop (i+1):=by
  rw [List.drop_eq_getElem_cons h,List.getD_eq_getElem?_getD,List.getElem?_eq_getElem h]; rfl
theorem c1z (h:a≤i) (hi:i<l.length):a6Z lt l a i i (s9 lt l a i):=by
  refine ⟨x7 lt ((l.take i).drop a),[],?_,?_,by simp,by simp⟩
  · rw [s9,a0z hi]; rfl
  · rw [(G8 lt _).length_eq,a8l h (by omega)]; omega
theorem a2G (h:a≤i) (hi:i<l.length):(l.take (i+1)).drop a=(l.take i).drop a++[l.getD i 0]:=by
  have e:l.take (i+1)=l.take i++[l.getD i 0]:=by
    rw [List.take_add_one,List.getElem?_eq_getElem hi,List.getD_eq_getElem?_getD,List.getElem?_eq_getElem hi]; rfl
  rw [e,List.drop_append_of_le_length (by rw [List.length_take]; omega)]
theorem c1y (h:a≤i) (hi:i<l.length) (hI:a6Z lt l a i j o):o.Perm l:=by
  obtain ⟨P,Q,rfl,-,e,-⟩:=hI
  conv=>rhs; rw [b7m (l:=l) (a:=a) (b:=i+1) (by omega),a2G h hi]
  refine List.Perm.append_left _ ?_
  rw [show P++(l.getD i 0::(Q++l.drop (i+1)))=(P++(l.getD i 0::Q))++l.drop (i+1) by simp]
  refine List.Perm.append_right _ ?_
  refine List.perm_middle.trans ?_
  rw [e]
  exact (List.perm_append_singleton _ _).symm.trans (List.Perm.append_right _ (G8 lt _))
theorem b9K (h:a≤l.length) (hI:a6Z lt l a i j o):o.getD j 0=l.getD i 0:=by
  obtain ⟨P,Q,rfl,e,-,-⟩:=hI
  have l1:(l.take a).length=a:=by rw [List.length_take]; omega
  rw [List.getD_eq_getElem?_getD,List.getElem?_append_right (by omega),List.getElem?_append_right (by omega),show j - (l.take a).length - P.length=0 by omega]
  rfl
theorem c1x (h:a≤l.length) (hj:a<j) (hI:a6Z lt l a i j o) (hc:lt (o.getD j 0) (o.getD (j - 1) 0)=true):a6Z lt l a i (j - 1) (swp o j (j - 1)):=by
  have hx:=b9K h hI
  rw [hx] at hc
  obtain ⟨P,Q,rfl,e,eq,hq⟩:=hI
  have l1:(l.take a).length=a:=by rw [List.length_take]; omega
  obtain ⟨P',y,rfl⟩:∃ P' y,P=P'++[y]:=by
    rcases List.eq_nil_or_concat P with rfl|⟨P',y,rfl⟩
    · simp at e; omega
    · exact ⟨P',y,by simp⟩
  have e':a+P'.length=j - 1:=by rw [List.length_append,List.length_singleton] at e; omega
  have eo:l.take a++(P'++[y]++(l.getD i 0::(Q++l.drop (i+1))))=(l.take a++P')++(y::([]++(l.getD i 0::(Q++l.drop (i+1))))):=by simp
  have l2:(l.take a++P').length=j - 1:=by rw [List.length_append,l1,e']
  have hy:(l.take a++(P'++[y]++(l.getD i 0::(Q++l.drop (i+1))))).getD (j - 1) 0=y:=by
    rw [eo,List.getD_eq_getElem?_getD,List.getElem?_append_right (by omega),l2,Nat.sub_self]; rfl
  rw [hy] at hc
  refine ⟨P',y::Q,?_,e',?_,?_⟩
  · have sc:∀ (u:List Int) (m n:Nat),m≠n→swp u m n=swp u n m:=fun u m n hmn=>by rw [swp,swp,List.set_comm _ _ hmn]
    have:=a9e (l.take a++P') [] (Q++l.drop (i+1)) y (l.getD i 0)
    rw [← eo,l2] at this
    rw [sc _ _ _ (by omega)]
    have e1:j - 1+(1+([]:List Int).length)=j:=by simp; omega
    rw [e1] at this
    rw [this]; simp
  · rw [← eq]; simp
  · intro q hq'
    rcases List.mem_cons.1 hq' with rfl|hq'
    · exact hc
    · exact hq q hq'
theorem b6h (hO:SWO lt) (h:a≤i) (hi:i<l.length) (ht:∀ a∈l,∀ b∈l,lt a b=false→lt b a=false→a=b) (hI:a6Z lt l a i j o) (hc:j=a∨lt (o.getD j 0) (o.getD (j - 1) 0)=false):o=s9 lt l a (i+1):=by
  have hx:=b9K (by omega) hI
  rw [hx] at hc
  obtain ⟨P,Q,rfl,e,eq,hq⟩:=hI
  have l1:(l.take a).length=a:=by rw [List.length_take]; omega
  have hs:=U7 hO ((l.take i).drop a)
  rw [← eq] at hs
  obtain ⟨s1,s2,s3⟩:=List.pairwise_append.1 hs
  have hP:∀ p∈P,lt (l.getD i 0) p=false:=by
    intro p hp
    rcases List.eq_nil_or_concat P with rfl|⟨P',y,rfl⟩
    · cases hp
    · have hc:lt (l.getD i 0) y=false:=by
        rcases hc with hc|hc
        · rw [List.concat_eq_append,List.length_append,List.length_singleton] at e; omega
        · have:(l.take a++(List.concat P' y++(l.getD i 0::(Q++l.drop (i+1))))).getD (j - 1) 0=y:=by
            have e':a+P'.length=j - 1:=by rw [List.concat_eq_append,List.length_append,List.length_singleton] at e; omega
            rw [show l.take a++(List.concat P' y++(l.getD i 0::(Q++l.drop (i+1))))=(l.take a++P')++(y::(l.getD i 0::(Q++l.drop (i+1)))) by simp,List.getD_eq_getElem?_getD,List.getElem?_append_right (by rw [List.length_append]; omega),show j - 1 - (l.take a++P').length=0 by rw [List.length_append]; omega]; rfl
          rwa [this] at hc
      rw [List.concat_eq_append] at s1 hp
      exact hO.ntrans _ _ _ hc (b3s hO s1 hp)
  rw [s9,a2G h hi]
  have key:P++(l.getD i 0::Q)=x7 lt ((l.take i).drop a++[l.getD i 0]):=by
    refine Y6 hO ?_ ?_ ?_
    · refine List.perm_middle.trans ?_
      rw [eq]
      exact (List.perm_append_singleton _ _).symm.trans (List.Perm.append_right _ (G8 lt _))
    · refine List.pairwise_append.2 ⟨s1,List.pairwise_cons.2 ⟨fun q hq'=>?_,s2⟩,fun p hp q hq'=>?_⟩
      · cases hh:lt q (l.getD i 0) with
        | false=>rfl
        | true=>have:=hO.trans _ _ _ (hq q hq') hh; rw [hO.irrefl] at this; cases this
      · rcases List.mem_cons.1 hq' with rfl|hq'
        · exact hP p hp
        · exact s3 p hp q hq'
    · have mem:∀ y∈(l.take i).drop a++[l.getD i 0],y∈l:=by
        intro y hy
        rw [← a2G h hi] at hy
        exact a3y hy
      exact fun x hx y hy=>ht x (mem x hx) y (mem y hy)
  rw [← key]; simp
end
end Go.Proofs.Ytekbamiaenbhjaa
