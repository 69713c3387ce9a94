/- The plain law of one step of the symmetric merge, and of the insertions it ends with. -/
import Derived.Test.YtekbamiaenbhjaaStF
namespace Go.Proofs.Ytekbamiaenbhjaa
open Go.Ex Go.Sort
set_option maxRecDepth 100000
def G7 (lt:Int→Int→Bool) (l:List Int) (a b:Nat):Prop:=a0i lt ((l.take b).drop a)
theorem a2E (P X S:List Int):((P++(X++S)).take (P.length+X.length)).drop P.length=X:=by
  rw [show P++(X++S)=(P++X)++S by simp,List.take_left' (by simp)]
  exact List.drop_left' rfl
theorem a5a (lt:Int→Int→Bool) (P X S:List Int):s9 lt (P++(X++S)) P.length (P.length+X.length)=P++(x7 lt X++S):=by
  rw [s9,a2E,List.take_left' rfl]
  rw [show P++(X++S)=(P++X)++S by simp,List.drop_left' (by simp)]
theorem b3y (P S:List Int) (x:Int):(P++(x::S)).getD P.length 0=x:=by
  rw [List.getD_eq_getElem?_getD,List.getElem?_append_right (by omega),Nat.sub_self]; rfl
section
variable {lt:Int→Int→Bool} {l:List Int} {a b m s e mid:Nat}
theorem b3g (hO:SWO lt) {X:List Int} (h:a0i lt X) (ht:∀ a∈X,∀ b∈X,lt a b=false→lt b a=false→a=b):x7 lt X=X:=(Y6 hO (List.Perm.refl X) h ht).symm
theorem a0J (hO:SWO lt) (h:G7 lt l a b) (hb:b≤l.length) {x y:Nat} (h1:a≤x) (h2:x≤y) (h3:y<b):lt (l.getD y 0) (l.getD x 0)=false:=by
  by_cases hxy:x=y
  · subst hxy; exact hO.irrefl _
  · have hl:((l.take b).drop a).length=b - a:=by rw [List.length_drop,List.length_take]; omega
    have g:∀ z,a≤z→z<b→((l.take b).drop a)[z - a]?=some (l.getD z 0):=by
      intro z z1 z2
      rw [List.getElem?_drop,show a+(z - a)=z by omega,List.getElem?_take,if_pos z2,List.getD_eq_getElem?_getD,List.getElem?_eq_getElem (by omega)]; rfl
    have p:=List.pairwise_iff_getElem.1 h (x - a) (y - a) (by omega) (by omega) (by omega)
    have gx:=g x h1 (by omega)
    have gy:=g y (by omega) h3
    rw [List.getElem?_eq_getElem (by omega)] at gx gy
    rw [Option.some.inj gx,Option.some.inj gy] at p
    exact p
structure c5n (lt:Int→Int→Bool) (l:List Int) (a s m e b mid:Nat):Prop where
  all:s9 lt (s9 lt (E2 l s m e) a mid) mid b=s9 lt l a b
  rot:s=m∨m=e→E2 l s m e=l
  r1:G7 lt (E2 l s m e) a s
  r2:G7 lt (E2 l s m e) s mid
  r3:G7 lt (s9 lt (E2 l s m e) a mid) mid e
  r4:G7 lt (s9 lt (E2 l s m e) a mid) e b
  n1:a=s∨s=mid→s9 lt (E2 l s m e) a mid=E2 l s m e
  n2:mid=e∨e=b→s9 lt (s9 lt (E2 l s m e) a mid) mid b=s9 lt (E2 l s m e) a mid
  perm:(E2 l s m e).Perm l
theorem c0P (hO:SWO lt) (h1:a≤s) (h2:s≤m) (h3:m≤e) (h4:e≤b) (h5:b≤l.length) (hm:mid+m=s+e) (o1:G7 lt l a m) (o2:G7 lt l m b) (hAD:a<s→e<b→lt (l.getD e 0) (l.getD (s - 1) 0)=false) (hCB:s<m→m<e→lt (l.getD s 0) (l.getD (e - 1) 0)=false) (ht:∀ a∈l,∀ b∈l,lt a b=false→lt b a=false→a=b):c5n lt l a s m e b mid:=by
  obtain ⟨P,X,Y,S,hl,hP,hX,hY⟩:=a4d (l:=l) (a:=a) (m:=m) (b:=b) (by omega) (by omega) h5
  obtain ⟨A,B,rfl,hA,hB⟩:∃ A B,X=A++B∧A.length=s - a∧B.length=m - s:=⟨X.take (s - a),X.drop (s - a),(List.take_append_drop ..).symm,by rw [List.length_take]; omega,by rw [List.length_drop]; omega⟩
  obtain ⟨C,D,rfl,hC,hD⟩:∃ C D,Y=C++D∧C.length=e - m∧D.length=b - e:=⟨Y.take (e - m),Y.drop (e - m),(List.take_append_drop ..).symm,by rw [List.length_take]; omega,by rw [List.length_drop]; omega⟩
  have ea:a=P.length:=hP.symm
  have es:s=P.length+A.length:=by omega
  have em:m=P.length+(A.length+B.length):=by omega
  have ee:e=P.length+(A.length+B.length+C.length):=by omega
  have eb:b=P.length+(A.length+B.length+C.length+D.length):=by omega
  have ed:mid=P.length+(A.length+C.length):=by omega
  have er:E2 l s m e=P++((A++C)++((B++D)++S)):=by
    have:=a0f (P++A) B C (D++S)
    rw [List.length_append] at this
    rw [hl,es,em,ee]
    rw [show P.length+(A.length+B.length)=P.length+A.length+B.length by omega,show P.length+(A.length+B.length+C.length)=P.length+A.length+(B.length+C.length) by omega]
    simpa using this
  have X1:((l.take m).drop a)=A++B:=by
    have:=a2E P (A++B) (C++D++S)
    rw [List.length_append] at this
    rw [hl,em,ea]; exact this
  have X2:((l.take b).drop m)=C++D:=by
    have:=a2E (P++(A++B)) (C++D) S
    rw [List.length_append,List.length_append,List.length_append] at this
    rw [hl,em,eb,show P.length+(A.length+B.length+C.length+D.length)=P.length+(A.length+B.length)+(C.length+D.length) by omega]
    simpa using this
  have O1:a0i lt (A++B):=by have:=o1; rwa [G7,X1] at this
  have O2:a0i lt (C++D):=by have:=o2; rwa [G7,X2] at this
  have ht2:∀ x∈A++B++(C++D),∀ y∈A++B++(C++D),lt x y=false→lt y x=false→x=y:=by
    have mm:∀ x∈A++B++(C++D),x∈l:=by
      intro x hx; rw [hl]
      simp only [List.mem_append] at hx ⊢
      rcases hx with (h|h)|(h|h)<;>simp [h]
    exact fun x hx y hy=>ht x (mm x hx) y (mm y hy)
  have hAD2:∀ A' a d D',A=A'++[a]→D=d::D'→lt d a=false:=by
    intro A' x d D' e1 e2
    subst e1 e2
    have:=hAD (by simp at hA; omega) (by simp at hD; omega)
    have g1:l.getD e 0=d:=by
      have:=b3y (P++(A'++[x]++B)++C) (D'++S) d
      rw [hl,ee]
      have el:(P++(A'++[x]++B)++C).length=P.length+((A'++[x]).length+B.length+C.length):=by simp only [List.length_append]; omega
      rw [el] at this
      simpa using this
    have g2:l.getD (s - 1) 0=x:=by
      rw [hl,es]
      simp
    rwa [g1,g2] at this
  have hCB2:∀ C' c b B',C=C'++[c]→B=b::B'→lt b c=false:=by
    intro C' c y B' e1 e2
    subst e1 e2
    have:=hCB (by simp at hB; omega) (by simp at hC; omega)
    have g1:l.getD s 0=y:=by
      rw [hl,es]
      simp
    have g2:l.getD (e - 1) 0=c:=by
      have:=b3y (P++(A++y::B')++C') (D++S) c
      rw [hl,ee]
      have el:(P++(A++y::B')++C').length=P.length+(A.length+(y::B').length+(C'++[c]).length) - 1:=by simp only [List.length_append,List.length_cons,List.length_nil]; omega
      rw [el] at this
      simpa using this
    rwa [g1,g2] at this
  have merge:=b89 hO O1 O2 hAD2 hCB2 ht2
  have s1:s9 lt (E2 l s m e) a mid=P++(x7 lt (A++C)++((B++D)++S)):=by
    rw [er,ea,ed]
    have:=a5a lt P (A++C) (B++D++S)
    rwa [List.length_append] at this
  have ls1:(x7 lt (A++C)).length=A.length+C.length:=by rw [(G8 lt _).length_eq,List.length_append]
  have s2:s9 lt (s9 lt (E2 l s m e) a mid) mid b=P++(x7 lt (A++C)++(x7 lt (B++D)++S)):=by
    rw [s1,ed,eb]
    have:=a5a lt (P++x7 lt (A++C)) (B++D) S
    rw [List.length_append,ls1,List.length_append,show P.length+(A.length+C.length)+(B.length+D.length)=P.length+(A.length+B.length+C.length+D.length) by omega] at this
    simpa using this
  have s3:s9 lt l a b=P++(x7 lt (A++B++(C++D))++S):=by
    have:=a5a lt P (A++B++(C++D)) S
    rw [hl,ea,eb]
    rw [show (A++B++(C++D)).length=A.length+B.length+C.length+D.length by simp only [List.length_append]; omega] at this
    simpa using this
  have OA:a0i lt A:=(List.pairwise_append.1 O1).1
  have OB:a0i lt B:=(List.pairwise_append.1 O1).2.1
  have OC:a0i lt C:=(List.pairwise_append.1 O2).1
  have OD:a0i lt D:=(List.pairwise_append.1 O2).2.1
  have tAC:∀ x∈A++C,∀ y∈A++C,lt x y=false→lt y x=false→x=y:=fun x hx y hy=>ht2 x (by simp only [List.mem_append] at hx ⊢; rcases hx with h|h<;>simp [h]) y (by simp only [List.mem_append] at hy ⊢; rcases hy with h|h<;>simp [h])
  have tBD:∀ x∈B++D,∀ y∈B++D,lt x y=false→lt y x=false→x=y:=fun x hx y hy=>ht2 x (by simp only [List.mem_append] at hx ⊢; rcases hx with h|h<;>simp [h]) y (by simp only [List.mem_append] at hy ⊢; rcases hy with h|h<;>simp [h])
  refine ⟨?_,?_,?_,?_,?_,?_,?_,?_,?_⟩
  · rw [s2,s3,← merge]; simp
  · intro h
    have:B=[]∨C=[]:=by
      rcases h with h|h
      · left; exact List.length_eq_zero_iff.1 (by omega)
      · right; exact List.length_eq_zero_iff.1 (by omega)
    rw [er,hl]
    rcases this with h|h<;>subst h<;>simp
  · have:=a2E P A (C++(B++D++S))
    rw [G7,er,ea,es,show P++(A++C++(B++D++S))=P++(A++(C++(B++D++S))) by simp,this]
    exact OA
  · have:=a2E (P++A) C (B++D++S)
    rw [List.length_append] at this
    rw [G7,er,es,ed,show P++(A++C++(B++D++S))=P++A++(C++(B++D++S)) by simp,← Nat.add_assoc,this]
    exact OC
  · have:=a2E (P++x7 lt (A++C)) B (D++S)
    rw [List.length_append,ls1] at this
    rw [G7,s1,ed,ee,show P.length+(A.length+B.length+C.length)=P.length+(A.length+C.length)+B.length by omega,show P++(x7 lt (A++C)++(B++D++S))=P++x7 lt (A++C)++(B++(D++S)) by simp,this]
    exact OB
  · have:=a2E (P++x7 lt (A++C)++B) D S
    rw [List.length_append,List.length_append,ls1] at this
    rw [G7,s1,ee,eb,show P.length+(A.length+B.length+C.length+D.length)=P.length+(A.length+C.length)+B.length+D.length by omega,show P.length+(A.length+B.length+C.length)=P.length+(A.length+C.length)+B.length by omega,show P++(x7 lt (A++C)++(B++D++S))=P++x7 lt (A++C)++B++(D++S) by simp,this]
    exact OD
  · intro h
    have:A=[]∨C=[]:=by
      rcases h with h|h
      · left; exact List.length_eq_zero_iff.1 (by omega)
      · right; exact List.length_eq_zero_iff.1 (by omega)
    rw [s1,er]
    have:x7 lt (A++C)=A++C:=b3g hO (by rcases this with h|h<;>subst h<;>simpa) tAC
    rw [this]
  · intro h
    have:B=[]∨D=[]:=by
      rcases h with h|h
      · left; exact List.length_eq_zero_iff.1 (by omega)
      · right; exact List.length_eq_zero_iff.1 (by omega)
    rw [s2,s1]
    have:x7 lt (B++D)=B++D:=b3g hO (by rcases this with h|h<;>subst h<;>simpa) tBD
    rw [this]
  · rw [er,hl]
    refine List.Perm.append_left P ?_
    rw [show A++C++(B++D++S)=A++(C++B++(D++S)) by simp,show A++B++(C++D++S)=A++(B++C++(D++S)) by simp]
    exact List.Perm.append_left A (List.Perm.append_right _ List.perm_append_comm)
end
end Go.Proofs.Ytekbamiaenbhjaa
