/- rotateCmpFunc at int: neighbouring parts of a slice change places. Conditions: they lie in the slice. -/
import Derived.Test.YtekbamiaenbhjaaStB
namespace Go.Proofs.Ytekbamiaenbhjaa
open Go.Ex Go.Sort
set_option maxRecDepth 100000
theorem a9e (A B C:List Int) (x y:Int):swp (A++(x::(B++(y::C)))) A.length (A.length+(1+B.length))=A++(y::(B++(x::C))):=by
  have e1:(A++(x::(B++(y::C)))).getD A.length 0=x:=by simp [List.getD_eq_getElem?_getD]
  have e2:(A++(x::(B++(y::C)))).getD (A.length+(1+B.length)) 0=y:=by
    rw [List.getD_eq_getElem?_getD,List.getElem?_append_right (by omega),show A.length+(1+B.length) - A.length=B.length+1 by omega,List.getElem?_cons_succ,List.getElem?_append_right (by omega),Nat.sub_self]
    rfl
  rw [swp,e1,e2,List.set_append_right _ _ (by omega),Nat.sub_self,List.set_cons_zero,List.set_append_right _ _ (by omega),show A.length+(1+B.length) - A.length=B.length+1 by omega,List.set_cons_succ,List.set_append_right _ _ (by omega),Nat.sub_self,List.set_cons_zero]
theorem a26:∀ (n:Nat) (P X M Y S:List Int),X.length=n→Y.length=n→swN (P++(X++(M++(Y++S)))) P.length (P.length+(n+M.length)) n=P++(Y++(M++(X++S)))
  | 0,P,X,M,Y,S,hX,hY=>by
    have hX:=List.length_eq_zero_iff.1 hX
    have hY:=List.length_eq_zero_iff.1 hY
    subst hX hY
    rfl
  | n+1,P,X,M,Y,S,hX,hY=>by
    obtain ⟨X',x,rfl⟩:∃ X' x,X=X'++[x]:=by
      rcases List.eq_nil_or_concat X with rfl|⟨X',x,rfl⟩
      · cases hX
      · exact ⟨X',x,by simp⟩
    obtain ⟨Y',y,rfl⟩:∃ Y' y,Y=Y'++[y]:=by
      rcases List.eq_nil_or_concat Y with rfl|⟨Y',y,rfl⟩
      · cases hY
      · exact ⟨Y',y,by simp⟩
    have hX:X'.length=n:=by simpa using hX
    have hY:Y'.length=n:=by simpa using hY
    have ih:=a26 n P X' (x::M) Y' (y::S) hX hY
    have e0:P++(X'++[x]++(M++(Y'++[y]++S)))=P++(X'++((x::M)++(Y'++(y::S)))):=by simp
    have e1:P.length+(n+1+M.length)=P.length+(n+(x::M).length):=by rw [List.length_cons]; omega
    rw [swN,e0,e1,ih]
    have e2:P++(Y'++((x::M)++(X'++(y::S))))=(P++Y')++(x::((M++X')++(y::S))):=by simp
    have e3:P++(Y'++[y]++(M++(X'++[x]++S)))=(P++Y')++(y::((M++X')++(x::S))):=by simp
    have e4:P.length+n=(P++Y').length:=by rw [List.length_append]; omega
    have e5:P.length+(n+(x::M).length)+n=(P++Y').length+(1+(M++X').length):=by rw [List.length_append,List.length_append,List.length_cons]; omega
    rw [e2,e3,e4,e5,a9e]
def E2 (l:List Int) (a m b:Nat):List Int:=l.take a++((l.take b).drop m++((l.take m).drop a++l.drop b))
theorem a0f (P X Y S:List Int):E2 (P++(X++(Y++S))) P.length (P.length+X.length) (P.length+(X.length+Y.length))=P++(Y++(X++S)):=by
  unfold E2
  have t1:(P++(X++(Y++S))).take P.length=P:=List.take_left' rfl
  have t2:(P++(X++(Y++S))).take (P.length+(X.length+Y.length))=P++(X++Y):=by
    rw [show P++(X++(Y++S))=(P++(X++Y))++S by simp]; exact List.take_left' (by simp)
  have t3:(P++(X++(Y++S))).take (P.length+X.length)=P++X:=by
    rw [show P++(X++(Y++S))=(P++X)++(Y++S) by simp]; exact List.take_left' (by simp)
  have d1:(P++(X++Y)).drop (P.length+X.length)=Y:=by
    rw [show P++(X++Y)=(P++X)++Y by simp]; exact List.drop_left' (by simp)
  have d2:(P++X).drop P.length=X:=List.drop_left' rfl
  have d3:(P++(X++(Y++S))).drop (P.length+(X.length+Y.length))=S:=by
    rw [show P++(X++(Y++S))=(P++(X++Y))++S by simp]; exact List.drop_left' (by simp)
  rw [t1,t2,t3,d1,d2,d3]
theorem a4d {l:List Int} {a m b:Nat} (h1:a≤m) (h2:m≤b) (h3:b≤l.length):∃ P X Y S,l=P++(X++(Y++S))∧P.length=a∧X.length=m - a∧Y.length=b - m:=by
  refine ⟨l.take a,(l.take m).drop a,(l.take b).drop m,l.drop b,?_,by rw [List.length_take]; omega,by rw [List.length_drop,List.length_take]; omega,by rw [List.length_drop,List.length_take]; omega⟩
  have e1:(l.take b).drop m++l.drop b=l.drop m:=by
    have:=List.take_append_drop (b - m) (l.drop m)
    rw [List.drop_drop,show m+(b - m)=b by omega] at this
    rw [← this,List.drop_take]
  have e2:(l.take m).drop a++l.drop m=l.drop a:=by
    have:=List.take_append_drop (m - a) (l.drop a)
    rw [List.drop_drop,show a+(m - a)=m by omega] at this
    rw [← this,List.drop_take]
  rw [e1,e2,List.take_append_drop]
theorem c0X {l:List Int} {i j m:Nat} (h1:j<i) (h2:i≤m) (h3:m+j≤l.length):E2 (swN l (m - i) m j) (m - (i - j)) m (m+j)=E2 l (m - i) m (m+j):=by
  obtain ⟨P,X,Y,S,rfl,hP,hX,hY⟩:=a4d (l:=l) (a:=m - i) (m:=m) (b:=m+j) (by omega) (by omega) h3
  have hX:X.length=i:=by omega
  have hY:Y.length=j:=by omega
  have eX:X=X.take j++X.drop j:=(List.take_append_drop j X).symm
  have l1:(X.take j).length=j:=by rw [List.length_take]; omega
  have l2:(X.drop j).length=i - j:=by rw [List.length_drop,hX]
  have s1:=a26 j P (X.take j) (X.drop j) Y S l1 hY
  have e1:P++(X.take j++(X.drop j++(Y++S)))=P++(X++(Y++S)):=by
    rw [← List.append_assoc (X.take j),List.take_append_drop]
  rw [e1,hP,l2,show m - i+(j+(i - j))=m by omega] at s1
  rw [s1]
  have r1:=a0f P X Y S
  rw [hP,hX,hY,show m - i+i=m by omega,show m - i+(i+j)=m+j by omega] at r1
  rw [r1]
  have r2:=a0f (P++Y) (X.drop j) (X.take j) S
  rw [List.length_append,hP,hY,l1,l2,show m - i+j+(i - j)=m by omega,show m - i+j+(i - j+j)=m+j by omega] at r2
  have e2:P++Y++(X.drop j++(X.take j++S))=P++(Y++(X.drop j++(X.take j++S))):=by simp
  rw [e2] at r2
  rw [show m - (i - j)=m - i+j by omega,r2,← List.append_assoc (X.take j),List.take_append_drop,List.append_assoc]
theorem c0Y {l:List Int} {i j m:Nat} (h1:i<j) (h2:i≤m) (h3:m+j≤l.length):E2 (swN l (m - i) (m+j - i) i) (m - i) m (m+(j - i))=E2 l (m - i) m (m+j):=by
  obtain ⟨P,X,Y,S,rfl,hP,hX,hY⟩:=a4d (l:=l) (a:=m - i) (m:=m) (b:=m+j) (by omega) (by omega) h3
  have hX:X.length=i:=by omega
  have hY:Y.length=j:=by omega
  have eY:Y=Y.take (j - i)++Y.drop (j - i):=(List.take_append_drop (j - i) Y).symm
  have l1:(Y.take (j - i)).length=j - i:=by rw [List.length_take]; omega
  have l2:(Y.drop (j - i)).length=i:=by rw [List.length_drop,hY]; omega
  have s1:=a26 i P X (Y.take (j - i)) (Y.drop (j - i)) S hX l2
  have e1:P++(X++(Y.take (j - i)++(Y.drop (j - i)++S)))=P++(X++(Y++S)):=by
    rw [← List.append_assoc (Y.take (j - i)),List.take_append_drop]
  rw [e1,hP,l1,show m - i+(i+(j - i))=m+j - i by omega] at s1
  rw [s1]
  have r1:=a0f P X Y S
  rw [hP,hX,hY,show m - i+i=m by omega,show m - i+(i+j)=m+j by omega] at r1
  rw [r1]
  have r2:=a0f P (Y.drop (j - i)) (Y.take (j - i)) (X++S)
  rw [hP,l1,l2,show m - i+i=m by omega,show m - i+(i+(j - i))=m+(j - i) by omega] at r2
  rw [r2,← List.append_assoc (Y.take (j - i)),List.take_append_drop]
theorem c0Z {l:List Int} {i m:Nat} (h2:i≤m) (h3:m+i≤l.length):swN l (m - i) m i=E2 l (m - i) m (m+i):=by
  obtain ⟨P,X,Y,S,rfl,hP,hX,hY⟩:=a4d (l:=l) (a:=m - i) (m:=m) (b:=m+i) (by omega) (by omega) h3
  have hX:X.length=i:=by omega
  have hY:Y.length=i:=by omega
  have s1:=a26 i P X [] Y S hX hY
  rw [hP] at s1
  have r1:=a0f P X Y S
  rw [hP,hX,hY,show m - i+i=m by omega,show m - i+(i+i)=m+i by omega] at r1
  rw [r1]
  have:m - i+(i+([]:List Int).length)=m:=by simp; omega
  rw [this] at s1
  exact s1
end Go.Proofs.Ytekbamiaenbhjaa
