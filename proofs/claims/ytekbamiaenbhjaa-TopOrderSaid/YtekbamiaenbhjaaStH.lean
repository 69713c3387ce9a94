/- The plain law of the insertions that the symmetric merge ends with. -/
import Derived.Test.YtekbamiaenbhjaaStG
namespace Go.Proofs.Ytekbamiaenbhjaa
open Go.Ex Go.Sort
set_option maxRecDepth 100000
def mvR (l:List Int) (a k:Nat):List Int:=l.take a++((l.take (k+1)).drop (a+1)++(l.getD a 0::l.drop (k+1)))
def mvL (l:List Int) (m k:Nat):List Int:=l.take k++(l.getD m 0::((l.take m).drop k++l.drop (m+1)))
section
variable {lt:Int→Int→Bool} {l:List Int} {a b m i k:Nat}
theorem c0M (h:i<l.length):l.take (i+1)=l.take i++[l.getD i 0]:=by
  rw [List.take_add_one,List.getElem?_eq_getElem h,List.getD_eq_getElem?_getD,List.getElem?_eq_getElem h]; rfl
theorem c1e (h:a<l.length):mvR l a a=l:=by
  have e:(l.take (a+1)).drop (a+1)=[]:=List.drop_eq_nil_of_le (by rw [List.length_take]; omega)
  rw [mvR,e,List.nil_append,← a0z h,List.take_append_drop]
theorem c1h (h:m<l.length):mvL l m m=l:=by
  have e:(l.take m).drop m=[]:=List.drop_eq_nil_of_le (by rw [List.length_take]; omega)
  rw [mvL,e,List.nil_append,← a0z h,List.take_append_drop]
theorem c1f (h1:a≤k) (h2:k+1<l.length):swp (mvR l a k) k (k+1)=mvR l a (k+1):=by
  have e1:l.drop (k+1)=l.getD (k+1) 0::l.drop (k+1+1):=a0z h2
  have e2:=a2G (l:=l) (a:=a+1) (i:=k+1) (by omega) h2
  have s:=a9e (l.take a++(l.take (k+1)).drop (a+1)) [] (l.drop (k+1+1)) (l.getD a 0) (l.getD (k+1) 0)
  have el:(l.take a++(l.take (k+1)).drop (a+1)).length=k:=by rw [List.length_append,List.length_take,List.length_drop,List.length_take]; omega
  rw [el,List.length_nil,show k+(1+0)=k+1 by omega] at s
  rw [mvR,e1,mvR,e2]
  simpa using s
theorem c0Q (l:List Int) {i j:Nat} (h:i≠j):swp l i j=swp l j i:=by rw [swp,swp,List.set_comm _ _ h]
theorem c1i (h1:k<m) (h2:m<l.length):swp (mvL l m (k+1)) (k+1) k=mvL l m k:=by
  have e1:(l.take m).drop k=l.getD k 0::(l.take m).drop (k+1):=by
    have:=a0z (l:=l.take m) (i:=k) (by rw [List.length_take]; omega)
    rw [this,List.getD_eq_getElem?_getD,List.getElem?_take,if_pos h1,← List.getD_eq_getElem?_getD]
  have e2:l.take (k+1)=l.take k++[l.getD k 0]:=c0M (by omega)
  have s:=a9e (l.take k) [] ((l.take m).drop (k+1)++l.drop (m+1)) (l.getD k 0) (l.getD m 0)
  have el:(l.take k).length=k:=by rw [List.length_take]; omega
  rw [el,List.length_nil,show k+(1+0)=k+1 by omega] at s
  rw [c0Q _ (by omega),mvL,e2,mvL,e1]
  simpa using s
theorem a7k {x:Int} (hb:b≤l.length) (h:x∈(l.take b).drop a):∃ k,a≤k∧k<b∧x=l.getD k 0:=by
  obtain ⟨n,hn,e⟩:=List.mem_iff_getElem.1 h
  rw [List.length_drop,List.length_take] at hn
  refine ⟨a+n,by omega,by omega,?_⟩
  rw [← e,List.getElem_drop,List.getElem_take,List.getD_eq_getElem?_getD,List.getElem?_eq_getElem (by omega)]; rfl
theorem a3Y (h1:a≤i) (h2:i≤b):(l.take b).drop a=(l.take i).drop a++(l.take b).drop i:=by
  have e1:=List.take_append_drop (i - a) ((l.take b).drop a)
  rw [List.drop_drop,show a+(i - a)=i by omega] at e1
  rw [← e1,List.take_drop,List.take_take,show min (a+(i - a)) b=i by omega]
theorem c3F (hO:SWO lt) (h1:a+1≤i) (h2:i≤b) (h3:b≤l.length) (o:G7 lt l (a+1) b) (lo:∀ k,a+1≤k→k<i→lt (l.getD k 0) (l.getD a 0)=true) (hi:∀ k,i≤k→k<b→lt (l.getD k 0) (l.getD a 0)=false) (ht:∀ a∈l,∀ b∈l,lt a b=false→lt b a=false→a=b):mvR l a (i - 1)=s9 lt l a b:=by
  have e1:(l.take b).drop a=l.getD a 0::((l.take i).drop (a+1)++(l.take b).drop i):=by
    have:=a0z (l:=l.take b) (i:=a) (by rw [List.length_take]; omega)
    rw [this,List.getD_eq_getElem?_getD,List.getElem?_take,if_pos (by omega),← List.getD_eq_getElem?_getD,a3Y (a:=a+1) (i:=i) (b:=b) h1 h2]
  have o2:a0i lt ((l.take i).drop (a+1)++(l.take b).drop i):=by rw [← a3Y (a:=a+1) (i:=i) (b:=b) h1 h2]; exact o
  obtain ⟨p1,p2,p3⟩:=List.pairwise_append.1 o2
  have key:(l.take i).drop (a+1)++(l.getD a 0::(l.take b).drop i)=x7 lt (l.getD a 0::((l.take i).drop (a+1)++(l.take b).drop i)):=by
    refine Y6 hO List.perm_middle ?_ ?_
    · refine List.pairwise_append.2 ⟨p1,List.pairwise_cons.2 ⟨fun q hq=>?_,p2⟩,fun p hp q hq=>?_⟩
      · obtain ⟨k,k1,k2,rfl⟩:=a7k h3 hq
        exact hi k k1 k2
      · rcases List.mem_cons.1 hq with rfl|hq
        · obtain ⟨k,k1,k2,rfl⟩:=a7k (by omega) hp
          have:=lo k k1 k2
          cases hh:lt (l.getD a 0) (l.getD k 0) with
          | false=>rfl
          | true=>have:=hO.trans _ _ _ this hh; rw [hO.irrefl] at this; cases this
        · exact p3 p hp q hq
    · rw [← e1]
      exact fun x hx y hy=>ht x (a3y hx) y (a3y hy)
  have e2:l.drop i=(l.take b).drop i++l.drop b:=by
    have:=List.take_append_drop (b - i) (l.drop i)
    rw [List.drop_drop,show i+(b - i)=b by omega] at this
    rw [← this,List.drop_take]
  rw [mvR,s9,e1,← key,show i - 1+1=i by omega,e2]
  simp
theorem c3G (hO:SWO lt) (h1:a≤i) (h2:i≤m) (h3:m<l.length) (o:G7 lt l a m) (lo:∀ k,a≤k→k<i→lt (l.getD m 0) (l.getD k 0)=false) (hi:∀ k,i≤k→k<m→lt (l.getD m 0) (l.getD k 0)=true) (ht:∀ a∈l,∀ b∈l,lt a b=false→lt b a=false→a=b):mvL l m i=s9 lt l a (m+1):=by
  have e1:(l.take (m+1)).drop a=((l.take i).drop a++(l.take m).drop i)++[l.getD m 0]:=by
    rw [a2G (by omega) h3,a3Y (a:=a) (i:=i) (b:=m) h1 h2]
  have o2:a0i lt ((l.take i).drop a++(l.take m).drop i):=by rw [← a3Y (a:=a) (i:=i) (b:=m) h1 h2]; exact o
  obtain ⟨p1,p2,p3⟩:=List.pairwise_append.1 o2
  have key:(l.take i).drop a++(l.getD m 0::(l.take m).drop i)=x7 lt (((l.take i).drop a++(l.take m).drop i)++[l.getD m 0]):=by
    refine Y6 hO (List.perm_middle.trans (List.perm_append_singleton _ _).symm) ?_ ?_
    · refine List.pairwise_append.2 ⟨p1,List.pairwise_cons.2 ⟨fun q hq=>?_,p2⟩,fun p hp q hq=>?_⟩
      · obtain ⟨k,k1,k2,rfl⟩:=a7k (by omega) hq
        have:=hi k k1 k2
        cases hh:lt (l.getD k 0) (l.getD m 0) with
        | false=>rfl
        | true=>have:=hO.trans _ _ _ this hh; rw [hO.irrefl] at this; cases this
      · rcases List.mem_cons.1 hq with rfl|hq
        · obtain ⟨k,k1,k2,rfl⟩:=a7k (by omega) hp
          exact lo k k1 k2
        · exact p3 p hp q hq
    · rw [← e1]
      exact fun x hx y hy=>ht x (a3y hx) y (a3y hy)
  have e2:l.take i=l.take a++(l.take i).drop a:=by
    have:=List.take_append_drop a (l.take i)
    rw [List.take_take,show min a i=a by omega] at this
    exact this.symm
  rw [mvL,s9,e1,← key]
  conv=>lhs; rw [e2]
  simp
theorem c1g (h1:a≤k) (h2:k<l.length):(mvR l a k).Perm l:=by
  have e:l=l.take a++(l.getD a 0::((l.take (k+1)).drop (a+1)++l.drop (k+1))):=by
    have e1:(l.take (k+1)).drop (a+1)++l.drop (k+1)=l.drop (a+1):=by
      have:=List.take_append_drop (k - a) (l.drop (a+1))
      rw [List.drop_drop,show a+1+(k - a)=k+1 by omega] at this
      rw [← this,List.drop_take]; congr 2; omega
    rw [e1,← a0z (by omega),List.take_append_drop]
  conv=>rhs; rw [e]
  exact List.Perm.append_left _ List.perm_middle
theorem c1j (h1:k≤m) (h2:m<l.length):(mvL l m k).Perm l:=by
  have e:l=l.take k++((l.take m).drop k++(l.getD m 0::l.drop (m+1))):=by
    have e1:(l.take m).drop k++l.drop m=l.drop k:=by
      have:=List.take_append_drop (m - k) (l.drop k)
      rw [List.drop_drop,show k+(m - k)=m by omega] at this
      rw [← this,List.drop_take]
    rw [← a0z h2,e1,List.take_append_drop]
  conv=>rhs; rw [e]
  exact List.Perm.append_left _ List.perm_middle.symm
end
end Go.Proofs.Ytekbamiaenbhjaa
