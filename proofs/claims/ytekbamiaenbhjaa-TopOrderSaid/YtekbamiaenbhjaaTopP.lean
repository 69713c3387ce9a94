/- TopOrder: the plain law: at most as many chains as processes; the order of the stamps is the only one behind its own neighbours. -/
import Derived.Test.YtekbamiaenbhjaaStK
import Derived.Test.YtekbamiaenbhjaaPosO
namespace Go.Proofs.Ytekbamiaenbhjaa
open Go.Ex Go.Sort
set_option maxRecDepth 100000
theorem a6K:∀ {l:List y8} {c:CkD} (i:Nat),S7 c l=0→S7 c (l.take i)=0
  | [],c,i,h=>by simpa using h
  | x::l,c,0,h=>rfl
  | x::l,c,i+1,h=>by
    simp only [S7,List.take_succ_cons] at h ⊢
    split at h
    · rename_i h1; exact absurd h h1
    · rename_i h1; rw [if_neg h1]; exact a6K i h
theorem b4X {h:List y8} (hh:t8 h=0) (i:Nat):t8 (h.take i)=0:=by
  obtain ⟨h1,h2⟩:=U9 hh
  rw [t8,if_neg (by rw [List.length_take]; omega)]
  exact a6K i h2
theorem a57 {h:List y8} {n:Nat}:∀ {a:Nat},(J4 h n a).length≤a*n
  | 0=>by simp [J4]
  | a+1=>by
    have h1:=a57 (h:=h) (n:=n) (a:=a)
    have h2:=a1F (h:=h) (a:=a) (b:=n)
    simp only [J4,List.length_append,Nat.succ_mul]
    omega
theorem a9Y {h:List y8} (hh:t8 h=0) (hn:h.length≤20):(D9 h).1.length≤400:=by
  rw [a8I hh]
  have:=a57 (h:=h) (n:=h.length) (a:=h.length)
  have:=Nat.mul_le_mul hn hn
  show (J4 h h.length h.length).length≤400
  omega
theorem c2Z {h:List y8} (hh:t8 h=0) {a b:Nat} (hbl:b<h.length) (h1:hb h b a=true):a<b:=(b9v hh hbl h1).1
theorem c0h {h:List y8} (hh:t8 h=0) (hn:h.length≤20):a7y h.length (D9 h).1:=by
  have hm:=fun q=>a6y (x:=q) hh
  refine ⟨hn,Nat.le_trans (a9Y hh hn) (by decide),fun q hq=>?_,fun k hk=>?_⟩
  · obtain ⟨a,b,h1,h2,-,rfl⟩:=(hm q).1 hq
    exact ⟨⟨by show 0≤(a:Int); omega,by show (a:Int)<_; omega⟩,by show 0≤(b:Int); omega,by show (b:Int)<_; omega⟩
  · cases e:wk (D6 (D9 h).1) h.length k k with
    | false=>rfl
    | true =>
      have:=a3p (T:=fun a b=>a<b) (fun a b c h1 h2=>Nat.lt_trans h1 h2) (fun a b h9=>by
        obtain ⟨a',b',h1,h2,h3,h4⟩:=(hm _).1 (a3u.1 h9)
        obtain ⟨e1,e2⟩:(a:Int)=a'∧(b:Int)=b':=⟨congrArg (fun q:s5=>q.1) h4,congrArg (fun q:s5=>q.2.1) h4⟩
        have:=c2Z hh h2 h3
        omega) e
      omega
/-! each process's events are a chain -/
def a2p (h:List y8):Nat→List s5
  | 0=>[]
  | b+1=>match H3 h (pr h b) b with
    | some a=>a2p h b++[((a:Int),(b:Int),())]
    | none=>a2p h b
def a3K (h:List y8):Nat→Nat
  | 0=>0
  | b+1=>match H3 h (pr h b) b with
    | some _=>a3K h b
    | none=>a3K h b+1
theorem a2F {h:List y8} {q:s5}:∀ {b:Nat},q∈a2p h b→∃ a c:Nat,q=((a:Int),(c:Int),())∧c<b∧H3 h (pr h c) c=some a
  | 0,hq=>by cases hq
  | b+1,hq=>by
    rw [a2p] at hq
    split at hq
    · rename_i a ha
      rcases List.mem_append.1 hq with hq|hq
      · obtain ⟨a',c,h1,h2,h3⟩:=a2F hq
        exact ⟨a',c,h1,by omega,h3⟩
      · rw [List.mem_singleton] at hq
        exact ⟨a,b,hq,by omega,ha⟩
    · obtain ⟨a',c,h1,h2,h3⟩:=a2F hq
      exact ⟨a',c,h1,by omega,h3⟩
theorem a4q {h:List y8}:∀ b:Nat,(a2p h b).length+a3K h b=b
  | 0=>rfl
  | b+1=>by
    have ih:=a4q (h:=h) b
    rw [a2p,a3K]
    cases H3 h (pr h b) b with
    | none=>simp only; omega
    | some a=>simp only [List.length_append,List.length_singleton]; omega
theorem c03 {h:List y8} {a c c':Nat} (h1:H3 h (pr h c) c=some a) (h2:H3 h (pr h c') c'=some a):c=c':=by
  obtain ⟨a1,a2,a3⟩:=T6 h1
  obtain ⟨b1,b2,b3⟩:=T6 h2
  rcases Nat.lt_trichotomy c c' with e|e|e
  · exact absurd (a2.symm.trans b2) (fun e2=>b3 c a1 e e2)
  · exact e
  · exact absurd (b2.symm.trans a2) (fun e2=>a3 c' b1 e e2)
theorem a5j {h:List y8}:∀ b:Nat,(a2p h b).Pairwise (fun p q=>p.1≠q.1)∧(a2p h b).Pairwise (fun p q=>p.2.1≠q.2.1)
  | 0=>⟨List.Pairwise.nil,List.Pairwise.nil⟩
  | b+1=>by
    have ih:=a5j (h:=h) b
    rw [a2p]
    split
    · rename_i a ha
      refine ⟨List.pairwise_append.2 ⟨ih.1,by simp,fun p hp q hq e=>?_⟩,List.pairwise_append.2 ⟨ih.2,by simp,fun p hp q hq e=>?_⟩⟩
      · obtain ⟨a',c,rfl,h2,h3⟩:=a2F hp
        rw [List.mem_singleton] at hq
        subst hq
        have e:(a':Int)=(a:Int):=e
        obtain rfl:a'=a:=by omega
        have:=c03 h3 ha
        omega
      · obtain ⟨a',c,rfl,h2,h3⟩:=a2F hp
        rw [List.mem_singleton] at hq
        subst hq
        have e:(c:Int)=(b:Int):=e
        omega
    · exact ih
theorem b6E {h:List y8} (hh:t8 h=0) {a b:Nat} (ha:a<h.length) (hb:b<h.length) (e:pr h a=pr h b):(h.getD a V5).1=(h.getD b V5).1:=by
  have h1:=(a27 hh ha).1
  have h2:=(a27 hh hb).1
  have e:(h.getD a V5).1.toNat=(h.getD b V5).1.toNat:=e
  have h1:0≤(h.getD a V5).1∧_:=h1
  have h2:0≤(h.getD b V5).1∧_:=h2
  omega
theorem c3y {h:List y8} (hh:t8 h=0) {a c:Nat} (hc:c<h.length) (h1:H3 h (pr h c) c=some a):hb h c a=true:=by
  obtain ⟨a1,a2,-⟩:=T6 h1
  refine b9P.2 ⟨a,a1,?_,.inl rfl⟩
  have:(h.getD a e0).1=(h.getD c e0).1:=b6E hh (by omega) hc a2
  rw [W9,decide_eq_true this,Bool.true_or]
theorem b74 {h:List y8} (hh:t8 h=0) (hn:h.length≤20):(L9 (h.length:Int) (D9 h).1).2.1=0∧(L9 (h.length:Int) (D9 h).1).1.length≤a3K h h.length:=by
  have hp:=c0h hh hn
  obtain ⟨hM,hmax⟩:=a9t hn (wk (D6 (D9 h).1) h.length)
  have hcount:=hM.count
  have hc:L9 (h.length:Int) (D9 h).1=(E8 h.length (U1 h.length h.length (M7 h.length (wk (D6 (D9 h).1) h.length))).1 h.length,0,()):=by
    rw [L9,if_neg (by rw [a6u hp]; simp),Int.toNat_natCast]
  have hlen:=hmax (a2p h h.length) ⟨fun q hq=>by
    obtain ⟨a,c,rfl,h2,h3⟩:=a2F hq
    have h4:=c3y hh h2 h3
    have h5:=c2Z hh h2 h4
    exact a5k.2 ⟨a,c,by omega,h2,b6L (a3u.2 ((a6y hh).2 ⟨a,c,by omega,h2,h4,rfl⟩)) _,rfl⟩,(a5j _).1,(a5j _).2⟩
  have:=a4q (h:=h) h.length
  rw [hc]
  refine ⟨rfl,?_⟩
  show (E8 _ _ _).length≤_
  omega
/-! the processes that did something -/
def T1 (h:List y8) (i:Nat):List (Int×Int):=(h.take i).foldl (fun m x=>a2d (fun a b:Int=>decide (a=b)) x.1 1 m) []
theorem b7i {l:List (Int×Int)} {a:Int}:∀ {i:Nat},posOf (fun a b:Int=>decide (a=b)) a l i=none↔∀ q∈l,q.1≠a:=by
  induction l with
  | nil=>intro i; simp [posOf]
  | cons x l ih =>
    intro i
    obtain ⟨x1,x2⟩:=x
    rw [posOf]
    by_cases e:a=x1
    · rw [decide_eq_true e]
      simp only [List.mem_cons,forall_eq_or_imp]
      constructor
      · intro h; cases h
      · intro h; exact absurd e.symm h.1
    · rw [decide_eq_false e]
      simp only [List.mem_cons,forall_eq_or_imp]
      rw [ih]
      exact ⟨fun h=>⟨fun e2=>e e2.symm,h⟩,fun h=>h.2⟩
theorem b3a {l:List (Int×Int)} {a:Int} {k i:Nat} {y:Int} (h:posOf (fun a b:Int=>decide (a=b)) a l i=some (k,y)):i≤k∧k - i<l.length∧(l.getD (k - i) (0,0)).1=a:=by
  induction l generalizing i with
  | nil=>cases h
  | cons x l ih =>
    obtain ⟨x1,x2⟩:=x
    rw [posOf] at h
    by_cases e:a=x1
    · rw [decide_eq_true e] at h
      cases h
      refine ⟨Nat.le_refl _,by simp,?_⟩
      rw [Nat.sub_self]; exact e.symm
    · rw [decide_eq_false e] at h
      obtain ⟨h1,h2,h3⟩:=ih h
      refine ⟨by omega,by rw [List.length_cons]; omega,?_⟩
      rw [show k - i=(k - (i+1))+1 by omega]
      exact h3
theorem a4p {h:List y8} {i:Nat} (hi:i<h.length):T1 h (i+1)=a2d (fun a b:Int=>decide (a=b)) (h.getD i V5).1 1 (T1 h i):=by
  rw [T1,List.take_add_one,List.foldl_append,List.getD_eq_getElem?_getD,List.getElem?_eq_getElem hi]; rfl
theorem a9n {h:List y8}:∀ i,i≤h.length→∀ p:Int,(∃ q∈T1 h i,q.1=p)↔∃ k,k<i∧(h.getD k V5).1=p
  | 0,_,p=>by simp [T1]
  | i+1,hi,p=>by
    have ih:=a9n (h:=h) i (by omega)
    rw [a4p (by omega),a2d]
    have ex:(∃ k,k<i+1∧(h.getD k V5).1=p)↔(∃ k,k<i∧(h.getD k V5).1=p)∨(h.getD i V5).1=p:=by
      constructor
      · rintro ⟨k,h1,h2⟩
        by_cases e:k=i
        · subst e; exact .inr h2
        · exact .inl ⟨k,by omega,h2⟩
      · rintro (⟨k,h1,h2⟩|h2)
        · exact ⟨k,by omega,h2⟩
        · exact ⟨i,by omega,h2⟩
    rw [ex,← ih p]
    cases hp:posOf (fun a b:Int=>decide (a=b)) (h.getD i V5).1 (T1 h i) 0 with
    | none =>
      simp only [List.mem_append,List.mem_singleton]
      constructor
      · rintro ⟨q,h1|rfl,h2⟩
        · exact .inl ⟨q,h1,h2⟩
        · exact .inr h2
      · rintro (⟨q,h1,h2⟩|h2)
        · exact ⟨q,.inl h1,h2⟩
        · exact ⟨_,.inr rfl,h2⟩
    | some ky =>
      obtain ⟨k,y⟩:=ky
      obtain ⟨-,h2,h3⟩:=b3a hp
      rw [Nat.sub_zero] at h2 h3
      simp only
      have hk:(T1 h i).getD k (0,0)∈T1 h i:=P6 h2
      constructor
      · rintro ⟨q,h1,h4⟩
        rcases List.mem_or_eq_of_mem_set h1 with h1|rfl
        · exact .inl ⟨q,h1,h4⟩
        · exact .inr h4
      · rintro (⟨q,h1,h4⟩|h4)
        · obtain ⟨j,hj,e⟩:=a3B (d:=((0:Int),(0:Int))) h1
          by_cases ej:j=k
          · subst ej
            refine ⟨((h.getD i V5).1,1),List.mem_iff_getElem.2 ⟨j,by rw [List.length_set]; exact hj,by rw [List.getElem_set]; simp⟩,?_⟩
            rw [e] at h3; rw [← h3]; exact h4
          · refine ⟨q,List.mem_iff_getElem.2 ⟨j,by rw [List.length_set]; exact hj,?_⟩,h4⟩
            rw [List.getElem_set,if_neg (fun e2=>ej e2.symm)]
            have e9:=e
            rw [List.getD_eq_getElem?_getD,List.getElem?_eq_getElem hj] at e9
            exact e9
        · exact ⟨((h.getD i V5).1,1),List.mem_iff_getElem.2 ⟨k,by rw [List.length_set]; exact h2,by rw [List.getElem_set]; simp⟩,h4⟩
theorem b1a {h:List y8} (hh:t8 h=0):∀ i,i≤h.length→(T1 h i).length=a3K h i
  | 0,_=>rfl
  | i+1,hi=>by
    have ih:=b1a hh i (by omega)
    have hk:=a9n (h:=h) i (by omega) (h.getD i V5).1
    rw [a4p (by omega),a2d,a3K]
    cases hp:posOf (fun a b:Int=>decide (a=b)) (h.getD i V5).1 (T1 h i) 0 with
    | none =>
      have hno:=b7i.1 hp
      cases hl:H3 h (pr h i) i with
      | none=>simp only [List.length_append,List.length_singleton]; omega
      | some a =>
        exfalso
        obtain ⟨a1,a2,-⟩:=T6 hl
        obtain ⟨q,q1,q2⟩:=hk.2 ⟨a,a1,b6E hh (by omega) (by omega) a2⟩
        exact hno q q1 q2
    | some ky =>
      obtain ⟨k,y⟩:=ky
      obtain ⟨-,h2,h3⟩:=b3a hp
      rw [Nat.sub_zero] at h2 h3
      obtain ⟨j,j1,j2⟩:=hk.1 ⟨_,P6 h2,h3⟩
      cases hl:H3 h (pr h i) i with
      | none =>
        exfalso
        exact a3G hl j j1 (congrArg Int.toNat j2)
      | some a=>simp only [List.length_set]; omega
/-! the order of the stamps -/
def Z5 (T:List Int):Nat→List s5
  | 0=>[]
  | i+1=>Z5 T i++[(T.getD i 0,T.getD (i+1) 0,())]
theorem a8J (T:List Int):∀ i,(Z5 T i).length=i
  | 0=>rfl
  | i+1=>by rw [Z5,List.length_append,a8J T i]; rfl
theorem a5J {T:List Int} {q:s5}:∀ {m:Nat},q∈Z5 T m↔∃ i,i<m∧q=(T.getD i 0,T.getD (i+1) 0,())
  | 0=>by simp [Z5]
  | m+1=>by
    rw [Z5,List.mem_append,a5J,List.mem_singleton]
    constructor
    · rintro (⟨i,h1,h2⟩|h)
      · exact ⟨i,by omega,h2⟩
      · exact ⟨m,by omega,h⟩
    · rintro ⟨i,h1,h2⟩
      by_cases e:i=m
      · subst e; exact .inr h2
      · exact .inl ⟨i,by omega,h2⟩
section
variable {n:Nat} {A:List s5} {T:List Int}
structure Lin (n:Nat) (A:List s5) (T:List Int):Prop where
  perm:T.Perm (Q6 n)
  fwd:∀ q∈A,∃ i j,i<j∧j<n∧q=(T.getD i 0,T.getD j 0,())
theorem Lin.len (h:Lin n A T):T.length=n:=by rw [h.perm.length_eq,a28]
theorem Lin.at (h:Lin n A T) {i:Nat} (hi:i<n):0≤T.getD i 0∧T.getD i 0<(n:Int):=a1K.1 (h.perm.mem_iff.1 (P6 (by rw [h.len]; exact hi)))
theorem Lin.find (h:Lin n A T) {b:Nat} (hb:b<n):∃ i,i<n∧T.getD i 0=(b:Int):=by
  obtain ⟨i,hi,e⟩:=a3B (d:=0) (h.perm.mem_iff.2 (show (b:Int)∈Q6 n from a1K.2 ⟨by omega,by omega⟩))
  exact ⟨i,by rw [← h.len]; exact hi,e⟩
theorem Lin.inj (h:Lin n A T) {i j:Nat} (hi:i<n) (hj:j<n) (e:T.getD i 0=T.getD j 0):i=j :=
  c1b (h.perm.nodup_iff.2 b27) (by rw [h.len]; exact hj) (by rw [h.len]; exact hi) e
theorem Lin.rel (h:Lin n A T) {k a b:Nat} (hr:wk (D6 (A++Z5 T (n - 1))) k a b=true):∃ i j,i<j∧j<n∧T.getD i 0=(a:Int)∧T.getD j 0=(b:Int):=by
  refine a3p (T:=fun a b:Nat=>∃ i j,i<j∧j<n∧T.getD i 0=(a:Int)∧T.getD j 0=(b:Int)) ?_ ?_ hr
  · rintro a b c ⟨i,j,h1,h2,h3,h4⟩ ⟨i',j',h1',h2',h3',h4'⟩
    have:j=i':=h.inj h2 (by omega) (h4.trans h3'.symm)
    exact ⟨i,j',by omega,h2',h3,h4'⟩
  · intro a b hr
    rcases List.mem_append.1 (a3u.1 hr) with hq|hq
    · obtain ⟨i,j,h1,h2,h3⟩:=h.fwd _ hq
      exact ⟨i,j,h1,h2,(congrArg (fun q:s5=>q.1) h3).symm,(congrArg (fun q:s5=>q.2.1) h3).symm⟩
    · obtain ⟨i,h1,h3⟩:=a5J.1 hq
      exact ⟨i,i+1,by omega,by omega,(congrArg (fun q:s5=>q.1) h3).symm,(congrArg (fun q:s5=>q.2.1) h3).symm⟩
theorem Lin.pos (h:Lin n A T) (hn:n≤20) (hA:A.length≤400):a7y n (A++Z5 T (n - 1)):=by
  refine ⟨hn,by rw [List.length_append,a8J]; omega,fun q hq=>?_,fun k hk=>?_⟩
  · rcases List.mem_append.1 hq with hq|hq
    · obtain ⟨i,j,h1,h2,rfl⟩:=h.fwd _ hq
      exact ⟨h.at (by omega),h.at (by omega)⟩
    · obtain ⟨i,h1,rfl⟩:=a5J.1 hq
      exact ⟨h.at (by omega),h.at (by omega)⟩
  · cases e:wk (D6 (A++Z5 T (n - 1))) n k k with
    | false=>rfl
    | true =>
      obtain ⟨i,j,h1,h2,h3,h4⟩:=h.rel e
      have:=h.inj (by omega) h2 (h3.trans h4.symm)
      omega
theorem Lin.up (h:Lin n A T):∀ {d i:Nat},i+d+1<n→wk (D6 (A++Z5 T (n - 1))) n (T.getD i 0).toNat (T.getD (i+d+1) 0).toNat=true
  | 0,i,hi=>by
    refine b6L (a3u.2 (List.mem_append_right _ (a5J.2 ⟨i,by omega,?_⟩))) _
    rw [Int.toNat_of_nonneg (h.at (by omega)).1,Int.toNat_of_nonneg (h.at (by omega)).1]
  | d+1,i,hi=>by
    have h1:=Lin.up h (d:=d) (i:=i) (by omega)
    have h2:=Lin.up h (d:=0) (i:=i+d+1) (by omega)
    exact a3o (by have:=h.at (show i+d+1<n by omega); omega) h1 h2
theorem Lin.next (h:Lin n A T) (hn:n≤20) (hA:A.length≤400) {k:Nat} (hk:k<n):a0M (wk (D6 (A++Z5 T (n - 1))) n) n (T.take k) n 0=some (T.getD k 0).toNat:=by
  have hp:=h.pos hn hA
  have hne:=b6a (out:=T.take k) (fun x y z=>a6r hp (a:=x) (b:=y) (c:=z)) (fun x=>b0t hp x) (n:=n) (by rw [List.length_take]; omega)
  cases hnx:a0M (wk (D6 (A++Z5 T (n - 1))) n) n (T.take k) n 0 with
  | none=>exact absurd hnx hne
  | some b =>
    obtain ⟨⟨-,hb⟩,hr⟩:=a9y hnx
    have hb:b<n:=by omega
    rw [a02,Bool.and_eq_true,Bool.not_eq_true',decide_eq_false_iff_not,List.all_eq_true] at hr
    obtain ⟨r1,r2⟩:=hr
    obtain ⟨j,hj,e⟩:=h.find hb
    have hmem:∀ i,i<n→(T.getD i 0∈T.take k↔i<k):=by
      intro i hi
      constructor
      · intro hm
        obtain ⟨m,hm1,hm2⟩:=a3B (d:=0) hm
        rw [List.length_take] at hm1
        rw [List.getD_eq_getElem?_getD,List.getElem?_take,if_pos (by omega),← List.getD_eq_getElem?_getD] at hm2
        have:=h.inj (i:=m) (by omega) hi hm2
        omega
      · intro hik
        have:(T.take k).getD i 0=T.getD i 0:=by rw [List.getD_eq_getElem?_getD,List.getElem?_take,if_pos hik,← List.getD_eq_getElem?_getD]
        rw [← this]
        exact P6 (by rw [List.length_take,h.len]; omega)
    have hjk:k≤j:=by
      refine Nat.le_of_not_lt (fun c=>r1 ?_)
      rw [← e]; exact (hmem j hj).2 c
    by_cases e2:j=k
    · subst e2; rw [e,Int.toNat_natCast]
    · exfalso
      have hup:=h.up (d:=j - k - 1) (i:=k) (by omega)
      rw [show k+(j - k - 1)+1=j by omega,e,Int.toNat_natCast] at hup
      have:=r2 (T.getD k 0).toNat (List.mem_range.2 (by have:=h.at hk; omega))
      rw [hup,Bool.not_true,Bool.false_or,decide_eq_true_eq,Int.toNat_of_nonneg (h.at hk).1] at this
      have:=(hmem k hk).1 this
      omega
theorem Lin.order (h:Lin n A T) (hn:n≤20) (hA:A.length≤400):∀ m k,k+m=n→Z7 (wk (D6 (A++Z5 T (n - 1))) n) n m (T.take k)=T
  | 0,k,e=>by
    rw [Z7,show k=T.length by rw [h.len]; omega,List.take_length]
  | m+1,k,e=>by
    rw [Z7,h.next hn hA (by omega)]
    have e3:T.take (k+1)=T.take k++[T.getD k 0]:=a6f (by rw [h.len]; omega) 0
    show Z7 _ _ m (T.take k++[((T.getD k 0).toNat:Int)])=T
    rw [Int.toNat_of_nonneg (h.at (by omega)).1,← e3]
    exact Lin.order h hn hA m (k+1) (by omega)
theorem Lin.a1I (h:Lin n A T) (hn:n≤20) (hA:A.length≤400):a1I (n:Int) (A++Z5 T (n - 1))=(T,0,()):=by
  rw [Go.Proofs.Ytekbamiaenbhjaa.a1I,if_neg (by rw [a6u (h.pos hn hA)]; simp),Int.toNat_natCast]
  have:=h.order hn hA n 0 (by omega)
  rw [List.take_zero] at this
  rw [this]
end
theorem b84 {h:List y8} (hh:t8 h=0):Lin h.length (D9 h).1 (K8 h).1:=by
  have hT:(K8 h).1=x7 (A4 (stamps h).1 h) (Q6 h.length):=by rw [K8,if_neg (by rw [hh]; simp)]
  have hO:=b61 (stamps h).1 h
  have hp:(K8 h).1.Perm (Q6 h.length):=by rw [hT]; exact G8 _ _
  have hs:(K8 h).1.Pairwise (fun x y=>A4 (stamps h).1 h y x=false):=by rw [hT]; exact U7 hO _
  refine ⟨hp,fun q hq=>?_⟩
  generalize (K8 h).1=T at *
  have hl:T.length=h.length:=by rw [hp.length_eq,a28]
  obtain ⟨a,b,h1,h2,h3,rfl⟩:=(a6y hh).1 hq
  have find:∀ k,k<h.length→∃ i,i<T.length∧T.getD i 0=(k:Int):=fun k hk=>a3B (hp.mem_iff.2 (a1K.2 ⟨by omega,by omega⟩))
  obtain ⟨i,hi,ei⟩:=find a h1
  obtain ⟨j,hj,ej⟩:=find b h2
  obtain ⟨-,hlt⟩:=b9v hh h2 h3
  have hll:A4 (stamps h).1 h (a:Int) (b:Int)=true:=by
    rw [A4,decide_eq_true_eq,a4D,Int.toNat_natCast,Int.toNat_natCast]; exact .inl hlt
  refine ⟨i,j,?_,by omega,by rw [ei,ej]⟩
  refine Nat.lt_of_not_le (fun hc=>?_)
  by_cases e:j=i
  · subst e
    rw [ei] at ej
    rw [ej,hO.irrefl] at hll; cases hll
  · have:=List.pairwise_iff_getElem.1 hs j i hj hi (by omega)
    have g1:T[j]=(b:Int):=by rw [← ej,List.getD_eq_getElem?_getD,List.getElem?_eq_getElem hj]; rfl
    have g2:T[i]=(a:Int):=by rw [← ei,List.getD_eq_getElem?_getD,List.getElem?_eq_getElem hi]; rfl
    rw [g1,g2,hll] at this; cases this
end Go.Proofs.Ytekbamiaenbhjaa
