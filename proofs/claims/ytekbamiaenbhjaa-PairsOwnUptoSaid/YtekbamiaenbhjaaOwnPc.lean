/- PairsOwn: the walk. -/
import Derived.Test.YtekbamiaenbhjaaOwnPb
namespace Go.Proofs.Ytekbamiaenbhjaa
open Go.Ex Go.Sort
set_option maxRecDepth 100000
theorem a9M {m n:Int} {l:List l6} (h:B8 m n l=0):(0≤m∧m≤40)∧(0≤n∧n≤40):=by
  unfold B8 at h
  split at h
  · cases h
  · rename_i a
    have a:(S9 m 0 40 && S9 n 0 40)=true:=by simpa using a
    rw [Bool.and_eq_true] at a
    exact ⟨L9.1 a.1,L9.1 a.2⟩
theorem b8x (m n:Int) (l:List l6):(M2 m n l).1.length≤400:=by
  unfold M2
  split
  · show 0≤400; omega
  · rename_i a
    have h:=a9M (Decidable.not_not.1 a)
    have:=a6Q (left:=(M8 m n l).2.1) m.toNat
    show (U8 (M8 m n l).2.1 m.toNat).length≤400
    omega
theorem a9t (v:Bool) (l:List Bool) (k:Nat):(I2 v l k).length≤k:=by
  rw [I2,List.length_map]
  exact Nat.le_trans (List.length_filter_le ..) (by rw [List.length_range]; exact Nat.le_refl _)
theorem b7C (m n:Int) (l:List l6):(a1r m n l).1.length≤400∧(a1r m n l).2.1.length≤400:=by
  unfold a1r
  split
  · exact ⟨by show 0≤400; omega,by show 0≤400; omega⟩
  · rename_i a
    have h:=a9M (Decidable.not_not.1 a)
    have h1:=a9t false (a2v (M8 m n l) m.toNat n.toNat).1 m.toNat
    have h2:=a9t true (a2v (M8 m n l) m.toNat n.toNat).2 n.toNat
    exact ⟨by show (I2 _ _ _).length≤400; omega,by show (I2 _ _ _).length≤400; omega⟩
theorem b1S {α β:Type} {f:α→List β} {k:Nat}:∀ l:List α,(∀ x,(f x).length≤k)→(l.flatMap f).length≤l.length*k
  | [],_=>by simp
  | x::l,h=>by
    have h1:=h x
    have h2:=b1S l h
    rw [List.flatMap_cons,List.length_append,List.length_cons,Nat.succ_mul]
    omega
theorem b7E (n:Int) (l:List l6):(a0N n l).1.length≤400:=by
  unfold a0N
  split
  · show 0≤400; omega
  · rename_i a
    have a:=Decidable.not_not.1 a
    unfold I4 at a
    split at a
    · cases a
    · rename_i b
      have hn:n.toNat≤20:=by omega
      show (H5 n.toNat (wk (E9 l) n.toNat)).length≤400
      have h1:(H5 n.toNat (wk (E9 l) n.toNat)).length≤n.toNat*n.toNat:=by
        unfold H5
        refine Nat.le_trans (b1S (k:=n.toNat) _ fun x=>?_) (by rw [List.length_range]; exact Nat.le_refl _)
        rw [List.length_map]
        exact Nat.le_trans (List.length_filter_le ..) (by rw [List.length_range]; exact Nat.le_refl _)
      have h2:n.toNat*n.toNat≤20*20:=Nat.mul_le_mul hn hn
      omega
theorem a97 {α:Type} {f:α→Nat} (h:∀ x,1≤f x):∀ l:List α,l.length≤S6 f l
  | []=>by simp [S6]
  | x::l=>by have h1:=h x; have h2:=a97 h l; simp only [S6,List.length_cons]; omega
theorem b5U (n:Int) (l:List l6):(Z2 n l).1.length≤400:=by
  unfold Z2
  split
  · show 0≤400; omega
  · rename_i a
    have a:=Decidable.not_not.1 a
    unfold I4 at a
    split at a
    · cases a
    · rename_i b
      have:=a2X (n:=n.toNat) (M:=(M2 n n (H5 n.toNat (wk (E9 l) n.toNat))).1) n.toNat
      show (F0 _ _ _).length≤400
      omega
theorem b8s:(M2 1 1 [(0,0,())]).2.1=0∧(M2 1 1 [(0,0,())]).1.length=1:=by decide +kernel
theorem b48 (y:List Int) (f:List l6) (c:List (List Int)) (hc:c.length≤400) :
    Ex.Reach a19 Try.f12 (true,()) (b5y.b5q [Pos]) (.code (e8 (d8 Try.prog 12) 18).1::.inLoop (e8 (d8 Try.prog 12) 18).1::(e8 (d8 Try.prog 12) 18).2)
      (a2k true (c.length:Int) ((0:Nat):Int) y f y f c):=by
  refine Reach.J8 a28 a26 (fun x:Nat×List (List Int)=>a2k true (c.length:Int) (x.1:Int) y f y f x.2) (fun x=>x.1≤c.length∧x.2.length=c.length) (fun x=>c.length - x.1) 1000 (fun _=>⟨r9 rfl,r9 rfl⟩) ?_ (0,c) ⟨Nat.zero_le _,rfl⟩
  rintro ⟨i,D⟩ ⟨(k1:i≤c.length),(k2:D.length=c.length)⟩ - ih
  refine l4 (b0R ..) ?_
  simp only [p7,Tree.holds,true_and,true_implies,decide_eq_true_eq,decide_eq_false_iff_not,Bool.not_eq_true',Bool.not_eq_false',Int.toNat_natCast,u7,List.length_set,List.length_cons,List.length_nil]
  refine ⟨fun q=>⟨by omega,fun _=>⟨by omega,fun _=>?_⟩⟩,fun q=>?_⟩
  · exact ih (i+1,D.set i (List.replicate (D.getD i []).length 5)) ⟨by show i+1≤c.length; omega,by rw [List.length_set]; exact k2⟩ (by show c.length - (i+1)<c.length - i; omega)
  · exact ⟨⟨congrArg (fun b=>(b,())) (decide_eq_true trivial),fun q=>absurd trivial q⟩,fun q=>(by cases q)⟩
theorem a8l:a96.Valid Try.prog 12:=by
  refine w8.y8 a28 rfl rfl Try.func12 (c:=d8 Try.prog 12) rfl rfl a26 rfl ?_
  rintro ⟨⟨(n:Int),(l:List l6),⟨⟩⟩,⟨⟩⟩ hs -
  have hb:Ty.N1 Pos (n,l,())+0≤1048576:=hs
  have e1:Ty.N1 Pos (n,l,())=Ty.N1 A4 n+((S6 (Ty.N1 l5) l+1)+Ty.N1 .unit ()):=rfl
  have l1:=a97 (f:=Ty.N1 l5) (fun x=>by show 1≤1+_; omega) l
  have hl:l.length≤1048576:=by omega
  refine p8 (n:=1000) a28 a26 ?_
  refine l4 (b3U n l) ?_
  have q1:=b8x n n l
  have q2:=b7C n n l
  have q3:=b7E n l
  have q4:=b5U n l
  have o1:=b8s
  rw [← a1g.2] at q1 o1
  rw [← M1.2] at q2
  rw [← Q8.2] at q3
  rw [← N6.2] at q4
  simp only [p7,Tree.holds,true_and,true_implies,decide_eq_true_eq,decide_eq_false_iff_not,Bool.not_eq_true',Bool.not_eq_false',Int.toNat_natCast,u7,List.length_set,List.length_cons,List.length_nil]
  have two:(1≤2∧2≤2)∧True:=⟨⟨by omega,Nat.le_refl 2⟩,trivial⟩
  have o2:(((a1g.1 1 1 ([(0,0,())].set (Int.toNat 0) (0,0,()))).1.length:Nat):Int)=1:=by
    have:(a1g.1 1 1 ([(0,0,())].set (Int.toNat 0) (0,0,()))).1.length=1:=o1.2
    omega
  refine ⟨fun q=>absurd o1.1 q,fun _=>⟨fun q=>absurd o2 q,fun _=>⟨hl,fun _=>⟨⟨by omega,hl⟩,fun _=>⟨fun q=>absurd q (by decide),fun _=>⟨by omega,fun _=>⟨by omega,fun _=>⟨by omega,fun _=>⟨by omega,fun _=>⟨two,fun _=>⟨⟨⟨⟨?_,fun q=>absurd trivial q⟩,fun q=>absurd trivial q⟩,fun q=>absurd trivial q⟩,fun q=>absurd trivial q⟩⟩⟩⟩⟩⟩⟩⟩⟩⟩⟩
  have hd:∀ inst:Decidable True,@decide True inst=true:=fun _=>decide_eq_true trivial
  rw [hd]
  exact b48 _ _ _ q4
end Go.Proofs.Ytekbamiaenbhjaa
