/- Histories: what is ahead of what, against the numbers and the vectors. -/
import Derived.Test.YtekbamiaenbhjaaAhead
namespace Go.Proofs.Ytekbamiaenbhjaa
open Go.Ex

theorem b7h {h:List Ev} {a b:Nat} (ha:a7e h a) (hb:a7e h b):W3 h a b=true↔pr h a=pr h b∨(kd h a=2∧kd h b=3∧ms h a=ms h b):=by
  have e1:=ha.eq
  have e2:=hb.eq
  rw [W3,e1,e2]
  simp only [Bool.or_eq_true,Bool.and_eq_true,decide_eq_true_eq]
  constructor
  · rintro (h|⟨⟨h1,h2⟩,h3⟩)
    · left; omega
    · right; exact ⟨h1,h2,by omega⟩
  · rintro (h|⟨h1,h2,h3⟩)
    · left; omega
    · right; exact ⟨⟨h1,h2⟩,by omega⟩

theorem b6B {h:List Ev} {n:Nat} (hok:∀ k,k<n→a7e h k) {m a i:Nat} (ha:a<i) (hi:i≤n) (h1:kd h a=2) (h2:ms h a=m):H5 h m i=some a:=by
  cases hs:H5 h m i with
  | none=>exact absurd ⟨h1,h2⟩ (a2x hs a ha)
  | some j =>
    obtain ⟨j1,j2,j3,j4⟩:=a4Q hs
    by_cases e:j=a
    · rw [e]
    · by_cases hlt:a<j
      · have:=a2x ((hok j (by omega)).snd j2) a hlt
        rw [j3] at this
        exact absurd ⟨h1,h2⟩ this
      · exact absurd ⟨h1,h2⟩ (j4 a (by omega) ha)

theorem b8F {h:List Ev} {p a i:Nat} (ha:a<i) (h1:pr h a=p):∃ j,N2 h p i=some j∧a≤j:=by
  cases hs:N2 h p i with
  | none=>exact absurd h1 (a46 hs a ha)
  | some j =>
    obtain ⟨j1,j2,j3⟩:=a2J hs
    refine ⟨j,rfl,?_⟩
    by_cases e:a≤j
    · exact e
    · exact absurd h1 (j3 a (by omega) ha)

section
variable {h:List Ev} (hh:B0 h=0)
include hh

theorem b6R {i j:Nat} (hi:i<h.length) (hj:N2 h (pr h i) i=some j):(stamps h).1.getD j 0<(stamps h).1.getD i 0:=by
  rw [(a1D hh).2.2 i hi,numOf,hj]
  show (stamps h).1.getD j 0<_
  simp only [a3g]
  repeat' split
  all_goals omega
theorem b6Q {i j:Nat} (hi:i<h.length) (hk:kd h i=3) (hj:H5 h (ms h i) i=some j):(stamps h).1.getD j 0<(stamps h).1.getD i 0:=by
  rw [(a1D hh).2.2 i hi,numOf,if_pos hk,hj]
  show (stamps h).1.getD j 0<(if a3g (stamps h).1 (N2 h (pr h i) i)<(stamps h).1.getD j 0 then (stamps h).1.getD j 0 else a3g (stamps h).1 (N2 h (pr h i) i))+1
  split<;>omega
theorem a6S {a:Nat}:∀ {b:Nat},a<b→b<h.length→pr h a=pr h b→(stamps h).1.getD a 0<(stamps h).1.getD b 0:=by
  intro b
  induction b using Nat.strongRecOn with
  | _ b ih =>
    intro hab hb he
    obtain ⟨j,hj,haj⟩:=b8F hab he
    have h1:=b6R hh hb hj
    obtain ⟨j1,j2,_⟩:=a2J hj
    by_cases e:a=j
    · rw [e]; exact h1
    · have:=ih j j1 (by omega) (by omega) (by rw [he,j2])
      omega
theorem b6S {a b:Nat} (hab:a<b) (hb:b<h.length) (he:W3 h a b=true):(stamps h).1.getD a 0<(stamps h).1.getD b 0:=by
  rcases (b7h (a52 hh (by omega)) (a52 hh hb)).1 he with h1|⟨h1,h2,h3⟩
  · exact a6S hh hab hb h1
  · exact b6Q hh hb h2 (b6B (fun k hk=>a52 hh hk) hab (by omega) h1 h3)
theorem b9n {a:Nat}:∀ {b:Nat},b<h.length→hb h b a=true→a<b∧(stamps h).1.getD a 0<(stamps h).1.getD b 0:=by
  intro b
  induction b using Nat.strongRecOn with
  | _ b ih =>
    intro hb' he
    obtain ⟨c,c1,c2,c3⟩:=b9q.1 he
    have h1:=b6S hh c1 hb' c2
    rcases c3 with rfl|c3
    · exact ⟨c1,h1⟩
    · have:=ih c c1 (by omega) c3
      omega
end

theorem a43 {h:List Ev} {a:Nat} {x:Int×Int×Unit}:∀ {n:Nat},x∈N1 h a n↔∃ b,b<n∧hb h b a=true∧x=((a:Int),(b:Int),())
  | 0=>by simp [N1]
  | n+1=>by
    simp only [N1,List.mem_append,a43 (n:=n)]
    constructor
    · rintro (⟨b,h1,h2⟩|h1)
      · exact ⟨b,by omega,h2⟩
      · split at h1
        · rename_i hc; exact ⟨n,by omega,hc,by simpa using h1⟩
        · cases h1
    · rintro ⟨b,h1,h2,h3⟩
      by_cases e:b=n
      · subst e; right; rw [if_pos h2]; simpa using h3
      · exact .inl ⟨b,by omega,h2,h3⟩
theorem a44 {h:List Ev} {n:Nat} {x:Int×Int×Unit}:∀ {k:Nat},x∈L9 h n k↔∃ a b,a<k∧b<n∧hb h b a=true∧x=((a:Int),(b:Int),())
  | 0=>by simp [L9]
  | k+1=>by
    simp only [L9,List.mem_append,a44 (k:=k),a43]
    constructor
    · rintro (⟨a,b,h1,h2⟩|⟨b,h1,h2⟩)
      · exact ⟨a,b,by omega,h2⟩
      · exact ⟨k,b,by omega,h1,h2⟩
    · rintro ⟨a,b,h1,h2,h3⟩
      by_cases e:a=k
      · subst e; exact .inr ⟨b,h2,h3⟩
      · exact .inl ⟨a,b,by omega,h2,h3⟩
theorem b1o {h:List Ev} (hh:B0 h=0):M0 h=(L9 h h.length h.length,0,()):=by rw [M0,if_neg (by simp [hh])]
theorem b5y {h:List Ev} (hh:B0 h=0) {x:Int×Int×Unit}:x∈(M0 h).1↔∃ a b,a<h.length∧b<h.length∧hb h b a=true∧x=((a:Int),(b:Int),()):=by rw [b1o hh,a44]
theorem b3x {h:List Ev}:(stamps h).2.1=B0 h:=by
  by_cases hh:B0 h=0
  · rw [(a1D hh).2.1,hh]
  · rw [stamps,if_pos hh]
theorem b6b {h:List Ev}:(M0 h).2.1=B0 h:=by
  by_cases hh:B0 h=0
  · rw [b1o hh,hh]
  · rw [M0,if_pos hh]
end Go.Proofs.Ytekbamiaenbhjaa
