/- Histories: what is ahead of what, against the numbers and the vectors. -/
import Derived.Test.YtekbamiaenbhjaaAhead
namespace Go.Proofs.Ytekbamiaenbhjaa
open Go.Ex

theorem b9Y {h:List Ev} {a b:Nat} (ha:a8U h a) (hb:a8U h b):W9 h a b=true↔pr h a=pr h b∨(kd h a=2∧kd h b=3∧ms h a=ms h b):=by
  have e1:=ha.eq
  have e2:=hb.eq
  rw [W9,e1,e2]
  simp only [Bool.or_eq_true,Bool.and_eq_true,decide_eq_true_eq]
  constructor
  · rintro (h|⟨⟨h1,h2⟩,h3⟩)
    · left; omega
    · right; exact ⟨h1,h2,by omega⟩
  · rintro (h|⟨h1,h2,h3⟩)
    · left; omega
    · right; exact ⟨⟨h1,h2⟩,by omega⟩

theorem c0U {h:List Ev} {n:Nat} (hok:∀ k,k<n→a8U h k) {m a i:Nat} (ha:a<i) (hi:i≤n) (h1:kd h a=2) (h2:ms h a=m):I4 h m i=some a:=by
  cases hs:I4 h m i with
  | none=>exact absurd ⟨h1,h2⟩ (a3r hs a ha)
  | some j =>
    obtain ⟨j1,j2,j3,j4⟩:=a6k hs
    by_cases e:j=a
    · rw [e]
    · by_cases hlt:a<j
      · have:=a3r ((hok j (by omega)).snd j2) a hlt
        rw [j3] at this
        exact absurd ⟨h1,h2⟩ this
      · exact absurd ⟨h1,h2⟩ (j4 a (by omega) ha)

theorem c3J {h:List Ev} {p a i:Nat} (ha:a<i) (h1:pr h a=p):∃ j,H3 h p i=some j∧a≤j:=by
  cases hs:H3 h p i with
  | none=>exact absurd h1 (a3G hs a ha)
  | some j =>
    obtain ⟨j1,j2,j3⟩:=T6 hs
    refine ⟨j,rfl,?_⟩
    by_cases e:a≤j
    · exact e
    · exact absurd h1 (j3 a (by omega) ha)

section
variable {h:List Ev} (hh:t8 h=0)
include hh

theorem c09 {i j:Nat} (hi:i<h.length) (hj:H3 h (pr h i) i=some j):(stamps h).1.getD j 0<(stamps h).1.getD i 0:=by
  rw [(a2m hh).2.2 i hi,numOf,hj]
  show (stamps h).1.getD j 0<_
  simp only [a4h]
  repeat' split
  all_goals omega
theorem c08 {i j:Nat} (hi:i<h.length) (hk:kd h i=3) (hj:I4 h (ms h i) i=some j):(stamps h).1.getD j 0<(stamps h).1.getD i 0:=by
  rw [(a2m hh).2.2 i hi,numOf,if_pos hk,hj]
  show (stamps h).1.getD j 0<(if a4h (stamps h).1 (H3 h (pr h i) i)<(stamps h).1.getD j 0 then (stamps h).1.getD j 0 else a4h (stamps h).1 (H3 h (pr h i) i))+1
  split<;>omega
theorem a8m {a:Nat}:∀ {b:Nat},a<b→b<h.length→pr h a=pr h b→(stamps h).1.getD a 0<(stamps h).1.getD b 0:=by
  intro b
  induction b using Nat.strongRecOn with
  | _ b ih =>
    intro hab hb he
    obtain ⟨j,hj,haj⟩:=c3J hab he
    have h1:=c09 hh hb hj
    obtain ⟨j1,j2,_⟩:=T6 hj
    by_cases e:a=j
    · rw [e]; exact h1
    · have:=ih j j1 (by omega) (by omega) (by rw [he,j2])
      omega
theorem c1a {a b:Nat} (hab:a<b) (hb:b<h.length) (he:W9 h a b=true):(stamps h).1.getD a 0<(stamps h).1.getD b 0:=by
  rcases (b9Y (a7p hh (by omega)) (a7p hh hb)).1 he with h1|⟨h1,h2,h3⟩
  · exact a8m hh hab hb h1
  · exact c08 hh hb h2 (c0U (fun k hk=>a7p hh hk) hab (by omega) h1 h3)
theorem b9v {a:Nat}:∀ {b:Nat},b<h.length→hb h b a=true→a<b∧(stamps h).1.getD a 0<(stamps h).1.getD b 0:=by
  intro b
  induction b using Nat.strongRecOn with
  | _ b ih =>
    intro hb' he
    obtain ⟨c,c1,c2,c3⟩:=b9P.1 he
    have h1:=c1a hh c1 hb' c2
    rcases c3 with rfl|c3
    · exact ⟨c1,h1⟩
    · have:=ih c c1 (by omega) c3
      omega
end

theorem a6w {h:List Ev} {a:Nat} {x:Int×Int×Unit}:∀ {n:Nat},x∈P5 h a n↔∃ b,b<n∧hb h b a=true∧x=((a:Int),(b:Int),())
  | 0=>by simp [P5]
  | n+1=>by
    simp only [P5,List.mem_append,a6w (n:=n)]
    constructor
    · rintro (⟨b,h1,h2⟩|h1)
      · exact ⟨b,by omega,h2⟩
      · split at h1
        · rename_i hc; exact ⟨n,by omega,hc,by simpa using h1⟩
        · cases h1
    · rintro ⟨b,h1,h2,h3⟩
      by_cases e:b=n
      · subst e; right; rw [if_pos h2]; simpa using h3
      · exact .inl ⟨b,by omega,h2,h3⟩
theorem a6x {h:List Ev} {n:Nat} {x:Int×Int×Unit}:∀ {k:Nat},x∈J4 h n k↔∃ a b,a<k∧b<n∧hb h b a=true∧x=((a:Int),(b:Int),())
  | 0=>by simp [J4]
  | k+1=>by
    simp only [J4,List.mem_append,a6x (k:=k),a6w]
    constructor
    · rintro (⟨a,b,h1,h2⟩|⟨b,h1,h2⟩)
      · exact ⟨a,b,by omega,h2⟩
      · exact ⟨k,b,by omega,h1,h2⟩
    · rintro ⟨a,b,h1,h2,h3⟩
      by_cases e:a=k
      · subst e; exact .inr ⟨b,h2,h3⟩
      · exact .inl ⟨a,b,by omega,h2,h3⟩
theorem a8I {h:List Ev} (hh:t8 h=0):D9 h=(J4 h h.length h.length,0,()):=by rw [D9,if_neg (by simp [hh])]
theorem a6y {h:List Ev} (hh:t8 h=0) {x:Int×Int×Unit}:x∈(D9 h).1↔∃ a b,a<h.length∧b<h.length∧hb h b a=true∧x=((a:Int),(b:Int),()):=by rw [a8I hh,a6x]
theorem b64 {h:List Ev}:(stamps h).2.1=t8 h:=by
  by_cases hh:t8 h=0
  · rw [(a2m hh).2.1,hh]
  · rw [stamps,if_pos hh]
theorem c0i {h:List Ev}:(D9 h).2.1=t8 h:=by
  by_cases hh:t8 h=0
  · rw [a8I hh,hh]
  · rw [D9,if_pos hh]
end Go.Proofs.Ytekbamiaenbhjaa
