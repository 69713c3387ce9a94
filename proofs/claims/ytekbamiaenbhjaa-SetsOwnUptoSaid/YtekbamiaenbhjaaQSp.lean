/- Sperner for sets of at most ten things: of sets none of which is within another one there are at most 252. No condition but those named. -/
import Derived.Test.YtekbamiaenbhjaaUtil
namespace Go.Proofs.Ytekbamiaenbhjaa
open Go.Ex
set_option maxRecDepth 100000
def a4C (a b:Nat):Prop:=∀ i,a.testBit i=true→b.testBit i=true
def scd:Nat→List (List Nat)
  | 0=>[[0]]
  | n+1=>((scd n).flatMap (fun c=>[c++[c.getLastD 0+2^n],c.dropLast.map (·+2^n)])).filter (fun c=>!c.isEmpty)
theorem a8K {a n i:Nat} (h:a<2^n):(a+2^n).testBit i=(a.testBit i || decide (i=n)):=by
  have e:a+2^n=2^n*1+a:=by omega
  rw [e]
  by_cases hi:i<n
  · rw [Nat.testBit_two_pow_mul_add 1 h i,if_pos hi,decide_eq_false (by omega),Bool.or_false]
  · rw [Nat.testBit_two_pow_mul_add 1 h i,if_neg hi,Nat.testBit_lt_two_pow (Nat.lt_of_lt_of_le h (Nat.pow_le_pow_right (by omega) (by omega))),Bool.false_or]
    by_cases e:i=n
    · subst e; simp
    · rw [decide_eq_false e]
      obtain ⟨k,hk⟩:∃ k,i - n=k+1:=⟨i - n - 1,by omega⟩
      rw [hk,Nat.testBit_succ]; simp
theorem b72:∀ n,∀ c∈scd n,c.Pairwise a4C∧∀ a∈c,a<2^n
  | 0,c,hc=>by
    rw [scd,List.mem_singleton] at hc
    subst hc
    exact ⟨List.pairwise_singleton _ _,by simp⟩
  | n+1,c,hc=>by
    rw [scd,List.mem_filter,List.mem_flatMap] at hc
    obtain ⟨⟨d,hd,hc⟩,-⟩:=hc
    obtain ⟨h1,h2⟩:=b72 n d hd
    have hp:2^(n+1)=2^n+2^n:=by rw [Nat.pow_succ]; omega
    have hl:d.getLastD 0<2^n:=by
      cases h:d.getLast? with
      | none =>
        have:d=[]:=by simpa using h
        subst this; exact Nat.two_pow_pos n
      | some x =>
        rw [List.getLastD_eq_getLast?,h]
        exact h2 x (List.mem_of_getLast? h)
    rcases List.mem_cons.1 hc with rfl|hc
    · refine ⟨List.pairwise_append.2 ⟨h1,List.pairwise_singleton _ _,fun a ha b hb=>?_⟩,fun a ha=>?_⟩
      · rw [List.mem_singleton] at hb
        subst hb
        intro i hi
        rw [a8K hl]
        have:a4C a (d.getLastD 0):=by
          rcases List.eq_nil_or_concat d with rfl|⟨d',x,rfl⟩
          · cases ha
          · rw [List.concat_eq_append] at *
            rw [List.getLastD_concat]
            rcases List.mem_append.1 ha with h|h
            · exact (List.pairwise_append.1 h1).2.2 a h x (by simp)
            · rw [List.mem_singleton] at h; subst h; exact fun _ h=>h
        rw [this i hi]; rfl
      · rcases List.mem_append.1 ha with h|h
        · have:=h2 a h; omega
        · rw [List.mem_singleton] at h; subst h; omega
    · rw [List.mem_singleton] at hc
      subst hc
      refine ⟨?_,fun a ha=>?_⟩
      · rw [List.pairwise_map]
        refine ((h1.sublist (List.dropLast_sublist d)).imp_of_mem ?_)
        intro a b ha hb h i
        rw [a8K (h2 a ((List.dropLast_sublist d).subset ha)),a8K (h2 b ((List.dropLast_sublist d).subset hb)),Bool.or_eq_true,Bool.or_eq_true]
        exact fun hi=>hi.imp (h i) id
      · obtain ⟨b,hb,rfl⟩:=List.mem_map.1 ha
        have:=h2 b ((List.dropLast_sublist d).subset hb)
        omega
theorem a8d:∀ n s,s<2^n→∃ c∈scd n,s∈c
  | 0,s,h=>⟨[0],by simp [scd],by simp at h; simp [h]⟩
  | n+1,s,h=>by
    have hp:2^(n+1)=2^n+2^n:=by rw [Nat.pow_succ]; omega
    by_cases e:s<2^n
    · obtain ⟨c,h1,h2⟩:=a8d n s e
      exact ⟨_,List.mem_filter.2 ⟨List.mem_flatMap.2 ⟨c,h1,List.mem_cons_self ..⟩,by simp⟩,List.mem_append_left _ h2⟩
    · obtain ⟨c,h1,h2⟩:=a8d n (s - 2^n) (by omega)
      rcases List.eq_nil_or_concat c with rfl|⟨d,x,rfl⟩
      · cases h2
      · rw [List.concat_eq_append] at *
        rcases List.mem_append.1 h2 with h3|h3
        · have h4:s∈(d++[x]).dropLast.map (·+2^n):=by
            rw [List.dropLast_concat]
            exact List.mem_map.2 ⟨_,h3,by omega⟩
          exact ⟨_,List.mem_filter.2 ⟨List.mem_flatMap.2 ⟨_,h1,List.mem_cons_of_mem _ (List.mem_cons_self ..)⟩,by
            cases hq:(d++[x]).dropLast.map (·+2^n) with
            | nil=>rw [hq] at h4; cases h4
            | cons _ _=>rfl⟩,h4⟩
        · rw [List.mem_singleton] at h3
          refine ⟨_,List.mem_filter.2 ⟨List.mem_flatMap.2 ⟨_,h1,List.mem_cons_self ..⟩,by simp⟩,List.mem_append_right _ ?_⟩
          rw [List.mem_singleton,List.getLastD_concat,← h3]; omega
theorem b4z:(scd 10).length=252:=by decide +kernel
theorem c1k {M:List Nat} (hn:M.Nodup) (hb:∀ s∈M,s<2^10) (ha:∀ a∈M,∀ b∈M,a4C a b→a=b):M.length≤252:=by
  let f:Nat→Nat:=fun s=>(scd 10).findIdx (fun c=>decide (s∈c))
  have hf:∀ s∈M,f s<252∧s∈(scd 10).getD (f s) []:=by
    intro s hs
    obtain ⟨c,h1,h2⟩:=a8d 10 s (hb s hs)
    have hlt:f s<(scd 10).length:=List.findIdx_lt_length_of_exists ⟨c,h1,decide_eq_true h2⟩
    refine ⟨b4z▸hlt,?_⟩
    rw [List.getD_eq_getElem?_getD,List.getElem?_eq_getElem hlt]
    exact of_decide_eq_true (List.findIdx_getElem (xs:=scd 10) (p:=fun c=>decide (s∈c)) (w:=hlt))
  have h1:(M.map f).Nodup:=by
    refine List.pairwise_map.2 (hn.imp_of_mem ?_)
    intro a b h2 h3 hab e
    have ea:=(hf a h2).2
    have eb:=(hf b h3).2
    rw [← e] at eb
    have hc:=(b72 10 _ (M8 (b4z▸(hf a h2).1):(scd 10).getD (f a) []∈scd 10)).1
    have key:∀ {c:List Nat},c.Pairwise a4C→a∈c→b∈c→a4C a b∨a4C b a:=by
      intro c
      induction c with
      | nil=>intro _ h; cases h
      | cons x c ih =>
        intro hp h4 h5
        obtain ⟨p1,p2⟩:=List.pairwise_cons.1 hp
        rcases List.mem_cons.1 h4 with e4|h4
        · rcases List.mem_cons.1 h5 with e5|h5
          · exact .inl (by rw [e4,e5]; exact fun _ h=>h)
          · exact .inl (e4▸p1 b h5)
        · rcases List.mem_cons.1 h5 with e5|h5
          · exact .inr (e5▸p1 a h4)
          · exact ih p2 h4 h5
    rcases key hc ea eb with h|h
    · exact hab (ha a h2 b h3 h)
    · exact hab (ha b h3 a h2 h).symm
  have:=a9p h1 (n:=252) (fun x hx=>by
    obtain ⟨s,hs,rfl⟩:=List.mem_map.1 hx
    exact (hf s hs).1)
  rwa [List.length_map] at this
end Go.Proofs.Ytekbamiaenbhjaa
