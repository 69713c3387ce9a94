/- A parcel taken once more, in plain terms. -/
import Derived.Test.YtekbamiaenbhjaaLaneD
namespace Go.Proofs.Ytekbamiaenbhjaa
open Go.Ex
theorem b86 {n:Int} {p:n9} {l:List n9}:W4 n (p::l)=if p.1<n then W4 n l+1 else 0:=by
  rw [W4,List.takeWhile_cons]
  by_cases e:p.1<n
  · rw [if_pos (decide_eq_true e),if_pos e]; rfl
  · rw [if_neg (by rw [decide_eq_true_eq]; exact e),if_neg e]; rfl
theorem a9M {n:Int}:∀ {l:List n9} {b:Int},a3V b l→(W9 n l=true↔∃ p∈l,p.1=n)
  | [],_,_=>by simp [W9]
  | p::l,b,⟨h1,h2⟩=>by
    rw [W9,b86]
    by_cases e:p.1<n
    · rw [if_pos e]
      have ih:=a9M (n:=n) h2
      rw [W9] at ih
      have e1:decide (W4 n l+1<(p::l).length)=decide (W4 n l<l.length):=decide_eq_decide.2 (by rw [List.length_cons]; omega)
      rw [e1,show (p::l).getD (W4 n l+1) U5=l.getD (W4 n l) U5 from rfl,ih]
      constructor
      · rintro ⟨q,hq,hn⟩; exact ⟨q,List.mem_cons_of_mem _ hq,hn⟩
      · rintro ⟨q,hq,hn⟩
        rcases List.mem_cons.1 hq with rfl|hq
        · omega
        · exact ⟨q,hq,hn⟩
    · rw [if_neg e]
      rw [decide_eq_true (show 0<(p::l).length by simp),Bool.true_and,decide_eq_true_eq]
      show p.1 - n=0↔_
      constructor
      · intro h; exact ⟨p,List.mem_cons_self,by omega⟩
      · rintro ⟨q,hq,hn⟩
        rcases List.mem_cons.1 hq with rfl|hq
        · omega
        · have:=a3U h2 hq; omega
theorem a9f.ins {r:Int} {l:List n9} {p:n9} (h:a9f r l) (h1:r<p.1) (h2:p.1<r+16) (h3:J0 p.2.1=false) (h4:W9 p.1 l=false):a9f r (a1D p l):=by
  have hn:∀ x∈l,x.1≠p.1:=fun x hx e=>by
    have:=(a9M h.up).2 ⟨x,hx,e⟩
    rw [h4] at this; cases this
  have hup:=a9O h.up h1 hn
  have hb:∀ x∈a1D p l,x.1<r+16∧J0 x.2.1=false:=fun x hx=>by
    rcases b8Q.1 hx with rfl|hx
    · exact ⟨h2,h3⟩
    · exact h.b x hx
  refine ⟨h.rg,?_,hup,hb⟩
  have hl:=b8R (p:=p) (l:=l)
  have:=b09 hup (fun x hx=>(hb x hx).1) (fun e=>by rw [e] at hl; simp at hl)
  omega
def a2e (s:ToD) (p:n9):ToD×List (List UInt8)×Int×Unit :=
  if toE s≠0 then (t00,[],toE s,()) else if Z7 p.1 0 16777214=false then (t00,[],1,()) else if J0 p.2.1=true then (t00,[],2,()) else
  if p.1<s.1∨s.1+16≤p.1∨W9 p.1 s.2.1=true then (s,[],0,()) else if s.1<p.1 then ((s.1,a1D p s.2.1,()),[],0,()) else
  (((K9 s.2.1 (s.1+1)).1,(K9 s.2.1 (s.1+1)).2.1,()),p.2.1::(K9 s.2.1 (s.1+1)).2.2,0,())
end Go.Proofs.Ytekbamiaenbhjaa
