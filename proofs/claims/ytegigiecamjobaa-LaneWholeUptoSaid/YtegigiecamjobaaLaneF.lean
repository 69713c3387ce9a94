/- A parcel taken once more, in plain terms. -/
import Derived.Test.YtegigiecamjobaaLaneD
namespace Go.Proofs.Ytegigiecamjobaa
open Go.Ex
theorem atF_cons {n:Int} {p:ParcelD} {l:List ParcelD}:atF n (p::l)=if p.1<n then atF n l+1 else 0:=by
  rw [atF,List.takeWhile_cons]
  by_cases e:p.1<n
  · rw [if_pos (decide_eq_true e),if_pos e]; rfl
  · rw [if_neg (by rw [decide_eq_true_eq]; exact e),if_neg e]; rfl
theorem known_iff {n:Int}:∀ {l:List ParcelD} {b:Int},rise b l→(knownF n l=true↔∃ p∈l,p.1=n)
  | [],_,_=>by simp [knownF]
  | p::l,b,⟨h1,h2⟩=>by
    rw [knownF,atF_cons]
    by_cases e:p.1<n
    · rw [if_pos e]
      have ih:=known_iff (n:=n) h2
      rw [knownF] at ih
      have e1:decide (atF n l+1<(p::l).length)=decide (atF n l<l.length):=decide_eq_decide.2 (by rw [List.length_cons]; omega)
      rw [e1,show (p::l).getD (atF n l+1) p00=l.getD (atF n l) p00 from rfl,ih]
      constructor
      · rintro ⟨q,hq,hn⟩; exact ⟨q,List.mem_cons_of_mem _ hq,hn⟩
      · rintro ⟨q,hq,hn⟩
        rcases List.mem_cons.1 hq with rfl|hq
        · omega
        · exact ⟨q,hq,hn⟩
    · rw [if_neg e]
      rw [decide_eq_true (show 0<(p::l).length by simp),Bool.true_and,decide_eq_true_eq]
      show p.1 - n=0↔_
      constructor
      · intro h; exact ⟨p,List.mem_cons_self,by omega⟩
      · rintro ⟨q,hq,hn⟩
        rcases List.mem_cons.1 hq with rfl|hq
        · omega
        · have:=rise_mem h2 hq; omega
theorem ToOk.ins {r:Int} {l:List ParcelD} {p:ParcelD} (h:ToOk r l) (h1:r<p.1) (h2:p.1<r+16) (h3:llong p.2.1=false) (h4:knownF p.1 l=false):ToOk r (insF p l):=by
  have hn:∀ x∈l,x.1≠p.1:=fun x hx e=>by
    have:=(known_iff h.up).2 ⟨x,hx,e⟩
    rw [h4] at this; cases this
  have hup:=insF_rise h.up h1 hn
  have hb:∀ x∈insF p l,x.1<r+16∧llong x.2.1=false:=fun x hx=>by
    rcases insF_mem.1 hx with rfl|hx
    · exact ⟨h2,h3⟩
    · exact h.b x hx
  refine ⟨h.rg,?_,hup,hb⟩
  have hl:=insF_len (p:=p) (l:=l)
  have:=rise_len hup (fun x hx=>(hb x hx).1) (fun e=>by rw [e] at hl; simp at hl)
  omega
def ltake (s:ToD) (p:ParcelD):ToD×List (List UInt8)×Int×Unit :=
  if toE s≠0 then (t00,[],toE s,()) else if inF p.1 0 16777214=false then (t00,[],1,()) else if llong p.2.1=true then (t00,[],2,()) else
  if p.1<s.1∨s.1+16≤p.1∨knownF p.1 s.2.1=true then (s,[],0,()) else if s.1<p.1 then ((s.1,insF p s.2.1,()),[],0,()) else
  (((popR s.2.1 (s.1+1)).1,(popR s.2.1 (s.1+1)).2.1,()),p.2.1::(popR s.2.1 (s.1+1)).2.2,0,())
theorem ltake_in {r:Int} {l:List ParcelD} {p:ParcelD} (h:ToOk r l) (h1:0≤p.1∧p.1≤16777214) (h2:llong p.2.1=false):ltake (r,l,()) p =
    if p.1<r∨r+16≤p.1∨knownF p.1 l=true then ((r,l,()),[],0,()) else if r<p.1 then ((r,insF p l,()),[],0,()) else
    (((popR l (r+1)).1,(popR l (r+1)).2.1,()),p.2.1::(popR l (r+1)).2.2,0,()):=by
  rw [ltake,if_neg (by simp [toE_iff.2 h]),if_neg (by rw [inF_iff.2 h1]; simp),if_neg (by rw [h2]; simp)]
end Go.Proofs.Ytegigiecamjobaa
