/- slices.SortFunc as a contract of the evaluator: the two bridges. Condition: what the contract asks. -/
import Derived.Test.YtekbamiaenbhjaaSortB
import Derived.Shelf.SlSortCmp.NoneTotal
namespace Go.Ex
open Go.Sort Go.Proofs

section
variable {P:Program} {t:Ty} {g:Nat} {cf:t.den→t.den→Int} {ok:t.den→Prop} {ρ:Shelf.Ren}

theorem b03 (L:SlLaysF0.n6 P ρ) {w:World} {S:Nat→Prop} {a:Option Addr} {cap:Nat} {fv:Value} {L1:List Nat} {cs:List Value} (hL1:∀ b∈L1,¬ S b∧b<w.heap.size) (hnd:L1.Nodup) (hcs:cs=[.slice a 0 cap])
    (hR:f9 w.heap S (.d0 true t) L1 cs []) :
    Calls P (ρ.f 6) #[.slice a 0 cap,fv] w (a3h w S [] [.mu t,.s4 g []] [.slice a 0 cap,fv] L1 () (x7 (V3 cf) [],())):=by
  refine (AnyF.slices_SortFunc_none L a cap fv w).mono ?_
  rintro e w' ⟨rfl,rfl⟩
  refine ⟨[],[],L1,S,rfl,⟨rfl,.refl _,rfl,Nat.le_refl _,fun _ _ _=>rfl⟩,fun _ h=>h,fun _ h=>.inl h,⟨rfl,rfl⟩,⟨cs,L1,[fv],[],by rw [hcs]; rfl,by rw [hcs]; rfl,?_,by simp,⟨fv,[],rfl,rfl,rfl⟩⟩,by simpa using hnd,fun b hb=>?_⟩
  · have:x7 (V3 cf) []=[]:=by simp [x7]
    rw [this]; exact hR
  · have hb:b∈L1:=by simpa using hb
    exact ⟨(hL1 b hb).1,.inr hb,(hL1 b hb).2⟩

end
end Go.Ex
