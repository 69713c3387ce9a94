/- Hall's law, plain. No condition but those named. -/
import Derived.Test.YtegigiecamjobaaHall
import Derived.Test.YtegigiecamjobaaMatchX
namespace Go.Proofs.Ytegigiecamjobaa
open Go.Ex
set_option maxRecDepth 100000
theorem castNd:∀ {l:List Nat},l.Nodup→(l.map (fun a:Nat=>(a:Int))).Nodup:=by
  intro l h
  rw [List.Nodup,List.pairwise_map]
  exact h.imp (fun h e=>h (by omega))
theorem goW_le {l:List PairD} {left Y:List Int} (hr:∀ q∈l,0≤q.2.1) (h:∀ q∈l,q.1∈left→q.2.1∈Y):goW l left≤(Y.length:Int):=by
  unfold goW
  have hn:((List.range 64).filter (fun b:Nat=>decide (goP l left b))).Nodup:=List.Nodup.sublist List.filter_sublist List.nodup_range
  have:=nodup_sub (castNd hn) (S:=Y) (fun x hx=>by
    obtain ⟨b,hb,rfl⟩:=List.mem_map.1 hx
    obtain ⟨q,hq,e1,e2⟩:=of_decide_eq_true (List.mem_filter.1 hb).2
    have h0:=hr q hq
    have h1:=h q hq e1
    rw [← e2,Int.toNat_of_nonneg h0]; exact h1)
  rw [List.length_map] at this
  omega
theorem goW_ge {l P:List PairD} {left:List Int} (hr:∀ q∈l,0≤q.2.1∧q.2.1<64) (hM:Match l P) (hnd:left.Nodup) (h:∀ a∈left,∃ q∈P,q.1=a):(left.length:Int)≤goW l left:=by
  have k1:left.length≤((P.filter (fun q=>decide (q.1∈left))).map (fun q=>q.1)).length:=nodup_sub hnd (fun a ha=>by
    obtain ⟨q,hq,e⟩:=h a ha
    exact List.mem_map.2 ⟨q,List.mem_filter.2 ⟨hq,decide_eq_true (e▸ha)⟩,e⟩)
  have k2:((P.filter (fun q=>decide (q.1∈left))).map (fun q=>q.2.1.toNat)).Nodup:=by
    rw [List.Nodup,List.pairwise_map]
    refine List.Pairwise.imp_of_mem ?_ (hM.two.sublist List.filter_sublist)
    intro p q hp hq hne e
    have h1:=hr p (hM.sub p (List.mem_filter.1 hp).1)
    have h2:=hr q (hM.sub q (List.mem_filter.1 hq).1)
    exact hne (by omega)
  have k3:=nodup_sub k2 (S:=(List.range 64).filter (fun b:Nat=>decide (goP l left b))) (fun b hb=>by
    obtain ⟨q,hq,rfl⟩:=List.mem_map.1 hb
    obtain ⟨hq,hl⟩:=List.mem_filter.1 hq
    have h1:=hr q (hM.sub q hq)
    exact List.mem_filter.2 ⟨List.mem_range.2 (by omega),decide_eq_true ⟨q,hM.sub q hq,of_decide_eq_true hl,rfl⟩⟩)
  rw [List.length_map] at k1 k3
  unfold goW
  omega
theorem all_mates {l P:List PairD} {m:Nat} (hr:∀ q∈l,0≤q.1∧q.1<(m:Int)) (hM:Match l P) (hlen:m≤P.length) {a:Int} (h0:0≤a) (h1:a<(m:Int)):∃ q∈P,q.1=a:=by
  refine Decidable.byContradiction (fun hn=>?_)
  have hnd:(a::P.map (fun q=>q.1)).Nodup:=by
    refine List.nodup_cons.2 ⟨fun hm=>?_,by rw [List.Nodup,List.pairwise_map]; exact hM.one⟩
    obtain ⟨q,hq,e⟩:=List.mem_map.1 hm
    exact hn ⟨q,hq,e⟩
  have:=nodup_sub hnd (S:=(List.range m).map (fun i:Nat=>(i:Int))) (fun x hx=>by
    rcases List.mem_cons.1 hx with rfl|hx
    · exact List.mem_map.2 ⟨x.toNat,List.mem_range.2 (by omega),by omega⟩
    · obtain ⟨q,hq,rfl⟩:=List.mem_map.1 hx
      have:=hr q (hM.sub q hq)
      exact List.mem_map.2 ⟨q.1.toNat,List.mem_range.2 (by omega),by omega⟩)
  rw [List.length_cons,List.length_map,List.length_map,List.length_range] at this
  omega
def freeF (X:List Int) (k:Nat):List Int:=((List.range k).map (fun i:Nat=>(i:Int))).filter (fun a=>decide (a∉X))
theorem freeF_succ {X:List Int} {k:Nat}:freeF X (k+1)=if (k:Int)∈X then freeF X k else freeF X k++[(k:Int)]:=by
  unfold freeF
  rw [List.range_succ,List.map_append,List.filter_append]
  by_cases h:(k:Int)∈X
  · simp [h]
  · simp [h]
theorem freeF_le {X:List Int} {k:Nat}:(freeF X k).length≤k:=by
  have:=List.length_filter_le (fun a=>decide (a∉X)) ((List.range k).map (fun i:Nat=>(i:Int)))
  rw [List.length_map,List.length_range] at this
  exact this
theorem freeF_ge {X:List Int} {k:Nat}:k≤(freeF X k).length+X.length:=by
  have hn:=castNd (List.nodup_range (n:=k))
  have:=nodup_sub hn (S:=freeF X k++X) (fun x hx=>by
    by_cases h:x∈X
    · exact List.mem_append_right _ h
    · exact List.mem_append_left _ (List.mem_filter.2 ⟨hx,decide_eq_true h⟩))
  rw [List.length_map,List.length_range,List.length_append] at this
  exact this
theorem hall_less {m n:Int} {l:List PairD} (h:mcheck m n l=0) (hs:((mostR m n l).1.length:Int)<m):goW l (freeF (coverR m n l).1 m.toNat)<((freeF (coverR m n l).1 m.toNat).length:Int):=by
  obtain ⟨hin,-,-,-⟩:=mostR_match (m:=m) (n:=n) (l:=l) (by rw [mostR_code]; exact h)
  have h1:=goW_le (l:=l) (left:=freeF (coverR m n l).1 m.toNat) (Y:=(coverR m n l).2.1) (fun q hq=>(hin.2.2 q hq).2.1) (fun q hq hx=>by
    rcases cover_covers h hq with c|c
    · exact absurd c (of_decide_eq_true (List.mem_filter.1 hx).2)
    · exact c)
  have h2:=freeF_ge (X:=(coverR m n l).1) (k:=m.toNat)
  have h3:=(cover_size h).1
  omega
theorem hall_more {m n:Int} {l:List PairD} (h:mcheck m n l=0) (hs:¬ ((mostR m n l).1.length:Int)<m) {left:List Int} (hnd:left.Nodup) (hr:∀ a∈left,0≤a∧a<m):(left.length:Int)≤goW l left:=by
  obtain ⟨hin,-,hM,-⟩:=mostR_match (m:=m) (n:=n) (l:=l) (by rw [mostR_code]; exact h)
  have hm:=hin.1
  refine goW_ge (fun q hq=>⟨(hin.2.2 q hq).2.1,by have:=(hin.2.2 q hq).2.2; have:=hin.2.1.2; omega⟩) hM hnd (fun a ha=>?_)
  obtain ⟨h0,h1⟩:=hr a ha
  exact all_mates (m:=m.toNat) (fun q hq=>⟨(hin.2.2 q hq).1.1,by have:=(hin.2.2 q hq).1.2; omega⟩) hM (by omega) h0 (by omega)
end Go.Proofs.Ytegigiecamjobaa
