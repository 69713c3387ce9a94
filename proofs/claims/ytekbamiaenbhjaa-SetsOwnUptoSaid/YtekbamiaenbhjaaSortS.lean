/- slices.Sort of strings: a contract of the evaluator. Condition: no more than 1048576 elements. -/
import Derived.Test.YtekbamiaenbhjaaSortD
import Derived.Shelf.SlGeneric
namespace Go.Ex
open Go.Sort Go.Proofs
abbrev cfS:List UInt8→List UInt8→Int:=fun a b=>if a<b then -1 else 0
theorem a3i {a b:List UInt8}:G1 cfS a b=decide (a<b):=by
  unfold G1 cfS
  by_cases h:a<b
  · rw [if_pos h]; simp [h]
  · rw [if_neg h]; simp [h]
theorem b5t:SWO (G1 cfS):=by
  refine ⟨fun a=>?_,fun a b c h1 h2=>?_,fun a b c h1 h2=>?_⟩
  · rw [a3i]; simp [List.lt_irrefl]
  · rw [a3i] at h1 h2 ⊢
    simp only [decide_eq_true_eq] at h1 h2 ⊢
    exact List.lt_trans h1 h2
  · rw [a3i] at h1 h2 ⊢
    simp only [decide_eq_false_iff_not] at h1 h2 ⊢
    exact List.le_trans (show c≤b from h2) (show b≤a from h1)
theorem c4e {a b:List UInt8} (h1:G1 cfS a b=false) (h2:G1 cfS b a=false):a=b:=by
  rw [a3i] at h1 h2
  simp only [decide_eq_false_iff_not] at h1 h2
  exact List.le_antisymm (show a≤b from h2) (show b≤a from h1)
abbrev N6 (l:List (List UInt8)):List (List UInt8):=l.mergeSort fun x y=>decide (x≤y)
theorem b0Q (l:List (List UInt8)):E4 (G1 cfS) l=N6 l:=by
  unfold E4 N6
  congr 1
  funext a b
  rw [a3i]
  by_cases h:b<a
  · have:¬ a≤b:=fun h'=>h' h
    simp [h,this]
  · have:a≤b:=h
    simp [h,this]
theorem a89 (l:List (List UInt8)):(N6 l).length=l.length:=(List.mergeSort_perm _ _).length_eq
def b7K:p7:={ ps:=[.mu .str],rs:=[],pre:=fun x=>List.length (α:=List UInt8) x.1≤1048576,fn:=fun _=>(),out:=fun x=>(N6 x.1,()) }
theorem b3q {P:Program} {ρ:Shelf.Ren} (L:SlLaysM.n6 P ρ):b7K.Valid P (ρ.f 6):=by
  refine ⟨?_,?_,fun h=>by cases h⟩
  · obtain ⟨nm,hn,hf⟩:=L.f6
    exact ⟨_,hf,hn,rfl⟩
  rintro w S vs ⟨(l:List (List UInt8)),_⟩ L0 hS - hsm ⟨v,us,L1,L2,rfl,rfl,⟨cs,rfl,hR⟩,rfl,rfl⟩ - hnd hL
  rw [List.append_nil] at hnd hL ⊢
  have hsm:l.length≤1048576:=hsm
  have none:∀ {a:Option Addr} {cap:Nat},cs=[.slice a 0 cap]→l=[]→Calls P (ρ.f 6) #[.slice a 0 cap] w (X7 w S [] [.mu .str] [.slice a 0 cap] L1 () (N6 l,())):=by
    intro a cap hcs hl
    refine (AnyM.slices_Sort_string_none L a cap w).mono ?_
    rintro e w' ⟨he,hw⟩
    rw [he,hw]
    have hR:d9 w.heap S (.b7 true .str) L1 cs l:=hR
    subst hl
    have e0:N6 []=[]:=List.mergeSort_nil
    rw [e0]
    refine ⟨[],[],L1,S,rfl,⟨rfl,.refl _,rfl,Nat.le_refl _,fun _ _ _=>rfl⟩,fun _ h=>h,fun _ h=>.inl h,⟨rfl,rfl⟩,⟨cs,L1,[],[],by rw [hcs]; rfl,by rw [hcs]; rfl,hR,by simp,⟨rfl,rfl⟩⟩,by simpa using hnd,fun b hb=>?_⟩
    have hb:b∈L1:=by simpa using hb
    exact ⟨(hL b hb).1,.inr hb,(hL b hb).2⟩
  have hR:d9 w.heap S (.b7 true .str) L1 cs l:=hR
  rcases hR with ⟨rfl,⟨a,c,rfl,h0⟩,rfl⟩|⟨b,off,cap,O',rfl,hl,hcm,hbk,hRL,rfl,hfree⟩
  · exact none rfl rfl
  obtain rfl:O'=[]:=i5.F8 (fun _ _ _ h=>h.F8 rfl) hRL
  by_cases hlz:l=[]
  · subst hlz
    exact none rfl rfl
  have hl:l.length≤cap:=hl
  have hbk:off+l.length*1≤(p8 w.heap b).length:=hbk
  have hRL:i5 (d9 w.heap S .str) 1 [] (d0 w.heap b off (l.length*1)) l:=hRL
  have hbS:¬ S b:=(hL b (by simp)).1
  obtain ⟨dl,e1,e2⟩:=b1t (t:=.str) (ok:=fun _=>True) rfl hRL (fun _ _=>trivial)
  have hcs:∀ x:El w.heap S .str (fun _=>True),x.cs=[encStr x.x]:=fun x=>x.2.1.2.1
  have hflat:∀ dl:List (El w.heap S .str (fun _=>True)),(dl.map El.cs).flatten=(dl.map El.x).map encStr:=by
    intro dl
    induction dl with
    | nil=>rfl
    | cons x dl ih=>rw [List.map_cons,List.flatten_cons,ih,hcs x]; rfl
  have hfr:=hfree
  obtain ⟨arr,T,⟨fz,hlie⟩,hn⟩:=L9.free hfr
  have hn:off+cap*1≤arr.size:=hn
  have hb:b<w.heap.size:=(Array.getElem?_eq_some_iff.1 hlie.1).1
  have hH:Holds encStr w b off l.toArray:=by
    refine a9j (holds_of hlie ?_ ?_)
    · simp only [Array.size_map,List.size_toArray]; omega
    · simp only [Array.size_map,List.size_toArray]
      have:(l.toArray.map encStr).toList=(dl.map El.cs).flatten:=by rw [hflat,e1]; simp
      rw [this,e2,Nat.mul_one]
  refine (AnyM.slices_Sort_string L b off cap l w hH hb (by omega)).mono ?_
  rintro e w' ⟨rfl,n,os,rfl⟩
  have tie:∀ a∈l,∀ b∈l,G1 cfS a b=false→G1 cfS b a=false→a=b:=fun a _ b _ h1 h2=>c4e h1 h2
  have hmap:(E4 (fun x y:El w.heap S .str (fun _=>True)=>G1 cfS x.x y.x) dl).map El.x=N6 l:=by
    rw [← b0Q,← e1]
    exact List.map_mergeSort (fun _ _ _ _=>rfl)
  have hfin:=b0P (t:=.str) (cf:=cfS) hS hbS hfree hl hcm b5t tie e1 (dl':=E4 (fun x y=>G1 cfS x.x y.x) dl) (T6 _ _) (by
    refine a4t (lt:=fun x y:El w.heap S .str (fun _=>True)=>G1 cfS x.x y.x) ⟨fun a=>b5t.1 _,fun a b c=>b5t.2 _ _ _,fun a b c=>b5t.3 _ _ _⟩ dl) n os
  rw [hflat,hmap] at hfin
  have hw:grow (putRow encStr (Sort.ahead w n) b off (N6 l).toArray) os=sortWorld id w b off n ((N6 l).map encStr).toArray os:=by
    have:=b0M encStr w b off n (N6 l).toArray os
    rw [show ((N6 l).map encStr).toArray=(N6 l).toArray.map encStr by simp]
    exact this
  rw [hw]
  have h9:=b7J (t:=.str) (cf:=cfS) hbS hfin
  rw [b0Q] at h9
  exact h9
end Go.Ex
