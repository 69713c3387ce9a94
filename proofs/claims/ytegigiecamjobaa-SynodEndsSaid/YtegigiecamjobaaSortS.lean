/- slices.Sort of strings that are all one: a contract of the evaluator. Condition: no more than 1048576 elements, all alike. -/
import Derived.Test.YtegigiecamjobaaSortD
import Derived.Shelf.SlGeneric
namespace Go.Ex
open Go.Sort Go.Proofs
theorem one_perm {α:Type} {l m:List α} (h:∀ a∈l,∀ b∈l,a=b) (hp:m.Perm l):m=l:=by
  cases l with
  | nil=>exact List.Perm.eq_nil hp
  | cons a l =>
    have e:(a::l)=List.replicate (a::l).length a:=List.eq_replicate_iff.2 ⟨rfl,fun b hb=>h b hb a (by simp)⟩
    rw [e] at hp ⊢
    exact List.perm_replicate.1 hp
abbrev cf0:List UInt8→List UInt8→Int:=fun _ _=>0
theorem swo0:SWO (ltD cf0):=⟨fun _=>rfl,fun _ _ _ h _=>(by cases h),fun _ _ _ _ _=>rfl⟩
def sortSC:Ctr:={ ps:=[.mu .str],rs:=[],pre:=fun x=>(∀ a∈(show List (List UInt8) from x.1),∀ b∈(show List (List UInt8) from x.1),a=b)∧List.length (α:=List UInt8) x.1≤1048576,fn:=fun _=>(),out:=fun x=>(x.1,()) }
theorem sortS_valid {P:Program} {ρ:Shelf.Ren} (L:SlLaysM.n6 P ρ):sortSC.Valid P (ρ.f 6):=by
  refine ⟨?_,?_,fun h=>by cases h⟩
  · obtain ⟨nm,hn,hf⟩:=L.f6
    exact ⟨_,hf,hn,rfl⟩
  rintro w S vs ⟨(l:List (List UInt8)),_⟩ L0 hS ⟨hone,hsm⟩ ⟨v,us,L1,L2,rfl,rfl,⟨cs,rfl,hR⟩,rfl,rfl⟩ - hnd hL
  rw [List.append_nil] at hnd hL ⊢
  have hone:∀ a∈l,∀ b∈l,a=b:=hone
  have hsm:l.length≤1048576:=hsm
  have h0:sortBy (ltD cf0) l=l:=one_perm hone (sortBy_perm _ _)
  have none:∀ {a:Option Addr} {cap:Nat},cs=[.slice a 0 cap]→l=[]→Calls P (ρ.f 6) #[.slice a 0 cap] w (ResOk w S [] [.mu .str] [.slice a 0 cap] L1 () (l,())):=by
    intro a cap hcs hl
    refine (AnyM.slices_Sort_string_none L a cap w).mono ?_
    rintro e w' ⟨he,hw⟩
    rw [he,hw]
    have hR:Rep w.heap S (.slc true .str) L1 cs l:=hR
    subst hl
    refine ⟨[],[],L1,S,rfl,⟨rfl,.refl _,rfl,Nat.le_refl _,fun _ _ _=>rfl⟩,fun _ h=>h,fun _ h=>.inl h,⟨rfl,rfl⟩,⟨cs,L1,[],[],by rw [hcs]; rfl,by rw [hcs]; rfl,hR,by simp,⟨rfl,rfl⟩⟩,by simpa using hnd,fun b hb=>?_⟩
    have hb:b∈L1:=by simpa using hb
    exact ⟨(hL b hb).1,.inr hb,(hL b hb).2⟩
  have hR:Rep w.heap S (.slc true .str) L1 cs l:=hR
  rcases hR with ⟨rfl,⟨a,c,rfl,h0⟩,rfl⟩|⟨b,off,cap,O',rfl,hl,hcm,hbk,hRL,rfl,hfree⟩
  · exact none rfl rfl
  obtain rfl:O'=[]:=RepL.nilO (fun _ _ _ h=>h.nilO rfl) hRL
  by_cases hlz:l=[]
  · subst hlz
    exact none rfl rfl
  have hl:l.length≤cap:=hl
  have hbk:off+l.length*1≤(blk w.heap b).length:=hbk
  have hRL:RepL (Rep w.heap S .str) 1 [] (cellsAt w.heap b off (l.length*1)) l:=hRL
  have hbS:¬ S b:=(hL b (by simp)).1
  obtain ⟨dl,e1,e2⟩:=els_of (t:=.str) (ok:=fun _=>True) rfl hRL (fun _ _=>trivial)
  have hcs:∀ x:El w.heap S .str (fun _=>True),x.cs=[encStr x.x]:=fun x=>x.2.1.2.1
  have hflat:∀ dl:List (El w.heap S .str (fun _=>True)),(dl.map El.cs).flatten=(dl.map El.x).map encStr:=by
    intro dl
    induction dl with
    | nil=>rfl
    | cons x dl ih=>rw [List.map_cons,List.flatten_cons,ih,hcs x]; rfl
  have hfr:=hfree
  obtain ⟨arr,T,⟨fz,hlie⟩,hn⟩:=hfr
  have hn:off+cap*1≤arr.size:=hn
  have hb:b<w.heap.size:=(Array.getElem?_eq_some_iff.1 hlie.1).1
  have hH:Holds encStr w b off l.toArray:=by
    refine holds_map (holds_of hlie ?_ ?_)
    · simp only [Array.size_map,List.size_toArray]; omega
    · simp only [Array.size_map,List.size_toArray]
      have:(l.toArray.map encStr).toList=(dl.map El.cs).flatten:=by rw [hflat,e1]; simp
      rw [this,e2,Nat.mul_one]
  refine (AnyM.slices_Sort_string L b off cap l w hH hb (by omega)).mono ?_
  rintro e w' ⟨rfl,n,os,rfl⟩
  have hms:(l.mergeSort fun x y=>decide (x≤y))=l:=one_perm hone (List.mergeSort_perm _ _)
  rw [hms]
  have tie:∀ a∈l,∀ b∈l,ltD cf0 a b=false→ltD cf0 b a=false→a=b:=fun a ha b hb _ _=>hone a ha b hb
  have hfin:=sort_rep (t:=.str) (cf:=cf0) hS hbS hfree hl hcm swo0 tie e1 (dl':=dl) (List.Perm.refl _) (List.pairwise_of_forall (fun _ _=>rfl)) n os
  rw [hflat,e1] at hfin
  have hw:grow (putRow encStr (Sort.ahead w n) b off l.toArray) os=sortWorld id w b off n (l.map encStr).toArray os:=by
    have:=sw_map encStr w b off n l.toArray os
    rw [show (l.map encStr).toArray=l.toArray.map encStr by simp]
    exact this
  rw [hw]
  have h9:=sort_fin1 (t:=.str) (cf:=cf0) hbS hfin
  rw [h0] at h9
  exact h9
end Go.Ex
