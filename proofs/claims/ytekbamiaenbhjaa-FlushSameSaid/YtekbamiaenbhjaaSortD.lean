/- slices.Sort of ints and of strings as contracts of the evaluator. Condition: no more than 1048576 elements. -/
import Derived.Test.YtekbamiaenbhjaaSortB
import Derived.Shelf.SortM.Plain
import Derived.Shelf.SortM.SortNone
namespace Go.Ex
open Go.Sort Go.Proofs

def F5 (l:List Int):List Int:=T9 (fun x y=>decide (x<y)) l
theorem b2I:SWO (fun x y:Int=>decide (x<y)) :=
  ⟨fun x=>by simp,fun x y z=>by simp only [decide_eq_true_eq]; omega,fun x y z=>by simp only [decide_eq_false_iff_not]; omega⟩
def b4j:D4:={ ps:=[.mu (.int .i64)],rs:=[],pre:=fun x=>List.length (α:=Int) x.1≤1048576,fn:=fun _=>(),out:=fun x=>(F5 x.1,()) }
theorem b0V (l:List Int):l.mergeSort (fun x y=>decide (x≤y))=F5 l:=by
  refine a2A b2I (List.mergeSort_perm _ _) ?_ (fun a _ b _=>by simp only [decide_eq_false_iff_not]; omega)
  refine (List.pairwise_mergeSort (le:=fun x y:Int=>decide (x≤y)) (fun a b c=>by simp only [decide_eq_true_eq]; omega) (fun a b=>by simp only [Bool.or_eq_true,decide_eq_true_eq]; omega) l).imp ?_
  intro a b h
  simp only [decide_eq_true_eq,decide_eq_false_iff_not] at *
  omega

theorem b0U {P:Program} {ρ:Shelf.Ren} (L:SlLaysM.n5 P ρ):b4j.Valid P (ρ.f 5):=by
  refine ⟨?_,?_,fun h=>by cases h⟩
  · obtain ⟨nm,hn,hf⟩:=L.f5
    exact ⟨_,hf,hn,rfl⟩
  rintro w S vs ⟨(l:List Int),_⟩ L0 hS - hsm ⟨v,us,L1,L2,rfl,rfl,⟨cs,rfl,hR⟩,rfl,rfl⟩ - hnd hL
  rw [List.append_nil] at hnd hL ⊢
  have hsm:l.length≤1048576:=hsm
  have none:∀ {a:Option Addr} {cap:Nat},cs=[.slice a 0 cap]→l=[]→Calls P (ρ.f 5) #[.slice a 0 cap] w (a0V w S [] [.mu (.int .i64)] [.slice a 0 cap] L1 () (F5 l,())):=by
    intro a cap hcs hl
    refine (AnyM.slices_Sort_int_none L a cap w).mono ?_
    rintro e w' ⟨he,hw⟩
    rw [he,hw]
    have hR:d9 w.heap S (.d0 true (.int .i64)) L1 cs l:=hR
    subst hl
    refine ⟨[],[],L1,S,rfl,⟨rfl,.refl _,rfl,Nat.le_refl _,fun _ _ _=>rfl⟩,fun _ h=>h,fun _ h=>.inl h,⟨rfl,rfl⟩,⟨cs,L1,[],[],by rw [hcs]; rfl,by rw [hcs]; rfl,?_,by simp,⟨rfl,rfl⟩⟩,by simpa using hnd,fun b hb=>?_⟩
    · have:F5 []=[]:=by simp [F5,T9]
      rw [this]; exact hR
    · have hb:b∈L1:=by simpa using hb
      exact ⟨(hL b hb).1,.inr hb,(hL b hb).2⟩
  have hR:d9 w.heap S (.d0 true (.int .i64)) L1 cs l:=hR
  rcases hR with ⟨rfl,⟨a,c,rfl,h0⟩,rfl⟩|⟨b,off,cap,O',rfl,hl,hcm,hbk,hRL,rfl,hfree⟩
  · exact none rfl rfl
  obtain rfl:O'=[]:=i5.F4 (fun _ _ _ h=>h.F4 rfl) hRL
  by_cases hlz:l=[]
  · subst hlz
    exact none rfl rfl
  have hl:l.length≤cap:=hl
  have hbk:off+l.length*1≤(o6 w.heap b).length:=hbk
  have hRL:i5 (d9 w.heap S (.int .i64)) 1 [] (d8 w.heap b off (l.length*1)) l:=hRL
  have hbS:¬ S b:=(hL b (by simp)).1
  obtain ⟨dl,e1,e2⟩:=b4T (t:=.int .i64) (ok:=fun _=>True) rfl hRL (fun _ _=>trivial)
  have hcs:∀ x:El w.heap S (.int .i64) (fun _=>True),x.cs=[.int .i64 x.x]:=fun x=>x.2.1.2.1
  have hflat:∀ dl:List (El w.heap S (.int .i64) (fun _=>True)),(dl.map El.cs).flatten=(dl.map El.x).map (Value.int .i64):=by
    intro dl
    induction dl with
    | nil=>rfl
    | cons x dl ih=>rw [List.map_cons,List.flatten_cons,ih,hcs x]; rfl
  have hfr:=hfree
  obtain ⟨arr,T,⟨fz,hlie⟩,hn⟩:=M1.free hfr
  have hn:off+cap*1≤arr.size:=hn
  have hb:b<w.heap.size:=(Array.getElem?_eq_some_iff.1 hlie.1).1
  have hH:Holds (Value.int .i64) w b off l.toArray:=by
    refine b4K (holds_of hlie ?_ ?_)
    · simp only [Array.size_map,List.size_toArray]; omega
    · simp only [Array.size_map,List.size_toArray]
      have:(l.toArray.map (Value.int .i64)).toList=(dl.map El.cs).flatten:=by rw [hflat,e1]; simp
      rw [this,e2,Nat.mul_one]
  refine (AnyM.slices_Sort_int L b off cap l w hH hb (by omega)).mono ?_
  rintro e w' ⟨rfl,n,os,rfl⟩
  rw [b0V]
  have h0:T9 (ltD (fun x y:Int=>x - y)) l=F5 l:=by
    have:ltD (fun x y:Int=>x - y)=fun x y=>decide (x<y):=by
      funext x y
      simp only [ltD,decide_eq_decide]
      omega
    rw [this]; rfl
  have hO:SWO (ltD (fun x y:Int=>x - y)):=⟨fun x=>by simp [ltD],fun x y z=>by simp only [ltD,decide_eq_true_eq]; omega,fun x y z=>by simp only [ltD,decide_eq_false_iff_not]; omega⟩
  have tie:∀ a∈l,∀ b∈l,ltD (fun x y:Int=>x - y) a b=false→ltD (fun x y:Int=>x - y) b a=false→a=b:=by
    intro (a:Int) _ (b:Int) _ h1 h2
    simp only [ltD,decide_eq_false_iff_not] at h1 h2
    omega
  have hfin:=b5u (t:=.int .i64) (cf:=fun x y:Int=>x - y) hS hbS hfree hl hcm hO tie e1
    (dl':=T9 (fun x y=>ltD (fun x y:Int=>x - y) x.x y.x) dl) (W9 _ _) (a0n ⟨fun x=>hO.irrefl x.x,fun x y z=>hO.trans x.x y.x z.x,fun x y z=>hO.ntrans x.x y.x z.x⟩ dl) n os
  have hx:(T9 (fun x y:El w.heap S (.int .i64) (fun _=>True)=>ltD (fun x y:Int=>x - y) x.x y.x) dl).map El.x=F5 l:=by
    rw [← h0]
    refine a2A hO (e1▸(W9 _ dl).map El.x) ?_ tie
    rw [List.pairwise_map]
    exact a0n ⟨fun x=>hO.irrefl x.x,fun x y z=>hO.trans x.x y.x z.x,fun x y z=>hO.ntrans x.x y.x z.x⟩ dl
  rw [hflat,hx] at hfin
  have hw:grow (putRow (Value.int .i64) (Sort.ahead w n) b off (F5 l).toArray) os=sortWorld id w b off n ((F5 l).map (Value.int .i64)).toArray os:=by
    have:=b7v (Value.int .i64) w b off n (F5 l).toArray os
    rw [show ((F5 l).map (Value.int .i64)).toArray=(F5 l).toArray.map (Value.int .i64) by simp]
    exact this
  rw [hw]
  have h9:=b4i (t:=.int .i64) (cf:=fun x y:Int=>x - y) hbS hfin
  rw [h0] at h9
  exact h9
end Go.Ex
