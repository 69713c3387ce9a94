/- slices.SortFunc as a contract of the evaluator: the two bridges. Condition: what the contract asks. -/
import Derived.Test.YtekbamiaenbhjaaSortB
import Derived.Shelf.SlSortCmp.NoneTotal
namespace Go.Ex
open Go.Sort Go.Proofs

section
variable {P:Program} {t:Ty} {g:Nat} {cf:t.den→t.den→Int} {ok:t.den→Prop} {ρ:Shelf.Ren}

theorem a88 (L:SlLaysF0.n6 P ρ) {w:World} {S:Nat→Prop} {a:Option Addr} {cap:Nat} {fv:Value} {L1:List Nat} {cs:List Value} (hL1:∀ b∈L1,¬ S b∧b<w.heap.size) (hnd:L1.Nodup) (hcs:cs=[.slice a 0 cap])
    (hR:d9 w.heap S (.b7 true t) L1 cs []) :
    Calls P (ρ.f 6) #[.slice a 0 cap,fv] w (X7 w S [] [.mu t,.s8 g []] [.slice a 0 cap,fv] L1 () (E4 (G1 cf) [],())):=by
  refine (AnyF.slices_SortFunc_none L a cap fv w).mono ?_
  rintro e w' ⟨rfl,rfl⟩
  refine ⟨[],[],L1,S,rfl,⟨rfl,.refl _,rfl,Nat.le_refl _,fun _ _ _=>rfl⟩,fun _ h=>h,fun _ h=>.inl h,⟨rfl,rfl⟩,⟨cs,L1,[fv],[],by rw [hcs]; rfl,by rw [hcs]; rfl,?_,by simp,⟨fv,[],rfl,rfl,rfl⟩⟩,by simpa using hnd,fun b hb=>?_⟩
  · have:E4 (G1 cf) []=[]:=by simp [E4]
    rw [this]; exact hR
  · have hb:b∈L1:=by simpa using hb
    exact ⟨(hL1 b hb).1,.inr hb,(hL1 b hb).2⟩

theorem b3r (L:SlLaysF.n6 P ρ) (h1:t.size=1) (hag:t.agg=false) (hsh:t.shared=true) (hc:b7s P g t cf ok) (hO:SWO (G1 cf)):(c0O t g cf ok).Valid P (ρ.f 6):=by
  refine ⟨?_,?_,fun h=>by cases h⟩
  · obtain ⟨nm,hn,hf⟩:=L.f6
    exact ⟨_,hf,hn,rfl⟩
  rintro w S vs ⟨(l:List t.den),_,_⟩ L0 hS hgl ⟨hsm,hok,htie⟩ ⟨v,us,L1,L2,rfl,rfl,⟨cs,rfl,hR⟩,v2,us2,L3,L4,rfl,rfl,⟨rfl,us3,rfl,h3⟩,rfl,rfl⟩ - hnd hL
  have h3:us3=[]:=h3
  subst h3
  rw [List.append_nil,List.append_nil] at hnd hL ⊢
  have hsm:l.length≤1048576:=hsm
  have hok:∀ a∈l,ok a:=hok
  have htie:∀ a∈l,∀ b∈l,G1 cf a b=false→G1 cf b a=false→a=b:=htie
  rcases hR with ⟨rfl,⟨a,c,rfl,h0⟩,rfl⟩|⟨b,off,cap,O',rfl,hl,hcm,hbk,hRL,rfl,hfree⟩
  · exact a88 { L with } (by simp) List.nodup_nil rfl (.inl ⟨rfl,⟨a,c,rfl,h0⟩,rfl⟩)
  obtain rfl:O'=[]:=i5.F8 (fun _ _ _ h=>h.F8 hsh) hRL
  by_cases hlz:l=[]
  · subst hlz
    exact a88 { L with } hL hnd rfl (.inr ⟨b,off,cap,[],rfl,hl,hcm,hbk,hRL,rfl,hfree⟩)
  have hl:l.length≤cap:=hl
  have hbk:off+l.length*t.size≤(p8 w.heap b).length:=hbk
  have hRL:i5 (d9 w.heap S t) t.size [] (d0 w.heap b off (l.length*t.size)) l:=hRL
  have hbS:¬ S b:=(hL b (by simp)).1
  obtain ⟨dl,e1,e2⟩:=b1t (ok:=ok) hsh hRL hok
  obtain ⟨x0,dl0,rfl⟩:∃ x0 dl0,dl=x0::dl0:=by
    cases dl with
    | nil=>exact absurd e1.symm hlz
    | cons x y=>exact ⟨x,y,rfl⟩
  generalize hdl:x0::dl0=dl at *
  letI:Inhabited (El w.heap S t ok):=⟨x0⟩
  let enc:El w.heap S t ok→Value:=fun x=>j6 t x.cs
  have henc:∀ x:El w.heap S t ok,x.cs=[enc x]:=fun x=>by
    have:=x.len
    rw [h1] at this
    obtain ⟨v,hv⟩:=List.length_eq_one_iff.1 this
    show x.cs=[j6 t x.cs]
    rw [hv]; simp [j6,hag]
  have hflat:∀ dl:List (El w.heap S t ok),(dl.map El.cs).flatten=dl.map enc:=by
    intro dl
    induction dl with
    | nil=>rfl
    | cons x dl ih=>rw [List.map_cons,List.flatten_cons,ih,henc x]; rfl
  have hone:OneCell enc:=fun x=>((x.2.1.plain _ (by show enc x∈x.cs; have h9:=henc x; exact h9▸List.mem_singleton_self _)).1)
  have hlen:dl.length=l.length:=by rw [← e1,List.length_map]
  have hfr:=hfree
  obtain ⟨arr,T,⟨fz,hlie⟩,hn⟩:=L9.free hfr
  have hb:b<w.heap.size:=(Array.getElem?_eq_some_iff.1 hlie.1).1
  have hle:l.length*t.size≤cap*t.size:=Nat.mul_le_mul_right _ hl
  have hH:Holds enc w b off dl.toArray:=by
    refine a9j (holds_of hlie ?_ ?_)
    · simp only [Array.size_map,List.size_toArray,hlen]; rw [h1] at *; omega
    · simp only [Array.size_map,List.size_toArray,hlen]
      have:(dl.toArray.map enc).toList=(dl.map El.cs).flatten:=by rw [hflat]; simp
      rw [this,e2,h1,Nat.mul_one]
  have hcmp:CmpLays1 P g #[] enc (fun x y=>cf x.x y.x) b off dl.toArray.size w:=by
    intro m os dk _ x y
    rw [b0M]
    exact c3j hc hS hgl hbS m os _ x y
  have hbig:dl.toArray.size<4611686018427387904:=by
    rw [List.size_toArray,hlen]; omega
  have eg:∀ args w,(callFunc g args).run P w=.ok (.enter g args) w:=by
    obtain ⟨fn,f1,f2,f3⟩:=hc.1
    obtain ⟨c,hcb⟩:∃ c,fn.body=some c:=by cases h:fn.body with
      | none=>rw [h] at f3; cases f3
      | some c=>exact ⟨c,rfl⟩
    exact enters_of f1 f2 hcb
  have hcall:=Any.slices_SortFunc L enc hone (fun x y=>cf x.x y.x) (c2N hO) g #[] b off cap dl.toArray w eg hcmp hH hb hbig
  rw [List.size_toArray,hlen] at hcall
  refine hcall.mono ?_
  rintro e w' ⟨rfl,d',n,os,hp,hs,rfl⟩
  rw [show l.length=dl.toArray.size by simp [hlen]] at hp hs
  rw [b0M]
  have hpp:=c1v hp
  have hss:=b9v (d:=d') (by rw [hp.1]; exact hs)
  have:=b9k (fv:=.func (.func g) #[] #[]) hbS (b0P (cf:=cf) hS hbS hfree hl hcm hO htie e1 (by simpa using hpp) (hss.imp (fun h=>h)) n os) g
  rw [hflat] at this
  have ee:(List.map enc d'.toList).toArray=Array.map enc d':=by apply Array.ext'; simp
  rw [ee] at this
  exact this

end
end Go.Ex
