/- slices.SortFunc as a contract of the evaluator: the two bridges. Condition: what the contract asks. -/
import Derived.Test.YtekbamiaenbhjaaSortB
import Derived.Shelf.SlSortCmp.NoneTotal
namespace Go.Ex
open Go.Sort Go.Proofs

section
variable {P:Program} {t:Ty} {g:Nat} {cf:t.den→t.den→Int} {ok:t.den→Prop} {ρ:Shelf.Ren}

theorem a8H (L:SlLaysF0.n6 P ρ) {w:World} {S:Nat→Prop} {a:Option Addr} {cap:Nat} {fv:Value} {L1:List Nat} {cs:List Value} (hL1:∀ b∈L1,¬ S b∧b<w.heap.size) (hnd:L1.Nodup) (hcs:cs=[.slice a 0 cap])
    (hR:f7 w.heap S (.d0 true t) L1 cs []) :
    Calls P (ρ.f 6) #[.slice a 0 cap,fv] w (a0y w S [] [.mu t,.s8 g []] [.slice a 0 cap,fv] L1 () (T6 (S6 cf) [],())):=by
  refine (AnyF.slices_SortFunc_none L a cap fv w).mono ?_
  rintro e w' ⟨rfl,rfl⟩
  refine ⟨[],[],L1,S,rfl,⟨rfl,.refl _,rfl,Nat.le_refl _,fun _ _ _=>rfl⟩,fun _ h=>h,fun _ h=>.inl h,⟨rfl,rfl⟩,⟨cs,L1,[fv],[],by rw [hcs]; rfl,by rw [hcs]; rfl,?_,by simp,⟨fv,[],rfl,rfl,rfl⟩⟩,by simpa using hnd,fun b hb=>?_⟩
  · have:T6 (S6 cf) []=[]:=by simp [T6]
    rw [this]; exact hR
  · have hb:b∈L1:=by simpa using hb
    exact ⟨(hL1 b hb).1,.inr hb,(hL1 b hb).2⟩

theorem b0V {α:Type} [Inhabited α] (enc:α→List Value) (k:Nat) (hk:∀ x,(enc x).length=k) (d:Array α):flatK enc k d=(d.toList.map enc).flatten.toArray:=by
  have hlen:∀ l:List α,(l.map enc).flatten.length=l.length*k:=by
    intro l
    induction l with
    | nil=>simp
    | cons x l ih=>rw [List.map_cons,List.flatten_cons,List.length_append,ih,hk,List.length_cons,Nat.succ_mul]; omega
  have hget:∀ (l:List α) (t:Nat),t<l.length*k→((l.map enc).flatten[t]!)=((enc l[t / k]!)[t % k]!):=by
    intro l
    induction l with
    | nil=>intro t ht; simp at ht
    | cons x l ih =>
      intro t ht
      rw [List.length_cons,Nat.succ_mul] at ht
      have k0:0<k:=by
        rcases Nat.eq_zero_or_pos k with h|h
        · subst h; simp at ht
        · exact h
      rw [List.map_cons,List.flatten_cons]
      by_cases h:t<k
      · rw [Nat.div_eq_of_lt h,Nat.mod_eq_of_lt h,List.getElem!_eq_getElem?_getD,List.getElem?_append_left (by rw [hk]; exact h),← List.getElem!_eq_getElem?_getD]; rfl
      · have e1:t / k=(t - k) / k+1:=by
          have:t=(t - k)+k:=by omega
          conv=>lhs; rw [this]
          rw [Nat.add_div_right _ k0]
        have e2:t % k=(t - k) % k:=by
          have:t=(t - k)+k:=by omega
          conv=>lhs; rw [this]
          rw [Nat.add_mod_right]
        rw [e1,e2,List.getElem!_eq_getElem?_getD,List.getElem?_append_right (by rw [hk]; omega),hk,← List.getElem!_eq_getElem?_getD,ih (t - k) (by omega)]
        rfl
  refine ext_get! (by show _=((d.toList.map enc).flatten).length; rw [hlen,Array.length_toList,size_flatK]) (fun t ht=>?_)
  have ht':t<d.size*k:=by simpa using ht
  have k0:0<k:=by
    rcases Nat.eq_zero_or_pos k with h|h
    · subst h; simp at ht'
    · exact h
  have hd:t / k<d.size:=Nat.div_lt_of_lt_mul (by rw [Nat.mul_comm]; exact ht')
  have e:(d.toList[t / k]!)=(d[t / k]!):=by rw [getElem!_pos d _ hd,getElem!_pos d.toList _ (by simpa using hd),Array.getElem_toList]
  have e2:((List.map enc d.toList).flatten.toArray[t]!)=((List.map enc d.toList).flatten[t]!):=by simp
  rw [get_flatK _ _ _ _ ht',e2,hget _ _ (by simpa using ht'),e]

theorem b2H (L:SlLaysF0.n6 P ρ) {n:Nat} (hT:p8 P n (ρ.t 24) t=true) (hag:t.agg=true) (hsh:t.shared=true) (hc:b6a P g t cf ok) (hO:SWO (S6 cf)):(b88 t g cf ok).Valid P (ρ.f 6):=by
  refine ⟨?_,?_,fun h=>by cases h⟩
  · obtain ⟨nm,hn,hf⟩:=L.f6
    exact ⟨_,hf,hn,rfl⟩
  rintro w S vs ⟨(l:List t.den),_,_⟩ L0 hS hgl ⟨hsm,hok,htie⟩ ⟨v,us,L1,L2,rfl,rfl,⟨cs,rfl,hR⟩,v2,us2,L3,L4,rfl,rfl,⟨rfl,us3,rfl,h3⟩,rfl,rfl⟩ - hnd hL
  have h3:us3=[]:=h3
  subst h3
  rw [List.append_nil,List.append_nil] at hnd hL ⊢
  have hsm:l.length≤1048576:=hsm
  have hok:∀ a∈l,ok a:=hok
  have htie:∀ a∈l,∀ b∈l,S6 cf a b=false→S6 cf b a=false→a=b:=htie
  rcases hR with ⟨rfl,⟨a,c,rfl,h0⟩,rfl⟩|⟨b,off,cap,O',rfl,hl,hcm,hbk,hRL,rfl,hfree⟩
  · exact a8H L (by simp) List.nodup_nil rfl (.inl ⟨rfl,⟨a,c,rfl,h0⟩,rfl⟩)
  obtain rfl:O'=[]:=i7.H7 (fun _ _ _ h=>h.H7 hsh) hRL
  by_cases hlz:l=[]
  · subst hlz
    exact a8H L hL hnd rfl (.inr ⟨b,off,cap,[],rfl,hl,hcm,hbk,hRL,rfl,hfree⟩)
  have hl:l.length≤cap:=hl
  have hbk:off+l.length*t.size≤(r8 w.heap b).length:=hbk
  have hRL:i7 (f7 w.heap S t) t.size [] (d8 w.heap b off (l.length*t.size)) l:=hRL
  have hbS:¬ S b:=(hL b (by simp)).1
  obtain ⟨dl,e1,e2⟩:=b7b (ok:=ok) hsh hRL hok
  obtain ⟨x0,dl0,rfl⟩:∃ x0 dl0,dl=x0::dl0:=by
    cases dl with
    | nil=>exact absurd e1.symm hlz
    | cons x y=>exact ⟨x,y,rfl⟩
  generalize hdl:x0::dl0=dl at *
  letI:Inhabited (El w.heap S t ok):=⟨x0⟩
  have hk:∀ x:El w.heap S t ok,x.cs.length=t.size:=El.len
  have hlen:dl.length=l.length:=by rw [← e1,List.length_map]
  have hfr:=hfree
  obtain ⟨arr,T,⟨fz,hlie⟩,hn⟩:=N2.free hfr
  have hb:b<w.heap.size:=(Array.getElem?_eq_some_iff.1 hlie.1).1
  have hle:l.length*t.size≤cap*t.size:=Nat.mul_le_mul_right _ hl
  have hH:HoldsK El.cs t.size w b off dl.toArray:=by
    refine holds_of hlie ?_ ?_
    · rw [size_flatK,List.size_toArray,hlen]; omega
    · rw [size_flatK,List.size_toArray,hlen,b0V _ _ hk,← e2]
  have hcmp:CmpLays P g #[] El.cs t.size (fun x y:El w.heap S t ok=>cf x.x y.x) b off dl.toArray.size w:=by
    intro m os dk _ x y
    have:=c1b hc hS hgl hbS m os (off:=off) (flatK El.cs t.size dk) x y
    simp only [j7,hag,if_true] at this
    exact this
  have hbig:dl.toArray.size<4611686018427387904:=by
    rw [List.size_toArray,hlen]; omega
  have eg:∀ args w,(callFunc g args).run P w=.ok (.enter g args) w:=by
    obtain ⟨fn,f1,f2,f3⟩:=hc.1
    obtain ⟨c,hcb⟩:∃ c,fn.body=some c:=by cases h:fn.body with
      | none=>rw [h] at f3; cases f3
      | some c=>exact ⟨c,rfl⟩
    exact enters_of f1 f2 hcb
  have hcall:=AnyQ.slices_SortFunc L t.size (fun w=>by rw [a2I hT,hag]) (fun w=>run_sizeOf hT) El.cs hk (fun x v hv=>(x.2.1.plain v hv).1) (fun x y:El w.heap S t ok=>cf x.x y.x) (c0R hO) g #[] b off cap dl.toArray w eg hcmp hH hb hbig
  rw [List.size_toArray,hlen] at hcall
  refine hcall.mono ?_
  rintro e w' ⟨rfl,d',n,os,hp,hs,rfl⟩
  rw [show l.length=dl.toArray.size by simp [hlen]] at hp hs
  have hpp:=b9U hp
  have hss:=b7Z (d:=d') (by rw [hp.1]; exact hs)
  have:=b7R (fv:=.func (.func g) #[] #[]) hbS (b7Q (cf:=cf) hS hbS hfree hl hcm hO htie e1 (by simpa using hpp) (hss.imp (fun h=>h)) n os) g
  rw [← b0V _ _ hk] at this
  exact this
end
end Go.Ex
