/- Chains of a finite order: everyone stands in one, and in one alone. The plain law. No condition but those named. -/
import Derived.Test.YtegigiecamjobaaPosS
namespace Go.Proofs.Ytegigiecamjobaa
open Go.Ex Go.Sort
set_option maxRecDepth 100000
theorem chainGo_cons {nx:List Int} {k a:Nat}:chainGo nx (k+1) (a:Int)=(a:Int)::chainGo nx k (nx.getD a 0):=by rw [chainGo,if_pos (by omega),Int.toNat_natCast]
section
variable {R:Nat→Nat→Bool} {n:Nat} {M:List PairD}
theorem OrdM.chain_up (h:OrdM R n M) (ht:∀ x y z,R x y=true→R y z=true→R x z=true):∀ (k:Nat) {a:Nat},a<n→∀ x∈chainGo (nextF n M) k (a:Int),∃ b:Nat,b<n∧x=b∧(b=a∨R a b=true)
  | 0,a,_,x,hx=>by simp [chainGo] at hx
  | k+1,a,ha,x,hx=>by
    rw [chainGo_cons] at hx
    rcases List.mem_cons.1 hx with rfl|hx
    · exact ⟨a,ha,rfl,.inl rfl⟩
    · rcases h.next ha with ⟨e,_⟩|⟨b,hb,e,hr,_⟩
      · rw [e,chainGo_neg (by omega)] at hx; cases hx
      · rw [e] at hx
        obtain ⟨c,hc,rfl,h1⟩:=h.chain_up ht k hb x hx
        refine ⟨c,hc,rfl,.inr ?_⟩
        rcases h1 with rfl|h1
        · exact hr
        · exact ht _ _ _ hr h1
theorem OrdM.chain_pair (h:OrdM R n M) (ht:∀ x y z,R x y=true→R y z=true→R x z=true):∀ (k:Nat) {a:Nat},a<n→(chainGo (nextF n M) k (a:Int)).Pairwise (fun x y=>R x.toNat y.toNat=true)
  | 0,_,_=>by rw [chainGo]; exact List.Pairwise.nil
  | k+1,a,ha=>by
    rw [chainGo_cons]
    rcases h.next ha with ⟨e,_⟩|⟨b,hb,e,hr,_⟩
    · rw [e,chainGo_neg (by omega)]; exact List.pairwise_singleton _ _
    · rw [e]
      refine List.pairwise_cons.2 ⟨fun x hx=>?_,h.chain_pair ht k hb⟩
      obtain ⟨c,hc,rfl,h1⟩:=h.chain_up ht k hb x hx
      rw [Int.toNat_natCast,Int.toNat_natCast]
      rcases h1 with rfl|h1
      · exact hr
      · exact ht _ _ _ hr h1
theorem before_n {R:Nat→Nat→Bool} {n x:Nat} (hi:∀ x,R x x=false) (hx:x<n):(before R n x).length<n:=by
  have h1:(x::before R n x).Nodup:=List.nodup_cons.2 ⟨fun h=>(by have:=(List.mem_filter.1 h).2; rw [hi] at this; cases this),List.Pairwise.sublist List.filter_sublist List.nodup_range⟩
  have:=nodup_sub h1 (S:=List.range n) (fun y hy=>by
    rcases List.mem_cons.1 hy with rfl|hy
    · exact List.mem_range.2 hx
    · exact (List.mem_filter.1 hy).1)
  rw [List.length_cons,List.length_range] at this
  omega
theorem OrdM.chain_next (h:OrdM R n M) (ht:∀ x y z,R x y=true→R y z=true→R x z=true) (hi:∀ x,R x x=false):∀ (k:Nat) {a:Nat},a<n→n+1≤k+(before R n a).length→∀ x y:Nat,(x:Int)∈chainGo (nextF n M) k (a:Int)→(nextF n M).getD x 0=(y:Int)→(y:Int)∈chainGo (nextF n M) k (a:Int)
  | 0,_,_,_,_,_,hx,_=>by simp [chainGo] at hx
  | k+1,a,ha,hk,x,y,hx,hy=>by
    have hb:=before_n hi ha
    rw [chainGo_cons] at hx ⊢
    rcases List.mem_cons.1 hx with hx|hx
    · have hx:x=a:=by omega
      subst hx
      rw [hy]
      obtain ⟨k',rfl⟩:∃ k',k=k'+1:=⟨k - 1,by omega⟩
      exact List.mem_cons_of_mem _ (by rw [chainGo_cons]; exact List.mem_cons_self)
    · rcases h.next ha with ⟨e,_⟩|⟨b,hb2,e,hr,_⟩
      · rw [e,chainGo_neg (by omega)] at hx; cases hx
      · rw [e] at hx ⊢
        have:=before_lt ht hi ha hr
        exact List.mem_cons_of_mem _ (h.chain_next ht hi k hb2 (by omega) x y hx hy)
theorem OrdM.chain_back (h:OrdM R n M):∀ (k:Nat) {a:Nat},a<n→∀ x:Nat,(x:Int)∈chainGo (nextF n M) k (a:Int)→x=a∨∃ y:Nat,(y:Int)∈chainGo (nextF n M) k (a:Int)∧y<n∧R y x=true∧((y:Int),(x:Int),())∈M
  | 0,_,_,_,hx=>by simp [chainGo] at hx
  | k+1,a,ha,x,hx=>by
    rw [chainGo_cons] at hx ⊢
    rcases List.mem_cons.1 hx with hx|hx
    · exact .inl (by omega)
    · rcases h.next ha with ⟨e,_⟩|⟨b,hb,e,hr,hm⟩
      · rw [e,chainGo_neg (by omega)] at hx; cases hx
      · rw [e] at hx ⊢
        right
        rcases h.chain_back k hb x hx with rfl|⟨y,h1,h2,h3,h4⟩
        · exact ⟨a,List.mem_cons_self,ha,hr,hm⟩
        · exact ⟨y,List.mem_cons_of_mem _ h1,h2,h3,h4⟩
theorem OrdM.same_first (h:OrdM R n M) {x y z:Nat} (h1:((y:Int),(x:Int),())∈M) (h2:((z:Int),(x:Int),())∈M):y=z:=by
  obtain ⟨i,hi,e1⟩:=List.getElem_of_mem h1
  obtain ⟨j,hj,e2⟩:=List.getElem_of_mem h2
  have key:i=j:=by
    refine Classical.byContradiction (fun hne=>?_)
    rcases Nat.lt_or_ge i j with hlt|hge
    · have:=List.pairwise_iff_getElem.1 h.two i j hi hj hlt
      rw [e1,e2] at this
      exact this rfl
    · have:=List.pairwise_iff_getElem.1 h.two j i hj hi (by omega)
      rw [e1,e2] at this
      exact this rfl
  subst key
  rw [e1] at e2
  have:=congrArg Prod.fst e2
  have:(y:Int)=z:=this
  omega
theorem OrdM.chain_one (h:OrdM R n M) (ht:∀ x y z,R x y=true→R y z=true→R x z=true) (hi:∀ x,R x x=false) {a b k:Nat} (ha:a<n) (hb:b<n) (fa:∀ q∈M,q.2.1.toNat≠a) (fb:∀ q∈M,q.2.1.toNat≠b):∀ (m x:Nat),(before R n x).length<m→(x:Int)∈chainGo (nextF n M) k (a:Int)→(x:Int)∈chainGo (nextF n M) k (b:Int)→a=b
  | 0,_,hm,_,_=>by omega
  | m+1,x,hm,h1,h2=>by
    rcases h.chain_back k ha x h1 with rfl|⟨y,y1,y2,y3,y4⟩
    · rcases h.chain_back k hb x h2 with e|⟨z,z1,z2,z3,z4⟩
      · exact e
      · exact absurd (Int.toNat_natCast x) (fa _ z4)
    · rcases h.chain_back k hb x h2 with rfl|⟨z,z1,z2,z3,z4⟩
      · exact absurd (Int.toNat_natCast x) (fb _ y4)
      · have e:=h.same_first y4 z4
        subst e
        have:=before_lt ht hi y2 y3
        exact h.chain_one ht hi ha hb fa fb m y (by omega) y1 z1
theorem OrdM.chain_all (h:OrdM R n M) (ht:∀ x y z,R x y=true→R y z=true→R x z=true) (hi:∀ x,R x x=false):∀ (m x:Nat),(before R n x).length<m→x<n→∃ a:Nat,a<n∧(firstF n M).getD a false=true∧(x:Int)∈chainGo (nextF n M) (n+1) (a:Int)
  | 0,_,hm,_=>by omega
  | m+1,x,hm,hx=>by
    by_cases hf:(firstF n M).getD x false=true
    · exact ⟨x,hx,hf,by rw [chainGo_cons]; exact List.mem_cons_self⟩
    · obtain ⟨q,hq,e⟩:∃ q∈M,q.2.1.toNat=x:=by
        refine Classical.byContradiction (fun hno=>hf ((h.first hx).2 (fun q hq e=>hno ⟨q,hq,e⟩)))
      obtain ⟨r1,r2,r3⟩:=h.rng q hq
      rw [e] at r3
      have hlt:=before_lt ht hi (show q.1.toNat<n by omega) r3
      obtain ⟨a,ha,hfa,hm2⟩:=h.chain_all ht hi m q.1.toNat (by omega) (by omega)
      have hnx:(nextF n M).getD q.1.toNat 0=(x:Int):=by
        rcases h.next (show q.1.toNat<n by omega) with ⟨_,h2⟩|⟨b,hb,h3,h4,h5⟩
        · exact absurd rfl (h2 q hq)
        · rw [h3]
          have hq2:((q.1.toNat:Int),(x:Int),())=q:=by
            obtain ⟨q1,q2,q3⟩:=q
            simp only [Prod.mk.injEq,and_true] at *
            omega
          rw [← hq2] at hq
          -- pairs with one left side are one
          obtain ⟨i,hi1,e1⟩:=List.getElem_of_mem hq
          obtain ⟨j,hj1,e2⟩:=List.getElem_of_mem h5
          have key:i=j:=by
            refine Classical.byContradiction (fun hne=>?_)
            rcases Nat.lt_or_ge i j with hlt|hge
            · have:=List.pairwise_iff_getElem.1 h.one i j hi1 hj1 hlt
              rw [e1,e2] at this
              exact this rfl
            · have:=List.pairwise_iff_getElem.1 h.one j i hj1 hi1 (by omega)
              rw [e1,e2] at this
              exact this rfl
          subst key
          rw [e1] at e2
          exact (congrArg (fun p:PairD=>p.2.1) e2).symm
      exact ⟨a,ha,hfa,h.chain_next ht hi (n+1) ha (by omega) _ _ hm2 hnx⟩
theorem OrdM.chains_part (h:OrdM R n M) (ht:∀ x y z,R x y=true→R y z=true→R x z=true) (hi:∀ x,R x x=false):(chainsTo n M n).flatten.Nodup∧(chainsTo n M n).flatten.length=n:=by
  have hfa:∀ a∈(List.range n).filter (fun a=>(firstF n M).getD a false),a<n∧∀ q∈M,q.2.1.toNat≠a:=by
    intro a ha
    obtain ⟨h1,h2⟩:=List.mem_filter.1 ha
    have h1:=List.mem_range.1 h1
    exact ⟨h1,(h.first h1).1 h2⟩
  have hnd:(chainsTo n M n).flatten.Nodup:=by
    rw [List.nodup_iff_pairwise_ne,List.pairwise_flatten]
    refine ⟨fun c hc=>?_,?_⟩
    · obtain ⟨a,ha,rfl⟩:=List.mem_map.1 hc
      refine (h.chain_pair ht (n+1) (hfa a ha).1).imp ?_
      rintro x y hxy rfl
      rw [hi] at hxy; cases hxy
    · rw [chainsTo,List.pairwise_map]
      refine ((List.nodup_iff_pairwise_ne.1 (List.nodup_range.filter _))).imp_of_mem ?_
      intro a b ha hb hab x hx y hy e
      subst e
      obtain ⟨c,hc,rfl,_⟩:=h.chain_up ht (n+1) (hfa a ha).1 x hx
      exact hab (h.chain_one ht hi (hfa a ha).1 (hfa b hb).1 (hfa a ha).2 (hfa b hb).2 _ c (Nat.lt_succ_self _) hx hy)
  refine ⟨hnd,Nat.le_antisymm ?_ ?_⟩
  · have:=nodup_sub hnd (S:=(List.range n).map (fun a:Nat=>(a:Int))) (fun x hx=>by
      obtain ⟨c,hc,hxc⟩:=List.mem_flatten.1 hx
      obtain ⟨a,ha,rfl⟩:=List.mem_map.1 hc
      obtain ⟨b,hb,rfl,_⟩:=h.chain_up ht (n+1) (hfa a ha).1 x hxc
      exact List.mem_map.2 ⟨b,List.mem_range.2 hb,rfl⟩)
    rwa [List.length_map,List.length_range] at this
  · have:=nodup_sub (castInj (List.nodup_range (n:=n))) (S:=(chainsTo n M n).flatten) (fun x hx=>by
      obtain ⟨b,hb,rfl⟩:=List.mem_map.1 hx
      have hb:=List.mem_range.1 hb
      obtain ⟨a,ha,hf,hm⟩:=h.chain_all ht hi _ b (Nat.lt_succ_self _) hb
      exact List.mem_flatten.2 ⟨_,List.mem_map.2 ⟨a,List.mem_filter.2 ⟨List.mem_range.2 ha,hf⟩,rfl⟩,hm⟩)
    rwa [List.length_map,List.length_range] at this
theorem OrdM.chains_link (h:OrdM R n M) (ht:∀ x y z,R x y=true→R y z=true→R x z=true):∀ c∈chainsTo n M n,(∀ x∈c,0≤x∧x<(n:Int))∧c.Pairwise (fun x y=>R x.toNat y.toNat=true):=by
  intro c hc
  obtain ⟨a,ha,rfl⟩:=List.mem_map.1 hc
  have ha:=List.mem_range.1 (List.mem_filter.1 ha).1
  refine ⟨fun x hx=>?_,h.chain_pair ht _ ha⟩
  obtain ⟨b,hb,rfl,_⟩:=h.chain_up ht _ ha x hx
  omega
end
end Go.Proofs.Ytegigiecamjobaa
