/- Chains of a finite order out of a matching: the plain law. No condition but those named. -/
import Derived.Test.YtekbamiaenbhjaaPoset
import Derived.Test.YtekbamiaenbhjaaMatchX
import Derived.Test.YtekbamiaenbhjaaSortB
namespace Go.Proofs.Ytekbamiaenbhjaa
open Go.Ex Go.Sort
set_option maxRecDepth 100000
def J7 (n:Nat) (M:List s5):List Int:=M.foldl (fun nx q=>nx.set q.1.toNat q.2.1) (List.replicate n (-1))
def N4 (n:Nat) (M:List s5):List Bool:=M.foldl (fun fs q=>fs.set q.2.1.toNat false) (List.replicate n true)
def K7 (nx:List Int):Nat→Int→List Int
  | 0,_=>[]
  | k+1,a=>if 0≤a then a::K7 nx k (nx.getD a.toNat 0) else []
def E8 (n:Nat) (M:List s5) (i:Nat):List (List Int):=((List.range i).filter (fun a=>(N4 n M).getD a false)).map (fun a:Nat=>K7 (J7 n M) (n+1) (a:Int))
theorem b5q {nx:List Int} {k:Nat} {a:Int} (h:a<0):K7 nx k a=[]:=by
  cases k with
  | zero=>rfl
  | succ k=>rw [K7,if_neg (by omega)]
theorem b2p {n:Nat} {M:List s5} {i:Nat}:E8 n M (i+1)=if (N4 n M).getD i false=true then E8 n M i++[K7 (J7 n M) (n+1) (i:Int)] else E8 n M i:=by
  rw [E8,List.range_succ,List.filter_append,List.map_append]
  split
  · rename_i h
    rw [List.filter_cons_of_pos (by exact h)]; rfl
  · rename_i h
    rw [List.filter_cons_of_neg (by exact h)]; simp [E8]
structure a8L (R:Nat→Nat→Bool) (n:Nat) (M:List s5):Prop where
  D3:∀ q∈M,(0≤q.1∧q.1<(n:Int))∧(0≤q.2.1∧q.2.1<(n:Int))∧R q.1.toNat q.2.1.toNat=true
  one:M.Pairwise (fun p q=>p.1≠q.1)
  two:M.Pairwise (fun p q=>p.2.1≠q.2.1)
section
variable {R:Nat→Nat→Bool} {n:Nat} {M:List s5}
theorem b3j:∀ (M:List s5) (nx:List Int),(M.foldl (fun nx q=>nx.set q.1.toNat q.2.1) nx).length=nx.length
  | [],_=>rfl
  | q::M,nx=>by rw [List.foldl_cons,b3j M,List.length_set]
theorem b1r:∀ (M:List s5) (fs:List Bool),(M.foldl (fun fs q=>fs.set q.2.1.toNat false) fs).length=fs.length
  | [],_=>rfl
  | q::M,fs=>by rw [List.foldl_cons,b1r M,List.length_set]
theorem b1e:(J7 n M).length=n:=by rw [J7,b3j,List.length_replicate]
theorem a9N:(N4 n M).length=n:=by rw [N4,b1r,List.length_replicate]
theorem b3k:∀ (M:List s5) (nx:List Int) (a:Nat),(∀ q∈M,q.1.toNat<nx.length)→((M.foldl (fun nx q=>nx.set q.1.toNat q.2.1) nx).getD a 0=nx.getD a 0∧∀ q∈M,q.1.toNat≠a)∨∃ q∈M,q.1.toNat=a∧(M.foldl (fun nx q=>nx.set q.1.toNat q.2.1) nx).getD a 0=q.2.1
  | [],nx,a,_=>.inl ⟨rfl,by simp⟩
  | q::M,nx,a,h=>by
    rw [List.foldl_cons]
    rcases b3k M (nx.set q.1.toNat q.2.1) a (fun p hp=>by rw [List.length_set]; exact h p (by simp [hp])) with ⟨h1,h2⟩|⟨p,h1,h2,h3⟩
    · rw [h1,B8 (h q (by simp))]
      by_cases e:a=q.1.toNat
      · exact .inr ⟨q,by simp,e.symm,by rw [if_pos e]⟩
      · refine .inl ⟨by rw [if_neg e],fun p hp=>?_⟩
        rcases List.mem_cons.1 hp with rfl|hp
        · exact fun h=>e h.symm
        · exact h2 p hp
    · exact .inr ⟨p,by simp [h1],h2,h3⟩
theorem b1s:∀ (M:List s5) (fs:List Bool) (a:Nat),(∀ q∈M,q.2.1.toNat<fs.length)→(M.foldl (fun fs q=>fs.set q.2.1.toNat false) fs).getD a false=(fs.getD a false && M.all (fun q=>!decide (q.2.1.toNat=a)))
  | [],fs,a,_=>by simp
  | q::M,fs,a,h=>by
    rw [List.foldl_cons,b1s M _ a (fun p hp=>by rw [List.length_set]; exact h p (by simp [hp])),B8 (h q (by simp)),List.all_cons]
    by_cases e:a=q.2.1.toNat
    · rw [if_pos e,decide_eq_true e.symm]; simp
    · rw [if_neg e,decide_eq_false (fun h=>e h.symm)]; simp
theorem a8L.next (h:a8L R n M) {a:Nat} (ha:a<n):((J7 n M).getD a 0=-1∧∀ q∈M,q.1.toNat≠a)∨∃ b:Nat,b<n∧(J7 n M).getD a 0=b∧R a b=true∧((a:Int),(b:Int),())∈M:=by
  rcases b3k M (List.replicate n (-1)) a (fun q hq=>by have:=h.D3 q hq; rw [List.length_replicate]; omega) with ⟨h1,h2⟩|⟨q,h1,h2,h3⟩
  · exact .inl ⟨by rw [J7,h1,a2R _ _ ha],h2⟩
  · obtain ⟨k1,k2,k3⟩:=h.D3 q h1
    refine .inr ⟨q.2.1.toNat,by omega,by rw [J7,h3]; omega,by rw [← h2]; exact k3,?_⟩
    have:q=((a:Int),(q.2.1.toNat:Int),()):=by
      obtain ⟨x,y,z⟩:=q
      simp only [Prod.mk.injEq,and_true] at *
      omega
    rw [← this]; exact h1
theorem a8L.first (h:a8L R n M) {a:Nat} (ha:a<n):(N4 n M).getD a false=true↔∀ q∈M,q.2.1.toNat≠a:=by
  rw [N4,b1s M _ a (fun q hq=>by have:=h.D3 q hq; rw [List.length_replicate]; omega),a2R _ _ ha,Bool.true_and,List.all_eq_true]
  simp
theorem a8L.count (h:a8L R n M):(E8 n M n).length+M.length=n:=by
  rw [E8,List.length_map]
  have hnd:(M.map (fun q=>q.2.1.toNat)).Nodup:=by
    rw [List.nodup_iff_pairwise_ne,List.pairwise_map]
    refine h.two.imp_of_mem ?_
    intro p q hp hq hne e
    have:=(h.D3 p hp).2.1; have:=(h.D3 q hq).2.1
    omega
  have h1:M.length=((List.range n).filter (fun a=>!(N4 n M).getD a false)).length:=by
    have e1:=a0x hnd (S:=(List.range n).filter (fun a=>!(N4 n M).getD a false)) (fun x hx=>by
      obtain ⟨q,hq,rfl⟩:=List.mem_map.1 hx
      have:=(h.D3 q hq).2.1
      refine List.mem_filter.2 ⟨List.mem_range.2 (by omega),?_⟩
      cases e:(N4 n M).getD q.2.1.toNat false with
      | false=>rfl
      | true=>exact absurd rfl ((h.first (by omega)).1 e q hq))
    have e2:=a0x (l:=(List.range n).filter (fun a=>!(N4 n M).getD a false)) (S:=M.map (fun q=>q.2.1.toNat)) (List.nodup_range.filter _) (fun x hx=>by
      obtain ⟨h1,h2⟩:=List.mem_filter.1 hx
      have h1:=List.mem_range.1 h1
      refine Classical.byContradiction (fun hno=>?_)
      rw [(h.first h1).2 (fun q hq e=>hno (List.mem_map.2 ⟨q,hq,e⟩))] at h2
      cases h2)
    rw [List.length_map] at e1 e2
    omega
  have h2:∀ (l:List Nat) (p:Nat→Bool),(l.filter p).length+(l.filter (fun a=>!p a)).length=l.length:=by
    intro l p
    induction l with
    | nil=>rfl
    | cons x l ih =>
      cases e:p x with
      | true=>rw [List.filter_cons_of_pos e,List.filter_cons_of_neg (by simp [e])]; simp only [List.length_cons]; omega
      | false=>rw [List.filter_cons_of_neg (by simp [e]),List.filter_cons_of_pos (by simp [e])]; simp only [List.length_cons]; omega
  have:=h2 (List.range n) (fun a=>(N4 n M).getD a false)
  rw [List.length_range] at this
  omega
end
theorem a0h {nx:List Int} {k:Nat} {a:Nat}:(K7 nx (k+1) (a:Int)).getD 0 0=a:=by rw [K7,if_pos (by omega)]; rfl
theorem c1P {nx:List Int} {k:Nat} {a:Nat}:K7 nx (k+1) (a:Int)≠[]:=by rw [K7,if_pos (by omega)]; simp
end Go.Proofs.Ytekbamiaenbhjaa
