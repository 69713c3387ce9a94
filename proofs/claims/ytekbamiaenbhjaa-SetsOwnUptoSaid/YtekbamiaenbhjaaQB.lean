/- Quorum systems: sets of at most ten voters, their order, the least of those that satisfy a condition: the plain laws. No condition but those named. -/
import Derived.Test.YtekbamiaenbhjaaLatH
import Derived.Test.YtekbamiaenbhjaaBitP
import Derived.Test.YtekbamiaenbhjaaQSp
import Derived.Test.YtekbamiaenbhjaaSortB
namespace Go.Proofs.Ytekbamiaenbhjaa
open Go.Ex Go.Sort
set_option maxRecDepth 100000
theorem c3m {a:Int} (h:N3 a):(bv a).toNat=a.toNat:=by have:=a2d h; omega
theorem U7 {a:Int} (h:N3 a) (i:Nat):hasB a i=a.toNat.testBit i:=by
  rw [hasB,← c3m h,BitVec.testBit_toNat]
theorem a68 {a b:Int} (ha:N3 a) (hb:N3 b):E9 a b=true↔a4C a.toNat b.toNat:=by
  rw [within_iff]
  exact ⟨fun h i=>by rw [← U7 ha,← U7 hb]; exact h i,fun h i=>by rw [U7 ha,U7 hb]; exact h i⟩
def pc (a:Int):Int:=((V8 (a.toNat / 256)+V8 (a.toNat % 256):Nat):Int)
theorem a7p {a b:Nat} (h:∀ i,i<8→a.testBit i=true→b.testBit i=true):V8 a≤V8 b:=by
  have hi:∀ i,i<8→(a.testBit i).toNat≤(b.testBit i).toNat:=by
    intro i hi
    have:=h i hi
    revert this
    cases a.testBit i<;>cases b.testBit i<;>simp
  simp only [V8,List.range,List.range.loop,List.map_cons,List.map_nil,List.sum_cons,List.sum_nil]
  have:=hi 0 (by omega); have:=hi 1 (by omega); have:=hi 2 (by omega); have:=hi 3 (by omega); have:=hi 4 (by omega); have:=hi 5 (by omega); have:=hi 6 (by omega); have:=hi 7 (by omega)
  omega
theorem b04 (a:Nat):V8 a≤8:=by
  simp only [V8,List.range,List.range.loop,List.map_cons,List.map_nil,List.sum_cons,List.sum_nil]
  have:=toNat_le (a.testBit 0); have:=toNat_le (a.testBit 1); have:=toNat_le (a.testBit 2); have:=toNat_le (a.testBit 3); have:=toNat_le (a.testBit 4); have:=toNat_le (a.testBit 5); have:=toNat_le (a.testBit 6); have:=toNat_le (a.testBit 7)
  omega
theorem c1w {a b:Int} (h:a4C a.toNat b.toNat):pc a≤pc b:=by
  have h1:V8 (a.toNat / 256)≤V8 (b.toNat / 256):=a7p (fun i _ hi=>by
    rw [show (256:Nat)=2^8 from rfl,Nat.testBit_div_two_pow] at hi ⊢
    exact h _ hi)
  have h2:V8 (a.toNat % 256)≤V8 (b.toNat % 256):=a7p (fun i h8 hi=>by
    rw [show (256:Nat)=2^8 from rfl,Nat.testBit_mod_two_pow] at hi ⊢
    rw [decide_eq_true h8,Bool.true_and] at hi ⊢
    exact h _ hi)
  simp only [pc]; omega
def Z8 (x y:Int):Int:=if x<y then -1 else if y<x then 1 else 0
def G5 (a b:Int):Int:=if Z8 (pc a) (pc b)≠0 then Z8 (pc a) (pc b) else Z8 a b
theorem W9 {a b:Int}:G5 a b<0↔pc a<pc b∨(pc a=pc b∧a<b):=by
  unfold G5 Z8
  by_cases h1:pc a<pc b
  · simp [h1]
  · by_cases h2:pc b<pc a
    · simp [h1,h2]; omega
    · by_cases h3:a<b
      · simp [h1,h2,h3]; omega
      · by_cases h4:b<a
        · simp [h1,h2,h3,h4]
        · simp [h1,h2,h3,h4]
theorem c4f:SWO (G1 G5) :=
  ⟨fun x=>by rw [G1,decide_eq_false_iff_not,W9]; omega,fun x y z=>by simp only [G1,decide_eq_true_eq,W9]; omega,fun x y z=>by simp only [G1,decide_eq_false_iff_not,W9]; omega⟩
theorem c2X {a b:Int} (h1:G1 G5 a b=false) (h2:G1 G5 b a=false):a=b:=by
  simp only [G1,decide_eq_false_iff_not,W9] at h1 h2; omega
theorem b9s {a b:Int} (ha:N3 a) (hb:N3 b) (h:E9 a b=true):a=b∨G5 a b<0:=by
  have h1:=c1w ((a68 ha hb).1 h)
  have h2:=b7v ha hb h
  rw [W9]; omega
def a0P (l:List Int) (s:Int):Bool:=l.any (fun t=>E9 t s)
theorem b1i {l:List Int} {s:Int}:a0P l s=true↔∃ t∈l,E9 t s=true:=List.any_eq_true
structure QOk (n:Nat) (l:List Int):Prop where
  n1:1≤n∧n≤10
  B5:∀ s∈l,0≤s∧s<2^n
  sort:l.Pairwise (fun a b=>G5 a b<0)
  c0g:∀ a∈l,∀ b∈l,E9 a b=true→a=b
theorem b75 {n:Nat} (h:n≤10):(2:Int)^n≤1024:=by
  have:(2:Nat)^n≤2^10:=Nat.pow_le_pow_right (by omega) h
  exact_mod_cast this
theorem QOk.N3 {n:Nat} {l:List Int} (h:QOk n l) {s:Int} (hs:s∈l):N3 s:=by
  have:=h.B5 s hs
  have:=b75 h.n1.2
  unfold Ytekbamiaenbhjaa.N3; omega
theorem QOk.nodup {n:Nat} {l:List Int} (h:QOk n l):l.Nodup:=h.sort.imp (fun h e=>by rw [e] at h; rw [W9] at h; omega)
theorem QOk.few {n:Nat} {l:List Int} (h:QOk n l):l.length≤252:=by
  have hp:=b75 h.n1.2
  have:=c1k (M:=l.map Int.toNat) (by
    refine List.pairwise_map.2 (h.nodup.imp_of_mem ?_)
    intro a b ha hb hab e
    have:=h.B5 a ha; have:=h.B5 b hb
    omega) (fun s hs=>by
    obtain ⟨a,ha,rfl⟩:=List.mem_map.1 hs
    have:=h.B5 a ha
    show a.toNat<1024
    omega) (fun x hx y hy hs=>by
    obtain ⟨a,ha,rfl⟩:=List.mem_map.1 hx
    obtain ⟨b,hb,rfl⟩:=List.mem_map.1 hy
    rw [h.c0g a ha b hb ((a68 (h.N3 ha) (h.N3 hb)).2 hs)])
  rwa [List.length_map] at this
theorem QOk.eq {n:Nat} {l m:List Int} (h:QOk n l) (k:QOk n m) (he:∀ s,s∈l↔s∈m):l=m :=
  List.Perm.eq_of_pairwise (le:=fun a b=>G5 a b<0) (fun a b _ _ h1 h2=>by rw [W9] at h1 h2; omega) h.sort k.sort ((List.perm_ext_iff_of_nodup h.nodup k.nodup).2 he)
def a2h (n:Nat) (l:List Int) (i:Nat):Int:=if l.getD i 0 / 2^n≠0 then 1 else if (0<i∧¬ G5 (l.getD (i - 1) 0) (l.getD i 0)<0)∨a0P (l.take i) (l.getD i 0)=true then 4 else 0
def qgo (n:Nat) (l:List Int):Nat→Nat→Int
  | 0,_=>0
  | k+1,i=>if a2h n l i≠0 then a2h n l i else qgo n l k (i+1)
def K7 (n:Int) (l:List Int):Int:=if ¬ (1≤n∧n≤10) then 1 else if 300<l.length then 2 else qgo n.toNat l l.length 0
theorem a3M {n:Nat} {l:List Int}:∀ {k i:Nat},qgo n l k i=0↔∀ j,i≤j→j<i+k→a2h n l j=0
  | 0,i=>⟨fun _ j h1 h2=>by omega,fun _=>rfl⟩
  | k+1,i=>by
    rw [qgo]
    constructor
    · intro h
      split at h
      · contradiction
      · rename_i h0
        intro j h1 h2
        by_cases e:j=i
        · subst e; exact Decidable.not_not.1 h0
        · exact a3M.1 h j (by omega) (by omega)
    · intro h
      rw [if_neg (by rw [h i (by omega) (by omega)]; simp)]
      exact a3M.2 (fun j h1 h2=>h j (by omega) (by omega))
theorem a2B {n:Nat} {l:List Int} {i:Nat}:a2h n l i=0↔l.getD i 0 / 2^n=0∧(0<i→G5 (l.getD (i - 1) 0) (l.getD i 0)<0)∧a0P (l.take i) (l.getD i 0)=false:=by
  unfold a2h
  by_cases h1:l.getD i 0 / 2^n=0
  · rw [if_neg (by simpa using h1)]
    by_cases h2:(0<i∧¬ G5 (l.getD (i - 1) 0) (l.getD i 0)<0)∨a0P (l.take i) (l.getD i 0)=true
    · rw [if_pos h2]
      refine ⟨fun h=>by omega,fun ⟨_,h3,h4⟩=>?_⟩
      rcases h2 with h2|h2
      · exact absurd (h3 h2.1) h2.2
      · rw [h4] at h2; cases h2
    · rw [if_neg h2]
      refine ⟨fun _=>⟨h1,fun h3=>Decidable.not_not.1 (fun h4=>h2 (.inl ⟨h3,h4⟩)),?_⟩,fun _=>rfl⟩
      cases e:a0P (l.take i) (l.getD i 0) with
      | false=>rfl
      | true=>exact absurd (.inr e) h2
  · rw [if_pos h1]
    exact ⟨fun h=>by omega,fun h=>absurd h.1 h1⟩
theorem b74 {n:Int} {l:List Int} (hr:∀ s∈l,N3 s) (h:K7 n l=0):∃ m:Nat,n=m∧QOk m l∧l.length≤300:=by
  unfold K7 at h
  split at h
  · cases h
  · rename_i hn
    split at h
    · cases h
    · rename_i hl
      refine ⟨n.toNat,by omega,?_,by omega⟩
      have hb:=fun j (hj:j<l.length)=>a2B.1 (a3M.1 h j (by omega) (by omega))
      have hs:l.Pairwise (fun a b=>G5 a b<0):=by
        have:∀ i d,i+d+1<l.length→G5 (l.getD i 0) (l.getD (i+d+1) 0)<0:=by
          intro i d
          induction d with
          | zero=>intro hd; have:=(hb (i+0+1) hd).2.1 (by omega); simpa using this
          | succ d ih =>
            intro hd
            have h1:=ih (by omega)
            have h2:=(hb (i+(d+1)+1) hd).2.1 (by omega)
            rw [show i+(d+1)+1 - 1=i+d+1 by omega] at h2
            rw [W9] at *
            omega
        rw [List.pairwise_iff_getElem]
        intro i j hi hj hij
        have:=this i (j - i - 1) (by omega)
        rw [show i+(j - i - 1)+1=j by omega,List.getD_eq_getElem?_getD,List.getD_eq_getElem?_getD,List.getElem?_eq_getElem hi,List.getElem?_eq_getElem hj] at this
        exact this
      refine ⟨by omega,fun s hs=>?_,hs,fun a ha b hb2 hw=>?_⟩
      · obtain ⟨i,hi,rfl⟩:=a3R (d:=0) hs
        have h1:=(hb i hi).1
        have h2:=(hr _ hs).1
        have hp:(0:Int)<2^n.toNat:=Int.pow_pos (by omega)
        refine ⟨h2,?_⟩
        have:=Int.lt_ediv_add_one_mul_self (l.getD i 0) hp
        rw [h1] at this; omega
      · rcases b9s (hr a ha) (hr b hb2) hw with h1|h1
        · exact h1
        · obtain ⟨i,hi,rfl⟩:=a3R (d:=0) ha
          obtain ⟨j,hj,rfl⟩:=a3R (d:=0) hb2
          rcases Nat.lt_or_ge i j with h2|h2
          · have h3:=(hb j hj).2.2
            have h4:a0P (l.take j) (l.getD j 0)=true:=b1i.2 ⟨l.getD i 0,by
              have:(l.take j).getD i 0=l.getD i 0:=by rw [List.getD_eq_getElem?_getD,List.getD_eq_getElem?_getD,List.getElem?_take,if_pos h2]
              rw [← this]; exact M8 (by rw [List.length_take]; omega),hw⟩
            rw [h3] at h4; cases h4
          · rcases Nat.lt_or_ge j i with h3|h3
            · have:=List.pairwise_iff_getElem.1 hs j i hj hi h3
              rw [List.getD_eq_getElem?_getD,List.getD_eq_getElem?_getD,List.getElem?_eq_getElem hi,List.getElem?_eq_getElem hj] at h1
              have h1:G5 l[i] l[j]<0:=h1
              rw [W9] at *; omega
            · rw [show i=j by omega]
theorem QOk.check {n:Nat} {l:List Int} (h:QOk n l):K7 (n:Int) l=0:=by
  have hn:=h.n1
  rw [K7,if_neg (by omega),if_neg (by have:=h.few; omega),Int.toNat_natCast,a3M]
  intro i _ hi
  have hi:i<l.length:=by omega
  have hp:=List.pairwise_iff_getElem.1 h.sort
  have hm:=M8 (d:=0) hi
  refine a2B.2 ⟨Int.ediv_eq_zero_of_lt (h.B5 _ hm).1 (h.B5 _ hm).2,fun h0=>?_,?_⟩
  · have:=hp (i - 1) i (by omega) hi (by omega)
    rw [List.getD_eq_getElem?_getD,List.getD_eq_getElem?_getD,List.getElem?_eq_getElem hi,List.getElem?_eq_getElem (show i - 1<l.length by omega)]
    exact this
  · cases e:a0P (l.take i) (l.getD i 0) with
    | false=>rfl
    | true =>
      obtain ⟨t,ht,hw⟩:=b1i.1 e
      obtain ⟨j,hj,rfl⟩:=a3R (d:=0) ht
      rw [List.length_take] at hj
      have e1:(l.take i).getD j 0=l.getD j 0:=by rw [List.getD_eq_getElem?_getD,List.getD_eq_getElem?_getD,List.getElem?_take,if_pos (by omega)]
      rw [e1] at hw
      have e2:=h.c0g _ (M8 (by omega)) _ hm hw
      have:=hp j i (by omega) hi (by omega)
      rw [List.getD_eq_getElem?_getD,List.getD_eq_getElem?_getD,List.getElem?_eq_getElem hi,List.getElem?_eq_getElem (show j<l.length by omega)] at e2
      have e2:l[j]=l[i]:=e2
      rw [e2,W9] at this; omega
def N9:List Int→List Int→List Int
  | [],out=>out
  | s::l,out=>if a0P out s=true then N9 l out else N9 l (out++[s])
def a1k (n:Nat) (p:Int→Bool):List Int:=((List.range (2^n)).map (fun i:Nat=>(i:Int))).filter p
def a0I (n:Nat) (p:Int→Bool):List Int:=N9 (E4 (G1 G5) (a1k n p)) []
structure c4v (n:Nat) (p:Int→Bool) (seen rest out:List Int):Prop where
  B5:∀ s∈seen++rest,(0≤s∧s<2^n)∧p s=true
  sort:(seen++rest).Pairwise (fun a b=>G5 a b<0)
  sub:∀ s∈out,s∈seen
  c4s:out.Pairwise (fun a b=>G5 a b<0)
  c0g:∀ a∈out,∀ b∈out,E9 a b=true→a=b
  cov:∀ s∈seen,a0P out s=true
end Go.Proofs.Ytekbamiaenbhjaa
