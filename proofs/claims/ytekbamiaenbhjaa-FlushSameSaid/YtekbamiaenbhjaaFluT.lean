/- FlushSame: the plain law. -/
import Derived.Test.YtekbamiaenbhjaaFluS
namespace Go.Proofs.Ytekbamiaenbhjaa
open Go.Ex Go.Sort
set_option maxRecDepth 100000
theorem b2I:SWO (fun x y:Int=>decide (x<y)):=⟨fun x=>by simp,fun x y z=>by simp only [decide_eq_true_eq]; omega,fun x y z=>by simp only [decide_eq_false_iff_not]; omega⟩
theorem a3y (l:List Int):(F5 l).Perm l:=W9 _ _
theorem b4r {l m:List Int} (hl:l.Nodup) (hm:m.Nodup) (h:∀ x,x∈l↔x∈m):l.Perm m:=by
  rw [List.perm_iff_count]
  intro a
  have h1:=List.nodup_iff_count.1 hl a
  have h2:=List.nodup_iff_count.1 hm a
  have c1:0<l.count a↔a∈l:=List.count_pos_iff
  have c2:0<m.count a↔a∈m:=List.count_pos_iff
  by_cases e:a∈l
  · have:=c1.2 e; have:=c2.2 ((h a).1 e); omega
  · have n1:¬ 0<l.count a:=fun q=>e (c1.1 q)
    have n2:¬ 0<m.count a:=fun q=>e ((h a).2 (c2.1 q))
    omega
theorem b2L {l m:List Int} (hl:l.Nodup) (hm:m.Nodup) (h:∀ x,x∈l↔x∈m):F5 l=F5 m:=by
  refine a2A b2I ((a3y l).trans (b4r hl hm h)) (a0n b2I l) ?_
  intro a _ b _ h1 h2
  simp only [decide_eq_false_iff_not] at h1 h2
  omega
theorem b0W {l:List Int} (hl:l.Nodup):apart (F5 l):=by
  intro i hi e
  have hn:(F5 l).Nodup:=(a3y l).nodup_iff.2 hl
  have:=List.pairwise_iff_getElem.1 hn i (i+1) (by omega) hi (by omega)
  rw [List.getD_eq_getElem?_getD,List.getD_eq_getElem?_getD,List.getElem?_eq_getElem (show i<(F5 l).length by omega),List.getElem?_eq_getElem hi] at e
  exact this e
section
variable {L:Int} {T:List (List Int)} {A:List Bool}
theorem a1t {p:Nat} {x:Int}:∀ {m:Nat},x∈S9 L A T p m↔∃ k:Nat,x=k∧k<m∧A.getD k false=true∧V5 L p=1∧(k:Int)∉T.getD p []
  | 0=>by simp [S9]
  | m+1=>by
    rw [S9,List.mem_append,a1t]
    constructor
    · rintro (⟨k,h1,h2,h3⟩|h)
      · exact ⟨k,h1,by omega,h3⟩
      · split at h
        · rename_i h9
          rw [List.mem_singleton] at h
          exact ⟨m,h,by omega,h9⟩
        · cases h
    · rintro ⟨k,h1,h2,h3⟩
      by_cases e:k=m
      · subst e
        right; rw [if_pos h3,List.mem_singleton]; exact h1
      · exact .inl ⟨k,h1,by omega,h3⟩
theorem a6T {p:Nat}:∀ {m:Nat},(S9 L A T p m).Nodup
  | 0=>List.nodup_nil
  | m+1=>by
    rw [S9]
    refine List.nodup_append.2 ⟨a6T,by split<;>simp,?_⟩
    rintro a ha b hb rfl
    obtain ⟨k,h1,h2,-⟩:=a1t.1 ha
    split at hb
    · rw [List.mem_singleton] at hb; omega
    · cases hb
theorem b4s {p:Nat} (h:V5 L p≠1):S9 L A T p 30=[]:=by
  cases hh:S9 L A T p 30 with
  | nil=>rfl
  | cons x l =>
    have:x∈S9 L A T p 30:=by rw [hh]; simp
    obtain ⟨k,-,-,-,h9,-⟩:=a1t.1 this
    exact absurd h9 h
theorem a4o {p k:Nat}:∀ {l:List Int} {A:List Bool},A.getD k false=true→(l.foldl (a2Q L p) A).getD k false=true
  | [],_,h=>h
  | x::l,A,h=>by
    rw [List.foldl_cons]
    refine a4o ?_
    rw [a2Q]
    by_cases hx:x.toNat<A.length
    · rw [a2L hx]
      split
      · rename_i e; rw [← e,h]; rfl
      · exact h
    · rw [List.set_eq_of_length_le (by omega)]; exact h
theorem b1U {p k:Nat} (hp:V5 L p=1):∀ {l:List Int} {A:List Bool},A.length=30→k<30→(k:Int)∈l→(l.foldl (a2Q L p) A).getD k false=true
  | [],_,_,_,h=>by cases h
  | x::l,A,hA,hk,h=>by
    rw [List.foldl_cons]
    rcases List.mem_cons.1 h with rfl|h
    · refine a4o ?_
      rw [a2Q,Int.toNat_natCast,a2L (by omega),if_pos rfl,hp]; simp
    · exact b1U hp (by rw [a2Q,List.length_set]; exact hA) hk h
theorem b0q {k p:Nat} (hk:k<30) (hp:V5 L p=1) (hx:(k:Int)∈T.getD p []):∀ {q:Nat},p<q→(O7 L T q).getD k false=true
  | 0,h=>by omega
  | q+1,h=>by
    rw [O7]
    by_cases e:p=q
    · subst e; exact b1U hp a8B hk hx
    · exact a4o (b0q hk hp hx (by omega))
end
theorem a9X {v:R3} {g:Int} {T:List (List Int)} (h:B9 (v,g,T,())=0) {p:Nat} (hp:p<6):(T.getD p []).Nodup:=by
  unfold B9 at h
  split at h
  · exact absurd h (by assumption)
  split at h
  · cases h
  have h:=P8.1 h p hp
  have h:V6 v.2.1 T p=0:=h
  unfold V6 at h
  split at h
  · cases h
  split at h
  · cases h
  have h:=P8.1 h
  refine List.pairwise_iff_getElem.2 (fun i j hi hj hij e=>?_)
  have hm:=h j hj
  unfold a4A at hm
  split at hm
  · cases hm
  split at hm
  · cases hm
  · rename_i h9
    refine h9 ?_
    generalize T.getD p []=l at *
    rw [List.getD_eq_getElem?_getD,List.getElem?_eq_getElem hj]
    show l[j]∈l.take j
    rw [← e]
    exact List.mem_iff_getElem.2 ⟨i,by rw [List.length_take]; omega,by rw [List.getElem_take]⟩
theorem b3l {v:R3} {g:Int} {T:List (List Int)} (h:B9 (v,g,T,())=0) {p:Nat} (hp:p<6) {x:Int} (hx:x∈T.getD p []):0≤x∧x≤29:=by
  obtain ⟨k,hk,rfl⟩:=a9I (d:=0) hx
  exact a5O h hp hk
def U7 (L:Int) (T:List (List Int)) (p:Nat):List Int:=T.getD p []++S9 L (O7 L T 6) T p 30
theorem a7m {v:R3} {g:Int} {T:List (List Int)} (h:B9 (v,g,T,())=0) {L:Int} {p:Nat} (hp:p<6) (hl:V5 L p=1) {x:Int}:x∈U7 L T p↔∃ k:Nat,x=k∧k<30∧(O7 L T 6).getD k false=true:=by
  rw [U7,List.mem_append,a1t]
  constructor
  · rintro (hx|⟨k,h1,h2,h3,-⟩)
    · have hr:=b3l h hp hx
      obtain ⟨k,rfl⟩:=Int.eq_ofNat_of_zero_le hr.1
      exact ⟨k,rfl,by omega,b0q (by omega) hl hx hp⟩
    · exact ⟨k,h1,h2,h3⟩
  · rintro ⟨k,h1,h2,h3⟩
    by_cases e:(k:Int)∈T.getD p []
    · left; rw [h1]; exact e
    · exact .inr ⟨k,h1,h2,h3,hl,e⟩
theorem a2s {v:R3} {g:Int} {T:List (List Int)} (h:B9 (v,g,T,())=0) {L:Int} {p:Nat} (hp:p<6):(U7 L T p).Nodup:=by
  refine List.nodup_append.2 ⟨a9X h hp,a6T,?_⟩
  rintro a ha b hb rfl
  obtain ⟨k,h1,-,-,-,h9⟩:=a1t.1 hb
  rw [h1] at ha
  exact h9 ha
theorem b1J {v:R3} {g:Int} {T:List (List Int)} (h:B9 (v,g,T,())=0) {L:Int} {p q:Nat} (hp:p<6) (hl:V5 L p=1) (hq:q<6) (hm:V5 L q=1):F5 (U7 L T p)=F5 (U7 L T q) :=
  b2L (a2s h hp) (a2s h hq) (fun x=>by rw [a7m h hp hl,a7m h hq hm])
theorem b3S {v:R3} {g:Int} {T:List (List Int)} (h:B9 (v,g,T,())=0) {L:Int} {p:Nat} (hp:p<6):(U7 L T p).length≤60:=by
  have h1:=a3V h hp
  have h2:=a6a (L:=L) (A:=O7 L T 6) (T:=T) (p:=p) (m:=30)
  rw [U7,List.length_append]; omega
theorem b7H {M g:Int} (p:Nat) (hp:p<6):V5 (p8 .u8 M g) p≠0→V5 (p8 .u8 M g) p=1:=by
  intro h
  rw [b62 b5a (by omega) (by omega)] at h ⊢
  split
  · rfl
  · rename_i e; rw [if_neg e] at h; exact absurd rfl h
theorem a26 {M:Int} (h:A4 .u8 M):∃ n:Fin 256,M=((n.val:Nat):Int):=by
  have:=u8_in.1 h
  exact ⟨⟨M.toNat,by omega⟩,by simp; omega⟩
theorem a8i {v:R3} {g c:Int} (hM:A4 .u8 v.2.1) (hg:A4 .u8 g) (h:(H6 v g c).2.1=0):(∃ p,p<6∧V5 (p8 .u8 v.2.1 g) ((p:Nat):Int)≠0)∧H9 v=0∧v.1≠16777215∧outside (bOr .u8 g c)=false∧p8 .u8 v.2.1 g≠0∧(H6 v g c).1=(v.1+1,bOr .u8 (p8 .u8 v.2.1 g) c,()):=by
  unfold H6 at h ⊢
  split at h
  · rename_i a; exact absurd h a
  rename_i a; rw [if_neg a]
  split at h
  · cases h
  rename_i b; rw [if_neg b]
  split at h
  · cases h
  rename_i d; rw [if_neg d]
  split at h
  · cases h
  rename_i e; rw [if_neg e]
  split at h
  · cases h
  rename_i f; rw [if_neg f]
  have hv:=a3t (Decidable.not_not.1 a)
  have f:half (p8 .u8 v.2.1 g) v.2.1=true:=by simpa using f
  have hne:p8 .u8 v.2.1 g≠0:=by
    intro h0
    rw [h0] at f
    obtain ⟨m,hm⟩:=a26 hM
    rw [hm] at f
    have:∀ m:Fin 256,half 0 ((m.val:Nat):Int)=false:=by decide +kernel
    rw [this m] at f; cases f
  refine ⟨?_,Decidable.not_not.1 a,e,by simpa using b,hne,rfl⟩
  obtain ⟨m,hm⟩:=a26 hM
  obtain ⟨k,hk⟩:=a26 hg
  have hm64:m.val<64:=by have:=hv.2.2.2; rw [hm] at this; omega
  have lt:∀ m:Fin 64,∀ k:Fin 256,0≤p8 .u8 ((m.val:Nat):Int) ((k.val:Nat):Int)∧p8 .u8 ((m.val:Nat):Int) ((k.val:Nat):Int)<64:=by decide +kernel
  have hlt:=lt ⟨m.val,hm64⟩ k
  rw [hm,hk] at hne ⊢
  generalize p8 .u8 ((m.val:Nat):Int) ((k.val:Nat):Int)=L at *
  have key:∀ n:Fin 64,n.val≠0→∃ p:Fin 6,V5 ((n.val:Nat):Int) ((p.val:Nat):Int)≠0:=by decide +kernel
  obtain ⟨p,hp⟩:=key ⟨L.toNat,by omega⟩ (by show L.toNat≠0; omega)
  refine ⟨p.val,p.isLt,?_⟩
  simp only [Int.toNat_of_nonneg hlt.1] at hp
  exact hp
theorem b6Y {v:R3} {g c:Int} (hM:A4 .u8 v.2.1) (hg:A4 .u8 g) (hc:A4 .u8 c) (h:(H6 v g c).2.1=0):B9 ((H6 v g c).1,0,T7,())=0:=by
  obtain ⟨-,h1,h2,h3,h4,h5⟩:=a8i hM hg h
  have hv:=a3t h1
  have hr:0≤bOr .u8 (p8 .u8 v.2.1 g) c∧bOr .u8 (p8 .u8 v.2.1 g) c<64∧bOr .u8 (p8 .u8 v.2.1 g) c≠0:=by
    obtain ⟨m,hm⟩:=a26 hM
    obtain ⟨k,hk⟩:=a26 hg
    obtain ⟨j,hj⟩:=a26 hc
    have hm64:m.val<64:=by have:=hv.2.2.2; rw [hm] at this; omega
    have lt:∀ m:Fin 64,∀ k:Fin 256,0≤p8 .u8 ((m.val:Nat):Int) ((k.val:Nat):Int)∧p8 .u8 ((m.val:Nat):Int) ((k.val:Nat):Int)<64:=by decide +kernel
    have hlt:=lt ⟨m.val,hm64⟩ k
    have h3':bOr .u8 g c<64:=by unfold outside at h3; rw [decide_eq_false_iff_not] at h3; omega
    have cl:∀ k:Fin 256,∀ j:Fin 256,bOr .u8 ((k.val:Nat):Int) ((j.val:Nat):Int)<64→j.val<64:=by decide +kernel
    rw [hk,hj] at h3'
    have hj64:=cl k j h3'
    rw [hm,hk] at h4 ⊢
    rw [hj]
    generalize p8 .u8 ((m.val:Nat):Int) ((k.val:Nat):Int)=L at *
    have key:∀ n:Fin 64,∀ j:Fin 64,n.val≠0→0≤bOr .u8 ((n.val:Nat):Int) ((j.val:Nat):Int)∧bOr .u8 ((n.val:Nat):Int) ((j.val:Nat):Int)<64∧bOr .u8 ((n.val:Nat):Int) ((j.val:Nat):Int)≠0:=by decide +kernel
    have:=key ⟨L.toNat,by omega⟩ ⟨j.val,hj64⟩ (by show L.toNat≠0; omega)
    simp only [Int.toNat_of_nonneg hlt.1] at this
    exact this
  rw [h5]
  generalize bOr .u8 (p8 .u8 v.2.1 g) c=X at *
  have hvc:H9 (v.1+1,X,())=0:=by
    unfold H9; rw [if_neg (by simp only; omega)]
  unfold B9
  rw [if_neg (by simp only [hvc]; simp)]
  have hz:p8 .u8 0 X=0:=by
    have key:∀ n:Fin 64,p8 .u8 0 ((n.val:Nat):Int)=0:=by decide +kernel
    have:=key ⟨X.toNat,by omega⟩
    simp only [Int.toNat_of_nonneg hr.1] at this
    exact this
  rw [if_neg (by simp only [hz]; simp)]
  refine P8.2 (fun i hi=>?_)
  have hno:T7.getD i []=[]:=by
    match i,hi with
    | 0,_=>rfl
    | 1,_=>rfl
    | 2,_=>rfl
    | 3,_=>rfl
    | 4,_=>rfl
    | 5,_=>rfl
  show V6 X T7 i=0
  unfold V6
  rw [hno,if_neg (by simp),if_neg (by simp)]; rfl
end Go.Proofs.Ytekbamiaenbhjaa
