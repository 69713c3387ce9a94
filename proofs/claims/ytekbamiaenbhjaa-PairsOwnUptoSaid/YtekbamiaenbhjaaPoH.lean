/- Finite orders: the closure of some pairs, and who stands next to whom. No condition but those named. -/
import Derived.Test.YtekbamiaenbhjaaMatchB
import Derived.Test.YtekbamiaenbhjaaListD
namespace Go.Proofs.Ytekbamiaenbhjaa
open Go.Ex
set_option maxRecDepth 100000
theorem b6U {α:Type} {l:List α} {i:Nat} (h:i<l.length) (d:α):l.take (i+1)=l.take i++[l.getD i d]:=by
  rw [List.take_succ_eq_append_getElem h,List.getD_eq_getElem?_getD,List.getElem?_eq_getElem h]; rfl
abbrev R4:List Bool:=[false,false,false,false,false,false,false,false,false,false,false,false,false,false,false,false,false,false,false,false]
abbrev a0m:List (List Bool):=[R4,R4,R4,R4,R4,R4,R4,R4,R4,R4,R4,R4,R4,R4,R4,R4,R4,R4,R4,R4]
def H7 (f:Nat→Nat→Bool):List (List Bool):=(List.range 20).map (fun a=>(List.range 20).map (fun b=>f a b))
def gB (o:List (List Bool)) (a b:Nat):Bool:=(o.getD a R4).getD b false
theorem a8a {f:Nat→Nat→Bool} {a b:Nat} (ha:a<20) (hb:b<20):gB (H7 f) a b=f a b:=by
  rw [gB,H7,a1I _ _ ha,a1I _ _ hb]
theorem b4m {f:Nat→Nat→Bool} {a b:Nat} (v:Bool) (ha:a<20) (hb:b<20):(H7 f).set a (((H7 f).getD a R4).set b v)=H7 (fun x y=>if x=a∧y=b then v else f x y):=by
  rw [H7,a1I _ _ ha,a4S _ _ hb,a4S _ _ ha]
  refine List.map_congr_left (fun x hx=>?_)
  by_cases e:x=a
  · rw [if_pos e]
    refine List.map_congr_left (fun y hy=>?_)
    by_cases e2:y=b
    · rw [if_pos e2]; exact (if_pos (c:=x=a∧y=b) ⟨e,e2⟩).symm
    · rw [if_neg e2,e]; exact (if_neg (c:=a=a∧y=b) (fun h=>e2 h.2)).symm
  · rw [if_neg e]
    exact List.map_congr_left (fun y hy=>(if_neg (c:=x=a∧y=b) (fun h=>e h.1)).symm)
def E9 (l:List l6) (a b:Nat):Bool:=l.any (fun q=>decide (q.1=a) && decide (q.2.1=b))
theorem b8p {l:List l6} {a b:Nat}:E9 l a b=true↔((a:Int),(b:Int),())∈l:=by
  rw [E9,List.any_eq_true]
  constructor
  · rintro ⟨⟨x,y,⟨⟩⟩,hq,h⟩
    simp only [Bool.and_eq_true,decide_eq_true_eq] at h
    rw [h.1,h.2] at hq
    exact hq
  · intro h
    exact ⟨_,h,by simp⟩
def wk (f:Nat→Nat→Bool):Nat→Nat→Nat→Bool
  | 0,a,b=>f a b
  | k+1,a,b=>wk f k a b || (wk f k a k && wk f k k b)
section
variable {f:Nat→Nat→Bool}
theorem b09 (k a:Nat):wk f (k+1) a k=wk f k a k:=by rw [wk]; cases wk f k a k<;>simp
theorem b3V (k b:Nat):wk f (k+1) k b=wk f k k b:=by rw [wk]; cases wk f k k b<;>simp
theorem a38:∀ {k a c b:Nat},c<k→wk f k a c=true→wk f k c b=true→wk f k a b=true
  | k+1,a,c,b,hc,h1,h2=>by
    by_cases e:c=k
    · subst e
      rw [b09] at h1
      rw [b3V] at h2
      rw [wk,h1,h2,Bool.and_self,Bool.or_true]
    · have hck:c<k:=by omega
      rw [wk,Bool.or_eq_true,Bool.and_eq_true] at h1 h2 ⊢
      rcases h1 with h1|⟨h1,h1'⟩<;>rcases h2 with h2|⟨h2,h2'⟩
      · exact .inl (a38 hck h1 h2)
      · exact .inr ⟨a38 hck h1 h2,h2'⟩
      · exact .inr ⟨h1,a38 hck h1' h2⟩
      · exact .inr ⟨h1,h2'⟩
theorem a40 {n:Nat} (hf:∀ a b,f a b=true→a<n∧b<n):∀ {k a b:Nat},wk f k a b=true→a<n∧b<n
  | 0,a,b,h=>hf a b h
  | k+1,a,b,h=>by
    rw [wk,Bool.or_eq_true,Bool.and_eq_true] at h
    rcases h with h|⟨h1,h2⟩
    · exact a40 hf h
    · exact ⟨(a40 hf h1).1,(a40 hf h2).2⟩
def X2 (f:Nat→Nat→Bool) (k a b x y:Nat):Bool:=if x<a∨(x=a∧y<b) then wk f (k+1) x y else wk f k x y
theorem b6I (k:Nat):X2 f k 0 0=wk f k:=by funext x y; rw [X2,if_neg (by omega)]
theorem b6J {k a b x:Nat}:X2 f k a b x k=wk f k x k:=by rw [X2]; split; exact b09 k x; rfl
theorem b8b {k a b y:Nat}:X2 f k a b k y=wk f k k y:=by rw [X2]; split; exact b3V k y; rfl
theorem b8c {k a b:Nat}:X2 f k a b a b=wk f k a b:=by rw [X2,if_neg (by omega)]
theorem b8a {k a b:Nat}:(fun x y=>if x=a∧y=b then wk f (k+1) a b else X2 f k a b x y)=X2 f k a (b+1):=by
  funext x y
  by_cases h:x=a∧y=b
  · rw [if_pos h,X2,if_pos (by omega),h.1,h.2]
  · rw [if_neg h,X2,X2]
    by_cases h2:x<a∨(x=a∧y<b)
    · rw [if_pos h2,if_pos (by omega)]
    · rw [if_neg h2,if_neg (by omega)]
theorem a7r {n:Nat} (hf:∀ a b,f a b=true→a<n∧b<n) {k x y:Nat} (h:¬ (x<n∧y<n)):wk f k x y=false:=by
  cases e:wk f k x y with
  | false=>rfl
  | true=>exact absurd (a40 hf e) h
theorem b9N {n k a:Nat} (hf:∀ a b,f a b=true→a<n∧b<n):X2 f k a n=X2 f k (a+1) 0:=by
  funext x y
  rw [X2,X2]
  by_cases h:x<n∧y<n
  · by_cases h2:x<a∨(x=a∧y<n)
    · rw [if_pos h2,if_pos (by omega)]
    · rw [if_neg h2,if_neg (by omega)]
  · rw [a7r hf h,a7r hf h]; split<;>split<;>rfl
theorem b9O {n k:Nat} (hf:∀ a b,f a b=true→a<n∧b<n):X2 f k n 0=wk f (k+1):=by
  funext x y
  rw [X2]
  by_cases h:x<n
  · rw [if_pos (by omega)]
  · rw [if_neg (by omega),a7r hf (fun c=>h c.1),a7r hf (fun c=>h c.1)]
end
structure a8s (n:Nat) (l:List l6):Prop where
  n20:n≤20
  len:l.length≤600
  C0:∀ q∈l,(0≤q.1∧q.1<(n:Int))∧(0≤q.2.1∧q.2.1<(n:Int))
  irr:∀ k,k<n→wk (E9 l) n k k=false
def a3i (n:Nat) (l:List l6):Bool:=(List.range n).any (fun k=>wk (E9 l) n k k)
def I4 (n:Int) (l:List l6):Int:=if n<0∨20<n then 1 else if B8 n n l≠0 then B8 n n l else if a3i n.toNat l=true then 9 else 0
theorem a7X {m n:Int} {l:List l6} (h:B8 m n l=0):(0≤m∧m≤40)∧(0≤n∧n≤40)∧l.length≤600∧∀ q∈l,(0≤q.1∧q.1<m)∧(0≤q.2.1∧q.2.1<n):=by
  unfold B8 at h
  split at h
  · cases h
  split at h
  · cases h
  split at h
  · cases h
  · rename_i h1 h2 h3
    have h1:(S9 m 0 40 && S9 n 0 40)=true:=by cases e:(S9 m 0 40 && S9 n 0 40) with|true=>rfl|false=>exact absurd e h1
    rw [Bool.and_eq_true,L9,L9] at h1
    refine ⟨h1.1,h1.2,by omega,fun q hq=>?_⟩
    have h3:l.any (U9 m n)=false:=by cases e:l.any (U9 m n) with|false=>rfl|true=>exact absurd e h3
    have:=List.any_eq_false.1 h3 q hq
    rw [U9,Bool.not_eq_true,Bool.or_eq_false_iff,Bool.not_eq_false',Bool.not_eq_false',L9,L9] at this
    omega
theorem a9H {n:Int} {l:List l6} (h:I4 n l=0):∃ m:Nat,n=m∧a8s m l:=by
  unfold I4 at h
  split at h
  · cases h
  split at h
  · rename_i h1; exact absurd h h1
  split at h
  · cases h
  · rename_i h1 h2 h3
    obtain ⟨m,rfl⟩:=Int.eq_ofNat_of_zero_le (show 0≤n by omega)
    obtain ⟨_,_,k3,k4⟩:=a7X (Decidable.not_not.1 h2)
    refine ⟨m,rfl,by omega,k3,k4,fun k hk=>?_⟩
    have h3:a3i m l=false:=by cases e:a3i m l with|false=>rfl|true=>exact absurd e h3
    have:=List.any_eq_false.1 h3 k (List.mem_range.2 hk)
    simpa using this
theorem a9I {n:Nat} {l:List l6} (h:a8s n l):I4 n l=0:=by
  have e1:B8 (n:Int) n l=0:=by
    have hn:=h.n20
    rw [B8,if_neg (by rw [L9.2 ⟨by omega,by omega⟩]; decide),if_neg (by have:=h.len; omega),if_neg]
    intro h9
    obtain ⟨q,hq,h8⟩:=List.any_eq_true.1 h9
    obtain ⟨h1,h2⟩:=h.C0 q hq
    rw [U9,L9.2 ⟨h1.1,by omega⟩,L9.2 ⟨h2.1,by omega⟩] at h8
    cases h8
  have e2:a3i n l=false:=by
    rw [a3i,List.any_eq_false]
    intro k hk
    rw [h.irr k (List.mem_range.1 hk)]
    decide
  have hn:=h.n20
  rw [I4,if_neg (by omega),e1,if_neg (fun c=>c rfl),Int.toNat_natCast,e2]
  rfl
theorem b4a {n:Nat} {l:List l6} (hr:∀ q∈l,(0≤q.1∧q.1<(n:Int))∧(0≤q.2.1∧q.2.1<(n:Int))):∀ a b,E9 l a b=true→a<n∧b<n:=by
  intro a b h
  obtain ⟨h1,h2⟩:=hr _ (b8p.1 h)
  have h1:(a:Int)<n:=h1.2
  have h2:(b:Int)<n:=h2.2
  omega
def H5 (n:Nat) (g:Nat→Nat→Bool):List l6:=(List.range n).flatMap (fun a:Nat=>((List.range n).filter (g a)).map (fun b:Nat=>((a:Int),(b:Int),())))
theorem a7R {n:Nat} {g:Nat→Nat→Bool} {q:l6}:q∈H5 n g↔∃ a b:Nat,a<n∧b<n∧g a b=true∧q=((a:Int),(b:Int),()):=by
  simp only [H5,List.mem_flatMap,List.mem_map,List.mem_filter,List.mem_range]
  constructor
  · rintro ⟨a,ha,b,⟨hb,hg⟩,rfl⟩; exact ⟨a,b,ha,hb,hg,rfl⟩
  · rintro ⟨a,b,ha,hb,hg,rfl⟩; exact ⟨a,ha,b,⟨hb,hg⟩,rfl⟩
theorem b5o {n:Nat} {g:Nat→Nat→Bool}:(H5 n g).length≤n*n:=by
  have:∀ (l:List Nat) (f:Nat→List l6),(∀ a,(f a).length≤n)→(l.flatMap f).length≤l.length*n:=by
    intro l f hf
    induction l with
    | nil=>simp
    | cons a l ih=>rw [List.flatMap_cons,List.length_append,List.length_cons,Nat.succ_mul]; have:=hf a; omega
  have h:=this (List.range n) (fun a=>((List.range n).filter (g a)).map (fun b:Nat=>((a:Int),(b:Int),()))) (fun a=>by
    rw [List.length_map]; exact Nat.le_trans (List.length_filter_le _ _) (by simp))
  rwa [List.length_range] at h
theorem a5g {n:Nat} {g g':Nat→Nat→Bool} (h:∀ a b,a<n→b<n→g a b=g' a b):H5 n g=H5 n g':=by
  have key:∀ (l:List Nat),(∀ a∈l,a<n)→l.flatMap (fun a:Nat=>((List.range n).filter (g a)).map (fun b:Nat=>((a:Int),(b:Int),())))=l.flatMap (fun a:Nat=>((List.range n).filter (g' a)).map (fun b:Nat=>((a:Int),(b:Int),()))):=by
    intro l hl
    induction l with
    | nil=>rfl
    | cons a l ih =>
      rw [List.flatMap_cons,List.flatMap_cons,ih (fun x hx=>hl x (by simp [hx])),List.filter_congr (fun b hb=>h a b (hl a (by simp)) (List.mem_range.1 hb))]
  exact key _ (fun a ha=>List.mem_range.1 ha)
/-! those with nobody between -/
section
variable {n:Nat} {l:List l6} (h:a8s n l)
include h
theorem b4d:∀ a b,E9 l a b=true→a<n∧b<n:=b4a h.C0
theorem b69 {a b c:Nat} (h1:wk (E9 l) n a b=true) (h2:wk (E9 l) n b c=true):wk (E9 l) n a c=true:=a38 (a40 (b4d h) h1).2 h1 h2
theorem b95 (k:Nat):wk (E9 l) n k k=false:=by
  by_cases hk:k<n
  · exact h.irr k hk
  · exact a7r (b4d h) (fun c=>hk c.1)
omit h in
end
end Go.Proofs.Ytekbamiaenbhjaa
