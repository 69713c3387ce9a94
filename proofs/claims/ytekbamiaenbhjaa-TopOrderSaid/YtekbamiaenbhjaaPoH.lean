/- Finite orders: the closure of some pairs, and who stands next to whom. No condition but those named. -/
import Derived.Test.YtekbamiaenbhjaaMatchB
import Derived.Test.YtekbamiaenbhjaaListD
namespace Go.Proofs.Ytekbamiaenbhjaa
open Go.Ex
set_option maxRecDepth 100000
theorem a6f {α:Type} {l:List α} {i:Nat} (h:i<l.length) (d:α):l.take (i+1)=l.take i++[l.getD i d]:=by
  rw [List.take_succ_eq_append_getElem h,List.getD_eq_getElem?_getD,List.getElem?_eq_getElem h]; rfl
abbrev P9:List Bool:=[false,false,false,false,false,false,false,false,false,false,false,false,false,false,false,false,false,false,false,false]
abbrev a0C:List (List Bool):=[P9,P9,P9,P9,P9,P9,P9,P9,P9,P9,P9,P9,P9,P9,P9,P9,P9,P9,P9,P9]
def W5 (f:Nat→Nat→Bool):List (List Bool):=(List.range 20).map (fun a=>(List.range 20).map (fun b=>f a b))
def gB (o:List (List Bool)) (a b:Nat):Bool:=(o.getD a P9).getD b false
theorem a9L {f:Nat→Nat→Bool} {a b:Nat} (ha:a<20) (hb:b<20):gB (W5 f) a b=f a b:=by
  rw [gB,W5,P7 _ _ ha,P7 _ _ hb]
theorem b6c {f:Nat→Nat→Bool} {a b:Nat} (v:Bool) (ha:a<20) (hb:b<20):(W5 f).set a (((W5 f).getD a P9).set b v)=W5 (fun x y=>if x=a∧y=b then v else f x y):=by
  rw [W5,P7 _ _ ha,Z6 _ _ hb,Z6 _ _ ha]
  refine List.map_congr_left (fun x hx=>?_)
  by_cases e:x=a
  · rw [if_pos e]
    refine List.map_congr_left (fun y hy=>?_)
    by_cases e2:y=b
    · rw [if_pos e2]; exact (if_pos (c:=x=a∧y=b) ⟨e,e2⟩).symm
    · rw [if_neg e2,e]; exact (if_neg (c:=a=a∧y=b) (fun h=>e2 h.2)).symm
  · rw [if_neg e]
    exact List.map_congr_left (fun y hy=>(if_neg (c:=x=a∧y=b) (fun h=>e h.1)).symm)
def D6 (l:List s5) (a b:Nat):Bool:=l.any (fun q=>decide (q.1=a) && decide (q.2.1=b))
theorem a3u {l:List s5} {a b:Nat}:D6 l a b=true↔((a:Int),(b:Int),())∈l:=by
  rw [D6,List.any_eq_true]
  constructor
  · rintro ⟨⟨x,y,⟨⟩⟩,hq,h⟩
    simp only [Bool.and_eq_true,decide_eq_true_eq] at h
    rw [h.1,h.2] at hq
    exact hq
  · intro h
    exact ⟨_,h,by simp⟩
def wk (f:Nat→Nat→Bool):Nat→Nat→Nat→Bool
  | 0,a,b=>f a b
  | k+1,a,b=>wk f k a b || (wk f k a k && wk f k k b)
section
variable {f:Nat→Nat→Bool}
theorem c45 {k a b:Nat} (h:wk f k a b=true):wk f (k+1) a b=true:=by rw [wk,h,Bool.true_or]
theorem b6L {a b:Nat} (h:f a b=true):∀ k,wk f k a b=true
  | 0=>h
  | k+1=>c45 (b6L h k)
theorem b2M (k a:Nat):wk f (k+1) a k=wk f k a k:=by rw [wk]; cases wk f k a k<;>simp
theorem b5J (k b:Nat):wk f (k+1) k b=wk f k k b:=by rw [wk]; cases wk f k k b<;>simp
theorem a3o:∀ {k a c b:Nat},c<k→wk f k a c=true→wk f k c b=true→wk f k a b=true
  | k+1,a,c,b,hc,h1,h2=>by
    by_cases e:c=k
    · subst e
      rw [b2M] at h1
      rw [b5J] at h2
      rw [wk,h1,h2,Bool.and_self,Bool.or_true]
    · have hck:c<k:=by omega
      rw [wk,Bool.or_eq_true,Bool.and_eq_true] at h1 h2 ⊢
      rcases h1 with h1|⟨h1,h1'⟩<;>rcases h2 with h2|⟨h2,h2'⟩
      · exact .inl (a3o hck h1 h2)
      · exact .inr ⟨a3o hck h1 h2,h2'⟩
      · exact .inr ⟨h1,a3o hck h1' h2⟩
      · exact .inr ⟨h1,h2'⟩
theorem a3p {T:Nat→Nat→Prop} (hT:∀ a b c,T a b→T b c→T a c) (hf:∀ a b,f a b=true→T a b):∀ {k a b:Nat},wk f k a b=true→T a b
  | 0,a,b,h=>hf a b h
  | k+1,a,b,h=>by
    rw [wk,Bool.or_eq_true,Bool.and_eq_true] at h
    rcases h with h|⟨h1,h2⟩
    · exact a3p hT hf h
    · exact hT _ _ _ (a3p hT hf h1) (a3p hT hf h2)
theorem a6b {n:Nat} (hf:∀ a b,f a b=true→a<n∧b<n):∀ {k a b:Nat},wk f k a b=true→a<n∧b<n
  | 0,a,b,h=>hf a b h
  | k+1,a,b,h=>by
    rw [wk,Bool.or_eq_true,Bool.and_eq_true] at h
    rcases h with h|⟨h1,h2⟩
    · exact a6b hf h
    · exact ⟨(a6b hf h1).1,(a6b hf h2).2⟩
def Y5 (f:Nat→Nat→Bool) (k a b x y:Nat):Bool:=if x<a∨(x=a∧y<b) then wk f (k+1) x y else wk f k x y
theorem b8V (k:Nat):Y5 f k 0 0=wk f k:=by funext x y; rw [Y5,if_neg (by omega)]
theorem b8W {k a b x:Nat}:Y5 f k a b x k=wk f k x k:=by rw [Y5]; split; exact b2M k x; rfl
theorem c0G {k a b y:Nat}:Y5 f k a b k y=wk f k k y:=by rw [Y5]; split; exact b5J k y; rfl
theorem c0H {k a b:Nat}:Y5 f k a b a b=wk f k a b:=by rw [Y5,if_neg (by omega)]
theorem c0F {k a b:Nat}:(fun x y=>if x=a∧y=b then wk f (k+1) a b else Y5 f k a b x y)=Y5 f k a (b+1):=by
  funext x y
  by_cases h:x=a∧y=b
  · rw [if_pos h,Y5,if_pos (by omega),h.1,h.2]
  · rw [if_neg h,Y5,Y5]
    by_cases h2:x<a∨(x=a∧y<b)
    · rw [if_pos h2,if_pos (by omega)]
    · rw [if_neg h2,if_neg (by omega)]
theorem a85 {n:Nat} (hf:∀ a b,f a b=true→a<n∧b<n) {k x y:Nat} (h:¬ (x<n∧y<n)):wk f k x y=false:=by
  cases e:wk f k x y with
  | false=>rfl
  | true=>exact absurd (a6b hf e) h
theorem c3j {n k a:Nat} (hf:∀ a b,f a b=true→a<n∧b<n):Y5 f k a n=Y5 f k (a+1) 0:=by
  funext x y
  rw [Y5,Y5]
  by_cases h:x<n∧y<n
  · by_cases h2:x<a∨(x=a∧y<n)
    · rw [if_pos h2,if_pos (by omega)]
    · rw [if_neg h2,if_neg (by omega)]
  · rw [a85 hf h,a85 hf h]; split<;>split<;>rfl
theorem c3k {n k:Nat} (hf:∀ a b,f a b=true→a<n∧b<n):Y5 f k n 0=wk f (k+1):=by
  funext x y
  rw [Y5]
  by_cases h:x<n
  · rw [if_pos (by omega)]
  · rw [if_neg (by omega),a85 hf (fun c=>h c.1),a85 hf (fun c=>h c.1)]
end
structure a7y (n:Nat) (l:List s5):Prop where
  n20:n≤20
  len:l.length≤600
  D3:∀ q∈l,(0≤q.1∧q.1<(n:Int))∧(0≤q.2.1∧q.2.1<(n:Int))
  irr:∀ k,k<n→wk (D6 l) n k k=false
def a32 (n:Nat) (l:List s5):Bool:=(List.range n).any (fun k=>wk (D6 l) n k k)
def J6 (n:Int) (l:List s5):Int:=if n<0∨20<n then 1 else if G4 n n l≠0 then G4 n n l else if a32 n.toNat l=true then 9 else 0
theorem a9C {m n:Int} {l:List s5} (h:G4 m n l=0):(0≤m∧m≤40)∧(0≤n∧n≤40)∧l.length≤600∧∀ q∈l,(0≤q.1∧q.1<m)∧(0≤q.2.1∧q.2.1<n):=by
  unfold G4 at h
  split at h
  · cases h
  split at h
  · cases h
  split at h
  · cases h
  · rename_i h1 h2 h3
    have h1:(N3 m 0 40 && N3 n 0 40)=true:=by cases e:(N3 m 0 40 && N3 n 0 40) with|true=>rfl|false=>exact absurd e h1
    rw [Bool.and_eq_true,K0,K0] at h1
    refine ⟨h1.1,h1.2,by omega,fun q hq=>?_⟩
    have h3:l.any (U6 m n)=false:=by cases e:l.any (U6 m n) with|false=>rfl|true=>exact absurd e h3
    have:=List.any_eq_false.1 h3 q hq
    rw [U6,Bool.not_eq_true,Bool.or_eq_false_iff,Bool.not_eq_false',Bool.not_eq_false',K0,K0] at this
    omega
theorem b1c {n:Int} {l:List s5} (h:J6 n l=0):∃ m:Nat,n=m∧a7y m l:=by
  unfold J6 at h
  split at h
  · cases h
  split at h
  · rename_i h1; exact absurd h h1
  split at h
  · cases h
  · rename_i h1 h2 h3
    obtain ⟨m,rfl⟩:=Int.eq_ofNat_of_zero_le (show 0≤n by omega)
    obtain ⟨_,_,k3,k4⟩:=a9C (Decidable.not_not.1 h2)
    refine ⟨m,rfl,by omega,k3,k4,fun k hk=>?_⟩
    have h3:a32 m l=false:=by cases e:a32 m l with|false=>rfl|true=>exact absurd e h3
    have:=List.any_eq_false.1 h3 k (List.mem_range.2 hk)
    simpa using this
theorem a6u {n:Nat} {l:List s5} (h:a7y n l):J6 n l=0:=by
  have e1:G4 (n:Int) n l=0:=by
    have hn:=h.n20
    rw [G4,if_neg (by rw [K0.2 ⟨by omega,by omega⟩]; decide),if_neg (by have:=h.len; omega),if_neg]
    intro h9
    obtain ⟨q,hq,h8⟩:=List.any_eq_true.1 h9
    obtain ⟨h1,h2⟩:=h.D3 q hq
    rw [U6,K0.2 ⟨h1.1,by omega⟩,K0.2 ⟨h2.1,by omega⟩] at h8
    cases h8
  have e2:a32 n l=false:=by
    rw [a32,List.any_eq_false]
    intro k hk
    rw [h.irr k (List.mem_range.1 hk)]
    decide
  have hn:=h.n20
  rw [J6,if_neg (by omega),e1,if_neg (fun c=>c rfl),Int.toNat_natCast,e2]
  rfl
theorem b50 {n:Nat} {l:List s5} (hr:∀ q∈l,(0≤q.1∧q.1<(n:Int))∧(0≤q.2.1∧q.2.1<(n:Int))):∀ a b,D6 l a b=true→a<n∧b<n:=by
  intro a b h
  obtain ⟨h1,h2⟩:=hr _ (a3u.1 h)
  have h1:(a:Int)<n:=h1.2
  have h2:(b:Int)<n:=h2.2
  omega
def M7 (n:Nat) (g:Nat→Nat→Bool):List s5:=(List.range n).flatMap (fun a:Nat=>((List.range n).filter (g a)).map (fun b:Nat=>((a:Int),(b:Int),())))
theorem a5k {n:Nat} {g:Nat→Nat→Bool} {q:s5}:q∈M7 n g↔∃ a b:Nat,a<n∧b<n∧g a b=true∧q=((a:Int),(b:Int),()):=by
  simp only [M7,List.mem_flatMap,List.mem_map,List.mem_filter,List.mem_range]
  constructor
  · rintro ⟨a,ha,b,⟨hb,hg⟩,rfl⟩; exact ⟨a,b,ha,hb,hg,rfl⟩
  · rintro ⟨a,b,ha,hb,hg,rfl⟩; exact ⟨a,ha,b,⟨hb,hg⟩,rfl⟩
theorem b7q {n:Nat} {g:Nat→Nat→Bool}:(M7 n g).length≤n*n:=by
  have:∀ (l:List Nat) (f:Nat→List s5),(∀ a,(f a).length≤n)→(l.flatMap f).length≤l.length*n:=by
    intro l f hf
    induction l with
    | nil=>simp
    | cons a l ih=>rw [List.flatMap_cons,List.length_append,List.length_cons,Nat.succ_mul]; have:=hf a; omega
  have h:=this (List.range n) (fun a=>((List.range n).filter (g a)).map (fun b:Nat=>((a:Int),(b:Int),()))) (fun a=>by
    rw [List.length_map]; exact Nat.le_trans (List.length_filter_le _ _) (by simp))
  rwa [List.length_range] at h
theorem b3d {n:Nat} {g g':Nat→Nat→Bool} (h:∀ a b,a<n→b<n→g a b=g' a b):M7 n g=M7 n g':=by
  have key:∀ (l:List Nat),(∀ a∈l,a<n)→l.flatMap (fun a:Nat=>((List.range n).filter (g a)).map (fun b:Nat=>((a:Int),(b:Int),())))=l.flatMap (fun a:Nat=>((List.range n).filter (g' a)).map (fun b:Nat=>((a:Int),(b:Int),()))):=by
    intro l hl
    induction l with
    | nil=>rfl
    | cons a l ih =>
      rw [List.flatMap_cons,List.flatMap_cons,ih (fun x hx=>hl x (by simp [hx])),List.filter_congr (fun b hb=>h a b (hl a (by simp)) (List.mem_range.1 hb))]
  exact key _ (fun a ha=>List.mem_range.1 ha)
/-! those with nobody between -/
section
variable {n:Nat} {l:List s5} (h:a7y n l)
include h
theorem b53:∀ a b,D6 l a b=true→a<n∧b<n:=b50 h.D3
theorem a6r {a b c:Nat} (h1:wk (D6 l) n a b=true) (h2:wk (D6 l) n b c=true):wk (D6 l) n a c=true:=a3o (a6b (b53 h) h1).2 h1 h2
theorem b0t (k:Nat):wk (D6 l) n k k=false:=by
  by_cases hk:k<n
  · exact h.irr k hk
  · exact a85 (b53 h) (fun c=>hk c.1)
omit h in
end
end Go.Proofs.Ytekbamiaenbhjaa
