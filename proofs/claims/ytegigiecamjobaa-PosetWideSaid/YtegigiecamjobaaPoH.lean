/- Finite orders: the closure of some pairs, and who stands next to whom. No condition but those named. -/
import Derived.Test.YtegigiecamjobaaMatchB
import Derived.Test.YtegigiecamjobaaListD
namespace Go.Proofs.Ytegigiecamjobaa
open Go.Ex
set_option maxRecDepth 100000
theorem take_getD {α:Type} {l:List α} {i:Nat} (h:i<l.length) (d:α):l.take (i+1)=l.take i++[l.getD i d]:=by
  rw [List.take_succ_eq_append_getElem h,List.getD_eq_getElem?_getD,List.getElem?_eq_getElem h]; rfl
abbrev F20:List Bool:=[false,false,false,false,false,false,false,false,false,false,false,false,false,false,false,false,false,false,false,false]
abbrev F400:List (List Bool):=[F20,F20,F20,F20,F20,F20,F20,F20,F20,F20,F20,F20,F20,F20,F20,F20,F20,F20,F20,F20]
def mkO (f:Nat→Nat→Bool):List (List Bool):=(List.range 20).map (fun a=>(List.range 20).map (fun b=>f a b))
def gB (o:List (List Bool)) (a b:Nat):Bool:=(o.getD a F20).getD b false
theorem gB_mkO {f:Nat→Nat→Bool} {a b:Nat} (ha:a<20) (hb:b<20):gB (mkO f) a b=f a b:=by
  rw [gB,mkO,getD_map_range _ _ ha,getD_map_range _ _ hb]
theorem mkO_set {f:Nat→Nat→Bool} {a b:Nat} (v:Bool) (ha:a<20) (hb:b<20):(mkO f).set a (((mkO f).getD a F20).set b v)=mkO (fun x y=>if x=a∧y=b then v else f x y):=by
  rw [mkO,getD_map_range _ _ ha,set_map_range _ _ hb,set_map_range _ _ ha]
  refine List.map_congr_left (fun x hx=>?_)
  by_cases e:x=a
  · rw [if_pos e]
    refine List.map_congr_left (fun y hy=>?_)
    by_cases e2:y=b
    · rw [if_pos e2]; exact (if_pos (c:=x=a∧y=b) ⟨e,e2⟩).symm
    · rw [if_neg e2,e]; exact (if_neg (c:=a=a∧y=b) (fun h=>e2 h.2)).symm
  · rw [if_neg e]
    exact List.map_congr_left (fun y hy=>(if_neg (c:=x=a∧y=b) (fun h=>e h.1)).symm)
def relP (l:List PairD) (a b:Nat):Bool:=l.any (fun q=>decide (q.1=a) && decide (q.2.1=b))
theorem relP_iff {l:List PairD} {a b:Nat}:relP l a b=true↔((a:Int),(b:Int),())∈l:=by
  rw [relP,List.any_eq_true]
  constructor
  · rintro ⟨⟨x,y,⟨⟩⟩,hq,h⟩
    simp only [Bool.and_eq_true,decide_eq_true_eq] at h
    rw [h.1,h.2] at hq
    exact hq
  · intro h
    exact ⟨_,h,by simp⟩
def wk (f:Nat→Nat→Bool):Nat→Nat→Nat→Bool
  | 0,a,b=>f a b
  | k+1,a,b=>wk f k a b || (wk f k a k && wk f k k b)
section
variable {f:Nat→Nat→Bool}
theorem wk_right (k a:Nat):wk f (k+1) a k=wk f k a k:=by rw [wk]; cases wk f k a k<;>simp
theorem wk_left (k b:Nat):wk f (k+1) k b=wk f k k b:=by rw [wk]; cases wk f k k b<;>simp
theorem wk_trans:∀ {k a c b:Nat},c<k→wk f k a c=true→wk f k c b=true→wk f k a b=true
  | k+1,a,c,b,hc,h1,h2=>by
    by_cases e:c=k
    · subst e
      rw [wk_right] at h1
      rw [wk_left] at h2
      rw [wk,h1,h2,Bool.and_self,Bool.or_true]
    · have hck:c<k:=by omega
      rw [wk,Bool.or_eq_true,Bool.and_eq_true] at h1 h2 ⊢
      rcases h1 with h1|⟨h1,h1'⟩<;>rcases h2 with h2|⟨h2,h2'⟩
      · exact .inl (wk_trans hck h1 h2)
      · exact .inr ⟨wk_trans hck h1 h2,h2'⟩
      · exact .inr ⟨h1,wk_trans hck h1' h2⟩
      · exact .inr ⟨h1,h2'⟩
theorem wk_out {n:Nat} (hf:∀ a b,f a b=true→a<n∧b<n):∀ {k a b:Nat},wk f k a b=true→a<n∧b<n
  | 0,a,b,h=>hf a b h
  | k+1,a,b,h=>by
    rw [wk,Bool.or_eq_true,Bool.and_eq_true] at h
    rcases h with h|⟨h1,h2⟩
    · exact wk_out hf h
    · exact ⟨(wk_out hf h1).1,(wk_out hf h2).2⟩
def wkm (f:Nat→Nat→Bool) (k a b x y:Nat):Bool:=if x<a∨(x=a∧y<b) then wk f (k+1) x y else wk f k x y
theorem wkm_start (k:Nat):wkm f k 0 0=wk f k:=by funext x y; rw [wkm,if_neg (by omega)]
theorem wkm_right {k a b x:Nat}:wkm f k a b x k=wk f k x k:=by rw [wkm]; split; exact wk_right k x; rfl
theorem wkm_left {k a b y:Nat}:wkm f k a b k y=wk f k k y:=by rw [wkm]; split; exact wk_left k y; rfl
theorem wkm_here {k a b:Nat}:wkm f k a b a b=wk f k a b:=by rw [wkm,if_neg (by omega)]
theorem wkm_step {k a b:Nat}:(fun x y=>if x=a∧y=b then wk f (k+1) a b else wkm f k a b x y)=wkm f k a (b+1):=by
  funext x y
  by_cases h:x=a∧y=b
  · rw [if_pos h,wkm,if_pos (by omega),h.1,h.2]
  · rw [if_neg h,wkm,wkm]
    by_cases h2:x<a∨(x=a∧y<b)
    · rw [if_pos h2,if_pos (by omega)]
    · rw [if_neg h2,if_neg (by omega)]
theorem wk_no {n:Nat} (hf:∀ a b,f a b=true→a<n∧b<n) {k x y:Nat} (h:¬ (x<n∧y<n)):wk f k x y=false:=by
  cases e:wk f k x y with
  | false=>rfl
  | true=>exact absurd (wk_out hf e) h
theorem wkm_row {n k a:Nat} (hf:∀ a b,f a b=true→a<n∧b<n):wkm f k a n=wkm f k (a+1) 0:=by
  funext x y
  rw [wkm,wkm]
  by_cases h:x<n∧y<n
  · by_cases h2:x<a∨(x=a∧y<n)
    · rw [if_pos h2,if_pos (by omega)]
    · rw [if_neg h2,if_neg (by omega)]
  · rw [wk_no hf h,wk_no hf h]; split<;>split<;>rfl
theorem wkm_end {n k:Nat} (hf:∀ a b,f a b=true→a<n∧b<n):wkm f k n 0=wk f (k+1):=by
  funext x y
  rw [wkm]
  by_cases h:x<n
  · rw [if_pos (by omega)]
  · rw [if_neg (by omega),wk_no hf (fun c=>h c.1),wk_no hf (fun c=>h c.1)]
end
structure PosOk (n:Nat) (l:List PairD):Prop where
  n20:n≤20
  len:l.length≤600
  rng:∀ q∈l,(0≤q.1∧q.1<(n:Int))∧(0≤q.2.1∧q.2.1<(n:Int))
  irr:∀ k,k<n→wk (relP l) n k k=false
def loopB (n:Nat) (l:List PairD):Bool:=(List.range n).any (fun k=>wk (relP l) n k k)
def pcheck (n:Int) (l:List PairD):Int:=if n<0∨20<n then 1 else if mcheck n n l≠0 then mcheck n n l else if loopB n.toNat l=true then 9 else 0
theorem mcheck_rng {m n:Int} {l:List PairD} (h:mcheck m n l=0):(0≤m∧m≤40)∧(0≤n∧n≤40)∧l.length≤600∧∀ q∈l,(0≤q.1∧q.1<m)∧(0≤q.2.1∧q.2.1<n):=by
  unfold mcheck at h
  split at h
  · cases h
  split at h
  · cases h
  split at h
  · cases h
  · rename_i h1 h2 h3
    have h1:(inF m 0 40 && inF n 0 40)=true:=by cases e:(inF m 0 40 && inF n 0 40) with|true=>rfl|false=>exact absurd e h1
    rw [Bool.and_eq_true,inF_iff,inF_iff] at h1
    refine ⟨h1.1,h1.2,by omega,fun q hq=>?_⟩
    have h3:l.any (badP m n)=false:=by cases e:l.any (badP m n) with|false=>rfl|true=>exact absurd e h3
    have:=List.any_eq_false.1 h3 q hq
    rw [badP,Bool.not_eq_true,Bool.or_eq_false_iff,Bool.not_eq_false',Bool.not_eq_false',inF_iff,inF_iff] at this
    omega
theorem pcheck_ok {n:Int} {l:List PairD} (h:pcheck n l=0):∃ m:Nat,n=m∧PosOk m l:=by
  unfold pcheck at h
  split at h
  · cases h
  split at h
  · rename_i h1; exact absurd h h1
  split at h
  · cases h
  · rename_i h1 h2 h3
    obtain ⟨m,rfl⟩:=Int.eq_ofNat_of_zero_le (show 0≤n by omega)
    obtain ⟨_,_,k3,k4⟩:=mcheck_rng (Decidable.not_not.1 h2)
    refine ⟨m,rfl,by omega,k3,k4,fun k hk=>?_⟩
    have h3:loopB m l=false:=by cases e:loopB m l with|false=>rfl|true=>exact absurd e h3
    have:=List.any_eq_false.1 h3 k (List.mem_range.2 hk)
    simpa using this
theorem pcheck_of {n:Nat} {l:List PairD} (h:PosOk n l):pcheck n l=0:=by
  have e1:mcheck (n:Int) n l=0:=by
    have hn:=h.n20
    rw [mcheck,if_neg (by rw [inF_iff.2 ⟨by omega,by omega⟩]; decide),if_neg (by have:=h.len; omega),if_neg]
    intro h9
    obtain ⟨q,hq,h8⟩:=List.any_eq_true.1 h9
    obtain ⟨h1,h2⟩:=h.rng q hq
    rw [badP,inF_iff.2 ⟨h1.1,by omega⟩,inF_iff.2 ⟨h2.1,by omega⟩] at h8
    cases h8
  have e2:loopB n l=false:=by
    rw [loopB,List.any_eq_false]
    intro k hk
    rw [h.irr k (List.mem_range.1 hk)]
    decide
  have hn:=h.n20
  rw [pcheck,if_neg (by omega),e1,if_neg (fun c=>c rfl),Int.toNat_natCast,e2]
  rfl
theorem rel_out {n:Nat} {l:List PairD} (hr:∀ q∈l,(0≤q.1∧q.1<(n:Int))∧(0≤q.2.1∧q.2.1<(n:Int))):∀ a b,relP l a b=true→a<n∧b<n:=by
  intro a b h
  obtain ⟨h1,h2⟩:=hr _ (relP_iff.1 h)
  have h1:(a:Int)<n:=h1.2
  have h2:(b:Int)<n:=h2.2
  omega
def pairsF (n:Nat) (g:Nat→Nat→Bool):List PairD:=(List.range n).flatMap (fun a:Nat=>((List.range n).filter (g a)).map (fun b:Nat=>((a:Int),(b:Int),())))
theorem pairsF_mem {n:Nat} {g:Nat→Nat→Bool} {q:PairD}:q∈pairsF n g↔∃ a b:Nat,a<n∧b<n∧g a b=true∧q=((a:Int),(b:Int),()):=by
  simp only [pairsF,List.mem_flatMap,List.mem_map,List.mem_filter,List.mem_range]
  constructor
  · rintro ⟨a,ha,b,⟨hb,hg⟩,rfl⟩; exact ⟨a,b,ha,hb,hg,rfl⟩
  · rintro ⟨a,b,ha,hb,hg,rfl⟩; exact ⟨a,ha,b,⟨hb,hg⟩,rfl⟩
theorem pairsF_len {n:Nat} {g:Nat→Nat→Bool}:(pairsF n g).length≤n*n:=by
  have:∀ (l:List Nat) (f:Nat→List PairD),(∀ a,(f a).length≤n)→(l.flatMap f).length≤l.length*n:=by
    intro l f hf
    induction l with
    | nil=>simp
    | cons a l ih=>rw [List.flatMap_cons,List.length_append,List.length_cons,Nat.succ_mul]; have:=hf a; omega
  have h:=this (List.range n) (fun a=>((List.range n).filter (g a)).map (fun b:Nat=>((a:Int),(b:Int),()))) (fun a=>by
    rw [List.length_map]; exact Nat.le_trans (List.length_filter_le _ _) (by simp))
  rwa [List.length_range] at h
theorem pairsF_congr {n:Nat} {g g':Nat→Nat→Bool} (h:∀ a b,a<n→b<n→g a b=g' a b):pairsF n g=pairsF n g':=by
  have key:∀ (l:List Nat),(∀ a∈l,a<n)→l.flatMap (fun a:Nat=>((List.range n).filter (g a)).map (fun b:Nat=>((a:Int),(b:Int),())))=l.flatMap (fun a:Nat=>((List.range n).filter (g' a)).map (fun b:Nat=>((a:Int),(b:Int),()))):=by
    intro l hl
    induction l with
    | nil=>rfl
    | cons a l ih =>
      rw [List.flatMap_cons,List.flatMap_cons,ih (fun x hx=>hl x (by simp [hx])),List.filter_congr (fun b hb=>h a b (hl a (by simp)) (List.mem_range.1 hb))]
  exact key _ (fun a ha=>List.mem_range.1 ha)
/-! those with nobody between -/
def coverB (n:Nat) (f:Nat→Nat→Bool) (a b:Nat):Bool:=f a b && !((List.range n).any (fun k=>f a k && f k b))
section
variable {n:Nat} {l:List PairD} (h:PosOk n l)
include h
theorem pos_rel:∀ a b,relP l a b=true→a<n∧b<n:=rel_out h.rng
theorem pos_trans {a b c:Nat} (h1:wk (relP l) n a b=true) (h2:wk (relP l) n b c=true):wk (relP l) n a c=true:=wk_trans (wk_out (pos_rel h) h1).2 h1 h2
theorem pos_irr (k:Nat):wk (relP l) n k k=false:=by
  by_cases hk:k<n
  · exact h.irr k hk
  · exact wk_no (pos_rel h) (fun c=>hk c.1)
def coverL (n:Nat) (l:List PairD):List PairD:=pairsF n (coverB n (wk (relP l) n))
omit h in
def gap (n:Nat) (f:Nat→Nat→Bool) (a b:Nat):Nat:=((List.range n).filter (fun k=>f a k && f k b)).length
end
end Go.Proofs.Ytegigiecamjobaa
