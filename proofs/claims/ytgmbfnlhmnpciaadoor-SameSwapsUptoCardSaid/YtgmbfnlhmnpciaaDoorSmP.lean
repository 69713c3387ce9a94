/- Plain facts on commands and logs: what SameKey, SameSwaps, SameLine and SamePrefix say. -/
import Derived.Test.YtgmbfnlhmnpciaaDoorSmD
namespace Go.Proofs.YtgmbfnlhmnpciaaDoor
open Go.Ex
set_option maxRecDepth 100000
theorem swaps_comm (a b:StrD):swapsF a b=swapsF b a:=by
  unfold swapsF
  generalize readF a=x
  generalize readF b=y
  obtain ⟨⟨x1,x2,x3,⟨⟩⟩,xe⟩:=x
  obtain ⟨⟨y1,y2,y3,⟨⟩⟩,ye⟩:=y
  simp only
  by_cases h1:xe≠0
  · rw [if_pos h1]
    by_cases h2:ye≠0
    · rw [if_pos h2]
    · rw [if_neg h2,if_pos h1]
  rw [if_neg h1]
  by_cases h2:ye≠0
  · rw [if_pos h2,if_pos h2]
  rw [if_neg h2,if_neg h2,if_neg h1]
  by_cases h3:((x1,x2,x3,()):CmdD)=(y1,y2,y3,())
  · rw [if_pos h3,if_pos (show ((y1,y2,y3,PUnit.unit):CmdD)=(x1,x2,x3,PUnit.unit) from h3.symm)]
  rw [if_neg h3,if_neg (show ¬ ((y1,y2,y3,PUnit.unit):CmdD)=(x1,x2,x3,PUnit.unit) from fun h=>h3 h.symm)]
  by_cases h4:(x1=4∧x3=y2)∨(y1=4∧y3=x2)
  · rw [if_pos h4,if_pos (show (y1=4∧y3=x2)∨(x1=4∧x3=y2) from h4.symm),Bool.or_comm]
  rw [if_neg h4,if_neg (show ¬ ((y1=4∧y3=x2)∨(x1=4∧x3=y2)) from fun h=>h4 h.symm)]
  by_cases h5:x2≠y2
  · rw [if_pos h5,if_pos (show y2≠x2 from Ne.symm h5)]
  · rw [if_neg h5,if_neg (show ¬ y2≠x2 from fun h=>h5 (Ne.symm h)),Bool.and_comm]
theorem set_get {v:List Int} {i j:Nat} {x:Int} (hi:i<v.length):(v.set i x).getD j 0=if j=i then x else v.getD j 0:=by
  simp only [List.getD_eq_getElem?_getD,List.getElem?_set]
  by_cases h:i=j
  · subst h; simp [hi]
  · rw [if_neg h,if_neg (Ne.symm h)]
def cellF (v:List Int) (c:CmdD):Int :=
  if c.1=1 then clampF c.2.2.1 else if c.1=2 then clampF (farF (v.getD c.2.1.toNat 0)+clampF c.2.2.1)
  else if c.1=3 then max (v.getD c.2.1.toNat 0) (clampF c.2.2.1) else if c.1=4 then v.getD c.2.2.1.toNat 0 else v.getD c.2.1.toNat 0
theorem set_self {v:List Int} {i:Nat}:v.set i (v.getD i 0)=v:=by
  apply List.ext_getElem?
  intro j
  rw [List.getElem?_set]
  split
  · rename_i h; subst h
    split
    · rename_i h2; rw [List.getD_eq_getElem?_getD,List.getElem?_eq_getElem h2]; rfl
    · rename_i h2; rw [List.getElem?_eq_none (by omega)]
  · rfl
theorem run_cell (v:List Int) (c:CmdD):runF v c=v.set c.2.1.toNat (cellF v c):=by
  unfold runF cellF
  split
  · rfl
  split
  · rfl
  split
  · rfl
  split
  · rfl
  · rw [set_self]
def CmdOk (c:CmdD):Prop:=(0≤c.2.1∧c.2.1<10)∧(c.1=4→0≤c.2.2.1∧c.2.2.1<10)∧1≤c.1
theorem cell_other {v:List Int} {x y:CmdD} {z:Int} (hx:CmdOk x) (hy:CmdOk y) (hk:x.2.1≠y.2.1) (hn:¬ (y.1=4∧y.2.2.1=x.2.1)) (hl:v.length=10):cellF (v.set x.2.1.toNat z) y=cellF v y:=by
  obtain ⟨⟨a1,a2⟩,-,-⟩:=hx
  obtain ⟨⟨b1,b2⟩,b3,-⟩:=hy
  have g1:(v.set x.2.1.toNat z).getD y.2.1.toNat 0=v.getD y.2.1.toNat 0:=by rw [set_get (by omega),if_neg (by omega)]
  unfold cellF
  rw [g1]
  split
  · rfl
  split
  · rfl
  split
  · rfl
  split
  · rename_i h4
    have:=b3 h4
    rw [set_get (by omega),if_neg (fun h=>hn ⟨h4,by omega⟩)]
  · rfl
theorem run_idle {v:List Int} {x:CmdD} (h:x.1=4∧x.2.2.1=x.2.1):runF v x=v:=by
  rw [run_cell]
  unfold cellF
  rw [if_neg (by omega),if_neg (by omega),if_neg (by omega),if_pos h.1,h.2,set_self]
theorem swap_run {v:List Int} {x y:CmdD} (hx:CmdOk x) (hy:CmdOk y) (hl:v.length=10)
    (h:x=y∨(x.1=4∧x.2.2.1=x.2.1)∨(y.1=4∧y.2.2.1=y.2.1)∨(¬ ((x.1=4∧x.2.2.1=y.2.1)∨(y.1=4∧y.2.2.1=x.2.1))∧(x.2.1≠y.2.1∨(x.1=3∧y.1=3)))):runF (runF v x) y=runF (runF v y) x:=by
  rcases h with rfl|h|h|⟨h1,h2⟩
  · rfl
  · rw [run_idle h,run_idle h]
  · rw [run_idle h,run_idle h]
  · by_cases hk:x.2.1=y.2.1
    · obtain ⟨e1,e2⟩:x.1=3∧y.1=3:=by rcases h2 with h2|h2; exact absurd hk h2; exact h2
      have hc:∀ (w:List Int) (c:CmdD),c.1=3→runF w c=w.set c.2.1.toNat (max (w.getD c.2.1.toNat 0) (clampF c.2.2.1)):=fun w c h=>by
        rw [run_cell]; unfold cellF; rw [if_neg (by omega),if_neg (by omega),if_pos h]
      rw [hc _ _ e1,hc _ _ e2,hc _ _ e2,hc _ _ e1,hk]
      have hi:y.2.1.toNat<v.length:=by have:=hy.1; omega
      rw [set_get hi,set_get hi,if_pos rfl,if_pos rfl,List.set_set,List.set_set]
      congr 1
      omega
    · rw [run_cell (runF v x),run_cell (runF v y),run_cell v x,run_cell v y,cell_other hx hy hk (fun h=>h1 (.inr h)) hl,cell_other hy hx (Ne.symm hk) (fun h=>h1 (.inl h)) hl]
      refine List.set_comm _ _ ?_
      have:=hx.1; have:=hy.1
      omega
theorem swaps_step {a b:StrD} (h:swapsF a b=true) {p:List Int×Int} (hl:p.1.length=10):stepR (stepR p a) b=stepR (stepR p b) a:=by
  unfold stepR
  by_cases ha:(readF a).2=0
  · by_cases hb:(readF b).2=0
    · rw [if_pos ha,if_pos hb,if_pos hb,if_pos ha]
      refine Prod.ext ?_ rfl
      refine swap_run (read_ok ha) (read_ok hb) hl ?_
      unfold swapsF at h
      simp only at h
      rw [if_neg (by omega),if_neg (by omega)] at h
      by_cases h3:(readF a).1=(readF b).1
      · exact .inl h3
      rw [if_neg h3] at h
      by_cases h4:((readF a).1.1=4∧(readF a).1.2.2.1=(readF b).1.2.1)∨((readF b).1.1=4∧(readF b).1.2.2.1=(readF a).1.2.1)
      · rw [if_pos h4] at h
        simp only [Bool.or_eq_true,Bool.and_eq_true,decide_eq_true_eq] at h
        rcases h with h|h
        · exact .inr (.inl h)
        · exact .inr (.inr (.inl h))
      rw [if_neg h4] at h
      refine .inr (.inr (.inr ⟨h4,?_⟩))
      by_cases h5:(readF a).1.2.1=(readF b).1.2.1
      · rw [if_neg (fun h=>h h5)] at h
        simp only [Bool.and_eq_true,decide_eq_true_eq] at h
        exact .inr h
      · exact .inl h5
    · rw [if_pos ha,if_neg hb,if_neg hb,if_pos ha]
  · by_cases hb:(readF b).2=0
    · rw [if_neg ha,if_pos hb,if_pos hb,if_neg ha]
    · rw [if_neg ha,if_neg hb,if_neg hb,if_neg ha]
end Go.Proofs.YtgmbfnlhmnpciaaDoor
