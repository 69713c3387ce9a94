/- The plain law of snap: what is kept in sum. -/
import Derived.Test.YtgmbfnlhmnpciaaSnaP
namespace Go.Proofs.Ytgmbfnlhmnpciaa
open Go.Ex
set_option maxRecDepth 100000
def sm (f:Nat→Int):Nat→Int
  | 0=>0
  | n+1=>sm f n+f n
theorem sm_congr {f g:Nat→Int}:∀ {n:Nat},(∀ i,i<n→f i=g i)→sm f n=sm g n
  | 0,_=>rfl
  | n+1,h=>by rw [sm,sm,sm_congr (fun i hi=>h i (by omega)),h n (by omega)]
theorem sm_upd {f g:Nat→Int} {a:Nat}:∀ {n:Nat},a<n→(∀ i,i<n→i≠a→g i=f i)→sm g n=sm f n+(g a - f a)
  | 0,h,_=>by omega
  | n+1,h,hf=>by
    rw [sm,sm]
    by_cases e:a=n
    · subst e
      rw [sm_congr (f:=g) (g:=f) (fun i hi=>hf i (by omega) (by omega))]
      omega
    · rw [sm_upd (f:=f) (g:=g) (by omega) (fun i hi hn=>hf i (by omega) hn),hf n (by omega) (by omega)]
      omega
def sm2 (F:Nat→Nat→Int) (n:Nat):Int:=sm (fun i=>sm (F i) n) n
theorem sm2_congr {F G:Nat→Nat→Int} {n:Nat} (h:∀ i j,i<n→j<n→F i j=G i j):sm2 F n=sm2 G n :=
  sm_congr (fun i hi=>sm_congr (fun j hj=>h i j hi hj))
theorem sm2_upd {F G:Nat→Nat→Int} {a b n:Nat} (ha:a<n) (hb:b<n) (h:∀ i j,i<n→j<n→¬ (i=a∧j=b)→G i j=F i j):sm2 G n=sm2 F n+(G a b - F a b):=by
  unfold sm2
  rw [sm_upd (f:=fun i=>sm (F i) n) ha (fun i hi hn=>sm_congr (fun j hj=>h i j hi hj (fun e=>hn e.1)))]
  have:=sm_upd (f:=F a) (g:=G a) hb (fun j hj hn=>h a j ha hj (fun e=>hn e.2))
  simp only [this]
  omega
def ws:List Int→Int
  | []=>0
  | x::w=>mx x+ws w
def pw:List Int→Int
  | []=>0
  | x::w=>if x=-1 then 0 else x+pw w
theorem ws_app {x:Int}:∀ {w:List Int},ws (w++[x])=ws w+mx x
  | []=>by simp [ws]
  | y::w=>by rw [List.cons_append,ws,ws,ws_app (w:=w)]; omega
theorem pw_app_in {x:Int}:∀ {w:List Int},-1∈w→pw (w++[x])=pw w
  | y::w,h=>by
    rw [List.cons_append,pw,pw]
    split
    · rfl
    · rename_i hy
      rw [pw_app_in (w:=w) (by rcases List.mem_cons.1 h with h|h; exact absurd h.symm hy; exact h)]
theorem pw_app_out {x:Int}:∀ {w:List Int},-1∉w→pw (w++[x])=pw w+(if x=-1 then 0 else x)
  | [],_=>by simp [pw]
  | y::w,h=>by
    rw [List.cons_append,pw,pw,if_neg (fun e=>h (by rw [e]; simp)),if_neg (fun e=>h (by rw [e]; simp)),pw_app_out (w:=w) (fun e=>h (List.mem_cons_of_mem _ e))]
    omega
def lp (l:LaneD):Int:=l.2.2.1+if l.2.1=true then 0 else pw l.1
structure SI (n:Nat) (T:Int) (N H:List Int) (R:List Bool) (L:List (List LaneD)):Prop where
  all:sm (fun i=>N.getD i 0) n+sm2 (fun i j=>ws (laneAt L i j).1) n=T
  rec_:sm (fun i=>if R.getD i false=true then H.getD i 0 else N.getD i 0) n+sm2 (fun i j=>lp (laneAt L i j)) n=T
  mark:∀ i j,i<n→j<n→i≠j→(-1∈(laneAt L i j).1↔R.getD i false=true∧(laneAt L i j).2.1=false)∧(laneAt L i j).1.count (-1)≤1
  shut:∀ i j,i<n→j<n→i≠j→(laneAt L i j).2.1=true→R.getD i false=true∧R.getD j false=true
  diag:∀ i,i<n→laneAt L i i=l0
def SIg (n:Nat) (T:Int) (g:GameD):Prop:=SI n T g.1 g.2.1 g.2.2.1 g.2.2.2.1
theorem SI.record {n k:Nat} {T:Int} {g:GameD} (h:SIg n T g) (hg:GW n k g) {p:Nat} (hp:p<n):SIg n T (recF g p):=by
  obtain ⟨N,H,R,L,⟨⟩⟩:=g
  have hd:recF (N,H,R,L,()) p=if R.getD p false=true then (N,H,R,L,()) else (N,H.set p (N.getD p 0),R.set p true,markTo L p N.length,()):=rfl
  rw [hd]
  split
  · exact h
  rename_i hr
  have h1:N.length=n:=hg.ln
  have h2:H.length=n:=hg.lh
  have h3:R.length=n:=hg.lr
  have h4:L.length=n:=hg.ll
  have h5:(L.getD p []).length=n:=hg.row p hp
  have hm:=fun i j=>laneAt_mark (L:=L) (p:=p) (by omega) i j N.length (by omega)
  have h:SI n T N H R L:=h
  have nomark:∀ j,j<n→j≠p→-1∉(laneAt L p j).1:=fun j hj hn hin=>hr ((h.mark p j hp hj (Ne.symm hn)).1.1 hin).1
  have hpc:∀ j,j<n→j≠p→(laneAt L p j).2.1=false:=fun j hj hn=>by
    cases e:(laneAt L p j).2.1 with
    | false=>rfl
    | true=>exact absurd (h.shut p j hp hj (Ne.symm hn) e).1 hr
  have hR:∀ i,(R.set p true).getD i false=if i=p then true else R.getD i false:=fun i=>getD_set (by omega)
  show SI n T N (H.set p (N.getD p 0)) (R.set p true) (markTo L p N.length)
  refine ⟨?_,?_,?_,?_,?_⟩
  · rw [← h.all]
    congr 1
    refine sm2_congr (fun i j hi hj=>?_)
    rw [hm]
    split
    · rename_i c; obtain ⟨rfl,c2,c3⟩:=c
      rw [ws_app,mx,if_pos (by decide)]; omega
    · rfl
  · rw [← h.rec_]
    congr 1
    · refine sm_congr (fun i hi=>?_)
      rw [hR,getD_set (by omega)]
      by_cases e:i=p
      · subst e; rw [if_pos rfl,if_pos rfl,if_pos rfl,if_neg hr]
      · rw [if_neg e,if_neg e]
    · refine sm2_congr (fun i j hi hj=>?_)
      rw [hm]
      split
      · rename_i c; obtain ⟨rfl,c2,c3⟩:=c
        unfold lp
        dsimp only
        rw [hpc j hj c3,pw_app_out (nomark j hj c3)]
        simp
      · rfl
  · intro i j hi hj hij
    obtain ⟨m1,m2⟩:=h.mark i j hi hj hij
    rw [hm,hR]
    by_cases c:i=p∧j<N.length∧j≠p
    · rw [if_pos c]
      obtain ⟨rfl,c2,c3⟩:=c
      refine ⟨⟨fun _=>⟨if_pos rfl,hpc j hj c3⟩,fun _=>List.mem_append_right _ (by simp)⟩,?_⟩
      dsimp only
      rw [List.count_append,List.count_eq_zero_of_not_mem (nomark j hj c3)]
      simp
    · rw [if_neg c,if_neg (by omega)]
      exact ⟨m1,m2⟩
  · intro i j hi hj hij hc
    rw [hm] at hc
    rw [hR,hR]
    by_cases c:i=p∧j<N.length∧j≠p
    · rw [if_pos c] at hc
      obtain ⟨rfl,c2,c3⟩:=c
      have hc:(laneAt L i j).2.1=true:=hc
      rw [hpc j hj c3] at hc; cases hc
    · rw [if_neg c] at hc
      obtain ⟨q1,q2⟩:=h.shut i j hi hj hij hc
      refine ⟨by split; rfl; exact q1,by split; rfl; exact q2⟩
  · intro i hi
    rw [hm,if_neg (by omega)]
    exact h.diag i hi
end Go.Proofs.Ytgmbfnlhmnpciaa
