/- Finite orders turned round: the plain laws. No condition but those named. -/
import Derived.Test.YtegigiecamjobaaPosX
namespace Go.Proofs.Ytegigiecamjobaa
open Go.Ex Go.Sort
set_option maxRecDepth 100000
def flipP (q:PairD):PairD:=(q.2.1,q.1,())
theorem Match.mono {l l' P:List PairD} (h:Match l P) (hs:∀ q∈l,q∈l'):Match l' P:=⟨fun q hq=>hs q (h.sub q hq),h.one,h.two⟩
theorem lev_ok {n:Nat} {l:List PairD} (hp:PosOk n l):LvOk (wk (relP l) n) n (orderN (wk (relP l) n) n n []) (levF (wk (relP l) n) n (orderN (wk (relP l) n) n n []))∧∀ x:Nat,x<n→(x:Int)∈orderN (wk (relP l) n) n n []:=by
  have hL:=order_lv (fun x y z=>pos_trans hp (a:=x) (b:=y) (c:=z)) (fun x=>pos_irr hp x) (fun x y=>wk_out (pos_rel hp)) n [] (by simp) LvOk.start
  generalize wk (relP l) n=R at *
  generalize orderN R n n []=ord at *
  obtain ⟨hol,hL⟩:=hL
  refine ⟨hL,fun x hx=>Classical.byContradiction (fun hno=>?_)⟩
  have h1:((x:Int)::ord).Nodup:=List.nodup_cons.2 ⟨hno,hL.nodup⟩
  have:=nodup_sub h1 (S:=(List.range n).map (fun a:Nat=>(a:Int))) (fun y hy=>by
    rcases List.mem_cons.1 hy with rfl|hy
    · exact List.mem_map.2 ⟨x,List.mem_range.2 hx,rfl⟩
    · have:=hL.rng y hy
      exact List.mem_map.2 ⟨y.toNat,List.mem_range.2 (by omega),by omega⟩)
  rw [List.length_cons,List.length_map,List.length_range] at this
  omega
theorem rows_max {lev:List Int} (h0:∀ x:Nat,0≤lev.getD x 0):∀ m,(∀ b,b<m→lev.getD b 0+1≤((rowsF lev m).length:Int))∧((rowsF lev m).length=0∨∃ b,b<m∧lev.getD b 0+1=((rowsF lev m).length:Int))
  | 0=>⟨fun b hb=>by omega,.inl rfl⟩
  | m+1=>by
    obtain ⟨h1,h2⟩:=rows_max h0 m
    have hm:=h0 m
    rw [rowsF_succ,rowS_len]
    refine ⟨fun b hb=>?_,?_⟩
    · by_cases e:b=m
      · subst e; omega
      · have:=h1 b (by omega); omega
    · right
      by_cases e:(rowsF lev m).length≤(lev.getD m 0).toNat+1
      · exact ⟨m,by omega,by omega⟩
      · rcases h2 with h2|⟨b,h3,h4⟩
        · omega
        · exact ⟨b,by omega,by omega⟩
end Go.Proofs.Ytegigiecamjobaa
