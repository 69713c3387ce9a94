/- PosetSquare. No condition. -/
import Derived.Test.YtegigiecamjobaaPosS
namespace Go.Proofs.Ytegigiecamjobaa
open Go.Ex Go.Sort
set_option maxRecDepth 100000
theorem chainsR_code (n:Int) (l:List PairD):(chainsR n l).2.1=pcheck n l:=by
  rw [chainsR]; split
  · rfl
  · rename_i h; exact (Decidable.not_not.1 h).symm
theorem levelsR_code (n:Int) (l:List PairD):(levelsR n l).2.1=pcheck n l:=by
  rw [levelsR]; split
  · rfl
  · rename_i h; exact (Decidable.not_not.1 h).symm
theorem apartR_code (n:Int) (l:List PairD):(apartR n l).2.1=pcheck n l:=by
  rw [apartR]; split
  · rfl
  · rename_i h; exact (Decidable.not_not.1 h).symm
theorem cPosetSquare_valid:cPosetSquare.Valid Try.prog 17:=by
  refine Ctr.valid_of EPosetSquare_ok rfl rfl Try.func17 (c:=bodyOf Try.prog 17) rfl rfl FPosetSquare_ok rfl ?_
  rintro ⟨⟨(n0:Int),(l:List PairD),⟨⟩⟩,⟨⟩⟩ - -
  refine exec_sound (n:=1000) EPosetSquare_ok FPosetSquare_ok ?_
  refine holds_of_eq (EPosetSquare_t n0 l) ?_
  rw [chainsR_code,levelsR_code,apartR_code]
  simp only [holds_cond,Tree.holds,true_and,true_implies,decide_eq_true_eq,decide_eq_false_iff_not,Bool.not_eq_true',Bool.not_eq_false',Int.toNat_natCast,inK_i64,List.length_set,List.length_cons,List.length_nil]
  refine ⟨fun _=>⟨yesd trivial,fun h=>absurd trivial h⟩,fun h0=>?_⟩
  have h0:=Decidable.not_not.1 h0
  obtain ⟨n,rfl,hp⟩:=pcheck_ok h0
  obtain ⟨M,hM,ec,hcnt,_,⟨A,ea,hA1,hA2,_⟩,hsq⟩:=pos_facts hp h0
  have hn:=hp.n20
  have hbd:=rowsF_len (levF_bd (R:=wk (relP l) n) (n:=n) (orderN (wk (relP l) n) n n [])) n
  have hol:(orderN (wk (relP l) n) n n []).length≤n:=by
    obtain ⟨hlv,_⟩:=lev_ok hp
    have:=nodup_sub (l:=orderN (wk (relP l) n) n n []) (S:=(List.range n).map (fun a:Nat=>(a:Int))) hlv.nodup (fun x hx=>by
      have:=hlv.rng x hx
      exact List.mem_map.2 ⟨x.toNat,List.mem_range.2 (by omega),by omega⟩)
    simpa using this
  have hll:(levelsR (n:Int) l).1.length≤401:=by
    rw [levelsR,if_neg (by rw [h0]; simp),Int.toNat_natCast]
    have h1:n*(orderN (wk (relP l) n) n n []).length≤20*20:=Nat.mul_le_mul hn (by omega)
    show (rowsF (levF (wk (relP l) n) n (orderN (wk (relP l) n) n n [])) n).length≤401
    omega
  have hle:(chainsTo n M n).length*(levelsR n l).1.length≤A.length*(levelsR n l).1.length:=Nat.mul_le_mul_right _ hA1
  have hup:A.length*(levelsR n l).1.length≤20*401:=Nat.mul_le_mul (by omega) hll
  rw [ec,ea]
  show _
  generalize (levelsR (n:Int) l).1.length=K at *
  have e1:(((chainsTo n M n).length:Int)*(K:Int))=(((chainsTo n M n).length*K:Nat):Int):=by rw [Int.natCast_mul]
  have e2:((A.length:Int)*(K:Int))=((A.length*K:Nat):Int):=by rw [Int.natCast_mul]
  rw [e1,e2]
  generalize (chainsTo n M n).length*K=P at *
  generalize A.length*K=Q at *
  refine ⟨fun _=>⟨fun _=>⟨by omega,fun _=>⟨fun _=>⟨by omega,fun _=>yesd (by omega)⟩,fun h=>absurd (by omega) h⟩⟩,fun h=>absurd h0 h⟩,fun h=>absurd h0 h⟩
end Go.Proofs.Ytegigiecamjobaa
