/- slices.Insert at api.Parcel: one value, ahead of the end, no room: a new row. -/
import Derived.Test.YtekbamiaenbhjaaInsA
namespace Go.Proofs.Ytekbamiaenbhjaa
open Go Go.Shelf Go.RowKit Go.Lib
set_option linter.unusedVariables false
set_option linter.unusedSimpArgs false
theorem a9x {z:Array Value} {k m:Nat} (h:z.size=k):(Builtin.zeroCells z m).size=m*k:=by
  simp [Builtin.zeroCells,h]
set_option maxHeartbeats 4000000 in
set_option maxRecDepth 100000 in
theorem b8P (b off n c i vb voff vc:Nat) (cs vs:List Value) (w:World) (hi:i<n) (hnc:n≤c) (hroom:c<n+1) (hbig:(n+1)*24≤140737488355328)
    (hcl:cs.length=n*2) (hvl:vs.length=2)
    (hcs:∀ j v,cs[j]?=some v→w.cell? ⟨b,off+j,none⟩=some v)
    (hvs:∀ j v,vs[j]?=some v→w.cell? ⟨vb,voff+j,none⟩=some v) (h1c:∀ v∈cs,v.oneCell'=true) (h1v:∀ v∈vs,v.oneCell'=true) :
    Calls Try.prog 160 #[.slice (some ⟨b,off,none⟩) n c,.int .i64 i,.slice (some ⟨vb,voff,none⟩) 1 vc] w fun e w' =>
      ∃ G Z,n+1≤G∧G≤maxLen∧Z.size=(G - i)*2∧e=.returned (.slice (some ⟨w.heap.size,0,none⟩) (n+1) G) ∧
      w'=(((w.alloc (.cells ((cs.take (i*2)).toArray++Z) 112)).drew.setCells w.heap.size (i*2) vs).drew).setCells w.heap.size ((i+1)*2) (cs.drop (i*2)):=by
  have hsz:(Try.prog.info? 112).map (·.size)=some 2:=by kernel_rfl
  have hal:(Try.prog.info? 112).map (fun i=>(i.size,i.bytes,i.zero.map (fun z=>z.cells.size)))=some (2,24,some 2):=by kernel_rfl
  have mixed:Try.prog.follows .mixedOrders=true:=by kernel_rfl
  obtain ⟨i0,hi0,hzs,hzb,z,hz0,hzc⟩:∃ i0,Try.prog.info? 112=some i0∧i0.size=2∧i0.bytes=24∧∃ z,i0.zero=some z∧z.cells.size=2:=by
    cases h:Try.prog.info? 112 with
    | none=>rw [h] at hal; cases hal
    | some i0 =>
      rw [h] at hal
      simp only [Option.map_some,Option.some.injEq,Prod.mk.injEq,Option.map_eq_some_iff] at hal
      obtain ⟨h1,h2,z,h3,h4⟩:=hal
      exact ⟨i0,rfl,h1,h2,z,h3,h4⟩
  have hz2:¬ ((i:Int)=(n:Int)):=by omega
  have hz3:(c:Int)<(n:Int)+(1:Int):=by omega
  have hbw:b<w.heap.size:=block_lt_of_cell (hcs 0 _ (List.getElem?_eq_getElem (by omega)))
  have hvw:vb<w.heap.size:=block_lt_of_cell (hvs 0 _ (List.getElem?_eq_getElem (by omega)))
  have hkk:(n:Int)+(1:Int) - (i:Int)=((n+1 - i:Nat):Int):=by omega
  have hik:i+(n+1 - i)=n+1:=by omega
  have htl:(cs.take (i*2)).length=i*2:=by rw [List.length_take,hcl]; omega
  have hold:(Builtin.firstCells i0.size i (.slice (some ⟨b,off,none⟩) i c)).run Try.prog w.drew=.ok (cs.take (i*2)).toArray w.drew:=by
    rw [hzs]
    exact run_firstCells_some w.drew 2 i ⟨b,off,none⟩ i c (cs.take (i*2)) htl (fun j v hj=>by
      rw [Addr.add_lit]
      rw [List.getElem?_take] at hj
      split at hj
      · exact hcs j v hj
      · cases hj)
  obtain ⟨G,hG⟩:∃ G,G=grownCap w (n+1) c 112:=⟨_,rfl⟩
  have hGn:n+1≤G:=by rw [hG]; exact grownCap_ge w _ _ _
  have hGm:G≤maxLen:=by
    rw [hG]; exact grownCap_le_maxLen w (n+1) c 112 (by unfold maxLen; omega)
  have hG63:G≤9223372036854775807:=hGm
  obtain ⟨Z,hZ⟩:∃ Z:Array Value,Z=Builtin.zeroCells z.cells (n+1 - i)++Builtin.zeroCells z.cells (G - (n+1)):=⟨_,rfl⟩
  have hZs:Z.size=(G - i)*2:=by rw [hZ,Array.size_append,a9x hzc,a9x hzc]; omega
  have hrz:∀ ty,(Builtin.append_ #[99,3] ty #[.slice (some ⟨b,off,none⟩) i c,.int .i64 ((n:Int)+(1:Int) - (i:Int))]).run Try.prog w =
      .ok (.slice (some ⟨w.heap.size,0,none⟩) (n+1) G) (w.drew.alloc (.cells ((cs.take (i*2)).toArray++Z) 112)):=fun ty=>by
    have h:=Lib.run_append_grow_zeros w 99 3 ty 112 i0 z .i64 .i64 Try.underlying99 Try.underlying3 hi0 hz0 (some ⟨b,off,none⟩) i c (cs.take (i*2)) hold (n+1 - i) (by omega) (by omega) (by omega) (by omega) (by rw [hzb]; omega) (by rw [hzb,hik]; exact growslice_fits hroom hbig)
    rw [hik,← hG,Array.append_assoc,← hZ] at h
    rw [hkk]
    exact h
  obtain ⟨ROW,hROW⟩:∃ ROW:Array Value,ROW=(cs.take (i*2)).toArray++Z:=⟨_,rfl⟩
  rw [← hROW] at hrz
  have hRl:(n+1)*2≤ROW.size:=by
    rw [hROW,Array.size_append,hZs,List.size_toArray,htl]
    omega
  obtain ⟨W1,hW1⟩:∃ W1,W1=w.drew.alloc (.cells ROW 112):=⟨_,rfl⟩
  rw [← hW1] at hrz
  have hN:∀ j,j<(n+1)*2→(W1.cell? ⟨w.heap.size,j,none⟩).isSome=true:=fun j hj=>by
    rw [hW1,World.cell?_alloc_at (w:=w.drew) ROW _ w.heap.size j rfl,Array.getElem?_eq_getElem (by omega)]; rfl
  have hNf:∀ j,W1.frozen? ⟨w.heap.size,j,none⟩=false:=fun j=>by rw [hW1]; exact World.frozen?_alloc_at (w:=w.drew) ROW _ w.heap.size j rfl
  have hOb:∀ j v,w.cell? ⟨b,j,none⟩=some v→W1.cell? ⟨b,j,none⟩=some v:=fun j v h=>by rw [hW1,World.cell?_alloc_past (w:=w.drew) _ b j hbw]; exact h
  have hOv:∀ j v,w.cell? ⟨vb,j,none⟩=some v→W1.cell? ⟨vb,j,none⟩=some v:=fun j v h=>by rw [hW1,World.cell?_alloc_past (w:=w.drew) _ vb j hvw]; exact h
  have hcpA:∀ (W:World),(∀ x,W.cell? x=W1.cell? x)→(∀ x,W.frozen? x=W1.frozen? x)→∀ ty dc,(Builtin.copy_ #[99,99] ty #[.slice (some ⟨w.heap.size,i*2,none⟩) (n+1 - i) dc,.slice (some ⟨vb,voff,none⟩) 1 vc]).run Try.prog W=.ok (goInt (Nat.min 1 (n+1 - i))) (W.setCells w.heap.size (i*2) vs):=fun W hWc hWf ty dc =>
    a2c W _ _ ty 112 2 w.heap.size (i*2) (n+1 - i) dc ⟨vb,voff,none⟩ 1 vc vs Try.underlying99 hsz (by rw [hvl]; simp only [Nat.min_def]; split<;>omega)
      (fun j v hj=>by rw [Addr.add_lit,hWc]; exact hOv _ v (hvs j v hj))
      (fun j hj=>by rw [hWc]; exact hN _ (by omega)) (fun j hj=>by rw [hWf]; exact hNf _) h1v
  have hGi:¬ (G=i):=by omega
  have hGim:¬ (G=i+1):=by omega
  have hci:¬ (c=i):=by omega
  have hbN:b≠w.heap.size:=by omega
  have hdl:(cs.drop (i*2)).length=(n - i)*2:=by rw [List.length_drop,hcl]; omega
  have hcpB:∀ (W:World),(∀ x,W.cell? x=(W1.setCells w.heap.size (i*2) vs).cell? x)→(∀ x,W.frozen? x=(W1.setCells w.heap.size (i*2) vs).frozen? x)→∀ ty dc sc,(Builtin.copy_ #[99,99] ty #[.slice (some ⟨w.heap.size,(i+1)*2,none⟩) (n - i) dc,.slice (some ⟨b,off+i*2,none⟩) (n - i) sc]).run Try.prog W=.ok (goInt (Nat.min (n - i) (n - i))) (W.setCells w.heap.size ((i+1)*2) (cs.drop (i*2))):=fun W hWc hWf ty dc sc =>
    a2c W _ _ ty 112 2 w.heap.size ((i+1)*2) (n - i) dc ⟨b,off+i*2,none⟩ (n - i) sc (cs.drop (i*2)) Try.underlying99 hsz (by rw [hdl]; simp only [Nat.min_def]; split<;>omega)
      (fun j v hj=>by
        rw [Addr.add_lit,hWc,World.cell?_setCells_out _ _ _ _ _ (fun h _=>absurd h hbN),Nat.add_assoc]
        exact hOb _ v (hcs (i*2+j) v (by rwa [List.getElem?_drop] at hj)))
      (fun j hj=>by rw [hWc]; exact Z6 _ _ _ _ (fun t ht=>hN _ (by omega)) _ (hN _ (by omega)))
      (fun j hj=>by rw [hWf,World.frozen?_setCells]; exact hNf _) (fun v hv=>h1c v (List.mem_of_mem_drop hv))
  subst hW1
  have hE1:∀ x,((w.alloc (.cells ROW 112)).drew).cell? x=(w.drew.alloc (.cells ROW 112)).cell? x:=fun x=>rfl
  have hE2:∀ x,((w.alloc (.cells ROW 112)).drew).frozen? x=(w.drew.alloc (.cells ROW 112)).frozen? x:=fun x=>rfl
  have hF1:∀ x,(((w.alloc (.cells ROW 112)).drew.setCells w.heap.size (i*2) vs).drew).cell? x=((w.drew.alloc (.cells ROW 112)).setCells w.heap.size (i*2) vs).cell? x:=fun x=>rfl
  have hF2:∀ x,(((w.alloc (.cells ROW 112)).drew.setCells w.heap.size (i*2) vs).drew).frozen? x=((w.drew.alloc (.cells ROW 112)).setCells w.heap.size (i*2) vs).frozen? x:=fun x=>rfl
  have hw1:IntKind.i64.wrap ((i:Int)+(1:Int))=(i:Int)+(1:Int):=by rw [IntKind.wrap_i64]; omega
  have hb1:(0:Int)≤(i:Int)+(1:Int):=by omega
  have hin:i≤n:=by omega
  have htn:((i:Int)+(1:Int)).toNat=i+1:=by omega
  have hb3:(i:Int)≤(n:Int):=by omega
  suffices hfin:Calls Try.prog 160 #[.slice (some ⟨b,off,none⟩) n c,.int .i64 i,.slice (some ⟨vb,voff,none⟩) 1 vc] w fun e w'=>e=.returned (.slice (some ⟨w.heap.size,0,none⟩) (n+1) G) ∧
      w'=(((w.alloc (.cells ROW 112)).drew.setCells w.heap.size (i*2) vs).drew).setCells w.heap.size ((i+1)*2) (cs.drop (i*2)) by
    refine hfin.mono ?_
    rintro e w' ⟨rfl,rfl⟩
    exact ⟨G,Z,hGn,hGm,hZs,rfl,by rw [← hROW]⟩
  clear hkk hik hold hRl hal hsz hi0 hz0 hzs hzb hzc hG hZ hROW hZs
  go_enter Try.func160,Try.ntmps160
  go_wp2_with (first
    | (at_builtin; refine Lib.wpList_append_run _ rfl _ _ _ _ rfl _ _ rfl rfl _ _ (hrz _) ?_)
    | (at_builtin; refine a2w _ rfl _ _ 99 99 rfl _ _ rfl rfl (hcpA _ hE1 hE2 _ _) ?_))
  go_region_law_o (refine a3r rfl _ _ 99 99 rfl (.slice (some ⟨w.heap.size,(i+1)*2,none⟩) (n - i) (G - (i+1))) (.slice (some ⟨b,off+i*2,none⟩) (n - i) (c - i)) (by simp [Act.eval,Act.put]) (by simp [Act.eval,Act.put]) (hcpB _ hF1 hF2 3 (G - (i+1)) (c - i)) ?_)
  go_wp2
  go_ret
  exact ⟨rfl,rfl⟩
end Go.Proofs.Ytekbamiaenbhjaa
