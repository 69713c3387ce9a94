/- What match.Cover's search marks, and how many there are (Koenig); the plain law. No condition but those named. -/
import Derived.Test.YtegigiecamjobaaCovB
namespace Go.Proofs.Ytegigiecamjobaa
open Go.Ex
set_option maxRecDepth 100000
def Out (g:GraphD) (s:LR) (x:Nat):Prop:=∀ b,b<s.2.length→edge g (x:Int) b→s.2.getD b false=true
theorem Out.grew {g:GraphD} {s s':LR} {x:Nat} (h:Out g s x) (k:Grew s s'):Out g s' x:=fun b hb he=>k.m2 b (h b (by rw [← k.l2]; exact hb) he)
def Back (g:GraphD) (s:LR) (b:Nat):Prop:=0≤g.2.1.getD b 0→s.1.getD (g.2.1.getD b 0).toNat false=true
structure Went (g:GraphD) (P:Nat→Prop) (s s':LR):Prop where
  gr:Grew s s'
  out:∀ x,s'.1.getD x false=true→s.1.getD x false=true∨P x∨Out g s' x
  back:∀ b,s'.2.getD b false=true→s.2.getD b false=true∨Back g s' b
  from_:∀ x,s'.1.getD x false=true→s.1.getD x false=true∨P x∨∃ b,s'.2.getD b false=true∧g.2.1.getD b 0=(x:Int)
  in_:∀ (A R:Nat→Prop),(∀ x,A x→∀ b,b<s.2.length→edge g (x:Int) b→R b)→(∀ b,R b→0≤g.2.1.getD b 0→A (g.2.1.getD b 0).toNat)→(∀ x,P x→A x)→(∀ x,s.1.getD x false=true→A x)→(∀ b,s.2.getD b false=true→R b) →
    (∀ x,s'.1.getD x false=true→A x)∧∀ b,s'.2.getD b false=true→R b
theorem Went.refl {g:GraphD} {P:Nat→Prop} (s:LR):Went g P s s:=⟨Grew.refl s,fun _ h=>.inl h,fun _ h=>.inl h,fun _ h=>.inl h,fun _ _ _ _ _ h1 h2=>⟨h1,h2⟩⟩
theorem Went.trans {g:GraphD} {P:Nat→Prop} {s s' s'':LR} (h:Went g P s s') (k:Went g P s' s''):Went g P s s'':=by
  refine ⟨h.gr.trans k.gr,fun x hx=>?_,fun b hb=>?_,fun x hx=>?_,fun A R h1 h2 h3 h4 h5=>?_⟩
  · rcases k.out x hx with q|q|q
    · rcases h.out x q with r|r|r
      · exact .inl r
      · exact .inr (.inl r)
      · exact .inr (.inr (r.grew k.gr))
    · exact .inr (.inl q)
    · exact .inr (.inr q)
  · rcases k.back b hb with q|q
    · rcases h.back b q with r|r
      · exact .inl r
      · exact .inr (fun h0=>k.gr.m1 _ (r h0))
    · exact .inr q
  · rcases k.from_ x hx with q|q|q
    · rcases h.from_ x q with r|r|⟨b,r1,r2⟩
      · exact .inl r
      · exact .inr (.inl r)
      · exact .inr (.inr ⟨b,k.gr.m2 b r1,r2⟩)
    · exact .inr (.inl q)
    · exact .inr (.inr q)
  · obtain ⟨a1,a2⟩:=h.in_ A R h1 h2 h3 h4 h5
    exact k.in_ A R (by rw [h.gr.l2]; exact h1) h2 h3 a1 a2
theorem rLoop_went {k:Nat} {g:GraphD} {row:List Bool} {a:Nat} (hrow:row=g.1.getD a []) (hrec:∀ (s:LR) (x:Int),ROk g s→0≤x→x<s.1.length→unseen s.1<k→Went g (fun z=>z=x.toNat) s (reachF k g s x)∧(reachF k g s x).1.getD x.toNat false=true∧Out g (reachF k g s x) x.toNat∨s.1.getD x.toNat false=true∧reachF k g s x=s) :
    ∀ {r b:Nat} {s:LR},ROk g s→b+r=s.2.length→unseen s.1<k→Went g (fun z=>z=a) s (rLoop (reachF k g) g row r b s)∧∀ y,b≤y→y<b+r→row.getD y false=true→(rLoop (reachF k g) g row r b s).2.getD y false=true
  | 0,b,s,_,_,_=>⟨Went.refl s,fun y h1 h2 _=>by omega⟩
  | r+1,b,s,hok,hb,hu=>by
    have hbl:b<s.2.length:=by omega
    rw [rLoop]
    split
    · rename_i hc
      obtain ⟨c1,c2⟩:=hc
      have hed:edge g (a:Int) b:=by rw [edge,Int.toNat_natCast,← hrow]; exact c1
      have g1:=Grew.set2 s b
      have hsb:(s.2.set b true).getD b false=true:=by rw [getD_set hbl,if_pos rfl]
      have hsx:∀ y,(s.2.set b true).getD y false=true→s.2.getD y false=true∨y=b:=by
        intro y hy
        rw [getD_set hbl] at hy
        by_cases e:y=b
        · exact .inr e
        · rw [if_neg e] at hy; exact .inl hy
      split
      · rename_i h0
        have hx:=hok.left b hbl h0
        have hok1:=hok.grew g1
        have hu1:unseen (s.1,s.2.set b true).1<k:=hu
        have hgr:=reachF_grew (k:=k) (g:=g) (s:=(s.1,s.2.set b true)) (a:=g.2.1.getD b 0)
        have hin:∀ (A R:Nat→Prop),(∀ x,A x→∀ b,b<s.2.length→edge g (x:Int) b→R b)→(∀ b,R b→0≤g.2.1.getD b 0→A (g.2.1.getD b 0).toNat)→(∀ x,x=a→A x)→(∀ b,s.2.getD b false=true→R b)→R b∧∀ y,(s.2.set b true).getD y false=true→R y:=by
          intro A R h1 h2 h3 h5
          have hb2:R b:=h1 a (h3 a rfl) b hbl hed
          refine ⟨hb2,fun y hy=>?_⟩
          rcases hsx y hy with q|rfl
          · exact h5 y q
          · exact hb2
        have step:Went g (fun z=>z=a) s (reachF k g (s.1,s.2.set b true) (g.2.1.getD b 0)):=by
          rcases hrec (s.1,s.2.set b true) (g.2.1.getD b 0) hok1 h0 hx hu1 with ⟨w,w2,w3⟩|⟨w1,w2⟩
          · refine ⟨g1.trans hgr,fun x hx=>?_,fun y hy=>?_,fun x hx=>?_,fun A R h1 h2 h3 h4 h5=>?_⟩
            · rcases w.out x hx with q|q|q
              · exact .inl q
              · subst q; exact .inr (.inr w3)
              · exact .inr (.inr q)
            · rcases w.back y hy with q|q
              · rcases hsx y q with q|rfl
                · exact .inl q
                · exact .inr (fun _=>w2)
              · exact .inr q
            · rcases w.from_ x hx with q|q|q
              · exact .inl q
              · subst q; exact .inr (.inr ⟨b,hgr.m2 b hsb,by omega⟩)
              · exact .inr (.inr q)
            · obtain ⟨r1,r2⟩:=hin A R h1 h2 h3 h5
              exact w.in_ A R (by simpa using h1) h2 (fun x hx=>by subst hx; exact h2 b r1 h0) h4 r2
          · rw [w2]
            refine ⟨g1,fun x hx=>.inl hx,fun y hy=>?_,fun x hx=>.inl hx,fun A R h1 h2 h3 h4 h5=>⟨h4,(hin A R h1 h2 h3 h5).2⟩⟩
            rcases hsx y hy with q|rfl
            · exact .inl q
            · exact .inr (fun _=>w1)
        have hok2:=hok.grew step.gr
        have hu2:unseen (reachF k g (s.1,s.2.set b true) (g.2.1.getD b 0)).1<k:=by have:=step.gr.few; omega
        obtain ⟨w,wy⟩:=rLoop_went hrow hrec (r:=r) (b:=b+1) hok2 (by rw [step.gr.l2]; omega) hu2
        refine ⟨step.trans w,fun y h1 h2 h3=>?_⟩
        by_cases e:y=b
        · subst e; exact w.gr.m2 y (hgr.m2 y hsb)
        · exact wy y (by omega) (by omega) h3
      · rename_i h0
        have step:Went g (fun z=>z=a) s (s.1,s.2.set b true):=by
          refine ⟨g1,fun x hx=>.inl hx,fun y hy=>?_,fun x hx=>.inl hx,fun A R h1 h2 h3 h4 h5=>⟨h4,fun y hy=>?_⟩⟩
          · rcases hsx y hy with q|rfl
            · exact .inl q
            · exact .inr (fun h=>absurd h h0)
          · rcases hsx y hy with q|rfl
            · exact h5 y q
            · exact h1 a (h3 a rfl) y hbl hed
        obtain ⟨w,wy⟩:=rLoop_went hrow hrec (r:=r) (b:=b+1) (hok.grew step.gr) (by rw [step.gr.l2]; omega) hu
        refine ⟨step.trans w,fun y h1 h2 h3=>?_⟩
        by_cases e:y=b
        · subst e; exact w.gr.m2 y hsb
        · exact wy y (by omega) (by omega) h3
    · rename_i hc
      obtain ⟨w,wy⟩:=rLoop_went hrow hrec (r:=r) (b:=b+1) hok (by omega) hu
      refine ⟨w,fun y h1 h2 h3=>?_⟩
      by_cases e:y=b
      · subst e
        refine w.gr.m2 y ?_
        cases h9:s.2.getD y false with
        | true=>rfl
        | false=>exact absurd ⟨h3,h9⟩ hc
      · exact wy y (by omega) (by omega) h3
theorem reachF_went:∀ {k:Nat} {g:GraphD} (s:LR) (x:Int),ROk g s→0≤x→x<s.1.length→unseen s.1<k→Went g (fun z=>z=x.toNat) s (reachF k g s x)∧(reachF k g s x).1.getD x.toNat false=true∧Out g (reachF k g s x) x.toNat∨s.1.getD x.toNat false=true∧reachF k g s x=s
  | 0,_,_,_,_,_,_,h=>by omega
  | k+1,g,s,x,hok,h0,h1,hu=>by
    by_cases hc:s.1.getD x.toNat false=true
    · refine .inr ⟨hc,?_⟩
      rw [reachF,if_pos hc]
    · rw [reachF,if_neg hc]
      have hc:s.1.getD x.toNat false=false:=by simpa using hc
      have hus:=unseen_set (l:=s.1) (b:=x.toNat) (by omega) hc
      have hok1:=hok.grew (Grew.set1 s x.toNat)
      have hrl:=hok.row x.toNat (by omega)
      obtain ⟨w,wy⟩:=rLoop_went (a:=x.toNat) (row:=g.1.getD x.toNat []) rfl (fun s x=>reachF_went (k:=k) s x) (r:=(g.1.getD x.toNat []).length) (b:=0) hok1 (by rw [hrl]; exact Nat.zero_add _) (by show unseen (s.1.set x.toNat true)<k; omega)
      have hset:∀ z,(s.1.set x.toNat true).getD z false=true→s.1.getD z false=true∨z=x.toNat:=by
        intro z hz
        rw [getD_set (by omega)] at hz
        by_cases e:z=x.toNat
        · exact .inr e
        · rw [if_neg e] at hz; exact .inl hz
      have hsx:(s.1.set x.toNat true).getD x.toNat false=true:=by rw [getD_set (by omega),if_pos rfl]
      have hout:Out g (rLoop (reachF k g) g (g.1.getD x.toNat []) (g.1.getD x.toNat []).length 0 (s.1.set x.toNat true,s.2)) x.toNat:=by
        intro b hb he
        have hl2:(rLoop (reachF k g) g (g.1.getD x.toNat []) (g.1.getD x.toNat []).length 0 (s.1.set x.toNat true,s.2)).2.length=s.2.length:=w.gr.l2
        refine wy b (Nat.zero_le _) (by rw [hrl]; omega) ?_
        rw [edge,Int.toNat_natCast] at he
        exact he
      refine .inl ⟨⟨(Grew.set1 s x.toNat).trans w.gr,fun z hz=>?_,fun b hb=>w.back b hb,fun z hz=>?_,fun A R h1 h2 h3 h4 h5=>?_⟩,w.gr.m1 _ hsx,hout⟩
      · rcases w.out z hz with q|q|q
        · rcases hset z q with q|q
          · exact .inl q
          · exact .inr (.inl q)
        · exact .inr (.inl q)
        · exact .inr (.inr q)
      · rcases w.from_ z hz with q|q|q
        · rcases hset z q with q|q
          · exact .inl q
          · exact .inr (.inl q)
        · exact .inr (.inl q)
        · exact .inr (.inr q)
      · refine w.in_ A R h1 h2 h3 (fun z hz=>?_) h5
        rcases hset z hz with q|q
        · exact h4 z q
        · exact h3 z q
structure Konig (m n:Nat) (g:GraphD) (s:LR):Prop where
  l1:s.1.length=m
  l2:s.2.length=n
  free:∀ a:Nat,a<m→¬ (a:Int)∈g.2.1→s.1.getD a false=true
  out:∀ x,s.1.getD x false=true→∀ b,b<n→edge g (x:Int) b→s.2.getD b false=true
  back:∀ b,s.2.getD b false=true→0≤g.2.1.getD b 0∧s.1.getD (g.2.1.getD b 0).toNat false=true
  from_:∀ x:Nat,s.1.getD x false=true→¬ (x:Int)∈g.2.1∨∃ b,s.2.getD b false=true∧g.2.1.getD b 0=(x:Int)
theorem rep_false {n j:Nat}:(List.replicate n false).getD j false=false:=by
  rw [List.getD_eq_getElem?_getD,List.getElem?_replicate]
  split<;>rfl
theorem cov_konig {m n:Nat} {g:GraphD} (h:MInv m n m g) (hm:m≤40) (hn:n≤40):Konig m n g (covLR g m n):=by
  obtain ⟨R,r1,r2,r3⟩:=h.clo
  have key:∀ i,i≤m→∃ s,(List.range i).foldl (covStep g) (List.replicate m false,List.replicate n false)=s∧ROk g s∧s.1.length=m∧s.2.length=n∧(∀ a:Nat,a<i→¬ (a:Int)∈g.2.1→s.1.getD a false=true)∧(∀ x,s.1.getD x false=true→Out g s x) ∧
      (∀ b,s.2.getD b false=true→R b∧Back g s b)∧(∀ x:Nat,s.1.getD x false=true→(∀ b,b<n→edge g (x:Int) b→R b)∧(¬ (x:Int)∈g.2.1∨∃ b,s.2.getD b false=true∧g.2.1.getD b 0=(x:Int))):=by
    intro i
    induction i with
    | zero =>
      intro _
      have z1:∀ x:Nat,¬ (List.replicate m false).getD x false=true:=fun x hx=>by rw [rep_false] at hx; cases hx
      have z2:∀ x:Nat,¬ (List.replicate n false).getD x false=true:=fun x hx=>by rw [rep_false] at hx; cases hx
      refine ⟨(List.replicate m false,List.replicate n false),rfl,⟨?_,?_,?_,?_,?_⟩,by simp,by simp,fun a ha=>by omega,fun x hx=>absurd hx (z1 x),fun b hb=>absurd hb (z2 b),fun x hx=>absurd hx (z1 x)⟩
      · show g.1.length=(List.replicate m false).length; rw [List.length_replicate]; exact h.ok.may
      · show ∀ a,a<(List.replicate m false).length→(g.1.getD a []).length=(List.replicate n false).length; rw [List.length_replicate,List.length_replicate]; exact h.ok.row
      · show g.2.1.length=(List.replicate n false).length; rw [List.length_replicate]; exact h.ok.len
      · show ∀ b:Nat,b<(List.replicate n false).length→0≤g.2.1.getD b 0→g.2.1.getD b 0<(List.replicate m false).length; rw [List.length_replicate,List.length_replicate]; exact h.ok.left
      · show (List.replicate m false).length≤1000∧(List.replicate n false).length≤1000; rw [List.length_replicate,List.length_replicate]; omega
    | succ i ih =>
      intro hi
      obtain ⟨s,e,hok,s1,s2,f,o,b,fr⟩:=ih (by omega)
      refine ⟨covStep g s i,by rw [List.range_succ,List.foldl_append,e]; rfl,?_⟩
      have same:covStep g s i=s→s.1.getD i false=true∨(i:Int)∈g.2.1→ROk g (covStep g s i)∧(covStep g s i).1.length=m∧(covStep g s i).2.length=n∧(∀ a:Nat,a<i+1→¬ (a:Int)∈g.2.1→(covStep g s i).1.getD a false=true)∧(∀ x,(covStep g s i).1.getD x false=true→Out g (covStep g s i) x) ∧
          (∀ b,(covStep g s i).2.getD b false=true→R b∧Back g (covStep g s i) b)∧(∀ x:Nat,(covStep g s i).1.getD x false=true→(∀ b,b<n→edge g (x:Int) b→R b)∧(¬ (x:Int)∈g.2.1∨∃ b,(covStep g s i).2.getD b false=true∧g.2.1.getD b 0=(x:Int))):=by
        intro e2 hh
        rw [e2]
        refine ⟨hok,s1,s2,fun a ha hna=>?_,o,b,fr⟩
        by_cases ea:a=i
        · subst ea; exact hh.resolve_right hna
        · exact f a (by omega) hna
      by_cases hc:(i:Int)∈g.2.1
      · exact same (by rw [covStep,if_pos hc]) (.inr hc)
      · have hst:covStep g s i=reachF 41 g s (i:Int):=by rw [covStep,if_neg hc]
        have hul:=unseen_le s.1
        rcases reachF_went (k:=41) s (i:Int) hok (by omega) (by rw [s1]; omega) (by omega) with ⟨w,w2,w3⟩|⟨w1,w2⟩
        · rw [hst]
          rw [Int.toNat_natCast] at w2 w3
          have hcnt:g.2.1.count (i:Int)=0:=List.count_eq_zero.2 hc
          obtain ⟨iA,iR⟩:=w.in_ (fun x=>∀ b,b<n→edge g (x:Int) b→R b) R (fun x hx b hb he=>hx b (by rw [← s2]; exact hb) he) (fun b hb h0 z hz he=>by
            refine (r2 b hb).2 z (by rw [h.ok.len]; exact hz) ?_
            rw [Int.toNat_of_nonneg h0] at he; exact he) (fun x hx=>by rw [Int.toNat_natCast] at hx; subst hx; exact fun z hz he=>r3 x (by omega) hcnt z hz he) (fun x hx=>(fr x hx).1) (fun y hy=>(b y hy).1)
          refine ⟨hok.grew w.gr,w.gr.l1.trans s1,w.gr.l2.trans s2,fun a ha hna=>?_,fun x hx=>?_,fun y hy=>⟨iR y hy,?_⟩,fun x hx=>⟨iA x hx,?_⟩⟩
          · by_cases ea:a=i
            · subst ea; exact w2
            · exact w.gr.m1 a (f a (by omega) hna)
          · rcases w.out x hx with q|q|q
            · exact (o x q).grew w.gr
            · rw [Int.toNat_natCast] at q; subst q; exact w3
            · exact q
          · rcases w.back y hy with q|q
            · exact fun h0=>w.gr.m1 _ ((b y q).2 h0)
            · exact q
          · rcases w.from_ x hx with q|q|q
            · rcases (fr x q).2 with r|⟨y,r,r'⟩
              · exact .inl r
              · exact .inr ⟨y,w.gr.m2 y r,r'⟩
            · rw [Int.toNat_natCast] at q; subst q; exact .inl hc
            · exact .inr q
        · rw [Int.toNat_natCast] at w1
          exact same (hst.trans w2) (.inl w1)
  obtain ⟨s,e,hok,s1,s2,f,o,b,fr⟩:=key m (Nat.le_refl m)
  have:covLR g m n=s:=e
  rw [this]
  refine ⟨s1,s2,f,fun x hx z hz he=>o x hx z (by rw [s2]; exact hz) he,fun y hy=>?_,fun x hx=>(fr x hx).2⟩
  have h0:=(r2 y (b y hy).1).1
  exact ⟨h0,(b y hy).2 h0⟩
theorem konig_count {m n:Nat} {g:GraphD} {s:LR} (h:MInv m n m g) (k:Konig m n g s) :
    ((List.range m).filter (fun x:Nat=>decide ((x:Int)∈g.2.1))).length=(whereB false s.1 m).length+(whereB true s.2 n).length∧(whereB true s.2 n).length=((List.range m).filter (fun x:Nat=>decide ((x:Int)∈g.2.1) && s.1.getD x false)).length:=by
  have hlen:=h.ok.len
  have hlt:∀ b,s.2.getD b false=true→b<n:=by
    intro b hb
    refine Decidable.by_contra (fun hn=>?_)
    rw [List.getD_eq_getElem?_getD,List.getElem?_eq_none (by rw [k.l2]; omega)] at hb
    cases hb
  have e2:(whereB true s.2 n).length=((List.range m).filter (fun x:Nat=>decide ((x:Int)∈g.2.1) && s.1.getD x false)).length:=by
    rw [whereB,List.length_map]
    let f:Nat→Nat:=fun b=>(g.2.1.getD b 0).toNat
    have hmem:∀ b,b∈(List.range n).filter (fun a=>s.2.getD a false == true)↔b<n∧s.2.getD b false=true:=by
      intro b; rw [List.mem_filter,List.mem_range]; simp
    have hfb:∀ b,b<n→s.2.getD b false=true→f b<m∧((f b:Nat):Int)=g.2.1.getD b 0:=by
      intro b hb hs
      obtain ⟨h0,_⟩:=k.back b hs
      have:=h.ok.left b hb h0
      exact ⟨by show (g.2.1.getD b 0).toNat<m; omega,Int.toNat_of_nonneg h0⟩
    apply Nat.le_antisymm
    · have:=nodup_sub (l:=((List.range n).filter (fun a=>s.2.getD a false == true)).map f) (S:=(List.range m).filter (fun x:Nat=>decide ((x:Int)∈g.2.1) && s.1.getD x false)) ?_ ?_
      · rwa [List.length_map] at this
      · rw [List.nodup_iff_pairwise_ne,List.pairwise_map]
        refine (List.nodup_range.filter _).imp_of_mem (fun {p q} hp hq hpq e=>?_)
        obtain ⟨p1,p2⟩:=(hmem p).1 hp
        obtain ⟨q1,q2⟩:=(hmem q).1 hq
        obtain ⟨p3,p4⟩:=hfb p p1 p2
        obtain ⟨q3,q4⟩:=hfb q q1 q2
        have:=two_count (l:=g.2.1) (x:=((f p:Nat):Int)) (by omega) (by omega) hpq p4.symm (by rw [e]; exact q4.symm)
        have:=h.lo (f p) p3
        omega
      · intro x hx
        obtain ⟨b,hb,rfl⟩:=List.mem_map.1 hx
        obtain ⟨b1,b2⟩:=(hmem b).1 hb
        obtain ⟨b3,b4⟩:=hfb b b1 b2
        rw [List.mem_filter,List.mem_range,Bool.and_eq_true,decide_eq_true_eq]
        refine ⟨b3,?_,(k.back b b2).2⟩
        rw [b4]; exact getD_mem (by omega)
    · have:=nodup_sub (l:=(List.range m).filter (fun x:Nat=>decide ((x:Int)∈g.2.1) && s.1.getD x false)) (S:=((List.range n).filter (fun a=>s.2.getD a false == true)).map f) (List.nodup_range.filter _) ?_
      · rwa [List.length_map] at this
      · intro x hx
        rw [List.mem_filter,List.mem_range,Bool.and_eq_true,decide_eq_true_eq] at hx
        obtain ⟨x1,x2,x3⟩:=hx
        rcases k.from_ x x3 with q|⟨b,q1,q2⟩
        · exact absurd x2 q
        · refine List.mem_map.2 ⟨b,(hmem b).2 ⟨hlt b q1,q1⟩,?_⟩
          show (g.2.1.getD b 0).toNat=x
          rw [q2]; simp
  refine ⟨?_,e2⟩
  rw [e2,whereB,List.length_map]
  have hsplit:∀ (l:List Nat) (p q:Nat→Bool),(l.filter p).length=(l.filter (fun x=>p x && !q x)).length+(l.filter (fun x=>p x && q x)).length:=by
    intro l p q
    induction l with
    | nil=>rfl
    | cons x l ih =>
      simp only [List.filter_cons]
      cases p x<;>cases q x<;>simp [ih]<;>omega
  rw [hsplit (List.range m) (fun x:Nat=>decide ((x:Int)∈g.2.1)) (fun x=>s.1.getD x false)]
  congr 1
  congr 1
  refine List.filter_congr (fun x hx=>?_)
  have hx:=List.mem_range.1 hx
  cases hs:s.1.getD x false with
  | true=>simp
  | false =>
    have:(x:Int)∈g.2.1:=by
      refine Decidable.by_contra (fun hn=>?_)
      rw [k.free x hx hn] at hs; cases hs
    simp [this]
end Go.Proofs.Ytegigiecamjobaa
