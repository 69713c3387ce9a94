/- Kuhn's search: what it does where it succeeds, and what its failing shows; the plain law. No condition. -/
import Derived.Test.YtekbamiaenbhjaaMatchM
namespace Go.Proofs.Ytekbamiaenbhjaa
open Go.Ex
set_option maxRecDepth 100000
def P8 (g:t7) (x:Int) (y:Nat):Prop:=(g.1.getD x.toNat []).getD y false=true
def a7a (g:t7) (R:Nat→Prop):Prop:=∀ y,R y→0≤g.2.1.getD y 0∧∀ z,z<g.2.1.length→P8 g (g.2.1.getD y 0) z→R z
structure Eff (g:t7) (a:Int) (r:t7×Bool×Unit):Prop where
  no:r.2.1=false→r.1.2.1=g.2.1
  same:r.2.1=true→∀ y,g.2.2.1.getD y false=true→r.1.2.1.getD y 0=g.2.1.getD y 0
  P8:r.2.1=true→∀ y,r.1.2.1.getD y 0=g.2.1.getD y 0∨P8 g (r.1.2.1.getD y 0) y
  cnt:r.2.1=true→∀ x:Int,0≤x→r.1.2.1.count x=g.2.1.count x+(if x=a then 1 else 0)
  s4:∀ R:Nat→Prop,a7a g R→(r.2.1=true→∀ y,R y→r.1.2.1.getD y 0=g.2.1.getD y 0)∧((∀ y,y<g.2.1.length→Go.Proofs.Ytekbamiaenbhjaa.P8 g a y→R y)→r.2.1=false)
theorem Eff.back {g g':t7} {a:Int} {r:t7×Bool×Unit} (h1:g'.1=g.1) (h2:g'.2.1=g.2.1) (h3:∀ b,g.2.2.1.getD b false=true→g'.2.2.1.getD b false=true) (h:Eff g' a r):Eff g a r:=by
  obtain ⟨p1,p2,p3,⟨⟩⟩:=g
  obtain ⟨q1,q2,q3,⟨⟩⟩:=g'
  have h1:q1=p1:=h1
  have h2:q2=p2:=h2
  subst h1; subst h2
  exact ⟨h.no,fun hr y hy=>h.same hr y (h3 y hy),h.P8,h.cnt,h.s4⟩
theorem a2W {l:List Int} {i:Nat} (h:i<l.length) (v x:Int):(l.set i v).count x+(if l.getD i 0=x then 1 else 0)=l.count x+(if v=x then 1 else 0):=by
  have e:l.getD i 0=l[i]:=by rw [List.getD_eq_getElem?_getD,List.getElem?_eq_getElem h]; rfl
  rw [List.count_set h,e]
  have hp:l[i]=x→0<l.count x:=fun e=>List.count_pos_iff.2 (e▸List.getElem_mem h)
  by_cases h1:l[i]=x
  · have:=hp h1
    simp only [h1,beq_self_eq_true,if_true]
    by_cases h2:v=x<;>simp [h2]<;>omega
  · have hb:(l[i] == x)=false:=by simpa using h1
    rw [if_neg h1,hb]
    by_cases h2:v=x<;>simp [h2]
theorem a3Z {rec:t7→Int→t7×Bool×Unit} (hkp:∀ (g:t7) (x:Int),S4 g→0≤x→x<g.1.length→Kept g (rec g x).1) (hrec:∀ (g:t7) (x:Int),S4 g→0≤x→x<g.1.length→Eff g x (rec g x)) {a:Int} {row:List Bool} :
    ∀ {r b:Nat} {g:t7},S4 g→row=g.1.getD a.toNat []→b+r≤g.2.1.length→Eff g a (O7 rec a row r b g)
  | 0,b,g,h,_,_=>⟨fun _=>rfl,fun h=>(by cases h),fun h=>(by cases h),fun h=>(by cases h),fun R _=>⟨fun h=>(by cases h),fun _=>rfl⟩⟩
  | r+1,b,g,h,hrow,hb=>by
    rw [O7]
    split
    · exact a3Z hkp hrec h hrow (by omega)
    rename_i e1
    split
    · exact a3Z hkp hrec h hrow (by omega)
    rename_i e2
    have hed:P8 g a b:=by rw [P8,← hrow]; simpa using e1
    have hbl:b<g.2.1.length:=by omega
    split
    · rename_i e3
      have hget:∀ y,(g.2.1.set b a).getD y 0=if y=b then a else g.2.1.getD y 0:=fun y=>B8 hbl
      refine ⟨fun h=>(by cases h),fun _ y hy=>?_,fun _ y=>?_,fun _ x hx=>?_,fun R hR=>⟨fun _ y hy=>?_,fun hN=>?_⟩⟩
      · show (g.2.1.set b a).getD y 0=_
        rw [hget,if_neg (fun e:y=b=>e2 (e▸hy))]
      · show (g.2.1.set b a).getD y 0=_∨P8 g ((g.2.1.set b a).getD y 0) y
        rw [hget]
        split
        · rename_i e; rw [e]; exact .inr hed
        · exact .inl rfl
      · show (g.2.1.set b a).count x=_
        have:=a2W hbl a x
        rw [if_neg (by omega)] at this
        by_cases e:x=a
        · rw [if_pos e]; rw [if_pos e.symm] at this; omega
        · rw [if_neg e]; rw [if_neg (Ne.symm e)] at this; omega
      · show (g.2.1.set b a).getD y 0=_
        rw [hget,if_neg]
        rintro rfl
        have:=(hR y hy).1; omega
      · exfalso
        have:=(hR b (hN b hbl hed)).1; omega
    · rename_i e3
      have k1:=h.set hbl
      have hx:=h.left b (by omega) hbl
      have K:=hkp (I3 g b) (g.2.1.getD b 0) k1.ok (by omega) hx
      have E:=hrec (I3 g b) (g.2.1.getD b 0) k1.ok (by omega) hx
      have hsb:(I3 g b).2.2.1.getD b false=true:=by
        show (g.2.2.1.set b true).getD b false=true
        rw [B8 (by rw [h.seen]; exact hbl),if_pos rfl]
      have hcl:∀ R,a7a g R→a7a (I3 g b) R:=fun R hR=>hR
      have hKs:(rec (I3 g b) (g.2.1.getD b 0)).1.2.1.length=g.2.1.length:=K.len
      generalize rec (I3 g b) (g.2.1.getD b 0)=q at *
      split
      · rename_i e4
        have hbq:b<q.1.2.1.length:=by omega
        have hget:∀ y,(q.1.2.1.set b a).getD y 0=if y=b then a else q.1.2.1.getD y 0:=fun y=>B8 hbq
        have hnb:∀ R,a7a g R→¬ R b:=fun R hR hRb=>by
          have:=(E.s4 R (hcl R hR)).2 (fun y hy he=>(hR b hRb).2 y hy he)
          rw [e4] at this; cases this
        refine ⟨fun h=>(by cases h),fun _ y hy=>?_,fun _ y=>?_,fun _ x hx=>?_,fun R hR=>⟨fun _ y hy=>?_,fun hN=>?_⟩⟩
        · show (q.1.2.1.set b a).getD y 0=_
          rw [hget,if_neg (fun e:y=b=>e2 (e▸hy))]
          exact E.same e4 y (k1.seen y hy)
        · show (q.1.2.1.set b a).getD y 0=_∨P8 g ((q.1.2.1.set b a).getD y 0) y
          rw [hget]
          split
          · rename_i e; rw [e]; exact .inr hed
          · exact E.P8 e4 y
        · show (q.1.2.1.set b a).count x=_
          have h1:=a2W hbq a x
          have h2:q.1.2.1.getD b 0=g.2.1.getD b 0:=E.same e4 b hsb
          have h3:q.1.2.1.count x=g.2.1.count x+(if x=g.2.1.getD b 0 then 1 else 0):=E.cnt e4 x hx
          rw [h2,h3] at h1
          by_cases c1:x=g.2.1.getD b 0
          · rw [if_pos c1.symm,if_pos c1] at h1
            by_cases c2:x=a
            · rw [if_pos c2]; rw [if_pos c2.symm] at h1; omega
            · rw [if_neg c2]; rw [if_neg (Ne.symm c2)] at h1; omega
          · rw [if_neg (Ne.symm c1),if_neg c1] at h1
            by_cases c2:x=a
            · rw [if_pos c2]; rw [if_pos c2.symm] at h1; omega
            · rw [if_neg c2]; rw [if_neg (Ne.symm c2)] at h1; omega
        · show (q.1.2.1.set b a).getD y 0=_
          rw [hget,if_neg (fun e:y=b=>hnb R hR (e▸hy))]
          exact (E.s4 R (hcl R hR)).1 e4 y hy
        · exact absurd (hN b hbl hed) (hnb R hR)
      · rename_i e4
        have e4:q.2.1=false:=by simpa using e4
        have hl:q.1.2.1=g.2.1:=E.no e4
        exact Eff.back K.may hl (fun c hc=>K.seen c (k1.seen c hc)) (a3Z hkp hrec K.ok (by rw [hrow,K.may]; rfl) (by omega))
theorem a4m:∀ {k:Nat} {g:t7} {a:Int},S4 g→0≤a→a<g.1.length→Eff g a (E5 k g a)
  | 0,g,a,_,_,_=>⟨fun _=>rfl,fun h=>(by cases h),fun h=>(by cases h),fun h=>(by cases h),fun R _=>⟨fun h=>(by cases h),fun _=>rfl⟩⟩
  | k+1,g,a,h,h0,ha=>by
    rw [E5]
    exact a3Z (fun g x=>S9) (fun g x hg h1 h2=>a4m hg h1 h2) h rfl (by rw [h.row a.toNat (by omega)]; omega)
def a3T (g:t7) (s:List Bool) (y:Nat):Prop:=0≤g.2.1.getD y 0∧∀ z,z<g.2.1.length→P8 g (g.2.1.getD y 0) z→s.getD z false=true
theorem a9h {k:Nat} {rec:t7→Int→t7×Bool×Unit} (hkp:∀ (g:t7) (x:Int),S4 g→0≤x→x<g.1.length→Kept g (rec g x).1) (hef:∀ (g:t7) (x:Int),S4 g→0≤x→x<g.1.length→Eff g x (rec g x))
    (hrec:∀ (g:t7) (x:Int),S4 g→0≤x→x<g.1.length→I8 g.2.2.1<k→(rec g x).2.1=false→(∀ y,y<g.2.1.length→P8 g x y→(rec g x).1.2.2.1.getD y false=true)∧∀ y,(rec g x).1.2.2.1.getD y false=true→g.2.2.1.getD y false=true∨a3T g (rec g x).1.2.2.1 y)
    {a:Int} {row:List Bool}:∀ {r b:Nat} {g:t7},S4 g→(0≤a∧a<g.1.length)→b+r≤g.2.1.length→I8 g.2.2.1<k+1→(O7 rec a row r b g).2.1=false →
    (∀ y,b≤y→y<b+r→row.getD y false=true→(O7 rec a row r b g).1.2.2.1.getD y false=true)∧∀ y,(O7 rec a row r b g).1.2.2.1.getD y false=true→g.2.2.1.getD y false=true∨a3T g (O7 rec a row r b g).1.2.2.1 y
  | 0,b,g,h,_,_,_,_=>⟨fun y h1 h2=>by omega,fun y hy=>.inl hy⟩
  | r+1,b,g,h,ha,hb,hu,hf=>by
    rw [O7] at hf ⊢
    have skip:∀ {g:t7},S4 g→(0≤a∧a<g.1.length)→b+(r+1)≤g.2.1.length→I8 g.2.2.1<k+1→(O7 rec a row r (b+1) g).2.1=false→(row.getD b false=true→g.2.2.1.getD b false=true) →
        (∀ y,b≤y→y<b+(r+1)→row.getD y false=true→(O7 rec a row r (b+1) g).1.2.2.1.getD y false=true)∧∀ y,(O7 rec a row r (b+1) g).1.2.2.1.getD y false=true→g.2.2.1.getD y false=true∨a3T g (O7 rec a row r (b+1) g).1.2.2.1 y:=by
      intro g h ha hb hu hf hs
      obtain ⟨q1,q2⟩:=a9h hkp hef hrec h ha (by omega) hu hf
      refine ⟨fun y h1 h2 h3=>?_,q2⟩
      by_cases e:y=b
      · subst e
        exact (a0I hkp h ha.2 (by omega)).seen y (hs h3)
      · exact q1 y (by omega) (by omega) h3
    split at hf
    · rename_i e1
      rw [if_pos e1]
      exact skip h ha hb hu hf (fun h9=>by rw [e1] at h9; cases h9)
    rename_i e1
    rw [if_neg e1]
    split at hf
    · rename_i e2
      rw [if_pos e2]
      exact skip h ha hb hu hf (fun _=>e2)
    rename_i e2
    rw [if_neg e2]
    split at hf
    · cases hf
    rename_i e3
    rw [if_neg e3]
    have hbl:b<g.2.1.length:=by omega
    have k1:=h.set hbl
    have hx:=h.left b (by omega) hbl
    have hus:=a42 (l:=g.2.2.1) (b:=b) (by rw [h.seen]; exact hbl) (by simpa using e2)
    have hsg:∀ y,(I3 g b).2.2.1.getD y false=true→g.2.2.1.getD y false=true∨y=b:=by
      intro y hy
      have hy:(g.2.2.1.set b true).getD y false=true:=hy
      rw [B8 (by rw [h.seen]; exact hbl)] at hy
      by_cases e:y=b
      · exact .inr e
      · rw [if_neg e] at hy; exact .inl hy
    have hsb:(I3 g b).2.2.1.getD b false=true:=by
      show (g.2.2.1.set b true).getD b false=true
      rw [B8 (by rw [h.seen]; exact hbl),if_pos rfl]
    have K:=hkp (I3 g b) (g.2.1.getD b 0) k1.ok (by omega) hx
    have E:=hef (I3 g b) (g.2.1.getD b 0) k1.ok (by omega) hx
    have C:=hrec (I3 g b) (g.2.1.getD b 0) k1.ok (by omega) hx (by show I8 (g.2.2.1.set b true)<k; omega)
    generalize rec (I3 g b) (g.2.1.getD b 0)=q at *
    split at hf
    · cases hf
    rename_i e4
    rw [if_neg e4]
    have e4:q.2.1=false:=by simpa using e4
    obtain ⟨c1,c2⟩:=C e4
    have hl:q.1.2.1=g.2.1:=E.no e4
    have hmay:q.1.1=g.1:=K.may
    have huq:I8 q.1.2.2.1<k+1:=by
      have h1:=K.few k1.ok
      have h2:I8 (I3 g b).2.2.1=I8 (g.2.2.1.set b true):=rfl
      omega
    obtain ⟨d1,d2⟩:=skip K.ok (by rw [hmay]; exact ha) (by rw [hl]; exact hb) huq hf (fun _=>K.seen b hsb)
    have S:=a0I hkp (a:=a) (row:=row) (r:=r) (b:=b+1) K.ok (by rw [hmay]; exact ha.2) (by rw [hl]; omega)
    refine ⟨d1,fun y hy=>?_⟩
    have tr:∀ {s:List Bool} {y:Nat},a3T q.1 s y→a3T g s y:=by
      intro s y hc
      refine ⟨by rw [← hl]; exact hc.1,fun z hz he=>hc.2 z (by rw [hl]; exact hz) ?_⟩
      show (q.1.1.getD (q.1.2.1.getD y 0).toNat []).getD z false=true
      rw [hmay,hl]; exact he
    rcases d2 y hy with h1|h1
    · rcases c2 y h1 with h2|h2
      · rcases hsg y h2 with h3|h3
        · exact .inl h3
        · subst h3
          exact .inr ⟨by omega,fun z hz he=>S.seen z (c1 z hz he)⟩
      · exact .inr ⟨h2.1,fun z hz he=>S.seen z (h2.2 z hz he)⟩
    · exact .inr (tr h1)
theorem a6l:∀ {k:Nat} {g:t7} {a:Int},S4 g→0≤a→a<g.1.length→I8 g.2.2.1<k→(E5 k g a).2.1=false →
    (∀ y,y<g.2.1.length→P8 g a y→(E5 k g a).1.2.2.1.getD y false=true)∧∀ y,(E5 k g a).1.2.2.1.getD y false=true→g.2.2.1.getD y false=true∨a3T g (E5 k g a).1.2.2.1 y
  | 0,g,a,_,_,_,hu,_=>by omega
  | k+1,g,a,h,h0,ha,hu,hf=>by
    rw [E5] at hf ⊢
    have hr:=h.row a.toNat (by omega)
    obtain ⟨q1,q2⟩:=a9h (k:=k) (fun g x=>S9) (fun g x=>a4m) (fun g x hg h1 h2 h3 h4=>a6l hg h1 h2 h3 h4) h ⟨h0,ha⟩ (by omega) hu hf
    exact ⟨fun y hy he=>q1 y (by omega) (by omega) he,q2⟩
end Go.Proofs.Ytekbamiaenbhjaa
