/- Levels of a finite order: the plain law. -/
import Derived.Test.YtegigiecamjobaaPosO
namespace Go.Proofs.Ytegigiecamjobaa
open Go.Ex
set_option maxRecDepth 100000
def lvA (R:Nat→Nat→Bool) (b:Nat) (lev:List Int) (a:Nat):List Int:=if R a b=true then lev.set b (if lev.getD b 0<lev.getD a 0+1 then lev.getD a 0+1 else lev.getD b 0) else lev
def lvB (R:Nat→Nat→Bool) (n:Nat) (lev:List Int) (b:Int):List Int:=(List.range n).foldl (lvA R b.toNat) lev
def levF (R:Nat→Nat→Bool) (n:Nat) (ord:List Int):List Int:=ord.foldl (lvB R n) (List.replicate n 0)
section
variable {R:Nat→Nat→Bool} {n:Nat}
structure LvA (R:Nat→Nat→Bool) (n b a:Nat) (lev lev':List Int):Prop where
  len:lev'.length=lev.length
  other:∀ x,x≠b→lev'.getD x 0=lev.getD x 0
  ge:∀ x,x<a→R x b=true→lev.getD x 0+1≤lev'.getD b 0
  is:lev'.getD b 0=lev.getD b 0∨∃ x,x<a∧R x b=true∧lev'.getD b 0=lev.getD x 0+1
theorem lvA_fold (hi:∀ x,R x x=false) {b:Nat} {lev:List Int} (hb:b<lev.length):∀ a,LvA R n b a lev ((List.range a).foldl (lvA R b) lev)
  | 0=>⟨rfl,fun _ _=>rfl,fun x h=>by omega,.inl rfl⟩
  | a+1=>by
    have ih:=lvA_fold hi hb a
    rw [List.range_succ,List.foldl_append,List.foldl_cons,List.foldl_nil]
    generalize (List.range a).foldl (lvA R b) lev=l1 at *
    have hb1:b<l1.length:=by rw [ih.len]; exact hb
    rw [lvA]
    by_cases h:R a b=true
    · rw [if_pos h]
      have hab:a≠b:=fun e=>by subst e; rw [hi] at h; cases h
      rw [ih.other a hab]
      have g:∀ x v,(l1.set b v).getD x 0=if x=b then v else l1.getD x 0:=fun x v=>getD_set hb1
      refine ⟨by rw [List.length_set]; exact ih.len,fun x hx=>by rw [g,if_neg hx]; exact ih.other x hx,fun x hx hr=>?_,?_⟩
      · rw [g,if_pos rfl]
        by_cases e:x=a
        · subst e; split<;>omega
        · have:=ih.ge x (by omega) hr
          split<;>omega
      · rw [g,if_pos rfl]
        split
        · exact .inr ⟨a,by omega,h,rfl⟩
        · rcases ih.is with h1|⟨x,h1,h2,h3⟩
          · exact .inl h1
          · exact .inr ⟨x,by omega,h2,h3⟩
    · rw [if_neg h]
      refine ⟨ih.len,ih.other,fun x hx hr=>?_,?_⟩
      · by_cases e:x=a
        · subst e; exact absurd hr h
        · exact ih.ge x (by omega) hr
      · rcases ih.is with h1|⟨x,h1,h2,h3⟩
        · exact .inl h1
        · exact .inr ⟨x,by omega,h2,h3⟩
structure LvOk (R:Nat→Nat→Bool) (n:Nat) (out lev:List Int):Prop where
  nodup:out.Nodup
  rng:∀ x∈out,0≤x∧x<(n:Int)
  dc:∀ x y:Nat,R x y=true→(y:Int)∈out→(x:Int)∈out
  len:lev.length=n
  zero:∀ x:Nat,(x:Int)∉out→lev.getD x 0=0
  up:∀ x y:Nat,R x y=true→(y:Int)∈out→lev.getD x 0+1≤lev.getD y 0
  one:∀ y:Nat,(y:Int)∈out→lev.getD y 0=0∨∃ x:Nat,R x y=true∧lev.getD y 0=lev.getD x 0+1
  nn:∀ x:Nat,0≤lev.getD x 0∧lev.getD x 0≤out.length
theorem LvOk.start:LvOk R n [] (List.replicate n 0):=by
  have z:∀ x:Nat,(List.replicate n (0:Int)).getD x 0=0:=fun x=>by
    by_cases h:x<n
    · exact repF _ _ h _
    · rw [List.getD_eq_getElem?_getD,List.getElem?_eq_none (by rw [List.length_replicate]; omega)]; rfl
  exact ⟨List.nodup_nil,fun x h=>(by cases h),fun x y _ h=>(by cases h),List.length_replicate,fun x _=>z x,fun x y _ h=>(by cases h),fun y h=>(by cases h),fun x=>by rw [z]; exact ⟨by omega,by omega⟩⟩
theorem LvOk.step (hi:∀ x,R x x=false) (ho:∀ x y,R x y=true→x<n∧y<n) {out lev:List Int} (h:LvOk R n out lev) {b:Nat} (hb:b<n) (hr:readyB R n out b=true):LvOk R n (out++[(b:Int)]) (lvB R n lev b):=by
  simp only [readyB,Bool.and_eq_true,Bool.not_eq_true',decide_eq_false_iff_not,List.all_eq_true,List.mem_range,Bool.or_eq_true,decide_eq_true_eq] at hr
  obtain ⟨h1,h2⟩:=hr
  have h2:∀ a,R a b=true→(a:Int)∈out:=fun a ha=>by
    rcases h2 a (ho a b ha).1 with h|h
    · rw [ha] at h; cases h
    · exact h
  have F:=lvA_fold (n:=n) hi (b:=b) (lev:=lev) (by rw [h.len]; exact hb) n
  have e:lvB R n lev b=(List.range n).foldl (lvA R b) lev:=by rw [lvB,Int.toNat_natCast]
  rw [← e] at F
  generalize lvB R n lev b=l2 at *
  have hz:=h.zero b h1
  have mem:∀ y:Nat,(y:Int)∈out++[(b:Int)]↔(y:Int)∈out∨y=b:=fun y=>by
    rw [List.mem_append,List.mem_singleton]
    exact or_congr Iff.rfl ⟨fun h=>by omega,fun h=>by omega⟩
  have nb:∀ y:Nat,(y:Int)∈out→y≠b:=fun y hy e=>h1 (e▸hy)
  refine ⟨List.nodup_append.2 ⟨h.nodup,by simp,fun x hx y hy e=>?_⟩,fun x hx=>?_,fun x y hxy hy=>?_,by rw [F.len]; exact h.len,fun x hx=>?_,fun x y hxy hy=>?_,fun y hy=>?_,fun x=>?_⟩
  · rw [List.mem_singleton] at hy; rw [e,hy] at hx; exact h1 hx
  · rcases List.mem_append.1 hx with hx|hx
    · exact h.rng x hx
    · rw [List.mem_singleton] at hx; omega
  · rw [mem] at hy ⊢
    rcases hy with hy|rfl
    · exact .inl (h.dc x y hxy hy)
    · exact .inl (h2 x hxy)
  · rw [mem,not_or] at hx
    rw [F.other x hx.2]; exact h.zero x hx.1
  · rw [mem] at hy
    rcases hy with hy|rfl
    · rw [F.other y (nb y hy),F.other x (nb x (h.dc x y hxy hy))]; exact h.up x y hxy hy
    · rw [F.other x (nb x (h2 x hxy))]; exact F.ge x (ho x y hxy).1 hxy
  · rw [mem] at hy
    rcases hy with hy|rfl
    · rw [F.other y (nb y hy)]
      rcases h.one y hy with h3|⟨x,h3,h4⟩
      · exact .inl h3
      · exact .inr ⟨x,h3,by rw [F.other x (nb x (h.dc x y h3 hy))]; exact h4⟩
    · rcases F.is with h3|⟨x,h3,h4,h5⟩
      · exact .inl (h3.trans hz)
      · exact .inr ⟨x,h4,by rw [F.other x (nb x (h2 x h4))]; exact h5⟩
  · rw [List.length_append,List.length_singleton]
    by_cases e:x=b
    · subst e
      rcases F.is with h3|⟨z,h3,h4,h5⟩
      · rw [h3,hz]; exact ⟨by omega,by omega⟩
      · have:=h.nn z
        rw [h5]; exact ⟨by omega,by omega⟩
    · have:=h.nn x
      rw [F.other x e]; exact ⟨by omega,by omega⟩
theorem order_lv (ht:∀ x y z,R x y=true→R y z=true→R x z=true) (hi:∀ x,R x x=false) (ho:∀ x y,R x y=true→x<n∧y<n):∀ (k:Nat) (out:List Int),out.length+k=n→LvOk R n out (levF R n out)→(orderN R n k out).length=n∧LvOk R n (orderN R n k out) (levF R n (orderN R n k out))
  | 0,out,hl,h=>⟨by rw [orderN]; omega,h⟩
  | k+1,out,hl,h=>by
    rw [orderN]
    cases e:nextO R n out n 0 with
    | none=>exact absurd e (next_is ht hi (by omega))
    | some b =>
      obtain ⟨⟨_,hb⟩,hr⟩:=nextO_some e
      have hs:=h.step hi ho (by omega) hr
      refine order_lv ht hi ho k (out++[(b:Int)]) (by rw [List.length_append,List.length_singleton]; omega) ?_
      rw [levF,List.foldl_append]; exact hs
end
def Bd (c:Nat) (lev:List Int):Prop:=∀ x:Nat,0≤lev.getD x 0∧lev.getD x 0≤c
theorem Bd.lvA {c:Nat} {lev:List Int} (h:Bd c lev) (R:Nat→Nat→Bool) (b a:Nat):Bd (c+1) (lvA R b lev a):=by
  intro x
  have h1:=h x
  have h2:=h a
  have h3:=h b
  rw [Go.Proofs.Ytegigiecamjobaa.lvA]
  split
  · by_cases hb:b<lev.length
    · rw [getD_set hb]
      split
      · split<;>omega
      · omega
    · rw [List.set_eq_of_length_le (by omega)]; omega
  · omega
theorem Bd.fold {c:Nat} {lev:List Int} (h:Bd c lev) (R:Nat→Nat→Bool) (b:Nat):∀ a,Bd (c+a) ((List.range a).foldl (Go.Proofs.Ytegigiecamjobaa.lvA R b) lev)
  | 0=>h
  | a+1=>by
    rw [List.range_succ,List.foldl_append]
    exact (Bd.fold h R b a).lvA R b a
theorem Bd.zero (n:Nat):Bd 0 (List.replicate n 0):=fun x=>by
  have:=(LvOk.start (R:=fun _ _=>false) (n:=n)).nn x
  simpa using this
end Go.Proofs.Ytegigiecamjobaa
