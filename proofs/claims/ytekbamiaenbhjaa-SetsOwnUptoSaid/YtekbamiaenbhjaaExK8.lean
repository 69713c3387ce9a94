import Derived.Test.YtekbamiaenbhjaaExK7

namespace Go.Ex

section
variable {E:Env} {ops:Array Oper} {B:B4} {S:Nat→Prop} {ι:Ix} {s:St} {a:Act} {w:World}

theorem a3d {s t:St} (he:E5 s t) (h:RS B S ι s a w):RS B S ι t a w:=by
 have hvx:∀ {v:AV} {vs:List Value},VX w.heap S ι s.hp v vs→VX w.heap S ι t.hp v vs:=by
  intro v vs hv
  exact VX.other (fun i _=>(he.2 i).symm) (fun i _=>y7.refl ι i) hv
 exact ⟨⟨h.hs.os,h.hs.tape,h.hs.out,h.hs.size,h.hs.frame,h.hs.slt,h.hs.s0,h.hs.s1,fun i e hi=>h.hs.ob i e ((he.2 i).trans hi),fun i e hi=>h.hs.bl i e ((he.2 i).trans hi),fun i j ei ej hi hj=>h.hs.dj i j ei ej ((he.2 i).trans hi) ((he.2 j).trans hj),fun q hq=>by obtain ⟨r1,⟨e,r2⟩,r3⟩:=h.hs.pin q hq; exact ⟨r1,⟨e,(he.2 q.1).symm.trans r2⟩,r3⟩⟩,h.X6,h.sz,
  fun m v hv=>hvx (h.fr m v ((he.1 m).trans hv))⟩

theorem RS.forget (h:RS B S ι s a w) (d:Nat):RS B S ι { s with fr:=Ex.put d .any s.fr } a w:=by
 refine ⟨h.hs,h.X6,h.sz,fun t v hv=>?_⟩
 rw [n9] at hv
 split at hv
 ·cases hv; exact ⟨_,rfl⟩
 ·exact h.fr t v hv

theorem RS.H8:∀ {l:List Oper} {s:St},RS B S ι s a w→RS B S ι (Ex.H8 l s) a w
 | [],s,h=>h
 | o::l,s,h=>by
  unfold Ex.H8
  split
  ·split
   ·exact RS.H8 (h.forget _)
   ·exact RS.H8 h
  ·exact RS.H8 h

/-! ### what is quiet -/
/-! ### a store of a plain value between an append and its own store -/
/-! ### what the check of a pending append says -/
theorem H3.cut:∀ {A C:List Oper} {o:Oper},H3 (A++o::C)→H3 (A++C)∧∀ x∈A++C,∀ d,x.dst=some d→o.dst≠some d
 | [],C,o,h=>⟨h.2,fun x hx d hxd hod=>h.1 d hod x hx hxd⟩
 | y::A,C,o,h=>by
  obtain ⟨m1,m2⟩:=H3.cut h.2
  refine ⟨⟨fun d hd x hx=>h.1 d hd x (by simp at hx ⊢; rcases hx with hx|hx<;>simp [hx]),m1⟩,fun x hx d hxd hod=>?_⟩
  rcases List.mem_cons.1 hx with rfl|hx
  ·exact h.1 d hxd o (by simp) hod
  ·exact m2 x hx d hxd hod

theorem H3.sub {f:Nat→Bool}:∀ {l:List Nat},H3 (rem ops l)→H3 (rem ops (l.filter f))
 | [],h=>h
 | i::l,h=>by
  cases ho:ops[i]? with
  | none =>
   have e:rem ops (i::l)=rem ops l:=by simp [rem,ho]
   rw [e] at h
   have:=H3.sub (f:=f) h
   rw [List.filter_cons]
   split
   ·have e:rem ops (i::l.filter f)=rem ops (l.filter f):=by simp [rem,ho]
    rw [e]; exact this
   ·exact this
  | some o =>
   rw [a05 ho] at h
   rw [List.filter_cons]
   split
   ·rw [a05 ho]
    refine ⟨fun d hd x hx=>h.1 d hd x ?_,H3.sub h.2⟩
    obtain ⟨j,hj,hjx⟩:=List.mem_filterMap.1 hx
    exact List.mem_filterMap.2 ⟨j,(List.mem_filter.1 hj).1,hjx⟩
   ·exact H3.sub h.2

section
variable {q:c35} {n:Nat} {s1:St}

theorem a1l.set {listed:Array Bool} (hcl:a1l ops listed) {i:Nat} {o:Oper} (ho:ops[i]?=some o) (hpre:∀ e∈o.after,Region.binds .any e=true→listed.getD e.on false=true):a1l ops (listed.setIfInBounds i true):=by
 intro k y hy hk e' he' hb'
 by_cases hki:k=i
 ·subst hki
  rw [ho] at hy; cases hy
  exact getD_set_true (hpre e' he' hb')
 ·rw [getD_set_ne true (Ne.symm hki)] at hk
  exact getD_set_true (hcl k y hy hk e' he' hb')

end
end
end Go.Ex

namespace Go.Ex

/-! ### drawn regions in which addresses of parts stand unordered with stores of plain values -/
theorem a0w:∀ {t:Ty} {x:t.den} {p:List Step} {r:Sigma Ty.den},i8 t x p=some r→B9 t p=some r.1:=by
 intro t
 induction t with
 | pair a b iha ihb =>
  intro x p r h
  match p,h with
  | [],h=>simp only [i8,Option.some.injEq] at h; subst h; rfl
  | .i7 0::p,h=>exact iha (x:=x.1) h
  | .i7 (n+1)::p,h=>exact ihb (x:=x.2) (p:=.i7 n::p) h
  | .idx i::p,h=>simp [i8] at h
 | arr n t ih =>
  intro x p r h
  match p,h with
  | [],h=>simp only [i8,Option.some.injEq] at h; subst h; rfl
  | .i7 i::p,h=>simp [i8] at h
  | .idx i::p,h=>exact ih h
 | b7 o t ih =>
  intro x p r h
  match p,h with
  | [],h=>cases o<;>(simp only [i8,Option.some.injEq] at h; subst h; rfl)
  | .i7 i::p,h=>cases o<;>simp [i8] at h
  | .idx i::p,h =>
   cases o with
   | true=>exact ih h
   | false=>simp [i8] at h
 | _ =>
  intro x p r h
  match p,h with
  | [],h=>simp only [i8,Option.some.injEq] at h; subst h; rfl
  | .i7 i::p,h=>simp [i8] at h
  | .idx i::p,h=>simp [i8] at h

theorem a5N:∀ {t:Ty} {p:List Step} {u:Ty},B9 t p=some u→∀ x:t.den,∃ z,i8 t x p=some ⟨u,z⟩:=by
 intro t
 induction t with
 | pair a b iha ihb =>
  intro p u h x
  match p,h with
  | [],h=>simp only [B9,Option.some.injEq] at h; subst h; exact ⟨x,rfl⟩
  | .i7 0::p,h=>exact iha h x.1
  | .i7 (n+1)::p,h=>exact ihb (p:=.i7 n::p) h x.2
  | .idx i::p,h=>simp [B9] at h
 | arr n t ih =>
  intro p u h x
  match p,h with
  | [],h=>simp only [B9,Option.some.injEq] at h; subst h; exact ⟨x,rfl⟩
  | .i7 i::p,h=>simp [B9] at h
  | .idx i::p,h=>exact ih h _
 | b7 o t ih =>
  intro p u h x
  match p,h with
  | [],h=>cases o<;>(simp only [B9,Option.some.injEq] at h; subst h; exact ⟨x,rfl⟩)
  | .i7 i::p,h=>cases o<;>simp [B9] at h
  | .idx i::p,h =>
   cases o with
   | true=>exact ih h _
   | false=>simp [B9] at h
 | _ =>
  intro p u h x
  match p,h with
  | [],h=>simp only [B9,Option.some.injEq] at h; subst h; exact ⟨x,rfl⟩
  | .i7 i::p,h=>simp [B9] at h
  | .idx i::p,h=>simp [B9] at h

theorem c3c (q:List Step):kp q []=true:=by cases q with
 | nil=>rfl
 | cons s q=>cases s<;>rfl

theorem c1B:∀ {t:Ty} {p:List Step} {u:Ty},t.U6=true→B9 t p=some u→kp [] p=true:=by
 intro t
 induction t with
 | pair a b iha ihb =>
  intro p u hn h
  simp only [Ty.U6,Bool.and_eq_true] at hn
  match p,h with
  | [],_=>rfl
  | .i7 0::p,h =>
   have h:B9 a p=some u:=h
   have:=iha hn.1 h
   simpa [kp] using this
  | .i7 (n+1)::p,h =>
   have:=ihb (p:=.i7 n::p) hn.2 h
   simpa [kp] using this
  | .idx i::p,h=>simp [B9] at h
 | arr n t ih=>intro p u hn; cases hn
 | b7 o t ih=>intro p u hn; cases hn
 | _ =>
  intro p u hn h
  match p,h with
  | [],_=>rfl
  | .i7 i::p,h=>simp [B9] at h
  | .idx i::p,h=>simp [B9] at h

theorem b9z:∀ {t:Ty} {p:List Step} {u:Ty},t.U6=true→B9 t p=some u→u.U6=true:=by
 intro t
 induction t with
 | pair a b iha ihb =>
  intro p u hn h
  match p,h with
  | [],h=>simp only [B9,Option.some.injEq] at h; subst h; exact hn
  | .i7 0::p,h=>simp only [Ty.U6,Bool.and_eq_true] at hn; exact iha hn.1 h
  | .i7 (n+1)::p,h=>simp only [Ty.U6,Bool.and_eq_true] at hn; exact ihb (p:=.i7 n::p) hn.2 h
  | .idx i::p,h=>simp [B9] at h
 | arr n t ih=>intro p u hn; cases hn
 | b7 o t ih=>intro p u hn; cases hn
 | _ =>
  intro p u hn h
  match p,h with
  | [],h=>simp only [B9,Option.some.injEq] at h; subst h; exact hn
  | .i7 i::p,h=>simp [B9] at h
  | .idx i::p,h=>simp [B9] at h

theorem c1G:∀ {t:Ty} {q p:List Step} {st:Step} {uq u:Ty},B9 t q=some uq→uq.U6=true→B9 t (p++[st])=some u→kp q p=true→kp q (p++[st])=true:=by
 intro t
 induction t with
 | pair a b iha ihb =>
  intro q p st uq u hq hn hp hk
  match q,hq with
  | [],hq=>simp only [B9,Option.some.injEq] at hq; subst hq; exact c1B hn hp
  | .i7 0::q,hq =>
   match p,hp,hk with
   | [],hp,_ =>
    cases st with
    | i7 m=>cases m with
     | zero=>simp [kp]
     | succ m=>simp [kp]
    | idx i=>simp [B9] at hp
   | .i7 0::p,hp,hk =>
    simp only [kp,if_true,List.cons_append] at hk ⊢
    exact iha hq hn hp hk
   | .i7 (m+1)::p,_,_=>simp [kp]
   | .idx i::p,hp,_=>simp [B9] at hp
  | .i7 (n+1)::q,hq =>
   match p,hp,hk with
   | [],hp,_ =>
    cases st with
    | i7 m=>simp only [List.nil_append,kp]; split<;>simp
    | idx i=>simp [B9] at hp
   | .i7 0::p,_,_=>simp [kp]
   | .i7 (m+1)::p,hp,hk =>
    have:=ihb (q:=.i7 n::q) (p:=.i7 m::p) hq hn hp (by
     simp only [kp,Nat.add_right_cancel_iff] at hk ⊢; exact hk)
    simp only [List.cons_append,kp,Nat.add_right_cancel_iff] at this ⊢; exact this
   | .idx i::p,hp,_=>simp [B9] at hp
  | .idx i::q,hq=>simp [B9] at hq
 | arr n t ih =>
  intro q p st uq u hq hn hp hk
  match q,hq with
  | [],hq=>simp only [B9,Option.some.injEq] at hq; subst hq; cases hn
  | .i7 i::q,hq=>simp [B9] at hq
  | .idx i::q,hq =>
   match p,hp,hk with
   | [],hp,_ =>
    cases st with
    | i7 m=>simp [B9] at hp
    | idx k=>simp [kp]
   | .i7 m::p,hp,_=>simp [B9] at hp
   | .idx k::p,hp,hk =>
    simp only [List.cons_append,kp] at hk ⊢
    exact ih hq hn hp hk
 | b7 o t ih =>
  intro q p st uq u hq hn hp hk
  cases o with
  | false =>
   match q,hq with
   | [],hq=>simp only [B9,Option.some.injEq] at hq; subst hq; cases hn
   | .i7 i::q,hq=>simp [B9] at hq
   | .idx i::q,hq=>simp [B9] at hq
  | true =>
   match q,hq with
   | [],hq=>simp only [B9,Option.some.injEq] at hq; subst hq; cases hn
   | .i7 i::q,hq=>simp [B9] at hq
   | .idx i::q,hq =>
    match p,hp,hk with
    | [],hp,_ =>
     cases st with
     | i7 m=>simp [B9] at hp
     | idx k=>simp [kp]
    | .i7 m::p,hp,_=>simp [B9] at hp
    | .idx k::p,hp,hk =>
     simp only [List.cons_append,kp] at hk ⊢
     exact ih hq hn hp hk
 | _ =>
  intro q p st uq u hq hn hp hk
  exfalso
  cases p with
  | nil=>cases st<;>simp [B9] at hp
  | cons s p=>cases s<;>simp [B9] at hp

theorem U5:∀ {u t:Ty},u.U6=true→u.sh=t.sh→t=u:=by
 intro u
 induction u with
 | pair a b iha ihb =>
  intro t hn h
  simp only [Ty.U6,Bool.and_eq_true] at hn
  cases t<;>simp only [Ty.sh,Ty.pair.injEq,reduceCtorEq] at h
  rw [iha hn.1 h.1,ihb hn.2 h.2]
 | arr n t ih=>intro _ hn; cases hn
 | b7 o t ih=>intro _ hn; cases hn
 | fn f=>intro _ hn; cases hn
 | map o k v=>intro _ hn; cases hn
 | box o g t ih=>intro _ hn; cases hn
 | hole t ih=>intro _ hn; cases hn
 | s4 t ih=>intro _ hn; cases hn
 | int k=>intro t hn h; cases t<;>simp only [Ty.sh,reduceCtorEq] at h; exact h.symm
 | bool=>intro t hn h; cases t<;>simp only [Ty.sh,reduceCtorEq] at h; rfl
 | str=>intro t hn h; cases t<;>simp only [Ty.sh,reduceCtorEq] at h; rfl
 | unit=>intro t hn h; cases t<;>simp only [Ty.sh,reduceCtorEq] at h; rfl

theorem a04:∀ {t:Ty} {x:t.den} {q:List Step} {v:Ty} {y:v.den} {r:Sigma Ty.den},v.U6=true→n8 t x q v y=some r→r.1=t:=by
 intro t
 induction t with
 | pair a b iha ihb =>
  intro x q v y r hn h
  match q,h with
  | [],h =>
   simp only [n8] at h
   split at h
   ·rename_i hs; cases h; exact (U5 hn hs).symm
   ·cases h
  | .i7 0::q,h =>
   simp only [n8] at h
   split at h
   ·rename_i t' z hz; cases h; have:t'=a:=iha hn hz; subst this; rfl
   ·cases h
  | .i7 (n+1)::q,h =>
   simp only [n8] at h
   split at h
   ·rename_i t' z hz; cases h; have:t'=b:=ihb hn hz; subst this; rfl
   ·cases h
  | .idx i::q,h=>simp [n8] at h
 | arr n t ih =>
  intro x q v y r hn h
  match q,h with
  | [],h =>
   simp only [n8] at h
   split at h
   ·rename_i hs; cases h; exact (U5 hn hs).symm
   ·cases h
  | .i7 i::q,h=>simp [n8] at h
  | .idx i::q,h =>
   simp only [n8] at h
   split at h
   ·split at h
    ·cases h; rfl
    ·cases h
   ·cases h
 | b7 o t ih =>
  intro x q v y r hn h
  match q,h with
  | [],h =>
   have h:(if v.sh=(Ty.b7 o t).sh then some (⟨v,y⟩:Sigma Ty.den) else none)=some r:=by cases o<;>exact h
   split at h
   ·rename_i hs; cases h; exact (U5 hn hs).symm
   ·cases h
  | .i7 i::q,h=>cases o<;>simp [n8] at h
  | .idx i::q,h =>
   cases o with
   | false=>simp [n8] at h
   | true =>
    simp only [n8] at h
    split at h
    ·split at h
     ·cases h; rfl
     ·cases h
    ·cases h
 | _ =>
  intro x q v y r hn h
  match q,h with
  | [],h =>
   simp only [n8] at h
   split at h
   ·rename_i hs; cases h; exact (U5 hn hs).symm
   ·cases h
  | .i7 i::q,h=>simp [n8] at h
  | .idx i::q,h=>simp [n8] at h

theorem b9G:∀ {t:Ty} {x x':t.den} {q p:List Step} {v:Ty} {y:v.den} {u:Ty} {z z':List u.den},v.U6=true→n8 t x q v y=some ⟨t,x'⟩→i8 t x p=some ⟨.b7 true u,z⟩→i8 t x' p=some ⟨.b7 true u,z'⟩→z.length=z'.length:=by
 intro t
 induction t with
 | pair a b iha ihb =>
  intro x x' q p v y u z z' hn hs h h'
  match q,hs with
  | [],hs =>
   exfalso
   simp only [n8] at hs
   split at hs
   ·rename_i hsh; have e:=U5 hn hsh; have:=b9z hn (e▸a0w h); cases this
   ·cases hs
  | .i7 0::q,hs =>
   simp only [n8] at hs
   split at hs
   ·rename_i t' w hw
    have et:t'=a:=a04 hn hw
    subst et
    cases hs
    match p,h,h' with
    | [],h,_=>simp [i8] at h
    | .i7 0::p,h,h'=>exact iha hn hw h h'
    | .i7 (m+1)::p,h,h' =>
     have:i8 b x.2 (.i7 m::p)=some ⟨.b7 true u,z⟩:=h
     have h2:i8 b x.2 (.i7 m::p)=some ⟨.b7 true u,z'⟩:=h'
     rw [this] at h2; cases h2; rfl
    | .idx i::p,h,_=>simp [i8] at h
   ·cases hs
  | .i7 (n+1)::q,hs =>
   simp only [n8] at hs
   split at hs
   ·rename_i t' w hw
    have et:t'=b:=a04 hn hw
    subst et
    cases hs
    match p,h,h' with
    | [],h,_=>simp [i8] at h
    | .i7 0::p,h,h' =>
     have:i8 a x.1 p=some ⟨.b7 true u,z⟩:=h
     have h2:i8 a x.1 p=some ⟨.b7 true u,z'⟩:=h'
     rw [this] at h2; cases h2; rfl
    | .i7 (m+1)::p,h,h'=>exact ihb (p:=.i7 m::p) hn hw h h'
    | .idx i::p,h,_=>simp [i8] at h
   ·cases hs
  | .idx i::q,hs=>simp [n8] at hs
 | arr n t ih =>
  intro x x' q p v y u z z' hn hs h h'
  match q,hs with
  | [],hs =>
   exfalso
   simp only [n8] at hs
   split at hs
   ·rename_i hsh; have e:=U5 hn hsh; rw [← e] at hn; cases hn
   ·cases hs
  | .i7 i::q,hs=>simp [n8] at hs
  | .idx i::q,hs =>
   simp only [n8] at hs
   split at hs
   ·rename_i t' w hw
    have et:t'=t:=a04 hn hw
    subst et
    rw [dif_pos rfl] at hs
    cases hs
    match p,h,h' with
    | [],h,_=>simp [i8] at h
    | .i7 m::p,h,_=>simp [i8] at h
    | .idx k::p,h,h' =>
     have h:i8 t' (List.getD x k.toNat t'.o4) p=some ⟨.b7 true u,z⟩:=h
     have h':i8 t' (List.getD (List.set x i.toNat w) k.toNat t'.o4) p=some ⟨.b7 true u,z'⟩:=h'
     rw [List.getD_eq_getElem?_getD,List.getElem?_set] at h'
     split at h'
     ·rename_i hik
      split at h'
      ·rw [← hik] at h; exact ih hn hw h h'
      ·rename_i hlt
       rw [List.getD_eq_getElem?_getD,List.getElem?_eq_none (by omega)] at h
       rw [h] at h'; cases h'; rfl
     ·rw [← List.getD_eq_getElem?_getD] at h'
      rw [h] at h'; cases h'; rfl
   ·cases hs
 | b7 o t ih =>
  intro x x' q p v y u z z' hn hs h h'
  match q,hs with
  | [],hs =>
   exfalso
   have hs:(if v.sh=(Ty.b7 o t).sh then some (⟨v,y⟩:Sigma Ty.den) else none)=some ⟨.b7 o t,x'⟩:=by cases o<;>exact hs
   split at hs
   ·rename_i hsh; have e:=U5 hn hsh; rw [← e] at hn; cases hn
   ·cases hs
  | .i7 i::q,hs=>cases o<;>simp [n8] at hs
  | .idx i::q,hs =>
   cases o with
   | false=>simp [n8] at hs
   | true =>
    simp only [n8] at hs
    split at hs
    ·rename_i t' w hw
     have et:t'=t:=a04 hn hw
     subst et
     rw [dif_pos rfl] at hs
     cases hs
     match p,h,h' with
     | [],h,h' =>
      simp only [i8,Option.some.injEq] at h h'
      cases h
      cases h'
      rw [List.length_set]
     | .i7 m::p,h,_=>simp [i8] at h
     | .idx k::p,h,h' =>
      have h:i8 t' (List.getD x k.toNat t'.o4) p=some ⟨.b7 true u,z⟩:=h
      have h':i8 t' (List.getD (List.set x i.toNat w) k.toNat t'.o4) p=some ⟨.b7 true u,z'⟩:=h'
      rw [List.getD_eq_getElem?_getD,List.getElem?_set] at h'
      split at h'
      ·rename_i hik
       split at h'
       ·rw [← hik] at h; exact ih hn hw h h'
       ·rename_i hlt
        rw [List.getD_eq_getElem?_getD,List.getElem?_eq_none (by omega)] at h
        rw [h] at h'; cases h'; rfl
      ·rw [← List.getD_eq_getElem?_getD] at h'
       rw [h] at h'; cases h'; rfl
    ·cases hs
 | _ =>
  intro x x' q p v y u z z' hn hs h h'
  exfalso
  match p,h with
  | [],h=>simp [i8] at h
  | .i7 i::p,h=>simp [i8] at h
  | .idx i::p,h=>simp [i8] at h
section
variable {E:Env} {ops:Array Oper} {s t:St}

theorem a9e {o:Oper} (hp:N7 o s=true) {p:Prop} {s1:St} (h:w5 E ops o s=some (p,s1)) :
  ∃ (T:TypeId) (a x:Operand) (j:Nat) (q:List Step) (v:Ty) (z:v.den) (e:i6) (r:Sigma Ty.den),o.op=.store T a x∧s.ev a=.ptr j q∧s.ev x=.val v z∧v.U6=true∧look j s.hp=some e∧n8 e.ty e.x q v z=some r∧(∃ u y,i8 e.ty e.x q=some ⟨u,y⟩) ∧
   s1=((s.kill j e.kd q).q9 j (e.y5 r)).put o.dst (.raw undef) ∧
   ∀ t:St,t.ev a=s.ev a→t.ev x=s.ev x→look j t.hp=some e→w5 E ops o t=some (p,((t.kill j e.kd q).q9 j (e.y5 r)).put o.dst (.raw undef)):=by
 unfold N7 at hp
 split at hp
 ·rename_i T a x hg ho
  split at hp
  ·rename_i j q v z ha hx
   have hr:∀ t,w5 E ops o t=I6 E o t:=fun t=>by unfold w5; rw [hg]
   rw [hr] at h
   have hop:∀ t,l6 E o t=(match t.ev a with|.ptr i p=>I2 E T i p (t.ev x) t|_=>.fail "store"):=fun t=>by unfold l6; rw [ho]; rfl
   have hrun:∀ t,I6 E o t=(match C1 E.nt o.dst with|false=>none|true=>match (l6 E o t).get with|none=>none|some (p,v,s')=>some (p,s'.put o.dst v)):=fun t=>by unfold I6; rw [ho]; rfl
   rw [hrun] at h
   split at h
   ·cases h
   ·rename_i hd
    rw [hop,ha] at h
    have hst:∀ t:St,t.ev a=s.ev a→t.ev x=s.ev x→l6 E o t=I2 E T j q (.val v z) t:=fun t h1 h2=>by rw [hop,h1,h2,ha,hx]
    simp only at h
    rw [hx] at h
    cases hob:look j s.hp with
    | none =>
     have:I2 E T j q (.val v z) s=.fail "store: object":=by unfold I2 St.obj; rw [hob]
     rw [this] at h; cases h
    | some e =>
     cases hgp:i8 e.ty e.x q with
     | none =>
      have:I2 E T j q (.val v z) s=.fail "store: path":=by unfold I2 St.obj; rw [hob]; simp only [hgp]
      rw [this] at h; cases h
     | some uy =>
      obtain ⟨u,y⟩:=uy
      cases hc:F3 E T u with
      | false =>
       have:I2 E T j q (.val v z) s=.fail "store: type":=by unfold I2 St.obj; rw [hob]; simp only [hgp,hc]
       rw [this] at h; cases h
      | true =>
       have hsA:∀ t:St,look j t.hp=some e→I2 E T j q (.val v z) t=(match n8 e.ty e.x q v z with
         | some r=>.ok (.raw undef) ((t.kill j e.kd q).q9 j (e.y5 r))
         | none=>.fail "store: value"):=fun t ht=>by
        unfold I2 St.obj; rw [ht]; simp only [hgp,hc,AV.W1,AV.P5,St.r7]
        rw [b8n hp]
        cases n8 e.ty e.x q v z with
        | none=>rfl
        | some r=>rfl
       rw [hsA s hob] at h
       cases hset:n8 e.ty e.x q v z with
       | none=>rw [hset] at h; cases h
       | some r =>
        rw [hset] at h
        simp only [OR.get,Option.some.injEq,Prod.mk.injEq] at h
        obtain ⟨rfl,rfl⟩:=h
        refine ⟨T,a,x,j,q,v,z,e,r,ho,ha,hx,hp,hob,hset,⟨u,y,hgp⟩,rfl,fun t h1 h2 h3=>?_⟩
        rw [hr,hrun,hd]
        simp only
        rw [hst t h1 h2,hsA t h3,hset]
        rfl
  ·cases hp
 ·cases hp

theorem b7B {T:List Nat} {f:AV→AV} (hf:Trim T f) {u v:AV} (h:f u=v) (hv:v.ref=true∨∃ t z,v=.val t z):u=v:=by
 cases u with
 | cons a b=>rw [hf.cons] at h; subst h; rcases hv with hv|⟨_,_,hv⟩<;>cases hv
 | G2 l=>rw [hf.G2] at h; subst h; rcases hv with hv|⟨_,_,hv⟩<;>cases hv
 | s8 g l=>rw [hf.s8] at h; subst h; rcases hv with hv|⟨_,_,hv⟩<;>cases hv
 | bx l=>rw [hf.bx] at h; subst h; rcases hv with hv|⟨_,_,hv⟩<;>cases hv
 | rc g l=>rw [hf.rc] at h; subst h; rcases hv with hv|⟨_,_,hv⟩<;>cases hv
 | ptr i p=>rcases hf.atom _ (rfl:(AV.ptr i p).ref=true) with e|e<;>rw [e] at h<;>first|exact h|(subst h; rcases hv with hv|⟨_,_,hv⟩<;>cases hv)
 | at_ i p=>rcases hf.atom _ (rfl:(AV.at_ i p).ref=true) with e|e<;>rw [e] at h<;>first|exact h|(subst h; rcases hv with hv|⟨_,_,hv⟩<;>cases hv)
 | sub i p x y=>rcases hf.atom _ (rfl:(AV.sub i p x y).ref=true) with e|e<;>rw [e] at h<;>first|exact h|(subst h; rcases hv with hv|⟨_,_,hv⟩<;>cases hv)
 | _=>rw [hf.plain _ rfl] at h; exact h
theorem c1m:∀ {t:Ty} {x:t.den} {q:List Step} {v:Ty} {y:v.den} {r:Sigma Ty.den},v.U6=true→n8 t x q v y=some r→B9 t q=some v:=by
 intro t
 induction t with
 | pair a b iha ihb =>
  intro x q v y r hn h
  match q,h with
  | [],h =>
   simp only [n8] at h
   split at h
   ·rename_i hs; rw [U5 hn hs]; simp [B9]
   ·cases h
  | .i7 0::q,h =>
   simp only [n8] at h
   split at h
   ·rename_i t' z hz; exact iha hn hz
   ·cases h
  | .i7 (n+1)::q,h =>
   simp only [n8] at h
   split at h
   ·rename_i t' z hz; exact ihb hn hz
   ·cases h
  | .idx i::q,h=>simp [n8] at h
 | arr n t ih =>
  intro x q v y r hn h
  match q,h with
  | [],h =>
   simp only [n8] at h
   split at h
   ·rename_i hs; rw [U5 hn hs]; simp [B9]
   ·cases h
  | .i7 i::q,h=>simp [n8] at h
  | .idx i::q,h =>
   simp only [n8] at h
   split at h
   ·rename_i t' z hz; exact ih hn hz
   ·cases h
 | b7 o t ih =>
  intro x q v y r hn h
  match q,h with
  | [],h =>
   have h:(if v.sh=(Ty.b7 o t).sh then some (⟨v,y⟩:Sigma Ty.den) else none)=some r:=by cases o<;>exact h
   split at h
   ·rename_i hs; rw [U5 hn hs]; simp [B9]
   ·cases h
  | .i7 i::q,h=>cases o<;>simp [n8] at h
  | .idx i::q,h =>
   cases o with
   | false=>simp [n8] at h
   | true =>
    simp only [n8] at h
    split at h
    ·rename_i t' z hz; exact ih hn hz
    ·cases h
 | _ =>
  intro x q v y r hn h
  match q,h with
  | [],h =>
   simp only [n8] at h
   split at h
   ·rename_i hs; rw [U5 hn hs]; simp [B9]
   ·cases h
  | .i7 i::q,h=>simp [n8] at h
  | .idx i::q,h=>simp [n8] at h

theorem a9E {y:Oper} {s1:St} (hy:H2 y s1=true) {q:Prop} {s2:St} (h:w5 E ops y s1=some (q,s2)) :
  ∃ (ins:List Operand) (a:Operand) (d:Nat) (pp:List Step) (st:Step) (u:Ty) (z:u.den),(∀ m,Operand.tmp m∈ins→m∈looks ops y)∧a∈ins∧(s1.ev a=.at_ d pp∨s1.ev a=.ptr d pp)∧s1.part d pp=some ⟨u,z⟩∧s2=s1.put y.dst (.ptr d (pp++[st]))∧(∃ w,B9 u [st]=some w) ∧
   (∀ t:St,(∀ i∈ins,t.ev i=s1.ev i)→(∃ z':u.den,t.part d pp=some ⟨u,z'⟩∧∀ v (l l':List v.den),(⟨u,z⟩:Sigma Ty.den)=⟨.b7 true v,l⟩→(⟨u,z'⟩:Sigma Ty.den)=⟨.b7 true v,l'⟩→l'.length=l.length)→H2 y t=true∧∃ q',w5 E ops y t=some (q',t.put y.dst (.ptr d (pp++[st])))∧(q→q')) ∧
   (∀ i∈ins,s1.ev i=s1.ev a∨∃ k n,s1.ev i=.val (.int k) n):=by
 have hr:y.guard=none→∀ t,w5 E ops y t=I6 E y t:=fun hg t=>by unfold w5; rw [hg]
 unfold H2 at hy
 split at hy
 ·rename_i T a i hg ho
  split at hy
  ·rename_i d pp k n ha hi
   rw [hr hg] at h
   have hrun:∀ t,I6 E y t=(match C1 E.nt y.dst with|false=>none|true=>match (l6 E y t).get with|none=>none|some (p,v,s')=>some (p,s'.put y.dst v)):=fun t=>by unfold I6; rw [ho]; rfl
   have hop:∀ t:St,t.ev a=.at_ d pp→t.ev i=.val (.int k) n→l6 E y t=(match t.part d pp with
     | some ⟨.b7 true u,z⟩=>(match F3 E T (.b7 true u) with
      | true=>.C9 (0≤n∧n<List.length z) (.ptr d (pp++[.idx n])) t
      | false=>.fail "indexAddr: type")
     | _=>.fail "indexAddr: type"):=fun t h1 h2=>by unfold l6; rw [ho]; simp only [h1,h2]; rfl
   rw [hrun,hop s1 ha hi] at h
   split at h
   ·cases h
   ·rename_i hd
    split at h
    ·cases h
    ·rename_i p v s' hget
     split at hget
     ·rename_i u z hpt
      split at hget
      ·rename_i hc
       simp only [OR.get,Option.some.injEq,Prod.mk.injEq] at hget h
       obtain ⟨rfl,rfl,rfl⟩:=hget
       obtain ⟨rfl,rfl⟩:=h
       refine ⟨[a,i],a,d,pp,.idx n,.b7 true u,z,?_,by simp,.inl ha,hpt,rfl,⟨u,by simp [B9]⟩,?_,?_⟩
       ·intro m hm
        refine J7 ?_
        rw [ho]; simp [Op.operands] at hm ⊢; rcases hm with hm|hm<;>simp [← hm]
       ·rintro t hin ⟨z',hz',hlen⟩
        have h1:=(hin a (by simp)).trans ha
        have h2:=(hin i (by simp)).trans hi
        have hl:=hlen u z z' rfl rfl
        refine ⟨by unfold H2; rw [hg,ho]; simp only [h1,h2],(0≤n∧n<List.length z'),?_,fun hq=>by rw [hl]; exact hq⟩
        rw [hr hg,hrun,hd,hop t h1 h2,hz']
        simp only [hc,OR.get]
       ·intro o ho'
        simp at ho'
        rcases ho' with rfl|rfl
        ·exact .inl rfl
        ·exact .inr ⟨k,n,hi⟩
      ·cases hget
     ·cases hget
  ·cases hy
 ·rename_i T a n hg ho
  split at hy
  ·rename_i d pp ha
   rw [hr hg] at h
   have hrun:∀ t,I6 E y t=(match C1 E.nt y.dst with|false=>none|true=>match (l6 E y t).get with|none=>none|some (p,v,s')=>some (p,s'.put y.dst v)):=fun t=>by unfold I6; rw [ho]; rfl
   have hop:∀ t:St,t.ev a=.ptr d pp→l6 E y t=(match t.part d pp with
     | some ⟨u,z⟩=>(match F3 E T u,i8 u z [.i7 n] with
      | true,some _=>.ok (.ptr d (pp++[.i7 n])) t
      | _,_=>.fail "fieldAddr: type")
     | none=>.fail "fieldAddr: path"):=fun t h1=>by unfold l6; rw [ho]; simp only [h1]; rfl
   rw [hrun,hop s1 ha] at h
   split at h
   ·cases h
   ·rename_i hd
    split at h
    ·cases h
    ·rename_i p v s' hget
     split at hget
     ·rename_i u z hpt
      split at hget
      ·rename_i r hc hgf
       simp only [OR.get,Option.some.injEq,Prod.mk.injEq] at hget h
       obtain ⟨rfl,rfl,rfl⟩:=hget
       obtain ⟨rfl,rfl⟩:=h
       refine ⟨[a],a,d,pp,.i7 n,u,z,?_,by simp,.inr ha,hpt,rfl,⟨_,a0w hgf⟩,?_,?_⟩
       ·intro m hm
        refine J7 ?_
        rw [ho]; simp [Op.operands] at hm ⊢; simp [← hm]
       ·rintro t hin ⟨z',hz',_⟩
        have h1:=(hin a (by simp)).trans ha
        obtain ⟨w',hw'⟩:=a5N (a0w hgf) z'
        refine ⟨by unfold H2; rw [hg,ho]; simp only [h1],True,?_,fun _=>trivial⟩
        rw [hr hg,hrun,hd,hop t h1,hz']
        simp only [hc,hw',OR.get]
       ·intro o ho'
        simp at ho'
        subst ho'
        exact .inl rfl
      ·cases hget
     ·cases hget
  ·cases hy
 ·cases hy

theorem a7e {y:Oper} (hy:a3w y=true) (s:St):i9 E y s=[]:=by
 unfold a3w at hy
 split at hy
 ·rename_i ho; unfold i9; rw [ho]
 ·rename_i ho; unfold i9; rw [ho]
 ·cases hy

theorem b8S {y:Oper} (hy:H2 y s=true):a3w y=true:=by
 unfold H2 at hy
 unfold a3w
 split at hy
 ·rename_i hg ho; simp only
 ·rename_i hg ho; simp only
 ·cases hy

theorem a4z {o:Oper} {T:TypeId} {a x:Operand} (ho:o.op=.store T a x) (v:AV):A5 o v=v:=by
 rcases a0a o with e|⟨_,x,j,hop,_⟩
 ·exact e v
 ·rw [ho] at hop; cases hop

theorem c2O {x y:Oper} (hym:y∈ops.toList) (hi:indep ops x y=true) (hu:uniq s.fr) {p q:Prop} {s1 s2:St} (h1:w5 E ops x s=some (p,s1)) (h2:w5 E ops y s1=some (q,s2)) (hx:N7 x s=true) (hy:H2 y s1=true) :
  ∃ q' s1' s2',w5 E ops y s=some (q',s1')∧(q→q')∧H2 y s=true∧w5 E ops x s1'=some (p,s2')∧uniq s1'.fr∧uniq s2'.fr∧E5 s2' s2∧i9 E y s=i9 E y s1∧i9 E x s1'=i9 E x s ∧
   (∀ m∈looks ops x,A5 x (s1'.get m)=A5 x (s.get m))∧∀ (z:Oper) m,∀ i∈i9 E x s,(A5 z (s1'.get m)).f7 i=true→(A5 z (s.get m)).f7 i=true∨m∈a8P ops:=by
 obtain ⟨ax,ay,hmod⟩:=a1V hi
 have hdd:∀ d,x.dst=some d→y.dst=some d→False:=fun d e1 e2=>hmod (by rw [e1,e2])
 obtain ⟨T,xa,xx,j,qq,v,z,e,r,ho,hxa,hxx,hnv,hob,hset,⟨u0,y0,hgq⟩,rfl,hback⟩:=a9e hx h1
 obtain ⟨ins,a,d,pp,st,u,zz,hins,hain,hva,hpt,rfl,⟨w,hst⟩,hfwd,hkind⟩:=a9E hy h2
 -- slots in the store's state
 have hfr:∀ n,look n (((s.kill j e.kd qq).q9 j (e.y5 r)).put x.dst (.raw undef)).fr=if x.dst=some n then some (.raw undef) else (look n s.fr).map (AV.kill j e.kd qq):=fun n=>by
  rw [E1]; split
  ·rfl
  ·exact E2 n _ _
 have hget:∀ m,x.dst≠some m→(((s.kill j e.kd qq).q9 j (e.y5 r)).put x.dst (.raw undef)).get m=(s.get m).kill j e.kd qq:=fun m hm=>by
  simp only [St.get,hfr,if_neg hm]
  cases look m s.fr<;>rfl
 have hev:∀ o∈ins,(((s.kill j e.kd qq).q9 j (e.y5 r)).put x.dst (.raw undef)).ev o=(s.ev o).kill j e.kd qq:=by
  intro o hoi
  cases o with
  | tmp m =>
   have hg:=hget m (fun e=>ax m e (hins m hoi))
   rw [a3o,a3o,hg]
   unfold gq
   cases Nat.beq m F2<;>rfl
  | const c =>
   show ofConst c=(ofConst c).kill j e.kd qq
   exact (a6c (a0H c j)).symm
  | global g=>rfl
  | func f=>rfl
 have hback2:∀ o∈ins,s.ev o=(((s.kill j e.kd qq).q9 j (e.y5 r)).put x.dst (.raw undef)).ev o:=by
  intro o hoi
  refine b7B (Trim.kill j e.kd qq) (hev o hoi).symm ?_
  rcases hkind o hoi with h9|⟨k,n,h9⟩
  ·rw [h9]
   rcases hva with h9|h9<;>rw [h9]<;>exact .inl rfl
  ·rw [h9]; exact .inr ⟨_,_,rfl⟩
 -- the part in the store's state
 have hpart:∃ z':u.den,s.part d pp=some ⟨u,z'⟩∧∀ v (l l':List v.den),(⟨u,zz⟩:Sigma Ty.den)=⟨.b7 true v,l⟩→(⟨u,z'⟩:Sigma Ty.den)=⟨.b7 true v,l'⟩→l'.length=l.length:=by
  by_cases hdj:d=j
  ·subst hdj
   have hobj:look d (((s.kill d e.kd qq).q9 d (e.y5 r)).put x.dst (.raw undef)).hp=some (e.y5 r):=by rw [G7]; simp [St.q9,n9]
   unfold St.part St.obj at hpt ⊢
   rw [hobj] at hpt
   rw [hob]
   simp only at hpt ⊢
   obtain ⟨r1,r2⟩:=r
   have hr1:r1=e.ty:=a04 hnv hset
   have key:∀ (t:Ty) (x0 x1:t.den),n8 t x0 qq v z=some ⟨t,x1⟩→i8 t x1 pp=some ⟨u,zz⟩→∃ z':u.den,i8 t x0 pp=some ⟨u,z'⟩∧∀ v (l l':List v.den),(⟨u,zz⟩:Sigma Ty.den)=⟨.b7 true v,l⟩→(⟨u,z'⟩:Sigma Ty.den)=⟨.b7 true v,l'⟩→l'.length=l.length:=by
    intro t x0 x1 hs hg
    obtain ⟨z',hz'⟩:=a5N (a0w hg) x0
    refine ⟨z',hz',fun v l l' e1 e2=>?_⟩
    cases e1; cases e2
    exact b9G hnv hs hz' hg
   cases e with
   | var t0 x0=>cases hr1; exact key _ x0 r2 hset hpt
   | own t0 x0=>cases hr1; exact key _ x0 r2 hset hpt
   | F7=>exact ⟨zz,hpt,fun v l l' e1 e2=>by rw [e1] at e2; cases e2; rfl⟩
  ·refine ⟨zz,?_,fun v l l' e1 e2=>by rw [e1] at e2; cases e2; rfl⟩
   rw [← hpt]
   unfold St.part St.obj
   rw [G7]
   simp only [St.q9,n9,if_neg hdj]
   rfl
 obtain ⟨hadr,q',hrun,hqq⟩:=hfwd s hback2 hpart
 have hu1:=D4 hu hrun
 have hadO:=b8S hy
 -- the new address stays behind the store
 have hkp:AV.kill j e.kd qq (.ptr d (pp++[st]))=.ptr d (pp++[st]):=by
  by_cases hdj:d=j
  ·subst hdj
   have hsurv:kp qq pp=true:=by
    have h9:=hev a hain
    rw [hback2 a hain] at h9
    rcases hva with hv|hv
    ·rw [hv] at h9
     cases pp with
     | nil=>exact c3c qq
     | cons s0 pp =>
      simp only [AV.kill,AV.map,AV.Z1,AV.f7,Nat.beq_refl] at h9
      split at h9
      ·rename_i hk; rw [Bool.and_eq_true] at hk; exact hk.2
      ·cases h9
    ·rw [hv] at h9
     simp only [AV.kill,AV.map,AV.Z1,AV.f7,Nat.beq_refl] at h9
     split at h9
     ·assumption
     ·cases h9
   obtain ⟨z',hz',_⟩:=hpart
   have hpt2:i8 e.ty e.x pp=some ⟨u,z'⟩:=by
    unfold St.part St.obj at hz'; rw [hob] at hz'; exact hz'
   have htp:B9 e.ty (pp++[st])=some w:=by
    have:∀ {t:Ty} {p:List Step} {u:Ty},B9 t p=some u→B9 t (p++[st])=B9 u [st]:=by
     intro t
     induction t with
     | pair a b iha ihb =>
      intro p u h
      match p,h with
      | [],h=>simp only [B9,Option.some.injEq] at h; subst h; rfl
      | .i7 0::p,h=>exact iha h
      | .i7 (n+1)::p,h=>exact ihb (p:=.i7 n::p) h
      | .idx i::p,h=>simp [B9] at h
     | arr n t ih =>
      intro p u h
      match p,h with
      | [],h=>simp only [B9,Option.some.injEq] at h; subst h; rfl
      | .i7 i::p,h=>simp [B9] at h
      | .idx i::p,h=>exact ih h
     | b7 o t ih =>
      intro p u h
      match p,h with
      | [],h=>cases o<;>(simp only [B9,Option.some.injEq] at h; subst h; rfl)
      | .i7 i::p,h=>cases o<;>simp [B9] at h
      | .idx i::p,h =>
       cases o with
       | true=>exact ih h
       | false=>simp [B9] at h
     | _ =>
      intro p u h
      match p,h with
      | [],h=>simp only [B9,Option.some.injEq] at h; subst h; rfl
      | .i7 i::p,h=>simp [B9] at h
      | .idx i::p,h=>simp [B9] at h
    rw [this (a0w hpt2)]; exact hst
   have:=c1G (c1m hnv hset) hnv htp hsurv
   simp only [AV.kill,AV.map,AV.Z1,AV.f7,Nat.beq_refl,this]
  ·exact a6c (by
    simp only [AV.f7]
    cases hb9:Nat.beq j d with
    | false=>rfl
    | true=>exact absurd (Nat.eq_of_beq_eq_true hb9).symm hdj)
 have hevx:∀ o,(∀ m,o=.tmp m→m∈looks ops x)→(s.put y.dst (.ptr d (pp++[st]))).ev o=s.ev o:=by
  intro o hm
  cases o with
  | tmp m =>
   refine K0 (t:=s.put y.dst _) ?_
   simp only [St.get,E1]
   rw [if_neg (fun e=>ay m e (hm m rfl))]
  | _=>rfl
 have hlx:∀ o,o=xa∨o=xx→∀ m,o=.tmp m→m∈looks ops x:=by
  intro o hoo m hm
  refine J7 ?_
  rw [ho]; simp [Op.operands]
  rcases hoo with rfl|rfl<;>simp [hm]
 have hb:=hback (s.put y.dst (.ptr d (pp++[st]))) (hevx xa (hlx xa (.inl rfl))) (hevx xx (hlx xx (.inr rfl))) (by rw [G7]; exact hob)
 have hgx:∀ m∈looks ops x,(s.put y.dst (.ptr d (pp++[st]))).get m=s.get m:=fun m hm=>by
  simp only [St.get,E1]
  rw [if_neg (fun e=>ay m e hm)]
 refine ⟨q',_,_,hrun,hqq,hadr,hb,hu1,D4 hu1 hb,⟨fun n=>?_,fun i=>?_⟩,?_,?_,fun m hm=>by rw [hgx m hm],?_⟩
 ·rw [E1,E1,hfr]
  have e2:look n ((((s.put y.dst (.ptr d (pp++[st]))).kill j e.kd qq).q9 j (e.y5 r))).fr=(look n (s.put y.dst (.ptr d (pp++[st]))).fr).map (AV.kill j e.kd qq):=E2 n _ _
  rw [e2,E1]
  by_cases c1:x.dst=some n
  ·rw [if_pos c1,if_neg (fun c2=>hdd n c1 c2),if_pos c1]
  ·rw [if_neg c1,if_neg c1]
   by_cases c2:y.dst=some n
   ·rw [if_pos c2,if_pos c2,Option.map_some,hkp]
   ·rw [if_neg c2,if_neg c2]
 ·rw [G7,G7,G7]
  simp only [St.q9,n9,St.kill,G7]
 ·rw [a7e hadO,a7e hadO]
 ·exact a1P (fun m hm=>by rw [hgx m hm])
 ·intro zo m i hi hm
  by_cases c2:y.dst=some m
  ·refine .inr (List.mem_filterMap.2 ⟨y,hym,?_⟩)
   rw [hadO]; exact c2
  ·have:(s.put y.dst (.ptr d (pp++[st]))).get m=s.get m:=by
    simp only [St.get,E1]; rw [if_neg c2]
   rw [this] at hm
   exact .inl hm
end

section
variable {E:Env} {ops:Array Oper} {s t:St}
theorem a4D {y:Oper} {j:Nat} {kd:Bool×Ty} {q:List Step} (h:Z6 y s=some (j,kd,q)):N7 y s=true∧∃ T a x e,y.op=.store T a x∧s.ev a=.ptr j q∧look j s.hp=some e∧e.kd=kd:=by
 unfold Z6 at h
 split at h
 ·rename_i T a x hp ho
  split at h
  ·rename_i j' q' ha
   cases hl:look j' s.hp with
   | none=>rw [hl] at h; cases h
   | some e =>
    rw [hl] at h
    simp only [Option.map_some,Option.some.injEq,Prod.mk.injEq] at h
    obtain ⟨rfl,rfl,rfl⟩:=h
    exact ⟨hp,T,a,x,e,ho,ha,hl,rfl⟩
  ·cases h
 ·cases h

theorem b4v {y:Oper} (hp:N7 y s=true) {T a x} (ho:y.op=.store T a x) {j:Nat} {q:List Step} (ha:s.ev a=.ptr j q) {e:i6} (he:look j s.hp=some e):Z6 y s=some (j,e.kd,q):=by
 unfold Z6
 rw [hp,ho]
 simp only [ha,he,Option.map_some]

theorem b8l {j:Nat} {kd:Bool×Ty} {q:List Step} {s:St} {m:Nat} (h:a2E j kd q (s.ev (.tmp m))=true):s.get m=s.ev (.tmp m) :=
 S8 rfl (fun e=>by rw [e] at h; cases h)

theorem a0N {j:Nat} {kd:Bool×Ty} {q:List Step} {v:AV} (h:a2E j kd q v=true):v.kill j kd q=v:=by
 cases v<;>simp only [a2E] at h<;>try (cases h; done)
 ·rename_i t x; rfl
 ·rename_i i p
  simp only [AV.kill,AV.map,AV.Z1,AV.f7]
  cases hb:Nat.beq j i with
  | false=>rfl
  | true=>rw [hb] at h; simp only [Bool.not_true,Bool.false_or] at h; simp only [h]
 ·rename_i i p
  rcases (Trim.kill j kd q).atom (.at_ i p) rfl with e|e
  ·exact e
  ·have e9:AV.Z1 j kd q (.at_ i p)=.any:=e
   rw [e9] at h
   show AV.Z1 j kd q (.at_ i p)=.at_ i p
   cases hb:Nat.beq j i with
   | false=>simp only [AV.Z1,AV.f7,hb]
   | true=>rw [hb] at h; cases h

theorem a6C {o:Oper} (hg:o.guard=none) {m:Nat} (h:m∈looks ops o):Operand.tmp m∈o.op.operands.toList:=by
 unfold looks at h
 rw [hg] at h
 simp only [List.append_nil] at h
 obtain ⟨x,hx,hm⟩:=List.mem_filterMap.1 h
 cases x<;>simp at hm
 rw [← hm]; exact hx

theorem b4F {i:Nat} {pp:List Step} {u:Ty} {z:u.den} (hh:P8 t i=P8 s i) (h:s.part i pp=some ⟨u,z⟩):∃ z':u.den,t.part i pp=some ⟨u,z'⟩:=by
 unfold St.part St.obj at h ⊢
 unfold P8 at hh
 cases hl:look i s.hp with
 | none=>rw [hl] at h; cases h
 | some e =>
  rw [hl] at h hh
  cases hl2:look i t.hp with
  | none=>rw [hl2] at hh; cases hh
  | some e' =>
   rw [hl2] at hh
   simp only [Option.map_some,Option.some.injEq,i6.kd,Prod.mk.injEq] at hh
   have h9:=a0w h
   rw [← hh.2] at h9
   exact a5N h9 e'.x

theorem b9M {o:Oper} {j:Nat} {kd:Bool×Ty} {q:List Step} (hk:a1U o s j kd q=true) {p:Prop} {s1:St} (h:w5 E ops o s=some (p,s1)) :
  ∃ v:AV,s1=s.put o.dst v∧v.kill j kd q=v∧(∀ m∈looks ops o,(s.get m).kill j kd q=s.get m)∧(∀ z,A5 o z=z)∧(∀ t,i9 E o t=[]) ∧
   ∀ t:St,(∀ m∈looks ops o,t.get m=s.get m)→(∀ i,P8 t i=P8 s i)→w5 E ops o t=some (p,t.put o.dst v):=by
 have hvw:∀ z,(∀ T a x,o.op≠.store T a x)→(∀ x j,o.op≠.extract x j)→A5 o z=z:=by
  intro z _ he
  rcases a0a o with e|⟨_,x,j,hop,_⟩
  ·exact e z
  ·exact absurd hop (he x j)
 unfold a1U at hk
 split at hk
 ·rename_i a hg ho
  have hr:∀ t,w5 E ops o t=(match C1 E.nt o.dst with|false=>none|true=>some (True,t.put o.dst (t.ev a))):=fun t=>by unfold w5 I6 l6; rw [hg,ho]; rfl
  have hkv:=a0N hk
  have hin:∀ m∈looks ops o,a=.tmp m:=fun m hm=>by
   have:=a6C hg hm
   rw [ho] at this
   simpa [Op.operands,eq_comm] using this
  rw [hr] at h
  split at h
  ·cases h
  ·rename_i hd
   simp only [Option.some.injEq,Prod.mk.injEq] at h
   obtain ⟨rfl,rfl⟩:=h
   refine ⟨s.ev a,rfl,hkv,fun m hm=>?_,fun z=>hvw z (by rw [ho]; intros; nofun) (by rw [ho]; intros; nofun),fun t=>by unfold i9; rw [ho],fun t ht _=>?_⟩
   ·have:=hin m hm; subst this; rw [b8l hk]; exact hkv
   ·rw [hr,hd]
    have:t.ev a=s.ev a:=by
     cases a with
     | tmp m=>exact K0 (ht m (J7 (by rw [ho]; simp [Op.operands])))
     | _=>rfl
    rw [this]
 ·rename_i T a n hg ho
  split at hk
  ·rename_i i pp ha
   rw [Bool.and_eq_true] at hk
   have hr:∀ t,w5 E ops o t=I6 E o t:=fun t=>by unfold w5; rw [hg]
   have hrun:∀ t,I6 E o t=(match C1 E.nt o.dst with|false=>none|true=>match (l6 E o t).get with|none=>none|some (p,v,s')=>some (p,s'.put o.dst v)):=fun t=>by unfold I6; rw [ho]; rfl
   have hop:∀ t:St,t.ev a=.ptr i pp→l6 E o t=(match t.part i pp with
     | some ⟨u,z⟩=>(match F3 E T u,i8 u z [.i7 n] with
      | true,some _=>.ok (.ptr i (pp++[.i7 n])) t
      | _,_=>.fail "fieldAddr: type")
     | none=>.fail "fieldAddr: path"):=fun t h1=>by unfold l6; rw [ho]; simp only [h1]; rfl
   have hin:∀ m∈looks ops o,a=.tmp m:=fun m hm=>by
    have:=a6C hg hm
    rw [ho] at this
    simpa [Op.operands,eq_comm] using this
   rw [hr,hrun,hop s ha] at h
   split at h
   ·cases h
   ·rename_i hd
    split at h
    ·cases h
    ·rename_i p v s' hget
     split at hget
     ·rename_i u z hpt
      split at hget
      ·rename_i r hc hgf
       simp only [OR.get,Option.some.injEq,Prod.mk.injEq] at hget h
       obtain ⟨rfl,rfl,rfl⟩:=hget
       obtain ⟨rfl,rfl⟩:=h
       refine ⟨_,rfl,a0N hk.2,fun m hm=>?_,fun z=>hvw z (by rw [ho]; intros; nofun) (by rw [ho]; intros; nofun),fun t=>by unfold i9; rw [ho],fun t ht hh=>?_⟩
       ·have:=hin m hm; subst this; rw [S8 ha nofun]; exact a0N hk.1
       ·have h1:t.ev a=.ptr i pp:=by
         rw [← ha]
         cases a with
         | tmp m=>exact K0 (ht m (J7 (by rw [ho]; simp [Op.operands])))
         | _=>rfl
        obtain ⟨z',hz'⟩:=b4F (hh i) hpt
        obtain ⟨w',hw'⟩:=a5N (a0w hgf) z'
        rw [hr,hrun,hd,hop t h1,hz']
        simp only [hc,hw',OR.get]
      ·cases hget
     ·cases hget
  ·cases hk
 ·rename_i T a hg ho
  split at hk
  ·rename_i i pp ha
   simp only [Bool.and_eq_true] at hk
   obtain ⟨⟨k1,k2⟩,k3⟩:=hk
   have hr:∀ t,w5 E ops o t=I6 E o t:=fun t=>by unfold w5; rw [hg]
   have hrun:∀ t,I6 E o t=(match C1 E.nt o.dst with|false=>none|true=>match (l6 E o t).get with|none=>none|some (p,v,s')=>some (p,s'.put o.dst v)):=fun t=>by unfold I6; rw [ho]; rfl
   have hop:∀ t:St,t.ev a=.ptr i pp→l6 E o t=(match t.part i pp with
     | some ⟨u,y⟩=>(match F3 E T u with
      | true=>(match u.shared with|true=>.ok (.val u y) t|false=>.ok (.at_ i pp) t)
      | false=>.fail "load: type")
     | none=>.fail "load: path"):=fun t h1=>by unfold l6; rw [ho]; simp only [h1]; rfl
   have hin:∀ m∈looks ops o,a=.tmp m:=fun m hm=>by
    have:=a6C hg hm
    rw [ho] at this
    simpa [Op.operands,eq_comm] using this
   rw [hr,hrun,hop s ha] at h
   split at h
   ·cases h
   ·rename_i hd
    split at h
    ·cases h
    ·rename_i p v s' hget
     split at hget
     ·rename_i u z hpt
      have hus:u.shared=false:=by
       split at k3
       ·rename_i k hk9
        split at k3
        ·rename_i u' hu'
         have:u'=u:=by
          unfold St.part St.obj at hpt
          unfold P8 at hk9
          cases hl:look i s.hp with
          | none=>rw [hl] at hpt; cases hpt
          | some e =>
           rw [hl] at hpt hk9
           simp only [Option.map_some,Option.some.injEq] at hk9
           subst hk9
           have h9:=a0w hpt
           have h8:B9 e.ty pp=some u':=hu'
           rw [h9] at h8; cases h8; rfl
         subst this
         simpa using k3
        ·cases k3
       ·cases k3
      split at hget
      ·rename_i hc
       rw [hus] at hget
       simp only [OR.get,Option.some.injEq,Prod.mk.injEq] at hget h
       obtain ⟨rfl,rfl,rfl⟩:=hget
       obtain ⟨rfl,rfl⟩:=h
       refine ⟨_,rfl,a0N k2,fun m hm=>?_,fun z=>hvw z (by rw [ho]; intros; nofun) (by rw [ho]; intros; nofun),fun t=>by unfold i9; rw [ho],fun t ht hh=>?_⟩
       ·have:=hin m hm; subst this; rw [S8 ha nofun]; exact a0N k1
       ·have h1:t.ev a=.ptr i pp:=by
         rw [← ha]
         cases a with
         | tmp m=>exact K0 (ht m (J7 (by rw [ho]; simp [Op.operands])))
         | _=>rfl
        obtain ⟨z',hz'⟩:=b4F (hh i) hpt
        rw [hr,hrun,hd,hop t h1,hz']
        simp only [hc,hus,OR.get]
      ·cases hget
     ·cases hget
  ·cases hk
 ·cases hk

theorem c2P {x y:Oper} (hi:indep ops x y=true) (hu:uniq s.fr) {p q:Prop} {s1 s2:St} (h1:w5 E ops x s=some (p,s1)) (h2:w5 E ops y s1=some (q,s2)) {j:Nat} {kd:Bool×Ty} {qq:List Step} (hs:Z6 y s1=some (j,kd,qq)) (hk:a1U x s j kd qq=true) :
  ∃ s1' s2',w5 E ops y s=some (q,s1')∧w5 E ops x s1'=some (p,s2')∧uniq s1'.fr∧uniq s2'.fr∧E5 s2' s2∧i9 E y s=i9 E y s1∧i9 E x s1'=i9 E x s ∧
   (∀ m∈looks ops x,A5 x (s1'.get m)=A5 x (s.get m))∧i9 E x s=[]∧(∀ i,P8 s1' i=P8 s i)∧Z6 y s=some (j,kd,qq)∧H2 y s1=false:=by
 obtain ⟨ax,ay,hmod⟩:=a1V hi
 have hdd:∀ d,x.dst=some d→y.dst=some d→False:=fun d e1 e2=>hmod (by rw [e1,e2])
 obtain ⟨v,rfl,hvk,hlk,hvw,htk,hagain⟩:=b9M hk h1
 obtain ⟨hps,T0,a0,x0,e0,ho0,ha0,he0,hkd0⟩:=a4D hs
 obtain ⟨T,xa,xx,j',qq',v9,z,e,r,ho,hxa,hxx,hnv,hob,hset,⟨u0,y0,hgq⟩,rfl,hback⟩:=a9e hps h2
 rw [ho0] at ho; cases ho
 rw [ha0] at hxa; cases hxa
 rw [he0] at hob; cases hob
 have hgy:∀ m∈looks ops y,(s.put x.dst v).get m=s.get m:=fun m hm=>by
  simp only [St.get,E1]
  rw [if_neg (fun e=>ax m e hm)]
 have hevy:∀ o,o∈y.op.operands.toList→s.ev o=(s.put x.dst v).ev o:=by
  intro o hm
  cases o with
  | tmp m=>exact (K0 (hgy m (J7 hm))).symm
  | _=>rfl
 have heva:=hevy a0 (by rw [ho0]; simp [Op.operands])
 have hevx:=hevy x0 (by rw [ho0]; simp [Op.operands])
 have hob2:look j s.hp=some e0:=by rw [← he0,G7]
 have hb:=hback s heva hevx hob2
 subst hkd0
 have hkk:∀ i,P8 (((s.kill j e0.kd qq).q9 j (e0.y5 r)).put y.dst (.raw undef)) i=P8 s i:=by
  intro i
  unfold P8
  rw [G7]
  simp only [St.q9,n9]
  split
  ·rename_i hij
   subst hij
   rw [hob2]
   have hr1:r.1=e0.ty:=a04 hnv hset
   cases e0 with
   | var t1 x1=>exact congrArg (fun t=>some (false,t)) hr1
   | own t1 x1=>exact congrArg (fun t=>some (true,t)) hr1
   | F7=>rfl
  ·rfl
 have hgx:∀ m∈looks ops x,(((s.kill j e0.kd qq).q9 j (e0.y5 r)).put y.dst (.raw undef)).get m=s.get m:=by
  intro m hm
  have:(((s.kill j e0.kd qq).q9 j (e0.y5 r)).put y.dst (.raw undef)).get m=(s.get m).kill j e0.kd qq:=by
   simp only [St.get,E1]
   rw [if_neg (fun e=>ay m e hm)]
   have e2:look m ((s.kill j e0.kd qq).q9 j (e0.y5 r)).fr=(look m s.fr).map (AV.kill j e0.kd qq):=E2 m _ _
   rw [e2]
   cases look m s.fr<;>rfl
  rw [this]; exact hlk m hm
 have hx2:=hagain _ hgx hkk
 refine ⟨_,_,hb,hx2,D4 hu hb,D4 (D4 hu hb) hx2,⟨fun n=>?_,fun i=>?_⟩,a1P (fun m hm=>by rw [hgy m hm]),by rw [htk,htk],fun m hm=>by rw [hgx m hm],htk s,hkk,?_,?_⟩
 ·rw [E1,E1,E1]
  have e1:look n ((s.kill j e0.kd qq).q9 j (e0.y5 r)).fr=(look n s.fr).map (AV.kill j e0.kd qq):=E2 n _ _
  have e2:look n (((s.put x.dst v).kill j e0.kd qq).q9 j (e0.y5 r)).fr=(look n (s.put x.dst v).fr).map (AV.kill j e0.kd qq):=E2 n _ _
  rw [e1,e2,E1]
  by_cases c1:x.dst=some n
  ·rw [if_pos c1,if_neg (fun c2=>hdd n c1 c2),if_pos c1,Option.map_some,hvk]
  ·rw [if_neg c1,if_neg c1]
 ·rw [G7,G7,G7]
  simp only [St.q9,n9,St.kill,G7]
 ·have hps2:N7 y s=true:=by
   have h0:=hps
   unfold N7 at h0 ⊢
   split at h0
   ·rename_i T' a' x' hg' ho'
    rw [ho0] at ho'; cases ho'
    simp only [heva,hevx]
    exact h0
   ·cases h0
  exact b4v hps2 ho0 (heva.trans ha0) hob2
 ·unfold H2
  rw [ho0]
  split<;>first|rfl|(rename_i e9; cases e9)

end

section
variable {E:Env} {ops:Array Oper} {M:Nat→Nat} {s t:St}

def c3x (ops:Array Oper) (x:Oper) (sx:St) (Tx:List Nat) (y:Oper) (Ty:List Nat):Prop:=a12 ops x sx Tx y Ty∧(Tx≠[]→∀ m∈looks ops y,m∉a8P ops)

def a2O (E:Env) (ops:Array Oper) (x:Oper) (sx:St) (y:Oper) (sy:St):Prop:=c3x ops x sx (i9 E x sx) y (i9 E y sy)∨(N7 x sx=true∧H2 y sy=true)∨∃ j kd q,Z6 y sy=some (j,kd,q)∧a1U x sx j kd q=true

def a2L (E:Env) (ops:Array Oper) (M:Nat→Nat):List (Nat×St)→List Nat→St→St→Prop
 | _,[],s,s'=>s=s'
 | acc,i::l,s,s'=>∃ o,ops[i]?=some o∧(∀ e∈acc,(M i).testBit e.1=true∨∃ x,ops[e.1]?=some x∧a2O E ops x e.2 o s) ∧
   ∃ p s1,w5 E ops o s=some (p,s1)∧p∧a2L E ops M ((i,s)::acc) l s1 s'

theorem a9d {M:List Nat} {k:St→Tree (E.rs++B3 E.ps)} {L:Code→List Item→St→Prop} {R:DL (E.rs++B3 E.ps)→Prop}:∀ {l:List Oper} {n:Nat} {s:St} {acc:List Met} {acc':List (Nat×St)},ops.toList.drop n=l →
  (∀ e∈acc',∃ m∈acc,m.i=e.1∧ops[e.1]?=some m.o∧m.s=e.2∧m.T=i9 E m.o e.2)→(b5B E ops M n l s acc k).holds L R →
  ∃ s',a2L E ops (fun i=>M.getD i 0) acc' (List.range' n l.length) s s'∧(k s').holds L R
 | [],n,s,acc,acc',_,_,h=>⟨s,rfl,h⟩
 | o::l,n,s,acc,acc',hl,ha,h=>by
  obtain ⟨ho,hl',_⟩:=a2J hl
  simp only [b5B] at h
  split at h
  ·exact h.elim
  ·rename_i hall
   obtain ⟨p,s1,h1,h2,h3⟩:=a07.1 h
   have hacc:∀ e∈acc',(M.getD n 0).testBit e.1=true∨∃ x,ops[e.1]?=some x∧a2O E ops x e.2 o s:=by
    intro e he
    obtain ⟨m,hm,m1,m2,m3,m4⟩:=ha e he
    have:=(List.all_eq_true.1 hall) m hm
    simp only [Bool.or_eq_true] at this
    rcases this with this|this
    ·exact .inl (by rw [← m1]; exact this)
    ·simp only [c0W,Bool.or_eq_true,Bool.and_eq_true] at this
     rcases this with (⟨h9,h8⟩|⟨h9,h8⟩)|h9
     ·have hp:=a8l h9
      rw [m3,m4] at hp
      refine .inr ⟨m.o,m2,.inl ⟨hp,fun hne x hx hxa=>?_⟩⟩
      rw [m4] at h8
      split at h8
      ·rename_i hnil; exact hne hnil
      ·have:=(List.all_eq_true.1 h8) x hx
       simp at this
       exact this hxa
     ·rw [m3] at h9
      exact .inr ⟨m.o,m2,.inr (.inl ⟨h9,h8⟩)⟩
     ·unfold c01 at h9
      split at h9
      ·rename_i j kd q hst
       rw [m3] at h9
       exact .inr ⟨m.o,m2,.inr (.inr ⟨j,kd,q,hst,h9⟩)⟩
      ·cases h9
   obtain ⟨s',k1,k2⟩:=a9d (acc':=(n,s)::acc') hl' (fun e he=>by
    rcases List.mem_cons.1 he with rfl|he
    ·exact ⟨_,List.mem_cons_self ..,rfl,ho,rfl,rfl⟩
    ·obtain ⟨m,hm,r⟩:=ha e he; exact ⟨m,List.mem_cons_of_mem _ hm,r⟩) h3
   exact ⟨s',⟨o,ho,hacc,p,s1,h1,h2,k1⟩,k2⟩

def c2F (E:Env) (ops:Array Oper) (acc acc':List (Nat×St)):Prop :=
 ∀ e'∈acc',∃ e∈acc,e.1=e'.1∧∀ x,ops[e.1]?=some x→(∀ m∈looks ops x,A5 x (e'.2.get m)=A5 x (e.2.get m))∧i9 E x e'.2=i9 E x e.2∧(∀ (z:Oper) m,∀ k∈i9 E x e.2,(A5 z (e'.2.get m)).f7 k=true→(A5 z (e.2.get m)).f7 k=true∨m∈a8P ops) ∧
  ∀ m∈looks ops x,∀ i,(A5 x (e.2.get m)).f7 i=true→P8 e'.2 i=P8 e.2 i

theorem a58 {x:Oper} {sx sx':St} (h:N7 x sx=true) (h1:∀ m∈looks ops x,A5 x (sx'.get m)=A5 x (sx.get m)):N7 x sx'=true:=by
 have h0:=h
 unfold N7 at h
 split at h
 ·rename_i T a v hg ho
  have hev:∀ o,o=a∨o=v→sx'.ev o=sx.ev o:=by
   intro o hoo
   cases o with
   | tmp m =>
    have:=h1 m (J7 (by rw [ho]; simp [Op.operands]; rcases hoo with e|e<;>simp [← e]))
    rw [a4z ho,a4z ho] at this
    exact K0 this
   | _=>rfl
  unfold N7 at h0 ⊢
  rw [hg,ho] at h0 ⊢
  simp only [hev a (.inl rfl),hev v (.inr rfl)]
  exact h0
 ·cases h

theorem a4i {y:Oper} {sy sy':St} (h:H2 y sy=true) (h1:∀ m∈looks ops y,A5 y (sy'.get m)=A5 y (sy.get m)):H2 y sy'=true:=by
 have hvw:∀ v,A5 y v=v:=by
  intro v
  rcases a0a y with e|⟨_,x,j,hop,_⟩
  ·exact e v
  ·unfold H2 at h; rw [hop] at h; split at h<;>first|(rename_i e9; cases e9; done)|(cases h; done)
 have hev:∀ o∈y.op.operands.toList,sy'.ev o=sy.ev o:=by
  intro o hoo
  cases o with
  | tmp m =>
   have:=h1 m (J7 hoo)
   rw [hvw,hvw] at this
   exact K0 this
  | _=>rfl
 unfold H2 at h ⊢
 split at h
 ·rename_i T a i hg ho
  simp only [hev a (by rw [ho]; simp [Op.operands]),hev i (by rw [ho]; simp [Op.operands])]
  exact h
 ·rename_i T a n hg ho
  simp only [hev a (by rw [ho]; simp [Op.operands])]
  exact h
 ·cases h

theorem a6w {y:Oper} {sy sy':St} {r:Nat×(Bool×Ty)×List Step} (h:Z6 y sy=some r) (h1:∀ m∈looks ops y,A5 y (sy'.get m)=A5 y (sy.get m)) (h2:∀ m∈looks ops y,∀ i,(A5 y (sy.get m)).f7 i=true→P8 sy' i=P8 sy i):Z6 y sy'=some r:=by
 obtain ⟨j,kd,q⟩:=r
 obtain ⟨hp,T,a,x,e,ho,ha,he,rfl⟩:=a4D h
 have hp':=a58 (ops:=ops) hp h1
 have hvw:∀ v,A5 y v=v:=a4z ho
 cases a with
 | tmp m =>
  have hm:m∈looks ops y:=J7 (by rw [ho]; simp [Op.operands])
  have hg:sy.get m=.ptr j q:=S8 ha nofun
  have hg':sy'.get m=.ptr j q:=by have:=h1 m hm; rw [hvw,hvw] at this; rw [this]; exact hg
  have hh:=h2 m hm j (by rw [hvw,hg]; simp only [AV.f7]; exact Nat.beq_refl j)
  unfold P8 at hh
  rw [he] at hh
  cases hl:look j sy'.hp with
  | none=>rw [hl] at hh; cases hh
  | some e' =>
   rw [hl] at hh
   simp only [Option.map_some,Option.some.injEq] at hh
   rw [← hh]
   exact b4v hp' ho (b4U (a7F ha nofun) hg') hl
 | const c=>exact absurd ha (by intro e9; have:=a0H c j; rw [show ofConst c=.ptr j q from e9] at this; simp only [AV.f7] at this; rw [Nat.beq_refl] at this; cases this)
 | global g=>cases ha
 | func f=>cases ha

theorem b8k {x:Oper} {sx sx':St} {j:Nat} {kd:Bool×Ty} {q:List Step} (h:a1U x sx j kd q=true) (h1:∀ m∈looks ops x,A5 x (sx'.get m)=A5 x (sx.get m)) (h2:∀ m∈looks ops x,∀ i,(A5 x (sx.get m)).f7 i=true→P8 sx' i=P8 sx i):a1U x sx' j kd q=true:=by
 have hvw:∀ v,A5 x v=v:=by
  intro v
  rcases a0a x with e|⟨_,y,k,hop,_⟩
  ·exact e v
  ·unfold a1U at h; rw [hop] at h; split at h<;>first|(rename_i e9; cases e9; done)|(cases h; done)
 have hev:∀ o∈x.op.operands.toList,sx'.ev o=sx.ev o:=by
  intro o hoo
  cases o with
  | tmp m =>
   have:=h1 m (J7 hoo)
   rw [hvw,hvw] at this
   exact K0 this
  | _=>rfl
 unfold a1U at h ⊢
 split at h
 ·rename_i a hg ho
  simp only [hev a (by rw [ho]; simp [Op.operands])]
  exact h
 ·rename_i T a n hg ho
  simp only [hev a (by rw [ho]; simp [Op.operands])]
  exact h
 ·rename_i T a hg ho
  simp only [hev a (by rw [ho]; simp [Op.operands])]
  split at h
  ·rename_i i p ha
   have:P8 sx' i=P8 sx i:=by
    cases a with
    | tmp m =>
     have hm:m∈looks ops x:=J7 (by rw [ho]; simp [Op.operands])
     have hg9:sx.get m=.ptr i p:=S8 ha nofun
     exact h2 m hm i (by rw [hvw,hg9]; simp only [AV.f7]; exact Nat.beq_refl i)
    | const c=>exact absurd ha (by intro e9; have:=a0H c i; rw [show ofConst c=.ptr i p from e9] at this; simp only [AV.f7] at this; rw [Nat.beq_refl] at this; cases this)
    | global g=>cases ha
    | func f=>cases ha
   rw [this]
   exact h
  ·cases h
 ·cases h

theorem a2O.a4W {x:Oper} {sx sx':St} {y:Oper} {sy sy':St} (h:a2O E ops x sx y sy) (h1:∀ m∈looks ops x,A5 x (sx'.get m)=A5 x (sx.get m)) (h2:i9 E x sx'=i9 E x sx) (h3:∀ (z:Oper) m,∀ k∈i9 E x sx,(A5 z (sx'.get m)).f7 k=true→(A5 z (sx.get m)).f7 k=true∨m∈a8P ops)
  (h4:∀ m∈looks ops x,∀ i,(A5 x (sx.get m)).f7 i=true→P8 sx' i=P8 sx i) (hT:i9 E y sy'=i9 E y sy) (hA:H2 y sy=true→H2 y sy'=true) (hS:∀ r,Z6 y sy=some r→Z6 y sy'=some r):a2O E ops x sx' y sy':=by
 rcases h with ⟨⟨P1,P2,P3⟩,hn⟩|⟨k1,k2⟩|⟨j,kd,q,k1,k2⟩
 ·refine .inl ?_
  rw [hT,h2]
  refine ⟨⟨fun m hm i hi=>?_,fun m hm i hi=>by rw [h1 m hm]; exact P2 m hm i hi,P3⟩,hn⟩
  cases hh:(A5 y (sx'.get m)).f7 i with
  | false=>rfl
  | true =>
   rcases h3 y m i hi hh with h9|h9
   ·rw [P1 m hm i hi] at h9; cases h9
   ·exact absurd h9 (hn (fun e=>by rw [e] at hi; cases hi) m hm)
 ·exact .inr (.inl ⟨a58 k1 h1,hA k2⟩)
 ·exact .inr (.inr ⟨j,kd,q,hS _ k1,b8k k2 h1 h4⟩)

theorem b4Q (h:E5 s t) (i:Nat):P8 t i=P8 s i:=by unfold P8; rw [h.2 i]
theorem b9j {o:Oper} (h:E5 s t) {r:Nat×(Bool×Ty)×List Step} (ha:Z6 o s=some r):Z6 o t=some r:=a6w (ops:=#[]) ha (fun m _=>by rw [h.get m]) (fun _ _ i _=>b4Q h i)
theorem b6T {o:Oper} (h:E5 s t) (ha:H2 o s=true):H2 o t=true:=a4i (ops:=#[]) ha (fun m _=>by rw [h.get m])

theorem a3G:∀ {l:List Nat} {acc acc':List (Nat×St)} {s t s':St},c2F E ops acc acc'→uniq s.fr→E5 s t→uniq t.fr→a2L E ops M acc l s s'→∃ t',a2L E ops M acc' l t t'∧E5 s' t'
 | [],acc,acc',s,t,s',_,_,he,_,h=>⟨t,rfl,by rw [← show s=s' from h]; exact he⟩
 | i::l,acc,acc',s,t,s',hg,hu,he,ht,⟨o,ho,hc,p,s1,h1,h2,h3⟩=>by
  obtain ⟨t1,k1,k2,k3⟩:=a4N hu he ht h1
  obtain ⟨t',m1,m2⟩:=a3G (acc:=(i,s)::acc) (acc':=(i,t)::acc') (fun e' he'=>by
   rcases List.mem_cons.1 he' with rfl|he'
   ·exact ⟨(i,s),by simp,rfl,fun x _=>⟨fun m _=>by show A5 x (t.get m)=A5 x (s.get m); rw [he.get m],a2z he,fun z m k _ hm=>.inl (by have hm:(A5 z (t.get m)).f7 k=true:=hm; rw [← he.get m] at hm; exact hm),fun _ _ i _=>b4Q he i⟩⟩
   ·obtain ⟨e,h4,h5,h6⟩:=hg e' he'; exact ⟨e,by simp [h4],h5,h6⟩) (D4 hu h1) k3 k2 h3
  refine ⟨t',⟨o,ho,fun e' he'=>?_,p,t1,k1,h2,m1⟩,m2⟩
  obtain ⟨e,h4,h5,h6⟩:=hg e' he'
  rw [← h5]
  rcases hc e h4 with h|⟨x,hx,hP⟩
  ·exact .inl h
  ·obtain ⟨g1,g2,g3,g4⟩:=h6 x hx
   exact .inr ⟨x,hx,hP.a4W g1 g2 g3 g4 (a2z he) (b6T he) (fun _=>b9j he)⟩

theorem c3U {x y:Oper} (hym:y∈ops.toList) (hi:indep ops x y=true) (hu:uniq s.fr) (hx:∀ d,x.dst=some d→(s.get d).clean=true) {p q:Prop} {s1 s2:St} (h1:w5 E ops x s=some (p,s1)) (h2:w5 E ops y s1=some (q,s2)) (hP:a2O E ops x s y s1) :
  ∃ q' s1' s2',w5 E ops y s=some (q',s1')∧(q→q')∧((H2 y s1=true→H2 y s=true)∧∀ r,Z6 y s1=some r→Z6 y s=some r)∧w5 E ops x s1'=some (p,s2')∧uniq s1'.fr∧uniq s2'.fr∧E5 s2' s2∧i9 E y s=i9 E y s1∧i9 E x s1'=i9 E x s ∧
   (∀ m∈looks ops x,A5 x (s1'.get m)=A5 x (s.get m))∧(∀ (z:Oper) m,∀ i∈i9 E x s,(A5 z (s1'.get m)).f7 i=true→(A5 z (s.get m)).f7 i=true∨m∈a8P ops) ∧
   ∀ m∈looks ops x,∀ i,(A5 x (s.get m)).f7 i=true→P8 s1' i=P8 s i:=by
 rcases hP with ⟨hP,_⟩|⟨k1,k2⟩|⟨j,kd,qq,k1,k2⟩
 ·obtain ⟨s1',s2',m1,m2,m3,m4,m5,m6,m7,m8,m9⟩:=swap hi hu hx h1 h2 hP
  obtain ⟨ax,ay,hmod⟩:=a1V hi
  obtain ⟨P1,P2,P3⟩:=hP
  obtain ⟨v,ids,f,g,j1,j2,j3,j4,j5⟩:=a0t hu h1
  obtain ⟨_,e1,_,hs1⟩:=j5 s hu ((E5.refl s).a2u _ _) j2
  rw [h1] at e1; cases e1
  have hgy:∀ m∈looks ops y,A5 y (s.get m)=A5 y (s1.get m):=fun m hm=>by
   rw [hs1.get j1 (fun e=>ax m e hm),a3z j1,j1.fix _ (fun i hi=>P1 m hm i hi)]
  have hhy:∀ m∈looks ops y,∀ i,(A5 y (s1.get m)).f7 i=true→P8 s i=P8 s1 i:=by
   intro m hm i hmi
   rw [← hgy m hm] at hmi
   unfold P8
   rw [hs1.hp,if_neg]
   rintro (h|h)
   ·rw [P1 m hm i h] at hmi; cases hmi
   ·have hmi:=a0k hmi
    rw [a09 j2 h] at hmi; cases hmi
  refine ⟨q,s1',s2',m1,id,⟨fun ha=>a4i (ops:=ops) ha hgy,fun r hr=>a6w hr hgy hhy⟩,m2,m3,m4,m5,m6,m7,m8,fun z m i h9 h8=>.inl (m9 z m i h9 h8),?_⟩
  obtain ⟨v',ids',f',g',n1,n2,n3,n4,n5⟩:=a0t hu m1
  obtain ⟨_,e2,_,hs1'⟩:=n5 s hu ((E5.refl s).a2u _ _) n2
  rw [m1] at e2; cases e2
  intro m hm i hmi
  unfold P8
  rw [hs1'.hp,if_neg]
  rintro (h|h)
  ·rw [m6] at h
   rw [P2 m hm i h] at hmi; cases hmi
  ·have hmi:=a0k hmi
   rw [a09 n2 h] at hmi; cases hmi
 ·obtain ⟨q',s1',s2',m1,m2,m3,m4,m5,m6,m7,m8,m9,m10,m11⟩:=c2O hym hi hu h1 h2 k1 k2
  refine ⟨q',s1',s2',m1,m2,⟨fun _=>m3,fun r hr=>?_⟩,m4,m5,m6,m7,m8,m9,m10,m11,?_⟩
  ·obtain ⟨hp,T,a,x',e,ho,_⟩:=a4D (j:=r.1) (kd:=r.2.1) (q:=r.2.2) hr
   unfold H2 at k2
   rw [ho] at k2
   split at k2<;>first|(rename_i e9; cases e9; done)|(cases k2; done)
  ·obtain ⟨_,_,_,_,_,_,_,_,_,_,_,hs1,_⟩:=a9E m3 m1
   intro m hm i _
   unfold P8
   rw [hs1,G7]
 ·obtain ⟨s1',s2',m1,m2,m3,m4,m5,m6,m7,m8,m9,m10,m11,m12⟩:=c2P hi hu h1 h2 k1 k2
  refine ⟨q,s1',s2',m1,id,⟨fun ha=>?_,fun r hr=>?_⟩,m2,m3,m4,m5,m6,m7,m8,fun z m i h9 _=>?_,fun _ _ i _=>m10 i⟩
  ·rw [m12] at ha; cases ha
  ·rw [k1] at hr; cases hr; exact m11
  ·rw [m9] at h9; cases h9

theorem b40 {i:Nat} {o:Oper} (ho:ops[i]?=some o) {post:List Nat}:∀ {pre:List Nat} {acc:List (Nat×St)} {s s':St},H3 (rem ops (pre++i::post))→(∀ j∈pre,(M i).testBit j=false∧∀ x,ops[j]?=some x→indep ops x o=true)→uniq s.fr→F5 s (rem ops pre) →
  a2L E ops M acc (pre++i::post) s s' →
  ∃ p s1 s2,w5 E ops o s=some (p,s1)∧p∧a2L E ops M acc (pre++post) s1 s2∧E5 s2 s'∧∀ e∈acc,(M i).testBit e.1=true∨∃ x,ops[e.1]?=some x∧a2O E ops x e.2 o s
 | [],acc,s,s',_,_,hu,_,⟨o',ho',hc,p,s1,h1,h2,h3⟩=>by
  rw [ho] at ho'; cases ho'
  obtain ⟨t',m1,m2⟩:=a3G (acc:=(i,s)::acc) (acc':=acc) (fun e he=>⟨e,by simp [he],rfl,fun x _=>⟨fun _ _=>rfl,rfl,fun _ _ _ _ h=>.inl h,fun _ _ _ _=>rfl⟩⟩) (D4 hu h1) (E5.refl s1) (D4 hu h1) h3
  exact ⟨p,s1,t',h1,h2,m1,m2.symm,hc⟩
 | j::pre,acc,s,s',hap,hin,hu,hcl,⟨x,hx,hc,p,s1,h1,h2,h3⟩=>by
  have hu1:=D4 hu h1
  have er:rem ops (j::pre++i::post)=x::rem ops (pre++i::post):=a05 hx
  rw [er] at hap
  rw [a05 hx] at hcl
  have hdj:∀ y∈rem ops pre,∀ d,y.dst=some d→x.dst≠some d:=fun y hy d hyd hxd=>hap.1 d hxd y (by rw [a06]; exact List.mem_append_left _ hy) hyd
  have hcl1:F5 s1 (rem ops pre):=F5.step hu (fun y hy=>hcl y (by simp [hy])) hdj h1
  obtain ⟨q,sa,sb,k1,k2,k3,k4,k5⟩:=b40 ho (pre:=pre) (acc:=(j,s)::acc) hap.2 (fun y hy=>hin y (by simp [hy])) hu1 hcl1 h3
  obtain ⟨hnb,hind⟩:=hin j (by simp)
  have hP:a2O E ops x s o s1:=by
   rcases k5 (j,s) (by simp) with h|⟨x',hx',hP⟩
   ·rw [hnb] at h; cases h
   ·have hx':ops[j]?=some x':=hx'
    rw [hx] at hx'; cases hx'; exact hP
  have hom:o∈ops.toList:=by have:=Array.mem_of_getElem? ho; simpa using this
  obtain ⟨q',s1',s2',m1,mq,⟨ma,ms⟩,m2,m3,m4,m5,m6,m7,m8,m9,m10⟩:=c3U hom (hind x hx) hu (fun d hd=>hcl x (by simp) d hd) h1 k1 hP
  obtain ⟨t',n1,n2⟩:=a3G (acc:=(j,s)::acc) (acc':=(j,s1')::acc) (fun e' he'=>by
   rcases List.mem_cons.1 he' with rfl|he'
   ·refine ⟨(j,s),by simp,rfl,fun y hy=>?_⟩
    have hy:ops[j]?=some y:=hy
    rw [hx] at hy; cases hy
    exact ⟨m8,m7,m9,m10⟩
   ·exact ⟨e',by simp [he'],rfl,fun y _=>⟨fun _ _=>rfl,rfl,fun _ _ _ _ h=>.inl h,fun _ _ _ _=>rfl⟩⟩) (D4 hu1 k1) m5.symm m4 k3
  refine ⟨q',s1',t',m1,mq k2,⟨x,hx,fun e he=>?_,p,s2',m2,h2,n1⟩,n2.symm.trans k4,fun e he=>?_⟩
  ·rcases hc e he with h|⟨y,hy,hP⟩
   ·exact .inl h
   ·refine .inr ⟨y,hy,hP.a4W (fun _ _=>rfl) rfl (fun _ _ _ _ h=>.inl h) (fun _ _ _ _=>rfl) m7 (fun ha=>a4i (ops:=ops) ha m8) (fun r hr=>a6w hr m8 m10)⟩
  ·rcases k5 e (by simp [he]) with h|⟨y,hy,hP⟩
   ·exact .inl h
   ·exact .inr ⟨y,hy,hP.a4W (fun _ _=>rfl) rfl (fun _ _ _ _ h=>.inl h) (fun _ _ _ _=>rfl) m6 ma ms⟩
end

section
variable {E:Env} {ops:Array Oper} {B:B4} {S:Nat→Prop} {ι:Ix} {s:St} {a:Act} {w:World}
theorem b1y (hE:x8 E B) (hn:B.n=E.nt) (hd:Y5 ops=true) {Q:Exit→Act→World→Prop} {s0:St} (hQ:∀ S ι a w,RS B S ι s0 a w→Q .normal a w) :
  ∀ (fuel:Nat) (listed:Array Bool) (S:Nat→Prop) (ι:Ix) (s s':St) (a:Act) (w:World),listed.size=ops.size→(idxs ops.size listed).length=fuel→a1l ops listed→H3 (rem ops (idxs ops.size listed))→uniq s.fr→F5 s (rem ops (nl ops (idxs ops.size listed))) →
   a2L E ops (fun i=>(B1 ops.toList []).getD i 0) [] (idxs ops.size listed) s s'→E5 s' s0→RS B S ι s a w→wpAny E.P .any ops Q fuel listed a w:=by
 have hM:=a43 hd
 have a3d:∀ {S:Nat→Prop} {ι:Ix} {s t:St} {a:Act} {w:World},E5 s t→RS B S ι s a w→RS B S ι t a w:=by
  intro S ι s t a w he h
  have hvx:∀ {v:AV} {vs:List Value},VX w.heap S ι s.hp v vs→VX w.heap S ι t.hp v vs:=by
   intro v vs hv
   exact VX.other (fun i _=>(he.2 i).symm) (fun i _=>y7.refl ι i) hv
  exact ⟨⟨h.hs.os,h.hs.tape,h.hs.out,h.hs.size,h.hs.frame,h.hs.slt,h.hs.s0,h.hs.s1,fun i e hi=>h.hs.ob i e ((he.2 i).trans hi),fun i e hi=>h.hs.bl i e ((he.2 i).trans hi),fun i j ei ej hi hj=>h.hs.dj i j ei ej ((he.2 i).trans hi) ((he.2 j).trans hj),fun q hq=>by obtain ⟨r1,⟨e,r2⟩,r3⟩:=h.hs.pin q hq; exact ⟨r1,⟨e,(he.2 q.1).symm.trans r2⟩,r3⟩⟩,h.X6,h.sz,
   fun m v hv=>hvx (h.fr m v ((he.1 m).trans hv))⟩
 intro fuel
 induction fuel with
 | zero =>
  intro listed S ι s s' a w hsz hlen hcl hap hu hcf hrun he hrs
  have hnil:idxs ops.size listed=[]:=List.length_eq_zero_iff.1 hlen
  rw [hnil] at hrun
  have hss:s=s':=hrun
  subst hss
  refine ⟨?_,hQ S ι a w (a3d he hrs)⟩
  rw [List.eq_nil_iff_forall_not_mem]
  intro i hi
  obtain ⟨h1,o,h2,_⟩:=mem_ready.1 hi
  have:i∈idxs ops.size listed:=H4.2 ⟨(Array.getElem?_eq_some_iff.1 h2).1,h1⟩
  rw [hnil] at this
  cases this
 | succ fuel ih =>
  intro listed S ι s s' a w hsz hlen hcl hap hu hcf hrun he hrs
  refine ⟨fun hr=>?_,fun i hi=>?_⟩
  ·exfalso
   cases hix:idxs ops.size listed with
   | nil=>rw [hix] at hlen; cases hlen
   | cons i l =>
    have hmem:i∈idxs ops.size listed:=by rw [hix]; simp
    obtain ⟨h1,h2⟩:=H4.1 hmem
    have ho:ops[i]?=some ops[i]:=Array.getElem?_eq_getElem h1
    have:i∈Region.ready .any ops listed:=by
     refine mem_ready.2 ⟨h2,ops[i],ho,fun e he hb=>?_⟩
     have hlt:=(hM i _ ho).1 e he hb
     cases hle:listed.getD e.on true with
     | true =>
      have:e.on<listed.size:=by omega
      simp [this] at hle ⊢; exact hle
     | false =>
      exfalso
      have hm2:e.on∈idxs ops.size listed:=H4.2 ⟨by omega,hle⟩
      have hs:=a0g ops.size listed
      rw [hix] at hs hm2
      rcases List.mem_cons.1 hm2 with e1|e1
      ·omega
      ·have:=(List.pairwise_cons.1 hs).1 _ e1; omega
    rw [hr] at this
    cases this
  ·obtain ⟨h1,o,ho,hpre⟩:=mem_ready.1 hi
   have hin:i<ops.size:=(Array.getElem?_eq_some_iff.1 ho).1
   have hmem:i∈idxs ops.size listed:=H4.2 ⟨hin,h1⟩
   obtain ⟨pre,post,e1,hlt,e2⟩:=a3Y hmem
   have er:rem ops (pre++i::post)=rem ops pre++o::rem ops post:=by simp [rem,List.filterMap_append,ho]
   have er2:rem ops (pre++post)=rem ops pre++rem ops post:=by simp [rem,List.filterMap_append]
   rw [e1] at hap hcf hrun
   have hind:∀ j∈pre,((B1 ops.toList []).getD i 0).testBit j=false∧∀ x,ops[j]?=some x→indep ops x o=true:=by
    intro j hj
    have hnm:((B1 ops.toList []).getD i 0).testBit j=false:=by
     cases hm:((B1 ops.toList []).getD i 0).testBit j with
     | false=>rfl
     | true =>
      exfalso
      have hjl:=a10 (M:=fun i=>(B1 ops.toList []).getD i 0) (fun i o ho=>⟨(hM i o ho).1,(hM i o ho).2.1⟩) hcl i o ho hpre j (by have:=hlt j hj; omega) hm
      have:j∈idxs ops.size listed:=by rw [e1]; simp [hj]
      have:=(H4.1 this).2
      rw [a1B hjl] at this
      cases this
    refine ⟨hnm,fun x hx=>?_⟩
    rcases (hM i o ho).2.2 j x (hlt j hj) hx with hm|hm
    ·rw [hnm] at hm; cases hm
    ·exact hm
   have hcl0:F5 s (rem ops (nl ops (pre++post))):=hcf.sub (fun y hy=>by
    rw [a7r,a06] at hy ⊢
    rcases List.mem_append.1 hy with hy|hy
    ·exact List.mem_append_left _ hy
    ·refine List.mem_append_right _ ?_
     obtain ⟨j,j1,j2⟩:=List.mem_filterMap.1 hy
     obtain ⟨j3,j4⟩:=List.mem_filter.1 j1
     exact List.mem_filterMap.2 ⟨j,List.mem_filter.2 ⟨List.mem_cons_of_mem _ j3,j4⟩,j2⟩)
   obtain ⟨p,s1,s2,k1,k2,k3,k4,_⟩:=b40 ho hap hind hu (hcf.sub (fun y hy=>by
    rw [a7r,a06,b8a hin hlt (fun j hj=>(hind j hj).1)]; exact List.mem_append_left _ hy)) hrun
   rw [er] at hap
   have hset:=(a2m hsz hin).trans e2
   have hap2:H3 (rem ops pre++rem ops post)∧∀ x∈rem ops pre++rem ops post,∀ d,x.dst=some d→o.dst≠some d:=by
    have:∀ {A C:List Oper},H3 (A++o::C)→H3 (A++C)∧∀ x∈A++C,∀ d,x.dst=some d→o.dst≠some d:=by
     intro A
     induction A with
     | nil=>intro C h; exact ⟨h.2,fun x hx d hxd hod=>h.1 d hod x hx hxd⟩
     | cons y A ih =>
      intro C h
      obtain ⟨m1,m2⟩:=ih h.2
      refine ⟨⟨fun d hd x hx=>h.1 d hd x (by simp at hx ⊢; rcases hx with hx|hx<;>simp [hx]),m1⟩,fun x hx d hxd hod=>?_⟩
      rcases List.mem_cons.1 hx with rfl|hx
      ·exact h.1 d hxd o (by simp) hod
      ·exact m2 x hx d hxd hod
    exact this hap
   have hps:=a1p hE hn hrs (ops:=ops) o (k:=fun x=>Tree.cut .skip [] x) (L:=fun _ _ x=>x=s1) (Rt:=fun _=>True) (a07.2 ⟨p,s1,k1,k2,rfl⟩)
    (next:=wpAny E.P .any ops Q fuel (listed.setIfInBounds i true)) (Q:=Q) (fun S' ι' x a' w' hx hxe=>by
     have hxe:x=s1:=hxe
     subst hxe
     refine ih (listed.setIfInBounds i true) S' ι' x s2 a' w' (by simp [hsz]) ?_ ?_ ?_ (D4 hu k1) ?_ ?_ (k4.trans he) hx
     ·rw [hset]; rw [e1] at hlen; simp at hlen ⊢; omega
     ·intro k y hy hk e' he' hb'
      by_cases hki:k=i
      ·subst hki
       rw [ho] at hy; cases hy
       exact getD_set_true (hpre e' he' hb')
      ·rw [getD_set_ne true (Ne.symm hki)] at hk
       exact getD_set_true (hcl k y hy hk e' he' hb')
     ·rw [hset,er2]; exact hap2.1
     ·rw [hset]
      exact F5.step hu hcl0 (fun y hy=>hap2.2 y (by rw [← er2]; exact b79 y hy)) k1
     ·rw [hset]; exact k3)
   unfold wpOp
   rw [ho]
   simp only
   split
   ·rename_i hw; rw [if_pos hw] at hps; exact .inl hps
   ·rename_i hw; rw [if_neg hw] at hps; exact hps

theorem b0e (hE:x8 E B) (hn:B.n=E.nt) {id:Nat} (hd:(Y5 ops && a1e ops s && E.P.follows .mixedOrders)=true) {Q:Exit→Act→World→Prop} {s':St} (hr:a2L E ops (fun i=>(B1 ops.toList []).getD i 0) [] (List.range' 0 ops.toList.length) s s')
  (hQ:∀ S ι a w,RS B S ι s' a w→Q .normal a w) (h:RS B S ι s a w):(Code.region id ops true).wp E.P Q a w:=by
 simp only [Bool.and_eq_true,a1e,List.all_eq_true] at hd
 obtain ⟨⟨h1,⟨h2,h3⟩,h4⟩,h5⟩:=hd
 refine wp_region_any h5 ?_
 have hlen:(idxs ops.size (Array.replicate ops.size false)).length=ops.size:=by
  rw [V9]; simp
 refine b1y hE hn h1 hQ ops.size _ S ι s s' a w.drew (by simp) hlen ?_ ?_ (u3 h2) ?_ ?_ (E5.refl _) (h.K5 A4.nil x6.drew)
 ·intro k o hk hl
  have:k<ops.size:=(Array.getElem?_eq_some_iff.1 hk).1
  simp [this] at hl
 ·rw [a5F]; exact a1j h3
 ·intro o ho d hd
  exact h4 d (a9t ho hd)
 ·rw [V9,List.range_eq_range']
  simpa using hr


/-! ### regions that store what they read -/
end
end Go.Ex

namespace Go.Ex

section
variable {E:Env} {B:B4} {S S':Nat→Prop} {ι:Ix} {s:St} {a:Act} {w:World} {hp:List (Nat×i6)} {H H':Array Go.Obj}

def At (P:Program) (fn:Func) (R:Ending→World→Prop) (k:List Item) (a:Act) (w:World):Prop :=
 ∀ (b:Frame) (cs:List Frame),∃ (e:Exit) (a':Act) (w':World),bodyPost P fn R e a' w'∧Arrives P (lone (b.at a k) cs w) b [] cs e a' w'

section at_
variable {P:Program} {fn:Func} {R:Ending→World→Prop} {k k':List Item}

theorem At.step (hs:∀ (b:Frame) (cs:List Frame),step P (lone (b.at a k) cs w)=.next (lone (b.at a k') cs w)) (h:At P fn R k' a w):At P fn R k a w :=
 fun b cs=>let ⟨e,a',w',q,r⟩:=h b cs; ⟨e,a',w',q,.of_steps (.one (hs b cs)) r⟩

theorem At.region {id:Nat} {ops:Array Oper} {d:Bool} (h:(Code.region id ops d).wp P (fun e a w=>e=.normal∧At P fn R k a w) a w):At P fn R (.code (.region id ops d)::k) a w:=by
 intro b cs
 obtain ⟨e,a',w',⟨rfl,h2⟩,harr⟩:=h b k cs
 obtain ⟨e,a'',w'',q,r⟩:=h2 b cs
 exact ⟨e,a'',w'',q,.of_steps harr r⟩

theorem At.done (h:bodyPost P fn R .normal a w):At P fn R [] a w:=fun _ _=>⟨.normal,a,w,h,Steps.refl _ _⟩
theorem At.ret (h:bodyPost P fn R .ret a w):At P fn R (.code .ret::k) a w:=fun _ _=>⟨.ret,a,w,h,_,.one step_ret⟩

theorem a2Y {f:FuncId} {c:Code} {args:Array Value} (hf:P.funcs[f]?=some fn) (hb:fn.body=some c)
  (h:At P fn R [.code c] { tmps:=args++Array.replicate (fn.ntmps - args.size) undef,defers:=[] } w):Calls P f args w R:=by
 intro cs
 let b:Frame:={ (default:Frame) with fn:=f,kind:=.normal }
 have henter:Frame.enter P f args .normal=b.at { tmps:=args++Array.replicate (fn.ntmps - args.size) undef,defers:=[] } [.code c]:=by
  simp [Frame.enter,Frame.at,hf,hb,b]
 obtain ⟨e,a',w',hq,harr⟩:=h b cs
 rw [← henter] at harr
 cases e with
 | normal =>
  obtain ⟨hd,v,hr,hR⟩:=hq
  exact ⟨.returned v,w',_,hR,Steps.trans harr (.one step_end),rfl,rfl,hd,rfl,fn,hf,hr⟩
 | ret =>
  obtain ⟨hd,v,hr,hR⟩:=hq
  obtain ⟨todo,hs⟩:=harr
  exact ⟨.returned v,w',_,hR,hs,rfl,rfl,hd,rfl,fn,hf,hr⟩
 | panic chain =>
  obtain ⟨hd,hR⟩:=hq
  obtain ⟨todo,hs⟩:=harr
  exact ⟨.panicked chain,w',_,hR,hs,rfl,rfl,hd,fn,hf⟩
 | exit id=>exact hq.elim
 | goto l=>exact hq.elim
 | outgrown=>exact ⟨.outgrown,w',b,hq,harr.resolve_left (by simp [b]),rfl,trivial⟩
end at_

/-! ### what is kept at a cut -/
theorem RS.I9 (live:List Nat) (s0:St):∀ {l:List (Nat×i6)} {s:St},RS B S ι s a w→RS B S ι (I9 live s0 l s) a w
 | [],_,h=>h
 | (i,_)::l,s,h=>by
  simp only [Ex.I9]
  split
  ·exact RS.I9 live s0 h
  ·rename_i hp
   simp only [Bool.or_eq_false_iff] at hp
   exact RS.I9 live s0 (h.drop hp.1)

theorem RS.b5P (h:RS B S ι s a w) {m d:Nat} (hf:s.fresh d=true) {t:Ty} {x:t.den} {O:List Nat} {cs:List Value} (hv:a.tmps.getD m (B.gd m)=j6 t cs) (hR:d9 w.heap S t O cs x) (hF:A4 B S ι s.hp w O) :
  ∃ ι',RS B S ι' { s.q9 d (.own t x) with fr:=Ex.put m (.at_ d []) s.fr } a w :=
 ⟨_,(h.hold hf hR hF).slot (t:=m) (v:=.at_ d []) (by rw [hv]; exact a3v hR.length)⟩

def a2v (ι ι':Ix) (i j:Nat):Prop:=ι'.root j=ι.root i∧ι'.cells j=ι.cells i∧ι'.own j=ι.own i

theorem a2v.place {ι':Ix} {i j:Nat} (h:a2v ι ι' i j) {H:Array Go.Obj} {e:i6} {p:List Step}:Place H ι' j e p=Place H ι i e p:=by
 obtain ⟨h1,h2,h3⟩:=h
 cases e<;>simp only [Place,VH,VR,h1,h2]
theorem a2v.loc {ι':Ix} {i j:Nat} (h:a2v ι ι' i j) {H:Array Go.Obj} {e:i6} {p:List Step}:Loc H ι' j e p=Loc H ι i e p:=by
 simp only [Loc,h.place]
theorem a2v.a5a {ι':Ix} {i j:Nat} (h:a2v ι ι' i j) {H:Array Go.Obj} {e:i6} {p:List Step} {u:Ty} {cs:List Value}:Cells H ι' j e p u cs↔Cells H ι i e p u cs:=by
 have hv:VH H ι' j e=VH H ι i e:=by obtain ⟨h1,h2,h3⟩:=h; cases e<;>simp only [VH,h2]
 simp only [Cells,h.place,hv]

theorem RS.ren (h:RS B S ι s a w) {i j:Nat} (hi:pinned i=false) {u:Ty} {x:u.den} (h1:look i s.hp=some (.own u x)) (hf:s.fresh j=true) :
  ∃ ι',RS B S ι' { fr:=mapA (AV.ren i j) s.fr,hp:=Ex.put j (.own u x) (del i s.hp) } a w:=by
 obtain ⟨f1,f2⟩:=a2I hf
 have hij:i≠j:=by rintro rfl; rw [f1] at h1; cases h1
 let ι':Ix:={ root:=fun k=>if k=j then ι.root i else ι.root k,cells:=fun k=>if k=j then ι.cells i else ι.cells k,own:=fun k=>if k=j then ι.own i else ι.own k }
 have hsj:a2v ι ι' i j:=⟨by simp [ι'],by simp [ι'],by simp [ι']⟩
 have hsk:∀ k,k≠j→y7 ι ι' k:=fun k hk=>⟨by simp [ι',hk],by simp [ι',hk],by simp [ι',hk]⟩
 have hF:A4 B S ι (St.r7 [i] s).hp w (ι.own i):=by
  obtain ⟨⟨O,hO,hR⟩,hnd⟩:=(h.hs.ob i _ h1:OB w.heap S ι i (.own u x))
  exact A4.r7 h.hs hnd (fun b hb=>⟨i,_,by simp,h1,hb⟩)
 have hob:OB w.heap S ι' j (.own u x):=by
  obtain ⟨⟨O,hO,hR⟩,hnd⟩:=(h.hs.ob i _ h1:OB w.heap S ι i (.own u x))
  obtain ⟨e1,e2,e3⟩:=hsj
  exact ⟨⟨O,by rw [e3]; exact hO,by rw [e2]; exact hR⟩,by rw [e3]; exact hnd⟩
 have hd:=h.hs.drop hi
 refine ⟨ι',⟨hd.add (d:=j) (e:=.own u x) (ι':=ι') (O:=ι.own i) ?_ hsk hob ?_ hF,h.X6,h.sz,?_⟩⟩
 ·rw [E7]; split<;>first|rfl|exact f1
 ·intro b hb
  have:ι'.own j=ι.own i:=hsj.2.2
  show b∈ι.own i
  rw [← this]; exact hb
 ·intro t v hv
  simp only [E2,Option.map_eq_some_iff] at hv
  obtain ⟨v0,hv0,rfl⟩:=hv
  have hvj:=f2 t v0 hv0
  refine VX.map (fun _ _=>rfl) (fun _ h=>h) (fun q vs hq hm hv=>?_) (h.fr t v0 hv0)
  have hlk:∀ k,q.f7 k=true→k≠i→look k (Ex.put j (.own u x) (del i s.hp))=look k s.hp:=by
   intro k hk hki
   have hkj:k≠j:=by rintro rfl; rw [hm k hk] at hvj; cases hvj
   rw [n9,if_neg hkj,E7,if_neg hki]
  have hlj:look j (Ex.put j (i6.own u x) (del i s.hp))=some (.own u x):=by rw [n9,if_pos rfl]
  dsimp only
  split
  ·rename_i hmi
   refine VX.other (fun k hk=>hlk k hk ?_) (fun k hk=>hsk k ?_) hv
   ·rintro rfl; rw [hk] at hmi; cases hmi
   ·rintro rfl; rw [hm k hk] at hvj; cases hvj
  ·rename_i hmi
   split
   ·rename_i k p
    have:=Nat.eq_of_beq_eq_true hmi
    subst this
    obtain ⟨e,b,off,k1,k2,k3,k4⟩:=hv
    rw [h1] at k1; cases k1
    exact ⟨_,b,off,hlj,k2,hsj.loc.trans k3,k4⟩
   ·rename_i k p
    have:=Nat.eq_of_beq_eq_true hmi
    subst this
    obtain ⟨e,u',y,cs,k1,k2,k3,k4,k5⟩:=hv
    rw [h1] at k1; cases k1
    exact ⟨_,u',y,cs,hlj,k2,k3,hsj.a5a.2 k4,k5⟩
   ·rename_i k p lo hi'
    have:=Nat.eq_of_beq_eq_true hmi
    subst this
    obtain ⟨e,v,k1,k2,k3,k4,k5,k6⟩:=hv
    rw [h1] at k1; cases k1
    refine ⟨_,v,hlj,k2,k3,k4,k5,?_⟩
    rcases k6 with ⟨t',l,A,cap,q1,q2,q3,q4⟩|⟨n,t',l,b,off,q1,q2,q3,q4⟩
    ·exact .inl ⟨t',l,A,cap,q1,q2,hsj.a5a.2 q3,q4⟩
    ·exact .inr ⟨n,t',l,b,off,q1,q2,hsj.loc.trans q3,q4⟩
   ·obtain ⟨y,e⟩:=VX.one hq hv
    exact ⟨y,e⟩

theorem RS.settle (h:RS B S ι s a w) (m:Nat) (t:Ty):∃ ι',RS B S ι' (settle m t s) a w:=by
 have hg:=h.get m
 unfold Ex.settle
 split
 ·rename_i hm
  rw [hm] at hg
  have hv:a.tmps.getD m (B.gd m)=Value.slice none 0 0:=by
   have:[a.tmps.getD m (B.gd m)]=[Value.slice none 0 0]:=hg
   simpa using this
  split
  ·rename_i u hf
   exact h.b5P hf (t:=.b7 true u) (x:=([]:List u.den)) (O:=[]) (cs:=[.slice none 0 0]) hv (.inl ⟨rfl,⟨none,0,rfl,fun _=>rfl⟩,rfl⟩) A4.nil
  ·exact ⟨ι,h⟩
 ·rename_i i hm
  split
  ·rename_i u x hob
   split
   ·exact ⟨ι,h⟩
   ·rename_i hc
    simp only [Bool.or_eq_false_iff,Bool.not_eq_false'] at hc
    exact h.ren hc.1 hob hc.2
  ·exact ⟨ι,h⟩
 ·rename_i i lo hi hm
  rw [hm] at hg
  split
  ·rename_i u x g hgv
   split
   ·exact ⟨ι,h⟩
   ·rename_i hc
    simp only [Bool.or_eq_false_iff,Bool.not_eq_false'] at hc
    obtain ⟨O,cs,k1,k2,k3,k4⟩:=W0 h.hs hgv hg
    have hgi:g=[i]:=by
     simp only [AV.P5] at hgv
     split at hgv<;>cases hgv
     rfl
    subst hgi
    exact (h.drop hc.1).b5P hc.2 k1 k2 (A4.r7 h.hs k3 k4)
  ·exact ⟨ι,h⟩
 ·rename_i u x hm
  rw [hm] at hg
  split
  ·rename_i hc
   simp only [Bool.and_eq_true] at hc
   obtain ⟨cs,e,hR⟩:=hg
   exact h.b5P hc.2 (by simpa using e) hR A4.nil
  ·exact ⟨ι,h⟩
 ·exact ⟨ι,h⟩

theorem RS.Q9:∀ {l:List (Nat×Option Ty)} {ι:Ix} {s:St},RS B S ι s a w→∃ ι',RS B S ι' (Q9 l s) a w
 | [],ι,s,h=>⟨ι,h⟩
 | (_,none)::l,ι,s,h=>RS.Q9 (l:=l) h
 | (m,some t)::l,ι,s,h=>by
  obtain ⟨ι',h'⟩:=h.settle m t
  exact RS.Q9 (l:=l) h'

theorem RS.canon (h:RS B S ι s a w) (x:List (Nat×Option Ty)):∃ ι',RS B S ι' (canon x s) a w:=by
 have h1:RS B S ι (Ex.I9 (x.map (·.1)) s s.hp s) a w:=RS.I9 (x.map (·.1)) s h
 obtain ⟨ι',h2⟩:=RS.Q9 (l:=x) h1
 have h3:=RS.I9 (x.map (·.1)) (Ex.Q9 x (Ex.I9 (x.map (·.1)) s s.hp s)) (l:=(Ex.Q9 x (Ex.I9 (x.map (·.1)) s s.hp s)).hp) h2
 refine ⟨ι',h3.hs,h3.X6,h3.sz,?_⟩
 intro t v hv
 simp only [Ex.canon] at hv
 generalize hs:Ex.I9 (x.map (·.1)) (Ex.Q9 x (Ex.I9 (x.map (·.1)) s s.hp s)) (Ex.Q9 x (Ex.I9 (x.map (·.1)) s s.hp s)).hp (Ex.Q9 x (Ex.I9 (x.map (·.1)) s s.hp s))=s1 at hv h3
 have:v=s1.get t:=by
  generalize x.map (·.1)=ts at hv
  clear h3 hs
  revert hv
  induction ts with
  | nil=>intro hv; cases hv
  | cons t' l ih =>
   intro hv
   simp only [List.map_cons,look] at hv
   cases hb:Nat.beq t t' with
   | true =>
    rw [hb] at hv
    have:=Nat.eq_of_beq_eq_true hb
    subst this
    cases hv; rfl
   | false=>rw [hb] at hv; exact ih hv
 rw [this]
 have:=h3.get t
 simp only [Ex.canon,hs]
 exact this

/-! ### results -/
theorem a3L (hE:x8 E B) (h:RS B S ι s a w):∀ {rs:List ResultVar} {l:AV},a4K E s rs=some l →
  ∃ us,(rs.mapM fun r=>(match r with
   | .tmp t=>pure (a.tmps.getD t undef)
   | .cell c t=>do loadVar t (← asAddr (a.tmps.getD c undef)):Sem Value)).run E.P w=.ok us w∧VX w.heap S ι s.hp l us
 | [],l,hl=>by
  simp only [a4K,Option.some.injEq] at hl
  subst hl
  exact ⟨[],rfl,rfl⟩
 | .tmp t::rs,l,hl=>by
  simp only [a4K] at hl
  split at hl
  ·rename_i v hv
   cases hl
   obtain ⟨us,h1,h2⟩:=a3L hE h hv
   exact ⟨a.tmps.getD t undef::us,by simp only [List.mapM_cons,Sem.run_bind,Sem.run_pure,Result.andThen,h1],_,us,rfl,h.ev (.tmp t),h2⟩
  ·cases hl
 | .cell c T::rs,l,hl=>by
  simp only [a4K] at hl
  split at hl
  ·rename_i i p hc
   have hv:=h.ev (.tmp c)
   rw [hc] at hv
   obtain ⟨e,b,off,k1,k2,k3,k4⟩:=hv
   have k4:a.tmps.getD c undef=.pointer (some ⟨b,off,none⟩):=by
    have k5:[a.tmps.getD c undef]=[.pointer (some ⟨b,off,none⟩)]:=k4
    exact List.head_eq_of_cons_eq k5
   split at hl
   ·rename_i u y hpt
    have hg:=F0 k1 hpt
    split at hl
    ·rename_i hck
     split at hl
     ·rename_i v hv
      obtain ⟨us,h1,h2⟩:=a3L hE h hv
      obtain ⟨O2,m1,mn,m2,m3,m4,m5⟩:=J0 (I0 k3) (h.hs.ob i _ k1) h.hs.slt k2 hg k3
      have hld:(do loadVar T (← asAddr (a.tmps.getD c undef)):Sem Value).run E.P w=.ok (j6 u (d0 w.heap b off u.size)) w:=by
       rw [k4]; simp [asAddr,a1o (A6 hE hck) m2]
      refine ⟨j6 u (d0 w.heap b off u.size)::us,?_,?_⟩
      ·simp only [List.mapM_cons]
       rw [Sem.run_bind,hld]
       simp only [Result.andThen,Sem.run_bind,Sem.run_pure,h1]
      ·split at hl
       ·rename_i hs
        cases hl
        have:=m2.F8 hs
        subst this
        exact ⟨_,us,rfl,⟨_,rfl,m2⟩,h2⟩
       ·cases hl
        obtain ⟨r3,r4⟩:=t7 k3
        exact ⟨_,us,rfl,⟨_,u,y,_,k1,k2,hg,⟨b,off,r3,by rw [l5 (C6 r4)]⟩,rfl⟩,h2⟩
     ·cases hl
    ·cases hl
   ·cases hl
  ·cases hl

theorem b3v (hE:x8 E B) (h:RS B S ι s a w) {fn:Func} (hres:fn.results.toList=E.res) {l:AV} (hl:a4K E s E.res=some l) :
  ∃ us,(results fn a.tmps).run E.P w=.ok (a2f us) w∧VX w.heap S ι s.hp l us:=by
 obtain ⟨us,h1,h2⟩:=a3L hE h hl
 refine ⟨us,?_,h2⟩
 rw [← hres] at h1
 have:(fn.results.mapM fun r=>(match r with
   | .tmp t=>pure (a.tmps.getD t undef)
   | .cell c t=>do loadVar t (← asAddr (a.tmps.getD c undef)):Sem Value)).run E.P w=.ok us.toArray w:=by
  rw [Array.mapM_eq_mapM_toList,Sem.run_map,h1]; rfl
 simp only [results]
 rw [Sem.run_bind]
 refine (congrArg (fun r:Result (Array Value)=>r.andThen fun vs w'=>Sem.run E.P (pure (if h:vs.size=1 then vs[0] else Value.tuple vs)) w') this).trans ?_
 simp only [Result.andThen,Sem.run_pure]
 match us with
 | []=>rfl
 | [v]=>rfl
 | v::v2::l=>rfl

theorem b5z (h:HS B S ι s.hp w) {t:Ty} {used used':List Nat} {av:AV} {x:t.den} {v:Value} (hr:b0V s t used av=some (x,used')) (hv:VX w.heap S ι s.hp av [v]) :
  ∃ O cs,v=j6 t cs∧d9 w.heap S t O cs x∧O.Nodup∧(∀ b∈O,∃ i e,i∈used'∧i∉used∧pinned i=false∧look i s.hp=some e∧b∈j7 ι i e)∧∀ i∈used,i∈used':=by
 unfold b0V at hr
 split at hr
 ·rename_i i
  split at hr
  ·cases hr
  ·rename_i hc
   simp only [Bool.or_eq_false_iff] at hc
   obtain ⟨hc1,hc2⟩:=hc
   have hnu:i∉used:=by intro hm; simp [hm] at hc1
   obtain ⟨e,u,y,cs,h1,h2,h3,h4,h5⟩:=hv
   have key:∀ {e0:i6},s.obj i=some e0→(hu:e0.ty=t)→∀ {x},x=E0 hu e0.x→∃ O cs,v=j6 t cs∧d9 w.heap S t O cs x∧O.Nodup∧(∀ b∈O,∃ j e,j∈i::used∧j∉used∧pinned j=false∧look j s.hp=some e∧b∈j7 ι j e)∧∀ j∈used,j∈i::used:=by
    rintro e0 hob rfl x rfl
    obtain rfl:=U9 h1 hob
    rw [w6] at h3; cases h3
    obtain ⟨O2,m1,m2,m3⟩:=C7 h h1 h2 w6 h4
    exact ⟨O2,cs,by simpa using h5,m3,m2,fun b hb=>⟨i,_,by simp,hnu,hc2,h1,C3 (m1 b hb)⟩,fun j hj=>by simp [hj]⟩
   split at hr
   ·rename_i u' x' hob
    split at hr
    ·rename_i hu; cases hr; exact key (e0:=.var u' x') hob hu rfl
    ·cases hr
   ·rename_i u' x' hob
    split at hr
    ·rename_i hu; cases hr; exact key (e0:=.own u' x') hob hu rfl
    ·cases hr
   ·cases hr
 ·rename_i i lo hi
  split at hr
  ·cases hr
  ·rename_i hc
   simp only [Bool.or_eq_false_iff] at hc
   obtain ⟨hc1,hc2⟩:=hc
   have hnu:i∉used:=by intro hm; simp [hm] at hc1
   split at hr
   ·rename_i u x' g hgv
    split at hr
    ·rename_i hu
     cases hr
     subst hu
     obtain ⟨O,cs,k1,k2,k3,k4⟩:=W0 h hgv hv
     have hgi:g=[i]:=by
      simp only [AV.P5] at hgv
      split at hgv<;>cases hgv
      rfl
     subst hgi
     refine ⟨O,cs,k1,k2,k3,fun b hb=>?_,fun j hj=>by simp [hj]⟩
     obtain ⟨j,e,j1,j2,j3⟩:=k4 b hb
     simp only [List.mem_cons,List.not_mem_nil,or_false] at j1
     subst j1
     exact ⟨j,e,by simp,hnu,hc2,j2,j3⟩
    ·cases hr
   ·cases hr
 ·rename_i i
  split at hr
  ·cases hr
  ·rename_i hc
   simp only [Bool.or_eq_false_iff] at hc
   obtain ⟨hc1,hc2⟩:=hc
   have hnu:i∉used:=by intro hm; simp [hm] at hc1
   split at hr
   ·rename_i u y hob
    split at hr
    ·rename_i hu
     subst hu
     cases hr
     obtain ⟨e,b,off,h1,h2,h3,h4⟩:=hv
     obtain rfl:=U9 h1 hob
     obtain ⟨⟨O,hO,hR⟩,hf,hnd⟩:=h.ob i _ h1
     have hl:(ι.root i).1=b∧(ι.root i).2=off:=by
      have:=(t7 h3).1
      simp only [Place,s9,VR,Option.some.injEq,Prod.mk.injEq] at this
      exact this
     obtain ⟨rfl,rfl⟩:=hl
     refine ⟨(ι.root i).1::O,[.pointer (some ⟨(ι.root i).1,(ι.root i).2,none⟩)],by simpa [j6,Ty.agg] using h4,.inr ⟨_,_,_,O,rfl,rfl,hf.p8,hR,rfl,hf⟩,((hO.cons _).nodup_iff).2 hnd,fun c hc=>⟨i,_,by simp,hnu,hc2,h1,?_⟩,fun j hj=>by simp [hj]⟩
     simp only [j7]
     exact ((hO.cons _).mem_iff).1 hc
    ·cases hr
   ·cases hr
 ·rename_i f i
  split at hr
  ·cases hr
  ·rename_i hc
   simp only [Bool.or_eq_false_iff] at hc
   obtain ⟨hc1,hc2⟩:=hc
   have hnu:i∉used:=by intro hm; simp [hm] at hc1
   split at hr
   ·rename_i u y hob
    split at hr
    ·rename_i hu
     subst hu
     cases hr
     obtain ⟨us,hv1,v0,us0,rfl,⟨e,b,off,h1,h2,h3,h4⟩,hv2⟩:=hv
     have hv2:us0=[]:=hv2
     subst hv2
     have h4:v0=.pointer (some ⟨b,off,none⟩):=by simpa using h4
     subst h4
     obtain rfl:=U9 h1 hob
     obtain ⟨⟨O,hO,hR⟩,hf,hnd⟩:=h.ob i _ h1
     have hl:(ι.root i).1=b∧(ι.root i).2=off:=by
      have:=(t7 h3).1
      simp only [Place,s9,VR,Option.some.injEq,Prod.mk.injEq] at this
      exact this
     obtain ⟨rfl,rfl⟩:=hl
     refine ⟨(ι.root i).1::O,[a20 (some f) ⟨(ι.root i).1,(ι.root i).2,none⟩],by simpa [j6,Ty.agg,a20] using hv1,.inr ⟨_,_,_,O,rfl,rfl,hf.p8,hR,rfl,hf⟩,((hO.cons _).nodup_iff).2 hnd,fun c hc=>⟨i,_,by simp,hnu,hc2,h1,?_⟩,fun j hj=>by simp [hj]⟩
     simp only [j7]
     exact ((hO.cons _).mem_iff).1 hc
    ·cases hr
   ·cases hr
 ·split at hr
  ·rename_i x' hx
   cases hr
   obtain ⟨cs,e,hR⟩:=b2f hx hv
   exact ⟨[],cs,e,hR,List.nodup_nil,by simp,fun _ h=>h⟩
  ·cases hr

theorem a7l (h:HS B S ι s.hp w):∀ {rs:List Ty} {used:List Nat} {l:AV} {y:DL rs} {us:List Value},b0W s rs used l=some y→VX w.heap S ι s.hp l us →
  ∃ O,H5 w.heap S rs O us y∧O.Nodup∧∀ b∈O,∃ i e,i∉used∧pinned i=false∧look i s.hp=some e∧b∈j7 ι i e
 | [],used,l,y,us,hr,hv=>by
  cases l<;>simp only [b0W] at hr<;>first|cases hr|skip
  exact ⟨[],⟨rfl,hv⟩,List.nodup_nil,by simp⟩
 | t::ts,used,l,y,us,hr,hv=>by
  cases l<;>simp only [b0W] at hr<;>first|cases hr|skip
  rename_i av bv
  obtain ⟨v,us',rfl,ha,hb⟩:=hv
  split at hr
  ·rename_i x used' h1
   split at hr
   ·rename_i y' h2
    cases hr
    obtain ⟨O1,cs,k1,k2,k3,k4,k5⟩:=b5z h h1 ha
    obtain ⟨O2,m1,m2,m3⟩:=a7l h h2 hb
    refine ⟨O1++O2,⟨v,us',O1,O2,cs,rfl,rfl,k1,k2,m1⟩,List.nodup_append.2 ⟨k3,m2,?_⟩,?_⟩
    ·rintro c hc d hd rfl
     obtain ⟨i,e,i1,_,_,i2,i3⟩:=k4 c hc
     obtain ⟨j,e',j1,_,j2,j3⟩:=m3 c hd
     exact h.dj i j e e' i2 j2 (by rintro rfl; exact j1 i1) c i3 j3
    ·intro c hc
     rcases List.mem_append.1 hc with hc|hc
     ·obtain ⟨i,e,_,i1,i4,i2,i3⟩:=k4 c hc
      exact ⟨i,e,i1,i4,i2,i3⟩
     ·obtain ⟨j,e',j1,j4,j2,j3⟩:=m3 c hc
      exact ⟨j,e',fun hj=>j1 (k5 j hj),j4,j2,j3⟩
   ·cases hr
  ·cases hr

def G9:(ks:List PK)→List Value→Nat→List (Nat×(Nat×Nat)×List Value)
 | .rw _::ks,v::vs,i=>(match v with
  | .pointer (some a)=>(2000000+i,(a.block,a.off),[])
  | _=>(2000000+i,(0,0),[]))::G9 ks vs (i+1)
 | .mu _::ks,v::vs,i=>(2000000+i,(0,0),[v])::G9 ks vs (i+1)
 | _::ks,_::vs,i=>G9 ks vs (i+1)
 | _,_,_=>[]

theorem a1R (h:HS B S ι s.hp w) {H0:Array Go.Obj} {S0:Nat→Prop}:∀ {ks:List PK} {vs:List Value} {x:DK ks} {L0:List Nat} {j:Nat} {z:DL (B3 ks)},J5 H0 S0 ks vs x L0→(∀ q∈G9 ks vs j,q∈B.pins)→Y3 s ks j=some z →
  ∃ Lo,C2 w.heap S ks vs z Lo∧Lo.Nodup∧∀ b∈Lo,∃ i e,2000000+j≤i∧look i s.hp=some e∧b∈j7 ι i e
 | [],vs,x,L0,j,z,hK,_,hz=>⟨[],⟨hK.1,rfl⟩,List.nodup_nil,by simp⟩
 | k::ks,vs,x,L0,j,z,⟨v,us,L1,L2,e1,e2,hk,hK⟩,hp,hz=>by
  subst e1 e2
  have plain:∀ {z':DL (B3 ks)},(∀ q∈G9 ks us (j+1),q∈B.pins)→Y3 s ks (j+1)=some z'→∃ Lo,C2 w.heap S ks us z' Lo∧Lo.Nodup∧∀ b∈Lo,∃ i e,2000000+j≤i∧look i s.hp=some e∧b∈j7 ι i e:=by
   intro z' hp hz
   obtain ⟨Lo,k1,k2,k3⟩:=a1R h hK hp hz
   exact ⟨Lo,k1,k2,fun b hb=>by obtain ⟨i,e,i1,i2,i3⟩:=k3 b hb; exact ⟨i,e,by omega,i2,i3⟩⟩
  have join:∀ {L1 Lo:List Nat} {e0:i6},look (2000000+j) s.hp=some e0→L1.Nodup→(∀ b∈L1,b∈j7 ι (2000000+j) e0)→Lo.Nodup→(∀ b∈Lo,∃ i e,2000000+(j+1)≤i∧look i s.hp=some e∧b∈j7 ι i e) →
    (L1++Lo).Nodup∧∀ b∈L1++Lo,∃ i e,2000000+j≤i∧look i s.hp=some e∧b∈j7 ι i e:=by
   intro L1 Lo e0 h1 n1 m1 n2 m2
   refine ⟨List.nodup_append.2 ⟨n1,n2,?_⟩,?_⟩
   ·rintro c hc d hd rfl
    obtain ⟨i,e,i1,i2,i3⟩:=m2 c hd
    exact h.dj (2000000+j) i e0 e h1 i2 (by omega) c (m1 c hc) i3
   ·intro b hb
    rcases List.mem_append.1 hb with hb|hb
    ·exact ⟨_,e0,Nat.le_refl _,h1,m1 b hb⟩
    ·obtain ⟨i,e,i1,i2,i3⟩:=m2 b hb; exact ⟨i,e,by omega,i2,i3⟩
  cases k with
  | v t=>obtain ⟨Lo,k1,k2⟩:=plain hp hz; exact ⟨Lo,⟨v,us,rfl,k1⟩,k2⟩
  | rd t=>obtain ⟨Lo,k1,k2⟩:=plain hp hz; exact ⟨Lo,⟨v,us,rfl,k1⟩,k2⟩
  | s8 f ts=>obtain ⟨Lo,k1,k2⟩:=plain hp hz; exact ⟨Lo,⟨v,us,rfl,k1⟩,k2⟩
  | P4=>obtain ⟨Lo,k1,k2⟩:=plain hp hz; exact ⟨Lo,⟨v,us,rfl,k1⟩,k2⟩
  | S5 f n=>obtain ⟨Lo,k1,k2⟩:=plain hp hz; exact ⟨Lo,⟨v,us,rfl,k1⟩,k2⟩
  | el q=>obtain ⟨Lo,k1,k2⟩:=plain hp hz; exact ⟨Lo,⟨v,us,rfl,k1⟩,k2⟩
  | own t=>obtain ⟨Lo,k1,k2⟩:=plain hp hz; exact ⟨Lo,⟨v,us,rfl,k1⟩,k2⟩
  | rw t =>
   obtain ⟨b0,off0,O0,rfl,_,_,_⟩:=hk
   simp only [Y3] at hz
   split at hz
   ·rename_i u x' y' hob hz'
    split at hz
    ·rename_i hu
     cases hz
     subst hu
     have hob:look (2000000+j) s.hp=some (.var u x'):=hob
     obtain ⟨Lo,k1,k2,k3⟩:=a1R h hK (fun q hq=>hp q (by simp only [G9]; exact List.mem_cons_of_mem _ hq)) hz'
     obtain ⟨_,_,p3,p4⟩:=h.pin (2000000+j,(b0,off0),[]) (hp _ (by simp [G9]))
     have p3:ι.root (2000000+j)=(b0,off0):=p3
     obtain ⟨⟨O,hO,hR⟩,hfr,hnd⟩:=(h.ob _ _ hob:OB w.heap S ι (2000000+j) (.var u x'))
     rw [p3] at hR hfr hnd
     have hnd':(b0::O).Nodup:=List.nodup_cons.2 ⟨fun hb=>(List.nodup_cons.1 hnd).1 (hO.mem_iff.1 hb),hO.nodup_iff.2 (List.nodup_cons.1 hnd).2⟩
     obtain ⟨j1,j2⟩:=join hob hnd' (fun b hb=>by
      rcases List.mem_cons.1 hb with rfl|hb
      ·simp [j7,p3]
      ·simp [j7,hO.mem_iff.1 hb]) k2 k3
     exact ⟨(b0::O)++Lo,⟨b0,off0,O,us,Lo,rfl,hR,hfr,rfl,k1⟩,j1,j2⟩
    ·cases hz
   ·cases hz
  | mu t =>
   obtain ⟨cs0,rfl,hR0⟩:=hk
   simp only [Y3] at hz
   split at hz
   ·rename_i u x' y' hob hz'
    split at hz
    ·rename_i hu
     cases hz
     subst hu
     have hob:look (2000000+j) s.hp=some (.own (.b7 true t) x'):=hob
     obtain ⟨Lo,k1,k2,k3⟩:=a1R h hK (fun q hq=>hp q (by simp only [G9]; exact List.mem_cons_of_mem _ hq)) hz'
     obtain ⟨_,_,p3,p4⟩:=h.pin (2000000+j,(0,0),[j6 (.b7 true t) cs0]) (hp _ (by simp [G9]))
     have p4:ι.cells (2000000+j)=[j6 (.b7 true t) cs0]:=p4
     obtain ⟨⟨O,hO,hR⟩,hnd⟩:=(h.ob _ _ hob:OB w.heap S ι (2000000+j) (.own (.b7 true t) x'))
     rw [p4] at hR
     obtain ⟨j1,j2⟩:=join hob (hO.nodup_iff.2 hnd) (fun b hb=>hO.mem_iff.1 hb) k2 k3
     exact ⟨O++Lo,⟨[j6 (.b7 true t) cs0],O,us,Lo,rfl,rfl,hR,rfl,k1⟩,j1,j2⟩
    ·cases hz
   ·cases hz

end
end Go.Ex
