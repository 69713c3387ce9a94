import Derived.Test.YtgmbfnlhmnpciaaDoorExK7

namespace Go.Ex

/-! ### drawn regions in which addresses of parts stand unordered with stores of plain values -/
theorem getP_ty:∀ {t:Ty} {x:t.den} {p:List Step} {r:Sigma Ty.den},getP t x p=some r→tyP t p=some r.1:=by
 intro t
 induction t with
 | pair a b iha ihb =>
  intro x p r h
  match p,h with
  | [],h=>simp only [getP,Option.some.injEq] at h; subst h; rfl
  | .fld 0::p,h=>exact iha (x:=x.1) h
  | .fld (n+1)::p,h=>exact ihb (x:=x.2) (p:=.fld n::p) h
  | .idx i::p,h=>simp [getP] at h
 | arr n t ih =>
  intro x p r h
  match p,h with
  | [],h=>simp only [getP,Option.some.injEq] at h; subst h; rfl
  | .fld i::p,h=>simp [getP] at h
  | .idx i::p,h=>exact ih h
 | slc o t ih =>
  intro x p r h
  match p,h with
  | [],h=>cases o<;>(simp only [getP,Option.some.injEq] at h; subst h; rfl)
  | .fld i::p,h=>cases o<;>simp [getP] at h
  | .idx i::p,h =>
   cases o with
   | true=>exact ih h
   | false=>simp [getP] at h
 | _ =>
  intro x p r h
  match p,h with
  | [],h=>simp only [getP,Option.some.injEq] at h; subst h; rfl
  | .fld i::p,h=>simp [getP] at h
  | .idx i::p,h=>simp [getP] at h

theorem getP_of:∀ {t:Ty} {p:List Step} {u:Ty},tyP t p=some u→∀ x:t.den,∃ z,getP t x p=some ⟨u,z⟩:=by
 intro t
 induction t with
 | pair a b iha ihb =>
  intro p u h x
  match p,h with
  | [],h=>simp only [tyP,Option.some.injEq] at h; subst h; exact ⟨x,rfl⟩
  | .fld 0::p,h=>exact iha h x.1
  | .fld (n+1)::p,h=>exact ihb (p:=.fld n::p) h x.2
  | .idx i::p,h=>simp [tyP] at h
 | arr n t ih =>
  intro p u h x
  match p,h with
  | [],h=>simp only [tyP,Option.some.injEq] at h; subst h; exact ⟨x,rfl⟩
  | .fld i::p,h=>simp [tyP] at h
  | .idx i::p,h=>exact ih h _
 | slc o t ih =>
  intro p u h x
  match p,h with
  | [],h=>cases o<;>(simp only [tyP,Option.some.injEq] at h; subst h; exact ⟨x,rfl⟩)
  | .fld i::p,h=>cases o<;>simp [tyP] at h
  | .idx i::p,h =>
   cases o with
   | true=>exact ih h _
   | false=>simp [tyP] at h
 | _ =>
  intro p u h x
  match p,h with
  | [],h=>simp only [tyP,Option.some.injEq] at h; subst h; exact ⟨x,rfl⟩
  | .fld i::p,h=>simp [tyP] at h
  | .idx i::p,h=>simp [tyP] at h

theorem kp_nil (q:List Step):kp q []=true:=by cases q with
 | nil=>rfl
 | cons s q=>cases s<;>rfl

theorem noIx_kp:∀ {t:Ty} {p:List Step} {u:Ty},t.noIx=true→tyP t p=some u→kp [] p=true:=by
 intro t
 induction t with
 | pair a b iha ihb =>
  intro p u hn h
  simp only [Ty.noIx,Bool.and_eq_true] at hn
  match p,h with
  | [],_=>rfl
  | .fld 0::p,h =>
   have h:tyP a p=some u:=h
   have:=iha hn.1 h
   simpa [kp] using this
  | .fld (n+1)::p,h =>
   have:=ihb (p:=.fld n::p) hn.2 h
   simpa [kp] using this
  | .idx i::p,h=>simp [tyP] at h
 | arr n t ih=>intro p u hn; cases hn
 | slc o t ih=>intro p u hn; cases hn
 | _ =>
  intro p u hn h
  match p,h with
  | [],_=>rfl
  | .fld i::p,h=>simp [tyP] at h
  | .idx i::p,h=>simp [tyP] at h

theorem noIx_slc:∀ {t:Ty} {p:List Step} {u:Ty},t.noIx=true→tyP t p=some u→u.noIx=true:=by
 intro t
 induction t with
 | pair a b iha ihb =>
  intro p u hn h
  match p,h with
  | [],h=>simp only [tyP,Option.some.injEq] at h; subst h; exact hn
  | .fld 0::p,h=>simp only [Ty.noIx,Bool.and_eq_true] at hn; exact iha hn.1 h
  | .fld (n+1)::p,h=>simp only [Ty.noIx,Bool.and_eq_true] at hn; exact ihb (p:=.fld n::p) hn.2 h
  | .idx i::p,h=>simp [tyP] at h
 | arr n t ih=>intro p u hn; cases hn
 | slc o t ih=>intro p u hn; cases hn
 | _ =>
  intro p u hn h
  match p,h with
  | [],h=>simp only [tyP,Option.some.injEq] at h; subst h; exact hn
  | .fld i::p,h=>simp [tyP] at h
  | .idx i::p,h=>simp [tyP] at h

theorem kp_more:∀ {t:Ty} {q p:List Step} {st:Step} {uq u:Ty},tyP t q=some uq→uq.noIx=true→tyP t (p++[st])=some u→kp q p=true→kp q (p++[st])=true:=by
 intro t
 induction t with
 | pair a b iha ihb =>
  intro q p st uq u hq hn hp hk
  match q,hq with
  | [],hq=>simp only [tyP,Option.some.injEq] at hq; subst hq; exact noIx_kp hn hp
  | .fld 0::q,hq =>
   match p,hp,hk with
   | [],hp,_ =>
    cases st with
    | fld m=>cases m with
     | zero=>simp [kp]
     | succ m=>simp [kp]
    | idx i=>simp [tyP] at hp
   | .fld 0::p,hp,hk =>
    simp only [kp,if_true,List.cons_append] at hk ⊢
    exact iha hq hn hp hk
   | .fld (m+1)::p,_,_=>simp [kp]
   | .idx i::p,hp,_=>simp [tyP] at hp
  | .fld (n+1)::q,hq =>
   match p,hp,hk with
   | [],hp,_ =>
    cases st with
    | fld m=>simp only [List.nil_append,kp]; split<;>simp
    | idx i=>simp [tyP] at hp
   | .fld 0::p,_,_=>simp [kp]
   | .fld (m+1)::p,hp,hk =>
    have:=ihb (q:=.fld n::q) (p:=.fld m::p) hq hn hp (by
     simp only [kp,Nat.add_right_cancel_iff] at hk ⊢; exact hk)
    simp only [List.cons_append,kp,Nat.add_right_cancel_iff] at this ⊢; exact this
   | .idx i::p,hp,_=>simp [tyP] at hp
  | .idx i::q,hq=>simp [tyP] at hq
 | arr n t ih =>
  intro q p st uq u hq hn hp hk
  match q,hq with
  | [],hq=>simp only [tyP,Option.some.injEq] at hq; subst hq; cases hn
  | .fld i::q,hq=>simp [tyP] at hq
  | .idx i::q,hq =>
   match p,hp,hk with
   | [],hp,_ =>
    cases st with
    | fld m=>simp [tyP] at hp
    | idx k=>simp [kp]
   | .fld m::p,hp,_=>simp [tyP] at hp
   | .idx k::p,hp,hk =>
    simp only [List.cons_append,kp] at hk ⊢
    exact ih hq hn hp hk
 | slc o t ih =>
  intro q p st uq u hq hn hp hk
  cases o with
  | false =>
   match q,hq with
   | [],hq=>simp only [tyP,Option.some.injEq] at hq; subst hq; cases hn
   | .fld i::q,hq=>simp [tyP] at hq
   | .idx i::q,hq=>simp [tyP] at hq
  | true =>
   match q,hq with
   | [],hq=>simp only [tyP,Option.some.injEq] at hq; subst hq; cases hn
   | .fld i::q,hq=>simp [tyP] at hq
   | .idx i::q,hq =>
    match p,hp,hk with
    | [],hp,_ =>
     cases st with
     | fld m=>simp [tyP] at hp
     | idx k=>simp [kp]
    | .fld m::p,hp,_=>simp [tyP] at hp
    | .idx k::p,hp,hk =>
     simp only [List.cons_append,kp] at hk ⊢
     exact ih hq hn hp hk
 | _ =>
  intro q p st uq u hq hn hp hk
  exfalso
  cases p with
  | nil=>cases st<;>simp [tyP] at hp
  | cons s p=>cases s<;>simp [tyP] at hp

theorem noIx_sh:∀ {u t:Ty},u.noIx=true→u.sh=t.sh→t=u:=by
 intro u
 induction u with
 | pair a b iha ihb =>
  intro t hn h
  simp only [Ty.noIx,Bool.and_eq_true] at hn
  cases t<;>simp only [Ty.sh,Ty.pair.injEq,reduceCtorEq] at h
  rw [iha hn.1 h.1,ihb hn.2 h.2]
 | arr n t ih=>intro _ hn; cases hn
 | slc o t ih=>intro _ hn; cases hn
 | fn f=>intro _ hn; cases hn
 | map o k v=>intro _ hn; cases hn
 | box o g t ih=>intro _ hn; cases hn
 | hole t ih=>intro _ hn; cases hn
 | int k=>intro t hn h; cases t<;>simp only [Ty.sh,reduceCtorEq] at h; exact h.symm
 | bool=>intro t hn h; cases t<;>simp only [Ty.sh,reduceCtorEq] at h; rfl
 | str=>intro t hn h; cases t<;>simp only [Ty.sh,reduceCtorEq] at h; rfl
 | unit=>intro t hn h; cases t<;>simp only [Ty.sh,reduceCtorEq] at h; rfl

theorem set_same:∀ {t:Ty} {x:t.den} {q:List Step} {v:Ty} {y:v.den} {r:Sigma Ty.den},v.noIx=true→setP t x q v y=some r→r.1=t:=by
 intro t
 induction t with
 | pair a b iha ihb =>
  intro x q v y r hn h
  match q,h with
  | [],h =>
   simp only [setP] at h
   split at h
   ·rename_i hs; cases h; exact (noIx_sh hn hs).symm
   ·cases h
  | .fld 0::q,h =>
   simp only [setP] at h
   split at h
   ·rename_i t' z hz; cases h; have:t'=a:=iha hn hz; subst this; rfl
   ·cases h
  | .fld (n+1)::q,h =>
   simp only [setP] at h
   split at h
   ·rename_i t' z hz; cases h; have:t'=b:=ihb hn hz; subst this; rfl
   ·cases h
  | .idx i::q,h=>simp [setP] at h
 | arr n t ih =>
  intro x q v y r hn h
  match q,h with
  | [],h =>
   simp only [setP] at h
   split at h
   ·rename_i hs; cases h; exact (noIx_sh hn hs).symm
   ·cases h
  | .fld i::q,h=>simp [setP] at h
  | .idx i::q,h =>
   simp only [setP] at h
   split at h
   ·split at h
    ·cases h; rfl
    ·cases h
   ·cases h
 | slc o t ih =>
  intro x q v y r hn h
  match q,h with
  | [],h =>
   have h:(if v.sh=(Ty.slc o t).sh then some (⟨v,y⟩:Sigma Ty.den) else none)=some r:=by cases o<;>exact h
   split at h
   ·rename_i hs; cases h; exact (noIx_sh hn hs).symm
   ·cases h
  | .fld i::q,h=>cases o<;>simp [setP] at h
  | .idx i::q,h =>
   cases o with
   | false=>simp [setP] at h
   | true =>
    simp only [setP] at h
    split at h
    ·split at h
     ·cases h; rfl
     ·cases h
    ·cases h
 | _ =>
  intro x q v y r hn h
  match q,h with
  | [],h =>
   simp only [setP] at h
   split at h
   ·rename_i hs; cases h; exact (noIx_sh hn hs).symm
   ·cases h
  | .fld i::q,h=>simp [setP] at h
  | .idx i::q,h=>simp [setP] at h

theorem len_same:∀ {t:Ty} {x x':t.den} {q p:List Step} {v:Ty} {y:v.den} {u:Ty} {z z':List u.den},v.noIx=true→setP t x q v y=some ⟨t,x'⟩→getP t x p=some ⟨.slc true u,z⟩→getP t x' p=some ⟨.slc true u,z'⟩→z.length=z'.length:=by
 intro t
 induction t with
 | pair a b iha ihb =>
  intro x x' q p v y u z z' hn hs h h'
  match q,hs with
  | [],hs =>
   exfalso
   simp only [setP] at hs
   split at hs
   ·rename_i hsh; have e:=noIx_sh hn hsh; have:=noIx_slc hn (e▸getP_ty h); cases this
   ·cases hs
  | .fld 0::q,hs =>
   simp only [setP] at hs
   split at hs
   ·rename_i t' w hw
    have et:t'=a:=set_same hn hw
    subst et
    cases hs
    match p,h,h' with
    | [],h,_=>simp [getP] at h
    | .fld 0::p,h,h'=>exact iha hn hw h h'
    | .fld (m+1)::p,h,h' =>
     have:getP b x.2 (.fld m::p)=some ⟨.slc true u,z⟩:=h
     have h2:getP b x.2 (.fld m::p)=some ⟨.slc true u,z'⟩:=h'
     rw [this] at h2; cases h2; rfl
    | .idx i::p,h,_=>simp [getP] at h
   ·cases hs
  | .fld (n+1)::q,hs =>
   simp only [setP] at hs
   split at hs
   ·rename_i t' w hw
    have et:t'=b:=set_same hn hw
    subst et
    cases hs
    match p,h,h' with
    | [],h,_=>simp [getP] at h
    | .fld 0::p,h,h' =>
     have:getP a x.1 p=some ⟨.slc true u,z⟩:=h
     have h2:getP a x.1 p=some ⟨.slc true u,z'⟩:=h'
     rw [this] at h2; cases h2; rfl
    | .fld (m+1)::p,h,h'=>exact ihb (p:=.fld m::p) hn hw h h'
    | .idx i::p,h,_=>simp [getP] at h
   ·cases hs
  | .idx i::q,hs=>simp [setP] at hs
 | arr n t ih =>
  intro x x' q p v y u z z' hn hs h h'
  match q,hs with
  | [],hs =>
   exfalso
   simp only [setP] at hs
   split at hs
   ·rename_i hsh; have e:=noIx_sh hn hsh; rw [← e] at hn; cases hn
   ·cases hs
  | .fld i::q,hs=>simp [setP] at hs
  | .idx i::q,hs =>
   simp only [setP] at hs
   split at hs
   ·rename_i t' w hw
    have et:t'=t:=set_same hn hw
    subst et
    rw [dif_pos rfl] at hs
    cases hs
    match p,h,h' with
    | [],h,_=>simp [getP] at h
    | .fld m::p,h,_=>simp [getP] at h
    | .idx k::p,h,h' =>
     have h:getP t' (List.getD x k.toNat t'.dflt) p=some ⟨.slc true u,z⟩:=h
     have h':getP t' (List.getD (List.set x i.toNat w) k.toNat t'.dflt) p=some ⟨.slc true u,z'⟩:=h'
     rw [List.getD_eq_getElem?_getD,List.getElem?_set] at h'
     split at h'
     ·rename_i hik
      split at h'
      ·rw [← hik] at h; exact ih hn hw h h'
      ·rename_i hlt
       rw [List.getD_eq_getElem?_getD,List.getElem?_eq_none (by omega)] at h
       rw [h] at h'; cases h'; rfl
     ·rw [← List.getD_eq_getElem?_getD] at h'
      rw [h] at h'; cases h'; rfl
   ·cases hs
 | slc o t ih =>
  intro x x' q p v y u z z' hn hs h h'
  match q,hs with
  | [],hs =>
   exfalso
   have hs:(if v.sh=(Ty.slc o t).sh then some (⟨v,y⟩:Sigma Ty.den) else none)=some ⟨.slc o t,x'⟩:=by cases o<;>exact hs
   split at hs
   ·rename_i hsh; have e:=noIx_sh hn hsh; rw [← e] at hn; cases hn
   ·cases hs
  | .fld i::q,hs=>cases o<;>simp [setP] at hs
  | .idx i::q,hs =>
   cases o with
   | false=>simp [setP] at hs
   | true =>
    simp only [setP] at hs
    split at hs
    ·rename_i t' w hw
     have et:t'=t:=set_same hn hw
     subst et
     rw [dif_pos rfl] at hs
     cases hs
     match p,h,h' with
     | [],h,h' =>
      simp only [getP,Option.some.injEq] at h h'
      cases h
      cases h'
      rw [List.length_set]
     | .fld m::p,h,_=>simp [getP] at h
     | .idx k::p,h,h' =>
      have h:getP t' (List.getD x k.toNat t'.dflt) p=some ⟨.slc true u,z⟩:=h
      have h':getP t' (List.getD (List.set x i.toNat w) k.toNat t'.dflt) p=some ⟨.slc true u,z'⟩:=h'
      rw [List.getD_eq_getElem?_getD,List.getElem?_set] at h'
      split at h'
      ·rename_i hik
       split at h'
       ·rw [← hik] at h; exact ih hn hw h h'
       ·rename_i hlt
        rw [List.getD_eq_getElem?_getD,List.getElem?_eq_none (by omega)] at h
        rw [h] at h'; cases h'; rfl
      ·rw [← List.getD_eq_getElem?_getD] at h'
       rw [h] at h'; cases h'; rfl
    ·cases hs
 | _ =>
  intro x x' q p v y u z z' hn hs h h'
  exfalso
  match p,h with
  | [],h=>simp [getP] at h
  | .fld i::p,h=>simp [getP] at h
  | .idx i::p,h=>simp [getP] at h
section
variable {E:Env} {ops:Array Oper} {s t:St}

theorem plain_run {o:Oper} (hp:plainSt o s=true) {p:Prop} {s1:St} (h:placeR E ops o s=some (p,s1)) :
  ∃ (T:TypeId) (a x:Operand) (j:Nat) (q:List Step) (v:Ty) (z:v.den) (e:Ent) (r:Sigma Ty.den),o.op=.store T a x∧s.ev a=.ptr j q∧s.ev x=.val v z∧v.noIx=true∧look j s.hp=some e∧setP e.ty e.x q v z=some r∧(∃ u y,getP e.ty e.x q=some ⟨u,y⟩) ∧
   s1=((s.kill j e.kd q).putE j (e.upd r)).put o.dst (.raw undef) ∧
   ∀ t:St,t.ev a=s.ev a→t.ev x=s.ev x→look j t.hp=some e→placeR E ops o t=some (p,((t.kill j e.kd q).putE j (e.upd r)).put o.dst (.raw undef)):=by
 unfold plainSt at hp
 split at hp
 ·rename_i T a x hg ho
  split at hp
  ·rename_i j q v z ha hx
   have hr:∀ t,placeR E ops o t=runR E o t:=fun t=>by unfold placeR; rw [hg]
   rw [hr] at h
   have hop:∀ t,aop E o t=(match t.ev a with|.ptr i p=>storeA E T i p (t.ev x) t|_=>.fail "store"):=fun t=>by unfold aop; rw [ho]; rfl
   have hrun:∀ t,runR E o t=(match dstOk E.nt o.dst with|false=>none|true=>match (aop E o t).get with|none=>none|some (p,v,s')=>some (p,s'.put o.dst v)):=fun t=>by unfold runR; rw [ho]; rfl
   rw [hrun] at h
   split at h
   ·cases h
   ·rename_i hd
    rw [hop,ha] at h
    have hst:∀ t:St,t.ev a=s.ev a→t.ev x=s.ev x→aop E o t=storeA E T j q (.val v z) t:=fun t h1 h2=>by rw [hop,h1,h2,ha,hx]
    simp only at h
    rw [hx] at h
    cases hob:look j s.hp with
    | none =>
     have:storeA E T j q (.val v z) s=.fail "store: object":=by unfold storeA St.obj; rw [hob]
     rw [this] at h; cases h
    | some e =>
     cases hgp:getP e.ty e.x q with
     | none =>
      have:storeA E T j q (.val v z) s=.fail "store: path":=by unfold storeA St.obj; rw [hob]; simp only [hgp]
      rw [this] at h; cases h
     | some uy =>
      obtain ⟨u,y⟩:=uy
      cases hc:chk E T u with
      | false =>
       have:storeA E T j q (.val v z) s=.fail "store: type":=by unfold storeA St.obj; rw [hob]; simp only [hgp,hc]
       rw [this] at h; cases h
      | true =>
       have hsA:∀ t:St,look j t.hp=some e→storeA E T j q (.val v z) t=(match setP e.ty e.x q v z with
         | some r=>.ok (.raw undef) ((t.kill j e.kd q).putE j (e.upd r))
         | none=>.fail "store: value"):=fun t ht=>by
        unfold storeA St.obj; rw [ht]; simp only [hgp,hc,AV.giveV,AV.give,St.drops]
        cases setP e.ty e.x q v z with
        | none=>rfl
        | some r=>rfl
       rw [hsA s hob] at h
       cases hset:setP e.ty e.x q v z with
       | none=>rw [hset] at h; cases h
       | some r =>
        rw [hset] at h
        simp only [OR.get,Option.some.injEq,Prod.mk.injEq] at h
        obtain ⟨rfl,rfl⟩:=h
        refine ⟨T,a,x,j,q,v,z,e,r,ho,ha,hx,hp,hob,hset,⟨u,y,hgp⟩,rfl,fun t h1 h2 h3=>?_⟩
        rw [hr,hrun,hd]
        simp only
        rw [hst t h1 h2,hsA t h3,hset]
        rfl
  ·cases hp
 ·cases hp

theorem trim_back {T:List Nat} {f:AV→AV} (hf:Trim T f) {u v:AV} (h:f u=v) (hv:v.ref=true∨∃ t z,v=.val t z):u=v:=by
 cases u with
 | cons a b=>rw [hf.cons] at h; subst h; rcases hv with hv|⟨_,_,hv⟩<;>cases hv
 | tup l=>rw [hf.tup] at h; subst h; rcases hv with hv|⟨_,_,hv⟩<;>cases hv
 | clo g l=>rw [hf.clo] at h; subst h; rcases hv with hv|⟨_,_,hv⟩<;>cases hv
 | bx l=>rw [hf.bx] at h; subst h; rcases hv with hv|⟨_,_,hv⟩<;>cases hv
 | rc g l=>rw [hf.rc] at h; subst h; rcases hv with hv|⟨_,_,hv⟩<;>cases hv
 | ptr i p=>rcases hf.atom _ (rfl:(AV.ptr i p).ref=true) with e|e<;>rw [e] at h<;>first|exact h|(subst h; rcases hv with hv|⟨_,_,hv⟩<;>cases hv)
 | at_ i p=>rcases hf.atom _ (rfl:(AV.at_ i p).ref=true) with e|e<;>rw [e] at h<;>first|exact h|(subst h; rcases hv with hv|⟨_,_,hv⟩<;>cases hv)
 | sub i p x y=>rcases hf.atom _ (rfl:(AV.sub i p x y).ref=true) with e|e<;>rw [e] at h<;>first|exact h|(subst h; rcases hv with hv|⟨_,_,hv⟩<;>cases hv)
 | _=>rw [hf.plain _ rfl] at h; exact h
theorem set_tyP:∀ {t:Ty} {x:t.den} {q:List Step} {v:Ty} {y:v.den} {r:Sigma Ty.den},v.noIx=true→setP t x q v y=some r→tyP t q=some v:=by
 intro t
 induction t with
 | pair a b iha ihb =>
  intro x q v y r hn h
  match q,h with
  | [],h =>
   simp only [setP] at h
   split at h
   ·rename_i hs; rw [noIx_sh hn hs]; simp [tyP]
   ·cases h
  | .fld 0::q,h =>
   simp only [setP] at h
   split at h
   ·rename_i t' z hz; exact iha hn hz
   ·cases h
  | .fld (n+1)::q,h =>
   simp only [setP] at h
   split at h
   ·rename_i t' z hz; exact ihb hn hz
   ·cases h
  | .idx i::q,h=>simp [setP] at h
 | arr n t ih =>
  intro x q v y r hn h
  match q,h with
  | [],h =>
   simp only [setP] at h
   split at h
   ·rename_i hs; rw [noIx_sh hn hs]; simp [tyP]
   ·cases h
  | .fld i::q,h=>simp [setP] at h
  | .idx i::q,h =>
   simp only [setP] at h
   split at h
   ·rename_i t' z hz; exact ih hn hz
   ·cases h
 | slc o t ih =>
  intro x q v y r hn h
  match q,h with
  | [],h =>
   have h:(if v.sh=(Ty.slc o t).sh then some (⟨v,y⟩:Sigma Ty.den) else none)=some r:=by cases o<;>exact h
   split at h
   ·rename_i hs; rw [noIx_sh hn hs]; simp [tyP]
   ·cases h
  | .fld i::q,h=>cases o<;>simp [setP] at h
  | .idx i::q,h =>
   cases o with
   | false=>simp [setP] at h
   | true =>
    simp only [setP] at h
    split at h
    ·rename_i t' z hz; exact ih hn hz
    ·cases h
 | _ =>
  intro x q v y r hn h
  match q,h with
  | [],h =>
   simp only [setP] at h
   split at h
   ·rename_i hs; rw [noIx_sh hn hs]; simp [tyP]
   ·cases h
  | .fld i::q,h=>simp [setP] at h
  | .idx i::q,h=>simp [setP] at h

theorem addrS_run {y:Oper} {s1:St} (hy:addrSt y s1=true) {q:Prop} {s2:St} (h:placeR E ops y s1=some (q,s2)) :
  ∃ (ins:List Operand) (a:Operand) (d:Nat) (pp:List Step) (st:Step) (u:Ty) (z:u.den),(∀ m,Operand.tmp m∈ins→m∈looks ops y)∧a∈ins∧(s1.ev a=.at_ d pp∨s1.ev a=.ptr d pp)∧s1.part d pp=some ⟨u,z⟩∧s2=s1.put y.dst (.ptr d (pp++[st]))∧(∃ w,tyP u [st]=some w) ∧
   (∀ t:St,(∀ i∈ins,t.ev i=s1.ev i)→(∃ z':u.den,t.part d pp=some ⟨u,z'⟩∧∀ v (l l':List v.den),(⟨u,z⟩:Sigma Ty.den)=⟨.slc true v,l⟩→(⟨u,z'⟩:Sigma Ty.den)=⟨.slc true v,l'⟩→l'.length=l.length)→addrSt y t=true∧∃ q',placeR E ops y t=some (q',t.put y.dst (.ptr d (pp++[st])))∧(q→q')) ∧
   (∀ i∈ins,s1.ev i=s1.ev a∨∃ k n,s1.ev i=.val (.int k) n):=by
 have hr:y.guard=none→∀ t,placeR E ops y t=runR E y t:=fun hg t=>by unfold placeR; rw [hg]
 unfold addrSt at hy
 split at hy
 ·rename_i T a i hg ho
  split at hy
  ·rename_i d pp k n ha hi
   rw [hr hg] at h
   have hrun:∀ t,runR E y t=(match dstOk E.nt y.dst with|false=>none|true=>match (aop E y t).get with|none=>none|some (p,v,s')=>some (p,s'.put y.dst v)):=fun t=>by unfold runR; rw [ho]; rfl
   have hop:∀ t:St,t.ev a=.at_ d pp→t.ev i=.val (.int k) n→aop E y t=(match t.part d pp with
     | some ⟨.slc true u,z⟩=>(match chk E T (.slc true u) with
      | true=>.okN (0≤n∧n<List.length z) (.ptr d (pp++[.idx n])) t
      | false=>.fail "indexAddr: type")
     | _=>.fail "indexAddr: type"):=fun t h1 h2=>by unfold aop; rw [ho]; simp only [h1,h2]; rfl
   rw [hrun,hop s1 ha hi] at h
   split at h
   ·cases h
   ·rename_i hd
    split at h
    ·cases h
    ·rename_i p v s' hget
     split at hget
     ·rename_i u z hpt
      split at hget
      ·rename_i hc
       simp only [OR.get,Option.some.injEq,Prod.mk.injEq] at hget h
       obtain ⟨rfl,rfl,rfl⟩:=hget
       obtain ⟨rfl,rfl⟩:=h
       refine ⟨[a,i],a,d,pp,.idx n,.slc true u,z,?_,by simp,.inl ha,hpt,rfl,⟨u,by simp [tyP]⟩,?_,?_⟩
       ·intro m hm
        refine looks_op ?_
        rw [ho]; simp [Op.operands] at hm ⊢; rcases hm with hm|hm<;>simp [← hm]
       ·rintro t hin ⟨z',hz',hlen⟩
        have h1:=(hin a (by simp)).trans ha
        have h2:=(hin i (by simp)).trans hi
        have hl:=hlen u z z' rfl rfl
        refine ⟨by unfold addrSt; rw [hg,ho]; simp only [h1,h2],(0≤n∧n<List.length z'),?_,fun hq=>by rw [hl]; exact hq⟩
        rw [hr hg,hrun,hd,hop t h1 h2,hz']
        simp only [hc,OR.get]
       ·intro o ho'
        simp at ho'
        rcases ho' with rfl|rfl
        ·exact .inl rfl
        ·exact .inr ⟨k,n,hi⟩
      ·cases hget
     ·cases hget
  ·cases hy
 ·rename_i T a n hg ho
  split at hy
  ·rename_i d pp ha
   rw [hr hg] at h
   have hrun:∀ t,runR E y t=(match dstOk E.nt y.dst with|false=>none|true=>match (aop E y t).get with|none=>none|some (p,v,s')=>some (p,s'.put y.dst v)):=fun t=>by unfold runR; rw [ho]; rfl
   have hop:∀ t:St,t.ev a=.ptr d pp→aop E y t=(match t.part d pp with
     | some ⟨u,z⟩=>(match chk E T u,getP u z [.fld n] with
      | true,some _=>.ok (.ptr d (pp++[.fld n])) t
      | _,_=>.fail "fieldAddr: type")
     | none=>.fail "fieldAddr: path"):=fun t h1=>by unfold aop; rw [ho]; simp only [h1]; rfl
   rw [hrun,hop s1 ha] at h
   split at h
   ·cases h
   ·rename_i hd
    split at h
    ·cases h
    ·rename_i p v s' hget
     split at hget
     ·rename_i u z hpt
      split at hget
      ·rename_i r hc hgf
       simp only [OR.get,Option.some.injEq,Prod.mk.injEq] at hget h
       obtain ⟨rfl,rfl,rfl⟩:=hget
       obtain ⟨rfl,rfl⟩:=h
       refine ⟨[a],a,d,pp,.fld n,u,z,?_,by simp,.inr ha,hpt,rfl,⟨_,getP_ty hgf⟩,?_,?_⟩
       ·intro m hm
        refine looks_op ?_
        rw [ho]; simp [Op.operands] at hm ⊢; simp [← hm]
       ·rintro t hin ⟨z',hz',_⟩
        have h1:=(hin a (by simp)).trans ha
        obtain ⟨w',hw'⟩:=getP_of (getP_ty hgf) z'
        refine ⟨by unfold addrSt; rw [hg,ho]; simp only [h1],True,?_,fun _=>trivial⟩
        rw [hr hg,hrun,hd,hop t h1,hz']
        simp only [hc,hw',OR.get]
       ·intro o ho'
        simp at ho'
        subst ho'
        exact .inl rfl
      ·cases hget
     ·cases hget
  ·cases hy
 ·cases hy

theorem takes_addr {y:Oper} (hy:addrOp y=true) (s:St):takes E y s=[]:=by
 unfold addrOp at hy
 split at hy
 ·rename_i ho; unfold takes; rw [ho]
 ·rename_i ho; unfold takes; rw [ho]
 ·cases hy

theorem addrSt_op {y:Oper} (hy:addrSt y s=true):addrOp y=true:=by
 unfold addrSt at hy
 unfold addrOp
 split at hy
 ·rename_i hg ho; simp only
 ·rename_i hg ho; simp only
 ·cases hy

theorem vwB_store {o:Oper} {T:TypeId} {a x:Operand} (ho:o.op=.store T a x) (v:AV):vwB o v=v:=by
 rcases vwB_eq o with e|⟨_,x,j,hop,_⟩
 ·exact e v
 ·rw [ho] at hop; cases hop

theorem swapSt {x y:Oper} (hym:y∈ops.toList) (hi:indep ops x y=true) (hu:uniq s.fr) {p q:Prop} {s1 s2:St} (h1:placeR E ops x s=some (p,s1)) (h2:placeR E ops y s1=some (q,s2)) (hx:plainSt x s=true) (hy:addrSt y s1=true) :
  ∃ q' s1' s2',placeR E ops y s=some (q',s1')∧(q→q')∧addrSt y s=true∧placeR E ops x s1'=some (p,s2')∧uniq s1'.fr∧uniq s2'.fr∧Eqv s2' s2∧takes E y s=takes E y s1∧takes E x s1'=takes E x s ∧
   (∀ m∈looks ops x,vwB x (s1'.get m)=vwB x (s.get m))∧∀ (z:Oper) m,∀ i∈takes E x s,(vwB z (s1'.get m)).ment i=true→(vwB z (s.get m)).ment i=true∨m∈adOf ops:=by
 obtain ⟨ax,ay,hmod⟩:=indep_spec hi
 have hdd:∀ d,x.dst=some d→y.dst=some d→False:=fun d e1 e2=>hmod (by rw [e1,e2])
 obtain ⟨T,xa,xx,j,qq,v,z,e,r,ho,hxa,hxx,hnv,hob,hset,⟨u0,y0,hgq⟩,rfl,hback⟩:=plain_run hx h1
 obtain ⟨ins,a,d,pp,st,u,zz,hins,hain,hva,hpt,rfl,⟨w,hst⟩,hfwd,hkind⟩:=addrS_run hy h2
 -- slots in the store's state
 have hfr:∀ n,look n (((s.kill j e.kd qq).putE j (e.upd r)).put x.dst (.raw undef)).fr=if x.dst=some n then some (.raw undef) else (look n s.fr).map (AV.kill j e.kd qq):=fun n=>by
  rw [look_putS]; split
  ·rfl
  ·exact look_mapA n _ _
 have hget:∀ m,x.dst≠some m→(((s.kill j e.kd qq).putE j (e.upd r)).put x.dst (.raw undef)).get m=(s.get m).kill j e.kd qq:=fun m hm=>by
  simp only [St.get,hfr,if_neg hm]
  cases look m s.fr<;>rfl
 have hev:∀ o∈ins,(((s.kill j e.kd qq).putE j (e.upd r)).put x.dst (.raw undef)).ev o=(s.ev o).kill j e.kd qq:=by
  intro o hoi
  cases o with
  | tmp m =>
   have hg:=hget m (fun e=>ax m e (hins m hoi))
   rw [ev_tmp,ev_tmp,hg]
   unfold gq
   cases Nat.beq m ghostSlot<;>rfl
  | const c =>
   show ofConst c=(ofConst c).kill j e.kd qq
   exact (kill_noMent (ofConst_ment c j)).symm
  | global g=>rfl
  | func f=>rfl
 have hback2:∀ o∈ins,s.ev o=(((s.kill j e.kd qq).putE j (e.upd r)).put x.dst (.raw undef)).ev o:=by
  intro o hoi
  refine trim_back (Trim.kill j e.kd qq) (hev o hoi).symm ?_
  rcases hkind o hoi with h9|⟨k,n,h9⟩
  ·rw [h9]
   rcases hva with h9|h9<;>rw [h9]<;>exact .inl rfl
  ·rw [h9]; exact .inr ⟨_,_,rfl⟩
 -- the part in the store's state
 have hpart:∃ z':u.den,s.part d pp=some ⟨u,z'⟩∧∀ v (l l':List v.den),(⟨u,zz⟩:Sigma Ty.den)=⟨.slc true v,l⟩→(⟨u,z'⟩:Sigma Ty.den)=⟨.slc true v,l'⟩→l'.length=l.length:=by
  by_cases hdj:d=j
  ·subst hdj
   have hobj:look d (((s.kill d e.kd qq).putE d (e.upd r)).put x.dst (.raw undef)).hp=some (e.upd r):=by rw [hp_putS]; simp [St.putE,look_put]
   unfold St.part St.obj at hpt ⊢
   rw [hobj] at hpt
   rw [hob]
   simp only at hpt ⊢
   obtain ⟨r1,r2⟩:=r
   have hr1:r1=e.ty:=set_same hnv hset
   have key:∀ (t:Ty) (x0 x1:t.den),setP t x0 qq v z=some ⟨t,x1⟩→getP t x1 pp=some ⟨u,zz⟩→∃ z':u.den,getP t x0 pp=some ⟨u,z'⟩∧∀ v (l l':List v.den),(⟨u,zz⟩:Sigma Ty.den)=⟨.slc true v,l⟩→(⟨u,z'⟩:Sigma Ty.den)=⟨.slc true v,l'⟩→l'.length=l.length:=by
    intro t x0 x1 hs hg
    obtain ⟨z',hz'⟩:=getP_of (getP_ty hg) x0
    refine ⟨z',hz',fun v l l' e1 e2=>?_⟩
    cases e1; cases e2
    exact len_same hnv hs hz' hg
   cases e with
   | var t0 x0=>cases hr1; exact key _ x0 r2 hset hpt
   | own t0 x0=>cases hr1; exact key _ x0 r2 hset hpt
   | bag=>exact ⟨zz,hpt,fun v l l' e1 e2=>by rw [e1] at e2; cases e2; rfl⟩
  ·refine ⟨zz,?_,fun v l l' e1 e2=>by rw [e1] at e2; cases e2; rfl⟩
   rw [← hpt]
   unfold St.part St.obj
   rw [hp_putS]
   simp only [St.putE,look_put,if_neg hdj]
   rfl
 obtain ⟨hadr,q',hrun,hqq⟩:=hfwd s hback2 hpart
 have hu1:=place_uniq hu hrun
 have hadO:=addrSt_op hy
 -- the new address stays behind the store
 have hkp:AV.kill j e.kd qq (.ptr d (pp++[st]))=.ptr d (pp++[st]):=by
  by_cases hdj:d=j
  ·subst hdj
   have hsurv:kp qq pp=true:=by
    have h9:=hev a hain
    rw [hback2 a hain] at h9
    rcases hva with hv|hv
    ·rw [hv] at h9
     cases pp with
     | nil=>exact kp_nil qq
     | cons s0 pp =>
      simp only [AV.kill,AV.map,AV.kill1,AV.ment,Nat.beq_refl] at h9
      split at h9
      ·rename_i hk; rw [Bool.and_eq_true] at hk; exact hk.2
      ·cases h9
    ·rw [hv] at h9
     simp only [AV.kill,AV.map,AV.kill1,AV.ment,Nat.beq_refl] at h9
     split at h9
     ·assumption
     ·cases h9
   obtain ⟨z',hz',_⟩:=hpart
   have hpt2:getP e.ty e.x pp=some ⟨u,z'⟩:=by
    unfold St.part St.obj at hz'; rw [hob] at hz'; exact hz'
   have htp:tyP e.ty (pp++[st])=some w:=by
    have:∀ {t:Ty} {p:List Step} {u:Ty},tyP t p=some u→tyP t (p++[st])=tyP u [st]:=by
     intro t
     induction t with
     | pair a b iha ihb =>
      intro p u h
      match p,h with
      | [],h=>simp only [tyP,Option.some.injEq] at h; subst h; rfl
      | .fld 0::p,h=>exact iha h
      | .fld (n+1)::p,h=>exact ihb (p:=.fld n::p) h
      | .idx i::p,h=>simp [tyP] at h
     | arr n t ih =>
      intro p u h
      match p,h with
      | [],h=>simp only [tyP,Option.some.injEq] at h; subst h; rfl
      | .fld i::p,h=>simp [tyP] at h
      | .idx i::p,h=>exact ih h
     | slc o t ih =>
      intro p u h
      match p,h with
      | [],h=>cases o<;>(simp only [tyP,Option.some.injEq] at h; subst h; rfl)
      | .fld i::p,h=>cases o<;>simp [tyP] at h
      | .idx i::p,h =>
       cases o with
       | true=>exact ih h
       | false=>simp [tyP] at h
     | _ =>
      intro p u h
      match p,h with
      | [],h=>simp only [tyP,Option.some.injEq] at h; subst h; rfl
      | .fld i::p,h=>simp [tyP] at h
      | .idx i::p,h=>simp [tyP] at h
    rw [this (getP_ty hpt2)]; exact hst
   have:=kp_more (set_tyP hnv hset) hnv htp hsurv
   simp only [AV.kill,AV.map,AV.kill1,AV.ment,Nat.beq_refl,this]
  ·exact kill_noMent (by
    simp only [AV.ment]
    cases hb9:Nat.beq j d with
    | false=>rfl
    | true=>exact absurd (Nat.eq_of_beq_eq_true hb9).symm hdj)
 have hevx:∀ o,(∀ m,o=.tmp m→m∈looks ops x)→(s.put y.dst (.ptr d (pp++[st]))).ev o=s.ev o:=by
  intro o hm
  cases o with
  | tmp m =>
   refine ev_of_get (t:=s.put y.dst _) ?_
   simp only [St.get,look_putS]
   rw [if_neg (fun e=>ay m e (hm m rfl))]
  | _=>rfl
 have hlx:∀ o,o=xa∨o=xx→∀ m,o=.tmp m→m∈looks ops x:=by
  intro o hoo m hm
  refine looks_op ?_
  rw [ho]; simp [Op.operands]
  rcases hoo with rfl|rfl<;>simp [hm]
 have hb:=hback (s.put y.dst (.ptr d (pp++[st]))) (hevx xa (hlx xa (.inl rfl))) (hevx xx (hlx xx (.inr rfl))) (by rw [hp_putS]; exact hob)
 have hgx:∀ m∈looks ops x,(s.put y.dst (.ptr d (pp++[st]))).get m=s.get m:=fun m hm=>by
  simp only [St.get,look_putS]
  rw [if_neg (fun e=>ay m e hm)]
 refine ⟨q',_,_,hrun,hqq,hadr,hb,hu1,place_uniq hu1 hb,⟨fun n=>?_,fun i=>?_⟩,?_,?_,fun m hm=>by rw [hgx m hm],?_⟩
 ·rw [look_putS,look_putS,hfr]
  have e2:look n ((((s.put y.dst (.ptr d (pp++[st]))).kill j e.kd qq).putE j (e.upd r))).fr=(look n (s.put y.dst (.ptr d (pp++[st]))).fr).map (AV.kill j e.kd qq):=look_mapA n _ _
  rw [e2,look_putS]
  by_cases c1:x.dst=some n
  ·rw [if_pos c1,if_neg (fun c2=>hdd n c1 c2),if_pos c1]
  ·rw [if_neg c1,if_neg c1]
   by_cases c2:y.dst=some n
   ·rw [if_pos c2,if_pos c2,Option.map_some,hkp]
   ·rw [if_neg c2,if_neg c2]
 ·rw [hp_putS,hp_putS,hp_putS]
  simp only [St.putE,look_put,St.kill,hp_putS]
 ·rw [takes_addr hadO,takes_addr hadO]
 ·exact takes_getV (fun m hm=>by rw [hgx m hm])
 ·intro zo m i hi hm
  by_cases c2:y.dst=some m
  ·refine .inr (List.mem_filterMap.2 ⟨y,hym,?_⟩)
   rw [hadO]; exact c2
  ·have:(s.put y.dst (.ptr d (pp++[st]))).get m=s.get m:=by
    simp only [St.get,look_putS]; rw [if_neg c2]
   rw [this] at hm
   exact .inl hm
end

section
variable {E:Env} {ops:Array Oper} {s t:St}
theorem stAt_spec {y:Oper} {j:Nat} {kd:Bool×Ty} {q:List Step} (h:stAt y s=some (j,kd,q)):plainSt y s=true∧∃ T a x e,y.op=.store T a x∧s.ev a=.ptr j q∧look j s.hp=some e∧e.kd=kd:=by
 unfold stAt at h
 split at h
 ·rename_i T a x hp ho
  split at h
  ·rename_i j' q' ha
   cases hl:look j' s.hp with
   | none=>rw [hl] at h; cases h
   | some e =>
    rw [hl] at h
    simp only [Option.map_some,Option.some.injEq,Prod.mk.injEq] at h
    obtain ⟨rfl,rfl,rfl⟩:=h
    exact ⟨hp,T,a,x,e,ho,ha,hl,rfl⟩
  ·cases h
 ·cases h

theorem stAt_of {y:Oper} (hp:plainSt y s=true) {T a x} (ho:y.op=.store T a x) {j:Nat} {q:List Step} (ha:s.ev a=.ptr j q) {e:Ent} (he:look j s.hp=some e):stAt y s=some (j,e.kd,q):=by
 unfold stAt
 rw [hp,ho]
 simp only [ha,he,Option.map_some]

theorem keepV_tmp {j:Nat} {kd:Bool×Ty} {q:List Step} {s:St} {m:Nat} (h:keepV j kd q (s.ev (.tmp m))=true):s.get m=s.ev (.tmp m) :=
 ev_tmp_eq rfl (fun e=>by rw [e] at h; cases h)

theorem keepV_kill {j:Nat} {kd:Bool×Ty} {q:List Step} {v:AV} (h:keepV j kd q v=true):v.kill j kd q=v:=by
 cases v<;>simp only [keepV] at h<;>try (cases h; done)
 ·rename_i t x; rfl
 ·rename_i i p
  simp only [AV.kill,AV.map,AV.kill1,AV.ment]
  cases hb:Nat.beq j i with
  | false=>rfl
  | true=>rw [hb] at h; simp only [Bool.not_true,Bool.false_or] at h; simp only [h]
 ·rename_i i p
  rcases (Trim.kill j kd q).atom (.at_ i p) rfl with e|e
  ·exact e
  ·have e9:AV.kill1 j kd q (.at_ i p)=.any:=e
   rw [e9] at h
   show AV.kill1 j kd q (.at_ i p)=.at_ i p
   cases hb:Nat.beq j i with
   | false=>simp only [AV.kill1,AV.ment,hb]
   | true=>rw [hb] at h; cases h

theorem looks_in {o:Oper} (hg:o.guard=none) {m:Nat} (h:m∈looks ops o):Operand.tmp m∈o.op.operands.toList:=by
 unfold looks at h
 rw [hg] at h
 simp only [List.append_nil] at h
 obtain ⟨x,hx,hm⟩:=List.mem_filterMap.1 h
 cases x<;>simp at hm
 rw [← hm]; exact hx

theorem part_kd {i:Nat} {pp:List Step} {u:Ty} {z:u.den} (hh:hpk t i=hpk s i) (h:s.part i pp=some ⟨u,z⟩):∃ z':u.den,t.part i pp=some ⟨u,z'⟩:=by
 unfold St.part St.obj at h ⊢
 unfold hpk at hh
 cases hl:look i s.hp with
 | none=>rw [hl] at h; cases h
 | some e =>
  rw [hl] at h hh
  cases hl2:look i t.hp with
  | none=>rw [hl2] at hh; cases hh
  | some e' =>
   rw [hl2] at hh
   simp only [Option.map_some,Option.some.injEq,Ent.kd,Prod.mk.injEq] at hh
   have h9:=getP_ty h
   rw [← hh.2] at h9
   exact getP_of h9 e'.x

theorem keep_run {o:Oper} {j:Nat} {kd:Bool×Ty} {q:List Step} (hk:keepX o s j kd q=true) {p:Prop} {s1:St} (h:placeR E ops o s=some (p,s1)) :
  ∃ v:AV,s1=s.put o.dst v∧v.kill j kd q=v∧(∀ m∈looks ops o,(s.get m).kill j kd q=s.get m)∧(∀ z,vwB o z=z)∧(∀ t,takes E o t=[]) ∧
   ∀ t:St,(∀ m∈looks ops o,t.get m=s.get m)→(∀ i,hpk t i=hpk s i)→placeR E ops o t=some (p,t.put o.dst v):=by
 have hvw:∀ z,(∀ T a x,o.op≠.store T a x)→(∀ x j,o.op≠.extract x j)→vwB o z=z:=by
  intro z _ he
  rcases vwB_eq o with e|⟨_,x,j,hop,_⟩
  ·exact e z
  ·exact absurd hop (he x j)
 unfold keepX at hk
 split at hk
 ·rename_i a hg ho
  have hr:∀ t,placeR E ops o t=(match dstOk E.nt o.dst with|false=>none|true=>some (True,t.put o.dst (t.ev a))):=fun t=>by unfold placeR runR aop; rw [hg,ho]; rfl
  have hkv:=keepV_kill hk
  have hin:∀ m∈looks ops o,a=.tmp m:=fun m hm=>by
   have:=looks_in hg hm
   rw [ho] at this
   simpa [Op.operands,eq_comm] using this
  rw [hr] at h
  split at h
  ·cases h
  ·rename_i hd
   simp only [Option.some.injEq,Prod.mk.injEq] at h
   obtain ⟨rfl,rfl⟩:=h
   refine ⟨s.ev a,rfl,hkv,fun m hm=>?_,fun z=>hvw z (by rw [ho]; intros; nofun) (by rw [ho]; intros; nofun),fun t=>by unfold takes; rw [ho],fun t ht _=>?_⟩
   ·have:=hin m hm; subst this; rw [keepV_tmp hk]; exact hkv
   ·rw [hr,hd]
    have:t.ev a=s.ev a:=by
     cases a with
     | tmp m=>exact ev_of_get (ht m (looks_op (by rw [ho]; simp [Op.operands])))
     | _=>rfl
    rw [this]
 ·rename_i T a n hg ho
  split at hk
  ·rename_i i pp ha
   rw [Bool.and_eq_true] at hk
   have hr:∀ t,placeR E ops o t=runR E o t:=fun t=>by unfold placeR; rw [hg]
   have hrun:∀ t,runR E o t=(match dstOk E.nt o.dst with|false=>none|true=>match (aop E o t).get with|none=>none|some (p,v,s')=>some (p,s'.put o.dst v)):=fun t=>by unfold runR; rw [ho]; rfl
   have hop:∀ t:St,t.ev a=.ptr i pp→aop E o t=(match t.part i pp with
     | some ⟨u,z⟩=>(match chk E T u,getP u z [.fld n] with
      | true,some _=>.ok (.ptr i (pp++[.fld n])) t
      | _,_=>.fail "fieldAddr: type")
     | none=>.fail "fieldAddr: path"):=fun t h1=>by unfold aop; rw [ho]; simp only [h1]; rfl
   have hin:∀ m∈looks ops o,a=.tmp m:=fun m hm=>by
    have:=looks_in hg hm
    rw [ho] at this
    simpa [Op.operands,eq_comm] using this
   rw [hr,hrun,hop s ha] at h
   split at h
   ·cases h
   ·rename_i hd
    split at h
    ·cases h
    ·rename_i p v s' hget
     split at hget
     ·rename_i u z hpt
      split at hget
      ·rename_i r hc hgf
       simp only [OR.get,Option.some.injEq,Prod.mk.injEq] at hget h
       obtain ⟨rfl,rfl,rfl⟩:=hget
       obtain ⟨rfl,rfl⟩:=h
       refine ⟨_,rfl,keepV_kill hk.2,fun m hm=>?_,fun z=>hvw z (by rw [ho]; intros; nofun) (by rw [ho]; intros; nofun),fun t=>by unfold takes; rw [ho],fun t ht hh=>?_⟩
       ·have:=hin m hm; subst this; rw [ev_tmp_eq ha nofun]; exact keepV_kill hk.1
       ·have h1:t.ev a=.ptr i pp:=by
         rw [← ha]
         cases a with
         | tmp m=>exact ev_of_get (ht m (looks_op (by rw [ho]; simp [Op.operands])))
         | _=>rfl
        obtain ⟨z',hz'⟩:=part_kd (hh i) hpt
        obtain ⟨w',hw'⟩:=getP_of (getP_ty hgf) z'
        rw [hr,hrun,hd,hop t h1,hz']
        simp only [hc,hw',OR.get]
      ·cases hget
     ·cases hget
  ·cases hk
 ·rename_i T a hg ho
  split at hk
  ·rename_i i pp ha
   simp only [Bool.and_eq_true] at hk
   obtain ⟨⟨k1,k2⟩,k3⟩:=hk
   have hr:∀ t,placeR E ops o t=runR E o t:=fun t=>by unfold placeR; rw [hg]
   have hrun:∀ t,runR E o t=(match dstOk E.nt o.dst with|false=>none|true=>match (aop E o t).get with|none=>none|some (p,v,s')=>some (p,s'.put o.dst v)):=fun t=>by unfold runR; rw [ho]; rfl
   have hop:∀ t:St,t.ev a=.ptr i pp→aop E o t=(match t.part i pp with
     | some ⟨u,y⟩=>(match chk E T u with
      | true=>(match u.shared with|true=>.ok (.val u y) t|false=>.ok (.at_ i pp) t)
      | false=>.fail "load: type")
     | none=>.fail "load: path"):=fun t h1=>by unfold aop; rw [ho]; simp only [h1]; rfl
   have hin:∀ m∈looks ops o,a=.tmp m:=fun m hm=>by
    have:=looks_in hg hm
    rw [ho] at this
    simpa [Op.operands,eq_comm] using this
   rw [hr,hrun,hop s ha] at h
   split at h
   ·cases h
   ·rename_i hd
    split at h
    ·cases h
    ·rename_i p v s' hget
     split at hget
     ·rename_i u z hpt
      have hus:u.shared=false:=by
       split at k3
       ·rename_i k hk9
        split at k3
        ·rename_i u' hu'
         have:u'=u:=by
          unfold St.part St.obj at hpt
          unfold hpk at hk9
          cases hl:look i s.hp with
          | none=>rw [hl] at hpt; cases hpt
          | some e =>
           rw [hl] at hpt hk9
           simp only [Option.map_some,Option.some.injEq] at hk9
           subst hk9
           have h9:=getP_ty hpt
           have h8:tyP e.ty pp=some u':=hu'
           rw [h9] at h8; cases h8; rfl
         subst this
         simpa using k3
        ·cases k3
       ·cases k3
      split at hget
      ·rename_i hc
       rw [hus] at hget
       simp only [OR.get,Option.some.injEq,Prod.mk.injEq] at hget h
       obtain ⟨rfl,rfl,rfl⟩:=hget
       obtain ⟨rfl,rfl⟩:=h
       refine ⟨_,rfl,keepV_kill k2,fun m hm=>?_,fun z=>hvw z (by rw [ho]; intros; nofun) (by rw [ho]; intros; nofun),fun t=>by unfold takes; rw [ho],fun t ht hh=>?_⟩
       ·have:=hin m hm; subst this; rw [ev_tmp_eq ha nofun]; exact keepV_kill k1
       ·have h1:t.ev a=.ptr i pp:=by
         rw [← ha]
         cases a with
         | tmp m=>exact ev_of_get (ht m (looks_op (by rw [ho]; simp [Op.operands])))
         | _=>rfl
        obtain ⟨z',hz'⟩:=part_kd (hh i) hpt
        rw [hr,hrun,hd,hop t h1,hz']
        simp only [hc,hus,OR.get]
      ·cases hget
     ·cases hget
  ·cases hk
 ·cases hk

theorem swapKp {x y:Oper} (hi:indep ops x y=true) (hu:uniq s.fr) {p q:Prop} {s1 s2:St} (h1:placeR E ops x s=some (p,s1)) (h2:placeR E ops y s1=some (q,s2)) {j:Nat} {kd:Bool×Ty} {qq:List Step} (hs:stAt y s1=some (j,kd,qq)) (hk:keepX x s j kd qq=true) :
  ∃ s1' s2',placeR E ops y s=some (q,s1')∧placeR E ops x s1'=some (p,s2')∧uniq s1'.fr∧uniq s2'.fr∧Eqv s2' s2∧takes E y s=takes E y s1∧takes E x s1'=takes E x s ∧
   (∀ m∈looks ops x,vwB x (s1'.get m)=vwB x (s.get m))∧takes E x s=[]∧(∀ i,hpk s1' i=hpk s i)∧stAt y s=some (j,kd,qq)∧addrSt y s1=false:=by
 obtain ⟨ax,ay,hmod⟩:=indep_spec hi
 have hdd:∀ d,x.dst=some d→y.dst=some d→False:=fun d e1 e2=>hmod (by rw [e1,e2])
 obtain ⟨v,rfl,hvk,hlk,hvw,htk,hagain⟩:=keep_run hk h1
 obtain ⟨hps,T0,a0,x0,e0,ho0,ha0,he0,hkd0⟩:=stAt_spec hs
 obtain ⟨T,xa,xx,j',qq',v9,z,e,r,ho,hxa,hxx,hnv,hob,hset,⟨u0,y0,hgq⟩,rfl,hback⟩:=plain_run hps h2
 rw [ho0] at ho; cases ho
 rw [ha0] at hxa; cases hxa
 rw [he0] at hob; cases hob
 have hgy:∀ m∈looks ops y,(s.put x.dst v).get m=s.get m:=fun m hm=>by
  simp only [St.get,look_putS]
  rw [if_neg (fun e=>ax m e hm)]
 have hevy:∀ o,o∈y.op.operands.toList→s.ev o=(s.put x.dst v).ev o:=by
  intro o hm
  cases o with
  | tmp m=>exact (ev_of_get (hgy m (looks_op hm))).symm
  | _=>rfl
 have heva:=hevy a0 (by rw [ho0]; simp [Op.operands])
 have hevx:=hevy x0 (by rw [ho0]; simp [Op.operands])
 have hob2:look j s.hp=some e0:=by rw [← he0,hp_putS]
 have hb:=hback s heva hevx hob2
 subst hkd0
 have hkk:∀ i,hpk (((s.kill j e0.kd qq).putE j (e0.upd r)).put y.dst (.raw undef)) i=hpk s i:=by
  intro i
  unfold hpk
  rw [hp_putS]
  simp only [St.putE,look_put]
  split
  ·rename_i hij
   subst hij
   rw [hob2]
   have hr1:r.1=e0.ty:=set_same hnv hset
   cases e0 with
   | var t1 x1=>exact congrArg (fun t=>some (false,t)) hr1
   | own t1 x1=>exact congrArg (fun t=>some (true,t)) hr1
   | bag=>rfl
  ·rfl
 have hgx:∀ m∈looks ops x,(((s.kill j e0.kd qq).putE j (e0.upd r)).put y.dst (.raw undef)).get m=s.get m:=by
  intro m hm
  have:(((s.kill j e0.kd qq).putE j (e0.upd r)).put y.dst (.raw undef)).get m=(s.get m).kill j e0.kd qq:=by
   simp only [St.get,look_putS]
   rw [if_neg (fun e=>ay m e hm)]
   have e2:look m ((s.kill j e0.kd qq).putE j (e0.upd r)).fr=(look m s.fr).map (AV.kill j e0.kd qq):=look_mapA m _ _
   rw [e2]
   cases look m s.fr<;>rfl
  rw [this]; exact hlk m hm
 have hx2:=hagain _ hgx hkk
 refine ⟨_,_,hb,hx2,place_uniq hu hb,place_uniq (place_uniq hu hb) hx2,⟨fun n=>?_,fun i=>?_⟩,takes_getV (fun m hm=>by rw [hgy m hm]),by rw [htk,htk],fun m hm=>by rw [hgx m hm],htk s,hkk,?_,?_⟩
 ·rw [look_putS,look_putS,look_putS]
  have e1:look n ((s.kill j e0.kd qq).putE j (e0.upd r)).fr=(look n s.fr).map (AV.kill j e0.kd qq):=look_mapA n _ _
  have e2:look n (((s.put x.dst v).kill j e0.kd qq).putE j (e0.upd r)).fr=(look n (s.put x.dst v).fr).map (AV.kill j e0.kd qq):=look_mapA n _ _
  rw [e1,e2,look_putS]
  by_cases c1:x.dst=some n
  ·rw [if_pos c1,if_neg (fun c2=>hdd n c1 c2),if_pos c1,Option.map_some,hvk]
  ·rw [if_neg c1,if_neg c1]
 ·rw [hp_putS,hp_putS,hp_putS]
  simp only [St.putE,look_put,St.kill,hp_putS]
 ·have hps2:plainSt y s=true:=by
   have h0:=hps
   unfold plainSt at h0 ⊢
   split at h0
   ·rename_i T' a' x' hg' ho'
    rw [ho0] at ho'; cases ho'
    simp only [heva,hevx]
    exact h0
   ·cases h0
  exact stAt_of hps2 ho0 (heva.trans ha0) hob2
 ·unfold addrSt
  rw [ho0]
  split<;>first|rfl|(rename_i e9; cases e9)

end

section
variable {E:Env} {ops:Array Oper} {M:Nat→Nat} {s t:St}

def PairDD (ops:Array Oper) (x:Oper) (sx:St) (Tx:List Nat) (y:Oper) (Ty:List Nat):Prop:=PairP ops x sx Tx y Ty∧(Tx≠[]→∀ m∈looks ops y,m∉adOf ops)

def CondC (E:Env) (ops:Array Oper) (x:Oper) (sx:St) (y:Oper) (sy:St):Prop:=PairDD ops x sx (takes E x sx) y (takes E y sy)∨(plainSt x sx=true∧addrSt y sy=true)∨∃ j kd q,stAt y sy=some (j,kd,q)∧keepX x sx j kd q=true

def RunsC (E:Env) (ops:Array Oper) (M:Nat→Nat):List (Nat×St)→List Nat→St→St→Prop
 | _,[],s,s'=>s=s'
 | acc,i::l,s,s'=>∃ o,ops[i]?=some o∧(∀ e∈acc,(M i).testBit e.1=true∨∃ x,ops[e.1]?=some x∧CondC E ops x e.2 o s) ∧
   ∃ p s1,placeR E ops o s=some (p,s1)∧p∧RunsC E ops M ((i,s)::acc) l s1 s'

theorem regB_runs {M:List Nat} {k:St→Tree (E.rs++wts E.ps)} {L:Code→List Item→St→Prop} {R:DL (E.rs++wts E.ps)→Prop}:∀ {l:List Oper} {n:Nat} {s:St} {acc:List Met} {acc':List (Nat×St)},ops.toList.drop n=l →
  (∀ e∈acc',∃ m∈acc,m.i=e.1∧ops[e.1]?=some m.o∧m.s=e.2∧m.T=takes E m.o e.2)→(regB E ops M n l s acc k).holds L R →
  ∃ s',RunsC E ops (fun i=>M.getD i 0) acc' (List.range' n l.length) s s'∧(k s').holds L R
 | [],n,s,acc,acc',_,_,h=>⟨s,rfl,h⟩
 | o::l,n,s,acc,acc',hl,ha,h=>by
  obtain ⟨ho,hl',_⟩:=drop_here hl
  simp only [regB] at h
  split at h
  ·exact h.elim
  ·rename_i hall
   obtain ⟨p,s1,h1,h2,h3⟩:=pl_place.1 h
   have hacc:∀ e∈acc',(M.getD n 0).testBit e.1=true∨∃ x,ops[e.1]?=some x∧CondC E ops x e.2 o s:=by
    intro e he
    obtain ⟨m,hm,m1,m2,m3,m4⟩:=ha e he
    have:=(List.all_eq_true.1 hall) m hm
    simp only [Bool.or_eq_true] at this
    rcases this with this|this
    ·exact .inl (by rw [← m1]; exact this)
    ·simp only [pairC,Bool.or_eq_true,Bool.and_eq_true] at this
     rcases this with (⟨h9,h8⟩|⟨h9,h8⟩)|h9
     ·have hp:=pair_of h9
      rw [m3,m4] at hp
      refine .inr ⟨m.o,m2,.inl ⟨hp,fun hne x hx hxa=>?_⟩⟩
      rw [m4] at h8
      split at h8
      ·rename_i hnil; exact hne hnil
      ·have:=(List.all_eq_true.1 h8) x hx
       simp at this
       exact this hxa
     ·rw [m3] at h9
      exact .inr ⟨m.o,m2,.inr (.inl ⟨h9,h8⟩)⟩
     ·unfold keepB at h9
      split at h9
      ·rename_i j kd q hst
       rw [m3] at h9
       exact .inr ⟨m.o,m2,.inr (.inr ⟨j,kd,q,hst,h9⟩)⟩
      ·cases h9
   obtain ⟨s',k1,k2⟩:=regB_runs (acc':=(n,s)::acc') hl' (fun e he=>by
    rcases List.mem_cons.1 he with rfl|he
    ·exact ⟨_,List.mem_cons_self ..,rfl,ho,rfl,rfl⟩
    ·obtain ⟨m,hm,r⟩:=ha e he; exact ⟨m,List.mem_cons_of_mem _ hm,r⟩) h3
   exact ⟨s',⟨o,ho,hacc,p,s1,h1,h2,k1⟩,k2⟩

def AsGoodC (E:Env) (ops:Array Oper) (acc acc':List (Nat×St)):Prop :=
 ∀ e'∈acc',∃ e∈acc,e.1=e'.1∧∀ x,ops[e.1]?=some x→(∀ m∈looks ops x,vwB x (e'.2.get m)=vwB x (e.2.get m))∧takes E x e'.2=takes E x e.2∧(∀ (z:Oper) m,∀ k∈takes E x e.2,(vwB z (e'.2.get m)).ment k=true→(vwB z (e.2.get m)).ment k=true∨m∈adOf ops) ∧
  ∀ m∈looks ops x,∀ i,(vwB x (e.2.get m)).ment i=true→hpk e'.2 i=hpk e.2 i

theorem plainSt_get {x:Oper} {sx sx':St} (h:plainSt x sx=true) (h1:∀ m∈looks ops x,vwB x (sx'.get m)=vwB x (sx.get m)):plainSt x sx'=true:=by
 have h0:=h
 unfold plainSt at h
 split at h
 ·rename_i T a v hg ho
  have hev:∀ o,o=a∨o=v→sx'.ev o=sx.ev o:=by
   intro o hoo
   cases o with
   | tmp m =>
    have:=h1 m (looks_op (by rw [ho]; simp [Op.operands]; rcases hoo with e|e<;>simp [← e]))
    rw [vwB_store ho,vwB_store ho] at this
    exact ev_of_get this
   | _=>rfl
  unfold plainSt at h0 ⊢
  rw [hg,ho] at h0 ⊢
  simp only [hev a (.inl rfl),hev v (.inr rfl)]
  exact h0
 ·cases h

theorem addrSt_get {y:Oper} {sy sy':St} (h:addrSt y sy=true) (h1:∀ m∈looks ops y,vwB y (sy'.get m)=vwB y (sy.get m)):addrSt y sy'=true:=by
 have hvw:∀ v,vwB y v=v:=by
  intro v
  rcases vwB_eq y with e|⟨_,x,j,hop,_⟩
  ·exact e v
  ·unfold addrSt at h; rw [hop] at h; split at h<;>first|(rename_i e9; cases e9; done)|(cases h; done)
 have hev:∀ o∈y.op.operands.toList,sy'.ev o=sy.ev o:=by
  intro o hoo
  cases o with
  | tmp m =>
   have:=h1 m (looks_op hoo)
   rw [hvw,hvw] at this
   exact ev_of_get this
  | _=>rfl
 unfold addrSt at h ⊢
 split at h
 ·rename_i T a i hg ho
  simp only [hev a (by rw [ho]; simp [Op.operands]),hev i (by rw [ho]; simp [Op.operands])]
  exact h
 ·rename_i T a n hg ho
  simp only [hev a (by rw [ho]; simp [Op.operands])]
  exact h
 ·cases h

theorem stAt_get {y:Oper} {sy sy':St} {r:Nat×(Bool×Ty)×List Step} (h:stAt y sy=some r) (h1:∀ m∈looks ops y,vwB y (sy'.get m)=vwB y (sy.get m)) (h2:∀ m∈looks ops y,∀ i,(vwB y (sy.get m)).ment i=true→hpk sy' i=hpk sy i):stAt y sy'=some r:=by
 obtain ⟨j,kd,q⟩:=r
 obtain ⟨hp,T,a,x,e,ho,ha,he,rfl⟩:=stAt_spec h
 have hp':=plainSt_get (ops:=ops) hp h1
 have hvw:∀ v,vwB y v=v:=vwB_store ho
 cases a with
 | tmp m =>
  have hm:m∈looks ops y:=looks_op (by rw [ho]; simp [Op.operands])
  have hg:sy.get m=.ptr j q:=ev_tmp_eq ha nofun
  have hg':sy'.get m=.ptr j q:=by have:=h1 m hm; rw [hvw,hvw] at this; rw [this]; exact hg
  have hh:=h2 m hm j (by rw [hvw,hg]; simp only [AV.ment]; exact Nat.beq_refl j)
  unfold hpk at hh
  rw [he] at hh
  cases hl:look j sy'.hp with
  | none=>rw [hl] at hh; cases hh
  | some e' =>
   rw [hl] at hh
   simp only [Option.map_some,Option.some.injEq] at hh
   rw [← hh]
   exact stAt_of hp' ho (ev_some (ev_tmp_get ha nofun) hg') hl
 | const c=>exact absurd ha (by intro e9; have:=ofConst_ment c j; rw [show ofConst c=.ptr j q from e9] at this; simp only [AV.ment] at this; rw [Nat.beq_refl] at this; cases this)
 | global g=>cases ha
 | func f=>cases ha

theorem keepX_get {x:Oper} {sx sx':St} {j:Nat} {kd:Bool×Ty} {q:List Step} (h:keepX x sx j kd q=true) (h1:∀ m∈looks ops x,vwB x (sx'.get m)=vwB x (sx.get m)) (h2:∀ m∈looks ops x,∀ i,(vwB x (sx.get m)).ment i=true→hpk sx' i=hpk sx i):keepX x sx' j kd q=true:=by
 have hvw:∀ v,vwB x v=v:=by
  intro v
  rcases vwB_eq x with e|⟨_,y,k,hop,_⟩
  ·exact e v
  ·unfold keepX at h; rw [hop] at h; split at h<;>first|(rename_i e9; cases e9; done)|(cases h; done)
 have hev:∀ o∈x.op.operands.toList,sx'.ev o=sx.ev o:=by
  intro o hoo
  cases o with
  | tmp m =>
   have:=h1 m (looks_op hoo)
   rw [hvw,hvw] at this
   exact ev_of_get this
  | _=>rfl
 unfold keepX at h ⊢
 split at h
 ·rename_i a hg ho
  simp only [hev a (by rw [ho]; simp [Op.operands])]
  exact h
 ·rename_i T a n hg ho
  simp only [hev a (by rw [ho]; simp [Op.operands])]
  exact h
 ·rename_i T a hg ho
  simp only [hev a (by rw [ho]; simp [Op.operands])]
  split at h
  ·rename_i i p ha
   have:hpk sx' i=hpk sx i:=by
    cases a with
    | tmp m =>
     have hm:m∈looks ops x:=looks_op (by rw [ho]; simp [Op.operands])
     have hg9:sx.get m=.ptr i p:=ev_tmp_eq ha nofun
     exact h2 m hm i (by rw [hvw,hg9]; simp only [AV.ment]; exact Nat.beq_refl i)
    | const c=>exact absurd ha (by intro e9; have:=ofConst_ment c i; rw [show ofConst c=.ptr i p from e9] at this; simp only [AV.ment] at this; rw [Nat.beq_refl] at this; cases this)
    | global g=>cases ha
    | func f=>cases ha
   rw [this]
   exact h
  ·cases h
 ·cases h

theorem CondC.good {x:Oper} {sx sx':St} {y:Oper} {sy sy':St} (h:CondC E ops x sx y sy) (h1:∀ m∈looks ops x,vwB x (sx'.get m)=vwB x (sx.get m)) (h2:takes E x sx'=takes E x sx) (h3:∀ (z:Oper) m,∀ k∈takes E x sx,(vwB z (sx'.get m)).ment k=true→(vwB z (sx.get m)).ment k=true∨m∈adOf ops)
  (h4:∀ m∈looks ops x,∀ i,(vwB x (sx.get m)).ment i=true→hpk sx' i=hpk sx i) (hT:takes E y sy'=takes E y sy) (hA:addrSt y sy=true→addrSt y sy'=true) (hS:∀ r,stAt y sy=some r→stAt y sy'=some r):CondC E ops x sx' y sy':=by
 rcases h with ⟨⟨P1,P2,P3⟩,hn⟩|⟨k1,k2⟩|⟨j,kd,q,k1,k2⟩
 ·refine .inl ?_
  rw [hT,h2]
  refine ⟨⟨fun m hm i hi=>?_,fun m hm i hi=>by rw [h1 m hm]; exact P2 m hm i hi,P3⟩,hn⟩
  cases hh:(vwB y (sx'.get m)).ment i with
  | false=>rfl
  | true =>
   rcases h3 y m i hi hh with h9|h9
   ·rw [P1 m hm i hi] at h9; cases h9
   ·exact absurd h9 (hn (fun e=>by rw [e] at hi; cases hi) m hm)
 ·exact .inr (.inl ⟨plainSt_get k1 h1,hA k2⟩)
 ·exact .inr (.inr ⟨j,kd,q,hS _ k1,keepX_get k2 h1 h4⟩)

theorem hpk_eqv (h:Eqv s t) (i:Nat):hpk t i=hpk s i:=by unfold hpk; rw [h.2 i]
theorem stAt_eqv {o:Oper} (h:Eqv s t) {r:Nat×(Bool×Ty)×List Step} (ha:stAt o s=some r):stAt o t=some r:=stAt_get (ops:=#[]) ha (fun m _=>by rw [h.get m]) (fun _ _ i _=>hpk_eqv h i)
theorem addrSt_eqv {o:Oper} (h:Eqv s t) (ha:addrSt o s=true):addrSt o t=true:=addrSt_get (ops:=#[]) ha (fun m _=>by rw [h.get m])

theorem runsC_mono:∀ {l:List Nat} {acc acc':List (Nat×St)} {s t s':St},AsGoodC E ops acc acc'→uniq s.fr→Eqv s t→uniq t.fr→RunsC E ops M acc l s s'→∃ t',RunsC E ops M acc' l t t'∧Eqv s' t'
 | [],acc,acc',s,t,s',_,_,he,_,h=>⟨t,rfl,by rw [← show s=s' from h]; exact he⟩
 | i::l,acc,acc',s,t,s',hg,hu,he,ht,⟨o,ho,hc,p,s1,h1,h2,h3⟩=>by
  obtain ⟨t1,k1,k2,k3⟩:=place_eqv hu he ht h1
  obtain ⟨t',m1,m2⟩:=runsC_mono (acc:=(i,s)::acc) (acc':=(i,t)::acc') (fun e' he'=>by
   rcases List.mem_cons.1 he' with rfl|he'
   ·exact ⟨(i,s),by simp,rfl,fun x _=>⟨fun m _=>by show vwB x (t.get m)=vwB x (s.get m); rw [he.get m],takes_eqv he,fun z m k _ hm=>.inl (by have hm:(vwB z (t.get m)).ment k=true:=hm; rw [← he.get m] at hm; exact hm),fun _ _ i _=>hpk_eqv he i⟩⟩
   ·obtain ⟨e,h4,h5,h6⟩:=hg e' he'; exact ⟨e,by simp [h4],h5,h6⟩) (place_uniq hu h1) k3 k2 h3
  refine ⟨t',⟨o,ho,fun e' he'=>?_,p,t1,k1,h2,m1⟩,m2⟩
  obtain ⟨e,h4,h5,h6⟩:=hg e' he'
  rw [← h5]
  rcases hc e h4 with h|⟨x,hx,hP⟩
  ·exact .inl h
  ·obtain ⟨g1,g2,g3,g4⟩:=h6 x hx
   exact .inr ⟨x,hx,hP.good g1 g2 g3 g4 (takes_eqv he) (addrSt_eqv he) (fun _=>stAt_eqv he)⟩

theorem swapC {x y:Oper} (hym:y∈ops.toList) (hi:indep ops x y=true) (hu:uniq s.fr) (hx:∀ d,x.dst=some d→(s.get d).clean=true) {p q:Prop} {s1 s2:St} (h1:placeR E ops x s=some (p,s1)) (h2:placeR E ops y s1=some (q,s2)) (hP:CondC E ops x s y s1) :
  ∃ q' s1' s2',placeR E ops y s=some (q',s1')∧(q→q')∧((addrSt y s1=true→addrSt y s=true)∧∀ r,stAt y s1=some r→stAt y s=some r)∧placeR E ops x s1'=some (p,s2')∧uniq s1'.fr∧uniq s2'.fr∧Eqv s2' s2∧takes E y s=takes E y s1∧takes E x s1'=takes E x s ∧
   (∀ m∈looks ops x,vwB x (s1'.get m)=vwB x (s.get m))∧(∀ (z:Oper) m,∀ i∈takes E x s,(vwB z (s1'.get m)).ment i=true→(vwB z (s.get m)).ment i=true∨m∈adOf ops) ∧
   ∀ m∈looks ops x,∀ i,(vwB x (s.get m)).ment i=true→hpk s1' i=hpk s i:=by
 rcases hP with ⟨hP,_⟩|⟨k1,k2⟩|⟨j,kd,qq,k1,k2⟩
 ·obtain ⟨s1',s2',m1,m2,m3,m4,m5,m6,m7,m8,m9⟩:=swap hi hu hx h1 h2 hP
  obtain ⟨ax,ay,hmod⟩:=indep_spec hi
  obtain ⟨P1,P2,P3⟩:=hP
  obtain ⟨v,ids,f,g,j1,j2,j3,j4,j5⟩:=place_eff hu h1
  obtain ⟨_,e1,_,hs1⟩:=j5 s hu ((Eqv.refl s).agreeV _ _) j2
  rw [h1] at e1; cases e1
  have hgy:∀ m∈looks ops y,vwB y (s.get m)=vwB y (s1.get m):=fun m hm=>by
   rw [hs1.get j1 (fun e=>ax m e hm),vwB_trim j1,j1.fix _ (fun i hi=>P1 m hm i hi)]
  have hhy:∀ m∈looks ops y,∀ i,(vwB y (s1.get m)).ment i=true→hpk s i=hpk s1 i:=by
   intro m hm i hmi
   rw [← hgy m hm] at hmi
   unfold hpk
   rw [hs1.hp,if_neg]
   rintro (h|h)
   ·rw [P1 m hm i h] at hmi; cases hmi
   ·have hmi:=vwB_ment hmi
    rw [new_ment j2 h] at hmi; cases hmi
  refine ⟨q,s1',s2',m1,id,⟨fun ha=>addrSt_get (ops:=ops) ha hgy,fun r hr=>stAt_get hr hgy hhy⟩,m2,m3,m4,m5,m6,m7,m8,fun z m i h9 h8=>.inl (m9 z m i h9 h8),?_⟩
  obtain ⟨v',ids',f',g',n1,n2,n3,n4,n5⟩:=place_eff hu m1
  obtain ⟨_,e2,_,hs1'⟩:=n5 s hu ((Eqv.refl s).agreeV _ _) n2
  rw [m1] at e2; cases e2
  intro m hm i hmi
  unfold hpk
  rw [hs1'.hp,if_neg]
  rintro (h|h)
  ·rw [m6] at h
   rw [P2 m hm i h] at hmi; cases hmi
  ·have hmi:=vwB_ment hmi
   rw [new_ment n2 h] at hmi; cases hmi
 ·obtain ⟨q',s1',s2',m1,m2,m3,m4,m5,m6,m7,m8,m9,m10,m11⟩:=swapSt hym hi hu h1 h2 k1 k2
  refine ⟨q',s1',s2',m1,m2,⟨fun _=>m3,fun r hr=>?_⟩,m4,m5,m6,m7,m8,m9,m10,m11,?_⟩
  ·obtain ⟨hp,T,a,x',e,ho,_⟩:=stAt_spec (j:=r.1) (kd:=r.2.1) (q:=r.2.2) hr
   unfold addrSt at k2
   rw [ho] at k2
   split at k2<;>first|(rename_i e9; cases e9; done)|(cases k2; done)
  ·obtain ⟨_,_,_,_,_,_,_,_,_,_,_,hs1,_⟩:=addrS_run m3 m1
   intro m hm i _
   unfold hpk
   rw [hs1,hp_putS]
 ·obtain ⟨s1',s2',m1,m2,m3,m4,m5,m6,m7,m8,m9,m10,m11,m12⟩:=swapKp hi hu h1 h2 k1 k2
  refine ⟨q,s1',s2',m1,id,⟨fun ha=>?_,fun r hr=>?_⟩,m2,m3,m4,m5,m6,m7,m8,fun z m i h9 _=>?_,fun _ _ i _=>m10 i⟩
  ·rw [m12] at ha; cases ha
  ·rw [k1] at hr; cases hr; exact m11
  ·rw [m9] at h9; cases h9

theorem bubbleC {i:Nat} {o:Oper} (ho:ops[i]?=some o) {post:List Nat}:∀ {pre:List Nat} {acc:List (Nat×St)} {s s':St},Apart (rem ops (pre++i::post))→(∀ j∈pre,(M i).testBit j=false∧∀ x,ops[j]?=some x→indep ops x o=true)→uniq s.fr→CleanFor s (rem ops pre) →
  RunsC E ops M acc (pre++i::post) s s' →
  ∃ p s1 s2,placeR E ops o s=some (p,s1)∧p∧RunsC E ops M acc (pre++post) s1 s2∧Eqv s2 s'∧∀ e∈acc,(M i).testBit e.1=true∨∃ x,ops[e.1]?=some x∧CondC E ops x e.2 o s
 | [],acc,s,s',_,_,hu,_,⟨o',ho',hc,p,s1,h1,h2,h3⟩=>by
  rw [ho] at ho'; cases ho'
  obtain ⟨t',m1,m2⟩:=runsC_mono (acc:=(i,s)::acc) (acc':=acc) (fun e he=>⟨e,by simp [he],rfl,fun x _=>⟨fun _ _=>rfl,rfl,fun _ _ _ _ h=>.inl h,fun _ _ _ _=>rfl⟩⟩) (place_uniq hu h1) (Eqv.refl s1) (place_uniq hu h1) h3
  exact ⟨p,s1,t',h1,h2,m1,m2.symm,hc⟩
 | j::pre,acc,s,s',hap,hin,hu,hcl,⟨x,hx,hc,p,s1,h1,h2,h3⟩=>by
  have hu1:=place_uniq hu h1
  have er:rem ops (j::pre++i::post)=x::rem ops (pre++i::post):=rem_cons hx
  rw [er] at hap
  rw [rem_cons hx] at hcl
  have hdj:∀ y∈rem ops pre,∀ d,y.dst=some d→x.dst≠some d:=fun y hy d hyd hxd=>hap.1 d hxd y (by rw [rem_app]; exact List.mem_append_left _ hy) hyd
  have hcl1:CleanFor s1 (rem ops pre):=CleanFor.step hu (fun y hy=>hcl y (by simp [hy])) hdj h1
  obtain ⟨q,sa,sb,k1,k2,k3,k4,k5⟩:=bubbleC ho (pre:=pre) (acc:=(j,s)::acc) hap.2 (fun y hy=>hin y (by simp [hy])) hu1 hcl1 h3
  obtain ⟨hnb,hind⟩:=hin j (by simp)
  have hP:CondC E ops x s o s1:=by
   rcases k5 (j,s) (by simp) with h|⟨x',hx',hP⟩
   ·rw [hnb] at h; cases h
   ·have hx':ops[j]?=some x':=hx'
    rw [hx] at hx'; cases hx'; exact hP
  have hom:o∈ops.toList:=by have:=Array.mem_of_getElem? ho; simpa using this
  obtain ⟨q',s1',s2',m1,mq,⟨ma,ms⟩,m2,m3,m4,m5,m6,m7,m8,m9,m10⟩:=swapC hom (hind x hx) hu (fun d hd=>hcl x (by simp) d hd) h1 k1 hP
  obtain ⟨t',n1,n2⟩:=runsC_mono (acc:=(j,s)::acc) (acc':=(j,s1')::acc) (fun e' he'=>by
   rcases List.mem_cons.1 he' with rfl|he'
   ·refine ⟨(j,s),by simp,rfl,fun y hy=>?_⟩
    have hy:ops[j]?=some y:=hy
    rw [hx] at hy; cases hy
    exact ⟨m8,m7,m9,m10⟩
   ·exact ⟨e',by simp [he'],rfl,fun y _=>⟨fun _ _=>rfl,rfl,fun _ _ _ _ h=>.inl h,fun _ _ _ _=>rfl⟩⟩) (place_uniq hu1 k1) m5.symm m4 k3
  refine ⟨q',s1',t',m1,mq k2,⟨x,hx,fun e he=>?_,p,s2',m2,h2,n1⟩,n2.symm.trans k4,fun e he=>?_⟩
  ·rcases hc e he with h|⟨y,hy,hP⟩
   ·exact .inl h
   ·refine .inr ⟨y,hy,hP.good (fun _ _=>rfl) rfl (fun _ _ _ _ h=>.inl h) (fun _ _ _ _=>rfl) m7 (fun ha=>addrSt_get (ops:=ops) ha m8) (fun r hr=>stAt_get hr m8 m10)⟩
  ·rcases k5 e (by simp [he]) with h|⟨y,hy,hP⟩
   ·exact .inl h
   ·exact .inr ⟨y,hy,hP.good (fun _ _=>rfl) rfl (fun _ _ _ _ h=>.inl h) (fun _ _ _ _=>rfl) m6 ma ms⟩
end

section
variable {E:Env} {ops:Array Oper} {B:Base} {S:Nat→Prop} {ι:Ix} {s:St} {a:Act} {w:World}
theorem drawnC_sound (hE:EnvB E B) (hn:B.n=E.nt) (hd:drawOk ops=true) {Q:Exit→Act→World→Prop} {s0:St} (hQ:∀ S ι a w,RS B S ι s0 a w→Q .normal a w) :
  ∀ (fuel:Nat) (listed:Array Bool) (S:Nat→Prop) (ι:Ix) (s s':St) (a:Act) (w:World),listed.size=ops.size→(idxs ops.size listed).length=fuel→ClosedL ops listed→Apart (rem ops (idxs ops.size listed))→uniq s.fr→CleanFor s (rem ops (nl ops (idxs ops.size listed))) →
   RunsC E ops (fun i=>(masksGo ops.toList []).getD i 0) [] (idxs ops.size listed) s s'→Eqv s' s0→RS B S ι s a w→wpAny E.P .any ops Q fuel listed a w:=by
 have hM:=draw_spec hd
 have rs_eqv:∀ {S:Nat→Prop} {ι:Ix} {s t:St} {a:Act} {w:World},Eqv s t→RS B S ι s a w→RS B S ι t a w:=by
  intro S ι s t a w he h
  have hvx:∀ {v:AV} {vs:List Value},VX w.heap S ι s.hp v vs→VX w.heap S ι t.hp v vs:=by
   intro v vs hv
   exact VX.other (fun i _=>(he.2 i).symm) (fun i _=>SameAt.refl ι i) hv
  exact ⟨⟨h.hs.os,h.hs.tape,h.hs.out,h.hs.size,h.hs.frame,h.hs.slt,h.hs.s0,h.hs.s1,fun i e hi=>h.hs.ob i e ((he.2 i).trans hi),fun i e hi=>h.hs.bl i e ((he.2 i).trans hi),fun i j ei ej hi hj=>h.hs.dj i j ei ej ((he.2 i).trans hi) ((he.2 j).trans hj),fun q hq=>by obtain ⟨r1,⟨e,r2⟩,r3⟩:=h.hs.pin q hq; exact ⟨r1,⟨e,(he.2 q.1).symm.trans r2⟩,r3⟩⟩,h.dfr,h.sz,
   fun m v hv=>hvx (h.fr m v ((he.1 m).trans hv))⟩
 intro fuel
 induction fuel with
 | zero =>
  intro listed S ι s s' a w hsz hlen hcl hap hu hcf hrun he hrs
  have hnil:idxs ops.size listed=[]:=List.length_eq_zero_iff.1 hlen
  rw [hnil] at hrun
  have hss:s=s':=hrun
  subst hss
  refine ⟨?_,hQ S ι a w (rs_eqv he hrs)⟩
  rw [List.eq_nil_iff_forall_not_mem]
  intro i hi
  obtain ⟨h1,o,h2,_⟩:=mem_ready.1 hi
  have:i∈idxs ops.size listed:=mem_idxs.2 ⟨(Array.getElem?_eq_some_iff.1 h2).1,h1⟩
  rw [hnil] at this
  cases this
 | succ fuel ih =>
  intro listed S ι s s' a w hsz hlen hcl hap hu hcf hrun he hrs
  refine ⟨fun hr=>?_,fun i hi=>?_⟩
  ·exfalso
   cases hix:idxs ops.size listed with
   | nil=>rw [hix] at hlen; cases hlen
   | cons i l =>
    have hmem:i∈idxs ops.size listed:=by rw [hix]; simp
    obtain ⟨h1,h2⟩:=mem_idxs.1 hmem
    have ho:ops[i]?=some ops[i]:=Array.getElem?_eq_getElem h1
    have:i∈Region.ready .any ops listed:=by
     refine mem_ready.2 ⟨h2,ops[i],ho,fun e he hb=>?_⟩
     have hlt:=(hM i _ ho).1 e he hb
     cases hle:listed.getD e.on true with
     | true =>
      have:e.on<listed.size:=by omega
      simp [this] at hle ⊢; exact hle
     | false =>
      exfalso
      have hm2:e.on∈idxs ops.size listed:=mem_idxs.2 ⟨by omega,hle⟩
      have hs:=idxs_sorted ops.size listed
      rw [hix] at hs hm2
      rcases List.mem_cons.1 hm2 with e1|e1
      ·omega
      ·have:=(List.pairwise_cons.1 hs).1 _ e1; omega
    rw [hr] at this
    cases this
  ·obtain ⟨h1,o,ho,hpre⟩:=mem_ready.1 hi
   have hin:i<ops.size:=(Array.getElem?_eq_some_iff.1 ho).1
   have hmem:i∈idxs ops.size listed:=mem_idxs.2 ⟨hin,h1⟩
   obtain ⟨pre,post,e1,hlt,e2⟩:=idxs_split hmem
   have er:rem ops (pre++i::post)=rem ops pre++o::rem ops post:=by simp [rem,List.filterMap_append,ho]
   have er2:rem ops (pre++post)=rem ops pre++rem ops post:=by simp [rem,List.filterMap_append]
   rw [e1] at hap hcf hrun
   have hind:∀ j∈pre,((masksGo ops.toList []).getD i 0).testBit j=false∧∀ x,ops[j]?=some x→indep ops x o=true:=by
    intro j hj
    have hnm:((masksGo ops.toList []).getD i 0).testBit j=false:=by
     cases hm:((masksGo ops.toList []).getD i 0).testBit j with
     | false=>rfl
     | true =>
      exfalso
      have hjl:=anc_listed (M:=fun i=>(masksGo ops.toList []).getD i 0) (fun i o ho=>⟨(hM i o ho).1,(hM i o ho).2.1⟩) hcl i o ho hpre j (by have:=hlt j hj; omega) hm
      have:j∈idxs ops.size listed:=by rw [e1]; simp [hj]
      have:=(mem_idxs.1 this).2
      rw [getD_flip hjl] at this
      cases this
    refine ⟨hnm,fun x hx=>?_⟩
    rcases (hM i o ho).2.2 j x (hlt j hj) hx with hm|hm
    ·rw [hnm] at hm; cases hm
    ·exact hm
   have hcl0:CleanFor s (rem ops (nl ops (pre++post))):=hcf.sub (fun y hy=>by
    rw [nl_app,rem_app] at hy ⊢
    rcases List.mem_append.1 hy with hy|hy
    ·exact List.mem_append_left _ hy
    ·refine List.mem_append_right _ ?_
     obtain ⟨j,j1,j2⟩:=List.mem_filterMap.1 hy
     obtain ⟨j3,j4⟩:=List.mem_filter.1 j1
     exact List.mem_filterMap.2 ⟨j,List.mem_filter.2 ⟨List.mem_cons_of_mem _ j3,j4⟩,j2⟩)
   obtain ⟨p,s1,s2,k1,k2,k3,k4,_⟩:=bubbleC ho hap hind hu (hcf.sub (fun y hy=>by
    rw [nl_app,rem_app,nl_pre hin hlt (fun j hj=>(hind j hj).1)]; exact List.mem_append_left _ hy)) hrun
   rw [er] at hap
   have hset:=(idxs_set hsz hin).trans e2
   have hap2:Apart (rem ops pre++rem ops post)∧∀ x∈rem ops pre++rem ops post,∀ d,x.dst=some d→o.dst≠some d:=by
    have:∀ {A C:List Oper},Apart (A++o::C)→Apart (A++C)∧∀ x∈A++C,∀ d,x.dst=some d→o.dst≠some d:=by
     intro A
     induction A with
     | nil=>intro C h; exact ⟨h.2,fun x hx d hxd hod=>h.1 d hod x hx hxd⟩
     | cons y A ih =>
      intro C h
      obtain ⟨m1,m2⟩:=ih h.2
      refine ⟨⟨fun d hd x hx=>h.1 d hd x (by simp at hx ⊢; rcases hx with hx|hx<;>simp [hx]),m1⟩,fun x hx d hxd hod=>?_⟩
      rcases List.mem_cons.1 hx with rfl|hx
      ·exact h.1 d hxd o (by simp) hod
      ·exact m2 x hx d hxd hod
    exact this hap
   have hps:=place_sound hE hn hrs (ops:=ops) o (k:=fun x=>Tree.cut .skip [] x) (L:=fun _ _ x=>x=s1) (Rt:=fun _=>True) (pl_place.2 ⟨p,s1,k1,k2,rfl⟩)
    (next:=wpAny E.P .any ops Q fuel (listed.setIfInBounds i true)) (Q:=Q) (fun S' ι' x a' w' hx hxe=>by
     have hxe:x=s1:=hxe
     subst hxe
     refine ih (listed.setIfInBounds i true) S' ι' x s2 a' w' (by simp [hsz]) ?_ ?_ ?_ (place_uniq hu k1) ?_ ?_ (k4.trans he) hx
     ·rw [hset]; rw [e1] at hlen; simp at hlen ⊢; omega
     ·intro k y hy hk e' he' hb'
      by_cases hki:k=i
      ·subst hki
       rw [ho] at hy; cases hy
       exact getD_set_true (hpre e' he' hb')
      ·rw [getD_set_ne true (Ne.symm hki)] at hk
       exact getD_set_true (hcl k y hy hk e' he' hb')
     ·rw [hset,er2]; exact hap2.1
     ·rw [hset]
      exact CleanFor.step hu hcl0 (fun y hy=>hap2.2 y (by rw [← er2]; exact nl_sub y hy)) k1
     ·rw [hset]; exact k3)
   unfold wpOp
   rw [ho]
   simp only
   split
   ·rename_i hw; rw [if_pos hw] at hps; exact .inl hps
   ·rename_i hw; rw [if_neg hw] at hps; exact hps

theorem drawnC_region (hE:EnvB E B) (hn:B.n=E.nt) {id:Nat} (hd:(drawOk ops && entryOk ops s && E.P.follows .mixedOrders)=true) {Q:Exit→Act→World→Prop} {s':St} (hr:RunsC E ops (fun i=>(masksGo ops.toList []).getD i 0) [] (List.range' 0 ops.toList.length) s s')
  (hQ:∀ S ι a w,RS B S ι s' a w→Q .normal a w) (h:RS B S ι s a w):(Code.region id ops true).wp E.P Q a w:=by
 simp only [Bool.and_eq_true,entryOk,List.all_eq_true] at hd
 obtain ⟨⟨h1,⟨h2,h3⟩,h4⟩,h5⟩:=hd
 refine wp_region_any h5 ?_
 have hlen:(idxs ops.size (Array.replicate ops.size false)).length=ops.size:=by
  rw [idxs_all]; simp
 refine drawnC_sound hE hn h1 hQ ops.size _ S ι s s' a w.drew (by simp) hlen ?_ ?_ (uniq_of h2) ?_ ?_ (Eqv.refl _) (h.turn Flt.nil Past.drew)
 ·intro k o hk hl
  have:k<ops.size:=(Array.getElem?_eq_some_iff.1 hk).1
  simp [this] at hl
 ·rw [rem_all]; exact apart_of h3
 ·intro o ho d hd
  exact h4 d (dsts_last ho hd)
 ·rw [idxs_all,List.range_eq_range']
  simpa using hr


/-! ### regions that store what they read -/
theorem selfSt_hp:∀ (D:List Nat) (s:St),(selfSt D s).hp=s.hp
 | [],_=>rfl
 | _::D,s=>selfSt_hp D s
theorem selfSt_look:∀ (D:List Nat) (s:St) (t:Nat),look t (selfSt D s).fr=if t∈D then some .any else look t s.fr
 | [],_,t=>by simp [selfSt]
 | d::D,s,t=>by
  simp only [selfSt,look_put,selfSt_look D s t,List.mem_cons]
  by_cases h:t=d
  ·simp [h]
  ·simp [h]

theorem RS.selfSt {a0 a:Act} (h:RS B S ι s a0 w) {D:List Nat} (hd:a.defers=a0.defers) (hz:a.tmps.size=a0.tmps.size) (ht:∀ t,t∉D→a.tmps[t]?=a0.tmps[t]?):RS B S ι (selfSt D s) a w:=by
 refine ⟨by rw [selfSt_hp]; exact h.hs,hd.trans h.dfr,hz.trans h.sz,fun t v hl=>?_⟩
 rw [selfSt_look] at hl
 rw [selfSt_hp]
 by_cases hm:t∈D
 ·rw [if_pos hm] at hl; cases hl
  exact ⟨_,rfl⟩
 ·rw [if_neg hm] at hl
  have:=h.fr t v hl
  have e:a.tmps.getD t (B.gd t)=a0.tmps.getD t (B.gd t):=by
   rw [Array.getD_eq_getD_getElem?,Array.getD_eq_getD_getElem?,ht t hm]
  rw [e]; exact this

theorem eval_tmp {a:Act} {t:Nat}:a.eval (.tmp t)=(a.tmps[t]?).getD undef:=by
 show a.tmps.getD t undef=_
 rw [Array.getD_eq_getD_getElem?]

theorem put_self {a:Act} {x:Nat}:a.put (some x) ((a.tmps[x]?).getD undef)=a:=by
 show { a with tmps:=a.tmps.setIfInBounds x ((a.tmps[x]?).getD undef) }=a
 have:a.tmps.setIfInBounds x ((a.tmps[x]?).getD undef)=a.tmps:=by
  apply Array.ext_getElem?
  intro j
  rw [Array.getElem?_setIfInBounds]
  by_cases h:x=j
  ·subst h
   by_cases h2:x<a.tmps.size
   ·simp [h2]
   ·simp [h2]
  ·rw [if_neg h]
 rw [this]

def CapR (P:Program) (a0:Act) (w:World) (c:Nat×Option TypeId×Nat) (val:Value):Prop :=
 (∀ (a:Act) (o:Oper),capOf o=some c→a.tmps[c.2.2]?=a0.tmps[c.2.2]?→(execOp a.eval o).run P w=.ok (.value val) w) ∧
 ∀ (a:Act) (o:Oper),putOf o=some c→a.tmps[c.2.2]?=a0.tmps[c.2.2]?→a.tmps[c.1]?=some val→∀ (next:Act→World→Prop) (Q:Exit→Act→World→Prop),next a w→o.wp P a w next Q

theorem capOf_guard {o:Oper} {c:Nat×Option TypeId×Nat} (h:capOf o=some c):o.guard=none∧o.dst=some c.1:=by
 unfold capOf at h
 split at h
 ·rename_i h1 _ h2; cases h; exact ⟨h1,h2⟩
 ·rename_i h1 _ h2; cases h; exact ⟨h1,h2⟩
 ·cases h
theorem putOf_guard {o:Oper} {c:Nat×Option TypeId×Nat} (h:putOf o=some c):o.guard=none:=by
 unfold putOf at h
 split at h
 ·rename_i h1 _ h2; exact h1
 ·rename_i h1 _ h2; exact h1
 ·cases h

theorem cap_ready (hE:EnvB E B) {a0:Act} (h:RS B S ι s a0 w) {ops:Array Oper} {D:List Nat} {i:Nat} {o:Oper} {d x:Nat} {q:Option TypeId} (hc:capOf o=some (d,q,x)) (hs:selfOp E ops s D i o=true) :
  d<E.nt∧x∉D∧∃ val,CapR E.P a0 w (d,q,x) val:=by
 unfold selfOp at hs
 rw [hc] at hs
 simp only [Bool.and_eq_true,Bool.not_eq_true'] at hs
 obtain ⟨⟨h1,h2⟩,h3⟩:=hs
 refine ⟨by simpa [dstOk,Nat.blt_eq] using h1,by intro hm; simp [hm] at h2,?_⟩
 cases q with
 | none =>
  refine ⟨(a0.tmps[x]?).getD undef,fun a o' ho' hx=>?_,fun a o' ho' hx hd next Q hn=>?_⟩
  ·unfold capOf at ho'
   split at ho'
   ·rename_i g1 g2 g3
    cases ho'
    simp only [execOp,g2,Sem.run_pure,eval_tmp,hx]
   ·cases ho'
   ·cases ho'
  ·unfold putOf at ho'
   split at ho'
   ·rename_i g1 g2 g3
    cases ho'
    unfold Oper.wp
    have e:(execOp a.eval o').run E.P w=.ok (.value ((a.tmps[x]?).getD undef)) w:=by
     simp only [execOp,g2,Sem.run_pure,eval_tmp]
     have hd:a.tmps[d]?=some ((a0.tmps[x]?).getD undef):=hd
     have hx:a.tmps[x]?=a0.tmps[x]?:=hx
     rw [hd,hx]; rfl
    rw [e]
    show next (a.put o'.dst _) w
    rw [g3,put_self]; exact hn
   ·cases ho'
   ·cases ho'
 | some T =>
  simp only at h3
  split at h3
  ·rename_i j p hx
   split at h3
   ·rename_i u y hpt
    obtain ⟨e,b,off,k1,k2,k3,k4⟩:=evx h hx
    have k4:a0.eval (.tmp x)=.pointer (some ⟨b,off,none⟩):=by simpa using k4
    have hg:=part_of k1 hpt
    obtain ⟨O2,m1,m2,m3,m4,m5,m6⟩:=Loc_mem (Loc_bag k3) (h.hs.ob j e k1) h.hs.slt k2 hg k3
    have hx0:∀ a:Act,a.tmps[x]?=a0.tmps[x]?→a.eval (.tmp x)=.pointer (some ⟨b,off,none⟩):=by
     intro a ha
     rw [eval_tmp,ha,← eval_tmp]; exact k4
    refine ⟨toV u (cellsAt w.heap b off u.size),fun a o' ho' hx=>?_,fun a o' ho' hx hd next Q hn=>?_⟩
    ·unfold capOf at ho'
     split at ho'
     ·cases ho'
     ·rename_i g1 g2 g3
      cases ho'
      have he:execOp a.eval o'=(do pure (.value (← Instr.loadAt T (a.eval (.tmp x))))):=by simp [execOp,g2]
      refine exec_value he ?_
      rw [hx0 a hx]
      simp [Instr.loadAt,Instr.sureAddr,run_loadVar (chk_ok hE h3) m3]
     ·cases ho'
    ·unfold putOf at ho'
     split at ho'
     ·cases ho'
     ·rename_i g1 g2 g3
      cases ho'
      have hsv:(storeVar T ⟨b,off,none⟩ (toV u (cellsAt w.heap b off u.size))).run E.P w=.ok () (w.setRow b (over (blk w.heap b) off (cellsAt w.heap b off u.size)).toArray):=run_storeVar (chk_ok hE h3) rfl m6 m3
      have hw:w.setRow b (over (blk w.heap b) off (cellsAt w.heap b off u.size)).toArray=w:=by
       obtain ⟨arr,T',⟨fz,e1,_⟩,hn⟩:=m6
       have hb:blk w.heap b=arr.toList:=by simp only [blk,e1]
       have:over (blk w.heap b) off (cellsAt w.heap b off u.size)=blk w.heap b:=over_self m4
       rw [this,hb]; exact setRow_self w b arr T' fz (by simpa using e1)
      rw [hw] at hsv
      have hvd:a.eval (.tmp d)=toV u (cellsAt w.heap b off u.size):=by rw [eval_tmp,show a.tmps[d]?=some _ from hd]; rfl
      have hrun:(execOp a.eval o').run E.P w=.ok .skip w:=by
       simp [execOp,g2,hx0 a hx,hvd,Instr.storeAt,Instr.sureAddr,hsv]
      unfold Oper.wp
      rw [hrun]
      show next (a.put o'.dst undef) w
      rw [g3]; exact hn
     ·cases ho'
   ·cases h3
  ·cases h3

theorem distinct_inj:∀ {l:List Nat},distinctB l=true→l.Nodup
 | [],_=>List.nodup_nil
 | d::l,h=>by
  simp only [distinctB,Bool.and_eq_true,Bool.not_eq_true'] at h
  exact List.nodup_cons.2 ⟨fun hm=>by have:=h.1; simp [hm] at this,distinct_inj h.2⟩
theorem filterMap_inj {α:Type} {f:α→Option Nat}:∀ {l:List α},(l.filterMap f).Nodup→∀ {i j:Nat} {x y:α} {d:Nat},l[i]?=some x→l[j]?=some y→f x=some d→f y=some d→i=j
 | [],_,i,_,_,_,_,h,_,_,_=>by simp at h
 | z::l,hn,i,j,x,y,d,hi,hj,hx,hy=>by
  have hn':(l.filterMap f).Nodup:=by
   cases hz:f z with
   | none=>rwa [List.filterMap_cons_none hz] at hn
   | some e=>rw [List.filterMap_cons_some hz] at hn; exact (List.nodup_cons.1 hn).2
  match i,j,hi,hj with
  | 0,0,_,_=>rfl
  | i+1,j+1,hi,hj=>exact congrArg (·+1) (filterMap_inj (l:=l) hn' (i:=i) (j:=j) (by simpa using hi) (by simpa using hj) hx hy)
  | 0,j+1,hi,hj =>
   exfalso
   simp at hi hj
   subst hi
   rw [List.filterMap_cons_some hx] at hn
   exact (List.nodup_cons.1 hn).1 (List.mem_filterMap.2 ⟨y,List.mem_of_getElem? hj,hy⟩)
  | i+1,0,hi,hj =>
   exfalso
   simp at hi hj
   subst hj
   rw [List.filterMap_cons_some hy] at hn
   exact (List.nodup_cons.1 hn).1 (List.mem_filterMap.2 ⟨x,List.mem_of_getElem? hi,hx⟩)
theorem self_apart {i j:Nat} {o o':Oper} {c c':Nat×Option TypeId×Nat} (h:distinctB (selfD ops)=true) (hi:i<ops.size - 1) (hj:j<ops.size - 1) (hij:i≠j) (ho:ops[i]?=some o) (ho':ops[j]?=some o') (hc:capOf o=some c) (hc':capOf o'=some c'):c.1≠c'.1:=by
 intro e
 refine hij (filterMap_inj (l:=ops.toList.dropLast) (f:=fun o=>(capOf o).map (fun c:Nat×Option TypeId×Nat=>c.1)) (distinct_inj h) (x:=o) (y:=o') (d:=c.1) ?_ ?_ (by rw [hc]; rfl) (by rw [hc',e]; rfl))
 ·rw [List.getElem?_dropLast,if_pos (by simp; omega)]; simpa using ho
 ·rw [List.getElem?_dropLast,if_pos (by simp; omega)]; simpa using ho'
theorem self_sound (hE:EnvB E B) (hn:B.n=E.nt) {a0:Act} (h:RS B S ι s a0 w) (hb:selfB E ops s=true) {oz:Oper} (hz:ops[ops.size - 1]?=some oz) {Q:Exit→Act→World→Prop}
  (hQ:∀ a,RS B S ι (Ex.selfSt (selfD ops) s) a w→∀ next:Act→World→Prop,(∀ a' w',Q .normal a' w'→next a' w')→oz.wp E.P a w next Q) :
  ∀ (fuel:Nat) (listed:Array Bool) (a:Act),listed.size=ops.size→(idxs ops.size listed).length=fuel→listed.getD (ops.size - 1) true=false→ClosedL ops listed→a.defers=a0.defers→a.tmps.size=a0.tmps.size→(∀ t,t∉selfD ops→a.tmps[t]?=a0.tmps[t]?) →
   (∀ j o c,j<ops.size - 1→ops[j]?=some o→capOf o=some c→listed.getD j false=true→∃ val,CapR E.P a0 w c val∧a.tmps[c.1]?=some val)→wpAny E.P .any ops Q fuel listed a w:=by
 unfold selfB at hb
 simp only [Bool.and_eq_true,List.all_eq_true,List.mem_range,Nat.blt_eq] at hb
 obtain ⟨⟨⟨⟨⟨b0,b1⟩,b2⟩,b3⟩,b4⟩,b5⟩:=hb
 rw [hz] at b5
 simp only [Bool.and_eq_true,List.all_eq_true,List.mem_range] at b5
 obtain ⟨⟨z1,z2⟩,z3⟩:=b5
 have hzs:ops.size - 1<ops.size:=by omega
 -- the dependences lie ahead
 have hdep:∀ i o,ops[i]?=some o→∀ e∈o.after,Region.binds .any e=true→e.on<i:=by
  intro i o ho e he hbd
  have hi:i<ops.size:=(Array.getElem?_eq_some_iff.1 ho).1
  by_cases hiz:i=ops.size - 1
  ·subst hiz
   rw [hz] at ho; cases ho
   have:=z3 e (by simpa using he)
   simpa [hbd,Nat.blt_eq] using this
  ·have:=b4 i (by omega)
   rw [ho] at this
   simp only [Bool.and_eq_true,List.all_eq_true] at this
   have:=this.2 e (by simpa using he)
   simpa [hbd,Nat.blt_eq] using this
 have hbind:∀ {o:Oper} {j:Nat} {listed:Array Bool},bindsOn o j=true→(∀ e∈o.after,Region.binds .any e=true→listed.getD e.on false=true)→listed.getD j false=true:=by
  intro o j listed hbo hpre
  simp only [bindsOn,List.any_eq_true,Bool.and_eq_true] at hbo
  obtain ⟨e,he,hbd,hej⟩:=hbo
  rw [← Nat.eq_of_beq_eq_true hej]
  exact hpre e (by simpa using he) hbd
 intro fuel
 induction fuel with
 | zero =>
  intro listed a hsz hlen hzl _ _ _ _ _
  have:ops.size - 1∈idxs ops.size listed:=mem_idxs.2 ⟨hzs,hzl⟩
  rw [List.length_eq_zero_iff.1 hlen] at this
  cases this
 | succ fuel ih =>
  intro listed a hsz hlen hzl hcl hdf hts hother hcaps
  refine ⟨fun hr=>?_,fun i hi=>?_⟩
  ·exfalso
   cases hix:idxs ops.size listed with
   | nil=>rw [hix] at hlen; cases hlen
   | cons i l =>
    have hmem:i∈idxs ops.size listed:=by rw [hix]; simp
    obtain ⟨h1,h2⟩:=mem_idxs.1 hmem
    have ho:ops[i]?=some ops[i]:=Array.getElem?_eq_getElem h1
    have:i∈Region.ready .any ops listed:=by
     refine mem_ready.2 ⟨h2,ops[i],ho,fun e he hb=>?_⟩
     have hlt:=hdep i _ ho e he hb
     cases hle:listed.getD e.on true with
     | true =>
      have:e.on<listed.size:=by omega
      simp [this] at hle ⊢; exact hle
     | false =>
      exfalso
      have hm2:e.on∈idxs ops.size listed:=mem_idxs.2 ⟨by omega,hle⟩
      have hs:=idxs_sorted ops.size listed
      rw [hix] at hs hm2
      rcases List.mem_cons.1 hm2 with e1|e1
      ·omega
      ·have:=(List.pairwise_cons.1 hs).1 _ e1; omega
    rw [hr] at this
    cases this
  ·obtain ⟨h1,o,ho,hpre⟩:=mem_ready.1 hi
   have hin:i<ops.size:=(Array.getElem?_eq_some_iff.1 ho).1
   have hmem:i∈idxs ops.size listed:=mem_idxs.2 ⟨hin,h1⟩
   have hlen2:(idxs ops.size (listed.setIfInBounds i true)).length=fuel:=by
    rw [idxs_set hsz hin]
    obtain ⟨pre,post,e1,hlt,e2⟩:=idxs_split hmem
    rw [e2]; rw [e1] at hlen; simp at hlen ⊢; omega
   have hcl2:ClosedL ops (listed.setIfInBounds i true):=by
    intro k y hy hk e' he' hb'
    by_cases hki:k=i
    ·subst hki
     rw [ho] at hy; cases hy
     exact getD_set_true (hpre e' he' hb')
    ·rw [getD_set_ne true (Ne.symm hki)] at hk
     exact getD_set_true (hcl k y hy hk e' he' hb')
   unfold wpOp
   rw [ho]
   by_cases hiz:i=ops.size - 1
   ·-- the last
    subst hiz
    rw [hz] at ho; cases ho
    have hg:oz.guard=none:=by cases hq:oz.guard with|none=>rfl|some _=>rw [hq] at z1; cases z1
    have hnil:idxs ops.size (listed.setIfInBounds (ops.size - 1) true)=[]:=by
     rw [List.eq_nil_iff_forall_not_mem]
     intro j hj
     obtain ⟨j1,j2⟩:=mem_idxs.1 hj
     by_cases hjz:j=ops.size - 1
     ·rw [hjz,listed_set (by omega)] at j2; cases j2
     ·rw [getD_set_ne true (Ne.symm hjz)] at j2
      have:=getD_flip (hbind (z2 j (by omega)) hpre)
      rw [this] at j2; cases j2
    have hready:Region.ready .any ops (listed.setIfInBounds (ops.size - 1) true)=[]:=by
     rw [List.eq_nil_iff_forall_not_mem]
     intro j hj
     obtain ⟨j1,o',j2,_⟩:=mem_ready.1 hj
     have:j∈idxs ops.size (listed.setIfInBounds (ops.size - 1) true):=mem_idxs.2 ⟨(Array.getElem?_eq_some_iff.1 j2).1,j1⟩
     rw [hnil] at this; cases this
    have hw:Region.wanted oz (yielded ops a.tmps)=true:=by simp [Region.wanted,hg]
    simp only [hw,if_true]
    refine .inl (hQ a (h.selfSt hdf hts hother) _ (fun a' w' hq=>wpAny_done hready hq fuel))
   ·have hlt:i<ops.size - 1:=by omega
    have hso:=b4 i hlt
    rw [ho] at hso
    simp only [Bool.and_eq_true] at hso
    have hso:=hso.1
    have hzl2:(listed.setIfInBounds i true).getD (ops.size - 1) true=false:=by rw [getD_set_ne true hiz]; exact hzl
    cases hc:capOf o with
    | some c =>
     obtain ⟨d,q,x⟩:=c
     obtain ⟨hd,hxD,val,hval⟩:=cap_ready hE h hc hso
     obtain ⟨hg,hdst⟩:=capOf_guard hc
     have hw:Region.wanted o (yielded ops a.tmps)=true:=by simp [Region.wanted,hg]
     simp only [hw,if_true]
     refine .inl ?_
     unfold Oper.wp
     rw [hval.1 a o hc (hother x hxD)]
     have hdD:d∈selfD ops:=by
      refine List.mem_filterMap.2 ⟨o,List.mem_of_getElem? (i:=i) ?_,by rw [hc]; rfl⟩
      rw [List.getElem?_dropLast,if_pos (by simp; omega)]
      simpa using ho
     have hdlt:d<a.tmps.size:=by rw [hts,h.sz,hn]; exact hd
     show wpAny E.P .any ops Q fuel _ (a.put o.dst val) w
     rw [show o.dst=some d from hdst]
     refine ih _ _ (by simp [hsz]) hlen2 hzl2 hcl2 hdf (by simp [Act.put,hts]) (fun t ht=>?_) (fun j o' c' hj ho' hc' hl=>?_)
     ·have htd:t≠d:=fun e=>ht (e▸hdD)
      show (a.tmps.setIfInBounds d val)[t]?=_
      rw [Array.getElem?_setIfInBounds,if_neg (Ne.symm htd)]
      exact hother t ht
     ·by_cases hji:j=i
      ·subst hji
       rw [ho] at ho'; cases ho'
       rw [hc] at hc'; cases hc'
       refine ⟨val,hval,?_⟩
       show (a.tmps.setIfInBounds d val)[d]?=_
       rw [Array.getElem?_setIfInBounds,if_pos rfl,if_pos hdlt]
      ·rw [getD_set_ne false (Ne.symm hji)] at hl
       obtain ⟨val',v1,v2⟩:=hcaps j o' c' hj ho' hc' hl
       refine ⟨val',v1,?_⟩
       have hne:d≠c'.1:=by
        intro e
        exact self_apart b1 hlt hj (Ne.symm hji) ho ho' hc hc' e
       show (a.tmps.setIfInBounds d val)[c'.1]?=_
       rw [Array.getElem?_setIfInBounds,if_neg hne]
       exact v2
    | none =>
     unfold selfOp at hso
     rw [hc] at hso
     simp only at hso
     split at hso
     ·rename_i c hp
      simp only [List.any_eq_true,List.mem_range] at hso
      obtain ⟨j,hj,hso⟩:=hso
      split at hso
      ·rename_i o' ho'
       simp only [Bool.and_eq_true,decide_eq_true_eq] at hso
       obtain ⟨hc',hbo⟩:=hso
       have hl:=hbind hbo hpre
       obtain ⟨val,v1,v2⟩:=hcaps j o' c (by omega) ho' hc' hl
       have hg:=putOf_guard hp
       have hw:Region.wanted o (yielded ops a.tmps)=true:=by simp [Region.wanted,hg]
       simp only [hw,if_true]
       have hxD:c.2.2∉selfD ops:=by
        have hso':=b4 j (by omega)
        rw [ho'] at hso'
        simp only [Bool.and_eq_true] at hso'
        exact (cap_ready hE h (d:=c.1) (q:=c.2.1) (x:=c.2.2) hc' hso'.1).2.1
       refine .inl (v1.2 a o hp (hother _ hxD) v2 _ _ ?_)
       refine ih _ _ (by simp [hsz]) hlen2 hzl2 hcl2 hdf hts hother (fun k o2 c2 hk ho2 hc2 hl2=>?_)
       by_cases hki:k=i
       ·subst hki
        rw [ho] at ho2; cases ho2
        rw [hc] at hc2; cases hc2
       ·rw [getD_set_ne false (Ne.symm hki)] at hl2
        exact hcaps k o2 c2 hk ho2 hc2 hl2
      ·cases hso
     ·cases hso

theorem self_region (hE:EnvB E B) (hn:B.n=E.nt) {id:Nat} (hb:selfB E ops s=true) {oz:Oper} (hz:ops[ops.size - 1]?=some oz) {Q:Exit→Act→World→Prop}
  (hQ:∀ a w,RS B S ι (Ex.selfSt (selfD ops) s) a w→∀ next:Act→World→Prop,(∀ a' w',Q .normal a' w'→next a' w')→oz.wp E.P a w next Q) (h:RS B S ι s a w):(Code.region id ops true).wp E.P Q a w:=by
 have hm:E.P.follows .mixedOrders=true:=by
  unfold selfB at hb
  simp only [Bool.and_eq_true] at hb
  exact hb.1.1.2
 refine wp_region_any hm ?_
 have hpos:0<ops.size:=by have:=(Array.getElem?_eq_some_iff.1 hz).1; omega
 have hlen:(idxs ops.size (Array.replicate ops.size false)).length=ops.size:=by
  rw [idxs_all]; simp
 refine self_sound hE hn (w:=w.drew) (h.turn Flt.nil Past.drew) hb hz (fun a' h'=>hQ a' _ h') ops.size _ a (by simp) hlen ?_ ?_ rfl rfl (fun _ _=>rfl) ?_
 ·have:ops.size - 1<ops.size:=by omega
  simp [this]
 ·intro k o hk hl
  have:k<ops.size:=(Array.getElem?_eq_some_iff.1 hk).1
  simp [this] at hl
 ·intro j o c hj ho hc hl
  have:j<ops.size:=by omega
  simp [this] at hl
end
end Go.Ex

namespace Go.Ex

section
variable {E:Env} {B:Base} {S S':Nat→Prop} {ι:Ix} {s:St} {a:Act} {w:World} {hp:List (Nat×Ent)} {H H':Array Go.Obj}

def At (P:Program) (fn:Func) (R:Ending→World→Prop) (k:List Item) (a:Act) (w:World):Prop :=
 ∀ (b:Frame) (cs:List Frame),∃ (e:Exit) (a':Act) (w':World),bodyPost P fn R e a' w'∧Arrives P (lone (b.at a k) cs w) b [] cs e a' w'

section at_
variable {P:Program} {fn:Func} {R:Ending→World→Prop} {k k':List Item}

theorem At.step (hs:∀ (b:Frame) (cs:List Frame),step P (lone (b.at a k) cs w)=.next (lone (b.at a k') cs w)) (h:At P fn R k' a w):At P fn R k a w :=
 fun b cs=>let ⟨e,a',w',q,r⟩:=h b cs; ⟨e,a',w',q,.of_steps (.one (hs b cs)) r⟩

theorem At.region {id:Nat} {ops:Array Oper} {d:Bool} (h:(Code.region id ops d).wp P (fun e a w=>e=.normal∧At P fn R k a w) a w):At P fn R (.code (.region id ops d)::k) a w:=by
 intro b cs
 obtain ⟨e,a',w',⟨rfl,h2⟩,harr⟩:=h b k cs
 obtain ⟨e,a'',w'',q,r⟩:=h2 b cs
 exact ⟨e,a'',w'',q,.of_steps harr r⟩

theorem At.done (h:bodyPost P fn R .normal a w):At P fn R [] a w:=fun _ _=>⟨.normal,a,w,h,Steps.refl _ _⟩
theorem At.ret (h:bodyPost P fn R .ret a w):At P fn R (.code .ret::k) a w:=fun _ _=>⟨.ret,a,w,h,_,.one step_ret⟩

theorem calls_of_at {f:FuncId} {c:Code} {args:Array Value} (hf:P.funcs[f]?=some fn) (hb:fn.body=some c)
  (h:At P fn R [.code c] { tmps:=args++Array.replicate (fn.ntmps - args.size) undef,defers:=[] } w):Calls P f args w R:=by
 intro cs
 let b:Frame:={ (default:Frame) with fn:=f,kind:=.normal }
 have henter:Frame.enter P f args .normal=b.at { tmps:=args++Array.replicate (fn.ntmps - args.size) undef,defers:=[] } [.code c]:=by
  simp [Frame.enter,Frame.at,hf,hb,b]
 obtain ⟨e,a',w',hq,harr⟩:=h b cs
 rw [← henter] at harr
 cases e with
 | normal =>
  obtain ⟨hd,v,hr,hR⟩:=hq
  exact ⟨.returned v,w',_,hR,Steps.trans harr (.one step_end),rfl,rfl,hd,rfl,fn,hf,hr⟩
 | ret =>
  obtain ⟨hd,v,hr,hR⟩:=hq
  obtain ⟨todo,hs⟩:=harr
  exact ⟨.returned v,w',_,hR,hs,rfl,rfl,hd,rfl,fn,hf,hr⟩
 | panic chain =>
  obtain ⟨hd,hR⟩:=hq
  obtain ⟨todo,hs⟩:=harr
  exact ⟨.panicked chain,w',_,hR,hs,rfl,rfl,hd,fn,hf⟩
 | exit id=>exact hq.elim
 | goto l=>exact hq.elim
 | outgrown=>exact ⟨.outgrown,w',b,hq,harr.resolve_left (by simp [b]),rfl,trivial⟩
end at_

/-! ### what is kept at a cut -/
theorem RS.dropAll (live:List Nat) (s0:St):∀ {l:List (Nat×Ent)} {s:St},RS B S ι s a w→RS B S ι (dropAll live s0 l s) a w
 | [],_,h=>h
 | (i,_)::l,s,h=>by
  simp only [Ex.dropAll]
  split
  ·exact RS.dropAll live s0 h
  ·rename_i hp
   simp only [Bool.or_eq_false_iff] at hp
   exact RS.dropAll live s0 (h.drop hp.1)

theorem RS.lodge (h:RS B S ι s a w) {m d:Nat} (hf:s.fresh d=true) {t:Ty} {x:t.den} {O:List Nat} {cs:List Value} (hv:a.tmps.getD m (B.gd m)=toV t cs) (hR:Rep w.heap S t O cs x) (hF:Flt B S ι s.hp w O) :
  ∃ ι',RS B S ι' { s.putE d (.own t x) with fr:=Ex.put m (.at_ d []) s.fr } a w :=
 ⟨_,(h.hold hf hR hF).slot (t:=m) (v:=.at_ d []) (by rw [hv]; exact at_new hR.length)⟩

def SameAs (ι ι':Ix) (i j:Nat):Prop:=ι'.root j=ι.root i∧ι'.cells j=ι.cells i∧ι'.own j=ι.own i

theorem SameAs.place {ι':Ix} {i j:Nat} (h:SameAs ι ι' i j) {H:Array Go.Obj} {e:Ent} {p:List Step}:Place H ι' j e p=Place H ι i e p:=by
 obtain ⟨h1,h2,h3⟩:=h
 cases e<;>simp only [Place,VH,VR,h1,h2]
theorem SameAs.loc {ι':Ix} {i j:Nat} (h:SameAs ι ι' i j) {H:Array Go.Obj} {e:Ent} {p:List Step}:Loc H ι' j e p=Loc H ι i e p:=by
 simp only [Loc,h.place]
theorem SameAs.cells_ {ι':Ix} {i j:Nat} (h:SameAs ι ι' i j) {H:Array Go.Obj} {e:Ent} {p:List Step} {u:Ty} {cs:List Value}:Cells H ι' j e p u cs↔Cells H ι i e p u cs:=by
 have hv:VH H ι' j e=VH H ι i e:=by obtain ⟨h1,h2,h3⟩:=h; cases e<;>simp only [VH,h2]
 simp only [Cells,h.place,hv]

theorem RS.ren (h:RS B S ι s a w) {i j:Nat} (hi:pinned i=false) {u:Ty} {x:u.den} (h1:look i s.hp=some (.own u x)) (hf:s.fresh j=true) :
  ∃ ι',RS B S ι' { fr:=mapA (AV.ren i j) s.fr,hp:=Ex.put j (.own u x) (del i s.hp) } a w:=by
 obtain ⟨f1,f2⟩:=fresh_inv hf
 have hij:i≠j:=by rintro rfl; rw [f1] at h1; cases h1
 let ι':Ix:={ root:=fun k=>if k=j then ι.root i else ι.root k,cells:=fun k=>if k=j then ι.cells i else ι.cells k,own:=fun k=>if k=j then ι.own i else ι.own k }
 have hsj:SameAs ι ι' i j:=⟨by simp [ι'],by simp [ι'],by simp [ι']⟩
 have hsk:∀ k,k≠j→SameAt ι ι' k:=fun k hk=>⟨by simp [ι',hk],by simp [ι',hk],by simp [ι',hk]⟩
 have hF:Flt B S ι (St.drops [i] s).hp w (ι.own i):=by
  obtain ⟨⟨O,hO,hR⟩,hnd⟩:=(h.hs.ob i _ h1:OB w.heap S ι i (.own u x))
  exact Flt.drops h.hs hnd (fun b hb=>⟨i,_,by simp,h1,hb⟩)
 have hob:OB w.heap S ι' j (.own u x):=by
  obtain ⟨⟨O,hO,hR⟩,hnd⟩:=(h.hs.ob i _ h1:OB w.heap S ι i (.own u x))
  obtain ⟨e1,e2,e3⟩:=hsj
  exact ⟨⟨O,by rw [e3]; exact hO,by rw [e2]; exact hR⟩,by rw [e3]; exact hnd⟩
 have hd:=h.hs.drop hi
 refine ⟨ι',⟨hd.add (d:=j) (e:=.own u x) (ι':=ι') (O:=ι.own i) ?_ hsk hob ?_ hF,h.dfr,h.sz,?_⟩⟩
 ·rw [look_del]; split<;>first|rfl|exact f1
 ·intro b hb
  have:ι'.own j=ι.own i:=hsj.2.2
  show b∈ι.own i
  rw [← this]; exact hb
 ·intro t v hv
  simp only [look_mapA,Option.map_eq_some_iff] at hv
  obtain ⟨v0,hv0,rfl⟩:=hv
  have hvj:=f2 t v0 hv0
  refine VX.map (fun _ _=>rfl) (fun _ h=>h) (fun q vs hq hm hv=>?_) (h.fr t v0 hv0)
  have hlk:∀ k,q.ment k=true→k≠i→look k (Ex.put j (.own u x) (del i s.hp))=look k s.hp:=by
   intro k hk hki
   have hkj:k≠j:=by rintro rfl; rw [hm k hk] at hvj; cases hvj
   rw [look_put,if_neg hkj,look_del,if_neg hki]
  have hlj:look j (Ex.put j (Ent.own u x) (del i s.hp))=some (.own u x):=by rw [look_put,if_pos rfl]
  dsimp only
  split
  ·rename_i hmi
   refine VX.other (fun k hk=>hlk k hk ?_) (fun k hk=>hsk k ?_) hv
   ·rintro rfl; rw [hk] at hmi; cases hmi
   ·rintro rfl; rw [hm k hk] at hvj; cases hvj
  ·rename_i hmi
   split
   ·rename_i k p
    have:=Nat.eq_of_beq_eq_true hmi
    subst this
    obtain ⟨e,b,off,k1,k2,k3,k4⟩:=hv
    rw [h1] at k1; cases k1
    exact ⟨_,b,off,hlj,k2,hsj.loc.trans k3,k4⟩
   ·rename_i k p
    have:=Nat.eq_of_beq_eq_true hmi
    subst this
    obtain ⟨e,u',y,cs,k1,k2,k3,k4,k5⟩:=hv
    rw [h1] at k1; cases k1
    exact ⟨_,u',y,cs,hlj,k2,k3,hsj.cells_.2 k4,k5⟩
   ·rename_i k p lo hi'
    have:=Nat.eq_of_beq_eq_true hmi
    subst this
    obtain ⟨e,v,k1,k2,k3,k4,k5,k6⟩:=hv
    rw [h1] at k1; cases k1
    refine ⟨_,v,hlj,k2,k3,k4,k5,?_⟩
    rcases k6 with ⟨t',l,A,cap,q1,q2,q3,q4⟩|⟨n,t',l,b,off,q1,q2,q3,q4⟩
    ·exact .inl ⟨t',l,A,cap,q1,q2,hsj.cells_.2 q3,q4⟩
    ·exact .inr ⟨n,t',l,b,off,q1,q2,hsj.loc.trans q3,q4⟩
   ·obtain ⟨y,e⟩:=VX.one hq hv
    exact ⟨y,e⟩

theorem RS.settle (h:RS B S ι s a w) (m:Nat) (t:Ty):∃ ι',RS B S ι' (settle m t s) a w:=by
 have hg:=h.get m
 unfold Ex.settle
 split
 ·rename_i hm
  rw [hm] at hg
  have hv:a.tmps.getD m (B.gd m)=Value.slice none 0 0:=by
   have:[a.tmps.getD m (B.gd m)]=[Value.slice none 0 0]:=hg
   simpa using this
  split
  ·rename_i u hf
   exact h.lodge hf (t:=.slc true u) (x:=([]:List u.den)) (O:=[]) (cs:=[.slice none 0 0]) hv (.inl ⟨rfl,⟨none,0,rfl,fun _=>rfl⟩,rfl⟩) Flt.nil
  ·exact ⟨ι,h⟩
 ·rename_i i hm
  split
  ·rename_i u x hob
   split
   ·exact ⟨ι,h⟩
   ·rename_i hc
    simp only [Bool.or_eq_false_iff,Bool.not_eq_false'] at hc
    exact h.ren hc.1 hob hc.2
  ·exact ⟨ι,h⟩
 ·rename_i i lo hi hm
  rw [hm] at hg
  split
  ·rename_i u x g hgv
   split
   ·exact ⟨ι,h⟩
   ·rename_i hc
    simp only [Bool.or_eq_false_iff,Bool.not_eq_false'] at hc
    obtain ⟨O,cs,k1,k2,k3,k4⟩:=give_rep h.hs hgv hg
    have hgi:g=[i]:=by
     simp only [AV.give] at hgv
     split at hgv<;>cases hgv
     rfl
    subst hgi
    exact (h.drop hc.1).lodge hc.2 k1 k2 (Flt.drops h.hs k3 k4)
  ·exact ⟨ι,h⟩
 ·rename_i u x hm
  rw [hm] at hg
  split
  ·rename_i hc
   simp only [Bool.and_eq_true] at hc
   obtain ⟨cs,e,hR⟩:=hg
   exact h.lodge hc.2 (by simpa using e) hR Flt.nil
  ·exact ⟨ι,h⟩
 ·exact ⟨ι,h⟩

theorem RS.settles:∀ {l:List (Nat×Option Ty)} {ι:Ix} {s:St},RS B S ι s a w→∃ ι',RS B S ι' (settles l s) a w
 | [],ι,s,h=>⟨ι,h⟩
 | (_,none)::l,ι,s,h=>RS.settles (l:=l) h
 | (m,some t)::l,ι,s,h=>by
  obtain ⟨ι',h'⟩:=h.settle m t
  exact RS.settles (l:=l) h'

theorem RS.canon (h:RS B S ι s a w) (x:List (Nat×Option Ty)):∃ ι',RS B S ι' (canon x s) a w:=by
 have h1:RS B S ι (Ex.dropAll (x.map (·.1)) s s.hp s) a w:=RS.dropAll (x.map (·.1)) s h
 obtain ⟨ι',h2⟩:=RS.settles (l:=x) h1
 have h3:=RS.dropAll (x.map (·.1)) (Ex.settles x (Ex.dropAll (x.map (·.1)) s s.hp s)) (l:=(Ex.settles x (Ex.dropAll (x.map (·.1)) s s.hp s)).hp) h2
 refine ⟨ι',h3.hs,h3.dfr,h3.sz,?_⟩
 intro t v hv
 simp only [Ex.canon] at hv
 generalize hs:Ex.dropAll (x.map (·.1)) (Ex.settles x (Ex.dropAll (x.map (·.1)) s s.hp s)) (Ex.settles x (Ex.dropAll (x.map (·.1)) s s.hp s)).hp (Ex.settles x (Ex.dropAll (x.map (·.1)) s s.hp s))=s1 at hv h3
 have:v=s1.get t:=by
  generalize x.map (·.1)=ts at hv
  clear h3 hs
  revert hv
  induction ts with
  | nil=>intro hv; cases hv
  | cons t' l ih =>
   intro hv
   simp only [List.map_cons,look] at hv
   cases hb:Nat.beq t t' with
   | true =>
    rw [hb] at hv
    have:=Nat.eq_of_beq_eq_true hb
    subst this
    cases hv; rfl
   | false=>rw [hb] at hv; exact ih hv
 rw [this]
 have:=h3.get t
 simp only [Ex.canon,hs]
 exact this

/-! ### results -/
theorem resA_sound (hE:EnvB E B) (h:RS B S ι s a w):∀ {rs:List ResultVar} {l:AV},resA E s rs=some l →
  ∃ us,(rs.mapM fun r=>(match r with
   | .tmp t=>pure (a.tmps.getD t undef)
   | .cell c t=>do loadVar t (← asAddr (a.tmps.getD c undef)):Sem Value)).run E.P w=.ok us w∧VX w.heap S ι s.hp l us
 | [],l,hl=>by
  simp only [resA,Option.some.injEq] at hl
  subst hl
  exact ⟨[],rfl,rfl⟩
 | .tmp t::rs,l,hl=>by
  simp only [resA] at hl
  split at hl
  ·rename_i v hv
   cases hl
   obtain ⟨us,h1,h2⟩:=resA_sound hE h hv
   exact ⟨a.tmps.getD t undef::us,by simp only [List.mapM_cons,Sem.run_bind,Sem.run_pure,Result.andThen,h1],_,us,rfl,h.ev (.tmp t),h2⟩
  ·cases hl
 | .cell c T::rs,l,hl=>by
  simp only [resA] at hl
  split at hl
  ·rename_i i p hc
   have hv:=h.ev (.tmp c)
   rw [hc] at hv
   obtain ⟨e,b,off,k1,k2,k3,k4⟩:=hv
   have k4:a.tmps.getD c undef=.pointer (some ⟨b,off,none⟩):=by
    have k5:[a.tmps.getD c undef]=[.pointer (some ⟨b,off,none⟩)]:=k4
    exact List.head_eq_of_cons_eq k5
   split at hl
   ·rename_i u y hpt
    have hg:=part_of k1 hpt
    split at hl
    ·rename_i hck
     split at hl
     ·rename_i v hv
      obtain ⟨us,h1,h2⟩:=resA_sound hE h hv
      obtain ⟨O2,m1,mn,m2,m3,m4,m5⟩:=Loc_mem (Loc_bag k3) (h.hs.ob i _ k1) h.hs.slt k2 hg k3
      have hld:(do loadVar T (← asAddr (a.tmps.getD c undef)):Sem Value).run E.P w=.ok (toV u (cellsAt w.heap b off u.size)) w:=by
       rw [k4]; simp [asAddr,run_loadVar (chk_ok hE hck) m2]
      refine ⟨toV u (cellsAt w.heap b off u.size)::us,?_,?_⟩
      ·simp only [List.mapM_cons]
       rw [Sem.run_bind,hld]
       simp only [Result.andThen,Sem.run_bind,Sem.run_pure,h1]
      ·split at hl
       ·rename_i hs
        cases hl
        have:=m2.nilO hs
        subst this
        exact ⟨_,us,rfl,⟨_,rfl,m2⟩,h2⟩
       ·cases hl
        obtain ⟨r3,r4⟩:=Loc_place k3
        exact ⟨_,us,rfl,⟨_,u,y,_,k1,k2,hg,⟨b,off,r3,by rw [cellsAt_congr (VH_old r4)]⟩,rfl⟩,h2⟩
     ·cases hl
    ·cases hl
   ·cases hl
  ·cases hl

theorem results_run (hE:EnvB E B) (h:RS B S ι s a w) {fn:Func} (hres:fn.results.toList=E.res) {l:AV} (hl:resA E s E.res=some l) :
  ∃ us,(results fn a.tmps).run E.P w=.ok (retV us) w∧VX w.heap S ι s.hp l us:=by
 obtain ⟨us,h1,h2⟩:=resA_sound hE h hl
 refine ⟨us,?_,h2⟩
 rw [← hres] at h1
 have:(fn.results.mapM fun r=>(match r with
   | .tmp t=>pure (a.tmps.getD t undef)
   | .cell c t=>do loadVar t (← asAddr (a.tmps.getD c undef)):Sem Value)).run E.P w=.ok us.toArray w:=by
  rw [Array.mapM_eq_mapM_toList,Sem.run_map,h1]; rfl
 simp only [results]
 rw [Sem.run_bind]
 refine (congrArg (fun r:Result (Array Value)=>r.andThen fun vs w'=>Sem.run E.P (pure (if h:vs.size=1 then vs[0] else Value.tuple vs)) w') this).trans ?_
 simp only [Result.andThen,Sem.run_pure]
 match us with
 | []=>rfl
 | [v]=>rfl
 | v::v2::l=>rfl

theorem retOne_rep (h:HS B S ι s.hp w) {t:Ty} {used used':List Nat} {av:AV} {x:t.den} {v:Value} (hr:retOne s t used av=some (x,used')) (hv:VX w.heap S ι s.hp av [v]) :
  ∃ O cs,v=toV t cs∧Rep w.heap S t O cs x∧O.Nodup∧(∀ b∈O,∃ i e,i∈used'∧i∉used∧pinned i=false∧look i s.hp=some e∧b∈blks ι i e)∧∀ i∈used,i∈used':=by
 unfold retOne at hr
 split at hr
 ·rename_i i
  split at hr
  ·cases hr
  ·rename_i hc
   simp only [Bool.or_eq_false_iff] at hc
   obtain ⟨hc1,hc2⟩:=hc
   have hnu:i∉used:=by intro hm; simp [hm] at hc1
   obtain ⟨e,u,y,cs,h1,h2,h3,h4,h5⟩:=hv
   have key:∀ {e0:Ent},s.obj i=some e0→(hu:e0.ty=t)→∀ {x},x=castD hu e0.x→∃ O cs,v=toV t cs∧Rep w.heap S t O cs x∧O.Nodup∧(∀ b∈O,∃ j e,j∈i::used∧j∉used∧pinned j=false∧look j s.hp=some e∧b∈blks ι j e)∧∀ j∈used,j∈i::used:=by
    rintro e0 hob rfl x rfl
    obtain rfl:=ent_of h1 hob
    rw [getP_nil] at h3; cases h3
    obtain ⟨O2,m1,m2,m3⟩:=sub_rep h h1 h2 getP_nil h4
    exact ⟨O2,cs,by simpa using h5,m3,m2,fun b hb=>⟨i,_,by simp,hnu,hc2,h1,own_blks (m1 b hb)⟩,fun j hj=>by simp [hj]⟩
   split at hr
   ·rename_i u' x' hob
    split at hr
    ·rename_i hu; cases hr; exact key (e0:=.var u' x') hob hu rfl
    ·cases hr
   ·rename_i u' x' hob
    split at hr
    ·rename_i hu; cases hr; exact key (e0:=.own u' x') hob hu rfl
    ·cases hr
   ·cases hr
 ·rename_i i lo hi
  split at hr
  ·cases hr
  ·rename_i hc
   simp only [Bool.or_eq_false_iff] at hc
   obtain ⟨hc1,hc2⟩:=hc
   have hnu:i∉used:=by intro hm; simp [hm] at hc1
   split at hr
   ·rename_i u x' g hgv
    split at hr
    ·rename_i hu
     cases hr
     subst hu
     obtain ⟨O,cs,k1,k2,k3,k4⟩:=give_rep h hgv hv
     have hgi:g=[i]:=by
      simp only [AV.give] at hgv
      split at hgv<;>cases hgv
      rfl
     subst hgi
     refine ⟨O,cs,k1,k2,k3,fun b hb=>?_,fun j hj=>by simp [hj]⟩
     obtain ⟨j,e,j1,j2,j3⟩:=k4 b hb
     simp only [List.mem_cons,List.not_mem_nil,or_false] at j1
     subst j1
     exact ⟨j,e,by simp,hnu,hc2,j2,j3⟩
    ·cases hr
   ·cases hr
 ·rename_i i
  split at hr
  ·cases hr
  ·rename_i hc
   simp only [Bool.or_eq_false_iff] at hc
   obtain ⟨hc1,hc2⟩:=hc
   have hnu:i∉used:=by intro hm; simp [hm] at hc1
   split at hr
   ·rename_i u y hob
    split at hr
    ·rename_i hu
     subst hu
     cases hr
     obtain ⟨e,b,off,h1,h2,h3,h4⟩:=hv
     obtain rfl:=ent_of h1 hob
     obtain ⟨⟨O,hO,hR⟩,hf,hnd⟩:=h.ob i _ h1
     have hl:(ι.root i).1=b∧(ι.root i).2=off:=by
      have:=(Loc_place h3).1
      simp only [Place,Nav_nil,VR,Option.some.injEq,Prod.mk.injEq] at this
      exact this
     obtain ⟨rfl,rfl⟩:=hl
     refine ⟨(ι.root i).1::O,[.pointer (some ⟨(ι.root i).1,(ι.root i).2,none⟩)],by simpa [toV,Ty.agg] using h4,.inr ⟨_,_,_,O,rfl,rfl,hf.blk,hR,rfl,hf⟩,((hO.cons _).nodup_iff).2 hnd,fun c hc=>⟨i,_,by simp,hnu,hc2,h1,?_⟩,fun j hj=>by simp [hj]⟩
     simp only [blks]
     exact ((hO.cons _).mem_iff).1 hc
    ·cases hr
   ·cases hr
 ·rename_i f i
  split at hr
  ·cases hr
  ·rename_i hc
   simp only [Bool.or_eq_false_iff] at hc
   obtain ⟨hc1,hc2⟩:=hc
   have hnu:i∉used:=by intro hm; simp [hm] at hc1
   split at hr
   ·rename_i u y hob
    split at hr
    ·rename_i hu
     subst hu
     cases hr
     obtain ⟨us,hv1,v0,us0,rfl,⟨e,b,off,h1,h2,h3,h4⟩,hv2⟩:=hv
     have hv2:us0=[]:=hv2
     subst hv2
     have h4:v0=.pointer (some ⟨b,off,none⟩):=by simpa using h4
     subst h4
     obtain rfl:=ent_of h1 hob
     obtain ⟨⟨O,hO,hR⟩,hf,hnd⟩:=h.ob i _ h1
     have hl:(ι.root i).1=b∧(ι.root i).2=off:=by
      have:=(Loc_place h3).1
      simp only [Place,Nav_nil,VR,Option.some.injEq,Prod.mk.injEq] at this
      exact this
     obtain ⟨rfl,rfl⟩:=hl
     refine ⟨(ι.root i).1::O,[boxV (some f) ⟨(ι.root i).1,(ι.root i).2,none⟩],by simpa [toV,Ty.agg,boxV] using hv1,.inr ⟨_,_,_,O,rfl,rfl,hf.blk,hR,rfl,hf⟩,((hO.cons _).nodup_iff).2 hnd,fun c hc=>⟨i,_,by simp,hnu,hc2,h1,?_⟩,fun j hj=>by simp [hj]⟩
     simp only [blks]
     exact ((hO.cons _).mem_iff).1 hc
    ·cases hr
   ·cases hr
 ·split at hr
  ·rename_i x' hx
   cases hr
   obtain ⟨cs,e,hR⟩:=as_rep hx hv
   exact ⟨[],cs,e,hR,List.nodup_nil,by simp,fun _ h=>h⟩
  ·cases hr

theorem retA_sound (h:HS B S ι s.hp w):∀ {rs:List Ty} {used:List Nat} {l:AV} {y:DL rs} {us:List Value},retA s rs used l=some y→VX w.heap S ι s.hp l us →
  ∃ O,ResRep w.heap S rs O us y∧O.Nodup∧∀ b∈O,∃ i e,i∉used∧pinned i=false∧look i s.hp=some e∧b∈blks ι i e
 | [],used,l,y,us,hr,hv=>by
  cases l<;>simp only [retA] at hr<;>first|cases hr|skip
  exact ⟨[],⟨rfl,hv⟩,List.nodup_nil,by simp⟩
 | t::ts,used,l,y,us,hr,hv=>by
  cases l<;>simp only [retA] at hr<;>first|cases hr|skip
  rename_i av bv
  obtain ⟨v,us',rfl,ha,hb⟩:=hv
  split at hr
  ·rename_i x used' h1
   split at hr
   ·rename_i y' h2
    cases hr
    obtain ⟨O1,cs,k1,k2,k3,k4,k5⟩:=retOne_rep h h1 ha
    obtain ⟨O2,m1,m2,m3⟩:=retA_sound h h2 hb
    refine ⟨O1++O2,⟨v,us',O1,O2,cs,rfl,rfl,k1,k2,m1⟩,List.nodup_append.2 ⟨k3,m2,?_⟩,?_⟩
    ·rintro c hc d hd rfl
     obtain ⟨i,e,i1,_,_,i2,i3⟩:=k4 c hc
     obtain ⟨j,e',j1,_,j2,j3⟩:=m3 c hd
     exact h.dj i j e e' i2 j2 (by rintro rfl; exact j1 i1) c i3 j3
    ·intro c hc
     rcases List.mem_append.1 hc with hc|hc
     ·obtain ⟨i,e,_,i1,i4,i2,i3⟩:=k4 c hc
      exact ⟨i,e,i1,i4,i2,i3⟩
     ·obtain ⟨j,e',j1,j4,j2,j3⟩:=m3 c hc
      exact ⟨j,e',fun hj=>j1 (k5 j hj),j4,j2,j3⟩
   ·cases hr
  ·cases hr

def pinsOf:(ks:List PK)→List Value→Nat→List (Nat×(Nat×Nat)×List Value)
 | .rw _::ks,v::vs,i=>(match v with
  | .pointer (some a)=>(2000000+i,(a.block,a.off),[])
  | _=>(2000000+i,(0,0),[]))::pinsOf ks vs (i+1)
 | .mu _::ks,v::vs,i=>(2000000+i,(0,0),[v])::pinsOf ks vs (i+1)
 | _::ks,_::vs,i=>pinsOf ks vs (i+1)
 | _,_,_=>[]

theorem outA_sound (h:HS B S ι s.hp w) {H0:Array Go.Obj} {S0:Nat→Prop}:∀ {ks:List PK} {vs:List Value} {x:DK ks} {L0:List Nat} {j:Nat} {z:DL (wts ks)},KsRep H0 S0 ks vs x L0→(∀ q∈pinsOf ks vs j,q∈B.pins)→outA s ks j=some z →
  ∃ Lo,OutRep w.heap S ks vs z Lo∧Lo.Nodup∧∀ b∈Lo,∃ i e,2000000+j≤i∧look i s.hp=some e∧b∈blks ι i e
 | [],vs,x,L0,j,z,hK,_,hz=>⟨[],⟨hK.1,rfl⟩,List.nodup_nil,by simp⟩
 | k::ks,vs,x,L0,j,z,⟨v,us,L1,L2,e1,e2,hk,hK⟩,hp,hz=>by
  subst e1 e2
  have plain:∀ {z':DL (wts ks)},(∀ q∈pinsOf ks us (j+1),q∈B.pins)→outA s ks (j+1)=some z'→∃ Lo,OutRep w.heap S ks us z' Lo∧Lo.Nodup∧∀ b∈Lo,∃ i e,2000000+j≤i∧look i s.hp=some e∧b∈blks ι i e:=by
   intro z' hp hz
   obtain ⟨Lo,k1,k2,k3⟩:=outA_sound h hK hp hz
   exact ⟨Lo,k1,k2,fun b hb=>by obtain ⟨i,e,i1,i2,i3⟩:=k3 b hb; exact ⟨i,e,by omega,i2,i3⟩⟩
  have join:∀ {L1 Lo:List Nat} {e0:Ent},look (2000000+j) s.hp=some e0→L1.Nodup→(∀ b∈L1,b∈blks ι (2000000+j) e0)→Lo.Nodup→(∀ b∈Lo,∃ i e,2000000+(j+1)≤i∧look i s.hp=some e∧b∈blks ι i e) →
    (L1++Lo).Nodup∧∀ b∈L1++Lo,∃ i e,2000000+j≤i∧look i s.hp=some e∧b∈blks ι i e:=by
   intro L1 Lo e0 h1 n1 m1 n2 m2
   refine ⟨List.nodup_append.2 ⟨n1,n2,?_⟩,?_⟩
   ·rintro c hc d hd rfl
    obtain ⟨i,e,i1,i2,i3⟩:=m2 c hd
    exact h.dj (2000000+j) i e0 e h1 i2 (by omega) c (m1 c hc) i3
   ·intro b hb
    rcases List.mem_append.1 hb with hb|hb
    ·exact ⟨_,e0,Nat.le_refl _,h1,m1 b hb⟩
    ·obtain ⟨i,e,i1,i2,i3⟩:=m2 b hb; exact ⟨i,e,by omega,i2,i3⟩
  cases k with
  | v t=>obtain ⟨Lo,k1,k2⟩:=plain hp hz; exact ⟨Lo,⟨v,us,rfl,k1⟩,k2⟩
  | rd t=>obtain ⟨Lo,k1,k2⟩:=plain hp hz; exact ⟨Lo,⟨v,us,rfl,k1⟩,k2⟩
  | clo f ts=>obtain ⟨Lo,k1,k2⟩:=plain hp hz; exact ⟨Lo,⟨v,us,rfl,k1⟩,k2⟩
  | nilS=>obtain ⟨Lo,k1,k2⟩:=plain hp hz; exact ⟨Lo,⟨v,us,rfl,k1⟩,k2⟩
  | rcs f n=>obtain ⟨Lo,k1,k2⟩:=plain hp hz; exact ⟨Lo,⟨v,us,rfl,k1⟩,k2⟩
  | el q=>obtain ⟨Lo,k1,k2⟩:=plain hp hz; exact ⟨Lo,⟨v,us,rfl,k1⟩,k2⟩
  | own t=>obtain ⟨Lo,k1,k2⟩:=plain hp hz; exact ⟨Lo,⟨v,us,rfl,k1⟩,k2⟩
  | rw t =>
   obtain ⟨b0,off0,O0,rfl,_,_,_⟩:=hk
   simp only [outA] at hz
   split at hz
   ·rename_i u x' y' hob hz'
    split at hz
    ·rename_i hu
     cases hz
     subst hu
     have hob:look (2000000+j) s.hp=some (.var u x'):=hob
     obtain ⟨Lo,k1,k2,k3⟩:=outA_sound h hK (fun q hq=>hp q (by simp only [pinsOf]; exact List.mem_cons_of_mem _ hq)) hz'
     obtain ⟨_,_,p3,p4⟩:=h.pin (2000000+j,(b0,off0),[]) (hp _ (by simp [pinsOf]))
     have p3:ι.root (2000000+j)=(b0,off0):=p3
     obtain ⟨⟨O,hO,hR⟩,hfr,hnd⟩:=(h.ob _ _ hob:OB w.heap S ι (2000000+j) (.var u x'))
     rw [p3] at hR hfr hnd
     have hnd':(b0::O).Nodup:=List.nodup_cons.2 ⟨fun hb=>(List.nodup_cons.1 hnd).1 (hO.mem_iff.1 hb),hO.nodup_iff.2 (List.nodup_cons.1 hnd).2⟩
     obtain ⟨j1,j2⟩:=join hob hnd' (fun b hb=>by
      rcases List.mem_cons.1 hb with rfl|hb
      ·simp [blks,p3]
      ·simp [blks,hO.mem_iff.1 hb]) k2 k3
     exact ⟨(b0::O)++Lo,⟨b0,off0,O,us,Lo,rfl,hR,hfr,rfl,k1⟩,j1,j2⟩
    ·cases hz
   ·cases hz
  | mu t =>
   obtain ⟨cs0,rfl,hR0⟩:=hk
   simp only [outA] at hz
   split at hz
   ·rename_i u x' y' hob hz'
    split at hz
    ·rename_i hu
     cases hz
     subst hu
     have hob:look (2000000+j) s.hp=some (.own (.slc true t) x'):=hob
     obtain ⟨Lo,k1,k2,k3⟩:=outA_sound h hK (fun q hq=>hp q (by simp only [pinsOf]; exact List.mem_cons_of_mem _ hq)) hz'
     obtain ⟨_,_,p3,p4⟩:=h.pin (2000000+j,(0,0),[toV (.slc true t) cs0]) (hp _ (by simp [pinsOf]))
     have p4:ι.cells (2000000+j)=[toV (.slc true t) cs0]:=p4
     obtain ⟨⟨O,hO,hR⟩,hnd⟩:=(h.ob _ _ hob:OB w.heap S ι (2000000+j) (.own (.slc true t) x'))
     rw [p4] at hR
     obtain ⟨j1,j2⟩:=join hob (hO.nodup_iff.2 hnd) (fun b hb=>hO.mem_iff.1 hb) k2 k3
     exact ⟨O++Lo,⟨[toV (.slc true t) cs0],O,us,Lo,rfl,rfl,hR,rfl,k1⟩,j1,j2⟩
    ·cases hz
   ·cases hz

end
end Go.Ex

namespace Go.Ex

/-! ### ranges: what every reading keeps -/
def rngL {α:Type} (p:α→Prop) (l:List α):Prop:=∀ x∈l,p x

def rng:(t:Ty)→t.den→Prop
 | .int k,n=>inK k n
 | .bool,_=>True
 | .str,s=>List.length s≤maxLen
 | .unit,_=>True
 | .fn _,_=>True
 | .hole _,_=>True
 | .map _ k v,x=>match x with
  | none=>True
  | some l=>rngL (fun p=>rng k p.1∧rng v p.2) l
 | .box _ _ t,x=>match x with
  | none=>True
  | some y=>rng t y
 | .pair a b,x=>rng a x.1∧rng b x.2
 | .arr n t,l=>List.length l=n∧rngL (rng t) l
 | .slc _ t,l=>List.length l≤maxLen∧rngL (rng t) l

def AV.rng:AV→Prop
 | .val t x=>Ex.rng t x
 | .rptr t x=>Ex.rng t x
 | _=>True

def frRng:List (Nat×AV)→Prop
 | []=>True
 | (_,v)::l=>v.rng∧frRng l

def hpRng:List (Nat×Ent)→Prop
 | []=>True
 | (_,.var t x)::l=>Ex.rng t x∧hpRng l
 | (_,.own t x)::l=>Ex.rng t x∧hpRng l
 | (_,.bag)::l=>hpRng l

def St.rng (s:St):Prop:=frRng s.fr∧hpRng s.hp

def PK.rng:(k:PK)→k.den→Prop
 | .v t,x=>Ex.rng t x
 | .rd t,x=>Ex.rng t x
 | .clo _ ts,x=>rdRng ts x
 | .own t,x=>Ex.rng t x
 | .rw t,x=>Ex.rng t x
 | .mu t,x=>Ex.rng (.slc true t) x
 | .nilS,_=>True
 | .rcs _ _,_=>True
 | .el _,_=>True
where rdRng:(ts:List Ty)→DL ts→Prop
 | [],_=>True
 | t::ts,x=>Ex.rng t x.1∧rdRng ts x.2

def ksRng:(ks:List PK)→DK ks→Prop
 | [],_=>True
 | k::ks,x=>k.rng x.1∧ksRng ks x.2

section
variable {E:Env} {B:Base} {S S':Nat→Prop} {ι:Ix} {s:St} {a:Act} {w:World} {hp:List (Nat×Ent)} {H H':Array Go.Obj}

theorem RepL.rng {t:Ty} (hr:∀ {O:List Nat} {cs:List Value} {x:t.den},Rep H S t O cs x→Ex.rng t x):∀ {l:List t.den} {O:List Nat} {cs:List Value},RepL (Rep H S t) t.size O cs l→rngL (Ex.rng t) l
 | [],_,_,_=>by intro x hx; cases hx
 | x::l,_,_,⟨O1,O2,_,h1,h2⟩=>by
  intro y hy
  rcases List.mem_cons.1 hy with rfl|hy
  ·exact hr h1
  ·exact RepL.rng hr h2 y hy

theorem RepM.rng {t u:Ty} (hr:∀ {cs:List Value} {x:t.den},Rep H S t [] cs x→Ex.rng t x) (hr':∀ {cs:List Value} {x:u.den},Rep H S u [] cs x→Ex.rng u x):∀ {es:List MapEntry} {l:List (t.den×u.den)},RepM (Rep H S t []) (Rep H S u []) t u es l→rngL (fun p=>Ex.rng t p.1∧Ex.rng u p.2) l
 | [],l,h=>by rw [show l=[] from h]; intro x hx; cases hx
 | e::es,l,⟨x,y,l',cs,ds,e1,_,h1,_,h2,h3⟩=>by
  rw [e1]; intro p hp
  rcases List.mem_cons.1 hp with rfl|hp
  ·exact ⟨hr h1,hr' h2⟩
  ·exact RepM.rng hr hr' h3 p hp

theorem Rep.rng:∀ {t:Ty} {O:List Nat} {cs:List Value} {x:t.den},Rep H S t O cs x→Ex.rng t x:=by
 intro t
 induction t with
 | int k=>intro O cs x h; exact h.2.2
 | bool=>intro O cs x h; trivial
 | str=>intro O cs x h; exact h.2.2
 | fn f=>intro O cs x _; exact trivial
 | hole t _=>intro O cs x _; exact trivial
 | map o k v ihk ihv =>
  rintro O cs x (⟨rfl,_⟩|⟨l,b,es,ck,rfl,_,_,h4,_⟩)
  ·trivial
  ·exact RepM.rng (fun h=>ihk h) (fun h=>ihv h) h4
 | box o g t ih =>
  rintro O cs x (⟨rfl,_⟩|⟨y,b,off,O',rfl,_,_,h3,_⟩)
  ·trivial
  ·exact ih h3
 | unit=>intro O cs x h; trivial
 | pair a c iha ihc=>rintro O cs x ⟨O1,O2,_,h1,h2⟩; exact ⟨iha h1,ihc h2⟩
 | arr n t ih=>rintro O cs x ⟨h1,h2⟩; exact ⟨h1,RepL.rng (fun h=>ih h) h2⟩
 | slc o t ih =>
  rintro O cs x h
  rcases h with ⟨_,_,h3⟩|⟨b,off,cap,O',c1,c2,c3,c4,c5,c6⟩
  ·subst h3; exact ⟨Nat.zero_le _,by intro x hx; cases hx⟩
  ·exact ⟨Nat.le_trans c2 c3.1,RepL.rng (fun h=>ih h) c5⟩

theorem VX.rng {v:AV} {vs:List Value} (h:VX H S ι hp v vs):v.rng:=by
 cases v<;>try trivial
 ·obtain ⟨cs,_,h⟩:=h; exact h.rng
 ·obtain ⟨b,off,_,_,_,h⟩:=h; exact h.rng

theorem RS.rng (h:RS B S ι s a w) (h1:uniq s.fr) (h2:uniq s.hp):s.rng:=by
 have look_tail:∀ {α:Type} {n m:Nat} {x:α} {l:List (Nat×α)} {y:α},look m l=none→look n l=some y→look n ((m,x)::l)=some y:=by
  intro α n m x l y h1 h2
  simp only [look]
  cases hb:Nat.beq n m with
  | true =>
   have:=Nat.eq_of_beq_eq_true hb
   subst this
   rw [h1] at h2; cases h2
  | false=>exact h2
 have fr:∀ l:List (Nat×AV),uniq l→(∀ t v,look t l=some v→v.rng)→frRng l:=by
  intro l
  induction l with
  | nil=>intro _ _; trivial
  | cons q l ih =>
   obtain ⟨n,v⟩:=q
   rintro ⟨k0,k2⟩ k3
   have k1:=uniq_look k0
   exact ⟨k3 n v (by simp [look]),ih k2 (fun t v hv=>k3 t v (look_tail k1 hv))⟩
 have hpp:∀ l:List (Nat×Ent),uniq l→(∀ t e,look t l=some e→Ex.rng e.ty e.x)→hpRng l:=by
  intro l
  induction l with
  | nil=>intro _ _; trivial
  | cons q l ih =>
   obtain ⟨n,e⟩:=q
   rintro ⟨k0,k2⟩ k3
   have k1:=uniq_look k0
   have h0:=k3 n e (by simp [look])
   have h3:=ih k2 (fun t e he=>k3 t e (look_tail k1 he))
   cases e<;>first|exact ⟨h0,h3⟩|exact h3
 refine ⟨fr _ h1 (fun t v hv=>(h.fr t v hv).rng),hpp _ h2 (fun i e he=>?_)⟩
 have:=h.hs.ob i e he
 cases e with
 | var t x=>obtain ⟨⟨O,_,hR⟩,_⟩:=this; exact hR.rng
 | own t x=>obtain ⟨⟨O,_,hR⟩,_⟩:=this; exact hR.rng
 | bag=>trivial

/-! ### the evaluator is sound -/
def Base.of (w:World) (S:Nat→Prop) (ps:List PK) (vs:List Value) (L:List Nat) (n:Nat) (gv:Value:=undef):Base:=⟨w,S,fun b=>b∈L,n,pinsOf ps vs 0,gv⟩

def GOk (gp:Option (List Step)) (gv:Value) (H:Array Go.Obj):(ps:List PK)→List Value→DL (wts ps)→Prop
 | .rw t::_,vs,z=>(match gp,vs with
  | some p,.pointer (some ⟨b,off,none⟩)::_=>okP t z.1 p∧∃ b' off',Nav H t p b off=some (b',off')∧gv=.pointer (some ⟨b',off',none⟩)
  | _,_=>True)
 | _,_,_=>True

def Begun (P:Program) (w0:World) (S0:Nat→Prop) (L:List Nat):Prop:=GlOk P w0 S0∧∀ b,S0 b→b<w0.heap.size∧¬ b∈L

def Reach (E:Env) (fn:Func) (y:DL E.rs) (z:DL (wts E.ps)) (k:List Item) (s:St):Prop :=
 ∀ (w0:World) (S0:Nat→Prop) (vs:List Value) (x:DK E.ps) (L:List Nat) (gv:Value) (S:Nat→Prop) (ι:Ix) (a:Act) (w:World),Begun E.P w0 S0 L→KsRep w0.heap S0 E.ps vs x L →
  RS (Base.of w0 S0 E.ps vs L fn.ntmps gv) S ι s a w→At E.P fn (fun e w'=>ResOk w0 S0 E.rs E.ps vs L y z e w'∧GOk E.gp gv w'.heap E.ps vs z) k a w

structure FnOk (E:Env) (fn:Func):Prop where
 nt:fn.ntmps=E.nt
 res:fn.results.toList=E.res

theorem app_inj:∀ {a b:List Ty} {x x':DL a} {y y':DL b},DL.app x y=DL.app x' y'→x=x'∧y=y'
 | [],_,_,_,_,_,h=>⟨rfl,h⟩
 | _::_,_,x,x',_,_,h=>by
  have h1:=congrArg Prod.fst h
  have h2:=congrArg Prod.snd h
  obtain ⟨h3,h4⟩:=app_inj h2
  exact ⟨Prod.ext h1 h3,h4⟩

theorem finish_sound {fn:Func} {w0:World} {S0:Nat→Prop} {vs:List Value} {x:DK E.ps} {L:List Nat} {gv:Value} (hE:EnvB E (Base.of w0 S0 E.ps vs L fn.ntmps gv)) (hf:FnOk E fn) {y:DL E.rs} {z:DL (wts E.ps)} {L':Code→List Item→St→Prop} (ht:(finish E s).holds L' (·=DL.app y z)) (hK:KsRep w0.heap S0 E.ps vs x L)
  (h:RS (Base.of w0 S0 E.ps vs L fn.ntmps gv) S ι s a w) (hG:outA s E.ps 0=some z→GOk E.gp gv w.heap E.ps vs z) (e:Exit) (he:e=.normal∨e=.ret) :
  bodyPost E.P fn (fun e w'=>ResOk w0 S0 E.rs E.ps vs L y z e w'∧GOk E.gp gv w'.heap E.ps vs z) e a w:=by
 unfold finish at ht
 split at ht
 ·exact ht.elim
 ·rename_i l hl
  split at ht
  ·rename_i y' z' hy hz
   have ht:DL.app y' z'=DL.app y z:=ht
   obtain ⟨rfl,rfl⟩:=app_inj ht
   obtain ⟨us,h1,h2⟩:=results_run hE h hf.res hl
   obtain ⟨O,k1,k2,k3⟩:=retA_sound h.hs hy h2
   obtain ⟨Lo,m1,m2,m3⟩:=outA_sound h.hs hK (fun q hq=>hq) hz
   have hR:ResOk w0 S0 E.rs E.ps vs L y' z' (.returned (retV us)) w:=by
    refine ⟨us,O,Lo,S,rfl,⟨h.hs.os,h.hs.tape,h.hs.out,h.hs.size,fun c hc hL=>h.hs.frame c hc hL⟩,h.hs.s0,fun b hb=>?_,k1,m1,List.nodup_append.2 ⟨k2,m2,?_⟩,fun b hb=>?_⟩
    ·rcases h.hs.s1 b hb with h1|h1
     ·exact .inl h1
     ·exact .inr ⟨h1,h.hs.slt b hb⟩
    ·rintro c hc d hd rfl
     obtain ⟨i,e,i0,ip,i1,i2⟩:=k3 c hc
     obtain ⟨j,e',j0,j1,j2⟩:=m3 c hd
     refine h.hs.dj i j e e' i1 j1 ?_ c i2 j2
     rintro rfl
     have:pinned i=true:=by simp only [pinned,Nat.ble_eq]; omega
     rw [ip] at this; cases this
    ·have:∃ i e,look i s.hp=some e∧b∈blks ι i e:=by
      rcases List.mem_append.1 hb with hb|hb
      ·obtain ⟨i,e,_,_,n2,n3⟩:=k3 b hb; exact ⟨i,e,n2,n3⟩
      ·obtain ⟨i,e,_,n2,n3⟩:=m3 b hb; exact ⟨i,e,n2,n3⟩
     obtain ⟨i,e,n2,n3⟩:=this
     exact h.hs.bl i e n2 b n3
   rcases he with rfl|rfl
   ·exact ⟨h.dfr,_,h1,hR,hG hz⟩
   ·exact ⟨h.dfr,_,h1,hR,hG hz⟩
  ·exact ht.elim

theorem GOk_none {gv:Value} {H:Array Go.Obj}:∀ {ps:List PK} {vs:List Value} {z:DL (wts ps)},GOk none gv H ps vs z
 | [],_,_=>trivial
 | k::_,_,_=>by cases k<;>trivial

theorem gok {H0:Array Go.Obj} {S0:Nat→Prop} {gv:Value} {p:List Step}:∀ {ps:List PK} {vs:List Value} {x:DK ps} {L:List Nat} {z:DL (wts ps)},KsRep H0 S0 ps vs x L→outA s ps 0=some z→(∀ q∈pinsOf ps vs 0,ι.root q.1=q.2.1)→VX H S ι s.hp (.ptr 2000000 p) [gv]→GOk (some p) gv H ps vs z
 | [],_,_,_,_,_,_,_,_=>trivial
 | k::ps,vs,x,L,z,⟨v,us,L1,L2,e1,_,hk,_⟩,hz,hp,hv=>by
  cases k with
  | rw t =>
   obtain ⟨b,off,O,rfl,_,_,_⟩:=hk
   subst e1
   have hr:ι.root 2000000=(b,off):=hp (2000000,(b,off),[]) (by simp [pinsOf])
   obtain ⟨e,b',off',k1,k2,k3,k4⟩:=hv
   unfold outA at hz
   split at hz
   ·rename_i u x0 y0 ho hy
    have ho:look 2000000 s.hp=some (.var u x0):=ho
    rw [k1] at ho; cases ho
    split at hz
    ·rename_i hu
     subst hu
     cases hz
     obtain ⟨p1,_⟩:=Loc_place k3
     have p1:Nav H u p (ι.root 2000000).1 (ι.root 2000000).2=some (b',off'):=p1
     rw [hr] at p1
     exact ⟨k2,b',off',p1,by simpa using k4⟩
    ·cases hz
   ·cases hz
  | _=>trivial

theorem finishG_sound {fn:Func} {w0:World} {S0:Nat→Prop} {vs:List Value} {x:DK E.ps} {L:List Nat} {gv:Value} (hE:EnvB E (Base.of w0 S0 E.ps vs L fn.ntmps gv)) (hf:FnOk E fn) {y:DL E.rs} {z:DL (wts E.ps)} {L':Code→List Item→St→Prop} (ht:(finishG E s).holds L' (·=DL.app y z)) (hK:KsRep w0.heap S0 E.ps vs x L)
  (h:RS (Base.of w0 S0 E.ps vs L fn.ntmps gv) S ι s a w) (e:Exit) (he:e=.normal∨e=.ret) :
  bodyPost E.P fn (fun e w'=>ResOk w0 S0 E.rs E.ps vs L y z e w'∧GOk E.gp gv w'.heap E.ps vs z) e a w:=by
 unfold finishG at ht
 split at ht
 ·rename_i hgp
  exact finish_sound hE hf ht hK h (fun _=>by rw [hgp]; exact GOk_none) e he
 ·rename_i p hgp
  split at ht
  ·rename_i i q hl
   obtain ⟨⟨rfl,rfl,hnt⟩,ht⟩:=ht
   have ht:=ht ⟨rfl,rfl,hnt⟩
   refine finish_sound hE hf ht hK h (fun hz=>?_) e he
   rw [hgp]
   refine gok (S:=S) (ι:=ι) hK hz (fun q hq=>(h.hs.pin q hq).2.2.1) ?_
   have hv:=h.fr ghostSlot _ hl
   have hsz:¬ ghostSlot<a.tmps.size:=by rw [h.sz]; show ¬ ghostSlot<fn.ntmps; rw [hf.nt]; omega
   have:a.tmps.getD ghostSlot (Base.gd (Base.of w0 S0 E.ps vs L fn.ntmps gv) ghostSlot)=gv:=by
    rw [Array.getD_eq_getD_getElem?,Array.getElem?_eq_none (by omega)]
    rfl
   rw [this] at hv
   exact hv
  ·exact ht.elim

theorem holds_cond {rs:List Ty} {L:Code→List Item→St→Prop} {R:DL rs→Prop} {b:Bool} {t e:Tree rs}:(cond b t e).holds L R↔(b=true→t.holds L R)∧(b=false→e.holds L R):=by
 cases b<;>simp

theorem ks_notake:∀ {ks:List PK} {H:Array Go.Obj} {S:Nat→Prop} {vs:List Value} {x:DK ks} {L:List Nat},ks.any PK.takes=false→KsRep H S ks vs x L→L=[]
 | [],_,_,_,_,_,_,h=>h.2
 | k::ks,_,_,_,_,_,hp,⟨v,us,L1,L2,_,e,h1,h2⟩=>by
  rw [List.any_cons,Bool.or_eq_false_iff] at hp
  have e2:=ks_notake hp.2 h2
  have e1:L1=[]:=by
   cases k<;>first|(exfalso; simp [PK.takes] at hp; done)|exact h1.1|exact h1
  rw [e,e1,e2]; rfl

theorem exec_sound (hE:EnvOk E) {fn:Func} (hf:FnOk E fn) {y:DL E.rs} {z:DL (wts E.ps)}:∀ {n:Nat} {k:List Item} {s:St},(exec E n k s).holds (fun c k s=>Reach E fn y z (.code c::.inLoop c::k) s) (·=DL.app y z)→Reach E fn y z k s
 | 0,k,s,ht=>ht.elim
 | n+1,k,s,ht=>by
  intro w0 S0 vs x L gv S ι a w hS0 hK h
  have hB:EnvB E (Base.of w0 S0 E.ps vs L fn.ntmps gv):=⟨hE,hS0⟩
  unfold exec at ht
  split at ht
  ·obtain ⟨S2,ι2,h2⟩:=demCut_sound (E:=E) (l:=resSlots E.res E.rs) (fun hp b hb=>by have hb:b∈L:=hb; rw [ks_notake hp hK] at hb; cases hb) h
   exact At.done (finishG_sound hB hf ht hK h2 _ (.inl rfl))
  ·refine At.step (fun b cs=>step_inBlock) ?_
   exact exec_sound hE hf ht w0 S0 vs x L gv S ι a w hS0 hK h
  ·rename_i c k'
   refine At.step (fun b cs=>step_inLoop) ?_
   obtain ⟨S2,ι2,h2⟩:=demCut_sound (E:=E) (l:=(look (firstRegion c) E.cuts).getD []) (fun hp b hb=>by have hb:b∈L:=hb; rw [ks_notake hp hK] at hb; cases hb) h
   obtain ⟨ι',h'⟩:=h2.canon ((look (firstRegion c) E.cuts).getD [])
   exact ht w0 S0 vs x L gv S2 ι' a w hS0 hK h'
  ·rename_i c k'
   split at ht
   ·exact At.step (fun b cs=>step_skip) (exec_sound hE hf ht w0 S0 vs x L gv S ι a w hS0 hK h)
   ·exact At.step (fun b cs=>step_seq) (exec_sound hE hf ht w0 S0 vs x L gv S ι a w hS0 hK h)
   ·rename_i xc c1 c2
    split at ht
    ·rename_i g hg
     have hgv:=VX.bool_inv (evx h hg)
     refine At.step (fun b cs=>step_cond hgv) ?_
     cases g with
     | true=>exact exec_sound hE hf ht w0 S0 vs x L gv S ι a w hS0 hK h
     | false=>exact exec_sound hE hf ht w0 S0 vs x L gv S ι a w hS0 hK h
    ·exact ht.elim
   ·exact At.step (fun b cs=>step_block) (exec_sound hE hf ht w0 S0 vs x L gv S ι a w hS0 hK h)
   ·rename_i c'
    obtain ⟨S2,ι2,h2⟩:=demCut_sound (E:=E) (l:=(look (firstRegion c') E.cuts).getD []) (fun hp b hb=>by have hb:b∈L:=hb; rw [ks_notake hp hK] at hb; cases hb) h
    obtain ⟨ι',h'⟩:=h2.canon ((look (firstRegion c') E.cuts).getD [])
    exact At.step (fun b cs=>step_loop) (ht w0 S0 vs x L gv S2 ι' a w hS0 hK h')
   ·split at ht
    ·rename_i k2 hx
     exact At.step (fun b cs=>step_exit hx) (exec_sound hE hf ht w0 S0 vs x L gv S ι a w hS0 hK h)
    ·exact ht.elim
   ·obtain ⟨S2,ι2,h2⟩:=demCut_sound (E:=E) (l:=resSlots E.res E.rs) (fun hp b hb=>by have hb:b∈L:=hb; rw [ks_notake hp hK] at hb; cases hb) h
    exact At.ret (finishG_sound hB hf ht hK h2 _ (.inr rfl))
   ·rename_i id ops draw
    split at ht
    ·refine At.region (wp_region_list ?_)
     exact regF_sound hB (by exact hf.nt) (fun hp b hb=>by have hb:b∈L:=hb; rw [ks_notake hp hK] at hb; cases hb) (m:=0) (l:=ops.toList) (Q:=fun e a w=>e=.normal∧At E.P fn (fun e w'=>ResOk w0 S0 E.rs E.ps vs L y z e w'∧GOk E.gp gv w'.heap E.ps vs z) k' a w) (fun S' ι' s' a' w' h1 h2=>⟨rfl,exec_sound hE hf h2 w0 S0 vs x L gv S' ι' a' w' hS0 hK h1⟩) h ht
    ·split at ht
     ·rename_i oz hsb hsz
      have hgz:oz.guard=none:=by
       have h9:=hsb
       unfold selfB at h9
       simp only [Bool.and_eq_true] at h9
       have h9:=h9.2
       rw [hsz] at h9
       simp only [Bool.and_eq_true] at h9
       cases hq:oz.guard with
       | none=>rfl
       | some _=>rw [hq] at h9; simp at h9
      refine At.region (self_region hB (by exact hf.nt) hsb hsz (fun a' w' h3 next hq=>?_) h)
      have h8:=fun Q=>place_sound hB (by exact hf.nt) h3 (ops:=ops) oz ht (next:=next) (Q:=Q) (fun S2 ι2 s2 a2 w2 h4 h5=>hq a2 w2 ⟨rfl,exec_sound hE hf h5 w0 S0 vs x L gv S2 ι2 a2 w2 hS0 hK h4⟩)
      simp only [Region.wanted,hgz,if_true] at h8
      exact h8 _
     obtain ⟨S,ι,h⟩:=preD_sound (E:=E) (fun hp b hb=>by have hb:b∈L:=hb; rw [ks_notake hp hK] at hb; cases hb) h ops
     generalize preD E ops s=s at h ht
     split at ht
     ·rename_i hd
      split at ht
      ·obtain ⟨s',oz,p,s2,h1,hz,hzm,hl2,hp,h2⟩:=regZ_runs (acc':=[]) rfl (by simp) ht
       have hM:E.ps.any PK.takes=false→∀ b,¬ (Base.of w0 S0 E.ps vs L fn.ntmps gv).M b:=fun hp b hb=>by have hb:b∈L:=hb; rw [ks_notake hp hK] at hb; cases hb
       refine At.region (drawnZ_region hB (by exact hf.nt) hd hz hzm ?_ h1 (fun S' ι' a' w' h3 next Q' hq=>?_) h.forgetA)
       ·unfold linkA at hl2
        split at hl2
        ·rename_i r hr
         cases hl2
         unfold callL at hr
         split at hr
         ·assumption
         ·cases hr
        ·split at hl2
         ·rename_i s3 hr
          unfold sealA at hr
          split at hr
          ·assumption
          ·cases hr
         ·cases hl2
       ·exact (linkA_sound hB (by exact hf.nt) hM h3 hl2 hp).2 next Q' (fun S2 ι2 a2 w2 h4=>hq a2 w2 ⟨rfl,exec_sound hE hf h2 w0 S0 vs x L gv S2 ι2 a2 w2 hS0 hK h4⟩)
      split at ht
      ·obtain ⟨s',h1,h2⟩:=regB_runs (acc':=[]) rfl (by simp) ht
       exact At.region (drawnC_region hB (by exact hf.nt) hd h1 (fun S' ι' a' w' h3=>⟨rfl,exec_sound hE hf h2 w0 S0 vs x L gv S' ι' a' w' hS0 hK h3⟩) h.forgetA)
      rcases regD_runs (acc':=[]) rfl (by simp) ht with ⟨s',h1,h2⟩|⟨q,s',_,hA,h1,h2⟩
      ·exact At.region (drawn_region hB (by exact hf.nt) hd h1 (fun S' ι' a' w' h3=>⟨rfl,exec_sound hE hf h2 w0 S0 vs x L gv S' ι' a' w' hS0 hK h3⟩) h.forgetA)
      ·have hany:look q.d (forgetA ops.toList s).fr=some .any:=by
        obtain ⟨oa,c,a1,_,a3,_,a5,a6,_⟩:=hA
        exact forgetA_any a5 a6 a3 (by have:=Array.mem_of_getElem? a1; simpa using this)
       exact At.region (drawn_pend hB (by exact hf.nt) hd hA h1 h2 hany (fun S' ι' s2 a' w' h3 h4=>⟨rfl,exec_sound hE hf h4 w0 S0 vs x L gv S' ι' a' w' hS0 hK h3⟩) h.forgetA)
     ·split at ht
      ·rename_i hd
       obtain ⟨s',h1,h2⟩:=regN_runs (acc':=[]) rfl (by simp) ht
       exact At.region (drawnN_region hB (by exact hf.nt) hd h1 (fun S' ι' a' w' h3=>⟨rfl,exec_sound hE hf h2 w0 S0 vs x L gv S' ι' a' w' hS0 hK h3⟩) h.forgetA)
      ·exact ht.elim
   ·exact ht.elim
  ·exact ht.elim

theorem Tree.holds.mono {rs:List Ty} {L L':Code→List Item→St→Prop} {R:DL rs→Prop}:∀ {t:Tree rs},t.holds L R→(∀ c k s,L c k s→L' c k s)→t.holds L' R
 | .need _ _,h,hl=>⟨h.1,fun hp=>(h.2 hp).mono hl⟩
 | .both _ _ _,h,hl=>⟨fun hp=>(h.1 hp).mono hl,h.2.mono hl⟩
 | .cut c k s,h,hl=>hl c k s h
 | .ret _,h,_=>h
 | .stuck _,h,_=>h

theorem Reach.loop (hE:EnvOk E) {fn:Func} (hf:FnOk E fn) {y:DL E.rs} {z:DL (wts E.ps)} {c:Code} {k:List Item} {α:Type} (mk:α→St) (I:α→Prop) (μ:α→Nat) (n:Nat) (hu:∀ x,uniq (mk x).fr∧uniq (mk x).hp)
  (h:∀ x,I x→(mk x).rng→(exec E n (.code c::.inLoop c::k) (mk x)).holds (fun c' k' s'=>(c'=c∧k'=k∧∃ x',s'=mk x'∧I x'∧μ x'<μ x)∨Reach E fn y z (.code c'::.inLoop c'::k') s') (·=DL.app y z)) :
  ∀ x,I x→Reach E fn y z (.code c::.inLoop c::k) (mk x):=by
 have key:∀ m x,μ x=m→I x→Reach E fn y z (.code c::.inLoop c::k) (mk x):=by
  intro m
  induction m using Nat.strongRecOn with
  | _ m ih =>
   intro x hm hI w0 S0 vs x0 L gv S ι a w hS0 hK hrs
   have hx:=h x hI (hrs.rng (hu x).1 (hu x).2)
   refine exec_sound hE hf (hx.mono ?_) w0 S0 vs x0 L gv S ι a w hS0 hK hrs
   rintro c' k' s' (⟨rfl,rfl,x',rfl,h1,h2⟩|h1)
   ·exact ih (μ x') (hm▸h2) x' rfl h1
   ·exact h1
 exact fun x hI=>key (μ x) x rfl hI

end
end Go.Ex

namespace Go.Ex

section
variable {E:Env} {B:Base} {S S':Nat→Prop} {ι:Ix} {s:St} {a:Act} {w:World} {hp:List (Nat×Ent)} {H H':Array Go.Obj}

theorem VX.has {v:AV} {i:Nat}:∀ {vs:List Value},VX H S ι hp v vs→v.ment i=true→∃ e,look i hp=some e:=by
 induction v with
 | cons a b iha ihb =>
  rintro vs ⟨v,us,_,ha,hb⟩ hm
  simp only [AV.ment,Bool.or_eq_true] at hm
  exact hm.elim (iha ha) (ihb hb)
 | tup l ih=>rintro vs ⟨us,_,h⟩ hm; exact ih h hm
 | clo f l ih=>rintro vs ⟨us,_,h⟩ hm; exact ih h hm
 | bx l ih=>rintro vs ⟨_,_,u,_,_,_,_,h⟩ hm; exact ih h hm
 | rc f l ih=>rintro vs ⟨_,_,u,_,_,_,_,h⟩ hm; exact ih h hm
 | ptr j p=>rintro vs ⟨e,_,_,h1,_⟩ hm; have:=Nat.eq_of_beq_eq_true hm; subst this; exact ⟨e,h1⟩
 | at_ j p=>rintro vs ⟨e,_,_,_,h1,_⟩ hm; have:=Nat.eq_of_beq_eq_true hm; subst this; exact ⟨e,h1⟩
 | sub j p a b=>rintro vs ⟨e,_,h1,_⟩ hm; have:=Nat.eq_of_beq_eq_true hm; subst this; exact ⟨e,h1⟩
 | _=>intro vs _ hm; cases hm

structure Begins (B:Base) (S:Nat→Prop) (w:World) (ks:List PK) (vs:List Value) (x:DK ks) (L:List Nat) (i:Nat) (ι:Ix):Prop where
 hs:HS B S ι (argsHp ks x i) w
 fr:∀ t v,look t (argsFr ks x i)=some v→i≤t∧∃ val,vs[t - i]?=some val∧VX w.heap S ι (argsHp ks x i) v [val]
 pins:∀ q∈pinsOf ks vs i,pinned q.1=true∧(∃ e,look q.1 (argsHp ks x i)=some e)∧ι.root q.1=q.2.1∧ι.cells q.1=q.2.2
 keys:∀ k e,look k (argsHp ks x i)=some e→∃ m,i≤m∧m<1000∧(k=1500000+m∨k=2000000+m)
 own:∀ k e,look k (argsHp ks x i)=some e→∀ b∈blks ι k e,b∈L
 rest:∀ k,look k (argsHp ks x i)=none→ι.root k=(0,0)∧ι.cells k=[]

theorem begins (hB:B.pins=[]) (hw:B.w0=w) (hS0:B.S0=S) (hS:∀ b,S b→b<w.heap.size):∀ {ks:List PK} {vs:List Value} {x:DK ks} {L:List Nat} {i:Nat},KsRep w.heap S ks vs x L→L.Nodup→(∀ b∈L,¬ S b∧B.M b∧b<w.heap.size)→i+ks.length≤1000→∃ ι,Begins B S w ks vs x L i ι
 | [],vs,x,L,i,hK,_,_,_=>by
  refine ⟨⟨fun _=>(0,0),fun _=>[],fun _=>[]⟩,⟨?_,?_,?_,?_,?_,fun k _=>⟨rfl,rfl⟩⟩⟩
  ·subst hw
   subst hS0
   refine ⟨rfl,.refl _,rfl,Nat.le_refl _,fun _ _ _=>rfl,hS,fun _ h=>h,fun b hb=>.inl hb,?_,?_,?_,?_⟩
   ·intro i e hi; cases hi
   ·intro i e hi; cases hi
   ·intro i j ei ej hi; cases hi
   ·intro q hq; rw [hB] at hq; cases hq
  ·intro t v h; cases h
  ·intro q hq; simp [pinsOf] at hq
  ·intro k e h; cases h
  ·intro k e h; cases h
 | k::ks,vs,x,L,i,⟨v,us,L1,L2,e1,e2,hk,hK⟩,hn,hL,hi=>by
  subst e1 e2
  have hnL:=List.nodup_append.1 hn
  obtain ⟨ι,hb⟩:=begins (i:=i+1) hB hw hS0 hS hK hnL.2.1 (fun b hb=>hL b (by simp [hb])) (by simp only [List.length_cons] at hi; omega)
  simp only [List.length_cons] at hi
  -- a parameter that is read alone
  have plain:∀ {v0:AV},argsFr (k::ks) x i=(i,v0)::argsFr ks x.2 (i+1)→argsHp (k::ks) x i=argsHp ks x.2 (i+1)→pinsOf (k::ks) (v::us) i=pinsOf ks us (i+1)→VX w.heap S ι (argsHp ks x.2 (i+1)) v0 [v]→∃ ι,Begins B S w (k::ks) (v::us) x (L1++L2) i ι:=by
   intro v0 h1 h2 h3 h4
   refine ⟨ι,by rw [h2]; exact hb.hs,?_,by rw [h3,h2]; exact hb.pins,?_,?_,by rw [h2]; exact hb.rest⟩
   ·intro t u hu
    rw [h1] at hu
    simp only [look] at hu
    rw [h2]
    cases hbq:Nat.beq t i with
    | true =>
     rw [hbq] at hu
     have:=Nat.eq_of_beq_eq_true hbq
     subst this
     cases hu
     exact ⟨Nat.le_refl _,v,by simp,h4⟩
    | false =>
     rw [hbq] at hu
     obtain ⟨k1,val,k2,k3⟩:=hb.fr t u hu
     refine ⟨by omega,val,?_,k3⟩
     rw [show t - i=(t - (i+1))+1 from by omega]
     simpa using k2
   ·intro q e hq
    rw [h2] at hq
    obtain ⟨m,m1,m2,m3⟩:=hb.keys q e hq
    exact ⟨m,by omega,m2,m3⟩
   ·intro q e hq b hbb
    rw [h2] at hq
    exact List.mem_append_right _ (hb.own q e hq b hbb)
  -- a parameter with an object
  have obj:∀ {v0:AV} {d:Nat} {e:Ent} {ι':Ix},argsFr (k::ks) x i=(i,v0)::argsFr ks x.2 (i+1)→argsHp (k::ks) x i=Ex.put d e (argsHp ks x.2 (i+1))→(d=1500000+i∨d=2000000+i) →
    (∀ q∈pinsOf (k::ks) (v::us) i,q∈pinsOf ks us (i+1)∨(pinned q.1=true∧q.1=d∧ι'.root d=q.2.1∧ι'.cells d=q.2.2))→(∀ j,j≠d→SameAt ι ι' j)→OB w.heap S ι' d e→(∀ b∈blks ι' d e,b∈L1) →
    VX w.heap S ι' (Ex.put d e (argsHp ks x.2 (i+1))) v0 [v]→∃ ι,Begins B S w (k::ks) (v::us) x (L1++L2) i ι:=by
   intro v0 d e ι' h1 h2 hd h3 hs hob hbl h4
   have hnone:look d (argsHp ks x.2 (i+1))=none:=by
    cases hlk:look d (argsHp ks x.2 (i+1)) with
    | none=>rfl
    | some e'=>exfalso; obtain ⟨m,m1,m2,m3⟩:=hb.keys d e' hlk; omega
   have hF:Flt B S ι (argsHp ks x.2 (i+1)) w L1:=by
    refine ⟨hnL.1,fun b hbb=>?_⟩
    obtain ⟨l1,l2,l3⟩:=hL b (by simp [hbb])
    exact ⟨l1,.inr l2,l3,fun j ej hj hbj=>hnL.2.2 b hbb b (hb.own j ej hj b hbj) rfl⟩
   have hns:∀ {u:AV} {us':List Value},VX w.heap S ι (argsHp ks x.2 (i+1)) u us'→u.ment d=false:=by
    intro u us' hu
    cases hm:u.ment d with
    | false=>rfl
    | true=>obtain ⟨e',he'⟩:=hu.has hm; rw [hnone] at he'; cases he'
   refine ⟨ι',by rw [h2]; exact hb.hs.add hnone hs hob hbl hF,?_,?_,?_,?_,?_⟩
   ·intro t u hu
    rw [h1] at hu
    simp only [look] at hu
    rw [h2]
    cases hbq:Nat.beq t i with
    | true =>
     rw [hbq] at hu
     have:=Nat.eq_of_beq_eq_true hbq
     subst this
     cases hu
     exact ⟨Nat.le_refl _,v,by simp,h4⟩
    | false =>
     rw [hbq] at hu
     obtain ⟨k1,val,k2,k3⟩:=hb.fr t u hu
     refine ⟨by omega,val,?_,VX.add hs (hns k3) k3⟩
     rw [show t - i=(t - (i+1))+1 from by omega]
     simpa using k2
   ·intro q hq
    rw [h2]
    rcases h3 q hq with hq|⟨q1,q2,q3,q4⟩
    ·obtain ⟨r1,⟨e',r2⟩,r3,r4⟩:=hb.pins q hq
     have hne:q.1≠d:=by intro hqd; rw [hqd,hnone] at r2; cases r2
     obtain ⟨s1,s2,s3⟩:=hs q.1 hne
     exact ⟨r1,⟨e',by rw [look_put,if_neg hne]; exact r2⟩,s1.trans r3,s2.trans r4⟩
    ·exact ⟨q1,⟨e,by rw [look_put,if_pos q2]⟩,by rw [q2]; exact q3,by rw [q2]; exact q4⟩
   ·intro q e' hq
    rw [h2,look_put] at hq
    split at hq
    ·rename_i hqd; exact ⟨i,Nat.le_refl _,by omega,by omega⟩
    ·obtain ⟨m,m1,m2,m3⟩:=hb.keys q e' hq
     exact ⟨m,by omega,m2,m3⟩
   ·intro q e' hq b hbb
    rw [h2,look_put] at hq
    split at hq
    ·rename_i hqd; subst hqd; cases hq; exact List.mem_append_left _ (hbl b hbb)
    ·rename_i hqd
     rw [(hs q hqd).blks] at hbb
     exact List.mem_append_right _ (hb.own q e' hq b hbb)
   ·intro q hq
    rw [h2,look_put] at hq
    split at hq
    ·cases hq
    ·rename_i hqd
     obtain ⟨s1,s2,s3⟩:=hs q hqd
     obtain ⟨r1,r2⟩:=hb.rest q hq
     exact ⟨s1.trans r1,s2.trans r2⟩
  have hrest:∀ d,d=1500000+i∨d=2000000+i→ι.root d=(0,0)∧ι.cells d=[]:=by
   intro d hd
   refine hb.rest d ?_
   cases hlk:look d (argsHp ks x.2 (i+1)) with
   | none=>rfl
   | some e'=>exfalso; obtain ⟨m,m1,m2,m3⟩:=hb.keys d e' hlk; omega
  cases k with
  | v t=>obtain ⟨_,cs,e1,hR⟩:=hk; exact plain rfl rfl rfl ⟨cs,by rw [e1],hR⟩
  | nilS=>exact plain rfl rfl rfl (by rw [hk.2]; rfl)
  | rcs f n=>exact plain rfl rfl rfl ⟨_,rfl⟩
  | el q=>exact plain rfl rfl rfl ⟨_,rfl⟩
  | rd t=>obtain ⟨_,b,off,e1,k1,k2,k3⟩:=hk; exact plain rfl rfl rfl ⟨b,off,by rw [e1],k1,k2,k3⟩
  | clo f ts =>
   obtain ⟨_,ws,e1,hl⟩:=hk
   refine plain rfl rfl rfl ⟨ws,by rw [e1],?_⟩
   have:∀ {ts:List Ty} {ws:List Value} {y:DL ts},RdL w.heap S ts ws y→VX w.heap S ι (argsHp ks x.2 (i+1)) (argsFr.rdA ts y) ws:=by
    intro ts
    induction ts with
    | nil=>intro ws y h; exact h
    | cons t ts ih =>
     rintro ws y ⟨v,us,e,⟨b,off,e1,k1,k2,k3⟩,hl⟩
     exact ⟨v,us,e,⟨b,off,by rw [e1],k1,k2,k3⟩,ih hl⟩
   exact this hl
  | own t =>
   obtain ⟨cs,rfl,hR⟩:=hk
   refine obj (d:=1500000+i) (e:=.own t x.1) (ι':=ι.setO (1500000+i) cs L1) rfl rfl (.inl rfl) (fun q hq=>.inl hq) (fun j hj=>sameAt_setO hj _ _) ⟨⟨L1,by simp [Ix.setO],by simpa [Ix.setO] using hR⟩,by simpa [Ix.setO] using hnL.1⟩ ?_ (at_new hR.length)
   intro b hb; simpa [blks,Ix.setO] using hb
  | rw t =>
   obtain ⟨b,off,O,rfl,hR,hf,rfl⟩:=hk
   refine obj (d:=2000000+i) (e:=.var t x.1) (ι':=ι.setV (2000000+i) (b,off) O) rfl rfl (.inr rfl) ?_ (fun j hj=>sameAt_setV hj _ _) ⟨⟨O,by simp [Ix.setV],by simpa [Ix.setV] using hR⟩,by simpa [Ix.setV] using hf,by simpa [Ix.setV] using hnL.1⟩ ?_
    (ptr_new (s:=⟨[],argsHp ks x.2 (i+1)⟩) (r:=(b,off)) (o:=O) hf.lt)
   ·intro q hq
    simp only [pinsOf,List.mem_cons] at hq
    rcases hq with rfl|hq
    ·exact .inr ⟨by simp only [pinned,Nat.ble_eq]; omega,rfl,by simp [Ix.setV],by simpa [Ix.setV] using (hrest (2000000+i) (.inr rfl)).2⟩
    ·exact .inl hq
   ·intro c hc; simpa [blks,Ix.setV] using hc
  | mu t =>
   obtain ⟨cs,rfl,hR⟩:=hk
   have hcs:cs=[toV (.slc true t) cs]:=by
    have:=hR.length
    match cs,this with
    | [c],_=>rfl
   refine obj (d:=2000000+i) (e:=.own (.slc true t) x.1) (ι':=ι.setO (2000000+i) cs L1) rfl rfl (.inr rfl) ?_ (fun j hj=>sameAt_setO hj _ _) ⟨⟨L1,by simp [Ix.setO],by simpa [Ix.setO] using hR⟩,by simpa [Ix.setO] using hnL.1⟩ ?_ (at_new hR.length)
   ·intro q hq
    simp only [pinsOf,List.mem_cons] at hq
    rcases hq with rfl|hq
    ·exact .inr ⟨by simp only [pinned,Nat.ble_eq]; omega,rfl,by simpa [Ix.setO] using (hrest (2000000+i) (.inr rfl)).1,by simpa [Ix.setO] using hcs⟩
    ·exact .inl hq
   ·intro b hb; simpa [blks,Ix.setO] using hb

theorem ks_rng:∀ {ks:List PK} {vs:List Value} {x:DK ks} {L:List Nat},KsRep H S ks vs x L→ksRng ks x
 | [],_,_,_,_=>trivial
 | k::ks,vs,x,L,⟨v1,us,L1,L2,e,_,h1,h2⟩=>by
  refine ⟨?_,ks_rng h2⟩
  cases k with
  | v t=>obtain ⟨_,cs,e1,hR⟩:=h1; exact hR.rng
  | rd t=>obtain ⟨_,b,off,e1,k1,k2,k3⟩:=h1; exact k3.rng
  | own t=>obtain ⟨cs,e1,hR⟩:=h1; exact hR.rng
  | rw t=>obtain ⟨b,off,O,e1,hR,_⟩:=h1; exact hR.rng
  | mu t=>obtain ⟨cs,e1,hR⟩:=h1; exact hR.rng
  | nilS=>trivial
  | rcs f n=>trivial
  | el q=>trivial
  | clo f ts =>
   obtain ⟨_,ws,e1,hl⟩:=h1
   have:∀ {ts:List Ty} {ws:List Value} {y:DL ts},RdL H S ts ws y→PK.rng.rdRng ts y:=by
    intro ts
    induction ts with
    | nil=>intro ws y h; trivial
    | cons t ts ih =>
     rintro ws y ⟨v,us,e,⟨b,off,e1,k1,k2,k3⟩,hl⟩
     exact ⟨k3.rng,ih hl⟩
   exact this hl

theorem ks_len:∀ {ks:List PK} {vs:List Value} {x:DK ks} {L:List Nat},KsRep H S ks vs x L→vs.length=ks.length
 | [],_,_,_,h=>by rw [h.1]; rfl
 | k::ks,vs,x,L,⟨v1,us,L1,L2,e,_,_,h2⟩=>by rw [e]; simp [ks_len h2]

theorem argsHp_keys:∀ {ks:List PK} {x:DK ks} {i k:Nat} {e:Ent},look k (argsHp ks x i)=some e→∃ m,i≤m∧m<i+ks.length∧(k=1500000+m∨k=2000000+m)
 | [],_,_,_,_,h=>by cases h
 | k0::ks,x,i,k,e,h=>by
  have rest:look k (argsHp ks x.2 (i+1))=some e→∃ m,i≤m∧m<i+(k0::ks).length∧(k=1500000+m∨k=2000000+m):=by
   intro h
   obtain ⟨m,h1,h2,h3⟩:=argsHp_keys h
   exact ⟨m,by omega,by simp only [List.length_cons]; omega,h3⟩
  have put_:∀ {d:Nat} {e0:Ent},(d=1500000+i∨d=2000000+i)→look k (Ex.put d e0 (argsHp ks x.2 (i+1)))=some e→∃ m,i≤m∧m<i+(k0::ks).length∧(k=1500000+m∨k=2000000+m):=by
   intro d e0 hd h
   rw [look_put] at h
   split at h
   ·rename_i hk; subst hk; exact ⟨i,Nat.le_refl _,by simp only [List.length_cons]; omega,hd⟩
   ·exact rest h
  cases k0 with
  | own t=>exact put_ (.inl rfl) h
  | rw t=>exact put_ (.inr rfl) h
  | mu t=>exact put_ (.inr rfl) h
  | _=>exact rest h

def RwAt (hp:List (Nat×Ent)) (ι:Ix):(ks:List PK)→List Value→DK ks→Nat→Prop
 | [],_,_,_=>True
 | .rw t::ks,vs,x,i=>(look (2000000+i) hp=some (.var t x.1)∧∃ us,vs=.pointer (some ⟨(ι.root (2000000+i)).1,(ι.root (2000000+i)).2,none⟩)::us)∧RwAt hp ι ks (vs.drop 1) x.2 (i+1)
 | .v _::ks,vs,x,i=>RwAt hp ι ks (vs.drop 1) x.2 (i+1)
 | .rd _::ks,vs,x,i=>RwAt hp ι ks (vs.drop 1) x.2 (i+1)
 | .clo _ _::ks,vs,x,i=>RwAt hp ι ks (vs.drop 1) x.2 (i+1)
 | .own _::ks,vs,x,i=>RwAt hp ι ks (vs.drop 1) x.2 (i+1)
 | .mu _::ks,vs,x,i=>RwAt hp ι ks (vs.drop 1) x.2 (i+1)
 | .nilS::ks,vs,x,i=>RwAt hp ι ks (vs.drop 1) x.2 (i+1)
 | .rcs _ _::ks,vs,x,i=>RwAt hp ι ks (vs.drop 1) x.2 (i+1)
 | .el _::ks,vs,x,i=>RwAt hp ι ks (vs.drop 1) x.2 (i+1)

theorem rw_at:∀ {ks:List PK} {vs:List Value} {x:DK ks} {L:List Nat} {i:Nat},KsRep H S ks vs x L→i+ks.length≤1000→(∀ k e,look k (argsHp ks x i)=some e→look k hp=some e)→(∀ q∈pinsOf ks vs i,ι.root q.1=q.2.1)→RwAt hp ι ks vs x i
 | [],_,_,_,_,_,_,_,_=>trivial
 | k::ks,vs,x,L,i,⟨v,us,L1,L2,e1,_,hk,hK⟩,hi,hh,hp2=>by
  subst e1
  simp only [List.length_cons] at hi
  have sub:∀ {d:Nat} {e0:Ent},(d=1500000+i∨d=2000000+i)→(∀ k e,look k (Ex.put d e0 (argsHp ks x.2 (i+1)))=some e→look k hp=some e)→∀ k e,look k (argsHp ks x.2 (i+1))=some e→look k hp=some e:=by
   intro d e0 hd hh k e h
   refine hh k e ?_
   rw [look_put,if_neg]
   ·exact h
   ·rintro rfl
    obtain ⟨m,h1,h2,h3⟩:=argsHp_keys h
    omega
  cases k with
  | rw t =>
   obtain ⟨b,off,O,rfl,_,_,_⟩:=hk
   have hr:ι.root (2000000+i)=(b,off):=hp2 (2000000+i,(b,off),[]) (by simp [pinsOf])
   refine ⟨⟨hh _ _ (by simp only [argsHp]; rw [look_put,if_pos rfl]),us,by rw [hr]⟩,rw_at hK (by omega) (sub (.inr rfl) hh) (fun q hq=>hp2 q (by simp only [pinsOf]; exact List.mem_cons_of_mem _ hq))⟩
  | own t=>exact rw_at (ks:=ks) hK (by omega) (sub (.inl rfl) hh) (fun q hq=>hp2 q hq)
  | mu t=>exact rw_at (ks:=ks) hK (by omega) (sub (.inr rfl) hh) (fun q hq=>hp2 q (by simp only [pinsOf]; exact List.mem_cons_of_mem _ hq))
  | v t=>exact rw_at (ks:=ks) hK (by omega) hh (fun q hq=>hp2 q hq)
  | rd t=>exact rw_at (ks:=ks) hK (by omega) hh (fun q hq=>hp2 q hq)
  | clo f ts=>exact rw_at (ks:=ks) hK (by omega) hh (fun q hq=>hp2 q hq)
  | nilS=>exact rw_at (ks:=ks) hK (by omega) hh (fun q hq=>hp2 q hq)
  | rcs f n=>exact rw_at (ks:=ks) hK (by omega) hh (fun q hq=>hp2 q hq)
  | el q=>exact rw_at (ks:=ks) hK (by omega) hh (fun q hq=>hp2 q hq)

theorem frAVs_rep {fr:List (Nat×AV)}:∀ {n j:Nat} {us:List Value},us.length=n→(∀ t val v,us[t]?=some val→look (j+t) fr=some v→VX H S ι hp v [val])→VX H S ι hp (frAVs fr j n) us
 | 0,j,us,hl,_=>by
  obtain rfl:=List.length_eq_zero_iff.1 hl
  rfl
 | n+1,j,u::us,hl,h=>by
  refine ⟨u,us,rfl,?_,frAVs_rep (by simpa using hl) (fun t val v ht hv=>h (t+1) val v (by simpa using ht) (by rw [← hv]; congr 1; omega))⟩
  cases hlk:look j fr with
  | none=>exact ⟨_,rfl⟩
  | some v=>exact h 0 u v rfl hlk

theorem link_fr:∀ {ks:List PK} {x:DK ks} {i:Nat} {fr:List (Nat×AV)} {pre vs:List Value} {cc:Option (Sigma Ty.den)},(∀ t v,look t fr=some v→∃ val,(pre.reverse++vs)[t]?=some val∧VX H S ι hp v [val])→i=pre.length →
  KLink H S ks cc pre vs x→vs.length=ks.length→RwAt hp ι ks vs x i→(∀ r,cc=some r→∃ pre',pre=.pointer (some ⟨(ι.root (2000000+(i - 1))).1,(ι.root (2000000+(i - 1))).2,none⟩)::pre'∧look (2000000+(i - 1)) hp=some (.var r.1 r.2)) →
  ∀ t v,look t (linkFr ks x i fr)=some v→∃ val,(pre.reverse++vs)[t]?=some val∧VX H S ι hp v [val]
 | [],_,_,_,_,_,_,h,_,_,_,_,_=>h
 | k::ks,x,i,fr,pre,vs,cc,h,hi,hk,hl,hr,hc=>by
  cases vs with
  | nil=>cases hl
  | cons v vs =>
   have hl:vs.length=ks.length:=by simpa using hl
   have happ:pre.reverse++v::vs=(v::pre).reverse++vs:=by simp
   have next:∀ {fr':List (Nat×AV)} {cc':Option (Sigma Ty.den)},(∀ t v',look t fr'=some v'→∃ val,(pre.reverse++v::vs)[t]?=some val∧VX H S ι hp v' [val])→KLink H S ks cc' (v::pre) vs x.2→RwAt hp ι ks vs x.2 (i+1) →
     (∀ r,cc'=some r→v=.pointer (some ⟨(ι.root (2000000+i)).1,(ι.root (2000000+i)).2,none⟩)∧look (2000000+i) hp=some (.var r.1 r.2))→∀ t v',look t (linkFr ks x.2 (i+1) fr')=some v'→∃ val,(pre.reverse++v::vs)[t]?=some val∧VX H S ι hp v' [val]:=by
    intro fr' cc' h1 h2 h3 h4
    rw [happ] at h1 ⊢
    refine link_fr h1 (by simp [hi]) h2 hl h3 (fun r hr=>?_)
    rw [Nat.add_sub_cancel]
    obtain ⟨q1,q2⟩:=h4 r hr
    exact ⟨pre,by rw [q1],q2⟩
   have hat:(pre.reverse++v::vs)[i]?=some v:=by
    rw [List.getElem?_append_right (by simp [hi])]
    simp [hi]
   cases k with
   | v t=>exact next h hk hr (fun r hr=>by cases hr)
   | rd t=>exact next h hk hr (fun r hr=>by cases hr)
   | clo f ts=>exact next h hk hr (fun r hr=>by cases hr)
   | own t=>exact next h hk hr (fun r hr=>by cases hr)
   | mu t=>exact next h hk hr (fun r hr=>by cases hr)
   | nilS=>exact next h hk hr (fun r hr=>by cases hr)
   | rw t =>
    obtain ⟨⟨h1,us,h2⟩,hr⟩:=hr
    exact next h hk hr (fun r hr=>by cases hr; exact ⟨(List.cons.inj h2).1,h1⟩)
   | rcs f n =>
    obtain ⟨⟨us,b,off,e1,h1,h2,h3,h4⟩,hk⟩:=hk
    obtain ⟨rfl,rfl⟩:=List.cons.inj e1
    refine next (fun t v' ht=>?_) hk hr (fun r hr=>by cases hr)
    rw [look_put] at ht
    split at ht
    ·rename_i e; subst e; cases ht
     refine ⟨_,hat,_,_,_,rfl,h1,h2,h3,_,rfl,b,off,(pre.take n).reverse,rfl,h1,h2,h3,?_⟩
     refine frAVs_rep (by simp; omega) (fun t val v' ht hv=>?_)
     obtain ⟨val',g1,g2⟩:=h _ _ hv
     have htn:t<n:=by
      have:=(List.getElem?_eq_some_iff.1 ht).1
      simp at this; omega
     have:val'=val:=by
      rw [List.reverse_take,List.getElem?_drop] at ht
      rw [List.getElem?_append_left (by simp; omega)] at g1
      subst hi
      rw [g1] at ht; cases ht; rfl
     rw [this] at g2; exact g2
    ·exact h t v' ht
   | el q =>
    obtain ⟨⟨t,y,b0,off0,pre',b,off,us,e0,e1,e2,h1,h2,h3⟩,hk⟩:=hk
    obtain ⟨rfl,rfl⟩:=List.cons.inj e2
    obtain ⟨pre2,g1,g2⟩:=hc _ e0
    rw [e1] at g1
    simp only [List.cons.injEq,Value.pointer.injEq,Option.some.injEq,Addr.mk.injEq,and_true] at g1
    obtain ⟨⟨rfl,rfl⟩,rfl⟩:=g1
    refine next (fun t' v' ht=>?_) hk hr (fun r hr=>by cases hr)
    rw [look_put] at ht
    split at ht
    ·rename_i e; subst e; cases ht
     exact ⟨_,hat,_,b,off,g2,h1,Loc_of h2 h3,rfl⟩
    ·exact h t' v' ht

theorem starts {E:Env} {fn:Func} {w:World} {vs:List Value} {x:DK E.ps} {L:List Nat}
  (hlen:E.ps.length≤fn.ntmps∧E.ps.length≤1000) (hS:∀ b,S b→b<w.heap.size) (hK:KsRep w.heap S E.ps vs x L) (hKl:KLink w.heap S E.ps none [] vs x) (hLn:L.Nodup) (hLb:∀ b∈L,¬ S b∧b<w.heap.size) :
  ∃ ι,∀ gv,RS (Base.of w S E.ps vs L fn.ntmps gv) S ι (initSt E.ps x) { tmps:=vs.toArray++Array.replicate (fn.ntmps - vs.toArray.size) undef,defers:=[] } w:=by
 obtain ⟨ι,hbg⟩:=begins (B:=⟨w,S,fun b=>b∈L,fn.ntmps,[],undef⟩) (i:=0) rfl rfl rfl hS hK hLn (fun b hb=>⟨(hLb b hb).1,hb,(hLb b hb).2⟩) (by show 0+E.ps.length≤1000; omega)
 refine ⟨ι,fun gv=>?_⟩
 have hl:vs.length=E.ps.length:=ks_len hK
 have hs:=hbg.hs
 refine ⟨⟨hs.os,hs.tape,hs.out,hs.size,hs.frame,hs.slt,hs.s0,hs.s1,hs.ob,hs.bl,hs.dj,fun q hq=>hbg.pins q hq⟩,rfl,?_,?_⟩
 ·simp only [Array.size_append,List.size_toArray,Array.size_replicate,Base.of]
  omega
 ·intro t v hv
  obtain ⟨val,k2,k3⟩:=link_fr (pre:=[]) (vs:=vs) (i:=0) (fun t v ht=>by
   obtain ⟨_,val,k2,k3⟩:=hbg.fr t v ht
   exact ⟨val,by simpa using k2,k3⟩) rfl hKl hl (rw_at hK (by show 0+E.ps.length≤1000; omega) (fun _ _ h=>h) (fun q hq=>(hbg.pins q hq).2.2.1)) (fun r hr=>by cases hr) t v hv
  simp only [List.reverse_nil,List.nil_append] at k2
  have:(vs.toArray++Array.replicate (fn.ntmps - vs.toArray.size) undef).getD t (Base.gd (Base.of w S E.ps vs L fn.ntmps gv) t)=val:=by
   have hlt:=(List.getElem?_eq_some_iff.1 k2).1
   simp only [Array.getD_eq_getD_getElem?]
   rw [Array.getElem?_append_left (by simpa using hlt)]
   simp [k2]
  rw [this]
  exact k3

theorem Ctr.valid_of (_hE:EnvOk E) {f:FuncId} {fn:Func} {c:Code} {rs:List Ty} {ps:List PK} {pre:DK ps→Prop} {fn':DK ps→DL rs} {out:DK ps→DL (wts ps)} (hrs:E.rs=rs) (hps:E.ps=ps) (hf:E.P.funcs[f]?=some fn) (hb:fn.body=some c) (hname:(fn.name == "runtime.NumGoroutine")=false) (_hF:FnOk E fn)
  (hlen:(Nat.ble ps.length fn.ntmps && Nat.ble ps.length 1000)=true)
  (h:∀ x:DK ps,pre x→ksRng ps x→Reach E fn (hrs▸fn' x) (hps▸out x) [.code c] (initSt ps x)):(Ctr.mk ps rs pre fn' out false).Valid E.P f:=by
 subst hrs
 subst hps
 simp only [Bool.and_eq_true,Nat.ble_eq] at hlen
 refine ⟨⟨fn,hf,hname,by rw [hb]; rfl⟩,?_,fun h=>by cases h⟩
 intro w S vs x L hS hgl hpre hK hKl hLn hLb
 refine Calls.mono (R:=fun e w'=>ResOk w S E.rs E.ps vs L (fn' x) (out x) e w'∧GOk E.gp undef w'.heap E.ps vs (out x)) ?_ (fun _ _ h=>h.1)
 refine calls_of_at hf hb ?_
 obtain ⟨ι,hst⟩:=starts hlen hS hK hKl hLn hLb
 exact h x hpre (ks_rng hK) w S vs x L undef S ι _ w ⟨hgl,fun b hb=>⟨hS b hb,fun hl=>(hLb b hl).1 hb⟩⟩ hK (hst undef)

def ghostSt (p:List Step) (s:St):St:={ s with fr:=Ex.put ghostSlot (.ptr 2000000 p) s.fr }

end
end Go.Ex

namespace Go.Ex

/-! ### results that are handed out as shared -/
def shares:List Ty→List Ty→Bool
 | [],[]=>true
 | t::ts,t'::ts'=>(decide (t'=t) || (decide (t'=t.sh) && t.noH)) && shares ts ts'
 | _,_=>false

theorem share_den {t t':Ty} (h:(decide (t'=t) || (decide (t'=t.sh) && t.noH))=true):t.den=t'.den:=by
 simp only [Bool.or_eq_true,Bool.and_eq_true,decide_eq_true_eq] at h
 rcases h with rfl|⟨rfl,_⟩
 ·rfl
 ·exact (den_sh t).symm

def shareD:(rs rs':List Ty)→shares rs rs'=true→DL rs→DL rs'
 | [],[],_,_=>()
 | t::ts,t'::ts',h,x=>(cast (share_den (by simp only [shares,Bool.and_eq_true] at h; exact h.1)) x.1,shareD ts ts' (by simp only [shares,Bool.and_eq_true] at h; exact h.2) x.2)
 | [],_::_,h,_=>by simp [shares] at h
 | _::_,[],h,_=>by simp [shares] at h

theorem res_share {H:Array Go.Obj} {S:Nat→Prop}:∀ {ts rs':List Ty} (h:shares ts rs'=true) {O:List Nat} {us:List Value} {x:DL ts},ResRep H S ts O us x →
  ∃ O1 O2,O.Perm (O1++O2)∧∀ T:Nat→Prop,(∀ b,S b→T b)→(∀ b∈O2,T b)→ResRep H T rs' O1 us (shareD ts rs' h x)
 | [],[],_,O,us,x,hR=>⟨[],[],by rw [hR.1]; exact List.Perm.refl _,fun T _ _=>⟨rfl,hR.2⟩⟩
 | [],_::_,h,_,_,_,_=>by simp [shares] at h
 | _::_,[],h,_,_,_,_=>by simp [shares] at h
 | t::ts,t'::ts',h,O,us,x,⟨v,us',P1,P2,cs,e1,e2,e3,h1,h2⟩=>by
  have hh:=h
  simp only [shares,Bool.and_eq_true] at hh
  obtain ⟨O1,O2,p,k⟩:=res_share hh.2 h2
  have hd:=hh.1
  simp only [Bool.or_eq_true,Bool.and_eq_true,decide_eq_true_eq] at hd
  subst e2
  rcases hd with rfl|⟨rfl,hnh⟩
  ·refine ⟨P1++O1,O2,by rw [List.append_assoc]; exact p.append_left P1,fun T hS hT=>⟨v,us',P1,O1,cs,e1,rfl,e3,?_,k T hS hT⟩⟩
   exact h1.stable (fun _ _=>rfl) hS
  ·refine ⟨O1,P1++O2,?_,fun T hS hT=>⟨v,us',[],O1,cs,e1,rfl,by rw [e3]; exact (toV_er (by rw [Ty.sh_sh]) cs).symm,?_,k T hS (fun b hb=>hT b (by simp [hb]))⟩⟩
   ·refine (p.append_left P1).trans ?_
    rw [← List.append_assoc,← List.append_assoc]
    exact List.perm_append_comm.append_right O2
   ·exact h1.toSh (fun b hb=>hT b (by simp [hb])) hS hnh

theorem reads_wts {ps:List PK} (h:ps.all PK.reads=true):wts ps=[]:=by
 induction ps with
 | nil=>rfl
 | cons k ps ih =>
  simp only [List.all_cons,Bool.and_eq_true] at h
  have:=ih h.2
  cases k<;>first|exact this|(exfalso; simp [PK.reads] at h; done)

theorem reads_L {H:Array Go.Obj} {S:Nat→Prop}:∀ {ps:List PK},ps.all PK.reads=true→∀ {vs:List Value} {x:DK ps} {L:List Nat},KsRep H S ps vs x L→L=[]
 | [],_,_,_,_,h=>h.2
 | k::ps,h,vs,x,L,⟨v,us,L1,L2,e1,e2,h1,h2⟩=>by
  simp only [List.all_cons,Bool.and_eq_true] at h
  have hL2:=reads_L h.2 h2
  have hL1:L1=[]:=by
   cases k<;>first|exact h1.1|(exfalso; simp [PK.reads] at h; done)
  rw [e2,hL1,hL2]; rfl

theorem Ctr.Valid.share {P:Program} {f:FuncId} {c:Ctr} (h:c.Valid P f) (hps:c.ps.all PK.reads=true) (hno:c.rs.all Ty.noSh=true) {rs':List Ty} (hrs:shares c.rs rs'=true) :
  (Ctr.mk c.ps rs' c.pre (fun x=>shareD c.rs rs' hrs (c.fn x)) c.out true).Valid P f:=by
 have core:∀ (w:World) (S:Nat→Prop) (vs:List Value) (x:DK c.ps) (L:List Nat),(∀ b,S b→b<w.heap.size)→GlOk P w S→c.pre x→KsRep w.heap S c.ps vs x L→KLink w.heap S c.ps none [] vs x→L.Nodup→(∀ b∈L,¬ S b∧b<w.heap.size) →
   Calls P f vs.toArray w (fun e w'=>∃ us O Lo S',e=.returned (retV us)∧Past L w w'∧(∀ b,S b→S' b)∧(∀ b,S' b→S b∨(w.heap.size≤b∧b<w'.heap.size)) ∧
    ResRep w'.heap S' rs' O us (shareD c.rs rs' hrs (c.fn x))∧OutRep w'.heap S' c.ps vs (c.out x) Lo∧(O++Lo).Nodup∧(∀ b∈O++Lo,¬ S' b∧(w.heap.size≤b∨b∈L)∧b<w'.heap.size) ∧
    ResRep w'.heap (fun b=>S' b∧w.heap.size≤b) rs' O us (shareD c.rs rs' hrs (c.fn x))):=by
  intro w S vs x L hS hgl hpre hK hKl hLn hLb
  refine (h.run w S vs x L hS hgl hpre hK hKl hLn hLb).mono (fun e w' hr=>?_)
  obtain ⟨us,O,Lo,S',e1,hp,s1,s2,h1,h2,hnd,hb⟩:=hr
  have hL:=reads_L hps hK
  have hLo:Lo=[]:=out_none (reads_wts hps) h2
  subst hL
  subst hLo
  rw [List.append_nil] at hnd hb
  obtain ⟨O1,O2,p,k⟩:=res_share hrs (h1.noSh (S':=fun _=>False) hno)
  have hnd':=p.nodup_iff.1 hnd
  have hnewb:∀ b∈O2,¬ S' b∧w.heap.size≤b∧b<w'.heap.size:=fun b hb'=>by
   obtain ⟨q0,q1,q2⟩:=hb b (p.mem_iff.2 (List.mem_append_right _ hb'))
   rcases q1 with q1|q1
   ·exact ⟨q0,q1,q2⟩
   ·cases q1
  refine ⟨us,O1,[],fun b=>S' b∨b∈O2,e1,hp,fun b hb=>.inl (s1 b hb),?_,k _ (fun b hb=>hb.elim) (fun b hb=>.inr hb),?_,by rw [List.append_nil]; exact (List.nodup_append.1 hnd').1,?_,k _ (fun b hb=>hb.elim) (fun b hb=>⟨.inr hb,(hnewb b hb).2.1⟩)⟩
  ·rintro b (hb'|hb')
   ·exact s2 b hb'
   ·exact .inr (hnewb b hb').2
  ·have hno:∀ {ks:List PK} {us:List Value} {y:DL (wts ks)} {T:Nat→Prop},ks.all PK.reads=true→OutRep w'.heap S' ks us y []→OutRep w'.heap T ks us y []:=by
    intro ks
    induction ks with
    | nil=>intro us y T _ h; exact h
    | cons k ks ih =>
     intro us y T hk h
     simp only [List.all_cons,Bool.and_eq_true] at hk
     cases k<;>first
      | (obtain ⟨v,us',e,h⟩:=h; exact ⟨v,us',e,ih hk.2 h⟩)
      | (exfalso; simp [PK.reads] at hk; done)
   exact hno hps h2
  ·intro b hb1
   rw [List.append_nil] at hb1
   obtain ⟨q0,q1,q2⟩:=hb b (p.mem_iff.2 (List.mem_append_left _ hb1))
   refine ⟨?_,q1,q2⟩
   rintro (h9|h9)
   ·exact q0 h9
   ·exact (List.nodup_append.1 hnd').2.2 b hb1 b h9 rfl
 refine ⟨h.ent,fun w S vs x L hS hgl hpre hK hKl hLn hLb=>(core w S vs x L hS hgl hpre hK hKl hLn hLb).mono (fun e w' ⟨us,O,Lo,S',a1,a2,a3,a4,a5,a6,a7,a8,_⟩=>⟨us,O,Lo,S',a1,a2,a3,a4,a5,a6,a7,a8⟩),fun _=>core⟩

end Go.Ex

namespace Go.Ex

def CtrsOk (P:Program):List (FuncId×Ctr)→Prop
 | []=>True
 | (f,c)::l=>c.Valid P f∧CtrsOk P l

theorem CtrsOk.look {P:Program}:∀ {l:List (FuncId×Ctr)} {f:FuncId} {c:Ctr},CtrsOk P l→Ex.look f l=some c→c.Valid P f
 | [],_,_,_,h=>by cases h
 | (g,d)::l,f,c,h,hl=>by
  simp only [Ex.look] at hl
  cases hb:Nat.beq f g with
  | true =>
   rw [hb] at hl
   have:=Nat.eq_of_beq_eq_true hb
   subst this; cases hl; exact h.1
  | false=>rw [hb] at hl; exact CtrsOk.look h.2 hl

theorem tt_look {P:Program}:∀ {l:List (TypeId×TI)} {T:TypeId} {i:TI},l.all (tiOk P)=true→Ex.look T l=some i→tiOk P (T,i)=true
 | [],_,_,_,h=>by cases h
 | (g,d)::l,T,i,h,hl=>by
  simp only [List.all_cons,Bool.and_eq_true] at h
  simp only [Ex.look] at hl
  cases hb:Nat.beq T g with
  | true =>
   rw [hb] at hl
   have:=Nat.eq_of_beq_eq_true hb
   subst this; cases hl; exact h.1
  | false=>rw [hb] at hl; exact tt_look h.2 hl

def KeepsOk (P:Program) (ctr:List (FuncId×Ctr)):List (FuncId×List (Option Nat))→Prop
 | []=>True
 | (f,pat)::l=>(∀ c,Ex.look f ctr=some c→c.Kept P f pat)∧KeepsOk P ctr l

theorem KeepsOk.look {P:Program} {ctr:List (FuncId×Ctr)}:∀ {l:List (FuncId×List (Option Nat))} {f:FuncId} {pat:List (Option Nat)},KeepsOk P ctr l→Ex.look f l=some pat→∀ c,Ex.look f ctr=some c→c.Kept P f pat
 | [],_,_,_,h=>by cases h
 | (g,d)::l,f,pat,h,hl=>by
  simp only [Ex.look] at hl
  cases hb:Nat.beq f g with
  | true =>
   rw [hb] at hl
   have:=Nat.eq_of_beq_eq_true hb
   subst this; cases hl; exact h.1
  | false=>rw [hb] at hl; exact KeepsOk.look h.2 hl

theorem envOk {E:Env} (ht:E.tt.all (tiOk E.P)=true) (hc:CtrsOk E.P E.ctr) (hk:KeepsOk E.P E.ctr E.keeps:=by trivial):EnvOk E :=
 ⟨fun _ _ h=>tt_look ht h,fun _ _ h=>hc.look h,fun _ c _ h1 h2=>hk.look h2 c h1⟩

theorem holds_of_eq {rs:List Ty} {L:Code→List Item→St→Prop} {R:DL rs→Prop} {t t':Tree rs} (h:t=t') (h':t'.holds L R):t.holds L R:=h▸h'

theorem Reach.loopI {E:Env} (hE:EnvOk E) {fn:Func} (hf:FnOk E fn) {y:DL E.rs} {z:DL (wts E.ps)} {c:Code} {k:List Item} {α:Type} (mk:α→St) (I:α→Prop) (μ:α→Nat) (n:Nat) (hu:∀ x,uniq (mk x).fr∧uniq (mk x).hp)
  (h:∀ x,I x→(mk x).rng→(∀ x',I x'→μ x'<μ x→Reach E fn y z (.code c::.inLoop c::k) (mk x')) →
   (exec E n (.code c::.inLoop c::k) (mk x)).holds (fun c' k' s'=>Reach E fn y z (.code c'::.inLoop c'::k') s') (·=DL.app y z)) :
  ∀ x,I x→Reach E fn y z (.code c::.inLoop c::k) (mk x):=by
 have key:∀ m x,μ x=m→I x→Reach E fn y z (.code c::.inLoop c::k) (mk x):=by
  intro m
  induction m using Nat.strongRecOn with
  | _ m ih =>
   intro x hm hI w0 S0 vs x0 L gv S ι a w hS0 hK hrs
   have hx:=h x hI (hrs.rng (hu x).1 (hu x).2) (fun x' h1 h2=>ih (μ x') (hm▸h2) x' rfl h1)
   exact exec_sound hE hf hx w0 S0 vs x0 L gv S ι a w hS0 hK hrs
 exact fun x hI=>key (μ x) x rfl hI

def bodyOf (P:Program) (f:Nat):Code:=((P.funcs[f]?).bind (·.body)).getD .skip

def tyOf (P:Program):Nat→TypeId→Option Ty
 | 0,_=>none
 | n+1,T =>
  match P.underlying T with
  | some .bool=>some .bool
  | some (.int k)=>some (.int k)
  | some .string=>some .str
  | some (.struct fs)=>fs.toList.foldr (fun f r=>match tyOf P n f.type,r with|some a,some b=>some (.pair a b)|_,_=>none) (some .unit)
  | some (.array m e)=>(tyOf P n e).map (.arr m)
  | some (.slice e)=>(tyOf P n e).map (.slc true)
  | some (.map K V)=>match tyOf P n K,tyOf P n V with
   | some k,some v=>(match k.shared && v.shared with|true=>some (.map true k v)|false=>none)
   | _,_=>none
  | _=>none

end Go.Ex
