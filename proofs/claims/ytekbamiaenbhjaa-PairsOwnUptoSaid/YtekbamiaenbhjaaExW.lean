import Derived.Test.YtekbamiaenbhjaaExK8
import Derived.WalkKit
import Derived.ProofKit
import Derived.OpenShut
import Derived.JoinedCond

namespace Go.Ex

/-! ### ranges: what every reading keeps -/
def a8M {α:Type} (p:α→Prop) (l:List α):Prop:=∀ x∈l,p x

def C0:(t:Ty)→t.den→Prop
 | .int k,n=>B2 k n
 | .bool,_=>True
 | .str,s=>List.length s≤maxLen
 | .unit,_=>True
 | .fn _,_=>True
 | .hole _,_=>True
 | .s7 t,x=>List.length x.2.1≤maxLen∧a8M (C0 t) x.2.1
 | .map _ k v,x=>match x with
  | none=>True
  | some l=>a8M (fun p=>C0 k p.1∧C0 v p.2) l
 | .box _ _ t,x=>match x with
  | none=>True
  | some y=>C0 t y
 | .pair a b,x=>C0 a x.1∧C0 b x.2
 | .arr n t,l=>List.length l=n∧a8M (C0 t) l
 | .d0 _ t,l=>List.length l≤maxLen∧a8M (C0 t) l

def AV.C0:AV→Prop
 | .val t x=>Ex.C0 t x
 | .G9 t x=>Ex.C0 t x
 | _=>True

def b5B:List (Nat×AV)→Prop
 | []=>True
 | (_,v)::l=>v.C0∧b5B l

def a78:List (Nat×f7)→Prop
 | []=>True
 | (_,.var t x)::l=>Ex.C0 t x∧a78 l
 | (_,.own t x)::l=>Ex.C0 t x∧a78 l
 | (_,.G4)::l=>a78 l

def St.C0 (s:St):Prop:=b5B s.fr∧a78 s.hp

def PK.C0:(k:PK)→k.den→Prop
 | .v t,x=>Ex.C0 t x
 | .rd t,x=>Ex.C0 t x
 | .u6 _ ts,x=>b4Z ts x
 | .own t,x=>Ex.C0 t x
 | .rw t,x=>Ex.C0 t x
 | .mu t,x=>Ex.C0 (.d0 true t) x
 | .R6,_=>True
 | .T8 _ _,_=>True
 | .el _,_=>True
where b4Z:(ts:List Ty)→DL ts→Prop
 | [],_=>True
 | t::ts,x=>Ex.C0 t x.1∧b4Z ts x.2

def b5z:(ks:List PK)→DK ks→Prop
 | [],_=>True
 | k::ks,x=>k.C0 x.1∧b5z ks x.2

section
variable {E:Env} {B:B7} {S S':Nat→Prop} {ι:Ix} {s:St} {a:Act} {w:World} {hp:List (Nat×f7)} {H H':Array Go.Obj}

theorem i6.C0 {t:Ty} (hr:∀ {O:List Nat} {cs:List Value} {x:t.den},f8 H S t O cs x→Ex.C0 t x):∀ {l:List t.den} {O:List Nat} {cs:List Value},i6 (f8 H S t) t.size O cs l→a8M (Ex.C0 t) l
 | [],_,_,_=>by intro x hx; cases hx
 | x::l,_,_,⟨O1,O2,_,h1,h2⟩=>by
  intro y hy
  rcases List.mem_cons.1 hy with rfl|hy
  ·exact hr h1
  ·exact i6.C0 hr h2 y hy

theorem M4.C0 {t u:Ty} (hr:∀ {cs:List Value} {x:t.den},f8 H S t [] cs x→Ex.C0 t x) (hr':∀ {cs:List Value} {x:u.den},f8 H S u [] cs x→Ex.C0 u x):∀ {es:List MapEntry} {l:List (t.den×u.den)},M4 (f8 H S t []) (f8 H S u []) t u es l→a8M (fun p=>Ex.C0 t p.1∧Ex.C0 u p.2) l
 | [],l,h=>by rw [show l=[] from h]; intro x hx; cases hx
 | e::es,l,⟨x,y,l',cs,ds,e1,_,h1,_,h2,h3⟩=>by
  rw [e1]; intro p hp
  rcases List.mem_cons.1 hp with rfl|hp
  ·exact ⟨hr h1,hr' h2⟩
  ·exact M4.C0 hr hr' h3 p hp

theorem f8.C0:∀ {t:Ty} {O:List Nat} {cs:List Value} {x:t.den},f8 H S t O cs x→Ex.C0 t x:=by
 intro t
 induction t with
 | int k=>intro O cs x h; exact h.2.2
 | bool=>intro O cs x h; trivial
 | str=>intro O cs x h; exact h.2.2
 | fn f=>intro O cs x _; exact trivial
 | hole t _=>intro O cs x _; exact trivial
 | s7 t ih =>
  rintro O cs ⟨n,l,m⟩ h
  match n,h with
  | 0,h =>
   rcases h with ⟨_,_,h3⟩|⟨b,off,cap,O',c1,c2,c3,c4,c5,c6⟩
   ·subst h3; exact ⟨Nat.zero_le _,by intro x hx; cases hx⟩
   ·exact ⟨Nat.le_trans c2 c3.1,i6.C0 (fun h=>ih h) c5⟩
  | 1,h =>
   rcases h with ⟨_,_,h3⟩|⟨b,off,cap,O',c1,c2,c3,c4,c5,c6⟩
   ·subst h3; exact ⟨Nat.zero_le _,by intro x hx; cases hx⟩
   ·exact ⟨Nat.le_trans c2 c3.1,i6.C0 (fun h=>ih h) c5⟩
  | n+2,⟨b,off,O',c1,c2,c3,c4,c5⟩ =>
   have hr:=i6.C0 (fun h=>ih h) c4
   exact ⟨by have:=c2.1; show List.length l≤maxLen; omega,fun x hx=>hr x (List.mem_append.2 (.inl hx))⟩
 | map o k v ihk ihv =>
  rintro O cs x (⟨rfl,_⟩|⟨l,b,es,ck,rfl,_,_,h4,_⟩)
  ·trivial
  ·exact M4.C0 (fun h=>ihk h) (fun h=>ihv h) h4
 | box o g t ih =>
  rintro O cs x (⟨rfl,_⟩|⟨y,b,off,O',rfl,_,_,h3,_⟩)
  ·trivial
  ·exact ih h3
 | unit=>intro O cs x h; trivial
 | pair a c iha ihc=>rintro O cs x ⟨O1,O2,_,h1,h2⟩; exact ⟨iha h1,ihc h2⟩
 | arr n t ih=>rintro O cs x ⟨h1,h2⟩; exact ⟨h1,i6.C0 (fun h=>ih h) h2⟩
 | d0 o t ih =>
  rintro O cs x h
  rcases h with ⟨_,_,h3⟩|⟨b,off,cap,O',c1,c2,c3,c4,c5,c6⟩
  ·subst h3; exact ⟨Nat.zero_le _,by intro x hx; cases hx⟩
  ·exact ⟨Nat.le_trans c2 c3.1,i6.C0 (fun h=>ih h) c5⟩

theorem VX.C0 {v:AV} {vs:List Value} (h:VX H S ι hp v vs):v.C0:=by
 cases v<;>try trivial
 ·obtain ⟨cs,_,h⟩:=h; exact h.C0
 ·obtain ⟨b,off,_,_,_,h⟩:=h; exact h.C0

theorem RS.C0 (h:RS B S ι s a w) (h1:uniq s.fr) (h2:uniq s.hp):s.C0:=by
 have look_tail:∀ {α:Type} {n m:Nat} {x:α} {l:List (Nat×α)} {y:α},look m l=none→look n l=some y→look n ((m,x)::l)=some y:=by
  intro α n m x l y h1 h2
  simp only [look]
  cases hb:Nat.beq n m with
  | true =>
   have:=Nat.eq_of_beq_eq_true hb
   subst this
   rw [h1] at h2; cases h2
  | false=>exact h2
 have fr:∀ l:List (Nat×AV),uniq l→(∀ t v,look t l=some v→v.C0)→b5B l:=by
  intro l
  induction l with
  | nil=>intro _ _; trivial
  | cons q l ih =>
   obtain ⟨n,v⟩:=q
   rintro ⟨k0,k2⟩ k3
   have k1:=a3c k0
   exact ⟨k3 n v (by simp [look]),ih k2 (fun t v hv=>k3 t v (look_tail k1 hv))⟩
 have hpp:∀ l:List (Nat×f7),uniq l→(∀ t e,look t l=some e→Ex.C0 e.ty e.x)→a78 l:=by
  intro l
  induction l with
  | nil=>intro _ _; trivial
  | cons q l ih =>
   obtain ⟨n,e⟩:=q
   rintro ⟨k0,k2⟩ k3
   have k1:=a3c k0
   have h0:=k3 n e (by simp [look])
   have h3:=ih k2 (fun t e he=>k3 t e (look_tail k1 he))
   cases e<;>first|exact ⟨h0,h3⟩|exact h3
 refine ⟨fr _ h1 (fun t v hv=>(h.fr t v hv).C0),hpp _ h2 (fun i e he=>?_)⟩
 have:=h.hs.ob i e he
 cases e with
 | var t x=>obtain ⟨⟨O,_,hR⟩,_⟩:=this; exact hR.C0
 | own t x=>obtain ⟨⟨O,_,hR⟩,_⟩:=this; exact hR.C0
 | G4=>trivial

/-! ### the evaluator is sound -/
def B7.of (w:World) (S:Nat→Prop) (ps:List PK) (vs:List Value) (L:List Nat) (n:Nat) (gv:Value:=undef):B7:=⟨w,S,fun b=>b∈L,n,J0 ps vs 0,gv⟩

def T3 (gp:Option (List Step)) (gv:Value) (H:Array Go.Obj):(ps:List PK)→List Value→DL (y9 ps)→Prop
 | .rw t::_,vs,z=>(match gp,vs with
  | some p,.pointer (some ⟨b,off,none⟩)::_=>s6 t z.1 p∧∃ b' off',u5 H t p b off=some (b',off')∧gv=.pointer (some ⟨b',off',none⟩)
  | _,_=>True)
 | _,_,_=>True

def c1M (P:Program) (w0:World) (S0:Nat→Prop) (L:List Nat):Prop:=Z4 P w0 S0∧∀ b,S0 b→b<w0.heap.size∧¬ b∈L

def Reach (E:Env) (fn:Func) (y:DL E.rs) (z:DL (y9 E.ps)) (k:List Item) (s:St):Prop :=
 ∀ (w0:World) (S0:Nat→Prop) (vs:List Value) (x:DK E.ps) (L:List Nat) (gv:Value) (S:Nat→Prop) (ι:Ix) (a:Act) (w:World),c1M E.P w0 S0 L→K9 w0.heap S0 E.ps vs x L →
  RS (B7.of w0 S0 E.ps vs L fn.ntmps gv) S ι s a w→At E.P fn (fun e w'=>a1v w0 S0 E.rs E.ps vs L y z e w'∧T3 E.gp gv w'.heap E.ps vs z) k a w

structure H9 (E:Env) (fn:Func):Prop where
 nt:fn.ntmps=E.nt
 res:fn.results.toList=E.res

theorem b4E:∀ {a b:List Ty} {x x':DL a} {y y':DL b},DL.app x y=DL.app x' y'→x=x'∧y=y'
 | [],_,_,_,_,_,h=>⟨rfl,h⟩
 | _::_,_,x,x',_,_,h=>by
  have h1:=congrArg Prod.fst h
  have h2:=congrArg Prod.snd h
  obtain ⟨h3,h4⟩:=b4E h2
  exact ⟨Prod.ext h1 h3,h4⟩

theorem a5r {fn:Func} {w0:World} {S0:Nat→Prop} {vs:List Value} {x:DK E.ps} {L:List Nat} {gv:Value} (hE:x6 E (B7.of w0 S0 E.ps vs L fn.ntmps gv)) (hf:H9 E fn) {y:DL E.rs} {z:DL (y9 E.ps)} {L':Code→List Item→St→Prop} (ht:(finish E s).holds L' (·=DL.app y z)) (hK:K9 w0.heap S0 E.ps vs x L)
  (h:RS (B7.of w0 S0 E.ps vs L fn.ntmps gv) S ι s a w) (hG:a0h s E.ps 0=some z→T3 E.gp gv w.heap E.ps vs z) (e:Exit) (he:e=.normal∨e=.ret) :
  bodyPost E.P fn (fun e w'=>a1v w0 S0 E.rs E.ps vs L y z e w'∧T3 E.gp gv w'.heap E.ps vs z) e a w:=by
 unfold finish at ht
 split at ht
 ·exact ht.elim
 ·rename_i l hl
  split at ht
  ·rename_i y' z' hy hz
   have ht:DL.app y' z'=DL.app y z:=ht
   obtain ⟨rfl,rfl⟩:=b4E ht
   obtain ⟨us,h1,h2⟩:=b3f hE h hf.res hl
   obtain ⟨O,k1,k2,k3⟩:=a7H h.hs hy h2
   obtain ⟨Lo,m1,m2,m3⟩:=a2p h.hs hK (fun q hq=>hq) hz
   have hR:a1v w0 S0 E.rs E.ps vs L y' z' (.returned (a2H us)) w:=by
    refine ⟨us,O,Lo,S,rfl,⟨h.hs.os,h.hs.tape,h.hs.out,h.hs.size,fun c hc hL=>h.hs.frame c hc hL⟩,h.hs.s0,fun b hb=>?_,k1,m1,List.nodup_append.2 ⟨k2,m2,?_⟩,fun b hb=>?_⟩
    ·rcases h.hs.s1 b hb with h1|h1
     ·exact .inl h1
     ·exact .inr ⟨h1,h.hs.slt b hb⟩
    ·rintro c hc d hd rfl
     obtain ⟨i,e,i0,ip,i1,i2⟩:=k3 c hc
     obtain ⟨j,e',j0,j1,j2⟩:=m3 c hd
     refine h.hs.dj i j e e' i1 j1 ?_ c i2 j2
     rintro rfl
     have:pinned i=true:=by simp only [pinned,Nat.ble_eq]; omega
     rw [ip] at this; cases this
    ·have:∃ i e,look i s.hp=some e∧b∈i9 ι i e:=by
      rcases List.mem_append.1 hb with hb|hb
      ·obtain ⟨i,e,_,_,n2,n3⟩:=k3 b hb; exact ⟨i,e,n2,n3⟩
      ·obtain ⟨i,e,_,n2,n3⟩:=m3 b hb; exact ⟨i,e,n2,n3⟩
     obtain ⟨i,e,n2,n3⟩:=this
     exact h.hs.bl i e n2 b n3
   rcases he with rfl|rfl
   ·exact ⟨h.Z9,_,h1,hR,hG hz⟩
   ·exact ⟨h.Z9,_,h1,hR,hG hz⟩
  ·exact ht.elim

theorem b84 {gv:Value} {H:Array Go.Obj}:∀ {ps:List PK} {vs:List Value} {z:DL (y9 ps)},T3 none gv H ps vs z
 | [],_,_=>trivial
 | k::_,_,_=>by cases k<;>trivial

theorem gok {H0:Array Go.Obj} {S0:Nat→Prop} {gv:Value} {p:List Step}:∀ {ps:List PK} {vs:List Value} {x:DK ps} {L:List Nat} {z:DL (y9 ps)},K9 H0 S0 ps vs x L→a0h s ps 0=some z→(∀ q∈J0 ps vs 0,ι.root q.1=q.2.1)→VX H S ι s.hp (.ptr 2000000 p) [gv]→T3 (some p) gv H ps vs z
 | [],_,_,_,_,_,_,_,_=>trivial
 | k::ps,vs,x,L,z,⟨v,us,L1,L2,e1,_,hk,_⟩,hz,hp,hv=>by
  cases k with
  | rw t =>
   obtain ⟨b,off,O,rfl,_,_,_⟩:=hk
   subst e1
   have hr:ι.root 2000000=(b,off):=hp (2000000,(b,off),[]) (by simp [J0])
   obtain ⟨e,b',off',k1,k2,k3,k4⟩:=hv
   unfold a0h at hz
   split at hz
   ·rename_i u x0 y0 ho hy
    have ho:look 2000000 s.hp=some (.var u x0):=ho
    rw [k1] at ho; cases ho
    split at hz
    ·rename_i hu
     subst hu
     cases hz
     obtain ⟨p1,_⟩:=t7 k3
     have p1:u5 H u p (ι.root 2000000).1 (ι.root 2000000).2=some (b',off'):=p1
     rw [hr] at p1
     exact ⟨k2,b',off',p1,by simpa using k4⟩
    ·cases hz
   ·cases hz
  | _=>trivial

theorem a4W {fn:Func} {w0:World} {S0:Nat→Prop} {vs:List Value} {x:DK E.ps} {L:List Nat} {gv:Value} (hE:x6 E (B7.of w0 S0 E.ps vs L fn.ntmps gv)) (hf:H9 E fn) {y:DL E.rs} {z:DL (y9 E.ps)} {L':Code→List Item→St→Prop} (ht:(a80 E s).holds L' (·=DL.app y z)) (hK:K9 w0.heap S0 E.ps vs x L)
  (h:RS (B7.of w0 S0 E.ps vs L fn.ntmps gv) S ι s a w) (e:Exit) (he:e=.normal∨e=.ret) :
  bodyPost E.P fn (fun e w'=>a1v w0 S0 E.rs E.ps vs L y z e w'∧T3 E.gp gv w'.heap E.ps vs z) e a w:=by
 unfold a80 at ht
 split at ht
 ·rename_i hgp
  exact a5r hE hf ht hK h (fun _=>by rw [hgp]; exact b84) e he
 ·rename_i p hgp
  split at ht
  ·rename_i i q hl
   obtain ⟨⟨rfl,rfl,hnt⟩,ht⟩:=ht
   have ht:=ht ⟨rfl,rfl,hnt⟩
   refine a5r hE hf ht hK h (fun hz=>?_) e he
   rw [hgp]
   refine gok (S:=S) (ι:=ι) hK hz (fun q hq=>(h.hs.pin q hq).2.2.1) ?_
   have hv:=h.fr F3 _ hl
   have hsz:¬ F3<a.tmps.size:=by rw [h.sz]; show ¬ F3<fn.ntmps; rw [hf.nt]; omega
   have:a.tmps.getD F3 (B7.gd (B7.of w0 S0 E.ps vs L fn.ntmps gv) F3)=gv:=by
    rw [Array.getD_eq_getD_getElem?,Array.getElem?_eq_none (by omega)]
    rfl
   rw [this] at hv
   exact hv
  ·exact ht.elim

theorem p7 {rs:List Ty} {L:Code→List Item→St→Prop} {R:DL rs→Prop} {b:Bool} {t e:Tree rs}:(cond b t e).holds L R↔(b=true→t.holds L R)∧(b=false→e.holds L R):=by
 cases b<;>simp

theorem V3:∀ {ks:List PK} {H:Array Go.Obj} {S:Nat→Prop} {vs:List Value} {x:DK ks} {L:List Nat},ks.any PK.i7=false→K9 H S ks vs x L→L=[]
 | [],_,_,_,_,_,_,h=>h.2
 | k::ks,_,_,_,_,_,hp,⟨v,us,L1,L2,_,e,h1,h2⟩=>by
  rw [List.any_cons,Bool.or_eq_false_iff] at hp
  have e2:=V3 hp.2 h2
  have e1:L1=[]:=by
   cases k<;>first|(exfalso; simp [PK.i7] at hp; done)|exact h1.1|exact h1
  rw [e,e1,e2]; rfl

theorem p8 (hE:D7 E) {fn:Func} (hf:H9 E fn) {y:DL E.rs} {z:DL (y9 E.ps)}:∀ {n:Nat} {k:List Item} {s:St},(exec E n k s).holds (fun c k s=>Reach E fn y z (.code c::.inLoop c::k) s) (·=DL.app y z)→Reach E fn y z k s
 | 0,k,s,ht=>ht.elim
 | n+1,k,s,ht=>by
  intro w0 S0 vs x L gv S ι a w hS0 hK h
  have hB:x6 E (B7.of w0 S0 E.ps vs L fn.ntmps gv):=⟨hE,hS0⟩
  unfold exec at ht
  split at ht
  ·obtain ⟨S2,ι2,h2⟩:=U4 (E:=E) (l:=a2I E.res E.rs) (fun hp b hb=>by have hb:b∈L:=hb; rw [V3 hp hK] at hb; cases hb) h
   exact At.done (a4W hB hf ht hK h2 _ (.inl rfl))
  ·refine At.step (fun b cs=>step_inBlock) ?_
   exact p8 hE hf ht w0 S0 vs x L gv S ι a w hS0 hK h
  ·rename_i c k'
   refine At.step (fun b cs=>step_inLoop) ?_
   obtain ⟨S2,ι2,h2⟩:=U4 (E:=E) (l:=(look (K8 c) E.H2).getD []) (fun hp b hb=>by have hb:b∈L:=hb; rw [V3 hp hK] at hb; cases hb) h
   obtain ⟨ι',h'⟩:=h2.canon ((look (K8 c) E.H2).getD [])
   exact ht w0 S0 vs x L gv S2 ι' a w hS0 hK h'
  ·rename_i c k'
   split at ht
   ·exact At.step (fun b cs=>step_skip) (p8 hE hf ht w0 S0 vs x L gv S ι a w hS0 hK h)
   ·exact At.step (fun b cs=>step_seq) (p8 hE hf ht w0 S0 vs x L gv S ι a w hS0 hK h)
   ·rename_i xc c1 c2
    split at ht
    ·rename_i g hg
     have hgv:=VX.a1M (w5 h hg)
     refine At.step (fun b cs=>step_cond hgv) ?_
     cases g with
     | true=>exact p8 hE hf ht w0 S0 vs x L gv S ι a w hS0 hK h
     | false=>exact p8 hE hf ht w0 S0 vs x L gv S ι a w hS0 hK h
    ·exact ht.elim
   ·exact At.step (fun b cs=>step_block) (p8 hE hf ht w0 S0 vs x L gv S ι a w hS0 hK h)
   ·rename_i c'
    obtain ⟨S2,ι2,h2⟩:=U4 (E:=E) (l:=(look (K8 c') E.H2).getD []) (fun hp b hb=>by have hb:b∈L:=hb; rw [V3 hp hK] at hb; cases hb) h
    obtain ⟨ι',h'⟩:=h2.canon ((look (K8 c') E.H2).getD [])
    exact At.step (fun b cs=>step_loop) (ht w0 S0 vs x L gv S2 ι' a w hS0 hK h')
   ·split at ht
    ·rename_i k2 hx
     exact At.step (fun b cs=>step_exit hx) (p8 hE hf ht w0 S0 vs x L gv S ι a w hS0 hK h)
    ·exact ht.elim
   ·obtain ⟨S2,ι2,h2⟩:=U4 (E:=E) (l:=a2I E.res E.rs) (fun hp b hb=>by have hb:b∈L:=hb; rw [V3 hp hK] at hb; cases hb) h
    exact At.ret (a4W hB hf ht hK h2 _ (.inr rfl))
   ·rename_i id ops draw
    split at ht
    ·obtain ⟨S,ι,h⟩:=a7K (E:=E) (fun hp b hb=>by have hb:b∈L:=hb; rw [V3 hp hK] at hb; cases hb) h ops
     refine At.region (wp_region_list ?_)
     exact S3 hB (by exact hf.nt) (fun hp b hb=>by have hb:b∈L:=hb; rw [V3 hp hK] at hb; cases hb) (m:=0) (l:=ops.toList) (Q:=fun e a w=>e=.normal∧At E.P fn (fun e w'=>a1v w0 S0 E.rs E.ps vs L y z e w'∧T3 E.gp gv w'.heap E.ps vs z) k' a w) (fun S' ι' s' a' w' h1 h2=>⟨rfl,p8 hE hf h2 w0 S0 vs x L gv S' ι' a' w' hS0 hK h1⟩) h ht
    ·skip
     obtain ⟨S,ι,h⟩:=b42 (E:=E) (fun hp b hb=>by have hb:b∈L:=hb; rw [V3 hp hK] at hb; cases hb) h ops
     generalize a5d E ops s=s at h ht
     split at ht
     ·rename_i hd
      split at ht
      ·obtain ⟨s',oz,p,s2,h1,hz,hzm,hl2,hp,h2⟩:=a9B (acc':=[]) rfl (by simp) ht
       have hM:E.ps.any PK.i7=false→∀ b,¬ (B7.of w0 S0 E.ps vs L fn.ntmps gv).M b:=fun hp b hb=>by have hb:b∈L:=hb; rw [V3 hp hK] at hb; cases hb
       refine At.region (b0C hB (by exact hf.nt) hd hz hzm ?_ h1 (fun S' ι' a' w' h3 next Q' hq=>?_) h.F4)
       ·unfold a57 at hl2
        split at hl2
        ·rename_i r hr
         cases hl2
         unfold b04 at hr
         split at hr
         ·assumption
         ·cases hr
        ·split at hl2
         ·rename_i s3 hr
          unfold b0T at hr
          split at hr
          ·assumption
          ·cases hr
         ·unfold b6k at hl2
          split at hl2
          ·assumption
          ·cases hl2
       ·exact (a6r hB (by exact hf.nt) hM h3 hl2 hp).2 next Q' (fun S2 ι2 a2 w2 h4=>hq a2 w2 ⟨rfl,p8 hE hf h2 w0 S0 vs x L gv S2 ι2 a2 w2 hS0 hK h4⟩)
      split at ht
      ·obtain ⟨s',h1,h2⟩:=a9F (acc':=[]) rfl (by simp) ht
       exact At.region (b0E hB (by exact hf.nt) hd h1 (fun S' ι' a' w' h3=>⟨rfl,p8 hE hf h2 w0 S0 vs x L gv S' ι' a' w' hS0 hK h3⟩) h.F4)
      rcases a9D (acc':=[]) rfl (by simp) ht with ⟨s',h1,h2⟩|⟨q,s',_,hA,h1,h2⟩
      ·exact At.region (b17 hB (by exact hf.nt) hd h1 (fun S' ι' a' w' h3=>⟨rfl,p8 hE hf h2 w0 S0 vs x L gv S' ι' a' w' hS0 hK h3⟩) h.F4)
      ·have hany:look q.d (F4 ops.toList s).fr=some .any:=by
        obtain ⟨oa,c,a1,_,a3,_,a5,a6,_⟩:=hA
        exact a1Q a5 a6 a3 (by have:=Array.mem_of_getElem? a1; simpa using this)
       exact At.region (b5H hB (by exact hf.nt) hd hA h1 h2 hany (fun S' ι' s2 a' w' h3 h4=>⟨rfl,p8 hE hf h4 w0 S0 vs x L gv S' ι' a' w' hS0 hK h3⟩) h.F4)
     ·split at ht
      ·rename_i hd
       obtain ⟨s',h1,h2⟩:=a9C (acc':=[]) rfl (by simp) ht
       exact At.region (b0D hB (by exact hf.nt) hd h1 (fun S' ι' a' w' h3=>⟨rfl,p8 hE hf h2 w0 S0 vs x L gv S' ι' a' w' hS0 hK h3⟩) h.F4)
      ·exact ht.elim
   ·exact ht.elim
  ·exact ht.elim

theorem Tree.holds.mono {rs:List Ty} {L L':Code→List Item→St→Prop} {R:DL rs→Prop}:∀ {t:Tree rs},t.holds L R→(∀ c k s,L c k s→L' c k s)→t.holds L' R
 | .g9 _ _,h,hl=>⟨h.1,fun hp=>(h.2 hp).mono hl⟩
 | .both _ _ _,h,hl=>⟨fun hp=>(h.1 hp).mono hl,h.2.mono hl⟩
 | .cut c k s,h,hl=>hl c k s h
 | .ret _,h,_=>h
 | .stuck _,h,_=>h

theorem Reach.loop (hE:D7 E) {fn:Func} (hf:H9 E fn) {y:DL E.rs} {z:DL (y9 E.ps)} {c:Code} {k:List Item} {α:Type} (mk:α→St) (I:α→Prop) (μ:α→Nat) (n:Nat) (hu:∀ x,uniq (mk x).fr∧uniq (mk x).hp)
  (h:∀ x,I x→(mk x).C0→(exec E n (.code c::.inLoop c::k) (mk x)).holds (fun c' k' s'=>(c'=c∧k'=k∧∃ x',s'=mk x'∧I x'∧μ x'<μ x)∨Reach E fn y z (.code c'::.inLoop c'::k') s') (·=DL.app y z)) :
  ∀ x,I x→Reach E fn y z (.code c::.inLoop c::k) (mk x):=by
 have key:∀ m x,μ x=m→I x→Reach E fn y z (.code c::.inLoop c::k) (mk x):=by
  intro m
  induction m using Nat.strongRecOn with
  | _ m ih =>
   intro x hm hI w0 S0 vs x0 L gv S ι a w hS0 hK hrs
   have hx:=h x hI (hrs.C0 (hu x).1 (hu x).2)
   refine p8 hE hf (hx.mono ?_) w0 S0 vs x0 L gv S ι a w hS0 hK hrs
   rintro c' k' s' (⟨rfl,rfl,x',rfl,h1,h2⟩|h1)
   ·exact ih (μ x') (hm▸h2) x' rfl h1
   ·exact h1
 exact fun x hI=>key (μ x) x rfl hI

end
end Go.Ex

namespace Go.Ex

section
variable {E:Env} {B:B7} {S S':Nat→Prop} {ι:Ix} {s:St} {a:Act} {w:World} {hp:List (Nat×f7)} {H H':Array Go.Obj}

theorem VX.has {v:AV} {i:Nat}:∀ {vs:List Value},VX H S ι hp v vs→v.f9 i=true→∃ e,look i hp=some e:=by
 induction v with
 | cons a b iha ihb =>
  rintro vs ⟨v,us,_,ha,hb⟩ hm
  simp only [AV.f9,Bool.or_eq_true] at hm
  exact hm.elim (iha ha) (ihb hb)
 | G6 l ih=>rintro vs ⟨us,_,h⟩ hm; exact ih h hm
 | u6 f l ih=>rintro vs ⟨us,_,h⟩ hm; exact ih h hm
 | bx l ih=>rintro vs ⟨_,_,u,_,_,_,_,h⟩ hm; exact ih h hm
 | rc f l ih=>rintro vs ⟨_,_,u,_,_,_,_,h⟩ hm; exact ih h hm
 | ptr j p=>rintro vs ⟨e,_,_,h1,_⟩ hm; have:=Nat.eq_of_beq_eq_true hm; subst this; exact ⟨e,h1⟩
 | at_ j p=>rintro vs ⟨e,_,_,_,h1,_⟩ hm; have:=Nat.eq_of_beq_eq_true hm; subst this; exact ⟨e,h1⟩
 | sub j p a b=>rintro vs ⟨e,_,h1,_⟩ hm; have:=Nat.eq_of_beq_eq_true hm; subst this; exact ⟨e,h1⟩
 | _=>intro vs _ hm; cases hm

structure b28 (B:B7) (S:Nat→Prop) (w:World) (ks:List PK) (vs:List Value) (x:DK ks) (L:List Nat) (i:Nat) (ι:Ix):Prop where
 hs:HS B S ι (C3 ks x i) w
 fr:∀ t v,look t (R8 ks x i)=some v→i≤t∧∃ val,vs[t - i]?=some val∧VX w.heap S ι (C3 ks x i) v [val]
 pins:∀ q∈J0 ks vs i,pinned q.1=true∧(∃ e,look q.1 (C3 ks x i)=some e)∧ι.root q.1=q.2.1∧ι.cells q.1=q.2.2
 keys:∀ k e,look k (C3 ks x i)=some e→∃ m,i≤m∧m<1000∧(k=1500000+m∨k=2000000+m)
 own:∀ k e,look k (C3 ks x i)=some e→∀ b∈i9 ι k e,b∈L
 rest:∀ k,look k (C3 ks x i)=none→ι.root k=(0,0)∧ι.cells k=[]

theorem b7L (hB:B.pins=[]) (hw:B.w0=w) (hS0:B.S0=S) (hS:∀ b,S b→b<w.heap.size):∀ {ks:List PK} {vs:List Value} {x:DK ks} {L:List Nat} {i:Nat},K9 w.heap S ks vs x L→L.Nodup→(∀ b∈L,¬ S b∧B.M b∧b<w.heap.size)→i+ks.length≤1000→∃ ι,b28 B S w ks vs x L i ι
 | [],vs,x,L,i,hK,_,_,_=>by
  refine ⟨⟨fun _=>(0,0),fun _=>[],fun _=>[]⟩,⟨?_,?_,?_,?_,?_,fun k _=>⟨rfl,rfl⟩⟩⟩
  ·subst hw
   subst hS0
   refine ⟨rfl,.refl _,rfl,Nat.le_refl _,fun _ _ _=>rfl,hS,fun _ h=>h,fun b hb=>.inl hb,?_,?_,?_,?_⟩
   ·intro i e hi; cases hi
   ·intro i e hi; cases hi
   ·intro i j ei ej hi; cases hi
   ·intro q hq; rw [hB] at hq; cases hq
  ·intro t v h; cases h
  ·intro q hq; simp [J0] at hq
  ·intro k e h; cases h
  ·intro k e h; cases h
 | k::ks,vs,x,L,i,⟨v,us,L1,L2,e1,e2,hk,hK⟩,hn,hL,hi=>by
  subst e1 e2
  have hnL:=List.nodup_append.1 hn
  obtain ⟨ι,hb⟩:=b7L (i:=i+1) hB hw hS0 hS hK hnL.2.1 (fun b hb=>hL b (by simp [hb])) (by simp only [List.length_cons] at hi; omega)
  simp only [List.length_cons] at hi
  -- a parameter that is read alone
  have plain:∀ {v0:AV},R8 (k::ks) x i=(i,v0)::R8 ks x.2 (i+1)→C3 (k::ks) x i=C3 ks x.2 (i+1)→J0 (k::ks) (v::us) i=J0 ks us (i+1)→VX w.heap S ι (C3 ks x.2 (i+1)) v0 [v]→∃ ι,b28 B S w (k::ks) (v::us) x (L1++L2) i ι:=by
   intro v0 h1 h2 h3 h4
   refine ⟨ι,by rw [h2]; exact hb.hs,?_,by rw [h3,h2]; exact hb.pins,?_,?_,by rw [h2]; exact hb.rest⟩
   ·intro t u hu
    rw [h1] at hu
    simp only [look] at hu
    rw [h2]
    cases hbq:Nat.beq t i with
    | true =>
     rw [hbq] at hu
     have:=Nat.eq_of_beq_eq_true hbq
     subst this
     cases hu
     exact ⟨Nat.le_refl _,v,by simp,h4⟩
    | false =>
     rw [hbq] at hu
     obtain ⟨k1,val,k2,k3⟩:=hb.fr t u hu
     refine ⟨by omega,val,?_,k3⟩
     rw [show t - i=(t - (i+1))+1 from by omega]
     simpa using k2
   ·intro q e hq
    rw [h2] at hq
    obtain ⟨m,m1,m2,m3⟩:=hb.keys q e hq
    exact ⟨m,by omega,m2,m3⟩
   ·intro q e hq b hbb
    rw [h2] at hq
    exact List.mem_append_right _ (hb.own q e hq b hbb)
  -- a parameter with an object
  have obj:∀ {v0:AV} {d:Nat} {e:f7} {ι':Ix},R8 (k::ks) x i=(i,v0)::R8 ks x.2 (i+1)→C3 (k::ks) x i=Ex.put d e (C3 ks x.2 (i+1))→(d=1500000+i∨d=2000000+i) →
    (∀ q∈J0 (k::ks) (v::us) i,q∈J0 ks us (i+1)∨(pinned q.1=true∧q.1=d∧ι'.root d=q.2.1∧ι'.cells d=q.2.2))→(∀ j,j≠d→y7 ι ι' j)→OB w.heap S ι' d e→(∀ b∈i9 ι' d e,b∈L1) →
    VX w.heap S ι' (Ex.put d e (C3 ks x.2 (i+1))) v0 [v]→∃ ι,b28 B S w (k::ks) (v::us) x (L1++L2) i ι:=by
   intro v0 d e ι' h1 h2 hd h3 hs hob hbl h4
   have hnone:look d (C3 ks x.2 (i+1))=none:=by
    cases hlk:look d (C3 ks x.2 (i+1)) with
    | none=>rfl
    | some e'=>exfalso; obtain ⟨m,m1,m2,m3⟩:=hb.keys d e' hlk; omega
   have hF:A6 B S ι (C3 ks x.2 (i+1)) w L1:=by
    refine ⟨hnL.1,fun b hbb=>?_⟩
    obtain ⟨l1,l2,l3⟩:=hL b (by simp [hbb])
    exact ⟨l1,.inr l2,l3,fun j ej hj hbj=>hnL.2.2 b hbb b (hb.own j ej hj b hbj) rfl⟩
   have hns:∀ {u:AV} {us':List Value},VX w.heap S ι (C3 ks x.2 (i+1)) u us'→u.f9 d=false:=by
    intro u us' hu
    cases hm:u.f9 d with
    | false=>rfl
    | true=>obtain ⟨e',he'⟩:=hu.has hm; rw [hnone] at he'; cases he'
   refine ⟨ι',by rw [h2]; exact hb.hs.add hnone hs hob hbl hF,?_,?_,?_,?_,?_⟩
   ·intro t u hu
    rw [h1] at hu
    simp only [look] at hu
    rw [h2]
    cases hbq:Nat.beq t i with
    | true =>
     rw [hbq] at hu
     have:=Nat.eq_of_beq_eq_true hbq
     subst this
     cases hu
     exact ⟨Nat.le_refl _,v,by simp,h4⟩
    | false =>
     rw [hbq] at hu
     obtain ⟨k1,val,k2,k3⟩:=hb.fr t u hu
     refine ⟨by omega,val,?_,VX.add hs (hns k3) k3⟩
     rw [show t - i=(t - (i+1))+1 from by omega]
     simpa using k2
   ·intro q hq
    rw [h2]
    rcases h3 q hq with hq|⟨q1,q2,q3,q4⟩
    ·obtain ⟨r1,⟨e',r2⟩,r3,r4⟩:=hb.pins q hq
     have hne:q.1≠d:=by intro hqd; rw [hqd,hnone] at r2; cases r2
     obtain ⟨s1,s2,s3⟩:=hs q.1 hne
     exact ⟨r1,⟨e',by rw [n8,if_neg hne]; exact r2⟩,s1.trans r3,s2.trans r4⟩
    ·exact ⟨q1,⟨e,by rw [n8,if_pos q2]⟩,by rw [q2]; exact q3,by rw [q2]; exact q4⟩
   ·intro q e' hq
    rw [h2,n8] at hq
    split at hq
    ·rename_i hqd; exact ⟨i,Nat.le_refl _,by omega,by omega⟩
    ·obtain ⟨m,m1,m2,m3⟩:=hb.keys q e' hq
     exact ⟨m,by omega,m2,m3⟩
   ·intro q e' hq b hbb
    rw [h2,n8] at hq
    split at hq
    ·rename_i hqd; subst hqd; cases hq; exact List.mem_append_left _ (hbl b hbb)
    ·rename_i hqd
     rw [(hs q hqd).i9] at hbb
     exact List.mem_append_right _ (hb.own q e' hq b hbb)
   ·intro q hq
    rw [h2,n8] at hq
    split at hq
    ·cases hq
    ·rename_i hqd
     obtain ⟨s1,s2,s3⟩:=hs q hqd
     obtain ⟨r1,r2⟩:=hb.rest q hq
     exact ⟨s1.trans r1,s2.trans r2⟩
  have hrest:∀ d,d=1500000+i∨d=2000000+i→ι.root d=(0,0)∧ι.cells d=[]:=by
   intro d hd
   refine hb.rest d ?_
   cases hlk:look d (C3 ks x.2 (i+1)) with
   | none=>rfl
   | some e'=>exfalso; obtain ⟨m,m1,m2,m3⟩:=hb.keys d e' hlk; omega
  cases k with
  | v t=>obtain ⟨_,cs,e1,hR⟩:=hk; exact plain rfl rfl rfl ⟨cs,by rw [e1],hR⟩
  | R6=>exact plain rfl rfl rfl (by rw [hk.2]; rfl)
  | T8 f n=>exact plain rfl rfl rfl ⟨_,rfl⟩
  | el q=>exact plain rfl rfl rfl ⟨_,rfl⟩
  | rd t=>obtain ⟨_,b,off,e1,k1,k2,k3⟩:=hk; exact plain rfl rfl rfl ⟨b,off,by rw [e1],k1,k2,k3⟩
  | u6 f ts =>
   obtain ⟨_,ws,e1,hl⟩:=hk
   refine plain rfl rfl rfl ⟨ws,by rw [e1],?_⟩
   have:∀ {ts:List Ty} {ws:List Value} {y:DL ts},RdL w.heap S ts ws y→VX w.heap S ι (C3 ks x.2 (i+1)) (R8.rdA ts y) ws:=by
    intro ts
    induction ts with
    | nil=>intro ws y h; exact h
    | cons t ts ih =>
     rintro ws y ⟨v,us,e,⟨b,off,e1,k1,k2,k3⟩,hl⟩
     exact ⟨v,us,e,⟨b,off,by rw [e1],k1,k2,k3⟩,ih hl⟩
   exact this hl
  | own t =>
   obtain ⟨cs,rfl,hR⟩:=hk
   refine obj (d:=1500000+i) (e:=.own t x.1) (ι':=ι.Q4 (1500000+i) cs L1) rfl rfl (.inl rfl) (fun q hq=>.inl hq) (fun j hj=>a1N hj _ _) ⟨⟨L1,by simp [Ix.Q4],by simpa [Ix.Q4] using hR⟩,by simpa [Ix.Q4] using hnL.1⟩ ?_ (a33 hR.length)
   intro b hb; simpa [i9,Ix.Q4] using hb
  | rw t =>
   obtain ⟨b,off,O,rfl,hR,hf,rfl⟩:=hk
   refine obj (d:=2000000+i) (e:=.var t x.1) (ι':=ι.P4 (2000000+i) (b,off) O) rfl rfl (.inr rfl) ?_ (fun j hj=>a3y hj _ _) ⟨⟨O,by simp [Ix.P4],by simpa [Ix.P4] using hR⟩,by simpa [Ix.P4] using hf,by simpa [Ix.P4] using hnL.1⟩ ?_
    (a8Q (s:=⟨[],C3 ks x.2 (i+1)⟩) (r:=(b,off)) (o:=O) hf.lt)
   ·intro q hq
    simp only [J0,List.mem_cons] at hq
    rcases hq with rfl|hq
    ·exact .inr ⟨by simp only [pinned,Nat.ble_eq]; omega,rfl,by simp [Ix.P4],by simpa [Ix.P4] using (hrest (2000000+i) (.inr rfl)).2⟩
    ·exact .inl hq
   ·intro c hc; simpa [i9,Ix.P4] using hc
  | mu t =>
   obtain ⟨cs,rfl,hR⟩:=hk
   have hcs:cs=[i8 (.d0 true t) cs]:=by
    have:=hR.length
    match cs,this with
    | [c],_=>rfl
   refine obj (d:=2000000+i) (e:=.own (.d0 true t) x.1) (ι':=ι.Q4 (2000000+i) cs L1) rfl rfl (.inr rfl) ?_ (fun j hj=>a1N hj _ _) ⟨⟨L1,by simp [Ix.Q4],by simpa [Ix.Q4] using hR⟩,by simpa [Ix.Q4] using hnL.1⟩ ?_ (a33 hR.length)
   ·intro q hq
    simp only [J0,List.mem_cons] at hq
    rcases hq with rfl|hq
    ·exact .inr ⟨by simp only [pinned,Nat.ble_eq]; omega,rfl,by simpa [Ix.Q4] using (hrest (2000000+i) (.inr rfl)).1,by simpa [Ix.Q4] using hcs⟩
    ·exact .inl hq
   ·intro b hb; simpa [i9,Ix.Q4] using hb

theorem b7j:∀ {ks:List PK} {vs:List Value} {x:DK ks} {L:List Nat},K9 H S ks vs x L→b5z ks x
 | [],_,_,_,_=>trivial
 | k::ks,vs,x,L,⟨v1,us,L1,L2,e,_,h1,h2⟩=>by
  refine ⟨?_,b7j h2⟩
  cases k with
  | v t=>obtain ⟨_,cs,e1,hR⟩:=h1; exact hR.C0
  | rd t=>obtain ⟨_,b,off,e1,k1,k2,k3⟩:=h1; exact k3.C0
  | own t=>obtain ⟨cs,e1,hR⟩:=h1; exact hR.C0
  | rw t=>obtain ⟨b,off,O,e1,hR,_⟩:=h1; exact hR.C0
  | mu t=>obtain ⟨cs,e1,hR⟩:=h1; exact hR.C0
  | R6=>trivial
  | T8 f n=>trivial
  | el q=>trivial
  | u6 f ts =>
   obtain ⟨_,ws,e1,hl⟩:=h1
   have:∀ {ts:List Ty} {ws:List Value} {y:DL ts},RdL H S ts ws y→PK.C0.b4Z ts y:=by
    intro ts
    induction ts with
    | nil=>intro ws y h; trivial
    | cons t ts ih =>
     rintro ws y ⟨v,us,e,⟨b,off,e1,k1,k2,k3⟩,hl⟩
     exact ⟨k3.C0,ih hl⟩
   exact this hl

theorem b7k:∀ {ks:List PK} {vs:List Value} {x:DK ks} {L:List Nat},K9 H S ks vs x L→vs.length=ks.length
 | [],_,_,_,h=>by rw [h.1]; rfl
 | k::ks,vs,x,L,⟨v1,us,L1,L2,e,_,_,h2⟩=>by rw [e]; simp [b7k h2]

theorem a6C:∀ {ks:List PK} {x:DK ks} {i k:Nat} {e:f7},look k (C3 ks x i)=some e→∃ m,i≤m∧m<i+ks.length∧(k=1500000+m∨k=2000000+m)
 | [],_,_,_,_,h=>by cases h
 | k0::ks,x,i,k,e,h=>by
  have rest:look k (C3 ks x.2 (i+1))=some e→∃ m,i≤m∧m<i+(k0::ks).length∧(k=1500000+m∨k=2000000+m):=by
   intro h
   obtain ⟨m,h1,h2,h3⟩:=a6C h
   exact ⟨m,by omega,by simp only [List.length_cons]; omega,h3⟩
  have put_:∀ {d:Nat} {e0:f7},(d=1500000+i∨d=2000000+i)→look k (Ex.put d e0 (C3 ks x.2 (i+1)))=some e→∃ m,i≤m∧m<i+(k0::ks).length∧(k=1500000+m∨k=2000000+m):=by
   intro d e0 hd h
   rw [n8] at h
   split at h
   ·rename_i hk; subst hk; exact ⟨i,Nat.le_refl _,by simp only [List.length_cons]; omega,hd⟩
   ·exact rest h
  cases k0 with
  | own t=>exact put_ (.inl rfl) h
  | rw t=>exact put_ (.inr rfl) h
  | mu t=>exact put_ (.inr rfl) h
  | _=>exact rest h

def a2j (hp:List (Nat×f7)) (ι:Ix):(ks:List PK)→List Value→DK ks→Nat→Prop
 | [],_,_,_=>True
 | .rw t::ks,vs,x,i=>(look (2000000+i) hp=some (.var t x.1)∧∃ us,vs=.pointer (some ⟨(ι.root (2000000+i)).1,(ι.root (2000000+i)).2,none⟩)::us)∧a2j hp ι ks (vs.drop 1) x.2 (i+1)
 | .v _::ks,vs,x,i=>a2j hp ι ks (vs.drop 1) x.2 (i+1)
 | .rd _::ks,vs,x,i=>a2j hp ι ks (vs.drop 1) x.2 (i+1)
 | .u6 _ _::ks,vs,x,i=>a2j hp ι ks (vs.drop 1) x.2 (i+1)
 | .own _::ks,vs,x,i=>a2j hp ι ks (vs.drop 1) x.2 (i+1)
 | .mu _::ks,vs,x,i=>a2j hp ι ks (vs.drop 1) x.2 (i+1)
 | .R6::ks,vs,x,i=>a2j hp ι ks (vs.drop 1) x.2 (i+1)
 | .T8 _ _::ks,vs,x,i=>a2j hp ι ks (vs.drop 1) x.2 (i+1)
 | .el _::ks,vs,x,i=>a2j hp ι ks (vs.drop 1) x.2 (i+1)

theorem a1O:∀ {ks:List PK} {vs:List Value} {x:DK ks} {L:List Nat} {i:Nat},K9 H S ks vs x L→i+ks.length≤1000→(∀ k e,look k (C3 ks x i)=some e→look k hp=some e)→(∀ q∈J0 ks vs i,ι.root q.1=q.2.1)→a2j hp ι ks vs x i
 | [],_,_,_,_,_,_,_,_=>trivial
 | k::ks,vs,x,L,i,⟨v,us,L1,L2,e1,_,hk,hK⟩,hi,hh,hp2=>by
  subst e1
  simp only [List.length_cons] at hi
  have sub:∀ {d:Nat} {e0:f7},(d=1500000+i∨d=2000000+i)→(∀ k e,look k (Ex.put d e0 (C3 ks x.2 (i+1)))=some e→look k hp=some e)→∀ k e,look k (C3 ks x.2 (i+1))=some e→look k hp=some e:=by
   intro d e0 hd hh k e h
   refine hh k e ?_
   rw [n8,if_neg]
   ·exact h
   ·rintro rfl
    obtain ⟨m,h1,h2,h3⟩:=a6C h
    omega
  cases k with
  | rw t =>
   obtain ⟨b,off,O,rfl,_,_,_⟩:=hk
   have hr:ι.root (2000000+i)=(b,off):=hp2 (2000000+i,(b,off),[]) (by simp [J0])
   refine ⟨⟨hh _ _ (by simp only [C3]; rw [n8,if_pos rfl]),us,by rw [hr]⟩,a1O hK (by omega) (sub (.inr rfl) hh) (fun q hq=>hp2 q (by simp only [J0]; exact List.mem_cons_of_mem _ hq))⟩
  | own t=>exact a1O (ks:=ks) hK (by omega) (sub (.inl rfl) hh) (fun q hq=>hp2 q hq)
  | mu t=>exact a1O (ks:=ks) hK (by omega) (sub (.inr rfl) hh) (fun q hq=>hp2 q (by simp only [J0]; exact List.mem_cons_of_mem _ hq))
  | v t=>exact a1O (ks:=ks) hK (by omega) hh (fun q hq=>hp2 q hq)
  | rd t=>exact a1O (ks:=ks) hK (by omega) hh (fun q hq=>hp2 q hq)
  | u6 f ts=>exact a1O (ks:=ks) hK (by omega) hh (fun q hq=>hp2 q hq)
  | R6=>exact a1O (ks:=ks) hK (by omega) hh (fun q hq=>hp2 q hq)
  | T8 f n=>exact a1O (ks:=ks) hK (by omega) hh (fun q hq=>hp2 q hq)
  | el q=>exact a1O (ks:=ks) hK (by omega) hh (fun q hq=>hp2 q hq)

theorem a9U {fr:List (Nat×AV)}:∀ {n j:Nat} {us:List Value},us.length=n→(∀ t val v,us[t]?=some val→look (j+t) fr=some v→VX H S ι hp v [val])→VX H S ι hp (b5C fr j n) us
 | 0,j,us,hl,_=>by
  obtain rfl:=List.length_eq_zero_iff.1 hl
  rfl
 | n+1,j,u::us,hl,h=>by
  refine ⟨u,us,rfl,?_,a9U (by simpa using hl) (fun t val v ht hv=>h (t+1) val v (by simpa using ht) (by rw [← hv]; congr 1; omega))⟩
  cases hlk:look j fr with
  | none=>exact ⟨_,rfl⟩
  | some v=>exact h 0 u v rfl hlk

theorem b4p:∀ {ks:List PK} {x:DK ks} {i:Nat} {fr:List (Nat×AV)} {pre vs:List Value} {cc:Option (Sigma Ty.den)},(∀ t v,look t fr=some v→∃ val,(pre.reverse++vs)[t]?=some val∧VX H S ι hp v [val])→i=pre.length →
  Q0 H S ks cc pre vs x→vs.length=ks.length→a2j hp ι ks vs x i→(∀ r,cc=some r→∃ pre',pre=.pointer (some ⟨(ι.root (2000000+(i - 1))).1,(ι.root (2000000+(i - 1))).2,none⟩)::pre'∧look (2000000+(i - 1)) hp=some (.var r.1 r.2)) →
  ∀ t v,look t (Y4 ks x i fr)=some v→∃ val,(pre.reverse++vs)[t]?=some val∧VX H S ι hp v [val]
 | [],_,_,_,_,_,_,h,_,_,_,_,_=>h
 | k::ks,x,i,fr,pre,vs,cc,h,hi,hk,hl,hr,hc=>by
  cases vs with
  | nil=>cases hl
  | cons v vs =>
   have hl:vs.length=ks.length:=by simpa using hl
   have happ:pre.reverse++v::vs=(v::pre).reverse++vs:=by simp
   have next:∀ {fr':List (Nat×AV)} {cc':Option (Sigma Ty.den)},(∀ t v',look t fr'=some v'→∃ val,(pre.reverse++v::vs)[t]?=some val∧VX H S ι hp v' [val])→Q0 H S ks cc' (v::pre) vs x.2→a2j hp ι ks vs x.2 (i+1) →
     (∀ r,cc'=some r→v=.pointer (some ⟨(ι.root (2000000+i)).1,(ι.root (2000000+i)).2,none⟩)∧look (2000000+i) hp=some (.var r.1 r.2))→∀ t v',look t (Y4 ks x.2 (i+1) fr')=some v'→∃ val,(pre.reverse++v::vs)[t]?=some val∧VX H S ι hp v' [val]:=by
    intro fr' cc' h1 h2 h3 h4
    rw [happ] at h1 ⊢
    refine b4p h1 (by simp [hi]) h2 hl h3 (fun r hr=>?_)
    rw [Nat.add_sub_cancel]
    obtain ⟨q1,q2⟩:=h4 r hr
    exact ⟨pre,by rw [q1],q2⟩
   have hat:(pre.reverse++v::vs)[i]?=some v:=by
    rw [List.getElem?_append_right (by simp [hi])]
    simp [hi]
   cases k with
   | v t=>exact next h hk hr (fun r hr=>by cases hr)
   | rd t=>exact next h hk hr (fun r hr=>by cases hr)
   | u6 f ts=>exact next h hk hr (fun r hr=>by cases hr)
   | own t=>exact next h hk hr (fun r hr=>by cases hr)
   | mu t=>exact next h hk hr (fun r hr=>by cases hr)
   | R6=>exact next h hk hr (fun r hr=>by cases hr)
   | rw t =>
    obtain ⟨⟨h1,us,h2⟩,hr⟩:=hr
    exact next h hk hr (fun r hr=>by cases hr; exact ⟨(List.cons.inj h2).1,h1⟩)
   | T8 f n =>
    obtain ⟨⟨us,b,off,e1,h1,h2,h3,h4⟩,hk⟩:=hk
    obtain ⟨rfl,rfl⟩:=List.cons.inj e1
    refine next (fun t v' ht=>?_) hk hr (fun r hr=>by cases hr)
    rw [n8] at ht
    split at ht
    ·rename_i e; subst e; cases ht
     refine ⟨_,hat,_,_,_,rfl,h1,h2,h3,_,rfl,b,off,(pre.take n).reverse,rfl,h1,h2,h3,?_⟩
     refine a9U (by simp; omega) (fun t val v' ht hv=>?_)
     obtain ⟨val',g1,g2⟩:=h _ _ hv
     have htn:t<n:=by
      have:=(List.getElem?_eq_some_iff.1 ht).1
      simp at this; omega
     have:val'=val:=by
      rw [List.reverse_take,List.getElem?_drop] at ht
      rw [List.getElem?_append_left (by simp; omega)] at g1
      subst hi
      rw [g1] at ht; cases ht; rfl
     rw [this] at g2; exact g2
    ·exact h t v' ht
   | el q =>
    obtain ⟨⟨t,y,b0,off0,pre',b,off,us,e0,e1,e2,h1,h2,h3⟩,hk⟩:=hk
    obtain ⟨rfl,rfl⟩:=List.cons.inj e2
    obtain ⟨pre2,g1,g2⟩:=hc _ e0
    rw [e1] at g1
    simp only [List.cons.injEq,Value.pointer.injEq,Option.some.injEq,Addr.mk.injEq,and_true] at g1
    obtain ⟨⟨rfl,rfl⟩,rfl⟩:=g1
    refine next (fun t' v' ht=>?_) hk hr (fun r hr=>by cases hr)
    rw [n8] at ht
    split at ht
    ·rename_i e; subst e; cases ht
     exact ⟨_,hat,_,b,off,g2,h1,Q9 h2 h3,rfl⟩
    ·exact h t' v' ht

theorem c0T {E:Env} {fn:Func} {w:World} {vs:List Value} {x:DK E.ps} {L:List Nat}
  (hlen:E.ps.length≤fn.ntmps∧E.ps.length≤1000) (hS:∀ b,S b→b<w.heap.size) (hK:K9 w.heap S E.ps vs x L) (hKl:Q0 w.heap S E.ps none [] vs x) (hLn:L.Nodup) (hLb:∀ b∈L,¬ S b∧b<w.heap.size) :
  ∃ ι,∀ gv,RS (B7.of w S E.ps vs L fn.ntmps gv) S ι (C2 E.ps x) { tmps:=vs.toArray++Array.replicate (fn.ntmps - vs.toArray.size) undef,defers:=[] } w:=by
 obtain ⟨ι,hbg⟩:=b7L (B:=⟨w,S,fun b=>b∈L,fn.ntmps,[],undef⟩) (i:=0) rfl rfl rfl hS hK hLn (fun b hb=>⟨(hLb b hb).1,hb,(hLb b hb).2⟩) (by show 0+E.ps.length≤1000; omega)
 refine ⟨ι,fun gv=>?_⟩
 have hl:vs.length=E.ps.length:=b7k hK
 have hs:=hbg.hs
 refine ⟨⟨hs.os,hs.tape,hs.out,hs.size,hs.frame,hs.slt,hs.s0,hs.s1,hs.ob,hs.bl,hs.dj,fun q hq=>hbg.pins q hq⟩,rfl,?_,?_⟩
 ·simp only [Array.size_append,List.size_toArray,Array.size_replicate,B7.of]
  omega
 ·intro t v hv
  obtain ⟨val,k2,k3⟩:=b4p (pre:=[]) (vs:=vs) (i:=0) (fun t v ht=>by
   obtain ⟨_,val,k2,k3⟩:=hbg.fr t v ht
   exact ⟨val,by simpa using k2,k3⟩) rfl hKl hl (a1O hK (by show 0+E.ps.length≤1000; omega) (fun _ _ h=>h) (fun q hq=>(hbg.pins q hq).2.2.1)) (fun r hr=>by cases hr) t v hv
  simp only [List.reverse_nil,List.nil_append] at k2
  have:(vs.toArray++Array.replicate (fn.ntmps - vs.toArray.size) undef).getD t (B7.gd (B7.of w S E.ps vs L fn.ntmps gv) t)=val:=by
   have hlt:=(List.getElem?_eq_some_iff.1 k2).1
   simp only [Array.getD_eq_getD_getElem?]
   rw [Array.getElem?_append_left (by simpa using hlt)]
   simp [k2]
  rw [this]
  exact k3

theorem w8.y8 (_hE:D7 E) {f:FuncId} {fn:Func} {c:Code} {rs:List Ty} {ps:List PK} {pre:DK ps→Prop} {fn':DK ps→DL rs} {out:DK ps→DL (y9 ps)} (hrs:E.rs=rs) (hps:E.ps=ps) (hf:E.P.funcs[f]?=some fn) (hb:fn.body=some c) (hname:(fn.name == "runtime.NumGoroutine")=false) (_hF:H9 E fn)
  (hlen:(Nat.ble ps.length fn.ntmps && Nat.ble ps.length 1000)=true)
  (h:∀ x:DK ps,pre x→b5z ps x→Reach E fn (hrs▸fn' x) (hps▸out x) [.code c] (C2 ps x)):(w8.mk ps rs pre fn' out false).Valid E.P f:=by
 subst hrs
 subst hps
 simp only [Bool.and_eq_true,Nat.ble_eq] at hlen
 refine ⟨⟨fn,hf,hname,by rw [hb]; rfl⟩,?_,fun h=>by cases h⟩
 intro w S vs x L hS hgl hpre hK hKl hLn hLb
 refine Calls.mono (R:=fun e w'=>a1v w S E.rs E.ps vs L (fn' x) (out x) e w'∧T3 E.gp undef w'.heap E.ps vs (out x)) ?_ (fun _ _ h=>h.1)
 refine a3E hf hb ?_
 obtain ⟨ι,hst⟩:=c0T hlen hS hK hKl hLn hLb
 exact h x hpre (b7j hK) w S vs x L undef S ι _ w ⟨hgl,fun b hb=>⟨hS b hb,fun hl=>(hLb b hl).1 hb⟩⟩ hK (hst undef)

end
end Go.Ex

namespace Go.Ex

/-! ### results that are handed out as shared -/
def shares:List Ty→List Ty→Bool
 | [],[]=>true
 | t::ts,t'::ts'=>(decide (t'=t) || (decide (t'=t.sh) && t.Q5)) && shares ts ts'
 | _,_=>false

theorem b63 {t t':Ty} (h:(decide (t'=t) || (decide (t'=t.sh) && t.Q5))=true):t.den=t'.den:=by
 simp only [Bool.or_eq_true,Bool.and_eq_true,decide_eq_true_eq] at h
 rcases h with rfl|⟨rfl,_⟩
 ·rfl
 ·exact (A5 t).symm

def a48:(rs rs':List Ty)→shares rs rs'=true→DL rs→DL rs'
 | [],[],_,_=>()
 | t::ts,t'::ts',h,x=>(cast (b63 (by simp only [shares,Bool.and_eq_true] at h; exact h.1)) x.1,a48 ts ts' (by simp only [shares,Bool.and_eq_true] at h; exact h.2) x.2)
 | [],_::_,h,_=>by simp [shares] at h
 | _::_,[],h,_=>by simp [shares] at h

theorem a9A {H:Array Go.Obj} {S:Nat→Prop}:∀ {ts rs':List Ty} (h:shares ts rs'=true) {O:List Nat} {us:List Value} {x:DL ts},J4 H S ts O us x →
  ∃ O1 O2,O.Perm (O1++O2)∧∀ T:Nat→Prop,(∀ b,S b→T b)→(∀ b∈O2,T b)→J4 H T rs' O1 us (a48 ts rs' h x)
 | [],[],_,O,us,x,hR=>⟨[],[],by rw [hR.1]; exact List.Perm.refl _,fun T _ _=>⟨rfl,hR.2⟩⟩
 | [],_::_,h,_,_,_,_=>by simp [shares] at h
 | _::_,[],h,_,_,_,_=>by simp [shares] at h
 | t::ts,t'::ts',h,O,us,x,⟨v,us',P1,P2,cs,e1,e2,e3,h1,h2⟩=>by
  have hh:=h
  simp only [shares,Bool.and_eq_true] at hh
  obtain ⟨O1,O2,p,k⟩:=a9A hh.2 h2
  have hd:=hh.1
  simp only [Bool.or_eq_true,Bool.and_eq_true,decide_eq_true_eq] at hd
  subst e2
  rcases hd with rfl|⟨rfl,hnh⟩
  ·refine ⟨P1++O1,O2,by rw [List.append_assoc]; exact p.append_left P1,fun T hS hT=>⟨v,us',P1,O1,cs,e1,rfl,e3,?_,k T hS hT⟩⟩
   exact h1.o8 (fun _ _=>rfl) hS
  ·refine ⟨O1,P1++O2,?_,fun T hS hT=>⟨v,us',[],O1,cs,e1,rfl,by rw [e3]; exact (b1e (by rw [Ty.a52]) cs).symm,?_,k T hS (fun b hb=>hT b (by simp [hb]))⟩⟩
   ·refine (p.append_left P1).trans ?_
    rw [← List.append_assoc,← List.append_assoc]
    exact List.perm_append_comm.append_right O2
   ·exact h1.a0R (fun b hb=>hT b (by simp [hb])) hS hnh

theorem b66 {ps:List PK} (h:ps.all PK.reads=true):y9 ps=[]:=by
 induction ps with
 | nil=>rfl
 | cons k ps ih =>
  simp only [List.all_cons,Bool.and_eq_true] at h
  have:=ih h.2
  cases k<;>first|exact this|(exfalso; simp [PK.reads] at h; done)

theorem b4b {H:Array Go.Obj} {S:Nat→Prop}:∀ {ps:List PK},ps.all PK.reads=true→∀ {vs:List Value} {x:DK ps} {L:List Nat},K9 H S ps vs x L→L=[]
 | [],_,_,_,_,h=>h.2
 | k::ps,h,vs,x,L,⟨v,us,L1,L2,e1,e2,h1,h2⟩=>by
  simp only [List.all_cons,Bool.and_eq_true] at h
  have hL2:=b4b h.2 h2
  have hL1:L1=[]:=by
   cases k<;>first|exact h1.1|(exfalso; simp [PK.reads] at h; done)
  rw [e2,hL1,hL2]; rfl

theorem w8.Valid.share {P:Program} {f:FuncId} {c:w8} (h:c.Valid P f) (hps:c.ps.all PK.reads=true) (hno:c.rs.all Ty.F8=true) {rs':List Ty} (hrs:shares c.rs rs'=true) :
  (w8.mk c.ps rs' c.pre (fun x=>a48 c.rs rs' hrs (c.fn x)) c.out true).Valid P f:=by
 have core:∀ (w:World) (S:Nat→Prop) (vs:List Value) (x:DK c.ps) (L:List Nat),(∀ b,S b→b<w.heap.size)→Z4 P w S→c.pre x→K9 w.heap S c.ps vs x L→Q0 w.heap S c.ps none [] vs x→L.Nodup→(∀ b∈L,¬ S b∧b<w.heap.size) →
   Calls P f vs.toArray w (fun e w'=>∃ us O Lo S',e=.returned (a2H us)∧x8 L w w'∧(∀ b,S b→S' b)∧(∀ b,S' b→S b∨(w.heap.size≤b∧b<w'.heap.size)) ∧
    J4 w'.heap S' rs' O us (a48 c.rs rs' hrs (c.fn x))∧D3 w'.heap S' c.ps vs (c.out x) Lo∧(O++Lo).Nodup∧(∀ b∈O++Lo,¬ S' b∧(w.heap.size≤b∨b∈L)∧b<w'.heap.size) ∧
    J4 w'.heap (fun b=>S' b∧w.heap.size≤b) rs' O us (a48 c.rs rs' hrs (c.fn x))):=by
  intro w S vs x L hS hgl hpre hK hKl hLn hLb
  refine (h.run w S vs x L hS hgl hpre hK hKl hLn hLb).mono (fun e w' hr=>?_)
  obtain ⟨us,O,Lo,S',e1,hp,s1,s2,h1,h2,hnd,hb⟩:=hr
  have hL:=b4b hps hK
  have hLo:Lo=[]:=R5 (b66 hps) h2
  subst hL
  subst hLo
  rw [List.append_nil] at hnd hb
  obtain ⟨O1,O2,p,k⟩:=a9A hrs (h1.F8 (S':=fun _=>False) hno)
  have hnd':=p.nodup_iff.1 hnd
  have hnewb:∀ b∈O2,¬ S' b∧w.heap.size≤b∧b<w'.heap.size:=fun b hb'=>by
   obtain ⟨q0,q1,q2⟩:=hb b (p.mem_iff.2 (List.mem_append_right _ hb'))
   rcases q1 with q1|q1
   ·exact ⟨q0,q1,q2⟩
   ·cases q1
  refine ⟨us,O1,[],fun b=>S' b∨b∈O2,e1,hp,fun b hb=>.inl (s1 b hb),?_,k _ (fun b hb=>hb.elim) (fun b hb=>.inr hb),?_,by rw [List.append_nil]; exact (List.nodup_append.1 hnd').1,?_,k _ (fun b hb=>hb.elim) (fun b hb=>⟨.inr hb,(hnewb b hb).2.1⟩)⟩
  ·rintro b (hb'|hb')
   ·exact s2 b hb'
   ·exact .inr (hnewb b hb').2
  ·have hno:∀ {ks:List PK} {us:List Value} {y:DL (y9 ks)} {T:Nat→Prop},ks.all PK.reads=true→D3 w'.heap S' ks us y []→D3 w'.heap T ks us y []:=by
    intro ks
    induction ks with
    | nil=>intro us y T _ h; exact h
    | cons k ks ih =>
     intro us y T hk h
     simp only [List.all_cons,Bool.and_eq_true] at hk
     cases k<;>first
      | (obtain ⟨v,us',e,h⟩:=h; exact ⟨v,us',e,ih hk.2 h⟩)
      | (exfalso; simp [PK.reads] at hk; done)
   exact hno hps h2
  ·intro b hb1
   rw [List.append_nil] at hb1
   obtain ⟨q0,q1,q2⟩:=hb b (p.mem_iff.2 (List.mem_append_left _ hb1))
   refine ⟨?_,q1,q2⟩
   rintro (h9|h9)
   ·exact q0 h9
   ·exact (List.nodup_append.1 hnd').2.2 b hb1 b h9 rfl
 refine ⟨h.ent,fun w S vs x L hS hgl hpre hK hKl hLn hLb=>(core w S vs x L hS hgl hpre hK hKl hLn hLb).mono (fun e w' ⟨us,O,Lo,S',a1,a2,a3,a4,a5,a6,a7,a8,_⟩=>⟨us,O,Lo,S',a1,a2,a3,a4,a5,a6,a7,a8⟩),fun _=>core⟩

theorem w8.Valid.conv {P:Program} {f:FuncId} {c:w8} (h:c.Valid P f) {rs':List Ty} {fn':DK c.ps→DL rs'} (hc:∀ x,c.pre x→∀ (H:Array Go.Obj) (S:Nat→Prop) (O:List Nat) (us:List Value),J4 H S c.rs O us (c.fn x)→J4 H S rs' O us (fn' x)) :
  (w8.mk c.ps rs' c.pre fn' c.out c.new).Valid P f:=by
 refine ⟨h.ent,fun w S vs x L hS hgl hpre hK hKl hLn hLb=>?_,fun hn w S vs x L hS hgl hpre hK hKl hLn hLb=>?_⟩
 ·refine (h.run w S vs x L hS hgl hpre hK hKl hLn hLb).mono (fun e w' hr=>?_)
  obtain ⟨us,O,Lo,S',e1,hp,s1,s2,h1,h2⟩:=hr
  exact ⟨us,O,Lo,S',e1,hp,s1,s2,hc x hpre _ _ _ _ h1,h2⟩
 ·refine (h.fresh hn w S vs x L hS hgl hpre hK hKl hLn hLb).mono (fun e w' hr=>?_)
  obtain ⟨us,O,Lo,S',e1,hp,s1,s2,h1,h2,h3,h4,h5⟩:=hr
  exact ⟨us,O,Lo,S',e1,hp,s1,s2,hc x hpre _ _ _ _ h1,h2,h3,h4,hc x hpre _ _ _ _ h5⟩

end Go.Ex

namespace Go.Ex

/-! ### a function that overwrites a slice up to its capacity, by hand -/
abbrev OI:=TypeId×String×Array Edge
def H7 (x:OI) (d:Option Tmp) (op:Op):Oper:={ dst:=d,op:=op,type:=x.1,pos:=x.2.1,after:=x.2.2,guard:=none }

def a0p (S I T r:Nat) (e:Nat→OI) (ox:Op):Code :=
 .seq (.region r #[H7 (e 12) (some 12) (.binOp .lss I (.tmp 11) (.tmp 10) I)] false)
 (.seq (.cond (.tmp 12) .skip (.exit 0))
  (.seq (.block 1 (.seq (.region (r+1) #[H7 (e 13) (some 13) (.move (.tmp 11)),H7 (e 4) (some 4) (.assign (.tmp 13))] false)
   (.region (r+2) #[H7 (e 14) (some 14) (.move (.tmp 0)),H7 (e 15) (some 15) (.move (.tmp 4)),H7 (e 16) (some 16) ox,H7 (e 17) (some 17) (.indexAddr S (.tmp 14) (.tmp 15)),H7 (e 19) none (.store T (.tmp 17) (.tmp 16))] false)))
  (.region (r+3) #[H7 (e 18) (some 18) (.binOp .add I (.tmp 11) (.const (.int .i64 1)) I),H7 (e 20) (some 11) (.move (.tmp 18))] false)))

def a47 (S I T r:Nat) (e:Nat→OI) (ox:Op):Code :=
 .seq (.region r #[H7 (e 5) (some 5) (.move (.tmp 0)),H7 (e 6) (some 6) (.move (.tmp 0)),H7 (e 7) (some 7) (.call { callee:=.builtin .cap,args:=#[.tmp 6],argTypes:=#[S] }),H7 (e 8) (some 8) (.slice S (.tmp 5) none (some (.tmp 7)) none),H7 (e 0) (some 0) (.assign (.tmp 8))] false)
 (.seq (.region (r+1) #[H7 (e 9) (some 9) (.move (.tmp 0)),H7 (e 10) (some 10) (.call { callee:=.builtin .len,args:=#[.tmp 9],argTypes:=#[S] }),H7 (e 11) (some 11) (.move (.const (.int .i64 0)))] false)
 (.block 0 (.loop (a0p S I T (r+2) e ox))))

def a4o:Code→List Oper
 | .seq a b=>a4o a++a4o b
 | .cond _ a b=>a4o a++a4o b
 | .block _ c=>a4o c
 | .loop c=>a4o c
 | .region _ ops _=>ops.toList
 | _=>[]
def c02 (c:Code) (l:List Nat) (n:Nat):OI :=
 match (l.zip (a4o c)).find? (fun q=>Nat.beq q.1 n) with
 | some (_,o)=>(o.type,o.pos,o.after)
 | none=>(0,"",#[])

section
variable {P:Program} {fn:Func} {R:Ending→World→Prop} {k:List Item} {a:Act} {w:World} {S':Nat→Prop}

theorem M5 {ops:Array Oper} {Q:Exit→Act→World→Prop} {o:Oper} {rest:List Oper} (hg:o.guard=none) {v:Value} {w':World} (hr:(execOp a.eval o).run P w=.ok (.value v) w') (h:wpList P ops Q rest (a.put o.dst v) w'):wpList P ops Q (o::rest) a w:=by
 unfold wpList
 simp only [Region.wanted,hg,if_true]
 refine .inl ?_
 unfold Oper.wp
 rw [hr]
 exact h

theorem b9M {ops:Array Oper} {Q:Exit→Act→World→Prop} {o:Oper} {rest:List Oper} (hg:o.guard=none) {w':World} (hr:(execOp a.eval o).run P w=.ok .skip w') (h:wpList P ops Q rest (a.put o.dst undef) w'):wpList P ops Q (o::rest) a w:=by
 unfold wpList
 simp only [Region.wanted,hg,if_true]
 refine .inl ?_
 unfold Oper.wp
 rw [hr]
 exact h

theorem s5 {d t:Nat} {v:Value} (hd:d<a.tmps.size):(a.put (some d) v).eval (.tmp t)=if t=d then v else a.eval (.tmp t):=by
 simp only [Act.put,Act.eval]
 rw [Array.getD_eq_getD_getElem?,Array.getD_eq_getD_getElem?,Array.getElem?_setIfInBounds]
 by_cases e:d=t
 ·subst e; rw [if_pos rfl,if_pos rfl,if_pos hd]; rfl
 ·rw [if_neg e,if_neg (fun h=>e h.symm)]
theorem w7 {d:Nat} {v:Value}:(a.put (some d) v).tmps.size=a.tmps.size:=by simp [Act.put]
theorem a05 {o:Oper} {x:OI} {d:Option Tmp} {y:Operand} (ho:o=H7 x d (.move y)):(execOp a.eval o).run P w=.ok (.value (a.eval y)) w:=by subst ho; simp [execOp,H7]
theorem a9Z {o:Oper} {x:OI} {d:Option Tmp} {y:Operand} (ho:o=H7 x d (.assign y)):(execOp a.eval o).run P w=.ok (.value (a.eval y)) w:=by subst ho; simp [execOp,H7]

structure c1o (P:Program) (b:Nat) (ox:Op) (xv:Value) (X:Act→World→Prop):Prop where
 run:∀ a w,X a w→∀ o:Oper,o.op=ox→(execOp a.eval o).run P w=.ok (.value xv) w
 put:∀ a w d v,X a w→d≠1→d≠3→d<a.tmps.size→X (a.put (some d) v) w
 mem:∀ a w w',X a w→(∀ c,c≠b→w'.heap[c]?=w.heap[c]?)→X a w'

variable {S I T:Nat} {e:Nat→OI} {ox:Op} {t:Ty} {r:Nat} {xv:Value} {ds:List Value} {x:t.den} {b off cap:Nat} {A:Option Addr} {X:Act→World→Prop} {w0:World} {S0:Nat→Prop}

structure SpD (t:Ty) (ds:List Value) (b off cap:Nat) (w0:World) (i:Nat) (w:World):Prop where
 a8R:x8 [b] w0 w
 free:O8 t.isB w.heap b (off+cap*t.size)
 cells:d9 w.heap b off (i*t.size)=(List.replicate i ds).flatten

theorem b6Y (hS:o4 P 100 S (.d0 true t)=true) (hI:P.underlying I=some (.int .i64)) (hT:o4 P 100 T t=true) (hX:c1o P b ox xv X) (hxv:xv=i8 t ds) (hx:f8 w0.heap S0 t [] ds x) (hS0:∀ c,S0 c→c<w0.heap.size) (hbS:¬ S0 b) (hb:b<w0.heap.size)
  (hcap:(cap:Int)≤9223372036854775807)
  (hk:∀ a w,a.tmps.size=19→a.defers=[]→SpD t ds b off cap w0 cap w→At P fn R k a w):∀ (m i:Nat),i+m=cap→∀ (a:Act) (w:World),a.tmps.size=19→a.defers=[]→a.eval (.tmp 0)=.slice (some ⟨b,off,none⟩) cap cap→a.eval (.tmp 10)=.int .i64 cap→a.eval (.tmp 11)=.int .i64 i→X a w→SpD t ds b off cap w0 i w →
  At P fn R (.code (a0p S I T r e ox)::.inLoop (a0p S I T r e ox)::.inBlock 0::k) a w
 | m,i,him,a,w,hsz,hdf,h0,h10,h11,hXa,hD=>by
  unfold a0p
  refine At.step (fun _ _=>step_seq) (At.region (wp_region_list ?_))
  refine M5 rfl (v:=.bool (decide ((i:Int)<(cap:Int)))) (w':=w) ?_ ?_
  ·rw [N8 (op:=.lss) (T:=I) (T':=I) (x:=.tmp 11) (y:=.tmp 10) rfl (by rw [h11,h10]; simp [eqGuard]) (r:=.ok (.bool (decide ((i:Int)<(cap:Int)))) w) (by rw [h11,h10]; simp only [binOp,Sem.run_bind,o7 hI,Result.andThen_ok]; rfl)]
   rfl
  refine ⟨rfl,?_⟩
  refine At.step (fun _ _=>step_seq) ?_
  have hc12:(a.put (some 12) (.bool (decide ((i:Int)<(cap:Int))))).eval (.tmp 12)=.bool (decide ((i:Int)<(cap:Int))):=by rw [s5 (by omega),if_pos rfl]
  refine At.step (fun _ _=>step_cond hc12) ?_
  by_cases hic:(i:Int)<(cap:Int)
  ·rw [decide_eq_true hic,if_pos rfl]
   dsimp only [H7]
   have hXa1:=hX.put _ _ 12 (.bool true) hXa (by decide) (by decide) (by omega)
   have hsz1:(a.put (some 12) (.bool true)).tmps.size=19:=by rw [w7,hsz]
   have g0:(a.put (some 12) (.bool true)).eval (.tmp 0)=.slice (some ⟨b,off,none⟩) cap cap:=by rw [s5 (by omega),if_neg (by decide),h0]
   have g10:(a.put (some 12) (.bool true)).eval (.tmp 10)=.int .i64 cap:=by rw [s5 (by omega),if_neg (by decide),h10]
   have g11:(a.put (some 12) (.bool true)).eval (.tmp 11)=.int .i64 i:=by rw [s5 (by omega),if_neg (by decide),h11]
   have gdf:(a.put (some 12) (.bool true)).defers=[]:=hdf
   generalize a.put (some 12) (.bool true)=a1 at *
   refine At.step (fun _ _=>step_skip) (At.step (fun _ _=>step_seq) (At.step (fun _ _=>step_block) (At.step (fun _ _=>step_seq) (At.region (wp_region_list ?_)))))
   refine M5 rfl (a05 rfl) ?_
   refine M5 rfl (a9Z rfl) ?_
   refine ⟨rfl,At.region (wp_region_list ?_)⟩
   have hv13:(a1.put (some 13) (a1.eval (.tmp 11))).eval (.tmp 13)=.int .i64 i:=by rw [s5 (by omega),if_pos rfl,g11]
   dsimp only
   rw [hv13]
   have hXa2:=hX.put _ _ 4 (.int .i64 i) (hX.put _ _ 13 (a1.eval (.tmp 11)) hXa1 (by decide) (by decide) (by omega)) (by decide) (by decide) (by rw [w7]; omega)
   have hsz2:((a1.put (some 13) (a1.eval (.tmp 11))).put (some 4) (.int .i64 i)).tmps.size=19:=by rw [w7,w7,hsz1]
   have f0:((a1.put (some 13) (a1.eval (.tmp 11))).put (some 4) (.int .i64 i)).eval (.tmp 0)=.slice (some ⟨b,off,none⟩) cap cap:=by rw [s5 (by rw [w7]; omega),if_neg (by decide),s5 (by omega),if_neg (by decide),g0]
   have f10:((a1.put (some 13) (a1.eval (.tmp 11))).put (some 4) (.int .i64 i)).eval (.tmp 10)=.int .i64 cap:=by rw [s5 (by rw [w7]; omega),if_neg (by decide),s5 (by omega),if_neg (by decide),g10]
   have f11:((a1.put (some 13) (a1.eval (.tmp 11))).put (some 4) (.int .i64 i)).eval (.tmp 11)=.int .i64 i:=by rw [s5 (by rw [w7]; omega),if_neg (by decide),s5 (by omega),if_neg (by decide),g11]
   have f4:((a1.put (some 13) (a1.eval (.tmp 11))).put (some 4) (.int .i64 i)).eval (.tmp 4)=.int .i64 i:=by rw [s5 (by rw [w7]; omega),if_pos rfl]
   have fdf:((a1.put (some 13) (a1.eval (.tmp 11))).put (some 4) (.int .i64 i)).defers=[]:=gdf
   generalize (a1.put (some 13) (a1.eval (.tmp 11))).put (some 4) (.int .i64 i)=a2 at *
   refine M5 rfl (a05 (x:=e 14) (d:=some 14) rfl) ?_
   rw [f0]
   refine M5 rfl (a05 (x:=e 15) (d:=some 15) rfl) ?_
   have q4:(a2.put (some 14) (.slice (some ⟨b,off,none⟩) cap cap)).eval (.tmp 4)=.int .i64 i:=by rw [s5 (by omega),if_neg (by decide),f4]
   simp only [q4]
   have hXa3:=hX.put _ _ 15 (.int .i64 i) (hX.put _ _ 14 (.slice (some ⟨b,off,none⟩) cap cap) hXa2 (by decide) (by decide) (by omega)) (by decide) (by decide) (by rw [w7]; omega)
   have hsz3:((a2.put (some 14) (.slice (some ⟨b,off,none⟩) cap cap)).put (some 15) (.int .i64 i)).tmps.size=19:=by rw [w7,w7,hsz2]
   refine M5 rfl (v:=xv) (w':=w) (hX.run _ _ hXa3 _ rfl) ?_
   have hXa4:=hX.put _ _ 16 xv hXa3 (by decide) (by decide) (by omega)
   have u14:(((a2.put (some 14) (.slice (some ⟨b,off,none⟩) cap cap)).put (some 15) (.int .i64 i)).put (some 16) xv).eval (.tmp 14)=.slice (some ⟨b,off,none⟩) cap cap:=by
    rw [s5 (by omega),if_neg (by decide),s5 (by rw [w7]; omega),if_neg (by decide),s5 (by omega),if_pos rfl]
   have u15:(((a2.put (some 14) (.slice (some ⟨b,off,none⟩) cap cap)).put (some 15) (.int .i64 i)).put (some 16) xv).eval (.tmp 15)=.int .i64 i:=by
    rw [s5 (by omega),if_neg (by decide),s5 (by rw [w7]; omega),if_pos rfl]
   have u16:(((a2.put (some 14) (.slice (some ⟨b,off,none⟩) cap cap)).put (some 15) (.int .i64 i)).put (some 16) xv).eval (.tmp 16)=xv:=by
    rw [s5 (by omega),if_pos rfl]
   have u10:(((a2.put (some 14) (.slice (some ⟨b,off,none⟩) cap cap)).put (some 15) (.int .i64 i)).put (some 16) xv).eval (.tmp 10)=.int .i64 cap:=by
    rw [s5 (by omega),if_neg (by decide),s5 (by rw [w7]; omega),if_neg (by decide),s5 (by omega),if_neg (by decide),f10]
   have u11:(((a2.put (some 14) (.slice (some ⟨b,off,none⟩) cap cap)).put (some 15) (.int .i64 i)).put (some 16) xv).eval (.tmp 11)=.int .i64 i:=by
    rw [s5 (by omega),if_neg (by decide),s5 (by rw [w7]; omega),if_neg (by decide),s5 (by omega),if_neg (by decide),f11]
   have u0:(((a2.put (some 14) (.slice (some ⟨b,off,none⟩) cap cap)).put (some 15) (.int .i64 i)).put (some 16) xv).eval (.tmp 0)=.slice (some ⟨b,off,none⟩) cap cap:=by
    rw [s5 (by omega),if_neg (by decide),s5 (by rw [w7]; omega),if_neg (by decide),s5 (by omega),if_neg (by decide),f0]
   have hsz4:(((a2.put (some 14) (.slice (some ⟨b,off,none⟩) cap cap)).put (some 15) (.int .i64 i)).put (some 16) xv).tmps.size=19:=by rw [w7,hsz3]
   have udf:(((a2.put (some 14) (.slice (some ⟨b,off,none⟩) cap cap)).put (some 15) (.int .i64 i)).put (some 16) xv).defers=[]:=fdf
   generalize ((a2.put (some 14) (.slice (some ⟨b,off,none⟩) cap cap)).put (some 15) (.int .i64 i)).put (some 16) xv=a3 at *
   refine M5 rfl (v:=.pointer (some ⟨b,off+i*t.size,none⟩)) (w':=w) ?_ ?_
   ·have:=M7 (w:=w) hS b off cap cap (kd:=.i64) (n:=(i:Int)) ⟨by omega,by omega⟩
    rw [Int.toNat_natCast] at this
    simp only [execOp,u14,u15,Sem.run_bind,this,Result.andThen_ok,Sem.run_pure]
   -- the store
   have hmul:i*t.size+t.size≤cap*t.size:=by rw [← Nat.succ_mul]; exact Nat.mul_le_mul_right _ (by omega)
   have hxw:f8 w.heap S0 t [] ds x:=hx.o8 (fun c hc=>hD.a8R.frame c (hc.elim (fun h=>by cases h) (hS0 c)) (by rintro h; rw [List.mem_singleton] at h; subst h; exact hc.elim (fun h=>by cases h) hbS)) (fun _ h=>h)
   have hfr:K1 w.heap b (off+i*t.size+t.size):=by
    obtain ⟨arr,T9,hl9,hn⟩:=hD.free.free
    exact ⟨arr,T9,hl9,by omega⟩
   have hsv:(storeVar T ⟨b,off+i*t.size,none⟩ xv).run P w=.ok () (w.setRow b (B0 (q8 w.heap b) (off+i*t.size) ds).toArray):=by
    rw [hxv]; exact a1d hT rfl hfr hxw
   have v17:(a3.put (some 17) (.pointer (some ⟨b,off+i*t.size,none⟩))).eval (.tmp 17)=.pointer (some ⟨b,off+i*t.size,none⟩):=by rw [s5 (by omega),if_pos rfl]
   have v16:(a3.put (some 17) (.pointer (some ⟨b,off+i*t.size,none⟩))).eval (.tmp 16)=xv:=by rw [s5 (by omega),if_neg (by decide),u16]
   refine b9M rfl (w':=w.setRow b (B0 (q8 w.heap b) (off+i*t.size) ds).toArray) ?_ ?_
   ·simp only [execOp,v17,v16,Instr.storeAt,Instr.sureAddr,Sem.run_bind,Sem.run_pure,Result.andThen_ok,hsv]
   have hds:ds.length=t.size:=hx.length
   obtain ⟨hch,hcs⟩:=a0Y (w:=w) (b:=b) (off:=off+i*t.size) (cs:=ds) (by rw [hds]; exact hfr)
   have hbw:b<w.heap.size:=Nat.lt_of_lt_of_le hb hD.a8R.size
   have hD':SpD t ds b off cap w0 (i+1) (w.setRow b (B0 (q8 w.heap b) (off+i*t.size) ds).toArray):=by
    refine ⟨hD.a8R.trans (O':=[b]) ⟨rfl,.of rfl rfl,rfl,by rw [setRow_size]; exact Nat.le_refl _,fun c _ hcb=>setRow_other (by simpa using hcb)⟩ (fun c hc=>.inl hc),hch.b0Y hD.free,?_⟩
    have hcs2:=hcs
    rw [hds] at hcs2
    rw [Nat.succ_mul,Z3,hch.cells hbw (fun _=>.inl (Nat.le_refl _)),hD.cells,hcs2,List.replicate_succ',List.flatten_append]
    simp
   have hXa5:=hX.mem _ _ (w.setRow b (B0 (q8 w.heap b) (off+i*t.size) ds).toArray) (hX.put _ _ 17 (.pointer (some ⟨b,off+i*t.size,none⟩)) hXa4 (by decide) (by decide) (by omega)) (fun c hc=>setRow_other hc)
   have w0e:(a3.put (some 17) (.pointer (some ⟨b,off+i*t.size,none⟩))).eval (.tmp 0)=.slice (some ⟨b,off,none⟩) cap cap:=by rw [s5 (by omega),if_neg (by decide),u0]
   have w10:(a3.put (some 17) (.pointer (some ⟨b,off+i*t.size,none⟩))).eval (.tmp 10)=.int .i64 cap:=by rw [s5 (by omega),if_neg (by decide),u10]
   have w11:(a3.put (some 17) (.pointer (some ⟨b,off+i*t.size,none⟩))).eval (.tmp 11)=.int .i64 i:=by rw [s5 (by omega),if_neg (by decide),u11]
   have hsz5:(a3.put (some 17) (.pointer (some ⟨b,off+i*t.size,none⟩))).tmps.size=19:=by rw [w7,hsz4]
   have wdf:(a3.put (some 17) (.pointer (some ⟨b,off+i*t.size,none⟩))).defers=[]:=udf
   generalize w.setRow b (B0 (q8 w.heap b) (off+i*t.size) ds).toArray=w2 at *
   show _=_∧At P fn R _ (a3.put (some 17) (.pointer (some ⟨b,off+i*t.size,none⟩))) w2
   generalize a3.put (some 17) (.pointer (some ⟨b,off+i*t.size,none⟩))=a4 at *
   refine ⟨rfl,At.step (fun _ _=>step_inBlock) (At.region (wp_region_list ?_))⟩
   have hwr:IntKind.i64.wrap ((i:Int)+1)=((i+1:Nat):Int):=by
    rw [show (i:Int)+1=((i+1:Nat):Int) by omega]
    exact L6 (by unfold B2; simp [IntKind.min,IntKind.max,IntKind.signed,IntKind.bits]; omega)
   refine M5 rfl (v:=.int .i64 ((i+1:Nat):Int)) (w':=w2) ?_ ?_
   ·rw [N8 (op:=.add) (T:=I) (T':=I) (x:=.tmp 11) (y:=.const (.int .i64 1)) rfl (by rw [w11]; simp [eqGuard,Act.eval]) (r:=.ok (.int .i64 ((i+1:Nat):Int)) w2) (by rw [w11]; simp only [Act.eval]; rw [← hwr]; simp only [binOp,Sem.run_bind,o7 hI,Result.andThen_ok]; rfl)]
    rfl
   refine M5 rfl (a05 (x:=e 20) (d:=some 11) rfl) ?_
   have x18:(a4.put (some 18) (.int .i64 ((i+1:Nat):Int))).eval (.tmp 18)=.int .i64 ((i+1:Nat):Int):=by rw [s5 (by omega),if_pos rfl]
   simp only [H7,x18]
   refine ⟨rfl,At.step (fun _ _=>step_inLoop) ?_⟩
   obtain ⟨m,rfl⟩:∃ m',m=m'+1:=⟨m - 1,by omega⟩
   refine b6Y hS hI hT hX hxv hx hS0 hbS hb hcap hk m (i+1) (by omega) _ w2 (by rw [w7,w7,hsz5]) wdf ?_ ?_ ?_ ?_ hD'
   ·rw [s5 (by rw [w7]; omega),if_neg (by decide),s5 (by omega),if_neg (by decide),w0e]
   ·rw [s5 (by rw [w7]; omega),if_neg (by decide),s5 (by omega),if_neg (by decide),w10]
   ·rw [s5 (by rw [w7]; omega),if_pos rfl]
   ·exact hX.put _ _ 11 _ (hX.put _ _ 18 _ hXa5 (by decide) (by decide) (by omega)) (by decide) (by decide) (by rw [w7]; omega)
  ·rw [decide_eq_false hic,if_neg (by decide)]
   obtain rfl:i=cap:=by omega
   refine At.step (fun _ _=>step_exit (k':=k) rfl) ?_
   exact hk _ _ (by show (a.put (some 12) _).tmps.size=19; rw [w7,hsz]) hdf hD
termination_by m=>m

theorem b9X (hI:P.underlying I=some (.int .i64)) (hsz:a.tmps.size=19) (hdf:a.defers=[]) (h10:a.eval (.tmp 10)=.int .i64 0) (h11:a.eval (.tmp 11)=.int .i64 0)
  (hk:∀ a,a.tmps.size=19→a.defers=[]→At P fn R k a w):At P fn R (.code (a0p S I T r e ox)::.inLoop (a0p S I T r e ox)::.inBlock 0::k) a w:=by
 unfold a0p
 refine At.step (fun _ _=>step_seq) (At.region (wp_region_list ?_))
 refine M5 rfl (v:=.bool false) (w':=w) ?_ ?_
 ·rw [N8 (op:=.lss) (T:=I) (T':=I) (x:=.tmp 11) (y:=.tmp 10) rfl (by rw [h11,h10]; simp [eqGuard]) (r:=.ok (.bool false) w) (by rw [h11,h10]; simp only [binOp,Sem.run_bind,o7 hI,Result.andThen_ok]; rfl)]
  rfl
 refine ⟨rfl,At.step (fun _ _=>step_seq) ?_⟩
 have hc12:(a.put (some 12) (.bool false)).eval (.tmp 12)=.bool false:=by rw [s5 (by omega),if_pos rfl]
 refine At.step (fun _ _=>step_cond hc12) ?_
 refine At.step (fun _ _=>step_exit (k':=k) rfl) ?_
 exact hk _ (by show (a.put (some 12) _).tmps.size=19; rw [w7,hsz]) hdf

theorem b6Z {len:Nat} (hS:o4 P 100 S (.d0 true t)=true) (hcap:(cap:Int)≤9223372036854775807) (hsz:a.tmps.size=19) (hdf:a.defers=[]) (h0:a.eval (.tmp 0)=.slice A len cap) (hlen:len≤cap)
  (hk:∀ a':Act,a'.tmps.size=19→a'.defers=[]→a'.eval (.tmp 0)=.slice A cap cap→a'.eval (.tmp 10)=.int .i64 cap→a'.eval (.tmp 11)=.int .i64 0→(∀ s:Nat,s≠0→s<4→a'.eval (.tmp s)=a.eval (.tmp s)) →
   At P fn R (.code (a0p S I T (r+2) e ox)::.inLoop (a0p S I T (r+2) e ox)::.inBlock 0::k) a' w):At P fn R (.code (a47 S I T r e ox)::k) a w:=by
 unfold a47
 refine At.step (fun _ _=>step_seq) (At.region (wp_region_list ?_))
 obtain ⟨et,k2,e1,e2,e3⟩:=C1 hS
 refine M5 rfl (a05 rfl) ?_
 refine M5 rfl (a05 rfl) ?_
 rw [h0]
 dsimp only [H7]
 have p0:(a.put (some 5) (.slice A len cap)).eval (.tmp 0)=.slice A len cap:=by rw [s5 (by omega),if_neg (by decide),h0]
 rw [p0]
 have q6:((a.put (some 5) (.slice A len cap)).put (some 6) (.slice A len cap)).eval (.tmp 6)=.slice A len cap:=by rw [s5 (by rw [w7]; omega),if_pos rfl]
 have q5:((a.put (some 5) (.slice A len cap)).put (some 6) (.slice A len cap)).eval (.tmp 5)=.slice A len cap:=by rw [s5 (by rw [w7]; omega),if_neg (by decide),s5 (by omega),if_pos rfl]
 have hsz2:((a.put (some 5) (.slice A len cap)).put (some 6) (.slice A len cap)).tmps.size=19:=by rw [w7,w7,hsz]
 have hold:∀ s:Nat,s<4→((a.put (some 5) (.slice A len cap)).put (some 6) (.slice A len cap)).eval (.tmp s)=a.eval (.tmp s):=fun s hs=>by rw [s5 (by rw [w7]; omega),if_neg (by omega),s5 (by omega),if_neg (by omega)]
 have hdf2:((a.put (some 5) (.slice A len cap)).put (some 6) (.slice A len cap)).defers=[]:=hdf
 generalize (a.put (some 5) (.slice A len cap)).put (some 6) (.slice A len cap)=a1 at *
 refine M5 rfl (v:=.int .i64 cap) (w':=w) ?_ ?_
 ·simp [execOp,resolve,invoke,builtin,q6,Builtin.cap_,o7 e1,goInt]
 have v7:(a1.put (some 7) (.int .i64 cap)).eval (.tmp 7)=.int .i64 cap:=by rw [s5 (by omega),if_pos rfl]
 have v5:(a1.put (some 7) (.int .i64 cap)).eval (.tmp 5)=.slice A len cap:=by rw [s5 (by omega),if_neg (by decide),q5]
 have hsl:=a1e (w:=w) (a:=a1.put (some 7) (.int .i64 cap)) hS (A:=A) (len:=len) (cap:=cap) (lo:=none) (hi:=some (.tmp 7)) (x:=0) (y:=(cap:Int)) rfl ⟨.i64,v7⟩ (Int.le_refl _) (by omega) (Int.le_refl _)
 have hA:(if cap=Int.toNat 0 then A else A.map (·.add (Int.toNat 0*t.size)))=A:=by
  split
  ·rfl
  ·cases A with
   | none=>rfl
   | some A=>simp only [Int.toNat_zero,Nat.zero_mul,Option.map_some]; rfl
 rw [hA] at hsl
 simp only [Int.toNat_natCast,Int.toNat_zero,Nat.sub_zero,Option.map_none] at hsl
 refine M5 rfl (v:=.slice A cap cap) (w':=w) ?_ ?_
 ·simp only [execOp,v5,Option.map_none,Sem.run_bind,hsl,Result.andThen_ok,Sem.run_pure]
 refine M5 rfl (a9Z (x:=e 0) (d:=some 0) rfl) ?_
 have v8:((a1.put (some 7) (.int .i64 cap)).put (some 8) (.slice A cap cap)).eval (.tmp 8)=.slice A cap cap:=by rw [s5 (by rw [w7]; omega),if_pos rfl]
 dsimp only [H7]
 rw [v8]
 have y0:(((a1.put (some 7) (.int .i64 cap)).put (some 8) (.slice A cap cap)).put (some 0) (.slice A cap cap)).eval (.tmp 0)=.slice A cap cap:=by rw [s5 (by rw [w7,w7]; omega),if_pos rfl]
 have hsz3:(((a1.put (some 7) (.int .i64 cap)).put (some 8) (.slice A cap cap)).put (some 0) (.slice A cap cap)).tmps.size=19:=by rw [w7,w7,w7,hsz2]
 have hold2:∀ s:Nat,s≠0→s<4→(((a1.put (some 7) (.int .i64 cap)).put (some 8) (.slice A cap cap)).put (some 0) (.slice A cap cap)).eval (.tmp s)=a.eval (.tmp s):=fun s h1 hs=>by
  rw [s5 (by rw [w7,w7]; omega),if_neg h1,s5 (by rw [w7]; omega),if_neg (by omega),s5 (by omega),if_neg (by omega),hold s hs]
 have hdf3:(((a1.put (some 7) (.int .i64 cap)).put (some 8) (.slice A cap cap)).put (some 0) (.slice A cap cap)).defers=[]:=hdf2
 generalize ((a1.put (some 7) (.int .i64 cap)).put (some 8) (.slice A cap cap)).put (some 0) (.slice A cap cap)=a2 at *
 refine ⟨rfl,At.step (fun _ _=>step_seq) (At.region (wp_region_list ?_))⟩
 refine M5 rfl (a05 (x:=e 9) (d:=some 9) rfl) ?_
 rw [y0]
 have z9:(a2.put (some 9) (.slice A cap cap)).eval (.tmp 9)=.slice A cap cap:=by rw [s5 (by omega),if_pos rfl]
 refine M5 rfl (v:=.int .i64 cap) (w':=w) ?_ ?_
 ·have:=a8V (w:=w) (ty:=(e 10).1) hS (v:=.slice A cap cap) (n:=cap) (.inl ⟨true,t,A,0,cap,rfl,rfl,rfl⟩)
  simp [execOp,resolve,invoke,builtin,z9,this]
 refine M5 rfl (a05 (x:=e 11) (d:=some 11) rfl) ?_
 dsimp only
 refine ⟨rfl,At.step (fun _ _=>step_block) (At.step (fun _ _=>step_loop) ?_)⟩
 refine hk _ ?_ hdf3 ?_ ?_ ?_ ?_
 ·rw [w7,w7,w7,hsz3]
 ·rw [s5 (by rw [w7,w7]; omega),if_neg (by decide),s5 (by rw [w7]; omega),if_neg (by decide),s5 (by omega),if_neg (by decide),y0]
 ·rw [s5 (by rw [w7,w7]; omega),if_neg (by decide),s5 (by rw [w7]; omega),if_pos rfl]
 ·rw [s5 (by rw [w7,w7]; omega),if_pos rfl]; rfl
 ·intro s h1 hs
  rw [s5 (by rw [w7,w7]; omega),if_neg (by omega),s5 (by rw [w7]; omega),if_neg (by omega),s5 (by omega),if_neg (by omega),hold2 s h1 hs]

theorem b1q {H:Array Go.Obj} (h:f8 H S0 t [] ds x):∀ n:Nat,i6 (f8 H S0 t) t.size [] (List.replicate n ds).flatten (List.replicate n x)
 | 0=>⟨rfl,rfl⟩
 | n+1=>⟨[],[],rfl,by rw [List.replicate_succ,List.flatten_cons,List.take_left' h.length]; exact h,by rw [List.replicate_succ,List.flatten_cons,List.drop_left' h.length]; exact b1q h n⟩

def a7C (t:Ty):w8:={ ps:=[.mu t,.v t],rs:=[],pre:=fun _=>True,fn:=fun _=>(),out:=fun x=>(List.replicate (List.length (α:=t.den) x.1) x.2.1,()) }

theorem a7B (hS:o4 P 100 S (.d0 true t)=true) (hI:P.underlying I=some (.int .i64)) (hT:o4 P 100 T t=true) (hres:fn.results=#[]) {w w1:World} {L:List Nat} {cs:List Value} {l:List t.den} (hR:f8 w.heap S0 (.d0 true t) L cs l) (hx:f8 w.heap S0 t [] ds x)
  (hS0:∀ c,S0 c→c<w.heap.size) (hnd:L.Nodup) (hL:∀ b∈L,¬ S0 b∧b<w.heap.size) (hp1:x8 [] w w1) (hsz:a.tmps.size=19) (hdf:a.defers=[]) (h0:a.eval (.tmp 0)=i8 (.d0 true t) cs)
  (hX:∀ b,b∈L→c1o P b ox (i8 t ds) X) (hXa:X a w1) (hXs:∀ a':Act,(∀ s:Nat,s≠0→s<4→a'.eval (.tmp s)=a.eval (.tmp s))→X a' w1) :
  At P fn (a1v w S0 [] [.mu t,.v t] [i8 (.d0 true t) cs,i8 t ds] L () (List.replicate l.length x,())) [.code (a47 S I T r e ox)] a w1:=by
 have hresr:∀ tm w',(results fn tm).run P w'=.ok (.tuple #[]) w':=fun tm w'=>by simp [results,hres,Sem.run]
 rcases hR with ⟨rfl,⟨A,c,rfl,hc⟩,hl⟩|⟨b,off,cap,O',rfl,hl,hcm,hbk,hRL,rfl,hfree⟩
 ·have hl:l=[]:=hl
  subst hl
  obtain rfl:=hc rfl
  refine b6Z hS (cap:=0) (by decide) hsz hdf h0 (Nat.le_refl _) (fun a' g1 g2 g3 g4 g5 g6=>?_)
  refine b9X hI g1 g2 g4 g5 (fun a2 g7 g8=>At.done ⟨g8,.tuple #[],hresr _ _,?_⟩)
  refine ⟨[],[],[],S0,rfl,hp1,fun _ h=>h,fun _ h=>.inl h,⟨rfl,rfl⟩,⟨[.slice A 0 0],[],[i8 t ds],[],rfl,rfl,.inl ⟨rfl,⟨A,0,rfl,fun _=>rfl⟩,rfl⟩,rfl,_,_,rfl,rfl,rfl⟩,List.nodup_nil,by simp⟩
 ·obtain ⟨hbS,hbw⟩:=hL b (by simp)
  have hbw1:b<w1.heap.size:=Nat.lt_of_lt_of_le hbw hp1.size
  have hcap:(cap:Int)≤9223372036854775807:=by have:=hcm.1; unfold maxLen at this; omega
  have hl:l.length≤cap:=hl
  have hx1:f8 w1.heap S0 t [] ds x:=hx.o8 (fun c hc=>hp1.frame c (hc.elim (fun h=>by cases h) (hS0 c)) (by simp)) (fun _ h=>h)
  have hb1:w1.heap[b]?=w.heap[b]?:=hp1.frame b hbw (by simp)
  have hfree1:O8 t.isB w1.heap b (off+cap*t.size):=by
   obtain ⟨arr,T9,⟨fz,q1,q2⟩,q3⟩:=hfree
   exact ⟨arr,T9,⟨fz,hb1.trans q1,q2⟩,q3⟩
  refine b6Z hS hcap hsz hdf h0 hl (fun a' g1 g2 g3 g4 g5 g6=>?_)
  refine b6Y (w0:=w1) (S0:=S0) (b:=b) (off:=off) (cap:=cap) (x:=x) (ds:=ds) (X:=X) hS hI hT (hX b (by simp)) rfl hx1 (fun c hc=>Nat.lt_of_lt_of_le (hS0 c hc) hp1.size) hbS hbw1 hcap (fun a2 w2 g7 g8 hD=>At.done ⟨g8,.tuple #[],hresr _ _,?_⟩) cap 0 (by omega) a' w1 g1 g2 g3 g4 g5 (hXs a' g6) ⟨⟨rfl,.refl _,rfl,Nat.le_refl _,fun _ _ _=>rfl⟩,hfree1,by simp [d9]⟩
  have hx2:f8 w2.heap S0 t [] ds x:=hx1.o8 (fun c hc=>hD.a8R.frame c (hc.elim (fun h=>by cases h) (fun h=>Nat.lt_of_lt_of_le (hS0 c h) hp1.size)) (by rw [List.mem_singleton]; rintro rfl; exact hc.elim (fun h=>by cases h) hbS)) (fun _ h=>h)
  have hle:l.length*t.size≤cap*t.size:=Nat.mul_le_mul_right _ hl
  have hcl:d9 w2.heap b off (l.length*t.size)=(List.replicate l.length ds).flatten:=by
   have h9:=congrArg (List.take (l.length*t.size)) hD.cells
   rw [l7 _ _ _ _ hle] at h9
   rw [h9,show cap=l.length+(cap - l.length) by omega,← List.replicate_append_replicate,List.flatten_append,List.take_left']
   simp [hx.length]
  have hz:f8 w2.heap S0 (.d0 true t) [b] [.slice (some ⟨b,off,none⟩) l.length cap] (List.replicate l.length x):=by
   refine .inr ⟨b,off,cap,[],by rw [List.length_replicate],by rw [List.length_replicate]; exact hl,hcm,?_,?_,rfl,hD.free⟩
   ·rw [List.length_replicate]
    have:=hD.free.free.q8
    omega
   ·rw [List.length_replicate,hcl]
    exact b1q hx2 _
  refine ⟨[],[],[b],S0,rfl,?_,fun _ h=>h,fun _ h=>.inl h,⟨rfl,rfl⟩,⟨_,[b],[i8 t ds],[],rfl,rfl,hz,rfl,_,_,rfl,rfl,rfl⟩,by simp,fun c hc=>?_⟩
  ·exact (hp1.mono (O':=b::O') (by simp)).trans (hD.a8R.mono (O':=b::O') (by simp)) (fun c hc=>.inl hc)
  ·have hc:c=b:=by simpa using hc
   subst hc
   exact ⟨hbS,.inr (by simp),Nat.lt_of_lt_of_le hbw1 hD.a8R.size⟩

theorem c0O {u v:Value} {xs:Array Value}:({ tmps:=#[u,v]++xs,defers:=[] }:Act).eval (.tmp 0)=u:=by
 show (#[u,v]++xs).getD 0 undef=u
 rw [Array.getD_eq_getD_getElem?,Array.getElem?_append_left (by simp)]; rfl
theorem b8g {u v:Value} {xs:Array Value}:({ tmps:=#[u,v]++xs,defers:=[] }:Act).eval (.tmp 1)=v:=by
 show (#[u,v]++xs).getD 1 undef=v
 rw [Array.getD_eq_getD_getElem?,Array.getElem?_append_left (by simp)]; rfl

theorem b3a {f:FuncId} (hS:o4 P 100 S (.d0 true t)=true) (hI:P.underlying I=some (.int .i64)) (hT:o4 P 100 T t=true) (hf:P.funcs[f]?=some fn) (hb:fn.body=some (a47 S I T 0 e (.move (.tmp 1)))) (hname:(fn.name == "runtime.NumGoroutine")=false) (hnt:fn.ntmps=19) (hres:fn.results=#[]):(a7C t).Valid P f:=by
 refine ⟨⟨fn,hf,hname,by rw [hb]; rfl⟩,?_,fun h=>by cases h⟩
 rintro w S0 vs ⟨l,x,_⟩ L hS0 - - ⟨v,us,L1,L2,rfl,rfl,⟨cs,rfl,hR⟩,⟨v2,us2,L3,L4,rfl,rfl,⟨rfl,ds,rfl,hx⟩,rfl,rfl⟩⟩ - hnd hL
 simp only [List.append_nil] at hnd hL ⊢
 refine a3E hf hb ?_
 have hsz:((#[i8 (.d0 true t) cs,i8 t ds]:Array Value)++Array.replicate (fn.ntmps - #[i8 (.d0 true t) cs,i8 t ds].size) undef).size=19:=by rw [hnt]; simp
 refine a7B (X:=fun a _=>a.eval (.tmp 1)=i8 t ds) hS hI hT hres hR hx hS0 hnd hL ⟨rfl,.refl _,rfl,Nat.le_refl _,fun _ _ _=>rfl⟩ hsz rfl ?_ (fun b _=>⟨fun a w h o ho=>by simp [execOp,ho,h],fun a w d v h h1 _ hd=>by rw [s5 hd,if_neg (fun h=>h1 h.symm)]; exact h,fun a w w' h _=>h⟩) ?_ (fun a' h=>?_)
 ·exact c0O
 ·exact b8g
 ·rw [h 1 (by decide) (by decide)]; exact b8g

theorem b1h {f:FuncId} (hS:o4 P 100 S (.d0 true t)=true) (hI:P.underlying I=some (.int .i64)) (hT:o4 P 100 T t=true) (hf:P.funcs[f]?=some fn) (hb:fn.body=some (.seq (.region 0 #[H7 (e 3) (some 3) (.box T (.tmp 1))] false) (a47 S I T 1 e (.load T (.tmp 3))))) (hname:(fn.name == "runtime.NumGoroutine")=false) (hnt:fn.ntmps=19) (hres:fn.results=#[]):(a7C t).Valid P f:=by
 refine ⟨⟨fn,hf,hname,by rw [hb]; rfl⟩,?_,fun h=>by cases h⟩
 rintro w S0 vs ⟨l,x,_⟩ L hS0 - - ⟨v,us,L1,L2,rfl,rfl,⟨cs,rfl,hR⟩,⟨v2,us2,L3,L4,rfl,rfl,⟨rfl,ds,rfl,hx⟩,rfl,rfl⟩⟩ - hnd hL
 simp only [List.append_nil] at hnd hL ⊢
 refine a3E hf hb ?_
 have hsz:({ tmps:=(#[i8 (.d0 true t) cs,i8 t ds]:Array Value)++Array.replicate (fn.ntmps - #[i8 (.d0 true t) cs,i8 t ds].size) undef,defers:=[] }:Act).tmps.size=19:=by rw [hnt]; simp
 have e0:({ tmps:=(#[i8 (.d0 true t) cs,i8 t ds]:Array Value)++Array.replicate (fn.ntmps - #[i8 (.d0 true t) cs,i8 t ds].size) undef,defers:=[] }:Act).eval (.tmp 0)=i8 (.d0 true t) cs:=c0O
 have e1:({ tmps:=(#[i8 (.d0 true t) cs,i8 t ds]:Array Value)++Array.replicate (fn.ntmps - #[i8 (.d0 true t) cs,i8 t ds].size) undef,defers:=[] }:Act).eval (.tmp 1)=i8 t ds:=b8g
 have edf:({ tmps:=(#[i8 (.d0 true t) cs,i8 t ds]:Array Value)++Array.replicate (fn.ntmps - #[i8 (.d0 true t) cs,i8 t ds].size) undef,defers:=[] }:Act).defers=[]:=rfl
 generalize ({ tmps:=(#[i8 (.d0 true t) cs,i8 t ds]:Array Value)++Array.replicate (fn.ntmps - #[i8 (.d0 true t) cs,i8 t ds].size) undef,defers:=[] }:Act)=a0 at *
 refine At.step (fun _ _=>step_seq) (At.region (wp_region_list ?_))
 have hcells:(i8 t ds).cells=ds.toArray:=hx.cells
 have hrun:(execOp a0.eval (H7 (e 3) (some 3) (.box T (.tmp 1)))).run P w=.ok (.value (.pointer (some ⟨w.heap.size,0,none⟩))) (x7 w (.cells ds.toArray T)):=by
  simp [execOp,H7,Instr.box,e1,newVar,newRow,newObj,Sem.run,x7,hcells]
 refine M5 rfl hrun ⟨rfl,?_⟩
 have hp1:x8 [] w (x7 w (.cells ds.toArray T)):=x8.push _
 have hnew:(x7 w (.cells ds.toArray T)).heap[w.heap.size]?=some (.cells ds.toArray T):=by show (w.heap.push (.cells ds.toArray T))[w.heap.size]?=_; exact Array.getElem?_push_size
 have hx1:f8 (x7 w (.cells ds.toArray T)).heap S0 t [] ds x:=hx.o8 (fun c hc=>hp1.frame c (hc.elim (fun h=>by cases h) (hS0 c)) (by simp)) (fun _ h=>h)
 have k3:(a0.put (some 3) (.pointer (some ⟨w.heap.size,0,none⟩))).eval (.tmp 3)=.pointer (some ⟨w.heap.size,0,none⟩):=by rw [s5 (by omega),if_pos rfl]
 refine a7B (X:=fun a w'=>a.eval (.tmp 3)=.pointer (some ⟨w.heap.size,0,none⟩)∧w'.heap[w.heap.size]?=some (.cells ds.toArray T)∧f8 w'.heap S0 t [] ds x) hS hI hT hres hR hx hS0 hnd hL hp1 (by show (a0.put (some 3) _).tmps.size=19; rw [w7,hsz]) edf ?_ (fun b hbL=>⟨fun a w' h o ho=>?_,fun a w' d v h h1 h3 hd=>⟨by rw [s5 hd,if_neg (fun h=>h3 h.symm)]; exact h.1,h.2⟩,fun a w' w2 h hc=>⟨h.1,by rw [hc _ (by have:=(hL b hbL).2; omega)]; exact h.2.1,h.2.2.o8 (fun c hcc=>hc c (by rintro rfl; exact hcc.elim (fun h=>by cases h) (hL c hbL).1)) (fun _ h=>h)⟩⟩) ⟨k3,hnew,hx1⟩ (fun a' h=>⟨?_,hnew,hx1⟩)
 ·show (a0.put (some 3) _).eval (.tmp 0)=_
  rw [s5 (by omega),if_neg (by decide),e0]
 ·have hcl:d9 w'.heap w.heap.size 0 t.size=ds:=by
   simp only [d9,q8,h.2.1]
   rw [List.drop_zero,← hx.length]
   simp
  have hR9:f8 w'.heap S0 t [] (d9 w'.heap w.heap.size 0 t.size) x:=by rw [hcl]; exact h.2.2
  have:=Y7 (w:=w') hT hR9
  rw [hcl] at this
  simp [execOp,ho,h.1,Instr.loadAt,Instr.sureAddr,this]
 ·rw [h 3 (by decide) (by decide)]
  exact k3

end
end Go.Ex

namespace Go.Ex

def a5S (P:Program):List (FuncId×w8)→Prop
 | []=>True
 | (f,c)::l=>c.Valid P f∧a5S P l

theorem a5S.look {P:Program}:∀ {l:List (FuncId×w8)} {f:FuncId} {c:w8},a5S P l→Ex.look f l=some c→c.Valid P f
 | [],_,_,_,h=>by cases h
 | (g,d)::l,f,c,h,hl=>by
  simp only [Ex.look] at hl
  cases hb:Nat.beq f g with
  | true =>
   rw [hb] at hl
   have:=Nat.eq_of_beq_eq_true hb
   subst this; cases hl; exact h.1
  | false=>rw [hb] at hl; exact a5S.look h.2 hl

theorem b3Z {P:Program}:∀ {l:List (TypeId×TI)} {T:TypeId} {i:TI},l.all (a4c P)=true→Ex.look T l=some i→a4c P (T,i)=true
 | [],_,_,_,h=>by cases h
 | (g,d)::l,T,i,h,hl=>by
  simp only [List.all_cons,Bool.and_eq_true] at h
  simp only [Ex.look] at hl
  cases hb:Nat.beq T g with
  | true =>
   rw [hb] at hl
   have:=Nat.eq_of_beq_eq_true hb
   subst this; cases hl; exact h.1
  | false=>rw [hb] at hl; exact b3Z h.2 hl

def a35 (P:Program) (F7:List (FuncId×w8)):List (FuncId×List (Option Nat))→Prop
 | []=>True
 | (f,pat)::l=>(∀ c,Ex.look f F7=some c→c.Kept P f pat)∧a35 P F7 l

theorem a35.look {P:Program} {F7:List (FuncId×w8)}:∀ {l:List (FuncId×List (Option Nat))} {f:FuncId} {pat:List (Option Nat)},a35 P F7 l→Ex.look f l=some pat→∀ c,Ex.look f F7=some c→c.Kept P f pat
 | [],_,_,_,h=>by cases h
 | (g,d)::l,f,pat,h,hl=>by
  simp only [Ex.look] at hl
  cases hb:Nat.beq f g with
  | true =>
   rw [hb] at hl
   have:=Nat.eq_of_beq_eq_true hb
   subst this; cases hl; exact h.1
  | false=>rw [hb] at hl; exact a35.look h.2 hl

theorem G8 {E:Env} (ht:E.tt.all (a4c E.P)=true) (hc:a5S E.P E.F7) (hk:a35 E.P E.F7 E.keeps:=by trivial):D7 E :=
 ⟨fun _ _ h=>b3Z ht h,fun _ _ h=>hc.look h,fun _ c _ h1 h2=>hk.look h2 c h1⟩

theorem l4 {rs:List Ty} {L:Code→List Item→St→Prop} {R:DL rs→Prop} {t t':Tree rs} (h:t=t') (h':t'.holds L R):t.holds L R:=h▸h'

theorem Reach.J8 {E:Env} (hE:D7 E) {fn:Func} (hf:H9 E fn) {y:DL E.rs} {z:DL (y9 E.ps)} {c:Code} {k:List Item} {α:Type} (mk:α→St) (I:α→Prop) (μ:α→Nat) (n:Nat) (hu:∀ x,uniq (mk x).fr∧uniq (mk x).hp)
  (h:∀ x,I x→(mk x).C0→(∀ x',I x'→μ x'<μ x→Reach E fn y z (.code c::.inLoop c::k) (mk x')) →
   (exec E n (.code c::.inLoop c::k) (mk x)).holds (fun c' k' s'=>Reach E fn y z (.code c'::.inLoop c'::k') s') (·=DL.app y z)) :
  ∀ x,I x→Reach E fn y z (.code c::.inLoop c::k) (mk x):=by
 have key:∀ m x,μ x=m→I x→Reach E fn y z (.code c::.inLoop c::k) (mk x):=by
  intro m
  induction m using Nat.strongRecOn with
  | _ m ih =>
   intro x hm hI w0 S0 vs x0 L gv S ι a w hS0 hK hrs
   have hx:=h x hI (hrs.C0 (hu x).1 (hu x).2) (fun x' h1 h2=>ih (μ x') (hm▸h2) x' rfl h1)
   exact p8 hE hf hx w0 S0 vs x0 L gv S ι a w hS0 hK hrs
 exact fun x hI=>key (μ x) x rfl hI

def d8 (P:Program) (f:Nat):Code:=((P.funcs[f]?).bind (·.body)).getD .skip

end Go.Ex

namespace Go.Ex
open Go.ChangeShapes Go.WideShapes Go.ChangeAt Go.RowKit

section
variable {P:Program} {X:Type} {enc:TypeId×Value→X} {W:World} {sp:Nat→Bool} {held:Bool}

/-! how many values and letters: of a reading, of what is read -/
def S6 {α:Type _} (f:α→Nat):List α→Nat
 | []=>0
 | x::l=>f x+S6 f l
def Ty.flat:Ty→Bool
 | .int _|.bool|.str|.unit=>true
 | .fn _=>false
 | .hole _=>false
 | .s7 _=>false
 | .map _ _ _=>false
 | .box _ _ _=>false
 | .pair a b=>a.flat && b.flat
 | .arr _ t=>t.flat
 | .d0 o t=>!o && t.flat
def Ty.N1:(t:Ty)→t.den→Nat
 | .int _,_=>1
 | .bool,_=>1
 | .str,s=>List.length s+1
 | .unit,_=>0
 | .fn _,_=>0
 | .hole _,_=>0
 | .s7 _,_=>0
 | .map _ _ _,_=>0
 | .box _ _ _,_=>0
 | .pair a b,x=>a.N1 x.1+b.N1 x.2
 | .arr _ t,l=>S6 t.N1 l
 | .d0 _ t,l=>S6 t.N1 l+1
mutual
def H8 {H:Type}:DataW H→Nat
 | .lit (.string bytes)=>bytes.length+1
 | .lit _=>1
 | .nil=>1
 | .ptr d=>H8 d+1
 | .slice elems spare=>P8 elems+P8 spare+1
 | .agg parts=>P8 parts+1
 | .iface _ d=>H8 d+1
 | .map entries=>a0l entries+1
 | .held _=>1
def P8 {H:Type}:List (DataW H)→Nat
 | []=>0
 | d::r=>H8 d+P8 r
def a0l {H:Type}:List (Lit×DataW H)→Nat
 | []=>0
 | x::r=>a4G x+a0l r
def a4G {H:Type}:Lit×DataW H→Nat
 | (.string bytes,d)=>bytes.length+H8 d+1
 | (_,d)=>H8 d+1
end
theorem a1t {H β:Type}:∀ (xs:List (DataW H×β)),P8 (xs.map (·.1))=S6 (fun x=>H8 x.1) xs
 | []=>rfl
 | x::xs=>by simp only [List.map_cons,P8,S6,a1t xs]

theorem a8N {α β:Type} {R:List Nat→List Value→α→Prop} {sz:Nat} {bk:α→Nat} {bw:β→Nat}:∀ {n:Nat} {cs:List Value} {xs:List β},xs.length=n→cs.length=n*sz→(∀ i,i<n→∃ y z,xs[i]?=some z∧R [] ((cs.drop (i*sz)).take sz) y∧bk y≤bw z) →
  ∃ l:List α,l.length=n∧i6 R sz [] cs l∧S6 bk l≤S6 bw xs
 | 0,cs,[],_,h,_=>⟨[],rfl,⟨rfl,by simpa using h⟩,Nat.le_refl _⟩
 | n+1,cs,x::xs,hx,h,hr=>by
  obtain ⟨y,z,hz,hy,hb⟩:=hr 0 (by omega)
  have e:(n+1)*sz=n*sz+sz:=Nat.succ_mul n sz
  obtain ⟨l,h1,h2,h3⟩:=a8N (R:=R) (bk:=bk) (bw:=bw) (n:=n) (cs:=cs.drop sz) (sz:=sz) (xs:=xs) (by simpa using hx) (by simp; omega) (fun i hi=>by
   obtain ⟨y,z,hz,hy,hb⟩:=hr (i+1) (by omega)
   refine ⟨y,z,by simpa using hz,?_,hb⟩
   rw [List.drop_drop]
   rw [show sz+i*sz=(i+1)*sz by rw [Nat.succ_mul]; omega]
   exact hy)
  have hz:x=z:=by simpa using hz
  subst hz
  exact ⟨y::l,by simp [h1],⟨[],[],rfl,by simpa using hy,h2⟩,by simp only [S6]; omega⟩
 | 0,_,_::_,h,_,_=>by simp at h
 | _+1,_,[],h,_,_=>by simp at h

theorem a1s {n:Nat} {T:TypeId} {t:Ty} (h:o4 P n T t=true):P.cellsOf T=t.size:=by
 obtain ⟨i,h1,h2,_⟩:=N7 h
 simp [Program.cellsOf,h1,h2]

theorem a7I:∀ (t:Ty),t.flat=true →
  (∀ {n:Nat} {T:TypeId} {fuel:Nat} {cs:List Value} {x:DataW X×List MemPlace},o4 P n T t=true→DataW.trod enc P W 0 sp held fuel T cs=some x→∃ y:t.den,f8 W.heap (fun b=>b<W.heap.size) t [] cs y∧t.N1 y≤H8 x.1) ∧
  (∀ {n:Nat} {fs:List Field} {off m:Nat} {cs:List Value} {xs:List (DataW X×List MemPlace)},n7 (o4 P n) fs off t=true→xs.length=fs.length→(∀ (i:Nat) (f:Field),fs[i]?=some f→DataW.trod enc P W 0 sp held m f.type ((cs.drop f.offset).take (P.cellsOf f.type))=xs[i]?) →
   ∃ y:t.den,f8 W.heap (fun b=>b<W.heap.size) t [] ((cs.drop off).take t.size) y∧t.N1 y≤S6 (fun x=>H8 x.1) xs):=by
 intro t
 have strct:∀ {t:Ty},(∀ {n:Nat} {fs:List Field} {off m:Nat} {cs:List Value} {xs:List (DataW X×List MemPlace)},n7 (o4 P n) fs off t=true→xs.length=fs.length→(∀ (i:Nat) (f:Field),fs[i]?=some f→DataW.trod enc P W 0 sp held m f.type ((cs.drop f.offset).take (P.cellsOf f.type))=xs[i]?) →
   ∃ y:t.den,f8 W.heap (fun b=>b<W.heap.size) t [] ((cs.drop off).take t.size) y∧t.N1 y≤S6 (fun x=>H8 x.1) xs)→t.agg=true→(∀ n u,t≠.arr n u) →
   ∀ {n:Nat} {T:TypeId} {fuel:Nat} {cs:List Value} {x:DataW X×List MemPlace},o4 P n T t=true→DataW.trod enc P W 0 sp held fuel T cs=some x→∃ y:t.den,f8 W.heap (fun b=>b<W.heap.size) t [] cs y∧t.N1 y≤H8 x.1:=by
  intro t hB hag hna n T fuel cs x hT h
  obtain ⟨fs,k',h1,h2⟩:=a3u hT hag hna
  obtain ⟨xs,m,_,rfl,hl,hlen,hf⟩:=DataW.trod_struct h1 h
  obtain ⟨y,hy,hb⟩:=hB (cs:=cs) (m:=m) (xs:=xs) h2 (by simpa using hlen) (fun i f hf'=>hf i f (by simpa using hf'))
  refine ⟨y,?_,?_⟩
  ·rw [a1s hT] at hl
   rw [List.drop_zero,List.take_of_length_le (by omega)] at hy
   exact hy
  ·simp only [H8,a1t]; omega
 induction t with
 | int k =>
  intro _
  refine ⟨?_,by intro n fs off m cs xs h; cases fs<;>simp [n7] at h⟩
  intro n T fuel cs x hT h
  obtain ⟨z,rfl,rfl,hw⟩:=DataW.trod_int (V8 hT) h
  simp only [Lit.wf,Bool.and_eq_true,decide_eq_true_eq] at hw
  exact ⟨z,⟨rfl,rfl,hw⟩,by simp [Ty.N1,H8]⟩
 | bool =>
  intro _
  refine ⟨?_,by intro n fs off m cs xs h; cases fs<;>simp [n7] at h⟩
  intro n T fuel cs x hT h
  obtain ⟨b,rfl,rfl⟩:=DataW.trod_bool (a0W hT) h
  exact ⟨b,⟨rfl,rfl⟩,by simp [Ty.N1,H8]⟩
 | str =>
  intro _
  refine ⟨?_,by intro n fs off m cs xs h; cases fs<;>simp [n7] at h⟩
  intro n T fuel cs x hT h
  obtain ⟨s,rfl,rfl,hl⟩:=DataW.trod_string (P0 hT) h
  exact ⟨s.data.toList,⟨rfl,rfl,hl⟩,by simp [Ty.N1,H8]⟩
 | unit =>
  intro _
  have hB:∀ {n:Nat} {fs:List Field} {off m:Nat} {cs:List Value} {xs:List (DataW X×List MemPlace)},n7 (o4 P n) fs off .unit=true→xs.length=fs.length→(∀ (i:Nat) (f:Field),fs[i]?=some f→DataW.trod enc P W 0 sp held m f.type ((cs.drop f.offset).take (P.cellsOf f.type))=xs[i]?) →
    ∃ y:(.unit:Ty).den,f8 W.heap (fun b=>b<W.heap.size) .unit [] ((cs.drop off).take (.unit:Ty).size) y∧(.unit:Ty).N1 y≤S6 (fun x=>H8 x.1) xs:=fun _ _ _=>⟨(),⟨rfl,by simp [Ty.size]⟩,by simp [Ty.N1]⟩
  exact ⟨strct hB rfl (by simp),hB⟩
 | fn f=>intro h; cases h
 | hole t _=>intro h; cases h
 | s7 t _=>intro h; cases h
 | map o a b=>intro h; cases h
 | box o g t=>intro h; cases h
 | pair a b iha ihb =>
  intro hflat
  simp only [Ty.flat,Bool.and_eq_true] at hflat
  have hB:∀ {n:Nat} {fs:List Field} {off m:Nat} {cs:List Value} {xs:List (DataW X×List MemPlace)},n7 (o4 P n) fs off (.pair a b)=true→xs.length=fs.length→(∀ (i:Nat) (f:Field),fs[i]?=some f→DataW.trod enc P W 0 sp held m f.type ((cs.drop f.offset).take (P.cellsOf f.type))=xs[i]?) →
    ∃ y:((.pair a b):Ty).den,f8 W.heap (fun b=>b<W.heap.size) (.pair a b) [] ((cs.drop off).take ((.pair a b):Ty).size) y∧((.pair a b):Ty).N1 y≤S6 (fun x=>H8 x.1) xs:=by
   intro n fs off m cs xs hf hlx hx
   cases fs with
   | nil=>simp [n7] at hf
   | cons f fs =>
    cases xs with
    | nil=>simp at hlx
    | cons x xs =>
    simp only [n7,Bool.and_eq_true] at hf
    obtain ⟨⟨⟨⟨h1,_⟩,h3⟩,_⟩,h5⟩:=hf
    have h1:f.offset=off:=Nat.eq_of_beq_eq_true h1
    have hx0:=hx 0 f (by simp)
    rw [h1,a1s h3] at hx0
    obtain ⟨y1,hy1,hb1⟩:=(iha hflat.1).1 h3 (hx0.trans (by simp:_=some x))
    obtain ⟨y2,hy2,hb2⟩:=(ihb hflat.2).2 (cs:=cs) (m:=m) (xs:=xs) h5 (by simpa using hlx) (fun i f hf=>by simpa using hx (i+1) f (by simpa using hf))
    refine ⟨(y1,y2),⟨[],[],rfl,?_,?_⟩,?_⟩
    ·rw [List.take_take,Nat.min_eq_left (by simp [Ty.size])]; exact hy1
    ·rw [← List.drop_drop] at hy2
     rw [List.drop_take,show (Ty.pair a b).size - a.size=b.size by simp [Ty.size]]; exact hy2
    ·simp only [Ty.N1,S6]; omega
  exact ⟨strct hB rfl (by simp),hB⟩
 | arr n t ih =>
  intro hflat
  refine ⟨?_,by intro n fs off m cs xs h; cases fs<;>simp [n7] at h⟩
  intro k T fuel cs x hT h
  obtain ⟨e,k',h1,h2,h3⟩:=T6 hT
  obtain ⟨xs,m,_,rfl,hl,hlen,hf⟩:=DataW.trod_array h1 h
  rw [a1s hT] at hl
  have hs:(Ty.arr n t).size=n*t.size:=rfl
  rw [hs] at hl
  obtain ⟨l,g1,g2,g3⟩:=a8N (R:=f8 W.heap (fun b=>b<W.heap.size) t) (bk:=t.N1) (bw:=fun x:DataW X×List MemPlace=>H8 x.1) hlen hl (fun i hi=>by
   have:=hf i hi
   rw [a1s h3] at this
   have e:=List.getElem?_eq_getElem (l:=xs) (i:=i) (by omega)
   obtain ⟨y,hy,hb⟩:=(ih hflat).1 h3 (this.trans e)
   exact ⟨y,_,e,hy,hb⟩)
  exact ⟨l,⟨g1,g2⟩,by simp only [Ty.N1,H8,a1t]; omega⟩
 | d0 o t ih =>
  intro hflat
  simp only [Ty.flat,Bool.and_eq_true,Bool.not_eq_true'] at hflat
  obtain ⟨rfl,hsh⟩:=hflat
  refine ⟨?_,by intro n fs off m cs xs h; cases fs<;>simp [n7] at h⟩
  intro k T fuel cs x hT h
  obtain ⟨e,k',h1,h2,h3⟩:=C1 hT
  have hsz:=a1s h3
  rcases DataW.trod_slice h1 h with ⟨rfl,rfl⟩|⟨a,len,cap,elems,rest,n,_,rfl,rfl,_,hlc,hcm,hel,hf,_,_⟩
  ·exact ⟨([]:List t.den),.inl ⟨rfl,⟨none,0,rfl,by simp⟩,rfl⟩,by simp [Ty.N1,H8,S6]⟩
  ·rw [hsz] at hf
   by_cases h0:len=0
   ·subst h0
    exact ⟨([]:List t.den),.inl ⟨rfl,⟨some a,cap,rfl,by simp⟩,rfl⟩,by simp [Ty.N1,H8,S6]⟩
   ·have hcell:∀ i,i<len→∃ ci y z,W.cells? 0 (a.add (i*t.size)) t.size=some ci∧f8 W.heap (fun b=>b<W.heap.size) t [] ci y∧elems[i]?=some z∧t.N1 y≤H8 z.1:=by
     intro i hi
     have:=hf i hi
     have e:=List.getElem?_eq_getElem (l:=elems) (i:=i) (by omega)
     rw [e] at this
     obtain ⟨ci,k1,k2⟩:=Option.bind_eq_some_iff.1 this
     obtain ⟨y,hy,hb⟩:=(ih hsh).1 h3 k2
     exact ⟨ci,y,_,k1,hy,e,hb⟩
    obtain ⟨c0,_,_,k1,_⟩:=hcell 0 (by omega)
    obtain ⟨_,l0,g0⟩:=World.cells?_some k1
    obtain ⟨b,off,spot⟩:=a
    have hone:=g0 0 (by omega)
    have hsome:∃ v,W.cell? (Addr.mk b off spot)=some v:=by
     have:c0[0]?=some c0[0]:=List.getElem?_eq_getElem (by omega)
     rw [this,Nat.zero_mul] at hone
     exact ⟨_,hone⟩
    obtain ⟨v0,hv0⟩:=hsome
    obtain ⟨arr,T0,fz,hh,hspot⟩:∃ arr T0 fz,W.heap[b]?=some (.cells arr T0 fz)∧spot=none:=by
     unfold World.cell? at hv0
     split at hv0
     ·rename_i c T0 fz hh
      split at hv0
      ·cases hv0
      ·rename_i hs
       exact ⟨c,T0,fz,hh,by simpa using hs⟩
     ·cases hv0
    subst hspot
    have hblk:q8 W.heap b=arr.toList:=by simp only [q8,hh]
    have hci:∀ i ci,i<len→W.cells? 0 ((Addr.mk b off none).add (i*t.size)) t.size=some ci→off+i*t.size+t.size≤(q8 W.heap b).length∧ci=d9 W.heap b (off+i*t.size) t.size:=by
     intro i ci hi hc
     obtain ⟨_,l1,g1⟩:=World.cells?_some hc
     have hj:∀ j,j<t.size→(q8 W.heap b)[off+i*t.size+j]?=ci[j]?:=by
      intro j hj
      have:=g1 j hj
      rw [Addr.E4,Addr.E4] at this
      simp only [World.cell?,hh] at this
      rw [hblk,← this]; simp
     have hle:off+i*t.size+t.size≤(q8 W.heap b).length:=by
      have:=hj (t.size - 1) (by omega)
      rw [List.getElem?_eq_getElem (by omega:t.size - 1<ci.length)] at this
      have:=(List.getElem?_eq_some_iff.1 this).1
      omega
     refine ⟨hle,List.ext_getElem? (fun j=>?_)⟩
     by_cases hjt:j<t.size
     ·rw [← hj j hjt]
      simp only [d9,List.getElem?_take,if_pos hjt,List.getElem?_drop]
     ·rw [List.getElem?_eq_none (by omega),List.getElem?_eq_none (by rw [a1L _ _ _ hle]; omega)]
    have hlen:off+len*t.size≤(q8 W.heap b).length:=by
     obtain ⟨ci,y,_,q1,_⟩:=hcell (len - 1) (by omega)
     have:=(hci (len - 1) ci (by omega) q1).1
     have e:len*t.size=(len - 1)*t.size+t.size:=by
      rw [← Nat.succ_mul]; congr 1; omega
     omega
    obtain ⟨l,q1,q2,q3⟩:=a8N (R:=f8 W.heap (fun b=>b<W.heap.size) t) (bk:=t.N1) (bw:=fun x:DataW X×List MemPlace=>H8 x.1) (n:=len) (sz:=t.size) (cs:=d9 W.heap b off (len*t.size)) hel (a1L _ _ _ hlen) (fun i hi=>by
     obtain ⟨ci,y,z,r1,r2,r3,r4⟩:=hcell i hi
     have hle:i*t.size+t.size≤len*t.size:=by rw [← Nat.succ_mul]; exact Nat.mul_le_mul_right _ hi
     rw [l8,l7 _ _ _ _ (by omega),← (hci i ci hi r1).2]
     exact ⟨y,z,r3,r2,r4⟩)
    have hblt:b<W.heap.size:=(Array.getElem?_eq_some_iff.1 hh).1
    subst q1
    exact ⟨l,.inr ⟨b,off,cap,[],rfl,hlc,⟨hcm,by simp⟩,hlen,q2,rfl,rfl,hblt⟩,by simp only [Ty.N1,H8,a1t]; omega⟩

end
end Go.Ex

namespace Go.Ex
open Go.ChangeShapes Go.WideShapes Go.ChangeAt Go.RowKit

section
variable {P:Program} {X:Type} {enc:TypeId×Value→X} {W W':World} {sp:Nat→Bool} {held:Bool}

theorem b3C {k:Nat} {T:TypeId} {t:Ty} (hT:o4 P k T t=true) {r:Go.Reach} {base:Nat} {v:Value} (h:Value.okWide P W r base T v):v=i8 t v.cells.toList:=by
 obtain ⟨d,hd,hag⟩:=L5 hT
 unfold Value.okWide at h
 rw [hd] at h
 cases t with
 | int q =>
  have hu:=V8 hT
  rw [hd] at hu; cases hu
  simp only [Cell.okWide,hd,Cell.ok] at h
  cases v<;>simp_all [i8,Ty.agg,Value.cells]
 | bool =>
  have hu:=a0W hT
  rw [hd] at hu; cases hu
  simp only [Cell.okWide,hd,Cell.ok] at h
  cases v<;>simp_all [i8,Ty.agg,Value.cells]
 | str =>
  have hu:=P0 hT
  rw [hd] at hu; cases hu
  simp only [Cell.okWide,hd,Cell.ok] at h
  cases v<;>simp_all [i8,Ty.agg,Value.cells]
 | fn f =>
  obtain ⟨_,_,_,hu⟩:=b3Y hT
  rw [hd] at hu; cases hu
  simp only [Cell.okWide,hd,Cell.ok] at h
  cases v<;>simp_all [i8,Ty.agg,Value.cells]
 | map o a b =>
  obtain ⟨_,_,_,hu,_⟩:=a6L hT
  rw [hd] at hu; cases hu
  simp only [Cell.okWide,hd,Cell.ok] at h
  cases v<;>simp_all [i8,Ty.agg,Value.cells]
 | box o g a =>
  cases g with
  | none =>
   obtain ⟨_,_,hu,_⟩:=b1d hT
   rw [hd] at hu; cases hu
   simp only [Cell.okWide,hd,Cell.ok] at h
   cases v<;>simp_all [i8,Ty.agg,Value.cells]
  | some f =>
   obtain ⟨_,_,_,hu⟩:=a9w hT
   rw [hd] at hu; cases hu
   simp only [Cell.okWide,hd,Cell.ok] at h
   cases v<;>simp_all [i8,Ty.agg,Value.cells]
 | d0 o u =>
  obtain ⟨e,_,hu,_⟩:=C1 hT
  rw [hd] at hu; cases hu
  simp only [Cell.okWide,hd,Cell.ok] at h
  cases v<;>simp_all [i8,Ty.agg,Value.cells]
 | hole u =>
  obtain ⟨e,hu⟩:=a9v hT
  rw [hd] at hu; cases hu
  simp only [Cell.okWide,hd,Cell.ok] at h
  cases v<;>simp_all [i8,Ty.agg,Value.cells]
 | s7 u =>
  obtain ⟨e,hu⟩:=b1c hT
  rw [hd] at hu; cases hu
  simp only [Cell.okWide,hd,Cell.ok] at h
  cases v<;>simp_all [i8,Ty.agg,Value.cells]
 | _ =>
  cases d<;>first|(exact (Bool.false_ne_true hag.symm).elim)|skip
  all_goals
   obtain ⟨cs,rfl,_⟩:=h
   simp [i8,Ty.agg,Value.cells]

def a4b (P:Program):List TypeId→List Ty→Bool
 | [],[]=>true
 | T::ts,t::us=>o4 P 100 T t && t.flat && P.readableRec T && decide (T<P.types.size) && a4b P ts us
 | _,_=>false

def a8m:(us:List Ty)→DK (us.map .v)→Nat
 | [],_=>0
 | t::us,x=>t.N1 x.1+a8m us x.2

theorem a72:∀ {ts:List TypeId} {us:List Ty},a4b P ts us=true→∀ {vs:List Value} {ds:List (DataW X)} {ps:List MemPlace} {base:Nat} {r:Go.Reach},DataW.TrodAll enc P W 0 sp held ts vs ds ps →
  (∀ (j:Nat) T v,ts[j]?=some T→vs[j]?=some v→Value.okWide P W r base T v)→∃ x:DK (us.map .v),K9 W.heap (fun b=>b<W.heap.size) (us.map .v) vs x []∧ds.length=ts.length∧a8m us x≤P8 ds
 | [],[],_,vs,ds,ps,base,r,h,_=>by
  obtain ⟨rfl,rfl,rfl⟩:=trodAll_nil h
  exact ⟨(),⟨rfl,rfl⟩,rfl,Nat.le_refl _⟩
 | [],_::_,h,_,_,_,_,_,_,_=>by cases h
 | _::_,[],h,_,_,_,_,_,_,_=>by cases h
 | T::ts,t::us,hty,vs,ds,ps,base,r,h,hok=>by
  simp only [a4b,Bool.and_eq_true] at hty
  obtain ⟨⟨⟨⟨h1,h2⟩,_⟩,_⟩,h5⟩:=hty
  obtain ⟨v,vs',d,ds',p,q,rfl,rfl,rfl,⟨fuel,hv⟩,hr⟩:=trodAll_cons h
  obtain ⟨y,hy,hb⟩:=(a7I t h2).1 h1 hv
  obtain ⟨x,hx,hl,hb2⟩:=a72 h5 hr (fun j T v hT hv=>hok (j+1) T v (by simpa using hT) (by simpa using hv))
  exact ⟨(y,x),⟨v,vs',[],[],rfl,rfl,⟨rfl,_,b3C h1 (hok 0 T v rfl rfl),hy⟩,hx⟩,by simp [hl],by simp only [a8m,P8]; exact Nat.add_le_add hb hb2⟩

theorem a4R (hl:laidOutB P=true) (hb:Below W.heap.size W W'):∀ {ts:List TypeId} {us:List Ty},a4b P ts us=true→∀ {vs:List Value} {ds:List (DataW X)} {ps:List MemPlace},DataW.TrodAll enc P W 0 (fun _=>true) true ts vs ds ps →
  (∀ p∈ps,p.block<W.heap.size)→(∀ p∈ps,sp p.block=true)→DataW.TrodAll enc P W' 0 sp true ts vs ds ps
 | [],[],_,vs,ds,ps,h,_,_=>by
  obtain ⟨rfl,rfl,rfl⟩:=trodAll_nil h
  rfl
 | [],_::_,h,_,_,_,_,_,_=>by cases h
 | _::_,[],h,_,_,_,_,_,_=>by cases h
 | T::ts,t::us,hty,vs,ds,ps,h,hlt,hsp=>by
  simp only [a4b,Bool.and_eq_true] at hty
  obtain ⟨⟨⟨⟨_,_⟩,h3⟩,h4⟩,h5⟩:=hty
  obtain ⟨v,vs',d,ds',p,q,rfl,rfl,rfl,hv,hr⟩:=trodAll_cons h
  refine trodAll_cons_mk (WideElems.Trod_stays hl h3 (of_decide_eq_true h4) hv (fun x hx=>hb.same (hlt x (by simp [hx]))) (fun x hx=>hsp x (by simp [hx]))) ?_
  exact a4R hl hb h5 hr (fun x hx=>hlt x (by simp [hx])) (fun x hx=>hsp x (by simp [hx]))

def b5y (us:List Ty) (pre:DK (us.map .v)→Prop):w8:={ ps:=us.map .v,rs:=[.bool],pre:=pre,fn:=fun _=>(true,()),out:=fun _=>b5q us }
where b5q:(us:List Ty)→DL (y9 (us.map .v))
 | []=>()
 | _::us=>b5q us

theorem b4n:∀ us:List Ty,(us.map PK.v).any PK.lnk=false
 | []=>rfl
 | _::us=>b4n us

theorem b7i {C:Checked} {f:FuncId} {fn:Func} {s:ChangeSpec} {apart fresh handsOn again:Bool} {us:List Ty} {tb:TypeId} {pre:DK (us.map .v)→Prop}
  (hl:laidOutB C.prog=true) (hty:a4b C.prog fn.params.toList us=true) (hvars:s.vars=[]) (hs:∀ ds:List (DataW X),ds.length=fn.params.toList.length→s.fn X ds={ results:=[.lit (.bool true)],args:=ds })
  (hres:fn.resultTypes=#[tb]) (htb:C.prog.underlying tb=some .bool) (hv:(b5y us pre).Valid C.prog f)
  {W:World} (hgl:Z4 C.prog W (fun b=>b<W.heap.size)) {base:Nat} {args:Array Value} {ds gs:List (DataW X)} {before:List MemPlace} {rr:Go.Reach} (hpre:∀ x,a8m us x≤P8 ds→pre x)
  (hval:∀ (j:Nat) t v,fn.params[j]?=some t→args[j]?=some v→Value.okWide C.prog W rr base t v) (hW:DataW.Whole enc C.prog fn.params.toList s.vars apart W args.toList ds gs before) :
  Calls C.prog f args W fun e W'=>∃ v,e=.returned v∧s.post enc C.prog fn apart fresh handsOn again W args v W':=by
 have hlt:=DataW.Whole.lt hW
 have hW':=hW
 obtain ⟨p,q,hA,hV,rfl,hz,hn⟩:=hW
 rw [hvars] at hV
 obtain ⟨rfl,rfl⟩:=trodVars_none hV
 simp only [List.append_nil] at hlt hz hn hW'
 obtain ⟨x,hx,hlen,hbk⟩:=a72 hty hA (fun j T v hT hv=>hval j T v (by simpa using hT) (by simpa using hv))
 have hc:=hv.run W (fun b=>b<W.heap.size) args.toList x [] (fun _ h=>h) hgl (hpre x hbk) hx (a0v (b4n us)) List.nodup_nil (by simp)
 refine Calls.mono (by simpa using hc) ?_
 rintro e w' ⟨us',O,Lo,S',rfl,hpast,_,_,⟨v,us2,O1,O2,cs,rfl,rfl,rfl,hR,hR2⟩,_,_,_⟩
 have hb:RowKit.Below W.heap.size W w':=⟨hpast.os,hpast.tape.1,hpast.out,hpast.size,fun k hk=>hpast.frame k hk (by simp)⟩
 obtain ⟨rfl,rfl⟩:=hR2
 obtain ⟨_,rfl⟩:=hR
 have hret:a2H [i8 .bool [.bool ((b5y us pre).fn x).1]]=.bool true:=rfl
 rw [hret]
 have hfn':=hs ds hlen
 have hargs:∀ sp:Nat→Bool,(∀ x∈p,sp x.block=true)→DataW.TrodAll enc C.prog w' 0 sp true fn.params.toList args.toList ds p:=fun sp hsp=>a4R hl hb hty hA hlt hsp
 have hrs:∀ (b:Nat) (sp:Nat→Bool) (hd:Bool),DataW.TrodAll enc C.prog w' b sp hd fn.resultTypes.toList ((Value.bool true).resultList fn.resultTypes.size) [.lit (.bool true)] []:=by
  intro b sp hd
  rw [hres]
  exact trodAll_cons_mk (shut_bool htb _) trodAll_mk0
 have hvs:∀ sp:Nat→Bool,DataW.TrodVars enc C.prog w' sp s.vars [] []:=by intro sp; rw [hvars]; rfl
 have hold:∀ x∈p,(fun b=>decide (b<W.heap.size)) x.block=true:=fun x hx=>by simpa using hlt x hx
 refine ⟨_,rfl,ds,[],p,[],p,[],hW',?_,?_,?_,?_,?_⟩
 ·rw [List.append_nil,hfn']; exact hrs _ _ _
 ·rw [List.append_nil,hfn']; exact hargs _ hold
 ·rw [List.append_nil,hfn']; exact hvs _
 ·exact hb.frame _
 ·intro _
  refine ⟨ok_one hres rfl (okWide_bool_mk htb _),.lit (.bool true)::ds,[],p,⟨[]++p,[],trodAll_append (hargs _ (fun _ _=>rfl)) (hrs _ _ _),hvs _,by simp,?_,?_⟩,fun x hx _=>by simpa using hx⟩
  ·intro b off hp
   rw [hb.frozen (hlt _ hp)]
   exact hz b off hp
  ·exact hn

def b61 (us:List Ty):w8:=b5y us (fun x=>a8m us x≤1048576)
theorem b8F {C:Checked} {os:Os} {f:FuncId} {fn:Func} {s:OpenSpec} {k:(H:Type)→List (DataW H)→Bool} (hk:s.cond=some k) {F:Stop.Interp} {conds:List PathCond} {apart fresh handsOn again:Bool} {us:List Ty} {tb:TypeId} {a:Assume}
  (own:ownKnob C.prog.godebug=none) (started:os.Started) (noInit:C.prog.inits.idxOf? f=none) (hfn:C.prog.funcs[f]?=some fn)
  (witness:∃ (w:World) (tape:Tape) (i:Input),w.os=os∧(w.forCall tape i).Shaped C.prog∧i.vars=[]∧Input.okWide C.prog (w.forCall tape i) .any w.heap.size f i ∧
   s.pre6 enc C.prog fn conds apart (w.forCall tape i).memory i.args∧a.holds C.prog (lone (Frame.enter C.prog f i.args .normal) [] (w.forCall tape i)))
  (hkb:∀ ds:List (DataW X),k X ds=true→P8 ds≤1048576)
  (hl:laidOutB C.prog=true) (hty:a4b C.prog fn.params.toList us=true) (hvars:s.vars=[]) (hs:∀ ds:List (DataW X),ds.length=fn.params.toList.length→s.fn F X ds={ results:=[.lit (.bool true)],args:=ds })
  (hres:fn.resultTypes=#[tb]) (htb:C.prog.underlying tb=some .bool) (hv:(b61 us).Valid C.prog f) (hno:(b1O.all fun x=>(C.prog.globalNamed x.1).isNone)=true:=by kernel_rfl) :
  ReturnsInHanded a C os f .any (s.pre6 enc C.prog fn conds apart) ((s.at F).post enc C.prog fn apart fresh handsOn again):=by
 refine returnsInHanded_of_cond hk own started noInit hfn witness ?_
 intro W base args ds gs before hval hW _ hkk _
 have hg:gs=[]:=by
  obtain ⟨p,q,hA,hV,_⟩:=hW
  rw [hvars] at hV
  exact (trodVars_none hV).1
 subst hg
 rw [List.append_nil] at hkk
 exact b7i (s:=s.at F) hl hty hvars hs hres htb hv (Z4.none hno) (fun x hx=>Nat.le_trans hx (hkb ds hkk)) hval hW
end
end Go.Ex
